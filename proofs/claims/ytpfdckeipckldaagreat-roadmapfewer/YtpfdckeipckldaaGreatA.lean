import Derived.Below
import Derived.Deep.Quiet
import Derived.StillTail
import Derived.Tactics
import Derived.OrdersIn
import Derived.TacticsIn
import Derived.Laws.Tables
import Derived.Laws.OwnMore
import Derived.Laws.MakeOwn
import Derived.Laws.Append
import Derived.Laws.IdiomCopy
import Derived.Great.BuildSlice
import Derived.Deep.MidRow
import Derived.LoopN
import Derived.ChangeKeysEq
import Derived.Lib.SliceRun
import Derived.Laws.BytesString
import Derived.Laws.Shifts
import Derived.Laws.Cells
import Derived.Laws.StructEq
import Derived.Laws.Small
import Derived.ArgAppend
import Derived.RangeFuncLeaves
import Derived.RangeFuncSeq
set_option maxHeartbeats 8000000
set_option linter.all false
namespace Go
section
variable {P:Program} {ops:Array Oper} {md:Region.Mode} {C:World->Prop}
def iU (P:Program) (md:Region.Mode) (ops:Array Oper) (C:World->Prop) (n:Nat) (L:Array Bool->Act->Prop):Nat->Array Bool->Act->Prop
 |0,listed,a=>L listed a
 |f+1,listed,a =>
  Region.ready md ops listed≠[]/\∀i∈Region.ready md ops listed,i < n/\qOp P ops C i (iU P md ops C n L f (listed.setIfInBounds i true)) a
theorem gq {n g:Nat} {L:Array Bool->Act->Prop} {Q':Exit->Act->World->Prop} (hL:∀listed a w,C w->L listed a->wpAny P md ops Q' g listed a w) :
  ∀(f:Nat) (listed:Array Bool) (a:Act) (w:World),C w->iU P md ops C n L f listed a->wpAny P md ops Q' (f+g) listed a w
 |0,listed,a,w,hC,h=>by rw [Nat.zero_add];exact hL _ _ _ hC h
 |f+1,listed,a,w,hC,h=>by
  rw [show f+1+g=(f+g)+1 by omega];exact⟨λh0=>absurd h0 h.1,λi hi=>wpOp_of_qOp hC (λa' w' hC' h'=>gq hL f _ a' w' hC' h') (h.2 i hi).2⟩
theorem mv {n i:Nat} {oi:Oper} {v:Value} {L:Array Bool->Act->Prop} (hi:ops[i]? = some oi) (hsel:∀(j:Nat) (o:Oper) cs b,ops[j]? = some o->o.op≠.select cs b)
  (hs:Region.sinkB md ops n=true) (hc:Region.chainB md ops n=true) (hn:n < ops.size) (hin:i < n)
  (hdone:∀listed a,L listed a->∀j∈Region.ready md ops listed,n<=j) :
  ∀(f:Nat) (listed:Array Bool) (a:Act),HeadInv md ops n listed ->
   (∀j oj,ops[j]? = some oj->j≠i->listed.getD j true=false->(∀e∈oj.after,Region.binds md e=true->e.on≠i)->oi.apart ops oj=true) ->
   i∈Region.ready md ops listed->YieldsIn P ops C oi v a ->
   iU P md ops C n L f (listed.setIfInBounds i true) (a.put oi.dst v)->iU P md ops C n L (f+1) listed a:=by
 intro f
 induction f with
 |zero =>
  intro listed a inv _ hr hy H;have hun:=(mem_ready.1 hr).1;refine⟨λh=>(by rw [h] at hr;cases hr),λj hj=>?_⟩;have hjn:j < n:=by
   rcases Nat.lt_or_ge j n with h|h
   ·exact h
   ·exact absurd hj (tail_waits hs hc hn inv _ i rfl hin hun j h)
  refine⟨hjn,?_⟩;by_cases hji:j=i
  ·subst hji;exact hy.qOp hi H
  ·have:=hdone _ _ H j (ready_mono hj hji);omega
 |succ f ih =>
  intro listed a inv hfree hr hy H;have hun:=(mem_ready.1 hr).1;refine⟨λh=>(by rw [h] at hr;cases hr),λj hj=>?_⟩;have hjn:j < n:=by
   rcases Nat.lt_or_ge j n with h|h
   ·exact h
   ·exact absurd hj (tail_waits hs hc hn inv _ i rfl hin hun j h)
  refine⟨hjn,?_⟩;by_cases hji:j=i
  ·subst hji;exact hy.qOp hi H
  ·have h1:=(H.2 j (ready_mono hj hji)).2;obtain⟨hjun,oj,hoj,hall⟩:=mem_ready.1 hj;have hnot:∀e∈oj.after,Region.binds md e=true->e.on≠i:=λe he hb heq=>by
    have h1:=hall e he hb;rw [heq,getD_both hun] at h1;cases h1
   have h2:=qOp_put hoj (hfree j oj hoj hji hjun hnot) (λcs b=>hsel i oi cs b hi) (λcs b=>hsel j oj cs b hoj) hy h1;have hfree':∀k ok,ops[k]? = some ok->k≠i->(listed.setIfInBounds j true).getD k true=false ->
     (∀e∈ok.after,Region.binds md e=true->e.on≠i)->oi.apart ops ok=true:=λk ok hk hki hun hno=>by
    refine hfree k ok hk hki ?_ hno;by_cases hjk:j=k
    ·subst hjk;exact hjun
    ·rw [getD_set_ne true hjk] at hun;exact hun
   refine qOp_mono (λa' h3=>ih (listed.setIfInBounds j true) a' (inv.set hj hjn) hfree' (ready_mono hr (Ne.symm hji)) h3.1 ?_) h2;rw [Array.setIfInBounds_comm _ _ hji];exact h3.2
theorem ki {n g:Nat} {Lq:Act->Prop} (hsel:Region.noSelect ops=true) (hs:Region.sinkB md ops n=true) (hc:Region.chainB md ops n=true) (hn:n < ops.size) :
  ∀(l:List Oper) (k:Nat) (listed:Array Bool) (a:Act),(∀j,j < l.length->l[j]? = ops[k+j]?)->k+l.length=n->HeadInv md ops n listed ->
  Region.lexHead md ops g l.length k listed=true->wpQuiet P ops C Lq l a ->
  iU P md ops C n (λlisted' a'=>Region.seqB md ops g n listed'=true/\Lq a') l.length listed a
 |[],k,listed,a,_,hk,_,hB,h=>by
  have:k=n:=by simpa using hk
  subst this;exact⟨by simpa [Region.lexHead] using hB,h⟩
 |o::l,k,listed,a,hl,hk,inv,hB,h=>by
  have h0:ops[k]? = some o:=by simpa using (hl 0 (by simp)).symm
  simp only [List.length_cons,Region.lexHead,Bool.and_eq_true] at hB;obtain⟨⟨hr,hf⟩,hB'⟩:=hB;have hkn:k < n:=by simp only [List.length_cons] at hk;omega
  have hr':k∈Region.ready md ops listed:=by simpa using hr
  have hst:qOp P ops C k (wpQuiet P ops C Lq l) a:=by unfold qOp;simp only [h0];exact h
  obtain⟨v,hy,hK⟩:=yieldsIn_of_qOp h0 hst;exact mv h0 (Region.noSelect_spec hsel) hs hc hn hkn (λlisted' a' hL=>seqB_ready hL.1) l.length listed a inv (Region.free_spec h0 hf) hr' hy
   (ki hsel hs hc hn l (k+1) _ _ (λj hj=>by have:=hl (j+1) (by simp;omega);simpa [Nat.add_assoc,Nat.add_comm 1 j] using this) (by simp only [List.length_cons] at hk;omega) (inv.set hr' hkn) hB' hK)
theorem eo {id:Nat} {Q:Exit->Act->World->Prop} {a:Act} {w:World} {l:List Oper} (n:Nat) (hm:P.follows .mixedOrders=true) (hB:Region.lexTailB .any l.toArray n=true) (hC:C { w with drawn:=w.drawn+1 })
  (h:wpQuiet P l.toArray C (λa'=>∀w',C w'->wpList P l.toArray Q (l.drop n) a' w') (l.take n) a):(Code.region id l.toArray true).wp P Q a w:=by
 simp only [Region.lexTailB,Bool.and_eq_true,decide_eq_true_eq] at hB;obtain⟨⟨⟨⟨hsel,hn⟩,hs⟩,hc⟩,hlex⟩:=hB;have hn':n < l.length:=by simpa using hn
 have htl:(l.take n).length=n:=by simp;omega
 have hdl:(l.drop n).length=l.toArray.size - n:=by simp
 have inv0:HeadInv .any l.toArray n (Array.replicate l.toArray.size false) :=
  ⟨by simp,λj oj _ hl=>(by rw [getD_replicate_false] at hl;cases hl),λt _ ht=>getD_in (by simpa using ht) (getD_replicate_false _ _)⟩
 have H:=ki (md:=.any) (g:=l.toArray.size - n) hsel hs hc hn (l.take n) 0 _ a (λj hj=>by
  have hj':j < n:=by rw [htl] at hj;exact hj
  simp [hj']) (by simpa using htl) inv0 (by rw [htl];exact hlex) h
 refine wp_region_any hm ?_;have:=gq (Q':=Q) (g:=l.toArray.size - n) (λlisted a' w' hC' hL=>by
  have:=wpAny_of_seq (md:=.any) (Q':=Q) (l.drop n) n listed a' w' (λj=>by simp [List.getElem?_drop]) (by rw [hdl];exact hL.1) (hL.2 w' hC')
  rwa [hdl] at this) _ _ _ _ hC H
 rw [htl,show n+(l.toArray.size - n)=l.toArray.size by omega] at this;exact this
end
end Go
namespace Go
open Go.RowKit
section
variable {F:Fence} {n:Nat} {P:Program} {ops:Array Oper} {md:Region.Mode}
def vn (o:Oper):Bool:=match o.op with
 |.binOp .sub ..=>true
 |_=>false
def YR (P:Program) (ops:Array Oper) (o:Oper) (v:Value) (a:Act) (w:World):Prop :=
 (Region.wanted o (yielded ops a.tmps)=true/\(∀W,Below w.heap.size w W->(execOp a.eval o).run P W=.ok (.value v) W)/\(vn o=true->∀W,(execOp a.eval o).run P W=.ok (.value v) W)) \/
 (Region.wanted o (yielded ops a.tmps)=false/\v=undef)
theorem YR.later {o:Oper} {v:Value} {a:Act} {w w':World} (h:YR P ops o v a w) (hb:Below w.heap.size w w'):YR P ops o v a w':=by
 rcases h with ⟨h1,h2,h3⟩|h
 ·exact .inl ⟨h1,λW hW=>h2 W (hb.trans (hW.mono hb.size)),h3⟩
 ·exact .inr h
theorem YR.of_same {o:Oper} {v:Value} {a a':Act} {w:World} (hy:YR P ops o v a w) (he:execOp a'.eval o=execOp a.eval o)
  (hw:Region.wanted o (yielded ops a'.tmps)=Region.wanted o (yielded ops a.tmps)):YR P ops o v a' w:=by
 unfold YR at *
 rw [he,hw];exact hy
def QF:Exit->Act->World->Prop:=λ_ _ _=>False
def eH (ops:Array Oper):Bool:=ops.all λo=>match o.op with
 |.defer _=>false
 |_=>true
theorem bD (h:eH ops=true) (j:Nat) (o:Oper) (ho:ops[j]? = some o):∀c,o.op≠.defer c:=by
 intro c heq;have:=Array.all_eq_true_iff_forall_mem.1 h o (Array.mem_of_getElem? ho);simp [heq] at this
theorem uf {o:Oper} {a:Act} {w:World} {K K':Act->World->Prop} {Q Q':Exit->Act->World->Prop} (hK:∀a w,K a w->K' a w) (hQ:∀e a w,Q e a w->Q' e a w)
  (hh:o.wpIn F n P a w K Q):o.wpIn F n P a w K' Q':=by
 unfold Oper.wpIn at *
 refine⟨hh.1,?_⟩;have hh:=hh.2;generalize (o.semAt F.round a.eval).run P w=r at *
 have hl:LetsOut Q->LetsOut Q':=λ⟨a,w,h⟩=>⟨a,w,hQ _ _ _ h⟩;cases r with
 |ok x w' =>
  cases x<;>simp only [Oper.uponIn] at hh ⊢ <;>
   first
    |exact hK _ _ hh
    |exact⟨hh.1,CallsIn.mono hh.2 (λe w'' he=>by cases e<;>first|exact hK _ _ he|exact hQ _ _ _ he|exact hl he)⟩
    |exact⟨hh.1,RowsIn.mono hh.2 (λ_ _ he=>hK _ _ he)⟩
    |exact⟨hh.1,RoundIn.mono hh.2 (λe w'' he=>by cases e<;>first|exact hK _ _ he|exact hQ _ _ _ he|exact hl he)⟩
 |halt x w'=>cases x<;>simp only [Oper.uponIn] at hh ⊢<;>first|exact hQ _ _ _ hh|exact hh
theorem aW {i:Nat} {a:Act} {w:World} {K K':Act->World->Prop} {Q Q':Exit->Act->World->Prop} (hK:∀a w,K a w->K' a w) (hQ:∀e a w,Q e a w->Q' e a w)
  (hh:wpOpIn F n P ops Q i K a w):wpOpIn F n P ops Q' i K' a w:=by
 unfold wpOpIn at *
 split
 ·exact hK _ _ (by simpa [*] using hh)
 ·rename_i o ho
  simp only [ho] at hh;split
  ·rename_i hw;simp only [hw,if_true] at hh;exact uf hK hQ hh
  ·rename_i hw;simp only [hw] at hh;exact⟨hh.1,hK _ _ hh.2⟩
theorem gr {j:Nat} {oi oj:Oper} {v:Value} (hF:∀f,F.fn f) (hj:ops[j]? = some oj) (hap:oi.apart ops oj=true)
  (hsi:∀cs b,oi.op≠.select cs b) (hsj:∀cs b,oj.op≠.select cs b) (hdj:∀c,oj.op≠.defer c) {K:Act->World->Prop} {a:Act} {w:World}
  (h:wpOpIn F n P ops QF j K (a.put oi.dst v) w) :
  wpOpIn F n P ops QF j (λa' w'=>(execOp a'.eval oi=execOp a.eval oi/\Region.wanted oi (yielded ops a'.tmps)=Region.wanted oi (yielded ops a.tmps))/\K (a'.put oi.dst v) w') a w:=by
 obtain⟨h1,h2,h3⟩:=Oper.apart_spec hap;have keep:∀u,execOp (a.put oj.dst u).eval oi=execOp a.eval oi/\Region.wanted oi (yielded ops (a.put oj.dst u).tmps)=Region.wanted oi (yielded ops a.tmps):=λu=>⟨execOp_put oi hsi a oj.dst u h3,wanted_put oi a oj.dst u h3⟩;unfold wpOpIn at *
 simp only [hj] at *
 rw [wanted_put oj a oi.dst v h1] at h;split
 ·rename_i hw
  simp only [hw,if_true] at h;unfold Oper.wpIn at *
  rw [Oper.semAt_eq _ _ _ hdj] at h ⊢;refine⟨λf _=>hF f,?_⟩;have h:=h.2;rw [execOp_put oj hsj a oi.dst v h1] at h;generalize (execOp a.eval oj).run P w=r at *
  cases r with
  |ok n w' =>
   cases n<;>simp only [Oper.uponIn] at h ⊢
   case value u=>exact⟨keep u,by rw [<-Act.put_comm a v u h2];exact h⟩
   case skip=>exact⟨keep _,by rw [<-Act.put_comm a v undef h2];exact h⟩
   case defer d =>
    have ed:({ a with defers:=d::a.defers }:Act).put oj.dst undef={ (a.put oj.dst undef) with defers:=d::a.defers }:=by cases oj.dst<;>rfl
    refine⟨by rw [ed];exact keep undef,?_⟩;rw [<-Act.put_comm _ v undef h2,<-Act.put_defers];exact h
   case enter f args =>
    refine⟨h.1,CallsIn.mono h.2 λe w'' he=>?_⟩;cases e with
    |returned u=>exact⟨keep u,by rw [<-Act.put_comm a v u h2];exact he⟩
    |panicked c=>exact he
    |outgrown=>exact he
   case row row args=>exact⟨h.1,RowsIn.mono h.2 λu w'' he=>⟨keep u,by rw [<-Act.put_comm a v u h2];exact he⟩⟩
   case round l f tm as bo =>
    refine⟨h.1,RoundIn.mono h.2 λe w'' he=>?_⟩;cases e with
    |returned u=>exact⟨keep u,by rw [<-Act.put_comm a v u h2];exact he⟩
    |panicked c=>exact he
    |outgrown=>exact he
  |halt x w' =>
   cases x<;>simp only [Oper.uponIn] at h ⊢
   case panic u=>exact h.elim
 ·rename_i hw
  simp only [hw] at h;exact⟨λf _=>hF f,keep _,by rw [<-Act.put_comm a v undef h2];exact h.2⟩
def zy (F:Fence) (n:Nat) (P:Program) (md:Region.Mode) (ops:Array Oper) (m:Nat) (T:Array Bool->Act->World->Prop):Nat->Array Bool->Act->World->Prop
 |0,listed,a,w=>T listed a w
 |f+1,listed,a,w=>Region.ready md ops listed≠[]/\∀i∈Region.ready md ops listed,i < m /\
   wpOpIn F n P ops QF i (λa' w'=>Below w.heap.size w w'/\zy F n P md ops m T f (listed.setIfInBounds i true) a' w') a w
theorem iV {m g:Nat} {T:Array Bool->Act->World->Prop} {Q:Exit->Act->World->Prop} (hT:∀listed a w,T listed a w->wpAnyIn F n P md ops Q g listed a w) :
  ∀(f:Nat) (listed:Array Bool) (a:Act) (w:World),zy F n P md ops m T f listed a w->wpAnyIn F n P md ops Q (f+g) listed a w
 |0,listed,a,w,h=>by rw [Nat.zero_add];exact hT _ _ _ h
 |f+1,listed,a,w,h=>by
  rw [show f+1+g=(f+g)+1 by omega];exact⟨λh0=>absurd h0 h.1,λi hi=>aW (λa' w' h'=>iV hT f _ a' w' h'.2) (λ_ _ _ h=>h.elim) (h.2 i hi).2⟩
theorem YR.wpOpIn {i:Nat} {o:Oper} {v:Value} {a:Act} {w:World} (hF:∀f,F.fn f) (hd:∀c,o.op≠.defer c) (hi:ops[i]? = some o) (hy:YR P ops o v a w) {Q:Exit->Act->World->Prop} {K:Act->World->Prop} (h:K (a.put o.dst v) w):wpOpIn F n P ops Q i K a w:=by
 unfold Go.wpOpIn;simp only [hi];rcases hy with ⟨hw,hv,_⟩|⟨hw,rfl⟩
 ·simp only [hw,if_true,Oper.wpIn];refine⟨λf _=>hF f,?_⟩;rw [Oper.semAt_eq _ _ _ hd,hv w (Below.refl _ _)];exact h
 ·simp only [hw,Bool.false_eq_true,if_false];exact⟨λf _=>hF f,h⟩
theorem ug {m i:Nat} {oi:Oper} {v:Value} {T:Array Bool->Act->World->Prop} (hF:∀f,F.fn f) (hi:ops[i]? = some oi) (hsel:∀(j:Nat) (o:Oper) cs b,ops[j]? = some o->o.op≠.select cs b) (hdf:eH ops=true)
  (hs:Region.sinkB md ops m=true) (hc:Region.chainB md ops m=true) (hn:m < ops.size) (him:i < m)
  (hdone:∀listed a w,T listed a w->∀j∈Region.ready md ops listed,m<=j) :
  ∀(f:Nat) (listed:Array Bool) (a:Act) (w:World),HeadInv md ops m listed ->
   (∀j oj,ops[j]? = some oj->j≠i->listed.getD j true=false->(∀e∈oj.after,Region.binds md e=true->e.on≠i)->oi.apart ops oj=true) ->
   i∈Region.ready md ops listed->YR P ops oi v a w ->
   zy F n P md ops m T f (listed.setIfInBounds i true) (a.put oi.dst v) w->zy F n P md ops m T (f+1) listed a w:=by
 intro f
 induction f with
 |zero =>
  intro listed a w inv _ hr hy H;have hun:=(mem_ready.1 hr).1;refine⟨λh=>(by rw [h] at hr;cases hr),λj hj=>?_⟩;have hjm:j < m:=by
   rcases Nat.lt_or_ge j m with h|h
   ·exact h
   ·exact absurd hj (tail_waits hs hc hn inv _ i rfl him hun j h)
  refine⟨hjm,?_⟩;by_cases hji:j=i
  ·subst hji;exact hy.wpOpIn hF (bD hdf _ _ hi) hi ⟨Below.refl _ _,H⟩
  ·have:=hdone _ _ _ H j (ready_mono hj hji);omega
 |succ f ih =>
  intro listed a w inv hfree hr hy H;have hun:=(mem_ready.1 hr).1;refine⟨λh=>(by rw [h] at hr;cases hr),λj hj=>?_⟩;have hjm:j < m:=by
   rcases Nat.lt_or_ge j m with h|h
   ·exact h
   ·exact absurd hj (tail_waits hs hc hn inv _ i rfl him hun j h)
  refine⟨hjm,?_⟩;by_cases hji:j=i
  ·subst hji;exact hy.wpOpIn hF (bD hdf _ _ hi) hi ⟨Below.refl _ _,H⟩
  ·have h1:=(H.2 j (ready_mono hj hji)).2;obtain⟨hjun,oj,hoj,hall⟩:=mem_ready.1 hj;have hnot:∀e∈oj.after,Region.binds md e=true->e.on≠i:=λe he hb heq=>by
    have h1:=hall e he hb;rw [heq,getD_both hun] at h1;cases h1
   have h2:=gr hF hoj (hfree j oj hoj hji hjun hnot) (λcs b=>hsel i oi cs b hi) (λcs b=>hsel j oj cs b hoj) (bD hdf _ _ hoj) h1;have hfree':∀k ok,ops[k]? = some ok->k≠i->(listed.setIfInBounds j true).getD k true=false ->
     (∀e∈ok.after,Region.binds md e=true->e.on≠i)->oi.apart ops ok=true:=λk ok hk hki hun hno=>by
    refine hfree k ok hk hki ?_ hno;by_cases hjk:j=k
    ·subst hjk;exact hjun
    ·rw [getD_set_ne true hjk] at hun;exact hun
   refine aW (λa' w' h3=>?_) (λ_ _ _ h=>h) h2;obtain⟨⟨e1,e2⟩,hb,h4⟩:=h3;refine⟨hb,ih (listed.setIfInBounds j true) a' w' (inv.set hj hjm) hfree' (ready_mono hr (Ne.symm hji)) ((hy.later hb).of_same e1 e2) ?_⟩;rw [Array.setIfInBounds_comm _ _ hji];exact h4
inductive OT where
 |nil
 |rd (i:Nat) (t:OT)
 |mk (i:Nat) (t:OT)
 |alt (i:Nat) (t u:OT)
def OT.heads:OT->List Nat
 |.mk i _=>[i]
 |.alt i _ u=>i::u.heads
 |_=>[]
def OT.len:OT->Nat
 |.nil=>0
 |.rd _ t=>t.len+1
 |.mk _ t=>t.len+1
 |.alt _ t _=>t.len+1
def gi (F:Fence) (n:Nat) (P:Program) (ops:Array Oper) (Lq:Act->World->Prop):OT->Act->World->Prop
 |.nil,a,w=>Lq a w
 |.rd i r,a,w=>∃o v,ops[i]? = some o/\YR P ops o v a w/\gi F n P ops Lq r (a.put o.dst v) w
 |.mk i r,a,w=>wpOpIn F n P ops QF i (λa' w'=>Below w.heap.size w w'/\gi F n P ops Lq r a' w') a w
 |.alt i r u,a,w=>wpOpIn F n P ops QF i (λa' w'=>Below w.heap.size w w'/\gi F n P ops Lq r a' w') a w/\gi F n P ops Lq u a w
def jD (md:Region.Mode) (ops:Array Oper) (m g:Nat):OT->Bool->Array Bool->Bool
 |.nil,_,listed=>Region.seqB md ops g m listed
 |.rd i r,_,listed=>decide (i < m)&&(Region.ready md ops listed).contains i&&Region.free md ops listed i&&jD md ops m g r true (listed.setIfInBounds i true)
 |.mk i r,top,listed=>decide (i < m)&&(!top||decide (Region.ready md ops listed=[i]))&&jD md ops m g r true (listed.setIfInBounds i true)
 |.alt i r u,top,listed=>decide (i < m)&&(!top||decide (Region.ready md ops listed=i::u.heads))&&decide (u.len=r.len+1)&&jD md ops m g r true (listed.setIfInBounds i true)&&jD md ops m g u false listed
theorem iW {m g:Nat} {Lq:Act->World->Prop} (hF:∀f,F.fn f) (hsel:Region.noSelect ops=true) (hdf:eH ops=true) (hs:Region.sinkB md ops m=true) (hc:Region.chainB md ops m=true) (hn:m < ops.size) :
  ∀(l:OT) (top:Bool) (listed:Array Bool) (a:Act) (w:World),HeadInv md ops m listed->jD md ops m g l top listed=true->gi F n P ops Lq l a w ->
  (top=true->zy F n P md ops m (λlisted' a' w'=>Region.seqB md ops g m listed'=true/\Lq a' w') l.len listed a w) /\
  (∀j∈l.heads,j∈Region.ready md ops listed->j < m/\wpOpIn F n P ops QF j (λa' w'=>Below w.heap.size w w'/\zy F n P md ops m (λlisted' a' w'=>Region.seqB md ops g m listed'=true/\Lq a' w') (l.len - 1) (listed.setIfInBounds j true) a' w') a w)
 |.nil,top,listed,a,w,_,hB,h=>⟨λ_=>⟨hB,h⟩,λj hj=>by simp [OT.heads] at hj⟩
 |.rd i r,top,listed,a,w,inv,hB,h=>by
  simp only [jD,Bool.and_eq_true,decide_eq_true_eq] at hB;obtain⟨⟨⟨him,hr⟩,hf⟩,hB'⟩:=hB;obtain⟨o,v,h0,hy,hK⟩:=h;have hr':i∈Region.ready md ops listed:=by simpa using hr
  exact⟨λ_=>ug hF h0 (Region.noSelect_spec hsel) hdf hs hc hn him (λlisted' a' w' hL=>seqB_ready hL.1) r.len listed a w inv (Region.free_spec h0 hf) hr' hy
   ((iW hF hsel hdf hs hc hn r true _ _ _ (inv.set hr' him) hB' hK).1 rfl),λj hj=>by simp [OT.heads] at hj⟩
 |.mk i r,top,listed,a,w,inv,hB,h=>by
  simp only [jD,Bool.and_eq_true,decide_eq_true_eq] at hB;obtain⟨⟨him,hr⟩,hB'⟩:=hB;have one:∀j∈(OT.mk i r).heads,j∈Region.ready md ops listed->j < m/\wpOpIn F n P ops QF j (λa' w'=>Below w.heap.size w w'/\zy F n P md ops m (λlisted' a' w'=>Region.seqB md ops g m listed'=true/\Lq a' w') ((OT.mk i r).len - 1) (listed.setIfInBounds j true) a' w') a w:=by
   intro j hj hjr;have hji:j=i:=by simpa [OT.heads] using hj
   subst hji;exact⟨him,aW (λa' w' h'=>⟨h'.1,(iW hF hsel hdf hs hc hn r true _ _ _ (inv.set hjr him) hB' h'.2).1 rfl⟩) (λ_ _ _ h=>h) h⟩
  refine⟨λht=>?_,one⟩;have hr:Region.ready md ops listed=[i]:=by simpa [ht] using hr
  refine⟨by rw [hr];simp,λj hj=>?_⟩;exact one j (by rw [hr] at hj;simpa [OT.heads] using hj) hj
 |.alt i r u,top,listed,a,w,inv,hB,h=>by
  simp only [jD,Bool.and_eq_true,decide_eq_true_eq] at hB;obtain⟨⟨⟨⟨him,hr⟩,hlen⟩,hB'⟩,hBu⟩:=hB;obtain⟨h1,h2⟩:=h;have hu:=(iW hF hsel hdf hs hc hn u false listed a w inv hBu h2).2;have one:∀j∈(OT.alt i r u).heads,j∈Region.ready md ops listed->j < m/\wpOpIn F n P ops QF j (λa' w'=>Below w.heap.size w w'/\zy F n P md ops m (λlisted' a' w'=>Region.seqB md ops g m listed'=true/\Lq a' w') ((OT.alt i r u).len - 1) (listed.setIfInBounds j true) a' w') a w:=by
   intro j hj hjr;simp only [OT.heads,List.mem_cons] at hj;rcases hj with rfl|hj
   ·exact⟨him,aW (λa' w' h'=>⟨h'.1,(iW hF hsel hdf hs hc hn r true _ _ _ (inv.set hjr him) hB' h'.2).1 rfl⟩) (λ_ _ _ h=>h) h1⟩
   ·have:=hu j hj hjr;rw [hlen,Nat.add_sub_cancel] at this;exact this
  refine⟨λht=>?_,one⟩;have hr:Region.ready md ops listed=i::u.heads:=by simpa [ht] using hr
  refine⟨by rw [hr];simp,λj hj=>?_⟩;exact one j (by rw [hr] at hj;exact hj) hj
theorem eW {Q':Exit->Act->World->Prop} (hF:∀f,F.fn f):∀(l:List Oper) (k:Nat) (listed:Array Bool) (a:Act) (w:World),(∀j,l[j]? = ops[k+j]?) ->
  Region.seqB md ops l.length k listed=true->wpListIn F n P ops Q' l a w->wpAnyIn F n P md ops Q' l.length listed a w
 |[],_,_,_,_,_,hB,h=>⟨by simpa [Region.seqB] using hB,h⟩
 |o::l,k,listed,a,w,hl,hB,h=>by
  have h0:ops[k]? = some o:=by simpa using (hl 0).symm
  simp only [List.length_cons,Region.seqB,Bool.and_eq_true,decide_eq_true_eq] at hB;refine⟨λh1=>(by rw [hB.1] at h1;cases h1),λi hi=>?_⟩;rw [hB.1] at hi;have hik:i=k:=by simpa using hi
  subst hik;have hw:wpOpIn F n P ops Q' i (wpListIn F n P ops Q' l) a w:=by
   unfold wpOpIn;simp only [h0];unfold wpListIn at h;split
   ·rename_i hw;simpa [hw] using h
   ·rename_i hw
    have hw':Region.wanted o (yielded ops a.tmps)=false:=by simpa using hw
    refine⟨λf _=>hF f,?_⟩;simp only [hw',Bool.false_eq_true,if_false] at h
    first
     |exact h
     |exact h.2
  exact aW (λa' w' h'=>eW hF l (i+1) _ a' w' (λj=>by have:=hl (j+1);simpa [Nat.add_assoc,Nat.add_comm 1 j] using this) hB.2 h') (λ_ _ _ h=>h) hw
def mG (ops:Array Oper) (l:OT):Bool :=
 Region.noSelect ops&&eH ops&&decide (l.len < ops.size)&&Region.sinkB .any ops l.len&&Region.chainB .any ops l.len&&jD .any ops l.len (ops.size - l.len) l true (Array.replicate ops.size false)
theorem kF {id:Nat} {Q:Exit->Act->World->Prop} {a:Act} {w:World} {l:List Oper} (ord:OT) (hF:∀f,F.fn f) (hm:P.follows .mixedOrders=true) (hB:mG l.toArray ord=true)
  (h:gi F n P l.toArray (λa' w'=>wpListIn F n P l.toArray Q (l.drop ord.len) a' w') ord a { w with drawn:=w.drawn+1 }):(Code.region id l.toArray true).wpIn F n P Q a w:=by
 simp only [mG,Bool.and_eq_true,decide_eq_true_eq] at hB;obtain⟨⟨⟨⟨⟨hsel,hdf⟩,hn⟩,hs⟩,hc⟩,hlex⟩:=hB;have hdl:(l.drop ord.len).length=l.toArray.size - ord.len:=by simp
 have inv0:HeadInv .any l.toArray ord.len (Array.replicate l.toArray.size false) :=
  ⟨by simp,λj oj _ hl=>(by rw [getD_replicate_false] at hl;cases hl),λt _ ht=>getD_in (by simpa using ht) (getD_replicate_false _ _)⟩
 have H:=(iW (md:=.any) (g:=l.toArray.size - ord.len) hF hsel hdf hs hc hn ord true _ a _ inv0 hlex h).1 rfl;refine wpIn_region_any hm ?_;have:=iV (Q:=Q) (g:=l.toArray.size - ord.len) (λlisted a' w' hL=>by
  have:=eW (md:=.any) (Q':=Q) hF (l.drop ord.len) ord.len listed a' w' (λj=>by simp [List.getElem?_drop]) (by rw [hdl];exact hL.1) hL.2
  rwa [hdl] at this) _ _ _ _ H
 rw [show ord.len+(l.toArray.size - ord.len)=l.toArray.size by omega] at this;exact this
def iu (F:Fence) (n:Nat) (P:Program) (ops:Array Oper) (Q:Exit->Act->World->Prop):OT->Act->World->Prop
 |.nil,a,w=>Q .normal a w
 |.rd i r,a,w=>wpOpIn F n P ops Q i (iu F n P ops Q r) a w
 |.mk i r,a,w=>wpOpIn F n P ops Q i (iu F n P ops Q r) a w
 |.alt i r u,a,w=>wpOpIn F n P ops Q i (iu F n P ops Q r) a w/\iu F n P ops Q u a w
def iX (md:Region.Mode) (ops:Array Oper):OT->Bool->Nat->Array Bool->Bool
 |.nil,_,_,listed=>decide (Region.ready md ops listed=[])
 |.rd _ _,_,_,_=>false
 |.mk i r,top,g,listed=>decide (0 < g)&&(!top||decide (Region.ready md ops listed=[i]))&&iX md ops r true (g - 1) (listed.setIfInBounds i true)
 |.alt i r u,top,g,listed=>decide (0 < g)&&(!top||decide (Region.ready md ops listed=i::u.heads))&&iX md ops r true (g - 1) (listed.setIfInBounds i true)&&iX md ops u false g listed
theorem dv {Q:Exit->Act->World->Prop}:∀(l:OT) (top:Bool) (g:Nat) (listed:Array Bool) (a:Act) (w:World),iX md ops l top g listed=true->iu F n P ops Q l a w ->
  (top=true->wpAnyIn F n P md ops Q g listed a w)/\(∀j∈l.heads,wpOpIn F n P ops Q j (wpAnyIn F n P md ops Q (g - 1) (listed.setIfInBounds j true)) a w)
 |.nil,top,g,listed,a,w,hB,h=>by
  have hr:Region.ready md ops listed=[]:=by simpa [iX] using hB
  refine⟨λ_=>?_,λj hj=>by simp [OT.heads] at hj⟩;cases g with
  |zero=>exact⟨hr,h⟩
  |succ g=>exact⟨λ_=>h,λi hi=>by rw [hr] at hi;cases hi⟩
 |.rd _ _,_,_,_,_,_,hB,_=>by simp [iX] at hB
 |.mk i r,top,g,listed,a,w,hB,h=>by
  simp only [iX,Bool.and_eq_true,decide_eq_true_eq] at hB;obtain⟨⟨hg,hr⟩,hB'⟩:=hB;have one:∀j∈(OT.mk i r).heads,wpOpIn F n P ops Q j (wpAnyIn F n P md ops Q (g - 1) (listed.setIfInBounds j true)) a w:=by
   intro j hj;have hji:j=i:=by simpa [OT.heads] using hj
   subst hji;exact aW (λa' w' h'=>(dv r true _ _ a' w' hB' h').1 rfl) (λ_ _ _ h=>h) h
  refine⟨λht=>?_,one⟩;have hr:Region.ready md ops listed=[i]:=by simpa [ht] using hr
  obtain⟨g,rfl⟩:∃g',g=g'+1:=⟨g - 1,by omega⟩;exact⟨λh0=>(by rw [hr] at h0;cases h0),λj hj=>one j (by rw [hr] at hj;simpa [OT.heads] using hj)⟩
 |.alt i r u,top,g,listed,a,w,hB,h=>by
  simp only [iX,Bool.and_eq_true,decide_eq_true_eq] at hB;obtain⟨⟨⟨hg,hr⟩,hB'⟩,hBu⟩:=hB;have hu:=(dv u false g listed a w hBu h.2).2;have one:∀j∈(OT.alt i r u).heads,wpOpIn F n P ops Q j (wpAnyIn F n P md ops Q (g - 1) (listed.setIfInBounds j true)) a w:=by
   intro j hj;simp only [OT.heads,List.mem_cons] at hj;rcases hj with rfl|hj
   ·exact aW (λa' w' h'=>(dv r true _ _ a' w' hB' h').1 rfl) (λ_ _ _ h=>h) h.1
   ·exact hu j hj
  refine⟨λht=>?_,one⟩;have hr:Region.ready md ops listed=i::u.heads:=by simpa [ht] using hr
  obtain⟨g,rfl⟩:∃g',g=g'+1:=⟨g - 1,by omega⟩;exact⟨λh0=>(by rw [hr] at h0;cases h0),λj hj=>one j (by rw [hr] at hj;exact hj)⟩
def vo (ops:Array Oper) (l:OT):Bool:=iX .any ops l true ops.size (Array.replicate ops.size false)
theorem jE {id:Nat} {Q:Exit->Act->World->Prop} {a:Act} {w:World} (l:OT) (hm:P.follows .mixedOrders=true) (hB:vo ops l=true)
  (h:iu F n P ops Q l a { w with drawn:=w.drawn+1 }):(Code.region id ops true).wpIn F n P Q a w :=
 wpIn_region_any hm ((dv l true _ _ _ _ hB h).1 rfl)
end
end Go
namespace Go
open Go.RowKit
theorem dW {F:Fence} {n:Nat} {P:Program} {ops:Array Oper} {L L':Act->World->Prop} (hL:∀a w,L a w->L' a w):∀(l:OT) (a:Act) (w:World),gi F n P ops L l a w->gi F n P ops L' l a w
 |.nil,a,w,h=>hL a w h
 |.rd i r,a,w,h=>by
  obtain⟨o,v,h1,h2,h3⟩:=h;exact⟨o,v,h1,h2,dW hL r _ _ h3⟩
 |.mk i r,a,w,h=>aW (λa' w' h'=>⟨h'.1,dW hL r a' w' h'.2⟩) (λ_ _ _ h=>h) h
 |.alt i r u,a,w,h=>⟨aW (λa' w' h'=>⟨h'.1,dW hL r a' w' h'.2⟩) (λ_ _ _ h=>h) h.1,dW hL u a w h.2⟩
def OT.ofL:List (Nat×Bool)->OT
 |[]=>.nil
 |(i,true)::r=>.rd i (ofL r)
 |(i,false)::r=>.mk i (ofL r)
def OT.rds:List Nat->OT->OT
 |[],t=>t
 |i::r,t=>.rd i (rds r t)
end Go
namespace Go
open Go.RowKit
theorem kG {P:Program} {t:TypeId} {w w':World} {z:Value} (h:(zeroValue t).run P w=.ok z w'):w'=w:=by
  unfold zeroValue typeInfo at h;simp only [Sem.run_bind,program,Sem.run] at h;cases hi:P.info? t with
  | none=>simp [hi,stuck] at h
  | some i =>
    cases hz:i.zero with
    | none=>simp [hi,hz,unsupported] at h
    | some v=>simp [hi,hz] at h;exact h.2.symm
def cS (w:World) (b:Nat):Prop:=∃cs t z,w.heap[b]? = some (.cells cs t z)
structure Into (b:Nat) (w w':World):Prop where
  os:w'.os=w.os
  tape:w'.tape=w.tape
  output:w'.output=w.output
  size:w'.heap.size=w.heap.size
  block:∀k,k≠b->w'.heap[k]? = w.heap[k]?
  row:cS w' b
theorem Into.trans {b:Nat} {u v w:World} (h:Into b u v) (k:Into b v w):Into b u w:=⟨k.os.trans h.os,k.tape.trans h.tape,k.output.trans h.output,k.size.trans h.size,λi hi=>(k.block i hi).trans (h.block i hi),k.row⟩
theorem Into.below {b N:Nat} {w w':World} (h:Into b w w') (hN:N<=b):Below N w w':=⟨h.os,h.tape,h.output,Nat.le_of_eq h.size.symm,λk hk=>h.block k (by omega)⟩
theorem Into.rows {b c:Nat} {w w':World} (h:Into b w w') (hc:cS w c):cS w' c:=by
  by_cases e:c=b
  · rw [e];exact h.row
  · obtain⟨cs,t,z,h1⟩:=hc;exact⟨cs,t,z,by rw [h.block c e];exact h1⟩
theorem uh {P:Program} {t:TypeId} {x:Value} {w w':World} {v:Value} (h:(Instr.alloc t true x).run P w=.ok v w'):v=.pointer (some ⟨w.heap.size,0,none⟩)/\cS w' w.heap.size:=by
  unfold Instr.alloc at h;simp only [Sem.run_bind] at h;cases hz:(zeroValue t).run P w with
  | halt e w1=>simp [hz] at h
  | ok z w1 =>
    have:=kG hz;subst this;simp [hz,newVar,newRow,newObj,Sem.run] at h;refine⟨h.1.symm,?_⟩;rw [<-h.2];have e:∀o:Obj,(w1.alloc o).heap[w1.heap.size]? = some o:=λo=>by show(w1.heap.push o)[w1.heap.size]? = some o;simp
    exact⟨_,_,_,e _⟩
theorem nt {w:World} {a:Addr} {v:Value} (h:cS w a.block):Into a.block w (w.setCell a v):=by
  obtain⟨cs,t,z,h1⟩:=h;refine⟨rfl,rfl,rfl,by simp [World.setCell],λk hk=>Below.heap_setCell w a v k hk,?_⟩;exact⟨_,t,z,by simp only [World.setCell,Array.getElem?_modify,if_true,h1,Option.map_some];rfl⟩
theorem qU {P:Program} {a:Addr} {v:Value} {w w':World} {x:Unit} (hr:cS w a.block) (h:(store a v).run P w=.ok x w'):Into a.block w w':=by
  have hf:∀m,∃e,w.farStore P a v m=.error e:=λm=>by
    obtain⟨cs,t,z,h1⟩:=hr;unfold World.farStore;rw [h1];exact⟨_,rfl⟩
  by_cases hv:v.oneCell'=true
  · rw [run_store P w a v _ hv] at h;split at h
    · split at h
      · cases h
      · simp only [Result.ok.injEq,true_and] at h;rw [<-h];exact nt hr
    · obtain⟨e,he⟩:=hf (Mode.plain==Mode.atomic);rw [he] at h;cases h
  · unfold store at h;cases v<;>first|(exact absurd rfl hv)|(simp [Sem.run] at h)
theorem gj {P:Program} {a:Addr}:∀(vs:List Value) (i:Nat) {w w':World} {x:Unit},cS w a.block->(storeCells a vs i).run P w=.ok x w'->w'=w\/Into a.block w w'
  | [],i,w,w',x,_,h=>by
    simp [storeCells] at h;exact .inl h.symm
  | v::r,i,w,w',x,hr,h=>by
    unfold storeCells at h;simp only [Sem.run_bind] at h;have hb:(a.add i).block=a.block:=by unfold Addr.add;split<;>rfl
    cases hs:(store (a.add i) v).run P w with
    | halt e w1=>simp [hs] at h
    | ok y w1 =>
      simp [hs] at h;have h1:=qU (by rw [hb];exact hr) hs;rw [hb] at h1;rcases gj r (i+1) h1.row h with h2|h2
      · rw [h2];exact .inr h1
      · exact .inr (h1.trans h2)
theorem nu {P:Program} {t:TypeId} {x y:Value} {w w':World} {u:Unit} (hr:∀p,x=.pointer (some p)->cS w p.block) (h:(Instr.storeAt t x y).run P w=.ok u w'):w'=w\/∃p,x=.pointer (some p)/\Into p.block w w':=by
  unfold Instr.storeAt at h;simp only [Sem.run_bind] at h;cases x with
  | pointer p =>
    cases p with
    | none=>simp [Instr.sureAddr,stuck] at h
    | some a =>
      simp only [Instr.sureAddr,Sem.run_pure,Result.andThen_ok] at h;unfold storeVar sizeOf typeInfo at h;simp only [Sem.run_bind,program,Sem.run] at h;cases hi:P.info? t with
      | none=>simp [hi,stuck] at h
      | some i =>
        simp [hi] at h;split at h
        all_goals first
          | (simp [stuck] at h;done)
          | (rcases gj _ 0 (hr a rfl) (by simpa using h) with h1|h1
             · exact .inl h1
             · exact .inr ⟨a,rfl,h1⟩)
  | _=>simp [Instr.sureAddr,stuck] at h
theorem eX {a:Act} {dst:Option Tmp} {v:Value} {d:Tmp} (h:dst≠some d):(a.put dst v).eval (.tmp d)=a.eval (.tmp d):=by
  unfold Act.put Act.eval;cases dst with
  | none=>rfl
  | some k =>
    have hk:k≠d:=λe=>h (by rw [e]);simp [Array.getD_eq_getD_getElem?,Array.getElem?_setIfInBounds,hk]
theorem mw {a:Act} {v:Value} {d:Tmp} {p:Addr} (h:(a.put (some d) v).eval (.tmp d)=.pointer (some p)):v=.pointer (some p):=by
  unfold Act.put Act.eval at h;simp only [Array.getD_eq_getD_getElem?,Array.getElem?_setIfInBounds,if_true] at h;split at h
  · simpa using h
  · cases h
theorem ny {P:Program} {ρ : Operand->Value} {o:Oper} {t:TypeId} {w w':World} {nx:Next} (ho:o.op=.alloc t) (h:(execOp ρ o).run P w=.ok nx w'):∃v,nx=.value v/\(Instr.alloc t true (.tuple #[])).run P w=.ok v w':=by
  unfold execOp at h;rw [ho] at h;simp only [Sem.run_bind] at h;cases hz:(Instr.alloc t true (.tuple #[])).run P w with
  | halt e w1=>simp [hz] at h
  | ok z w1 =>
    simp [hz] at h;exact⟨z,h.1.symm,by rw [h.2]⟩
theorem nz {P:Program} {ρ : Operand->Value} {o:Oper} {t:TypeId} {x y:Operand} {w w':World} {nx:Next} (ho:o.op=.store t x y) (h:(execOp ρ o).run P w=.ok nx w'):nx=.skip/\(Instr.storeAt t (ρ x) (ρ y)).run P w=.ok () w':=by
  unfold execOp at h;rw [ho] at h;simp only [Sem.run_bind] at h;cases hz:(Instr.storeAt t (ρ x) (ρ y)).run P w with
  | halt e w1=>simp [hz] at h
  | ok z w1 =>
    simp [hz] at h;exact⟨h.1.symm,by rw [h.2]⟩
structure EP (P:Program) (oj:Oper) (a:Act) (w:World) (a':Act) (w':World):Prop where
  keep:∀d,oj.dst≠some d->a'.eval (.tmp d)=a.eval (.tmp d)
  alloc:∀t d,oj.op=.alloc t->oj.dst=some d->oj.guard=none->∀p,a'.eval (.tmp d)=.pointer (some p)->p.block=w.heap.size/\cS w' p.block
  store:∀t x y,oj.op=.store t x y->(∀p,a.eval x=.pointer (some p)->cS w p.block)->w'=w\/∃p,a.eval x=.pointer (some p)/\Into p.block w w'
section
variable {F:Fence} {n:Nat} {P:Program} {ops:Array Oper}
theorem nB {j:Nat} {oj:Oper} (hF:∀f,F.fn f) (hj:ops[j]? = some oj) (hdj:∀c,oj.op≠.defer c) {K:Act->World->Prop} {a:Act} {w:World}
    (h:wpOpIn F n P ops QF j K a w):wpOpIn F n P ops QF j (λa' w'=>K a' w'/\EP P oj a w a' w') a w:=by
  unfold wpOpIn at *
  simp only [hj] at *
  split
  · rename_i hw
    simp only [hw,if_true] at h;unfold Oper.wpIn at *
    rw [Oper.semAt_eq _ _ _ hdj] at h ⊢;refine⟨λf _=>hF f,?_⟩;have h:=h.2;obtain⟨r,hr⟩:∃r,(execOp a.eval oj).run P w=r:=⟨_,rfl⟩;rw [hr] at h ⊢;cases r with
    | ok nx w' =>
      have ha:∀t,oj.op=.alloc t->∃v,nx=.value v/\(Instr.alloc t true (.tuple #[])).run P w=.ok v w':=λt e=>ny e hr;have hs:∀t x y,oj.op=.store t x y->nx=.skip/\(Instr.storeAt t (a.eval x) (a.eval y)).run P w=.ok () w':=λt x y e=>nz e hr;cases nx<;>simp only [Oper.uponIn] at h ⊢
      case value u =>
        refine⟨h,λd hd=>eX hd,λt d e hd _ p hp=>?_,λt x y e=>by cases (hs t x y e).1⟩;obtain⟨v,e1,e2⟩:=ha t e;cases e1;rw [hd] at hp;obtain⟨e3,e4⟩:=uh e2;rw [mw hp] at e3;cases e3;exact⟨rfl,e4⟩
      case skip =>
        refine⟨h,λd hd=>eX hd,λt d e=>(by obtain⟨v,e1,_⟩:=ha t e;cases e1),λt x y e hp=>nu hp (hs t x y e).2⟩
      case defer dd =>
        refine⟨h,λd hd=>(eX (a:={ a with defers:=dd::a.defers }) hd).trans rfl,λt d e=>(by obtain⟨v,e1,_⟩:=ha t e;cases e1),λt x y e=>by cases (hs t x y e).1⟩
      case enter f args =>
        refine⟨h.1,CallsIn.mono h.2 λe w'' he=>?_⟩;cases e with
        | returned u=>exact⟨he,λd hd=>eX hd,λt d e=>(by obtain⟨v,e1,_⟩:=ha t e;cases e1),λt x y e=>by cases (hs t x y e).1⟩
        | panicked c=>exact he
        | outgrown=>exact he
      case row row args=>exact⟨h.1,RowsIn.mono h.2 λu w'' he=>⟨he,λd hd=>eX hd,λt d e=>(by obtain⟨v,e1,_⟩:=ha t e;cases e1),λt x y e=>by cases (hs t x y e).1⟩⟩
      case round l f tm as bo =>
        refine⟨h.1,RoundIn.mono h.2 λe w'' he=>?_⟩;cases e with
        | returned u=>exact⟨he,λd hd=>eX hd,λt d e=>(by obtain⟨v,e1,_⟩:=ha t e;cases e1),λt x y e=>by cases (hs t x y e).1⟩
        | panicked c=>exact he
        | outgrown=>exact he
    | halt x w' =>
      cases x<;>simp only [Oper.uponIn] at h ⊢
      case panic u=>exact h.elim
  · rename_i hw
    simp only [hw] at h;refine⟨λf _=>hF f,h.2,λd hd=>eX hd,λt d e hd hg=>?_,λt x y e hp=>.inl rfl⟩;exfalso;apply hw;unfold Region.wanted;rw [hg]
end
end Go
namespace Go
open Go.RowKit
section
variable {F:Fence} {n:Nat} {P:Program} {ops:Array Oper} {md:Region.Mode}
theorem ui {o:Oper} {a:Act} {w:World} {K K':Act->World->Prop} {Q Q':Exit->Act->World->Prop} (hK:∀a w,K a w->K' a w) (hQ:∀c a w,Q (.panic c) a w->Q' (.panic c) a w) (hl:LetsOut Q->LetsOut Q')
  (hh:o.wpIn F n P a w K Q):o.wpIn F n P a w K' Q':=by
 unfold Oper.wpIn at *
 refine⟨hh.1,?_⟩;have hh:=hh.2;generalize (o.semAt F.round a.eval).run P w=r at *
 cases r with
 |ok x w' =>
  cases x<;>simp only [Oper.uponIn] at hh ⊢ <;>
   first
    |exact hK _ _ hh
    |exact⟨hh.1,CallsIn.mono hh.2 (λe w'' he=>by cases e<;>first|exact hK _ _ he|exact hQ _ _ _ he|exact hl he)⟩
    |exact⟨hh.1,RowsIn.mono hh.2 (λ_ _ he=>hK _ _ he)⟩
    |exact⟨hh.1,RoundIn.mono hh.2 (λe w'' he=>by cases e<;>first|exact hK _ _ he|exact hQ _ _ _ he|exact hl he)⟩
 |halt x w'=>cases x<;>simp only [Oper.uponIn] at hh ⊢<;>first|exact hQ _ _ _ hh|exact hh
theorem oY {i:Nat} {a:Act} {w:World} {K K':Act->World->Prop} {Q Q':Exit->Act->World->Prop} (hK:∀a w,K a w->K' a w) (hQ:∀c a w,Q (.panic c) a w->Q' (.panic c) a w) (hl:LetsOut Q->LetsOut Q')
  (hh:wpOpIn F n P ops Q i K a w):wpOpIn F n P ops Q' i K' a w:=by
 unfold wpOpIn at *
 split
 ·exact hK _ _ (by simpa [*] using hh)
 ·rename_i o ho
  simp only [ho] at hh;split
  ·rename_i hw;simp only [hw,if_true] at hh;exact ui hK hQ hl hh
  ·rename_i hw;simp only [hw] at hh;exact⟨hh.1,hK _ _ hh.2⟩
def Qn (Q:Exit->Act->World->Prop):Exit->Act->World->Prop:=λe a w=>match e with
 |.normal=>Q .normal a w
 |_=>False
def fW (F:Fence) (n:Nat) (P:Program) (md:Region.Mode) (ops:Array Oper) (m:Nat) (Q:Exit->Act->World->Prop):Nat->Array Bool->Act->World->Prop
 |0,listed,a,w=>Region.ready md ops listed=[]/\Q .normal a w
 |f+1,listed,a,w=>(Region.ready md ops listed=[]->Q .normal a w)/\∀i∈Region.ready md ops listed,
   wpOpIn F n P ops QF i (λa' w'=>(i < m->Below w.heap.size w w')/\fW F n P md ops m Q f (listed.setIfInBounds i true) a' w') a w
theorem iY {m:Nat} {Q:Exit->Act->World->Prop}:∀(f:Nat) (listed:Array Bool) (a:Act) (w:World),fW F n P md ops m Q f listed a w->wpAnyIn F n P md ops Q f listed a w
 |0,_,_,_,h=>h
 |f+1,listed,a,w,h=>⟨h.1,λi hi=>aW (λa' w' h'=>iY f _ a' w' h'.2) (λ_ _ _ h=>h.elim) (h.2 i hi)⟩
def s6 (o:Oper):Bool:=match o.op with
 |.extract ..=>true
 |.move _=>true
 |.binOp .sub ..=>true
 |_=>false
theorem YR.pure {o:Oper} {v:Value} {a:Act} {w:World} (h:YR P ops o v a w) (hp:s6 o=true) (W:World):YR P ops o v a W:=by
 rcases h with ⟨h1,h2,h5⟩|h
 ·refine .inl ⟨h1,λV _=>?_,h5⟩;have h3:=h2 w (Below.refl _ _);unfold s6 at hp;cases ho:o.op with
  |binOp op t x y t' =>
   refine h5 ?_ V;unfold vn;rw [ho] at hp ⊢;cases op<;>first|rfl|cases hp
  |move x =>
   unfold execOp at h3 ⊢;rw [ho] at h3 ⊢;simp only [Sem.run_pure,Result.ok.injEq] at h3 ⊢;exact⟨h3.1,trivial⟩
  |extract x k =>
   have e1:execOp a.eval o=(do let r <-Instr.extract (a.eval x) k;Pure.pure (.value r)):=by
    unfold execOp;rw [ho]
   rw [e1] at h3 ⊢;generalize a.eval x=y at *
   unfold Instr.extract at h3 ⊢;cases y with
   |tuple vs =>
    cases hv:vs[k]? with
    |some u =>
     simp only [hv,Sem.run_bind,Sem.run_pure,Result.andThen_ok,Result.ok.injEq] at h3 ⊢;exact⟨h3.1,trivial⟩
    |none=>simp [hv,Sem.run_bind,stuck] at h3
   |_=>simp [Sem.run_bind,stuck] at h3
  |_=>rw [ho] at hp;cases hp
 ·exact .inr h
def eI (md:Region.Mode) (o:Oper) (i:Nat):Bool:=o.after.any λe=>Region.binds md e&&e.on==i
def iv (md:Region.Mode) (ops:Array Oper) (listed:Array Bool) (i:Nat):Nat->Oper->Bool
 |0,o=>eI md o i
 |d+1,o=>eI md o i||o.after.any λe=>Region.binds md e&&(!(listed.getD e.on false))&&(match ops[e.on]? with
  |some o2=>iv md ops listed i d o2
  |none=>false)
def iw (md:Region.Mode) (ops:Array Oper) (listed:Array Bool) (o:Oper) (i:Nat):Bool:=o.after.any λe=>Region.binds md e&&(!(listed.getD e.on false))&&(match ops[e.on]? with
 |some o2=>iv md ops listed i 6 o2
 |none=>false)
theorem li {md:Region.Mode} {ops:Array Oper} {listed:Array Bool} {i:Nat} {o:Oper} (hall:∀e∈o.after,Region.binds md e=true->listed.getD e.on false=true) (hnot:∀e∈o.after,Region.binds md e=true->e.on≠i):∀d,iv md ops listed i d o=true->False:=by
 have h0:eI md o i=true->False:=λh=>by
  unfold eI at h;obtain⟨e,he,h2⟩:=Array.any_eq_true'.1 h;simp only [Bool.and_eq_true,beq_iff_eq] at h2;exact hnot e he h2.1 h2.2
 intro d h;cases d with
 |zero=>exact h0 h
 |succ d =>
  rw [iv,Bool.or_eq_true] at h;rcases h with h|h
  ·exact h0 h
  ·obtain⟨e,he,h2⟩:=Array.any_eq_true'.1 h;simp only [Bool.and_eq_true,Bool.not_eq_true'] at h2;have h3:=hall e he h2.1.1;rw [h2.1.2] at h3;cases h3
theorem kj {md:Region.Mode} {ops:Array Oper} {listed:Array Bool} {i j:Nat} {oj:Oper} (hoj:ops[j]? = some oj) (hall:∀e∈oj.after,Region.binds md e=true->listed.getD e.on false=true) (hnot:∀e∈oj.after,Region.binds md e=true->e.on≠i):∀(d:Nat) (o:Oper),iv md ops listed i d o=true->iv md ops (listed.setIfInBounds j true) i d o=true
 |0,_,h=>h
 |d+1,o,h=>by
  rw [iv,Bool.or_eq_true] at h ⊢;rcases h with h|h
  ·exact .inl h
  ·obtain⟨e,he,h2⟩:=Array.any_eq_true'.1 h;refine .inr (Array.any_eq_true'.2 ⟨e,he,?_⟩);simp only [Bool.and_eq_true,Bool.not_eq_true'] at h2 ⊢;by_cases hje:j=e.on
   ·exfalso;have h3:=h2.2;rw [<-hje,hoj] at h3;exact li hall hnot d h3
   ·refine⟨⟨h2.1.1,by rw [getD_set_ne false hje];exact h2.1.2⟩,?_⟩;cases hx:ops[e.on]? with
    |none =>
     have h3:=h2.2;rw [hx] at h3;cases h3
    |some o2 =>
     have h3:=h2.2;rw [hx] at h3;exact kj hoj hall hnot d o2 h3
def nC (md:Region.Mode) (ops:Array Oper) (m:Nat) (listed:Array Bool) (oj:Oper):Bool:=match oj.op with
 |.store _ (.tmp d) _=>(List.range m).any λk=>!(listed.getD k true)&&(match ops[k]? with
   |some ok=>(match ok.op with
    |.alloc _=>ok.dst==some d&&ok.guard.isNone
    |_=>false)
   |none=>false)&&eI md oj k&&(List.range ops.size).all λk'=>k'==k||(match ops[k']? with
    |some o'=>!(o'.dst==some d)
    |none=>true)
 |_=>false
def s7 (md:Region.Mode) (ops:Array Oper) (m N:Nat) (listed:Array Bool) (a:Act) (w:World) (oj:Oper):Prop :=
 ∃t d y k ok t',oj.op=.store t (.tmp d) y/\ops[k]? = some ok/\ok.op=.alloc t'/\ok.dst=some d/\ok.guard=none/\eI md oj k=true/\(∀k' o',ops[k']? = some o'->o'.dst=some d->k'=k) /\
  (listed.getD k true=false\/∀p,a.eval (.tmp d)=.pointer (some p)->N<=p.block/\cS w p.block)
theorem oZ {m N:Nat} {listed:Array Bool} {a:Act} {w:World} {oj:Oper} (h:nC md ops m listed oj=true):s7 md ops m N listed a w oj:=by
 unfold nC at h;split at h
 ·rename_i t d y hop
  obtain⟨k,hk,h⟩:=List.any_eq_true.1 h;simp only [Bool.and_eq_true,Bool.not_eq_true'] at h;obtain⟨⟨⟨h1,h2⟩,h3⟩,h4⟩:=h;cases hok:ops[k]? with
  |none=>simp [hok] at h2
  |some ok =>
   simp only [hok] at h2;cases ho:ok.op with
   |alloc t' =>
    simp only [ho,Bool.and_eq_true,beq_iff_eq,Option.isNone_iff_eq_none] at h2;refine⟨t,d,y,k,ok,t',hop,hok,ho,h2.1,h2.2,h3,λk' o' hk' hd'=>?_,.inl h1⟩;have:=List.all_eq_true.1 h4 k' (List.mem_range.2 (Array.getElem?_eq_some_iff.1 hk').1);simp only [hk',Bool.or_eq_true,beq_iff_eq,Bool.not_eq_true'] at this;rcases this with h5|h5
    ·exact h5
    ·rw [hd'] at h5;simp at h5
   |_=>simp [ho] at h2
 ·cases h
def YRN (N:Nat) (P:Program) (ops:Array Oper) (o:Oper) (v:Value) (a:Act) (w:World):Prop :=
 (Region.wanted o (yielded ops a.tmps)=true/\(∀W,Below N w W->(execOp a.eval o).run P W=.ok (.value v) W)/\(vn o=true->∀W,(execOp a.eval o).run P W=.ok (.value v) W)) \/
 (Region.wanted o (yielded ops a.tmps)=false/\v=undef)
theorem YRN.later {N:Nat} {o:Oper} {v:Value} {a:Act} {w w':World} (h:YRN N P ops o v a w) (hb:Below N w w'):YRN N P ops o v a w':=by
 rcases h with ⟨h1,h2,h3⟩|h
 ·exact .inl ⟨h1,λW hW=>h2 W (hb.trans hW),h3⟩
 ·exact .inr h
theorem YRN.of_same {N:Nat} {o:Oper} {v:Value} {a a':Act} {w:World} (hy:YRN N P ops o v a w) (he:execOp a'.eval o=execOp a.eval o)
  (hw:Region.wanted o (yielded ops a'.tmps)=Region.wanted o (yielded ops a.tmps)):YRN N P ops o v a' w:=by
 unfold YRN at *
 rw [he,hw];exact hy
theorem YRN.to {N:Nat} {o:Oper} {v:Value} {a:Act} {w:World} (hy:YRN N P ops o v a w) (hN:N<=w.heap.size):YR P ops o v a w:=by
 rcases hy with ⟨h1,h2,h3⟩|h
 ·exact .inl ⟨h1,λW hW=>h2 W (hW.mono hN),h3⟩
 ·exact .inr h
def zA (md:Region.Mode) (ops:Array Oper) (m:Nat) (listed:Array Bool) (i:Nat):Bool:=(List.range ops.size).all λj=>listed.getD j true||j==i||decide (j < m)||(match ops[j]? with
 |some o=>eI md o i||(iw md ops listed o i||nC md ops m listed o)
 |none=>true)
theorem qV {m i j:Nat} {listed:Array Bool} {oj:Oper} (h:zA md ops m listed i=true) (hj:ops[j]? = some oj) (hl:listed.getD j true=false) (hji:j≠i) (hn:∀e∈oj.after,Region.binds md e=true->e.on≠i):j < m\/iw md ops listed oj i=true\/nC md ops m listed oj=true:=by
 have hlt:j < ops.size:=(Array.getElem?_eq_some_iff.1 hj).1;have h1:=List.all_eq_true.1 h j (List.mem_range.2 hlt);simp only [hl,hj,Bool.false_or,Bool.or_eq_true,beq_iff_eq,decide_eq_true_eq] at h1;rcases h1 with (h1|h1)|h1|h1|h1
 ·exact absurd h1 hji
 ·exact .inl h1
 ·unfold eI at h1;obtain⟨e,he,h2⟩:=Array.any_eq_true'.1 h1;simp only [Bool.and_eq_true,beq_iff_eq] at h2;exact absurd h2.2 (hn e he h2.1)
 ·exact .inr (.inl h1)
 ·exact .inr (.inr h1)
theorem nD {m N i:Nat} {oi:Oper} {v:Value} {Q:Exit->Act->World->Prop} (hF:∀f,F.fn f) (hi:ops[i]? = some oi) (hsel:∀(j:Nat) (o:Oper) cs b,ops[j]? = some o->o.op≠.select cs b) (hdf:eH ops=true) :
  ∀(f:Nat) (listed:Array Bool) (a:Act) (w:World),
   ((s6 oi=true/\YR P ops oi v a w)\/N<=w.heap.size/\YRN N P ops oi v a w/\∀j oj,ops[j]? = some oj->listed.getD j true=false->j≠i->(∀e∈oj.after,Region.binds md e=true->e.on≠i)->j < m\/iw md ops listed oj i=true\/s7 md ops m N listed a w oj) ->
   (∀j oj,ops[j]? = some oj->j≠i->listed.getD j true=false->(∀e∈oj.after,Region.binds md e=true->e.on≠i)->oi.apart ops oj=true) ->
   i∈Region.ready md ops listed ->
   fW F n P md ops m Q f (listed.setIfInBounds i true) (a.put oi.dst v) w->fW F n P md ops m Q (f+1) listed a w:=by
 intro f
 induction f with
 |zero =>
  intro listed a w hcalm _ hr H;have hy:YR P ops oi v a w:=by
   rcases hcalm with h|h
   ·exact h.2
   ·exact h.2.1.to h.1
  refine⟨λh=>(by rw [h] at hr;cases hr),λj hj=>?_⟩;by_cases hji:j=i
  ·subst hji;exact hy.wpOpIn hF (bD hdf _ _ hi) hi ⟨λ_=>Below.refl _ _,H⟩
  ·have h1:=ready_mono hj hji;rw [H.1] at h1;cases h1
 |succ f ih =>
  intro listed a w hcalm hfree hr H;have hy:YR P ops oi v a w:=by
   rcases hcalm with h|h
   ·exact h.2
   ·exact h.2.1.to h.1
  have hun:=(mem_ready.1 hr).1;refine⟨λh=>(by rw [h] at hr;cases hr),λj hj=>?_⟩;by_cases hji:j=i
  ·subst hji;exact hy.wpOpIn hF (bD hdf _ _ hi) hi ⟨λ_=>Below.refl _ _,H⟩
  ·have h1:=H.2 j (ready_mono hj hji);obtain⟨hjun,oj,hoj,hall⟩:=mem_ready.1 hj;have hnot:∀e∈oj.after,Region.binds md e=true->e.on≠i:=λe he hb heq=>by
    have h1:=hall e he hb;rw [heq,getD_both hun] at h1;cases h1
   have h2:=nB hF hoj (bD hdf _ _ hoj) (gr hF hoj (hfree j oj hoj hji hjun hnot) (λcs b=>hsel i oi cs b hi) (λcs b=>hsel j oj cs b hoj) (bD hdf _ _ hoj) h1);have hun':∀k,(listed.setIfInBounds j true).getD k true=false->listed.getD k true=false:=λk hk=>by
    by_cases hjk:j=k
    ·subst hjk;exact hjun
    ·rw [getD_set_ne true hjk] at hk;exact hk
   have hfree':∀k ok,ops[k]? = some ok->k≠i->(listed.setIfInBounds j true).getD k true=false ->
     (∀e∈ok.after,Region.binds md e=true->e.on≠i)->oi.apart ops ok=true:=λk ok hk hki hun hno=>hfree k ok hk hki (hun' k hun) hno
   have hall':∀e∈oj.after,Region.binds md e=true->listed.getD e.on false=true:=λe he hb=>hall e he hb;have hkeep:∀ok:Oper,iw md ops listed ok i=true->iw md ops (listed.setIfInBounds j true) ok i=true:=λok h=>by
    unfold iw at h ⊢;obtain⟨e,he,h2⟩:=Array.any_eq_true'.1 h;refine Array.any_eq_true'.2 ⟨e,he,?_⟩;simp only [Bool.and_eq_true,Bool.not_eq_true'] at h2 ⊢;by_cases hje:j=e.on
    ·exfalso;have h3:=h2.2;rw [<-hje,hoj] at h3;exact li hall' hnot 6 h3
    ·refine⟨⟨h2.1.1,by rw [getD_set_ne false hje];exact h2.1.2⟩,?_⟩;cases hx:ops[e.on]? with
     |none =>
      have h3:=h2.2;rw [hx] at h3;cases h3
     |some o2 =>
      have h3:=h2.2;rw [hx] at h3;exact kj hoj hall' hnot 6 o2 h3
   refine aW (λa' w' h3=>?_) (λ_ _ _ h=>h) h2;obtain⟨⟨⟨e1,e2⟩,hb,h4⟩,hfact⟩:=h3;refine⟨hb,ih (listed.setIfInBounds j true) a' w' ?_ hfree' (ready_mono hr (Ne.symm hji)) ?_⟩
   ·rcases hcalm with ⟨hp,hy0⟩|⟨hN,hyN,hc⟩
    ·exact .inl ⟨hp,(hy0.pure hp w').of_same e1 e2⟩
    ·
     have hw:Below N w w'/\∀b,cS w b->cS w' b:=by
      rcases hc j oj hoj hjun hji hnot with hlt|hw2|hfr
      ·have h5:=hb hlt;refine⟨h5.mono hN,λb hr=>?_⟩;obtain⟨cs,t,z,h6⟩:=hr;exact⟨cs,t,z,by rw [h5.block b (Array.getElem?_eq_some_iff.1 h6).1];exact h6⟩
      ·exfalso;unfold iw at hw2;obtain⟨e,he,h5⟩:=Array.any_eq_true'.1 hw2;simp only [Bool.and_eq_true,Bool.not_eq_true'] at h5;have h6:=hall e he h5.1.1;rw [h5.1.2] at h6;cases h6
      ·obtain⟨t,d,y,k,ok,t',hop,hok,hal,hd,hg,hwk,huq,hst⟩:=hfr;have hptr:∀p,a.eval (.tmp d)=.pointer (some p)->N<=p.block/\cS w p.block:=by
        rcases hst with h5|h5
        ·exfalso;unfold eI at hwk;obtain⟨e,he,h6⟩:=Array.any_eq_true'.1 hwk;simp only [Bool.and_eq_true,beq_iff_eq] at h6;have h7:=hall e he h6.1;rw [h6.2,getD_both h5] at h7;cases h7
        ·exact h5
       rcases hfact.store t (.tmp d) y hop (λp hp=>(hptr p hp).2) with h5|⟨p,hp,h5⟩
       ·rw [h5];exact⟨Below.refl _ _,λ_ h=>h⟩
       ·exact⟨h5.below (hptr p hp).1,λb hr=>h5.rows hr⟩
     refine .inr ⟨Nat.le_trans hN hw.1.size,(hyN.later hw.1).of_same e1 e2,λx ox hx hux hxi hxn=>?_⟩;rcases hc x ox hx (hun' x hux) hxi hxn with h5|h5|h5
     ·exact .inl h5
     ·exact .inr (.inl (hkeep ox h5))
     ·refine .inr (.inr ?_);obtain⟨t,d,y,k,ok,t',hop,hok,hal,hd,hg,hwk,huq,hst⟩:=h5;refine⟨t,d,y,k,ok,t',hop,hok,hal,hd,hg,hwk,huq,?_⟩;by_cases hjk:j=k
      ·subst hjk;obtain rfl:oj=ok:=by rw [hoj] at hok;exact Option.some.inj hok
       refine .inr λp hp=>?_;obtain⟨h6,h7⟩:=hfact.alloc t' d hal hd hg p hp;exact⟨by rw [h6];exact hN,h7⟩
      ·rcases hst with h6|h6
       ·exact .inl (by rw [getD_set_ne true hjk];exact h6)
       ·refine .inr λp hp=>?_;rw [hfact.keep d λhd'=>hjk (huq j oj hoj hd')] at hp;exact⟨(h6 p hp).1,hw.2 _ (h6 p hp).2⟩
   ·rw [Array.setIfInBounds_comm _ _ hji];exact h4
theorem il {m:Nat} {Q:Exit->Act->World->Prop} (hF:∀f,F.fn f):∀(l:List Oper) (k:Nat) (listed:Array Bool) (a:Act) (w:World),m<=k->(∀j,l[j]? = ops[k+j]?) ->
  Region.seqB md ops l.length k listed=true->wpListIn F n P ops (Qn Q) l a w->fW F n P md ops m Q l.length listed a w
 |[],_,_,_,_,_,_,hB,h=>⟨by simpa [Region.seqB] using hB,h⟩
 |o::l,k,listed,a,w,hmk,hl,hB,h=>by
  have h0:ops[k]? = some o:=by simpa using (hl 0).symm
  simp only [List.length_cons,Region.seqB,Bool.and_eq_true,decide_eq_true_eq] at hB;refine⟨λh1=>(by rw [hB.1] at h1;cases h1),λi hi=>?_⟩;rw [hB.1] at hi;have hik:i=k:=by simpa using hi
  subst hik;have hw:wpOpIn F n P ops (Qn Q) i (wpListIn F n P ops (Qn Q) l) a w:=by
   unfold wpOpIn;simp only [h0];unfold wpListIn at h;split
   ·rename_i hw;simpa [hw] using h
   ·rename_i hw
    have hw':Region.wanted o (yielded ops a.tmps)=false:=by simpa using hw
    refine⟨λf _=>hF f,?_⟩;simp only [hw',Bool.false_eq_true,if_false] at h
    first
     |exact h
     |exact h.2
  exact oY (λa' w' h'=>⟨λhh=>by omega,il hF l (i+1) _ a' w' (by omega) (λj=>by have:=hl (j+1);simpa [Nat.add_assoc,Nat.add_comm 1 j] using this) hB.2 h'⟩) (λ_ _ _ h=>h.elim) (λ⟨_,_,h⟩=>h.elim) hw
def iZ (md:Region.Mode) (ops:Array Oper) (m g:Nat):OT->Bool->Array Bool->Bool
 |.nil,_,listed=>Region.seqB md ops g m listed
 |.rd i r,_,listed=>decide (i < m)&&(Region.ready md ops listed).contains i&&Region.free md ops listed i&&((match ops[i]? with
   |some o=>s6 o
   |none=>false)||zA md ops m listed i)&&iZ md ops m g r true (listed.setIfInBounds i true)
 |.mk i r,top,listed=>decide (i < m)&&(!top||decide (Region.ready md ops listed=[i]))&&iZ md ops m g r true (listed.setIfInBounds i true)
 |.alt i r u,top,listed=>decide (i < m)&&(!top||decide (Region.ready md ops listed=i::u.heads))&&decide (u.len=r.len+1)&&iZ md ops m g r true (listed.setIfInBounds i true)&&iZ md ops m g u false listed
theorem eY {m:Nat} {Q:Exit->Act->World->Prop} {tl:List Oper} (hF:∀f,F.fn f) (hsel:Region.noSelect ops=true) (hdf:eH ops=true) (htl:∀j,tl[j]? = ops[m+j]?) :
  ∀(l:OT) (top:Bool) (listed:Array Bool) (a:Act) (w:World),iZ md ops m tl.length l top listed=true->gi F n P ops (λa' w'=>wpListIn F n P ops (Qn Q) tl a' w') l a w ->
  (top=true->fW F n P md ops m Q (l.len+tl.length) listed a w) /\
  (∀j∈l.heads,j∈Region.ready md ops listed->wpOpIn F n P ops QF j (λa' w'=>(j < m->Below w.heap.size w w')/\fW F n P md ops m Q (l.len - 1+tl.length) (listed.setIfInBounds j true) a' w') a w)
 |.nil,top,listed,a,w,hB,h=>⟨λ_=>by
   rw [show OT.nil.len+tl.length=tl.length by simp [OT.len]];exact il hF tl m listed a w (Nat.le_refl _) htl hB h,λj hj=>by simp [OT.heads] at hj⟩
 |.rd i r,top,listed,a,w,hB,h=>by
  simp only [iZ,Bool.and_eq_true,decide_eq_true_eq] at hB;obtain⟨⟨⟨⟨him,hr⟩,hf⟩,hc⟩,hB'⟩:=hB;obtain⟨o,v,h0,hy,hK⟩:=h;have hr':i∈Region.ready md ops listed:=by simpa using hr
  simp only [h0,Bool.or_eq_true] at hc;refine⟨λ_=>?_,λj hj=>by simp [OT.heads] at hj⟩;rw [show(OT.rd i r).len+tl.length=r.len+tl.length+1 by simp only [OT.len];omega];exact nD (N:=w.heap.size) hF h0 (Region.noSelect_spec hsel) hdf _ listed a w (hc.imp (λh=>⟨h,hy⟩) λh=>⟨Nat.le_refl _,hy,λj oj hj hl hji hn=>(qV h hj hl hji hn).imp id (Or.imp id oZ)⟩) (Region.free_spec h0 hf) hr' ((eY hF hsel hdf htl r true _ _ _ hB' hK).1 rfl)
 |.mk i r,top,listed,a,w,hB,h=>by
  simp only [iZ,Bool.and_eq_true,decide_eq_true_eq] at hB;obtain⟨⟨him,hr⟩,hB'⟩:=hB;have one:∀j∈(OT.mk i r).heads,j∈Region.ready md ops listed->wpOpIn F n P ops QF j (λa' w'=>(j < m->Below w.heap.size w w')/\fW F n P md ops m Q ((OT.mk i r).len - 1+tl.length) (listed.setIfInBounds j true) a' w') a w:=by
   intro j hj hjr;have hji:j=i:=by simpa [OT.heads] using hj
   subst hji;refine aW (λa' w' h'=>⟨λ_=>h'.1,?_⟩) (λ_ _ _ h=>h) h;rw [show(OT.mk j r).len - 1=r.len by simp [OT.len]];exact(eY hF hsel hdf htl r true _ _ _ hB' h'.2).1 rfl
  refine⟨λht=>?_,one⟩;have hr:Region.ready md ops listed=[i]:=by simpa [ht] using hr
  rw [show(OT.mk i r).len+tl.length=((OT.mk i r).len - 1+tl.length)+1 by simp only [OT.len];omega];refine⟨by rw [hr];simp,λj hj=>?_⟩;exact one j (by rw [hr] at hj;simpa [OT.heads] using hj) hj
 |.alt i r u,top,listed,a,w,hB,h=>by
  simp only [iZ,Bool.and_eq_true,decide_eq_true_eq] at hB;obtain⟨⟨⟨⟨him,hr⟩,hlen⟩,hB'⟩,hBu⟩:=hB;obtain⟨h1,h2⟩:=h;have hu:=(eY hF hsel hdf htl u false listed a w hBu h2).2;have one:∀j∈(OT.alt i r u).heads,j∈Region.ready md ops listed->wpOpIn F n P ops QF j (λa' w'=>(j < m->Below w.heap.size w w')/\fW F n P md ops m Q ((OT.alt i r u).len - 1+tl.length) (listed.setIfInBounds j true) a' w') a w:=by
   intro j hj hjr;rw [show(OT.alt i r u).len - 1=r.len by simp [OT.len]];simp only [OT.heads,List.mem_cons] at hj;rcases hj with rfl|hj
   ·exact aW (λa' w' h'=>⟨λ_=>h'.1,(eY hF hsel hdf htl r true _ _ _ hB' h'.2).1 rfl⟩) (λ_ _ _ h=>h) h1
   ·have:=hu j hj hjr;rw [hlen,Nat.add_sub_cancel] at this;exact this
  refine⟨λht=>?_,one⟩;have hr:Region.ready md ops listed=i::u.heads:=by simpa [ht] using hr
  rw [show(OT.alt i r u).len+tl.length=((OT.alt i r u).len - 1+tl.length)+1 by simp only [OT.len];omega];refine⟨by rw [hr];simp,λj hj=>?_⟩;exact one j (by rw [hr] at hj;exact hj) hj
def ra (ops:Array Oper) (l:OT):Bool :=
 Region.noSelect ops&&eH ops&&decide (l.len < ops.size)&&iZ .any ops l.len (ops.size - l.len) l true (Array.replicate ops.size false)
theorem jG {id:Nat} {Q:Exit->Act->World->Prop} {a:Act} {w:World} {l:List Oper} (ord:OT) (hF:∀f,F.fn f) (hm:P.follows .mixedOrders=true) (hB:ra l.toArray ord=true)
  (h:gi F n P l.toArray (λa' w'=>wpListIn F n P l.toArray (Qn Q) (l.drop ord.len) a' w') ord a { w with drawn:=w.drawn+1 }):(Code.region id l.toArray true).wpIn F n P Q a w:=by
 simp only [ra,Bool.and_eq_true,decide_eq_true_eq] at hB;obtain⟨⟨⟨hsel,hdf⟩,hn⟩,hlex⟩:=hB;have hdl:(l.drop ord.len).length=l.toArray.size - ord.len:=by simp
 rw [<-hdl] at hlex;have H:=(eY (md:=.any) (tl:=l.drop ord.len) hF hsel hdf (λj=>by simp [List.getElem?_drop]) ord true _ a _ hlex h).1 rfl;refine wpIn_region_any hm ?_;have:=iY _ _ _ _ H;rw [hdl,show ord.len+(l.toArray.size - ord.len)=l.toArray.size by omega] at this;exact this
end
end Go
namespace Go
open Go.RowKit
section
variable {F:Fence} {n:Nat} {P:Program} {ops:Array Oper} {md:Region.Mode} {Kp:World->Prop}
def YK (P:Program) (ops:Array Oper) (Kp:World->Prop) (o:Oper) (v:Value) (a:Act):Prop :=
 (Region.wanted o (yielded ops a.tmps)=true/\∀W,Kp W->(execOp a.eval o).run P W=.ok (.value v) W) \/
 (Region.wanted o (yielded ops a.tmps)=false/\v=undef)
theorem YK.of_same {o:Oper} {v:Value} {a a':Act} (hy:YK P ops Kp o v a) (he:execOp a'.eval o=execOp a.eval o)
  (hw:Region.wanted o (yielded ops a'.tmps)=Region.wanted o (yielded ops a.tmps)):YK P ops Kp o v a':=by
 unfold YK at *
 rw [he,hw];exact hy
theorem YK.wpOpIn {i:Nat} {o:Oper} {v:Value} {a:Act} {w:World} (hk:Kp w) (hF:∀f,F.fn f) (hd:∀c,o.op≠.defer c) (hi:ops[i]? = some o) (hy:YK P ops Kp o v a) {Q:Exit->Act->World->Prop} {K:Act->World->Prop} (h:K (a.put o.dst v) w):wpOpIn F n P ops Q i K a w:=by
 unfold Go.wpOpIn;simp only [hi];rcases hy with ⟨hw,hv⟩|⟨hw,rfl⟩
 ·simp only [hw,if_true,Oper.wpIn];refine⟨λf _=>hF f,?_⟩;rw [Oper.semAt_eq _ _ _ hd,hv w hk];exact h
 ·simp only [hw,Bool.false_eq_true,if_false];exact⟨λf _=>hF f,h⟩
def o0 (F:Fence) (n:Nat) (P:Program) (Kp:World->Prop) (md:Region.Mode) (ops:Array Oper) (m:Nat) (T:Array Bool->Act->World->Prop):Nat->Array Bool->Act->World->Prop
 |0,listed,a,w=>T listed a w
 |f+1,listed,a,w=>Region.ready md ops listed≠[]/\∀i∈Region.ready md ops listed,i < m /\
   wpOpIn F n P ops QF i (λa' w'=>Kp w'/\o0 F n P Kp md ops m T f (listed.setIfInBounds i true) a' w') a w
theorem im {m g:Nat} {T:Array Bool->Act->World->Prop} {Q:Exit->Act->World->Prop} (hT:∀listed a w,T listed a w->wpAnyIn F n P md ops Q g listed a w) :
  ∀(f:Nat) (listed:Array Bool) (a:Act) (w:World),o0 F n P Kp md ops m T f listed a w->wpAnyIn F n P md ops Q (f+g) listed a w
 |0,listed,a,w,h=>by rw [Nat.zero_add];exact hT _ _ _ h
 |f+1,listed,a,w,h=>by
  rw [show f+1+g=(f+g)+1 by omega];exact⟨λh0=>absurd h0 h.1,λi hi=>aW (λa' w' h'=>im hT f _ a' w' h'.2) (λ_ _ _ h=>h.elim) (h.2 i hi).2⟩
theorem rb {m i:Nat} {oi:Oper} {v:Value} {T:Array Bool->Act->World->Prop} (hF:∀f,F.fn f) (hi:ops[i]? = some oi) (hsel:∀(j:Nat) (o:Oper) cs b,ops[j]? = some o->o.op≠.select cs b) (hdf:eH ops=true)
  (hs:Region.sinkB md ops m=true) (hc:Region.chainB md ops m=true) (hn:m < ops.size) (him:i < m)
  (hdone:∀listed a w,T listed a w->∀j∈Region.ready md ops listed,m<=j) :
  ∀(f:Nat) (listed:Array Bool) (a:Act) (w:World),Kp w->HeadInv md ops m listed ->
   (∀j oj,ops[j]? = some oj->j≠i->listed.getD j true=false->(∀e∈oj.after,Region.binds md e=true->e.on≠i)->oi.apart ops oj=true) ->
   i∈Region.ready md ops listed->YK P ops Kp oi v a ->
   o0 F n P Kp md ops m T f (listed.setIfInBounds i true) (a.put oi.dst v) w->o0 F n P Kp md ops m T (f+1) listed a w:=by
 intro f
 induction f with
 |zero =>
  intro listed a w hkp inv _ hr hy H;have hun:=(mem_ready.1 hr).1;refine⟨λh=>(by rw [h] at hr;cases hr),λj hj=>?_⟩;have hjm:j < m:=by
   rcases Nat.lt_or_ge j m with h|h
   ·exact h
   ·exact absurd hj (tail_waits hs hc hn inv _ i rfl him hun j h)
  refine⟨hjm,?_⟩;by_cases hji:j=i
  ·subst hji;exact hy.wpOpIn hkp hF (bD hdf _ _ hi) hi ⟨hkp,H⟩
  ·have:=hdone _ _ _ H j (ready_mono hj hji);omega
 |succ f ih =>
  intro listed a w hkp inv hfree hr hy H;have hun:=(mem_ready.1 hr).1;refine⟨λh=>(by rw [h] at hr;cases hr),λj hj=>?_⟩;have hjm:j < m:=by
   rcases Nat.lt_or_ge j m with h|h
   ·exact h
   ·exact absurd hj (tail_waits hs hc hn inv _ i rfl him hun j h)
  refine⟨hjm,?_⟩;by_cases hji:j=i
  ·subst hji;exact hy.wpOpIn hkp hF (bD hdf _ _ hi) hi ⟨hkp,H⟩
  ·have h1:=(H.2 j (ready_mono hj hji)).2;obtain⟨hjun,oj,hoj,hall⟩:=mem_ready.1 hj;have hnot:∀e∈oj.after,Region.binds md e=true->e.on≠i:=λe he hb heq=>by
    have h1:=hall e he hb;rw [heq,getD_both hun] at h1;cases h1
   have h2:=gr hF hoj (hfree j oj hoj hji hjun hnot) (λcs b=>hsel i oi cs b hi) (λcs b=>hsel j oj cs b hoj) (bD hdf _ _ hoj) h1;have hfree':∀k ok,ops[k]? = some ok->k≠i->(listed.setIfInBounds j true).getD k true=false ->
     (∀e∈ok.after,Region.binds md e=true->e.on≠i)->oi.apart ops ok=true:=λk ok hk hki hun hno=>by
    refine hfree k ok hk hki ?_ hno;by_cases hjk:j=k
    ·subst hjk;exact hjun
    ·rw [getD_set_ne true hjk] at hun;exact hun
   refine aW (λa' w' h3=>?_) (λ_ _ _ h=>h) h2;obtain⟨⟨e1,e2⟩,hb,h4⟩:=h3;refine⟨hb,ih (listed.setIfInBounds j true) a' w' hb (inv.set hj hjm) hfree' (ready_mono hr (Ne.symm hji)) (hy.of_same e1 e2) ?_⟩;rw [Array.setIfInBounds_comm _ _ hji];exact h4
def fD (F:Fence) (n:Nat) (P:Program) (Kp:World->Prop) (ops:Array Oper) (Lq:Act->World->Prop):OT->Act->World->Prop
 |.nil,a,w=>Lq a w
 |.rd i r,a,w=>∃o v,ops[i]? = some o/\YK P ops Kp o v a/\fD F n P Kp ops Lq r (a.put o.dst v) w
 |.mk i r,a,w=>wpOpIn F n P ops QF i (λa' w'=>Kp w'/\fD F n P Kp ops Lq r a' w') a w
 |.alt i r u,a,w=>wpOpIn F n P ops QF i (λa' w'=>Kp w'/\fD F n P Kp ops Lq r a' w') a w/\fD F n P Kp ops Lq u a w
theorem gt {m g:Nat} {Lq:Act->World->Prop} (hF:∀f,F.fn f) (hsel:Region.noSelect ops=true) (hdf:eH ops=true) (hs:Region.sinkB md ops m=true) (hc:Region.chainB md ops m=true) (hn:m < ops.size) :
  ∀(l:OT) (top:Bool) (listed:Array Bool) (a:Act) (w:World),Kp w->HeadInv md ops m listed->jD md ops m g l top listed=true->fD F n P Kp ops Lq l a w ->
  (top=true->o0 F n P Kp md ops m (λlisted' a' w'=>Region.seqB md ops g m listed'=true/\Lq a' w') l.len listed a w) /\
  (∀j∈l.heads,j∈Region.ready md ops listed->j < m/\wpOpIn F n P ops QF j (λa' w'=>Kp w'/\o0 F n P Kp md ops m (λlisted' a' w'=>Region.seqB md ops g m listed'=true/\Lq a' w') (l.len - 1) (listed.setIfInBounds j true) a' w') a w)
 |.nil,top,listed,a,w,_,_,hB,h=>⟨λ_=>⟨hB,h⟩,λj hj=>by simp [OT.heads] at hj⟩
 |.rd i r,top,listed,a,w,hkp,inv,hB,h=>by
  simp only [jD,Bool.and_eq_true,decide_eq_true_eq] at hB;obtain⟨⟨⟨him,hr⟩,hf⟩,hB'⟩:=hB;obtain⟨o,v,h0,hy,hK⟩:=h;have hr':i∈Region.ready md ops listed:=by simpa using hr
  exact⟨λ_=>rb hF h0 (Region.noSelect_spec hsel) hdf hs hc hn him (λlisted' a' w' hL=>seqB_ready hL.1) r.len listed a w hkp inv (Region.free_spec h0 hf) hr' hy
   ((gt hF hsel hdf hs hc hn r true _ _ _ hkp (inv.set hr' him) hB' hK).1 rfl),λj hj=>by simp [OT.heads] at hj⟩
 |.mk i r,top,listed,a,w,hkp,inv,hB,h=>by
  simp only [jD,Bool.and_eq_true,decide_eq_true_eq] at hB;obtain⟨⟨him,hr⟩,hB'⟩:=hB;have one:∀j∈(OT.mk i r).heads,j∈Region.ready md ops listed->j < m/\wpOpIn F n P ops QF j (λa' w'=>Kp w'/\o0 F n P Kp md ops m (λlisted' a' w'=>Region.seqB md ops g m listed'=true/\Lq a' w') ((OT.mk i r).len - 1) (listed.setIfInBounds j true) a' w') a w:=by
   intro j hj hjr;have hji:j=i:=by simpa [OT.heads] using hj
   subst hji;exact⟨him,aW (λa' w' h'=>⟨h'.1,(gt hF hsel hdf hs hc hn r true _ _ _ h'.1 (inv.set hjr him) hB' h'.2).1 rfl⟩) (λ_ _ _ h=>h) h⟩
  refine⟨λht=>?_,one⟩;have hr:Region.ready md ops listed=[i]:=by simpa [ht] using hr
  refine⟨by rw [hr];simp,λj hj=>?_⟩;exact one j (by rw [hr] at hj;simpa [OT.heads] using hj) hj
 |.alt i r u,top,listed,a,w,hkp,inv,hB,h=>by
  simp only [jD,Bool.and_eq_true,decide_eq_true_eq] at hB;obtain⟨⟨⟨⟨him,hr⟩,hlen⟩,hB'⟩,hBu⟩:=hB;obtain⟨h1,h2⟩:=h;have hu:=(gt hF hsel hdf hs hc hn u false listed a w hkp inv hBu h2).2;have one:∀j∈(OT.alt i r u).heads,j∈Region.ready md ops listed->j < m/\wpOpIn F n P ops QF j (λa' w'=>Kp w'/\o0 F n P Kp md ops m (λlisted' a' w'=>Region.seqB md ops g m listed'=true/\Lq a' w') ((OT.alt i r u).len - 1) (listed.setIfInBounds j true) a' w') a w:=by
   intro j hj hjr;simp only [OT.heads,List.mem_cons] at hj;rcases hj with rfl|hj
   ·exact⟨him,aW (λa' w' h'=>⟨h'.1,(gt hF hsel hdf hs hc hn r true _ _ _ h'.1 (inv.set hjr him) hB' h'.2).1 rfl⟩) (λ_ _ _ h=>h) h1⟩
   ·have:=hu j hj hjr;rw [hlen,Nat.add_sub_cancel] at this;exact this
  refine⟨λht=>?_,one⟩;have hr:Region.ready md ops listed=i::u.heads:=by simpa [ht] using hr
  refine⟨by rw [hr];simp,λj hj=>?_⟩;exact one j (by rw [hr] at hj;exact hj) hj
theorem jH {id:Nat} {Q:Exit->Act->World->Prop} {a:Act} {w:World} {l:List Oper} (ord:OT) (hF:∀f,F.fn f) (hm:P.follows .mixedOrders=true) (hk:Kp { w with drawn:=w.drawn+1 }) (hB:mG l.toArray ord=true)
  (h:fD F n P Kp l.toArray (λa' w'=>wpListIn F n P l.toArray Q (l.drop ord.len) a' w') ord a { w with drawn:=w.drawn+1 }):(Code.region id l.toArray true).wpIn F n P Q a w:=by
 simp only [mG,Bool.and_eq_true,decide_eq_true_eq] at hB;obtain⟨⟨⟨⟨⟨hsel,hdf⟩,hn⟩,hs⟩,hc⟩,hlex⟩:=hB;have hdl:(l.drop ord.len).length=l.toArray.size - ord.len:=by simp
 have inv0:HeadInv .any l.toArray ord.len (Array.replicate l.toArray.size false) :=
  ⟨by simp,λj oj _ hl=>(by rw [getD_replicate_false] at hl;cases hl),λt _ ht=>getD_in (by simpa using ht) (getD_replicate_false _ _)⟩
 have H:=(gt (md:=.any) (g:=l.toArray.size - ord.len) hF hsel hdf hs hc hn ord true _ a _ hk inv0 hlex h).1 rfl;refine wpIn_region_any hm ?_;have:=im (Q:=Q) (Kp:=Kp) (g:=l.toArray.size - ord.len) (λlisted a' w' hL=>by
  have:=eW (md:=.any) (Q':=Q) hF (l.drop ord.len) ord.len listed a' w' (λj=>by simp [List.getElem?_drop]) (by rw [hdl];exact hL.1) hL.2
  rwa [hdl] at this) _ _ _ _ H
 rw [show ord.len+(l.toArray.size - ord.len)=l.toArray.size by omega] at this;exact this
end
theorem dC {F:Fence} {n:Nat} {P:Program} {Kp:World->Prop} {ops:Array Oper} {L L':Act->World->Prop} (hL:∀a w,L a w->L' a w):∀(l:OT) (a:Act) (w:World),fD F n P Kp ops L l a w->fD F n P Kp ops L' l a w
 |.nil,a,w,h=>hL a w h
 |.rd i r,a,w,h=>by
  obtain⟨o,v,h1,h2,h3⟩:=h;exact⟨o,v,h1,h2,dC hL r _ _ h3⟩
 |.mk i r,a,w,h=>aW (λa' w' h'=>⟨h'.1,dC hL r a' w' h'.2⟩) (λ_ _ _ h=>h) h
 |.alt i r u,a,w,h=>⟨aW (λa' w' h'=>⟨h'.1,dC hL r a' w' h'.2⟩) (λ_ _ _ h=>h) h.1,dC hL u a w h.2⟩
end Go
namespace Go.Ex
open Go Go.RowKit
inductive PV where
 |val (v:Value)
 |ptr (id st i f:Nat)
 |sl (id st lo len:Nat)
 |rs (es n:Nat) (get:Nat->List PV)
 |rp (es n:Nat) (get:Nat->List PV) (i f:Nat)
 |fn (f:Fn) (first caps:List PV)
 |agg (xs:List PV)
 |tup (xs:List PV)
 |junk
 deriving Inhabited
structure Blk where
 ty:TypeId
 es:Nat
 st:Nat
 box:Bool
 arr:Bool
 n:Nat
 get:Nat->List PV
abbrev Heap:=List Blk
structure St where
 fr:Nat->PV
 H:Heap
 nx:Nat
 sv:List (Nat->PV)
def zM (f:Nat->PV) (k:Nat) (v:PV):Nat->PV:=λi=>bif Nat.beq i k then v else f i
structure Ans where
 pre:Option Prop
 val:PV
 out:Heap
abbrev Trans:=List PV->St->(PV->St->Prop)->Prop
structure gu where
 pre:Option Prop
 n:Nat
 xs:Nat->List PV
structure Env where
 call:FuncId->List PV->Option Ans
 own:FuncId->Bool
 inl:FuncId->Option Trans
 seq:FuncId->List PV->Option gu:=λ_ _=>none
 yl:Option (Nat×Trans):=none
 strict:Bool:=false
def uj (c:Option Prop) (K:Prop):Prop:=match c with
 |none=>K
 |some p=>p/\K
def St.ev (s:St):Operand->PV
 |.tmp t=>s.fr t
 |.const v=>.val v
 |.global g=>.val (.pointer (some ⟨g,0,none⟩))
 |.func f=>.val (.func (.func f) #[] #[])
def St.put (s:St) (d:Option Tmp) (v:PV):St :=
 match d with
 |some k=>match s with
  |⟨fr,H,nx,sv⟩=>⟨zM fr k v,H,nx,sv⟩
 |none=>s
def rc:List PV->Option (List Value)
 |[]=>some []
 |.val v::r=>(rc r).map (v::·)
 |_::_=>none
def mkAgg (xs:List PV):PV:=match rc xs with
 |some vs=>.val (.agg ⟨vs⟩)
 |none=>.agg xs
def mkTup (xs:List PV):PV:=match rc xs with
 |some vs=>.val (.tuple ⟨vs⟩)
 |none=>.tup xs
def PV.cells:PV->Option (List PV)
 |.val v=>some (v.cells.toList.map .val)
 |.agg xs=>some xs
 |.tup _=>none
 |.junk=>none
 |p=>some [p]
def eM {α β : Type} (r : α->β->Prop):List α->List β->Prop
 |[],[]=>True
 |x::xs,y::ys=>r x y/\eM r xs ys
 |_,_=>False
def dX (H:Heap) (id st:Nat):Option Blk:=match H[id]? with
 |some b=>if b.st=st then some b else none
 |none=>none
def ep {α β : Type} (f : α->Option β):List α->Option (List β)
 |[]=>some []
 |x::r=>match f x,ep f r with
  |some y,some ys=>some (y::ys)
  |_,_=>none
def deep (H:Heap):Nat->PV->Option PV
 |_,.val v=>some (.val v)
 |_,.rs es n g=>some (.rs es n g)
 |_,.rp es n g i f=>some (.rp es n g i f)
 |d+1,.ptr id st i f=>(dX H id st).bind λb=>match b.box with
  |true=>(ep (deep H d) (b.get 0)).map λc=>.rp b.es 1 (λ_=>c) i f
  |false=>some (.rp b.es b.n b.get i f)
 |d+1,.sl id st lo len=>(dX H id st).bind λb=>match b.box with
  |true=>none
  |false=>some (.rs b.es len λi=>b.get (lo+i))
 |d+1,.fn f first caps=>(ep (deep H d) first).bind λa=>(ep (deep H d) caps).map λb=>.fn f a b
 |d+1,.agg xs=>(ep (deep H d) xs).map mkAgg
 |d+1,.tup xs=>(ep (deep H d) xs).map mkTup
 |_,_=>none
def cr (H:Heap):Nat->PV->List Nat
 |d+1,.ptr id st _ _=>id::(match dX H id st with
  |some b=>(match b.box with
   |true=>(b.get 0).flatMap (cr H d)
   |false=>[])
  |none=>[])
 |_+1,.sl id _ _ _=>[id]
 |d+1,.fn _ a b=>a.flatMap (cr H d)++b.flatMap (cr H d)
 |d+1,.agg xs=>xs.flatMap (cr H d)
 |d+1,.tup xs=>xs.flatMap (cr H d)
 |_,_=>[]
def i5 (ids:List Nat) (nx:Nat):Nat->Heap->Heap
 |_,[]=>[]
 |i,b::r=>(bif ids.contains i then⟨0,0,nx,false,false,0,λ_=>[]⟩ else b)::i5 ids nx (i+1) r
def St.kill (s:St) (ids:List Nat):St :=
 match ids with
 |[]=>s
 |i::r=>match s with
  |⟨fr,H,nx,sv⟩=>⟨fr,i5 (i::r) nx 0 H,nx+1,sv⟩
def frz (s:St) (ps:List PV):Option (St×List PV):=(ep (deep s.H 4) ps).map λqs=>(s.kill (ps.flatMap (cr s.H 4)),qs)
def vp (k nx:Nat):PV->PV
 |.sl id _ lo len=>.sl (id+k) nx lo len
 |.val v=>.val v
 |.rs es n g=>.rs es n g
 |.rp es n g i f=>.rp es n g i f
 |_=>.junk
def imp (k nx:Nat):PV->PV
 |.tup xs=>.tup (xs.map (vp k nx))
 |.agg xs=>.agg (xs.map (vp k nx))
 |p=>vp k nx p
def vq (nx:Nat):Heap->Heap
 |[]=>[]
 |b::r=>⟨b.ty,b.es,nx,b.box,false,b.n,b.get⟩::vq nx r
def eN (E:Env) (s:St) (f:FuncId) (args:List PV):Option (Option Prop×St×PV) :=
 (ep (deep s.H 4) args).bind λds=>(E.call f ds).bind λr =>
  match E.own f with
  |true =>
   let s1:=s.kill (args.flatMap (cr s.H 4))
   some (r.pre,(match s1 with
    |⟨fr,H,nx,sv⟩=>⟨fr,H++vq nx r.out,nx+1,sv⟩),imp s1.H.length s1.nx r.val)
  |false=>match deep r.out 4 r.val with
   |none=>none
   |some (.val v)=>some (r.pre,s,.val v)
   |some q=>some (r.pre,s.kill (args.flatMap (cr s.H 4)),q)
def fp (P:Program) {α : Type}:Sem α->Option α
 |.pure a=>some a
 |.program k=>fp P (k P)
 |.mark _ k=>fp P k
 |_=>none
def bk:PV->Bool
 |.val v=>v.oneCell'
 |.ptr .. | .sl .. | .rs .. | .rp .. | .fn ..=>true
 |_=>false
def isD:PV->Bool
 |.val _ | .rs .. | .rp ..=>true
 |_=>false
def cY (P:Program) (t:TypeId):Option Nat:=(P.info? t).map (·.size)
def jI (P:Program) (t:TypeId):Option Bool:=(P.underlying t).map λd=>match d with
 |.struct _ | .array _ _=>true
 |_=>false
def eZ (get:Nat->List PV):Nat->Nat->List PV
 |_,0=>[]
 |i,m+1=>get i++eZ get (i+1) m
def lj (es m:Nat) (get:Nat->List PV) (i f n:Nat):Option (List PV) :=
 if f+n<=es then some (((get i).drop f).take n)
 else if f=0/\0 < es/\n%es=0/\i+n / es<=m then some (eZ get i (n / es))
 else none
def o3 (P:Program) (t:TypeId) (es m:Nat) (get:Nat->List PV) (i f:Nat):Option PV :=
 (jI P t).bind λr=>match r with
  |true=>(cY P t).bind λn=>(lj es m get i f n).map mkAgg
  |false=>(get i)[f]?
def fq (es:Nat) (cs:List PV) (i:Nat):List PV:=(cs.drop (i*es)).take es
def setCells (es m:Nat) (get:Nat->List PV) (i f:Nat) (vs:List PV):Option (Nat->List PV) :=
 if f=0/\vs.length=es then some λj=>if j=i then vs else get j
 else if f+vs.length<=es then some λj=>if j=i then(get i).take f++vs++(get i).drop (f+vs.length) else get j
 else if i=0/\f=0/\vs.length=m*es then some (fq es vs)
 else none
def lk (P:Program) (t:TypeId) (k:Nat):Option Nat:=match P.underlying t with
 |some (.struct fs)=>(fs[k]?).bind λf=>match cY P f.type with
  |some (_+1)=>some f.offset
  |_=>none
 |_=>none
def rho (s:St) (x:Operand):Value:=match s.ev x with
 |.val v=>v
 |_=>undef
def PV.isVal:PV->Bool
 |.val _=>true
 |_=>false
def vr:Op->List Operand
 |.move x | .assign x | .load _ x | .nilCheck x | .unOp _ _ x | .convert _ _ x | .extract x _ | .field _ x _=>[x]
 |.binOp _ _ x y _ | .index _ x y=>[x,y]
 |.build _ ps=>ps.toList.map (·.2)
 |.makeFunc _ a b=>a.toList++b.toList
 |.slice _ x l h _=>x::(match l with|some l=>[l]|none=>[])++(match h with|some h=>[h]|none=>[])
 |.call c=>c.args.toList
 |_=>[]
def eF (P:Program) (s:St) (o:Oper):Option (Option Prop×PV):=if (vr o.op).all (λx=>(s.ev x).isVal) then
  match fp P (execOp (rho s) o) with
  |some (.value v)=>some (none,.val v)
  |_=>none
 else none
def dj (s:St) (x:Option Operand) (d:Int):Option Int:=match x with
 |none=>some d
 |some x=>match s.ev x with
  |.val (.int _ n)=>some n
  |_=>none
def vu (b:ByteArray) (n:Int):Value:=.int .u8 (b.data.toList[n.toNat]?.getD 0).toNat
def o4 (s:St) (es:Nat):PV->Option (Nat×(Nat->List PV))
 |.sl id st lo len=>(dX s.H id st).bind λb=>if b.es=es/\b.box=false then some (len,λi=>b.get (lo+i)) else none
 |.rs es' n g=>if es'=es then some (n,g) else none
 |.val (.slice none 0 0)=>some (0,λ_=>[])
 |_=>none
def cT (n:Nat) (g:Nat->List PV):ByteArray:=⟨((List.range n).map λi=>match g i with
 |[.val (.int .u8 k)]=>UInt8.ofNat k.toNat
 |_=>0).toArray⟩
def xH (P:Program) (s:St) (o:Oper) (op:BinOp) (p q:PV):Option (Option Prop×PV):=match op,p,q with
 |.shl,.val (.int k a),.val (.int _ b)=>some (some (0<=b),.val (.int k (k.wrap (a*2^min b.toNat k.bits))))
 |.shr,.val (.int k a),.val (.int _ b)=>some (some (0<=b),.val (.int k (a / 2^min b.toNat k.bits)))
 |.quo,.val (.int k a),.val (.int k' b)=>if k=k' then some (some (b≠0),.val (.int k (k.wrap (a.tdiv b)))) else none
 |.rem,.val (.int k a),.val (.int k' b)=>if k=k' then some (some (b≠0),.val (.int k (a.tmod b))) else none
 |.add,.val (.string a),.val (.string b)=>some (some (a.size+b.size<=9223372036854775807),.val (.string (a++b)))
 |.eql,.rs es m _,.val (.slice none 0 0)=>match o.op with
  |.binOp _ t _ _ _=>match P.underlying t with
   |some (.slice _)=>if 0 < es then some (some (0 < m),.val (.bool false)) else none
   |_=>none
  |_=>none
 |_,_,_=>eF P s o
def zeroCells (P:Program) (t:TypeId):Option (List PV):=(P.info? t).bind λi=>i.zero.map λz=>z.cells.toList.map .val
def s8:PV->Option (List PV)
 |.val (.agg cs)=>some (cs.toList.map .val)
 |.agg xs=>some xs
 |_=>none
def s9 (P:Program) (t:TypeId) (cs:List PV) (off:Nat):Option PV:=(jI P t).bind λr=>match r with
 |true=>(cY P t).bind λn=>if off+n<=cs.length then some (mkAgg ((cs.drop off).take n)) else none
 |false=>cs[off]?
def ta (P:Program) (t:TypeId) (cs:List Value) (off:Nat):Option Value:=(jI P t).bind λr=>match r with
 |true=>(cY P t).bind λn=>if off+n<=cs.length then some (.agg ⟨(cs.drop off).take n⟩) else none
 |false=>cs[off]?
def vv (P:Program) (eq:TypeId->Value->Value->Option Bool) (xs ys:List Value):List Field->Option Bool
 |[]=>some true
 |f::fs=>match f.name == "_",ta P f.type xs f.offset,ta P f.type ys f.offset with
  |false,some a,some b=>match eq f.type a b,vv P eq xs ys fs with
   |some r,some q=>some (r&&q)
   |_,_=>none
  |_,_,_=>none
def BV (P:Program):Nat->TypeId->Value->Value->Option Bool
 |0,_,_,_=>none
 |d+1,t,x,y=>match P.underlying t,x,y with
  |some .bool,.bool a,.bool b=>some (a==b)
  |some (.int _),.int k a,.int k' b=>if k=k' then some (a==b) else none
  |some .string,.string a,.string b=>some (a==b)
  |some (.struct fs),.agg xs,.agg ys=>match P.stoodInHeld t with
   |false=>vv P (BV P d) xs.toList ys.toList fs.toList
   |true=>none
  |_,_,_=>none
def eqQ (P:Program) (t:TypeId) (op:BinOp) (p q:PV):Option PV:=match op,p,q with
 |.eql,.val (.agg xs),.val (.agg ys)=>match P.eqGuardType P.depth t with
  |false=>(BV P 6 t (.agg xs) (.agg ys)).map λr=>.val (.bool r)
  |true=>none
 |.neq,.val (.agg xs),.val (.agg ys)=>match P.eqGuardType P.depth t with
  |false=>(BV P 6 t (.agg xs) (.agg ys)).map λr=>.val (.bool (!r))
  |true=>none
 |_,_,_=>none
def i6 (P:Program) (t:TypeId):Option (List (Nat×Nat)):=match P.underlying t with
 |some (.struct fs)=>ep (λf=>(cY P f.type).map λz=>(f.offset,z)) fs.toList
 |some (.array m e)=>(cY P e).map λz=>(List.range m).map λi=>(i*z,z)
 |_=>none
def jJ:Nat->List (Nat×Nat)->List (List PV)->Bool
 |_,[],[]=>true
 |d,(o,z)::r,c::cs=>Nat.beq o d&&Nat.beq c.length z&&jJ (d+z) r cs
 |_,_,_=>false
def re (P:Program) (s:St) (t:TypeId) (ps:List (Nat×Operand)):Option PV:=(i6 P t).bind λpl=>(ep (λp:Nat×Operand=>(s.ev p.2).cells) ps).bind λcs=>(zeroCells P t).bind λz =>
 if ps.map (·.1)=List.range pl.length/\jJ 0 pl cs=true/\z.length=cs.flatten.length then some (mkAgg cs.flatten) else none
def tc (pl:List (Nat×Nat)):List PV->List (Nat×List PV)->Option (List PV)
 |c,[]=>some c
 |c,(k,cs)::r=>match pl[k]? with
  |some (o,z)=>if cs.length=z/\o+z<=c.length then tc pl (c.take o++cs++c.drop (o+z)) r else none
  |none=>none
def rf (P:Program) (s:St) (t:TypeId) (ps:List (Nat×Operand)):Option PV:=(i6 P t).bind λpl=>(ep (λp:Nat×Operand=>((s.ev p.2).cells).map λc=>(p.1,c)) ps).bind λcs=>(zeroCells P t).bind λz=>(tc pl z cs).map mkAgg
def xI:Operand->Option Operand->Option Operand->Bool
 |.tmp 27,some (.tmp 29),some (.tmp 30)=>true
 |_,_,_=>false
def gk (P:Program) (s:St) (o:Oper):Option (Option Prop×PV):=match o.op with
 |.move x | .assign x=>some (none,s.ev x)
 |.pick c a b=>match s.ev c with
  |.val (.bool t)=>some (none,bif t then s.ev a else s.ev b)
  |_=>none
 |.load t x=>match s.ev x with
  |.ptr id st i f=>(dX s.H id st).bind λb=>(o3 P t b.es b.n b.get i f).map λp=>(none,p)
  |.rp es n g i f=>(o3 P t es n g i f).map λp=>(none,p)
  |_=>none
 |.fieldAddr t x k=>(lk P t k).bind λd=>match s.ev x with
  |.ptr id st i f=>(dX s.H id st).bind λ_=>some (none,.ptr id st i (f+d))
  |.rp es n g i f=>some (none,.rp es n g i (f+d))
  |_=>none
 |.indexAddr t x ix=>match P.underlying t,s.ev x,s.ev ix with
  |some (.slice e),.sl id st lo len,.val (.int _ n)=>(dX s.H id st).bind λb =>
    if cY P e=some b.es then some (some (0<=n/\n < (len:Int)),.ptr id st (lo+n.toNat) 0) else none
  |some (.slice e),.rs es m g,.val (.int _ n) =>
    if cY P e=some es/\0 < es then some (some (0<=n/\n < (m:Int)),.rp es m g n.toNat 0) else none
  |some (.array m e),.ptr id st 0 0,.val (.int _ n)=>(dX s.H id st).bind λb =>
    if cY P e=some b.es/\m=b.n then some (some (0<=n/\n < (m:Int)),.ptr id st n.toNat 0) else none
  |_,_,_=>none
 |.slice t x lo hi .none=>match P.underlying t,s.ev x with
  |some (.slice e),.sl id st l len=>(dX s.H id st).bind λb=>match dj s lo 0,dj s hi len with
    |some i,some j=>match xI x lo hi with
     |false=>if cY P e=some b.es then some (some (0<=i/\i<=j/\j<=(len:Int)),.sl id st (l+i.toNat) (j - i).toNat) else none
     |true=>if cY P e=some b.es/\l=0 then some (some (0<=i/\i<=j/\j<=(b.n:Int)),.sl id st i.toNat (j - i).toNat) else none
    |_,_=>none
  |some (.slice e),.rs es m g=>match dj s lo 0,dj s hi m with
    |some i,some j=>if cY P e=some es then some (some (0<=i/\i<=j/\j<=(m:Int)),.rs es (j - i).toNat λk=>g (i.toNat+k)) else none
    |_,_=>none
  |some (.array m e),.ptr id st 0 0=>(dX s.H id st).bind λb=>match dj s lo 0,dj s hi m with
    |some i,some j=>if cY P e=some b.es/\m=b.n/\b.arr=true then some (some (0<=i/\i<=j/\j<=(m:Int)),.sl id st i.toNat (j - i).toNat) else none
    |_,_=>none
  |some .string,.val (.string b)=>match dj s lo 0,dj s hi b.size with
    |some i,some j=>some (some (0<=i/\i<=j/\j<=(b.size:Int)),.val (.string (b.extract i.toNat j.toNat)))
    |_,_=>none
  |_,_=>none
 |.slice t x (some lo) (some hi) (some mx)=>match P.underlying t,s.ev x with
  |some (.slice e),.sl id st _ len=>(dX s.H id st).bind λb=>match dj s (some lo) 0,dj s (some hi) 0,dj s (some mx) 0 with
    |some i,some j,some k=>if cY P e=some b.es then some (some (0<=i/\i<=j/\j<=k/\k<=(len:Int)),.junk) else none
    |_,_,_=>none
  |_,_=>none
 |.extract x i=>match s.ev x with
  |.tup xs=>(xs[i]?).map λp=>(none,p)
  |.val (.tuple vs)=>(vs.toList[i]?).map λv=>(none,.val v)
  |_=>none
 |.build t ps=>match re P s t ps.toList with
  |some p=>some (none,p)
  |none=>if (ps.toList.all λp=>(s.ev p.2).isVal) then eF P s o else(rf P s t ps.toList).map λp=>(none,p)
 |.makeFunc fn first caps=>if (first.toList.all λp=>(s.ev p).isVal)&&(caps.toList.all λp=>(s.ev p).isVal) then eF P s o else
   some (none,.fn fn (first.toList.map s.ev) (caps.toList.map s.ev))
 |.nilCheck x=>match s.ev x with
  |.ptr id st i f=>(dX s.H id st).bind λ_=>some (none,.ptr id st i f)
  |.rp es n g i f=>some (none,.rp es n g i f)
  |.fn (.func k) a b=>some (none,.fn (.func k) a b)
  |.val _=>eF P s o
  |_=>none
 |.call c=>match c.callee with
  |.builtin .len=>match c.args.toList,c.argTypes.toList with
   |[x],[t]=>match P.underlying t,s.ev x with
    |some (.slice _),.sl id st _ len=>(dX s.H id st).bind λ_=>some (none,.val (goInt len))
    |some (.slice _),.rs _ m _=>some (none,.val (goInt m))
    |some .string,.val _=>eF P s o
    |some (.slice _),.val _=>eF P s o
    |_,_=>none
   |_,_=>none
  |.builtin .min | .builtin .max=>eF P s o
  |_=>none
 |.index t x ix=>match P.underlying t,s.ev x,s.ev ix with
  |some .string,.val (.string b),.val (.int _ n)=>some (some (0<=n/\n < (b.size:Int)),.val (vu b n))
  |some (.array m e),p,.val (.int _ n)=>(s8 p).bind λcs=>(cY P e).bind λz=>(s9 P e cs (n.toNat*z)).map λq=>(some (0<=n/\n < (m:Int)),q)
  |_,_,_=>none
 |.binOp op t x y _=>match eqQ P t op (s.ev x) (s.ev y) with
  |some r=>some (none,r)
  |none=>xH P s o op (s.ev x) (s.ev y)
 |.field t x k=>match P.underlying t,s8 (s.ev x) with
  |some (.struct fs),some cs=>(fs[k]?).bind λf=>(s9 P f.type cs f.offset).map λp=>(none,p)
  |_,_=>none
 |.convert src dst x=>match P.underlying src,P.underlying dst with
  |some (.slice e),some .string=>match P.underlying e with
   |some (.int .u8)=>(o4 s 1 (s.ev x)).map λr=>(some (∀i,i < r.1->∃k:Int,r.2 i=[.val (.int .u8 k)]),.val (.string (cT r.1 r.2)))
   |_=>none
  |_,_=>eF P s o
 |.unOp ..=>eF P s o
 |_=>none
def vw (P:Program) (t:TypeId):Option (Bool×Nat×Nat):=match P.underlying t with
 |some (.array m e)=>(cY P e).map λk=>(false,k,m)
 |some _=>(cY P t).map λk=>(true,k,1)
 |none=>none
def St.add (s:St) (ty:TypeId) (es:Nat) (box arr:Bool) (n:Nat) (get:Nat->List PV):St:=match s with
 |⟨fr,H,nx,sv⟩=>⟨fr,H++[⟨ty,es,nx,box,arr,n,get⟩],nx+1,sv⟩
def fu (P:Program) (s:St) (t:TypeId) (cs:List PV):Option (St×PV):=(vw P t).bind λl =>
 if cs.length=l.2.2*l.2.1/\(0 < l.2.2/\l.2.2<=65536)/\cs.all bk=true/\(l.1||cs.all isD)=true then
  some (s.add t l.2.1 l.1 (!l.1) l.2.2 (bif l.1 then λ_=>cs else fq l.2.1 cs),.ptr s.H.length s.nx 0 0) else none
def elemOf (P:Program) (t:TypeId):Option TypeId:=match P.underlying t with
 |some (.slice e)=>some e
 |_=>none
def ll (n:Nat) (g h:Nat->List PV):Nat->List PV:=λi=>if i < n then g i else h (i - n)
def xJ (n:Nat):Option Nat:=match n with
 |0=>none
 |k+1=>some (k+1)
def kQ (P:Program) (s:St) (t:TypeId) (x y:PV):Option (Option Prop×St×PV) :=
 (elemOf P t).bind λe=>(P.info? e).bind λti=>(zeroCells P e).bind λz=>(xJ ti.bytes).bind λq=>(o4 s ti.size y).bind λr =>
  if z.length=ti.size/\0 < ti.size then
   match x with
   |.sl id st 0 len=>(dX s.H id st).bind λb =>
     if b.ty=e/\b.es=ti.size/\b.box=false/\b.arr=false then
      some (some (len=b.n/\(len+r.1)*q<=140737488355328/\len+r.1<=9223372036854775807),
       (match s,b with
        |⟨fr,H,nx,sv⟩,⟨ty,es,_,box,arr,n,get⟩=>⟨fr,H.set id ⟨ty,es,nx,box,arr,n+r.1,ll n get r.2⟩,nx+1,sv⟩),.sl id s.nx 0 (len+r.1))
     else none
   |.val (.slice none 0 0)=>some (some (r.1*q<=140737488355328/\r.1<=9223372036854775807),s.add e ti.size false false r.1 r.2,.sl s.H.length s.nx 0 r.1)
   |_=>none
  else none
def vz:PV->PV->Option (Nat×Nat×Nat)
 |.sl id st 0 len,.sl id' _ _ _=>if id=id' then some (id,st,len) else none
 |_,_=>none
def gv (P:Program) (s:St) (t:TypeId) (id st len:Nat) (y:PV):Option (Option Prop×St×PV) :=
 (elemOf P t).bind λe=>(P.info? e).bind λti=>(dX s.H id st).bind λb=>(o4 s ti.size y).bind λr =>
  if 0 < ti.size/\b.es=ti.size/\b.box=false then
   some (some (len+r.1<=b.n/\0 < b.n),
    (match s,b with
     |⟨fr,H,nx,sv⟩,⟨ty,es,st,box,arr,n,get⟩=>⟨fr,H.set id ⟨ty,es,st,box,arr,n,λi=>if len<=i/\i < len+r.1 then r.2 (i - len) else get i⟩,nx,sv⟩),.sl id st 0 (len+r.1))
  else none
def lm (P:Program) (s:St) (t:TypeId) (x:PV):Option (Option Prop×St×PV):=match x with
 |.sl id st lo len=>(elemOf P t).bind λe=>(zeroCells P e).bind λz=>(dX s.H id st).bind λb =>
   if z.length=b.es/\0 < b.es/\b.box=false/\z.all bk=true then
    some (some (0 < b.n),(match s,b with
     |⟨fr,H,nx,sv⟩,⟨ty,es,st,box,arr,n,get⟩=>⟨fr,H.set id ⟨ty,es,st,box,arr,n,λi=>if lo<=i/\i < lo+len then z else get i⟩,nx,sv⟩),.val (.tuple ⟨[]⟩))
   else none
 |_=>none
def kR (P:Program) (s:St) (o:Oper):Option (Option Prop×St×PV):=match o.op with
 |.alloc t=>(zeroCells P t).bind λcs=>(fu P s t cs).map λr=>(none,r)
 |.box t x=>(s.ev x).cells.bind λcs=>(fu P s t cs).map λr=>(none,r)
 |.store t x y=>match s.ev x with
  |.ptr id st i f=>(dX s.H id st).bind λb=>(s.ev y).cells.bind λcs =>
    if cY P t=some cs.length/\cs.all bk=true/\(b.box||cs.all isD)=true then(setCells b.es b.n b.get i f cs).map λg=>(none,(match s,b with
     |⟨fr,H,nx,sv⟩,⟨ty,es,st,box,arr,n,_⟩=>⟨fr,H.set id ⟨ty,es,st,box,arr,n,g⟩,nx,sv⟩),.val undef) else none
  |_=>none
 |.buildSlice t len ps=>(elemOf P t).bind λe=>(cY P e).bind λes =>
   (ep (λp:Nat×Operand=>(s.ev p.2).cells) ps.toList).bind λels=>(frz s els.flatten).bind λr =>
    if ps.toList.map (·.1)=List.range len/\(els.all λx=>decide (x.length=es))=true/\r.2.all bk=true/\r.2.all isD=true/\len*es<=65536/\len<=65536/\(zeroCells P e).isSome=true then
     some (none,r.1.add e es false false len (fq es r.2),.sl r.1.H.length r.1.nx 0 len) else none
 |.makeSlice t l c=>(elemOf P t).bind λe=>(cY P e).bind λes=>(zeroCells P e).bind λz=>(P.info? e).bind λti=>(xJ ti.bytes).bind λq =>
   match s.ev l,s.ev c with
   |.val (.int .i64 m),.val (.int .i64 m') =>
    if z.length=es/\0 < es/\z.all bk=true then
     some (some (0<=m/\m<=m'/\m'<=9223372036854775807/\q*m'<=281474976710656),s.add e es false false m.toNat (λ_=>z),.sl s.H.length s.nx 0 m.toNat) else none
   |_,_=>none
 |.call c=>match c.callee,c.args.toList,c.argTypes.toList with
  |.builtin .append,[x,y],[t,t']=>if t=t' then match vz (s.ev x) (s.ev y) with
    |some (id,st,len)=>gv P s t id st len (s.ev y)
    |none=>kQ P s t (s.ev x) (s.ev y) else none
  |.builtin .clear,[x],[t]=>lm P s t (s.ev x)
  |_,_,_=>none
 |_=>none
def gw (s:St) (x:Operand):Option (FuncId×List PV×List PV):=match s.ev x with
 |.val (.func (.func k) first caps)=>some (k,first.toList.map .val,caps.toList.map .val)
 |.fn (.func k) first caps=>some (k,first,caps)
 |_=>none
def fc (s:St) (c:Call):Option (FuncId×List PV):=match c.callee with
 |.value x=>(gw s x).bind λf=>some (f.1,f.2.1++c.args.toList.map s.ev++f.2.2)
 |_=>none
def jK (s:St) (c:Call):Option (Nat×List PV):=match c.callee with
 |.value x=>match s.ev x with
  |.val (.func (.yield l) ⟨[]⟩ ⟨[]⟩)=>some (l,c.args.toList.map s.ev)
  |_=>none
 |_=>none
def kS:Op->Bool
 |.buildSlice ..=>true
 |_=>false
def jL:Op->Option Call
 |.call c=>some c
 |_=>none
def toNat (n:Nat) (K:Nat->Prop):Prop:=match n with
 |0=>K 0
 |k+1=>K (k+1)
def PV.to (p:PV) (K:PV->Prop):Prop:=match p with
 |.val v=>K (.val v)
 |.ptr a b c d=>toNat a λa=>toNat b λb=>K (.ptr a b c d)
 |.sl a b c d=>toNat a λa=>toNat b λb=>K (.sl a b c d)
 |.rs a b c=>K (.rs a b c)
 |.rp a b c d e=>K (.rp a b c d e)
 |.fn a b c=>K (.fn a b c)
 |.agg xs=>K (.agg xs)
 |.tup xs=>K (.tup xs)
 |.junk=>K .junk
def BY:List PV->(List PV->Prop)->Prop
 |[],K=>K []
 |p::r,K=>p.to λp=>BY r λr=>K (p::r)
def Blk.to (b:Blk) (K:Blk->Prop):Prop:=match b with
 |⟨ty,es,st,box,arr,n,get⟩=>toNat st λst=>match box,arr with
  |true,true=>K ⟨ty,es,st,true,true,n,get⟩
  |true,false=>K ⟨ty,es,st,true,false,n,get⟩
  |false,true=>K ⟨ty,es,st,false,true,n,get⟩
  |false,false=>K ⟨ty,es,st,false,false,n,get⟩
def Heap.to:Heap->(Heap->Prop)->Prop
 |[],K=>K []
 |b::r,K=>b.to λb=>Heap.to r λr=>K (b::r)
def St.to (s:St) (K:St->Prop):Prop:=match s with
 |⟨fr,H,nx,sv⟩=>K ⟨fr,H,nx,sv⟩
def St.toH (s:St) (K:St->Prop):Prop:=match s with
 |⟨fr,H,nx,sv⟩=>Heap.to H λH=>toNat nx λnx=>K ⟨fr,H,nx,sv⟩
def iz (P:Program) (E:Env) (d:Bool) (s:St) (o:Oper) (K:Bool->St->Prop):Prop:=match gk P s o with
 |some r=>uj r.1 (r.2.to λp=>(s.put o.dst p).to (K false))
 |none=>match kR P s o with
  |some r=>match E.strict,kS o.op with
   |true,true=>False
   |_,_=>uj r.1 (r.2.1.toH λs=>r.2.2.to λp=>(s.put o.dst p).to (K false))
  |none=>match jL o.op with
   |none=>False
   |some c=>match fc s c with
    |none=>match E.yl,jK s c with
     |some (l,T),some (l',args)=>l'=l/\BY args λargs=>T args s λp s'=>s'.toH λs=>p.to λp=>(s.put o.dst p).to (K true)
     |_,_=>False
    |some (f,args)=>match E.inl f with
     |some T=>match (bif E.strict then true else d) with
      |true=>False
      |false=>BY args λargs=>T args s λp s'=>s'.toH λs=>p.to λp=>(s.put o.dst p).to (K true)
     |none=>match eN E s f args with
      |none=>False
      |some r=>match (bif E.strict then true else d),r.2.2 with
       |false,p=>uj r.1 (r.2.1.toH λs=>p.to λp=>(s.put o.dst p).to (K false))
       |true,.val v=>match E.own f with
        |false=>uj r.1 ((s.put o.dst (.val v)).to (K false))
        |true=>False
       |true,_=>False
def gU (ops:List Oper) (kn:List (Nat×Bool)) (s:St) (o:Oper) (yes no:List (Nat×Bool)->St->Prop):Prop:=match o.guard with
 |none=>yes kn s
 |some (j,b)=>match (ops[j]?).bind (·.dst) with
  |none=>False
  |some t=>match s.fr t with
   |.val (.bool c)=>match kn.lookup t with
    |some k=>match k,b with
     |true,true|false,false=>yes kn s
     |_,_=>no kn s
    |none=>(c=b->yes ((t,b)::kn) (s.put (some t) (.val (.bool b))))/\(c = !b->no ((t,!b)::kn) (s.put (some t) (.val (.bool !b))))
   |.val (.tuple _)=>no kn s
   |_=>False
def i7 (d:Option Tmp) (kn:List (Nat×Bool)):List (Nat×Bool):=match d with
 |none=>kn
 |some d=>kn.filter λx=>!(x.1==d)
noncomputable def gx (P:Program) (E:Env) (d:Bool) (ops:List Oper):List Oper->List (Nat×Bool)->St->(St->Prop)->Prop :=
 List.rec (motive:=λ_=>List (Nat×Bool)->St->(St->Prop)->Prop) (λ_ s K=>K s)
  (λo _ ih kn s K=>gU ops kn s o (λkn s=>iz P E d s o λch s=>ih (bif ch then [] else i7 o.dst kn) s K) (λkn s=>ih (i7 o.dst kn) (s.put o.dst (.val undef)) K))
theorem iA {P:Program} {E:Env} {d:Bool} {ops:List Oper} {o:Oper} {r:List Oper} {kn:List (Nat×Bool)} {s:St} {K:St->Prop} :
  gx P E d ops (o::r) kn s K=gU ops kn s o (λkn s=>iz P E d s o λch s=>gx P E d ops r (bif ch then [] else i7 o.dst kn) s K) (λkn s=>gx P E d ops r (i7 o.dst kn) (s.put o.dst (.val undef)) K):=rfl
def cw (P:Program) (E:Env) (ops:List Oper) (i:Nat) (next:List (Nat×Bool)->St->(St->Prop)->Prop) (kn:List (Nat×Bool)) (s:St) (K:St->Prop):Prop:=match ops[i]? with
 |none=>False
 |some o=>gU ops kn s o (λkn s=>iz P E false s o λch s=>next (bif ch then [] else i7 o.dst kn) s K) (λkn s=>next (i7 o.dst kn) (s.put o.dst (.val undef)) K)
noncomputable def cz (P:Program) (E:Env) (ops:List Oper):OT->List (Nat×Bool)->St->(St->Prop)->Prop :=
 OT.rec (motive:=λ_=>List (Nat×Bool)->St->(St->Prop)->Prop) (λ_ s K=>K s) (λi _ ih=>cw P E ops i ih) (λi _ ih=>cw P E ops i ih) (λi _ _ ih ihu kn s K=>cw P E ops i ih kn s K/\ihu kn s K)
def BZ:Op->Bool
 |.move _ | .fieldAddr .. | .build ..=>true
 |_=>false
def o5 (s:St) (o:Oper):Prop:=match o.op with
 |.load _ x=>match s.ev x with
  |.rp ..=>True
  |_=>False
 |.binOp _ _ x _ _=>match s.ev x with
  |.val (.int _ _)=>True
  |_=>False
 |_=>True
def B0:Op->Bool
 |.move _ | .fieldAddr .. | .load .. | .binOp .add ..=>true
 |_=>false
noncomputable def zN (P:Program) (E:Env) (ops:List Oper) (l:OT):List Nat->List (Nat×Bool)->St->(St->Prop)->Prop :=
 List.rec (motive:=λ_=>List (Nat×Bool)->St->(St->Prop)->Prop) (λkn s K=>cz P E ops l kn s K)
  (λi _ ih kn s K=>match ops[i]? with
   |none=>False
   |some o=>o5 s o/\iz P E false s o λch s=>ih (bif ch then [] else i7 o.dst kn) s K)
def start (args:List PV):St:={ fr:=λt=>(args[t]?).getD (.val undef),H:=[],nx:=0,sv:=[] }
def jM (P:Program) (s:St):ResultVar->Option PV
 |.tmp t=>some (s.fr t)
 |.cell x t=>match s.fr x with
  |.ptr id st i f=>(dX s.H id st).bind λb=>o3 P t b.es b.n b.get i f
  |_=>none
def ln (P:Program) (s:St) (rs:List ResultVar):Option PV:=match rs with
 |[x]=>jM P s x
 |_=>(ep (jM P s) rs).map .tup
structure Acc where
 ids:List Nat
 out:Heap
 seen:List Nat
def td (H:Heap) (acc:Acc) (p:PV):Option (Acc×PV) :=
 let other:=(deep H 4 p).map λq=>({ acc with seen:=acc.seen++cr H 4 p },q)
 match p with
 |.sl id st 0 len=>(dX H id st).bind λb =>
   if b.box=false/\acc.ids.contains id=false then
    some (⟨acc.ids++[id],acc.out++[⟨b.ty,b.es,0,false,false,len,b.get⟩],acc.seen⟩,.sl acc.out.length 0 0 len)
   else other
 |_=>other
def mH (f:Acc->PV->Option (Acc×PV)):Acc->List PV->Option (Acc×List PV)
 |acc,[]=>some (acc,[])
 |acc,p::r=>(f acc p).bind λx=>(mH f x.1 r).map λy=>(y.1,x.2::y.2)
def te (H:Heap) (acc:Acc):PV->Option (Acc×PV)
 |.agg xs=>(mH (td H) acc xs).map λy=>(y.1,mkAgg y.2)
 |p=>td H acc p
def vA (H:Heap) (acc:Acc):PV->Option (Acc×PV)
 |.tup xs=>(mH (te H) acc xs).map λy=>(y.1,mkTup y.2)
 |p=>te H acc p
def zO (H:Heap) (p:PV):Option (PV×Heap):=(vA H ⟨[],[],[]⟩ p).bind λy=>if (y.1.seen.all λi=>!(y.1.ids.contains i))=true then some (y.2,y.1.out) else none
structure Ord where
 draws:Nat->Bool:=λ_=>false
 perm:Nat->Option OT:=λ_=>none
 all:Nat->Option OT:=λ_=>none
 frz:Nat->Option (List Nat×OT):=λ_=>none
def i8:Op->Bool
 |.move _ | .assign _ | .pick .. | .load .. | .fieldAddr .. | .indexAddr .. | .slice .. | .extract .. | .build .. | .makeFunc .. | .nilCheck _ | .binOp .. | .unOp .. | .convert .. | .field .. | .index ..=>true
 |.call c=>match c.callee with
  |.value _ | .builtin .len | .builtin .min | .builtin .max=>true
  |_=>false
 |_=>false
def aT (n:Nat):Operand->Bool
 |.tmp t=>decide (t < n)
 |_=>true
def bI (n:Nat) (o:Oper):Bool:=o.op.operands.all (aT n)&&(match o.dst with|some d=>decide (d < n)|none=>true)&&(match o.op with | .select ..=>false|_=>true)
def i9 (ops:Array Oper):Nat->Option Nat
 |0=>if Region.lexTailB .any ops 0 then some 0 else none
 |m+1=>if Region.lexTailB .any ops (m+1)&&(ops.toList.take (m+1)).all (λo=>i8 o.op) then some (m+1) else i9 ops m
def rg:Op->Bool
 |.alloc _ | .box .. | .makeSlice .. | .buildSlice ..=>true
 |_=>false
def rh (op:Op):Bool:=rg op||(match op with
 |.call c=>match c.callee with
  |.value _=>true
  |_=>false
 |_=>false)
def dx (ops:Array Oper) (x:Nat×Bool):Bool:=match ops[x.1]? with
 |none=>false
 |some o=>match x.2 with
  |true=>i8 o.op&&(match o.op with
   |.call c=>match c.callee with
    |.value _=>false
    |_=>true
   |_=>true)
  |false=>rh o.op
def eO (ops:Array Oper):OT->Bool
 |.nil=>true
 |.rd i t=>dx ops (i,true)&&eO ops t
 |.mk i t=>dx ops (i,false)&&eO ops t
 |.alt i t u=>dx ops (i,false)&&eO ops t&&eO ops u
def kT (ops:Array Oper) (i:Nat):Bool:=match ops[i]? with
 |none=>false
 |some o=>B0 o.op&&o.guard.isNone&&dx ops (i,true)
def fE (ops:Array Oper):OT->Bool
 |.nil=>true
 |.rd i t=>(match ops[i]? with
  |none=>false
  |some o=>BZ o.op&&o.guard.isNone&&dx ops (i,true))&&fE ops t
 |.mk i t=>dx ops (i,false)&&fE ops t
 |.alt i t u=>dx ops (i,false)&&fE ops t&&fE ops u
def lp (D:Ord) (id:Nat) (ops:Array Oper) (draw:Bool):Bool :=
 !draw||match D.all id with
 |some l=>vo ops l
 |none=>match D.frz id with
 |some l=>mG ops (OT.rds l.1 l.2)&&l.1.all (kT ops)&&fE ops l.2
 |none=>match D.perm id with
 |some l=>(mG ops l||ra ops l)&&eO ops l
 |none=>(if D.draws id then Region.lexTailB .any ops 0 else(Region.lexB .any ops&&ops.toList.all (λo=>i8 o.op))||(i9 ops ops.size).isSome)
def cN (D:Ord) (n:Nat):Code->Bool
 |.region id ops draw=>ops.toList.all (bI n)&&lp D id ops draw
 |.seq a b=>cN D n a&&cN D n b
 |.cond c x y=>aT n c&&cN D n x&&cN D n y
 |.block _ b=>cN D n b
 |.loop b=>cN D n b
 |.rangeFunc g ps a b=>aT n g&&ps.toList.all (λp=>decide (p < n))&&cN D n a&&cN D n b
 |_=>true
def ak (D:Ord) (fn:Func) (m:Nat):Bool:=(match fn.body with
 |some c=>cN D fn.ntmps c
 |none=>false)&&decide (m<=fn.ntmps)&&(fn.results.toList.all λr=>match r with
  |.tmp t=>decide (t < fn.ntmps)
  |.cell t _=>decide (t < fn.ntmps))&&(fn.name != "runtime.NumGoroutine")
end Go.Ex
namespace Go.Ex
open Go Go.RowKit
def sub (es lo len:Nat):Value->Value
 |.slice (some a) _ c=>.slice (some (a.add (lo*es))) len (c - lo)
 |v=>v
inductive R0 (ok:Nat->Prop) (w:World):PV->Value->Prop
 |val (v:Value):R0 ok w (.val v) v
 |rs (es n:Nat) (g:Nat->List PV) (a:Option Addr) (c:Nat) (u:Nat->Nat->Value) (hl:∀i,i < n->(g i).length=es/\∀p∈g i,bk p=true)
   (hc:n<=c) (hm:c<=maxLen)
   (h1:∀(i f:Nat) p,i < n->(g i)[f]? = some p->∃b o,a=some ⟨b,o,none⟩/\ok b/\w.cell? ⟨b,o+(i*es+f),none⟩=some (u i f))
   (h2:∀(i f:Nat) p,i < n->(g i)[f]? = some p->R0 ok w p (u i f)):R0 ok w (.rs es n g) (.slice a n c)
 |rp (es n:Nat) (g:Nat->List PV) (i f b o:Nat) (u:Nat->Nat->Value) (hl:∀i,i < n->(g i).length=es/\∀p∈g i,bk p=true)
   (hb:ok b) (hi:i < n)
   (h1:∀(i f:Nat) p,i < n->(g i)[f]? = some p->w.cell? ⟨b,o+(i*es+f),none⟩=some (u i f))
   (h2:∀(i f:Nat) p,i < n->(g i)[f]? = some p->R0 ok w p (u i f)):R0 ok w (.rp es n g i f) (.pointer (some ⟨b,o+(i*es+f),none⟩))
 |fn (f:Fn) (xs ys:List PV) (us vs:Array Value) (l1:xs.length=us.size) (l2:ys.length=vs.size)
   (h1:∀(i:Nat) p u,xs[i]? = some p->us[i]? = some u->R0 ok w p u) (h2:∀(i:Nat) p u,ys[i]? = some p->vs[i]? = some u->R0 ok w p u):R0 ok w (.fn f xs ys) (.func f us vs)
 |agg (xs:List PV) (vs:Array Value) (l:xs.length=vs.size) (h:∀(i:Nat) p u,xs[i]? = some p->vs[i]? = some u->R0 ok w p u):R0 ok w (.agg xs) (.agg vs)
 |tup (xs:List PV) (vs:Array Value) (l:xs.length=vs.size) (h:∀(i:Nat) p u,xs[i]? = some p->vs[i]? = some u->R0 ok w p u):R0 ok w (.tup xs) (.tuple vs)
theorem R0.later {ok ok':Nat->Prop} {w w':World} (h1:∀b,ok b->ok' b) (h2:∀(a:Addr) v,ok a.block->w.cell? a=some v->w'.cell? a=some v) {p:PV} {v:Value} (h:R0 ok w p v):R0 ok' w' p v:=by
 induction h with
 |val v=>exact .val v
 |rs es n g a c u hl hc hm k1 k2 ih =>
  refine .rs es n g a c u hl hc hm (λi f p hi hp=>?_) ih;obtain⟨b,o,e,hb,hcell⟩:=k1 i f p hi hp;exact⟨b,o,e,h1 _ hb,h2 _ _ hb hcell⟩
 |rp es n g i f b o u hl hb hi k1 k2 ih=>exact .rp es n g i f b o u hl (h1 _ hb) hi (λi f p hi hp=>h2 _ _ hb (k1 i f p hi hp)) ih
 |fn f xs ys us vs l1 l2 k1 k2 ih1 ih2=>exact .fn f xs ys us vs l1 l2 ih1 ih2
 |agg xs vs l k ih=>exact .agg xs vs l ih
 |tup xs vs l k ih=>exact .tup xs vs l ih
inductive R (ok:Nat->Prop) (w:World) (H:Heap) (β : Nat->Value) (nx:Nat):PV->Value->Prop
 |deep (p:PV) (v:Value) (h:R0 ok w p v):R ok w H β nx p v
 |ptr (id st i f:Nat) (v:Value) (h0:v.oneCell'=true) (h1:st < nx)
   (h2:∀b,dX H id st=some b->∃g c,β id=.slice (some ⟨g,0,none⟩) b.n c/\i < b.n/\v=.pointer (some ⟨g,i*b.es+f,none⟩)):R ok w H β nx (.ptr id st i f) v
 |sl (id st lo len:Nat) (v:Value) (h0:v.oneCell'=true) (h1:st < nx)
   (h2:∀b,dX H id st=some b->(v=sub b.es lo len (β id)\/lo≠0/\len=0/\∃ad,v=.slice ad 0 0)/\lo+len<=b.n):R ok w H β nx (.sl id st lo len) v
 |fn (f:Fn) (xs ys:List PV) (us vs:Array Value) (l1:xs.length=us.size) (l2:ys.length=vs.size)
   (h1:∀(i:Nat) p u,xs[i]? = some p->us[i]? = some u->R ok w H β nx p u) (h2:∀(i:Nat) p u,ys[i]? = some p->vs[i]? = some u->R ok w H β nx p u):R ok w H β nx (.fn f xs ys) (.func f us vs)
 |agg (xs:List PV) (vs:Array Value) (l:xs.length=vs.size) (h:∀(i:Nat) p u,xs[i]? = some p->vs[i]? = some u->R ok w H β nx p u):R ok w H β nx (.agg xs) (.agg vs)
 |tup (xs:List PV) (vs:Array Value) (l:xs.length=vs.size) (h:∀(i:Nat) p u,xs[i]? = some p->vs[i]? = some u->R ok w H β nx p u):R ok w H β nx (.tup xs) (.tuple vs)
 |junk (v:Value):R ok w H β nx .junk v
theorem R.val {ok:Nat->Prop} {w:World} {H:Heap} {β : Nat->Value} {nx:Nat} (v:Value):R ok w H β nx (.val v) v:=.deep _ _ (.val v)
theorem R.rs_inv {ok:Nat->Prop} {w:World} {H:Heap} {β : Nat->Value} {nx es n:Nat} {g:Nat->List PV} {v:Value} (h:R ok w H β nx (.rs es n g) v):R0 ok w (.rs es n g) v:=by cases h;assumption
theorem R.rp_inv {ok:Nat->Prop} {w:World} {H:Heap} {β : Nat->Value} {nx es n i f:Nat} {g:Nat->List PV} {v:Value} (h:R ok w H β nx (.rp es n g i f) v):R0 ok w (.rp es n g i f) v:=by cases h;assumption
theorem R.fn_inv {ok:Nat->Prop} {w:World} {H:Heap} {β : Nat->Value} {nx:Nat} {f:Fn} {xs ys:List PV} {v:Value} (h:R ok w H β nx (.fn f xs ys) v) :
  ∃us vs,v=.func f us vs/\xs.length=us.size/\ys.length=vs.size/\(∀(i:Nat) p u,xs[i]? = some p->us[i]? = some u->R ok w H β nx p u)/\(∀(i:Nat) p u,ys[i]? = some p->vs[i]? = some u->R ok w H β nx p u):=by
 cases h with
 |deep _ _ h=>cases h with
  |fn _ _ _ us vs l1 l2 h1 h2=>exact⟨us,vs,rfl,l1,l2,λi p u a b=>.deep _ _ (h1 i p u a b),λi p u a b=>.deep _ _ (h2 i p u a b)⟩
 |fn _ _ _ us vs l1 l2 h1 h2=>exact⟨us,vs,rfl,l1,l2,h1,h2⟩
theorem R.tup_inv {ok:Nat->Prop} {w:World} {H:Heap} {β : Nat->Value} {nx:Nat} {xs:List PV} {v:Value} (h:R ok w H β nx (.tup xs) v) :
  ∃vs,v=.tuple vs/\xs.length=vs.size/\(∀(i:Nat) p u,xs[i]? = some p->vs[i]? = some u->R ok w H β nx p u):=by
 cases h with
 |deep _ _ h=>cases h with
  |tup _ vs l h1=>exact⟨vs,rfl,l,λi p u a b=>.deep _ _ (h1 i p u a b)⟩
 |tup _ vs l h1=>exact⟨vs,rfl,l,h1⟩
theorem R.agg_inv {ok:Nat->Prop} {w:World} {H:Heap} {β : Nat->Value} {nx:Nat} {xs:List PV} {v:Value} (h:R ok w H β nx (.agg xs) v) :
  ∃vs,v=.agg vs/\xs.length=vs.size/\(∀(i:Nat) p u,xs[i]? = some p->vs[i]? = some u->R ok w H β nx p u):=by
 cases h with
 |deep _ _ h=>cases h with
  |agg _ vs l h1=>exact⟨vs,rfl,l,λi p u a b=>.deep _ _ (h1 i p u a b)⟩
 |agg _ vs l h1=>exact⟨vs,rfl,l,h1⟩
structure gy (ok ok':Nat->Prop) (w w':World) (H H':Heap) (β β':Nat->Value) (nx nx':Nat):Prop where
 le:nx<=nx'
 oks:∀b,ok b->ok' b
 cell:∀(a:Addr) v,ok a.block->w.cell? a=some v->w'.cell? a=some v
 same:∀id st b',st < nx->dX H' id st=some b'->∃b,dX H id st=some b/\b.es=b'.es/\b.n=b'.n/\β' id = β id
theorem R.later {ok ok':Nat->Prop} {w w':World} {H H':Heap} {β β':Nat->Value} {nx nx':Nat} (L:gy ok ok' w w' H H' β β' nx nx') {p:PV} {v:Value} (h:R ok w H β nx p v):R ok' w' H' β' nx' p v:=by
 induction h with
 |deep p v h=>exact .deep p v (h.later L.oks L.cell)
 |ptr id st i f v h0 h1 h2 =>
  refine .ptr _ _ _ _ _ h0 (Nat.lt_of_lt_of_le h1 L.le) λb' hb'=>?_;obtain⟨b,hb,e1,e2,e3⟩:=L.same id st b' h1 hb';obtain⟨g,c,e4,e5,e6⟩:=h2 b hb;exact⟨g,c,by rw [e3,e4,e2],by omega,by rw [e6,e1]⟩
 |sl id st lo len v h0 h1 h2 =>
  refine .sl _ _ _ _ _ h0 (Nat.lt_of_lt_of_le h1 L.le) λb' hb'=>?_;obtain⟨b,hb,e1,e2,e3⟩:=L.same id st b' h1 hb';obtain⟨e4,e5⟩:=h2 b hb;exact⟨by rw [e3,<-e1];exact e4,by omega⟩
 |fn f xs ys us vs l1 l2 h1 h2 ih1 ih2=>exact .fn f xs ys us vs l1 l2 ih1 ih2
 |agg xs vs l h ih=>exact .agg xs vs l ih
 |tup xs vs l h ih=>exact .tup xs vs l ih
 |junk v=>exact .junk v
structure bE extends World where
 pin:Nat->Option Obj:=λ_=>none
 old:Nat->Option Obj:=λ_=>none
def Marks (b:bE) (ds:List Deferred):Prop:=ds.Nodup/\∀d∈ds,∃D,d={ target:=.collected D,args:=#[] }/\b.pin D=some (.deferred (some []))/\b.heap.size<=D/\b.old D=none
theorem Marks.nil (b:bE):Marks b []:=⟨List.nodup_nil,by simp⟩
structure HRel (base:Nat) (ok:Nat->Prop) (w:World) (H:Heap) (β : Nat->Value) (nx:Nat):Prop where
 stl:∀(id:Nat) b,H[id]? = some b->b.st < nx
 own:∀(id:Nat) b,H[id]? = some b->∃xs,w.ownsRow base b.ty b.es (β id) b.n xs/\(∀i,i < b.n->(b.get i).length=b.es/\∀p∈b.get i,bk p=true)/\(b.box=true->b.n=1)/\(b.arr=true->∃g,β id=.slice (some ⟨g,0,none⟩) b.n b.n) /\
  ∀(i f:Nat) p,i < b.n->(b.get i)[f]? = some p->∃u,xs[i*b.es+f]? = some u/\R ok w H β nx p u/\(b.box=false->R0 ok w p u)
 inj:∀id id',id≠id'->id < H.length->id' < H.length->(β id).ownBlock=none\/(β id).ownBlock≠(β id').ownBlock
 notok:∀id k,id < H.length->(β id).ownBlock=some k->¬ok k
theorem da {α β : Type} {r : α->β->Prop}:∀{xs:List α} {ys:List β},eM r xs ys->xs.length=ys.length
 |[],[],_=>rfl
 |_::_,_::_,h=>by simp [da h.2]
 |[],_::_,h=>by cases h
 |_::_,[],h=>by cases h
theorem fe {α β : Type} {r : α->β->Prop}:∀{xs:List α} {ys:List β},eM r xs ys->∀(i:Nat) y,ys[i]? = some y->∃x,xs[i]? = some x/\r x y
 |[],[],_,i,y,h=>by simp at h
 |x::xs,y::ys,h,0,z,e=>by simp only [List.getElem?_cons_zero,Option.some.injEq] at e;subst e;exact⟨x,by simp,h.1⟩
 |x::xs,y::ys,h,i+1,z,e=>by simpa using fe h.2 i z (by simpa using e)
 |[],_::_,h,_,_,_=>by cases h
 |_::_,[],h,_,_,_=>by cases h
theorem cp {α β : Type} {r r' : α->β->Prop} (h:∀x y,r x y->r' x y):∀{xs:List α} {ys:List β},eM r xs ys->eM r' xs ys
 |[],[],_=>trivial
 |_::_,_::_,k=>⟨h _ _ k.1,cp h k.2⟩
 |[],_::_,k=>by cases k
 |_::_,[],k=>by cases k
structure Rel (G:List (Array Value)) (n:Nat) (w0:bE) (ok:Nat->Prop) (a:Act) (w:World) (s:St) (β : Nat->Value):Prop where
 fr:∀t,t < n->R ok w s.H β s.nx (s.fr t) (a.tmps.getD t undef)
 size:a.tmps.size=n
 defers:Marks w0 a.defers
 heap:HRel w0.heap.size ok w s.H β s.nx
 ext:Below w0.heap.size w0.toWorld w
 oklt:∀k,ok k->k < w.heap.size
 sv:eM (λf (tm:Array Value)=>∀t,t < tm.size->R ok w s.H β s.nx (f t) (tm.getD t undef)) s.sv G
 pins:∀k o,w0.pin k=some o->ok k/\w.heap[k]? = some o
theorem Rel.below {G:List (Array Value)} {n:Nat} {w0:bE} {ok:Nat->Prop} {a:Act} {w w':World} {s:St} {β : Nat->Value} (h:Rel G n w0 ok a w s β) (hb:Below w.heap.size w w'):Rel G n w0 ok a w' s β:=by
 have hL:gy ok ok w w' s.H s.H β β s.nx s.nx:=⟨Nat.le_refl _,λ_ h=>h,λa v hk hc=>by rw [hb.cell (h.oklt _ hk)];exact hc,λid st b' _ e=>⟨b',e,rfl,rfl,rfl⟩⟩;refine⟨λt ht=>(h.fr t ht).later hL,h.size,h.defers,⟨h.heap.stl,λid b e=>?_,h.heap.inj,h.heap.notok⟩,h.ext.trans (hb.mono h.ext.size),λk hk=>Nat.lt_of_lt_of_le (h.oklt k hk) hb.size,cp (λf tm hf t ht=>(hf t ht).later hL) h.sv,λk o hp=>⟨(h.pins k o hp).1,(hb.block k (h.oklt k (h.pins k o hp).1)).trans (h.pins k o hp).2⟩⟩;obtain⟨xs,h1,h2,hb1,hb2,h3⟩:=h.heap.own id b e;refine⟨xs,h1.kept (row:=none) ⟨hb.os,hb.tape,hb.output,hb.size,λk hk _=>hb.block k hk⟩ (by cases (β id).ownBlock<;>simp),h2,hb1,hb2,λi f p hi hp=>?_⟩;obtain⟨u,e1,e2,e3⟩:=h3 i f p hi hp;exact⟨u,e1,e2.later hL,λhx=>(e3 hx).later hL.oks hL.cell⟩
theorem ja {f:Nat->PV} {k:Nat} {v:PV}:zM f k v k=v:=by
 unfold zM;rw [show Nat.beq k k=true from Nat.beq_refl k];rfl
theorem lq {f:Nat->PV} {i k:Nat} {v:PV} (h:¬i=k):zM f k v i=f i:=by
 unfold zM;have:Nat.beq i k=false:=by
  cases e:Nat.beq i k with
  |false=>rfl
  |true=>exact absurd (Nat.eq_of_beq_eq_true e) h
 rw [this];rfl
theorem lr {n:Nat} {K:Nat->Prop}:toNat n K=K n:=by cases n<;>rfl
theorem PV.to_eq {p:PV} {K:PV->Prop}:p.to K=K p:=by cases p<;>simp only [PV.to,lr]
theorem rm:∀{l:List PV} {K:List PV->Prop},BY l K=K l
 |[],_=>rfl
 |p::r,K=>by simp only [BY,PV.to_eq,rm (l:=r)]
theorem Blk.to_eq {b:Blk} {K:Blk->Prop}:b.to K=K b:=by
 obtain⟨_,_,st,box,arr,_,_⟩:=b;unfold Blk.to;simp only [lr];cases box<;>cases arr<;>rfl
theorem Heap.to_eq:∀{H:Heap} {K:Heap->Prop},Heap.to H K=K H
 |[],_=>rfl
 |b::r,K=>by simp only [Heap.to,Blk.to_eq,Heap.to_eq (H:=r)]
theorem St.to_eq {s:St} {K:St->Prop}:s.to K=K s:=rfl
theorem St.toH_eq {s:St} {K:St->Prop}:s.toH K=K s:=by
 obtain⟨_,_,_,_⟩:=s;simp only [St.toH,Heap.to_eq,lr]
theorem Rel.put {G:List (Array Value)} {n:Nat} {w0:bE} {ok:Nat->Prop} {a:Act} {w:World} {s:St} {β : Nat->Value} (h:Rel G n w0 ok a w s β) (d:Option Tmp) {p:PV} {v:Value} (hp:R ok w s.H β s.nx p v):Rel G n w0 ok (a.put d v) w (s.put d p) β:=by
 cases d with
 |none=>exact h
 |some k =>
  refine⟨λt ht=>?_,by simp [Act.put,h.size],h.defers,h.heap,h.ext,h.oklt,h.sv,h.pins⟩;have hs:=h.size;by_cases e:t=k
  ·subst e;simp only [St.put,ja,Act.put,Array.getD_eq_getD_getElem?,Array.getElem?_setIfInBounds_self];rw [if_pos (by omega)];exact hp
  ·have:=h.fr t ht;simp only [St.put,lq e,Act.put,Array.getD_eq_getD_getElem?];rw [Array.getElem?_setIfInBounds_ne (by omega),<-Array.getD_eq_getD_getElem?];exact this
theorem Rel.ev {G:List (Array Value)} {n:Nat} {w0:bE} {ok:Nat->Prop} {a:Act} {w:World} {s:St} {β : Nat->Value} (h:Rel G n w0 ok a w s β) {x:Operand} (hx:aT n x=true):R ok w s.H β s.nx (s.ev x) (a.eval x):=by
 cases x with
 |tmp t=>exact h.fr t (by simpa [aT] using hx)
 |const v=>exact .val _
 |global g=>exact .val _
 |func f=>exact .val _
theorem R.val_eq {ok:Nat->Prop} {w:World} {H:Heap} {β : Nat->Value} {nx:Nat} {v u:Value} (h:R ok w H β nx (.val v) u):u=v:=by cases h with|deep _ _ h=>cases h;rfl
theorem fF {P:Program} {α : Type} (m:Sem α) {x : α} (h:fp P m=some x) (w:World):m.run P w=.ok x w:=by
 induction m with
 |pure a=>simp only [fp,Option.some.injEq] at h;subst h;rfl
 |program k ih=>simp only [fp] at h;simp only [Sem.run];exact ih _ h
 |mark m k ih=>simp only [fp] at h;simp only [Sem.run];exact ih h
 |_=>simp [fp] at h
end Go.Ex
namespace Go.Ex
open Go Go.RowKit
section
variable {P:Program} {G:List (Array Value)} {n:Nat} {w0:bE} {ok:Nat->Prop} {a:Act} {w:World} {s:St} {β : Nat->Value} {o:Oper}
def gz (P:Program) (ok:Nat->Prop) (a:Act) (w:World) (s:St) (β : Nat->Value) (o:Oper) (p:PV):Prop :=
 ∃v,R ok w s.H β s.nx p v/\∀w',Below w.heap.size w w'->(execOp a.eval o).run P w'=.ok (.value v) w'
def ReadsA (P:Program) (ok:Nat->Prop) (a:Act) (w:World) (s:St) (β : Nat->Value) (o:Oper) (p:PV):Prop :=
 ∃v,R ok w s.H β s.nx p v/\∀w',(execOp a.eval o).run P w'=.ok (.value v) w'
theorem ReadsA.reads {P:Program} {ok:Nat->Prop} {a:Act} {w:World} {s:St} {β : Nat->Value} {o:Oper} {p:PV} (h:ReadsA P ok a w s β o p):gz P ok a w s β o p:=by
 obtain⟨v,h1,h2⟩:=h;exact⟨v,h1,λw' _=>h2 w'⟩
def Met (c:Option Prop):Prop:=∀q,c=some q->q
theorem dm {c:Option Prop} {K:Prop}:uj c K↔Met c/\K:=by
 cases c with
 |none=>exact⟨λh=>⟨λq e=>(by cases e),h⟩,λh=>h.2⟩
 |some p=>exact⟨λh=>⟨λq e=>(by cases e;exact h.1),h.2⟩,λh=>⟨h.1 p rfl,h.2⟩⟩
theorem Rel.evv (h:Rel G n w0 ok a w s β) {x:Operand} (hx:aT n x=true) {v:Value} (hv:s.ev x=.val v):a.eval x=v:=by
 have:=h.ev hx;rw [hv] at this;exact this.val_eq
theorem Rel.rho (h:Rel G n w0 ok a w s β) {x:Operand} (hx:aT n x=true) (hv:(s.ev x).isVal=true):Ex.rho s x=a.eval x:=by
 have h1:=h.ev hx;unfold Ex.rho;generalize s.ev x=p at *
 cases p with
 |val v=>exact(h1.val_eq).symm
 |_=>simp [PV.isVal] at hv
def my:Op->Bool
 |.move _ | .assign _ | .load .. | .nilCheck _ | .unOp .. | .convert .. | .extract .. | .field .. | .binOp .. | .index .. | .build .. | .makeFunc ..=>true
 |.slice _ _ _ _ m=>m.isNone
 |.call c=>match c.callee with
  |.builtin _=>true
  |_=>false
 |_=>false
theorem jN {op:Op} (ht:my op=true):∀x∈op.operands,x∈vr op:=by
 intro x hx;cases op<;>simp only [my,Bool.false_eq_true] at ht<;>simp only [Op.operands,vr] at hx ⊢
 case slice t y l h m =>
  cases m with
  |some m=>simp at ht
  |none=>cases l<;>cases h<;>simpa using hx
 case call c =>
  cases hc:c.callee with
  |builtin b=>simpa [Call.operands,hc] using hx
  |value f=>rw [hc] at ht;simp at ht
  |invoke r m=>rw [hc] at ht;simp at ht
 all_goals simpa using hx
theorem jb (h:Rel G n w0 ok a w s β) (ho:∀x∈o.op.operands,aT n x=true) (ht:my o.op=true) {c:Option Prop} {p:PV} (e:eF P s o=some (c,p)):ReadsA P ok a w s β o p:=by
 have hs:∀cs b,o.op≠.select cs b:=λcs b he=>by rw [he] at ht;simp [my] at ht
 unfold eF at e;split at e
 ·rename_i hall
  split at e
  ·rename_i v hv
   simp only [Option.some.injEq,Prod.mk.injEq] at e;obtain⟨_,rfl⟩:=e;refine⟨v,.val v,λw'=>?_⟩;rw [execOp_congr (ρ':=Ex.rho s) o hs λx hx=>(h.rho (ho x hx) (List.all_eq_true.1 hall x (jN ht x hx))).symm];exact fF _ hv w'
  ·simp at e
 ·simp at e
theorem bT (h:Rel G n w0 ok a w s β) (ho:∀x∈o.op.operands,aT n x=true) (ht:my o.op=true) {c:Option Prop} {p:PV} (e:eF P s o=some (c,p)):gz P ok a w s β o p:=by
 have hs:∀cs b,o.op≠.select cs b:=λcs b he=>by rw [he] at ht;simp [my] at ht
 unfold eF at e;split at e
 ·rename_i hall
  split at e
  ·rename_i v hv
   simp only [Option.some.injEq,Prod.mk.injEq] at e;obtain⟨_,rfl⟩:=e;refine⟨v,.val v,λw' _=>?_⟩;rw [execOp_congr (ρ':=Ex.rho s) o hs λx hx=>(h.rho (ho x hx) (List.all_eq_true.1 hall x (jN ht x hx))).symm];exact fF _ hv w'
  ·simp at e
 ·simp at e
theorem io (es:Nat) (g:Nat->List PV):∀(m i:Nat),(∀j,i<=j->j < i+m->(g j).length=es)->(eZ g i m).length=m*es /\
  ∀(j:Nat) p,(eZ g i m)[j]? = some p->∃i' f',i<=i'/\i' < i+m/\(g i')[f']? = some p/\i'*es+f'=i*es+j
 |0,i,_=>by simp [eZ]
 |m+1,i,h=>by
  obtain⟨h1,h2⟩:=io es g m (i+1) (λj a b=>h j (by omega) (by omega));have hi:=h i (by omega) (by omega);refine⟨by simp [eZ,h1,hi,Nat.succ_mul];omega,λj p hj=>?_⟩;rw [eZ,List.getElem?_append] at hj;split at hj
  ·exact⟨i,j,by omega,by omega,hj,rfl⟩
  ·obtain⟨i',f',a1,a2,a3,a4⟩:=h2 _ p hj;exact⟨i',f',by omega,by omega,a3,by rw [Nat.succ_mul] at a4;omega⟩
theorem uk (es m:Nat) (g:Nat->List PV) (hl:∀i,i < m->(g i).length=es) {i f k:Nat} (hi:i < m) {ps:List PV} (e:lj es m g i f k=some ps) :
  ps.length=k/\∀(j:Nat) p,ps[j]? = some p->∃(i' f':Nat),i' < m/\(g i')[f']? = some p/\i'*es+f'=i*es+f+j:=by
 unfold lj at e;split at e
 ·rename_i hle
  simp only [Option.some.injEq] at e;subst e;have hxl:=hl i hi;refine⟨by simp;omega,λj p hj=>⟨i,f+j,hi,?_,by omega⟩⟩;rw [List.getElem?_take] at hj;split at hj
  ·simpa [List.getElem?_drop] using hj
  ·simp at hj
 ·split at e
  ·rename_i hc
   obtain⟨rfl,h0,hm,hi2⟩:=hc;simp only [Option.some.injEq] at e;subst e;obtain⟨h1,h2⟩:=io es g (k / es) i λj _ b=>hl j (by omega);have hmm:k / es*es=k:=Nat.div_mul_cancel (Nat.dvd_of_mod_eq_zero hm);refine⟨by rw [h1,hmm],λj p hj=>?_⟩;obtain⟨i',f',a1,a2,a3,a4⟩:=h2 j p hj;exact⟨i',f',by omega,a3,by omega⟩
  ·simp at e
theorem gV {xs:List PV} {vs:List Value} (h:rc xs=some vs):xs=vs.map .val:=by
 induction xs generalizing vs with
 |nil=>simp [rc] at h;subst h;rfl
 |cons x xs ih =>
  cases x with
  |val v =>
   simp only [rc,Option.map_eq_some_iff] at h;obtain⟨us,h1,rfl⟩:=h;simp [ih h1]
  |_=>simp [rc] at h
theorem R.mkAgg {H:Heap} {nx:Nat} {xs:List PV} {vs:Array Value} (l:xs.length=vs.size) (h:∀(i:Nat) p u,xs[i]? = some p->vs[i]? = some u->R ok w H β nx p u):R ok w H β nx (mkAgg xs) (.agg vs):=by
 unfold Ex.mkAgg;split
 ·rename_i us hus
  have hx:=gV hus;have:vs=us.toArray:=by
   apply Array.ext_getElem?;intro i;subst hx;simp only [List.length_map] at l;rcases Nat.lt_or_ge i us.length with hi|hi
   ·have:=h i (.val us[i]) vs[i] (by simp [hi]) (by simp);have:=this.val_eq;simp [this,hi,<-l]
   ·simp [hi,<-l]
  rw [this];exact .val _
 ·exact .agg xs vs l h
theorem ea (w':World) {H:Heap} {nx:Nat} {t:TypeId} {es m:Nat} {els:Nat->List PV} (hl:∀i,i < m->(els i).length=es) {g o i f:Nat} (hi:i < m) (u:Nat->Nat->Value)
  (hc:∀(i f:Nat) p,i < m->(els i)[f]? = some p->w'.cell? ⟨g,o+(i*es+f),none⟩=some (u i f))
  {p:PV} (e:o3 P t es m els i f=some p) :
  ∃v,(∀W:World,(∀(i f:Nat) p,i < m->(els i)[f]? = some p->W.cell? ⟨g,o+(i*es+f),none⟩=some (u i f))->(loadVar t ⟨g,o+(i*es+f),none⟩).run P W=.ok v W) /\
   ((∀(i f:Nat) p,i < m->(els i)[f]? = some p->R ok w H β nx p (u i f))->R ok w H β nx p v):=by
 unfold o3 at e;simp only [Option.bind_eq_some_iff,jI,Option.map_eq_some_iff] at e;obtain⟨r,⟨d,hd,hr⟩,e⟩:=e;have hagg:∀W:World,(isAgg t).run P W=.ok r W:=by
  intro W;unfold isAgg;simp only [Sem.run_bind,run_underlying hd];subst hr;cases d<;>rfl
 cases r with
 |true =>
  simp only [Option.bind_eq_some_iff,cY,Option.map_eq_some_iff] at e;obtain⟨k,⟨ti,hti,hm⟩,ps,hps,rfl⟩:=e;obtain⟨h1,h2⟩:=uk es m els hl hi hps;let cs:List Value:=(List.range k).map λj=>(w'.cell? ⟨g,o+(i*es+f+j),none⟩).getD undef;have hcs:∀j,j < k->cs[j]? = some ((w'.cell? ⟨g,o+(i*es+f+j),none⟩).getD undef):=λj hj=>by simp [cs,hj]
  have hlen:cs.length=k:=by simp [cs]
  refine⟨.agg cs.toArray,λW hW=>?_,λhR=>?_⟩
  ·unfold loadVar;have hsz:(sizeOf t).run P W=.ok k W:=by
    unfold sizeOf;simp [run_typeInfo W hti,hm]
   have:=run_loadCells_list (P:=P) (w:=W) ⟨g,o+(i*es+f),none⟩ cs λj v hj=>by
    have hjm:j < k:=by rw [<-hlen];exact(List.getElem?_eq_some_iff.1 hj).1
    obtain⟨i',f',q1,e2,e3⟩:=h2 j (ps[j]'(by omega)) (by simp);rw [hcs j hjm] at hj;have c1:=hc i' f' _ q1 e2;have c2:=hW i' f' _ q1 e2;rw [Addr.add_mid,Nat.add_assoc o,<-e3,c2];rw [<-e3,c1] at hj;simpa using hj
   rw [hlen] at this;simp [hagg,hsz,this]
  ·refine R.mkAgg (by simp [hlen,h1]) λj p v hp hv=>?_;obtain⟨i',f',q1,e2,e3⟩:=h2 j p hp;have hjm:j < k:=by rw [<-h1];exact(List.getElem?_eq_some_iff.1 hp).1
   have:cs[j]? = some v:=by simpa using hv
   rw [hcs j hjm,<-e3,hc i' f' _ q1 e2] at this;simp only [Option.getD_some,Option.some.injEq] at this;subst this;exact hR i' f' p q1 e2
 |false =>
  refine⟨u i f,λW hW=>?_,λhR=>hR i f p hi e⟩;unfold loadVar;simp [hagg,load,Sem.run,hW i f p hi e]
theorem aO {H:Heap} {id st:Nat} {b:Blk} (h:dX H id st=some b):H[id]? = some b/\b.st=st:=by
 unfold dX at h;split at h
 ·split at h
  ·simp only [Option.some.injEq] at h;subst h;exact⟨by assumption,by assumption⟩
  ·simp at h
 ·simp at h
theorem R.ptr_inv {H:Heap} {nx id st i f:Nat} {v:Value} {b:Blk} (h:R ok w H β nx (.ptr id st i f) v) (hb:dX H id st=some b) :
  ∃g c,β id=.slice (some ⟨g,0,none⟩) b.n c/\i < b.n/\v=.pointer (some ⟨g,i*b.es+f,none⟩):=by
 cases h with
 |deep _ _ h=>cases h
 |ptr _ _ _ _ _ h0 h1 h2=>exact h2 b hb
theorem R.sl_inv {H:Heap} {nx id st lo len:Nat} {v:Value} {b:Blk} (h:R ok w H β nx (.sl id st lo len) v) (hb:dX H id st=some b) :
  (v=sub b.es lo len (β id)\/lo≠0/\len=0/\∃ad,v=.slice ad 0 0)/\lo+len<=b.n:=by
 cases h with
 |deep _ _ h=>cases h
 |sl _ _ _ _ _ h0 h1 h2=>exact h2 b hb
theorem HRel.cells {base:Nat} {H:Heap} {nx id:Nat} {b:Blk} {g m c:Nat} (h:HRel base ok w H β nx) (hb:H[id]? = some b) (hv : β id=.slice (some ⟨g,0,none⟩) m c) :
  ∃u:Nat->Nat->Value,base<=g/\g < w.heap.size/\m=b.n/\m<=c/\c<=maxLen/\(∀i,i < b.n->(b.get i).length=b.es/\∀p∈b.get i,bk p=true) /\
   (∀(i f:Nat) p,i < b.n->(b.get i)[f]? = some p->w.cell? ⟨g,i*b.es+f,none⟩=some (u i f)) /\
   (∀(i f:Nat) p,i < b.n->(b.get i)[f]? = some p->R ok w H β nx p (u i f))/\(b.box=false->∀(i f:Nat) p,i < b.n->(b.get i)[f]? = some p->R0 ok w p (u i f)):=by
 obtain⟨xs,h1,h2,hb1,_,h3⟩:=h.own id b hb;have hlt:=h1.lt g (by rw [hv];rfl);have hm:m=b.n/\m<=c/\c<=maxLen:=by
  rcases h1.2 with ⟨e,_⟩|⟨g',cap,cur,e,_,_,e1,e2,_⟩
  ·rw [hv] at e;simp at e
  ·rw [hv] at e;simp only [Value.slice.injEq,Option.some.injEq] at e;omega
 obtain⟨rfl,hmc,hcm⟩:=hm;rw [hv] at h1;have hval:∀(i f:Nat) p,i < b.n->(b.get i)[f]? = some p->∃u,xs[i*b.es+f]? = some u/\w.cell? ⟨g,i*b.es+f,none⟩=some u/\R ok w H β nx p u/\(b.box=false->R0 ok w p u):=by
  intro i f p hi hp;have hf:f < b.es:=by rw [<-(h2 i hi).1];exact(List.getElem?_eq_some_iff.1 hp).1
  have hle:i*b.es+f < b.n*b.es:=by
   calc i*b.es+f < i*b.es+b.es:=by omega
    _=(i+1)*b.es:=by rw [Nat.succ_mul]
    _<=b.n*b.es:=Nat.mul_le_mul_right _ hi
  obtain⟨u,e1,e2,e3⟩:=h3 i f p hi hp;exact⟨u,e1,by rw [h1.cellAt _ hle,e1],e2,e3⟩
 refine⟨λi f=>(xs[i*b.es+f]?).getD undef,hlt.1,hlt.2,rfl,hmc,hcm,h2,λi f p hi hp=>?_,λi f p hi hp=>?_,λhx i f p hi hp=>?_⟩
 all_goals obtain⟨u,e1,e2,e3,e4⟩:=hval i f p hi hp
 ·simpa [e1] using e2
 ·simpa [e1] using e3
 ·simpa [e1] using e4 hx
theorem R.st_lt {H:Heap} {nx id st lo len:Nat} {v:Value} (h:R ok w H β nx (.sl id st lo len) v):st < nx:=by cases h<;>first|assumption|(rename_i h;cases h)
theorem R.st_ltp {H:Heap} {nx id st i f:Nat} {v:Value} (h:R ok w H β nx (.ptr id st i f) v):st < nx:=by cases h<;>first|assumption|(rename_i h;cases h)
theorem cA {t:TypeId} {m:Nat} (h:cY P t=some m) (W:World):(sizeOf t).run P W=.ok m W:=by
 simp only [cY,Option.map_eq_some_iff] at h;obtain⟨ti,hti,hm⟩:=h;simp [sizeOf,run_typeInfo W hti,hm]
theorem HRel.slice_of {base:Nat} {H:Heap} {nx id:Nat} {b:Blk} (h:HRel base ok w H β nx) (hb:H[id]? = some b) :
  (β id=.slice none 0 0/\b.n=0)\/∃g c,β id=.slice (some ⟨g,0,none⟩) b.n c/\b.n<=c/\c<=maxLen:=by
 obtain⟨xs,h1,_,_⟩:=h.own id b hb;rcases h1.2 with ⟨e,e'⟩|⟨g,cap,cur,e,_,_,e1,e2,_⟩
 ·exact .inl ⟨e,e'⟩
 ·exact .inr ⟨g,cap,e,e1,e2⟩
theorem rn (h:Rel G n w0 ok a w s β) {dst:Option Tmp} {t ty:TypeId} {x:Operand} {pos:String} {after:Array Edge} {guard:Option (Nat×Bool)} (hx:aT n x=true) {c:Option Prop} {p:PV}
  (e:gk P s ⟨dst,.load t x,ty,pos,after,guard⟩=some (c,p)):gz P ok a w s β ⟨dst,.load t x,ty,pos,after,guard⟩ p:=by
 have hR:=h.ev hx;simp only [gk] at e;split at e
 ·rename_i id st i f hp
  simp only [Option.bind_eq_some_iff,Option.map_eq_some_iff,Prod.mk.injEq] at e;obtain⟨b,hb,p',e,_,rfl⟩:=e;rw [hp] at hR;obtain⟨g,c,e1,hi,e2⟩:=hR.ptr_inv hb;obtain⟨u,_,hg,_,_,_,hl,h1,h2,_⟩:=h.heap.cells (aO hb).1 e1;obtain⟨v,hv1,hv2⟩:=ea (P:=P) (w:=w) (ok:=ok) (β:=β) (H:=s.H) (nx:=s.nx) (g:=g) (o:=0) w (λi hi=>(hl i hi).1) hi u (by simpa using h1) e;refine⟨v,hv2 h2,λw' hw'=>?_⟩;have:=hv1 w' (λi f p hi hp=>by rw [Nat.zero_add,hw'.cell (p:=⟨g,i*b.es+f,none⟩) hg];exact h1 i f p hi hp);rw [Nat.zero_add] at this;simp [execOp,Instr.loadAt,Instr.sureAddr,e2,this]
 ·rename_i es m els i f hp
  simp only [Option.map_eq_some_iff,Prod.mk.injEq] at e;obtain⟨p',e,_,rfl⟩:=e;rw [hp] at hR;generalize hv:a.eval x=v at hR;cases hR.rp_inv with
  |rp _ _ _ _ _ g o u hl hb hi h1 h2 =>
   obtain⟨v,hv1,hv2⟩:=ea (P:=P) (w:=w) (ok:=ok) (β:=β) (H:=s.H) (nx:=s.nx) (g:=g) (o:=o) w (λi hi=>(hl i hi).1) hi u h1 e;refine⟨v,hv2 λi f p hi hp=>.deep _ _ (h2 i f p hi hp),λw' hw'=>?_⟩;have:=hv1 w' (λi f p hi hp=>by rw [hw'.cell (p:=⟨g,o+(i*es+f),none⟩) (h.oklt _ hb)];exact h1 i f p hi hp);simp [execOp,Instr.loadAt,Instr.sureAddr,hv,this]
 ·simp at e
theorem mz {t:TypeId} {k d:Nat} (h:lk P t k=some d):∀(W:World) (a:Addr),(Instr.fieldAt t (.pointer (some a)) k).run P W=.ok (.pointer (some (a.add d))) W:=by
 intro W a;unfold lk at h;split at h
 ·rename_i fs hu
  simp only [Option.bind_eq_some_iff] at h;obtain⟨f,hf,h⟩:=h;split at h
  ·rename_i m hm
   simp only [Option.some.injEq] at h;simp only [cY,Option.map_eq_some_iff] at hm;obtain⟨ti,hti,hm⟩:=hm;simp [Instr.fieldAt,run_underlying hu,hf,Instr.sureAddr,fieldPlace,sizeOf,run_typeInfo W hti,hm,h]
  ·simp at h
 ·simp at h
theorem kl (h:Rel G n w0 ok a w s β) {dst:Option Tmp} {t ty:TypeId} {x:Operand} {k:Nat} {pos:String} {after:Array Edge} {guard:Option (Nat×Bool)} (hx:aT n x=true) {c:Option Prop} {p:PV}
  (e:gk P s ⟨dst,.fieldAddr t x k,ty,pos,after,guard⟩=some (c,p)):ReadsA P ok a w s β ⟨dst,.fieldAddr t x k,ty,pos,after,guard⟩ p:=by
 have hR:=h.ev hx;simp only [gk,Option.bind_eq_some_iff] at e;obtain⟨d,hd,e⟩:=e;have hrun:=mz hd;split at e
 ·rename_i id st i f hp
  simp only [Option.bind_eq_some_iff,Option.some.injEq,Prod.mk.injEq] at e;obtain⟨b,hb,_,rfl⟩:=e;rw [hp] at hR;generalize hv:a.eval x=v at hR;obtain⟨g,c,e1,hi,e2⟩:=hR.ptr_inv hb;have hst:=hR.st_ltp;refine⟨.pointer (some ⟨g,i*b.es+(f+d),none⟩),.ptr _ _ _ _ _ rfl hst λb' hb'=>by rw [hb] at hb';cases hb';exact⟨g,c,e1,hi,rfl⟩,λw'=>?_⟩;simp [execOp,hv,e2,hrun,Addr.add_mid,Nat.add_assoc]
 ·rename_i es m els i f hp
  simp only [Option.some.injEq,Prod.mk.injEq] at e;obtain⟨_,rfl⟩:=e;rw [hp] at hR;generalize hv:a.eval x=v at hR;cases hR.rp_inv with
  |rp _ _ _ _ _ g o u hl hb hi h1 h2 =>
   refine⟨.pointer (some ⟨g,o+(i*es+(f+d)),none⟩),.deep _ _ (.rp _ _ _ _ _ _ _ u hl hb hi h1 h2),λw'=>?_⟩;simp [execOp,hv,hrun,Addr.add_mid,Nat.add_assoc]
 ·simp at e
theorem o6 (h:Rel G n w0 ok a w s β) {dst:Option Tmp} {t ty:TypeId} {x ix:Operand} {pos:String} {after:Array Edge} {guard:Option (Nat×Bool)} (hx:aT n x=true) (hix:aT n ix=true) {c:Option Prop} {p:PV} (hmet:Met c)
  (e:gk P s ⟨dst,.indexAddr t x ix,ty,pos,after,guard⟩=some (c,p)):gz P ok a w s β ⟨dst,.indexAddr t x ix,ty,pos,after,guard⟩ p:=by
 have hR:=h.ev hx;simp only [gk] at e;split at e
 ·rename_i el id st lo len k m hu hp hi
  have hiv:=h.evv hix hi;simp only [Option.bind_eq_some_iff] at e;obtain⟨b,hb,e⟩:=e;split at e
  ·rename_i hs
   simp only [Option.some.injEq,Prod.mk.injEq] at e;obtain⟨rfl,rfl⟩:=e;obtain⟨h0,hlt⟩:=hmet _ rfl;rw [hp] at hR;have hst:=hR.st_lt;obtain⟨e1|⟨_,e1,_⟩,e2⟩:=hR.sl_inv hb
   case inr=>omega
   rcases h.heap.slice_of (aO hb).1 with ⟨e3,e4⟩|⟨g,c,e3,e4,e5⟩
   ·omega
   ·refine⟨.pointer (some ⟨g,(lo+m.toNat)*b.es+0,none⟩),.ptr _ _ _ _ _ rfl hst λb' hb'=>by rw [hb] at hb';cases hb';exact⟨g,c,e3,by omega,rfl⟩,λw' _=>?_⟩;simp [execOp,Instr.indexAt,hiv,e1,e3,sub,run_underlying hu,asIntOf,cA hs,h0,hlt,Addr.add_mid,Nat.add_mul]
  ·simp at e
 ·rename_i el es q g k m hu hp hi
  have hiv:=h.evv hix hi;split at e
  ·rename_i hc
   obtain⟨hs,hes⟩:=hc;simp only [Option.some.injEq,Prod.mk.injEq] at e;obtain⟨rfl,rfl⟩:=e;obtain⟨h0,hlt⟩:=hmet _ rfl;rw [hp] at hR;generalize hv:a.eval x=v at hR;cases hR.rs_inv with
   |rs _ _ _ ad c u hl hc hm h1 h2 =>
    have hmx:m.toNat < q:=by omega
    have hxl:=(hl m.toNat hmx).1;obtain⟨g',o',rfl,hg,_⟩:=h1 m.toNat 0 ((g m.toNat)[0]'(by omega)) hmx (by simp);refine⟨.pointer (some ⟨g',o'+(m.toNat*es+0),none⟩),.deep _ _ (.rp _ _ _ _ _ _ _ u hl hg hmx (λi f p hi hp=>?_) h2),λw' _=>?_⟩
    ·obtain⟨g2,o2,e1,_,e2⟩:=h1 i f p hi hp;simp only [Option.some.injEq,Addr.mk.injEq,and_true] at e1;rw [e1.1,e1.2];exact e2
    ·simp [execOp,Instr.indexAt,hiv,hv,run_underlying hu,asIntOf,cA hs,h0,hlt,Addr.add_mid]
  ·simp at e
 ·rename_i q el id st k m hu hp hi
  have hiv:=h.evv hix hi;simp only [Option.bind_eq_some_iff] at e;obtain⟨b,hb,e⟩:=e;split at e
  ·rename_i hc
   obtain⟨hs,hqb⟩:=hc;simp only [Option.some.injEq,Prod.mk.injEq] at e;obtain⟨rfl,rfl⟩:=e;obtain⟨h0,hlt⟩:=hmet _ rfl;rw [hp] at hR;have hst:=hR.st_ltp;obtain⟨g,c,e1,_,e2⟩:=hR.ptr_inv hb;refine⟨.pointer (some ⟨g,m.toNat*b.es+0,none⟩),.ptr _ _ _ _ _ rfl hst λb' hb'=>by rw [hb] at hb';cases hb';exact⟨g,c,e1,by omega,rfl⟩,λw' _=>?_⟩;simp [execOp,Instr.indexAt,hiv,e2,run_underlying hu,asIntOf,cA hs,h0,hlt,Addr.add_mid,Instr.sureAddr]
  ·simp at e
 ·simp at e
theorem db (h:Rel G n w0 ok a w s β) {x:Option Operand} (hx:∀y,x=some y->aT n y=true) {d i:Int} (e:dj s x d=some i) :
  (x=none/\i=d)\/∃y k,x=some y/\a.eval y=.int k i:=by
 unfold dj at e;split at e
 ·simp only [Option.some.injEq] at e;exact .inl ⟨rfl,e.symm⟩
 ·rename_i y
  split at e
  ·rename_i k m hm
   simp only [Option.some.injEq] at e;subst e;exact .inr ⟨_,k,rfl,h.evv (hx _ rfl) hm⟩
  ·simp at e
theorem iB (h:Rel G n w0 ok a w s β) {lo hi:Option Operand} (hlo:∀y,lo=some y->aT n y=true) (hhi:∀y,hi=some y->aT n y=true) {b:Bool}
  {len c:Nat} {i j:Int} (hc:len<=c) (e1:dj s lo 0=some i) (e2:dj s hi len=some j) (h0:0<=i) (hij:i<=j) (hj:j<=len) (W:World) :
  (Instr.sliceBounds b len c (lo.map a.eval) (hi.map a.eval) none).run P W=.ok (i.toNat,j.toNat,c) W:=by
 have hjc:j<=(c:Int):=by omega
 have h0j:0<=j:=by omega
 rcases db h hlo e1 with ⟨rfl,rfl⟩|⟨y,k,rfl,hy⟩<;>rcases db h hhi e2 with ⟨rfl,rfl⟩|⟨z,k',rfl,hz⟩
 ·simp [Instr.sliceBounds]
 ·simp [Instr.sliceBounds,hz,Instr.sliceBound,asIntOf,hjc,h0j]
 ·have:i<=(len:Int):=by omega
  simp [Instr.sliceBounds,hy,Instr.sliceBound,asIntOf,h0,this]
 ·have e:i<=max j 0:=by omega
  simp [Instr.sliceBounds,hy,hz,Instr.sliceBound,asIntOf,h0,h0j,hjc,e,hij]
theorem gW (h:Rel G n w0 ok a w s β) {t el:TypeId} (hu:P.underlying t=some (.slice el)) {es:Nat} (hs:cY P el=some es) {lo hi:Option Operand} (hlo:∀y,lo=some y->aT n y=true) (hhi:∀y,hi=some y->aT n y=true)
  {ad:Option Addr} {len c:Nat} {i j:Int} (hc:len<=c) (e1:dj s lo 0=some i) (e2:dj s hi len=some j) (h0:0<=i) (hij:i<=j) (hj:j<=len) (W:World) :
  (Instr.sliceAt t (.slice ad len c) (lo.map a.eval) (hi.map a.eval) none).run P W=.ok (.slice (if c=i.toNat then ad else ad.map (·.add (i.toNat*es))) (j.toNat - i.toNat) (c - i.toNat)) W:=by
 have hr:=iB (P:=P) (b:=true) h hlo hhi hc e1 e2 h0 hij hj W;simp only [Instr.sliceAt,Sem.run_bind,run_underlying hu,Result.andThen_ok,Instr.slice];simp only [hr,Result.andThen_ok,cA hs,Sem.run_pure]
theorem ul {x:Operand} {lo hi:Option Operand} (h:xI x lo hi=true):∃y z,lo=some y/\hi=some z:=by
 unfold xI at h;split at h
 ·exact⟨_,_,rfl,rfl⟩
 ·cases h
theorem o7 (h:Rel G n w0 ok a w s β) {y z:Operand} (hy:aT n y=true) (hz:aT n z=true) {b:Bool}
  {len c:Nat} {i j d:Int} (e1:dj s (some y) 0=some i) (e2:dj s (some z) d=some j) (h0:0<=i) (hij:i<=j) (hj:j<=c) (W:World) :
  (Instr.sliceBounds b len c (some (a.eval y)) (some (a.eval z)) none).run P W=.ok (i.toNat,j.toNat,c) W:=by
 have h0j:0<=j:=by omega
 have e:i<=max j 0:=by omega
 rcases db h (x:=some y) (λq hq=>by cases hq;exact hy) e1 with ⟨h1,_⟩|⟨y',k,h1,hy'⟩
 ·cases h1
 cases h1;rcases db h (x:=some z) (λq hq=>by cases hq;exact hz) e2 with ⟨h2,_⟩|⟨z',k',h2,hz'⟩
 ·cases h2
 cases h2;simp [Instr.sliceBounds,hy',hz',Instr.sliceBound,asIntOf,h0,h0j,hj,e,hij]
theorem ro (h:Rel G n w0 ok a w s β) {dst:Option Tmp} {t ty el:TypeId} {x:Operand} {lo hi:Option Operand} {pos:String} {after:Array Edge} {guard:Option (Nat×Bool)} {id st len:Nat} {b:Blk} {i j:Int}
  (hlo:∀y,lo=some y->aT n y=true) (hhi:∀y,hi=some y->aT n y=true) (hu:P.underlying t=some (.slice el)) (hp:s.ev x=.sl id st 0 len) (hb:dX s.H id st=some b)
  (e1:dj s lo 0=some i) (e2:dj s hi len=some j) (hs:cY P el=some b.es) (h0:0<=i) (hij:i<=j) (hj:j<=(b.n:Int)) (hl:xI x lo hi=true) (hx:aT n x=true) :
  gz P ok a w s β ⟨dst,.slice t x lo hi none,ty,pos,after,guard⟩ (.sl id st i.toNat (j - i).toNat):=by
 obtain⟨y,z,rfl,rfl⟩:=ul hl;have hR:=h.ev hx;obtain⟨i,rfl⟩:=Int.eq_ofNat_of_zero_le h0;obtain⟨j,rfl⟩:=Int.eq_ofNat_of_zero_le (show 0<=j by omega);have hji:((j:Int) - (i:Int)).toNat=j - i:=by omega
 rw [hji];simp only [Int.toNat_natCast];rw [hp] at hR;have hst:=hR.st_lt;obtain⟨e3,e4⟩:=hR.sl_inv hb;have e3:a.eval x=sub b.es 0 len (β id):=e3.resolve_right λq=>q.1 rfl;have run:∀(ad:Option Addr) (c:Nat) (W:World),b.n<=c->(Instr.sliceAt t (.slice ad len c) (some (a.eval y)) (some (a.eval z)) none).run P W=.ok (.slice (if c=i then ad else ad.map (·.add (i*b.es))) (j - i) (c - i)) W:=λad c W hc=>by
  have hr:=o7 (P:=P) (b:=true) (len:=len) (c:=c) h (hlo _ rfl) (hhi _ rfl) e1 e2 h0 hij (by omega) W;simp only [Instr.sliceAt,Sem.run_bind,run_underlying hu,Result.andThen_ok,Instr.slice];simp only [hr,Result.andThen_ok,cA hs,Sem.run_pure,Int.toNat_natCast]
 rcases h.heap.slice_of (aO hb).1 with ⟨e5,e6⟩|⟨g,c,e5,e6,e7⟩
 ·obtain⟨rfl,rfl⟩:i=0/\j=0:=by omega
  obtain rfl:len=0:=by omega
  refine⟨.slice none 0 0,.sl _ _ _ _ _ rfl hst λb' hb'=>by rw [hb] at hb';cases hb';exact⟨.inl (by rw [e5];rfl),by omega⟩,λw' _=>?_⟩;have:=run none 0 w' (by omega);simp [execOp,e3,e5,sub,this]
 ·refine⟨.slice (if c=i then some (⟨g,0,none⟩:Addr) else some ((⟨g,0,none⟩:Addr).add (i*b.es))) (j - i) (c - i),.sl _ _ _ _ _ rfl hst λb' hb'=>?_,λw' _=>?_⟩
  ·rw [hb] at hb';cases hb';refine⟨?_,by omega⟩;rw [e5];by_cases hz:i=0
   ·subst hz;left;simp [sub,Addr.add_mid]
   ·by_cases hcl:c=i
    ·right;have h1:j - i=0:=by omega
     have h2:c - i=0:=by omega
     rw [h1,h2];exact⟨by omega,rfl,_,rfl⟩
    ·left;simp [sub,hcl,Addr.add_mid]
  ·have:=run (some (⟨g,0,none⟩:Addr)) c w' (by omega);simp [execOp,e3,e5,sub,Addr.add_mid,this]
theorem nE (h:Rel G n w0 ok a w s β) {dst:Option Tmp} {t ty:TypeId} {x:Operand} {lo hi:Option Operand} {mx:Operand} {pos:String} {after:Array Edge} {guard:Option (Nat×Bool)}
  (ho:∀y∈(Op.slice t x lo hi (some mx)).operands,aT n y=true) {c:Option Prop} {p:PV} (hmet:Met c)
  (e:gk P s ⟨dst,.slice t x lo hi (some mx),ty,pos,after,guard⟩=some (c,p)):gz P ok a w s β ⟨dst,.slice t x lo hi (some mx),ty,pos,after,guard⟩ p:=by
 cases lo with
 |none=>simp [gk] at e
 |some lo =>
 cases hi with
 |none=>simp [gk] at e
 |some hi =>
 have hx:aT n x=true:=ho x (by simp [Op.operands]);have hlo:aT n lo=true:=ho lo (by simp [Op.operands]);have hhi:aT n hi=true:=ho hi (by simp [Op.operands]);have hmx:aT n mx=true:=ho mx (by simp [Op.operands]);have hR:=h.ev hx;simp only [gk] at e;split at e
 ·rename_i el id st l len hu hp
  simp only [Option.bind_eq_some_iff] at e;obtain⟨b,hb,e⟩:=e;split at e
  ·rename_i i j k e1 e2 e3
   split at e
   ·rename_i hs
    simp only [Option.some.injEq,Prod.mk.injEq] at e;obtain⟨rfl,rfl⟩:=e;obtain⟨h0,hij,hjk,hk⟩:=hmet _ rfl;rw [hp] at hR;obtain⟨c,ad,hv,hc⟩:∃c ad,a.eval x=.slice ad len c/\len<=c:=by
     obtain⟨e4|⟨_,e4,ad,e5⟩,e6⟩:=hR.sl_inv hb
     ·rcases h.heap.slice_of (aO hb).1 with ⟨e5,e7⟩|⟨g,c,e5,e7,_⟩
      ·exact⟨0,none,by rw [e4,e5];simp [sub];omega,by omega⟩
      ·exact⟨c - l,some ((⟨g,0,none⟩:Addr).add (l*b.es)),by rw [e4,e5];simp [sub],by omega⟩
     ·exact⟨0,ad,by rw [e5,e4],by omega⟩
    rcases db h (x:=some lo) (λq hq=>by cases hq;exact hlo) e1 with ⟨h1,_⟩|⟨y',k1,h1,hy'⟩
    ·cases h1
    cases h1;rcases db h (x:=some hi) (λq hq=>by cases hq;exact hhi) e2 with ⟨h2,_⟩|⟨z',k2,h2,hz'⟩
    ·cases h2
    cases h2;rcases db h (x:=some mx) (λq hq=>by cases hq;exact hmx) e3 with ⟨h3,_⟩|⟨m',k3,h3,hm'⟩
    ·cases h3
    cases h3;have h0j:0<=j:=by omega
    have h0k:0<=k:=by omega
    have hkc:k<=(c:Int):=by omega
    have q1:j<=max k 0:=by omega
    have q2:i<=max j 0:=by omega
    have run:∀W:World,∃v,(Instr.sliceAt t (.slice ad len c) (some (a.eval lo)) (some (a.eval hi)) (some (a.eval mx))).run P W=.ok v W/\∀W',(Instr.sliceAt t (.slice ad len c) (some (a.eval lo)) (some (a.eval hi)) (some (a.eval mx))).run P W'=.ok v W':=λW=>by
     refine⟨.slice (if k.toNat=i.toNat then ad else ad.map (·.add (i.toNat*b.es))) (j.toNat - i.toNat) (k.toNat - i.toNat),?_,λW'=>?_⟩ <;>
     ·simp only [Instr.sliceAt,Sem.run_bind,run_underlying hu,Result.andThen_ok,Instr.slice];simp [Instr.sliceBounds,hy',hz',hm',Instr.sliceBound,asIntOf,h0,h0j,h0k,hkc,hij,hjk,q1,q2,cA hs]
    obtain⟨v,_,hrun⟩:=run w;refine⟨v,.junk _,λw' _=>?_⟩;simp [execOp,hv,hrun w']
   ·simp at e
  ·simp at e
 ·simp at e
theorem o8 (h:Rel G n w0 ok a w s β) {dst:Option Tmp} {t ty:TypeId} {x:Operand} {lo hi mx:Option Operand} {pos:String} {after:Array Edge} {guard:Option (Nat×Bool)}
  (ho:∀y∈(Op.slice t x lo hi mx).operands,aT n y=true) {c:Option Prop} {p:PV} (hmet:Met c)
  (e:gk P s ⟨dst,.slice t x lo hi mx,ty,pos,after,guard⟩=some (c,p)):gz P ok a w s β ⟨dst,.slice t x lo hi mx,ty,pos,after,guard⟩ p:=by
 cases mx with
 |some mx=>exact nE h ho hmet e
 |none =>
 have hx:aT n x=true:=ho x (by simp [Op.operands]);have hlo:∀y,lo=some y->aT n y=true:=λy hy=>ho y (by simp [Op.operands,hy]);have hhi:∀y,hi=some y->aT n y=true:=λy hy=>ho y (by simp [Op.operands,hy]);have hR:=h.ev hx;simp only [gk] at e;split at e
 ·rename_i el id st l len hu hp
  simp only [Option.bind_eq_some_iff] at e;obtain⟨b,hb,e⟩:=e;split at e
  ·rename_i i j e1 e2
   split at e
   case h_2 hlate =>
    split at e
    ·rename_i hs
     obtain⟨hs,rfl⟩:=hs;simp only [Option.some.injEq,Prod.mk.injEq] at e;obtain⟨rfl,rfl⟩:=e;obtain⟨h0,hij,hj⟩:=hmet _ rfl;exact ro h hlo hhi hu hp hb e1 e2 hs h0 hij hj hlate hx
    ·simp at e
   split at e
   ·rename_i hs
    simp only [Option.some.injEq,Prod.mk.injEq] at e;obtain⟨rfl,rfl⟩:=e;obtain⟨h0,hij,hj⟩:=hmet _ rfl;obtain⟨i,rfl⟩:=Int.eq_ofNat_of_zero_le h0;obtain⟨j,rfl⟩:=Int.eq_ofNat_of_zero_le (show 0<=j by omega);have hji:((j:Int) - (i:Int)).toNat=j - i:=by omega
    rw [hji];simp only [Int.toNat_natCast];rw [hp] at hR;have hst:=hR.st_lt;obtain⟨e3,e4⟩:=hR.sl_inv hb;rcases e3 with e3|⟨q1,q2,ad,e3⟩
    ·rcases h.heap.slice_of (aO hb).1 with ⟨e5,e6⟩|⟨g,c,e5,e6,e7⟩
     ·obtain⟨rfl,rfl,rfl,rfl⟩:l=0/\len=0/\i=0/\j=0:=by omega
      refine⟨.slice none 0 0,.sl _ _ _ _ _ rfl hst λb' hb'=>by rw [hb] at hb';cases hb';exact⟨.inl (by rw [e5];rfl),by omega⟩,λw' _=>?_⟩;have:=gW h hu hs hlo hhi (ad:=none) (c:=0) (Nat.le_refl _) e1 e2 h0 hij hj w';simp [execOp,e3,e5,sub,this]
     ·refine⟨.slice (if c - l=i then some ((⟨g,0,none⟩:Addr).add (l*b.es)) else some (((⟨g,0,none⟩:Addr).add (l*b.es)).add (i*b.es))) (j - i) (c - l - i),.sl _ _ _ _ _ rfl hst λb' hb'=>?_,λw' _=>?_⟩
      ·rw [hb] at hb';cases hb';refine⟨?_,by omega⟩;rw [e5];by_cases hz:i=0
       ·subst hz;left;simp [sub,Addr.add_mid]
       ·by_cases hcl:c - l=i
        ·right;have h1:j - i=0:=by omega
         have h2:c - l - i=0:=by omega
         rw [h1,h2];exact⟨by omega,rfl,_,rfl⟩
        ·left;simp [sub,hcl,Addr.add_mid,Nat.add_mul];omega
      ·have:=gW h hu hs hlo hhi (ad:=some ((⟨g,0,none⟩:Addr).add (l*b.es))) (c:=c - l) (by omega) e1 e2 h0 hij hj w';simp only [Int.toNat_natCast] at this;simp [execOp,e3,e5,sub,this]
    ·obtain⟨rfl,rfl⟩:i=0/\j=0:=by omega
     subst q2;refine⟨.slice ad 0 0,.sl _ _ _ _ _ rfl hst λb' hb'=>by rw [hb] at hb';cases hb';exact⟨.inr ⟨by omega,rfl,ad,rfl⟩,by omega⟩,λw' _=>?_⟩;have:=gW h hu hs hlo hhi (ad:=ad) (c:=0) (Nat.le_refl _) e1 e2 h0 hij hj w';simp [execOp,e3,this]
   ·simp at e
  ·simp at e
 ·rename_i el es m els hu hp
  split at e
  ·rename_i i j e1 e2
   split at e
   ·rename_i hs
    simp only [Option.some.injEq,Prod.mk.injEq] at e;obtain⟨rfl,rfl⟩:=e;obtain⟨h0,hij,hj⟩:=hmet _ rfl;obtain⟨i,rfl⟩:=Int.eq_ofNat_of_zero_le h0;obtain⟨j,rfl⟩:=Int.eq_ofNat_of_zero_le (show 0<=j by omega);have hji:((j:Int) - (i:Int)).toNat=j - i:=by omega
    rw [hji];simp only [Int.toNat_natCast];rw [hp] at hR;generalize hv:a.eval x=v at hR;cases hR.rs_inv with
    |rs _ _ _ ad c u hl hcx hm h1 h2 =>
     refine⟨.slice (if c=i then ad else ad.map (·.add (i*es))) (j - i) (c - i),?_,λw' _=>?_⟩
     ·refine .deep _ _ <| .rs es _ _ _ _ (λk f=>u (i+k) f) (λk hk=>hl (i+k) (by omega)) (by omega) (by omega) (λk f p hk hp=>?_) (λk f p hk hp=>h2 _ f p (by omega) hp);obtain⟨g,q,rfl,hg,hcell⟩:=h1 (i+k) f p (by omega) hp;refine⟨g,q+i*es,?_,hg,?_⟩
      ·rw [if_neg (by omega)];simp [Addr.add_mid]
      ·rw [<-hcell];congr 2;rw [Nat.add_mul];omega
     ·have:=gW h hu hs hlo hhi (ad:=ad) (c:=c) hcx e1 e2 h0 hij hj w';simp only [Int.toNat_natCast] at this;simp [execOp,hv,this]
   ·simp at e
  ·simp at e
 ·rename_i q el id st hu hp
  simp only [Option.bind_eq_some_iff] at e;obtain⟨b,hb,e⟩:=e;split at e
  ·rename_i i j e1 e2
   split at e
   ·rename_i hc
    obtain⟨hs,hqb,hbox⟩:=hc;simp only [Option.some.injEq,Prod.mk.injEq] at e;obtain⟨rfl,rfl⟩:=e;obtain⟨h0,hij,hj⟩:=hmet _ rfl;obtain⟨i,rfl⟩:=Int.eq_ofNat_of_zero_le h0;obtain⟨j,rfl⟩:=Int.eq_ofNat_of_zero_le (show 0<=j by omega);have hji:((j:Int) - (i:Int)).toNat=j - i:=by omega
    rw [hji];simp only [Int.toNat_natCast];rw [hp] at hR;have hst:=hR.st_ltp;obtain⟨g,c,e3,hn0,e4⟩:=hR.ptr_inv hb;have hr:=λW=>iB (P:=P) (b:=false) h hlo hhi (c:=q) (len:=q) (Nat.le_refl _) e1 e2 h0 hij hj W;obtain⟨_,_,_,_,harr,_⟩:=h.heap.own id b (aO hb).1;obtain⟨g',hg'⟩:=harr hbox;rw [e3] at hg';simp only [Value.slice.injEq,Option.some.injEq,Addr.mk.injEq,and_true,true_and] at hg';obtain⟨rfl,rfl⟩:=hg';refine⟨.slice (some (if q=i then(⟨g,0,none⟩:Addr) else(⟨g,0,none⟩:Addr).add (i*b.es))) (j - i) (q - i),.sl _ _ _ _ _ rfl hst λb' hb'=>?_,λw' _=>?_⟩
    ·rw [hb] at hb';cases hb';refine⟨?_,by omega⟩;rw [e3];by_cases hz:i=0
     ·subst hz;left;have:q≠0:=by omega
      simp [sub,Addr.add_mid,this,<-hqb]
     ·by_cases hcl:q=i
      ·right;have h1:j - i=0:=by omega
       have h2:q - i=0:=by omega
       rw [h1,h2];exact⟨hz,rfl,_,rfl⟩
      ·left;simp [sub,hcl,Addr.add_mid,<-hqb]
    ·simp [execOp,e4,Instr.sliceAt,run_underlying hu,hr,cA hs,Instr.sureAddr]
   ·simp at e
  ·simp at e
 ·rename_i bs hu hp
  split at e
  ·rename_i i j e1 e2
   simp only [Option.some.injEq,Prod.mk.injEq] at e;obtain⟨rfl,rfl⟩:=e;obtain⟨h0,hij,hj⟩:=hmet _ rfl;have hv:=h.evv hx hp;have hr:=λW=>iB (P:=P) (b:=false) h hlo hhi (c:=bs.size) (len:=bs.size) (Nat.le_refl _) e1 e2 h0 hij hj W;refine⟨_,.val _,λw' _=>?_⟩;simp [execOp,hv,Instr.sliceAt,run_underlying hu,Instr.slice,hr]
  ·simp at e
 ·simp at e
theorem R.one {H:Heap} {nx:Nat} {p:PV} {v:Value} (h:R ok w H β nx p v) (hp:bk p=true):v.oneCell'=true:=by
 cases h with
 |deep _ _ h=>cases h<;>first|assumption|rfl|simp_all [bk]
 |_=>first|assumption|rfl|simp_all [bk]
theorem fX {es i f m:Nat} (hf:f < es) (hi:i < m):i*es+f < m*es:=by
 calc i*es+f < i*es+es:=by omega
  _=(i+1)*es:=by rw [Nat.succ_mul]
  _<=m*es:=Nat.mul_le_mul_right _ hi
def mI (es m:Nat) (u:Nat->Nat->Value):List Value:=(List.range (m*es)).map λj=>u (j / es) (j%es)
theorem dO (es m:Nat) (u:Nat->Nat->Value):(mI es m u).length=m*es:=by simp [mI]
theorem jO {es m i f:Nat} (u:Nat->Nat->Value) (hf:f < es) (hi:i < m):(mI es m u)[i*es+f]? = some (u i f):=by
 have h0:0 < es:=by omega
 have h1:(i*es+f) / es=i:=by rw [Nat.mul_comm,Nat.mul_add_div h0,Nat.div_eq_of_lt hf,Nat.add_zero]
 have h2:(i*es+f)%es=f:=by rw [Nat.mul_comm,Nat.mul_add_mod,Nat.mod_eq_of_lt hf]
 simp [mI,fX hf hi,h1,h2]
theorem R.row (h:Rel G n w0 ok a w s β) {es:Nat} (hes:0 < es) {p:PV} {v:Value} (hp:R ok w s.H β s.nx p v) {r:Nat×(Nat->List PV)} (e:o4 s es p=some r) :
  ∃(ad:Option Addr) (c:Nat) (us:List Value),v=.slice ad r.1 c/\(ad=none->r.1=0)/\us.length=r.1*es/\(∀i,i < r.1->(r.2 i).length=es/\∀p∈r.2 i,bk p=true) /\
   (∀b,ad=some b->∀j u,us[j]? = some u->w.cell? (b.add j)=some u) /\
   (∀u∈us,u.oneCell'=true) /\
   ∀(i f:Nat) p,i < r.1->(r.2 i)[f]? = some p->∃u,us[i*es+f]? = some u/\R0 ok w p u:=by
 obtain⟨m,g⟩:=r;simp only;have core:∀(ad:Option Addr) (c:Nat) (u:Nat->Nat->Value),v=.slice ad m c->(∀i,i < m->(g i).length=es/\∀p∈g i,bk p=true) ->
   (∀(i f:Nat) p,i < m->(g i)[f]? = some p->∃b o,ad=some ⟨b,o,none⟩/\w.cell? ⟨b,o+(i*es+f),none⟩=some (u i f)) ->
   (∀(i f:Nat) p,i < m->(g i)[f]? = some p->R0 ok w p (u i f)) ->
   ∃(ad:Option Addr) (c:Nat) (us:List Value),v=.slice ad m c/\(ad=none->m=0)/\us.length=m*es/\(∀i,i < m->(g i).length=es/\∀p∈g i,bk p=true) /\
   (∀b,ad=some b->∀j u,us[j]? = some u->w.cell? (b.add j)=some u)/\(∀u∈us,u.oneCell'=true) /\
   ∀(i f:Nat) p,i < m->(g i)[f]? = some p->∃u,us[i*es+f]? = some u/\R0 ok w p u:=by
  intro ad c u hv hl h1 h2;have place:∀j,j < m*es->∃p,j / es < m/\(g (j / es))[j%es]? = some p/\j / es*es+j%es=j:=by
   intro j hj;have hd:j / es < m:=by rw [Nat.div_lt_iff_lt_mul hes];exact hj
   have hxl:=(hl _ hd).1;have hm:=Nat.mod_lt j hes;exact⟨_,hd,List.getElem?_eq_getElem (by omega),by rw [Nat.mul_comm];exact Nat.div_add_mod j es⟩
  refine⟨ad,c,mI es m u,hv,λhn=>?_,dO ..,hl,λb hb j v' hj=>?_,λv' hv'=>?_,λi f p hi hp=>?_⟩
  ·rcases Nat.eq_zero_or_pos m with h0|h0
   ·exact h0
   ·obtain⟨p,hx,hp,_⟩:=place 0 (Nat.mul_pos h0 hes);obtain⟨b,o,e1,_⟩:=h1 _ _ p hx hp;rw [hn] at e1;cases e1
  ·have hjl:j < m*es:=by rw [<-dO es m u];exact(List.getElem?_eq_some_iff.1 hj).1
   obtain⟨p,hx,hp,hjj⟩:=place j hjl;obtain⟨b',o,e1,e2⟩:=h1 _ _ p hx hp;rw [hb] at e1;cases e1;have:=jO (m:=m) u (Nat.mod_lt j hes) hx;rw [hjj] at this e2;rw [Addr.add_mid,e2,<-hj,this]
  ·obtain⟨j,hj,rfl⟩:=List.getElem_of_mem hv';rw [dO] at hj;obtain⟨p,hx,hp,hjj⟩:=place j hj;have:=jO (m:=m) u (Nat.mod_lt j hes) hx;rw [hjj] at this;have e3:(mI es m u)[j]'(by rw [dO];exact hj)=u (j / es) (j%es):=by
    rw [List.getElem?_eq_getElem (by rw [dO];exact hj)] at this;simpa using this
   rw [e3];exact(R.deep (nx:=s.nx) (H:=s.H) (β:=β) _ _ (h2 _ _ p hx hp)).one ((hl _ hx).2 p (List.mem_of_getElem? hp))
  ·have hf:f < es:=by rw [<-(hl i hi).1];exact(List.getElem?_eq_some_iff.1 hp).1
   exact⟨u i f,jO u hf hi,h2 i f p hi hp⟩
 unfold o4 at e;split at e
 ·rename_i id st lo len
  simp only [Option.bind_eq_some_iff] at e;obtain⟨b,hb,e⟩:=e;split at e
  ·rename_i hc
   obtain⟨rfl,hbox⟩:=hc;simp only [Option.some.injEq,Prod.mk.injEq] at e;obtain⟨rfl,rfl⟩:=e;obtain⟨e1,e2⟩:=hp.sl_inv hb;have hown:=(aO hb).1;obtain⟨xs0,_,hl0,_⟩:=h.heap.own id b hown;have hl:∀i,i < len->(b.get (lo+i)).length=b.es/\∀p∈b.get (lo+i),bk p=true:=λi hi=>hl0 (lo+i) (by omega);rcases e1 with e1|⟨_,e1,ad,e3⟩
   ·rcases h.heap.slice_of hown with ⟨e4,e5⟩|⟨g,c,e4,e5,e6⟩
    ·obtain rfl:len=0:=by omega
     exact core none 0 (λ_ _=>undef) (by rw [e1,e4];rfl) hl (λi f p hi=>by omega) (λi f p hi=>by omega)
    ·obtain⟨u,_,_,_,_,_,_,h1,h2,h3⟩:=h.heap.cells hown e4;refine core (some ⟨g,lo*b.es,none⟩) (c - lo) (λi f=>u (lo+i) f) (by rw [e1,e4];simp [sub,Addr.add_mid]) hl (λi f p hi hp=>⟨g,lo*b.es,rfl,?_⟩) (λi f p hi hp=>h3 hbox _ f p (by omega) hp);rw [<-h1 _ f p (by omega) hp];congr 2;rw [Nat.add_mul];omega
   ·subst e1;exact core ad 0 (λ_ _=>undef) e3 hl (λi f p hi=>by omega) (λi f p hi=>by omega)
  ·simp at e
 ·rename_i es' n' g'
  split at e
  ·rename_i hee
   subst hee;simp only [Option.some.injEq,Prod.mk.injEq] at e;obtain⟨rfl,rfl⟩:=e;cases hp.rs_inv with
   |rs _ _ _ ad c u hl hc hm h1 h2 =>
    refine core ad c u rfl hl (λi f p hx hp=>?_) h2;obtain⟨b,o,e1,_,e2⟩:=h1 i f p hx hp;exact⟨b,o,e1,e2⟩
  ·simp at e
 ·simp only [Option.some.injEq,Prod.mk.injEq] at e;obtain⟨rfl,rfl⟩:=e;have:=hp.val_eq;exact core none 0 (λ_ _=>undef) (by rw [this]) (by simp) (by simp) (by simp)
 ·simp at e
theorem lu:∀(l:List Int) (s:ByteArray),(l.foldl (λr n=>r.push (UInt8.ofNat n.toNat)) s).data.toList=s.data.toList++l.map λn=>UInt8.ofNat n.toNat
 |[],s=>by simp
 |x::l,s=>by
  rw [List.foldl_cons,lu l];simp [ByteArray.push]
theorem rr (h:Rel G n w0 ok a w s β) {dst:Option Tmp} {src t ty:TypeId} {x:Operand} {pos:String} {after:Array Edge} {guard:Option (Nat×Bool)} (hx:aT n x=true) {c:Option Prop} {p:PV} (hmet:Met c)
  (e:gk P s ⟨dst,.convert src t x,ty,pos,after,guard⟩=some (c,p)):gz P ok a w s β ⟨dst,.convert src t x,ty,pos,after,guard⟩ p:=by
 simp only [gk] at e;split at e
 ·rename_i el hu1 hu2
  split at e
  ·rename_i hu3
   simp only [Option.map_eq_some_iff,Prod.mk.injEq] at e;obtain⟨r,hr,rfl,rfl⟩:=e;obtain⟨m,g⟩:=r;have hb:∀i,i < m->∃k:Int,g i=[.val (.int .u8 k)]:=hmet _ rfl;obtain⟨ad,c2,us,hv,hn,hul,hl,hcell,hone,hR⟩:=R.row h (by omega) (h.ev hx) hr;simp only at hv hn hul hl hR;refine⟨_,.val _,λw' hw'=>?_⟩;have hus:us=(List.range m).map λi=>match g i with
     |[.val (.int .u8 k)]=>.int .u8 k
     |_=>undef:=by
    apply List.ext_getElem?;intro i;rcases Nat.lt_or_ge i m with hi|hi
    ·obtain⟨k,hk⟩:=hb i hi;obtain⟨u,e1,e2⟩:=hR i 0 (.val (.int .u8 k)) hi (by simp [hk]);have e3:u=.int .u8 k:=by cases e2;rfl
     simp only [Nat.mul_one,Nat.add_zero] at e1;simp [e1,e3,hi,hk]
    ·rw [List.getElem?_eq_none (by omega),List.getElem?_eq_none (by simp;omega)]
   let ns:List Int:=(List.range m).map λi=>match g i with
    |[.val (.int .u8 k)]=>k
    |_=>0
   have hns:us=ns.map (Value.int .u8):=by
    rw [hus];simp only [ns,List.map_map];apply List.map_congr_left;intro i hi;obtain⟨k,hk⟩:=hb i (by simpa using hi);simp [hk]
   have hstr:cT m g=ns.foldl (λr n=>r.push (UInt8.ofNat n.toNat)) ByteArray.empty:=by
    have e1:=lu ns ByteArray.empty;have e2:(cT m g).data.toList=ns.map λn=>UInt8.ofNat n.toNat:=by
     simp only [cT,ns,List.map_map];apply List.map_congr_left;intro i hi;obtain⟨k,hk⟩:=hb i (by simpa using hi);simp [hk]
    have e3:(cT m g).data.toList=(ns.foldl (λr n=>r.push (UInt8.ofNat n.toNat)) ByteArray.empty).data.toList:=by rw [e1,e2];rfl
    generalize cT m g=A at e3 ⊢;generalize ns.foldl (λr n=>r.push (UInt8.ofNat n.toNat)) ByteArray.empty=B at e3 ⊢;cases A;cases B;simpa using e3
   rw [hstr];simp only [execOp,Sem.run_bind,hv];rw [run_convert_bytes_string w' src t el ad m c2 hu1 hu3 hu2];cases ad with
   |none =>
    obtain rfl:=hn rfl;simp [Conv.bytesToString,ns]
   |some ad =>
    rw [run_bytesToString w' ad m c2 ns]
    ·rfl
    ·rw [<-hns];have hlen:us.length=m:=by rw [hul,Nat.mul_one]
     rw [<-hlen];refine run_loadCells_list w' ad us λj v hj=>?_;have hc:=hcell ad rfl j v hj;have hlt:(ad.add j).block < w.heap.size:=by
      generalize ad.add j=b at hc ⊢;unfold World.cell? at hc;rcases Nat.lt_or_ge b.block w.heap.size with hlt|hge
      ·exact hlt
      ·rw [Array.getElem?_eq_none hge] at hc;simp at hc
     rw [hw'.cell hlt];exact hc
  ·simp at e
 ·exact bT h (λy hy=>by simp [Op.operands] at hy;subst hy;exact hx) rfl e
theorem um (h:Rel G n w0 ok a w s β) {dst:Option Tmp} {op:BinOp} {t t' ty:TypeId} {x y:Operand} {pos:String} {after:Array Edge} {guard:Option (Nat×Bool)} (ho:∀z∈(Op.binOp op t x y t').operands,aT n z=true) {c:Option Prop} {p:PV} (hmet:Met c)
  (e:xH P s ⟨dst,.binOp op t x y t',ty,pos,after,guard⟩ op (s.ev x) (s.ev y)=some (c,p)):gz P ok a w s β ⟨dst,.binOp op t x y t',ty,pos,after,guard⟩ p:=by
 have hx:=ho x (by simp [Op.operands]);have hy:=ho y (by simp [Op.operands]);simp only [xH] at e;split at e
 ·rename_i k i k' j hp hq
  simp only [Option.some.injEq,Prod.mk.injEq] at e;obtain⟨rfl,rfl⟩:=e;have h0:=hmet _ rfl;refine⟨_,.val _,λw' _=>?_⟩;simp [execOp,h.evv hx hp,h.evv hy hq,eqGuard,binOp,shift_shl_any k k' i j h0]
 ·rename_i k i k' j hp hq
  simp only [Option.some.injEq,Prod.mk.injEq] at e;obtain⟨rfl,rfl⟩:=e;have h0:=hmet _ rfl;refine⟨_,.val _,λw' _=>?_⟩;simp [execOp,h.evv hx hp,h.evv hy hq,eqGuard,binOp,shift_shr_any k k' i j h0]
 ·rename_i k i k' j hp hq
  split at e
  ·rename_i hk
   subst hk;simp only [Option.some.injEq,Prod.mk.injEq] at e;obtain⟨rfl,rfl⟩:=e;have h0:=hmet _ rfl;refine⟨_,.val _,λw' _=>?_⟩;simp [execOp,h.evv hx hp,h.evv hy hq,eqGuard,binOp,Op.intDiv,h0]
  ·simp at e
 ·rename_i k i k' j hp hq
  split at e
  ·rename_i hk
   subst hk;simp only [Option.some.injEq,Prod.mk.injEq] at e;obtain⟨rfl,rfl⟩:=e;have h0:=hmet _ rfl;refine⟨_,.val _,λw' _=>?_⟩;simp [execOp,h.evv hx hp,h.evv hy hq,eqGuard,binOp,Op.intDiv,h0]
  ·simp at e
 ·rename_i i j hp hq
  simp only [Option.some.injEq,Prod.mk.injEq] at e;obtain⟨rfl,rfl⟩:=e;have h0:=hmet _ rfl;refine⟨_,.val _,λw' _=>?_⟩;have h1:¬(((i.size+j.size:Nat):Int) > IntKind.i64.max):=by
   have:IntKind.i64.max=9223372036854775807:=by decide
   rw [this];omega
  simp only [execOp,h.evv hx hp,h.evv hy hq,eqGuard,binOp,Op.stringOp,h1,if_false];rfl
 ·rename_i es m g hp hq
  ·split at e
   ·rename_i el hu
    split at e
    ·rename_i hes
     simp only [Option.some.injEq,Prod.mk.injEq] at e;obtain⟨rfl,rfl⟩:=e;have h0:0 < m:=hmet _ rfl;have hv:=h.evv hy hq;have hR:=h.ev hx;rw [hp] at hR;obtain⟨ad,c1,hv1⟩:∃ad c1,a.eval x=.slice (some ad) m c1:=by
      generalize a.eval x=v at hR;cases hR.rs_inv with
      |rs _ _ _ ad c u hl hc hm h1 h2 =>
       have hl0:=(hl 0 h0).1;obtain⟨b,o,rfl,_⟩:=h1 0 0 ((g 0)[0]'(by omega)) h0 (List.getElem?_eq_getElem (by omega));exact⟨_,_,rfl⟩
     refine⟨_,.val _,λw' _=>?_⟩;have:=Lib.run_eql_slice_nil (P:=P) w' t el (some ad) m c1 0 0 hu;simp [execOp,hv,hv1,eqGuard,this]
    ·simp at e
   ·simp at e
 ·exact bT h ho rfl e
theorem R.cells {H:Heap} {nx:Nat} {p:PV} {v:Value} (h:R ok w H β nx p v) {cs:List PV} (e:p.cells=some cs) :
  cs.length=v.cells.size/\∀(j:Nat) q,cs[j]? = some q->∃u,v.cells[j]? = some u/\R ok w H β nx q u:=by
 have one:∀{p:PV} {v:Value},v.cells = #[v]->R ok w H β nx p v->[p].length=v.cells.size/\∀(j:Nat) q,[p][j]? = some q->∃u,v.cells[j]? = some u/\R ok w H β nx q u:=by
  intro p v hv h;rw [hv];refine⟨rfl,λj q hq=>?_⟩;cases j with
  |zero=>simp at hq;subst hq;exact⟨v,by simp,h⟩
  |succ j=>simp at hq
 have oc:∀{v:Value},v.oneCell'=true->v.cells = #[v]:=λ{v} h=>by cases v<;>simp_all [Value.cells,Value.oneCell']
 have h':=h;have hagg:∀{xs:List PV} {vs:Array Value},xs.length=vs.size->(∀(i:Nat) p u,xs[i]? = some p->vs[i]? = some u->R ok w H β nx p u)->xs.length=(Value.agg vs).cells.size/\∀(j:Nat) q,xs[j]? = some q->∃u,(Value.agg vs).cells[j]? = some u/\R ok w H β nx q u:=by
  intro xs vs l h;refine⟨l,λj q hq=>?_⟩;have hj:=(List.getElem?_eq_some_iff.1 hq).1;exact⟨vs[j]'(by omega),by simp [Value.cells],h j q _ hq (by simp)⟩
 cases h with
 |deep _ _ h=>cases h with
  |val =>
   simp only [PV.cells,Option.some.injEq] at e;subst e;refine⟨by simp,λj q hq=>?_⟩;simp only [List.getElem?_map,Array.getElem?_toList,Option.map_eq_some_iff] at hq;obtain⟨u,hu,rfl⟩:=hq;exact⟨u,hu,.val u⟩
  |agg xs vs l h =>
   simp only [PV.cells,Option.some.injEq] at e;subst e;exact hagg l λi p u a b=>.deep _ _ (h i p u a b)
  |tup=>simp [PV.cells] at e
  |rs=>simp only [PV.cells,Option.some.injEq] at e;subst e;exact one rfl h'
  |rp=>simp only [PV.cells,Option.some.injEq] at e;subst e;exact one rfl h'
  |fn=>simp only [PV.cells,Option.some.injEq] at e;subst e;exact one rfl h'
 |agg xs vs l h =>
  simp only [PV.cells,Option.some.injEq] at e;subst e;exact hagg l h
 |tup=>simp [PV.cells] at e
 |junk=>simp [PV.cells] at e
 |ptr id st i f v h0 h1 h2=>simp only [PV.cells,Option.some.injEq] at e;subst e;exact one (oc h0) h'
 |sl id st lo len v h0 h1 h2=>simp only [PV.cells,Option.some.injEq] at e;subst e;exact one (oc h0) h'
 |fn=>simp only [PV.cells,Option.some.injEq] at e;subst e;exact one rfl h'
theorem fY {t:TypeId} {r:Bool} (e:jI P t=some r) (W:World):(isAgg t).run P W=.ok r W:=by
 simp only [jI,Option.map_eq_some_iff] at e;obtain⟨d,hd,hr⟩:=e;unfold isAgg;simp only [Sem.run_bind,run_underlying hd];subst hr;cases d<;>rfl
theorem lv {t:TypeId} {k:Nat} (e:cY P t=some k) (W:World):(sizeOf t).run P W=.ok k W:=by
 simp only [cY,Option.map_eq_some_iff] at e;obtain⟨ti,hti,hm⟩:=e;unfold sizeOf;simp [run_typeInfo W hti,hm]
theorem km {H:Heap} {nx:Nat} {p:PV} {v:Value} (h:R ok w H β nx p v) {cs:List PV} (e:s8 p=some cs) :
  ∃us,v=.agg us/\cs.length=us.size/\∀(i:Nat) p u,cs[i]? = some p->us[i]? = some u->R ok w H β nx p u:=by
 unfold s8 at e;split at e
 ·rename_i us
  simp only [Option.some.injEq] at e;subst e;have:=h.val_eq;refine⟨us,this,by simp,λi p u hp hu=>?_⟩;simp only [List.getElem?_map,Array.getElem?_toList,hu,Option.map_some,Option.some.injEq] at hp;rw [<-hp];exact .val _
 ·simp only [Option.some.injEq] at e;subst e;exact h.agg_inv
 ·cases e
theorem lx {H:Heap} {nx:Nat} {t:TypeId} {cs:List PV} {us:Array Value} (l:cs.length=us.size) (h:∀(i:Nat) p u,cs[i]? = some p->us[i]? = some u->R ok w H β nx p u) {off:Nat} {p:PV} (e:s9 P t cs off=some p) :
  ∃v,(∀W:World,(part t us off).run P W=.ok v W)/\R ok w H β nx p v:=by
 simp only [s9,Option.bind_eq_some_iff] at e;obtain⟨r,hr,e⟩:=e;cases r with
 |true =>
  simp only [Option.bind_eq_some_iff] at e;obtain⟨k,hk,e⟩:=e;split at e
  ·rename_i hle
   simp only [Option.some.injEq] at e;subst e;refine⟨.agg (us.extract off (off+k)),λW=>by simp [part,fY hr,lv hk],R.mkAgg (by simp;omega) λi p u hp hu=>?_⟩;have hik:i < k:=by
    have:=(List.getElem?_eq_some_iff.1 hp).1;simp at this;omega
   rw [List.getElem?_take,if_pos hik,List.getElem?_drop] at hp;rw [Array.getElem?_extract] at hu;split at hu
   ·exact h _ p u hp hu
   ·cases hu
  ·cases e
 |false =>
  have hlt:=(List.getElem?_eq_some_iff.1 e).1;have hu:us[off]? = some (us[off]'(by omega)):=by simp
  exact⟨_,λW=>by simp [part,fY hr,hu],h off p _ e hu⟩
theorem mJ {t:TypeId} {us:Array Value} {off:Nat} {v:Value} (e:ta P t us.toList off=some v) (W:World):(part t us off).run P W=.ok v W:=by
 simp only [ta,Option.bind_eq_some_iff] at e;obtain⟨r,hr,e⟩:=e;cases r with
 |true =>
  simp only [Option.bind_eq_some_iff] at e;obtain⟨k,hk,e⟩:=e;split at e
  ·rename_i hle
   simp only [Option.some.injEq] at e;subst e;have:us.extract off (off+k)=⟨(us.toList.drop off).take k⟩:=by
    apply Array.toList_inj.1;simp [List.extract_eq_take_drop]
   simp [part,fY hr,lv hk,this]
  ·cases e
 |false =>
  have e':us[off]? = some v:=by simpa using e
  simp [part,fY hr,e']
theorem o9 {d:Nat} {eq:TypeId->Value->Value->Option Bool} (heq:∀t x y r (W:World),eq t x y=some r->(Op.equalIn d t x y).run P W=.ok r W) {xs ys:Array Value} :
  ∀(fs:List Field) {r:Bool} (W:World),vv P eq xs.toList ys.toList fs=some r->(Op.eqFields d xs ys fs).run P W=.ok r W
 |[],r,W,e=>by
  simp only [vv,Option.some.injEq] at e;subst e;simp [Op.eqFields]
 |f::fs,r,W,e=>by
  unfold vv at e;split at e
  ·rename_i a b hn ha hb
   split at e
   ·rename_i q1 q2 h1 h2
    simp only [Option.some.injEq] at e;subst e;have hn':f.name ≠ "_" := by simpa using hn
    unfold Op.eqFields;simp only [hn',ne_eq,not_false_eq_true,if_true,Sem.run_bind,mJ ha,mJ hb,Result.andThen_ok,heq _ _ _ _ _ h1];cases q1 with
    |false=>simp
    |true=>simpa using o9 heq fs W h2
   ·cases e
  ·cases e
theorem nF:∀(d k:Nat) (t:TypeId) (x y:Value) (r:Bool) (W:World),BV P d t x y=some r->(Op.equalIn (k+d) t x y).run P W=.ok r W
 |0,_,_,_,_,_,_,e=>by simp [BV] at e
 |d+1,k,t,x,y,r,W,e=>by
  unfold BV at e;split at e
  ·rename_i a b hu
   simp only [Option.some.injEq] at e;subst e;exact run_equalIn_bool W (k+d) t a b hu
  ·rename_i q k1 a k2 b hu
   split at e
   ·rename_i hk
    simp only [Option.some.injEq] at e;subst e hk;show(Op.equalIn (k+d+1) t _ _).run P W=_;simp [Op.equalIn,run_underlying hu]
   ·cases e
  ·rename_i a b hu
   simp only [Option.some.injEq] at e;subst e;show(Op.equalIn (k+d+1) t _ _).run P W=_;simp [Op.equalIn,run_underlying hu]
  ·rename_i fs xs ys hu
   split at e
   ·rename_i hst
    have hf:P.fieldsOf t=fs:=by simp [Program.fieldsOf,hu]
    have:=run_equalIn_struct W (k+d) t xs ys (by rw [hf];exact hu) hst;show(Op.equalIn (k+d+1) t _ _).run P W=_;rw [this,hf];exact o9 (λt x y r W e=>nF d k t x y r W e) fs.toList W e
   ·cases e
  ·cases e
theorem un (h:Rel G n w0 ok a w s β) {op:BinOp} {t t':TypeId} {x y:Operand} (hx:aT n x=true) (hy:aT n y=true) {dst:Option Tmp} {ty:TypeId} {pos:String} {after:Array Edge} {guard:Option (Nat×Bool)} {p:PV} (e:eqQ P t op (s.ev x) (s.ev y)=some p) :
  gz P ok a w s β ⟨dst,.binOp op t x y t',ty,pos,after,guard⟩ p:=by
 unfold eqQ at e;split at e
 ·rename_i xs ys hpx hpy
  split at e
  ·rename_i hg
   simp only [Option.map_eq_some_iff] at e;obtain⟨r,hr,rfl⟩:=e;have e1:=h.evv hx hpx;have e2:=h.evv hy hpy;refine⟨_,.val _,λw' _=>?_⟩;have:=nF 6 9994 t _ _ r w' hr;simp [execOp,e1,e2,run_eqGuard_agg,hg,run_eql_struct,this]
  ·cases e
 ·rename_i xs ys hpx hpy
  split at e
  ·rename_i hg
   simp only [Option.map_eq_some_iff] at e;obtain⟨r,hr,rfl⟩:=e;have e1:=h.evv hx hpx;have e2:=h.evv hy hpy;refine⟨_,.val _,λw' _=>?_⟩;have:=nF 6 9994 t _ _ r w' hr;simp [execOp,e1,e2,run_eqGuard_agg,hg,run_neq_struct,this]
  ·cases e
 ·cases e
theorem nG:∀(l:List Value) (j off:Nat) (c:Array Value),off+j+l.length<=c.size->((l.zipIdx j).foldl (λcs (x:Value×Nat)=>cs.setIfInBounds (off+x.2) x.1) c).toList=c.toList.take (off+j)++l++c.toList.drop (off+j+l.length)
 |[],j,off,c,_=>by simp
 |x::l,j,off,c,h=>by
  simp only [List.length_cons] at h;rw [List.zipIdx_cons,List.foldl_cons,nG l (j+1) off _ (by simp;omega)];simp only [Array.toList_setIfInBounds];rw [List.take_set,List.drop_set,if_pos (by omega)];have hlt:off+j < c.toList.length:=by simp;omega
  have h1:(c.toList.take (off+(j+1))).set (off+j) x=c.toList.take (off+j)++[x]:=by
   rw [show off+(j+1)=off+j+1 by omega,List.take_succ_eq_append_getElem hlt,List.set_append,if_neg (by rw [List.length_take];omega),List.length_take,Nat.min_eq_left (by simp at hlt;simp;omega),Nat.sub_self];rfl
  rw [h1];simp [Nat.add_assoc,Nat.add_comm 1,Nat.add_left_comm]
theorem pf {place:Nat->Option (Nat×Nat)}:∀(parts:List (Nat×Value)) (pl:List (Nat×Nat)) (d:Nat) (c:Array Value) (css:List (List PV)),jJ d pl css=true->css.length=parts.length->(∀(i:Nat) q,parts[i]? = some q->place q.1=pl[i]?) ->
  (∀(i:Nat) q cs,parts[i]? = some q->css[i]? = some cs->cs.length=q.2.cells.size)->d+css.flatten.length<=c.size ->
  ∃c',Instr.fill place c parts=some c'/\c'.toList=c.toList.take d++(parts.flatMap λq=>q.2.cells.toList)++c.toList.drop (d+css.flatten.length)
 |[],[],d,c,[],_,_,_,_,_=>⟨c,rfl,by simp⟩
 |q::parts,(o,z)::pl,d,c,cs::css,hc,hl,hp,hs,hd=>by
  simp only [jJ,Bool.and_eq_true] at hc;obtain⟨⟨h1,h2⟩,h3⟩:=hc;obtain rfl:=Nat.eq_of_beq_eq_true h1;obtain rfl:=Nat.eq_of_beq_eq_true h2;have hq:=hp 0 q (by simp);have hsz:=hs 0 q cs (by simp) (by simp);simp only [List.getElem?_cons_zero] at hq;simp only [List.flatten_cons,List.length_append] at hd;unfold Instr.fill;rw [hq];simp only;rw [if_neg (by simp;omega)];have hset:(q.2.cells.zipIdx.foldl (λcs (x:Value×Nat)=>cs.setIfInBounds (o+x.2) x.1) c).toList=c.toList.take o++q.2.cells.toList++c.toList.drop (o+cs.length):=by
   have:=nG q.2.cells.toList 0 o c (by simp;omega);rw [<-Array.foldl_toList,Array.toList_zipIdx];simpa [hsz] using this
  obtain⟨c',f1,f2⟩:=pf parts pl (o+cs.length) (q.2.cells.zipIdx.foldl (λcs (x:Value×Nat)=>cs.setIfInBounds (o+x.2) x.1) c) css h3 (by simpa using hl) (λi q' h=>by have:=hp (i+1) q' (by simpa using h);simpa using this) (λi q' cs' h h'=>hs (i+1) q' cs' (by simpa using h) (by simpa using h')) (by
   have:=congrArg List.length hset;simp only [Array.length_toList,List.length_append,List.length_take,List.length_drop] at this;omega)
  refine⟨c',f1,?_⟩;rw [f2,hset];have ht:(c.toList.take o).length=o:=by simp;omega
  have hq2:q.2.cells.toList.length=cs.length:=by simp [hsz]
  rw [List.take_append_of_le_length (by simp;omega),List.take_of_length_le (by simp;omega)];rw [List.drop_append,List.drop_of_length_le (by simp;omega)];simp only [List.nil_append,List.drop_drop,List.flatMap_cons,List.flatten_cons,List.length_append,List.append_assoc,ht,hq2];congr 4;omega
 |[],_::_,_,_,[],h,_,_,_,_=>by simp [jJ] at h
 |[],_,_,_,_::_,_,h,_,_,_=>by simp at h
 |_::_,_,_,_,[],_,h,_,_,_=>by simp at h
 |_::_,[],_,_,_::_,h,_,_,_,_=>by simp [jJ] at h
theorem bA {α β : Type} {f : α->Option β}:∀{xs:List α} {ys:List β},ep f xs=some ys->ys.length=xs.length/\∀(i:Nat) y,ys[i]? = some y->∃x,xs[i]? = some x/\f x=some y
 |[],ys,h=>by simp [ep] at h;subst h;simp
 |x::xs,ys,h=>by
  simp only [ep] at h;split at h
  ·rename_i y ys' h1 h2
   simp only [Option.some.injEq] at h;subst h;obtain⟨l,g⟩:=bA h2;refine⟨by simp [l],λi y' hy=>?_⟩;cases i with
   |zero=>simp at hy;subst hy;exact⟨x,by simp,h1⟩
   |succ i=>exact g i y' (by simpa using hy)
  ·simp at h
theorem jc (h:Rel G n w0 ok a w s β) {t:TypeId} {ps:Array (Nat×Operand)} (ho:∀p∈ps,aT n p.2=true) {dst:Option Tmp} {ty:TypeId} {pos:String} {after:Array Edge} {guard:Option (Nat×Bool)} {p:PV} (e:re P s t ps.toList=some p):ReadsA P ok a w s β ⟨dst,.build t ps,ty,pos,after,guard⟩ p:=by
 simp only [re,Option.bind_eq_some_iff] at e;obtain⟨pl,hpl,cs,hcs,z,hz,e⟩:=e;split at e
 ·rename_i hc
  obtain⟨c1,c2,c3⟩:=hc;simp only [Option.some.injEq] at e;subst e;obtain⟨m1,m2⟩:=bA hcs;simp only [zeroCells,Option.bind_eq_some_iff,Option.map_eq_some_iff] at hz;obtain⟨ti,hti,zv,hzv,rfl⟩:=hz;let parts:List (Nat×Value):=ps.toList.map λp=>(p.1,a.eval p.2);have hcell:∀(i:Nat) c,cs[i]? = some c->∃q,ps.toList[i]? = some q/\c.length=(a.eval q.2).cells.size/\∀(j:Nat) x,c[j]? = some x->∃u,(a.eval q.2).cells[j]? = some u/\R ok w s.H β s.nx x u:=by
   intro i c hci;obtain⟨q,hq,hqc⟩:=m2 i c hci;obtain⟨q1,q2⟩:=(h.ev (ho q (by simpa using List.mem_of_getElem? hq))).cells hqc;exact⟨q,hq,q1,q2⟩
  have hplace:∀(i:Nat) q,parts[i]? = some q->pl[q.1]? = pl[i]?:=by
   intro i q hq;simp only [parts,List.getElem?_map,Option.map_eq_some_iff] at hq;obtain⟨x,hx,rfl⟩:=hq;have:=congrArg (·[i]?) c1;simp only [List.getElem?_map,hx,Option.map_some] at this;have hi:=(List.getElem?_eq_some_iff.1 this.symm).2;simp at hi;simp [hi]
  have hrun:∃c',P.built t parts=some c'/\c'.toList=parts.flatMap λq=>q.2.cells.toList:=by
   have hzs:zv.cells.size=cs.flatten.length:=by simpa using c3
   have key:∀place:Nat->Option (Nat×Nat),(∀(i:Nat) q,parts[i]? = some q->place q.1=pl[i]?)->∃c',Instr.fill place zv.cells parts=some c'/\c'.toList=parts.flatMap λq=>q.2.cells.toList:=by
    intro place hpp;obtain⟨c',f1,f2⟩:=pf (place:=place) parts pl 0 zv.cells cs c2 (by simp [parts,m1]) hpp (λi q c hq hc=>by
     obtain⟨x,hx,hl,_⟩:=hcell i c hc;simp only [parts,List.getElem?_map,hx,Option.map_some,Option.some.injEq] at hq;rw [<-hq];exact hl) (by omega)
    refine⟨c',f1,?_⟩;rw [f2,Nat.zero_add,List.drop_of_length_le (by rw [Array.length_toList];omega)];simp
   unfold i6 at hpl;split at hpl
   ·rename_i fs hu
    have hmm:fs.toList.mapM (λf=>(P.info? f.type).map λi=>(f.offset,i.size))=some pl:=by
     have:∀(l:List Field) (r:List (Nat×Nat)),ep (λf:Field=>(cY P f.type).map λz=>(f.offset,z)) l=some r->l.mapM (λf=>(P.info? f.type).map λi=>(f.offset,i.size))=some r:=by
      intro l
      induction l with
      |nil=>intro r hr;simp [ep] at hr;subst hr;rfl
      |cons f l ih =>
       intro r hr;unfold ep at hr;split at hr
       ·rename_i y ys hy hys
        simp only [Option.some.injEq] at hr;subst hr;simp only [List.mapM_cons,ih ys hys];simp only [cY,Option.map_map] at hy;have hy':(P.info? f.type).map (λi=>(f.offset,i.size))=some y:=hy;simp [hy']
       ·cases hr
     exact this _ _ hpl
    obtain⟨c',f1,f2⟩:=key (pl.toArray[·]?) (λi q hq=>by simpa using hplace i q hq);exact⟨c',by simp only [Program.built,hti,hu,hzv,hmm];exact f1,f2⟩
   ·rename_i m el hu
    simp only [Option.map_eq_some_iff,cY] at hpl;obtain⟨zz,⟨ie,hie,rfl⟩,rfl⟩:=hpl;obtain⟨c',f1,f2⟩:=key (λi=>some (i*ie.size,ie.size)) (λi q hq=>by
     have:=hplace i q hq;have hi:i < m:=by
      have h1:=(List.getElem?_eq_some_iff.1 hq).1;have h2:=congrArg List.length c1;simp [parts] at h1 h2;omega
     rw [<-this];simp only [parts,List.getElem?_map,Option.map_eq_some_iff] at hq;obtain⟨x,hx,rfl⟩:=hq;have h2:=congrArg (·[i]?) c1;simp only [List.getElem?_map,hx,Option.map_some,List.length_map,List.length_range] at h2;have h3:=(List.getElem?_eq_some_iff.1 h2.symm).2;simp at h3;simp [<-h3,hi])
    exact⟨c',by simp only [Program.built,hti,hu,hzv,hie];exact f1,f2⟩
   ·cases hpl
  obtain⟨c',hb,hc'⟩:=hrun;refine⟨.agg c',R.mkAgg ?_ λi x u hx hu=>?_,λw'=>?_⟩
  ·have h1:=congrArg List.length hc';simp only [Array.length_toList] at h1;rw [h1];have:∀(cs:List (List PV)) (l:List (Nat×Operand)),cs.length=l.length->(∀(i:Nat) c,cs[i]? = some c->∃q,l[i]? = some q/\c.length=(a.eval q.2).cells.size)->cs.flatten.length=((l.map λp=>(p.1,a.eval p.2)).flatMap λq=>q.2.cells.toList).length:=by
    intro cs
    induction cs with
    |nil=>intro l hl _;cases l with|nil=>rfl|cons=>simp at hl
    |cons c cs ih =>
     intro l hl hh;cases l with
     |nil=>simp at hl
     |cons q l =>
      obtain⟨q',e1,e2⟩:=hh 0 c (by simp);simp only [List.getElem?_cons_zero,Option.some.injEq] at e1;subst e1;have:=ih l (by simpa using hl) (λi c hc=>by simpa using hh (i+1) c (by simpa using hc));simp only [List.flatten_cons,List.length_append,List.map_cons,List.flatMap_cons,Array.length_toList,e2,this]
   exact this cs ps.toList m1 λi c hc=>by obtain⟨q,e1,e2,_⟩:=hcell i c hc;exact⟨q,e1,e2⟩
  ·have hu':(parts.flatMap λq=>q.2.cells.toList)[i]? = some u:=by rw [<-hc'];simpa using hu
   have:∀(cs:List (List PV)) (l:List (Nat×Operand)) (i:Nat),cs.length=l.length->(∀(i:Nat) c,cs[i]? = some c->∃q,l[i]? = some q/\c.length=(a.eval q.2).cells.size/\∀(j:Nat) x,c[j]? = some x->∃u,(a.eval q.2).cells[j]? = some u/\R ok w s.H β s.nx x u)->cs.flatten[i]? = some x->((l.map λp=>(p.1,a.eval p.2)).flatMap λq=>q.2.cells.toList)[i]? = some u->R ok w s.H β s.nx x u:=by
    intro cs
    induction cs with
    |nil=>intro l i hl _ hx;simp at hx
    |cons c cs ih =>
     intro l i hl hh hx hu;cases l with
     |nil=>simp at hl
     |cons q l =>
      obtain⟨q',e1,e2,e3⟩:=hh 0 c (by simp);simp only [List.getElem?_cons_zero,Option.some.injEq] at e1;subst e1;simp only [List.flatten_cons,List.map_cons,List.flatMap_cons] at hx hu;rw [List.getElem?_append] at hx hu;simp only [Array.length_toList,<-e2] at hu;split at hx
      ·rename_i hi
       rw [if_pos hi] at hu;obtain⟨u',f1,f2⟩:=e3 i x hx;have:u'=u:=by rw [Array.getElem?_toList,f1] at hu;exact Option.some.inj hu
       rw [<-this];exact f2
      ·rename_i hi
       rw [if_neg hi] at hu;exact ih l _ (by simpa using hl) (λi c hc=>by simpa using hh (i+1) c (by simpa using hc)) hx hu
   exact this cs ps.toList i m1 hcell hx hu'
  ·have:=run_build (P:=P) w' t (ps.map λp=>(p.1,a.eval p.2)) c' (by simpa [parts] using hb);simp only [execOp,Sem.run_bind];rw [this];rfl
 ·cases e
def Rl (ok:Nat->Prop) (w:World) (H:Heap) (β : Nat->Value) (nx:Nat) (ps:List PV) (vs:List Value):Prop:=ps.length=vs.length/\∀(i:Nat) p u,ps[i]? = some p->vs[i]? = some u->R ok w H β nx p u
theorem Rl.append {H:Heap} {nx:Nat} {ps qs:List PV} {cs ds:List Value} (h:Rl ok w H β nx ps cs) (k:Rl ok w H β nx qs ds):Rl ok w H β nx (ps++qs) (cs++ds):=by
 refine⟨by rw [List.length_append,List.length_append,h.1,k.1],λi p u hp hu=>?_⟩;rw [List.getElem?_append] at hp hu;rw [<-h.1] at hu;split at hp
 ·rename_i hi
  rw [if_pos hi] at hu;exact h.2 i p u hp hu
 ·rename_i hi
  rw [if_neg hi] at hu;exact k.2 _ p u hp hu
theorem Rl.take {H:Heap} {nx:Nat} {ps:List PV} {cs:List Value} (h:Rl ok w H β nx ps cs) (n:Nat):Rl ok w H β nx (ps.take n) (cs.take n) :=
 ⟨by rw [List.length_take,List.length_take,h.1],λi p u hp hu=>by
  rw [List.getElem?_take] at hp hu;split at hp
  ·rename_i hi
   rw [if_pos hi] at hu;exact h.2 i p u hp hu
  ·cases hp⟩
theorem Rl.drop {H:Heap} {nx:Nat} {ps:List PV} {cs:List Value} (h:Rl ok w H β nx ps cs) (n:Nat):Rl ok w H β nx (ps.drop n) (cs.drop n) :=
 ⟨by rw [List.length_drop,List.length_drop,h.1],λi p u hp hu=>by
  rw [List.getElem?_drop] at hp hu;exact h.2 _ p u hp hu⟩
theorem mK {H:Heap} {nx:Nat} {place:Nat->Option (Nat×Nat)} {pl:List (Nat×Nat)} (hpl:∀(i:Nat) x,pl[i]? = some x->place i=some x):∀(css:List (Nat×List PV)) (parts:List (Nat×Value)) (c:List PV) (ca:Array Value) (r:List PV),css.length=parts.length ->
  (∀(i:Nat) x q,css[i]? = some x->parts[i]? = some q->x.1=q.1/\Rl ok w H β nx x.2 q.2.cells.toList)->Rl ok w H β nx c ca.toList->tc pl c css=some r->∃c',Instr.fill place ca parts=some c'/\Rl ok w H β nx r c'.toList
 |[],[],c,ca,r,_,_,hc,e=>by cases e;exact⟨ca,rfl,hc⟩
 |[],_::_,_,_,_,h,_,_,_=>by cases h
 |_::_,[],_,_,_,h,_,_,_=>by cases h
 |(k,cs)::css,q::parts,c,ca,r,hl,hp,hc,e=>by
  obtain⟨h1,h2⟩:=hp 0 (k,cs) q rfl rfl;unfold tc at e;split at e
  ·rename_i o z hk
   split at e
   ·rename_i hz
    have hcs:q.2.cells.size=z:=by rw [<-hz.1,h2.1];simp
    have hca:c.length=ca.size:=by rw [hc.1];simp
    have hset:(q.2.cells.zipIdx.foldl (λcs (x:Value×Nat)=>cs.setIfInBounds (o+x.2) x.1) ca).toList=ca.toList.take o++q.2.cells.toList++ca.toList.drop (o+z):=by
     have:=nG q.2.cells.toList 0 o ca (by simp;omega);rw [<-Array.foldl_toList,Array.toList_zipIdx];simpa [hcs] using this
    obtain⟨c',f1,f2⟩:=mK hpl css parts (c.take o++cs++c.drop (o+z)) (q.2.cells.zipIdx.foldl (λcs (x:Value×Nat)=>cs.setIfInBounds (o+x.2) x.1) ca) r (by simpa using hl) (λi x q' a b=>hp (i+1) x q' (by simpa using a) (by simpa using b)) (by rw [hset];exact((hc.take o).append h2).append (hc.drop _)) e;refine⟨c',?_,f2⟩;obtain⟨k',v⟩:=q;cases h1;unfold Instr.fill;rw [hpl _ _ hk];simp only;rw [if_neg (by simp at hcs ⊢;omega)];exact f1
   ·cases e
  ·cases e
theorem je (h:Rel G n w0 ok a w s β) {t:TypeId} {ps:Array (Nat×Operand)} (ho:∀p∈ps,aT n p.2=true) {dst:Option Tmp} {ty:TypeId} {pos:String} {after:Array Edge} {guard:Option (Nat×Bool)} {p:PV} (e:rf P s t ps.toList=some p):ReadsA P ok a w s β ⟨dst,.build t ps,ty,pos,after,guard⟩ p:=by
 simp only [rf,Option.bind_eq_some_iff,Option.map_eq_some_iff] at e;obtain⟨pl,hpl,cs,hcs,z,hz,r,hr,rfl⟩:=e;obtain⟨m1,m2⟩:=bA hcs;simp only [zeroCells,Option.bind_eq_some_iff,Option.map_eq_some_iff] at hz;obtain⟨ti,hti,zv,hzv,rfl⟩:=hz;have hz0:Rl ok w s.H β s.nx (zv.cells.toList.map .val) zv.cells.toList:=⟨by simp,λi p u hp hu=>by
  rw [List.getElem?_map,hu] at hp;cases hp;exact .val u⟩
 have key:∀place:Nat->Option (Nat×Nat),(∀(i:Nat) x,pl[i]? = some x->place i=some x)->∃c',Instr.fill place zv.cells (ps.toList.map λp=>(p.1,a.eval p.2))=some c'/\Rl ok w s.H β s.nx r c'.toList:=λplace hpp =>
  mK hpp cs _ _ zv.cells r (by rw [m1,List.length_map]) (λi x q hx hq=>by
   obtain⟨y,hy,hyc⟩:=m2 i x hx;simp only [Option.map_eq_some_iff] at hyc;obtain⟨d,hd,rfl⟩:=hyc;rw [List.getElem?_map,hy] at hq;cases hq;obtain⟨q1,q2⟩:=(h.ev (ho y (by simpa using List.mem_of_getElem? hy))).cells hd;exact⟨rfl,by simpa using q1,λj p u hp hu=>by
    obtain⟨u',k1,k2⟩:=q2 j p hp;have:u'=u:=by rw [Array.getElem?_toList,k1] at hu;exact Option.some.inj hu
    rw [<-this];exact k2⟩) hz0 hr
 have hrun:∃c',P.built t (ps.toList.map λp=>(p.1,a.eval p.2))=some c'/\Rl ok w s.H β s.nx r c'.toList:=by
  unfold i6 at hpl;split at hpl
  ·rename_i fs hu
   have hmm:fs.toList.mapM (λf=>(P.info? f.type).map λi=>(f.offset,i.size))=some pl:=by
    have:∀(l:List Field) (r:List (Nat×Nat)),ep (λf:Field=>(cY P f.type).map λz=>(f.offset,z)) l=some r->l.mapM (λf=>(P.info? f.type).map λi=>(f.offset,i.size))=some r:=by
     intro l
     induction l with
     |nil=>intro r hr;simp [ep] at hr;subst hr;rfl
     |cons f l ih =>
      intro r hr;unfold ep at hr;split at hr
      ·rename_i y ys hy hys
       simp only [Option.some.injEq] at hr;subst hr;simp only [List.mapM_cons,ih ys hys];simp only [cY,Option.map_map] at hy;have hy':(P.info? f.type).map (λi=>(f.offset,i.size))=some y:=hy;simp [hy']
      ·cases hr
    exact this _ _ hpl
   obtain⟨c',f1,f2⟩:=key (pl.toArray[·]?) (λi x hx=>by simpa using hx);exact⟨c',by simp only [Program.built,hti,hu,hzv,hmm];exact f1,f2⟩
  ·rename_i m el hu
   simp only [Option.map_eq_some_iff,cY] at hpl;obtain⟨zz,⟨ie,hie,rfl⟩,rfl⟩:=hpl;obtain⟨c',f1,f2⟩:=key (λi=>some (i*ie.size,ie.size)) (λi x hx=>by
    rw [List.getElem?_map] at hx;obtain⟨j,hj,rfl⟩:=Option.map_eq_some_iff.1 hx;have:=(List.getElem?_eq_some_iff.1 hj).2;simp at this;rw [this])
   exact⟨c',by simp only [Program.built,hti,hu,hzv,hie];exact f1,f2⟩
  ·cases hpl
 obtain⟨c',hb,hc'⟩:=hrun;refine⟨.agg c',R.mkAgg (by simpa using hc'.1) λi x u hx hu=>hc'.2 i x u hx (by simpa using hu),λw'=>?_⟩;have:=run_build (P:=P) w' t (ps.map λp=>(p.1,a.eval p.2)) c' (by simpa using hb);simp only [execOp,Sem.run_bind];rw [this];rfl
theorem jP (h:Rel G n w0 ok a w s β) (ho:∀x∈o.op.operands,aT n x=true) {c:Option Prop} {p:PV} (hmet:Met c) (e:gk P s o=some (c,p)):gz P ok a w s β o p:=by
 obtain⟨dst,op,ty,pos,after,guard⟩:=o;cases op with
 |move x =>
  simp only [gk,Option.some.injEq,Prod.mk.injEq] at e;obtain⟨_,rfl⟩:=e;exact⟨a.eval x,h.ev (ho x (by simp [Op.operands])),λw' _=>by simp [execOp]⟩
 |assign x =>
  simp only [gk,Option.some.injEq,Prod.mk.injEq] at e;obtain⟨_,rfl⟩:=e;exact⟨a.eval x,h.ev (ho x (by simp [Op.operands])),λw' _=>by simp [execOp]⟩
 |pick c x y =>
  simp only [gk] at e;split at e
  ·rename_i t ht
   simp only [Option.some.injEq,Prod.mk.injEq] at e;obtain⟨_,rfl⟩:=e;have hc:=h.evv (ho c (by simp [Op.operands])) ht;refine⟨bif t then a.eval x else a.eval y,?_,λw' _=>?_⟩
   ·cases t
    ·exact h.ev (ho y (by simp [Op.operands]))
    ·exact h.ev (ho x (by simp [Op.operands]))
   ·cases t<;>simp [execOp,hc,asBool]
  ·simp at e
 |load t x=>exact rn h (ho x (by simp [Op.operands])) e
 |fieldAddr t x k=>exact(kl h (ho x (by simp [Op.operands])) e).reads
 |indexAddr t x ix=>exact o6 h (ho x (by simp [Op.operands])) (ho ix (by simp [Op.operands])) hmet e
 |slice t x lo hi mx=>exact o8 h ho hmet e
 |extract x i =>
  simp only [gk] at e;have hR:=h.ev (ho x (by simp [Op.operands]));split at e
  ·rename_i xs hp
   simp only [Option.map_eq_some_iff,Prod.mk.injEq] at e;obtain⟨q,e,_,rfl⟩:=e;rw [hp] at hR;generalize hv:a.eval x=v at hR;obtain⟨vs,rfl,l,hh⟩:=hR.tup_inv;have hi:i < xs.length:=(List.getElem?_eq_some_iff.1 e).1;have e9:vs[i]? = some (vs[i]'(by omega)):=by simp
   refine⟨vs[i]'(by omega),hh i q _ e e9,λw' _=>?_⟩;simp only [execOp,hv,Instr.extract,e9];rfl
  ·rename_i vs hp
   simp only [Option.map_eq_some_iff,Prod.mk.injEq] at e;obtain⟨v,e,_,rfl⟩:=e;have hv:=h.evv (ho x (by simp [Op.operands])) hp;refine⟨v,.val v,λw' _=>?_⟩;have e':vs[i]? = some v:=by simpa using e
   simp [execOp,hv,Instr.extract,e']
  ·simp at e
 |build t ps =>
  simp only [gk] at e;split at e
  ·rename_i q hq
   simp only [Option.some.injEq,Prod.mk.injEq] at e;obtain⟨_,rfl⟩:=e;exact(jc h (λp hp=>ho p.2 (by simp only [Op.operands,List.mem_toArray,List.mem_map,Array.mem_toList_iff];exact⟨p,hp,rfl⟩)) hq).reads
  ·split at e
   ·exact bT h ho rfl e
   ·simp only [Option.map_eq_some_iff,Prod.mk.injEq] at e;obtain⟨q,hq,_,rfl⟩:=e;exact(je h (λp hp=>ho p.2 (by simp only [Op.operands,List.mem_toArray,List.mem_map,Array.mem_toList_iff];exact⟨p,hp,rfl⟩)) hq).reads
 |makeFunc f first caps =>
  simp only [gk] at e;split at e
  ·exact bT h ho rfl e
  ·simp only [Option.some.injEq,Prod.mk.injEq] at e;obtain⟨_,rfl⟩:=e;refine⟨.func f (first.map a.eval) (caps.map a.eval),.fn _ _ _ _ _ (by simp) (by simp) (λi p u hp hu=>?_) (λi p u hp hu=>?_),λw' _=>by simp [execOp,Instr.makeFunc]⟩
   ·simp only [List.getElem?_map,Option.map_eq_some_iff,Array.getElem?_toList,Array.getElem?_map] at hp hu;obtain⟨y,hy,rfl⟩:=hp;obtain⟨z,hz,rfl⟩:=hu;rw [hy] at hz;cases hz;exact h.ev (ho y (by simp [Op.operands,Array.mem_of_getElem? hy]))
   ·simp only [List.getElem?_map,Option.map_eq_some_iff,Array.getElem?_toList,Array.getElem?_map] at hp hu;obtain⟨y,hy,rfl⟩:=hp;obtain⟨z,hz,rfl⟩:=hu;rw [hy] at hz;cases hz;exact h.ev (ho y (by simp [Op.operands,Array.mem_of_getElem? hy]))
 |nilCheck x =>
  have hR:=h.ev (ho x (by simp [Op.operands]));simp only [gk] at e;split at e
  ·rename_i id st i f hp
   simp only [Option.bind_eq_some_iff,Option.some.injEq,Prod.mk.injEq] at e;obtain⟨b,hb,_,rfl⟩:=e;rw [hp] at hR;obtain⟨g,c,e1,_,e2⟩:=hR.ptr_inv hb;refine⟨_,hR,λw' _=>by simp [execOp,e2]⟩
  ·rename_i es m els i f hp
   simp only [Option.some.injEq,Prod.mk.injEq] at e;obtain⟨_,rfl⟩:=e;rw [hp] at hR;refine⟨_,hR,λw' _=>?_⟩;generalize hv:a.eval x=v at hR ⊢;cases hR.rp_inv;simp [execOp,hv]
  ·rename_i k c d hp
   simp only [Option.some.injEq,Prod.mk.injEq] at e;obtain⟨_,rfl⟩:=e;rw [hp] at hR;refine⟨_,hR,λw' _=>?_⟩;generalize hv:a.eval x=v at hR ⊢;obtain⟨us,vs,rfl,_⟩:=hR.fn_inv;simp [execOp,hv]
  ·exact bT h ho rfl e
  ·simp at e
 |call c =>
  simp only [gk] at e;split at e
  ·rename_i hcal
   have ht:my (.call c)=true:=by simp [my,hcal]
   split at e
   ·rename_i x t hargs htys
    have hargs':c.args = #[x]:=by rw [<-Array.toArray_toList (xs:=c.args),hargs]
    have htys':c.argTypes = #[t]:=by rw [<-Array.toArray_toList (xs:=c.argTypes),htys]
    have hx:aT n x=true:=ho x (by simp [Op.operands,Call.operands,hcal,hargs']);have hR:=h.ev hx;split at e
    ·rename_i el id st l len hu hp
     simp only [Option.bind_eq_some_iff,Option.some.injEq,Prod.mk.injEq] at e;obtain⟨b,hb,_,rfl⟩:=e;rw [hp] at hR;have hlen:∃ad c',a.eval x=.slice ad len c':=by
      obtain⟨e1|⟨_,e1,ad,e2⟩,e3⟩:=hR.sl_inv hb
      ·rcases h.heap.slice_of (aO hb).1 with ⟨e4,e5⟩|⟨g,c,e4,_⟩
       ·rw [e4] at e1;exact⟨none,0,by rw [e1];simp [sub];omega⟩
       ·rw [e4] at e1;exact⟨_,_,e1⟩
      ·subst e1;exact⟨ad,0,e2⟩
     obtain⟨ad,c',hv⟩:=hlen;exact⟨_,.val _,λw' _=>by simp [execOp,resolve,hcal,hargs',htys',invoke,builtin,Builtin.len_,hv,run_underlying hu]⟩
    ·rename_i el es m els hu hp
     simp only [Option.some.injEq,Prod.mk.injEq] at e;obtain⟨_,rfl⟩:=e;rw [hp] at hR;generalize hv:a.eval x=v at hR;cases hR.rs_inv;exact⟨_,.val _,λw' _=>by simp [execOp,resolve,hcal,hargs',htys',invoke,builtin,Builtin.len_,hv,run_underlying hu]⟩
    ·exact bT h ho ht e
    ·exact bT h ho ht e
    ·simp at e
   ·simp at e
  ·rename_i hcal;exact bT h ho (by simp [my,hcal]) e
  ·rename_i hcal;exact bT h ho (by simp [my,hcal]) e
  ·simp at e
 |binOp op t x y t' =>
  simp only [gk] at e;split at e
  ·rename_i r hr
   simp only [Option.some.injEq,Prod.mk.injEq] at e;obtain⟨_,rfl⟩:=e;exact un h (ho x (by simp [Op.operands])) (ho y (by simp [Op.operands])) hr
  ·exact um h ho hmet e
 |unOp op t x=>exact bT h ho rfl (by simpa only [gk] using e)
 |convert src dst x=>exact rr h (ho x (by simp [Op.operands])) hmet e
 |field t x i =>
  simp only [gk] at e;split at e
  ·rename_i fs cs hu hcs
   simp only [Option.bind_eq_some_iff,Option.map_eq_some_iff,Prod.mk.injEq] at e;obtain⟨f,hf,q,hq,_,rfl⟩:=e;obtain⟨us,hv,hl,hR⟩:=km (h.ev (ho x (by simp [Op.operands]))) hcs;obtain⟨v,hrun,hv2⟩:=lx hl hR hq;exact⟨v,hv2,λw' _=>by simp [execOp,hv,Instr.field,run_underlying hu,hf,asAgg,hrun]⟩
  ·cases e
 |index t x i =>
  simp only [gk] at e;split at e
  ·rename_i b k m hu hp hi
   simp only [Option.some.injEq,Prod.mk.injEq] at e;obtain⟨rfl,rfl⟩:=e;obtain⟨h0,hlt⟩:=hmet _ rfl;have hv:=h.evv (ho x (by simp [Op.operands])) hp;have hiv:=h.evv (ho i (by simp [Op.operands])) hi;refine⟨_,.val _,λw' _=>?_⟩;have hm:m.toNat < b.size:=by omega
   have e1:b[m.toNat]? = some b[m.toNat]:=by simp [hm]
   have e2:vu b m=.int .u8 b[m.toNat].toNat:=by
    unfold vu;have:m.toNat < b.data.toList.length:=by simpa using hm
    rw [List.getElem?_eq_getElem this];rfl
   simp [execOp,hv,hiv,Instr.index,asIntOf,run_underlying hu,h0,e1,e2]
  ·rename_i m el k hu hi
   simp only [Option.bind_eq_some_iff,Option.map_eq_some_iff,Prod.mk.injEq] at e;obtain⟨cs,hcs,z,hz,q,hq,rfl,rfl⟩:=e;obtain⟨h0,hlt⟩:=hmet _ rfl;obtain⟨us,hv,hl,hR⟩:=km (h.ev (ho x (by simp [Op.operands]))) hcs;obtain⟨v,hrun,hv2⟩:=lx hl hR hq;have hiv:=h.evv (ho i (by simp [Op.operands])) hi;exact⟨v,hv2,λw' _=>by simp [execOp,hv,hiv,Instr.index,asIntOf,run_underlying hu,h0,hlt,lv hz,hrun]⟩
  ·simp at e
 |_=>simp [gk] at e
end
section
variable {P:Program} {G:List (Array Value)} {n:Nat} {w0:bE} {ok:Nat->Prop} {a:Act} {w:World} {s:St} {β : Nat->Value} {o:Oper}
theorem jQ (h:Rel G n w0 ok a w s β) (ho:∀x∈o.op.operands,aT n x=true) (hk:BZ o.op=true) {c:Option Prop} {p:PV} (e:gk P s o=some (c,p)):ReadsA P ok a w s β o p:=by
 obtain⟨dst,op,ty,pos,after,guard⟩:=o;cases op with
 |move x =>
  simp only [gk,Option.some.injEq,Prod.mk.injEq] at e;obtain⟨_,rfl⟩:=e;exact⟨a.eval x,h.ev (ho x (by simp [Op.operands])),λw'=>by simp [execOp]⟩
 |fieldAddr t x k=>exact kl h (ho x (by simp [Op.operands])) e
 |build t ps =>
  simp only [gk] at e;split at e
  ·rename_i q hq
   simp only [Option.some.injEq,Prod.mk.injEq] at e;obtain⟨_,rfl⟩:=e;exact jc h (λp hp=>ho p.2 (by simp only [Op.operands,List.mem_toArray,List.mem_map,Array.mem_toList_iff];exact⟨p,hp,rfl⟩)) hq
  ·split at e
   ·exact jb h ho rfl e
   ·simp only [Option.map_eq_some_iff,Prod.mk.injEq] at e;obtain⟨q,hq,_,rfl⟩:=e;exact je h (λp hp=>ho p.2 (by simp only [Op.operands,List.mem_toArray,List.mem_map,Array.mem_toList_iff];exact⟨p,hp,rfl⟩)) hq
 |_=>cases hk
theorem uo {W w:World} {g o:Nat} (h:W.heap[g]? = w.heap[g]?):W.cell? ⟨g,o,none⟩=w.cell? ⟨g,o,none⟩:=by
 unfold World.cell?;simp only [h]
theorem pj (h:Rel G n w0 ok a w s β) (ho:∀x∈o.op.operands,aT n x=true) (hk:B0 o.op=true) (hf:o5 s o) {c:Option Prop} {p:PV} (e:gk P s o=some (c,p)) :
  ∃v,∀W:World,(∀k,ok k->W.heap[k]? = w.heap[k]?)->(execOp a.eval o).run P W=.ok (.value v) W:=by
 obtain⟨dst,op,ty,pos,after,guard⟩:=o;cases op with
 |move x =>
  obtain⟨v,_,hv⟩:=jQ h ho rfl e;exact⟨v,λW _=>hv W⟩
 |fieldAddr t x k =>
  obtain⟨v,_,hv⟩:=jQ h ho rfl e;exact⟨v,λW _=>hv W⟩
 |binOp op t x y t' =>
  have hop:op=.add:=by
   cases op<;>first|rfl|cases hk
  subst hop;simp only [o5] at hf;split at hf
  ·rename_i kd z hz
   have e2:eF P s ⟨dst,.binOp .add t x y t',ty,pos,after,guard⟩=some (c,p):=by
    simp only [gk,eqQ,hz] at e;unfold xH at e;exact e
   obtain⟨v,_,hv⟩:=jb h ho rfl e2;exact⟨v,λW _=>hv W⟩
  ·exact hf.elim
 |load t x =>
  simp only [o5] at hf;split at hf
  ·rename_i es m els i f hp
   have hR:=h.ev (ho x (by simp [Op.operands]));simp only [gk,hp,Option.map_eq_some_iff,Prod.mk.injEq] at e;obtain⟨p',e,_,rfl⟩:=e;rw [hp] at hR;generalize hv:a.eval x=v at hR;cases hR.rp_inv with
   |rp _ _ _ _ _ g o u hl hb hi h1 h2 =>
    obtain⟨v,hv1,hv2⟩:=ea (P:=P) (w:=w) (ok:=ok) (β:=β) (H:=s.H) (nx:=s.nx) (g:=g) (o:=o) w (λi hi=>(hl i hi).1) hi u h1 e;refine⟨v,λW hW=>?_⟩;have:=hv1 W (λi f p hi hp=>by rw [uo (hW g hb)];exact h1 i f p hi hp);simp [execOp,Instr.loadAt,Instr.sureAddr,hv,this]
  ·exact hf.elim
 |_=>cases hk
end
end Go.Ex
namespace Go.Ex
open Go Go.RowKit
section
variable {P:Program} {G:List (Array Value)} {n:Nat} {w0:bE} {ok:Nat->Prop} {a:Act} {w:World} {s:St} {β : Nat->Value} {o:Oper}
def dy (β : Nat->Value) (k:Nat) (v:Value):Nat->Value:=λi=>if i=k then v else β i
theorem nH (H:Heap) (b:Blk) (id st:Nat):dX (H++[b]) id st=if id=H.length then(if b.st=st then some b else none) else dX H id st:=by
 unfold dX;by_cases e:id=H.length
 ·subst e;simp
 ·rcases Nat.lt_or_ge id H.length with h|h
  ·simp [e,List.getElem?_append_left h]
  ·have h1:H.length+1<=id:=by omega
   simp [e,List.getElem?_eq_none h,List.getElem?_eq_none (show(H++[b]).length<=id by simp;omega)]
theorem Rel.new (h:Rel G n w0 ok a w s β) {w1:World} (ty es:Nat) (box arr:Bool) (m:Nat) (els:Nat->List PV) (V:Value) (xs:List Value)
  (hb:Below w.heap.size w w1) (hown:w1.ownsRow w.heap.size ty es V m xs)
  (hl:∀i,i < m->(els i).length=es/\∀p∈els i,bk p=true) (hbox:box=true->m=1) (harr:arr=true->∃g,V=.slice (some ⟨g,0,none⟩) m m)
  (hc:∀(i f:Nat) p,i < m->(els i)[f]? = some p->∃u,xs[i*es+f]? = some u/\R ok w s.H β s.nx p u/\(box=false->R0 ok w p u)) :
  Rel G n w0 ok a w1 (s.add ty es box arr m els) (dy β s.H.length V):=by
 have hL:gy ok ok w w1 s.H (s.add ty es box arr m els).H β (dy β s.H.length V) s.nx (s.add ty es box arr m els).nx:=by
  refine⟨by simp [St.add],λ_ h=>h,λa v hk hcl=>by rw [hb.cell (h.oklt _ hk)];exact hcl,λid st b' hst e=>?_⟩;simp only [St.add,nH] at e;split at e
  ·split at e
   ·rename_i hs
    have:s.nx=st:=hs;omega
   ·simp at e
  ·rename_i hid
   exact⟨b',e,rfl,rfl,by simp [dy,hid]⟩
 have hlt:=hown.lt;refine⟨λt ht=>(h.fr t ht).later hL,h.size,h.defers,⟨λid b e=>?_,λid b e=>?_,λid id' hne h1 h2=>?_,λid k h1 hk=>?_⟩,h.ext.trans (hb.mono h.ext.size),λk hk=>Nat.lt_of_lt_of_le (h.oklt k hk) hb.size,cp (λf tm hf t ht=>(hf t ht).later hL) h.sv,λk o hp=>⟨(h.pins k o hp).1,(hb.block k (h.oklt k (h.pins k o hp).1)).trans (h.pins k o hp).2⟩⟩
 ·simp only [St.add] at e ⊢;rcases Nat.lt_or_ge id s.H.length with hid|hid
  ·rw [List.getElem?_append_left hid] at e;have:=h.heap.stl id b e;omega
  ·rw [List.getElem?_append_right hid] at e;cases hk:id - s.H.length with
   |zero=>rw [hk] at e;simp at e;rw [<-e];simp
   |succ k=>rw [hk] at e;simp at e
 ·simp only [St.add] at e;rcases Nat.lt_or_ge id s.H.length with hid|hid
  ·rw [List.getElem?_append_left hid] at e;obtain⟨ys,h1,h2,hb1,hb2,h3⟩:=h.heap.own id b e;have hu:dy β s.H.length V id = β id:=by simp [dy];omega
   refine⟨ys,?_,h2,hb1,λha=>by rw [hu];exact hb2 ha,λi f p hi hp=>?_⟩
   ·rw [hu];exact h1.kept (row:=none) ⟨hb.os,hb.tape,hb.output,hb.size,λk hk _=>hb.block k hk⟩ (by cases (β id).ownBlock<;>simp)
   ·obtain⟨u,e1,e2,e3⟩:=h3 i f p hi hp;exact⟨u,e1,e2.later hL,λhx=>(e3 hx).later hL.oks hL.cell⟩
  ·rw [List.getElem?_append_right hid] at e;cases hk:id - s.H.length with
   |succ k=>rw [hk] at e;simp at e
   |zero =>
    rw [hk] at e;have hid':id=s.H.length:=by omega
    simp only [List.getElem?_cons_zero,Option.some.injEq] at e;subst e;refine⟨xs,?_,hl,hbox,λha=>by simpa [dy,hid'] using harr ha,λi f p hi hp=>?_⟩
    ·rw [show dy β s.H.length V id=V by simp [dy,hid']];exact⟨hown.1,hown.2.imp _root_.id λ⟨g,cap,cur,e1,e2,e3⟩=>⟨g,cap,cur,e1,Nat.le_trans h.ext.size e2,e3⟩⟩
    ·obtain⟨u,e1,e2,e3⟩:=hc i f p hi hp;exact⟨u,e1,e2.later hL,λhx=>(e3 hx).later hL.oks hL.cell⟩
 ·simp only [St.add,List.length_append,List.length_singleton] at h1 h2;have old:∀j,j < s.H.length->∀k,(β j).ownBlock=some k->k < w.heap.size:=by
   intro j hj k hk;obtain⟨ys,e1,_⟩:=h.heap.own j s.H[j] (by simp [hj]);exact(e1.lt k hk).2
  by_cases e1:id=s.H.length
  ·have e2:id'≠s.H.length:=by omega
   simp only [dy,e1,e2,if_true,if_false];cases hv:V.ownBlock with
   |none=>exact .inl rfl
   |some g =>
    right;intro hq;have:=old id' (by omega) g hq.symm;have:=(hlt g hv).1;omega
  ·by_cases e2:id'=s.H.length
   ·simp only [dy,e1,e2,if_true,if_false];cases hv:(β id).ownBlock with
    |none=>exact .inl rfl
    |some g =>
     right;intro hq;have:=old id (by omega) g hv;have:=(hlt g hq.symm).1;omega
   ·simp only [dy,e1,e2,if_false];exact h.heap.inj id id' hne (by omega) (by omega)
 ·simp only [St.add,List.length_append,List.length_singleton] at h1;by_cases e1:id=s.H.length
  ·simp only [dy,e1,if_true] at hk;intro hok;have:=h.oklt k hok;have:=(hlt k hk).1;omega
  ·simp only [dy,e1,if_false] at hk;exact h.heap.notok id k (by omega) hk
theorem R.new_ptr {es ty g c m:Nat} {box arr:Bool} {els:Nat->List PV} {w1:World} (hm:0 < m):R ok w1 (s.add ty es box arr m els).H (dy β s.H.length (.slice (some ⟨g,0,none⟩) m c)) (s.add ty es box arr m els).nx (.ptr s.H.length s.nx 0 0) (.pointer (some ⟨g,0,none⟩)):=by
 refine .ptr _ _ _ _ _ rfl (by simp [St.add]) λb hb=>?_;simp only [St.add,nH,if_true,Option.some.injEq] at hb;subst hb;exact⟨g,c,by simp [dy],hm,by simp⟩
theorem R.new_sl {es ty m:Nat} {box arr:Bool} {els:Nat->List PV} {V:Value} {w1:World} (hV:(V=.slice none 0 0/\m=0)\/∃g c,V=.slice (some ⟨g,0,none⟩) m c) :
  R ok w1 (s.add ty es box arr m els).H (dy β s.H.length V) (s.add ty es box arr m els).nx (.sl s.H.length s.nx 0 m) V:=by
 refine .sl _ _ _ _ _ (by rcases hV with ⟨rfl,_⟩|⟨g,c,rfl⟩<;>rfl) (by simp [St.add]) λb hb=>?_;simp only [St.add,nH,if_true,Option.some.injEq] at hb;subst hb;refine⟨.inl ?_,by simp⟩;rcases hV with ⟨rfl,e⟩|⟨g,c,rfl⟩
 ·simp [dy,sub]
 ·simp [dy,sub,Addr.add_mid]
end
end Go.Ex
namespace Go.Ex
open Go Go.RowKit
section
variable {P:Program} {G:List (Array Value)} {n:Nat} {w0:bE} {ok:Nat->Prop} {a:Act} {w:World} {s:St} {β : Nat->Value} {o:Oper}
def Acts (P:Program) (G:List (Array Value)) (n:Nat) (w0:bE) (ok:Nat->Prop) (a:Act) (w:World) (o:Oper) (r:St×PV):Prop :=
 ∃(nv:Next) (v:Value) (w':World) (β':Nat->Value),(execOp a.eval o).run P w=.ok nv w'/\(nv=.value v\/(nv=.skip/\v=undef))/\Rel G n w0 ok a w' r.1 β'/\R ok w' r.1.H β' r.1.nx r.2 v/\(rg o.op=true->Below w.heap.size w w')
theorem iC {es m:Nat} {cs:List PV} (h:cs.length=m*es):∀i,i < m->(fq es cs i).length=es/\(∀p∈fq es cs i,p∈cs)/\∀(f:Nat) p,(fq es cs i)[f]? = some p->cs[i*es+f]? = some p:=by
 intro i hi;have hb:(i+1)*es<=m*es:=Nat.mul_le_mul_right _ hi;rw [Nat.succ_mul] at hb;refine⟨by simp [fq];omega,λp hp=>List.mem_of_mem_drop (List.mem_of_mem_take hp),λf p hp=>?_⟩;unfold fq at hp;rw [List.getElem?_take] at hp;split at hp
 ·rwa [List.getElem?_drop] at hp
 ·simp at hp
theorem R.isD {H:Heap} {nx:Nat} {p:PV} {v:Value} (h:R ok w H β nx p v) (hp:isD p=true):R0 ok w p v:=by
 cases p with
 |val u=>cases h.val_eq;exact .val _
 |rs=>exact h.rs_inv
 |rp=>exact h.rp_inv
 |_=>simp [Ex.isD] at hp
theorem iq (h:Rel G n w0 ok a w s β) {t:TypeId} {cs:List PV} {us:Array Value} (hl:cs.length=us.size) (hc:∀(j:Nat) q,cs[j]? = some q->∃u,us[j]? = some u/\R ok w s.H β s.nx q u)
  {r:St×PV} (e:fu P s t cs=some r) :
  ∃β' v,v=.pointer (some ⟨w.heap.size,0,none⟩)/\Rel G n w0 ok a (w.alloc (.cells us t)) r.1 β'/\R ok (w.alloc (.cells us t)) r.1.H β' r.1.nx r.2 v:=by
 simp only [fu,Option.bind_eq_some_iff] at e;obtain⟨⟨box,es,m⟩,hlay,e⟩:=e;simp only at e;split at e
 ·rename_i hcond
  obtain⟨h1,⟨h0,h2⟩,h3,h4⟩:=hcond;simp only [Option.some.injEq] at e;subst e;have hV:(w.alloc (.cells us t)).ownsRow w.heap.size t es (.slice (some ⟨w.heap.size,0,none⟩) m m) m us.toList :=
   World.ownsRow_lit w us m (Nat.le_refl _) (by unfold maxLen;omega) (by omega)
  have hbox:box=true->m=1:=by
   intro hb;subst hb;unfold vw at hlay;split at hlay
   ·simp only [Option.map_eq_some_iff,Prod.mk.injEq] at hlay;obtain⟨_,_,h,_⟩:=hlay;cases h
   ·simp only [Option.map_eq_some_iff,Prod.mk.injEq] at hlay;obtain⟨_,_,_,_,h⟩:=hlay;exact h.symm
   ·simp at hlay
  have hget:∀i,i < m->((bif box then λ_=>cs else fq es cs) i).length=es/\(∀p∈(bif box then λ_=>cs else fq es cs) i,p∈cs)/\∀(f:Nat) p,((bif box then λ_=>cs else fq es cs) i)[f]? = some p->cs[i*es+f]? = some p:=by
   intro i hi;cases box with
   |true =>
    have:=hbox rfl;subst this;obtain rfl:i=0:=by omega
    exact⟨by simpa using h1,λp hp=>hp,λf p hp=>by simpa using hp⟩
   |false=>exact iC h1 i hi
  refine⟨_,_,rfl,h.new t es box (!box) m _ _ us.toList ((Below.refl _ _).alloc (Nat.le_refl _) _) hV (λi hi=>⟨(hget i hi).1,λp hp=>List.all_eq_true.1 h3 p ((hget i hi).2.1 p hp)⟩) hbox (λ_=>⟨_,rfl⟩) (λi f p hi hp=>?_),R.new_ptr h0⟩;have hp':=(hget i hi).2.2 f p hp;obtain⟨u,e1,e2⟩:=hc _ _ hp';refine⟨u,by simpa using e1,e2,λhb=>?_⟩;rw [hb] at h4;exact e2.isD (List.all_eq_true.1 h4 p (List.mem_of_getElem? hp'))
 ·simp at e
def uq:List Value->Nat->List Value->List Value
 |xs,_,[]=>xs
 |xs,o,v::r=>uq (xs.set o v) (o+1) r
theorem ly:∀(vs:List Value) (xs:List Value) (o k:Nat),o+vs.length<=xs.length->(uq xs o vs)[k]? = if o<=k/\k < o+vs.length then vs[k - o]? else xs[k]?
 |[],xs,o,k,_=>by rw [uq,if_neg (by simp)]
 |v::r,xs,o,k,h=>by
  simp only [List.length_cons] at h;rw [uq,ly r (xs.set o v) (o+1) k (by simp;omega)];by_cases e:k=o
  ·subst e;rw [if_neg (by omega),if_pos (by simp)];simp [show k < xs.length by omega]
  ·by_cases h1:o+1<=k/\k < o+1+r.length
   ·rw [if_pos h1,if_pos (by simp only [List.length_cons];omega)];have:k - o=(k - (o+1))+1:=by omega
    rw [this,List.getElem?_cons_succ]
   ·rw [if_neg h1,if_neg (by simp only [List.length_cons];omega),List.getElem?_set];rw [if_neg (by omega)]
theorem dY {base e size g cap m:Nat}:∀(vs:List Value) (o:Nat) (w:World) (xs:List Value),w.ownsRow base e size (.slice (some ⟨g,0,none⟩) m cap) m xs ->
  (w.setCells g o vs).ownsRow base e size (.slice (some ⟨g,0,none⟩) m cap) m (uq xs o vs)/\w.grownBy (w.setCells g o vs) (some g)/\(w.setCells g o vs).heap.size=w.heap.size
 |[],_,w,xs,h=>⟨h,⟨rfl,rfl,rfl,Nat.le_refl _,λ_ _ _=>rfl⟩,rfl⟩
 |v::r,o,w,xs,h=>by
  obtain⟨h1,h2⟩:=h.stored o v;obtain⟨h3,h4,h5⟩:=dY r (o+1) _ _ h1;have hs:(w.setCell ⟨g,o,none⟩ v).heap.size=w.heap.size:=by simp [World.setCell]
  refine⟨h3,⟨h4.os.trans h2.os,h4.tape.trans h2.tape,h4.output.trans h2.output,?_,λk hk hne=>?_⟩,h5.trans hs⟩
  ·simp only [World.setCells];omega
  ·exact(h4.block k (by omega) hne).trans (h2.block k hk hne)
theorem mA {es m:Nat} {els els':Nat->List PV} {i f:Nat} {vs:List PV} (hl:∀i,i < m->(els i).length=es) (hi:i < m) (e:setCells es m els i f vs=some els') :
  i*es+f+vs.length<=m*es/\(∀i,i < m->(els' i).length=es)/\∀(i' f':Nat) p,i' < m->(els' i')[f']? = some p ->
   (i*es+f<=i'*es+f'/\i'*es+f' < i*es+f+vs.length/\vs[i'*es+f' - (i*es+f)]? = some p) \/
   (¬(i*es+f<=i'*es+f'/\i'*es+f' < i*es+f+vs.length)/\(els i')[f']? = some p):=by
 have hbound:(i+1)*es<=m*es:=Nat.mul_le_mul_right _ hi;rw [Nat.succ_mul] at hbound;have far:∀(i' f' q:Nat),i'≠i->f' < es->f+q<=es->¬(i*es+f<=i'*es+f'/\i'*es+f' < i*es+f+q):=by
  intro i' f' q hne hf' hq;rcases Nat.lt_or_gt_of_ne hne with hlt|hlt
  ·have:(i'+1)*es<=i*es:=Nat.mul_le_mul_right _ hlt;rw [Nat.succ_mul] at this;omega
  ·have:(i+1)*es<=i'*es:=Nat.mul_le_mul_right _ hlt;rw [Nat.succ_mul] at this;omega
 unfold setCells at e;split at e
 ·rename_i hc
  obtain⟨rfl,hvl⟩:=hc;simp only [Option.some.injEq] at e;subst e;refine⟨by omega,λj hj=>?_,λi' f' p hi' hp=>?_⟩
  ·by_cases hji:j=i
   ·simp [hji,hvl]
   ·simp [hji,hl j hj]
  ·by_cases hii:i'=i
   ·simp only [hii,if_true] at hp ⊢;have:=(List.getElem?_eq_some_iff.1 hp).1;exact .inl ⟨by omega,by omega,by rw [<-hp];congr 1;omega⟩
   ·simp only [hii,if_false] at hp;have hf':f' < es:=by rw [<-hl i' hi'];exact(List.getElem?_eq_some_iff.1 hp).1
    exact .inr ⟨far i' f' _ hii hf' (by omega),hp⟩
 ·split at e
  ·rename_i hle
   simp only [Option.some.injEq] at e;subst e;have hx0l:=hl i hi;have hnew:((els i).take f++vs++(els i).drop (f+vs.length)).length=es:=by simp;omega
   refine⟨by omega,λj hj=>?_,λi' f' p hi' hp=>?_⟩
   ·by_cases hji:j=i
    ·simp only [hji,if_true];exact hnew
    ·simp [hji,hl j hj]
   ·by_cases hii:i'=i
    ·simp only [hii,if_true] at hp ⊢;have hf':f' < es:=by rw [<-hnew];exact(List.getElem?_eq_some_iff.1 hp).1
     rw [List.append_assoc,List.getElem?_append] at hp;simp only [List.length_take] at hp;split at hp
     ·right;refine⟨by omega,?_⟩;rw [List.getElem?_take] at hp;split at hp
      ·exact hp
      ·simp at hp
     ·rw [List.getElem?_append] at hp;split at hp
      ·left;refine⟨by omega,by omega,?_⟩;rw [<-hp];congr 1;omega
      ·right;refine⟨by omega,?_⟩;rw [List.getElem?_drop] at hp;rw [<-hp];congr 1;omega
    ·simp only [hii,if_false] at hp;have hf':f' < es:=by rw [<-hl i' hi'];exact(List.getElem?_eq_some_iff.1 hp).1
     exact .inr ⟨far i' f' _ hii hf' (by omega),hp⟩
  ·split at e
   ·rename_i hc
    obtain⟨rfl,rfl,hvl⟩:=hc;simp only [Option.some.injEq] at e;subst e;have hch:=iC hvl;refine⟨by omega,λj hj=>(hch j hj).1,λi' f' p hi' hp=>.inl ?_⟩;have hf':f' < es:=by rw [<-(hch i' hi').1];exact(List.getElem?_eq_some_iff.1 hp).1
    have:=(hch i' hi').2.2 f' p hp;have hlt:=(List.getElem?_eq_some_iff.1 this).1;refine⟨by omega,by omega,?_⟩;rw [<-this];congr 1;omega
   ·simp at e
theorem xK (H:Heap) (id:Nat) (b b':Blk) (hb:H[id]? = some b) (hst:b'.st=b.st) (id' st:Nat):dX (H.set id b') id' st=if id'=id then(if b.st=st then some b' else none) else dX H id' st:=by
 unfold dX;have hi:id < H.length:=(List.getElem?_eq_some_iff.1 hb).1;by_cases e:id'=id
 ·subst e;simp [hi,hst]
 ·rw [List.getElem?_set_ne (by omega),if_neg e]
theorem Rel.set (h:Rel G n w0 ok a w s β) {w1:World} {id g m c:Nat} {b:Blk} (els:Nat->List PV) (xs:List Value)
  (hb:s.H[id]? = some b) (hv : β id=.slice (some ⟨g,0,none⟩) m c)
  (hg:w.grownBy w1 (some g)) (hown:w1.ownsRow w0.heap.size b.ty b.es (β id) b.n xs)
  (hl:∀i,i < b.n->(els i).length=b.es/\∀p∈els i,bk p=true)
  (hc:∀(i f:Nat) p,i < b.n->(els i)[f]? = some p->∃u,xs[i*b.es+f]? = some u/\R ok w s.H β s.nx p u/\(b.box=false->R0 ok w p u)) :
  Rel G n w0 ok a w1 { s with H:=s.H.set id { b with get:=els } } β:=by
 have hid:id < s.H.length:=(List.getElem?_eq_some_iff.1 hb).1;have hgo:(β id).ownBlock=some g:=by rw [hv];rfl
 have hL:gy ok ok w w1 s.H (s.H.set id { b with get:=els }) β β s.nx s.nx:=by
  refine⟨Nat.le_refl _,λ_ h=>h,λa v hk hcl=>hg.cell hcl (λe=>?_),λid' st b' hst e=>?_⟩
  ·simp only [Option.some.injEq] at e;exact h.heap.notok id g hid hgo (e▸hk)
  ·rw [xK s.H id b { b with get:=els } hb rfl] at e;split at e
   ·rename_i hid'
    subst hid';split at e
    ·rename_i hst'
     simp only [Option.some.injEq] at e;subst e;exact⟨b,by simp [dX,hb,hst'],rfl,rfl,rfl⟩
    ·simp at e
   ·exact⟨b',e,rfl,rfl,rfl⟩
 obtain⟨ys0,e10,_,hbx,hbar,_⟩:=h.heap.own id b hb;have hbase:w0.heap.size<=g:=(e10.lt g hgo).1;refine⟨λt ht=>(h.fr t ht).later hL,h.size,h.defers,⟨λid' b' e=>?_,λid' b' e=>?_,λi j hne h1 h2=>?_,λid' k h1 hk=>?_⟩,h.ext.grown hg h.ext.size (λk hk=>by cases hk;exact hbase),λk hk=>Nat.lt_of_lt_of_le (h.oklt k hk) hg.size,cp (λf tm hf t ht=>(hf t ht).later hL) h.sv,λk o hp=>⟨(h.pins k o hp).1,(hg.block k (h.oklt k (h.pins k o hp).1) (λe=>h.heap.notok id g hid hgo (by simp only [Option.some.injEq] at e;exact e▸(h.pins k o hp).1))).trans (h.pins k o hp).2⟩⟩
 ·simp only [List.getElem?_set] at e;split at e
  ·simp only [hid,if_true,Option.some.injEq] at e;subst e;exact h.heap.stl id b hb
  ·exact h.heap.stl id' b' e
 ·simp only [List.getElem?_set] at e;split at e
  ·rename_i hii
   subst hii;simp only [hid,if_true,Option.some.injEq] at e;subst e;refine⟨xs,hown,hl,hbx,hbar,λi f p hi hp=>?_⟩;obtain⟨u,e1,e2,e3⟩:=hc i f p hi hp;exact⟨u,e1,e2.later hL,λhx=>(e3 hx).later hL.oks hL.cell⟩
  ·rename_i hii
   obtain⟨ys,e1,e2,hb1,hb2,e3⟩:=h.heap.own id' b' e;refine⟨ys,e1.kept hg ?_,e2,hb1,hb2,λi f p hi hp=>?_⟩
   ·rw [<-hgo];exact h.heap.inj id' id (λe=>hii e.symm) (List.getElem?_eq_some_iff.1 e).1 hid
   ·obtain⟨u,e4,e5,e6⟩:=e3 i f p hi hp;exact⟨u,e4,e5.later hL,λhx=>(e6 hx).later hL.oks hL.cell⟩
 ·simp only [List.length_set] at h1 h2;exact h.heap.inj i j hne h1 h2
 ·simp only [List.length_set] at h1;exact h.heap.notok id' k h1 hk
theorem pm (h:Rel G n w0 ok a w s β) {dst:Option Tmp} {t ty:TypeId} {x y:Operand} {pos:String} {after:Array Edge} {guard:Option (Nat×Bool)} (hx:aT n x=true) (hy:aT n y=true) {cd:Option Prop} {r:St×PV}
  (e:kR P s ⟨dst,.store t x y,ty,pos,after,guard⟩=some (cd,r)):Acts P G n w0 ok a w ⟨dst,.store t x y,ty,pos,after,guard⟩ r:=by
 have hR:=h.ev hx;have hRy:=h.ev hy;simp only [kR] at e;split at e
 ·rename_i id st i f hp
  simp only [Option.bind_eq_some_iff] at e;obtain⟨b,hb,cs,hcs,e⟩:=e;split at e
  ·rename_i hcond
   obtain⟨hsz,hok,hD⟩:=hcond;simp only [Option.map_eq_some_iff,Prod.mk.injEq] at e;obtain⟨els,hels,_,rfl⟩:=e;rw [hp] at hR;obtain⟨g,c,e1,hi,e2⟩:=hR.ptr_inv hb;have hb':=(aO hb).1;obtain⟨xs,h1,h2,hbx,hbar,h3⟩:=h.heap.own id b hb';rw [e1] at h1;obtain⟨q1,q2⟩:=hRy.cells hcs;obtain⟨k2,k3,k4⟩:=mA (λi hi=>(h2 i hi).1) hi hels;have hxl:xs.length=b.n*b.es:=h1.1;have hvl:(a.eval y).cells.toList.length=cs.length:=by simp [q1]
   obtain⟨r1,r2,r3⟩:=dY (a.eval y).cells.toList (i*b.es+f) w xs h1;have hone:∀v∈(a.eval y).cells.toList,v.oneCell'=true:=by
    intro v hv;obtain⟨j,hj,rfl⟩:=List.getElem_of_mem hv;have hjc:j < cs.length:=by omega
    obtain⟨u,e3,e4⟩:=q2 j cs[j] (by simp);have:=e4.one (List.all_eq_true.1 hok _ (List.getElem_mem hjc));have e5:(a.eval y).cells.toList[j]=u:=by
     have:(a.eval y).cells.toList[j]? = some u:=by simpa using e3
     rw [List.getElem?_eq_getElem hj] at this;simpa using this
    rw [e5];exact this
   have hcell:∀j,j < (a.eval y).cells.toList.length->(w.cell? ⟨g,i*b.es+f+0+j,none⟩).isSome=true/\w.frozen? ⟨g,i*b.es+f+0+j,none⟩=false:=by
    intro j hj;refine⟨?_,h1.frozenAt _⟩;rw [h1.cellAt _ (by omega)];simp;omega
   have hrun:(storeVar t ⟨g,i*b.es+f,none⟩ (a.eval y)).run P w=.ok () (w.setCells g (i*b.es+f) (a.eval y).cells.toList):=by
    have:=run_storeCells_cells (P:=P) g (i*b.es+f) (a.eval y).cells.toList 0 w (λj hj=>(hcell j hj).1) (λj hj=>(hcell j hj).2) hone;simp only [Nat.add_zero] at this;unfold storeVar;simp [cA hsz,q1,this]
   refine⟨.skip,undef,_,β,by simp [execOp,Instr.storeAt,Instr.sureAddr,e2,hrun],.inr ⟨rfl,rfl⟩,h.set els _ hb' e1 r2 (by rw [e1];exact r1) (λi' hi'=>⟨k3 i' hi',λp hpx=>?_⟩) (λi' f' p hi' hp=>?_),.val _,nofun⟩
   ·obtain⟨f',hf',hpe⟩:=List.getElem_of_mem hpx;rcases k4 i' f' p hi' (by rw [List.getElem?_eq_getElem hf',hpe]) with ⟨_,_,hv⟩|⟨_,hy2⟩
    ·exact List.all_eq_true.1 hok p (List.mem_of_getElem? hv)
    ·exact(h2 i' hi').2 p (List.mem_of_getElem? hy2)
   ·rw [ly _ _ _ _ (by omega)];rcases k4 i' f' p hi' hp with ⟨c1,c2,hv⟩|⟨c1,hy2⟩
    ·rw [if_pos (by omega)];obtain⟨u,e3,e4⟩:=q2 _ p hv;refine⟨u,by simpa using e3,e4,λhbox=>?_⟩;rw [hbox] at hD;exact e4.isD (List.all_eq_true.1 hD p (List.mem_of_getElem? hv))
    ·rw [if_neg (by omega)];exact h3 i' f' p hi' hy2
  ·simp at e
 ·simp at e
theorem po (off:Nat):∀(l:List Value) (k:Nat) (cells:Array Value),off+k+l.length<=cells.size ->
  ((l.zipIdx k).foldl (λcs (x:Value×Nat)=>cs.setIfInBounds (off+x.2) x.1) cells).size=cells.size /\
  ∀j,((l.zipIdx k).foldl (λcs (x:Value×Nat)=>cs.setIfInBounds (off+x.2) x.1) cells)[j]? = if off+k<=j/\j < off+k+l.length then l[j - (off+k)]? else cells[j]?
 |[],k,cells,_=>by simp;intro j h1 h2;omega
 |v::l,k,cells,h=>by
  simp only [List.length_cons] at h;obtain⟨h1,h2⟩:=po off l (k+1) (cells.setIfInBounds (off+k) v) (by simp;omega);simp only [List.zipIdx_cons,List.foldl_cons];refine⟨by rw [h1];simp,λj=>?_⟩;rw [h2 j];by_cases e:j=off+k
  ·subst e;rw [if_neg (by omega),if_pos (by simp)];simp [show off+k < cells.size by omega]
  ·by_cases hc:off+(k+1)<=j/\j < off+(k+1)+l.length
   ·rw [if_pos hc,if_pos (by simp only [List.length_cons];omega)];have:j - (off+k)=(j - (off+(k+1)))+1:=by omega
    rw [this,List.getElem?_cons_succ]
   ·rw [if_neg hc,if_neg (by simp only [List.length_cons];omega),Array.getElem?_setIfInBounds_ne (by omega)]
theorem lz (es:Nat):∀(ps:List (Nat×Value)) (k:Nat) (cells:Array Value),ps.map (·.1)=List.range' k ps.length->(∀p∈ps,p.2.cells.size=es)->(k+ps.length)*es<=cells.size ->
  ∃cells',Instr.fill (λi=>some (i*es,es)) cells ps=some cells'/\cells'.size=cells.size/\(∀j,j < k*es->cells'[j]? = cells[j]?) /\
   ∀(i:Nat) p (f:Nat),ps[i]? = some p->f < es->cells'[(k+i)*es+f]? = p.2.cells[f]?
 |[],k,cells,_,_,_=>⟨cells,rfl,rfl,λ_ _=>rfl,λi p f h=>by simp at h⟩
 |(i0,v)::ps,k,cells,hm,hs,hb=>by
  simp only [List.map_cons,List.length_cons,List.range'_succ,List.cons.injEq] at hm;obtain⟨rfl,hm⟩:=hm;have hv:=hs (i0,v) (by simp);simp only at hv;simp only [List.length_cons] at hb;rw [Nat.add_mul,Nat.succ_mul] at hb;obtain⟨f1,f2⟩:=po (i0*es) v.cells.toList 0 cells (by simp;omega);simp only [Nat.add_zero] at f1 f2;have hfold:(v.cells.zipIdx.foldl (λcs (x:Value×Nat)=>cs.setIfInBounds (i0*es+x.2) x.1) cells)=(v.cells.toList.zipIdx.foldl (λcs (x:Value×Nat)=>cs.setIfInBounds (i0*es+x.2) x.1) cells):=by
   rw [<-Array.foldl_toList];simp
  rw [<-hfold] at f1 f2;obtain⟨cells',g1,g2,g3,g4⟩:=lz es ps (i0+1) _ hm (λp hp=>hs p (by simp [hp])) (by rw [f1,Nat.add_mul,Nat.succ_mul];omega);refine⟨cells',?_,by rw [g2,f1],λj hj=>?_,λi p f hp hf=>?_⟩
  ·simp only [Instr.fill,hv];rw [if_neg (by simp;omega)];exact g1
  ·rw [g3 j (by rw [Nat.succ_mul];omega),f2 j,if_neg (by omega)]
  ·cases i with
   |zero =>
    simp only [List.getElem?_cons_zero,Option.some.injEq] at hp;subst hp;simp only [Nat.add_zero];rw [g3 _ (by rw [Nat.succ_mul];omega),f2,if_pos (by simp;omega)];simp
   |succ i =>
    simp only [List.getElem?_cons_succ] at hp;have:=g4 i p f hp hf;rw [<-this,show i0+(i+1)=i0+1+i by omega]
theorem pp {t:TypeId} {cs:List PV} (hz:zeroCells P t=some cs):∃z:Value,cs=z.cells.toList.map .val/\∀W:World,(zeroValue t).run P W=.ok z W:=by
 simp only [zeroCells,Option.bind_eq_some_iff,Option.map_eq_some_iff] at hz;obtain⟨ti,hti,z,hz,rfl⟩:=hz;exact⟨z,rfl,λW=>by simp [zeroValue,run_typeInfo W hti,hz]⟩
theorem pq (h:Rel G n w0 ok a w s β) {dst:Option Tmp} {t ty:TypeId} {pos:String} {after:Array Edge} {guard:Option (Nat×Bool)} {cd:Option Prop} {r:St×PV}
  (e:kR P s ⟨dst,.alloc t,ty,pos,after,guard⟩=some (cd,r)):Acts P G n w0 ok a w ⟨dst,.alloc t,ty,pos,after,guard⟩ r:=by
 simp only [kR,Option.bind_eq_some_iff,Option.map_eq_some_iff,Prod.mk.injEq] at e;obtain⟨cs,hcs,r',e,_,rfl⟩:=e;obtain⟨z,rfl,hrun⟩:=pp hcs;obtain⟨β',v,rfl,h1,h2⟩:=iq h (us:=z.cells) (by simp) (λj q hq=>by
  simp only [List.getElem?_map,Array.getElem?_toList,Option.map_eq_some_iff] at hq;obtain⟨u,hu,rfl⟩:=hq;exact⟨u,hu,.val u⟩) e
 exact⟨_,_,_,β',by simp [execOp,Instr.alloc,hrun,newVar,newRow,newObj,Sem.run],.inl rfl,h1,h2,λ_=>(Below.refl _ _).alloc (Nat.le_refl _) _⟩
theorem ur (h:Rel G n w0 ok a w s β) {dst:Option Tmp} {t ty:TypeId} {x:Operand} {pos:String} {after:Array Edge} {guard:Option (Nat×Bool)} (hx:aT n x=true) {cd:Option Prop} {r:St×PV}
  (e:kR P s ⟨dst,.box t x,ty,pos,after,guard⟩=some (cd,r)):Acts P G n w0 ok a w ⟨dst,.box t x,ty,pos,after,guard⟩ r:=by
 simp only [kR,Option.bind_eq_some_iff,Option.map_eq_some_iff,Prod.mk.injEq] at e;obtain⟨cs,hcs,r',e,_,rfl⟩:=e;obtain⟨q1,q2⟩:=(h.ev hx).cells hcs;obtain⟨β',v,rfl,h1,h2⟩:=iq h q1 q2 e;exact⟨_,_,_,β',by simp [execOp,Instr.box,newVar,newRow,newObj,Sem.run],.inl rfl,h1,h2,λ_=>(Below.refl _ _).alloc (Nat.le_refl _) _⟩
theorem lA {base ty es m k:Nat} {v:Value} {xs:List Value} (h:w.ownsRow base ty es v m xs) (hk:k<=m):w.ownsRow base ty es (sub es 0 k v) k (xs.take (k*es)):=by
 obtain⟨h1,h2⟩:=h;have hle:k*es<=m*es:=Nat.mul_le_mul_right _ hk;refine⟨by rw [List.length_take,h1];omega,?_⟩;rcases h2 with ⟨rfl,rfl⟩|⟨g,cap,cur,rfl,q1,q2,q3,q4,q5,q6⟩
 ·exact .inl ⟨rfl,by omega⟩
 ·refine .inr ⟨g,cap,cur,by simp [sub,Addr.add_mid],q1,q2,by omega,q4,q5,?_⟩;rw [<-q6,List.take_take];congr 1;omega
theorem tf {n q:Nat} (h:xJ n=some q):q=n:=by
 unfold xJ at h;split at h
 ·cases h
 ·cases h;rfl
theorem ru (h:Rel G n w0 ok a w s β) {dst:Option Tmp} {t ty:TypeId} {l c:Operand} {pos:String} {after:Array Edge} {guard:Option (Nat×Bool)} (hl:aT n l=true) (hc:aT n c=true) {cd:Option Prop} {r:St×PV} (hmet:Met cd)
  (e:kR P s ⟨dst,.makeSlice t l c,ty,pos,after,guard⟩=some (cd,r)):Acts P G n w0 ok a w ⟨dst,.makeSlice t l c,ty,pos,after,guard⟩ r:=by
 simp only [kR,Option.bind_eq_some_iff] at e;obtain⟨el,hel,es,hes,cs,hcs,ti,hti,q,hq,e⟩:=e;have hq:=tf hq;subst hq;have hu:P.underlying t=some (.slice el):=by
  unfold elemOf at hel;split at hel
  ·rename_i q hq;simp only [Option.some.injEq] at hel;subst hel;exact hq
  ·simp at hel
 split at e
 ·rename_i m m' h1 h2
  split at e
  ·rename_i hcond
   obtain⟨c4,c5,c6⟩:=hcond;simp only [Option.some.injEq,Prod.mk.injEq] at e;obtain⟨rfl,rfl⟩:=e;obtain⟨c0,c1,c2,c3⟩:=hmet _ rfl;have e1:=h.evv hl h1;have e2:=h.evv hc h2;simp only [zeroCells,hti,Option.bind_some,Option.map_eq_some_iff] at hcs;obtain⟨z,hz,rfl⟩:=hcs;have ms:ti.size=es:=by simpa [cY,hti] using hes
   obtain⟨k,rfl⟩:=Int.eq_ofNat_of_zero_le c0;obtain⟨k',rfl⟩:=Int.eq_ofNat_of_zero_le (show 0<=m' by omega);have hkk:k<=k':=by omega
   have hzs:z.cells.size=es:=by simpa using c4
   have r1:=run_make (P:=P) w t el ti z hu hti hz .i64 .i64 k k' (by omega) c1 c3 c2;simp only [Int.toNat_natCast] at r1 ⊢;rw [ms] at r1;have hV:=lA (World.ownsRow_lit (e:=el) (size:=es) (base:=w.heap.size) w (madeCells z.cells (k'*es)) k' (Nat.le_refl _) (by unfold maxLen;omega) (by simp [madeCells])) hkk;have hsub:sub es 0 k (.slice (some ⟨w.heap.size,0,none⟩) k' k')=.slice (some ⟨w.heap.size,0,none⟩) k k':=by simp [sub,Addr.add_mid]
   rw [hsub] at hV;have hR:=R.new_sl (ok:=ok) (s:=s) (β:=β) (w1:=w.alloc (.cells (madeCells z.cells (k'*es)) el)) (es:=es) (ty:=el) (box:=false) (arr:=false) (m:=k) (els:=λ_=>z.cells.toList.map PV.val) (V:=.slice (some ⟨w.heap.size,0,none⟩) k k') (.inr ⟨_,k',rfl⟩);refine⟨.value _,_,_,_,by simp only [execOp,Sem.run_bind,e1,e2];rw [r1];rfl,.inl rfl,h.new el es false false k _ _ _ ((Below.refl _ _).alloc (Nat.le_refl _) _) hV (λi hi=>?_) (by simp) (by simp) (λi f p hi hp=>?_),hR,λ_=>(Below.refl _ _).alloc (Nat.le_refl _) _⟩
   ·exact⟨by simpa using hzs,List.all_eq_true.1 c6⟩
   ·have hf:f < es:=by have:=(List.getElem?_eq_some_iff.1 hp).1;simpa [hzs] using this
    simp only [List.getElem?_map,Array.getElem?_toList,Option.map_eq_some_iff] at hp;obtain⟨u,hu',rfl⟩:=hp;refine⟨u,?_,.val u,λ_=>.val u⟩;have hlt:i*es+f < k*es:=by
     calc i*es+f < i*es+es:=by omega
      _=(i+1)*es:=by rw [Nat.succ_mul]
      _<=k*es:=Nat.mul_le_mul_right _ hi
    have hlt':i*es+f < k'*es:=Nat.lt_of_lt_of_le hlt (Nat.mul_le_mul_right _ hkk);rw [List.getElem?_take,if_pos hlt];simp only [madeCells,Array.toList_map,List.getElem?_map,Array.getElem?_toList,Array.getElem?_range,hlt',if_true,Option.map_some];rw [hzs,Nat.mul_comm i es,Nat.mul_add_mod,Nat.mod_eq_of_lt hf];rw [getElem!_def,hu']
  ·simp at e
 ·simp at e
end
end Go.Ex
namespace Go.Ex
open Go Go.RowKit
section
variable {P:Program} {G:List (Array Value)} {n:Nat} {w0:bE} {ok:Nat->Prop} {a:Act} {w:World} {s:St} {β : Nat->Value} {o:Oper}
theorem R0.val_eq {v u:Value} (h:R0 ok w (.val v) u):u=v:=by cases h;rfl
theorem R0.mkAgg {xs:List PV} {vs:Array Value} (l:xs.length=vs.size) (h:∀(i:Nat) p u,xs[i]? = some p->vs[i]? = some u->R0 ok w p u):R0 ok w (mkAgg xs) (.agg vs):=by
 unfold Ex.mkAgg;split
 ·rename_i us hus
  have hx:=gV hus;have:vs=us.toArray:=by
   apply Array.ext_getElem?;intro i;subst hx;simp only [List.length_map] at l;rcases Nat.lt_or_ge i us.length with hi|hi
   ·have:=h i (.val us[i]) vs[i] (by simp [hi]) (by simp);have:=this.val_eq;simp [this,hi,<-l]
   ·simp [hi,<-l]
  rw [this];exact .val _
 ·exact .agg xs vs l h
theorem R0.mkTup {xs:List PV} {vs:Array Value} (l:xs.length=vs.size) (h:∀(i:Nat) p u,xs[i]? = some p->vs[i]? = some u->R0 ok w p u):R0 ok w (mkTup xs) (.tuple vs):=by
 unfold Ex.mkTup;split
 ·rename_i us hus
  have hx:=gV hus;have:vs=us.toArray:=by
   apply Array.ext_getElem?;intro i;subst hx;simp only [List.length_map] at l;rcases Nat.lt_or_ge i us.length with hi|hi
   ·have:=h i (.val us[i]) vs[i] (by simp [hi]) (by simp);have:=this.val_eq;simp [this,hi,<-l]
   ·simp [hi,<-l]
  rw [this];exact .val _
 ·exact .tup xs vs l h
theorem ut {H:Heap}:∀{d:Nat} {p q:PV},deep H d p=some q->bk p=true->bk q=true:=by
 intro d p q h hc;cases d with
 |zero=>cases p<;>simp_all [deep,bk]<;>(subst h;simp_all [bk])
 |succ d =>
  cases p with
  |val v=>simp only [deep,Option.some.injEq] at h;subst h;exact hc
  |ptr id st i f =>
   simp only [deep,Option.bind_eq_some_iff] at h;obtain⟨_,_,h⟩:=h;split at h
   ·simp only [Option.map_eq_some_iff] at h;obtain⟨_,_,rfl⟩:=h;rfl
   ·simp only [Option.some.injEq] at h;subst h;rfl
  |sl id st lo len =>
   simp only [deep,Option.bind_eq_some_iff] at h;obtain⟨_,_,h⟩:=h;split at h
   ·simp at h
   ·simp only [Option.some.injEq] at h;subst h;rfl
  |rs=>simp only [deep,Option.some.injEq] at h;subst h;rfl
  |rp=>simp only [deep,Option.some.injEq] at h;subst h;rfl
  |fn=>simp only [deep,Option.bind_eq_some_iff,Option.map_eq_some_iff] at h;obtain⟨_,_,_,_,rfl⟩:=h;rfl
  |agg=>simp [bk] at hc
  |tup=>simp [bk] at hc
  |junk=>simp [bk] at hc
theorem dZ {base:Nat} {H:Heap} {nx:Nat} {A:Nat->Prop} (hH:HRel base ok w H β nx) (hA:∀k,ok k->A k):∀(d:Nat) (p q:PV) (v:Value),R ok w H β nx p v->deep H d p=some q ->
  (∀id∈cr H d p,id < H.length->∀k,(β id).ownBlock=some k->A k)->R0 A w q v:=by
 have lift:∀{p v},R0 ok w p v->R0 A w p v:=λh=>h.later hA (λ_ _ _ h=>h);intro d
 induction d with
 |zero =>
  intro p q v h e _;cases p with
  |val u=>simp only [deep,Option.some.injEq] at e;subst e;cases h.val_eq;exact .val _
  |rs=>simp only [deep,Option.some.injEq] at e;subst e;exact lift h.rs_inv
  |rp=>simp only [deep,Option.some.injEq] at e;subst e;exact lift h.rp_inv
  |_=>simp [deep] at e
 |succ d ih =>
  intro p q v h e hr;cases p with
  |val u=>simp only [deep,Option.some.injEq] at e;subst e;cases h.val_eq;exact .val _
  |rs=>simp only [deep,Option.some.injEq] at e;subst e;exact lift h.rs_inv
  |rp=>simp only [deep,Option.some.injEq] at e;subst e;exact lift h.rp_inv
  |junk=>simp [deep] at e
  |fn f xs ys =>
   simp only [deep,Option.bind_eq_some_iff,Option.map_eq_some_iff] at e;obtain⟨as,has,bs,hbs,rfl⟩:=e;obtain⟨us,vs,rfl,l1,l2,h1,h2⟩:=h.fn_inv;obtain⟨m1,m2⟩:=bA has;obtain⟨m3,m4⟩:=bA hbs;refine .fn f as bs us vs (by omega) (by omega) (λi p u hp hu=>?_) (λi p u hp hu=>?_)
   ·obtain⟨x,e1,e2⟩:=m2 i p hp;exact ih x p u (h1 i x u e1 hu) e2 λid hid=>hr id (by simp only [cr,List.mem_append,List.mem_flatMap];exact .inl ⟨x,List.mem_of_getElem? e1,hid⟩)
   ·obtain⟨x,e1,e2⟩:=m4 i p hp;exact ih x p u (h2 i x u e1 hu) e2 λid hid=>hr id (by simp only [cr,List.mem_append,List.mem_flatMap];exact .inr ⟨x,List.mem_of_getElem? e1,hid⟩)
  |agg xs =>
   simp only [deep,Option.map_eq_some_iff] at e;obtain⟨as,has,rfl⟩:=e;obtain⟨vs,rfl,l,h1⟩:=h.agg_inv;obtain⟨m1,m2⟩:=bA has;refine R0.mkAgg (by omega) λi p u hp hu=>?_;obtain⟨x,e1,e2⟩:=m2 i p hp;exact ih x p u (h1 i x u e1 hu) e2 λid hid=>hr id (by simp only [cr,List.mem_flatMap];exact⟨x,List.mem_of_getElem? e1,hid⟩)
  |tup xs =>
   simp only [deep,Option.map_eq_some_iff] at e;obtain⟨as,has,rfl⟩:=e;obtain⟨vs,rfl,l,h1⟩:=h.tup_inv;obtain⟨m1,m2⟩:=bA has;refine R0.mkTup (by omega) λi p u hp hu=>?_;obtain⟨x,e1,e2⟩:=m2 i p hp;exact ih x p u (h1 i x u e1 hu) e2 λid hid=>hr id (by simp only [cr,List.mem_flatMap];exact⟨x,List.mem_of_getElem? e1,hid⟩)
  |ptr id st i f =>
   simp only [deep,Option.bind_eq_some_iff] at e;obtain⟨b,hb,e⟩:=e;obtain⟨g,c,e1,hi,rfl⟩:=h.ptr_inv hb;have hb':=(aO hb).1;obtain⟨u,_,_,_,_,_,hl,k1,k2,k3⟩:=hH.cells hb' e1;have hlt:id < H.length:=(List.getElem?_eq_some_iff.1 hb').1;have hg:A g:=hr id (by simp [cr]) hlt g (by rw [e1];rfl);have hadd:(⟨g,i*b.es+f,none⟩:Addr)=⟨g,0+(i*b.es+f),none⟩:=by simp
   split at e
   ·rename_i hbox
    simp only [Option.map_eq_some_iff] at e;obtain⟨cs,hcs,rfl⟩:=e;obtain⟨_,_,_,hb1,_,_⟩:=hH.own id b hb';have hn1:=hb1 hbox;obtain rfl:i=0:=by omega
    obtain⟨m1,m2⟩:=bA hcs;rw [hadd];refine .rp b.es 1 _ 0 f g 0 u (λi hi=>?_) hg (by omega) (λi f p hi hp=>?_) (λi f p hi hp=>?_)
    ·refine⟨by rw [m1];exact(hl 0 (by omega)).1,λp hp=>?_⟩;obtain⟨j,hj,rfl⟩:=List.getElem_of_mem hp;obtain⟨z,e4,e5⟩:=m2 j _ (List.getElem?_eq_getElem hj);exact ut e5 ((hl 0 (by omega)).2 z (List.mem_of_getElem? e4))
    ·obtain rfl:i=0:=by omega
     obtain⟨z,e4,e5⟩:=m2 f p hp;rw [Nat.zero_add];exact k1 0 f z (by omega) e4
    ·obtain rfl:i=0:=by omega
     obtain⟨z,e4,e5⟩:=m2 f p hp;refine ih z p _ (k2 0 f z (by omega) e4) e5 λj hj=>hr j ?_;simp only [cr,hb,hbox,List.mem_cons,List.mem_flatMap];exact .inr ⟨z,List.mem_of_getElem? e4,hj⟩
   ·rename_i hbox
    simp only [Option.some.injEq] at e;subst e;rw [hadd];exact .rp b.es b.n b.get i f g 0 u hl hg hi (λi f p hi hp=>by rw [Nat.zero_add];exact k1 i f p hi hp) (λi f p hi hp=>lift (k3 hbox i f p hi hp))
  |sl id st lo len =>
   simp only [deep,Option.bind_eq_some_iff] at e;obtain⟨b,hb,e⟩:=e;split at e
   ·simp at e
   ·rename_i hbox
    simp only [Option.some.injEq] at e;subst e;have hb':=(aO hb).1;have hnone:∀ad,len=0->R0 A w (.rs b.es len λi=>b.get (lo+i)) (.slice ad 0 0):=by
     intro ad h0;subst h0;exact .rs b.es 0 _ ad 0 (λ_ _=>undef) (λi hi=>absurd hi (by omega)) (by omega) (by unfold maxLen;omega) (λi f p hi=>absurd hi (by omega)) (λi f p hi=>absurd hi (by omega))
    obtain⟨e1|⟨_,e1,ad,rfl⟩,e2⟩:=h.sl_inv hb
    ·rcases hH.slice_of hb' with ⟨e4,e5⟩|⟨g,c,e4,e5,e6⟩
     ·rw [e1,e4];exact hnone none (by omega)
     ·obtain⟨u,_,_,_,_,_,hl,k1,k2,k3⟩:=hH.cells hb' e4;have hlt:id < H.length:=(List.getElem?_eq_some_iff.1 hb').1;have hg:A g:=hr id (by simp [cr]) hlt g (by rw [e4];rfl);rw [e1,e4];simp only [sub,Addr.add_mid,Nat.zero_add];refine .rs b.es len _ _ _ (λi f=>u (lo+i) f) (λi hi=>hl (lo+i) (by omega)) (by omega) (by omega) (λi f p hi hp=>?_) (λi f p hi hp=>lift (k3 hbox (lo+i) f p (by omega) hp));refine⟨g,lo*b.es,rfl,hg,?_⟩;rw [<-k1 (lo+i) f p (by omega) hp];congr 2;rw [Nat.add_mul];omega
    ·exact hnone ad e1
theorem jR (ids:List Nat) (nx:Nat):∀(k:Nat) (H:Heap) (i:Nat),(i5 ids nx k H)[i]? = (H[i]?).map λb=>if k+i∈ids then⟨0,0,nx,false,false,0,λ_=>[]⟩ else b
 |k,[],i=>by simp [i5]
 |k,b::H,0=>by
  simp only [i5,List.getElem?_cons_zero,Option.map_some,Nat.add_zero];cases h:ids.contains k with
  |true=>simp [List.contains_iff_mem.1 h]
  |false =>
   have:k∉ids:=λhm=>by rw [List.contains_iff_mem.2 hm] at h;cases h
   simp [this]
 |k,b::H,i+1=>by
  simp only [i5,List.getElem?_cons_succ];rw [jR ids nx (k+1) H i,show k+1+i=k+(i+1) by omega]
theorem jf (ids:List Nat) (nx:Nat):∀(k:Nat) (H:Heap),(i5 ids nx k H).length=H.length
 |k,[]=>rfl
 |k,b::H=>by simp [i5,jf ids nx (k+1) H]
theorem ko (s:St) (ids:List Nat):(s.kill ids).H.length=s.H.length:=by cases ids<;>simp [St.kill,jf]
theorem kU (s:St) (ids:List Nat):(s.kill ids).fr=s.fr:=by cases ids<;>rfl
theorem kV (s:St) (ids:List Nat):(s.kill ids).sv=s.sv:=by cases ids<;>rfl
theorem vB {s:St} {ids:List Nat} (hids:ids≠[]) (id st:Nat) (hst:st < s.nx) {b:Blk} (e:dX (s.kill ids).H id st=some b):id∉ids/\dX s.H id st=some b:=by
 cases ids with
 |nil=>exact absurd rfl hids
 |cons i r =>
  simp only [St.kill,dX,jR,Nat.zero_add] at e;cases hb:s.H[id]? with
  |none=>simp [hb] at e
  |some b' =>
   simp only [hb,Option.map_some] at e;by_cases hid:id∈i::r
   ·rw [if_pos hid] at e;simp only at e;split at e
    ·omega
    ·simp at e
   ·rw [if_neg hid] at e;exact⟨hid,by simpa [dX,hb] using e⟩
theorem Rel.kill (h:Rel G n w0 ok a w s β) (ids:List Nat):∃β',Rel G n w0 (λk=>ok k\/∃id∈ids,id < s.H.length/\(β id).ownBlock=some k) a w (s.kill ids) β' /\
  ∀p v,R ok w s.H β s.nx p v->R (λk=>ok k\/∃id∈ids,id < s.H.length/\(β id).ownBlock=some k) w (s.kill ids).H β' (s.kill ids).nx p v:=by
 by_cases hids:ids=[]
 ·subst hids;have e:(λk=>ok k\/∃id∈([]:List Nat),id < s.H.length/\(β id).ownBlock=some k)=ok:=by funext k;simp
  rw [e];exact⟨β,h,λp v hp=>hp⟩
 ·have hkn:(s.kill ids).nx=s.nx+1:=by cases ids<;>first|exact absurd rfl hids|rfl
  have hkH:(s.kill ids).H=i5 ids s.nx 0 s.H:=by cases ids<;>first|exact absurd rfl hids|rfl
  let β':Nat->Value:=λid=>if id∈ids then .slice none 0 0 else β id
  have hL:gy ok (λk=>ok k\/∃id∈ids,id < s.H.length/\(β id).ownBlock=some k) w w s.H (s.kill ids).H β β' s.nx (s.kill ids).nx:=by
   refine⟨by omega,λb hb=>.inl hb,λ_ _ _ h=>h,λid st b' hst e=>?_⟩;obtain⟨e1,e2⟩:=vB hids id st hst e;exact⟨b',e2,rfl,rfl,by simp [β',e1]⟩
  have hget:∀(id:Nat) b,(s.kill ids).H[id]? = some b->(id∈ids/\b=⟨0,0,s.nx,false,false,0,λ_=>[]⟩)\/(id∉ids/\s.H[id]? = some b):=by
   intro id b e;rw [hkH,jR,Nat.zero_add] at e;simp only [Option.map_eq_some_iff] at e;obtain⟨b',e1,e2⟩:=e;by_cases hid:id∈ids
   ·rw [if_pos hid] at e2;exact .inl ⟨hid,e2.symm⟩
   ·rw [if_neg hid] at e2;exact .inr ⟨hid,by rw [e1,e2]⟩
  refine⟨β',⟨λt ht=>?_,h.size,h.defers,⟨λid b e=>?_,λid b e=>?_,λi j hne h1 h2=>?_,λid k h1 hk=>?_⟩,h.ext,?_,by rw [kV];exact cp (λf tm hf t ht=>(hf t ht).later hL) h.sv,λk o hp=>⟨.inl (h.pins k o hp).1,(h.pins k o hp).2⟩⟩,λp v hp=>hp.later hL⟩
  ·rw [kU];exact(h.fr t ht).later hL
  ·rcases hget id b e with ⟨_,rfl⟩|⟨_,e'⟩
   ·rw [hkn];exact Nat.lt_succ_self _
   ·have:=h.heap.stl id b e';omega
  ·rcases hget id b e with ⟨hid,rfl⟩|⟨hid,e'⟩
   ·exact⟨[],by simp only [β',hid,if_true];exact World.ownsRow_nil _ _ _ _,λi hi=>absurd hi (by simp),by simp,by simp,λi f p hi=>absurd hi (by simp)⟩
   ·obtain⟨xs,h1,h2,hb1,hb2,h3⟩:=h.heap.own id b e';refine⟨xs,by simpa [β',hid] using h1,h2,hb1,by simpa [β',hid] using hb2,λi f p hi hp=>?_⟩;obtain⟨u,e1,e2,e3⟩:=h3 i f p hi hp;exact⟨u,e1,e2.later hL,λhx=>(e3 hx).later hL.oks hL.cell⟩
  ·rw [ko] at h1 h2;simp only [β'];by_cases hi:i∈ids
   ·simp [hi,Value.ownBlock]
   ·by_cases hj:j∈ids
    ·simp only [hi,hj,if_true,if_false];cases (β i).ownBlock with
     |none=>exact .inl rfl
     |some k=>exact .inr (by simp [Value.ownBlock])
    ·simp only [hi,hj,if_false];exact h.heap.inj i j hne h1 h2
  ·rw [ko] at h1;simp only [β'] at hk;by_cases hi:id∈ids
   ·simp [hi,Value.ownBlock] at hk
   ·simp only [hi,if_false] at hk;rintro (hok|⟨id',hid',hl,hk'⟩)
    ·exact h.heap.notok id k h1 hk hok
    ·have hne:id≠id':=λe=>hi (e▸hid');rcases h.heap.inj id id' hne h1 hl with e|e
     ·rw [hk] at e;cases e
     ·exact e (by rw [hk,hk'])
  ·rintro k (hk|⟨id,_,hl,hk⟩)
   ·exact h.oklt k hk
   ·obtain⟨xs,h1,_⟩:=h.heap.own id s.H[id] (by simp [hl]);exact(h1.lt k hk).2
theorem Rel.widen (h:Rel G n w0 ok a w s β) {w':World} (hb:Below w.heap.size w w') (F:Nat->Prop) (hF:∀k,F k->w.heap.size<=k/\k < w'.heap.size) :
  Rel G n w0 (λk=>ok k\/F k) a w' s β/\∀p v,R ok w s.H β s.nx p v->R (λk=>ok k\/F k) w' s.H β s.nx p v:=by
 have hL:gy ok (λk=>ok k\/F k) w w' s.H s.H β β s.nx s.nx:=⟨Nat.le_refl _,λ_ h=>.inl h,λa v hk hc=>by rw [hb.cell (h.oklt _ hk)];exact hc,λid st b' _ e=>⟨b',e,rfl,rfl,rfl⟩⟩;refine⟨⟨λt ht=>(h.fr t ht).later hL,h.size,h.defers,⟨h.heap.stl,λid b e=>?_,h.heap.inj,λid k h1 hk=>?_⟩,h.ext.trans (hb.mono h.ext.size),?_,cp (λf tm hf t ht=>(hf t ht).later hL) h.sv,λk o hp=>⟨.inl (h.pins k o hp).1,(hb.block k (h.oklt k (h.pins k o hp).1)).trans (h.pins k o hp).2⟩⟩,λp v hp=>hp.later hL⟩
 ·obtain⟨xs,h1,h2,hb1,hb2,h3⟩:=h.heap.own id b e;refine⟨xs,h1.kept (row:=none) ⟨hb.os,hb.tape,hb.output,hb.size,λk hk _=>hb.block k hk⟩ (by cases (β id).ownBlock<;>simp),h2,hb1,hb2,λi f p hi hp=>?_⟩;obtain⟨u,e1,e2,e3⟩:=h3 i f p hi hp;exact⟨u,e1,e2.later hL,λhx=>(e3 hx).later hL.oks hL.cell⟩
 ·rintro (hok|hf)
  ·exact h.heap.notok id k h1 hk hok
  ·obtain⟨xs,h2,_⟩:=h.heap.own id s.H[id] (by simp [h1]);have:=(h2.lt k hk).2;have:=(hF k hf).1;omega
 ·rintro k (hk|hk)
  ·exact Nat.lt_of_lt_of_le (h.oklt k hk) hb.size
  ·exact(hF k hk).2
end
end Go.Ex
namespace Go.Ex
open Go Go.RowKit
section
variable {P:Program} {G:List (Array Value)} {n:Nat} {w0:bE} {ok:Nat->Prop} {a:Act} {w:World} {s:St} {β : Nat->Value} {o:Oper}
theorem kH {v:Value} {base nn:Nat} {e:TypeId} {size:Nat} {xs:List Value} {t ty:TypeId} {ti:TypeInfo} (ht:P.underlying t=some (.slice e)) (hi:P.info? e=some ti) (c:Nat)
  (hown:w.ownsRow base e size v nn xs):(Builtin.append_ #[t,t] ty #[v,.slice none 0 c]).run P w=.ok v w:=by
 rcases hown.2 with ⟨rfl,rfl⟩|⟨g,cap,cur,rfl,_,_,h1,_⟩
 ·simp [Builtin.append_,run_underlying ht,sizeOf,run_typeInfo w hi,Builtin.lenOf,Builtin.firstCells]
 ·simp [Builtin.append_,run_underlying ht,sizeOf,run_typeInfo w hi,Builtin.lenOf,Builtin.firstCells,h1,storeCells]
theorem lB (base:Nat) {t ty e:TypeId} {ti:TypeInfo} {z:Value} (ht:P.underlying t=some (.slice e)) (hi:P.info? e=some ti) (hz:ti.zero=some z) (hzs:z.cells.size=ti.size) (hsz:0 < ti.size)
  {v:Value} {nn:Nat} {xs:List Value} (hown:w.ownsRow base e ti.size v nn xs) {ad:Option Addr} {m c:Nat} {news:List Value} (hl:news.length=m*ti.size)
  (hn:ad=none->m=0) (hnews:∀b,ad=some b->∀j u,news[j]? = some u->w.cell? (b.add j)=some u) (h1:∀u∈news,u.oneCell'=true)
  (h63:nn+m<=maxLen) (hbytes:(nn+m)*ti.bytes<=140737488355328) (hbase:base<=w.heap.size) :
  ∃v' w',(Builtin.append_ #[t,t] ty #[v,.slice ad m c]).run P w=.ok v' w'/\w'.ownsRow base e ti.size v' (nn+m) (xs++news)/\w.grownBy w' v.ownBlock /\
   (v'.ownBlock=v.ownBlock\/v'.ownBlock=some w.heap.size):=by
 cases ad with
 |none =>
  obtain rfl:=hn rfl;have hnil:news=[]:=List.eq_nil_of_length_eq_zero (by simpa using hl);subst hnil;exact⟨v,w,kH ht hi c hown,by simpa using hown,⟨rfl,rfl,rfl,Nat.le_refl _,λ_ _ _=>rfl⟩,.inl rfl⟩
 |some b =>
  obtain⟨v',w',r1,r2,r3,_⟩:=run_append_own (P:=P) w base t ty e ti z ti.size ti.bytes ht hi hz rfl rfl hzs hsz v nn xs hown b m c news hl (hnews b rfl) h1 h63 hbytes hbase;refine⟨v',w',r1,r2,r3,?_⟩;rcases hown.2 with ⟨rfl,rfl⟩|⟨g,cap,cur,rfl,hbg,hg,hnc,hcm,hcs,htake⟩
  ·by_cases hm:m=0
   ·subst hm;have hnil:news=[]:=List.eq_nil_of_length_eq_zero (by simpa using hl);subst hnil;rcases r2.2 with ⟨rfl,_⟩|⟨g,cap,cur,rfl,q1,q2,_⟩
    ·exact .inl rfl
    ·have hr:(Builtin.append_ #[t,t] ty #[.slice none 0 0,.slice (some b) 0 c]).run P w=.ok (.slice none 0 0) w:=by
      simp [Builtin.append_,run_underlying ht,sizeOf,run_typeInfo w hi,Builtin.lenOf,Builtin.firstCells,loadCells,loadCellsFrom]
     rw [r1] at hr;simp at hr
   ·have hr:=run_append_nil (P:=P) w t ty e ti z ht hi hz b m c news hl (hnews b rfl) (by omega) (by simp only [maxLen] at h63;omega) (by have hb:=hbytes;simp only [Nat.zero_add] at hb;omega);rw [r1] at hr;simp only [Result.ok.injEq] at hr;right;rw [hr.1];rfl
  ·by_cases hroom:nn+m<=cap
   ·have hfit:nn*ti.size+news.length<=cur.size:=by rw [hl,hcs,<-Nat.add_mul];exact Nat.mul_le_mul_right _ hroom
    have hr:=run_append_room (P:=P) w t ty e ti ht hi g nn cap cur hg b m c news hl (hnews b rfl) h1 hroom hfit;rw [r1] at hr;simp only [Result.ok.injEq] at hr;left;rw [hr.1];rfl
   ·have holds:∀j u,xs[j]? = some u->w.cell? ((⟨g,0,none⟩:Addr).add j)=some u:=hown.cells (g:=g) rfl;have hr:=run_append_grow (P:=P) w t ty e ti z ht hi hz ⟨g,0,none⟩ nn cap xs hown.1 holds b m c news hl (hnews b rfl) (by omega) (by simp only [maxLen] at h63;omega) (growslice_fits (by omega) hbytes);rw [r1] at hr;simp only [Result.ok.injEq] at hr;right;rw [hr.1];rfl
theorem Rel.turn (h:Rel G n w0 ok a w s β) {w1:World} {id:Nat} {b:Blk} (m:Nat) (els:Nat->List PV) (V:Value) (xs:List Value)
  (hb:s.H[id]? = some b) (hbox:b.box=false) (harr:b.arr=false) (hg:w.grownBy w1 (β id).ownBlock) (hown:w1.ownsRow w0.heap.size b.ty b.es V m xs) (hV:V.ownBlock=(β id).ownBlock\/V.ownBlock=some w.heap.size)
  (hl:∀i,i < m->(els i).length=b.es/\∀p∈els i,bk p=true)
  (hc:∀(i f:Nat) p,i < m->(els i)[f]? = some p->∃u,xs[i*b.es+f]? = some u/\R0 ok w p u) :
  Rel G n w0 ok a w1 { s with H:=s.H.set id { b with st:=s.nx,n:=m,get:=els },nx:=s.nx+1 } (dy β id V):=by
 have hid:id < s.H.length:=(List.getElem?_eq_some_iff.1 hb).1;have hold:∀j,j < s.H.length->∀k,(β j).ownBlock=some k->w0.heap.size<=k/\k < w.heap.size:=by
  intro j hj k hk;obtain⟨ys,e1,_,_⟩:=h.heap.own j s.H[j] (by simp [hj]);exact e1.lt k hk
 have hblk:∀id' st b',st < s.nx->dX (s.H.set id { b with st:=s.nx,n:=m,get:=els }) id' st=some b'->id'≠id/\dX s.H id' st=some b':=by
  intro id' st b' hst e;unfold dX at e;by_cases hii:id'=id
  ·subst hii;simp only [List.getElem?_set_self hid] at e;split at e
   ·rename_i q;have:s.nx=st:=q;omega
   ·simp at e
  ·rw [List.getElem?_set_ne (by omega)] at e;exact⟨hii,e⟩
 have hL:gy ok ok w w1 s.H (s.H.set id { b with st:=s.nx,n:=m,get:=els }) β (dy β id V) s.nx (s.nx+1):=by
  refine⟨by omega,λ_ h=>h,λa v hk hcl=>hg.cell hcl (λe=>h.heap.notok id _ hid e.symm hk),λid' st b' hst e=>?_⟩;obtain⟨e1,e2⟩:=hblk id' st b' hst e;exact⟨b',e2,rfl,rfl,by simp [dy,e1]⟩
 refine⟨λt ht=>(h.fr t ht).later hL,h.size,h.defers,⟨λid' b' e=>?_,λid' b' e=>?_,λi j hne h1 h2=>?_,λid' k h1 hk=>?_⟩,
  h.ext.grown hg h.ext.size (λk hk=>(hold id hid k hk).1),λk hk=>Nat.lt_of_lt_of_le (h.oklt k hk) hg.size,cp (λf tm hf t ht=>(hf t ht).later hL) h.sv,λk o hp=>⟨(h.pins k o hp).1,(hg.block k (h.oklt k (h.pins k o hp).1) (λe=>h.heap.notok id k hid e.symm (h.pins k o hp).1)).trans (h.pins k o hp).2⟩⟩
 ·by_cases hii:id'=id
  ·subst hii;simp only [List.getElem?_set_self hid,Option.some.injEq] at e;subst e;show s.nx < s.nx+1;omega
  ·rw [List.getElem?_set_ne (by omega)] at e;have:=h.heap.stl id' b' e;show b'.st < s.nx+1;omega
 ·by_cases hii:id'=id
  ·subst hii;simp only [List.getElem?_set_self hid,Option.some.injEq] at e;subst e;refine⟨xs,by simpa [dy] using hown,hl,λ(hx:b.box=true)=>absurd (hbox.symm.trans hx) (by decide),λ(hx:b.arr=true)=>absurd (harr.symm.trans hx) (by decide),λi f p hi hp=>?_⟩;obtain⟨u,e1,e2⟩:=hc i f p hi hp;have e3:=e2.later hL.oks hL.cell;exact⟨u,e1,.deep _ _ e3,λ_=>e3⟩
  ·rw [List.getElem?_set_ne (by omega)] at e;obtain⟨ys,e1,e2,hb1,hb2,e3⟩:=h.heap.own id' b' e;have hu:dy β id V id' = β id':=by simp [dy,hii]
   refine⟨ys,?_,e2,hb1,λha=>by rw [hu];exact hb2 ha,λi f p hi hp=>?_⟩
   ·rw [hu];exact e1.kept hg (h.heap.inj id' id hii (List.getElem?_eq_some_iff.1 e).1 hid)
   ·obtain⟨u,e4,e5,e6⟩:=e3 i f p hi hp;exact⟨u,e4,e5.later hL,λhx=>(e6 hx).later hL.oks hL.cell⟩
 ·simp only [List.length_set] at h1 h2;by_cases e1:i=id
  ·have e2:j≠id:=by omega
   simp only [dy,e1,e2,if_true,if_false];rcases hV with hV|hV
   ·rw [hV];exact h.heap.inj id j (by omega) hid h2
   ·right;rw [hV];intro hq;have:=(hold j h2 _ hq.symm).2;omega
  ·by_cases e2:j=id
   ·simp only [dy,e1,e2,if_true,if_false];rcases hV with hV|hV
    ·rw [hV];exact h.heap.inj i id e1 h1 hid
    ·cases hk:(β i).ownBlock with
     |none=>exact .inl rfl
     |some k =>
      right;rw [hV];intro hq;cases hq;have:=(hold i h1 _ hk).2;omega
   ·simp only [dy,e1,e2,if_false];exact h.heap.inj i j hne h1 h2
 ·simp only [List.length_set] at h1;by_cases e1:id'=id
  ·simp only [dy,e1,if_true] at hk;rcases hV with hV|hV
   ·exact h.heap.notok id k hid (hV▸hk)
   ·intro hok;rw [hV] at hk;cases hk;have:=h.oklt _ hok;omega
  ·simp only [dy,e1,if_false] at hk;exact h.heap.notok id' k h1 hk
theorem pt (h:Rel G n w0 ok a w s β) {id g c:Nat} {b:Blk} (hb:s.H[id]? = some b) (hv : β id=.slice (some ⟨g,0,none⟩) b.n c) {i0 k:Nat} (hk:i0+k<=b.n) (new:Nat->List PV) (us:List Value) (hul:us.length=k*b.es)
  (hbox:b.box=false) (hl:∀i,i < k->(new i).length=b.es/\∀p∈new i,bk p=true) (hc:∀(i f:Nat) p,i < k->(new i)[f]? = some p->∃u,us[i*b.es+f]? = some u/\R0 ok w p u) :
  Rel G n w0 ok a (w.setCells g (i0*b.es) us) { s with H:=s.H.set id { b with get:=λi=>if i0<=i/\i < i0+k then new (i - i0) else b.get i } } β /\
   ∀j,j < us.length->(w.cell? ⟨g,i0*b.es+j,none⟩).isSome=true/\w.frozen? ⟨g,i0*b.es+j,none⟩=false:=by
 obtain⟨xs,h1,h2,_,_,h3⟩:=h.heap.own id b hb;rw [hv] at h1;have hxl:xs.length=b.n*b.es:=h1.1;have hfit:i0*b.es+us.length<=xs.length:=by rw [hul,hxl,<-Nat.add_mul];exact Nat.mul_le_mul_right _ hk
 obtain⟨r1,r2,r3⟩:=dY us (i0*b.es) w xs h1;refine⟨h.set _ (uq xs (i0*b.es) us) hb hv r2 (by rw [hv];exact r1) (λi hi=>?_) (λi f p hi hp=>?_),λj hj=>⟨?_,h1.frozenAt _⟩⟩
 ·split
  ·rename_i hlt;exact hl _ (by omega)
  ·exact h2 i hi
 ·rw [ly _ _ _ _ hfit];split at hp
  ·rename_i hlt
   obtain⟨u,e1,e2⟩:=hc _ f p (by omega) hp;have hf:f < b.es:=by rw [<-(hl (i - i0) (by omega)).1];exact(List.getElem?_eq_some_iff.1 hp).1
   have h4:(i - i0)*b.es+i0*b.es=i*b.es:=by rw [<-Nat.add_mul];congr 1;omega
   have h5:=(List.getElem?_eq_some_iff.1 e1).1;rw [if_pos (by omega)];exact⟨u,by rw [<-e1];congr 1;omega,.deep _ _ e2,λ_=>e2⟩
  ·rename_i hge
   have hf:f < b.es:=by rw [<-(h2 i hi).1];exact(List.getElem?_eq_some_iff.1 hp).1
   rw [if_neg ?_]
   ·exact h3 i f p hi hp
   ·rw [hul];rcases Nat.lt_or_ge i i0 with q|q
    ·have:(i+1)*b.es<=i0*b.es:=Nat.mul_le_mul_right _ q;rw [Nat.succ_mul] at this;omega
    ·have:(i0+k)*b.es<=i*b.es:=Nat.mul_le_mul_right _ (by omega);rw [Nat.add_mul] at this;omega
 ·rw [h1.cellAt _ (by omega)];simp;omega
theorem iG {ad b:Option Addr} {k c c2:Nat} {e:TypeId} {t ty:TypeId} {ti:TypeInfo} (ht:P.underlying t=some (.slice e)) (hi:P.info? e=some ti) (hk:k<=c) :
  (Builtin.append_ #[t,t] ty #[.slice b k c,.slice ad 0 c2]).run P w=.ok (.slice b k c) w:=by
 cases b<;>cases ad<;>simp [Builtin.append_,run_underlying ht,sizeOf,run_typeInfo w hi,Builtin.lenOf,Builtin.firstCells,loadCells,loadCellsFrom,hk,storeCells]
theorem lC (h:Rel G n w0 ok a w s β) {dst:Option Tmp} {c:Call} {ty t:TypeId} {x y:Operand} {pos:String} {after:Array Edge} {guard:Option (Nat×Bool)} {id st len:Nat} (hx:R ok w s.H β s.nx (.sl id st 0 len) (a.eval x)) (hy:R ok w s.H β s.nx (s.ev y) (a.eval y))
  (hex:(execOp a.eval ⟨dst,.call c,ty,pos,after,guard⟩)=(do pure (.value (<-Builtin.append_ #[t,t] ty #[a.eval x,a.eval y])))) {cd:Option Prop} {r:St×PV} (hmet:Met cd)
  (e:gv P s t id st len (s.ev y)=some (cd,r)):Acts P G n w0 ok a w ⟨dst,.call c,ty,pos,after,guard⟩ r:=by
 simp only [gv,Option.bind_eq_some_iff] at e;obtain⟨el,hel,ti,hti,b,hb,ys,hys,e⟩:=e;have hu:P.underlying t=some (.slice el):=by
  unfold elemOf at hel;split at hel
  ·rename_i q hq;simp only [Option.some.injEq] at hel;subst hel;exact hq
  ·simp at hel
 split at e
 ·rename_i hcond
  obtain⟨hsz,hes,hbox⟩:=hcond;simp only [Option.some.injEq,Prod.mk.injEq] at e;obtain⟨rfl,rfl⟩:=e;obtain⟨hle,h0⟩:=hmet _ rfl;obtain⟨ad,c2,us,hv,hn,hul,hyl,hcell,hone,hR⟩:=R.row h hsz hy hys;have hb':=(aO hb).1;have hst:=hx.st_lt;obtain⟨e3,e4⟩:=hx.sl_inv hb;have e3:a.eval x=sub b.es 0 len (β id):=e3.resolve_right λq=>q.1 rfl;rcases h.heap.slice_of hb' with ⟨_,e6⟩|⟨g,c1,e5,e6,_⟩
  ·omega
  have hvx:a.eval x=.slice (some ⟨g,0,none⟩) len c1:=by rw [e3,e5];simp [sub,Addr.add_mid]
  rw [<-hes] at hul hR hyl;obtain⟨q1,q2⟩:=pt h hb' e5 (i0:=len) (k:=ys.1) hle ys.2 us hul hbox hyl hR;refine⟨.value (.slice (some ⟨g,0,none⟩) (len+ys.1) c1),.slice (some ⟨g,0,none⟩) (len+ys.1) c1,_,β,?_,.inl rfl,q1,?_,nofun⟩
  ·rw [hex,hvx,hv];cases ad with
   |none =>
    have h1:=hn rfl;rw [h1] at hul ⊢;obtain rfl:us=[]:=List.eq_nil_of_length_eq_zero (by simpa using hul);have:=iG (P:=P) (w:=w) (ty:=ty) (b:=some ⟨g,0,none⟩) (ad:=none) (k:=len) (c:=c1) (c2:=c2) hu hti (by omega);simp [this,World.setCells]
   |some b1 =>
    have:=run_append_room_cells (P:=P) (ty:=ty) w t el ti hu hti g 0 len c1 b1 ys.1 c2 us (by rw [hul,hes]) (hcell b1 rfl) hone (by omega) (λj hj=>by rw [Nat.zero_add,<-hes];exact(q2 j hj).1) (λj hj=>by rw [Nat.zero_add,<-hes];exact(q2 j hj).2);rw [Nat.zero_add,<-hes] at this;simp [this]
  ·refine .sl _ _ _ _ _ rfl hst λb2 hb2=>?_;have hid:id < s.H.length:=(List.getElem?_eq_some_iff.1 hb').1;simp only [dX,List.getElem?_set_self hid,(aO hb).2,if_true,Option.some.injEq] at hb2;subst hb2;refine⟨.inl ?_,by simpa using hle⟩;rw [e5];simp [sub,Addr.add_mid]
 ·simp at e
theorem mB (w:World) (t e ty:TypeId) (z:Value) (ht:P.underlying t=some (.slice e)) (hv:∀w,(zeroValue e).run P w=.ok z w) (g o m c:Nat)
  (us:List Value) (hus:us=(Builtin.zeroCells z.cells m).toList) (hc:∀j,j < us.length->(w.cell? ⟨g,o+j,none⟩).isSome=true) (hf:∀j,j < us.length->w.frozen? ⟨g,o+j,none⟩=false) (hone:∀v∈us,v.oneCell'=true) (hm:0 < m) :
  (Builtin.clear_ #[t] ty #[.slice (some ⟨g,o,none⟩) m c]).run P w=.ok (.tuple #[]) (w.setCells g o us):=by
 have hst:=run_storeCells_cells (P:=P) g o us 0 w (by simpa using hc) (by simpa using hf) hone;simp only [Nat.add_zero] at hst;obtain⟨k,rfl⟩:∃k,m=k+1:=⟨m - 1,by omega⟩;simp [Builtin.clear_,run_underlying ht,hv,<-hus,hst]
theorem pu (h:Rel G n w0 ok a w s β) {dst:Option Tmp} {c:Call} {ty t:TypeId} {x:Operand} {pos:String} {after:Array Edge} {guard:Option (Nat×Bool)} (hx:R ok w s.H β s.nx (s.ev x) (a.eval x))
  (hex:(execOp a.eval ⟨dst,.call c,ty,pos,after,guard⟩)=(do pure (.value (<-Builtin.clear_ #[t] ty #[a.eval x])))) {cd:Option Prop} {r:St×PV} (hmet:Met cd)
  (e:lm P s t (s.ev x)=some (cd,r)):Acts P G n w0 ok a w ⟨dst,.call c,ty,pos,after,guard⟩ r:=by
 unfold lm at e;split at e
 ·rename_i id st lo len hpx
  simp only [Option.bind_eq_some_iff] at e;obtain⟨el,hel,cs,hcs,b,hb,e⟩:=e;have hu:P.underlying t=some (.slice el):=by
   unfold elemOf at hel;split at hel
   ·rename_i q hq;simp only [Option.some.injEq] at hel;subst hel;exact hq
   ·simp at hel
  obtain⟨z,hz,hzr⟩:=pp hcs;split at e
  ·rename_i hcond
   obtain⟨hzl,hes,hbox,hcl⟩:=hcond;simp only [Option.some.injEq,Prod.mk.injEq] at e;obtain⟨rfl,rfl⟩:=e;have h0:0 < b.n:=hmet _ rfl;have hb':=(aO hb).1;rw [hpx] at hx;obtain⟨e3,e4⟩:=hx.sl_inv hb;rcases h.heap.slice_of hb' with ⟨_,e6⟩|⟨g,c1,e5,e6,_⟩
   ·omega
   have hzs:z.cells.size=b.es:=by rw [<-hzl,hz];simp
   have hzo:∀v∈z.cells.toList,v.oneCell'=true:=λv hv=>by
    have:=List.all_eq_true.1 hcl (.val v) (by rw [hz];exact List.mem_map_of_mem hv);exact(R.one (ok:=ok) (w:=w) (β:=β) (H:=s.H) (nx:=s.nx) (.val v) this)
   obtain⟨us,hus⟩:∃us,us=(Builtin.zeroCells z.cells len).toList:=⟨_,rfl⟩;have hul:us.length=len*b.es:=by rw [hus,<-hzs];simp [Builtin.zeroCells]
   have hug:∀i f,i < len->f < b.es->us[i*b.es+f]? = z.cells[f]?:=λi f hi hf=>by
    have h1:(i*b.es+f)%b.es=f:=by rw [Nat.mul_comm,Nat.mul_add_mod,Nat.mod_eq_of_lt hf]
    have h2:=fX hf hi;rw [hus];have h3:f < z.cells.size:=by omega
    simp only [Builtin.zeroCells,hzs,Array.getElem?_toList,Array.getElem?_map,Array.getElem?_range,h2,if_true,Option.map_some,h1];rw [getElem!_pos z.cells f h3,Array.getElem?_eq_getElem h3]
   obtain⟨q1,q2⟩:=pt h hb' e5 (i0:=lo) (k:=len) e4 (λ_=>cs) us hul hbox (λi hi=>⟨hzl,λp hp=>List.all_eq_true.1 hcl p hp⟩) (λi f p hi hp=>by
    have hf:f < b.es:=by rw [<-hzl];exact(List.getElem?_eq_some_iff.1 hp).1
    rw [hz,List.getElem?_map] at hp;obtain⟨v,hv,rfl⟩:=Option.map_eq_some_iff.1 hp;exact⟨v,by rw [hug i f hi hf,<-hv];simp,.val v⟩)
   have hone:∀v∈us,v.oneCell'=true:=λv hv=>by
    obtain⟨j,hj,rfl⟩:=List.getElem_of_mem hv;have hj':=hj;rw [hul] at hj';have h1:j / b.es < len:=by rw [Nat.div_lt_iff_lt_mul hes];exact hj'
    have h2:=hug (j / b.es) (j%b.es) h1 (Nat.mod_lt _ hes);rw [Nat.mul_comm,Nat.div_add_mod,List.getElem?_eq_getElem hj] at h2;exact hzo _ (by rw [Array.mem_toList_iff];exact Array.mem_of_getElem? h2.symm)
   refine⟨.value (.tuple #[]),.tuple #[],_,β,?_,.inl rfl,q1,.val _,nofun⟩;rw [hex];rcases Nat.eq_zero_or_pos len with hl|hl
   ·subst hl;obtain rfl:us=[]:=List.eq_nil_of_length_eq_zero (by simpa using hul);obtain⟨ad,c3,hvx⟩:∃ad c3,a.eval x=.slice ad 0 c3:=by
     rcases e3 with e3|⟨_,_,ad,e3⟩
     ·rw [e5] at e3;exact⟨_,_,e3⟩
     ·exact⟨_,_,e3⟩
    have:∀ty,(Builtin.clear_ #[t] ty #[.slice ad 0 c3]).run P w=.ok (.tuple #[]) w:=λty=>by cases ad<;>simp [Builtin.clear_,run_underlying hu]
    simp [hvx,this,World.setCells]
   ·have hvx:a.eval x=.slice (some ⟨g,lo*b.es,none⟩) len (c1 - lo):=by
     rcases e3 with e3|⟨_,q,_⟩
     ·rw [e3,e5];simp [sub,Addr.add_mid]
     ·omega
    have:=mB (P:=P) w t el ty z hu hzr g (lo*b.es) len (c1 - lo) us hus (λj hj=>(q2 j hj).1) (λj hj=>(q2 j hj).2) hone hl;simp [hvx,this]
  ·simp at e
 ·simp at e
theorem nI (h:Rel G n w0 ok a w s β) {dst:Option Tmp} {c:Call} {ty:TypeId} {pos:String} {after:Array Edge} {guard:Option (Nat×Bool)} (ho:∀x∈c.args,aT n x=true) {cd:Option Prop} {r:St×PV} (hmet:Met cd)
  (e:kR P s ⟨dst,.call c,ty,pos,after,guard⟩=some (cd,r)):Acts P G n w0 ok a w ⟨dst,.call c,ty,pos,after,guard⟩ r:=by
 simp only [kR] at e;split at e
 ·rename_i x y t t' hcal hargs htys
  split at e
  ·rename_i htt
   subst htt;have hargs':c.args = #[x,y]:=by rw [<-Array.toArray_toList (xs:=c.args),hargs]
   have htys':c.argTypes = #[t,t]:=by rw [<-Array.toArray_toList (xs:=c.argTypes),htys]
   have hx:=h.ev (ho x (by simp [hargs']));have hy:=h.ev (ho y (by simp [hargs']));have hex:(execOp a.eval ⟨dst,.call c,ty,pos,after,guard⟩)=(do pure (.value (<-Builtin.append_ #[t,t] ty #[a.eval x,a.eval y]))):=by
    simp [execOp,resolve,hcal,hargs',htys',invoke,builtin]
   split at e
   ·rename_i id st len hw
    unfold vz at hw;split at hw
    ·rename_i h1 h2
     split at hw
     ·simp only [Option.some.injEq,Prod.mk.injEq] at hw;obtain⟨rfl,rfl,rfl⟩:=hw;rw [h1] at hx;exact lC h hx hy hex hmet e
     ·cases hw
    ·cases hw
   simp only [kQ,Option.bind_eq_some_iff] at e;obtain⟨el,hel,ti,hti,zc,hzc,q,hq,ys,hys,e⟩:=e;have hq:=tf hq;subst hq;have hu:P.underlying t=some (.slice el):=by
    unfold elemOf at hel;split at hel
    ·rename_i q hq;simp only [Option.some.injEq] at hel;subst hel;exact hq
    ·simp at hel
   split at e
   ·rename_i hcond
    obtain⟨hzl,hsz⟩:=hcond;simp only [zeroCells,hti,Option.bind_some,Option.map_eq_some_iff] at hzc;obtain⟨z,hz,rfl⟩:=hzc;have hzs:z.cells.size=ti.size:=by simpa using hzl
    obtain⟨ad,c2,us,hv,hn,hul,hyl,hcell,hone,hR⟩:=R.row h hsz hy hys;split at e
    ·rename_i id st len hpx
     simp only [Option.bind_eq_some_iff] at e;obtain⟨b,hb,e⟩:=e;split at e
     ·rename_i hc2
      obtain⟨c3,c4,cbox,carr⟩:=hc2;simp only [Option.some.injEq,Prod.mk.injEq] at e;obtain⟨rfl,rfl⟩:=e;obtain⟨rfl,c5,c6⟩:=hmet _ rfl;have hb':=(aO hb).1;rw [hpx] at hx;obtain⟨xs,h1,h2,_,_,h3⟩:=h.heap.own id b hb';have hvx:a.eval x = β id:=by
       obtain⟨e1|⟨e1,_⟩,_⟩:=hx.sl_inv hb
       ·rcases h.heap.slice_of hb' with ⟨e4,e5⟩|⟨g,c,e4,_⟩
        ·rw [e1,e4];rfl
        ·rw [e1,e4];simp [sub,Addr.add_mid]
       ·exact absurd rfl e1
      rw [c3,c4] at h1;obtain⟨v',w',r1,r2,r3,r4⟩:=lB (P:=P) (ty:=ty) w0.heap.size (c:=c2) hu hti hz hzs hsz h1 hul hn hcell hone (by unfold maxLen;omega) c5 h.ext.size;have hT:=h.turn (w1:=w') (b.n+ys.1) (ll b.n b.get ys.2) v' (xs++us) hb' cbox carr r3 (by rw [c3,c4];exact r2) r4 (λi hi=>?_) (λi f p hi hp=>?_)
      ·refine⟨.value v',v',w',_,by rw [hex,hvx,hv];simp [r1],.inl rfl,hT,?_,nofun⟩;refine .sl _ _ _ _ _ ?_ (by simp) λb2 hb2=>?_
       ·rcases r2.2 with ⟨rfl,_⟩|⟨_,_,_,rfl,_⟩<;>rfl
       ·have hid:id < s.H.length:=(List.getElem?_eq_some_iff.1 hb').1;simp only [dX,List.getElem?_set_self hid,if_true,Option.some.injEq] at hb2;subst hb2;refine⟨.inl ?_,by simp⟩;rcases r2.2 with ⟨rfl,e9⟩|⟨g,cap,_,rfl,_⟩
        ·simp [dy,sub]
        ·simp [dy,sub,Addr.add_mid]
      ·unfold ll;split
       ·rename_i hlt;exact h2 i hlt
       ·rw [c4];exact hyl _ (by omega)
      ·have hxl:xs.length=b.n*b.es:=by have:=h1.1;rw [c4];exact this
       unfold ll at hp;split at hp
       ·rename_i hlt
        obtain⟨u,e1,_,e2⟩:=h3 i f p hlt hp;have hf:f < b.es:=by rw [<-(h2 i hlt).1];exact(List.getElem?_eq_some_iff.1 hp).1
        exact⟨u,by rw [List.getElem?_append_left (by rw [hxl];exact fX hf hlt)];exact e1,e2 cbox⟩
       ·rename_i hge
        obtain⟨u,e1,e2⟩:=hR _ f p (by omega) hp;refine⟨u,?_,e2⟩;have hge:b.n*b.es<=i*b.es:=Nat.mul_le_mul_right _ (by omega);rw [List.getElem?_append_right (by omega),hxl,<-e1,Nat.sub_mul,c4];congr 1;rw [c4] at hge;omega
     ·simp at e
    ·rename_i hpx
     simp only [Option.some.injEq,Prod.mk.injEq] at e;obtain⟨rfl,rfl⟩:=e;obtain⟨c5,c6⟩:=hmet _ rfl;have hvx:=h.evv (ho x (by simp [hargs'])) hpx;obtain⟨v',w',r1,r2,r3,r4⟩:=lB (P:=P) (ty:=ty) (w:=w) w.heap.size (c:=c2) hu hti hz hzs hsz (World.ownsRow_nil w w.heap.size el ti.size) hul hn hcell hone (by unfold maxLen;omega) (by simpa using c5) (Nat.le_refl _);simp only [Nat.zero_add,List.nil_append] at r2;refine⟨.value v',v',w',_,by rw [hex,hvx,hv];simp [r1],.inl rfl,h.new el ti.size false false ys.1 ys.2 v' us ⟨r3.os,r3.tape,r3.output,r3.size,λj hj=>r3.block j hj (by simp [Value.ownBlock])⟩ r2 hyl (by simp) (by simp) (λi f p hi hp=>?_),R.new_sl ?_,nofun⟩
     ·obtain⟨u,e1,e2⟩:=hR i f p hi hp;exact⟨u,e1,.deep _ _ e2,λ_=>e2⟩
     ·rcases r2.2 with ⟨rfl,e9⟩|⟨g,cap,_,rfl,_⟩
      ·exact .inl ⟨rfl,e9⟩
      ·exact .inr ⟨_,_,rfl⟩
    ·simp at e
   ·simp at e
  ·simp at e
 ·rename_i x t hcal hargs htys
  have hargs':c.args = #[x]:=by rw [<-Array.toArray_toList (xs:=c.args),hargs]
  have htys':c.argTypes = #[t]:=by rw [<-Array.toArray_toList (xs:=c.argTypes),htys]
  have hx:=h.ev (ho x (by simp [hargs']));have hex:(execOp a.eval ⟨dst,.call c,ty,pos,after,guard⟩)=(do pure (.value (<-Builtin.clear_ #[t] ty #[a.eval x]))):=by
   simp [execOp,resolve,hcal,hargs',htys',invoke,builtin]
  exact pu h hx hex hmet e
 ·simp at e
def tg (P:Program) (G:List (Array Value)) (n:Nat) (w0:bE) (ok:Nat->Prop) (a:Act) (w:World) (o:Oper) (r:St×PV):Prop :=
 ∃(nv:Next) (v:Value) (w':World) (β':Nat->Value) (ok':Nat->Prop),(∀k,ok k->ok' k)/\(∀k,ok' k->ok k\/w0.heap.size<=k)/\(execOp a.eval o).run P w=.ok nv w'/\(nv=.value v\/(nv=.skip/\v=undef)) /\
  Rel G n w0 ok' a w' r.1 β'/\R ok' w' r.1.H β' r.1.nx r.2 v/\(rg o.op=true->Below w.heap.size w w')/\(kS o.op=false->ok'=ok)
theorem Acts.toW {r:St×PV} (h:Acts P G n w0 ok a w o r):tg P G n w0 ok a w o r:=by
 obtain⟨nv,v,w',β',h1,h2,h3,h4,h5⟩:=h;exact⟨nv,v,w',β',ok,λ_ h=>h,λ_ h=>.inl h,h1,h2,h3,h4,h5,λ_=>rfl⟩
theorem uu (h:Rel G n w0 ok a w s β) {ps:List PV} {us:List Value} (hl:ps.length=us.length) (hR:∀(j:Nat) p,ps[j]? = some p->∃u,us[j]? = some u/\R ok w s.H β s.nx p u) {r:St×List PV} (e:frz s ps=some r) :
  ∃(ok':Nat->Prop) (β':Nat->Value),(∀k,ok k->ok' k)/\(∀k,ok' k->ok k\/w0.heap.size<=k)/\Rel G n w0 ok' a w r.1 β'/\r.2.length=ps.length/\∀(j:Nat) p,r.2[j]? = some p->∃u,us[j]? = some u/\R0 ok' w p u:=by
 simp only [frz,Option.map_eq_some_iff] at e;obtain⟨qs,hqs,rfl⟩:=e;obtain⟨β',h1,_⟩:=h.kill (ps.flatMap (cr s.H 4));obtain⟨m1,m2⟩:=bA hqs;refine⟨_,β',λk hk=>.inl hk,?_,h1,m1,λj p hj=>?_⟩
 ·rintro k (hk|⟨id,_,hid,hk⟩)
  ·exact .inl hk
  ·obtain⟨ys,e1,_⟩:=h.heap.own id s.H[id] (by simp [hid]);exact .inr (e1.lt k hk).1
 ·obtain⟨x,e1,e2⟩:=m2 j p hj;obtain⟨u,e3,e4⟩:=hR j x e1;refine⟨u,e3,dZ h.heap (λk hk=>.inl hk) 4 x p u e4 e2 λid hid hlt k hk=>.inr ⟨id,?_,hlt,hk⟩⟩;rw [List.mem_flatMap];exact⟨x,List.mem_of_getElem? e1,hid⟩
theorem kp {α : Type} {es:Nat}:∀{els:List (List α)},(∀x∈els,x.length=es)->els.flatten.length=els.length*es/\∀(i f:Nat),f < es->els.flatten[i*es+f]? = (els[i]?).bind λx=>x[f]?
 |[],_=>by simp
 |x::r,h=>by
  have hx:=h x (by simp);obtain⟨h1,h2⟩:=kp (els:=r) λy hy=>h y (by simp [hy]);refine⟨by simp [h1,hx,Nat.succ_mul];omega,λi f hf=>?_⟩;cases i with
  |zero=>simp [List.getElem?_append_left (show f < x.length by omega)]
  |succ i =>
   have:(i+1)*es+f=x.length+(i*es+f):=by rw [Nat.succ_mul,hx];omega
   simp only [List.flatten_cons];rw [this,List.getElem?_append_right (by omega),Nat.add_sub_cancel_left,h2 i f hf];simp
theorem pv (h:Rel G n w0 ok a w s β) {dst:Option Tmp} {t ty:TypeId} {len:Nat} {ps:Array (Nat×Operand)} {pos:String} {after:Array Edge} {guard:Option (Nat×Bool)} (ho:∀p∈ps,aT n p.2=true) {cd:Option Prop} {r:St×PV}
  (e:kR P s ⟨dst,.buildSlice t len ps,ty,pos,after,guard⟩=some (cd,r)):tg P G n w0 ok a w ⟨dst,.buildSlice t len ps,ty,pos,after,guard⟩ r:=by
 simp only [kR,Option.bind_eq_some_iff] at e;obtain⟨el,hel,es,hes,els,hels,fz,hfz,e⟩:=e;split at e
 ·rename_i hc
  obtain⟨c1,c2,c3,c3',c4,c4',c5⟩:=hc;simp only [Option.some.injEq,Prod.mk.injEq] at e;obtain⟨_,rfl⟩:=e;obtain⟨m1,m2⟩:=bA hels;have hplen:ps.toList.length=len:=by have:=congrArg List.length c1;simpa using this
  have hu:P.underlying t=some (.slice el):=by
   unfold elemOf at hel;split at hel
   ·rename_i q hq;simp only [Option.some.injEq] at hel;subst hel;exact hq
   ·simp at hel
  have hels':∀x∈els,x.length=es:=λx hx=>by simpa using List.all_eq_true.1 c2 x hx
  obtain⟨fl1,fl2⟩:=kp hels';have hlen:els.length=len:=by omega
  let vs:List (Nat×Value):=ps.toList.map λp=>(p.1,a.eval p.2);have hvs:∀(i:Nat) x,els[i]? = some x->∃p,ps.toList[i]? = some p/\x.length=(a.eval p.2).cells.size/\∀(j:Nat) q,x[j]? = some q->∃u,(a.eval p.2).cells[j]? = some u/\R ok w s.H β s.nx q u:=by
   intro i x hx;obtain⟨p,hp,hpc⟩:=m2 i x hx;obtain⟨q1,q2⟩:=(h.ev (ho p (by simpa using List.mem_of_getElem? hp))).cells hpc;exact⟨p,hp,q1,q2⟩
  have hsz:∀p∈vs,p.2.cells.size=es:=by
   intro p hp;simp only [vs,List.mem_map] at hp;obtain⟨q,hq,rfl⟩:=hp;obtain⟨i,hi,rfl⟩:=List.getElem_of_mem hq;have hx:=List.getElem?_eq_getElem (show i < els.length by omega);obtain⟨p,hp,q1,_⟩:=hvs i _ hx;rw [List.getElem?_eq_getElem hi] at hp;simp only [Option.some.injEq] at hp;subst hp;rw [<-q1];exact hels' _ (List.mem_of_getElem? hx)
  obtain⟨zz,hzz⟩:=Option.isSome_iff_exists.1 c5;simp only [zeroCells,Option.bind_eq_some_iff,Option.map_eq_some_iff] at hzz;obtain⟨ti,hti,z,hz,_⟩:=hzz;have ms:ti.size=es:=by simpa [cY,hti] using hes
  let c0:Array Value:=(Array.range (len*es)).map (λi=>z.cells[i%z.cells.size]!);obtain⟨cells,f1,f2,_,f4⟩:=lz es vs 0 c0 (by simp [vs,Function.comp_def,List.range_eq_range',c1,hplen]) hsz (by simp [vs,c0,hplen]);have hcs:cells.size=len*es:=by rw [f2];simp [c0]
  have hrun:(Instr.buildSlice t len (ps.map λp=>(p.1,a.eval p.2))).run P w=.ok (.slice (some ⟨w.heap.size,0,none⟩) len len) (w.alloc (.cells cells el)):=by
   have hf:Instr.fill (λi=>some (i*es,es)) c0 (List.map (λp=>(p.1,a.eval p.2)) ps.toList)=some cells:=f1;unfold Instr.buildSlice;simp [run_underlying hu,cA hes,zeroValue,run_typeInfo w hti,hz,newRow,show ¬(2^24 < len*es) by omega];split
   ·rename_i h0
    have:(Array.range (len*es)).map (λ_=>(default:Value))=c0:=by simp [c0,h0]
    rw [this,hf];simp [newObj,Sem.run]
   ·rw [show(Array.range (len*es)).map (λx=>z.cells[x%z.cells.size]!)=c0 from rfl,hf];simp [newObj,Sem.run]
  have hflat:∀(j:Nat) p,els.flatten[j]? = some p->∃u,cells.toList[j]? = some u/\R ok w s.H β s.nx p u:=by
   intro j p hj;have hjl:=(List.getElem?_eq_some_iff.1 hj).1;rcases Nat.eq_zero_or_pos es with h0|h0
   ·rw [fl1,h0] at hjl;omega
   have hjj:j / es*es+j%es=j:=by rw [Nat.mul_comm];exact Nat.div_add_mod j es
   have hf:=Nat.mod_lt j h0;rw [<-hjj,fl2 _ _ hf] at hj;simp only [Option.bind_eq_some_iff] at hj;obtain⟨x,hx,hp⟩:=hj;obtain⟨q,hq,q1,q2⟩:=hvs _ x hx;obtain⟨u,e1,e2⟩:=q2 _ p hp;have:=f4 (j / es) (q.1,a.eval q.2) (j%es) (by simp [vs,hq]) hf;rw [Nat.zero_add,hjj] at this;exact⟨u,by simpa using this.trans e1,e2⟩
  obtain⟨ok',β',k1,k2,k3,k4,k5⟩:=uu h (us:=cells.toList) (by rw [fl1,hlen];simp [hcs]) hflat hfz;have hfl:fz.2.length=len*es:=by rw [k4,fl1,hlen]
  have hV:=World.ownsRow_lit (e:=el) (size:=es) (base:=w.heap.size) w cells len (Nat.le_refl _) (by unfold maxLen;omega) hcs;have hch:=iC hfl;refine⟨.value _,_,_,_,ok',k1,k2,by simp only [execOp,Sem.run_bind];rw [hrun];rfl,.inl rfl,k3.new el es false false len (fq es fz.2) _ cells.toList ((Below.refl _ _).alloc (Nat.le_refl _) _) hV (λi hi=>⟨(hch i hi).1,λp hp=>List.all_eq_true.1 c3 p ((hch i hi).2.1 p hp)⟩) (by simp) (by simp) (λi f p hi hp=>?_),R.new_sl (.inr ⟨_,_,rfl⟩),λ_=>(Below.refl _ _).alloc (Nat.le_refl _) _,λh=>by cases h⟩;obtain⟨u,e1,e2⟩:=k5 _ p ((hch i hi).2.2 f p hp);exact⟨u,e1,.deep _ _ e2,λ_=>e2⟩
 ·simp at e
theorem uv (h:Rel G n w0 ok a w s β) (ho:∀x∈o.op.operands,aT n x=true) {cd:Option Prop} {r:St×PV} (hmet:Met cd) (e:kR P s o=some (cd,r)):tg P G n w0 ok a w o r:=by
 obtain⟨dst,op,ty,pos,after,guard⟩:=o;cases op with
 |alloc t=>exact(pq h e).toW
 |box t x=>exact(ur h (ho x (by simp [Op.operands])) e).toW
 |store t x y=>exact(pm h (ho x (by simp [Op.operands])) (ho y (by simp [Op.operands])) e).toW
 |buildSlice t len ps=>exact pv h (λp hp=>ho p.2 (by simp only [Op.operands,List.mem_toArray,List.mem_map,Array.mem_toList_iff];exact⟨p,hp,rfl⟩)) e
 |makeSlice t l c=>exact(ru h (ho l (by simp [Op.operands])) (ho c (by simp [Op.operands])) hmet e).toW
 |call c=>exact(nI h (λx hx=>ho x (by simp [Op.operands,Call.operands,hx])) hmet e).toW
 |_=>simp [kR] at e
end
end Go.Ex
namespace Go.Ex
open Go Go.RowKit
abbrev Ren:=List (Option Nat)
def rz (s:St) (σ : Ren) (p:PV) (es n:Nat) (g:Nat->List PV):Prop:=match p with
 |.rs es' n' g'=>es'=es/\n'=n/\∀i,i < n->g i=g' i
 |.val v=>v=.slice none 0 0/\n=0
 |.sl id st lo len=>some id∉σ/\∃b,dX s.H id st=some b/\b.box=false/\b.es=es/\len=n/\∀i,i < n->g i=b.get (lo+i)
 |_=>False
def vC:PV->Bool
 |.val _ | .rs .. | .rp ..=>true
 |_=>false
def rA (s:St) (σ : Ren) (p:PV) (es n:Nat) (g:Nat->List PV) (i f:Nat):Prop:=match p with
 |.rp es' n' g' i' f'=>es'=es/\n'=n/\i'=i/\f'=f/\∀i,i < n->g i=g' i
 |.ptr id st i' f'=>some id∉σ/\∃b,dX s.H id st=some b/\b.es=es/\b.n=n/\i'=i/\f'=f/\∀j,j < n->g j=b.get j/\(b.get j).all vC=true
 |_=>False
def nJ (s s':St) (σ : Ren) (p:PV) (id' st' i f:Nat):Prop:=match p with
 |.ptr id st i' f'=>σ[id']? = some (some id)/\i'=i/\f'=f/\st' < s'.nx/\∃b,dX s.H id st=some b
 |_=>False
def rB (s s':St) (σ : Ren) (p:PV) (id' st' lo len:Nat):Prop:=match p with
 |.sl id st lo' len'=>σ[id']? = some (some id)/\lo'=lo/\len'=len/\st' < s'.nx/\∃b,dX s.H id st=some b
 |.val v=>v=.slice none 0 0/\σ[id']? = some none/\lo=0/\len=0/\st' < s'.nx
 |_=>False
def ct (s s':St) (σ : Ren):Nat->PV->PV->Prop
 |_,_,.junk=>True
 |_,p,.val v=>p=.val v
 |_,p,.rs es n g=>rz s σ p es n g
 |_,p,.rp es n g i f=>rA s σ p es n g i f
 |_,p,.ptr id st i f=>nJ s s' σ p id st i f
 |_,p,.sl id st lo len=>rB s s' σ p id st lo len
 |d+1,.fn f a b,.fn f' a' b'=>f=f'/\eM (ct s s' σ d) a a'/\eM (ct s s' σ d) b b'
 |d+1,.agg a,.agg a'=>eM (ct s s' σ d) a a'
 |d+1,.tup a,.tup a'=>eM (ct s s' σ d) a a'
 |_,_,_=>False
def mL (s s':St) (σ : Ren) (o:Option Nat) (b':Blk):Prop:=match o with
 |none=>b'.st < s'.nx/\b'.n=0/\b'.box=false/\b'.arr=false
 |some id=>match s.H[id]? with
  |none=>False
  |some b=>b'.st < s'.nx/\b'.ty=b.ty/\b'.es=b.es/\b'.box=b.box/\b'.arr=b.arr/\b'.n=b.n/\match b.box with
   |true=>eM (λx y=>ct s s' σ 3 x y/\bk y=true) (b.get 0) (b'.get 0)
   |false=>∀i,i < b.n->b'.get i=b.get i
def Weak (σ : Ren) (s s':St):Prop:=(σ.filterMap id).Nodup/\eM (mL s s' σ) σ s'.H/\(∀t,ct s s' σ 3 (s.fr t) (s'.fr t))/\eM (λf f'=>∀t,ct s s' σ 3 (f t) (f' t)) s.sv s'.sv
section
variable {P:Program} {E:Env} {G:List (Array Value)} {n:Nat} {w0:bE} {ok:Nat->Prop} {a:Act} {w:World} {s s':St} {β : Nat->Value} {o:Oper} {σ : Ren}
def βW (β : Nat->Value) (σ : Ren) (j:Nat):Value:=match σ[j]? with
 |some (some id)=>β id
 |_=>.slice none 0 0
def cD (ok:Nat->Prop) (s:St) (β : Nat->Value) (σ : Ren) (k:Nat):Prop:=ok k\/∃id,id < s.H.length/\some id∉σ/\(β id).ownBlock=some k
theorem fJ (hH:eM (mL s s' σ) σ s'.H) {j:Nat} {b':Blk} (e:s'.H[j]? = some b'):b'.st < s'.nx/\((σ[j]? = some none/\b'.n=0/\b'.box=false/\b'.arr=false) \/
  ∃id b,σ[j]? = some (some id)/\s.H[id]? = some b/\b'.ty=b.ty/\b'.es=b.es/\b'.box=b.box/\b'.arr=b.arr/\b'.n=b.n/\(b.box=true->eM (λx y=>ct s s' σ 3 x y/\bk y=true) (b.get 0) (b'.get 0))/\(b.box=false->∀i,i < b.n->b'.get i=b.get i)):=by
 obtain⟨o,e1,e2⟩:=fe hH j b' e;unfold mL at e2;cases o with
 |none=>exact⟨e2.1,.inl ⟨e1,e2.2⟩⟩
 |some id =>
  simp only at e2;cases hb:s.H[id]? with
  |none=>rw [hb] at e2;exact e2.elim
  |some b =>
   rw [hb] at e2;simp only at e2;obtain⟨h1,h2,h3,h4,h5,h6,h7⟩:=e2;refine⟨h1,.inr ⟨id,b,e1,hb,h2,h3,h4,h5,h6,λhx=>?_,λhx=>?_⟩⟩
   ·rw [hx] at h7;exact h7
   ·rw [hx] at h7;exact h7
theorem R.deep_of {p:PV} {v:Value} (h:R ok w s.H β s.nx p v) (hd:vC p=true):R0 ok w p v:=by
 cases p with
 |val u=>rw [h.val_eq];exact .val u
 |rs=>exact h.rs_inv
 |rp=>exact h.rp_inv
 |_=>cases hd
theorem R.weak (h:Rel G n w0 ok a w s β) (hH:eM (mL s s' σ) σ s'.H):∀(d:Nat) (p q:PV) (v:Value),R ok w s.H β s.nx p v->ct s s' σ d p q->R (cD ok s β σ) w s'.H (βW β σ) s'.nx q v:=by
 have hok:∀k,ok k->cD ok s β σ k:=λk hk=>.inl hk;have lift:∀{p v},R0 ok w p v->R0 (cD ok s β σ) w p v:=λh=>h.later hok (λ_ _ _ h=>h);have vRs:∀{p:PV} {es m:Nat} {g:Nat->List PV} {v:Value},R ok w s.H β s.nx p v->rz s σ p es m g->R (cD ok s β σ) w s'.H (βW β σ) s'.nx (.rs es m g) v:=by
  intro p es m g v hp hw;unfold rz at hw;split at hw
  ·obtain⟨rfl,rfl,hg⟩:=hw;cases lift hp.rs_inv with
   |rs _ _ _ ad c u hl hc hm h1 h2 =>
    exact .deep _ _ (.rs _ _ g ad c u (λi hi=>by rw [hg i hi];exact hl i hi) hc hm (λi f p hi hp=>h1 i f p hi (by rw [<-hg i hi];exact hp)) (λi f p hi hp=>h2 i f p hi (by rw [<-hg i hi];exact hp)))
  ·obtain⟨rfl,rfl⟩:=hw;rw [hp.val_eq];exact .deep _ _ (.rs _ _ g none 0 (λ_ _=>undef) (λi hi=>by omega) (by omega) (by unfold maxLen;omega) (λi f p hi=>by omega) (λi f p hi=>by omega))
  ·rename_i id st lo len
   obtain⟨hid,b,hb,hbox,rfl,rfl,hg⟩:=hw;have hb':=(aO hb).1;have hlt:id < s.H.length:=(List.getElem?_eq_some_iff.1 hb').1;have hnone:∀ad,len=0->R (cD ok s β σ) w s'.H (βW β σ) s'.nx (.rs b.es len g) (.slice ad 0 0):=by
    intro ad h0;subst h0;exact .deep _ _ (.rs _ _ g ad 0 (λ_ _=>undef) (λi hi=>by omega) (by omega) (by unfold maxLen;omega) (λi f p hi=>by omega) (λi f p hi=>by omega))
   obtain⟨e1|⟨_,e1,ad,rfl⟩,e2⟩:=hp.sl_inv hb
   ·rcases h.heap.slice_of hb' with ⟨e4,e5⟩|⟨gg,c,e4,e5,e6⟩
    ·rw [e1,e4];exact hnone none (by omega)
    ·obtain⟨u,_,_,_,_,_,hl,k1,k2,k3⟩:=h.heap.cells hb' e4;have hgk:cD ok s β σ gg:=.inr ⟨id,hlt,hid,by rw [e4];rfl⟩;rw [e1,e4];simp only [sub,Addr.add_mid,Nat.zero_add];refine .deep _ _ (.rs b.es len _ _ _ (λi f=>u (lo+i) f) (λi hi=>by rw [hg i hi];exact hl (lo+i) (by omega)) (by omega) (by omega) (λi f p hi hp=>?_) (λi f p hi hp=>lift (k3 hbox (lo+i) f p (by omega) (by rw [<-hg i hi];exact hp))));refine⟨gg,lo*b.es,rfl,hgk,?_⟩;rw [<-k1 (lo+i) f p (by omega) (by rw [<-hg i hi];exact hp)];congr 2;rw [Nat.add_mul];omega
   ·exact hnone ad e1
  ·exact hw.elim
 have vRp:∀{p:PV} {es m:Nat} {g:Nat->List PV} {i f:Nat} {v:Value},R ok w s.H β s.nx p v->rA s σ p es m g i f->R (cD ok s β σ) w s'.H (βW β σ) s'.nx (.rp es m g i f) v:=by
  intro p es m g i f v hp hw;unfold rA at hw;split at hw
  ·obtain⟨rfl,rfl,rfl,rfl,hg⟩:=hw;cases lift hp.rp_inv with
   |rp _ _ _ _ _ b o u hl hb hi h1 h2 =>
    exact .deep _ _ (.rp _ _ g _ _ b o u (λi hi=>by rw [hg i hi];exact hl i hi) hb hi (λi f p hi hp=>h1 i f p hi (by rw [<-hg i hi];exact hp)) (λi f p hi hp=>h2 i f p hi (by rw [<-hg i hi];exact hp)))
  ·rename_i id st i2 f2
   obtain⟨hid,b,hb,rfl,rfl,rfl,rfl,hg⟩:=hw;have hb':=(aO hb).1;have hlt:id < s.H.length:=(List.getElem?_eq_some_iff.1 hb').1;obtain⟨gg,c,e1,hi,e2⟩:=hp.ptr_inv hb;obtain⟨u,_,_,_,_,_,hl,k1,k2,_⟩:=h.heap.cells hb' e1;have hgk:cD ok s β σ gg:=.inr ⟨id,hlt,hid,by rw [e1];rfl⟩;have key:R0 (cD ok s β σ) w (.rp b.es b.n g i2 f2) (.pointer (some ⟨gg,0+(i2*b.es+f2),none⟩)) :=
    .rp _ _ g _ _ gg 0 u (λi hi=>by rw [(hg i hi).1];exact hl i hi) hgk hi
     (λi f p hi hp=>by rw [Nat.zero_add];exact k1 i f p hi (by rw [<-(hg i hi).1];exact hp))
     (λi f p hi hp=>by
      have hq:(b.get i)[f]? = some p:=by rw [<-(hg i hi).1];exact hp
      have hd:vC p=true:=List.all_eq_true.1 (hg i hi).2 p (List.mem_of_getElem? hq);exact lift ((k2 i f p hi hq).deep_of hd))
   rw [e2];rw [Nat.zero_add] at key;exact .deep _ _ key
  ·exact hw.elim
 have vPtr:∀{p:PV} {id st i f:Nat} {v:Value},R ok w s.H β s.nx p v->nJ s s' σ p id st i f->R (cD ok s β σ) w s'.H (βW β σ) s'.nx (.ptr id st i f) v:=by
  intro p id' st' i f v hp hw;unfold nJ at hw;split at hw
  ·rename_i id st i2 f2
   obtain⟨e1,rfl,rfl,e2,b,hb⟩:=hw;refine .ptr _ _ _ _ _ (hp.one rfl) e2 λb' hb'=>?_;obtain⟨e3,e4⟩:=aO hb';obtain⟨_,⟨q1,_⟩|⟨id2,b2,q1,q2,q3,q4,q5,q6,q7,_⟩⟩:=fJ hH e3
   ·rw [e1] at q1;cases q1
   ·rw [e1] at q1;cases q1;rw [(aO hb).1] at q2;cases q2;obtain⟨g,c,m1,m2,m3⟩:=hp.ptr_inv hb;exact⟨g,c,by simp only [βW,e1];rw [q7];exact m1,by omega,by rw [q4];exact m3⟩
  ·exact hw.elim
 have vSl:∀{p:PV} {id st lo len:Nat} {v:Value},R ok w s.H β s.nx p v->rB s s' σ p id st lo len->R (cD ok s β σ) w s'.H (βW β σ) s'.nx (.sl id st lo len) v:=by
  intro p id' st' lo len v hp hw;unfold rB at hw;split at hw
  ·rename_i id st lo2 len2
   obtain⟨e1,rfl,rfl,e2,b,hb⟩:=hw;refine .sl _ _ _ _ _ (hp.one rfl) e2 λb' hb'=>?_;obtain⟨e3,e4⟩:=aO hb';obtain⟨_,⟨q1,_⟩|⟨id2,b2,q1,q2,q3,q4,q5,q6,q7,_⟩⟩:=fJ hH e3
   ·rw [e1] at q1;cases q1
   ·rw [e1] at q1;cases q1;rw [(aO hb).1] at q2;cases q2;obtain⟨m1,m2⟩:=hp.sl_inv hb;exact⟨by simp only [βW,e1];rw [q4];exact m1,by omega⟩
  ·obtain⟨rfl,e1,rfl,rfl,e2⟩:=hw;rw [hp.val_eq];refine .sl _ _ _ _ _ rfl e2 λb' hb'=>?_;obtain⟨e3,e4⟩:=aO hb';obtain⟨_,⟨q1,_⟩|⟨id2,b2,q1,_⟩⟩:=fJ hH e3
   ·exact⟨.inl (by simp only [βW,e1];rfl),by omega⟩
   ·rw [e1] at q1;cases q1
  ·exact hw.elim
 intro d
 induction d with
 |zero =>
  intro p q v hp hw;cases q with
  |junk=>exact .junk _
  |val u=>simp only [ct] at hw;subst hw;rw [hp.val_eq];exact .val _
  |rs=>exact vRs hp hw
  |rp es m g i f =>
   exact vRp hp (by simpa only [ct] using hw)
  |ptr=>exact vPtr hp hw
  |sl=>exact vSl hp hw
  |_=>cases p<;>simp [ct] at hw
 |succ d ih =>
  intro p q v hp hw;cases q with
  |junk=>exact .junk _
  |val u=>simp only [ct] at hw;subst hw;rw [hp.val_eq];exact .val _
  |rs=>exact vRs hp hw
  |rp es m g i f =>
   exact vRp hp (by simpa only [ct] using hw)
  |ptr=>exact vPtr hp hw
  |sl=>exact vSl hp hw
  |fn f as bs =>
   cases p<;>simp only [ct] at hw;obtain⟨rfl,h1,h2⟩:=hw;obtain⟨us,vs,rfl,l1,l2,k1,k2⟩:=hp.fn_inv;refine .fn _ _ _ _ _ (by rw [<-l1,da h1]) (by rw [<-l2,da h2]) (λi p u hp hu=>?_) (λi p u hp hu=>?_)
   ·obtain⟨x,e1,e2⟩:=fe h1 i p hp;exact ih x p u (k1 i x u e1 hu) e2
   ·obtain⟨x,e1,e2⟩:=fe h2 i p hp;exact ih x p u (k2 i x u e1 hu) e2
  |agg as =>
   cases p<;>simp only [ct] at hw;obtain⟨us,rfl,l1,k1⟩:=hp.agg_inv;refine .agg _ _ (by rw [<-l1,da hw]) (λi p u hp hu=>?_);obtain⟨x,e1,e2⟩:=fe hw i p hp;exact ih x p u (k1 i x u e1 hu) e2
  |tup as =>
   cases p<;>simp only [ct] at hw;obtain⟨us,rfl,l1,k1⟩:=hp.tup_inv;refine .tup _ _ (by rw [<-l1,da hw]) (λi p u hp hu=>?_);obtain⟨x,e1,e2⟩:=fe hw i p hp;exact ih x p u (k1 i x u e1 hu) e2
theorem lD:∀{σ : Ren},(σ.filterMap id).Nodup->∀{i j x:Nat},σ[i]? = some (some x)->σ[j]? = some (some x)->i=j
 |[],_,i,j,x,h,_=>by simp at h
 |o::σ,hn,i,j,x,h1,h2=>by
  have hn':(σ.filterMap id).Nodup:=by
   cases o with
   |none=>simpa using hn
   |some y=>simp at hn;exact hn.2
  have hmem:∀k:Nat,σ[k]? = some (some x)->o=some x->False:=by
   intro k hk ho;subst ho;simp only [List.filterMap_cons,id,List.nodup_cons,List.mem_filterMap,exists_eq_right] at hn;exact hn.1 (List.mem_of_getElem? hk)
  cases i with
  |zero =>
   cases j with
   |zero=>rfl
   |succ j=>exact(hmem j (by simpa using h2) (by simpa using h1)).elim
  |succ i =>
   cases j with
   |zero=>exact(hmem i (by simpa using h1) (by simpa using h2)).elim
   |succ j=>rw [lD hn' (i:=i) (j:=j) (by simpa using h1) (by simpa using h2)]
theorem lE {α β γ : Type} {r : α->β->Prop} {q : α->γ->Prop} {r' : β->γ->Prop} (h:∀x y z,r x y->q x z->r' y z):∀{xs:List α} {ys:List β} {zs:List γ},eM r xs ys->eM q xs zs->eM r' ys zs
 |[],[],[],_,_=>trivial
 |_::_,_::_,_::_,k,l=>⟨h _ _ _ k.1 l.1,lE h k.2 l.2⟩
 |[],_::_,_,k,_=>by cases k
 |_::_,[],_,k,_=>by cases k
 |[],[],_::_,_,l=>by cases l
 |_::_,_::_,[],_,l=>by cases l
theorem Rel.weak (h:Rel G n w0 ok a w s β) (hw:Weak σ s s'):Rel G n w0 (cD ok s β σ) a w s' (βW β σ):=by
 obtain⟨hn,hH,hfr,hsv⟩:=hw;have hlen:=da hH;have hβ : ∀j k,(βW β σ j).ownBlock=some k->∃id,σ[j]? = some (some id)/\(β id).ownBlock=some k:=by
  intro j k e;unfold βW at e;split at e
  ·rename_i id hid;exact⟨id,hid,e⟩
  ·simp [Value.ownBlock] at e
 have hlt:∀j id,j < s'.H.length->σ[j]? = some (some id)->id < s.H.length:=by
  intro j id hj e;obtain⟨_,⟨q1,_⟩|⟨id2,b2,q1,q2,_⟩⟩:=fJ hH (List.getElem?_eq_getElem hj)
  ·rw [e] at q1;cases q1
  ·rw [e] at q1;cases q1;exact(List.getElem?_eq_some_iff.1 q2).1
 refine⟨λt ht=>R.weak h hH 3 _ _ _ (h.fr t ht) (hfr t),h.size,h.defers,⟨λid b e=>(fJ hH e).1,λj b' e=>?_,λi j hne h1 h2=>?_,λj k h1 hk=>?_⟩,h.ext,?_,lE (λf f' tm k1 k2 t ht=>R.weak h hH 3 _ _ _ (k2 t ht) (k1 t)) hsv h.sv,λk o hp=>⟨.inl (h.pins k o hp).1,(h.pins k o hp).2⟩⟩
 ·obtain⟨_,⟨q1,q2,q3,q4⟩|⟨id,b,q1,q2,q3,q4,q5,q6,q7,q8,q9⟩⟩:=fJ hH e
  ·exact⟨[],by simp only [βW,q1,q2];exact World.ownsRow_nil _ _ _ _,λi hi=>by omega,λhx=>(by rw [q3] at hx;cases hx),λhx=>(by rw [q4] at hx;cases hx),λi f p hi=>by omega⟩
  ·obtain⟨xs,h1,h2,hb1,hb2,h3⟩:=h.heap.own id b q2;have hB : βW β σ j = β id:=by simp only [βW,q1]
   have key:∀(i f:Nat) p,i < b.n->(b'.get i)[f]? = some p->∃z,(b.get i)[f]? = some z/\(b.box=true->ct s s' σ 3 z p/\bk p=true)/\(b.box=false->z=p):=by
    intro i f p hi hp;cases hbox:b.box with
    |true =>
     have:=hb1 hbox;obtain rfl:i=0:=by omega
     obtain⟨z,e1,e2⟩:=fe (q8 hbox) f p hp;exact⟨z,e1,λ_=>e2,nofun⟩
    |false=>exact⟨p,by rw [<-q9 hbox i hi];exact hp,nofun,λ_=>rfl⟩
   refine⟨xs,by rw [hB,q3,q4,q7];exact h1,λi hi=>⟨?_,λp hp=>?_⟩,λhx=>by rw [q7];exact hb1 (q5▸hx),λhx=>by rw [hB,q7];exact hb2 (q6▸hx),λi f p hi hp=>?_⟩
   ·cases hbox:b.box with
    |true =>
     have:=hb1 hbox;obtain rfl:i=0:=by omega
     rw [<-da (q8 hbox),q4];exact(h2 0 (by omega)).1
    |false=>rw [q9 hbox i (by omega),q4];exact(h2 i (by omega)).1
   ·obtain⟨f,hf,rfl⟩:=List.getElem_of_mem hp;obtain⟨z,e1,e2,e3⟩:=key i f _ (by omega) (List.getElem?_eq_getElem hf);have hz:=(h2 i (by omega)).2 z (List.mem_of_getElem? e1);cases hbox:b.box with
    |true=>exact(e2 hbox).2
    |false=>rw [<-e3 hbox];exact hz
   ·obtain⟨z,e1,e2,e3⟩:=key i f p (by omega) hp;obtain⟨u,m1,m2,m3⟩:=h3 i f z (by omega) e1;refine⟨u,by rw [q4];exact m1,?_,λhx=>?_⟩
    ·cases hbox:b.box with
     |true=>exact R.weak h hH 3 _ _ _ m2 (e2 hbox).1
     |false =>
      have h0:=m3 hbox;rw [e3 hbox] at h0;exact .deep _ _ (h0.later (λk hk=>.inl hk) (λ_ _ _ h=>h))
    ·rw [q5] at hx;have h0:=m3 hx;rw [e3 hx] at h0;exact h0.later (λk hk=>.inl hk) (λ_ _ _ h=>h)
 ·cases hk:(βW β σ i).ownBlock with
  |none=>exact .inl rfl
  |some k =>
   right;intro hq;obtain⟨id,e1,e2⟩:=hβ i k hk;obtain⟨jd,e3,e4⟩:=hβ j k hq.symm;have hne2:id≠jd:=λe=>hne (lD hn e1 (e▸e3));rcases h.heap.inj id jd hne2 (hlt i id h1 e1) (hlt j jd h2 e3) with e|e
   ·rw [e2] at e;cases e
   ·exact e (by rw [e2,e4])
 ·obtain⟨id,e1,e2⟩:=hβ j k hk;have hid:=hlt j id h1 e1;rintro (hok|⟨id2,l2,n2,o2⟩)
  ·exact h.heap.notok id k hid e2 hok
  ·have hne:id≠id2:=λe=>n2 (e▸List.mem_of_getElem? e1);rcases h.heap.inj id id2 hne hid l2 with e|e
   ·rw [e2] at e;cases e
   ·exact e (by rw [e2,o2])
 ·rintro k (hk|⟨id,hl,_,hk⟩)
  ·exact h.oklt k hk
  ·obtain⟨xs,h1,_⟩:=h.heap.own id s.H[id] (by simp [hl]);exact(h1.lt k hk).2
theorem lF (h:Rel G n w0 ok a w s β):∀k,cD ok s β σ k->ok k\/w0.heap.size<=k:=by
 rintro k (hk|⟨id,hl,_,hk⟩)
 ·exact .inl hk
 ·obtain⟨xs,h1,_⟩:=h.heap.own id s.H[id] (by simp [hl]);exact .inr (h1.lt k hk).1
end
end Go.Ex
namespace Go.Ex
open Go Go.RowKit
section
variable {P:Program} {E:Env} {G:List (Array Value)} {n:Nat} {w0:bE} {ok:Nat->Prop} {a:Act} {w:World} {s:St} {β : Nat->Value} {o:Oper}
def jg (A:Nat->Prop) (lo hi:Nat) (Hx:Heap) (β : Nat->Value) (k:Nat):Prop :=
 A k\/(lo<=k/\k < hi/\∀id,id < Hx.length->(β id).ownBlock≠some k)
structure Res (A:Nat->Prop) (w w':World) (p:PV) (Hx:Heap) (β : Nat->Value) (v:Value):Prop where
 below:Below w.heap.size w w'
 st:∀(id:Nat) b,Hx[id]? = some b->b.st=0/\b.box=false/\b.arr=false
 own:∀(id:Nat) b,Hx[id]? = some b->∃xs,w'.ownsRow w.heap.size b.ty b.es (β id) b.n xs/\(∀i,i < b.n->(b.get i).length=b.es/\∀p∈b.get i,bk p=true) /\
  ∀(i f:Nat) p,i < b.n->(b.get i)[f]? = some p->∃u,xs[i*b.es+f]? = some u/\R0 (jg A w.heap.size w'.heap.size Hx β) w' p u
 inj:∀id id',id≠id'->id < Hx.length->id' < Hx.length->(β id).ownBlock=none\/(β id).ownBlock≠(β id').ownBlock
 val:R (jg A w.heap.size w'.heap.size Hx β) w' Hx β 1 p v
def fZ (P:Program) (f:FuncId) (args:List PV) (r:Ans):Prop:=(∀vs w,(callFunc f vs).run P w=.ok (.enter f vs) w)/\(Met r.pre ->
 ∀(A:Nat->Prop) (w:World) (vs:Array Value),(∀k,A k->k < w.heap.size)->args.length=vs.size->(∀(i:Nat) p v,args[i]? = some p->vs[i]? = some v->R0 A w p v) ->
  Calls P f vs w λe w'=>∃v β,e=.returned v/\Res A w w' r.val r.out β v)
structure lG (Z:List (Nat->PV)->bE->Prop):Prop where
 weak:∀sv sv' b,eM (λ(f f':Nat->PV)=>∀t v,f' t=.val v->f t=.val v) sv sv'->Z sv b->Z sv' b
 up:∀sv (b b':bE),b'.toWorld=b.toWorld->b'.old=b.old->(∀k o,b.pin k=some o->b'.pin k=some o)->Z sv b->Z sv b'
 old:∀sv b,Z sv b->∀k o,b.old k=some o->b.pin k=some o
def Sim (st:Bool) (Z:List (Nat->PV)->bE->Prop) (G:List (Array Value)) (n:Nat) (A:Nat->Prop) (a:Act) (w:World) (s:St):Prop :=
 ∃(b:bE) (ok:Nat->Prop) (β : Nat->Value),Z s.sv b/\Rel G n b ok a w s β/\(∀k,A k->ok k)/\(∀k,ok k->A k\/(st=false/\b.heap.size<=k))/\(st=true->a.defers=[])
def vD (st:Bool) (Z:List (Nat->PV)->bE->Prop) (G:List (Array Value)) (n:Nat) (A:Nat->Prop) (a:Act) (w:World) (s:St) (ps:List PV) (vs:List Value):Prop :=
 ∃(b:bE) (ok:Nat->Prop) (β : Nat->Value),Z s.sv b/\Rel G n b ok a w s β/\(∀k,A k->ok k)/\(∀k,ok k->A k\/(st=false/\b.heap.size<=k))/\(st=true->a.defers=[])/\ps.length=vs.length/\∀(i:Nat) p v,ps[i]? = some p->vs[i]? = some v->R ok w s.H β s.nx p v
def dP (P:Program) (f:FuncId) (T:Trans):Prop:=(∀vs w,(callFunc f vs).run P w=.ok (.enter f vs) w) /\
 ∀(Z:List (Nat->PV)->bE->Prop) (G:List (Array Value)) (n:Nat) (A:Nat->Prop) (a:Act) (w:World) (s:St) (args:List PV) (vs:Array Value) (K:PV->St->Prop),lG Z->vD false Z G n A a w s args vs.toList->T args s K ->
  Calls P f vs w λe w'=>∃v p s',e=.returned v/\K p s'/\vD false Z G n A a w' s' [p] [v]
def vF (A:Nat->Prop) (w w':World):Prop:=∀k,A k->w'.heap[k]? = w.heap[k]?
def th (P:Program) (f:FuncId) (caps:List PV) (q:gu):Prop:=(∀vs w,(callFunc f vs).run P w=.ok (.enter f vs) w)/\(Met q.pre ->
 ∀(A:Nat->Prop) (w:World) (lb:Array Value) (l:Nat) (J:Nat->World->Prop) (Jx:World->Prop),(∀k,A k->k < w.heap.size)->caps.length=lb.size->(∀(i:Nat) p v,caps[i]? = some p->lb[i]? = some v->R0 A w p v) ->
  (∀i W W',J i W->Below W.heap.size W W'->J i W')->(∀W W',Jx W->Below W.heap.size W W'->Jx W') ->
  (∀i W (vs:Array Value),i < q.n->J i W->(q.xs i).length=vs.size->(∀(j:Nat) p v,(q.xs i)[j]? = some p->vs[j]? = some v->R0 A W p v) ->
   YieldAt Fence.wide 0 P l vs W λe W'=>((e=.returned (.bool true)/\J (i+1) W')\/(e=.returned (.bool false)/\Jx W'))/\vF A W W') ->
  J 0 w->CallsIn Fence.wide 0 P f (#[.func (.yield l) #[] #[]]++lb) w λe w'=>(∃v,e=.returned v)/\(J q.n w'\/Jx w'))
def EnvOk (P:Program) (E:Env):Prop:=(∀f args r,E.call f args=some r->fZ P f args r)/\(∀f T,E.inl f=some T->dP P f T)/\∀f caps q,E.seq f caps=some q->th P f caps q
theorem Res.heap {A:Nat->Prop} {w':World} {p:PV} {Hx:Heap} {v:Value} (h:Res A w w' p Hx β v) (hA:∀k,A k->k < w.heap.size):HRel w.heap.size (jg A w.heap.size w'.heap.size Hx β) w' Hx β 1:=by
 refine⟨λid b e=>by rw [(h.st id b e).1];omega,λid b e=>?_,h.inj,λid k h1 hk=>?_⟩
 ·obtain⟨xs,h1,h2,h3⟩:=h.own id b e;obtain⟨_,q1,q2⟩:=h.st id b e;exact⟨xs,h1,h2,λhx=>(by rw [q1] at hx;cases hx),λhx=>(by rw [q2] at hx;cases hx),λi f p hx hp=>by obtain⟨u,e1,e2⟩:=h3 i f p hx hp;exact⟨u,e1,.deep _ _ e2,λ_=>e2⟩⟩
 ·obtain⟨xs,h2,_,_⟩:=h.own id Hx[id] (by simp [h1]);rintro (hA' | ⟨_,_,hn⟩)
  ·have:=hA k hA';have:=(h2.lt k hk).1;omega
  ·exact hn id h1 hk
theorem tj (nx:Nat):∀(H:Heap) (i:Nat),(vq nx H)[i]? = (H[i]?).map λb=>⟨b.ty,b.es,nx,b.box,false,b.n,b.get⟩
 |[],i=>by simp [vq]
 |b::H,0=>by simp [vq]
 |b::H,i+1=>by simp [vq,tj nx H i]
theorem iH (nx:Nat):∀(H:Heap),(vq nx H).length=H.length
 |[]=>rfl
 |b::H=>by simp [vq,iH nx H]
theorem Rel.import (h:Rel G n w0 ok a w s β) {A:Nat->Prop} {w':World} {p:PV} {Hx:Heap} {βx:Nat->Value} {v:Value} (r:Res A w w' p Hx βx v) (hA:∀k,A k->ok k) :
  ∃β',Rel G n w0 (λk=>ok k\/(w.heap.size<=k/\k < w'.heap.size/\∀id,id < Hx.length->(βx id).ownBlock≠some k)) a w' { s with H:=s.H++vq s.nx Hx,nx:=s.nx+1 } β' /\
   R (λk=>ok k\/(w.heap.size<=k/\k < w'.heap.size/\∀id,id < Hx.length->(βx id).ownBlock≠some k)) w' (s.H++vq s.nx Hx) β' (s.nx+1) (imp s.H.length s.nx p) v:=by
 generalize hF:(λk=>w.heap.size<=k/\k < w'.heap.size/\∀id,id < Hx.length->(βx id).ownBlock≠some k)=F;have hF1:∀k,F k->w.heap.size<=k/\k < w'.heap.size:=λk hk=>by rw [<-hF] at hk;exact⟨hk.1,hk.2.1⟩
 have hF2:∀k,F k↔(w.heap.size<=k/\k < w'.heap.size/\∀id,id < Hx.length->(βx id).ownBlock≠some k):=λk=>by rw [<-hF]
 have hok2:(λk=>ok k\/(w.heap.size<=k/\k < w'.heap.size/\∀id,id < Hx.length->(βx id).ownBlock≠some k))=λk=>ok k\/F k:=by funext k;rw [hF2]
 rw [hok2];have hE:∀k,jg A w.heap.size w'.heap.size Hx βx k->ok k\/F k:=λk hk=>hk.imp (hA k) λhk=>by rw [hF2];exact hk
 obtain⟨h1,_⟩:=h.widen r.below F hF1;let β':Nat->Value:=λid=>if id < s.H.length then β id else βx (id - s.H.length)
 let H':Heap:=s.H++vq s.nx Hx;have hold:∀j,j < s.H.length->∀k,(β j).ownBlock=some k->w0.heap.size<=k/\k < w.heap.size:=by
  intro j hj k hk;obtain⟨ys,e1,_⟩:=h.heap.own j s.H[j] (by simp [hj]);exact e1.lt k hk
 have hnew:∀j,j < Hx.length->∀k,(βx j).ownBlock=some k->w.heap.size<=k/\k < w'.heap.size:=by
  intro j hj k hk;obtain⟨ys,e1,_,_⟩:=r.own j Hx[j] (by simp [hj]);exact e1.lt k hk
 have hget:∀(id:Nat) b,H'[id]? = some b->(id < s.H.length/\s.H[id]? = some b/\β' id = β id)\/(s.H.length<=id/\∃b',Hx[id - s.H.length]? = some b'/\b=⟨b'.ty,b'.es,s.nx,b'.box,false,b'.n,b'.get⟩/\β' id = βx (id - s.H.length)):=by
  intro id b e;rcases Nat.lt_or_ge id s.H.length with hid|hid
  ·rw [List.getElem?_append_left hid] at e;exact .inl ⟨hid,e,by simp [β',hid]⟩
  ·rw [List.getElem?_append_right hid,tj] at e;simp only [Option.map_eq_some_iff] at e;obtain⟨b',e1,e2⟩:=e;exact .inr ⟨hid,b',e1,e2.symm,by simp [β'];omega⟩
 have hL:gy (λk=>ok k\/F k) (λk=>ok k\/F k) w' w' s.H H' β β' s.nx (s.nx+1):=by
  refine⟨by omega,λ_ h=>h,λ_ _ _ h=>h,λid st b' hst e=>?_⟩;obtain⟨e1,e2⟩:=aO e;rcases hget id b' e1 with ⟨_,q1,q2⟩|⟨_,b2,_,q2,_⟩
  ·exact⟨b',by simp [dX,q1,e2],rfl,rfl,q2⟩
  ·subst q2;simp only at e2;omega
 have lift0:∀{p v},R0 (jg A w.heap.size w'.heap.size Hx βx) w' p v->R0 (λk=>ok k\/F k) w' p v:=λh=>h.later hE (λ_ _ _ h=>h);have leaf:∀p v,R (jg A w.heap.size w'.heap.size Hx βx) w' Hx βx 1 p v->R (λk=>ok k\/F k) w' H' β' (s.nx+1) (vp s.H.length s.nx p) v:=by
  intro p v hp;cases p with
  |val u=>exact .deep _ _ (by cases hp.val_eq;exact .val _)
  |rs=>exact .deep _ _ (lift0 hp.rs_inv)
  |rp=>exact .deep _ _ (lift0 hp.rp_inv)
  |sl id st lo len =>
   simp only [vp];have hst:=hp.st_lt;obtain rfl:st=0:=by omega
   have h0:v.oneCell'=true:=hp.one rfl;refine .sl _ _ _ _ _ h0 (by omega) λb hb=>?_;obtain⟨e1,e2⟩:=aO hb;rcases hget _ b e1 with ⟨q0,_,_⟩|⟨_,b2,q1,q2,q3⟩
   ·omega
   ·rw [Nat.add_sub_cancel] at q1 q3;subst q2;have:=hp.sl_inv (b:=b2) (by simp [dX,q1,(r.st id b2 q1).1]);rw [q3];exact this
  |_=>exact .junk _
 refine⟨β',⟨λt ht=>(h1.fr t ht).later hL,h1.size,h1.defers,⟨λid b e=>?_,λid b e=>?_,λi j hne l1 l2=>?_,λid k l1 hk=>?_⟩,h1.ext,h1.oklt,cp (λf tm hf t ht=>(hf t ht).later hL) h1.sv,h1.pins⟩,?_⟩
 ·rcases hget id b e with ⟨_,q1,_⟩|⟨_,b2,_,q2,_⟩
  ·have:=h.heap.stl id b q1;simp only;omega
  ·subst q2;exact Nat.lt_succ_self _
 ·rcases hget id b e with ⟨_,q1,q2⟩|⟨_,b2,q1,q2,q3⟩
  ·obtain⟨xs,k1,k2,kb,kb2,k3⟩:=h1.heap.own id b q1;refine⟨xs,by rw [q2];exact k1,k2,kb,λhx=>by rw [q2];exact kb2 hx,λi f p hx hp=>?_⟩;obtain⟨u,e1,e2,e3⟩:=k3 i f p hx hp;exact⟨u,e1,e2.later hL,λhx=>(e3 hx).later hL.oks hL.cell⟩
  ·obtain⟨xs,k1,k2,k3⟩:=r.own _ b2 q1;have hbx:=(r.st _ b2 q1).2.1;subst q2;refine⟨xs,?_,k2,λ(hx:b2.box=true)=>absurd (hbx.symm.trans hx) (by decide),nofun,λi f p hx hp=>?_⟩
   ·rw [q3];exact⟨k1.1,k1.2.imp _root_.id λ⟨g,cap,cur,e1,e2,e3⟩=>⟨g,cap,cur,e1,Nat.le_trans h.ext.size e2,e3⟩⟩
   ·obtain⟨u,e1,e2⟩:=k3 i f p hx hp;exact⟨u,e1,.deep _ _ (lift0 e2),λ_=>lift0 e2⟩
 ·simp only [List.length_append,iH] at l1 l2;simp only [β'];by_cases hi:i < s.H.length
  ·by_cases hj:j < s.H.length
   ·simp only [hi,hj,if_true];exact h.heap.inj i j hne hi hj
   ·simp only [hi,hj,if_true,if_false];cases hk:(β i).ownBlock with
    |none=>exact .inl rfl
    |some k =>
     right;intro hq;have:=(hold i hi k hk).2;have:=(hnew _ (by omega) k hq.symm).1;omega
  ·by_cases hj:j < s.H.length
   ·simp only [hi,hj,if_true,if_false];cases hk:(βx (i - s.H.length)).ownBlock with
    |none=>exact .inl rfl
    |some k =>
     right;intro hq;have:=(hold j hj k hq.symm).2;have:=(hnew _ (by omega) k hk).1;omega
   ·simp only [hi,hj,if_false];exact r.inj _ _ (by omega) (by omega) (by omega)
 ·simp only [List.length_append,iH] at l1;simp only [β'] at hk;by_cases hi:id < s.H.length
  ·simp only [hi,if_true] at hk;exact h1.heap.notok id k hi hk
  ·simp only [hi,if_false] at hk;have hb:=hnew _ (by omega) k hk;rintro (hok|hf)
   ·have:=h.oklt k hok;omega
   ·rw [hF2] at hf;exact hf.2.2 _ (by omega) hk
 ·have hv:=r.val;cases p with
  |tup xs =>
   obtain⟨vs,rfl,l,hh⟩:=hv.tup_inv;refine .tup _ _ (by simpa using l) λi p u hp hu=>?_;simp only [List.getElem?_map,Option.map_eq_some_iff] at hp;obtain⟨x,e1,rfl⟩:=hp;exact leaf x u (hh i x u e1 hu)
  |agg xs =>
   obtain⟨vs,rfl,l,hh⟩:=hv.agg_inv;refine .agg _ _ (by simpa using l) λi p u hp hu=>?_;simp only [List.getElem?_map,Option.map_eq_some_iff] at hp;obtain⟨x,e1,rfl⟩:=hp;exact leaf x u (hh i x u e1 hu)
  |val u=>exact leaf _ _ hv
  |rs=>exact leaf _ _ hv
  |rp=>exact leaf _ _ hv
  |sl=>exact leaf _ _ hv
  |ptr=>exact leaf _ _ hv
  |fn=>exact leaf _ _ hv
  |junk=>exact leaf _ _ hv
theorem eP {H:Heap} {p:PV} {pre:Option Prop} {s s':St} {r:Option Prop×St×PV} (e:(match deep H 4 p with
   |none=>none
   |some (.val v)=>some (pre,s,.val v)
   |some q=>some (pre,s',q))=some r):∃q,deep H 4 p=some q/\(match q with
   |.val v=>(pre,s,.val v)
   |q=>(pre,s',q))=r:=by
 cases hq:deep H 4 p with
 |none=>rw [hq] at e;cases e
 |some q =>
  refine⟨q,rfl,?_⟩;rw [hq] at e;cases q<;>simpa using e
theorem iI (hE:EnvOk P E) (h:Rel G n w0 ok a w s β) {f:FuncId} {args:List PV} {vs:Array Value} (hl:args.length=vs.size)
  (hR:∀(i:Nat) p v,args[i]? = some p->vs[i]? = some v->R ok w s.H β s.nx p v) {cd:Option Prop} {r:St×PV} (hmet:Met cd) (e:eN E s f args=some (cd,r)) :
  (∀us W,(callFunc f us).run P W=.ok (.enter f us) W) /\
  Calls P f vs w λe w'=>∃v,e=.returned v/\Below w.heap.size w w'/\(∀u,r.2=.val u->E.own f=false->v=u)/\∃ok' β',Rel G n w0 ok' a w' r.1 β'/\R ok' w' r.1.H β' r.1.nx r.2 v/\(∀k,ok k->ok' k)/\∀k,ok' k->ok k\/w0.heap.size<=k:=by
 simp only [eN,Option.bind_eq_some_iff] at e;obtain⟨ds,hds,⟨pre,p,Hx⟩,hcall,e⟩:=e;obtain⟨hent,hc⟩:=hE.1 f ds _ hcall;refine⟨hent,?_⟩;generalize hids:args.flatMap (cr s.H 4)=ids at e;let A:Nat->Prop:=λk=>ok k\/∃id∈ids,id < s.H.length/\(β id).ownBlock=some k;obtain⟨m1,m2⟩:=bA hds;have hA1:∀k,ok k->A k:=λk hk=>.inl hk;obtain⟨β1,hk1,hk2⟩:=h.kill ids;have hAlt:∀k,A k->k < w.heap.size:=hk1.oklt;have hbase:∀k,A k->ok k\/w0.heap.size<=k:=by
  rintro k (hk|⟨id,_,hlt,hk⟩)
  ·exact .inl hk
  ·obtain⟨xs,h1,_⟩:=h.heap.own id s.H[id] (by simp [hlt]);exact .inr (h1.lt k hk).1
 have hext:=h.ext.size;have ok0:∀k,(∃id,id < s.H.length/\(β id).ownBlock=some k)->k < w.heap.size:=by
  rintro k ⟨id,hlt,hk⟩;obtain⟨xs,h1,_⟩:=h.heap.own id s.H[id] (by simp [hlt]);exact(h1.lt k hk).2
 have harg:∀(i:Nat) p v,ds[i]? = some p->vs[i]? = some v->R0 A w p v:=by
  intro i q v hq hv;obtain⟨x,e1,e2⟩:=m2 i q hq;exact dZ (A:=A) h.heap hA1 4 x q v (hR i x v e1 hv) e2 λid hid hlt k hk=>.inr ⟨id,by rw [<-hids];exact List.mem_flatMap.2 ⟨x,List.mem_of_getElem? e1,hid⟩,hlt,hk⟩
 have hpre:Met pre:=by
  split at e
  ·simp only [Option.some.injEq,Prod.mk.injEq] at e;rw [e.1];exact hmet
  ·obtain⟨q,_,e⟩:=eP e;split at e<;>(simp only [Prod.mk.injEq] at e;rw [e.1];exact hmet)
 refine(hc hpre A w vs hAlt (by omega) harg).mono ?_;rintro e' w' ⟨v,βx,rfl,hres⟩;refine⟨v,rfl,hres.below,?_⟩;split at e
 ·rename_i hown
  simp only [Option.some.injEq,Prod.mk.injEq] at e;obtain⟨_,rfl⟩:=e;refine⟨λu _ ho=>(by rw [hown] at ho;cases ho),?_⟩;obtain⟨β2,h1,h2⟩:=hk1.import hres (λk hk=>hk);refine⟨_,β2,h1,h2,λk hk=>.inl (.inl hk),?_⟩;rintro k (hk|hk)
  ·exact hbase k hk
  ·exact .inr (by omega)
 ·obtain⟨q,hq,e⟩:=eP e;have hq2:R0 (λk=>A k\/(w.heap.size<=k/\k < w'.heap.size)) w' q v:=by
   refine dZ (hres.heap hAlt) (λk hk=>?_) 4 p q v hres.val hq λid _ hlt k hk=>?_
   ·rcases hk with hk|⟨k1,k2,_⟩
    ·exact .inl hk
    ·exact .inr ⟨k1,k2⟩
   ·obtain⟨xs,h1,_,_⟩:=hres.own id Hx[id] (by simp [hlt]);exact .inr (h1.lt k hk)
  split at e
  ·rename_i u
   simp only [Prod.mk.injEq] at e;obtain⟨_,rfl⟩:=e;refine⟨λu' e _=>by cases e;exact hq2.val_eq,ok,β,h.below hres.below,?_,λ_ hk=>hk,λk hk=>.inl hk⟩;rw [hq2.val_eq];exact .val _
  ·rename_i hnv
   simp only [Prod.mk.injEq] at e;obtain⟨_,rfl⟩:=e;refine⟨λu' e _=>absurd e (hnv u'),?_⟩;obtain⟨h1,h2⟩:=hk1.widen hres.below (λk=>w.heap.size<=k/\k < w'.heap.size) (λk hk=>hk);refine⟨_,β1,h1,.deep _ _ hq2,λk hk=>.inl (.inl hk),?_⟩;rintro k (hk|hk)
   ·exact hbase k hk
   ·exact .inr (by omega)
end
end Go.Ex
namespace Go.Num
end Go.Num
namespace Go.Ex
end Go.Ex
