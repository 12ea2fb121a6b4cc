import Derived.RangeFuncBox
import Derived.LoopNIn
import Derived.Test.YtpfdckeipckldaaGreatProg
import Derived.KernelRfl
import Derived.Test.YtpfdckeipckldaaGreatA
set_option maxHeartbeats 8000000
set_option linter.all false
open Go Go.Ex Go.Num Go.Proofs
set_option maxRecDepth 100000
namespace Go.Ex
open Go.RowKit
structure Opt extends Ord where
 join:Code->Bool:=λ_=>false
 round:Bool:=false
def Env.plain (E:Env):Env:=match E with
 |⟨call,own,_,seq,_,strict⟩=>⟨call,own,λ_=>none,seq,none,strict⟩
def lH (s:St):St:=match s with
 |⟨fr,_,nx,sv⟩=>⟨fr,[],nx+1,sv⟩
def B1 (st:Bool) (s:St):St:=match st with
 |true=>lH s
 |false=>s
def Env.cut (E:Env) (s:St):St:=B1 E.strict s
def vG:List Tmp->List PV->(Nat->PV)->Nat->PV
 |p::ps,x::xs,f=>vG ps xs (zM f p x)
 |_,_,f=>f
def rC (ps:List Tmp) (xs:List PV) (s:St):St:=match s with
 |⟨fr,H,nx,sv⟩=>⟨vG ps xs fr,H,nx,fr::sv⟩
def Opt.inRound (D:Opt):Opt:=match D with
 |⟨o,j,_⟩=>⟨o,j,true⟩
def Env.noYield (E:Env):Env:=match E with
 |⟨call,own,inl,seq,_,strict⟩=>⟨call,own,inl,seq,none,strict⟩
abbrev uw:=Env->Opt->St->(Exit->St->Prop)->Prop
def lI (P:Program) (id:Nat) (ops:Array Oper) (draw:Bool):uw:=λE D s K=>match draw,D.all id with
 |true,some l=>cz P E ops.toList l [] s (K .normal)
 |true,none=>(match D.frz id with
  |some l=>(match E.yl with
   |none=>zN P E ops.toList l.2 l.1 [] s λs=>gx P E false ops.toList (ops.toList.drop (OT.rds l.1 l.2).len) [] s (K .normal)
   |some _=>False)
  |none=>match D.perm id with
  |some l=>cz P E.plain ops.toList l [] s λs=>gx P E false ops.toList (ops.toList.drop l.len) [] s (K .normal)
  |none=>match D.round,E.yl with
   |false,none=>gx P E (!D.draws id) ops.toList ops.toList [] s (K .normal)
   |_,_=>False)
 |false,_=>gx P E false ops.toList ops.toList [] s (K .normal)
def rD (a:Code) (va vb:uw):uw:=λE D s K=>match D.join a with
 |true=>∃(α : Type) (I : α->Prop) (S : α->St),va E D s (λe s=>match e with
   |.normal=>∃(y : α) (σ : Ren),I y/\Weak σ (E.cut s) (S y)
   |e=>K e s)/\∀y,I y->vb E D (S y) K
 |false=>va E D s λe s=>match e with
  |.normal=>vb E D s K
  |e=>K e s
def rE (c:Operand) (vx vy:uw):uw:=λE D s K=>match s.ev c with
 |.val (.bool t)=>(t=true->vx E D s K)/\(t=false->vy E D s K)
 |_=>False
def nK (id:Nat) (vb:uw):uw:=λE D s K=>vb E D s λe s=>match e with
 |.exit j=>bif j==id then K .normal s else K (.exit j) s
 |e=>K e s
def rG (vb:uw):uw:=λE D s K=>∃(α : Type) (I : α->Prop) (S : α->St) (μ : α->Nat),(∃(x : α) (σ : Ren),I x/\Weak σ (E.cut s) (S x))/\∀x,I x->vb E D (S x) λe s2=>match e with
 |.normal=>∃(y : α) (σ : Ren),I y/\μ y < μ x/\Weak σ (E.cut s2) (S y)
 |e=>K e s2
def f5 (g:Operand) (ps:Array Tmp) (vx vb:uw):uw:=λE D s K=>match D.round,E.strict,gw s g with
 |false,false,some (f,[],caps)=>match ep (deep s.H 4) caps,caps.flatMap (cr s.H 4) with
  |some ds,[]=>match E.seq f ds with
   |some q=>uj q.pre (∃(α : Type) (I:Nat->α->Prop) (S : α->St),(∃(y : α) (σ : Ren),I 0 y/\Weak σ s (S y)) /\
    (∀i y,i < q.n->I i y->(q.xs i).length=ps.size/\vx E.noYield D.inRound (rC ps.toList (q.xs i) (S y)) λe s1=>match e with
     |.normal=>vb E.noYield D.inRound s1 λe s2=>match s2 with
      |⟨_,H,nx,fr::sv⟩=>(match e with
       |.normal=>∃(z : α) (σ : Ren),I (i+1) z/\Weak σ ⟨fr,H,nx,sv⟩ (S z)
       |.ret=>K .ret ⟨fr,H,nx,sv⟩
       |.exit j=>K (.exit j) ⟨fr,H,nx,sv⟩
       |_=>False)
      |_=>False
     |_=>False) /\
    ∀y,I q.n y->K .normal (S y))
   |none=>False
  |_,_=>False
 |_,_,_=>False
noncomputable def GF (P:Program):Code->uw :=
 Code.rec (motive:=λ_=>uw)
  (λ_ _ s K=>K .normal s)
  (λid ops draw=>lI P id ops draw)
  (λa _ va vb=>rD a va vb)
  (λc _ _ vx vy=>rE c vx vy)
  (λid _ vb=>nK id vb)
  (λ_ vb=>rG vb)
  (λg ps _ _ vx vb=>f5 g ps vx vb)
  (λid _ _ s K=>K (.exit id) s)
  (λ_ _ _ _ _ _=>False)
  (λ_ _ _ _ _=>False)
  (λ_ _ _ _ _=>False)
  (λ_ _ s K=>K .ret s)
  (λ_ _ _ _ _=>False)
noncomputable def vc (P:Program) (E:Env) (D:Opt) (c:Code) (s:St) (K:Exit->St->Prop):Prop:=GF P c E D s K
section
variable {P:Program} {E:Env} {D:Opt} {G:List (Array Value)} {n:Nat} {w0:bE} {ok A:Nat->Prop} {a:Act} {w:World} {s:St} {β : Nat->Value} {o:Oper}
theorem Weak.sv {σ : Ren} {s s':St} (hw:Weak σ s s'):eM (λ(f f':Nat->PV)=>∀t v,f' t=.val v->f t=.val v) s.sv s'.sv :=
 cp (λf f' h t v e=>by have:=h t;rw [e] at this;exact this) hw.2.2.2
theorem Rel.drop (h:Rel G n w0 ok a w s β):Rel G n w0 ok a w (lH s) β:=by
 obtain⟨fr,H,nx,sv⟩:=s;have hL:gy ok ok w w H [] β β nx (nx+1):=⟨Nat.le_succ _,λ_ h=>h,λ_ _ _ h=>h,λid st b' _ e=>by simp [dX] at e⟩;exact⟨λt ht=>(h.fr t ht).later hL,h.size,h.defers,⟨by simp [lH],by simp [lH],by simp [lH],by simp [lH]⟩,h.ext,h.oklt,cp (λf tm hf t ht=>(hf t ht).later hL) h.sv,h.pins⟩
theorem Sim.weak {st:Bool} {Z:List (Nat->PV)->bE->Prop} (hZ:lG Z) (h:Sim st Z G n A a w s) {σ : Ren} {s':St} (hw:Weak σ (B1 st s) s'):Sim st Z G n A a w s':=by
 obtain⟨b,ok,β,hz,h,h1,h2,h3⟩:=h;cases st with
 |false=>exact⟨b,_,_,hZ.weak _ _ _ hw.sv hz,h.weak hw,λk hk=>.inl (h1 k hk),λk hk=>(lF h k hk).elim (h2 k) λh=>.inr ⟨rfl,h⟩,h3⟩
 |true =>
  have hd:=h.drop;refine⟨b,_,_,hZ.weak _ _ _ hw.sv (by obtain⟨_,_,_,_⟩:=s;exact hz),hd.weak hw,λk hk=>.inl (h1 k hk),?_,h3⟩;rintro k (hk|⟨id,hid,_⟩)
  ·exact h2 k hk
  ·obtain⟨_,_,_,_⟩:=s;simp [lH] at hid
theorem dD (h:bI n o=true):(∀x∈o.op.operands,aT n x=true)/\(∀d,o.dst=some d->d < n)/\∀cs b,o.op≠.select cs b:=by
 simp only [bI,Bool.and_eq_true] at h;obtain⟨⟨h1,h2⟩,h3⟩:=h;refine⟨λx hx=>?_,λd hd=>?_,λcs b he=>?_⟩
 ·have:=Array.all_eq_true'.1 h1 x hx;cases x<;>simp_all [aT]
 ·rw [hd] at h2;simpa using h2
 ·rw [he] at h3;simp at h3
theorem eS (h:Rel G n w0 ok a w s β) {c:Call} (ho:∀x∈(Op.call c).operands,aT n x=true) {dst:Option Tmp} {ty:TypeId} {pos:String} {after:Array Edge} {guard:Option (Nat×Bool)} {f:FuncId} {args:List PV} (e:fc s c=some (f,args))
  (hent:∀us W,(callFunc f us).run P W=.ok (.enter f us) W) :
  ∃vs,(∀W,(execOp a.eval ⟨dst,.call c,ty,pos,after,guard⟩).run P W=.ok (.enter f vs) W)/\args.length=vs.size/\∀(i:Nat) p v,args[i]? = some p->vs[i]? = some v->R ok w s.H β s.nx p v:=by
 simp only [fc] at e;split at e
 ·rename_i x hcal
  simp only [Option.bind_eq_some_iff,Option.some.injEq,Prod.mk.injEq] at e;obtain⟨⟨f',pre,post⟩,hf,rfl,rfl⟩:=e;have hx:=h.ev (ho x (by simp [Op.operands,Call.operands,hcal]));have hfun:∃us vs,a.eval x=.func (.func f') us vs/\pre.length=us.size/\post.length=vs.size/\(∀(i:Nat) p u,pre[i]? = some p->us[i]? = some u->R ok w s.H β s.nx p u)/\∀(i:Nat) p u,post[i]? = some p->vs[i]? = some u->R ok w s.H β s.nx p u:=by
   unfold gw at hf;split at hf
   ·rename_i k first caps hp
    simp only [Option.some.injEq,Prod.mk.injEq] at hf;obtain⟨rfl,rfl,rfl⟩:=hf;rw [hp] at hx;refine⟨first,caps,hx.val_eq,by simp,by simp,λi p u hp hu=>?_,λi p u hp hu=>?_⟩
    ·simp only [List.getElem?_map,Array.getElem?_toList,hu,Option.map_some,Option.some.injEq] at hp;rw [<-hp];exact .val _
    ·simp only [List.getElem?_map,Array.getElem?_toList,hu,Option.map_some,Option.some.injEq] at hp;rw [<-hp];exact .val _
   ·rename_i k first caps hp
    simp only [Option.some.injEq,Prod.mk.injEq] at hf;obtain⟨rfl,rfl,rfl⟩:=hf;rw [hp] at hx;obtain⟨us,vs,e1,l1,l2,h1,h2⟩:=hx.fn_inv;exact⟨us,vs,e1,l1,l2,h1,h2⟩
   ·simp at hf
  obtain⟨us,vs,hv,l1,l2,h1,h2⟩:=hfun
  have hargs:∀(i:Nat) p v,(c.args.toList.map s.ev)[i]? = some p->(c.args.map a.eval)[i]? = some v->R ok w s.H β s.nx p v:=by
   intro i p v hp hu;simp only [List.getElem?_map,Array.getElem?_toList,Array.getElem?_map,Option.map_eq_some_iff] at hp hu;obtain⟨y,hy,rfl⟩:=hp;obtain⟨z,hz,rfl⟩:=hu;rw [hy] at hz;cases hz;exact h.ev (ho y (by simp [Op.operands,Call.operands,Array.mem_of_getElem? hy]))
  refine⟨us++c.args.map a.eval++vs,λW=>by simp [execOp,resolve,hcal,hv,Deferred.ofValue,invoke,hent],by simp;omega,λi p v hp hu=>?_⟩;simp only at hp;rw [List.getElem?_append] at hp;rw [Array.getElem?_append] at hu;simp only [List.length_append,List.length_map,Array.length_toList,Array.size_append,Array.size_map,l1] at hp hu;split at hp
  ·rename_i hi
   rw [if_pos hi] at hu;rw [List.getElem?_append] at hp;rw [Array.getElem?_append] at hu;rw [l1] at hp;split at hp
   ·rename_i hi2
    rw [if_pos hi2] at hu;exact h1 i p v hp hu
   ·rename_i hi2
    rw [if_neg hi2] at hu;exact hargs _ p v hp hu
  ·rename_i hi
   rw [if_neg hi] at hu;exact h2 _ p v hp hu
 ·simp at e
def SameFr (d:Option Tmp) (s s':St):Prop:=∀t,d≠some t->s'.fr t=s.fr t
theorem SameFr.put {d:Option Tmp} {s s':St} (h:s'.fr=s.fr) (p:PV):SameFr d s (s'.put d p):=by
 intro t ht;cases d with
 |none=>exact congrFun h t
 |some k =>
  have:t≠k:=λe=>ht (by rw [e]);obtain⟨fr,H,nx,sv⟩:=s';simp only [St.put,lq this];exact congrFun h t
theorem zP {ps:List PV} {r:St×List PV} (e:frz s ps=some r):r.1.fr=s.fr:=by
 simp only [frz,Option.map_eq_some_iff] at e;obtain⟨_,_,rfl⟩:=e;exact kU _ _
theorem lJ {t:TypeId} {cs:List PV} {r:St×PV} (e:fu P s t cs=some r):r.1.fr=s.fr:=by
 simp only [fu,Option.bind_eq_some_iff] at e;obtain⟨_,_,e⟩:=e;split at e
 ·simp only [Option.some.injEq] at e;subst e;rfl
 ·simp at e
theorem zQ {r:Option Prop×St×PV} (e:kR P s o=some r):r.2.1.fr=s.fr:=by
 obtain⟨dst,op,ty,pos,after,guard⟩:=o;cases op<;>simp only [kR,reduceCtorEq] at e
 case alloc =>
  simp only [Option.bind_eq_some_iff,Option.map_eq_some_iff] at e;obtain⟨_,_,_,e,rfl⟩:=e;exact lJ e
 case box =>
  simp only [Option.bind_eq_some_iff,Option.map_eq_some_iff] at e;obtain⟨_,_,_,e,rfl⟩:=e;exact lJ e
 case store =>
  split at e
  ·simp only [Option.bind_eq_some_iff] at e;obtain⟨_,_,_,_,e⟩:=e;split at e
   ·simp only [Option.map_eq_some_iff] at e;obtain⟨_,_,rfl⟩:=e;rfl
   ·simp at e
  ·simp at e
 case buildSlice =>
  simp only [Option.bind_eq_some_iff] at e;obtain⟨_,_,_,_,_,_,_,hz,e⟩:=e;split at e
  ·simp only [Option.some.injEq] at e;subst e;exact zP hz
  ·simp at e
 case makeSlice =>
  simp only [Option.bind_eq_some_iff] at e;obtain⟨_,_,_,_,_,_,_,_,_,_,e⟩:=e;split at e
  ·split at e
   ·simp only [Option.some.injEq] at e;subst e;rfl
   ·simp at e
  ·simp at e
 case call =>
  split at e
  ·split at e
   ·split at e
    ·simp only [gv,Option.bind_eq_some_iff] at e;obtain⟨_,_,_,_,_,_,_,_,e⟩:=e;split at e
     ·simp only [Option.some.injEq] at e;subst e;rfl
     ·simp at e
    simp only [kQ,Option.bind_eq_some_iff] at e;obtain⟨_,_,_,_,_,_,_,_,_,_,e⟩:=e;split at e
    ·split at e
     ·simp only [Option.bind_eq_some_iff] at e;obtain⟨_,_,e⟩:=e;split at e
      ·simp only [Option.some.injEq] at e;subst e;rfl
      ·simp at e
     ·simp only [Option.some.injEq] at e;subst e;rfl
     ·simp at e
    ·simp at e
   ·simp at e
  ·unfold lm at e;split at e
   ·simp only [Option.bind_eq_some_iff] at e;obtain⟨_,_,_,_,_,_,e⟩:=e;split at e
    ·simp only [Option.some.injEq] at e;subst e;rfl
    ·simp at e
   ·simp at e
  ·simp at e
theorem rH {f:FuncId} {args:List PV} {r:Option Prop×St×PV} (e:eN E s f args=some r):r.2.1.fr=s.fr:=by
 simp only [eN,Option.bind_eq_some_iff] at e;obtain⟨_,_,_,_,e⟩:=e;split at e
 ·simp only [Option.some.injEq] at e;subst e;exact kU _ _
 ·obtain⟨_,_,e⟩:=eP e;split at e
  ·subst e;rfl
  ·subst e;exact kU _ _
theorem iJ (hE:EnvOk P E) {f:FuncId} {args:List PV} {r:Option Prop×St×PV} (e:eN E s f args=some r):∀us W,(callFunc f us).run P W=.ok (.enter f us) W:=by
 simp only [eN,Option.bind_eq_some_iff] at e;obtain⟨ds,_,r',hcall,_⟩:=e;exact(hE.1 f ds _ hcall).1
def OpDoes (P:Program) (y:Bool) (o:Oper) (a:Act) (w:World) (N:Value->World->Prop):Prop :=
 (∃nv v w',(execOp a.eval o).run P w=.ok nv w'/\(nv=.value v\/(nv=.skip/\v=undef))/\N v w') \/
 (∃f vs,(execOp a.eval o).run P w=.ok (.enter f vs) w/\Calls P f vs w λe w'=>∃v,e=.returned v/\N v w') \/
 (y=true/\∃l fn tmps x b,(execOp a.eval o).run P w=.ok (.round l fn tmps x b) w/\RoundIn Fence.wide 0 P l fn tmps x b w λe w'=>∃v,e=.returned v/\N v w')
theorem OpDoes.wp {N:Value->World->Prop} {K:Act->World->Prop} {Q:Exit->Act->World->Prop} (h:OpDoes P false o a w N) (hN:∀v w',N v w'->K (a.put o.dst v) w'):o.wp P a w K Q:=by
 unfold Oper.wp;rcases h with ⟨nv,v,w',hr,hnv,h⟩|⟨f,vs,hr,h⟩|⟨h,_⟩
 ·rw [hr];rcases hnv with rfl|⟨rfl,rfl⟩
  ·rw [Oper.upon_value];exact hN _ _ h
  ·rw [Oper.upon_skip];exact hN _ _ h
 ·rw [hr,Oper.upon_enter];refine h.mono ?_;rintro e' w' ⟨v,rfl,h⟩;exact hN _ _ h
 ·cases h
def FW (rd:Option Nat):Fence:={ Fence.wide with round:=rd }
theorem OpDoes.wpIn {rd:Option Nat} {y:Bool} {N:Value->World->Prop} {K:Act->World->Prop} {Q:Exit->Act->World->Prop} (hd:∀c,o.op≠.defer c) (h:OpDoes P y o a w N) (hN:∀v w',N v w'->K (a.put o.dst v) w'):o.wpIn (FW rd) 0 P a w K Q:=by
 unfold Oper.wpIn;refine⟨λf _=>trivial,?_⟩;rw [Oper.semAt_eq _ _ _ hd];rcases h with ⟨nv,v,w',hr,hnv,h⟩|⟨f,vs,hr,h⟩|⟨_,l,fn,tmps,x,b,hr,h⟩
 ·rw [hr];rcases hnv with rfl|⟨rfl,rfl⟩
  ·rw [Oper.uponIn_value];exact hN _ _ h
  ·exact hN _ _ h
 ·rw [hr,Oper.uponIn_enter];refine⟨λh=>(by simp [FW,Fence.wide] at h),?_⟩;have h2:CallsIn Fence.wide 0 P f vs w _:=callsIn_wide.2 h;have h3:CallsIn (FW rd) 0 P f vs w λe w'=>∃v,e=.returned v/\N v w':=⟨trivial,λcs _=>h2.2 cs (room_wide _)⟩;refine CallsIn.mono h3 ?_;rintro e' w' ⟨v,rfl,h⟩;exact hN _ _ h
 ·rw [hr,Oper.uponIn_round];refine⟨λh=>(by simp [FW,Fence.wide] at h),?_⟩;have h3:RoundIn (FW rd) 0 P l fn tmps x b w λe w'=>∃v,e=.returned v/\N v w':=⟨trivial,λc cs _=>h.2 c cs (room_wide _)⟩;refine RoundIn.mono h3 ?_;rintro e' w' ⟨v,rfl,h⟩;exact hN _ _ h
def vH (P:Program) (E:Env) (Z:List (Nat->PV)->bE->Prop) (G:List (Array Value)) (A:Nat->Prop):Prop :=
 ∀l T,E.yl=some (l,T)->∀(n:Nat) (a:Act) (w:World) (s:St) (args:List PV) (vs:Array Value) (K:PV->St->Prop),vD E.strict Z G n A a w s args vs.toList->T args s K ->
  YieldAt Fence.wide 0 P l vs w λe w'=>∃v p s',e=.returned v/\K p s'/\vD E.strict Z G n A a w' s' [p] [v]
theorem pw (h:Rel G n w0 ok a w s β) {c:Call} (ho:∀x∈(Op.call c).operands,aT n x=true) {l:Nat} {args:List PV} (e:jK s c=some (l,args)) :
  ∃vs,(∀dst ty pos after guard,(execOp a.eval ⟨dst,.call c,ty,pos,after,guard⟩).run P w=(Instr.yield l vs).run P w)/\args.length=vs.size/\∀(i:Nat) p v,args[i]? = some p->vs[i]? = some v->R ok w s.H β s.nx p v:=by
 unfold jK at e;split at e
 ·rename_i x hcal
  split at e
  ·rename_i l' hx
   simp only [Option.some.injEq,Prod.mk.injEq] at e;obtain⟨rfl,rfl⟩:=e;have hv:=h.evv (ho x (by simp [Op.operands,Call.operands,hcal])) hx;refine⟨c.args.map a.eval,λdst ty pos after guard=>by simp [execOp,resolve,hcal,hv,Deferred.ofValue,invoke],by simp,λi p v hp hu=>?_⟩;simp only [List.getElem?_map,Array.getElem?_toList,Array.getElem?_map,Option.map_eq_some_iff] at hp hu;obtain⟨y,hy,rfl⟩:=hp;obtain⟨z,hz,rfl⟩:=hu;rw [hy] at hz;cases hz;exact h.ev (ho y (by simp [Op.operands,Call.operands,Array.mem_of_getElem? hy]))
  ·cases e
 ·cases e
theorem put_defers (a:Act) (d:Option Tmp) (v:Value):(a.put d v).defers=a.defers:=by cases d<;>rfl
theorem dc (s:St) (d:Option Tmp) (p:PV):(s.put d p).sv=s.sv:=by
 obtain⟨_,_,_,_⟩:=s;cases d<;>rfl
theorem f8 {d:Bool} {Kx:Bool->St->Prop} (e:iz P E d s o Kx):∀c,o.op≠.defer c:=by
 intro c hc;unfold iz at e;simp [gk,kR,jL,hc] at e
theorem zR {r:Option Prop×St×PV} (e:kR P s o=some r):r.2.1.sv=s.sv:=by
 obtain⟨dst,op,ty,pos,after,guard⟩:=o;have hmk:∀{s:St} {t:TypeId} {cs:List PV} {r:St×PV},fu P s t cs=some r->r.1.sv=s.sv:=by
  intro s t cs r e;simp only [fu,Option.bind_eq_some_iff] at e;obtain⟨_,_,e⟩:=e;split at e
  ·simp only [Option.some.injEq] at e;subst e;rfl
  ·simp at e
 cases op<;>simp only [kR,reduceCtorEq] at e
 case alloc =>
  simp only [Option.bind_eq_some_iff,Option.map_eq_some_iff] at e;obtain⟨_,_,_,e,rfl⟩:=e;exact hmk e
 case box =>
  simp only [Option.bind_eq_some_iff,Option.map_eq_some_iff] at e;obtain⟨_,_,_,e,rfl⟩:=e;exact hmk e
 case store =>
  split at e
  ·simp only [Option.bind_eq_some_iff] at e;obtain⟨_,_,_,_,e⟩:=e;split at e
   ·simp only [Option.map_eq_some_iff] at e;obtain⟨_,_,rfl⟩:=e;rfl
   ·simp at e
  ·simp at e
 case buildSlice =>
  simp only [Option.bind_eq_some_iff] at e;obtain⟨_,_,_,_,_,_,_,hz,e⟩:=e;simp only [frz,Option.map_eq_some_iff] at hz;obtain⟨_,_,rfl⟩:=hz;split at e
  ·simp only [Option.some.injEq] at e;subst e;exact kV _ _
  ·simp at e
 case makeSlice =>
  simp only [Option.bind_eq_some_iff] at e;obtain⟨_,_,_,_,_,_,_,_,_,_,e⟩:=e;split at e
  ·split at e
   ·simp only [Option.some.injEq] at e;subst e;rfl
   ·simp at e
  ·simp at e
 case call =>
  split at e
  ·split at e
   ·split at e
    ·simp only [gv,Option.bind_eq_some_iff] at e;obtain⟨_,_,_,_,_,_,_,_,e⟩:=e;split at e
     ·simp only [Option.some.injEq] at e;subst e;rfl
     ·simp at e
    simp only [kQ,Option.bind_eq_some_iff] at e;obtain⟨_,_,_,_,_,_,_,_,_,_,e⟩:=e;split at e
    ·split at e
     ·simp only [Option.bind_eq_some_iff] at e;obtain⟨_,_,e⟩:=e;split at e
      ·simp only [Option.some.injEq] at e;subst e;rfl
      ·simp at e
     ·simp only [Option.some.injEq] at e;subst e;rfl
     ·simp at e
    ·simp at e
   ·simp at e
  ·unfold lm at e;split at e
   ·simp only [Option.bind_eq_some_iff] at e;obtain⟨_,_,_,_,_,_,e⟩:=e;split at e
    ·simp only [Option.some.injEq] at e;subst e;rfl
    ·simp at e
   ·simp at e
  ·simp at e
theorem rI {f:FuncId} {args:List PV} {r:Option Prop×St×PV} (e:eN E s f args=some r):r.2.1.sv=s.sv:=by
 simp only [eN,Option.bind_eq_some_iff] at e;obtain⟨_,_,_,_,e⟩:=e;split at e
 ·simp only [Option.some.injEq] at e;subst e;generalize hk:s.kill _=s1;have:=kV s (args.flatMap (cr s.H 4));rw [hk] at this;exact this
 ·obtain⟨_,_,e⟩:=eP e;split at e
  ·subst e;rfl
  ·subst e;exact kV _ _
theorem gX {Z:List (Nat->PV)->bE->Prop} (hE:EnvOk P E) (hZ:lG Z) (hY:vH P E Z G A) (h:Sim E.strict Z G n A a w s) (ho:bI n o=true) {d:Bool} {Kx:Bool->St->Prop} (e:iz P E d s o Kx) :
  OpDoes P E.yl.isSome o a w λv w'=>(rh o.op=true->(∀f,E.inl f=none)->E.yl=none->Below w.heap.size w w')/\∃ch s',Kx ch s'/\(ch=false->SameFr o.dst s s')/\Sim E.strict Z G n A (a.put o.dst v) w' s':=by
 obtain⟨b,ok,β,hz,h,hA1,hA2,hA3⟩:=h;have hA3':∀v,E.strict=true->(a.put o.dst v).defers=[]:=λv hs=>by rw [put_defers];exact hA3 hs
 obtain⟨ho1,ho2,ho3⟩:=dD ho;unfold iz at e;split at e
 ·rename_i r hp
  obtain⟨hm,e⟩:=dm.1 e;simp only [PV.to_eq,St.to_eq,St.toH_eq] at e;obtain⟨v,hv,hrun⟩:=jP h ho1 hm hp;exact .inl ⟨_,v,w,hrun w (Below.refl _ _),.inl rfl,λ_ _ _=>Below.refl _ _,_,_,e,λ_=>SameFr.put rfl _,b,ok,β,by rw [dc];exact hz,h.put o.dst hv,hA1,hA2,hA3' v⟩
 ·split at e
  ·rename_i r hr
   obtain⟨nv,v,w',β',ok',k1,k2,hrun,hnv,h1,h2,h3,h4⟩:tg P G n b ok a w o r.2:=uv h ho1 (by
    split at e
    ·exact e.elim
    ·exact(dm.1 e).1) hr
   have hok:∀k,ok' k->A k\/(E.strict=false/\b.heap.size<=k):=by
    intro k hk;split at e
    ·exact e.elim
    ·rename_i hne
     cases hs:E.strict with
     |false=>exact(k2 k hk).elim (λh=>by have:=hA2 k h;rw [hs] at this;exact this) λh=>.inr ⟨rfl,h⟩
     |true =>
      have hb:kS o.op=false:=by
       cases hb:kS o.op with
       |false=>rfl
       |true=>exact(hne hs hb).elim
      rw [h4 hb] at hk;have:=hA2 k hk;rw [hs] at this;exact this
   have e':Kx false (r.2.1.put o.dst r.2.2):=by
    split at e
    ·exact e.elim
    ·have e:=(dm.1 e).2;simpa only [PV.to_eq,St.to_eq,St.toH_eq] using e
   refine .inl ⟨nv,v,w',hrun,hnv,λhg _ _=>h3 ?_,_,_,e',λ_=>SameFr.put (zQ hr) _,b,ok',β',by rw [dc,zR hr];exact hz,h1.put o.dst h2,λk hk=>k1 k (hA1 k hk),hok,hA3' v⟩;unfold rh at hg;rcases(Bool.or_eq_true _ _).mp hg with hg|hg
   ·exact hg
   ·exfalso;obtain⟨dst,op,ty,pos,after,guard⟩:=o;cases op<;>simp [kR] at hr hg;split at hr
    ·rename_i hcal _ _
     rw [hcal] at hg;simp at hg
    ·rename_i hcal _ _
     rw [hcal] at hg;simp at hg
    ·simp at hr
  ·split at e
   ·exact e.elim
   ·rename_i c hc
    obtain⟨dst,op,ty,pos,after,guard⟩:=o;cases op<;>simp only [jL,Option.some.injEq,reduceCtorEq] at hc;subst hc;split at e
    ·split at e
     ·rename_i l T l' args hyl hya
      obtain⟨rfl,e⟩:=e;rw [rm] at e;obtain⟨vs,hrun,hl,hR⟩:=pw (P:=P) h ho1 hya;obtain⟨fn,tmps,x,bo,hr,hro⟩:=hY _ T hyl n a w s args vs _ ⟨b,ok,β,hz,h,hA1,hA2,hA3,by simpa using hl,λi p v hp hv=>hR i p v hp (by simpa using hv)⟩ e;refine .inr (.inr ⟨by rw [hyl];rfl,_,fn,tmps,x,bo,(hrun _ _ _ _ _).trans hr,hro.mono ?_⟩);rintro e' w' ⟨v,p,s',rfl,hk,b',ok',β',hz',h1,h3,h4,h5,_,h2⟩;simp only [PV.to_eq,St.to_eq,St.toH_eq] at hk;exact⟨v,rfl,λ_ _ h=>(by rw [hyl] at h;cases h),_,_,hk,nofun,b',ok',β',by rw [dc];exact hz',h1.put dst (h2 0 p v (by simp) (by simp)),h3,h4,λhs=>by rw [put_defers];exact h5 hs⟩
     ·exact e.elim
    ·rename_i f args hr
     split at e
     ·rename_i T hT
      obtain⟨hent,hTs⟩:=hE.2.1 f T hT;obtain⟨vs,hrun,hl,hR⟩:=eS (dst:=dst) (ty:=ty) (pos:=pos) (after:=after) (guard:=guard) h ho1 hr hent;split at e
      ·exact e.elim
      ·rename_i hd
       have hs:E.strict=false:=by
        cases hs:E.strict with
        |false=>rfl
        |true=>rw [hs] at hd;cases hd
       rw [rm] at e;refine .inr (.inl ⟨f,vs,hrun w,(hTs Z G n A a w s args vs _ hZ ⟨b,ok,β,hz,h,hA1,λk hk=>by have:=hA2 k hk;rw [hs] at this;exact this,nofun,by simpa using hl,λi p v hp hv=>hR i p v hp (by simpa using hv)⟩ e).mono ?_⟩);rintro e' w' ⟨v,p,s',rfl,hk,b',ok',β',hz',h1,h3,h4,_,_,h2⟩;simp only [PV.to_eq,St.to_eq,St.toH_eq] at hk;exact⟨v,rfl,λ_ hi _=>(by rw [hi f] at hT;cases hT),_,_,hk,nofun,b',ok',β',by rw [dc];exact hz',h1.put dst (h2 0 p v (by simp) (by simp)),h3,λk hk=>by rw [hs];exact h4 k hk,λh=>by rw [hs] at h;cases h⟩
     ·split at e
      ·exact e.elim
      ·rename_i r hres
       obtain⟨cd,r⟩:=r;simp only at e;split at e
       ·rename_i hd
        have hs:E.strict=false:=by
         cases hs:E.strict with
         |false=>rfl
         |true=>rw [hs] at hd;cases hd
        obtain⟨hm,e⟩:=dm.1 e;simp only [PV.to_eq,St.to_eq,St.toH_eq] at e;obtain⟨vs,hrun,hl,hR⟩:=eS (dst:=dst) (ty:=ty) (pos:=pos) (after:=after) (guard:=guard) h ho1 hr (iJ hE hres);obtain⟨_,hcalls⟩:=iI hE h hl hR hm hres;refine .inr (.inl ⟨f,vs,hrun w,hcalls.mono ?_⟩);rintro e' w' ⟨v,rfl,hb,_,ok',β',h1,h2,h3,h4⟩;exact⟨v,rfl,λ_ _ _=>hb,_,_,e,λ_=>SameFr.put (rH hres) _,b,ok',β',by rw [dc,rI hres];exact hz,h1.put dst h2,λk hk=>h3 k (hA1 k hk),λk hk=>(h4 k hk).elim (hA2 k) λh=>.inr ⟨hs,h⟩,λh=>by rw [hs] at h;cases h⟩
       ·rename_i v _ hv
        split at e
        ·rename_i hown
         obtain⟨hm,e⟩:=dm.1 e;simp only [PV.to_eq,St.to_eq,St.toH_eq] at e;obtain⟨vs,hrun,hl,hR⟩:=eS (dst:=dst) (ty:=ty) (pos:=pos) (after:=after) (guard:=guard) h ho1 hr (iJ hE hres);obtain⟨_,hcalls⟩:=iI hE h hl hR hm hres;refine .inr (.inl ⟨f,vs,hrun w,hcalls.mono ?_⟩);rintro e' w' ⟨u,rfl,hb,hu,_⟩;exact⟨u,rfl,λ_ _ _=>hb,_,_,e,λ_=>SameFr.put rfl _,b,ok,β,by rw [dc];exact hz,(h.below hb).put dst (by rw [hu v hv hown];exact .val v),hA1,hA2,hA3' u⟩
        ·exact e.elim
       ·exact e.elim
theorem rJ (hE:EnvOk P E) (hyl:E.yl=none) (h:Rel G n w0 ok a w s β) (ho:bI n o=true) (hq:i8 o.op=true) {Kx:Bool->St->Prop} (e:iz P E true s o Kx) :
  ∃v s',Kx false s'/\SameFr o.dst s s'/\s'.sv=s.sv/\(∀W,Below w.heap.size w W->o.quietAt P a (λW=>Below w.heap.size w W) W v)/\Rel G n w0 ok (a.put o.dst v) w s' β:=by
 obtain⟨ho1,ho2,ho3⟩:=dD ho;unfold iz at e;split at e
 ·rename_i r hp
  obtain⟨hm,e⟩:=dm.1 e;simp only [PV.to_eq,St.to_eq,St.toH_eq] at e;obtain⟨v,hv,hrun⟩:=jP h ho1 hm hp;refine⟨v,_,e,SameFr.put rfl _,dc _ _ _,λW hW=>?_,h.put o.dst hv⟩;unfold Oper.quietAt;rw [hrun W hW];exact⟨rfl,rfl⟩
 ·split at e
  ·rename_i r hr
   exfalso;obtain⟨dst,op,ty,pos,after,guard⟩:=o;cases op<;>simp [kR,i8] at hr hq;split at hr
   ·rename_i hcal _ _
    rw [hcal] at hq;simp at hq
   ·rename_i hcal _ _
    rw [hcal] at hq;simp at hq
   ·simp at hr
  ·split at e
   ·exact e.elim
   ·rename_i c hc
    split at e
    ·rw [hyl] at e;exact e.elim
    ·rename_i f args hr
     obtain⟨dst,op,ty,pos,after,guard⟩:=o;cases op<;>simp only [jL,Option.some.injEq,reduceCtorEq] at hc;subst hc;have hdd:(bif E.strict then true else true)=true:=by cases E.strict<;>rfl
     rw [hdd] at e;split at e
     ·simp only at e
     ·split at e
      ·exact e.elim
      ·rename_i r hres
       obtain⟨cd,r⟩:=r;simp only at e;split at e
       ·contradiction
       ·rename_i v _ hv
        split at e
        ·rename_i hown
         obtain⟨hm,e⟩:=dm.1 e;simp only [PV.to_eq,St.to_eq,St.toH_eq] at e;refine⟨v,_,e,SameFr.put rfl _,dc _ _ _,λW hW=>?_,h.put dst (.val v)⟩;obtain⟨vs,hrun,hl,hR⟩:=eS (dst:=dst) (ty:=ty) (pos:=pos) (after:=after) (guard:=guard) (h.below hW) ho1 hr (iJ hE hres);obtain⟨_,hcalls⟩:=iI hE (h.below hW) hl hR hm hres;unfold Oper.quietAt;rw [hrun W];refine⟨rfl,hcalls.mono ?_⟩;rintro e' w' ⟨u,rfl,hb,hu,_⟩;exact⟨by rw [hu v hv hown],hW.trans (hb.mono hW.size)⟩
        ·exact e.elim
       ·exact e.elim
theorem dE (h:Rel G n w0 ok a w s β) {ops:Array Oper} (hops:∀o∈ops,bI n o=true) {kn:List (Nat×Bool)} {yes no:List (Nat×Bool)->St->Prop} (hkn:∀t b,kn.lookup t=some b->s.fr t=.val (.bool b))
  (e:gU ops.toList kn s o yes no) :
  ∃kn' s',s'.sv=s.sv/\Rel G n w0 ok a w s' β/\(∀t b,kn'.lookup t=some b->s'.fr t=.val (.bool b)) /\
   ((Region.wanted o (yielded ops a.tmps)=true/\yes kn' s')\/(Region.wanted o (yielded ops a.tmps)=false/\no kn' s')):=by
 unfold gU at e;unfold Region.wanted;split at e
 ·rename_i hg
  exact⟨kn,s,rfl,h,hkn,.inl ⟨by simp [hg],e⟩⟩
 ·rename_i j b hg
  split at e
  ·exact e.elim
  ·rename_i t ht
   simp only [Option.bind_eq_some_iff,Array.getElem?_toList] at ht;obtain⟨oj,hj,ht⟩:=ht;have htn:=(dD (hops oj (Array.mem_of_getElem? hj))).2.1 t ht;have hR:=h.fr t htn;have hsz:t < a.tmps.size:=by rw [h.size];exact htn
   have hget:a.tmps[t]? = some (a.tmps.getD t undef):=by simp [Array.getD,hsz]
   rw [hg];simp only [yielded,hj,Option.bind_some,ht,hget];split at e
   ·rename_i c hp
    rw [hp] at hR;rw [hR.val_eq];split at e
    ·rename_i k hk
     have:=hkn t k hk;rw [hp] at this;cases this;split at e
     ·exact⟨kn,s,rfl,h,hkn,.inl ⟨rfl,e⟩⟩
     ·exact⟨kn,s,rfl,h,hkn,.inl ⟨rfl,e⟩⟩
     ·rename_i n1 n2
      refine⟨kn,s,rfl,h,hkn,.inr ⟨?_,e⟩⟩;cases c<;>cases b<;>simp_all
    ·rename_i hk
     have put:∀b',c=b'->Rel G n w0 ok a w (s.put (some t) (.val (.bool b'))) β/\∀t' b2,((t,b')::kn).lookup t'=some b2->(s.put (some t) (.val (.bool b'))).fr t'=.val (.bool b2):=by
      rintro b' rfl;refine⟨⟨λt' ht'=>?_,h.size,h.defers,h.heap,h.ext,h.oklt,h.sv,h.pins⟩,λt' b2 e2=>?_⟩
      ·by_cases htt:t'=t
       ·subst htt;simp only [St.put,ja];rw [hR.val_eq];exact .val _
       ·simp only [St.put,lq htt];exact h.fr t' ht'
      ·simp only [List.lookup_cons] at e2;by_cases htt:t'=t
       ·subst htt;simp only [beq_self_eq_true,Option.some.injEq] at e2;simp only [St.put,ja,e2]
       ·have:(t'==t)=false:=by simpa using htt
        rw [this] at e2;simp only [St.put,lq htt];exact hkn t' b2 e2
     by_cases hcb:c=b
     ·exact⟨_,_,dc _ _ _,(put b hcb).1,(put b hcb).2,.inl ⟨by simp [hcb],e.1 hcb⟩⟩
     ·have hcb':c = !b:=by cases c<;>cases b<;>simp_all
      exact⟨_,_,dc _ _ _,(put (!b) hcb').1,(put (!b) hcb').2,.inr ⟨by simp [hcb'],e.2 hcb'⟩⟩
   ·rename_i vs hp
    rw [hp] at hR;rw [hR.val_eq];exact⟨kn,s,rfl,h,hkn,.inr ⟨rfl,e⟩⟩
   ·exact e.elim
def Known (kn:List (Nat×Bool)) (s:St):Prop:=∀t b,kn.lookup t=some b->s.fr t=.val (.bool b)
theorem gA (d:Nat):∀(kn:List (Nat×Bool)) (t:Nat) (b:Bool),(kn.filter λx=>!(x.1==d)).lookup t=some b->t≠d/\kn.lookup t=some b
 |[],t,b,h=>by simp at h
 |(k,c)::kn,t,b,h=>by
  by_cases hk:k=d
  ·subst hk;simp only [List.filter_cons,beq_self_eq_true,Bool.not_true,Bool.false_eq_true,if_false] at h;obtain⟨h1,h2⟩:=gA k kn t b h;have:(t==k)=false:=by simpa using h1
   exact⟨h1,by rw [List.lookup_cons,this];exact h2⟩
  ·have hk':(k==d)=false:=by simpa using hk
   simp only [List.filter_cons,hk',Bool.not_false,if_true] at h;rw [List.lookup_cons] at h ⊢;by_cases htk:t=k
   ·subst htk;simp only [beq_self_eq_true] at h ⊢;exact⟨hk,h⟩
   ·have htk':(t==k)=false:=by simpa using htk
    rw [htk'] at h ⊢;exact gA d kn t b h
theorem Known.step {kn:List (Nat×Bool)} {s s':St} {d:Option Tmp} (h:Known kn s) (hs:SameFr d s s'):Known (i7 d kn) s':=by
 intro t b e;cases d with
 |none=>rw [hs t (by simp)];exact h t b e
 |some d =>
  obtain⟨h1,h2⟩:=gA d kn t b e;rw [hs t (by simpa using λe=>h1 e.symm)];exact h t b h2
section
variable {Z:List (Nat->PV)->bE->Prop}
theorem dF (hE:EnvOk P E) (hZ:lG Z) (hY:vH P E Z G A) {rd:Option Nat} {ops:Array Oper} (hops:∀o∈ops,bI n o=true) {d:Bool} {Kx:St->Prop} {Q:Exit->Act->World->Prop} (hQ:∀s' a' w',Kx s'->Sim E.strict Z G n A a' w' s'->Q .normal a' w') :
  ∀(l:List Oper) (kn:List (Nat×Bool)) (s:St) (a:Act) (w:World),(∀o∈l,bI n o=true)->Known kn s->gx P E d ops.toList l kn s Kx->Sim E.strict Z G n A a w s->wpListIn (FW rd) 0 P ops Q l a w
 |[],kn,s,a,w,_,_,e,h=>hQ s a w e h
 |o::l,kn,s,a,w,ho,hk,e,h=>by
  obtain⟨b,ok,β,hz,h,h1,h2,h3⟩:=h;rw [iA] at e;obtain⟨kn',s',hsv,hr,hk',hw⟩:=dE h hops hk e;unfold wpListIn;rcases hw with ⟨hw,e⟩|⟨hw,e⟩
  ·rw [hw];simp only [if_true];refine OpDoes.wpIn (f8 e) (gX hE hZ hY ⟨b,ok,β,by rw [hsv];exact hz,hr,h1,h2,h3⟩ (ho o (by simp)) e) ?_;rintro v w' ⟨_,ch,s2,e',hs,h'⟩;refine dF hE hZ hY hops hQ l _ s2 _ w' (λo ho'=>ho o (by simp [ho'])) ?_ e' h';cases ch with
   |true=>intro t b e;simp at e
   |false=>exact Known.step hk' (hs rfl)
  ·rw [hw];simp only [Bool.false_eq_true,if_false];exact⟨λ_ _=>trivial,dF hE hZ hY hops hQ l _ _ _ w (λo ho'=>ho o (by simp [ho'])) (Known.step hk' (SameFr.put rfl _)) e ⟨b,ok,β,by rw [dc,hsv];exact hz,hr.put o.dst (.val undef),h1,h2,λhs=>by rw [put_defers];exact h3 hs⟩⟩
theorem dQ (hE:EnvOk P E) (hZ:lG Z) (hyl:E.yl=none) {ops:Array Oper} (hops:∀o∈ops,bI n o=true) {d:Bool} {Kx:St->Prop} {Q:Exit->Act->World->Prop} (hQ:∀s' a' w',Kx s'->Sim E.strict Z G n A a' w' s'->Q .normal a' w') :
  ∀(l:List Oper) (kn:List (Nat×Bool)) (s:St) (a:Act) (w:World),(∀o∈l,bI n o=true)->Known kn s->gx P E d ops.toList l kn s Kx->Sim E.strict Z G n A a w s->wpList P ops Q l a w
 |[],kn,s,a,w,_,_,e,h=>hQ s a w e h
 |o::l,kn,s,a,w,ho,hk,e,h=>by
  obtain⟨b,ok,β,hz,h,h1,h2,h3⟩:=h;rw [iA] at e;obtain⟨kn',s',hsv,hr,hk',hw⟩:=dE h hops hk e;unfold wpList;have hY:vH P E Z G A:=λl T hl=>by rw [hyl] at hl;cases hl
  rcases hw with ⟨hw,e⟩|⟨hw,e⟩
  ·rw [hw];simp only [if_true];have hd:=gX hE hZ hY ⟨b,ok,β,by rw [hsv];exact hz,hr,h1,h2,h3⟩ (ho o (by simp)) e;rw [hyl] at hd;refine .inl (OpDoes.wp hd ?_);rintro v w' ⟨_,ch,s2,e',hs,h'⟩;refine dQ hE hZ hyl hops hQ l _ s2 _ w' (λo ho'=>ho o (by simp [ho'])) ?_ e' h';cases ch with
   |true=>intro t b e;simp at e
   |false=>exact Known.step hk' (hs rfl)
  ·rw [hw];simp only [Bool.false_eq_true,if_false];exact dQ hE hZ hyl hops hQ l _ _ _ w (λo ho'=>ho o (by simp [ho'])) (Known.step hk' (SameFr.put rfl _)) e ⟨b,ok,β,by rw [dc,hsv];exact hz,hr.put o.dst (.val undef),h1,h2,λhs=>by rw [put_defers];exact h3 hs⟩
theorem fx (hE:EnvOk P E) (hyl:E.yl=none) {ops:Array Oper} (hops:∀o∈ops,bI n o=true) {Kx:St->Prop} {Q:Act->Prop} (l2:List Oper) {sv:List (Nat->PV)} {df:List Deferred}
  (hQ:∀kn s' a',s'.sv=sv->a'.defers=df->Known kn s'->gx P E true ops.toList l2 kn s' Kx->Rel G n w0 ok a' w s' β->Q a') :
  ∀(l:List Oper) (kn:List (Nat×Bool)) (s:St) (a:Act),s.sv=sv->a.defers=df->(∀o∈l,bI n o=true/\i8 o.op=true)->Known kn s->gx P E true ops.toList (l++l2) kn s Kx->Rel G n w0 ok a w s β->wpQuiet P ops (λW=>Below w.heap.size w W) Q l a
 |[],kn,s,a,hsv,hdf,_,hk,e,h=>hQ kn s a hsv hdf hk e h
 |o::l,kn,s,a,hsv,hdf,ho,hk,e,h=>by
  rw [List.cons_append] at e;rw [iA] at e;obtain⟨kn',s',hsv',hr,hk',hw⟩:=dE h hops hk e;unfold wpQuiet;rcases hw with ⟨hw,e⟩|⟨hw,e⟩
  ·rw [hw];simp only [if_true];obtain⟨v,s2,e',hs,hsv2,hv1,hv2⟩:=rJ hE hyl hr (ho o (by simp)).1 (ho o (by simp)).2 e;exact⟨v,hv1,fx hE hyl hops l2 hQ l _ s2 _ (by rw [hsv2,hsv',hsv]) (by rw [put_defers];exact hdf) (λo ho'=>ho o (by simp [ho'])) (Known.step hk' hs) e' hv2⟩
  ·rw [hw];simp only [Bool.false_eq_true,if_false];exact fx hE hyl hops l2 hQ l _ _ _ (by rw [dc,hsv',hsv]) (by rw [put_defers];exact hdf) (λo ho'=>ho o (by simp [ho'])) (Known.step hk' (SameFr.put rfl _)) e (hr.put o.dst (.val undef))
theorem xL (h:Rel G n w0 ok a w s β) (ho:∀x∈o.op.operands,aT n x=true) (hb:vn o=true) {r:Option Prop×PV} (e:gk P s o=some r):∃v,∀W,(execOp a.eval o).run P W=.ok (.value v) W:=by
 obtain⟨dst,op,ty,pos,after,guard⟩:=o;cases op with
 |binOp op t x y t' =>
  have hop:op=.sub:=by
   cases op<;>first|rfl|cases hb
  subst hop;have e2:eF P s ⟨dst,.binOp .sub t x y t',ty,pos,after,guard⟩=some r:=e;unfold eF at e2;split at e2
  ·rename_i hall
   split at e2
   ·rename_i v hv
    refine⟨v,λw'=>?_⟩;rw [execOp_congr (ρ':=Ex.rho s) _ (λcs b he=>by cases he) λx hx=>(h.rho (ho x hx) (List.all_eq_true.1 hall x (jN rfl x hx))).symm];exact fF _ hv w'
   ·cases e2
  ·cases e2
 |_=>cases hb
theorem jS (hyl:E.yl=none) (h:Rel G n w0 ok a w s β) (ho:bI n o=true) {ops:Array Oper} {i:Nat} (hi:ops[i]? = some o) (hk:dx ops (i,true)=true) {d:Bool} {Kx:Bool->St->Prop} (e:iz P E d s o Kx) :
  ∃v s',Kx false s'/\SameFr o.dst s s'/\s'.sv=s.sv/\((∀W,Below w.heap.size w W->(execOp a.eval o).run P W=.ok (.value v) W)/\(vn o=true->∀W,(execOp a.eval o).run P W=.ok (.value v) W))/\Rel G n w0 ok (a.put o.dst v) w s' β:=by
 obtain⟨ho1,ho2,ho3⟩:=dD ho;simp only [dx,hi,Bool.and_eq_true] at hk;unfold iz at e;split at e
 ·rename_i r hp
  obtain⟨hm,e⟩:=dm.1 e;simp only [PV.to_eq,St.to_eq,St.toH_eq] at e;obtain⟨v,hv,hrun⟩:=jP h ho1 hm hp;refine⟨v,_,e,SameFr.put rfl _,dc _ _ _,⟨hrun,λhsb W=>?_⟩,h.put o.dst hv⟩;obtain⟨u,hu⟩:=xL h ho1 hsb hp;have h1:=hu w;rw [hrun w (Below.refl _ _)] at h1;cases h1;exact hu W
 ·exfalso;split at e
  ·rename_i r hr
   obtain⟨dst,op,ty,pos,after,guard⟩:=o;cases op<;>simp [kR,i8] at hr hk;split at hr
   ·rename_i hcal _ _
    rw [hcal] at hk;simp at hk
   ·rename_i hcal _ _
    rw [hcal] at hk;simp at hk
   ·simp at hr
  ·split at e
   ·exact e.elim
   ·rename_i c hc
    obtain⟨dst,op,ty,pos,after,guard⟩:=o;cases op<;>simp only [jL,Option.some.injEq,reduceCtorEq] at hc;subst hc;split at e
    ·rw [hyl] at e;exact e.elim
    ·rename_i f args hr
     simp only [fc] at hr;split at hr
     ·rename_i hcal
      simp [hcal] at hk
     ·cases hr
theorem vI (hyl:E.yl=none) {ops:Array Oper} {i:Nat} (hi:ops[i]? = some o) (hk:dx ops (i,true)=true) {d:Bool} {Kx:Bool->St->Prop} (e:iz P E d s o Kx) :
  ∃r,gk P s o=some r/\Met r.1:=by
 simp only [dx,hi,Bool.and_eq_true] at hk;unfold iz at e;split at e
 ·rename_i r hp
  obtain⟨hm,e⟩:=dm.1 e;exact⟨r,hp,hm⟩
 ·exfalso;split at e
  ·rename_i r hr
   obtain⟨dst,op,ty,pos,after,guard⟩:=o;cases op<;>simp [kR,i8] at hr hk;split at hr
   ·rename_i hcal _ _
    rw [hcal] at hk;simp at hk
   ·rename_i hcal _ _
    rw [hcal] at hk;simp at hk
   ·simp at hr
  ·split at e
   ·exact e.elim
   ·rename_i c hc
    obtain⟨dst,op,ty,pos,after,guard⟩:=o;cases op<;>simp only [jL,Option.some.injEq,reduceCtorEq] at hc;subst hc;split at e
    ·rw [hyl] at e;exact e.elim
    ·rename_i f args hr
     simp only [fc] at hr;split at hr
     ·rename_i hcal
      simp [hcal] at hk
     ·cases hr
theorem px (hE:EnvOk P E) (hZ:lG Z) (hyl:E.yl=none) (hin:∀f,E.inl f=none) {rd:Option Nat} {ops:Array Oper} (hops:∀o∈ops,bI n o=true) {i:Nat} (hh:dx ops (i,false)=true) {next:List (Nat×Bool)->St->(St->Prop)->Prop} {Kx:St->Prop} {kn:List (Nat×Bool)} (hk:Known kn s) (e:cw P E ops.toList i next kn s Kx) (h:Sim E.strict Z G n A a w s)
  {N:Act->World->Prop} (hN:∀kn' s' a' w',Known kn' s'->next kn' s' Kx->Sim E.strict Z G n A a' w' s'->N a' w'):wpOpIn (FW rd) 0 P ops QF i (λa' w'=>Below w.heap.size w w'/\N a' w') a w:=by
 obtain⟨b,ok,β,hz,h,h1,h2,h3⟩:=h;obtain⟨o,hi⟩:∃o,ops[i]? = some o:=by
  cases hi:ops[i]? with
  |none=>simp [dx,hi] at hh
  |some o=>exact⟨o,rfl⟩
 have hop:bI n o=true:=hops o (Array.mem_of_getElem? hi);have hY:vH P E Z G A:=λl T hl=>by rw [hyl] at hl;cases hl
 have hil:ops.toList[i]? = some o:=by simpa using hi
 simp only [cw,hil] at e;obtain⟨kn',s',hsv,hr,hk',hw⟩:=dE h hops hk e;have hz':Z s'.sv b:=by rw [hsv];exact hz
 unfold wpOpIn;simp only [hi];rcases hw with ⟨hw,e⟩|⟨hw,e⟩
 ·rw [hw];simp only [if_true];refine OpDoes.wpIn (f8 e) (gX hE hZ hY ⟨b,ok,β,hz',hr,h1,h2,h3⟩ hop e) ?_;rintro v w' ⟨hb,ch,s2,e',hs,h'⟩;refine⟨hb ?_ hin hyl,hN _ s2 _ w' ?_ e' h'⟩
  ·simpa [dx,hi] using hh
  ·cases ch with
   |true=>intro t b e;simp at e
   |false=>exact Known.step hk' (hs rfl)
 ·rw [hw];simp only [Bool.false_eq_true,if_false];exact⟨λ_ _=>trivial,Below.refl _ _,hN _ _ _ w (Known.step hk' (SameFr.put rfl _)) e ⟨b,ok,β,by rw [dc];exact hz',hr.put o.dst (.val undef),h1,h2,λhs=>by rw [put_defers];exact h3 hs⟩⟩
theorem d0 (hE:EnvOk P E) (hZ:lG Z) (hyl:E.yl=none) (hin:∀f,E.inl f=none) {rd:Option Nat} {ops:Array Oper} (hops:∀o∈ops,bI n o=true) {Kx:St->Prop} :
  ∀(l:OT) (kn:List (Nat×Bool)) (s:St) (a:Act) (w:World),eO ops l=true->Known kn s->cz P E ops.toList l kn s Kx->Sim E.strict Z G n A a w s ->
   gi (FW rd) 0 P ops (λa' w'=>∃s',Kx s'/\Sim E.strict Z G n A a' w' s') l a w
 |.nil,kn,s,a,w,_,_,e,h=>⟨s,e,h⟩
 |.rd i l,kn,s,a,w,ho,hk,e,h=>by
  change cw P E ops.toList i (cz P E ops.toList l) kn s Kx at e;simp only [eO,Bool.and_eq_true] at ho;obtain⟨hh,ho⟩:=ho;obtain⟨b,ok,β,hz,h,h1,h2,h3⟩:=h;obtain⟨o,hi⟩:∃o,ops[i]? = some o:=by
   cases hi:ops[i]? with
   |none=>simp [dx,hi] at hh
   |some o=>exact⟨o,rfl⟩
  have hop:bI n o=true:=hops o (Array.mem_of_getElem? hi);have hil:ops.toList[i]? = some o:=by simpa using hi
  simp only [cw,hil] at e;obtain⟨kn',s',hsv,hr,hk',hw⟩:=dE h hops hk e;have hz':Z s'.sv b:=by rw [hsv];exact hz
  unfold gi;rcases hw with ⟨hw,e⟩|⟨hw,e⟩
  ·obtain⟨v,s2,e',hs,hsv2,hv1,hv2⟩:=jS hyl hr hop hi hh e;exact⟨o,v,hi,.inl ⟨hw,hv1.1,hv1.2⟩,d0 hE hZ hyl hin hops l _ s2 _ w ho (Known.step hk' hs) e' ⟨b,ok,β,by rw [hsv2];exact hz',hv2,h1,h2,λhs=>by rw [put_defers];exact h3 hs⟩⟩
  ·exact⟨o,undef,hi,.inr ⟨hw,rfl⟩,d0 hE hZ hyl hin hops l _ _ _ w ho (Known.step hk' (SameFr.put rfl _)) e ⟨b,ok,β,by rw [dc];exact hz',hr.put o.dst (.val undef),h1,h2,λhs=>by rw [put_defers];exact h3 hs⟩⟩
 |.mk i l,kn,s,a,w,ho,hk,e,h=>by
  change cw P E ops.toList i (cz P E ops.toList l) kn s Kx at e;simp only [eO,Bool.and_eq_true] at ho;exact px hE hZ hyl hin hops ho.1 hk e h λkn' s' a' w' hk' e' h'=>d0 hE hZ hyl hin hops l kn' s' a' w' ho.2 hk' e' h'
 |.alt i l u,kn,s,a,w,ho,hk,e,h=>by
  change cw P E ops.toList i (cz P E ops.toList l) kn s Kx/\cz P E ops.toList u kn s Kx at e;simp only [eO,Bool.and_eq_true] at ho;exact⟨px hE hZ hyl hin hops ho.1.1 hk e.1 h λkn' s' a' w' hk' e' h'=>d0 hE hZ hyl hin hops l kn' s' a' w' ho.1.2 hk' e' h',d0 hE hZ hyl hin hops u kn s a w ho.2 hk e.2 h⟩
theorem fK (hE:EnvOk P E) (hZ:lG Z) (hY:vH P E Z G A) {rd:Option Nat} {ops:Array Oper} (hops:∀o∈ops,bI n o=true) {Q:Exit->Act->World->Prop} {i:Nat} {next:List (Nat×Bool)->St->(St->Prop)->Prop} {Kx:St->Prop} {kn:List (Nat×Bool)} (hk:Known kn s) (e:cw P E ops.toList i next kn s Kx) (h:Sim E.strict Z G n A a w s)
  {N:Act->World->Prop} (hN:∀kn' s' a' w',Known kn' s'->next kn' s' Kx->Sim E.strict Z G n A a' w' s'->N a' w'):wpOpIn (FW rd) 0 P ops Q i N a w:=by
 obtain⟨b,ok,β,hz,h,h1,h2,h3⟩:=h;cases hi:ops[i]? with
 |none =>
  have hil:ops.toList[i]? = none:=by simpa using hi
  simp only [cw,hil] at e
 |some o =>
 have hop:bI n o=true:=hops o (Array.mem_of_getElem? hi);have hil:ops.toList[i]? = some o:=by simpa using hi
 simp only [cw,hil] at e;obtain⟨kn',s',hsv,hr,hk',hw⟩:=dE h hops hk e;have hz':Z s'.sv b:=by rw [hsv];exact hz
 unfold wpOpIn;simp only [hi];rcases hw with ⟨hw,e⟩|⟨hw,e⟩
 ·rw [hw];simp only [if_true];refine OpDoes.wpIn (f8 e) (gX hE hZ hY ⟨b,ok,β,hz',hr,h1,h2,h3⟩ hop e) ?_;rintro v w' ⟨_,ch,s2,e',hs,h'⟩;refine hN _ s2 _ w' ?_ e' h';cases ch with
  |true=>intro t b e;simp at e
  |false=>exact Known.step hk' (hs rfl)
 ·rw [hw];simp only [Bool.false_eq_true,if_false];exact⟨λ_ _=>trivial,hN _ _ _ w (Known.step hk' (SameFr.put rfl _)) e ⟨b,ok,β,by rw [dc];exact hz',hr.put o.dst (.val undef),h1,h2,λhs=>by rw [put_defers];exact h3 hs⟩⟩
theorem et (hE:EnvOk P E) (hZ:lG Z) (hY:vH P E Z G A) {rd:Option Nat} {ops:Array Oper} (hops:∀o∈ops,bI n o=true) {Kx:St->Prop} {Q:Exit->Act->World->Prop} (hQ:∀s' a' w',Kx s'->Sim E.strict Z G n A a' w' s'->Q .normal a' w') :
  ∀(l:OT) (kn:List (Nat×Bool)) (s:St) (a:Act) (w:World),Known kn s->cz P E ops.toList l kn s Kx->Sim E.strict Z G n A a w s->iu (FW rd) 0 P ops Q l a w
 |.nil,kn,s,a,w,_,e,h=>hQ s a w e h
 |.rd i l,kn,s,a,w,hk,e,h=>by
  change cw P E ops.toList i (cz P E ops.toList l) kn s Kx at e;exact fK hE hZ hY hops hk e h λkn' s' a' w' hk' e' h'=>et hE hZ hY hops hQ l kn' s' a' w' hk' e' h'
 |.mk i l,kn,s,a,w,hk,e,h=>by
  change cw P E ops.toList i (cz P E ops.toList l) kn s Kx at e;exact fK hE hZ hY hops hk e h λkn' s' a' w' hk' e' h'=>et hE hZ hY hops hQ l kn' s' a' w' hk' e' h'
 |.alt i l u,kn,s,a,w,hk,e,h=>by
  change cw P E ops.toList i (cz P E ops.toList l) kn s Kx/\cz P E ops.toList u kn s Kx at e;exact⟨fK hE hZ hY hops hk e.1 h λkn' s' a' w' hk' e' h'=>et hE hZ hY hops hQ l kn' s' a' w' hk' e' h',et hE hZ hY hops hQ u kn s a w hk e.2 h⟩
def ZK (Z:List (Nat->PV)->bE->Prop) (K0:Nat->Prop) (w1:World) (sv:List (Nat->PV)) (b:bE):Prop:=Z sv b/\∀k o,K0 k->w1.heap[k]? = some o->b.pin k=some o
theorem B2 (hZ:lG Z) (K0:Nat->Prop) (w1:World):lG (ZK Z K0 w1) :=
 ⟨λsv sv' b h h2=>⟨hZ.weak sv sv' b h h2.1,h2.2⟩,λsv b b' h1 h2 h3 h4=>⟨hZ.up sv b b' h1 h2 h3 h4.1,λk o hk ho=>h3 k o (h4.2 k o hk ho)⟩,λsv b h=>hZ.old sv b h.1⟩
theorem gB (hE:EnvOk P E) (hZ:lG Z) (hyl:E.yl=none) {rd:Option Nat} {ops:Array Oper} (hops:∀o∈ops,bI n o=true) {Kx:St->Prop} {Kp:World->Prop} (hKp:∀a w s,Sim E.strict Z G n A a w s->Kp w) :
  ∀(l:OT) (kn:List (Nat×Bool)) (s:St) (a:Act) (w:World),fE ops l=true->Known kn s->cz P E ops.toList l kn s Kx->Sim E.strict Z G n A a w s ->
   fD (FW rd) 0 P Kp ops (λa' w'=>∃s',Kx s'/\Sim E.strict Z G n A a' w' s') l a w
 |.nil,kn,s,a,w,_,_,e,h=>⟨s,e,h⟩
 |.rd i l,kn,s,a,w,ho,hk,e,h=>by
  change cw P E ops.toList i (cz P E ops.toList l) kn s Kx at e;simp only [fE,Bool.and_eq_true] at ho;obtain⟨hh,ho⟩:=ho;obtain⟨b,ok,β,hz,h,h1,h2,h3⟩:=h;cases hi:ops[i]? with
  |none=>simp [hi] at hh
  |some o =>
  simp only [hi,Bool.and_eq_true] at hh;obtain⟨⟨hpk,hg⟩,hhd⟩:=hh;have hop:bI n o=true:=hops o (Array.mem_of_getElem? hi);have hil:ops.toList[i]? = some o:=by simpa using hi
  have hgn:o.guard=none:=by cases hg2:o.guard with
   |none=>rfl
   |some _=>rw [hg2] at hg;cases hg
  simp only [cw,hil,gU,hgn] at e;obtain⟨r,hr1,hr2⟩:=vI hyl hi hhd e;obtain⟨v2,_,hv2⟩:=jQ (c:=r.1) (p:=r.2) h (dD hop).1 hpk hr1;obtain⟨v,s2,e',hs,hsv2,hv1,hv3⟩:=jS hyl h hop hi hhd e;have hvv:v2=v:=by
   have k1:=hv2 w;rw [hv1.1 w (Below.refl _ _)] at k1;cases k1;rfl
  subst hvv;exact⟨o,v2,hi,.inl ⟨by simp [Region.wanted,hgn],λW _=>hv2 W⟩,gB hE hZ hyl hops hKp l _ s2 _ w ho (Known.step hk hs) e' ⟨b,ok,β,by rw [hsv2];exact hz,hv3,h1,h2,λhs=>by rw [put_defers];exact h3 hs⟩⟩
 |.mk i l,kn,s,a,w,ho,hk,e,h=>by
  change cw P E ops.toList i (cz P E ops.toList l) kn s Kx at e;simp only [fE,Bool.and_eq_true] at ho;exact fK hE hZ (λl T hl=>by rw [hyl] at hl;cases hl) hops hk e h λkn' s' a' w' hk' e' h'=>⟨hKp _ _ _ h',gB hE hZ hyl hops hKp l kn' s' a' w' ho.2 hk' e' h'⟩
 |.alt i l u,kn,s,a,w,ho,hk,e,h=>by
  change cw P E ops.toList i (cz P E ops.toList l) kn s Kx/\cz P E ops.toList u kn s Kx at e;simp only [fE,Bool.and_eq_true] at ho;exact⟨fK hE hZ (λl T hl=>by rw [hyl] at hl;cases hl) hops hk e.1 h λkn' s' a' w' hk' e' h'=>⟨hKp _ _ _ h',gB hE hZ hyl hops hKp l kn' s' a' w' ho.1.2 hk' e' h'⟩,gB hE hZ hyl hops hKp u kn s a w ho.2 hk e.2 h⟩
theorem vK (hE:EnvOk P E) (hZ:lG Z) (hyl:E.yl=none) {rd:Option Nat} {ops:Array Oper} (hops:∀o∈ops,bI n o=true) {Kx:St->Prop} {w:World} {b:bE} {ok:Nat->Prop} {β : Nat->Value} {l:OT} (hl:fE ops l=true)
  (h1:∀k,A k->ok k) (h2:∀k,ok k->A k\/(E.strict=false/\b.heap.size<=k)) :
  ∀(L:List Nat) (kn:List (Nat×Bool)) (s:St) (a:Act),L.all (kT ops)=true->Known kn s->zN P E ops.toList l L kn s Kx->Z s.sv b->Rel G n b ok a w s β->(E.strict=true->a.defers=[]) ->
   fD (FW rd) 0 P (λW=>∀k,ok k->W.heap[k]? = w.heap[k]?) ops (λa' w'=>∃s',Kx s'/\Sim E.strict Z G n A a' w' s') (OT.rds L l) a w
 |[],kn,s,a,_,hk,e,hz,h,h3=>by
  change cz P E ops.toList l kn s Kx at e
  classical
  let b1:bE:={ b with pin:=λk=>if ok k then w.heap[k]? else b.pin k };have hp:∀k o,b.pin k=some o->b1.pin k=some o:=λk o hk=>by
   have:=h.pins k o hk;show(if ok k then w.heap[k]? else b.pin k)=some o;rw [if_pos this.1];exact this.2
  have hz1:ZK Z ok w s.sv b1:=⟨hZ.up _ b b1 rfl rfl hp hz,λk o hk ho=>by
   show(if ok k then w.heap[k]? else b.pin k)=some o;rw [if_pos hk];exact ho⟩
  have hr:Rel G n b1 ok a w s β:=⟨h.fr,h.size,⟨h.defers.1,λd hd=>by
   obtain⟨D,e1,e2,e3,e4⟩:=h.defers.2 d hd;exact⟨D,e1,hp _ _ e2,e3,e4⟩⟩,h.heap,h.ext,h.oklt,h.sv,λk o hk=>by
   have hk:(if ok k then w.heap[k]? else b.pin k)=some o:=hk;by_cases hk2:ok k
   ·rw [if_pos hk2] at hk;exact⟨hk2,hk⟩
   ·rw [if_neg hk2] at hk;exact h.pins k o hk⟩
  have key:=gB (rd:=rd) (Kp:=λW=>∀k,ok k->W.heap[k]? = w.heap[k]?) hE (B2 hZ ok w) hyl hops (λa' w' s' hs k hk=>by
   obtain⟨b',ok',β',hz',hr',_⟩:=hs;have hlt:=h.oklt k hk;have ho:w.heap[k]? = some w.heap[k]:=by simp [hlt]
   rw [ho];exact(hr'.pins k _ (hz'.2 k _ hk ho)).2) l kn s a w hl hk e ⟨b1,ok,β,hz1,hr,h1,h2,h3⟩
  refine dC ?_ l a w key;rintro a' w' ⟨s',hk',b',ok',β',hz',hr'⟩;exact⟨s',hk',b',ok',β',hz'.1,hr'⟩
 |i::L,kn,s,a,ho,hk,e,hz,h,h3=>by
  simp only [List.all_cons,Bool.and_eq_true] at ho;obtain⟨hh,ho⟩:=ho;cases hi:ops[i]? with
  |none=>simp [kT,hi] at hh
  |some o =>
  have hil:ops.toList[i]? = some o:=by simpa using hi
  change (match ops.toList[i]? with
   |none=>False
   |some o=>o5 s o/\iz P E false s o λch s=>zN P E ops.toList l L (bif ch then [] else i7 o.dst kn) s Kx) at e
  rw [hil] at e;simp only at e;obtain⟨hf,e⟩:=e;simp only [kT,hi,Bool.and_eq_true] at hh;obtain⟨⟨hfk,hg⟩,hhd⟩:=hh;have hgn:o.guard=none:=by cases hg2:o.guard with
   |none=>rfl
   |some _=>rw [hg2] at hg;cases hg
  have hop:bI n o=true:=hops o (Array.mem_of_getElem? hi);obtain⟨r,hr1,hr2⟩:=vI hyl hi hhd e;obtain⟨v2,hv2⟩:=pj (c:=r.1) (p:=r.2) h (dD hop).1 hfk hf hr1;obtain⟨v,s2,e',hs,hsv2,hv1,hv3⟩:=jS hyl h hop hi hhd e;have hvv:v2=v:=by
   have k1:=hv2 w λ_ _=>rfl;rw [hv1.1 w (Below.refl _ _)] at k1;cases k1;rfl
  subst hvv;exact⟨o,v2,hi,.inl ⟨by simp [Region.wanted,hgn],λW hW=>hv2 W hW⟩,vK hE hZ hyl hops hl h1 h2 L _ s2 _ ho (Known.step hk hs) e' (by rw [hsv2];exact hz) hv3 λhs=>by rw [put_defers];exact h3 hs⟩
theorem jh {ops:Array Oper}:∀{k m:Nat},i9 ops k=some m->Region.lexTailB .any ops m=true/\∀o∈ops.toList.take m,i8 o.op=true
 |0,m,h=>by
  simp only [i9] at h;split at h
  ·simp only [Option.some.injEq] at h;subst h;exact⟨by assumption,by simp⟩
  ·simp at h
 |k+1,m,h=>by
  simp only [i9] at h;split at h
  ·rename_i hc
   simp only [Option.some.injEq] at h;subst h;simp only [Bool.and_eq_true] at hc;exact⟨hc.1,List.all_eq_true.1 hc.2⟩
  ·exact jh h
theorem Sim.below {st:Bool} (h:Sim st Z G n A a w s) {w':World} (hb:Below w.heap.size w w'):Sim st Z G n A a w' s:=by
 obtain⟨b,ok,β,hz,h,h1⟩:=h;exact⟨b,ok,β,hz,h.below hb,h1⟩
theorem dG (w:World):Below w.heap.size w { w with drawn:=w.drawn+1 }:=⟨rfl,rfl,rfl,Nat.le_refl _,λ_ _=>rfl⟩
theorem Env.plain_ok (hE:EnvOk P E):EnvOk P E.plain:=by
 obtain⟨call,own,inl,seq,yl,strict⟩:=E;exact⟨hE.1,nofun,hE.2.2⟩
theorem nL (hm:P.follows .mixedOrders=true) (hE:EnvOk P E) (hZ:lG Z) (hY:vH P E Z G A) {D:Opt} {rd:Option Nat} (hrd:D.round=false->rd=none) {id:Nat} {ops:Array Oper} {draw:Bool} (hc:cN D.toOrd n (.region id ops draw)=true) {K:Exit->St->Prop}
  (e:vc P E D (.region id ops draw) s K) (h:Sim E.strict Z G n A a w s) {Q:Exit->Act->World->Prop} (hQ:∀s' a' w',K .normal s'->Sim E.strict Z G n A a' w' s'->Q .normal a' w') :
  (Code.region id ops draw).wpIn (FW rd) 0 P Q a w:=by
 simp only [cN,Bool.and_eq_true] at hc;obtain⟨hc1,hc2⟩:=hc;have hops:∀o∈ops,bI n o=true:=λo ho=>List.all_eq_true.1 hc1 o (by simpa using ho);have hopsl:∀o∈ops.toList,bI n o=true:=λo ho=>List.all_eq_true.1 hc1 o ho;have hlit:ops.toList.toArray=ops:=by simp
 have hkn:∀s,Known [] s:=λs t b e=>by simp at e
 have hF:∀f,(FW rd).fn f:=λf=>trivial;change lI P id ops draw E D s K at e;unfold lI at e;cases draw with
 |false=>exact wpIn_region_list (dF hE hZ hY hops hQ ops.toList [] s a w hopsl (hkn s) e h)
 |true =>
  cases ha:D.all id with
  |some l =>
   simp only [ha] at e;simp only [lp,ha,Bool.not_true,Bool.false_or] at hc2;exact jE l hm hc2 (et hE hZ hY hops hQ l [] s a _ (hkn s) e (h.below (dG w)))
  |none =>
  simp only [ha] at e;simp only [lp,ha] at hc2;cases hfz:D.frz id with
  |some l =>
   simp only [hfz] at e;simp only [hfz,Bool.not_true,Bool.false_or,Bool.and_eq_true] at hc2;obtain⟨⟨hc3,hc4⟩,hc5⟩:=hc2;cases hyl:E.yl with
   |some _=>simp only [hyl] at e
   |none =>
   simp only [hyl] at e;obtain⟨b,ok,β,hz,hr,h1,h2,h3⟩:=h.below (dG w);have key:=jH (F:=FW rd) (n:=0) (P:=P) (id:=id) (Q:=Q) (a:=a) (w:=w) (l:=ops.toList) (OT.rds l.1 l.2) hF hm (Kp:=λW=>∀k,ok k->W.heap[k]? = ({ w with drawn:=w.drawn+1 }:World).heap[k]?) (λ_ _=>rfl) (by rw [hlit];exact hc3) (by
    rw [hlit];have:=vK (rd:=rd) (Z:=Z) (G:=G) (A:=A) hE hZ hyl hops hc5 h1 h2 l.1 [] s a hc4 (hkn s) e hz hr h3;refine dC ?_ _ a _ this;rintro a' w' ⟨s',hk,h'⟩;exact dF hE hZ hY hops hQ _ [] s' a' w' (λo ho=>hopsl o (List.mem_of_mem_drop ho)) (hkn s') hk h')
   rwa [hlit] at key
  |none =>
  simp only [hfz] at e;simp only [hfz] at hc2;cases hp:D.perm id with
  |some l =>
   simp only [hp] at e;simp only [hp,Bool.not_true,Bool.false_or,Bool.and_eq_true] at hc2;have hst:E.plain.strict=E.strict:=by cases E;rfl
   rcases Bool.or_eq_true _ _▸hc2.1 with hc3|hc3
   ·have key:=kF (F:=FW rd) (n:=0) (P:=P) (id:=id) (Q:=Q) (a:=a) (w:=w) (l:=ops.toList) l hF hm (by rw [hlit];exact hc3) (by
     rw [hlit];have:=d0 (rd:=rd) (Z:=Z) (G:=G) (A:=A) (Env.plain_ok hE) hZ (by cases E;rfl) (by cases E;intro f;rfl) hops l [] s a _ hc2.2 (hkn s) e (by rw [hst];exact h.below (dG w));refine dW ?_ l a _ this;rintro a' w' ⟨s',hk,h'⟩;rw [hst] at h';exact dF hE hZ hY hops hQ _ [] s' a' w' (λo ho=>hopsl o (List.mem_of_mem_drop ho)) (hkn s') hk h')
    rwa [hlit] at key
   ·have key:=jG (F:=FW rd) (n:=0) (P:=P) (id:=id) (Q:=Q) (a:=a) (w:=w) (l:=ops.toList) l hF hm (by rw [hlit];exact hc3) (by
     rw [hlit];have:=d0 (rd:=rd) (Z:=Z) (G:=G) (A:=A) (Env.plain_ok hE) hZ (by cases E;rfl) (by cases E;intro f;rfl) hops l [] s a _ hc2.2 (hkn s) e (by rw [hst];exact h.below (dG w));refine dW ?_ l a _ this;rintro a' w' ⟨s',hk,h'⟩;rw [hst] at h';exact dF hE hZ hY hops (Q:=Qn Q) hQ _ [] s' a' w' (λo ho=>hopsl o (List.mem_of_mem_drop ho)) (hkn s') hk h')
    rwa [hlit] at key
  |none =>
   simp only [hp] at e;split at e
   ·rename_i hdr hyl
    rw [hrd hdr];refine wpIn_wide.2 ?_;simp only [hp,Bool.not_true,Bool.false_or] at hc2;cases hD:D.draws id with
    |true =>
     simp only [hD,if_true] at hc2;simp only [hD,Bool.not_true] at e;have:=dQ hE hZ hyl hops hQ ops.toList [] s a _ hopsl (hkn s) e (h.below (dG w));have key:=eo (P:=P) (id:=id) (Q:=Q) (a:=a) (w:=w) (l:=ops.toList) (C:=λW=>W={ w with drawn:=w.drawn+1 }) 0 hm (by rw [hlit];exact hc2) rfl (by
      rw [List.take_zero,hlit,List.drop_zero];refine wpQuiet_nil ?_;rintro w' rfl;exact this)
     rwa [hlit] at key
    |false =>
     simp only [hD,Bool.not_false] at e;simp only [hD,Bool.false_eq_true,if_false,Bool.or_eq_true,Bool.and_eq_true] at hc2;obtain⟨b,ok,β,hz,hr,hA1,hA2,hA3⟩:=h.below (dG w);rcases hc2 with ⟨hB,hk⟩|hB
     ·refine wp_region_quiet (C:=λW=>Below w.heap.size { w with drawn:=w.drawn+1 } W) hm hB (Below.refl _ _) ?_;exact fx (w:={ w with drawn:=w.drawn+1 }) hE hyl hops [] (sv:=s.sv) (df:=a.defers) (λkn s' a' hsv hdf _ e' h' w' hw'=>hQ s' a' w' e' ⟨b,ok,β,by rw [hsv];exact hz,h'.below hw',hA1,hA2,λhs=>by rw [hdf];exact hA3 hs⟩) ops.toList [] s a rfl rfl (λo ho=>⟨hopsl o ho,List.all_eq_true.1 hk o ho⟩) (hkn s) (by rw [List.append_nil];exact e) hr
     ·obtain⟨m,hm2⟩:=Option.isSome_iff_exists.1 hB;obtain⟨hB1,hB2⟩:=jh hm2;have key:=eo (P:=P) (id:=id) (Q:=Q) (a:=a) (w:=w) (l:=ops.toList) (C:=λW=>Below w.heap.size { w with drawn:=w.drawn+1 } W) m hm (by rw [hlit];exact hB1) (Below.refl _ _) (by
       rw [hlit];refine fx (w:={ w with drawn:=w.drawn+1 }) (Kx:=K .normal) hE hyl hops (ops.toList.drop m) (sv:=s.sv) (df:=a.defers) (λkn s' a' hsv hdf hk' e' h'=>?_) _ [] s a rfl rfl (λo ho=>⟨hopsl o (List.mem_of_mem_take ho),hB2 o ho⟩) (hkn s) (by rw [List.take_append_drop];exact e) hr;intro w' hw';exact dQ hE hZ hyl hops hQ _ kn s' a' w' (λo ho=>hopsl o (List.mem_of_mem_drop ho)) hk' e' ⟨b,ok,β,by rw [hsv];exact hz,h'.below hw',hA1,hA2,λhs=>by rw [hdf];exact hA3 hs⟩)
      rwa [hlit] at key
   ·exact e.elim
end
theorem Rel.base (h:Rel G n w0 ok a w s β) {b':bE} {a':Act} (hw:b'.toWorld=w0.toWorld) (ht:a'.tmps=a.tmps) (hp:∀k o,b'.pin k=some o->ok k/\w.heap[k]? = some o)
  (hd:Marks b' a'.defers):Rel G n b' ok a' w s β:=by
 obtain⟨bw,bp,bo⟩:=b';obtain⟨ww,wp,wo⟩:=w0;simp only at hw;subst hw;exact⟨λt h1=>by rw [ht];exact h.fr t h1,by rw [ht];exact h.size,hd,h.heap,h.ext,h.oklt,h.sv,hp⟩
theorem Rel.turnPin (h:Rel G n w0 ok a w s β) {l:Nat} {o o':Obj} (hl:w.heap[l]? = some o) (ho:o.isCells=false) (hlo:w0.heap.size<=l) {b':bE} {a':Act} (hw:b'.toWorld=w0.toWorld) (ht:a'.tmps=a.tmps)
  (hp:∀k x,b'.pin k=some x->(k=l/\x=o'/\ok l)\/(k≠l/\w0.pin k=some x))
  (hd:Marks b' a'.defers):Rel G n b' ok a' (w.putObj l o') s β:=by
 have hlt:l < w.heap.size:=(Array.getElem?_eq_some_iff.1 hl).1;have hcell:∀(ad:Addr) v,w.cell? ad=some v->(w.putObj l o').cell? ad=some v:=λad v hc=>by
  obtain⟨x,hx,hxc⟩:=cells_of_cell hc;have hne:ad.block≠l:=λe=>by rw [e,hl] at hx;cases hx;rw [ho] at hxc;cases hxc
  rw [World.cell?] at hc ⊢;rw [World.putObj_heap_other hne];exact hc
 have hL:gy ok ok w (w.putObj l o') s.H s.H β β s.nx s.nx:=⟨Nat.le_refl _,λ_ h=>h,λad v _ hc=>hcell ad v hc,λid st b' _ e=>⟨b',e,rfl,rfl,rfl⟩⟩;have hpp:∀k x,b'.pin k=some x->ok k/\(w.putObj l o').heap[k]? = some x:=by
  intro k x hk;rcases hp k x hk with ⟨rfl,rfl,hok⟩|⟨hne,hk⟩
  ·exact⟨hok,World.putObj_heap_same hlt⟩
  ·exact⟨(h.pins k x hk).1,(World.putObj_heap_other hne).trans (h.pins k x hk).2⟩
 obtain⟨bw,bp,bo⟩:=b';obtain⟨ww,wp,wo⟩:=w0;simp only at hw;subst hw;refine⟨λt h2=>by rw [ht];exact(h.fr t h2).later hL,by rw [ht];exact h.size,hd,⟨h.heap.stl,λid b e=>?_,h.heap.inj,h.heap.notok⟩,h.ext.grown (grownBy_putObj' w l o') h.ext.size (λk e=>by cases e;exact hlo),λk hk=>by rw [World.putObj_size];exact h.oklt k hk,cp (λf tm hf t ht=>(hf t ht).later hL) h.sv,hpp⟩;obtain⟨xs,h1,h2,hb1,hb2,h3⟩:=h.heap.own id b e;refine⟨xs,ownsRow_putObj h1 o' hl ho,h2,hb1,hb2,λi f p hi hp=>?_⟩;obtain⟨u,e1,e2,e3⟩:=h3 i f p hi hp;exact⟨u,e1,e2.later hL,λhx=>(e3 hx).later hL.oks hL.cell⟩
end
open Go.RowKit
section
variable {P:Program} {E:Env} {G:List (Array Value)} {n:Nat} {w0:bE} {ok A:Nat->Prop} {a:Act} {w:World} {s:St} {β : Nat->Value} {o:Oper}
theorem lK (h:Rel G n w0 ok a w s β) {x:Operand} (hx:aT n x=true) {f':FuncId} {pre post:List PV} (hf:gw s x=some (f',pre,post)) :
  ∃us vs,a.eval x=.func (.func f') us vs/\pre.length=us.size/\post.length=vs.size/\∀(i:Nat) p u,post[i]? = some p->vs[i]? = some u->R ok w s.H β s.nx p u:=by
 have hx:=h.ev hx;unfold gw at hf;split at hf
 ·rename_i k first caps hp
  simp only [Option.some.injEq,Prod.mk.injEq] at hf;obtain⟨rfl,rfl,rfl⟩:=hf;rw [hp] at hx;refine⟨first,caps,hx.val_eq,by simp,by simp,λi p u hp hu=>?_⟩;simp only [List.getElem?_map,Array.getElem?_toList,hu,Option.map_some,Option.some.injEq] at hp;rw [<-hp];exact .val _
 ·rename_i k first caps hp
  simp only [Option.some.injEq,Prod.mk.injEq] at hf;obtain⟨rfl,rfl,rfl⟩:=hf;rw [hp] at hx;obtain⟨us,vs,e1,l1,l2,h1,h2⟩:=hx.fn_inv;exact⟨us,vs,e1,l1,l2,h2⟩
 ·simp at hf
theorem lL:∀(l:List (Tmp×Value)) (t:Array Value),(l.foldl (λt (x:Tmp×Value)=>t.setIfInBounds x.1 x.2) t).size=t.size
 |[],t=>rfl
 |x::l,t=>by rw [List.foldl_cons,lL l];simp
theorem py {ok:Nat->Prop} {w:World} {H:Heap} {β : Nat->Value} {nx:Nat}:∀(ps:List Tmp) (xs:List PV) (vs:List Value) (fr:Nat->PV) (t:Array Value),xs.length=ps.length->vs.length=ps.length->(∀(j:Nat) p v,xs[j]? = some p->vs[j]? = some v->R ok w H β nx p v) ->
  (∀k,k < t.size->R ok w H β nx (fr k) (t.getD k undef))->∀k,k < t.size->R ok w H β nx (vG ps xs fr k) (((ps.zip vs).foldl (λt (x:Tmp×Value)=>t.setIfInBounds x.1 x.2) t).getD k undef)
 |[],[],[],fr,t,_,_,_,h,k,hk=>by simpa [vG] using h k hk
 |p::ps,x::xs,v::vs,fr,t,l1,l2,hR,h,k,hk=>by
  simp only [vG,List.zip_cons_cons,List.foldl_cons];refine py ps xs vs (zM fr p x) (t.setIfInBounds p v) (by simpa using l1) (by simpa using l2) (λj q u hq hu=>hR (j+1) q u (by simpa using hq) (by simpa using hu)) (λi hi=>?_) k (by simpa using hk);have hi':i < t.size:=by simpa using hi
  by_cases e:i=p
  ·subst e;simp only [ja,Array.getD_eq_getD_getElem?,Array.getElem?_setIfInBounds_self];rw [if_pos hi'];exact hR 0 x v (by simp) (by simp)
  ·have:=h i hi';simp only [lq e,Array.getD_eq_getD_getElem?];rw [Array.getElem?_setIfInBounds_ne (Ne.symm e)];simpa [Array.getD_eq_getD_getElem?] using this
theorem Rel.enter (h:Rel G n w0 ok a w s β) {ps:Array Tmp} {xs:List PV} {vs:Array Value} (l1:xs.length=ps.size) (l2:vs.size=ps.size) (hR:∀(j:Nat) p v,xs[j]? = some p->vs[j]? = some v->R ok w s.H β s.nx p v) :
  Rel (a.tmps::G) n w0 ok { tmps:=(ps.zip vs).foldl (λt (x:Tmp×Value)=>t.setIfInBounds x.1 x.2) a.tmps,defers:=[] } w (rC ps.toList xs s) β:=by
 obtain⟨fr,H,nx,sv⟩:=s;have hf:(ps.zip vs).foldl (λt (x:Tmp×Value)=>t.setIfInBounds x.1 x.2) a.tmps=(ps.toList.zip vs.toList).foldl (λt (x:Tmp×Value)=>t.setIfInBounds x.1 x.2) a.tmps:=by
  rw [<-Array.foldl_toList,Array.toList_zip]
 rw [hf];have hsz:=h.size;refine⟨λt ht=>?_,by rw [lL];exact h.size,Marks.nil _,h.heap,h.ext,h.oklt,⟨λt ht=>h.fr t (by rw [<-hsz];exact ht),h.sv⟩,h.pins⟩;exact py ps.toList xs vs.toList fr a.tmps (by simpa using l1) (by simpa using l2) (λj p v hp hv=>hR j p v hp (by simpa using hv)) (λk hk=>h.fr k (by rw [<-hsz];exact hk)) t (by rw [hsz];exact ht)
theorem Rel.leave {tm:Array Value} {f0 fr:Nat->PV} {H:Heap} {nx:Nat} {sv:List (Nat->PV)} (h:Rel (tm::G) n w0 ok a w ⟨f0,H,nx,fr::sv⟩ β) {a':Act} (ht:a'.tmps=tm) (hsz:tm.size=n)
  (hd:Marks w0 a'.defers):Rel G n w0 ok a' w ⟨fr,H,nx,sv⟩ β :=
 ⟨λt h1=>by rw [ht];exact h.sv.1 t (by rw [hsz];exact h1),by rw [ht];exact hsz,hd,h.heap,h.ext,h.oklt,h.sv.2,h.pins⟩
theorem pz {Z:List (Nat->PV)->bE->Prop} (hE:EnvOk P E) (hZ:lG Z) {D:Opt} (hst:E.strict=false) {g:Operand} {ps:Array Tmp} {x b:Code} (hg:aT n g=true)
  (ihx:∀(l:Nat) (Z':List (Nat->PV)->bE->Prop) (G':List (Array Value)) (s:St) (K:Exit->St->Prop) (a:Act) (w:World) (Q:Exit->Act->World->Prop),lG Z'->vc P E.noYield D.inRound x s K->Sim false Z' G' n A a w s ->
   (∀e s' a' w',K e s'->Sim false Z' G' n A a' w' s'->Q e a' w')->x.wpIn (FW (some l)) 0 P Q a w)
  (ihb:∀(l:Nat) (Z':List (Nat->PV)->bE->Prop) (G':List (Array Value)) (s:St) (K:Exit->St->Prop) (a:Act) (w:World) (Q:Exit->Act->World->Prop),lG Z'->vc P E.noYield D.inRound b s K->Sim false Z' G' n A a w s ->
   (∀e s' a' w',K e s'->Sim false Z' G' n A a' w' s'->Q e a' w')->b.wpIn (FW (some l)) 0 P Q a w)
  {K:Exit->St->Prop} {Q:Exit->Act->World->Prop} (e:vc P E D (.rangeFunc g ps x b) s K) (h:Sim false Z G n A a w s) (hQ:∀e s' a' w',K e s'->Sim false Z G n A a' w' s'->Q e a' w'):(Code.rangeFunc g ps x b).wpIn Fence.wide 0 P Q a w:=by
 classical
 obtain⟨call,own,inl,seq,yl,strict⟩:=E;simp only at hst;subst hst;change f5 g ps (λE D s K=>vc P E D x s K) (λE D s K=>vc P E D b s K) _ D s K at e;unfold f5 at e;split at e
 ·rename_i f caps hdr _ hcal
  split at e
  ·rename_i ds hds hre
   split at e
   ·rename_i q hq
    obtain⟨hpre,α,I,S,⟨y0,σ0,hI0,hw0⟩,hrd,hdn⟩:=dm.1 e;obtain⟨b0,ok,β,hz,hr0,hA1,hA2,_⟩:=h;obtain⟨us,lb,hev,hus,hlb,hcR⟩:=lK hr0 hg hcal;obtain rfl:us = #[]:=by simpa using hus.symm
    obtain⟨hent,hseq⟩:=hE.2.2 f ds q hq;obtain⟨m1,m2⟩:=bA hds;have hsize:=hr0.ext.size;obtain⟨l,hl⟩:∃l,l=w.heap.size+1:=⟨_,rfl⟩;obtain⟨D0,hD0⟩:∃D0,D0=w.heap.size:=⟨_,rfl⟩;have hlD:l≠D0:=by omega
    have hokl:¬ok l:=λhk=>by have:=hr0.oklt l hk;omega
    have hokD:¬ok D0:=λhk=>by have:=hr0.oklt D0 hk;omega
    refine wpIn_rangeFunc ?_;intro fn _;let rec':LoopState->Option Code->Loop:=λst pe=>{ state:=st,pending:=pe,fn,tmps:=a.tmps,params:=ps,assign:=x,body:=b,defers:=w.heap.size };let pinR:LoopState->Option Code->Nat->Option Obj:=λst pe k=>if k=l then some (.loop (rec' st pe)) else if k=D0 then some (.deferred (some [])) else if ok k then w.heap[k]? else none
    have pinl:∀st pe,pinR st pe l=some (.loop (rec' st pe)):=λst pe=>by simp [pinR]
    have pinD:∀st pe,pinR st pe D0=some (.deferred (some [])):=λst pe=>by simp [pinR,Ne.symm hlD]
    have pink:∀st pe k,ok k->pinR st pe k=w.heap[k]?:=λst pe k hk=>by
     have h1:k≠l:=λe=>hokl (e▸hk);have h2:k≠D0:=λe=>hokD (e▸hk);simp [pinR,h1,h2,hk]
    have pininv:∀st pe k o,pinR st pe k=some o->(k=l/\o=.loop (rec' st pe))\/(k≠l/\((k=D0/\o=.deferred (some []))\/(k≠D0/\ok k/\w.heap[k]? = some o))):=by
     intro st pe k o hk;simp only [pinR] at hk;split at hk
     ·rename_i h1;cases hk;exact .inl ⟨h1,rfl⟩
     ·rename_i h1
      split at hk
      ·rename_i h2;cases hk;exact .inr ⟨h1,.inl ⟨h2,rfl⟩⟩
      ·rename_i h2
       split at hk
       ·rename_i h3;exact .inr ⟨h1,.inr ⟨h2,h3,hk⟩⟩
       ·cases hk
    have pinsame:∀st pe st' pe' k o,k≠l->pinR st pe k=some o->pinR st' pe' k=some o:=by
     intro st pe st' pe' k o hk ho;simp only [pinR,hk,if_false] at ho ⊢;exact ho
    have pin0:∀st pe k o,b0.pin k=some o->pinR st pe k=some o:=λst pe k o hk=>by
     obtain⟨h1,h2⟩:=hr0.pins k o hk;rw [pink st pe k h1,h2]
    have oldD:b0.old D0=none:=by
     cases ho:b0.old D0 with
     |none=>rfl
     |some o=>exact(hokD (hr0.pins D0 o (hZ.old _ _ hz D0 o ho)).1).elim
    let bR:LoopState->Option Code->bE:=λst pe=>⟨b0.toWorld,pinR st pe,b0.old⟩;let a1:Act:={ a with defers:=[{ target:=.collected D0,args:=#[] }]++a.defers };have ha1:∀(b':bE),b'.toWorld=b0.toWorld->b'.old=b0.old->b'.pin D0=some (.deferred (some []))->(∀k o,b0.pin k=some o->b'.pin k=some o)->Marks b' a1.defers:=by
     intro b' h1 h2 h3D h3;refine⟨List.nodup_cons.2 ⟨λhd=>?_,hr0.defers.1⟩,λd hd=>?_⟩
     ·obtain⟨D,e1,e2,_⟩:=hr0.defers.2 _ hd;cases e1;exact hokD (hr0.pins D0 _ e2).1
     rw [h1,h2];simp only [a1,List.singleton_append,List.mem_cons] at hd;rcases hd with rfl|hd
     ·exact⟨D0,rfl,h3D,by omega,oldD⟩
     ·obtain⟨D,e1,e2,e3,e4⟩:=hr0.defers.2 d hd;exact⟨D,e1,h3 D _ e2,e3,e4⟩
    let J:Nat->World->Prop:=λi W=>∃(y : α) (okx:Nat->Prop) (βx:Nat->Value),I i y/\Z (S y).sv b0/\Rel G n (bR .ready none) okx a1 W (S y) βx/\(∀k,A k->okx k)/\∀k,okx k->A k\/b0.heap.size<=k;let Jx:World->Prop:=λW=>∃(c:Code) (e:Exit) (s':St) (okx:Nat->Prop) (βx:Nat->Value),K e s'/\((e=.ret/\c=.ret)\/∃j,e=.exit j/\c=.exit j)/\Z s'.sv b0/\Rel G n (bR .done (some c)) okx a1 W s' βx/\(∀k,A k->okx k)/\∀k,okx k->A k\/b0.heap.size<=k;obtain⟨W1,hW1⟩:∃W1,(w.alloc (.deferred (some []))).alloc (.loop (rec' .ready none))=W1:=⟨_,rfl⟩;have hb1:Below w.heap.size w W1:=by rw [<-hW1];exact((Below.refl _ w).alloc (Nat.le_refl _) _).alloc (by simp) _
    have hW1l:W1.heap[l]? = some (.loop (rec' .ready none)):=by
     rw [<-hW1,hl];have:=World.alloc_heap_new (w.alloc (.deferred (some []))) (.loop (rec' .ready none));rwa [World.size_alloc] at this
    have hW1D:W1.heap[D0]? = some (.deferred (some [])):=by
     rw [<-hW1,hD0];exact(Below.heap_alloc _ _ _ (by simp)).trans (World.alloc_heap_new w _)
    have hW1s:W1.heap.size=w.heap.size+2:=by rw [<-hW1];simp
    have hJ0:J 0 W1:=by
     have h1:=hr0.weak hw0;obtain⟨h2,_⟩:=h1.widen hb1 (λk=>k=l\/k=D0) (λk hk=>by omega);refine⟨y0,_,_,hI0,hZ.weak _ _ _ hw0.sv hz,h2.base rfl rfl (λk o hk=>?_) (ha1 _ rfl rfl (pinD _ _) λk o hk=>pin0 _ _ _ _ hk),λk hk=>.inl (.inl (hA1 k hk)),λk hk=>?_⟩
     ·rcases pininv _ _ k o hk with ⟨rfl,rfl⟩|⟨_,⟨rfl,rfl⟩|⟨_,h3,h4⟩⟩
      ·exact⟨.inr (.inl rfl),hW1l⟩
      ·exact⟨.inr (.inr rfl),hW1D⟩
      ·exact⟨.inl (.inl h3),(hb1.block k (hr0.oklt k h3)).trans h4⟩
     ·rcases hk with hk|hk
      ·exact(lF hr0 k hk).elim (λhk=>(hA2 k hk).imp id And.right) .inr
      ·exact .inr (by omega)
    have hJb:∀i W W',J i W->Below W.heap.size W W'->J i W':=λi W W' ⟨y,okx,βx,h1,h2,h3,h4⟩ hb=>⟨y,okx,βx,h1,h2,h3.below hb,h4⟩;have hJxb:∀W W',Jx W->Below W.heap.size W W'->Jx W':=λW W' ⟨c,e,s',okx,βx,h1,h2,h3,h4,h5⟩ hb=>⟨c,e,s',okx,βx,h1,h2,h3,h4.below hb,h5⟩;have harg:∀(i:Nat) p v,ds[i]? = some p->lb[i]? = some v->R0 ok W1 p v:=by
     intro i p v hp hv;obtain⟨y,e1,e2⟩:=m2 i p hp;have:=dZ (A:=ok) hr0.heap (λ_ h=>h) 4 y p v (hcR i y v e1 hv) e2 λid hid hlt k hk=>by
      have:id∈caps.flatMap (cr s.H 4):=List.mem_flatMap.2 ⟨y,List.mem_of_getElem? e1,hid⟩;rw [hre] at this;cases this
     exact this.later (λ_ h=>h) (λad v hk hc=>by rw [hb1.cell (hr0.oklt _ hk)];exact hc)
    have hlb':ds.length=lb.size:=by rw [m1];exact hlb
    refine⟨l,[{ target:=.collected D0,args:=#[] }],W1,{ target:=.fn (.func f) lb,args:=#[.func (.yield l) #[] #[]] },W1,f,#[.func (.yield l) #[] #[]]++lb,W1,?_,?_,λ_ _=>trivial,?_,λh=>(by simp [Fence.wide] at h),?_⟩
    ·rw [<-hW1,hl,hD0];exact run_enterLoop_outer _ _ _ _ _
    ·simp only [resolve,hev];simp [go_sem]
    ·simp [invoke,go_sem,hent]
    ·refine(hseq hpre ok W1 lb l J Jx (λk hk=>by have:=hr0.oklt k hk;omega) hlb' harg hJb hJxb ?_ hJ0).mono ?_
     ·
      rintro i W vs hi ⟨y,okx,βx,hIy,hzy,hr,hx1,hx2⟩ hlen hR0;have hlW:=(hr.pins l _ (pinl _ _)).2;obtain⟨hps,hv⟩:=hrd i y hi hIy;have hok:∀k,ok k->okx k:=λk hk=>by
       have h1:k < w.heap.size:=hr0.oklt k hk;have h2:w.heap[k]? = some w.heap[k]:=by simp [h1]
       exact(hr.pins k _ ((pink .ready none k hk).trans h2)).1
      have hkeep:∀k,ok k->W.heap[k]? = w.heap[k]?:=λk hk=>by
       have h1:k < w.heap.size:=hr0.oklt k hk;have h2:w.heap[k]? = some w.heap[k]:=by simp [h1]
       rw [h2];exact(hr.pins k _ ((pink .ready none k hk).trans h2)).2
      let Zr:LoopState->List (Nat->PV)->bE->Prop:=λst sv b'=>∃f r,sv=f::r/\b'.toWorld=b0.toWorld/\b'.old=b0.old/\(∀k o,pinR st none k=some o->b'.pin k=some o)/\Z r b0;have hZr:∀st,lG (Zr st):=λst=>by
       refine⟨?_,?_,?_⟩
       ·rintro sv sv' b' hall ⟨f,r,rfl,h1,h2,h3,h4⟩;cases sv' with
        |nil=>exact hall.elim
        |cons f' r'=>exact⟨f',r',rfl,h1,h2,h3,hZ.weak _ _ _ hall.2 h4⟩
       ·rintro sv b1 b2 e1 e2 e3 ⟨f,r,rfl,h1,h2,h3,h4⟩;exact⟨f,r,rfl,e1.trans h1,e2.trans h2,λk o hk=>e3 k o (h3 k o hk),h4⟩
       ·rintro sv b1 ⟨f,r,rfl,h1,h2,h3,h4⟩ k o hk;rw [h2] at hk;exact h3 k o (pin0 _ _ _ _ (hZ.old _ _ hz k o hk))
      have hvs:vs.size=ps.size:=by rw [<-hlen];exact hps
      have hy:=run_yield (P:=P) (args:=vs) hlW hvs;refine⟨fn,_,x,b,hy,roundIn_of_wpIn trivial ?_⟩;refine ihx l (Zr .ready) (a.tmps::G) (rC ps.toList (q.xs i) (S y)) _ _ W _ (hZr _) hv ⟨bR .ready none,okx,βx,⟨(S y).fr,(S y).sv,by cases S y;rfl,rfl,rfl,λk o hk=>hk,hzy⟩,
       Rel.enter (a:=a1) hr hps hvs (λj p v hp hv=>.deep _ _ ((hR0 j p v hp hv).later hok λ_ _ _ h=>h)),hx1,λk hk=>(hx2 k hk).imp id λh=>⟨rfl,h⟩,nofun⟩ ?_
      intro e s1 a2 w1 hk hsim1;cases e with
      |normal =>
       simp only at hk;obtain⟨b1,ok1,β1,⟨f1,r1,hsv1,hb1w,hb1o,hb1p,hz1⟩,hr1,h1a,h1b,_⟩:=hsim1;have hl1:=hr1.pins l _ (hb1p l _ (pinl _ _));refine⟨_,run_beginRound hl1.2 rfl,?_⟩;let b2:bE:=⟨b1.toWorld,λk=>if k=l then some (.loop (rec' .busy none)) else b1.pin k,b1.old⟩;have hr2:Rel (a.tmps::G) n b2 ok1 a2 (w1.putObj l (.loop (rec' .busy none))) s1 β1:=by
        refine hr1.turnPin hl1.2 rfl (by rw [hb1w];omega) rfl rfl (λk o hk=>?_) ⟨hr1.defers.1,λd hd=>?_⟩
        ·simp only [b2] at hk;split at hk
         ·rename_i h1;cases hk;exact .inl ⟨h1,rfl,hl1.1⟩
         ·rename_i h1;exact .inr ⟨h1,hk⟩
        ·obtain⟨D,e1,e2,e3,e4⟩:=hr1.defers.2 d hd;have hne:D≠l:=λe=>by
          have:=hb1p l _ (pinl _ _);rw [<-e,e2] at this;cases this
         exact⟨D,e1,by simp [b2,hne,e2],e3,e4⟩
       refine ihb l (Zr .busy) (a.tmps::G) s1 _ a2 _ _ (hZr _) hk ⟨b2,ok1,β1,⟨f1,r1,hsv1,hb1w,hb1o,λk o hk=>?_,hz1⟩,hr2,h1a,h1b,nofun⟩ ?_
       ·simp only [b2];split
        ·rename_i h1;subst h1;rw [<-hk];exact(pinl _ _).symm
        ·rename_i h1;exact hb1p k o (pinsame _ _ _ _ k o h1 hk)
       intro e s2 a3 w2 hk2 hsim2;obtain⟨f0,H,nx,sv0⟩:=s2;obtain⟨b3,ok3,β3,⟨fr,sv,hsv3,hb3w,hb3o,hb3p,hz3⟩,hr3,h3a,h3b,_⟩:=hsim2;simp only at hsv3;subst hsv3;simp only at hk2;have hl3:=hr3.pins l _ (hb3p l _ (pinl _ _));have hsz:a.tmps.size=n:=hr0.size;have ha3:=ha1 b3 hb3w hb3o (hb3p D0 _ (pinD _ _)) λk o hk=>hb3p k o (pin0 _ _ _ _ hk);have hlv:Rel G n b3 ok3 a1 w2 ⟨fr,H,nx,sv⟩ β3:=hr3.leave rfl hsz ha3;have hb3s:b3.heap.size=b0.heap.size:=by rw [hb3w]
       have turn:∀(st:LoopState) (pe:Option Code),Rel G n (bR st pe) ok3 a1 (w2.putObj l (.loop (rec' st pe))) ⟨fr,H,nx,sv⟩ β3:=λst pe=>by
        refine hlv.turnPin hl3.2 rfl (by rw [hb3s];omega) hb3w.symm rfl (λk o hk=>?_) (ha1 _ rfl rfl (pinD _ _) λk o hk=>pin0 _ _ _ _ hk);rcases pininv _ _ k o hk with ⟨rfl,rfl⟩|⟨h1,_⟩
        ·exact .inl ⟨rfl,rfl,hl3.1⟩
        ·exact .inr ⟨h1,hb3p k o (pinsame _ _ _ _ k o h1 hk)⟩
       have keep:∀o,vF ok W (w2.putObj l o):=λo k hk=>by
        have h1:k < w.heap.size:=hr0.oklt k hk;have h2:w.heap[k]? = some w.heap[k]:=by simp [h1]
        have hne:k≠l:=λe=>hokl (e▸hk);rw [World.putObj_heap_other hne,hkeep k hk,h2];exact(hr3.pins k _ (hb3p k _ ((pink .busy none k hk).trans h2))).2
       have end3:∀k,ok3 k->A k\/b0.heap.size<=k:=λk hk=>(h3b k hk).imp id λh=>by rw [<-hb3s];exact h.2
       cases e with
       |normal =>
        obtain⟨z,σ,hIz,hwz⟩:=hk2;have ht:=turn .ready none;exact⟨_,_,run_endRound none hl3.2,.inl ⟨rfl,z,_,_,hIz,hZ.weak _ _ _ hwz.sv hz3,ht.weak hwz,λk hk=>.inl (h3a k hk),λk hk=>(lF ht k hk).elim (end3 k) .inr⟩,keep _⟩
       |ret=>exact⟨_,_,run_endRound (some .ret) hl3.2,.inr ⟨rfl,.ret,.ret,_,_,_,hk2,.inl ⟨rfl,rfl⟩,hz3,turn .done (some .ret),h3a,end3⟩,keep _⟩
       |exit j=>exact⟨_,_,run_endRound (some (.exit j)) hl3.2,.inr ⟨rfl,.exit j,.exit j,_,_,_,hk2,.inr ⟨j,rfl,rfl⟩,hz3,turn .done (some (.exit j)),h3a,end3⟩,keep _⟩
       |_=>exact hk2.elim
      |_=>exact hk.elim
     ·
      rintro e W' ⟨⟨v,rfl⟩,hend⟩;let bF:bE:=⟨b0.toWorld,λk=>if k=D0 then some (.deferred (some [])) else b0.pin k,b0.old⟩;have hzF:∀sv,Z sv b0->Z sv bF:=λsv hz'=>hZ.up sv b0 bF rfl rfl (λk o hk=>by
       have:k≠D0:=λe=>hokD (e▸(hr0.pins k o hk).1);simp [bF,this,hk]) hz'
      have fin:∀(st:LoopState) (pe:Option Code) (s':St) (okx:Nat->Prop) (βx:Nat->Value),st≠.busy->Rel G n (bR st pe) okx a1 W' s' βx->(Instr.endLoop l).run P W'=.ok pe (W'.putObj l (.loop { rec' st pe with state:=.exhausted }))/\Rel G n bF okx a1 (W'.putObj l (.loop { rec' st pe with state:=.exhausted })) s' βx:=λst pe s' okx βx hne hr=>by
       have hlW:=(hr.pins l _ (pinl _ _)).2;refine⟨run_endLoop hlW hne,hr.turnPin hlW rfl (show b0.heap.size<=l by omega) rfl rfl (λk o hk=>?_) (ha1 _ rfl rfl (if_pos rfl) λk o hk=>?_)⟩
       ·simp only [bF] at hk;split at hk
        ·rename_i h1;cases hk;subst h1;exact .inr ⟨Ne.symm hlD,pinD _ _⟩
        ·exact .inr ⟨λe=>hokl (e▸(hr0.pins k o hk).1),pin0 _ _ _ _ hk⟩
       ·have:k≠D0:=λe=>hokD (e▸(hr0.pins k o hk).1);simp [bF,this,hk]
      rcases hend with ⟨y,okx,βx,hIy,hzy,hr,hx1,hx2⟩|⟨c,e,s',okx,βx,hk,hce,hzs,hr,hx1,hx2⟩
      ·obtain⟨h1,h2⟩:=fin .ready none _ _ _ nofun hr;exact⟨none,_,h1,hQ .normal (S y) a1 _ (hdn y hIy) ⟨bF,okx,βx,hzF _ hzy,h2,hx1,λk hk=>(hx2 k hk).imp id λh=>⟨rfl,h⟩,nofun⟩⟩
      ·obtain⟨h1,h2⟩:=fin .done (some c) _ _ _ nofun hr;have hs:Sim false Z G n A a1 (W'.putObj l (.loop { rec' .done (some c) with state:=.exhausted })) s':=⟨bF,okx,βx,hzF _ hzs,h2,hx1,λk hk=>(hx2 k hk).imp id λh=>⟨rfl,h⟩,nofun⟩;refine⟨some c,_,h1,?_⟩;rcases hce with ⟨rfl,rfl⟩|⟨j,rfl,rfl⟩
       ·exact wpIn_ret (hQ _ _ _ _ hk hs)
       ·exact wpIn_exit (hQ _ _ _ _ hk hs)
   ·exact e.elim
  ·exact e.elim
 ·exact e.elim
end
open Go.RowKit
section
variable {P:Program}
theorem lM {st:Bool} {Z:List (Nat->PV)->bE->Prop} {G:List (Array Value)} {n:Nat} {A:Nat->Prop} {a:Act} {w:World} {s:St} {E:Env} (hst:E.strict=st) (hZ:lG Z) (h:Sim st Z G n A a w s) {σ : Ren} {s':St} (hw:Weak σ (E.cut s) s'):Sim st Z G n A a w s':=by
 subst hst;exact h.weak hZ hw
theorem ji (hm:P.follows .mixedOrders=true):∀(c:Code) (E:Env) (D:Opt) (rd:Option Nat) (Z:List (Nat->PV)->bE->Prop) (G:List (Array Value)) (n:Nat) (A:Nat->Prop),EnvOk P E->lG Z->vH P E Z G A->(D.round=false->rd=none) ->
  ∀(s:St) (K:Exit->St->Prop) (a:Act) (w:World) (Q:Exit->Act->World->Prop),cN D.toOrd n c=true->vc P E D c s K->Sim E.strict Z G n A a w s ->
  (∀e s' a' w',K e s'->Sim E.strict Z G n A a' w' s'->Q e a' w')->c.wpIn (FW rd) 0 P Q a w:=by
 intro c
 induction c with
 |skip=>intro E D rd Z G n A hE hZ hY hrd s K a w Q _ e h hQ;exact wpIn_skip (hQ _ _ _ _ e h)
 |region id ops draw=>intro E D rd Z G n A hE hZ hY hrd s K a w Q hc e h hQ;exact nL hm hE hZ hY hrd hc e h λs' a' w'=>hQ .normal s' a' w'
 |seq x y ihx ihy =>
  intro E D rd Z G n A hE hZ hY hrd s K a w Q hc e h hQ;simp only [cN,Bool.and_eq_true] at hc;change rD x (λE D s K=>vc P E D x s K) (λE D s K=>vc P E D y s K) E D s K at e;unfold rD at e;split at e
  ·obtain⟨α,I,S,e1,e2⟩:=e;refine wpIn_seq (ihx E D rd Z G n A hE hZ hY hrd s _ a w _ hc.1 e1 h λe s' a' w' hk h'=>?_);cases e with
   |normal =>
    obtain⟨y,σ,hy,hw⟩:=hk;exact ihy E D rd Z G n A hE hZ hY hrd _ K a' w' Q hc.2 (e2 y hy) (lM rfl hZ h' hw) hQ
   |_=>exact hQ _ _ _ _ hk h'
  ·refine wpIn_seq (ihx E D rd Z G n A hE hZ hY hrd s _ a w _ hc.1 e h λe s' a' w' hk h'=>?_);cases e with
   |normal=>exact ihy E D rd Z G n A hE hZ hY hrd _ K a' w' Q hc.2 hk h' hQ
   |_=>exact hQ _ _ _ _ hk h'
 |cond c x y ihx ihy =>
  intro E D rd Z G n A hE hZ hY hrd s K a w Q hc e h hQ;simp only [cN,Bool.and_eq_true] at hc;change rE c (λE D s K=>vc P E D x s K) (λE D s K=>vc P E D y s K) E D s K at e;unfold rE at e;split at e
  ·rename_i t ht
   have hv:a.eval c=.bool t:=by
    obtain⟨b,ok,β,_,h,_⟩:=h;exact h.evv hc.1.1 ht
   refine wpIn_cond hv ?_;cases t
   ·exact ihy E D rd Z G n A hE hZ hY hrd s K a w Q hc.2 (e.2 rfl) h hQ
   ·exact ihx E D rd Z G n A hE hZ hY hrd s K a w Q hc.1.2 (e.1 rfl) h hQ
  ·exact e.elim
 |block id b ih =>
  intro E D rd Z G n A hE hZ hY hrd s K a w Q hc e h hQ;simp only [cN] at hc;change nK id (λE D s K=>vc P E D b s K) E D s K at e;unfold nK at e;refine wpIn_block (ih E D rd Z G n A hE hZ hY hrd s _ a w _ hc e h λe1 s' a' w' hk h'=>?_);cases e1 with
  |exit j =>
   simp only [Exit.inBlock];simp only at hk;split
   ·rename_i hj;simp only [hj,beq_self_eq_true,cond_true] at hk;exact hQ _ _ _ _ hk h'
   ·rename_i hj
    have:(j==id)=false:=by simpa using hj
    simp only [this,cond_false] at hk;exact hQ _ _ _ _ hk h'
  |_=>exact hQ _ _ _ _ hk h'
 |loop b ih =>
  intro E D rd Z G n A hE hZ hY hrd s K a w Q hc e h hQ;simp only [cN] at hc;change rG (λE D s K=>vc P E D b s K) E D s K at e;unfold rG at e;obtain⟨α,I,S,μ,⟨x,σ,hx,hw⟩,e⟩:=e;have key:∀(m:Nat) (x : α) (a:Act) (w:World),I x->μ x < m->Sim E.strict Z G n A a w (S x)->Code.roundsIn (FW rd) 0 P b Q m a w:=by
   intro m
   induction m with
   |zero=>intro x a w _ hm;omega
   |succ m ihm =>
    intro x a w hx hm h;unfold Code.roundsIn;refine ih E D rd Z G n A hE hZ hY hrd _ _ a w _ hc (e x hx) h λe1 s' a' w' hk h'=>?_;cases e1 with
    |normal =>
     obtain⟨y,σ,hy,hμ,hw⟩:=hk;exact ihm y a' w' hy (by omega) (lM rfl hZ h' hw)
    |_=>exact hQ _ _ _ _ hk h'
  exact wpIn_loop_rounds (μ x+1) (key (μ x+1) x a w hx (by omega) (lM rfl hZ h hw))
 |exit id=>intro E D rd Z G n A hE hZ hY hrd s K a w Q _ e h hQ;exact wpIn_exit (hQ _ _ _ _ e h)
 |ret=>intro E D rd Z G n A hE hZ hY hrd s K a w Q _ e h hQ;exact wpIn_ret (hQ _ _ _ _ e h)
 |rangeFunc g ps x b ihx ihb =>
  intro E D rd Z G n A hE hZ hY hrd s K a w Q hc e h hQ;simp only [cN,Bool.and_eq_true] at hc;have hr:D.round=false:=by
   cases hr:D.round with
   |false=>rfl
   |true =>
    change f5 g ps (λE D s K=>vc P E D x s K) (λE D s K=>vc P E D b s K) E D s K at e;simp [f5,hr] at e
  have hs:E.strict=false:=by
   cases hs:E.strict with
   |false=>rfl
   |true =>
    change f5 g ps (λE D s K=>vc P E D x s K) (λE D s K=>vc P E D b s K) E D s K at e;simp [f5,hs,hr] at e
  rw [hrd hr];rw [hs] at h hQ;have hE':EnvOk P E.noYield:=by cases E;exact⟨hE.1,hE.2.1,hE.2.2⟩
  have hs':E.noYield.strict=false:=by cases E;exact hs
  have hy':∀(Z':List (Nat->PV)->bE->Prop) (G':List (Array Value)),vH P E.noYield Z' G' A:=by cases E;exactλ_ _=>nofun
  have hd':D.inRound.round=false->(some 0:Option Nat)=none:=by cases D;exact nofun
  have ho':D.inRound.toOrd=D.toOrd:=by cases D;rfl
  refine pz hE hZ hs hc.1.1.1 (λl Z' G' s K a w Q hZ' e h hQ=>?_) (λl Z' G' s K a w Q hZ' e h hQ=>?_) e h hQ
  ·exact ihx E.noYield D.inRound (some l) Z' G' n A hE' hZ' (hy' Z' G') (λh=>nomatch (hd' h)) s K a w Q (by rw [ho'];exact hc.1.2) e (by rw [hs'];exact h) (by rw [hs'];exact hQ)
  ·exact ihb E.noYield D.inRound (some l) Z' G' n A hE' hZ' (hy' Z' G') (λh=>nomatch (hd' h)) s K a w Q (by rw [ho'];exact hc.2) e (by rw [hs'];exact h) (by rw [hs'];exact hQ)
 |_=>intro E D rd Z G n A _ _ _ _ s K a w Q _ e;exact e.elim
end
open Go.RowKit
section
variable {P:Program} {E:Env} {D:Opt} {G:List (Array Value)} {n:Nat} {w0:bE} {ok A:Nat->Prop} {a:Act} {w:World} {s:St} {β : Nat->Value} {o:Oper}
def Z0 (w:World):List (Nat->PV)->bE->Prop:=λ_ b=>b.toWorld=w/\b.old=λ_=>none
theorem pA (w:World):lG (Z0 w):=⟨λ_ _ _ _ h=>h,λ_ _ _ h1 h2 _ h=>⟨h1.trans h.1,h2.trans h.2⟩,λ_ _ h k o e=>by rw [h.2] at e;cases e⟩
theorem mM {args:List PV} {vs:Array Value} (hA:∀k,A k->k < w.heap.size) (hl:args.length=vs.size) (hR:∀(i:Nat) p v,args[i]? = some p->vs[i]? = some v->R0 A w p v) (hn:args.length<=n) :
  Sim false (Z0 w) [] n A { tmps:=vs++Array.replicate (n - vs.size) undef,defers:=[] } w (start args):=by
 refine⟨⟨w,λ_=>none,λ_=>none⟩,A,λ_=>undef,⟨rfl,rfl⟩,⟨λt ht=>?_,by simp;omega,Marks.nil _,⟨by simp [start],by simp [start],by simp [start],by simp [start]⟩,Below.refl _ _,hA,trivial,nofun⟩,λ_ h=>h,λ_ h=>.inl h,nofun⟩;simp only [start];rcases Nat.lt_or_ge t args.length with h|h
 ·have e1:args[t]? = some args[t]:=by simp [h]
  have hv:t < vs.size:=by omega
  have e2:vs[t]? = some vs[t]:=by simp [hv]
  rw [e1,Option.getD_some,Array.getD_eq_getD_getElem?,Array.getElem?_append_left hv,e2,Option.getD_some];exact .deep _ _ (hR t _ _ e1 e2)
 ·rw [List.getElem?_eq_none h,Option.getD_none];have:(vs++Array.replicate (n - vs.size) undef).getD t undef=undef:=by
   rw [Array.getD_eq_getD_getElem?,Array.getElem?_append_right (by omega)];simp only [Array.getElem?_replicate];split<;>rfl
  rw [this];exact .val _
def jU (tmps:Array Value):ResultVar->Sem Value
 |.tmp t=>pure (tmps.getD t undef)
 |.cell x t=>do loadVar t (<-asAddr (tmps.getD x undef))
theorem iK (fn:Func) (tmps:Array Value):results fn tmps=(do let vs <-fn.results.mapM (jU tmps);pure (if h:vs.size=1 then vs[0] else .tuple vs)):=by
 unfold results;congr 1
theorem nM (h:Rel G n w0 ok a w s β) {x:ResultVar} (hx:(match x with | .tmp t=>decide (t < n) | .cell t _=>decide (t < n))=true) {p:PV} (e:jM P s x=some p) :
  ∃v,(jU a.tmps x).run P w=.ok v w/\R ok w s.H β s.nx p v:=by
 cases x with
 |tmp t =>
  simp only [jM,Option.some.injEq] at e;subst e;exact⟨_,rfl,h.fr t (by simpa using hx)⟩
 |cell t ty =>
  simp only [jM] at e;split at e
  ·rename_i id st i f hp
   simp only [Option.bind_eq_some_iff] at e;obtain⟨b,hb,e⟩:=e;have hR:=h.fr t (by simpa using hx);rw [hp] at hR;obtain⟨g,c,e1,hi,e2⟩:=hR.ptr_inv hb;obtain⟨u,_,hg,_,_,_,hl,h1,h2,_⟩:=h.heap.cells (aO hb).1 e1;obtain⟨v,hv1,hv2⟩:=ea (P:=P) (w:=w) (ok:=ok) (β:=β) (H:=s.H) (nx:=s.nx) (g:=g) (o:=0) w (λi hi=>(hl i hi).1) hi u (by simpa using h1) e;refine⟨v,?_,hv2 h2⟩;have:=hv1 w (by simpa using h1);rw [Nat.zero_add] at this;simp [jU,asAddr,e2,this]
  ·simp at e
theorem pB {α : Type} (f : α->Sem Value) (w:World):∀(l:List α) (vs:List Value),l.length=vs.length->(∀(i:Nat) x v,l[i]? = some x->vs[i]? = some v->(f x).run P w=.ok v w)->(l.mapM f).run P w=.ok vs w
 |[],[],_,_=>rfl
 |x::l,v::vs,hl,h=>by
  rw [List.mapM_cons];simp only [Sem.run_bind];rw [h 0 x v (by simp) (by simp)];simp only [Result.andThen_ok];rw [pB f w l vs (by simpa using hl) λi x v hx hv=>h (i+1) x v (by simpa using hx) (by simpa using hv)];rfl
 |[],_::_,hl,_=>by simp at hl
 |_::_,[],hl,_=>by simp at hl
theorem jj (h:Rel G n w0 ok a w s β) {fn:Func} (hx:(fn.results.toList.all λr=>match r with | .tmp t=>decide (t < n) | .cell t _=>decide (t < n))=true) {p:PV} (e:ln P s fn.results.toList=some p) :
  ∃v,(results fn a.tmps).run P w=.ok v w/\R ok w s.H β s.nx p v:=by
 have core:∀(ps:List PV),ep (jM P s) fn.results.toList=some ps->∃vs:List Value,ps.length=vs.length/\(fn.results.mapM (jU a.tmps)).run P w=.ok vs.toArray w/\∀(i:Nat) p v,ps[i]? = some p->vs[i]? = some v->R ok w s.H β s.nx p v:=by
  intro ps hps;obtain⟨m1,m2⟩:=bA hps;have hex:∀i,i < ps.length->∃v x p,fn.results.toList[i]? = some x/\ps[i]? = some p/\(jU a.tmps x).run P w=.ok v w/\R ok w s.H β s.nx p v:=by
   intro i hi;obtain⟨x,e1,e2⟩:=m2 i ps[i] (by simp);obtain⟨v,h1,h2⟩:=nM (P:=P) h (List.all_eq_true.1 hx x (List.mem_of_getElem? e1)) e2;exact⟨v,x,_,e1,by simp,h1,h2⟩
  let g:Nat->Value:=λi=>if hi:i < ps.length then Classical.choose (hex i hi) else undef
  refine⟨(List.range ps.length).map g,by simp,?_,λi p v hp hv=>?_⟩
  ·have:=pB (P:=P) (jU a.tmps) w fn.results.toList ((List.range ps.length).map g) (by simp [m1]) (λi x v hx hv=>by
    have hi:i < ps.length:=by rw [m1];exact(List.getElem?_eq_some_iff.1 hx).1
    obtain⟨x',p,e1,e2,e3,e4⟩:=Classical.choose_spec (hex i hi);rw [hx] at e1;cases e1;simp only [List.getElem?_map,List.getElem?_range hi,Option.map_some,Option.some.injEq] at hv;rw [<-hv];simp only [g,hi,dif_pos];exact e3)
   rw [<-Array.toList_mapM] at this;simp only [Sem.run_map] at this;generalize hq:(fn.results.mapM _:Sem (Array Value)).run P w=q at this ⊢;cases q with
   |ok x w' =>
    simp only [Result.andThen_ok,Result.ok.injEq] at this;rw [<-this.1,this.2]
   |halt=>simp at this
  ·have hi:i < ps.length:=(List.getElem?_eq_some_iff.1 hp).1;obtain⟨x',p',e1,e2,e3,e4⟩:=Classical.choose_spec (hex i hi);rw [hp] at e2;cases e2;simp only [List.getElem?_map,List.getElem?_range hi,Option.map_some,Option.some.injEq] at hv;rw [<-hv];simp only [g,hi,dif_pos];exact e4
 unfold ln at e;split at e
 ·rename_i x hx1
  obtain⟨vs,l,hrun,hR⟩:=core [p] (by rw [hx1];simp [ep,e])
  match vs,l with
  |[v],_ =>
   refine⟨v,?_,hR 0 p v (by simp) (by simp)⟩;rw [iK];simp [hrun]
 ·rename_i hne
  simp only [Option.map_eq_some_iff] at e;obtain⟨ps,hps,rfl⟩:=e;obtain⟨vs,l,hrun,hR⟩:=core ps hps;have hlen:vs.length≠1:=by
   intro h1;obtain⟨m1,_⟩:=bA hps;have:fn.results.toList.length=1:=by omega
   match hr:fn.results.toList,this with
   |[x],_=>exact hne x hr
  refine⟨.tuple vs.toArray,?_,.tup _ _ (by simpa using l) λi p u hp hu=>hR i p u hp (by simpa using hu)⟩;rw [iK];simp [hrun,hlen]
structure gl (H:Heap) (x:Acc):Prop where
 len:x.ids.length=x.out.length
 nodup:x.ids.Nodup
 get:∀(i:Nat) id b',x.ids[i]? = some id->x.out[i]? = some b'->∃b st,dX H id st=some b/\b.box=false/\b'.ty=b.ty/\b'.es=b.es/\(b'.st=0/\b'.box=false/\b'.arr=false)/\b'.n<=b.n/\b'.get=b.get
def AccExt (x y:Acc):Prop:=(∃l,y.ids=x.ids++l)/\(∃l,y.out=x.out++l)/\∀j∈x.seen,j∈y.seen
theorem AccExt.refl (x:Acc):AccExt x x:=⟨⟨[],by simp⟩,⟨[],by simp⟩,λ_ h=>h⟩
theorem AccExt.trans {x y z:Acc} (h:AccExt x y) (k:AccExt y z):AccExt x z:=by
 obtain⟨⟨l1,e1⟩,⟨l2,e2⟩,e3⟩:=h;obtain⟨⟨m1,f1⟩,⟨m2,f2⟩,f3⟩:=k;exact⟨⟨l1++m1,by rw [f1,e1,List.append_assoc]⟩,⟨l2++m2,by rw [f2,e2,List.append_assoc]⟩,λj hj=>f3 j (e3 j hj)⟩
def βF (β : Nat->Value) (x:Acc) (i:Nat):Value:=match x.ids[i]?,x.out[i]? with
 |some id,some b=>sub b.es 0 b.n (β id)
 |_,_=>undef
def tk (H:Heap) (x:Acc):Prop:=gl H x/\∀j∈x.seen,j∉x.ids
theorem kW {es len k:Nat} {v:Value} (h:(sub es 0 len v).ownBlock=some k):v.ownBlock=some k:=by
 unfold sub at h;split at h
 ·rename_i a m c
  obtain⟨b,o,c⟩:=a;simpa [Value.ownBlock,Addr.add] using h
 ·exact h
theorem xM {es len:Nat} {v:Value}:sub es 0 len (sub es 0 len v)=sub es 0 len v:=by
 cases v with
 |slice a m c=>cases a with
  |none=>rfl
  |some a=>obtain⟨b,o,q⟩:=a;simp [sub,Addr.add]
 |_=>rfl
theorem rK (h:Rel G n w0 ok a w s β) (hA2:∀k,ok k->A k\/w0.heap.size<=k) {x:Acc} (hx:tk s.H x) {d:Nat} {p q:PV} {v:Value} (hR:R ok w s.H β s.nx p v) (e:deep s.H d p=some q)
  (hs:∀j∈cr s.H d p,j∈x.seen):R0 (jg A w0.heap.size w.heap.size x.out (βF β x)) w q v:=by
 have hids:∀i id,i < x.out.length->x.ids[i]? = some id->id < s.H.length:=by
  intro i id hi hid;obtain⟨b,st,hb,_⟩:=hx.1.get i id x.out[i] hid (by simp [hi]);exact(List.getElem?_eq_some_iff.1 (aO hb).1).1
 have hβ : ∀i k,i < x.out.length->(βF β x i).ownBlock=some k->∃id,x.ids[i]? = some id/\id < s.H.length/\(β id).ownBlock=some k:=by
  intro i k hi hk;unfold βF at hk;split at hk
  ·rename_i id b hid hb
   exact⟨id,hid,hids i id hi hid,kW hk⟩
  ·simp [undef,Value.ownBlock] at hk
 refine dZ h.heap (λk hk=>?_) d p q v hR e λid hid hlt k hk=>?_
 ·rcases hA2 k hk with h1|h1
  ·exact .inl h1
  ·refine .inr ⟨h1,h.oklt k hk,λi hi hki=>?_⟩;obtain⟨id,_,e2,e3⟩:=hβ i k hi hki;exact h.heap.notok id k e2 e3 hk
 ·obtain⟨xs,h1,_⟩:=h.heap.own id s.H[id] (by simp [hlt]);have:=h1.lt k hk;refine .inr ⟨this.1,this.2,λi hi hki=>?_⟩;obtain⟨id',e1,e2,e3⟩:=hβ i k hi hki;have hne:id≠id':=λe=>hx.2 id (hs id hid) (e▸List.mem_of_getElem? e1);rcases h.heap.inj id id' hne hlt e2 with e|e
  ·rw [hk] at e;cases e
  ·exact e (by rw [hk,e3])
theorem ux (h:Rel G n w0 ok a w s β) (hA2:∀k,ok k->A k\/w0.heap.size<=k) {x:Acc} (hx:tk s.H x) {q:PV} {v:Value} (hR:R0 ok w q v):R0 (jg A w0.heap.size w.heap.size x.out (βF β x)) w q v:=by
 refine hR.later (λk hk=>?_) (λ_ _ _ h=>h);rcases hA2 k hk with h1|h1
 ·exact .inl h1
 ·refine .inr ⟨h1,h.oklt k hk,λi hi hki=>?_⟩;unfold βF at hki;split at hki
  ·rename_i id b hid hb
   obtain⟨b2,st,hb2,_⟩:=hx.1.get i id b hid hb;exact h.heap.notok id k (List.getElem?_eq_some_iff.1 (aO hb2).1).1 (kW hki) hk
  ·simp [undef,Value.ownBlock] at hki
def gY (A:Nat->Prop) (w0 w:World) (s:St) (β : Nat->Value) (x:Acc) (q:PV) (v:Value):Prop :=
 ∀y,AccExt x y->tk s.H y->R (jg A w0.heap.size w.heap.size y.out (βF β y)) w y.out (βF β y) 1 q v
theorem kq (h:Rel G n w0 ok a w s β) (hA2:∀k,ok k->A k\/w0.heap.size<=k) {x y:Acc} {p q:PV} {v:Value} (hR:R ok w s.H β s.nx p v) (hx:gl s.H x) (e:td s.H x p=some (y,q)) :
  gl s.H y/\AccExt x y/\gY A w0.toWorld w s β y q v:=by
 have other:∀{y q},(deep s.H 4 p).map (λq=>({ x with seen:=x.seen++cr s.H 4 p },q))=some (y,q)->gl s.H y/\AccExt x y/\gY A w0.toWorld w s β y q v:=by
  intro y q e;simp only [Option.map_eq_some_iff,Prod.mk.injEq] at e;obtain⟨q',e1,rfl,rfl⟩:=e;exact⟨⟨hx.len,hx.nodup,hx.get⟩,⟨⟨[],by simp⟩,⟨[],by simp⟩,λj hj=>by simp [hj]⟩,λz hz hf=>.deep _ _ (rK h hA2 hf hR e1 λj hj=>hz.2.2 j (by simp [hj]))⟩
 unfold td at e;simp only at e;split at e
 ·rename_i id st len
  simp only [Option.bind_eq_some_iff] at e;obtain⟨b,hb,e⟩:=e;split at e
  ·rename_i hc
   obtain⟨hbox,hnot⟩:=hc;simp only [Option.some.injEq,Prod.mk.injEq] at e;obtain⟨rfl,rfl⟩:=e;have hnot':id∉x.ids:=λhm=>by rw [List.contains_iff_mem.2 hm] at hnot;cases hnot
   obtain⟨e3,e4⟩:=hR.sl_inv hb;have e3:v=sub b.es 0 len (β id):=by
    rcases e3 with e3|⟨e3,_⟩
    ·exact e3
    ·exact absurd rfl e3
   refine⟨⟨by simp [hx.len],?_,λi id' b' h1 h2=>?_⟩,⟨⟨[id],rfl⟩,⟨_,rfl⟩,λj hj=>hj⟩,λz hz hf=>?_⟩
   ·rw [List.nodup_append];refine⟨hx.nodup,by simp,λi hi j hj=>?_⟩;simp only [List.mem_singleton] at hj;subst hj;intro e;exact hnot' (e▸hi)
   ·rcases Nat.lt_or_ge i x.ids.length with hi|hi
    ·rw [List.getElem?_append_left hi] at h1;rw [List.getElem?_append_left (by rw [<-hx.len];exact hi)] at h2;exact hx.get i id' b' h1 h2
    ·rw [List.getElem?_append_right hi] at h1;rw [List.getElem?_append_right (by rw [<-hx.len];exact hi)] at h2;rw [hx.len] at h1;cases hk:i - x.out.length with
     |succ k=>rw [hk] at h1;simp at h1
     |zero =>
      rw [hk] at h1 h2;simp only [List.getElem?_cons_zero,Option.some.injEq] at h1 h2;subst h1;subst h2;exact⟨b,st,hb,hbox,rfl,rfl,⟨rfl,rfl,rfl⟩,by simp only;omega,rfl⟩
   ·obtain⟨⟨l1,e1⟩,⟨l2,e2⟩,_⟩:=hz;simp only at e1 e2;have hid:z.ids[x.out.length]? = some id:=by rw [e1,<-hx.len];simp
    have hout:z.out[x.out.length]? = some ⟨b.ty,b.es,0,false,false,len,b.get⟩:=by rw [e2];simp
    refine .sl _ _ _ _ _ (hR.one rfl) (by omega) λb2 hb2=>?_;simp only [dX,hout,if_true,Option.some.injEq] at hb2;subst hb2;refine⟨.inl ?_,by simp⟩;simp only [βF,hid,hout,xM];exact e3
  ·exact other e
 ·exact other e
theorem gD {f:Acc->PV->Option (Acc×PV)} (hf:∀{x y:Acc} {p q:PV} {v:Value},R ok w s.H β s.nx p v->gl s.H x->f x p=some (y,q)->gl s.H y/\AccExt x y/\gY A w0.toWorld w s β y q v) :
  ∀(ps:List PV) (vs:List Value) {x y:Acc} {qs:List PV},ps.length=vs.length->(∀(i:Nat) p v,ps[i]? = some p->vs[i]? = some v->R ok w s.H β s.nx p v)->gl s.H x->mH f x ps=some (y,qs) ->
   gl s.H y/\AccExt x y/\qs.length=ps.length/\∀(i:Nat) q v,qs[i]? = some q->vs[i]? = some v->gY A w0.toWorld w s β y q v
 |[],vs,x,y,qs,_,_,hx,e=>by
  simp only [mH,Option.some.injEq,Prod.mk.injEq] at e;obtain⟨rfl,rfl⟩:=e;exact⟨hx,AccExt.refl _,rfl,by simp⟩
 |p::ps,[],_,_,_,hl,_,_,_=>by simp at hl
 |p::ps,v::vs,x,y,qs,hl,hR,hx,e=>by
  simp only [mH,Option.bind_eq_some_iff,Option.map_eq_some_iff,Prod.mk.injEq] at e;obtain⟨⟨x1,q1⟩,h1,⟨y1,qs1⟩,h2,rfl,rfl⟩:=e;obtain⟨k1,k2,k3⟩:=hf (hR 0 p v (by simp) (by simp)) hx h1;obtain⟨m1,m2,m3,m4⟩:=gD hf ps vs (by simpa using hl) (λi p v hp hv=>hR (i+1) p v (by simpa using hp) (by simpa using hv)) k1 h2;refine⟨m1,k2.trans m2,by simp [m3],λi q u hq hu=>?_⟩;cases i with
  |zero =>
   simp only [List.getElem?_cons_zero,Option.some.injEq] at hq hu;subst hq;subst hu;exactλz hz hfin=>k3 z (m2.trans hz) hfin
  |succ i=>exact m4 i q u (by simpa using hq) (by simpa using hu)
theorem R.mkTup {H:Heap} {nx:Nat} {xs:List PV} {vs:Array Value} (l:xs.length=vs.size) (h:∀(i:Nat) p u,xs[i]? = some p->vs[i]? = some u->R ok w H β nx p u):R ok w H β nx (mkTup xs) (.tuple vs):=by
 unfold Ex.mkTup;split
 ·rename_i us hus
  have hx:=gV hus;have:vs=us.toArray:=by
   apply Array.ext_getElem?;intro i;subst hx;simp only [List.length_map] at l;rcases Nat.lt_or_ge i us.length with hi|hi
   ·have:=h i (.val us[i]) vs[i] (by simp [hi]) (by simp);have:=this.val_eq;simp [this,hi,<-l]
   ·simp [hi,<-l]
  rw [this];exact .val _
 ·exact .tup xs vs l h
theorem kr (h:Rel G n w0 ok a w s β) (hA2:∀k,ok k->A k\/w0.heap.size<=k) {x y:Acc} {p q:PV} {v:Value} (hR:R ok w s.H β s.nx p v) (hx:gl s.H x) (e:te s.H x p=some (y,q)) :
  gl s.H y/\AccExt x y/\gY A w0.toWorld w s β y q v:=by
 unfold te at e;split at e
 ·rename_i xs
  simp only [Option.map_eq_some_iff,Prod.mk.injEq] at e;obtain⟨⟨y',qs⟩,h1,rfl,rfl⟩:=e;obtain⟨vs,rfl,l,hh⟩:=hR.agg_inv;obtain⟨k1,k2,k3,k4⟩:=gD (λhR hx e=>kq h hA2 hR hx e) xs vs.toList (by simpa using l) (λi p v hp hv=>hh i p v hp (by simpa using hv)) hx h1;exact⟨k1,k2,λz hz hf=>R.mkAgg (by simp;omega) λi p u hp hu=>k4 i p u hp (by simpa using hu) z hz hf⟩
 ·exact kq h hA2 hR hx e
theorem pC (h:Rel G n w0 ok a w s β) (hA2:∀k,ok k->A k\/w0.heap.size<=k) {x y:Acc} {p q:PV} {v:Value} (hR:R ok w s.H β s.nx p v) (hx:gl s.H x) (e:vA s.H x p=some (y,q)) :
  gl s.H y/\AccExt x y/\gY A w0.toWorld w s β y q v:=by
 unfold vA at e;split at e
 ·rename_i xs
  simp only [Option.map_eq_some_iff,Prod.mk.injEq] at e;obtain⟨⟨y',qs⟩,h1,rfl,rfl⟩:=e;obtain⟨vs,rfl,l,hh⟩:=hR.tup_inv;obtain⟨k1,k2,k3,k4⟩:=gD (λhR hx e=>kr h hA2 hR hx e) xs vs.toList (by simpa using l) (λi p v hp hv=>hh i p v hp (by simpa using hv)) hx h1;exact⟨k1,k2,λz hz hf=>R.mkTup (by simp;omega) λi p u hp hu=>k4 i p u hp (by simpa using hu) z hz hf⟩
 ·exact kr h hA2 hR hx e
theorem rL (h:Rel G n w0 ok a w s β) (hA2:∀k,ok k->A k\/w0.heap.size<=k) {p q:PV} {Hx:Heap} {v:Value} (hR:R ok w s.H β s.nx p v) (e:zO s.H p=some (q,Hx)):∃βx,Res A w0.toWorld w q Hx βx v:=by
 simp only [zO,Option.bind_eq_some_iff] at e;obtain⟨⟨y,q'⟩,h1,e⟩:=e;simp only at e;split at e
 ·rename_i hdis
  simp only [Option.some.injEq,Prod.mk.injEq] at e;obtain⟨rfl,rfl⟩:=e;obtain⟨k1,_,k3⟩:=pC h hA2 hR ⟨rfl,List.nodup_nil,by simp⟩ h1;have hfin:tk s.H y:=⟨k1,λj hj hj2=>by
   have:=List.all_eq_true.1 hdis j hj;rw [List.contains_iff_mem.2 hj2] at this;simp at this⟩
  have hid:∀i b',y.out[i]? = some b'->∃id,y.ids[i]? = some id/\βF β y i=sub b'.es 0 b'.n (β id):=by
   intro i b' hb';have hi':i < y.ids.length:=by rw [k1.len];exact(List.getElem?_eq_some_iff.1 hb').1
   exact⟨y.ids[i],by simp,by simp [βF,hi',hb']⟩
  refine⟨βF β y,⟨h.ext,λi b' hb'=>?_,λi b' hb'=>?_,λi j hne l1 l2=>?_,k3 y (AccExt.refl _) hfin⟩⟩
  ·obtain⟨id,e1,_⟩:=hid i b' hb';obtain⟨b,st,_,_,_,_,g4,_⟩:=k1.get i id b' e1 hb';exact g4
  ·obtain⟨id,e1,e2⟩:=hid i b' hb';obtain⟨b,st,g1,g0,g2,g3,g4,g5,g6⟩:=k1.get i id b' e1 hb';obtain⟨xs,m1,m2,_,_,m3⟩:=h.heap.own id b (aO g1).1;refine⟨xs.take (b'.n*b.es),by rw [e2,g2,g3];exact lA m1 g5,λi hi=>by rw [g6,g3];exact m2 i (by omega),λi f p hi hp=>?_⟩;rw [g6] at hp;obtain⟨u,e7,_,e8⟩:=m3 i f p (by omega) hp;have hf:f < b.es:=by rw [<-(m2 i (by omega)).1];exact(List.getElem?_eq_some_iff.1 hp).1
   refine⟨u,?_,ux h hA2 hfin (e8 g0)⟩;rw [g3,List.getElem?_take,if_pos (fX hf hi)];exact e7
  ·obtain⟨id,e1,e2⟩:=hid i y.out[i] (by simp [l1]);obtain⟨jd,e3,e4⟩:=hid j y.out[j] (by simp [l2]);obtain⟨b,st,g1,_⟩:=k1.get i id y.out[i] e1 (by simp [l1]);obtain⟨b2,st2,g2,_⟩:=k1.get j jd y.out[j] e3 (by simp [l2]);have hne2:id≠jd:=by
    intro e;subst e;have hi':i < y.ids.length:=by rw [k1.len];exact l1
    have hj':j < y.ids.length:=by rw [k1.len];exact l2
    rw [List.getElem?_eq_getElem hi'] at e1;rw [List.getElem?_eq_getElem hj'] at e3;simp only [Option.some.injEq] at e1 e3;exact hne (List.getElem_inj k1.nodup |>.1 (e1.trans e3.symm))
   rw [e2,e4];cases hk:(sub y.out[i].es 0 y.out[i].n (β id)).ownBlock with
   |none=>exact .inl rfl
   |some k =>
    right;intro hq;have o1:=kW hk;have o2:=kW hq.symm;rcases h.heap.inj id jd hne2 (List.getElem?_eq_some_iff.1 (aO g1).1).1 (List.getElem?_eq_some_iff.1 (aO g2).1).1 with e|e
    ·rw [o1] at e;cases e
    ·exact e (by rw [o1,o2])
 ·simp at e
theorem de {f:FuncId} {fn:Func} {c:Code} (hf:P.funcs[f]? = some fn) (hname:(fn.name != "runtime.NumGoroutine")=true) (hb:fn.body=some c) (args:Array Value) (w:World) :
  (callFunc f args).run P w=.ok (.enter f args) w:=by
 have h1:fn.name ≠ "runtime.NumGoroutine" := by simpa using hname
 simp [callFunc,program,Sem.run,hf,h1,hb]
def Env.now (E:Env):Env:=match E with
 |⟨call,own,inl,seq,_,_⟩=>⟨call,own,inl,seq,none,false⟩
theorem EnvOk.now (hE:EnvOk P E):EnvOk P E.now:=by
 obtain⟨call,own,inl,seq,yl,strict⟩:=E;exact⟨hE.1,hE.2.1,hE.2.2⟩
theorem Env.now_yl {Z:List (Nat->PV)->bE->Prop} {G:List (Array Value)} {A:Nat->Prop}:vH P E.now Z G A:=by
 obtain⟨call,own,inl,seq,yl,strict⟩:=E;exact nofun
def tq (P:Program) (rs:List ResultVar) (r:Ans) (s:St):Prop:=match ln P s rs with
 |some p=>match zO s.H p with
  |some q=>q.1.to λp=>Heap.to q.2 λo=>p=r.val/\o=r.out
  |none=>False
 |none=>False
def EQ (P:Program) (E:Env) (D:Opt) (fn:Func) (s:St) (r:Ans):Prop:=match fn.body with
 |none=>False
 |some c=>vc P E.now D c s λe s=>match e with
  |.normal | .ret=>tq P fn.results.toList r s
  |_=>False
def EB (P:Program) (E:Env) (D:Opt) (fn:Func) (s:St) (r:Ans):Prop:=match fn.body with
 |none=>False
 |some c=>vc P E.now D c s λe s=>match e with
  |.normal | .ret=>∃(σ : Ren) (s':St),Weak σ s s'/\tq P fn.results.toList r s'
  |_=>False
theorem gE {fn:Func} {R:Ending->World->Prop}:∀(ds:List Deferred) (b:bE) (a:Act) (w:World),a.defers=ds->Rel G n b ok a w s β ->
  (∀(b':bE) (a':Act) (w':World),a'.tmps=a.tmps->a'.defers=[]->b'.toWorld=b.toWorld->b'.old=b.old->(∀k o,b.pin k=some o->b.old k≠none->b'.pin k=some o)->Rel G n b' ok a' w' s β->∃v,(results fn a.tmps).run P w'=.ok v w'/\R (.returned v) w') ->
  LeavesInM Fence.wide 0 P fn a.tmps R ds .returning w
 |[],b,a,w,hd,h,hR=>by
  unfold LeavesInM LeavesIn;exact hR b a w rfl hd rfl rfl (λ_ _ h _=>h) h
 |d::ds,b,a,w,hd,h,hR=>by
  unfold LeavesInM;refine⟨nofun,.inl ?_⟩;have hm:=h.defers;rw [hd] at hm;obtain⟨hn,hm⟩:=hm;obtain⟨D,rfl,e2,e3,e4⟩:=hm d (by simp);have hD:=h.pins D _ e2;refine⟨D,_,rfl,run_takeDeferred hD.2,?_⟩;let b':bE:=⟨b.toWorld,λk=>if k=D then none else b.pin k,b.old⟩;have h':Rel G n b' ok { a with defers:=ds } (w.putObj D (.deferred none)) s β:=by
   refine h.turnPin hD.2 rfl e3 rfl rfl (λk x hk=>?_) ⟨(List.nodup_cons.1 hn).2,λd' hd'=>?_⟩
   ·simp only [b'] at hk;split at hk
    ·cases hk
    ·rename_i h1;exact .inr ⟨h1,hk⟩
   ·obtain⟨D',rfl,f2,f3,f4⟩:=hm d' (by simp [hd']);have hne:D'≠D:=λe=>(List.nodup_cons.1 hn).1 (e▸hd');exact⟨D',rfl,by simp [b',hne,f2],f3,f4⟩
  refine gE ds b' { a with defers:=ds } _ rfl h' λb2 a2 w2 h1 h2 h3 h4 h5 h6=>hR b2 a2 w2 h1 h2 h3 h4 (λk o hk ho=>h5 k o ?_ ho) h6;have hne:k≠D:=λe=>ho (e▸e4);simp [b',hne,hk]
theorem gZ {fn:Func} (hx:(fn.results.toList.all λr=>match r with | .tmp t=>decide (t < n) | .cell t _=>decide (t < n))=true) {r:Ans} {w0:World} (h:Sim false (Z0 w0) G n A a w s) (e:tq P fn.results.toList r s) :
  LeavesInM Fence.wide 0 P fn a.tmps (λe w'=>∃v β,e=.returned v/\Res A w0 w' r.val r.out β v) a.defers .returning w:=by
 obtain⟨b,ok,β,⟨hw,_⟩,hr,hA1,hA2,_⟩:=h;refine gE _ b a w rfl hr λb' a' w' ht _ hbw _ _ hr'=>?_;unfold tq at e;split at e
 ·rename_i p hp
  split at e
  ·rename_i q hq
   obtain⟨v,hv1,hv2⟩:=jj (P:=P) hr' hx hp;obtain⟨q1,q2⟩:=q;simp only [PV.to_eq,Heap.to_eq] at e;obtain⟨rfl,rfl⟩:=e;have hbs:b'.heap.size=b.heap.size:=by rw [hbw]
   obtain⟨βx,hx⟩:=rL hr' (λk hk=>(hA2 k hk).imp id λh=>by rw [hbs];exact h.2) hv2 hq;rw [hbw,hw] at hx;rw [ht] at hv1;exact⟨v,hv1,v,βx,rfl,hx⟩
  ·exact e.elim
 ·exact e.elim
theorem eu {fn:Func} {m:Nat} (h:ak D.toOrd fn m=true):(∃c,fn.body=some c/\cN D.toOrd fn.ntmps c=true)/\m<=fn.ntmps/\(fn.results.toList.all λr=>match r with | .tmp t=>decide (t < fn.ntmps) | .cell t _=>decide (t < fn.ntmps))=true/\(fn.name != "runtime.NumGoroutine")=true:=by
 simp only [ak,Bool.and_eq_true,decide_eq_true_eq] at h;obtain⟨⟨⟨h1,h2⟩,h3⟩,h4⟩:=h;refine⟨?_,h2,h3,h4⟩;cases hb:fn.body with
 |none=>rw [hb] at h1;simp at h1
 |some c=>rw [hb] at h1;exact⟨c,rfl,h1⟩
theorem uy (hm:P.follows .mixedOrders=true) (hE:EnvOk P E) {f:FuncId} {fn:Func} (hf:P.funcs[f]? = some fn) (D:Opt) (m:Nat) (hok:ak D.toOrd fn m=true) {args:List PV} (hlen:args.length<=m) {r:Ans}
  (h:Met r.pre->∃(σ : Ren) (s:St),Weak σ (start args) s/\EB P E D fn s r):fZ P f args r:=by
 obtain⟨⟨c,hb,h1⟩,h2,h3,h4⟩:=eu hok;refine⟨λvs w=>de hf h4 hb vs w,λhmet A w vs hA hl hR=>?_⟩;obtain⟨σ,s,hw,hv⟩:=h hmet;unfold EB at hv;rw [hb] at hv;simp only at hv;refine callsIn_wide.1 (callsIn_of_wp_marks (n:=0) hf hb trivial (ji hm c (E.now) D none (Z0 w) [] fn.ntmps A hE.now (pA w) E.now_yl (λ_=>rfl) s _ _ w _ h1 hv (Sim.weak (pA w) (mM hA hl hR (by omega)) hw) λx s' a' w' hk h'=>?_));cases x with
 |normal=>obtain⟨σ',s2,hw2,hk⟩:=hk;exact gZ h3 (Sim.weak (pA w) h' hw2) hk
 |ret=>obtain⟨σ',s2,hw2,hk⟩:=hk;exact gZ h3 (Sim.weak (pA w) h' hw2) hk
 |_=>exact hk.elim
theorem vO (hm:P.follows .mixedOrders=true) (hE:EnvOk P E) {f:FuncId} {fn:Func} (hf:P.funcs[f]? = some fn) (D:Opt) (m:Nat) (hok:ak D.toOrd fn m=true) {args:List PV} (hlen:args.length<=m) {r:Ans}
  (h:Met r.pre->EQ P E D fn (start args) r):fZ P f args r:=by
 obtain⟨⟨c,hb,h1⟩,h2,h3,h4⟩:=eu hok;refine⟨λvs w=>de hf h4 hb vs w,λhmet A w vs hA hl hR=>?_⟩;have hv:=h hmet;unfold EQ at hv;rw [hb] at hv;simp only at hv;refine callsIn_wide.1 (callsIn_of_wp_marks (n:=0) hf hb trivial (ji hm c (E.now) D none (Z0 w) [] fn.ntmps A hE.now (pA w) E.now_yl (λ_=>rfl) _ _ _ w _ h1 hv (mM hA hl hR (by omega)) λx s' a' w' hk h'=>?_));cases x with
 |normal=>exact gZ h3 h' hk
 |ret=>exact gZ h3 h' hk
 |_=>exact hk.elim
def rM (P:Program) (E:Env) (D:Opt) (fn:Func):Trans:=λargs s K=>match fn.body with
 |none=>False
 |some c=>vc P E.now D c ⟨λt=>(args[t]?).getD (.val undef),s.H,s.nx,s.fr::s.sv⟩ λe s'=>match e with
  |.normal | .ret=>match ln P s' fn.results.toList,s'.sv with
   |some p,f::r=>K p ⟨f,s'.H,s'.nx,r⟩
   |_,_=>False
  |_=>False
theorem kX (hm:P.follows .mixedOrders=true) (hE:EnvOk P E) {f:FuncId} {fn:Func} (hf:P.funcs[f]? = some fn) (D:Opt) (m:Nat) (hok:ak D.toOrd fn m=true) {T:Trans} (hT:∀args s K,T args s K->args.length<=m/\rM P E D fn args s K):dP P f T:=by
 obtain⟨⟨c,hb,h1⟩,h2,h3,h4⟩:=eu hok;refine⟨λvs w=>de hf h4 hb vs w,λZ G n A a w s args vs K hZ hS e=>?_⟩;obtain⟨hlen,e⟩:=hT args s K e;unfold rM at e;rw [hb] at e;simp only at e;obtain⟨b,ok,β,hz,hr,hA1,hA2,_,hl,hR⟩:=hS;have hlv:args.length=vs.size:=by simpa using hl
 let Z':List (Nat->PV)->bE->Prop:=λsv b'=>∃f r,sv=f::r/\b'.toWorld=b.toWorld/\b'.old=b.pin/\(∀k o,b.pin k=some o->b'.pin k=some o)/\Z r b;have hZ':lG Z':=by
  refine⟨?_,?_,?_⟩
  ·rintro sv sv' b' hall ⟨f,r,rfl,h1,h2,h3,h4⟩;cases sv' with
   |nil=>exact hall.elim
   |cons f' r'=>exact⟨f',r',rfl,h1,h2,h3,hZ.weak _ _ _ hall.2 h4⟩
  ·rintro sv b1 b2 e1 e2 e3 ⟨f,r,rfl,h1,h2,h3,h4⟩;exact⟨f,r,rfl,e1.trans h1,e2.trans h2,λk o hk=>e3 k o (h3 k o hk),h4⟩
  ·rintro sv b1 ⟨f,r,rfl,h1,h2,h3,h4⟩ k o hk;rw [h2] at hk;exact h3 k o hk
 have hsim:Sim false Z' (a.tmps::G) fn.ntmps A { tmps:=vs++Array.replicate (fn.ntmps - vs.size) undef,defers:=[] } w ⟨λt=>(args[t]?).getD (.val undef),s.H,s.nx,s.fr::s.sv⟩:=by
  refine⟨⟨b.toWorld,b.pin,b.pin⟩,ok,β,⟨_,_,rfl,rfl,rfl,λ_ _ h=>h,hz⟩,⟨λt ht=>?_,by simp;omega,Marks.nil _,hr.heap,hr.ext,hr.oklt,⟨λt ht=>hr.fr t (by rw [<-hr.size];exact ht),hr.sv⟩,hr.pins⟩,hA1,hA2,nofun⟩;rcases Nat.lt_or_ge t args.length with h|h
  ·have e1:args[t]? = some args[t]:=by simp [h]
   have hv:t < vs.size:=by omega
   have e2:vs[t]? = some vs[t]:=by simp [hv]
   simp only;rw [e1,Option.getD_some,Array.getD_eq_getD_getElem?,Array.getElem?_append_left hv,e2,Option.getD_some];exact hR t _ _ e1 (by simpa using e2)
  ·simp only;rw [List.getElem?_eq_none h,Option.getD_none];have:(vs++Array.replicate (fn.ntmps - vs.size) undef).getD t undef=undef:=by
    rw [Array.getD_eq_getD_getElem?,Array.getElem?_append_right (by omega)];simp only [Array.getElem?_replicate];split<;>rfl
   rw [this];exact .val _
 have key:∀(s':St) (a':Act) (w':World),(match ln P s' fn.results.toList,s'.sv with
   |some p,f::r=>K p ⟨f,s'.H,s'.nx,r⟩
   |_,_=>False)->Sim false Z' (a.tmps::G) fn.ntmps A a' w' s'->LeavesInM Fence.wide 0 P fn a'.tmps (λe w'=>∃v p s',e=.returned v/\K p s'/\vD false Z G n A a w' s' [p] [v]) a'.defers .returning w':=by
  intro s' a' w' hk h';obtain⟨b',ok',β',⟨f',r',hsv',hb'w,hb'o,hb'p,hz'⟩,hr',hA1',hA2',_⟩:=h';refine gE _ b' a' w' rfl hr' λb2 a2 w2 ht hd2 hbw hbo hbp hr2=>?_;split at hk
  ·rename_i p g r hp hsv
   rw [hsv] at hsv';obtain⟨rfl,rfl⟩:=List.cons.inj hsv';obtain⟨v,hv1,hv2⟩:=jj (P:=P) hr2 h3 hp;have hall:=hr2.sv;rw [hsv] at hall;rw [ht] at hv1;have hw2:b2.toWorld=b.toWorld:=hbw.trans hb'w;have hsz:b'.heap.size=b.heap.size:=by rw [hb'w]
   have hR2:Rel G n b ok' a w2 ⟨g,s'.H,s'.nx,r⟩ β':=by
    have h5:Rel (a.tmps::G) fn.ntmps b ok' { a2 with defers:=[] } w2 s' β':=hr2.base (b':=b) hw2.symm rfl (λk o hk=>hr2.pins k o (hbp k o (hb'p k o hk) (by rw [hb'o,hk];simp))) (Marks.nil _);exact⟨λt ht=>hall.1 t (by rw [hr.size];exact ht),hr.size,hr.defers,h5.heap,h5.ext,h5.oklt,hall.2,h5.pins⟩
   exact⟨v,hv1,v,p,_,rfl,hk,b,ok',β',hz',hR2,hA1',λk hk=>(hA2' k hk).imp id λh=>⟨rfl,by rw [<-hsz];exact h.2⟩,nofun,rfl,λi p' v' hp' hv'=>by
    cases i with
    |zero=>simp at hp' hv';rw [<-hp',<-hv'];exact hv2
    |succ i=>simp at hp'⟩
  ·exact hk.elim
 refine callsIn_wide.1 (callsIn_of_wp_marks (n:=0) hf hb trivial (ji hm c E.now D none Z' (a.tmps::G) fn.ntmps A hE.now hZ' E.now_yl (λ_=>rfl) _ _ _ w _ h1 e (by cases E;exact hsim) λx s' a' w' hk h'=>?_));have h':Sim false Z' (a.tmps::G) fn.ntmps A a' w' s':=by cases E;exact h'
 cases x with
 |normal=>exact key s' a' w' hk h'
 |ret=>exact key s' a' w' hk h'
 |_=>exact hk.elim
def mN (k:Int) (c:Bool):Nat->PV:=λi=>bif Nat.beq i 0 then .val (.int .i64 k) else bif Nat.beq i 1 then .val (.bool c) else .junk
def yT (q:gu):Trans:=λargs s K=>match s with
 |⟨fr,H,nx,[g]⟩=>match g 0,g 1 with
  |.val (.int .i64 i),.val (.bool false)=>match ep (deep H 4) args,args.flatMap (cr H 4) with
   |some ds,[]=>∃k:Nat,i=k/\k < q.n/\ds=q.xs k/\K (.val (.bool true)) ⟨fr,[],nx+1,[mN (k+1:Nat) false]⟩/\K (.val (.bool false)) ⟨fr,[],nx+1,[mN (k+1:Nat) true]⟩
   |_,_=>False
  |_,_=>False
 |_=>False
def Env.seqE (E:Env) (q:gu) (l:Nat):Env:=match E with
 |⟨call,own,inl,seq,_,_⟩=>⟨call,own,inl,seq,some (l,yT q),true⟩
def rO (q:gu) (s:St):Prop:=match s with
 |⟨_,_,_,[g]⟩=>match g 0,g 1 with
  |_,.val (.bool true)=>True
  |.val (.int .i64 k),.val (.bool false)=>k=q.n
  |_,_=>False
 |_=>False
def vP (P:Program) (E:Env) (D:Opt) (fn:Func) (caps:List PV) (q:gu) (l:Nat):Prop:=match fn.body with
 |none=>False
 |some c=>vc P (E.seqE q l) D c ⟨λt=>((PV.val (.func (.yield l) ⟨[]⟩ ⟨[]⟩)::caps)[t]?).getD (.val undef),[],0,[mN 0 false]⟩ λe s=>match e with
  |.normal | .ret=>rO q s
  |_=>False
theorem uz (hm:P.follows .mixedOrders=true) (hE:EnvOk P E) {f:FuncId} {fn:Func} (hf:P.funcs[f]? = some fn) (D:Opt) (m:Nat) (hok:ak D.toOrd fn m=true) (hres:fn.results = #[]) {caps:List PV} (hlen:caps.length+1<=m) {q:gu}
  (h:Met q.pre->∀l,vP P E D fn caps q l):th P f caps q:=by
 obtain⟨⟨c,hb,h1⟩,h2,h3,h4⟩:=eu hok;refine⟨λvs w=>de hf h4 hb vs w,λhmet A w lb l J Jx hA hl hR hJ hJx hY hJ0=>?_⟩;have hv:=h hmet l;unfold vP at hv;rw [hb] at hv;simp only at hv;let Z:List (Nat->PV)->bE->Prop:=λsv b=>∃gh,sv=[gh]/\b.old=(λ_=>none)/\(∀k:Nat,gh 0=.val (.int .i64 k)->gh 1=.val (.bool false)->J k b.toWorld)/\(gh 1=.val (.bool true)->Jx b.toWorld);have hZ:lG Z:=by
  refine⟨?_,?_,?_⟩
  ·rintro sv sv' b hall ⟨gh,rfl,h1,h2,h3⟩
   match sv',hall with
   |[gh'],hall=>exact⟨gh',rfl,h1,λk e1 e2=>h2 k (hall.1 _ _ e1) (hall.1 _ _ e2),λe=>h3 (hall.1 _ _ e)⟩
  ·rintro sv b b' e1 e2 _ ⟨gh,rfl,h1,h2,h3⟩;exact⟨gh,rfl,e2.trans h1,λk=>by rw [e1];exact h2 k,by rw [e1];exact h3⟩
  ·rintro sv b ⟨gh,rfl,h1,h2,h3⟩ k o e;rw [h1] at e;cases e
 have hst:(E.seqE q l).strict=true:=by cases E;rfl
 have hE':EnvOk P (E.seqE q l):=by cases E;exact⟨hE.1,hE.2.1,hE.2.2⟩
 have hYok:vH P (E.seqE q l) Z [#[]] A:=by
  intro l' T hlT n a w1 s args vs K hS hT;obtain⟨rfl,rfl⟩:l=l'/\yT q=T:=by cases E;simpa [Env.seqE] using hlT
  rw [hst] at hS ⊢;obtain⟨b,ok,β,⟨gh,hsv,_,hg1,hg2⟩,hr,hA1,hA2,hA3,hlen,hRR⟩:=hS;obtain⟨fr,H,nx,sv⟩:=s;simp only at hsv;subst hsv;unfold yT at hT;simp only at hT;split at hT
  ·rename_i i e0 e1
   split at hT
   ·rename_i ds hds hre
    obtain⟨k,rfl,hk,rfl,hK1,hK2⟩:=hT;have hJk:J k w1:=hJ k _ _ (hg1 k e0 e1) hr.ext;obtain⟨m1,m2⟩:=bA hds;have hokA:∀k,ok k->A k:=λk hk=>(hA2 k hk).elim id λh=>nomatch h.1;have hvs:vs.size=args.length:=by simpa using hlen.symm
    obtain⟨fn',tm,x,bo,hrun,hro⟩:=hY k w1 vs hk hJk (by rw [m1,hvs]) (λj p v hp hv=>by
     obtain⟨y,f1,f2⟩:=m2 j p hp;exact dZ (A:=A) hr.heap hokA 4 y p v (hRR j y v f1 (by simpa using hv)) f2 λid hid _ _ _=>by
      have:id∈args.flatMap (cr H 4):=List.mem_flatMap.2 ⟨y,List.mem_of_getElem? f1,hid⟩;rw [hre] at this;cases this)
    refine⟨fn',tm,x,bo,hrun,hro.mono ?_⟩;have reset:∀(W':World) (g':Nat->PV),vF A w1 W'->Rel [#[]] n ⟨W',λ_=>none,λ_=>none⟩ A a W' ⟨fr,[],nx+1,[g']⟩ β:=by
     intro W' g' hkp;have hL:gy ok A w1 W' H [] β β nx (nx+1):=⟨Nat.le_succ _,hokA,λad v hk hc=>by
      rw [World.cell?] at hc ⊢;rw [hkp _ (hokA _ hk)];exact hc,λid st b' _ e=>by simp [dX] at e⟩
     refine⟨λt ht=>(hr.fr t ht).later hL,hr.size,by rw [hA3 rfl];exact Marks.nil _,⟨by simp,by simp,by simp,by simp⟩,Below.refl _ _,λk hk=>?_,⟨λt ht=>by simp at ht,trivial⟩,nofun⟩;have h1:=hr.oklt k (hA1 k hk);have h2:w1.heap[k]? = some w1.heap[k]:=by simp [h1]
     have:=(hkp k hk).trans h2;exact(Array.getElem?_eq_some_iff.1 this).1
    rintro e' W' ⟨⟨rfl,hJ'⟩|⟨rfl,hJ'⟩,hkp⟩
    ·refine⟨_,_,_,rfl,hK1,⟨W',λ_=>none,λ_=>none⟩,A,β,⟨_,rfl,rfl,λk' e _=>?_,λe=>?_⟩,reset W' _ hkp,λ_ h=>h,λ_ h=>.inl h,hA3,rfl,λi p v hp hv=>?_⟩
     ·have:((k+1:Nat):Int)=(k':Int):=by simpa [mN] using e
      have:k'=k+1:=by omega
      rw [this];exact hJ'
     ·cases (show PV.val (.bool false)=PV.val (.bool true) from e)
     ·cases i with
      |zero=>simp at hp hv;rw [<-hp,<-hv];exact .val _
      |succ i=>simp at hp
    ·refine⟨_,_,_,rfl,hK2,⟨W',λ_=>none,λ_=>none⟩,A,β,⟨_,rfl,rfl,λk' e e2=>?_,λe=>hJ'⟩,reset W' _ hkp,λ_ h=>h,λ_ h=>.inl h,hA3,rfl,λi p v hp hv=>?_⟩
     ·cases (show PV.val (.bool true)=PV.val (.bool false) from e2)
     ·cases i with
      |zero=>simp at hp hv;rw [<-hp,<-hv];exact .val _
      |succ i=>simp at hp
   ·exact hT.elim
  ·exact hT.elim
 have hlb:lb.size=caps.length:=hl.symm;have hsim:Sim true Z [#[]] fn.ntmps A { tmps:=#[Value.func (.yield l) #[] #[]]++lb++Array.replicate (fn.ntmps - (#[Value.func (.yield l) #[] #[]]++lb).size) undef,defers:=[] } w ⟨λt=>((PV.val (.func (.yield l) ⟨[]⟩ ⟨[]⟩)::caps)[t]?).getD (.val undef),[],0,[mN 0 false]⟩:=by
  refine⟨⟨w,λ_=>none,λ_=>none⟩,A,λ_=>undef,⟨_,rfl,rfl,λk e _=>?_,λe=>by cases (show PV.val (.bool false)=PV.val (.bool true) from e)⟩,⟨λt ht=>?_,by simp;omega,Marks.nil _,⟨by simp,by simp,by simp,by simp⟩,Below.refl _ _,hA,⟨λt ht=>by simp at ht,trivial⟩,nofun⟩,λ_ h=>h,λ_ h=>.inl h,λ_=>rfl⟩
  ·have:(0:Int)=(k:Int):=by simpa [mN] using e
   have:k=0:=by omega
   rw [this];exact hJ0
  ·simp only;rcases Nat.lt_or_ge t (caps.length+1) with h|h
   ·have hv:t < (#[Value.func (.yield l) #[] #[]]++lb:Array Value).size:=by simp;omega
    rw [Array.getD_eq_getD_getElem?,Array.getElem?_append_left hv];cases t with
    |zero =>
     have:(#[Value.func (.yield l) #[] #[]]++lb:Array Value)[0]? = some (.func (.yield l) #[] #[]):=by
      rw [Array.getElem?_append_left (by simp)];rfl
     rw [this];exact .val _
    |succ t =>
     have ht:t < caps.length:=by omega
     have htl:t < lb.size:=by omega
     have e1:caps[t]? = some caps[t]:=by simp [ht]
     have e2:lb[t]? = some lb[t]:=by simp [htl]
     rw [List.getElem?_cons_succ,e1,Option.getD_some,Array.getElem?_append_right (by simp)];simp only [List.size_toArray,List.length_singleton,Nat.add_sub_cancel,e2,Option.getD_some];exact .deep _ _ (hR t _ _ e1 e2)
   ·rw [List.getElem?_eq_none (by simpa using h),Option.getD_none];have:(#[Value.func (.yield l) #[] #[]]++lb++Array.replicate (fn.ntmps - (#[Value.func (.yield l) #[] #[]]++lb:Array Value).size) undef).getD t undef=undef:=by
     rw [Array.getD_eq_getD_getElem?,Array.getElem?_append_right (by simp;omega)];simp only [Array.getElem?_replicate];split<;>rfl
    rw [this];exact .val _
 refine callsIn_of_wp_marks (n:=0) hf hb trivial (ji hm c (E.seqE q l) D none Z [#[]] fn.ntmps A hE' hZ hYok (λ_=>rfl) _ _ _ w _ h1 hv (by rw [hst];exact hsim) λx s' a' w' hk h'=>?_);rw [hst] at h';have key:rO q s'->LeavesInM Fence.wide 0 P fn a'.tmps (λe w'=>(∃v,e=.returned v)/\(J q.n w'\/Jx w')) a'.defers .returning w':=by
  intro hk;obtain⟨b,ok,β,⟨gh,hsv,_,hg1,hg2⟩,hr,_,_,hA3⟩:=h';rw [hA3 rfl];unfold LeavesInM LeavesIn;refine⟨.tuple #[],by rw [iK,hres];simp [Sem.run],⟨_,rfl⟩,?_⟩;obtain⟨fr,H,nx,sv⟩:=s';simp only at hsv;subst hsv;unfold rO at hk;simp only at hk;split at hk
  ·rename_i e1;exact .inr (hJx _ _ (hg2 e1) hr.ext)
  ·rename_i e0 e1;subst hk;exact .inl (hJ _ _ _ (hg1 _ e0 e1) hr.ext)
  ·exact hk.elim
 cases x with
 |normal=>exact key hk
 |ret=>exact key hk
 |_=>exact hk.elim
end
open Go.RowKit
def FnOk (P:Program) (f:FuncId) (s:List PV->Option Ans):Prop:=∀args r,s args=some r->fZ P f args r
def pD:List (Nat×(List PV->Option Ans))->Nat->List PV->Option Ans
 |[],_,_=>none
 |(k,s)::l,f,args=>bif Nat.beq f k then s args else pD l f args
def zS:List Nat->Nat->Bool
 |[],_=>false
 |k::l,f=>bif Nat.beq f k then true else zS l f
def pE:List (Nat×Trans)->Nat->Option Trans
 |[],_=>none
 |(k,T)::l,f=>bif Nat.beq f k then some T else pE l f
def B3 (l:List (Nat×(List PV->Option Ans))) (own:List Nat) (inl:List (Nat×Trans)):Env:={ call:=pD l,own:=zS own,inl:=pE inl }
theorem lN {P:Program}:∀{l:List (Nat×Trans)},(∀x∈l,dP P x.1 x.2)->∀f T,pE l f=some T->dP P f T
 |[],_,f,T,e=>by cases e
 |(k,s)::l,h,f,T,e=>by
  unfold pE at e;cases hk:Nat.beq f k with
  |true =>
   rw [hk] at e;rw [Nat.eq_of_beq_eq_true hk];cases e;exact h (k,s) (by simp)
  |false =>
   rw [hk] at e;exact lN (λx hx=>h x (by simp [hx])) f T e
theorem lO {P:Program}:∀{l:List (Nat×(List PV->Option Ans))},(∀x∈l,FnOk P x.1 x.2)->∀f args r,pD l f args=some r->fZ P f args r
 |[],_,f,args,r,e=>by cases e
 |(k,s)::l,h,f,args,r,e=>by
  unfold pD at e;cases hk:Nat.beq f k with
  |true =>
   rw [hk] at e;rw [Nat.eq_of_beq_eq_true hk];exact h (k,s) (by simp) args r e
  |false =>
   rw [hk] at e;exact lO (λx hx=>h x (by simp [hx])) f args r e
theorem am {P:Program} {l:List (Nat×(List PV->Option Ans))} {own:List Nat} {inl:List (Nat×Trans)} (h:∀x∈l,FnOk P x.1 x.2) (h2:∀x∈inl,dP P x.1 x.2):EnvOk P (B3 l own inl):=⟨lO h,lN h2,nofun⟩
theorem bf {a b:Nat} (h:Nat.ble (a+1) b=true):a < b:=Nat.le_of_ble_eq_true h
def nN:List (Nat×PV)->Nat->PV
 |[],_=>.junk
 |(k,v)::l,t=>bif Nat.beq t k then v else nN l t
def mO (s s':St) (σ : Ren) (f:Nat->PV):List (Nat×PV)->Prop
 |[]=>True
 |(k,v)::l=>ct s s' σ 3 (f k) v/\mO s s' σ f l
def nO (s s':St) (σ : Ren):List (Nat->PV)->List (List (Nat×PV))->Prop
 |[],[]=>True
 |f::fs,l::ls=>mO s s' σ f l/\nO s s' σ fs ls
 |_,_=>False
theorem jV {s s':St} {σ : Ren} {f:Nat->PV}:∀{l:List (Nat×PV)},mO s s' σ f l->∀t,ct s s' σ 3 (f t) (nN l t)
 |[],_,t=>trivial
 |(k,v)::l,h,t=>by
  unfold nN;cases hk:Nat.beq t k with
  |true=>rw [Nat.eq_of_beq_eq_true hk];exact h.1
  |false=>exact jV h.2 t
def aa (l:List (Nat×PV)) (H:Heap) (nx:Nat) (ls:List (List (Nat×PV))):St:=⟨nN l,H,nx,ls.map nN⟩
theorem lP {s s':St} {σ : Ren}:∀{fs:List (Nat->PV)} {ls:List (List (Nat×PV))},nO s s' σ fs ls->eM (λf f'=>∀t,ct s s' σ 3 (f t) (f' t)) fs (ls.map nN)
 |[],[],_=>trivial
 |f::fs,l::ls,h=>⟨jV h.1,lP h.2⟩
 |[],_::_,h=>by cases h
 |_::_,[],h=>by cases h
theorem Weak.of {σ : Ren} {s:St} {l:List (Nat×PV)} {H:Heap} {nx:Nat} {ls:List (List (Nat×PV))} (h1:(σ.filterMap id).Nodup) (h2:eM (mL s (aa l H nx ls) σ) σ H) (h3:mO s (aa l H nx ls) σ s.fr l) (h4:nO s (aa l H nx ls) σ s.sv ls):Weak σ s (aa l H nx ls) :=
 ⟨h1,h2,jV h3,lP h4⟩
def rds:Nat->List (Nat×Bool)
 |0=>[]
 |n+1=>rds n++[(n,true)]
def iS (id:Nat) (l:List (Nat×Bool)):Nat->Option OT:=λi=>bif Nat.beq i id then some (OT.ofL l) else none
def nP:List (Nat×List (Nat×Bool))->Nat->Option OT
 |[],_=>none
 |(k,l)::r,i=>bif Nat.beq i k then some (OT.ofL l) else nP r i
def OT.seq:List Nat->OT->OT
 |[],t=>t
 |i::r,t=>.mk i (OT.seq r t)
def kI:List (Nat×OT)->Nat->Option OT
 |[],_=>none
 |(k,l)::r,i=>bif Nat.beq i k then some l else kI r i
def tr:List (Nat×(List PV->Option gu))->Nat->List PV->Option gu
 |[],_,_=>none
 |(k,s)::l,f,args=>bif Nat.beq f k then s args else tr l f args
def SeqFn (P:Program) (f:FuncId) (s:List PV->Option gu):Prop:=∀caps q,s caps=some q->th P f caps q
theorem pF {P:Program}:∀{l:List (Nat×(List PV->Option gu))},(∀x∈l,SeqFn P x.1 x.2)->∀f caps q,tr l f caps=some q->th P f caps q
 |[],_,f,caps,q,e=>by cases e
 |(k,s)::l,h,f,caps,q,e=>by
  unfold tr at e;cases hk:Nat.beq f k with
  |true =>
   rw [hk] at e;rw [Nat.eq_of_beq_eq_true hk];exact h (k,s) (by simp) caps q e
  |false =>
   rw [hk] at e;exact pF (λx hx=>h x (by simp [hx])) f caps q e
def GG (l:List (Nat×(List PV->Option Ans))) (own:List Nat) (inl:List (Nat×Trans)) (sq:List (Nat×(List PV->Option gu))):Env:={ call:=pD l,own:=zS own,inl:=pE inl,seq:=tr sq }
theorem nQ {P:Program} {l:List (Nat×(List PV->Option Ans))} {own:List Nat} {inl:List (Nat×Trans)} {sq:List (Nat×(List PV->Option gu))} (h:∀x∈l,FnOk P x.1 x.2) (h2:∀x∈inl,dP P x.1 x.2) (h3:∀x∈sq,SeqFn P x.1 x.2):EnvOk P (GG l own inl sq) :=
 ⟨lO h,lN h2,pF h3⟩
theorem SeqFn.of {P:Program} {f:FuncId} {fn:Func} {s:List PV->Option gu} (hm:P.follows .mixedOrders=true) {E:Env} (hE:EnvOk P E) (hf:P.funcs[f]? = some fn) (D:Opt) (m:Nat) (hok:ak D.toOrd fn m=true) (hres:fn.results = #[])
  (h:∀caps q,s caps=some q->caps.length+1<=m/\(Met q.pre->∀l,vP P E D fn caps q l)):SeqFn P f s :=
 λcaps q e=>uz hm hE hf D m hok hres (h caps q e).1 (h caps q e).2
theorem FnOk.of {P:Program} {f:FuncId} {fn:Func} {s:List PV->Option Ans} (hm:P.follows .mixedOrders=true) {E:Env} (hE:EnvOk P E) (hf:P.funcs[f]? = some fn) (D:Opt) (m:Nat) (hok:ak D.toOrd fn m=true)
  (h:∀args r,s args=some r->args.length<=m/\(Met r.pre->EQ P E D fn (start args) r)):FnOk P f s :=
 λargs r e=>vO hm hE hf D m hok (h args r e).1 (h args r e).2
theorem FnOk.ofW {P:Program} {f:FuncId} {fn:Func} {s:List PV->Option Ans} (hm:P.follows .mixedOrders=true) {E:Env} (hE:EnvOk P E) (hf:P.funcs[f]? = some fn) (D:Opt) (m:Nat) (hok:ak D.toOrd fn m=true)
  (h:∀args r,s args=some r->args.length<=m/\(Met r.pre->∃(σ : Ren) (s:St),Weak σ (start args) s/\EB P E D fn s r)):FnOk P f s :=
 λargs r e=>uy hm hE hf D m hok (h args r e).1 (h args r e).2
end Go.Ex
namespace Go
theorem tu {x y:Nat} (h:Nat.blt x y=true):x < y:=by simpa using h
theorem Wo {σ : Ren} {s:St} {l:List (Nat×PV)} {H:Heap} {nx:Nat} {ls:List (List (Nat×PV))} (h2:eM (mL s (aa l H nx ls) σ) σ H) (h3:mO s (aa l H nx ls) σ s.fr l) (h4:nO s (aa l H nx ls) σ s.sv ls) (h1:(σ.filterMap id).Nodup:=by simp):Weak σ s (aa l H nx ls):=Weak.of h1 h2 h3 h4
theorem rq {α β : Sort _} {a : α} {b : β}:a=a/\b=b:=⟨rfl,rfl⟩
theorem pP {α : Type} {a : α} {i f x y:Nat} {b:Blk} (h:Nat.blt x y=true:=by rfl):a=a/\i=i/\f=f/\x < y/\∃b',some b=some b':=⟨rfl,rfl,rfl,tu h,_,rfl⟩
theorem qQ:True:=trivial
theorem qW {α β γ : Type} {a : α} {b : β} {n:Nat} {f:Nat->γ}:a=a/\b=b/\∀i,i < n->f i=f i:=⟨rfl,rfl,λ_ _=>rfl⟩
theorem qZ {a b e x y:Nat} {c d:Bool} {p:Prop} (q:p) (h:Nat.blt x y=true:=by rfl):x < y/\a=a/\b=b/\c=c/\d=d/\e=e/\p:=⟨tu h,rfl,rfl,rfl,rfl,rfl,q⟩
theorem qY {a b e x y:Nat} {c d:Bool} {u:PV} {v:Bool} (h:Nat.blt x y=true:=by rfl):x < y/\a=a/\b=b/\c=c/\d=d/\e=e/\(u=u/\v=v)/\True:=qZ ⟨rq,qQ⟩ h
theorem qJ {a b e x y:Nat} {c d:Bool} {u u2:PV} {v v2:Bool} (h:Nat.blt x y=true:=by rfl):x < y/\a=a/\b=b/\c=c/\d=d/\e=e/\(u=u/\v=v)/\(u2=u2/\v2=v2)/\True:=qZ ⟨rq,rq,qQ⟩ h
theorem qX {a b e x y:Nat} {c d:Bool} {u u2 u3:PV} {v v2 v3:Bool} (h:Nat.blt x y=true:=by rfl):x < y/\a=a/\b=b/\c=c/\d=d/\e=e/\(u=u/\v=v)/\(u2=u2/\v2=v2)/\(u3=u3/\v3=v3)/\True:=qZ ⟨rq,rq,rq,qQ⟩ h
theorem qK {a b e x y:Nat} {c d:Bool} {u u2 u3 u4 u5 u6:PV} {v v2 v3 v4 v5 v6:Bool} (h:Nat.blt x y=true:=by rfl):x < y/\a=a/\b=b/\c=c/\d=d/\e=e/\(u=u/\v=v)/\(u2=u2/\v2=v2)/\(u3=u3/\v3=v3)/\(u4=u4/\v4=v4)/\(u5=u5/\v5=v5)/\(u6=u6/\v6=v6)/\True:=qZ ⟨rq,rq,rq,rq,rq,rq,qQ⟩ h
end Go
namespace Go.Num
def cO (l:List UInt8):Nat:=l.foldl (λa b=>a*256+b.toNat) 0
def bv (b:ByteArray):Nat:=cO b.data.toList
theorem jk:∀(l:List UInt8) (a:Nat),l.foldl (λa b=>a*256+b.toNat) a=a*256^l.length+cO l
 |[],a=>by simp [cO]
 |x::l,a=>by
  have h2:cO (x::l)=(0*256+x.toNat)*256^l.length+cO l:=jk l _;rw [List.foldl_cons,jk l,h2];simp only [List.length_cons,Nat.pow_succ,Nat.add_mul,Nat.zero_mul,Nat.zero_add];rw [show a*(256^l.length*256)=a*256*256^l.length by rw [Nat.mul_comm (256^l.length),Nat.mul_assoc]];omega
theorem cE (x:UInt8) (l:List UInt8):cO (x::l)=x.toNat*256^l.length+cO l:=by
 rw [cO,List.foldl_cons,jk];simp
theorem f9 (l m:List UInt8):cO (l++m)=cO l*256^m.length+cO m:=by
 rw [cO,List.foldl_append,jk];rfl
theorem d5:∀(l:List UInt8),cO l < 256^l.length
 |[]=>by simp [cO]
 |x::l=>by
  rw [cE,List.length_cons,Nat.pow_succ];have h1:=d5 l;have h2:x.toNat<=255:=by have:=x.toNat_lt;omega
  have:=Nat.mul_le_mul_right (256^l.length) h2;omega
def fL (n:Nat):List UInt8:=if n=0 then [] else fL (n / 256)++[UInt8.ofNat (n%256)]
termination_by n
decreasing_by omega
def ag (n:Nat):ByteArray:=⟨(fL n).toArray⟩
theorem cJ:fL 0=[]:=by unfold fL;simp
theorem jl {n:Nat} (h:n≠0):fL n=fL (n / 256)++[UInt8.ofNat (n%256)]:=by rw [fL];simp [h]
theorem gF (n:Nat):cO (fL n)=n:=by
 induction n using Nat.strongRecOn with
 |_ n ih =>
  by_cases h:n=0
  ·subst h;simp [cJ,cO]
  ·rw [jl h,f9,ih (n / 256) (by omega)];simp [cO];omega
theorem aC (n:Nat):bv (ag n)=n:=by simp [bv,ag,gF]
def eE (l:List UInt8):Bool:=match l with
 |[]=>true
 |x::_=>x != 0
theorem jW (n:Nat):eE (fL n)=true:=by
 induction n using Nat.strongRecOn with
 |_ n ih =>
  by_cases h:n=0
  ·subst h;simp [cJ,eE]
  ·rw [jl h];by_cases h2:n / 256=0
   ·rw [h2,cJ];simp only [List.nil_append,eE,bne_iff_ne,ne_eq];intro e;have:=congrArg UInt8.toNat e;simp at this;omega
   ·have:=ih (n / 256) (by omega);cases hd:fL (n / 256) with
    |nil =>
     have:=gF (n / 256);rw [hd] at this;simp [cO] at this;omega
    |cons x r=>rw [hd] at this;simpa [eE] using this
theorem nR:∀{l m:List UInt8},l.length=m.length->cO l=cO m->l=m
 |[],[],_,_=>rfl
 |x::l,y::m,hl,h=>by
  simp only [List.length_cons,Nat.add_right_cancel_iff] at hl;rw [cE,cE,hl] at h;have h1:=d5 l;have h2:=d5 m;rw [hl] at h1;have hp:0 < 256^m.length:=Nat.pow_pos (by decide);have hxy:x.toNat=y.toNat:=by
   have e1:(x.toNat*256^m.length+cO l) / 256^m.length=x.toNat:=by
    rw [Nat.mul_comm,Nat.mul_add_div hp,Nat.div_eq_of_lt h1,Nat.add_zero]
   have e2:(y.toNat*256^m.length+cO m) / 256^m.length=y.toNat:=by
    rw [Nat.mul_comm,Nat.mul_add_div hp,Nat.div_eq_of_lt h2,Nat.add_zero]
   rw [<-e1,h,e2]
  have:x=y:=UInt8.toNat_inj.1 hxy;subst this;rw [nR hl (by omega)]
 |[],_::_,hl,_=>by simp at hl
 |_::_,[],hl,_=>by simp at hl
theorem kY {x:UInt8} {l:List UInt8} (h:eE (x::l)=true):256^l.length<=cO (x::l):=by
 rw [cE];have:x.toNat≠0:=λe=>by
  have:x=0:=UInt8.toNat_inj.1 (by simpa using e);subst this;simp [eE] at h
 have:=Nat.mul_le_mul_right (256^l.length) (show 1<=x.toNat by omega);omega
theorem vQ {l m:List UInt8} (hl:eE l=true) (hm:eE m=true) (h:cO l=cO m):l=m:=by
 refine nR ?_ h;have key:∀{l m:List UInt8},eE l=true->cO l=cO m->l.length<=m.length:=by
  intro l m hl h;cases l with
  |nil=>simp
  |cons x l =>
   have h1:=kY hl;have h2:=d5 m;have:256^l.length < 256^m.length:=by omega
   have:=(Nat.pow_lt_pow_iff_right (show 1 < 256 by decide)).1 this;simp;omega
 exact Nat.le_antisymm (key hl h) (key hm h.symm)
theorem uA {l:List UInt8} (h:eE l=true):fL (cO l)=l:=vQ (jW _) h (gF _)
theorem jX:∀(l:List UInt8),cO (l.dropWhile (·==0))=cO l/\eE (l.dropWhile (·==0))=true
 |[]=>⟨rfl,rfl⟩
 |x::l=>by
  rw [List.dropWhile_cons];split
  ·rename_i h
   have:x=0:=by simpa using h
   subst this;obtain⟨h1,h2⟩:=jX l;exact⟨by rw [h1,cE];simp,h2⟩
  ·rename_i h
   exact⟨rfl,by simpa [eE] using h⟩
theorem zT {a b:ByteArray} (h:a.data.toList=b.data.toList):a=b:=by
 cases a;cases b;simpa using h
theorem ks {b:ByteArray} (h:eE b.data.toList=true):ag (bv b)=b:=zT (by simp [ag,bv,uA h])
theorem a7 (x:ByteArray):x.size=x.data.toList.length:=by rw [Array.length_toList];rfl
theorem tv (b:ByteArray):∀(k i:Nat) (acc:List UInt8),b.size - i=k->ByteArray.toList.loop b i acc=acc.reverse++b.data.toList.drop i
 |0,i,acc,h=>by
  have hs:=a7 b;rw [ByteArray.toList.loop,if_neg (by omega),List.drop_eq_nil_of_le (by omega),List.append_nil]
 |k+1,i,acc,h=>by
  have hs:=a7 b;have hi:i < b.data.toList.length:=by omega
  rw [ByteArray.toList.loop,if_pos (by omega),tv b k (i+1) _ (by omega),List.drop_eq_getElem_cons hi];have:b.get! i=b.data.toList[i]:=by
   rw [Array.getElem_toList];exact getElem!_pos b.data i (by simpa using hi)
  rw [this];simp
theorem ce (b:ByteArray):b.toList=b.data.toList:=by
 rw [ByteArray.toList,tv b _ 0 [] rfl];simp
theorem d6 (x:ByteArray) (i j:Nat):(x.extract i j).data.toList=(x.data.toList.take j).drop i:=by
 rw [ByteArray.data_extract];simp [List.extract_eq_take_drop,List.drop_take]
theorem gG {x:ByteArray} (h:(!(x.toList==(⟨#[]⟩:ByteArray).toList))=true):x.data.toList≠[]:=by
 rw [ce,ce] at h;intro e;rw [e] at h;cases h
theorem kt {x:ByteArray} (h:(!(x.toList==(⟨#[]⟩:ByteArray).toList)) = !true):x.data.toList=[]:=by
 rw [ce,ce] at h;cases hx:x.data.toList with
 |nil=>rfl
 |cons y r=>rw [hx] at h;cases h
end Go.Num
namespace Go.Proofs
theorem aj:Tryz.prog.follows .mixedOrders=true:=by kernel_rfl
def xN:List PV->Option Ans
 |[.val (.string b)]=>some ⟨none,.val (.string (ag (bv b))),[]⟩
 |_=>none
theorem B4:ak {} Tryz.f193 1=true:=by kernel_rfl
theorem f193:FnOk Tryz.prog 193 xN:=by
 refine FnOk.of aj (am (l:=[]) (own:=[]) (inl:=[]) (by simp) (by simp)) Tryz.func193 {} 1 B4 λargs r e=>?_;unfold xN at e;split at e
 ·rename_i b
  cases e;refine⟨by simp,λ_=>?_⟩;with_unfolding_all refine⟨ByteArray,λx=>bv x=bv b,λx=>aa [(0,.val (.string x))] [] 0 [],λx=>x.size,⟨b,[],rfl,Wo trivial ⟨rfl,qQ⟩ trivial⟩,λx (hx:bv x=bv b)=>?_⟩
  have hl:=a7 x;with_unfolding_all refine⟨λh1=>⟨?_,?_⟩,λh1=>?_⟩
  ·have h1:=gG h1;have:=List.length_pos_iff.2 h1;omega
  ·have h1:=gG h1;cases hd:x.data.toList with
   |nil=>exact absurd hd h1
   |cons y r =>
    rw [hd,List.length_cons] at hl;with_unfolding_all refine⟨λh2=>⟨?_,?_⟩,λh2=>?_⟩
    ·omega
    ·with_unfolding_all refine⟨_,[],?_,?_,Wo trivial ⟨rfl,qQ⟩ trivial⟩
     ·have hy:y=0:=by rw [hd] at h2;simp at h2;exact UInt8.toNat_inj.1 (by simpa using h2)
      show bv _=bv b;rw [<-hx,bv,d6,bv,hd,hl,hy];simp [cE]
     ·show ByteArray.size _ < x.size;rw [a7,d6,hd];simp;omega
    ·with_unfolding_all refine⟨?_,rfl⟩
     rw [<-hx,ks];rw [hd] at h2 ⊢;simp only [eE,bne_iff_ne,ne_eq];rintro rfl;simp at h2
  ·have h1:=kt h1;with_unfolding_all refine⟨nofun,λ_=>⟨?_,rfl⟩⟩
   rw [<-hx,ks];rw [h1];rfl
 ·cases e
end Go.Proofs
namespace Go.Num
def B:Nat:=4294967296
def ar (N:Nat):Nat->List PV:=λj=>[.val (.int .u32 ((N / B^j%B:Nat):Int))]
def nl (N:Nat):Nat:=if N=0 then 0 else nl (N / B)+1
termination_by N
decreasing_by rw [B];omega
def ff (N:Nat):PV:=.rs 1 (nl N) (ar N)
def nS:List PV->Nat
 |[.val (.int .u32 k)]=>k.toNat
 |_=>0
def aM:Nat->(Nat->List PV)->Nat
 |0,_=>0
 |n+1,g=>aM n g+nS (g n)*B^n
def lQ (n:Nat) (g:Nat->List PV):Prop:=∀i,i < n->∃k:Nat,k < B/\g i=[.val (.int .u32 k)]
theorem aQ (n:Nat):0 < B^n:=Nat.pow_pos (by decide)
theorem aH (n N:Nat):lQ n (ar N):=λi _=>⟨_,Nat.mod_lt _ (by decide),rfl⟩
theorem cj {n:Nat} {g:Nat->List PV} (h:lQ n g):aM n g < B^n:=by
 induction n with
 |zero=>simp [aM]
 |succ n ih =>
  obtain⟨k,hk,e⟩:=h n (by omega);have:=ih λi hi=>h i (by omega);rw [aM,e,Nat.pow_succ];simp only [nS,Int.toNat_natCast];have h2:=Nat.mul_le_mul_right (B^n) (show k<=B - 1 by omega);have h3:(B - 1)*B^n+B^n=B^n*B:=by rw [Nat.mul_comm (B^n) B,<-Nat.succ_mul];rfl
  omega
theorem vR {n:Nat} {g:Nat->List PV} (h:lQ n g):∀i,i < n->g i=ar (aM n g) i:=by
 induction n with
 |zero=>intro i hi;omega
 |succ n ih =>
  intro i hi;obtain⟨k,hk,e⟩:=h n (by omega);have hs:lQ n g:=λi hi=>h i (by omega);have hlt:=cj hs;rcases Nat.lt_or_ge i n with hin|hin
  ·rw [ih hs i hin];unfold ar;have:aM (n+1) g / B^i%B=aM n g / B^i%B:=by
    rw [aM];obtain⟨d,rfl⟩:∃d,n=i+1+d:=⟨n - i - 1,by omega⟩;rw [Nat.pow_add,Nat.pow_succ,<-Nat.mul_assoc,show nS (g (i+1+d))*(B^i*B)*B^d=B^i*(B*(nS (g (i+1+d))*B^d)) by
     rw [Nat.mul_comm (nS _) (B^i*B),Nat.mul_assoc,Nat.mul_assoc]]
    rw [Nat.add_mul_div_left _ _ (aQ i),Nat.add_mul_mod_self_left]
   rw [this]
  ·obtain rfl:i=n:=by omega
   rw [e];unfold ar;have:aM (i+1) g / B^i%B=k:=by
    rw [aM,e];simp only [nS,Int.toNat_natCast];rw [Nat.add_mul_div_right _ _ (aQ i),Nat.div_eq_of_lt hlt,Nat.zero_add,Nat.mod_eq_of_lt hk]
   rw [this]
theorem bM (N:Nat):∀n,aM n (ar N)=N%B^n
 |0=>by simp [aM,Nat.mod_one]
 |n+1=>by
  rw [aM,bM N n];simp only [ar,nS,Int.toNat_natCast];rw [Nat.pow_succ,Nat.mod_mul,Nat.mul_comm (B^n)]
theorem cm (N:Nat):N < B^nl N/\(N≠0->B^(nl N - 1)<=N/\0 < nl N):=by
 induction N using Nat.strongRecOn with
 |_ N ih =>
  unfold nl;split
  ·rename_i h;subst h;simp
  ·rename_i h
   obtain⟨h1,h2⟩:=ih (N / B) (by rw [B];omega);have h3:N < B^(nl (N / B)+1):=by
    rw [Nat.pow_succ];have:=Nat.div_add_mod N B;have:=Nat.mod_lt N (show 0 < B by decide);have:=Nat.mul_le_mul_right B (show N / B+1<=B^nl (N / B) by omega);rw [Nat.succ_mul,Nat.mul_comm (N / B)] at this;omega
   refine⟨h3,λ_=>⟨?_,by omega⟩⟩;rw [Nat.add_sub_cancel];by_cases hz:N / B=0
   ·rw [hz];unfold nl;simp;omega
   ·obtain⟨h4,h5⟩:=h2 hz;have:=Nat.div_add_mod N B;obtain⟨k,hk⟩:∃k,nl (N / B)=k+1:=⟨nl (N / B) - 1,by omega⟩;rw [hk,Nat.pow_succ];rw [hk,Nat.add_sub_cancel] at h4;have:=Nat.mul_le_mul_right B h4;rw [Nat.mul_comm (N / B)] at this;omega
theorem g7:nl 0=0:=by unfold nl;simp
theorem ku {N k:Nat} (h:N < B^k):nl N<=k:=by
 by_cases h0:N=0
 ·subst h0;rw [g7];omega
 ·obtain⟨_,h2⟩:=cm N;obtain⟨h3,h4⟩:=h2 h0;have:B^(nl N - 1) < B^k:=by omega
  have:=(Nat.pow_lt_pow_iff_right (show 1 < B by decide)).1 this;omega
theorem vV {N k:Nat} (h1:N < B^k) (h2:0 < k->B^(k - 1)<=N):nl N=k:=by
 refine Nat.le_antisymm (ku h1) ?_;rcases Nat.eq_zero_or_pos k with rfl|hk
 ·omega
 ·have:=h2 hk;obtain⟨h3,_⟩:=cm N;have:B^(k - 1) < B^nl N:=by omega
  have:=(Nat.pow_lt_pow_iff_right (show 1 < B by decide)).1 this;omega
theorem bl (N:Nat):aM (nl N) (ar N)=N:=by rw [bM,Nat.mod_eq_of_lt (cm N).1]
def oX:PV->Option (Nat×(Nat->List PV))
 |.rs 1 n g=>some (n,g)
 |.val (.slice none 0 0)=>some (0,ar 0)
 |_=>none
theorem wrap64 {x:Int} (h1 : -9223372036854775808<=x) (h2:x < 9223372036854775808):IntKind.i64.wrap x=x:=by
 have e:(2:Int)^64=18446744073709551616:=by decide
 have e':(2:Int)^(64 - 1)=9223372036854775808:=by decide
 simp only [IntKind.wrap,IntKind.bits,IntKind.signed,e,e',Bool.true_and,decide_eq_true_eq];omega
theorem dR (x:Int):IntKind.u32.wrap x=x%4294967296:=by
 have e:(2:Int)^32=4294967296:=by decide
 simp only [IntKind.wrap,IntKind.bits,IntKind.signed,e,Bool.false_and,Bool.false_eq_true,if_false]
theorem dw (x:Int):IntKind.u64.wrap x=x%18446744073709551616:=by
 have e:(2:Int)^64=18446744073709551616:=by decide
 simp only [IntKind.wrap,IntKind.bits,IntKind.signed,e,Bool.false_and,Bool.false_eq_true,if_false]
theorem ck (x:Int):IntKind.u8.wrap x=x%256:=by
 have e:(2:Int)^8=256:=by decide
 simp only [IntKind.wrap,IntKind.bits,IntKind.signed,e,Bool.false_and,Bool.false_eq_true,if_false]
theorem rP {a c k:Nat} (h:a < 2^k):a ||| c*2^k=a+c*2^k:=by
 have:=Nat.shiftLeft_add_eq_or_of_lt h c;rw [Nat.shiftLeft_eq] at this;rw [Nat.or_comm,<-this,Nat.add_comm]
theorem B5 {a c k:Nat} (h:a < 2^k) (h2:a+c*2^k < 2^32):((BitVec.ofInt 32 (a:Int) ||| BitVec.ofInt 32 ((c*2^k:Nat):Int)).toNat)=a+c*2^k:=by
 have ha:a < 2^32:=by omega
 have hc:c*2^k < 2^32:=by omega
 rw [BitVec.toNat_or,BitVec.ofInt_natCast,BitVec.ofInt_natCast,BitVec.toNat_ofNat,BitVec.toNat_ofNat,Nat.mod_eq_of_lt ha,Nat.mod_eq_of_lt hc,rP h]
theorem zU {a c k:Nat} (h:a < 2^k) (h2:a+c*2^k < 2^64):((BitVec.ofInt 64 ((c*2^k:Nat):Int) ||| BitVec.ofInt 64 (a:Int)).toNat)=a+c*2^k:=by
 have ha:a < 2^64:=by omega
 have hc:c*2^k < 2^64:=by omega
 rw [BitVec.toNat_or,BitVec.ofInt_natCast,BitVec.ofInt_natCast,BitVec.toNat_ofNat,BitVec.toNat_ofNat,Nat.mod_eq_of_lt ha,Nat.mod_eq_of_lt hc,Nat.or_comm,rP h]
theorem mP (q:Nat):B^q=256^(4*q):=by rw [Nat.pow_mul];rfl
theorem mQ (i:Nat):256^i=B^(i / 4)*256^(i%4):=by
 rw [mP,<-Nat.pow_add,Nat.div_add_mod]
theorem zV (r:Nat) (h:r < 4):256^r*256<=B:=by
 have:256^(r+1)<=256^4:=Nat.pow_le_pow_right (by decide) (by omega);rw [Nat.pow_succ] at this;exact this
theorem pG (N i:Nat):N%256^i / B^(i / 4)%B=N / B^(i / 4)%256^(i%4):=by
 rw [mQ i,Nat.mod_mul_right_div_self,Nat.mod_eq_of_lt (Nat.lt_of_lt_of_le (Nat.mod_lt _ (Nat.pow_pos (by decide))) _)];have:=zV (i%4) (by omega);omega
theorem uB (N i:Nat):N%256^(i+1) / B^(i / 4)%B=N%256^i / B^(i / 4)%B+N / 256^i%256*256^(i%4):=by
 rw [pG,Nat.pow_succ,mQ i,Nat.mul_assoc,Nat.mod_mul_right_div_self];have h:=zV (i%4) (by omega);rw [Nat.mod_eq_of_lt (Nat.lt_of_lt_of_le (Nat.mod_lt _ (Nat.mul_pos (Nat.pow_pos (by decide)) (by decide))) h)];rw [Nat.mod_mul,Nat.div_div_eq_div_mul,Nat.mul_comm (256^(i%4))]
theorem rQ (N i j:Nat) (h:j≠i / 4):N%256^(i+1) / B^j%B=N%256^i / B^j%B:=by
 rcases Nat.lt_or_ge j (i / 4) with hj|hj
 ·have key:∀k,i<=k->N%256^k / B^j%B=N / B^j%B:=by
   intro k hk;obtain⟨d,hd⟩:∃d,k=4*(j+1)+d:=⟨k - 4*(j+1),by omega⟩;rw [hd,Nat.pow_add,<-mP,Nat.pow_succ,Nat.mul_assoc,Nat.mod_mul_right_div_self,Nat.mod_mul_right_mod]
  rw [key i (by omega),key (i+1) (by omega)]
 ·have key:∀k,k<=i+1->N%256^k / B^j%B=0:=by
   intro k hk;have h1:N%256^k < 256^k:=Nat.mod_lt _ (Nat.pow_pos (by decide));have h2:256^k<=B^j:=by rw [mP];exact Nat.pow_le_pow_right (by decide) (by omega)
   rw [Nat.div_eq_of_lt (by omega),Nat.zero_mod]
  rw [key i (by omega),key (i+1) (by omega)]
theorem vW (N:Nat):∀i,i < (fL N).length->((fL N)[(fL N).length - 1 - i]?.getD 0).toNat=N / 256^i%256:=by
 induction N using Nat.strongRecOn with
 |_ N ih =>
  intro i hi;by_cases h:N=0
  ·subst h;rw [cJ] at hi;simp at hi
  ·rw [jl h] at hi ⊢;simp only [List.length_append,List.length_singleton] at hi ⊢;cases i with
   |zero =>
    simp
   |succ i =>
    rw [List.getElem?_append_left (by omega),show(fL (N / 256)).length+1 - 1 - (i+1)=(fL (N / 256)).length - 1 - i by omega,ih (N / 256) (by omega) i (by omega),Nat.pow_succ,Nat.div_div_eq_div_mul,Nat.mul_comm 256]
theorem gH (N:Nat):(ag N).size=(fL N).length:=by rw [a7];rfl
theorem tw (N:Nat):N < 256^(ag N).size:=by
 rw [gH];have:=d5 (fL N)
 rwa [gF] at this
theorem tx {N:Nat} (h:N≠0):256^((ag N).size - 1)<=N/\0 < (ag N).size:=by
 rw [gH];have h1:=jW N;have h2:=gF N;cases hd:fL N with
 |nil=>rw [hd] at h2;simp [cO] at h2;omega
 |cons x l =>
  rw [hd] at h1 h2;have:=kY h1;rw [h2] at this;simpa using this
theorem jY (b:ByteArray):(ag (bv b)).size<=b.size:=by
 have h:ag (bv b)=⟨(b.data.toList.dropWhile (·==0)).toArray⟩:=by
  have:=ks (b:=⟨(b.data.toList.dropWhile (·==0)).toArray⟩) (by simpa using (jX b.data.toList).2);rw [<-this];congr 1;simp [bv,(jX b.data.toList).1]
 rw [h,a7,a7];exact(List.dropWhile_sublist _).length_le
theorem lR (N:Nat):nl N=((ag N).size+3) / 4:=by
 refine vV ?_ λh=>?_
 ·have:=tw N;rw [mP];exact Nat.lt_of_lt_of_le this (Nat.pow_le_pow_right (by decide) (by omega))
 ·by_cases h0:N=0
  ·subst h0;have:(ag 0).size=0:=by rw [gH,cJ];rfl
   omega
  ·have:=(tx h0).1;rw [mP];exact Nat.le_trans (Nat.pow_le_pow_right (by decide) (by omega)) this
theorem co {x:PV} {r:Nat×(Nat->List PV)} (h:oX x=some r) (hu:lQ r.1 r.2) {s s':St} {σ : Ren}:ct s s' σ 3 x (.rs 1 r.1 (ar (aM r.1 r.2))):=by
 unfold oX at h;split at h
 ·cases h;exact⟨rfl,rfl,λi hi=>(vR hu i hi).symm⟩
 ·cases h;exact⟨rfl,rfl⟩
 ·cases h
theorem zW {N k:Nat} (h:N < B^(k+1)) (h2:N / B^k%B≠0):nl N=k+1:=by
 refine vV h λ_=>?_;rw [Nat.add_sub_cancel];rcases Nat.lt_or_ge N (B^k) with h3|h3
 ·rw [Nat.div_eq_of_lt h3] at h2;simp at h2
 ·exact h3
theorem uD {N k:Nat} (h:N < B^(k+1)) (h2:N / B^k%B=0):N < B^k:=by
 rw [Nat.pow_succ,Nat.mul_comm] at h;have:N / B^k < B:=Nat.div_lt_of_lt_mul (by rw [Nat.mul_comm];exact h);rw [Nat.mod_eq_of_lt this] at h2;rcases Nat.lt_or_ge N (B^k) with h3|h3
 ·exact h3
 ·have:=Nat.div_le_div_right (c:=B^k) h3;rw [Nat.div_self (aQ k)] at this;omega
abbrev d7 (n:Nat):Prop:=n<=4398046511104
theorem zX {x:Nat} (h:((x:Int)==0)=true):x=0:=by have:=beq_iff_eq.1 h;omega
theorem B6 {x:Nat} (h:((x:Int)==0)=false):x≠0:=λe=>by subst e;simp at h
theorem ew:B=4294967296:=rfl
def bU (a b:Nat):Int:=if a < b then -1 else if b < a then 1 else 0
theorem fM (N k:Nat):N / B^k=B*(N / B^(k+1))+N / B^k%B:=by
 have h:=Nat.div_add_mod (N / B^k) B;rw [Nat.div_div_eq_div_mul] at h;rw [Nat.pow_succ];exact h.symm
theorem mR {N M k:Nat} (h:N / B^k < M / B^k):N < M:=by
 rcases Nat.lt_or_ge N M with h2|h2
 ·exact h2
 ·have:=Nat.div_le_div_right (c:=B^k) h2;omega
theorem lS {N M:Nat} (h:nl N < nl M):N < M:=by
 have h1:=(cm N).1;have h0:M≠0:=λe=>by subst e;rw [g7] at h;omega
 have h2:=((cm M).2 h0).1;have:B^nl N<=B^(nl M - 1):=Nat.pow_le_pow_right (by decide) (by omega);omega
theorem ER {n m:Nat} (h:(!((n:Int)==m))=true):n≠m:=λe=>by subst e;simp at h
theorem B7 {n m:Nat} (h:(!((n:Int)==m))=false):n=m:=by
 have:((n:Int)==m)=true:=by simpa using h
 have:=beq_iff_eq.1 this;omega
theorem ES {n m:Nat} (h:((n:Int)==m)=true):n=m:=by
 have:=beq_iff_eq.1 h;omega
theorem ET {n m:Nat} (h:((n:Int)==m)=false):n≠m:=λe=>by subst e;simp at h
theorem bx {n m:Int} (h:decide (n < m)=true):n < m:=of_decide_eq_true h
theorem dU {n m:Int} (h:decide (n < m)=false):m<=n:=Int.not_lt.1 (of_decide_eq_false h)
end Go.Num
namespace Go.Proofs
def pH:List PV->Option Ans
 |[.val (.string b)]=>some ⟨some (b.size<=1099511627776),ff (bv b),[]⟩
 |_=>none
theorem B8:ak {} Tryz.f141 1=true:=by kernel_rfl
theorem f141:FnOk Tryz.prog 141 pH:=by
 refine FnOk.ofW aj (am (l:=[(193,xN)]) (own:=[]) (inl:=[]) (by simp [f193]) (by simp)) Tryz.func141 {} 1 B8 λargs r e=>?_;unfold pH at e;split at e
 ·rename_i b
  cases e;refine⟨by simp,λhm=>?_⟩;have hb:b.size<=1099511627776:=hm _ rfl;refine⟨[],aa [(0,.val (.string b))] [] 0 [],Wo trivial ⟨rfl,qQ⟩ trivial,?_⟩;have hL:=jY b;with_unfolding_all refine⟨by decide,?_⟩
  rw [show IntKind.i64.wrap ((IntKind.i64.wrap (IntKind.i64.wrap (((ag (bv b)).size:Int)+4) - 1)).tdiv 4)=((((ag (bv b)).size+3) / 4:Nat):Int) by
   simp (disch:=omega) only [wrap64,Int.tdiv_eq_ediv_of_nonneg];omega]
  generalize hn:((ag (bv b)).size+3) / 4=m;generalize hN:bv b=N at hL hn;with_unfolding_all refine⟨⟨by omega,by omega,by omega,by show(4:Int)*_<=_;omega⟩,Nat,λi=>i<=(ag N).size,λi=>aa [(0,.val (.string (ag N))),(3,.sl 0 0 0 m),(15,.val (goInt (ag N).size)),(16,.val (goInt i))]
   [⟨139,1,0,false,false,m,ar (N%256^i)⟩] 1 [],λi=>(ag N).size - i,⟨0,[some 0],by omega,Wo ⟨qZ (λi hi=>?_),qQ⟩ ⟨rfl,pP,rfl,rfl,qQ⟩ trivial⟩,λi hi=>?_⟩
  ·show ar _ i=[PV.val (.int .u32 0)];simp [ar,Nat.mod_one]
  ·replace hi:i<=(ag N).size:=hi;with_unfolding_all refine⟨λh1=>?_,λh1=>?_⟩
   ·replace h1:i < (ag N).size:=by simpa using h1
    with_unfolding_all refine⟨by decide,?_⟩
    rw [show IntKind.i64.wrap ((i:Int).tdiv 4)=((i / 4:Nat):Int) by simp (disch:=omega) only [wrap64,Int.tdiv_eq_ediv_of_nonneg];omega,
     show IntKind.i64.wrap (IntKind.i64.wrap (((ag N).size:Int) - 1) - i)=(((ag N).size - 1 - i:Nat):Int) by simp (disch:=omega) only [wrap64];omega]
    have htm:(i:Int).tmod 4=((i%4:Nat):Int):=by rw [Int.tmod_eq_emod_of_nonneg (by omega)];omega
    with_unfolding_all refine⟨⟨by omega,by omega⟩,⟨by omega,by omega⟩,by decide,?_,?_⟩
    ·rw [htm,wrap64 (by omega) (by omega)];omega
    ·have hby:((ag N).data.toList[(((ag N).size - 1 - i:Nat):Int).toNat]?.getD 0).toNat=N / 256^i%256:=by
      have:=vW N i (by rw [<-gH];exact h1);rw [<-gH] at this;exact this
     have hr:=zV (i%4) (by omega);have hb2:N / 256^i%256*256^(i%4) < B:=by
      have h3:N / 256^i%256 < 256:=Nat.mod_lt _ (by decide);have h4:0 < 256^(i%4):=Nat.pow_pos (by decide)
      calc N / 256^i%256*256^(i%4) < 256*256^(i%4):=Nat.mul_lt_mul_of_pos_right h3 h4
       _<=B:=by omega
     have h2p:(2:Nat)^(8*(i%4))=256^(i%4):=by rw [Nat.pow_mul]
     rw [show IntKind.u32.wrap (IntKind.u32.wrap (((ag N).data.toList[(((ag N).size - 1 - i:Nat):Int).toNat]?.getD 0).toNat:Int)*2^min (IntKind.i64.wrap (8*(i:Int).tmod 4)).toNat IntKind.u32.bits)=((N / 256^i%256*2^(8*(i%4)):Nat):Int) by
      rw [hby,htm,wrap64 (by omega) (by omega),dR,dR];have e1:min (8*((i%4:Nat):Int)).toNat IntKind.u32.bits=8*(i%4):=by simp only [IntKind.bits];omega
      rw [e1];have e2:(((N / 256^i%256:Nat):Int)%4294967296)=((N / 256^i%256:Nat):Int):=by omega
      rw [e2];have e3:((N / 256^i%256:Nat):Int)*2^(8*(i%4))=((N / 256^i%256*2^(8*(i%4)):Nat):Int):=by push_cast;rfl
      have hB:B=4294967296:=rfl;rw [e3,h2p];omega]
     with_unfolding_all refine⟨⟨by omega,by omega⟩,i+1,[some 0],?_,?_,Wo ⟨qZ (λj hj=>?_),qQ⟩ ⟨rfl,pP,rfl,?_,qQ⟩ trivial⟩
     ·exact h1
     ·show(ag N).size - (i+1) < (ag N).size - i;omega
     ·have hB:B=4294967296:=rfl;have hnx:=uB N i;have hlo:N%256^i / B^(i / 4)%B < 2^(8*(i%4)):=by rw [pG,h2p];exact Nat.mod_lt _ (Nat.pow_pos (by decide))
      have hlt:N%256^(i+1) / B^(i / 4)%B < B:=Nat.mod_lt _ (by decide);have hor:=B5 (a:=N%256^i / B^(i / 4)%B) (c:=N / 256^i%256) hlo (by rw [h2p];omega);show ar _ j=if j=0+(i / 4) then [PV.val (.int .u32 (IntKind.u32.wrap ((BitVec.ofInt 32 ((N%256^i / B^(0+(i / 4))%B:Nat):Int) ||| BitVec.ofInt 32 ((N / 256^i%256*2^(8*(i%4)):Nat):Int)).toNat:Nat)))] else ar _ j
      rw [Nat.zero_add,hor,dR,h2p,<-hnx];split
      ·rename_i hj2
       subst hj2;simp only [ar];congr 3;omega
      ·rename_i hj2
       simp only [ar,rQ N i j hj2]
     ·show PV.val (.int .i64 (IntKind.i64.wrap ((i:Int)+1)))=PV.val (.int .i64 ((i+1:Nat):Int));rw [wrap64 (by omega) (by omega)];rfl
   ·replace h1:(ag N).size<=i:=by simpa using h1
    have hi2:i=(ag N).size:=by omega
    with_unfolding_all refine⟨[],aa [(2,ff N)] [] 0 [],Wo trivial ⟨⟨?_,_,rfl,rfl,rfl,?_,?_⟩,qQ⟩ trivial,?_,rfl⟩
    ·simp
    ·rw [lR];exact hn.symm
    ·intro j _;show ar N j=ar (N%256^i) (0+j);rw [Nat.zero_add,hi2,Nat.mod_eq_of_lt (tw N)]
    ·rfl
 ·cases e
def nT:List PV->Option Ans
 |[x]=>(oX x).map λr=>⟨some (lQ r.1 r.2/\d7 r.1),ff (aM r.1 r.2),[]⟩
 |_=>none
theorem B9:ak {} Tryz.f146 1=true:=by kernel_rfl
theorem f146:FnOk Tryz.prog 146 nT:=by
 refine FnOk.ofW aj (am (l:=[]) (own:=[]) (inl:=[]) (by simp) (by simp)) Tryz.func146 {} 1 B9 λargs r e=>?_;unfold nT at e;split at e
 ·rename_i x
  simp only [Option.map_eq_some_iff] at e;obtain⟨⟨n,g⟩,hx,rfl⟩:=e;refine⟨by simp,λhm=>?_⟩;obtain⟨hu,hn⟩:=hm _ rfl;simp only at hu hn ⊢;have hlt:=cj hu;have hw:=@co x _ hx hu;generalize aM n g=N at *
  refine⟨[],aa [(0,.rs 1 n (ar N))] [] 0 [],Wo trivial ⟨hw,qQ⟩ trivial,?_⟩;with_unfolding_all refine⟨Nat,λk=>k<=n/\N < B^k,λk=>aa [(0,.rs 1 k (ar N))] [] 0 [],λk=>k,⟨n,[],⟨Nat.le_refl _,hlt⟩,Wo trivial ⟨qW,qQ⟩ trivial⟩,λk hk=>?_⟩
  obtain⟨hk1,hk2⟩:k<=n/\N < B^k:=hk;have hn':n<=4398046511104:=hn;cases k with
  |zero =>
   with_unfolding_all refine⟨nofun,λ_=>⟨nofun,λ_=>⟨[],aa [(2,ff N)] [] 0 [],Wo trivial ⟨⟨rfl,?_,λi hi=>?_⟩,qQ⟩ trivial,rfl,rfl⟩⟩⟩
   ·have:N=0:=by simpa using hk2
    rw [this,g7]
   ·rfl
  |succ k =>
   have hk:IntKind.i64.wrap (((k+1:Nat):Int) - 1)=((k:Nat):Int):=by rw [wrap64 (by omega) (by omega)];omega
   with_unfolding_all refine⟨λ_=>⟨?_,?_⟩,λh1=>?_⟩
   ·rw [hk];omega
   ·rw [hk];with_unfolding_all refine⟨λh2=>⟨⟨by omega,by rw [hk];omega,by rw [hk];omega⟩,k,[],⟨by omega,?_⟩,Nat.lt_succ_self k,Wo trivial ⟨⟨rfl,by rw [hk];omega,λi hi=>?_⟩,qQ⟩ trivial⟩,λh2=>⟨[],aa [(2,ff N)] [] 0 [],Wo trivial ⟨⟨rfl,?_,λi hi=>rfl⟩,qQ⟩ trivial,rfl,rfl⟩⟩
    ·replace h2:N / B^k%B=0:=zX h2;exact uD hk2 h2
    ·show ar N i=ar N (0+i);rw [Nat.zero_add]
    ·replace h2:¬N / B^k%B=0:=B6 h2;exact(zW hk2 h2).symm
   ·simp at h1
 ·cases e
def vX:List PV->Option Ans
 |[x,y]=>(oX x).bind λr=>(oX y).map λq=>⟨some ((lQ r.1 r.2/\d7 r.1/\r.1=nl (aM r.1 r.2))/\lQ q.1 q.2/\d7 q.1/\q.1=nl (aM q.1 q.2)),.val (goInt (bU (aM r.1 r.2) (aM q.1 q.2))),[]⟩
 |_=>none
theorem Ca:ak {} Tryz.f142 2=true:=by kernel_rfl
theorem f142:FnOk Tryz.prog 142 vX:=by
 refine FnOk.ofW aj (am (l:=[]) (own:=[]) (inl:=[]) (by simp) (by simp)) Tryz.func142 {} 2 Ca λargs r e=>?_;unfold vX at e;split at e
 ·rename_i x y
  simp only [Option.map_eq_some_iff,Option.bind_eq_some_iff] at e;obtain⟨⟨n,g⟩,hx,⟨m,g'⟩,hy,rfl⟩:=e;refine⟨by simp,λhm=>?_⟩;obtain⟨⟨hu,hn,hnl⟩,hu',hn',hnl'⟩:=hm _ rfl;simp only at hu hn hnl hu' hn' hnl' ⊢;have hlt:=cj hu;have hlt':=cj hu';have hw:=@co x _ hx hu;have hw':=@co y _ hy hu';have hn:n<=4398046511104:=hn;have hn':m<=4398046511104:=hn';generalize aM n g=N at *
  generalize aM m g'=M at *
  refine⟨[],aa [(0,.rs 1 n (ar N)),(1,.rs 1 m (ar M))] [] 0 [],Wo trivial ⟨hw,hw',qQ⟩ trivial,?_⟩;with_unfolding_all refine⟨λh1=>⟨λh2=>⟨[],aa [(4,.val (goInt (-1)))] [] 0 [],Wo trivial ⟨rfl,qQ⟩ trivial,?_,rfl⟩,λh2=>⟨[],aa [(4,.val (goInt 1))] [] 0 [],Wo trivial ⟨rfl,qQ⟩ trivial,?_,rfl⟩⟩,
   λh1=>⟨Nat,λk=>k<=n/\N / B^k=M / B^k,λk=>aa [(0,.rs 1 n (ar N)),(1,.rs 1 m (ar M)),(5,.val (.int .i64 ((k:Int) - 1)))] [] 0 [],λk=>k,⟨n,[],⟨Nat.le_refl _,?_⟩,Wo trivial ⟨qW,qW,?_,qQ⟩ trivial⟩,λk hk=>?_⟩⟩
  ·have h2:n < m:=by have:=of_decide_eq_true h2;omega
   have:N < M:=lS (by omega);simp [bU,this]
  ·have h2:¬n < m:=by have:=of_decide_eq_false h2;omega
   have h1:n≠m:=ER h1;have:M < N:=lS (by omega);have h3:¬N < M:=by omega
   simp [bU,this,h3]
  ·have h1:n=m:=B7 h1;subst h1;rw [Nat.div_eq_of_lt hlt,Nat.div_eq_of_lt hlt']
  ·show PV.val (.int .i64 _)=PV.val (.int .i64 _);rw [wrap64 (by omega) (by omega)]
  ·obtain⟨hk1,hk2⟩:k<=n/\N / B^k=M / B^k:=hk;have h1:n=m:=B7 h1;subst h1;cases k with
   |zero =>
    with_unfolding_all refine⟨nofun,λ_=>⟨[],aa [(4,.val (goInt 0))] [] 0 [],Wo trivial ⟨rfl,qQ⟩ trivial,?_,rfl⟩⟩
    have:N=M:=by simpa using hk2
    simp [bU,this]
   |succ k =>
    have hd:=fM N k;have hd':=fM M k;rw [hk2] at hd;have hki:(((k+1:Nat):Int) - 1)=((k:Nat):Int):=by omega
    with_unfolding_all refine⟨λ_=>⟨⟨by omega,by omega⟩,?_⟩,λh2=>absurd (of_decide_eq_false h2) (by omega)⟩
    rw [hki];with_unfolding_all refine⟨⟨by omega,by omega⟩,λh3=>⟨[],aa [(4,.val (goInt (-1)))] [] 0 [],Wo trivial ⟨rfl,qQ⟩ trivial,?_,rfl⟩,λh3=>⟨⟨by omega,by omega⟩,⟨by omega,by omega⟩,λh4=>⟨[],aa [(4,.val (goInt 1))] [] 0 [],Wo trivial ⟨rfl,qQ⟩ trivial,?_,rfl⟩,
     λh4=>⟨k,[],⟨by omega,?_⟩,Nat.lt_succ_self k,Wo trivial ⟨qW,qW,?_,qQ⟩ trivial⟩⟩⟩
    ·have h3:((N / B^k%B:Nat):Int) < ((M / B^k%B:Nat):Int):=bx h3;have:N < M:=mR (k:=k) (by omega);simp [bU,this]
    ·have h4:((M / B^k%B:Nat):Int) < ((N / B^k%B:Nat):Int):=bx h4;have:M < N:=mR (k:=k) (by omega);have h5:¬N < M:=by omega
     simp [bU,this,h5]
    ·have h3:((M / B^k%B:Nat):Int)<=((N / B^k%B:Nat):Int):=dU h3;have h4:((N / B^k%B:Nat):Int)<=((M / B^k%B:Nat):Int):=dU h4;omega
    ·show PV.val (.int .i64 (IntKind.i64.wrap (_ - 1)))=PV.val (.int .i64 _);rw [wrap64 (by omega) (by omega)]
 ·cases e
end Go.Proofs
namespace Go.Num
theorem ga {n:Nat} (h:n < 2^32):IntKind.u32.wrap (n:Int)=n:=by rw [dR];omega
theorem aP {n:Nat} (h:n < 2^64):IntKind.u64.wrap (n:Int)=n:=by rw [dw];omega
theorem dn {w n:Nat} (h:n < 2^w):(BitVec.ofInt w (n:Int)).toNat=n:=by
 rw [BitVec.ofInt_natCast,BitVec.toNat_ofNat,Nat.mod_eq_of_lt h]
theorem vY {a b:Nat} (ha:a < 2^32) (hb:b < 2^32):IntKind.u32.wrap ((BitVec.ofInt IntKind.u32.bits (a:Int) ^^^ BitVec.ofInt IntKind.u32.bits (b:Int)).toNat:Int)=((a ^^^ b:Nat):Int):=by
 have e:(BitVec.ofInt IntKind.u32.bits (a:Int) ^^^ BitVec.ofInt IntKind.u32.bits (b:Int)).toNat=a ^^^ b:=by
  show(BitVec.ofInt 32 (a:Int) ^^^ BitVec.ofInt 32 (b:Int)).toNat=a ^^^ b;rw [BitVec.toNat_xor,dn ha,dn hb]
 rw [e,ga (Nat.xor_lt_two_pow ha hb)]
theorem zB {a b:Nat} (ha:a < 2^32) (hb:b < 2^32):IntKind.u32.wrap ((BitVec.ofInt IntKind.u32.bits (a:Int) &&& BitVec.ofInt IntKind.u32.bits (b:Int)).toNat:Int)=((a &&& b:Nat):Int):=by
 have e:(BitVec.ofInt IntKind.u32.bits (a:Int) &&& BitVec.ofInt IntKind.u32.bits (b:Int)).toNat=a &&& b:=by
  show(BitVec.ofInt 32 (a:Int) &&& BitVec.ofInt 32 (b:Int)).toNat=a &&& b;rw [BitVec.toNat_and,dn ha,dn hb]
 rw [e,ga (Nat.and_lt_two_pow _ hb)]
theorem EU {a b:Nat} (ha:a < 2^32) (hb:b < 2^32):IntKind.u32.wrap ((BitVec.ofInt IntKind.u32.bits (a:Int) ||| BitVec.ofInt IntKind.u32.bits (b:Int)).toNat:Int)=((a ||| b:Nat):Int):=by
 have e:(BitVec.ofInt IntKind.u32.bits (a:Int) ||| BitVec.ofInt IntKind.u32.bits (b:Int)).toNat=a ||| b:=by
  show(BitVec.ofInt 32 (a:Int) ||| BitVec.ofInt 32 (b:Int)).toNat=a ||| b;rw [BitVec.toNat_or,dn ha,dn hb]
 rw [e,ga (Nat.or_lt_two_pow ha hb)]
theorem Cb:(if IntKind.u32.signed=true then(-1:Int) else IntKind.u32.max)=((4294967295:Nat):Int):=by decide
theorem xO (b c x y:Nat):(b &&& c ||| x &&& y) / 2^31=(b / 2^31 &&& c / 2^31 ||| x / 2^31 &&& y / 2^31):=by
 rw [<-Nat.shiftRight_eq_div_pow,Nat.shiftRight_or_distrib,Nat.shiftRight_and_distrib,Nat.shiftRight_and_distrib];simp only [Nat.shiftRight_eq_div_pow]
theorem nU (x y:Nat):(x ^^^ y) / 2^31=(x / 2^31 ^^^ y / 2^31):=by
 rw [<-Nat.shiftRight_eq_div_pow,Nat.shiftRight_xor_distrib];simp only [Nat.shiftRight_eq_div_pow]
theorem rR {x:Nat} (h:x < 4294967296):x / 2^31=0/\x < 2147483648\/x / 2^31=1/\2147483648<=x:=by omega
theorem rU {X Y c D:Nat} (hX:X < 4294967296) (hY:Y < 4294967296) (hc:c<=1) (hD:((D:Nat):Int)=((X:Int) - Y - c)%4294967296) :
  ((4294967295 ^^^ X) &&& Y ||| (4294967295 ^^^ (X ^^^ Y)) &&& D) / 2^31=if X < Y+c then 1 else 0:=by
 have hD2:D < 4294967296:=by omega
 rw [xO,nU,nU,nU];have e:4294967295 / 2^31=1:=by decide
 rw [e];rcases rR hX with ⟨h1,h1'⟩|⟨h1,h1'⟩<;>rcases rR hY with ⟨h2,h2'⟩|⟨h2,h2'⟩<;>rcases rR hD2 with ⟨h3,h3'⟩|⟨h3,h3'⟩<;>rw [h1,h2,h3]<;>split<;>first|rfl|omega
end Go.Num
namespace Go.Proofs
def xP:List PV->Option Ans
 |[.val (.int .u32 x),.val (.int .u32 y),.val (.int .u32 b)]=>some ⟨some ((0<=x/\x < 4294967296)/\(0<=y/\y < 4294967296)/\0<=b/\b<=1),.val (.tuple #[.int .u32 ((x - y - b)%4294967296),.int .u32 (if x < y+b then 1 else 0)]),[]⟩
 |_=>none
theorem Cc:ak {} Tryz.f239 3=true:=by kernel_rfl
theorem f239:FnOk Tryz.prog 239 xP:=by
 refine FnOk.of aj (am (l:=[]) (own:=[]) (inl:=[]) (by simp) (by simp)) Tryz.func239 {} 3 Cc λargs r e=>?_;unfold xP at e;split at e
 ·rename_i x y b
  cases e;refine⟨by simp,λhm=>?_⟩;obtain⟨hx,hy,hb⟩:=hm _ rfl;obtain⟨X,rfl⟩:=Int.eq_ofNat_of_zero_le hx.1;obtain⟨Y,rfl⟩:=Int.eq_ofNat_of_zero_le hy.1;obtain⟨c,rfl⟩:=Int.eq_ofNat_of_zero_le hb.1;with_unfolding_all refine⟨by decide,?_,rfl⟩
  obtain⟨D,hD⟩:=Int.eq_ofNat_of_zero_le (show 0<=((X:Int) - Y - c)%4294967296 by omega);have hd:IntKind.u32.wrap (IntKind.u32.wrap ((X:Int) - Y) - c)=(D:Int):=by rw [dR,dR];omega
  have hX:X < 2^32:=by omega
  have hY:Y < 2^32:=by omega
  have hD2:D < 2^32:=by omega
  have hM:4294967295 < 2^32:=by decide
  rw [hd,Cb,vY hM hX,vY hX hY,vY hM (Nat.xor_lt_two_pow hX hY),zB (Nat.xor_lt_two_pow hM hX) hY,zB (Nat.xor_lt_two_pow hM (Nat.xor_lt_two_pow hX hY)) hD2,
   EU (Nat.and_lt_two_pow _ hY) (Nat.and_lt_two_pow _ hD2)]
  have hb:=rU (X:=X) (Y:=Y) (c:=c) (D:=D) (by omega) (by omega) (by omega) hD.symm;have e2:(((4294967295 ^^^ X) &&& Y ||| (4294967295 ^^^ (X ^^^ Y)) &&& D:Nat):Int) / 2^min (Int.toNat 31) IntKind.u32.bits=(if (X:Int) < Y+c then 1 else 0):=by
   have e3:((((4294967295 ^^^ X) &&& Y ||| (4294967295 ^^^ (X ^^^ Y)) &&& D) / 2^31:Nat):Int)=(if (X:Int) < Y+c then 1 else 0):=by
    rw [hb];split<;>split<;>omega
   rw [<-e3];rfl
  rw [e2,hD]
 ·cases e
def zY:List PV->Option Ans
 |[.val (.int .u32 x),.val (.int .u32 y),.val (.int .u32 d)]=>some ⟨some ((0<=x/\x < d)/\(0<=y/\y < 4294967296)/\d < 4294967296),.val (.tuple #[.int .u32 ((x*4294967296+y) / d),.int .u32 ((x*4294967296+y)%d)]),[]⟩
 |_=>none
theorem Cd:ak {} Tryz.f252 3=true:=by kernel_rfl
theorem f252:FnOk Tryz.prog 252 zY:=by
 refine FnOk.of aj (am (l:=[]) (own:=[]) (inl:=[]) (by simp) (by simp)) Tryz.func252 {} 3 Cd λargs r e=>?_;unfold zY at e;split at e
 ·rename_i x y d
  cases e;refine⟨by simp,λhm=>?_⟩;obtain⟨hx,hy,hd⟩:=hm _ rfl;obtain⟨X,rfl⟩:=Int.eq_ofNat_of_zero_le hx.1;obtain⟨Y,rfl⟩:=Int.eq_ofNat_of_zero_le hy.1;obtain⟨d,rfl⟩:=Int.eq_ofNat_of_zero_le (show 0<=d by omega);with_unfolding_all refine⟨λh1=>⟨λh2=>absurd (of_decide_eq_true h2) (by omega),λh2=>⟨by decide,?_⟩⟩,λh1=>absurd ((bne_iff_ne.2 (show(d:Int)≠0 by omega)).symm.trans h1) nofun⟩
  ·have hz:IntKind.u64.wrap (X:Int)*2^min (Int.toNat 32) IntKind.u64.bits=((X*2^32:Nat):Int):=by
    rw [aP (by omega)];have e:(2:Int)^min (Int.toNat 32) IntKind.u64.bits=4294967296:=by decide
    rw [e];omega
   have hor:IntKind.u64.wrap ((BitVec.ofInt IntKind.u64.bits (IntKind.u64.wrap ((X*2^32:Nat):Int)) ||| BitVec.ofInt IntKind.u64.bits (IntKind.u64.wrap (Y:Int))).toNat:Int)=((X*4294967296+Y:Nat):Int):=by
    rw [aP (show X*2^32 < 2^64 by omega),aP (show Y < 2^64 by omega)];have:=zU (a:=Y) (c:=X) (k:=32) (by omega) (by omega);have e:(BitVec.ofInt IntKind.u64.bits ((X*2^32:Nat):Int) ||| BitVec.ofInt IntKind.u64.bits (Y:Int)).toNat=Y+X*2^32:=this;rw [e,aP (by omega)];omega
   rw [hz];with_unfolding_all refine⟨?_,?_,?_,rfl⟩
   ·rw [aP (by omega)];omega
   ·rw [aP (by omega)];omega
   ·rw [hor,aP (show d < 2^64 by omega)];have hd0:0 < d:=by omega
    have hq:(X*4294967296+Y) / d < 4294967296:=by
     rw [Nat.div_lt_iff_lt_mul hd0];have:=Nat.mul_le_mul_left 4294967296 (show X+1<=d by omega);omega
    have hr:(X*4294967296+Y)%d < 4294967296:=by have:=Nat.mod_lt (X*4294967296+Y) hd0;omega
    have hc:((X*4294967296+Y:Nat):Int)=(X:Int)*4294967296+Y:=by omega
    have e1:IntKind.u32.wrap (IntKind.u64.wrap (((X*4294967296+Y:Nat):Int).tdiv d))=((X:Int)*4294967296+Y) / d:=by
     rw [<-Int.ofNat_tdiv,aP (by omega),ga hq,Int.natCast_ediv,hc]
    have e2:IntKind.u32.wrap (((X*4294967296+Y:Nat):Int).tmod d)=((X:Int)*4294967296+Y)%d:=by
     rw [<-Int.ofNat_tmod,ga hr,Int.natCast_emod,hc]
    rw [e1,e2]
 ·cases e
end Go.Proofs
namespace Go.Num
theorem g8 (D i j:Nat):D%B^i / B^j%B=if j < i then D / B^j%B else 0:=by
 split
 ·rename_i h
  obtain⟨d,rfl⟩:∃d,i=j+1+d:=⟨i - j - 1,by omega⟩;rw [Nat.pow_add,Nat.pow_succ,Nat.mul_assoc,Nat.mod_mul_right_div_self,Nat.mod_mul_right_mod]
 ·rename_i h
  have h1:D%B^i < B^i:=Nat.mod_lt _ (aQ i);have h2:B^i<=B^j:=Nat.pow_le_pow_right (by decide) (by omega);rw [Nat.div_eq_of_lt (by omega),Nat.zero_mod]
theorem pI (D i j:Nat) {v:Int} (hv:v=((D / B^i%B:Nat):Int)):(if j=i then [PV.val (.int .u32 v)] else ar (D%B^i) j)=ar (D%B^(i+1)) j:=by
 subst hv;split
 ·rename_i h
  subst h;simp only [ar,g8,Nat.lt_succ_self,if_true]
 ·rename_i h
  simp only [ar,g8];rcases Nat.lt_or_ge j i with h2|h2
  ·rw [if_pos h2,if_pos (by omega)]
  ·rw [if_neg (by omega),if_neg (by omega)]
theorem dH (N i:Nat):N%B^(i+1)=N%B^i+B^i*(N / B^i%B):=by rw [Nat.pow_succ,Nat.mod_mul]
def g9 (N M i:Nat):Nat:=if N%B^i < M%B^i then 1 else 0
theorem vZ (N M i:Nat):g9 N M i<=1:=by unfold g9;split<;>omega
theorem xQ {N M P:Nat} (h:M<=N) (hP:0 < P):(N - M) / P+M / P+(if N%P < M%P then 1 else 0)=N / P:=by
 have h1:=Nat.div_add_mod N P;have h2:=Nat.div_add_mod M P;have h3:=Nat.mod_lt N hP;have h4:=Nat.mod_lt M hP;have h6:M / P<=N / P:=Nat.div_le_div_right h;obtain⟨q,hq⟩:∃q,N / P=M / P+q:=⟨N / P - M / P,by omega⟩;rw [hq,Nat.mul_add] at h1;split
 ·rename_i h5
  have hq0:0 < q:=by
   rcases Nat.eq_zero_or_pos q with h0|h0
   ·subst h0;simp at h1;omega
   ·exact h0
  obtain⟨r,rfl⟩:∃r,q=r+1:=⟨q - 1,by omega⟩;rw [Nat.mul_succ] at h1;have:N - M=r*P+(P+N%P - M%P):=by rw [Nat.mul_comm r P];omega
  have h7:(N - M) / P=r:=by
   rw [this,Nat.add_comm,Nat.add_mul_div_right _ _ hP,Nat.div_eq_of_lt (by omega),Nat.zero_add]
  omega
 ·rename_i h5
  have:N - M=q*P+(N%P - M%P):=by rw [Nat.mul_comm q P];omega
  have h7:(N - M) / P=q:=by
   rw [this,Nat.add_comm,Nat.add_mul_div_right _ _ hP,Nat.div_eq_of_lt (by omega),Nat.zero_add]
  omega
theorem lT {N M:Nat} (h:M<=N) (i:Nat):(((N / B^i%B:Nat):Int) - ((M / B^i%B:Nat):Int) - (g9 N M i:Nat))%4294967296=(((N - M) / B^i%B:Nat):Int):=by
 have h1:=xQ h (aQ i);have hb:(if N%B^i < M%B^i then 1 else 0)=g9 N M i:=rfl;rw [hb] at h1;generalize N / B^i=a at *
 generalize M / B^i=b at *
 generalize (N - M) / B^i=c at *
 generalize g9 N M i=d at *
 rw [ew];omega
theorem lU (N M i:Nat):(if ((N / B^i%B:Nat):Int) < ((M / B^i%B:Nat):Int)+(g9 N M i:Nat) then(1:Int) else 0)=(g9 N M (i+1):Nat):=by
 have hN:=Nat.mod_lt N (aQ i);have hM:=Nat.mod_lt M (aQ i);have key:N%B^(i+1) < M%B^(i+1)↔N / B^i%B < M / B^i%B+g9 N M i:=by
  rw [dH,dH];generalize N / B^i%B=x;generalize M / B^i%B=y;unfold g9;generalize N%B^i=a at *
  generalize M%B^i=b at *
  generalize B^i=P at *
  rcases Nat.lt_trichotomy x y with h|h|h
  ·have:=Nat.mul_le_mul_left P (show x+1<=y by omega);rw [Nat.mul_succ] at this;constructor<;>intro<;>omega
  ·subst h;split<;>omega
  ·have:=Nat.mul_le_mul_left P (show y+1<=x by omega);rw [Nat.mul_succ] at this;split<;>omega
 by_cases hc:N / B^i%B < M / B^i%B+g9 N M i
 ·have h1:g9 N M (i+1)=1:=by rw [g9,if_pos (key.2 hc)]
  rw [h1,if_pos (by omega)];rfl
 ·have h1:g9 N M (i+1)=0:=by rw [g9,if_neg (λh=>hc (key.1 h))]
  rw [h1,if_neg (by omega)];rfl
theorem fg {M m i:Nat} (h:M < B^m) (hi:m<=i):M / B^i%B=0:=by
 rw [Nat.div_eq_of_lt (Nat.lt_of_lt_of_le h (Nat.pow_le_pow_right (by decide) hi)),Nat.zero_mod]
def iT (N M i:Nat):Nat:=(N%B^i+M%B^i) / B^i
theorem rV (N M i:Nat):iT N M i<=1:=by
 have h1:=Nat.mod_lt N (aQ i);have h2:=Nat.mod_lt M (aQ i);unfold iT;have:(N%B^i+M%B^i) / B^i < 2:=by rw [Nat.div_lt_iff_lt_mul (aQ i)];omega
 omega
theorem pJ (N M:Nat) {P:Nat} (hP:0 < P):(N+M) / P=N / P+M / P+(N%P+M%P) / P:=by
 have h1:=Nat.div_add_mod N P;have h2:=Nat.div_add_mod M P;have:N+M=(N%P+M%P)+P*(N / P+M / P):=by rw [Nat.mul_add];omega
 rw [this,Nat.add_mul_div_left _ _ hP];have h3:(N%P+M%P+P*(N / P+M / P))=N+M:=this.symm;omega
theorem pK (N M i:Nat):(iT N M i+N / B^i%B+M / B^i%B)%B=(N+M) / B^i%B:=by
 rw [pJ N M (aQ i)];show _=(N / B^i+M / B^i+iT N M i)%B;generalize N / B^i=a;generalize M / B^i=b;generalize iT N M i=c;rw [ew];omega
theorem pL (N M i:Nat):(iT N M i+N / B^i%B+M / B^i%B) / B=iT N M (i+1):=by
 unfold iT;rw [dH N i,dH M i,Nat.pow_succ,<-Nat.div_div_eq_div_mul];congr 1;have:N%B^i+B^i*(N / B^i%B)+(M%B^i+B^i*(M / B^i%B))=(N%B^i+M%B^i)+B^i*(N / B^i%B+M / B^i%B):=by rw [Nat.mul_add];omega
 rw [this,Nat.add_mul_div_left _ _ (aQ i)];omega
theorem lV (D i:Nat) {g:Nat->List PV} {v:Int} (hv:v=((D / B^i%B:Nat):Int)) (hg:g 0=[.val (.int .u32 v)]) {j:Nat} (hj:j < i+1):ar D j=ll i (ar D) g j:=by
 unfold ll;split
 ·rfl
 ·obtain rfl:j=i:=by omega
  rw [Nat.sub_self,hg,hv];rfl
theorem xR {N M n m:Nat} (hN:N < B^n) (hM:M < B^m) (h:m<=n):iT N M n=(N+M) / B^n%B:=by
 have hM':M < B^n:=Nat.lt_of_lt_of_le hM (Nat.pow_le_pow_right (by decide) h);have h1:=rV N M n;have e:(N+M) / B^n=iT N M n:=by rw [pJ N M (aQ n),Nat.div_eq_of_lt hN,Nat.div_eq_of_lt hM',Nat.add_zero,Nat.zero_add];rfl
 rw [e,Nat.mod_eq_of_lt (by rw [ew];omega)]
theorem zZ {N M n m:Nat} (hN:N < B^n) (hM:M < B^m) (h:m<=n):N+M < B^(n+1):=by
 have hM':M < B^n:=Nat.lt_of_lt_of_le hM (Nat.pow_le_pow_right (by decide) h);rw [Nat.pow_succ];have:=Nat.mul_le_mul_left (B^n) (show 2<=B by decide);omega
end Go.Num
namespace Go.Proofs
def z6:List PV->Option Ans
  | [x,y]=>(oX x).bind λr=>(oX y).map λq=>⟨some ((lQ r.1 r.2/\d7 r.1)/\(lQ q.1 q.2/\d7 q.1)/\aM q.1 q.2<=aM r.1 r.2),ff (aM r.1 r.2 - aM q.1 q.2),[]⟩
  | _=>none
theorem Ce:ak {} Tryz.f199 2=true:=by kernel_rfl
theorem f199:FnOk Tryz.prog 199 z6:=by
  refine FnOk.ofW aj (am (l:=[(239,xP),(146,nT)]) (own:=[]) (inl:=[]) (by simp [f239,f146]) (by simp)) Tryz.func199 { join:=λc=>match c with | .seq (.region 7 _ _) _=>true|_=>false } 2 Ce λargs r e=>?_;unfold z6 at e;split at e
  · rename_i x y
    simp only [Option.map_eq_some_iff,Option.bind_eq_some_iff] at e;obtain⟨⟨n,g⟩,hx,⟨m,g'⟩,hy,rfl⟩:=e;refine⟨by simp,λhm=>?_⟩;obtain⟨⟨hu,hn⟩,⟨hu',hn'⟩,hle⟩:=hm _ rfl;simp only at hu hn hu' hn' hle ⊢;have hlt:=cj hu;have hlt':=cj hu';have hw:=@co x _ hx hu;have hw':=@co y _ hy hu';have hn:n<=4398046511104:=hn;have hn':m<=4398046511104:=hn';generalize aM n g=N at *
    generalize aM m g'=M at *
    refine⟨[],aa [(0,.rs 1 n (ar N)),(1,.rs 1 m (ar M))] [] 0 [],Wo trivial ⟨hw,hw',qQ⟩ trivial,?_⟩;with_unfolding_all refine⟨⟨by omega,by omega,by omega,by show(4:Int)*_<=_;omega⟩,Nat,λi=>i<=n,
      λi=>aa [(1,.rs 1 m (ar M)),(5,.sl 0 0 0 n),(6,.val (.int .u32 (g9 N M i:Nat))),(13,.rs 1 n (ar N)),(14,.val (goInt n)),(15,.val (goInt i))] [⟨139,1,0,false,false,n,ar ((N - M)%B^i)⟩] 1 [],
      λi=>n - i,⟨0,[some 0],by omega,Wo ⟨qZ (λi hi=>?_),qQ⟩ ⟨qW,pP,?_,qW,rfl,rfl,qQ⟩ trivial⟩,λi hi=>?_⟩
    · show ar _ i=[PV.val (.int .u32 0)];simp [ar,Nat.mod_one]
    · show PV.val (.int .u32 0)=PV.val (.int .u32 ((g9 N M 0:Nat):Int));simp [g9,Nat.mod_one]
    · replace hi:i<=n:=hi;with_unfolding_all refine⟨λh1=>?_,λh1=>?_⟩
      · replace h1:i < n:=by have:=bx h1;omega
        with_unfolding_all refine⟨⟨by omega,by omega⟩,Unit,λ_=>True,λ_=>aa [(1,.rs 1 m (ar M)),(5,.sl 0 0 0 n),(6,.val (.int .u32 (g9 N M i:Nat))),(7,.val (goInt i)),(8,.val (.int .u32 ((N / B^i%B:Nat):Int))),(9,.val (.int .u32 ((M / B^i%B:Nat):Int))),(13,.rs 1 n (ar N)),(14,.val (goInt n)),(15,.val (goInt i))] [⟨139,1,0,false,false,n,ar ((N - M)%B^i)⟩] 1 [],
          ⟨λh2=>⟨⟨by omega,?_⟩,(),[some 0],trivial,Wo ⟨qZ (λj hj=>rfl),qQ⟩ ⟨qW,pP,rfl,rfl,rfl,rfl,qW,rfl,rfl,qQ⟩ trivial⟩,
           λh2=>⟨(),[some 0],trivial,Wo ⟨qZ (λj hj=>rfl),qQ⟩ ⟨qW,pP,rfl,rfl,rfl,?_,qW,rfl,rfl,qQ⟩ trivial⟩⟩,λ_ _=>?_⟩
        · exact bx h2
        · have h2:=dU h2;show PV.val (.int .u32 0)=PV.val (.int .u32 ((M / B^i%B:Nat):Int));rw [fg hlt' (by omega)];rfl
        · have hbl:=vZ N M i;have hx1:=Nat.mod_lt (N / B^i) (show 0 < B by decide);have hy1:=Nat.mod_lt (M / B^i) (show 0 < B by decide);have hB:B=4294967296:=rfl;with_unfolding_all refine⟨⟨⟨by omega,by omega⟩,⟨by omega,by omega⟩,by omega,by omega⟩,⟨by omega,by omega⟩,i+1,[some 0],?_,?_,Wo ⟨qZ (λj hj=>?_),qQ⟩ ⟨qW,pP,?_,qW,rfl,?_,qQ⟩ trivial⟩
          · exact h1
          · show n - (i+1) < n - i;omega
          · show ar ((N - M)%B^(i+1)) j=if j=0+i then [PV.val (.int .u32 ((((N / B^i%B:Nat):Int) - ((M / B^i%B:Nat):Int) - (g9 N M i:Nat))%4294967296))] else ar ((N - M)%B^i) j
            rw [Nat.zero_add,pI (N - M) i j (lT hle i)]
          · show PV.val (.int .u32 (if ((N / B^i%B:Nat):Int) < ((M / B^i%B:Nat):Int)+(g9 N M i:Nat) then(1:Int) else 0))=PV.val (.int .u32 ((g9 N M (i+1):Nat):Int));rw [lU]
          · show PV.val (.int .i64 (IntKind.i64.wrap ((i:Int)+1)))=PV.val (.int .i64 ((i+1:Nat):Int));rw [wrap64 (by omega) (by omega)];rfl
      · have h1:=dU h1;have hi2:i=n:=by omega
        subst hi2;have hD:(N - M)%B^i=N - M:=Nat.mod_eq_of_lt (by omega);have hv:aM i (λk=>ar ((N - M)%B^i) (0+k))=N - M:=by
          have e:(λk=>ar ((N - M)%B^i) (0+k))=ar (N - M):=by funext k;rw [Nat.zero_add,hD]
          rw [e,bM,hD]
        with_unfolding_all refine⟨⟨?_,by show i<=_;omega⟩,[],aa [(4,ff (N - M))] [] 0 [],Wo trivial ⟨⟨rfl,?_,?_⟩,qQ⟩ trivial,rfl,rfl⟩
        · exactλj _=>⟨_,Nat.mod_lt _ (by decide),rfl⟩
        · exact congrArg nl hv
        · intro j _;show ar (N - M) j=ar (aM i λk=>ar ((N - M)%B^i) (0+k)) j;rw [hv]
  · cases e
def z7:List PV->Option Ans
  | [x,y]=>(oX x).bind λr=>(oX y).map λq=>⟨some ((lQ r.1 r.2/\d7 (r.1+1))/\(lQ q.1 q.2/\d7 (q.1+1))),ff (aM r.1 r.2+aM q.1 q.2),[]⟩
  | _=>none
theorem Cf:ak {} Tryz.f198 2=true:=by kernel_rfl
theorem f198:FnOk Tryz.prog 198 z7:=by
  refine FnOk.ofW aj (am (l:=[(146,nT)]) (own:=[]) (inl:=[]) (by simp [f146]) (by simp)) Tryz.func198 { join:=λc=>match c with | .seq (.region 1 _ _) _=>true | .seq (.region 9 _ _) _=>true|_=>false } 2 Cf λargs r e=>?_;unfold z7 at e;split at e
  · rename_i x y
    simp only [Option.map_eq_some_iff,Option.bind_eq_some_iff] at e;obtain⟨⟨n,g⟩,hx,⟨m,g'⟩,hy,rfl⟩:=e;refine⟨by simp,λhm=>?_⟩;obtain⟨⟨hu,hn⟩,hu',hn'⟩:=hm _ rfl;simp only at hu hn hu' hn' ⊢;have hlt:=cj hu;have hlt':=cj hu';have hw:=@co x _ hx hu;have hw':=@co y _ hy hu';have hn:n+1<=4398046511104:=hn;have hn':m+1<=4398046511104:=hn';generalize aM n g=N at *
    generalize aM m g'=M at *
    refine⟨[],aa [(0,.rs 1 n (ar N)),(1,.rs 1 m (ar M))] [] 0 [],Wo trivial ⟨hw,hw',qQ⟩ trivial,?_⟩;generalize hT:N+M=T;with_unfolding_all refine⟨(Nat×Nat)×Nat×Nat,λa=>(a.1.2 < B^a.1.1/\a.1.1+1<=4398046511104)/\a.2.2 < B^a.2.1/\a.2.1<=a.1.1/\a.1.2+a.2.2=T,
      λa=>aa [(0,.rs 1 a.1.1 (ar a.1.2)),(1,.rs 1 a.2.1 (ar a.2.2))] [] 0 [],
      ⟨λh1=>⟨((m,M),n,N),[],⟨⟨hlt',hn'⟩,hlt,?_,?_⟩,Wo trivial ⟨qW,qW,qQ⟩ trivial⟩,
       λh1=>⟨((n,N),m,M),[],⟨⟨hlt,hn⟩,hlt',?_,hT⟩,Wo trivial ⟨qW,qW,qQ⟩ trivial⟩⟩,λa ha=>?_⟩
    · have:=bx h1;show n<=m;omega
    · show M+N=T;omega
    · have:=dU h1;show m<=n;omega
    · clear hx hy hu hu' hlt hlt' hw hw' hn hn' hm hT;obtain⟨⟨n,N⟩,m,M⟩:=a;obtain⟨⟨hN,hn⟩,hM,hmn,hT⟩:(N < B^n/\n+1<=4398046511104)/\M < B^m/\m<=n/\N+M=T:=ha;have hn1:IntKind.i64.wrap ((n:Int)+1)=((n+1:Nat):Int):=by rw [wrap64 (by omega) (by omega)];rfl
      with_unfolding_all refine⟨⟨by omega,by rw [hn1];omega,by rw [hn1];omega,by rw [hn1];show(4:Int)*_<=_;omega⟩,Nat,λi=>i<=n,
        λi=>aa [(1,.rs 1 m (ar M)),(5,.sl 0 0 0 i),(6,.val (.int .u64 (iT N M i:Nat))),(20,.rs 1 n (ar N)),(21,.val (goInt n)),(22,.val (goInt i))] [⟨139,1,0,false,false,i,ar T⟩] 1 [],
        λi=>n - i,⟨0,[some 0],by omega,Wo ⟨qZ (λi hi=>absurd (show i < 0 from hi) (by omega)),qQ⟩ ⟨qW,pP,?_,qW,rfl,rfl,qQ⟩ trivial⟩,λi hi=>?_⟩
      · show PV.val (.int .u64 0)=PV.val (.int .u64 ((iT N M 0:Nat):Int));simp [iT,Nat.mod_one]
      · replace hi:i<=n:=hi;have hcl:=rV N M i;have hx1:=Nat.mod_lt (N / B^i) (show 0 < B by decide);have hy1:=Nat.mod_lt (M / B^i) (show 0 < B by decide);have hB:B=4294967296:=rfl;with_unfolding_all refine⟨λh1=>?_,λh1=>?_⟩
        · replace h1:i < n:=by have:=bx h1;omega
          with_unfolding_all refine⟨⟨by omega,by omega⟩,Unit,λ_=>True,λ_=>aa [(1,.rs 1 m (ar M)),(5,.sl 0 0 0 i),(6,.val (.int .u64 ((iT N M i+N / B^i%B+M / B^i%B:Nat):Int))),(20,.rs 1 n (ar N)),(21,.val (goInt n)),(22,.val (goInt i))] [⟨139,1,0,false,false,i,ar T⟩] 1 [],
            ⟨λh2=>⟨⟨by omega,?_⟩,(),[some 0],trivial,Wo ⟨qZ (λj hj=>rfl),qQ⟩ ⟨qW,pP,?_,qW,rfl,rfl,qQ⟩ trivial⟩,
             λh2=>⟨(),[some 0],trivial,Wo ⟨qZ (λj hj=>rfl),qQ⟩ ⟨qW,pP,?_,qW,rfl,rfl,qQ⟩ trivial⟩⟩,λ_ _=>?_⟩
          · exact bx h2
          · show PV.val (.int .u64 (IntKind.u64.wrap (IntKind.u64.wrap ((iT N M i:Nat)+IntKind.u64.wrap ((N / B^i%B:Nat):Int))+IntKind.u64.wrap ((M / B^i%B:Nat):Int))))=PV.val (.int .u64 _);rw [dw,dw,dw,dw];congr 2;omega
          · have h2:=dU h2;have hz:=fg hM (show m<=i by omega);show PV.val (.int .u64 (IntKind.u64.wrap ((iT N M i:Nat)+IntKind.u64.wrap ((N / B^i%B:Nat):Int))))=PV.val (.int .u64 _);rw [dw,dw,hz];congr 2;omega
          · have hal:=pK N M i;have hcs:=pL N M i;generalize hc:iT N M i+N / B^i%B+M / B^i%B=c at hal hcs ⊢;have hv:IntKind.u32.wrap (c:Int)=((T / B^i%B:Nat):Int):=by rw [dR,<-hT,<-hal,hB];omega
            with_unfolding_all refine⟨⟨rfl,?_,?_⟩,by decide,i+1,[some 0],?_,?_,Wo ⟨qZ (λj hj=>?_),qQ⟩ ⟨qW,pP,?_,qW,rfl,?_,qQ⟩ trivial⟩
            · show(i+1)*4<=140737488355328;omega
            · show i+1<=9223372036854775807;omega
            · exact h1
            · show n - (i+1) < n - i;omega
            · exact lV T i hv rfl hj
            · show PV.val (.int .u64 ((c:Int) / 2^min (Int.toNat 32) IntKind.u64.bits))=PV.val (.int .u64 _);have e:(2:Int)^min (Int.toNat 32) IntKind.u64.bits=4294967296:=by decide
              rw [e,<-hcs,hB];congr 2
            · show PV.val (.int .i64 (IntKind.i64.wrap ((i:Int)+1)))=PV.val (.int .i64 ((i+1:Nat):Int));rw [wrap64 (by omega) (by omega)];rfl
        · have h1:=dU h1;have hi2:i=n:=by omega
          subst hi2;have htop:=xR hN hM hmn;have hlt:=zZ hN hM hmn;rw [hT] at htop hlt;have hv:IntKind.u32.wrap ((iT N M i:Nat):Int)=((T / B^i%B:Nat):Int):=by rw [dR,htop,hB];omega
          have hat:∀g:Nat->List PV,g 0=[.val (.int .u32 (IntKind.u32.wrap ((iT N M i:Nat):Int)))]->∀j,j < i+1->ll i (ar T) g (0+j)=ar T j:=by
            intro g hg j hj;rw [Nat.zero_add,<-lV T i hv hg hj]
          have hval:∀g:Nat->List PV,g 0=[.val (.int .u32 (IntKind.u32.wrap ((iT N M i:Nat):Int)))]->aM (i+1) (λk=>ll i (ar T) g (0+k))=T:=by
            intro g hg;have:∀k,k<=i+1->aM k (λk=>ll i (ar T) g (0+k))=T%B^k:=by
              intro k
              induction k with
              | zero=>intro _;simp [aM,Nat.mod_one]
              | succ k ih =>
                intro hk;rw [aM,ih (by omega),Nat.zero_add,<-lV T i hv hg (show k < i+1 by omega)];have:=bM T (k+1);rw [aM,bM] at this;exact this
            rw [this (i+1) (Nat.le_refl _),Nat.mod_eq_of_lt hlt]
          with_unfolding_all refine⟨⟨rfl,?_,?_⟩,⟨?_,?_⟩,[],aa [(4,ff T)] [] 0 [],Wo trivial ⟨⟨rfl,?_,?_⟩,qQ⟩ trivial,rfl,rfl⟩
          · show(i+1)*4<=140737488355328;omega
          · show i+1<=9223372036854775807;omega
          · intro j hj;exact⟨_,Nat.mod_lt (T / B^j) (by decide),hat _ rfl j hj⟩
          · show i+1<=_;exact hn
          · exact congrArg nl (hval _ rfl)
          · intro j _;exact congrArg (ar · j) (hval _ rfl).symm
  · cases e
end Go.Proofs
namespace Go.Num
def tV (A x M i k:Nat):Nat:=A+x*(M%B^k)*B^i
def tW (A x M i k:Nat):Nat:=tV A x M i k%B^(i+k)+A / B^(i+k)*B^(i+k)
def tC (A x M i k:Nat):Nat:=tV A x M i k / B^(i+k) - A / B^(i+k)
theorem tz (A x M i:Nat):tV A x M i 0=A:=by simp [tV,Nat.mod_one]
theorem nV (A x M i k:Nat):tV A x M i (k+1)=tV A x M i k+x*(M / B^k%B)*B^(i+k):=by
 unfold tV;rw [dH,Nat.mul_add,Nat.add_mul,Nat.pow_add,<-Nat.add_assoc];congr 1;rw [Nat.mul_comm (B^k) (M / B^k%B),<-Nat.mul_assoc,Nat.mul_assoc (x*(M / B^k%B)),Nat.mul_comm (B^k)]
theorem Cg (A x M i k:Nat):A<=tV A x M i k:=Nat.le_add_right _ _
theorem nW (A x M i k:Nat):tV A x M i k / B^(i+k)=tC A x M i k+A / B^(i+k):=by
 unfold tC;have:=Nat.div_le_div_right (c:=B^(i+k)) (Cg A x M i k);omega
theorem Ch {A x M i k:Nat} (hx:x < B):tC A x M i k < B:=by
 have h1:x*(M%B^k)*B^i < (B - 1)*B^(i+k)+1:=by
  have h2:M%B^k<=B^k:=Nat.le_of_lt (Nat.mod_lt _ (aQ k));have h3:x*(M%B^k)<=(B - 1)*B^k:=Nat.mul_le_mul (by omega) h2;have h4:=Nat.mul_le_mul_right (B^i) h3;rw [Nat.mul_assoc (B - 1),<-Nat.pow_add,Nat.add_comm k i] at h4;omega
 have h5:tV A x M i k / B^(i+k)<=A / B^(i+k)+(B - 1):=by
  have:tV A x M i k<=A+B^(i+k)*(B - 1):=by unfold tV;rw [Nat.mul_comm (B^(i+k))];omega
  have:=Nat.div_le_div_right (c:=B^(i+k)) this
  rwa [Nat.add_mul_div_left _ _ (aQ _)] at this
 unfold tC;have:0 < B:=by decide
 omega
theorem xS (A x M i:Nat):tC A x M i 0=0:=by simp [tC,tz]
theorem xT (A x M i:Nat):tW A x M i 0=A:=by rw [tW,tz,Nat.mul_comm];exact Nat.mod_add_div A _
theorem rW (A x M i k j:Nat):tW A x M i k / B^j%B=if j < i+k then tV A x M i k / B^j%B else A / B^j%B:=by
 have hmod:tW A x M i k%B^(i+k)=tV A x M i k%B^(i+k):=by
  unfold tW;rw [Nat.add_mul_mod_self_right,Nat.mod_mod]
 have hdiv:tW A x M i k / B^(i+k)=A / B^(i+k):=by
  unfold tW;rw [Nat.add_mul_div_right _ _ (aQ _),Nat.div_eq_of_lt (Nat.mod_lt _ (aQ _)),Nat.zero_add]
 split
 ·rename_i h
  have h1:=g8 (tW A x M i k) (i+k) j;have h2:=g8 (tV A x M i k) (i+k) j;rw [if_pos h] at h1 h2;rw [<-h1,hmod,h2]
 ·rename_i h
  obtain⟨d,rfl⟩:∃d,j=i+k+d:=⟨j - (i+k),by omega⟩;rw [Nat.pow_add,<-Nat.div_div_eq_div_mul,hdiv,<-Nat.div_div_eq_div_mul]
theorem z8 (A x M i k:Nat):(tC A x M i k+x*(M / B^k%B)+A / B^(i+k)%B)%B=tV A x M i (k+1) / B^(i+k)%B:=by
 rw [nV,Nat.add_mul_div_right _ _ (aQ _),nW];generalize x*(M / B^k%B)=p;generalize tC A x M i k=c;generalize A / B^(i+k)=q;rw [ew];omega
theorem xU (A x M i k:Nat):(tC A x M i k+x*(M / B^k%B)+A / B^(i+k)%B) / B=tC A x M i (k+1):=by
 have h1:tV A x M i (k+1) / B^(i+k)=tC A x M i k+A / B^(i+k)+x*(M / B^k%B):=by rw [nV,Nat.add_mul_div_right _ _ (aQ _),nW]
 have h2:=nW A x M i (k+1);rw [<-Nat.add_assoc,Nat.pow_succ,<-Nat.div_div_eq_div_mul,<-Nat.div_div_eq_div_mul,h1] at h2;generalize x*(M / B^k%B)=p at *
 generalize tC A x M i k=c at *
 generalize A / B^(i+k)=q at *
 generalize tC A x M i (k+1)=r at *
 rw [ew] at *
 omega
theorem Ci (A x M i k j:Nat) {v:Int} (hv:v=(((tC A x M i k+x*(M / B^k%B)+A / B^(i+k)%B)%B:Nat):Int)) :
  (if j=i+k then [PV.val (.int .u32 v)] else ar (tW A x M i k) j)=ar (tW A x M i (k+1)) j:=by
 subst hv;rw [z8];simp only [ar,rW];split
 ·rename_i h
  subst h;rw [if_pos (by omega)]
 ·rename_i h
  rcases Nat.lt_or_ge j (i+k) with h2|h2
  ·rw [if_pos h2,if_pos (by omega),nV];obtain⟨d,hd⟩:∃d,i+k=j+1+d:=⟨i+k - j - 1,by omega⟩;rw [hd,Nat.pow_add,Nat.pow_succ];have:x*(M / B^k%B)*(B^j*B*B^d)=B^j*(B*(x*(M / B^k%B)*B^d)):=by
    generalize x*(M / B^k%B)=p;rw [<-Nat.mul_assoc,Nat.mul_comm p,Nat.mul_assoc (B^j*B),Nat.mul_assoc]
   rw [this,Nat.add_mul_div_left _ _ (aQ j),Nat.add_mul_mod_self_left]
  ·rw [if_neg (by omega),if_neg (by omega)]
theorem Cj (N M i m:Nat) (hM:M < B^m):tV (N%B^i*M) (N / B^i%B) M i m=N%B^(i+1)*M:=by
 unfold tV;rw [Nat.mod_eq_of_lt hM,dH,Nat.add_mul];congr 1;rw [Nat.mul_comm (B^i),Nat.mul_assoc,Nat.mul_assoc,Nat.mul_comm M]
theorem Aa (A x M i m j:Nat) (hA:A < B^(i+m)) (hV:tV A x M i m < B^(i+m+1)) {v:Int} (hv:v=((tC A x M i m:Nat):Int)) :
  (if j=i+m then [PV.val (.int .u32 v)] else ar (tW A x M i m) j)=ar (tV A x M i m) j:=by
 subst hv;have h0:A / B^(i+m)=0:=Nat.div_eq_of_lt hA;have h1:=nW A x M i m;rw [h0,Nat.add_zero] at h1;have h2:tC A x M i m < B:=by
  rw [<-h1,Nat.div_lt_iff_lt_mul (aQ _),Nat.mul_comm,<-Nat.pow_succ];exact hV
 simp only [ar,rW];split
 ·rename_i h
  subst h;rw [h1,Nat.mod_eq_of_lt h2]
 ·rename_i h
  split
  ·rfl
  ·rename_i h3
   have e1:A / B^j%B=0:=fg hA (by omega);have e2:tV A x M i m / B^j%B=0:=fg hV (by omega);rw [e1,e2]
theorem dS (t:Nat):IntKind.u32.wrap (t:Int)=((t%B:Nat):Int):=by
 rw [dR,ew];omega
theorem kv (t:Nat):(t:Int) / 2^min (Int.toNat 32) IntKind.u64.bits=((t / B:Nat):Int):=by
 have e:(2:Int)^min (Int.toNat 32) IntKind.u64.bits=4294967296:=by decide
 rw [e,ew];omega
end Go.Num
namespace Go.Proofs
def Ab:List PV->Option Ans
 |[x,y]=>(oX x).bind λr=>(oX y).map λq=>⟨some ((lQ r.1 r.2/\lQ q.1 q.2)/\d7 (r.1+q.1)),ff (aM r.1 r.2*aM q.1 q.2),[]⟩
 |_=>none
theorem Ck:ak {} Tryz.f156 2=true:=by kernel_rfl
theorem f156:FnOk Tryz.prog 156 Ab:=by
 refine FnOk.ofW aj (am (l:=[(146,nT)]) (own:=[]) (inl:=[]) (by simp [f146]) (by simp)) Tryz.func156 {} 2 Ck λargs r e=>?_;unfold Ab at e;split at e
 ·rename_i x y
  simp only [Option.map_eq_some_iff,Option.bind_eq_some_iff] at e;obtain⟨⟨n,g⟩,hx,⟨m,g'⟩,hy,rfl⟩:=e;refine⟨by simp,λhm=>?_⟩;obtain⟨⟨hu,hu'⟩,hn⟩:=hm _ rfl;simp only at hu hn hu' ⊢;have hN:=cj hu;have hM:=cj hu';have hw:=@co x _ hx hu;have hw':=@co y _ hy hu';have hn:n+m<=4398046511104:=hn;generalize aM n g=N at *
  generalize aM m g'=M at *
  clear hx hy hu hu' hm;refine⟨[],aa [(0,.rs 1 n (ar N)),(1,.rs 1 m (ar M))] [] 0 [],Wo trivial ⟨hw,hw',qQ⟩ trivial,?_⟩;clear hw hw';have hnm:IntKind.i64.wrap ((n:Int)+m)=((n+m:Nat):Int):=by rw [wrap64 (by omega) (by omega)];rfl
  with_unfolding_all refine⟨⟨by rw [hnm];omega,by omega,by rw [hnm];omega,by rw [hnm];show(4:Int)*_<=_;omega⟩,?_⟩
  rw [hnm];with_unfolding_all refine⟨Nat,λi=>i<=n,λi=>aa [(1,.rs 1 m (ar M)),(5,.sl 0 0 0 (n+m)),(17,.rs 1 n (ar N)),(18,.val (goInt n)),(19,.val (goInt i))] [⟨139,1,0,false,false,n+m,ar (N%B^i*M)⟩] 1 [],
   λi=>n - i,⟨0,[some 0],by omega,Wo ⟨qZ (λi hi=>?_),qQ⟩ ⟨qW,pP,qW,rfl,rfl,qQ⟩ trivial⟩,λi hi=>?_⟩
  ·show ar _ i=[PV.val (.int .u32 0)];simp [ar,Nat.mod_one]
  ·replace hi:i<=n:=hi;have hB:B=4294967296:=rfl;with_unfolding_all refine⟨λh1=>?_,λh1=>?_⟩
   ·replace h1:i < n:=by have:=bx h1;omega
    have hx:=Nat.mod_lt (N / B^i) (show 0 < B by decide);have hA:N%B^i*M < B^(i+m):=by
     rw [Nat.pow_add];exact Nat.mul_lt_mul'' (Nat.mod_lt _ (aQ i)) hM
    have hend:=Cj N M i m hM;have hV:N%B^(i+1)*M < B^(i+m+1):=by
     rw [show i+m+1=(i+1)+m by omega,Nat.pow_add _ (i+1) m];exact Nat.mul_lt_mul'' (Nat.mod_lt _ (aQ _)) hM
    generalize hAe:N%B^i*M=A at *
    with_unfolding_all refine⟨⟨by omega,by omega⟩,Nat,λk=>k<=m,λk=>aa [(1,.rs 1 m (ar M)),(5,.sl 0 0 0 (n+m)),(6,.val (goInt i)),(7,.val (.int .u32 ((N / B^i%B:Nat):Int))),(8,.val (.int .u64 (tC A (N / B^i%B) M i k:Nat))),(17,.rs 1 n (ar N)),(18,.val (goInt n)),(19,.val (goInt i)),(24,.rs 1 m (ar M)),(25,.val (goInt m)),(26,.val (goInt k))]
      [⟨139,1,0,false,false,n+m,ar (tW A (N / B^i%B) M i k)⟩] 1 [],λk=>m - k,⟨0,[some 0],by omega,Wo ⟨qZ (λj hj=>?_),qQ⟩ ⟨qW,pP,rfl,rfl,?_,qW,rfl,rfl,qW,rfl,rfl,qQ⟩ trivial⟩,λk hk=>?_⟩
    ·rw [xT]
    ·rw [xS];rfl
    ·replace hk:k<=m:=hk;have hc:=Ch (A:=A) (M:=M) (i:=i) (k:=k) hx;have hy:=Nat.mod_lt (M / B^k) (show 0 < B by decide);have ha:=Nat.mod_lt (A / B^(i+k)) (show 0 < B by decide);with_unfolding_all refine⟨λh2=>?_,λh2=>?_⟩
     ·replace h2:k < m:=by have:=bx h2;omega
      have hik:IntKind.i64.wrap ((i:Int)+k)=((i+k:Nat):Int):=by rw [wrap64 (by omega) (by omega)];rfl
      have hlimb:tW A (N / B^i%B) M i k / B^(i+k)%B=A / B^(i+k)%B:=by rw [rW,if_neg (by omega)]
      with_unfolding_all refine⟨⟨by omega,by omega⟩,⟨by rw [hik];omega,by rw [hik];omega⟩,?_⟩
      rw [hik];have hxy:N / B^i%B*(M / B^k%B)<=(B - 1)*(B - 1):=Nat.mul_le_mul (by omega) (by omega);have hset:=λj=>Ci A (N / B^i%B) M i k j (v:=IntKind.u32.wrap ((tC A (N / B^i%B) M i k+N / B^i%B*(M / B^k%B)+A / B^(i+k)%B:Nat):Int)) (dS _);have hcar:=xU A (N / B^i%B) M i k;have hword:IntKind.u64.wrap ((tC A (N / B^i%B) M i k:Nat)+IntKind.u64.wrap (IntKind.u64.wrap (IntKind.u64.wrap ((N / B^i%B:Nat):Int)*IntKind.u64.wrap ((M / B^(k:Int).toNat%B:Nat):Int))+IntKind.u64.wrap ((tW A (N / B^i%B) M i k / B^(0+((i+k:Nat):Int).toNat)%B:Nat):Int)))
        = ((tC A (N / B^i%B) M i k+N / B^i%B*(M / B^k%B)+A / B^(i+k)%B:Nat):Int):=by
       rw [Nat.zero_add,Int.toNat_natCast,Int.toNat_natCast,hlimb,aP (show N / B^i%B < 2^64 by omega),aP (show M / B^k%B < 2^64 by omega),aP (show A / B^(i+k)%B < 2^64 by omega),<-Int.natCast_mul];generalize N / B^i%B*(M / B^k%B)=p at *
       rw [hB] at hxy;simp only [dw];omega
      with_unfolding_all refine⟨⟨by omega,by omega⟩,?_⟩
      rw [hik,hword];generalize tC A (N / B^i%B) M i k+N / B^i%B*(M / B^k%B)+A / B^(i+k)%B=t at *
      with_unfolding_all refine⟨by decide,k+1,[some 0],?_,?_,Wo ⟨qZ (λj hj=>?_),qQ⟩ ⟨qW,pP,rfl,rfl,?_,qW,rfl,rfl,qW,rfl,?_,qQ⟩ trivial⟩
      ·exact h2
      ·show m - (k+1) < m - k;omega
      ·show ar (tW A (N / B^i%B) M i (k+1)) j=if j=0+(i+k) then [PV.val (.int .u32 (IntKind.u32.wrap (t:Int)))] else ar (tW A (N / B^i%B) M i k) j
       rw [Nat.zero_add,hset]
      ·show PV.val (.int .u64 ((t:Int) / 2^min (Int.toNat 32) IntKind.u64.bits))=PV.val (.int .u64 ((tC A (N / B^i%B) M i (k+1):Nat):Int));rw [kv,hcar]
      ·show PV.val (.int .i64 (IntKind.i64.wrap ((k:Int)+1)))=PV.val (.int .i64 ((k+1:Nat):Int));rw [wrap64 (by omega) (by omega)];rfl
     ·have h2:=dU h2;have hkm:k=m:=by omega
      subst hkm;have hik:IntKind.i64.wrap ((i:Int)+k)=((i+k:Nat):Int):=by rw [wrap64 (by omega) (by omega)];rfl
      have hlast:=λj=>Aa A (N / B^i%B) M i k j hA (by rw [hend];exact hV) (v:=IntKind.u32.wrap ((tC A (N / B^i%B) M i k:Nat):Int)) (by rw [dS,Nat.mod_eq_of_lt hc]);with_unfolding_all refine⟨⟨by rw [hik];omega,by rw [hik];omega⟩,i+1,[some 0],?_,?_,Wo ⟨qZ (λj hj=>?_),qQ⟩ ⟨qW,pP,qW,rfl,?_,qQ⟩ trivial⟩
      ·exact h1
      ·show n - (i+1) < n - i;omega
      ·show ar (N%B^(i+1)*M) j=if j=0+(IntKind.i64.wrap ((i:Int)+k)).toNat then [PV.val (.int .u32 (IntKind.u32.wrap ((tC A (N / B^i%B) M i k:Nat):Int)))] else ar (tW A (N / B^i%B) M i k) j
       rw [hik,Nat.zero_add,<-hend];exact(hlast j).symm
      ·show PV.val (.int .i64 (IntKind.i64.wrap ((i:Int)+1)))=PV.val (.int .i64 ((i+1:Nat):Int));rw [wrap64 (by omega) (by omega)];rfl
   ·have h1:=dU h1;have hi2:i=n:=by omega
    subst hi2;have hD:N%B^i*M=N*M:=by rw [Nat.mod_eq_of_lt hN]
    have hlt:N*M < B^(i+m):=by rw [Nat.pow_add];exact Nat.mul_lt_mul'' hN hM
    have hv:aM (i+m) (λk=>ar (N%B^i*M) (0+k))=N*M:=by
     have e:(λk=>ar (N%B^i*M) (0+k))=ar (N*M):=by funext k;rw [Nat.zero_add,hD]
     rw [e,bM,Nat.mod_eq_of_lt hlt]
    with_unfolding_all refine⟨⟨λj _=>⟨_,Nat.mod_lt _ (by decide),rfl⟩,hn⟩,[],aa [(4,ff (N*M))] [] 0 [],Wo trivial ⟨⟨rfl,?_,?_⟩,qQ⟩ trivial,rfl,rfl⟩
    ·exact congrArg nl hv
    ·intro j _;exact congrArg (ar · j) hv.symm
 ·cases e
end Go.Proofs
namespace Go.Num
theorem Ac (Q k j:Nat):Q / B^k*B^k / B^j%B=if j < k then 0 else Q / B^j%B:=by
 split
 ·rename_i h
  obtain⟨d,rfl⟩:∃d,k=j+1+d:=⟨k - j - 1,by omega⟩;have:Q / B^(j+1+d)*B^(j+1+d)=Q / B^(j+1+d)*B^d*B*B^j:=by
   rw [Nat.mul_assoc,Nat.mul_assoc,show B^d*(B*B^j)=B^(j+1+d) by rw [Nat.add_comm (j+1),Nat.pow_add,Nat.pow_succ,Nat.mul_comm (B^j)]]
  rw [this,Nat.mul_div_cancel _ (aQ j),Nat.mul_mod_left]
 ·rename_i h
  obtain⟨d,rfl⟩:∃d,j=k+d:=⟨j - k,by omega⟩;rw [Nat.pow_add,<-Nat.div_div_eq_div_mul,Nat.mul_div_cancel _ (aQ k),<-Nat.div_div_eq_div_mul]
theorem tA (Q k j:Nat) {v:Int} (hv:v=((Q / B^k%B:Nat):Int)):(if j=k then [PV.val (.int .u32 v)] else ar (Q / B^(k+1)*B^(k+1)) j)=ar (Q / B^k*B^k) j:=by
 subst hv;simp only [ar,Ac];split
 ·rename_i h
  subst h;rw [if_neg (by omega)]
 ·rename_i h
  rcases Nat.lt_or_ge j k with h2|h2
  ·rw [if_pos (by omega),if_pos h2]
  ·rw [if_neg (by omega),if_neg (by omega)]
theorem rX (N d k:Nat) (hd:0 < d) (hdB:d < B):(N / B^(k+1)%d*B+N / B^k%B) / d=N / d / B^k%B/\(N / B^(k+1)%d*B+N / B^k%B)%d=N / B^k%d/\N / B^(k+1)%d < d:=by
 have h1:=fM N k;have h2:=Nat.div_add_mod (N / B^(k+1)) d;have hr:=Nat.mod_lt (N / B^(k+1)) hd;have hx:=Nat.mod_lt (N / B^k) (show 0 < B by decide);have e:N / d / B^k=N / B^k / d:=by rw [Nat.div_div_eq_div_mul,Nat.div_div_eq_div_mul,Nat.mul_comm]
 rw [e];generalize N / B^(k+1)=q at *
 generalize N / B^k=p at *
 generalize p%B=x at *
 generalize q%d=r at *
 generalize q / d=s at *
 have h3:p=(r*B+x)+d*(B*s):=by
  rw [h1,<-h2,Nat.mul_add,Nat.mul_comm B r,<-Nat.mul_assoc,Nat.mul_comm B d,Nat.mul_assoc];omega
 refine⟨?_,?_,hr⟩
 ·rw [h3,Nat.add_mul_div_left _ _ hd,Nat.add_mul_mod_self_left];have:(r*B+x) / d < B:=by
   rw [Nat.div_lt_iff_lt_mul hd];have:=Nat.mul_le_mul_right B (show r+1<=d by omega);rw [Nat.succ_mul,Nat.mul_comm d] at this;omega
  rw [Nat.mod_eq_of_lt this]
 ·rw [h3,Nat.add_mul_mod_self_left]
def bY (x:Nat):Nat:=if x=0 then 0 else Nat.log2 x+1
theorem hO {x:Nat} (h:x≠0):2^(bY x - 1)<=x/\x < 2^bY x/\0 < bY x:=by
 unfold bY;rw [if_neg h];exact⟨Nat.log2_self_le h,Nat.lt_log2_self,by omega⟩
theorem xV {x k:Nat} (h1:2^k<=x) (h2:x < 2^(k+1)):bY x=k+1:=by
 have h0:x≠0:=λe=>by subst e;have:=Nat.pow_pos (n:=k) (show 0 < 2 by decide);omega
 unfold bY;rw [if_neg h0,(Nat.log2_eq_iff h0).2 ⟨h1,h2⟩]
theorem gb {x k:Nat} (h:2^k<=x):bY x=bY (x / 2^k)+k:=by
 have hp:0 < 2^k:=Nat.pow_pos (by decide);have h0:x / 2^k≠0:=λe=>by
  rw [Nat.div_eq_zero_iff] at e;omega
 obtain⟨h1,h2,h3⟩:=hO h0;generalize hb:bY (x / 2^k)=b at *
 obtain⟨c,rfl⟩:∃c,b=c+1:=⟨b - 1,by omega⟩;rw [Nat.add_sub_cancel] at h1;have h4:x < 2^(c+1+k):=by
  rw [Nat.div_lt_iff_lt_mul hp,<-Nat.pow_add] at h2;exact h2
 have h5:2^(c+k)<=x:=by
  rw [Nat.pow_add];exact(Nat.le_div_iff_mul_le hp).1 h1
 rw [xV h5 (by rw [show c+k+1=c+1+k by omega];exact h4)];omega
end Go.Num
namespace Go.Proofs
def Ad:List PV->Option Ans
 |[x,.val (.int .u32 d)]=>(oX x).map λr=>⟨some ((lQ r.1 r.2/\d7 r.1)/\0 < d/\d < 4294967296),.tup [ff (aM r.1 r.2 / d.toNat),.val (.int .u32 ((aM r.1 r.2%d.toNat:Nat):Int))],[]⟩
 |_=>none
theorem Cl:ak {} Tryz.f234 2=true:=by kernel_rfl
theorem f234:FnOk Tryz.prog 234 Ad:=by
 refine FnOk.ofW aj (am (l:=[(252,zY),(146,nT)]) (own:=[]) (inl:=[]) (by simp [f252,f146]) (by simp)) Tryz.func234 {} 2 Cl λargs r e=>?_;unfold Ad at e;split at e
 ·rename_i x d
  simp only [Option.map_eq_some_iff] at e;obtain⟨⟨n,g⟩,hx,rfl⟩:=e;refine⟨by simp,λhm=>?_⟩;obtain⟨⟨hu,hn⟩,hd,hd2⟩:=hm _ rfl;obtain⟨d,rfl⟩:=Int.eq_ofNat_of_zero_le (show 0<=d by omega);simp only [Int.toNat_natCast] at hu hn ⊢;have hN:=cj hu;have hw:=@co x _ hx hu;have hn:n<=4398046511104:=hn;generalize aM n g=N at *
  clear hx hu hm;refine⟨[],aa [(0,.rs 1 n (ar N)),(1,.val (.int .u32 d))] [] 0 [],Wo trivial ⟨hw,rfl,qQ⟩ trivial,?_⟩;clear hw;with_unfolding_all refine⟨⟨by omega,by omega,by omega,by show(4:Int)*_<=_;omega⟩,Nat,λk=>k<=n,λk=>aa [(0,.rs 1 n (ar N)),(1,.val (.int .u32 d)),(6,.sl 0 0 0 n),(7,.val (.int .u32 ((N / B^k%d:Nat):Int))),(8,.val (.int .i64 ((k:Int) - 1)))] [⟨139,1,0,false,false,n,ar (N / d / B^k*B^k)⟩] 1 [],
   λk=>k,⟨n,[some 0],Nat.le_refl _,Wo ⟨qZ (λi hi=>?_),qQ⟩ ⟨qW,rfl,pP,?_,?_,qQ⟩ trivial⟩,λk hk=>?_⟩
  ·show ar _ i=[PV.val (.int .u32 0)];rw [Nat.div_eq_of_lt (show N / d < B^n from Nat.lt_of_le_of_lt (Nat.div_le_self _ _) hN)];simp [ar]
  ·show PV.val (.int .u32 0)=PV.val (.int .u32 ((N / B^n%d:Nat):Int));rw [Nat.div_eq_of_lt hN,Nat.zero_mod];rfl
  ·show PV.val (.int .i64 (IntKind.i64.wrap ((n:Int) - 1)))=_;rw [wrap64 (by omega) (by omega)]
  ·replace hk:k<=n:=hk;have hB:B=4294967296:=rfl;cases k with
   |zero =>
    have hv:aM n (λk=>ar (N / d / B^0*B^0) (0+k))=N / d:=by
     have e:(λk=>ar (N / d / B^0*B^0) (0+k))=ar (N / d):=by funext k;rw [Nat.zero_add];simp
     rw [e,bM,Nat.mod_eq_of_lt (Nat.lt_of_le_of_lt (Nat.div_le_self _ _) hN)]
    have hr:N / B^0%d=N%d:=by simp
    with_unfolding_all refine⟨nofun,λ_=>⟨⟨λj _=>⟨_,Nat.mod_lt _ (by decide),rfl⟩,hn⟩,[],aa [(4,ff (N / d)),(5,.val (.int .u32 ((N%d:Nat):Int)))] [] 0 [],Wo trivial ⟨⟨rfl,?_,?_⟩,?_,qQ⟩ trivial,rfl,rfl⟩⟩
    ·exact congrArg nl hv
    ·intro j _;exact congrArg (ar · j) hv.symm
    ·show PV.val (.int .u32 ((N / B^0%d:Nat):Int))=PV.val (.int .u32 ((N%d:Nat):Int));rw [hr]
   |succ k =>
    obtain⟨s1,s2,s3⟩:=rX N d k (by omega) (by omega);have hx:=Nat.mod_lt (N / B^k) (show 0 < B by decide);have hx':N / B^(k:Int).toNat%B < B:=hx;have hki:(((k+1:Nat):Int) - 1)=((k:Nat):Int):=by omega
    have hq:((N / B^(k+1)%d:Nat):Int)*4294967296+((N / B^k%B:Nat):Int)=((N / B^(k+1)%d*B+N / B^k%B:Nat):Int):=by rw [hB];omega
    with_unfolding_all refine⟨λ_=>⟨⟨by omega,by omega⟩,?_⟩,λh2=>absurd (of_decide_eq_false h2) (by omega)⟩
    rw [hki];with_unfolding_all refine⟨⟨⟨by omega,by omega⟩,⟨by omega,by omega⟩,by omega⟩,⟨by omega,by omega⟩,k,[some 0],?_,Nat.lt_succ_self k,Wo ⟨qZ (λj hj=>?_),qQ⟩ ⟨qW,rfl,pP,?_,?_,qQ⟩ trivial⟩
    ·show k<=n;omega
    ·show ar (N / d / B^k*B^k) j=if j=0+k then [PV.val (.int .u32 ((((N / B^(k+1)%d:Nat):Int)*4294967296+((N / B^k%B:Nat):Int)) / d))] else ar (N / d / B^(k+1)*B^(k+1)) j
     rw [Nat.zero_add,tA];rw [hq,<-s1];rfl
    ·show PV.val (.int .u32 ((((N / B^(k+1)%d:Nat):Int)*4294967296+((N / B^k%B:Nat):Int))%d))=PV.val (.int .u32 ((N / B^k%d:Nat):Int));rw [hq,<-s2];rfl
    ·show PV.val (.int .i64 (IntKind.i64.wrap ((k:Int) - 1)))=_;rw [wrap64 (by omega) (by omega)]
 ·cases e
def Ae:List PV->Option Ans
 |[.val (.int .u32 x)]=>some ⟨some (0<=x/\x < 4294967296),.val (.int .i64 (bY x.toNat:Nat)),[]⟩
 |_=>none
theorem Cm:ak {} Tryz.f165 1=true:=by kernel_rfl
theorem nX {T:ByteArray} (hT:∀m:Fin 256,(T.data.toList[m.1]?.getD 0).toNat=bY m.1) {w c:Int} {x m:Nat} (hw:w=(m:Nat)) (hm:m < 256) (hc:c+bY m=bY x) (h0:0<=c) (h1:c<=24) :
  PV.val (.int .i64 (IntKind.i64.wrap (c+IntKind.i64.wrap (((T.data.toList[w.toNat]?.getD 0).toNat:Nat):Int))))=PV.val (.int .i64 ((bY (x:Int).toNat:Nat):Int)):=by
 subst hw;have h2:=hT ⟨m,hm⟩;simp only at h2;have h3:bY m<=8:=by
  rcases Nat.eq_zero_or_pos m with h|h
  ·subst h;decide
  ·have:=(hO (show m≠0 by omega)).1;rcases Nat.lt_or_ge 8 (bY m) with h4|h4
   ·have:2^8<=2^(bY m - 1):=Nat.pow_le_pow_right (by decide) (by omega);omega
   ·exact h4
 rw [Int.toNat_natCast,Int.toNat_natCast,h2,wrap64 (x:=((bY m:Nat):Int)) (by omega) (by omega),wrap64 (by omega) (by omega),hc]
theorem f165:FnOk Tryz.prog 165 Ae:=by
 refine FnOk.of aj (am (l:=[]) (own:=[]) (inl:=[]) (by simp) (by simp)) Tryz.func165 {} 1 Cm λargs r e=>?_;unfold Ae at e;split at e
 ·rename_i x
  cases e;refine⟨by simp,λhm=>?_⟩;obtain⟨h0,h1⟩:=hm _ rfl;obtain⟨x,rfl⟩:=Int.eq_ofNat_of_zero_le h0;with_unfolding_all refine⟨λh2=>⟨by decide,λh3=>⟨by decide,?_⟩,λh3=>?_⟩,λh2=>⟨λh3=>⟨by decide,?_⟩,λh3=>?_⟩⟩
  all_goals with_unfolding_all refine⟨?_,?_,rfl⟩
  all_goals have e16:(2:Int)^min (Int.toNat 16) IntKind.u32.bits=65536:=by decide
  all_goals have e8:(2:Int)^min (Int.toNat 8) IntKind.u32.bits=256:=by decide
  all_goals try rw [e16] at h3
  ·rw [e16,e8,ck];show _/\_ < ((256:Nat):Int);omega
  ·refine nX (m:=x / 65536 / 256) (by decide +kernel) (by rw [e16,e8,ck];omega) (by omega) ?_ (by decide) (by decide);have h2:=of_decide_eq_true h2;have h3:=of_decide_eq_true h3;have b1:=gb (x:=x) (k:=16) (by omega);have b2:=gb (x:=x / 2^16) (k:=8) (by omega);rw [b1,b2,show IntKind.i64.wrap (16+8)=24 by decide];show(24:Int)+((bY (x / 65536 / 256):Nat):Int)=((bY (x / 65536 / 256)+8+16:Nat):Int);omega
  ·have h3:=of_decide_eq_false h3;rw [e16,ck];show _/\_ < ((256:Nat):Int);omega
  ·have h2:=of_decide_eq_true h2;have h3:=of_decide_eq_false h3;refine nX (m:=x / 65536) (by decide +kernel) (by rw [e16,ck];omega) (by omega) ?_ (by decide) (by decide);have b1:=gb (x:=x) (k:=16) (by omega);rw [b1];show(16:Int)+((bY (x / 65536):Nat):Int)=((bY (x / 65536)+16:Nat):Int);omega
  ·rw [e8,ck];show _/\_ < ((256:Nat):Int);omega
  ·have h2:=of_decide_eq_false h2;have h3:=of_decide_eq_true h3;refine nX (m:=x / 256) (by decide +kernel) (by rw [e8,ck];omega) (by omega) ?_ (by decide) (by decide);have b1:=gb (x:=x) (k:=8) (by omega);rw [b1,show IntKind.i64.wrap (0+8)=8 by decide];show(8:Int)+((bY (x / 256):Nat):Int)=((bY (x / 256)+8:Nat):Int);omega
  ·rw [ck];show _/\_ < ((256:Nat):Int);omega
  ·have h2:=of_decide_eq_false h2;have h3:=of_decide_eq_false h3;exact nX (m:=x) (by decide +kernel) (by rw [ck];omega) (by omega) (by omega) (by decide) (by decide)
 ·cases e
theorem xW {x k:Nat} (h:x < 2^k):bY x<=k:=by
 rcases Nat.eq_zero_or_pos x with h0|h0
 ·subst h0;exact Nat.zero_le _
 ·have:=(hO (show x≠0 by omega)).1;have:2^(bY x - 1) < 2^k:=by omega
  have:=(Nat.pow_lt_pow_iff_right (show 1 < 2 by decide)).1 this;omega
def Af:List PV->Option Ans
 |[.val (.int .u32 x)]=>some ⟨some (0<=x/\x < 4294967296),.val (.int .i64 ((32 - bY x.toNat:Nat):Int)),[]⟩
 |_=>none
theorem Cn:ak {} Tryz.f235 1=true:=by kernel_rfl
theorem f235:FnOk Tryz.prog 235 Af:=by
 refine FnOk.of aj (am (l:=[(165,Ae)]) (own:=[]) (inl:=[]) (by simp [f165]) (by simp)) Tryz.func235 {} 1 Cn λargs r e=>?_;unfold Af at e;split at e
 ·rename_i x
  cases e;refine⟨by simp,λhm=>?_⟩;obtain⟨h0,h1⟩:=hm _ rfl;obtain⟨x,rfl⟩:=Int.eq_ofNat_of_zero_le h0;have hl:=xW (x:=x) (k:=32) (by omega);with_unfolding_all refine⟨⟨by omega,by omega⟩,?_,rfl⟩
  show PV.val (.int .i64 (IntKind.i64.wrap (32 - ((bY x:Nat):Int))))=PV.val (.int .i64 ((32 - bY x:Nat):Int));rw [wrap64 (by omega) (by omega)];congr 2;omega
 ·cases e
end Go.Proofs
namespace Go.Num
theorem jm (s:Nat) (h:s<=32):B=2^s*2^(32 - s):=by
 rw [<-Nat.pow_add,show s+(32 - s)=32 by omega];rfl
theorem tD (N i s:Nat):N%B^i*2^s / B^i < 2^s:=by
 rw [Nat.div_lt_iff_lt_mul (aQ i),Nat.mul_comm (2^s)];exact Nat.mul_lt_mul_of_pos_right (Nat.mod_lt _ (aQ i)) (Nat.pow_pos (by decide))
theorem tE (x s:Nat) (h:s<=32):x*2^s%B=x%2^(32 - s)*2^s:=by
 rw [jm s h,Nat.mul_comm x,Nat.mul_mod_mul_left,Nat.mul_comm]
theorem pM (N i s:Nat):N%B^(i+1)*2^s=N%B^i*2^s+B^i*(N / B^i%B*2^s):=by
 rw [dH,Nat.add_mul,Nat.mul_assoc]
theorem tF {h x s:Nat} (hs:s<=32) (hh:h < 2^s):(h+x*2^s)%B=h+x*2^s%B/\(h+x*2^s) / B=x*2^s / B:=by
 have hp:0 < 2^(32 - s):=Nat.pow_pos (by decide);have hp2:0 < 2^s:=Nat.pow_pos (by decide);have e:h+x*2^s=(h+x%2^(32 - s)*2^s)+B*(x / 2^(32 - s)):=by
  rw [jm s hs];have:=Nat.div_add_mod x (2^(32 - s));have h2:x*2^s=(2^(32 - s)*(x / 2^(32 - s))+x%2^(32 - s))*2^s:=by rw [this]
  rw [h2,Nat.add_mul];have:2^(32 - s)*(x / 2^(32 - s))*2^s=2^s*2^(32 - s)*(x / 2^(32 - s)):=by rw [Nat.mul_comm (2^(32 - s)*_),Nat.mul_assoc]
  omega
 have hlt:h+x%2^(32 - s)*2^s < B:=by
  have h1:=Nat.mod_lt x hp;have h2:=Nat.mul_le_mul_right (2^s) (show x%2^(32 - s)+1<=2^(32 - s) by omega);rw [Nat.succ_mul,Nat.mul_comm (2^(32 - s)),<-jm s hs] at h2;omega
 have hd:x*2^s / B=x / 2^(32 - s):=by rw [jm s hs,Nat.mul_comm x,Nat.mul_div_mul_left _ _ hp2]
 constructor
 ·rw [tE x s hs,e,Nat.add_mul_mod_self_left,Nat.mod_eq_of_lt hlt]
 ·rw [hd,e,Nat.add_mul_div_left _ _ (show 0 < B by decide),Nat.div_eq_of_lt hlt,Nat.zero_add]
theorem xX (N i s j:Nat) (hs:s < 32) {v u:Int} (hv:v=((N%B^i*2^s / B^i%B+N / B^i%B*2^s%B:Nat):Int)) (hu:u=((N / B^i%B*2^s / B:Nat):Int)) :
  (if j=i+1 then [PV.val (.int .u32 u)] else if j=i then [PV.val (.int .u32 v)] else ar (N%B^i*2^s) j)=ar (N%B^(i+1)*2^s) j:=by
 subst hv hu;have hlow:=tD N i s;have hsB:2^s<=B:=by rw [jm s (by omega)];exact Nat.le_mul_of_pos_right _ (Nat.pow_pos (by decide))
 obtain⟨a1,a2⟩:=tF (h:=N%B^i*2^s / B^i) (x:=N / B^i%B) (by omega) hlow;have hx:=Nat.mod_lt (N / B^i) (show 0 < B by decide);have hyB:N / B^i%B*2^s / B < B:=by
  rw [Nat.div_lt_iff_lt_mul (by decide)];exact Nat.mul_lt_mul_of_lt_of_le hx hsB (by decide)
 have hdiv:N%B^(i+1)*2^s / B^i=N%B^i*2^s / B^i+N / B^i%B*2^s:=by rw [pM,Nat.add_mul_div_left _ _ (aQ i)]
 simp only [ar];split
 ·rename_i h
  subst h;rw [Nat.pow_succ,<-Nat.div_div_eq_div_mul,<-Nat.pow_succ,hdiv,a2,Nat.mod_eq_of_lt hyB]
 ·rename_i h
  split
  ·rename_i h2
   subst h2;rw [hdiv,a1,Nat.mod_eq_of_lt (Nat.lt_of_lt_of_le hlow hsB)]
  ·rename_i h2
   rcases Nat.lt_or_ge j i with h3|h3
   ·rw [pM];obtain⟨d,rfl⟩:∃d,i=j+1+d:=⟨i - j - 1,by omega⟩;have hp:B^(j+1+d)=B^j*(B*B^d):=by rw [Nat.pow_add,Nat.pow_succ,Nat.mul_assoc]
    generalize N / B^(j+1+d)%B*2^s=y;generalize N%B^(j+1+d)*2^s=a;rw [hp,Nat.mul_assoc,Nat.mul_assoc,Nat.add_mul_div_left _ _ (aQ j),Nat.add_mul_mod_self_left]
   ·have h4:N%B^i*2^s < B^(i+1):=by
     rw [Nat.pow_succ];exact Nat.mul_lt_mul_of_lt_of_le (Nat.mod_lt _ (aQ i)) hsB (by decide)
    have h5:N%B^(i+1)*2^s < B^(i+2):=by
     rw [show i+2=(i+1)+1 by omega,Nat.pow_succ B (i+1)];exact Nat.mul_lt_mul_of_lt_of_le (Nat.mod_lt _ (aQ (i+1))) hsB (by decide)
    rw [fg h4 (by omega),fg h5 (by omega)]
theorem Co {a c k:Nat} (h:a < 2^k) (h2:a+c*2^k < 2^64):((BitVec.ofInt 64 (a:Int) ||| BitVec.ofInt 64 ((c*2^k:Nat):Int)).toNat)=a+c*2^k:=by
 have ha:a < 2^64:=by omega
 have hc:c*2^k < 2^64:=by omega
 rw [BitVec.toNat_or,dn ha,dn hc,rP h]
theorem uE (N i:Nat):N / B^i%(B*B)=N / B^i%B+N / B^(i+1)%B*B:=by
 rw [Nat.mod_mul,Nat.div_div_eq_div_mul,<-Nat.pow_succ,Nat.mul_comm B]
theorem wa (N i s:Nat) (hs:s<=32):N / B^i%(B*B) / 2^s%B=N / 2^s / B^i%B:=by
 have hp:0 < 2^s:=Nat.pow_pos (by decide);have e:N / 2^s / B^i=N / B^i / 2^s:=by rw [Nat.div_div_eq_div_mul,Nat.div_div_eq_div_mul,Nat.mul_comm]
 rw [e];generalize N / B^i=q;have hB:B*B=2^s*(B*2^(32 - s)):=by
  conv=>lhs;rw [jm s hs]
  rw [jm s hs];simp only [Nat.mul_comm,Nat.mul_left_comm,Nat.mul_assoc]
 rw [hB,Nat.mod_mul_right_div_self,Nat.mod_mul_right_mod]
end Go.Num
namespace Go.Proofs
def Ag:List PV->Option Ans
 |[x,.val (.int .i64 s)]=>(oX x).map λr=>⟨some ((lQ r.1 r.2/\d7 (r.1+1))/\0<=s/\s < 32),.sl 0 0 0 (r.1+1),[⟨139,1,0,false,false,r.1+1,ar (aM r.1 r.2*2^s.toNat)⟩]⟩
 |_=>none
theorem Cp:ak {} Tryz.f236 2=true:=by kernel_rfl
theorem f236:FnOk Tryz.prog 236 Ag:=by
 refine FnOk.ofW aj (am (l:=[]) (own:=[]) (inl:=[]) (by simp) (by simp)) Tryz.func236 {} 2 Cp λargs r e=>?_;unfold Ag at e;split at e
 ·rename_i x s
  simp only [Option.map_eq_some_iff] at e;obtain⟨⟨n,g⟩,hx,rfl⟩:=e;refine⟨by simp,λhm=>?_⟩;obtain⟨⟨hu,hn⟩,hs0,hs⟩:=hm _ rfl;obtain⟨s,rfl⟩:=Int.eq_ofNat_of_zero_le hs0;simp only [Int.toNat_natCast] at hu hn ⊢;have hN:=cj hu;have hw:=@co x _ hx hu;have hn:n+1<=4398046511104:=hn;generalize aM n g=N at *
  clear hx hu hm;refine⟨[],aa [(0,.rs 1 n (ar N)),(1,.val (goInt s))] [] 0 [],Wo trivial ⟨hw,rfl,qQ⟩ trivial,?_⟩;clear hw;have hn1:IntKind.i64.wrap ((n:Int)+1)=((n+1:Nat):Int):=by rw [wrap64 (by omega) (by omega)];rfl
  with_unfolding_all refine⟨⟨by rw [hn1];omega,by omega,by rw [hn1];omega,by rw [hn1];show(4:Int)*_<=_;omega⟩,?_⟩
  rw [hn1];with_unfolding_all refine⟨Nat,λi=>i<=n,λi=>aa [(1,.val (goInt s)),(5,.sl 0 0 0 (n+1)),(13,.rs 1 n (ar N)),(14,.val (goInt n)),(15,.val (goInt i))] [⟨139,1,0,false,false,n+1,ar (N%B^i*2^s)⟩] 1 [],
   λi=>n - i,⟨0,[some 0],by omega,Wo ⟨qZ (λi hi=>?_),qQ⟩ ⟨rfl,pP,qW,rfl,rfl,qQ⟩ trivial⟩,λi hi=>?_⟩
  ·show ar _ i=[PV.val (.int .u32 0)];simp [ar,Nat.mod_one]
  ·replace hi:i<=n:=hi;have hB:B=4294967296:=rfl;have hx:=Nat.mod_lt (N / B^i) (show 0 < B by decide);with_unfolding_all refine⟨λh1=>?_,λh1=>?_⟩
   ·replace h1:i < n:=by have:=bx h1;omega
    have hi1:IntKind.i64.wrap ((i:Int)+1)=((i+1:Nat):Int):=by rw [wrap64 (by omega) (by omega)];rfl
    with_unfolding_all refine⟨⟨by omega,by omega⟩,by omega,⟨by omega,by omega⟩,⟨by omega,by omega⟩,by decide,⟨by rw [hi1];omega,by rw [hi1];omega⟩,i+1,[some 0],?_,?_,Wo ⟨qZ (λj hj=>?_),qQ⟩ ⟨rfl,pP,qW,rfl,?_,qQ⟩ trivial⟩
    ·exact h1
    ·show n - (i+1) < n - i;omega
    ·have h2s:2^s<=2^31:=Nat.pow_le_pow_right (by decide) (by omega);have hxs:N / B^i%B*2^s < 2^64:=by
      have:=Nat.mul_le_mul (show N / B^i%B<=2^32 by omega) h2s;omega
     have hy:IntKind.u64.wrap (IntKind.u64.wrap ((N / B^i%B:Nat):Int)*2^min ((s:Int)).toNat IntKind.u64.bits)=((N / B^i%B*2^s:Nat):Int):=by
      rw [aP (show N / B^i%B < 2^64 by omega)];have e1:min ((s:Int)).toNat IntKind.u64.bits=s:=by simp only [IntKind.bits];omega
      have e2:((N / B^i%B:Nat):Int)*2^s=((N / B^i%B*2^s:Nat):Int):=by rw [Int.natCast_mul,Int.natCast_pow];rfl
      rw [e1,e2,aP hxs]
     have hlow:=tD N i s;have hmod:=tE (N / B^i%B) s (by omega);have hsB:2^s<=B:=by rw [hB];omega
     have hym:=Nat.mod_lt (N / B^i%B*2^s) (show 0 < B by decide);have hadd:=(tF (h:=N%B^i*2^s / B^i) (x:=N / B^i%B) (s:=s) (by omega) hlow).1;have hsum:=Nat.mod_lt (N%B^i*2^s / B^i+N / B^i%B*2^s) (show 0 < B by decide);rw [hadd] at hsum;have hlm:N%B^i*2^s / B^i%B=N%B^i*2^s / B^i:=Nat.mod_eq_of_lt (by omega);show ar (N%B^(i+1)*2^s) j=if j=0+(IntKind.i64.wrap ((i:Int)+1)).toNat then [PV.val (.int .u32 (IntKind.u32.wrap (IntKind.u64.wrap (IntKind.u64.wrap ((N / B^i%B:Nat):Int)*2^min ((s:Int)).toNat IntKind.u64.bits) / 2^min (Int.toNat 32) IntKind.u64.bits)))]
      else if j=0+i then [PV.val (.int .u32 (IntKind.u32.wrap ((BitVec.ofInt 32 ((N%B^i*2^s / B^(0+i)%B:Nat):Int) ||| BitVec.ofInt 32 (IntKind.u32.wrap (IntKind.u64.wrap (IntKind.u64.wrap ((N / B^i%B:Nat):Int)*2^min ((s:Int)).toNat IntKind.u64.bits)))).toNat:Nat)))] else ar (N%B^i*2^s) j
     have hv:IntKind.u32.wrap ((BitVec.ofInt 32 ((N%B^i*2^s / B^i%B:Nat):Int) ||| BitVec.ofInt 32 (IntKind.u32.wrap ((N / B^i%B*2^s:Nat):Int))).toNat:Int)=((N%B^i*2^s / B^i+N / B^i%B*2^s%B:Nat):Int):=by
      rw [dS (N / B^i%B*2^s),hlm,hmod,B5 hlow (by rw [<-hmod];rw [hB] at hsum ⊢;exact hsum),<-hmod,dS,Nat.mod_eq_of_lt hsum]
     have hdl:N / B^i%B*2^s / B < B:=by
      rw [Nat.div_lt_iff_lt_mul (by decide)];exact Nat.mul_lt_mul_of_lt_of_le hx hsB (by decide)
     rw [hy,hi1,kv,dS (N / B^i%B*2^s / B),Nat.mod_eq_of_lt hdl,Nat.zero_add,Nat.zero_add,hv];have:=xX N i s j (by omega) (v:=((N%B^i*2^s / B^i+N / B^i%B*2^s%B:Nat):Int)) (u:=((N / B^i%B*2^s / B:Nat):Int)) (by rw [hlm]) rfl;rw [<-this];rfl
    ·show PV.val (.int .i64 (IntKind.i64.wrap ((i:Int)+1)))=PV.val (.int .i64 ((i+1:Nat):Int));rw [hi1]
   ·have h1:=dU h1;have hi2:i=n:=by omega
    subst hi2;with_unfolding_all refine⟨[some 0],aa [(4,.sl 0 0 0 (i+1))] [⟨139,1,0,false,false,i+1,ar (N*2^s)⟩] 1 [],Wo ⟨qZ (λj hj=>?_),qQ⟩ ⟨pP,qQ⟩ trivial,rfl,rfl⟩
    show ar (N*2^s) j=ar (N%B^i*2^s) j;rw [Nat.mod_eq_of_lt hN]
 ·cases e
def Ah:List PV->Option Ans
  | [x,.val (.int .i64 s)]=>(oX x).map λr=>⟨some ((lQ r.1 r.2/\d7 r.1)/\0<=s/\s < 32),ff (aM r.1 r.2 / 2^s.toNat),[]⟩
  | _=>none
theorem Cq:ak {} Tryz.f238 2=true:=by kernel_rfl
theorem f238:FnOk Tryz.prog 238 Ah:=by
  refine FnOk.ofW aj (am (l:=[(146,nT)]) (own:=[]) (inl:=[]) (by simp [f146]) (by simp)) Tryz.func238 { join:=λc=>match c with | .seq (.region 6 _ _) _=>true|_=>false } 2 Cq λargs r e=>?_;unfold Ah at e;split at e
  · rename_i x s
    simp only [Option.map_eq_some_iff] at e;obtain⟨⟨n,g⟩,hx,rfl⟩:=e;refine⟨by simp,λhm=>?_⟩;obtain⟨⟨hu,hn⟩,hs0,hs⟩:=hm _ rfl;obtain⟨s,rfl⟩:=Int.eq_ofNat_of_zero_le hs0;simp only [Int.toNat_natCast] at hu hn ⊢;have hN:=cj hu;have hw:=@co x _ hx hu;have hn:n<=4398046511104:=hn;generalize aM n g=N at *
    clear hx hu hm;refine⟨[],aa [(0,.rs 1 n (ar N)),(1,.val (goInt s))] [] 0 [],Wo trivial ⟨hw,rfl,qQ⟩ trivial,?_⟩;clear hw;with_unfolding_all refine⟨⟨by omega,by omega,by omega,by show(4:Int)*_<=_;omega⟩,Nat,λi=>i<=n,λi=>aa [(0,.rs 1 n (ar N)),(1,.val (goInt s)),(5,.sl 0 0 0 n),(12,.val (goInt n)),(13,.val (goInt i))] [⟨139,1,0,false,false,n,ar (N / 2^s%B^i)⟩] 1 [],
      λi=>n - i,⟨0,[some 0],by omega,Wo ⟨qZ (λi hi=>?_),qQ⟩ ⟨qW,rfl,pP,rfl,rfl,qQ⟩ trivial⟩,λi hi=>?_⟩
    · show ar _ i=[PV.val (.int .u32 0)];simp [ar,Nat.mod_one]
    · replace hi:i<=n:=hi;have hB:B=4294967296:=rfl;have hx:=Nat.mod_lt (N / B^i) (show 0 < B by decide);have hy:=Nat.mod_lt (N / B^(i+1)) (show 0 < B by decide);have h2l:=uE N i;have hi1:IntKind.i64.wrap ((i:Int)+1)=((i+1:Nat):Int):=by rw [wrap64 (by omega) (by omega)];rfl
      with_unfolding_all refine⟨λh1=>?_,λh1=>?_⟩
      · replace h1:i < n:=by have:=bx h1;omega
        with_unfolding_all refine⟨⟨by omega,by omega⟩,Unit,λ_=>True,λ_=>aa [(0,.rs 1 n (ar N)),(1,.val (goInt s)),(5,.sl 0 0 0 n),(6,.val (goInt i)),(7,.val (.int .u64 ((N / B^i%(B*B):Nat):Int))),(12,.val (goInt n)),(13,.val (goInt i))] [⟨139,1,0,false,false,n,ar (N / 2^s%B^i)⟩] 1 [],
          ⟨λh2=>⟨⟨by rw [hi1];omega,by have:=bx h2;exact this⟩,by decide,(),[some 0],trivial,Wo ⟨qZ (λj hj=>rfl),qQ⟩ ⟨qW,rfl,pP,rfl,?_,rfl,rfl,qQ⟩ trivial⟩,
           λh2=>⟨(),[some 0],trivial,Wo ⟨qZ (λj hj=>rfl),qQ⟩ ⟨qW,rfl,pP,rfl,?_,rfl,rfl,qQ⟩ trivial⟩⟩,λ_ _=>?_⟩
        · show PV.val (.int .u64 (IntKind.u64.wrap ((BitVec.ofInt 64 (IntKind.u64.wrap ((N / B^i%B:Nat):Int)) ||| BitVec.ofInt 64 (IntKind.u64.wrap (IntKind.u64.wrap ((N / B^(IntKind.i64.wrap ((i:Int)+1)).toNat%B:Nat):Int)*2^min (Int.toNat 32) IntKind.u64.bits))).toNat:Int)))=PV.val (.int .u64 _);have e1:(2:Int)^min (Int.toNat 32) IntKind.u64.bits=4294967296:=by decide
          have e2:((N / B^(i+1)%B:Nat):Int)*4294967296=((N / B^(i+1)%B*2^32:Nat):Int):=by omega
          rw [hi1,Int.toNat_natCast,e1,aP (show N / B^i%B < 2^64 by omega),aP (show N / B^(i+1)%B < 2^64 by omega),e2,aP (show N / B^(i+1)%B*2^32 < 2^64 by omega),Co (by omega) (by omega),aP (by omega),h2l];congr 2
        · have h2:=dU h2;rw [hi1] at h2;have hz:=fg hN (show n<=i+1 by omega);show PV.val (.int .u64 (IntKind.u64.wrap ((N / B^i%B:Nat):Int)))=PV.val (.int .u64 _);rw [aP (show N / B^i%B < 2^64 by omega),h2l,hz,Nat.zero_mul,Nat.add_zero]
        · have hset:=λj=>pI (N / 2^s) i j (v:=IntKind.u32.wrap (((N / B^i%(B*B):Nat):Int) / 2^min ((s:Int)).toNat IntKind.u64.bits)) (by
            have e1:min ((s:Int)).toNat IntKind.u64.bits=s:=by simp only [IntKind.bits];omega
            have e2:((N / B^i%(B*B):Nat):Int) / 2^s=((N / B^i%(B*B) / 2^s:Nat):Int):=by rw [Int.natCast_ediv,Int.natCast_pow];rfl
            rw [e1,e2,dS,wa N i s (by omega)])
          with_unfolding_all refine⟨by omega,⟨by omega,by omega⟩,i+1,[some 0],?_,?_,Wo ⟨qZ (λj hj=>?_),qQ⟩ ⟨qW,rfl,pP,rfl,?_,qQ⟩ trivial⟩
          · exact h1
          · show n - (i+1) < n - i;omega
          · refine(hset j).symm.trans ?_;show _=if j=0+i then _ else _
            rw [Nat.zero_add];rfl
          · show PV.val (.int .i64 (IntKind.i64.wrap ((i:Int)+1)))=PV.val (.int .i64 ((i+1:Nat):Int));rw [hi1]
      · have h1:=dU h1;have hi2:i=n:=by omega
        subst hi2;have hlt:N / 2^s < B^i:=Nat.lt_of_le_of_lt (Nat.div_le_self _ _) hN;have hD:N / 2^s%B^i=N / 2^s:=Nat.mod_eq_of_lt hlt;have hv:aM i (λk=>ar (N / 2^s%B^i) (0+k))=N / 2^s:=by
          have e:(λk=>ar (N / 2^s%B^i) (0+k))=ar (N / 2^s):=by funext k;rw [Nat.zero_add,hD]
          rw [e,bM,hD]
        with_unfolding_all refine⟨⟨λj _=>⟨_,Nat.mod_lt _ (by decide),rfl⟩,hn⟩,[],aa [(4,ff (N / 2^s))] [] 0 [],Wo trivial ⟨⟨rfl,?_,?_⟩,qQ⟩ trivial,rfl,rfl⟩
        · exact congrArg nl hv
        · intro j _;exact congrArg (ar · j) hv.symm
  · cases e
def Ai:List PV->Option Ans
 |[.val (.int .u32 x),.val (.int .u32 y),.val (.int .u32 b)]=>some ⟨some ((0<=x/\x < 4294967296)/\(0<=y/\y < 4294967296)/\0<=b/\b<=1),.val (.tuple #[.int .u32 ((x+y+b)%4294967296),.int .u32 ((x+y+b) / 4294967296)]),[]⟩
 |_=>none
theorem Cr:ak {} Tryz.f253 3=true:=by kernel_rfl
theorem f253:FnOk Tryz.prog 253 Ai:=by
 refine FnOk.of aj (am (l:=[]) (own:=[]) (inl:=[]) (by simp) (by simp)) Tryz.func253 {} 3 Cr λargs r e=>?_;unfold Ai at e;split at e
 ·rename_i x y b
  cases e;refine⟨by simp,λhm=>?_⟩;obtain⟨hx,hy,hb⟩:=hm _ rfl;obtain⟨X,rfl⟩:=Int.eq_ofNat_of_zero_le hx.1;obtain⟨Y,rfl⟩:=Int.eq_ofNat_of_zero_le hy.1;obtain⟨c,rfl⟩:=Int.eq_ofNat_of_zero_le hb.1;with_unfolding_all refine⟨by decide,?_,rfl⟩
  have hw:IntKind.u64.wrap (IntKind.u64.wrap (IntKind.u64.wrap (X:Int)+IntKind.u64.wrap (Y:Int))+IntKind.u64.wrap (c:Int))=((X+Y+c:Nat):Int):=by
   simp only [dw];omega
  have e1:IntKind.u32.wrap ((X+Y+c:Nat):Int)=((X:Int)+Y+c)%4294967296:=by rw [dR];omega
  have e2:IntKind.u32.wrap (((X+Y+c:Nat):Int) / 2^min (Int.toNat 32) IntKind.u64.bits)=((X:Int)+Y+c) / 4294967296:=by
   have e:(2:Int)^min (Int.toNat 32) IntKind.u64.bits=4294967296:=by decide
   rw [e,dR];omega
  rw [hw,e1,e2]
 ·cases e
end Go.Proofs
namespace Go.Num
def dI (X Y m:Nat):Nat:=X%B^m+Y / B^m*B^m
theorem kZ (X Y m j:Nat):dI X Y m / B^j%B=if j < m then X / B^j%B else Y / B^j%B:=by
 have hmod:dI X Y m%B^m=X%B^m:=by
  unfold dI;rw [Nat.add_mul_mod_self_right,Nat.mod_mod]
 have hdiv:dI X Y m / B^m=Y / B^m:=by
  unfold dI;rw [Nat.add_mul_div_right _ _ (aQ _),Nat.div_eq_of_lt (Nat.mod_lt _ (aQ _)),Nat.zero_add]
 split
 ·rename_i h
  have h1:=g8 (dI X Y m) m j;have h2:=g8 X m j;rw [if_pos h] at h1 h2;rw [<-h1,hmod,h2]
 ·rename_i h
  obtain⟨d,rfl⟩:∃d,j=m+d:=⟨j - m,by omega⟩;rw [Nat.pow_add,<-Nat.div_div_eq_div_mul,hdiv,<-Nat.div_div_eq_div_mul]
theorem k6 (X Y m j:Nat) {v:Int} (hv:v=((X / B^m%B:Nat):Int)):(if j=m then [PV.val (.int .u32 v)] else ar (dI X Y m) j)=ar (dI X Y (m+1)) j:=by
 subst hv;simp only [ar,kZ];split
 ·rename_i h
  subst h;rw [if_pos (by omega)]
 ·rename_i h
  rcases Nat.lt_or_ge j m with h2|h2
  ·rw [if_pos h2,if_pos (by omega)]
  ·rw [if_neg (by omega),if_neg (by omega)]
theorem pN {X Y m:Nat} (h:X%B^m=Y%B^m):dI X Y m=Y:=by
 unfold dI;rw [h,Nat.mul_comm];exact Nat.mod_add_div Y _
theorem wc {U V P t u' v1 v2 v' u3 g r:Nat} (hV:V=(v1*B+v2)*P+v') (hv':v' < P) (hU:U=(t*B+u3)*P+u') (hgr:g*v1+r=t) (hv1:0 < v1) (hg:g < B)
  (htest:g*v2<=r*B+u3) (hq:U / V<=g) (hP:0 < P):g<=U / V+1:=by
 have h1:g*(v1*B+v2)<=t*B+u3:=by
  rw [<-hgr,Nat.mul_add,Nat.add_mul,<-Nat.mul_assoc];omega
 have h2:g*(v1*B+v2)*P<=U:=by
  have:=Nat.mul_le_mul_right P h1;omega
 have hVP:B*P<=V:=by
  have h3:B*P<=v1*B*P:=Nat.mul_le_mul_right P (Nat.le_mul_of_pos_left B hv1);rw [hV,Nat.add_mul];omega
 have hV0:0 < V:=Nat.lt_of_lt_of_le (Nat.mul_pos (by decide) hP) hVP;rcases Nat.eq_zero_or_pos g with h0|h0
 ·rw [h0];exact Nat.zero_le _
 ·obtain⟨g',rfl⟩:∃g',g=g'+1:=⟨g - 1,by omega⟩;have h4:g'*V<=U:=by
   have h5:(g'+1)*V=(g'+1)*(v1*B+v2)*P+(g'+1)*v':=by rw [hV,Nat.mul_add,<-Nat.mul_assoc]
   have h6:(g'+1)*v'<=B*P:=Nat.mul_le_mul (by omega) (by omega);have h7:(g'+1)*V=g'*V+V:=Nat.succ_mul ..;omega
  have:=(Nat.le_div_iff_mul_le hV0).2 h4;omega
theorem rY {U V P t u' v1 v2 v' u3 g r:Nat} (hV:V=(v1*B+v2)*P+v') (hU:U=(t*B+u3)*P+u') (hu':u' < P) (hgr:g*v1+r=t) (hV0:0 < V)
  (htest:r*B+u3 < g*v2):U / V < g:=by
 have h1:t*B+u3+1<=g*(v1*B+v2):=by
  rw [<-hgr,Nat.mul_add,Nat.add_mul,<-Nat.mul_assoc];omega
 have h2:U < g*V:=by
  have h3:=Nat.mul_le_mul_right P h1;rw [Nat.succ_mul] at h3;have h4:g*V=g*(v1*B+v2)*P+g*v':=by rw [hV,Nat.mul_add,<-Nat.mul_assoc]
  omega
 exact(Nat.div_lt_iff_lt_mul hV0).2 h2
theorem pO {U V P t u' v1 v2 v' u3:Nat} (hV:V=(v1*B+v2)*P+v') (hU:U=(t*B+u3)*P+u') (hu':u' < P) (hu3:u3 < B) (hv1:0 < v1) (hV0:0 < V):U / V<=t / v1:=by
 have h1:U / V < t / v1+1:=by
  rw [Nat.div_lt_iff_lt_mul hV0];have h2:=Nat.lt_mul_div_succ t hv1;have h3:t+1<=(t / v1+1)*v1:=by rw [Nat.mul_comm];omega
  have h4:=Nat.mul_le_mul_right (B*P) h3;have h5:(t / v1+1)*v1*(B*P)<=(t / v1+1)*V:=by
   rw [Nat.mul_assoc];refine Nat.mul_le_mul_left _ ?_;rw [hV,Nat.add_mul,<-Nat.mul_assoc];omega
  have h6:U < (t+1)*(B*P):=by
   have h7:(t*B+u3)*P+P<=(t*B+B)*P:=by
    rw [<-Nat.succ_mul];exact Nat.mul_le_mul_right P (by omega)
   rw [Nat.succ_mul,<-Nat.mul_assoc,<-Nat.add_mul];omega
  omega
 omega
theorem xY (g V j:Nat):(g*(V%B^j) / B^j+g*(V / B^j%B))%B=g*V / B^j%B/\(g*(V%B^j) / B^j+g*(V / B^j%B)) / B=g*(V%B^(j+1)) / B^(j+1):=by
 have h1:g*(V%B^j) / B^j+g*(V / B^j%B)=g*(V%B^(j+1)) / B^j:=by
  rw [dH,Nat.mul_add,<-Nat.mul_assoc,Nat.mul_comm g (B^j),Nat.mul_assoc,Nat.add_mul_div_left _ _ (aQ j)]
 constructor
 ·rw [h1];have h2:g*V=g*(V%B^(j+1))+B^j*(B*(g*(V / B^(j+1)))):=by
   have:=Nat.mod_add_div V (B^(j+1));have h3:g*V=g*(V%B^(j+1))+g*(B^(j+1)*(V / B^(j+1))):=by rw [<-Nat.mul_add,this]
   rw [h3,Nat.pow_succ];congr 1;simp only [Nat.mul_comm,Nat.mul_left_comm,Nat.mul_assoc]
  rw [h2,Nat.add_mul_div_left _ _ (aQ j),Nat.add_mul_mod_self_left]
 ·rw [h1,Nat.div_div_eq_div_mul,<-Nat.pow_succ]
theorem xZ (g V:Nat):g*(V%B^0) / B^0=0:=by simp [Nat.mod_one]
theorem k7 (M i j:Nat):M*B^i / B^(i+j)%B=M / B^j%B:=by
 rw [Nat.pow_add,Nat.mul_comm M,Nat.mul_div_mul_left _ _ (aQ i)]
theorem pQ (T m j:Nat) (h:j < m):(T+B^m) / B^j%B=T / B^j%B:=by
 obtain⟨d,rfl⟩:∃d,m=j+1+d:=⟨m - j - 1,by omega⟩;rw [Nat.pow_add,Nat.pow_succ,Nat.mul_assoc,Nat.add_mul_div_left _ _ (aQ j),Nat.add_mul_mod_self_left]
theorem uF (N M i:Nat):g9 N (M*B^i) i=0:=by
 unfold g9;rw [Nat.mul_mod_left,if_neg (Nat.not_lt_zero _)]
theorem uG (N M i:Nat):iT N (M*B^i) i=0:=by
 unfold iT;rw [Nat.mul_mod_left,Nat.add_zero,Nat.div_eq_of_lt (Nat.mod_lt _ (aQ i))]
theorem ye {T M m:Nat} (hT:T < B^m) (hM:M < B^m):g9 (T+B^m) M m=if T < M then 1 else 0:=by
 unfold g9;rw [Nat.add_mod_right,Nat.mod_eq_of_lt hT,Nat.mod_eq_of_lt hM]
theorem we {T M m:Nat} (hT:T < B^m) (h:M<=T):dI (T+B^m - M) T m=T - M:=by
 unfold dI;rw [Nat.div_eq_of_lt hT,Nat.zero_mul,Nat.add_zero,show T+B^m - M=(T - M)+B^m by omega,Nat.add_mod_right,Nat.mod_eq_of_lt (by omega)]
theorem yf {T M m:Nat} (hT:T < B^m) (hM:M < B^m) (h:T < M):dI (T+B^m - M) T m=T+B^m - M/\T+B^m - M < B^m:=by
 unfold dI;rw [Nat.div_eq_of_lt hT,Nat.zero_mul,Nat.add_zero,Nat.mod_eq_of_lt (by omega)];exact⟨rfl,by omega⟩
theorem wg {T W g m:Nat} (hM:(g+1)*W < B^m) (h:T < (g+1)*W) (h2:g*W<=T) :
  dI (T+B^m - (g+1)*W+W) (T+B^m - (g+1)*W) m=T - g*W:=by
 rw [Nat.succ_mul] at *
 unfold dI;rw [Nat.div_eq_of_lt (show T+B^m - (g*W+W) < B^m by omega),Nat.zero_mul,Nat.add_zero,show T+B^m - (g*W+W)+W=(T - g*W)+B^m by omega,Nat.add_mod_right,Nat.mod_eq_of_lt (by omega)]
theorem uH (T V i:Nat) (hV:0 < V):T%(V*B^(i+1)) / B^i / V=T / V / B^i%B/\T%(V*B^(i+1)) - T%(V*B^(i+1)) / B^i / V*(V*B^i)=T%(V*B^i)/\T%(V*B^(i+1)) / B^i < V*B:=by
 have hP:=aQ i;have e:V*B^(i+1)=V*B^i*B:=by rw [Nat.pow_succ,Nat.mul_assoc]
 have hW:0 < V*B^i:=Nat.mul_pos hV hP;have h1:T%(V*B^(i+1)) / B^i / V=T / (V*B^i)%B:=by
  rw [Nat.div_div_eq_div_mul,Nat.mul_comm (B^i),e,Nat.mod_mul_right_div_self]
 refine⟨by rw [h1,Nat.div_div_eq_div_mul],?_,?_⟩
 ·rw [h1,e,Nat.mod_mul,Nat.mul_comm (V*B^i),Nat.add_sub_cancel]
 ·rw [Nat.div_lt_iff_lt_mul hP,Nat.mul_assoc,Nat.mul_comm B,<-Nat.pow_succ];exact Nat.mod_lt _ (Nat.mul_pos hV (aQ _))
theorem pT {M m:Nat} (hm:m=nl M) (hM0:0 < M):bY (M / B^(m - 1)%B)<=32/\32 - bY (M / B^(m - 1)%B) < 32/\M*2^(32 - bY (M / B^(m - 1)%B)) < B^m/\0 < m:=by
 obtain⟨h1,h2⟩:=cm M;obtain⟨h3,h4⟩:=h2 (by omega);rw [<-hm] at h1 h3 h4;obtain⟨k,rfl⟩:∃k,m=k+1:=⟨m - 1,by omega⟩;rw [Nat.add_sub_cancel] at h3 ⊢;have hP:=aQ k;have htB:M / B^k < B:=by rw [Nat.div_lt_iff_lt_mul hP,Nat.mul_comm,<-Nat.pow_succ];exact h1
 rw [Nat.mod_eq_of_lt htB];have ht0:M / B^k≠0:=by
  have:=Nat.div_le_div_right (c:=B^k) h3;rw [Nat.div_self hP] at this;omega
 obtain⟨b1,b2,b3⟩:=hO ht0;have b4:bY (M / B^k)<=32:=by
  rcases Nat.lt_or_ge 32 (bY (M / B^k)) with h|h
  ·have:2^32<=2^(bY (M / B^k) - 1):=Nat.pow_le_pow_right (by decide) (by omega);have hB:B=4294967296:=rfl;omega
  ·exact h
 refine⟨b4,by omega,?_,by omega⟩;have h5:M < 2^bY (M / B^k)*B^k:=by
  have:=Nat.mod_lt M hP;have h6:=Nat.div_add_mod M (B^k);have h7:=Nat.mul_le_mul_right (B^k) (show M / B^k+1<=2^bY (M / B^k) by omega);rw [Nat.succ_mul,Nat.mul_comm (M / B^k)] at h7;omega
 have h8:=Nat.mul_lt_mul_of_pos_right h5 (Nat.pow_pos (n:=32 - bY (M / B^k)) (show 0 < 2 by decide));have h9:2^bY (M / B^k)*B^k*2^(32 - bY (M / B^k))=B^(k+1):=by
  have h10:B=2^bY (M / B^k)*2^(32 - bY (M / B^k)):=jm _ b4
  calc _=B^k*(2^bY (M / B^k)*2^(32 - bY (M / B^k))):=by rw [Nat.mul_comm (2^_) (B^k),Nat.mul_assoc]
   _=B^(k+1):=by rw [<-h10,Nat.pow_succ]
 omega
theorem rZ {hi lo:Nat} (hh:hi < B) (hl:lo < B):IntKind.u64.wrap ((BitVec.ofInt IntKind.u64.bits (IntKind.u64.wrap (IntKind.u64.wrap (hi:Int)*2^min (Int.toNat 32) IntKind.u64.bits)) ||| BitVec.ofInt IntKind.u64.bits (IntKind.u64.wrap (lo:Int))).toNat:Int)=((hi*B+lo:Nat):Int):=by
 have hB:B=4294967296:=rfl;rw [aP (n:=hi) (by omega),aP (n:=lo) (by omega)];have e:(hi:Int)*2^min (Int.toNat 32) IntKind.u64.bits=((hi*2^32:Nat):Int):=by
  show(hi:Int)*2^32=_;omega
 rw [e,aP (n:=hi*2^32) (by omega)];have h:=zU (a:=lo) (c:=hi) (k:=32) (by omega) (by omega);have h':(BitVec.ofInt IntKind.u64.bits ((hi*2^32:Nat):Int) ||| BitVec.ofInt IntKind.u64.bits (lo:Int)).toNat=lo+hi*2^32:=h;rw [h',aP (n:=lo+hi*2^32) (by omega),hB];omega
theorem Aj {a b:Nat} (h:a < 2^64):IntKind.u64.wrap ((a:Int).tdiv (b:Int))=((a / b:Nat):Int):=by
 rw [<-Int.ofNat_tdiv,aP (Nat.lt_of_le_of_lt (Nat.div_le_self _ _) h)]
theorem wh (a b:Nat):(a:Int).tmod (b:Int)=((a%b:Nat):Int):=(Int.ofNat_tmod a b).symm
structure Ak (R V m k:Nat) (t v1 v2 u3 q:Nat):Prop where
 v1B:v1 < B
 v10:0 < v1
 top:R / B^(k+m)%B*B+R / B^(k+m - 1)%B=t
 tB:t < B*B
 first:q<=t / v1
 less:∀g r,g*v1+r=t->r*B+u3 < g*v2->q < g
 ok:∀g r,g*v1+r=t->g < B->g*v2<=r*B+u3->q<=g->g<=q+1
 qB:q < B
 v2B:v2 < B
 u3B:u3 < B
theorem pU {R V m k:Nat} (hR:R < B^(k+m+1)) (hV:V < B^m) (hV0:B^(m - 1)<=V) (hm:2<=m) (hU:R / B^k < V*B) :
  Ak R V m k (R / B^(k+m - 1)) (V / B^(m - 1)) (V / B^(m - 2)%B) (R / B^(k+m - 2)%B) (R / B^k / V):=by
 obtain⟨m,rfl⟩:∃m',m=m'+2:=⟨m - 2,by omega⟩;rw [show k+(m+2) - 1=k+(m+1) by omega,show k+(m+2) - 2=k+m by omega,show m+2 - 1=m+1 by omega,show m+2 - 2=m by omega] at *
 have hP:=aQ m;have hBp:0 < B:=by decide
 have hVpos:0 < V:=Nat.lt_of_lt_of_le (aQ _) hV0;have hv10:0 < V / B^(m+1):=Nat.div_pos hV0 (aQ _);have hv1B:V / B^(m+1) < B:=by rw [Nat.div_lt_iff_lt_mul (aQ _),Nat.mul_comm,<-Nat.pow_succ];exact hV
 have hVd:V=(V / B^(m+1)*B+V / B^m%B)*B^m+V%B^m:=by
  have e:V / B^(m+1)*B+V / B^m%B=V / B^m:=by rw [Nat.mul_comm,<-fM V m]
  rw [e,Nat.mul_comm];exact(Nat.div_add_mod V (B^m)).symm
 have hUd:R / B^k=(R / B^(k+(m+1))*B+R / B^(k+m)%B)*B^m+R / B^k%B^m:=by
  have e:R / B^(k+(m+1))*B+R / B^(k+m)%B=R / B^(k+m):=by rw [Nat.mul_comm,<-Nat.add_assoc,<-fM R (k+m)]
  rw [e,Nat.pow_add,<-Nat.div_div_eq_div_mul,Nat.mul_comm];exact(Nat.div_add_mod _ (B^m)).symm
 have hv':=Nat.mod_lt V hP;have hu':=Nat.mod_lt (R / B^k) hP;have hu3:=Nat.mod_lt (R / B^(k+m)) hBp;refine⟨hv1B,hv10,?_,?_,pO hVd hUd hu' hu3 hv10 hVpos,λg r h1 h2=>rY hVd hUd hu' h1 hVpos h2,λg r h1 h2 h3 h4=>wc hVd hv' hUd h1 hv10 h2 h3 h4 hP,?_,Nat.mod_lt _ hBp,hu3⟩
 ·have h1:R / B^(k+(m+2)) < B:=by rw [Nat.div_lt_iff_lt_mul (aQ _),Nat.mul_comm,<-Nat.pow_succ];exact hR
  rw [Nat.mod_eq_of_lt h1,Nat.mul_comm];exact(fM R (k+(m+1))).symm
 ·rw [Nat.div_lt_iff_lt_mul (aQ _),<-Nat.pow_two,<-Nat.pow_add];exact Nat.lt_of_lt_of_le hR (Nat.pow_le_pow_right hBp (by omega))
 ·exact Nat.div_lt_of_lt_mul hU
structure Cs (R V m k g:Nat):Prop where
 le:g*V*B^k<=R+B^(k+m+1)
 lt:g*V*B^k < B^(k+m+1)
theorem r5 {R V m k g:Nat} (hV:V < B^m) (hg:g < B):Cs R V m k g:=by
 have h1:g*V<=g*B^m:=Nat.mul_le_mul_left g (Nat.le_of_lt hV);have h2:g*V < B^(m+1):=by
  rcases Nat.eq_zero_or_pos g with h0|h0
  ·rw [h0,Nat.zero_mul];exact aQ _
  ·have:=Nat.mul_lt_mul_of_lt_of_le hg (Nat.le_of_lt hV) (aQ m);rw [Nat.pow_succ,Nat.mul_comm (B^m)];exact this
 have h3:g*V*B^k < B^(k+m+1):=by
  rw [show k+m+1=m+1+k by omega,Nat.pow_add];exact Nat.mul_lt_mul_of_pos_right h2 (aQ k)
 exact⟨by omega,h3⟩
theorem Ct {g V j:Nat} (hg:g < B):g*(V%B^j) / B^j < B:=by
 have h:=Nat.mod_lt V (aQ j);have h2:g*(V%B^j) / B^j<=g:=by
  rw [<-Nat.mul_div_cancel g (aQ j)];exact Nat.div_le_div_right (by rw [Nat.mul_div_cancel g (aQ j)];exact Nat.mul_le_mul_left g (Nat.le_of_lt h))
 omega
theorem ia {a b:Nat} (ha:a < B) (hb:b < B):a*b<=18446744065119617025:=by
 have:=Nat.mul_le_mul (show a<=4294967295 by have:B=4294967296:=rfl;omega) (show b<=4294967295 by have:B=4294967296:=rfl;omega);exact this
theorem uI {R V k g:Nat} (hV0:0 < V) (hq:R / B^k / V<=g) (hg:g<=R / B^k / V+1) :
  (g*V*B^k<=R->g=R / B^k / V)/\(R < g*V*B^k->g=R / B^k / V+1/\R / B^k / V*V*B^k<=R):=by
 have hP:=aQ k;have hqq:R / B^k / V*V*B^k<=R:=by
  have h1:=Nat.div_mul_le_self (R / B^k) V;have h2:=Nat.div_mul_le_self R (B^k);exact Nat.le_trans (Nat.mul_le_mul_right _ h1) h2
 constructor
 ·intro h;have h1:g*V<=R / B^k:=(Nat.le_div_iff_mul_le hP).2 h;have h2:g<=R / B^k / V:=(Nat.le_div_iff_mul_le hV0).2 h1;omega
 ·intro h;refine⟨?_,hqq⟩;rcases Nat.lt_or_ge (R / B^k / V) g with h1|h1
  ·omega
  ·have:g=R / B^k / V:=by omega
   rw [this] at h;omega
theorem uJ {R V m k g:Nat} (h:g*V*B^k < B^(k+m+1)):(R+B^(k+m+1) - g*V*B^k)%B^k=R%B^k:=by
 rw [show k+m+1=k+(m+1) by omega,Nat.pow_add] at *
 have e:R+B^k*B^(m+1) - g*V*B^k=R+B^k*(B^(m+1) - g*V):=by
  rw [Nat.mul_sub,Nat.mul_comm (B^k) (g*V)];omega
 rw [e,Nat.add_mul_mod_self_left]
end Go.Num
namespace Go.Proofs
theorem Cu:ak {} Tryz.f237 3=true:=by kernel_rfl
def Al:Env:=B3 [(239,xP),(253,Ai)] [] []
theorem yg:EnvOk Tryz.prog Al:=am (by simp [f239,f253]) (by simp)
def Am:Opt:={ join:=λc=>match c with | .region 3 _ _=>true | .block 0 _=>true | .seq (.region 4 _ _) _=>true | .region 16 _ _=>true | .region 25 _ _=>true|_=>false }
theorem r6 {g:Nat} (h:decide ((g:Int) / 2^min (Int.toNat 32) IntKind.u64.bits > 0)=false):g < B:=by
 have h:=of_decide_eq_false h;rw [kv,ew] at h;rw [ew];omega
theorem wk {g:Nat} (h:decide ((g:Int) / 2^min (Int.toNat 32) IntKind.u64.bits > 0)=true):B<=g:=by
 have h:=of_decide_eq_true h;rw [kv,ew] at h;rw [ew];omega
theorem r7 {g:Nat} (h:((g:Int) / 2^min (Int.toNat 32) IntKind.u64.bits==0)=true):g < B:=by
 rw [kv,ew] at h;have h:=zX h;rw [ew];omega
theorem An {g:Nat} (h:((g:Int) / 2^min (Int.toNat 32) IntKind.u64.bits==0)=false):B<=g:=by
 rw [kv,ew] at h;have h:=B6 h;rw [ew];omega
def jZ (s n m V L k:Nat):List (Nat×PV):=[(8,.val (goInt s)),(9,.sl 0 0 0 (n+1)),(10,.rs 1 m (ar V)),(11,.sl 1 1 0 L),(12,.val (.int .i64 (k:Nat))),(60,.sl 1 1 0 L),(61,.val (.int .i64 (k:Nat)))]
def kJ (n L X:Nat) (q:Nat->List PV):Heap:=[⟨139,1,0,false,false,n+1,ar X⟩,⟨139,1,1,false,false,L,q⟩]
theorem jn {s n m V L k:Nat} {q g1 g2:Nat->List PV} {fr:Nat->PV} {sv sv':List (Nat->PV)} {fr':Nat->PV} :
  mO ⟨fr,[⟨139,1,0,false,false,n+1,g1⟩,⟨139,1,1,false,false,L,q⟩],2,sv⟩ ⟨fr',[⟨139,1,0,false,false,n+1,g2⟩,⟨139,1,1,false,false,L,q⟩],2,sv'⟩ [some 0,some 1] (nN (jZ s n m V L k)) (jZ s n m V L k) :=
 ⟨rfl,pP,⟨rfl,rfl,λ_ _=>rfl⟩,pP,rfl,pP,rfl,trivial⟩
theorem r8 {R V n m k L s:Nat} {q:Nat->List PV} {fr:Nat->PV} {K:PV->St->Prop} (hR:R < B^(k+m+1)) (hV:V < B^m) (hV0:B^(m - 1)<=V) (hm:2<=m) (hkm:k+m<=n) (hn:n+2<=4398046511104) (hU:R / B^k < V*B)
  (h8:fr 8=.val (goInt s)) (h9:fr 9=.sl 0 0 0 (n+1)) (h10:fr 10=.rs 1 m (ar V)) (h11:fr 11=.sl 1 1 0 L) (h12:fr 12=.val (.int .i64 (k:Nat))) (h60:fr 60=.sl 1 1 0 L) (h61:fr 61=.val (.int .i64 (k:Nat)))
  (hK:K (.val (.int .u32 (R / B^k / V:Nat))) (aa (jZ s n m V L k) (kJ n L (R - R / B^k / V*(V*B^k)) q) 2 [])) :
  rM Tryz.prog Al Am Tryz.f237 [.sl 0 0 0 (n+1),.rs 1 m (ar V),.val (.int .i64 (k:Nat))] ⟨fr,kJ n L R q,2,[]⟩ K:=by
 have hkm1:IntKind.i64.wrap ((k:Int)+m)=((k+m:Nat):Int):=by rw [wrap64 (by omega) (by omega)];rfl
 have hB:B=4294967296:=rfl;have hkm2:IntKind.i64.wrap (IntKind.i64.wrap ((k:Int)+m) - 1)=((k+m - 1:Nat):Int):=by rw [hkm1,wrap64 (by omega) (by omega)];omega
 have hm1:IntKind.i64.wrap ((m:Int) - 1)=((m - 1:Nat):Int):=by rw [wrap64 (by omega) (by omega)];omega
 obtain⟨t,ht⟩:∃t,t=R / B^(k+m - 1):=⟨_,rfl⟩;obtain⟨v1,hv1⟩:∃v1,v1=V / B^(m - 1):=⟨_,rfl⟩;have hv1B:v1 < B:=by rw [hv1,Nat.div_lt_iff_lt_mul (aQ _),Nat.mul_comm,<-Nat.pow_succ,show(m - 1).succ=m by omega];exact hV
 have hv10:0 < v1:=by rw [hv1];exact Nat.div_pos hV0 (aQ _)
 have F:=pU hR hV hV0 hm hU;rw [<-ht,<-hv1] at F;have htB:=F.tB;have hBB:B*B=18446744073709551616:=rfl;with_unfolding_all refine⟨⟨by rw [hkm1];omega,by rw [hkm1];omega⟩,?_⟩
 rw [hkm1];with_unfolding_all refine⟨by decide,⟨by rw [hkm2];omega,by rw [hkm2];omega⟩,?_⟩
 rw [hkm2];with_unfolding_all refine⟨Unit,λ_=>True,λ_=>aa [(0,.sl 0 0 0 (n+1)),(1,.rs 1 m (ar V)),(2,.val (.int .i64 (k:Nat))),(7,.val (goInt m)),(9,.val (.int .u64 (t / v1:Nat))),(10,.val (.int .u64 (t%v1:Nat)))] (kJ n L R q) 2 [jZ s n m V L k],?_,λ_ _=>?_⟩
 ·with_unfolding_all refine⟨⟨by rw [hm1];omega,by rw [hm1];omega⟩,?_⟩
  rw [hm1];have hne:IntKind.u64.wrap ((V / B^(((m - 1:Nat):Int)).toNat%B:Nat):Int)≠0:=by
   show IntKind.u64.wrap ((V / B^(m - 1)%B:Nat):Int)≠0;rw [<-hv1,Nat.mod_eq_of_lt hv1B,aP (by omega)];omega
  with_unfolding_all refine⟨hne,⟨by rw [hm1];omega,by rw [hm1];omega⟩,?_⟩
  rw [hm1];with_unfolding_all refine⟨hne,(),[some 0,some 1],trivial,Wo ⟨qZ (λj hj=>rfl),qZ (λj hj=>rfl),qQ⟩ ⟨pP,qW,rfl,rfl,?_,?_,qQ⟩ ⟨⟨h8,?_⟩,qQ⟩⟩
  ·refine congrArg (λz=>PV.val (.int .u64 z)) (?_:IntKind.u64.wrap (Int.tdiv (IntKind.u64.wrap ((BitVec.ofInt IntKind.u64.bits (IntKind.u64.wrap (IntKind.u64.wrap ((R / B^(0+(k+m))%B:Nat):Int)*2^min (Int.toNat 32) IntKind.u64.bits)) ||| BitVec.ofInt IntKind.u64.bits (IntKind.u64.wrap ((R / B^(0+(k+m - 1))%B:Nat):Int))).toNat:Int)) (IntKind.u64.wrap ((V / B^(m - 1)%B:Nat):Int)))=((t / v1:Nat):Int));rw [Nat.zero_add,Nat.zero_add,rZ (Nat.mod_lt _ (by decide)) (Nat.mod_lt _ (by decide)),F.top,<-hv1,Nat.mod_eq_of_lt F.v1B,aP (n:=v1) (by omega),Aj (by omega)]
  ·refine congrArg (λz=>PV.val (.int .u64 z)) (?_:(Int.tmod (IntKind.u64.wrap ((BitVec.ofInt IntKind.u64.bits (IntKind.u64.wrap (IntKind.u64.wrap ((R / B^(0+(k+m))%B:Nat):Int)*2^min (Int.toNat 32) IntKind.u64.bits)) ||| BitVec.ofInt IntKind.u64.bits (IntKind.u64.wrap ((R / B^(0+(k+m - 1))%B:Nat):Int))).toNat:Int)) (IntKind.u64.wrap ((V / B^(m - 1)%B:Nat):Int)))=((t%v1:Nat):Int));rw [Nat.zero_add,Nat.zero_add,rZ (Nat.mod_lt _ (by decide)) (Nat.mod_lt _ (by decide)),F.top,<-hv1,Nat.mod_eq_of_lt F.v1B,aP (n:=v1) (by omega),wh]
  ·exact⟨by show ct _ _ _ _ (fr 9) _;rw [h9];exact pP,by show ct _ _ _ _ (fr 10) _;rw [h10];exact⟨rfl,rfl,λ_ _=>rfl⟩,by show ct _ _ _ _ (fr 11) _;rw [h11];exact pP,h12,by show ct _ _ _ _ (fr 60) _;rw [h60];exact pP,h61,trivial⟩
 ·clear h8 h9 h10 h11 h12 h60 h61;clear fr;with_unfolding_all refine⟨Nat,λg=>g < B/\R / B^k / V<=g/\g<=R / B^k / V+1,λg=>aa [(0,.sl 0 0 0 (n+1)),(1,.rs 1 m (ar V)),(2,.val (.int .i64 (k:Nat))),(7,.val (goInt m)),(9,.val (.int .u64 (g:Nat)))] (kJ n L R q) 2 [jZ s n m V L k],?_,λg hg=>?_⟩
  ·with_unfolding_all refine⟨Nat×Nat,λx=>x.1*v1+x.2=t/\R / B^k / V<=x.1,λx=>aa [(0,.sl 0 0 0 (n+1)),(1,.rs 1 m (ar V)),(2,.val (.int .i64 (k:Nat))),(7,.val (goInt m)),(9,.val (.int .u64 (x.1:Nat))),(10,.val (.int .u64 (x.2:Nat)))] (kJ n L R q) 2 [jZ s n m V L k],λx=>x.1,⟨(t / v1,t%v1),[some 0,some 1],⟨by show t / v1*v1+t%v1=t;rw [Nat.mul_comm];exact Nat.div_add_mod t v1,F.first⟩,Wo ⟨qZ (λj hj=>rfl),qZ (λj hj=>rfl),qQ⟩ ⟨pP,qW,rfl,rfl,rfl,rfl,qQ⟩ ⟨jn,qQ⟩⟩,λx hx=>?_⟩
   obtain⟨g,r⟩:=x;obtain⟨hgr,hqg⟩:=hx;simp only at hgr hqg;have hrB:r < 2^64:=by have:=Nat.le_add_left r (g*v1);omega
   have hgB:g < 2^64:=by have:=Nat.le_mul_of_pos_right g hv10;omega
   have e2:IntKind.i64.wrap ((m:Int) - 2)=((m - 2:Nat):Int):=by rw [wrap64 (by omega) (by omega)];omega
   have e3:IntKind.i64.wrap (IntKind.i64.wrap ((k:Int)+m) - 2)=((k+m - 2:Nat):Int):=by rw [hkm1,wrap64 (by omega) (by omega)];omega
   have hX:g < B->IntKind.u64.wrap ((g:Int)*IntKind.u64.wrap ((V / B^(IntKind.i64.wrap ((m:Int) - 2)).toNat%B:Nat):Int))=((g*(V / B^(m - 2)%B):Nat):Int):=λh=>by
    rw [e2];show IntKind.u64.wrap ((g:Int)*IntKind.u64.wrap ((V / B^(m - 2)%B:Nat):Int))=_;have:=ia h F.v2B;have:=F.v2B;rw [aP (n:=V / B^(m - 2)%B) (by omega),<-Int.natCast_mul,aP (by omega)]
   have hY:r < B->IntKind.u64.wrap ((BitVec.ofInt IntKind.u64.bits (IntKind.u64.wrap ((r:Int)*2^min (Int.toNat 32) IntKind.u64.bits)) ||| BitVec.ofInt IntKind.u64.bits (IntKind.u64.wrap ((R / B^(0+(IntKind.i64.wrap (IntKind.i64.wrap ((k:Int)+m) - 2)).toNat)%B:Nat):Int))).toNat:Int)=((r*B+R / B^(k+m - 2)%B:Nat):Int):=λh=>by
    rw [e3];show IntKind.u64.wrap ((BitVec.ofInt IntKind.u64.bits (IntKind.u64.wrap ((r:Int)*2^min (Int.toNat 32) IntKind.u64.bits)) ||| BitVec.ofInt IntKind.u64.bits (IntKind.u64.wrap ((R / B^(0+(k+m - 2))%B:Nat):Int))).toNat:Int)=_;have:=rZ h F.u3B;rw [aP (n:=r) (by omega)] at this;rw [Nat.zero_add];exact this
   with_unfolding_all refine⟨Unit,λ_=>1<=g/\R / B^k / V<=g - 1,λx=>aa [(0,.sl 0 0 0 (n+1)),(1,.rs 1 m (ar V)),(2,.val (.int .i64 (k:Nat))),(7,.val (goInt m)),(9,.val (.int .u64 (g:Nat))),(10,.val (.int .u64 (r:Nat)))] (kJ n L R q) 2 [jZ s n m V L k],?_,λ_ hx=>?_⟩
   ·have big:B<=r->g < B->g*(V / B^(m - 2)%B)<=r*B+R / B^(k+m - 2)%B:=λh1 h2=>by
     have h3:=ia h2 F.v2B;have h4:=Nat.mul_le_mul_right B h1;omega
    with_unfolding_all refine⟨by decide,λh1=>⟨by decide,λh2=>⟨⟨by rw [e2];omega,by rw [e2];omega⟩,by decide,⟨by rw [e3];omega,by rw [e3];omega⟩,λh3=>⟨(),[some 0,some 1],?_,Wo ⟨qZ (λj hj=>rfl),qZ (λj hj=>rfl),qQ⟩ ⟨pP,qW,rfl,rfl,rfl,rfl,qQ⟩ ⟨jn,qQ⟩⟩,λh3=>⟨g,[some 0,some 1],?_,Wo ⟨qZ (λj hj=>rfl),qZ (λj hj=>rfl),qQ⟩ ⟨pP,qW,rfl,rfl,rfl,qQ⟩ ⟨jn,qQ⟩⟩⟩,λh2=>⟨nofun,λ_=>⟨g,[some 0,some 1],?_,Wo ⟨qZ (λj hj=>rfl),qZ (λj hj=>rfl),qQ⟩ ⟨pP,qW,rfl,rfl,rfl,qQ⟩ ⟨jn,qQ⟩⟩⟩⟩,λh1=>⟨λ_=>⟨(),[some 0,some 1],?_,Wo ⟨qZ (λj hj=>rfl),qZ (λj hj=>rfl),qQ⟩ ⟨pP,qW,rfl,rfl,rfl,rfl,qQ⟩ ⟨jn,qQ⟩⟩,nofun⟩⟩
    ·have h1:=r6 h1;have h2:=r7 h2;have:=F.less g r hgr (by have:=of_decide_eq_true h3;exact Int.ofNat_lt.1 (by rw [<-hX h1,<-hY h2];exact this));exact⟨Nat.lt_of_le_of_lt (Nat.zero_le _) this,Nat.le_sub_one_of_lt this⟩
    ·have h1:=r6 h1;have h2:=r7 h2;exact⟨h1,hqg,F.ok g r hgr h1 (Int.ofNat_le.1 (by rw [<-hX h1,<-hY h2];exact Int.not_lt.1 (of_decide_eq_false h3))) hqg⟩
    ·have h1:=r6 h1;have h2:=An h2;exact⟨h1,hqg,F.ok g r hgr h1 (big h2 h1) hqg⟩
    ·have h1:=wk h1;have:=Nat.lt_of_lt_of_le F.qB h1;exact⟨Nat.lt_of_le_of_lt (Nat.zero_le _) this,Nat.le_sub_one_of_lt this⟩
   ·obtain⟨hg1,hqg1⟩:=hx;have hgr':(g - 1)*v1+(r+v1)=t:=by
     obtain⟨g',rfl⟩:∃g',g=g'+1:=⟨g - 1,by omega⟩;rw [Nat.succ_mul] at hgr;rw [Nat.add_sub_cancel];omega
    have eg:IntKind.u64.wrap ((g:Int) - 1)=((g - 1:Nat):Int):=by rw [show(g:Int) - 1=((g - 1:Nat):Int) by omega,aP (by omega)]
    have er:IntKind.u64.wrap ((r:Int)+IntKind.u64.wrap ((V / B^(IntKind.i64.wrap ((m:Int) - 1)).toNat%B:Nat):Int))=((r+v1:Nat):Int):=by
     rw [hm1];show IntKind.u64.wrap ((r:Int)+IntKind.u64.wrap ((V / B^(m - 1)%B:Nat):Int))=_;rw [<-hv1,Nat.mod_eq_of_lt hv1B,aP (by omega),<-Int.natCast_add,aP (by omega)]
    have big:B<=r+v1->g - 1 < B->(g - 1)*(V / B^(m - 2)%B)<=(r+v1)*B+R / B^(k+m - 2)%B:=λh1 h2=>by
     have h3:=ia h2 F.v2B;have h4:=Nat.mul_le_mul_right B h1;omega
    have w9:=congrArg (λz=>PV.val (.int .u64 z)) eg;have w10:=congrArg (λz=>PV.val (.int .u64 z)) er;with_unfolding_all refine⟨⟨by rw [hm1];omega,by rw [hm1];omega⟩,by decide,λh1=>⟨by decide,λh2=>⟨g - 1,[some 0,some 1],?_,Wo ⟨qZ (λj hj=>rfl),qZ (λj hj=>rfl),qQ⟩ ⟨pP,qW,rfl,rfl,w9,qQ⟩ ⟨jn,qQ⟩⟩,λh2=>⟨(g - 1,r+v1),[some 0,some 1],⟨hgr',hqg1⟩,by show g - 1 < g;omega,Wo ⟨qZ (λj hj=>rfl),qZ (λj hj=>rfl),qQ⟩ ⟨pP,qW,rfl,rfl,w9,w10,qQ⟩ ⟨jn,qQ⟩⟩⟩,λh1=>⟨nofun,λ_=>⟨(g - 1,r+v1),[some 0,some 1],⟨hgr',hqg1⟩,by show g - 1 < g;omega,Wo ⟨qZ (λj hj=>rfl),qZ (λj hj=>rfl),qQ⟩ ⟨pP,qW,rfl,rfl,w9,w10,qQ⟩ ⟨jn,qQ⟩⟩⟩⟩
    have h1:B<=r+v1:=wk (Eq.trans (by rw [<-er]) h1);have h2:g - 1 < B:=r7 (Eq.trans (by rw [<-eg]) h2);exact⟨h2,hqg1,F.ok _ _ hgr' h2 (big h1 h2) hqg1⟩
  ·obtain⟨hgB,hqg,hgq⟩:=hg;obtain⟨Mle,Mlt⟩:=r5 (R:=R) (k:=k) hV hgB;obtain⟨M,hMe⟩:∃M,M=g*V*B^k:=⟨_,rfl⟩;rw [<-hMe] at Mle Mlt;clear F ht hv1 hv1B hv10 htB t v1;with_unfolding_all refine⟨Nat,λj=>j<=m,λj=>aa [(0,.sl 0 0 0 (n+1)),(1,.rs 1 m (ar V)),(2,.val (.int .i64 (k:Nat))),(7,.val (goInt m)),(9,.val (.int .u64 (g:Nat))),(11,.val (.int .u64 (g*(V%B^j) / B^j:Nat))),(12,.val (.int .u32 (g9 (R+B^(k+m+1)) M (k+j):Nat))),(101,.rs 1 m (ar V)),(102,.val (goInt m)),(103,.val (goInt j))] (kJ n L (dI (R+B^(k+m+1) - M) R (k+j)) q) 2 [jZ s n m V L k],λj=>m - j,⟨0,[some 0,some 1],Nat.zero_le _,Wo ⟨qZ (λj hj=>?_),qZ (λj hj=>rfl),qQ⟩ ⟨pP,qW,rfl,rfl,rfl,?_,?_,qW,rfl,rfl,qQ⟩ ⟨jn,qQ⟩⟩,λj hj=>?_⟩
   ·show ar (dI (R+B^(k+m+1) - M) R k) j=ar R j;rw [pN];rw [hMe];exact uJ (hMe▸Mlt)
   ·show PV.val (.int .u64 0)=PV.val (.int .u64 ((g*(V%B^0) / B^0:Nat):Int));rw [xZ];rfl
   ·show PV.val (.int .u32 0)=PV.val (.int .u32 ((g9 (R+B^(k+m+1)) M k:Nat):Int));rw [hMe,uF];rfl
   ·replace hj:j<=m:=hj;have hkj:IntKind.i64.wrap ((k:Int)+j)=((k+j:Nat):Int):=by rw [wrap64 (by omega) (by omega)];rfl
    have cb:=Ct (V:=V) (j:=j) hgB;have vb:=Nat.mod_lt (V / B^j) (show 0 < B by decide);have pb:=ia hgB vb;have bb:=vZ (R+B^(k+m+1)) M (k+j);have lb:=Nat.mod_lt (dI (R+B^(k+m+1) - M) R (k+j) / B^(k+j)) (show 0 < B by decide);obtain⟨g1,g2⟩:=xY g V j;with_unfolding_all refine⟨λh1=>?_,λh1=>?_⟩
    ·replace h1:j < m:=by have:=bx h1;omega
     have cy:IntKind.u64.wrap (((g*(V%B^j) / B^j:Nat):Int)+IntKind.u64.wrap ((g:Int)*IntKind.u64.wrap ((V / B^j%B:Nat):Int)))=((g*(V%B^j) / B^j+g*(V / B^j%B):Nat):Int):=by
      rw [aP (n:=V / B^j%B) (by omega),<-Int.natCast_mul,aP (n:=g*(V / B^j%B)) (by omega),<-Int.natCast_add,aP (by omega)]
     have cx:((dI (R+B^(k+m+1) - M) R (k+j) / B^(0+(k+j))%B:Nat):Int)=(((R+B^(k+m+1)) / B^(k+j)%B:Nat):Int):=by
      rw [Nat.zero_add,kZ,if_neg (by omega),pQ _ _ _ (by omega)]
     have cM:M / B^(k+j)%B=g*V / B^j%B:=by rw [hMe,k7]
     have cy2:IntKind.u32.wrap (IntKind.u64.wrap (((g*(V%B^j) / B^j:Nat):Int)+IntKind.u64.wrap ((g:Int)*IntKind.u64.wrap ((V / B^j%B:Nat):Int))))=((M / B^(k+j)%B:Nat):Int):=by
      rw [cy,dS,g1,cM]
     have yb:=Nat.mod_lt (M / B^(k+j)) (show 0 < B by decide);have xb:=Nat.mod_lt ((R+B^(k+m+1)) / B^(k+j)) (show 0 < B by decide);have hx0:(0:Int)<=((dI (R+B^(k+m+1) - M) R (k+j) / B^(0+(IntKind.i64.wrap ((k:Int)+j)).toNat)%B:Nat):Int)/\((dI (R+B^(k+m+1) - M) R (k+j) / B^(0+(IntKind.i64.wrap ((k:Int)+j)).toNat)%B:Nat):Int) < 4294967296:=by
      rw [hkj];show(0:Int)<=((dI (R+B^(k+m+1) - M) R (k+j) / B^(0+(k+j))%B:Nat):Int)/\((dI (R+B^(k+m+1) - M) R (k+j) / B^(0+(k+j))%B:Nat):Int) < 4294967296;rw [cx];omega
     have hy0:(0:Int)<=IntKind.u32.wrap (IntKind.u64.wrap (((g*(V%B^j) / B^j:Nat):Int)+IntKind.u64.wrap ((g:Int)*IntKind.u64.wrap ((V / B^j%B:Nat):Int))))/\IntKind.u32.wrap (IntKind.u64.wrap (((g*(V%B^j) / B^j:Nat):Int)+IntKind.u64.wrap ((g:Int)*IntKind.u64.wrap ((V / B^j%B:Nat):Int)))) < 4294967296:=by rw [cy2];omega
     have hst:∀i,ar (dI (R+B^(k+m+1) - M) R (k+(j+1))) i=if i=0+(IntKind.i64.wrap ((k:Int)+j)).toNat then [PV.val (.int .u32 ((((dI (R+B^(k+m+1) - M) R (k+j) / B^(0+(IntKind.i64.wrap ((k:Int)+j)).toNat)%B:Nat):Int) - IntKind.u32.wrap (IntKind.u64.wrap (((g*(V%B^j) / B^j:Nat):Int)+IntKind.u64.wrap ((g:Int)*IntKind.u64.wrap ((V / B^j%B:Nat):Int)))) - ((g9 (R+B^(k+m+1)) M (k+j):Nat):Int))%4294967296))] else ar (dI (R+B^(k+m+1) - M) R (k+j)) i:=by
      intro i;rw [hkj,cy2];show _=if i=0+(k+j) then [PV.val (.int .u32 ((((dI (R+B^(k+m+1) - M) R (k+j) / B^(0+(k+j))%B:Nat):Int) - _ - _)%4294967296))] else _
      rw [cx,Nat.zero_add];exact(k6 _ _ _ _ (lT Mle (k+j))).symm
     have hbo:(if ((dI (R+B^(k+m+1) - M) R (k+j) / B^(0+(IntKind.i64.wrap ((k:Int)+j)).toNat)%B:Nat):Int) < IntKind.u32.wrap (IntKind.u64.wrap (((g*(V%B^j) / B^j:Nat):Int)+IntKind.u64.wrap ((g:Int)*IntKind.u64.wrap ((V / B^j%B:Nat):Int))))+((g9 (R+B^(k+m+1)) M (k+j):Nat):Int) then(1:Int) else 0)=((g9 (R+B^(k+m+1)) M (k+(j+1)):Nat):Int):=by
      rw [hkj,cy2];show(if ((dI (R+B^(k+m+1) - M) R (k+j) / B^(0+(k+j))%B:Nat):Int) < _ then(1:Int) else 0)=_;rw [cx];exact lU _ _ _
     have hca:IntKind.u64.wrap (((g*(V%B^j) / B^j:Nat):Int)+IntKind.u64.wrap ((g:Int)*IntKind.u64.wrap ((V / B^j%B:Nat):Int))) / 2^min (Int.toNat 32) IntKind.u64.bits=((g*(V%B^(j+1)) / B^(j+1):Nat):Int):=by
      rw [cy,kv,g2]
     have hj1:IntKind.i64.wrap ((j:Int)+1)=((j+1:Nat):Int):=by rw [wrap64 (by omega) (by omega)];rfl
     with_unfolding_all refine⟨⟨by omega,by omega⟩,⟨by rw [hkj];omega,by rw [hkj];omega⟩,⟨hx0,hy0,by omega,by omega⟩,⟨by rw [hkj];omega,by rw [hkj];omega⟩,by decide,j+1,[some 0,some 1],h1,by show m - (j+1) < m - j;omega,Wo ⟨qZ (λi _=>hst i),qZ (λj hj=>rfl),qQ⟩ ⟨pP,qW,rfl,rfl,rfl,congrArg (λz=>PV.val (.int .u64 z)) hca,congrArg (λz=>PV.val (.int .u32 z)) hbo,qW,rfl,congrArg (λz=>PV.val (.int .i64 z)) hj1,qQ⟩ ⟨jn,qQ⟩⟩
    ·replace h1:j=m:=by have:=dU h1;omega
     subst h1;clear g1 g2 vb pb;have cx:((dI (R+B^(k+j+1) - M) R (k+j) / B^(0+(k+j))%B:Nat):Int)=(((R+B^(k+j+1)) / B^(k+j)%B:Nat):Int):=by
      rw [Nat.zero_add,kZ,if_neg (by omega),pQ _ _ _ (by omega)]
     have cM:M / B^(k+j)%B=g*(V%B^j) / B^j%B:=by rw [hMe,k7,Nat.mod_eq_of_lt hV]
     have cy2:IntKind.u32.wrap ((g*(V%B^j) / B^j:Nat):Int)=((M / B^(k+j)%B:Nat):Int):=by
      rw [dS,cM]
     have yb:=Nat.mod_lt (M / B^(k+j)) (show 0 < B by decide);have xb:=Nat.mod_lt ((R+B^(k+j+1)) / B^(k+j)) (show 0 < B by decide);have hx0:(0:Int)<=((dI (R+B^(k+j+1) - M) R (k+j) / B^(0+(IntKind.i64.wrap ((k:Int)+j)).toNat)%B:Nat):Int)/\((dI (R+B^(k+j+1) - M) R (k+j) / B^(0+(IntKind.i64.wrap ((k:Int)+j)).toNat)%B:Nat):Int) < 4294967296:=by
      rw [hkj];show(0:Int)<=((dI (R+B^(k+j+1) - M) R (k+j) / B^(0+(k+j))%B:Nat):Int)/\((dI (R+B^(k+j+1) - M) R (k+j) / B^(0+(k+j))%B:Nat):Int) < 4294967296;rw [cx];omega
     have hst:∀i,(if i=0+(IntKind.i64.wrap ((k:Int)+j)).toNat then [PV.val (.int .u32 ((((dI (R+B^(k+j+1) - M) R (k+j) / B^(0+(IntKind.i64.wrap ((k:Int)+j)).toNat)%B:Nat):Int) - IntKind.u32.wrap ((g*(V%B^j) / B^j:Nat):Int) - ((g9 (R+B^(k+j+1)) M (k+j):Nat):Int))%4294967296))] else ar (dI (R+B^(k+j+1) - M) R (k+j)) i)=ar (dI (R+B^(k+j+1) - M) R (k+j+1)) i:=by
      intro i;rw [hkj,cy2];show(if i=0+(k+j) then [PV.val (.int .u32 ((((dI (R+B^(k+j+1) - M) R (k+j) / B^(0+(k+j))%B:Nat):Int) - _ - _)%4294967296))] else _)=_;rw [cx,Nat.zero_add];exact k6 _ _ _ _ (lT Mle (k+j))
     have hbo:(if ((dI (R+B^(k+j+1) - M) R (k+j) / B^(0+(IntKind.i64.wrap ((k:Int)+j)).toNat)%B:Nat):Int) < IntKind.u32.wrap ((g*(V%B^j) / B^j:Nat):Int)+((g9 (R+B^(k+j+1)) M (k+j):Nat):Int) then(1:Int) else 0)=((g9 (R+B^(k+j+1)) M (k+j+1):Nat):Int):=by
      rw [hkj,cy2];show(if ((dI (R+B^(k+j+1) - M) R (k+j) / B^(0+(k+j))%B:Nat):Int) < _ then(1:Int) else 0)=_;rw [cx];exact lU _ _ _
     with_unfolding_all refine⟨Unit,λ_=>True,λ_=>aa [(0,.sl 0 0 0 (n+1)),(1,.rs 1 j (ar V)),(2,.val (.int .i64 (k:Nat))),(7,.val (goInt j)),(9,.val (.int .u64 (g:Nat))),(12,.val (.int .u32 (g9 (R+B^(k+j+1)) M (k+j+1):Nat)))] (kJ n L (dI (R+B^(k+j+1) - M) R (k+j+1)) q) 2 [jZ s n j V L k],
      ⟨⟨by rw [hkj];omega,by rw [hkj];omega⟩,⟨hx0,⟨by rw [cy2];omega,by rw [cy2];omega⟩,by omega,by omega⟩,⟨by rw [hkj];omega,by rw [hkj];omega⟩,(),[some 0,some 1],trivial,Wo ⟨qZ (λi _=>(hst i).symm),qZ (λj hj=>rfl),qQ⟩ ⟨pP,qW,rfl,rfl,rfl,congrArg (λz=>PV.val (.int .u32 z)) hbo,qQ⟩ ⟨jn,qQ⟩⟩,λ_ _=>?_⟩
     clear hst hbo hx0 cx cM cy2 yb xb lb bb;rw [ye hR Mlt];have hVp:0 < V:=Nat.lt_of_lt_of_le (aQ _) hV0;obtain⟨d1,d2⟩:=uI hVp hqg hgq;rw [<-hMe] at d1 d2;obtain⟨W,hWe⟩:∃W,W=V*B^k:=⟨_,rfl⟩;have hMW:M=g*W:=by rw [hMe,hWe,Nat.mul_assoc]
     rcases Nat.lt_or_ge R M with h2|h2
     ·rw [if_pos h2];obtain⟨d2,d3⟩:=d2 h2;rw [Nat.mul_assoc,<-hWe] at d3;obtain⟨e1,e2⟩:=yf hR Mlt h2;rw [e1];with_unfolding_all refine⟨nofun,λ_=>?_⟩
      have eK:R - R / B^k / V*(V*B^k)=dI (R+B^(k+j+1) - M+W) (R+B^(k+j+1) - M) (k+j+1):=by
       rw [hMW,d2,<-hWe];exact(wg (by rw [<-d2,<-hMW];exact Mlt) (by rw [<-d2,<-hMW];exact h2) d3).symm
      rw [eK] at hK;clear eK e1;obtain⟨N2,hN2⟩:∃N2,N2=R+B^(k+j+1) - M:=⟨_,rfl⟩;rw [<-hN2] at hK e2 ⊢;with_unfolding_all refine⟨Nat,λi=>i<=j,λi=>aa [(0,.sl 0 0 0 (n+1)),(1,.rs 1 j (ar V)),(2,.val (.int .i64 (k:Nat))),(7,.val (goInt j)),(9,.val (.int .u64 (g:Nat))),(15,.val (.int .u32 (iT N2 W (k+i):Nat))),(157,.rs 1 j (ar V)),(158,.val (goInt j)),(159,.val (goInt i))] (kJ n L (dI (N2+W) N2 (k+i)) q) 2 [jZ s n j V L k],λi=>j - i,⟨0,[some 0,some 1],Nat.zero_le _,Wo ⟨qZ (λi hj=>?_),qZ (λj hj=>rfl),qQ⟩ ⟨pP,qW,rfl,rfl,rfl,?_,qW,rfl,rfl,qQ⟩ ⟨jn,qQ⟩⟩,λi hi=>?_⟩
      ·show ar (dI (N2+W) N2 k) i=ar N2 i;rw [pN];rw [hWe,Nat.add_mul_mod_self_right]
      ·show PV.val (.int .u32 0)=PV.val (.int .u32 ((iT N2 W k:Nat):Int));rw [hWe,uG];rfl
      ·replace hi:i<=j:=hi;have hki:IntKind.i64.wrap ((k:Int)+i)=((k+i:Nat):Int):=by rw [wrap64 (by omega) (by omega)];rfl
       have cb:=rV N2 W (k+i);have lb:=Nat.mod_lt (N2 / B^(k+i)) (show 0 < B by decide);have vb:=Nat.mod_lt (W / B^(k+i)) (show 0 < B by decide);have cx:((dI (N2+W) N2 (k+i) / B^(0+(k+i))%B:Nat):Int)=((N2 / B^(k+i)%B:Nat):Int):=by
        rw [Nat.zero_add,kZ,if_neg (by omega)]
       have al:=pK N2 W (k+i);have hx0:(0:Int)<=((dI (N2+W) N2 (k+i) / B^(0+(IntKind.i64.wrap ((k:Int)+i)).toNat)%B:Nat):Int)/\((dI (N2+W) N2 (k+i) / B^(0+(IntKind.i64.wrap ((k:Int)+i)).toNat)%B:Nat):Int) < 4294967296:=by
        rw [hki];show(0:Int)<=((dI (N2+W) N2 (k+i) / B^(0+(k+i))%B:Nat):Int)/\((dI (N2+W) N2 (k+i) / B^(0+(k+i))%B:Nat):Int) < 4294967296;rw [cx];omega
       with_unfolding_all refine⟨λh1=>?_,λh1=>?_⟩
       ·replace h1:i < j:=by have:=bx h1;omega
        have cM:V / B^i%B=W / B^(k+i)%B:=by rw [hWe,k7]
        have cs:=pL N2 W (k+i);have hst:∀l,ar (dI (N2+W) N2 (k+(i+1))) l=if l=0+(IntKind.i64.wrap ((k:Int)+i)).toNat then [PV.val (.int .u32 ((((dI (N2+W) N2 (k+i) / B^(0+(IntKind.i64.wrap ((k:Int)+i)).toNat)%B:Nat):Int)+((V / B^i%B:Nat):Int)+((iT N2 W (k+i):Nat):Int))%4294967296))] else ar (dI (N2+W) N2 (k+i)) l:=by
         intro l;rw [hki,cM];show _=if l=0+(k+i) then [PV.val (.int .u32 ((((dI (N2+W) N2 (k+i) / B^(0+(k+i))%B:Nat):Int)+_+_)%4294967296))] else _
         rw [cx,Nat.zero_add];refine(k6 (N2+W) N2 (k+i) l ?_).symm;rw [<-al];generalize N2 / B^(k+i)%B=x1;generalize W / B^(k+i)%B=x2;generalize iT N2 W (k+i)=x3;rw [ew];omega
        have hbo:(((dI (N2+W) N2 (k+i) / B^(0+(IntKind.i64.wrap ((k:Int)+i)).toNat)%B:Nat):Int)+((V / B^i%B:Nat):Int)+((iT N2 W (k+i):Nat):Int)) / 4294967296=((iT N2 W (k+(i+1)):Nat):Int):=by
         rw [hki,cM];show(((dI (N2+W) N2 (k+i) / B^(0+(k+i))%B:Nat):Int)+_+_) / 4294967296=_;rw [cx,<-Nat.add_assoc,<-cs];generalize N2 / B^(k+i)%B=x1;generalize W / B^(k+i)%B=x2;generalize iT N2 W (k+i)=x3;rw [ew];omega
        have hj1:IntKind.i64.wrap ((i:Int)+1)=((i+1:Nat):Int):=by rw [wrap64 (by omega) (by omega)];rfl
        have vb':=Nat.mod_lt (V / B^i) (show 0 < B by decide);have hy0:(0:Int)<=((V / B^i%B:Nat):Int)/\((V / B^i%B:Nat):Int) < 4294967296:=by omega
        with_unfolding_all refine⟨⟨by omega,by omega⟩,⟨by rw [hki];omega,by rw [hki];omega⟩,⟨hx0,hy0,by omega,by omega⟩,⟨by rw [hki];omega,by rw [hki];omega⟩,i+1,[some 0,some 1],h1,by show j - (i+1) < j - i;omega,Wo ⟨qZ (λl _=>hst l),qZ (λj hj=>rfl),qQ⟩ ⟨pP,qW,rfl,rfl,rfl,congrArg (λz=>PV.val (.int .u32 z)) hbo,qW,rfl,congrArg (λz=>PV.val (.int .i64 z)) hj1,qQ⟩ ⟨jn,qQ⟩⟩
       ·replace h1:i=j:=by have:=dU h1;omega
        subst h1;have hst:∀l,ar (dI (N2+W) N2 (k+i+1)) l=if l=0+(IntKind.i64.wrap ((k:Int)+i)).toNat then [PV.val (.int .u32 (IntKind.u32.wrap (((dI (N2+W) N2 (k+i) / B^(0+(IntKind.i64.wrap ((k:Int)+i)).toNat)%B:Nat):Int)+((iT N2 W (k+i):Nat):Int))))] else ar (dI (N2+W) N2 (k+i)) l:=by
         intro l;rw [hki];show _=if l=0+(k+i) then [PV.val (.int .u32 (IntKind.u32.wrap (((dI (N2+W) N2 (k+i) / B^(0+(k+i))%B:Nat):Int)+_)))] else _
         rw [cx,Nat.zero_add];refine(k6 (N2+W) N2 (k+i) l ?_).symm;have hW0:W / B^(k+i)%B=0:=by rw [hWe,k7,Nat.div_eq_of_lt hV,Nat.zero_mod]
         rw [<-al,hW0,Nat.add_zero,<-Int.natCast_add,dS,Nat.add_comm]
        have hg1:IntKind.u64.wrap ((g:Int) - 1)=((R / B^k / V:Nat):Int):=by
         rw [d2,show(((R / B^k / V+1:Nat):Int) - 1)=((R / B^k / V:Nat):Int) by omega,aP (Nat.lt_of_lt_of_le (Nat.lt_of_le_of_lt hqg hgB) (by decide))]
        with_unfolding_all refine⟨Unit,λ_=>True,λ_=>aa [(9,.val (.int .u64 (g:Nat)))] (kJ n L (dI (N2+W) N2 (k+i+1)) q) 2 [jZ s n i V L k],⟨⟨by rw [hki];omega,by rw [hki];omega⟩,⟨by rw [hki];omega,by rw [hki];omega⟩,(),[some 0,some 1],trivial,Wo ⟨qZ (λl _=>hst l),qZ (λj hj=>rfl),qQ⟩ ⟨rfl,qQ⟩ ⟨jn,qQ⟩⟩,λ_ _=>?_⟩
        show K (PV.val (.int .u32 (IntKind.u32.wrap (IntKind.u64.wrap ((g:Int) - 1))))) ⟨nN (jZ s n i V L k),kJ n L (dI (N2+W) N2 (k+i+1)) q,2,[]⟩;rw [hg1,ga (Nat.lt_of_lt_of_le (Nat.lt_of_le_of_lt hqg hgB) (by decide))];exact hK
     ·rw [if_neg (Nat.not_lt.2 h2)];have d1:=d1 h2;rw [we hR h2];with_unfolding_all refine⟨λ_=>?_,nofun⟩
      show K (PV.val (.int .u32 (IntKind.u32.wrap (g:Int)))) ⟨nN (jZ s n j V L k),kJ n L (R - M) q,2,[]⟩;rw [ga (by omega),hMW,d1,hWe];exact hK
def Cv:Trans:=λargs s K=>args.length<=3/\rM Tryz.prog Al Am Tryz.f237 args s K
theorem EV:dP Tryz.prog 237 Cv:=kX aj yg Tryz.func237 Am 3 Cu λ_ _ _ h=>h
def yh:List PV->Option Ans
 |[x,y]=>(oX x).bind λr=>(oX y).map λq=>⟨some ((lQ r.1 r.2/\d7 (r.1+2)/\r.1=nl (aM r.1 r.2))/\(lQ q.1 q.2/\d7 (q.1+2)/\q.1=nl (aM q.1 q.2))/\0 < aM q.1 q.2),.tup [ff (aM r.1 r.2 / aM q.1 q.2),ff (aM r.1 r.2%aM q.1 q.2)],[]⟩
 |_=>none
theorem Cw:ak {} Tryz.f194 2=true:=by kernel_rfl
theorem f194:FnOk Tryz.prog 194 yh:=by
 refine FnOk.ofW aj (am (l:=[(142,vX),(234,Ad),(146,nT),(235,Af),(236,Ag),(238,Ah)]) (own:=[236]) (inl:=[(237,Cv)]) (by simp [f142,f234,f146,f235,f236,f238]) (by simp [EV])) Tryz.func194 { join:=λc=>match c with | .region 7 _ _=>true|_=>false } 2 Cw λargs r e=>?_;unfold yh at e;split at e
 ·rename_i x y
  simp only [Option.map_eq_some_iff,Option.bind_eq_some_iff] at e;obtain⟨⟨n,g⟩,hx,⟨m,g'⟩,hy,rfl⟩:=e;refine⟨by simp,λhm=>?_⟩;obtain⟨⟨hu,hn,hnl⟩,⟨hu',hn',hml⟩,hM0⟩:=hm _ rfl;simp only at hu hn hnl hu' hn' hml hM0 ⊢;have hN:=cj hu;have hM:=cj hu';have hw:=@co x _ hx hu;have hw':=@co y _ hy hu';have hn:n+2<=4398046511104:=hn;have hn':m+2<=4398046511104:=hn';generalize aM n g=N at *
  generalize aM m g'=M at *
  clear hx hy hu hu' hm;refine⟨[],aa [(0,.rs 1 n (ar N)),(1,.rs 1 m (ar M))] [] 0 [],Wo trivial ⟨hw,hw',qQ⟩ trivial,?_⟩;clear hw hw';have vN:aM n (ar N)=N:=by rw [bM,Nat.mod_eq_of_lt hN]
  have vM:aM m (ar M)=M:=by rw [bM,Nat.mod_eq_of_lt hM]
  have tn:d7 n:=by show n<=4398046511104;omega
  have tm:d7 m:=by show m<=4398046511104;omega
  have hcmp:bU (aM n (ar N)) (aM m (ar M))=bU N M:=by rw [vN,vM]
  have hcl:bU N M < 0↔N < M:=by
   unfold bU;split
   ·exact⟨λ_=>by assumption,λ_=>by decide⟩
   ·split
    ·exact⟨λh=>absurd h (by decide),λh=>by omega⟩
    ·exact⟨λh=>absurd h (by decide),λh=>by omega⟩
  with_unfolding_all refine⟨⟨⟨aH n N,tn,by rw [vN];exact hnl⟩,aH m M,tm,by rw [vM];exact hml⟩,λh1=>⟨[],aa [(4,ff (N / M)),(5,ff (N%M))] [] 0 [],Wo trivial ⟨⟨rfl,?_⟩,⟨?_,?_,?_⟩,qQ⟩ trivial,rfl,rfl⟩,λh1=>⟨λh2=>?_,λh2=>?_⟩⟩
  ·have h1:N < M:=hcl.1 (hcmp▸of_decide_eq_true h1);rw [Nat.div_eq_of_lt h1,g7]
  ·rfl
  ·have h1:N < M:=hcl.1 (hcmp▸of_decide_eq_true h1);rw [Nat.mod_eq_of_lt h1];exact hnl
  ·have h1:N < M:=hcl.1 (hcmp▸of_decide_eq_true h1);rw [Nat.mod_eq_of_lt h1];intro _ _;rfl
  ·have h2:m=1:=ES h2;subst h2;have hB:B=4294967296:=rfl;have hMB:M < B:=by rw [Nat.pow_one] at hM;exact hM
   have hd:M / B^0%B=M:=by rw [Nat.pow_zero,Nat.div_one,Nat.mod_eq_of_lt hMB]
   have hr:N%M < B:=by have:=Nat.mod_lt N hM0;omega
   have hd':M / B^(Int.toNat 0)%B=M:=hd;have hq:aM n (ar N) / ((M / B^(Int.toNat 0)%B:Nat):Int).toNat=N / M:=by rw [vN,hd',Int.toNat_natCast]
   have hrm:aM n (ar N)%((M / B^(Int.toNat 0)%B:Nat):Int).toNat=N%M:=by rw [vN,hd',Int.toNat_natCast]
   have hv1:∀g:Nat->List PV,g 0=[.val (.int .u32 ((aM n (ar N)%((M / B^(Int.toNat 0)%B:Nat):Int).toNat:Nat):Int))]->lQ 1 g/\aM 1 g=N%M:=by
    intro g hg;rw [hrm] at hg;refine⟨λj hj=>?_,?_⟩
    ·obtain rfl:j=0:=by omega
     exact⟨_,hr,hg⟩
    ·rw [aM,aM,hg];simp only [nS,Int.toNat_natCast,Nat.pow_zero,Nat.mul_one,Nat.zero_add]
   with_unfolding_all refine⟨⟨by omega,by omega⟩,⟨⟨aH n N,tn⟩,by rw [hd'];omega,by rw [hd'];omega⟩,⟨(hv1 _ rfl).1,by show 1<=4398046511104;decide⟩,[],aa [(4,ff (N / M)),(5,ff (N%M))] [] 0 [],Wo trivial ⟨⟨rfl,?_,?_⟩,⟨rfl,?_,?_⟩,qQ⟩ trivial,rfl,rfl⟩
   ·exact congrArg nl hq
   ·intro j _;exact congrArg (ar · j) hq.symm
   ·exact congrArg nl (hv1 _ rfl).2
   ·intro j _;exact congrArg (ar · j) (hv1 _ rfl).2.symm
  ·have h2:m≠1:=ET h2;have hm2:2<=m:=by
    rcases Nat.lt_or_ge m 2 with h3|h3
    ·have:m=0:=by omega
     subst this;simp at hM;omega
    ·exact h3
   have hNM:M<=N:=by
    have:=of_decide_eq_false h1;have h3:¬N < M:=λh=>this (hcmp▸hcl.2 h);omega
   have hm1:IntKind.i64.wrap ((m:Int) - 1)=((m - 1:Nat):Int):=by rw [wrap64 (by omega) (by omega)];omega
   have hB:B=4294967296:=rfl;have htop:=Nat.mod_lt (M / B^(m - 1)) (show 0 < B by decide);with_unfolding_all refine⟨⟨by rw [hm1];omega,by rw [hm1];omega⟩,?_⟩
   rw [hm1];with_unfolding_all refine⟨⟨by omega,by show((M / B^(m - 1)%B:Nat):Int) < _;omega⟩,?_⟩
   obtain⟨hs1,hs2,hs3,_⟩:=pT hml hM0;have hMs:B^(m - 1)<=M*2^(32 - bY (M / B^(m - 1)%B)):=by
    have:=((cm M).2 (by omega)).1;rw [<-hml] at this;exact Nat.le_trans this (Nat.le_mul_of_pos_right M (Nat.pow_pos (by decide)))
   have hsn:((M / B^((m - 1:Nat):Int).toNat%B:Nat):Int).toNat=M / B^(m - 1)%B:=rfl;rw [hsn];generalize 32 - bY (M / B^(m - 1)%B)=s at *
   have t1:d7 (n+1):=by show n+1<=4398046511104;omega
   have t2:d7 (m+1):=by show m+1<=4398046511104;omega
   have vU:aM n (ar N)*2^((s:Nat):Int).toNat=N*2^s:=by rw [vN,Int.toNat_natCast]
   have hv:aM (m+1) (λi=>ar (aM m (ar M)*2^((s:Nat):Int).toNat) (0+i))=M*2^s:=by
    have e:(λi=>ar (aM m (ar M)*2^((s:Nat):Int).toNat) (0+i))=ar (M*2^s):=by funext k;rw [Nat.zero_add,vM,Int.toNat_natCast]
    rw [e,bM,Nat.mod_eq_of_lt (Nat.lt_of_lt_of_le hs3 (Nat.pow_le_pow_right (by decide) (by omega)))]
   have hlen:nl (M*2^s)=m:=vV hs3 λ_=>hMs;with_unfolding_all refine⟨Unit,λ_=>True,λ_=>aa [(8,.val (goInt s)),(9,.sl 0 0 0 (n+1)),(10,.rs 1 m (ar (M*2^s)))] [⟨139,1,0,false,false,n+1,ar (N*2^s)⟩] 1 [],
    ⟨⟨⟨aH n N,t1⟩,by omega,by omega⟩,⟨⟨aH m M,t2⟩,by omega,by omega⟩,⟨λj _=>⟨_,Nat.mod_lt _ (by decide),rfl⟩,t2⟩,(),[some 0],trivial,Wo ⟨qZ (λj hj=>?_),qQ⟩ ⟨rfl,pP,⟨rfl,?_,?_⟩,qQ⟩ trivial⟩,λ_ _=>?_⟩
   ·exact congrArg (ar · j) vU.symm
   ·exact(congrArg nl hv).trans hlen
   ·intro j _;exact congrArg (ar · j) hv.symm
   ·have hTn:N*2^s < B^(n+1):=by
     rw [Nat.pow_succ];exact Nat.mul_lt_mul_of_lt_of_le hN (by rw [jm s (by omega)];exact Nat.le_mul_of_pos_right _ (Nat.pow_pos (by decide))) (by decide)
    have hmn:m<=n:=by
     rw [hml,hnl];rcases Nat.lt_or_ge (nl N) (nl M) with h|h
     ·have:=lS h;omega
     ·exact h
    have hTV:N*2^s < M*2^s*B^(n+1 - m):=by
     rw [Nat.mul_assoc,Nat.mul_comm (2^s),<-Nat.mul_assoc];refine Nat.mul_lt_mul_of_pos_right ?_ (Nat.pow_pos (by decide));have h5:B^(m - 1)<=M:=by
      have:=((cm M).2 (by omega)).1
      rwa [<-hml] at this
     have h6:=Nat.mul_le_mul_right (B^(n+1 - m)) h5;rw [<-Nat.pow_add,show m - 1+(n+1 - m)=n by omega] at h6;omega
    have hV0:0 < M*2^s:=Nat.mul_pos hM0 (Nat.pow_pos (by decide));have hdiv:N*2^s / (M*2^s)=N / M:=Nat.mul_div_mul_right _ _ (Nat.pow_pos (by decide));have hmod:N*2^s%(M*2^s) / 2^s=N%M:=by rw [Nat.mul_mod_mul_right,Nat.mul_div_cancel _ (Nat.pow_pos (by decide))]
    clear vU hv hcmp hcl h1 vN vM hm1 htop hs1 hsn hnl hml;generalize hTe:N*2^s=T at *
    generalize hVe:M*2^s=V at *
    obtain⟨L,hL⟩:∃L,L=n+1 - m:=⟨_,rfl⟩;rw [<-hL] at hTV;have hLi:IntKind.i64.wrap (((n+1:Nat):Int) - m)=(L:Int):=by rw [wrap64 (by omega) (by omega)];omega
    with_unfolding_all refine⟨⟨by rw [hLi];omega,by omega,by rw [hLi];omega,by rw [hLi];show(4:Int)*_<=_;omega⟩,?_⟩
    rw [hLi];with_unfolding_all refine⟨Nat,λk=>k<=L,λk=>aa [(8,.val (goInt s)),(9,.sl 0 0 0 (n+1)),(10,.rs 1 m (ar V)),(11,.sl 1 1 0 L),(12,.val (.int .i64 ((k:Int) - 1)))] [⟨139,1,0,false,false,n+1,ar (T%(V*B^k))⟩,⟨139,1,1,false,false,L,ar (T / V / B^k*B^k)⟩] 2 [],
     λk=>k,⟨L,[some 0,some 1],Nat.le_refl _,Wo ⟨qZ (λj hj=>?_),qZ (λj hj=>?_),qQ⟩ ⟨rfl,pP,qW,pP,?_,qQ⟩ trivial⟩,λk hk=>?_⟩
    ·show ar (T%(V*B^L)) j=ar T j;rw [Nat.mod_eq_of_lt hTV]
    ·show ar (T / V / B^L*B^L) j=[PV.val (.int .u32 0)];rw [Nat.div_div_eq_div_mul,Nat.div_eq_of_lt hTV];simp [ar]
    ·show PV.val (.int .i64 (IntKind.i64.wrap ((L:Int) - 1)))=_;rw [wrap64 (by omega) (by omega)]
    ·replace hk:k<=L:=hk;cases k with
     |zero =>
      have hQ:aM L (λi=>ar (T / V / B^0*B^0) (0+i))=N / M:=by
       have e:(λi=>ar (T / V / B^0*B^0) (0+i))=ar (N / M):=by funext k;rw [Nat.zero_add,Nat.pow_zero,Nat.div_one,Nat.mul_one,hdiv]
       rw [e,bM,Nat.mod_eq_of_lt];rw [<-hdiv,Nat.div_lt_iff_lt_mul hV0,Nat.mul_comm];exact hTV
      have hR:aM (n+1) (λi=>ar (T%(V*B^0)) (0+i))=T%V:=by
       have e:(λi=>ar (T%(V*B^0)) (0+i))=ar (T%V):=by funext k;rw [Nat.zero_add,Nat.pow_zero,Nat.mul_one]
       rw [e,bM,Nat.mod_eq_of_lt (Nat.lt_of_le_of_lt (Nat.mod_le _ _) hTn)]
      with_unfolding_all refine⟨nofun,λ_=>⟨⟨λj _=>⟨_,Nat.mod_lt _ (by decide),rfl⟩,?_⟩,⟨λj _=>⟨_,Nat.mod_lt _ (by decide),rfl⟩,t1⟩,?_⟩⟩
      ·show L<=4398046511104;omega
      have hRt:d7 (nl (aM (n+1) (λi=>ar (T%(V*B^0)) (0+i)))):=by
       rw [hR];have:=ku (Nat.lt_of_le_of_lt (Nat.mod_le T V) hTn);show _<=4398046511104;omega
      have hU:aM (nl (aM (n+1) (λi=>ar (T%(V*B^0)) (0+i)))) (ar (aM (n+1) (λi=>ar (T%(V*B^0)) (0+i)))) / 2^((s:Nat):Int).toNat=N%M:=by
       rw [bl,hR,Int.toNat_natCast];exact hmod
      with_unfolding_all refine⟨⟨⟨aH _ _,hRt⟩,by omega,by omega⟩,[],aa [(4,ff (N / M)),(5,ff (N%M))] [] 0 [],Wo trivial ⟨⟨rfl,?_,?_⟩,⟨rfl,?_,?_⟩,qQ⟩ trivial,rfl,rfl⟩
      ·exact congrArg nl hQ
      ·intro j _;exact congrArg (ar · j) hQ.symm
      ·exact congrArg nl hU
      ·intro j _;exact congrArg (ar · j) hU.symm
     |succ k =>
      have hki:(((k+1:Nat):Int) - 1)=((k:Nat):Int):=by omega
      with_unfolding_all refine⟨λ_=>⟨Nat.le_refl 3,?_⟩,λh2=>absurd (of_decide_eq_false h2) (by omega)⟩
      rw [hki];obtain⟨l1,l2,l3⟩:=uH T V k hV0;have hRb:T%(V*B^(k+1)) < B^(k+m+1):=by
       refine Nat.lt_of_lt_of_le (Nat.mod_lt _ (Nat.mul_pos hV0 (aQ _))) ?_;rw [show k+m+1=m+(k+1) by omega,Nat.pow_add B m];exact Nat.mul_le_mul_right _ (Nat.le_of_lt hs3)
      refine r8 (s:=s) (L:=L) hRb hs3 hMs hm2 (by omega) hn l3 rfl rfl rfl rfl rfl rfl rfl ?_;rw [l2,l1];with_unfolding_all refine⟨⟨by omega,by omega⟩,k,[some 0,some 1],by omega,Nat.lt_succ_self k,Wo ⟨qZ (λj hj=>rfl),qZ (λj hj=>?_),qQ⟩ ⟨rfl,pP,qW,pP,?_,qQ⟩ trivial⟩
      ·show ar (T / V / B^k*B^k) j=if j=0+k then [PV.val (.int .u32 ((T / V / B^k%B:Nat):Int))] else ar (T / V / B^(k+1)*B^(k+1)) j
       rw [Nat.zero_add];exact(tA (T / V) k j rfl).symm
      ·show PV.val (.int .i64 (IntKind.i64.wrap ((k:Int) - 1)))=_;rw [wrap64 (by omega) (by omega)]
 ·cases e
end Go.Proofs
namespace Go.Num
def aZ (M len:Nat):Nat->List PV:=λj=>[.val (.int .u8 ((M / 256^(len - 1 - j)%256:Nat):Int))]
theorem mS (M:Nat):∀n,cO ((List.range n).map λi=>UInt8.ofNat (M / 256^(n - 1 - i)%256))=M%256^n
 |0=>by simp [cO,Nat.mod_one]
 |n+1=>by
  rw [List.range_succ_eq_map,List.map_cons,cE,List.map_map];have e:((List.range n).map ((λi=>UInt8.ofNat (M / 256^(n+1 - 1 - i)%256)) ∘ Nat.succ))=(List.range n).map λi=>UInt8.ofNat (M / 256^(n - 1 - i)%256):=by
   apply List.map_congr_left;intro i hi;simp only [Function.comp,Nat.succ_eq_add_one,show n+1 - 1 - (i+1)=n - 1 - i by omega]
  rw [e,mS M n];simp only [List.length_map,List.length_range,Nat.add_sub_cancel,Nat.sub_zero];rw [show(UInt8.ofNat (M / 256^n%256)).toNat=M / 256^n%256 by rw [UInt8.toNat_ofNat'];exact Nat.mod_eq_of_lt (Nat.mod_lt _ (by decide))];rw [Nat.pow_succ,Nat.mod_mul];rw [Nat.mul_comm (256^n) (M / 256^n%256),Nat.add_comm]
theorem d8 {M n:Nat} {g:Nat->List PV} (h:∀i,i < n->g i=aZ M n i):bv (cT n g)=M%256^n:=by
 rw [<-mS M n];unfold bv cT;simp only;congr 1;apply List.map_congr_left;intro i hi;rw [h i (List.mem_range.1 hi)];simp only [aZ,Int.toNat_natCast]
theorem Ao (N k len j:Nat) (h:j < len):aZ (N / B^(k+1)) len j=aZ (N / B^k) (len+4) j:=by
 have hB:B=256^4:=rfl;simp only [aZ];have e1:N / B^(k+1)=N / B^k / 256^4:=by
  rw [Nat.pow_succ,<-Nat.div_div_eq_div_mul];exact congrArg (N / B^k / ·) hB
 rw [show len+4 - 1 - j=4+(len - 1 - j) by omega,Nat.pow_add 256 4,<-Nat.div_div_eq_div_mul,e1]
theorem Ap (N k len e:Nat) (h:e < 4):aZ (N / B^k) (len+4) (len+e)=[.val (.int .u8 ((N / B^k%B / 256^(3 - e)%256:Nat):Int))]:=by
 have hB:B=4294967296:=rfl;simp only [aZ];rw [show len+4 - 1 - (len+e)=3 - e by omega];have:N / B^k%B / 256^(3 - e)%256=N / B^k / 256^(3 - e)%256:=by
  generalize N / B^k=X;rw [hB];rcases e with _|_|_|_|e
  ·show X%4294967296 / 16777216%256=X / 16777216%256;omega
  ·show X%4294967296 / 65536%256=X / 65536%256;omega
  ·show X%4294967296 / 256%256=X / 256%256;omega
  ·show X%4294967296 / 1%256=X / 1%256;omega
  ·omega
 rw [this]
theorem Cx (x:Nat):IntKind.u8.wrap ((x:Int) / 2^min (Int.toNat 24) IntKind.u32.bits)=((x / 256^(3 - 0)%256:Nat):Int):=by
 rw [ck];show(x:Int) / 2^24%256=((x / 16777216%256:Nat):Int);omega
theorem Cy (x:Nat):IntKind.u8.wrap ((x:Int) / 2^min (Int.toNat 16) IntKind.u32.bits)=((x / 256^(3 - 1)%256:Nat):Int):=by
 rw [ck];show(x:Int) / 2^16%256=((x / 65536%256:Nat):Int);omega
theorem EW (x:Nat):IntKind.u8.wrap ((x:Int) / 2^min (Int.toNat 8) IntKind.u32.bits)=((x / 256^(3 - 2)%256:Nat):Int):=by
 rw [ck];show(x:Int) / 2^8%256=((x / 256%256:Nat):Int);omega
theorem EX (x:Nat):IntKind.u8.wrap (x:Int)=((x / 256^(3 - 3)%256:Nat):Int):=by
 rw [ck];show(x:Int)%256=((x / 1%256:Nat):Int);omega
theorem yi (N k L i:Nat) (hi:i < L+4):aZ (N / B^k) (L+4) i=ll L (aZ (N / B^(k+1)) L) (λj=>fq 1 [.val (.int .u8 (IntKind.u8.wrap (((N / B^k%B:Nat):Int) / 2^min (Int.toNat 24) IntKind.u32.bits))),.val (.int .u8 (IntKind.u8.wrap (((N / B^k%B:Nat):Int) / 2^min (Int.toNat 16) IntKind.u32.bits))),.val (.int .u8 (IntKind.u8.wrap (((N / B^k%B:Nat):Int) / 2^min (Int.toNat 8) IntKind.u32.bits))),.val (.int .u8 (IntKind.u8.wrap ((N / B^k%B:Nat):Int)))] (0+j)) i:=by
 simp only [Nat.zero_add];unfold ll;split
 ·rename_i h;exact(Ao N k L i h).symm
 ·rename_i h
  obtain⟨e,rfl⟩:∃e,i=L+e:=⟨i - L,by omega⟩;rw [Ap N k L e (by omega),Nat.add_sub_cancel_left,Cx,Cy,EW,EX];rcases e with _|_|_|_|e
  ·rfl
  ·rfl
  ·rfl
  ·rfl
  ·omega
end Go.Num
namespace Go.Proofs
def Aq:List PV->Option Ans
 |[x]=>(oX x).map λr=>⟨some (lQ r.1 r.2/\r.1<=34359738368),.val (.string (ag (aM r.1 r.2))),[]⟩
 |_=>none
theorem Cz:ak { perm:=iS 5 (rds 24++[(24,false)]) } Tryz.f147 1=true:=by kernel_rfl
theorem f147:FnOk Tryz.prog 147 Aq:=by
 refine FnOk.ofW aj (am (l:=[(193,xN)]) (own:=[]) (inl:=[]) (by simp [f193]) (by simp)) Tryz.func147 { perm:=iS 5 (rds 24++[(24,false)]) } 1 Cz λargs r e=>?_;unfold Aq at e;split at e
 ·rename_i x
  simp only [Option.map_eq_some_iff] at e;obtain⟨⟨n,g⟩,hx,rfl⟩:=e;refine⟨by simp,λhm=>?_⟩;obtain⟨hu,hn⟩:=hm _ rfl;simp only at hu hn ⊢;have hlt:=cj hu;have hw:=@co x _ hx hu;generalize aM n g=N at *
  refine⟨[],aa [(0,.rs 1 n (ar N))] [] 0 [],Wo trivial ⟨hw,qQ⟩ trivial,?_⟩;clear hw hx hu hm;with_unfolding_all refine⟨Nat,λk=>k<=n,λk=>aa [(0,.rs 1 n (ar N)),(3,.sl 0 0 0 (4*(n - k))),(4,.val (.int .i64 ((k:Int) - 1)))] [⟨5,1,0,false,false,4*(n - k),aZ (N / B^k) (4*(n - k))⟩] 1 [],λk=>k,⟨n,[none],Nat.le_refl _,?_⟩,λk hk=>?_⟩
  ·exact Wo ⟨⟨bf rfl,by show 4*(n - n)=0;omega,rfl,rfl⟩,qQ⟩ ⟨qW,⟨rfl,rfl,rfl,by show 4*(n - n)=0;omega,bf rfl⟩,by show PV.val (.int .i64 (IntKind.i64.wrap ((n:Int) - 1)))=_;rw [wrap64 (by omega) (by omega)],qQ⟩ trivial
  ·replace hk:k<=n:=hk;cases k with
   |zero =>
    have hv:bv (cT (4*(n - 0)) λi=>aZ (N / B^0) (4*(n - 0)) (0+i))=N:=by
     rw [d8 (λi _=>by rw [Nat.zero_add])];rw [Nat.pow_zero,Nat.div_one,Nat.sub_zero,<-mP,Nat.mod_eq_of_lt hlt]
    with_unfolding_all refine⟨nofun,λ_=>⟨λi _=>⟨_,rfl⟩,[],aa [(2,.val (.string (ag N)))] [] 0 [],Wo trivial ⟨?_,qQ⟩ trivial,rfl,rfl⟩⟩
    exact congrArg (λx=>PV.val (.string (ag x))) hv
   |succ k =>
    have hki:(((k+1:Nat):Int) - 1)=((k:Nat):Int):=by omega
    with_unfolding_all refine⟨λ_=>⟨⟨by omega,by omega⟩,?_⟩,λh2=>absurd (of_decide_eq_false h2) (by omega)⟩
    rw [hki];have hL:4*(n - k)=4*(n - (k+1))+4:=by omega
    with_unfolding_all refine⟨by decide,⟨by omega,by omega⟩,by decide,⟨by omega,by omega⟩,by decide,⟨by omega,by omega⟩,⟨rfl,by show(4*(n - (k+1))+4)*1<=_;omega,by show 4*(n - (k+1))+4<=_;omega⟩,k,[some 0],by show k<=n;omega,Nat.lt_succ_self k,Wo ⟨⟨bf rfl,rfl,rfl,rfl,rfl,hL,λi hi=>?_⟩,qQ⟩ ⟨qW,⟨rfl,rfl,hL.symm,bf rfl,_,rfl⟩,?_,qQ⟩ trivial⟩
    ·show aZ (N / B^k) (4*(n - k)) i=_;rw [hL];exact yi N k _ i hi
    ·show PV.val (.int .i64 (IntKind.i64.wrap ((k:Int) - 1)))=_;rw [wrap64 (by omega) (by omega)]
 ·cases e
end Go.Proofs
namespace Go.Num
def aw (s:Bool) (n:Nat):Int:=bif s then -(n:Int) else n
def av (z:Int):Value:=.agg ⟨[.bool (decide (z < 0)),.string (ag z.natAbs)]⟩
def aG:Value->Int
 |.agg ⟨[.bool s,.string b]⟩=>aw s (bv b)
 |_=>0
def ef (v:Value):Prop:=∃s b,v=.agg ⟨[.bool s,.string b]⟩/\b.size<=34359738368
theorem aD (s:Bool) (n:Nat):(aw s n).natAbs=n:=by cases s<;>simp [aw]
theorem gc (s:Bool) (n:Nat):decide (aw s n < 0)=(s&&decide (n≠0)):=by
 cases s
 ·show decide ((n:Int) < 0)=false;rw [decide_eq_false_iff_not];omega
 ·show decide (-(n:Int) < 0)=(true&&decide (n≠0));rw [Bool.true_and,decide_eq_decide];omega
theorem aq (z:Int):aG (av z)=z:=by
 simp only [aG,av,aw,aC];by_cases h:z < 0
 ·simp [h];omega
 ·simp [h];omega
theorem aX {n k:Nat} (h:n < 256^k):(ag n).size<=k:=by
 rcases Nat.eq_zero_or_pos n with h0|h0
 ·rw [h0];simp [ag,cJ,ByteArray.size]
 ·have h1:=(tx (N:=n) (by omega)).1;rcases Nat.lt_or_ge k (ag n).size with h2|h2
  ·have h3:256^k<=256^((ag n).size - 1):=Nat.pow_le_pow_right (by decide) (by omega);omega
  ·exact h2
theorem cF {z:Int} {k:Nat} (h:z.natAbs < 256^k) (hk:k<=34359738368):ef (av z):=⟨_,_,rfl,Nat.le_trans (aX h) hk⟩
theorem numB_nil {n:Nat}:(!((ag n).toList==(⟨#[]⟩:ByteArray).toList))=decide (n≠0):=by
 rw [Bool.eq_iff_iff];constructor
 ·intro h;have:=gG h;rw [decide_eq_true_eq];rintro rfl;exact this (by simp [ag,cJ])
 ·intro h;have h:=of_decide_eq_true h;rcases hb:(!((ag n).toList==(⟨#[]⟩:ByteArray).toList)) with _|_
  ·have:=kt (x:=ag n) (by rw [hb];rfl);have h2:=aC n;rw [bv,this] at h2;simp [cO] at h2;omega
  ·rfl
theorem tG (z:Int):aw (decide (z < 0)) z.natAbs=z:=by
 by_cases h:z < 0
 ·simp [aw,h];omega
 ·simp [aw,h];omega
theorem nY {N x:Nat} (hx:x < 256) (hN:N*256+x < 9223372036854775808):IntKind.i64.wrap ((BitVec.ofInt IntKind.i64.bits (IntKind.i64.wrap ((N:Int)*2^min (Int.toNat 8) IntKind.i64.bits)) ||| BitVec.ofInt IntKind.i64.bits (IntKind.i64.wrap (x:Int))).toNat:Int)=((N*256+x:Nat):Int):=by
 have e:(N:Int)*2^min (Int.toNat 8) IntKind.i64.bits=((N*2^8:Nat):Int):=by
  show(N:Int)*2^8=_;omega
 rw [e,wrap64 (x:=((N*2^8:Nat):Int)) (by omega) (by omega),wrap64 (x:=(x:Int)) (by omega) (by omega)];have h:=zU (a:=x) (c:=N) (k:=8) (by omega) (by omega);have h':(BitVec.ofInt IntKind.i64.bits ((N*2^8:Nat):Int) ||| BitVec.ofInt IntKind.i64.bits (x:Int)).toNat=x+N*2^8:=h;rw [h',wrap64 (by omega) (by omega)];omega
theorem fh (b:ByteArray) {i:Nat} (h:i < b.size):cO (b.data.toList.take (i+1))=cO (b.data.toList.take i)*256+(b.data.toList[i]?.getD 0).toNat:=by
 have hl:i < b.data.toList.length:=by rw [<-a7];exact h
 rw [List.take_succ_eq_append_getElem hl,f9,List.getElem?_eq_getElem hl];simp [cO]
theorem bJ (b:ByteArray) (i:Nat) (h:b.size<=7):cO (b.data.toList.take i) < 72057594037927936:=by
 have h1:=d5 (b.data.toList.take i);have h2:(b.data.toList.take i).length<=7:=by rw [List.length_take,<-a7];omega
 have h3:256^(b.data.toList.take i).length<=256^7:=Nat.pow_le_pow_right (by decide) h2;omega
theorem Ar (N M:Nat):nl (N*M)<=nl N+nl M:=by
 refine ku ?_;rw [Nat.pow_add];exact Nat.mul_lt_mul_of_lt_of_le (cm N).1 (Nat.le_of_lt (cm M).1) (aQ _)
theorem fG {b:ByteArray} (h:b.size<=34359738368):nl (bv b)<=8589934592:=by
 have:=lR (bv b);have:=jY b;omega
theorem tH (s q:Bool) (n m:Nat):aw (!(s==q)) (n*m)=aw s n*aw q m:=by
 cases s<;>cases q<;>simp [aw,Int.neg_mul,Int.mul_neg]
theorem As (N M:Nat):nl (N+M)<=nl N+nl M+1:=by
 refine ku ?_;have h1:=(cm N).1;have h2:=(cm M).1;have h3:B^nl N<=B^(nl N+nl M):=Nat.pow_le_pow_right (by decide) (by omega);have h4:B^nl M<=B^(nl N+nl M):=Nat.pow_le_pow_right (by decide) (by omega);have h5:B^(nl N+nl M)*2<=B^(nl N+nl M+1):=by rw [Nat.pow_succ];exact Nat.mul_le_mul_left _ (by decide)
 omega
theorem wm (N M:Nat):nl (N - M)<=nl N:=ku (Nat.lt_of_le_of_lt (Nat.sub_le N M) (cm N).1)
theorem pV {s q:Bool} (h:(s==q)=true) (N M:Nat):aw s (N+M)=aw s N+aw q M:=by
 have:=beq_iff_eq.1 h;subst this;cases s<;>simp [aw];omega
theorem mT {s q:Bool} (h:(s==q)=false) {N M:Nat} (hl:N<=M):aw q (M - N)=aw s N+aw q M:=by
 cases s<;>cases q<;>simp [aw] at h ⊢<;>omega
theorem mU {s q:Bool} (h:(s==q)=false) {N M:Nat} (hl:M<=N):aw s (N - M)=aw s N+aw q M:=by
 cases s<;>cases q<;>simp [aw] at h ⊢<;>omega
theorem iL {N M:Nat}:bU N M < 0↔N < M:=by
 unfold bU;split
 ·exact⟨λ_=>by assumption,λ_=>by decide⟩
 ·split
  ·exact⟨λh=>absurd h (by decide),λh=>by omega⟩
  ·exact⟨λh=>absurd h (by decide),λh=>by omega⟩
def bq (a b:Int):Int:=if a < b then -1 else if b < a then 1 else 0
theorem nZ {N:Nat}:(0 < nl N)↔N≠0:=by
 constructor
 ·rintro h rfl;rw [g7] at h;omega
 ·exactλh=>((cm N).2 h).2
theorem k8 {s:Bool} (h:s=true) (N:Nat):decide (((nl N:Nat):Int) > 0)=decide (aw s N < 0):=by
 rw [gc,h,Bool.true_and,decide_eq_decide];have:=nZ (N:=N);omega
theorem jo {s:Bool} (h:s = !true) (N:Nat):false=decide (aw s N < 0):=by
 rw [gc,h];rfl
theorem At {s q:Bool} {N M:Nat} (h1:decide (aw s N < 0)=true) (h2:decide (aw q M < 0)=true):bU M N=bq (aw s N) (aw q M):=by
 have h1:=of_decide_eq_true h1;have h2:=of_decide_eq_true h2;unfold bU bq;cases s<;>cases q<;>simp only [aw,cond_true,cond_false] at*<;> first|omega|(split<;>split<;>(try split)<;>omega)
theorem Au {s q:Bool} {N M:Nat} (h1:decide (aw s N < 0)=false) (h2:decide (aw q M < 0)=false):bU N M=bq (aw s N) (aw q M):=by
 have h1:=of_decide_eq_false h1;have h2:=of_decide_eq_false h2;unfold bU bq;cases s<;>cases q<;>simp only [aw,cond_true,cond_false] at*<;> first|omega|(split<;>split<;>(try split)<;>omega)
theorem Av {a b:Int} (h1:decide (a < 0)=true) (h2:decide (b < 0)=false):(-1:Int)=bq a b:=by
 have h1:=of_decide_eq_true h1;have h2:=of_decide_eq_false h2;unfold bq;rw [if_pos (by omega)]
theorem Aw {a b:Int} (h1:decide (a < 0)=false) (h2:decide (b < 0)=true):(1:Int)=bq a b:=by
 have h1:=of_decide_eq_false h1;have h2:=of_decide_eq_true h2;unfold bq;rw [if_neg (by omega),if_pos (by omega)]
theorem n0 (s:Bool) (n:Nat):aw (!s) n = -aw s n:=by cases s<;>simp [aw]
theorem CA {b:ByteArray} (h:b.size<=34359738368):nl (bv b)<=34359738368:=by
 have:=lR (bv b);have:=jY b;omega
end Go.Num
namespace Go.Proofs
def aU (z:Int) (st:Nat):Blk:=⟨99,2,st,true,false,1,λ_=>[.val (.bool (decide (z < 0))),.val (.string (ag z.natAbs))]⟩
def pW:List PV->Option Ans
 |[.val (.bool s),x]=>(oX x).map λr=>⟨some (lQ r.1 r.2/\r.1<=34359738368),.val (av (aw s (aM r.1 r.2))),[]⟩
 |_=>none
theorem CB:ak {} Tryz.f111 2=true:=by kernel_rfl
theorem f111:FnOk Tryz.prog 111 pW:=by
 refine FnOk.ofW aj (am (l:=[(146,nT),(147,Aq)]) (own:=[]) (inl:=[]) (by simp [f146,f147]) (by simp)) Tryz.func111 {} 2 CB λargs r e=>?_;unfold pW at e;split at e
 ·rename_i s x
  simp only [Option.map_eq_some_iff] at e;obtain⟨⟨n,g⟩,hx,rfl⟩:=e;refine⟨by simp,λhm=>?_⟩;obtain⟨hu,hn⟩:=hm _ rfl;simp only at hu hn ⊢;have hlt:=cj hu;have hw:=@co x _ hx hu;generalize aM n g=N at *
  refine⟨[],aa [(0,.val (.bool s)),(1,.rs 1 n (ar N))] [] 0 [],Wo trivial ⟨rfl,hw,qQ⟩ trivial,?_⟩;clear hw hx hu hm;have vN:aM n (ar N)=N:=by rw [bM,Nat.mod_eq_of_lt hlt]
  have tn:d7 n:=by show n<=4398046511104;omega
  have hnl:nl N<=34359738368:=Nat.le_trans (ku hlt) hn;with_unfolding_all refine⟨⟨aH n N,tn⟩,?_⟩
  rw [vN];with_unfolding_all refine⟨⟨aH _ _,hnl⟩,?_⟩
  rw [bl];with_unfolding_all refine⟨λh=>?_,λh=>?_⟩
  ·with_unfolding_all refine⟨[some 0],aa [(4,.ptr 0 0 0 0)] [aU (aw s N) 0] 1 [],Wo ⟨qZ ⟨⟨?_,rfl⟩,⟨?_,rfl⟩,qQ⟩,qQ⟩ ⟨pP,qQ⟩ trivial,rfl,rfl⟩
   ·show PV.val (.bool (!((ag N).toList==(⟨#[]⟩:ByteArray).toList)))=_;rw [numB_nil,gc,h,Bool.true_and]
   ·show PV.val (.string (ag N))=_;rw [aD]
  ·with_unfolding_all refine⟨[some 0],aa [(4,.ptr 0 0 0 0)] [aU (aw s N) 0] 1 [],Wo ⟨qZ ⟨⟨?_,rfl⟩,⟨?_,rfl⟩,qQ⟩,qQ⟩ ⟨pP,qQ⟩ trivial,rfl,rfl⟩
   ·show PV.val (.bool false)=_;rw [gc,h];rfl
   ·show PV.val (.string (ag N))=_;rw [aD]
 ·cases e
def r9 (st:Nat):Blk:=⟨99,2,st,true,false,1,λ_=>[.val (.bool false),.val (.string ⟨#[]⟩)]⟩
theorem fH {m:Nat} (hm:m < B*B) {g:Nat->List PV} (h0:g 0=[.val (.int .u32 (IntKind.u32.wrap (m:Int)))]) (h1:g 1=[.val (.int .u32 (IntKind.u32.wrap ((m:Int) / 2^min (Int.toNat 32) IntKind.u64.bits)))]):lQ 2 g/\aM 2 g=m:=by
 rw [dS] at h0;rw [kv,dS,Nat.mod_eq_of_lt (by rw [Nat.div_lt_iff_lt_mul (by decide)];exact hm)] at h1;have hB:B=4294967296:=rfl;have e0:=Nat.mod_lt m (show 0 < B by decide);have e1:m / B < B:=by rw [Nat.div_lt_iff_lt_mul (by decide)];exact hm
 refine⟨λi hi=>?_,?_⟩
 ·rcases i with _|_|i
  ·exact⟨_,e0,h0⟩
  ·exact⟨_,e1,h1⟩
  ·omega
 ·simp only [aM,h0,h1,nS,Int.toNat_natCast,Nat.pow_zero,Nat.pow_one,Nat.mul_one,Nat.zero_add];rw [Nat.mul_comm];exact Nat.mod_add_div m B
def zC:List PV->Option Ans
 |[.val (.int .i64 z)]=>some ⟨some (-9223372036854775808<=z/\z < 9223372036854775808),.val (av z),[]⟩
 |_=>none
theorem EY:ak {} Tryz.f73 1=true:=by kernel_rfl
theorem f73:FnOk Tryz.prog 73 zC:=by
 refine FnOk.ofW aj (am (l:=[(111,pW)]) (own:=[]) (inl:=[]) (by simp [f111]) (by simp)) Tryz.func73 { join:=λc=>match c with | .seq (.region 2 _ _) _=>true|_=>false } 1 EY λargs r e=>?_;unfold zC at e;split at e
 ·rename_i z
  cases e;refine⟨by simp,λhm=>?_⟩;obtain⟨h1,h2⟩:=hm _ rfl;refine⟨[],aa [(0,.val (.int .i64 z))] [] 0 [],Wo trivial ⟨rfl,qQ⟩ trivial,?_⟩;have hB:B*B=18446744073709551616:=rfl;with_unfolding_all refine⟨Unit,λ_=>True,λ_=>aa [(0,.val (.int .i64 z)),(2,.ptr 0 0 0 0),(3,.val (.int .u64 (z.natAbs:Nat)))] [r9 0] 1 [],⟨λh=>⟨(),[some 0],trivial,Wo ⟨qJ,qQ⟩ ⟨rfl,pP,?_,qQ⟩ trivial⟩,λh=>⟨(),[some 0],trivial,Wo ⟨qJ,qQ⟩ ⟨rfl,pP,?_,qQ⟩ trivial⟩⟩,λ_ _=>?_⟩
  ·have h:=bx h;refine congrArg (λx=>PV.val (.int .u64 x)) (?_:IntKind.u64.wrap (0 - IntKind.u64.wrap z)=(z.natAbs:Int));rw [dw,dw];omega
  ·have h:=dU h;refine congrArg (λx=>PV.val (.int .u64 x)) (?_:IntKind.u64.wrap z=(z.natAbs:Int));rw [dw];omega
  ·have hm:z.natAbs < B*B:=by omega
   with_unfolding_all refine⟨by decide,⟨(fH hm rfl rfl).1,by show 2<=34359738368;decide⟩,[some 0],aa [(2,.ptr 0 0 0 0)] [aU z 0] 1 [],Wo ⟨qZ ⟨⟨(congrArg (λ(m:Nat)=>PV.val (.bool (decide (aw (decide (z < 0)) m < 0)))) (fH hm rfl rfl).2).trans (by rw [tG]),rfl⟩,⟨(congrArg (λ(m:Nat)=>PV.val (.string (ag (aw (decide (z < 0)) m).natAbs))) (fH hm rfl rfl).2).trans (by rw [tG]),rfl⟩,qQ⟩,qQ⟩ ⟨pP,qQ⟩ trivial,rfl,rfl⟩
 ·cases e
def Ax:List PV->Option Ans
 |[.val v]=>some ⟨some (ef v),.val (av (-aG v)),[]⟩
 |_=>none
def D109:Opt:={ perm:=iS 1 [(0,true),(1,true),(2,true),(3,true),(4,true),(5,false),(6,false)] }
theorem CC:ak D109.toOrd Tryz.f109 1=true:=by kernel_rfl
theorem f109:FnOk Tryz.prog 109 Ax:=by
 refine FnOk.ofW aj (am (l:=[(111,pW),(141,pH)]) (own:=[]) (inl:=[]) (by simp [f111,f141]) (by simp)) Tryz.func109 D109 1 CC λargs r e=>?_;unfold Ax at e;split at e
 ·rename_i v
  cases e;refine⟨by simp,λhm=>?_⟩;obtain⟨s,b,rfl,hb⟩:=hm _ rfl;refine⟨[],aa [(0,.val (.agg ⟨[.bool s,.string b]⟩))] [] 0 [],Wo trivial ⟨rfl,qQ⟩ trivial,?_⟩;with_unfolding_all refine⟨by show b.size<=_;omega,⟨aH _ _,CA hb⟩,?_⟩
  rw [bl];with_unfolding_all refine⟨[some 1],aa [(2,.ptr 0 0 0 0)] [aU (-aw s (bv b)) 0] 1 [],Wo ⟨qZ ⟨⟨?_,rfl⟩,⟨?_,rfl⟩,qQ⟩,qQ⟩ ⟨pP,qQ⟩ trivial,rfl,rfl⟩
  ·show PV.val (.bool (decide (aw (!s) (bv b) < 0)))=_;rw [n0]
  ·show PV.val (.string (ag (aw (!s) (bv b)).natAbs))=_;rw [n0]
 ·cases e
def Ay:List PV->Option Ans
 |[.val (.agg ⟨[.bool s,.string b]⟩)]=>some ⟨none,.val (.tuple ⟨[.int .i64 (bif decide (b.size<=7) then aw s (bv b) else 0),.bool (decide (b.size<=7))]⟩),[]⟩
 |_=>none
theorem CD:ak {} Tryz.f197 1=true:=by kernel_rfl
theorem f197:FnOk Tryz.prog 197 Ay:=by
 refine FnOk.ofW aj (am (l:=[]) (own:=[]) (inl:=[]) (by simp) (by simp)) Tryz.func197 {} 1 CD λargs r e=>?_;unfold Ay at e;split at e
 ·rename_i s b
  cases e;refine⟨by simp,λhm=>?_⟩;refine⟨[],aa [(0,.val (.agg ⟨[.bool s,.string b]⟩))] [] 0 [],Wo trivial ⟨rfl,qQ⟩ trivial,?_⟩;with_unfolding_all refine⟨λh=>⟨[],aa [(2,.val (.int .i64 0)),(3,.val (.bool false))] [] 0 [],Wo trivial ⟨rfl,rfl,qQ⟩ trivial,?_,rfl⟩,λh=>?_⟩
  ·have h:¬b.size<=7:=by have:=of_decide_eq_true h;omega
   show PV.val (.tuple ⟨[.int .i64 0,.bool false]⟩)=_;rw [decide_eq_false h];rfl
  ·have h:b.size<=7:=by have:=of_decide_eq_false h;omega
   rw [decide_eq_true h];with_unfolding_all refine⟨Nat,λi=>i<=b.size,λi=>aa [(1,.ptr 0 0 0 0),(4,.val (.int .i64 (cO (b.data.toList.take i):Nat))),(12,.val (goInt b.size)),(13,.val (goInt i))] [⟨99,2,0,true,false,1,λ_=>[.val (.bool s),.val (.string b)]⟩] 1 [],λi=>b.size - i,⟨0,[some 0],Nat.zero_le _,Wo ⟨qJ,qQ⟩ ⟨pP,rfl,rfl,rfl,qQ⟩ trivial⟩,λi hi=>?_⟩
   replace hi:i<=b.size:=hi;have hlt:=bJ b i h;with_unfolding_all refine⟨λh1=>?_,λh1=>⟨λh2=>?_,λh2=>?_⟩⟩
   ·have h1:i < b.size:=by have:=bx h1;omega
    have hx:(b.data.toList[i]?.getD 0).toNat < 256:=UInt8.toNat_lt _;with_unfolding_all refine⟨by decide,⟨by omega,by omega⟩,i+1,[some 0],h1,by show b.size - (i+1) < b.size - i;omega,Wo ⟨qJ,qQ⟩ ⟨pP,?_,rfl,?_,qQ⟩ trivial⟩
    ·refine congrArg (λx=>PV.val (.int .i64 x)) (?_:IntKind.i64.wrap ((BitVec.ofInt IntKind.i64.bits (IntKind.i64.wrap (((cO (b.data.toList.take i):Nat):Int)*2^min (Int.toNat 8) IntKind.i64.bits)) ||| BitVec.ofInt IntKind.i64.bits (IntKind.i64.wrap (((b.data.toList[i]?.getD 0).toNat:Nat):Int))).toNat:Int)=((cO (b.data.toList.take (i+1)):Nat):Int));rw [nY hx (by have:=bJ b (i+1) h;rw [fh b h1] at this;omega),fh b h1]
    ·refine congrArg (λx=>PV.val (.int .i64 x)) (?_:IntKind.i64.wrap ((i:Int)+1)=((i+1:Nat):Int));rw [wrap64 (by omega) (by omega)];rfl
   all_goals
    have h1:i=b.size:=by have:=dU h1;omega
    have he:b.data.toList.take i=b.data.toList:=by rw [h1,List.take_of_length_le (by rw [<-a7];omega)]
    rw [he] at hlt ⊢
   ·with_unfolding_all refine⟨[],aa [(2,.val (.int .i64 (aw s (bv b)))),(3,.val (.bool true))] [] 0 [],Wo trivial ⟨?_,rfl,qQ⟩ trivial,rfl,rfl⟩
    refine congrArg (λx=>PV.val (.int .i64 x)) (?_:IntKind.i64.wrap (0 - ((cO b.data.toList:Nat):Int))=aw s (bv b));rw [wrap64 (by omega) (by omega),h2];show _ = -((cO b.data.toList:Nat):Int);omega
   ·with_unfolding_all refine⟨[],aa [(2,.val (.int .i64 (aw s (bv b)))),(3,.val (.bool true))] [] 0 [],Wo trivial ⟨?_,rfl,qQ⟩ trivial,rfl,rfl⟩
    show PV.val (.int .i64 ((cO b.data.toList:Nat):Int))=_;rw [h2];rfl
 ·cases e
def uK:List PV->Option Ans
 |[.val v,.val u]=>some ⟨some (ef v/\ef u),.val (av (aG v*aG u)),[]⟩
 |_=>none
def D119:Opt:={ perm:=iS 1 [(0,true),(1,true),(2,true),(3,true),(4,true),(5,true),(6,true),(8,true),(9,true),(7,false),(10,false),(11,false),(12,false)] }
theorem CE:ak D119.toOrd Tryz.f119 2=true:=by kernel_rfl
theorem f119:FnOk Tryz.prog 119 uK:=by
 refine FnOk.ofW aj (am (l:=[(111,pW),(141,pH),(156,Ab)]) (own:=[]) (inl:=[]) (by simp [f111,f141,f156]) (by simp)) Tryz.func119 D119 2 CE λargs r e=>?_;unfold uK at e;split at e
 ·rename_i v u
  cases e;refine⟨by simp,λhm=>?_⟩;obtain⟨⟨s,b,rfl,hb⟩,q,c,rfl,hc⟩:=hm _ rfl;refine⟨[],aa [(0,.val (.agg ⟨[.bool s,.string b]⟩)),(1,.val (.agg ⟨[.bool q,.string c]⟩))] [] 0 [],Wo trivial ⟨rfl,rfl,qQ⟩ trivial,?_⟩;have h1:=fG hb;have h2:=fG hc;have h3:=Ar (bv b) (bv c);with_unfolding_all refine⟨by show b.size<=_;omega,by show c.size<=_;omega,⟨⟨aH _ _,aH _ _⟩,by show nl (bv b)+nl (bv c)<=4398046511104;omega⟩,?_⟩
  rw [bl,bl];with_unfolding_all refine⟨⟨aH _ _,by show nl (bv b*bv c)<=34359738368;omega⟩,?_⟩
  rw [bl];with_unfolding_all refine⟨[some 2],aa [(4,.ptr 0 0 0 0)] [aU (aw s (bv b)*aw q (bv c)) 0] 1 [],Wo ⟨qZ ⟨⟨?_,rfl⟩,⟨?_,rfl⟩,qQ⟩,qQ⟩ ⟨pP,qQ⟩ trivial,rfl,rfl⟩
  ·show PV.val (.bool (decide (aw (!(s==q)) (bv b*bv c) < 0)))=_;rw [tH]
  ·show PV.val (.string (ag (aw (!(s==q)) (bv b*bv c)).natAbs))=_;rw [tH]
 ·cases e
def n8 (s:Bool) (b:ByteArray) (st:Nat):Blk:=⟨99,2,st,true,false,1,λ_=>[.val (.bool s),.val (.string b)]⟩
def wq:List PV->Option Ans
 |[.val v,.val u]=>some ⟨some (ef v/\ef u),.val (av (aG v+aG u)),[]⟩
 |_=>none
def D152:Opt:={ perm:=nP [(6,[(0,true),(1,true),(3,true),(4,true),(2,false),(5,false)]),(8,rds 4++[(4,false),(5,false)]),(10,rds 4++[(4,false),(5,false)]),(11,rds 4++[(4,false),(5,false)])],join:=λc=>match c with | .seq (.seq (.region 1 _ _) _) _=>true | .seq (.region 1 _ _) _=>true|_=>false }
theorem CF:ak D152.toOrd Tryz.f152 2=true:=by kernel_rfl
theorem f152:FnOk Tryz.prog 152 wq:=by
 refine FnOk.ofW aj (am (l:=[(111,pW),(141,pH),(73,zC),(197,Ay),(198,z7),(199,z6),(142,vX)]) (own:=[]) (inl:=[]) (by simp [f111,f141,f73,f197,f198,f199,f142]) (by simp)) Tryz.func152 D152 2 CF λargs r e=>?_;unfold wq at e;split at e
 ·rename_i v u
  cases e;refine⟨by simp,λhm=>?_⟩;obtain⟨⟨s,b,rfl,hb⟩,q,c,rfl,hc⟩:=hm _ rfl;refine⟨[],aa [(0,.val (.agg ⟨[.bool s,.string b]⟩)),(1,.val (.agg ⟨[.bool q,.string c]⟩))] [] 0 [],Wo trivial ⟨rfl,rfl,qQ⟩ trivial,?_⟩;have h1:=fG hb;have h2:=fG hc;with_unfolding_all refine⟨Unit,λ_=>True,λ_=>aa [(2,.ptr 0 0 0 0),(3,.ptr 1 1 0 0),(4,.ptr 2 2 0 0)] [n8 s b 0,n8 q c 1,r9 2] 3 [],?_,λ_ _=>?_⟩
  ·with_unfolding_all refine⟨λe1=>⟨λe2=>?_,λe2=>⟨(),[some 0,some 1,some 2],trivial,Wo ⟨qJ,qJ,qJ,qQ⟩ ⟨pP,pP,pP,qQ⟩ trivial⟩⟩,λe1=>⟨(),[some 0,some 1,some 2],trivial,Wo ⟨qJ,qJ,qJ,qQ⟩ ⟨pP,pP,pP,qQ⟩ trivial⟩⟩
   have hs:b.size<=7:=of_decide_eq_true e1;have hs2:c.size<=7:=of_decide_eq_true e2;rw [e1,e2];have b1:=bJ b b.size hs;have b2:=bJ c c.size hs2;rw [List.take_of_length_le (by rw [<-a7];omega)] at b1 b2;have b1:bv b < 72057594037927936:=b1;have b2:bv c < 72057594037927936:=b2;have hw:IntKind.i64.wrap (aw s (bv b)+aw q (bv c))=aw s (bv b)+aw q (bv c):=by
    refine wrap64 ?_ ?_<;>(cases s<;>cases q<;>simp only [aw,cond_true,cond_false]<;>omega)
   have hr : -9223372036854775808<=aw s (bv b)+aw q (bv c)/\aw s (bv b)+aw q (bv c) < 9223372036854775808:=by
    constructor<;>(cases s<;>cases q<;>simp only [aw,cond_true,cond_false]<;>omega)
   have hr' : -9223372036854775808<=IntKind.i64.wrap (aw s (bv b)+aw q (bv c))/\IntKind.i64.wrap (aw s (bv b)+aw q (bv c)) < 9223372036854775808:=by rw [hw];exact hr
   with_unfolding_all refine⟨hr',⟨[some 2],aa [(4,.ptr 0 0 0 0)] [aU (aw s (bv b)+aw q (bv c)) 0] 1 [],Wo ⟨qZ ⟨⟨?_,rfl⟩,⟨?_,rfl⟩,qQ⟩,qQ⟩ ⟨pP,qQ⟩ trivial,rfl,rfl⟩⟩
   ·show PV.val (.bool (decide (IntKind.i64.wrap (aw s (bv b)+aw q (bv c)) < 0)))=_;rw [hw]
   ·show PV.val (.string (ag (IntKind.i64.wrap (aw s (bv b)+aw q (bv c))).natAbs))=_;rw [hw]
  ·have a1:=As (bv b) (bv c);have a2:=wm (bv b) (bv c);have a3:=wm (bv c) (bv b);have t1:d7 (nl (bv b)):=by show _<=4398046511104;omega
   have t2:d7 (nl (bv c)):=by show _<=4398046511104;omega
   have v1:=bl (bv b);have v2:=bl (bv c);with_unfolding_all refine⟨by show b.size<=_;omega,by show c.size<=_;omega,λe=>?_,λe=>?_⟩
   ·with_unfolding_all refine⟨⟨⟨aH _ _,by show _<=4398046511104;omega⟩,aH _ _,by show _<=4398046511104;omega⟩,?_⟩
    rw [v1,v2];with_unfolding_all refine⟨⟨aH _ _,by show nl (bv b+bv c)<=34359738368;omega⟩,?_⟩
    rw [bl];with_unfolding_all refine⟨[some 2],aa [(4,.ptr 0 0 0 0)] [aU (aw s (bv b)+aw q (bv c)) 0] 1 [],Wo ⟨qZ ⟨⟨?_,rfl⟩,⟨?_,rfl⟩,qQ⟩,qQ⟩ ⟨pP,qQ⟩ trivial,rfl,rfl⟩
    ·show PV.val (.bool (decide (aw s (bv b+bv c) < 0)))=_;rw [pV e]
    ·show PV.val (.string (ag (aw s (bv b+bv c)).natAbs))=_;rw [pV e]
   ·with_unfolding_all refine⟨⟨⟨aH _ _,t1,congrArg nl v1.symm⟩,aH _ _,t2,congrArg nl v2.symm⟩,?_⟩
    rw [v1,v2];with_unfolding_all refine⟨λe2=>?_,λe2=>?_⟩
    ·have hl:bv b < bv c:=iL.1 (of_decide_eq_true e2);with_unfolding_all refine⟨⟨⟨aH _ _,t2⟩,⟨aH _ _,t1⟩,by rw [v1,v2];omega⟩,?_⟩
     rw [v1,v2];with_unfolding_all refine⟨⟨aH _ _,by show nl (bv c - bv b)<=34359738368;omega⟩,?_⟩
     rw [bl];with_unfolding_all refine⟨[some 2],aa [(4,.ptr 0 0 0 0)] [aU (aw s (bv b)+aw q (bv c)) 0] 1 [],Wo ⟨qZ ⟨⟨?_,rfl⟩,⟨?_,rfl⟩,qQ⟩,qQ⟩ ⟨pP,qQ⟩ trivial,rfl,rfl⟩
     ·show PV.val (.bool (decide (aw q (bv c - bv b) < 0)))=_;rw [mT e (by omega)]
     ·show PV.val (.string (ag (aw q (bv c - bv b)).natAbs))=_;rw [mT e (by omega)]
    ·have hl:bv c<=bv b:=by
      have:=of_decide_eq_false e2;have h3:¬bv b < bv c:=λh=>this (iL.2 h);omega
     with_unfolding_all refine⟨⟨⟨aH _ _,t1⟩,⟨aH _ _,t2⟩,by rw [v1,v2];omega⟩,?_⟩
     rw [v1,v2];with_unfolding_all refine⟨⟨aH _ _,by show nl (bv b - bv c)<=34359738368;omega⟩,?_⟩
     rw [bl];with_unfolding_all refine⟨[some 2],aa [(4,.ptr 0 0 0 0)] [aU (aw s (bv b)+aw q (bv c)) 0] 1 [],Wo ⟨qZ ⟨⟨?_,rfl⟩,⟨?_,rfl⟩,qQ⟩,qQ⟩ ⟨pP,qQ⟩ trivial,rfl,rfl⟩
     ·show PV.val (.bool (decide (aw s (bv b - bv c) < 0)))=_;rw [mU e (by omega)]
     ·show PV.val (.string (ag (aw s (bv b - bv c)).natAbs))=_;rw [mU e (by omega)]
 ·cases e
def Az:List PV->Option Ans
 |[.val v,.val u]=>some ⟨some (ef v/\ef u),.val (av (aG v - aG u)),[]⟩
 |_=>none
theorem CG:ak {} Tryz.f195 2=true:=by kernel_rfl
theorem f195:FnOk Tryz.prog 195 Az:=by
 refine FnOk.ofW aj (am (l:=[(152,wq)]) (own:=[]) (inl:=[]) (by simp [f152]) (by simp)) Tryz.func195 {} 2 CG λargs r e=>?_;unfold Az at e;split at e
 ·rename_i v u
  cases e;refine⟨by simp,λhm=>?_⟩;obtain⟨⟨s,b,rfl,hb⟩,q,c,rfl,hc⟩:=hm _ rfl;refine⟨[],aa [(0,.val (.agg ⟨[.bool s,.string b]⟩)),(1,.val (.agg ⟨[.bool q,.string c]⟩))] [] 0 [],Wo trivial ⟨rfl,rfl,qQ⟩ trivial,?_⟩;have hz:aw s (bv b)+aw (!q) (bv c)=aw s (bv b) - aw q (bv c):=by rw [n0];omega
  with_unfolding_all refine⟨⟨⟨s,b,rfl,hb⟩,!q,c,rfl,hc⟩,⟨[some 2],aa [(4,.ptr 0 0 0 0)] [aU (aw s (bv b) - aw q (bv c)) 0] 1 [],Wo ⟨qZ ⟨⟨?_,rfl⟩,⟨?_,rfl⟩,qQ⟩,qQ⟩ ⟨pP,qQ⟩ trivial,rfl,rfl⟩⟩
  ·show PV.val (.bool (decide (aw s (bv b)+aw (!q) (bv c) < 0)))=_;rw [hz]
  ·show PV.val (.string (ag (aw s (bv b)+aw (!q) (bv c)).natAbs))=_;rw [hz]
 ·cases e
def uL:List PV->Option Ans
 |[.val v,.val u]=>some ⟨some (ef v/\ef u),.val (goInt (bq (aG v) (aG u))),[]⟩
 |_=>none
def D108:Opt:={ perm:=nP [(1,[(0,true),(1,true),(3,true),(4,true),(2,false),(5,false)])],join:=λc=>match c with | .region 2 _ _=>true|_=>false }
theorem CH:ak D108.toOrd Tryz.f108 2=true:=by kernel_rfl
theorem f108:FnOk Tryz.prog 108 uL:=by
 refine FnOk.ofW aj (am (l:=[(141,pH),(142,vX)]) (own:=[]) (inl:=[]) (by simp [f141,f142]) (by simp)) Tryz.func108 D108 2 CH λargs r e=>?_;unfold uL at e;split at e
 ·rename_i v u
  cases e;refine⟨by simp,λhm=>?_⟩;obtain⟨⟨s,b,rfl,hb⟩,q,c,rfl,hc⟩:=hm _ rfl;refine⟨[],aa [(0,.val (.agg ⟨[.bool s,.string b]⟩)),(1,.val (.agg ⟨[.bool q,.string c]⟩))] [] 0 [],Wo trivial ⟨rfl,rfl,qQ⟩ trivial,?_⟩;have h1:=fG hb;have h2:=fG hc;have t1:d7 (nl (bv b)):=by show _<=4398046511104;omega
  have t2:d7 (nl (bv c)):=by show _<=4398046511104;omega
  have v1:=bl (bv b);have v2:=bl (bv c);with_unfolding_all refine⟨by show b.size<=_;omega,by show c.size<=_;omega,Unit,λ_=>True,λ_=>aa [(2,.ptr 0 0 0 0),(3,.ptr 1 1 0 0),(5,.rs 1 (nl (bv b)) (ar (bv b))),(6,.rs 1 (nl (bv c)) (ar (bv c)))] [n8 (decide (aw s (bv b) < 0)) b 0,n8 (decide (aw q (bv c) < 0)) c 1] 2 [],⟨λe1=>⟨λe2=>⟨(),[some 0,some 1],trivial,Wo ⟨qZ ⟨⟨congrArg (λx=>PV.val (.bool x)) (k8 e1 _),rfl⟩,rq,qQ⟩,qZ ⟨⟨congrArg (λx=>PV.val (.bool x)) (k8 e2 _),rfl⟩,rq,qQ⟩,qQ⟩ ⟨pP,pP,qW,qW,qQ⟩ trivial⟩,λe2=>⟨(),[some 0,some 1],trivial,Wo ⟨qZ ⟨⟨congrArg (λx=>PV.val (.bool x)) (k8 e1 _),rfl⟩,rq,qQ⟩,qZ ⟨⟨congrArg (λx=>PV.val (.bool x)) (jo e2 _),rfl⟩,rq,qQ⟩,qQ⟩ ⟨pP,pP,qW,qW,qQ⟩ trivial⟩⟩,λe1=>⟨λe2=>⟨(),[some 0,some 1],trivial,Wo ⟨qZ ⟨⟨congrArg (λx=>PV.val (.bool x)) (jo e1 _),rfl⟩,rq,qQ⟩,qZ ⟨⟨congrArg (λx=>PV.val (.bool x)) (k8 e2 _),rfl⟩,rq,qQ⟩,qQ⟩ ⟨pP,pP,qW,qW,qQ⟩ trivial⟩,λe2=>⟨(),[some 0,some 1],trivial,Wo ⟨qZ ⟨⟨congrArg (λx=>PV.val (.bool x)) (jo e1 _),rfl⟩,rq,qQ⟩,qZ ⟨⟨congrArg (λx=>PV.val (.bool x)) (jo e2 _),rfl⟩,rq,qQ⟩,qQ⟩ ⟨pP,pP,qW,qW,qQ⟩ trivial⟩⟩⟩,λ_ _=>?_⟩
  with_unfolding_all refine⟨λe1=>⟨λe2=>?_,λe2=>⟨λ_=>⟨[],aa [(4,.val (goInt (bq (aw s (bv b)) (aw q (bv c)))))] [] 0 [],Wo trivial ⟨congrArg (λx=>PV.val (goInt x)) (Av e1 e2),qQ⟩ trivial,rfl,rfl⟩,λh=>absurd h (by rw [e1];exact nofun)⟩⟩,λe1=>⟨nofun,λ_=>⟨λh=>absurd (h.symm.trans e1) nofun,λ_=>⟨λe2=>⟨[],aa [(4,.val (goInt (bq (aw s (bv b)) (aw q (bv c)))))] [] 0 [],Wo trivial ⟨congrArg (λx=>PV.val (goInt x)) (Aw e1 e2),qQ⟩ trivial,rfl,rfl⟩,λe2=>?_⟩⟩⟩⟩
  ·with_unfolding_all refine⟨⟨⟨aH _ _,t2,congrArg nl v2.symm⟩,aH _ _,t1,congrArg nl v1.symm⟩,[],aa [(4,.val (goInt (bq (aw s (bv b)) (aw q (bv c)))))] [] 0 [],Wo trivial ⟨?_,qQ⟩ trivial,rfl,rfl⟩
   show PV.val (goInt (bU (aM (nl (bv c)) (ar (bv c))) (aM (nl (bv b)) (ar (bv b)))))=_;rw [v1,v2,At e1 e2]
  ·with_unfolding_all refine⟨⟨⟨aH _ _,t1,congrArg nl v1.symm⟩,aH _ _,t2,congrArg nl v2.symm⟩,[],aa [(4,.val (goInt (bq (aw s (bv b)) (aw q (bv c)))))] [] 0 [],Wo trivial ⟨?_,qQ⟩ trivial,rfl,rfl⟩
   show PV.val (goInt (bU (aM (nl (bv b)) (ar (bv b))) (aM (nl (bv c)) (ar (bv c)))))=_;rw [v1,v2,Au e1 e2]
 ·cases e
def AA:List PV->Option Ans
 |[.val v,.val u]=>some ⟨some (ef v/\ef u),.val (av ((Nat.gcd (aG v).natAbs (aG u).natAbs:Nat):Int)),[]⟩
 |_=>none
def D144:Opt:={ perm:=nP [(1,[(0,true),(1,true),(3,true),(4,true),(2,false),(5,false)])] }
theorem CI:ak D144.toOrd Tryz.f144 2=true:=by kernel_rfl
theorem f144:FnOk Tryz.prog 144 AA:=by
 refine FnOk.ofW aj (am (l:=[(141,pH),(111,pW),(194,yh)]) (own:=[]) (inl:=[]) (by simp [f141,f111,f194]) (by simp)) Tryz.func144 D144 2 CI λargs r e=>?_;unfold AA at e;split at e
 ·rename_i v u
  cases e;refine⟨by simp,λhm=>?_⟩;obtain⟨⟨s,b,rfl,hb⟩,q,c,rfl,hc⟩:=hm _ rfl;refine⟨[],aa [(0,.val (.agg ⟨[.bool s,.string b]⟩)),(1,.val (.agg ⟨[.bool q,.string c]⟩))] [] 0 [],Wo trivial ⟨rfl,rfl,qQ⟩ trivial,?_⟩;have h1:=fG hb;have h2:=fG hc;have hz:((Nat.gcd (aw s (bv b)).natAbs (aw q (bv c)).natAbs:Nat):Int)=((Nat.gcd (bv b) (bv c):Nat):Int):=by rw [aD,aD]
  with_unfolding_all refine⟨by show b.size<=_;omega,by show c.size<=_;omega,Nat×Nat,λx=>(nl x.1<=8589934592/\nl x.2<=8589934592)/\Nat.gcd x.1 x.2=Nat.gcd (bv b) (bv c),λx=>aa [(4,.ptr 0 0 0 0),(5,.rs 1 (nl x.1) (ar x.1)),(6,.rs 1 (nl x.2) (ar x.2))] [r9 0] 1 [],λx=>x.2,⟨(bv b,bv c),[some 2],⟨⟨h1,h2⟩,rfl⟩,Wo ⟨qJ,qQ⟩ ⟨pP,qW,qW,qQ⟩ trivial⟩,λx hx=>?_⟩
  obtain⟨x,y⟩:=x;obtain⟨⟨hx1,hx2⟩,hx3⟩:=hx;simp only at hx1 hx2 hx3;have v1:=bl x;have v2:=bl y;have t1:d7 (nl x+2):=by show _<=4398046511104;omega
  have t2:d7 (nl y+2):=by show _<=4398046511104;omega
  with_unfolding_all refine⟨λe=>?_,λe=>?_⟩
  ·have hy:y≠0:=nZ.1 (by have:((nl y:Nat):Int) > 0:=of_decide_eq_true e;omega);with_unfolding_all refine⟨⟨⟨aH _ _,t1,congrArg nl v1.symm⟩,⟨aH _ _,t2,congrArg nl v2.symm⟩,by rw [v2];omega⟩,?_⟩
   rw [v1,v2];have hlt:x%y < y:=Nat.mod_lt _ (by omega);with_unfolding_all refine⟨(y,x%y),[some 0],⟨⟨hx2,Nat.le_trans (ku (Nat.lt_trans hlt (cm y).1)) hx2⟩,?_⟩,hlt,Wo ⟨qJ,qQ⟩ ⟨pP,qW,qW,qQ⟩ trivial⟩
   show Nat.gcd y (x%y)=_;rw [<-hx3,Nat.gcd_comm y,<-Nat.gcd_rec,Nat.gcd_comm]
  ·have hy:y=0:=by
    rcases Nat.eq_zero_or_pos y with h|h
    ·exact h
    ·have:=nZ.2 (show y≠0 by omega);have:¬((nl y:Nat):Int) > 0:=of_decide_eq_false e;omega
   rw [hy,Nat.gcd_zero_right] at hx3;have hn:nl x<=34359738368:=by omega
   with_unfolding_all refine⟨⟨aH _ _,hn⟩,?_⟩
   rw [v1];with_unfolding_all refine⟨[some 0],aa [(4,.ptr 0 0 0 0)] [aU ((Nat.gcd (aw s (bv b)).natAbs (aw q (bv c)).natAbs:Nat):Int) 0] 1 [],Wo ⟨qZ ⟨⟨?_,rfl⟩,⟨?_,rfl⟩,qQ⟩,qQ⟩ ⟨pP,qQ⟩ trivial,rfl,rfl⟩
   ·show PV.val (.bool (decide (aw false x < 0)))=PV.val (.bool (decide (((Nat.gcd (aw s (bv b)).natAbs (aw q (bv c)).natAbs:Nat):Int) < 0)));rw [hz,<-hx3];rfl
   ·show PV.val (.string (ag (aw false x).natAbs))=PV.val (.string (ag ((Nat.gcd (aw s (bv b)).natAbs (aw q (bv c)).natAbs:Nat):Int).natAbs));rw [hz,<-hx3];rfl
 ·cases e
def AB:List PV->Option Ans
 |[.val v,.val u]=>some ⟨some (ef v/\ef u/\0 < aG u/\aG u∣aG v),.val (.tuple ⟨[av (aG v / aG u),av 0,.int .i64 0]⟩),[]⟩
 |_=>none
def D145:Opt:={ perm:=kI [(5,.rds [0,1,2,3,4,5,7,8,9] (.alt 6 (.alt 10 (.alt 11 (.mk 12 .nil) (.mk 12 (.mk 11 .nil))) (.alt 11 (.alt 10 (.mk 12 .nil) (.mk 12 (.mk 10 .nil))) (.mk 12 (.alt 10 (.mk 11 .nil) (.mk 11 (.mk 10 .nil)))))) (.alt 11 (.alt 6 (.alt 10 (.mk 12 .nil) (.mk 12 (.mk 10 .nil))) (.mk 12 (.mk 6 (.mk 10 .nil)))) (.mk 12 (.alt 6 (.alt 10 (.mk 11 .nil) (.mk 11 (.mk 10 .nil))) (.mk 11 (.mk 6 (.mk 10 .nil)))))))),(7,.ofL [(0,true),(3,true),(4,true),(1,false),(2,false),(5,false)])] ,all:=kI [(8,.alt 0 (.alt 1 (OT.seq [2,3,4] .nil) (OT.seq [2,1,3,4] .nil)) (OT.seq [1,0,2,3,4] .nil))],join:=λc=>match c with | .region 5 _ _=>true | .region 4 _ _=>true|_=>false }
theorem CJ:ak D145.toOrd Tryz.f145 2=true:=by kernel_rfl
theorem f145:FnOk Tryz.prog 145 AB:=by
 refine FnOk.ofW aj (am (l:=[(141,pH),(111,pW),(194,yh),(73,zC),(195,Az),(152,wq)]) (own:=[]) (inl:=[]) (by simp [f141,f111,f194,f73,f195,f152]) (by simp)) Tryz.func145 D145 2 CJ λargs r e=>?_;unfold AB at e;split at e
 ·rename_i v u
  cases e;refine⟨by simp,λhm=>?_⟩;obtain⟨⟨s,b,rfl,hb⟩,⟨q,c,rfl,hc⟩,hpos,hdv⟩:=hm _ rfl;refine⟨[],aa [(0,.val (.agg ⟨[.bool s,.string b]⟩)),(1,.val (.agg ⟨[.bool q,.string c]⟩))] [] 0 [],Wo trivial ⟨rfl,rfl,qQ⟩ trivial,?_⟩;have h1:=fG hb;have h2:=fG hc;obtain rfl:q=false:=by
   cases q
   ·rfl
   ·exfalso;have:(0:Int) < -(bv c:Int):=hpos;omega
  have hM:bv c≠0:=by
   rintro h;have:(0:Int) < (bv c:Int):=hpos;omega
  have hdN:bv c∣bv b:=by
   have h:((bv c:Nat):Int)∣aw s (bv b):=hdv;have h':=Int.natAbs_dvd_natAbs.2 h
   rwa [aD] at h'
  have hR:bv b%bv c=0:=Nat.mod_eq_zero_of_dvd hdN;have hQ:aw s (bv b) / aw false (bv c)=aw s (bv b / bv c):=by
   obtain⟨k,hk⟩:=hdN;have hc0:(bv c:Int)≠0:=by omega
   rw [hk,Nat.mul_div_cancel_left _ (by omega)];cases s
   ·show((bv c*k:Nat):Int) / (bv c:Int)=(k:Int);rw [Int.natCast_mul,Int.mul_ediv_cancel_left _ hc0]
   ·show -((bv c*k:Nat):Int) / (bv c:Int) = -(k:Int);rw [Int.natCast_mul,<-Int.mul_neg,Int.mul_ediv_cancel_left _ hc0]
  have v1:=bl (bv b);have v2:=bl (bv c);have t1:d7 (nl (bv b)+2):=by show _<=4398046511104;omega
  have t2:d7 (nl (bv c)+2):=by show _<=4398046511104;omega
  obtain⟨Q,hQe⟩:∃Q,Q=bv b / bv c:=⟨_,rfl⟩;rw [<-hQe] at hQ;have n1:nl Q<=34359738368:=by
   have:=ku (Nat.lt_of_le_of_lt (Nat.div_le_self (bv b) (bv c)) (cm (bv b)).1);rw [<-hQe] at this;omega
  have n2:nl 0<=34359738368:=by rw [g7];omega
  have eQ:aM (nl (bv b)) (ar (bv b)) / aM (nl (bv c)) (ar (bv c))=Q:=by rw [v1,v2,hQe]
  have eR:aM (nl (bv b)) (ar (bv b))%aM (nl (bv c)) (ar (bv c))=0:=by rw [v1,v2,hR]
  have hs:(!(s==false))=s:=by cases s<;>rfl
  have w1:PV.val (.bool (decide (aw (!(s==false)) (aM (nl Q) (ar Q)) < 0)))=PV.val (.bool (decide (aw s Q < 0))):=by rw [bl,hs]
  have w2:PV.val (.string (ag (aw (!(s==false)) (aM (nl Q) (ar Q))).natAbs))=PV.val (.string (ag Q)):=by rw [bl,aD]
  have w3:PV.val (.bool (decide (aw s (aM (nl 0) (ar 0)) < 0)))=PV.val (.bool false):=by rw [bl];cases s<;>rfl
  have w4:PV.val (.string (ag (aw s (aM (nl 0) (ar 0))).natAbs))=PV.val (.string (ag 0)):=by rw [bl,aD]
  with_unfolding_all refine⟨by show c.size<=_;omega,λe=>absurd (zX e) (by have:=nZ.2 hM;omega),λe=>⟨Unit,λ_=>True,λ_=>aa [(2,.ptr 0 0 0 0),(3,.ptr 1 1 0 0),(4,.ptr 2 2 0 0),(5,.ptr 3 3 0 0),(8,.rs 1 (nl Q) (ar Q)),(9,.rs 1 (nl 0) (ar 0))] [n8 s b 0,n8 false c 1,r9 2,r9 3] 4 [],⟨by show b.size<=_;omega,⟨⟨aH _ _,t1,congrArg nl v1.symm⟩,⟨aH _ _,t2,congrArg nl v2.symm⟩,by rw [v2];omega⟩,(),[some 0,some 1,some 2,some 3],trivial,Wo ⟨qJ,qJ,qJ,qJ,qQ⟩ ⟨pP,pP,pP,pP,⟨rfl,congrArg nl eQ,λj _=>congrArg (ar · j) eQ.symm⟩,⟨rfl,congrArg nl eR,λj _=>congrArg (ar · j) eR.symm⟩,qQ⟩ trivial⟩,λ_ _=>?_⟩⟩
  with_unfolding_all refine⟨Unit,λ_=>True,λ_=>aa [(2,.ptr 0 0 0 0),(3,.ptr 1 1 0 0),(4,.ptr 2 2 0 0),(5,.ptr 3 3 0 0),(10,.ptr 4 4 0 0),(11,.ptr 5 5 0 0)] [n8 s b 0,n8 false c 1,r9 2,r9 3,⟨99,2,4,true,false,1,λ_=>[.val (.bool (decide (aw s Q < 0))),.val (.string (ag Q))]⟩,⟨99,2,5,true,false,1,λ_=>[.val (.bool false),.val (.string (ag 0))]⟩] 6 [],⟨⟨⟨aH _ _,n1⟩,⟨⟨⟨aH _ _,n2⟩,⟨⟨(),[some 0,some 1,some 2,some 3,some 4,some 5],trivial,Wo ⟨qJ,qJ,qJ,qJ,qZ ⟨⟨w1,rfl⟩,⟨w2,rfl⟩,qQ⟩,qZ ⟨⟨w3,rfl⟩,⟨w4,rfl⟩,qQ⟩,qQ⟩ ⟨pP,pP,pP,pP,pP,pP,qQ⟩ trivial⟩,⟨(),[some 0,some 1,some 2,some 3,some 5,some 4],trivial,Wo ⟨qJ,qJ,qJ,qJ,qZ ⟨⟨w1,rfl⟩,⟨w2,rfl⟩,qQ⟩,qZ ⟨⟨w3,rfl⟩,⟨w4,rfl⟩,qQ⟩,qQ⟩ ⟨pP,pP,pP,pP,pP,pP,qQ⟩ trivial⟩⟩⟩,⟨⟨⟨⟨aH _ _,n2⟩,⟨(),[some 0,some 1,some 2,some 3,some 4,some 5],trivial,Wo ⟨qJ,qJ,qJ,qJ,qZ ⟨⟨w1,rfl⟩,⟨w2,rfl⟩,qQ⟩,qZ ⟨⟨w3,rfl⟩,⟨w4,rfl⟩,qQ⟩,qQ⟩ ⟨pP,pP,pP,pP,pP,pP,qQ⟩ trivial⟩⟩,⟨⟨aH _ _,n2⟩,⟨(),[some 0,some 1,some 2,some 3,some 4,some 5],trivial,Wo ⟨qJ,qJ,qJ,qJ,qZ ⟨⟨w1,rfl⟩,⟨w2,rfl⟩,qQ⟩,qZ ⟨⟨w3,rfl⟩,⟨w4,rfl⟩,qQ⟩,qQ⟩ ⟨pP,pP,pP,pP,pP,pP,qQ⟩ trivial⟩⟩⟩,⟨⟨⟨aH _ _,n2⟩,⟨(),[some 0,some 1,some 2,some 3,some 5,some 4],trivial,Wo ⟨qJ,qJ,qJ,qJ,qZ ⟨⟨w1,rfl⟩,⟨w2,rfl⟩,qQ⟩,qZ ⟨⟨w3,rfl⟩,⟨w4,rfl⟩,qQ⟩,qQ⟩ ⟨pP,pP,pP,pP,pP,pP,qQ⟩ trivial⟩⟩,⟨⟨aH _ _,n2⟩,⟨(),[some 0,some 1,some 2,some 3,some 5,some 4],trivial,Wo ⟨qJ,qJ,qJ,qJ,qZ ⟨⟨w1,rfl⟩,⟨w2,rfl⟩,qQ⟩,qZ ⟨⟨w3,rfl⟩,⟨w4,rfl⟩,qQ⟩,qQ⟩ ⟨pP,pP,pP,pP,pP,pP,qQ⟩ trivial⟩⟩⟩⟩⟩⟩,⟨⟨⟨⟨aH _ _,n1⟩,⟨⟨⟨aH _ _,n2⟩,⟨(),[some 0,some 1,some 2,some 3,some 4,some 5],trivial,Wo ⟨qJ,qJ,qJ,qJ,qZ ⟨⟨w1,rfl⟩,⟨w2,rfl⟩,qQ⟩,qZ ⟨⟨w3,rfl⟩,⟨w4,rfl⟩,qQ⟩,qQ⟩ ⟨pP,pP,pP,pP,pP,pP,qQ⟩ trivial⟩⟩,⟨⟨aH _ _,n2⟩,⟨(),[some 0,some 1,some 2,some 3,some 4,some 5],trivial,Wo ⟨qJ,qJ,qJ,qJ,qZ ⟨⟨w1,rfl⟩,⟨w2,rfl⟩,qQ⟩,qZ ⟨⟨w3,rfl⟩,⟨w4,rfl⟩,qQ⟩,qQ⟩ ⟨pP,pP,pP,pP,pP,pP,qQ⟩ trivial⟩⟩⟩⟩,⟨⟨aH _ _,n1⟩,⟨⟨aH _ _,n2⟩,⟨(),[some 0,some 1,some 2,some 3,some 4,some 5],trivial,Wo ⟨qJ,qJ,qJ,qJ,qZ ⟨⟨w1,rfl⟩,⟨w2,rfl⟩,qQ⟩,qZ ⟨⟨w3,rfl⟩,⟨w4,rfl⟩,qQ⟩,qQ⟩ ⟨pP,pP,pP,pP,pP,pP,qQ⟩ trivial⟩⟩⟩⟩,⟨⟨⟨aH _ _,n1⟩,⟨⟨⟨aH _ _,n2⟩,⟨(),[some 0,some 1,some 2,some 3,some 5,some 4],trivial,Wo ⟨qJ,qJ,qJ,qJ,qZ ⟨⟨w1,rfl⟩,⟨w2,rfl⟩,qQ⟩,qZ ⟨⟨w3,rfl⟩,⟨w4,rfl⟩,qQ⟩,qQ⟩ ⟨pP,pP,pP,pP,pP,pP,qQ⟩ trivial⟩⟩,⟨⟨aH _ _,n2⟩,⟨(),[some 0,some 1,some 2,some 3,some 5,some 4],trivial,Wo ⟨qJ,qJ,qJ,qJ,qZ ⟨⟨w1,rfl⟩,⟨w2,rfl⟩,qQ⟩,qZ ⟨⟨w3,rfl⟩,⟨w4,rfl⟩,qQ⟩,qQ⟩ ⟨pP,pP,pP,pP,pP,pP,qQ⟩ trivial⟩⟩⟩⟩,⟨⟨aH _ _,n1⟩,⟨⟨aH _ _,n2⟩,⟨(),[some 0,some 1,some 2,some 3,some 5,some 4],trivial,Wo ⟨qJ,qJ,qJ,qJ,qZ ⟨⟨w1,rfl⟩,⟨w2,rfl⟩,qQ⟩,qZ ⟨⟨w3,rfl⟩,⟨w4,rfl⟩,qQ⟩,qQ⟩ ⟨pP,pP,pP,pP,pP,pP,qQ⟩ trivial⟩⟩⟩⟩⟩⟩,λ_ _=>?_⟩
  have q2:PV.val (.string (ag Q))=PV.val (.string (ag (aw s Q).natAbs)):=by rw [aD]
  with_unfolding_all refine⟨λh=>absurd (numB_nil.symm.trans h) (by decide),λ_=>⟨λh=>(nomatch h),λ_=>⟨⟨⟨[some 2,some 3],aa [(4,.ptr 0 0 0 0),(5,.ptr 1 1 0 0),(6,.val (.int .i64 0))] [aU (aw s Q) 0,aU 0 1] 2 [],Wo ⟨qZ ⟨rq,⟨q2,rfl⟩,qQ⟩,qJ,qQ⟩ ⟨pP,pP,rfl,qQ⟩ trivial,congrArg (λz=>PV.val (.tuple ⟨[av z,av 0,.int .i64 0]⟩)) hQ.symm,rfl⟩,⟨[some 2,some 3],aa [(4,.ptr 0 0 0 0),(5,.ptr 1 1 0 0),(6,.val (.int .i64 0))] [aU (aw s Q) 0,aU 0 1] 2 [],Wo ⟨qZ ⟨rq,⟨q2,rfl⟩,qQ⟩,qJ,qQ⟩ ⟨pP,pP,rfl,qQ⟩ trivial,congrArg (λz=>PV.val (.tuple ⟨[av z,av 0,.int .i64 0]⟩)) hQ.symm,rfl⟩⟩,⟨[some 2,some 3],aa [(4,.ptr 0 0 0 0),(5,.ptr 1 1 0 0),(6,.val (.int .i64 0))] [aU (aw s Q) 0,aU 0 1] 2 [],Wo ⟨qZ ⟨rq,⟨q2,rfl⟩,qQ⟩,qJ,qQ⟩ ⟨pP,pP,rfl,qQ⟩ trivial,congrArg (λz=>PV.val (.tuple ⟨[av z,av 0,.int .i64 0]⟩)) hQ.symm,rfl⟩⟩⟩⟩
 ·cases e
end Go.Proofs
