/- RoadmapLinks: for every region, points and numbers the law returns true, and leaves its arguments as they are. No conditions. -/
import Derived.Deep.Slices
import Derived.SizedLaws
import Derived.Carry
import Derived.WideShapes
import Derived.ProofKit
import Derived.Test.YtpfdckeipckldaaGreatRows
import Derived.Test.YtpfdckeipckldaaGreatE
set_option maxHeartbeats 8000000
set_option linter.all false
open Go Go.Ex Go.Num Go.Proofs
set_option maxRecDepth 100000
namespace Go.Ex
open Go.RowKit
section
variable {H:Type} {enc:TypeId×Value->H} {P:Program} {w:World}
def vI (T:TypeId->List PV->Prop):List Field->List PV->Prop
 |[],ps=>ps=[]
 |f::fs,ps=>∃qs rs,ps=qs++rs/\T f.type qs/\vI T fs rs
def lJ (P:Program):Nat->TypeId->List PV->Prop
 |0,_,_=>False
 |d+1,t,ps=>match P.underlying t with
  |some .bool=>∃b,ps=[.val (.bool b)]
  |some (.int k)=>∃z,ps=[.val (.int k z)]/\(Lit.int k z).wf=true
  |some .string=>∃s:ByteArray,ps=[.val (.string s)]/\s.size<=140737488355328
  |some (.slice e)=>∃m g,ps=[.rs (P.cellsOf e) m g]/\m<=140737488355328/\∀i,i < m->lJ P d e (g i)
  |some (.struct fs)=>vI (lJ P d) fs.toList ps
  |_=>False
def Bb (P:Program):Nat->List Field->Option Nat
 |o,[]=>some o
 |o,f::fs=>if f.offset=o then Bb P (o+P.cellsOf f.type) fs else none
def fV (P:Program):Nat->TypeId->Bool
 |0,_=>false
 |d+1,t=>match P.underlying t with
  |some .bool|some (.int _)|some .string=>true
  |some (.slice e)=>fV P d e&&decide (0 < P.cellsOf e)&&decide (0 < P.bytesOf e)
  |some (.struct fs)=>fs.toList.all (λf=>fV P d f.type)&&decide (Bb P 0 fs.toList=some (P.cellsOf t))
  |_=>false
def Pt (A:Nat->Prop) (w:World) (ps:List PV) (cs:List Value):Prop:=ps.length=cs.length/\∀(i:Nat) p u,ps[i]? = some p->cs[i]? = some u->R0 A w p u/\bD p=true
theorem Pt.append {A:Nat->Prop} {ps qs:List PV} {cs ds:List Value} (h:Pt A w ps cs) (k:Pt A w qs ds):Pt A w (ps++qs) (cs++ds):=by
 refine⟨by rw [List.length_append,List.length_append,h.1,k.1],λi p u hp hu=>?_⟩;rw [List.getElem?_append] at hp hu;rw [<-h.1] at hu;split at hp
 ·rename_i hi
  rw [if_pos hi] at hu;exact h.2 i p u hp hu
 ·rename_i hi
  rw [if_neg hi] at hu;exact k.2 _ p u hp hu
theorem mS {A:Nat->Prop} {d n:Nat} {cs:List Value} (hn:cs.length=n):∀{fs:List Field} {o:Nat},Bb P o fs=some n ->
  (∀f∈fs,∃ps,lJ P d f.type ps/\Pt A w ps ((cs.drop f.offset).take (P.cellsOf f.type)))->∃ps,vI (lJ P d) fs ps/\Pt A w ps (cs.drop o)
 |[],o,h,_=>by
  cases h;refine⟨[],rfl,?_,λi p u hp=>by simp at hp⟩;rw [List.length_drop];simp only [List.length_nil];omega
 |f::fs,o,h,hf=>by
  unfold Bb at h;split at h
  ·rename_i e
   obtain⟨rs,h1,h2⟩:=mS hn h λf hf'=>hf f (List.mem_cons_of_mem _ hf');obtain⟨qs,h3,h4⟩:=hf f List.mem_cons_self;refine⟨qs++rs,⟨qs,rs,rfl,h3,h1⟩,?_⟩;rw [e] at h4;have:=h4.append h2;rw [<-List.drop_drop,List.take_append_drop] at this;exact this
  ·cases h
theorem mT {A:Nat->Prop} (hA:∀k,k < w.heap.size->A k) {base:Nat} {spare:Nat->Bool} {held:Bool}:∀(d fuel:Nat) {t:TypeId} {cs:List Value} {x:DataW H×List MemPlace},fV P d t=true ->
  DataW.trod enc P w base spare held fuel t cs=some x->(∀n∈x.1.weights P t,n<=reachBytes)->∃ps,lJ P d t ps/\Pt A w ps cs
 |0,_,_,_,_,hp,_,_=>by simp [fV] at hp
 |d+1,fuel,t,cs,x,hp,h,hw=>by
  have one:∀v:Value,v.oneCell'=true->Pt A w [.val v] [v]:=λv hv=>⟨rfl,λi p u h1 h2=>by
   match i with
   |0=>cases h1;cases h2;exact⟨.val v,hv⟩
   |i+1=>simp at h1⟩
  unfold fV at hp;unfold lJ;split at hp
  ·rename_i ht
   obtain⟨b,rfl,rfl⟩:=DataW.trod_bool ht h;exact⟨_,⟨b,rfl⟩,one _ rfl⟩
  ·rename_i k ht
   obtain⟨b,rfl,rfl,hb⟩:=DataW.trod_int ht h;exact⟨_,⟨b,rfl,hb⟩,one _ rfl⟩
  ·rename_i ht
   obtain⟨b,rfl,rfl,hb⟩:=DataW.trod_string ht h;have:=hw b.data.toList.length (by simp [DataW.weights]);have e:b.data.toList.length=b.size:=Array.length_toList;refine⟨_,⟨b,rfl,?_⟩,one _ rfl⟩;rw [e] at this;unfold reachBytes at this;omega
  ·rename_i e ht
   simp only [Bool.and_eq_true,decide_eq_true_eq] at hp;obtain⟨⟨hpe,hce⟩,hbe⟩:=hp;rcases Deep.open_slice ht h with ⟨rfl,rfl⟩|⟨a,len,cap,m,n,D,Pl,rfl,hb,hl,hm,hme,rfl,hel⟩
   ·refine⟨[.rs (P.cellsOf e) 0 λ_=>[]],⟨0,_,rfl,Nat.zero_le _,λi hi=>absurd hi (Nat.not_lt_zero i)⟩,rfl,λi p u h1 h2=>?_⟩
    match i with
    |0=>cases h1;cases h2;exact⟨.rs _ _ _ _ _ (λ_ _=>undef) (λi hi=>absurd hi (Nat.not_lt_zero i)) (Nat.le_refl _) (Nat.zero_le _) (λi f p hi=>absurd hi (Nat.not_lt_zero i)) (λi f p hi=>absurd hi (Nat.not_lt_zero i)),rfl⟩
    |i+1=>simp at h1
   ·have hlm:len<=m:=by rw [hme];split<;>omega
    have hsz:((List.range len).map D).length*P.bytesOf e<=reachBytes:=by
     refine Nat.le_trans (Nat.mul_le_mul_right _ (Nat.le_add_right _ ((List.range (m - len)).map λj=>D (len+j)).length)) (hw _ ?_);simp [DataW.weights,ht]
    rw [List.length_map,List.length_range] at hsz;have hlen:len<=140737488355328:=by
     have:=Nat.le_mul_of_pos_right len hbe;unfold reachBytes at hsz;omega
    have hall:∀ds:List (DataW H),∀y∈ds,∀k∈y.weights P e,k∈DataW.weightsAll P e ds:=λds=>by
     induction ds with
     |nil=>intro y hy;simp at hy
     |cons z r ih =>
      intro y hy k hk;rw [DataW.weightsAll,List.mem_append];rcases List.mem_cons.1 hy with rfl|hy
      ·exact .inl hk
      ·exact .inr (ih y hy k hk)
    have key:∀i,i < len->∃z:List PV×List Value,lJ P d e z.1/\Pt A w z.1 z.2/\z.2.length=P.cellsOf e/\∀f,f < P.cellsOf e->w.cell? ((a.add (i*P.cellsOf e)).add f)=z.2[f]?:=λi hi=>by
     obtain⟨cs',h1,h2⟩:=hel i (by omega);obtain⟨ps,k1,k2⟩:=mT hA d n hpe h2 (λk hk=>hw k (by
      simp only [DataW.weights,ht,List.mem_cons,List.mem_append];exact .inr (.inl (hall _ (D i) (List.mem_map.2 ⟨i,List.mem_range.2 hi,rfl⟩) k hk))))
     obtain⟨_,c2,c3⟩:=World.cells?_some h1;exact⟨(ps,cs'),k1,k2,c2,c3⟩
    obtain⟨z,hz⟩:=Deep.choose_lt key;have hspot:0 < len->a.spot=none:=λh0=>by
     obtain⟨_,_,c1,c2⟩:=hz 0 h0;have:=c2 0 hce;rw [List.getElem?_eq_getElem (by omega),Nat.zero_mul] at this;unfold Addr.add at this;rw [if_pos rfl,if_pos rfl] at this;unfold World.cell? at this;split at this
     ·split at this
      ·cases this
      ·rename_i hs
       cases hsp:a.spot with
       |none=>rfl
       |some _=>rw [hsp] at hs;exact absurd rfl hs
     ·cases this
    have hadd:∀i f,0 < len->(a.add (i*P.cellsOf e)).add f=⟨a.block,a.off+(i*P.cellsOf e+f),none⟩:=λi f h0=>by
     have hs:=hspot h0;obtain⟨b,o,s⟩:=a;cases hs;rw [WideShapes.add_plain,WideShapes.add_plain,Nat.add_assoc]
    have hcell:∀i f p,i < len->(z i).1[f]? = some p->∃u,(z i).2[f]? = some u/\w.cell? ⟨a.block,a.off+(i*P.cellsOf e+f),none⟩=some u:=λi f p hi hp=>by
     obtain⟨_,⟨k1,_⟩,k3,k4⟩:=hz i hi;obtain⟨hf,_⟩:=List.getElem?_eq_some_iff.1 hp;have:=k4 f (by omega);rw [hadd i f (by omega)] at this;rw [this];exact⟨(z i).2[f]'(by omega),List.getElem?_eq_getElem _,List.getElem?_eq_getElem _⟩
    refine⟨[.rs (P.cellsOf e) len λi=>(z i).1],⟨len,_,rfl,hlen,λi hi=>(hz i hi).1⟩,rfl,λi p u h1 h2=>?_⟩
    match i with
    |i+1=>simp at h1
    |0 =>
     cases h1;cases h2;refine⟨.rs _ _ _ _ _ (λi f=>((z i).2[f]?).getD undef) (λi hi=>?_) hl hm (λi f p hi hp=>?_) (λi f p hi hp=>?_),rfl⟩
     ·obtain⟨_,⟨k1,k2⟩,k3,_⟩:=hz i hi;refine⟨k1.trans k3,λp hp=>?_⟩;obtain⟨f,hf⟩:=List.getElem?_of_mem hp;obtain⟨hf',_⟩:=List.getElem?_eq_some_iff.1 hf;exact(k2 f p _ hf (List.getElem?_eq_getElem (show f < (z i).2.length by omega))).2
     ·obtain⟨u,e1,e2⟩:=hcell i f p hi hp;obtain⟨b,o,s⟩:=a;have hs:s=none:=hspot (show 0 < len by omega);subst hs;refine⟨b,o,rfl,hA _ ?_,?_⟩
      ·exact Nat.lt_of_not_le λhge=>by
        unfold World.cell? at e2;rw [show w.heap[(⟨b,o+(i*P.cellsOf e+f),none⟩:Addr).block]? = none from Array.getElem?_eq_none hge] at e2;cases e2
      ·rw [e2,e1];rfl
     ·obtain⟨u,e1,e2⟩:=hcell i f p hi hp;rw [e1];exact((hz i hi).2.1.2 f p u hp e1).1
  ·rename_i fs ht
   simp only [Bool.and_eq_true,decide_eq_true_eq,List.all_eq_true] at hp;obtain⟨xs,n,rfl,rfl,hl,hlen,hf⟩:=DataW.trod_struct ht h;obtain⟨ps,h1,h2⟩:=mS (P:=P) (A:=A) (w:=w) (d:=d) hl hp.2 λf hm=>by
    obtain⟨i,hi⟩:=List.getElem?_of_mem hm;have hi':fs[i]? = some f:=by rw [<-hi,Array.getElem?_toList]
    have h1:=hf i f hi';obtain⟨hil,_⟩:=List.getElem?_eq_some_iff.1 hi;have hil':i < xs.length:=by rw [hlen];simpa using hil
    rw [List.getElem?_eq_getElem hil'] at h1;refine mT hA d n (hp.1 f hm) h1 λk hk=>hw k ?_;have e2:DataW.weights P t (.agg (xs.map (·.1)))=DataW.weightsEach P (fs.toList.map (·.type)) (xs.map (·.1)):=by simp only [DataW.weights,ht]
    show k∈DataW.weights P t (.agg (xs.map (·.1)));rw [e2];exact DataW.weights_mem_each (j:=i) (t:=f.type) (d:=xs[i].1) (by rw [List.getElem?_map,hi];rfl) (by rw [List.getElem?_map,List.getElem?_eq_getElem hil'];rfl) k hk
   exact⟨ps,h1,h2⟩
  ·cases hp
def pT (P:Program) (d:Nat) (t:TypeId) (p:PV):Prop:=match P.underlying t with
 |some (.struct _)=>∃xs,p=mkAgg xs/\lJ P d t xs
 |_=>lJ P d t [p]
def pU (P:Program) (d:Nat):List TypeId->List PV->Prop
 |[],ps=>ps=[]
 |t::ts,ps=>∃p qs,ps=p::qs/\pT P d t p/\pU P d ts qs
theorem xm {A:Nat->Prop} (hA:∀k,k < w.heap.size->A k) {base base':Nat} {spare:Nat->Bool} {held:Bool} {r:Reach} {d:Nat} {t:TypeId} {v:Value} {y:DataW H} {q:List MemPlace} (hp:fV P d t=true)
  (h:DataW.Trod enc P w base spare held t v y q) (hv:Value.okWide P w r base' t v) (hw:∀n∈y.weights P t,n<=reachBytes):∃p,pT P d t p/\R0 A w p v:=by
 obtain⟨fuel,h⟩:=h;obtain⟨ps,h1,h2⟩:=mT hA d fuel hp h hw;have one:v.cells.toList=[v]->∃p,ps=[p]/\R0 A w p v:=λe=>by
  rw [e] at h2
  match ps,h2 with
  |[p],h2=>exact⟨p,rfl,(h2.2 0 p v rfl rfl).1⟩
  |[],h2=>exact absurd h2.1 (by simp)
  |_::_::_,h2=>exact absurd h2.1 (by simp)
 unfold pT
 match d,hp with
 |d+1,hp =>
  unfold fV at hp;split at hp
  ·rename_i ht
   obtain⟨b,rfl⟩:=WideShapes.okWide_bool ht hv;obtain⟨p,rfl,hr⟩:=one rfl;rw [ht];exact⟨p,h1,hr⟩
  ·rename_i k ht
   obtain⟨b,rfl⟩:=WideShapes.okWide_int ht hv;obtain⟨p,rfl,hr⟩:=one rfl;rw [ht];exact⟨p,h1,hr⟩
  ·rename_i ht
   obtain⟨b,rfl⟩:=WideShapes.okWide_string ht hv;obtain⟨p,rfl,hr⟩:=one rfl;rw [ht];exact⟨p,h1,hr⟩
  ·rename_i e ht
   obtain⟨a,len,cap,rfl⟩:=WideShapes.okWide_slice ht hv;obtain⟨p,rfl,hr⟩:=one rfl;rw [ht];exact⟨p,h1,hr⟩
  ·rename_i fs ht
   obtain⟨cs,rfl,_⟩:=WideShapes.okWide_struct ht hv;rw [ht];have h2':Pt A w ps cs.toList:=h2;exact⟨Ex.mkAgg ps,⟨ps,rfl,h1⟩,R0.mkAgg (by simpa using h2'.1) λi p u hp hu=>(h2'.2 i p u hp (by rw [Array.getElem?_toList];exact hu)).1⟩
  ·cases hp
theorem k7 {A:Nat->Prop} (hA:∀k,k < w.heap.size->A k) {base base':Nat} {spare:Nat->Bool} {held:Bool} {r:Reach} {d:Nat}:∀{ts:List TypeId} {vs:List Value} {ds:List (DataW H)} {q:List MemPlace},(∀t∈ts,fV P d t=true) ->
  DataW.TrodAll enc P w base spare held ts vs ds q->(∀(j:Nat) t v,ts[j]? = some t->vs[j]? = some v->Value.okWide P w r base' t v)->(∀n∈DataW.weightsEach P ts ds,n<=reachBytes) ->
  ∃ps,pU P d ts ps/\ps.length=vs.length/\∀(i:Nat) p v,ps[i]? = some p->vs[i]? = some v->R0 A w p v
 |[],[],_,_,_,_,_,_=>⟨[],rfl,rfl,λi p v h=>by simp at h⟩
 |[],_::_,_,_,_,h,_,_=>h.elim
 |_::_,[],_,_,_,h,_,_=>h.elim
 |_::_,_::_,[],_,_,h,_,_=>h.elim
 |t::ts,v::vs,y::ds,q,hp,h,hv,hw=>by
  obtain⟨q1,q2,h1,h2,_⟩:=h;obtain⟨p,k1,k2⟩:=xm (A:=A) hA (hp t List.mem_cons_self) h1 (hv 0 t v rfl rfl) λn hn=>hw n (by rw [DataW.weightsEach,List.mem_append];exact .inl hn);obtain⟨ps,k3,k4,k5⟩:=k7 hA (λt ht=>hp t (List.mem_cons_of_mem _ ht)) h2 (λj t' v' a b=>hv (j+1) t' v' (by simpa using a) (by simpa using b)) λn hn=>hw n (by rw [DataW.weightsEach,List.mem_append];exact .inr hn);refine⟨p::ps,⟨p,ps,rfl,k1,k3⟩,by simp [k4],λi p' v' a b=>?_⟩
  match i with
  |0=>cases a;cases b;exact k2
  |i+1=>exact k5 i p' v' (by simpa using a) (by simpa using b)
theorem iW (hl:laidOutB P=true) {w':World} (hb:Below w.heap.size w w'):∀{ts:List TypeId} {vs:List Value} {ds:List (DataW H)} {q:List MemPlace},(∀t∈ts,P.readableRec t=true/\t < P.types.size) ->
  DataW.TrodAll enc P w 0 (λ_=>true) true ts vs ds q->(∀x∈q,x.block < w.heap.size)->DataW.TrodAll enc P w' 0 (λb=>decide (b < w.heap.size)) true ts vs ds q
 |[],[],[],_,_,h,_=>h
 |[],[],_::_,_,_,h,_=>h.elim
 |[],_::_,_,_,_,h,_=>h.elim
 |_::_,[],_,_,_,h,_=>h.elim
 |_::_,_::_,[],_,_,h,_=>h.elim
 |t::ts,v::vs,y::ds,q,hp,h,hq=>by
  obtain⟨q1,q2,h1,h2,rfl⟩:=h;exact⟨q1,q2,Below.trod hl (hp t List.mem_cons_self).1 (hp t List.mem_cons_self).2 h1 hb λx hx=>hq x (List.mem_append.2 (.inl hx)),
   iW hl hb (λt ht=>hp t (List.mem_cons_of_mem _ ht)) h2 λx hx=>hq x (List.mem_append.2 (.inr hx)),rfl⟩
theorem pV (hl:laidOutB P=true) {f:FuncId} {fn:Func} {s:ChangeSpec} {d tb:Nat} {c:List PV->Option Ans} (hv:s.vars=[]) (hs:∀ds:List (DataW H),ds.length=fn.params.size->s.fn H ds={ results:=[.lit (.bool true)],args:=ds })
  (hr:fn.resultTypes = #[tb]) (ht:P.underlying tb=some .bool) (hp:(fn.params.toList.all λt=>fV P d t&&P.readableRec t&&decide (t < P.types.size))=true) (hc:FnOk P f c)
  (hd:∀ps,pU P d fn.params.toList ps->∃pre,c ps=some ⟨pre,.val (.bool true),[]⟩/\Met pre)
  (W:World) (base:Nat) (args:Array Value) (ds gs:List (DataW H)) (before:List MemPlace)
  (hval:∀(j:Nat) t v,fn.params[j]? = some t->args[j]? = some v->Value.okWide P W .any base t v)
  (hW:DataW.Whole enc P fn.params.toList s.vars false W args.toList ds gs before)
  (hsz:(DataW.weightsEach P (fn.params.toList++s.plain.varTypes P) (ds++gs)).all (·<=reachBytes)=true) :
  Calls P f args W λe W'=>∃v,e=.returned v/\s.post enc P fn false true false false W args v W':=by
 have hW':=hW;obtain⟨p,q,hA,hV,rfl,hfz,hnd⟩:=hW;rw [hv] at hV;obtain⟨rfl,rfl⟩:=ChangeShapes.trodVars_none hV;have hp':∀t∈fn.params.toList,fV P d t=true/\P.readableRec t=true/\t < P.types.size:=λt h=>by
  have:=List.all_eq_true.1 hp t h;simp only [Bool.and_eq_true,decide_eq_true_eq] at this;exact⟨this.1.1,this.1.2,this.2⟩
 have hvt:s.plain.varTypes P=[]:=by
  unfold DataSpec.varTypes ChangeSpec.plain;rw [hv];rfl
 rw [hvt,List.append_nil,List.append_nil] at hsz;obtain⟨ps,h1,h2,h3⟩:=k7 (A:=λk=>k < W.heap.size) (λk h=>h) (λt h=>(hp' t h).1) hA (λj t v a b=>hval j t v (by rw [<-Array.getElem?_toList];exact a) (by rw [<-Array.getElem?_toList];exact b)) λn hn=>by simpa using List.all_eq_true.1 hsz n hn
 obtain⟨pre,h4,h5⟩:=hd ps h1;have hlt:=hW'.lt;rw [List.append_nil] at hlt;refine((hc ps _ h4).2 h5 (λk=>k < W.heap.size) W args (λk h=>h) (by simpa using h2) λi p v a b=>h3 i p v a (by rw [Array.getElem?_toList];exact b)).mono λe W' ⟨v,β,he,hres⟩=>?_;refine⟨v,he,?_⟩;have hv':v=.bool true:=hres.val.val_eq;subst hv';have hdl:ds.length=fn.params.size:=by
  have:∀{ts:List TypeId} {vs:List Value} {ds:List (DataW H)} {q:List MemPlace},DataW.TrodAll enc P W 0 (λ_=>true) true ts vs ds q->ds.length=ts.length:=λ{ts}=>by
   induction ts with
   |nil =>
    intro vs ds q h
    match vs,ds,h with
    |[],[],_=>rfl
   |cons t ts ih =>
    intro vs ds q h
    match vs,ds,h with
    |v::vs,y::ds,h =>
     obtain⟨_,_,_,h2,_⟩:=h;rw [List.length_cons,List.length_cons,ih h2]
  rw [this hA];simp
 have hb:=hres.below;refine⟨ds,[],p++[],[],p,[],hW',?_,?_,?_,hb.frame _,λh=>by cases h⟩
 ·rw [hs (ds++[]) (by rw [List.append_nil];exact hdl),hr];exact⟨[],[],⟨1,by simp [DataW.trod,Value.cells,ht]⟩,rfl,rfl⟩
 ·rw [hs (ds++[]) (by rw [List.append_nil];exact hdl),List.append_nil];exact iW hl hb (λt h=>(hp' t h).2) hA hlt
 ·rw [hv,hs (ds++[]) (by rw [List.append_nil];exact hdl)];rfl
end
end Go.Ex
namespace Go.Proofs
theorem Bc:Tryz.prog.cellsOf 25=6:=by kernel_rfl
theorem lK {d t:Nat} {k:IntKind} {ps:List PV} (ht:Tryz.prog.underlying t=some (.int k)) (h:lJ Tryz.prog d t ps):∃z,ps=[.val (.int k z)]/\k.min<=z/\z<=k.max:=by
 match d,h with
 |d+1,h =>
  unfold lJ at h;rw [ht] at h;obtain⟨z,rfl,hz⟩:=h;unfold Lit.wf at hz;simp only [Bool.and_eq_true,decide_eq_true_eq] at hz;exact⟨z,rfl,hz⟩
theorem mU {d t:Nat} {ps:List PV} (ht:Tryz.prog.underlying t=some .string) (h:lJ Tryz.prog d t ps):∃s:ByteArray,ps=[.val (.string s)]/\s.size<=140737488355328:=by
 match d,h with
 |d+1,h =>
  unfold lJ at h;rw [ht] at h;exact h
theorem zk {d t:Nat} {ps:List PV} (ht:Tryz.prog.underlying t=some .bool) (h:lJ Tryz.prog d t ps):∃b,ps=[.val (.bool b)]:=by
 match d,h with
 |d+1,h =>
  unfold lJ at h;rw [ht] at h;exact h
theorem fF {d t:Nat} {fs:Array Field} {ps:List PV} (ht:Tryz.prog.underlying t=some (.struct fs)) (h:lJ Tryz.prog d t ps):vI (lJ Tryz.prog (d - 1)) fs.toList ps:=by
 match d,h with
 |d+1,h =>
  unfold lJ at h;rw [ht] at h;exact h
theorem kG {d t e:Nat} {ps:List PV} (ht:Tryz.prog.underlying t=some (.slice e)) (h:lJ Tryz.prog d t ps):∃m g,ps=[.rs (Tryz.prog.cellsOf e) m g]/\m<=140737488355328/\∀i,i < m->lJ Tryz.prog (d - 1) e (g i):=by
 match d,h with
 |d+1,h =>
  unfold lJ at h;rw [ht] at h;exact h
theorem vK {d:Nat} {ps:List PV} (h:lJ Tryz.prog d 23 ps):∃r:RatS,ps=r.cells/\r.le 140737488355328:=by
 obtain⟨q1,r1,rfl,h1,q2,r2,rfl,h2,q3,r3,rfl,h3,rfl⟩:=fF Tryz.underlying23 h;obtain⟨s,rfl⟩:=zk Tryz.underlying4 h1;obtain⟨b,rfl,hb⟩:=mU Tryz.underlying9 h2;obtain⟨c,rfl,hc⟩:=mU Tryz.underlying9 h3;exact⟨⟨s,b,c⟩,rfl,hb,hc⟩
theorem pW {d:Nat} {ps:List PV} (h:lJ Tryz.prog d 25 ps):∃p:PtS,ps=p.cells/\p.le 140737488355328:=by
 obtain⟨q1,r1,rfl,h1,q2,r2,rfl,h2,rfl⟩:=fF Tryz.underlying25 h;obtain⟨x,rfl,hx⟩:=vK h1;obtain⟨y,rfl,hy⟩:=vK h2;exact⟨⟨x,y⟩,rfl,hx,hy⟩
theorem Be {d:Nat} {ps:List PV} (h:lJ Tryz.prog d 34 ps):∃n g,ps=[.rs 6 n g]/\isPL 140737488355328 n g:=by
 obtain⟨n,g,rfl,hn,hg⟩:=kG Tryz.underlying34 h;rw [Bc];refine⟨n,g,rfl,λi hi=>?_,hn⟩;obtain⟨p,hp,hl⟩:=pW (hg i hi);unfold ab;rw [hp];exact⟨rfl,hl⟩
theorem zl {d:Nat} {p:PV} (h:pT Tryz.prog d 5 p):∃z,p=.val (.int .u8 z)/\0<=z/\z < 256:=by
 unfold pT at h;rw [Tryz.underlying5] at h;obtain⟨z,e,h1,h2⟩:=lK Tryz.underlying5 h;cases e;have h1:(0:Int)<=z:=h1;have h2:z<=255:=h2;exact⟨z,rfl,h1,by omega⟩
theorem vO {d:Nat} {p:PV} (h:pT Tryz.prog d 25 p):∃q:PtS,p=.val q.v/\q.le 140737488355328:=by
 unfold pT at h;rw [Tryz.underlying25] at h;obtain⟨xs,rfl,h⟩:=h;obtain⟨q,rfl,hq⟩:=pW h;exact⟨q,rfl,hq⟩
theorem Bf:Tryz.prog.cellsOf 34=1:=by kernel_rfl
theorem Bg:Tryz.prog.cellsOf 63=3:=by kernel_rfl
theorem uo {d:Nat} {p:PV} (h:pT Tryz.prog d 31 p):∃(lo hi:PtS) (k:Nat) (c:Nat->List PV) (l:Nat) (o:Nat->List PV),p=.agg [.val (.bool lo.x.s),.val (.string lo.x.b),.val (.string lo.x.c),.val (.bool lo.y.s),.val (.string lo.y.b),.val (.string lo.y.c),.val (.bool hi.x.s),.val (.string hi.x.b),.val (.string hi.x.c),.val (.bool hi.y.s),.val (.string hi.y.b),.val (.string hi.y.c),.rs 1 k c,.rs 3 l o] /\
  (lo.le 140737488355328/\hi.le 140737488355328)/\bU 140737488355328 k c/\cX l o:=by
 unfold pT at h;rw [Tryz.underlying31] at h;obtain⟨xs,rfl,h⟩:=h;obtain⟨q1,r1,rfl,h1,q2,r2,rfl,h2,q3,r3,rfl,h3,rfl⟩:=fF Tryz.underlying31 h;obtain⟨s1,u1,rfl,g1,s2,u2,rfl,g2,rfl⟩:=fF Tryz.underlying27 h1;obtain⟨lo,rfl,hlo⟩:=pW g1;obtain⟨hi,rfl,hhi⟩:=pW g2;obtain⟨k,c,rfl,hk,hc⟩:=kG Tryz.underlying28 h2;obtain⟨l,o,rfl,hl,ho⟩:=kG Tryz.underlying29 h3;rw [Bf,Bg];refine⟨lo,hi,k,c,l,o,rfl,⟨hlo,hhi⟩,⟨λi hi=>?_,hk⟩,λi hi=>?_,hl⟩
 ·obtain⟨n,g,e,hg⟩:=Be (hc i hi);unfold pn pg;rw [e];exact⟨rfl,hg⟩
 ·obtain⟨q1,r1,e,h1,q2,r2,rfl,h2,q3,r3,rfl,h3,rfl⟩:=fF Tryz.underlying63 (ho i hi);obtain⟨x,rfl,_⟩:=lK Tryz.underlying3 h1;obtain⟨y,rfl,_⟩:=lK Tryz.underlying3 h2;obtain⟨z,rfl,_⟩:=lK Tryz.underlying3 h3;unfold ow;rw [e];rfl
end Go.Proofs
namespace Go.Proofs.YtpfdckeipckldaaGreat
open Go.RowKit
theorem own:ownKnob Tryz.prog.godebug=none:=by kernel_rfl
theorem Bh:laidOutB Tryz.prog=true:=by kernel_rfl
theorem xo (ps:List PV) (h:pU Tryz.prog 8 [31,25,25,5,5] ps):∃pre,Jc ps=some ⟨pre,.val (.bool true),[]⟩/\Go.Ex.Met pre:=by
 obtain⟨p1,q1,rfl,h1,p2,q2,rfl,h2,p3,q3,rfl,h3,p4,q4,rfl,h4,p5,q5,rfl,h5,rfl⟩:=h;obtain⟨lo,hi,k,c,l,o,rfl,hb,hc,ho⟩:=uo h1;obtain⟨a,rfl,ha⟩:=vO h2;obtain⟨b,rfl,hb'⟩:=vO h3;obtain⟨m,rfl,hm⟩:=zl h4;obtain⟨m2,rfl,hm2⟩:=zl h5;exact⟨_,rfl,λq e=>by cases e;exact⟨hb,hc,ho,⟨a,rfl,ha⟩,⟨b,rfl,hb'⟩,hm,hm2⟩⟩
theorem pX (os:Os) (started:os.Started) (H:Type) (enc:TypeId×Value->H) :
  ReturnsInHanded {} Tryz.checked os 11 .any (Rows.roadmapLinksSpec.pre6 enc Tryz.prog Tryz.f11 Rows.roadmapLinksRow.domain false) (Rows.roadmapLinksSpec.post enc Tryz.prog Tryz.f11 false true false false):=by
 refine returnsInHanded_of_change_sized (C:=Tryz.checked) own started (by kernel_rfl) Tryz.func11
  (ChangeSpec.witness6 (enc:=enc) (C:=Tryz.checked) false ⟨#[],#[.agg #[.bool false,.string ⟨#[]⟩,.string ⟨#[]⟩,.bool false,.string ⟨#[]⟩,.string ⟨#[]⟩,.bool false,.string ⟨#[]⟩,.string ⟨#[]⟩,.bool false,.string ⟨#[]⟩,.string ⟨#[]⟩,.slice none 0 0,.slice none 0 0],.agg #[.bool false,.string ⟨#[]⟩,.string ⟨#[]⟩,.bool false,.string ⟨#[]⟩,.string ⟨#[]⟩],.agg #[.bool false,.string ⟨#[]⟩,.string ⟨#[]⟩,.bool false,.string ⟨#[]⟩,.string ⟨#[]⟩],.int .u8 0,.int .u8 0],[]⟩ 8 (by kernel_rfl) (by kernel_rfl) (by kernel_rfl) (by kernel_rfl)) ?_
 intro W base args ds gs before hval hW _ hsz _;exact pV (P:=Tryz.prog) (fn:=Tryz.f11) (d:=8) (tb:=4) (s:=Rows.roadmapLinksSpec) Bh rfl (λds hd=>by
  match ds,hd with
  |[d1,d2,d3,d4,d5],_=>rfl) rfl Tryz.underlying4 (by kernel_rfl) f11 (λps h=>xo ps h) W base args ds gs before hval hW hsz
theorem links_holds:Rows.RoadmapLinksSaid :=
 OpenClaim.holds_of_wide 11 Tryz.f11 rfl rfl rfl rfl rfl rfl rfl ⟨rfl,rfl,rfl,rfl,rfl⟩ rfl rfl rfl rfl rfl (by kernel_rfl) Tryz.func11 (by kernel_rfl)
  (of_decide_eq_true (by kernel_rfl)) (by unfold Func.isWrapper;rw [if_neg (of_decide_eq_false (by kernel_rfl))];exact⟨rfl,rfl⟩)
  (λos started H enc _=>pX os started H enc)
end Go.Proofs.YtpfdckeipckldaaGreat
