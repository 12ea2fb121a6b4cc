import Derived.Test.YtpfdckeipckldaaGreatD
set_option maxHeartbeats 8000000
set_option linter.all false
open Go Go.Ex Go.Num Go.Proofs
set_option maxRecDepth 100000
namespace Go.Num
theorem sy {n:Nat} (k:Nat):decide (((n:Nat):Int) > (k:Int))=decide (k < n):=by
 rw [decide_eq_decide];omega
theorem Jg {n:Nat} (k:Nat):decide (((n:Nat):Int) < (k:Int))=decide (n < k):=by
 rw [decide_eq_decide];omega
def iQ (n:Nat) (p:Nat->PtS):Bool:=(decide (10 < n)&&decide (n < 63)||decide (66 < n))||aA (λi=>bt (p i)) n
def mK (lo hi:PtS) (k:Nat) (n:Nat->Nat) (p:Nat->Nat->PtS) (l:Nat):Bool:=(bt lo||bt hi||decide (40 < l))||aA (λi=>iQ (n i) (p i)) k||(decide (k<=32)&&(decide (6 < k)||decide (24 < b9 n k))||decide (35 < k))
theorem vm {n:Nat} {p:Nat->PtS} (h:iQ n p=false):n<=66:=by
 unfold iQ at h;simp only [Bool.or_eq_false_iff,decide_eq_false_iff_not] at h;omega
end Go.Num
namespace Go.Proofs
def GT:List PV->Option Ans
 |[.val v]=>some ⟨some (isPk 140737488355328 v),.val (.bool (bt (aN v))),[]⟩
 |_=>none
def D86:Opt:={  }
theorem Ij:am D86.toOrd Tryz.f86 1=true:=by kernel_rfl
theorem f86:FnOk Tryz.prog 86 GT:=by
 refine FnOk.ofW aj (an (l:=[]) (own:=[]) (inl:=[]) (by simp []) (by simp)) Tryz.func86 D86 1 Ij λargs r e=>?_;unfold GT at e;split at e
 ·rename_i v
  cases e;refine⟨by simp,λhm=>?_⟩;obtain⟨p,rfl,hp⟩:=hm _ rfl;refine⟨[],aa [(0,.val p.v)] [] 0 [],Wo trivial ⟨rfl,qQ⟩ trivial,?_⟩;obtain⟨X,hX⟩:∃X,X=bt p:=⟨_,rfl⟩;have hx:bt (aN p.v)=X:=hX.symm;rw [hx];have e:X=((decide ((((p.x.b).size:Nat):Int) > 12)||decide ((((p.x.c).size:Nat):Int) > 12))||(decide ((((p.y.b).size:Nat):Int) > 12)||decide ((((p.y.c).size:Nat):Int) > 12))):=by rw [hX,bt,na,na,<-sy 12,<-sy 12,<-sy 12,<-sy 12];rfl
  have v4:decide ((((p.x.b).size:Nat):Int) > 12)=false->decide ((((p.x.c).size:Nat):Int) > 12)=false->decide ((((p.y.b).size:Nat):Int) > 12)=false->PV.val (.bool (decide ((((p.y.c).size:Nat):Int) > 12)))=PV.val (.bool X):=λh1 h2 h3=>by rw [e,h1,h2,h3];rfl
  have v3:decide ((((p.y.b).size:Nat):Int) > 12)=true->PV.val (.bool true)=PV.val (.bool X):=λh=>by rw [e,h,Bool.true_or,Bool.or_true]
  have v2:decide ((((p.x.c).size:Nat):Int) > 12)=true->PV.val (.bool true)=PV.val (.bool X):=λh=>by rw [e,h,Bool.or_true,Bool.true_or]
  have v1:decide ((((p.x.b).size:Nat):Int) > 12)=true->PV.val (.bool true)=PV.val (.bool X):=λh=>by rw [e,h,Bool.true_or,Bool.true_or]
  with_unfolding_all exact⟨λh1=>⟨λh2=>⟨λh3=>⟨[],aa [(2,.val (.bool X))] [] 0 [],Wo trivial ⟨v4 h1 h2 h3,qQ⟩ trivial,rfl,rfl⟩,λh3=>⟨[],aa [(2,.val (.bool X))] [] 0 [],Wo trivial ⟨v3 h3,qQ⟩ trivial,rfl,rfl⟩⟩,λh2=>⟨λh=>(nomatch h),λ_=>⟨[],aa [(2,.val (.bool X))] [] 0 [],Wo trivial ⟨v2 h2,qQ⟩ trivial,rfl,rfl⟩⟩⟩,λh1=>⟨λh=>(nomatch h),λ_=>⟨λh=>(nomatch h),λ_=>⟨[],aa [(2,.val (.bool X))] [] 0 [],Wo trivial ⟨v1 h1,qQ⟩ trivial,rfl,rfl⟩⟩⟩⟩
 ·cases e
def Ik:List PV->Option Ans
 |[.rs 6 n g]=>some ⟨some (isPL 140737488355328 n g),.val (.bool (iQ n (ab g))),[]⟩
 |_=>none
def D87:Opt:={  }
theorem Il:am D87.toOrd Tryz.f87 1=true:=by kernel_rfl
theorem f87:FnOk Tryz.prog 87 Ik:=by
 refine FnOk.ofW aj (an (l:=[(86,GT)]) (own:=[]) (inl:=[]) (by simp [f86]) (by simp)) Tryz.func87 D87 1 Il λargs r e=>?_;unfold Ik at e;split at e
 ·rename_i n g
  cases e;refine⟨by simp,λhm=>?_⟩;obtain⟨hg,hn⟩:=hm _ rfl;refine⟨[],aa [(0,.rs 6 n (λi=>(ab g i).cells))] [] 0 [],Wo trivial ⟨⟨rfl,rfl,λi hi=>(hg i hi).1.symm⟩,qQ⟩ trivial,?_⟩;obtain⟨X,hX⟩:∃X,X=iQ n (ab g):=⟨_,rfl⟩;rw [<-hX];have e:X=((decide ((n:Int) > 10)&&decide ((n:Int) < 63)||decide ((n:Int) > 66))||aA (λi=>bt (ab g i)) n):=by rw [hX,iQ,<-sy 10,<-sy 66,<-Jg 63];rfl
  have z:∀a b c:Bool,(a&&b||c)=true->(a&&b||c||aA (λi=>bt (ab g i)) n)=true:=λa b c h=>by rw [h];rfl
  have v1:∀c:Bool,c=(decide ((n:Int) > 10)&&decide ((n:Int) < 63)||decide ((n:Int) > 66))->c=true->PV.val (.bool true)=PV.val (.bool X):=λc h h'=>by rw [e,<-h,h'];rfl
  have m1:decide ((n:Int) > 10)=true->decide ((n:Int) < 63)=false->decide ((n:Int) > 66)=true->(decide ((n:Int) > 10)&&decide ((n:Int) < 63)||decide ((n:Int) > 66))=true:=λa b c=>by rw [c,Bool.or_true]
  have m2:decide ((n:Int) > 10)=true->decide ((n:Int) < 63)=true->(decide ((n:Int) > 10)&&decide ((n:Int) < 63)||decide ((n:Int) > 66))=true:=λa b=>by rw [a,b];rfl
  have m3:decide ((n:Int) > 66)=true->(decide ((n:Int) > 10)&&decide ((n:Int) < 63)||decide ((n:Int) > 66))=true:=λa=>by rw [a,Bool.or_true]
  have m4:decide ((n:Int) < 63)=false->decide ((n:Int) > 66)=false->(decide ((n:Int) > 10)&&decide ((n:Int) < 63)||decide ((n:Int) > 66))=false:=λa b=>by rw [a,b,Bool.and_false];rfl
  have m5:decide ((n:Int) > 10)=false->decide ((n:Int) > 66)=false->(decide ((n:Int) > 10)&&decide ((n:Int) < 63)||decide ((n:Int) > 66))=false:=λa b=>by rw [a,b];rfl
  have v2:(decide ((n:Int) > 10)&&decide ((n:Int) < 63)||decide ((n:Int) > 66))=true->PV.val (.bool true)=PV.val (.bool X):=λh=>by rw [e,h];rfl
  have rT:∀i:Nat,(i:Int) < n->bt (ab g (i:Int).toNat)=true->PV.val (.bool true)=PV.val (.bool X):=λi hi h=>by
   rw [Int.toNat_natCast] at h;rw [e,bc.2 ⟨i,by omega,h⟩,Bool.or_true]
  have rN:∀i:Nat,(∀j,j < i->bt (ab g j)=false)->bt (ab g (i:Int).toNat)=false->∀j,j < i+1->bt (ab g j)=false:=λi hI h j hj=>by
   rw [Int.toNat_natCast] at h;rcases Nat.lt_or_ge j i with h' | h'
   ·exact hI j h'
   ·obtain rfl:j=i:=by omega
    exact h
  have rF:∀i:Nat,(decide ((n:Int) > 10)&&decide ((n:Int) < 63)||decide ((n:Int) > 66))=false->(∀j,j < i->bt (ab g j)=false)->(n:Int)<=i->PV.val (.bool false)=PV.val (.bool X):=λi h hI hi=>by
   rw [e,h,aF.2 λj hj=>hI j (by omega)];rfl
  have wi:∀i:Nat,(i:Int) < n->PV.val (.int .i64 (IntKind.i64.wrap ((i:Int)+1)))=PV.val (.int .i64 ((i+1:Nat):Int)):=λi h=>by
   rw [wrap64 (by omega) (by omega)];rfl
  have pk:∀i:Nat,(i:Int) < n->isPk 140737488355328 (ab g (i:Int).toNat).v:=λi h=>⟨_,rfl,(hg (i:Int).toNat (by omega)).2⟩;have mu:∀i:Nat,(i:Int) < n->n - (i+1) < n - i:=λi h=>by omega
  have le:∀i:Nat,(i:Int) < n->i+1<=n:=λi h=>by omega
  with_unfolding_all exact⟨λh1=>⟨λh2=>⟨λh3=>⟨[],aa [(2,.val (.bool X))] [] 0 [],Wo trivial ⟨v2 (m1 h1 h2 h3),qQ⟩ trivial,rfl,rfl⟩,λh3=>⟨Nat,λi=>(decide ((n:Int) > 10)&&decide ((n:Int) < 63)||decide ((n:Int) > 66))=false/\i<=n/\∀j,j < i->bt (ab g j)=false,λi=>aa [(0,.rs 6 n (λi=>(ab g i).cells)),(3,.val (goInt i))] [] 0 [],λi=>n - i,⟨0,[],⟨m4 h2 h3,Nat.zero_le _,λj hj=>absurd hj (Nat.not_lt_zero j)⟩,Wo trivial ⟨qW,rfl,qQ⟩ trivial⟩,λi hi=>⟨λh1=>⟨⟨Int.natCast_nonneg i,bL h1⟩,pk i (bL h1),λh2=>⟨[],aa [(2,.val (.bool X))] [] 0 [],Wo trivial ⟨rT i (bL h1) h2,qQ⟩ trivial,rfl,rfl⟩,λh2=>⟨i+1,[],⟨hi.1,le i (bL h1),rN i hi.2.2 h2⟩,mu i (bL h1),Wo trivial ⟨qW,wi i (bL h1),qQ⟩ trivial⟩⟩,λh1=>⟨[],aa [(2,.val (.bool X))] [] 0 [],Wo trivial ⟨rF i hi.1 hi.2.2 (dI h1),qQ⟩ trivial,rfl,rfl⟩⟩⟩⟩,λh2=>⟨λ_=>⟨[],aa [(2,.val (.bool X))] [] 0 [],Wo trivial ⟨v2 (m2 h1 h2),qQ⟩ trivial,rfl,rfl⟩,λh=>(nomatch h)⟩⟩,λh1=>⟨λ_=>⟨λh3=>⟨[],aa [(2,.val (.bool X))] [] 0 [],Wo trivial ⟨v2 (m3 h3),qQ⟩ trivial,rfl,rfl⟩,λh3=>⟨Nat,λi=>(decide ((n:Int) > 10)&&decide ((n:Int) < 63)||decide ((n:Int) > 66))=false/\i<=n/\∀j,j < i->bt (ab g j)=false,λi=>aa [(0,.rs 6 n (λi=>(ab g i).cells)),(3,.val (goInt i))] [] 0 [],λi=>n - i,⟨0,[],⟨m5 h1 h3,Nat.zero_le _,λj hj=>absurd hj (Nat.not_lt_zero j)⟩,Wo trivial ⟨qW,rfl,qQ⟩ trivial⟩,λi hi=>⟨λh1=>⟨⟨Int.natCast_nonneg i,bL h1⟩,pk i (bL h1),λh2=>⟨[],aa [(2,.val (.bool X))] [] 0 [],Wo trivial ⟨rT i (bL h1) h2,qQ⟩ trivial,rfl,rfl⟩,λh2=>⟨i+1,[],⟨hi.1,le i (bL h1),rN i hi.2.2 h2⟩,mu i (bL h1),Wo trivial ⟨qW,wi i (bL h1),qQ⟩ trivial⟩⟩,λh1=>⟨[],aa [(2,.val (.bool X))] [] 0 [],Wo trivial ⟨rF i hi.1 hi.2.2 (dI h1),qQ⟩ trivial,rfl,rfl⟩⟩⟩⟩,λh=>(nomatch h)⟩⟩
 ·cases e
def Im:List PV->Option Ans
 |[.agg xs]=>some ⟨some (isRg 140737488355328 xs),.val (.bool (mK (bV xs) (bW xs) (gK xs) (pn (gC xs)) (λi=>ab (pg (gC xs) i)) (gL xs))),[]⟩
 |_=>none
def D50:Opt:={  }
theorem In:am D50.toOrd Tryz.f50 1=true:=by kernel_rfl
theorem f50:FnOk Tryz.prog 50 Im:=by
 refine FnOk.ofW aj (an (l:=[(86,GT),(87,Ik)]) (own:=[]) (inl:=[]) (by simp [f86,f87]) (by simp)) Tryz.func50 D50 1 In λargs r e=>?_;unfold Im at e;split at e
 ·rename_i xs
  cases e;refine⟨by simp,λhm=>?_⟩;obtain⟨h1,⟨hlo,hhi⟩,hcl,hol⟩:=hm _ rfl;generalize bV xs=lo at *
  generalize bW xs=hi at *
  generalize gK xs=k at *
  generalize gC xs=c at *
  generalize gL xs=l at *
  generalize gO xs=o at *
  subst h1;clear hm;refine⟨[],aa [(0,.agg (br lo hi k c l o))] [] 0 [],Wo trivial ⟨⟨rfl,rfl,rfl,rfl,rfl,rfl,rfl,rfl,rfl,rfl,rfl,rfl,qW,qW,qQ⟩,qQ⟩ trivial,?_⟩;obtain⟨X,hX⟩:∃X,X=mK lo hi k (pn c) (λi=>ab (pg c i)) l:=⟨_,rfl⟩;rw [<-hX];have e:X=(((bt lo||bt hi)||decide ((l:Int) > 40))||aA (λi=>iQ (pn c i) (ab (pg c i))) k||(decide (k<=32)&&(decide (6 < k)||decide (24 < b9 (pn c) k))||decide (35 < k))):=by rw [hX,mK,<-sy 40];rfl
  have v1:∀A B C:Bool,((A||B)||C)=((bt lo||bt hi)||decide ((l:Int) > 40))->((A||B)||C)=true->PV.val (.bool true)=PV.val (.bool X):=λA B C h h'=>by rw [e,<-h,h',Bool.true_or,Bool.true_or]
  have t1:bt lo=true->((bt lo||bt hi)||decide ((l:Int) > 40))=true:=λh=>by rw [h];rfl
  have t2:bt hi=true->((bt lo||bt hi)||decide ((l:Int) > 40))=true:=λh=>by rw [h,Bool.or_true];rfl
  have t3:decide ((l:Int) > 40)=true->((bt lo||bt hi)||decide ((l:Int) > 40))=true:=λh=>by rw [h,Bool.or_true]
  have t4:bt lo=false->bt hi=false->decide ((l:Int) > 40)=false->((bt lo||bt hi)||decide ((l:Int) > 40))=false:=λh h' h2=>by rw [h,h',h2];rfl
  have v0:((bt lo||bt hi)||decide ((l:Int) > 40))=true->PV.val (.bool true)=PV.val (.bool X):=λh=>by rw [e,h,Bool.true_or,Bool.true_or]
  have pl:isPk 140737488355328 lo.v:=⟨_,rfl,hlo⟩;have ph:isPk 140737488355328 hi.v:=⟨_,rfl,hhi⟩;have hk47:k<=140737488355328:=hcl.2;with_unfolding_all refine⟨pl,λh1=>⟨ph,λh2=>⟨λh3=>⟨[],aa [(2,.val (.bool X))] [] 0 [],Wo trivial ⟨v0 (t3 h3),qQ⟩ trivial,rfl,rfl⟩,λh3=>⟨Nat,λi=>((bt lo||bt hi)||decide ((l:Int) > 40))=false/\i<=k/\∀j,j < i->iQ (pn c j) (ab (pg c j))=false,λi=>aa [(1,.ptr 0 0 0 0),(3,.val (goInt (b9 (pn c) i))),(4,.val (goInt i))] [⟨31,14,0,true,false,1,λ_=>br lo hi k c l o⟩] 1 [],λi=>k - i,⟨0,[some 0],⟨t4 h1 h2 h3,Nat.zero_le _,λj hj=>absurd hj (Nat.not_lt_zero j)⟩,Wo ⟨qZ ⟨rq,rq,rq,rq,rq,rq,rq,rq,rq,rq,rq,rq,⟨qW,rfl⟩,⟨qW,rfl⟩,qQ⟩,qQ⟩ ⟨pP,rfl,rfl,qQ⟩ trivial⟩,λi hI0=>?_⟩⟩,λh2=>⟨λ_=>⟨[],aa [(2,.val (.bool X))] [] 0 [],Wo trivial ⟨v0 (t2 h2),qQ⟩ trivial,rfl,rfl⟩,λh=>(nomatch h)⟩⟩,λh1=>⟨λh=>(nomatch h),λ_=>⟨λ_=>⟨[],aa [(2,.val (.bool X))] [] 0 [],Wo trivial ⟨v0 (t1 h1),qQ⟩ trivial,rfl,rfl⟩,λh=>(nomatch h)⟩⟩⟩
  obtain⟨ha,hik,hI⟩:((bt lo||bt hi)||decide ((l:Int) > 40))=false/\i<=k/\∀j,j < i->iQ (pn c j) (ab (pg c j))=false:=hI0;have hsum:∀j,j<=i->b9 (pn c) j<=66*j:=λj=>by
   induction j with
   |zero=>intro _;exact Nat.le_refl _
   |succ j ih =>
    intro hj;have h1:=ih (by omega);have h2:=vm (hI j (by omega));unfold b9;omega
  have hs:=hsum i (Nat.le_refl _);have e1:decide (k<=32)=decide ((k:Int)<=32):=by
   rw [decide_eq_decide];omega
  have e':i=k->X=(aA (λi=>iQ (pn c i) (ab (pg c i))) k||(decide ((k:Int)<=32)&&(decide ((k:Int) > 6)||decide (((b9 (pn c) i:Nat):Int) > 24))||decide ((k:Int) > 35))):=λh=>by rw [e,ha,Bool.false_or,e1,<-sy 6,<-sy 35,<-sy 24,h];rfl
  have af:i=k->aA (λi=>iQ (pn c i) (ab (pg c i))) k=false:=λh=>aF.2 λj hj=>hI j (by omega);have x1:(k:Int)<=i->decide ((k:Int)<=32)=true->decide ((k:Int) > 6)=false->decide (((b9 (pn c) i:Nat):Int) > 24)=false->PV.val (.bool (decide ((k:Int) > 35)))=PV.val (.bool X):=λh a b d=>by
   have hk:i=k:=by omega
   rw [e' hk,af hk,a,b,d];rfl
  have x2:(k:Int)<=i->decide ((k:Int)<=32)=true->decide ((k:Int) > 6)=false->decide (((b9 (pn c) i:Nat):Int) > 24)=true->PV.val (.bool true)=PV.val (.bool X):=λh a b d=>by
   have hk:i=k:=by omega
   rw [e' hk,a,d,Bool.or_true,Bool.true_and,Bool.true_or,Bool.or_true]
  have x3:(k:Int)<=i->decide ((k:Int)<=32)=true->decide ((k:Int) > 6)=true->PV.val (.bool true)=PV.val (.bool X):=λh a b=>by
   have hk:i=k:=by omega
   rw [e' hk,a,b,Bool.true_or,Bool.true_and,Bool.true_or,Bool.or_true]
  have x4:(k:Int)<=i->decide ((k:Int)<=32)=false->PV.val (.bool (decide ((k:Int) > 35)))=PV.val (.bool X):=λh a=>by
   have hk:i=k:=by omega
   rw [e' hk,af hk,a];rfl
  have ei:(i:Int).toNat=i:=Int.toNat_natCast i;have rT:(i:Int) < k->iQ (pn c (i:Int).toNat) (ab (pg c (i:Int).toNat))=true->PV.val (.bool true)=PV.val (.bool X):=λhi1 h=>by
   rw [ei] at h;rw [e,bc.2 ⟨i,by omega,h⟩,Bool.or_true,Bool.true_or]
  have rN:iQ (pn c (i:Int).toNat) (ab (pg c (i:Int).toNat))=false->∀j,j < i+1->iQ (pn c j) (ab (pg c j))=false:=λh j hj=>by
   rw [ei] at h;rcases Nat.lt_or_ge j i with h' | h'
   ·exact hI j h'
   ·obtain rfl:j=i:=by omega
    exact h
  have wi:(i:Int) < k->PV.val (.int .i64 (IntKind.i64.wrap ((i:Int)+1)))=PV.val (.int .i64 ((i+1:Nat):Int)):=λh=>by
   rw [wrap64 (by omega) (by omega)];rfl
  have ws:iQ (pn c (i:Int).toNat) (ab (pg c (i:Int).toNat))=false->PV.val (.int .i64 (IntKind.i64.wrap (((b9 (pn c) i:Nat):Int)+((pn c (i:Int).toNat:Nat):Int))))=PV.val (goInt ((b9 (pn c) (i+1):Nat):Int)):=λh=>by
   rw [ei] at h ⊢;have h2:=vm h;rw [wrap64 (by omega) (by omega),b9];rfl
  have pr:(i:Int) < k->isPL 140737488355328 (pn c (i:Int).toNat) (pg c (i:Int).toNat):=λh=>(hcl.1 _ (by omega)).2;have mu:(i:Int) < k->k - (i+1) < k - i:=λh=>by omega
  have le:(i:Int) < k->i+1<=k:=λh=>by omega
  with_unfolding_all exact⟨λh1=>⟨⟨Int.natCast_nonneg i,bL h1⟩,⟨Int.natCast_nonneg i,bL h1⟩,pr (bL h1),λh2=>⟨[],aa [(2,.val (.bool X))] [] 0 [],Wo trivial ⟨rT (bL h1) h2,qQ⟩ trivial,rfl,rfl⟩,λh2=>⟨i+1,[some 0],⟨ha,le (bL h1),rN h2⟩,mu (bL h1),Wo ⟨qZ ⟨rq,rq,rq,rq,rq,rq,rq,rq,rq,rq,rq,rq,⟨qW,rfl⟩,⟨qW,rfl⟩,qQ⟩,qQ⟩ ⟨pP,ws h2,wi (bL h1),qQ⟩ trivial⟩⟩,λh1=>⟨λh2=>⟨λh3=>⟨λh4=>⟨[],aa [(2,.val (.bool X))] [] 0 [],Wo trivial ⟨x1 (dI h1) h2 h3 h4,qQ⟩ trivial,rfl,rfl⟩,λh4=>⟨[],aa [(2,.val (.bool X))] [] 0 [],Wo trivial ⟨x2 (dI h1) h2 h3 h4,qQ⟩ trivial,rfl,rfl⟩⟩,λh3=>⟨λh=>(nomatch h),λ_=>⟨[],aa [(2,.val (.bool X))] [] 0 [],Wo trivial ⟨x3 (dI h1) h2 h3,qQ⟩ trivial,rfl,rfl⟩⟩⟩,λh2=>⟨λ_=>⟨[],aa [(2,.val (.bool X))] [] 0 [],Wo trivial ⟨x4 (dI h1) h2,qQ⟩ trivial,rfl,rfl⟩,λh=>(nomatch h)⟩⟩⟩
 ·cases e
end Go.Proofs
namespace Go.Num
def dR (n:Nat) (p:Nat->PtS) (i:Nat):Bool:=decide (j5 (p i) (p ((i+1)%n)) (p ((i+2)%n))<=0)||decide (0 < i)&&decide (i+1 < n)&&decide (j5 (p 0) (p i) (p (i+1))<=0)
def yN (p:Nat->PtS) (i:Nat):Bool:=decide (cu (p 0) (p (1+i))>=0)
def bH (n:Nat) (p:Nat->PtS):Int:=bif decide (n < 3)||decide (64 < n) then 4 else bif aA (λi=>!ai (p i)) n then 1 else bif aA (yN p) (n - 1) then 8 else bif aA (dR n p) n then 15 else 0
end Go.Num
namespace Go.Proofs
def Io:List PV->Option Ans
 |[.rs 6 n g]=>some ⟨some (isPL 10000 n g),.val (.int .i64 (bH n (ab g))),[]⟩
 |_=>none
def D95:Opt:={  }
theorem Ip:am D95.toOrd Tryz.f95 1=true:=by kernel_rfl
theorem f95:FnOk Tryz.prog 95 Io:=by
 refine FnOk.ofW aj (an (l:=[(130,Db),(98,GS),(131,AO)]) (own:=[]) (inl:=[]) (by simp [f130,f98,f131]) (by simp)) Tryz.func95 D95 1 Ip λargs r e=>?_;unfold Io at e;split at e
 ·rename_i n g
  cases e;refine⟨by simp,λhm=>?_⟩;obtain⟨hg,hn⟩:=hm _ rfl;refine⟨[],aa [(0,.rs 6 n (λi=>(ab g i).cells))] [] 0 [],Wo trivial ⟨⟨rfl,rfl,λi hi=>(hg i hi).1.symm⟩,qQ⟩ trivial,?_⟩;obtain⟨X,hX⟩:∃X,X=bH n (ab g):=⟨_,rfl⟩;rw [<-hX];have e:X=bif decide ((n:Int) < 3)||decide ((n:Int) > 64) then 4 else bif aA (λi=>!ai (ab g i)) n then 1 else bif aA (yN (ab g)) (n - 1) then 8 else bif aA (dR n (ab g)) n then 15 else 0:=by rw [hX,bH,<-sy 64,<-Jg 3];rfl
  have hpl:isPL 4294967296 n (λi=>(ab g i).cells):=⟨λi hi=>⟨rfl,(hg i hi).2.mono (by decide)⟩,hn⟩;have x4:(decide ((n:Int) < 3)||decide ((n:Int) > 64))=true->PV.val (.int .i64 4)=PV.val (.int .i64 X):=λh=>by rw [e,h];rfl
  have t1:decide ((n:Int) < 3)=true->(decide ((n:Int) < 3)||decide ((n:Int) > 64))=true:=λh=>by rw [h];rfl
  have t2:decide ((n:Int) > 64)=true->(decide ((n:Int) < 3)||decide ((n:Int) > 64))=true:=λh=>by rw [h,Bool.or_true]
  have x1:decide ((n:Int) < 3)=false->decide ((n:Int) > 64)=false->(!!aA (λi=>!ai (ab g i)) n)=true->PV.val (.int .i64 1)=PV.val (.int .i64 X):=λh h' k=>by
   rw [Bool.not_not] at k;rw [e,h,h',k];rfl
  have e2:decide ((n:Int) < 3)=false->decide ((n:Int) > 64)=false->(!!aA (λi=>!ai (ab g i)) n)=false->(3<=n/\n<=64)/\X=bif aA (yN (ab g)) (n - 1) then 8 else bif aA (dR n (ab g)) n then 15 else 0:=λh h' k=>by
   rw [Bool.not_not] at k;have h1:=of_decide_eq_false h;have h2:=of_decide_eq_false h';exact⟨by omega,by rw [e,h,h',k];rfl⟩
  with_unfolding_all refine⟨λh1=>⟨λh2=>⟨[],aa [(2,.val (.int .i64 X))] [] 0 [],Wo trivial ⟨x4 (t2 h2),qQ⟩ trivial,rfl,rfl⟩,λh2=>⟨hpl,λh3=>⟨[],aa [(2,.val (.int .i64 X))] [] 0 [],Wo trivial ⟨x1 h1 h2 h3,qQ⟩ trivial,rfl,rfl⟩,λh3=>⟨Nat,λj=>((3<=n/\n<=64)/\X=bif aA (yN (ab g)) (n - 1) then 8 else bif aA (dR n (ab g)) n then 15 else 0)/\j+1<=n/\∀i,i < j->yN (ab g) i=false,λj=>aa [(0,.rs 6 n (λi=>(ab g i).cells)),(3,.val (goInt n)),(4,.val (.int .i64 ((j:Int)+1)))] [] 0 [],λj=>n - j,⟨0,[],⟨e2 h1 h2 h3,by have:=(e2 h1 h2 h3).1;show 0+1<=n;omega,λi hi=>absurd hi (Nat.not_lt_zero i)⟩,Wo trivial ⟨qW,rfl,rfl,qQ⟩ trivial⟩,λj hj=>?_⟩⟩⟩,λh1=>⟨λ_=>⟨[],aa [(2,.val (.int .i64 X))] [] 0 [],Wo trivial ⟨x4 (t1 h1),qQ⟩ trivial,rfl,rfl⟩,λh=>(nomatch h)⟩⟩
  obtain⟨⟨⟨hn3,hn64⟩,hE⟩,hjn,hJ⟩:((3<=n/\n<=64)/\X=bif aA (yN (ab g)) (n - 1) then 8 else bif aA (dR n (ab g)) n then 15 else 0)/\j+1<=n/\∀i,i < j->yN (ab g) i=false:=hj;with_unfolding_all refine⟨λh1=>?_,λh1=>?_⟩
  ·have h1:(j:Int)+1 < n:=bL h1;have ej:((j:Int)+1).toNat=1+j:=by omega
   have hc:decide (cu (ab g 0) (ab g ((j:Int)+1).toNat)>=0)=yN (ab g) j:=by rw [ej];rfl
   have pk0:isPk 1073741824 (ab g 0).v:=⟨_,rfl,(hg 0 (by omega)).2.mono (by decide)⟩;have pkj:isPk 1073741824 (ab g ((j:Int)+1).toNat).v:=⟨_,rfl,(hg _ (by omega)).2.mono (by decide)⟩;have v8:decide (cu (ab g 0) (ab g ((j:Int)+1).toNat)>=0)=true->PV.val (.int .i64 8)=PV.val (.int .i64 X):=λh=>by
    rw [hc] at h;rw [hE,bc.2 ⟨j,by omega,h⟩];rfl
   have nx:decide (cu (ab g 0) (ab g ((j:Int)+1).toNat)>=0)=false->∀i,i < j+1->yN (ab g) i=false:=λh i hi=>by
    rw [hc] at h;rcases Nat.lt_or_ge i j with h' | h'
    ·exact hJ i h'
    ·obtain rfl:i=j:=by omega
     exact h
   have wj:PV.val (.int .i64 (IntKind.i64.wrap ((j:Int)+1+1)))=PV.val (.int .i64 (((j+1:Nat):Int)+1)):=by
    rw [wrap64 (by omega) (by omega)];rfl
   with_unfolding_all exact⟨⟨by omega,by omega⟩,⟨by omega,h1⟩,⟨pk0,pkj⟩,λh2=>⟨[],aa [(2,.val (.int .i64 X))] [] 0 [],Wo trivial ⟨v8 h2,qQ⟩ trivial,rfl,rfl⟩,λh2=>⟨j+1,[],⟨⟨⟨hn3,hn64⟩,hE⟩,by show j+1+1<=n;omega,nx h2⟩,by show n - (j+1) < n - j;omega,Wo trivial ⟨qW,rfl,wj,qQ⟩ trivial⟩⟩
  ·have h1:(n:Int)<=(j:Int)+1:=dI h1;have hE2:X=bif aA (dR n (ab g)) n then 15 else 0:=by
    rw [hE,aF.2 λi hi=>hJ i (by omega)];rfl
   with_unfolding_all refine⟨Nat,λi=>i<=n/\∀j,j < i->dR n (ab g) j=false,λi=>aa [(0,.rs 6 n (λi=>(ab g i).cells)),(3,.val (goInt n)),(5,.val (goInt i))] [] 0 [],λi=>n - i,⟨0,[],⟨Nat.zero_le _,λi hi=>absurd hi (Nat.not_lt_zero i)⟩,Wo trivial ⟨qW,rfl,rfl,qQ⟩ trivial⟩,λi hi=>?_⟩
   obtain⟨hin,hI⟩:i<=n/\∀j,j < i->dR n (ab g) j=false:=hi;with_unfolding_all refine⟨λh2=>?_,λh2=>?_⟩
   ·have h2:(i:Int) < n:=bL h2;have ei:(i:Int).toNat=i:=Int.toNat_natCast i;have wr:∀m:Nat,m<=2->IntKind.i64.wrap ((i:Int)+(m:Int))=((i+m:Nat):Int):=λm hm=>by
     rw [wrap64 (by omega) (by omega),Int.natCast_add]
    have r1:IntKind.i64.wrap ((i:Int)+1)=((i+1:Nat):Int):=wr 1 (by decide);have r2:IntKind.i64.wrap ((i:Int)+2)=((i+2:Nat):Int):=wr 2 (by decide);have q1:((IntKind.i64.wrap ((i:Int)+1)).tmod n)=(((i+1)%n:Nat):Int):=by rw [r1];rfl
    have q2:((IntKind.i64.wrap ((i:Int)+2)).tmod n)=(((i+2)%n:Nat):Int):=by rw [r2];rfl
    have l1:=Nat.mod_lt (i+1) (show 0 < n by omega);have l2:=Nat.mod_lt (i+2) (show 0 < n by omega);have m1:0<=((IntKind.i64.wrap ((i:Int)+1)).tmod n)/\((IntKind.i64.wrap ((i:Int)+1)).tmod n) < n:=by rw [q1];omega
    have m2:0<=((IntKind.i64.wrap ((i:Int)+2)).tmod n)/\((IntKind.i64.wrap ((i:Int)+2)).tmod n) < n:=by rw [q2];omega
    have hne:(n:Int)≠0:=by omega
    have b1:decide (j5 (ab g (i:Int).toNat) (ab g ((IntKind.i64.wrap ((i:Int)+1)).tmod n).toNat) (ab g ((IntKind.i64.wrap ((i:Int)+2)).tmod n).toNat)<=0)=decide (j5 (ab g i) (ab g ((i+1)%n)) (ab g ((i+2)%n))<=0):=by rw [q1,q2,ei,Int.toNat_natCast,Int.toNat_natCast]
    have b2:decide (j5 (ab g 0) (ab g (i:Int).toNat) (ab g (IntKind.i64.wrap ((i:Int)+1)).toNat)<=0)=decide (j5 (ab g 0) (ab g i) (ab g (i+1))<=0):=by rw [r1,ei,Int.toNat_natCast]
    have b3:decide ((IntKind.i64.wrap ((i:Int)+1)) < (n:Int))=decide (i+1 < n):=by
     rw [r1,decide_eq_decide];omega
    have b4:decide ((i:Int) > 0)=decide (0 < i):=by
     rw [decide_eq_decide];omega
    have eb:dR n (ab g) i=(decide (j5 (ab g (i:Int).toNat) (ab g ((IntKind.i64.wrap ((i:Int)+1)).tmod n).toNat) (ab g ((IntKind.i64.wrap ((i:Int)+2)).tmod n).toNat)<=0)||decide ((i:Int) > 0)&&decide ((IntKind.i64.wrap ((i:Int)+1)) < (n:Int))&&decide (j5 (ab g 0) (ab g (i:Int).toNat) (ab g (IntKind.i64.wrap ((i:Int)+1)).toNat)<=0)):=by rw [b1,b2,b3,b4];rfl
    have le1:i+1<=n:=by omega
    have mu:n - (i+1) < n - i:=by omega
    have wi:PV.val (.int .i64 (IntKind.i64.wrap ((i:Int)+1)))=PV.val (.int .i64 ((i+1:Nat):Int)):=by rw [r1]
    have v15:dR n (ab g) i=true->PV.val (.int .i64 15)=PV.val (.int .i64 X):=λh=>by
     rw [hE2,bc.2 ⟨i,by omega,h⟩];rfl
    have nx:dR n (ab g) i=false->∀j,j < i+1->dR n (ab g) j=false:=λh j hj=>by
     rcases Nat.lt_or_ge j i with h' | h'
     ·exact hI j h'
     ·obtain rfl:j=i:=by omega
      exact h
    have a1:decide (j5 (ab g (i:Int).toNat) (ab g ((IntKind.i64.wrap ((i:Int)+1)).tmod n).toNat) (ab g ((IntKind.i64.wrap ((i:Int)+2)).tmod n).toNat)<=0)=true->dR n (ab g) i=true:=λh=>by rw [eb,h];rfl
    have a2:decide (j5 (ab g (i:Int).toNat) (ab g ((IntKind.i64.wrap ((i:Int)+1)).tmod n).toNat) (ab g ((IntKind.i64.wrap ((i:Int)+2)).tmod n).toNat)<=0)=false->decide ((i:Int) > 0)=false->dR n (ab g) i=false:=λh h'=>by rw [eb,h,h'];rfl
    have a3:decide (j5 (ab g (i:Int).toNat) (ab g ((IntKind.i64.wrap ((i:Int)+1)).tmod n).toNat) (ab g ((IntKind.i64.wrap ((i:Int)+2)).tmod n).toNat)<=0)=false->decide ((i:Int) > 0)=true->decide ((IntKind.i64.wrap ((i:Int)+1)) < (n:Int))=false->dR n (ab g) i=false:=λh h' k=>by rw [eb,h,h',k];rfl
    have a4:decide ((i:Int) > 0)=true->decide ((IntKind.i64.wrap ((i:Int)+1)) < (n:Int))=true->decide (j5 (ab g 0) (ab g (i:Int).toNat) (ab g (IntKind.i64.wrap ((i:Int)+1)).toNat)<=0)=true->dR n (ab g) i=true:=λh h' k=>by
     rw [eb,h,h',k];exact Bool.or_true _
    have a5:decide (j5 (ab g (i:Int).toNat) (ab g ((IntKind.i64.wrap ((i:Int)+1)).tmod n).toNat) (ab g ((IntKind.i64.wrap ((i:Int)+2)).tmod n).toNat)<=0)=false->decide (j5 (ab g 0) (ab g (i:Int).toNat) (ab g (IntKind.i64.wrap ((i:Int)+1)).toNat)<=0)=false->dR n (ab g) i=false:=λh k=>by rw [eb,h,k,Bool.and_false];rfl
    have pk:∀z:Int,0<=z/\z < n->isPk 10000 (ab g z.toNat).v:=λz hz=>⟨_,rfl,(hg _ (by omega)).2⟩;have pi:isPk 10000 (ab g (i:Int).toNat).v:=pk _ ⟨by omega,h2⟩;have p0:isPk 10000 (ab g (Int.toNat 0)).v:=pk 0 ⟨by omega,by omega⟩;have ri:0<=(i:Int)/\(i:Int) < n:=⟨by omega,h2⟩;have r0:0<=(0:Int)/\(0:Int) < n:=⟨by omega,by omega⟩;have rw1:decide ((IntKind.i64.wrap ((i:Int)+1)) < (n:Int))=true->0<=(IntKind.i64.wrap ((i:Int)+1))/\(IntKind.i64.wrap ((i:Int)+1)) < n:=λh=>⟨by rw [r1];omega,of_decide_eq_true h⟩;with_unfolding_all exact⟨ri,hne,m1,hne,m2,⟨pi,pk _ m1,pk _ m2⟩,⟨λh3=>⟨λh4=>⟨λh5=>⟨r0,ri,rw1 h5,⟨p0,pi,pk _ (rw1 h5)⟩,λh6=>⟨[],aa [(2,.val (.int .i64 X))] [] 0 [],Wo trivial ⟨v15 (a4 h4 h5 h6),qQ⟩ trivial,rfl,rfl⟩,λh6=>⟨i+1,[],⟨le1,nx (a5 h3 h6)⟩,mu,Wo trivial ⟨qW,rfl,wi,qQ⟩ trivial⟩⟩,λh5=>⟨λh=>(nomatch h),λ_=>⟨i+1,[],⟨le1,nx (a3 h3 h4 h5)⟩,mu,Wo trivial ⟨qW,rfl,wi,qQ⟩ trivial⟩⟩⟩,λh4=>⟨λh=>(nomatch h),λ_=>⟨λh=>(nomatch h),λ_=>⟨i+1,[],⟨le1,nx (a2 h3 h4)⟩,mu,Wo trivial ⟨qW,rfl,wi,qQ⟩ trivial⟩⟩⟩⟩,λh3=>⟨λ_=>⟨[],aa [(2,.val (.int .i64 X))] [] 0 [],Wo trivial ⟨v15 (a1 h3),qQ⟩ trivial,rfl,rfl⟩,λh=>(nomatch h)⟩⟩⟩
   ·have h2:(n:Int)<=i:=dI h2;have v0:PV.val (.int .i64 0)=PV.val (.int .i64 X):=by
     rw [hE2,aF.2 λj hj=>hI j (by omega)];rfl
    with_unfolding_all exact⟨[],aa [(2,.val (.int .i64 X))] [] 0 [],Wo trivial ⟨v0,qQ⟩ trivial,rfl,rfl⟩
 ·cases e
end Go.Proofs
namespace Go.Num
def ff (lo hi:PtS) (k:Nat) (n:Nat->Nat) (r:Nat->Int) (l:Nat) (q:Nat->Int×Int×Int):Int :=
 bif !ai lo||!ai hi then 1 else bif decide (32 < k) then 4 else bif !(bM r k 0==0) then bM r k 0
 else bif decide (396 < b9 n k) then 4 else bif !decide (l=k) then 9 else bif aA (λi=>dz (q i)) l then 2 else 0
theorem Dc (lo hi:PtS) (k:Nat) (n:Nat->Nat) (p:Nat->Nat->PtS) (l:Nat) (q:Nat->Int×Int×Int):bX lo hi k n p l q=ff lo hi k n (λi=>bk (n i) (p i)) l q:=rfl
theorem rW {n:Nat} {p:Nat->PtS} (h:bH n p=0):n<=64:=by
 unfold bH at h;cases hc:(decide (n < 3)||decide (64 < n)) with
 |true=>rw [hc] at h;cases h
 |false =>
  simp only [Bool.or_eq_false_iff,decide_eq_false_iff_not] at hc;omega
end Go.Num
namespace Go.Proofs
def Gn:List PV->Option Ans
 |[.agg xs]=>some ⟨some (isRg 10000 xs),.val (.int .i64 (ff (bV xs) (bW xs) (gK xs) (pn (gC xs)) (λi=>bH (pn (gC xs) i) (ab (pg (gC xs) i))) (gL xs) (ow (gO xs)))),[]⟩
 |_=>none
def D58:Opt:={  }
theorem Iq:am D58.toOrd Tryz.f58 1=true:=by kernel_rfl
theorem f58:FnOk Tryz.prog 58 Gn:=by
 refine FnOk.ofW aj (an (l:=[(59,Fs),(95,Io)]) (own:=[]) (inl:=[]) (by simp [f59,f95]) (by simp)) Tryz.func58 D58 1 Iq λargs r e=>?_;unfold Gn at e;split at e
 ·rename_i xs
  cases e;refine⟨by simp,λhm=>?_⟩;obtain⟨h1,⟨hlo,hhi⟩,hcl,hol⟩:=hm _ rfl;generalize bV xs=lo at *
  generalize bW xs=hi at *
  generalize gK xs=k at *
  generalize gC xs=c at *
  generalize gL xs=l at *
  generalize gO xs=o at *
  subst h1;clear hm;refine⟨[],aa [(0,.agg (br lo hi k c l o))] [] 0 [],Wo trivial ⟨⟨rfl,rfl,rfl,rfl,rfl,rfl,rfl,rfl,rfl,rfl,rfl,rfl,qW,qW,qQ⟩,qQ⟩ trivial,?_⟩;obtain⟨X,hX⟩:∃X,X=ff lo hi k (pn c) (λi=>bH (pn c i) (ab (pg c i))) l (ow o):=⟨_,rfl⟩;rw [<-hX];obtain⟨Fe,hFe⟩:∃Fe,Fe=bM (λi=>bH (pn c i) (ab (pg c i))) k 0:=⟨_,rfl⟩;have e:X=bif !ai lo||!ai hi then 1 else bif decide (32 < k) then 4 else bif !(Fe==0) then Fe else bif decide (396 < b9 (pn c) k) then 4 else bif !decide (l=k) then 9 else bif aA (λi=>dz (ow o i)) l then 2 else 0:=by rw [hX,ff,<-hFe]
  clear hX;have hno:∀b:Bool,(bY b != 0)=true->b=false:=λb h=>by cases b<;>first|rfl|cases h
  have hyes:∀b:Bool,(bY b != 0)=false->b=true:=λb h=>by cases b<;>first|rfl|cases h
  have pl:isPk 4294967296 lo.v:=⟨_,rfl,hlo.mono (by decide)⟩;have ph:isPk 4294967296 hi.v:=⟨_,rfl,hhi.mono (by decide)⟩;have x1:ai lo=false->PV.val (.int .i64 1)=PV.val (.int .i64 X):=λh=>by rw [e,h];rfl
  have x2:ai hi=false->PV.val (.int .i64 1)=PV.val (.int .i64 X):=λh=>by rw [e,h,Bool.not_false,Bool.or_true];rfl
  have x3:ai lo=true->ai hi=true->decide ((k:Int) > 32)=true->PV.val (.int .i64 4)=PV.val (.int .i64 X):=λh h' k'=>by
   replace k':=(sy 32).symm.trans k';rw [e,h,h',k'];rfl
  have x4:ai lo=true->ai hi=true->decide ((k:Int) > 32)=false->(X=bif !(Fe==0) then Fe else bif decide (396 < b9 (pn c) k) then 4 else bif !decide (l=k) then 9 else bif aA (λi=>dz (ow o i)) l then 2 else 0)/\k<=32:=λh h' k'=>by
   replace k':=(sy 32).symm.trans k';refine⟨by rw [e,h,h',k'];rfl,?_⟩;have:=of_decide_eq_false k';omega
  with_unfolding_all refine⟨pl,λh1=>⟨ph,λh2=>⟨[],aa [(2,.val (.int .i64 X))] [] 0 [],Wo trivial ⟨x2 (hno _ h2),qQ⟩ trivial,rfl,rfl⟩,λh2=>⟨λh3=>⟨[],aa [(2,.val (.int .i64 X))] [] 0 [],Wo trivial ⟨x3 (hyes _ h1) (hyes _ h2) h3,qQ⟩ trivial,rfl,rfl⟩,λh3=>⟨Nat,λi=>(X=bif !(Fe==0) then Fe else bif decide (396 < b9 (pn c) k) then 4 else bif !decide (l=k) then 9 else bif aA (λi=>dz (ow o i)) l then 2 else 0)/\k<=32/\i<=k/\bM (λi=>bH (pn c i) (ab (pg c i))) (k - i) i=Fe/\b9 (pn c) i<=64*i,λi=>aa [(1,.ptr 0 0 0 0),(3,.val (goInt (b9 (pn c) i))),(4,.val (goInt i))] [⟨31,14,0,true,false,1,λ_=>br lo hi k c l o⟩] 1 [],λi=>k - i,⟨0,[some 0],⟨(x4 (hyes _ h1) (hyes _ h2) h3).1,(x4 (hyes _ h1) (hyes _ h2) h3).2,Nat.zero_le _,hFe.symm,Nat.le_refl _⟩,Wo ⟨qZ ⟨rq,rq,rq,rq,rq,rq,rq,rq,rq,rq,rq,rq,⟨qW,rfl⟩,⟨qW,rfl⟩,qQ⟩,qQ⟩ ⟨pP,rfl,rfl,qQ⟩ trivial⟩,λi hI0=>?_⟩⟩⟩,λh1=>⟨λ_=>⟨[],aa [(2,.val (.int .i64 X))] [] 0 [],Wo trivial ⟨x1 (hno _ h1),qQ⟩ trivial,rfl,rfl⟩,λh=>(nomatch h)⟩⟩
  obtain⟨hX,hk32,hik,hFi,hsum⟩:(X=bif !(Fe==0) then Fe else bif decide (396 < b9 (pn c) k) then 4 else bif !decide (l=k) then 9 else bif aA (λi=>dz (ow o i)) l then 2 else 0)/\k<=32/\i<=k/\bM (λi=>bH (pn c i) (ab (pg c i))) (k - i) i=Fe/\b9 (pn c) i<=64*i:=hI0;with_unfolding_all refine⟨λh1=>?_,λh1=>?_⟩
  ·have h1:(i:Int) < k:=bL h1;have ei:(i:Int).toNat=i:=Int.toNat_natCast i;have hst:bM (λi=>bH (pn c i) (ab (pg c i))) (k - i) i=bif bH (pn c i) (ab (pg c i))==0 then bM (λi=>bH (pn c i) (ab (pg c i))) (k - (i+1)) (i+1) else bH (pn c i) (ab (pg c i)):=by
    rw [show k - i=(k - (i+1))+1 by omega];rfl
   have hpl:isPL 10000 (pn c (i:Int).toNat) (pg c (i:Int).toNat):=(hcl.1 _ (by omega)).2;have xr:(bH (pn c (i:Int).toNat) (ab (pg c (i:Int).toNat)) != 0)=true->PV.val (.int .i64 (bH (pn c (i:Int).toNat) (ab (pg c (i:Int).toNat))))=PV.val (.int .i64 X):=λh=>by
    rw [ei] at h ⊢;have h':(bH (pn c i) (ab (pg c i))==0)=false:=by simpa using h
    rw [h',cond_false] at hst;rw [hX,<-hFi,hst,h'];rfl
   have z0:(bH (pn c (i:Int).toNat) (ab (pg c (i:Int).toNat)) != 0)=false->bH (pn c i) (ab (pg c i))=0:=λh=>by
    rw [ei] at h;simpa using h
   have nf:(bH (pn c (i:Int).toNat) (ab (pg c (i:Int).toNat)) != 0)=false->bM (λi=>bH (pn c i) (ab (pg c i))) (k - (i+1)) (i+1)=Fe:=λh=>by
    have h':=z0 h;rw [<-hFi,hst,h'];rfl
   have ns:(bH (pn c (i:Int).toNat) (ab (pg c (i:Int).toNat)) != 0)=false->b9 (pn c) (i+1)<=64*(i+1):=λh=>by
    have h':=rW (z0 h);unfold b9;omega
   have wi:PV.val (.int .i64 (IntKind.i64.wrap ((i:Int)+1)))=PV.val (.int .i64 ((i+1:Nat):Int)):=by
    rw [wrap64 (by omega) (by omega)];rfl
   have ws:(bH (pn c (i:Int).toNat) (ab (pg c (i:Int).toNat)) != 0)=false->PV.val (.int .i64 (IntKind.i64.wrap (((b9 (pn c) i:Nat):Int)+((pn c (i:Int).toNat:Nat):Int))))=PV.val (goInt ((b9 (pn c) (i+1):Nat):Int)):=λh=>by
    have h':=rW (z0 h);rw [ei,wrap64 (by omega) (by omega),b9];rfl
   have ri:0<=(i:Int)/\(i:Int) < k:=⟨by omega,h1⟩;have mu:k - (i+1) < k - i:=by omega
   have le:i+1<=k:=by omega
   with_unfolding_all exact⟨ri,hpl,λh2=>⟨[],aa [(2,.val (.int .i64 X))] [] 0 [],Wo trivial ⟨xr h2,qQ⟩ trivial,rfl,rfl⟩,λh2=>⟨ri,i+1,[some 0],⟨hX,hk32,le,nf h2,ns h2⟩,mu,Wo ⟨qZ ⟨rq,rq,rq,rq,rq,rq,rq,rq,rq,rq,rq,rq,⟨qW,rfl⟩,⟨qW,rfl⟩,qQ⟩,qQ⟩ ⟨pP,ws h2,wi,qQ⟩ trivial⟩⟩
  ·have h1:(k:Int)<=i:=dI h1;have hki:i=k:=by omega
   have hF0:Fe=0:=by
    rw [<-hFi,show k - i=0 by omega];rfl
   have hX2:X=bif decide (396 < b9 (pn c) k) then 4 else bif !decide (l=k) then 9 else bif aA (λi=>dz (ow o i)) l then 2 else 0:=by rw [hX,hF0];rfl
   have hl47:=hol.2;have y1:decide (((b9 (pn c) i:Nat):Int) > 396)=true->PV.val (.int .i64 4)=PV.val (.int .i64 X):=λh=>by
    replace h:=(sy 396).symm.trans h;rw [hki] at h;rw [hX2,h];rfl
   have y2:decide (((b9 (pn c) i:Nat):Int) > 396)=false->(!((l:Int)==(k:Int)))=true->PV.val (.int .i64 9)=PV.val (.int .i64 X):=λh h'=>by
    replace h:=(sy 396).symm.trans h;rw [hki] at h;have h2:¬l=k:=λe=>by
     rw [e,beq_self_eq_true] at h';cases h'
    rw [hX2,h,decide_eq_false h2];rfl
   have x9:decide (((b9 (pn c) i:Nat):Int) > 396)=false->(!((l:Int)==(k:Int)))=false->X=bif aA (λi=>dz (ow o i)) l then 2 else 0:=λh h'=>by
    replace h:=(sy 396).symm.trans h;rw [hki] at h;have h2:l=k:=by
     have:((l:Int)==(k:Int))=true:=by simpa using h'
     have:=eq_of_beq this;omega
    rw [hX2,h,decide_eq_true h2];rfl
   with_unfolding_all refine⟨λh2=>⟨[],aa [(2,.val (.int .i64 X))] [] 0 [],Wo trivial ⟨y1 h2,qQ⟩ trivial,rfl,rfl⟩,λh2=>⟨λh3=>⟨[],aa [(2,.val (.int .i64 X))] [] 0 [],Wo trivial ⟨y2 h2 h3,qQ⟩ trivial,rfl,rfl⟩,λh3=>⟨Nat,λj=>(X=bif aA (λi=>dz (ow o i)) l then 2 else 0)/\j<=l/\∀i,i < j->dz (ow o i)=false,λj=>aa [(1,.ptr 0 0 0 0),(6,.val (goInt j))] [⟨31,14,0,true,false,1,λ_=>br lo hi k c l o⟩] 1 [],λj=>l - j,⟨0,[some 0],⟨x9 h2 h3,Nat.zero_le _,λi hi=>absurd hi (Nat.not_lt_zero i)⟩,Wo ⟨qZ ⟨rq,rq,rq,rq,rq,rq,rq,rq,rq,rq,rq,rq,⟨qW,rfl⟩,⟨qW,rfl⟩,qQ⟩,qQ⟩ ⟨pP,rfl,qQ⟩ trivial⟩,λj hJ0=>?_⟩⟩⟩
   obtain⟨hX3,hjl,hJ⟩:(X=bif aA (λi=>dz (ow o i)) l then 2 else 0)/\j<=l/\∀i,i < j->dz (ow o i)=false:=hJ0;with_unfolding_all refine⟨λh2=>?_,λh2=>?_⟩
   ·have h2:(j:Int) < l:=bL h2;have ej:(j:Int).toNat=j:=Int.toNat_natCast j;have rj:0<=(j:Int)/\(j:Int) < l:=⟨by omega,h2⟩;have v2:dz (ow o (j:Int).toNat)=true->PV.val (.int .i64 2)=PV.val (.int .i64 X):=λh=>by
     rw [ej] at h;rw [hX3,bc.2 ⟨j,by omega,h⟩];rfl
    have nx:dz (ow o (j:Int).toNat)=false->∀i,i < j+1->dz (ow o i)=false:=λh i hi=>by
     rw [ej] at h;rcases Nat.lt_or_ge i j with h' | h'
     ·exact hJ i h'
     ·obtain rfl:i=j:=by omega
      exact h
    have n1:decide ((ow o (j:Int).toNat).1 < 0)=true->dz (ow o (j:Int).toNat)=true:=λh=>by unfold dz;rw [h];rfl
    have n2:decide ((ow o (j:Int).toNat).2.1 < 0)=true->dz (ow o (j:Int).toNat)=true:=λh=>by unfold dz;rw [h,Bool.or_true];rfl
    have n3:decide ((ow o (j:Int).toNat).2.2 < 0)=true->dz (ow o (j:Int).toNat)=true:=λh=>by unfold dz;rw [h,Bool.or_true]
    have n4:decide ((ow o (j:Int).toNat).1 < 0)=false->decide ((ow o (j:Int).toNat).2.1 < 0)=false->decide ((ow o (j:Int).toNat).2.2 < 0)=false->dz (ow o (j:Int).toNat)=false:=λh h' k=>by unfold dz;rw [h,h',k];rfl
    have wj:PV.val (.int .i64 (IntKind.i64.wrap ((j:Int)+1)))=PV.val (.int .i64 ((j+1:Nat):Int)):=by
     rw [wrap64 (by omega) (by omega)];rfl
    have mu:l - (j+1) < l - j:=by omega
    have le:j+1<=l:=by omega
    with_unfolding_all exact⟨rj,λh3=>⟨rj,λh4=>⟨rj,λh5=>⟨[],aa [(2,.val (.int .i64 X))] [] 0 [],Wo trivial ⟨v2 (n3 h5),qQ⟩ trivial,rfl,rfl⟩,λh5=>⟨j+1,[some 0],⟨hX3,le,nx (n4 h3 h4 h5)⟩,mu,Wo ⟨qZ ⟨rq,rq,rq,rq,rq,rq,rq,rq,rq,rq,rq,rq,⟨qW,rfl⟩,⟨qW,rfl⟩,qQ⟩,qQ⟩ ⟨pP,wj,qQ⟩ trivial⟩⟩,λh4=>⟨λ_=>⟨[],aa [(2,.val (.int .i64 X))] [] 0 [],Wo trivial ⟨v2 (n2 h4),qQ⟩ trivial,rfl,rfl⟩,λh=>(nomatch h)⟩⟩,λh3=>⟨λh=>(nomatch h),λ_=>⟨λ_=>⟨[],aa [(2,.val (.int .i64 X))] [] 0 [],Wo trivial ⟨v2 (n1 h3),qQ⟩ trivial,rfl,rfl⟩,λh=>(nomatch h)⟩⟩⟩
   ·have h2:(l:Int)<=j:=dI h2;have v0:PV.val (.int .i64 0)=PV.val (.int .i64 X):=by
     rw [hX3,aF.2 λi hi=>hJ i (by omega)];rfl
    with_unfolding_all exact⟨[],aa [(2,.val (.int .i64 X))] [] 0 [],Wo trivial ⟨v0,qQ⟩ trivial,rfl,rfl⟩
 ·cases e
end Go.Proofs
namespace Go.Num
def t6 (p u:PtS):PtS:=pv (p.X+u.X) (p.Y+u.Y)
def rX (p:PtS) (r:RatS):PtS:=pv (p.X*r.q) (p.Y*r.q)
def zm (p u:PtS) (r:RatS):PtS:=t6 p (rX (cq u p) r)
theorem AP {a b:Nat} {p u:PtS} (h1:PtS.le a p) (h2:PtS.le b u):(t6 p u).le (a+b+3):=tX ((h1.X.add h2.X).le (by omega)) ((h1.Y.add h2.Y).le (by omega))
theorem vn {a b:Nat} {p:PtS} {r:RatS} (h1:PtS.le a p) (h2:RatS.le b r):(rX p r).le (a+b+3):=tX ((h1.X.mul h2.qb).le (by omega)) ((h1.Y.mul h2.qb).le (by omega))
theorem iK {p:PtS} (h:bt p=false):p.le 12:=by
 unfold bt na at h;simp only [Bool.or_eq_false_iff,decide_eq_false_iff_not] at h;unfold PtS.le RatS.le;omega
theorem vo {K:Nat} {xs:List PV} (h:mK (bV xs) (bW xs) (gK xs) (pn (gC xs)) (λi=>ab (pg (gC xs) i)) (gL xs)=false) (hx:isRg K xs):isRg 12 xs:=by
 obtain⟨h1,_,hc,ho⟩:=hx;unfold mK at h;simp only [Bool.or_eq_false_iff] at h;refine⟨h1,⟨iK h.1.1.1.1,iK h.1.1.1.2⟩,⟨λi hi=>⟨(hc.1 i hi).1,⟨λj hj=>⟨((hc.1 i hi).2.1 j hj).1,?_⟩,(hc.1 i hi).2.2⟩⟩,hc.2⟩,ho⟩;have h2:=(aF.1 h.1.2) i hi;unfold iQ at h2;rw [Bool.or_eq_false_iff] at h2;exact iK ((aF.1 h2.2) j hj)
theorem isRg.mono {a b:Nat} {xs:List PV} (h:isRg a xs) (hab:a<=b):isRg b xs :=
 ⟨h.1,⟨h.2.1.1.mono hab,h.2.1.2.mono hab⟩,⟨λi hi=>⟨(h.2.2.1.1 i hi).1,⟨λj hj=>⟨((h.2.2.1.1 i hi).2.1 j hj).1,((h.2.2.1.1 i hi).2.1 j hj).2.mono hab⟩,(h.2.2.1.1 i hi).2.2⟩⟩,h.2.2.1.2⟩,h.2.2.2⟩
theorem AQ {K n:Nat} {g:Nat->List PV} (h:aA (λi=>bt (ab g i)) n=false) (hg:isPL K n g):isPL 12 n g :=
 ⟨λi hi=>⟨(hg.1 i hi).1,iK ((aF.1 h) i hi)⟩,hg.2⟩
theorem isPL.mono {a b n:Nat} {g:Nat->List PV} (h:isPL a n g) (hab:a<=b):isPL b n g:=⟨λi hi=>⟨(h.1 i hi).1,(h.1 i hi).2.mono hab⟩,h.2⟩
def jk (xs:List PV) (n:Nat) (g:Nat->List PV):Bool:=mK (bV xs) (bW xs) (gK xs) (pn (gC xs)) (λi=>ab (pg (gC xs) i)) (gL xs)||aA (λi=>bt (ab g i)) n
def rY (xs:List PV):Int:=ff (bV xs) (bW xs) (gK xs) (pn (gC xs)) (λi=>bH (pn (gC xs) i) (ab (pg (gC xs) i))) (gL xs) (ow (gO xs))
def kX (xs:List PV) (n:Nat) (g:Nat->List PV):Bool:=!jk xs n g&&(rY xs==0)&&!aA (λi=>!ai (ab g i)) n
end Go.Num
namespace Go.Proofs
theorem fR {x y:PtS} (h:x=y):PV.val (.bool x.x.s)=PV.val (.bool y.x.s)/\PV.val (.string x.x.b)=PV.val (.string y.x.b)/\PV.val (.string x.x.c)=PV.val (.string y.x.c)/\PV.val (.bool x.y.s)=PV.val (.bool y.y.s)/\PV.val (.string x.y.b)=PV.val (.string y.y.b)/\PV.val (.string x.y.c)=PV.val (.string y.y.c):=by
 rw [h];exact⟨rfl,rfl,rfl,rfl,rfl,rfl⟩
def Ir:List PV->Option Ans
 |[.val v,.val u]=>some ⟨some (isPk 4294967296 v/\isPk 4294967296 u),.val (t6 (aN v) (aN u)).v,[]⟩
 |_=>none
def D74:Opt:={  }
theorem Is:am D74.toOrd Tryz.f74 2=true:=by kernel_rfl
theorem f74:FnOk Tryz.prog 74 Ir:=by
 refine FnOk.ofW aj (an (l:=[(112,mB)]) (own:=[]) (inl:=[]) (by simp [yH]) (by simp)) Tryz.func74 D74 2 Is λargs r e=>?_;unfold Ir at e;split at e
 ·rename_i v u
  cases e;refine⟨by simp,λhm=>?_⟩;obtain⟨⟨p,rfl,hp⟩,u,rfl,hu⟩:=hm _ rfl;refine⟨[],aa [(0,.val p.v),(1,.val u.v)] [] 0 [],Wo trivial ⟨rfl,rfl,qQ⟩ trivial,?_⟩;with_unfolding_all exact⟨⟨⟨p,rfl,hp⟩,u,rfl,hu⟩,[some 2],aa [(4,.ptr 0 0 0 0)] [ib (t6 p u) 0] 1 [],Wo ⟨qK,qQ⟩ ⟨pP,qQ⟩ trivial,rfl,rfl⟩
 ·cases e
def AR:Value->RatS
 |.agg ⟨[.bool s,.string b,.string c]⟩=>⟨s,b,c⟩
 |_=>⟨false,⟨#[]⟩,⟨#[]⟩⟩
def It:List PV->Option Ans
 |[.val v,.val u]=>some ⟨some (isPk 4294967296 v/\isRk 4294967296 u),.val (rX (aN v) (AR u)).v,[]⟩
 |_=>none
def D75:Opt:={  }
theorem Iu:am D75.toOrd Tryz.f75 2=true:=by kernel_rfl
theorem f75:FnOk Tryz.prog 75 It:=by
 refine FnOk.ofW aj (an (l:=[(112,jS)]) (own:=[]) (inl:=[]) (by simp [rJ]) (by simp)) Tryz.func75 D75 2 Iu λargs r e=>?_;unfold It at e;split at e
 ·rename_i v u
  cases e;refine⟨by simp,λhm=>?_⟩;obtain⟨⟨p,rfl,hp⟩,s,b,c,rfl,hb,hc⟩:=hm _ rfl;refine⟨[],aa [(0,.val p.v),(1,.val (.agg ⟨[.bool s,.string b,.string c]⟩))] [] 0 [],Wo trivial ⟨rfl,rfl,qQ⟩ trivial,?_⟩;have hr:PtS.le 4294967296 ⟨⟨s,b,c⟩,⟨s,b,c⟩⟩:=⟨⟨hb,hc⟩,hb,hc⟩;with_unfolding_all exact⟨⟨⟨p,rfl,hp⟩,⟨⟨s,b,c⟩,⟨s,b,c⟩⟩,rfl,hr⟩,[some 2],aa [(4,.ptr 0 0 0 0)] [ib (rX p ⟨s,b,c⟩) 0] 1 [],Wo ⟨qK,qQ⟩ ⟨pP,qQ⟩ trivial,rfl,rfl⟩
 ·cases e
def Iv:List PV->Option Ans
 |[.val v,.val u,.val w]=>some ⟨some (isPk 1000 v/\isPk 1000 u/\isRk 1000 w),.val (zm (aN v) (aN u) (AR w)).v,[]⟩
 |_=>none
def D28:Opt:={ perm:=jm 1 [(0,true),(1,true),(2,true),(4,true),(3,false),(5,false),(6,false)] }
theorem Iw:am D28.toOrd Tryz.f28 3=true:=by kernel_rfl
theorem f28:FnOk Tryz.prog 28 Iv:=by
 refine FnOk.ofW aj (an (l:=[(76,Fw),(75,It),(74,Ir)]) (own:=[]) (inl:=[]) (by simp [f76,f75,f74]) (by simp)) Tryz.func28 D28 3 Iw λargs r e=>?_;unfold Iv at e;split at e
 ·rename_i v u w
  cases e;refine⟨by simp,λhm=>?_⟩;obtain⟨⟨p,rfl,hp⟩,⟨u,rfl,hu⟩,s,b,c,rfl,hb,hc⟩:=hm _ rfl;refine⟨[],aa [(0,.val p.v),(1,.val u.v),(2,.val (.agg ⟨[.bool s,.string b,.string c]⟩))] [] 0 [],Wo trivial ⟨rfl,rfl,rfl,qQ⟩ trivial,?_⟩;have hr:RatS.le 1000 ⟨s,b,c⟩:=⟨hb,hc⟩;have s1:=cj hu hp;have s2:=vn s1 hr;have i1:isPk 4294967296 u.v/\isPk 4294967296 p.v:=⟨⟨_,rfl,hu.mono (by decide)⟩,_,rfl,hp.mono (by decide)⟩;have i2:isPk 4294967296 (cq u p).v/\isRk 4294967296 (.agg ⟨[.bool s,.string b,.string c]⟩):=⟨⟨_,rfl,s1.mono (by decide)⟩,s,b,c,rfl,Nat.le_trans hb (by decide),Nat.le_trans hc (by decide)⟩;have i3:isPk 4294967296 p.v/\isPk 4294967296 (rX (cq u p) ⟨s,b,c⟩).v:=⟨⟨_,rfl,hp.mono (by decide)⟩,_,rfl,s2.mono (by decide)⟩;have rv:∀p:PtS,aN p.v=p:=λ_=>rfl;obtain⟨Q,hQ⟩:∃Q,Q=zm p u ⟨s,b,c⟩:=⟨_,rfl⟩;have hq:zm (aN p.v) (aN u.v) (AR (.agg ⟨[.bool s,.string b,.string c]⟩))=Q:=hQ.symm;rw [hq];have e:t6 (aN p.v) (aN (rX (aN (cq (aN u.v) (aN p.v)).v) (AR (.agg ⟨[.bool s,.string b,.string c]⟩))).v)=Q:=by
   rw [rv,rv,rv,rv];exact hq
  have c6:=fR e;clear hq hQ e;with_unfolding_all refine⟨?_,?_,?_,[some 3],aa [(6,.ptr 0 0 0 0)] [ib Q 0] 1 [],Wo ⟨qZ ⟨⟨c6.1,rfl⟩,⟨c6.2.1,rfl⟩,⟨c6.2.2.1,rfl⟩,⟨c6.2.2.2.1,rfl⟩,⟨c6.2.2.2.2.1,rfl⟩,⟨c6.2.2.2.2.2,rfl⟩,qQ⟩,qQ⟩ ⟨pP,qQ⟩ trivial,rfl,rfl⟩
  ·exact i1
  ·exact i2
  ·exact i3
 ·cases e
def Ix:List PV->Option Ans
 |[.val v]=>some ⟨some (isPk 4294967296 v),.val (.bool (!ai (aN v))),[]⟩
 |_=>none
theorem Iy:am {} Tryz.f66 1=true:=by kernel_rfl
theorem f66:FnOk Tryz.prog 66 Ix:=by
 refine FnOk.ofW aj (an (l:=[(67,Bn)]) (own:=[]) (inl:=[]) (by simp [f67]) (by simp)) Tryz.func66 {} 1 Iy λargs r e=>?_;unfold Ix at e;split at e
 ·rename_i v
  cases e;refine⟨by simp,λhm=>?_⟩;obtain⟨p,rfl,hp⟩:=hm _ rfl;refine⟨[],aa [(0,.val p.v)] [] 0 [],Wo trivial ⟨rfl,qQ⟩ trivial,?_⟩;with_unfolding_all exact⟨⟨p,rfl,hp⟩,[],aa [(2,.val (.bool (!ai p)))] [] 0 [],Wo trivial ⟨congrArg (λz=>PV.val (.bool z)) (lH _),qQ⟩ trivial,rfl,rfl⟩
 ·cases e
def t7:List PV->Option Ans
 |[.rs 6 n g,.val (.func (.func 66) ⟨[]⟩ ⟨[]⟩)]=>some ⟨some (isPL 4294967296 n g),.val (.int .i64 (cW (λi=>!ai (ab g i)) n 0)),[]⟩
 |_=>none
theorem Dd:FnOk Tryz.prog 83 t7:=by
 refine FnOk.ofW aj (an (l:=[(66,Ix)]) (own:=[]) (inl:=[]) (by simp [f66]) (by simp)) Tryz.func83 {} 2 tR λargs r e=>?_;unfold t7 at e;split at e
 ·rename_i n g
  cases e;refine⟨by simp,λhm=>?_⟩;obtain⟨hg,hn⟩:=hm _ rfl;refine⟨[],aa [(0,.rs 6 n (λi=>(ab g i).cells)),(1,.val (.func (.func 66) ⟨[]⟩ ⟨[]⟩))] [] 0 [],Wo trivial ⟨⟨rfl,rfl,λi hi=>(hg i hi).1.symm⟩,rfl,qQ⟩ trivial,?_⟩;obtain⟨X,hX⟩:∃X,X=cW (λi=>!ai (ab g i)) n 0:=⟨_,rfl⟩;rw [<-hX];with_unfolding_all refine⟨Nat,λi=>i<=n/\cW (λi=>!ai (ab g i)) (n - i) i=X,λi=>aa [(0,.rs 6 n (λi=>(ab g i).cells)),(1,.val (.func (.func 66) ⟨[]⟩ ⟨[]⟩)),(7,.val (goInt n)),(8,.val (goInt i))] [] 0 [],λi=>n - i,⟨0,[],⟨Nat.zero_le _,hX.symm⟩,Wo trivial ⟨qW,rfl,rfl,rfl,qQ⟩ trivial⟩,λi hi=>?_⟩
  obtain⟨hin,hI⟩:i<=n/\cW (λi=>!ai (ab g i)) (n - i) i=X:=hi;with_unfolding_all refine⟨λh=>?_,λh=>⟨[],aa [(4,.val (.int .i64 X))] [] 0 [],Wo trivial ⟨?_,qQ⟩ trivial,rfl,rfl⟩⟩
  ·have h:=bL h;have e:(i:Int).toNat=i:=Int.toNat_natCast i;have hstep:cW (λi=>!ai (ab g i)) (n - i) i=bif !ai (ab g i) then(i:Int) else cW (λi=>!ai (ab g i)) (n - (i+1)) (i+1):=by
    rw [show n - i=(n - (i+1))+1 by omega];rfl
   with_unfolding_all refine⟨⟨by omega,by omega⟩,⟨ab g (i:Int).toNat,rfl,by rw [e];exact(hg i (by omega)).2⟩,λh'=>⟨[],aa [(4,.val (.int .i64 X))] [] 0 [],Wo trivial ⟨?_,qQ⟩ trivial,rfl,rfl⟩,λh'=>⟨i+1,[],⟨by omega,?_⟩,by show n - (i+1) < n - i;omega,Wo trivial ⟨qW,rfl,rfl,?_,qQ⟩ trivial⟩⟩
   ·have h':(!ai (ab g (i:Int).toNat))=true:=h';rw [e] at h';rw [h',cond_true] at hstep;exact congrArg (λz=>PV.val (.int .i64 z)) (hstep.symm.trans hI)
   ·have h':(!ai (ab g (i:Int).toNat))=false:=h';rw [e] at h';rw [h',cond_false] at hstep;exact hstep.symm.trans hI
   ·show PV.val (.int .i64 (IntKind.i64.wrap ((i:Int)+1)))=PV.val (.int .i64 ((i+1:Nat):Int));rw [wrap64 (by omega) (by omega)];rfl
  ·have h:=dI h;rw [show n - i=0 by omega] at hI;exact congrArg (λz=>PV.val (.int .i64 z)) hI
 ·cases e
def t8:List PV->Option Ans
 |[.rs 6 n g,.val (.func (.func 66) ⟨[]⟩ ⟨[]⟩)]=>some ⟨some (isPL 4294967296 n g),.val (.bool (aA (λi=>!ai (ab g i)) n)),[]⟩
 |_=>none
theorem De:FnOk Tryz.prog 65 t8:=by
 refine FnOk.ofW aj (an (l:=[(83,t7)]) (own:=[]) (inl:=[]) (by simp [Dd]) (by simp)) Tryz.func65 {} 2 tS λargs r e=>?_;unfold t8 at e;split at e
 ·rename_i n g
  cases e;refine⟨by simp,λhm=>?_⟩;have hp:=hm _ rfl;refine⟨[],aa [(0,.rs 6 n g),(1,.val (.func (.func 66) ⟨[]⟩ ⟨[]⟩))] [] 0 [],Wo trivial ⟨⟨rfl,rfl,λi hi=>rfl⟩,rfl,qQ⟩ trivial,?_⟩;with_unfolding_all exact⟨hp,[],aa [(4,.val (.bool (aA (λi=>!ai (ab g i)) n)))] [] 0 [],Wo trivial ⟨congrArg (λz=>PV.val (.bool z)) (dZ _ _),qQ⟩ trivial,rfl,rfl⟩
 ·cases e
def Iz:List PV->Option Ans
 |[.agg xs,.rs 6 n g]=>some ⟨some (isRg 140737488355328 xs/\isPL 140737488355328 n g),.val (.bool (jk xs n g)),[]⟩
 |_=>none
def D12:Opt:={  }
theorem IA:am D12.toOrd Tryz.f12 2=true:=by kernel_rfl
theorem f12:FnOk Tryz.prog 12 Iz:=by
 refine FnOk.ofW aj (an (l:=[(50,Im),(51,Hr)]) (own:=[]) (inl:=[]) (by simp [f50,f51]) (by simp)) Tryz.func12 D12 2 IA λargs r e=>?_;unfold Iz at e;split at e
 ·rename_i xs n g
  cases e;refine⟨by simp,λhm=>?_⟩;obtain⟨⟨h1,hrest⟩,hg⟩:=hm _ rfl;have hx:isRg 140737488355328 xs:=⟨h1,hrest⟩;obtain⟨X,hX⟩:∃X,X=jk xs n g:=⟨_,rfl⟩;rw [<-hX];have e:X=(mK (bV xs) (bW xs) (gK xs) (pn (gC xs)) (λi=>ab (pg (gC xs) i)) (gL xs)||aA (λi=>bt (ab g i)) n):=hX;clear hX;obtain⟨A,hA⟩:∃A,A=mK (bV xs) (bW xs) (gK xs) (pn (gC xs)) (λi=>ab (pg (gC xs) i)) (gL xs):=⟨_,rfl⟩;rw [<-hA] at e;generalize bV xs=lo at *
  generalize bW xs=hi at *
  generalize gK xs=k at *
  generalize gC xs=c at *
  generalize gL xs=l at *
  generalize gO xs=o at *
  subst h1;clear hm;refine⟨[],aa [(0,.agg (br lo hi k c l o)),(1,.rs 6 n g)] [] 0 [],Wo trivial ⟨⟨rfl,rfl,rfl,rfl,rfl,rfl,rfl,rfl,rfl,rfl,rfl,rfl,qW,qW,qQ⟩,qW,qQ⟩ trivial,?_⟩;have v1:mK lo hi k (pn c) (λi=>ab (pg c i)) l=false->PV.val (.bool (aA (λi=>bt (ab g i)) n))=PV.val (.bool X):=λh=>by rw [e,hA,h];rfl
  have v2:mK lo hi k (pn c) (λi=>ab (pg c i)) l=true->PV.val (.bool true)=PV.val (.bool X):=λh=>by rw [e,hA,h];rfl
  with_unfolding_all exact⟨hx,λh1=>⟨hg,⟨[],aa [(4,.val (.bool X))] [] 0 [],Wo trivial ⟨v1 h1,qQ⟩ trivial,rfl,rfl⟩⟩,λh1=>⟨[],aa [(4,.val (.bool X))] [] 0 [],Wo trivial ⟨v2 h1,qQ⟩ trivial,rfl,rfl⟩⟩
 ·cases e
def GU:List PV->Option Ans
 |[.agg xs,.rs 6 n g]=>some ⟨some (isRg 140737488355328 xs/\isPL 140737488355328 n g),.val (.bool (kX xs n g)),[]⟩
 |_=>none
def D17:Opt:={  }
theorem IB:am D17.toOrd Tryz.f17 2=true:=by kernel_rfl
theorem f17:FnOk Tryz.prog 17 GU:=by
 refine FnOk.ofW aj (an (l:=[(12,Iz),(58,Gn),(65,t8)]) (own:=[]) (inl:=[]) (by simp [f12,f58,De]) (by simp)) Tryz.func17 D17 2 IB λargs r e=>?_;unfold GU at e;split at e
 ·rename_i xs n g
  cases e;refine⟨by simp,λhm=>?_⟩;obtain⟨⟨h1,hrest⟩,hg⟩:=hm _ rfl;have hx:isRg 140737488355328 xs:=⟨h1,hrest⟩;obtain⟨X,hX⟩:∃X,X=kX xs n g:=⟨_,rfl⟩;rw [<-hX];have e:X=((!jk xs n g&&(rY xs==0))&&!aA (λi=>!ai (ab g i)) n):=hX;clear hX;have p1:(!jk xs n g)=true->isRg 10000 xs:=λh=>by
   have h:jk xs n g=false:=by simpa using h
   unfold jk at h;rw [Bool.or_eq_false_iff] at h;exact(vo h.1 hx).mono (by decide)
  have p2:(!jk xs n g)=true->isPL 4294967296 n g:=λh=>by
   have h:jk xs n g=false:=by simpa using h
   unfold jk at h;rw [Bool.or_eq_false_iff] at h;exact(AQ h.2 hg).mono (by decide)
  have v1:(!jk xs n g)=true->(rY xs==0)=true->PV.val (.bool (!aA (λi=>!ai (ab g i)) n))=PV.val (.bool X):=λh h'=>by rw [e,h,h'];rfl
  have v2:(!jk xs n g)=true->(rY xs==0)=false->PV.val (.bool false)=PV.val (.bool X):=λh h'=>by rw [e,h,h'];rfl
  have v3:(!jk xs n g)=false->PV.val (.bool false)=PV.val (.bool X):=λh=>by rw [e,h];rfl
  clear e;generalize bV xs=lo at *
  generalize bW xs=hi at *
  generalize gK xs=k at *
  generalize gC xs=c at *
  generalize gL xs=l at *
  generalize gO xs=o at *
  subst h1;clear hm;refine⟨[],aa [(0,.agg (br lo hi k c l o)),(1,.rs 6 n g)] [] 0 [],Wo trivial ⟨⟨rfl,rfl,rfl,rfl,rfl,rfl,rfl,rfl,rfl,rfl,rfl,rfl,qW,qW,qQ⟩,qW,qQ⟩ trivial,?_⟩;with_unfolding_all exact⟨⟨hx,hg⟩,λh1=>⟨p1 h1,λh2=>⟨p2 h1,⟨[],aa [(4,.val (.bool X))] [] 0 [],Wo trivial ⟨v1 h1 h2,qQ⟩ trivial,rfl,rfl⟩⟩,λh2=>⟨[],aa [(4,.val (.bool X))] [] 0 [],Wo trivial ⟨v2 h1 h2,qQ⟩ trivial,rfl,rfl⟩⟩,λh1=>⟨λh=>(nomatch h),λ_=>⟨[],aa [(4,.val (.bool X))] [] 0 [],Wo trivial ⟨v3 h1,qQ⟩ trivial,rfl,rfl⟩⟩⟩
 ·cases e
def IC:List PV->Option Ans
 |[.agg xs,.val v]=>some ⟨some (isRg 10000 xs/\isPk 10000 v),.val (.tuple ⟨[.int .i64 (wX (fP (bV xs) (bW xs) (gK xs) (gC xs) (gL xs) (gO xs) (ar (aN v) (aN v))) (dJ (bV xs) (bW xs) (gK xs) (gC xs) (ar (aN v) (aN v)))),.bool (fP (bV xs) (bW xs) (gK xs) (gC xs) (gL xs) (gO xs) (ar (aN v) (aN v))&&!(dJ (bV xs) (bW xs) (gK xs) (gC xs) (ar (aN v) (aN v))).isEmpty),.int .i64 (bY (fP (bV xs) (bW xs) (gK xs) (gC xs) (gL xs) (gO xs) (ar (aN v) (aN v))))]⟩),[]⟩
 |_=>none
def D71:Opt:={  }
theorem ID:am D71.toOrd Tryz.f71 2=true:=by kernel_rfl
theorem f71:FnOk Tryz.prog 71 IC:=by
 refine FnOk.ofW aj (an (l:=[(91,GQ)]) (own:=[]) (inl:=[]) (by simp [f91]) (by simp)) Tryz.func71 D71 2 ID λargs r e=>?_;unfold IC at e;split at e
 ·rename_i xs v
  cases e;refine⟨by simp,λhm=>?_⟩;obtain⟨⟨h1,⟨hlo,hhi⟩,hcl,hol⟩,a,rfl,ha⟩:=hm _ rfl;generalize bV xs=lo at *
  generalize bW xs=hi at *
  generalize gK xs=k at *
  generalize gC xs=c at *
  generalize gL xs=l at *
  generalize gO xs=o at *
  subst h1;clear hm;refine⟨[],aa [(0,.agg (br lo hi k c l o)),(1,.val a.v)] [] 0 [],Wo trivial ⟨⟨rfl,rfl,rfl,rfl,rfl,rfl,rfl,rfl,rfl,rfl,rfl,rfl,qW,qW,qQ⟩,rfl,qQ⟩ trivial,?_⟩;have pre:((lo.le 10000/\hi.le 10000)/\bU 10000 k (λi=>[.rs 6 (pn c i) (pg c i)])/\cX l (λi=>ag (ow o i)))/\dQ 10000 (ar a a):=⟨⟨⟨hlo,hhi⟩,⟨λi hi=>⟨rfl,(hcl.1 i hi).2⟩,hcl.2⟩,λ_ _=>rfl,hol.2⟩,a,a,rfl,ha,ha⟩;obtain⟨OK,hOK⟩:∃OK,OK=fP lo hi k c l o (ar a a):=⟨_,rfl⟩;obtain⟨PC,hPC⟩:∃PC,PC=dJ lo hi k c (ar a a):=⟨_,rfl⟩;have e1:fP lo hi k c l o (ar (aN a.v) (aN a.v))=OK:=hOK.symm;have e2:dJ lo hi k c (ar (aN a.v) (aN a.v))=PC:=hPC.symm;rw [e1,e2];have e3:fP lo hi k (λi=>[.rs 6 (pn c i) (pg c i)]) l (λi=>ag (ow o i)) (ar a a)=OK:=hOK.symm;have e4:dJ lo hi k (λi=>[.rs 6 (pn c i) (pg c i)]) (ar a a)=PC:=hPC.symm;have w1:PV.val (.int .i64 (wX (fP lo hi k (λi=>[.rs 6 (pn c i) (pg c i)]) l (λi=>ag (ow o i)) (ar a a)) (dJ lo hi k (λi=>[.rs 6 (pn c i) (pg c i)]) (ar a a))))=PV.val (.int .i64 (wX OK PC)):=by rw [e3,e4]
  have w2:PV.val (.bool (fP lo hi k (λi=>[.rs 6 (pn c i) (pg c i)]) l (λi=>ag (ow o i)) (ar a a)&&!(dJ lo hi k (λi=>[.rs 6 (pn c i) (pg c i)]) (ar a a)).isEmpty))=PV.val (.bool (OK&&!PC.isEmpty)):=by rw [e3,e4]
  have w3:PV.val (.int .i64 (bY (fP lo hi k (λi=>[.rs 6 (pn c i) (pg c i)]) l (λi=>ag (ow o i)) (ar a a))))=PV.val (.int .i64 (bY OK)):=by rw [e3]
  clear hOK hPC e1 e2 e3 e4;with_unfolding_all exact⟨pre,[],aa [(4,.val (.int .i64 (wX OK PC))),(5,.val (.bool (OK&&!PC.isEmpty))),(6,.val (.int .i64 (bY OK)))] [] 0 [],Wo trivial ⟨w1,w2,w3,qQ⟩ trivial,rfl,rfl⟩
 ·cases e
def GV:List PV->Option Ans
 |[.agg xs,.val v]=>some ⟨some (isRg 10000 xs/\isPk 10000 v),.val (.bool (a7 (bV xs) (bW xs) (gK xs) (gC xs) (gL xs) (gO xs) (aN v) (aN v))),[]⟩
 |_=>none
def D26:Opt:={  }
theorem IE:am D26.toOrd Tryz.f26 2=true:=by kernel_rfl
theorem f26:FnOk Tryz.prog 26 GV:=by
 refine FnOk.ofW aj (an (l:=[(71,IC)]) (own:=[]) (inl:=[]) (by simp [f71]) (by simp)) Tryz.func26 D26 2 IE λargs r e=>?_;unfold GV at e;split at e
 ·rename_i xs v
  cases e;refine⟨by simp,λhm=>?_⟩;obtain⟨⟨h1,hrest⟩,a,rfl,ha⟩:=hm _ rfl;have hx:isRg 10000 xs:=⟨h1,hrest⟩;have pa:isPk 10000 a.v:=⟨a,rfl,ha⟩;generalize bV xs=lo at *
  generalize bW xs=hi at *
  generalize gK xs=k at *
  generalize gC xs=c at *
  generalize gL xs=l at *
  generalize gO xs=o at *
  subst h1;clear hm;refine⟨[],aa [(0,.agg (br lo hi k c l o)),(1,.val a.v)] [] 0 [],Wo trivial ⟨⟨rfl,rfl,rfl,rfl,rfl,rfl,rfl,rfl,rfl,rfl,rfl,rfl,qW,qW,qQ⟩,rfl,qQ⟩ trivial,?_⟩;obtain⟨X,hX⟩:∃X,X=a7 lo hi k c l o a a:=⟨_,rfl⟩;have hx2:a7 lo hi k c l o (aN a.v) (aN a.v)=X:=hX.symm;rw [hx2];have v1:(bY (fP lo hi k c l o (ar a a))==0)=true->PV.val (.bool (!(fP lo hi k c l o (ar a a)&&!(dJ lo hi k c (ar a a)).isEmpty)))=PV.val (.bool X):=λh=>by
   have h:fP lo hi k c l o (ar a a)=true:=by
    cases hb:fP lo hi k c l o (ar a a) with
    |true=>rfl
    |false =>
     rw [hb] at h;cases h
   rw [hX,a7,h,Bool.true_and,Bool.true_and,Bool.not_not]
  have v2:(bY (fP lo hi k c l o (ar a a))==0)=false->PV.val (.bool false)=PV.val (.bool X):=λh=>by
   have h:fP lo hi k c l o (ar a a)=false:=by
    cases hb:fP lo hi k c l o (ar a a) with
    |false=>rfl
    |true =>
     rw [hb] at h;cases h
   rw [hX,a7,h,Bool.false_and]
  with_unfolding_all exact⟨⟨hx,pa⟩,λh1=>⟨[],aa [(4,.val (.bool X))] [] 0 [],Wo trivial ⟨v1 h1,qQ⟩ trivial,rfl,rfl⟩,λh1=>⟨[],aa [(4,.val (.bool X))] [] 0 [],Wo trivial ⟨v2 h1,qQ⟩ trivial,rfl,rfl⟩⟩
 ·cases e
end Go.Proofs
namespace Go.Num
theorem jl {c v:Rat} (h:0 < c*v) (hv:0 < v):0 < c:=by
 rcases Rat.le_total (a:=c) (b:=0) with h1|h1
 ·have:=Rat.mul_nonneg (show 0 <= -c by grind) (show 0<=v by grind)
  grind
 ·by_cases e:c=0
  ·subst e;grind
  ·grind
def GW (a b c x y z:Rat):Rat:=(b - a)*(z - x) - (y - x)*(c - a)
def dt (X Y:Nat->Rat) (i j k:Nat):Rat:=GW (X i) (X j) (X k) (Y i) (Y j) (Y k)
theorem ua {u1 u2 v1 v2 w1 w2:Rat} (hu:0 < u1\/(u1=0/\0 < u2)) (hv:0 < v1\/(v1=0/\0 < v2)) (hw:0 < w1\/(w1=0/\0 < w2)) (h1:0 < u1*v2 - u2*v1) (h2:0 < v1*w2 - v2*w1):0 < u1*w2 - u2*w1:=by
 have hv1:0 < v1:=by
  rcases hv with h|⟨h,k⟩
  ·exact h
  ·subst h;rcases hw with h3|⟨h3,_⟩
   ·have:=Rat.mul_pos k h3
    grind
   ·subst h3;grind
 have hu1:0 < u1:=by
  rcases hu with h|⟨h,k⟩
  ·exact h
  ·subst h;have:=Rat.mul_pos k hv1
   grind
 have hw1:0<=w1:=by
  rcases hw with h|⟨h,_⟩
  ·grind
  ·grind
 have k1:=Rat.mul_nonneg (Rat.le_of_lt h1) hw1;have k2:=Rat.mul_pos h2 hu1;refine jl (v:=v1) ?_ hv1;have e:(u1*w2 - u2*w1)*v1=(u1*v2 - u2*v1)*w1+(v1*w2 - v2*w1)*u1:=by grind
 rw [e]
 grind
theorem Gp (X Y:Nat->Rat) (a b c d:Nat):dt X Y a b d*dt X Y 0 b c=dt X Y a b c*dt X Y 0 b d+dt X Y 0 a b*dt X Y b c d:=by
 unfold dt GW;generalize X 0=x0,X a=xa,X b=xb,X c=xc,X d=xd,Y 0=y0,Y a=ya,Y b=yb,Y c=yc,Y d=yd
 grind
theorem Gq (X Y:Nat->Rat) (a b c d:Nat):dt X Y a c d*dt X Y 0 b c=dt X Y a b c*dt X Y 0 c d+dt X Y 0 a c*dt X Y b c d:=by
 unfold dt GW;generalize X 0=x0,X a=xa,X b=xb,X c=xc,X d=xd,Y 0=y0,Y a=ya,Y b=yb,Y c=yc,Y d=yd
 grind
theorem yO (X Y:Nat->Rat) (i j k:Nat):dt X Y j k i=dt X Y i j k:=by
 unfold dt GW;generalize X i=xa,X j=xb,X k=xc,Y i=ya,Y j=yb,Y k=yc
 grind
theorem ub {X Y:Nat->Rat} {n:Nat} (h0:∀i,0 < i->i < n->X 0 < X i\/(X i=X 0/\Y 0 < Y i)) (h1:∀i,i+2 < n->0 < dt X Y i (i+1) (i+2)) (h2:∀i,0 < i->i+1 < n->0 < dt X Y 0 i (i+1)) :
  ∀i j k,i < j->j < k->k < n->0 < dt X Y i j k:=by
 have hH:∀i,0 < i->i < n->0 < X i - X 0\/(X i - X 0=0/\0 < Y i - Y 0):=λi a b=>by
  rcases h0 i a b with h|⟨h,k⟩
  ·exact .inl (by grind)
  ·exact .inr ⟨by grind,by grind⟩
 have fan:∀d i,0 < i->i+1+d < n->0 < dt X Y 0 i (i+1+d):=λd=>by
  induction d with
  |zero=>exactλi a b=>h2 i a b
  |succ d ih =>
   intro i a b;have k1:=ih i a (by omega);have k2:=h2 (i+1+d) (by omega) (by omega);exact ua (hH i a (by omega)) (hH (i+1+d) (by omega) (by omega)) (hH (i+1+d+1) (by omega) (by omega)) k1 k2
 have fan':∀i j,0 < i->i < j->j < n->0 < dt X Y 0 i j:=λi j a b c=>by
  have:=fan (j - (i+1)) i a (by omega)
  rwa [show i+1+(j - (i+1))=j by omega] at this
 have span:∀m i j k,0 < i->i < j->j < k->k < n->k - i<=m->0 < dt X Y i j k:=λm=>by
  induction m with
  |zero=>intro i j k _ a b _ d;omega
  |succ m ih =>
   intro i j k hi a b c d;by_cases e1:j+1=k
   ·subst e1;by_cases e2:i+1=j
    ·subst e2;exact h1 i (by omega)
    ·have t1:=ih i (i+1) j hi (by omega) (by omega) (by omega) (by omega);have t2:=ih (i+1) j (j+1) (by omega) (by omega) (by omega) (by omega) (by omega);refine jl (v:=dt X Y 0 (i+1) j) ?_ (fan' (i+1) j (by omega) (by omega) (by omega));rw [Gq];have s1:=Rat.mul_pos t1 (fan' j (j+1) (by omega) (by omega) (by omega));have s2:=Rat.mul_pos (fan' i j hi a (by omega)) t2
     grind
   ·have t1:=ih i j (k - 1) hi a (by omega) (by omega) (by omega);have t2:=ih j (k - 1) k (by omega) (by omega) (by omega) (by omega) (by omega);refine jl (v:=dt X Y 0 j (k - 1)) ?_ (fan' j (k - 1) (by omega) (by omega) (by omega));rw [Gp];have s1:=Rat.mul_pos t1 (fan' j k (by omega) b c);have s2:=Rat.mul_pos (fan' i j hi a (by omega)) t2
    grind
 intro i j k a b c;rcases Nat.eq_zero_or_pos i with rfl|hi
 ·exact fan' j k a b c
 ·exact span (k - i) i j k hi a b c (Nat.le_refl _)
theorem rZ {X Y:Nat->Rat} {n:Nat} (hn:3<=n) (h:∀i j k,i < j->j < k->k < n->0 < dt X Y i j k) {e i:Nat} (he:e < n) (hi:i < n) (h1:i≠e) (h2:i≠(e+1)%n):0 < dt X Y e ((e+1)%n) i:=by
 by_cases hl:e+1 < n
 ·rw [Nat.mod_eq_of_lt hl] at h2 ⊢;rcases Nat.lt_or_ge i e with h3|h3
  ·rw [yO];exact h i e (e+1) h3 (by omega) hl
  ·exact h e (e+1) i (by omega) (by omega) hi
 ·have e1:e+1=n:=by omega
  rw [e1,Nat.mod_self] at h2 ⊢;rw [<-yO];exact h 0 i e (by omega) (by omega) he
theorem jX {a:Rat}:decide (ao a 0<=0)=false↔0 < a:=by
 rw [decide_eq_false_iff_not];unfold ao;split
 ·rename_i h
  exact⟨λk=>absurd (show(-1:Int)<=0 by decide) k,λk=>by grind⟩
 ·split
  ·rename_i h
   exact⟨λ_=>h,λ_=>by decide⟩
  ·rename_i h
   exact⟨λk=>absurd (show(0:Int)<=0 by decide) k,λk=>absurd k h⟩
theorem gy {a:Rat}:decide (ao a 0 > 0)=true↔0 < a:=by
 rw [decide_eq_true_iff];unfold ao;split
 ·rename_i h
  exact⟨λk=>absurd k (by decide),λk=>by grind⟩
 ·split
  ·rename_i h
   exact⟨λ_=>h,λ_=>by decide⟩
  ·rename_i h
   exact⟨λk=>absurd k (by decide),λk=>absurd k h⟩
theorem uc (p:Nat->PtS) (i j k:Nat):j5 (p i) (p j) (p k)=ao (dt (λi=>(p i).X) (λi=>(p i).Y) i j k) 0:=by
 unfold j5 cL cq;rw [nN,nO,nN,nO];rfl
theorem r5 (p:RatS):DF p p=true:=by
 have h:∀x:ByteArray,(x==x)=true:=λ⟨x⟩=>by
  show(x==x)=true;exact beq_self_eq_true x
 unfold DF;rw [beq_self_eq_true,h,h];rfl
theorem ik (p:PtS):aX p p=true:=by
 unfold aX;rw [r5,r5];rfl
theorem AS {p u:PtS} (h:cu p u < 0):p.X < u.X\/(u.X=p.X/\p.Y < u.Y):=by
 unfold cu at h;split at h
 ·rename_i h0
  unfold ao at h h0;right;split at h
  ·rename_i h1
   refine⟨?_,h1⟩;split at h0
   ·cases h0
   ·split at h0
    ·cases h0
    ·grind
  ·split at h
   ·exact absurd h (by decide)
   ·exact absurd h (by decide)
 ·unfold ao at h;split at h
  ·rename_i h1
   exact .inl h1
  ·split at h
   ·exact absurd h (by decide)
   ·exact absurd h (by decide)
theorem AT {p u:PtS} (h:p.X < u.X\/(u.X=p.X/\p.Y < u.Y)):¬cu u p<=0:=by
 unfold cu ao;rcases h with h|⟨h,k⟩
 ·have h1:¬u.X < p.X:=by grind
  rw [if_neg h1,if_pos h,if_neg (show ¬(1:Int)=0 by decide)];decide
 ·have h1:¬u.Y < p.Y:=by grind
  rw [h,if_neg Rat.lt_irrefl,if_neg Rat.lt_irrefl,if_pos rfl,if_neg h1,if_pos k];decide
theorem mL {n:Nat} {p:Nat->PtS} (h:bH n p=0):bk n p=0:=by
 unfold bH at h;unfold bk;cases h1:(decide (n < 3)||decide (64 < n)) with
 |true=>rw [h1] at h;cases h
 |false =>
  rw [h1,cond_false] at h;rw [cond_false];cases h2:aA (λi=>!ai (p i)) n with
  |true=>rw [h2] at h;cases h
  |false =>
   rw [h2,cond_false] at h;rw [cond_false];cases h3:aA (yN p) (n - 1) with
   |true=>rw [h3] at h;cases h
   |false =>
    rw [h3,cond_false] at h;cases h4:aA (dR n p) n with
    |true=>rw [h4] at h;cases h
    |false =>
     have hn:3<=n:=by
      rw [Bool.or_eq_false_iff,decide_eq_false_iff_not] at h1;omega
     have k0:∀i,0 < i->i < n->(p 0).X < (p i).X\/((p i).X=(p 0).X/\(p 0).Y < (p i).Y):=λi a b=>by
      have:=(aF.1 h3) (i - 1) (by omega);unfold yN at this;rw [decide_eq_false_iff_not,show 1+(i - 1)=i by omega] at this;exact AS (by omega)
     have k1:∀i,i+2 < n->0 < dt (λi=>(p i).X) (λi=>(p i).Y) i (i+1) (i+2):=λi a=>by
      have:=(aF.1 h4) i (by omega);unfold dR at this;rw [Bool.or_eq_false_iff,Nat.mod_eq_of_lt (by omega),Nat.mod_eq_of_lt (by omega),uc] at this;exact jX.1 this.1
     have k2:∀i,0 < i->i+1 < n->0 < dt (λi=>(p i).X) (λi=>(p i).Y) 0 i (i+1):=λi a b=>by
      have:=(aF.1 h4) i (by omega);unfold dR at this;rw [Bool.or_eq_false_iff,decide_eq_true a,decide_eq_true b,Bool.true_and,Bool.true_and,uc p 0 i (i+1)] at this;exact jX.1 this.2
     have hall:=ub (X:=λi=>(p i).X) (Y:=λi=>(p i).Y) (n:=n) k0 k1 k2;rw [aF.2 λi hi=>?_,cond_false,aF.2 λe he=>aF.2 λi hi=>?_]
     ·rfl
     ·unfold dS;by_cases e1:i=e
      ·rw [e1,ik];rfl
      ·by_cases e2:i=(e+1)%n
       ·rw [<-e2,ik,Bool.not_true,Bool.and_false];rfl
       ·rw [uc p e ((e+1)%n) i,jX.2 (rZ hn hall he hi e1 e2),Bool.and_false]
     ·unfold nP;exact decide_eq_false (AT (k0 (1+i) (by omega) (by omega)))
theorem kY {r r':Nat->Int}:∀{k i:Nat},(∀j,i<=j->j < i+k->r j=0->r' j=0)->bM r k i=0->bM r' k i=0
 |0,_,_,_=>rfl
 |k+1,i,h,e=>by
  unfold bM at e ⊢;cases h0:(r i==0) with
  |true =>
   rw [h0,cond_true] at e;rw [h i (Nat.le_refl _) (by omega) (eq_of_beq h0)];exact kY (λj a b=>h j (by omega) (by omega)) e
  |false =>
   rw [h0,cond_false] at e;rw [e] at h0;cases h0
theorem nZ {lo hi:PtS} {k:Nat} {n:Nat->Nat} {r r':Nat->Int} {l:Nat} {q:Nat->Int×Int×Int} (h:∀j,j < k->r j=0->r' j=0) (e:ff lo hi k n r l q=0):ff lo hi k n r' l q=0:=by
 unfold ff at e ⊢;cases h1:(!ai lo||!ai hi) with
 |true=>rw [h1] at e;cases e
 |false =>
  rw [h1,cond_false] at e;cases h2:decide (32 < k) with
  |true=>rw [h2] at e;cases e
  |false =>
   rw [h2,cond_false] at e;have hz:bM r k 0=0:=by
    cases h3:(bM r k 0==0) with
    |true=>exact eq_of_beq h3
    |false=>rw [h3] at e;exact e
   rw [hz] at e;rw [kY (λj _ b=>h j (by omega)) hz];exact e
theorem vp {xs:List PV} (h:rY xs=0):bX (bV xs) (bW xs) (gK xs) (pn (gC xs)) (λi=>ab (pg (gC xs) i)) (gL xs) (ow (gO xs))=0:=by
 rw [Dc];exact nZ (λj _ hj=>mL hj) h
def Hit (n:Nat) (A B:Nat->Rat):Prop:=∃t:Rat,0 < t/\t < 1/\∀e,e < n->0 < A e+(B e - A e)*t
theorem Hit.symm {n:Nat} {A B:Nat->Rat} (h:Hit n A B):Hit n B A:=by
 obtain⟨t,h1,h2,h3⟩:=h;refine⟨1 - t,by grind,by grind,λe he=>?_⟩;have:=h3 e he
 grind
theorem yP {A B:Rat} (h:0 < A):∃t:Rat,0 < t/\t < 1/\∀s:Rat,0 < s->s<=t->0 < A+(B - A)*s:=by
 by_cases hB:0<=B
 ·refine⟨1 / 2,by grind,by grind,λs h1 h2=>?_⟩;have k1:=Rat.mul_nonneg hB (Rat.le_of_lt h1);have k2:=Rat.mul_pos h (show 0 < 1 - s by grind)
  grind
 ·have hd:0 < A - B:=by grind
  have hi:0 < (A - B)⁻¹:=Rat.inv_pos.2 hd;have e:(A - B)*(A - B)⁻¹ = 1:=Rat.mul_inv_cancel _ (by grind);have k0:=Rat.mul_pos h hi;have k1:A*(A - B)⁻¹ < 1:=by
   have:=Rat.mul_pos (show 0 < -B by grind) hi
   grind
  refine⟨A*(A - B)⁻¹*(1 / 2),by grind,by grind,λs h1 h2=>?_⟩;have k2:=Rat.mul_nonneg (Rat.le_of_lt hd) (show 0<=A*(A - B)⁻¹*(1 / 2) - s by grind);have k3:(A - B)*(A*(A - B)⁻¹*(1 / 2) - s)=A*(1 / 2) - (A - B)*s:=by
   have:(A - B)*(A*(A - B)⁻¹*(1 / 2))=A*(1 / 2)*((A - B)*(A - B)⁻¹):=by grind
   grind
  grind
theorem r6 {A B:Nat->Rat}:∀{n:Nat},(∀e,e < n->0 < A e)->∃t:Rat,0 < t/\t < 1/\∀e,e < n->∀s:Rat,0 < s->s<=t->0 < A e+(B e - A e)*s
 |0,_=>⟨1 / 2,by grind,by grind,λe he=>absurd he (Nat.not_lt_zero e)⟩
 |n+1,h=>by
  obtain⟨t,h1,h2,h3⟩:=r6 (A:=A) (B:=B) (n:=n) λe he=>h e (by omega);obtain⟨u,k1,k2,k3⟩:=yP (B:=B n) (h n (by omega));refine⟨if t<=u then t else u,by split<;>assumption,by split<;>assumption,λe he s hs hst=>?_⟩;by_cases hen:e=n
  ·subst hen;exact k3 s hs (by split at hst<;>grind)
  ·exact h3 e (by omega) s hs (by split at hst<;>grind)
theorem Hit.near {n:Nat} {A B:Nat->Rat} (h:∀e,e < n->0 < A e):Hit n A B:=by
 obtain⟨t,h1,h2,h3⟩:=r6 (A:=A) (B:=B) h;exact⟨t,h1,h2,λe he=>h3 e he t h1 Rat.le_refl⟩
theorem Hit.part {n:Nat} {A B C:Nat->Rat} {q:Rat} (h:¬Hit n A B) (h0:0<=q) (h1:q<=1) (hC:∀e,e < n->C e=A e+(B e - A e)*q):¬Hit n A C:=by
 rintro ⟨t,k0,k1,k2⟩;refine h ?_;by_cases hq:q=0
 ·refine Hit.near λe he=>?_;have:=k2 e he;rw [hC e he,hq] at this
  grind
 ·have hq':0 < q:=by grind
  refine⟨q*t,Rat.mul_pos hq' k0,?_,λe he=>?_⟩
  ·have:=Rat.mul_pos hq' (show 0 < 1 - t by grind)
   grind
  ·have:=k2 e he;rw [hC e he] at this
   grind
theorem ud {x y:Rat} {s:Rat×Rat} (h:gD x y s=none) {t:Rat} (h0:0 < t) (h1:t < 1):¬0 < x+(y - x)*t:=by
 unfold gD at h;cases c1:decide (ao x 0 > 0) with
 |true =>
  rw [c1] at h;cases c2:decide (ao y 0 > 0) with
  |true=>rw [c2] at h;cases h
  |false=>rw [c2] at h;cases h
 |false =>
  cases c2:decide (ao y 0 > 0) with
  |true=>rw [c1,c2] at h;cases h
  |false =>
   have e1:¬0 < x:=λk=>by rw [gy.2 k] at c1;cases c1
   have e2:¬0 < y:=λk=>by rw [gy.2 k] at c2;cases c2
   have k1:=Rat.mul_nonneg (show 0 <= -x by grind) (show 0<=1 - t by grind);have k2:=Rat.mul_nonneg (show 0 <= -y by grind) (Rat.le_of_lt h0)
   grind
theorem r7 {a b:Rat}:decide (ao a b > 0)=true↔b < a:=by
 rw [decide_eq_true_iff];unfold ao;split
 ·rename_i h
  exact⟨λk=>absurd k (by decide),λk=>by grind⟩
 ·split
  ·rename_i h
   exact⟨λ_=>h,λ_=>by decide⟩
  ·rename_i h
   exact⟨λk=>absurd k (by decide),λk=>absurd k h⟩
theorem r8 {a b:Rat}:decide (ao a b < 0)=true↔a < b:=by
 rw [decide_eq_true_iff];unfold ao;split
 ·rename_i h
  exact⟨λ_=>h,λ_=>by decide⟩
 ·split
  ·rename_i h h2
   exact⟨λk=>absurd k (by decide),λk=>absurd k h⟩
  ·rename_i h h2
   exact⟨λk=>absurd k (by decide),λk=>absurd k h⟩
theorem r9 {x y t:Rat} (h:0 < x - y):t < x / (x - y)↔0 < x+(y - x)*t:=by
 have hi:0 < (x - y)⁻¹:=Rat.inv_pos.2 h;have e:(x - y)*(x - y)⁻¹ = 1:=Rat.mul_inv_cancel _ (by grind);rw [Rat.div_def];constructor
 ·intro k;have:=Rat.mul_pos (show 0 < x*(x - y)⁻¹ - t by grind) h;have e2:(x*(x - y)⁻¹ - t)*(x - y)=x*((x - y)*(x - y)⁻¹) - t*(x - y):=by grind
  rw [e2,e] at this
  grind
 ·intro k;have:=Rat.mul_pos k hi;have e2:(x+(y - x)*t)*(x - y)⁻¹ = x*(x - y)⁻¹ - t*((x - y)*(x - y)⁻¹):=by grind
  rw [e2,e] at this
  grind
theorem sa {x y t:Rat} (h:x - y < 0):x / (x - y) < t↔0 < x+(y - x)*t:=by
 have hd:0 < y - x:=by grind
 have hi:0 < (y - x)⁻¹:=Rat.inv_pos.2 hd;have e:(y - x)*(y - x)⁻¹ = 1:=Rat.mul_inv_cancel _ (by grind);have e0:x / (x - y) = -x*(y - x)⁻¹:=by
  rw [Rat.div_def];have n1:(x - y)*(x - y)⁻¹ = 1:=Rat.mul_inv_cancel _ (by grind);have:(x - y)⁻¹ = -(y - x)⁻¹:=by
   have k:(x - y)⁻¹*((y - x)*(y - x)⁻¹)=(x - y)⁻¹:=by rw [e,Rat.mul_one]
   have k2:(x - y)⁻¹*((y - x)*(y - x)⁻¹) = -((x - y)*(x - y)⁻¹)*(y - x)⁻¹:=by grind
   rw [n1] at k2
   grind
  rw [this]
  grind
 rw [e0];constructor
 ·intro k;have:=Rat.mul_pos (show 0 < t - -x*(y - x)⁻¹ by grind) hd;have e2:(t - -x*(y - x)⁻¹)*(y - x)=t*(y - x)+x*((y - x)*(y - x)⁻¹):=by grind
  rw [e2,e] at this
  grind
 ·intro k;have:=Rat.mul_pos k hi;have e2:(x+(y - x)*t)*(y - x)⁻¹ = x*(y - x)⁻¹+t*((y - x)*(y - x)⁻¹):=by grind
  rw [e2,e] at this
  grind
theorem mM {x y:Rat} {s s':Rat×Rat} (h:gD x y s=some s'):(s.1<=s'.1/\s'.2<=s.2)/\∀t:Rat,0 < t->t < 1->(s'.1 < t/\t < s'.2↔(s.1 < t/\t < s.2)/\0 < x+(y - x)*t):=by
 unfold gD at h;cases c1:decide (ao x 0 > 0) with
 |true =>
  have e1:=gy.1 c1;rw [c1] at h;cases c2:decide (ao y 0 > 0) with
  |true =>
   have e2:=gy.1 c2;rw [c2] at h;cases h;refine⟨⟨Rat.le_refl,Rat.le_refl⟩,λt h0 h1=>⟨λk=>⟨k,?_⟩,λk=>k.1⟩⟩;have k1:=Rat.mul_pos e1 (show 0 < 1 - t by grind);have k2:=Rat.mul_pos e2 h0
   grind
  |false =>
   have e2:¬0 < y:=λk=>by rw [gy.2 k] at c2;cases c2
   rw [c2] at h;have hl:=λt=>r9 (x:=x) (y:=y) (t:=t) (by grind);cases c3:decide (ao (x / (x - y)) s.2 < 0) with
   |true =>
    have e3:=r8.1 c3;rw [c3] at h;cases h;refine⟨⟨Rat.le_refl,Rat.le_of_lt e3⟩,λt h0 h1=>⟨λk=>⟨⟨k.1,?_⟩,(hl t).1 k.2⟩,λk=>⟨k.1.1,(hl t).2 k.2⟩⟩⟩;have:t < x / (x - y):=k.2
    grind
   |false =>
    have e3:¬x / (x - y) < s.2:=λk=>by rw [r8.2 k] at c3;cases c3
    rw [c3] at h;cases h;refine⟨⟨Rat.le_refl,Rat.le_refl⟩,λt h0 h1=>⟨λk=>⟨k,(hl t).1 ?_⟩,λk=>k.1⟩⟩;have:t < s.2:=k.2
    grind
 |false =>
  have e1:¬0 < x:=λk=>by rw [gy.2 k] at c1;cases c1
  rw [c1] at h;cases c2:decide (ao y 0 > 0) with
  |false=>rw [c2] at h;cases h
  |true =>
   have e2:=gy.1 c2;rw [c2] at h;have hl:=λt=>sa (x:=x) (y:=y) (t:=t) (by grind);cases c3:decide (ao (x / (x - y)) s.1 > 0) with
   |true =>
    have e3:=r7.1 c3;rw [c3] at h;cases h;refine⟨⟨Rat.le_of_lt e3,Rat.le_refl⟩,λt h0 h1=>⟨λk=>⟨⟨?_,k.2⟩,(hl t).1 k.1⟩,λk=>⟨(hl t).2 k.2,k.1.2⟩⟩⟩;have:x / (x - y) < t:=k.1
    grind
   |false =>
    have e3:¬s.1 < x / (x - y):=λk=>by rw [r7.2 k] at c3;cases c3
    rw [c3] at h;cases h;refine⟨⟨Rat.le_refl,Rat.le_refl⟩,λt h0 h1=>⟨λk=>⟨k,(hl t).1 ?_⟩,λk=>k.1⟩⟩;have:s.1 < t:=k.1
    grind
def gF (n:Nat) (p:Nat->PtS) (a:PtS) (e:Nat):Rat:=sx (p e) (p ((e+1)%n)) a
theorem mN {n:Nat} {p:Nat->PtS} {a b:PtS}:∀{k e:Nat} {s:Rat×Rat},dC n p a b k e s=none->∀t:Rat,0 < t->t < 1->¬((s.1 < t/\t < s.2)/\∀i,e<=i->i < e+k->0 < gF n p a i+(gF n p b i - gF n p a i)*t)
 |0,_,_,h=>by cases h
 |k+1,e,s,h=>by
  intro t h0 h1 ⟨hs,hg⟩;unfold dC at h;cases hst:gD (sx (p e) (p ((e+1)%n)) a) (sx (p e) (p ((e+1)%n)) b) s with
  |none=>exact ud hst h0 h1 (hg e (Nat.le_refl _) (by omega))
  |some s' =>
   rw [hst] at h;exact mN h t h0 h1 ⟨((mM hst).2 t h0 h1).2 ⟨hs,hg e (Nat.le_refl _) (by omega)⟩,λi a b=>hg i (by omega) (by omega)⟩
theorem mO {n:Nat} {p:Nat->PtS} {a b:PtS}:∀{k e:Nat} {s s':Rat×Rat},dC n p a b k e s=some s'->(s.1<=s'.1/\s'.2<=s.2)/\∀t:Rat,0 < t->t < 1->(s'.1 < t/\t < s'.2↔(s.1 < t/\t < s.2)/\∀i,e<=i->i < e+k->0 < gF n p a i+(gF n p b i - gF n p a i)*t)
 |0,_,_,_,h=>by
  cases h;exact⟨⟨Rat.le_refl,Rat.le_refl⟩,λt _ _=>⟨λk=>⟨k,λi a b=>by omega⟩,λk=>k.1⟩⟩
 |k+1,e,s,s',h=>by
  unfold dC at h;cases hst:gD (sx (p e) (p ((e+1)%n)) a) (sx (p e) (p ((e+1)%n)) b) s with
  |none=>rw [hst] at h;cases h
  |some s1 =>
   rw [hst] at h;obtain⟨k1,k2⟩:=mM hst;obtain⟨k3,k4⟩:=mO h;refine⟨⟨Rat.le_trans k1.1 k3.1,Rat.le_trans k3.2 k1.2⟩,λt h0 h1=>?_⟩;rw [k4 t h0 h1,k2 t h0 h1];constructor
   ·rintro ⟨⟨u,v⟩,w⟩;refine⟨u,λi x y=>?_⟩;by_cases hi:i=e
    ·subst hi;exact v
    ·exact w i (by omega) (by omega)
   ·rintro ⟨u,w⟩;exact⟨⟨u,w e (Nat.le_refl _) (by omega)⟩,λi x y=>w i (by omega) (by omega)⟩
theorem w8 {n:Nat} {p:Nat->PtS} {a b:PtS} (hB:gE n p a b=false):dh n p a b=none↔¬Hit n (gF n p a) (gF n p b):=by
 unfold dh;rw [hB,cond_false,Rat.zero_mkRat,show mkRat 1 1=(1:Rat) by rfl];cases hF:dC n p a b n 0 (0,1) with
 |none =>
  refine⟨λ_=>?_,λ_=>rfl⟩;rintro ⟨t,h0,h1,h2⟩;exact mN hF t h0 h1 ⟨⟨h0,h1⟩,λi _ hi=>h2 i (by omega)⟩
 |some s =>
  obtain⟨⟨k1,k2⟩,k3⟩:=mO hF;have k1:0<=s.1:=k1;have k2:s.2<=1:=k2;cases hc:decide (ao s.1 s.2>=0) with
  |true =>
   refine⟨λ_=>?_,λ_=>by simp only [Option.bind_some,hc,cond_true]⟩;rintro ⟨t,h0,h1,h2⟩;have:=(k3 t h0 h1).2 ⟨⟨h0,h1⟩,λi _ hi=>h2 i (by omega)⟩;have hlt:s.1 < s.2:=by grind
   have hc:ao s.1 s.2>=0:=of_decide_eq_true hc;unfold ao at hc;rw [if_pos hlt] at hc;exact absurd hc (by decide)
  |false =>
   have hlt:s.1 < s.2:=by
    have hc:¬ao s.1 s.2>=0:=of_decide_eq_false hc;unfold ao at hc;split at hc
    ·rename_i h
     exact h
    ·split at hc
     ·exact absurd (show(1:Int)>=0 by decide) hc
     ·exact absurd (show(0:Int)>=0 by decide) hc
   constructor
   ·intro h;simp only [Option.bind_some,hc,cond_false] at h;cases h
   ·intro h;refine absurd ?_ h;have m0:0 < (s.1+s.2)*(1 / 2):=by grind
    have m1:(s.1+s.2)*(1 / 2) < 1:=by grind
    exact⟨(s.1+s.2)*(1 / 2),m0,m1,λe he=>((k3 _ m0 m1).1 ⟨by grind,by grind⟩).2 e (Nat.zero_le _) (by omega)⟩
theorem Df {n:Nat} {p:Nat->PtS} {a b c:PtS} {q:Rat} (hx:c.X=a.X+(b.X - a.X)*q) (hy:c.Y=a.Y+(b.Y - a.Y)*q) (e:Nat):gF n p c e=gF n p a e+(gF n p b e - gF n p a e)*q:=by
 unfold gF sx cL cq;simp only [nN,nO];rw [hx,hy]
 grind
theorem AU {i:Nat} {lo hi a b c:PtS} {q:Rat} (hx:c.X=a.X+(b.X - a.X)*q) (hy:c.Y=a.Y+(b.Y - a.Y)*q):aL i lo hi c=aL i lo hi a+(aL i lo hi b - aL i lo hi a)*q:=by
 unfold aL;split
 ·rw [hx];grind
 ·rw [hx];grind
 ·rw [hy];grind
 ·rw [hy];grind
structure SeeM (lo hi:PtS) (k:Nat) (c:Nat->List PV) (a b:PtS):Prop where
 inA:∀i,i < 4->aL i lo hi a<=0
 inB:∀i,i < 4->aL i lo hi b<=0
 clear:∀i,i < k->¬Hit (pn c i) (gF (pn c i) (ab (pg c i)) a) (gF (pn c i) (ab (pg c i)) b)
theorem SeeM.symm {lo hi:PtS} {k:Nat} {c:Nat->List PV} {a b:PtS} (h:SeeM lo hi k c a b):SeeM lo hi k c b a :=
 ⟨h.inB,h.inA,λi hi k=>h.clear i hi k.symm⟩
theorem SeeM.part {lo hi:PtS} {k:Nat} {c:Nat->List PV} {a b d:PtS} (h:SeeM lo hi k c a b) {q:Rat} (h0:0<=q) (h1:q<=1) (hx:d.X=a.X+(b.X - a.X)*q) (hy:d.Y=a.Y+(b.Y - a.Y)*q):SeeM lo hi k c a d:=by
 refine⟨h.inA,λi h4=>?_,λi hi=>Hit.part (h.clear i hi) h0 h1 λe _=>Df hx hy e⟩;rw [AU hx hy];have k1:=h.inA i h4;have k2:=h.inB i h4;have k3:=Rat.mul_nonneg (show 0 <= -aL i lo hi a by grind) (show 0<=1 - q by grind);have k4:=Rat.mul_nonneg (show 0 <= -aL i lo hi b by grind) h0
 grind
theorem SeeM.self {lo hi:PtS} {k:Nat} {c:Nat->List PV} {a b:PtS} (h:SeeM lo hi k c a b):SeeM lo hi k c a a :=
 h.part (q:=0) Rat.le_refl (by grind) (by grind) (by grind)
theorem mP {lo hi:PtS} {n:Nat->Nat} {p:Nat->Nat->PtS} {a b:PtS}:∀{j:Nat},aG lo hi n p a b j=[]↔∀i,i < j->(if i < 4 then dT i lo hi a b else rK (i - 4) (n (i - 4)) (p (i - 4)) a b)=[]
 |0=>⟨λ_ i hi=>absurd hi (Nat.not_lt_zero i),λ_=>rfl⟩
 |j+1=>by
  rw [aG,List.append_eq_nil_iff,mP];constructor
  ·rintro ⟨h1,h2⟩ i hi;by_cases e:i=j
   ·rw [e];exact h2
   ·exact h1 i (by omega)
  ·intro h;exact⟨λi hi=>h i (by omega),h j (by omega)⟩
theorem se {i:Nat} {lo hi a b:PtS}:dT i lo hi a b=[]↔aL i lo hi a<=0/\aL i lo hi b<=0:=by
 have hq:∀x:Rat,decide (ao x 0<=0)=true↔x<=0:=λx=>by
  cases h:decide (ao x 0<=0) with
  |false =>
   have:=jX.1 h;exact⟨λk=>(by cases k),λk=>by grind⟩
  |true =>
   refine⟨λ_=>?_,λ_=>rfl⟩;by_cases hx:0 < x
   ·rw [jX.2 hx] at h;cases h
   ·grind
 unfold dT;cases h:(decide (ao (aL i lo hi a) 0<=0)&&decide (ao (aL i lo hi b) 0<=0)) with
 |true =>
  rw [Bool.and_eq_true,hq,hq] at h;exact⟨λ_=>h,λ_=>rfl⟩
 |false =>
  refine⟨λk=>(by cases k),λk=>?_⟩;rw [(hq _).2 k.1,(hq _).2 k.2] at h;cases h
theorem sf {i n:Nat} {p:Nat->PtS} {a b:PtS} (hB:gE n p a b=false):rK i n p a b=[]↔¬Hit n (gF n p a) (gF n p b):=by
 rw [<-w8 hB];unfold rK;cases dh n p a b with
 |none=>exact⟨λ_=>rfl,λ_=>rfl⟩
 |some s=>exact⟨λk=>(by cases k),λk=>by cases k⟩
theorem kC {lo hi:PtS} {k:Nat} {n:Nat->Nat} {p:Nat->Nat->PtS} {l:Nat} {q:Nat->Int×Int×Int} (h:bX lo hi k n p l q=0):∀i,i < k->bk (n i) (p i)=0:=by
 have hf:∀{r:Nat->Int} {k i:Nat},bM r k i=0->∀j,i<=j->j < i+k->r j=0:=λ{r k}=>by
  induction k with
  |zero=>intro i _ j a b;omega
  |succ k ih =>
   intro i h j a b;unfold bM at h;cases h0:(r i==0) with
   |true =>
    rw [h0,cond_true] at h;by_cases e:j=i
    ·rw [e];exact eq_of_beq h0
    ·exact ih h j (by omega) (by omega)
   |false =>
    rw [h0,cond_false] at h;rw [h] at h0;cases h0
 intro i hik;unfold bX at h;cases h1:(!ai lo||!ai hi) with
 |true=>rw [h1] at h;cases h
 |false =>
  rw [h1,cond_false] at h;cases h2:decide (32 < k) with
  |true=>rw [h2] at h;cases h
  |false =>
   rw [h2,cond_false] at h;have hz:bM (λi=>bk (n i) (p i)) k 0=0:=by
    cases h3:(bM (λi=>bk (n i) (p i)) k 0==0) with
    |true=>exact eq_of_beq h3
    |false=>rw [h3] at h;exact h
   exact hf hz i (Nat.zero_le _) (by omega)
theorem eZ {lo hi:PtS} {k:Nat} {c:Nat->List PV} {l:Nat} {o:Nat->List PV} {a b:PtS} (hr:bX lo hi k (pn c) (λi=>ab (pg c i)) l (ow o)=0) (ha:ai a=true) (hb:ai b=true):a7 lo hi k c l o a b=true↔SeeM lo hi k c a b:=by
 have ok:fP lo hi k c l o (ar a b)=true:=by
  show(!(!ai a||!ai b)&&(bX lo hi k (pn c) (λi=>ab (pg c i)) l (ow o)==0))=true;rw [ha,hb,hr];rfl
 have hB:∀i,i < k->gE (pn c i) (ab (pg c i)) a b=false:=λi hi=>by
  unfold gE;rw [kC hr i hi,ha,hb];rfl
 unfold a7;rw [ok,Bool.true_and,List.isEmpty_iff];show aG lo hi (pn c) (λi=>ab (pg c i)) a b (k+4)=[]↔_;rw [mP];constructor
 ·intro h;have h4:∀i,i < 4->aL i lo hi a<=0/\aL i lo hi b<=0:=λi hi=>by
   have:=h i (by omega);rw [if_pos hi] at this;exact se.1 this
  refine⟨λi hi=>(h4 i hi).1,λi hi=>(h4 i hi).2,λi hi=>?_⟩;have:=h (i+4) (by omega);rw [if_neg (by omega),Nat.add_sub_cancel] at this;exact(sf (hB i hi)).1 this
 ·intro h i hi;split
  ·rename_i h4
   exact se.2 ⟨h.inA i h4,h.inB i h4⟩
  ·rename_i h4
   exact(sf (hB (i - 4) (by omega))).2 (h.clear (i - 4) (by omega))
def bJ (p q:PtS) (C:Nat->PtS):Nat->List PtS
 |0=>[p,q]
 |j+1=>bJ p q C j++(bif !aX (C j) p&&!aX (C j) q then [C j] else [])
def cN (S:PtS->PtS->Bool) (P:Nat->PtS) (i:Nat):Nat->List (Int×Int)
 |0=>[]
 |d+1=>cN S P i d++(bif S (P i) (P (i+1+d)) then [((i:Int),((i+1+d:Nat):Int))] else [])
def bh (S:PtS->PtS->Bool) (P:Nat->PtS) (n:Nat):Nat->List (Int×Int)
 |0=>[]
 |i+1=>bh S P n i++cN S P i (n - (i+1))
theorem Gr {L:List PtS} {x:PtS} {r:Nat->List PV} (h:r 0=x.cells):∀i,i < L.length+1->(ae (L++[x]) i).cells=gH L.length (λi=>(ae L i).cells) r i:=λi hi=>by
 unfold gH ae;by_cases hl:i < L.length
 ·rw [if_pos hl,List.getElem?_append_left hl]
 ·obtain rfl:i=L.length:=by omega
  rw [if_neg hl,Nat.sub_self,h];simp
theorem jY (p q:PtS) (C:Nat->PtS):∀j,2<=(bJ p q C j).length/\(bJ p q C j).length<=j+2
 |0=>⟨Nat.le_refl _,Nat.le_refl _⟩
 |j+1=>by
  have:=jY p q C j;unfold bJ;rw [List.length_append];cases (!aX (C j) p&&!aX (C j) q)<;>simp<;>omega
theorem kD {p q:PtS} {C:Nat->PtS} (hp:p.le 10000) (hq:q.le 10000):∀{j:Nat},(∀i,i < j->(C i).le 10000)->∀x∈bJ p q C j,x.le 10000
 |0,_,x,hx=>by
  rcases List.mem_cons.1 hx with rfl|hx
  ·exact hp
  ·rw [List.mem_singleton.1 hx];exact hq
 |j+1,hC,x,hx=>by
  unfold bJ at hx;rcases List.mem_append.1 hx with hx|hx
  ·exact kD hp hq (λi hi=>hC i (by omega)) x hx
  ·cases hb:(!aX (C j) p&&!aX (C j) q) with
   |true =>
    rw [hb] at hx;rw [List.mem_singleton.1 hx];exact hC j (by omega)
   |false=>rw [hb] at hx;cases hx
theorem pI (S:PtS->PtS->Bool) (P:Nat->PtS) (i:Nat):∀d,(cN S P i d).length<=d
 |0=>Nat.le_refl _
 |d+1=>by
  have:=pI S P i d;unfold cN;rw [List.length_append];cases S (P i) (P (i+1+d))<;>simp<;>omega
theorem pJ (S:PtS->PtS->Bool) (P:Nat->PtS) (n:Nat):∀i,(bh S P n i).length<=i*n
 |0=>Nat.zero_le _
 |i+1=>by
  have:=pJ S P n i;have h2:=pI S P i (n - (i+1));unfold bh;rw [List.length_append,Nat.succ_mul];omega
def d7 (lo hi:PtS) (k:Nat) (c:Nat->List PV) (l:Nat) (o:Nat->List PV) (p q:PtS):Int:=bif fP lo hi k c l o (ar p q) then bif a7 lo hi k c l o p p&&a7 lo hi k c l o q q then bif aX p q then 12 else 0 else 16 else 1
def cF (lo hi:PtS) (k:Nat) (c:Nat->List PV) (l:Nat) (o:Nat->List PV) (p q:PtS):List PtS:=bif d7 lo hi k c l o p q==0 then bJ p q (ae (di lo hi k c l o)) (di lo hi k c l o).length else []
def gG (lo hi:PtS) (k:Nat) (c:Nat->List PV) (l:Nat) (o:Nat->List PV) (p q:PtS):List (Int×Int):=bh (a7 lo hi k c l o) (ae (cF lo hi k c l o p q)) (cF lo hi k c l o p q).length (cF lo hi k c l o p q).length
end Go.Num
namespace Go.Proofs
def GX:List PV->Option Ans
 |[.agg xs,.val v,.val u]=>some ⟨some ((isRg 10000 xs/\isPk 10000 v/\isPk 10000 u)/\(au (bV xs) (bW xs) (gK xs) (gC xs) (gL xs) (gO xs)).length<=500),
  .tup [.agg [.rs 6 (cF (bV xs) (bW xs) (gK xs) (gC xs) (gL xs) (gO xs) (aN v) (aN u)).length (λi=>(ae (cF (bV xs) (bW xs) (gK xs) (gC xs) (gL xs) (gO xs) (aN v) (aN u)) i).cells),.rs 2 (gG (bV xs) (bW xs) (gK xs) (gC xs) (gL xs) (gO xs) (aN v) (aN u)).length (λi=>aD (qL (gG (bV xs) (bW xs) (gK xs) (gC xs) (gL xs) (gO xs) (aN v) (aN u)) i))],.val (.int .i64 (d7 (bV xs) (bW xs) (gK xs) (gC xs) (gL xs) (gO xs) (aN v) (aN u)))],[]⟩
 |_=>none
def D14:Opt:={ perm:=jm 21 (rds 7) }
theorem IF:am D14.toOrd Tryz.f14 3=true:=by kernel_rfl
theorem f14:FnOk Tryz.prog 14 GX:=by
 refine FnOk.ofW aj (an (l:=[(55,FG),(56,FR),(57,GR)]) (own:=[]) (inl:=[]) (by simp [f55,f56,f57]) (by simp)) Tryz.func14 D14 3 IF λargs r e=>?_;unfold GX at e;split at e
 ·rename_i xs v u
  cases e;refine⟨by simp,λhm=>?_⟩;obtain⟨⟨⟨h1,⟨hlo,hhi⟩,hcl,hol⟩,⟨a,rfl,ha⟩,b,rfl,hb⟩,hN0⟩:=hm _ rfl;generalize bV xs=lo at *
  generalize bW xs=hi at *
  generalize gK xs=k at *
  generalize gC xs=c at *
  generalize gL xs=l at *
  generalize gO xs=o at *
  subst h1;clear hm;refine⟨[],aa [(0,.agg (br lo hi k c l o)),(1,.val a.v),(2,.val b.v)] [] 0 [],Wo trivial ⟨⟨rfl,rfl,rfl,rfl,rfl,rfl,rfl,rfl,rfl,rfl,rfl,rfl,qW,qW,qQ⟩,rfl,rfl,qQ⟩ trivial,?_⟩;have ha':=ha.mono (show 10000<=4294967296 by decide);have hb':=hb.mono (show 10000<=4294967296 by decide);have hcl':bU 10000 k (λi=>[.rs 6 (pn c i) (pg c i)]):=⟨λi hi=>⟨rfl,(hcl.1 i hi).2⟩,hcl.2⟩;have hol':cX l (λi=>ag (ow o i)):=⟨λ_ _=>rfl,hol.2⟩;have hrg':((lo.le 4294967296/\hi.le 4294967296)/\bU 10000 k (λi=>[.rs 6 (pn c i) (pg c i)])/\cX l (λi=>ag (ow o i))):=⟨⟨hlo.mono (by decide),hhi.mono (by decide)⟩,hcl',hol'⟩;have hrg3:((lo.le 10000/\hi.le 10000)/\bU 10000 k (λi=>[.rs 6 (pn c i) (pg c i)])/\cX l (λi=>ag (ow o i))):=⟨⟨hlo,hhi⟩,hcl',hol'⟩;obtain⟨OK,hOK⟩:∃OK,OK=fP lo hi k c l o (ar a b):=⟨_,rfl⟩;obtain⟨S,hS⟩:∃S,S=a7 lo hi k c l o:=⟨_,rfl⟩;have hSN:a7 lo hi k (λi=>[.rs 6 (pn c i) (pg c i)]) l (λi=>ag (ow o i))=S:=by
   rw [hS];rfl
  obtain⟨C,hC⟩:∃C,C=ae (di lo hi k c l o):=⟨_,rfl⟩;have hCN:ae (di lo hi k (λi=>[.rs 6 (pn c i) (pg c i)]) l (λi=>ag (ow o i)))=C:=by
   rw [hC];rfl
  obtain⟨N,hNN⟩:∃N,N=(di lo hi k c l o).length:=⟨_,rfl⟩;have hNNN:(di lo hi k (λi=>[.rs 6 (pn c i) (pg c i)]) l (λi=>ag (ow o i))).length=N:=by
   rw [hNN];rfl
  obtain⟨BE,hBE⟩:∃BE,BE=d7 lo hi k c l o a b:=⟨_,rfl⟩;obtain⟨BP,hBP⟩:∃BP,BP=cF lo hi k c l o a b:=⟨_,rfl⟩;obtain⟨BL,hBL⟩:∃BL,BL=gG lo hi k c l o a b:=⟨_,rfl⟩;show zC _ _ _ _ _ ⟨_,.tup [.agg [.rs 6 (cF lo hi k c l o a b).length (λi=>(ae (cF lo hi k c l o a b) i).cells),.rs 2 (gG lo hi k c l o a b).length (λi=>aD (qL (gG lo hi k c l o a b) i))],.val (.int .i64 (d7 lo hi k c l o a b))],[]⟩;rw [<-hBE,<-hBP,<-hBL];have e0:BE=bif OK then bif S a a&&S b b then bif aX a b then 12 else 0 else 16 else 1:=by rw [hBE,d7,<-hOK,<-hS]
  have e1:BP=bif BE==0 then bJ a b C N else []:=by rw [hBP,cF,<-hBE,<-hC,<-hNN]
  have e2:BL=bh S (ae BP) BP.length BP.length:=by rw [hBL,gG,<-hBP,<-hS]
  have hN:N<=500:=by
   rw [hNN];exact Nat.le_trans (jV _ _) hN0
  have cn:∀r:Nat->List PV,ab r 0=a->ab r 1=b->aA (λi=>!ai (ab r i)) 2=(!ai a||!ai b):=λr h h'=>by
   have e:List.range 2=[0,1]:=rfl;simp only [aA,e,List.any_cons,List.any_nil,Bool.or_false,h,h']
  have p2:∀r:Nat->List PV,r 0=a.cells->r 1=b.cells->isPL 4294967296 2 r:=λr h h'=>⟨λi hi=>by
   match i,hi with
   |0,_=>exact⟨by rw [ab,h];rfl,by rw [ab,h];exact ha'⟩
   |1,_=>exact⟨by rw [ab,h'];rfl,by rw [ab,h'];exact hb'⟩
   |i+2,h=>omega,by decide⟩
  have q1:∀r:Nat->List PV,ab r 0=a->ab r 1=b->((bX lo hi k (pn (λi=>[.rs 6 (pn c i) (pg c i)])) (λi=>ab (pg (λi=>[.rs 6 (pn c i) (pg c i)]) i)) l (ow (λi=>ag (ow o i)))==0)&&!aA (λi=>!ai (ab r i)) 2)=OK:=λr h h'=>by
   rw [cn r h h',hOK,Bool.and_comm];rfl
  have z:∀B:Bool,(bY B != 0)=true->B=false:=λB h=>by cases B<;>first|rfl|cases h
  have z':∀B:Bool,(bY B != 0)=false->B=true:=λB h=>by cases B<;>first|rfl|cases h
  have bad:BE≠0->BP.length=0/\BL.length=0:=λh=>by
   have h0:(BE==0)=false:=by simpa using h
   have h1:BP=[]:=by rw [e1,h0];rfl
   exact⟨by rw [h1];rfl,by rw [e2,h1];rfl⟩
  have sA:∀B,B=S->∀x y,B x y=S x y:=λB h x y=>by rw [h]
  have neq:∀B:Bool,(!B)=true->B=false:=λB h=>by simpa using h
  have neq':∀B:Bool,(!B)=false->B=true:=λB h=>by simpa using h
  have h57:((lo.le 10000/\hi.le 10000)/\bU 10000 k (λi=>[.rs 6 (pn c i) (pg c i)])/\cX l (λi=>ag (ow o i)))/\(au lo hi k (λi=>[.rs 6 (pn c i) (pg c i)]) l (λi=>ag (ow o i))).length<=500:=⟨hrg3,hN0⟩;have hrow:∀i,i < N->(C i).cells=(ae (di lo hi k (λi=>[.rs 6 (pn c i) (pg c i)]) l (λi=>ag (ow o i))) i).cells:=λi _=>by rw [hCN]
  have hlen:PV.val (.int .i64 ((di lo hi k (λi=>[.rs 6 (pn c i) (pg c i)]) l (λi=>ag (ow o i))).length:Int))=PV.val (goInt N):=by
   rw [hNNN];rfl
  have r0:∀r:Nat->List PV,r 0=a.cells->r 1=b.cells->∀i,i < 2->(ae (bJ a b C 0) i).cells=r i:=λr h h' i hi=>by
   match i,hi with
   |0,_=>exact h.symm
   |1,_=>exact h'.symm
  have hCle:∀i,i < N->(C i).le 10000:=by
   rw [hNN,hC];exactλi hi=>gb (mI hcl) hi
  with_unfolding_all refine⟨⟨hrg',p2 _ rfl rfl⟩,λh1=>?_,λh1=>?_⟩
  ·have h2:OK=false:=(q1 _ rfl rfl).symm.trans (z _ h1);have hb1:BE=1:=by rw [e0,h2];rfl
   have hb0:BE≠0:=by rw [hb1];decide
   have v2:∀B,B=OK->PV.val (.int .i64 (bY B))=PV.val (.int .i64 BE):=λB h=>by rw [h,h2,hb1];rfl
   with_unfolding_all exact⟨[some 3],aa [(6,.ptr 0 0 0 0),(7,.val (.int .i64 BE))] [⟨37,2,0,true,false,1,λ_=>[.rs 6 BP.length (λi=>(ae BP i).cells),.rs 2 BL.length (λi=>aD (qL BL i))]⟩] 1 [],Wo ⟨qZ ⟨⟨⟨rfl,(bad hb0).1⟩,rfl⟩,⟨⟨rfl,(bad hb0).2⟩,rfl⟩,qQ⟩,qQ⟩ ⟨pP,v2 _ (q1 _ rfl rfl),qQ⟩ trivial,rfl,rfl⟩
  ·have hk:OK=true:=(q1 _ rfl rfl).symm.trans (z' _ h1);have b16:S a a=false\/S b b=false->BE=16:=λh=>by
    rw [e0,hk];rcases h with h|h
    ·rw [h];rfl
    ·rw [h,Bool.and_false];rfl
   have b12:S a a=true->S b b=true->aX a b=true->BE=12:=λh h' h2=>by rw [e0,hk,h,h',h2];rfl
   have n16:BE=16->BE≠0:=λh=>by rw [h];decide
   have n12:BE=12->BE≠0:=λh=>by rw [h];decide
   have v16:BE=16->PV.val (.int .i64 16)=PV.val (.int .i64 BE):=λh=>by rw [h]
   have v12:BE=12->PV.val (.int .i64 12)=PV.val (.int .i64 BE):=λh=>by rw [h]
   have fs:∀x,(!a7 lo hi k (λi=>[.rs 6 (pn c i) (pg c i)]) l (λi=>ag (ow o i)) x x)=true->S x x=false:=λx h=>by rw [<-hSN];exact neq _ h
   have ft:∀x,(!a7 lo hi k (λi=>[.rs 6 (pn c i) (pg c i)]) l (λi=>ag (ow o i)) x x)=false->S x x=true:=λx h=>by rw [<-hSN];exact neq' _ h
   with_unfolding_all refine⟨⟨hrg3,⟨a,rfl,ha⟩,a,rfl,ha⟩,λh2=>⟨⟨hrg3,⟨b,rfl,hb⟩,b,rfl,hb⟩,λh3=>⟨[some 3],aa [(6,.ptr 0 0 0 0),(7,.val (.int .i64 BE))] [⟨37,2,0,true,false,1,λ_=>[.rs 6 BP.length (λi=>(ae BP i).cells),.rs 2 BL.length (λi=>aD (qL BL i))]⟩] 1 [],Wo ⟨qZ ⟨⟨⟨rfl,(bad (n16 (b16 (.inr (fs b h3))))).1⟩,rfl⟩,⟨⟨rfl,(bad (n16 (b16 (.inr (fs b h3))))).2⟩,rfl⟩,qQ⟩,qQ⟩ ⟨pP,v16 (b16 (.inr (fs b h3))),qQ⟩ trivial,rfl,rfl⟩,λh3=>⟨λh4=>⟨[some 3],aa [(6,.ptr 0 0 0 0),(7,.val (.int .i64 BE))] [⟨37,2,0,true,false,1,λ_=>[.rs 6 BP.length (λi=>(ae BP i).cells),.rs 2 BL.length (λi=>aD (qL BL i))]⟩] 1 [],Wo ⟨qZ ⟨⟨⟨rfl,(bad (n12 (b12 (ft a h2) (ft b h3) h4))).1⟩,rfl⟩,⟨⟨rfl,(bad (n12 (b12 (ft a h2) (ft b h3) h4))).2⟩,rfl⟩,qQ⟩,qQ⟩ ⟨pP,v12 (b12 (ft a h2) (ft b h3) h4),qQ⟩ trivial,rfl,rfl⟩,λh4=>⟨h57,Nat,λj=>(OK=true/\S a a=true/\S b b=true/\aX a b=false)/\j<=N,λj=>aa [(3,.ptr 0 0 0 0),(4,.ptr 1 1 0 0),(5,.ptr 2 2 0 0),(6,.ptr 3 3 0 0),(9,.ptr 4 4 0 0),(46,.rs 6 N (λi=>(C i).cells)),(47,.val (goInt N)),(48,.val (goInt j))] [⟨31,14,0,true,false,1,λ_=>br lo hi k c l o⟩,⟨25,6,1,true,false,1,λ_=>a.cells⟩,⟨25,6,2,true,false,1,λ_=>b.cells⟩,⟨37,2,3,true,false,1,λ_=>[.val (.slice none 0 0),.val (.slice none 0 0)]⟩,⟨37,2,4,true,false,1,λ_=>[.sl 5 5 0 (bJ a b C j).length,.val (.slice none 0 0)]⟩,⟨25,6,5,false,false,(bJ a b C j).length,λi=>(ae (bJ a b C j) i).cells⟩] 6 [],λj=>N - j,⟨0,[some 0,some 1,some 2,some 3,some 6,some 5],⟨⟨hk,ft a h2,ft b h3,h4⟩,Nat.zero_le _⟩,Wo ⟨qZ ⟨rq,rq,rq,rq,rq,rq,rq,rq,rq,rq,rq,rq,⟨qW,rfl⟩,⟨qW,rfl⟩,qQ⟩,qK,qK,qJ,qZ ⟨⟨pP,rfl⟩,rq,qQ⟩,qZ (r0 _ rfl rfl),qQ⟩ ⟨pP,pP,pP,pP,pP,⟨rfl,hNNN,hrow⟩,hlen,rfl,qQ⟩ trivial⟩,λj hj=>?_⟩⟩⟩,λh2=>⟨λ_=>⟨[some 3],aa [(6,.ptr 0 0 0 0),(7,.val (.int .i64 BE))] [⟨37,2,0,true,false,1,λ_=>[.rs 6 BP.length (λi=>(ae BP i).cells),.rs 2 BL.length (λi=>aD (qL BL i))]⟩] 1 [],Wo ⟨qZ ⟨⟨⟨rfl,(bad (n16 (b16 (.inl (fs a h2))))).1⟩,rfl⟩,⟨⟨rfl,(bad (n16 (b16 (.inl (fs a h2))))).2⟩,rfl⟩,qQ⟩,qQ⟩ ⟨pP,v16 (b16 (.inl (fs a h2))),qQ⟩ trivial,rfl,rfl⟩,λh=>(nomatch h)⟩⟩
   obtain⟨⟨g1,g2,g3,g4⟩,hjN⟩:(OK=true/\S a a=true/\S b b=true/\aX a b=false)/\j<=N:=hj;with_unfolding_all refine⟨λh1=>?_,λh1=>?_⟩
   ·have h1:(j:Int) < N:=bL h1;have ej:(j:Int).toNat=j:=Int.toNat_natCast j;have hjN1:j+1<=N:=by omega
    have hμ : N - (j+1) < N - j:=by omega
    have hkl:=jY a b C j;have wj:PV.val (.int .i64 (IntKind.i64.wrap ((j:Int)+1)))=PV.val (.int .i64 ((j+1:Nat):Int)):=by
     rw [wrap64 (by omega) (by omega)];rfl
    have e3:aX (C j) a=false->aX (C j) b=false->bJ a b C (j+1)=bJ a b C j++[C j]:=λh h'=>by rw [bJ,h,h'];rfl
    have e4:(!aX (C j) a&&!aX (C j) b)=false->bJ a b C (j+1)=bJ a b C j:=λh=>by rw [bJ,h];exact List.append_nil _
    have hn0:(!aX (C (j:Int).toNat) a&&!aX (C (j:Int).toNat) b)=false->(bJ a b C (j+1)).length=(bJ a b C j).length:=λh=>by
     rw [ej] at h;rw [e4 h]
    have hr0:(!aX (C (j:Int).toNat) a&&!aX (C (j:Int).toNat) b)=false->∀i,i < (bJ a b C j).length->(ae (bJ a b C (j+1)) i).cells=(ae (bJ a b C j) i).cells:=λh=>by
     rw [ej] at h;rw [e4 h];exactλ_ _=>rfl
    have hnA:aX (C (j:Int).toNat) a=false->aX (C (j:Int).toNat) b=false->(bJ a b C (j+1)).length=(bJ a b C j).length+1:=λh h'=>by
     rw [ej] at h h';rw [e3 h h',List.length_append];rfl
    have hr1:aX (C (j:Int).toNat) a=false->aX (C (j:Int).toNat) b=false->∀r:Nat->List PV,r 0=(C (j:Int).toNat).cells->∀i,i < (bJ a b C j).length+1->(ae (bJ a b C (j+1)) i).cells=gH (bJ a b C j).length (λi=>(ae (bJ a b C j) i).cells) r i:=λh h' r hr=>by
     rw [ej] at h h' hr;rw [e3 h h'];exact Gr hr
    have k1:((bJ a b C j).length+1)*80<=140737488355328:=by omega
    have k2:(bJ a b C j).length+1<=9223372036854775807:=by omega
    have n1:∀x y:Bool,(!y)=false->(!x&&!y)=false:=λx y h=>by rw [h,Bool.and_false]
    have n2:∀x y:Bool,(!x)=false->(!x&&!y)=false:=λx y h=>by rw [h];rfl
    with_unfolding_all exact⟨⟨Int.natCast_nonneg j,h1⟩,λh2=>⟨λh3=>⟨⟨rfl,k1,k2⟩,⟨j+1,[some 0,some 1,some 2,some 3,some 4,some 5],⟨⟨g1,g2,g3,g4⟩,hjN1⟩,hμ,Wo ⟨qZ ⟨rq,rq,rq,rq,rq,rq,rq,rq,rq,rq,rq,rq,⟨qW,rfl⟩,⟨qW,rfl⟩,qQ⟩,qK,qK,qJ,qZ ⟨⟨⟨rfl,rfl,(hnA (neq _ h2) (neq _ h3)).symm,aP rfl,_,rfl⟩,rfl⟩,rq,qQ⟩,⟨aP rfl,rfl,rfl,rfl,rfl,(hnA (neq _ h2) (neq _ h3)),hr1 (neq _ h2) (neq _ h3) _ rfl⟩,qQ⟩ ⟨pP,pP,pP,pP,pP,qW,rfl,wj,qQ⟩ trivial⟩⟩,λh3=>⟨j+1,[some 0,some 1,some 2,some 3,some 4,some 5],⟨⟨g1,g2,g3,g4⟩,hjN1⟩,hμ,Wo ⟨qZ ⟨rq,rq,rq,rq,rq,rq,rq,rq,rq,rq,rq,rq,⟨qW,rfl⟩,⟨qW,rfl⟩,qQ⟩,qK,qK,qJ,qZ ⟨⟨⟨rfl,rfl,(hn0 (n1 _ _ h3)).symm,aP rfl,_,rfl⟩,rfl⟩,rq,qQ⟩,⟨aP rfl,rfl,rfl,rfl,rfl,(hn0 (n1 _ _ h3)),hr0 (n1 _ _ h3)⟩,qQ⟩ ⟨pP,pP,pP,pP,pP,qW,rfl,wj,qQ⟩ trivial⟩⟩,λh2=>⟨λh=>(nomatch h),λ_=>⟨j+1,[some 0,some 1,some 2,some 3,some 4,some 5],⟨⟨g1,g2,g3,g4⟩,hjN1⟩,hμ,Wo ⟨qZ ⟨rq,rq,rq,rq,rq,rq,rq,rq,rq,rq,rq,rq,⟨qW,rfl⟩,⟨qW,rfl⟩,qQ⟩,qK,qK,qJ,qZ ⟨⟨⟨rfl,rfl,(hn0 (n2 _ _ h2)).symm,aP rfl,_,rfl⟩,rfl⟩,rq,qQ⟩,⟨aP rfl,rfl,rfl,rfl,rfl,(hn0 (n2 _ _ h2)),hr0 (n2 _ _ h2)⟩,qQ⟩ ⟨pP,pP,pP,pP,pP,qW,rfl,wj,qQ⟩ trivial⟩⟩⟩
   ·have h1:(N:Int)<=j:=dI h1;have hb0:BE=0:=by rw [e0,g1,g2,g3,g4];rfl
    have hBPk:bJ a b C j=BP:=by
     rw [show j=N by omega,e1,hb0];rfl
    have hl3:(bJ a b C j).length=BP.length:=by rw [hBPk]
    have hr3:∀i,i < (bJ a b C j).length->(ae BP i).cells=(ae (bJ a b C j) i).cells:=λi _=>by rw [hBPk]
    have v69:PV.val (.int .i64 (((bJ a b C j).length:Nat):Int))=PV.val (goInt BP.length):=by
     rw [hBPk];rfl
    have hBl:BP.length<=502:=by
     have:=jY a b C j;rw [<-hBPk];omega
    have hBall:∀i,i < BP.length->(ae BP i).le 10000:=λi hi=>by
     unfold ae;rw [List.getElem?_eq_getElem hi];exact kD (j:=j) ha hb (λi hi=>hCle i (by omega)) _ (by rw [hBPk];exact List.getElem_mem hi)
    clear hBPk;with_unfolding_all refine⟨Nat,λi=>i<=BP.length,λi=>aa [(3,.ptr 0 0 0 0),(6,.ptr 1 1 0 0),(9,.ptr 2 2 0 0),(68,.sl 3 3 0 BP.length),(69,.val (goInt BP.length)),(70,.val (goInt i))] [⟨31,14,0,true,false,1,λ_=>br lo hi k c l o⟩,⟨37,2,1,true,false,1,λ_=>[.val (.slice none 0 0),.val (.slice none 0 0)]⟩,⟨37,2,2,true,false,1,λ_=>[.sl 3 3 0 BP.length,.sl 4 4 0 (bh S (ae BP) BP.length i).length]⟩,⟨25,6,3,false,false,BP.length,λt=>(ae BP t).cells⟩,⟨46,2,4,false,false,(bh S (ae BP) BP.length i).length,λt=>aD (qL (bh S (ae BP) BP.length i) t)⟩] 5 [],λi=>BP.length - i,⟨0,[some 0,some 3,some 4,some 5,none],Nat.zero_le _,Wo ⟨qZ ⟨rq,rq,rq,rq,rq,rq,rq,rq,rq,rq,rq,rq,⟨qW,rfl⟩,⟨qW,rfl⟩,qQ⟩,qJ,qZ ⟨⟨⟨rfl,rfl,hl3,aP rfl,_,rfl⟩,rfl⟩,⟨⟨rfl,rfl,rfl,rfl,aP rfl⟩,rfl⟩,qQ⟩,⟨aP rfl,rfl,rfl,rfl,rfl,hl3.symm,hr3⟩,⟨aP rfl,rfl,rfl,rfl⟩,qQ⟩ ⟨pP,pP,pP,⟨rfl,rfl,hl3,aP rfl,_,rfl⟩,v69,rfl,qQ⟩ trivial⟩,λi hiB=>?_⟩
    replace hiB:i<=BP.length:=hiB;with_unfolding_all refine⟨λh1=>?_,λh1=>?_⟩
    ·have h1:(i:Int) < BP.length:=bL h1;have ei:(i:Int).toNat=i:=Int.toNat_natCast i;have hj0:(bh S (ae BP) BP.length i++cN S (ae BP) i 0).length=(bh S (ae BP) BP.length i).length:=by rw [cN,List.append_nil]
     have hr0:∀t,t < (bh S (ae BP) BP.length i).length->aD (qL (bh S (ae BP) BP.length i++cN S (ae BP) i 0) t)=aD (qL (bh S (ae BP) BP.length i) t):=λt _=>by rw [cN,List.append_nil]
     have w14:PV.val (.int .i64 (IntKind.i64.wrap ((i:Int)+1)))=PV.val (goInt (i+1+0)):=by
      rw [wrap64 (by omega) (by omega)];rfl
     have cx:∀x y:PtS,x=y->PV.val (.bool x.x.s)=PV.val (.bool y.x.s)/\PV.val (.string x.x.b)=PV.val (.string y.x.b)/\PV.val (.string x.x.c)=PV.val (.string y.x.c)/\PV.val (.bool x.y.s)=PV.val (.bool y.y.s)/\PV.val (.string x.y.b)=PV.val (.string y.y.b)/\PV.val (.string x.y.c)=PV.val (.string y.y.c):=λx y h=>by rw [h];exact⟨rfl,rfl,rfl,rfl,rfl,rfl⟩
     have c6:=cx (ae BP (0+(i:Int).toNat)) (ae BP i) (by rw [Nat.zero_add,ei]);with_unfolding_all refine⟨⟨Int.natCast_nonneg i,h1⟩,Nat,λd=>i+1+d<=BP.length,λd=>aa [(3,.ptr 0 0 0 0),(6,.ptr 1 1 0 0),(9,.ptr 2 2 0 0),(12,.val (goInt i)),(13,.ptr 5 5 0 0),(14,.val (goInt (i+1+d))),(68,.sl 3 3 0 BP.length),(69,.val (goInt BP.length)),(70,.val (goInt i))] [⟨31,14,0,true,false,1,λ_=>br lo hi k c l o⟩,⟨37,2,1,true,false,1,λ_=>[.val (.slice none 0 0),.val (.slice none 0 0)]⟩,⟨37,2,2,true,false,1,λ_=>[.sl 3 3 0 BP.length,.sl 4 4 0 (bh S (ae BP) BP.length i++cN S (ae BP) i d).length]⟩,⟨25,6,3,false,false,BP.length,λt=>(ae BP t).cells⟩,⟨46,2,4,false,false,(bh S (ae BP) BP.length i++cN S (ae BP) i d).length,λt=>aD (qL (bh S (ae BP) BP.length i++cN S (ae BP) i d) t)⟩,⟨25,6,5,true,false,1,λ_=>(ae BP i).cells⟩] 6 [],λd=>BP.length - d,⟨0,[some 0,some 1,some 2,some 3,some 4,some 5],by show i+1+0<=BP.length;omega,Wo ⟨qZ ⟨rq,rq,rq,rq,rq,rq,rq,rq,rq,rq,rq,rq,⟨qW,rfl⟩,⟨qW,rfl⟩,qQ⟩,qJ,qZ ⟨⟨pP,rfl⟩,⟨⟨rfl,rfl,hj0.symm,aP rfl,_,rfl⟩,rfl⟩,qQ⟩,qZ (λ_ _=>rfl),⟨aP rfl,rfl,rfl,rfl,rfl,hj0,hr0⟩,qZ ⟨⟨c6.1,rfl⟩,⟨c6.2.1,rfl⟩,⟨c6.2.2.1,rfl⟩,⟨c6.2.2.2.1,rfl⟩,⟨c6.2.2.2.2.1,rfl⟩,⟨c6.2.2.2.2.2,rfl⟩,qQ⟩,qQ⟩ ⟨pP,pP,pP,rfl,pP,w14,pP,rfl,rfl,qQ⟩ trivial⟩,λd hd=>?_⟩
     have hdB:i+1+d<=BP.length:=hd;with_unfolding_all refine⟨λh2=>?_,λh2=>?_⟩
     ·have h2:(i:Int)+1+d < BP.length:=bL h2;have eT:0+((i:Int)+1+d).toNat=i+1+d:=by omega
      have hdB1:i+1+(d+1)<=BP.length:=by omega
      have hμd:BP.length - (d+1) < BP.length - d:=by omega
      have hbI:=pJ S (ae BP) BP.length i;have hbJ:=pI S (ae BP) i d;have hii:i*BP.length<=502*502:=Nat.mul_le_mul (by omega) hBl;have hlj:(bh S (ae BP) BP.length i++cN S (ae BP) i d).length<=502*502+502:=by
       rw [List.length_append];omega
      have wd:PV.val (.int .i64 (IntKind.i64.wrap ((i:Int)+1+d+1)))=PV.val (goInt ((i:Int)+1+((d+1:Nat):Int))):=by
       rw [wrap64 (by omega) (by omega)];exact congrArg (λz=>PV.val (.int .i64 z)) (by omega)
      have hs:∀t b,t=i+1+d->a7 lo hi k (λi=>[.rs 6 (pn c i) (pg c i)]) l (λi=>ag (ow o i)) (ae BP i) (ae BP t)=b->S (ae BP i) (ae BP (i+1+d))=b:=λt b h h'=>by rw [<-h,<-hSN];exact h'
      have e3:S (ae BP i) (ae BP (i+1+d))=true->bh S (ae BP) BP.length i++cN S (ae BP) i (d+1)=bh S (ae BP) BP.length i++cN S (ae BP) i d++[((i:Int),((i+1+d:Nat):Int))]:=λh=>by rw [cN,h,List.append_assoc];rfl
      have e4:S (ae BP i) (ae BP (i+1+d))=false->bh S (ae BP) BP.length i++cN S (ae BP) i (d+1)=bh S (ae BP) BP.length i++cN S (ae BP) i d:=λh=>by
       rw [cN,h];exact congrArg _ (List.append_nil _)
      have hn0:S (ae BP i) (ae BP (i+1+d))=false->(bh S (ae BP) BP.length i++cN S (ae BP) i (d+1)).length=(bh S (ae BP) BP.length i++cN S (ae BP) i d).length:=λh=>by rw [e4 h]
      have hr0:S (ae BP i) (ae BP (i+1+d))=false->∀t,t < (bh S (ae BP) BP.length i++cN S (ae BP) i d).length->aD (qL (bh S (ae BP) BP.length i++cN S (ae BP) i (d+1)) t)=aD (qL (bh S (ae BP) BP.length i++cN S (ae BP) i d) t):=λh=>by
       rw [e4 h];exactλ_ _=>rfl
      have hnA:S (ae BP i) (ae BP (i+1+d))=true->(bh S (ae BP) BP.length i++cN S (ae BP) i (d+1)).length=(bh S (ae BP) BP.length i++cN S (ae BP) i d).length+1:=λh=>by
       rw [e3 h,List.length_append];rfl
      have hr1:S (ae BP i) (ae BP (i+1+d))=true->∀r:Nat->List PV,r 0=[.val (.int .i64 (i:Int)),.val (.int .i64 ((i:Int)+1+d))]->∀t,t < (bh S (ae BP) BP.length i++cN S (ae BP) i d).length+1->aD (qL (bh S (ae BP) BP.length i++cN S (ae BP) i (d+1)) t)=gH (bh S (ae BP) BP.length i++cN S (ae BP) i d).length (λt=>aD (qL (bh S (ae BP) BP.length i++cN S (ae BP) i d) t)) r t:=λh r hr=>by
       rw [e3 h];refine Br (hr.trans ?_);rw [aD,show(i:Int)+1+d=((i+1+d:Nat):Int) by omega]
      have k1:((bh S (ae BP) BP.length i++cN S (ae BP) i d).length+1)*16<=140737488355328:=by omega
      have k2:(bh S (ae BP) BP.length i++cN S (ae BP) i d).length+1<=9223372036854775807:=by omega
      have pk1:isPk 10000 (ae BP i).v:=⟨_,rfl,hBall i (by omega)⟩;have pk2:isPk 10000 (ae BP (0+((i:Int)+1+d).toNat)).v:=⟨_,rfl,hBall _ (by omega)⟩;with_unfolding_all exact⟨⟨by omega,h2⟩,⟨hrg3,pk1,pk2⟩,λh3=>⟨⟨rfl,k1,k2⟩,⟨d+1,[some 0,some 1,some 2,some 3,some 4,some 5],hdB1,hμd,Wo ⟨qZ ⟨rq,rq,rq,rq,rq,rq,rq,rq,rq,rq,rq,rq,⟨qW,rfl⟩,⟨qW,rfl⟩,qQ⟩,qJ,qZ ⟨⟨pP,rfl⟩,⟨⟨rfl,rfl,(hnA (hs (0+((i:Int)+1+d).toNat) _ eT h3)).symm,aP rfl,_,rfl⟩,rfl⟩,qQ⟩,qZ (λ_ _=>rfl),⟨aP rfl,rfl,rfl,rfl,rfl,(hnA (hs (0+((i:Int)+1+d).toNat) _ eT h3)),hr1 (hs (0+((i:Int)+1+d).toNat) _ eT h3) _ rfl⟩,qK,qQ⟩ ⟨pP,pP,pP,rfl,pP,wd,pP,rfl,rfl,qQ⟩ trivial⟩⟩,λh3=>⟨d+1,[some 0,some 1,some 2,some 3,some 4,some 5],hdB1,hμd,Wo ⟨qZ ⟨rq,rq,rq,rq,rq,rq,rq,rq,rq,rq,rq,rq,⟨qW,rfl⟩,⟨qW,rfl⟩,qQ⟩,qJ,qZ ⟨⟨pP,rfl⟩,⟨⟨rfl,rfl,(hn0 (hs (0+((i:Int)+1+d).toNat) _ eT h3)).symm,aP rfl,_,rfl⟩,rfl⟩,qQ⟩,qZ (λ_ _=>rfl),⟨aP rfl,rfl,rfl,rfl,rfl,(hn0 (hs (0+((i:Int)+1+d).toNat) _ eT h3)),hr0 (hs (0+((i:Int)+1+d).toNat) _ eT h3)⟩,qK,qQ⟩ ⟨pP,pP,pP,rfl,pP,wd,pP,rfl,rfl,qQ⟩ trivial⟩⟩
     ·have h2:(BP.length:Int)<=(i:Int)+1+d:=dI h2;have hd:d=BP.length - (i+1):=by omega
      have hiB1:i+1<=BP.length:=by omega
      have hμi:BP.length - (i+1) < BP.length - i:=by omega
      have wi:PV.val (.int .i64 (IntKind.i64.wrap ((i:Int)+1)))=PV.val (goInt ((i+1:Nat):Int)):=by
       rw [wrap64 (by omega) (by omega)];rfl
      have e3:bh S (ae BP) BP.length (i+1)=bh S (ae BP) BP.length i++cN S (ae BP) i d:=by rw [hd,bh]
      have hn0:(bh S (ae BP) BP.length (i+1)).length=(bh S (ae BP) BP.length i++cN S (ae BP) i d).length:=by rw [e3]
      have hr0:∀t,t < (bh S (ae BP) BP.length i++cN S (ae BP) i d).length->aD (qL (bh S (ae BP) BP.length (i+1)) t)=aD (qL (bh S (ae BP) BP.length i++cN S (ae BP) i d) t):=λt _=>by rw [e3]
      with_unfolding_all exact⟨i+1,[some 0,some 1,some 2,some 3,some 4],hiB1,hμi,Wo ⟨qZ ⟨rq,rq,rq,rq,rq,rq,rq,rq,rq,rq,rq,rq,⟨qW,rfl⟩,⟨qW,rfl⟩,qQ⟩,qJ,qZ ⟨⟨pP,rfl⟩,⟨⟨rfl,rfl,hn0.symm,aP rfl,_,rfl⟩,rfl⟩,qQ⟩,qZ (λ_ _=>rfl),⟨aP rfl,rfl,rfl,rfl,rfl,hn0,hr0⟩,qQ⟩ ⟨pP,pP,pP,pP,rfl,wi,qQ⟩ trivial⟩
    ·have h1:(BP.length:Int)<=i:=dI h1;have hi2:i=BP.length:=by omega
     have e5:bh S (ae BP) BP.length i=BL:=by rw [e2,hi2]
     have v7:PV.val (.int .i64 0)=PV.val (.int .i64 BE):=by rw [hb0]
     have rp:∀t,t < BP.length->(ae BP t).cells=(ae BP (0+t)).cells:=λt _=>by rw [Nat.zero_add]
     have rl:∀t,t < BL.length->aD (qL BL t)=aD (qL (bh S (ae BP) BP.length i) (0+t)):=λt _=>by rw [e5,Nat.zero_add]
     with_unfolding_all exact⟨[some 1],aa [(6,.ptr 0 0 0 0),(7,.val (.int .i64 BE))] [⟨37,2,0,true,false,1,λ_=>[.rs 6 BP.length (λi=>(ae BP i).cells),.rs 2 BL.length (λi=>aD (qL BL i))]⟩] 1 [],Wo ⟨qZ ⟨⟨⟨by simp,_,rfl,rfl,rfl,rfl,rp⟩,rfl⟩,⟨⟨by simp,_,rfl,rfl,rfl,congrArg List.length e5,rl⟩,rfl⟩,qQ⟩,qQ⟩ ⟨pP,v7,qQ⟩ trivial,rfl,rfl⟩
 ·cases e
end Go.Proofs
namespace Go.Num
theorem ue {p u:PtS} (h:cu p u < 0):¬cu u p < 0:=by
 rw [jU] at *
 rintro (k|⟨e,k⟩)<;>rcases h with h|⟨e2,h⟩<;>grind
theorem xe {V L:List PtS} (hp:L.Perm V) (hV:∀p∈V,p.le 10000) (hL:L.Pairwise λx y=>cu x y < 0):aQ V=L:=by
 refine List.Perm.eq_of_pairwise (le:=λx y=>¬cu y x < 0) (λa b ha hb h1 h2=>?_) (rP hV) (hL.imp λh=>ue h) ((ga V).trans hp.symm);have ha:a∈L:=hp.mem_iff.2 ((ga V).mem_iff.1 ha);obtain⟨i,hi,rfl⟩:=List.mem_iff_getElem.1 ha;obtain⟨j,hj,rfl⟩:=List.mem_iff_getElem.1 hb;rw [List.pairwise_iff_getElem] at hL;rcases Nat.lt_trichotomy i j with h|h|h
 ·exact absurd (hL i j hi hj h) h2
 ·subst h;rfl
 ·exact absurd (hL j i hj hi h) h1
end Go.Num
namespace Go.Proofs
def fm:PtS:=⟨⟨false,⟨#[]⟩,⟨#[]⟩⟩,⟨false,⟨#[]⟩,⟨#[]⟩⟩⟩
def bn (x y:Int):PtS:=pv (mkRat x 1) (mkRat y 1)
def fo:PtS:=bn 10 10
def IG:List PV:=(bn 4 4).cells++((bn 6 4).cells++((bn 6 6).cells++(bn 4 6).cells))
def ll:Nat->List PV:=λ_=>[.rs 6 4 (λi=>fJ 6 IG (0+i))]
def lI:Nat->List PV:=λ_=>ag (0,0,0)
def yQ:List PtS:=[bn 0 5,bn 10 5,bn 4 4,bn 4 6,bn 6 4,bn 6 6]
def GY:List (Int×Int):=[(0,2),(0,3),(1,4),(1,5),(2,3),(2,4),(3,5),(4,5)]
def zn:Nat->List PV:=λi=>(ae yQ i).cells
def mQ:Nat->List PV:=λi=>aD (qL GY i)
theorem x1:fP fm fo 1 ll 1 lI (ar (bn 0 5) (bn 10 5))=true:=by kernel_rfl
theorem x2:a7 fm fo 1 ll 1 lI (bn 0 5) (bn 10 5)=false:=by kernel_rfl
theorem x3:au fm fo 1 ll 1 lI=[bn 4 4,bn 6 4,bn 6 6,bn 4 6]:=by kernel_rfl
theorem x4:di fm fo 1 ll 1 lI=[bn 4 4,bn 4 6,bn 6 4,bn 6 6]:=by
 have h:aQ [bn 4 4,bn 6 4,bn 6 6,bn 4 6]=[bn 4 4,bn 4 6,bn 6 4,bn 6 6] :=
  xe (.cons _ (List.perm_append_comm (l₁:=[bn 4 6]) (l₂:=[bn 6 4,bn 6 6]))) (of_decide_eq_true (by kernel_rfl)) (of_decide_eq_true (by kernel_rfl))
 have h2:aW (ae [bn 4 4,bn 4 6,bn 6 4,bn 6 6]) 4=[bn 4 4,bn 4 6,bn 6 4,bn 6 6]:=by kernel_rfl
 unfold di;rw [x3,h];exact h2
theorem x5:d7 fm fo 1 ll 1 lI (bn 0 5) (bn 10 5)=0:=by kernel_rfl
theorem x6:cF fm fo 1 ll 1 lI (bn 0 5) (bn 10 5)=yQ:=by
 have h2:bJ (bn 0 5) (bn 10 5) (ae [bn 4 4,bn 4 6,bn 6 4,bn 6 6]) 4=yQ:=by kernel_rfl
 unfold cF;rw [x5,x4];exact h2
theorem x7:gG fm fo 1 ll 1 lI (bn 0 5) (bn 10 5)=GY:=by
 have h2:bh (a7 fm fo 1 ll 1 lI) (ae yQ) 6 6=GY:=by kernel_rfl
 unfold gG;rw [x6];exact h2
theorem x8:DH fm fo 1 ll 1 lI 6 zn 8 mQ=true:=by kernel_rfl
theorem x9:pE fm fo 1 ll 1 lI 6 zn 8 mQ=GY:=by kernel_rfl
theorem xq (x y:Int) (hx:x.natAbs < 256) (hy:y.natAbs < 256):(bn x y).le 10000:=by
 have q:∀z:Int,z.natAbs < 256->QB 1 (mkRat z 1):=λz hz=>by
  have e:mkRat z 1=(z:Rat):=by simp [Rat.mkRat_one]
  rw [e];exact⟨hz,show(1:Nat) < 256^1 by decide⟩
 exact⟨(q x hx).rs.mono (by decide),(q y hy).rs.mono (by decide)⟩
theorem Gs (x y:Int) (hx:x.natAbs < 256) (hy:y.natAbs < 256):isPk 10000 (bn x y).v:=⟨_,rfl,xq x y hx hy⟩
theorem II:bU 10000 1 ll:=⟨λi _=>⟨rfl,λi hi=>by
  match i,hi with
  |0,_=>exact⟨rfl,xq 4 4 (by decide) (by decide)⟩
  |1,_=>exact⟨rfl,xq 6 4 (by decide) (by decide)⟩
  |2,_=>exact⟨rfl,xq 6 6 (by decide) (by decide)⟩
  |3,_=>exact⟨rfl,xq 4 6 (by decide) (by decide)⟩
  |i+4,h=>exact absurd h (show ¬i+4 < 4 by omega),show(4:Nat)<=140737488355328 by decide⟩,by decide⟩
def IJ:List PV:=br fm fo 1 ll 1 lI
theorem yR:isRg 10000 IJ:=⟨rfl,⟨⟨⟨by decide,by decide⟩,by decide,by decide⟩,xq 10 10 (by decide) (by decide)⟩,II,λi _=>rfl,by decide⟩
def IK:List PV->Option Ans
 |[]=>some ⟨none,.agg IJ,[]⟩
 |_=>none
theorem IL:am {} Tryz.f53 0=true:=by kernel_rfl
theorem f53:FnOk Tryz.prog 53 IK:=by
 refine FnOk.ofW aj (an (l:=[(52,GO)]) (own:=[]) (inl:=[]) (by simp [f52]) (by simp)) Tryz.func53 {} 0 IL λargs r e=>?_;unfold IK at e;split at e
 ·cases e;refine⟨by simp,λhm=>?_⟩;refine⟨[],aa [] [] 0 [],Wo trivial trivial trivial,?_⟩;have b:∀x:Int,0<=x/\x < 100->(-9223372036854775808<=x/\x < 9223372036854775808):=λx h=>by omega
  have z1:∀(g h:Nat->List PV),g 0=h 0->∀i,i < 1->g i=h (0+i):=λg h e i hi=>by
   obtain rfl:i=0:=by omega
   exact e
  with_unfolding_all exact⟨⟨b 10 (by decide),b 10 (by decide)⟩,⟨b 4 (by decide),b 4 (by decide)⟩,⟨b 6 (by decide),b 4 (by decide)⟩,⟨b 6 (by decide),b 6 (by decide)⟩,⟨b 4 (by decide),b 6 (by decide)⟩,[some 0],aa [(0,.ptr 0 0 0 0)] [⟨31,14,0,true,false,1,λ_=>IJ⟩] 1 [],Wo ⟨qZ ⟨rq,rq,rq,rq,rq,rq,rq,rq,rq,rq,rq,rq,⟨⟨by simp,_,rfl,rfl,rfl,rfl,z1 _ _ rfl⟩,rfl⟩,⟨⟨by simp,_,rfl,rfl,rfl,rfl,z1 _ _ rfl⟩,rfl⟩,qQ⟩,qQ⟩ ⟨pP,qQ⟩ trivial,rfl,rfl⟩
 ·cases e
theorem Dg:isPL 10000 6 zn:=⟨λi hi=>by
 match i,hi with
 |0,_=>exact⟨rfl,xq 0 5 (by decide) (by decide)⟩
 |1,_=>exact⟨rfl,xq 10 5 (by decide) (by decide)⟩
 |2,_=>exact⟨rfl,xq 4 4 (by decide) (by decide)⟩
 |3,_=>exact⟨rfl,xq 4 6 (by decide) (by decide)⟩
 |4,_=>exact⟨rfl,xq 6 4 (by decide) (by decide)⟩
 |5,_=>exact⟨rfl,xq 6 6 (by decide) (by decide)⟩
 |i+6,h=>exact absurd h (show ¬i+6 < 6 by omega),by decide⟩
theorem yS:kv 8 mQ:=⟨λ_ _=>rfl,by decide⟩
theorem AV {r:Nat->List PV} (h0:r 0=mQ 0) (h1:r 1=mQ 1) (h2:r 2=mQ 2) (h3:r 3=mQ 3) (h4:r 4=mQ 4) (h5:r 5=mQ 5) (h6:r 6=mQ 6) (h7:r 7=mQ 7):∀i,i < 8->r i=mQ i:=λi hi=>by
 match i,hi with
 |0,_=>exact h0
 |1,_=>exact h1
 |2,_=>exact h2
 |3,_=>exact h3
 |4,_=>exact h4
 |5,_=>exact h5
 |6,_=>exact h6
 |7,_=>exact h7
 |i+8,h=>exact absurd h (show ¬i+8 < 8 by omega)
theorem yU {r:Nat->List PV} (h:∀i,i < 8->r i=mQ i):kv 8 r:=⟨λi hi=>by
 have e:=h i hi;rw [eE,e];rfl,by decide⟩
theorem yV (x:Int×Int):Num.eqQ x x=true:=by
 unfold Num.eqQ;rw [beq_self_eq_true,beq_self_eq_true];rfl
theorem Bt {g r:Nat->List PV} {n:Nat} (hn:n=8) (hg:∀i,i < 8->g i=mQ i) (h:∀i,i < 8->r i=mQ i):(decide (n=8)&&!aA (λi=>!Num.eqQ (eE g i) (eE r i)) n)=true:=by
 subst hn;rw [aF.2 λi hi=>by rw [eE,eE,hg i hi,h i hi,yV];rfl];rfl
def GZ:List PV->Option Ans
 |[]=>some ⟨none,.val (.bool true),[]⟩
 |_=>none
def D13:Opt:={ perm:=jh [(2,(.rd 1 (.rd 2 (.mk 0 (.mk 3 (.rd 4 (.rd 5 (.rd 6 .nil)))))))),(3,(.rd 1 (.rd 2 (.alt 0 (.alt 3 (.rd 4 (.rd 5 (.rd 6 (.mk 7 .nil)))) (.mk 7 (.mk 3 (.rd 4 (.rd 5 (.rd 6 .nil)))))) (.mk 7 (.mk 0 (.mk 3 (.rd 4 (.rd 5 (.rd 6 .nil)))))))))),(4,(.rd 1 (.mk 0 (.mk 2 (.rd 3 (.rd 4 (.rd 5 .nil)))))))],join:=λc=>match c with | .region 3 _ _=>true|_=>false }
theorem IM:am D13.toOrd Tryz.f13 0=true:=by kernel_rfl
theorem f13:FnOk Tryz.prog 13 GZ:=by
 refine FnOk.ofW aj (an (l:=[(52,GO),(53,IK),(21,F7),(14,GX),(18,H3),(54,HI),(44,HK)]) (own:=[]) (inl:=[]) (by simp [f52,f53,f21,f14,f18,f54,f44]) (by simp)) Tryz.func13 D13 0 IM λargs r e=>?_;unfold GZ at e;split at e
 ·cases e;refine⟨by simp,λhm=>?_⟩;refine⟨[],aa [] [] 0 [],Wo trivial trivial trivial,?_⟩;have b:∀x:Int,0<=x/\x < 100->(-9223372036854775808<=x/\x < 9223372036854775808):=λx h=>by omega
  have pa:isPk 10000 (bn 0 5).v:=Gs 0 5 (by decide) (by decide);have pb:isPk 10000 (bn 10 5).v:=Gs 10 5 (by decide) (by decide);have pc:(au fm fo 1 ll 1 lI).length<=500:=by rw [x3];decide
  with_unfolding_all refine⟨⟨b 0 (by decide),b 5 (by decide)⟩,⟨b 10 (by decide),b 5 (by decide)⟩,⟨yR,pa,pb⟩,?_⟩
  have v3:PV.val (.bool (a7 fm fo 1 ll 1 lI (bn 0 5) (bn 10 5)))=PV.val (.bool false):=by rw [x2]
  have v4:PV.val (.int .i64 (bY (fP fm fo 1 ll 1 lI (ar (bn 0 5) (bn 10 5)))))=PV.val (.int .i64 0):=by
   rw [x1];rfl
  have v6:PV.val (.int .i64 (d7 fm fo 1 ll 1 lI (bn 0 5) (bn 10 5)))=PV.val (.int .i64 0):=by rw [x5]
  have w1:(cF fm fo 1 ll 1 lI (bn 0 5) (bn 10 5)).length=6:=by
   rw [x6];rfl
  have w2:∀i,i < 6->zn i=(ae (cF fm fo 1 ll 1 lI (bn 0 5) (bn 10 5)) i).cells:=λi _=>by
   rw [x6];rfl
  have w3:(gG fm fo 1 ll 1 lI (bn 0 5) (bn 10 5)).length=8:=by
   rw [x7];rfl
  have w4:∀i,i < 8->mQ i=aD (qL (gG fm fo 1 ll 1 lI (bn 0 5) (bn 10 5)) i):=λi _=>by
   rw [x7];rfl
  with_unfolding_all refine⟨Unit,λ_=>True,λ_=>aa [(0,.val (.bool false)),(3,.val (.bool false)),(4,.val (.int .i64 0)),(5,.ptr 0 0 0 0),(6,.val (.int .i64 0))] [⟨37,2,0,true,false,1,λ_=>[.rs 6 6 zn,.rs 2 8 mQ]⟩] 1 [],⟨⟨⟨⟨⟨yR,pa,pb⟩,pc⟩,⟨(),[some 2],trivial,Wo ⟨qZ ⟨⟨⟨rfl,w1,w2⟩,rfl⟩,⟨⟨rfl,w3,w4⟩,rfl⟩,qQ⟩,qQ⟩ ⟨rfl,v3,v4,pP,v6,qQ⟩ trivial⟩⟩,⟨⟨⟨yR,pa,pb⟩,pc⟩,⟨(),[some 2],trivial,Wo ⟨qZ ⟨⟨⟨rfl,w1,w2⟩,rfl⟩,⟨⟨rfl,w3,w4⟩,rfl⟩,qQ⟩,qQ⟩ ⟨rfl,v3,v4,pP,v6,qQ⟩ trivial⟩⟩⟩,⟨⟨⟨yR,pa,pb⟩,pc⟩,⟨(),[some 2],trivial,Wo ⟨qZ ⟨⟨⟨rfl,w1,w2⟩,rfl⟩,⟨⟨rfl,w3,w4⟩,rfl⟩,qQ⟩,qQ⟩ ⟨rfl,v3,v4,pP,v6,qQ⟩ trivial⟩⟩⟩,λ_ _=>?_⟩
  have F3:(bY (DH fm fo 1 ll 1 lI 6 zn 8 mQ)==0)=true:=by
   rw [x8];rfl
  have F6:aX (ae yQ 2) (bn 4 4)=true:=by kernel_rfl
  have ht:(pE fm fo 1 ll 1 lI 6 zn 8 mQ).length=8:=by
   rw [x9];rfl
  have hg:∀i,i < 8->aD (qL (pE fm fo 1 ll 1 lI 6 zn 8 mQ) i)=mQ i:=λi _=>by
   rw [x9];rfl
  have qt:kv (pE fm fo 1 ll 1 lI 6 zn 8 mQ).length (λi=>aD (qL (pE fm fo 1 ll 1 lI 6 zn 8 mQ) i)):=by
   rw [ht];exact yU hg
  have v0:∀B,B=true->PV.val (.bool B)=PV.val (.bool true):=λB h=>by rw [h]
  have one:(0==(0:Int))=true:=rfl;with_unfolding_all exact⟨⟨yR,Dg,yS⟩,⟨λh1=>⟨λh2=>⟨λh3=>⟨λh4=>⟨λh5=>⟨⟨by decide,by decide⟩,⟨b 4 (by decide),b 4 (by decide)⟩,⟨λh6=>⟨⟨yS,yU (AV rfl rfl rfl rfl rfl rfl rfl rfl)⟩,⟨λh7=>⟨⟨qt,yU (AV rfl rfl rfl rfl rfl rfl rfl rfl)⟩,[],aa [(0,.val (.bool true))] [] 0 [],Wo trivial ⟨v0 _ (Bt ht hg (AV rfl rfl rfl rfl rfl rfl rfl rfl)),qQ⟩ trivial,rfl,rfl⟩,λh=>absurd (h.symm.trans (Bt rfl (λ_ _=>rfl) (AV rfl rfl rfl rfl rfl rfl rfl rfl))) (by decide)⟩⟩,λh=>absurd (h.symm.trans F6) (by decide)⟩⟩,λh=>absurd (h.symm.trans rfl) (by decide)⟩,λh=>absurd (h.symm.trans rfl) (by decide)⟩,λh=>absurd (h.symm.trans F3) (by decide)⟩,λh=>absurd (h.symm.trans one) (by decide)⟩,λh=>absurd (h.symm.trans one) (by decide)⟩⟩
 ·cases e
end Go.Proofs
namespace Go.Num
theorem uf (x y:Rat):ai (pv x y)=true:=by
 have h:∀q:Rat,bl (bx q).v=true:=λq=>by
  show hO (decide (q.num < 0)) (ah q.num.natAbs) (aO q.den) (aE (aw q))=true;have hb:∀x:ByteArray,(x==x)=true:=λ⟨x⟩=>by
   show(x==x)=true;exact beq_self_eq_true x
  rw [aC,hO,beq_self_eq_true,hb,hb];rfl
 unfold ai pv;show(bl (bx x).v&&bl (bx y).v)=true;rw [h,h];rfl
theorem Dh {m:Int} (h0:0<=m) (h1:m < 256):0<=Rat.divInt m 255/\Rat.divInt m 255<=1:=by
 have e:Rat.divInt m 255*255=(m:Rat):=by
  rw [Rat.divInt_eq_div];exact Rat.div_mul_cancel (by decide)
 have k0:(0:Rat)<=(m:Rat):=by exact_mod_cast h0
 have k1:(m:Rat)<=((255:Int):Rat):=Rat.intCast_le_intCast.2 (by omega);have k2:((255:Int):Rat)=255:=rfl;rw [k2] at k1;constructor<;>grind
theorem AW:∀m:Nat,m < 256->(Rat.divInt (m:Int) 255).num.natAbs < 256^2/\(Rat.divInt (m:Int) 255).den < 256^2:=by
 decide +kernel
theorem AX {m:Int} (h0:0<=m) (h1:m < 256):QB 2 (Rat.divInt m 255):=by
 obtain⟨n,rfl⟩:=Int.eq_ofNat_of_zero_le h0;exact AW n (by omega)
theorem Gt (a b:PtS) (r:RatS):(zm a b r).X=a.X+(b.X - a.X)*r.q:=by
 unfold zm t6 rX cq;rw [nN,nN,nN]
theorem Gu (a b:PtS) (r:RatS):(zm a b r).Y=a.Y+(b.Y - a.Y)*r.q:=by
 unfold zm t6 rX cq;rw [nO,nO,nO]
theorem Di {i j k:Nat} {a b:PtS} {r:RatS} (h1:PtS.le i a) (h2:PtS.le j b) (h3:RatS.le k r):(zm a b r).le (i+(j+i+3+k+3)+3):=AP h1 (vn (cj h2 h1) h3)
theorem ug (a b:PtS) (r:RatS):ai (zm a b r)=true:=uf _ _
theorem vq {lo hi:PtS} {k:Nat} {c:Nat->List PV} {l:Nat} {o:Nat->List PV} {a b:PtS} (hr:bX lo hi k (pn c) (λi=>ab (pg c i)) l (ow o)=0) (ha:ai a=true) (hb:ai b=true):a7 lo hi k c l o b a=a7 lo hi k c l o a b:=by
 rw [Bool.eq_iff_iff,eZ hr hb ha,eZ hr ha hb];exact⟨SeeM.symm,SeeM.symm⟩
theorem yW {lo hi:PtS} {k:Nat} {c:Nat->List PV} {l:Nat} {o:Nat->List PV} {a b d:PtS} {q:Rat} (hr:bX lo hi k (pn c) (λi=>ab (pg c i)) l (ow o)=0) (ha:ai a=true) (hb:ai b=true) (hd:ai d=true) (hx:d.X=a.X+(b.X - a.X)*q) (hy:d.Y=a.Y+(b.Y - a.Y)*q) (h0:0<=q) (h1:q<=1) (h:a7 lo hi k c l o a b=true):(a7 lo hi k c l o a d=true/\a7 lo hi k c l o d b=true)/\a7 lo hi k c l o a a=true/\a7 lo hi k c l o b b=true/\a7 lo hi k c l o d d=true:=by
 have m:=(eZ hr ha hb).1 h;have m2:SeeM lo hi k c b d:=m.symm.part (q:=1 - q) (by grind) (by grind) (by grind) (by grind);exact⟨⟨(eZ hr ha hd).2 (m.part h0 h1 hx hy),(eZ hr hd hb).2 m2.symm⟩,(eZ hr ha ha).2 m.self,(eZ hr hb hb).2 m.symm.self,(eZ hr hd hd).2 m2.symm.self⟩
theorem yX {xs:List PV} {r:Nat->List PV} {a b:PtS} (h0:r 0=a.cells) (h1:r 1=b.cells) (h:kX xs 2 r=true) (hx:isRg 140737488355328 xs):isRg 12 xs/\(a.le 12/\b.le 12)/\(ai a=true/\ai b=true)/\bX (bV xs) (bW xs) (gK xs) (pn (gC xs)) (λi=>ab (pg (gC xs) i)) (gL xs) (ow (gO xs))=0:=by
 have p0:ab r 0=a:=by
  rw [ab,h0];rfl
 have p1:ab r 1=b:=by
  rw [ab,h1];rfl
 unfold kX jk at h;rw [Bool.and_eq_true,Bool.and_eq_true,Bool.not_eq_true',Bool.not_eq_true',Bool.or_eq_false_iff] at h;obtain⟨⟨⟨g1,g2⟩,g3⟩,g4⟩:=h;have b0:=(aF.1 g2) 0 (by decide);have b1:=(aF.1 g2) 1 (by decide);have c0:=(aF.1 g4) 0 (by decide);have c1:=(aF.1 g4) 1 (by decide);simp only [p0,p1] at b0 b1 c0 c1;exact⟨vo g1 hx,⟨iK b0,iK b1⟩,⟨by simpa using c0,by simpa using c1⟩,vp (eq_of_beq g3)⟩
theorem sg {xs:List PV} {r:Nat->List PV} {a b:PtS} (h:(!kX xs 2 r)=false) (h0:r 0=a.cells) (h1:r 1=b.cells) (hx:isRg 140737488355328 xs):isRg 12 xs/\(a.le 12/\b.le 12)/\(ai a=true/\ai b=true)/\bX (bV xs) (bW xs) (gK xs) (pn (gC xs)) (λi=>ab (pg (gC xs) i)) (gL xs) (ow (gO xs))=0 :=
 yX h0 h1 (by simpa using h) hx
end Go.Num
namespace Go.Proofs
def c6:List PV->Option Ans
 |[.agg [.val (.bool s1),.val (.string b1),.val (.string c1),.val (.bool s2),.val (.string b2),.val (.string c2),.val (.bool s3),.val (.string b3),.val (.string c3),.val (.bool s4),.val (.string b4),.val (.string c4),.rs 1 k c,.rs 3 l o],.val v,.val u,.val (.int .u8 m)]=>some ⟨some ((PtS.le 140737488355328 (PtS.mk ⟨s1,b1,c1⟩ ⟨s2,b2,c2⟩)/\PtS.le 140737488355328 (PtS.mk ⟨s3,b3,c3⟩ ⟨s4,b4,c4⟩))/\bU 140737488355328 k c/\cX l o/\isPk 140737488355328 v/\isPk 140737488355328 u/\0<=m/\m < 256),.val (.bool true),[]⟩
 |_=>none
def D6:Opt:={ join:=λc=>match c with | .region 5 _ _=>true | .region 10 _ _=>true | .region 11 _ _=>true | .region 13 _ _=>true|_=>false }
theorem Jw:am D6.toOrd Tryz.f6 4=true:=by kernel_rfl
theorem f6:FnOk Tryz.prog 6 c6:=by
 refine FnOk.ofW aj (an (l:=[(17,GU),(13,GZ),(21,F7),(26,GV),(27,Hi),(28,Iv)]) (own:=[]) (inl:=[]) (by simp [f17,f13,f21,f26,f27,f28]) (by simp)) Tryz.func6 D6 4 Jw λargs r e=>?_;unfold c6 at e;split at e
 ·rename_i s1 b1 c1 s2 b2 c2 s3 b3 c3 s4 b4 c4 k c l o v u m
  cases e;refine⟨by simp,λhm=>?_⟩;obtain⟨⟨hlo,hhi⟩,⟨hc,hk⟩,⟨ho,hl⟩,⟨a,rfl,ha⟩,⟨b,rfl,hb⟩,hm0⟩:=hm _ rfl;clear hm;obtain⟨lo,hlo'⟩:∃p,p=(PtS.mk ⟨s1,b1,c1⟩ ⟨s2,b2,c2⟩):=⟨_,rfl⟩;obtain⟨hi,hhi'⟩:∃p,p=(PtS.mk ⟨s3,b3,c3⟩ ⟨s4,b4,c4⟩):=⟨_,rfl⟩;have hc1:∀i,i < k->[.rs 6 (pn c i) (pg c i)]=c i:=λi hi=>(hc i hi).1.symm;have ho1:∀i,i < l->ag (ow o i)=o i:=λi hi=>(ho i hi).symm;refine⟨[],aa [(0,.agg (br (PtS.mk ⟨s1,b1,c1⟩ ⟨s2,b2,c2⟩) (PtS.mk ⟨s3,b3,c3⟩ ⟨s4,b4,c4⟩) k c l o)),(1,.val a.v),(2,.val b.v),(3,.val (.int .u8 m))] [] 0 [],Wo trivial ⟨⟨rfl,rfl,rfl,rfl,rfl,rfl,rfl,rfl,rfl,rfl,rfl,rfl,⟨rfl,rfl,hc1⟩,⟨rfl,rfl,ho1⟩,qQ⟩,rfl,rfl,rfl,qQ⟩ trivial,?_⟩;rw [<-hlo'] at hlo ⊢;rw [<-hhi'] at hhi ⊢;clear hlo' hhi';have hX:isRg 140737488355328 (br lo hi k c l o):=⟨rfl,⟨hlo,hhi⟩,⟨λi hi=>⟨rfl,(hc i hi).2⟩,hk⟩,λ_ _=>rfl,hl⟩;have p2:∀r:Nat->List PV,r 0=a.cells->r 1=b.cells->isPL 140737488355328 2 r:=λr h h'=>⟨λi hi=>by
   match i,hi with
   |0,_=>exact⟨by rw [ab,h];rfl,by rw [ab,h];exact ha⟩
   |1,_=>exact⟨by rw [ab,h'];rfl,by rw [ab,h'];exact hb⟩
   |i+2,h=>omega,by decide⟩
  with_unfolding_all refine⟨⟨hX,p2 _ rfl rfl⟩,λh1=>⟨[],aa [(8,.val (.bool true))] [] 0 [],Wo trivial ⟨rfl,qQ⟩ trivial,rfl,rfl⟩,λh1=>?_⟩
  obtain⟨hX12,⟨ha12,hb12⟩,⟨ca,cb⟩,hreg0⟩:=sg (a:=a) (b:=b) h1 rfl rfl hX;clear h1 p2;have hreg:bX lo hi k (pn c) (λi=>ab (pg c i)) l (ow o)=0:=hreg0;have hX4:isRg 10000 (br lo hi k c l o):=hX12.mono (by decide);have pa:isPk 10000 a.v:=⟨a,rfl,ha12.mono (by decide)⟩;have pb:isPk 10000 b.v:=⟨b,rfl,hb12.mono (by decide)⟩;have hok:∀x y:PtS,ai x=true->ai y=true->fP lo hi k c l o (ar x y)=true:=λx y h h'=>by
   show(!(!ai x||!ai y)&&(bX lo hi k (pn c) (λi=>ab (pg c i)) l (ow o)==0))=true;rw [h,h',hreg];rfl
  have hE:∀x y:PtS,ai x=true->ai y=true->PV.val (.int .i64 (bY (fP lo hi k (λi=>[.rs 6 (pn c i) (pg c i)]) l (λi=>ag (ow o i)) (ar x y))))=PV.val (.int .i64 0):=λx y h h'=>by
   show PV.val (.int .i64 (bY (fP lo hi k c l o (ar x y))))=PV.val (.int .i64 0);rw [hok x y h h'];rfl
  have hV:∀x y:PtS,∀z:Bool,a7 lo hi k c l o x y=z->PV.val (.bool (a7 lo hi k (λi=>[.rs 6 (pn c i) (pg c i)]) l (λi=>ag (ow o i)) x y))=PV.val (.bool z):=λx y z h=>by
   show PV.val (.bool (a7 lo hi k c l o x y))=_;rw [h]
  have hS:=vq (a:=a) (b:=b) hreg ca cb;with_unfolding_all refine⟨⟨hX4,pa,pb⟩,⟨hX4,pb,pa⟩,⟨Bool×Bool,λx=>x.1=a7 lo hi k c l o a b/\x.2=a7 lo hi k c l o a a,λx=>aa [(3,.val (.int .u8 m)),(4,.ptr 0 0 0 0),(5,.ptr 1 1 0 0),(6,.ptr 2 2 0 0),(8,.val (.bool false)),(9,.val (.bool x.1)),(10,.val (.int .i64 0)),(11,.val (.bool x.1)),(12,.val (.int .i64 0)),(13,.val (.bool x.2)),(14,.val (.int .i64 0))] [⟨31,14,0,true,false,1,λ_=>br lo hi k c l o⟩,⟨25,6,1,true,false,1,λ_=>a.cells⟩,⟨25,6,2,true,false,1,λ_=>b.cells⟩] 3 [],?_,λx hx=>?_⟩⟩
  ·with_unfolding_all refine⟨⟨hX4,pa,pa⟩,(a7 lo hi k c l o a b,a7 lo hi k c l o a a),[some 0,some 1,some 2],rq,Wo ⟨qZ ⟨rq,rq,rq,rq,rq,rq,rq,rq,rq,rq,rq,rq,⟨qW,rfl⟩,⟨qW,rfl⟩,qQ⟩,qK,qK,qQ⟩ ⟨rfl,pP,pP,pP,rfl,hV _ _ _ rfl,hE _ _ ca cb,hV _ _ _ hS,hE _ _ cb ca,hV _ _ _ rfl,hE _ _ ca ca,qQ⟩ trivial⟩
  ·obtain⟨x,y⟩:=x;obtain⟨e1,e2⟩:=hx;obtain⟨q,hq⟩:∃q,q=Rat.divInt (IntKind.i64.wrap m) 255:=⟨_,rfl⟩;have hw:IntKind.i64.wrap m=m:=wrap64 (by omega) (by omega);have hq':q=Rat.divInt m 255:=by rw [hq,hw]
   have hqb:RatS.le 2 (bx q):=by
    rw [hq'];exact(AX hm0.1 hm0.2).rs
   have hq01:=Dh hm0.1 hm0.2;rw [<-hq'] at hq01;obtain⟨d,hd⟩:∃d,d=zm a b (bx q):=⟨_,rfl⟩;have cd:ai d=true:=by
    rw [hd];exact ug _ _ _
   have pd:isPk 10000 d.v:=by
    rw [hd];exact⟨_,rfl,(Di ha12 hb12 hqb).mono (by decide)⟩
   have hdX:d.X=a.X+(b.X - a.X)*q:=by rw [hd,Gt,kV]
   have hdY:d.Y=a.Y+(b.Y - a.Y)*q:=by rw [hd,Gu,kV]
   have pa1:isPk 1000 a.v:=⟨a,rfl,ha12.mono (by decide)⟩;have pb1:isPk 1000 b.v:=⟨b,rfl,hb12.mono (by decide)⟩;have pr1:isRk 1000 (bx q).v:=⟨_,_,_,rfl,Nat.le_trans hqb.1 (by decide),Nat.le_trans hqb.2 (by decide)⟩;have hB:∀z:Bool,a7 lo hi k c l o a a=z->(!(z==a7 lo hi k (λi=>[.rs 6 (pn c i) (pg c i)]) l (λi=>ag (ow o i)) a a))=true->False:=λz h kk=>by
    have e:a7 lo hi k (λi=>[.rs 6 (pn c i) (pg c i)]) l (λi=>ag (ow o i)) a a=z:=h;rw [e] at kk;simp at kk
   have hF:∀z:PtS,a7 lo hi k c l o z z=true->(a7 lo hi k (λi=>[.rs 6 (pn c i) (pg c i)]) l (λi=>ag (ow o i)) z z = !true)->False:=λz h kk=>by
    have e:a7 lo hi k (λi=>[.rs 6 (pn c i) (pg c i)]) l (λi=>ag (ow o i)) z z=true:=h;rw [e] at kk;cases kk
   have hR:PV.val (.bool (bx (Rat.divInt (IntKind.i64.wrap m) 255)).s)=PV.val (.bool (bx q).s)/\PV.val (.string (bx (Rat.divInt (IntKind.i64.wrap m) 255)).b)=PV.val (.string (bx q).b)/\PV.val (.string (bx (Rat.divInt (IntKind.i64.wrap m) 255)).c)=PV.val (.string (bx q).c):=by
    rw [hq];exact⟨rfl,rfl,rfl⟩
   have hD:=fR hd.symm;have nw:IntKind.i64.wrap m < 256/\0<=IntKind.i64.wrap m:=by omega
   cases x with
   |false=>with_unfolding_all refine⟨λ_=>⟨λ_=>⟨λ_=>⟨λ_=>⟨⟨hX4,pa⟩,λh=>(hB y e2.symm h).elim,λ_=>⟨λ_=>⟨[],aa [(8,.val (.bool true))] [] 0 [],Wo trivial ⟨rfl,qQ⟩ trivial,rfl,rfl⟩,λh=>(nomatch h)⟩⟩,λh=>(nomatch h)⟩,λh=>(nomatch h)⟩,λh=>(nomatch h)⟩,λh=>(nomatch h)⟩
   |true =>
    obtain⟨⟨s1,s2⟩,s3,s4,s5⟩:=yW hreg ca cb cd hdX hdY hq01.1 hq01.2 e1.symm;with_unfolding_all refine⟨λ_=>⟨λ_=>⟨λ_=>⟨λ_=>⟨⟨hX4,pa⟩,λh=>(hB y e2.symm h).elim,λ_=>⟨λh=>(nomatch h),λ_=>⟨Unit,λ_=>True,λ_=>aa [(4,.ptr 0 0 0 0),(5,.ptr 1 1 0 0),(6,.ptr 2 2 0 0),(8,.val (.bool false)),(15,.ptr 3 3 0 0)] [⟨31,14,0,true,false,1,λ_=>br lo hi k c l o⟩,⟨25,6,1,true,false,1,λ_=>a.cells⟩,⟨25,6,2,true,false,1,λ_=>b.cells⟩,⟨23,3,3,true,false,1,λ_=>(bx q).cells⟩] 4 [],?_,λ_ _=>?_⟩⟩⟩,λh=>(nomatch h)⟩,λh=>(nomatch h)⟩,λh=>(nomatch h)⟩,λh=>(nomatch h)⟩
    ·with_unfolding_all refine⟨⟨⟨by omega,by omega⟩,by decide,by decide⟩,(),[some 0,some 1,some 2,some 3],trivial,Wo ⟨qZ ⟨rq,rq,rq,rq,rq,rq,rq,rq,rq,rq,rq,rq,⟨qW,rfl⟩,⟨qW,rfl⟩,qQ⟩,qK,qK,qZ ⟨⟨hR.1,rfl⟩,⟨hR.2.1,rfl⟩,⟨hR.2.2,rfl⟩,qQ⟩,qQ⟩ ⟨pP,pP,pP,rfl,pP,qQ⟩ trivial⟩
    ·with_unfolding_all refine⟨Unit,λ_=>True,λ_=>aa [(4,.ptr 0 0 0 0),(5,.ptr 1 1 0 0),(6,.ptr 2 2 0 0),(8,.val (.bool false)),(17,.ptr 3 3 0 0)] [⟨31,14,0,true,false,1,λ_=>br lo hi k c l o⟩,⟨25,6,1,true,false,1,λ_=>a.cells⟩,⟨25,6,2,true,false,1,λ_=>b.cells⟩,⟨25,6,3,true,false,1,λ_=>d.cells⟩] 4 [],?_,λ_ _=>?_⟩
     ·with_unfolding_all refine⟨⟨pa1,pb1,pr1⟩,(),[some 0,some 1,some 2,some 4],trivial,Wo ⟨qZ ⟨rq,rq,rq,rq,rq,rq,rq,rq,rq,rq,rq,rq,⟨qW,rfl⟩,⟨qW,rfl⟩,qQ⟩,qK,qK,qZ ⟨⟨hD.1,rfl⟩,⟨hD.2.1,rfl⟩,⟨hD.2.2.1,rfl⟩,⟨hD.2.2.2.1,rfl⟩,⟨hD.2.2.2.2.1,rfl⟩,⟨hD.2.2.2.2.2,rfl⟩,qQ⟩,qQ⟩ ⟨pP,pP,pP,rfl,pP,qQ⟩ trivial⟩
     ·with_unfolding_all refine⟨⟨hX4,pa,pd⟩,⟨Unit,λ_=>True,λ_=>aa [(4,.ptr 0 0 0 0),(5,.ptr 1 1 0 0),(6,.ptr 2 2 0 0),(8,.val (.bool false)),(17,.ptr 3 3 0 0),(18,.val (.bool true)),(19,.val (.int .i64 0)),(20,.val (.bool true)),(21,.val (.int .i64 0))] [⟨31,14,0,true,false,1,λ_=>br lo hi k c l o⟩,⟨25,6,1,true,false,1,λ_=>a.cells⟩,⟨25,6,2,true,false,1,λ_=>b.cells⟩,⟨25,6,3,true,false,1,λ_=>d.cells⟩] 4 [],?_,λ_ _=>?_⟩⟩
      ·with_unfolding_all refine⟨⟨hX4,pd,pb⟩,(),[some 0,some 1,some 2,some 3],trivial,Wo ⟨qZ ⟨rq,rq,rq,rq,rq,rq,rq,rq,rq,rq,rq,rq,⟨qW,rfl⟩,⟨qW,rfl⟩,qQ⟩,qK,qK,qK,qQ⟩ ⟨pP,pP,pP,rfl,pP,hV _ _ _ s1,hE _ _ ca cd,hV _ _ _ s2,hE _ _ cd cb,qQ⟩ trivial⟩
      ·with_unfolding_all exact⟨λ_=>⟨λ_=>⟨λ_=>⟨λ_=>⟨⟨hX4,pa⟩,λ_=>⟨⟨hX4,pb⟩,λ_=>⟨⟨hX4,pd⟩,λ_=>⟨[],aa [(8,.val (.bool true))] [] 0 [],Wo trivial ⟨rfl,qQ⟩ trivial,rfl,rfl⟩,λh=>(hF _ s5 h).elim⟩,λh=>(hF _ s4 h).elim⟩,λh=>(hF _ s3 h).elim⟩,λh=>(nomatch h)⟩,λh=>(nomatch h)⟩,λh=>(nomatch h)⟩,λh=>(nomatch h)⟩
 ·cases e
end Go.Proofs
namespace Go.Num
theorem yY {p u:RatS} (h:DF p u=true):p=u:=by
 have be:∀x y:ByteArray,(x==y)=true->x=y:=λ⟨x⟩ ⟨y⟩ h=>by
  have h:(x==y)=true:=h;rw [eq_of_beq h]
 unfold DF at h;simp only [Bool.and_true,Bool.and_eq_true] at h;obtain⟨h1,h2,h3⟩:=h;obtain⟨s,b,c⟩:=p;obtain⟨s',b',c'⟩:=u;have h1:=eq_of_beq h1;have h2:=be _ _ h2;have h3:=be _ _ h3;simp only at h1 h2 h3;rw [h1,h2,h3]
theorem Dj {p u:PtS} (h:aX p u=true):p=u:=by
 unfold aX at h;simp only [Bool.and_true,Bool.and_eq_true] at h;obtain⟨x,y⟩:=p;obtain⟨x',y'⟩:=u;have h1:=yY h.1;have h2:=yY h.2;simp only at h1 h2;rw [h1,h2]
theorem sj {n:Nat} {p:Nat->PtS} (h:bk n p=0):(3<=n/\n<=64)/\(∀i,i < n->ai (p i)=true)/\∀e,e < n->∀i,i < n->dS (p e) (p ((e+1)%n)) (p i)=false:=by
 unfold bk at h;cases h1:(decide (n < 3)||decide (64 < n)) with
 |true=>rw [h1] at h;cases h
 |false =>
  rw [h1,cond_false] at h;cases h2:aA (λi=>!ai (p i)) n with
  |true=>rw [h2] at h;cases h
  |false =>
   rw [h2,cond_false] at h;cases h3:aA (λi=>nP (p 0) (p (1+i))) (n - 1) with
   |true=>rw [h3] at h;cases h
   |false =>
    rw [h3,cond_false] at h;cases h4:aA (λe=>aA (λi=>dS (p e) (p ((e+1)%n)) (p i)) n) n with
    |true=>rw [h4] at h;cases h
    |false =>
     simp only [Bool.or_eq_false_iff,decide_eq_false_iff_not] at h1;exact⟨by omega,λi hi=>by simpa using (aF.1 h2) i hi,λe he i hi=>(aF.1 ((aF.1 h4) e he)) i hi⟩
theorem n5 {S:PtS->Bool} {p:Nat->PtS} {x:PtS}:∀{j:Nat},x∈dv S p j->∃t,t < j/\x=p t/\S x=true
 |0,h=>by cases h
 |j+1,h=>by
  rcases List.mem_append.1 h with h|h
  ·obtain⟨t,h1,h2⟩:=n5 h;exact⟨t,by omega,h2⟩
  ·cases hs:S (p j) with
   |true =>
    rw [hs] at h;have:=List.mem_singleton.1 h;exact⟨j,by omega,this,by rw [this];exact hs⟩
   |false=>rw [hs] at h;cases h
theorem n7 {S:PtS->Bool} {n:Nat->Nat} {p:Nat->Nat->PtS} {x:PtS}:∀{i:Nat},x∈cQ S n p i->∃s,s < i/\∃t,t < n s/\x=p s t/\S x=true
 |0,h=>by cases h
 |i+1,h=>by
  rcases List.mem_append.1 h with h|h
  ·obtain⟨s,h1,h2⟩:=n7 h;exact⟨s,by omega,h2⟩
  ·obtain⟨t,h1,h2⟩:=n5 h;exact⟨i,by omega,t,h1,h2⟩
theorem n8 (S:PtS->Bool) (p:Nat->PtS):∀j,(dv S p j).length<=j
 |0=>Nat.le_refl _
 |j+1=>by
  have:=n8 S p j;rw [dv,List.length_append];cases S (p j)<;>simp<;>omega
theorem kE (S:PtS->Bool) (n:Nat->Nat) (p:Nat->Nat->PtS):∀i,(cQ S n p i).length<=b9 n i
 |0=>Nat.le_refl _
 |i+1=>by
  have:=kE S n p i;have:=n8 S (p i) (n i);rw [cQ,List.length_append,b9];omega
theorem xf {lo hi:PtS} {k:Nat} {c:Nat->List PV} {l:Nat} {o:Nat->List PV} {x:PtS} (h:x∈di lo hi k c l o):x∈au lo hi k c l o:=by
 obtain⟨i,hi2,e⟩:=kz h;refine(ga _).mem_iff.1 ?_;rw [e];unfold ae;rw [List.getElem?_eq_getElem (by rw [nV];exact hi2)];exact List.getElem_mem _
theorem sn {lo hi:PtS} {k:Nat} {c:Nat->List PV} {l:Nat} {o:Nat->List PV} (hr:bX lo hi k (pn c) (λi=>ab (pg c i)) l (ow o)=0) {x:PtS} (h:x∈au lo hi k c l o):ai x=true:=by
 obtain⟨s,hs,t,ht,e,_⟩:=n7 h;rw [e];exact(sj (kC hr s hs)).2.1 t ht
theorem n9 {p q:PtS} {C:Nat->PtS} {x:PtS}:∀{j:Nat},x∈bJ p q C j->x=p\/x=q\/∃i,i < j/\x=C i
 |0,h=>by
  rcases List.mem_cons.1 h with h|h
  ·exact .inl h
  ·exact .inr (.inl (List.mem_singleton.1 h))
 |j+1,h=>by
  rcases List.mem_append.1 h with h|h
  ·rcases n9 h with h|h|⟨i,h1,h2⟩
   ·exact .inl h
   ·exact .inr (.inl h)
   ·exact .inr (.inr ⟨i,by omega,h2⟩)
  ·cases hb:(!aX (C j) p&&!aX (C j) q) with
   |true =>
    rw [hb] at h;exact .inr (.inr ⟨j,by omega,List.mem_singleton.1 h⟩)
   |false=>rw [hb] at h;cases h
theorem jZ {S:PtS->PtS->Bool} {P:Nat->PtS} {i:Nat} {x:Int×Int}:∀{d:Nat},x∈cN S P i d->∃e,e < d/\x=((i:Int),((i+1+e:Nat):Int))/\S (P i) (P (i+1+e))=true
 |0,h=>by cases h
 |d+1,h=>by
  rcases List.mem_append.1 h with h|h
  ·obtain⟨e,h1,h2⟩:=jZ h;exact⟨e,by omega,h2⟩
  ·cases hb:S (P i) (P (i+1+d)) with
   |true =>
    rw [hb] at h;exact⟨d,by omega,List.mem_singleton.1 h,hb⟩
   |false=>rw [hb] at h;cases h
theorem j0 {S:PtS->PtS->Bool} {P:Nat->PtS} {n:Nat} {x:Int×Int}:∀{i:Nat},x∈bh S P n i->∃s,s < i/\∃e,e < n - (s+1)/\x=((s:Int),((s+1+e:Nat):Int))/\S (P s) (P (s+1+e))=true
 |0,h=>by cases h
 |i+1,h=>by
  rcases List.mem_append.1 h with h|h
  ·obtain⟨s,h1,h2⟩:=j0 h;exact⟨s,by omega,h2⟩
  ·obtain⟨e,h1,h2⟩:=jZ h;exact⟨i,by omega,e,h1,h2⟩
theorem oa {x y:Int×Int}:dP x y=true↔x.1 < y.1\/x.1=y.1/\x.2 < y.2:=by
 unfold dP;simp
theorem kZ (S:PtS->PtS->Bool) (P:Nat->PtS) (i:Nat):∀d,(cN S P i d).Pairwise λx y=>dP x y=true
 |0=>List.Pairwise.nil
 |d+1=>by
  rw [cN,List.pairwise_append];refine⟨kZ S P i d,?_,λx hx y hy=>?_⟩
  ·cases S (P i) (P (i+1+d))<;>simp
  ·obtain⟨e,h1,h2,_⟩:=jZ hx;cases hb:S (P i) (P (i+1+d)) with
   |true =>
    rw [hb] at hy;rw [List.mem_singleton.1 hy,h2,oa];exact .inr ⟨rfl,by show((i+1+e:Nat):Int) < ((i+1+d:Nat):Int);omega⟩
   |false=>rw [hb] at hy;cases hy
theorem k6 (S:PtS->PtS->Bool) (P:Nat->PtS) (n:Nat):∀i,(bh S P n i).Pairwise λx y=>dP x y=true
 |0=>List.Pairwise.nil
 |i+1=>by
  rw [bh,List.pairwise_append];refine⟨k6 S P n i,kZ S P i _,λx hx y hy=>?_⟩;obtain⟨s,h1,e,h2,h3,_⟩:=j0 hx;obtain⟨e',h4,h5,_⟩:=jZ hy;rw [h3,h5,oa];exact .inl (by show(s:Int) < i;omega)
theorem Dk (S:PtS->PtS->Bool) (P:Nat->PtS) (n:Nat):cJ n (qL (bh S P n n)) (bh S P n n).length=true:=by
 unfold cJ;rw [Bool.not_eq_true'];refine aF.2 λi hi=>?_;have e:qL (bh S P n n) i=(bh S P n n)[i]:=by rw [qL,List.getElem?_eq_getElem hi];rfl
 obtain⟨s,h1,d,h2,h3,_⟩:=j0 (List.getElem_mem hi);unfold ia;simp only [Bool.or_eq_false_iff,decide_eq_false_iff_not,Bool.and_eq_false_iff,Bool.not_eq_false'];rw [e,h3];refine⟨⟨⟨by show ¬(s:Int) < 0;omega,by show ¬((s+1+d:Nat):Int)<=s;omega⟩,by show ¬(n:Int)<=((s+1+d:Nat):Int);omega⟩,?_⟩;rw [<-h3];by_cases h0:0 < i
 ·right;have e2:qL (bh S P n n) (i - 1)=(bh S P n n)[i - 1]:=by rw [qL,List.getElem?_eq_getElem (by omega)];rfl
  rw [e2];exact List.pairwise_iff_getElem.1 (k6 S P n n) (i - 1) i (by omega) hi (by omega)
 ·exact .inl h0
theorem xg {lo hi:PtS} {k:Nat} {c:Nat->List PV} {l:Nat} {o:Nat->List PV} {a b:PtS} (hr:bX lo hi k (pn c) (λi=>ab (pg c i)) l (ow o)=0) (ha:ai a=true) (hb:ai b=true) (hs:b9 (pn c) k<=24) :
  bG (cF lo hi k c l o a b).length (ae (cF lo hi k c l o a b)) (gG lo hi k c l o a b).length (qL (gG lo hi k c l o a b))=true/\(cF lo hi k c l o a b).length<=26:=by
 have hlen:(cF lo hi k c l o a b).length<=26:=by
  unfold cF;cases d7 lo hi k c l o a b==0 with
  |false=>exact Nat.zero_le _
  |true =>
   have h1:=(jY a b (ae (di lo hi k c l o)) (di lo hi k c l o).length).2;have h2:(di lo hi k c l o).length<=(au lo hi k c l o).length:=jV _ _;have h3:(au lo hi k c l o).length<=b9 (pn c) k:=kE _ _ _ _;show(bJ a b (ae (di lo hi k c l o)) (di lo hi k c l o).length).length<=26;omega
 refine⟨?_,hlen⟩;unfold bG;have h1:decide ((cF lo hi k c l o a b).length<=1000)=true:=decide_eq_true (by omega);have h2:aA (λi=>!ai (ae (cF lo hi k c l o a b) i)) (cF lo hi k c l o a b).length=false:=aF.2 λi hi2=>by
  have hm:ae (cF lo hi k c l o a b) i∈cF lo hi k c l o a b:=by
   unfold ae;rw [List.getElem?_eq_getElem hi2];exact List.getElem_mem _
  revert hm;generalize ae (cF lo hi k c l o a b) i=x;intro hm;unfold cF at hm;cases hB:d7 lo hi k c l o a b==0 with
  |false=>rw [hB] at hm;cases hm
  |true =>
   rw [hB] at hm;have hc:ai x=true:=by
    rcases n9 hm with h|h|⟨j,h3,h4⟩
    ·rw [h];exact ha
    ·rw [h];exact hb
    ·refine sn hr (xf ?_);rw [h4];unfold ae;rw [List.getElem?_eq_getElem h3];exact List.getElem_mem _
   rw [hc];rfl
 rw [h1,h2];exact Dk _ _ _
theorem yZ {lo hi:PtS} {k:Nat} {n:Nat->Nat} {p:Nat->Nat->PtS} {l:Nat} {q:Nat->Int×Int×Int} (hr:bX lo hi k n p l q=0):k<=32:=by
 unfold bX at hr;cases h1:(!ai lo||!ai hi) with
 |true=>rw [h1] at hr;cases hr
 |false =>
  rw [h1,cond_false] at hr;cases h2:decide (32 < k) with
  |true=>rw [h2] at hr;cases hr
  |false=>have:=of_decide_eq_false h2;omega
theorem y4 {xs:List PV} {n:Nat} {r:Nat->List PV} (h:kX xs n r=true):b9 (pn (gC xs)) (gK xs)<=24:=by
 unfold kX jk at h;rw [Bool.and_eq_true,Bool.and_eq_true,Bool.not_eq_true',Bool.or_eq_false_iff] at h;obtain⟨⟨⟨g1,_⟩,g3⟩,_⟩:=h;have hr:=vp (eq_of_beq g3);have hk:gK xs<=32:=yZ hr;unfold mK at g1;simp only [Bool.or_eq_false_iff,Bool.and_eq_false_iff,decide_eq_false_iff_not] at g1;omega
theorem xh {xs:List PV} {n:Nat} {r:Nat->List PV} (h:(!kX xs n r)=false):b9 (pn (gC xs)) (gK xs)<=24:=y4 (by simpa using h)
theorem uh {L:List (Int×Int)} {i:Nat} (hi:i < L.length):qL L i∈L:=by
 rw [qL,List.getElem?_eq_getElem hi];exact List.getElem_mem hi
theorem AY {lo hi:PtS} {k:Nat} {c:Nat->List PV} {l:Nat} {o:Nat->List PV} {a b:PtS} (ha:a.le 10000) (hb:b.le 10000) (h:bU 10000 k c):∀i,i < (cF lo hi k c l o a b).length->(ae (cF lo hi k c l o a b) i).le 10000:=λi hi2=>by
 refine gb (λp hp=>?_) hi2;unfold cF at hp;cases hB:d7 lo hi k c l o a b==0 with
 |false=>rw [hB] at hp;cases hp
 |true =>
  rw [hB] at hp;exact kD ha hb (λj hj=>gb (mI h) hj) p hp
theorem vr {S:PtS->PtS->Bool} {P:Nat->PtS} {i e:Nat} (hs:S (P i) (P (i+1+e))=true):∀{d:Nat},e < d->((i:Int),((i+1+e:Nat):Int))∈cN S P i d
 |0,h=>absurd h (Nat.not_lt_zero _)
 |d+1,h=>by
  rw [cN,List.mem_append];by_cases he:e=d
  ·right;rw [<-he,hs];exact List.mem_singleton.2 rfl
  ·exact .inl (vr hs (by omega))
theorem vt {S:PtS->PtS->Bool} {P:Nat->PtS} {n s e:Nat} (he:e < n - (s+1)) (hs:S (P s) (P (s+1+e))=true):∀{i:Nat},s < i->((s:Int),((s+1+e:Nat):Int))∈bh S P n i
 |0,h=>absurd h (Nat.not_lt_zero _)
 |i+1,h=>by
  rw [bh,List.mem_append];by_cases hi:s=i
  ·right;rw [<-hi];exact vr hs he
  ·exact .inl (vt he hs (by omega))
theorem j4 {S:PtS->PtS->Bool} {P:Nat->PtS} {n:Nat} {x:Int×Int}:x∈bh S P n n↔∃s t:Nat,s < t/\t < n/\x=((s:Int),(t:Int))/\S (P s) (P t)=true:=by
 constructor
 ·intro h;obtain⟨s,hs,e,he,rfl,h2⟩:=j0 h;exact⟨s,s+1+e,by omega,by omega,rfl,h2⟩
 ·rintro ⟨s,t,h1,h2,rfl,h3⟩;have e:t=s+1+(t - (s+1)):=by omega
  rw [e] at h3 ⊢;exact vt (by omega) h3 (by omega)
theorem vu {z y:Int} {q:Nat->Int×Int}:∀{j:Nat},y∈eH z q j↔∃t,t < j/\(z=(q t).1/\y=(q t).2\/z≠(q t).1/\z=(q t).2/\y=(q t).1)
 |0=>⟨λh=>(nomatch h),λ⟨_,h,_⟩=>absurd h (Nat.not_lt_zero _)⟩
 |j+1=>by
  have st:∀{p:Nat->Prop},(∃t,t < j+1/\p t)↔(∃t,t < j/\p t)\/p j:=by
   intro p;constructor
   ·rintro ⟨t,h,hp⟩;by_cases e:t=j
    ·exact .inr (e▸hp)
    ·exact .inl ⟨t,by omega,hp⟩
   ·rintro (⟨t,h,hp⟩|h)
    ·exact⟨t,by omega,hp⟩
    ·exact⟨j,by omega,h⟩
  rw [st,eH,List.mem_append,vu];refine or_congr Iff.rfl ?_;by_cases h1:z=(q j).1
  ·rw [show(z==(q j).1)=true from beq_iff_eq.2 h1];simp [h1]
  ·rw [show(z==(q j).1)=false from beq_eq_false_iff_ne.2 h1];by_cases h2:z=(q j).2
   ·rw [show(z==(q j).2)=true from beq_iff_eq.2 h2];simp only [cond_false,cond_true,List.mem_singleton];exact⟨λh=>.inr ⟨h1,h2,h⟩,λh=>by
     rcases h with ⟨h,_⟩|⟨_,_,h⟩
     ·exact absurd h h1
     ·exact h⟩
   ·rw [show(z==(q j).2)=false from beq_eq_false_iff_ne.2 h2];simp [h1,h2]
theorem Dl (L:List Int):(List.range L.length).map (zL L)=L:=by
 apply List.ext_getElem
 ·simp
 ·intro i h1 h2;simp [zL,List.getD_eq_getElem?_getD,h2]
theorem y5 (z:Int) (q:Nat->Int×Int) (m:Nat):xp z q m=(eH z q m).mergeSort λx y=>decide (x<=y):=by
 rw [xp,kA,Dl]
theorem AZ {z y:Int} {q:Nat->Int×Int} {m:Nat}:y∈xp z q m↔y∈eH z q m:=by
 rw [y5];exact List.mem_mergeSort
theorem ui (z:Int) (q:Nat->Int×Int) (m:Nat):(xp z q m).Pairwise λx y=>x<=y:=by
 rw [y5];have h:=List.pairwise_mergeSort (le:=λx y:Int=>decide (x<=y)) (λa b c h1 h2=>by simp at h1 h2 ⊢;omega) (λa b=>by simp;omega) (eH z q m);exact h.imp λh=>by simpa using h
theorem vv {S:PtS->PtS->Bool} {P:Nat->PtS} {n:Nat} {z y:Int}:y∈xp z (qL (bh S P n n)) (bh S P n n).length↔(z,y)∈bh S P n n\/(y,z)∈bh S P n n:=by
 rw [AZ,vu];generalize hL:bh S P n n=L;have ne:∀x∈L,x.1 < x.2:=λx hx=>by
  obtain⟨s,t,h1,_,rfl,_⟩:=j4.1 (hL▸hx);show(s:Int) < t;omega
 constructor
 ·rintro ⟨t,ht,⟨h1,h2⟩|⟨_,h1,h2⟩⟩
  ·left;rw [h1,h2];exact uh ht
  ·right;rw [h1,h2];exact uh ht
 ·rintro (h|h)
  ·obtain⟨t,ht,e⟩:=List.getElem_of_mem h;refine⟨t,ht,.inl ?_⟩;have e2:qL L t=(z,y):=by rw [qL,List.getElem?_eq_getElem ht,e];rfl
   rw [e2];exact⟨rfl,rfl⟩
  ·obtain⟨t,ht,e⟩:=List.getElem_of_mem h;refine⟨t,ht,.inr ?_⟩;have e2:qL L t=(y,z):=by rw [qL,List.getElem?_eq_getElem ht,e];rfl
   rw [e2];have:=ne _ h;exact⟨by show z≠y;omega,rfl,rfl⟩
end Go.Num
namespace Go.Proofs
end Go.Proofs
namespace Go.Num
def xi (lo hi:PtS) (k:Nat) (c:Nat->List PV) (l:Nat) (o:Nat->List PV):Bool:=bX lo hi k (pn c) (λi=>ab (pg c i)) l (ow o)==0
def dD (lo hi:PtS) (k:Nat) (c:Nat->List PV) (l:Nat) (o:Nat->List PV):List PtS:=bif xi lo hi k c l o then di lo hi k c l o else []
end Go.Num
namespace Go.Proofs
def IN:List PV->Option Ans
 |[.agg xs]=>some ⟨some (isRg 10000 xs/\(au (bV xs) (bW xs) (gK xs) (gC xs) (gL xs) (gO xs)).length<=500),.tup [.rs 6 (dD (bV xs) (bW xs) (gK xs) (gC xs) (gL xs) (gO xs)).length (λi=>(ae (dD (bV xs) (bW xs) (gK xs) (gC xs) (gL xs) (gO xs)) i).cells),.val (.int .i64 (bY (xi (bV xs) (bW xs) (gK xs) (gC xs) (gL xs) (gO xs))))],[]⟩
 |_=>none
theorem IP:am {} Tryz.f23 1=true:=by kernel_rfl
theorem f23:FnOk Tryz.prog 23 IN:=by
 refine FnOk.ofW aj (an (l:=[(55,AH),(57,GR)]) (own:=[]) (inl:=[]) (by simp [F8,f57]) (by simp)) Tryz.func23 {} 1 IP λargs r e=>?_;unfold IN at e;split at e
 ·rename_i xs
  cases e;refine⟨by simp,λhm=>?_⟩;obtain⟨⟨h1,⟨hlo,hhi⟩,hcl,hol⟩,hN⟩:=hm _ rfl;generalize bV xs=lo at *
  generalize bW xs=hi at *
  generalize gK xs=k at *
  generalize gC xs=c at *
  generalize gL xs=l at *
  generalize gO xs=o at *
  subst h1;clear hm;refine⟨[],aa [(0,.agg (br lo hi k c l o))] [] 0 [],Wo trivial ⟨⟨rfl,rfl,rfl,rfl,rfl,rfl,rfl,rfl,rfl,rfl,rfl,rfl,qW,qW,qQ⟩,qQ⟩ trivial,?_⟩;have hcl':bU 10000 k (λi=>[.rs 6 (pn c i) (pg c i)]):=⟨λi hi=>⟨rfl,(hcl.1 i hi).2⟩,hcl.2⟩;have hol':cX l (λi=>ag (ow o i)):=⟨λ_ _=>rfl,hol.2⟩;have hrg:((lo.le 4294967296/\hi.le 4294967296)/\bU 10000 k (λi=>[.rs 6 (pn c i) (pg c i)])/\cX l (λi=>ag (ow o i))):=⟨⟨hlo.mono (by decide),hhi.mono (by decide)⟩,hcl',hol'⟩;have hrg3:((lo.le 10000/\hi.le 10000)/\bU 10000 k (λi=>[.rs 6 (pn c i) (pg c i)])/\cX l (λi=>ag (ow o i))):=⟨⟨hlo,hhi⟩,hcl',hol'⟩;have p0:isPL 4294967296 0 (λ_=>[]):=⟨λi hi=>absurd hi (Nat.not_lt_zero i),Nat.zero_le _⟩;obtain⟨E,hE⟩:∃E,E=xi lo hi k c l o:=⟨_,rfl⟩;obtain⟨R,hR⟩:∃R,R=dD lo hi k c l o:=⟨_,rfl⟩;have eR:R=bif E then di lo hi k c l o else []:=by rw [hR,dD,<-hE]
  show zC _ _ _ _ _ ⟨_,.tup [.rs 6 (dD lo hi k c l o).length (λi=>(ae (dD lo hi k c l o) i).cells),.val (.int .i64 (bY (xi lo hi k c l o)))],[]⟩;rw [<-hR,<-hE];have q1:((bX lo hi k (pn (λi=>[.rs 6 (pn c i) (pg c i)])) (λi=>ab (pg (λi=>[.rs 6 (pn c i) (pg c i)]) i)) l (ow (λi=>ag (ow o i)))==0)&&!aA (λi=>!ai (ab (λ_=>[]) i)) 0)=E:=by
   rw [hE];exact Bool.and_true _
  have z:∀B:Bool,(bY B != 0)=true->B=false:=λB h=>by cases B<;>first|rfl|cases h
  have z':∀B:Bool,(bY B != 0)=false->B=true:=λB h=>by cases B<;>first|rfl|cases h
  have b0:E=false->R.length=0:=λh=>by rw [eR,h];rfl
  have v0:PV.val (.int .i64 (bY ((bX lo hi k (pn (λi=>[.rs 6 (pn c i) (pg c i)])) (λi=>ab (pg (λi=>[.rs 6 (pn c i) (pg c i)]) i)) l (ow (λi=>ag (ow o i)))==0)&&!aA (λi=>!ai (ab (λ_=>[]) i)) 0)))=PV.val (.int .i64 (bY E)):=by rw [q1]
  have v1:E=true->PV.val (.int .i64 0)=PV.val (.int .i64 (bY E)):=λh=>by rw [h];rfl
  have n1:E=true->(di lo hi k (λi=>[.rs 6 (pn c i) (pg c i)]) l (λi=>ag (ow o i))).length=R.length:=λh=>by rw [eR,h];rfl
  have n2:E=true->∀i,i < R.length->(ae R i).cells=(ae (di lo hi k (λi=>[.rs 6 (pn c i) (pg c i)]) l (λi=>ag (ow o i))) i).cells:=λh=>by rw [eR,h];exactλ_ _=>rfl
  with_unfolding_all exact⟨⟨hrg,p0⟩,λh1=>⟨[],aa [(2,.rs 6 R.length (λi=>(ae R i).cells)),(3,.val (.int .i64 (bY E)))] [] 0 [],Wo trivial ⟨⟨rfl,b0 (q1.symm.trans (z _ h1))⟩,v0,qQ⟩ trivial,rfl,rfl⟩,λh1=>⟨⟨hrg3,hN⟩,⟨[],aa [(2,.rs 6 R.length (λi=>(ae R i).cells)),(3,.val (.int .i64 (bY E)))] [] 0 [],Wo trivial ⟨⟨rfl,n1 (q1.symm.trans (z' _ h1)),n2 (q1.symm.trans (z' _ h1))⟩,v1 (q1.symm.trans (z' _ h1)),qQ⟩ trivial,rfl,rfl⟩⟩⟩
 ·cases e
theorem IQ:am {} Tryz.f47 3=true:=by kernel_rfl
def IR:Trans:=λargs s K=>args.length<=3/\qH Tryz.prog (DE [] [] []) {} Tryz.f47 args s K
theorem Jh:dx Tryz.prog 47 IR:=jE aj (an (by simp) (by simp)) Tryz.func47 {} 3 IQ λ_ _ _ h=>h
theorem Gv:am {} Tryz.f83 2=true:=by kernel_rfl
def Ji:Trans:=λargs s K=>args.length<=2/\qH Tryz.prog (DE [] [] [(47,IR)]) {} Tryz.f83 args s K
theorem Jy:dx Tryz.prog 83 Ji:=jE aj (an (by simp) (by simp [Jh])) Tryz.func83 {} 2 Gv λ_ _ _ h=>h
def D45:Opt:={ join:=λc=>match c with | .region 1 _ _=>true|_=>false }
theorem IS:am D45.toOrd Tryz.f45 2=true:=by kernel_rfl
def Jj:Trans:=λargs s K=>args.length<=2/\qH Tryz.prog (DE [] [] [(83,Ji),(47,IR)]) D45 Tryz.f45 args s K
theorem t45:dx Tryz.prog 45 Jj:=jE aj (an (by simp) (by simp [Jy,Jh])) Tryz.func45 D45 2 IS λ_ _ _ h=>h
end Go.Proofs
namespace Go.Num
def so (a b:Rat):Rat:=if ao b a > 0 then b else a
def sp (a b:Rat):Rat:=if ao b a < 0 then b else a
def uj (A D:Nat->Rat):Nat->Option (Rat×Rat)
 |0=>some (0,1)
 |e+1=>match uj A D e with
  |none=>none
  |some s=>if ao (D e) 0=0 then(if ao (A e) 0<=0 then none else some s) else if ao (D e) 0 > 0 then some (so s.1 (-A e / D e),s.2) else some (s.1,sp s.2 (-A e / D e))
def G0 (A D:Nat->Rat) (n:Nat):Bool:=match uj A D n with
 |none=>false
 |some s=>!decide (ao s.1 s.2>=0)
def IvP (A D:Nat->Rat) (n:Nat) (t:Rat):Prop:=∀e,e < n->0 < A e+D e*t
theorem IvP.succ {A D:Nat->Rat} {n:Nat} {t:Rat}:IvP A D (n+1) t↔IvP A D n t/\0 < A n+D n*t:=by
 constructor
 ·intro h;exact⟨λe he=>h e (by omega),h n (by omega)⟩
 ·rintro ⟨h,k⟩ e he;by_cases x:e=n
  ·rw [x];exact k
  ·exact h e (by omega)
def nd (n:Nat) (p:Nat->PtS) (v:PtS):Nat->Int
 |0=>1
 |e+1=>min (nd n p v e) (j5 (p e) (p ((e+1)%n)) v)
def d8 (i:Nat) (lo hi p:PtS):Bool:=match i with
 |0=>decide (ao p.X lo.X < 0)
 |1=>decide (ao hi.X p.X < 0)
 |2=>decide (ao p.Y lo.Y < 0)
 |_=>decide (ao hi.Y p.Y < 0)
def il (n:Nat) (p:Nat->PtS) (a b:PtS) (e:Nat):Rat:=cL (cq (p ((e+1)%n)) (p e)) (cq b a)
def pK (lo hi:PtS) (k:Nat) (n:Nat->Nat) (p:Nat->Nat->PtS) (a b:PtS):Bool:=aA (λi=>d8 i lo hi a||d8 i lo hi b) 4||aA (λi=>G0 (gF (n i) (p i) a) (il (n i) (p i) a b) (n i)) k
def ap (lo hi:PtS) (k:Nat) (n:Nat->Nat) (p:Nat->Nat->PtS) (a:PtS):Bool:=!(aA (λi=>d8 i lo hi a) 4||aA (λi=>nd (n i) (p i) a (n i)==1) k)
def Dm (p u:RatS):RatS:=bif decide (ao u.q p.q > 0) then u else p
def Dn (p u:RatS):RatS:=bif decide (ao u.q p.q < 0) then u else p
theorem Gw (s:Bool) (b c:ByteArray):aE (.agg ⟨[.bool (!s),.string b,.string c]⟩) = -aE (.agg ⟨[.bool s,.string b,.string c]⟩):=by
 show mkRat (az (!s) (bv b)) (bq (bv c)) = -mkRat (az s (bv b)) (bq (bv c));rw [Rat.neg_mkRat];congr 1;cases s<;>simp [az]
end Go.Num
namespace Go.Proofs
def Do:List PV->Option Ans
 |[.val (.agg ⟨[.bool s,.string b,.string c]⟩),.val (.agg ⟨[.bool s',.string b',.string c']⟩)]=>some ⟨some (isRk 1073741824 (.agg ⟨[.bool s,.string b,.string c]⟩)/\isRk 1073741824 (.agg ⟨[.bool s',.string b',.string c']⟩)),.val (.bool (decide (ao (aE (.agg ⟨[.bool s,.string b,.string c]⟩)) (aE (.agg ⟨[.bool s',.string b',.string c']⟩)) < 0))),[]⟩
 |_=>none
def D184:Opt:={  }
theorem Gx:am D184.toOrd Tryz.f184 2=true:=by kernel_rfl
theorem f184:FnOk Tryz.prog 184 Do:=by
 refine FnOk.ofW aj (an (l:=[(135,rV)]) (own:=[]) (inl:=[]) (by simp [f135]) (by simp)) Tryz.func184 D184 2 Gx λargs r e=>?_;unfold Do at e;split at e
 ·rename_i s b c s' b' c'
  cases e;refine⟨by simp,λhm=>?_⟩;obtain⟨hv,hu⟩:=hm _ rfl;refine⟨[],aa [(0,.val (.agg ⟨[.bool s,.string b,.string c]⟩)),(1,.val (.agg ⟨[.bool s',.string b',.string c']⟩))] [] 0 [],Wo trivial ⟨rfl,rfl,qQ⟩ trivial,?_⟩;with_unfolding_all exact⟨⟨hv,hu⟩,⟨[],aa [(4,.val (.bool (decide (ao (aE (.agg ⟨[.bool s,.string b,.string c]⟩)) (aE (.agg ⟨[.bool s',.string b',.string c']⟩)) < 0))))] [] 0 [],Wo trivial ⟨rfl,qQ⟩ trivial,rfl,rfl⟩⟩
 ·cases e
def Dp:List PV->Option Ans
 |[.val (.agg ⟨[.bool s,.string b,.string c]⟩),.val (.agg ⟨[.bool s',.string b',.string c']⟩)]=>some ⟨some (isRk 1073741824 (.agg ⟨[.bool s,.string b,.string c]⟩)/\isRk 1073741824 (.agg ⟨[.bool s',.string b',.string c']⟩)),.val (Dm ⟨s,b,c⟩ ⟨s',b',c'⟩).v,[]⟩
 |_=>none
def D190:Opt:={  }
theorem Gy:am D190.toOrd Tryz.f190 2=true:=by kernel_rfl
theorem f190:FnOk Tryz.prog 190 Dp:=by
 refine FnOk.ofW aj (an (l:=[(135,rV)]) (own:=[]) (inl:=[]) (by simp [f135]) (by simp)) Tryz.func190 D190 2 Gy λargs r e=>?_;unfold Dp at e;split at e
 ·rename_i s b c s' b' c'
  cases e;refine⟨by simp,λhm=>?_⟩;obtain⟨hv,hu⟩:=hm _ rfl;refine⟨[],aa [(0,.val (.agg ⟨[.bool s,.string b,.string c]⟩)),(1,.val (.agg ⟨[.bool s',.string b',.string c']⟩))] [] 0 [],Wo trivial ⟨rfl,rfl,qQ⟩ trivial,?_⟩;have e1:decide (ao (aE (.agg ⟨[.bool s',.string b',.string c']⟩)) (aE (.agg ⟨[.bool s,.string b,.string c]⟩)) > 0)=true->RatS.mk s' b' c'=(Dm ⟨s,b,c⟩ ⟨s',b',c'⟩):=λh=>by
   show _=bif decide (ao (aE (.agg ⟨[.bool s',.string b',.string c']⟩)) (aE (.agg ⟨[.bool s,.string b,.string c]⟩)) > 0) then RatS.mk s' b' c' else RatS.mk s b c;rw [h];rfl
  have e2:decide (ao (aE (.agg ⟨[.bool s',.string b',.string c']⟩)) (aE (.agg ⟨[.bool s,.string b,.string c]⟩)) > 0)=false->RatS.mk s b c=(Dm ⟨s,b,c⟩ ⟨s',b',c'⟩):=λh=>by
   show _=bif decide (ao (aE (.agg ⟨[.bool s',.string b',.string c']⟩)) (aE (.agg ⟨[.bool s,.string b,.string c]⟩)) > 0) then RatS.mk s' b' c' else RatS.mk s b c;rw [h];rfl
  with_unfolding_all exact⟨⟨hu,hv⟩,λh=>⟨[some 2],aa [(4,.ptr 0 0 0 0)] [⟨23,3,0,true,false,1,λ_=>(Dm ⟨s,b,c⟩ ⟨s',b',c'⟩).cells⟩] 1 [],Wo ⟨qZ ⟨⟨congrArg (λr:RatS=>PV.val (.bool r.s)) (e1 h),rfl⟩,⟨congrArg (λr:RatS=>PV.val (.string r.b)) (e1 h),rfl⟩,⟨congrArg (λr:RatS=>PV.val (.string r.c)) (e1 h),rfl⟩,qQ⟩,qQ⟩ ⟨pP,qQ⟩ trivial,rfl,rfl⟩,λh=>⟨[some 2],aa [(4,.ptr 0 0 0 0)] [⟨23,3,0,true,false,1,λ_=>(Dm ⟨s,b,c⟩ ⟨s',b',c'⟩).cells⟩] 1 [],Wo ⟨qZ ⟨⟨congrArg (λr:RatS=>PV.val (.bool r.s)) (e2 h),rfl⟩,⟨congrArg (λr:RatS=>PV.val (.string r.b)) (e2 h),rfl⟩,⟨congrArg (λr:RatS=>PV.val (.string r.c)) (e2 h),rfl⟩,qQ⟩,qQ⟩ ⟨pP,qQ⟩ trivial,rfl,rfl⟩⟩
 ·cases e
def Dq:List PV->Option Ans
 |[.val (.agg ⟨[.bool s,.string b,.string c]⟩),.val (.agg ⟨[.bool s',.string b',.string c']⟩)]=>some ⟨some (isRk 1073741824 (.agg ⟨[.bool s,.string b,.string c]⟩)/\isRk 1073741824 (.agg ⟨[.bool s',.string b',.string c']⟩)),.val (Dn ⟨s,b,c⟩ ⟨s',b',c'⟩).v,[]⟩
 |_=>none
def D191:Opt:={  }
theorem Gz:am D191.toOrd Tryz.f191 2=true:=by kernel_rfl
theorem f191:FnOk Tryz.prog 191 Dq:=by
 refine FnOk.ofW aj (an (l:=[(135,rV)]) (own:=[]) (inl:=[]) (by simp [f135]) (by simp)) Tryz.func191 D191 2 Gz λargs r e=>?_;unfold Dq at e;split at e
 ·rename_i s b c s' b' c'
  cases e;refine⟨by simp,λhm=>?_⟩;obtain⟨hv,hu⟩:=hm _ rfl;refine⟨[],aa [(0,.val (.agg ⟨[.bool s,.string b,.string c]⟩)),(1,.val (.agg ⟨[.bool s',.string b',.string c']⟩))] [] 0 [],Wo trivial ⟨rfl,rfl,qQ⟩ trivial,?_⟩;have e1:decide (ao (aE (.agg ⟨[.bool s',.string b',.string c']⟩)) (aE (.agg ⟨[.bool s,.string b,.string c]⟩)) < 0)=true->RatS.mk s' b' c'=(Dn ⟨s,b,c⟩ ⟨s',b',c'⟩):=λh=>by
   show _=bif decide (ao (aE (.agg ⟨[.bool s',.string b',.string c']⟩)) (aE (.agg ⟨[.bool s,.string b,.string c]⟩)) < 0) then RatS.mk s' b' c' else RatS.mk s b c;rw [h];rfl
  have e2:decide (ao (aE (.agg ⟨[.bool s',.string b',.string c']⟩)) (aE (.agg ⟨[.bool s,.string b,.string c]⟩)) < 0)=false->RatS.mk s b c=(Dn ⟨s,b,c⟩ ⟨s',b',c'⟩):=λh=>by
   show _=bif decide (ao (aE (.agg ⟨[.bool s',.string b',.string c']⟩)) (aE (.agg ⟨[.bool s,.string b,.string c]⟩)) < 0) then RatS.mk s' b' c' else RatS.mk s b c;rw [h];rfl
  with_unfolding_all exact⟨⟨hu,hv⟩,λh=>⟨[some 2],aa [(4,.ptr 0 0 0 0)] [⟨23,3,0,true,false,1,λ_=>(Dn ⟨s,b,c⟩ ⟨s',b',c'⟩).cells⟩] 1 [],Wo ⟨qZ ⟨⟨congrArg (λr:RatS=>PV.val (.bool r.s)) (e1 h),rfl⟩,⟨congrArg (λr:RatS=>PV.val (.string r.b)) (e1 h),rfl⟩,⟨congrArg (λr:RatS=>PV.val (.string r.c)) (e1 h),rfl⟩,qQ⟩,qQ⟩ ⟨pP,qQ⟩ trivial,rfl,rfl⟩,λh=>⟨[some 2],aa [(4,.ptr 0 0 0 0)] [⟨23,3,0,true,false,1,λ_=>(Dn ⟨s,b,c⟩ ⟨s',b',c'⟩).cells⟩] 1 [],Wo ⟨qZ ⟨⟨congrArg (λr:RatS=>PV.val (.bool r.s)) (e2 h),rfl⟩,⟨congrArg (λr:RatS=>PV.val (.string r.b)) (e2 h),rfl⟩,⟨congrArg (λr:RatS=>PV.val (.string r.c)) (e2 h),rfl⟩,qQ⟩,qQ⟩ ⟨pP,qQ⟩ trivial,rfl,rfl⟩⟩
 ·cases e
def Dr:List PV->Option Ans
 |[.val (.agg ⟨[.bool s,.string b,.string c]⟩)]=>some ⟨some (isRk 4294967296 (.agg ⟨[.bool s,.string b,.string c]⟩)),.val (aw (-aE (.agg ⟨[.bool s,.string b,.string c]⟩))),[]⟩
 |_=>none
def D189:Opt:={  }
theorem GA:am D189.toOrd Tryz.f189 1=true:=by kernel_rfl
theorem f189:FnOk Tryz.prog 189 Dr:=by
 refine FnOk.ofW aj (an (l:=[(132,Am)]) (own:=[]) (inl:=[]) (by simp [f132]) (by simp)) Tryz.func189 D189 1 GA λargs r e=>?_;unfold Dr at e;split at e
 ·rename_i s b c
  cases e;refine⟨by simp,λhm=>?_⟩;have hv:=hm _ rfl;obtain⟨s',b',c',e,hb,hc⟩:=hv;injection e with e;injection e with e;simp only [List.cons.injEq,Value.bool.injEq,Value.string.injEq,and_true] at e;obtain⟨rfl,rfl,rfl⟩:=e;have hn:isRk 4294967296 (.agg ⟨[.bool (!s),.string b,.string c]⟩):=⟨_,_,_,rfl,hb,hc⟩;have e:=Gw s b c;refine⟨[],aa [(0,.val (.agg ⟨[.bool s,.string b,.string c]⟩))] [] 0 [],Wo trivial ⟨rfl,qQ⟩ trivial,?_⟩;with_unfolding_all exact⟨hn,⟨[some 1],aa [(2,.ptr 0 0 0 0)] [⟨23,3,0,true,false,1,λ_=>(bx (-aE (.agg ⟨[.bool s,.string b,.string c]⟩))).cells⟩] 1 [],Wo ⟨qZ ⟨⟨congrArg (λq:Rat=>PV.val (.bool (bx q).s)) e,rfl⟩,⟨congrArg (λq:Rat=>PV.val (.string (bx q).b)) e,rfl⟩,⟨congrArg (λq:Rat=>PV.val (.string (bx q).c)) e,rfl⟩,qQ⟩,qQ⟩ ⟨pP,qQ⟩ trivial,rfl,rfl⟩⟩
 ·cases e
end Go.Proofs
namespace Go.Num
def Ds (v:Value):Value:=.agg ⟨[.bool (decide (cI v < 0)),.string (ah (bO v)),.string (ah (cI v).natAbs)]⟩
theorem GB {v:Value} (hd:0 < bO v) (hn:cI v≠0):aE (Ds v)=(aE v)⁻¹:=by
 show mkRat (az (decide (cI v < 0)) (bv (ah (bO v)))) (bq (bv (ah (cI v).natAbs)))=(mkRat (cI v) (bO v))⁻¹;rw [aH,aH];generalize cI v=N at *
 generalize bO v=D at *
 have e1:bq N.natAbs=N.natAbs:=by unfold bq;rw [if_neg (by omega)]
 rw [e1,<-Rat.divInt_ofNat,<-Rat.divInt_ofNat,Rat.inv_divInt];by_cases h:N < 0
 ·rw [decide_eq_true h];show Rat.divInt (-(D:Int)) (N.natAbs:Int)=Rat.divInt D N;rw [<-Rat.neg_divInt_neg,Int.neg_neg,show -(N.natAbs:Int)=N by omega]
 ·rw [decide_eq_false h];show Rat.divInt (D:Int) (N.natAbs:Int)=Rat.divInt D N;rw [show(N.natAbs:Int)=N by omega]
theorem Dt {v:Value} (h:aE v≠0):cI v≠0:=λe=>h (by show mkRat (cI v) (bO v)=0;rw [e,Rat.zero_mkRat])
end Go.Num
namespace Go.Proofs
def Du:List PV->Option Ans
 |[.val (.agg ⟨[.bool s,.string b,.string c]⟩),.val (.agg ⟨[.bool s',.string b',.string c']⟩)]=>some ⟨some ((isRk 1000000 (.agg ⟨[.bool s,.string b,.string c]⟩)/\isRk 1000000 (.agg ⟨[.bool s',.string b',.string c']⟩))/\aE (.agg ⟨[.bool s',.string b',.string c']⟩)≠0),.val (.tuple ⟨[aw (aE (.agg ⟨[.bool s,.string b,.string c]⟩) / aE (.agg ⟨[.bool s',.string b',.string c']⟩)),.int .i64 0]⟩),[]⟩
 |_=>none
def D188:Opt:={  }
theorem GC:am D188.toOrd Tryz.f188 2=true:=by kernel_rfl
theorem f188:FnOk Tryz.prog 188 Du:=by
 refine FnOk.ofW aj (an (l:=[(182,tP),(222,AJ)]) (own:=[]) (inl:=[]) (by simp [f182,f222]) (by simp)) Tryz.func188 D188 2 GC λargs r e=>?_;unfold Du at e;split at e
 ·rename_i s b c s' b' c'
  cases e;refine⟨by simp,λhm=>?_⟩;obtain⟨⟨hv,hu⟩,h0⟩:=hm _ rfl;have p1:isRk 1073741824 (.agg ⟨[.bool s,.string b,.string c]⟩):=hv.mono (by decide);have p2:isRk 17179869184 (.agg ⟨[.bool s',.string b',.string c']⟩):=hu.mono (by decide);have b2:=hu.b;have hN:=Dt h0;have hi:=GB b2.2.1 hN;have p3:isRk 1073741824 (Ds (.agg ⟨[.bool s',.string b',.string c']⟩)):=⟨_,_,_,rfl,Nat.le_trans (aY b2.2.2) (by decide),Nat.le_trans (aY b2.1) (by decide)⟩;refine⟨[],aa [(0,.val (.agg ⟨[.bool s,.string b,.string c]⟩)),(1,.val (.agg ⟨[.bool s',.string b',.string c']⟩))] [] 0 [],Wo trivial ⟨rfl,rfl,qQ⟩ trivial,?_⟩;have e:aE (.agg ⟨[.bool s,.string b,.string c]⟩)*aE (Ds (.agg ⟨[.bool s',.string b',.string c']⟩))=aE (.agg ⟨[.bool s,.string b,.string c]⟩) / aE (.agg ⟨[.bool s',.string b',.string c']⟩):=by rw [hi,Rat.div_def]
  have hno:((ah (cI (.agg ⟨[.bool s',.string b',.string c']⟩)).natAbs).toList==(⟨#[]⟩:ByteArray).toList)=true->False:=λh=>by
   rw [cV] at h;have:=of_decide_eq_true h;omega
  with_unfolding_all exact⟨p2,λh=>(hno h).elim,λ_=>⟨⟨p1,p3⟩,⟨[some 2],aa [(4,.ptr 0 0 0 0),(5,.val (.int .i64 0))] [⟨23,3,0,true,false,1,λ_=>(bx (aE (.agg ⟨[.bool s,.string b,.string c]⟩) / aE (.agg ⟨[.bool s',.string b',.string c']⟩))).cells⟩] 1 [],Wo ⟨qZ ⟨⟨congrArg (λq:Rat=>PV.val (.bool (bx q).s)) e,rfl⟩,⟨congrArg (λq:Rat=>PV.val (.string (bx q).b)) e,rfl⟩,⟨congrArg (λq:Rat=>PV.val (.string (bx q).c)) e,rfl⟩,qQ⟩,qQ⟩ ⟨pP,rfl,qQ⟩ trivial,rfl,rfl⟩⟩⟩
 ·cases e
def Dv:List PV->Option Ans
 |[.val (.int .i64 z)]=>some ⟨some (0<=z/\z < 100),.val (aw (z:Rat)),[]⟩
 |_=>none
def D187:Opt:={  }
theorem GD:am D187.toOrd Tryz.f187 1=true:=by kernel_rfl
theorem f187:FnOk Tryz.prog 187 Dv:=by
 refine FnOk.ofW aj (an (l:=[(226,rC),(183,wW)]) (own:=[]) (inl:=[]) (by simp [f226,f183]) (by simp)) Tryz.func187 D187 1 GD λargs r e=>?_;unfold Dv at e;split at e
 ·rename_i z
  cases e;refine⟨by simp,λhm=>?_⟩;obtain⟨h0,h1⟩:=hm _ rfl;refine⟨[],aa [(0,.val (.int .i64 z))] [] 0 [],Wo trivial ⟨rfl,qQ⟩ trivial,?_⟩;have e:Rat.divInt (aJ (ay z)) (aJ (ay 1))=(z:Rat):=by
   rw [av,av];rw [show(1:Int)=((1:Nat):Int) from rfl,Rat.divInt_ofNat,Rat.mkRat_one]
  have i1:∀y:Int,0<=y->y < 100->c9 8589934592 (ay y):=λy a b=>bA (k:=1) (by omega) (by decide);have n1:aJ (ay 1)≠0:=by rw [av];decide
  with_unfolding_all exact⟨by omega,by decide,⟨⟨i1 z h0 h1,i1 1 (by decide) (by decide)⟩,n1⟩,⟨[some 0],aa [(2,.ptr 0 0 0 0)] [⟨23,3,0,true,false,1,λ_=>(bx (z:Rat)).cells⟩] 1 [],Wo ⟨qZ ⟨⟨congrArg (λq:Rat=>PV.val (.bool (bx q).s)) e,rfl⟩,⟨congrArg (λq:Rat=>PV.val (.string (bx q).b)) e,rfl⟩,⟨congrArg (λq:Rat=>PV.val (.string (bx q).c)) e,rfl⟩,qQ⟩,qQ⟩ ⟨pP,qQ⟩ trivial,rfl,rfl⟩⟩
 ·cases e
end Go.Proofs
namespace Go.Num
def mV (z:Int):Nat:=if z = -1 then 0 else if z = -2 then 1 else if z = -3 then 2 else 3
end Go.Num
namespace Go.Proofs
def A0:List PV->Option Ans
 |[.agg xs,.val (.int .i64 z),.val v]=>some ⟨some (isRg 10000 xs/\isPk 10000 v),.val (.bool (d8 (mV z) (bV xs) (bW xs) (aN v))),[]⟩
 |_=>none
def D133:Opt:={  }
theorem GE:am D133.toOrd Tryz.f133 3=true:=by kernel_rfl
theorem f133:FnOk Tryz.prog 133 A0:=by
 refine FnOk.ofW aj (an (l:=[(184,Do)]) (own:=[]) (inl:=[]) (by simp [f184]) (by simp)) Tryz.func133 D133 3 GE λargs r e=>?_;unfold A0 at e;split at e
 ·rename_i xs z v
  cases e;refine⟨by simp,λhm=>?_⟩;obtain⟨⟨h1,⟨hlo,hhi⟩,hcl,hol⟩,p,rfl,hp⟩:=hm _ rfl;generalize bV xs=lo at *
  generalize bW xs=hi at *
  generalize gK xs=k at *
  generalize gC xs=c at *
  generalize gL xs=l at *
  generalize gO xs=o at *
  subst h1;clear hm;refine⟨[],aa [(0,.agg (br lo hi k c l o)),(1,.val (.int .i64 z)),(2,.val p.v)] [] 0 [],Wo trivial ⟨⟨rfl,rfl,rfl,rfl,rfl,rfl,rfl,rfl,rfl,rfl,rfl,rfl,qW,qW,qQ⟩,rfl,rfl,qQ⟩ trivial,?_⟩;have x1:=And.intro (cv hp (show 10000<=1073741824 by decide)) (cv hlo (show 10000<=1073741824 by decide));have x2:=And.intro (cv hhi (show 10000<=1073741824 by decide)) (cv hp (show 10000<=1073741824 by decide));have x3:=And.intro (cw hp (show 10000<=1073741824 by decide)) (cw hlo (show 10000<=1073741824 by decide));have x4:=And.intro (cw hhi (show 10000<=1073741824 by decide)) (cw hp (show 10000<=1073741824 by decide));have v1:(z == -1)=true->PV.val (.bool (decide (ao p.X lo.X < 0)))=PV.val (.bool (d8 (mV z) lo hi p)):=λh=>by
   rw [eq_of_beq h];rfl
  have v2:(z == -2)=true->PV.val (.bool (decide (ao hi.X p.X < 0)))=PV.val (.bool (d8 (mV z) lo hi p)):=λh=>by
   rw [eq_of_beq h];rfl
  have v3:(z == -3)=true->PV.val (.bool (decide (ao p.Y lo.Y < 0)))=PV.val (.bool (d8 (mV z) lo hi p)):=λh=>by
   rw [eq_of_beq h];rfl
  have v4:(z == -1)=false->(z == -2)=false->(z == -3)=false->PV.val (.bool (decide (ao hi.Y p.Y < 0)))=PV.val (.bool (d8 (mV z) lo hi p)):=λh h2 h3=>by
   unfold mV;rw [if_neg (by simpa using h),if_neg (by simpa using h2),if_neg (by simpa using h3)];rfl
  with_unfolding_all exact⟨λh=>⟨x1,⟨[],aa [(6,.val (.bool (d8 (mV z) lo hi p)))] [] 0 [],Wo trivial ⟨v1 h,qQ⟩ trivial,rfl,rfl⟩⟩,λh=>⟨λh2=>⟨x2,⟨[],aa [(6,.val (.bool (d8 (mV z) lo hi p)))] [] 0 [],Wo trivial ⟨v2 h2,qQ⟩ trivial,rfl,rfl⟩⟩,λh2=>⟨λh3=>⟨x3,⟨[],aa [(6,.val (.bool (d8 (mV z) lo hi p)))] [] 0 [],Wo trivial ⟨v3 h3,qQ⟩ trivial,rfl,rfl⟩⟩,λh3=>⟨x4,⟨[],aa [(6,.val (.bool (d8 (mV z) lo hi p)))] [] 0 [],Wo trivial ⟨v4 h h2 h3,qQ⟩ trivial,rfl,rfl⟩⟩⟩⟩⟩
 ·cases e
def Dw:List PV->Option Ans
 |[.rs 6 n g,.val v]=>some ⟨some (isPL 10000 n g/\isPk 10000 v/\n<=1000000),.val (.int .i64 (nd n (ab g) (aN v) n)),[]⟩
 |_=>none
def D134:Opt:={  }
theorem GF:am D134.toOrd Tryz.f134 2=true:=by kernel_rfl
theorem f134:FnOk Tryz.prog 134 Dw:=by
 refine FnOk.ofW aj (an (l:=[(131,AO)]) (own:=[]) (inl:=[]) (by simp [f131]) (by simp)) Tryz.func134 D134 2 GF λargs r e=>?_;unfold Dw at e;split at e
 ·rename_i n g v
  cases e;refine⟨by simp,λhm=>?_⟩;obtain⟨⟨hg,hn⟩,⟨v,rfl,hv⟩,hn2⟩:=hm _ rfl;refine⟨[],aa [(0,.rs 6 n (λi=>(ab g i).cells)),(1,.val v.v)] [] 0 [],Wo trivial ⟨⟨rfl,rfl,λi hi=>(hg i hi).1.symm⟩,rfl,qQ⟩ trivial,?_⟩;have hp:=λi hi=>(hg i hi).2;generalize ab g=p at *
  clear hg;with_unfolding_all refine⟨Nat,λi=>i<=n,λi=>aa [(0,.rs 6 n (λi=>(p i).cells)),(3,.ptr 0 0 0 0),(5,.val (.int .i64 (nd n p v i))),(6,.val (goInt (i:Nat)))] [⟨25,6,0,true,false,1,λ_=>v.cells⟩] 1 [],λi=>n - i,⟨0,[some 0],Nat.zero_le _,Wo ⟨qK,qQ⟩ ⟨qW,pP,rfl,rfl,qQ⟩ trivial⟩,λi hi=>?_⟩
  have hin:i<=n:=hi;with_unfolding_all refine⟨λh1=>?_,λh1=>?_⟩
  ·have hi1:i < n:=by
    have:=of_decide_eq_true h1;exact Int.ofNat_lt.1 this
   have hw0:IntKind.i64.wrap ((i:Int)+1)=((i+1:Nat):Int):=by
    rw [wrap64 (by omega) (by omega)];rfl
   have hw:(IntKind.i64.wrap ((i:Int)+1)).tmod n=(((i+1)%n:Nat):Int):=by
    rw [hw0];exact Int.ofNat_tmod _ _
   have hm2:(i+1)%n < n:=Nat.mod_lt _ (by omega);have b1:0<=(i:Int)/\(i:Int) < n:=⟨Int.natCast_nonneg i,of_decide_eq_true h1⟩;have b2:0<=(IntKind.i64.wrap ((i:Int)+1)).tmod n/\(IntKind.i64.wrap ((i:Int)+1)).tmod n < n:=by rw [hw];omega
   have ne0:(n:Int)≠0:=by omega
   have q1:isPk 10000 (p (i:Int).toNat).v:=⟨_,rfl,hp _ (by rw [Int.toNat_natCast];exact hi1)⟩;have q2:isPk 10000 (p ((IntKind.i64.wrap ((i:Int)+1)).tmod n).toNat).v:=⟨_,rfl,hp _ (by rw [hw];exact hm2)⟩;have q3:isPk 10000 v.v:=⟨_,rfl,hv⟩;have w5:PV.val (.int .i64 (if (j5 (p (i:Int).toNat) (p ((IntKind.i64.wrap ((i:Int)+1)).tmod n).toNat) v) < nd n p v i then(j5 (p (i:Int).toNat) (p ((IntKind.i64.wrap ((i:Int)+1)).tmod n).toNat) v) else nd n p v i))=PV.val (.int .i64 (nd n p v (i+1))):=by
    rw [nd,hw,Int.toNat_natCast,Int.toNat_natCast,Int.min_def];congr 2;split<;>split<;>omega
   have w6:PV.val (.int .i64 (IntKind.i64.wrap ((i:Int)+1)))=PV.val (goInt ((i+1:Nat):Int)):=by rw [hw0];rfl
   have hμ : n - (i+1) < n - i:=by omega
   with_unfolding_all exact⟨b1,ne0,b2,⟨q1,q2,q3⟩,⟨i+1,[some 0],hi1,hμ,Wo ⟨qK,qQ⟩ ⟨qW,pP,w5,w6,qQ⟩ trivial⟩⟩
  ·have hi1:i=n:=by
    have:¬(i:Int) < n:=of_decide_eq_false h1;omega
   have w:PV.val (.int .i64 (nd n p v i))=PV.val (.int .i64 (nd n p v n)):=by rw [hi1]
   with_unfolding_all exact⟨[],aa [(4,.val (.int .i64 (nd n p v n)))] [] 0 [],Wo trivial ⟨w,qQ⟩ trivial,rfl,rfl⟩
 ·cases e
end Go.Proofs
namespace Go.Num
def xj (A D:Nat->Rat) (n:Nat):Option (Rat×Rat):=(uj A D n).bind λs=>bif decide (ao s.1 s.2>=0) then none else some s
theorem GG (A D:Nat->Rat) (n:Nat):(xj A D n).isSome=G0 A D n:=by
 unfold xj G0;cases uj A D n with
 |none=>rfl
 |some s =>
  simp only [Option.bind_some];cases decide (ao s.1 s.2>=0)<;>rfl
theorem sr {A D:Nat->Rat} {j:Nat} (h:uj A D j=none):∀d,uj A D (j+d)=none
 |0=>h
 |d+1=>by
  show uj A D (j+d+1)=none;rw [uj,sr h d]
theorem QB.neg {k:Nat} {q:Rat} (h:QB k q):QB (k+2) (-q):=by
 have h0:QB 1 (0:Rat):=by
  have:=(yJ (k:=1) (by decide)).1
  rwa [Rat.zero_mkRat] at this
 rw [show -q=0 - q by grind];exact(h0.sub h).le (by omega)
theorem uk (x y:Rat):Dm (bx x) (bx y)=bx (so x y):=by
 unfold Dm so;rw [kV,kV];by_cases h:ao y x > 0
 ·rw [decide_eq_true h,if_pos h];rfl
 ·rw [decide_eq_false h,if_neg h];rfl
theorem ul (x y:Rat):Dn (bx x) (bx y)=bx (sp x y):=by
 unfold Dn sp;rw [kV,kV];by_cases h:ao y x < 0
 ·rw [decide_eq_true h,if_pos h];rfl
 ·rw [decide_eq_false h,if_neg h];rfl
theorem A4 {k:Nat} {x y:Rat} (h1:QB k x) (h2:QB k y):QB k (so x y):=by
 unfold so;split<;>assumption
theorem A5 {k:Nat} {x y:Rat} (h1:QB k x) (h2:QB k y):QB k (sp x y):=by
 unfold sp;split<;>assumption
end Go.Num
namespace Go.Proofs
def Dx:List PV->Option Ans
 |[.rs 6 n g,.val v]=>some ⟨some (isPL 10000 n g/\dQ 10000 v/\n<=1000000),.val (.tuple ⟨[aw (kx (xj (gF n (ab g) (aM v).1) (il n (ab g) (aM v).1 (aM v).2) n)),aw (kW (xj (gF n (ab g) (aM v).1) (il n (ab g) (aM v).1 (aM v).2) n)),.bool (xj (gF n (ab g) (aM v).1) (il n (ab g) (aM v).1 (aM v).2) n).isSome]⟩),[]⟩
 |_=>none
def D136:Opt:={ join:=λc=>match c with | .region 6 _ _=>true | .region 8 _ _=>true | .region 9 _ _=>true | .region 13 _ _=>true|_=>false,perm:=jh [(6,.rds [0,1,2,3,4,5,6,7,8,9,10,11] (.alt 12 (.mk 13 .nil) (.mk 13 (.mk 12 .nil)))),(8,.rds [0,1,2,3] (.alt 4 (.alt 5 (.mk 6 .nil) (.mk 6 (.mk 5 .nil))) (.mk 6 (.mk 4 (.mk 5 .nil))))),(13,.rds [0,2] (.alt 1 (.alt 3 (.rd 4 (.rd 5 (.rd 6 (.mk 7 .nil)))) (.mk 7 (.mk 3 (.rd 4 (.rd 5 (.rd 6 .nil)))))) (.mk 7 (.mk 1 (.mk 3 (.rd 4 (.rd 5 (.rd 6 .nil))))))))],all:=jh [(19,.alt 0 (.alt 1 (OT.seq [2,3,4] .nil) (OT.seq [2,1,3,4] .nil)) (OT.seq [1,0,2,3,4] .nil))] }
theorem GH:am D136.toOrd Tryz.f136 2=true:=by kernel_rfl
theorem f136:FnOk Tryz.prog 136 Dx:=by
 refine FnOk.ofW aj (an (l:=[(187,Dv),(179,AM),(178,AN),(177,AL),(189,Dr),(188,Du),(190,Dp),(191,Dq),(135,rV)]) (own:=[]) (inl:=[]) (by simp [f187,f179,f178,f177,f189,f188,f190,f191,f135]) (by simp)) Tryz.func136 D136 2 GH λargs r e=>?_;unfold Dx at e;split at e
 ·rename_i n g v
  cases e;refine⟨by simp,λhm=>?_⟩;obtain⟨⟨hg,hn⟩,⟨a,b,rfl,ha,hb⟩,hn2⟩:=hm _ rfl;clear hm;refine⟨[],aa [(0,.rs 6 n (λi=>(ab g i).cells)),(1,.val (ar a b))] [] 0 [],Wo trivial ⟨⟨rfl,rfl,λi hi=>(hg i hi).1.symm⟩,rfl,qQ⟩ trivial,?_⟩;have hp:=λi hi=>(hg i hi).2;generalize ab g=p at *
  clear hg;obtain⟨X,hX⟩:∃X,X=xj (gF n p a) (il n p a b) n:=⟨_,rfl⟩;have hv:PV.val (.tuple ⟨[aw (kx (xj (gF n p (aM (ar a b)).1) (il n p (aM (ar a b)).1 (aM (ar a b)).2) n)),aw (kW (xj (gF n p (aM (ar a b)).1) (il n p (aM (ar a b)).1 (aM (ar a b)).2) n)),.bool (xj (gF n p (aM (ar a b)).1) (il n p (aM (ar a b)).1 (aM (ar a b)).2) n).isSome]⟩)=PV.val (.tuple ⟨[aw (kx X),aw (kW X),.bool X.isSome]⟩):=by rw [hX];rfl
  rw [hv];clear hv;have ha6:=ha.mono (show 10000<=1000000 by decide);have hb6:=hb.mono (show 10000<=1000000 by decide);have zb:X=none->PV.val (.bool false)=PV.val (.bool (decide ((kx X).num < 0)))/\PV.val (.string ⟨#[]⟩)=PV.val (.string (ah (kx X).num.natAbs))/\PV.val (.string ⟨#[]⟩)=PV.val (.string (aO (kx X).den))/\PV.val (.bool false)=PV.val (.bool X.isSome):=λh=>by
   rw [h];refine⟨rfl,?_,rfl,rfl⟩;show PV.val (.string ⟨#[]⟩)=PV.val (.string (ah 0));rw [dN]
  have zc:X=none->PV.val (.bool false)=PV.val (.bool (decide ((kW X).num < 0)))/\PV.val (.string ⟨#[]⟩)=PV.val (.string (ah (kW X).num.natAbs))/\PV.val (.string ⟨#[]⟩)=PV.val (.string (aO (kW X).den)):=λh=>by
   rw [h];refine⟨rfl,?_,rfl⟩;show PV.val (.string ⟨#[]⟩)=PV.val (.string (ah 0));rw [dN]
  have q0:QB 300000 (0:Rat):=by
   have:=vf.1
   rwa [Rat.zero_mkRat] at this
  have q1:QB 300000 (1:Rat):=by
   have:=vf.2
   rwa [Rat.mkRat_one] at this
  have z2:PV.val (.string ⟨#[]⟩)=PV.val (.string (bx 0).b):=by
   show PV.val (.string ⟨#[]⟩)=PV.val (.string (ah 0));rw [dN]
  have e1:((1:Int):Rat)=1:=rfl;with_unfolding_all refine⟨⟨by decide,by decide⟩,⟨⟨b,rfl,hb6⟩,a,rfl,ha6⟩,Nat×Rat×Rat,λx=>x.1<=n/\uj (gF n p a) (il n p a b) x.1=some x.2/\QB 300000 x.2.1/\QB 300000 x.2.2,λx=>aa [(0,.rs 6 n (λi=>(p i).cells)),(3,.ptr 0 0 0 0),(4,.ptr 1 1 0 0),(5,.ptr 2 2 0 0),(7,.ptr 3 3 0 0),(8,.ptr 4 4 0 0),(9,.ptr 5 5 0 0),(10,.val (goInt (x.1:Nat)))] [⟨117,12,0,true,false,1,λ_=>kw a b⟩,aZ false ⟨#[]⟩ ⟨#[]⟩ 1,aZ false ⟨#[]⟩ ⟨#[]⟩ 2,bz x.2.1 3,bz x.2.2 4,ib (cq b a) 5] 6 [],λx=>n - x.1,⟨(0,0,1),[some 0,some 1,some 2,some 3,some 4,some 5],⟨Nat.zero_le _,rfl,q0,q1⟩,Wo ⟨qZ ⟨rq,rq,rq,rq,rq,rq,rq,rq,rq,rq,rq,rq,qQ⟩,qX,qX,qZ ⟨rq,⟨z2,rfl⟩,rq,qQ⟩,qZ ⟨⟨congrArg (λq:Rat=>PV.val (.bool (bx q).s)) e1,rfl⟩,⟨congrArg (λq:Rat=>PV.val (.string (bx q).b)) e1,rfl⟩,⟨congrArg (λq:Rat=>PV.val (.string (bx q).c)) e1,rfl⟩,qQ⟩,qK,qQ⟩ ⟨qW,pP,pP,pP,pP,pP,pP,rfl,qQ⟩ trivial⟩,λx hx=>?_⟩
  obtain⟨i,s⟩:=x;obtain⟨hi,hs,hq1,hq2⟩:i<=n/\uj (gF n p a) (il n p a b) i=some s/\QB 300000 s.1/\QB 300000 s.2:=hx;with_unfolding_all refine⟨λh1=>?_,λh1=>?_⟩
  ·have hin:i < n:=by
    have:=of_decide_eq_true h1;exact Int.ofNat_lt.1 this
   have hw0:IntKind.i64.wrap ((i:Int)+1)=((i+1:Nat):Int):=by
    rw [wrap64 (by omega) (by omega)];rfl
   have hw:(IntKind.i64.wrap ((i:Int)+1)).tmod n=(((i+1)%n:Nat):Int):=by
    rw [hw0];exact Int.ofNat_tmod _ _
   have hm2:(i+1)%n < n:=Nat.mod_lt _ (by omega);have b1:0<=(i:Int)/\(i:Int) < n:=⟨Int.natCast_nonneg i,of_decide_eq_true h1⟩;have b2:0<=(IntKind.i64.wrap ((i:Int)+1)).tmod n/\(IntKind.i64.wrap ((i:Int)+1)).tmod n < n:=by rw [hw];omega
   have ne0:(n:Int)≠0:=by omega
   have ep:p ((IntKind.i64.wrap ((i:Int)+1)).tmod n).toNat=(p ((i+1)%n)):=by rw [hw];rfl
   have lp:=hp i hin;have lq:=hp _ hm2;have pkp:isPk 1000000 (p i).v:=⟨_,rfl,lp.mono (by decide)⟩;have pkq:isPk 1000000 (p ((i+1)%n)).v:=⟨_,rfl,lq.mono (by decide)⟩;have pka:isPk 1000000 a.v:=⟨_,rfl,ha6⟩;have pke:isPk 1000000 (cq (p ((i+1)%n)) (p i)).v:=⟨_,rfl,(cj lq lp).mono (by decide)⟩;have pkap:isPk 1000000 (cq a (p i)).v:=⟨_,rfl,(cj ha lp).mono (by decide)⟩;have pkd:isPk 1000000 (cq b a).v:=⟨_,rfl,(cj hb ha).mono (by decide)⟩;obtain⟨A,hA⟩:∃A,A=gF n p a i:=⟨_,rfl⟩;obtain⟨D,hD⟩:∃D,D=il n p a b i:=⟨_,rfl⟩;have qA:QB 80017 A:=by rw [hA];exact tY lp lq ha
   have qD:QB 80017 D:=by rw [hD];exact(iJ (cj lq lp) (cj hb ha)).le (by decide)
   have eA:cL (aN (cq (p ((i+1)%n)) (p i)).v) (aN (cq a (p i)).v)=A:=by
    rw [u9,u9];exact hA.symm
   have eD:cL (aN (cq (p ((i+1)%n)) (p i)).v) (aN (cq b a).v)=D:=by
    rw [u9,u9];exact hD.symm
   obtain⟨T,hT⟩:∃T,T = -A / D:=⟨_,rfl⟩;have eT:aE (aw (-aE (bx A).v)) / aE (bx D).v=T:=by
    rw [aC,mA,mA,aC,aC,hT]
   have qT:QB 300000 T:=by
    rw [hT];exact(qA.neg.div qD).le (by decide)
   have rD:isRk 1073741824 (bx D).v:=qD.rk (by decide);have rD6:isRk 1000000 (bx D).v:=qD.rk (by decide);have rA:isRk 1073741824 (bx A).v:=qA.rk (by decide);have rA4:isRk 4294967296 (bx A).v:=qA.rk (by decide);have rNA:isRk 1000000 (aw (-aE (bx A).v)):=by
    rw [mA,aC];exact qA.neg.rk (by decide)
   have rT:isRk 1073741824 (bx T).v:=qT.rk (by decide);have r1:isRk 1073741824 (bx s.1).v:=hq1.rk (by decide);have r2:isRk 1073741824 (bx s.2).v:=hq2.rk (by decide);have dq:aE (bx D).v=D:=by rw [mA,aC]
   have aq:aE (bx A).v=A:=by rw [mA,aC]
   have nD:(ao (aE (bx D).v) 0==0)=false->aE (bx D).v≠0:=λh e=>by
    rw [e] at h;exact absurd h (by decide)
   have step:uj (gF n p a) (il n p a b) (i+1)=if ao D 0=0 then(if ao A 0<=0 then none else some s) else if ao D 0 > 0 then some (so s.1 T,s.2) else some (s.1,sp s.2 T):=by
    rw [uj,hs,<-hA,<-hD,<-hT]
   have c0:(ao (aE (bx D).v) 0==0)=true->ao D 0=0:=λh=>by
    rw [dq] at h;exact eq_of_beq h
   have c1:(ao (aE (bx D).v) 0==0)=false->¬ao D 0=0:=λh=>by
    rw [dq] at h;simpa using h
   have sX:(ao (aE (bx D).v) 0==0)=true->decide (ao (aE (bx A).v) 0<=0)=true->X=none:=λh h3=>by
    have h3:ao A 0<=0:=by
     rw [aq] at h3;exact of_decide_eq_true h3
    rw [if_pos (c0 h),if_pos h3] at step;have:=sr step (n - (i+1));rw [show i+1+(n - (i+1))=n by omega] at this;rw [hX,xj,this];rfl
   have sS:(ao (aE (bx D).v) 0==0)=true->decide (ao (aE (bx A).v) 0<=0)=false->uj (gF n p a) (il n p a b) (i+1)=some s:=λh h3=>by
    have h3:¬ao A 0<=0:=by
     rw [aq] at h3;exact of_decide_eq_false h3
    rw [step,if_pos (c0 h),if_neg h3]
   have sM:(ao (aE (bx D).v) 0==0)=false->decide (ao (aE (bx D).v) 0 > 0)=true->uj (gF n p a) (il n p a b) (i+1)=some (so s.1 T,s.2):=λh h3=>by
    have h3:ao D 0 > 0:=by
     rw [dq] at h3;exact of_decide_eq_true h3
    rw [step,if_neg (c1 h),if_pos h3]
   have sN:(ao (aE (bx D).v) 0==0)=false->decide (ao (aE (bx D).v) 0 > 0)=false->uj (gF n p a) (il n p a b) (i+1)=some (s.1,sp s.2 T):=λh h3=>by
    have h3:¬ao D 0 > 0:=by
     rw [dq] at h3;exact of_decide_eq_false h3
    rw [step,if_neg (c1 h),if_neg h3]
   have w10:PV.val (.int .i64 (IntKind.i64.wrap ((i:Int)+1)))=PV.val (goInt ((i+1:Nat):Int)):=by rw [hw0];rfl
   have hμ : n - (i+1) < n - i:=by omega
   with_unfolding_all refine⟨Unit,λ_=>True,λ_=>aa [(0,.rs 6 n (λi=>(p i).cells)),(3,.ptr 0 0 0 0),(4,.ptr 1 1 0 0),(5,.ptr 2 2 0 0),(7,.ptr 3 3 0 0),(8,.ptr 4 4 0 0),(9,.ptr 5 5 0 0),(10,.val (goInt (i:Nat))),(11,.ptr 6 6 0 0),(12,.ptr 7 7 0 0)] [⟨117,12,0,true,false,1,λ_=>kw a b⟩,aZ false ⟨#[]⟩ ⟨#[]⟩ 1,aZ false ⟨#[]⟩ ⟨#[]⟩ 2,bz s.1 3,bz s.2 4,ib (cq b a) 5,ib (p i) 6,ib (p ((i+1)%n)) 7] 8 [],⟨b1,ne0,b2,⟨⟨(),[some 0,some 1,some 2,some 3,some 4,some 5,some 6,some 7],trivial,Wo ⟨qZ ⟨rq,rq,rq,rq,rq,rq,rq,rq,rq,rq,rq,rq,qQ⟩,qX,qX,qX,qX,qK,qK,qZ ⟨⟨(fR ep).1,rfl⟩,⟨(fR ep).2.1,rfl⟩,⟨(fR ep).2.2.1,rfl⟩,⟨(fR ep).2.2.2.1,rfl⟩,⟨(fR ep).2.2.2.2.1,rfl⟩,⟨(fR ep).2.2.2.2.2,rfl⟩,qQ⟩,qQ⟩ ⟨qW,pP,pP,pP,pP,pP,pP,rfl,pP,pP,qQ⟩ trivial⟩,⟨(),[some 0,some 1,some 2,some 3,some 4,some 5,some 7,some 6],trivial,Wo ⟨qZ ⟨rq,rq,rq,rq,rq,rq,rq,rq,rq,rq,rq,rq,qQ⟩,qX,qX,qX,qX,qK,qK,qZ ⟨⟨(fR ep).1,rfl⟩,⟨(fR ep).2.1,rfl⟩,⟨(fR ep).2.2.1,rfl⟩,⟨(fR ep).2.2.2.1,rfl⟩,⟨(fR ep).2.2.2.2.1,rfl⟩,⟨(fR ep).2.2.2.2.2,rfl⟩,qQ⟩,qQ⟩ ⟨qW,pP,pP,pP,pP,pP,pP,rfl,pP,pP,qQ⟩ trivial⟩⟩⟩,λ_ _=>?_⟩
   with_unfolding_all refine⟨⟨pkq,pkp⟩,⟨Unit,λ_=>True,λ_=>aa [(0,.rs 6 n (λi=>(p i).cells)),(3,.ptr 0 0 0 0),(4,.ptr 1 1 0 0),(5,.ptr 2 2 0 0),(7,.ptr 3 3 0 0),(8,.ptr 4 4 0 0),(9,.ptr 5 5 0 0),(10,.val (goInt (i:Nat))),(13,.ptr 6 6 0 0),(14,.ptr 7 7 0 0)] [⟨117,12,0,true,false,1,λ_=>kw a b⟩,aZ false ⟨#[]⟩ ⟨#[]⟩ 1,aZ false ⟨#[]⟩ ⟨#[]⟩ 2,bz s.1 3,bz s.2 4,ib (cq b a) 5,ib (cq (p ((i+1)%n)) (p i)) 6,bz A 7] 8 [],⟨⟨⟨pka,pkp⟩,⟨⟨⟨pke,pkap⟩,⟨(),[some 0,some 1,some 2,some 3,some 4,some 5,some 8,some 9],trivial,Wo ⟨qZ ⟨rq,rq,rq,rq,rq,rq,rq,rq,rq,rq,rq,rq,qQ⟩,qX,qX,qX,qX,qK,qK,qZ ⟨⟨gt eA,rfl⟩,⟨gu eA,rfl⟩,⟨gv eA,rfl⟩,qQ⟩,qQ⟩ ⟨qW,pP,pP,pP,pP,pP,pP,rfl,pP,pP,qQ⟩ trivial⟩⟩,⟨⟨pke,pkap⟩,⟨(),[some 0,some 1,some 2,some 3,some 4,some 5,some 8,some 9],trivial,Wo ⟨qZ ⟨rq,rq,rq,rq,rq,rq,rq,rq,rq,rq,rq,rq,qQ⟩,qX,qX,qX,qX,qK,qK,qZ ⟨⟨gt eA,rfl⟩,⟨gu eA,rfl⟩,⟨gv eA,rfl⟩,qQ⟩,qQ⟩ ⟨qW,pP,pP,pP,pP,pP,pP,rfl,pP,pP,qQ⟩ trivial⟩⟩⟩⟩,⟨⟨pka,pkp⟩,⟨⟨pke,pkap⟩,⟨(),[some 0,some 1,some 2,some 3,some 4,some 5,some 8,some 9],trivial,Wo ⟨qZ ⟨rq,rq,rq,rq,rq,rq,rq,rq,rq,rq,rq,rq,qQ⟩,qX,qX,qX,qX,qK,qK,qZ ⟨⟨gt eA,rfl⟩,⟨gu eA,rfl⟩,⟨gv eA,rfl⟩,qQ⟩,qQ⟩ ⟨qW,pP,pP,pP,pP,pP,pP,rfl,pP,pP,qQ⟩ trivial⟩⟩⟩⟩,λ_ _=>?_⟩⟩
   with_unfolding_all refine⟨Unit,λ_=>True,λ_=>aa [(0,.rs 6 n (λi=>(p i).cells)),(3,.ptr 0 0 0 0),(4,.ptr 1 1 0 0),(5,.ptr 2 2 0 0),(7,.ptr 3 3 0 0),(8,.ptr 4 4 0 0),(9,.ptr 5 5 0 0),(10,.val (goInt (i:Nat))),(14,.ptr 6 6 0 0),(15,.ptr 7 7 0 0)] [⟨117,12,0,true,false,1,λ_=>kw a b⟩,aZ false ⟨#[]⟩ ⟨#[]⟩ 1,aZ false ⟨#[]⟩ ⟨#[]⟩ 2,bz s.1 3,bz s.2 4,ib (cq b a) 5,bz A 6,bz D 7] 8 [],⟨⟨pke,pkd⟩,⟨(),[some 0,some 1,some 2,some 3,some 4,some 5,some 7,some 8],trivial,Wo ⟨qZ ⟨rq,rq,rq,rq,rq,rq,rq,rq,rq,rq,rq,rq,qQ⟩,qX,qX,qX,qX,qK,qX,qZ ⟨⟨gt eD,rfl⟩,⟨gu eD,rfl⟩,⟨gv eD,rfl⟩,qQ⟩,qQ⟩ ⟨qW,pP,pP,pP,pP,pP,pP,rfl,pP,pP,qQ⟩ trivial⟩⟩,λ_ _=>?_⟩
   with_unfolding_all refine⟨rD,λh=>⟨rA,λh3=>⟨[some 1,some 2],aa [(4,.ptr 0 0 0 0),(5,.ptr 1 1 0 0),(6,.val (.bool X.isSome))] [bz (kx X) 0,bz (kW X) 1] 2 [],Wo ⟨qZ ⟨⟨(zb (sX h h3)).1,rfl⟩,⟨(zb (sX h h3)).2.1,rfl⟩,⟨(zb (sX h h3)).2.2.1,rfl⟩,qQ⟩,qZ ⟨⟨(zc (sX h h3)).1,rfl⟩,⟨(zc (sX h h3)).2.1,rfl⟩,⟨(zc (sX h h3)).2.2,rfl⟩,qQ⟩,qQ⟩ ⟨pP,pP,(zb (sX h h3)).2.2.2,qQ⟩ trivial,rfl,rfl⟩,λh3=>⟨(i+1,s),[some 0,some 1,some 2,some 3,some 4,some 5],⟨hin,(sS h h3),hq1,hq2⟩,hμ,Wo ⟨qZ ⟨rq,rq,rq,rq,rq,rq,rq,rq,rq,rq,rq,rq,qQ⟩,qX,qX,qX,qX,qK,qQ⟩ ⟨qW,pP,pP,pP,pP,pP,pP,w10,qQ⟩ trivial⟩⟩,λh=>?_⟩
   with_unfolding_all refine⟨Unit,λ_=>True,λ_=>aa [(0,.rs 6 n (λi=>(p i).cells)),(3,.ptr 0 0 0 0),(4,.ptr 1 1 0 0),(5,.ptr 2 2 0 0),(7,.ptr 3 3 0 0),(8,.ptr 4 4 0 0),(9,.ptr 5 5 0 0),(10,.val (goInt (i:Nat))),(15,.ptr 6 6 0 0),(16,.ptr 7 7 0 0)] [⟨117,12,0,true,false,1,λ_=>kw a b⟩,aZ false ⟨#[]⟩ ⟨#[]⟩ 1,aZ false ⟨#[]⟩ ⟨#[]⟩ 2,bz s.1 3,bz s.2 4,ib (cq b a) 5,bz D 6,bz T 7] 8 [],⟨⟨rA4,⟨⟨⟨⟨rNA,rD6⟩,(nD h)⟩,⟨(),[some 0,some 1,some 2,some 3,some 4,some 5,some 7,some 8],trivial,Wo ⟨qZ ⟨rq,rq,rq,rq,rq,rq,rq,rq,rq,rq,rq,rq,qQ⟩,qX,qX,qX,qX,qK,qX,qZ ⟨⟨gt eT,rfl⟩,⟨gu eT,rfl⟩,⟨gv eT,rfl⟩,qQ⟩,qQ⟩ ⟨qW,pP,pP,pP,pP,pP,pP,rfl,pP,pP,qQ⟩ trivial⟩⟩,⟨⟨⟨rNA,rD6⟩,(nD h)⟩,⟨(),[some 0,some 1,some 2,some 3,some 4,some 5,some 7,some 8],trivial,Wo ⟨qZ ⟨rq,rq,rq,rq,rq,rq,rq,rq,rq,rq,rq,rq,qQ⟩,qX,qX,qX,qX,qK,qX,qZ ⟨⟨gt eT,rfl⟩,⟨gu eT,rfl⟩,⟨gv eT,rfl⟩,qQ⟩,qQ⟩ ⟨qW,pP,pP,pP,pP,pP,pP,rfl,pP,pP,qQ⟩ trivial⟩⟩⟩⟩,⟨rA4,⟨⟨⟨rNA,rD6⟩,(nD h)⟩,⟨(),[some 0,some 1,some 2,some 3,some 4,some 5,some 7,some 8],trivial,Wo ⟨qZ ⟨rq,rq,rq,rq,rq,rq,rq,rq,rq,rq,rq,rq,qQ⟩,qX,qX,qX,qX,qK,qX,qZ ⟨⟨gt eT,rfl⟩,⟨gu eT,rfl⟩,⟨gv eT,rfl⟩,qQ⟩,qQ⟩ ⟨qW,pP,pP,pP,pP,pP,pP,rfl,pP,pP,qQ⟩ trivial⟩⟩⟩⟩,λ_ _=>?_⟩
   with_unfolding_all exact⟨rD,λh4=>⟨⟨r1,rT⟩,⟨(i+1,(so s.1 T,s.2)),[some 0,some 1,some 2,some 3,some 4,some 5],⟨hin,(sM h h4),A4 hq1 qT,hq2⟩,hμ,Wo ⟨qZ ⟨rq,rq,rq,rq,rq,rq,rq,rq,rq,rq,rq,rq,qQ⟩,qX,qX,qZ ⟨⟨congrArg (λr:RatS=>PV.val (.bool r.s)) (uk s.1 T),rfl⟩,⟨congrArg (λr:RatS=>PV.val (.string r.b)) (uk s.1 T),rfl⟩,⟨congrArg (λr:RatS=>PV.val (.string r.c)) (uk s.1 T),rfl⟩,qQ⟩,qX,qK,qQ⟩ ⟨qW,pP,pP,pP,pP,pP,pP,w10,qQ⟩ trivial⟩⟩,λh4=>⟨⟨r2,rT⟩,⟨(i+1,(s.1,sp s.2 T)),[some 0,some 1,some 2,some 3,some 4,some 5],⟨hin,(sN h h4),hq1,A5 hq2 qT⟩,hμ,Wo ⟨qZ ⟨rq,rq,rq,rq,rq,rq,rq,rq,rq,rq,rq,rq,qQ⟩,qX,qX,qX,qZ ⟨⟨congrArg (λr:RatS=>PV.val (.bool r.s)) (ul s.2 T),rfl⟩,⟨congrArg (λr:RatS=>PV.val (.string r.b)) (ul s.2 T),rfl⟩,⟨congrArg (λr:RatS=>PV.val (.string r.c)) (ul s.2 T),rfl⟩,qQ⟩,qK,qQ⟩ ⟨qW,pP,pP,pP,pP,pP,pP,w10,qQ⟩ trivial⟩⟩⟩
  ·have hin:i=n:=by
    have:¬(i:Int) < n:=of_decide_eq_false h1;omega
   subst hin;have r1:isRk 1073741824 (bx s.1).v:=hq1.rk (by decide);have r2:isRk 1073741824 (bx s.2).v:=hq2.rk (by decide);have d1:aE (bx s.1).v=s.1:=by rw [mA,aC]
   have d2:aE (bx s.2).v=s.2:=by rw [mA,aC]
   have xN:decide (ao (aE (bx s.1).v) (aE (bx s.2).v)>=0)=true->X=none:=λh=>by
    rw [d1,d2] at h;rw [hX,xj,hs,Option.bind_some,h];rfl
   have xS:decide (ao (aE (bx s.1).v) (aE (bx s.2).v)>=0)=false->X=some s:=λh=>by
    rw [d1,d2] at h;rw [hX,xj,hs,Option.bind_some,h];rfl
   have y1:decide (ao (aE (bx s.1).v) (aE (bx s.2).v)>=0)=false->s.1=kx X:=λh=>by rw [xS h];rfl
   have y2:decide (ao (aE (bx s.1).v) (aE (bx s.2).v)>=0)=false->s.2=kW X:=λh=>by rw [xS h];rfl
   have y3:decide (ao (aE (bx s.1).v) (aE (bx s.2).v)>=0)=false->PV.val (.bool true)=PV.val (.bool X.isSome):=λh=>by rw [xS h];rfl
   with_unfolding_all exact⟨⟨r1,r2⟩,λh=>⟨[some 1,some 2],aa [(4,.ptr 0 0 0 0),(5,.ptr 1 1 0 0),(6,.val (.bool X.isSome))] [bz (kx X) 0,bz (kW X) 1] 2 [],Wo ⟨qZ ⟨⟨(zb (xN h)).1,rfl⟩,⟨(zb (xN h)).2.1,rfl⟩,⟨(zb (xN h)).2.2.1,rfl⟩,qQ⟩,qZ ⟨⟨(zc (xN h)).1,rfl⟩,⟨(zc (xN h)).2.1,rfl⟩,⟨(zc (xN h)).2.2,rfl⟩,qQ⟩,qQ⟩ ⟨pP,pP,(zb (xN h)).2.2.2,qQ⟩ trivial,rfl,rfl⟩,λh=>⟨⟨⟨[some 1,some 2],aa [(4,.ptr 0 0 0 0),(5,.ptr 1 1 0 0),(6,.val (.bool X.isSome))] [bz (kx X) 0,bz (kW X) 1] 2 [],Wo ⟨qZ ⟨⟨gt (y1 h),rfl⟩,⟨gu (y1 h),rfl⟩,⟨gv (y1 h),rfl⟩,qQ⟩,qZ ⟨⟨gt (y2 h),rfl⟩,⟨gu (y2 h),rfl⟩,⟨gv (y2 h),rfl⟩,qQ⟩,qQ⟩ ⟨pP,pP,(y3 h),qQ⟩ trivial,rfl,rfl⟩,⟨[some 1,some 2],aa [(4,.ptr 0 0 0 0),(5,.ptr 1 1 0 0),(6,.val (.bool X.isSome))] [bz (kx X) 0,bz (kW X) 1] 2 [],Wo ⟨qZ ⟨⟨gt (y1 h),rfl⟩,⟨gu (y1 h),rfl⟩,⟨gv (y1 h),rfl⟩,qQ⟩,qZ ⟨⟨gt (y2 h),rfl⟩,⟨gu (y2 h),rfl⟩,⟨gv (y2 h),rfl⟩,qQ⟩,qQ⟩ ⟨pP,pP,(y3 h),qQ⟩ trivial,rfl,rfl⟩⟩,⟨[some 1,some 2],aa [(4,.ptr 0 0 0 0),(5,.ptr 1 1 0 0),(6,.val (.bool X.isSome))] [bz (kx X) 0,bz (kW X) 1] 2 [],Wo ⟨qZ ⟨⟨gt (y1 h),rfl⟩,⟨gu (y1 h),rfl⟩,⟨gv (y1 h),rfl⟩,qQ⟩,qZ ⟨⟨gt (y2 h),rfl⟩,⟨gu (y2 h),rfl⟩,⟨gv (y2 h),rfl⟩,qQ⟩,qQ⟩ ⟨pP,pP,(y3 h),qQ⟩ trivial,rfl,rfl⟩⟩⟩
 ·cases e
end Go.Proofs
namespace Go.Num
def d9 (lo hi p:PtS):Nat->List Int
 |0=>[]
 |j+1=>d9 lo hi p j++(bif d8 j lo hi p then [-((j:Int)+1)] else [])
def gI (n:Nat->Nat) (q:Nat->Nat->PtS) (p:PtS):Nat->List Int
 |0=>[]
 |i+1=>gI n q p i++(bif nd (n i) (q i) p (n i)==1 then [(i:Int)] else [])
def pL (L:List Int) (i:Nat):List PV:=[.val (.int .i64 ((L[i]?).getD 0))]
theorem y6 {L:List Int} {x:Int} {r:Nat->List PV} (h:r 0=[.val (.int .i64 x)]):∀i,i < L.length+1->pL (L++[x]) i=gH L.length (pL L) r i:=λi hi=>by
 unfold gH pL;by_cases hl:i < L.length
 ·rw [if_pos hl,List.getElem?_append_left hl]
 ·obtain rfl:i=L.length:=by omega
  rw [if_neg hl,Nat.sub_self,h];simp
theorem um (lo hi p:PtS):∀j,(d9 lo hi p j).length<=j
 |0=>Nat.le_refl _
 |j+1=>by
  have:=um lo hi p j;rw [d9,List.length_append];cases d8 j lo hi p<;>simp<;>omega
theorem y7 (n:Nat->Nat) (q:Nat->Nat->PtS) (p:PtS):∀j,(gI n q p j).length<=j
 |0=>Nat.le_refl _
 |j+1=>by
  have:=y7 n q p j;rw [gI,List.length_append];cases (nd (n j) (q j) p (n j)==1)<;>simp<;>omega
theorem vw {lo hi p:PtS}:∀{j:Nat},d9 lo hi p j=[]↔aA (λi=>d8 i lo hi p) j=false
 |0=>⟨λ_=>rfl,λ_=>rfl⟩
 |j+1=>by
  rw [d9,List.append_eq_nil_iff,vw,aF,aF];constructor
  ·rintro ⟨h1,h2⟩ i hij;by_cases e:i=j
   ·rw [e];cases hb:d8 j lo hi p with
    |false=>rfl
    |true=>rw [hb] at h2;cases h2
   ·exact h1 i (by omega)
  ·intro h;exact⟨λi hi=>h i (by omega),by rw [h j (by omega)];rfl⟩
theorem vz {n:Nat->Nat} {q:Nat->Nat->PtS} {p:PtS}:∀{j:Nat},gI n q p j=[]↔aA (λi=>nd (n i) (q i) p (n i)==1) j=false
 |0=>⟨λ_=>rfl,λ_=>rfl⟩
 |j+1=>by
  rw [gI,List.append_eq_nil_iff,vz,aF,aF];constructor
  ·rintro ⟨h1,h2⟩ i hi;by_cases e:i=j
   ·rw [e];cases hb:(nd (n j) (q j) p (n j)==1) with
    |false=>rfl
    |true=>rw [hb] at h2;cases h2
   ·exact h1 i (by omega)
  ·intro h;exact⟨λi hi=>h i (by omega),by rw [h j (by omega)];rfl⟩
def zo (lo hi:PtS) (k:Nat) (n:Nat->Nat) (q:Nat->Nat->PtS) (p:PtS):List Int:=d9 lo hi p 4++gI n q p k
theorem y8 (lo hi:PtS) (k:Nat) (n:Nat->Nat) (q:Nat->Nat->PtS) (p:PtS):(((zo lo hi k n q p).length:Int)==0)=ap lo hi k n q p:=by
 unfold ap zo;rw [Bool.eq_iff_iff,beq_iff_eq,Bool.not_eq_true',Bool.or_eq_false_iff,<-vw,<-vz];constructor
 ·intro h;have:(d9 lo hi p 4++gI n q p k).length=0:=by omega
  rw [List.length_eq_zero_iff,List.append_eq_nil_iff] at this;exact this
 ·rintro ⟨h1,h2⟩;rw [h1,h2];rfl
end Go.Num
namespace Go.Proofs
def IT:List PV->Option Ans
 |[.agg xs,.val v]=>some ⟨some ((isRg 10000 xs/\isPk 10000 v)/\gK xs<=1000/\∀i,i < gK xs->pn (gC xs) i<=1000000),.rs 1 (zo (bV xs) (bW xs) (gK xs) (pn (gC xs)) (λi=>ab (pg (gC xs) i)) (aN v)).length (pL (zo (bV xs) (bW xs) (gK xs) (pn (gC xs)) (λi=>ab (pg (gC xs) i)) (aN v))),[]⟩
 |_=>none
def D97:Opt:={  }
theorem IU:am D97.toOrd Tryz.f97 2=true:=by kernel_rfl
theorem f97:FnOk Tryz.prog 97 IT:=by
 refine FnOk.ofW aj (an (l:=[(133,A0),(134,Dw)]) (own:=[]) (inl:=[]) (by simp [f133,f134]) (by simp)) Tryz.func97 D97 2 IU λargs r e=>?_;unfold IT at e;split at e
 ·rename_i xs v
  cases e;refine⟨by simp,λhm=>?_⟩;obtain⟨⟨⟨h1,⟨hlo,hhi⟩,hcl,hol⟩,p,rfl,hp⟩,hk,hn⟩:=hm _ rfl;generalize bV xs=lo at *
  generalize bW xs=hi at *
  generalize gK xs=k at *
  generalize gC xs=c at *
  generalize gL xs=l at *
  generalize gO xs=o at *
  subst h1;clear hm;have hcl':bU 10000 k (λi=>[.rs 6 (pn c i) (pg c i)]):=⟨λi hi=>⟨rfl,(hcl.1 i hi).2⟩,hcl.2⟩;refine⟨[],aa [(0,.agg (br lo hi k c l o)),(1,.val p.v)] [] 0 [],Wo trivial ⟨⟨rfl,rfl,rfl,rfl,rfl,rfl,rfl,rfl,rfl,rfl,rfl,rfl,qW,qW,qQ⟩,rfl,qQ⟩ trivial,?_⟩;have hX:isRg 10000 (br lo hi k c l o):=⟨rfl,⟨hlo,hhi⟩,hcl',λ_ _=>rfl,hol.2⟩;have hpk:isPk 10000 p.v:=⟨p,rfl,hp⟩;with_unfolding_all refine⟨Nat,λj=>j<=4,λj=>aa [(2,.ptr 0 0 0 0),(3,.ptr 1 1 0 0),(5,.sl 2 2 0 (d9 lo hi p j).length),(6,.val (.int .i64 (-((j:Int)+1))))] [⟨31,14,0,true,false,1,λ_=>br lo hi k c l o⟩,⟨25,6,1,true,false,1,λ_=>p.cells⟩,⟨3,1,2,false,false,(d9 lo hi p j).length,pL (d9 lo hi p j)⟩] 3 [],λj=>4 - j,⟨0,[some 0,some 1,none],Nat.zero_le _,Wo ⟨qZ ⟨rq,rq,rq,rq,rq,rq,rq,rq,rq,rq,rq,rq,⟨qW,rfl⟩,⟨qW,rfl⟩,qQ⟩,qK,⟨aP rfl,rfl,rfl,rfl⟩,qQ⟩ ⟨pP,pP,⟨rfl,rfl,rfl,rfl,aP rfl⟩,rfl,qQ⟩ trivial⟩,λj hj=>?_⟩
  replace hj:j<=4:=hj;with_unfolding_all refine⟨λh1=>?_,λh1=>?_⟩
  ·have hj4:j+1<=4:=by
    have:=of_decide_eq_true h1;omega
   have hl:=um lo hi p j;have hsd:mV (-((j:Int)+1))=j:=by
    match j,hj4 with
    |0,_=>rfl
    |1,_=>rfl
    |2,_=>rfl
    |3,_=>rfl
    |j+4,h=>omega
   have eT:d8 (mV (-((j:Int)+1))) lo hi p=true->d9 lo hi p (j+1)=d9 lo hi p j++[-((j:Int)+1)]:=λh=>by
    rw [hsd] at h;rw [d9,h];rfl
   have eF:d8 (mV (-((j:Int)+1))) lo hi p=false->d9 lo hi p (j+1)=d9 lo hi p j:=λh=>by
    rw [hsd] at h;rw [d9,h];exact List.append_nil _
   have nT:d8 (mV (-((j:Int)+1))) lo hi p=true->(d9 lo hi p (j+1)).length=(d9 lo hi p j).length+1:=λh=>by rw [eT h,List.length_append];rfl
   have nF:d8 (mV (-((j:Int)+1))) lo hi p=false->(d9 lo hi p (j+1)).length=(d9 lo hi p j).length:=λh=>by rw [eF h]
   have rT:d8 (mV (-((j:Int)+1))) lo hi p=true->∀r:Nat->List PV,r 0=[.val (.int .i64 (-((j:Int)+1)))]->∀t,t < (d9 lo hi p j).length+1->pL (d9 lo hi p (j+1)) t=gH (d9 lo hi p j).length (pL (d9 lo hi p j)) r t:=λh r hr=>by
    rw [eT h];exact y6 hr
   have rF:d8 (mV (-((j:Int)+1))) lo hi p=false->∀t,t < (d9 lo hi p j).length->pL (d9 lo hi p (j+1)) t=pL (d9 lo hi p j) t:=λh t _=>by rw [eF h]
   have k1:((d9 lo hi p j).length+1)*8<=140737488355328:=by omega
   have k2:(d9 lo hi p j).length+1<=9223372036854775807:=by omega
   have w6:PV.val (.int .i64 (IntKind.i64.wrap (-((j:Int)+1) - 1)))=PV.val (.int .i64 (-(((j+1:Nat):Int)+1))):=by
    rw [wrap64 (by omega) (by omega)];exact congrArg (λz=>PV.val (.int .i64 z)) (by omega)
   have hμ : 4 - (j+1) < 4 - j:=by omega
   with_unfolding_all exact⟨⟨hX,hpk⟩,λh2=>⟨⟨rfl,k1,k2⟩,⟨j+1,[some 0,some 1,some 2],hj4,hμ,Wo ⟨qZ ⟨rq,rq,rq,rq,rq,rq,rq,rq,rq,rq,rq,rq,⟨qW,rfl⟩,⟨qW,rfl⟩,qQ⟩,qK,⟨aP rfl,rfl,rfl,rfl,rfl,(nT h2),rT h2 _ rfl⟩,qQ⟩ ⟨pP,pP,⟨rfl,rfl,(nT h2).symm,aP rfl,_,rfl⟩,w6,qQ⟩ trivial⟩⟩,λh2=>⟨j+1,[some 0,some 1,some 2],hj4,hμ,Wo ⟨qZ ⟨rq,rq,rq,rq,rq,rq,rq,rq,rq,rq,rq,rq,⟨qW,rfl⟩,⟨qW,rfl⟩,qQ⟩,qK,⟨aP rfl,rfl,rfl,rfl,rfl,(nF h2),rF h2⟩,qQ⟩ ⟨pP,pP,⟨rfl,rfl,(nF h2).symm,aP rfl,_,rfl⟩,w6,qQ⟩ trivial⟩⟩
  ·have hj4:j=4:=by
    have:¬ -((j:Int)+1) >= -4:=of_decide_eq_false h1;omega
   subst hj4;have n0:(d9 lo hi p 4++gI (pn c) (λi=>ab (pg c i)) p 0).length=(d9 lo hi p 4).length:=by rw [gI,List.append_nil]
   have r0:∀t,t < (d9 lo hi p 4).length->pL (d9 lo hi p 4++gI (pn c) (λi=>ab (pg c i)) p 0) t=pL (d9 lo hi p 4) t:=λt _=>by rw [gI,List.append_nil]
   with_unfolding_all refine⟨Nat,λi=>i<=k,λi=>aa [(2,.ptr 0 0 0 0),(3,.ptr 1 1 0 0),(5,.sl 2 2 0 (d9 lo hi p 4++gI (pn c) (λi=>ab (pg c i)) p i).length),(7,.val (goInt (i:Nat)))] [⟨31,14,0,true,false,1,λ_=>br lo hi k c l o⟩,⟨25,6,1,true,false,1,λ_=>p.cells⟩,⟨3,1,2,false,false,(d9 lo hi p 4++gI (pn c) (λi=>ab (pg c i)) p i).length,pL (d9 lo hi p 4++gI (pn c) (λi=>ab (pg c i)) p i)⟩] 3 [],λi=>k - i,⟨0,[some 0,some 1,some 2],Nat.zero_le _,Wo ⟨qZ ⟨rq,rq,rq,rq,rq,rq,rq,rq,rq,rq,rq,rq,⟨qW,rfl⟩,⟨qW,rfl⟩,qQ⟩,qK,⟨aP rfl,rfl,rfl,rfl,rfl,n0,r0⟩,qQ⟩ ⟨pP,pP,⟨rfl,rfl,n0.symm,aP rfl,_,rfl⟩,rfl,qQ⟩ trivial⟩,λi hi1=>?_⟩
   replace hi1:i<=k:=hi1;with_unfolding_all refine⟨λh1=>?_,λh1=>?_⟩
   ·have hik:i < k:=by
     have:=of_decide_eq_true h1;exact Int.ofNat_lt.1 this
    have hl:=um lo hi p 4;have hl2:=y7 (pn c) (λi=>ab (pg c i)) p i;have hll:(d9 lo hi p 4++gI (pn c) (λi=>ab (pg c i)) p i).length<=4+i:=by
     rw [List.length_append];omega
    have eT:(nd (pn c (i:Int).toNat) (ab (pg c (i:Int).toNat)) p (pn c (i:Int).toNat)==1)=true->(d9 lo hi p 4++gI (pn c) (λi=>ab (pg c i)) p (i+1))=(d9 lo hi p 4++gI (pn c) (λi=>ab (pg c i)) p i)++[(i:Int)]:=λh=>by
     rw [Int.toNat_natCast] at h;rw [gI,h,List.append_assoc];rfl
    have eF:(nd (pn c (i:Int).toNat) (ab (pg c (i:Int).toNat)) p (pn c (i:Int).toNat)==1)=false->(d9 lo hi p 4++gI (pn c) (λi=>ab (pg c i)) p (i+1))=(d9 lo hi p 4++gI (pn c) (λi=>ab (pg c i)) p i):=λh=>by
     rw [Int.toNat_natCast] at h;rw [gI,h];exact congrArg _ (List.append_nil _)
    have nT:(nd (pn c (i:Int).toNat) (ab (pg c (i:Int).toNat)) p (pn c (i:Int).toNat)==1)=true->(d9 lo hi p 4++gI (pn c) (λi=>ab (pg c i)) p (i+1)).length=(d9 lo hi p 4++gI (pn c) (λi=>ab (pg c i)) p i).length+1:=λh=>by
     rw [eT h,List.length_append];rfl
    have nF:(nd (pn c (i:Int).toNat) (ab (pg c (i:Int).toNat)) p (pn c (i:Int).toNat)==1)=false->(d9 lo hi p 4++gI (pn c) (λi=>ab (pg c i)) p (i+1)).length=(d9 lo hi p 4++gI (pn c) (λi=>ab (pg c i)) p i).length:=λh=>by rw [eF h]
    have rT:(nd (pn c (i:Int).toNat) (ab (pg c (i:Int).toNat)) p (pn c (i:Int).toNat)==1)=true->∀r:Nat->List PV,r 0=[.val (.int .i64 (i:Int))]->∀t,t < (d9 lo hi p 4++gI (pn c) (λi=>ab (pg c i)) p i).length+1->pL (d9 lo hi p 4++gI (pn c) (λi=>ab (pg c i)) p (i+1)) t=gH (d9 lo hi p 4++gI (pn c) (λi=>ab (pg c i)) p i).length (pL (d9 lo hi p 4++gI (pn c) (λi=>ab (pg c i)) p i)) r t:=λh r hr=>by
     rw [eT h];exact y6 hr
    have rF:(nd (pn c (i:Int).toNat) (ab (pg c (i:Int).toNat)) p (pn c (i:Int).toNat)==1)=false->∀t,t < (d9 lo hi p 4++gI (pn c) (λi=>ab (pg c i)) p i).length->pL (d9 lo hi p 4++gI (pn c) (λi=>ab (pg c i)) p (i+1)) t=pL (d9 lo hi p 4++gI (pn c) (λi=>ab (pg c i)) p i) t:=λh t _=>by rw [eF h]
    have k1:((d9 lo hi p 4++gI (pn c) (λi=>ab (pg c i)) p i).length+1)*8<=140737488355328:=by omega
    have k2:(d9 lo hi p 4++gI (pn c) (λi=>ab (pg c i)) p i).length+1<=9223372036854775807:=by omega
    have q1:isPL 10000 (pn c (i:Int).toNat) (pg c (i:Int).toNat):=by
     rw [Int.toNat_natCast];exact(hcl.1 i hik).2
    have q2:pn c (i:Int).toNat<=1000000:=by
     rw [Int.toNat_natCast];exact hn i hik
    have w7:PV.val (.int .i64 (IntKind.i64.wrap ((i:Int)+1)))=PV.val (goInt ((i+1:Nat):Int)):=by
     rw [wrap64 (by omega) (by omega)];rfl
    have hμ : k - (i+1) < k - i:=by omega
    with_unfolding_all exact⟨⟨Int.natCast_nonneg i,of_decide_eq_true h1⟩,⟨q1,hpk,q2⟩,λh2=>⟨⟨rfl,k1,k2⟩,⟨i+1,[some 0,some 1,some 2],hik,hμ,Wo ⟨qZ ⟨rq,rq,rq,rq,rq,rq,rq,rq,rq,rq,rq,rq,⟨qW,rfl⟩,⟨qW,rfl⟩,qQ⟩,qK,⟨aP rfl,rfl,rfl,rfl,rfl,(nT h2),rT h2 _ rfl⟩,qQ⟩ ⟨pP,pP,⟨rfl,rfl,(nT h2).symm,aP rfl,_,rfl⟩,w7,qQ⟩ trivial⟩⟩,λh2=>⟨i+1,[some 0,some 1,some 2],hik,hμ,Wo ⟨qZ ⟨rq,rq,rq,rq,rq,rq,rq,rq,rq,rq,rq,rq,⟨qW,rfl⟩,⟨qW,rfl⟩,qQ⟩,qK,⟨aP rfl,rfl,rfl,rfl,rfl,(nF h2),rF h2⟩,qQ⟩ ⟨pP,pP,⟨rfl,rfl,(nF h2).symm,aP rfl,_,rfl⟩,w7,qQ⟩ trivial⟩⟩
   ·have hik:i=k:=by
     have:¬(i:Int) < k:=of_decide_eq_false h1;omega
    have el:(d9 lo hi p 4++gI (pn c) (λi=>ab (pg c i)) p i).length=(zo lo hi k (pn c) (λi=>ab (pg c i)) p).length:=by rw [hik];rfl
    have er:∀t,t < (zo lo hi k (pn c) (λi=>ab (pg c i)) p).length->pL (zo lo hi k (pn c) (λi=>ab (pg c i)) p) t=pL (d9 lo hi p 4++gI (pn c) (λi=>ab (pg c i)) p i) (0+t):=λt _=>by rw [hik,Nat.zero_add];rfl
    with_unfolding_all exact⟨[],aa [(4,.rs 1 (zo lo hi k (pn c) (λi=>ab (pg c i)) p).length (pL (zo lo hi k (pn c) (λi=>ab (pg c i)) p)))] [] 0 [],Wo trivial ⟨⟨by simp,_,rfl,rfl,rfl,el,er⟩,qQ⟩ trivial,rfl,rfl⟩
 ·cases e
def IV:List PV->Option Ans
 |[.agg xs,.val v]=>some ⟨some ((isRg 10000 xs/\isPk 10000 v)/\gK xs<=1000/\∀i,i < gK xs->pn (gC xs) i<=1000000),.val (.bool (ap (bV xs) (bW xs) (gK xs) (pn (gC xs)) (λi=>ab (pg (gC xs) i)) (aN v))),[]⟩
 |_=>none
def D60:Opt:={  }
theorem IW:am D60.toOrd Tryz.f60 2=true:=by kernel_rfl
theorem f60:FnOk Tryz.prog 60 IV:=by
 refine FnOk.ofW aj (an (l:=[(97,IT)]) (own:=[]) (inl:=[]) (by simp [f97]) (by simp)) Tryz.func60 D60 2 IW λargs r e=>?_;unfold IV at e;split at e
 ·rename_i xs v
  cases e;refine⟨by simp,λhm=>?_⟩;obtain⟨⟨⟨h1,⟨hlo,hhi⟩,hcl,hol⟩,p,rfl,hp⟩,hk,hn⟩:=hm _ rfl;generalize bV xs=lo at *
  generalize bW xs=hi at *
  generalize gK xs=k at *
  generalize gC xs=c at *
  generalize gL xs=l at *
  generalize gO xs=o at *
  subst h1;clear hm;have hcl':bU 10000 k (λi=>[.rs 6 (pn c i) (pg c i)]):=⟨λi hi=>⟨rfl,(hcl.1 i hi).2⟩,hcl.2⟩;refine⟨[],aa [(0,.agg (br lo hi k c l o)),(1,.val p.v)] [] 0 [],Wo trivial ⟨⟨rfl,rfl,rfl,rfl,rfl,rfl,rfl,rfl,rfl,rfl,rfl,rfl,qW,qW,qQ⟩,rfl,qQ⟩ trivial,?_⟩;have hX:isRg 10000 (br lo hi k c l o):=⟨rfl,⟨hlo,hhi⟩,hcl',λ_ _=>rfl,hol.2⟩;have hpk:isPk 10000 p.v:=⟨p,rfl,hp⟩;have w:PV.val (.bool ((((zo lo hi k (pn c) (λi=>ab (pg c i)) p).length:Int)==0)))=PV.val (.bool (ap lo hi k (pn c) (λi=>ab (pg c i)) p)):=by rw [y8]
  with_unfolding_all exact⟨⟨⟨hX,hpk⟩,hk,hn⟩,⟨[],aa [(4,.val (.bool (ap lo hi k (pn c) (λi=>ab (pg c i)) p)))] [] 0 [],Wo trivial ⟨w,qQ⟩ trivial,rfl,rfl⟩⟩
 ·cases e
end Go.Proofs
namespace Go.Num
theorem Bu {f:Nat->Bool} {N j:Nat} (h:∀t,t < j->f t=false) (hj:j < N) (k:f j=true):cW f N 0=j:=by
 rcases tQ (p:=f) N 0 with ⟨h1,_⟩|⟨i,_,h2,h3,h4,e⟩
 ·rw [h1 j (Nat.zero_le _) (by omega)] at k;cases k
 ·rw [e];rcases Nat.lt_trichotomy i j with h5|h5|h5
  ·rw [h i h5] at h3;cases h3
  ·rw [h5]
  ·rw [h4 j (Nat.zero_le _) h5] at k;cases k
def GI (lo hi:PtS) (k:Nat) (c:Nat->List PV) (l:Nat) (o:Nat->List PV) (a b:PtS):Bool:=(ff lo hi k (pn c) (λi=>bH (pn c i) (ab (pg c i))) l (ow o)==0)&&(ai a&&ai b)
theorem mR {lo hi:PtS} {k:Nat} {c:Nat->List PV} {l:Nat} {o:Nat->List PV} (h:ff lo hi k (pn c) (λi=>bH (pn c i) (ab (pg c i))) l (ow o)=0):bX lo hi k (pn c) (λi=>ab (pg c i)) l (ow o)=0/\k<=32/\∀i,i < k->pn c i<=64:=by
 have hr:=nZ (r':=λi=>bk (pn c i) (ab (pg c i))) (λj _ h=>mL h) h;exact⟨hr,yZ hr,λi hi=>(sj (kC hr i hi)).1.2⟩
def xk (lo hi a b:PtS) (i:Nat):Bool:=d8 i lo hi a||d8 i lo hi b
def vA (n:Nat->Nat) (p:Nat->Nat->PtS) (a b:PtS) (i:Nat):Bool:=G0 (gF (n i) (p i) a) (il (n i) (p i) a b) (n i)
def Dy (lo hi:PtS) (k:Nat) (n:Nat->Nat) (p:Nat->Nat->PtS) (a b:PtS):Int:=bif aA (xk lo hi a b) 4 then -(cW (xk lo hi a b) 4 0+1) else bif aA (vA n p a b) k then cW (vA n p a b) k 0 else 0
end Go.Num
namespace Go.Proofs
def IX:List PV->Option Ans
 |[.agg xs,.val v]=>some ⟨some ((isRg 10000 xs/\dQ 10000 v)/\gK xs<=1000/\∀i,i < gK xs->pn (gC xs) i<=1000000),.val (.tuple ⟨[.int .i64 (Dy (bV xs) (bW xs) (gK xs) (pn (gC xs)) (λi=>ab (pg (gC xs) i)) (aM v).1 (aM v).2),.bool (pK (bV xs) (bW xs) (gK xs) (pn (gC xs)) (λi=>ab (pg (gC xs) i)) (aM v).1 (aM v).2)]⟩),[]⟩
 |_=>none
def D99:Opt:={ join:=λc=>match c with | .region 9 _ _=>true|_=>false,perm:=jh [(9,(.rd 0 (.rd 1 (.rd 2 (.rd 3 (.rd 4 (.rd 5 (.alt 6 (.rd 7 (.rd 8 (.rd 9 (.rd 10 (.alt 11 (.mk 12 .nil) (.mk 12 (.mk 11 .nil))))))) (.alt 11 (.alt 6 (.rd 7 (.rd 8 (.rd 9 (.rd 10 (.mk 12 .nil))))) (.mk 12 (.mk 6 (.rd 7 (.rd 8 (.rd 9 (.rd 10 .nil))))))) (.mk 12 (.alt 6 (.rd 7 (.rd 8 (.rd 9 (.rd 10 (.mk 11 .nil))))) (.mk 11 (.mk 6 (.rd 7 (.rd 8 (.rd 9 (.rd 10 .nil)))))))))))))))))] }
theorem IY:am D99.toOrd Tryz.f99 2=true:=by kernel_rfl
theorem f99:FnOk Tryz.prog 99 IX:=by
 refine FnOk.ofW aj (an (l:=[(133,A0),(136,Dx)]) (own:=[]) (inl:=[]) (by simp [f133,f136]) (by simp)) Tryz.func99 D99 2 IY λargs r e=>?_;unfold IX at e;split at e
 ·rename_i xs v
  cases e;refine⟨by simp,λhm=>?_⟩;obtain⟨⟨⟨h1,⟨hlo,hhi⟩,hcl,hol⟩,a,b,rfl,ha,hb⟩,hk,hn⟩:=hm _ rfl;generalize bV xs=lo at *
  generalize bW xs=hi at *
  generalize gK xs=k at *
  generalize gC xs=c at *
  generalize gL xs=l at *
  generalize gO xs=o at *
  subst h1;clear hm;have hcl':bU 10000 k (λi=>[.rs 6 (pn c i) (pg c i)]):=⟨λi hi=>⟨rfl,(hcl.1 i hi).2⟩,hcl.2⟩;have hX:isRg 10000 (br lo hi k c l o):=⟨rfl,⟨hlo,hhi⟩,hcl',λ_ _=>rfl,hol.2⟩;have pka:isPk 10000 a.v:=⟨a,rfl,ha⟩;have pkb:isPk 10000 b.v:=⟨b,rfl,hb⟩;have psg:dQ 10000 (ar a b):=⟨a,b,rfl,ha,hb⟩;refine⟨[],aa [(0,.agg (br lo hi k c l o)),(1,.val (ar a b))] [] 0 [],Wo trivial ⟨⟨rfl,rfl,rfl,rfl,rfl,rfl,rfl,rfl,rfl,rfl,rfl,rfl,qW,qW,qQ⟩,rfl,qQ⟩ trivial,?_⟩;show zC _ _ _ _ _ ⟨_,.val (.tuple ⟨[.int .i64 (Dy lo hi k (pn c) (λi=>ab (pg c i)) a b),.bool (pK lo hi k (pn c) (λi=>ab (pg c i)) a b)]⟩),[]⟩;obtain⟨I,hI⟩:∃I,I=(Dy lo hi k (pn c) (λi=>ab (pg c i)) a b):=⟨_,rfl⟩;obtain⟨B,hB⟩:∃B,B=(pK lo hi k (pn c) (λi=>ab (pg c i)) a b):=⟨_,rfl⟩;rw [<-hI,<-hB];have eI:I=bif aA (xk lo hi a b) 4 then -(cW (xk lo hi a b) 4 0+1) else bif aA (vA (pn c) (λi=>ab (pg c i)) a b) k then cW (vA (pn c) (λi=>ab (pg c i)) a b) k 0 else 0:=hI;have eB:B=(aA (xk lo hi a b) 4||aA (vA (pn c) (λi=>ab (pg c i)) a b) k):=hB;clear hI hB;with_unfolding_all refine⟨Nat,λj=>j<=4/\∀t,t < j->xk lo hi a b t=false,λj=>aa [(2,.ptr 0 0 0 0),(3,.ptr 1 1 0 0),(6,.val (.int .i64 (-((j:Int)+1))))] [⟨31,14,0,true,false,1,λ_=>br lo hi k c l o⟩,⟨117,12,1,true,false,1,λ_=>kw a b⟩] 2 [],λj=>4 - j,⟨0,[some 0,some 1],⟨Nat.zero_le _,λt ht=>absurd ht (Nat.not_lt_zero t)⟩,Wo ⟨qZ ⟨rq,rq,rq,rq,rq,rq,rq,rq,rq,rq,rq,rq,⟨qW,rfl⟩,⟨qW,rfl⟩,qQ⟩,qZ ⟨rq,rq,rq,rq,rq,rq,rq,rq,rq,rq,rq,rq,qQ⟩,qQ⟩ ⟨pP,pP,rfl,qQ⟩ trivial⟩,λj hj=>?_⟩
  obtain⟨hj,hjf⟩:j<=4/\∀t,t < j->xk lo hi a b t=false:=hj;with_unfolding_all refine⟨λh1=>?_,λh1=>?_⟩
  ·have hj4:j+1<=4:=by
    have:=of_decide_eq_true h1;omega
   have hsd:mV (-((j:Int)+1))=j:=by
    match j,hj4 with
    |0,_=>rfl
    |1,_=>rfl
    |2,_=>rfl
    |3,_=>rfl
    |j+4,h=>omega
   have nj:d8 (mV (-((j:Int)+1))) lo hi a=false->d8 (mV (-((j:Int)+1))) lo hi b=false->∀t,t < j+1->xk lo hi a b t=false:=λh2 h3 t ht=>by
    rw [hsd] at h2 h3;by_cases e:t=j
    ·rw [e,xk,h2,h3];rfl
    ·exact hjf t (by omega)
   have yj:d8 (mV (-((j:Int)+1))) lo hi a=true\/d8 (mV (-((j:Int)+1))) lo hi b=true->PV.val (.int .i64 (-((j:Int)+1)))=PV.val (.int .i64 I)/\PV.val (.bool true)=PV.val (.bool B):=λh=>by
    rw [hsd] at h;have hs:xk lo hi a b j=true:=by
     unfold xk;rcases h with h|h<;>rw [h]<;>simp
    have ha4:aA (xk lo hi a b) 4=true:=bc.2 ⟨j,by omega,hs⟩;rw [eI,eB,ha4,Bu hjf (by omega) hs];exact⟨rfl,rfl⟩
   have w6:PV.val (.int .i64 (IntKind.i64.wrap (-((j:Int)+1) - 1)))=PV.val (.int .i64 (-(((j+1:Nat):Int)+1))):=by
    rw [wrap64 (by omega) (by omega)];exact congrArg (λz=>PV.val (.int .i64 z)) (by omega)
   have hμ : 4 - (j+1) < 4 - j:=by omega
   have hnn:∀B:Bool,B = !false->B=true:=λB h=>h;with_unfolding_all exact⟨⟨hX,pka⟩,λh2=>⟨⟨hX,pkb⟩,λh3=>⟨[],aa [(4,.val (.int .i64 I)),(5,.val (.bool B))] [] 0 [],Wo trivial ⟨(yj (.inr h3)).1,(yj (.inr h3)).2,qQ⟩ trivial,rfl,rfl⟩,λh3=>⟨j+1,[some 0,some 1],⟨hj4,(nj h2 h3)⟩,hμ,Wo ⟨qZ ⟨rq,rq,rq,rq,rq,rq,rq,rq,rq,rq,rq,rq,⟨qW,rfl⟩,⟨qW,rfl⟩,qQ⟩,qZ ⟨rq,rq,rq,rq,rq,rq,rq,rq,rq,rq,rq,rq,qQ⟩,qQ⟩ ⟨pP,pP,w6,qQ⟩ trivial⟩⟩,λh2=>⟨λ_=>⟨[],aa [(4,.val (.int .i64 I)),(5,.val (.bool B))] [] 0 [],Wo trivial ⟨(yj (.inl (hnn _ h2))).1,(yj (.inl (hnn _ h2))).2,qQ⟩ trivial,rfl,rfl⟩,λh=>(nomatch h)⟩⟩
  ·have hj4:j=4:=by
    have:¬ -((j:Int)+1) >= -4:=of_decide_eq_false h1;omega
   subst hj4;have a4:aA (xk lo hi a b) 4=false:=aF.2 hjf;with_unfolding_all refine⟨Nat,λi=>i<=k/\∀t,t < i->vA (pn c) (λi=>ab (pg c i)) a b t=false,λi=>aa [(2,.ptr 0 0 0 0),(3,.ptr 1 1 0 0),(7,.val (goInt (i:Nat)))] [⟨31,14,0,true,false,1,λ_=>br lo hi k c l o⟩,⟨117,12,1,true,false,1,λ_=>kw a b⟩] 2 [],λi=>k - i,⟨0,[some 0,some 1],⟨Nat.zero_le _,λt ht=>absurd ht (Nat.not_lt_zero t)⟩,Wo ⟨qZ ⟨rq,rq,rq,rq,rq,rq,rq,rq,rq,rq,rq,rq,⟨qW,rfl⟩,⟨qW,rfl⟩,qQ⟩,qZ ⟨rq,rq,rq,rq,rq,rq,rq,rq,rq,rq,rq,rq,qQ⟩,qQ⟩ ⟨pP,pP,rfl,qQ⟩ trivial⟩,λi hi1=>?_⟩
   obtain⟨hi1,hif⟩:i<=k/\∀t,t < i->vA (pn c) (λi=>ab (pg c i)) a b t=false:=hi1;with_unfolding_all refine⟨λh1=>?_,λh1=>?_⟩
   ·have hik:i < k:=by
     have:=of_decide_eq_true h1;exact Int.ofNat_lt.1 this
    have q1:isPL 10000 (pn c (i:Int).toNat) (pg c (i:Int).toNat):=by
     rw [Int.toNat_natCast];exact(hcl.1 i hik).2
    have q2:pn c (i:Int).toNat<=1000000:=by
     rw [Int.toNat_natCast];exact hn i hik
    have w10:PV.val (.bool (xj (gF (pn c (i:Int).toNat) (ab (pg c (i:Int).toNat)) a) (il (pn c (i:Int).toNat) (ab (pg c (i:Int).toNat)) a b) (pn c (i:Int).toNat)).isSome)=PV.val (.bool (vA (pn c) (λi=>ab (pg c i)) a b i)):=by
     rw [Int.toNat_natCast,GG];rfl
    have ni:(vA (pn c) (λi=>ab (pg c i)) a b i)=false->∀t,t < i+1->vA (pn c) (λi=>ab (pg c i)) a b t=false:=λh t ht=>by
     by_cases e:t=i
     ·rw [e];exact h
     ·exact hif t (by omega)
    have yi:(vA (pn c) (λi=>ab (pg c i)) a b i)=true->PV.val (.int .i64 (i:Int))=PV.val (.int .i64 I)/\PV.val (.bool true)=PV.val (.bool B):=λh=>by
     have hk4:aA (vA (pn c) (λi=>ab (pg c i)) a b) k=true:=bc.2 ⟨i,hik,h⟩;rw [eI,eB,a4,hk4,Bu hif hik h];exact⟨rfl,rfl⟩
    have w7:PV.val (.int .i64 (IntKind.i64.wrap ((i:Int)+1)))=PV.val (goInt ((i+1:Nat):Int)):=by
     rw [wrap64 (by omega) (by omega)];rfl
    have hμ : k - (i+1) < k - i:=by omega
    with_unfolding_all refine⟨Unit,λ_=>True,λ_=>aa [(2,.ptr 0 0 0 0),(3,.ptr 1 1 0 0),(7,.val (goInt (i:Nat))),(10,.val (.bool (vA (pn c) (λi=>ab (pg c i)) a b i)))] [⟨31,14,0,true,false,1,λ_=>br lo hi k c l o⟩,⟨117,12,1,true,false,1,λ_=>kw a b⟩] 2 [],⟨⟨Int.natCast_nonneg i,of_decide_eq_true h1⟩,⟨⟨⟨q1,psg,q2⟩,⟨⟨(),[some 0,some 1],trivial,Wo ⟨qZ ⟨rq,rq,rq,rq,rq,rq,rq,rq,rq,rq,rq,rq,⟨qW,rfl⟩,⟨qW,rfl⟩,qQ⟩,qZ ⟨rq,rq,rq,rq,rq,rq,rq,rq,rq,rq,rq,rq,qQ⟩,qQ⟩ ⟨pP,pP,rfl,w10,qQ⟩ trivial⟩,⟨(),[some 0,some 1],trivial,Wo ⟨qZ ⟨rq,rq,rq,rq,rq,rq,rq,rq,rq,rq,rq,rq,⟨qW,rfl⟩,⟨qW,rfl⟩,qQ⟩,qZ ⟨rq,rq,rq,rq,rq,rq,rq,rq,rq,rq,rq,rq,qQ⟩,qQ⟩ ⟨pP,pP,rfl,w10,qQ⟩ trivial⟩⟩⟩,⟨⟨⟨⟨q1,psg,q2⟩,⟨(),[some 0,some 1],trivial,Wo ⟨qZ ⟨rq,rq,rq,rq,rq,rq,rq,rq,rq,rq,rq,rq,⟨qW,rfl⟩,⟨qW,rfl⟩,qQ⟩,qZ ⟨rq,rq,rq,rq,rq,rq,rq,rq,rq,rq,rq,rq,qQ⟩,qQ⟩ ⟨pP,pP,rfl,w10,qQ⟩ trivial⟩⟩,⟨⟨q1,psg,q2⟩,⟨(),[some 0,some 1],trivial,Wo ⟨qZ ⟨rq,rq,rq,rq,rq,rq,rq,rq,rq,rq,rq,rq,⟨qW,rfl⟩,⟨qW,rfl⟩,qQ⟩,qZ ⟨rq,rq,rq,rq,rq,rq,rq,rq,rq,rq,rq,rq,qQ⟩,qQ⟩ ⟨pP,pP,rfl,w10,qQ⟩ trivial⟩⟩⟩,⟨⟨⟨q1,psg,q2⟩,⟨(),[some 0,some 1],trivial,Wo ⟨qZ ⟨rq,rq,rq,rq,rq,rq,rq,rq,rq,rq,rq,rq,⟨qW,rfl⟩,⟨qW,rfl⟩,qQ⟩,qZ ⟨rq,rq,rq,rq,rq,rq,rq,rq,rq,rq,rq,rq,qQ⟩,qQ⟩ ⟨pP,pP,rfl,w10,qQ⟩ trivial⟩⟩,⟨⟨q1,psg,q2⟩,⟨(),[some 0,some 1],trivial,Wo ⟨qZ ⟨rq,rq,rq,rq,rq,rq,rq,rq,rq,rq,rq,rq,⟨qW,rfl⟩,⟨qW,rfl⟩,qQ⟩,qZ ⟨rq,rq,rq,rq,rq,rq,rq,rq,rq,rq,rq,rq,qQ⟩,qQ⟩ ⟨pP,pP,rfl,w10,qQ⟩ trivial⟩⟩⟩⟩⟩⟩,λ_ _=>?_⟩
    with_unfolding_all exact⟨λh2=>⟨[],aa [(4,.val (.int .i64 I)),(5,.val (.bool B))] [] 0 [],Wo trivial ⟨(yi h2).1,(yi h2).2,qQ⟩ trivial,rfl,rfl⟩,λh2=>⟨i+1,[some 0,some 1],⟨hik,(ni h2)⟩,hμ,Wo ⟨qZ ⟨rq,rq,rq,rq,rq,rq,rq,rq,rq,rq,rq,rq,⟨qW,rfl⟩,⟨qW,rfl⟩,qQ⟩,qZ ⟨rq,rq,rq,rq,rq,rq,rq,rq,rq,rq,rq,rq,qQ⟩,qQ⟩ ⟨pP,pP,w7,qQ⟩ trivial⟩⟩
   ·have hik:i=k:=by
     have:¬(i:Int) < k:=of_decide_eq_false h1;omega
    have ak:aA (vA (pn c) (λi=>ab (pg c i)) a b) k=false:=aF.2 (by rw [hik] at hif;exact hif);have y0:PV.val (.int .i64 0)=PV.val (.int .i64 I)/\PV.val (.bool false)=PV.val (.bool B):=by
     rw [eI,eB,a4,ak];exact⟨rfl,rfl⟩
    with_unfolding_all exact⟨[],aa [(4,.val (.int .i64 I)),(5,.val (.bool B))] [] 0 [],Wo trivial ⟨y0.1,y0.2,qQ⟩ trivial,rfl,rfl⟩
 ·cases e
def IZ:List PV->Option Ans
 |[.agg xs,.val v,.val u]=>some ⟨some ((isRg 10000 xs/\isPk 10000 v/\isPk 10000 u)/\gK xs<=1000/\∀i,i < gK xs->pn (gC xs) i<=1000000),.val (.bool (!pK (bV xs) (bW xs) (gK xs) (pn (gC xs)) (λi=>ab (pg (gC xs) i)) (aN v) (aN u))),[]⟩
 |_=>none
def D62:Opt:={  }
theorem I0:am D62.toOrd Tryz.f62 3=true:=by kernel_rfl
theorem f62:FnOk Tryz.prog 62 IZ:=by
 refine FnOk.ofW aj (an (l:=[(99,IX)]) (own:=[]) (inl:=[]) (by simp [f99]) (by simp)) Tryz.func62 D62 3 I0 λargs r e=>?_;unfold IZ at e;split at e
 ·rename_i xs v u
  cases e;refine⟨by simp,λhm=>?_⟩;obtain⟨⟨⟨h1,⟨hlo,hhi⟩,hcl,hol⟩,⟨a,rfl,ha⟩,b,rfl,hb⟩,hk,hn⟩:=hm _ rfl;generalize bV xs=lo at *
  generalize bW xs=hi at *
  generalize gK xs=k at *
  generalize gC xs=c at *
  generalize gL xs=l at *
  generalize gO xs=o at *
  subst h1;clear hm;have hcl':bU 10000 k (λi=>[.rs 6 (pn c i) (pg c i)]):=⟨λi hi=>⟨rfl,(hcl.1 i hi).2⟩,hcl.2⟩;have hX:isRg 10000 (br lo hi k c l o):=⟨rfl,⟨hlo,hhi⟩,hcl',λ_ _=>rfl,hol.2⟩;have psg:dQ 10000 (ar a b):=⟨a,b,rfl,ha,hb⟩;refine⟨[],aa [(0,.agg (br lo hi k c l o)),(1,.val a.v),(2,.val b.v)] [] 0 [],Wo trivial ⟨⟨rfl,rfl,rfl,rfl,rfl,rfl,rfl,rfl,rfl,rfl,rfl,rfl,qW,qW,qQ⟩,rfl,rfl,qQ⟩ trivial,?_⟩;with_unfolding_all exact⟨⟨⟨hX,psg⟩,hk,hn⟩,⟨[],aa [(6,.val (.bool (!(pK lo hi k (pn c) (λi=>ab (pg c i)) a b))))] [] 0 [],Wo trivial ⟨rfl,qQ⟩ trivial,rfl,rfl⟩⟩
 ·cases e
def Jk:List PV->Option Ans
 |[.agg xs,.val v,.val u]=>some ⟨some (isRg 10000 xs/\isPk 10000 v/\isPk 10000 u),.val (.tuple ⟨[.bool (GI (bV xs) (bW xs) (gK xs) (gC xs) (gL xs) (gO xs) (aN v) (aN u)&&!pK (bV xs) (bW xs) (gK xs) (pn (gC xs)) (λi=>ab (pg (gC xs) i)) (aN v) (aN u)),.int .i64 (bY (GI (bV xs) (bW xs) (gK xs) (gC xs) (gL xs) (gO xs) (aN v) (aN u)))]⟩),[]⟩
 |_=>none
def D22:Opt:={  }
theorem I5:am D22.toOrd Tryz.f22 3=true:=by kernel_rfl
theorem f22:FnOk Tryz.prog 22 Jk:=by
 refine FnOk.ofW aj (an (l:=[(58,Gn),(59,Fs),(62,IZ)]) (own:=[]) (inl:=[]) (by simp [f58,f59,f62]) (by simp)) Tryz.func22 D22 3 I5 λargs r e=>?_;unfold Jk at e;split at e
 ·rename_i xs v u
  cases e;refine⟨by simp,λhm=>?_⟩;obtain⟨⟨h1,⟨hlo,hhi⟩,hcl,hol⟩,⟨a,rfl,ha⟩,b,rfl,hb⟩:=hm _ rfl;generalize bV xs=lo at *
  generalize bW xs=hi at *
  generalize gK xs=k at *
  generalize gC xs=c at *
  generalize gL xs=l at *
  generalize gO xs=o at *
  subst h1;clear hm;have hcl':bU 10000 k (λi=>[.rs 6 (pn c i) (pg c i)]):=⟨λi hi=>⟨rfl,(hcl.1 i hi).2⟩,hcl.2⟩;have hX:isRg 10000 (br lo hi k c l o):=⟨rfl,⟨hlo,hhi⟩,hcl',λ_ _=>rfl,hol.2⟩;have pka:isPk 10000 a.v:=⟨a,rfl,ha⟩;have pkb:isPk 10000 b.v:=⟨b,rfl,hb⟩;have pa4:isPk 4294967296 a.v:=⟨a,rfl,ha.mono (by decide)⟩;have pb4:isPk 4294967296 b.v:=⟨b,rfl,hb.mono (by decide)⟩;refine⟨[],aa [(0,.agg (br lo hi k c l o)),(1,.val a.v),(2,.val b.v)] [] 0 [],Wo trivial ⟨⟨rfl,rfl,rfl,rfl,rfl,rfl,rfl,rfl,rfl,rfl,rfl,rfl,qW,qW,qQ⟩,rfl,rfl,qQ⟩ trivial,?_⟩;show zC _ _ _ _ _ ⟨_,.val (.tuple ⟨[.bool ((GI lo hi k c l o a b)&&!(pK lo hi k (pn c) (λi=>ab (pg c i)) a b)),.int .i64 (bY (GI lo hi k c l o a b))]⟩),[]⟩;obtain⟨K,hK⟩:∃K,K=(GI lo hi k c l o a b):=⟨_,rfl⟩;obtain⟨B,hB⟩:∃B,B=(pK lo hi k (pn c) (λi=>ab (pg c i)) a b):=⟨_,rfl⟩;rw [<-hK,<-hB];have eK:K=(((ff lo hi k (pn c) (λi=>bH (pn c i) (ab (pg c i))) l (ow o))==0)&&(ai a&&ai b)):=hK;have z:∀C:Bool,(bY C != 0)=true->C=false:=λC h=>by cases C<;>first|rfl|cases h
  have z':∀C:Bool,(bY C != 0)=false->C=true:=λC h=>by cases C<;>first|rfl|cases h
  have bad:K=false->PV.val (.bool false)=PV.val (.bool (K&&!B))/\PV.val (.int .i64 1)=PV.val (.int .i64 (bY K)):=λh=>by
   rw [h];exact⟨rfl,rfl⟩
  have kc:((ff lo hi k (pn c) (λi=>bH (pn c i) (ab (pg c i))) l (ow o)) != 0)=true->K=false:=λh=>by
   have h:((ff lo hi k (pn c) (λi=>bH (pn c i) (ab (pg c i))) l (ow o))==0)=false:=by simpa using h
   rw [eK,h];rfl
  have ka:(bY (ai a) != 0)=true->K=false:=λh=>by
   rw [eK,z _ h,Bool.false_and,Bool.and_false]
  have kb:(bY (ai b) != 0)=true->K=false:=λh=>by
   rw [eK,z _ h,Bool.and_false,Bool.and_false]
  have kg:((ff lo hi k (pn c) (λi=>bH (pn c i) (ab (pg c i))) l (ow o)) != 0)=false->(bY (ai a) != 0)=false->(bY (ai b) != 0)=false->K=true:=λh h2 h3=>by
   have h:((ff lo hi k (pn c) (λi=>bH (pn c i) (ab (pg c i))) l (ow o))==0)=true:=by simpa using h
   rw [eK,h,z' _ h2,z' _ h3];rfl
  have fine:((ff lo hi k (pn c) (λi=>bH (pn c i) (ab (pg c i))) l (ow o)) != 0)=false->k<=1000/\∀i,i < k->pn c i<=1000000:=λh=>by
   have h:(ff lo hi k (pn c) (λi=>bH (pn c i) (ab (pg c i))) l (ow o))=0:=by simpa using h
   have hf:=mR h;exact⟨Nat.le_trans hf.2.1 (by decide),λi hi2=>Nat.le_trans (hf.2.2 i hi2) (by decide)⟩
  have good:K=true->PV.val (.bool (!(pK lo hi k (pn c) (λi=>ab (pg c i)) a b)))=PV.val (.bool (K&&!B))/\PV.val (.int .i64 0)=PV.val (.int .i64 (bY K)):=λh=>by
   rw [h,hB];exact⟨rfl,rfl⟩
  have hnn:∀C:Bool,C = !false->C=true:=λC h=>h;with_unfolding_all exact⟨hX,λh1=>⟨pa4,λh2=>⟨pb4,λh3=>⟨[],aa [(6,.val (.bool (K&&!B))),(7,.val (.int .i64 (bY K)))] [] 0 [],Wo trivial ⟨(bad (kb h3)).1,(bad (kb h3)).2,qQ⟩ trivial,rfl,rfl⟩,λh3=>⟨⟨⟨hX,pka,pkb⟩,fine h1⟩,⟨[],aa [(6,.val (.bool (K&&!B))),(7,.val (.int .i64 (bY K)))] [] 0 [],Wo trivial ⟨(good (kg h1 h2 h3)).1,(good (kg h1 h2 h3)).2,qQ⟩ trivial,rfl,rfl⟩⟩⟩,λh2=>⟨λ_=>⟨[],aa [(6,.val (.bool (K&&!B))),(7,.val (.int .i64 (bY K)))] [] 0 [],Wo trivial ⟨(bad (ka (hnn _ h2))).1,(bad (ka (hnn _ h2))).2,qQ⟩ trivial,rfl,rfl⟩,λh=>(nomatch h)⟩⟩,λh1=>⟨λh=>(nomatch h),λ_=>⟨λ_=>⟨[],aa [(6,.val (.bool (K&&!B))),(7,.val (.int .i64 (bY K)))] [] 0 [],Wo trivial ⟨(bad (kc (hnn _ h1))).1,(bad (kc (hnn _ h1))).2,qQ⟩ trivial,rfl,rfl⟩,λh=>(nomatch h)⟩⟩⟩
 ·cases e
end Go.Proofs
namespace Go.Ex
theorem R0.row {ok:Nat->Prop} {w:World} {es n:Nat} {g g':Nat->List PV} {v:Value} (h:R0 ok w (.rs es n g) v) (e:∀i,i < n->g' i=g i):R0 ok w (.rs es n g') v:=by
 cases h with
 |rs _ _ _ a c u hl hc hm h1 h2=>exact .rs _ _ _ a c u (λi hi=>by rw [e i hi];exact hl i hi) hc hm (λi f p hi hp=>h1 i f p hi (by rw [<-e i hi];exact hp)) (λi f p hi hp=>h2 i f p hi (by rw [<-e i hi];exact hp))
theorem R0.rows {ok:Nat->Prop} {w:World} {k z:Nat} {n:Nat->Nat} {g g':Nat->Nat->List PV} {v:Value} (h:R0 ok w (.rs 1 k λi=>[.rs z (n i) (g i)]) v) (e:∀i,i < k->∀t,t < n i->g' i t=g i t):R0 ok w (.rs 1 k λi=>[.rs z (n i) (g' i)]) v:=by
 cases h with
 |rs _ _ _ a c u hl hc hm h1 h2 =>
  refine .rs _ _ _ a c u (λi hi=>⟨rfl,λp hp=>?_⟩) hc hm (λi f p hi hp=>?_) (λi f p hi hp=>?_)
  ·rw [List.mem_singleton.1 hp];exact(hl i hi).2 (.rs z (n i) (g i)) (List.mem_singleton.2 rfl)
  ·match f with
   |0=>exact h1 i 0 _ hi rfl
   |f+1=>cases hp
  ·match f with
   |0 =>
    cases hp;exact R0.row (h2 i 0 _ hi rfl) (e i hi)
   |f+1=>cases hp
end Go.Ex
namespace Go.Num
def lr (c:Nat->List PV):Nat->List PV:=λi=>[.rs 6 (pn c i) (λt=>(ab (pg c i) t).cells)]
def y9 (L:List PtS) (x:PtS):Nat->Nat->Nat
 |0,i=>i
 |f+1,i=>bif decide (cu (ae L i) x < 0) then y9 L x f (i+1) else i
def un (L:List PtS) (x:PtS):Nat:=y9 L x L.length 0
theorem vB {L:List PtS} {x:PtS} {m:Nat}:∀{f i:Nat},i<=m->(∀t,i<=t->t < m->cu (ae L t) x < 0)->m<=i+f->(m=i+f\/¬cu (ae L m) x < 0)->y9 L x f i=m
 |0,i,h0,_,h2,_=>by
  rw [y9];omega
 |f+1,i,h0,h1,h2,h3=>by
  rw [y9];by_cases e:i=m
  ·subst e;rcases h3 with h3|h3
   ·omega
   ·rw [decide_eq_false h3];rfl
  ·rw [decide_eq_true (h1 i (Nat.le_refl _) (by omega)),cond_true];exact vB (by omega) (λt a b=>h1 t (by omega) b) (by omega) (by rcases h3 with h3|h3;exact .inl (by omega);exact .inr h3)
theorem za {L:List PtS} {x:PtS} {m:Nat} (h1:∀t,t < m->cu (ae L t) x < 0) (h2:m<=L.length) (h3:m=L.length\/¬cu (ae L m) x < 0):un L x=m :=
 vB (Nat.zero_le _) (λt _ h=>h1 t h) (by omega) (by rcases h3 with h3|h3;exact .inl (by omega);exact .inr h3)
def kF (L:List PtS) (x:PtS):List PtS:=bif decide (un L x < L.length)&&aX (ae L (un L x)) x then L else L.take (un L x)++x::L.drop (un L x)
def cm (S:PtS->Bool) (p:Nat->PtS) (L:List PtS):Nat->List PtS
 |0=>L
 |j+1=>bif S (p j) then kF (cm S p L j) (p j) else cm S p L j
def bN (S:PtS->Bool) (n:Nat->Nat) (p:Nat->Nat->PtS):Nat->List PtS
 |0=>[]
 |i+1=>cm S (p i) (bN S n p i) (n i)
theorem zd (L:List PtS) (x:PtS):(kF L x).length<=L.length+1:=by
 unfold kF;cases decide (un L x < L.length)&&aX (ae L (un L x)) x with
 |true=>exact Nat.le_succ _
 |false =>
  show(L.take (un L x)++x::L.drop (un L x)).length<=_;rw [List.length_append,List.length_cons,List.length_take,List.length_drop];omega
theorem pM (S:PtS->Bool) (p:Nat->PtS) (L:List PtS):∀j,(cm S p L j).length<=L.length+j
 |0=>Nat.le_refl _
 |j+1=>by
  have h1:=pM S p L j;have h2:=zd (cm S p L j) (p j);rw [cm];cases S (p j) with
  |true=>show(kF (cm S p L j) (p j)).length<=_;omega
  |false=>show(cm S p L j).length<=_;omega
theorem vC (S:PtS->Bool) (n:Nat->Nat) (p:Nat->Nat->PtS) {k:Nat} (hn:∀i,i < k->n i<=64):∀i,i<=k->(bN S n p i).length<=64*i
 |0,_=>Nat.le_refl _
 |i+1,h=>by
  have h1:=vC S n p hn i (by omega);have h2:=pM S (p i) (bN S n p i) (n i);have h3:=hn i (by omega);rw [bN];omega
theorem ze {K:Nat} {L:List PtS} {x:PtS} (h:∀p∈L,p.le K) (hx:x.le K):∀p∈kF L x,p.le K:=λp hp=>by
 unfold kF at hp;cases hb:decide (un L x < L.length)&&aX (ae L (un L x)) x with
 |true =>
  rw [hb] at hp;exact h p hp
 |false =>
  rw [hb] at hp;have hp:p∈L.take (un L x)++x::L.drop (un L x):=hp;rcases List.mem_append.1 hp with hp|hp
  ·exact h p (List.mem_of_mem_take hp)
  ·rcases List.mem_cons.1 hp with hp|hp
   ·rw [hp];exact hx
   ·exact h p (List.mem_of_mem_drop hp)
theorem pN {K:Nat} {S:PtS->Bool} {p:Nat->PtS} {L:List PtS} (h:∀q∈L,q.le K):∀{j:Nat},(∀t,t < j->(p t).le K)->∀q∈cm S p L j,q.le K
 |0,_=>h
 |j+1,hp=>λq hq=>by
  rw [cm] at hq;have ih:=pN (S:=S) h (j:=j) λt ht=>hp t (by omega);cases hS:S (p j) with
  |true =>
   rw [hS] at hq;exact ze ih (hp j (by omega)) q hq
  |false =>
   rw [hS] at hq;exact ih q hq
theorem vD {K:Nat} {S:PtS->Bool} {n:Nat->Nat} {p:Nat->Nat->PtS}:∀{i:Nat},(∀s,s < i->∀t,t < n s->(p s t).le K)->∀q∈bN S n p i,q.le K
 |0,_=>λq hq=>by cases hq
 |i+1,h=>pN (vD λs hs=>h s (by omega)) λt ht=>h i (by omega) t ht
theorem zf {L:List PtS} {x:PtS} {m:Nat} (hm:m<=L.length) (t:Nat) (ht:t < L.length+1):ae (L.take m++x::L.drop m) t=if t < m then ae L t else if t=m then x else ae L (t - 1):=by
 unfold ae;by_cases h:t < m
 ·rw [if_pos h,List.getElem?_append_left (by rw [List.length_take];omega),List.getElem?_take_of_lt h]
 ·rw [if_neg h,List.getElem?_append_right (by rw [List.length_take];omega),List.length_take,Nat.min_eq_left hm];by_cases e:t=m
  ·rw [if_pos e,e,Nat.sub_self];rfl
  ·rw [if_neg e,show t - m=(t - m - 1)+1 by omega,List.getElem?_cons_succ,List.getElem?_drop,show m+(t - m - 1)=t - 1 by omega]
theorem xl {L:List PtS} {x:PtS} {m:Nat} (h:un L x=m) (e:(decide (m < L.length)&&aX (ae L m) x)=true):kF L x=L:=by
 rw [kF,h,e];rfl
theorem zg {L:List PtS} {x:PtS} {m:Nat} (h:un L x=m) (hm:m<=L.length) (e:(decide (m < L.length)&&aX (ae L m) x)=false):(kF L x).length=m+1+((L.length:Int) - m).toNat/\∀r:Nat->List PV,r 0=x.cells->∀t,t < m+1+((L.length:Int) - m).toNat->(ae (kF L x) t).cells=gH (m+1) (gH m (λt=>(ae L t).cells) r) (λs=>(ae L (0+(m:Int).toNat+s)).cells) t:=by
 have e2:kF L x=L.take m++x::L.drop m:=by
  rw [kF,h,e];rfl
 rw [e2];refine⟨by rw [List.length_append,List.length_cons,List.length_take,List.length_drop];omega,λr hr t ht=>?_⟩;rw [zf hm t (by omega),gH,gH,Nat.zero_add,Int.toNat_natCast];by_cases h1:t < m
 ·rw [if_pos h1,if_pos (by omega),if_pos h1]
 ·rw [if_neg h1];by_cases h2:t=m
  ·rw [if_pos h2,if_pos (by omega),if_neg h1,h2,Nat.sub_self,hr]
  ·rw [if_neg h2,if_neg (by omega),show m+(t - (m+1))=t - 1 by omega]
end Go.Num
namespace Go.Proofs
def GJ:List PV->Option Ans
 |[.agg xs]=>some ⟨some (isRg 10000 xs/\(gK xs<=32/\∀i,i < gK xs->pn (gC xs) i<=64)/\gC xs=lr (gC xs)),.rs 6 (bN (ap (bV xs) (bW xs) (gK xs) (pn (gC xs)) (λi=>ab (pg (gC xs) i))) (pn (gC xs)) (λi=>ab (pg (gC xs) i)) (gK xs)).length (λt=>(ae (bN (ap (bV xs) (bW xs) (gK xs) (pn (gC xs)) (λi=>ab (pg (gC xs) i))) (pn (gC xs)) (λi=>ab (pg (gC xs) i)) (gK xs)) t).cells),[]⟩
 |_=>none
def D61:Opt:={  }
theorem I6:am D61.toOrd Tryz.f61 1=true:=by kernel_rfl
theorem I7:FnOk Tryz.prog 61 GJ:=by
 refine FnOk.ofW aj (an (l:=[(60,IV),(98,GS)]) (own:=[]) (inl:=[]) (by simp [f60,f98]) (by simp)) Tryz.func61 D61 1 I6 λargs r e=>?_;unfold GJ at e;split at e
 ·rename_i xs
  cases e;refine⟨by simp,λhm=>?_⟩;obtain⟨⟨h1,⟨hlo,hhi⟩,hcl,hol⟩,⟨hk,hn⟩,hnm⟩:=hm _ rfl;generalize bV xs=lo at *
  generalize bW xs=hi at *
  generalize gK xs=k at *
  generalize gC xs=c at *
  generalize gL xs=l at *
  generalize gO xs=o at *
  subst h1;clear hm;obtain⟨d,rfl⟩:∃d,c=lr d:=⟨c,hnm⟩;clear hnm;have hp:∀i,i < k->∀t,t < pn d i->(ab (pg d i) t).le 10000:=λi hi2 t ht=>((hcl.1 i hi2).2.1 t ht).2;have hn:∀i,i < k->pn d i<=64:=hn;have hX:isRg 10000 (br lo hi k (lr d) l o):=⟨rfl,⟨hlo,hhi⟩,⟨λi hi2=>⟨rfl,(hcl.1 i hi2).2⟩,hcl.2⟩,λ_ _=>rfl,hol.2⟩;refine⟨[],aa [(0,.agg (br lo hi k (lr d) l o))] [] 0 [],Wo trivial ⟨⟨rfl,rfl,rfl,rfl,rfl,rfl,rfl,rfl,rfl,rfl,rfl,rfl,qW,qW,qQ⟩,qQ⟩ trivial,?_⟩;show zC _ _ _ _ _ ⟨_,.rs 6 (bN (ap lo hi k (pn d) (λi=>ab (pg d i))) (pn d) (λi=>ab (pg d i)) k).length (λt=>(ae (bN (ap lo hi k (pn d) (λi=>ab (pg d i))) (pn d) (λi=>ab (pg d i)) k) t).cells),[]⟩;have hk3:k<=1000:=by omega
  have hn3:∀i,i < k->pn d i<=1000000:=λi hi2=>Nat.le_trans (hn i hi2) (by decide);with_unfolding_all refine⟨Nat,λi=>i<=k,λi=>aa [(1,.ptr 0 0 0 0),(3,.sl 1 1 0 (bN (ap lo hi k (pn d) (λi=>ab (pg d i))) (pn d) (λi=>ab (pg d i)) i).length),(4,.val (goInt (i:Nat)))] [⟨31,14,0,true,false,1,λ_=>br lo hi k (lr d) l o⟩,⟨25,6,1,false,false,(bN (ap lo hi k (pn d) (λi=>ab (pg d i))) (pn d) (λi=>ab (pg d i)) i).length,λt=>(ae (bN (ap lo hi k (pn d) (λi=>ab (pg d i))) (pn d) (λi=>ab (pg d i)) i) t).cells⟩] 2 [],λi=>k - i,⟨0,[some 0,some 1],Nat.zero_le _,Wo ⟨qZ ⟨rq,rq,rq,rq,rq,rq,rq,rq,rq,rq,rq,rq,⟨qW,rfl⟩,⟨qW,rfl⟩,qQ⟩,qZ (λt ht=>absurd ht (Nat.not_lt_zero t)),qQ⟩ ⟨pP,pP,rfl,qQ⟩ trivial⟩,λi hi1=>?_⟩
  replace hi1:i<=k:=hi1;with_unfolding_all refine⟨λh1=>?_,λh1=>?_⟩
  ·have hik:i < k:=by
    have:=of_decide_eq_true h1;exact Int.ofNat_lt.1 this
   have bi:0<=(i:Int)/\(i:Int) < k:=⟨Int.natCast_nonneg i,of_decide_eq_true h1⟩;with_unfolding_all refine⟨Nat,λj=>j<=pn d i,λj=>aa [(1,.ptr 0 0 0 0),(3,.sl 1 1 0 (cm (ap lo hi k (pn d) (λi=>ab (pg d i))) (ab (pg d i)) (bN (ap lo hi k (pn d) (λi=>ab (pg d i))) (pn d) (λi=>ab (pg d i)) i) j).length),(4,.val (goInt (i:Nat))),(5,.val (goInt (j:Nat)))] [⟨31,14,0,true,false,1,λ_=>br lo hi k (lr d) l o⟩,⟨25,6,1,false,false,(cm (ap lo hi k (pn d) (λi=>ab (pg d i))) (ab (pg d i)) (bN (ap lo hi k (pn d) (λi=>ab (pg d i))) (pn d) (λi=>ab (pg d i)) i) j).length,λt=>(ae (cm (ap lo hi k (pn d) (λi=>ab (pg d i))) (ab (pg d i)) (bN (ap lo hi k (pn d) (λi=>ab (pg d i))) (pn d) (λi=>ab (pg d i)) i) j) t).cells⟩] 2 [],λj=>pn d i - j,⟨0,[some 0,some 1],Nat.zero_le _,Wo ⟨qZ ⟨rq,rq,rq,rq,rq,rq,rq,rq,rq,rq,rq,rq,⟨qW,rfl⟩,⟨qW,rfl⟩,qQ⟩,qZ (λ_ _=>rfl),qQ⟩ ⟨pP,pP,rfl,rfl,qQ⟩ trivial⟩,λj hj1=>?_⟩
   replace hj1:j<=pn d i:=hj1;with_unfolding_all refine⟨bi,λh1=>?_,λh1=>?_⟩
   ·have hjn:j < pn d i:=by
     have:=of_decide_eq_true h1;rw [show pn (lr d) (i:Int).toNat=pn d i by rw [Int.toNat_natCast];rfl] at this;exact Int.ofNat_lt.1 this
    have bj:0<=(j:Int)/\(j:Int) < pn (lr d) (i:Int).toNat:=⟨Int.natCast_nonneg j,of_decide_eq_true h1⟩;have pkp:isPk 10000 (ab (pg d (i:Int).toNat) (j:Int).toNat).v:=⟨_,rfl,by rw [Int.toNat_natCast,Int.toNat_natCast];exact hp i hik j hjn⟩;with_unfolding_all refine⟨bi,bj,⟨⟨hX,pkp⟩,hk3,hn3⟩,λh2=>?_,λh2=>?_⟩
    ·have hj1:j+1<=pn d i:=hjn;have hμ : pn d i - (j+1) < pn d i - j:=by omega
     have hpn:=hn i hik;have w5:PV.val (.int .i64 (IntKind.i64.wrap ((j:Int)+1)))=PV.val (goInt ((j+1:Nat):Int)):=by
      rw [wrap64 (by omega) (by omega)];rfl
     rw [Int.toNat_natCast,Int.toNat_natCast] at h2;have hS:(ap lo hi k (pn d) (λi=>ab (pg d i)) (ab (pg d i) j))=false:=by
      rw [<-Bool.not_eq_true'];exact h2
     have hL0:(cm (ap lo hi k (pn d) (λi=>ab (pg d i))) (ab (pg d i)) (bN (ap lo hi k (pn d) (λi=>ab (pg d i))) (pn d) (λi=>ab (pg d i)) i) (j+1)).length=(cm (ap lo hi k (pn d) (λi=>ab (pg d i))) (ab (pg d i)) (bN (ap lo hi k (pn d) (λi=>ab (pg d i))) (pn d) (λi=>ab (pg d i)) i) j).length/\∀t,t < (cm (ap lo hi k (pn d) (λi=>ab (pg d i))) (ab (pg d i)) (bN (ap lo hi k (pn d) (λi=>ab (pg d i))) (pn d) (λi=>ab (pg d i)) i) j).length->(ae (cm (ap lo hi k (pn d) (λi=>ab (pg d i))) (ab (pg d i)) (bN (ap lo hi k (pn d) (λi=>ab (pg d i))) (pn d) (λi=>ab (pg d i)) i) (j+1)) t).cells=(ae (cm (ap lo hi k (pn d) (λi=>ab (pg d i))) (ab (pg d i)) (bN (ap lo hi k (pn d) (λi=>ab (pg d i))) (pn d) (λi=>ab (pg d i)) i) j) t).cells:=by
      rw [cm,hS];exact⟨rfl,λt _=>rfl⟩
     with_unfolding_all exact⟨j+1,[some 0,some 1],hj1,hμ,Wo ⟨qZ ⟨rq,rq,rq,rq,rq,rq,rq,rq,rq,rq,rq,rq,⟨qW,rfl⟩,⟨qW,rfl⟩,qQ⟩,⟨aP rfl,rfl,rfl,rfl,rfl,hL0.1,hL0.2⟩,qQ⟩ ⟨pP,⟨rfl,rfl,hL0.1.symm,aP rfl,_,rfl⟩,rfl,w5,qQ⟩ trivial⟩
    ·have hj1:j+1<=pn d i:=hjn;have hμ : pn d i - (j+1) < pn d i - j:=by omega
     have hpn:=hn i hik;have w5:PV.val (.int .i64 (IntKind.i64.wrap ((j:Int)+1)))=PV.val (goInt ((j+1:Nat):Int)):=by
      rw [wrap64 (by omega) (by omega)];rfl
     rw [Int.toNat_natCast,Int.toNat_natCast] at h2;have hS:(ap lo hi k (pn d) (λi=>ab (pg d i)) (ab (pg d i) j))=true:=by
      rw [Bool.not_eq_false'] at h2;exact h2
     have eL:(cm (ap lo hi k (pn d) (λi=>ab (pg d i))) (ab (pg d i)) (bN (ap lo hi k (pn d) (λi=>ab (pg d i))) (pn d) (λi=>ab (pg d i)) i) (j+1))=kF (cm (ap lo hi k (pn d) (λi=>ab (pg d i))) (ab (pg d i)) (bN (ap lo hi k (pn d) (λi=>ab (pg d i))) (pn d) (λi=>ab (pg d i)) i) j) (ab (pg d i) j):=by
      rw [cm,hS];rfl
     have hLl:(cm (ap lo hi k (pn d) (λi=>ab (pg d i))) (ab (pg d i)) (bN (ap lo hi k (pn d) (λi=>ab (pg d i))) (pn d) (λi=>ab (pg d i)) i) j).length<=100000:=by
      have h6:=pM (ap lo hi k (pn d) (λi=>ab (pg d i))) (ab (pg d i)) (bN (ap lo hi k (pn d) (λi=>ab (pg d i))) (pn d) (λi=>ab (pg d i)) i) j;have h7:=vC (ap lo hi k (pn d) (λi=>ab (pg d i))) (pn d) (λi=>ab (pg d i)) hn i (by omega);have h8:=hn i hik;omega
     have hLp:∀q∈(cm (ap lo hi k (pn d) (λi=>ab (pg d i))) (ab (pg d i)) (bN (ap lo hi k (pn d) (λi=>ab (pg d i))) (pn d) (λi=>ab (pg d i)) i) j),q.le 10000:=pN (vD λs hs t ht=>hp s (by omega) t ht) λt ht=>hp i hik t (by omega);with_unfolding_all refine⟨Nat,λm=>m<=(cm (ap lo hi k (pn d) (λi=>ab (pg d i))) (ab (pg d i)) (bN (ap lo hi k (pn d) (λi=>ab (pg d i))) (pn d) (λi=>ab (pg d i)) i) j).length/\∀t,t < m->cu (ae (cm (ap lo hi k (pn d) (λi=>ab (pg d i))) (ab (pg d i)) (bN (ap lo hi k (pn d) (λi=>ab (pg d i))) (pn d) (λi=>ab (pg d i)) i) j) t) (ab (pg d i) j) < 0,λm=>aa [(1,.ptr 0 0 0 0),(3,.sl 1 1 0 (cm (ap lo hi k (pn d) (λi=>ab (pg d i))) (ab (pg d i)) (bN (ap lo hi k (pn d) (λi=>ab (pg d i))) (pn d) (λi=>ab (pg d i)) i) j).length),(4,.val (goInt (i:Nat))),(5,.val (goInt (j:Nat))),(6,.ptr 2 2 0 0),(7,.sl 3 3 0 m),(8,.val (goInt (m:Nat)))] [⟨31,14,0,true,false,1,λ_=>br lo hi k (lr d) l o⟩,⟨25,6,1,false,false,(cm (ap lo hi k (pn d) (λi=>ab (pg d i))) (ab (pg d i)) (bN (ap lo hi k (pn d) (λi=>ab (pg d i))) (pn d) (λi=>ab (pg d i)) i) j).length,λt=>(ae (cm (ap lo hi k (pn d) (λi=>ab (pg d i))) (ab (pg d i)) (bN (ap lo hi k (pn d) (λi=>ab (pg d i))) (pn d) (λi=>ab (pg d i)) i) j) t).cells⟩,⟨25,6,2,true,false,1,λ_=>(ab (pg d i) j).cells⟩,⟨25,6,3,false,false,m,λt=>(ae (cm (ap lo hi k (pn d) (λi=>ab (pg d i))) (ab (pg d i)) (bN (ap lo hi k (pn d) (λi=>ab (pg d i))) (pn d) (λi=>ab (pg d i)) i) j) t).cells⟩] 4 [],λm=>(cm (ap lo hi k (pn d) (λi=>ab (pg d i))) (ab (pg d i)) (bN (ap lo hi k (pn d) (λi=>ab (pg d i))) (pn d) (λi=>ab (pg d i)) i) j).length - m,⟨0,[some 0,some 1,some 2,some 3],⟨Nat.zero_le _,λt ht=>absurd ht (Nat.not_lt_zero t)⟩,Wo ⟨qZ ⟨rq,rq,rq,rq,rq,rq,rq,rq,rq,rq,rq,rq,⟨qW,rfl⟩,⟨qW,rfl⟩,qQ⟩,qZ (λ_ _=>rfl),qK,qZ (λt ht=>absurd ht (Nat.not_lt_zero t)),qQ⟩ ⟨pP,pP,rfl,rfl,pP,pP,rfl,qQ⟩ trivial⟩,λm hm=>?_⟩
     obtain⟨hm1,hmt⟩:m<=(cm (ap lo hi k (pn d) (λi=>ab (pg d i))) (ab (pg d i)) (bN (ap lo hi k (pn d) (λi=>ab (pg d i))) (pn d) (λi=>ab (pg d i)) i) j).length/\∀t,t < m->cu (ae (cm (ap lo hi k (pn d) (λi=>ab (pg d i))) (ab (pg d i)) (bN (ap lo hi k (pn d) (λi=>ab (pg d i))) (pn d) (λi=>ab (pg d i)) i) j) t) (ab (pg d i) j) < 0:=hm;have bm:0<=(m:Int)/\(m:Int) < (cm (ap lo hi k (pn d) (λi=>ab (pg d i))) (ab (pg d i)) (bN (ap lo hi k (pn d) (λi=>ab (pg d i))) (pn d) (λi=>ab (pg d i)) i) j).length->m < (cm (ap lo hi k (pn d) (λi=>ab (pg d i))) (ab (pg d i)) (bN (ap lo hi k (pn d) (λi=>ab (pg d i))) (pn d) (λi=>ab (pg d i)) i) j).length:=λh=>Int.ofNat_lt.1 h.2;have lm:decide ((m:Int) < (cm (ap lo hi k (pn d) (λi=>ab (pg d i))) (ab (pg d i)) (bN (ap lo hi k (pn d) (λi=>ab (pg d i))) (pn d) (λi=>ab (pg d i)) i) j).length)=true->m < (cm (ap lo hi k (pn d) (λi=>ab (pg d i))) (ab (pg d i)) (bN (ap lo hi k (pn d) (λi=>ab (pg d i))) (pn d) (λi=>ab (pg d i)) i) j).length:=λh=>Int.ofNat_lt.1 (of_decide_eq_true h);have ln:decide ((m:Int) < (cm (ap lo hi k (pn d) (λi=>ab (pg d i))) (ab (pg d i)) (bN (ap lo hi k (pn d) (λi=>ab (pg d i))) (pn d) (λi=>ab (pg d i)) i) j).length) = !true->m=(cm (ap lo hi k (pn d) (λi=>ab (pg d i))) (ab (pg d i)) (bN (ap lo hi k (pn d) (λi=>ab (pg d i))) (pn d) (λi=>ab (pg d i)) i) j).length:=λh=>by
      have:=of_decide_eq_false h;omega
     have bml:decide ((m:Int) < (cm (ap lo hi k (pn d) (λi=>ab (pg d i))) (ab (pg d i)) (bN (ap lo hi k (pn d) (λi=>ab (pg d i))) (pn d) (λi=>ab (pg d i)) i) j).length)=true->0<=(m:Int)/\(m:Int) < (cm (ap lo hi k (pn d) (λi=>ab (pg d i))) (ab (pg d i)) (bN (ap lo hi k (pn d) (λi=>ab (pg d i))) (pn d) (λi=>ab (pg d i)) i) j).length:=λh=>⟨Int.natCast_nonneg m,of_decide_eq_true h⟩;have pkm:decide ((m:Int) < (cm (ap lo hi k (pn d) (λi=>ab (pg d i))) (ab (pg d i)) (bN (ap lo hi k (pn d) (λi=>ab (pg d i))) (pn d) (λi=>ab (pg d i)) i) j).length)=true->isPk 1073741824 (ae (cm (ap lo hi k (pn d) (λi=>ab (pg d i))) (ab (pg d i)) (bN (ap lo hi k (pn d) (λi=>ab (pg d i))) (pn d) (λi=>ab (pg d i)) i) j) (0+(m:Int).toNat)).v/\isPk 1073741824 (ab (pg d i) j).v:=λh=>⟨⟨_,rfl,(gb hLp (by rw [Nat.zero_add];exact lm h)).mono (by decide)⟩,_,rfl,(hp i hik j hjn).mono (by decide)⟩;have hM:decide ((m:Int) < (cm (ap lo hi k (pn d) (λi=>ab (pg d i))) (ab (pg d i)) (bN (ap lo hi k (pn d) (λi=>ab (pg d i))) (pn d) (λi=>ab (pg d i)) i) j).length)=true->decide (cu (ae (cm (ap lo hi k (pn d) (λi=>ab (pg d i))) (ab (pg d i)) (bN (ap lo hi k (pn d) (λi=>ab (pg d i))) (pn d) (λi=>ab (pg d i)) i) j) (0+(m:Int).toNat)) (ab (pg d i) j) < 0)=true->(m+1<=(cm (ap lo hi k (pn d) (λi=>ab (pg d i))) (ab (pg d i)) (bN (ap lo hi k (pn d) (λi=>ab (pg d i))) (pn d) (λi=>ab (pg d i)) i) j).length/\∀t,t < m+1->cu (ae (cm (ap lo hi k (pn d) (λi=>ab (pg d i))) (ab (pg d i)) (bN (ap lo hi k (pn d) (λi=>ab (pg d i))) (pn d) (λi=>ab (pg d i)) i) j) t) (ab (pg d i) j) < 0):=λh h2=>⟨lm h,λt ht=>by
      rw [Nat.zero_add] at h2;by_cases e:t=m
      ·rw [e];exact of_decide_eq_true h2
      ·exact hmt t (by omega)⟩
     have hμ3:decide ((m:Int) < (cm (ap lo hi k (pn d) (λi=>ab (pg d i))) (ab (pg d i)) (bN (ap lo hi k (pn d) (λi=>ab (pg d i))) (pn d) (λi=>ab (pg d i)) i) j).length)=true->(cm (ap lo hi k (pn d) (λi=>ab (pg d i))) (ab (pg d i)) (bN (ap lo hi k (pn d) (λi=>ab (pg d i))) (pn d) (λi=>ab (pg d i)) i) j).length - (m+1) < (cm (ap lo hi k (pn d) (λi=>ab (pg d i))) (ab (pg d i)) (bN (ap lo hi k (pn d) (λi=>ab (pg d i))) (pn d) (λi=>ab (pg d i)) i) j).length - m:=λh=>by
      have:=lm h;omega
     have a1:(m+1)*80<=140737488355328:=by omega
     have a2:m+1<=9223372036854775807:=by omega
     have a3:(m+1+(((cm (ap lo hi k (pn d) (λi=>ab (pg d i))) (ab (pg d i)) (bN (ap lo hi k (pn d) (λi=>ab (pg d i))) (pn d) (λi=>ab (pg d i)) i) j).length:Int) - m).toNat)*80<=140737488355328:=by omega
     have a4:m+1+(((cm (ap lo hi k (pn d) (λi=>ab (pg d i))) (ab (pg d i)) (bN (ap lo hi k (pn d) (λi=>ab (pg d i))) (pn d) (λi=>ab (pg d i)) i) j).length:Int) - m).toNat<=9223372036854775807:=by omega
     have bm2:0<=(m:Int)/\(m:Int)<=(cm (ap lo hi k (pn d) (λi=>ab (pg d i))) (ab (pg d i)) (bN (ap lo hi k (pn d) (λi=>ab (pg d i))) (pn d) (λi=>ab (pg d i)) i) j).length/\((cm (ap lo hi k (pn d) (λi=>ab (pg d i))) (ab (pg d i)) (bN (ap lo hi k (pn d) (λi=>ab (pg d i))) (pn d) (λi=>ab (pg d i)) i) j).length:Int)<=(cm (ap lo hi k (pn d) (λi=>ab (pg d i))) (ab (pg d i)) (bN (ap lo hi k (pn d) (λi=>ab (pg d i))) (pn d) (λi=>ab (pg d i)) i) j).length:=⟨Int.natCast_nonneg m,by omega,Int.le_refl _⟩;have hrow:∀r:Nat->List PV,r 0=(ae (cm (ap lo hi k (pn d) (λi=>ab (pg d i))) (ab (pg d i)) (bN (ap lo hi k (pn d) (λi=>ab (pg d i))) (pn d) (λi=>ab (pg d i)) i) j) (0+(m:Int).toNat)).cells->∀t,t < m+1->(ae (cm (ap lo hi k (pn d) (λi=>ab (pg d i))) (ab (pg d i)) (bN (ap lo hi k (pn d) (λi=>ab (pg d i))) (pn d) (λi=>ab (pg d i)) i) j) t).cells=gH m (λt=>(ae (cm (ap lo hi k (pn d) (λi=>ab (pg d i))) (ab (pg d i)) (bN (ap lo hi k (pn d) (λi=>ab (pg d i))) (pn d) (λi=>ab (pg d i)) i) j) t).cells) r t:=λr hr t ht=>vg (V:=λt=>(ae (cm (ap lo hi k (pn d) (λi=>ab (pg d i))) (ab (pg d i)) (bN (ap lo hi k (pn d) (λi=>ab (pg d i))) (pn d) (λi=>ab (pg d i)) i) j) t).cells) (by rw [hr,Nat.zero_add];rfl) t ht;have wm:PV.val (.int .i64 (IntKind.i64.wrap ((m:Int)+1)))=PV.val (goInt ((m+1:Nat):Int)):=by
      rw [wrap64 (by omega) (by omega)];rfl
     have hE:(m=(cm (ap lo hi k (pn d) (λi=>ab (pg d i))) (ab (pg d i)) (bN (ap lo hi k (pn d) (λi=>ab (pg d i))) (pn d) (λi=>ab (pg d i)) i) j).length\/¬cu (ae (cm (ap lo hi k (pn d) (λi=>ab (pg d i))) (ab (pg d i)) (bN (ap lo hi k (pn d) (λi=>ab (pg d i))) (pn d) (λi=>ab (pg d i)) i) j) m) (ab (pg d i) j) < 0)->(decide (m < (cm (ap lo hi k (pn d) (λi=>ab (pg d i))) (ab (pg d i)) (bN (ap lo hi k (pn d) (λi=>ab (pg d i))) (pn d) (λi=>ab (pg d i)) i) j).length)&&aX (ae (cm (ap lo hi k (pn d) (λi=>ab (pg d i))) (ab (pg d i)) (bN (ap lo hi k (pn d) (λi=>ab (pg d i))) (pn d) (λi=>ab (pg d i)) i) j) m) (ab (pg d i) j))=true->((cm (ap lo hi k (pn d) (λi=>ab (pg d i))) (ab (pg d i)) (bN (ap lo hi k (pn d) (λi=>ab (pg d i))) (pn d) (λi=>ab (pg d i)) i) (j+1)).length=(cm (ap lo hi k (pn d) (λi=>ab (pg d i))) (ab (pg d i)) (bN (ap lo hi k (pn d) (λi=>ab (pg d i))) (pn d) (λi=>ab (pg d i)) i) j).length/\∀t,t < (cm (ap lo hi k (pn d) (λi=>ab (pg d i))) (ab (pg d i)) (bN (ap lo hi k (pn d) (λi=>ab (pg d i))) (pn d) (λi=>ab (pg d i)) i) j).length->(ae (cm (ap lo hi k (pn d) (λi=>ab (pg d i))) (ab (pg d i)) (bN (ap lo hi k (pn d) (λi=>ab (pg d i))) (pn d) (λi=>ab (pg d i)) i) (j+1)) t).cells=(ae (cm (ap lo hi k (pn d) (λi=>ab (pg d i))) (ab (pg d i)) (bN (ap lo hi k (pn d) (λi=>ab (pg d i))) (pn d) (λi=>ab (pg d i)) i) j) t).cells):=λh6 h7=>by
      rw [eL,xl (za hmt hm1 h6) h7];exact⟨rfl,λt _=>rfl⟩
     have hI:(m=(cm (ap lo hi k (pn d) (λi=>ab (pg d i))) (ab (pg d i)) (bN (ap lo hi k (pn d) (λi=>ab (pg d i))) (pn d) (λi=>ab (pg d i)) i) j).length\/¬cu (ae (cm (ap lo hi k (pn d) (λi=>ab (pg d i))) (ab (pg d i)) (bN (ap lo hi k (pn d) (λi=>ab (pg d i))) (pn d) (λi=>ab (pg d i)) i) j) m) (ab (pg d i) j) < 0)->(decide (m < (cm (ap lo hi k (pn d) (λi=>ab (pg d i))) (ab (pg d i)) (bN (ap lo hi k (pn d) (λi=>ab (pg d i))) (pn d) (λi=>ab (pg d i)) i) j).length)&&aX (ae (cm (ap lo hi k (pn d) (λi=>ab (pg d i))) (ab (pg d i)) (bN (ap lo hi k (pn d) (λi=>ab (pg d i))) (pn d) (λi=>ab (pg d i)) i) j) m) (ab (pg d i) j))=false->((cm (ap lo hi k (pn d) (λi=>ab (pg d i))) (ab (pg d i)) (bN (ap lo hi k (pn d) (λi=>ab (pg d i))) (pn d) (λi=>ab (pg d i)) i) (j+1)).length=m+1+(((cm (ap lo hi k (pn d) (λi=>ab (pg d i))) (ab (pg d i)) (bN (ap lo hi k (pn d) (λi=>ab (pg d i))) (pn d) (λi=>ab (pg d i)) i) j).length:Int) - m).toNat/\∀r:Nat->List PV,r 0=(ab (pg d i) j).cells->∀t,t < m+1+(((cm (ap lo hi k (pn d) (λi=>ab (pg d i))) (ab (pg d i)) (bN (ap lo hi k (pn d) (λi=>ab (pg d i))) (pn d) (λi=>ab (pg d i)) i) j).length:Int) - m).toNat->(ae (cm (ap lo hi k (pn d) (λi=>ab (pg d i))) (ab (pg d i)) (bN (ap lo hi k (pn d) (λi=>ab (pg d i))) (pn d) (λi=>ab (pg d i)) i) (j+1)) t).cells=gH (m+1) (gH m (λt=>(ae (cm (ap lo hi k (pn d) (λi=>ab (pg d i))) (ab (pg d i)) (bN (ap lo hi k (pn d) (λi=>ab (pg d i))) (pn d) (λi=>ab (pg d i)) i) j) t).cells) r) (λs=>(ae (cm (ap lo hi k (pn d) (λi=>ab (pg d i))) (ab (pg d i)) (bN (ap lo hi k (pn d) (λi=>ab (pg d i))) (pn d) (λi=>ab (pg d i)) i) j) (0+(m:Int).toNat+s)).cells) t):=λh6 h7=>by
      rw [eL];exact zg (za hmt hm1 h6) hm1 h7
     have hx:decide (cu (ae (cm (ap lo hi k (pn d) (λi=>ab (pg d i))) (ab (pg d i)) (bN (ap lo hi k (pn d) (λi=>ab (pg d i))) (pn d) (λi=>ab (pg d i)) i) j) (0+(m:Int).toNat)) (ab (pg d i) j) < 0)=false->(m=(cm (ap lo hi k (pn d) (λi=>ab (pg d i))) (ab (pg d i)) (bN (ap lo hi k (pn d) (λi=>ab (pg d i))) (pn d) (λi=>ab (pg d i)) i) j).length\/¬cu (ae (cm (ap lo hi k (pn d) (λi=>ab (pg d i))) (ab (pg d i)) (bN (ap lo hi k (pn d) (λi=>ab (pg d i))) (pn d) (λi=>ab (pg d i)) i) j) m) (ab (pg d i) j) < 0):=λh=>by
      rw [Nat.zero_add] at h;exact .inr (of_decide_eq_false h)
     have q1:decide ((m:Int) < (cm (ap lo hi k (pn d) (λi=>ab (pg d i))) (ab (pg d i)) (bN (ap lo hi k (pn d) (λi=>ab (pg d i))) (pn d) (λi=>ab (pg d i)) i) j).length)=true->aX (ae (cm (ap lo hi k (pn d) (λi=>ab (pg d i))) (ab (pg d i)) (bN (ap lo hi k (pn d) (λi=>ab (pg d i))) (pn d) (λi=>ab (pg d i)) i) j) (0+(m:Int).toNat)) (ab (pg d i) j)=true->(decide (m < (cm (ap lo hi k (pn d) (λi=>ab (pg d i))) (ab (pg d i)) (bN (ap lo hi k (pn d) (λi=>ab (pg d i))) (pn d) (λi=>ab (pg d i)) i) j).length)&&aX (ae (cm (ap lo hi k (pn d) (λi=>ab (pg d i))) (ab (pg d i)) (bN (ap lo hi k (pn d) (λi=>ab (pg d i))) (pn d) (λi=>ab (pg d i)) i) j) m) (ab (pg d i) j))=true:=λh h2=>by
      rw [Nat.zero_add] at h2;rw [decide_eq_true (lm h),Bool.true_and];exact h2
     have q0:decide ((m:Int) < (cm (ap lo hi k (pn d) (λi=>ab (pg d i))) (ab (pg d i)) (bN (ap lo hi k (pn d) (λi=>ab (pg d i))) (pn d) (λi=>ab (pg d i)) i) j).length)=true->aX (ae (cm (ap lo hi k (pn d) (λi=>ab (pg d i))) (ab (pg d i)) (bN (ap lo hi k (pn d) (λi=>ab (pg d i))) (pn d) (λi=>ab (pg d i)) i) j) (0+(m:Int).toNat)) (ab (pg d i) j)=false->(decide (m < (cm (ap lo hi k (pn d) (λi=>ab (pg d i))) (ab (pg d i)) (bN (ap lo hi k (pn d) (λi=>ab (pg d i))) (pn d) (λi=>ab (pg d i)) i) j).length)&&aX (ae (cm (ap lo hi k (pn d) (λi=>ab (pg d i))) (ab (pg d i)) (bN (ap lo hi k (pn d) (λi=>ab (pg d i))) (pn d) (λi=>ab (pg d i)) i) j) m) (ab (pg d i) j))=false:=λh h2=>by
      rw [Nat.zero_add] at h2;rw [decide_eq_true (lm h),Bool.true_and];exact h2
     have q2:decide ((m:Int) < (cm (ap lo hi k (pn d) (λi=>ab (pg d i))) (ab (pg d i)) (bN (ap lo hi k (pn d) (λi=>ab (pg d i))) (pn d) (λi=>ab (pg d i)) i) j).length) = !true->(decide (m < (cm (ap lo hi k (pn d) (λi=>ab (pg d i))) (ab (pg d i)) (bN (ap lo hi k (pn d) (λi=>ab (pg d i))) (pn d) (λi=>ab (pg d i)) i) j).length)&&aX (ae (cm (ap lo hi k (pn d) (λi=>ab (pg d i))) (ab (pg d i)) (bN (ap lo hi k (pn d) (λi=>ab (pg d i))) (pn d) (λi=>ab (pg d i)) i) j) m) (ab (pg d i) j))=false:=λh=>by
      have:=ln h;rw [decide_eq_false (by omega),Bool.false_and]
     have c5:decide ((m:Int) < (cm (ap lo hi k (pn d) (λi=>ab (pg d i))) (ab (pg d i)) (bN (ap lo hi k (pn d) (λi=>ab (pg d i))) (pn d) (λi=>ab (pg d i)) i) j).length)=true->decide ((m:Int) < (cm (ap lo hi k (pn d) (λi=>ab (pg d i))) (ab (pg d i)) (bN (ap lo hi k (pn d) (λi=>ab (pg d i))) (pn d) (λi=>ab (pg d i)) i) j).length) = !true->False:=λh h2=>by
      rw [h] at h2;cases h2
     with_unfolding_all refine⟨λh3=>⟨bml h3,pkm h3,λh4=>⟨bml h3,⟨⟨rfl,a1,a2⟩,?_⟩⟩,λh4=>⟨λh5=>⟨bml h5,λe1=>?_,λe0=>⟨⟨rfl,a1,a2⟩,bm2,⟨rfl,a3,a4⟩,?_⟩⟩,λh5=>(c5 h3 h5).elim⟩⟩,λh3=>⟨λh=>(nomatch h),λ_=>⟨λh5=>(c5 h5 h3).elim,λh5=>⟨λh=>(nomatch h),λ_=>⟨⟨rfl,a1,a2⟩,bm2,⟨rfl,a3,a4⟩,?_⟩⟩⟩⟩⟩
     ·with_unfolding_all exact⟨m+1,[some 0,some 1,some 2,some 3],hM h3 h4,hμ3 h3,Wo ⟨qZ ⟨rq,rq,rq,rq,rq,rq,rq,rq,rq,rq,rq,rq,⟨qW,rfl⟩,⟨qW,rfl⟩,qQ⟩,qZ (λ_ _=>rfl),qK,qZ (hrow _ rfl),qQ⟩ ⟨pP,pP,rfl,rfl,pP,pP,wm,qQ⟩ trivial⟩
     ·with_unfolding_all exact⟨j+1,[some 0,some 1],hj1,hμ,Wo ⟨qZ ⟨rq,rq,rq,rq,rq,rq,rq,rq,rq,rq,rq,rq,⟨qW,rfl⟩,⟨qW,rfl⟩,qQ⟩,⟨aP rfl,rfl,rfl,rfl,rfl,(hE (hx h4) (q1 h5 e1)).1,(hE (hx h4) (q1 h5 e1)).2⟩,qQ⟩ ⟨pP,⟨rfl,rfl,(hE (hx h4) (q1 h5 e1)).1.symm,aP rfl,_,rfl⟩,rfl,w5,qQ⟩ trivial⟩
     ·with_unfolding_all exact⟨j+1,[some 0,some 3],hj1,hμ,Wo ⟨qZ ⟨rq,rq,rq,rq,rq,rq,rq,rq,rq,rq,rq,rq,⟨qW,rfl⟩,⟨qW,rfl⟩,qQ⟩,⟨aP rfl,rfl,rfl,rfl,rfl,(hI (hx h4) (q0 h5 e0)).1,(hI (hx h4) (q0 h5 e0)).2 _ rfl⟩,qQ⟩ ⟨pP,⟨rfl,rfl,(hI (hx h4) (q0 h5 e0)).1.symm,aP rfl,_,rfl⟩,rfl,w5,qQ⟩ trivial⟩
     ·with_unfolding_all exact⟨j+1,[some 0,some 3],hj1,hμ,Wo ⟨qZ ⟨rq,rq,rq,rq,rq,rq,rq,rq,rq,rq,rq,rq,⟨qW,rfl⟩,⟨qW,rfl⟩,qQ⟩,⟨aP rfl,rfl,rfl,rfl,rfl,(hI (.inl (ln h3)) (q2 h5)).1,(hI (.inl (ln h3)) (q2 h5)).2 _ rfl⟩,qQ⟩ ⟨pP,⟨rfl,rfl,(hI (.inl (ln h3)) (q2 h5)).1.symm,aP rfl,_,rfl⟩,rfl,w5,qQ⟩ trivial⟩
   ·have hjn:j=pn d i:=by
     have:=of_decide_eq_false h1;rw [show pn (lr d) (i:Int).toNat=pn d i by rw [Int.toNat_natCast];rfl] at this;omega
    have hE:(bN (ap lo hi k (pn d) (λi=>ab (pg d i))) (pn d) (λi=>ab (pg d i)) (i+1)).length=(cm (ap lo hi k (pn d) (λi=>ab (pg d i))) (ab (pg d i)) (bN (ap lo hi k (pn d) (λi=>ab (pg d i))) (pn d) (λi=>ab (pg d i)) i) j).length/\∀t,t < (cm (ap lo hi k (pn d) (λi=>ab (pg d i))) (ab (pg d i)) (bN (ap lo hi k (pn d) (λi=>ab (pg d i))) (pn d) (λi=>ab (pg d i)) i) j).length->(ae (bN (ap lo hi k (pn d) (λi=>ab (pg d i))) (pn d) (λi=>ab (pg d i)) (i+1)) t).cells=(ae (cm (ap lo hi k (pn d) (λi=>ab (pg d i))) (ab (pg d i)) (bN (ap lo hi k (pn d) (λi=>ab (pg d i))) (pn d) (λi=>ab (pg d i)) i) j) t).cells:=by
     rw [hjn,bN];exact⟨rfl,λt _=>rfl⟩
    have hμi:k - (i+1) < k - i:=by omega
    have w4:PV.val (.int .i64 (IntKind.i64.wrap ((i:Int)+1)))=PV.val (goInt ((i+1:Nat):Int)):=by
     rw [wrap64 (by omega) (by omega)];rfl
    with_unfolding_all exact⟨i+1,[some 0,some 1],hik,hμi,Wo ⟨qZ ⟨rq,rq,rq,rq,rq,rq,rq,rq,rq,rq,rq,rq,⟨qW,rfl⟩,⟨qW,rfl⟩,qQ⟩,⟨aP rfl,rfl,rfl,rfl,rfl,hE.1,hE.2⟩,qQ⟩ ⟨pP,⟨rfl,rfl,hE.1.symm,aP rfl,_,rfl⟩,w4,qQ⟩ trivial⟩
  ·have hik:i=k:=by
    have:¬(i:Int) < k:=of_decide_eq_false h1;omega
   have hE:(bN (ap lo hi k (pn d) (λi=>ab (pg d i))) (pn d) (λi=>ab (pg d i)) k).length=(bN (ap lo hi k (pn d) (λi=>ab (pg d i))) (pn d) (λi=>ab (pg d i)) i).length/\∀t,t < (bN (ap lo hi k (pn d) (λi=>ab (pg d i))) (pn d) (λi=>ab (pg d i)) k).length->(ae (bN (ap lo hi k (pn d) (λi=>ab (pg d i))) (pn d) (λi=>ab (pg d i)) k) t).cells=(ae (bN (ap lo hi k (pn d) (λi=>ab (pg d i))) (pn d) (λi=>ab (pg d i)) i) (0+t)).cells:=by
    rw [hik];exact⟨rfl,λt _=>by rw [Nat.zero_add]⟩
   with_unfolding_all exact⟨[],aa [(2,.rs 6 (bN (ap lo hi k (pn d) (λi=>ab (pg d i))) (pn d) (λi=>ab (pg d i)) k).length (λt=>(ae (bN (ap lo hi k (pn d) (λi=>ab (pg d i))) (pn d) (λi=>ab (pg d i)) k) t).cells))] [] 0 [],Wo trivial ⟨⟨by simp,_,rfl,rfl,rfl,hE.1.symm,hE.2⟩,qQ⟩ trivial,rfl,rfl⟩
 ·cases e
theorem A6 {ok:Nat->Prop} {w:World} {lo hi:PtS} {k:Nat} {c:Nat->List PV} {l:Nat} {o:Nat->List PV} {v:Value} (h:R0 ok w (.agg (br lo hi k c l o)) v) (e:∀i,i < k->∀t,t < pn c i->(ab (pg c i) t).cells=pg c i t):R0 ok w (.agg (br lo hi k (lr c) l o)) v:=by
 cases h with
 |agg _ vs hl hR =>
  refine .agg _ vs hl λi p u hp hu=>?_;by_cases hi:i=12
  ·subst hi;have h2:=hR 12 _ u rfl hu;cases hp;exact R0.rows h2 e
  ·refine hR i p u ?_ hu;rw [<-hp]
   match i,hi with
   |0,_|1,_|2,_|3,_|4,_|5,_|6,_|7,_|8,_|9,_|10,_|11,_|13,_=>rfl
   |12,h=>exact absurd rfl h
   |i+14,_=>rfl
def I8:List PV->Option Ans
 |[.agg xs]=>some ⟨some (isRg 10000 xs/\gK xs<=32/\∀i,i < gK xs->pn (gC xs) i<=64),.rs 6 (bN (ap (bV xs) (bW xs) (gK xs) (pn (gC xs)) (λi=>ab (pg (gC xs) i))) (pn (gC xs)) (λi=>ab (pg (gC xs) i)) (gK xs)).length (λt=>(ae (bN (ap (bV xs) (bW xs) (gK xs) (pn (gC xs)) (λi=>ab (pg (gC xs) i))) (pn (gC xs)) (λi=>ab (pg (gC xs) i)) (gK xs)) t).cells),[]⟩
 |_=>none
theorem f61:FnOk Tryz.prog 61 I8:=λargs r e=>by
 unfold I8 at e;split at e
 ·rename_i xs
  cases e;have h:=I7 [.agg (br (bV xs) (bW xs) (gK xs) (lr (gC xs)) (gL xs) (gO xs))] _ rfl;refine⟨λvs w=>h.1 vs w,λhm A w vs hA hl hR=>?_⟩;obtain⟨⟨h1,hb,hcl,hol⟩,hn⟩:=hm _ rfl;refine h.2 (λq hq=>?_) A w vs hA hl λi p v hp hv=>?_
  ·cases hq;exact⟨⟨rfl,hb,⟨λi hi=>⟨rfl,λt ht=>⟨rfl,((hcl.1 i hi).2.1 t ht).2⟩,(hcl.1 i hi).2.2⟩,hcl.2⟩,λi hi=>rfl,hol.2⟩,hn,rfl⟩
  ·match i with
   |0 =>
    cases hp;have h2:=hR 0 _ v rfl hv;rw [h1] at h2;exact A6 h2 λi hi t ht=>((hcl.1 i hi).2.1 t ht).1.symm
   |i+1=>cases hp
 ·cases e
end Go.Proofs
namespace Go.Num
def vF (lo hi:PtS) (k:Nat) (c:Nat->List PV) (l:Nat) (o:Nat->List PV):Bool:=ff lo hi k (pn c) (λi=>bH (pn c i) (ab (pg c i))) l (ow o)==0
def DI (lo hi:PtS) (k:Nat) (c:Nat->List PV) (l:Nat) (o:Nat->List PV):List PtS:=bif vF lo hi k c l o then bN (ap lo hi k (pn c) (λi=>ab (pg c i))) (pn c) (λi=>ab (pg c i)) k else []
end Go.Num
namespace Go.Proofs
def I9:List PV->Option Ans
 |[.rs 6 n g,.rs 6 m h]=>some ⟨some (isPL 10000 n g/\isPL 10000 m h),.val (.bool (decide (n=m)&&!aA (λi=>!aX (ab g i) (ab h i)) n)),[]⟩
 |_=>none
theorem Ja:am {} Tryz.f25 2=true:=by kernel_rfl
theorem f25:FnOk Tryz.prog 25 I9:=by
 refine FnOk.ofW aj (an (l:=[]) (own:=[]) (inl:=[]) (by simp) (by simp)) Tryz.func25 {} 2 Ja λargs r e=>?_;unfold I9 at e;split at e
 ·rename_i n g m h
  cases e;refine⟨by simp,λhm=>?_⟩;obtain⟨⟨hp,hn⟩,hq,hmm⟩:=hm _ rfl;refine⟨[],aa [(0,.rs 6 n (λi=>(ab g i).cells)),(1,.rs 6 m (λi=>(ab h i).cells))] [] 0 [],Wo trivial ⟨⟨rfl,rfl,λi hi=>(hp i hi).1.symm⟩,⟨rfl,rfl,λi hi=>(hq i hi).1.symm⟩,qQ⟩ trivial,?_⟩;generalize ab g=p at *
  generalize ab h=q at *
  obtain⟨X,hX⟩:∃X,X=(decide (n=m)&&!aA (λi=>!aX (p i) (q i)) n):=⟨_,rfl⟩;rw [<-hX];have v0:(!((n:Int)==(m:Int)))=true->PV.val (.bool false)=PV.val (.bool X):=λh=>by
   have h1:¬n=m:=λe=>by rw [e,beq_self_eq_true] at h;cases h
   rw [hX,decide_eq_false h1];rfl
  have v1:(!((n:Int)==(m:Int)))=false->n=m:=λh=>by
   have h6:((n:Int)==(m:Int))=true:=by simpa using h
   have:=eq_of_beq h6;omega
  with_unfolding_all refine⟨λh1=>⟨[],aa [(4,.val (.bool X))] [] 0 [],Wo trivial ⟨v0 h1,qQ⟩ trivial,rfl,rfl⟩,λh1=>⟨Nat,λi=>i<=n/\∀j,j < i->aX (p j) (q j)=true,λi=>aa [(0,.rs 6 n (λi=>(p i).cells)),(1,.rs 6 m (λi=>(q i).cells)),(12,.val (goInt n)),(13,.val (goInt i))] [] 0 [],λi=>n - i,⟨0,[],⟨Nat.zero_le _,λj hj=>absurd hj (Nat.not_lt_zero j)⟩,Wo trivial ⟨qW,qW,rfl,rfl,qQ⟩ trivial⟩,λi hi=>?_⟩⟩
  have hnm:=v1 h1;obtain⟨hin,hI⟩:i<=n/\∀j,j < i->aX (p j) (q j)=true:=hi;with_unfolding_all refine⟨λh2=>?_,λh2=>⟨[],aa [(4,.val (.bool X))] [] 0 [],Wo trivial ⟨?_,qQ⟩ trivial,rfl,rfl⟩⟩
  ·have h2:(i:Int) < n:=bL h2;have e:(i:Int).toNat=i:=Int.toNat_natCast i;with_unfolding_all refine⟨⟨by omega,by omega⟩,⟨by omega,by omega⟩,λh3=>⟨[],aa [(4,.val (.bool X))] [] 0 [],Wo trivial ⟨?_,qQ⟩ trivial,rfl,rfl⟩,λh3=>⟨i+1,[],⟨by omega,?_⟩,by show n - (i+1) < n - i;omega,Wo trivial ⟨qW,qW,rfl,?_,qQ⟩ trivial⟩⟩
   ·have h3:(!aX (p (i:Int).toNat) (q (i:Int).toNat))=true:=h3;rw [e] at h3;show PV.val (.bool false)=PV.val (.bool X);rw [hX,bc.2 ⟨i,by omega,h3⟩,Bool.not_true,Bool.and_false]
   ·have h3:(!aX (p (i:Int).toNat) (q (i:Int).toNat))=false:=h3;rw [e] at h3;intro j hj;rcases Nat.lt_or_ge j i with h|h
    ·exact hI j h
    ·obtain rfl:j=i:=by omega
     simpa using h3
   ·show PV.val (.int .i64 (IntKind.i64.wrap ((i:Int)+1)))=PV.val (.int .i64 ((i+1:Nat):Int));rw [wrap64 (by omega) (by omega)];rfl
  ·have h2:(n:Int)<=i:=dI h2;show PV.val (.bool true)=PV.val (.bool X);rw [hX,decide_eq_true hnm,aF.2 λj hj=>by rw [hI j (by omega)];rfl];rfl
 ·cases e
def Jl:List PV->Option Ans
 |[.agg xs]=>some ⟨some (isRg 10000 xs),.tup [.rs 6 (DI (bV xs) (bW xs) (gK xs) (gC xs) (gL xs) (gO xs)).length (λi=>(ae (DI (bV xs) (bW xs) (gK xs) (gC xs) (gL xs) (gO xs)) i).cells),.val (.int .i64 (bY (vF (bV xs) (bW xs) (gK xs) (gC xs) (gL xs) (gO xs))))],[]⟩
 |_=>none
def D24:Opt:={  }
theorem Jb:am D24.toOrd Tryz.f24 1=true:=by kernel_rfl
theorem f24:FnOk Tryz.prog 24 Jl:=by
 refine FnOk.ofW aj (an (l:=[(58,Gn),(61,I8)]) (own:=[]) (inl:=[]) (by simp [f58,f61]) (by simp)) Tryz.func24 D24 1 Jb λargs r e=>?_;unfold Jl at e;split at e
 ·rename_i xs
  cases e;refine⟨by simp,λhm=>?_⟩;obtain⟨h1,⟨hlo,hhi⟩,hcl,hol⟩:=hm _ rfl;generalize bV xs=lo at *
  generalize bW xs=hi at *
  generalize gK xs=k at *
  generalize gC xs=c at *
  generalize gL xs=l at *
  generalize gO xs=o at *
  subst h1;clear hm;have hcl':bU 10000 k (λi=>[.rs 6 (pn c i) (pg c i)]):=⟨λi hi=>⟨rfl,(hcl.1 i hi).2⟩,hcl.2⟩;have hX:isRg 10000 (br lo hi k c l o):=⟨rfl,⟨hlo,hhi⟩,hcl',λ_ _=>rfl,hol.2⟩;refine⟨[],aa [(0,.agg (br lo hi k c l o))] [] 0 [],Wo trivial ⟨⟨rfl,rfl,rfl,rfl,rfl,rfl,rfl,rfl,rfl,rfl,rfl,rfl,qW,qW,qQ⟩,qQ⟩ trivial,?_⟩;show zC _ _ _ _ _ ⟨_,.tup [.rs 6 (DI lo hi k c l o).length (λi=>(ae (DI lo hi k c l o) i).cells),.val (.int .i64 (bY (vF lo hi k c l o)))],[]⟩;obtain⟨K,hK⟩:∃K,K=(vF lo hi k c l o):=⟨_,rfl⟩;obtain⟨R,hR⟩:∃R,R=(DI lo hi k c l o):=⟨_,rfl⟩;have eK:K=((ff lo hi k (pn c) (λi=>bH (pn c i) (ab (pg c i))) l (ow o))==0):=hK;have eR:R=bif K then(bN (ap lo hi k (pn c) (λi=>ab (pg c i))) (pn c) (λi=>ab (pg c i)) k) else []:=by rw [hR,DI,<-hK]
  rw [<-hK,<-hR];have kc:((ff lo hi k (pn c) (λi=>bH (pn c i) (ab (pg c i))) l (ow o)) != 0)=true->K=false:=λh=>by
   have h:((ff lo hi k (pn c) (λi=>bH (pn c i) (ab (pg c i))) l (ow o))==0)=false:=by simpa using h
   rw [eK,h]
  have kg:((ff lo hi k (pn c) (λi=>bH (pn c i) (ab (pg c i))) l (ow o)) != 0)=false->K=true:=λh=>by
   have h:((ff lo hi k (pn c) (λi=>bH (pn c i) (ab (pg c i))) l (ow o))==0)=true:=by simpa using h
   rw [eK,h]
  have fine:((ff lo hi k (pn c) (λi=>bH (pn c i) (ab (pg c i))) l (ow o)) != 0)=false->k<=32/\∀i,i < k->pn c i<=64:=λh=>by
   have h:(ff lo hi k (pn c) (λi=>bH (pn c i) (ab (pg c i))) l (ow o))=0:=by simpa using h
   have hf:=mR h;exact⟨hf.2.1,hf.2.2⟩
  have b0:K=false->R.length=0/\PV.val (.int .i64 1)=PV.val (.int .i64 (bY K)):=λh=>by
   rw [eR,h];exact⟨rfl,rfl⟩
  have b1:K=true->(bN (ap lo hi k (pn c) (λi=>ab (pg c i))) (pn c) (λi=>ab (pg c i)) k).length=R.length/\(∀i,i < R.length->(ae R i).cells=(ae (bN (ap lo hi k (pn c) (λi=>ab (pg c i))) (pn c) (λi=>ab (pg c i)) k) i).cells)/\PV.val (.int .i64 0)=PV.val (.int .i64 (bY K)):=λh=>by
   rw [eR,h];exact⟨rfl,λ_ _=>rfl,rfl⟩
  with_unfolding_all exact⟨hX,λh1=>⟨[],aa [(2,.rs 6 R.length (λi=>(ae R i).cells)),(3,.val (.int .i64 (bY K)))] [] 0 [],Wo trivial ⟨⟨by simp,_,rfl,rfl,rfl,(b0 (kc h1)).1.symm,λi hi=>absurd ((b0 (kc h1)).1▸hi) (Nat.not_lt_zero i)⟩,(b0 (kc h1)).2,qQ⟩ trivial,rfl,rfl⟩,λh1=>⟨⟨hX,fine h1⟩,⟨[],aa [(2,.rs 6 R.length (λi=>(ae R i).cells)),(3,.val (.int .i64 (bY K)))] [] 0 [],Wo trivial ⟨⟨rfl,(b1 (kg h1)).1,(b1 (kg h1)).2.1⟩,(b1 (kg h1)).2.2,qQ⟩ trivial,rfl,rfl⟩⟩⟩
 ·cases e
end Go.Proofs
namespace Go.Num
def zp (A B:Int):Int×Int:=(if B < A then B else A,if B > A then B else A)
theorem Dz (L:List (Int×Int)) (x:Int×Int):aA (λi=>eqQ x (qL L i)) L.length=decide (x∈L):=by
 rw [Bool.eq_iff_iff,bc,decide_eq_true_iff];constructor
 ·rintro ⟨i,hi,h⟩;rw [ve.1 h];exact uh hi
 ·intro h;obtain⟨i,hi,e⟩:=List.getElem_of_mem h;exact⟨i,hi,ve.2 (by rw [qL,List.getElem?_eq_getElem hi,e];rfl)⟩
theorem vG {M:List Int} {i:Nat} (h:i < M.length):zL M i=M[i]:=by
 rw [zL,List.getD_eq_getElem?_getD,List.getElem?_eq_getElem h];rfl
theorem zh (M:List Int) (y:Int):aA (λi=>y==zz (λi=>cZ M i) i) M.length=decide (y∈M):=by
 rw [Bool.eq_iff_iff,bc,decide_eq_true_iff];constructor
 ·rintro ⟨i,hi,h⟩;have h:(y==zL M i)=true:=h;rw [eq_of_beq h,vG hi];exact List.getElem_mem hi
 ·intro h;obtain⟨i,hi,e⟩:=List.getElem_of_mem h;refine⟨i,hi,?_⟩;show(y==zL M i)=true;rw [vG hi,e,beq_self_eq_true]
theorem DA {M:List Int} (h:M.Pairwise λx y=>x<=y):tZ (zz λi=>cZ M i) M.length=true:=by
 unfold tZ;rw [aF.2 λt ht=>?_]
 ·rfl
 ·refine decide_eq_false ?_;show ¬zL M (t+1) < zL M t;rw [vG (by omega),vG (by omega)];have:=(List.pairwise_iff_getElem.1 h) t (t+1) (by omega) (by omega) (by omega);omega
theorem zi {S:PtS->PtS->Bool} {P:Nat->PtS} {n:Nat} {A B:Int} (h:(A,B)∈bh S P n n):A < B:=by
 obtain⟨s,t,h1,_,e,_⟩:=j4.1 h;cases e;omega
theorem pO {S:PtS->PtS->Bool} {P:Nat->PtS} {n:Nat} {A B:Int}:zp A B∈bh S P n n↔(A,B)∈bh S P n n\/(B,A)∈bh S P n n:=by
 unfold zp;rcases Int.lt_trichotomy A B with h|h|h
 ·rw [if_neg (by omega),if_pos (by omega)];exact⟨.inl,λk=>k.resolve_right λk=>by have:=zi k;omega⟩
 ·subst h;rw [if_neg (by omega)];exact⟨.inl,λk=>k.elim id id⟩
 ·rw [if_pos h,if_neg (by omega)];exact⟨.inr,λk=>k.resolve_left λk=>by have:=zi k;omega⟩
theorem A7 {S:PtS->PtS->Bool} {P:Nat->PtS} {n:Nat} (hs:∀s t,s < n->t < n->S (P s) (P t)=S (P t) (P s)) {A B:Nat} (hA:A < n) (hB:B < n):decide (zp A B∈bh S P n n)=(S (P A) (P B)&&((A:Int) != B)):=by
 rw [Bool.eq_iff_iff,decide_eq_true_iff,pO,Bool.and_eq_true,bne_iff_ne];constructor
 ·rintro (h|h)<;>obtain⟨s,t,h1,h2,e,h3⟩:=j4.1 h<;>cases e<;>refine⟨?_,by omega⟩
  ·exact h3
  ·rw [hs _ _ hA hB];exact h3
 ·rintro ⟨h,hne⟩;rcases Nat.lt_or_ge A B with k|k
  ·exact .inl (j4.2 ⟨A,B,k,hB,rfl,h⟩)
  ·exact .inr (j4.2 ⟨B,A,by omega,hA,rfl,by rw [hs _ _ hB hA];exact h⟩)
theorem DB {S:PtS->PtS->Bool} {P:Nat->PtS} {n:Nat} {A B:Int}:decide (B∈xp A (qL (bh S P n n)) (bh S P n n).length)=decide (zp A B∈bh S P n n):=by
 rw [Bool.eq_iff_iff,decide_eq_true_iff,decide_eq_true_iff,pO,vv]
theorem A8 {S:PtS->PtS->Bool} {P:Nat->PtS} {n:Nat} {A B:Int}:decide (A∈xp B (qL (bh S P n n)) (bh S P n n).length)=decide (zp A B∈bh S P n n):=by
 rw [Bool.eq_iff_iff,decide_eq_true_iff,decide_eq_true_iff,pO,vv,or_comm]
structure zj (BP:List PtS) (BL:List (Int×Int)) (S:PtS->PtS->Bool) (A B:Int):Prop where
 e7:pG (bG BP.length (ab λi=>(ae BP i).cells) BL.length (eE λi=>aD (qL BL i))) BP.length A=0
 e8:pG (bG BP.length (ab λi=>(ae BP i).cells) BL.length (eE λi=>aD (qL BL i))) BP.length B=0
 e10:S (ae BP A.toNat) (ae BP B.toNat)=true->(aA (λi=>eqQ (if B < A then B else A,if B > A then B else A) (eE (λi=>aD (qL BL i)) i)) BL.length==(A != B))=true
 e11:S (ae BP A.toNat) (ae BP B.toNat)=false->(aA (λi=>eqQ (if B < A then B else A,if B > A then B else A) (eE (λi=>aD (qL BL i)) i)) BL.length==false)=true
 e12:(aA (λi=>B==zz (λi=>cZ (nc BP.length (ab λi=>(ae BP i).cells) BL.length (eE λi=>aD (qL BL i)) A) i) i) (nc BP.length (ab λi=>(ae BP i).cells) BL.length (eE λi=>aD (qL BL i)) A).length==aA (λi=>eqQ (if B < A then B else A,if B > A then B else A) (eE (λi=>aD (qL BL i)) i)) BL.length)=true
 e13:(aA (λi=>A==zz (λi=>cZ (nc BP.length (ab λi=>(ae BP i).cells) BL.length (eE λi=>aD (qL BL i)) B) i) i) (nc BP.length (ab λi=>(ae BP i).cells) BL.length (eE λi=>aD (qL BL i)) B).length==aA (λi=>eqQ (if B < A then B else A,if B > A then B else A) (eE (λi=>aD (qL BL i)) i)) BL.length)=true
 e14:tZ (zz λi=>cZ (nc BP.length (ab λi=>(ae BP i).cells) BL.length (eE λi=>aD (qL BL i)) A) i) (nc BP.length (ab λi=>(ae BP i).cells) BL.length (eE λi=>aD (qL BL i)) A).length=true
 eA:∀i,i < (nc BP.length (ab λi=>(ae BP i).cells) BL.length (eE λi=>aD (qL BL i)) A).length->True
theorem A9 {BP:List PtS} {BL:List (Int×Int)} {S:PtS->PtS->Bool} {A B:Nat} (hL:BL=bh S (ae BP) BP.length BP.length) (hm:bG BP.length (ae BP) BL.length (qL BL)=true)
  (hs:∀s t,s < BP.length->t < BP.length->S (ae BP s) (ae BP t)=S (ae BP t) (ae BP s)) (hA:A < BP.length) (hB:B < BP.length):zj BP BL S A B:=by
 have iA:jR BP.length (A:Int)=true:=by unfold jR;rw [Bool.and_eq_true];exact⟨decide_eq_true (by omega),decide_eq_true (by omega)⟩
 have iB:jR BP.length (B:Int)=true:=by unfold jR;rw [Bool.and_eq_true];exact⟨decide_eq_true (by omega),decide_eq_true (by omega)⟩
 have eP:(ab λi=>(ae BP i).cells)=ae BP:=rfl;have eL:(eE λi=>aD (qL BL i))=qL BL:=rfl;have see:=A7 hs hA hB;rw [<-hL] at see;have lk:=Dz BL (zp A B);have nA:=DB (S:=S) (P:=ae BP) (n:=BP.length) (A:=A) (B:=B);have nB:=A8 (S:=S) (P:=ae BP) (n:=BP.length) (A:=A) (B:=B);rw [<-hL] at nA nB;constructor
 ·rw [eP,eL,hm,pG,iA];rfl
 ·rw [eP,eL,hm,pG,iB];rfl
 ·intro h;rw [eL];show(aA (λi=>eqQ (zp A B) (qL BL i)) BL.length==((A:Int) != B))=true;have h:S (ae BP A) (ae BP B)=true:=h;rw [lk,see,h,Bool.true_and,beq_self_eq_true]
 ·intro h;rw [eL];show(aA (λi=>eqQ (zp A B) (qL BL i)) BL.length==false)=true;have h:S (ae BP A) (ae BP B)=false:=h;rw [lk,see,h];rfl
 ·rw [eP,eL,pH hm iA,zh];show(_==aA (λi=>eqQ (zp A B) (qL BL i)) BL.length)=true;rw [lk,nA,beq_self_eq_true]
 ·rw [eP,eL,pH hm iB,zh];show(_==aA (λi=>eqQ (zp A B) (qL BL i)) BL.length)=true;rw [lk,nB,beq_self_eq_true]
 ·rw [eP,eL,pH hm iA];exact DA (ui _ _ _)
 ·exactλ_ _=>trivial
def dw (p q:PtS) (C:Nat->PtS):Nat->List PtS
 |0=>[]
 |j+1=>dw p q C j++(bif !aX (C j) p&&!aX (C j) q then [C j] else [])
theorem su (p q:PtS) (C:Nat->PtS):∀j,bJ p q C j=p::q::dw p q C j
 |0=>rfl
 |j+1=>by rw [bJ,dw,su p q C j];rfl
theorem pQ {p q:PtS} {C:Nat->PtS}:∀{j:Nat},(∀t,t < j->(aX (C t) p||aX (C t) q)=false)->(dw p q C j).length=j/\∀t,t < j->ae (dw p q C j) t=C t
 |0,_=>⟨rfl,λt h=>absurd h (Nat.not_lt_zero t)⟩
 |j+1,h=>by
  obtain⟨h1,h2⟩:=pQ (j:=j) λt ht=>h t (by omega);have h3:=h j (by omega);rw [Bool.or_eq_false_iff] at h3;rw [dw,h3.1,h3.2];show(dw p q C j++[C j]).length=j+1/\_;rw [List.length_append,h1];refine⟨rfl,λt ht=>?_⟩;by_cases e:t=j
  ·unfold ae;subst e;show((dw p q C t++[C t])[t]?).getD (cr [])=C t;rw [List.getElem?_append_right (by omega),h1,Nat.sub_self];rfl
  ·have:=h2 t (by omega);unfold ae at this ⊢;show((dw p q C j++[C j])[t]?).getD (cr [])=C t;rw [List.getElem?_append_left (by omega)];exact this
def mW (p q:PtS) (C:Nat->PtS) (j t:Nat):PtS:=if t < (dw p q C j).length then ae (dw p q C j) t else C t
theorem vH {p q:PtS} {C:Nat->PtS} {j:Nat} (h:(aX (C j) p||aX (C j) q)=true):dw p q C (j+1)=dw p q C j:=by
 have h2:(!aX (C j) p&&!aX (C j) q)=false:=by revert h;cases aX (C j) p<;>cases aX (C j) q<;>simp
 rw [dw,h2];exact List.append_nil _
theorem sw {p q:PtS} {C:Nat->PtS} {j:Nat} (h:(aX (C j) p||aX (C j) q)=false):dw p q C (j+1)=dw p q C j++[C j]:=by
 have h2:(!aX (C j) p&&!aX (C j) q)=true:=by revert h;cases aX (C j) p<;>cases aX (C j) q<;>simp
 rw [dw,h2];rfl
theorem Ba {p q:PtS} {C:Nat->PtS} {j:Nat} (h:(aX (C j) p||aX (C j) q)=false) (t:Nat):mW p q C (j+1) t=if t=(dw p q C j).length then C j else mW p q C j t:=by
 unfold mW;rw [sw h,List.length_append];show(if t < (dw p q C j).length+1 then ae (dw p q C j++[C j]) t else C t)=_;by_cases e:t=(dw p q C j).length
 ·rw [if_pos (by omega),if_pos e,e];unfold ae;rw [List.getElem?_append_right (by omega),Nat.sub_self];rfl
 ·rw [if_neg e];by_cases e2:t < (dw p q C j).length
  ·rw [if_pos (by omega),if_pos e2];unfold ae;rw [List.getElem?_append_left e2]
  ·rw [if_neg (by omega),if_neg e2]
end Go.Num
namespace Go.Proofs
def Jc:List PV->Option Ans
 |[.agg [.val (.bool s1),.val (.string b1),.val (.string c1),.val (.bool s2),.val (.string b2),.val (.string c2),.val (.bool s3),.val (.string b3),.val (.string c3),.val (.bool s4),.val (.string b4),.val (.string c4),.rs 1 k c,.rs 3 l o],.val v,.val u,.val (.int .u8 x),.val (.int .u8 y)]=>some ⟨some ((PtS.le 140737488355328 (PtS.mk ⟨s1,b1,c1⟩ ⟨s2,b2,c2⟩)/\PtS.le 140737488355328 (PtS.mk ⟨s3,b3,c3⟩ ⟨s4,b4,c4⟩))/\bU 140737488355328 k c/\cX l o/\isPk 140737488355328 v/\isPk 140737488355328 u/\(0<=x/\x < 256)/\0<=y/\y < 256),.val (.bool true),[]⟩
 |_=>none
def D11:Opt:={ join:=λc=>match c with | .region 9 _ _=>true|_=>false }
theorem Jd:am D11.toOrd Tryz.f11 5=true:=by kernel_rfl
theorem f11:FnOk Tryz.prog 11 Jc:=by
 refine FnOk.ofW aj (an (l:=[(17,GU),(13,GZ),(14,GX),(26,GV),(23,IN),(46,G4),(25,I9),(39,H7),(21,F7),(20,HG),(48,Ib),(49,Ig)]) (own:=[46]) (inl:=[(45,Jj)]) (by simp [f17,f13,f14,f26,f23,f46,f25,f39,f21,f20,f48,f49]) (by simp [t45])) Tryz.func11 D11 5 Jd λargs r e=>?_;unfold Jc at e;split at e
 ·rename_i s1 b1 c1 s2 b2 c2 s3 b3 c3 s4 b4 c4 k c l o v u x y
  cases e;refine⟨by simp,λhm=>?_⟩;obtain⟨⟨hlo,hhi⟩,⟨hc,hk⟩,⟨ho,hl⟩,⟨a,rfl,ha⟩,⟨b,rfl,hb⟩,hx,hy⟩:=hm _ rfl;clear hm;obtain⟨lo,hlo'⟩:∃p,p=(PtS.mk ⟨s1,b1,c1⟩ ⟨s2,b2,c2⟩):=⟨_,rfl⟩;obtain⟨hi,hhi'⟩:∃p,p=(PtS.mk ⟨s3,b3,c3⟩ ⟨s4,b4,c4⟩):=⟨_,rfl⟩;have hc1:∀i,i < k->[.rs 6 (pn c i) (pg c i)]=c i:=λi hi=>(hc i hi).1.symm;have ho1:∀i,i < l->ag (ow o i)=o i:=λi hi=>(ho i hi).symm;refine⟨[],aa [(0,.agg (br (PtS.mk ⟨s1,b1,c1⟩ ⟨s2,b2,c2⟩) (PtS.mk ⟨s3,b3,c3⟩ ⟨s4,b4,c4⟩) k c l o)),(1,.val a.v),(2,.val b.v),(3,.val (.int .u8 x)),(4,.val (.int .u8 y))] [] 0 [],Wo trivial ⟨⟨rfl,rfl,rfl,rfl,rfl,rfl,rfl,rfl,rfl,rfl,rfl,rfl,⟨rfl,rfl,hc1⟩,⟨rfl,rfl,ho1⟩,qQ⟩,rfl,rfl,rfl,rfl,qQ⟩ trivial,?_⟩;rw [<-hlo'] at hlo ⊢;rw [<-hhi'] at hhi ⊢;clear hlo' hhi';have hX:isRg 140737488355328 (br lo hi k c l o):=⟨rfl,⟨hlo,hhi⟩,⟨λi hi=>⟨rfl,(hc i hi).2⟩,hk⟩,λ_ _=>rfl,hl⟩;have p2:∀r:Nat->List PV,r 0=a.cells->r 1=b.cells->isPL 140737488355328 2 r:=λr h h'=>⟨λi hi=>by
   match i,hi with
   |0,_=>exact⟨by rw [ab,h];rfl,by rw [ab,h];exact ha⟩
   |1,_=>exact⟨by rw [ab,h'];rfl,by rw [ab,h'];exact hb⟩
   |i+2,h=>omega,by decide⟩
  with_unfolding_all refine⟨⟨hX,p2 _ rfl rfl⟩,λh1=>⟨[],aa [(10,.val (.bool true))] [] 0 [],Wo trivial ⟨rfl,qQ⟩ trivial,rfl,rfl⟩,λh1=>?_⟩
  obtain⟨hX12,⟨ha12,hb12⟩,⟨ca,cb⟩,hreg0⟩:=sg (a:=a) (b:=b) h1 rfl rfl hX;have hsum:b9 (pn c) k<=24:=xh h1;clear h1 p2;have hreg:bX lo hi k (pn c) (λi=>ab (pg c i)) l (ow o)=0:=hreg0;have hX4:isRg 10000 (br lo hi k c l o):=hX12.mono (by decide);have pa:isPk 10000 a.v:=⟨a,rfl,ha12.mono (by decide)⟩;have pb:isPk 10000 b.v:=⟨b,rfl,hb12.mono (by decide)⟩;have hlen:(au lo hi k c l o).length<=500:=Nat.le_trans (kE _ _ _ _) (by omega);have hcl:bU 10000 k (λi=>[.rs 6 (pn c i) (pg c i)]):=hX4.2.2.1;have hok:fP lo hi k (λi=>[.rs 6 (pn c i) (pg c i)]) l (λi=>ag (ow o i)) (ar a b)=true:=by
   show(!(!ai a||!ai b)&&(bX lo hi k (pn c) (λi=>ab (pg c i)) l (ow o)==0))=true;rw [ca,cb,hreg];rfl
  obtain⟨BE,hBE⟩:∃BE,BE=d7 lo hi k (λi=>[.rs 6 (pn c i) (pg c i)]) l (λi=>ag (ow o i)) a b:=⟨_,rfl⟩;obtain⟨BP,hBP⟩:∃BP,BP=cF lo hi k (λi=>[.rs 6 (pn c i) (pg c i)]) l (λi=>ag (ow o i)) a b:=⟨_,rfl⟩;obtain⟨BL,hBL⟩:∃BL,BL=gG lo hi k (λi=>[.rs 6 (pn c i) (pg c i)]) l (λi=>ag (ow o i)) a b:=⟨_,rfl⟩;obtain⟨S,hS⟩:∃S,S=a7 lo hi k (λi=>[.rs 6 (pn c i) (pg c i)]) l (λi=>ag (ow o i)):=⟨_,rfl⟩;have e0:BE=bif S a a&&S b b then bif aX a b then 12 else 0 else 16:=by rw [hBE,d7,hok,hS];rfl
  have hnz:∀z:Int,(z != 0)=true->z≠0:=λz h e=>by rw [e] at h;cases h
  have hz0:∀z:Int,(z != 0)=false->z=0:=λz h=>by simpa using h
  have n3:(d7 lo hi k (λi=>[.rs 6 (pn c i) (pg c i)]) l (λi=>ag (ow o i)) a b != 0)=true->(!a7 lo hi k (λi=>[.rs 6 (pn c i) (pg c i)]) l (λi=>ag (ow o i)) a a)=false->((d7 lo hi k (λi=>[.rs 6 (pn c i) (pg c i)]) l (λi=>ag (ow o i)) a b==16)==!a7 lo hi k (λi=>[.rs 6 (pn c i) (pg c i)]) l (λi=>ag (ow o i)) b b) = !true->False:=λh1 h2 h=>by
   rw [<-hBE,<-hS] at h;rw [<-hBE] at h1;rw [<-hS] at h2;have h2:S a a=true:=by simpa using h2
   have h1:=hnz _ h1;rw [e0,h2] at h h1;revert h h1;cases S b b<;>cases aX a b<;>simp
  have n3b:(!a7 lo hi k (λi=>[.rs 6 (pn c i) (pg c i)]) l (λi=>ag (ow o i)) a a) = !false->((d7 lo hi k (λi=>[.rs 6 (pn c i) (pg c i)]) l (λi=>ag (ow o i)) a b==16)==true) = !true->False:=λh2 h=>by
   rw [<-hBE] at h;rw [<-hS] at h2;have h2:S a a=false:=by simpa using h2
   rw [e0,h2] at h;revert h;simp
  have n5x:(d7 lo hi k (λi=>[.rs 6 (pn c i) (pg c i)]) l (λi=>ag (ow o i)) a b != 0)=true->aX a b=true->((d7 lo hi k (λi=>[.rs 6 (pn c i) (pg c i)]) l (λi=>ag (ow o i)) a b==12)==a7 lo hi k (λi=>[.rs 6 (pn c i) (pg c i)]) l (λi=>ag (ow o i)) a a) = !true->False:=λh1 h4 h=>by
   rw [<-hBE,<-hS] at h;rw [<-hBE] at h1;have hab:=Dj h4;have h1:=hnz _ h1;rw [e0,h4,<-hab] at h h1;revert h h1;cases S a a<;>simp
  have n5y:(d7 lo hi k (λi=>[.rs 6 (pn c i) (pg c i)]) l (λi=>ag (ow o i)) a b != 0)=true->aX a b = !true->((d7 lo hi k (λi=>[.rs 6 (pn c i) (pg c i)]) l (λi=>ag (ow o i)) a b==12)==false) = !true->False:=λh1 h4 h=>by
   rw [<-hBE] at h h1;have h1:=hnz _ h1;have h4:aX a b=false:=h4;rw [e0,h4] at h h1;revert h h1;cases (S a a&&S b b)<;>simp
  have n6:(d7 lo hi k (λi=>[.rs 6 (pn c i) (pg c i)]) l (λi=>ag (ow o i)) a b != 0)=true->(IntKind.i64.wrap (((cF lo hi k (λi=>[.rs 6 (pn c i) (pg c i)]) l (λi=>ag (ow o i)) a b).length:Int)+((gG lo hi k (λi=>[.rs 6 (pn c i) (pg c i)]) l (λi=>ag (ow o i)) a b).length:Int))==0) = !true->False:=λh1 h=>by
   have h1:=hnz _ h1;have h2:cF lo hi k (λi=>[.rs 6 (pn c i) (pg c i)]) l (λi=>ag (ow o i)) a b=[]:=by
    have h0:(d7 lo hi k (λi=>[.rs 6 (pn c i) (pg c i)]) l (λi=>ag (ow o i)) a b==0)=false:=by simpa using h1
    rw [cF,h0];rfl
   have h3:gG lo hi k (λi=>[.rs 6 (pn c i) (pg c i)]) l (λi=>ag (ow o i)) a b=[]:=by rw [gG,h2];rfl
   rw [h2,h3] at h;cases h
  have hokR:xi lo hi k (λi=>[.rs 6 (pn c i) (pg c i)]) l (λi=>ag (ow o i))=true:=by
   show(bX lo hi k (pn c) (λi=>ab (pg c i)) l (ow o)==0)=true;rw [hreg];rfl
  have q2:(bY (xi lo hi k (λi=>[.rs 6 (pn c i) (pg c i)]) l (λi=>ag (ow o i))) != 0) = !false->False:=λh=>by rw [hokR] at h;cases h
  have hcR:dD lo hi k (λi=>[.rs 6 (pn c i) (pg c i)]) l (λi=>ag (ow o i))=di lo hi k (λi=>[.rs 6 (pn c i) (pg c i)]) l (λi=>ag (ow o i)):=by rw [dD,hokR];rfl
  have hKP:(d7 lo hi k (λi=>[.rs 6 (pn c i) (pg c i)]) l (λi=>ag (ow o i)) a b != 0)=false->cF lo hi k (λi=>[.rs 6 (pn c i) (pg c i)]) l (λi=>ag (ow o i)) a b=a::b::dw a b (ae (dD lo hi k (λi=>[.rs 6 (pn c i) (pg c i)]) l (λi=>ag (ow o i)))) (dD lo hi k (λi=>[.rs 6 (pn c i) (pg c i)]) l (λi=>ag (ow o i))).length:=λh=>by
   have h0:(d7 lo hi k (λi=>[.rs 6 (pn c i) (pg c i)]) l (λi=>ag (ow o i)) a b==0)=true:=by simpa using h
   rw [cF,h0,hcR];exact su _ _ _ _
  have q3:(d7 lo hi k (λi=>[.rs 6 (pn c i) (pg c i)]) l (λi=>ag (ow o i)) a b != 0)=false->decide (((cF lo hi k (λi=>[.rs 6 (pn c i) (pg c i)]) l (λi=>ag (ow o i)) a b).length:Int) < 2) = !false->False:=λh1 h=>by
   have h:=of_decide_eq_true (show decide (((cF lo hi k (λi=>[.rs 6 (pn c i) (pg c i)]) l (λi=>ag (ow o i)) a b).length:Int) < 2)=true from h);rw [hKP h1] at h;simp only [List.length_cons] at h;omega
  have i0:(d7 lo hi k (λi=>[.rs 6 (pn c i) (pg c i)]) l (λi=>ag (ow o i)) a b != 0)=false->(0:Int) < ((cF lo hi k (λi=>[.rs 6 (pn c i) (pg c i)]) l (λi=>ag (ow o i)) a b).length:Int):=λh1=>by
   rw [hKP h1];simp only [List.length_cons];omega
  have i1:(d7 lo hi k (λi=>[.rs 6 (pn c i) (pg c i)]) l (λi=>ag (ow o i)) a b != 0)=false->(1:Int) < ((cF lo hi k (λi=>[.rs 6 (pn c i) (pg c i)]) l (λi=>ag (ow o i)) a b).length:Int):=λh1=>by
   rw [hKP h1];simp only [List.length_cons];omega
  have q4:(d7 lo hi k (λi=>[.rs 6 (pn c i) (pg c i)]) l (λi=>ag (ow o i)) a b != 0)=false->∀j,j=0->(!aX (ae (cF lo hi k (λi=>[.rs 6 (pn c i) (pg c i)]) l (λi=>ag (ow o i)) a b) j) a) = !false->False:=λh1 j hj h=>by
   rw [hKP h1,hj] at h;have h:(!aX a a) = !false:=h;rw [ik] at h;cases h
  have q5:(d7 lo hi k (λi=>[.rs 6 (pn c i) (pg c i)]) l (λi=>ag (ow o i)) a b != 0)=false->∀j,j=1->(!aX (ae (cF lo hi k (λi=>[.rs 6 (pn c i) (pg c i)]) l (λi=>ag (ow o i)) a b) j) b)=true->False:=λh1 j hj h=>by
   rw [hKP h1,hj] at h;have h:(!aX b b)=true:=h;rw [ik] at h;cases h
  have hRn:(dD lo hi k (λi=>[.rs 6 (pn c i) (pg c i)]) l (λi=>ag (ow o i))).length<=500:=by
   rw [hcR];exact Nat.le_trans (jV _ _) hlen
  have hRle:∀p∈(dD lo hi k (λi=>[.rs 6 (pn c i) (pg c i)]) l (λi=>ag (ow o i))),p.le 10000:=by
   rw [hcR];exact mI hcl
  have pC:isPL 10000 (dD lo hi k (λi=>[.rs 6 (pn c i) (pg c i)]) l (λi=>ag (ow o i))).length (λi=>(ae (dD lo hi k (λi=>[.rs 6 (pn c i) (pg c i)]) l (λi=>ag (ow o i))) i).cells):=⟨λi hi2=>⟨rfl,gb hRle hi2⟩,Nat.le_trans hRn (by decide)⟩;have m46:(dD lo hi k (λi=>[.rs 6 (pn c i) (pg c i)]) l (λi=>ag (ow o i))).length<=1000000:=Nat.le_trans hRn (by decide);with_unfolding_all refine⟨⟨⟨hX4,pa,pb⟩,hlen⟩,λh1=>⟨⟨hX4,pa⟩,λh2=>⟨⟨hX4,pb⟩,λh3=>⟨λh4=>⟨⟨hX4,pa⟩,λh5=>⟨λh6=>⟨[],aa [(10,.val (.bool true))] [] 0 [],Wo trivial ⟨rfl,qQ⟩ trivial,rfl,rfl⟩,λh6=>(n6 h1 h6).elim⟩,λh5=>(n5x h1 h4 h5).elim⟩,λh4=>⟨λh5=>⟨λh6=>⟨[],aa [(10,.val (.bool true))] [] 0 [],Wo trivial ⟨rfl,qQ⟩ trivial,rfl,rfl⟩,λh6=>(n6 h1 h6).elim⟩,λh5=>(n5y h1 h4 h5).elim⟩⟩,λh3=>(n3 h1 h2 h3).elim⟩,λh2=>⟨λh3=>⟨λh4=>⟨⟨hX4,pa⟩,λh5=>⟨λh6=>⟨[],aa [(10,.val (.bool true))] [] 0 [],Wo trivial ⟨rfl,qQ⟩ trivial,rfl,rfl⟩,λh6=>(n6 h1 h6).elim⟩,λh5=>(n5x h1 h4 h5).elim⟩,λh4=>⟨λh5=>⟨λh6=>⟨[],aa [(10,.val (.bool true))] [] 0 [],Wo trivial ⟨rfl,qQ⟩ trivial,rfl,rfl⟩,λh6=>(n6 h1 h6).elim⟩,λh5=>(n5y h1 h4 h5).elim⟩⟩,λh3=>(n3b h2 h3).elim⟩⟩,λh1=>⟨⟨hX4,hlen⟩,λh2=>⟨λh3=>⟨⟨Int.le_refl 0,i0 h1⟩,λh4=>⟨⟨by decide,i1 h1⟩,λh5=>(q5 h1 _ rfl h5).elim,λh5=>?_⟩,λh4=>(q4 h1 _ rfl h4).elim⟩,λh3=>(q3 h1 h3).elim⟩,λh2=>(q2 h2).elim⟩⟩
  obtain⟨C,hC⟩:∃C,C=ae (dD lo hi k (λi=>[.rs 6 (pn c i) (pg c i)]) l (λi=>ag (ow o i))):=⟨_,rfl⟩;obtain⟨N,hN⟩:∃N,N=(dD lo hi k (λi=>[.rs 6 (pn c i) (pg c i)]) l (λi=>ag (ow o i))).length:=⟨_,rfl⟩;have hN5:N<=500:=by rw [hN];exact hRn
  have hCr:∀i,i < N->(C i).cells=(ae (dD lo hi k (λi=>[.rs 6 (pn c i) (pg c i)]) l (λi=>ag (ow o i))) i).cells:=λi _=>by rw [hC]
  have hCr2:∀i,i < (dD lo hi k (λi=>[.rs 6 (pn c i) (pg c i)]) l (λi=>ag (ow o i))).length->(C i).cells=(ae (dD lo hi k (λi=>[.rs 6 (pn c i) (pg c i)]) l (λi=>ag (ow o i))) i).cells:=λi _=>by rw [hC]
  have pn1:BP.length=(cF lo hi k (λi=>[.rs 6 (pn c i) (pg c i)]) l (λi=>ag (ow o i)) a b).length:=by rw [hBP]
  have pr1:∀i,i < BP.length->(ae BP i).cells=(ae (cF lo hi k (λi=>[.rs 6 (pn c i) (pg c i)]) l (λi=>ag (ow o i)) a b) i).cells:=λi _=>by rw [hBP]
  have pn2:BL.length=(gG lo hi k (λi=>[.rs 6 (pn c i) (pg c i)]) l (λi=>ag (ow o i)) a b).length:=by rw [hBL]
  have pr2:∀i,i < BL.length->aD (qL BL i)=aD (qL (gG lo hi k (λi=>[.rs 6 (pn c i) (pg c i)]) l (λi=>ag (ow o i)) a b) i):=λi _=>by rw [hBL]
  have g1:BE=0:=by rw [hBE];exact hz0 _ h1
  have gP:BP=a::b::dw a b C N:=by rw [hBP,hC,hN];exact hKP h1
  with_unfolding_all refine⟨Unit,λ_=>True,λ_=>aa [(3,.val (.int .u8 x)),(4,.val (.int .u8 y)),(5,.ptr 0 0 0 0),(6,.ptr 1 1 0 0),(7,.ptr 2 2 0 0),(11,.ptr 3 3 0 0),(13,.rs 6 (dw a b C N).length (λi=>(ae (dw a b C N) i).cells))] [⟨31,14,0,true,false,1,λ_=>br lo hi k c l o⟩,⟨25,6,1,true,false,1,λ_=>a.cells⟩,⟨25,6,2,true,false,1,λ_=>b.cells⟩,⟨37,2,3,true,false,1,λ_=>[.rs 6 BP.length (λi=>(ae BP i).cells),.rs 2 BL.length (λi=>aD (qL BL i))]⟩] 4 [],?_,λ_ _=>?_⟩
  ·have z0:PV.val (.int .i64 ((dD lo hi k (λi=>[.rs 6 (pn c i) (pg c i)]) l (λi=>ag (ow o i))).length:Int))=PV.val (goInt N):=by rw [hN];rfl
   with_unfolding_all refine⟨m46,Nat.le_refl 2,Int,λr=>(r = -1/\∀t,t < N->(aX (C t) a||aX (C t) b)=false)\/∃i:Nat,r=i/\i < N/\(aX (C i) a||aX (C i) b)=true/\∀t,t < i->(aX (C t) a||aX (C t) b)=false,λr=>aa [(0,.sl 4 4 0 N),(1,.fn (.func 47) [] [.ptr 1 1 0 0,.ptr 2 2 0 0]),(5,.val (.int .i64 r))] [⟨31,14,0,true,false,1,λ_=>br lo hi k c l o⟩,⟨25,6,1,true,false,1,λ_=>a.cells⟩,⟨25,6,2,true,false,1,λ_=>b.cells⟩,⟨37,2,3,true,false,1,λ_=>[.rs 6 BP.length (λi=>(ae BP i).cells),.rs 2 BL.length (λi=>aD (qL BL i))]⟩,⟨25,6,4,false,false,N,λt=>(C t).cells⟩] 5 [[(3,.val (.int .u8 x)),(4,.val (.int .u8 y)),(5,.ptr 0 0 0 0),(6,.ptr 1 1 0 0),(7,.ptr 2 2 0 0),(11,.ptr 3 3 0 0)]],⟨Nat.le_refl 2,Nat,λi=>i<=N/\∀t,t < i->(aX (C t) a||aX (C t) b)=false,λi=>aa [(0,.sl 4 4 0 N),(1,.fn (.func 47) [] [.ptr 1 1 0 0,.ptr 2 2 0 0]),(7,.val (goInt N)),(8,.val (goInt i))] [⟨31,14,0,true,false,1,λ_=>br lo hi k c l o⟩,⟨25,6,1,true,false,1,λ_=>a.cells⟩,⟨25,6,2,true,false,1,λ_=>b.cells⟩,⟨37,2,3,true,false,1,λ_=>[.rs 6 BP.length (λi=>(ae BP i).cells),.rs 2 BL.length (λi=>aD (qL BL i))]⟩,⟨25,6,4,false,false,N,λt=>(C t).cells⟩] 5 [[(0,.sl 4 4 0 N),(1,.fn (.func 47) [] [.ptr 1 1 0 0,.ptr 2 2 0 0])],[(3,.val (.int .u8 x)),(4,.val (.int .u8 y)),(5,.ptr 0 0 0 0),(6,.ptr 1 1 0 0),(7,.ptr 2 2 0 0),(11,.ptr 3 3 0 0)]],λi=>N - i,⟨0,[some 0,some 1,some 2,some 4,some 5],⟨Nat.zero_le _,λt ht=>absurd ht (Nat.not_lt_zero t)⟩,Wo ⟨qZ ⟨rq,rq,rq,rq,rq,rq,rq,rq,rq,rq,rq,rq,⟨qW,rfl⟩,⟨qW,rfl⟩,qQ⟩,qK,qK,qZ ⟨⟨⟨rfl,pn1.symm,pr1⟩,rfl⟩,⟨⟨rfl,pn2.symm,pr2⟩,rfl⟩,qQ⟩,⟨aP rfl,rfl,rfl,rfl,rfl,hN,hCr2⟩,qQ⟩ ⟨⟨rfl,rfl,hN.symm,aP rfl,_,rfl⟩,⟨rfl,trivial,⟨pP,pP,qQ⟩⟩,z0,rfl,qQ⟩ ⟨⟨⟨rfl,rfl,hN.symm,aP rfl,_,rfl⟩,⟨rfl,trivial,⟨pP,pP,qQ⟩⟩,qQ⟩,⟨rfl,rfl,pP,pP,pP,pP,qQ⟩,qQ⟩⟩,λi hI=>?_⟩,λr hr=>?_⟩
   ·obtain⟨hiN,hif⟩:i<=N/\∀t,t < i->(aX (C t) a||aX (C t) b)=false:=hI;with_unfolding_all refine⟨λh6=>?_,λh6=>?_⟩
    ·have h6:(i:Int) < N:=bL h6;have hi6:i+1<=N:=by omega
     have hμ : N - (i+1) < N - i:=by omega
     have ei:0+(i:Int).toNat=i:=by omega
     have wi:PV.val (.int .i64 (IntKind.i64.wrap ((i:Int)+1)))=PV.val (goInt ((i+1:Nat):Int)):=by
      rw [wrap64 (by omega) (by omega)];rfl
     have da:aX (C (0+(i:Int).toNat)) a = !false->(aX (C i) a||aX (C i) b)=true:=λh=>by
      rw [ei] at h;rw [show aX (C i) a=true from h,Bool.true_or]
     have db:aX (C (0+(i:Int).toNat)) b=true->(aX (C i) a||aX (C i) b)=true:=λh=>by
      rw [ei] at h;rw [h,Bool.or_true]
     have nx:aX (C (0+(i:Int).toNat)) a=false->aX (C (0+(i:Int).toNat)) b=false->∀t,t < i+1->(aX (C t) a||aX (C t) b)=false:=λh h' t ht=>by
      rw [ei] at h h';by_cases e:t=i
      ·rw [e,h,h'];rfl
      ·exact hif t (by omega)
     with_unfolding_all exact⟨⟨Int.natCast_nonneg i,h6⟩,Nat.le_refl 3,λh7=>⟨λh8=>⟨(i:Int),[some 0,some 1,some 2,some 3,some 4],.inr ⟨i,rfl,hi6,db h8,hif⟩,Wo ⟨qZ ⟨rq,rq,rq,rq,rq,rq,rq,rq,rq,rq,rq,rq,⟨qW,rfl⟩,⟨qW,rfl⟩,qQ⟩,qK,qK,qZ ⟨⟨qW,rfl⟩,⟨qW,rfl⟩,qQ⟩,qZ (λ_ _=>rfl),qQ⟩ ⟨pP,⟨rfl,trivial,⟨pP,pP,qQ⟩⟩,rfl,qQ⟩ ⟨⟨rfl,rfl,pP,pP,pP,pP,qQ⟩,qQ⟩⟩,λh8=>⟨i+1,[some 0,some 1,some 2,some 3,some 4],⟨hi6,nx h7 h8⟩,hμ,Wo ⟨qZ ⟨rq,rq,rq,rq,rq,rq,rq,rq,rq,rq,rq,rq,⟨qW,rfl⟩,⟨qW,rfl⟩,qQ⟩,qK,qK,qZ ⟨⟨qW,rfl⟩,⟨qW,rfl⟩,qQ⟩,qZ (λ_ _=>rfl),qQ⟩ ⟨pP,⟨rfl,trivial,⟨pP,pP,qQ⟩⟩,rfl,wi,qQ⟩ ⟨⟨pP,⟨rfl,trivial,⟨pP,pP,qQ⟩⟩,qQ⟩,⟨rfl,rfl,pP,pP,pP,pP,qQ⟩,qQ⟩⟩⟩,λh7=>⟨λ_=>⟨(i:Int),[some 0,some 1,some 2,some 3,some 4],.inr ⟨i,rfl,hi6,da h7,hif⟩,Wo ⟨qZ ⟨rq,rq,rq,rq,rq,rq,rq,rq,rq,rq,rq,rq,⟨qW,rfl⟩,⟨qW,rfl⟩,qQ⟩,qK,qK,qZ ⟨⟨qW,rfl⟩,⟨qW,rfl⟩,qQ⟩,qZ (λ_ _=>rfl),qQ⟩ ⟨pP,⟨rfl,trivial,⟨pP,pP,qQ⟩⟩,rfl,qQ⟩ ⟨⟨rfl,rfl,pP,pP,pP,pP,qQ⟩,qQ⟩⟩,λh=>(nomatch h)⟩⟩
    ·have h6:(N:Int)<=i:=dI h6;have hall:∀t,t < N->(aX (C t) a||aX (C t) b)=false:=λt ht=>hif t (by omega);with_unfolding_all exact⟨(-1:Int),[some 0,some 1,some 2,some 3,some 4],.inl ⟨rfl,hall⟩,Wo ⟨qZ ⟨rq,rq,rq,rq,rq,rq,rq,rq,rq,rq,rq,rq,⟨qW,rfl⟩,⟨qW,rfl⟩,qQ⟩,qK,qK,qZ ⟨⟨qW,rfl⟩,⟨qW,rfl⟩,qQ⟩,qZ (λ_ _=>rfl),qQ⟩ ⟨pP,⟨rfl,trivial,⟨pP,pP,qQ⟩⟩,rfl,qQ⟩ ⟨⟨rfl,rfl,pP,pP,pP,pP,qQ⟩,qQ⟩⟩
   rcases hr with ⟨rfl,hall⟩|⟨i0,rfl,hi0,hdel,hbef⟩
   ·have hk:=pQ hall;have hk1:N=(dw a b C N).length:=hk.1.symm;have hk2:∀t,t < (dw a b C N).length->(ae (dw a b C N) t).cells=(C (0+t)).cells:=λt ht=>by rw [hk.2 t (by omega),Nat.zero_add]
    with_unfolding_all exact⟨λ_=>⟨(),[some 0,some 1,some 2,some 3],trivial,Wo ⟨qZ ⟨rq,rq,rq,rq,rq,rq,rq,rq,rq,rq,rq,rq,⟨qW,rfl⟩,⟨qW,rfl⟩,qQ⟩,qK,qK,qZ ⟨⟨qW,rfl⟩,⟨qW,rfl⟩,qQ⟩,qQ⟩ ⟨rfl,rfl,pP,pP,pP,pP,⟨by simp,_,rfl,rfl,rfl,hk1,hk2⟩,qQ⟩ trivial⟩,λh=>absurd h (by decide)⟩
   ·have hk:=pQ hbef;have hkd:dw a b C (i0+1)=dw a b C i0:=vH hdel;have hln:(dw a b C (i0+1)).length=i0:=by rw [hkd,hk.1]
    have hmv:∀t,t < N->(mW a b C (i0+1) t).cells=(C t).cells:=λt ht=>by
     unfold mW;rw [hln,hkd];by_cases e:t < i0
     ·rw [if_pos e,hk.2 t e]
     ·rw [if_neg e]
    have w5:PV.val (.int .i64 (i0:Int))=PV.val (goInt (dw a b C (i0+1)).length):=by rw [hln];rfl
    have w6:PV.val (.int .i64 (IntKind.i64.wrap ((i0:Int)+1)))=PV.val (goInt ((i0+1:Nat):Int)):=by
     rw [wrap64 (by omega) (by omega)];rfl
    have hI0:i0+1<=N/\(dw a b C (i0+1)).length+1<=i0+1:=by rw [hln];omega
    have hn1:¬((i0:Int) == -1)=true:=λh=>by have:=eq_of_beq h;omega
    with_unfolding_all refine⟨λh=>absurd h hn1,λ_=>⟨Nat,λj=>j<=N/\(dw a b C j).length+1<=j,λj=>aa [(0,.sl 4 4 0 N),(1,.fn (.func 47) [] [.ptr 1 1 0 0,.ptr 2 2 0 0]),(5,.val (goInt (dw a b C j).length)),(6,.val (goInt j))] [⟨31,14,0,true,false,1,λ_=>br lo hi k c l o⟩,⟨25,6,1,true,false,1,λ_=>a.cells⟩,⟨25,6,2,true,false,1,λ_=>b.cells⟩,⟨37,2,3,true,false,1,λ_=>[.rs 6 BP.length (λi=>(ae BP i).cells),.rs 2 BL.length (λi=>aD (qL BL i))]⟩,⟨25,6,4,false,false,N,λt=>(mW a b C (j) t).cells⟩] 5 [[(3,.val (.int .u8 x)),(4,.val (.int .u8 y)),(5,.ptr 0 0 0 0),(6,.ptr 1 1 0 0),(7,.ptr 2 2 0 0),(11,.ptr 3 3 0 0)]],λj=>N - j,⟨i0+1,[some 0,some 1,some 2,some 3,some 4],hI0,Wo ⟨qZ ⟨rq,rq,rq,rq,rq,rq,rq,rq,rq,rq,rq,rq,⟨qW,rfl⟩,⟨qW,rfl⟩,qQ⟩,qK,qK,qZ ⟨⟨qW,rfl⟩,⟨qW,rfl⟩,qQ⟩,qZ (hmv),qQ⟩ ⟨pP,⟨rfl,trivial,⟨pP,pP,qQ⟩⟩,w5,w6,qQ⟩ ⟨⟨rfl,rfl,pP,pP,pP,pP,qQ⟩,qQ⟩⟩,λj hJ=>?_⟩⟩
    obtain⟨hjN,hjl⟩:j<=N/\(dw a b C j).length+1<=j:=hJ;with_unfolding_all refine⟨λh6=>?_,λh6=>?_⟩
    ·have h6:(j:Int) < N:=bL h6;have hj6:j+1<=N:=by omega
     have hμ : N - (j+1) < N - j:=by omega
     have ej:(mW a b C j (0+(j:Int).toNat))=C j:=by
      rw [show 0+(j:Int).toNat=j by omega];unfold mW;rw [if_neg (by omega)]
     have wj:PV.val (.int .i64 (IntKind.i64.wrap ((j:Int)+1)))=PV.val (goInt ((j+1:Nat):Int)):=by
      rw [wrap64 (by omega) (by omega)];rfl
     have wl:PV.val (.int .i64 (IntKind.i64.wrap (((dw a b C j).length:Int)+1)))=PV.val (goInt (((dw a b C j).length+1:Nat):Int)):=by
      rw [wrap64 (by omega) (by omega)];rfl
     have kd:(aX (C j) a||aX (C j) b)=true->(dw a b C (j+1)).length=(dw a b C j).length/\∀t,(mW a b C (j+1) t).cells=(mW a b C j t).cells:=λh=>by
      unfold mW;rw [vH h];exact⟨rfl,λ_=>rfl⟩
     have kk:(aX (C j) a||aX (C j) b)=false->(dw a b C (j+1)).length=(dw a b C j).length+1/\∀t,(mW a b C (j+1) t).cells=if t=(dw a b C j).length then(C j).cells else(mW a b C j t).cells:=λh=>by
      refine⟨by rw [sw h,List.length_append];rfl,λt=>?_⟩;rw [Ba h];split<;>rfl
     have da:aX (mW a b C j (0+(j:Int).toNat)) a = !false->(aX (C j) a||aX (C j) b)=true:=λh=>by
      rw [ej] at h;rw [show aX (C j) a=true from h,Bool.true_or]
     have db:(!aX (mW a b C j (0+(j:Int).toNat)) b)=false->(aX (C j) a||aX (C j) b)=true:=λh=>by
      rw [ej] at h;have h:aX (C j) b=true:=by simpa using h
      rw [h,Bool.or_true]
     have dn:aX (mW a b C j (0+(j:Int).toNat)) a=false->(!aX (mW a b C j (0+(j:Int).toNat)) b)=true->(aX (C j) a||aX (C j) b)=false:=λh h'=>by
      rw [ej] at h h';have h':aX (C j) b=false:=by simpa using h'
      rw [h,h'];rfl
     have i5:(aX (C j) a||aX (C j) b)=true->j+1<=N/\(dw a b C (j+1)).length+1<=j+1:=λh=>by rw [(kd h).1];omega
     have i6:(aX (C j) a||aX (C j) b)=false->j+1<=N/\(dw a b C (j+1)).length+1<=j+1:=λh=>by rw [(kk h).1];omega
     have w5:(aX (C j) a||aX (C j) b)=true->PV.val (goInt (dw a b C j).length)=PV.val (goInt (dw a b C (j+1)).length):=λh=>by rw [(kd h).1]
     have w6:(aX (C j) a||aX (C j) b)=false->PV.val (.int .i64 (IntKind.i64.wrap (((dw a b C j).length:Int)+1)))=PV.val (goInt (dw a b C (j+1)).length):=λh=>by rw [wl,(kk h).1]
     have l0:(0:Int)<=(dw a b C j).length/\((dw a b C j).length:Int) < N:=by omega
     with_unfolding_all refine⟨⟨Int.natCast_nonneg j,h6⟩,Nat.le_refl 3,λh7=>⟨λh8=>⟨l0,⟨j+1,[some 0,some 1,some 2,some 3,some 4],i6 (dn h7 h8),hμ,Wo ⟨qZ ⟨rq,rq,rq,rq,rq,rq,rq,rq,rq,rq,rq,rq,⟨qW,rfl⟩,⟨qW,rfl⟩,qQ⟩,qK,qK,qZ ⟨⟨qW,rfl⟩,⟨qW,rfl⟩,qQ⟩,qZ (?_),qQ⟩ ⟨pP,⟨rfl,trivial,⟨pP,pP,qQ⟩⟩,w6 (dn h7 h8),wj,qQ⟩ ⟨⟨rfl,rfl,pP,pP,pP,pP,qQ⟩,qQ⟩⟩⟩,λh8=>⟨j+1,[some 0,some 1,some 2,some 3,some 4],i5 (db h8),hμ,Wo ⟨qZ ⟨rq,rq,rq,rq,rq,rq,rq,rq,rq,rq,rq,rq,⟨qW,rfl⟩,⟨qW,rfl⟩,qQ⟩,qK,qK,qZ ⟨⟨qW,rfl⟩,⟨qW,rfl⟩,qQ⟩,qZ (λt _=>(kd (db h8)).2 t),qQ⟩ ⟨pP,⟨rfl,trivial,⟨pP,pP,qQ⟩⟩,w5 (db h8),wj,qQ⟩ ⟨⟨rfl,rfl,pP,pP,pP,pP,qQ⟩,qQ⟩⟩⟩,λh7=>⟨λh=>(nomatch h),λ_=>⟨j+1,[some 0,some 1,some 2,some 3,some 4],i5 (da h7),hμ,Wo ⟨qZ ⟨rq,rq,rq,rq,rq,rq,rq,rq,rq,rq,rq,rq,⟨qW,rfl⟩,⟨qW,rfl⟩,qQ⟩,qK,qK,qZ ⟨⟨qW,rfl⟩,⟨qW,rfl⟩,qQ⟩,qZ (λt _=>(kd (da h7)).2 t),qQ⟩ ⟨pP,⟨rfl,trivial,⟨pP,pP,qQ⟩⟩,w5 (da h7),wj,qQ⟩ ⟨⟨rfl,rfl,pP,pP,pP,pP,qQ⟩,qQ⟩⟩⟩⟩
     intro t ht;show(mW a b C (j+1) t).cells=(if t=0+((dw a b C j).length:Int).toNat then(mW a b C j (0+(j:Int).toNat)).cells else(mW a b C j t).cells);rw [(kk (dn h7 h8)).2 t,ej,show 0+((dw a b C j).length:Int).toNat=(dw a b C j).length by omega]
    ·have h6:(N:Int)<=j:=dI h6;have hjN2:j=N:=by omega
     subst hjN2;have l1:(0:Int)<=(dw a b C j).length:=Int.natCast_nonneg _;have l2:((dw a b C j).length:Int)<=j:=by omega
     have l3:0 < j:=by omega
     with_unfolding_all refine⟨⟨l1,l2,Int.le_refl _⟩,l3,⟨Int.le_refl 0,l1,l2⟩,⟨(),[some 0,some 1,some 2,some 3],trivial,Wo ⟨qZ ⟨rq,rq,rq,rq,rq,rq,rq,rq,rq,rq,rq,rq,⟨qW,rfl⟩,⟨qW,rfl⟩,qQ⟩,qK,qK,qZ ⟨⟨qW,rfl⟩,⟨qW,rfl⟩,qQ⟩,qQ⟩ ⟨rfl,rfl,pP,pP,pP,pP,⟨by simp,_,rfl,rfl,rfl,rfl,?_⟩,qQ⟩ trivial⟩⟩
     intro t ht;show(ae (dw a b C j) t).cells=(if 0+((dw a b C j).length:Int).toNat<=0+t/\0+t < 0+((dw a b C j).length:Int).toNat+((j:Int) - ((dw a b C j).length:Int)).toNat then _ else(mW a b C j (0+t)).cells);have ht:t < (dw a b C j).length:=ht;rw [if_neg (by omega),Nat.zero_add];unfold mW;rw [if_pos ht]
  clear h1 h2 h3 h4 h5 hC hCr hCr2 hN pn1 pr1 pn2 pr2 n3 n3b n5x n5y n6 q2 q3 q4 q5 i0 i1 hKP hcR hRle pC m46;obtain⟨hmap0,hBn0⟩:=xg hreg ca cb hsum;have hmap:bG BP.length (ae BP) BL.length (qL BL)=true:=by rw [hBP,hBL];exact hmap0
  have hBn:BP.length<=26:=by rw [hBP];exact hBn0
  have hBall:∀i,i < BP.length->(ae BP i).le 10000:=by
   rw [hBP];exact AY (ha12.mono (by decide)) (hb12.mono (by decide)) hcl
  have gL:BL=bh (a7 lo hi k (λi=>[.rs 6 (pn c i) (pg c i)]) l (λi=>ag (ow o i))) (ae BP) BP.length BP.length:=by rw [hBL,hBP];rfl
  have hBLle:BL.length<=26*26:=by
   rw [gL];exact Nat.le_trans (pJ _ _ _ _) (Nat.mul_le_mul hBn hBn)
  have hcan:∀i,i < BP.length->ai (ae BP i)=true:=λi hi=>by
   have k1:=hmap;unfold bG at k1;rw [Bool.and_eq_true,Bool.and_eq_true] at k1;have k2:aA (λi=>!ai (ae BP i)) BP.length=false:=by simpa using k1.1.2
   simpa using (aF.1 k2) i hi
  have hsy:∀s t,s < BP.length->t < BP.length->a7 lo hi k (λi=>[.rs 6 (pn c i) (pg c i)]) l (λi=>ag (ow o i)) (ae BP s) (ae BP t)=a7 lo hi k (λi=>[.rs 6 (pn c i) (pg c i)]) l (λi=>ag (ow o i)) (ae BP t) (ae BP s):=λs t hs ht=>vq hreg (hcan t ht) (hcan s hs);have n0:0 < BP.length:=by rw [gP];exact Nat.zero_lt_succ _
  obtain⟨A,hA,hAn⟩:∃A:Nat,((IntKind.i64.wrap x).tmod (BP.length:Int))=A/\A < BP.length:=by
   obtain⟨z,rfl⟩:=Int.eq_ofNat_of_zero_le hx.1;exact⟨z%BP.length,by rw [wrap64 (by omega) (by omega),tA],Nat.mod_lt _ n0⟩
  obtain⟨B,hB,hBn2⟩:∃B:Nat,((IntKind.i64.wrap y).tmod (BP.length:Int))=B/\B < BP.length:=by
   obtain⟨z,rfl⟩:=Int.eq_ofNat_of_zero_le hy.1;exact⟨z%BP.length,by rw [wrap64 (by omega) (by omega),tA],Nat.mod_lt _ n0⟩
  have lk:zj BP BL (a7 lo hi k (λi=>[.rs 6 (pn c i) (pg c i)]) l (λi=>ag (ow o i))) ((IntKind.i64.wrap x).tmod (BP.length:Int)) ((IntKind.i64.wrap y).tmod (BP.length:Int)):=by
   rw [hA,hB];exact A9 gL hmap hsy hAn hBn2
  have e1:((BP.length:Int) - 2).toNat=(dw a b C N).length:=by
   rw [gP];simp only [List.length_cons];omega
  have e2:∀i,ae BP (2+i)=ae (dw a b C N) i:=λi=>by
   rw [gP,show 2+i=i+1+1 by omega];rfl
  have d6:(!(decide (((BP.length:Int) - 2).toNat=(dw a b C N).length)&&!aA (λi=>!aX (ab (λk=>(λi=>(ae BP i).cells) (Int.toNat 2+k)) i) (ab (λi=>(ae (dw a b C N) i).cells) i)) ((BP.length:Int) - 2).toNat))=true->False:=λh=>by
   rw [decide_eq_true e1,aF.2 λi _=>by
    show(!aX (ae BP (2+i)) (ae (dw a b C N) i))=false;rw [e2,ik];rfl] at h
   cases h
  have n2:(2:Int)<=BP.length:=by
   rw [gP];simp only [List.length_cons];omega
  have pl1:isPL 10000 ((BP.length:Int) - 2).toNat (λk=>(λi=>(ae BP i).cells) (Int.toNat 2+k)):=⟨λi hi=>⟨rfl,hBall (2+i) (by omega)⟩,by omega⟩;have pl2:isPL 10000 (dw a b C N).length (λi=>(ae (dw a b C N) i).cells):=⟨λi hi=>⟨rfl,by
   show(ae (dw a b C N) i).le 10000;rw [<-e2];exact hBall (2+i) (by omega)⟩,by omega⟩
  have ne0:(BP.length:Int)≠0:=by omega
  have pP4:isPL 4294967296 BP.length (λi=>(ae BP i).cells):=⟨λi hi=>⟨rfl,(hBall i hi).mono (by decide)⟩,by omega⟩;have pL4:kv BL.length (λi=>aD (qL BL i)):=⟨λ_ _=>rfl,Nat.le_trans hBLle (by decide)⟩;have iA:0<=((IntKind.i64.wrap x).tmod (BP.length:Int))/\((IntKind.i64.wrap x).tmod (BP.length:Int)) < BP.length:=by rw [hA];omega
  have iB:0<=((IntKind.i64.wrap y).tmod (BP.length:Int))/\((IntKind.i64.wrap y).tmod (BP.length:Int)) < BP.length:=by rw [hB];omega
  have pkA:isPk 10000 (ae BP ((IntKind.i64.wrap x).tmod (BP.length:Int)).toNat).v:=⟨_,rfl,hBall _ (by omega)⟩;have pkB:isPk 10000 (ae BP ((IntKind.i64.wrap y).tmod (BP.length:Int)).toNat).v:=⟨_,rfl,hBall _ (by omega)⟩;have h9f:(bY (fP lo hi k (λi=>[.rs 6 (pn c i) (pg c i)]) l (λi=>ag (ow o i)) (ar (ae BP ((IntKind.i64.wrap x).tmod (BP.length:Int)).toNat) (ae BP ((IntKind.i64.wrap y).tmod (BP.length:Int)).toNat)))==0) = !true->False:=λh=>by
   have hk:fP lo hi k (λi=>[.rs 6 (pn c i) (pg c i)]) l (λi=>ag (ow o i)) (ar (ae BP ((IntKind.i64.wrap x).tmod (BP.length:Int)).toNat) (ae BP ((IntKind.i64.wrap y).tmod (BP.length:Int)).toNat))=true:=by
    show(!(!ai (ae BP ((IntKind.i64.wrap x).tmod (BP.length:Int)).toNat)||!ai (ae BP ((IntKind.i64.wrap y).tmod (BP.length:Int)).toNat))&&(bX lo hi k (pn c) (λi=>ab (pg c i)) l (ow o)==0))=true;rw [hcan _ (by omega),hcan _ (by omega),hreg];rfl
   rw [hk] at h;cases h
  have h7f:∀v:Int,v=0->(v==0) = !true->False:=λv e h=>by rw [e] at h;cases h
  have bf:∀B:Bool,B=true->B = !true->False:=λB e h=>by rw [e] at h;cases h
  have nbn:∀z:Int,(nc BP.length (ab λi=>(ae BP i).cells) BL.length (eE λi=>aD (qL BL i)) z).length<=140737488355328:=λz=>by
   have h1:(nc BP.length (ab λi=>(ae BP i).cells) BL.length (eE λi=>aD (qL BL i)) z).length<=BL.length:=by
    unfold nc;cases bG BP.length (ab λi=>(ae BP i).cells) BL.length (eE λi=>aD (qL BL i))&&jR BP.length z with
    |false=>exact Nat.zero_le _
    |true =>
     show(xp z (eE λi=>aD (qL BL i)) BL.length).length<=BL.length;unfold xp;rw [fQ];exact pF _ _ _
   omega
  have zlA:yM (nc BP.length (ab λi=>(ae BP i).cells) BL.length (eE λi=>aD (qL BL i)) ((IntKind.i64.wrap x).tmod (BP.length:Int))).length (λi=>cZ (nc BP.length (ab λi=>(ae BP i).cells) BL.length (eE λi=>aD (qL BL i)) ((IntKind.i64.wrap x).tmod (BP.length:Int))) i):=⟨λ_ _=>rfl,nbn _⟩;have zlB:yM (nc BP.length (ab λi=>(ae BP i).cells) BL.length (eE λi=>aD (qL BL i)) ((IntKind.i64.wrap y).tmod (BP.length:Int))).length (λi=>cZ (nc BP.length (ab λi=>(ae BP i).cells) BL.length (eE λi=>aD (qL BL i)) ((IntKind.i64.wrap y).tmod (BP.length:Int))) i):=⟨λ_ _=>rfl,nbn _⟩;with_unfolding_all exact⟨⟨by decide,n2,Int.le_refl _⟩,⟨pl1,pl2⟩,λh6=>(d6 h6).elim,λh6=>⟨ne0,ne0,⟨pP4,pL4⟩,⟨pP4,pL4⟩,iA,iB,⟨hX4,pkA,pkB⟩,pL4,λh7=>⟨λh8=>⟨λh9=>⟨λh10=>⟨λh11=>⟨zlA,λh12=>⟨zlB,λh13=>⟨zlA,λh14=>⟨[],aa [(10,.val (.bool true))] [] 0 [],Wo trivial ⟨rfl,qQ⟩ trivial,rfl,rfl⟩,λh14=>(bf _ lk.e14 h14).elim⟩,λh13=>(bf _ lk.e13 h13).elim⟩,λh12=>(bf _ lk.e12 h12).elim⟩,λh11=>(bf _ (lk.e10 h10) h11).elim⟩,λh10=>⟨λh11=>⟨zlA,λh12=>⟨zlB,λh13=>⟨zlA,λh14=>⟨[],aa [(10,.val (.bool true))] [] 0 [],Wo trivial ⟨rfl,qQ⟩ trivial,rfl,rfl⟩,λh14=>(bf _ lk.e14 h14).elim⟩,λh13=>(bf _ lk.e13 h13).elim⟩,λh12=>(bf _ lk.e12 h12).elim⟩,λh11=>(bf _ (lk.e11 h10) h11).elim⟩⟩,λh9=>(h9f h9).elim⟩,λh8=>(h7f _ lk.e8 h8).elim⟩,λh7=>(h7f _ lk.e7 h7).elim⟩⟩
 ·cases e
end Go.Proofs
