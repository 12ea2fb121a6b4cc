/- RoadmapFewer: for every region, points and number the law returns true, and leaves its arguments as they are. No conditions. -/
import Derived.Deep.Slices
import Derived.SizedLaws
import Derived.Carry
import Derived.WideShapes
import Derived.ProofKit
import Derived.Test.YtpfdckeipckldaaGreatRows
import Derived.Test.YtpfdckeipckldaaGreatD
set_option maxHeartbeats 8000000
set_option linter.all false
open Go Go.Ex Go.Num Go.Proofs
set_option maxRecDepth 100000
namespace Go.Num
def qp (lo hi:PtS) (k:Nat) (n:Nat->Nat) (r:Nat->Int) (l:Nat) (q:Nat->Int×Int×Int):Int :=
 bif !ah lo||!ah hi then 1 else bif decide (32 < k) then 4 else bif !(bm r k 0==0) then bm r k 0
 else bif decide (396 < bg n k) then 4 else bif !decide (l=k) then 9 else bif aA (λi=>cR (q i)) l then 2 else 0
theorem BI (lo hi:PtS) (k:Nat) (n:Nat->Nat) (p:Nat->Nat->PtS) (l:Nat) (q:Nat->Int×Int×Int):bz lo hi k n p l q=qp lo hi k n (λi=>aY (n i) (p i)) l q:=rfl
theorem qq {n:Nat} {p:Nat->PtS} (h:cv n p=0):n<=64:=by
 unfold cv at h;cases hc:(decide (n < 3)||decide (64 < n)) with
 |true=>rw [hc] at h;cases h
 |false =>
  simp only [Bool.or_eq_false_iff,decide_eq_false_iff_not] at hc;omega
end Go.Num
namespace Go.Proofs
def FZ:List PV->Option Ans
 |[.agg xs]=>some ⟨some (isRg 10000 xs),.val (.int .i64 (qp (cK xs) (cL xs) (gK xs) (pn (gC xs)) (λi=>cv (pn (gC xs) i) (ai (pg (gC xs) i))) (gL xs) (ow (gO xs)))),[]⟩
 |_=>none
def D58:Opt:={  }
theorem F0:ak D58.toOrd Tryz.f58 1=true:=by kernel_rfl
theorem f58:FnOk Tryz.prog 58 FZ:=by
 refine FnOk.ofW aj (am (l:=[(59,EF),(95,FX)]) (own:=[]) (inl:=[]) (by simp [f59,f95]) (by simp)) Tryz.func58 D58 1 F0 λargs r e=>?_;unfold FZ at e;split at e
 ·rename_i xs
  cases e;refine⟨by simp,λhm=>?_⟩;obtain⟨h1,⟨hlo,hhi⟩,hcl,hol⟩:=hm _ rfl;generalize cK xs=lo at *
  generalize cL xs=hi at *
  generalize gK xs=k at *
  generalize gC xs=c at *
  generalize gL xs=l at *
  generalize gO xs=o at *
  subst h1;clear hm;refine⟨[],aa [(0,.agg (bN lo hi k c l o))] [] 0 [],Wo trivial ⟨⟨rfl,rfl,rfl,rfl,rfl,rfl,rfl,rfl,rfl,rfl,rfl,rfl,qW,qW,qQ⟩,qQ⟩ trivial,?_⟩;obtain⟨X,hX⟩:∃X,X=qp lo hi k (pn c) (λi=>cv (pn c i) (ai (pg c i))) l (ow o):=⟨_,rfl⟩;rw [<-hX];obtain⟨Fe,hFe⟩:∃Fe,Fe=bm (λi=>cv (pn c i) (ai (pg c i))) k 0:=⟨_,rfl⟩;have e:X=bif !ah lo||!ah hi then 1 else bif decide (32 < k) then 4 else bif !(Fe==0) then Fe else bif decide (396 < bg (pn c) k) then 4 else bif !decide (l=k) then 9 else bif aA (λi=>cR (ow o i)) l then 2 else 0:=by rw [hX,qp,<-hFe]
  clear hX;have hno:∀b:Bool,(cD b != 0)=true->b=false:=λb h=>by cases b<;>first|rfl|cases h
  have hyes:∀b:Bool,(cD b != 0)=false->b=true:=λb h=>by cases b<;>first|rfl|cases h
  have pl:isPk 4294967296 lo.v:=⟨_,rfl,hlo.mono (by decide)⟩;have ph:isPk 4294967296 hi.v:=⟨_,rfl,hhi.mono (by decide)⟩;have x1:ah lo=false->PV.val (.int .i64 1)=PV.val (.int .i64 X):=λh=>by rw [e,h];rfl
  have x2:ah hi=false->PV.val (.int .i64 1)=PV.val (.int .i64 X):=λh=>by rw [e,h,Bool.not_false,Bool.or_true];rfl
  have x3:ah lo=true->ah hi=true->decide ((k:Int) > 32)=true->PV.val (.int .i64 4)=PV.val (.int .i64 X):=λh h' k'=>by
   replace k':=(qR 32).symm.trans k';rw [e,h,h',k'];rfl
  have x4:ah lo=true->ah hi=true->decide ((k:Int) > 32)=false->(X=bif !(Fe==0) then Fe else bif decide (396 < bg (pn c) k) then 4 else bif !decide (l=k) then 9 else bif aA (λi=>cR (ow o i)) l then 2 else 0)/\k<=32:=λh h' k'=>by
   replace k':=(qR 32).symm.trans k';refine⟨by rw [e,h,h',k'];rfl,?_⟩;have:=of_decide_eq_false k';omega
  with_unfolding_all refine⟨pl,λh1=>⟨ph,λh2=>⟨[],aa [(2,.val (.int .i64 X))] [] 0 [],Wo trivial ⟨x2 (hno _ h2),qQ⟩ trivial,rfl,rfl⟩,λh2=>⟨λh3=>⟨[],aa [(2,.val (.int .i64 X))] [] 0 [],Wo trivial ⟨x3 (hyes _ h1) (hyes _ h2) h3,qQ⟩ trivial,rfl,rfl⟩,λh3=>⟨Nat,λi=>(X=bif !(Fe==0) then Fe else bif decide (396 < bg (pn c) k) then 4 else bif !decide (l=k) then 9 else bif aA (λi=>cR (ow o i)) l then 2 else 0)/\k<=32/\i<=k/\bm (λi=>cv (pn c i) (ai (pg c i))) (k - i) i=Fe/\bg (pn c) i<=64*i,λi=>aa [(1,.ptr 0 0 0 0),(3,.val (goInt (bg (pn c) i))),(4,.val (goInt i))] [⟨31,14,0,true,false,1,λ_=>bN lo hi k c l o⟩] 1 [],λi=>k - i,⟨0,[some 0],⟨(x4 (hyes _ h1) (hyes _ h2) h3).1,(x4 (hyes _ h1) (hyes _ h2) h3).2,Nat.zero_le _,hFe.symm,Nat.le_refl _⟩,Wo ⟨qZ ⟨rq,rq,rq,rq,rq,rq,rq,rq,rq,rq,rq,rq,⟨qW,rfl⟩,⟨qW,rfl⟩,qQ⟩,qQ⟩ ⟨pP,rfl,rfl,qQ⟩ trivial⟩,λi hI0=>?_⟩⟩⟩,λh1=>⟨λ_=>⟨[],aa [(2,.val (.int .i64 X))] [] 0 [],Wo trivial ⟨x1 (hno _ h1),qQ⟩ trivial,rfl,rfl⟩,λh=>(nomatch h)⟩⟩
  obtain⟨hX,hk32,hik,hFi,hsum⟩:(X=bif !(Fe==0) then Fe else bif decide (396 < bg (pn c) k) then 4 else bif !decide (l=k) then 9 else bif aA (λi=>cR (ow o i)) l then 2 else 0)/\k<=32/\i<=k/\bm (λi=>cv (pn c i) (ai (pg c i))) (k - i) i=Fe/\bg (pn c) i<=64*i:=hI0;with_unfolding_all refine⟨λh1=>?_,λh1=>?_⟩
  ·have h1:(i:Int) < k:=bx h1;have ei:(i:Int).toNat=i:=Int.toNat_natCast i;have hst:bm (λi=>cv (pn c i) (ai (pg c i))) (k - i) i=bif cv (pn c i) (ai (pg c i))==0 then bm (λi=>cv (pn c i) (ai (pg c i))) (k - (i+1)) (i+1) else cv (pn c i) (ai (pg c i)):=by
    rw [show k - i=(k - (i+1))+1 by omega];rfl
   have hpl:isPL 10000 (pn c (i:Int).toNat) (pg c (i:Int).toNat):=(hcl.1 _ (by omega)).2;have xr:(cv (pn c (i:Int).toNat) (ai (pg c (i:Int).toNat)) != 0)=true->PV.val (.int .i64 (cv (pn c (i:Int).toNat) (ai (pg c (i:Int).toNat))))=PV.val (.int .i64 X):=λh=>by
    rw [ei] at h ⊢;have h':(cv (pn c i) (ai (pg c i))==0)=false:=by simpa using h
    rw [h',cond_false] at hst;rw [hX,<-hFi,hst,h'];rfl
   have z0:(cv (pn c (i:Int).toNat) (ai (pg c (i:Int).toNat)) != 0)=false->cv (pn c i) (ai (pg c i))=0:=λh=>by
    rw [ei] at h;simpa using h
   have nf:(cv (pn c (i:Int).toNat) (ai (pg c (i:Int).toNat)) != 0)=false->bm (λi=>cv (pn c i) (ai (pg c i))) (k - (i+1)) (i+1)=Fe:=λh=>by
    have h':=z0 h;rw [<-hFi,hst,h'];rfl
   have ns:(cv (pn c (i:Int).toNat) (ai (pg c (i:Int).toNat)) != 0)=false->bg (pn c) (i+1)<=64*(i+1):=λh=>by
    have h':=qq (z0 h);unfold bg;omega
   have wi:PV.val (.int .i64 (IntKind.i64.wrap ((i:Int)+1)))=PV.val (.int .i64 ((i+1:Nat):Int)):=by
    rw [wrap64 (by omega) (by omega)];rfl
   have ws:(cv (pn c (i:Int).toNat) (ai (pg c (i:Int).toNat)) != 0)=false->PV.val (.int .i64 (IntKind.i64.wrap (((bg (pn c) i:Nat):Int)+((pn c (i:Int).toNat:Nat):Int))))=PV.val (goInt ((bg (pn c) (i+1):Nat):Int)):=λh=>by
    have h':=qq (z0 h);rw [ei,wrap64 (by omega) (by omega),bg];rfl
   have ri:0<=(i:Int)/\(i:Int) < k:=⟨by omega,h1⟩;have mu:k - (i+1) < k - i:=by omega
   have le:i+1<=k:=by omega
   with_unfolding_all exact⟨ri,hpl,λh2=>⟨[],aa [(2,.val (.int .i64 X))] [] 0 [],Wo trivial ⟨xr h2,qQ⟩ trivial,rfl,rfl⟩,λh2=>⟨ri,i+1,[some 0],⟨hX,hk32,le,nf h2,ns h2⟩,mu,Wo ⟨qZ ⟨rq,rq,rq,rq,rq,rq,rq,rq,rq,rq,rq,rq,⟨qW,rfl⟩,⟨qW,rfl⟩,qQ⟩,qQ⟩ ⟨pP,ws h2,wi,qQ⟩ trivial⟩⟩
  ·have h1:(k:Int)<=i:=dU h1;have hki:i=k:=by omega
   have hF0:Fe=0:=by
    rw [<-hFi,show k - i=0 by omega];rfl
   have hX2:X=bif decide (396 < bg (pn c) k) then 4 else bif !decide (l=k) then 9 else bif aA (λi=>cR (ow o i)) l then 2 else 0:=by rw [hX,hF0];rfl
   have hl47:=hol.2;have y1:decide (((bg (pn c) i:Nat):Int) > 396)=true->PV.val (.int .i64 4)=PV.val (.int .i64 X):=λh=>by
    replace h:=(qR 396).symm.trans h;rw [hki] at h;rw [hX2,h];rfl
   have y2:decide (((bg (pn c) i:Nat):Int) > 396)=false->(!((l:Int)==(k:Int)))=true->PV.val (.int .i64 9)=PV.val (.int .i64 X):=λh h'=>by
    replace h:=(qR 396).symm.trans h;rw [hki] at h;have h2:¬l=k:=λe=>by
     rw [e,beq_self_eq_true] at h';cases h'
    rw [hX2,h,decide_eq_false h2];rfl
   have x9:decide (((bg (pn c) i:Nat):Int) > 396)=false->(!((l:Int)==(k:Int)))=false->X=bif aA (λi=>cR (ow o i)) l then 2 else 0:=λh h'=>by
    replace h:=(qR 396).symm.trans h;rw [hki] at h;have h2:l=k:=by
     have:((l:Int)==(k:Int))=true:=by simpa using h'
     have:=eq_of_beq this;omega
    rw [hX2,h,decide_eq_true h2];rfl
   with_unfolding_all refine⟨λh2=>⟨[],aa [(2,.val (.int .i64 X))] [] 0 [],Wo trivial ⟨y1 h2,qQ⟩ trivial,rfl,rfl⟩,λh2=>⟨λh3=>⟨[],aa [(2,.val (.int .i64 X))] [] 0 [],Wo trivial ⟨y2 h2 h3,qQ⟩ trivial,rfl,rfl⟩,λh3=>⟨Nat,λj=>(X=bif aA (λi=>cR (ow o i)) l then 2 else 0)/\j<=l/\∀i,i < j->cR (ow o i)=false,λj=>aa [(1,.ptr 0 0 0 0),(6,.val (goInt j))] [⟨31,14,0,true,false,1,λ_=>bN lo hi k c l o⟩] 1 [],λj=>l - j,⟨0,[some 0],⟨x9 h2 h3,Nat.zero_le _,λi hi=>absurd hi (Nat.not_lt_zero i)⟩,Wo ⟨qZ ⟨rq,rq,rq,rq,rq,rq,rq,rq,rq,rq,rq,rq,⟨qW,rfl⟩,⟨qW,rfl⟩,qQ⟩,qQ⟩ ⟨pP,rfl,qQ⟩ trivial⟩,λj hJ0=>?_⟩⟩⟩
   obtain⟨hX3,hjl,hJ⟩:(X=bif aA (λi=>cR (ow o i)) l then 2 else 0)/\j<=l/\∀i,i < j->cR (ow o i)=false:=hJ0;with_unfolding_all refine⟨λh2=>?_,λh2=>?_⟩
   ·have h2:(j:Int) < l:=bx h2;have ej:(j:Int).toNat=j:=Int.toNat_natCast j;have rj:0<=(j:Int)/\(j:Int) < l:=⟨by omega,h2⟩;have v2:cR (ow o (j:Int).toNat)=true->PV.val (.int .i64 2)=PV.val (.int .i64 X):=λh=>by
     rw [ej] at h;rw [hX3,a8.2 ⟨j,by omega,h⟩];rfl
    have nx:cR (ow o (j:Int).toNat)=false->∀i,i < j+1->cR (ow o i)=false:=λh i hi=>by
     rw [ej] at h;rcases Nat.lt_or_ge i j with h' | h'
     ·exact hJ i h'
     ·obtain rfl:i=j:=by omega
      exact h
    have n1:decide ((ow o (j:Int).toNat).1 < 0)=true->cR (ow o (j:Int).toNat)=true:=λh=>by unfold cR;rw [h];rfl
    have n2:decide ((ow o (j:Int).toNat).2.1 < 0)=true->cR (ow o (j:Int).toNat)=true:=λh=>by unfold cR;rw [h,Bool.or_true];rfl
    have n3:decide ((ow o (j:Int).toNat).2.2 < 0)=true->cR (ow o (j:Int).toNat)=true:=λh=>by unfold cR;rw [h,Bool.or_true]
    have n4:decide ((ow o (j:Int).toNat).1 < 0)=false->decide ((ow o (j:Int).toNat).2.1 < 0)=false->decide ((ow o (j:Int).toNat).2.2 < 0)=false->cR (ow o (j:Int).toNat)=false:=λh h' k=>by unfold cR;rw [h,h',k];rfl
    have wj:PV.val (.int .i64 (IntKind.i64.wrap ((j:Int)+1)))=PV.val (.int .i64 ((j+1:Nat):Int)):=by
     rw [wrap64 (by omega) (by omega)];rfl
    have mu:l - (j+1) < l - j:=by omega
    have le:j+1<=l:=by omega
    with_unfolding_all exact⟨rj,λh3=>⟨rj,λh4=>⟨rj,λh5=>⟨[],aa [(2,.val (.int .i64 X))] [] 0 [],Wo trivial ⟨v2 (n3 h5),qQ⟩ trivial,rfl,rfl⟩,λh5=>⟨j+1,[some 0],⟨hX3,le,nx (n4 h3 h4 h5)⟩,mu,Wo ⟨qZ ⟨rq,rq,rq,rq,rq,rq,rq,rq,rq,rq,rq,rq,⟨qW,rfl⟩,⟨qW,rfl⟩,qQ⟩,qQ⟩ ⟨pP,wj,qQ⟩ trivial⟩⟩,λh4=>⟨λ_=>⟨[],aa [(2,.val (.int .i64 X))] [] 0 [],Wo trivial ⟨v2 (n2 h4),qQ⟩ trivial,rfl,rfl⟩,λh=>(nomatch h)⟩⟩,λh3=>⟨λh=>(nomatch h),λ_=>⟨λ_=>⟨[],aa [(2,.val (.int .i64 X))] [] 0 [],Wo trivial ⟨v2 (n1 h3),qQ⟩ trivial,rfl,rfl⟩,λh=>(nomatch h)⟩⟩⟩
   ·have h2:(l:Int)<=j:=dU h2;have v0:PV.val (.int .i64 0)=PV.val (.int .i64 X):=by
     rw [hX3,aE.2 λi hi=>hJ i (by omega)];rfl
    with_unfolding_all exact⟨[],aa [(2,.val (.int .i64 X))] [] 0 [],Wo trivial ⟨v0,qQ⟩ trivial,rfl,rfl⟩
 ·cases e
end Go.Proofs
namespace Go.Num
def sK (p u:PtS):PtS:=oC (p.X+u.X) (p.Y+u.Y)
def qr (p:PtS) (r:RatS):PtS:=oC (p.X*r.q) (p.Y*r.q)
def xF (p u:PtS) (r:RatS):PtS:=sK p (qr (cH u p) r)
theorem y9 {a b:Nat} {p u:PtS} (h1:PtS.le a p) (h2:PtS.le b u):(sK p u).le (a+b+3):=sy ((h1.X.add h2.X).le (by omega)) ((h1.Y.add h2.Y).le (by omega))
theorem tY {a b:Nat} {p:PtS} {r:RatS} (h1:PtS.le a p) (h2:RatS.le b r):(qr p r).le (a+b+3):=sy ((h1.X.mul h2.qb).le (by omega)) ((h1.Y.mul h2.qb).le (by omega))
theorem ig {p:PtS} (h:bh p=false):p.le 12:=by
 unfold bh mE at h;simp only [Bool.or_eq_false_iff,decide_eq_false_iff_not] at h;unfold PtS.le RatS.le;omega
theorem tZ {K:Nat} {xs:List PV} (h:l9 (cK xs) (cL xs) (gK xs) (pn (gC xs)) (λi=>ai (pg (gC xs) i)) (gL xs)=false) (hx:isRg K xs):isRg 12 xs:=by
 obtain⟨h1,_,hc,ho⟩:=hx;unfold l9 at h;simp only [Bool.or_eq_false_iff] at h;refine⟨h1,⟨ig h.1.1.1.1,ig h.1.1.1.2⟩,⟨λi hi=>⟨(hc.1 i hi).1,⟨λj hj=>⟨((hc.1 i hi).2.1 j hj).1,?_⟩,(hc.1 i hi).2.2⟩⟩,hc.2⟩,ho⟩;have h2:=(aE.1 h.1.2) i hi;unfold ik at h2;rw [Bool.or_eq_false_iff] at h2;exact ig ((aE.1 h2.2) j hj)
theorem isRg.mono {a b:Nat} {xs:List PV} (h:isRg a xs) (hab:a<=b):isRg b xs :=
 ⟨h.1,⟨h.2.1.1.mono hab,h.2.1.2.mono hab⟩,⟨λi hi=>⟨(h.2.2.1.1 i hi).1,⟨λj hj=>⟨((h.2.2.1.1 i hi).2.1 j hj).1,((h.2.2.1.1 i hi).2.1 j hj).2.mono hab⟩,(h.2.2.1.1 i hi).2.2⟩⟩,h.2.2.1.2⟩,h.2.2.2⟩
theorem za {K n:Nat} {g:Nat->List PV} (h:aA (λi=>bh (ai g i)) n=false) (hg:isPL K n g):isPL 12 n g :=
 ⟨λi hi=>⟨(hg.1 i hi).1,ig ((aE.1 h) i hi)⟩,hg.2⟩
theorem isPL.mono {a b n:Nat} {g:Nat->List PV} (h:isPL a n g) (hab:a<=b):isPL b n g:=⟨λi hi=>⟨(h.1 i hi).1,(h.1 i hi).2.mono hab⟩,h.2⟩
def iP (xs:List PV) (n:Nat) (g:Nat->List PV):Bool:=l9 (cK xs) (cL xs) (gK xs) (pn (gC xs)) (λi=>ai (pg (gC xs) i)) (gL xs)||aA (λi=>bh (ai g i)) n
def qu (xs:List PV):Int:=qp (cK xs) (cL xs) (gK xs) (pn (gC xs)) (λi=>cv (pn (gC xs) i) (ai (pg (gC xs) i))) (gL xs) (ow (gO xs))
def kB (xs:List PV) (n:Nat) (g:Nat->List PV):Bool:=!iP xs n g&&(qu xs==0)&&!aA (λi=>!ah (ai g i)) n
end Go.Num
namespace Go.Proofs
theorem zK {x y:PtS} (h:x=y):PV.val (.bool x.x.s)=PV.val (.bool y.x.s)/\PV.val (.string x.x.b)=PV.val (.string y.x.b)/\PV.val (.string x.x.c)=PV.val (.string y.x.c)/\PV.val (.bool x.y.s)=PV.val (.bool y.y.s)/\PV.val (.string x.y.b)=PV.val (.string y.y.b)/\PV.val (.string x.y.c)=PV.val (.string y.y.c):=by
 rw [h];exact⟨rfl,rfl,rfl,rfl,rfl,rfl⟩
def F1:List PV->Option Ans
 |[.val v,.val u]=>some ⟨some (isPk 4294967296 v/\isPk 4294967296 u),.val (sK (aN v) (aN u)).v,[]⟩
 |_=>none
def D74:Opt:={  }
theorem F2:ak D74.toOrd Tryz.f74 2=true:=by kernel_rfl
theorem f74:FnOk Tryz.prog 74 F1:=by
 refine FnOk.ofW aj (am (l:=[(112,lW)]) (own:=[]) (inl:=[]) (by simp [wP]) (by simp)) Tryz.func74 D74 2 F2 λargs r e=>?_;unfold F1 at e;split at e
 ·rename_i v u
  cases e;refine⟨by simp,λhm=>?_⟩;obtain⟨⟨p,rfl,hp⟩,u,rfl,hu⟩:=hm _ rfl;refine⟨[],aa [(0,.val p.v),(1,.val u.v)] [] 0 [],Wo trivial ⟨rfl,rfl,qQ⟩ trivial,?_⟩;with_unfolding_all exact⟨⟨⟨p,rfl,hp⟩,u,rfl,hu⟩,[some 2],aa [(4,.ptr 0 0 0 0)] [oD (sK p u) 0] 1 [],Wo ⟨qK,qQ⟩ ⟨pP,qQ⟩ trivial,rfl,rfl⟩
 ·cases e
def zd:Value->RatS
 |.agg ⟨[.bool s,.string b,.string c]⟩=>⟨s,b,c⟩
 |_=>⟨false,⟨#[]⟩,⟨#[]⟩⟩
def F4:List PV->Option Ans
 |[.val v,.val u]=>some ⟨some (isPk 4294967296 v/\isRk 4294967296 u),.val (qr (aN v) (zd u)).v,[]⟩
 |_=>none
def D75:Opt:={  }
theorem F5:ak D75.toOrd Tryz.f75 2=true:=by kernel_rfl
theorem f75:FnOk Tryz.prog 75 F4:=by
 refine FnOk.ofW aj (am (l:=[(112,jv)]) (own:=[]) (inl:=[]) (by simp [qe]) (by simp)) Tryz.func75 D75 2 F5 λargs r e=>?_;unfold F4 at e;split at e
 ·rename_i v u
  cases e;refine⟨by simp,λhm=>?_⟩;obtain⟨⟨p,rfl,hp⟩,s,b,c,rfl,hb,hc⟩:=hm _ rfl;refine⟨[],aa [(0,.val p.v),(1,.val (.agg ⟨[.bool s,.string b,.string c]⟩))] [] 0 [],Wo trivial ⟨rfl,rfl,qQ⟩ trivial,?_⟩;have hr:PtS.le 4294967296 ⟨⟨s,b,c⟩,⟨s,b,c⟩⟩:=⟨⟨hb,hc⟩,hb,hc⟩;with_unfolding_all exact⟨⟨⟨p,rfl,hp⟩,⟨⟨s,b,c⟩,⟨s,b,c⟩⟩,rfl,hr⟩,[some 2],aa [(4,.ptr 0 0 0 0)] [oD (qr p ⟨s,b,c⟩) 0] 1 [],Wo ⟨qK,qQ⟩ ⟨pP,qQ⟩ trivial,rfl,rfl⟩
 ·cases e
def F7:List PV->Option Ans
 |[.val v,.val u,.val w]=>some ⟨some (isPk 1000 v/\isPk 1000 u/\isRk 1000 w),.val (xF (aN v) (aN u) (zd w)).v,[]⟩
 |_=>none
def D28:Opt:={ perm:=iS 1 [(0,true),(1,true),(2,true),(4,true),(3,false),(5,false),(6,false)] }
theorem F8:ak D28.toOrd Tryz.f28 3=true:=by kernel_rfl
theorem f28:FnOk Tryz.prog 28 F7:=by
 refine FnOk.ofW aj (am (l:=[(76,DH),(75,F4),(74,F1)]) (own:=[]) (inl:=[]) (by simp [f76,f75,f74]) (by simp)) Tryz.func28 D28 3 F8 λargs r e=>?_;unfold F7 at e;split at e
 ·rename_i v u w
  cases e;refine⟨by simp,λhm=>?_⟩;obtain⟨⟨p,rfl,hp⟩,⟨u,rfl,hu⟩,s,b,c,rfl,hb,hc⟩:=hm _ rfl;refine⟨[],aa [(0,.val p.v),(1,.val u.v),(2,.val (.agg ⟨[.bool s,.string b,.string c]⟩))] [] 0 [],Wo trivial ⟨rfl,rfl,rfl,qQ⟩ trivial,?_⟩;have hr:RatS.le 1000 ⟨s,b,c⟩:=⟨hb,hc⟩;have s1:=cV hu hp;have s2:=tY s1 hr;have i1:isPk 4294967296 u.v/\isPk 4294967296 p.v:=⟨⟨_,rfl,hu.mono (by decide)⟩,_,rfl,hp.mono (by decide)⟩;have i2:isPk 4294967296 (cH u p).v/\isRk 4294967296 (.agg ⟨[.bool s,.string b,.string c]⟩):=⟨⟨_,rfl,s1.mono (by decide)⟩,s,b,c,rfl,Nat.le_trans hb (by decide),Nat.le_trans hc (by decide)⟩;have i3:isPk 4294967296 p.v/\isPk 4294967296 (qr (cH u p) ⟨s,b,c⟩).v:=⟨⟨_,rfl,hp.mono (by decide)⟩,_,rfl,s2.mono (by decide)⟩;have rv:∀p:PtS,aN p.v=p:=λ_=>rfl;obtain⟨Q,hQ⟩:∃Q,Q=xF p u ⟨s,b,c⟩:=⟨_,rfl⟩;have hq:xF (aN p.v) (aN u.v) (zd (.agg ⟨[.bool s,.string b,.string c]⟩))=Q:=hQ.symm;rw [hq];have e:sK (aN p.v) (aN (qr (aN (cH (aN u.v) (aN p.v)).v) (zd (.agg ⟨[.bool s,.string b,.string c]⟩))).v)=Q:=by
   rw [rv,rv,rv,rv];exact hq
  have c6:=zK e;clear hq hQ e;with_unfolding_all refine⟨?_,?_,?_,[some 3],aa [(6,.ptr 0 0 0 0)] [oD Q 0] 1 [],Wo ⟨qZ ⟨⟨c6.1,rfl⟩,⟨c6.2.1,rfl⟩,⟨c6.2.2.1,rfl⟩,⟨c6.2.2.2.1,rfl⟩,⟨c6.2.2.2.2.1,rfl⟩,⟨c6.2.2.2.2.2,rfl⟩,qQ⟩,qQ⟩ ⟨pP,qQ⟩ trivial,rfl,rfl⟩
  ·exact i1
  ·exact i2
  ·exact i3
 ·cases e
def F9:List PV->Option Ans
 |[.val v]=>some ⟨some (isPk 4294967296 v),.val (.bool (!ah (aN v))),[]⟩
 |_=>none
theorem Ga:ak {} Tryz.f66 1=true:=by kernel_rfl
theorem f66:FnOk Tryz.prog 66 F9:=by
 refine FnOk.ofW aj (am (l:=[(67,zF)]) (own:=[]) (inl:=[]) (by simp [f67]) (by simp)) Tryz.func66 {} 1 Ga λargs r e=>?_;unfold F9 at e;split at e
 ·rename_i v
  cases e;refine⟨by simp,λhm=>?_⟩;obtain⟨p,rfl,hp⟩:=hm _ rfl;refine⟨[],aa [(0,.val p.v)] [] 0 [],Wo trivial ⟨rfl,qQ⟩ trivial,?_⟩;with_unfolding_all exact⟨⟨p,rfl,hp⟩,[],aa [(2,.val (.bool (!ah p)))] [] 0 [],Wo trivial ⟨congrArg (λz=>PV.val (.bool z)) (lc _),qQ⟩ trivial,rfl,rfl⟩
 ·cases e
def sM:List PV->Option Ans
 |[.rs 6 n g,.val (.func (.func 66) ⟨[]⟩ ⟨[]⟩)]=>some ⟨some (isPL 4294967296 n g),.val (.int .i64 (bV (λi=>!ah (ai g i)) n 0)),[]⟩
 |_=>none
theorem BJ:FnOk Tryz.prog 83 sM:=by
 refine FnOk.ofW aj (am (l:=[(66,F9)]) (own:=[]) (inl:=[]) (by simp [f66]) (by simp)) Tryz.func83 {} 2 ss λargs r e=>?_;unfold sM at e;split at e
 ·rename_i n g
  cases e;refine⟨by simp,λhm=>?_⟩;obtain⟨hg,hn⟩:=hm _ rfl;refine⟨[],aa [(0,.rs 6 n (λi=>(ai g i).cells)),(1,.val (.func (.func 66) ⟨[]⟩ ⟨[]⟩))] [] 0 [],Wo trivial ⟨⟨rfl,rfl,λi hi=>(hg i hi).1.symm⟩,rfl,qQ⟩ trivial,?_⟩;obtain⟨X,hX⟩:∃X,X=bV (λi=>!ah (ai g i)) n 0:=⟨_,rfl⟩;rw [<-hX];with_unfolding_all refine⟨Nat,λi=>i<=n/\bV (λi=>!ah (ai g i)) (n - i) i=X,λi=>aa [(0,.rs 6 n (λi=>(ai g i).cells)),(1,.val (.func (.func 66) ⟨[]⟩ ⟨[]⟩)),(7,.val (goInt n)),(8,.val (goInt i))] [] 0 [],λi=>n - i,⟨0,[],⟨Nat.zero_le _,hX.symm⟩,Wo trivial ⟨qW,rfl,rfl,rfl,qQ⟩ trivial⟩,λi hi=>?_⟩
  obtain⟨hin,hI⟩:i<=n/\bV (λi=>!ah (ai g i)) (n - i) i=X:=hi;with_unfolding_all refine⟨λh=>?_,λh=>⟨[],aa [(4,.val (.int .i64 X))] [] 0 [],Wo trivial ⟨?_,qQ⟩ trivial,rfl,rfl⟩⟩
  ·have h:=bx h;have e:(i:Int).toNat=i:=Int.toNat_natCast i;have hstep:bV (λi=>!ah (ai g i)) (n - i) i=bif !ah (ai g i) then(i:Int) else bV (λi=>!ah (ai g i)) (n - (i+1)) (i+1):=by
    rw [show n - i=(n - (i+1))+1 by omega];rfl
   with_unfolding_all refine⟨⟨by omega,by omega⟩,⟨ai g (i:Int).toNat,rfl,by rw [e];exact(hg i (by omega)).2⟩,λh'=>⟨[],aa [(4,.val (.int .i64 X))] [] 0 [],Wo trivial ⟨?_,qQ⟩ trivial,rfl,rfl⟩,λh'=>⟨i+1,[],⟨by omega,?_⟩,by show n - (i+1) < n - i;omega,Wo trivial ⟨qW,rfl,rfl,?_,qQ⟩ trivial⟩⟩
   ·have h':(!ah (ai g (i:Int).toNat))=true:=h';rw [e] at h';rw [h',cond_true] at hstep;exact congrArg (λz=>PV.val (.int .i64 z)) (hstep.symm.trans hI)
   ·have h':(!ah (ai g (i:Int).toNat))=false:=h';rw [e] at h';rw [h',cond_false] at hstep;exact hstep.symm.trans hI
   ·show PV.val (.int .i64 (IntKind.i64.wrap ((i:Int)+1)))=PV.val (.int .i64 ((i+1:Nat):Int));rw [wrap64 (by omega) (by omega)];rfl
  ·have h:=dU h;rw [show n - i=0 by omega] at hI;exact congrArg (λz=>PV.val (.int .i64 z)) hI
 ·cases e
def sO:List PV->Option Ans
 |[.rs 6 n g,.val (.func (.func 66) ⟨[]⟩ ⟨[]⟩)]=>some ⟨some (isPL 4294967296 n g),.val (.bool (aA (λi=>!ah (ai g i)) n)),[]⟩
 |_=>none
theorem BK:FnOk Tryz.prog 65 sO:=by
 refine FnOk.ofW aj (am (l:=[(83,sM)]) (own:=[]) (inl:=[]) (by simp [BJ]) (by simp)) Tryz.func65 {} 2 su λargs r e=>?_;unfold sO at e;split at e
 ·rename_i n g
  cases e;refine⟨by simp,λhm=>?_⟩;have hp:=hm _ rfl;refine⟨[],aa [(0,.rs 6 n g),(1,.val (.func (.func 66) ⟨[]⟩ ⟨[]⟩))] [] 0 [],Wo trivial ⟨⟨rfl,rfl,λi hi=>rfl⟩,rfl,qQ⟩ trivial,?_⟩;with_unfolding_all exact⟨hp,[],aa [(4,.val (.bool (aA (λi=>!ah (ai g i)) n)))] [] 0 [],Wo trivial ⟨congrArg (λz=>PV.val (.bool z)) (ek _ _),qQ⟩ trivial,rfl,rfl⟩
 ·cases e
def Gb:List PV->Option Ans
 |[.agg xs,.rs 6 n g]=>some ⟨some (isRg 140737488355328 xs/\isPL 140737488355328 n g),.val (.bool (iP xs n g)),[]⟩
 |_=>none
def D12:Opt:={  }
theorem Gc:ak D12.toOrd Tryz.f12 2=true:=by kernel_rfl
theorem f12:FnOk Tryz.prog 12 Gb:=by
 refine FnOk.ofW aj (am (l:=[(50,FU),(51,Fc)]) (own:=[]) (inl:=[]) (by simp [f50,f51]) (by simp)) Tryz.func12 D12 2 Gc λargs r e=>?_;unfold Gb at e;split at e
 ·rename_i xs n g
  cases e;refine⟨by simp,λhm=>?_⟩;obtain⟨⟨h1,hrest⟩,hg⟩:=hm _ rfl;have hx:isRg 140737488355328 xs:=⟨h1,hrest⟩;obtain⟨X,hX⟩:∃X,X=iP xs n g:=⟨_,rfl⟩;rw [<-hX];have e:X=(l9 (cK xs) (cL xs) (gK xs) (pn (gC xs)) (λi=>ai (pg (gC xs) i)) (gL xs)||aA (λi=>bh (ai g i)) n):=hX;clear hX;obtain⟨A,hA⟩:∃A,A=l9 (cK xs) (cL xs) (gK xs) (pn (gC xs)) (λi=>ai (pg (gC xs) i)) (gL xs):=⟨_,rfl⟩;rw [<-hA] at e;generalize cK xs=lo at *
  generalize cL xs=hi at *
  generalize gK xs=k at *
  generalize gC xs=c at *
  generalize gL xs=l at *
  generalize gO xs=o at *
  subst h1;clear hm;refine⟨[],aa [(0,.agg (bN lo hi k c l o)),(1,.rs 6 n g)] [] 0 [],Wo trivial ⟨⟨rfl,rfl,rfl,rfl,rfl,rfl,rfl,rfl,rfl,rfl,rfl,rfl,qW,qW,qQ⟩,qW,qQ⟩ trivial,?_⟩;have v1:l9 lo hi k (pn c) (λi=>ai (pg c i)) l=false->PV.val (.bool (aA (λi=>bh (ai g i)) n))=PV.val (.bool X):=λh=>by rw [e,hA,h];rfl
  have v2:l9 lo hi k (pn c) (λi=>ai (pg c i)) l=true->PV.val (.bool true)=PV.val (.bool X):=λh=>by rw [e,hA,h];rfl
  with_unfolding_all exact⟨hx,λh1=>⟨hg,⟨[],aa [(4,.val (.bool X))] [] 0 [],Wo trivial ⟨v1 h1,qQ⟩ trivial,rfl,rfl⟩⟩,λh1=>⟨[],aa [(4,.val (.bool X))] [] 0 [],Wo trivial ⟨v2 h1,qQ⟩ trivial,rfl,rfl⟩⟩
 ·cases e
def Ep:List PV->Option Ans
 |[.agg xs,.rs 6 n g]=>some ⟨some (isRg 140737488355328 xs/\isPL 140737488355328 n g),.val (.bool (kB xs n g)),[]⟩
 |_=>none
def D17:Opt:={  }
theorem Gd:ak D17.toOrd Tryz.f17 2=true:=by kernel_rfl
theorem f17:FnOk Tryz.prog 17 Ep:=by
 refine FnOk.ofW aj (am (l:=[(12,Gb),(58,FZ),(65,sO)]) (own:=[]) (inl:=[]) (by simp [f12,f58,BK]) (by simp)) Tryz.func17 D17 2 Gd λargs r e=>?_;unfold Ep at e;split at e
 ·rename_i xs n g
  cases e;refine⟨by simp,λhm=>?_⟩;obtain⟨⟨h1,hrest⟩,hg⟩:=hm _ rfl;have hx:isRg 140737488355328 xs:=⟨h1,hrest⟩;obtain⟨X,hX⟩:∃X,X=kB xs n g:=⟨_,rfl⟩;rw [<-hX];have e:X=((!iP xs n g&&(qu xs==0))&&!aA (λi=>!ah (ai g i)) n):=hX;clear hX;have p1:(!iP xs n g)=true->isRg 10000 xs:=λh=>by
   have h:iP xs n g=false:=by simpa using h
   unfold iP at h;rw [Bool.or_eq_false_iff] at h;exact(tZ h.1 hx).mono (by decide)
  have p2:(!iP xs n g)=true->isPL 4294967296 n g:=λh=>by
   have h:iP xs n g=false:=by simpa using h
   unfold iP at h;rw [Bool.or_eq_false_iff] at h;exact(za h.2 hg).mono (by decide)
  have v1:(!iP xs n g)=true->(qu xs==0)=true->PV.val (.bool (!aA (λi=>!ah (ai g i)) n))=PV.val (.bool X):=λh h'=>by rw [e,h,h'];rfl
  have v2:(!iP xs n g)=true->(qu xs==0)=false->PV.val (.bool false)=PV.val (.bool X):=λh h'=>by rw [e,h,h'];rfl
  have v3:(!iP xs n g)=false->PV.val (.bool false)=PV.val (.bool X):=λh=>by rw [e,h];rfl
  clear e;generalize cK xs=lo at *
  generalize cL xs=hi at *
  generalize gK xs=k at *
  generalize gC xs=c at *
  generalize gL xs=l at *
  generalize gO xs=o at *
  subst h1;clear hm;refine⟨[],aa [(0,.agg (bN lo hi k c l o)),(1,.rs 6 n g)] [] 0 [],Wo trivial ⟨⟨rfl,rfl,rfl,rfl,rfl,rfl,rfl,rfl,rfl,rfl,rfl,rfl,qW,qW,qQ⟩,qW,qQ⟩ trivial,?_⟩;with_unfolding_all exact⟨⟨hx,hg⟩,λh1=>⟨p1 h1,λh2=>⟨p2 h1,⟨[],aa [(4,.val (.bool X))] [] 0 [],Wo trivial ⟨v1 h1 h2,qQ⟩ trivial,rfl,rfl⟩⟩,λh2=>⟨[],aa [(4,.val (.bool X))] [] 0 [],Wo trivial ⟨v2 h1 h2,qQ⟩ trivial,rfl,rfl⟩⟩,λh1=>⟨λh=>(nomatch h),λ_=>⟨[],aa [(4,.val (.bool X))] [] 0 [],Wo trivial ⟨v3 h1,qQ⟩ trivial,rfl,rfl⟩⟩⟩
 ·cases e
def Ge:List PV->Option Ans
 |[.agg xs,.val v]=>some ⟨some (isRg 10000 xs/\isPk 10000 v),.val (.tuple ⟨[.int .i64 (uU (fo (cK xs) (cL xs) (gK xs) (gC xs) (gL xs) (gO xs) (ao (aN v) (aN v))) (dA (cK xs) (cL xs) (gK xs) (gC xs) (ao (aN v) (aN v)))),.bool (fo (cK xs) (cL xs) (gK xs) (gC xs) (gL xs) (gO xs) (ao (aN v) (aN v))&&!(dA (cK xs) (cL xs) (gK xs) (gC xs) (ao (aN v) (aN v))).isEmpty),.int .i64 (cD (fo (cK xs) (cL xs) (gK xs) (gC xs) (gL xs) (gO xs) (ao (aN v) (aN v))))]⟩),[]⟩
 |_=>none
def D71:Opt:={  }
theorem Gf:ak D71.toOrd Tryz.f71 2=true:=by kernel_rfl
theorem f71:FnOk Tryz.prog 71 Ge:=by
 refine FnOk.ofW aj (am (l:=[(91,EI)]) (own:=[]) (inl:=[]) (by simp [f91]) (by simp)) Tryz.func71 D71 2 Gf λargs r e=>?_;unfold Ge at e;split at e
 ·rename_i xs v
  cases e;refine⟨by simp,λhm=>?_⟩;obtain⟨⟨h1,⟨hlo,hhi⟩,hcl,hol⟩,a,rfl,ha⟩:=hm _ rfl;generalize cK xs=lo at *
  generalize cL xs=hi at *
  generalize gK xs=k at *
  generalize gC xs=c at *
  generalize gL xs=l at *
  generalize gO xs=o at *
  subst h1;clear hm;refine⟨[],aa [(0,.agg (bN lo hi k c l o)),(1,.val a.v)] [] 0 [],Wo trivial ⟨⟨rfl,rfl,rfl,rfl,rfl,rfl,rfl,rfl,rfl,rfl,rfl,rfl,qW,qW,qQ⟩,rfl,qQ⟩ trivial,?_⟩;have pre:((lo.le 10000/\hi.le 10000)/\bZ 10000 k (λi=>[.rs 6 (pn c i) (pg c i)])/\c8 l (λi=>ab (ow o i)))/\eG 10000 (ao a a):=⟨⟨⟨hlo,hhi⟩,⟨λi hi=>⟨rfl,(hcl.1 i hi).2⟩,hcl.2⟩,λ_ _=>rfl,hol.2⟩,a,a,rfl,ha,ha⟩;obtain⟨OK,hOK⟩:∃OK,OK=fo lo hi k c l o (ao a a):=⟨_,rfl⟩;obtain⟨PC,hPC⟩:∃PC,PC=dA lo hi k c (ao a a):=⟨_,rfl⟩;have e1:fo lo hi k c l o (ao (aN a.v) (aN a.v))=OK:=hOK.symm;have e2:dA lo hi k c (ao (aN a.v) (aN a.v))=PC:=hPC.symm;rw [e1,e2];have e3:fo lo hi k (λi=>[.rs 6 (pn c i) (pg c i)]) l (λi=>ab (ow o i)) (ao a a)=OK:=hOK.symm;have e4:dA lo hi k (λi=>[.rs 6 (pn c i) (pg c i)]) (ao a a)=PC:=hPC.symm;have w1:PV.val (.int .i64 (uU (fo lo hi k (λi=>[.rs 6 (pn c i) (pg c i)]) l (λi=>ab (ow o i)) (ao a a)) (dA lo hi k (λi=>[.rs 6 (pn c i) (pg c i)]) (ao a a))))=PV.val (.int .i64 (uU OK PC)):=by rw [e3,e4]
  have w2:PV.val (.bool (fo lo hi k (λi=>[.rs 6 (pn c i) (pg c i)]) l (λi=>ab (ow o i)) (ao a a)&&!(dA lo hi k (λi=>[.rs 6 (pn c i) (pg c i)]) (ao a a)).isEmpty))=PV.val (.bool (OK&&!PC.isEmpty)):=by rw [e3,e4]
  have w3:PV.val (.int .i64 (cD (fo lo hi k (λi=>[.rs 6 (pn c i) (pg c i)]) l (λi=>ab (ow o i)) (ao a a))))=PV.val (.int .i64 (cD OK)):=by rw [e3]
  clear hOK hPC e1 e2 e3 e4;with_unfolding_all exact⟨pre,[],aa [(4,.val (.int .i64 (uU OK PC))),(5,.val (.bool (OK&&!PC.isEmpty))),(6,.val (.int .i64 (cD OK)))] [] 0 [],Wo trivial ⟨w1,w2,w3,qQ⟩ trivial,rfl,rfl⟩
 ·cases e
def Gg:List PV->Option Ans
 |[.agg xs,.val v]=>some ⟨some (isRg 10000 xs/\isPk 10000 v),.val (.bool (aV (cK xs) (cL xs) (gK xs) (gC xs) (gL xs) (gO xs) (aN v) (aN v))),[]⟩
 |_=>none
def D26:Opt:={  }
theorem Gh:ak D26.toOrd Tryz.f26 2=true:=by kernel_rfl
theorem f26:FnOk Tryz.prog 26 Gg:=by
 refine FnOk.ofW aj (am (l:=[(71,Ge)]) (own:=[]) (inl:=[]) (by simp [f71]) (by simp)) Tryz.func26 D26 2 Gh λargs r e=>?_;unfold Gg at e;split at e
 ·rename_i xs v
  cases e;refine⟨by simp,λhm=>?_⟩;obtain⟨⟨h1,hrest⟩,a,rfl,ha⟩:=hm _ rfl;have hx:isRg 10000 xs:=⟨h1,hrest⟩;have pa:isPk 10000 a.v:=⟨a,rfl,ha⟩;generalize cK xs=lo at *
  generalize cL xs=hi at *
  generalize gK xs=k at *
  generalize gC xs=c at *
  generalize gL xs=l at *
  generalize gO xs=o at *
  subst h1;clear hm;refine⟨[],aa [(0,.agg (bN lo hi k c l o)),(1,.val a.v)] [] 0 [],Wo trivial ⟨⟨rfl,rfl,rfl,rfl,rfl,rfl,rfl,rfl,rfl,rfl,rfl,rfl,qW,qW,qQ⟩,rfl,qQ⟩ trivial,?_⟩;obtain⟨X,hX⟩:∃X,X=aV lo hi k c l o a a:=⟨_,rfl⟩;have hx2:aV lo hi k c l o (aN a.v) (aN a.v)=X:=hX.symm;rw [hx2];have v1:(cD (fo lo hi k c l o (ao a a))==0)=true->PV.val (.bool (!(fo lo hi k c l o (ao a a)&&!(dA lo hi k c (ao a a)).isEmpty)))=PV.val (.bool X):=λh=>by
   have h:fo lo hi k c l o (ao a a)=true:=by
    cases hb:fo lo hi k c l o (ao a a) with
    |true=>rfl
    |false =>
     rw [hb] at h;cases h
   rw [hX,aV,h,Bool.true_and,Bool.true_and,Bool.not_not]
  have v2:(cD (fo lo hi k c l o (ao a a))==0)=false->PV.val (.bool false)=PV.val (.bool X):=λh=>by
   have h:fo lo hi k c l o (ao a a)=false:=by
    cases hb:fo lo hi k c l o (ao a a) with
    |false=>rfl
    |true =>
     rw [hb] at h;cases h
   rw [hX,aV,h,Bool.false_and]
  with_unfolding_all exact⟨⟨hx,pa⟩,λh1=>⟨[],aa [(4,.val (.bool X))] [] 0 [],Wo trivial ⟨v1 h1,qQ⟩ trivial,rfl,rfl⟩,λh1=>⟨[],aa [(4,.val (.bool X))] [] 0 [],Wo trivial ⟨v2 h1,qQ⟩ trivial,rfl,rfl⟩⟩
 ·cases e
end Go.Proofs
namespace Go.Num
theorem iQ {c v:Rat} (h:0 < c*v) (hv:0 < v):0 < c:=by
 rcases Rat.le_total (a:=c) (b:=0) with h1|h1
 ·have:=Rat.mul_nonneg (show 0 <= -c by grind) (show 0<=v by grind)
  grind
 ·by_cases e:c=0
  ·subst e;grind
  ·grind
def EL (a b c x y z:Rat):Rat:=(b - a)*(z - x) - (y - x)*(c - a)
def dt (X Y:Nat->Rat) (i j k:Nat):Rat:=EL (X i) (X j) (X k) (Y i) (Y j) (Y k)
theorem sP {u1 u2 v1 v2 w1 w2:Rat} (hu:0 < u1\/(u1=0/\0 < u2)) (hv:0 < v1\/(v1=0/\0 < v2)) (hw:0 < w1\/(w1=0/\0 < w2)) (h1:0 < u1*v2 - u2*v1) (h2:0 < v1*w2 - v2*w1):0 < u1*w2 - u2*w1:=by
 have hv1:0 < v1:=by
  rcases hv with h|⟨h,k⟩
  ·exact h
  ·subst h;rcases hw with h3|⟨h3,_⟩
   ·have:=Rat.mul_pos k h3
    grind
   ·subst h3;grind
 have hu1:0 < u1:=by
  rcases hu with h|⟨h,k⟩
  ·exact h
  ·subst h;have:=Rat.mul_pos k hv1
   grind
 have hw1:0<=w1:=by
  rcases hw with h|⟨h,_⟩
  ·grind
  ·grind
 have k1:=Rat.mul_nonneg (Rat.le_of_lt h1) hw1;have k2:=Rat.mul_pos h2 hu1;refine iQ (v:=v1) ?_ hv1;have e:(u1*w2 - u2*w1)*v1=(u1*v2 - u2*v1)*w1+(v1*w2 - v2*w1)*u1:=by grind
 rw [e]
 grind
theorem Er (X Y:Nat->Rat) (a b c d:Nat):dt X Y a b d*dt X Y 0 b c=dt X Y a b c*dt X Y 0 b d+dt X Y 0 a b*dt X Y b c d:=by
 unfold dt EL;generalize X 0=x0,X a=xa,X b=xb,X c=xc,X d=xd,Y 0=y0,Y a=ya,Y b=yb,Y c=yc,Y d=yd
 grind
theorem Es (X Y:Nat->Rat) (a b c d:Nat):dt X Y a c d*dt X Y 0 b c=dt X Y a b c*dt X Y 0 c d+dt X Y 0 a c*dt X Y b c d:=by
 unfold dt EL;generalize X 0=x0,X a=xa,X b=xb,X c=xc,X d=xd,Y 0=y0,Y a=ya,Y b=yb,Y c=yc,Y d=yd
 grind
theorem xe (X Y:Nat->Rat) (i j k:Nat):dt X Y j k i=dt X Y i j k:=by
 unfold dt EL;generalize X i=xa,X j=xb,X k=xc,Y i=ya,Y j=yb,Y k=yc
 grind
theorem sQ {X Y:Nat->Rat} {n:Nat} (h0:∀i,0 < i->i < n->X 0 < X i\/(X i=X 0/\Y 0 < Y i)) (h1:∀i,i+2 < n->0 < dt X Y i (i+1) (i+2)) (h2:∀i,0 < i->i+1 < n->0 < dt X Y 0 i (i+1)) :
  ∀i j k,i < j->j < k->k < n->0 < dt X Y i j k:=by
 have hH:∀i,0 < i->i < n->0 < X i - X 0\/(X i - X 0=0/\0 < Y i - Y 0):=λi a b=>by
  rcases h0 i a b with h|⟨h,k⟩
  ·exact .inl (by grind)
  ·exact .inr ⟨by grind,by grind⟩
 have fan:∀d i,0 < i->i+1+d < n->0 < dt X Y 0 i (i+1+d):=λd=>by
  induction d with
  |zero=>exactλi a b=>h2 i a b
  |succ d ih =>
   intro i a b;have k1:=ih i a (by omega);have k2:=h2 (i+1+d) (by omega) (by omega);exact sP (hH i a (by omega)) (hH (i+1+d) (by omega) (by omega)) (hH (i+1+d+1) (by omega) (by omega)) k1 k2
 have fan':∀i j,0 < i->i < j->j < n->0 < dt X Y 0 i j:=λi j a b c=>by
  have:=fan (j - (i+1)) i a (by omega)
  rwa [show i+1+(j - (i+1))=j by omega] at this
 have span:∀m i j k,0 < i->i < j->j < k->k < n->k - i<=m->0 < dt X Y i j k:=λm=>by
  induction m with
  |zero=>intro i j k _ a b _ d;omega
  |succ m ih =>
   intro i j k hi a b c d;by_cases e1:j+1=k
   ·subst e1;by_cases e2:i+1=j
    ·subst e2;exact h1 i (by omega)
    ·have t1:=ih i (i+1) j hi (by omega) (by omega) (by omega) (by omega);have t2:=ih (i+1) j (j+1) (by omega) (by omega) (by omega) (by omega) (by omega);refine iQ (v:=dt X Y 0 (i+1) j) ?_ (fan' (i+1) j (by omega) (by omega) (by omega));rw [Es];have s1:=Rat.mul_pos t1 (fan' j (j+1) (by omega) (by omega) (by omega));have s2:=Rat.mul_pos (fan' i j hi a (by omega)) t2
     grind
   ·have t1:=ih i j (k - 1) hi a (by omega) (by omega) (by omega);have t2:=ih j (k - 1) k (by omega) (by omega) (by omega) (by omega) (by omega);refine iQ (v:=dt X Y 0 j (k - 1)) ?_ (fan' j (k - 1) (by omega) (by omega) (by omega));rw [Er];have s1:=Rat.mul_pos t1 (fan' j k (by omega) b c);have s2:=Rat.mul_pos (fan' i j hi a (by omega)) t2
    grind
 intro i j k a b c;rcases Nat.eq_zero_or_pos i with rfl|hi
 ·exact fan' j k a b c
 ·exact span (k - i) i j k hi a b c (Nat.le_refl _)
theorem qv {X Y:Nat->Rat} {n:Nat} (hn:3<=n) (h:∀i j k,i < j->j < k->k < n->0 < dt X Y i j k) {e i:Nat} (he:e < n) (hi:i < n) (h1:i≠e) (h2:i≠(e+1)%n):0 < dt X Y e ((e+1)%n) i:=by
 by_cases hl:e+1 < n
 ·rw [Nat.mod_eq_of_lt hl] at h2 ⊢;rcases Nat.lt_or_ge i e with h3|h3
  ·rw [xe];exact h i e (e+1) h3 (by omega) hl
  ·exact h e (e+1) i (by omega) (by omega) hi
 ·have e1:e+1=n:=by omega
  rw [e1,Nat.mod_self] at h2 ⊢;rw [<-xe];exact h 0 i e (by omega) (by omega) he
theorem jz {a:Rat}:decide (an a 0<=0)=false↔0 < a:=by
 rw [decide_eq_false_iff_not];unfold an;split
 ·rename_i h
  exact⟨λk=>absurd (show(-1:Int)<=0 by decide) k,λk=>by grind⟩
 ·split
  ·rename_i h
   exact⟨λ_=>h,λ_=>by decide⟩
  ·rename_i h
   exact⟨λk=>absurd (show(0:Int)<=0 by decide) k,λk=>absurd k h⟩
theorem gf {a:Rat}:decide (an a 0 > 0)=true↔0 < a:=by
 rw [decide_eq_true_iff];unfold an;split
 ·rename_i h
  exact⟨λk=>absurd k (by decide),λk=>by grind⟩
 ·split
  ·rename_i h
   exact⟨λ_=>h,λ_=>by decide⟩
  ·rename_i h
   exact⟨λk=>absurd k (by decide),λk=>absurd k h⟩
theorem sR (p:Nat->PtS) (i j k:Nat):gp (p i) (p j) (p k)=an (dt (λi=>(p i).X) (λi=>(p i).Y) i j k) 0:=by
 unfold gp b9 cH;rw [fQ,fR,fQ,fR];rfl
theorem qz (p:RatS):BW p p=true:=by
 have h:∀x:ByteArray,(x==x)=true:=λ⟨x⟩=>by
  show(x==x)=true;exact beq_self_eq_true x
 unfold BW;rw [beq_self_eq_true,h,h];rfl
theorem jA (p:PtS):bH p p=true:=by
 unfold bH;rw [qz,qz];rfl
theorem ze {p u:PtS} (h:dp p u < 0):p.X < u.X\/(u.X=p.X/\p.Y < u.Y):=by
 unfold dp at h;split at h
 ·rename_i h0
  unfold an at h h0;right;split at h
  ·rename_i h1
   refine⟨?_,h1⟩;split at h0
   ·cases h0
   ·split at h0
    ·cases h0
    ·grind
  ·split at h
   ·exact absurd h (by decide)
   ·exact absurd h (by decide)
 ·unfold an at h;split at h
  ·rename_i h1
   exact .inl h1
  ·split at h
   ·exact absurd h (by decide)
   ·exact absurd h (by decide)
theorem zf {p u:PtS} (h:p.X < u.X\/(u.X=p.X/\p.Y < u.Y)):¬dp u p<=0:=by
 unfold dp an;rcases h with h|⟨h,k⟩
 ·have h1:¬u.X < p.X:=by grind
  rw [if_neg h1,if_pos h,if_neg (show ¬(1:Int)=0 by decide)];decide
 ·have h1:¬u.Y < p.Y:=by grind
  rw [h,if_neg Rat.lt_irrefl,if_neg Rat.lt_irrefl,if_pos rfl,if_neg h1,if_pos k];decide
theorem sS {n:Nat} {p:Nat->PtS} (h:cv n p=0):aY n p=0:=by
 unfold cv at h;unfold aY;cases h1:(decide (n < 3)||decide (64 < n)) with
 |true=>rw [h1] at h;cases h
 |false =>
  rw [h1,cond_false] at h;rw [cond_false];cases h2:aA (λi=>!ah (p i)) n with
  |true=>rw [h2] at h;cases h
  |false =>
   rw [h2,cond_false] at h;rw [cond_false];cases h3:aA (w8 p) (n - 1) with
   |true=>rw [h3] at h;cases h
   |false =>
    rw [h3,cond_false] at h;cases h4:aA (dL n p) n with
    |true=>rw [h4] at h;cases h
    |false =>
     have hn:3<=n:=by
      rw [Bool.or_eq_false_iff,decide_eq_false_iff_not] at h1;omega
     have k0:∀i,0 < i->i < n->(p 0).X < (p i).X\/((p i).X=(p 0).X/\(p 0).Y < (p i).Y):=λi a b=>by
      have:=(aE.1 h3) (i - 1) (by omega);unfold w8 at this;rw [decide_eq_false_iff_not,show 1+(i - 1)=i by omega] at this;exact ze (by omega)
     have k1:∀i,i+2 < n->0 < dt (λi=>(p i).X) (λi=>(p i).Y) i (i+1) (i+2):=λi a=>by
      have:=(aE.1 h4) i (by omega);unfold dL at this;rw [Bool.or_eq_false_iff,Nat.mod_eq_of_lt (by omega),Nat.mod_eq_of_lt (by omega),sR] at this;exact jz.1 this.1
     have k2:∀i,0 < i->i+1 < n->0 < dt (λi=>(p i).X) (λi=>(p i).Y) 0 i (i+1):=λi a b=>by
      have:=(aE.1 h4) i (by omega);unfold dL at this;rw [Bool.or_eq_false_iff,decide_eq_true a,decide_eq_true b,Bool.true_and,Bool.true_and,sR p 0 i (i+1)] at this;exact jz.1 this.2
     have hall:=sQ (X:=λi=>(p i).X) (Y:=λi=>(p i).Y) (n:=n) k0 k1 k2;rw [aE.2 λi hi=>?_,cond_false,aE.2 λe he=>aE.2 λi hi=>?_]
     ·rfl
     ·unfold dz;by_cases e1:i=e
      ·rw [e1,jA];rfl
      ·by_cases e2:i=(e+1)%n
       ·rw [<-e2,jA,Bool.not_true,Bool.and_false];rfl
       ·rw [sR p e ((e+1)%n) i,jz.2 (qv hn hall he hi e1 e2),Bool.and_false]
     ·unfold mY;exact decide_eq_false (zf (k0 (1+i) (by omega) (by omega)))
theorem gT {r r':Nat->Int}:∀{k i:Nat},(∀j,i<=j->j < i+k->r j=0->r' j=0)->bm r k i=0->bm r' k i=0
 |0,_,_,_=>rfl
 |k+1,i,h,e=>by
  unfold bm at e ⊢;cases h0:(r i==0) with
  |true =>
   rw [h0,cond_true] at e;rw [h i (Nat.le_refl _) (by omega) (eq_of_beq h0)];exact gT (λj a b=>h j (by omega) (by omega)) e
  |false =>
   rw [h0,cond_false] at e;rw [e] at h0;cases h0
theorem u0 {lo hi:PtS} {k:Nat} {n:Nat->Nat} {r r':Nat->Int} {l:Nat} {q:Nat->Int×Int×Int} (h:∀j,j < k->r j=0->r' j=0) (e:qp lo hi k n r l q=0):qp lo hi k n r' l q=0:=by
 unfold qp at e ⊢;cases h1:(!ah lo||!ah hi) with
 |true=>rw [h1] at e;cases e
 |false =>
  rw [h1,cond_false] at e;cases h2:decide (32 < k) with
  |true=>rw [h2] at e;cases e
  |false =>
   rw [h2,cond_false] at e;have hz:bm r k 0=0:=by
    cases h3:(bm r k 0==0) with
    |true=>exact eq_of_beq h3
    |false=>rw [h3] at e;exact e
   rw [hz] at e;rw [gT (λj _ b=>h j (by omega)) hz];exact e
theorem t6 {xs:List PV} (h:qu xs=0):bz (cK xs) (cL xs) (gK xs) (pn (gC xs)) (λi=>ai (pg (gC xs) i)) (gL xs) (ow (gO xs))=0:=by
 rw [BI];exact u0 (λj _ hj=>sS hj) h
def Hit (n:Nat) (A B:Nat->Rat):Prop:=∃t:Rat,0 < t/\t < 1/\∀e,e < n->0 < A e+(B e - A e)*t
theorem Hit.symm {n:Nat} {A B:Nat->Rat} (h:Hit n A B):Hit n B A:=by
 obtain⟨t,h1,h2,h3⟩:=h;refine⟨1 - t,by grind,by grind,λe he=>?_⟩;have:=h3 e he
 grind
theorem xf {A B:Rat} (h:0 < A):∃t:Rat,0 < t/\t < 1/\∀s:Rat,0 < s->s<=t->0 < A+(B - A)*s:=by
 by_cases hB:0<=B
 ·refine⟨1 / 2,by grind,by grind,λs h1 h2=>?_⟩;have k1:=Rat.mul_nonneg hB (Rat.le_of_lt h1);have k2:=Rat.mul_pos h (show 0 < 1 - s by grind)
  grind
 ·have hd:0 < A - B:=by grind
  have hi:0 < (A - B)⁻¹:=Rat.inv_pos.2 hd;have e:(A - B)*(A - B)⁻¹ = 1:=Rat.mul_inv_cancel _ (by grind);have k0:=Rat.mul_pos h hi;have k1:A*(A - B)⁻¹ < 1:=by
   have:=Rat.mul_pos (show 0 < -B by grind) hi
   grind
  refine⟨A*(A - B)⁻¹*(1 / 2),by grind,by grind,λs h1 h2=>?_⟩;have k2:=Rat.mul_nonneg (Rat.le_of_lt hd) (show 0<=A*(A - B)⁻¹*(1 / 2) - s by grind);have k3:(A - B)*(A*(A - B)⁻¹*(1 / 2) - s)=A*(1 / 2) - (A - B)*s:=by
   have:(A - B)*(A*(A - B)⁻¹*(1 / 2))=A*(1 / 2)*((A - B)*(A - B)⁻¹):=by grind
   grind
  grind
theorem qA {A B:Nat->Rat}:∀{n:Nat},(∀e,e < n->0 < A e)->∃t:Rat,0 < t/\t < 1/\∀e,e < n->∀s:Rat,0 < s->s<=t->0 < A e+(B e - A e)*s
 |0,_=>⟨1 / 2,by grind,by grind,λe he=>absurd he (Nat.not_lt_zero e)⟩
 |n+1,h=>by
  obtain⟨t,h1,h2,h3⟩:=qA (A:=A) (B:=B) (n:=n) λe he=>h e (by omega);obtain⟨u,k1,k2,k3⟩:=xf (B:=B n) (h n (by omega));refine⟨if t<=u then t else u,by split<;>assumption,by split<;>assumption,λe he s hs hst=>?_⟩;by_cases hen:e=n
  ·subst hen;exact k3 s hs (by split at hst<;>grind)
  ·exact h3 e (by omega) s hs (by split at hst<;>grind)
theorem Hit.near {n:Nat} {A B:Nat->Rat} (h:∀e,e < n->0 < A e):Hit n A B:=by
 obtain⟨t,h1,h2,h3⟩:=qA (A:=A) (B:=B) h;exact⟨t,h1,h2,λe he=>h3 e he t h1 Rat.le_refl⟩
theorem Hit.part {n:Nat} {A B C:Nat->Rat} {q:Rat} (h:¬Hit n A B) (h0:0<=q) (h1:q<=1) (hC:∀e,e < n->C e=A e+(B e - A e)*q):¬Hit n A C:=by
 rintro ⟨t,k0,k1,k2⟩;refine h ?_;by_cases hq:q=0
 ·refine Hit.near λe he=>?_;have:=k2 e he;rw [hC e he,hq] at this
  grind
 ·have hq':0 < q:=by grind
  refine⟨q*t,Rat.mul_pos hq' k0,?_,λe he=>?_⟩
  ·have:=Rat.mul_pos hq' (show 0 < 1 - t by grind)
   grind
  ·have:=k2 e he;rw [hC e he] at this
   grind
theorem sT {x y:Rat} {s:Rat×Rat} (h:gm x y s=none) {t:Rat} (h0:0 < t) (h1:t < 1):¬0 < x+(y - x)*t:=by
 unfold gm at h;cases c1:decide (an x 0 > 0) with
 |true =>
  rw [c1] at h;cases c2:decide (an y 0 > 0) with
  |true=>rw [c2] at h;cases h
  |false=>rw [c2] at h;cases h
 |false =>
  cases c2:decide (an y 0 > 0) with
  |true=>rw [c1,c2] at h;cases h
  |false =>
   have e1:¬0 < x:=λk=>by rw [gf.2 k] at c1;cases c1
   have e2:¬0 < y:=λk=>by rw [gf.2 k] at c2;cases c2
   have k1:=Rat.mul_nonneg (show 0 <= -x by grind) (show 0<=1 - t by grind);have k2:=Rat.mul_nonneg (show 0 <= -y by grind) (Rat.le_of_lt h0)
   grind
theorem qC {a b:Rat}:decide (an a b > 0)=true↔b < a:=by
 rw [decide_eq_true_iff];unfold an;split
 ·rename_i h
  exact⟨λk=>absurd k (by decide),λk=>by grind⟩
 ·split
  ·rename_i h
   exact⟨λ_=>h,λ_=>by decide⟩
  ·rename_i h
   exact⟨λk=>absurd k (by decide),λk=>absurd k h⟩
theorem qD {a b:Rat}:decide (an a b < 0)=true↔a < b:=by
 rw [decide_eq_true_iff];unfold an;split
 ·rename_i h
  exact⟨λ_=>h,λ_=>by decide⟩
 ·split
  ·rename_i h h2
   exact⟨λk=>absurd k (by decide),λk=>absurd k h⟩
  ·rename_i h h2
   exact⟨λk=>absurd k (by decide),λk=>absurd k h⟩
theorem qE {x y t:Rat} (h:0 < x - y):t < x / (x - y)↔0 < x+(y - x)*t:=by
 have hi:0 < (x - y)⁻¹:=Rat.inv_pos.2 h;have e:(x - y)*(x - y)⁻¹ = 1:=Rat.mul_inv_cancel _ (by grind);rw [Rat.div_def];constructor
 ·intro k;have:=Rat.mul_pos (show 0 < x*(x - y)⁻¹ - t by grind) h;have e2:(x*(x - y)⁻¹ - t)*(x - y)=x*((x - y)*(x - y)⁻¹) - t*(x - y):=by grind
  rw [e2,e] at this
  grind
 ·intro k;have:=Rat.mul_pos k hi;have e2:(x+(y - x)*t)*(x - y)⁻¹ = x*(x - y)⁻¹ - t*((x - y)*(x - y)⁻¹):=by grind
  rw [e2,e] at this
  grind
theorem qF {x y t:Rat} (h:x - y < 0):x / (x - y) < t↔0 < x+(y - x)*t:=by
 have hd:0 < y - x:=by grind
 have hi:0 < (y - x)⁻¹:=Rat.inv_pos.2 hd;have e:(y - x)*(y - x)⁻¹ = 1:=Rat.mul_inv_cancel _ (by grind);have e0:x / (x - y) = -x*(y - x)⁻¹:=by
  rw [Rat.div_def];have n1:(x - y)*(x - y)⁻¹ = 1:=Rat.mul_inv_cancel _ (by grind);have:(x - y)⁻¹ = -(y - x)⁻¹:=by
   have k:(x - y)⁻¹*((y - x)*(y - x)⁻¹)=(x - y)⁻¹:=by rw [e,Rat.mul_one]
   have k2:(x - y)⁻¹*((y - x)*(y - x)⁻¹) = -((x - y)*(x - y)⁻¹)*(y - x)⁻¹:=by grind
   rw [n1] at k2
   grind
  rw [this]
  grind
 rw [e0];constructor
 ·intro k;have:=Rat.mul_pos (show 0 < t - -x*(y - x)⁻¹ by grind) hd;have e2:(t - -x*(y - x)⁻¹)*(y - x)=t*(y - x)+x*((y - x)*(y - x)⁻¹):=by grind
  rw [e2,e] at this
  grind
 ·intro k;have:=Rat.mul_pos k hi;have e2:(x+(y - x)*t)*(y - x)⁻¹ = x*(y - x)⁻¹+t*((y - x)*(y - x)⁻¹):=by grind
  rw [e2,e] at this
  grind
theorem ma {x y:Rat} {s s':Rat×Rat} (h:gm x y s=some s'):(s.1<=s'.1/\s'.2<=s.2)/\∀t:Rat,0 < t->t < 1->(s'.1 < t/\t < s'.2↔(s.1 < t/\t < s.2)/\0 < x+(y - x)*t):=by
 unfold gm at h;cases c1:decide (an x 0 > 0) with
 |true =>
  have e1:=gf.1 c1;rw [c1] at h;cases c2:decide (an y 0 > 0) with
  |true =>
   have e2:=gf.1 c2;rw [c2] at h;cases h;refine⟨⟨Rat.le_refl,Rat.le_refl⟩,λt h0 h1=>⟨λk=>⟨k,?_⟩,λk=>k.1⟩⟩;have k1:=Rat.mul_pos e1 (show 0 < 1 - t by grind);have k2:=Rat.mul_pos e2 h0
   grind
  |false =>
   have e2:¬0 < y:=λk=>by rw [gf.2 k] at c2;cases c2
   rw [c2] at h;have hl:=λt=>qE (x:=x) (y:=y) (t:=t) (by grind);cases c3:decide (an (x / (x - y)) s.2 < 0) with
   |true =>
    have e3:=qD.1 c3;rw [c3] at h;cases h;refine⟨⟨Rat.le_refl,Rat.le_of_lt e3⟩,λt h0 h1=>⟨λk=>⟨⟨k.1,?_⟩,(hl t).1 k.2⟩,λk=>⟨k.1.1,(hl t).2 k.2⟩⟩⟩;have:t < x / (x - y):=k.2
    grind
   |false =>
    have e3:¬x / (x - y) < s.2:=λk=>by rw [qD.2 k] at c3;cases c3
    rw [c3] at h;cases h;refine⟨⟨Rat.le_refl,Rat.le_refl⟩,λt h0 h1=>⟨λk=>⟨k,(hl t).1 ?_⟩,λk=>k.1⟩⟩;have:t < s.2:=k.2
    grind
 |false =>
  have e1:¬0 < x:=λk=>by rw [gf.2 k] at c1;cases c1
  rw [c1] at h;cases c2:decide (an y 0 > 0) with
  |false=>rw [c2] at h;cases h
  |true =>
   have e2:=gf.1 c2;rw [c2] at h;have hl:=λt=>qF (x:=x) (y:=y) (t:=t) (by grind);cases c3:decide (an (x / (x - y)) s.1 > 0) with
   |true =>
    have e3:=qC.1 c3;rw [c3] at h;cases h;refine⟨⟨Rat.le_of_lt e3,Rat.le_refl⟩,λt h0 h1=>⟨λk=>⟨⟨?_,k.2⟩,(hl t).1 k.1⟩,λk=>⟨(hl t).2 k.2,k.1.2⟩⟩⟩;have:x / (x - y) < t:=k.1
    grind
   |false =>
    have e3:¬s.1 < x / (x - y):=λk=>by rw [qC.2 k] at c3;cases c3
    rw [c3] at h;cases h;refine⟨⟨Rat.le_refl,Rat.le_refl⟩,λt h0 h1=>⟨λk=>⟨k,(hl t).1 ?_⟩,λk=>k.1⟩⟩;have:s.1 < t:=k.1
    grind
def ms (n:Nat) (p:Nat->PtS) (a:PtS) (e:Nat):Rat:=qP (p e) (p ((e+1)%n)) a
theorem mb {n:Nat} {p:Nat->PtS} {a b:PtS}:∀{k e:Nat} {s:Rat×Rat},dq n p a b k e s=none->∀t:Rat,0 < t->t < 1->¬((s.1 < t/\t < s.2)/\∀i,e<=i->i < e+k->0 < ms n p a i+(ms n p b i - ms n p a i)*t)
 |0,_,_,h=>by cases h
 |k+1,e,s,h=>by
  intro t h0 h1 ⟨hs,hg⟩;unfold dq at h;cases hst:gm (qP (p e) (p ((e+1)%n)) a) (qP (p e) (p ((e+1)%n)) b) s with
  |none=>exact sT hst h0 h1 (hg e (Nat.le_refl _) (by omega))
  |some s' =>
   rw [hst] at h;exact mb h t h0 h1 ⟨((ma hst).2 t h0 h1).2 ⟨hs,hg e (Nat.le_refl _) (by omega)⟩,λi a b=>hg i (by omega) (by omega)⟩
theorem mc {n:Nat} {p:Nat->PtS} {a b:PtS}:∀{k e:Nat} {s s':Rat×Rat},dq n p a b k e s=some s'->(s.1<=s'.1/\s'.2<=s.2)/\∀t:Rat,0 < t->t < 1->(s'.1 < t/\t < s'.2↔(s.1 < t/\t < s.2)/\∀i,e<=i->i < e+k->0 < ms n p a i+(ms n p b i - ms n p a i)*t)
 |0,_,_,_,h=>by
  cases h;exact⟨⟨Rat.le_refl,Rat.le_refl⟩,λt _ _=>⟨λk=>⟨k,λi a b=>by omega⟩,λk=>k.1⟩⟩
 |k+1,e,s,s',h=>by
  unfold dq at h;cases hst:gm (qP (p e) (p ((e+1)%n)) a) (qP (p e) (p ((e+1)%n)) b) s with
  |none=>rw [hst] at h;cases h
  |some s1 =>
   rw [hst] at h;obtain⟨k1,k2⟩:=ma hst;obtain⟨k3,k4⟩:=mc h;refine⟨⟨Rat.le_trans k1.1 k3.1,Rat.le_trans k3.2 k1.2⟩,λt h0 h1=>?_⟩;rw [k4 t h0 h1,k2 t h0 h1];constructor
   ·rintro ⟨⟨u,v⟩,w⟩;refine⟨u,λi x y=>?_⟩;by_cases hi:i=e
    ·subst hi;exact v
    ·exact w i (by omega) (by omega)
   ·rintro ⟨u,w⟩;exact⟨⟨u,w e (Nat.le_refl _) (by omega)⟩,λi x y=>w i (by omega) (by omega)⟩
theorem u7 {n:Nat} {p:Nat->PtS} {a b:PtS} (hB:gn n p a b=false):cW n p a b=none↔¬Hit n (ms n p a) (ms n p b):=by
 unfold cW;rw [hB,cond_false,Rat.zero_mkRat,show mkRat 1 1=(1:Rat) by rfl];cases hF:dq n p a b n 0 (0,1) with
 |none =>
  refine⟨λ_=>?_,λ_=>rfl⟩;rintro ⟨t,h0,h1,h2⟩;exact mb hF t h0 h1 ⟨⟨h0,h1⟩,λi _ hi=>h2 i (by omega)⟩
 |some s =>
  obtain⟨⟨k1,k2⟩,k3⟩:=mc hF;have k1:0<=s.1:=k1;have k2:s.2<=1:=k2;cases hc:decide (an s.1 s.2>=0) with
  |true =>
   refine⟨λ_=>?_,λ_=>by simp only [Option.bind_some,hc,cond_true]⟩;rintro ⟨t,h0,h1,h2⟩;have:=(k3 t h0 h1).2 ⟨⟨h0,h1⟩,λi _ hi=>h2 i (by omega)⟩;have hlt:s.1 < s.2:=by grind
   have hc:an s.1 s.2>=0:=of_decide_eq_true hc;unfold an at hc;rw [if_pos hlt] at hc;exact absurd hc (by decide)
  |false =>
   have hlt:s.1 < s.2:=by
    have hc:¬an s.1 s.2>=0:=of_decide_eq_false hc;unfold an at hc;split at hc
    ·rename_i h
     exact h
    ·split at hc
     ·exact absurd (show(1:Int)>=0 by decide) hc
     ·exact absurd (show(0:Int)>=0 by decide) hc
   constructor
   ·intro h;simp only [Option.bind_some,hc,cond_false] at h;cases h
   ·intro h;refine absurd ?_ h;have m0:0 < (s.1+s.2)*(1 / 2):=by grind
    have m1:(s.1+s.2)*(1 / 2) < 1:=by grind
    exact⟨(s.1+s.2)*(1 / 2),m0,m1,λe he=>((k3 _ m0 m1).1 ⟨by grind,by grind⟩).2 e (Nat.zero_le _) (by omega)⟩
theorem BM {n:Nat} {p:Nat->PtS} {a b c:PtS} {q:Rat} (hx:c.X=a.X+(b.X - a.X)*q) (hy:c.Y=a.Y+(b.Y - a.Y)*q) (e:Nat):ms n p c e=ms n p a e+(ms n p b e - ms n p a e)*q:=by
 unfold ms qP b9 cH;simp only [fQ,fR];rw [hx,hy]
 grind
theorem zg {i:Nat} {lo hi a b c:PtS} {q:Rat} (hx:c.X=a.X+(b.X - a.X)*q) (hy:c.Y=a.Y+(b.Y - a.Y)*q):aI i lo hi c=aI i lo hi a+(aI i lo hi b - aI i lo hi a)*q:=by
 unfold aI;split
 ·rw [hx];grind
 ·rw [hx];grind
 ·rw [hy];grind
 ·rw [hy];grind
structure SeeM (lo hi:PtS) (k:Nat) (c:Nat->List PV) (a b:PtS):Prop where
 inA:∀i,i < 4->aI i lo hi a<=0
 inB:∀i,i < 4->aI i lo hi b<=0
 clear:∀i,i < k->¬Hit (pn c i) (ms (pn c i) (ai (pg c i)) a) (ms (pn c i) (ai (pg c i)) b)
theorem SeeM.symm {lo hi:PtS} {k:Nat} {c:Nat->List PV} {a b:PtS} (h:SeeM lo hi k c a b):SeeM lo hi k c b a :=
 ⟨h.inB,h.inA,λi hi k=>h.clear i hi k.symm⟩
theorem SeeM.part {lo hi:PtS} {k:Nat} {c:Nat->List PV} {a b d:PtS} (h:SeeM lo hi k c a b) {q:Rat} (h0:0<=q) (h1:q<=1) (hx:d.X=a.X+(b.X - a.X)*q) (hy:d.Y=a.Y+(b.Y - a.Y)*q):SeeM lo hi k c a d:=by
 refine⟨h.inA,λi h4=>?_,λi hi=>Hit.part (h.clear i hi) h0 h1 λe _=>BM hx hy e⟩;rw [zg hx hy];have k1:=h.inA i h4;have k2:=h.inB i h4;have k3:=Rat.mul_nonneg (show 0 <= -aI i lo hi a by grind) (show 0<=1 - q by grind);have k4:=Rat.mul_nonneg (show 0 <= -aI i lo hi b by grind) h0
 grind
theorem SeeM.self {lo hi:PtS} {k:Nat} {c:Nat->List PV} {a b:PtS} (h:SeeM lo hi k c a b):SeeM lo hi k c a a :=
 h.part (q:=0) Rat.le_refl (by grind) (by grind) (by grind)
theorem me {lo hi:PtS} {n:Nat->Nat} {p:Nat->Nat->PtS} {a b:PtS}:∀{j:Nat},ay lo hi n p a b j=[]↔∀i,i < j->(if i < 4 then dM i lo hi a b else qf (i - 4) (n (i - 4)) (p (i - 4)) a b)=[]
 |0=>⟨λ_ i hi=>absurd hi (Nat.not_lt_zero i),λ_=>rfl⟩
 |j+1=>by
  rw [ay,List.append_eq_nil_iff,me];constructor
  ·rintro ⟨h1,h2⟩ i hi;by_cases e:i=j
   ·rw [e];exact h2
   ·exact h1 i (by omega)
  ·intro h;exact⟨λi hi=>h i (by omega),h j (by omega)⟩
theorem qG {i:Nat} {lo hi a b:PtS}:dM i lo hi a b=[]↔aI i lo hi a<=0/\aI i lo hi b<=0:=by
 have hq:∀x:Rat,decide (an x 0<=0)=true↔x<=0:=λx=>by
  cases h:decide (an x 0<=0) with
  |false =>
   have:=jz.1 h;exact⟨λk=>(by cases k),λk=>by grind⟩
  |true =>
   refine⟨λ_=>?_,λ_=>rfl⟩;by_cases hx:0 < x
   ·rw [jz.2 hx] at h;cases h
   ·grind
 unfold dM;cases h:(decide (an (aI i lo hi a) 0<=0)&&decide (an (aI i lo hi b) 0<=0)) with
 |true =>
  rw [Bool.and_eq_true,hq,hq] at h;exact⟨λ_=>h,λ_=>rfl⟩
 |false =>
  refine⟨λk=>(by cases k),λk=>?_⟩;rw [(hq _).2 k.1,(hq _).2 k.2] at h;cases h
theorem qH {i n:Nat} {p:Nat->PtS} {a b:PtS} (hB:gn n p a b=false):qf i n p a b=[]↔¬Hit n (ms n p a) (ms n p b):=by
 rw [<-u7 hB];unfold qf;cases cW n p a b with
 |none=>exact⟨λ_=>rfl,λ_=>rfl⟩
 |some s=>exact⟨λk=>(by cases k),λk=>by cases k⟩
theorem fU {lo hi:PtS} {k:Nat} {n:Nat->Nat} {p:Nat->Nat->PtS} {l:Nat} {q:Nat->Int×Int×Int} (h:bz lo hi k n p l q=0):∀i,i < k->aY (n i) (p i)=0:=by
 have hf:∀{r:Nat->Int} {k i:Nat},bm r k i=0->∀j,i<=j->j < i+k->r j=0:=λ{r k}=>by
  induction k with
  |zero=>intro i _ j a b;omega
  |succ k ih =>
   intro i h j a b;unfold bm at h;cases h0:(r i==0) with
   |true =>
    rw [h0,cond_true] at h;by_cases e:j=i
    ·rw [e];exact eq_of_beq h0
    ·exact ih h j (by omega) (by omega)
   |false =>
    rw [h0,cond_false] at h;rw [h] at h0;cases h0
 intro i hik;unfold bz at h;cases h1:(!ah lo||!ah hi) with
 |true=>rw [h1] at h;cases h
 |false =>
  rw [h1,cond_false] at h;cases h2:decide (32 < k) with
  |true=>rw [h2] at h;cases h
  |false =>
   rw [h2,cond_false] at h;have hz:bm (λi=>aY (n i) (p i)) k 0=0:=by
    cases h3:(bm (λi=>aY (n i) (p i)) k 0==0) with
    |true=>exact eq_of_beq h3
    |false=>rw [h3] at h;exact h
   exact hf hz i (Nat.zero_le _) (by omega)
theorem du {lo hi:PtS} {k:Nat} {c:Nat->List PV} {l:Nat} {o:Nat->List PV} {a b:PtS} (hr:bz lo hi k (pn c) (λi=>ai (pg c i)) l (ow o)=0) (ha:ah a=true) (hb:ah b=true):aV lo hi k c l o a b=true↔SeeM lo hi k c a b:=by
 have ok:fo lo hi k c l o (ao a b)=true:=by
  show(!(!ah a||!ah b)&&(bz lo hi k (pn c) (λi=>ai (pg c i)) l (ow o)==0))=true;rw [ha,hb,hr];rfl
 have hB:∀i,i < k->gn (pn c i) (ai (pg c i)) a b=false:=λi hi=>by
  unfold gn;rw [fU hr i hi,ha,hb];rfl
 unfold aV;rw [ok,Bool.true_and,List.isEmpty_iff];show ay lo hi (pn c) (λi=>ai (pg c i)) a b (k+4)=[]↔_;rw [me];constructor
 ·intro h;have h4:∀i,i < 4->aI i lo hi a<=0/\aI i lo hi b<=0:=λi hi=>by
   have:=h i (by omega);rw [if_pos hi] at this;exact qG.1 this
  refine⟨λi hi=>(h4 i hi).1,λi hi=>(h4 i hi).2,λi hi=>?_⟩;have:=h (i+4) (by omega);rw [if_neg (by omega),Nat.add_sub_cancel] at this;exact(qH (hB i hi)).1 this
 ·intro h i hi;split
  ·rename_i h4
   exact qG.2 ⟨h.inA i h4,h.inB i h4⟩
  ·rename_i h4
   exact(qH (hB (i - 4) (by omega))).2 (h.clear (i - 4) (by omega))
end Go.Num
namespace Go.Proofs
def Et:List PV->Option Ans
 |[.agg xs,.val v,.val u]=>some ⟨some (isRg 10000 xs/\isPk 10000 v/\isPk 10000 u),.val (.tuple ⟨[.bool (aV (cK xs) (cL xs) (gK xs) (gC xs) (gL xs) (gO xs) (aN v) (aN u)),.int .i64 (cD (fo (cK xs) (cL xs) (gK xs) (gC xs) (gL xs) (gO xs) (ao (aN v) (aN u))))]⟩),[]⟩
 |_=>none
theorem Gi:ak {} Tryz.f21 3=true:=by kernel_rfl
theorem f21:FnOk Tryz.prog 21 Et:=by
 refine FnOk.ofW aj (am (l:=[(55,DW),(56,Eb)]) (own:=[]) (inl:=[]) (by simp [f55,f56]) (by simp)) Tryz.func21 {} 3 Gi λargs r e=>?_;unfold Et at e;split at e
 ·rename_i xs v u
  cases e;refine⟨by simp,λhm=>?_⟩;obtain⟨⟨h1,⟨hlo,hhi⟩,hcl,hol⟩,⟨a,rfl,ha⟩,b,rfl,hb⟩:=hm _ rfl;generalize cK xs=lo at *
  generalize cL xs=hi at *
  generalize gK xs=k at *
  generalize gC xs=c at *
  generalize gL xs=l at *
  generalize gO xs=o at *
  subst h1;clear hm;refine⟨[],aa [(0,.agg (bN lo hi k c l o)),(1,.val a.v),(2,.val b.v)] [] 0 [],Wo trivial ⟨⟨rfl,rfl,rfl,rfl,rfl,rfl,rfl,rfl,rfl,rfl,rfl,rfl,qW,qW,qQ⟩,rfl,rfl,qQ⟩ trivial,?_⟩;have hrg:((lo.le 4294967296/\hi.le 4294967296)/\bZ 10000 k c/\c8 l o):=⟨⟨hlo.mono (by decide),hhi.mono (by decide)⟩,hcl,hol⟩;have hrg2:((lo.le 10000/\hi.le 10000)/\bZ 10000 k c/\c8 l o):=⟨⟨hlo,hhi⟩,hcl,hol⟩;have ha':=ha.mono (show 10000<=4294967296 by decide);have hb':=hb.mono (show 10000<=4294967296 by decide);obtain⟨S,hS⟩:∃S,S=aV lo hi k c l o a b:=⟨_,rfl⟩;have hv:aV lo hi k c l o (aN a.v) (aN b.v)=S:=hS.symm;rw [hv];obtain⟨OK,hOK⟩:∃OK,OK=fo lo hi k c l o (ao a b):=⟨_,rfl⟩;have hw:fo lo hi k c l o (ao (aN a.v) (aN b.v))=OK:=hOK.symm;rw [hw];have cn:∀r:Nat->List PV,ai r 0=a->ai r 1=b->aA (λi=>!ah (ai r i)) 2=(!ah a||!ah b):=λr h h'=>by
   have e:List.range 2=[0,1]:=rfl;simp only [aA,e,List.any_cons,List.any_nil,Bool.or_false,h,h']
  have p2:∀r:Nat->List PV,r 0=a.cells->r 1=b.cells->isPL 4294967296 2 r:=λr h h'=>⟨λi hi=>by
   match i,hi with
   |0,_=>exact⟨by rw [ai,h];rfl,by rw [ai,h];exact ha'⟩
   |1,_=>exact⟨by rw [ai,h'];rfl,by rw [ai,h'];exact hb'⟩
   |i+2,h=>omega,by decide⟩
  have q1:∀r:Nat->List PV,ai r 0=a->ai r 1=b->((bz lo hi k (pn (λi=>[.rs 6 (pn c i) (pg c i)])) (λi=>ai (pg (λi=>[.rs 6 (pn c i) (pg c i)]) i)) l (ow (λi=>ab (ow o i)))==0)&&!aA (λi=>!ah (ai r i)) 2)=OK:=λr h h'=>by
   rw [cn r h h',hOK,Bool.and_comm];rfl
  have z:∀B:Bool,(cD B != 0)=true->B=false:=λB h=>by cases B<;>first|rfl|cases h
  have z':∀B:Bool,(cD B != 0)=false->B=true:=λB h=>by cases B<;>first|rfl|cases h
  have s0:OK=false->S=false:=λh=>by
   rw [hS,aV,<-hOK,h];rfl
  have hrg':((lo.le 4294967296/\hi.le 4294967296)/\bZ 10000 k (λi=>[.rs 6 (pn c i) (pg c i)])/\c8 l (λi=>ab (ow o i))):=⟨hrg.1,⟨λi hi=>⟨rfl,(hcl.1 i hi).2⟩,hcl.2⟩,λ_ _=>rfl,hol.2⟩;have hrg3:((lo.le 10000/\hi.le 10000)/\bZ 10000 k (λi=>[.rs 6 (pn c i) (pg c i)])/\c8 l (λi=>ab (ow o i))):=⟨hrg2.1,hrg'.2⟩;have v5:PV.val (.bool (aV lo hi k (λi=>[.rs 6 (pn c i) (pg c i)]) l (λi=>ab (ow o i)) (aN a.v) (aN b.v)))=PV.val (.bool S):=by
   rw [hS];rfl
  with_unfolding_all refine⟨⟨hrg',p2 _ rfl rfl⟩,λh1=>?_,λh1=>?_⟩
  ·have h2:OK=false:=(q1 _ rfl rfl).symm.trans (z _ h1);have v1:PV.val (.bool false)=PV.val (.bool S):=by rw [s0 h2]
   have v2:∀B,B=OK->PV.val (.int .i64 (cD B))=PV.val (.int .i64 (cD OK)):=λB h=>by rw [h]
   with_unfolding_all exact⟨[],aa [(6,.val (.bool S)),(7,.val (.int .i64 (cD OK)))] [] 0 [],Wo trivial ⟨v1,v2 _ (q1 _ rfl rfl),qQ⟩ trivial,rfl,rfl⟩
  ·have h2:OK=true:=(q1 _ rfl rfl).symm.trans (z' _ h1);have v3:PV.val (.int .i64 0)=PV.val (.int .i64 (cD OK)):=by rw [h2];rfl
   with_unfolding_all exact⟨⟨hrg3,⟨a,rfl,ha⟩,b,rfl,hb⟩,[],aa [(6,.val (.bool S)),(7,.val (.int .i64 (cD OK)))] [] 0 [],Wo trivial ⟨v5,v3,qQ⟩ trivial,rfl,rfl⟩
 ·cases e
end Go.Proofs
namespace Go.Num
def qL (L:List (Int×Int)) (i:Nat):Int×Int:=(L[i]?).getD (0,0)
theorem xg {L:List (Int×Int)} {x:Int×Int} {r:Nat->List PV} (h:r 0=ax x):∀i,i < L.length+1->ax (qL (L++[x]) i)=ll L.length (λi=>ax (qL L i)) r i:=λi hi=>by
 unfold ll qL;by_cases hl:i < L.length
 ·rw [if_pos hl,List.getElem?_append_left hl]
 ·obtain rfl:i=L.length:=by omega
  rw [if_neg hl,Nat.sub_self,h];simp
def bB (T:Int->Int->Bool) (q:Nat->Int×Int):Nat->List (Int×Int)
 |0=>[]
 |j+1=>bB T q j++(bif T (q j).1 (q j).2&&T (q j).2 (q j).1 then [q j] else [])
theorem ld (T:Int->Int->Bool) (q:Nat->Int×Int):∀j,(bB T q j).length<=j
 |0=>Nat.le_refl _
 |j+1=>by
  have:=ld T q j;unfold bB;rw [List.length_append];cases (T (q j).1 (q j).2&&T (q j).2 (q j).1)<;>simp<;>omega
def zh (lo hi:PtS) (k:Nat) (c:Nat->List PV) (l:Nat) (o:Nat->List PV) (n:Nat) (g:Nat->List PV) (m:Nat) (h:Nat->List PV):Bool:=(bz lo hi k (pn c) (λi=>ai (pg c i)) l (ow o)==0)&&cG n (ai g) m (kz h)
def iR (lo hi:PtS) (k:Nat) (c:Nat->List PV) (l:Nat) (o:Nat->List PV) (n:Nat) (g:Nat->List PV) (m:Nat) (h:Nat->List PV):List (Int×Int):=bif zh lo hi k c l o n g m h then bB (bW k c (ai g)) (kz h) m else []
theorem fV {n m:Nat} {q:Nat->Int×Int} (h:bX n q m=true) {i:Nat} (hi:i < m):0<=(q i).1/\(q i).1 < (q i).2/\(q i).2 < (n:Int)/\(0 < i->dK (q (i - 1)) (q i)=true):=by
 unfold bX at h;have h0:aA (gN n q) m=false:=by simpa using h
 have h1:=(aE.1 h0) i hi;unfold gN at h1;simp only [Bool.or_eq_false_iff,decide_eq_false_iff_not,Bool.and_eq_false_iff,Bool.not_eq_false'] at h1;exact⟨by omega,by omega,by omega,λhi=>by
  rcases h1.2 with h|h
  ·omega
  ·exact h⟩
theorem xh {n m:Nat} {q:Nat->Int×Int} (h:bX n q m=true):m<=n*n:=by
 have key:∀i,i < m->(i:Int)<=(q i).1*n+(q i).2:=λi=>by
  induction i with
  |zero =>
   intro hi;have:=fV h hi;have h2:=Int.mul_nonneg this.1 (Int.natCast_nonneg n);omega
  |succ i ih =>
   intro hi;have h1:=fV h hi;have h2:=fV h (show i < m by omega);have h3:=ih (by omega);have h4:=h1.2.2.2 (by omega);rw [Nat.add_sub_cancel] at h4;unfold dK at h4;simp only [Bool.or_eq_true,Bool.and_eq_true,decide_eq_true_eq] at h4;rcases h4 with h4|⟨h4,h5⟩
   ·have h6:=Int.mul_le_mul_of_nonneg_right (show(q i).1+1<=(q (i+1)).1 by omega) (Int.natCast_nonneg n);rw [Int.add_mul,Int.one_mul] at h6;omega
   ·rw [<-h4];omega
 rcases Nat.eq_zero_or_pos m with h0|h0
 ·omega
 ·have h1:=fV h (show m - 1 < m by omega);have h2:=key (m - 1) (by omega);have h3:=Int.mul_le_mul_of_nonneg_right (show(q (m - 1)).1<=(n:Int) - 1 by omega) (Int.natCast_nonneg n);rw [Int.sub_mul,Int.one_mul] at h3;have h4:(m:Int)<=(n:Int)*n:=by omega
  exact_mod_cast h4
end Go.Num
namespace Go.Proofs
theorem zi {f:FuncId} {p:PV} {r:Ans} (h:fZ Tryz.prog f [p,.rs 6 0 λ_=>[]] r):fZ Tryz.prog f [p,.val (.slice none 0 0)] r:=by
 refine⟨h.1,λhm A w vs hA hl hR=>h.2 hm A w vs hA hl λi q v e1 e2=>?_⟩
 match i with
 |0=>exact hR 0 q v e1 e2
 |1 =>
  cases e1;have:=hR 1 _ v rfl e2;cases this;exact .rs _ _ _ _ _ (λ_ _=>undef) (λi hi=>absurd hi (Nat.not_lt_zero i)) (Nat.le_refl _) (Nat.zero_le _) (λi f p hi=>absurd hi (Nat.not_lt_zero i)) (λi f p hi=>absurd hi (Nat.not_lt_zero i))
 |i+2=>simp at e1
def BN:List PV->Option Ans
 |[p,.val (.slice none 0 0)]=>DW [p,.rs 6 0 λ_=>[]]
 |_=>none
theorem Gj:FnOk Tryz.prog 55 BN:=λargs r e=>by
 unfold BN at e;split at e
 ·exact zi (f55 _ r e)
 ·cases e
def EM:List PV->Option Ans
 |[.agg xs,.agg [.rs 6 n g,.rs 2 m h]]=>some ⟨some (isRg 10000 xs/\isPL 10000 n g/\j7 m h),.tup [.rs 2 (iR (cK xs) (cL xs) (gK xs) (gC xs) (gL xs) (gO xs) n g m h).length (λi=>ax (qL (iR (cK xs) (cL xs) (gK xs) (gC xs) (gL xs) (gO xs) n g m h) i)),.val (.int .i64 (cD (zh (cK xs) (cL xs) (gK xs) (gC xs) (gL xs) (gO xs) n g m h)))],[]⟩
 |_=>none
theorem Gk:ak {} Tryz.f18 2=true:=by kernel_rfl
theorem f18:FnOk Tryz.prog 18 EM:=by
 refine FnOk.ofW aj (am (l:=[(55,BN),(68,Fg),(69,FP)]) (own:=[]) (inl:=[]) (by simp [Gj,f68,f69]) (by simp)) Tryz.func18 {} 2 Gk λargs r e=>?_;unfold EM at e;split at e
 ·rename_i xs n g m h
  cases e;refine⟨by simp,λhm=>?_⟩;obtain⟨⟨h1,⟨hlo,hhi⟩,hcl,hol⟩,hg,hq⟩:=hm _ rfl;generalize cK xs=lo at *
  generalize cL xs=hi at *
  generalize gK xs=k at *
  generalize gC xs=c at *
  generalize gL xs=l at *
  generalize gO xs=o at *
  subst h1;clear hm;refine⟨[],aa [(0,.agg (bN lo hi k c l o)),(1,.agg [.rs 6 n g,.rs 2 m (λi=>ax (kz h i))])] [] 0 [],Wo trivial ⟨⟨rfl,rfl,rfl,rfl,rfl,rfl,rfl,rfl,rfl,rfl,rfl,rfl,qW,qW,qQ⟩,⟨qW,⟨rfl,rfl,λi hi=>(hq.1 i hi).symm⟩,qQ⟩,qQ⟩ trivial,?_⟩;have hrg:((lo.le 4294967296/\hi.le 4294967296)/\bZ 10000 k c/\c8 l o):=⟨⟨hlo.mono (by decide),hhi.mono (by decide)⟩,hcl,hol⟩;have hg':isPL 4294967296 n g:=⟨λi hi=>⟨(hg.1 i hi).1,(hg.1 i hi).2.mono (by decide)⟩,hg.2⟩;have hqm:=hq.2;generalize hqq:kz h=q at *
  have hql:j7 m (λi=>ax (q i)):=⟨λ_ _=>rfl,hqm⟩;obtain⟨T,hT⟩:∃T,T=bW k c (ai g):=⟨_,rfl⟩;obtain⟨OK,hOK⟩:∃OK,OK=zh lo hi k c l o n g m h:=⟨_,rfl⟩;obtain⟨TR,hTR⟩:∃TR,TR=iR lo hi k c l o n g m h:=⟨_,rfl⟩;rw [<-hTR,<-hOK];have e1:TR=bif OK then bB T q m else []:=by rw [hTR,iR,<-hOK,<-hT,hqq]
  have e2:OK=((bz lo hi k (pn c) (λi=>ai (pg c i)) l (ow o)==0)&&cG n (ai g) m q):=by rw [hOK,zh,hqq]
  have b0:OK=false->TR.length=0:=λh=>by rw [e1,h];rfl
  have b1:OK=false->PV.val (.int .i64 1)=PV.val (.int .i64 (cD OK)):=λh=>by rw [h];rfl
  have q1:((bz lo hi k (pn (λi=>[.rs 6 (pn c i) (pg c i)])) (λi=>ai (pg (λi=>[.rs 6 (pn c i) (pg c i)]) i)) l (ow (λi=>ab (ow o i)))==0)&&!aA (λi=>!ah (ai (λ_=>[]) i)) 0)=(bz lo hi k (pn c) (λi=>ai (pg c i)) l (ow o)==0):=Bool.and_true _;have z:∀B:Bool,(cD B != 0)=true->B=false:=λB h=>by cases B<;>first|rfl|cases h
  have z':∀B:Bool,(cD B != 0)=false->B=true:=λB h=>by cases B<;>first|rfl|cases h
  have f1:(cD ((bz lo hi k (pn (λi=>[.rs 6 (pn c i) (pg c i)])) (λi=>ai (pg (λi=>[.rs 6 (pn c i) (pg c i)]) i)) l (ow (λi=>ab (ow o i)))==0)&&!aA (λi=>!ah (ai (λ_=>[]) i)) 0) != 0)=true->OK=false:=λh=>by
   have:=q1.symm.trans (z _ h);rw [e2,this];rfl
  have f2:(!cG n (ai g) m (kz λi=>ax (q i)))=true->OK=false:=λh=>by
   have h:cG n (ai g) m q=false:=by
    have h:(!cG n (ai g) m q)=true:=h;simpa using h
   rw [e2,h,Bool.and_false]
  have f3:(cD ((bz lo hi k (pn (λi=>[.rs 6 (pn c i) (pg c i)])) (λi=>ai (pg (λi=>[.rs 6 (pn c i) (pg c i)]) i)) l (ow (λi=>ab (ow o i)))==0)&&!aA (λi=>!ah (ai (λ_=>[]) i)) 0) != 0)=false->(!cG n (ai g) m (kz λi=>ax (q i)))=false->OK=true/\cG n (ai g) m q=true:=λh h'=>by
   have h1:=q1.symm.trans (z' _ h);have h2:cG n (ai g) m q=true:=by
    have h:(!cG n (ai g) m q)=false:=h';simpa using h
   exact⟨by rw [e2,h1,h2];rfl,h2⟩
  have hcl':bZ 10000 k (λi=>[.rs 6 (pn c i) (pg c i)]):=⟨λi hi=>⟨rfl,(hcl.1 i hi).2⟩,hcl.2⟩;have hol':c8 l (λi=>ab (ow o i)):=⟨λ_ _=>rfl,hol.2⟩;have hrg':((lo.le 4294967296/\hi.le 4294967296)/\bZ 10000 k (λi=>[.rs 6 (pn c i) (pg c i)])/\c8 l (λi=>ab (ow o i))):=⟨hrg.1,hcl',hol'⟩;have p0:isPL 4294967296 0 λ_=>[]:=⟨λi hi=>absurd hi (Nat.not_lt_zero i),Nat.zero_le _⟩;with_unfolding_all refine⟨⟨hrg',p0⟩,λh1=>⟨⟨hg',hql⟩,λh2=>⟨[],aa [(4,.rs 2 TR.length (λi=>ax (qL TR i))),(5,.val (.int .i64 (cD OK)))] [] 0 [],Wo trivial ⟨⟨rfl,b0 (f2 h2)⟩,b1 (f2 h2),qQ⟩ trivial,rfl,rfl⟩,λh2=>⟨Nat,λi=>(OK=true/\cG n (ai g) m q=true)/\i<=m,λi=>aa [(2,.ptr 0 0 0 0),(3,.ptr 1 1 0 0),(6,.sl 2 2 0 (bB T q i).length),(18,.rs 2 m (λi=>ax (q i))),(19,.val (goInt m)),(20,.val (goInt i))] [⟨31,14,0,true,false,1,λ_=>bN lo hi k c l o⟩,⟨37,2,1,true,false,1,λ_=>[.rs 6 n g,.rs 2 m (λi=>ax (q i))]⟩,⟨46,2,2,false,false,(bB T q i).length,λj=>ax (qL (bB T q i) j)⟩] 3 [],λi=>m - i,⟨0,[some 0,some 1,none],⟨f3 h1 h2,Nat.zero_le _⟩,Wo ⟨qZ ⟨rq,rq,rq,rq,rq,rq,rq,rq,rq,rq,rq,rq,⟨qW,rfl⟩,⟨qW,rfl⟩,qQ⟩,qZ ⟨⟨qW,rfl⟩,⟨qW,rfl⟩,qQ⟩,⟨bf rfl,rfl,rfl,rfl⟩,qQ⟩ ⟨pP,pP,⟨rfl,rfl,rfl,rfl,bf rfl⟩,qW,rfl,rfl,qQ⟩ trivial⟩,λi hi=>?_⟩⟩,λh1=>⟨λ_=>⟨[],aa [(4,.rs 2 TR.length (λi=>ax (qL TR i))),(5,.val (.int .i64 (cD OK)))] [] 0 [],Wo trivial ⟨⟨rfl,b0 (f1 h1)⟩,b1 (f1 h1),qQ⟩ trivial,rfl,rfl⟩,λh=>nomatch h⟩⟩
  obtain⟨⟨hk1,hk2⟩,him⟩:(OK=true/\cG n (ai g) m q=true)/\i<=m:=hi;with_unfolding_all refine⟨λh1=>?_,λh1=>?_⟩
  ·have h1:(i:Int) < m:=bx h1;have ei:(i:Int).toNat=i:=Int.toNat_natCast i;have him:i+1<=m:=by omega
   have hμ : m - (i+1) < m - i:=by omega
   have hok:=hk2;unfold cG at hok;rw [Bool.and_eq_true,Bool.and_eq_true] at hok;have hn1:n<=1000:=of_decide_eq_true hok.1.1;have hmm:=xh hok.2;have hnn:n*n<=1000*1000:=Nat.mul_le_mul hn1 hn1;have hl:=fV hok.2 (show i < m by omega);have hl1:0<=(q (i:Int).toNat).1/\(q (i:Int).toNat).1 < n:=by rw [ei];omega
   have hl2:0<=(q (i:Int).toNat).2/\(q (i:Int).toNat).2 < n:=by rw [ei];omega
   have htl:=ld T q i;have wi:PV.val (.int .i64 (IntKind.i64.wrap ((i:Int)+1)))=PV.val (.int .i64 ((i+1:Nat):Int)):=by
    rw [wrap64 (by omega) (by omega)];rfl
   have pR:isRg 10000 (bN lo hi k c l o):=⟨rfl,⟨hlo,hhi⟩,hcl',hol'⟩;have hT':∀x y,bW k c (ai g) x y=T x y:=λx y=>by rw [hT]
   have tt:∀x y b,bW k (λi=>[.rs 6 (pn c i) (pg c i)]) (ai g) x y=b->T x y=b:=λx y b h=>(hT' x y).symm.trans h;have e3:T (q i).1 (q i).2=true->T (q i).2 (q i).1=true->bB T q (i+1)=bB T q i++[q i]:=λh h'=>by rw [bB,h,h'];rfl
   have e4:(T (q i).1 (q i).2&&T (q i).2 (q i).1)=false->bB T q (i+1)=bB T q i:=λh=>by rw [bB,h];exact List.append_nil _
   have hn0:(T (q (i:Int).toNat).1 (q (i:Int).toNat).2&&T (q (i:Int).toNat).2 (q (i:Int).toNat).1)=false->(bB T q (i+1)).length=(bB T q i).length:=λh=>by
    rw [ei] at h;rw [e4 h]
   have hr0:(T (q (i:Int).toNat).1 (q (i:Int).toNat).2&&T (q (i:Int).toNat).2 (q (i:Int).toNat).1)=false->∀j,j < (bB T q i).length->ax (qL (bB T q (i+1)) j)=ax (qL (bB T q i) j):=λh=>by
    rw [ei] at h;rw [e4 h];exactλ_ _=>rfl
   have hnA:T (q (i:Int).toNat).1 (q (i:Int).toNat).2=true->T (q (i:Int).toNat).2 (q (i:Int).toNat).1=true->(bB T q (i+1)).length=(bB T q i).length+1:=λh h'=>by
    rw [ei] at h h';rw [e3 h h',List.length_append];rfl
   have hr1:T (q (i:Int).toNat).1 (q (i:Int).toNat).2=true->T (q (i:Int).toNat).2 (q (i:Int).toNat).1=true->∀r:Nat->List PV,r 0=ax (q (i:Int).toNat)->∀j,j < (bB T q i).length+1->ax (qL (bB T q (i+1)) j)=ll (bB T q i).length (λj=>ax (qL (bB T q i) j)) r j:=λh h' r hr=>by
    rw [ei] at h h' hr;rw [e3 h h'];exact xg hr
   have k1:((bB T q i).length+1)*16<=140737488355328:=by omega
   have k2:(bB T q i).length+1<=9223372036854775807:=by omega
   have n1:∀x y:Bool,y=false->(x&&y)=false:=λx y h=>by rw [h,Bool.and_false]
   have n2:∀x y:Bool,x=false->(x&&y)=false:=λx y h=>by rw [h];rfl
   with_unfolding_all exact⟨⟨Int.natCast_nonneg i,h1⟩,⟨pR,hg,hl1,hl2⟩,λh2=>⟨⟨pR,hg,hl2,hl1⟩,λh3=>⟨⟨rfl,k1,k2⟩,⟨i+1,[some 0,some 1,some 2],⟨⟨hk1,hk2⟩,him⟩,hμ,Wo ⟨qZ ⟨rq,rq,rq,rq,rq,rq,rq,rq,rq,rq,rq,rq,⟨qW,rfl⟩,⟨qW,rfl⟩,qQ⟩,qZ ⟨⟨qW,rfl⟩,⟨qW,rfl⟩,qQ⟩,⟨bf rfl,rfl,rfl,rfl,rfl,(hnA (tt _ _ _ h2) (tt _ _ _ h3)),hr1 (tt _ _ _ h2) (tt _ _ _ h3) _ rfl⟩,qQ⟩ ⟨pP,pP,⟨rfl,rfl,(hnA (tt _ _ _ h2) (tt _ _ _ h3)).symm,bf rfl,_,rfl⟩,qW,rfl,wi,qQ⟩ trivial⟩⟩,λh3=>⟨i+1,[some 0,some 1,some 2],⟨⟨hk1,hk2⟩,him⟩,hμ,Wo ⟨qZ ⟨rq,rq,rq,rq,rq,rq,rq,rq,rq,rq,rq,rq,⟨qW,rfl⟩,⟨qW,rfl⟩,qQ⟩,qZ ⟨⟨qW,rfl⟩,⟨qW,rfl⟩,qQ⟩,⟨bf rfl,rfl,rfl,rfl,rfl,(hn0 (n1 _ _ (tt _ _ _ h3))),hr0 (n1 _ _ (tt _ _ _ h3))⟩,qQ⟩ ⟨pP,pP,⟨rfl,rfl,(hn0 (n1 _ _ (tt _ _ _ h3))).symm,bf rfl,_,rfl⟩,qW,rfl,wi,qQ⟩ trivial⟩⟩,λh2=>⟨λh=>(nomatch h),λ_=>⟨i+1,[some 0,some 1,some 2],⟨⟨hk1,hk2⟩,him⟩,hμ,Wo ⟨qZ ⟨rq,rq,rq,rq,rq,rq,rq,rq,rq,rq,rq,rq,⟨qW,rfl⟩,⟨qW,rfl⟩,qQ⟩,qZ ⟨⟨qW,rfl⟩,⟨qW,rfl⟩,qQ⟩,⟨bf rfl,rfl,rfl,rfl,rfl,(hn0 (n2 _ _ (tt _ _ _ h2))),hr0 (n2 _ _ (tt _ _ _ h2))⟩,qQ⟩ ⟨pP,pP,⟨rfl,rfl,(hn0 (n2 _ _ (tt _ _ _ h2))).symm,bf rfl,_,rfl⟩,qW,rfl,wi,qQ⟩ trivial⟩⟩⟩
  ·have h1:(m:Int)<=i:=dU h1;have h3:bB T q i=TR:=by
    rw [show i=m by omega,e1,hk1];rfl
   have v2:PV.val (.int .i64 0)=PV.val (.int .i64 (cD OK)):=by rw [hk1];rfl
   have v3:∀j,j < TR.length->ax (qL TR j)=ax (qL (bB T q i) (0+j)):=λj _=>by rw [h3,Nat.zero_add]
   with_unfolding_all exact⟨[],aa [(4,.rs 2 TR.length (λi=>ax (qL TR i))),(5,.val (.int .i64 (cD OK)))] [] 0 [],Wo trivial ⟨⟨by simp,_,rfl,rfl,rfl,congrArg List.length h3,v3⟩,v2,qQ⟩ trivial,rfl,rfl⟩
 ·cases e
end Go.Proofs
namespace Go.Num
def bu (p q:PtS) (C:Nat->PtS):Nat->List PtS
 |0=>[p,q]
 |j+1=>bu p q C j++(bif !bH (C j) p&&!bH (C j) q then [C j] else [])
def cI (S:PtS->PtS->Bool) (P:Nat->PtS) (i:Nat):Nat->List (Int×Int)
 |0=>[]
 |d+1=>cI S P i d++(bif S (P i) (P (i+1+d)) then [((i:Int),((i+1+d:Nat):Int))] else [])
def bG (S:PtS->PtS->Bool) (P:Nat->PtS) (n:Nat):Nat->List (Int×Int)
 |0=>[]
 |i+1=>bG S P n i++cI S P i (n - (i+1))
theorem Eu {L:List PtS} {x:PtS} {r:Nat->List PV} (h:r 0=x.cells):∀i,i < L.length+1->(ae (L++[x]) i).cells=ll L.length (λi=>(ae L i).cells) r i:=λi hi=>by
 unfold ll ae;by_cases hl:i < L.length
 ·rw [if_pos hl,List.getElem?_append_left hl]
 ·obtain rfl:i=L.length:=by omega
  rw [if_neg hl,Nat.sub_self,h];simp
theorem jB (p q:PtS) (C:Nat->PtS):∀j,2<=(bu p q C j).length/\(bu p q C j).length<=j+2
 |0=>⟨Nat.le_refl _,Nat.le_refl _⟩
 |j+1=>by
  have:=jB p q C j;unfold bu;rw [List.length_append];cases (!bH (C j) p&&!bH (C j) q)<;>simp<;>omega
theorem ke {p q:PtS} {C:Nat->PtS} (hp:p.le 10000) (hq:q.le 10000):∀{j:Nat},(∀i,i < j->(C i).le 10000)->∀x∈bu p q C j,x.le 10000
 |0,_,x,hx=>by
  rcases List.mem_cons.1 hx with rfl|hx
  ·exact hp
  ·rw [List.mem_singleton.1 hx];exact hq
 |j+1,hC,x,hx=>by
  unfold bu at hx;rcases List.mem_append.1 hx with hx|hx
  ·exact ke hp hq (λi hi=>hC i (by omega)) x hx
  ·cases hb:(!bH (C j) p&&!bH (C j) q) with
   |true =>
    rw [hb] at hx;rw [List.mem_singleton.1 hx];exact hC j (by omega)
   |false=>rw [hb] at hx;cases hx
theorem oP (S:PtS->PtS->Bool) (P:Nat->PtS) (i:Nat):∀d,(cI S P i d).length<=d
 |0=>Nat.le_refl _
 |d+1=>by
  have:=oP S P i d;unfold cI;rw [List.length_append];cases S (P i) (P (i+1+d))<;>simp<;>omega
theorem oQ (S:PtS->PtS->Bool) (P:Nat->PtS) (n:Nat):∀i,(bG S P n i).length<=i*n
 |0=>Nat.zero_le _
 |i+1=>by
  have:=oQ S P n i;have h2:=oP S P i (n - (i+1));unfold bG;rw [List.length_append,Nat.succ_mul];omega
def mF (lo hi:PtS) (k:Nat) (c:Nat->List PV) (l:Nat) (o:Nat->List PV) (p q:PtS):Int:=bif fo lo hi k c l o (ao p q) then bif aV lo hi k c l o p p&&aV lo hi k c l o q q then bif bH p q then 12 else 0 else 16 else 1
def bO (lo hi:PtS) (k:Nat) (c:Nat->List PV) (l:Nat) (o:Nat->List PV) (p q:PtS):List PtS:=bif mF lo hi k c l o p q==0 then bu p q (ae (dT lo hi k c l o)) (dT lo hi k c l o).length else []
def dN (lo hi:PtS) (k:Nat) (c:Nat->List PV) (l:Nat) (o:Nat->List PV) (p q:PtS):List (Int×Int):=bG (aV lo hi k c l o) (ae (bO lo hi k c l o p q)) (bO lo hi k c l o p q).length (bO lo hi k c l o p q).length
end Go.Num
namespace Go.Proofs
def EN:List PV->Option Ans
 |[.agg xs,.val v,.val u]=>some ⟨some ((isRg 10000 xs/\isPk 10000 v/\isPk 10000 u)/\(ap (cK xs) (cL xs) (gK xs) (gC xs) (gL xs) (gO xs)).length<=500),
  .tup [.agg [.rs 6 (bO (cK xs) (cL xs) (gK xs) (gC xs) (gL xs) (gO xs) (aN v) (aN u)).length (λi=>(ae (bO (cK xs) (cL xs) (gK xs) (gC xs) (gL xs) (gO xs) (aN v) (aN u)) i).cells),.rs 2 (dN (cK xs) (cL xs) (gK xs) (gC xs) (gL xs) (gO xs) (aN v) (aN u)).length (λi=>ax (qL (dN (cK xs) (cL xs) (gK xs) (gC xs) (gL xs) (gO xs) (aN v) (aN u)) i))],.val (.int .i64 (mF (cK xs) (cL xs) (gK xs) (gC xs) (gL xs) (gO xs) (aN v) (aN u)))],[]⟩
 |_=>none
def D14:Opt:={ perm:=iS 21 (rds 7) }
theorem Gl:ak D14.toOrd Tryz.f14 3=true:=by kernel_rfl
theorem f14:FnOk Tryz.prog 14 EN:=by
 refine FnOk.ofW aj (am (l:=[(55,DW),(56,Eb),(57,FN)]) (own:=[]) (inl:=[]) (by simp [f55,f56,f57]) (by simp)) Tryz.func14 D14 3 Gl λargs r e=>?_;unfold EN at e;split at e
 ·rename_i xs v u
  cases e;refine⟨by simp,λhm=>?_⟩;obtain⟨⟨⟨h1,⟨hlo,hhi⟩,hcl,hol⟩,⟨a,rfl,ha⟩,b,rfl,hb⟩,hN0⟩:=hm _ rfl;generalize cK xs=lo at *
  generalize cL xs=hi at *
  generalize gK xs=k at *
  generalize gC xs=c at *
  generalize gL xs=l at *
  generalize gO xs=o at *
  subst h1;clear hm;refine⟨[],aa [(0,.agg (bN lo hi k c l o)),(1,.val a.v),(2,.val b.v)] [] 0 [],Wo trivial ⟨⟨rfl,rfl,rfl,rfl,rfl,rfl,rfl,rfl,rfl,rfl,rfl,rfl,qW,qW,qQ⟩,rfl,rfl,qQ⟩ trivial,?_⟩;have ha':=ha.mono (show 10000<=4294967296 by decide);have hb':=hb.mono (show 10000<=4294967296 by decide);have hcl':bZ 10000 k (λi=>[.rs 6 (pn c i) (pg c i)]):=⟨λi hi=>⟨rfl,(hcl.1 i hi).2⟩,hcl.2⟩;have hol':c8 l (λi=>ab (ow o i)):=⟨λ_ _=>rfl,hol.2⟩;have hrg':((lo.le 4294967296/\hi.le 4294967296)/\bZ 10000 k (λi=>[.rs 6 (pn c i) (pg c i)])/\c8 l (λi=>ab (ow o i))):=⟨⟨hlo.mono (by decide),hhi.mono (by decide)⟩,hcl',hol'⟩;have hrg3:((lo.le 10000/\hi.le 10000)/\bZ 10000 k (λi=>[.rs 6 (pn c i) (pg c i)])/\c8 l (λi=>ab (ow o i))):=⟨⟨hlo,hhi⟩,hcl',hol'⟩;obtain⟨OK,hOK⟩:∃OK,OK=fo lo hi k c l o (ao a b):=⟨_,rfl⟩;obtain⟨S,hS⟩:∃S,S=aV lo hi k c l o:=⟨_,rfl⟩;have hSN:aV lo hi k (λi=>[.rs 6 (pn c i) (pg c i)]) l (λi=>ab (ow o i))=S:=by
   rw [hS];rfl
  obtain⟨C,hC⟩:∃C,C=ae (dT lo hi k c l o):=⟨_,rfl⟩;have hCN:ae (dT lo hi k (λi=>[.rs 6 (pn c i) (pg c i)]) l (λi=>ab (ow o i)))=C:=by
   rw [hC];rfl
  obtain⟨N,hNN⟩:∃N,N=(dT lo hi k c l o).length:=⟨_,rfl⟩;have hNNN:(dT lo hi k (λi=>[.rs 6 (pn c i) (pg c i)]) l (λi=>ab (ow o i))).length=N:=by
   rw [hNN];rfl
  obtain⟨BE,hBE⟩:∃BE,BE=mF lo hi k c l o a b:=⟨_,rfl⟩;obtain⟨BP,hBP⟩:∃BP,BP=bO lo hi k c l o a b:=⟨_,rfl⟩;obtain⟨BL,hBL⟩:∃BL,BL=dN lo hi k c l o a b:=⟨_,rfl⟩;show EB _ _ _ _ _ ⟨_,.tup [.agg [.rs 6 (bO lo hi k c l o a b).length (λi=>(ae (bO lo hi k c l o a b) i).cells),.rs 2 (dN lo hi k c l o a b).length (λi=>ax (qL (dN lo hi k c l o a b) i))],.val (.int .i64 (mF lo hi k c l o a b))],[]⟩;rw [<-hBE,<-hBP,<-hBL];have e0:BE=bif OK then bif S a a&&S b b then bif bH a b then 12 else 0 else 16 else 1:=by rw [hBE,mF,<-hOK,<-hS]
  have e1:BP=bif BE==0 then bu a b C N else []:=by rw [hBP,bO,<-hBE,<-hC,<-hNN]
  have e2:BL=bG S (ae BP) BP.length BP.length:=by rw [hBL,dN,<-hBP,<-hS]
  have hN:N<=500:=by
   rw [hNN];exact Nat.le_trans (l7 _ _) hN0
  have cn:∀r:Nat->List PV,ai r 0=a->ai r 1=b->aA (λi=>!ah (ai r i)) 2=(!ah a||!ah b):=λr h h'=>by
   have e:List.range 2=[0,1]:=rfl;simp only [aA,e,List.any_cons,List.any_nil,Bool.or_false,h,h']
  have p2:∀r:Nat->List PV,r 0=a.cells->r 1=b.cells->isPL 4294967296 2 r:=λr h h'=>⟨λi hi=>by
   match i,hi with
   |0,_=>exact⟨by rw [ai,h];rfl,by rw [ai,h];exact ha'⟩
   |1,_=>exact⟨by rw [ai,h'];rfl,by rw [ai,h'];exact hb'⟩
   |i+2,h=>omega,by decide⟩
  have q1:∀r:Nat->List PV,ai r 0=a->ai r 1=b->((bz lo hi k (pn (λi=>[.rs 6 (pn c i) (pg c i)])) (λi=>ai (pg (λi=>[.rs 6 (pn c i) (pg c i)]) i)) l (ow (λi=>ab (ow o i)))==0)&&!aA (λi=>!ah (ai r i)) 2)=OK:=λr h h'=>by
   rw [cn r h h',hOK,Bool.and_comm];rfl
  have z:∀B:Bool,(cD B != 0)=true->B=false:=λB h=>by cases B<;>first|rfl|cases h
  have z':∀B:Bool,(cD B != 0)=false->B=true:=λB h=>by cases B<;>first|rfl|cases h
  have bad:BE≠0->BP.length=0/\BL.length=0:=λh=>by
   have h0:(BE==0)=false:=by simpa using h
   have h1:BP=[]:=by rw [e1,h0];rfl
   exact⟨by rw [h1];rfl,by rw [e2,h1];rfl⟩
  have sA:∀B,B=S->∀x y,B x y=S x y:=λB h x y=>by rw [h]
  have neq:∀B:Bool,(!B)=true->B=false:=λB h=>by simpa using h
  have neq':∀B:Bool,(!B)=false->B=true:=λB h=>by simpa using h
  have h57:((lo.le 10000/\hi.le 10000)/\bZ 10000 k (λi=>[.rs 6 (pn c i) (pg c i)])/\c8 l (λi=>ab (ow o i)))/\(ap lo hi k (λi=>[.rs 6 (pn c i) (pg c i)]) l (λi=>ab (ow o i))).length<=500:=⟨hrg3,hN0⟩;have hrow:∀i,i < N->(C i).cells=(ae (dT lo hi k (λi=>[.rs 6 (pn c i) (pg c i)]) l (λi=>ab (ow o i))) i).cells:=λi _=>by rw [hCN]
  have hlen:PV.val (.int .i64 ((dT lo hi k (λi=>[.rs 6 (pn c i) (pg c i)]) l (λi=>ab (ow o i))).length:Int))=PV.val (goInt N):=by
   rw [hNNN];rfl
  have r0:∀r:Nat->List PV,r 0=a.cells->r 1=b.cells->∀i,i < 2->(ae (bu a b C 0) i).cells=r i:=λr h h' i hi=>by
   match i,hi with
   |0,_=>exact h.symm
   |1,_=>exact h'.symm
  have hCle:∀i,i < N->(C i).le 10000:=by
   rw [hNN,hC];exactλi hi=>jx (qo hcl) hi
  with_unfolding_all refine⟨⟨hrg',p2 _ rfl rfl⟩,λh1=>?_,λh1=>?_⟩
  ·have h2:OK=false:=(q1 _ rfl rfl).symm.trans (z _ h1);have hb1:BE=1:=by rw [e0,h2];rfl
   have hb0:BE≠0:=by rw [hb1];decide
   have v2:∀B,B=OK->PV.val (.int .i64 (cD B))=PV.val (.int .i64 BE):=λB h=>by rw [h,h2,hb1];rfl
   with_unfolding_all exact⟨[some 3],aa [(6,.ptr 0 0 0 0),(7,.val (.int .i64 BE))] [⟨37,2,0,true,false,1,λ_=>[.rs 6 BP.length (λi=>(ae BP i).cells),.rs 2 BL.length (λi=>ax (qL BL i))]⟩] 1 [],Wo ⟨qZ ⟨⟨⟨rfl,(bad hb0).1⟩,rfl⟩,⟨⟨rfl,(bad hb0).2⟩,rfl⟩,qQ⟩,qQ⟩ ⟨pP,v2 _ (q1 _ rfl rfl),qQ⟩ trivial,rfl,rfl⟩
  ·have hk:OK=true:=(q1 _ rfl rfl).symm.trans (z' _ h1);have b16:S a a=false\/S b b=false->BE=16:=λh=>by
    rw [e0,hk];rcases h with h|h
    ·rw [h];rfl
    ·rw [h,Bool.and_false];rfl
   have b12:S a a=true->S b b=true->bH a b=true->BE=12:=λh h' h2=>by rw [e0,hk,h,h',h2];rfl
   have n16:BE=16->BE≠0:=λh=>by rw [h];decide
   have n12:BE=12->BE≠0:=λh=>by rw [h];decide
   have v16:BE=16->PV.val (.int .i64 16)=PV.val (.int .i64 BE):=λh=>by rw [h]
   have v12:BE=12->PV.val (.int .i64 12)=PV.val (.int .i64 BE):=λh=>by rw [h]
   have fs:∀x,(!aV lo hi k (λi=>[.rs 6 (pn c i) (pg c i)]) l (λi=>ab (ow o i)) x x)=true->S x x=false:=λx h=>by rw [<-hSN];exact neq _ h
   have ft:∀x,(!aV lo hi k (λi=>[.rs 6 (pn c i) (pg c i)]) l (λi=>ab (ow o i)) x x)=false->S x x=true:=λx h=>by rw [<-hSN];exact neq' _ h
   with_unfolding_all refine⟨⟨hrg3,⟨a,rfl,ha⟩,a,rfl,ha⟩,λh2=>⟨⟨hrg3,⟨b,rfl,hb⟩,b,rfl,hb⟩,λh3=>⟨[some 3],aa [(6,.ptr 0 0 0 0),(7,.val (.int .i64 BE))] [⟨37,2,0,true,false,1,λ_=>[.rs 6 BP.length (λi=>(ae BP i).cells),.rs 2 BL.length (λi=>ax (qL BL i))]⟩] 1 [],Wo ⟨qZ ⟨⟨⟨rfl,(bad (n16 (b16 (.inr (fs b h3))))).1⟩,rfl⟩,⟨⟨rfl,(bad (n16 (b16 (.inr (fs b h3))))).2⟩,rfl⟩,qQ⟩,qQ⟩ ⟨pP,v16 (b16 (.inr (fs b h3))),qQ⟩ trivial,rfl,rfl⟩,λh3=>⟨λh4=>⟨[some 3],aa [(6,.ptr 0 0 0 0),(7,.val (.int .i64 BE))] [⟨37,2,0,true,false,1,λ_=>[.rs 6 BP.length (λi=>(ae BP i).cells),.rs 2 BL.length (λi=>ax (qL BL i))]⟩] 1 [],Wo ⟨qZ ⟨⟨⟨rfl,(bad (n12 (b12 (ft a h2) (ft b h3) h4))).1⟩,rfl⟩,⟨⟨rfl,(bad (n12 (b12 (ft a h2) (ft b h3) h4))).2⟩,rfl⟩,qQ⟩,qQ⟩ ⟨pP,v12 (b12 (ft a h2) (ft b h3) h4),qQ⟩ trivial,rfl,rfl⟩,λh4=>⟨h57,Nat,λj=>(OK=true/\S a a=true/\S b b=true/\bH a b=false)/\j<=N,λj=>aa [(3,.ptr 0 0 0 0),(4,.ptr 1 1 0 0),(5,.ptr 2 2 0 0),(6,.ptr 3 3 0 0),(9,.ptr 4 4 0 0),(46,.rs 6 N (λi=>(C i).cells)),(47,.val (goInt N)),(48,.val (goInt j))] [⟨31,14,0,true,false,1,λ_=>bN lo hi k c l o⟩,⟨25,6,1,true,false,1,λ_=>a.cells⟩,⟨25,6,2,true,false,1,λ_=>b.cells⟩,⟨37,2,3,true,false,1,λ_=>[.val (.slice none 0 0),.val (.slice none 0 0)]⟩,⟨37,2,4,true,false,1,λ_=>[.sl 5 5 0 (bu a b C j).length,.val (.slice none 0 0)]⟩,⟨25,6,5,false,false,(bu a b C j).length,λi=>(ae (bu a b C j) i).cells⟩] 6 [],λj=>N - j,⟨0,[some 0,some 1,some 2,some 3,some 6,some 5],⟨⟨hk,ft a h2,ft b h3,h4⟩,Nat.zero_le _⟩,Wo ⟨qZ ⟨rq,rq,rq,rq,rq,rq,rq,rq,rq,rq,rq,rq,⟨qW,rfl⟩,⟨qW,rfl⟩,qQ⟩,qK,qK,qJ,qZ ⟨⟨pP,rfl⟩,rq,qQ⟩,qZ (r0 _ rfl rfl),qQ⟩ ⟨pP,pP,pP,pP,pP,⟨rfl,hNNN,hrow⟩,hlen,rfl,qQ⟩ trivial⟩,λj hj=>?_⟩⟩⟩,λh2=>⟨λ_=>⟨[some 3],aa [(6,.ptr 0 0 0 0),(7,.val (.int .i64 BE))] [⟨37,2,0,true,false,1,λ_=>[.rs 6 BP.length (λi=>(ae BP i).cells),.rs 2 BL.length (λi=>ax (qL BL i))]⟩] 1 [],Wo ⟨qZ ⟨⟨⟨rfl,(bad (n16 (b16 (.inl (fs a h2))))).1⟩,rfl⟩,⟨⟨rfl,(bad (n16 (b16 (.inl (fs a h2))))).2⟩,rfl⟩,qQ⟩,qQ⟩ ⟨pP,v16 (b16 (.inl (fs a h2))),qQ⟩ trivial,rfl,rfl⟩,λh=>(nomatch h)⟩⟩
   obtain⟨⟨g1,g2,g3,g4⟩,hjN⟩:(OK=true/\S a a=true/\S b b=true/\bH a b=false)/\j<=N:=hj;with_unfolding_all refine⟨λh1=>?_,λh1=>?_⟩
   ·have h1:(j:Int) < N:=bx h1;have ej:(j:Int).toNat=j:=Int.toNat_natCast j;have hjN1:j+1<=N:=by omega
    have hμ : N - (j+1) < N - j:=by omega
    have hkl:=jB a b C j;have wj:PV.val (.int .i64 (IntKind.i64.wrap ((j:Int)+1)))=PV.val (.int .i64 ((j+1:Nat):Int)):=by
     rw [wrap64 (by omega) (by omega)];rfl
    have e3:bH (C j) a=false->bH (C j) b=false->bu a b C (j+1)=bu a b C j++[C j]:=λh h'=>by rw [bu,h,h'];rfl
    have e4:(!bH (C j) a&&!bH (C j) b)=false->bu a b C (j+1)=bu a b C j:=λh=>by rw [bu,h];exact List.append_nil _
    have hn0:(!bH (C (j:Int).toNat) a&&!bH (C (j:Int).toNat) b)=false->(bu a b C (j+1)).length=(bu a b C j).length:=λh=>by
     rw [ej] at h;rw [e4 h]
    have hr0:(!bH (C (j:Int).toNat) a&&!bH (C (j:Int).toNat) b)=false->∀i,i < (bu a b C j).length->(ae (bu a b C (j+1)) i).cells=(ae (bu a b C j) i).cells:=λh=>by
     rw [ej] at h;rw [e4 h];exactλ_ _=>rfl
    have hnA:bH (C (j:Int).toNat) a=false->bH (C (j:Int).toNat) b=false->(bu a b C (j+1)).length=(bu a b C j).length+1:=λh h'=>by
     rw [ej] at h h';rw [e3 h h',List.length_append];rfl
    have hr1:bH (C (j:Int).toNat) a=false->bH (C (j:Int).toNat) b=false->∀r:Nat->List PV,r 0=(C (j:Int).toNat).cells->∀i,i < (bu a b C j).length+1->(ae (bu a b C (j+1)) i).cells=ll (bu a b C j).length (λi=>(ae (bu a b C j) i).cells) r i:=λh h' r hr=>by
     rw [ej] at h h' hr;rw [e3 h h'];exact Eu hr
    have k1:((bu a b C j).length+1)*80<=140737488355328:=by omega
    have k2:(bu a b C j).length+1<=9223372036854775807:=by omega
    have n1:∀x y:Bool,(!y)=false->(!x&&!y)=false:=λx y h=>by rw [h,Bool.and_false]
    have n2:∀x y:Bool,(!x)=false->(!x&&!y)=false:=λx y h=>by rw [h];rfl
    with_unfolding_all exact⟨⟨Int.natCast_nonneg j,h1⟩,λh2=>⟨λh3=>⟨⟨rfl,k1,k2⟩,⟨j+1,[some 0,some 1,some 2,some 3,some 4,some 5],⟨⟨g1,g2,g3,g4⟩,hjN1⟩,hμ,Wo ⟨qZ ⟨rq,rq,rq,rq,rq,rq,rq,rq,rq,rq,rq,rq,⟨qW,rfl⟩,⟨qW,rfl⟩,qQ⟩,qK,qK,qJ,qZ ⟨⟨⟨rfl,rfl,(hnA (neq _ h2) (neq _ h3)).symm,bf rfl,_,rfl⟩,rfl⟩,rq,qQ⟩,⟨bf rfl,rfl,rfl,rfl,rfl,(hnA (neq _ h2) (neq _ h3)),hr1 (neq _ h2) (neq _ h3) _ rfl⟩,qQ⟩ ⟨pP,pP,pP,pP,pP,qW,rfl,wj,qQ⟩ trivial⟩⟩,λh3=>⟨j+1,[some 0,some 1,some 2,some 3,some 4,some 5],⟨⟨g1,g2,g3,g4⟩,hjN1⟩,hμ,Wo ⟨qZ ⟨rq,rq,rq,rq,rq,rq,rq,rq,rq,rq,rq,rq,⟨qW,rfl⟩,⟨qW,rfl⟩,qQ⟩,qK,qK,qJ,qZ ⟨⟨⟨rfl,rfl,(hn0 (n1 _ _ h3)).symm,bf rfl,_,rfl⟩,rfl⟩,rq,qQ⟩,⟨bf rfl,rfl,rfl,rfl,rfl,(hn0 (n1 _ _ h3)),hr0 (n1 _ _ h3)⟩,qQ⟩ ⟨pP,pP,pP,pP,pP,qW,rfl,wj,qQ⟩ trivial⟩⟩,λh2=>⟨λh=>(nomatch h),λ_=>⟨j+1,[some 0,some 1,some 2,some 3,some 4,some 5],⟨⟨g1,g2,g3,g4⟩,hjN1⟩,hμ,Wo ⟨qZ ⟨rq,rq,rq,rq,rq,rq,rq,rq,rq,rq,rq,rq,⟨qW,rfl⟩,⟨qW,rfl⟩,qQ⟩,qK,qK,qJ,qZ ⟨⟨⟨rfl,rfl,(hn0 (n2 _ _ h2)).symm,bf rfl,_,rfl⟩,rfl⟩,rq,qQ⟩,⟨bf rfl,rfl,rfl,rfl,rfl,(hn0 (n2 _ _ h2)),hr0 (n2 _ _ h2)⟩,qQ⟩ ⟨pP,pP,pP,pP,pP,qW,rfl,wj,qQ⟩ trivial⟩⟩⟩
   ·have h1:(N:Int)<=j:=dU h1;have hb0:BE=0:=by rw [e0,g1,g2,g3,g4];rfl
    have hBPk:bu a b C j=BP:=by
     rw [show j=N by omega,e1,hb0];rfl
    have hl3:(bu a b C j).length=BP.length:=by rw [hBPk]
    have hr3:∀i,i < (bu a b C j).length->(ae BP i).cells=(ae (bu a b C j) i).cells:=λi _=>by rw [hBPk]
    have v69:PV.val (.int .i64 (((bu a b C j).length:Nat):Int))=PV.val (goInt BP.length):=by
     rw [hBPk];rfl
    have hBl:BP.length<=502:=by
     have:=jB a b C j;rw [<-hBPk];omega
    have hBall:∀i,i < BP.length->(ae BP i).le 10000:=λi hi=>by
     unfold ae;rw [List.getElem?_eq_getElem hi];exact ke (j:=j) ha hb (λi hi=>hCle i (by omega)) _ (by rw [hBPk];exact List.getElem_mem hi)
    clear hBPk;with_unfolding_all refine⟨Nat,λi=>i<=BP.length,λi=>aa [(3,.ptr 0 0 0 0),(6,.ptr 1 1 0 0),(9,.ptr 2 2 0 0),(68,.sl 3 3 0 BP.length),(69,.val (goInt BP.length)),(70,.val (goInt i))] [⟨31,14,0,true,false,1,λ_=>bN lo hi k c l o⟩,⟨37,2,1,true,false,1,λ_=>[.val (.slice none 0 0),.val (.slice none 0 0)]⟩,⟨37,2,2,true,false,1,λ_=>[.sl 3 3 0 BP.length,.sl 4 4 0 (bG S (ae BP) BP.length i).length]⟩,⟨25,6,3,false,false,BP.length,λt=>(ae BP t).cells⟩,⟨46,2,4,false,false,(bG S (ae BP) BP.length i).length,λt=>ax (qL (bG S (ae BP) BP.length i) t)⟩] 5 [],λi=>BP.length - i,⟨0,[some 0,some 3,some 4,some 5,none],Nat.zero_le _,Wo ⟨qZ ⟨rq,rq,rq,rq,rq,rq,rq,rq,rq,rq,rq,rq,⟨qW,rfl⟩,⟨qW,rfl⟩,qQ⟩,qJ,qZ ⟨⟨⟨rfl,rfl,hl3,bf rfl,_,rfl⟩,rfl⟩,⟨⟨rfl,rfl,rfl,rfl,bf rfl⟩,rfl⟩,qQ⟩,⟨bf rfl,rfl,rfl,rfl,rfl,hl3.symm,hr3⟩,⟨bf rfl,rfl,rfl,rfl⟩,qQ⟩ ⟨pP,pP,pP,⟨rfl,rfl,hl3,bf rfl,_,rfl⟩,v69,rfl,qQ⟩ trivial⟩,λi hiB=>?_⟩
    replace hiB:i<=BP.length:=hiB;with_unfolding_all refine⟨λh1=>?_,λh1=>?_⟩
    ·have h1:(i:Int) < BP.length:=bx h1;have ei:(i:Int).toNat=i:=Int.toNat_natCast i;have hj0:(bG S (ae BP) BP.length i++cI S (ae BP) i 0).length=(bG S (ae BP) BP.length i).length:=by rw [cI,List.append_nil]
     have hr0:∀t,t < (bG S (ae BP) BP.length i).length->ax (qL (bG S (ae BP) BP.length i++cI S (ae BP) i 0) t)=ax (qL (bG S (ae BP) BP.length i) t):=λt _=>by rw [cI,List.append_nil]
     have w14:PV.val (.int .i64 (IntKind.i64.wrap ((i:Int)+1)))=PV.val (goInt (i+1+0)):=by
      rw [wrap64 (by omega) (by omega)];rfl
     have cx:∀x y:PtS,x=y->PV.val (.bool x.x.s)=PV.val (.bool y.x.s)/\PV.val (.string x.x.b)=PV.val (.string y.x.b)/\PV.val (.string x.x.c)=PV.val (.string y.x.c)/\PV.val (.bool x.y.s)=PV.val (.bool y.y.s)/\PV.val (.string x.y.b)=PV.val (.string y.y.b)/\PV.val (.string x.y.c)=PV.val (.string y.y.c):=λx y h=>by rw [h];exact⟨rfl,rfl,rfl,rfl,rfl,rfl⟩
     have c6:=cx (ae BP (0+(i:Int).toNat)) (ae BP i) (by rw [Nat.zero_add,ei]);with_unfolding_all refine⟨⟨Int.natCast_nonneg i,h1⟩,Nat,λd=>i+1+d<=BP.length,λd=>aa [(3,.ptr 0 0 0 0),(6,.ptr 1 1 0 0),(9,.ptr 2 2 0 0),(12,.val (goInt i)),(13,.ptr 5 5 0 0),(14,.val (goInt (i+1+d))),(68,.sl 3 3 0 BP.length),(69,.val (goInt BP.length)),(70,.val (goInt i))] [⟨31,14,0,true,false,1,λ_=>bN lo hi k c l o⟩,⟨37,2,1,true,false,1,λ_=>[.val (.slice none 0 0),.val (.slice none 0 0)]⟩,⟨37,2,2,true,false,1,λ_=>[.sl 3 3 0 BP.length,.sl 4 4 0 (bG S (ae BP) BP.length i++cI S (ae BP) i d).length]⟩,⟨25,6,3,false,false,BP.length,λt=>(ae BP t).cells⟩,⟨46,2,4,false,false,(bG S (ae BP) BP.length i++cI S (ae BP) i d).length,λt=>ax (qL (bG S (ae BP) BP.length i++cI S (ae BP) i d) t)⟩,⟨25,6,5,true,false,1,λ_=>(ae BP i).cells⟩] 6 [],λd=>BP.length - d,⟨0,[some 0,some 1,some 2,some 3,some 4,some 5],by show i+1+0<=BP.length;omega,Wo ⟨qZ ⟨rq,rq,rq,rq,rq,rq,rq,rq,rq,rq,rq,rq,⟨qW,rfl⟩,⟨qW,rfl⟩,qQ⟩,qJ,qZ ⟨⟨pP,rfl⟩,⟨⟨rfl,rfl,hj0.symm,bf rfl,_,rfl⟩,rfl⟩,qQ⟩,qZ (λ_ _=>rfl),⟨bf rfl,rfl,rfl,rfl,rfl,hj0,hr0⟩,qZ ⟨⟨c6.1,rfl⟩,⟨c6.2.1,rfl⟩,⟨c6.2.2.1,rfl⟩,⟨c6.2.2.2.1,rfl⟩,⟨c6.2.2.2.2.1,rfl⟩,⟨c6.2.2.2.2.2,rfl⟩,qQ⟩,qQ⟩ ⟨pP,pP,pP,rfl,pP,w14,pP,rfl,rfl,qQ⟩ trivial⟩,λd hd=>?_⟩
     have hdB:i+1+d<=BP.length:=hd;with_unfolding_all refine⟨λh2=>?_,λh2=>?_⟩
     ·have h2:(i:Int)+1+d < BP.length:=bx h2;have eT:0+((i:Int)+1+d).toNat=i+1+d:=by omega
      have hdB1:i+1+(d+1)<=BP.length:=by omega
      have hμd:BP.length - (d+1) < BP.length - d:=by omega
      have hbI:=oQ S (ae BP) BP.length i;have hbJ:=oP S (ae BP) i d;have hii:i*BP.length<=502*502:=Nat.mul_le_mul (by omega) hBl;have hlj:(bG S (ae BP) BP.length i++cI S (ae BP) i d).length<=502*502+502:=by
       rw [List.length_append];omega
      have wd:PV.val (.int .i64 (IntKind.i64.wrap ((i:Int)+1+d+1)))=PV.val (goInt ((i:Int)+1+((d+1:Nat):Int))):=by
       rw [wrap64 (by omega) (by omega)];exact congrArg (λz=>PV.val (.int .i64 z)) (by omega)
      have hs:∀t b,t=i+1+d->aV lo hi k (λi=>[.rs 6 (pn c i) (pg c i)]) l (λi=>ab (ow o i)) (ae BP i) (ae BP t)=b->S (ae BP i) (ae BP (i+1+d))=b:=λt b h h'=>by rw [<-h,<-hSN];exact h'
      have e3:S (ae BP i) (ae BP (i+1+d))=true->bG S (ae BP) BP.length i++cI S (ae BP) i (d+1)=bG S (ae BP) BP.length i++cI S (ae BP) i d++[((i:Int),((i+1+d:Nat):Int))]:=λh=>by rw [cI,h,List.append_assoc];rfl
      have e4:S (ae BP i) (ae BP (i+1+d))=false->bG S (ae BP) BP.length i++cI S (ae BP) i (d+1)=bG S (ae BP) BP.length i++cI S (ae BP) i d:=λh=>by
       rw [cI,h];exact congrArg _ (List.append_nil _)
      have hn0:S (ae BP i) (ae BP (i+1+d))=false->(bG S (ae BP) BP.length i++cI S (ae BP) i (d+1)).length=(bG S (ae BP) BP.length i++cI S (ae BP) i d).length:=λh=>by rw [e4 h]
      have hr0:S (ae BP i) (ae BP (i+1+d))=false->∀t,t < (bG S (ae BP) BP.length i++cI S (ae BP) i d).length->ax (qL (bG S (ae BP) BP.length i++cI S (ae BP) i (d+1)) t)=ax (qL (bG S (ae BP) BP.length i++cI S (ae BP) i d) t):=λh=>by
       rw [e4 h];exactλ_ _=>rfl
      have hnA:S (ae BP i) (ae BP (i+1+d))=true->(bG S (ae BP) BP.length i++cI S (ae BP) i (d+1)).length=(bG S (ae BP) BP.length i++cI S (ae BP) i d).length+1:=λh=>by
       rw [e3 h,List.length_append];rfl
      have hr1:S (ae BP i) (ae BP (i+1+d))=true->∀r:Nat->List PV,r 0=[.val (.int .i64 (i:Int)),.val (.int .i64 ((i:Int)+1+d))]->∀t,t < (bG S (ae BP) BP.length i++cI S (ae BP) i d).length+1->ax (qL (bG S (ae BP) BP.length i++cI S (ae BP) i (d+1)) t)=ll (bG S (ae BP) BP.length i++cI S (ae BP) i d).length (λt=>ax (qL (bG S (ae BP) BP.length i++cI S (ae BP) i d) t)) r t:=λh r hr=>by
       rw [e3 h];refine xg (hr.trans ?_);rw [ax,show(i:Int)+1+d=((i+1+d:Nat):Int) by omega]
      have k1:((bG S (ae BP) BP.length i++cI S (ae BP) i d).length+1)*16<=140737488355328:=by omega
      have k2:(bG S (ae BP) BP.length i++cI S (ae BP) i d).length+1<=9223372036854775807:=by omega
      have pk1:isPk 10000 (ae BP i).v:=⟨_,rfl,hBall i (by omega)⟩;have pk2:isPk 10000 (ae BP (0+((i:Int)+1+d).toNat)).v:=⟨_,rfl,hBall _ (by omega)⟩;with_unfolding_all exact⟨⟨by omega,h2⟩,⟨hrg3,pk1,pk2⟩,λh3=>⟨⟨rfl,k1,k2⟩,⟨d+1,[some 0,some 1,some 2,some 3,some 4,some 5],hdB1,hμd,Wo ⟨qZ ⟨rq,rq,rq,rq,rq,rq,rq,rq,rq,rq,rq,rq,⟨qW,rfl⟩,⟨qW,rfl⟩,qQ⟩,qJ,qZ ⟨⟨pP,rfl⟩,⟨⟨rfl,rfl,(hnA (hs (0+((i:Int)+1+d).toNat) _ eT h3)).symm,bf rfl,_,rfl⟩,rfl⟩,qQ⟩,qZ (λ_ _=>rfl),⟨bf rfl,rfl,rfl,rfl,rfl,(hnA (hs (0+((i:Int)+1+d).toNat) _ eT h3)),hr1 (hs (0+((i:Int)+1+d).toNat) _ eT h3) _ rfl⟩,qK,qQ⟩ ⟨pP,pP,pP,rfl,pP,wd,pP,rfl,rfl,qQ⟩ trivial⟩⟩,λh3=>⟨d+1,[some 0,some 1,some 2,some 3,some 4,some 5],hdB1,hμd,Wo ⟨qZ ⟨rq,rq,rq,rq,rq,rq,rq,rq,rq,rq,rq,rq,⟨qW,rfl⟩,⟨qW,rfl⟩,qQ⟩,qJ,qZ ⟨⟨pP,rfl⟩,⟨⟨rfl,rfl,(hn0 (hs (0+((i:Int)+1+d).toNat) _ eT h3)).symm,bf rfl,_,rfl⟩,rfl⟩,qQ⟩,qZ (λ_ _=>rfl),⟨bf rfl,rfl,rfl,rfl,rfl,(hn0 (hs (0+((i:Int)+1+d).toNat) _ eT h3)),hr0 (hs (0+((i:Int)+1+d).toNat) _ eT h3)⟩,qK,qQ⟩ ⟨pP,pP,pP,rfl,pP,wd,pP,rfl,rfl,qQ⟩ trivial⟩⟩
     ·have h2:(BP.length:Int)<=(i:Int)+1+d:=dU h2;have hd:d=BP.length - (i+1):=by omega
      have hiB1:i+1<=BP.length:=by omega
      have hμi:BP.length - (i+1) < BP.length - i:=by omega
      have wi:PV.val (.int .i64 (IntKind.i64.wrap ((i:Int)+1)))=PV.val (goInt ((i+1:Nat):Int)):=by
       rw [wrap64 (by omega) (by omega)];rfl
      have e3:bG S (ae BP) BP.length (i+1)=bG S (ae BP) BP.length i++cI S (ae BP) i d:=by rw [hd,bG]
      have hn0:(bG S (ae BP) BP.length (i+1)).length=(bG S (ae BP) BP.length i++cI S (ae BP) i d).length:=by rw [e3]
      have hr0:∀t,t < (bG S (ae BP) BP.length i++cI S (ae BP) i d).length->ax (qL (bG S (ae BP) BP.length (i+1)) t)=ax (qL (bG S (ae BP) BP.length i++cI S (ae BP) i d) t):=λt _=>by rw [e3]
      with_unfolding_all exact⟨i+1,[some 0,some 1,some 2,some 3,some 4],hiB1,hμi,Wo ⟨qZ ⟨rq,rq,rq,rq,rq,rq,rq,rq,rq,rq,rq,rq,⟨qW,rfl⟩,⟨qW,rfl⟩,qQ⟩,qJ,qZ ⟨⟨pP,rfl⟩,⟨⟨rfl,rfl,hn0.symm,bf rfl,_,rfl⟩,rfl⟩,qQ⟩,qZ (λ_ _=>rfl),⟨bf rfl,rfl,rfl,rfl,rfl,hn0,hr0⟩,qQ⟩ ⟨pP,pP,pP,pP,rfl,wi,qQ⟩ trivial⟩
    ·have h1:(BP.length:Int)<=i:=dU h1;have hi2:i=BP.length:=by omega
     have e5:bG S (ae BP) BP.length i=BL:=by rw [e2,hi2]
     have v7:PV.val (.int .i64 0)=PV.val (.int .i64 BE):=by rw [hb0]
     have rp:∀t,t < BP.length->(ae BP t).cells=(ae BP (0+t)).cells:=λt _=>by rw [Nat.zero_add]
     have rl:∀t,t < BL.length->ax (qL BL t)=ax (qL (bG S (ae BP) BP.length i) (0+t)):=λt _=>by rw [e5,Nat.zero_add]
     with_unfolding_all exact⟨[some 1],aa [(6,.ptr 0 0 0 0),(7,.val (.int .i64 BE))] [⟨37,2,0,true,false,1,λ_=>[.rs 6 BP.length (λi=>(ae BP i).cells),.rs 2 BL.length (λi=>ax (qL BL i))]⟩] 1 [],Wo ⟨qZ ⟨⟨⟨by simp,_,rfl,rfl,rfl,rfl,rp⟩,rfl⟩,⟨⟨by simp,_,rfl,rfl,rfl,congrArg List.length e5,rl⟩,rfl⟩,qQ⟩,qQ⟩ ⟨pP,v7,qQ⟩ trivial,rfl,rfl⟩
 ·cases e
end Go.Proofs
namespace Go.Num
theorem sU {p u:PtS} (h:dp p u < 0):¬dp u p < 0:=by
 rw [jw] at *
 rintro (k|⟨e,k⟩)<;>rcases h with h|⟨e2,h⟩<;>grind
theorem u9 {V L:List PtS} (hp:L.Perm V) (hV:∀p∈V,p.le 10000) (hL:L.Pairwise λx y=>dp x y < 0):aL V=L:=by
 refine List.Perm.eq_of_pairwise (le:=λx y=>¬dp y x < 0) (λa b ha hb h1 h2=>?_) (ql hV) (hL.imp λh=>sU h) ((fT V).trans hp.symm);have ha:a∈L:=hp.mem_iff.2 ((fT V).mem_iff.1 ha);obtain⟨i,hi,rfl⟩:=List.mem_iff_getElem.1 ha;obtain⟨j,hj,rfl⟩:=List.mem_iff_getElem.1 hb;rw [List.pairwise_iff_getElem] at hL;rcases Nat.lt_trichotomy i j with h|h|h
 ·exact absurd (hL i j hi hj h) h2
 ·subst h;rfl
 ·exact absurd (hL j i hj hi h) h1
end Go.Num
namespace Go.Proofs
def eU:PtS:=⟨⟨false,⟨#[]⟩,⟨#[]⟩⟩,⟨false,⟨#[]⟩,⟨#[]⟩⟩⟩
def bd (x y:Int):PtS:=oC (mkRat x 1) (mkRat y 1)
def eV:PtS:=bd 10 10
def Gm:List PV:=(bd 4 4).cells++((bd 6 4).cells++((bd 6 6).cells++(bd 4 6).cells))
def kP:Nat->List PV:=λ_=>[.rs 6 4 (λi=>fq 6 Gm (0+i))]
def lf:Nat->List PV:=λ_=>ab (0,0,0)
def xi:List PtS:=[bd 0 5,bd 10 5,bd 4 4,bd 4 6,bd 6 4,bd 6 6]
def EO:List (Int×Int):=[(0,2),(0,3),(1,4),(1,5),(2,3),(2,4),(3,5),(4,5)]
def xG:Nat->List PV:=λi=>(ae xi i).cells
def mf:Nat->List PV:=λi=>ax (qL EO i)
theorem x1:fo eU eV 1 kP 1 lf (ao (bd 0 5) (bd 10 5))=true:=by kernel_rfl
theorem x2:aV eU eV 1 kP 1 lf (bd 0 5) (bd 10 5)=false:=by kernel_rfl
theorem x3:ap eU eV 1 kP 1 lf=[bd 4 4,bd 6 4,bd 6 6,bd 4 6]:=by kernel_rfl
theorem x4:dT eU eV 1 kP 1 lf=[bd 4 4,bd 4 6,bd 6 4,bd 6 6]:=by
 have h:aL [bd 4 4,bd 6 4,bd 6 6,bd 4 6]=[bd 4 4,bd 4 6,bd 6 4,bd 6 6] :=
  u9 (.cons _ (List.perm_append_comm (l₁:=[bd 4 6]) (l₂:=[bd 6 4,bd 6 6]))) (of_decide_eq_true (by kernel_rfl)) (of_decide_eq_true (by kernel_rfl))
 have h2:aR (ae [bd 4 4,bd 4 6,bd 6 4,bd 6 6]) 4=[bd 4 4,bd 4 6,bd 6 4,bd 6 6]:=by kernel_rfl
 unfold dT;rw [x3,h];exact h2
theorem x5:mF eU eV 1 kP 1 lf (bd 0 5) (bd 10 5)=0:=by kernel_rfl
theorem x6:bO eU eV 1 kP 1 lf (bd 0 5) (bd 10 5)=xi:=by
 have h2:bu (bd 0 5) (bd 10 5) (ae [bd 4 4,bd 4 6,bd 6 4,bd 6 6]) 4=xi:=by kernel_rfl
 unfold bO;rw [x5,x4];exact h2
theorem x7:dN eU eV 1 kP 1 lf (bd 0 5) (bd 10 5)=EO:=by
 have h2:bG (aV eU eV 1 kP 1 lf) (ae xi) 6 6=EO:=by kernel_rfl
 unfold dN;rw [x6];exact h2
theorem x8:zh eU eV 1 kP 1 lf 6 xG 8 mf=true:=by kernel_rfl
theorem x9:iR eU eV 1 kP 1 lf 6 xG 8 mf=EO:=by kernel_rfl
theorem vm (x y:Int) (hx:x.natAbs < 256) (hy:y.natAbs < 256):(bd x y).le 10000:=by
 have q:∀z:Int,z.natAbs < 256->QB 1 (mkRat z 1):=λz hz=>by
  have e:mkRat z 1=(z:Rat):=by simp [Rat.mkRat_one]
  rw [e];exact⟨hz,show(1:Nat) < 256^1 by decide⟩
 exact⟨(q x hx).rs.mono (by decide),(q y hy).rs.mono (by decide)⟩
theorem Ev (x y:Int) (hx:x.natAbs < 256) (hy:y.natAbs < 256):isPk 10000 (bd x y).v:=⟨_,rfl,vm x y hx hy⟩
theorem Gn:bZ 10000 1 kP:=⟨λi _=>⟨rfl,λi hi=>by
  match i,hi with
  |0,_=>exact⟨rfl,vm 4 4 (by decide) (by decide)⟩
  |1,_=>exact⟨rfl,vm 6 4 (by decide) (by decide)⟩
  |2,_=>exact⟨rfl,vm 6 6 (by decide) (by decide)⟩
  |3,_=>exact⟨rfl,vm 4 6 (by decide) (by decide)⟩
  |i+4,h=>exact absurd h (show ¬i+4 < 4 by omega),show(4:Nat)<=140737488355328 by decide⟩,by decide⟩
def Gp:List PV:=bN eU eV 1 kP 1 lf
theorem xj:isRg 10000 Gp:=⟨rfl,⟨⟨⟨by decide,by decide⟩,by decide,by decide⟩,vm 10 10 (by decide) (by decide)⟩,Gn,λi _=>rfl,by decide⟩
def Gq:List PV->Option Ans
 |[]=>some ⟨none,.agg Gp,[]⟩
 |_=>none
theorem Gr:ak {} Tryz.f53 0=true:=by kernel_rfl
theorem f53:FnOk Tryz.prog 53 Gq:=by
 refine FnOk.ofW aj (am (l:=[(52,EG)]) (own:=[]) (inl:=[]) (by simp [f52]) (by simp)) Tryz.func53 {} 0 Gr λargs r e=>?_;unfold Gq at e;split at e
 ·cases e;refine⟨by simp,λhm=>?_⟩;refine⟨[],aa [] [] 0 [],Wo trivial trivial trivial,?_⟩;have b:∀x:Int,0<=x/\x < 100->(-9223372036854775808<=x/\x < 9223372036854775808):=λx h=>by omega
  have z1:∀(g h:Nat->List PV),g 0=h 0->∀i,i < 1->g i=h (0+i):=λg h e i hi=>by
   obtain rfl:i=0:=by omega
   exact e
  with_unfolding_all exact⟨⟨b 10 (by decide),b 10 (by decide)⟩,⟨b 4 (by decide),b 4 (by decide)⟩,⟨b 6 (by decide),b 4 (by decide)⟩,⟨b 6 (by decide),b 6 (by decide)⟩,⟨b 4 (by decide),b 6 (by decide)⟩,[some 0],aa [(0,.ptr 0 0 0 0)] [⟨31,14,0,true,false,1,λ_=>Gp⟩] 1 [],Wo ⟨qZ ⟨rq,rq,rq,rq,rq,rq,rq,rq,rq,rq,rq,rq,⟨⟨by simp,_,rfl,rfl,rfl,rfl,z1 _ _ rfl⟩,rfl⟩,⟨⟨by simp,_,rfl,rfl,rfl,rfl,z1 _ _ rfl⟩,rfl⟩,qQ⟩,qQ⟩ ⟨pP,qQ⟩ trivial,rfl,rfl⟩
 ·cases e
theorem BO:isPL 10000 6 xG:=⟨λi hi=>by
 match i,hi with
 |0,_=>exact⟨rfl,vm 0 5 (by decide) (by decide)⟩
 |1,_=>exact⟨rfl,vm 10 5 (by decide) (by decide)⟩
 |2,_=>exact⟨rfl,vm 4 4 (by decide) (by decide)⟩
 |3,_=>exact⟨rfl,vm 4 6 (by decide) (by decide)⟩
 |4,_=>exact⟨rfl,vm 6 4 (by decide) (by decide)⟩
 |5,_=>exact⟨rfl,vm 6 6 (by decide) (by decide)⟩
 |i+6,h=>exact absurd h (show ¬i+6 < 6 by omega),by decide⟩
theorem xk:j7 8 mf:=⟨λ_ _=>rfl,by decide⟩
theorem zj {r:Nat->List PV} (h0:r 0=mf 0) (h1:r 1=mf 1) (h2:r 2=mf 2) (h3:r 3=mf 3) (h4:r 4=mf 4) (h5:r 5=mf 5) (h6:r 6=mf 6) (h7:r 7=mf 7):∀i,i < 8->r i=mf i:=λi hi=>by
 match i,hi with
 |0,_=>exact h0
 |1,_=>exact h1
 |2,_=>exact h2
 |3,_=>exact h3
 |4,_=>exact h4
 |5,_=>exact h5
 |6,_=>exact h6
 |7,_=>exact h7
 |i+8,h=>exact absurd h (show ¬i+8 < 8 by omega)
theorem xl {r:Nat->List PV} (h:∀i,i < 8->r i=mf i):j7 8 r:=⟨λi hi=>by
 have e:=h i hi;rw [kz,e];rfl,by decide⟩
theorem xm (x:Int×Int):Num.eqQ x x=true:=by
 unfold Num.eqQ;rw [beq_self_eq_true,beq_self_eq_true];rfl
theorem zL {g r:Nat->List PV} {n:Nat} (hn:n=8) (hg:∀i,i < 8->g i=mf i) (h:∀i,i < 8->r i=mf i):(decide (n=8)&&!aA (λi=>!Num.eqQ (kz g i) (kz r i)) n)=true:=by
 subst hn;rw [aE.2 λi hi=>by rw [kz,kz,hg i hi,h i hi,xm];rfl];rfl
def Ew:List PV->Option Ans
 |[]=>some ⟨none,.val (.bool true),[]⟩
 |_=>none
def D13:Opt:={ perm:=kI [(2,(.rd 1 (.rd 2 (.mk 0 (.mk 3 (.rd 4 (.rd 5 (.rd 6 .nil)))))))),(3,(.rd 1 (.rd 2 (.alt 0 (.alt 3 (.rd 4 (.rd 5 (.rd 6 (.mk 7 .nil)))) (.mk 7 (.mk 3 (.rd 4 (.rd 5 (.rd 6 .nil)))))) (.mk 7 (.mk 0 (.mk 3 (.rd 4 (.rd 5 (.rd 6 .nil)))))))))),(4,(.rd 1 (.mk 0 (.mk 2 (.rd 3 (.rd 4 (.rd 5 .nil)))))))],join:=λc=>match c with | .region 3 _ _=>true|_=>false }
theorem Gs:ak D13.toOrd Tryz.f13 0=true:=by kernel_rfl
theorem f13:FnOk Tryz.prog 13 Ew:=by
 refine FnOk.ofW aj (am (l:=[(52,EG),(53,Gq),(21,Et),(14,EN),(18,EM),(54,Fw),(44,Fy)]) (own:=[]) (inl:=[]) (by simp [f52,f53,f21,f14,f18,f54,f44]) (by simp)) Tryz.func13 D13 0 Gs λargs r e=>?_;unfold Ew at e;split at e
 ·cases e;refine⟨by simp,λhm=>?_⟩;refine⟨[],aa [] [] 0 [],Wo trivial trivial trivial,?_⟩;have b:∀x:Int,0<=x/\x < 100->(-9223372036854775808<=x/\x < 9223372036854775808):=λx h=>by omega
  have pa:isPk 10000 (bd 0 5).v:=Ev 0 5 (by decide) (by decide);have pb:isPk 10000 (bd 10 5).v:=Ev 10 5 (by decide) (by decide);have pc:(ap eU eV 1 kP 1 lf).length<=500:=by rw [x3];decide
  with_unfolding_all refine⟨⟨b 0 (by decide),b 5 (by decide)⟩,⟨b 10 (by decide),b 5 (by decide)⟩,⟨xj,pa,pb⟩,?_⟩
  have v3:PV.val (.bool (aV eU eV 1 kP 1 lf (bd 0 5) (bd 10 5)))=PV.val (.bool false):=by rw [x2]
  have v4:PV.val (.int .i64 (cD (fo eU eV 1 kP 1 lf (ao (bd 0 5) (bd 10 5)))))=PV.val (.int .i64 0):=by
   rw [x1];rfl
  have v6:PV.val (.int .i64 (mF eU eV 1 kP 1 lf (bd 0 5) (bd 10 5)))=PV.val (.int .i64 0):=by rw [x5]
  have w1:(bO eU eV 1 kP 1 lf (bd 0 5) (bd 10 5)).length=6:=by
   rw [x6];rfl
  have w2:∀i,i < 6->xG i=(ae (bO eU eV 1 kP 1 lf (bd 0 5) (bd 10 5)) i).cells:=λi _=>by
   rw [x6];rfl
  have w3:(dN eU eV 1 kP 1 lf (bd 0 5) (bd 10 5)).length=8:=by
   rw [x7];rfl
  have w4:∀i,i < 8->mf i=ax (qL (dN eU eV 1 kP 1 lf (bd 0 5) (bd 10 5)) i):=λi _=>by
   rw [x7];rfl
  with_unfolding_all refine⟨Unit,λ_=>True,λ_=>aa [(0,.val (.bool false)),(3,.val (.bool false)),(4,.val (.int .i64 0)),(5,.ptr 0 0 0 0),(6,.val (.int .i64 0))] [⟨37,2,0,true,false,1,λ_=>[.rs 6 6 xG,.rs 2 8 mf]⟩] 1 [],⟨⟨⟨⟨⟨xj,pa,pb⟩,pc⟩,⟨(),[some 2],trivial,Wo ⟨qZ ⟨⟨⟨rfl,w1,w2⟩,rfl⟩,⟨⟨rfl,w3,w4⟩,rfl⟩,qQ⟩,qQ⟩ ⟨rfl,v3,v4,pP,v6,qQ⟩ trivial⟩⟩,⟨⟨⟨xj,pa,pb⟩,pc⟩,⟨(),[some 2],trivial,Wo ⟨qZ ⟨⟨⟨rfl,w1,w2⟩,rfl⟩,⟨⟨rfl,w3,w4⟩,rfl⟩,qQ⟩,qQ⟩ ⟨rfl,v3,v4,pP,v6,qQ⟩ trivial⟩⟩⟩,⟨⟨⟨xj,pa,pb⟩,pc⟩,⟨(),[some 2],trivial,Wo ⟨qZ ⟨⟨⟨rfl,w1,w2⟩,rfl⟩,⟨⟨rfl,w3,w4⟩,rfl⟩,qQ⟩,qQ⟩ ⟨rfl,v3,v4,pP,v6,qQ⟩ trivial⟩⟩⟩,λ_ _=>?_⟩
  have F3:(cD (zh eU eV 1 kP 1 lf 6 xG 8 mf)==0)=true:=by
   rw [x8];rfl
  have F6:bH (ae xi 2) (bd 4 4)=true:=by kernel_rfl
  have ht:(iR eU eV 1 kP 1 lf 6 xG 8 mf).length=8:=by
   rw [x9];rfl
  have hg:∀i,i < 8->ax (qL (iR eU eV 1 kP 1 lf 6 xG 8 mf) i)=mf i:=λi _=>by
   rw [x9];rfl
  have qt:j7 (iR eU eV 1 kP 1 lf 6 xG 8 mf).length (λi=>ax (qL (iR eU eV 1 kP 1 lf 6 xG 8 mf) i)):=by
   rw [ht];exact xl hg
  have v0:∀B,B=true->PV.val (.bool B)=PV.val (.bool true):=λB h=>by rw [h]
  have one:(0==(0:Int))=true:=rfl;with_unfolding_all exact⟨⟨xj,BO,xk⟩,⟨λh1=>⟨λh2=>⟨λh3=>⟨λh4=>⟨λh5=>⟨⟨by decide,by decide⟩,⟨b 4 (by decide),b 4 (by decide)⟩,⟨λh6=>⟨⟨xk,xl (zj rfl rfl rfl rfl rfl rfl rfl rfl)⟩,⟨λh7=>⟨⟨qt,xl (zj rfl rfl rfl rfl rfl rfl rfl rfl)⟩,[],aa [(0,.val (.bool true))] [] 0 [],Wo trivial ⟨v0 _ (zL ht hg (zj rfl rfl rfl rfl rfl rfl rfl rfl)),qQ⟩ trivial,rfl,rfl⟩,λh=>absurd (h.symm.trans (zL rfl (λ_ _=>rfl) (zj rfl rfl rfl rfl rfl rfl rfl rfl))) (by decide)⟩⟩,λh=>absurd (h.symm.trans F6) (by decide)⟩⟩,λh=>absurd (h.symm.trans rfl) (by decide)⟩,λh=>absurd (h.symm.trans rfl) (by decide)⟩,λh=>absurd (h.symm.trans F3) (by decide)⟩,λh=>absurd (h.symm.trans one) (by decide)⟩,λh=>absurd (h.symm.trans one) (by decide)⟩⟩
 ·cases e
end Go.Proofs
namespace Go.Num
theorem sV (x y:Rat):ah (oC x y)=true:=by
 have h:∀q:Rat,bc (c9 q).v=true:=λq=>by
  show gM (decide (q.num < 0)) (ag q.num.natAbs) (aK q.den) (aF (au q))=true;have hb:∀x:ByteArray,(x==x)=true:=λ⟨x⟩=>by
   show(x==x)=true;exact beq_self_eq_true x
  rw [az,gM,beq_self_eq_true,hb,hb];rfl
 unfold ah oC;show(bc (c9 x).v&&bc (c9 y).v)=true;rw [h,h];rfl
theorem BQ {m:Int} (h0:0<=m) (h1:m < 256):0<=Rat.divInt m 255/\Rat.divInt m 255<=1:=by
 have e:Rat.divInt m 255*255=(m:Rat):=by
  rw [Rat.divInt_eq_div];exact Rat.div_mul_cancel (by decide)
 have k0:(0:Rat)<=(m:Rat):=by exact_mod_cast h0
 have k1:(m:Rat)<=((255:Int):Rat):=Rat.intCast_le_intCast.2 (by omega);have k2:((255:Int):Rat)=255:=rfl;rw [k2] at k1;constructor<;>grind
theorem zk:∀m:Nat,m < 256->(Rat.divInt (m:Int) 255).num.natAbs < 256^2/\(Rat.divInt (m:Int) 255).den < 256^2:=by
 decide +kernel
theorem zl {m:Int} (h0:0<=m) (h1:m < 256):QB 2 (Rat.divInt m 255):=by
 obtain⟨n,rfl⟩:=Int.eq_ofNat_of_zero_le h0;exact zk n (by omega)
theorem Ey (a b:PtS) (r:RatS):(xF a b r).X=a.X+(b.X - a.X)*r.q:=by
 unfold xF sK qr cH;rw [fQ,fQ,fQ]
theorem Ez (a b:PtS) (r:RatS):(xF a b r).Y=a.Y+(b.Y - a.Y)*r.q:=by
 unfold xF sK qr cH;rw [fR,fR,fR]
theorem BR {i j k:Nat} {a b:PtS} {r:RatS} (h1:PtS.le i a) (h2:PtS.le j b) (h3:RatS.le k r):(xF a b r).le (i+(j+i+3+k+3)+3):=y9 h1 (tY (cV h2 h1) h3)
theorem sW (a b:PtS) (r:RatS):ah (xF a b r)=true:=sV _ _
theorem zm {lo hi:PtS} {k:Nat} {c:Nat->List PV} {l:Nat} {o:Nat->List PV} {a b:PtS} (hr:bz lo hi k (pn c) (λi=>ai (pg c i)) l (ow o)=0) (ha:ah a=true) (hb:ah b=true):aV lo hi k c l o b a=aV lo hi k c l o a b:=by
 rw [Bool.eq_iff_iff,du hr hb ha,du hr ha hb];exact⟨SeeM.symm,SeeM.symm⟩
theorem xo {lo hi:PtS} {k:Nat} {c:Nat->List PV} {l:Nat} {o:Nat->List PV} {a b d:PtS} {q:Rat} (hr:bz lo hi k (pn c) (λi=>ai (pg c i)) l (ow o)=0) (ha:ah a=true) (hb:ah b=true) (hd:ah d=true) (hx:d.X=a.X+(b.X - a.X)*q) (hy:d.Y=a.Y+(b.Y - a.Y)*q) (h0:0<=q) (h1:q<=1) (h:aV lo hi k c l o a b=true):(aV lo hi k c l o a d=true/\aV lo hi k c l o d b=true)/\aV lo hi k c l o a a=true/\aV lo hi k c l o b b=true/\aV lo hi k c l o d d=true:=by
 have m:=(du hr ha hb).1 h;have m2:SeeM lo hi k c b d:=m.symm.part (q:=1 - q) (by grind) (by grind) (by grind) (by grind);exact⟨⟨(du hr ha hd).2 (m.part h0 h1 hx hy),(du hr hd hb).2 m2.symm⟩,(du hr ha ha).2 m.self,(du hr hb hb).2 m.symm.self,(du hr hd hd).2 m2.symm.self⟩
theorem xp {xs:List PV} {r:Nat->List PV} {a b:PtS} (h0:r 0=a.cells) (h1:r 1=b.cells) (h:kB xs 2 r=true) (hx:isRg 140737488355328 xs):isRg 12 xs/\(a.le 12/\b.le 12)/\(ah a=true/\ah b=true)/\bz (cK xs) (cL xs) (gK xs) (pn (gC xs)) (λi=>ai (pg (gC xs) i)) (gL xs) (ow (gO xs))=0:=by
 have p0:ai r 0=a:=by
  rw [ai,h0];rfl
 have p1:ai r 1=b:=by
  rw [ai,h1];rfl
 unfold kB iP at h;rw [Bool.and_eq_true,Bool.and_eq_true,Bool.not_eq_true',Bool.not_eq_true',Bool.or_eq_false_iff] at h;obtain⟨⟨⟨g1,g2⟩,g3⟩,g4⟩:=h;have b0:=(aE.1 g2) 0 (by decide);have b1:=(aE.1 g2) 1 (by decide);have c0:=(aE.1 g4) 0 (by decide);have c1:=(aE.1 g4) 1 (by decide);simp only [p0,p1] at b0 b1 c0 c1;exact⟨tZ g1 hx,⟨ig b0,ig b1⟩,⟨by simpa using c0,by simpa using c1⟩,t6 (eq_of_beq g3)⟩
theorem mg {xs:List PV} {r:Nat->List PV} {a b:PtS} (h:(!kB xs 2 r)=false) (h0:r 0=a.cells) (h1:r 1=b.cells) (hx:isRg 140737488355328 xs):isRg 12 xs/\(a.le 12/\b.le 12)/\(ah a=true/\ah b=true)/\bz (cK xs) (cL xs) (gK xs) (pn (gC xs)) (λi=>ai (pg (gC xs) i)) (gL xs) (ow (gO xs))=0 :=
 xp h0 h1 (by simpa using h) hx
end Go.Num
namespace Go.Proofs
def c6:List PV->Option Ans
 |[.agg [.val (.bool s1),.val (.string b1),.val (.string c1),.val (.bool s2),.val (.string b2),.val (.string c2),.val (.bool s3),.val (.string b3),.val (.string c3),.val (.bool s4),.val (.string b4),.val (.string c4),.rs 1 k c,.rs 3 l o],.val v,.val u,.val (.int .u8 m)]=>some ⟨some ((PtS.le 140737488355328 (PtS.mk ⟨s1,b1,c1⟩ ⟨s2,b2,c2⟩)/\PtS.le 140737488355328 (PtS.mk ⟨s3,b3,c3⟩ ⟨s4,b4,c4⟩))/\bZ 140737488355328 k c/\c8 l o/\isPk 140737488355328 v/\isPk 140737488355328 u/\0<=m/\m < 256),.val (.bool true),[]⟩
 |_=>none
def D6:Opt:={ join:=λc=>match c with | .region 5 _ _=>true | .region 10 _ _=>true | .region 11 _ _=>true | .region 13 _ _=>true|_=>false }
theorem GL:ak D6.toOrd Tryz.f6 4=true:=by kernel_rfl
theorem f6:FnOk Tryz.prog 6 c6:=by
 refine FnOk.ofW aj (am (l:=[(17,Ep),(13,Ew),(21,Et),(26,Gg),(27,E3),(28,F7)]) (own:=[]) (inl:=[]) (by simp [f17,f13,f21,f26,f27,f28]) (by simp)) Tryz.func6 D6 4 GL λargs r e=>?_;unfold c6 at e;split at e
 ·rename_i s1 b1 c1 s2 b2 c2 s3 b3 c3 s4 b4 c4 k c l o v u m
  cases e;refine⟨by simp,λhm=>?_⟩;obtain⟨⟨hlo,hhi⟩,⟨hc,hk⟩,⟨ho,hl⟩,⟨a,rfl,ha⟩,⟨b,rfl,hb⟩,hm0⟩:=hm _ rfl;clear hm;obtain⟨lo,hlo'⟩:∃p,p=(PtS.mk ⟨s1,b1,c1⟩ ⟨s2,b2,c2⟩):=⟨_,rfl⟩;obtain⟨hi,hhi'⟩:∃p,p=(PtS.mk ⟨s3,b3,c3⟩ ⟨s4,b4,c4⟩):=⟨_,rfl⟩;have hc1:∀i,i < k->[.rs 6 (pn c i) (pg c i)]=c i:=λi hi=>(hc i hi).1.symm;have ho1:∀i,i < l->ab (ow o i)=o i:=λi hi=>(ho i hi).symm;refine⟨[],aa [(0,.agg (bN (PtS.mk ⟨s1,b1,c1⟩ ⟨s2,b2,c2⟩) (PtS.mk ⟨s3,b3,c3⟩ ⟨s4,b4,c4⟩) k c l o)),(1,.val a.v),(2,.val b.v),(3,.val (.int .u8 m))] [] 0 [],Wo trivial ⟨⟨rfl,rfl,rfl,rfl,rfl,rfl,rfl,rfl,rfl,rfl,rfl,rfl,⟨rfl,rfl,hc1⟩,⟨rfl,rfl,ho1⟩,qQ⟩,rfl,rfl,rfl,qQ⟩ trivial,?_⟩;rw [<-hlo'] at hlo ⊢;rw [<-hhi'] at hhi ⊢;clear hlo' hhi';have hX:isRg 140737488355328 (bN lo hi k c l o):=⟨rfl,⟨hlo,hhi⟩,⟨λi hi=>⟨rfl,(hc i hi).2⟩,hk⟩,λ_ _=>rfl,hl⟩;have p2:∀r:Nat->List PV,r 0=a.cells->r 1=b.cells->isPL 140737488355328 2 r:=λr h h'=>⟨λi hi=>by
   match i,hi with
   |0,_=>exact⟨by rw [ai,h];rfl,by rw [ai,h];exact ha⟩
   |1,_=>exact⟨by rw [ai,h'];rfl,by rw [ai,h'];exact hb⟩
   |i+2,h=>omega,by decide⟩
  with_unfolding_all refine⟨⟨hX,p2 _ rfl rfl⟩,λh1=>⟨[],aa [(8,.val (.bool true))] [] 0 [],Wo trivial ⟨rfl,qQ⟩ trivial,rfl,rfl⟩,λh1=>?_⟩
  obtain⟨hX12,⟨ha12,hb12⟩,⟨ca,cb⟩,hreg0⟩:=mg (a:=a) (b:=b) h1 rfl rfl hX;clear h1 p2;have hreg:bz lo hi k (pn c) (λi=>ai (pg c i)) l (ow o)=0:=hreg0;have hX4:isRg 10000 (bN lo hi k c l o):=hX12.mono (by decide);have pa:isPk 10000 a.v:=⟨a,rfl,ha12.mono (by decide)⟩;have pb:isPk 10000 b.v:=⟨b,rfl,hb12.mono (by decide)⟩;have hok:∀x y:PtS,ah x=true->ah y=true->fo lo hi k c l o (ao x y)=true:=λx y h h'=>by
   show(!(!ah x||!ah y)&&(bz lo hi k (pn c) (λi=>ai (pg c i)) l (ow o)==0))=true;rw [h,h',hreg];rfl
  have hE:∀x y:PtS,ah x=true->ah y=true->PV.val (.int .i64 (cD (fo lo hi k (λi=>[.rs 6 (pn c i) (pg c i)]) l (λi=>ab (ow o i)) (ao x y))))=PV.val (.int .i64 0):=λx y h h'=>by
   show PV.val (.int .i64 (cD (fo lo hi k c l o (ao x y))))=PV.val (.int .i64 0);rw [hok x y h h'];rfl
  have hV:∀x y:PtS,∀z:Bool,aV lo hi k c l o x y=z->PV.val (.bool (aV lo hi k (λi=>[.rs 6 (pn c i) (pg c i)]) l (λi=>ab (ow o i)) x y))=PV.val (.bool z):=λx y z h=>by
   show PV.val (.bool (aV lo hi k c l o x y))=_;rw [h]
  have hS:=zm (a:=a) (b:=b) hreg ca cb;with_unfolding_all refine⟨⟨hX4,pa,pb⟩,⟨hX4,pb,pa⟩,⟨Bool×Bool,λx=>x.1=aV lo hi k c l o a b/\x.2=aV lo hi k c l o a a,λx=>aa [(3,.val (.int .u8 m)),(4,.ptr 0 0 0 0),(5,.ptr 1 1 0 0),(6,.ptr 2 2 0 0),(8,.val (.bool false)),(9,.val (.bool x.1)),(10,.val (.int .i64 0)),(11,.val (.bool x.1)),(12,.val (.int .i64 0)),(13,.val (.bool x.2)),(14,.val (.int .i64 0))] [⟨31,14,0,true,false,1,λ_=>bN lo hi k c l o⟩,⟨25,6,1,true,false,1,λ_=>a.cells⟩,⟨25,6,2,true,false,1,λ_=>b.cells⟩] 3 [],?_,λx hx=>?_⟩⟩
  ·with_unfolding_all refine⟨⟨hX4,pa,pa⟩,(aV lo hi k c l o a b,aV lo hi k c l o a a),[some 0,some 1,some 2],rq,Wo ⟨qZ ⟨rq,rq,rq,rq,rq,rq,rq,rq,rq,rq,rq,rq,⟨qW,rfl⟩,⟨qW,rfl⟩,qQ⟩,qK,qK,qQ⟩ ⟨rfl,pP,pP,pP,rfl,hV _ _ _ rfl,hE _ _ ca cb,hV _ _ _ hS,hE _ _ cb ca,hV _ _ _ rfl,hE _ _ ca ca,qQ⟩ trivial⟩
  ·obtain⟨x,y⟩:=x;obtain⟨e1,e2⟩:=hx;obtain⟨q,hq⟩:∃q,q=Rat.divInt (IntKind.i64.wrap m) 255:=⟨_,rfl⟩;have hw:IntKind.i64.wrap m=m:=wrap64 (by omega) (by omega);have hq':q=Rat.divInt m 255:=by rw [hq,hw]
   have hqb:RatS.le 2 (c9 q):=by
    rw [hq'];exact(zl hm0.1 hm0.2).rs
   have hq01:=BQ hm0.1 hm0.2;rw [<-hq'] at hq01;obtain⟨d,hd⟩:∃d,d=xF a b (c9 q):=⟨_,rfl⟩;have cd:ah d=true:=by
    rw [hd];exact sW _ _ _
   have pd:isPk 10000 d.v:=by
    rw [hd];exact⟨_,rfl,(BR ha12 hb12 hqb).mono (by decide)⟩
   have hdX:d.X=a.X+(b.X - a.X)*q:=by rw [hd,Ey,tO]
   have hdY:d.Y=a.Y+(b.Y - a.Y)*q:=by rw [hd,Ez,tO]
   have pa1:isPk 1000 a.v:=⟨a,rfl,ha12.mono (by decide)⟩;have pb1:isPk 1000 b.v:=⟨b,rfl,hb12.mono (by decide)⟩;have pr1:isRk 1000 (c9 q).v:=⟨_,_,_,rfl,Nat.le_trans hqb.1 (by decide),Nat.le_trans hqb.2 (by decide)⟩;have hB:∀z:Bool,aV lo hi k c l o a a=z->(!(z==aV lo hi k (λi=>[.rs 6 (pn c i) (pg c i)]) l (λi=>ab (ow o i)) a a))=true->False:=λz h kk=>by
    have e:aV lo hi k (λi=>[.rs 6 (pn c i) (pg c i)]) l (λi=>ab (ow o i)) a a=z:=h;rw [e] at kk;simp at kk
   have hF:∀z:PtS,aV lo hi k c l o z z=true->(aV lo hi k (λi=>[.rs 6 (pn c i) (pg c i)]) l (λi=>ab (ow o i)) z z = !true)->False:=λz h kk=>by
    have e:aV lo hi k (λi=>[.rs 6 (pn c i) (pg c i)]) l (λi=>ab (ow o i)) z z=true:=h;rw [e] at kk;cases kk
   have hR:PV.val (.bool (c9 (Rat.divInt (IntKind.i64.wrap m) 255)).s)=PV.val (.bool (c9 q).s)/\PV.val (.string (c9 (Rat.divInt (IntKind.i64.wrap m) 255)).b)=PV.val (.string (c9 q).b)/\PV.val (.string (c9 (Rat.divInt (IntKind.i64.wrap m) 255)).c)=PV.val (.string (c9 q).c):=by
    rw [hq];exact⟨rfl,rfl,rfl⟩
   have hD:=zK hd.symm;have nw:IntKind.i64.wrap m < 256/\0<=IntKind.i64.wrap m:=by omega
   cases x with
   |false=>with_unfolding_all refine⟨λ_=>⟨λ_=>⟨λ_=>⟨λ_=>⟨⟨hX4,pa⟩,λh=>(hB y e2.symm h).elim,λ_=>⟨λ_=>⟨[],aa [(8,.val (.bool true))] [] 0 [],Wo trivial ⟨rfl,qQ⟩ trivial,rfl,rfl⟩,λh=>(nomatch h)⟩⟩,λh=>(nomatch h)⟩,λh=>(nomatch h)⟩,λh=>(nomatch h)⟩,λh=>(nomatch h)⟩
   |true =>
    obtain⟨⟨s1,s2⟩,s3,s4,s5⟩:=xo hreg ca cb cd hdX hdY hq01.1 hq01.2 e1.symm;with_unfolding_all refine⟨λ_=>⟨λ_=>⟨λ_=>⟨λ_=>⟨⟨hX4,pa⟩,λh=>(hB y e2.symm h).elim,λ_=>⟨λh=>(nomatch h),λ_=>⟨Unit,λ_=>True,λ_=>aa [(4,.ptr 0 0 0 0),(5,.ptr 1 1 0 0),(6,.ptr 2 2 0 0),(8,.val (.bool false)),(15,.ptr 3 3 0 0)] [⟨31,14,0,true,false,1,λ_=>bN lo hi k c l o⟩,⟨25,6,1,true,false,1,λ_=>a.cells⟩,⟨25,6,2,true,false,1,λ_=>b.cells⟩,⟨23,3,3,true,false,1,λ_=>(c9 q).cells⟩] 4 [],?_,λ_ _=>?_⟩⟩⟩,λh=>(nomatch h)⟩,λh=>(nomatch h)⟩,λh=>(nomatch h)⟩,λh=>(nomatch h)⟩
    ·with_unfolding_all refine⟨⟨⟨by omega,by omega⟩,by decide,by decide⟩,(),[some 0,some 1,some 2,some 3],trivial,Wo ⟨qZ ⟨rq,rq,rq,rq,rq,rq,rq,rq,rq,rq,rq,rq,⟨qW,rfl⟩,⟨qW,rfl⟩,qQ⟩,qK,qK,qZ ⟨⟨hR.1,rfl⟩,⟨hR.2.1,rfl⟩,⟨hR.2.2,rfl⟩,qQ⟩,qQ⟩ ⟨pP,pP,pP,rfl,pP,qQ⟩ trivial⟩
    ·with_unfolding_all refine⟨Unit,λ_=>True,λ_=>aa [(4,.ptr 0 0 0 0),(5,.ptr 1 1 0 0),(6,.ptr 2 2 0 0),(8,.val (.bool false)),(17,.ptr 3 3 0 0)] [⟨31,14,0,true,false,1,λ_=>bN lo hi k c l o⟩,⟨25,6,1,true,false,1,λ_=>a.cells⟩,⟨25,6,2,true,false,1,λ_=>b.cells⟩,⟨25,6,3,true,false,1,λ_=>d.cells⟩] 4 [],?_,λ_ _=>?_⟩
     ·with_unfolding_all refine⟨⟨pa1,pb1,pr1⟩,(),[some 0,some 1,some 2,some 4],trivial,Wo ⟨qZ ⟨rq,rq,rq,rq,rq,rq,rq,rq,rq,rq,rq,rq,⟨qW,rfl⟩,⟨qW,rfl⟩,qQ⟩,qK,qK,qZ ⟨⟨hD.1,rfl⟩,⟨hD.2.1,rfl⟩,⟨hD.2.2.1,rfl⟩,⟨hD.2.2.2.1,rfl⟩,⟨hD.2.2.2.2.1,rfl⟩,⟨hD.2.2.2.2.2,rfl⟩,qQ⟩,qQ⟩ ⟨pP,pP,pP,rfl,pP,qQ⟩ trivial⟩
     ·with_unfolding_all refine⟨⟨hX4,pa,pd⟩,⟨Unit,λ_=>True,λ_=>aa [(4,.ptr 0 0 0 0),(5,.ptr 1 1 0 0),(6,.ptr 2 2 0 0),(8,.val (.bool false)),(17,.ptr 3 3 0 0),(18,.val (.bool true)),(19,.val (.int .i64 0)),(20,.val (.bool true)),(21,.val (.int .i64 0))] [⟨31,14,0,true,false,1,λ_=>bN lo hi k c l o⟩,⟨25,6,1,true,false,1,λ_=>a.cells⟩,⟨25,6,2,true,false,1,λ_=>b.cells⟩,⟨25,6,3,true,false,1,λ_=>d.cells⟩] 4 [],?_,λ_ _=>?_⟩⟩
      ·with_unfolding_all refine⟨⟨hX4,pd,pb⟩,(),[some 0,some 1,some 2,some 3],trivial,Wo ⟨qZ ⟨rq,rq,rq,rq,rq,rq,rq,rq,rq,rq,rq,rq,⟨qW,rfl⟩,⟨qW,rfl⟩,qQ⟩,qK,qK,qK,qQ⟩ ⟨pP,pP,pP,rfl,pP,hV _ _ _ s1,hE _ _ ca cd,hV _ _ _ s2,hE _ _ cd cb,qQ⟩ trivial⟩
      ·with_unfolding_all exact⟨λ_=>⟨λ_=>⟨λ_=>⟨λ_=>⟨⟨hX4,pa⟩,λ_=>⟨⟨hX4,pb⟩,λ_=>⟨⟨hX4,pd⟩,λ_=>⟨[],aa [(8,.val (.bool true))] [] 0 [],Wo trivial ⟨rfl,qQ⟩ trivial,rfl,rfl⟩,λh=>(hF _ s5 h).elim⟩,λh=>(hF _ s4 h).elim⟩,λh=>(hF _ s3 h).elim⟩,λh=>(nomatch h)⟩,λh=>(nomatch h)⟩,λh=>(nomatch h)⟩,λh=>(nomatch h)⟩
 ·cases e
end Go.Proofs
namespace Go.Num
theorem dB (a:Rat):(a < 0/\an a 0 = -1)\/(0 < a/\an a 0=1)\/(a=0/\an a 0=0):=by
 unfold an;split
 ·rename_i h
  exact .inl ⟨h,rfl⟩
 ·rename_i h
  split
  ·rename_i h2
   exact .inr (.inl ⟨h2,rfl⟩)
  ·rename_i h2
   exact .inr (.inr ⟨by grind,rfl⟩)
theorem xq (a b p:PtS):gp b a p = -gp a b p:=by
 unfold gp b9 cH;rw [fQ,fR,fQ,fR,fQ,fR,fQ,fR];have e:(a.X - b.X)*(p.Y - b.Y) - (a.Y - b.Y)*(p.X - b.X) = -((b.X - a.X)*(p.Y - a.Y) - (b.Y - a.Y)*(p.X - a.X)):=by grind
 rw [e];generalize (b.X - a.X)*(p.Y - a.Y) - (b.Y - a.Y)*(p.X - a.X)=t;rcases dB t with ⟨h,k⟩|⟨h,k⟩|⟨h,k⟩
 ·rcases dB (-t) with ⟨h',_⟩|⟨_,k'⟩|⟨h',_⟩
  ·exfalso;grind
  ·rw [k,k'];rfl
  ·exfalso;grind
 ·rcases dB (-t) with ⟨_,k'⟩|⟨h',_⟩|⟨h',_⟩
  ·rw [k,k']
  ·exfalso;grind
  ·exfalso;grind
 ·rcases dB (-t) with ⟨h',_⟩|⟨h',_⟩|⟨_,k'⟩
  ·exfalso;grind
  ·exfalso;grind
  ·rw [k,k'];rfl
theorem xt (a b p:PtS):cX a b 1 p=decide (0 < gp a b p):=by
 unfold cX gp;rcases dB (b9 (cH b a) (cH p a)) with ⟨_,k⟩|⟨_,k⟩|⟨_,k⟩<;>rw [k]<;>rfl
theorem xu (a b p:PtS):cX a b (-1) p=decide (gp a b p < 0):=by
 unfold cX gp;rcases dB (b9 (cH b a) (cH p a)) with ⟨_,k⟩|⟨_,k⟩|⟨_,k⟩<;>rw [k]<;>rfl
theorem xv {p u:RatS} (h:BW p u=true):p=u:=by
 have be:∀x y:ByteArray,(x==y)=true->x=y:=λ⟨x⟩ ⟨y⟩ h=>by
  have h:(x==y)=true:=h;rw [eq_of_beq h]
 unfold BW at h;simp only [Bool.and_true,Bool.and_eq_true] at h;obtain⟨h1,h2,h3⟩:=h;obtain⟨s,b,c⟩:=p;obtain⟨s',b',c'⟩:=u;have h1:=eq_of_beq h1;have h2:=be _ _ h2;have h3:=be _ _ h3;simp only at h1 h2 h3;rw [h1,h2,h3]
theorem oR {p u:PtS} (h:bH p u=true):p=u:=by
 unfold bH at h;simp only [Bool.and_true,Bool.and_eq_true] at h;obtain⟨x,y⟩:=p;obtain⟨x',y'⟩:=u;have h1:=xv h.1;have h2:=xv h.2;simp only at h1 h2;rw [h1,h2]
theorem xw {a:Rat}:an a 0=0↔a=0:=by
 rcases dB a with ⟨h,k⟩|⟨h,k⟩|⟨h,k⟩
 ·rw [k];exact⟨λh2=>absurd h2 (by decide),λh2=>by grind⟩
 ·rw [k];exact⟨λh2=>absurd h2 (by decide),λh2=>by grind⟩
 ·exact⟨λ_=>h,λ_=>k⟩
theorem xx (a b:PtS):gp a b a=0:=by
 unfold gp b9 cH;rw [fQ,fR,fQ,fR,xw]
 grind
theorem vd (a b:PtS):gp a b b=0:=by
 unfold gp b9 cH;rw [fQ,fR,xw]
 grind
theorem mh {n:Nat} {p:Nat->PtS} (h:aY n p=0):(3<=n/\n<=64)/\(∀i,i < n->ah (p i)=true)/\∀e,e < n->∀i,i < n->dz (p e) (p ((e+1)%n)) (p i)=false:=by
 unfold aY at h;cases h1:(decide (n < 3)||decide (64 < n)) with
 |true=>rw [h1] at h;cases h
 |false =>
  rw [h1,cond_false] at h;cases h2:aA (λi=>!ah (p i)) n with
  |true=>rw [h2] at h;cases h
  |false =>
   rw [h2,cond_false] at h;cases h3:aA (λi=>mY (p 0) (p (1+i))) (n - 1) with
   |true=>rw [h3] at h;cases h
   |false =>
    rw [h3,cond_false] at h;cases h4:aA (λe=>aA (λi=>dz (p e) (p ((e+1)%n)) (p i)) n) n with
    |true=>rw [h4] at h;cases h
    |false =>
     simp only [Bool.or_eq_false_iff,decide_eq_false_iff_not] at h1;exact⟨by omega,λi hi=>by simpa using (aE.1 h2) i hi,λe he i hi=>(aE.1 ((aE.1 h4) e he)) i hi⟩
theorem ng {n:Nat} {p:Nat->PtS} (h:aY n p=0) {e i:Nat} (he:e < n) (hi:i < n):0<=gp (p e) (p ((e+1)%n)) (p i):=by
 have hb:=(mh h).2.2 e he i hi;unfold dz at hb;cases h1:bH (p i) (p e) with
 |true=>rw [oR h1,xx];exact Int.le_refl _
 |false =>
  cases h2:bH (p i) (p ((e+1)%n)) with
  |true=>rw [oR h2,vd];exact Int.le_refl _
  |false =>
   rw [h1,h2] at hb;have:=of_decide_eq_false hb;omega
theorem sX {lo hi:PtS} {k:Nat} {c:Nat->List PV} {l:Nat} {o:Nat->List PV} {G:Nat->PtS} (hr:bz lo hi k (pn c) (λi=>ai (pg c i)) l (ow o)=0) {i j:Nat} (hi:i < k) (hj:j < pn c i) {u v:Int} (hu:G u.toNat=ai (pg c i) j) (hv:G v.toNat=ai (pg c i) ((j+1)%pn c i)) :
  bW k c G u v=true/\bW k c G v u=true:=by
 have hR:=fU hr i hi;have hj2:(j+1)%pn c i < pn c i:=Nat.mod_lt _ (by omega);have one:∀x y:Int,∀a b:PtS,G x.toNat=a->G y.toNat=b->cl (pn c i) (ai (pg c i)) a b=true->bW k c G x y=true:=λx y a b h1 h2 h3=>by
  unfold bW;rw [Bool.or_eq_true];right;rw [h1,h2];exact a8.2 ⟨i,hi,h3⟩
 constructor
 ·refine one u v _ _ hu hv ?_;unfold cl;have s:aA (λt=>cX (ai (pg c i) j) (ai (pg c i) ((j+1)%pn c i)) (-1) (ai (pg c i) t)) (pn c i)=false:=aE.2 λt ht=>by
   rw [xu];have:=ng hR hj ht;exact decide_eq_false (by omega)
  rw [s,Bool.and_false,Bool.not_false,Bool.and_true];exact a8.2 ⟨j,hj,jA _⟩
 ·refine one v u _ _ hv hu ?_;unfold cl;have s:aA (λt=>cX (ai (pg c i) ((j+1)%pn c i)) (ai (pg c i) j) 1 (ai (pg c i) t)) (pn c i)=false:=aE.2 λt ht=>by
   rw [xt,xq];have:=ng hR hj ht;exact decide_eq_false (by omega)
  rw [s,Bool.false_and,Bool.not_false,Bool.and_true];exact a8.2 ⟨_,hj2,jA _⟩
def dV (G:Nat->PtS) (N n:Nat) (p:Nat->PtS):Nat->List (Int×Int)
 |0=>[]
 |j+1=>dV G N n p j++[(min (bV (λt=>bH (p j) (G t)) N 0) (bV (λt=>bH (p ((j+1)%n)) (G t)) N 0),max (bV (λt=>bH (p j) (G t)) N 0) (bV (λt=>bH (p ((j+1)%n)) (G t)) N 0))]
def bQ (G:Nat->PtS) (N:Nat) (n:Nat->Nat) (p:Nat->Nat->PtS):Nat->List (Int×Int)
 |0=>[(0,1)]
 |i+1=>bQ G N n p i++dV G N (n i) (p i) (n i)
theorem mi (G:Nat->PtS) (N n:Nat) (p:Nat->PtS):∀j,(dV G N n p j).length=j
 |0=>rfl
 |j+1=>by rw [dV,List.length_append,mi G N n p j];rfl
theorem mj (G:Nat->PtS) (N:Nat) (n:Nat->Nat) (p:Nat->Nat->PtS):∀i,(bQ G N n p i).length=1+bg n i
 |0=>rfl
 |i+1=>by rw [bQ,List.length_append,mj G N n p i,mi,bg];omega
theorem qI {G:Nat->PtS} {N n:Nat} {p:Nat->PtS} {x:Int×Int}:∀{j:Nat},x∈dV G N n p j->∃t,t < j/\x=(min (bV (λs=>bH (p t) (G s)) N 0) (bV (λs=>bH (p ((t+1)%n)) (G s)) N 0),max (bV (λs=>bH (p t) (G s)) N 0) (bV (λs=>bH (p ((t+1)%n)) (G s)) N 0))
 |0,h=>by cases h
 |j+1,h=>by
  rcases List.mem_append.1 h with h|h
  ·obtain⟨t,h1,h2⟩:=qI h;exact⟨t,by omega,h2⟩
  ·exact⟨j,by omega,List.mem_singleton.1 h⟩
theorem qM {G:Nat->PtS} {N:Nat} {n:Nat->Nat} {p:Nat->Nat->PtS} {x:Int×Int}:∀{i:Nat},x∈bQ G N n p i->x=(0,1)\/∃s,s < i/\∃t,t < n s/\x=(min (bV (λr=>bH (p s t) (G r)) N 0) (bV (λr=>bH (p s ((t+1)%n s)) (G r)) N 0),max (bV (λr=>bH (p s t) (G r)) N 0) (bV (λr=>bH (p s ((t+1)%n s)) (G r)) N 0))
 |0,h=>.inl (List.mem_singleton.1 h)
 |i+1,h=>by
  rcases List.mem_append.1 h with h|h
  ·rcases qM h with h|⟨s,h1,h2⟩
   ·exact .inl h
   ·exact .inr ⟨s,by omega,h2⟩
  ·obtain⟨t,h1,h2⟩:=qI h;exact .inr ⟨i,by omega,t,h1,h2⟩
theorem xy {f:Nat->Bool} {N:Nat} (h:0<=bV f N 0):f (bV f N 0).toNat=true:=by
 rcases sr (p:=f) N 0 with ⟨_,e⟩|⟨j,_,_,hj,_,e⟩
 ·omega
 ·rw [e,Int.toNat_natCast];exact hj
theorem t7 {T:Int->Int->Bool} {q:Nat->Int×Int} {t:Nat} (h:(T (q t).1 (q t).2&&T (q t).2 (q t).1)=true):∀{m:Nat},t < m->q t∈bB T q m
 |0,hm=>by omega
 |m+1,hm=>by
  rw [bB];by_cases e:t=m
  ·subst e;rw [h];exact List.mem_append_right _ (List.mem_singleton.2 rfl)
  ·exact List.mem_append_left _ (t7 h (by omega))
theorem zn {L:List (Int×Int)} {x:Int×Int} (h:x∈L):aA (λi=>eqQ x (qL L i)) L.length=true:=by
 obtain⟨i,hi,e⟩:=List.mem_iff_getElem.1 h;exact a8.2 ⟨i,hi,oI.2 (by rw [qL,List.getElem?_eq_getElem hi,<-e];rfl)⟩
theorem zo {lo hi:PtS} {k:Nat} {c:Nat->List PV} {l:Nat} {o:Nat->List PV} {G:Nat->PtS} {N m:Nat} {q:Nat->Int×Int} (hr:bz lo hi k (pn c) (λi=>ai (pg c i)) l (ow o)=0) (hL:bX N q m=true) {x:Int×Int}
  (hx:x∈bQ G N (pn c) (λi=>ai (pg c i)) k) (ht:aA (λi=>eqQ x (q i)) m=true):aA (λi=>eqQ x (qL (bB (bW k c G) q m) i)) (bB (bW k c G) q m).length=true:=by
 obtain⟨t,ht,e⟩:=a8.1 ht;have e:=oI.1 e;refine zn ?_;have hl:=fV hL ht;rw [e];refine t7 ?_ ht;rw [<-e] at hl ⊢;rcases qM hx with e2|⟨s,hs,j,hj,e2⟩
 ·rw [e2];rfl
 ·have key:∀u v:Int,u=bV (λr=>bH (ai (pg c s) j) (G r)) N 0->v=bV (λr=>bH (ai (pg c s) ((j+1)%pn c s)) (G r)) N 0->0<=u->0<=v->bW k c G u v=true/\bW k c G v u=true:=λu v hu hv h1 h2 =>
   sX hr hs hj (by rw [hu] at h1 ⊢;exact(oR (xy h1)).symm) (by rw [hv] at h2 ⊢;exact(oR (xy h2)).symm)
  have k2:=key _ _ rfl rfl;rw [e2] at hl ⊢;simp only at hl ⊢ k2;generalize bV (λr=>bH (ai (pg c s) j) (G r)) N 0=u at *
  generalize bV (λr=>bH (ai (pg c s) ((j+1)%pn c s)) (G r)) N 0=v at *
  obtain⟨h1,h2,_⟩:=hl;have k3:=k2 (by omega) (by omega);rcases Int.le_total u v with h|h
  ·rw [Int.min_eq_left h,Int.max_eq_right h,k3.1,k3.2];rfl
  ·rw [Int.min_eq_right h,Int.max_eq_left h,k3.1,k3.2];rfl
theorem qN {T:Int->Int->Bool} {q:Nat->Int×Int}:∀(d j:Nat),bB T q j <+: bB T q (j+d)
 |0,j=>List.prefix_refl _
 |d+1,j=>(qN d j).trans (List.prefix_append _ _)
theorem ve {T:Int->Int->Bool} {q:Nat->Int×Int} {m i κ : Nat} (hκ : κ < m) (h:(bB T q κ).length<=i) (hne:eqQ (q κ) (qL (bB T q m) i)=false):(bB T q (κ+1)).length<=i:=by
 cases hT:(T (q κ).1 (q κ).2&&T (q κ).2 (q κ).1) with
 |false =>
  rw [bB,hT];simpa using h
 |true =>
  have hp:bB T q (κ+1) <+: bB T q m:=by
   have:=qN (T:=T) (q:=q) (m - (κ+1)) (κ+1)
   rwa [show κ+1+(m - (κ+1))=m by omega] at this
  have e1:bB T q (κ+1)=bB T q κ++[q κ]:=by rw [bB,hT];rfl
  rw [e1,List.length_append];rcases Nat.lt_or_ge (bB T q κ).length i with h2|h2
  ·simp;omega
  ·exfalso;have hi:i=(bB T q κ).length:=by omega
   obtain⟨r,hr⟩:=hp;have:qL (bB T q m) i=q κ:=by
    rw [<-hr,e1,qL,hi];simp
   rw [this,oI.2 rfl] at hne;cases hne
theorem xz {T:Int->Int->Bool} {q:Nat->Int×Int} {m i κ : Nat} (hκ : κ<=m) (hi:i < (bB T q m).length) (h:(bB T q κ).length<=i) : κ < m:=by
 rcases Nat.lt_or_ge κ m with h2|h2
 ·exact h2
 ·rw [show κ = m by omega] at h;omega
theorem nh {S:PtS->Bool} {p:Nat->PtS} {x:PtS}:∀{j:Nat},x∈dh S p j->∃t,t < j/\x=p t/\S x=true
 |0,h=>by cases h
 |j+1,h=>by
  rcases List.mem_append.1 h with h|h
  ·obtain⟨t,h1,h2⟩:=nh h;exact⟨t,by omega,h2⟩
  ·cases hs:S (p j) with
   |true =>
    rw [hs] at h;have:=List.mem_singleton.1 h;exact⟨j,by omega,this,by rw [this];exact hs⟩
   |false=>rw [hs] at h;cases h
theorem ni {S:PtS->Bool} {n:Nat->Nat} {p:Nat->Nat->PtS} {x:PtS}:∀{i:Nat},x∈cu S n p i->∃s,s < i/\∃t,t < n s/\x=p s t/\S x=true
 |0,h=>by cases h
 |i+1,h=>by
  rcases List.mem_append.1 h with h|h
  ·obtain⟨s,h1,h2⟩:=ni h;exact⟨s,by omega,h2⟩
  ·obtain⟨t,h1,h2⟩:=nh h;exact⟨i,by omega,t,h1,h2⟩
theorem nj (S:PtS->Bool) (p:Nat->PtS):∀j,(dh S p j).length<=j
 |0=>Nat.le_refl _
 |j+1=>by
  have:=nj S p j;rw [dh,List.length_append];cases S (p j)<;>simp<;>omega
theorem kf (S:PtS->Bool) (n:Nat->Nat) (p:Nat->Nat->PtS):∀i,(cu S n p i).length<=bg n i
 |0=>Nat.le_refl _
 |i+1=>by
  have:=kf S n p i;have:=nj S (p i) (n i);rw [cu,List.length_append,bg];omega
theorem vf {lo hi:PtS} {k:Nat} {c:Nat->List PV} {l:Nat} {o:Nat->List PV} {x:PtS} (h:x∈dT lo hi k c l o):x∈ap lo hi k c l o:=by
 obtain⟨i,hi2,e⟩:=ka h;refine(fT _).mem_iff.1 ?_;rw [e];unfold ae;rw [List.getElem?_eq_getElem (by rw [na];exact hi2)];exact List.getElem_mem _
theorem qO {lo hi:PtS} {k:Nat} {c:Nat->List PV} {l:Nat} {o:Nat->List PV} (hr:bz lo hi k (pn c) (λi=>ai (pg c i)) l (ow o)=0) {x:PtS} (h:x∈ap lo hi k c l o):ah x=true:=by
 obtain⟨s,hs,t,ht,e,_⟩:=ni h;rw [e];exact(mh (fU hr s hs)).2.1 t ht
theorem nk {p q:PtS} {C:Nat->PtS} {x:PtS}:∀{j:Nat},x∈bu p q C j->x=p\/x=q\/∃i,i < j/\x=C i
 |0,h=>by
  rcases List.mem_cons.1 h with h|h
  ·exact .inl h
  ·exact .inr (.inl (List.mem_singleton.1 h))
 |j+1,h=>by
  rcases List.mem_append.1 h with h|h
  ·rcases nk h with h|h|⟨i,h1,h2⟩
   ·exact .inl h
   ·exact .inr (.inl h)
   ·exact .inr (.inr ⟨i,by omega,h2⟩)
  ·cases hb:(!bH (C j) p&&!bH (C j) q) with
   |true =>
    rw [hb] at h;exact .inr (.inr ⟨j,by omega,List.mem_singleton.1 h⟩)
   |false=>rw [hb] at h;cases h
theorem jC {S:PtS->PtS->Bool} {P:Nat->PtS} {i:Nat} {x:Int×Int}:∀{d:Nat},x∈cI S P i d->∃e,e < d/\x=((i:Int),((i+1+e:Nat):Int))/\S (P i) (P (i+1+e))=true
 |0,h=>by cases h
 |d+1,h=>by
  rcases List.mem_append.1 h with h|h
  ·obtain⟨e,h1,h2⟩:=jC h;exact⟨e,by omega,h2⟩
  ·cases hb:S (P i) (P (i+1+d)) with
   |true =>
    rw [hb] at h;exact⟨d,by omega,List.mem_singleton.1 h,hb⟩
   |false=>rw [hb] at h;cases h
theorem ml {S:PtS->PtS->Bool} {P:Nat->PtS} {n:Nat} {x:Int×Int}:∀{i:Nat},x∈bG S P n i->∃s,s < i/\∃e,e < n - (s+1)/\x=((s:Int),((s+1+e:Nat):Int))/\S (P s) (P (s+1+e))=true
 |0,h=>by cases h
 |i+1,h=>by
  rcases List.mem_append.1 h with h|h
  ·obtain⟨s,h1,h2⟩:=ml h;exact⟨s,by omega,h2⟩
  ·obtain⟨e,h1,h2⟩:=jC h;exact⟨i,by omega,e,h1,h2⟩
theorem nq {x y:Int×Int}:dK x y=true↔x.1 < y.1\/x.1=y.1/\x.2 < y.2:=by
 unfold dK;simp
theorem kC (S:PtS->PtS->Bool) (P:Nat->PtS) (i:Nat):∀d,(cI S P i d).Pairwise λx y=>dK x y=true
 |0=>List.Pairwise.nil
 |d+1=>by
  rw [cI,List.pairwise_append];refine⟨kC S P i d,?_,λx hx y hy=>?_⟩
  ·cases S (P i) (P (i+1+d))<;>simp
  ·obtain⟨e,h1,h2,_⟩:=jC hx;cases hb:S (P i) (P (i+1+d)) with
   |true =>
    rw [hb] at hy;rw [List.mem_singleton.1 hy,h2,nq];exact .inr ⟨rfl,by show((i+1+e:Nat):Int) < ((i+1+d:Nat):Int);omega⟩
   |false=>rw [hb] at hy;cases hy
theorem kD (S:PtS->PtS->Bool) (P:Nat->PtS) (n:Nat):∀i,(bG S P n i).Pairwise λx y=>dK x y=true
 |0=>List.Pairwise.nil
 |i+1=>by
  rw [bG,List.pairwise_append];refine⟨kD S P n i,kC S P i _,λx hx y hy=>?_⟩;obtain⟨s,h1,e,h2,h3,_⟩:=ml hx;obtain⟨e',h4,h5,_⟩:=jC hy;rw [h3,h5,nq];exact .inl (by show(s:Int) < i;omega)
theorem BS (S:PtS->PtS->Bool) (P:Nat->PtS) (n:Nat):bX n (qL (bG S P n n)) (bG S P n n).length=true:=by
 unfold bX;rw [Bool.not_eq_true'];refine aE.2 λi hi=>?_;have e:qL (bG S P n n) i=(bG S P n n)[i]:=by rw [qL,List.getElem?_eq_getElem hi];rfl
 obtain⟨s,h1,d,h2,h3,_⟩:=ml (List.getElem_mem hi);unfold gN;simp only [Bool.or_eq_false_iff,decide_eq_false_iff_not,Bool.and_eq_false_iff,Bool.not_eq_false'];rw [e,h3];refine⟨⟨⟨by show ¬(s:Int) < 0;omega,by show ¬((s+1+d:Nat):Int)<=s;omega⟩,by show ¬(n:Int)<=((s+1+d:Nat):Int);omega⟩,?_⟩;rw [<-h3];by_cases h0:0 < i
 ·right;have e2:qL (bG S P n n) (i - 1)=(bG S P n n)[i - 1]:=by rw [qL,List.getElem?_eq_getElem (by omega)];rfl
  rw [e2];exact List.pairwise_iff_getElem.1 (kD S P n n) (i - 1) i (by omega) hi (by omega)
 ·exact .inl h0
theorem vg {lo hi:PtS} {k:Nat} {c:Nat->List PV} {l:Nat} {o:Nat->List PV} {a b:PtS} (hr:bz lo hi k (pn c) (λi=>ai (pg c i)) l (ow o)=0) (ha:ah a=true) (hb:ah b=true) (hs:bg (pn c) k<=24) :
  cG (bO lo hi k c l o a b).length (ae (bO lo hi k c l o a b)) (dN lo hi k c l o a b).length (qL (dN lo hi k c l o a b))=true/\(bO lo hi k c l o a b).length<=26:=by
 have hlen:(bO lo hi k c l o a b).length<=26:=by
  unfold bO;cases mF lo hi k c l o a b==0 with
  |false=>exact Nat.zero_le _
  |true =>
   have h1:=(jB a b (ae (dT lo hi k c l o)) (dT lo hi k c l o).length).2;have h2:(dT lo hi k c l o).length<=(ap lo hi k c l o).length:=l7 _ _;have h3:(ap lo hi k c l o).length<=bg (pn c) k:=kf _ _ _ _;show(bu a b (ae (dT lo hi k c l o)) (dT lo hi k c l o).length).length<=26;omega
 refine⟨?_,hlen⟩;unfold cG;have h1:decide ((bO lo hi k c l o a b).length<=1000)=true:=decide_eq_true (by omega);have h2:aA (λi=>!ah (ae (bO lo hi k c l o a b) i)) (bO lo hi k c l o a b).length=false:=aE.2 λi hi2=>by
  have hm:ae (bO lo hi k c l o a b) i∈bO lo hi k c l o a b:=by
   unfold ae;rw [List.getElem?_eq_getElem hi2];exact List.getElem_mem _
  revert hm;generalize ae (bO lo hi k c l o a b) i=x;intro hm;unfold bO at hm;cases hB:mF lo hi k c l o a b==0 with
  |false=>rw [hB] at hm;cases hm
  |true =>
   rw [hB] at hm;have hc:ah x=true:=by
    rcases nk hm with h|h|⟨j,h3,h4⟩
    ·rw [h];exact ha
    ·rw [h];exact hb
    ·refine qO hr (vf ?_);rw [h4];unfold ae;rw [List.getElem?_eq_getElem h3];exact List.getElem_mem _
   rw [hc];rfl
 rw [h1,h2];exact BS _ _ _
theorem xA {lo hi:PtS} {k:Nat} {n:Nat->Nat} {p:Nat->Nat->PtS} {l:Nat} {q:Nat->Int×Int×Int} (hr:bz lo hi k n p l q=0):k<=32:=by
 unfold bz at hr;cases h1:(!ah lo||!ah hi) with
 |true=>rw [h1] at hr;cases hr
 |false =>
  rw [h1,cond_false] at hr;cases h2:decide (32 < k) with
  |true=>rw [h2] at hr;cases hr
  |false=>have:=of_decide_eq_false h2;omega
theorem xC {xs:List PV} {n:Nat} {r:Nat->List PV} (h:kB xs n r=true):bg (pn (gC xs)) (gK xs)<=24:=by
 unfold kB iP at h;rw [Bool.and_eq_true,Bool.and_eq_true,Bool.not_eq_true',Bool.or_eq_false_iff] at h;obtain⟨⟨⟨g1,_⟩,g3⟩,_⟩:=h;have hr:=t6 (eq_of_beq g3);have hk:gK xs<=32:=xA hr;unfold l9 at g1;simp only [Bool.or_eq_false_iff,Bool.and_eq_false_iff,decide_eq_false_iff_not] at g1;omega
theorem t8 {n:Nat->Nat}:∀{i k:Nat},i<=k->bg n i<=bg n k
 |i,0,h=>by rw [Nat.le_zero.1 h];exact Nat.le_refl _
 |i,k+1,h=>by
  by_cases e:i=k+1
  ·rw [e];exact Nat.le_refl _
  ·exact Nat.le_trans (t8 (k:=k) (by omega)) (Nat.le_add_right _ _)
theorem nr {xs:List PV} {n:Nat} {r:Nat->List PV} (h:(!kB xs n r)=false):bg (pn (gC xs)) (gK xs)<=24:=xC (by simpa using h)
theorem BT {L:List (Int×Int)} {i:Nat} (hi:i < L.length):qL L i∈L:=by
 rw [qL,List.getElem?_eq_getElem hi];exact List.getElem_mem hi
theorem zp {lo hi:PtS} {k:Nat} {c:Nat->List PV} {l:Nat} {o:Nat->List PV} {a b:PtS} (ha:a.le 10000) (hb:b.le 10000) (h:bZ 10000 k c):∀i,i < (bO lo hi k c l o a b).length->(ae (bO lo hi k c l o a b) i).le 10000:=λi hi2=>by
 refine jx (λp hp=>?_) hi2;unfold bO at hp;cases hB:mF lo hi k c l o a b==0 with
 |false=>rw [hB] at hp;cases hp
 |true =>
  rw [hB] at hp;exact ke ha hb (λj hj=>jx (qo h) hj) p hp
def dl {α : Type} (d:Nat) (g:Nat->α) (i:Nat) : α:=if i < d then g i else g (i+1)
theorem ua {α : Type} {d k i:Nat} (g:Nat->α) (h:i < k - 1):∃j,j < k/\dl d g i=g j:=by
 unfold dl;split
 ·exact⟨i,by omega,rfl⟩
 ·exact⟨i+1,by omega,rfl⟩
theorem fl {α β : Type} (d:Nat) (f : α->β) (g:Nat->α) (i:Nat):f (dl d g i)=dl d (λi=>f (g i)) i:=by
 unfold dl;split<;>rfl
theorem ub {d:Nat} {n:Nat->Nat}:∀{j:Nat},j<=d->bg (dl d n) j=bg n j
 |0,_=>rfl
 |j+1,h=>by
  rw [bg,bg,ub (by omega),dl,if_pos (by omega)]
theorem xD {d:Nat} {n:Nat->Nat}:∀{j:Nat},bg (dl d n) j<=bg n (j+1)
 |0=>Nat.zero_le _
 |j+1=>by
  by_cases h:j+1<=d
  ·rw [ub h];show _<=bg n (j+1)+n (j+1);omega
  ·have:=xD (d:=d) (n:=n) (j:=j);rw [bg,dl,if_neg (by omega)];show _<=bg n (j+1)+n (j+1);omega
theorem sY {r:Nat->Int} {k:Nat} (h:∀i,i < k->r i=0):bm r k 0=0:=by
 have z:∀k i,bm (λ_=>0) k i=0:=by
  intro k
  induction k with
  |zero=>exactλ_=>rfl
  |succ k ih=>exactλi=>ih (i+1)
 exact gT (r:=λ_=>0) (λj _ hj _=>h j (by omega)) (z k 0)
theorem kg {lo hi:PtS} {k:Nat} {n:Nat->Nat} {p:Nat->Nat->PtS} {l:Nat} {q:Nat->Int×Int×Int}:bz lo hi k n p l q=0↔(ah lo=true/\ah hi=true)/\k<=32/\bm (λi=>aY (n i) (p i)) k 0=0/\bg n k<=396/\l=k/\aA (λi=>cR (q i)) l=false:=by
 unfold bz;generalize bm (λi=>aY (n i) (p i)) k 0=F;generalize aA (λi=>cR (q i)) l=N;cases ah lo<;>cases ah hi<;>try simp
 by_cases h1:32 < k
 ·rw [decide_eq_true h1];simp;omega
 ·rw [decide_eq_false h1];by_cases h2:F=0
  ·subst h2;by_cases h3:396 < bg n k
   ·rw [decide_eq_true h3];simp;omega
   ·rw [decide_eq_false h3];by_cases h4:l=k
    ·rw [decide_eq_true h4];cases N<;>simp<;>omega
    ·rw [decide_eq_false h4];simp;omega
  ·have h5:(F==0)=false:=by simpa using h2
   rw [h5];simp [h2]
theorem EA {lo hi:PtS} {k:Nat} {c:Nat->List PV} {l:Nat} {o:Nat->List PV} {a b:PtS} {d:Nat} (hr:bz lo hi k (pn c) (λi=>ai (pg c i)) l (ow o)=0) (ha:ah a=true) (hb:ah b=true) (hd:d < k) :
  bz lo hi (k - 1) (pn (dl d c)) (λi=>ai (pg (dl d c) i)) (l - 1) (ow (dl d o))=0/\(aV lo hi k c l o a b=true->aV lo hi (k - 1) (dl d c) (l - 1) (dl d o) a b=true):=by
 have hR:=fU hr;have e1:pn (dl d c)=dl d (pn c):=funext λi=>fl d (λx=>(ez x).1) c i;have hr2:bz lo hi (k - 1) (pn (dl d c)) (λi=>ai (pg (dl d c) i)) (l - 1) (ow (dl d o))=0:=by
  obtain⟨h1,h2,h3,h4,h5,h6⟩:=kg.1 hr;refine kg.2 ⟨h1,by omega,sY λi hi=>?_,?_,by omega,aE.2 λi hi=>?_⟩
  ·obtain⟨j,hj,e⟩:=ua (d:=d) c hi;have:=hR j hj;show aY (ez (dl d c i)).1 (ai (ez (dl d c i)).2)=0;rw [e];exact this
  ·rw [e1];have:=xD (d:=d) (n:=pn c) (j:=k - 1);rw [show k - 1+1=k by omega] at this;omega
  ·obtain⟨j,hj,e⟩:=ua (d:=d) o hi;show cR (Bk (dl d o i))=false;rw [e];exact(aE.1 h6) j hj
 refine⟨hr2,λh=>?_⟩;have h:=(du hr ha hb).1 h;refine(du hr2 ha hb).2 ⟨h.inA,h.inB,λi hi=>?_⟩;obtain⟨j,hj,e⟩:=ua (d:=d) c hi;have:=h.clear j hj;show ¬Hit (ez (dl d c i)).1 (ms (ez (dl d c i)).1 (ai (ez (dl d c i)).2) a) (ms (ez (dl d c i)).1 (ai (ez (dl d c i)).2) b);rw [e];exact this
end Go.Num
namespace Go.Proofs
def c4:List PV->Option Ans
 |[.agg [.val (.bool s1),.val (.string b1),.val (.string c1),.val (.bool s2),.val (.string b2),.val (.string c2),.val (.bool s3),.val (.string b3),.val (.string c3),.val (.bool s4),.val (.string b4),.val (.string c4),.rs 1 k c,.rs 3 l o],.val v,.val u]=>some ⟨some ((PtS.le 140737488355328 (PtS.mk ⟨s1,b1,c1⟩ ⟨s2,b2,c2⟩)/\PtS.le 140737488355328 (PtS.mk ⟨s3,b3,c3⟩ ⟨s4,b4,c4⟩))/\bZ 140737488355328 k c/\c8 l o/\isPk 140737488355328 v/\isPk 140737488355328 u),.val (.bool true),[]⟩
 |_=>none
def D4:Opt:={}
theorem GM:ak D4.toOrd Tryz.f4 3=true:=by kernel_rfl
theorem f4:FnOk Tryz.prog 4 c4:=by
 refine FnOk.ofW aj (am (l:=[(17,Ep),(13,Ew),(14,EN),(18,EM),(19,EJ),(20,Fu)]) (own:=[]) (inl:=[]) (by simp [f17,f13,f14,f18,f19,f20]) (by simp)) Tryz.func4 D4 3 GM λargs r e=>?_;unfold c4 at e;split at e
 ·rename_i s1 b1 c1 s2 b2 c2 s3 b3 c3 s4 b4 c4 k c l o v u
  cases e;refine⟨by simp,λhm=>?_⟩;obtain⟨⟨hlo,hhi⟩,⟨hc,hk⟩,⟨ho,hl⟩,⟨a,rfl,ha⟩,⟨b,rfl,hb⟩⟩:=hm _ rfl;clear hm;obtain⟨lo,hlo'⟩:∃p,p=(PtS.mk ⟨s1,b1,c1⟩ ⟨s2,b2,c2⟩):=⟨_,rfl⟩;obtain⟨hi,hhi'⟩:∃p,p=(PtS.mk ⟨s3,b3,c3⟩ ⟨s4,b4,c4⟩):=⟨_,rfl⟩;have hc1:∀i,i < k->[.rs 6 (pn c i) (pg c i)]=c i:=λi hi=>(hc i hi).1.symm;have ho1:∀i,i < l->ab (ow o i)=o i:=λi hi=>(ho i hi).symm;refine⟨[],aa [(0,.agg (bN (PtS.mk ⟨s1,b1,c1⟩ ⟨s2,b2,c2⟩) (PtS.mk ⟨s3,b3,c3⟩ ⟨s4,b4,c4⟩) k c l o)),(1,.val a.v),(2,.val b.v)] [] 0 [],Wo trivial ⟨⟨rfl,rfl,rfl,rfl,rfl,rfl,rfl,rfl,rfl,rfl,rfl,rfl,⟨rfl,rfl,hc1⟩,⟨rfl,rfl,ho1⟩,qQ⟩,rfl,rfl,qQ⟩ trivial,?_⟩;rw [<-hlo'] at hlo ⊢;rw [<-hhi'] at hhi ⊢;clear hlo' hhi';have hX:isRg 140737488355328 (bN lo hi k c l o):=⟨rfl,⟨hlo,hhi⟩,⟨λi hi=>⟨rfl,(hc i hi).2⟩,hk⟩,λ_ _=>rfl,hl⟩;have p2:∀r:Nat->List PV,r 0=a.cells->r 1=b.cells->isPL 140737488355328 2 r:=λr h h'=>⟨λi hi=>by
   match i,hi with
   |0,_=>exact⟨by rw [ai,h];rfl,by rw [ai,h];exact ha⟩
   |1,_=>exact⟨by rw [ai,h'];rfl,by rw [ai,h'];exact hb⟩
   |i+2,h=>omega,by decide⟩
  with_unfolding_all refine⟨⟨hX,p2 _ rfl rfl⟩,λh1=>⟨[],aa [(6,.val (.bool true))] [] 0 [],Wo trivial ⟨rfl,qQ⟩ trivial,rfl,rfl⟩,λh1=>?_⟩
  obtain⟨hX12,⟨ha12,hb12⟩,⟨ca,cb⟩,hreg0⟩:=mg (a:=a) (b:=b) h1 rfl rfl hX;have hsum:bg (pn c) k<=24:=nr h1;clear h1 p2;have hreg:bz lo hi k (pn c) (λi=>ai (pg c i)) l (ow o)=0:=hreg0;have hX4:isRg 10000 (bN lo hi k c l o):=hX12.mono (by decide);have pa:isPk 10000 a.v:=⟨a,rfl,ha12.mono (by decide)⟩;have pb:isPk 10000 b.v:=⟨b,rfl,hb12.mono (by decide)⟩;have hlen:(ap lo hi k c l o).length<=500:=Nat.le_trans (kf _ _ _ _) (by omega);with_unfolding_all refine⟨⟨⟨hX4,pa,pb⟩,hlen⟩,?_⟩
  obtain⟨hmap,hBn⟩:=vg hreg ca cb hsum;obtain⟨BP,hBP⟩:∃BP,BP=bO lo hi k c l o a b:=⟨_,rfl⟩;obtain⟨BL,hBL⟩:∃BL,BL=dN lo hi k c l o a b:=⟨_,rfl⟩;have hBPN:bO lo hi k (λi=>[.rs 6 (pn c i) (pg c i)]) l (λi=>ab (ow o i)) a b=BP:=hBP.symm;have hBLN:dN lo hi k (λi=>[.rs 6 (pn c i) (pg c i)]) l (λi=>ab (ow o i)) a b=BL:=hBL.symm;have hBall:∀i,i < BP.length->(ae BP i).le 10000:=by
   rw [hBP];exact zp (lo:=lo) (hi:=hi) (k:=k) (c:=(λi=>[.rs 6 (pn c i) (pg c i)])) (l:=l) (o:=(λi=>ab (ow o i))) (ha12.mono (by decide)) (hb12.mono (by decide)) hX4.2.2.1
  have hBLle:BL.length<=26*26:=by
   have h1:=oQ (aV lo hi k c l o) (ae (bO lo hi k c l o a b)) (bO lo hi k c l o a b).length (bO lo hi k c l o a b).length;have h2:(bO lo hi k c l o a b).length*(bO lo hi k c l o a b).length<=26*26:=Nat.mul_le_mul hBn hBn;rw [hBL];exact Nat.le_trans h1 h2
  rw [<-hBP,<-hBL] at hmap;rw [<-hBP] at hBn;have hT:zh lo hi k (λi=>[.rs 6 (pn c i) (pg c i)]) l (λi=>ab (ow o i)) BP.length (λi=>(ae BP i).cells) BL.length (λi=>ax (qL BL i))=true:=by
   show((bz lo hi k (pn c) (λi=>ai (pg c i)) l (ow o)==0)&&cG BP.length (ae BP) BL.length (qL BL))=true;rw [hreg,hmap];rfl
  obtain⟨L,hL⟩:∃L,L=bB (bW k c (ae BP)) (qL BL) BL.length:=⟨_,rfl⟩;have hLN:iR lo hi k (λi=>[.rs 6 (pn c i) (pg c i)]) l (λi=>ab (ow o i)) BP.length (λi=>(ae BP i).cells) BL.length (λi=>ax (qL BL i))=L:=by
   unfold iR;rw [hT,hL];rfl
  have pPL:isPL 10000 BP.length (λi=>(ae BP i).cells):=⟨λi hi2=>⟨rfl,hBall i hi2⟩,by omega⟩;have pQL:j7 BL.length (λi=>ax (qL BL i)):=⟨λ_ _=>rfl,by omega⟩;have pQL':j7 (dN lo hi k (λi=>[.rs 6 (pn c i) (pg c i)]) l (λi=>ab (ow o i)) a b).length (λi=>ax (qL (dN lo hi k (λi=>[.rs 6 (pn c i) (pg c i)]) l (λi=>ab (ow o i)) a b) i)):=by
   rw [hBLN];exact pQL
  have pPL':isPL 10000 (bO lo hi k (λi=>[.rs 6 (pn c i) (pg c i)]) l (λi=>ab (ow o i)) a b).length (λi=>(ae (bO lo hi k (λi=>[.rs 6 (pn c i) (pg c i)]) l (λi=>ab (ow o i)) a b) i).cells):=by
   rw [hBPN];exact pPL
  have hT':zh lo hi k (λi=>[.rs 6 (pn c i) (pg c i)]) l (λi=>ab (ow o i)) (bO lo hi k (λi=>[.rs 6 (pn c i) (pg c i)]) l (λi=>ab (ow o i)) a b).length (λi=>(ae (bO lo hi k (λi=>[.rs 6 (pn c i) (pg c i)]) l (λi=>ab (ow o i)) a b) i).cells) (dN lo hi k (λi=>[.rs 6 (pn c i) (pg c i)]) l (λi=>ab (ow o i)) a b).length (λi=>ax (qL (dN lo hi k (λi=>[.rs 6 (pn c i) (pg c i)]) l (λi=>ab (ow o i)) a b) i))=true:=by
   rw [hBPN,hBLN];exact hT
  have hLN':iR lo hi k (λi=>[.rs 6 (pn c i) (pg c i)]) l (λi=>ab (ow o i)) (bO lo hi k (λi=>[.rs 6 (pn c i) (pg c i)]) l (λi=>ab (ow o i)) a b).length (λi=>(ae (bO lo hi k (λi=>[.rs 6 (pn c i) (pg c i)]) l (λi=>ab (ow o i)) a b) i).cells) (dN lo hi k (λi=>[.rs 6 (pn c i) (pg c i)]) l (λi=>ab (ow o i)) a b).length (λi=>ax (qL (dN lo hi k (λi=>[.rs 6 (pn c i) (pg c i)]) l (λi=>ab (ow o i)) a b) i))=L:=by
   rw [hBPN,hBLN];exact hLN
  have n1:(bO lo hi k (λi=>[.rs 6 (pn c i) (pg c i)]) l (λi=>ab (ow o i)) a b).length=BP.length:=by rw [hBPN]
  have n2:∀i,i < BP.length->(ae BP i).cells=(ae (bO lo hi k (λi=>[.rs 6 (pn c i) (pg c i)]) l (λi=>ab (ow o i)) a b) i).cells:=λi _=>by rw [hBPN]
  have n3:(dN lo hi k (λi=>[.rs 6 (pn c i) (pg c i)]) l (λi=>ab (ow o i)) a b).length=BL.length:=by rw [hBLN]
  have n4:∀i,i < BL.length->ax (qL BL i)=ax (qL (dN lo hi k (λi=>[.rs 6 (pn c i) (pg c i)]) l (λi=>ab (ow o i)) a b) i):=λi _=>by rw [hBLN]
  have n5:(iR lo hi k (λi=>[.rs 6 (pn c i) (pg c i)]) l (λi=>ab (ow o i)) (bO lo hi k (λi=>[.rs 6 (pn c i) (pg c i)]) l (λi=>ab (ow o i)) a b).length (λi=>(ae (bO lo hi k (λi=>[.rs 6 (pn c i) (pg c i)]) l (λi=>ab (ow o i)) a b) i).cells) (dN lo hi k (λi=>[.rs 6 (pn c i) (pg c i)]) l (λi=>ab (ow o i)) a b).length (λi=>ax (qL (dN lo hi k (λi=>[.rs 6 (pn c i) (pg c i)]) l (λi=>ab (ow o i)) a b) i))).length=L.length:=by rw [hLN']
  have n6:∀i,i < L.length->ax (qL L i)=ax (qL (iR lo hi k (λi=>[.rs 6 (pn c i) (pg c i)]) l (λi=>ab (ow o i)) (bO lo hi k (λi=>[.rs 6 (pn c i) (pg c i)]) l (λi=>ab (ow o i)) a b).length (λi=>(ae (bO lo hi k (λi=>[.rs 6 (pn c i) (pg c i)]) l (λi=>ab (ow o i)) a b) i).cells) (dN lo hi k (λi=>[.rs 6 (pn c i) (pg c i)]) l (λi=>ab (ow o i)) a b).length (λi=>ax (qL (dN lo hi k (λi=>[.rs 6 (pn c i) (pg c i)]) l (λi=>ab (ow o i)) a b) i))) i):=λi _=>by rw [hLN']
  have n7:PV.val (.int .i64 ((iR lo hi k (λi=>[.rs 6 (pn c i) (pg c i)]) l (λi=>ab (ow o i)) (bO lo hi k (λi=>[.rs 6 (pn c i) (pg c i)]) l (λi=>ab (ow o i)) a b).length (λi=>(ae (bO lo hi k (λi=>[.rs 6 (pn c i) (pg c i)]) l (λi=>ab (ow o i)) a b) i).cells) (dN lo hi k (λi=>[.rs 6 (pn c i) (pg c i)]) l (λi=>ab (ow o i)) a b).length (λi=>ax (qL (dN lo hi k (λi=>[.rs 6 (pn c i) (pg c i)]) l (λi=>ab (ow o i)) a b) i))).length:Int))=PV.val (goInt L.length):=by
   rw [hLN'];rfl
  have noT:(cD (zh lo hi k (λi=>[.rs 6 (pn c i) (pg c i)]) l (λi=>ab (ow o i)) (bO lo hi k (λi=>[.rs 6 (pn c i) (pg c i)]) l (λi=>ab (ow o i)) a b).length (λi=>(ae (bO lo hi k (λi=>[.rs 6 (pn c i) (pg c i)]) l (λi=>ab (ow o i)) a b) i).cells) (dN lo hi k (λi=>[.rs 6 (pn c i) (pg c i)]) l (λi=>ab (ow o i)) a b).length (λi=>ax (qL (dN lo hi k (λi=>[.rs 6 (pn c i) (pg c i)]) l (λi=>ab (ow o i)) a b) i))) != 0)=true->False:=λh=>by
   rw [hT'] at h;cases h
  have hcl4:bZ 10000 k (λi=>[.rs 6 (pn c i) (pg c i)]):=hX4.2.2.1;have pPL4:isPL 4294967296 BP.length (λi=>(ae BP i).cells):=⟨λi hi2=>⟨rfl,(hBall i hi2).mono (by decide)⟩,by omega⟩;have pQLL:j7 L.length (λi=>ax (qL L i)):=⟨λ_ _=>rfl,by
   have:=ld (bW k c (ae BP)) (qL BL) BL.length;rw [<-hL] at this;omega⟩
  with_unfolding_all refine⟨λ_=>⟨[],aa [(6,.val (.bool true))] [] 0 [],Wo trivial ⟨rfl,qQ⟩ trivial,rfl,rfl⟩,λ_=>⟨⟨hX4,pPL',pQL'⟩,λh=>(noT h).elim,λ_=>⟨Nat×Nat,λx=>x.1<=L.length/\x.2<=BL.length/\(bB (bW k c (ae BP)) (qL BL) x.2).length<=x.1,λx=>aa [(3,.ptr 0 0 0 0),(7,.ptr 1 1 0 0),(9,.rs 2 L.length (λi=>ax (qL L i))),(11,.val (goInt (x.2:Nat))),(48,.rs 2 L.length (λi=>ax (qL L i))),(49,.val (goInt L.length)),(50,.val (goInt (x.1:Nat)))] [⟨31,14,0,true,false,1,λ_=>bN lo hi k c l o⟩,⟨37,2,1,true,false,1,λ_=>[.rs 6 BP.length (λi=>(ae BP i).cells),.rs 2 BL.length (λi=>ax (qL BL i))]⟩] 2 [],λx=>L.length - x.1,⟨(0,0),[some 0,some 4],⟨Nat.zero_le _,Nat.zero_le _,Nat.le_refl _⟩,Wo ⟨qZ ⟨rq,rq,rq,rq,rq,rq,rq,rq,rq,rq,rq,rq,⟨qW,rfl⟩,⟨qW,rfl⟩,qQ⟩,qZ ⟨⟨⟨rfl,n1,n2⟩,rfl⟩,⟨⟨rfl,n3,n4⟩,rfl⟩,qQ⟩,qQ⟩ ⟨pP,pP,⟨rfl,n5,n6⟩,rfl,⟨rfl,n5,n6⟩,n7,rfl,qQ⟩ trivial⟩,λx hx=>?_⟩⟩⟩
  obtain⟨i,κ⟩:=x;obtain⟨hi1,hi2,hi3⟩:i<=L.length/\κ<=BL.length/\(bB (bW k c (ae BP)) (qL BL) κ).length<=i:=hx;with_unfolding_all refine⟨λh1=>⟨⟨Int.natCast_nonneg i,of_decide_eq_true h1⟩,Nat,λκ=>κ<=BL.length/\(bB (bW k c (ae BP)) (qL BL) κ).length<=i,λκ=>aa [(3,.ptr 0 0 0 0),(7,.ptr 1 1 0 0),(9,.rs 2 L.length (λi=>ax (qL L i))),(11,.val (goInt (κ : Nat))),(13,.ptr 2 2 0 0),(48,.rs 2 L.length (λi=>ax (qL L i))),(49,.val (goInt L.length)),(50,.val (goInt (i:Nat)))] [⟨31,14,0,true,false,1,λ_=>bN lo hi k c l o⟩,⟨37,2,1,true,false,1,λ_=>[.rs 6 BP.length (λi=>(ae BP i).cells),.rs 2 BL.length (λi=>ax (qL BL i))]⟩,⟨46,2,2,true,false,1,λ_=>ax (qL L i)⟩] 3 [],λκ=>BL.length - κ,⟨κ,[some 0,some 1,some 2],⟨hi2,hi3⟩,Wo ⟨qZ ⟨rq,rq,rq,rq,rq,rq,rq,rq,rq,rq,rq,rq,⟨qW,rfl⟩,⟨qW,rfl⟩,qQ⟩,qZ ⟨⟨qW,rfl⟩,⟨qW,rfl⟩,qQ⟩,qJ,qQ⟩ ⟨pP,pP,qW,rfl,pP,qW,rfl,rfl,qQ⟩ trivial⟩,λκ hκ=>?_⟩,λh1=>?_⟩
  ·obtain⟨hκ1,hκ2⟩ : κ<=BL.length/\(bB (bW k c (ae BP)) (qL BL) κ).length<=i:=hκ;have hiL:i < L.length:=by
    have:=of_decide_eq_true h1;exact Int.ofNat_lt.1 this
   have hκm : κ < BL.length:=xz hκ1 (by rw [<-hL];exact hiL) hκ2;have vκ : PV.val (.int .i64 (IntKind.i64.wrap ((κ : Int)+1)))=PV.val (goInt ((κ+1:Nat):Int)):=by
    rw [wrap64 (by omega) (by omega)];rfl
   have hLle:L.length<=BL.length:=by
    rw [hL];exact ld _ _ _
   have vi:PV.val (.int .i64 (IntKind.i64.wrap ((i:Int)+1)))=PV.val (goInt ((i+1:Nat):Int)):=by
    rw [wrap64 (by omega) (by omega)];rfl
   have hb:0<=(κ : Int)/\(κ : Int) < BL.length:=by omega
   have nx:(!eqQ (qL BL (κ : Int).toNat) (qL L i))=true->(bB (bW k c (ae BP)) (qL BL) (κ+1)).length<=i:=λh=>ve hκm hκ2 (by rw [<-hL];simpa using h);have no1:((κ : Int)==(BL.length:Int))=true->False:=λh=>by
    have:=eq_of_beq h;omega
   have no2:decide ((κ : Int) < (BL.length:Int)) = !true->False:=λh=>by
    have:=of_decide_eq_false h;omega
   have hμ1:BL.length - (κ+1) < BL.length - κ:=by omega
   have hμ2:L.length - (i+1) < L.length - i:=by omega
   with_unfolding_all exact⟨λ_=>⟨hb,λh3=>⟨κ+1,[some 0,some 1,some 2],⟨hκm,nx h3⟩,hμ1,Wo ⟨qZ ⟨rq,rq,rq,rq,rq,rq,rq,rq,rq,rq,rq,rq,⟨qW,rfl⟩,⟨qW,rfl⟩,qQ⟩,qZ ⟨⟨qW,rfl⟩,⟨qW,rfl⟩,qQ⟩,qJ,qQ⟩ ⟨pP,pP,qW,vκ,pP,qW,rfl,rfl,qQ⟩ trivial⟩,λ_=>⟨λh4=>(no1 h4).elim,λ_=>⟨(i+1,κ),[some 0,some 1],⟨hiL,hκ1,Nat.le_succ_of_le hκ2⟩,hμ2,Wo ⟨qZ ⟨rq,rq,rq,rq,rq,rq,rq,rq,rq,rq,rq,rq,⟨qW,rfl⟩,⟨qW,rfl⟩,qQ⟩,qZ ⟨⟨qW,rfl⟩,⟨qW,rfl⟩,qQ⟩,qQ⟩ ⟨pP,pP,qW,rfl,qW,rfl,vi,qQ⟩ trivial⟩⟩⟩,λh2=>(no2 h2).elim⟩
  ·clear hi1 hi2 hi3 h1;have r0:∀r:Nat->List PV,r 0=[.val (.int .i64 0),.val (.int .i64 1)]->∀t,t < 1->ax (qL (bQ (ae BP) BP.length (pn c) (λi=>ai (pg c i)) 0) t)=r t:=λr h t ht=>by
    match t,ht with
    |0,_=>exact h.symm
   with_unfolding_all refine⟨Nat,λi=>i<=k,λi=>aa [(3,.ptr 0 0 0 0),(7,.ptr 1 1 0 0),(9,.rs 2 L.length (λi=>ax (qL L i))),(14,.sl 2 2 0 (bQ (ae BP) BP.length (pn c) (λi=>ai (pg c i)) i).length),(79,.rs 1 k (λi=>[.rs 6 (pn c i) (pg c i)])),(80,.val (goInt k)),(81,.val (goInt (i:Nat)))] [⟨31,14,0,true,false,1,λ_=>bN lo hi k c l o⟩,⟨37,2,1,true,false,1,λ_=>[.rs 6 BP.length (λi=>(ae BP i).cells),.rs 2 BL.length (λi=>ax (qL BL i))]⟩,⟨46,2,2,false,false,(bQ (ae BP) BP.length (pn c) (λi=>ai (pg c i)) i).length,λt=>ax (qL (bQ (ae BP) BP.length (pn c) (λi=>ai (pg c i)) i) t)⟩] 3 [],λi=>k - i,⟨0,[some 0,some 1,some 2],Nat.zero_le _,Wo ⟨qZ ⟨rq,rq,rq,rq,rq,rq,rq,rq,rq,rq,rq,rq,⟨qW,rfl⟩,⟨qW,rfl⟩,qQ⟩,qZ ⟨⟨qW,rfl⟩,⟨qW,rfl⟩,qQ⟩,qZ (r0 _ rfl),qQ⟩ ⟨pP,pP,qW,pP,qW,rfl,rfl,qQ⟩ trivial⟩,λi hi1=>?_⟩
   replace hi1:i<=k:=hi1;with_unfolding_all refine⟨λh1=>?_,λh1=>?_⟩
   ·have hik:i < k:=by
     have:=of_decide_eq_true h1;exact Int.ofNat_lt.1 this
    have rp:∀t,t < pn c i->(ai (pg c i) t).cells=pg c i t:=λt ht=>((hc i hik).2.1 t ht).1.symm;have j0:(bQ (ae BP) BP.length (pn c) (λi=>ai (pg c i)) i++dV (ae BP) BP.length (pn c i) (ai (pg c i)) 0).length=(bQ (ae BP) BP.length (pn c) (λi=>ai (pg c i)) i).length:=by rw [dV,List.append_nil]
    have j1:∀t,t < (bQ (ae BP) BP.length (pn c) (λi=>ai (pg c i)) i).length->ax (qL (bQ (ae BP) BP.length (pn c) (λi=>ai (pg c i)) i++dV (ae BP) BP.length (pn c i) (ai (pg c i)) 0) t)=ax (qL (bQ (ae BP) BP.length (pn c) (λi=>ai (pg c i)) i) t):=λt _=>by rw [dV,List.append_nil]
    with_unfolding_all refine⟨⟨Int.natCast_nonneg i,of_decide_eq_true h1⟩,Nat,λj=>j<=pn c i,λj=>aa [(3,.ptr 0 0 0 0),(7,.ptr 1 1 0 0),(9,.rs 2 L.length (λi=>ax (qL L i))),(14,.sl 2 2 0 (bQ (ae BP) BP.length (pn c) (λi=>ai (pg c i)) i++dV (ae BP) BP.length (pn c i) (ai (pg c i)) j).length),(16,.rs 6 (pn c i) (λt=>(ai (pg c i) t).cells)),(79,.rs 1 k (λi=>[.rs 6 (pn c i) (pg c i)])),(80,.val (goInt k)),(81,.val (goInt (i:Nat))),(85,.rs 6 (pn c i) (λt=>(ai (pg c i) t).cells)),(86,.val (goInt (pn c i))),(87,.val (goInt (j:Nat)))] [⟨31,14,0,true,false,1,λ_=>bN lo hi k c l o⟩,⟨37,2,1,true,false,1,λ_=>[.rs 6 BP.length (λi=>(ae BP i).cells),.rs 2 BL.length (λi=>ax (qL BL i))]⟩,⟨46,2,2,false,false,(bQ (ae BP) BP.length (pn c) (λi=>ai (pg c i)) i++dV (ae BP) BP.length (pn c i) (ai (pg c i)) j).length,λt=>ax (qL (bQ (ae BP) BP.length (pn c) (λi=>ai (pg c i)) i++dV (ae BP) BP.length (pn c i) (ai (pg c i)) j) t)⟩] 3 [],λj=>pn c i - j,⟨0,[some 0,some 1,some 2],Nat.zero_le _,Wo ⟨qZ ⟨rq,rq,rq,rq,rq,rq,rq,rq,rq,rq,rq,rq,⟨qW,rfl⟩,⟨qW,rfl⟩,qQ⟩,qZ ⟨⟨qW,rfl⟩,⟨qW,rfl⟩,qQ⟩,⟨bf rfl,rfl,rfl,rfl,rfl,j0,j1⟩,qQ⟩ ⟨pP,pP,qW,⟨rfl,rfl,j0.symm,bf rfl,_,rfl⟩,⟨rfl,rfl,rp⟩,qW,rfl,rfl,⟨rfl,rfl,rp⟩,rfl,rfl,qQ⟩ trivial⟩,λj hj1=>?_⟩
    replace hj1:j<=pn c i:=hj1;with_unfolding_all refine⟨λh2=>?_,λh2=>?_⟩
    ·have hjn:j < pn c i:=by
      have:=of_decide_eq_true h2;exact Int.ofNat_lt.1 this
     have hR:=mh (fU hreg i hik);have hn64:3<=pn c i/\pn c i<=64:=hR.1;have hsi:bg (pn c) i<=24:=Nat.le_trans (t8 (Nat.le_of_lt hik)) hsum;have hw0:IntKind.i64.wrap ((j:Int)+1)=((j+1:Nat):Int):=by
      rw [wrap64 (by omega) (by omega)];rfl
     have hw:(IntKind.i64.wrap ((j:Int)+1)).tmod (pn c i)=(((j+1)%pn c i:Nat):Int):=by
      rw [hw0];exact Int.ofNat_tmod _ _
     have hm2:(j+1)%pn c i < pn c i:=Nat.mod_lt _ (by omega);have hw2:0<=(IntKind.i64.wrap ((j:Int)+1)).tmod (pn c i)/\(IntKind.i64.wrap ((j:Int)+1)).tmod (pn c i) < pn c i:=by rw [hw];omega
     have hwn:((IntKind.i64.wrap ((j:Int)+1)).tmod (pn c i)).toNat=(j+1)%pn c i:=by rw [hw];rfl
     have ne0:(pn c i:Int)≠0:=by omega
     have pk:∀z,z < pn c i->isPk 4294967296 (ai (pg c i) z).v:=λz hz=>⟨_,rfl,((hcl4.1 i hik).2.1 z hz).2.mono (by decide)⟩;have pk2:isPk 4294967296 (ai (pg c i) ((IntKind.i64.wrap ((j:Int)+1)).tmod (pn c i)).toNat).v:=by
      rw [hwn];exact pk _ hm2
     have hlenM:(bQ (ae BP) BP.length (pn c) (λi=>ai (pg c i)) i++dV (ae BP) BP.length (pn c i) (ai (pg c i)) j).length=1+bg (pn c) i+j:=by rw [List.length_append,mj,mi]
     have k1:((bQ (ae BP) BP.length (pn c) (λi=>ai (pg c i)) i++dV (ae BP) BP.length (pn c i) (ai (pg c i)) j).length+1)*16<=140737488355328:=by omega
     have k2:(bQ (ae BP) BP.length (pn c) (λi=>ai (pg c i)) i++dV (ae BP) BP.length (pn c i) (ai (pg c i)) j).length+1<=9223372036854775807:=by omega
     have e3:(bQ (ae BP) BP.length (pn c) (λi=>ai (pg c i)) i++dV (ae BP) BP.length (pn c i) (ai (pg c i)) (j+1))=(bQ (ae BP) BP.length (pn c) (λi=>ai (pg c i)) i++dV (ae BP) BP.length (pn c i) (ai (pg c i)) j)++[(min (bV (λt=>bH (ai (pg c i) (j:Int).toNat) (ae BP t)) BP.length 0) (bV (λt=>bH (ai (pg c i) ((IntKind.i64.wrap ((j:Int)+1)).tmod (pn c i)).toNat) (ae BP t)) BP.length 0),max (bV (λt=>bH (ai (pg c i) (j:Int).toNat) (ae BP t)) BP.length 0) (bV (λt=>bH (ai (pg c i) ((IntKind.i64.wrap ((j:Int)+1)).tmod (pn c i)).toNat) (ae BP t)) BP.length 0))]:=by
      rw [dV,List.append_assoc,hwn];rfl
     have hnA:(bQ (ae BP) BP.length (pn c) (λi=>ai (pg c i)) i++dV (ae BP) BP.length (pn c i) (ai (pg c i)) (j+1)).length=(bQ (ae BP) BP.length (pn c) (λi=>ai (pg c i)) i++dV (ae BP) BP.length (pn c i) (ai (pg c i)) j).length+1:=by rw [e3,List.length_append];rfl
     have mn:∀u v:Int,(if v < u then v else u)=min u v:=λu v=>by
      rw [Int.min_def];split<;>split<;>omega
     have mx:∀u v:Int,(if v > u then v else u)=max u v:=λu v=>by
      rw [Int.max_def];split<;>split<;>omega
     have hrA:∀r:Nat->List PV,r 0=[.val (.int .i64 (if (bV (λt=>bH (ai (pg c i) ((IntKind.i64.wrap ((j:Int)+1)).tmod (pn c i)).toNat) (ae BP t)) BP.length 0) < (bV (λt=>bH (ai (pg c i) (j:Int).toNat) (ae BP t)) BP.length 0) then(bV (λt=>bH (ai (pg c i) ((IntKind.i64.wrap ((j:Int)+1)).tmod (pn c i)).toNat) (ae BP t)) BP.length 0) else(bV (λt=>bH (ai (pg c i) (j:Int).toNat) (ae BP t)) BP.length 0))),.val (.int .i64 (if (bV (λt=>bH (ai (pg c i) ((IntKind.i64.wrap ((j:Int)+1)).tmod (pn c i)).toNat) (ae BP t)) BP.length 0) > (bV (λt=>bH (ai (pg c i) (j:Int).toNat) (ae BP t)) BP.length 0) then(bV (λt=>bH (ai (pg c i) ((IntKind.i64.wrap ((j:Int)+1)).tmod (pn c i)).toNat) (ae BP t)) BP.length 0) else(bV (λt=>bH (ai (pg c i) (j:Int).toNat) (ae BP t)) BP.length 0)))]->∀t,t < (bQ (ae BP) BP.length (pn c) (λi=>ai (pg c i)) i++dV (ae BP) BP.length (pn c i) (ai (pg c i)) j).length+1->ax (qL (bQ (ae BP) BP.length (pn c) (λi=>ai (pg c i)) i++dV (ae BP) BP.length (pn c i) (ai (pg c i)) (j+1)) t)=ll (bQ (ae BP) BP.length (pn c) (λi=>ai (pg c i)) i++dV (ae BP) BP.length (pn c i) (ai (pg c i)) j).length (λt=>ax (qL (bQ (ae BP) BP.length (pn c) (λi=>ai (pg c i)) i++dV (ae BP) BP.length (pn c i) (ai (pg c i)) j) t)) r t:=λr hr=>by
      rw [mn,mx] at hr;rw [e3];exact xg hr
     have vj:PV.val (.int .i64 (IntKind.i64.wrap ((j:Int)+1)))=PV.val (goInt ((j+1:Nat):Int)):=by rw [hw0];rfl
     have hμ : pn c i - (j+1) < pn c i - j:=by omega
     with_unfolding_all exact⟨⟨Int.natCast_nonneg j,of_decide_eq_true h2⟩,⟨pPL4,pk j hjn⟩,ne0,hw2,⟨pPL4,pk2⟩,⟨rfl,k1,k2⟩,⟨j+1,[some 0,some 1,some 2],hjn,hμ,Wo ⟨qZ ⟨rq,rq,rq,rq,rq,rq,rq,rq,rq,rq,rq,rq,⟨qW,rfl⟩,⟨qW,rfl⟩,qQ⟩,qZ ⟨⟨qW,rfl⟩,⟨qW,rfl⟩,qQ⟩,⟨bf rfl,rfl,rfl,rfl,rfl,hnA,hrA _ rfl⟩,qQ⟩ ⟨pP,pP,qW,⟨rfl,rfl,hnA.symm,bf rfl,_,rfl⟩,qW,qW,rfl,rfl,qW,rfl,vj,qQ⟩ trivial⟩⟩
    ·have hjn:j=pn c i:=by
      have:¬(j:Int) < pn c i:=of_decide_eq_false h2;omega
     have e3:bQ (ae BP) BP.length (pn c) (λi=>ai (pg c i)) (i+1)=(bQ (ae BP) BP.length (pn c) (λi=>ai (pg c i)) i++dV (ae BP) BP.length (pn c i) (ai (pg c i)) j):=by rw [hjn,bQ]
     have hn0:(bQ (ae BP) BP.length (pn c) (λi=>ai (pg c i)) (i+1)).length=(bQ (ae BP) BP.length (pn c) (λi=>ai (pg c i)) i++dV (ae BP) BP.length (pn c i) (ai (pg c i)) j).length:=by rw [e3]
     have hr0:∀t,t < (bQ (ae BP) BP.length (pn c) (λi=>ai (pg c i)) i++dV (ae BP) BP.length (pn c i) (ai (pg c i)) j).length->ax (qL (bQ (ae BP) BP.length (pn c) (λi=>ai (pg c i)) (i+1)) t)=ax (qL (bQ (ae BP) BP.length (pn c) (λi=>ai (pg c i)) i++dV (ae BP) BP.length (pn c i) (ai (pg c i)) j) t):=λt _=>by rw [e3]
     have hk32:k<=1000:=by
      have:=hX4.2.2.1.2;have h32:=xA hreg;omega
     have vi:PV.val (.int .i64 (IntKind.i64.wrap ((i:Int)+1)))=PV.val (goInt ((i+1:Nat):Int)):=by
      rw [wrap64 (by omega) (by omega)];rfl
     have hμ : k - (i+1) < k - i:=by omega
     with_unfolding_all exact⟨i+1,[some 0,some 1,some 2],hik,hμ,Wo ⟨qZ ⟨rq,rq,rq,rq,rq,rq,rq,rq,rq,rq,rq,rq,⟨qW,rfl⟩,⟨qW,rfl⟩,qQ⟩,qZ ⟨⟨qW,rfl⟩,⟨qW,rfl⟩,qQ⟩,⟨bf rfl,rfl,rfl,rfl,rfl,hn0,hr0⟩,qQ⟩ ⟨pP,pP,qW,⟨rfl,rfl,hn0.symm,bf rfl,_,rfl⟩,qW,rfl,vi,qQ⟩ trivial⟩
   ·have hik:i=k:=by
     have:¬(i:Int) < k:=of_decide_eq_false h1;omega
    subst hik;with_unfolding_all refine⟨Nat,λt=>t<=(bQ (ae BP) BP.length (pn c) (λi=>ai (pg c i)) i).length,λt=>aa [(7,.ptr 0 0 0 0),(9,.rs 2 L.length (λi=>ax (qL L i))),(119,.sl 1 1 0 (bQ (ae BP) BP.length (pn c) (λi=>ai (pg c i)) i).length),(120,.val (goInt (bQ (ae BP) BP.length (pn c) (λi=>ai (pg c i)) i).length)),(121,.val (goInt (t:Nat)))] [⟨37,2,0,true,false,1,λ_=>[.rs 6 BP.length (λi=>(ae BP i).cells),.rs 2 BL.length (λi=>ax (qL BL i))]⟩,⟨46,2,1,false,false,(bQ (ae BP) BP.length (pn c) (λi=>ai (pg c i)) i).length,λt=>ax (qL (bQ (ae BP) BP.length (pn c) (λi=>ai (pg c i)) i) t)⟩] 2 [],λt=>(bQ (ae BP) BP.length (pn c) (λi=>ai (pg c i)) i).length - t,⟨0,[some 1,some 2],Nat.zero_le _,Wo ⟨qZ ⟨⟨qW,rfl⟩,⟨qW,rfl⟩,qQ⟩,qZ (λ_ _=>rfl),qQ⟩ ⟨pP,qW,pP,rfl,rfl,qQ⟩ trivial⟩,λt ht=>?_⟩
    replace ht:t<=(bQ (ae BP) BP.length (pn c) (λi=>ai (pg c i)) i).length:=ht;with_unfolding_all refine⟨λh2=>?_,λh2=>?_⟩
    ·have htl:t < (bQ (ae BP) BP.length (pn c) (λi=>ai (pg c i)) i).length:=by
      have:=of_decide_eq_true h2;exact Int.ofNat_lt.1 this
     have hml:(bQ (ae BP) BP.length (pn c) (λi=>ai (pg c i)) i).length<=25:=by
      rw [mj];omega
     have vt:PV.val (.int .i64 (IntKind.i64.wrap ((t:Int)+1)))=PV.val (goInt ((t+1:Nat):Int)):=by
      rw [wrap64 (by omega) (by omega)];rfl
     have hμ : (bQ (ae BP) BP.length (pn c) (λi=>ai (pg c i)) i).length - (t+1) < (bQ (ae BP) BP.length (pn c) (λi=>ai (pg c i)) i).length - t:=by omega
     have hx:qL (bQ (ae BP) BP.length (pn c) (λi=>ai (pg c i)) i) (0+(t:Int).toNat)∈(bQ (ae BP) BP.length (pn c) (λi=>ai (pg c i)) i):=by
      rw [Nat.zero_add,Int.toNat_natCast];exact BT htl
     have hok:bX BP.length (qL BL) BL.length=true:=by
      unfold cG at hmap;rw [Bool.and_eq_true] at hmap;exact hmap.2
     have key:∀z,z∈(bQ (ae BP) BP.length (pn c) (λi=>ai (pg c i)) i)->aA (λi=>eqQ z (qL BL i)) BL.length=true->(!aA (λi=>eqQ z (qL L i)) L.length)=true->False:=λz hz ha hb=>by
      have:=zo hreg hok hz ha;rw [<-hL] at this;rw [this] at hb;cases hb
     with_unfolding_all exact⟨⟨Int.natCast_nonneg t,of_decide_eq_true h2⟩,pQL,λh3=>⟨pQLL,λh4=>(key _ hx h3 h4).elim,λ_=>⟨t+1,[some 0,some 1],htl,hμ,Wo ⟨qZ ⟨⟨qW,rfl⟩,⟨qW,rfl⟩,qQ⟩,qZ (λ_ _=>rfl),qQ⟩ ⟨pP,qW,pP,rfl,vt,qQ⟩ trivial⟩⟩,λ_=>⟨λh=>(nomatch h),λ_=>⟨t+1,[some 0,some 1],htl,hμ,Wo ⟨qZ ⟨⟨qW,rfl⟩,⟨qW,rfl⟩,qQ⟩,qZ (λ_ _=>rfl),qQ⟩ ⟨pP,qW,pP,rfl,vt,qQ⟩ trivial⟩⟩⟩
    ·with_unfolding_all exact⟨[],aa [(6,.val (.bool true))] [] 0 [],Wo trivial ⟨rfl,qQ⟩ trivial,rfl,rfl⟩
 ·cases e
def Gt:List PV->Option Ans
 |[.rs 1 m g]=>some ⟨some (0 < m/\m<=1000),.sl 0 0 0 m,[⟨34,1,0,false,false,m,g⟩]⟩
 |_=>none
theorem Gu:ak {} Tryz.f30 1=true:=by kernel_rfl
theorem f30:FnOk Tryz.prog 30 Gt:=by
 refine FnOk.ofW aj (am (l:=[]) (own:=[]) (inl:=[]) (by simp) (by simp)) Tryz.func30 {} 1 Gu λargs r e=>?_;unfold Gt at e;split at e
 ·rename_i m g
  cases e;refine⟨by simp,λhm=>?_⟩;obtain⟨h0,h1⟩:=hm _ rfl;clear hm;refine⟨[],aa [(0,.rs 1 m g)] [] 0 [],Wo trivial ⟨qW,qQ⟩ trivial,?_⟩;have hb:(0+m)*24<=140737488355328:=by omega
  have hz:=(Nat.zero_add m).symm;with_unfolding_all exact⟨h0,λh=>(nomatch h),λ_=>⟨⟨rfl,hb,by omega⟩,[some 0],aa [(2,.sl 0 0 0 m)] [⟨34,1,0,false,false,m,g⟩] 1 [],Wo ⟨⟨bf rfl,rfl,rfl,rfl,rfl,hz,λ_ _=>rfl⟩,qQ⟩ ⟨⟨rfl,rfl,Nat.zero_add m,bf rfl,_,rfl⟩,qQ⟩ trivial,rfl,rfl⟩⟩
 ·cases e
def Gv:List PV->Option Ans
 |[.rs 3 m g]=>some ⟨some (0 < m/\m<=1000),.sl 0 0 0 m,[⟨63,3,0,false,false,m,g⟩]⟩
 |_=>none
theorem Gw:ak {} Tryz.f32 1=true:=by kernel_rfl
theorem f32:FnOk Tryz.prog 32 Gv:=by
 refine FnOk.ofW aj (am (l:=[]) (own:=[]) (inl:=[]) (by simp) (by simp)) Tryz.func32 {} 1 Gw λargs r e=>?_;unfold Gv at e;split at e
 ·rename_i m g
  cases e;refine⟨by simp,λhm=>?_⟩;obtain⟨h0,h1⟩:=hm _ rfl;clear hm;refine⟨[],aa [(0,.rs 3 m g)] [] 0 [],Wo trivial ⟨qW,qQ⟩ trivial,?_⟩;have hb:(0+m)*24<=140737488355328:=by omega
  have hz:=(Nat.zero_add m).symm;with_unfolding_all exact⟨h0,λh=>(nomatch h),λ_=>⟨⟨rfl,hb,by omega⟩,[some 0],aa [(2,.sl 0 0 0 m)] [⟨63,3,0,false,false,m,g⟩] 1 [],Wo ⟨⟨bf rfl,rfl,rfl,rfl,rfl,hz,λ_ _=>rfl⟩,qQ⟩ ⟨⟨rfl,rfl,Nat.zero_add m,bf rfl,_,rfl⟩,qQ⟩ trivial,rfl,rfl⟩⟩
 ·cases e
theorem Gx:ak {} Tryz.f29 3=true:=by kernel_rfl
def GC:Trans:=λargs s K=>args.length<=3/\rM Tryz.prog (B3 [] [] []) {} Tryz.f29 args s K
theorem GN:dP Tryz.prog 29 GC:=kX aj (am (by simp) (by simp)) Tryz.func29 {} 3 Gx λ_ _ _ h=>h
theorem Gy:ak {} Tryz.f31 3=true:=by kernel_rfl
def GD:Trans:=λargs s K=>args.length<=3/\rM Tryz.prog (B3 [] [] []) {} Tryz.f31 args s K
theorem GO:dP Tryz.prog 31 GD:=kX aj (am (by simp) (by simp)) Tryz.func31 {} 3 Gy λ_ _ _ h=>h
end Go.Proofs
namespace Go.Num
theorem en (g:Nat->List PV) (z:List PV) {d m:Nat} (hd:d < m) {w:Int} (hw:w=(d:Int)+1) (i:Nat) (hi:i < m - 1) :
  dl d g i=if ((((((d:Int) - 0).toNat+((m:Int) - w).toNat:Nat):Int)).toNat<=0+i/\0+i < (((((d:Int) - 0).toNat+((m:Int) - w).toNat:Nat):Int)).toNat+((m:Int) - ((((d:Int) - 0).toNat+((m:Int) - w).toNat:Nat):Int)).toNat) then z
   else if ((d:Int) - 0).toNat<=0+i/\0+i < ((d:Int) - 0).toNat+((m:Int) - w).toNat then g (0+w.toNat+(0+i - ((d:Int) - 0).toNat)) else g (0+i):=by
 subst hw;rw [if_neg (by omega)];unfold dl;by_cases h:i < d
 ·rw [if_pos h,if_neg (by omega),Nat.zero_add]
 ·rw [if_neg h,if_pos (by omega)];exact congrArg g (by omega)
end Go.Num
namespace Go.Proofs
def c7:List PV->Option Ans
 |[.agg [.val (.bool s1),.val (.string b1),.val (.string c1),.val (.bool s2),.val (.string b2),.val (.string c2),.val (.bool s3),.val (.string b3),.val (.string c3),.val (.bool s4),.val (.string b4),.val (.string c4),.rs 1 k c,.rs 3 l o],.val v,.val u,.val (.int .u8 x)]=>some ⟨some ((PtS.le 140737488355328 (PtS.mk ⟨s1,b1,c1⟩ ⟨s2,b2,c2⟩)/\PtS.le 140737488355328 (PtS.mk ⟨s3,b3,c3⟩ ⟨s4,b4,c4⟩))/\bZ 140737488355328 k c/\c8 l o/\isPk 140737488355328 v/\isPk 140737488355328 u/\0<=x/\x < 256),.val (.bool true),[]⟩
 |_=>none
def GE:List Nat->OT
 |[]=>.rd 16 (.mk 17 .nil)
 |c::r=>.alt c (GE r) (.mk 17 ((c::r).foldr .mk (.rd 16 .nil)))
def D7:Opt:={ join:=λc=>match c with | .region 3 _ _=>true | .region 4 _ _=>true|_=>false,frz:=λi=>match i with|4=>some ([0,1,2,3,5,6,7,9,10,12,13,14],GE [4,8,11,15])|_=>none }
theorem GP:ak D7.toOrd Tryz.f7 4=true:=by kernel_rfl
theorem f7:FnOk Tryz.prog 7 c7:=by
 refine FnOk.ofW aj (am (l:=[(17,Ep),(13,Ew),(30,Gt),(32,Gv),(21,Et)]) (own:=[30,32]) (inl:=[(29,GC),(31,GD)]) (by simp [f17,f13,f30,f32,f21]) (by simp [GN,GO])) Tryz.func7 D7 4 GP λargs r e=>?_;unfold c7 at e;split at e
 ·rename_i s1 b1 c1 s2 b2 c2 s3 b3 c3 s4 b4 c4 k c l o v u x
  cases e;refine⟨by simp,λhm=>?_⟩;obtain⟨⟨hlo,hhi⟩,⟨hc,hk⟩,⟨ho,hl⟩,⟨a,rfl,ha⟩,⟨b,rfl,hb⟩,hx⟩:=hm _ rfl;clear hm;obtain⟨lo,hlo'⟩:∃p,p=(PtS.mk ⟨s1,b1,c1⟩ ⟨s2,b2,c2⟩):=⟨_,rfl⟩;obtain⟨hi,hhi'⟩:∃p,p=(PtS.mk ⟨s3,b3,c3⟩ ⟨s4,b4,c4⟩):=⟨_,rfl⟩;have hc1:∀i,i < k->[.rs 6 (pn c i) (pg c i)]=c i:=λi hi=>(hc i hi).1.symm;have ho1:∀i,i < l->ab (ow o i)=o i:=λi hi=>(ho i hi).symm;refine⟨[],aa [(0,.agg (bN (PtS.mk ⟨s1,b1,c1⟩ ⟨s2,b2,c2⟩) (PtS.mk ⟨s3,b3,c3⟩ ⟨s4,b4,c4⟩) k c l o)),(1,.val a.v),(2,.val b.v),(3,.val (.int .u8 x))] [] 0 [],Wo trivial ⟨⟨rfl,rfl,rfl,rfl,rfl,rfl,rfl,rfl,rfl,rfl,rfl,rfl,⟨rfl,rfl,hc1⟩,⟨rfl,rfl,ho1⟩,qQ⟩,rfl,rfl,rfl,qQ⟩ trivial,?_⟩;rw [<-hlo'] at hlo ⊢;rw [<-hhi'] at hhi ⊢;clear hlo' hhi';have hX:isRg 140737488355328 (bN lo hi k c l o):=⟨rfl,⟨hlo,hhi⟩,⟨λi hi=>⟨rfl,(hc i hi).2⟩,hk⟩,λ_ _=>rfl,hl⟩;have p2:∀r:Nat->List PV,r 0=a.cells->r 1=b.cells->isPL 140737488355328 2 r:=λr h h'=>⟨λi hi=>by
   match i,hi with
   |0,_=>exact⟨by rw [ai,h];rfl,by rw [ai,h];exact ha⟩
   |1,_=>exact⟨by rw [ai,h'];rfl,by rw [ai,h'];exact hb⟩
   |i+2,h=>omega,by decide⟩
  with_unfolding_all refine⟨⟨hX,p2 _ rfl rfl⟩,λh1=>⟨λ_=>⟨[],aa [(8,.val (.bool true))] [] 0 [],Wo trivial ⟨rfl,qQ⟩ trivial,rfl,rfl⟩,λh2=>?_⟩,λh1=>⟨λ_=>⟨[],aa [(8,.val (.bool true))] [] 0 [],Wo trivial ⟨rfl,qQ⟩ trivial,rfl,rfl⟩,λh=>(nomatch h)⟩⟩
  obtain⟨hX12,⟨ha12,hb12⟩,⟨ca,cb⟩,hreg0⟩:=mg (a:=a) (b:=b) h1 rfl rfl hX;have hsum:bg (pn c) k<=24:=nr h1;clear h1 p2;have hreg:bz lo hi k (pn c) (λi=>ai (pg c i)) l (ow o)=0:=hreg0;have hX4:isRg 10000 (bN lo hi k c l o):=hX12.mono (by decide);have pa:isPk 10000 a.v:=⟨a,rfl,ha12.mono (by decide)⟩;have pb:isPk 10000 b.v:=⟨b,rfl,hb12.mono (by decide)⟩;have hk0:0 < k:=by
   have h2:((k:Int)==0)=false:=h2;have:(k:Int)≠0:=by simpa using h2
   omega
  have ne0:(k:Int)≠0:=by omega
  obtain⟨d,hd,hdk⟩:∃d:Nat,((IntKind.i64.wrap x).tmod (k:Int))=d/\d < k:=by
   obtain⟨z,rfl⟩:=Int.eq_ofNat_of_zero_le hx.1;exact⟨z%k,by rw [wrap64 (by omega) (by omega),wh],Nat.mod_lt _ hk0⟩
  have hd9:PV.val (.int .i64 ((IntKind.i64.wrap x).tmod (k:Int)))=PV.val (goInt d):=by rw [hd];rfl
  obtain⟨_,hk32,_,_,hlk,_⟩:=kg.1 hreg;with_unfolding_all refine⟨Unit,λ_=>True,λ_=>aa [(4,.rp 14 1 (λ_=>bN lo hi k c l o) 0 0),(5,.rp 6 1 (λ_=>a.cells) 0 0),(6,.rp 6 1 (λ_=>b.cells) 0 0),(9,.val (goInt d))] [] 0 [],⟨ne0,(),[],trivial,Wo trivial ⟨⟨by simp,_,rfl,rfl,rfl,rfl,rfl,λ_ _=>rq⟩,⟨by simp,_,rfl,rfl,rfl,rfl,rfl,λ_ _=>rq⟩,⟨by simp,_,rfl,rfl,rfl,rfl,rfl,λ_ _=>rq⟩,hd9,qQ⟩ trivial⟩,λ_ _=>?_⟩
  have hw:IntKind.i64.wrap ((d:Int)+1)=(d:Int)+1:=wrap64 (by omega) (by omega);have le3:3<=3:=Nat.le_refl 3;have nw:((d:Int)==IntKind.i64.wrap ((d:Int)+1))=true->False:=λh=>by
   rw [hw] at h;have:=eq_of_beq h;omega
  have sA:∀m:Nat,d < m->(0:Int)<=d/\(d:Int)<=IntKind.i64.wrap ((d:Int)+1)/\IntKind.i64.wrap ((d:Int)+1)<=m/\(m:Int)<=m:=λm hm=>by rw [hw];omega
  have sB:∀m:Nat,d < m->(0:Int)<=0/\(0:Int)<=d/\(d:Int)<=m:=λm hm=>by omega
  have sC:∀m:Nat,d < m->0<=IntKind.i64.wrap ((d:Int)+1)/\IntKind.i64.wrap ((d:Int)+1)<=m/\(m:Int)<=m:=λm hm=>by rw [hw];omega
  have sD:∀m:Nat,d < m->((d:Int) - 0).toNat+((m:Int) - IntKind.i64.wrap ((d:Int)+1)).toNat<=m/\0 < m:=λm hm=>by rw [hw];omega
  have sE:∀m:Nat,d < m->(0:Int)<=((((d:Int) - 0).toNat+((m:Int) - IntKind.i64.wrap ((d:Int)+1)).toNat:Nat):Int)/\((((d:Int) - 0).toNat+((m:Int) - IntKind.i64.wrap ((d:Int)+1)).toNat:Nat):Int)<=m/\(m:Int)<=m:=λm hm=>by rw [hw];omega
  have sF:∀m:Nat,d < m->0 < m:=λm hm=>by omega
  have sL:∀m:Nat,d < m->((d:Int) - 0).toNat+((m:Int) - IntKind.i64.wrap ((d:Int)+1)).toNat=m - 1:=λm hm=>by rw [hw];omega
  have hdl:d < l:=by omega
  have p30:0 < k/\k<=1000:=by omega
  have p32:0 < l/\l<=1000:=by omega
  with_unfolding_all refine⟨Unit,λ_=>True,λ_=>aa [(4,.rp 14 1 (λ_=>bN lo hi k c l o) 0 0),(5,.rp 6 1 (λ_=>a.cells) 0 0),(6,.rp 6 1 (λ_=>b.cells) 0 0),(10,.ptr 0 0 0 0)] [⟨31,14,0,true,false,1,λ_=>bN lo hi (k - 1) (dl d c) (l - 1) (dl d o)⟩] 1 [],⟨qQ,trivial,trivial,trivial,trivial,trivial,trivial,trivial,trivial,trivial,trivial,trivial,⟨⟨p30,⟨⟨le3,sA k hdk,λh=>(nw h).elim,λ_=>⟨sB k hdk,sC k hdk,sD k hdk,sE k hdk,sF k hdk,⟨⟨p32,⟨⟨le3,sA l hdl,λh=>(nw h).elim,λ_=>⟨sB l hdl,sC l hdl,sD l hdl,sE l hdl,sF l hdl,⟨(),[some 2],trivial,Wo ⟨qZ ⟨rq,rq,rq,rq,rq,rq,rq,rq,rq,rq,rq,rq,⟨⟨by simp,_,rfl,rfl,rfl,sL k hdk,?_⟩,rfl⟩,⟨⟨by simp,_,rfl,rfl,rfl,sL l hdl,?_⟩,rfl⟩,qQ⟩,qQ⟩ ⟨⟨rfl,rfl,rfl,rfl,λ_ _=>rfl⟩,⟨rfl,rfl,rfl,rfl,λ_ _=>rfl⟩,⟨rfl,rfl,rfl,rfl,λ_ _=>rfl⟩,pP,qQ⟩ trivial⟩⟩⟩,⟨le3,sA l hdl,λh=>(nw h).elim,λ_=>⟨sB l hdl,sC l hdl,sD l hdl,sE l hdl,sF l hdl,⟨(),[some 2],trivial,Wo ⟨qZ ⟨rq,rq,rq,rq,rq,rq,rq,rq,rq,rq,rq,rq,⟨⟨by simp,_,rfl,rfl,rfl,sL k hdk,?_⟩,rfl⟩,⟨⟨by simp,_,rfl,rfl,rfl,sL l hdl,?_⟩,rfl⟩,qQ⟩,qQ⟩ ⟨⟨rfl,rfl,rfl,rfl,λ_ _=>rfl⟩,⟨rfl,rfl,rfl,rfl,λ_ _=>rfl⟩,⟨rfl,rfl,rfl,rfl,λ_ _=>rfl⟩,pP,qQ⟩ trivial⟩⟩⟩⟩⟩,⟨p32,⟨le3,sA l hdl,λh=>(nw h).elim,λ_=>⟨sB l hdl,sC l hdl,sD l hdl,sE l hdl,sF l hdl,⟨(),[some 1],trivial,Wo ⟨qZ ⟨rq,rq,rq,rq,rq,rq,rq,rq,rq,rq,rq,rq,⟨⟨by simp,_,rfl,rfl,rfl,sL k hdk,?_⟩,rfl⟩,⟨⟨by simp,_,rfl,rfl,rfl,sL l hdl,?_⟩,rfl⟩,qQ⟩,qQ⟩ ⟨⟨rfl,rfl,rfl,rfl,λ_ _=>rfl⟩,⟨rfl,rfl,rfl,rfl,λ_ _=>rfl⟩,⟨rfl,rfl,rfl,rfl,λ_ _=>rfl⟩,pP,qQ⟩ trivial⟩⟩⟩⟩⟩⟩⟩,⟨le3,sA k hdk,λh=>(nw h).elim,λ_=>⟨sB k hdk,sC k hdk,sD k hdk,sE k hdk,sF k hdk,⟨p32,⟨le3,sA l hdl,λh=>(nw h).elim,λ_=>⟨sB l hdl,sC l hdl,sD l hdl,sE l hdl,sF l hdl,⟨(),[some 1],trivial,Wo ⟨qZ ⟨rq,rq,rq,rq,rq,rq,rq,rq,rq,rq,rq,rq,⟨⟨by simp,_,rfl,rfl,rfl,sL k hdk,?_⟩,rfl⟩,⟨⟨by simp,_,rfl,rfl,rfl,sL l hdl,?_⟩,rfl⟩,qQ⟩,qQ⟩ ⟨⟨rfl,rfl,rfl,rfl,λ_ _=>rfl⟩,⟨rfl,rfl,rfl,rfl,λ_ _=>rfl⟩,⟨rfl,rfl,rfl,rfl,λ_ _=>rfl⟩,pP,qQ⟩ trivial⟩⟩⟩⟩⟩⟩⟩⟩,⟨p30,⟨le3,sA k hdk,λh=>(nw h).elim,λ_=>⟨sB k hdk,sC k hdk,sD k hdk,sE k hdk,sF k hdk,⟨p32,⟨le3,sA l hdl,λh=>(nw h).elim,λ_=>⟨sB l hdl,sC l hdl,sD l hdl,sE l hdl,sF l hdl,⟨(),[some 0],trivial,Wo ⟨qZ ⟨rq,rq,rq,rq,rq,rq,rq,rq,rq,rq,rq,rq,⟨⟨by simp,_,rfl,rfl,rfl,sL k hdk,?_⟩,rfl⟩,⟨⟨by simp,_,rfl,rfl,rfl,sL l hdl,?_⟩,rfl⟩,qQ⟩,qQ⟩ ⟨⟨rfl,rfl,rfl,rfl,λ_ _=>rfl⟩,⟨rfl,rfl,rfl,rfl,λ_ _=>rfl⟩,⟨rfl,rfl,rfl,rfl,λ_ _=>rfl⟩,pP,qQ⟩ trivial⟩⟩⟩⟩⟩⟩⟩⟩⟩,λ_ _=>?_⟩
  ·exactλi hi=>(fl d (λx=>[PV.rs 6 (ez x).1 (ez x).2]) c i).trans (en (λi=>[PV.rs 6 (pn c i) (pg c i)]) _ hdk hw i hi)
  ·exactλi hi=>(fl d (λx=>ab (Bk x)) o i).trans (en (λi=>ab (ow o i)) _ hdl hw i hi)
  ·exactλi hi=>(fl d (λx=>[PV.rs 6 (ez x).1 (ez x).2]) c i).trans (en (λi=>[PV.rs 6 (pn c i) (pg c i)]) _ hdk hw i hi)
  ·exactλi hi=>(fl d (λx=>ab (Bk x)) o i).trans (en (λi=>ab (ow o i)) _ hdl hw i hi)
  ·exactλi hi=>(fl d (λx=>[PV.rs 6 (ez x).1 (ez x).2]) c i).trans (en (λi=>[PV.rs 6 (pn c i) (pg c i)]) _ hdk hw i hi)
  ·exactλi hi=>(fl d (λx=>ab (Bk x)) o i).trans (en (λi=>ab (ow o i)) _ hdl hw i hi)
  ·exactλi hi=>(fl d (λx=>[PV.rs 6 (ez x).1 (ez x).2]) c i).trans (en (λi=>[PV.rs 6 (pn c i) (pg c i)]) _ hdk hw i hi)
  ·exactλi hi=>(fl d (λx=>ab (Bk x)) o i).trans (en (λi=>ab (ow o i)) _ hdl hw i hi)
  ·exactλi hi=>(fl d (λx=>[PV.rs 6 (ez x).1 (ez x).2]) c i).trans (en (λi=>[PV.rs 6 (pn c i) (pg c i)]) _ hdk hw i hi)
  ·exactλi hi=>(fl d (λx=>ab (Bk x)) o i).trans (en (λi=>ab (ow o i)) _ hdl hw i hi)
  obtain⟨hr2,hsee⟩:=EA (o:=o) (l:=l) hreg ca cb hdk;have hcl:bZ 10000 k (λi=>[.rs 6 (pn c i) (pg c i)]):=hX4.2.2.1;have hX5:isRg 10000 (bN lo hi (k - 1) (dl d c) (l - 1) (dl d o)):=⟨rfl,hX4.2.1,⟨λi hi2=>⟨rfl,by
   obtain⟨j,hj,e⟩:=ua (d:=d) c hi2;show isPL 10000 (ez (dl d c i)).1 (ez (dl d c i)).2;rw [e];exact(hcl.1 j hj).2⟩,Nat.le_trans (Nat.sub_le _ _) hcl.2⟩,λ_ _=>rfl,Nat.le_trans (Nat.sub_le _ _) hX4.2.2.2.2⟩
  have f3:(cD (fo lo hi k (λi=>[.rs 6 (pn c i) (pg c i)]) l (λi=>ab (ow o i)) (ao a b))==0) = !true->False:=λh=>by
   have hok:fo lo hi k (λi=>[.rs 6 (pn c i) (pg c i)]) l (λi=>ab (ow o i)) (ao a b)=true:=by
    show(!(!ah a||!ah b)&&(bz lo hi k (pn c) (λi=>ai (pg c i)) l (ow o)==0))=true;rw [ca,cb,hreg];rfl
   rw [hok] at h;cases h
  have f4:(cD (fo lo hi (k - 1) (λi=>[.rs 6 (pn (dl d c) i) (pg (dl d c) i)]) (l - 1) (λi=>ab (ow (dl d o) i)) (ao a b))==0) = !true->False:=λh=>by
   have hok:fo lo hi (k - 1) (λi=>[.rs 6 (pn (dl d c) i) (pg (dl d c) i)]) (l - 1) (λi=>ab (ow (dl d o) i)) (ao a b)=true:=by
    show(!(!ah a||!ah b)&&(bz lo hi (k - 1) (pn (dl d c)) (λi=>ai (pg (dl d c) i)) (l - 1) (ow (dl d o))==0))=true;rw [ca,cb,hr2];rfl
   rw [hok] at h;cases h
  have f6:(!aV lo hi k (λi=>[.rs 6 (pn c i) (pg c i)]) l (λi=>ab (ow o i)) a b)=false->aV lo hi (k - 1) (λi=>[.rs 6 (pn (dl d c) i) (pg (dl d c) i)]) (l - 1) (λi=>ab (ow (dl d o) i)) a b = !true->False:=λh h'=>by
   have h:aV lo hi k (λi=>[.rs 6 (pn c i) (pg c i)]) l (λi=>ab (ow o i)) a b=true:=by simpa using h
   have h2:aV lo hi (k - 1) (λi=>[.rs 6 (pn (dl d c) i) (pg (dl d c) i)]) (l - 1) (λi=>ab (ow (dl d o) i)) a b=true:=hsee h;rw [h2] at h';cases h'
  with_unfolding_all exact⟨⟨hX4,pa,pb⟩,⟨hX5,pa,pb⟩,λh3=>⟨λh4=>⟨λh5=>⟨λh6=>⟨[],aa [(8,.val (.bool true))] [] 0 [],Wo trivial ⟨rfl,qQ⟩ trivial,rfl,rfl⟩,λh6=>(f6 h5 h6).elim⟩,λh5=>⟨λ_=>⟨[],aa [(8,.val (.bool true))] [] 0 [],Wo trivial ⟨rfl,qQ⟩ trivial,rfl,rfl⟩,λh=>(nomatch h)⟩⟩,λh4=>(f4 h4).elim⟩,λh3=>(f3 h3).elim⟩
 ·cases e
end Go.Proofs
namespace Go.Ex
open Go.RowKit
section
variable {H:Type} {enc:TypeId×Value->H} {P:Program} {w:World}
def uc (T:TypeId->List PV->Prop):List Field->List PV->Prop
 |[],ps=>ps=[]
 |f::fs,ps=>∃qs rs,ps=qs++rs/\T f.type qs/\uc T fs rs
def lg (P:Program):Nat->TypeId->List PV->Prop
 |0,_,_=>False
 |d+1,t,ps=>match P.underlying t with
  |some .bool=>∃b,ps=[.val (.bool b)]
  |some (.int k)=>∃z,ps=[.val (.int k z)]/\(Lit.int k z).wf=true
  |some .string=>∃s:ByteArray,ps=[.val (.string s)]/\s.size<=140737488355328
  |some (.slice e)=>∃m g,ps=[.rs (P.cellsOf e) m g]/\m<=140737488355328/\∀i,i < m->lg P d e (g i)
  |some (.struct fs)=>uc (lg P d) fs.toList ps
  |_=>False
def zq (P:Program):Nat->List Field->Option Nat
 |o,[]=>some o
 |o,f::fs=>if f.offset=o then zq P (o+P.cellsOf f.type) fs else none
def fI (P:Program):Nat->TypeId->Bool
 |0,_=>false
 |d+1,t=>match P.underlying t with
  |some .bool|some (.int _)|some .string=>true
  |some (.slice e)=>fI P d e&&decide (0 < P.cellsOf e)&&decide (0 < P.bytesOf e)
  |some (.struct fs)=>fs.toList.all (λf=>fI P d f.type)&&decide (zq P 0 fs.toList=some (P.cellsOf t))
  |_=>false
def Pt (A:Nat->Prop) (w:World) (ps:List PV) (cs:List Value):Prop:=ps.length=cs.length/\∀(i:Nat) p u,ps[i]? = some p->cs[i]? = some u->R0 A w p u/\bk p=true
theorem Pt.append {A:Nat->Prop} {ps qs:List PV} {cs ds:List Value} (h:Pt A w ps cs) (k:Pt A w qs ds):Pt A w (ps++qs) (cs++ds):=by
 refine⟨by rw [List.length_append,List.length_append,h.1,k.1],λi p u hp hu=>?_⟩;rw [List.getElem?_append] at hp hu;rw [<-h.1] at hu;split at hp
 ·rename_i hi
  rw [if_pos hi] at hu;exact h.2 i p u hp hu
 ·rename_i hi
  rw [if_neg hi] at hu;exact k.2 _ p u hp hu
theorem mo {A:Nat->Prop} {d n:Nat} {cs:List Value} (hn:cs.length=n):∀{fs:List Field} {o:Nat},zq P o fs=some n ->
  (∀f∈fs,∃ps,lg P d f.type ps/\Pt A w ps ((cs.drop f.offset).take (P.cellsOf f.type)))->∃ps,uc (lg P d) fs ps/\Pt A w ps (cs.drop o)
 |[],o,h,_=>by
  cases h;refine⟨[],rfl,?_,λi p u hp=>by simp at hp⟩;rw [List.length_drop];simp only [List.length_nil];omega
 |f::fs,o,h,hf=>by
  unfold zq at h;split at h
  ·rename_i e
   obtain⟨rs,h1,h2⟩:=mo hn h λf hf'=>hf f (List.mem_cons_of_mem _ hf');obtain⟨qs,h3,h4⟩:=hf f List.mem_cons_self;refine⟨qs++rs,⟨qs,rs,rfl,h3,h1⟩,?_⟩;rw [e] at h4;have:=h4.append h2;rw [<-List.drop_drop,List.take_append_drop] at this;exact this
  ·cases h
theorem mq {A:Nat->Prop} (hA:∀k,k < w.heap.size->A k) {base:Nat} {spare:Nat->Bool} {held:Bool}:∀(d fuel:Nat) {t:TypeId} {cs:List Value} {x:DataW H×List MemPlace},fI P d t=true ->
  DataW.trod enc P w base spare held fuel t cs=some x->(∀n∈x.1.weights P t,n<=reachBytes)->∃ps,lg P d t ps/\Pt A w ps cs
 |0,_,_,_,_,hp,_,_=>by simp [fI] at hp
 |d+1,fuel,t,cs,x,hp,h,hw=>by
  have one:∀v:Value,v.oneCell'=true->Pt A w [.val v] [v]:=λv hv=>⟨rfl,λi p u h1 h2=>by
   match i with
   |0=>cases h1;cases h2;exact⟨.val v,hv⟩
   |i+1=>simp at h1⟩
  unfold fI at hp;unfold lg;split at hp
  ·rename_i ht
   obtain⟨b,rfl,rfl⟩:=DataW.trod_bool ht h;exact⟨_,⟨b,rfl⟩,one _ rfl⟩
  ·rename_i k ht
   obtain⟨b,rfl,rfl,hb⟩:=DataW.trod_int ht h;exact⟨_,⟨b,rfl,hb⟩,one _ rfl⟩
  ·rename_i ht
   obtain⟨b,rfl,rfl,hb⟩:=DataW.trod_string ht h;have:=hw b.data.toList.length (by simp [DataW.weights]);have e:b.data.toList.length=b.size:=Array.length_toList;refine⟨_,⟨b,rfl,?_⟩,one _ rfl⟩;rw [e] at this;unfold reachBytes at this;omega
  ·rename_i e ht
   simp only [Bool.and_eq_true,decide_eq_true_eq] at hp;obtain⟨⟨hpe,hce⟩,hbe⟩:=hp;rcases Deep.open_slice ht h with ⟨rfl,rfl⟩|⟨a,len,cap,m,n,D,Pl,rfl,hb,hl,hm,hme,rfl,hel⟩
   ·refine⟨[.rs (P.cellsOf e) 0 λ_=>[]],⟨0,_,rfl,Nat.zero_le _,λi hi=>absurd hi (Nat.not_lt_zero i)⟩,rfl,λi p u h1 h2=>?_⟩
    match i with
    |0=>cases h1;cases h2;exact⟨.rs _ _ _ _ _ (λ_ _=>undef) (λi hi=>absurd hi (Nat.not_lt_zero i)) (Nat.le_refl _) (Nat.zero_le _) (λi f p hi=>absurd hi (Nat.not_lt_zero i)) (λi f p hi=>absurd hi (Nat.not_lt_zero i)),rfl⟩
    |i+1=>simp at h1
   ·have hlm:len<=m:=by rw [hme];split<;>omega
    have hsz:((List.range len).map D).length*P.bytesOf e<=reachBytes:=by
     refine Nat.le_trans (Nat.mul_le_mul_right _ (Nat.le_add_right _ ((List.range (m - len)).map λj=>D (len+j)).length)) (hw _ ?_);simp [DataW.weights,ht]
    rw [List.length_map,List.length_range] at hsz;have hlen:len<=140737488355328:=by
     have:=Nat.le_mul_of_pos_right len hbe;unfold reachBytes at hsz;omega
    have hall:∀ds:List (DataW H),∀y∈ds,∀k∈y.weights P e,k∈DataW.weightsAll P e ds:=λds=>by
     induction ds with
     |nil=>intro y hy;simp at hy
     |cons z r ih =>
      intro y hy k hk;rw [DataW.weightsAll,List.mem_append];rcases List.mem_cons.1 hy with rfl|hy
      ·exact .inl hk
      ·exact .inr (ih y hy k hk)
    have key:∀i,i < len->∃z:List PV×List Value,lg P d e z.1/\Pt A w z.1 z.2/\z.2.length=P.cellsOf e/\∀f,f < P.cellsOf e->w.cell? ((a.add (i*P.cellsOf e)).add f)=z.2[f]?:=λi hi=>by
     obtain⟨cs',h1,h2⟩:=hel i (by omega);obtain⟨ps,k1,k2⟩:=mq hA d n hpe h2 (λk hk=>hw k (by
      simp only [DataW.weights,ht,List.mem_cons,List.mem_append];exact .inr (.inl (hall _ (D i) (List.mem_map.2 ⟨i,List.mem_range.2 hi,rfl⟩) k hk))))
     obtain⟨_,c2,c3⟩:=World.cells?_some h1;exact⟨(ps,cs'),k1,k2,c2,c3⟩
    obtain⟨z,hz⟩:=Deep.choose_lt key;have hspot:0 < len->a.spot=none:=λh0=>by
     obtain⟨_,_,c1,c2⟩:=hz 0 h0;have:=c2 0 hce;rw [List.getElem?_eq_getElem (by omega),Nat.zero_mul] at this;unfold Addr.add at this;rw [if_pos rfl,if_pos rfl] at this;unfold World.cell? at this;split at this
     ·split at this
      ·cases this
      ·rename_i hs
       cases hsp:a.spot with
       |none=>rfl
       |some _=>rw [hsp] at hs;exact absurd rfl hs
     ·cases this
    have hadd:∀i f,0 < len->(a.add (i*P.cellsOf e)).add f=⟨a.block,a.off+(i*P.cellsOf e+f),none⟩:=λi f h0=>by
     have hs:=hspot h0;obtain⟨b,o,s⟩:=a;cases hs;rw [WideShapes.add_plain,WideShapes.add_plain,Nat.add_assoc]
    have hcell:∀i f p,i < len->(z i).1[f]? = some p->∃u,(z i).2[f]? = some u/\w.cell? ⟨a.block,a.off+(i*P.cellsOf e+f),none⟩=some u:=λi f p hi hp=>by
     obtain⟨_,⟨k1,_⟩,k3,k4⟩:=hz i hi;obtain⟨hf,_⟩:=List.getElem?_eq_some_iff.1 hp;have:=k4 f (by omega);rw [hadd i f (by omega)] at this;rw [this];exact⟨(z i).2[f]'(by omega),List.getElem?_eq_getElem _,List.getElem?_eq_getElem _⟩
    refine⟨[.rs (P.cellsOf e) len λi=>(z i).1],⟨len,_,rfl,hlen,λi hi=>(hz i hi).1⟩,rfl,λi p u h1 h2=>?_⟩
    match i with
    |i+1=>simp at h1
    |0 =>
     cases h1;cases h2;refine⟨.rs _ _ _ _ _ (λi f=>((z i).2[f]?).getD undef) (λi hi=>?_) hl hm (λi f p hi hp=>?_) (λi f p hi hp=>?_),rfl⟩
     ·obtain⟨_,⟨k1,k2⟩,k3,_⟩:=hz i hi;refine⟨k1.trans k3,λp hp=>?_⟩;obtain⟨f,hf⟩:=List.getElem?_of_mem hp;obtain⟨hf',_⟩:=List.getElem?_eq_some_iff.1 hf;exact(k2 f p _ hf (List.getElem?_eq_getElem (show f < (z i).2.length by omega))).2
     ·obtain⟨u,e1,e2⟩:=hcell i f p hi hp;obtain⟨b,o,s⟩:=a;have hs:s=none:=hspot (show 0 < len by omega);subst hs;refine⟨b,o,rfl,hA _ ?_,?_⟩
      ·exact Nat.lt_of_not_le λhge=>by
        unfold World.cell? at e2;rw [show w.heap[(⟨b,o+(i*P.cellsOf e+f),none⟩:Addr).block]? = none from Array.getElem?_eq_none hge] at e2;cases e2
      ·rw [e2,e1];rfl
     ·obtain⟨u,e1,e2⟩:=hcell i f p hi hp;rw [e1];exact((hz i hi).2.1.2 f p u hp e1).1
  ·rename_i fs ht
   simp only [Bool.and_eq_true,decide_eq_true_eq,List.all_eq_true] at hp;obtain⟨xs,n,rfl,rfl,hl,hlen,hf⟩:=DataW.trod_struct ht h;obtain⟨ps,h1,h2⟩:=mo (P:=P) (A:=A) (w:=w) (d:=d) hl hp.2 λf hm=>by
    obtain⟨i,hi⟩:=List.getElem?_of_mem hm;have hi':fs[i]? = some f:=by rw [<-hi,Array.getElem?_toList]
    have h1:=hf i f hi';obtain⟨hil,_⟩:=List.getElem?_eq_some_iff.1 hi;have hil':i < xs.length:=by rw [hlen];simpa using hil
    rw [List.getElem?_eq_getElem hil'] at h1;refine mq hA d n (hp.1 f hm) h1 λk hk=>hw k ?_;have e2:DataW.weights P t (.agg (xs.map (·.1)))=DataW.weightsEach P (fs.toList.map (·.type)) (xs.map (·.1)):=by simp only [DataW.weights,ht]
    show k∈DataW.weights P t (.agg (xs.map (·.1)));rw [e2];exact DataW.weights_mem_each (j:=i) (t:=f.type) (d:=xs[i].1) (by rw [List.getElem?_map,hi];rfl) (by rw [List.getElem?_map,List.getElem?_eq_getElem hil'];rfl) k hk
   exact⟨ps,h1,h2⟩
  ·cases hp
def oS (P:Program) (d:Nat) (t:TypeId) (p:PV):Prop:=match P.underlying t with
 |some (.struct _)=>∃xs,p=mkAgg xs/\lg P d t xs
 |_=>lg P d t [p]
def oT (P:Program) (d:Nat):List TypeId->List PV->Prop
 |[],ps=>ps=[]
 |t::ts,ps=>∃p qs,ps=p::qs/\oS P d t p/\oT P d ts qs
theorem vh {A:Nat->Prop} (hA:∀k,k < w.heap.size->A k) {base base':Nat} {spare:Nat->Bool} {held:Bool} {r:Reach} {d:Nat} {t:TypeId} {v:Value} {y:DataW H} {q:List MemPlace} (hp:fI P d t=true)
  (h:DataW.Trod enc P w base spare held t v y q) (hv:Value.okWide P w r base' t v) (hw:∀n∈y.weights P t,n<=reachBytes):∃p,oS P d t p/\R0 A w p v:=by
 obtain⟨fuel,h⟩:=h;obtain⟨ps,h1,h2⟩:=mq hA d fuel hp h hw;have one:v.cells.toList=[v]->∃p,ps=[p]/\R0 A w p v:=λe=>by
  rw [e] at h2
  match ps,h2 with
  |[p],h2=>exact⟨p,rfl,(h2.2 0 p v rfl rfl).1⟩
  |[],h2=>exact absurd h2.1 (by simp)
  |_::_::_,h2=>exact absurd h2.1 (by simp)
 unfold oS
 match d,hp with
 |d+1,hp =>
  unfold fI at hp;split at hp
  ·rename_i ht
   obtain⟨b,rfl⟩:=WideShapes.okWide_bool ht hv;obtain⟨p,rfl,hr⟩:=one rfl;rw [ht];exact⟨p,h1,hr⟩
  ·rename_i k ht
   obtain⟨b,rfl⟩:=WideShapes.okWide_int ht hv;obtain⟨p,rfl,hr⟩:=one rfl;rw [ht];exact⟨p,h1,hr⟩
  ·rename_i ht
   obtain⟨b,rfl⟩:=WideShapes.okWide_string ht hv;obtain⟨p,rfl,hr⟩:=one rfl;rw [ht];exact⟨p,h1,hr⟩
  ·rename_i e ht
   obtain⟨a,len,cap,rfl⟩:=WideShapes.okWide_slice ht hv;obtain⟨p,rfl,hr⟩:=one rfl;rw [ht];exact⟨p,h1,hr⟩
  ·rename_i fs ht
   obtain⟨cs,rfl,_⟩:=WideShapes.okWide_struct ht hv;rw [ht];have h2':Pt A w ps cs.toList:=h2;exact⟨Ex.mkAgg ps,⟨ps,rfl,h1⟩,R0.mkAgg (by simpa using h2'.1) λi p u hp hu=>(h2'.2 i p u hp (by rw [Array.getElem?_toList];exact hu)).1⟩
  ·cases hp
theorem kE {A:Nat->Prop} (hA:∀k,k < w.heap.size->A k) {base base':Nat} {spare:Nat->Bool} {held:Bool} {r:Reach} {d:Nat}:∀{ts:List TypeId} {vs:List Value} {ds:List (DataW H)} {q:List MemPlace},(∀t∈ts,fI P d t=true) ->
  DataW.TrodAll enc P w base spare held ts vs ds q->(∀(j:Nat) t v,ts[j]? = some t->vs[j]? = some v->Value.okWide P w r base' t v)->(∀n∈DataW.weightsEach P ts ds,n<=reachBytes) ->
  ∃ps,oT P d ts ps/\ps.length=vs.length/\∀(i:Nat) p v,ps[i]? = some p->vs[i]? = some v->R0 A w p v
 |[],[],_,_,_,_,_,_=>⟨[],rfl,rfl,λi p v h=>by simp at h⟩
 |[],_::_,_,_,_,h,_,_=>h.elim
 |_::_,[],_,_,_,h,_,_=>h.elim
 |_::_,_::_,[],_,_,h,_,_=>h.elim
 |t::ts,v::vs,y::ds,q,hp,h,hv,hw=>by
  obtain⟨q1,q2,h1,h2,_⟩:=h;obtain⟨p,k1,k2⟩:=vh (A:=A) hA (hp t List.mem_cons_self) h1 (hv 0 t v rfl rfl) λn hn=>hw n (by rw [DataW.weightsEach,List.mem_append];exact .inl hn);obtain⟨ps,k3,k4,k5⟩:=kE hA (λt ht=>hp t (List.mem_cons_of_mem _ ht)) h2 (λj t' v' a b=>hv (j+1) t' v' (by simpa using a) (by simpa using b)) λn hn=>hw n (by rw [DataW.weightsEach,List.mem_append];exact .inr hn);refine⟨p::ps,⟨p,ps,rfl,k1,k3⟩,by simp [k4],λi p' v' a b=>?_⟩
  match i with
  |0=>cases a;cases b;exact k2
  |i+1=>exact k5 i p' v' (by simpa using a) (by simpa using b)
theorem ir (hl:laidOutB P=true) {w':World} (hb:Below w.heap.size w w'):∀{ts:List TypeId} {vs:List Value} {ds:List (DataW H)} {q:List MemPlace},(∀t∈ts,P.readableRec t=true/\t < P.types.size) ->
  DataW.TrodAll enc P w 0 (λ_=>true) true ts vs ds q->(∀x∈q,x.block < w.heap.size)->DataW.TrodAll enc P w' 0 (λb=>decide (b < w.heap.size)) true ts vs ds q
 |[],[],[],_,_,h,_=>h
 |[],[],_::_,_,_,h,_=>h.elim
 |[],_::_,_,_,_,h,_=>h.elim
 |_::_,[],_,_,_,h,_=>h.elim
 |_::_,_::_,[],_,_,h,_=>h.elim
 |t::ts,v::vs,y::ds,q,hp,h,hq=>by
  obtain⟨q1,q2,h1,h2,rfl⟩:=h;exact⟨q1,q2,Below.trod hl (hp t List.mem_cons_self).1 (hp t List.mem_cons_self).2 h1 hb λx hx=>hq x (List.mem_append.2 (.inl hx)),
   ir hl hb (λt ht=>hp t (List.mem_cons_of_mem _ ht)) h2 λx hx=>hq x (List.mem_append.2 (.inr hx)),rfl⟩
theorem oU (hl:laidOutB P=true) {f:FuncId} {fn:Func} {s:ChangeSpec} {d tb:Nat} {c:List PV->Option Ans} (hv:s.vars=[]) (hs:∀ds:List (DataW H),ds.length=fn.params.size->s.fn H ds={ results:=[.lit (.bool true)],args:=ds })
  (hr:fn.resultTypes = #[tb]) (ht:P.underlying tb=some .bool) (hp:(fn.params.toList.all λt=>fI P d t&&P.readableRec t&&decide (t < P.types.size))=true) (hc:FnOk P f c)
  (hd:∀ps,oT P d fn.params.toList ps->∃pre,c ps=some ⟨pre,.val (.bool true),[]⟩/\Met pre)
  (W:World) (base:Nat) (args:Array Value) (ds gs:List (DataW H)) (before:List MemPlace)
  (hval:∀(j:Nat) t v,fn.params[j]? = some t->args[j]? = some v->Value.okWide P W .any base t v)
  (hW:DataW.Whole enc P fn.params.toList s.vars false W args.toList ds gs before)
  (hsz:(DataW.weightsEach P (fn.params.toList++s.plain.varTypes P) (ds++gs)).all (·<=reachBytes)=true) :
  Calls P f args W λe W'=>∃v,e=.returned v/\s.post enc P fn false true false false W args v W':=by
 have hW':=hW;obtain⟨p,q,hA,hV,rfl,hfz,hnd⟩:=hW;rw [hv] at hV;obtain⟨rfl,rfl⟩:=ChangeShapes.trodVars_none hV;have hp':∀t∈fn.params.toList,fI P d t=true/\P.readableRec t=true/\t < P.types.size:=λt h=>by
  have:=List.all_eq_true.1 hp t h;simp only [Bool.and_eq_true,decide_eq_true_eq] at this;exact⟨this.1.1,this.1.2,this.2⟩
 have hvt:s.plain.varTypes P=[]:=by
  unfold DataSpec.varTypes ChangeSpec.plain;rw [hv];rfl
 rw [hvt,List.append_nil,List.append_nil] at hsz;obtain⟨ps,h1,h2,h3⟩:=kE (A:=λk=>k < W.heap.size) (λk h=>h) (λt h=>(hp' t h).1) hA (λj t v a b=>hval j t v (by rw [<-Array.getElem?_toList];exact a) (by rw [<-Array.getElem?_toList];exact b)) λn hn=>by simpa using List.all_eq_true.1 hsz n hn
 obtain⟨pre,h4,h5⟩:=hd ps h1;have hlt:=hW'.lt;rw [List.append_nil] at hlt;refine((hc ps _ h4).2 h5 (λk=>k < W.heap.size) W args (λk h=>h) (by simpa using h2) λi p v a b=>h3 i p v a (by rw [Array.getElem?_toList];exact b)).mono λe W' ⟨v,β,he,hres⟩=>?_;refine⟨v,he,?_⟩;have hv':v=.bool true:=hres.val.val_eq;subst hv';have hdl:ds.length=fn.params.size:=by
  have:∀{ts:List TypeId} {vs:List Value} {ds:List (DataW H)} {q:List MemPlace},DataW.TrodAll enc P W 0 (λ_=>true) true ts vs ds q->ds.length=ts.length:=λ{ts}=>by
   induction ts with
   |nil =>
    intro vs ds q h
    match vs,ds,h with
    |[],[],_=>rfl
   |cons t ts ih =>
    intro vs ds q h
    match vs,ds,h with
    |v::vs,y::ds,h =>
     obtain⟨_,_,_,h2,_⟩:=h;rw [List.length_cons,List.length_cons,ih h2]
  rw [this hA];simp
 have hb:=hres.below;refine⟨ds,[],p++[],[],p,[],hW',?_,?_,?_,hb.frame _,λh=>by cases h⟩
 ·rw [hs (ds++[]) (by rw [List.append_nil];exact hdl),hr];exact⟨[],[],⟨1,by simp [DataW.trod,Value.cells,ht]⟩,rfl,rfl⟩
 ·rw [hs (ds++[]) (by rw [List.append_nil];exact hdl),List.append_nil];exact ir hl hb (λt h=>(hp' t h).2) hA hlt
 ·rw [hv,hs (ds++[]) (by rw [List.append_nil];exact hdl)];rfl
end
end Go.Ex
namespace Go.Proofs
theorem zr:Tryz.prog.cellsOf 25=6:=by kernel_rfl
theorem lh {d t:Nat} {k:IntKind} {ps:List PV} (ht:Tryz.prog.underlying t=some (.int k)) (h:lg Tryz.prog d t ps):∃z,ps=[.val (.int k z)]/\k.min<=z/\z<=k.max:=by
 match d,h with
 |d+1,h =>
  unfold lg at h;rw [ht] at h;obtain⟨z,rfl,hz⟩:=h;unfold Lit.wf at hz;simp only [Bool.and_eq_true,decide_eq_true_eq] at hz;exact⟨z,rfl,hz⟩
theorem mr {d t:Nat} {ps:List PV} (ht:Tryz.prog.underlying t=some .string) (h:lg Tryz.prog d t ps):∃s:ByteArray,ps=[.val (.string s)]/\s.size<=140737488355328:=by
 match d,h with
 |d+1,h =>
  unfold lg at h;rw [ht] at h;exact h
theorem xE {d t:Nat} {ps:List PV} (ht:Tryz.prog.underlying t=some .bool) (h:lg Tryz.prog d t ps):∃b,ps=[.val (.bool b)]:=by
 match d,h with
 |d+1,h =>
  unfold lg at h;rw [ht] at h;exact h
theorem fm {d t:Nat} {fs:Array Field} {ps:List PV} (ht:Tryz.prog.underlying t=some (.struct fs)) (h:lg Tryz.prog d t ps):uc (lg Tryz.prog (d - 1)) fs.toList ps:=by
 match d,h with
 |d+1,h =>
  unfold lg at h;rw [ht] at h;exact h
theorem kh {d t e:Nat} {ps:List PV} (ht:Tryz.prog.underlying t=some (.slice e)) (h:lg Tryz.prog d t ps):∃m g,ps=[.rs (Tryz.prog.cellsOf e) m g]/\m<=140737488355328/\∀i,i < m->lg Tryz.prog (d - 1) e (g i):=by
 match d,h with
 |d+1,h =>
  unfold lg at h;rw [ht] at h;exact h
theorem ud {d:Nat} {ps:List PV} (h:lg Tryz.prog d 23 ps):∃r:RatS,ps=r.cells/\r.le 140737488355328:=by
 obtain⟨q1,r1,rfl,h1,q2,r2,rfl,h2,q3,r3,rfl,h3,rfl⟩:=fm Tryz.underlying23 h;obtain⟨s,rfl⟩:=xE Tryz.underlying4 h1;obtain⟨b,rfl,hb⟩:=mr Tryz.underlying9 h2;obtain⟨c,rfl,hc⟩:=mr Tryz.underlying9 h3;exact⟨⟨s,b,c⟩,rfl,hb,hc⟩
theorem oV {d:Nat} {ps:List PV} (h:lg Tryz.prog d 25 ps):∃p:PtS,ps=p.cells/\p.le 140737488355328:=by
 obtain⟨q1,r1,rfl,h1,q2,r2,rfl,h2,rfl⟩:=fm Tryz.underlying25 h;obtain⟨x,rfl,hx⟩:=ud h1;obtain⟨y,rfl,hy⟩:=ud h2;exact⟨⟨x,y⟩,rfl,hx,hy⟩
theorem zt {d:Nat} {ps:List PV} (h:lg Tryz.prog d 34 ps):∃n g,ps=[.rs 6 n g]/\isPL 140737488355328 n g:=by
 obtain⟨n,g,rfl,hn,hg⟩:=kh Tryz.underlying34 h;rw [zr];refine⟨n,g,rfl,λi hi=>?_,hn⟩;obtain⟨p,hp,hl⟩:=oV (hg i hi);unfold ai;rw [hp];exact⟨rfl,hl⟩
theorem BU {d:Nat} {p:PV} (h:oS Tryz.prog d 5 p):∃z,p=.val (.int .u8 z)/\0<=z/\z < 256:=by
 unfold oS at h;rw [Tryz.underlying5] at h;obtain⟨z,e,h1,h2⟩:=lh Tryz.underlying5 h;cases e;have h1:(0:Int)<=z:=h1;have h2:z<=255:=h2;exact⟨z,rfl,h1,by omega⟩
theorem ue {d:Nat} {p:PV} (h:oS Tryz.prog d 25 p):∃q:PtS,p=.val q.v/\q.le 140737488355328:=by
 unfold oS at h;rw [Tryz.underlying25] at h;obtain⟨xs,rfl,h⟩:=h;obtain⟨q,rfl,hq⟩:=oV h;exact⟨q,rfl,hq⟩
theorem zu:Tryz.prog.cellsOf 34=1:=by kernel_rfl
theorem zw:Tryz.prog.cellsOf 63=3:=by kernel_rfl
theorem sZ {d:Nat} {p:PV} (h:oS Tryz.prog d 31 p):∃(lo hi:PtS) (k:Nat) (c:Nat->List PV) (l:Nat) (o:Nat->List PV),p=.agg [.val (.bool lo.x.s),.val (.string lo.x.b),.val (.string lo.x.c),.val (.bool lo.y.s),.val (.string lo.y.b),.val (.string lo.y.c),.val (.bool hi.x.s),.val (.string hi.x.b),.val (.string hi.x.c),.val (.bool hi.y.s),.val (.string hi.y.b),.val (.string hi.y.c),.rs 1 k c,.rs 3 l o] /\
  (lo.le 140737488355328/\hi.le 140737488355328)/\bZ 140737488355328 k c/\c8 l o:=by
 unfold oS at h;rw [Tryz.underlying31] at h;obtain⟨xs,rfl,h⟩:=h;obtain⟨q1,r1,rfl,h1,q2,r2,rfl,h2,q3,r3,rfl,h3,rfl⟩:=fm Tryz.underlying31 h;obtain⟨s1,u1,rfl,g1,s2,u2,rfl,g2,rfl⟩:=fm Tryz.underlying27 h1;obtain⟨lo,rfl,hlo⟩:=oV g1;obtain⟨hi,rfl,hhi⟩:=oV g2;obtain⟨k,c,rfl,hk,hc⟩:=kh Tryz.underlying28 h2;obtain⟨l,o,rfl,hl,ho⟩:=kh Tryz.underlying29 h3;rw [zu,zw];refine⟨lo,hi,k,c,l,o,rfl,⟨hlo,hhi⟩,⟨λi hi=>?_,hk⟩,λi hi=>?_,hl⟩
 ·obtain⟨n,g,e,hg⟩:=zt (hc i hi);unfold pn pg;rw [e];exact⟨rfl,hg⟩
 ·obtain⟨q1,r1,e,h1,q2,r2,rfl,h2,q3,r3,rfl,h3,rfl⟩:=fm Tryz.underlying63 (ho i hi);obtain⟨x,rfl,_⟩:=lh Tryz.underlying3 h1;obtain⟨y,rfl,_⟩:=lh Tryz.underlying3 h2;obtain⟨z,rfl,_⟩:=lh Tryz.underlying3 h3;unfold ow;rw [e];rfl
end Go.Proofs
namespace Go.Proofs.YtpfdckeipckldaaGreat
open Go.RowKit
theorem own:ownKnob Tryz.prog.godebug=none:=by kernel_rfl
theorem zx:laidOutB Tryz.prog=true:=by kernel_rfl
theorem vk (ps:List PV) (h:oT Tryz.prog 8 [31,25,25,5] ps):∃pre,c7 ps=some ⟨pre,.val (.bool true),[]⟩/\Go.Ex.Met pre:=by
 obtain⟨p1,q1,rfl,h1,p2,q2,rfl,h2,p3,q3,rfl,h3,p4,q4,rfl,h4,rfl⟩:=h;obtain⟨lo,hi,k,c,l,o,rfl,hb,hc,ho⟩:=sZ h1;obtain⟨a,rfl,ha⟩:=ue h2;obtain⟨b,rfl,hb'⟩:=ue h3;obtain⟨m,rfl,hm⟩:=BU h4;exact⟨_,rfl,λq e=>by cases e;exact⟨hb,hc,ho,⟨a,rfl,ha⟩,⟨b,rfl,hb'⟩,hm⟩⟩
theorem oW (os:Os) (started:os.Started) (H:Type) (enc:TypeId×Value->H) :
  ReturnsInHanded {} Tryz.checked os 7 .any (Rows.roadmapFewerSpec.pre6 enc Tryz.prog Tryz.f7 Rows.roadmapFewerRow.domain false) (Rows.roadmapFewerSpec.post enc Tryz.prog Tryz.f7 false true false false):=by
 refine returnsInHanded_of_change_sized (C:=Tryz.checked) own started (by kernel_rfl) Tryz.func7
  (ChangeSpec.witness6 (enc:=enc) (C:=Tryz.checked) false ⟨#[],#[.agg #[.bool false,.string ⟨#[]⟩,.string ⟨#[]⟩,.bool false,.string ⟨#[]⟩,.string ⟨#[]⟩,.bool false,.string ⟨#[]⟩,.string ⟨#[]⟩,.bool false,.string ⟨#[]⟩,.string ⟨#[]⟩,.slice none 0 0,.slice none 0 0],.agg #[.bool false,.string ⟨#[]⟩,.string ⟨#[]⟩,.bool false,.string ⟨#[]⟩,.string ⟨#[]⟩],.agg #[.bool false,.string ⟨#[]⟩,.string ⟨#[]⟩,.bool false,.string ⟨#[]⟩,.string ⟨#[]⟩],.int .u8 0],[]⟩ 8 (by kernel_rfl) (by kernel_rfl) (by kernel_rfl) (by kernel_rfl)) ?_
 intro W base args ds gs before hval hW _ hsz _;exact oU (P:=Tryz.prog) (fn:=Tryz.f7) (d:=8) (tb:=4) (s:=Rows.roadmapFewerSpec) zx rfl (λds hd=>by
  match ds,hd with
  |[d1,d2,d3,d4],_=>rfl) rfl Tryz.underlying4 (by kernel_rfl) f7 (λps h=>vk ps h) W base args ds gs before hval hW hsz
theorem fewer_holds:Rows.RoadmapFewerSaid :=
 OpenClaim.holds_of_wide 7 Tryz.f7 rfl rfl rfl rfl rfl rfl rfl ⟨rfl,rfl,rfl,rfl,rfl⟩ rfl rfl rfl rfl rfl (by kernel_rfl) Tryz.func7 (by kernel_rfl)
  (of_decide_eq_true (by kernel_rfl)) (by unfold Func.isWrapper;rw [if_neg (of_decide_eq_false (by kernel_rfl))];exact⟨rfl,rfl⟩)
  (λos started H enc _=>oW os started H enc)
end Go.Proofs.YtpfdckeipckldaaGreat
