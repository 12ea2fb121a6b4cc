import Derived.Shelf.Lays8
import Derived.Shelf.Spec.SlicesGrow
import Derived.Shelf.Sort.Plain
import Derived.Shelf.Slices.In.SortNone
import Derived.Sort.OwnSortedInts
import Derived.Test.YtpfdckeipckldaaGreatD
set_option maxHeartbeats 8000000
set_option linter.all false
open Go Go.Ex Go.Num Go.Proofs
set_option maxRecDepth 100000
namespace Go.Num
def tR (p u:PtS):PtS:=pv (p.X+u.X) (p.Y+u.Y)
def rV (p:PtS) (r:RatS):PtS:=pv (p.X*r.q) (p.Y*r.q)
def ze (p u:PtS) (r:RatS):PtS:=tR p (rV (cm u p) r)
theorem AC {a b:Nat} {p u:PtS} (h1:PtS.le a p) (h2:PtS.le b u):(tR p u).le (a+b+3):=tK ((h1.X.add h2.X).le (by omega)) ((h1.Y.add h2.Y).le (by omega))
theorem u0 {a b:Nat} {p:PtS} {r:RatS} (h1:PtS.le a p) (h2:RatS.le b r):(rV p r).le (a+b+3):=tK ((h1.X.mul h2.qb).le (by omega)) ((h1.Y.mul h2.qb).le (by omega))
theorem fH {p:PtS} (h:bx p=false):p.le 12:=by
 unfold bx nq at h;simp only [Bool.or_eq_false_iff,decide_eq_false_iff_not] at h;unfold PtS.le RatS.le;omega
theorem pH {K:Nat} {xs:List PV} (h:mJ (bO xs) (bP xs) (gK xs) (pn (gC xs)) (λi=>ae (pg (gC xs) i)) (gL xs)=false) (hx:isRg K xs):isRg 12 xs:=by
 obtain⟨h1,_,hc,ho⟩:=hx;unfold mJ at h;simp only [Bool.or_eq_false_iff] at h;refine⟨h1,⟨fH h.1.1.1.1,fH h.1.1.1.2⟩,⟨λi hi=>⟨(hc.1 i hi).1,⟨λj hj=>⟨((hc.1 i hi).2.1 j hj).1,?_⟩,(hc.1 i hi).2.2⟩⟩,hc.2⟩,ho⟩;have h2:=(ay.1 h.1.2) i hi;unfold iS at h2;rw [Bool.or_eq_false_iff] at h2;exact fH ((ay.1 h2.2) j hj)
theorem isRg.mono {a b:Nat} {xs:List PV} (h:isRg a xs) (hab:a<=b):isRg b xs :=
 ⟨h.1,⟨h.2.1.1.mono hab,h.2.1.2.mono hab⟩,⟨λi hi=>⟨(h.2.2.1.1 i hi).1,⟨λj hj=>⟨((h.2.2.1.1 i hi).2.1 j hj).1,((h.2.2.1.1 i hi).2.1 j hj).2.mono hab⟩,(h.2.2.1.1 i hi).2.2⟩⟩,h.2.2.1.2⟩,h.2.2.2⟩
theorem AD {K n:Nat} {g:Nat->List PV} (h:aD (λi=>bx (ae g i)) n=false) (hg:isPL K n g):isPL 12 n g :=
 ⟨λi hi=>⟨(hg.1 i hi).1,fH ((ay.1 h) i hi)⟩,hg.2⟩
theorem isPL.mono {a b n:Nat} {g:Nat->List PV} (h:isPL a n g) (hab:a<=b):isPL b n g:=⟨λi hi=>⟨(h.1 i hi).1,(h.1 i hi).2.mono hab⟩,h.2⟩
def gF (xs:List PV) (n:Nat) (g:Nat->List PV):Bool:=mJ (bO xs) (bP xs) (gK xs) (pn (gC xs)) (λi=>ae (pg (gC xs) i)) (gL xs)||aD (λi=>bx (ae g i)) n
def rW (xs:List PV):Int:=c7 (bO xs) (bP xs) (gK xs) (pn (gC xs)) (λi=>aZ (pn (gC xs) i) (ae (pg (gC xs) i))) (gL xs) (ow (gO xs))
def rX (xs:List PV) (n:Nat) (g:Nat->List PV):Bool:=!gF xs n g&&(rW xs==0)&&!aD (λi=>!ah (ae g i)) n
end Go.Num
namespace Go.Proofs
theorem fI {x y:PtS} (h:x=y):PV.val (.bool x.x.s)=PV.val (.bool y.x.s)/\PV.val (.string x.x.b)=PV.val (.string y.x.b)/\PV.val (.string x.x.c)=PV.val (.string y.x.c)/\PV.val (.bool x.y.s)=PV.val (.bool y.y.s)/\PV.val (.string x.y.b)=PV.val (.string y.y.b)/\PV.val (.string x.y.c)=PV.val (.string y.y.c):=by
 rw [h];exact⟨rfl,rfl,rfl,rfl,rfl,rfl⟩
def HM:List PV->Option Ans
 |[.val v,.val u]=>some ⟨some (isPk 4294967296 v/\isPk 4294967296 u),.val (tR (aO v) (aO u)).v,[]⟩
 |_=>none
def D74:Opt:={  }
theorem HN:am D74.toOrd Tryz.f74 2=true:=by kernel_rfl
theorem f74:FnOk Tryz.prog 74 HM:=by
 refine FnOk.ofW aj (an (l:=[(112,mz)]) (own:=[]) (inl:=[]) (by simp [yn]) (by simp)) Tryz.func74 D74 2 HN λargs r e=>?_;unfold HM at e;split at e
 ·rename_i v u
  cases e;refine⟨by simp,λhm=>?_⟩;obtain⟨⟨p,rfl,hp⟩,u,rfl,hu⟩:=hm _ rfl;refine⟨[],aa [(0,.val p.v),(1,.val u.v)] [] 0 [],Wo trivial ⟨rfl,rfl,qQ⟩ trivial,?_⟩;with_unfolding_all exact⟨⟨⟨p,rfl,hp⟩,u,rfl,hu⟩,[some 2],aa [(4,.ptr 0 0 0 0)] [gZ (tR p u) 0] 1 [],Wo ⟨qK,qQ⟩ ⟨pP,qQ⟩ trivial,rfl,rfl⟩
 ·cases e
def AE:Value->RatS
 |.agg ⟨[.bool s,.string b,.string c]⟩=>⟨s,b,c⟩
 |_=>⟨false,⟨#[]⟩,⟨#[]⟩⟩
def HO:List PV->Option Ans
 |[.val v,.val u]=>some ⟨some (isPk 4294967296 v/\isRk 4294967296 u),.val (rV (aO v) (AE u)).v,[]⟩
 |_=>none
def D75:Opt:={  }
theorem HP:am D75.toOrd Tryz.f75 2=true:=by kernel_rfl
theorem f75:FnOk Tryz.prog 75 HO:=by
 refine FnOk.ofW aj (an (l:=[(112,jX)]) (own:=[]) (inl:=[]) (by simp [rL]) (by simp)) Tryz.func75 D75 2 HP λargs r e=>?_;unfold HO at e;split at e
 ·rename_i v u
  cases e;refine⟨by simp,λhm=>?_⟩;obtain⟨⟨p,rfl,hp⟩,s,b,c,rfl,hb,hc⟩:=hm _ rfl;refine⟨[],aa [(0,.val p.v),(1,.val (.agg ⟨[.bool s,.string b,.string c]⟩))] [] 0 [],Wo trivial ⟨rfl,rfl,qQ⟩ trivial,?_⟩;have hr:PtS.le 4294967296 ⟨⟨s,b,c⟩,⟨s,b,c⟩⟩:=⟨⟨hb,hc⟩,hb,hc⟩;with_unfolding_all exact⟨⟨⟨p,rfl,hp⟩,⟨⟨s,b,c⟩,⟨s,b,c⟩⟩,rfl,hr⟩,[some 2],aa [(4,.ptr 0 0 0 0)] [gZ (rV p ⟨s,b,c⟩) 0] 1 [],Wo ⟨qK,qQ⟩ ⟨pP,qQ⟩ trivial,rfl,rfl⟩
 ·cases e
def HQ:List PV->Option Ans
 |[.val v,.val u,.val w]=>some ⟨some (isPk 1000 v/\isPk 1000 u/\isRk 1000 w),.val (ze (aO v) (aO u) (AE w)).v,[]⟩
 |_=>none
def D28:Opt:={ perm:=jr 1 [(0,true),(1,true),(2,true),(4,true),(3,false),(5,false),(6,false)] }
theorem HR:am D28.toOrd Tryz.f28 3=true:=by kernel_rfl
theorem f28:FnOk Tryz.prog 28 HQ:=by
 refine FnOk.ofW aj (an (l:=[(76,Fj),(75,HO),(74,HM)]) (own:=[]) (inl:=[]) (by simp [f76,f75,f74]) (by simp)) Tryz.func28 D28 3 HR λargs r e=>?_;unfold HQ at e;split at e
 ·rename_i v u w
  cases e;refine⟨by simp,λhm=>?_⟩;obtain⟨⟨p,rfl,hp⟩,⟨u,rfl,hu⟩,s,b,c,rfl,hb,hc⟩:=hm _ rfl;refine⟨[],aa [(0,.val p.v),(1,.val u.v),(2,.val (.agg ⟨[.bool s,.string b,.string c]⟩))] [] 0 [],Wo trivial ⟨rfl,rfl,rfl,qQ⟩ trivial,?_⟩;have hr:RatS.le 1000 ⟨s,b,c⟩:=⟨hb,hc⟩;have s1:=cj hu hp;have s2:=u0 s1 hr;have i1:isPk 4294967296 u.v/\isPk 4294967296 p.v:=⟨⟨_,rfl,hu.mono (by decide)⟩,_,rfl,hp.mono (by decide)⟩;have i2:isPk 4294967296 (cm u p).v/\isRk 4294967296 (.agg ⟨[.bool s,.string b,.string c]⟩):=⟨⟨_,rfl,s1.mono (by decide)⟩,s,b,c,rfl,Nat.le_trans hb (by decide),Nat.le_trans hc (by decide)⟩;have i3:isPk 4294967296 p.v/\isPk 4294967296 (rV (cm u p) ⟨s,b,c⟩).v:=⟨⟨_,rfl,hp.mono (by decide)⟩,_,rfl,s2.mono (by decide)⟩;have rv:∀p:PtS,aO p.v=p:=λ_=>rfl;obtain⟨Q,hQ⟩:∃Q,Q=ze p u ⟨s,b,c⟩:=⟨_,rfl⟩;have hq:ze (aO p.v) (aO u.v) (AE (.agg ⟨[.bool s,.string b,.string c]⟩))=Q:=hQ.symm;rw [hq];have e:tR (aO p.v) (aO (rV (aO (cm (aO u.v) (aO p.v)).v) (AE (.agg ⟨[.bool s,.string b,.string c]⟩))).v)=Q:=by
   rw [rv,rv,rv,rv];exact hq
  have c6:=fI e;clear hq hQ e;with_unfolding_all refine⟨?_,?_,?_,[some 3],aa [(6,.ptr 0 0 0 0)] [gZ Q 0] 1 [],Wo ⟨qZ ⟨⟨c6.1,rfl⟩,⟨c6.2.1,rfl⟩,⟨c6.2.2.1,rfl⟩,⟨c6.2.2.2.1,rfl⟩,⟨c6.2.2.2.2.1,rfl⟩,⟨c6.2.2.2.2.2,rfl⟩,qQ⟩,qQ⟩ ⟨pP,qQ⟩ trivial,rfl,rfl⟩
  ·exact i1
  ·exact i2
  ·exact i3
 ·cases e
def HS:List PV->Option Ans
 |[.val v]=>some ⟨some (isPk 4294967296 v),.val (.bool (!ah (aO v))),[]⟩
 |_=>none
theorem HT:am {} Tryz.f66 1=true:=by kernel_rfl
theorem f66:FnOk Tryz.prog 66 HS:=by
 refine FnOk.ofW aj (an (l:=[(67,Bg)]) (own:=[]) (inl:=[]) (by simp [f67]) (by simp)) Tryz.func66 {} 1 HT λargs r e=>?_;unfold HS at e;split at e
 ·rename_i v
  cases e;refine⟨by simp,λhm=>?_⟩;obtain⟨p,rfl,hp⟩:=hm _ rfl;refine⟨[],aa [(0,.val p.v)] [] 0 [],Wo trivial ⟨rfl,qQ⟩ trivial,?_⟩;with_unfolding_all exact⟨⟨p,rfl,hp⟩,[],aa [(2,.val (.bool (!ah p)))] [] 0 [],Wo trivial ⟨congrArg (λz=>PV.val (.bool z)) (lH _),qQ⟩ trivial,rfl,rfl⟩
 ·cases e
def tS:List PV->Option Ans
 |[.rs 6 n g,.val (.func (.func 66) ⟨[]⟩ ⟨[]⟩)]=>some ⟨some (isPL 4294967296 n g),.val (.int .i64 (dj (λi=>!ah (ae g i)) n 0)),[]⟩
 |_=>none
theorem C4:FnOk Tryz.prog 83 tS:=by
 refine FnOk.ofW aj (an (l:=[(66,HS)]) (own:=[]) (inl:=[]) (by simp [f66]) (by simp)) Tryz.func83 {} 2 tG λargs r e=>?_;unfold tS at e;split at e
 ·rename_i n g
  cases e;refine⟨by simp,λhm=>?_⟩;obtain⟨hg,hn⟩:=hm _ rfl;refine⟨[],aa [(0,.rs 6 n (λi=>(ae g i).cells)),(1,.val (.func (.func 66) ⟨[]⟩ ⟨[]⟩))] [] 0 [],Wo trivial ⟨⟨rfl,rfl,λi hi=>(hg i hi).1.symm⟩,rfl,qQ⟩ trivial,?_⟩;obtain⟨X,hX⟩:∃X,X=dj (λi=>!ah (ae g i)) n 0:=⟨_,rfl⟩;rw [<-hX];with_unfolding_all refine⟨Nat,λi=>i<=n/\dj (λi=>!ah (ae g i)) (n - i) i=X,λi=>aa [(0,.rs 6 n (λi=>(ae g i).cells)),(1,.val (.func (.func 66) ⟨[]⟩ ⟨[]⟩)),(7,.val (goInt n)),(8,.val (goInt i))] [] 0 [],λi=>n - i,⟨0,[],⟨Nat.zero_le _,hX.symm⟩,Wo trivial ⟨qW,rfl,rfl,rfl,qQ⟩ trivial⟩,λi hi=>?_⟩
  obtain⟨hin,hI⟩:i<=n/\dj (λi=>!ah (ae g i)) (n - i) i=X:=hi;with_unfolding_all refine⟨λh=>?_,λh=>⟨[],aa [(4,.val (.int .i64 X))] [] 0 [],Wo trivial ⟨?_,qQ⟩ trivial,rfl,rfl⟩⟩
  ·have h:=bN h;have e:(i:Int).toNat=i:=Int.toNat_natCast i;have hstep:dj (λi=>!ah (ae g i)) (n - i) i=bif !ah (ae g i) then(i:Int) else dj (λi=>!ah (ae g i)) (n - (i+1)) (i+1):=by
    rw [show n - i=(n - (i+1))+1 by omega];rfl
   with_unfolding_all refine⟨⟨by omega,by omega⟩,⟨ae g (i:Int).toNat,rfl,by rw [e];exact(hg i (by omega)).2⟩,λh'=>⟨[],aa [(4,.val (.int .i64 X))] [] 0 [],Wo trivial ⟨?_,qQ⟩ trivial,rfl,rfl⟩,λh'=>⟨i+1,[],⟨by omega,?_⟩,by show n - (i+1) < n - i;omega,Wo trivial ⟨qW,rfl,rfl,?_,qQ⟩ trivial⟩⟩
   ·have h':(!ah (ae g (i:Int).toNat))=true:=h';rw [e] at h';rw [h',cond_true] at hstep;exact congrArg (λz=>PV.val (.int .i64 z)) (hstep.symm.trans hI)
   ·have h':(!ah (ae g (i:Int).toNat))=false:=h';rw [e] at h';rw [h',cond_false] at hstep;exact hstep.symm.trans hI
   ·show PV.val (.int .i64 (IntKind.i64.wrap ((i:Int)+1)))=PV.val (.int .i64 ((i+1:Nat):Int));rw [wrap64 (by omega) (by omega)];rfl
  ·have h:=dC h;rw [show n - i=0 by omega] at hI;exact congrArg (λz=>PV.val (.int .i64 z)) hI
 ·cases e
def tT:List PV->Option Ans
 |[.rs 6 n g,.val (.func (.func 66) ⟨[]⟩ ⟨[]⟩)]=>some ⟨some (isPL 4294967296 n g),.val (.bool (aD (λi=>!ah (ae g i)) n)),[]⟩
 |_=>none
theorem C5:FnOk Tryz.prog 65 tT:=by
 refine FnOk.ofW aj (an (l:=[(83,tS)]) (own:=[]) (inl:=[]) (by simp [C4]) (by simp)) Tryz.func65 {} 2 tH λargs r e=>?_;unfold tT at e;split at e
 ·rename_i n g
  cases e;refine⟨by simp,λhm=>?_⟩;have hp:=hm _ rfl;refine⟨[],aa [(0,.rs 6 n g),(1,.val (.func (.func 66) ⟨[]⟩ ⟨[]⟩))] [] 0 [],Wo trivial ⟨⟨rfl,rfl,λi hi=>rfl⟩,rfl,qQ⟩ trivial,?_⟩;with_unfolding_all exact⟨hp,[],aa [(4,.val (.bool (aD (λi=>!ah (ae g i)) n)))] [] 0 [],Wo trivial ⟨congrArg (λz=>PV.val (.bool z)) (ef _ _),qQ⟩ trivial,rfl,rfl⟩
 ·cases e
def Gx:List PV->Option Ans
 |[.agg xs,.rs 6 n g]=>some ⟨some (isRg 140737488355328 xs/\isPL 140737488355328 n g),.val (.bool (gF xs n g)),[]⟩
 |_=>none
def D12:Opt:={  }
theorem HU:am D12.toOrd Tryz.f12 2=true:=by kernel_rfl
theorem f12:FnOk Tryz.prog 12 Gx:=by
 refine FnOk.ofW aj (an (l:=[(50,HH),(51,G3)]) (own:=[]) (inl:=[]) (by simp [f50,f51]) (by simp)) Tryz.func12 D12 2 HU λargs r e=>?_;unfold Gx at e;split at e
 ·rename_i xs n g
  cases e;refine⟨by simp,λhm=>?_⟩;obtain⟨⟨h1,hrest⟩,hg⟩:=hm _ rfl;have hx:isRg 140737488355328 xs:=⟨h1,hrest⟩;obtain⟨X,hX⟩:∃X,X=gF xs n g:=⟨_,rfl⟩;rw [<-hX];have e:X=(mJ (bO xs) (bP xs) (gK xs) (pn (gC xs)) (λi=>ae (pg (gC xs) i)) (gL xs)||aD (λi=>bx (ae g i)) n):=hX;clear hX;obtain⟨A,hA⟩:∃A,A=mJ (bO xs) (bP xs) (gK xs) (pn (gC xs)) (λi=>ae (pg (gC xs) i)) (gL xs):=⟨_,rfl⟩;rw [<-hA] at e;generalize bO xs=lo at *
  generalize bP xs=hi at *
  generalize gK xs=k at *
  generalize gC xs=c at *
  generalize gL xs=l at *
  generalize gO xs=o at *
  subst h1;clear hm;refine⟨[],aa [(0,.agg (bq lo hi k c l o)),(1,.rs 6 n g)] [] 0 [],Wo trivial ⟨⟨rfl,rfl,rfl,rfl,rfl,rfl,rfl,rfl,rfl,rfl,rfl,rfl,qW,qW,qQ⟩,qW,qQ⟩ trivial,?_⟩;have v1:mJ lo hi k (pn c) (λi=>ae (pg c i)) l=false->PV.val (.bool (aD (λi=>bx (ae g i)) n))=PV.val (.bool X):=λh=>by rw [e,hA,h];rfl
  have v2:mJ lo hi k (pn c) (λi=>ae (pg c i)) l=true->PV.val (.bool true)=PV.val (.bool X):=λh=>by rw [e,hA,h];rfl
  with_unfolding_all exact⟨hx,λh1=>⟨hg,⟨[],aa [(4,.val (.bool X))] [] 0 [],Wo trivial ⟨v1 h1,qQ⟩ trivial,rfl,rfl⟩⟩,λh1=>⟨[],aa [(4,.val (.bool X))] [] 0 [],Wo trivial ⟨v2 h1,qQ⟩ trivial,rfl,rfl⟩⟩
 ·cases e
def HV:List PV->Option Ans
 |[.agg xs,.rs 6 n g]=>some ⟨some (isRg 140737488355328 xs/\isPL 140737488355328 n g),.val (.bool (rX xs n g)),[]⟩
 |_=>none
def D17:Opt:={  }
theorem HW:am D17.toOrd Tryz.f17 2=true:=by kernel_rfl
theorem f17:FnOk Tryz.prog 17 HV:=by
 refine FnOk.ofW aj (an (l:=[(12,Gx),(58,Dt),(65,tT)]) (own:=[]) (inl:=[]) (by simp [f12,f58,C5]) (by simp)) Tryz.func17 D17 2 HW λargs r e=>?_;unfold HV at e;split at e
 ·rename_i xs n g
  cases e;refine⟨by simp,λhm=>?_⟩;obtain⟨⟨h1,hrest⟩,hg⟩:=hm _ rfl;have hx:isRg 140737488355328 xs:=⟨h1,hrest⟩;obtain⟨X,hX⟩:∃X,X=rX xs n g:=⟨_,rfl⟩;rw [<-hX];have e:X=((!gF xs n g&&(rW xs==0))&&!aD (λi=>!ah (ae g i)) n):=hX;clear hX;have p1:(!gF xs n g)=true->isRg 10000 xs:=λh=>by
   have h:gF xs n g=false:=by simpa using h
   unfold gF at h;rw [Bool.or_eq_false_iff] at h;exact(pH h.1 hx).mono (by decide)
  have p2:(!gF xs n g)=true->isPL 4294967296 n g:=λh=>by
   have h:gF xs n g=false:=by simpa using h
   unfold gF at h;rw [Bool.or_eq_false_iff] at h;exact(AD h.2 hg).mono (by decide)
  have v1:(!gF xs n g)=true->(rW xs==0)=true->PV.val (.bool (!aD (λi=>!ah (ae g i)) n))=PV.val (.bool X):=λh h'=>by rw [e,h,h'];rfl
  have v2:(!gF xs n g)=true->(rW xs==0)=false->PV.val (.bool false)=PV.val (.bool X):=λh h'=>by rw [e,h,h'];rfl
  have v3:(!gF xs n g)=false->PV.val (.bool false)=PV.val (.bool X):=λh=>by rw [e,h];rfl
  clear e;generalize bO xs=lo at *
  generalize bP xs=hi at *
  generalize gK xs=k at *
  generalize gC xs=c at *
  generalize gL xs=l at *
  generalize gO xs=o at *
  subst h1;clear hm;refine⟨[],aa [(0,.agg (bq lo hi k c l o)),(1,.rs 6 n g)] [] 0 [],Wo trivial ⟨⟨rfl,rfl,rfl,rfl,rfl,rfl,rfl,rfl,rfl,rfl,rfl,rfl,qW,qW,qQ⟩,qW,qQ⟩ trivial,?_⟩;with_unfolding_all exact⟨⟨hx,hg⟩,λh1=>⟨p1 h1,λh2=>⟨p2 h1,⟨[],aa [(4,.val (.bool X))] [] 0 [],Wo trivial ⟨v1 h1 h2,qQ⟩ trivial,rfl,rfl⟩⟩,λh2=>⟨[],aa [(4,.val (.bool X))] [] 0 [],Wo trivial ⟨v2 h1 h2,qQ⟩ trivial,rfl,rfl⟩⟩,λh1=>⟨λh=>(nomatch h),λ_=>⟨[],aa [(4,.val (.bool X))] [] 0 [],Wo trivial ⟨v3 h1,qQ⟩ trivial,rfl,rfl⟩⟩⟩
 ·cases e
def HX:List PV->Option Ans
 |[.agg xs,.val v]=>some ⟨some (isRg 10000 xs/\isPk 10000 v),.val (.tuple ⟨[.int .i64 (wI (fO (bO xs) (bP xs) (gK xs) (gC xs) (gL xs) (gO xs) (ar (aO v) (aO v))) (dF (bO xs) (bP xs) (gK xs) (gC xs) (ar (aO v) (aO v)))),.bool (fO (bO xs) (bP xs) (gK xs) (gC xs) (gL xs) (gO xs) (ar (aO v) (aO v))&&!(dF (bO xs) (bP xs) (gK xs) (gC xs) (ar (aO v) (aO v))).isEmpty),.int .i64 (bW (fO (bO xs) (bP xs) (gK xs) (gC xs) (gL xs) (gO xs) (ar (aO v) (aO v))))]⟩),[]⟩
 |_=>none
def D71:Opt:={  }
theorem HY:am D71.toOrd Tryz.f71 2=true:=by kernel_rfl
theorem f71:FnOk Tryz.prog 71 HX:=by
 refine FnOk.ofW aj (an (l:=[(91,Gu)]) (own:=[]) (inl:=[]) (by simp [f91]) (by simp)) Tryz.func71 D71 2 HY λargs r e=>?_;unfold HX at e;split at e
 ·rename_i xs v
  cases e;refine⟨by simp,λhm=>?_⟩;obtain⟨⟨h1,⟨hlo,hhi⟩,hcl,hol⟩,a,rfl,ha⟩:=hm _ rfl;generalize bO xs=lo at *
  generalize bP xs=hi at *
  generalize gK xs=k at *
  generalize gC xs=c at *
  generalize gL xs=l at *
  generalize gO xs=o at *
  subst h1;clear hm;refine⟨[],aa [(0,.agg (bq lo hi k c l o)),(1,.val a.v)] [] 0 [],Wo trivial ⟨⟨rfl,rfl,rfl,rfl,rfl,rfl,rfl,rfl,rfl,rfl,rfl,rfl,qW,qW,qQ⟩,rfl,qQ⟩ trivial,?_⟩;have pre:((lo.le 10000/\hi.le 10000)/\bM 10000 k (λi=>[.rs 6 (pn c i) (pg c i)])/\cQ l (λi=>ag (ow o i)))/\dL 10000 (ar a a):=⟨⟨⟨hlo,hhi⟩,⟨λi hi=>⟨rfl,(hcl.1 i hi).2⟩,hcl.2⟩,λ_ _=>rfl,hol.2⟩,a,a,rfl,ha,ha⟩;obtain⟨OK,hOK⟩:∃OK,OK=fO lo hi k c l o (ar a a):=⟨_,rfl⟩;obtain⟨PC,hPC⟩:∃PC,PC=dF lo hi k c (ar a a):=⟨_,rfl⟩;have e1:fO lo hi k c l o (ar (aO a.v) (aO a.v))=OK:=hOK.symm;have e2:dF lo hi k c (ar (aO a.v) (aO a.v))=PC:=hPC.symm;rw [e1,e2];have e3:fO lo hi k (λi=>[.rs 6 (pn c i) (pg c i)]) l (λi=>ag (ow o i)) (ar a a)=OK:=hOK.symm;have e4:dF lo hi k (λi=>[.rs 6 (pn c i) (pg c i)]) (ar a a)=PC:=hPC.symm;have w1:PV.val (.int .i64 (wI (fO lo hi k (λi=>[.rs 6 (pn c i) (pg c i)]) l (λi=>ag (ow o i)) (ar a a)) (dF lo hi k (λi=>[.rs 6 (pn c i) (pg c i)]) (ar a a))))=PV.val (.int .i64 (wI OK PC)):=by rw [e3,e4]
  have w2:PV.val (.bool (fO lo hi k (λi=>[.rs 6 (pn c i) (pg c i)]) l (λi=>ag (ow o i)) (ar a a)&&!(dF lo hi k (λi=>[.rs 6 (pn c i) (pg c i)]) (ar a a)).isEmpty))=PV.val (.bool (OK&&!PC.isEmpty)):=by rw [e3,e4]
  have w3:PV.val (.int .i64 (bW (fO lo hi k (λi=>[.rs 6 (pn c i) (pg c i)]) l (λi=>ag (ow o i)) (ar a a))))=PV.val (.int .i64 (bW OK)):=by rw [e3]
  clear hOK hPC e1 e2 e3 e4;with_unfolding_all exact⟨pre,[],aa [(4,.val (.int .i64 (wI OK PC))),(5,.val (.bool (OK&&!PC.isEmpty))),(6,.val (.int .i64 (bW OK)))] [] 0 [],Wo trivial ⟨w1,w2,w3,qQ⟩ trivial,rfl,rfl⟩
 ·cases e
def HZ:List PV->Option Ans
 |[.agg xs,.val v]=>some ⟨some (isRg 10000 xs/\isPk 10000 v),.val (.bool (bc (bO xs) (bP xs) (gK xs) (gC xs) (gL xs) (gO xs) (aO v) (aO v))),[]⟩
 |_=>none
def D26:Opt:={  }
theorem H0:am D26.toOrd Tryz.f26 2=true:=by kernel_rfl
theorem f26:FnOk Tryz.prog 26 HZ:=by
 refine FnOk.ofW aj (an (l:=[(71,HX)]) (own:=[]) (inl:=[]) (by simp [f71]) (by simp)) Tryz.func26 D26 2 H0 λargs r e=>?_;unfold HZ at e;split at e
 ·rename_i xs v
  cases e;refine⟨by simp,λhm=>?_⟩;obtain⟨⟨h1,hrest⟩,a,rfl,ha⟩:=hm _ rfl;have hx:isRg 10000 xs:=⟨h1,hrest⟩;have pa:isPk 10000 a.v:=⟨a,rfl,ha⟩;generalize bO xs=lo at *
  generalize bP xs=hi at *
  generalize gK xs=k at *
  generalize gC xs=c at *
  generalize gL xs=l at *
  generalize gO xs=o at *
  subst h1;clear hm;refine⟨[],aa [(0,.agg (bq lo hi k c l o)),(1,.val a.v)] [] 0 [],Wo trivial ⟨⟨rfl,rfl,rfl,rfl,rfl,rfl,rfl,rfl,rfl,rfl,rfl,rfl,qW,qW,qQ⟩,rfl,qQ⟩ trivial,?_⟩;obtain⟨X,hX⟩:∃X,X=bc lo hi k c l o a a:=⟨_,rfl⟩;have hx2:bc lo hi k c l o (aO a.v) (aO a.v)=X:=hX.symm;rw [hx2];have v1:(bW (fO lo hi k c l o (ar a a))==0)=true->PV.val (.bool (!(fO lo hi k c l o (ar a a)&&!(dF lo hi k c (ar a a)).isEmpty)))=PV.val (.bool X):=λh=>by
   have h:fO lo hi k c l o (ar a a)=true:=by
    cases hb:fO lo hi k c l o (ar a a) with
    |true=>rfl
    |false =>
     rw [hb] at h;cases h
   rw [hX,bc,h,Bool.true_and,Bool.true_and,Bool.not_not]
  have v2:(bW (fO lo hi k c l o (ar a a))==0)=false->PV.val (.bool false)=PV.val (.bool X):=λh=>by
   have h:fO lo hi k c l o (ar a a)=false:=by
    cases hb:fO lo hi k c l o (ar a a) with
    |false=>rfl
    |true =>
     rw [hb] at h;cases h
   rw [hX,bc,h,Bool.false_and]
  with_unfolding_all exact⟨⟨hx,pa⟩,λh1=>⟨[],aa [(4,.val (.bool X))] [] 0 [],Wo trivial ⟨v1 h1,qQ⟩ trivial,rfl,rfl⟩,λh1=>⟨[],aa [(4,.val (.bool X))] [] 0 [],Wo trivial ⟨v2 h1,qQ⟩ trivial,rfl,rfl⟩⟩
 ·cases e
end Go.Proofs
namespace Go.Num
theorem fp {c v:Rat} (h:0 < c*v) (hv:0 < v):0 < c:=by
 rcases Rat.le_total (a:=c) (b:=0) with h1|h1
 ·have:=Rat.mul_nonneg (show 0 <= -c by grind) (show 0<=v by grind)
  grind
 ·by_cases e:c=0
  ·subst e;grind
  ·grind
def wY (a b c x y z:Rat):Rat:=(b - a)*(z - x) - (y - x)*(c - a)
def dt (X Y:Nat->Rat) (i j k:Nat):Rat:=wY (X i) (X j) (X k) (Y i) (Y j) (Y k)
theorem tU {u1 u2 v1 v2 w1 w2:Rat} (hu:0 < u1\/(u1=0/\0 < u2)) (hv:0 < v1\/(v1=0/\0 < v2)) (hw:0 < w1\/(w1=0/\0 < w2)) (h1:0 < u1*v2 - u2*v1) (h2:0 < v1*w2 - v2*w1):0 < u1*w2 - u2*w1:=by
 have hv1:0 < v1:=by
  rcases hv with h|⟨h,k⟩
  ·exact h
  ·subst h;rcases hw with h3|⟨h3,_⟩
   ·have:=Rat.mul_pos k h3
    grind
   ·subst h3;grind
 have hu1:0 < u1:=by
  rcases hu with h|⟨h,k⟩
  ·exact h
  ·subst h;have:=Rat.mul_pos k hv1
   grind
 have hw1:0<=w1:=by
  rcases hw with h|⟨h,_⟩
  ·grind
  ·grind
 have k1:=Rat.mul_nonneg (Rat.le_of_lt h1) hw1;have k2:=Rat.mul_pos h2 hu1;refine fp (v:=v1) ?_ hv1;have e:(u1*w2 - u2*w1)*v1=(u1*v2 - u2*v1)*w1+(v1*w2 - v2*w1)*u1:=by grind
 rw [e]
 grind
theorem FZ (X Y:Nat->Rat) (a b c d:Nat):dt X Y a b d*dt X Y 0 b c=dt X Y a b c*dt X Y 0 b d+dt X Y 0 a b*dt X Y b c d:=by
 unfold dt wY;generalize X 0=x0,X a=xa,X b=xb,X c=xc,X d=xd,Y 0=y0,Y a=ya,Y b=yb,Y c=yc,Y d=yd
 grind
theorem F0 (X Y:Nat->Rat) (a b c d:Nat):dt X Y a c d*dt X Y 0 b c=dt X Y a b c*dt X Y 0 c d+dt X Y 0 a c*dt X Y b c d:=by
 unfold dt wY;generalize X 0=x0,X a=xa,X b=xb,X c=xc,X d=xd,Y 0=y0,Y a=ya,Y b=yb,Y c=yc,Y d=yd
 grind
theorem yA (X Y:Nat->Rat) (i j k:Nat):dt X Y j k i=dt X Y i j k:=by
 unfold dt wY;generalize X i=xa,X j=xb,X k=xc,Y i=ya,Y j=yb,Y k=yc
 grind
theorem tX {X Y:Nat->Rat} {n:Nat} (h0:∀i,0 < i->i < n->X 0 < X i\/(X i=X 0/\Y 0 < Y i)) (h1:∀i,i+2 < n->0 < dt X Y i (i+1) (i+2)) (h2:∀i,0 < i->i+1 < n->0 < dt X Y 0 i (i+1)) :
  ∀i j k,i < j->j < k->k < n->0 < dt X Y i j k:=by
 have hH:∀i,0 < i->i < n->0 < X i - X 0\/(X i - X 0=0/\0 < Y i - Y 0):=λi a b=>by
  rcases h0 i a b with h|⟨h,k⟩
  ·exact .inl (by grind)
  ·exact .inr ⟨by grind,by grind⟩
 have fan:∀d i,0 < i->i+1+d < n->0 < dt X Y 0 i (i+1+d):=λd=>by
  induction d with
  |zero=>exactλi a b=>h2 i a b
  |succ d ih =>
   intro i a b;have k1:=ih i a (by omega);have k2:=h2 (i+1+d) (by omega) (by omega);exact tU (hH i a (by omega)) (hH (i+1+d) (by omega) (by omega)) (hH (i+1+d+1) (by omega) (by omega)) k1 k2
 have fan':∀i j,0 < i->i < j->j < n->0 < dt X Y 0 i j:=λi j a b c=>by
  have:=fan (j - (i+1)) i a (by omega)
  rwa [show i+1+(j - (i+1))=j by omega] at this
 have span:∀m i j k,0 < i->i < j->j < k->k < n->k - i<=m->0 < dt X Y i j k:=λm=>by
  induction m with
  |zero=>intro i j k _ a b _ d;omega
  |succ m ih =>
   intro i j k hi a b c d;by_cases e1:j+1=k
   ·subst e1;by_cases e2:i+1=j
    ·subst e2;exact h1 i (by omega)
    ·have t1:=ih i (i+1) j hi (by omega) (by omega) (by omega) (by omega);have t2:=ih (i+1) j (j+1) (by omega) (by omega) (by omega) (by omega) (by omega);refine fp (v:=dt X Y 0 (i+1) j) ?_ (fan' (i+1) j (by omega) (by omega) (by omega));rw [F0];have s1:=Rat.mul_pos t1 (fan' j (j+1) (by omega) (by omega) (by omega));have s2:=Rat.mul_pos (fan' i j hi a (by omega)) t2
     grind
   ·have t1:=ih i j (k - 1) hi a (by omega) (by omega) (by omega);have t2:=ih j (k - 1) k (by omega) (by omega) (by omega) (by omega) (by omega);refine fp (v:=dt X Y 0 j (k - 1)) ?_ (fan' j (k - 1) (by omega) (by omega) (by omega));rw [FZ];have s1:=Rat.mul_pos t1 (fan' j k (by omega) b c);have s2:=Rat.mul_pos (fan' i j hi a (by omega)) t2
    grind
 intro i j k a b c;rcases Nat.eq_zero_or_pos i with rfl|hi
 ·exact fan' j k a b c
 ·exact span (k - i) i j k hi a b c (Nat.le_refl _)
theorem rY {X Y:Nat->Rat} {n:Nat} (hn:3<=n) (h:∀i j k,i < j->j < k->k < n->0 < dt X Y i j k) {e i:Nat} (he:e < n) (hi:i < n) (h1:i≠e) (h2:i≠(e+1)%n):0 < dt X Y e ((e+1)%n) i:=by
 by_cases hl:e+1 < n
 ·rw [Nat.mod_eq_of_lt hl] at h2 ⊢;rcases Nat.lt_or_ge i e with h3|h3
  ·rw [yA];exact h i e (e+1) h3 (by omega) hl
  ·exact h e (e+1) i (by omega) (by omega) hi
 ·have e1:e+1=n:=by omega
  rw [e1,Nat.mod_self] at h2 ⊢;rw [<-yA];exact h 0 i e (by omega) (by omega) he
theorem fJ {a:Rat}:decide (ao a 0<=0)=false↔0 < a:=by
 rw [decide_eq_false_iff_not];unfold ao;split
 ·rename_i h
  exact⟨λk=>absurd (show(-1:Int)<=0 by decide) k,λk=>by grind⟩
 ·split
  ·rename_i h
   exact⟨λ_=>h,λ_=>by decide⟩
  ·rename_i h
   exact⟨λk=>absurd (show(0:Int)<=0 by decide) k,λk=>absurd k h⟩
theorem ek {a:Rat}:decide (ao a 0 > 0)=true↔0 < a:=by
 rw [decide_eq_true_iff];unfold ao;split
 ·rename_i h
  exact⟨λk=>absurd k (by decide),λk=>by grind⟩
 ·split
  ·rename_i h
   exact⟨λ_=>h,λ_=>by decide⟩
  ·rename_i h
   exact⟨λk=>absurd k (by decide),λk=>absurd k h⟩
theorem kA (p:Nat->PtS) (i j k:Nat):jW (p i) (p j) (p k)=ao (dt (λi=>(p i).X) (λi=>(p i).Y) i j k) 0:=by
 unfold jW cF cm;rw [i5,i6,i5,i6];rfl
theorem rZ (p:RatS):Dr p p=true:=by
 have h:∀x:ByteArray,(x==x)=true:=λ⟨x⟩=>by
  show(x==x)=true;exact beq_self_eq_true x
 unfold Dr;rw [beq_self_eq_true,h,h];rfl
theorem ib (p:PtS):bE p p=true:=by
 unfold bE;rw [rZ,rZ];rfl
theorem u7 {p u:PtS} (h:bg p u < 0):p.X < u.X\/(u.X=p.X/\p.Y < u.Y):=by
 unfold bg at h;split at h
 ·rename_i h0
  unfold ao at h h0;right;split at h
  ·rename_i h1
   refine⟨?_,h1⟩;split at h0
   ·cases h0
   ·split at h0
    ·cases h0
    ·grind
  ·split at h
   ·exact absurd h (by decide)
   ·exact absurd h (by decide)
 ·unfold ao at h;split at h
  ·rename_i h1
   exact .inl h1
  ·split at h
   ·exact absurd h (by decide)
   ·exact absurd h (by decide)
theorem AF {p u:PtS} (h:p.X < u.X\/(u.X=p.X/\p.Y < u.Y)):¬bg u p<=0:=by
 unfold bg ao;rcases h with h|⟨h,k⟩
 ·have h1:¬u.X < p.X:=by grind
  rw [if_neg h1,if_pos h,if_neg (show ¬(1:Int)=0 by decide)];decide
 ·have h1:¬u.Y < p.Y:=by grind
  rw [h,if_neg Rat.lt_irrefl,if_neg Rat.lt_irrefl,if_pos rfl,if_neg h1,if_pos k];decide
theorem jo {n:Nat} {p:Nat->PtS} (h:aZ n p=0):bh n p=0:=by
 unfold aZ at h;unfold bh;cases h1:(decide (n < 3)||decide (64 < n)) with
 |true=>rw [h1] at h;cases h
 |false =>
  rw [h1,cond_false] at h;rw [cond_false];cases h2:aD (λi=>!ah (p i)) n with
  |true=>rw [h2] at h;cases h
  |false =>
   rw [h2,cond_false] at h;rw [cond_false];cases h3:aD (wX p) (n - 1) with
   |true=>rw [h3] at h;cases h
   |false =>
    rw [h3,cond_false] at h;cases h4:aD (dy n p) n with
    |true=>rw [h4] at h;cases h
    |false =>
     have hn:3<=n:=by
      rw [Bool.or_eq_false_iff,decide_eq_false_iff_not] at h1;omega
     have k0:∀i,0 < i->i < n->(p 0).X < (p i).X\/((p i).X=(p 0).X/\(p 0).Y < (p i).Y):=λi a b=>by
      have:=(ay.1 h3) (i - 1) (by omega);unfold wX at this;rw [decide_eq_false_iff_not,show 1+(i - 1)=i by omega] at this;exact u7 (by omega)
     have k1:∀i,i+2 < n->0 < dt (λi=>(p i).X) (λi=>(p i).Y) i (i+1) (i+2):=λi a=>by
      have:=(ay.1 h4) i (by omega);unfold dy at this;rw [Bool.or_eq_false_iff,Nat.mod_eq_of_lt (by omega),Nat.mod_eq_of_lt (by omega),kA] at this;exact fJ.1 this.1
     have k2:∀i,0 < i->i+1 < n->0 < dt (λi=>(p i).X) (λi=>(p i).Y) 0 i (i+1):=λi a b=>by
      have:=(ay.1 h4) i (by omega);unfold dy at this;rw [Bool.or_eq_false_iff,decide_eq_true a,decide_eq_true b,Bool.true_and,Bool.true_and,kA p 0 i (i+1)] at this;exact fJ.1 this.2
     have hall:=tX (X:=λi=>(p i).X) (Y:=λi=>(p i).Y) (n:=n) k0 k1 k2;rw [ay.2 λi hi=>?_,cond_false,ay.2 λe he=>ay.2 λi hi=>?_]
     ·rfl
     ·unfold dw;by_cases e1:i=e
      ·rw [e1,ib];rfl
      ·by_cases e2:i=(e+1)%n
       ·rw [<-e2,ib,Bool.not_true,Bool.and_false];rfl
       ·rw [kA p e ((e+1)%n) i,fJ.2 (rY hn hall he hi e1 e2),Bool.and_false]
     ·unfold mZ;exact decide_eq_false (AF (k0 (1+i) (by omega) (by omega)))
theorem kX {r r':Nat->Int}:∀{k i:Nat},(∀j,i<=j->j < i+k->r j=0->r' j=0)->bQ r k i=0->bQ r' k i=0
 |0,_,_,_=>rfl
 |k+1,i,h,e=>by
  unfold bQ at e ⊢;cases h0:(r i==0) with
  |true =>
   rw [h0,cond_true] at e;rw [h i (Nat.le_refl _) (by omega) (eq_of_beq h0)];exact kX (λj a b=>h j (by omega) (by omega)) e
  |false =>
   rw [h0,cond_false] at e;rw [e] at h0;cases h0
theorem iG {lo hi:PtS} {k:Nat} {n:Nat->Nat} {r r':Nat->Int} {l:Nat} {q:Nat->Int×Int×Int} (h:∀j,j < k->r j=0->r' j=0) (e:c7 lo hi k n r l q=0):c7 lo hi k n r' l q=0:=by
 unfold c7 at e ⊢;cases h1:(!ah lo||!ah hi) with
 |true=>rw [h1] at e;cases e
 |false =>
  rw [h1,cond_false] at e;cases h2:decide (32 < k) with
  |true=>rw [h2] at e;cases e
  |false =>
   rw [h2,cond_false] at e;have hz:bQ r k 0=0:=by
    cases h3:(bQ r k 0==0) with
    |true=>exact eq_of_beq h3
    |false=>rw [h3] at e;exact e
   rw [hz] at e;rw [kX (λj _ b=>h j (by omega)) hz];exact e
theorem AG {xs:List PV} (h:rW xs=0):bT (bO xs) (bP xs) (gK xs) (pn (gC xs)) (λi=>ae (pg (gC xs) i)) (gL xs) (ow (gO xs))=0:=by
 rw [tQ];exact iG (λj _ hj=>jo hj) h
def Hit (n:Nat) (A B:Nat->Rat):Prop:=∃t:Rat,0 < t/\t < 1/\∀e,e < n->0 < A e+(B e - A e)*t
theorem Hit.symm {n:Nat} {A B:Nat->Rat} (h:Hit n A B):Hit n B A:=by
 obtain⟨t,h1,h2,h3⟩:=h;refine⟨1 - t,by grind,by grind,λe he=>?_⟩;have:=h3 e he
 grind
theorem yB {A B:Rat} (h:0 < A):∃t:Rat,0 < t/\t < 1/\∀s:Rat,0 < s->s<=t->0 < A+(B - A)*s:=by
 by_cases hB:0<=B
 ·refine⟨1 / 2,by grind,by grind,λs h1 h2=>?_⟩;have k1:=Rat.mul_nonneg hB (Rat.le_of_lt h1);have k2:=Rat.mul_pos h (show 0 < 1 - s by grind)
  grind
 ·have hd:0 < A - B:=by grind
  have hi:0 < (A - B)⁻¹:=Rat.inv_pos.2 hd;have e:(A - B)*(A - B)⁻¹ = 1:=Rat.mul_inv_cancel _ (by grind);have k0:=Rat.mul_pos h hi;have k1:A*(A - B)⁻¹ < 1:=by
   have:=Rat.mul_pos (show 0 < -B by grind) hi
   grind
  refine⟨A*(A - B)⁻¹*(1 / 2),by grind,by grind,λs h1 h2=>?_⟩;have k2:=Rat.mul_nonneg (Rat.le_of_lt hd) (show 0<=A*(A - B)⁻¹*(1 / 2) - s by grind);have k3:(A - B)*(A*(A - B)⁻¹*(1 / 2) - s)=A*(1 / 2) - (A - B)*s:=by
   have:(A - B)*(A*(A - B)⁻¹*(1 / 2))=A*(1 / 2)*((A - B)*(A - B)⁻¹):=by grind
   grind
  grind
theorem r5 {A B:Nat->Rat}:∀{n:Nat},(∀e,e < n->0 < A e)->∃t:Rat,0 < t/\t < 1/\∀e,e < n->∀s:Rat,0 < s->s<=t->0 < A e+(B e - A e)*s
 |0,_=>⟨1 / 2,by grind,by grind,λe he=>absurd he (Nat.not_lt_zero e)⟩
 |n+1,h=>by
  obtain⟨t,h1,h2,h3⟩:=r5 (A:=A) (B:=B) (n:=n) λe he=>h e (by omega);obtain⟨u,k1,k2,k3⟩:=yB (B:=B n) (h n (by omega));refine⟨if t<=u then t else u,by split<;>assumption,by split<;>assumption,λe he s hs hst=>?_⟩;by_cases hen:e=n
  ·subst hen;exact k3 s hs (by split at hst<;>grind)
  ·exact h3 e (by omega) s hs (by split at hst<;>grind)
theorem Hit.near {n:Nat} {A B:Nat->Rat} (h:∀e,e < n->0 < A e):Hit n A B:=by
 obtain⟨t,h1,h2,h3⟩:=r5 (A:=A) (B:=B) h;exact⟨t,h1,h2,λe he=>h3 e he t h1 Rat.le_refl⟩
theorem Hit.part {n:Nat} {A B C:Nat->Rat} {q:Rat} (h:¬Hit n A B) (h0:0<=q) (h1:q<=1) (hC:∀e,e < n->C e=A e+(B e - A e)*q):¬Hit n A C:=by
 rintro ⟨t,k0,k1,k2⟩;refine h ?_;by_cases hq:q=0
 ·refine Hit.near λe he=>?_;have:=k2 e he;rw [hC e he,hq] at this
  grind
 ·have hq':0 < q:=by grind
  refine⟨q*t,Rat.mul_pos hq' k0,?_,λe he=>?_⟩
  ·have:=Rat.mul_pos hq' (show 0 < 1 - t by grind)
   grind
  ·have:=k2 e he;rw [hC e he] at this
   grind
theorem tY {x y:Rat} {s:Rat×Rat} (h:gD x y s=none) {t:Rat} (h0:0 < t) (h1:t < 1):¬0 < x+(y - x)*t:=by
 unfold gD at h;cases c1:decide (ao x 0 > 0) with
 |true =>
  rw [c1] at h;cases c2:decide (ao y 0 > 0) with
  |true=>rw [c2] at h;cases h
  |false=>rw [c2] at h;cases h
 |false =>
  cases c2:decide (ao y 0 > 0) with
  |true=>rw [c1,c2] at h;cases h
  |false =>
   have e1:¬0 < x:=λk=>by rw [ek.2 k] at c1;cases c1
   have e2:¬0 < y:=λk=>by rw [ek.2 k] at c2;cases c2
   have k1:=Rat.mul_nonneg (show 0 <= -x by grind) (show 0<=1 - t by grind);have k2:=Rat.mul_nonneg (show 0 <= -y by grind) (Rat.le_of_lt h0)
   grind
theorem j0 {a b:Rat}:decide (ao a b > 0)=true↔b < a:=by
 rw [decide_eq_true_iff];unfold ao;split
 ·rename_i h
  exact⟨λk=>absurd k (by decide),λk=>by grind⟩
 ·split
  ·rename_i h
   exact⟨λ_=>h,λ_=>by decide⟩
  ·rename_i h
   exact⟨λk=>absurd k (by decide),λk=>absurd k h⟩
theorem f8 {a b:Rat}:decide (ao a b < 0)=true↔a < b:=by
 rw [decide_eq_true_iff];unfold ao;split
 ·rename_i h
  exact⟨λ_=>h,λ_=>by decide⟩
 ·split
  ·rename_i h h2
   exact⟨λk=>absurd k (by decide),λk=>absurd k h⟩
  ·rename_i h h2
   exact⟨λk=>absurd k (by decide),λk=>absurd k h⟩
theorem r6 {x y t:Rat} (h:0 < x - y):t < x / (x - y)↔0 < x+(y - x)*t:=by
 have hi:0 < (x - y)⁻¹:=Rat.inv_pos.2 h;have e:(x - y)*(x - y)⁻¹ = 1:=Rat.mul_inv_cancel _ (by grind);rw [Rat.div_def];constructor
 ·intro k;have:=Rat.mul_pos (show 0 < x*(x - y)⁻¹ - t by grind) h;have e2:(x*(x - y)⁻¹ - t)*(x - y)=x*((x - y)*(x - y)⁻¹) - t*(x - y):=by grind
  rw [e2,e] at this
  grind
 ·intro k;have:=Rat.mul_pos k hi;have e2:(x+(y - x)*t)*(x - y)⁻¹ = x*(x - y)⁻¹ - t*((x - y)*(x - y)⁻¹):=by grind
  rw [e2,e] at this
  grind
theorem r7 {x y t:Rat} (h:x - y < 0):x / (x - y) < t↔0 < x+(y - x)*t:=by
 have hd:0 < y - x:=by grind
 have hi:0 < (y - x)⁻¹:=Rat.inv_pos.2 hd;have e:(y - x)*(y - x)⁻¹ = 1:=Rat.mul_inv_cancel _ (by grind);have e0:x / (x - y) = -x*(y - x)⁻¹:=by
  rw [Rat.div_def];have n1:(x - y)*(x - y)⁻¹ = 1:=Rat.mul_inv_cancel _ (by grind);have:(x - y)⁻¹ = -(y - x)⁻¹:=by
   have k:(x - y)⁻¹*((y - x)*(y - x)⁻¹)=(x - y)⁻¹:=by rw [e,Rat.mul_one]
   have k2:(x - y)⁻¹*((y - x)*(y - x)⁻¹) = -((x - y)*(x - y)⁻¹)*(y - x)⁻¹:=by grind
   rw [n1] at k2
   grind
  rw [this]
  grind
 rw [e0];constructor
 ·intro k;have:=Rat.mul_pos (show 0 < t - -x*(y - x)⁻¹ by grind) hd;have e2:(t - -x*(y - x)⁻¹)*(y - x)=t*(y - x)+x*((y - x)*(y - x)⁻¹):=by grind
  rw [e2,e] at this
  grind
 ·intro k;have:=Rat.mul_pos k hi;have e2:(x+(y - x)*t)*(y - x)⁻¹ = x*(y - x)⁻¹+t*((y - x)*(y - x)⁻¹):=by grind
  rw [e2,e] at this
  grind
theorem mK {x y:Rat} {s s':Rat×Rat} (h:gD x y s=some s'):(s.1<=s'.1/\s'.2<=s.2)/\∀t:Rat,0 < t->t < 1->(s'.1 < t/\t < s'.2↔(s.1 < t/\t < s.2)/\0 < x+(y - x)*t):=by
 unfold gD at h;cases c1:decide (ao x 0 > 0) with
 |true =>
  have e1:=ek.1 c1;rw [c1] at h;cases c2:decide (ao y 0 > 0) with
  |true =>
   have e2:=ek.1 c2;rw [c2] at h;cases h;refine⟨⟨Rat.le_refl,Rat.le_refl⟩,λt h0 h1=>⟨λk=>⟨k,?_⟩,λk=>k.1⟩⟩;have k1:=Rat.mul_pos e1 (show 0 < 1 - t by grind);have k2:=Rat.mul_pos e2 h0
   grind
  |false =>
   have e2:¬0 < y:=λk=>by rw [ek.2 k] at c2;cases c2
   rw [c2] at h;have hl:=λt=>r6 (x:=x) (y:=y) (t:=t) (by grind);cases c3:decide (ao (x / (x - y)) s.2 < 0) with
   |true =>
    have e3:=f8.1 c3;rw [c3] at h;cases h;refine⟨⟨Rat.le_refl,Rat.le_of_lt e3⟩,λt h0 h1=>⟨λk=>⟨⟨k.1,?_⟩,(hl t).1 k.2⟩,λk=>⟨k.1.1,(hl t).2 k.2⟩⟩⟩;have:t < x / (x - y):=k.2
    grind
   |false =>
    have e3:¬x / (x - y) < s.2:=λk=>by rw [f8.2 k] at c3;cases c3
    rw [c3] at h;cases h;refine⟨⟨Rat.le_refl,Rat.le_refl⟩,λt h0 h1=>⟨λk=>⟨k,(hl t).1 ?_⟩,λk=>k.1⟩⟩;have:t < s.2:=k.2
    grind
 |false =>
  have e1:¬0 < x:=λk=>by rw [ek.2 k] at c1;cases c1
  rw [c1] at h;cases c2:decide (ao y 0 > 0) with
  |false=>rw [c2] at h;cases h
  |true =>
   have e2:=ek.1 c2;rw [c2] at h;have hl:=λt=>r7 (x:=x) (y:=y) (t:=t) (by grind);cases c3:decide (ao (x / (x - y)) s.1 > 0) with
   |true =>
    have e3:=j0.1 c3;rw [c3] at h;cases h;refine⟨⟨Rat.le_of_lt e3,Rat.le_refl⟩,λt h0 h1=>⟨λk=>⟨⟨?_,k.2⟩,(hl t).1 k.1⟩,λk=>⟨(hl t).2 k.2,k.1.2⟩⟩⟩;have:x / (x - y) < t:=k.1
    grind
   |false =>
    have e3:¬s.1 < x / (x - y):=λk=>by rw [j0.2 k] at c3;cases c3
    rw [c3] at h;cases h;refine⟨⟨Rat.le_refl,Rat.le_refl⟩,λt h0 h1=>⟨λk=>⟨k,(hl t).1 ?_⟩,λk=>k.1⟩⟩;have:s.1 < t:=k.1
    grind
def fu (n:Nat) (p:Nat->PtS) (a:PtS) (e:Nat):Rat:=pA (p e) (p ((e+1)%n)) a
theorem mL {n:Nat} {p:Nat->PtS} {a b:PtS}:∀{k e:Nat} {s:Rat×Rat},dx n p a b k e s=none->∀t:Rat,0 < t->t < 1->¬((s.1 < t/\t < s.2)/\∀i,e<=i->i < e+k->0 < fu n p a i+(fu n p b i - fu n p a i)*t)
 |0,_,_,h=>by cases h
 |k+1,e,s,h=>by
  intro t h0 h1 ⟨hs,hg⟩;unfold dx at h;cases hst:gD (pA (p e) (p ((e+1)%n)) a) (pA (p e) (p ((e+1)%n)) b) s with
  |none=>exact tY hst h0 h1 (hg e (Nat.le_refl _) (by omega))
  |some s' =>
   rw [hst] at h;exact mL h t h0 h1 ⟨((mK hst).2 t h0 h1).2 ⟨hs,hg e (Nat.le_refl _) (by omega)⟩,λi a b=>hg i (by omega) (by omega)⟩
theorem mM {n:Nat} {p:Nat->PtS} {a b:PtS}:∀{k e:Nat} {s s':Rat×Rat},dx n p a b k e s=some s'->(s.1<=s'.1/\s'.2<=s.2)/\∀t:Rat,0 < t->t < 1->(s'.1 < t/\t < s'.2↔(s.1 < t/\t < s.2)/\∀i,e<=i->i < e+k->0 < fu n p a i+(fu n p b i - fu n p a i)*t)
 |0,_,_,_,h=>by
  cases h;exact⟨⟨Rat.le_refl,Rat.le_refl⟩,λt _ _=>⟨λk=>⟨k,λi a b=>by omega⟩,λk=>k.1⟩⟩
 |k+1,e,s,s',h=>by
  unfold dx at h;cases hst:gD (pA (p e) (p ((e+1)%n)) a) (pA (p e) (p ((e+1)%n)) b) s with
  |none=>rw [hst] at h;cases h
  |some s1 =>
   rw [hst] at h;obtain⟨k1,k2⟩:=mK hst;obtain⟨k3,k4⟩:=mM h;refine⟨⟨Rat.le_trans k1.1 k3.1,Rat.le_trans k3.2 k1.2⟩,λt h0 h1=>?_⟩;rw [k4 t h0 h1,k2 t h0 h1];constructor
   ·rintro ⟨⟨u,v⟩,w⟩;refine⟨u,λi x y=>?_⟩;by_cases hi:i=e
    ·subst hi;exact v
    ·exact w i (by omega) (by omega)
   ·rintro ⟨u,w⟩;exact⟨⟨u,w e (Nat.le_refl _) (by omega)⟩,λi x y=>w i (by omega) (by omega)⟩
theorem wM {n:Nat} {p:Nat->PtS} {a b:PtS} (hB:gE n p a b=false):db n p a b=none↔¬Hit n (fu n p a) (fu n p b):=by
 unfold db;rw [hB,cond_false,Rat.zero_mkRat,show mkRat 1 1=(1:Rat) by rfl];cases hF:dx n p a b n 0 (0,1) with
 |none =>
  refine⟨λ_=>?_,λ_=>rfl⟩;rintro ⟨t,h0,h1,h2⟩;exact mL hF t h0 h1 ⟨⟨h0,h1⟩,λi _ hi=>h2 i (by omega)⟩
 |some s =>
  obtain⟨⟨k1,k2⟩,k3⟩:=mM hF;have k1:0<=s.1:=k1;have k2:s.2<=1:=k2;cases hc:decide (ao s.1 s.2>=0) with
  |true =>
   refine⟨λ_=>?_,λ_=>by simp only [Option.bind_some,hc,cond_true]⟩;rintro ⟨t,h0,h1,h2⟩;have:=(k3 t h0 h1).2 ⟨⟨h0,h1⟩,λi _ hi=>h2 i (by omega)⟩;have hlt:s.1 < s.2:=by grind
   have hc:ao s.1 s.2>=0:=of_decide_eq_true hc;unfold ao at hc;rw [if_pos hlt] at hc;exact absurd hc (by decide)
  |false =>
   have hlt:s.1 < s.2:=by
    have hc:¬ao s.1 s.2>=0:=of_decide_eq_false hc;unfold ao at hc;split at hc
    ·rename_i h
     exact h
    ·split at hc
     ·exact absurd (show(1:Int)>=0 by decide) hc
     ·exact absurd (show(0:Int)>=0 by decide) hc
   constructor
   ·intro h;simp only [Option.bind_some,hc,cond_false] at h;cases h
   ·intro h;refine absurd ?_ h;have m0:0 < (s.1+s.2)*(1 / 2):=by grind
    have m1:(s.1+s.2)*(1 / 2) < 1:=by grind
    exact⟨(s.1+s.2)*(1 / 2),m0,m1,λe he=>((k3 _ m0 m1).1 ⟨by grind,by grind⟩).2 e (Nat.zero_le _) (by omega)⟩
theorem C6 {n:Nat} {p:Nat->PtS} {a b c:PtS} {q:Rat} (hx:c.X=a.X+(b.X - a.X)*q) (hy:c.Y=a.Y+(b.Y - a.Y)*q) (e:Nat):fu n p c e=fu n p a e+(fu n p b e - fu n p a e)*q:=by
 unfold fu pA cF cm;simp only [i5,i6];rw [hx,hy]
 grind
theorem AH {i:Nat} {lo hi a b c:PtS} {q:Rat} (hx:c.X=a.X+(b.X - a.X)*q) (hy:c.Y=a.Y+(b.Y - a.Y)*q):aL i lo hi c=aL i lo hi a+(aL i lo hi b - aL i lo hi a)*q:=by
 unfold aL;split
 ·rw [hx];grind
 ·rw [hx];grind
 ·rw [hy];grind
 ·rw [hy];grind
structure SeeM (lo hi:PtS) (k:Nat) (c:Nat->List PV) (a b:PtS):Prop where
 inA:∀i,i < 4->aL i lo hi a<=0
 inB:∀i,i < 4->aL i lo hi b<=0
 clear:∀i,i < k->¬Hit (pn c i) (fu (pn c i) (ae (pg c i)) a) (fu (pn c i) (ae (pg c i)) b)
theorem SeeM.symm {lo hi:PtS} {k:Nat} {c:Nat->List PV} {a b:PtS} (h:SeeM lo hi k c a b):SeeM lo hi k c b a :=
 ⟨h.inB,h.inA,λi hi k=>h.clear i hi k.symm⟩
theorem SeeM.part {lo hi:PtS} {k:Nat} {c:Nat->List PV} {a b d:PtS} (h:SeeM lo hi k c a b) {q:Rat} (h0:0<=q) (h1:q<=1) (hx:d.X=a.X+(b.X - a.X)*q) (hy:d.Y=a.Y+(b.Y - a.Y)*q):SeeM lo hi k c a d:=by
 refine⟨h.inA,λi h4=>?_,λi hi=>Hit.part (h.clear i hi) h0 h1 λe _=>C6 hx hy e⟩;rw [AH hx hy];have k1:=h.inA i h4;have k2:=h.inB i h4;have k3:=Rat.mul_nonneg (show 0 <= -aL i lo hi a by grind) (show 0<=1 - q by grind);have k4:=Rat.mul_nonneg (show 0 <= -aL i lo hi b by grind) h0
 grind
theorem SeeM.self {lo hi:PtS} {k:Nat} {c:Nat->List PV} {a b:PtS} (h:SeeM lo hi k c a b):SeeM lo hi k c a a :=
 h.part (q:=0) Rat.le_refl (by grind) (by grind) (by grind)
theorem mN {lo hi:PtS} {n:Nat->Nat} {p:Nat->Nat->PtS} {a b:PtS}:∀{j:Nat},aG lo hi n p a b j=[]↔∀i,i < j->(if i < 4 then dM i lo hi a b else rM (i - 4) (n (i - 4)) (p (i - 4)) a b)=[]
 |0=>⟨λ_ i hi=>absurd hi (Nat.not_lt_zero i),λ_=>rfl⟩
 |j+1=>by
  rw [aG,List.append_eq_nil_iff,mN];constructor
  ·rintro ⟨h1,h2⟩ i hi;by_cases e:i=j
   ·rw [e];exact h2
   ·exact h1 i (by omega)
  ·intro h;exact⟨λi hi=>h i (by omega),h j (by omega)⟩
theorem r8 {i:Nat} {lo hi a b:PtS}:dM i lo hi a b=[]↔aL i lo hi a<=0/\aL i lo hi b<=0:=by
 have hq:∀x:Rat,decide (ao x 0<=0)=true↔x<=0:=λx=>by
  cases h:decide (ao x 0<=0) with
  |false =>
   have:=fJ.1 h;exact⟨λk=>(by cases k),λk=>by grind⟩
  |true =>
   refine⟨λ_=>?_,λ_=>rfl⟩;by_cases hx:0 < x
   ·rw [fJ.2 hx] at h;cases h
   ·grind
 unfold dM;cases h:(decide (ao (aL i lo hi a) 0<=0)&&decide (ao (aL i lo hi b) 0<=0)) with
 |true =>
  rw [Bool.and_eq_true,hq,hq] at h;exact⟨λ_=>h,λ_=>rfl⟩
 |false =>
  refine⟨λk=>(by cases k),λk=>?_⟩;rw [(hq _).2 k.1,(hq _).2 k.2] at h;cases h
theorem r9 {i n:Nat} {p:Nat->PtS} {a b:PtS} (hB:gE n p a b=false):rM i n p a b=[]↔¬Hit n (fu n p a) (fu n p b):=by
 rw [<-wM hB];unfold rM;cases db n p a b with
 |none=>exact⟨λ_=>rfl,λ_=>rfl⟩
 |some s=>exact⟨λk=>(by cases k),λk=>by cases k⟩
theorem iH {lo hi:PtS} {k:Nat} {n:Nat->Nat} {p:Nat->Nat->PtS} {l:Nat} {q:Nat->Int×Int×Int} (h:bT lo hi k n p l q=0):∀i,i < k->bh (n i) (p i)=0:=by
 have hf:∀{r:Nat->Int} {k i:Nat},bQ r k i=0->∀j,i<=j->j < i+k->r j=0:=λ{r k}=>by
  induction k with
  |zero=>intro i _ j a b;omega
  |succ k ih =>
   intro i h j a b;unfold bQ at h;cases h0:(r i==0) with
   |true =>
    rw [h0,cond_true] at h;by_cases e:j=i
    ·rw [e];exact eq_of_beq h0
    ·exact ih h j (by omega) (by omega)
   |false =>
    rw [h0,cond_false] at h;rw [h] at h0;cases h0
 intro i hik;unfold bT at h;cases h1:(!ah lo||!ah hi) with
 |true=>rw [h1] at h;cases h
 |false =>
  rw [h1,cond_false] at h;cases h2:decide (32 < k) with
  |true=>rw [h2] at h;cases h
  |false =>
   rw [h2,cond_false] at h;have hz:bQ (λi=>bh (n i) (p i)) k 0=0:=by
    cases h3:(bQ (λi=>bh (n i) (p i)) k 0==0) with
    |true=>exact eq_of_beq h3
    |false=>rw [h3] at h;exact h
   exact hf hz i (Nat.zero_le _) (by omega)
theorem dz {lo hi:PtS} {k:Nat} {c:Nat->List PV} {l:Nat} {o:Nat->List PV} {a b:PtS} (hr:bT lo hi k (pn c) (λi=>ae (pg c i)) l (ow o)=0) (ha:ah a=true) (hb:ah b=true):bc lo hi k c l o a b=true↔SeeM lo hi k c a b:=by
 have ok:fO lo hi k c l o (ar a b)=true:=by
  show(!(!ah a||!ah b)&&(bT lo hi k (pn c) (λi=>ae (pg c i)) l (ow o)==0))=true;rw [ha,hb,hr];rfl
 have hB:∀i,i < k->gE (pn c i) (ae (pg c i)) a b=false:=λi hi=>by
  unfold gE;rw [iH hr i hi,ha,hb];rfl
 unfold bc;rw [ok,Bool.true_and,List.isEmpty_iff];show aG lo hi (pn c) (λi=>ae (pg c i)) a b (k+4)=[]↔_;rw [mN];constructor
 ·intro h;have h4:∀i,i < 4->aL i lo hi a<=0/\aL i lo hi b<=0:=λi hi=>by
   have:=h i (by omega);rw [if_pos hi] at this;exact r8.1 this
  refine⟨λi hi=>(h4 i hi).1,λi hi=>(h4 i hi).2,λi hi=>?_⟩;have:=h (i+4) (by omega);rw [if_neg (by omega),Nat.add_sub_cancel] at this;exact(r9 (hB i hi)).1 this
 ·intro h i hi;split
  ·rename_i h4
   exact r8.2 ⟨h.inA i h4,h.inB i h4⟩
  ·rename_i h4
   exact(r9 (hB (i - 4) (by omega))).2 (h.clear (i - 4) (by omega))
end Go.Num
namespace Go.Proofs
def Gy:List PV->Option Ans
 |[.agg xs,.val v,.val u]=>some ⟨some (isRg 10000 xs/\isPk 10000 v/\isPk 10000 u),.val (.tuple ⟨[.bool (bc (bO xs) (bP xs) (gK xs) (gC xs) (gL xs) (gO xs) (aO v) (aO u)),.int .i64 (bW (fO (bO xs) (bP xs) (gK xs) (gC xs) (gL xs) (gO xs) (ar (aO v) (aO u))))]⟩),[]⟩
 |_=>none
theorem H1:am {} Tryz.f21 3=true:=by kernel_rfl
theorem f21:FnOk Tryz.prog 21 Gy:=by
 refine FnOk.ofW aj (an (l:=[(55,Fz),(56,FK)]) (own:=[]) (inl:=[]) (by simp [f55,f56]) (by simp)) Tryz.func21 {} 3 H1 λargs r e=>?_;unfold Gy at e;split at e
 ·rename_i xs v u
  cases e;refine⟨by simp,λhm=>?_⟩;obtain⟨⟨h1,⟨hlo,hhi⟩,hcl,hol⟩,⟨a,rfl,ha⟩,b,rfl,hb⟩:=hm _ rfl;generalize bO xs=lo at *
  generalize bP xs=hi at *
  generalize gK xs=k at *
  generalize gC xs=c at *
  generalize gL xs=l at *
  generalize gO xs=o at *
  subst h1;clear hm;refine⟨[],aa [(0,.agg (bq lo hi k c l o)),(1,.val a.v),(2,.val b.v)] [] 0 [],Wo trivial ⟨⟨rfl,rfl,rfl,rfl,rfl,rfl,rfl,rfl,rfl,rfl,rfl,rfl,qW,qW,qQ⟩,rfl,rfl,qQ⟩ trivial,?_⟩;have hrg:((lo.le 4294967296/\hi.le 4294967296)/\bM 10000 k c/\cQ l o):=⟨⟨hlo.mono (by decide),hhi.mono (by decide)⟩,hcl,hol⟩;have hrg2:((lo.le 10000/\hi.le 10000)/\bM 10000 k c/\cQ l o):=⟨⟨hlo,hhi⟩,hcl,hol⟩;have ha':=ha.mono (show 10000<=4294967296 by decide);have hb':=hb.mono (show 10000<=4294967296 by decide);obtain⟨S,hS⟩:∃S,S=bc lo hi k c l o a b:=⟨_,rfl⟩;have hv:bc lo hi k c l o (aO a.v) (aO b.v)=S:=hS.symm;rw [hv];obtain⟨OK,hOK⟩:∃OK,OK=fO lo hi k c l o (ar a b):=⟨_,rfl⟩;have hw:fO lo hi k c l o (ar (aO a.v) (aO b.v))=OK:=hOK.symm;rw [hw];have cn:∀r:Nat->List PV,ae r 0=a->ae r 1=b->aD (λi=>!ah (ae r i)) 2=(!ah a||!ah b):=λr h h'=>by
   have e:List.range 2=[0,1]:=rfl;simp only [aD,e,List.any_cons,List.any_nil,Bool.or_false,h,h']
  have p2:∀r:Nat->List PV,r 0=a.cells->r 1=b.cells->isPL 4294967296 2 r:=λr h h'=>⟨λi hi=>by
   match i,hi with
   |0,_=>exact⟨by rw [ae,h];rfl,by rw [ae,h];exact ha'⟩
   |1,_=>exact⟨by rw [ae,h'];rfl,by rw [ae,h'];exact hb'⟩
   |i+2,h=>omega,by decide⟩
  have q1:∀r:Nat->List PV,ae r 0=a->ae r 1=b->((bT lo hi k (pn (λi=>[.rs 6 (pn c i) (pg c i)])) (λi=>ae (pg (λi=>[.rs 6 (pn c i) (pg c i)]) i)) l (ow (λi=>ag (ow o i)))==0)&&!aD (λi=>!ah (ae r i)) 2)=OK:=λr h h'=>by
   rw [cn r h h',hOK,Bool.and_comm];rfl
  have z:∀B:Bool,(bW B != 0)=true->B=false:=λB h=>by cases B<;>first|rfl|cases h
  have z':∀B:Bool,(bW B != 0)=false->B=true:=λB h=>by cases B<;>first|rfl|cases h
  have s0:OK=false->S=false:=λh=>by
   rw [hS,bc,<-hOK,h];rfl
  have hrg':((lo.le 4294967296/\hi.le 4294967296)/\bM 10000 k (λi=>[.rs 6 (pn c i) (pg c i)])/\cQ l (λi=>ag (ow o i))):=⟨hrg.1,⟨λi hi=>⟨rfl,(hcl.1 i hi).2⟩,hcl.2⟩,λ_ _=>rfl,hol.2⟩;have hrg3:((lo.le 10000/\hi.le 10000)/\bM 10000 k (λi=>[.rs 6 (pn c i) (pg c i)])/\cQ l (λi=>ag (ow o i))):=⟨hrg2.1,hrg'.2⟩;have v5:PV.val (.bool (bc lo hi k (λi=>[.rs 6 (pn c i) (pg c i)]) l (λi=>ag (ow o i)) (aO a.v) (aO b.v)))=PV.val (.bool S):=by
   rw [hS];rfl
  with_unfolding_all refine⟨⟨hrg',p2 _ rfl rfl⟩,λh1=>?_,λh1=>?_⟩
  ·have h2:OK=false:=(q1 _ rfl rfl).symm.trans (z _ h1);have v1:PV.val (.bool false)=PV.val (.bool S):=by rw [s0 h2]
   have v2:∀B,B=OK->PV.val (.int .i64 (bW B))=PV.val (.int .i64 (bW OK)):=λB h=>by rw [h]
   with_unfolding_all exact⟨[],aa [(6,.val (.bool S)),(7,.val (.int .i64 (bW OK)))] [] 0 [],Wo trivial ⟨v1,v2 _ (q1 _ rfl rfl),qQ⟩ trivial,rfl,rfl⟩
  ·have h2:OK=true:=(q1 _ rfl rfl).symm.trans (z' _ h1);have v3:PV.val (.int .i64 0)=PV.val (.int .i64 (bW OK)):=by rw [h2];rfl
   with_unfolding_all exact⟨⟨hrg3,⟨a,rfl,ha⟩,b,rfl,hb⟩,[],aa [(6,.val (.bool S)),(7,.val (.int .i64 (bW OK)))] [] 0 [],Wo trivial ⟨v5,v3,qQ⟩ trivial,rfl,rfl⟩
 ·cases e
end Go.Proofs
namespace Go.Num
def qL (L:List (Int×Int)) (i:Nat):Int×Int:=(L[i]?).getD (0,0)
theorem yC {L:List (Int×Int)} {x:Int×Int} {r:Nat->List PV} (h:r 0=aF x):∀i,i < L.length+1->aF (qL (L++[x]) i)=gM L.length (λi=>aF (qL L i)) r i:=λi hi=>by
 unfold gM qL;by_cases hl:i < L.length
 ·rw [if_pos hl,List.getElem?_append_left hl]
 ·obtain rfl:i=L.length:=by omega
  rw [if_neg hl,Nat.sub_self,h];simp
def dT (T:Int->Int->Bool) (q:Nat->Int×Int):Nat->List (Int×Int)
 |0=>[]
 |j+1=>dT T q j++(bif T (q j).1 (q j).2&&T (q j).2 (q j).1 then [q j] else [])
theorem u9 (T:Int->Int->Bool) (q:Nat->Int×Int):∀j,(dT T q j).length<=j
 |0=>Nat.le_refl _
 |j+1=>by
  have:=u9 T q j;unfold dT;rw [List.length_append];cases (T (q j).1 (q j).2&&T (q j).2 (q j).1)<;>simp<;>omega
def Du (lo hi:PtS) (k:Nat) (c:Nat->List PV) (l:Nat) (o:Nat->List PV) (n:Nat) (g:Nat->List PV) (m:Nat) (h:Nat->List PV):Bool:=(bT lo hi k (pn c) (λi=>ae (pg c i)) l (ow o)==0)&&dv n (ae g) m (gB h)
def pI (lo hi:PtS) (k:Nat) (c:Nat->List PV) (l:Nat) (o:Nat->List PV) (n:Nat) (g:Nat->List PV) (m:Nat) (h:Nat->List PV):List (Int×Int):=bif Du lo hi k c l o n g m h then dT (ia k c (ae g)) (gB h) m else []
theorem ic {n m:Nat} {q:Nat->Int×Int} (h:da n q m=true) {i:Nat} (hi:i < m):0<=(q i).1/\(q i).1 < (q i).2/\(q i).2 < (n:Int)/\(0 < i->eM (q (i - 1)) (q i)=true):=by
 unfold da at h;have h0:aD (iP n q) m=false:=by simpa using h
 have h1:=(ay.1 h0) i hi;unfold iP at h1;simp only [Bool.or_eq_false_iff,decide_eq_false_iff_not,Bool.and_eq_false_iff,Bool.not_eq_false'] at h1;exact⟨by omega,by omega,by omega,λhi=>by
  rcases h1.2 with h|h
  ·omega
  ·exact h⟩
theorem yD {n m:Nat} {q:Nat->Int×Int} (h:da n q m=true):m<=n*n:=by
 have key:∀i,i < m->(i:Int)<=(q i).1*n+(q i).2:=λi=>by
  induction i with
  |zero =>
   intro hi;have:=ic h hi;have h2:=Int.mul_nonneg this.1 (Int.natCast_nonneg n);omega
  |succ i ih =>
   intro hi;have h1:=ic h hi;have h2:=ic h (show i < m by omega);have h3:=ih (by omega);have h4:=h1.2.2.2 (by omega);rw [Nat.add_sub_cancel] at h4;unfold eM at h4;simp only [Bool.or_eq_true,Bool.and_eq_true,decide_eq_true_eq] at h4;rcases h4 with h4|⟨h4,h5⟩
   ·have h6:=Int.mul_le_mul_of_nonneg_right (show(q i).1+1<=(q (i+1)).1 by omega) (Int.natCast_nonneg n);rw [Int.add_mul,Int.one_mul] at h6;omega
   ·rw [<-h4];omega
 rcases Nat.eq_zero_or_pos m with h0|h0
 ·omega
 ·have h1:=ic h (show m - 1 < m by omega);have h2:=key (m - 1) (by omega);have h3:=Int.mul_le_mul_of_nonneg_right (show(q (m - 1)).1<=(n:Int) - 1 by omega) (Int.natCast_nonneg n);rw [Int.sub_mul,Int.one_mul] at h3;have h4:(m:Int)<=(n:Int)*n:=by omega
  exact_mod_cast h4
end Go.Num
namespace Go.Proofs
theorem AI {f:FuncId} {p:PV} {r:Ans} (h:gi Tryz.prog f [p,.rs 6 0 λ_=>[]] r):gi Tryz.prog f [p,.val (.slice none 0 0)] r:=by
 refine⟨h.1,λhm A w vs hA hl hR=>h.2 hm A w vs hA hl λi q v e1 e2=>?_⟩
 match i with
 |0=>exact hR 0 q v e1 e2
 |1 =>
  cases e1;have:=hR 1 _ v rfl e2;cases this;exact .rs _ _ _ _ _ (λ_ _=>undef) (λi hi=>absurd hi (Nat.not_lt_zero i)) (Nat.le_refl _) (Nat.zero_le _) (λi f p hi=>absurd hi (Nat.not_lt_zero i)) (λi f p hi=>absurd hi (Nat.not_lt_zero i))
 |i+2=>simp at e1
def AJ:List PV->Option Ans
 |[p,.val (.slice none 0 0)]=>Fz [p,.rs 6 0 λ_=>[]]
 |_=>none
theorem F1:FnOk Tryz.prog 55 AJ:=λargs r e=>by
 unfold AJ at e;split at e
 ·exact AI (f55 _ r e)
 ·cases e
def H2:List PV->Option Ans
 |[.agg xs,.agg [.rs 6 n g,.rs 2 m h]]=>some ⟨some (isRg 10000 xs/\isPL 10000 n g/\iO m h),.tup [.rs 2 (pI (bO xs) (bP xs) (gK xs) (gC xs) (gL xs) (gO xs) n g m h).length (λi=>aF (qL (pI (bO xs) (bP xs) (gK xs) (gC xs) (gL xs) (gO xs) n g m h) i)),.val (.int .i64 (bW (Du (bO xs) (bP xs) (gK xs) (gC xs) (gL xs) (gO xs) n g m h)))],[]⟩
 |_=>none
theorem H3:am {} Tryz.f18 2=true:=by kernel_rfl
theorem f18:FnOk Tryz.prog 18 H2:=by
 refine FnOk.ofW aj (an (l:=[(55,AJ),(68,G5),(69,HC)]) (own:=[]) (inl:=[]) (by simp [F1,f68,f69]) (by simp)) Tryz.func18 {} 2 H3 λargs r e=>?_;unfold H2 at e;split at e
 ·rename_i xs n g m h
  cases e;refine⟨by simp,λhm=>?_⟩;obtain⟨⟨h1,⟨hlo,hhi⟩,hcl,hol⟩,hg,hq⟩:=hm _ rfl;generalize bO xs=lo at *
  generalize bP xs=hi at *
  generalize gK xs=k at *
  generalize gC xs=c at *
  generalize gL xs=l at *
  generalize gO xs=o at *
  subst h1;clear hm;refine⟨[],aa [(0,.agg (bq lo hi k c l o)),(1,.agg [.rs 6 n g,.rs 2 m (λi=>aF (gB h i))])] [] 0 [],Wo trivial ⟨⟨rfl,rfl,rfl,rfl,rfl,rfl,rfl,rfl,rfl,rfl,rfl,rfl,qW,qW,qQ⟩,⟨qW,⟨rfl,rfl,λi hi=>(hq.1 i hi).symm⟩,qQ⟩,qQ⟩ trivial,?_⟩;have hrg:((lo.le 4294967296/\hi.le 4294967296)/\bM 10000 k c/\cQ l o):=⟨⟨hlo.mono (by decide),hhi.mono (by decide)⟩,hcl,hol⟩;have hg':isPL 4294967296 n g:=⟨λi hi=>⟨(hg.1 i hi).1,(hg.1 i hi).2.mono (by decide)⟩,hg.2⟩;have hqm:=hq.2;generalize hqq:gB h=q at *
  have hql:iO m (λi=>aF (q i)):=⟨λ_ _=>rfl,hqm⟩;obtain⟨T,hT⟩:∃T,T=ia k c (ae g):=⟨_,rfl⟩;obtain⟨OK,hOK⟩:∃OK,OK=Du lo hi k c l o n g m h:=⟨_,rfl⟩;obtain⟨TR,hTR⟩:∃TR,TR=pI lo hi k c l o n g m h:=⟨_,rfl⟩;rw [<-hTR,<-hOK];have e1:TR=bif OK then dT T q m else []:=by rw [hTR,pI,<-hOK,<-hT,hqq]
  have e2:OK=((bT lo hi k (pn c) (λi=>ae (pg c i)) l (ow o)==0)&&dv n (ae g) m q):=by rw [hOK,Du,hqq]
  have b0:OK=false->TR.length=0:=λh=>by rw [e1,h];rfl
  have b1:OK=false->PV.val (.int .i64 1)=PV.val (.int .i64 (bW OK)):=λh=>by rw [h];rfl
  have q1:((bT lo hi k (pn (λi=>[.rs 6 (pn c i) (pg c i)])) (λi=>ae (pg (λi=>[.rs 6 (pn c i) (pg c i)]) i)) l (ow (λi=>ag (ow o i)))==0)&&!aD (λi=>!ah (ae (λ_=>[]) i)) 0)=(bT lo hi k (pn c) (λi=>ae (pg c i)) l (ow o)==0):=Bool.and_true _;have z:∀B:Bool,(bW B != 0)=true->B=false:=λB h=>by cases B<;>first|rfl|cases h
  have z':∀B:Bool,(bW B != 0)=false->B=true:=λB h=>by cases B<;>first|rfl|cases h
  have f1:(bW ((bT lo hi k (pn (λi=>[.rs 6 (pn c i) (pg c i)])) (λi=>ae (pg (λi=>[.rs 6 (pn c i) (pg c i)]) i)) l (ow (λi=>ag (ow o i)))==0)&&!aD (λi=>!ah (ae (λ_=>[]) i)) 0) != 0)=true->OK=false:=λh=>by
   have:=q1.symm.trans (z _ h);rw [e2,this];rfl
  have f2:(!dv n (ae g) m (gB λi=>aF (q i)))=true->OK=false:=λh=>by
   have h:dv n (ae g) m q=false:=by
    have h:(!dv n (ae g) m q)=true:=h;simpa using h
   rw [e2,h,Bool.and_false]
  have f3:(bW ((bT lo hi k (pn (λi=>[.rs 6 (pn c i) (pg c i)])) (λi=>ae (pg (λi=>[.rs 6 (pn c i) (pg c i)]) i)) l (ow (λi=>ag (ow o i)))==0)&&!aD (λi=>!ah (ae (λ_=>[]) i)) 0) != 0)=false->(!dv n (ae g) m (gB λi=>aF (q i)))=false->OK=true/\dv n (ae g) m q=true:=λh h'=>by
   have h1:=q1.symm.trans (z' _ h);have h2:dv n (ae g) m q=true:=by
    have h:(!dv n (ae g) m q)=false:=h';simpa using h
   exact⟨by rw [e2,h1,h2];rfl,h2⟩
  have hcl':bM 10000 k (λi=>[.rs 6 (pn c i) (pg c i)]):=⟨λi hi=>⟨rfl,(hcl.1 i hi).2⟩,hcl.2⟩;have hol':cQ l (λi=>ag (ow o i)):=⟨λ_ _=>rfl,hol.2⟩;have hrg':((lo.le 4294967296/\hi.le 4294967296)/\bM 10000 k (λi=>[.rs 6 (pn c i) (pg c i)])/\cQ l (λi=>ag (ow o i))):=⟨hrg.1,hcl',hol'⟩;have p0:isPL 4294967296 0 λ_=>[]:=⟨λi hi=>absurd hi (Nat.not_lt_zero i),Nat.zero_le _⟩;with_unfolding_all refine⟨⟨hrg',p0⟩,λh1=>⟨⟨hg',hql⟩,λh2=>⟨[],aa [(4,.rs 2 TR.length (λi=>aF (qL TR i))),(5,.val (.int .i64 (bW OK)))] [] 0 [],Wo trivial ⟨⟨rfl,b0 (f2 h2)⟩,b1 (f2 h2),qQ⟩ trivial,rfl,rfl⟩,λh2=>⟨Nat,λi=>(OK=true/\dv n (ae g) m q=true)/\i<=m,λi=>aa [(2,.ptr 0 0 0 0),(3,.ptr 1 1 0 0),(6,.sl 2 2 0 (dT T q i).length),(18,.rs 2 m (λi=>aF (q i))),(19,.val (goInt m)),(20,.val (goInt i))] [⟨31,14,0,true,false,1,λ_=>bq lo hi k c l o⟩,⟨37,2,1,true,false,1,λ_=>[.rs 6 n g,.rs 2 m (λi=>aF (q i))]⟩,⟨46,2,2,false,false,(dT T q i).length,λj=>aF (qL (dT T q i) j)⟩] 3 [],λi=>m - i,⟨0,[some 0,some 1,none],⟨f3 h1 h2,Nat.zero_le _⟩,Wo ⟨qZ ⟨rq,rq,rq,rq,rq,rq,rq,rq,rq,rq,rq,rq,⟨qW,rfl⟩,⟨qW,rfl⟩,qQ⟩,qZ ⟨⟨qW,rfl⟩,⟨qW,rfl⟩,qQ⟩,⟨aN rfl,rfl,rfl,rfl⟩,qQ⟩ ⟨pP,pP,⟨rfl,rfl,rfl,rfl,aN rfl⟩,qW,rfl,rfl,qQ⟩ trivial⟩,λi hi=>?_⟩⟩,λh1=>⟨λ_=>⟨[],aa [(4,.rs 2 TR.length (λi=>aF (qL TR i))),(5,.val (.int .i64 (bW OK)))] [] 0 [],Wo trivial ⟨⟨rfl,b0 (f1 h1)⟩,b1 (f1 h1),qQ⟩ trivial,rfl,rfl⟩,λh=>nomatch h⟩⟩
  obtain⟨⟨hk1,hk2⟩,him⟩:(OK=true/\dv n (ae g) m q=true)/\i<=m:=hi;with_unfolding_all refine⟨λh1=>?_,λh1=>?_⟩
  ·have h1:(i:Int) < m:=bN h1;have ei:(i:Int).toNat=i:=Int.toNat_natCast i;have him:i+1<=m:=by omega
   have hμ : m - (i+1) < m - i:=by omega
   have hok:=hk2;unfold dv at hok;rw [Bool.and_eq_true,Bool.and_eq_true] at hok;have hn1:n<=1000:=of_decide_eq_true hok.1.1;have hmm:=yD hok.2;have hnn:n*n<=1000*1000:=Nat.mul_le_mul hn1 hn1;have hl:=ic hok.2 (show i < m by omega);have hl1:0<=(q (i:Int).toNat).1/\(q (i:Int).toNat).1 < n:=by rw [ei];omega
   have hl2:0<=(q (i:Int).toNat).2/\(q (i:Int).toNat).2 < n:=by rw [ei];omega
   have htl:=u9 T q i;have wi:PV.val (.int .i64 (IntKind.i64.wrap ((i:Int)+1)))=PV.val (.int .i64 ((i+1:Nat):Int)):=by
    rw [wrap64 (by omega) (by omega)];rfl
   have pR:isRg 10000 (bq lo hi k c l o):=⟨rfl,⟨hlo,hhi⟩,hcl',hol'⟩;have hT':∀x y,ia k c (ae g) x y=T x y:=λx y=>by rw [hT]
   have tt:∀x y b,ia k (λi=>[.rs 6 (pn c i) (pg c i)]) (ae g) x y=b->T x y=b:=λx y b h=>(hT' x y).symm.trans h;have e3:T (q i).1 (q i).2=true->T (q i).2 (q i).1=true->dT T q (i+1)=dT T q i++[q i]:=λh h'=>by rw [dT,h,h'];rfl
   have e4:(T (q i).1 (q i).2&&T (q i).2 (q i).1)=false->dT T q (i+1)=dT T q i:=λh=>by rw [dT,h];exact List.append_nil _
   have hn0:(T (q (i:Int).toNat).1 (q (i:Int).toNat).2&&T (q (i:Int).toNat).2 (q (i:Int).toNat).1)=false->(dT T q (i+1)).length=(dT T q i).length:=λh=>by
    rw [ei] at h;rw [e4 h]
   have hr0:(T (q (i:Int).toNat).1 (q (i:Int).toNat).2&&T (q (i:Int).toNat).2 (q (i:Int).toNat).1)=false->∀j,j < (dT T q i).length->aF (qL (dT T q (i+1)) j)=aF (qL (dT T q i) j):=λh=>by
    rw [ei] at h;rw [e4 h];exactλ_ _=>rfl
   have hnA:T (q (i:Int).toNat).1 (q (i:Int).toNat).2=true->T (q (i:Int).toNat).2 (q (i:Int).toNat).1=true->(dT T q (i+1)).length=(dT T q i).length+1:=λh h'=>by
    rw [ei] at h h';rw [e3 h h',List.length_append];rfl
   have hr1:T (q (i:Int).toNat).1 (q (i:Int).toNat).2=true->T (q (i:Int).toNat).2 (q (i:Int).toNat).1=true->∀r:Nat->List PV,r 0=aF (q (i:Int).toNat)->∀j,j < (dT T q i).length+1->aF (qL (dT T q (i+1)) j)=gM (dT T q i).length (λj=>aF (qL (dT T q i) j)) r j:=λh h' r hr=>by
    rw [ei] at h h' hr;rw [e3 h h'];exact yC hr
   have k1:((dT T q i).length+1)*16<=140737488355328:=by omega
   have k2:(dT T q i).length+1<=9223372036854775807:=by omega
   have n1:∀x y:Bool,y=false->(x&&y)=false:=λx y h=>by rw [h,Bool.and_false]
   have n2:∀x y:Bool,x=false->(x&&y)=false:=λx y h=>by rw [h];rfl
   with_unfolding_all exact⟨⟨Int.natCast_nonneg i,h1⟩,⟨pR,hg,hl1,hl2⟩,λh2=>⟨⟨pR,hg,hl2,hl1⟩,λh3=>⟨⟨rfl,k1,k2⟩,⟨i+1,[some 0,some 1,some 2],⟨⟨hk1,hk2⟩,him⟩,hμ,Wo ⟨qZ ⟨rq,rq,rq,rq,rq,rq,rq,rq,rq,rq,rq,rq,⟨qW,rfl⟩,⟨qW,rfl⟩,qQ⟩,qZ ⟨⟨qW,rfl⟩,⟨qW,rfl⟩,qQ⟩,⟨aN rfl,rfl,rfl,rfl,rfl,(hnA (tt _ _ _ h2) (tt _ _ _ h3)),hr1 (tt _ _ _ h2) (tt _ _ _ h3) _ rfl⟩,qQ⟩ ⟨pP,pP,⟨rfl,rfl,(hnA (tt _ _ _ h2) (tt _ _ _ h3)).symm,aN rfl,_,rfl⟩,qW,rfl,wi,qQ⟩ trivial⟩⟩,λh3=>⟨i+1,[some 0,some 1,some 2],⟨⟨hk1,hk2⟩,him⟩,hμ,Wo ⟨qZ ⟨rq,rq,rq,rq,rq,rq,rq,rq,rq,rq,rq,rq,⟨qW,rfl⟩,⟨qW,rfl⟩,qQ⟩,qZ ⟨⟨qW,rfl⟩,⟨qW,rfl⟩,qQ⟩,⟨aN rfl,rfl,rfl,rfl,rfl,(hn0 (n1 _ _ (tt _ _ _ h3))),hr0 (n1 _ _ (tt _ _ _ h3))⟩,qQ⟩ ⟨pP,pP,⟨rfl,rfl,(hn0 (n1 _ _ (tt _ _ _ h3))).symm,aN rfl,_,rfl⟩,qW,rfl,wi,qQ⟩ trivial⟩⟩,λh2=>⟨λh=>(nomatch h),λ_=>⟨i+1,[some 0,some 1,some 2],⟨⟨hk1,hk2⟩,him⟩,hμ,Wo ⟨qZ ⟨rq,rq,rq,rq,rq,rq,rq,rq,rq,rq,rq,rq,⟨qW,rfl⟩,⟨qW,rfl⟩,qQ⟩,qZ ⟨⟨qW,rfl⟩,⟨qW,rfl⟩,qQ⟩,⟨aN rfl,rfl,rfl,rfl,rfl,(hn0 (n2 _ _ (tt _ _ _ h2))),hr0 (n2 _ _ (tt _ _ _ h2))⟩,qQ⟩ ⟨pP,pP,⟨rfl,rfl,(hn0 (n2 _ _ (tt _ _ _ h2))).symm,aN rfl,_,rfl⟩,qW,rfl,wi,qQ⟩ trivial⟩⟩⟩
  ·have h1:(m:Int)<=i:=dC h1;have h3:dT T q i=TR:=by
    rw [show i=m by omega,e1,hk1];rfl
   have v2:PV.val (.int .i64 0)=PV.val (.int .i64 (bW OK)):=by rw [hk1];rfl
   have v3:∀j,j < TR.length->aF (qL TR j)=aF (qL (dT T q i) (0+j)):=λj _=>by rw [h3,Nat.zero_add]
   with_unfolding_all exact⟨[],aa [(4,.rs 2 TR.length (λi=>aF (qL TR i))),(5,.val (.int .i64 (bW OK)))] [] 0 [],Wo trivial ⟨⟨by simp,_,rfl,rfl,rfl,congrArg List.length h3,v3⟩,v2,qQ⟩ trivial,rfl,rfl⟩
 ·cases e
end Go.Proofs
namespace Go.Num
def aR (p q:PtS) (C:Nat->PtS):Nat->List PtS
 |0=>[p,q]
 |j+1=>aR p q C j++(bif !bE (C j) p&&!bE (C j) q then [C j] else [])
def bu (S:PtS->PtS->Bool) (P:Nat->PtS) (i:Nat):Nat->List (Int×Int)
 |0=>[]
 |d+1=>bu S P i d++(bif S (P i) (P (i+1+d)) then [((i:Int),((i+1+d:Nat):Int))] else [])
def aX (S:PtS->PtS->Bool) (P:Nat->PtS) (n:Nat):Nat->List (Int×Int)
 |0=>[]
 |i+1=>aX S P n i++bu S P i (n - (i+1))
theorem Bk {L:List PtS} {x:PtS} {r:Nat->List PV} (h:r 0=x.cells):∀i,i < L.length+1->(ab (L++[x]) i).cells=gM L.length (λi=>(ab L i).cells) r i:=λi hi=>by
 unfold gM ab;by_cases hl:i < L.length
 ·rw [if_pos hl,List.getElem?_append_left hl]
 ·obtain rfl:i=L.length:=by omega
  rw [if_neg hl,Nat.sub_self,h];simp
theorem f9 (p q:PtS) (C:Nat->PtS):∀j,2<=(aR p q C j).length/\(aR p q C j).length<=j+2
 |0=>⟨Nat.le_refl _,Nat.le_refl _⟩
 |j+1=>by
  have:=f9 p q C j;unfold aR;rw [List.length_append];cases (!bE (C j) p&&!bE (C j) q)<;>simp<;>omega
theorem iI {p q:PtS} {C:Nat->PtS} (hp:p.le 10000) (hq:q.le 10000):∀{j:Nat},(∀i,i < j->(C i).le 10000)->∀x∈aR p q C j,x.le 10000
 |0,_,x,hx=>by
  rcases List.mem_cons.1 hx with rfl|hx
  ·exact hp
  ·rw [List.mem_singleton.1 hx];exact hq
 |j+1,hC,x,hx=>by
  unfold aR at hx;rcases List.mem_append.1 hx with hx|hx
  ·exact iI hp hq (λi hi=>hC i (by omega)) x hx
  ·cases hb:(!bE (C j) p&&!bE (C j) q) with
   |true =>
    rw [hb] at hx;rw [List.mem_singleton.1 hx];exact hC j (by omega)
   |false=>rw [hb] at hx;cases hx
theorem lI (S:PtS->PtS->Bool) (P:Nat->PtS) (i:Nat):∀d,(bu S P i d).length<=d
 |0=>Nat.le_refl _
 |d+1=>by
  have:=lI S P i d;unfold bu;rw [List.length_append];cases S (P i) (P (i+1+d))<;>simp<;>omega
theorem lJ (S:PtS->PtS->Bool) (P:Nat->PtS) (n:Nat):∀i,(aX S P n i).length<=i*n
 |0=>Nat.zero_le _
 |i+1=>by
  have:=lJ S P n i;have h2:=lI S P i (n - (i+1));unfold aX;rw [List.length_append,Nat.succ_mul];omega
def ig (lo hi:PtS) (k:Nat) (c:Nat->List PV) (l:Nat) (o:Nat->List PV) (p q:PtS):Int:=bif fO lo hi k c l o (ar p q) then bif bc lo hi k c l o p p&&bc lo hi k c l o q q then bif bE p q then 12 else 0 else 16 else 1
def dl (lo hi:PtS) (k:Nat) (c:Nat->List PV) (l:Nat) (o:Nat->List PV) (p q:PtS):List PtS:=bif ig lo hi k c l o p q==0 then aR p q (ab (cN lo hi k c l o)) (cN lo hi k c l o).length else []
def gw (lo hi:PtS) (k:Nat) (c:Nat->List PV) (l:Nat) (o:Nat->List PV) (p q:PtS):List (Int×Int):=aX (bc lo hi k c l o) (ab (dl lo hi k c l o p q)) (dl lo hi k c l o p q).length (dl lo hi k c l o p q).length
end Go.Num
namespace Go.Proofs
def Gz:List PV->Option Ans
 |[.agg xs,.val v,.val u]=>some ⟨some ((isRg 10000 xs/\isPk 10000 v/\isPk 10000 u)/\(au (bO xs) (bP xs) (gK xs) (gC xs) (gL xs) (gO xs)).length<=500),
  .tup [.agg [.rs 6 (dl (bO xs) (bP xs) (gK xs) (gC xs) (gL xs) (gO xs) (aO v) (aO u)).length (λi=>(ab (dl (bO xs) (bP xs) (gK xs) (gC xs) (gL xs) (gO xs) (aO v) (aO u)) i).cells),.rs 2 (gw (bO xs) (bP xs) (gK xs) (gC xs) (gL xs) (gO xs) (aO v) (aO u)).length (λi=>aF (qL (gw (bO xs) (bP xs) (gK xs) (gC xs) (gL xs) (gO xs) (aO v) (aO u)) i))],.val (.int .i64 (ig (bO xs) (bP xs) (gK xs) (gC xs) (gL xs) (gO xs) (aO v) (aO u)))],[]⟩
 |_=>none
def D14:Opt:={ perm:=jr 21 (rds 7) }
theorem H4:am D14.toOrd Tryz.f14 3=true:=by kernel_rfl
theorem f14:FnOk Tryz.prog 14 Gz:=by
 refine FnOk.ofW aj (an (l:=[(55,Fz),(56,FK),(57,Gv)]) (own:=[]) (inl:=[]) (by simp [f55,f56,f57]) (by simp)) Tryz.func14 D14 3 H4 λargs r e=>?_;unfold Gz at e;split at e
 ·rename_i xs v u
  cases e;refine⟨by simp,λhm=>?_⟩;obtain⟨⟨⟨h1,⟨hlo,hhi⟩,hcl,hol⟩,⟨a,rfl,ha⟩,b,rfl,hb⟩,hN0⟩:=hm _ rfl;generalize bO xs=lo at *
  generalize bP xs=hi at *
  generalize gK xs=k at *
  generalize gC xs=c at *
  generalize gL xs=l at *
  generalize gO xs=o at *
  subst h1;clear hm;refine⟨[],aa [(0,.agg (bq lo hi k c l o)),(1,.val a.v),(2,.val b.v)] [] 0 [],Wo trivial ⟨⟨rfl,rfl,rfl,rfl,rfl,rfl,rfl,rfl,rfl,rfl,rfl,rfl,qW,qW,qQ⟩,rfl,rfl,qQ⟩ trivial,?_⟩;have ha':=ha.mono (show 10000<=4294967296 by decide);have hb':=hb.mono (show 10000<=4294967296 by decide);have hcl':bM 10000 k (λi=>[.rs 6 (pn c i) (pg c i)]):=⟨λi hi=>⟨rfl,(hcl.1 i hi).2⟩,hcl.2⟩;have hol':cQ l (λi=>ag (ow o i)):=⟨λ_ _=>rfl,hol.2⟩;have hrg':((lo.le 4294967296/\hi.le 4294967296)/\bM 10000 k (λi=>[.rs 6 (pn c i) (pg c i)])/\cQ l (λi=>ag (ow o i))):=⟨⟨hlo.mono (by decide),hhi.mono (by decide)⟩,hcl',hol'⟩;have hrg3:((lo.le 10000/\hi.le 10000)/\bM 10000 k (λi=>[.rs 6 (pn c i) (pg c i)])/\cQ l (λi=>ag (ow o i))):=⟨⟨hlo,hhi⟩,hcl',hol'⟩;obtain⟨OK,hOK⟩:∃OK,OK=fO lo hi k c l o (ar a b):=⟨_,rfl⟩;obtain⟨S,hS⟩:∃S,S=bc lo hi k c l o:=⟨_,rfl⟩;have hSN:bc lo hi k (λi=>[.rs 6 (pn c i) (pg c i)]) l (λi=>ag (ow o i))=S:=by
   rw [hS];rfl
  obtain⟨C,hC⟩:∃C,C=ab (cN lo hi k c l o):=⟨_,rfl⟩;have hCN:ab (cN lo hi k (λi=>[.rs 6 (pn c i) (pg c i)]) l (λi=>ag (ow o i)))=C:=by
   rw [hC];rfl
  obtain⟨N,hNN⟩:∃N,N=(cN lo hi k c l o).length:=⟨_,rfl⟩;have hNNN:(cN lo hi k (λi=>[.rs 6 (pn c i) (pg c i)]) l (λi=>ag (ow o i))).length=N:=by
   rw [hNN];rfl
  obtain⟨BE,hBE⟩:∃BE,BE=ig lo hi k c l o a b:=⟨_,rfl⟩;obtain⟨BP,hBP⟩:∃BP,BP=dl lo hi k c l o a b:=⟨_,rfl⟩;obtain⟨BL,hBL⟩:∃BL,BL=gw lo hi k c l o a b:=⟨_,rfl⟩;show zd _ _ _ _ _ ⟨_,.tup [.agg [.rs 6 (dl lo hi k c l o a b).length (λi=>(ab (dl lo hi k c l o a b) i).cells),.rs 2 (gw lo hi k c l o a b).length (λi=>aF (qL (gw lo hi k c l o a b) i))],.val (.int .i64 (ig lo hi k c l o a b))],[]⟩;rw [<-hBE,<-hBP,<-hBL];have e0:BE=bif OK then bif S a a&&S b b then bif bE a b then 12 else 0 else 16 else 1:=by rw [hBE,ig,<-hOK,<-hS]
  have e1:BP=bif BE==0 then aR a b C N else []:=by rw [hBP,dl,<-hBE,<-hC,<-hNN]
  have e2:BL=aX S (ab BP) BP.length BP.length:=by rw [hBL,gw,<-hBP,<-hS]
  have hN:N<=500:=by
   rw [hNN];exact Nat.le_trans (mH _ _) hN0
  have cn:∀r:Nat->List PV,ae r 0=a->ae r 1=b->aD (λi=>!ah (ae r i)) 2=(!ah a||!ah b):=λr h h'=>by
   have e:List.range 2=[0,1]:=rfl;simp only [aD,e,List.any_cons,List.any_nil,Bool.or_false,h,h']
  have p2:∀r:Nat->List PV,r 0=a.cells->r 1=b.cells->isPL 4294967296 2 r:=λr h h'=>⟨λi hi=>by
   match i,hi with
   |0,_=>exact⟨by rw [ae,h];rfl,by rw [ae,h];exact ha'⟩
   |1,_=>exact⟨by rw [ae,h'];rfl,by rw [ae,h'];exact hb'⟩
   |i+2,h=>omega,by decide⟩
  have q1:∀r:Nat->List PV,ae r 0=a->ae r 1=b->((bT lo hi k (pn (λi=>[.rs 6 (pn c i) (pg c i)])) (λi=>ae (pg (λi=>[.rs 6 (pn c i) (pg c i)]) i)) l (ow (λi=>ag (ow o i)))==0)&&!aD (λi=>!ah (ae r i)) 2)=OK:=λr h h'=>by
   rw [cn r h h',hOK,Bool.and_comm];rfl
  have z:∀B:Bool,(bW B != 0)=true->B=false:=λB h=>by cases B<;>first|rfl|cases h
  have z':∀B:Bool,(bW B != 0)=false->B=true:=λB h=>by cases B<;>first|rfl|cases h
  have bad:BE≠0->BP.length=0/\BL.length=0:=λh=>by
   have h0:(BE==0)=false:=by simpa using h
   have h1:BP=[]:=by rw [e1,h0];rfl
   exact⟨by rw [h1];rfl,by rw [e2,h1];rfl⟩
  have sA:∀B,B=S->∀x y,B x y=S x y:=λB h x y=>by rw [h]
  have neq:∀B:Bool,(!B)=true->B=false:=λB h=>by simpa using h
  have neq':∀B:Bool,(!B)=false->B=true:=λB h=>by simpa using h
  have h57:((lo.le 10000/\hi.le 10000)/\bM 10000 k (λi=>[.rs 6 (pn c i) (pg c i)])/\cQ l (λi=>ag (ow o i)))/\(au lo hi k (λi=>[.rs 6 (pn c i) (pg c i)]) l (λi=>ag (ow o i))).length<=500:=⟨hrg3,hN0⟩;have hrow:∀i,i < N->(C i).cells=(ab (cN lo hi k (λi=>[.rs 6 (pn c i) (pg c i)]) l (λi=>ag (ow o i))) i).cells:=λi _=>by rw [hCN]
  have hlen:PV.val (.int .i64 ((cN lo hi k (λi=>[.rs 6 (pn c i) (pg c i)]) l (λi=>ag (ow o i))).length:Int))=PV.val (goInt N):=by
   rw [hNNN];rfl
  have r0:∀r:Nat->List PV,r 0=a.cells->r 1=b.cells->∀i,i < 2->(ab (aR a b C 0) i).cells=r i:=λr h h' i hi=>by
   match i,hi with
   |0,_=>exact h.symm
   |1,_=>exact h'.symm
  have hCle:∀i,i < N->(C i).le 10000:=by
   rw [hNN,hC];exactλi hi=>f7 (rR hcl) hi
  with_unfolding_all refine⟨⟨hrg',p2 _ rfl rfl⟩,λh1=>?_,λh1=>?_⟩
  ·have h2:OK=false:=(q1 _ rfl rfl).symm.trans (z _ h1);have hb1:BE=1:=by rw [e0,h2];rfl
   have hb0:BE≠0:=by rw [hb1];decide
   have v2:∀B,B=OK->PV.val (.int .i64 (bW B))=PV.val (.int .i64 BE):=λB h=>by rw [h,h2,hb1];rfl
   with_unfolding_all exact⟨[some 3],aa [(6,.ptr 0 0 0 0),(7,.val (.int .i64 BE))] [⟨37,2,0,true,false,1,λ_=>[.rs 6 BP.length (λi=>(ab BP i).cells),.rs 2 BL.length (λi=>aF (qL BL i))]⟩] 1 [],Wo ⟨qZ ⟨⟨⟨rfl,(bad hb0).1⟩,rfl⟩,⟨⟨rfl,(bad hb0).2⟩,rfl⟩,qQ⟩,qQ⟩ ⟨pP,v2 _ (q1 _ rfl rfl),qQ⟩ trivial,rfl,rfl⟩
  ·have hk:OK=true:=(q1 _ rfl rfl).symm.trans (z' _ h1);have b16:S a a=false\/S b b=false->BE=16:=λh=>by
    rw [e0,hk];rcases h with h|h
    ·rw [h];rfl
    ·rw [h,Bool.and_false];rfl
   have b12:S a a=true->S b b=true->bE a b=true->BE=12:=λh h' h2=>by rw [e0,hk,h,h',h2];rfl
   have n16:BE=16->BE≠0:=λh=>by rw [h];decide
   have n12:BE=12->BE≠0:=λh=>by rw [h];decide
   have v16:BE=16->PV.val (.int .i64 16)=PV.val (.int .i64 BE):=λh=>by rw [h]
   have v12:BE=12->PV.val (.int .i64 12)=PV.val (.int .i64 BE):=λh=>by rw [h]
   have fs:∀x,(!bc lo hi k (λi=>[.rs 6 (pn c i) (pg c i)]) l (λi=>ag (ow o i)) x x)=true->S x x=false:=λx h=>by rw [<-hSN];exact neq _ h
   have ft:∀x,(!bc lo hi k (λi=>[.rs 6 (pn c i) (pg c i)]) l (λi=>ag (ow o i)) x x)=false->S x x=true:=λx h=>by rw [<-hSN];exact neq' _ h
   with_unfolding_all refine⟨⟨hrg3,⟨a,rfl,ha⟩,a,rfl,ha⟩,λh2=>⟨⟨hrg3,⟨b,rfl,hb⟩,b,rfl,hb⟩,λh3=>⟨[some 3],aa [(6,.ptr 0 0 0 0),(7,.val (.int .i64 BE))] [⟨37,2,0,true,false,1,λ_=>[.rs 6 BP.length (λi=>(ab BP i).cells),.rs 2 BL.length (λi=>aF (qL BL i))]⟩] 1 [],Wo ⟨qZ ⟨⟨⟨rfl,(bad (n16 (b16 (.inr (fs b h3))))).1⟩,rfl⟩,⟨⟨rfl,(bad (n16 (b16 (.inr (fs b h3))))).2⟩,rfl⟩,qQ⟩,qQ⟩ ⟨pP,v16 (b16 (.inr (fs b h3))),qQ⟩ trivial,rfl,rfl⟩,λh3=>⟨λh4=>⟨[some 3],aa [(6,.ptr 0 0 0 0),(7,.val (.int .i64 BE))] [⟨37,2,0,true,false,1,λ_=>[.rs 6 BP.length (λi=>(ab BP i).cells),.rs 2 BL.length (λi=>aF (qL BL i))]⟩] 1 [],Wo ⟨qZ ⟨⟨⟨rfl,(bad (n12 (b12 (ft a h2) (ft b h3) h4))).1⟩,rfl⟩,⟨⟨rfl,(bad (n12 (b12 (ft a h2) (ft b h3) h4))).2⟩,rfl⟩,qQ⟩,qQ⟩ ⟨pP,v12 (b12 (ft a h2) (ft b h3) h4),qQ⟩ trivial,rfl,rfl⟩,λh4=>⟨h57,Nat,λj=>(OK=true/\S a a=true/\S b b=true/\bE a b=false)/\j<=N,λj=>aa [(3,.ptr 0 0 0 0),(4,.ptr 1 1 0 0),(5,.ptr 2 2 0 0),(6,.ptr 3 3 0 0),(9,.ptr 4 4 0 0),(46,.rs 6 N (λi=>(C i).cells)),(47,.val (goInt N)),(48,.val (goInt j))] [⟨31,14,0,true,false,1,λ_=>bq lo hi k c l o⟩,⟨25,6,1,true,false,1,λ_=>a.cells⟩,⟨25,6,2,true,false,1,λ_=>b.cells⟩,⟨37,2,3,true,false,1,λ_=>[.val (.slice none 0 0),.val (.slice none 0 0)]⟩,⟨37,2,4,true,false,1,λ_=>[.sl 5 5 0 (aR a b C j).length,.val (.slice none 0 0)]⟩,⟨25,6,5,false,false,(aR a b C j).length,λi=>(ab (aR a b C j) i).cells⟩] 6 [],λj=>N - j,⟨0,[some 0,some 1,some 2,some 3,some 6,some 5],⟨⟨hk,ft a h2,ft b h3,h4⟩,Nat.zero_le _⟩,Wo ⟨qZ ⟨rq,rq,rq,rq,rq,rq,rq,rq,rq,rq,rq,rq,⟨qW,rfl⟩,⟨qW,rfl⟩,qQ⟩,qK,qK,qJ,qZ ⟨⟨pP,rfl⟩,rq,qQ⟩,qZ (r0 _ rfl rfl),qQ⟩ ⟨pP,pP,pP,pP,pP,⟨rfl,hNNN,hrow⟩,hlen,rfl,qQ⟩ trivial⟩,λj hj=>?_⟩⟩⟩,λh2=>⟨λ_=>⟨[some 3],aa [(6,.ptr 0 0 0 0),(7,.val (.int .i64 BE))] [⟨37,2,0,true,false,1,λ_=>[.rs 6 BP.length (λi=>(ab BP i).cells),.rs 2 BL.length (λi=>aF (qL BL i))]⟩] 1 [],Wo ⟨qZ ⟨⟨⟨rfl,(bad (n16 (b16 (.inl (fs a h2))))).1⟩,rfl⟩,⟨⟨rfl,(bad (n16 (b16 (.inl (fs a h2))))).2⟩,rfl⟩,qQ⟩,qQ⟩ ⟨pP,v16 (b16 (.inl (fs a h2))),qQ⟩ trivial,rfl,rfl⟩,λh=>(nomatch h)⟩⟩
   obtain⟨⟨g1,g2,g3,g4⟩,hjN⟩:(OK=true/\S a a=true/\S b b=true/\bE a b=false)/\j<=N:=hj;with_unfolding_all refine⟨λh1=>?_,λh1=>?_⟩
   ·have h1:(j:Int) < N:=bN h1;have ej:(j:Int).toNat=j:=Int.toNat_natCast j;have hjN1:j+1<=N:=by omega
    have hμ : N - (j+1) < N - j:=by omega
    have hkl:=f9 a b C j;have wj:PV.val (.int .i64 (IntKind.i64.wrap ((j:Int)+1)))=PV.val (.int .i64 ((j+1:Nat):Int)):=by
     rw [wrap64 (by omega) (by omega)];rfl
    have e3:bE (C j) a=false->bE (C j) b=false->aR a b C (j+1)=aR a b C j++[C j]:=λh h'=>by rw [aR,h,h'];rfl
    have e4:(!bE (C j) a&&!bE (C j) b)=false->aR a b C (j+1)=aR a b C j:=λh=>by rw [aR,h];exact List.append_nil _
    have hn0:(!bE (C (j:Int).toNat) a&&!bE (C (j:Int).toNat) b)=false->(aR a b C (j+1)).length=(aR a b C j).length:=λh=>by
     rw [ej] at h;rw [e4 h]
    have hr0:(!bE (C (j:Int).toNat) a&&!bE (C (j:Int).toNat) b)=false->∀i,i < (aR a b C j).length->(ab (aR a b C (j+1)) i).cells=(ab (aR a b C j) i).cells:=λh=>by
     rw [ej] at h;rw [e4 h];exactλ_ _=>rfl
    have hnA:bE (C (j:Int).toNat) a=false->bE (C (j:Int).toNat) b=false->(aR a b C (j+1)).length=(aR a b C j).length+1:=λh h'=>by
     rw [ej] at h h';rw [e3 h h',List.length_append];rfl
    have hr1:bE (C (j:Int).toNat) a=false->bE (C (j:Int).toNat) b=false->∀r:Nat->List PV,r 0=(C (j:Int).toNat).cells->∀i,i < (aR a b C j).length+1->(ab (aR a b C (j+1)) i).cells=gM (aR a b C j).length (λi=>(ab (aR a b C j) i).cells) r i:=λh h' r hr=>by
     rw [ej] at h h' hr;rw [e3 h h'];exact Bk hr
    have k1:((aR a b C j).length+1)*80<=140737488355328:=by omega
    have k2:(aR a b C j).length+1<=9223372036854775807:=by omega
    have n1:∀x y:Bool,(!y)=false->(!x&&!y)=false:=λx y h=>by rw [h,Bool.and_false]
    have n2:∀x y:Bool,(!x)=false->(!x&&!y)=false:=λx y h=>by rw [h];rfl
    with_unfolding_all exact⟨⟨Int.natCast_nonneg j,h1⟩,λh2=>⟨λh3=>⟨⟨rfl,k1,k2⟩,⟨j+1,[some 0,some 1,some 2,some 3,some 4,some 5],⟨⟨g1,g2,g3,g4⟩,hjN1⟩,hμ,Wo ⟨qZ ⟨rq,rq,rq,rq,rq,rq,rq,rq,rq,rq,rq,rq,⟨qW,rfl⟩,⟨qW,rfl⟩,qQ⟩,qK,qK,qJ,qZ ⟨⟨⟨rfl,rfl,(hnA (neq _ h2) (neq _ h3)).symm,aN rfl,_,rfl⟩,rfl⟩,rq,qQ⟩,⟨aN rfl,rfl,rfl,rfl,rfl,(hnA (neq _ h2) (neq _ h3)),hr1 (neq _ h2) (neq _ h3) _ rfl⟩,qQ⟩ ⟨pP,pP,pP,pP,pP,qW,rfl,wj,qQ⟩ trivial⟩⟩,λh3=>⟨j+1,[some 0,some 1,some 2,some 3,some 4,some 5],⟨⟨g1,g2,g3,g4⟩,hjN1⟩,hμ,Wo ⟨qZ ⟨rq,rq,rq,rq,rq,rq,rq,rq,rq,rq,rq,rq,⟨qW,rfl⟩,⟨qW,rfl⟩,qQ⟩,qK,qK,qJ,qZ ⟨⟨⟨rfl,rfl,(hn0 (n1 _ _ h3)).symm,aN rfl,_,rfl⟩,rfl⟩,rq,qQ⟩,⟨aN rfl,rfl,rfl,rfl,rfl,(hn0 (n1 _ _ h3)),hr0 (n1 _ _ h3)⟩,qQ⟩ ⟨pP,pP,pP,pP,pP,qW,rfl,wj,qQ⟩ trivial⟩⟩,λh2=>⟨λh=>(nomatch h),λ_=>⟨j+1,[some 0,some 1,some 2,some 3,some 4,some 5],⟨⟨g1,g2,g3,g4⟩,hjN1⟩,hμ,Wo ⟨qZ ⟨rq,rq,rq,rq,rq,rq,rq,rq,rq,rq,rq,rq,⟨qW,rfl⟩,⟨qW,rfl⟩,qQ⟩,qK,qK,qJ,qZ ⟨⟨⟨rfl,rfl,(hn0 (n2 _ _ h2)).symm,aN rfl,_,rfl⟩,rfl⟩,rq,qQ⟩,⟨aN rfl,rfl,rfl,rfl,rfl,(hn0 (n2 _ _ h2)),hr0 (n2 _ _ h2)⟩,qQ⟩ ⟨pP,pP,pP,pP,pP,qW,rfl,wj,qQ⟩ trivial⟩⟩⟩
   ·have h1:(N:Int)<=j:=dC h1;have hb0:BE=0:=by rw [e0,g1,g2,g3,g4];rfl
    have hBPk:aR a b C j=BP:=by
     rw [show j=N by omega,e1,hb0];rfl
    have hl3:(aR a b C j).length=BP.length:=by rw [hBPk]
    have hr3:∀i,i < (aR a b C j).length->(ab BP i).cells=(ab (aR a b C j) i).cells:=λi _=>by rw [hBPk]
    have v69:PV.val (.int .i64 (((aR a b C j).length:Nat):Int))=PV.val (goInt BP.length):=by
     rw [hBPk];rfl
    have hBl:BP.length<=502:=by
     have:=f9 a b C j;rw [<-hBPk];omega
    have hBall:∀i,i < BP.length->(ab BP i).le 10000:=λi hi=>by
     unfold ab;rw [List.getElem?_eq_getElem hi];exact iI (j:=j) ha hb (λi hi=>hCle i (by omega)) _ (by rw [hBPk];exact List.getElem_mem hi)
    clear hBPk;with_unfolding_all refine⟨Nat,λi=>i<=BP.length,λi=>aa [(3,.ptr 0 0 0 0),(6,.ptr 1 1 0 0),(9,.ptr 2 2 0 0),(68,.sl 3 3 0 BP.length),(69,.val (goInt BP.length)),(70,.val (goInt i))] [⟨31,14,0,true,false,1,λ_=>bq lo hi k c l o⟩,⟨37,2,1,true,false,1,λ_=>[.val (.slice none 0 0),.val (.slice none 0 0)]⟩,⟨37,2,2,true,false,1,λ_=>[.sl 3 3 0 BP.length,.sl 4 4 0 (aX S (ab BP) BP.length i).length]⟩,⟨25,6,3,false,false,BP.length,λt=>(ab BP t).cells⟩,⟨46,2,4,false,false,(aX S (ab BP) BP.length i).length,λt=>aF (qL (aX S (ab BP) BP.length i) t)⟩] 5 [],λi=>BP.length - i,⟨0,[some 0,some 3,some 4,some 5,none],Nat.zero_le _,Wo ⟨qZ ⟨rq,rq,rq,rq,rq,rq,rq,rq,rq,rq,rq,rq,⟨qW,rfl⟩,⟨qW,rfl⟩,qQ⟩,qJ,qZ ⟨⟨⟨rfl,rfl,hl3,aN rfl,_,rfl⟩,rfl⟩,⟨⟨rfl,rfl,rfl,rfl,aN rfl⟩,rfl⟩,qQ⟩,⟨aN rfl,rfl,rfl,rfl,rfl,hl3.symm,hr3⟩,⟨aN rfl,rfl,rfl,rfl⟩,qQ⟩ ⟨pP,pP,pP,⟨rfl,rfl,hl3,aN rfl,_,rfl⟩,v69,rfl,qQ⟩ trivial⟩,λi hiB=>?_⟩
    replace hiB:i<=BP.length:=hiB;with_unfolding_all refine⟨λh1=>?_,λh1=>?_⟩
    ·have h1:(i:Int) < BP.length:=bN h1;have ei:(i:Int).toNat=i:=Int.toNat_natCast i;have hj0:(aX S (ab BP) BP.length i++bu S (ab BP) i 0).length=(aX S (ab BP) BP.length i).length:=by rw [bu,List.append_nil]
     have hr0:∀t,t < (aX S (ab BP) BP.length i).length->aF (qL (aX S (ab BP) BP.length i++bu S (ab BP) i 0) t)=aF (qL (aX S (ab BP) BP.length i) t):=λt _=>by rw [bu,List.append_nil]
     have w14:PV.val (.int .i64 (IntKind.i64.wrap ((i:Int)+1)))=PV.val (goInt (i+1+0)):=by
      rw [wrap64 (by omega) (by omega)];rfl
     have cx:∀x y:PtS,x=y->PV.val (.bool x.x.s)=PV.val (.bool y.x.s)/\PV.val (.string x.x.b)=PV.val (.string y.x.b)/\PV.val (.string x.x.c)=PV.val (.string y.x.c)/\PV.val (.bool x.y.s)=PV.val (.bool y.y.s)/\PV.val (.string x.y.b)=PV.val (.string y.y.b)/\PV.val (.string x.y.c)=PV.val (.string y.y.c):=λx y h=>by rw [h];exact⟨rfl,rfl,rfl,rfl,rfl,rfl⟩
     have c6:=cx (ab BP (0+(i:Int).toNat)) (ab BP i) (by rw [Nat.zero_add,ei]);with_unfolding_all refine⟨⟨Int.natCast_nonneg i,h1⟩,Nat,λd=>i+1+d<=BP.length,λd=>aa [(3,.ptr 0 0 0 0),(6,.ptr 1 1 0 0),(9,.ptr 2 2 0 0),(12,.val (goInt i)),(13,.ptr 5 5 0 0),(14,.val (goInt (i+1+d))),(68,.sl 3 3 0 BP.length),(69,.val (goInt BP.length)),(70,.val (goInt i))] [⟨31,14,0,true,false,1,λ_=>bq lo hi k c l o⟩,⟨37,2,1,true,false,1,λ_=>[.val (.slice none 0 0),.val (.slice none 0 0)]⟩,⟨37,2,2,true,false,1,λ_=>[.sl 3 3 0 BP.length,.sl 4 4 0 (aX S (ab BP) BP.length i++bu S (ab BP) i d).length]⟩,⟨25,6,3,false,false,BP.length,λt=>(ab BP t).cells⟩,⟨46,2,4,false,false,(aX S (ab BP) BP.length i++bu S (ab BP) i d).length,λt=>aF (qL (aX S (ab BP) BP.length i++bu S (ab BP) i d) t)⟩,⟨25,6,5,true,false,1,λ_=>(ab BP i).cells⟩] 6 [],λd=>BP.length - d,⟨0,[some 0,some 1,some 2,some 3,some 4,some 5],by show i+1+0<=BP.length;omega,Wo ⟨qZ ⟨rq,rq,rq,rq,rq,rq,rq,rq,rq,rq,rq,rq,⟨qW,rfl⟩,⟨qW,rfl⟩,qQ⟩,qJ,qZ ⟨⟨pP,rfl⟩,⟨⟨rfl,rfl,hj0.symm,aN rfl,_,rfl⟩,rfl⟩,qQ⟩,qZ (λ_ _=>rfl),⟨aN rfl,rfl,rfl,rfl,rfl,hj0,hr0⟩,qZ ⟨⟨c6.1,rfl⟩,⟨c6.2.1,rfl⟩,⟨c6.2.2.1,rfl⟩,⟨c6.2.2.2.1,rfl⟩,⟨c6.2.2.2.2.1,rfl⟩,⟨c6.2.2.2.2.2,rfl⟩,qQ⟩,qQ⟩ ⟨pP,pP,pP,rfl,pP,w14,pP,rfl,rfl,qQ⟩ trivial⟩,λd hd=>?_⟩
     have hdB:i+1+d<=BP.length:=hd;with_unfolding_all refine⟨λh2=>?_,λh2=>?_⟩
     ·have h2:(i:Int)+1+d < BP.length:=bN h2;have eT:0+((i:Int)+1+d).toNat=i+1+d:=by omega
      have hdB1:i+1+(d+1)<=BP.length:=by omega
      have hμd:BP.length - (d+1) < BP.length - d:=by omega
      have hbI:=lJ S (ab BP) BP.length i;have hbJ:=lI S (ab BP) i d;have hii:i*BP.length<=502*502:=Nat.mul_le_mul (by omega) hBl;have hlj:(aX S (ab BP) BP.length i++bu S (ab BP) i d).length<=502*502+502:=by
       rw [List.length_append];omega
      have wd:PV.val (.int .i64 (IntKind.i64.wrap ((i:Int)+1+d+1)))=PV.val (goInt ((i:Int)+1+((d+1:Nat):Int))):=by
       rw [wrap64 (by omega) (by omega)];exact congrArg (λz=>PV.val (.int .i64 z)) (by omega)
      have hs:∀t b,t=i+1+d->bc lo hi k (λi=>[.rs 6 (pn c i) (pg c i)]) l (λi=>ag (ow o i)) (ab BP i) (ab BP t)=b->S (ab BP i) (ab BP (i+1+d))=b:=λt b h h'=>by rw [<-h,<-hSN];exact h'
      have e3:S (ab BP i) (ab BP (i+1+d))=true->aX S (ab BP) BP.length i++bu S (ab BP) i (d+1)=aX S (ab BP) BP.length i++bu S (ab BP) i d++[((i:Int),((i+1+d:Nat):Int))]:=λh=>by rw [bu,h,List.append_assoc];rfl
      have e4:S (ab BP i) (ab BP (i+1+d))=false->aX S (ab BP) BP.length i++bu S (ab BP) i (d+1)=aX S (ab BP) BP.length i++bu S (ab BP) i d:=λh=>by
       rw [bu,h];exact congrArg _ (List.append_nil _)
      have hn0:S (ab BP i) (ab BP (i+1+d))=false->(aX S (ab BP) BP.length i++bu S (ab BP) i (d+1)).length=(aX S (ab BP) BP.length i++bu S (ab BP) i d).length:=λh=>by rw [e4 h]
      have hr0:S (ab BP i) (ab BP (i+1+d))=false->∀t,t < (aX S (ab BP) BP.length i++bu S (ab BP) i d).length->aF (qL (aX S (ab BP) BP.length i++bu S (ab BP) i (d+1)) t)=aF (qL (aX S (ab BP) BP.length i++bu S (ab BP) i d) t):=λh=>by
       rw [e4 h];exactλ_ _=>rfl
      have hnA:S (ab BP i) (ab BP (i+1+d))=true->(aX S (ab BP) BP.length i++bu S (ab BP) i (d+1)).length=(aX S (ab BP) BP.length i++bu S (ab BP) i d).length+1:=λh=>by
       rw [e3 h,List.length_append];rfl
      have hr1:S (ab BP i) (ab BP (i+1+d))=true->∀r:Nat->List PV,r 0=[.val (.int .i64 (i:Int)),.val (.int .i64 ((i:Int)+1+d))]->∀t,t < (aX S (ab BP) BP.length i++bu S (ab BP) i d).length+1->aF (qL (aX S (ab BP) BP.length i++bu S (ab BP) i (d+1)) t)=gM (aX S (ab BP) BP.length i++bu S (ab BP) i d).length (λt=>aF (qL (aX S (ab BP) BP.length i++bu S (ab BP) i d) t)) r t:=λh r hr=>by
       rw [e3 h];refine yC (hr.trans ?_);rw [aF,show(i:Int)+1+d=((i+1+d:Nat):Int) by omega]
      have k1:((aX S (ab BP) BP.length i++bu S (ab BP) i d).length+1)*16<=140737488355328:=by omega
      have k2:(aX S (ab BP) BP.length i++bu S (ab BP) i d).length+1<=9223372036854775807:=by omega
      have pk1:isPk 10000 (ab BP i).v:=⟨_,rfl,hBall i (by omega)⟩;have pk2:isPk 10000 (ab BP (0+((i:Int)+1+d).toNat)).v:=⟨_,rfl,hBall _ (by omega)⟩;with_unfolding_all exact⟨⟨by omega,h2⟩,⟨hrg3,pk1,pk2⟩,λh3=>⟨⟨rfl,k1,k2⟩,⟨d+1,[some 0,some 1,some 2,some 3,some 4,some 5],hdB1,hμd,Wo ⟨qZ ⟨rq,rq,rq,rq,rq,rq,rq,rq,rq,rq,rq,rq,⟨qW,rfl⟩,⟨qW,rfl⟩,qQ⟩,qJ,qZ ⟨⟨pP,rfl⟩,⟨⟨rfl,rfl,(hnA (hs (0+((i:Int)+1+d).toNat) _ eT h3)).symm,aN rfl,_,rfl⟩,rfl⟩,qQ⟩,qZ (λ_ _=>rfl),⟨aN rfl,rfl,rfl,rfl,rfl,(hnA (hs (0+((i:Int)+1+d).toNat) _ eT h3)),hr1 (hs (0+((i:Int)+1+d).toNat) _ eT h3) _ rfl⟩,qK,qQ⟩ ⟨pP,pP,pP,rfl,pP,wd,pP,rfl,rfl,qQ⟩ trivial⟩⟩,λh3=>⟨d+1,[some 0,some 1,some 2,some 3,some 4,some 5],hdB1,hμd,Wo ⟨qZ ⟨rq,rq,rq,rq,rq,rq,rq,rq,rq,rq,rq,rq,⟨qW,rfl⟩,⟨qW,rfl⟩,qQ⟩,qJ,qZ ⟨⟨pP,rfl⟩,⟨⟨rfl,rfl,(hn0 (hs (0+((i:Int)+1+d).toNat) _ eT h3)).symm,aN rfl,_,rfl⟩,rfl⟩,qQ⟩,qZ (λ_ _=>rfl),⟨aN rfl,rfl,rfl,rfl,rfl,(hn0 (hs (0+((i:Int)+1+d).toNat) _ eT h3)),hr0 (hs (0+((i:Int)+1+d).toNat) _ eT h3)⟩,qK,qQ⟩ ⟨pP,pP,pP,rfl,pP,wd,pP,rfl,rfl,qQ⟩ trivial⟩⟩
     ·have h2:(BP.length:Int)<=(i:Int)+1+d:=dC h2;have hd:d=BP.length - (i+1):=by omega
      have hiB1:i+1<=BP.length:=by omega
      have hμi:BP.length - (i+1) < BP.length - i:=by omega
      have wi:PV.val (.int .i64 (IntKind.i64.wrap ((i:Int)+1)))=PV.val (goInt ((i+1:Nat):Int)):=by
       rw [wrap64 (by omega) (by omega)];rfl
      have e3:aX S (ab BP) BP.length (i+1)=aX S (ab BP) BP.length i++bu S (ab BP) i d:=by rw [hd,aX]
      have hn0:(aX S (ab BP) BP.length (i+1)).length=(aX S (ab BP) BP.length i++bu S (ab BP) i d).length:=by rw [e3]
      have hr0:∀t,t < (aX S (ab BP) BP.length i++bu S (ab BP) i d).length->aF (qL (aX S (ab BP) BP.length (i+1)) t)=aF (qL (aX S (ab BP) BP.length i++bu S (ab BP) i d) t):=λt _=>by rw [e3]
      with_unfolding_all exact⟨i+1,[some 0,some 1,some 2,some 3,some 4],hiB1,hμi,Wo ⟨qZ ⟨rq,rq,rq,rq,rq,rq,rq,rq,rq,rq,rq,rq,⟨qW,rfl⟩,⟨qW,rfl⟩,qQ⟩,qJ,qZ ⟨⟨pP,rfl⟩,⟨⟨rfl,rfl,hn0.symm,aN rfl,_,rfl⟩,rfl⟩,qQ⟩,qZ (λ_ _=>rfl),⟨aN rfl,rfl,rfl,rfl,rfl,hn0,hr0⟩,qQ⟩ ⟨pP,pP,pP,pP,rfl,wi,qQ⟩ trivial⟩
    ·have h1:(BP.length:Int)<=i:=dC h1;have hi2:i=BP.length:=by omega
     have e5:aX S (ab BP) BP.length i=BL:=by rw [e2,hi2]
     have v7:PV.val (.int .i64 0)=PV.val (.int .i64 BE):=by rw [hb0]
     have rp:∀t,t < BP.length->(ab BP t).cells=(ab BP (0+t)).cells:=λt _=>by rw [Nat.zero_add]
     have rl:∀t,t < BL.length->aF (qL BL t)=aF (qL (aX S (ab BP) BP.length i) (0+t)):=λt _=>by rw [e5,Nat.zero_add]
     with_unfolding_all exact⟨[some 1],aa [(6,.ptr 0 0 0 0),(7,.val (.int .i64 BE))] [⟨37,2,0,true,false,1,λ_=>[.rs 6 BP.length (λi=>(ab BP i).cells),.rs 2 BL.length (λi=>aF (qL BL i))]⟩] 1 [],Wo ⟨qZ ⟨⟨⟨by simp,_,rfl,rfl,rfl,rfl,rp⟩,rfl⟩,⟨⟨by simp,_,rfl,rfl,rfl,congrArg List.length e5,rl⟩,rfl⟩,qQ⟩,qQ⟩ ⟨pP,v7,qQ⟩ trivial,rfl,rfl⟩
 ·cases e
end Go.Proofs
namespace Go.Num
theorem jp {p u:PtS} (h:bg p u < 0):¬bg u p < 0:=by
 rw [fZ] at *
 rintro (k|⟨e,k⟩)<;>rcases h with h|⟨e2,h⟩<;>grind
theorem wN {V L:List PtS} (hp:L.Perm V) (hV:∀p∈V,p.le 10000) (hL:L.Pairwise λx y=>bg x y < 0):aQ V=L:=by
 refine List.Perm.eq_of_pairwise (le:=λx y=>¬bg y x < 0) (λa b ha hb h1 h2=>?_) (kW hV) (hL.imp λh=>jp h) ((d8 V).trans hp.symm);have ha:a∈L:=hp.mem_iff.2 ((d8 V).mem_iff.1 ha);obtain⟨i,hi,rfl⟩:=List.mem_iff_getElem.1 ha;obtain⟨j,hj,rfl⟩:=List.mem_iff_getElem.1 hb;rw [List.pairwise_iff_getElem] at hL;rcases Nat.lt_trichotomy i j with h|h|h
 ·exact absurd (hL i j hi hj h) h2
 ·subst h;rfl
 ·exact absurd (hL j i hj hi h) h1
end Go.Num
namespace Go.Proofs
def eX:PtS:=⟨⟨false,⟨#[]⟩,⟨#[]⟩⟩,⟨false,⟨#[]⟩,⟨#[]⟩⟩⟩
def br (x y:Int):PtS:=pv (mkRat x 1) (mkRat y 1)
def eY:PtS:=br 10 10
def H5:List PV:=(br 4 4).cells++((br 6 4).cells++((br 6 6).cells++(br 4 6).cells))
def lj:Nat->List PV:=λ_=>[.rs 6 4 (λi=>fy 6 H5 (0+i))]
def lK:Nat->List PV:=λ_=>ag (0,0,0)
def yE:List PtS:=[br 0 5,br 10 5,br 4 4,br 4 6,br 6 4,br 6 6]
def GA:List (Int×Int):=[(0,2),(0,3),(1,4),(1,5),(2,3),(2,4),(3,5),(4,5)]
def zf:Nat->List PV:=λi=>(ab yE i).cells
def mO:Nat->List PV:=λi=>aF (qL GA i)
theorem x1:fO eX eY 1 lj 1 lK (ar (br 0 5) (br 10 5))=true:=by kernel_rfl
theorem x2:bc eX eY 1 lj 1 lK (br 0 5) (br 10 5)=false:=by kernel_rfl
theorem x3:au eX eY 1 lj 1 lK=[br 4 4,br 6 4,br 6 6,br 4 6]:=by kernel_rfl
theorem x4:cN eX eY 1 lj 1 lK=[br 4 4,br 4 6,br 6 4,br 6 6]:=by
 have h:aQ [br 4 4,br 6 4,br 6 6,br 4 6]=[br 4 4,br 4 6,br 6 4,br 6 6] :=
  wN (.cons _ (List.perm_append_comm (l₁:=[br 4 6]) (l₂:=[br 6 4,br 6 6]))) (of_decide_eq_true (by kernel_rfl)) (of_decide_eq_true (by kernel_rfl))
 have h2:aU (ab [br 4 4,br 4 6,br 6 4,br 6 6]) 4=[br 4 4,br 4 6,br 6 4,br 6 6]:=by kernel_rfl
 unfold cN;rw [x3,h];exact h2
theorem x5:ig eX eY 1 lj 1 lK (br 0 5) (br 10 5)=0:=by kernel_rfl
theorem x6:dl eX eY 1 lj 1 lK (br 0 5) (br 10 5)=yE:=by
 have h2:aR (br 0 5) (br 10 5) (ab [br 4 4,br 4 6,br 6 4,br 6 6]) 4=yE:=by kernel_rfl
 unfold dl;rw [x5,x4];exact h2
theorem x7:gw eX eY 1 lj 1 lK (br 0 5) (br 10 5)=GA:=by
 have h2:aX (bc eX eY 1 lj 1 lK) (ab yE) 6 6=GA:=by kernel_rfl
 unfold gw;rw [x6];exact h2
theorem x8:Du eX eY 1 lj 1 lK 6 zf 8 mO=true:=by kernel_rfl
theorem x9:pI eX eY 1 lj 1 lK 6 zf 8 mO=GA:=by kernel_rfl
theorem wZ (x y:Int) (hx:x.natAbs < 256) (hy:y.natAbs < 256):(br x y).le 10000:=by
 have q:∀z:Int,z.natAbs < 256->QB 1 (mkRat z 1):=λz hz=>by
  have e:mkRat z 1=(z:Rat):=by simp [Rat.mkRat_one]
  rw [e];exact⟨hz,show(1:Nat) < 256^1 by decide⟩
 exact⟨(q x hx).rs.mono (by decide),(q y hy).rs.mono (by decide)⟩
theorem F2 (x y:Int) (hx:x.natAbs < 256) (hy:y.natAbs < 256):isPk 10000 (br x y).v:=⟨_,rfl,wZ x y hx hy⟩
theorem H6:bM 10000 1 lj:=⟨λi _=>⟨rfl,λi hi=>by
  match i,hi with
  |0,_=>exact⟨rfl,wZ 4 4 (by decide) (by decide)⟩
  |1,_=>exact⟨rfl,wZ 6 4 (by decide) (by decide)⟩
  |2,_=>exact⟨rfl,wZ 6 6 (by decide) (by decide)⟩
  |3,_=>exact⟨rfl,wZ 4 6 (by decide) (by decide)⟩
  |i+4,h=>exact absurd h (show ¬i+4 < 4 by omega),show(4:Nat)<=140737488355328 by decide⟩,by decide⟩
def H7:List PV:=bq eX eY 1 lj 1 lK
theorem yF:isRg 10000 H7:=⟨rfl,⟨⟨⟨by decide,by decide⟩,by decide,by decide⟩,wZ 10 10 (by decide) (by decide)⟩,H6,λi _=>rfl,by decide⟩
def H8:List PV->Option Ans
 |[]=>some ⟨none,.agg H7,[]⟩
 |_=>none
theorem H9:am {} Tryz.f53 0=true:=by kernel_rfl
theorem f53:FnOk Tryz.prog 53 H8:=by
 refine FnOk.ofW aj (an (l:=[(52,Gr)]) (own:=[]) (inl:=[]) (by simp [f52]) (by simp)) Tryz.func53 {} 0 H9 λargs r e=>?_;unfold H8 at e;split at e
 ·cases e;refine⟨by simp,λhm=>?_⟩;refine⟨[],aa [] [] 0 [],Wo trivial trivial trivial,?_⟩;have b:∀x:Int,0<=x/\x < 100->(-9223372036854775808<=x/\x < 9223372036854775808):=λx h=>by omega
  have z1:∀(g h:Nat->List PV),g 0=h 0->∀i,i < 1->g i=h (0+i):=λg h e i hi=>by
   obtain rfl:i=0:=by omega
   exact e
  with_unfolding_all exact⟨⟨b 10 (by decide),b 10 (by decide)⟩,⟨b 4 (by decide),b 4 (by decide)⟩,⟨b 6 (by decide),b 4 (by decide)⟩,⟨b 6 (by decide),b 6 (by decide)⟩,⟨b 4 (by decide),b 6 (by decide)⟩,[some 0],aa [(0,.ptr 0 0 0 0)] [⟨31,14,0,true,false,1,λ_=>H7⟩] 1 [],Wo ⟨qZ ⟨rq,rq,rq,rq,rq,rq,rq,rq,rq,rq,rq,rq,⟨⟨by simp,_,rfl,rfl,rfl,rfl,z1 _ _ rfl⟩,rfl⟩,⟨⟨by simp,_,rfl,rfl,rfl,rfl,z1 _ _ rfl⟩,rfl⟩,qQ⟩,qQ⟩ ⟨pP,qQ⟩ trivial,rfl,rfl⟩
 ·cases e
theorem C7:isPL 10000 6 zf:=⟨λi hi=>by
 match i,hi with
 |0,_=>exact⟨rfl,wZ 0 5 (by decide) (by decide)⟩
 |1,_=>exact⟨rfl,wZ 10 5 (by decide) (by decide)⟩
 |2,_=>exact⟨rfl,wZ 4 4 (by decide) (by decide)⟩
 |3,_=>exact⟨rfl,wZ 4 6 (by decide) (by decide)⟩
 |4,_=>exact⟨rfl,wZ 6 4 (by decide) (by decide)⟩
 |5,_=>exact⟨rfl,wZ 6 6 (by decide) (by decide)⟩
 |i+6,h=>exact absurd h (show ¬i+6 < 6 by omega),by decide⟩
theorem yG:iO 8 mO:=⟨λ_ _=>rfl,by decide⟩
theorem AK {r:Nat->List PV} (h0:r 0=mO 0) (h1:r 1=mO 1) (h2:r 2=mO 2) (h3:r 3=mO 3) (h4:r 4=mO 4) (h5:r 5=mO 5) (h6:r 6=mO 6) (h7:r 7=mO 7):∀i,i < 8->r i=mO i:=λi hi=>by
 match i,hi with
 |0,_=>exact h0
 |1,_=>exact h1
 |2,_=>exact h2
 |3,_=>exact h3
 |4,_=>exact h4
 |5,_=>exact h5
 |6,_=>exact h6
 |7,_=>exact h7
 |i+8,h=>exact absurd h (show ¬i+8 < 8 by omega)
theorem yH {r:Nat->List PV} (h:∀i,i < 8->r i=mO i):iO 8 r:=⟨λi hi=>by
 have e:=h i hi;rw [gB,e];rfl,by decide⟩
theorem sa (x:Int×Int):Num.eqQ x x=true:=by
 unfold Num.eqQ;rw [beq_self_eq_true,beq_self_eq_true];rfl
theorem Bl {g r:Nat->List PV} {n:Nat} (hn:n=8) (hg:∀i,i < 8->g i=mO i) (h:∀i,i < 8->r i=mO i):(decide (n=8)&&!aD (λi=>!Num.eqQ (gB g i) (gB r i)) n)=true:=by
 subst hn;rw [ay.2 λi hi=>by rw [gB,gB,hg i hi,h i hi,sa];rfl];rfl
def GB:List PV->Option Ans
 |[]=>some ⟨none,.val (.bool true),[]⟩
 |_=>none
def D13:Opt:={ perm:=jl [(2,(.rd 1 (.rd 2 (.mk 0 (.mk 3 (.rd 4 (.rd 5 (.rd 6 .nil)))))))),(3,(.rd 1 (.rd 2 (.alt 0 (.alt 3 (.rd 4 (.rd 5 (.rd 6 (.mk 7 .nil)))) (.mk 7 (.mk 3 (.rd 4 (.rd 5 (.rd 6 .nil)))))) (.mk 7 (.mk 0 (.mk 3 (.rd 4 (.rd 5 (.rd 6 .nil)))))))))),(4,(.rd 1 (.mk 0 (.mk 2 (.rd 3 (.rd 4 (.rd 5 .nil)))))))],join:=λc=>match c with | .region 3 _ _=>true|_=>false }
theorem Ia:am D13.toOrd Tryz.f13 0=true:=by kernel_rfl
theorem f13:FnOk Tryz.prog 13 GB:=by
 refine FnOk.ofW aj (an (l:=[(52,Gr),(53,H8),(21,Gy),(14,Gz),(18,H2),(54,Hi),(44,Hk)]) (own:=[]) (inl:=[]) (by simp [f52,f53,f21,f14,f18,f54,f44]) (by simp)) Tryz.func13 D13 0 Ia λargs r e=>?_;unfold GB at e;split at e
 ·cases e;refine⟨by simp,λhm=>?_⟩;refine⟨[],aa [] [] 0 [],Wo trivial trivial trivial,?_⟩;have b:∀x:Int,0<=x/\x < 100->(-9223372036854775808<=x/\x < 9223372036854775808):=λx h=>by omega
  have pa:isPk 10000 (br 0 5).v:=F2 0 5 (by decide) (by decide);have pb:isPk 10000 (br 10 5).v:=F2 10 5 (by decide) (by decide);have pc:(au eX eY 1 lj 1 lK).length<=500:=by rw [x3];decide
  with_unfolding_all refine⟨⟨b 0 (by decide),b 5 (by decide)⟩,⟨b 10 (by decide),b 5 (by decide)⟩,⟨yF,pa,pb⟩,?_⟩
  have v3:PV.val (.bool (bc eX eY 1 lj 1 lK (br 0 5) (br 10 5)))=PV.val (.bool false):=by rw [x2]
  have v4:PV.val (.int .i64 (bW (fO eX eY 1 lj 1 lK (ar (br 0 5) (br 10 5)))))=PV.val (.int .i64 0):=by
   rw [x1];rfl
  have v6:PV.val (.int .i64 (ig eX eY 1 lj 1 lK (br 0 5) (br 10 5)))=PV.val (.int .i64 0):=by rw [x5]
  have w1:(dl eX eY 1 lj 1 lK (br 0 5) (br 10 5)).length=6:=by
   rw [x6];rfl
  have w2:∀i,i < 6->zf i=(ab (dl eX eY 1 lj 1 lK (br 0 5) (br 10 5)) i).cells:=λi _=>by
   rw [x6];rfl
  have w3:(gw eX eY 1 lj 1 lK (br 0 5) (br 10 5)).length=8:=by
   rw [x7];rfl
  have w4:∀i,i < 8->mO i=aF (qL (gw eX eY 1 lj 1 lK (br 0 5) (br 10 5)) i):=λi _=>by
   rw [x7];rfl
  with_unfolding_all refine⟨Unit,λ_=>True,λ_=>aa [(0,.val (.bool false)),(3,.val (.bool false)),(4,.val (.int .i64 0)),(5,.ptr 0 0 0 0),(6,.val (.int .i64 0))] [⟨37,2,0,true,false,1,λ_=>[.rs 6 6 zf,.rs 2 8 mO]⟩] 1 [],⟨⟨⟨⟨⟨yF,pa,pb⟩,pc⟩,⟨(),[some 2],trivial,Wo ⟨qZ ⟨⟨⟨rfl,w1,w2⟩,rfl⟩,⟨⟨rfl,w3,w4⟩,rfl⟩,qQ⟩,qQ⟩ ⟨rfl,v3,v4,pP,v6,qQ⟩ trivial⟩⟩,⟨⟨⟨yF,pa,pb⟩,pc⟩,⟨(),[some 2],trivial,Wo ⟨qZ ⟨⟨⟨rfl,w1,w2⟩,rfl⟩,⟨⟨rfl,w3,w4⟩,rfl⟩,qQ⟩,qQ⟩ ⟨rfl,v3,v4,pP,v6,qQ⟩ trivial⟩⟩⟩,⟨⟨⟨yF,pa,pb⟩,pc⟩,⟨(),[some 2],trivial,Wo ⟨qZ ⟨⟨⟨rfl,w1,w2⟩,rfl⟩,⟨⟨rfl,w3,w4⟩,rfl⟩,qQ⟩,qQ⟩ ⟨rfl,v3,v4,pP,v6,qQ⟩ trivial⟩⟩⟩,λ_ _=>?_⟩
  have F3:(bW (Du eX eY 1 lj 1 lK 6 zf 8 mO)==0)=true:=by
   rw [x8];rfl
  have F6:bE (ab yE 2) (br 4 4)=true:=by kernel_rfl
  have ht:(pI eX eY 1 lj 1 lK 6 zf 8 mO).length=8:=by
   rw [x9];rfl
  have hg:∀i,i < 8->aF (qL (pI eX eY 1 lj 1 lK 6 zf 8 mO) i)=mO i:=λi _=>by
   rw [x9];rfl
  have qt:iO (pI eX eY 1 lj 1 lK 6 zf 8 mO).length (λi=>aF (qL (pI eX eY 1 lj 1 lK 6 zf 8 mO) i)):=by
   rw [ht];exact yH hg
  have v0:∀B,B=true->PV.val (.bool B)=PV.val (.bool true):=λB h=>by rw [h]
  have one:(0==(0:Int))=true:=rfl;with_unfolding_all exact⟨⟨yF,C7,yG⟩,⟨λh1=>⟨λh2=>⟨λh3=>⟨λh4=>⟨λh5=>⟨⟨by decide,by decide⟩,⟨b 4 (by decide),b 4 (by decide)⟩,⟨λh6=>⟨⟨yG,yH (AK rfl rfl rfl rfl rfl rfl rfl rfl)⟩,⟨λh7=>⟨⟨qt,yH (AK rfl rfl rfl rfl rfl rfl rfl rfl)⟩,[],aa [(0,.val (.bool true))] [] 0 [],Wo trivial ⟨v0 _ (Bl ht hg (AK rfl rfl rfl rfl rfl rfl rfl rfl)),qQ⟩ trivial,rfl,rfl⟩,λh=>absurd (h.symm.trans (Bl rfl (λ_ _=>rfl) (AK rfl rfl rfl rfl rfl rfl rfl rfl))) (by decide)⟩⟩,λh=>absurd (h.symm.trans F6) (by decide)⟩⟩,λh=>absurd (h.symm.trans rfl) (by decide)⟩,λh=>absurd (h.symm.trans rfl) (by decide)⟩,λh=>absurd (h.symm.trans F3) (by decide)⟩,λh=>absurd (h.symm.trans one) (by decide)⟩,λh=>absurd (h.symm.trans one) (by decide)⟩⟩
 ·cases e
end Go.Proofs
namespace Go.Num
theorem tZ (x y:Rat):ah (pv x y)=true:=by
 have h:∀q:Rat,bn (bz q).v=true:=λq=>by
  show fN (decide (q.num < 0)) (ai q.num.natAbs) (aP q.den) (aE (aw q))=true;have hb:∀x:ByteArray,(x==x)=true:=λ⟨x⟩=>by
   show(x==x)=true;exact beq_self_eq_true x
  rw [aC,fN,beq_self_eq_true,hb,hb];rfl
 unfold ah pv;show(bn (bz x).v&&bn (bz y).v)=true;rw [h,h];rfl
theorem C8 {m:Int} (h0:0<=m) (h1:m < 256):0<=Rat.divInt m 255/\Rat.divInt m 255<=1:=by
 have e:Rat.divInt m 255*255=(m:Rat):=by
  rw [Rat.divInt_eq_div];exact Rat.div_mul_cancel (by decide)
 have k0:(0:Rat)<=(m:Rat):=by exact_mod_cast h0
 have k1:(m:Rat)<=((255:Int):Rat):=Rat.intCast_le_intCast.2 (by omega);have k2:((255:Int):Rat)=255:=rfl;rw [k2] at k1;constructor<;>grind
theorem AL:∀m:Nat,m < 256->(Rat.divInt (m:Int) 255).num.natAbs < 256^2/\(Rat.divInt (m:Int) 255).den < 256^2:=by
 decide +kernel
theorem AM {m:Int} (h0:0<=m) (h1:m < 256):QB 2 (Rat.divInt m 255):=by
 obtain⟨n,rfl⟩:=Int.eq_ofNat_of_zero_le h0;exact AL n (by omega)
theorem F4 (a b:PtS) (r:RatS):(ze a b r).X=a.X+(b.X - a.X)*r.q:=by
 unfold ze tR rV cm;rw [i5,i5,i5]
theorem F5 (a b:PtS) (r:RatS):(ze a b r).Y=a.Y+(b.Y - a.Y)*r.q:=by
 unfold ze tR rV cm;rw [i6,i6,i6]
theorem C9 {i j k:Nat} {a b:PtS} {r:RatS} (h1:PtS.le i a) (h2:PtS.le j b) (h3:RatS.le k r):(ze a b r).le (i+(j+i+3+k+3)+3):=AC h1 (u0 (cj h2 h1) h3)
theorem t6 (a b:PtS) (r:RatS):ah (ze a b r)=true:=tZ _ _
theorem AN {lo hi:PtS} {k:Nat} {c:Nat->List PV} {l:Nat} {o:Nat->List PV} {a b:PtS} (hr:bT lo hi k (pn c) (λi=>ae (pg c i)) l (ow o)=0) (ha:ah a=true) (hb:ah b=true):bc lo hi k c l o b a=bc lo hi k c l o a b:=by
 rw [Bool.eq_iff_iff,dz hr hb ha,dz hr ha hb];exact⟨SeeM.symm,SeeM.symm⟩
theorem yI {lo hi:PtS} {k:Nat} {c:Nat->List PV} {l:Nat} {o:Nat->List PV} {a b d:PtS} {q:Rat} (hr:bT lo hi k (pn c) (λi=>ae (pg c i)) l (ow o)=0) (ha:ah a=true) (hb:ah b=true) (hd:ah d=true) (hx:d.X=a.X+(b.X - a.X)*q) (hy:d.Y=a.Y+(b.Y - a.Y)*q) (h0:0<=q) (h1:q<=1) (h:bc lo hi k c l o a b=true):(bc lo hi k c l o a d=true/\bc lo hi k c l o d b=true)/\bc lo hi k c l o a a=true/\bc lo hi k c l o b b=true/\bc lo hi k c l o d d=true:=by
 have m:=(dz hr ha hb).1 h;have m2:SeeM lo hi k c b d:=m.symm.part (q:=1 - q) (by grind) (by grind) (by grind) (by grind);exact⟨⟨(dz hr ha hd).2 (m.part h0 h1 hx hy),(dz hr hd hb).2 m2.symm⟩,(dz hr ha ha).2 m.self,(dz hr hb hb).2 m.symm.self,(dz hr hd hd).2 m2.symm.self⟩
theorem yJ {xs:List PV} {r:Nat->List PV} {a b:PtS} (h0:r 0=a.cells) (h1:r 1=b.cells) (h:rX xs 2 r=true) (hx:isRg 140737488355328 xs):isRg 12 xs/\(a.le 12/\b.le 12)/\(ah a=true/\ah b=true)/\bT (bO xs) (bP xs) (gK xs) (pn (gC xs)) (λi=>ae (pg (gC xs) i)) (gL xs) (ow (gO xs))=0:=by
 have p0:ae r 0=a:=by
  rw [ae,h0];rfl
 have p1:ae r 1=b:=by
  rw [ae,h1];rfl
 unfold rX gF at h;rw [Bool.and_eq_true,Bool.and_eq_true,Bool.not_eq_true',Bool.not_eq_true',Bool.or_eq_false_iff] at h;obtain⟨⟨⟨g1,g2⟩,g3⟩,g4⟩:=h;have b0:=(ay.1 g2) 0 (by decide);have b1:=(ay.1 g2) 1 (by decide);have c0:=(ay.1 g4) 0 (by decide);have c1:=(ay.1 g4) 1 (by decide);simp only [p0,p1] at b0 b1 c0 c1;exact⟨pH g1 hx,⟨fH b0,fH b1⟩,⟨by simpa using c0,by simpa using c1⟩,AG (eq_of_beq g3)⟩
theorem yK {xs:List PV} {r:Nat->List PV} {a b:PtS} (h:(!rX xs 2 r)=false) (h0:r 0=a.cells) (h1:r 1=b.cells) (hx:isRg 140737488355328 xs):isRg 12 xs/\(a.le 12/\b.le 12)/\(ah a=true/\ah b=true)/\bT (bO xs) (bP xs) (gK xs) (pn (gC xs)) (λi=>ae (pg (gC xs) i)) (gL xs) (ow (gO xs))=0 :=
 yJ h0 h1 (by simpa using h) hx
end Go.Num
namespace Go.Proofs
def c6:List PV->Option Ans
 |[.agg [.val (.bool s1),.val (.string b1),.val (.string c1),.val (.bool s2),.val (.string b2),.val (.string c2),.val (.bool s3),.val (.string b3),.val (.string c3),.val (.bool s4),.val (.string b4),.val (.string c4),.rs 1 k c,.rs 3 l o],.val v,.val u,.val (.int .u8 m)]=>some ⟨some ((PtS.le 140737488355328 (PtS.mk ⟨s1,b1,c1⟩ ⟨s2,b2,c2⟩)/\PtS.le 140737488355328 (PtS.mk ⟨s3,b3,c3⟩ ⟨s4,b4,c4⟩))/\bM 140737488355328 k c/\cQ l o/\isPk 140737488355328 v/\isPk 140737488355328 u/\0<=m/\m < 256),.val (.bool true),[]⟩
 |_=>none
def D6:Opt:={ join:=λc=>match c with | .region 5 _ _=>true | .region 10 _ _=>true | .region 11 _ _=>true | .region 13 _ _=>true|_=>false }
theorem IN:am D6.toOrd Tryz.f6 4=true:=by kernel_rfl
theorem f6:FnOk Tryz.prog 6 c6:=by
 refine FnOk.ofW aj (an (l:=[(17,HV),(13,GB),(21,Gy),(26,HZ),(27,GU),(28,HQ)]) (own:=[]) (inl:=[]) (by simp [f17,f13,f21,f26,f27,f28]) (by simp)) Tryz.func6 D6 4 IN λargs r e=>?_;unfold c6 at e;split at e
 ·rename_i s1 b1 c1 s2 b2 c2 s3 b3 c3 s4 b4 c4 k c l o v u m
  cases e;refine⟨by simp,λhm=>?_⟩;obtain⟨⟨hlo,hhi⟩,⟨hc,hk⟩,⟨ho,hl⟩,⟨a,rfl,ha⟩,⟨b,rfl,hb⟩,hm0⟩:=hm _ rfl;clear hm;obtain⟨lo,hlo'⟩:∃p,p=(PtS.mk ⟨s1,b1,c1⟩ ⟨s2,b2,c2⟩):=⟨_,rfl⟩;obtain⟨hi,hhi'⟩:∃p,p=(PtS.mk ⟨s3,b3,c3⟩ ⟨s4,b4,c4⟩):=⟨_,rfl⟩;have hc1:∀i,i < k->[.rs 6 (pn c i) (pg c i)]=c i:=λi hi=>(hc i hi).1.symm;have ho1:∀i,i < l->ag (ow o i)=o i:=λi hi=>(ho i hi).symm;refine⟨[],aa [(0,.agg (bq (PtS.mk ⟨s1,b1,c1⟩ ⟨s2,b2,c2⟩) (PtS.mk ⟨s3,b3,c3⟩ ⟨s4,b4,c4⟩) k c l o)),(1,.val a.v),(2,.val b.v),(3,.val (.int .u8 m))] [] 0 [],Wo trivial ⟨⟨rfl,rfl,rfl,rfl,rfl,rfl,rfl,rfl,rfl,rfl,rfl,rfl,⟨rfl,rfl,hc1⟩,⟨rfl,rfl,ho1⟩,qQ⟩,rfl,rfl,rfl,qQ⟩ trivial,?_⟩;rw [<-hlo'] at hlo ⊢;rw [<-hhi'] at hhi ⊢;clear hlo' hhi';have hX:isRg 140737488355328 (bq lo hi k c l o):=⟨rfl,⟨hlo,hhi⟩,⟨λi hi=>⟨rfl,(hc i hi).2⟩,hk⟩,λ_ _=>rfl,hl⟩;have p2:∀r:Nat->List PV,r 0=a.cells->r 1=b.cells->isPL 140737488355328 2 r:=λr h h'=>⟨λi hi=>by
   match i,hi with
   |0,_=>exact⟨by rw [ae,h];rfl,by rw [ae,h];exact ha⟩
   |1,_=>exact⟨by rw [ae,h'];rfl,by rw [ae,h'];exact hb⟩
   |i+2,h=>omega,by decide⟩
  with_unfolding_all refine⟨⟨hX,p2 _ rfl rfl⟩,λh1=>⟨[],aa [(8,.val (.bool true))] [] 0 [],Wo trivial ⟨rfl,qQ⟩ trivial,rfl,rfl⟩,λh1=>?_⟩
  obtain⟨hX12,⟨ha12,hb12⟩,⟨ca,cb⟩,hreg0⟩:=yK (a:=a) (b:=b) h1 rfl rfl hX;clear h1 p2;have hreg:bT lo hi k (pn c) (λi=>ae (pg c i)) l (ow o)=0:=hreg0;have hX4:isRg 10000 (bq lo hi k c l o):=hX12.mono (by decide);have pa:isPk 10000 a.v:=⟨a,rfl,ha12.mono (by decide)⟩;have pb:isPk 10000 b.v:=⟨b,rfl,hb12.mono (by decide)⟩;have hok:∀x y:PtS,ah x=true->ah y=true->fO lo hi k c l o (ar x y)=true:=λx y h h'=>by
   show(!(!ah x||!ah y)&&(bT lo hi k (pn c) (λi=>ae (pg c i)) l (ow o)==0))=true;rw [h,h',hreg];rfl
  have hE:∀x y:PtS,ah x=true->ah y=true->PV.val (.int .i64 (bW (fO lo hi k (λi=>[.rs 6 (pn c i) (pg c i)]) l (λi=>ag (ow o i)) (ar x y))))=PV.val (.int .i64 0):=λx y h h'=>by
   show PV.val (.int .i64 (bW (fO lo hi k c l o (ar x y))))=PV.val (.int .i64 0);rw [hok x y h h'];rfl
  have hV:∀x y:PtS,∀z:Bool,bc lo hi k c l o x y=z->PV.val (.bool (bc lo hi k (λi=>[.rs 6 (pn c i) (pg c i)]) l (λi=>ag (ow o i)) x y))=PV.val (.bool z):=λx y z h=>by
   show PV.val (.bool (bc lo hi k c l o x y))=_;rw [h]
  have hS:=AN (a:=a) (b:=b) hreg ca cb;with_unfolding_all refine⟨⟨hX4,pa,pb⟩,⟨hX4,pb,pa⟩,⟨Bool×Bool,λx=>x.1=bc lo hi k c l o a b/\x.2=bc lo hi k c l o a a,λx=>aa [(3,.val (.int .u8 m)),(4,.ptr 0 0 0 0),(5,.ptr 1 1 0 0),(6,.ptr 2 2 0 0),(8,.val (.bool false)),(9,.val (.bool x.1)),(10,.val (.int .i64 0)),(11,.val (.bool x.1)),(12,.val (.int .i64 0)),(13,.val (.bool x.2)),(14,.val (.int .i64 0))] [⟨31,14,0,true,false,1,λ_=>bq lo hi k c l o⟩,⟨25,6,1,true,false,1,λ_=>a.cells⟩,⟨25,6,2,true,false,1,λ_=>b.cells⟩] 3 [],?_,λx hx=>?_⟩⟩
  ·with_unfolding_all refine⟨⟨hX4,pa,pa⟩,(bc lo hi k c l o a b,bc lo hi k c l o a a),[some 0,some 1,some 2],rq,Wo ⟨qZ ⟨rq,rq,rq,rq,rq,rq,rq,rq,rq,rq,rq,rq,⟨qW,rfl⟩,⟨qW,rfl⟩,qQ⟩,qK,qK,qQ⟩ ⟨rfl,pP,pP,pP,rfl,hV _ _ _ rfl,hE _ _ ca cb,hV _ _ _ hS,hE _ _ cb ca,hV _ _ _ rfl,hE _ _ ca ca,qQ⟩ trivial⟩
  ·obtain⟨x,y⟩:=x;obtain⟨e1,e2⟩:=hx;obtain⟨q,hq⟩:∃q,q=Rat.divInt (IntKind.i64.wrap m) 255:=⟨_,rfl⟩;have hw:IntKind.i64.wrap m=m:=wrap64 (by omega) (by omega);have hq':q=Rat.divInt m 255:=by rw [hq,hw]
   have hqb:RatS.le 2 (bz q):=by
    rw [hq'];exact(AM hm0.1 hm0.2).rs
   have hq01:=C8 hm0.1 hm0.2;rw [<-hq'] at hq01;obtain⟨d,hd⟩:∃d,d=ze a b (bz q):=⟨_,rfl⟩;have cd:ah d=true:=by
    rw [hd];exact t6 _ _ _
   have pd:isPk 10000 d.v:=by
    rw [hd];exact⟨_,rfl,(C9 ha12 hb12 hqb).mono (by decide)⟩
   have hdX:d.X=a.X+(b.X - a.X)*q:=by rw [hd,F4,kT]
   have hdY:d.Y=a.Y+(b.Y - a.Y)*q:=by rw [hd,F5,kT]
   have pa1:isPk 1000 a.v:=⟨a,rfl,ha12.mono (by decide)⟩;have pb1:isPk 1000 b.v:=⟨b,rfl,hb12.mono (by decide)⟩;have pr1:isRk 1000 (bz q).v:=⟨_,_,_,rfl,Nat.le_trans hqb.1 (by decide),Nat.le_trans hqb.2 (by decide)⟩;have hB:∀z:Bool,bc lo hi k c l o a a=z->(!(z==bc lo hi k (λi=>[.rs 6 (pn c i) (pg c i)]) l (λi=>ag (ow o i)) a a))=true->False:=λz h kk=>by
    have e:bc lo hi k (λi=>[.rs 6 (pn c i) (pg c i)]) l (λi=>ag (ow o i)) a a=z:=h;rw [e] at kk;simp at kk
   have hF:∀z:PtS,bc lo hi k c l o z z=true->(bc lo hi k (λi=>[.rs 6 (pn c i) (pg c i)]) l (λi=>ag (ow o i)) z z = !true)->False:=λz h kk=>by
    have e:bc lo hi k (λi=>[.rs 6 (pn c i) (pg c i)]) l (λi=>ag (ow o i)) z z=true:=h;rw [e] at kk;cases kk
   have hR:PV.val (.bool (bz (Rat.divInt (IntKind.i64.wrap m) 255)).s)=PV.val (.bool (bz q).s)/\PV.val (.string (bz (Rat.divInt (IntKind.i64.wrap m) 255)).b)=PV.val (.string (bz q).b)/\PV.val (.string (bz (Rat.divInt (IntKind.i64.wrap m) 255)).c)=PV.val (.string (bz q).c):=by
    rw [hq];exact⟨rfl,rfl,rfl⟩
   have hD:=fI hd.symm;have nw:IntKind.i64.wrap m < 256/\0<=IntKind.i64.wrap m:=by omega
   cases x with
   |false=>with_unfolding_all refine⟨λ_=>⟨λ_=>⟨λ_=>⟨λ_=>⟨⟨hX4,pa⟩,λh=>(hB y e2.symm h).elim,λ_=>⟨λ_=>⟨[],aa [(8,.val (.bool true))] [] 0 [],Wo trivial ⟨rfl,qQ⟩ trivial,rfl,rfl⟩,λh=>(nomatch h)⟩⟩,λh=>(nomatch h)⟩,λh=>(nomatch h)⟩,λh=>(nomatch h)⟩,λh=>(nomatch h)⟩
   |true =>
    obtain⟨⟨s1,s2⟩,s3,s4,s5⟩:=yI hreg ca cb cd hdX hdY hq01.1 hq01.2 e1.symm;with_unfolding_all refine⟨λ_=>⟨λ_=>⟨λ_=>⟨λ_=>⟨⟨hX4,pa⟩,λh=>(hB y e2.symm h).elim,λ_=>⟨λh=>(nomatch h),λ_=>⟨Unit,λ_=>True,λ_=>aa [(4,.ptr 0 0 0 0),(5,.ptr 1 1 0 0),(6,.ptr 2 2 0 0),(8,.val (.bool false)),(15,.ptr 3 3 0 0)] [⟨31,14,0,true,false,1,λ_=>bq lo hi k c l o⟩,⟨25,6,1,true,false,1,λ_=>a.cells⟩,⟨25,6,2,true,false,1,λ_=>b.cells⟩,⟨23,3,3,true,false,1,λ_=>(bz q).cells⟩] 4 [],?_,λ_ _=>?_⟩⟩⟩,λh=>(nomatch h)⟩,λh=>(nomatch h)⟩,λh=>(nomatch h)⟩,λh=>(nomatch h)⟩
    ·with_unfolding_all refine⟨⟨⟨by omega,by omega⟩,by decide,by decide⟩,(),[some 0,some 1,some 2,some 3],trivial,Wo ⟨qZ ⟨rq,rq,rq,rq,rq,rq,rq,rq,rq,rq,rq,rq,⟨qW,rfl⟩,⟨qW,rfl⟩,qQ⟩,qK,qK,qZ ⟨⟨hR.1,rfl⟩,⟨hR.2.1,rfl⟩,⟨hR.2.2,rfl⟩,qQ⟩,qQ⟩ ⟨pP,pP,pP,rfl,pP,qQ⟩ trivial⟩
    ·with_unfolding_all refine⟨Unit,λ_=>True,λ_=>aa [(4,.ptr 0 0 0 0),(5,.ptr 1 1 0 0),(6,.ptr 2 2 0 0),(8,.val (.bool false)),(17,.ptr 3 3 0 0)] [⟨31,14,0,true,false,1,λ_=>bq lo hi k c l o⟩,⟨25,6,1,true,false,1,λ_=>a.cells⟩,⟨25,6,2,true,false,1,λ_=>b.cells⟩,⟨25,6,3,true,false,1,λ_=>d.cells⟩] 4 [],?_,λ_ _=>?_⟩
     ·with_unfolding_all refine⟨⟨pa1,pb1,pr1⟩,(),[some 0,some 1,some 2,some 4],trivial,Wo ⟨qZ ⟨rq,rq,rq,rq,rq,rq,rq,rq,rq,rq,rq,rq,⟨qW,rfl⟩,⟨qW,rfl⟩,qQ⟩,qK,qK,qZ ⟨⟨hD.1,rfl⟩,⟨hD.2.1,rfl⟩,⟨hD.2.2.1,rfl⟩,⟨hD.2.2.2.1,rfl⟩,⟨hD.2.2.2.2.1,rfl⟩,⟨hD.2.2.2.2.2,rfl⟩,qQ⟩,qQ⟩ ⟨pP,pP,pP,rfl,pP,qQ⟩ trivial⟩
     ·with_unfolding_all refine⟨⟨hX4,pa,pd⟩,⟨Unit,λ_=>True,λ_=>aa [(4,.ptr 0 0 0 0),(5,.ptr 1 1 0 0),(6,.ptr 2 2 0 0),(8,.val (.bool false)),(17,.ptr 3 3 0 0),(18,.val (.bool true)),(19,.val (.int .i64 0)),(20,.val (.bool true)),(21,.val (.int .i64 0))] [⟨31,14,0,true,false,1,λ_=>bq lo hi k c l o⟩,⟨25,6,1,true,false,1,λ_=>a.cells⟩,⟨25,6,2,true,false,1,λ_=>b.cells⟩,⟨25,6,3,true,false,1,λ_=>d.cells⟩] 4 [],?_,λ_ _=>?_⟩⟩
      ·with_unfolding_all refine⟨⟨hX4,pd,pb⟩,(),[some 0,some 1,some 2,some 3],trivial,Wo ⟨qZ ⟨rq,rq,rq,rq,rq,rq,rq,rq,rq,rq,rq,rq,⟨qW,rfl⟩,⟨qW,rfl⟩,qQ⟩,qK,qK,qK,qQ⟩ ⟨pP,pP,pP,rfl,pP,hV _ _ _ s1,hE _ _ ca cd,hV _ _ _ s2,hE _ _ cd cb,qQ⟩ trivial⟩
      ·with_unfolding_all exact⟨λ_=>⟨λ_=>⟨λ_=>⟨λ_=>⟨⟨hX4,pa⟩,λ_=>⟨⟨hX4,pb⟩,λ_=>⟨⟨hX4,pd⟩,λ_=>⟨[],aa [(8,.val (.bool true))] [] 0 [],Wo trivial ⟨rfl,qQ⟩ trivial,rfl,rfl⟩,λh=>(hF _ s5 h).elim⟩,λh=>(hF _ s4 h).elim⟩,λh=>(hF _ s3 h).elim⟩,λh=>(nomatch h)⟩,λh=>(nomatch h)⟩,λh=>(nomatch h)⟩,λh=>(nomatch h)⟩
 ·cases e
end Go.Proofs
namespace Go.Num
theorem t7 (a:Rat):(a < 0/\ao a 0 = -1)\/(0 < a/\ao a 0=1)\/(a=0/\ao a 0=0):=by
 unfold ao;split
 ·rename_i h
  exact .inl ⟨h,rfl⟩
 ·rename_i h
  split
  ·rename_i h2
   exact .inr (.inl ⟨h2,rfl⟩)
  ·rename_i h2
   exact .inr (.inr ⟨by grind,rfl⟩)
theorem yL {p u:RatS} (h:Dr p u=true):p=u:=by
 have be:∀x y:ByteArray,(x==y)=true->x=y:=λ⟨x⟩ ⟨y⟩ h=>by
  have h:(x==y)=true:=h;rw [eq_of_beq h]
 unfold Dr at h;simp only [Bool.and_true,Bool.and_eq_true] at h;obtain⟨h1,h2,h3⟩:=h;obtain⟨s,b,c⟩:=p;obtain⟨s',b',c'⟩:=u;have h1:=eq_of_beq h1;have h2:=be _ _ h2;have h3:=be _ _ h3;simp only at h1 h2 h3;rw [h1,h2,h3]
theorem t8 {p u:PtS} (h:bE p u=true):p=u:=by
 unfold bE at h;simp only [Bool.and_true,Bool.and_eq_true] at h;obtain⟨x,y⟩:=p;obtain⟨x',y'⟩:=u;have h1:=yL h.1;have h2:=yL h.2;simp only at h1 h2;rw [h1,h2]
theorem se {p u:PtS} (h:bE p u=true):p.X=u.X/\p.Y=u.Y:=by
 rw [t8 h];exact⟨rfl,rfl⟩
theorem mP {n:Nat} {p:Nat->PtS} (h:bh n p=0):(3<=n/\n<=64)/\(∀i,i < n->ah (p i)=true)/\∀e,e < n->∀i,i < n->dw (p e) (p ((e+1)%n)) (p i)=false:=by
 unfold bh at h;cases h1:(decide (n < 3)||decide (64 < n)) with
 |true=>rw [h1] at h;cases h
 |false =>
  rw [h1,cond_false] at h;cases h2:aD (λi=>!ah (p i)) n with
  |true=>rw [h2] at h;cases h
  |false =>
   rw [h2,cond_false] at h;cases h3:aD (λi=>mZ (p 0) (p (1+i))) (n - 1) with
   |true=>rw [h3] at h;cases h
   |false =>
    rw [h3,cond_false] at h;cases h4:aD (λe=>aD (λi=>dw (p e) (p ((e+1)%n)) (p i)) n) n with
    |true=>rw [h4] at h;cases h
    |false =>
     simp only [Bool.or_eq_false_iff,decide_eq_false_iff_not] at h1;exact⟨by omega,λi hi=>by simpa using (ay.1 h2) i hi,λe he i hi=>(ay.1 ((ay.1 h4) e he)) i hi⟩
theorem nZ {S:PtS->Bool} {p:Nat->PtS} {x:PtS}:∀{j:Nat},x∈cU S p j->∃t,t < j/\x=p t/\S x=true
 |0,h=>by cases h
 |j+1,h=>by
  rcases List.mem_append.1 h with h|h
  ·obtain⟨t,h1,h2⟩:=nZ h;exact⟨t,by omega,h2⟩
  ·cases hs:S (p j) with
   |true =>
    rw [hs] at h;have:=List.mem_singleton.1 h;exact⟨j,by omega,this,by rw [this];exact hs⟩
   |false=>rw [hs] at h;cases h
theorem fc {S:PtS->Bool} {n:Nat->Nat} {p:Nat->Nat->PtS} {x:PtS}:∀{i:Nat},x∈cD S n p i->∃s,s < i/\∃t,t < n s/\x=p s t/\S x=true
 |0,h=>by cases h
 |i+1,h=>by
  rcases List.mem_append.1 h with h|h
  ·obtain⟨s,h1,h2⟩:=fc h;exact⟨s,by omega,h2⟩
  ·obtain⟨t,h1,h2⟩:=nZ h;exact⟨i,by omega,t,h1,h2⟩
theorem n5 (S:PtS->Bool) (p:Nat->PtS):∀j,(cU S p j).length<=j
 |0=>Nat.le_refl _
 |j+1=>by
  have:=n5 S p j;rw [cU,List.length_append];cases S (p j)<;>simp<;>omega
theorem n7 (S:PtS->Bool) (n:Nat->Nat) (p:Nat->Nat->PtS):∀i,(cD S n p i).length<=cq n i
 |0=>Nat.le_refl _
 |i+1=>by
  have:=n7 S n p i;have:=n5 S (p i) (n i);rw [cD,List.length_append,cq];omega
theorem n8 {lo hi:PtS} {k:Nat} {c:Nat->List PV} {l:Nat} {o:Nat->List PV} {x:PtS} (h:x∈cN lo hi k c l o):x∈au lo hi k c l o:=by
 obtain⟨i,hi2,e⟩:=iC h;refine(d8 _).mem_iff.1 ?_;rw [e];unfold ab;rw [List.getElem?_eq_getElem (by rw [f5];exact hi2)];exact List.getElem_mem _
theorem kY {lo hi:PtS} {k:Nat} {c:Nat->List PV} {l:Nat} {o:Nat->List PV} (hr:bT lo hi k (pn c) (λi=>ae (pg c i)) l (ow o)=0) {x:PtS} (h:x∈au lo hi k c l o):ah x=true:=by
 obtain⟨s,hs,t,ht,e,_⟩:=fc h;rw [e];exact(mP (iH hr s hs)).2.1 t ht
theorem n9 {p q:PtS} {C:Nat->PtS} {x:PtS}:∀{j:Nat},x∈aR p q C j->x=p\/x=q\/∃i,i < j/\x=C i
 |0,h=>by
  rcases List.mem_cons.1 h with h|h
  ·exact .inl h
  ·exact .inr (.inl (List.mem_singleton.1 h))
 |j+1,h=>by
  rcases List.mem_append.1 h with h|h
  ·rcases n9 h with h|h|⟨i,h1,h2⟩
   ·exact .inl h
   ·exact .inr (.inl h)
   ·exact .inr (.inr ⟨i,by omega,h2⟩)
  ·cases hb:(!bE (C j) p&&!bE (C j) q) with
   |true =>
    rw [hb] at h;exact .inr (.inr ⟨j,by omega,List.mem_singleton.1 h⟩)
   |false=>rw [hb] at h;cases h
theorem yM {lo hi:PtS} {k:Nat} {n:Nat->Nat} {p:Nat->Nat->PtS} {l:Nat} {q:Nat->Int×Int×Int} (hr:bT lo hi k n p l q=0):k<=32:=by
 unfold bT at hr;cases h1:(!ah lo||!ah hi) with
 |true=>rw [h1] at hr;cases hr
 |false =>
  rw [h1,cond_false] at hr;cases h2:decide (32 < k) with
  |true=>rw [h2] at hr;cases hr
  |false=>have:=of_decide_eq_false h2;omega
theorem AO {lo hi:PtS} {k:Nat} {c:Nat->List PV} {l:Nat} {o:Nat->List PV} {a b:PtS} (ha:a.le 10000) (hb:b.le 10000) (h:bM 10000 k c):∀i,i < (dl lo hi k c l o a b).length->(ab (dl lo hi k c l o a b) i).le 10000:=λi hi2=>by
 refine f7 (λp hp=>?_) hi2;unfold dl at hp;cases hB:ig lo hi k c l o a b==0 with
 |false=>rw [hB] at hp;cases hp
 |true =>
  rw [hB] at hp;exact iI ha hb (λj hj=>f7 (rR h) hj) p hp
theorem j4 {r:RatS} (h:bn r.v=true):r=bz r.q:=by
 have be:∀x y:ByteArray,(x==y)=true->x=y:=λ⟨x⟩ ⟨y⟩ h=>by
  have h:(x==y)=true:=h;rw [eq_of_beq h]
 obtain⟨s,b,c⟩:=r;have h:fN s b c (aE (RatS.v ⟨s,b,c⟩))=true:=h;unfold fN at h;simp only [Bool.and_true,Bool.and_eq_true] at h;obtain⟨h1,h2,h3⟩:=h;have h1:=eq_of_beq h1;have h2:=be _ _ h2;have h3:=be _ _ h3;unfold RatS.q bz;generalize aE (RatS.v ⟨s,b,c⟩)=q at *
 rw [h1,h2,h3]
theorem sf {p u:PtS} (hp:ah p=true) (hu:ah u=true) (hx:p.X=u.X) (hy:p.Y=u.Y):p=u:=by
 unfold ah at hp hu;rw [Bool.and_eq_true] at hp hu;obtain⟨x,y⟩:=p;obtain⟨x',y'⟩:=u;have a1:=j4 hp.1;have a2:=j4 hp.2;have a3:=j4 hu.1;have a4:=j4 hu.2;simp only at a1 a2 a3 a4;have hx:x.q=x'.q:=hx;have hy:y.q=y'.q:=hy;rw [a1,a2,a3,a4,hx,hy]
theorem sg {p u:PtS} (h1:¬bg p u < 0) (h2:¬bg u p < 0):p.X=u.X/\p.Y=u.Y:=by
 rw [fZ] at h1 h2
 grind
theorem mQ {p u v:PtS} (h1:¬bg u p < 0) (h2:bg u v < 0):bg p v < 0:=by
 rw [fZ] at *
 grind
theorem j5 {p:Nat->PtS} {n:Nat} (hs:∀i j,i < j->j < n->¬bg (p j) (p i) < 0) (hc:∀i,i < n->ah (p i)=true):∀j,j<=n->(aU p j).Pairwise λx y=>bg x y < 0
 |0,_=>List.Pairwise.nil
 |j+1,hj=>by
  rw [aU,List.pairwise_append];refine⟨j5 hs hc j (by omega),?_,λx hx y hy=>?_⟩
  ·cases (j==0||!bE (p j) (p (j - 1)))<;>simp
  ·obtain⟨i,hi,e⟩:=iC hx;cases hb:(j==0||!bE (p j) (p (j - 1))) with
   |false=>rw [hb] at hy;cases hy
   |true =>
    rw [hb] at hy;rw [List.mem_singleton.1 hy,e];have hne:bE (p j) (p (j - 1))=false:=by
     have:(j==0)=false:=by simp;omega
     rw [this] at hb;simpa using hb
    have h1:bg (p (j - 1)) (p j) < 0:=by
     by_cases h:bg (p (j - 1)) (p j) < 0
     ·exact h
     ·have h2:=sg h (hs (j - 1) j (by omega) (by omega));have h3:=sf (hc (j - 1) (by omega)) (hc j (by omega)) h2.1 h2.2;rw [h3,ib] at hne;cases hne
    by_cases hij:i=j - 1
    ·rw [hij];exact h1
    ·exact mQ (hs i (j - 1) (by omega) (by omega)) h1
theorem kB {p:Nat->PtS} {i:Nat}:∀{n:Nat},i < n->p i∈aU p n
 |0,h=>by omega
 |n+1,h=>by
  rw [aU];by_cases e:i=n
  ·subst e;cases hb:(i==0||!bE (p i) (p (i - 1))) with
   |true=>exact List.mem_append_right _ (List.mem_singleton.2 rfl)
   |false =>
    have h2:i≠0/\bE (p i) (p (i - 1))=true:=by simpa using hb
    refine List.mem_append_left _ ?_;rw [t8 h2.2];exact kB (by omega)
  ·exact List.mem_append_left _ (kB (by omega))
theorem oa {S:PtS->Bool} {p:Nat->PtS} {t:Nat} (hS:S (p t)=true):∀{j:Nat},t < j->p t∈cU S p j
 |0,h=>by omega
 |j+1,h=>by
  rw [cU];by_cases e:t=j
  ·subst e;rw [hS];exact List.mem_append_right _ (List.mem_singleton.2 rfl)
  ·exact List.mem_append_left _ (oa hS (by omega))
theorem iJ {S:PtS->Bool} {n:Nat->Nat} {p:Nat->Nat->PtS} {s t:Nat} (ht:t < n s) (hS:S (p s t)=true):∀{i:Nat},s < i->p s t∈cD S n p i
 |0,h=>by omega
 |i+1,h=>by
  rw [cD];by_cases e:s=i
  ·subst e;exact List.mem_append_right _ (oa hS ht)
  ·exact List.mem_append_left _ (iJ ht hS (by omega))
theorem kC {L:List PtS} {i:Nat} (hi:i < L.length):ab L i∈L:=by
 unfold ab;rw [List.getElem?_eq_getElem hi];exact List.getElem_mem hi
theorem wO {L:List PtS} {x:PtS} (h:x∈L):∃i,i < L.length/\x=ab L i:=by
 obtain⟨i,hi,e⟩:=List.mem_iff_getElem.1 h;exact⟨i,hi,by rw [<-e,ab,List.getElem?_eq_getElem hi];rfl⟩
def Ib (n:Nat->Nat) (p:Nat->Nat->PtS) (k:Nat):List PtS:=cD (λ_=>true) n p k
theorem wP {lo hi:PtS} {k:Nat} {c:Nat->List PV} {l:Nat} {o:Nat->List PV} {x:PtS}:x∈cN lo hi k c l o↔x∈Ib (pn c) (λi=>ae (pg c i)) k/\bc lo hi k c l o x x=true:=by
 constructor
 ·intro h;obtain⟨s,hs,t,ht,e,hS⟩:=fc (n8 h);refine⟨?_,hS⟩;rw [e];exact iJ (S:=λ_=>true) (p:=λi=>ae (pg c i)) ht rfl hs
 ·rintro ⟨h,hS⟩;obtain⟨s,hs,t,ht,e,_⟩:=fc h;have hv:x∈au lo hi k c l o:=by
   rw [e] at hS ⊢;exact iJ (S:=λp=>bc lo hi k c l o p p) (p:=λi=>ae (pg c i)) ht hS hs
  obtain⟨i,hi2,e2⟩:=wO ((d8 _).mem_iff.2 hv);rw [e2];exact kB (by rw [f5] at hi2;exact hi2)
theorem pJ {lo hi:PtS} {k:Nat} {c:Nat->List PV} {l:Nat} {o:Nat->List PV} (hr:bT lo hi k (pn c) (λi=>ae (pg c i)) l (ow o)=0) (hc:bM 10000 k c):(cN lo hi k c l o).Pairwise λx y=>bg x y < 0:=by
 have hv:=jY (lo:=lo) (hi:=hi) (l:=l) (o:=o) hc;have hp:=List.pairwise_iff_getElem.1 (kW hv);refine j5 (λi j h1 h2=>?_) (λi hi2=>?_) _ (Nat.le_refl _)
 ·have hj:j < (aQ (au lo hi k c l o)).length:=by rw [f5];exact h2
  unfold ab;rw [List.getElem?_eq_getElem hj,List.getElem?_eq_getElem (by omega)];exact hp i j (by omega) hj h1
 ·exact kY hr ((d8 _).mem_iff.1 (kC (by rw [f5];exact hi2)))
def lk (a b:Rat):Rat:=if ao b a > 0 then b else a
def ll (a b:Rat):Rat:=if ao b a < 0 then b else a
def ob (A D:Nat->Rat):Nat->Option (Rat×Rat)
 |0=>some (0,1)
 |e+1=>match ob A D e with
  |none=>none
  |some s=>if ao (D e) 0=0 then(if ao (A e) 0<=0 then none else some s) else if ao (D e) 0 > 0 then some (lk s.1 (-A e / D e),s.2) else some (s.1,ll s.2 (-A e / D e))
def Dv (A D:Nat->Rat) (n:Nat):Bool:=match ob A D n with
 |none=>false
 |some s=>!decide (ao s.1 s.2>=0)
theorem yN {a d t:Rat} (hd:d≠0):a+d*t=d*(t - -a / d):=by
 have h : -a / d*d = -a:=Rat.div_mul_cancel hd
 grind
theorem AP {a d t:Rat} (hd:0 < d):0 < a+d*t ↔ -a / d < t:=by
 rw [yN (by grind)];constructor
 ·intro h;have:0 < t - -a / d:=fp (by rw [Rat.mul_comm];exact h) hd
  grind
 ·intro h;exact Rat.mul_pos hd (by grind)
theorem AQ {a d t:Rat} (hd:d < 0):0 < a+d*t↔t < -a / d:=by
 rw [yN (by grind),show d*(t - -a / d)=(-a / d - t) * -d by grind];constructor
 ·intro h;have:0 < -a / d - t:=fp h (by grind)
  grind
 ·intro h;exact Rat.mul_pos (by grind) (by grind)
theorem vd {a b t:Rat}:lk a b < t↔a < t/\b < t:=by
 unfold lk;split
 ·rename_i h
  have:=(j0 (a:=b) (b:=a)).1 (decide_eq_true h);constructor
  ·intro h2;exact⟨by grind,h2⟩
  ·exact(·.2)
 ·rename_i h
  have:¬a < b:=λk=>h (of_decide_eq_true ((j0 (a:=b) (b:=a)).2 k));constructor
  ·intro h2;exact⟨h2,by grind⟩
  ·exact(·.1)
theorem ve {a b t:Rat}:t < ll a b↔t < a/\t < b:=by
 unfold ll;split
 ·rename_i h
  have:=fY.1 h;constructor
  ·intro h2;exact⟨by grind,h2⟩
  ·exact(·.2)
 ·rename_i h
  have:¬b < a:=λk=>h (fY.2 k);constructor
  ·intro h2;exact⟨h2,by grind⟩
  ·exact(·.1)
theorem AR {a b:Rat}:a<=lk a b:=by
 rcases Rat.not_lt.1 (λh:lk a b < a=>by have:=(vd.1 h).1;exact Rat.lt_irrefl this) with h;exact h
theorem AS {a b:Rat}:ll a b<=a:=by
 rcases Rat.not_lt.1 (λh:a < ll a b=>by have:=(ve.1 h).1;exact Rat.lt_irrefl this) with h;exact h
def IvP (A D:Nat->Rat) (n:Nat) (t:Rat):Prop:=∀e,e < n->0 < A e+D e*t
theorem IvP.succ {A D:Nat->Rat} {n:Nat} {t:Rat}:IvP A D (n+1) t↔IvP A D n t/\0 < A n+D n*t:=by
 constructor
 ·intro h;exact⟨λe he=>h e (by omega),h n (by omega)⟩
 ·rintro ⟨h,k⟩ e he;by_cases x:e=n
  ·rw [x];exact k
  ·exact h e (by omega)
theorem sj {A D:Nat->Rat}:∀{n:Nat},(ob A D n=none->∀t:Rat,0 < t->t < 1->¬IvP A D n t)/\∀s,ob A D n=some s->(0<=s.1/\s.2<=1)/\∀t:Rat,0 < t->t < 1->(IvP A D n t↔s.1 < t/\t < s.2)
 |0=>⟨(λh=>by cases h),λs h=>by
   cases h;exact⟨⟨by decide,by decide⟩,λt h0 h1=>⟨λ_=>⟨h0,h1⟩,λ_ e he=>absurd he (Nat.not_lt_zero e)⟩⟩⟩
 |n+1=>by
  obtain⟨ih1,ih2⟩:=@sj A D n;rw [ob];cases hs:ob A D n with
  |none=>exact⟨λ_ t h0 h1 h=>ih1 hs t h0 h1 (IvP.succ.1 h).1,λs h=>by cases h⟩
  |some s =>
   obtain⟨⟨b0,b1⟩,ih⟩:=ih2 s hs;simp only;by_cases z:ao (D n) 0=0
   ·rw [if_pos z];have hz:=mF.1 z;by_cases y:ao (A n) 0<=0
    ·rw [if_pos y];refine⟨λ_ t h0 h1 h=>?_,λs h=>by cases h⟩;have h2:=(IvP.succ.1 h).2;rw [hz] at h2;have h3:0 < A n:=by grind
     have:=(ek (a:=A n)).2 h3;have:=of_decide_eq_true this;omega
    ·rw [if_neg y];refine⟨(λh=>by cases h),λs' h=>?_⟩;cases h;refine⟨⟨b0,b1⟩,λt h0 h1=>?_⟩;rw [IvP.succ,<-ih t h0 h1];have h3:0 < A n:=(ek (a:=A n)).1 (decide_eq_true (by omega));exact⟨(·.1),λh=>⟨h,by rw [hz];grind⟩⟩
   ·rw [if_neg z];by_cases y:ao (D n) 0 > 0
    ·rw [if_pos y];have hD:0 < D n:=(ek (a:=D n)).1 (decide_eq_true y);refine⟨(λh=>by cases h),λs' h=>?_⟩;cases h;refine⟨⟨Rat.le_trans b0 AR,b1⟩,λt h0 h1=>?_⟩;rw [IvP.succ,ih t h0 h1,AP hD];simp only [vd];exact⟨λh=>⟨⟨h.1.1,h.2⟩,h.1.2⟩,λh=>⟨⟨h.1.1,h.2⟩,h.1.2⟩⟩
    ·rw [if_neg y];have hD:D n < 0:=fY.1 (by omega);refine⟨(λh=>by cases h),λs' h=>?_⟩;cases h;refine⟨⟨b0,Rat.le_trans AS b1⟩,λt h0 h1=>?_⟩;rw [IvP.succ,ih t h0 h1,AQ hD];simp only [ve];exact⟨λh=>⟨h.1.1,h.1.2,h.2⟩,λh=>⟨⟨h.1,h.2.1⟩,h.2.2⟩⟩
theorem vf {A B D:Nat->Rat} {n:Nat} (hD:∀e,e < n->D e=B e - A e):Dv A D n=true↔Hit n A B:=by
 have hp:∀t:Rat,IvP A D n t↔∀e,e < n->0 < A e+(B e - A e)*t:=λt=>by
  constructor
  ·intro h e he;rw [<-hD e he];exact h e he
  ·intro h e he;rw [hD e he];exact h e he
 obtain⟨h1,h2⟩:=@sj A D n;unfold Dv Hit;cases hs:ob A D n with
 |none =>
  constructor
  ·intro h;cases h
  ·rintro ⟨t,k0,k1,k⟩;exact absurd ((hp t).2 k) (h1 hs t k0 k1)
 |some s =>
  obtain⟨⟨b0,b1⟩,ih⟩:=h2 s hs;have e:(!decide (ao s.1 s.2>=0))=true↔s.1 < s.2:=by
   rw [Bool.not_eq_true',decide_eq_false_iff_not,<-fY];omega
  rw [e];constructor
  ·intro h;refine⟨(s.1+s.2) / 2,?_,?_,(hp _).1 ((ih _ ?_ ?_).2 ⟨?_,?_⟩)⟩<;>grind
  ·rintro ⟨t,k0,k1,k⟩;have:=(ih t k0 k1).1 ((hp t).2 k)
   grind
def lr (n:Nat) (p:Nat->PtS) (v:PtS):Nat->Int
 |0=>1
 |e+1=>min (lr n p v e) (jW (p e) (p ((e+1)%n)) v)
theorem vg {n:Nat} {p:Nat->PtS} {v:PtS}:∀{j:Nat},lr n p v j<=1/\(lr n p v j=1↔∀e,e < j->0 < fu n p v e)
 |0=>⟨Int.le_refl _,λ_ e he=>absurd he (Nat.not_lt_zero e),λ_=>rfl⟩
 |j+1=>by
  obtain⟨h1,h2⟩:=@vg n p v j;have ho:jW (p j) (p ((j+1)%n)) v=ao (fu n p v j) 0:=rfl;rw [lr,ho];rcases t7 (fu n p v j) with ⟨h,k⟩|⟨h,k⟩|⟨h,k⟩
  ·rw [k];refine⟨by omega,⟨λe=>by omega,λe=>?_⟩⟩;have:=e j (by omega);exfalso;grind
  ·rw [k];refine⟨by omega,⟨λe t ht=>?_,λe=>?_⟩⟩
   ·by_cases x:t=j
    ·rw [x];exact h
    ·exact h2.1 (by omega) t (by omega)
   ·rw [h2.2 λt ht=>e t (by omega)];rfl
  ·rw [k];refine⟨by omega,⟨λe=>by omega,λe=>?_⟩⟩;have:=e j (by omega);exfalso;grind
def dN (i:Nat) (lo hi p:PtS):Bool:=match i with
 |0=>decide (ao p.X lo.X < 0)
 |1=>decide (ao hi.X p.X < 0)
 |2=>decide (ao p.Y lo.Y < 0)
 |_=>decide (ao hi.Y p.Y < 0)
theorem yO {i:Nat} {lo hi p:PtS}:dN i lo hi p=true↔0 < aL i lo hi p:=by
 match i with
 |0=>show decide (ao p.X lo.X < 0)=true↔0 < lo.X - p.X;rw [f8];constructor<;>intro h<;>grind
 |1=>show decide (ao hi.X p.X < 0)=true↔0 < p.X - hi.X;rw [f8];constructor<;>intro h<;>grind
 |2=>show decide (ao p.Y lo.Y < 0)=true↔0 < lo.Y - p.Y;rw [f8];constructor<;>intro h<;>grind
 |i+3=>show decide (ao hi.Y p.Y < 0)=true↔0 < p.Y - hi.Y;rw [f8];constructor<;>intro h<;>grind
theorem eZ {i:Nat} {lo hi p:PtS}:dN i lo hi p=false↔aL i lo hi p<=0:=by
 rw [<-Bool.not_eq_true,yO];exact Rat.not_lt
def gx (n:Nat) (p:Nat->PtS) (a b:PtS) (e:Nat):Rat:=cF (cm (p ((e+1)%n)) (p e)) (cm b a)
theorem vh (n:Nat) (p:Nat->PtS) (a b:PtS) (e:Nat):gx n p a b e=fu n p b e - fu n p a e:=by
 unfold gx fu pA cF cm;rw [i5,i6,i5,i6,i5,i6,i5,i6]
 grind
def kD (lo hi:PtS) (k:Nat) (n:Nat->Nat) (p:Nat->Nat->PtS) (a b:PtS):Bool:=aD (λi=>dN i lo hi a||dN i lo hi b) 4||aD (λi=>Dv (fu (n i) (p i) a) (gx (n i) (p i) a b) (n i)) k
def ap (lo hi:PtS) (k:Nat) (n:Nat->Nat) (p:Nat->Nat->PtS) (a:PtS):Bool:=!(aD (λi=>dN i lo hi a) 4||aD (λi=>lr (n i) (p i) a (n i)==1) k)
theorem yP {lo hi:PtS} {k:Nat} {c:Nat->List PV} {l:Nat} {o:Nat->List PV} {a b:PtS} (hr:bT lo hi k (pn c) (λi=>ae (pg c i)) l (ow o)=0) (ha:ah a=true) (hb:ah b=true):(!kD lo hi k (pn c) (λi=>ae (pg c i)) a b)=bc lo hi k c l o a b:=by
 rw [Bool.eq_iff_iff,dz hr ha hb];unfold kD;rw [Bool.not_eq_true',Bool.or_eq_false_iff,ay,ay];constructor
 ·rintro ⟨h1,h2⟩;refine⟨λi hi=>?_,λi hi=>?_,λi hi h=>?_⟩
  ·have:=h1 i hi;rw [Bool.or_eq_false_iff,eZ,eZ] at this;exact this.1
  ·have:=h1 i hi;rw [Bool.or_eq_false_iff,eZ,eZ] at this;exact this.2
  ·have:=h2 i hi;rw [(vf λe _=>vh _ _ _ _ e).2 h] at this;cases this
 ·intro h;refine⟨λi hi=>?_,λi hi=>?_⟩
  ·rw [Bool.or_eq_false_iff,eZ,eZ];exact⟨h.inA i hi,h.inB i hi⟩
  ·rw [<-Bool.not_eq_true,vf λe _=>vh _ _ _ _ e];exact h.clear i hi
theorem iK {lo hi:PtS} {k:Nat} {c:Nat->List PV} {l:Nat} {o:Nat->List PV} {a:PtS} (hr:bT lo hi k (pn c) (λi=>ae (pg c i)) l (ow o)=0) (ha:ah a=true):ap lo hi k (pn c) (λi=>ae (pg c i)) a=bc lo hi k c l o a a:=by
 rw [Bool.eq_iff_iff,dz hr ha ha];unfold ap;rw [Bool.not_eq_true',Bool.or_eq_false_iff,ay,ay];have hit:∀i,Hit (pn c i) (fu (pn c i) (ae (pg c i)) a) (fu (pn c i) (ae (pg c i)) a)↔(lr (pn c i) (ae (pg c i)) a (pn c i)==1)=true:=λi=>by
  rw [beq_iff_eq,vg.2];constructor
  ·rintro ⟨t,_,_,h⟩ e he;have:=h e he
   grind
  ·intro h;refine⟨1 / 2,by grind,by grind,λe he=>?_⟩;have:=h e he
   grind
 constructor
 ·rintro ⟨h1,h2⟩;refine⟨λi hi=>eZ.1 (h1 i hi),λi hi=>eZ.1 (h1 i hi),λi hi h=>?_⟩;have:=h2 i hi;rw [(hit i).1 h] at this;cases this
 ·intro h;refine⟨λi hi=>eZ.2 (h.inA i hi),λi hi=>?_⟩;rw [<-Bool.not_eq_true,<-hit];exact h.clear i hi
theorem sn {L M:List PtS} (hL:L.Pairwise λx y=>bg x y < 0) (hM:M.Pairwise λx y=>bg x y < 0) (h:∀x,x∈L↔x∈M):L=M:=by
 have nd:∀{K:List PtS},K.Pairwise (λx y=>bg x y < 0)->K.Nodup:=λhK=>hK.imp λ{a b} hab e=>by
  subst e;exact jp hab hab
 refine List.Perm.eq_of_pairwise (le:=λx y=>bg x y < 0) (λa b _ _ h1 h2=>absurd h2 (jp h1)) hL hM ?_;exact(List.perm_ext_iff_of_nodup (nd hL) (nd hM)).2 h
def Da (p u:RatS):RatS:=bif decide (ao u.q p.q > 0) then u else p
def Db (p u:RatS):RatS:=bif decide (ao u.q p.q < 0) then u else p
theorem F7 (s:Bool) (b c:ByteArray):aE (.agg ⟨[.bool (!s),.string b,.string c]⟩) = -aE (.agg ⟨[.bool s,.string b,.string c]⟩):=by
 show mkRat (aA (!s) (bv b)) (bt (bv c)) = -mkRat (aA s (bv b)) (bt (bv c));rw [Rat.neg_mkRat];congr 1;cases s<;>simp [aA]
end Go.Num
namespace Go.Proofs
def Dc:List PV->Option Ans
 |[.val (.agg ⟨[.bool s,.string b,.string c]⟩),.val (.agg ⟨[.bool s',.string b',.string c']⟩)]=>some ⟨some (isRk 1073741824 (.agg ⟨[.bool s,.string b,.string c]⟩)/\isRk 1073741824 (.agg ⟨[.bool s',.string b',.string c']⟩)),.val (.bool (decide (ao (aE (.agg ⟨[.bool s,.string b,.string c]⟩)) (aE (.agg ⟨[.bool s',.string b',.string c']⟩)) < 0))),[]⟩
 |_=>none
def D184:Opt:={  }
theorem F8:am D184.toOrd Tryz.f184 2=true:=by kernel_rfl
theorem f184:FnOk Tryz.prog 184 Dc:=by
 refine FnOk.ofW aj (an (l:=[(135,rK)]) (own:=[]) (inl:=[]) (by simp [f135]) (by simp)) Tryz.func184 D184 2 F8 λargs r e=>?_;unfold Dc at e;split at e
 ·rename_i s b c s' b' c'
  cases e;refine⟨by simp,λhm=>?_⟩;obtain⟨hv,hu⟩:=hm _ rfl;refine⟨[],aa [(0,.val (.agg ⟨[.bool s,.string b,.string c]⟩)),(1,.val (.agg ⟨[.bool s',.string b',.string c']⟩))] [] 0 [],Wo trivial ⟨rfl,rfl,qQ⟩ trivial,?_⟩;with_unfolding_all exact⟨⟨hv,hu⟩,⟨[],aa [(4,.val (.bool (decide (ao (aE (.agg ⟨[.bool s,.string b,.string c]⟩)) (aE (.agg ⟨[.bool s',.string b',.string c']⟩)) < 0))))] [] 0 [],Wo trivial ⟨rfl,qQ⟩ trivial,rfl,rfl⟩⟩
 ·cases e
def Dd:List PV->Option Ans
 |[.val (.agg ⟨[.bool s,.string b,.string c]⟩),.val (.agg ⟨[.bool s',.string b',.string c']⟩)]=>some ⟨some (isRk 1073741824 (.agg ⟨[.bool s,.string b,.string c]⟩)/\isRk 1073741824 (.agg ⟨[.bool s',.string b',.string c']⟩)),.val (Da ⟨s,b,c⟩ ⟨s',b',c'⟩).v,[]⟩
 |_=>none
def D190:Opt:={  }
theorem F9:am D190.toOrd Tryz.f190 2=true:=by kernel_rfl
theorem f190:FnOk Tryz.prog 190 Dd:=by
 refine FnOk.ofW aj (an (l:=[(135,rK)]) (own:=[]) (inl:=[]) (by simp [f135]) (by simp)) Tryz.func190 D190 2 F9 λargs r e=>?_;unfold Dd at e;split at e
 ·rename_i s b c s' b' c'
  cases e;refine⟨by simp,λhm=>?_⟩;obtain⟨hv,hu⟩:=hm _ rfl;refine⟨[],aa [(0,.val (.agg ⟨[.bool s,.string b,.string c]⟩)),(1,.val (.agg ⟨[.bool s',.string b',.string c']⟩))] [] 0 [],Wo trivial ⟨rfl,rfl,qQ⟩ trivial,?_⟩;have e1:decide (ao (aE (.agg ⟨[.bool s',.string b',.string c']⟩)) (aE (.agg ⟨[.bool s,.string b,.string c]⟩)) > 0)=true->RatS.mk s' b' c'=(Da ⟨s,b,c⟩ ⟨s',b',c'⟩):=λh=>by
   show _=bif decide (ao (aE (.agg ⟨[.bool s',.string b',.string c']⟩)) (aE (.agg ⟨[.bool s,.string b,.string c]⟩)) > 0) then RatS.mk s' b' c' else RatS.mk s b c;rw [h];rfl
  have e2:decide (ao (aE (.agg ⟨[.bool s',.string b',.string c']⟩)) (aE (.agg ⟨[.bool s,.string b,.string c]⟩)) > 0)=false->RatS.mk s b c=(Da ⟨s,b,c⟩ ⟨s',b',c'⟩):=λh=>by
   show _=bif decide (ao (aE (.agg ⟨[.bool s',.string b',.string c']⟩)) (aE (.agg ⟨[.bool s,.string b,.string c]⟩)) > 0) then RatS.mk s' b' c' else RatS.mk s b c;rw [h];rfl
  with_unfolding_all exact⟨⟨hu,hv⟩,λh=>⟨[some 2],aa [(4,.ptr 0 0 0 0)] [⟨23,3,0,true,false,1,λ_=>(Da ⟨s,b,c⟩ ⟨s',b',c'⟩).cells⟩] 1 [],Wo ⟨qZ ⟨⟨congrArg (λr:RatS=>PV.val (.bool r.s)) (e1 h),rfl⟩,⟨congrArg (λr:RatS=>PV.val (.string r.b)) (e1 h),rfl⟩,⟨congrArg (λr:RatS=>PV.val (.string r.c)) (e1 h),rfl⟩,qQ⟩,qQ⟩ ⟨pP,qQ⟩ trivial,rfl,rfl⟩,λh=>⟨[some 2],aa [(4,.ptr 0 0 0 0)] [⟨23,3,0,true,false,1,λ_=>(Da ⟨s,b,c⟩ ⟨s',b',c'⟩).cells⟩] 1 [],Wo ⟨qZ ⟨⟨congrArg (λr:RatS=>PV.val (.bool r.s)) (e2 h),rfl⟩,⟨congrArg (λr:RatS=>PV.val (.string r.b)) (e2 h),rfl⟩,⟨congrArg (λr:RatS=>PV.val (.string r.c)) (e2 h),rfl⟩,qQ⟩,qQ⟩ ⟨pP,qQ⟩ trivial,rfl,rfl⟩⟩
 ·cases e
def De:List PV->Option Ans
 |[.val (.agg ⟨[.bool s,.string b,.string c]⟩),.val (.agg ⟨[.bool s',.string b',.string c']⟩)]=>some ⟨some (isRk 1073741824 (.agg ⟨[.bool s,.string b,.string c]⟩)/\isRk 1073741824 (.agg ⟨[.bool s',.string b',.string c']⟩)),.val (Db ⟨s,b,c⟩ ⟨s',b',c'⟩).v,[]⟩
 |_=>none
def D191:Opt:={  }
theorem Ga:am D191.toOrd Tryz.f191 2=true:=by kernel_rfl
theorem f191:FnOk Tryz.prog 191 De:=by
 refine FnOk.ofW aj (an (l:=[(135,rK)]) (own:=[]) (inl:=[]) (by simp [f135]) (by simp)) Tryz.func191 D191 2 Ga λargs r e=>?_;unfold De at e;split at e
 ·rename_i s b c s' b' c'
  cases e;refine⟨by simp,λhm=>?_⟩;obtain⟨hv,hu⟩:=hm _ rfl;refine⟨[],aa [(0,.val (.agg ⟨[.bool s,.string b,.string c]⟩)),(1,.val (.agg ⟨[.bool s',.string b',.string c']⟩))] [] 0 [],Wo trivial ⟨rfl,rfl,qQ⟩ trivial,?_⟩;have e1:decide (ao (aE (.agg ⟨[.bool s',.string b',.string c']⟩)) (aE (.agg ⟨[.bool s,.string b,.string c]⟩)) < 0)=true->RatS.mk s' b' c'=(Db ⟨s,b,c⟩ ⟨s',b',c'⟩):=λh=>by
   show _=bif decide (ao (aE (.agg ⟨[.bool s',.string b',.string c']⟩)) (aE (.agg ⟨[.bool s,.string b,.string c]⟩)) < 0) then RatS.mk s' b' c' else RatS.mk s b c;rw [h];rfl
  have e2:decide (ao (aE (.agg ⟨[.bool s',.string b',.string c']⟩)) (aE (.agg ⟨[.bool s,.string b,.string c]⟩)) < 0)=false->RatS.mk s b c=(Db ⟨s,b,c⟩ ⟨s',b',c'⟩):=λh=>by
   show _=bif decide (ao (aE (.agg ⟨[.bool s',.string b',.string c']⟩)) (aE (.agg ⟨[.bool s,.string b,.string c]⟩)) < 0) then RatS.mk s' b' c' else RatS.mk s b c;rw [h];rfl
  with_unfolding_all exact⟨⟨hu,hv⟩,λh=>⟨[some 2],aa [(4,.ptr 0 0 0 0)] [⟨23,3,0,true,false,1,λ_=>(Db ⟨s,b,c⟩ ⟨s',b',c'⟩).cells⟩] 1 [],Wo ⟨qZ ⟨⟨congrArg (λr:RatS=>PV.val (.bool r.s)) (e1 h),rfl⟩,⟨congrArg (λr:RatS=>PV.val (.string r.b)) (e1 h),rfl⟩,⟨congrArg (λr:RatS=>PV.val (.string r.c)) (e1 h),rfl⟩,qQ⟩,qQ⟩ ⟨pP,qQ⟩ trivial,rfl,rfl⟩,λh=>⟨[some 2],aa [(4,.ptr 0 0 0 0)] [⟨23,3,0,true,false,1,λ_=>(Db ⟨s,b,c⟩ ⟨s',b',c'⟩).cells⟩] 1 [],Wo ⟨qZ ⟨⟨congrArg (λr:RatS=>PV.val (.bool r.s)) (e2 h),rfl⟩,⟨congrArg (λr:RatS=>PV.val (.string r.b)) (e2 h),rfl⟩,⟨congrArg (λr:RatS=>PV.val (.string r.c)) (e2 h),rfl⟩,qQ⟩,qQ⟩ ⟨pP,qQ⟩ trivial,rfl,rfl⟩⟩
 ·cases e
def Df:List PV->Option Ans
 |[.val (.agg ⟨[.bool s,.string b,.string c]⟩)]=>some ⟨some (isRk 4294967296 (.agg ⟨[.bool s,.string b,.string c]⟩)),.val (aw (-aE (.agg ⟨[.bool s,.string b,.string c]⟩))),[]⟩
 |_=>none
def D189:Opt:={  }
theorem Gb:am D189.toOrd Tryz.f189 1=true:=by kernel_rfl
theorem f189:FnOk Tryz.prog 189 Df:=by
 refine FnOk.ofW aj (an (l:=[(132,z6)]) (own:=[]) (inl:=[]) (by simp [f132]) (by simp)) Tryz.func189 D189 1 Gb λargs r e=>?_;unfold Df at e;split at e
 ·rename_i s b c
  cases e;refine⟨by simp,λhm=>?_⟩;have hv:=hm _ rfl;obtain⟨s',b',c',e,hb,hc⟩:=hv;injection e with e;injection e with e;simp only [List.cons.injEq,Value.bool.injEq,Value.string.injEq,and_true] at e;obtain⟨rfl,rfl,rfl⟩:=e;have hn:isRk 4294967296 (.agg ⟨[.bool (!s),.string b,.string c]⟩):=⟨_,_,_,rfl,hb,hc⟩;have e:=F7 s b c;refine⟨[],aa [(0,.val (.agg ⟨[.bool s,.string b,.string c]⟩))] [] 0 [],Wo trivial ⟨rfl,qQ⟩ trivial,?_⟩;with_unfolding_all exact⟨hn,⟨[some 1],aa [(2,.ptr 0 0 0 0)] [⟨23,3,0,true,false,1,λ_=>(bz (-aE (.agg ⟨[.bool s,.string b,.string c]⟩))).cells⟩] 1 [],Wo ⟨qZ ⟨⟨congrArg (λq:Rat=>PV.val (.bool (bz q).s)) e,rfl⟩,⟨congrArg (λq:Rat=>PV.val (.string (bz q).b)) e,rfl⟩,⟨congrArg (λq:Rat=>PV.val (.string (bz q).c)) e,rfl⟩,qQ⟩,qQ⟩ ⟨pP,qQ⟩ trivial,rfl,rfl⟩⟩
 ·cases e
end Go.Proofs
namespace Go.Num
def Dg (v:Value):Value:=.agg ⟨[.bool (decide (cI v < 0)),.string (ai (bS v)),.string (ai (cI v).natAbs)]⟩
theorem Gc {v:Value} (hd:0 < bS v) (hn:cI v≠0):aE (Dg v)=(aE v)⁻¹:=by
 show mkRat (aA (decide (cI v < 0)) (bv (ai (bS v)))) (bt (bv (ai (cI v).natAbs)))=(mkRat (cI v) (bS v))⁻¹;rw [aH,aH];generalize cI v=N at *
 generalize bS v=D at *
 have e1:bt N.natAbs=N.natAbs:=by unfold bt;rw [if_neg (by omega)]
 rw [e1,<-Rat.divInt_ofNat,<-Rat.divInt_ofNat,Rat.inv_divInt];by_cases h:N < 0
 ·rw [decide_eq_true h];show Rat.divInt (-(D:Int)) (N.natAbs:Int)=Rat.divInt D N;rw [<-Rat.neg_divInt_neg,Int.neg_neg,show -(N.natAbs:Int)=N by omega]
 ·rw [decide_eq_false h];show Rat.divInt (D:Int) (N.natAbs:Int)=Rat.divInt D N;rw [show(N.natAbs:Int)=N by omega]
theorem Dh {v:Value} (h:aE v≠0):cI v≠0:=λe=>h (by show mkRat (cI v) (bS v)=0;rw [e,Rat.zero_mkRat])
end Go.Num
namespace Go.Proofs
def Di:List PV->Option Ans
 |[.val (.agg ⟨[.bool s,.string b,.string c]⟩),.val (.agg ⟨[.bool s',.string b',.string c']⟩)]=>some ⟨some ((isRk 1000000 (.agg ⟨[.bool s,.string b,.string c]⟩)/\isRk 1000000 (.agg ⟨[.bool s',.string b',.string c']⟩))/\aE (.agg ⟨[.bool s',.string b',.string c']⟩)≠0),.val (.tuple ⟨[aw (aE (.agg ⟨[.bool s,.string b,.string c]⟩) / aE (.agg ⟨[.bool s',.string b',.string c']⟩)),.int .i64 0]⟩),[]⟩
 |_=>none
def D188:Opt:={  }
theorem Gd:am D188.toOrd Tryz.f188 2=true:=by kernel_rfl
theorem f188:FnOk Tryz.prog 188 Di:=by
 refine FnOk.ofW aj (an (l:=[(182,tE),(222,z8)]) (own:=[]) (inl:=[]) (by simp [f182,f222]) (by simp)) Tryz.func188 D188 2 Gd λargs r e=>?_;unfold Di at e;split at e
 ·rename_i s b c s' b' c'
  cases e;refine⟨by simp,λhm=>?_⟩;obtain⟨⟨hv,hu⟩,h0⟩:=hm _ rfl;have p1:isRk 1073741824 (.agg ⟨[.bool s,.string b,.string c]⟩):=hv.mono (by decide);have p2:isRk 17179869184 (.agg ⟨[.bool s',.string b',.string c']⟩):=hu.mono (by decide);have b2:=hu.b;have hN:=Dh h0;have hi:=Gc b2.2.1 hN;have p3:isRk 1073741824 (Dg (.agg ⟨[.bool s',.string b',.string c']⟩)):=⟨_,_,_,rfl,Nat.le_trans (a7 b2.2.2) (by decide),Nat.le_trans (a7 b2.1) (by decide)⟩;refine⟨[],aa [(0,.val (.agg ⟨[.bool s,.string b,.string c]⟩)),(1,.val (.agg ⟨[.bool s',.string b',.string c']⟩))] [] 0 [],Wo trivial ⟨rfl,rfl,qQ⟩ trivial,?_⟩;have e:aE (.agg ⟨[.bool s,.string b,.string c]⟩)*aE (Dg (.agg ⟨[.bool s',.string b',.string c']⟩))=aE (.agg ⟨[.bool s,.string b,.string c]⟩) / aE (.agg ⟨[.bool s',.string b',.string c']⟩):=by rw [hi,Rat.div_def]
  have hno:((ai (cI (.agg ⟨[.bool s',.string b',.string c']⟩)).natAbs).toList==(⟨#[]⟩:ByteArray).toList)=true->False:=λh=>by
   rw [cT] at h;have:=of_decide_eq_true h;omega
  with_unfolding_all exact⟨p2,λh=>(hno h).elim,λ_=>⟨⟨p1,p3⟩,⟨[some 2],aa [(4,.ptr 0 0 0 0),(5,.val (.int .i64 0))] [⟨23,3,0,true,false,1,λ_=>(bz (aE (.agg ⟨[.bool s,.string b,.string c]⟩) / aE (.agg ⟨[.bool s',.string b',.string c']⟩))).cells⟩] 1 [],Wo ⟨qZ ⟨⟨congrArg (λq:Rat=>PV.val (.bool (bz q).s)) e,rfl⟩,⟨congrArg (λq:Rat=>PV.val (.string (bz q).b)) e,rfl⟩,⟨congrArg (λq:Rat=>PV.val (.string (bz q).c)) e,rfl⟩,qQ⟩,qQ⟩ ⟨pP,rfl,qQ⟩ trivial,rfl,rfl⟩⟩⟩
 ·cases e
def Dj:List PV->Option Ans
 |[.val (.int .i64 z)]=>some ⟨some (0<=z/\z < 100),.val (aw (z:Rat)),[]⟩
 |_=>none
def D187:Opt:={  }
theorem Ge:am D187.toOrd Tryz.f187 1=true:=by kernel_rfl
theorem f187:FnOk Tryz.prog 187 Dj:=by
 refine FnOk.ofW aj (an (l:=[(226,rC),(183,wH)]) (own:=[]) (inl:=[]) (by simp [f226,f183]) (by simp)) Tryz.func187 D187 1 Ge λargs r e=>?_;unfold Dj at e;split at e
 ·rename_i z
  cases e;refine⟨by simp,λhm=>?_⟩;obtain⟨h0,h1⟩:=hm _ rfl;refine⟨[],aa [(0,.val (.int .i64 z))] [] 0 [],Wo trivial ⟨rfl,qQ⟩ trivial,?_⟩;have e:Rat.divInt (aJ (az z)) (aJ (az 1))=(z:Rat):=by
   rw [av,av];rw [show(1:Int)=((1:Nat):Int) from rfl,Rat.divInt_ofNat,Rat.mkRat_one]
  have i1:∀y:Int,0<=y->y < 100->cY 8589934592 (az y):=λy a b=>bD (k:=1) (by omega) (by decide);have n1:aJ (az 1)≠0:=by rw [av];decide
  with_unfolding_all exact⟨by omega,by decide,⟨⟨i1 z h0 h1,i1 1 (by decide) (by decide)⟩,n1⟩,⟨[some 0],aa [(2,.ptr 0 0 0 0)] [⟨23,3,0,true,false,1,λ_=>(bz (z:Rat)).cells⟩] 1 [],Wo ⟨qZ ⟨⟨congrArg (λq:Rat=>PV.val (.bool (bz q).s)) e,rfl⟩,⟨congrArg (λq:Rat=>PV.val (.string (bz q).b)) e,rfl⟩,⟨congrArg (λq:Rat=>PV.val (.string (bz q).c)) e,rfl⟩,qQ⟩,qQ⟩ ⟨pP,qQ⟩ trivial,rfl,rfl⟩⟩
 ·cases e
end Go.Proofs
namespace Go.Num
def m6 (z:Int):Nat:=if z = -1 then 0 else if z = -2 then 1 else if z = -3 then 2 else 3
end Go.Num
namespace Go.Proofs
def AT:List PV->Option Ans
 |[.agg xs,.val (.int .i64 z),.val v]=>some ⟨some (isRg 10000 xs/\isPk 10000 v),.val (.bool (dN (m6 z) (bO xs) (bP xs) (aO v))),[]⟩
 |_=>none
def D133:Opt:={  }
theorem Gf:am D133.toOrd Tryz.f133 3=true:=by kernel_rfl
theorem f133:FnOk Tryz.prog 133 AT:=by
 refine FnOk.ofW aj (an (l:=[(184,Dc)]) (own:=[]) (inl:=[]) (by simp [f184]) (by simp)) Tryz.func133 D133 3 Gf λargs r e=>?_;unfold AT at e;split at e
 ·rename_i xs z v
  cases e;refine⟨by simp,λhm=>?_⟩;obtain⟨⟨h1,⟨hlo,hhi⟩,hcl,hol⟩,p,rfl,hp⟩:=hm _ rfl;generalize bO xs=lo at *
  generalize bP xs=hi at *
  generalize gK xs=k at *
  generalize gC xs=c at *
  generalize gL xs=l at *
  generalize gO xs=o at *
  subst h1;clear hm;refine⟨[],aa [(0,.agg (bq lo hi k c l o)),(1,.val (.int .i64 z)),(2,.val p.v)] [] 0 [],Wo trivial ⟨⟨rfl,rfl,rfl,rfl,rfl,rfl,rfl,rfl,rfl,rfl,rfl,rfl,qW,qW,qQ⟩,rfl,rfl,qQ⟩ trivial,?_⟩;have x1:=And.intro (ct hp (show 10000<=1073741824 by decide)) (ct hlo (show 10000<=1073741824 by decide));have x2:=And.intro (ct hhi (show 10000<=1073741824 by decide)) (ct hp (show 10000<=1073741824 by decide));have x3:=And.intro (cu hp (show 10000<=1073741824 by decide)) (cu hlo (show 10000<=1073741824 by decide));have x4:=And.intro (cu hhi (show 10000<=1073741824 by decide)) (cu hp (show 10000<=1073741824 by decide));have v1:(z == -1)=true->PV.val (.bool (decide (ao p.X lo.X < 0)))=PV.val (.bool (dN (m6 z) lo hi p)):=λh=>by
   rw [eq_of_beq h];rfl
  have v2:(z == -2)=true->PV.val (.bool (decide (ao hi.X p.X < 0)))=PV.val (.bool (dN (m6 z) lo hi p)):=λh=>by
   rw [eq_of_beq h];rfl
  have v3:(z == -3)=true->PV.val (.bool (decide (ao p.Y lo.Y < 0)))=PV.val (.bool (dN (m6 z) lo hi p)):=λh=>by
   rw [eq_of_beq h];rfl
  have v4:(z == -1)=false->(z == -2)=false->(z == -3)=false->PV.val (.bool (decide (ao hi.Y p.Y < 0)))=PV.val (.bool (dN (m6 z) lo hi p)):=λh h2 h3=>by
   unfold m6;rw [if_neg (by simpa using h),if_neg (by simpa using h2),if_neg (by simpa using h3)];rfl
  with_unfolding_all exact⟨λh=>⟨x1,⟨[],aa [(6,.val (.bool (dN (m6 z) lo hi p)))] [] 0 [],Wo trivial ⟨v1 h,qQ⟩ trivial,rfl,rfl⟩⟩,λh=>⟨λh2=>⟨x2,⟨[],aa [(6,.val (.bool (dN (m6 z) lo hi p)))] [] 0 [],Wo trivial ⟨v2 h2,qQ⟩ trivial,rfl,rfl⟩⟩,λh2=>⟨λh3=>⟨x3,⟨[],aa [(6,.val (.bool (dN (m6 z) lo hi p)))] [] 0 [],Wo trivial ⟨v3 h3,qQ⟩ trivial,rfl,rfl⟩⟩,λh3=>⟨x4,⟨[],aa [(6,.val (.bool (dN (m6 z) lo hi p)))] [] 0 [],Wo trivial ⟨v4 h h2 h3,qQ⟩ trivial,rfl,rfl⟩⟩⟩⟩⟩
 ·cases e
def Dk:List PV->Option Ans
 |[.rs 6 n g,.val v]=>some ⟨some (isPL 10000 n g/\isPk 10000 v/\n<=1000000),.val (.int .i64 (lr n (ae g) (aO v) n)),[]⟩
 |_=>none
def D134:Opt:={  }
theorem Gg:am D134.toOrd Tryz.f134 2=true:=by kernel_rfl
theorem f134:FnOk Tryz.prog 134 Dk:=by
 refine FnOk.ofW aj (an (l:=[(131,Ak)]) (own:=[]) (inl:=[]) (by simp [f131]) (by simp)) Tryz.func134 D134 2 Gg λargs r e=>?_;unfold Dk at e;split at e
 ·rename_i n g v
  cases e;refine⟨by simp,λhm=>?_⟩;obtain⟨⟨hg,hn⟩,⟨v,rfl,hv⟩,hn2⟩:=hm _ rfl;refine⟨[],aa [(0,.rs 6 n (λi=>(ae g i).cells)),(1,.val v.v)] [] 0 [],Wo trivial ⟨⟨rfl,rfl,λi hi=>(hg i hi).1.symm⟩,rfl,qQ⟩ trivial,?_⟩;have hp:=λi hi=>(hg i hi).2;generalize ae g=p at *
  clear hg;with_unfolding_all refine⟨Nat,λi=>i<=n,λi=>aa [(0,.rs 6 n (λi=>(p i).cells)),(3,.ptr 0 0 0 0),(5,.val (.int .i64 (lr n p v i))),(6,.val (goInt (i:Nat)))] [⟨25,6,0,true,false,1,λ_=>v.cells⟩] 1 [],λi=>n - i,⟨0,[some 0],Nat.zero_le _,Wo ⟨qK,qQ⟩ ⟨qW,pP,rfl,rfl,qQ⟩ trivial⟩,λi hi=>?_⟩
  have hin:i<=n:=hi;with_unfolding_all refine⟨λh1=>?_,λh1=>?_⟩
  ·have hi1:i < n:=by
    have:=of_decide_eq_true h1;exact Int.ofNat_lt.1 this
   have hw0:IntKind.i64.wrap ((i:Int)+1)=((i+1:Nat):Int):=by
    rw [wrap64 (by omega) (by omega)];rfl
   have hw:(IntKind.i64.wrap ((i:Int)+1)).tmod n=(((i+1)%n:Nat):Int):=by
    rw [hw0];exact Int.ofNat_tmod _ _
   have hm2:(i+1)%n < n:=Nat.mod_lt _ (by omega);have b1:0<=(i:Int)/\(i:Int) < n:=⟨Int.natCast_nonneg i,of_decide_eq_true h1⟩;have b2:0<=(IntKind.i64.wrap ((i:Int)+1)).tmod n/\(IntKind.i64.wrap ((i:Int)+1)).tmod n < n:=by rw [hw];omega
   have ne0:(n:Int)≠0:=by omega
   have q1:isPk 10000 (p (i:Int).toNat).v:=⟨_,rfl,hp _ (by rw [Int.toNat_natCast];exact hi1)⟩;have q2:isPk 10000 (p ((IntKind.i64.wrap ((i:Int)+1)).tmod n).toNat).v:=⟨_,rfl,hp _ (by rw [hw];exact hm2)⟩;have q3:isPk 10000 v.v:=⟨_,rfl,hv⟩;have w5:PV.val (.int .i64 (if (jW (p (i:Int).toNat) (p ((IntKind.i64.wrap ((i:Int)+1)).tmod n).toNat) v) < lr n p v i then(jW (p (i:Int).toNat) (p ((IntKind.i64.wrap ((i:Int)+1)).tmod n).toNat) v) else lr n p v i))=PV.val (.int .i64 (lr n p v (i+1))):=by
    rw [lr,hw,Int.toNat_natCast,Int.toNat_natCast,Int.min_def];congr 2;split<;>split<;>omega
   have w6:PV.val (.int .i64 (IntKind.i64.wrap ((i:Int)+1)))=PV.val (goInt ((i+1:Nat):Int)):=by rw [hw0];rfl
   have hμ : n - (i+1) < n - i:=by omega
   with_unfolding_all exact⟨b1,ne0,b2,⟨q1,q2,q3⟩,⟨i+1,[some 0],hi1,hμ,Wo ⟨qK,qQ⟩ ⟨qW,pP,w5,w6,qQ⟩ trivial⟩⟩
  ·have hi1:i=n:=by
    have:¬(i:Int) < n:=of_decide_eq_false h1;omega
   have w:PV.val (.int .i64 (lr n p v i))=PV.val (.int .i64 (lr n p v n)):=by rw [hi1]
   with_unfolding_all exact⟨[],aa [(4,.val (.int .i64 (lr n p v n)))] [] 0 [],Wo trivial ⟨w,qQ⟩ trivial,rfl,rfl⟩
 ·cases e
end Go.Proofs
namespace Go.Num
def wQ (A D:Nat->Rat) (n:Nat):Option (Rat×Rat):=(ob A D n).bind λs=>bif decide (ao s.1 s.2>=0) then none else some s
theorem Gh (A D:Nat->Rat) (n:Nat):(wQ A D n).isSome=Dv A D n:=by
 unfold wQ Dv;cases ob A D n with
 |none=>rfl
 |some s =>
  simp only [Option.bind_some];cases decide (ao s.1 s.2>=0)<;>rfl
theorem so {A D:Nat->Rat} {j:Nat} (h:ob A D j=none):∀d,ob A D (j+d)=none
 |0=>h
 |d+1=>by
  show ob A D (j+d+1)=none;rw [ob,so h d]
theorem QB.neg {k:Nat} {q:Rat} (h:QB k q):QB (k+2) (-q):=by
 have h0:QB 1 (0:Rat):=by
  have:=(yp (k:=1) (by decide)).1
  rwa [Rat.zero_mkRat] at this
 rw [show -q=0 - q by grind];exact(h0.sub h).le (by omega)
theorem ua (x y:Rat):Da (bz x) (bz y)=bz (lk x y):=by
 unfold Da lk;rw [kT,kT];by_cases h:ao y x > 0
 ·rw [decide_eq_true h,if_pos h];rfl
 ·rw [decide_eq_false h,if_neg h];rfl
theorem ub (x y:Rat):Db (bz x) (bz y)=bz (ll x y):=by
 unfold Db ll;rw [kT,kT];by_cases h:ao y x < 0
 ·rw [decide_eq_true h,if_pos h];rfl
 ·rw [decide_eq_false h,if_neg h];rfl
theorem AU {k:Nat} {x y:Rat} (h1:QB k x) (h2:QB k y):QB k (lk x y):=by
 unfold lk;split<;>assumption
theorem AV {k:Nat} {x y:Rat} (h1:QB k x) (h2:QB k y):QB k (ll x y):=by
 unfold ll;split<;>assumption
end Go.Num
namespace Go.Proofs
def Dl:List PV->Option Ans
 |[.rs 6 n g,.val v]=>some ⟨some (isPL 10000 n g/\dL 10000 v/\n<=1000000),.val (.tuple ⟨[aw (ky (wQ (fu n (ae g) (aM v).1) (gx n (ae g) (aM v).1 (aM v).2) n)),aw (kU (wQ (fu n (ae g) (aM v).1) (gx n (ae g) (aM v).1 (aM v).2) n)),.bool (wQ (fu n (ae g) (aM v).1) (gx n (ae g) (aM v).1 (aM v).2) n).isSome]⟩),[]⟩
 |_=>none
def D136:Opt:={ join:=λc=>match c with | .region 6 _ _=>true | .region 8 _ _=>true | .region 9 _ _=>true | .region 13 _ _=>true|_=>false,perm:=jl [(6,.rds [0,1,2,3,4,5,6,7,8,9,10,11] (.alt 12 (.mk 13 .nil) (.mk 13 (.mk 12 .nil)))),(8,.rds [0,1,2,3] (.alt 4 (.alt 5 (.mk 6 .nil) (.mk 6 (.mk 5 .nil))) (.mk 6 (.mk 4 (.mk 5 .nil))))),(13,.rds [0,2] (.alt 1 (.alt 3 (.rd 4 (.rd 5 (.rd 6 (.mk 7 .nil)))) (.mk 7 (.mk 3 (.rd 4 (.rd 5 (.rd 6 .nil)))))) (.mk 7 (.mk 1 (.mk 3 (.rd 4 (.rd 5 (.rd 6 .nil))))))))],all:=jl [(19,.alt 0 (.alt 1 (OT.seq [2,3,4] .nil) (OT.seq [2,1,3,4] .nil)) (OT.seq [1,0,2,3,4] .nil))] }
theorem Gi:am D136.toOrd Tryz.f136 2=true:=by kernel_rfl
theorem f136:FnOk Tryz.prog 136 Dl:=by
 refine FnOk.ofW aj (an (l:=[(187,Dj),(179,Ai),(178,Aj),(177,Ah),(189,Df),(188,Di),(190,Dd),(191,De),(135,rK)]) (own:=[]) (inl:=[]) (by simp [f187,f179,f178,f177,f189,f188,f190,f191,f135]) (by simp)) Tryz.func136 D136 2 Gi λargs r e=>?_;unfold Dl at e;split at e
 ·rename_i n g v
  cases e;refine⟨by simp,λhm=>?_⟩;obtain⟨⟨hg,hn⟩,⟨a,b,rfl,ha,hb⟩,hn2⟩:=hm _ rfl;clear hm;refine⟨[],aa [(0,.rs 6 n (λi=>(ae g i).cells)),(1,.val (ar a b))] [] 0 [],Wo trivial ⟨⟨rfl,rfl,λi hi=>(hg i hi).1.symm⟩,rfl,qQ⟩ trivial,?_⟩;have hp:=λi hi=>(hg i hi).2;generalize ae g=p at *
  clear hg;obtain⟨X,hX⟩:∃X,X=wQ (fu n p a) (gx n p a b) n:=⟨_,rfl⟩;have hv:PV.val (.tuple ⟨[aw (ky (wQ (fu n p (aM (ar a b)).1) (gx n p (aM (ar a b)).1 (aM (ar a b)).2) n)),aw (kU (wQ (fu n p (aM (ar a b)).1) (gx n p (aM (ar a b)).1 (aM (ar a b)).2) n)),.bool (wQ (fu n p (aM (ar a b)).1) (gx n p (aM (ar a b)).1 (aM (ar a b)).2) n).isSome]⟩)=PV.val (.tuple ⟨[aw (ky X),aw (kU X),.bool X.isSome]⟩):=by rw [hX];rfl
  rw [hv];clear hv;have ha6:=ha.mono (show 10000<=1000000 by decide);have hb6:=hb.mono (show 10000<=1000000 by decide);have zb:X=none->PV.val (.bool false)=PV.val (.bool (decide ((ky X).num < 0)))/\PV.val (.string ⟨#[]⟩)=PV.val (.string (ai (ky X).num.natAbs))/\PV.val (.string ⟨#[]⟩)=PV.val (.string (aP (ky X).den))/\PV.val (.bool false)=PV.val (.bool X.isSome):=λh=>by
   rw [h];refine⟨rfl,?_,rfl,rfl⟩;show PV.val (.string ⟨#[]⟩)=PV.val (.string (ai 0));rw [dJ]
  have zc:X=none->PV.val (.bool false)=PV.val (.bool (decide ((kU X).num < 0)))/\PV.val (.string ⟨#[]⟩)=PV.val (.string (ai (kU X).num.natAbs))/\PV.val (.string ⟨#[]⟩)=PV.val (.string (aP (kU X).den)):=λh=>by
   rw [h];refine⟨rfl,?_,rfl⟩;show PV.val (.string ⟨#[]⟩)=PV.val (.string (ai 0));rw [dJ]
  have q0:QB 300000 (0:Rat):=by
   have:=uQ.1
   rwa [Rat.zero_mkRat] at this
  have q1:QB 300000 (1:Rat):=by
   have:=uQ.2
   rwa [Rat.mkRat_one] at this
  have z2:PV.val (.string ⟨#[]⟩)=PV.val (.string (bz 0).b):=by
   show PV.val (.string ⟨#[]⟩)=PV.val (.string (ai 0));rw [dJ]
  have e1:((1:Int):Rat)=1:=rfl;with_unfolding_all refine⟨⟨by decide,by decide⟩,⟨⟨b,rfl,hb6⟩,a,rfl,ha6⟩,Nat×Rat×Rat,λx=>x.1<=n/\ob (fu n p a) (gx n p a b) x.1=some x.2/\QB 300000 x.2.1/\QB 300000 x.2.2,λx=>aa [(0,.rs 6 n (λi=>(p i).cells)),(3,.ptr 0 0 0 0),(4,.ptr 1 1 0 0),(5,.ptr 2 2 0 0),(7,.ptr 3 3 0 0),(8,.ptr 4 4 0 0),(9,.ptr 5 5 0 0),(10,.val (goInt (x.1:Nat)))] [⟨117,12,0,true,false,1,λ_=>kx a b⟩,a8 false ⟨#[]⟩ ⟨#[]⟩ 1,a8 false ⟨#[]⟩ ⟨#[]⟩ 2,bB x.2.1 3,bB x.2.2 4,gZ (cm b a) 5] 6 [],λx=>n - x.1,⟨(0,0,1),[some 0,some 1,some 2,some 3,some 4,some 5],⟨Nat.zero_le _,rfl,q0,q1⟩,Wo ⟨qZ ⟨rq,rq,rq,rq,rq,rq,rq,rq,rq,rq,rq,rq,qQ⟩,qX,qX,qZ ⟨rq,⟨z2,rfl⟩,rq,qQ⟩,qZ ⟨⟨congrArg (λq:Rat=>PV.val (.bool (bz q).s)) e1,rfl⟩,⟨congrArg (λq:Rat=>PV.val (.string (bz q).b)) e1,rfl⟩,⟨congrArg (λq:Rat=>PV.val (.string (bz q).c)) e1,rfl⟩,qQ⟩,qK,qQ⟩ ⟨qW,pP,pP,pP,pP,pP,pP,rfl,qQ⟩ trivial⟩,λx hx=>?_⟩
  obtain⟨i,s⟩:=x;obtain⟨hi,hs,hq1,hq2⟩:i<=n/\ob (fu n p a) (gx n p a b) i=some s/\QB 300000 s.1/\QB 300000 s.2:=hx;with_unfolding_all refine⟨λh1=>?_,λh1=>?_⟩
  ·have hin:i < n:=by
    have:=of_decide_eq_true h1;exact Int.ofNat_lt.1 this
   have hw0:IntKind.i64.wrap ((i:Int)+1)=((i+1:Nat):Int):=by
    rw [wrap64 (by omega) (by omega)];rfl
   have hw:(IntKind.i64.wrap ((i:Int)+1)).tmod n=(((i+1)%n:Nat):Int):=by
    rw [hw0];exact Int.ofNat_tmod _ _
   have hm2:(i+1)%n < n:=Nat.mod_lt _ (by omega);have b1:0<=(i:Int)/\(i:Int) < n:=⟨Int.natCast_nonneg i,of_decide_eq_true h1⟩;have b2:0<=(IntKind.i64.wrap ((i:Int)+1)).tmod n/\(IntKind.i64.wrap ((i:Int)+1)).tmod n < n:=by rw [hw];omega
   have ne0:(n:Int)≠0:=by omega
   have ep:p ((IntKind.i64.wrap ((i:Int)+1)).tmod n).toNat=(p ((i+1)%n)):=by rw [hw];rfl
   have lp:=hp i hin;have lq:=hp _ hm2;have pkp:isPk 1000000 (p i).v:=⟨_,rfl,lp.mono (by decide)⟩;have pkq:isPk 1000000 (p ((i+1)%n)).v:=⟨_,rfl,lq.mono (by decide)⟩;have pka:isPk 1000000 a.v:=⟨_,rfl,ha6⟩;have pke:isPk 1000000 (cm (p ((i+1)%n)) (p i)).v:=⟨_,rfl,(cj lq lp).mono (by decide)⟩;have pkap:isPk 1000000 (cm a (p i)).v:=⟨_,rfl,(cj ha lp).mono (by decide)⟩;have pkd:isPk 1000000 (cm b a).v:=⟨_,rfl,(cj hb ha).mono (by decide)⟩;obtain⟨A,hA⟩:∃A,A=fu n p a i:=⟨_,rfl⟩;obtain⟨D,hD⟩:∃D,D=gx n p a b i:=⟨_,rfl⟩;have qA:QB 80017 A:=by rw [hA];exact tL lp lq ha
   have qD:QB 80017 D:=by rw [hD];exact(iA (cj lq lp) (cj hb ha)).le (by decide)
   have eA:cF (aO (cm (p ((i+1)%n)) (p i)).v) (aO (cm a (p i)).v)=A:=by
    rw [uO,uO];exact hA.symm
   have eD:cF (aO (cm (p ((i+1)%n)) (p i)).v) (aO (cm b a).v)=D:=by
    rw [uO,uO];exact hD.symm
   obtain⟨T,hT⟩:∃T,T = -A / D:=⟨_,rfl⟩;have eT:aE (aw (-aE (bz A).v)) / aE (bz D).v=T:=by
    rw [aC,my,my,aC,aC,hT]
   have qT:QB 300000 T:=by
    rw [hT];exact(qA.neg.div qD).le (by decide)
   have rD:isRk 1073741824 (bz D).v:=qD.rk (by decide);have rD6:isRk 1000000 (bz D).v:=qD.rk (by decide);have rA:isRk 1073741824 (bz A).v:=qA.rk (by decide);have rA4:isRk 4294967296 (bz A).v:=qA.rk (by decide);have rNA:isRk 1000000 (aw (-aE (bz A).v)):=by
    rw [my,aC];exact qA.neg.rk (by decide)
   have rT:isRk 1073741824 (bz T).v:=qT.rk (by decide);have r1:isRk 1073741824 (bz s.1).v:=hq1.rk (by decide);have r2:isRk 1073741824 (bz s.2).v:=hq2.rk (by decide);have dq:aE (bz D).v=D:=by rw [my,aC]
   have aq:aE (bz A).v=A:=by rw [my,aC]
   have nD:(ao (aE (bz D).v) 0==0)=false->aE (bz D).v≠0:=λh e=>by
    rw [e] at h;exact absurd h (by decide)
   have step:ob (fu n p a) (gx n p a b) (i+1)=if ao D 0=0 then(if ao A 0<=0 then none else some s) else if ao D 0 > 0 then some (lk s.1 T,s.2) else some (s.1,ll s.2 T):=by
    rw [ob,hs,<-hA,<-hD,<-hT]
   have c0:(ao (aE (bz D).v) 0==0)=true->ao D 0=0:=λh=>by
    rw [dq] at h;exact eq_of_beq h
   have c1:(ao (aE (bz D).v) 0==0)=false->¬ao D 0=0:=λh=>by
    rw [dq] at h;simpa using h
   have sX:(ao (aE (bz D).v) 0==0)=true->decide (ao (aE (bz A).v) 0<=0)=true->X=none:=λh h3=>by
    have h3:ao A 0<=0:=by
     rw [aq] at h3;exact of_decide_eq_true h3
    rw [if_pos (c0 h),if_pos h3] at step;have:=so step (n - (i+1));rw [show i+1+(n - (i+1))=n by omega] at this;rw [hX,wQ,this];rfl
   have sS:(ao (aE (bz D).v) 0==0)=true->decide (ao (aE (bz A).v) 0<=0)=false->ob (fu n p a) (gx n p a b) (i+1)=some s:=λh h3=>by
    have h3:¬ao A 0<=0:=by
     rw [aq] at h3;exact of_decide_eq_false h3
    rw [step,if_pos (c0 h),if_neg h3]
   have sM:(ao (aE (bz D).v) 0==0)=false->decide (ao (aE (bz D).v) 0 > 0)=true->ob (fu n p a) (gx n p a b) (i+1)=some (lk s.1 T,s.2):=λh h3=>by
    have h3:ao D 0 > 0:=by
     rw [dq] at h3;exact of_decide_eq_true h3
    rw [step,if_neg (c1 h),if_pos h3]
   have sN:(ao (aE (bz D).v) 0==0)=false->decide (ao (aE (bz D).v) 0 > 0)=false->ob (fu n p a) (gx n p a b) (i+1)=some (s.1,ll s.2 T):=λh h3=>by
    have h3:¬ao D 0 > 0:=by
     rw [dq] at h3;exact of_decide_eq_false h3
    rw [step,if_neg (c1 h),if_neg h3]
   have w10:PV.val (.int .i64 (IntKind.i64.wrap ((i:Int)+1)))=PV.val (goInt ((i+1:Nat):Int)):=by rw [hw0];rfl
   have hμ : n - (i+1) < n - i:=by omega
   with_unfolding_all refine⟨Unit,λ_=>True,λ_=>aa [(0,.rs 6 n (λi=>(p i).cells)),(3,.ptr 0 0 0 0),(4,.ptr 1 1 0 0),(5,.ptr 2 2 0 0),(7,.ptr 3 3 0 0),(8,.ptr 4 4 0 0),(9,.ptr 5 5 0 0),(10,.val (goInt (i:Nat))),(11,.ptr 6 6 0 0),(12,.ptr 7 7 0 0)] [⟨117,12,0,true,false,1,λ_=>kx a b⟩,a8 false ⟨#[]⟩ ⟨#[]⟩ 1,a8 false ⟨#[]⟩ ⟨#[]⟩ 2,bB s.1 3,bB s.2 4,gZ (cm b a) 5,gZ (p i) 6,gZ (p ((i+1)%n)) 7] 8 [],⟨b1,ne0,b2,⟨⟨(),[some 0,some 1,some 2,some 3,some 4,some 5,some 6,some 7],trivial,Wo ⟨qZ ⟨rq,rq,rq,rq,rq,rq,rq,rq,rq,rq,rq,rq,qQ⟩,qX,qX,qX,qX,qK,qK,qZ ⟨⟨(fI ep).1,rfl⟩,⟨(fI ep).2.1,rfl⟩,⟨(fI ep).2.2.1,rfl⟩,⟨(fI ep).2.2.2.1,rfl⟩,⟨(fI ep).2.2.2.2.1,rfl⟩,⟨(fI ep).2.2.2.2.2,rfl⟩,qQ⟩,qQ⟩ ⟨qW,pP,pP,pP,pP,pP,pP,rfl,pP,pP,qQ⟩ trivial⟩,⟨(),[some 0,some 1,some 2,some 3,some 4,some 5,some 7,some 6],trivial,Wo ⟨qZ ⟨rq,rq,rq,rq,rq,rq,rq,rq,rq,rq,rq,rq,qQ⟩,qX,qX,qX,qX,qK,qK,qZ ⟨⟨(fI ep).1,rfl⟩,⟨(fI ep).2.1,rfl⟩,⟨(fI ep).2.2.1,rfl⟩,⟨(fI ep).2.2.2.1,rfl⟩,⟨(fI ep).2.2.2.2.1,rfl⟩,⟨(fI ep).2.2.2.2.2,rfl⟩,qQ⟩,qQ⟩ ⟨qW,pP,pP,pP,pP,pP,pP,rfl,pP,pP,qQ⟩ trivial⟩⟩⟩,λ_ _=>?_⟩
   with_unfolding_all refine⟨⟨pkq,pkp⟩,⟨Unit,λ_=>True,λ_=>aa [(0,.rs 6 n (λi=>(p i).cells)),(3,.ptr 0 0 0 0),(4,.ptr 1 1 0 0),(5,.ptr 2 2 0 0),(7,.ptr 3 3 0 0),(8,.ptr 4 4 0 0),(9,.ptr 5 5 0 0),(10,.val (goInt (i:Nat))),(13,.ptr 6 6 0 0),(14,.ptr 7 7 0 0)] [⟨117,12,0,true,false,1,λ_=>kx a b⟩,a8 false ⟨#[]⟩ ⟨#[]⟩ 1,a8 false ⟨#[]⟩ ⟨#[]⟩ 2,bB s.1 3,bB s.2 4,gZ (cm b a) 5,gZ (cm (p ((i+1)%n)) (p i)) 6,bB A 7] 8 [],⟨⟨⟨pka,pkp⟩,⟨⟨⟨pke,pkap⟩,⟨(),[some 0,some 1,some 2,some 3,some 4,some 5,some 8,some 9],trivial,Wo ⟨qZ ⟨rq,rq,rq,rq,rq,rq,rq,rq,rq,rq,rq,rq,qQ⟩,qX,qX,qX,qX,qK,qK,qZ ⟨⟨gq eA,rfl⟩,⟨gr eA,rfl⟩,⟨gt eA,rfl⟩,qQ⟩,qQ⟩ ⟨qW,pP,pP,pP,pP,pP,pP,rfl,pP,pP,qQ⟩ trivial⟩⟩,⟨⟨pke,pkap⟩,⟨(),[some 0,some 1,some 2,some 3,some 4,some 5,some 8,some 9],trivial,Wo ⟨qZ ⟨rq,rq,rq,rq,rq,rq,rq,rq,rq,rq,rq,rq,qQ⟩,qX,qX,qX,qX,qK,qK,qZ ⟨⟨gq eA,rfl⟩,⟨gr eA,rfl⟩,⟨gt eA,rfl⟩,qQ⟩,qQ⟩ ⟨qW,pP,pP,pP,pP,pP,pP,rfl,pP,pP,qQ⟩ trivial⟩⟩⟩⟩,⟨⟨pka,pkp⟩,⟨⟨pke,pkap⟩,⟨(),[some 0,some 1,some 2,some 3,some 4,some 5,some 8,some 9],trivial,Wo ⟨qZ ⟨rq,rq,rq,rq,rq,rq,rq,rq,rq,rq,rq,rq,qQ⟩,qX,qX,qX,qX,qK,qK,qZ ⟨⟨gq eA,rfl⟩,⟨gr eA,rfl⟩,⟨gt eA,rfl⟩,qQ⟩,qQ⟩ ⟨qW,pP,pP,pP,pP,pP,pP,rfl,pP,pP,qQ⟩ trivial⟩⟩⟩⟩,λ_ _=>?_⟩⟩
   with_unfolding_all refine⟨Unit,λ_=>True,λ_=>aa [(0,.rs 6 n (λi=>(p i).cells)),(3,.ptr 0 0 0 0),(4,.ptr 1 1 0 0),(5,.ptr 2 2 0 0),(7,.ptr 3 3 0 0),(8,.ptr 4 4 0 0),(9,.ptr 5 5 0 0),(10,.val (goInt (i:Nat))),(14,.ptr 6 6 0 0),(15,.ptr 7 7 0 0)] [⟨117,12,0,true,false,1,λ_=>kx a b⟩,a8 false ⟨#[]⟩ ⟨#[]⟩ 1,a8 false ⟨#[]⟩ ⟨#[]⟩ 2,bB s.1 3,bB s.2 4,gZ (cm b a) 5,bB A 6,bB D 7] 8 [],⟨⟨pke,pkd⟩,⟨(),[some 0,some 1,some 2,some 3,some 4,some 5,some 7,some 8],trivial,Wo ⟨qZ ⟨rq,rq,rq,rq,rq,rq,rq,rq,rq,rq,rq,rq,qQ⟩,qX,qX,qX,qX,qK,qX,qZ ⟨⟨gq eD,rfl⟩,⟨gr eD,rfl⟩,⟨gt eD,rfl⟩,qQ⟩,qQ⟩ ⟨qW,pP,pP,pP,pP,pP,pP,rfl,pP,pP,qQ⟩ trivial⟩⟩,λ_ _=>?_⟩
   with_unfolding_all refine⟨rD,λh=>⟨rA,λh3=>⟨[some 1,some 2],aa [(4,.ptr 0 0 0 0),(5,.ptr 1 1 0 0),(6,.val (.bool X.isSome))] [bB (ky X) 0,bB (kU X) 1] 2 [],Wo ⟨qZ ⟨⟨(zb (sX h h3)).1,rfl⟩,⟨(zb (sX h h3)).2.1,rfl⟩,⟨(zb (sX h h3)).2.2.1,rfl⟩,qQ⟩,qZ ⟨⟨(zc (sX h h3)).1,rfl⟩,⟨(zc (sX h h3)).2.1,rfl⟩,⟨(zc (sX h h3)).2.2,rfl⟩,qQ⟩,qQ⟩ ⟨pP,pP,(zb (sX h h3)).2.2.2,qQ⟩ trivial,rfl,rfl⟩,λh3=>⟨(i+1,s),[some 0,some 1,some 2,some 3,some 4,some 5],⟨hin,(sS h h3),hq1,hq2⟩,hμ,Wo ⟨qZ ⟨rq,rq,rq,rq,rq,rq,rq,rq,rq,rq,rq,rq,qQ⟩,qX,qX,qX,qX,qK,qQ⟩ ⟨qW,pP,pP,pP,pP,pP,pP,w10,qQ⟩ trivial⟩⟩,λh=>?_⟩
   with_unfolding_all refine⟨Unit,λ_=>True,λ_=>aa [(0,.rs 6 n (λi=>(p i).cells)),(3,.ptr 0 0 0 0),(4,.ptr 1 1 0 0),(5,.ptr 2 2 0 0),(7,.ptr 3 3 0 0),(8,.ptr 4 4 0 0),(9,.ptr 5 5 0 0),(10,.val (goInt (i:Nat))),(15,.ptr 6 6 0 0),(16,.ptr 7 7 0 0)] [⟨117,12,0,true,false,1,λ_=>kx a b⟩,a8 false ⟨#[]⟩ ⟨#[]⟩ 1,a8 false ⟨#[]⟩ ⟨#[]⟩ 2,bB s.1 3,bB s.2 4,gZ (cm b a) 5,bB D 6,bB T 7] 8 [],⟨⟨rA4,⟨⟨⟨⟨rNA,rD6⟩,(nD h)⟩,⟨(),[some 0,some 1,some 2,some 3,some 4,some 5,some 7,some 8],trivial,Wo ⟨qZ ⟨rq,rq,rq,rq,rq,rq,rq,rq,rq,rq,rq,rq,qQ⟩,qX,qX,qX,qX,qK,qX,qZ ⟨⟨gq eT,rfl⟩,⟨gr eT,rfl⟩,⟨gt eT,rfl⟩,qQ⟩,qQ⟩ ⟨qW,pP,pP,pP,pP,pP,pP,rfl,pP,pP,qQ⟩ trivial⟩⟩,⟨⟨⟨rNA,rD6⟩,(nD h)⟩,⟨(),[some 0,some 1,some 2,some 3,some 4,some 5,some 7,some 8],trivial,Wo ⟨qZ ⟨rq,rq,rq,rq,rq,rq,rq,rq,rq,rq,rq,rq,qQ⟩,qX,qX,qX,qX,qK,qX,qZ ⟨⟨gq eT,rfl⟩,⟨gr eT,rfl⟩,⟨gt eT,rfl⟩,qQ⟩,qQ⟩ ⟨qW,pP,pP,pP,pP,pP,pP,rfl,pP,pP,qQ⟩ trivial⟩⟩⟩⟩,⟨rA4,⟨⟨⟨rNA,rD6⟩,(nD h)⟩,⟨(),[some 0,some 1,some 2,some 3,some 4,some 5,some 7,some 8],trivial,Wo ⟨qZ ⟨rq,rq,rq,rq,rq,rq,rq,rq,rq,rq,rq,rq,qQ⟩,qX,qX,qX,qX,qK,qX,qZ ⟨⟨gq eT,rfl⟩,⟨gr eT,rfl⟩,⟨gt eT,rfl⟩,qQ⟩,qQ⟩ ⟨qW,pP,pP,pP,pP,pP,pP,rfl,pP,pP,qQ⟩ trivial⟩⟩⟩⟩,λ_ _=>?_⟩
   with_unfolding_all exact⟨rD,λh4=>⟨⟨r1,rT⟩,⟨(i+1,(lk s.1 T,s.2)),[some 0,some 1,some 2,some 3,some 4,some 5],⟨hin,(sM h h4),AU hq1 qT,hq2⟩,hμ,Wo ⟨qZ ⟨rq,rq,rq,rq,rq,rq,rq,rq,rq,rq,rq,rq,qQ⟩,qX,qX,qZ ⟨⟨congrArg (λr:RatS=>PV.val (.bool r.s)) (ua s.1 T),rfl⟩,⟨congrArg (λr:RatS=>PV.val (.string r.b)) (ua s.1 T),rfl⟩,⟨congrArg (λr:RatS=>PV.val (.string r.c)) (ua s.1 T),rfl⟩,qQ⟩,qX,qK,qQ⟩ ⟨qW,pP,pP,pP,pP,pP,pP,w10,qQ⟩ trivial⟩⟩,λh4=>⟨⟨r2,rT⟩,⟨(i+1,(s.1,ll s.2 T)),[some 0,some 1,some 2,some 3,some 4,some 5],⟨hin,(sN h h4),hq1,AV hq2 qT⟩,hμ,Wo ⟨qZ ⟨rq,rq,rq,rq,rq,rq,rq,rq,rq,rq,rq,rq,qQ⟩,qX,qX,qX,qZ ⟨⟨congrArg (λr:RatS=>PV.val (.bool r.s)) (ub s.2 T),rfl⟩,⟨congrArg (λr:RatS=>PV.val (.string r.b)) (ub s.2 T),rfl⟩,⟨congrArg (λr:RatS=>PV.val (.string r.c)) (ub s.2 T),rfl⟩,qQ⟩,qK,qQ⟩ ⟨qW,pP,pP,pP,pP,pP,pP,w10,qQ⟩ trivial⟩⟩⟩
  ·have hin:i=n:=by
    have:¬(i:Int) < n:=of_decide_eq_false h1;omega
   subst hin;have r1:isRk 1073741824 (bz s.1).v:=hq1.rk (by decide);have r2:isRk 1073741824 (bz s.2).v:=hq2.rk (by decide);have d1:aE (bz s.1).v=s.1:=by rw [my,aC]
   have d2:aE (bz s.2).v=s.2:=by rw [my,aC]
   have xN:decide (ao (aE (bz s.1).v) (aE (bz s.2).v)>=0)=true->X=none:=λh=>by
    rw [d1,d2] at h;rw [hX,wQ,hs,Option.bind_some,h];rfl
   have xS:decide (ao (aE (bz s.1).v) (aE (bz s.2).v)>=0)=false->X=some s:=λh=>by
    rw [d1,d2] at h;rw [hX,wQ,hs,Option.bind_some,h];rfl
   have y1:decide (ao (aE (bz s.1).v) (aE (bz s.2).v)>=0)=false->s.1=ky X:=λh=>by rw [xS h];rfl
   have y2:decide (ao (aE (bz s.1).v) (aE (bz s.2).v)>=0)=false->s.2=kU X:=λh=>by rw [xS h];rfl
   have y3:decide (ao (aE (bz s.1).v) (aE (bz s.2).v)>=0)=false->PV.val (.bool true)=PV.val (.bool X.isSome):=λh=>by rw [xS h];rfl
   with_unfolding_all exact⟨⟨r1,r2⟩,λh=>⟨[some 1,some 2],aa [(4,.ptr 0 0 0 0),(5,.ptr 1 1 0 0),(6,.val (.bool X.isSome))] [bB (ky X) 0,bB (kU X) 1] 2 [],Wo ⟨qZ ⟨⟨(zb (xN h)).1,rfl⟩,⟨(zb (xN h)).2.1,rfl⟩,⟨(zb (xN h)).2.2.1,rfl⟩,qQ⟩,qZ ⟨⟨(zc (xN h)).1,rfl⟩,⟨(zc (xN h)).2.1,rfl⟩,⟨(zc (xN h)).2.2,rfl⟩,qQ⟩,qQ⟩ ⟨pP,pP,(zb (xN h)).2.2.2,qQ⟩ trivial,rfl,rfl⟩,λh=>⟨⟨⟨[some 1,some 2],aa [(4,.ptr 0 0 0 0),(5,.ptr 1 1 0 0),(6,.val (.bool X.isSome))] [bB (ky X) 0,bB (kU X) 1] 2 [],Wo ⟨qZ ⟨⟨gq (y1 h),rfl⟩,⟨gr (y1 h),rfl⟩,⟨gt (y1 h),rfl⟩,qQ⟩,qZ ⟨⟨gq (y2 h),rfl⟩,⟨gr (y2 h),rfl⟩,⟨gt (y2 h),rfl⟩,qQ⟩,qQ⟩ ⟨pP,pP,(y3 h),qQ⟩ trivial,rfl,rfl⟩,⟨[some 1,some 2],aa [(4,.ptr 0 0 0 0),(5,.ptr 1 1 0 0),(6,.val (.bool X.isSome))] [bB (ky X) 0,bB (kU X) 1] 2 [],Wo ⟨qZ ⟨⟨gq (y1 h),rfl⟩,⟨gr (y1 h),rfl⟩,⟨gt (y1 h),rfl⟩,qQ⟩,qZ ⟨⟨gq (y2 h),rfl⟩,⟨gr (y2 h),rfl⟩,⟨gt (y2 h),rfl⟩,qQ⟩,qQ⟩ ⟨pP,pP,(y3 h),qQ⟩ trivial,rfl,rfl⟩⟩,⟨[some 1,some 2],aa [(4,.ptr 0 0 0 0),(5,.ptr 1 1 0 0),(6,.val (.bool X.isSome))] [bB (ky X) 0,bB (kU X) 1] 2 [],Wo ⟨qZ ⟨⟨gq (y1 h),rfl⟩,⟨gr (y1 h),rfl⟩,⟨gt (y1 h),rfl⟩,qQ⟩,qZ ⟨⟨gq (y2 h),rfl⟩,⟨gr (y2 h),rfl⟩,⟨gt (y2 h),rfl⟩,qQ⟩,qQ⟩ ⟨pP,pP,(y3 h),qQ⟩ trivial,rfl,rfl⟩⟩⟩
 ·cases e
end Go.Proofs
namespace Go.Num
def dU (lo hi p:PtS):Nat->List Int
 |0=>[]
 |j+1=>dU lo hi p j++(bif dN j lo hi p then [-((j:Int)+1)] else [])
def gG (n:Nat->Nat) (q:Nat->Nat->PtS) (p:PtS):Nat->List Int
 |0=>[]
 |i+1=>gG n q p i++(bif lr (n i) (q i) p (n i)==1 then [(i:Int)] else [])
def pK (L:List Int) (i:Nat):List PV:=[.val (.int .i64 ((L[i]?).getD 0))]
theorem yQ {L:List Int} {x:Int} {r:Nat->List PV} (h:r 0=[.val (.int .i64 x)]):∀i,i < L.length+1->pK (L++[x]) i=gM L.length (pK L) r i:=λi hi=>by
 unfold gM pK;by_cases hl:i < L.length
 ·rw [if_pos hl,List.getElem?_append_left hl]
 ·obtain rfl:i=L.length:=by omega
  rw [if_neg hl,Nat.sub_self,h];simp
theorem uc (lo hi p:PtS):∀j,(dU lo hi p j).length<=j
 |0=>Nat.le_refl _
 |j+1=>by
  have:=uc lo hi p j;rw [dU,List.length_append];cases dN j lo hi p<;>simp<;>omega
theorem yR (n:Nat->Nat) (q:Nat->Nat->PtS) (p:PtS):∀j,(gG n q p j).length<=j
 |0=>Nat.le_refl _
 |j+1=>by
  have:=yR n q p j;rw [gG,List.length_append];cases (lr (n j) (q j) p (n j)==1)<;>simp<;>omega
theorem vi {lo hi p:PtS}:∀{j:Nat},dU lo hi p j=[]↔aD (λi=>dN i lo hi p) j=false
 |0=>⟨λ_=>rfl,λ_=>rfl⟩
 |j+1=>by
  rw [dU,List.append_eq_nil_iff,vi,ay,ay];constructor
  ·rintro ⟨h1,h2⟩ i hij;by_cases e:i=j
   ·rw [e];cases hb:dN j lo hi p with
    |false=>rfl
    |true=>rw [hb] at h2;cases h2
   ·exact h1 i (by omega)
  ·intro h;exact⟨λi hi=>h i (by omega),by rw [h j (by omega)];rfl⟩
theorem vj {n:Nat->Nat} {q:Nat->Nat->PtS} {p:PtS}:∀{j:Nat},gG n q p j=[]↔aD (λi=>lr (n i) (q i) p (n i)==1) j=false
 |0=>⟨λ_=>rfl,λ_=>rfl⟩
 |j+1=>by
  rw [gG,List.append_eq_nil_iff,vj,ay,ay];constructor
  ·rintro ⟨h1,h2⟩ i hi;by_cases e:i=j
   ·rw [e];cases hb:(lr (n j) (q j) p (n j)==1) with
    |false=>rfl
    |true=>rw [hb] at h2;cases h2
   ·exact h1 i (by omega)
  ·intro h;exact⟨λi hi=>h i (by omega),by rw [h j (by omega)];rfl⟩
def zg (lo hi:PtS) (k:Nat) (n:Nat->Nat) (q:Nat->Nat->PtS) (p:PtS):List Int:=dU lo hi p 4++gG n q p k
theorem yS (lo hi:PtS) (k:Nat) (n:Nat->Nat) (q:Nat->Nat->PtS) (p:PtS):(((zg lo hi k n q p).length:Int)==0)=ap lo hi k n q p:=by
 unfold ap zg;rw [Bool.eq_iff_iff,beq_iff_eq,Bool.not_eq_true',Bool.or_eq_false_iff,<-vi,<-vj];constructor
 ·intro h;have:(dU lo hi p 4++gG n q p k).length=0:=by omega
  rw [List.length_eq_zero_iff,List.append_eq_nil_iff] at this;exact this
 ·rintro ⟨h1,h2⟩;rw [h1,h2];rfl
end Go.Num
namespace Go.Proofs
def Ic:List PV->Option Ans
 |[.agg xs,.val v]=>some ⟨some ((isRg 10000 xs/\isPk 10000 v)/\gK xs<=1000/\∀i,i < gK xs->pn (gC xs) i<=1000000),.rs 1 (zg (bO xs) (bP xs) (gK xs) (pn (gC xs)) (λi=>ae (pg (gC xs) i)) (aO v)).length (pK (zg (bO xs) (bP xs) (gK xs) (pn (gC xs)) (λi=>ae (pg (gC xs) i)) (aO v))),[]⟩
 |_=>none
def D97:Opt:={  }
theorem Ie:am D97.toOrd Tryz.f97 2=true:=by kernel_rfl
theorem f97:FnOk Tryz.prog 97 Ic:=by
 refine FnOk.ofW aj (an (l:=[(133,AT),(134,Dk)]) (own:=[]) (inl:=[]) (by simp [f133,f134]) (by simp)) Tryz.func97 D97 2 Ie λargs r e=>?_;unfold Ic at e;split at e
 ·rename_i xs v
  cases e;refine⟨by simp,λhm=>?_⟩;obtain⟨⟨⟨h1,⟨hlo,hhi⟩,hcl,hol⟩,p,rfl,hp⟩,hk,hn⟩:=hm _ rfl;generalize bO xs=lo at *
  generalize bP xs=hi at *
  generalize gK xs=k at *
  generalize gC xs=c at *
  generalize gL xs=l at *
  generalize gO xs=o at *
  subst h1;clear hm;have hcl':bM 10000 k (λi=>[.rs 6 (pn c i) (pg c i)]):=⟨λi hi=>⟨rfl,(hcl.1 i hi).2⟩,hcl.2⟩;refine⟨[],aa [(0,.agg (bq lo hi k c l o)),(1,.val p.v)] [] 0 [],Wo trivial ⟨⟨rfl,rfl,rfl,rfl,rfl,rfl,rfl,rfl,rfl,rfl,rfl,rfl,qW,qW,qQ⟩,rfl,qQ⟩ trivial,?_⟩;have hX:isRg 10000 (bq lo hi k c l o):=⟨rfl,⟨hlo,hhi⟩,hcl',λ_ _=>rfl,hol.2⟩;have hpk:isPk 10000 p.v:=⟨p,rfl,hp⟩;with_unfolding_all refine⟨Nat,λj=>j<=4,λj=>aa [(2,.ptr 0 0 0 0),(3,.ptr 1 1 0 0),(5,.sl 2 2 0 (dU lo hi p j).length),(6,.val (.int .i64 (-((j:Int)+1))))] [⟨31,14,0,true,false,1,λ_=>bq lo hi k c l o⟩,⟨25,6,1,true,false,1,λ_=>p.cells⟩,⟨3,1,2,false,false,(dU lo hi p j).length,pK (dU lo hi p j)⟩] 3 [],λj=>4 - j,⟨0,[some 0,some 1,none],Nat.zero_le _,Wo ⟨qZ ⟨rq,rq,rq,rq,rq,rq,rq,rq,rq,rq,rq,rq,⟨qW,rfl⟩,⟨qW,rfl⟩,qQ⟩,qK,⟨aN rfl,rfl,rfl,rfl⟩,qQ⟩ ⟨pP,pP,⟨rfl,rfl,rfl,rfl,aN rfl⟩,rfl,qQ⟩ trivial⟩,λj hj=>?_⟩
  replace hj:j<=4:=hj;with_unfolding_all refine⟨λh1=>?_,λh1=>?_⟩
  ·have hj4:j+1<=4:=by
    have:=of_decide_eq_true h1;omega
   have hl:=uc lo hi p j;have hsd:m6 (-((j:Int)+1))=j:=by
    match j,hj4 with
    |0,_=>rfl
    |1,_=>rfl
    |2,_=>rfl
    |3,_=>rfl
    |j+4,h=>omega
   have eT:dN (m6 (-((j:Int)+1))) lo hi p=true->dU lo hi p (j+1)=dU lo hi p j++[-((j:Int)+1)]:=λh=>by
    rw [hsd] at h;rw [dU,h];rfl
   have eF:dN (m6 (-((j:Int)+1))) lo hi p=false->dU lo hi p (j+1)=dU lo hi p j:=λh=>by
    rw [hsd] at h;rw [dU,h];exact List.append_nil _
   have nT:dN (m6 (-((j:Int)+1))) lo hi p=true->(dU lo hi p (j+1)).length=(dU lo hi p j).length+1:=λh=>by rw [eT h,List.length_append];rfl
   have nF:dN (m6 (-((j:Int)+1))) lo hi p=false->(dU lo hi p (j+1)).length=(dU lo hi p j).length:=λh=>by rw [eF h]
   have rT:dN (m6 (-((j:Int)+1))) lo hi p=true->∀r:Nat->List PV,r 0=[.val (.int .i64 (-((j:Int)+1)))]->∀t,t < (dU lo hi p j).length+1->pK (dU lo hi p (j+1)) t=gM (dU lo hi p j).length (pK (dU lo hi p j)) r t:=λh r hr=>by
    rw [eT h];exact yQ hr
   have rF:dN (m6 (-((j:Int)+1))) lo hi p=false->∀t,t < (dU lo hi p j).length->pK (dU lo hi p (j+1)) t=pK (dU lo hi p j) t:=λh t _=>by rw [eF h]
   have k1:((dU lo hi p j).length+1)*8<=140737488355328:=by omega
   have k2:(dU lo hi p j).length+1<=9223372036854775807:=by omega
   have w6:PV.val (.int .i64 (IntKind.i64.wrap (-((j:Int)+1) - 1)))=PV.val (.int .i64 (-(((j+1:Nat):Int)+1))):=by
    rw [wrap64 (by omega) (by omega)];exact congrArg (λz=>PV.val (.int .i64 z)) (by omega)
   have hμ : 4 - (j+1) < 4 - j:=by omega
   with_unfolding_all exact⟨⟨hX,hpk⟩,λh2=>⟨⟨rfl,k1,k2⟩,⟨j+1,[some 0,some 1,some 2],hj4,hμ,Wo ⟨qZ ⟨rq,rq,rq,rq,rq,rq,rq,rq,rq,rq,rq,rq,⟨qW,rfl⟩,⟨qW,rfl⟩,qQ⟩,qK,⟨aN rfl,rfl,rfl,rfl,rfl,(nT h2),rT h2 _ rfl⟩,qQ⟩ ⟨pP,pP,⟨rfl,rfl,(nT h2).symm,aN rfl,_,rfl⟩,w6,qQ⟩ trivial⟩⟩,λh2=>⟨j+1,[some 0,some 1,some 2],hj4,hμ,Wo ⟨qZ ⟨rq,rq,rq,rq,rq,rq,rq,rq,rq,rq,rq,rq,⟨qW,rfl⟩,⟨qW,rfl⟩,qQ⟩,qK,⟨aN rfl,rfl,rfl,rfl,rfl,(nF h2),rF h2⟩,qQ⟩ ⟨pP,pP,⟨rfl,rfl,(nF h2).symm,aN rfl,_,rfl⟩,w6,qQ⟩ trivial⟩⟩
  ·have hj4:j=4:=by
    have:¬ -((j:Int)+1) >= -4:=of_decide_eq_false h1;omega
   subst hj4;have n0:(dU lo hi p 4++gG (pn c) (λi=>ae (pg c i)) p 0).length=(dU lo hi p 4).length:=by rw [gG,List.append_nil]
   have r0:∀t,t < (dU lo hi p 4).length->pK (dU lo hi p 4++gG (pn c) (λi=>ae (pg c i)) p 0) t=pK (dU lo hi p 4) t:=λt _=>by rw [gG,List.append_nil]
   with_unfolding_all refine⟨Nat,λi=>i<=k,λi=>aa [(2,.ptr 0 0 0 0),(3,.ptr 1 1 0 0),(5,.sl 2 2 0 (dU lo hi p 4++gG (pn c) (λi=>ae (pg c i)) p i).length),(7,.val (goInt (i:Nat)))] [⟨31,14,0,true,false,1,λ_=>bq lo hi k c l o⟩,⟨25,6,1,true,false,1,λ_=>p.cells⟩,⟨3,1,2,false,false,(dU lo hi p 4++gG (pn c) (λi=>ae (pg c i)) p i).length,pK (dU lo hi p 4++gG (pn c) (λi=>ae (pg c i)) p i)⟩] 3 [],λi=>k - i,⟨0,[some 0,some 1,some 2],Nat.zero_le _,Wo ⟨qZ ⟨rq,rq,rq,rq,rq,rq,rq,rq,rq,rq,rq,rq,⟨qW,rfl⟩,⟨qW,rfl⟩,qQ⟩,qK,⟨aN rfl,rfl,rfl,rfl,rfl,n0,r0⟩,qQ⟩ ⟨pP,pP,⟨rfl,rfl,n0.symm,aN rfl,_,rfl⟩,rfl,qQ⟩ trivial⟩,λi hi1=>?_⟩
   replace hi1:i<=k:=hi1;with_unfolding_all refine⟨λh1=>?_,λh1=>?_⟩
   ·have hik:i < k:=by
     have:=of_decide_eq_true h1;exact Int.ofNat_lt.1 this
    have hl:=uc lo hi p 4;have hl2:=yR (pn c) (λi=>ae (pg c i)) p i;have hll:(dU lo hi p 4++gG (pn c) (λi=>ae (pg c i)) p i).length<=4+i:=by
     rw [List.length_append];omega
    have eT:(lr (pn c (i:Int).toNat) (ae (pg c (i:Int).toNat)) p (pn c (i:Int).toNat)==1)=true->(dU lo hi p 4++gG (pn c) (λi=>ae (pg c i)) p (i+1))=(dU lo hi p 4++gG (pn c) (λi=>ae (pg c i)) p i)++[(i:Int)]:=λh=>by
     rw [Int.toNat_natCast] at h;rw [gG,h,List.append_assoc];rfl
    have eF:(lr (pn c (i:Int).toNat) (ae (pg c (i:Int).toNat)) p (pn c (i:Int).toNat)==1)=false->(dU lo hi p 4++gG (pn c) (λi=>ae (pg c i)) p (i+1))=(dU lo hi p 4++gG (pn c) (λi=>ae (pg c i)) p i):=λh=>by
     rw [Int.toNat_natCast] at h;rw [gG,h];exact congrArg _ (List.append_nil _)
    have nT:(lr (pn c (i:Int).toNat) (ae (pg c (i:Int).toNat)) p (pn c (i:Int).toNat)==1)=true->(dU lo hi p 4++gG (pn c) (λi=>ae (pg c i)) p (i+1)).length=(dU lo hi p 4++gG (pn c) (λi=>ae (pg c i)) p i).length+1:=λh=>by
     rw [eT h,List.length_append];rfl
    have nF:(lr (pn c (i:Int).toNat) (ae (pg c (i:Int).toNat)) p (pn c (i:Int).toNat)==1)=false->(dU lo hi p 4++gG (pn c) (λi=>ae (pg c i)) p (i+1)).length=(dU lo hi p 4++gG (pn c) (λi=>ae (pg c i)) p i).length:=λh=>by rw [eF h]
    have rT:(lr (pn c (i:Int).toNat) (ae (pg c (i:Int).toNat)) p (pn c (i:Int).toNat)==1)=true->∀r:Nat->List PV,r 0=[.val (.int .i64 (i:Int))]->∀t,t < (dU lo hi p 4++gG (pn c) (λi=>ae (pg c i)) p i).length+1->pK (dU lo hi p 4++gG (pn c) (λi=>ae (pg c i)) p (i+1)) t=gM (dU lo hi p 4++gG (pn c) (λi=>ae (pg c i)) p i).length (pK (dU lo hi p 4++gG (pn c) (λi=>ae (pg c i)) p i)) r t:=λh r hr=>by
     rw [eT h];exact yQ hr
    have rF:(lr (pn c (i:Int).toNat) (ae (pg c (i:Int).toNat)) p (pn c (i:Int).toNat)==1)=false->∀t,t < (dU lo hi p 4++gG (pn c) (λi=>ae (pg c i)) p i).length->pK (dU lo hi p 4++gG (pn c) (λi=>ae (pg c i)) p (i+1)) t=pK (dU lo hi p 4++gG (pn c) (λi=>ae (pg c i)) p i) t:=λh t _=>by rw [eF h]
    have k1:((dU lo hi p 4++gG (pn c) (λi=>ae (pg c i)) p i).length+1)*8<=140737488355328:=by omega
    have k2:(dU lo hi p 4++gG (pn c) (λi=>ae (pg c i)) p i).length+1<=9223372036854775807:=by omega
    have q1:isPL 10000 (pn c (i:Int).toNat) (pg c (i:Int).toNat):=by
     rw [Int.toNat_natCast];exact(hcl.1 i hik).2
    have q2:pn c (i:Int).toNat<=1000000:=by
     rw [Int.toNat_natCast];exact hn i hik
    have w7:PV.val (.int .i64 (IntKind.i64.wrap ((i:Int)+1)))=PV.val (goInt ((i+1:Nat):Int)):=by
     rw [wrap64 (by omega) (by omega)];rfl
    have hμ : k - (i+1) < k - i:=by omega
    with_unfolding_all exact⟨⟨Int.natCast_nonneg i,of_decide_eq_true h1⟩,⟨q1,hpk,q2⟩,λh2=>⟨⟨rfl,k1,k2⟩,⟨i+1,[some 0,some 1,some 2],hik,hμ,Wo ⟨qZ ⟨rq,rq,rq,rq,rq,rq,rq,rq,rq,rq,rq,rq,⟨qW,rfl⟩,⟨qW,rfl⟩,qQ⟩,qK,⟨aN rfl,rfl,rfl,rfl,rfl,(nT h2),rT h2 _ rfl⟩,qQ⟩ ⟨pP,pP,⟨rfl,rfl,(nT h2).symm,aN rfl,_,rfl⟩,w7,qQ⟩ trivial⟩⟩,λh2=>⟨i+1,[some 0,some 1,some 2],hik,hμ,Wo ⟨qZ ⟨rq,rq,rq,rq,rq,rq,rq,rq,rq,rq,rq,rq,⟨qW,rfl⟩,⟨qW,rfl⟩,qQ⟩,qK,⟨aN rfl,rfl,rfl,rfl,rfl,(nF h2),rF h2⟩,qQ⟩ ⟨pP,pP,⟨rfl,rfl,(nF h2).symm,aN rfl,_,rfl⟩,w7,qQ⟩ trivial⟩⟩
   ·have hik:i=k:=by
     have:¬(i:Int) < k:=of_decide_eq_false h1;omega
    have el:(dU lo hi p 4++gG (pn c) (λi=>ae (pg c i)) p i).length=(zg lo hi k (pn c) (λi=>ae (pg c i)) p).length:=by rw [hik];rfl
    have er:∀t,t < (zg lo hi k (pn c) (λi=>ae (pg c i)) p).length->pK (zg lo hi k (pn c) (λi=>ae (pg c i)) p) t=pK (dU lo hi p 4++gG (pn c) (λi=>ae (pg c i)) p i) (0+t):=λt _=>by rw [hik,Nat.zero_add];rfl
    with_unfolding_all exact⟨[],aa [(4,.rs 1 (zg lo hi k (pn c) (λi=>ae (pg c i)) p).length (pK (zg lo hi k (pn c) (λi=>ae (pg c i)) p)))] [] 0 [],Wo trivial ⟨⟨by simp,_,rfl,rfl,rfl,el,er⟩,qQ⟩ trivial,rfl,rfl⟩
 ·cases e
def GC:List PV->Option Ans
 |[.agg xs,.val v]=>some ⟨some ((isRg 10000 xs/\isPk 10000 v)/\gK xs<=1000/\∀i,i < gK xs->pn (gC xs) i<=1000000),.val (.bool (ap (bO xs) (bP xs) (gK xs) (pn (gC xs)) (λi=>ae (pg (gC xs) i)) (aO v))),[]⟩
 |_=>none
def D60:Opt:={  }
theorem If:am D60.toOrd Tryz.f60 2=true:=by kernel_rfl
theorem f60:FnOk Tryz.prog 60 GC:=by
 refine FnOk.ofW aj (an (l:=[(97,Ic)]) (own:=[]) (inl:=[]) (by simp [f97]) (by simp)) Tryz.func60 D60 2 If λargs r e=>?_;unfold GC at e;split at e
 ·rename_i xs v
  cases e;refine⟨by simp,λhm=>?_⟩;obtain⟨⟨⟨h1,⟨hlo,hhi⟩,hcl,hol⟩,p,rfl,hp⟩,hk,hn⟩:=hm _ rfl;generalize bO xs=lo at *
  generalize bP xs=hi at *
  generalize gK xs=k at *
  generalize gC xs=c at *
  generalize gL xs=l at *
  generalize gO xs=o at *
  subst h1;clear hm;have hcl':bM 10000 k (λi=>[.rs 6 (pn c i) (pg c i)]):=⟨λi hi=>⟨rfl,(hcl.1 i hi).2⟩,hcl.2⟩;refine⟨[],aa [(0,.agg (bq lo hi k c l o)),(1,.val p.v)] [] 0 [],Wo trivial ⟨⟨rfl,rfl,rfl,rfl,rfl,rfl,rfl,rfl,rfl,rfl,rfl,rfl,qW,qW,qQ⟩,rfl,qQ⟩ trivial,?_⟩;have hX:isRg 10000 (bq lo hi k c l o):=⟨rfl,⟨hlo,hhi⟩,hcl',λ_ _=>rfl,hol.2⟩;have hpk:isPk 10000 p.v:=⟨p,rfl,hp⟩;have w:PV.val (.bool ((((zg lo hi k (pn c) (λi=>ae (pg c i)) p).length:Int)==0)))=PV.val (.bool (ap lo hi k (pn c) (λi=>ae (pg c i)) p)):=by rw [yS]
  with_unfolding_all exact⟨⟨⟨hX,hpk⟩,hk,hn⟩,⟨[],aa [(4,.val (.bool (ap lo hi k (pn c) (λi=>ae (pg c i)) p)))] [] 0 [],Wo trivial ⟨w,qQ⟩ trivial,rfl,rfl⟩⟩
 ·cases e
end Go.Proofs
namespace Go.Num
theorem Bm {f:Nat->Bool} {N j:Nat} (h:∀t,t < j->f t=false) (hj:j < N) (k:f j=true):dj f N 0=j:=by
 rcases tF (p:=f) N 0 with ⟨h1,_⟩|⟨i,_,h2,h3,h4,e⟩
 ·rw [h1 j (Nat.zero_le _) (by omega)] at k;cases k
 ·rw [e];rcases Nat.lt_trichotomy i j with h5|h5|h5
  ·rw [h i h5] at h3;cases h3
  ·rw [h5]
  ·rw [h4 j (Nat.zero_le _) h5] at k;cases k
def vk (lo hi:PtS) (k:Nat) (c:Nat->List PV) (l:Nat) (o:Nat->List PV) (a b:PtS):Bool:=(c7 lo hi k (pn c) (λi=>aZ (pn c i) (ae (pg c i))) l (ow o)==0)&&(ah a&&ah b)
theorem jq {lo hi:PtS} {k:Nat} {c:Nat->List PV} {l:Nat} {o:Nat->List PV} (h:c7 lo hi k (pn c) (λi=>aZ (pn c i) (ae (pg c i))) l (ow o)=0):bT lo hi k (pn c) (λi=>ae (pg c i)) l (ow o)=0/\k<=32/\∀i,i < k->pn c i<=64:=by
 have hr:=iG (r':=λi=>bh (pn c i) (ae (pg c i))) (λj _ h=>jo h) h;exact⟨hr,yM hr,λi hi=>(mP (iH hr i hi)).1.2⟩
def wR (lo hi a b:PtS) (i:Nat):Bool:=dN i lo hi a||dN i lo hi b
def vm (n:Nat->Nat) (p:Nat->Nat->PtS) (a b:PtS) (i:Nat):Bool:=Dv (fu (n i) (p i) a) (gx (n i) (p i) a b) (n i)
def Dm (lo hi:PtS) (k:Nat) (n:Nat->Nat) (p:Nat->Nat->PtS) (a b:PtS):Int:=bif aD (wR lo hi a b) 4 then -(dj (wR lo hi a b) 4 0+1) else bif aD (vm n p a b) k then dj (vm n p a b) k 0 else 0
end Go.Num
namespace Go.Proofs
def Ig:List PV->Option Ans
 |[.agg xs,.val v]=>some ⟨some ((isRg 10000 xs/\dL 10000 v)/\gK xs<=1000/\∀i,i < gK xs->pn (gC xs) i<=1000000),.val (.tuple ⟨[.int .i64 (Dm (bO xs) (bP xs) (gK xs) (pn (gC xs)) (λi=>ae (pg (gC xs) i)) (aM v).1 (aM v).2),.bool (kD (bO xs) (bP xs) (gK xs) (pn (gC xs)) (λi=>ae (pg (gC xs) i)) (aM v).1 (aM v).2)]⟩),[]⟩
 |_=>none
def D99:Opt:={ join:=λc=>match c with | .region 9 _ _=>true|_=>false,perm:=jl [(9,(.rd 0 (.rd 1 (.rd 2 (.rd 3 (.rd 4 (.rd 5 (.alt 6 (.rd 7 (.rd 8 (.rd 9 (.rd 10 (.alt 11 (.mk 12 .nil) (.mk 12 (.mk 11 .nil))))))) (.alt 11 (.alt 6 (.rd 7 (.rd 8 (.rd 9 (.rd 10 (.mk 12 .nil))))) (.mk 12 (.mk 6 (.rd 7 (.rd 8 (.rd 9 (.rd 10 .nil))))))) (.mk 12 (.alt 6 (.rd 7 (.rd 8 (.rd 9 (.rd 10 (.mk 11 .nil))))) (.mk 11 (.mk 6 (.rd 7 (.rd 8 (.rd 9 (.rd 10 .nil)))))))))))))))))] }
theorem Ih:am D99.toOrd Tryz.f99 2=true:=by kernel_rfl
theorem f99:FnOk Tryz.prog 99 Ig:=by
 refine FnOk.ofW aj (an (l:=[(133,AT),(136,Dl)]) (own:=[]) (inl:=[]) (by simp [f133,f136]) (by simp)) Tryz.func99 D99 2 Ih λargs r e=>?_;unfold Ig at e;split at e
 ·rename_i xs v
  cases e;refine⟨by simp,λhm=>?_⟩;obtain⟨⟨⟨h1,⟨hlo,hhi⟩,hcl,hol⟩,a,b,rfl,ha,hb⟩,hk,hn⟩:=hm _ rfl;generalize bO xs=lo at *
  generalize bP xs=hi at *
  generalize gK xs=k at *
  generalize gC xs=c at *
  generalize gL xs=l at *
  generalize gO xs=o at *
  subst h1;clear hm;have hcl':bM 10000 k (λi=>[.rs 6 (pn c i) (pg c i)]):=⟨λi hi=>⟨rfl,(hcl.1 i hi).2⟩,hcl.2⟩;have hX:isRg 10000 (bq lo hi k c l o):=⟨rfl,⟨hlo,hhi⟩,hcl',λ_ _=>rfl,hol.2⟩;have pka:isPk 10000 a.v:=⟨a,rfl,ha⟩;have pkb:isPk 10000 b.v:=⟨b,rfl,hb⟩;have psg:dL 10000 (ar a b):=⟨a,b,rfl,ha,hb⟩;refine⟨[],aa [(0,.agg (bq lo hi k c l o)),(1,.val (ar a b))] [] 0 [],Wo trivial ⟨⟨rfl,rfl,rfl,rfl,rfl,rfl,rfl,rfl,rfl,rfl,rfl,rfl,qW,qW,qQ⟩,rfl,qQ⟩ trivial,?_⟩;show zd _ _ _ _ _ ⟨_,.val (.tuple ⟨[.int .i64 (Dm lo hi k (pn c) (λi=>ae (pg c i)) a b),.bool (kD lo hi k (pn c) (λi=>ae (pg c i)) a b)]⟩),[]⟩;obtain⟨I,hI⟩:∃I,I=(Dm lo hi k (pn c) (λi=>ae (pg c i)) a b):=⟨_,rfl⟩;obtain⟨B,hB⟩:∃B,B=(kD lo hi k (pn c) (λi=>ae (pg c i)) a b):=⟨_,rfl⟩;rw [<-hI,<-hB];have eI:I=bif aD (wR lo hi a b) 4 then -(dj (wR lo hi a b) 4 0+1) else bif aD (vm (pn c) (λi=>ae (pg c i)) a b) k then dj (vm (pn c) (λi=>ae (pg c i)) a b) k 0 else 0:=hI;have eB:B=(aD (wR lo hi a b) 4||aD (vm (pn c) (λi=>ae (pg c i)) a b) k):=hB;clear hI hB;with_unfolding_all refine⟨Nat,λj=>j<=4/\∀t,t < j->wR lo hi a b t=false,λj=>aa [(2,.ptr 0 0 0 0),(3,.ptr 1 1 0 0),(6,.val (.int .i64 (-((j:Int)+1))))] [⟨31,14,0,true,false,1,λ_=>bq lo hi k c l o⟩,⟨117,12,1,true,false,1,λ_=>kx a b⟩] 2 [],λj=>4 - j,⟨0,[some 0,some 1],⟨Nat.zero_le _,λt ht=>absurd ht (Nat.not_lt_zero t)⟩,Wo ⟨qZ ⟨rq,rq,rq,rq,rq,rq,rq,rq,rq,rq,rq,rq,⟨qW,rfl⟩,⟨qW,rfl⟩,qQ⟩,qZ ⟨rq,rq,rq,rq,rq,rq,rq,rq,rq,rq,rq,rq,qQ⟩,qQ⟩ ⟨pP,pP,rfl,qQ⟩ trivial⟩,λj hj=>?_⟩
  obtain⟨hj,hjf⟩:j<=4/\∀t,t < j->wR lo hi a b t=false:=hj;with_unfolding_all refine⟨λh1=>?_,λh1=>?_⟩
  ·have hj4:j+1<=4:=by
    have:=of_decide_eq_true h1;omega
   have hsd:m6 (-((j:Int)+1))=j:=by
    match j,hj4 with
    |0,_=>rfl
    |1,_=>rfl
    |2,_=>rfl
    |3,_=>rfl
    |j+4,h=>omega
   have nj:dN (m6 (-((j:Int)+1))) lo hi a=false->dN (m6 (-((j:Int)+1))) lo hi b=false->∀t,t < j+1->wR lo hi a b t=false:=λh2 h3 t ht=>by
    rw [hsd] at h2 h3;by_cases e:t=j
    ·rw [e,wR,h2,h3];rfl
    ·exact hjf t (by omega)
   have yj:dN (m6 (-((j:Int)+1))) lo hi a=true\/dN (m6 (-((j:Int)+1))) lo hi b=true->PV.val (.int .i64 (-((j:Int)+1)))=PV.val (.int .i64 I)/\PV.val (.bool true)=PV.val (.bool B):=λh=>by
    rw [hsd] at h;have hs:wR lo hi a b j=true:=by
     unfold wR;rcases h with h|h<;>rw [h]<;>simp
    have ha4:aD (wR lo hi a b) 4=true:=bl.2 ⟨j,by omega,hs⟩;rw [eI,eB,ha4,Bm hjf (by omega) hs];exact⟨rfl,rfl⟩
   have w6:PV.val (.int .i64 (IntKind.i64.wrap (-((j:Int)+1) - 1)))=PV.val (.int .i64 (-(((j+1:Nat):Int)+1))):=by
    rw [wrap64 (by omega) (by omega)];exact congrArg (λz=>PV.val (.int .i64 z)) (by omega)
   have hμ : 4 - (j+1) < 4 - j:=by omega
   have hnn:∀B:Bool,B = !false->B=true:=λB h=>h;with_unfolding_all exact⟨⟨hX,pka⟩,λh2=>⟨⟨hX,pkb⟩,λh3=>⟨[],aa [(4,.val (.int .i64 I)),(5,.val (.bool B))] [] 0 [],Wo trivial ⟨(yj (.inr h3)).1,(yj (.inr h3)).2,qQ⟩ trivial,rfl,rfl⟩,λh3=>⟨j+1,[some 0,some 1],⟨hj4,(nj h2 h3)⟩,hμ,Wo ⟨qZ ⟨rq,rq,rq,rq,rq,rq,rq,rq,rq,rq,rq,rq,⟨qW,rfl⟩,⟨qW,rfl⟩,qQ⟩,qZ ⟨rq,rq,rq,rq,rq,rq,rq,rq,rq,rq,rq,rq,qQ⟩,qQ⟩ ⟨pP,pP,w6,qQ⟩ trivial⟩⟩,λh2=>⟨λ_=>⟨[],aa [(4,.val (.int .i64 I)),(5,.val (.bool B))] [] 0 [],Wo trivial ⟨(yj (.inl (hnn _ h2))).1,(yj (.inl (hnn _ h2))).2,qQ⟩ trivial,rfl,rfl⟩,λh=>(nomatch h)⟩⟩
  ·have hj4:j=4:=by
    have:¬ -((j:Int)+1) >= -4:=of_decide_eq_false h1;omega
   subst hj4;have a4:aD (wR lo hi a b) 4=false:=ay.2 hjf;with_unfolding_all refine⟨Nat,λi=>i<=k/\∀t,t < i->vm (pn c) (λi=>ae (pg c i)) a b t=false,λi=>aa [(2,.ptr 0 0 0 0),(3,.ptr 1 1 0 0),(7,.val (goInt (i:Nat)))] [⟨31,14,0,true,false,1,λ_=>bq lo hi k c l o⟩,⟨117,12,1,true,false,1,λ_=>kx a b⟩] 2 [],λi=>k - i,⟨0,[some 0,some 1],⟨Nat.zero_le _,λt ht=>absurd ht (Nat.not_lt_zero t)⟩,Wo ⟨qZ ⟨rq,rq,rq,rq,rq,rq,rq,rq,rq,rq,rq,rq,⟨qW,rfl⟩,⟨qW,rfl⟩,qQ⟩,qZ ⟨rq,rq,rq,rq,rq,rq,rq,rq,rq,rq,rq,rq,qQ⟩,qQ⟩ ⟨pP,pP,rfl,qQ⟩ trivial⟩,λi hi1=>?_⟩
   obtain⟨hi1,hif⟩:i<=k/\∀t,t < i->vm (pn c) (λi=>ae (pg c i)) a b t=false:=hi1;with_unfolding_all refine⟨λh1=>?_,λh1=>?_⟩
   ·have hik:i < k:=by
     have:=of_decide_eq_true h1;exact Int.ofNat_lt.1 this
    have q1:isPL 10000 (pn c (i:Int).toNat) (pg c (i:Int).toNat):=by
     rw [Int.toNat_natCast];exact(hcl.1 i hik).2
    have q2:pn c (i:Int).toNat<=1000000:=by
     rw [Int.toNat_natCast];exact hn i hik
    have w10:PV.val (.bool (wQ (fu (pn c (i:Int).toNat) (ae (pg c (i:Int).toNat)) a) (gx (pn c (i:Int).toNat) (ae (pg c (i:Int).toNat)) a b) (pn c (i:Int).toNat)).isSome)=PV.val (.bool (vm (pn c) (λi=>ae (pg c i)) a b i)):=by
     rw [Int.toNat_natCast,Gh];rfl
    have ni:(vm (pn c) (λi=>ae (pg c i)) a b i)=false->∀t,t < i+1->vm (pn c) (λi=>ae (pg c i)) a b t=false:=λh t ht=>by
     by_cases e:t=i
     ·rw [e];exact h
     ·exact hif t (by omega)
    have yi:(vm (pn c) (λi=>ae (pg c i)) a b i)=true->PV.val (.int .i64 (i:Int))=PV.val (.int .i64 I)/\PV.val (.bool true)=PV.val (.bool B):=λh=>by
     have hk4:aD (vm (pn c) (λi=>ae (pg c i)) a b) k=true:=bl.2 ⟨i,hik,h⟩;rw [eI,eB,a4,hk4,Bm hif hik h];exact⟨rfl,rfl⟩
    have w7:PV.val (.int .i64 (IntKind.i64.wrap ((i:Int)+1)))=PV.val (goInt ((i+1:Nat):Int)):=by
     rw [wrap64 (by omega) (by omega)];rfl
    have hμ : k - (i+1) < k - i:=by omega
    with_unfolding_all refine⟨Unit,λ_=>True,λ_=>aa [(2,.ptr 0 0 0 0),(3,.ptr 1 1 0 0),(7,.val (goInt (i:Nat))),(10,.val (.bool (vm (pn c) (λi=>ae (pg c i)) a b i)))] [⟨31,14,0,true,false,1,λ_=>bq lo hi k c l o⟩,⟨117,12,1,true,false,1,λ_=>kx a b⟩] 2 [],⟨⟨Int.natCast_nonneg i,of_decide_eq_true h1⟩,⟨⟨⟨q1,psg,q2⟩,⟨⟨(),[some 0,some 1],trivial,Wo ⟨qZ ⟨rq,rq,rq,rq,rq,rq,rq,rq,rq,rq,rq,rq,⟨qW,rfl⟩,⟨qW,rfl⟩,qQ⟩,qZ ⟨rq,rq,rq,rq,rq,rq,rq,rq,rq,rq,rq,rq,qQ⟩,qQ⟩ ⟨pP,pP,rfl,w10,qQ⟩ trivial⟩,⟨(),[some 0,some 1],trivial,Wo ⟨qZ ⟨rq,rq,rq,rq,rq,rq,rq,rq,rq,rq,rq,rq,⟨qW,rfl⟩,⟨qW,rfl⟩,qQ⟩,qZ ⟨rq,rq,rq,rq,rq,rq,rq,rq,rq,rq,rq,rq,qQ⟩,qQ⟩ ⟨pP,pP,rfl,w10,qQ⟩ trivial⟩⟩⟩,⟨⟨⟨⟨q1,psg,q2⟩,⟨(),[some 0,some 1],trivial,Wo ⟨qZ ⟨rq,rq,rq,rq,rq,rq,rq,rq,rq,rq,rq,rq,⟨qW,rfl⟩,⟨qW,rfl⟩,qQ⟩,qZ ⟨rq,rq,rq,rq,rq,rq,rq,rq,rq,rq,rq,rq,qQ⟩,qQ⟩ ⟨pP,pP,rfl,w10,qQ⟩ trivial⟩⟩,⟨⟨q1,psg,q2⟩,⟨(),[some 0,some 1],trivial,Wo ⟨qZ ⟨rq,rq,rq,rq,rq,rq,rq,rq,rq,rq,rq,rq,⟨qW,rfl⟩,⟨qW,rfl⟩,qQ⟩,qZ ⟨rq,rq,rq,rq,rq,rq,rq,rq,rq,rq,rq,rq,qQ⟩,qQ⟩ ⟨pP,pP,rfl,w10,qQ⟩ trivial⟩⟩⟩,⟨⟨⟨q1,psg,q2⟩,⟨(),[some 0,some 1],trivial,Wo ⟨qZ ⟨rq,rq,rq,rq,rq,rq,rq,rq,rq,rq,rq,rq,⟨qW,rfl⟩,⟨qW,rfl⟩,qQ⟩,qZ ⟨rq,rq,rq,rq,rq,rq,rq,rq,rq,rq,rq,rq,qQ⟩,qQ⟩ ⟨pP,pP,rfl,w10,qQ⟩ trivial⟩⟩,⟨⟨q1,psg,q2⟩,⟨(),[some 0,some 1],trivial,Wo ⟨qZ ⟨rq,rq,rq,rq,rq,rq,rq,rq,rq,rq,rq,rq,⟨qW,rfl⟩,⟨qW,rfl⟩,qQ⟩,qZ ⟨rq,rq,rq,rq,rq,rq,rq,rq,rq,rq,rq,rq,qQ⟩,qQ⟩ ⟨pP,pP,rfl,w10,qQ⟩ trivial⟩⟩⟩⟩⟩⟩,λ_ _=>?_⟩
    with_unfolding_all exact⟨λh2=>⟨[],aa [(4,.val (.int .i64 I)),(5,.val (.bool B))] [] 0 [],Wo trivial ⟨(yi h2).1,(yi h2).2,qQ⟩ trivial,rfl,rfl⟩,λh2=>⟨i+1,[some 0,some 1],⟨hik,(ni h2)⟩,hμ,Wo ⟨qZ ⟨rq,rq,rq,rq,rq,rq,rq,rq,rq,rq,rq,rq,⟨qW,rfl⟩,⟨qW,rfl⟩,qQ⟩,qZ ⟨rq,rq,rq,rq,rq,rq,rq,rq,rq,rq,rq,rq,qQ⟩,qQ⟩ ⟨pP,pP,w7,qQ⟩ trivial⟩⟩
   ·have hik:i=k:=by
     have:¬(i:Int) < k:=of_decide_eq_false h1;omega
    have ak:aD (vm (pn c) (λi=>ae (pg c i)) a b) k=false:=ay.2 (by rw [hik] at hif;exact hif);have y0:PV.val (.int .i64 0)=PV.val (.int .i64 I)/\PV.val (.bool false)=PV.val (.bool B):=by
     rw [eI,eB,a4,ak];exact⟨rfl,rfl⟩
    with_unfolding_all exact⟨[],aa [(4,.val (.int .i64 I)),(5,.val (.bool B))] [] 0 [],Wo trivial ⟨y0.1,y0.2,qQ⟩ trivial,rfl,rfl⟩
 ·cases e
def GD:List PV->Option Ans
 |[.agg xs,.val v,.val u]=>some ⟨some ((isRg 10000 xs/\isPk 10000 v/\isPk 10000 u)/\gK xs<=1000/\∀i,i < gK xs->pn (gC xs) i<=1000000),.val (.bool (!kD (bO xs) (bP xs) (gK xs) (pn (gC xs)) (λi=>ae (pg (gC xs) i)) (aO v) (aO u))),[]⟩
 |_=>none
def D62:Opt:={  }
theorem Ii:am D62.toOrd Tryz.f62 3=true:=by kernel_rfl
theorem f62:FnOk Tryz.prog 62 GD:=by
 refine FnOk.ofW aj (an (l:=[(99,Ig)]) (own:=[]) (inl:=[]) (by simp [f99]) (by simp)) Tryz.func62 D62 3 Ii λargs r e=>?_;unfold GD at e;split at e
 ·rename_i xs v u
  cases e;refine⟨by simp,λhm=>?_⟩;obtain⟨⟨⟨h1,⟨hlo,hhi⟩,hcl,hol⟩,⟨a,rfl,ha⟩,b,rfl,hb⟩,hk,hn⟩:=hm _ rfl;generalize bO xs=lo at *
  generalize bP xs=hi at *
  generalize gK xs=k at *
  generalize gC xs=c at *
  generalize gL xs=l at *
  generalize gO xs=o at *
  subst h1;clear hm;have hcl':bM 10000 k (λi=>[.rs 6 (pn c i) (pg c i)]):=⟨λi hi=>⟨rfl,(hcl.1 i hi).2⟩,hcl.2⟩;have hX:isRg 10000 (bq lo hi k c l o):=⟨rfl,⟨hlo,hhi⟩,hcl',λ_ _=>rfl,hol.2⟩;have psg:dL 10000 (ar a b):=⟨a,b,rfl,ha,hb⟩;refine⟨[],aa [(0,.agg (bq lo hi k c l o)),(1,.val a.v),(2,.val b.v)] [] 0 [],Wo trivial ⟨⟨rfl,rfl,rfl,rfl,rfl,rfl,rfl,rfl,rfl,rfl,rfl,rfl,qW,qW,qQ⟩,rfl,rfl,qQ⟩ trivial,?_⟩;with_unfolding_all exact⟨⟨⟨hX,psg⟩,hk,hn⟩,⟨[],aa [(6,.val (.bool (!(kD lo hi k (pn c) (λi=>ae (pg c i)) a b))))] [] 0 [],Wo trivial ⟨rfl,qQ⟩ trivial,rfl,rfl⟩⟩
 ·cases e
def IB:List PV->Option Ans
 |[.agg xs,.val v,.val u]=>some ⟨some (isRg 10000 xs/\isPk 10000 v/\isPk 10000 u),.val (.tuple ⟨[.bool (vk (bO xs) (bP xs) (gK xs) (gC xs) (gL xs) (gO xs) (aO v) (aO u)&&!kD (bO xs) (bP xs) (gK xs) (pn (gC xs)) (λi=>ae (pg (gC xs) i)) (aO v) (aO u)),.int .i64 (bW (vk (bO xs) (bP xs) (gK xs) (gC xs) (gL xs) (gO xs) (aO v) (aO u)))]⟩),[]⟩
 |_=>none
def D22:Opt:={  }
theorem Ij:am D22.toOrd Tryz.f22 3=true:=by kernel_rfl
theorem f22:FnOk Tryz.prog 22 IB:=by
 refine FnOk.ofW aj (an (l:=[(58,Dt),(59,Dq),(62,GD)]) (own:=[]) (inl:=[]) (by simp [f58,f59,f62]) (by simp)) Tryz.func22 D22 3 Ij λargs r e=>?_;unfold IB at e;split at e
 ·rename_i xs v u
  cases e;refine⟨by simp,λhm=>?_⟩;obtain⟨⟨h1,⟨hlo,hhi⟩,hcl,hol⟩,⟨a,rfl,ha⟩,b,rfl,hb⟩:=hm _ rfl;generalize bO xs=lo at *
  generalize bP xs=hi at *
  generalize gK xs=k at *
  generalize gC xs=c at *
  generalize gL xs=l at *
  generalize gO xs=o at *
  subst h1;clear hm;have hcl':bM 10000 k (λi=>[.rs 6 (pn c i) (pg c i)]):=⟨λi hi=>⟨rfl,(hcl.1 i hi).2⟩,hcl.2⟩;have hX:isRg 10000 (bq lo hi k c l o):=⟨rfl,⟨hlo,hhi⟩,hcl',λ_ _=>rfl,hol.2⟩;have pka:isPk 10000 a.v:=⟨a,rfl,ha⟩;have pkb:isPk 10000 b.v:=⟨b,rfl,hb⟩;have pa4:isPk 4294967296 a.v:=⟨a,rfl,ha.mono (by decide)⟩;have pb4:isPk 4294967296 b.v:=⟨b,rfl,hb.mono (by decide)⟩;refine⟨[],aa [(0,.agg (bq lo hi k c l o)),(1,.val a.v),(2,.val b.v)] [] 0 [],Wo trivial ⟨⟨rfl,rfl,rfl,rfl,rfl,rfl,rfl,rfl,rfl,rfl,rfl,rfl,qW,qW,qQ⟩,rfl,rfl,qQ⟩ trivial,?_⟩;show zd _ _ _ _ _ ⟨_,.val (.tuple ⟨[.bool ((vk lo hi k c l o a b)&&!(kD lo hi k (pn c) (λi=>ae (pg c i)) a b)),.int .i64 (bW (vk lo hi k c l o a b))]⟩),[]⟩;obtain⟨K,hK⟩:∃K,K=(vk lo hi k c l o a b):=⟨_,rfl⟩;obtain⟨B,hB⟩:∃B,B=(kD lo hi k (pn c) (λi=>ae (pg c i)) a b):=⟨_,rfl⟩;rw [<-hK,<-hB];have eK:K=(((c7 lo hi k (pn c) (λi=>aZ (pn c i) (ae (pg c i))) l (ow o))==0)&&(ah a&&ah b)):=hK;have z:∀C:Bool,(bW C != 0)=true->C=false:=λC h=>by cases C<;>first|rfl|cases h
  have z':∀C:Bool,(bW C != 0)=false->C=true:=λC h=>by cases C<;>first|rfl|cases h
  have bad:K=false->PV.val (.bool false)=PV.val (.bool (K&&!B))/\PV.val (.int .i64 1)=PV.val (.int .i64 (bW K)):=λh=>by
   rw [h];exact⟨rfl,rfl⟩
  have kc:((c7 lo hi k (pn c) (λi=>aZ (pn c i) (ae (pg c i))) l (ow o)) != 0)=true->K=false:=λh=>by
   have h:((c7 lo hi k (pn c) (λi=>aZ (pn c i) (ae (pg c i))) l (ow o))==0)=false:=by simpa using h
   rw [eK,h];rfl
  have ka:(bW (ah a) != 0)=true->K=false:=λh=>by
   rw [eK,z _ h,Bool.false_and,Bool.and_false]
  have kb:(bW (ah b) != 0)=true->K=false:=λh=>by
   rw [eK,z _ h,Bool.and_false,Bool.and_false]
  have kg:((c7 lo hi k (pn c) (λi=>aZ (pn c i) (ae (pg c i))) l (ow o)) != 0)=false->(bW (ah a) != 0)=false->(bW (ah b) != 0)=false->K=true:=λh h2 h3=>by
   have h:((c7 lo hi k (pn c) (λi=>aZ (pn c i) (ae (pg c i))) l (ow o))==0)=true:=by simpa using h
   rw [eK,h,z' _ h2,z' _ h3];rfl
  have fine:((c7 lo hi k (pn c) (λi=>aZ (pn c i) (ae (pg c i))) l (ow o)) != 0)=false->k<=1000/\∀i,i < k->pn c i<=1000000:=λh=>by
   have h:(c7 lo hi k (pn c) (λi=>aZ (pn c i) (ae (pg c i))) l (ow o))=0:=by simpa using h
   have hf:=jq h;exact⟨Nat.le_trans hf.2.1 (by decide),λi hi2=>Nat.le_trans (hf.2.2 i hi2) (by decide)⟩
  have good:K=true->PV.val (.bool (!(kD lo hi k (pn c) (λi=>ae (pg c i)) a b)))=PV.val (.bool (K&&!B))/\PV.val (.int .i64 0)=PV.val (.int .i64 (bW K)):=λh=>by
   rw [h,hB];exact⟨rfl,rfl⟩
  have hnn:∀C:Bool,C = !false->C=true:=λC h=>h;with_unfolding_all exact⟨hX,λh1=>⟨pa4,λh2=>⟨pb4,λh3=>⟨[],aa [(6,.val (.bool (K&&!B))),(7,.val (.int .i64 (bW K)))] [] 0 [],Wo trivial ⟨(bad (kb h3)).1,(bad (kb h3)).2,qQ⟩ trivial,rfl,rfl⟩,λh3=>⟨⟨⟨hX,pka,pkb⟩,fine h1⟩,⟨[],aa [(6,.val (.bool (K&&!B))),(7,.val (.int .i64 (bW K)))] [] 0 [],Wo trivial ⟨(good (kg h1 h2 h3)).1,(good (kg h1 h2 h3)).2,qQ⟩ trivial,rfl,rfl⟩⟩⟩,λh2=>⟨λ_=>⟨[],aa [(6,.val (.bool (K&&!B))),(7,.val (.int .i64 (bW K)))] [] 0 [],Wo trivial ⟨(bad (ka (hnn _ h2))).1,(bad (ka (hnn _ h2))).2,qQ⟩ trivial,rfl,rfl⟩,λh=>(nomatch h)⟩⟩,λh1=>⟨λh=>(nomatch h),λ_=>⟨λ_=>⟨[],aa [(6,.val (.bool (K&&!B))),(7,.val (.int .i64 (bW K)))] [] 0 [],Wo trivial ⟨(bad (kc (hnn _ h1))).1,(bad (kc (hnn _ h1))).2,qQ⟩ trivial,rfl,rfl⟩,λh=>(nomatch h)⟩⟩⟩
 ·cases e
end Go.Proofs
namespace Go.Ex
theorem R0.row {ok:Nat->Prop} {w:World} {es n:Nat} {g g':Nat->List PV} {v:Value} (h:R0 ok w (.rs es n g) v) (e:∀i,i < n->g' i=g i):R0 ok w (.rs es n g') v:=by
 cases h with
 |rs _ _ _ a c u hl hc hm h1 h2=>exact .rs _ _ _ a c u (λi hi=>by rw [e i hi];exact hl i hi) hc hm (λi f p hi hp=>h1 i f p hi (by rw [<-e i hi];exact hp)) (λi f p hi hp=>h2 i f p hi (by rw [<-e i hi];exact hp))
theorem R0.rows {ok:Nat->Prop} {w:World} {k z:Nat} {n:Nat->Nat} {g g':Nat->Nat->List PV} {v:Value} (h:R0 ok w (.rs 1 k λi=>[.rs z (n i) (g i)]) v) (e:∀i,i < k->∀t,t < n i->g' i t=g i t):R0 ok w (.rs 1 k λi=>[.rs z (n i) (g' i)]) v:=by
 cases h with
 |rs _ _ _ a c u hl hc hm h1 h2 =>
  refine .rs _ _ _ a c u (λi hi=>⟨rfl,λp hp=>?_⟩) hc hm (λi f p hi hp=>?_) (λi f p hi hp=>?_)
  ·rw [List.mem_singleton.1 hp];exact(hl i hi).2 (.rs z (n i) (g i)) (List.mem_singleton.2 rfl)
  ·match f with
   |0=>exact h1 i 0 _ hi rfl
   |f+1=>cases hp
  ·match f with
   |0 =>
    cases hp;exact R0.row (h2 i 0 _ hi rfl) (e i hi)
   |f+1=>cases hp
end Go.Ex
namespace Go.Num
def lu (c:Nat->List PV):Nat->List PV:=λi=>[.rs 6 (pn c i) (λt=>(ae (pg c i) t).cells)]
def j6 (L:List PtS) (x:PtS):Nat->Nat->Nat
 |0,i=>i
 |f+1,i=>bif decide (bg (ab L i) x < 0) then j6 L x f (i+1) else i
def iT (L:List PtS) (x:PtS):Nat:=j6 L x L.length 0
theorem vn {L:List PtS} {x:PtS} {m:Nat}:∀{f i:Nat},i<=m->(∀t,i<=t->t < m->bg (ab L t) x < 0)->m<=i+f->(m=i+f\/¬bg (ab L m) x < 0)->j6 L x f i=m
 |0,i,h0,_,h2,_=>by
  rw [j6];omega
 |f+1,i,h0,h1,h2,h3=>by
  rw [j6];by_cases e:i=m
  ·subst e;rcases h3 with h3|h3
   ·omega
   ·rw [decide_eq_false h3];rfl
  ·rw [decide_eq_true (h1 i (Nat.le_refl _) (by omega)),cond_true];exact vn (by omega) (λt a b=>h1 t (by omega) b) (by omega) (by rcases h3 with h3|h3;exact .inl (by omega);exact .inr h3)
theorem yU {L:List PtS} {x:PtS} {m:Nat} (h1:∀t,t < m->bg (ab L t) x < 0) (h2:m<=L.length) (h3:m=L.length\/¬bg (ab L m) x < 0):iT L x=m :=
 vn (Nat.zero_le _) (λt _ h=>h1 t h) (by omega) (by rcases h3 with h3|h3;exact .inl (by omega);exact .inr h3)
def ii (L:List PtS) (x:PtS):List PtS:=bif decide (iT L x < L.length)&&bE (ab L (iT L x)) x then L else L.take (iT L x)++x::L.drop (iT L x)
def ce (S:PtS->Bool) (p:Nat->PtS) (L:List PtS):Nat->List PtS
 |0=>L
 |j+1=>bif S (p j) then ii (ce S p L j) (p j) else ce S p L j
def bK (S:PtS->Bool) (n:Nat->Nat) (p:Nat->Nat->PtS):Nat->List PtS
 |0=>[]
 |i+1=>ce S (p i) (bK S n p i) (n i)
theorem yV (L:List PtS) (x:PtS):(ii L x).length<=L.length+1:=by
 unfold ii;cases decide (iT L x < L.length)&&bE (ab L (iT L x)) x with
 |true=>exact Nat.le_succ _
 |false =>
  show(L.take (iT L x)++x::L.drop (iT L x)).length<=_;rw [List.length_append,List.length_cons,List.length_take,List.length_drop];omega
theorem pM (S:PtS->Bool) (p:Nat->PtS) (L:List PtS):∀j,(ce S p L j).length<=L.length+j
 |0=>Nat.le_refl _
 |j+1=>by
  have h1:=pM S p L j;have h2:=yV (ce S p L j) (p j);rw [ce];cases S (p j) with
  |true=>show(ii (ce S p L j) (p j)).length<=_;omega
  |false=>show(ce S p L j).length<=_;omega
theorem pN (S:PtS->Bool) (n:Nat->Nat) (p:Nat->Nat->PtS) {k:Nat} (hn:∀i,i < k->n i<=64):∀i,i<=k->(bK S n p i).length<=64*i
 |0,_=>Nat.le_refl _
 |i+1,h=>by
  have h1:=pN S n p hn i (by omega);have h2:=pM S (p i) (bK S n p i) (n i);have h3:=hn i (by omega);rw [bK];omega
theorem yW {K:Nat} {L:List PtS} {x:PtS} (h:∀p∈L,p.le K) (hx:x.le K):∀p∈ii L x,p.le K:=λp hp=>by
 unfold ii at hp;cases hb:decide (iT L x < L.length)&&bE (ab L (iT L x)) x with
 |true =>
  rw [hb] at hp;exact h p hp
 |false =>
  rw [hb] at hp;have hp:p∈L.take (iT L x)++x::L.drop (iT L x):=hp;rcases List.mem_append.1 hp with hp|hp
  ·exact h p (List.mem_of_mem_take hp)
  ·rcases List.mem_cons.1 hp with hp|hp
   ·rw [hp];exact hx
   ·exact h p (List.mem_of_mem_drop hp)
theorem pO {K:Nat} {S:PtS->Bool} {p:Nat->PtS} {L:List PtS} (h:∀q∈L,q.le K):∀{j:Nat},(∀t,t < j->(p t).le K)->∀q∈ce S p L j,q.le K
 |0,_=>h
 |j+1,hp=>λq hq=>by
  rw [ce] at hq;have ih:=pO (S:=S) h (j:=j) λt ht=>hp t (by omega);cases hS:S (p j) with
  |true =>
   rw [hS] at hq;exact yW ih (hp j (by omega)) q hq
  |false =>
   rw [hS] at hq;exact ih q hq
theorem pQ {K:Nat} {S:PtS->Bool} {n:Nat->Nat} {p:Nat->Nat->PtS}:∀{i:Nat},(∀s,s < i->∀t,t < n s->(p s t).le K)->∀q∈bK S n p i,q.le K
 |0,_=>λq hq=>by cases hq
 |i+1,h=>pO (pQ λs hs=>h s (by omega)) λt ht=>h i (by omega) t ht
theorem yX {L:List PtS} {x:PtS} {m:Nat} (hm:m<=L.length) (t:Nat) (ht:t < L.length+1):ab (L.take m++x::L.drop m) t=if t < m then ab L t else if t=m then x else ab L (t - 1):=by
 unfold ab;by_cases h:t < m
 ·rw [if_pos h,List.getElem?_append_left (by rw [List.length_take];omega),List.getElem?_take_of_lt h]
 ·rw [if_neg h,List.getElem?_append_right (by rw [List.length_take];omega),List.length_take,Nat.min_eq_left hm];by_cases e:t=m
  ·rw [if_pos e,e,Nat.sub_self];rfl
  ·rw [if_neg e,show t - m=(t - m - 1)+1 by omega,List.getElem?_cons_succ,List.getElem?_drop,show m+(t - m - 1)=t - 1 by omega]
theorem wS {L:List PtS} {x:PtS} {m:Nat} (h:iT L x=m) (e:(decide (m < L.length)&&bE (ab L m) x)=true):ii L x=L:=by
 rw [ii,h,e];rfl
theorem yY {L:List PtS} {x:PtS} {m:Nat} (h:iT L x=m) (hm:m<=L.length) (e:(decide (m < L.length)&&bE (ab L m) x)=false):(ii L x).length=m+1+((L.length:Int) - m).toNat/\∀r:Nat->List PV,r 0=x.cells->∀t,t < m+1+((L.length:Int) - m).toNat->(ab (ii L x) t).cells=gM (m+1) (gM m (λt=>(ab L t).cells) r) (λs=>(ab L (0+(m:Int).toNat+s)).cells) t:=by
 have e2:ii L x=L.take m++x::L.drop m:=by
  rw [ii,h,e];rfl
 rw [e2];refine⟨by rw [List.length_append,List.length_cons,List.length_take,List.length_drop];omega,λr hr t ht=>?_⟩;rw [yX hm t (by omega),gM,gM,Nat.zero_add,Int.toNat_natCast];by_cases h1:t < m
 ·rw [if_pos h1,if_pos (by omega),if_pos h1]
 ·rw [if_neg h1];by_cases h2:t=m
  ·rw [if_pos h2,if_pos (by omega),if_neg h1,h2,Nat.sub_self,hr]
  ·rw [if_neg h2,if_neg (by omega),show m+(t - (m+1))=t - 1 by omega]
end Go.Num
namespace Go.Proofs
def Gj:List PV->Option Ans
 |[.agg xs]=>some ⟨some (isRg 10000 xs/\(gK xs<=32/\∀i,i < gK xs->pn (gC xs) i<=64)/\gC xs=lu (gC xs)),.rs 6 (bK (ap (bO xs) (bP xs) (gK xs) (pn (gC xs)) (λi=>ae (pg (gC xs) i))) (pn (gC xs)) (λi=>ae (pg (gC xs) i)) (gK xs)).length (λt=>(ab (bK (ap (bO xs) (bP xs) (gK xs) (pn (gC xs)) (λi=>ae (pg (gC xs) i))) (pn (gC xs)) (λi=>ae (pg (gC xs) i)) (gK xs)) t).cells),[]⟩
 |_=>none
def D61:Opt:={  }
theorem Ik:am D61.toOrd Tryz.f61 1=true:=by kernel_rfl
theorem Il:FnOk Tryz.prog 61 Gj:=by
 refine FnOk.ofW aj (an (l:=[(60,GC),(98,Gs)]) (own:=[]) (inl:=[]) (by simp [f60,f98]) (by simp)) Tryz.func61 D61 1 Ik λargs r e=>?_;unfold Gj at e;split at e
 ·rename_i xs
  cases e;refine⟨by simp,λhm=>?_⟩;obtain⟨⟨h1,⟨hlo,hhi⟩,hcl,hol⟩,⟨hk,hn⟩,hnm⟩:=hm _ rfl;generalize bO xs=lo at *
  generalize bP xs=hi at *
  generalize gK xs=k at *
  generalize gC xs=c at *
  generalize gL xs=l at *
  generalize gO xs=o at *
  subst h1;clear hm;obtain⟨d,rfl⟩:∃d,c=lu d:=⟨c,hnm⟩;clear hnm;have hp:∀i,i < k->∀t,t < pn d i->(ae (pg d i) t).le 10000:=λi hi2 t ht=>((hcl.1 i hi2).2.1 t ht).2;have hn:∀i,i < k->pn d i<=64:=hn;have hX:isRg 10000 (bq lo hi k (lu d) l o):=⟨rfl,⟨hlo,hhi⟩,⟨λi hi2=>⟨rfl,(hcl.1 i hi2).2⟩,hcl.2⟩,λ_ _=>rfl,hol.2⟩;refine⟨[],aa [(0,.agg (bq lo hi k (lu d) l o))] [] 0 [],Wo trivial ⟨⟨rfl,rfl,rfl,rfl,rfl,rfl,rfl,rfl,rfl,rfl,rfl,rfl,qW,qW,qQ⟩,qQ⟩ trivial,?_⟩;show zd _ _ _ _ _ ⟨_,.rs 6 (bK (ap lo hi k (pn d) (λi=>ae (pg d i))) (pn d) (λi=>ae (pg d i)) k).length (λt=>(ab (bK (ap lo hi k (pn d) (λi=>ae (pg d i))) (pn d) (λi=>ae (pg d i)) k) t).cells),[]⟩;have hk3:k<=1000:=by omega
  have hn3:∀i,i < k->pn d i<=1000000:=λi hi2=>Nat.le_trans (hn i hi2) (by decide);with_unfolding_all refine⟨Nat,λi=>i<=k,λi=>aa [(1,.ptr 0 0 0 0),(3,.sl 1 1 0 (bK (ap lo hi k (pn d) (λi=>ae (pg d i))) (pn d) (λi=>ae (pg d i)) i).length),(4,.val (goInt (i:Nat)))] [⟨31,14,0,true,false,1,λ_=>bq lo hi k (lu d) l o⟩,⟨25,6,1,false,false,(bK (ap lo hi k (pn d) (λi=>ae (pg d i))) (pn d) (λi=>ae (pg d i)) i).length,λt=>(ab (bK (ap lo hi k (pn d) (λi=>ae (pg d i))) (pn d) (λi=>ae (pg d i)) i) t).cells⟩] 2 [],λi=>k - i,⟨0,[some 0,some 1],Nat.zero_le _,Wo ⟨qZ ⟨rq,rq,rq,rq,rq,rq,rq,rq,rq,rq,rq,rq,⟨qW,rfl⟩,⟨qW,rfl⟩,qQ⟩,qZ (λt ht=>absurd ht (Nat.not_lt_zero t)),qQ⟩ ⟨pP,pP,rfl,qQ⟩ trivial⟩,λi hi1=>?_⟩
  replace hi1:i<=k:=hi1;with_unfolding_all refine⟨λh1=>?_,λh1=>?_⟩
  ·have hik:i < k:=by
    have:=of_decide_eq_true h1;exact Int.ofNat_lt.1 this
   have bi:0<=(i:Int)/\(i:Int) < k:=⟨Int.natCast_nonneg i,of_decide_eq_true h1⟩;with_unfolding_all refine⟨Nat,λj=>j<=pn d i,λj=>aa [(1,.ptr 0 0 0 0),(3,.sl 1 1 0 (ce (ap lo hi k (pn d) (λi=>ae (pg d i))) (ae (pg d i)) (bK (ap lo hi k (pn d) (λi=>ae (pg d i))) (pn d) (λi=>ae (pg d i)) i) j).length),(4,.val (goInt (i:Nat))),(5,.val (goInt (j:Nat)))] [⟨31,14,0,true,false,1,λ_=>bq lo hi k (lu d) l o⟩,⟨25,6,1,false,false,(ce (ap lo hi k (pn d) (λi=>ae (pg d i))) (ae (pg d i)) (bK (ap lo hi k (pn d) (λi=>ae (pg d i))) (pn d) (λi=>ae (pg d i)) i) j).length,λt=>(ab (ce (ap lo hi k (pn d) (λi=>ae (pg d i))) (ae (pg d i)) (bK (ap lo hi k (pn d) (λi=>ae (pg d i))) (pn d) (λi=>ae (pg d i)) i) j) t).cells⟩] 2 [],λj=>pn d i - j,⟨0,[some 0,some 1],Nat.zero_le _,Wo ⟨qZ ⟨rq,rq,rq,rq,rq,rq,rq,rq,rq,rq,rq,rq,⟨qW,rfl⟩,⟨qW,rfl⟩,qQ⟩,qZ (λ_ _=>rfl),qQ⟩ ⟨pP,pP,rfl,rfl,qQ⟩ trivial⟩,λj hj1=>?_⟩
   replace hj1:j<=pn d i:=hj1;with_unfolding_all refine⟨bi,λh1=>?_,λh1=>?_⟩
   ·have hjn:j < pn d i:=by
     have:=of_decide_eq_true h1;rw [show pn (lu d) (i:Int).toNat=pn d i by rw [Int.toNat_natCast];rfl] at this;exact Int.ofNat_lt.1 this
    have bj:0<=(j:Int)/\(j:Int) < pn (lu d) (i:Int).toNat:=⟨Int.natCast_nonneg j,of_decide_eq_true h1⟩;have pkp:isPk 10000 (ae (pg d (i:Int).toNat) (j:Int).toNat).v:=⟨_,rfl,by rw [Int.toNat_natCast,Int.toNat_natCast];exact hp i hik j hjn⟩;with_unfolding_all refine⟨bi,bj,⟨⟨hX,pkp⟩,hk3,hn3⟩,λh2=>?_,λh2=>?_⟩
    ·have hj1:j+1<=pn d i:=hjn;have hμ : pn d i - (j+1) < pn d i - j:=by omega
     have hpn:=hn i hik;have w5:PV.val (.int .i64 (IntKind.i64.wrap ((j:Int)+1)))=PV.val (goInt ((j+1:Nat):Int)):=by
      rw [wrap64 (by omega) (by omega)];rfl
     rw [Int.toNat_natCast,Int.toNat_natCast] at h2;have hS:(ap lo hi k (pn d) (λi=>ae (pg d i)) (ae (pg d i) j))=false:=by
      rw [<-Bool.not_eq_true'];exact h2
     have hL0:(ce (ap lo hi k (pn d) (λi=>ae (pg d i))) (ae (pg d i)) (bK (ap lo hi k (pn d) (λi=>ae (pg d i))) (pn d) (λi=>ae (pg d i)) i) (j+1)).length=(ce (ap lo hi k (pn d) (λi=>ae (pg d i))) (ae (pg d i)) (bK (ap lo hi k (pn d) (λi=>ae (pg d i))) (pn d) (λi=>ae (pg d i)) i) j).length/\∀t,t < (ce (ap lo hi k (pn d) (λi=>ae (pg d i))) (ae (pg d i)) (bK (ap lo hi k (pn d) (λi=>ae (pg d i))) (pn d) (λi=>ae (pg d i)) i) j).length->(ab (ce (ap lo hi k (pn d) (λi=>ae (pg d i))) (ae (pg d i)) (bK (ap lo hi k (pn d) (λi=>ae (pg d i))) (pn d) (λi=>ae (pg d i)) i) (j+1)) t).cells=(ab (ce (ap lo hi k (pn d) (λi=>ae (pg d i))) (ae (pg d i)) (bK (ap lo hi k (pn d) (λi=>ae (pg d i))) (pn d) (λi=>ae (pg d i)) i) j) t).cells:=by
      rw [ce,hS];exact⟨rfl,λt _=>rfl⟩
     with_unfolding_all exact⟨j+1,[some 0,some 1],hj1,hμ,Wo ⟨qZ ⟨rq,rq,rq,rq,rq,rq,rq,rq,rq,rq,rq,rq,⟨qW,rfl⟩,⟨qW,rfl⟩,qQ⟩,⟨aN rfl,rfl,rfl,rfl,rfl,hL0.1,hL0.2⟩,qQ⟩ ⟨pP,⟨rfl,rfl,hL0.1.symm,aN rfl,_,rfl⟩,rfl,w5,qQ⟩ trivial⟩
    ·have hj1:j+1<=pn d i:=hjn;have hμ : pn d i - (j+1) < pn d i - j:=by omega
     have hpn:=hn i hik;have w5:PV.val (.int .i64 (IntKind.i64.wrap ((j:Int)+1)))=PV.val (goInt ((j+1:Nat):Int)):=by
      rw [wrap64 (by omega) (by omega)];rfl
     rw [Int.toNat_natCast,Int.toNat_natCast] at h2;have hS:(ap lo hi k (pn d) (λi=>ae (pg d i)) (ae (pg d i) j))=true:=by
      rw [Bool.not_eq_false'] at h2;exact h2
     have eL:(ce (ap lo hi k (pn d) (λi=>ae (pg d i))) (ae (pg d i)) (bK (ap lo hi k (pn d) (λi=>ae (pg d i))) (pn d) (λi=>ae (pg d i)) i) (j+1))=ii (ce (ap lo hi k (pn d) (λi=>ae (pg d i))) (ae (pg d i)) (bK (ap lo hi k (pn d) (λi=>ae (pg d i))) (pn d) (λi=>ae (pg d i)) i) j) (ae (pg d i) j):=by
      rw [ce,hS];rfl
     have hLl:(ce (ap lo hi k (pn d) (λi=>ae (pg d i))) (ae (pg d i)) (bK (ap lo hi k (pn d) (λi=>ae (pg d i))) (pn d) (λi=>ae (pg d i)) i) j).length<=100000:=by
      have h6:=pM (ap lo hi k (pn d) (λi=>ae (pg d i))) (ae (pg d i)) (bK (ap lo hi k (pn d) (λi=>ae (pg d i))) (pn d) (λi=>ae (pg d i)) i) j;have h7:=pN (ap lo hi k (pn d) (λi=>ae (pg d i))) (pn d) (λi=>ae (pg d i)) hn i (by omega);have h8:=hn i hik;omega
     have hLp:∀q∈(ce (ap lo hi k (pn d) (λi=>ae (pg d i))) (ae (pg d i)) (bK (ap lo hi k (pn d) (λi=>ae (pg d i))) (pn d) (λi=>ae (pg d i)) i) j),q.le 10000:=pO (pQ λs hs t ht=>hp s (by omega) t ht) λt ht=>hp i hik t (by omega);with_unfolding_all refine⟨Nat,λm=>m<=(ce (ap lo hi k (pn d) (λi=>ae (pg d i))) (ae (pg d i)) (bK (ap lo hi k (pn d) (λi=>ae (pg d i))) (pn d) (λi=>ae (pg d i)) i) j).length/\∀t,t < m->bg (ab (ce (ap lo hi k (pn d) (λi=>ae (pg d i))) (ae (pg d i)) (bK (ap lo hi k (pn d) (λi=>ae (pg d i))) (pn d) (λi=>ae (pg d i)) i) j) t) (ae (pg d i) j) < 0,λm=>aa [(1,.ptr 0 0 0 0),(3,.sl 1 1 0 (ce (ap lo hi k (pn d) (λi=>ae (pg d i))) (ae (pg d i)) (bK (ap lo hi k (pn d) (λi=>ae (pg d i))) (pn d) (λi=>ae (pg d i)) i) j).length),(4,.val (goInt (i:Nat))),(5,.val (goInt (j:Nat))),(6,.ptr 2 2 0 0),(7,.sl 3 3 0 m),(8,.val (goInt (m:Nat)))] [⟨31,14,0,true,false,1,λ_=>bq lo hi k (lu d) l o⟩,⟨25,6,1,false,false,(ce (ap lo hi k (pn d) (λi=>ae (pg d i))) (ae (pg d i)) (bK (ap lo hi k (pn d) (λi=>ae (pg d i))) (pn d) (λi=>ae (pg d i)) i) j).length,λt=>(ab (ce (ap lo hi k (pn d) (λi=>ae (pg d i))) (ae (pg d i)) (bK (ap lo hi k (pn d) (λi=>ae (pg d i))) (pn d) (λi=>ae (pg d i)) i) j) t).cells⟩,⟨25,6,2,true,false,1,λ_=>(ae (pg d i) j).cells⟩,⟨25,6,3,false,false,m,λt=>(ab (ce (ap lo hi k (pn d) (λi=>ae (pg d i))) (ae (pg d i)) (bK (ap lo hi k (pn d) (λi=>ae (pg d i))) (pn d) (λi=>ae (pg d i)) i) j) t).cells⟩] 4 [],λm=>(ce (ap lo hi k (pn d) (λi=>ae (pg d i))) (ae (pg d i)) (bK (ap lo hi k (pn d) (λi=>ae (pg d i))) (pn d) (λi=>ae (pg d i)) i) j).length - m,⟨0,[some 0,some 1,some 2,some 3],⟨Nat.zero_le _,λt ht=>absurd ht (Nat.not_lt_zero t)⟩,Wo ⟨qZ ⟨rq,rq,rq,rq,rq,rq,rq,rq,rq,rq,rq,rq,⟨qW,rfl⟩,⟨qW,rfl⟩,qQ⟩,qZ (λ_ _=>rfl),qK,qZ (λt ht=>absurd ht (Nat.not_lt_zero t)),qQ⟩ ⟨pP,pP,rfl,rfl,pP,pP,rfl,qQ⟩ trivial⟩,λm hm=>?_⟩
     obtain⟨hm1,hmt⟩:m<=(ce (ap lo hi k (pn d) (λi=>ae (pg d i))) (ae (pg d i)) (bK (ap lo hi k (pn d) (λi=>ae (pg d i))) (pn d) (λi=>ae (pg d i)) i) j).length/\∀t,t < m->bg (ab (ce (ap lo hi k (pn d) (λi=>ae (pg d i))) (ae (pg d i)) (bK (ap lo hi k (pn d) (λi=>ae (pg d i))) (pn d) (λi=>ae (pg d i)) i) j) t) (ae (pg d i) j) < 0:=hm;have bm:0<=(m:Int)/\(m:Int) < (ce (ap lo hi k (pn d) (λi=>ae (pg d i))) (ae (pg d i)) (bK (ap lo hi k (pn d) (λi=>ae (pg d i))) (pn d) (λi=>ae (pg d i)) i) j).length->m < (ce (ap lo hi k (pn d) (λi=>ae (pg d i))) (ae (pg d i)) (bK (ap lo hi k (pn d) (λi=>ae (pg d i))) (pn d) (λi=>ae (pg d i)) i) j).length:=λh=>Int.ofNat_lt.1 h.2;have lm:decide ((m:Int) < (ce (ap lo hi k (pn d) (λi=>ae (pg d i))) (ae (pg d i)) (bK (ap lo hi k (pn d) (λi=>ae (pg d i))) (pn d) (λi=>ae (pg d i)) i) j).length)=true->m < (ce (ap lo hi k (pn d) (λi=>ae (pg d i))) (ae (pg d i)) (bK (ap lo hi k (pn d) (λi=>ae (pg d i))) (pn d) (λi=>ae (pg d i)) i) j).length:=λh=>Int.ofNat_lt.1 (of_decide_eq_true h);have ln:decide ((m:Int) < (ce (ap lo hi k (pn d) (λi=>ae (pg d i))) (ae (pg d i)) (bK (ap lo hi k (pn d) (λi=>ae (pg d i))) (pn d) (λi=>ae (pg d i)) i) j).length) = !true->m=(ce (ap lo hi k (pn d) (λi=>ae (pg d i))) (ae (pg d i)) (bK (ap lo hi k (pn d) (λi=>ae (pg d i))) (pn d) (λi=>ae (pg d i)) i) j).length:=λh=>by
      have:=of_decide_eq_false h;omega
     have bml:decide ((m:Int) < (ce (ap lo hi k (pn d) (λi=>ae (pg d i))) (ae (pg d i)) (bK (ap lo hi k (pn d) (λi=>ae (pg d i))) (pn d) (λi=>ae (pg d i)) i) j).length)=true->0<=(m:Int)/\(m:Int) < (ce (ap lo hi k (pn d) (λi=>ae (pg d i))) (ae (pg d i)) (bK (ap lo hi k (pn d) (λi=>ae (pg d i))) (pn d) (λi=>ae (pg d i)) i) j).length:=λh=>⟨Int.natCast_nonneg m,of_decide_eq_true h⟩;have pkm:decide ((m:Int) < (ce (ap lo hi k (pn d) (λi=>ae (pg d i))) (ae (pg d i)) (bK (ap lo hi k (pn d) (λi=>ae (pg d i))) (pn d) (λi=>ae (pg d i)) i) j).length)=true->isPk 1073741824 (ab (ce (ap lo hi k (pn d) (λi=>ae (pg d i))) (ae (pg d i)) (bK (ap lo hi k (pn d) (λi=>ae (pg d i))) (pn d) (λi=>ae (pg d i)) i) j) (0+(m:Int).toNat)).v/\isPk 1073741824 (ae (pg d i) j).v:=λh=>⟨⟨_,rfl,(f7 hLp (by rw [Nat.zero_add];exact lm h)).mono (by decide)⟩,_,rfl,(hp i hik j hjn).mono (by decide)⟩;have hM:decide ((m:Int) < (ce (ap lo hi k (pn d) (λi=>ae (pg d i))) (ae (pg d i)) (bK (ap lo hi k (pn d) (λi=>ae (pg d i))) (pn d) (λi=>ae (pg d i)) i) j).length)=true->decide (bg (ab (ce (ap lo hi k (pn d) (λi=>ae (pg d i))) (ae (pg d i)) (bK (ap lo hi k (pn d) (λi=>ae (pg d i))) (pn d) (λi=>ae (pg d i)) i) j) (0+(m:Int).toNat)) (ae (pg d i) j) < 0)=true->(m+1<=(ce (ap lo hi k (pn d) (λi=>ae (pg d i))) (ae (pg d i)) (bK (ap lo hi k (pn d) (λi=>ae (pg d i))) (pn d) (λi=>ae (pg d i)) i) j).length/\∀t,t < m+1->bg (ab (ce (ap lo hi k (pn d) (λi=>ae (pg d i))) (ae (pg d i)) (bK (ap lo hi k (pn d) (λi=>ae (pg d i))) (pn d) (λi=>ae (pg d i)) i) j) t) (ae (pg d i) j) < 0):=λh h2=>⟨lm h,λt ht=>by
      rw [Nat.zero_add] at h2;by_cases e:t=m
      ·rw [e];exact of_decide_eq_true h2
      ·exact hmt t (by omega)⟩
     have hμ3:decide ((m:Int) < (ce (ap lo hi k (pn d) (λi=>ae (pg d i))) (ae (pg d i)) (bK (ap lo hi k (pn d) (λi=>ae (pg d i))) (pn d) (λi=>ae (pg d i)) i) j).length)=true->(ce (ap lo hi k (pn d) (λi=>ae (pg d i))) (ae (pg d i)) (bK (ap lo hi k (pn d) (λi=>ae (pg d i))) (pn d) (λi=>ae (pg d i)) i) j).length - (m+1) < (ce (ap lo hi k (pn d) (λi=>ae (pg d i))) (ae (pg d i)) (bK (ap lo hi k (pn d) (λi=>ae (pg d i))) (pn d) (λi=>ae (pg d i)) i) j).length - m:=λh=>by
      have:=lm h;omega
     have a1:(m+1)*80<=140737488355328:=by omega
     have a2:m+1<=9223372036854775807:=by omega
     have a3:(m+1+(((ce (ap lo hi k (pn d) (λi=>ae (pg d i))) (ae (pg d i)) (bK (ap lo hi k (pn d) (λi=>ae (pg d i))) (pn d) (λi=>ae (pg d i)) i) j).length:Int) - m).toNat)*80<=140737488355328:=by omega
     have a4:m+1+(((ce (ap lo hi k (pn d) (λi=>ae (pg d i))) (ae (pg d i)) (bK (ap lo hi k (pn d) (λi=>ae (pg d i))) (pn d) (λi=>ae (pg d i)) i) j).length:Int) - m).toNat<=9223372036854775807:=by omega
     have bm2:0<=(m:Int)/\(m:Int)<=(ce (ap lo hi k (pn d) (λi=>ae (pg d i))) (ae (pg d i)) (bK (ap lo hi k (pn d) (λi=>ae (pg d i))) (pn d) (λi=>ae (pg d i)) i) j).length/\((ce (ap lo hi k (pn d) (λi=>ae (pg d i))) (ae (pg d i)) (bK (ap lo hi k (pn d) (λi=>ae (pg d i))) (pn d) (λi=>ae (pg d i)) i) j).length:Int)<=(ce (ap lo hi k (pn d) (λi=>ae (pg d i))) (ae (pg d i)) (bK (ap lo hi k (pn d) (λi=>ae (pg d i))) (pn d) (λi=>ae (pg d i)) i) j).length:=⟨Int.natCast_nonneg m,by omega,Int.le_refl _⟩;have hrow:∀r:Nat->List PV,r 0=(ab (ce (ap lo hi k (pn d) (λi=>ae (pg d i))) (ae (pg d i)) (bK (ap lo hi k (pn d) (λi=>ae (pg d i))) (pn d) (λi=>ae (pg d i)) i) j) (0+(m:Int).toNat)).cells->∀t,t < m+1->(ab (ce (ap lo hi k (pn d) (λi=>ae (pg d i))) (ae (pg d i)) (bK (ap lo hi k (pn d) (λi=>ae (pg d i))) (pn d) (λi=>ae (pg d i)) i) j) t).cells=gM m (λt=>(ab (ce (ap lo hi k (pn d) (λi=>ae (pg d i))) (ae (pg d i)) (bK (ap lo hi k (pn d) (λi=>ae (pg d i))) (pn d) (λi=>ae (pg d i)) i) j) t).cells) r t:=λr hr t ht=>uR (V:=λt=>(ab (ce (ap lo hi k (pn d) (λi=>ae (pg d i))) (ae (pg d i)) (bK (ap lo hi k (pn d) (λi=>ae (pg d i))) (pn d) (λi=>ae (pg d i)) i) j) t).cells) (by rw [hr,Nat.zero_add];rfl) t ht;have wm:PV.val (.int .i64 (IntKind.i64.wrap ((m:Int)+1)))=PV.val (goInt ((m+1:Nat):Int)):=by
      rw [wrap64 (by omega) (by omega)];rfl
     have hE:(m=(ce (ap lo hi k (pn d) (λi=>ae (pg d i))) (ae (pg d i)) (bK (ap lo hi k (pn d) (λi=>ae (pg d i))) (pn d) (λi=>ae (pg d i)) i) j).length\/¬bg (ab (ce (ap lo hi k (pn d) (λi=>ae (pg d i))) (ae (pg d i)) (bK (ap lo hi k (pn d) (λi=>ae (pg d i))) (pn d) (λi=>ae (pg d i)) i) j) m) (ae (pg d i) j) < 0)->(decide (m < (ce (ap lo hi k (pn d) (λi=>ae (pg d i))) (ae (pg d i)) (bK (ap lo hi k (pn d) (λi=>ae (pg d i))) (pn d) (λi=>ae (pg d i)) i) j).length)&&bE (ab (ce (ap lo hi k (pn d) (λi=>ae (pg d i))) (ae (pg d i)) (bK (ap lo hi k (pn d) (λi=>ae (pg d i))) (pn d) (λi=>ae (pg d i)) i) j) m) (ae (pg d i) j))=true->((ce (ap lo hi k (pn d) (λi=>ae (pg d i))) (ae (pg d i)) (bK (ap lo hi k (pn d) (λi=>ae (pg d i))) (pn d) (λi=>ae (pg d i)) i) (j+1)).length=(ce (ap lo hi k (pn d) (λi=>ae (pg d i))) (ae (pg d i)) (bK (ap lo hi k (pn d) (λi=>ae (pg d i))) (pn d) (λi=>ae (pg d i)) i) j).length/\∀t,t < (ce (ap lo hi k (pn d) (λi=>ae (pg d i))) (ae (pg d i)) (bK (ap lo hi k (pn d) (λi=>ae (pg d i))) (pn d) (λi=>ae (pg d i)) i) j).length->(ab (ce (ap lo hi k (pn d) (λi=>ae (pg d i))) (ae (pg d i)) (bK (ap lo hi k (pn d) (λi=>ae (pg d i))) (pn d) (λi=>ae (pg d i)) i) (j+1)) t).cells=(ab (ce (ap lo hi k (pn d) (λi=>ae (pg d i))) (ae (pg d i)) (bK (ap lo hi k (pn d) (λi=>ae (pg d i))) (pn d) (λi=>ae (pg d i)) i) j) t).cells):=λh6 h7=>by
      rw [eL,wS (yU hmt hm1 h6) h7];exact⟨rfl,λt _=>rfl⟩
     have hI:(m=(ce (ap lo hi k (pn d) (λi=>ae (pg d i))) (ae (pg d i)) (bK (ap lo hi k (pn d) (λi=>ae (pg d i))) (pn d) (λi=>ae (pg d i)) i) j).length\/¬bg (ab (ce (ap lo hi k (pn d) (λi=>ae (pg d i))) (ae (pg d i)) (bK (ap lo hi k (pn d) (λi=>ae (pg d i))) (pn d) (λi=>ae (pg d i)) i) j) m) (ae (pg d i) j) < 0)->(decide (m < (ce (ap lo hi k (pn d) (λi=>ae (pg d i))) (ae (pg d i)) (bK (ap lo hi k (pn d) (λi=>ae (pg d i))) (pn d) (λi=>ae (pg d i)) i) j).length)&&bE (ab (ce (ap lo hi k (pn d) (λi=>ae (pg d i))) (ae (pg d i)) (bK (ap lo hi k (pn d) (λi=>ae (pg d i))) (pn d) (λi=>ae (pg d i)) i) j) m) (ae (pg d i) j))=false->((ce (ap lo hi k (pn d) (λi=>ae (pg d i))) (ae (pg d i)) (bK (ap lo hi k (pn d) (λi=>ae (pg d i))) (pn d) (λi=>ae (pg d i)) i) (j+1)).length=m+1+(((ce (ap lo hi k (pn d) (λi=>ae (pg d i))) (ae (pg d i)) (bK (ap lo hi k (pn d) (λi=>ae (pg d i))) (pn d) (λi=>ae (pg d i)) i) j).length:Int) - m).toNat/\∀r:Nat->List PV,r 0=(ae (pg d i) j).cells->∀t,t < m+1+(((ce (ap lo hi k (pn d) (λi=>ae (pg d i))) (ae (pg d i)) (bK (ap lo hi k (pn d) (λi=>ae (pg d i))) (pn d) (λi=>ae (pg d i)) i) j).length:Int) - m).toNat->(ab (ce (ap lo hi k (pn d) (λi=>ae (pg d i))) (ae (pg d i)) (bK (ap lo hi k (pn d) (λi=>ae (pg d i))) (pn d) (λi=>ae (pg d i)) i) (j+1)) t).cells=gM (m+1) (gM m (λt=>(ab (ce (ap lo hi k (pn d) (λi=>ae (pg d i))) (ae (pg d i)) (bK (ap lo hi k (pn d) (λi=>ae (pg d i))) (pn d) (λi=>ae (pg d i)) i) j) t).cells) r) (λs=>(ab (ce (ap lo hi k (pn d) (λi=>ae (pg d i))) (ae (pg d i)) (bK (ap lo hi k (pn d) (λi=>ae (pg d i))) (pn d) (λi=>ae (pg d i)) i) j) (0+(m:Int).toNat+s)).cells) t):=λh6 h7=>by
      rw [eL];exact yY (yU hmt hm1 h6) hm1 h7
     have hx:decide (bg (ab (ce (ap lo hi k (pn d) (λi=>ae (pg d i))) (ae (pg d i)) (bK (ap lo hi k (pn d) (λi=>ae (pg d i))) (pn d) (λi=>ae (pg d i)) i) j) (0+(m:Int).toNat)) (ae (pg d i) j) < 0)=false->(m=(ce (ap lo hi k (pn d) (λi=>ae (pg d i))) (ae (pg d i)) (bK (ap lo hi k (pn d) (λi=>ae (pg d i))) (pn d) (λi=>ae (pg d i)) i) j).length\/¬bg (ab (ce (ap lo hi k (pn d) (λi=>ae (pg d i))) (ae (pg d i)) (bK (ap lo hi k (pn d) (λi=>ae (pg d i))) (pn d) (λi=>ae (pg d i)) i) j) m) (ae (pg d i) j) < 0):=λh=>by
      rw [Nat.zero_add] at h;exact .inr (of_decide_eq_false h)
     have q1:decide ((m:Int) < (ce (ap lo hi k (pn d) (λi=>ae (pg d i))) (ae (pg d i)) (bK (ap lo hi k (pn d) (λi=>ae (pg d i))) (pn d) (λi=>ae (pg d i)) i) j).length)=true->bE (ab (ce (ap lo hi k (pn d) (λi=>ae (pg d i))) (ae (pg d i)) (bK (ap lo hi k (pn d) (λi=>ae (pg d i))) (pn d) (λi=>ae (pg d i)) i) j) (0+(m:Int).toNat)) (ae (pg d i) j)=true->(decide (m < (ce (ap lo hi k (pn d) (λi=>ae (pg d i))) (ae (pg d i)) (bK (ap lo hi k (pn d) (λi=>ae (pg d i))) (pn d) (λi=>ae (pg d i)) i) j).length)&&bE (ab (ce (ap lo hi k (pn d) (λi=>ae (pg d i))) (ae (pg d i)) (bK (ap lo hi k (pn d) (λi=>ae (pg d i))) (pn d) (λi=>ae (pg d i)) i) j) m) (ae (pg d i) j))=true:=λh h2=>by
      rw [Nat.zero_add] at h2;rw [decide_eq_true (lm h),Bool.true_and];exact h2
     have q0:decide ((m:Int) < (ce (ap lo hi k (pn d) (λi=>ae (pg d i))) (ae (pg d i)) (bK (ap lo hi k (pn d) (λi=>ae (pg d i))) (pn d) (λi=>ae (pg d i)) i) j).length)=true->bE (ab (ce (ap lo hi k (pn d) (λi=>ae (pg d i))) (ae (pg d i)) (bK (ap lo hi k (pn d) (λi=>ae (pg d i))) (pn d) (λi=>ae (pg d i)) i) j) (0+(m:Int).toNat)) (ae (pg d i) j)=false->(decide (m < (ce (ap lo hi k (pn d) (λi=>ae (pg d i))) (ae (pg d i)) (bK (ap lo hi k (pn d) (λi=>ae (pg d i))) (pn d) (λi=>ae (pg d i)) i) j).length)&&bE (ab (ce (ap lo hi k (pn d) (λi=>ae (pg d i))) (ae (pg d i)) (bK (ap lo hi k (pn d) (λi=>ae (pg d i))) (pn d) (λi=>ae (pg d i)) i) j) m) (ae (pg d i) j))=false:=λh h2=>by
      rw [Nat.zero_add] at h2;rw [decide_eq_true (lm h),Bool.true_and];exact h2
     have q2:decide ((m:Int) < (ce (ap lo hi k (pn d) (λi=>ae (pg d i))) (ae (pg d i)) (bK (ap lo hi k (pn d) (λi=>ae (pg d i))) (pn d) (λi=>ae (pg d i)) i) j).length) = !true->(decide (m < (ce (ap lo hi k (pn d) (λi=>ae (pg d i))) (ae (pg d i)) (bK (ap lo hi k (pn d) (λi=>ae (pg d i))) (pn d) (λi=>ae (pg d i)) i) j).length)&&bE (ab (ce (ap lo hi k (pn d) (λi=>ae (pg d i))) (ae (pg d i)) (bK (ap lo hi k (pn d) (λi=>ae (pg d i))) (pn d) (λi=>ae (pg d i)) i) j) m) (ae (pg d i) j))=false:=λh=>by
      have:=ln h;rw [decide_eq_false (by omega),Bool.false_and]
     have c5:decide ((m:Int) < (ce (ap lo hi k (pn d) (λi=>ae (pg d i))) (ae (pg d i)) (bK (ap lo hi k (pn d) (λi=>ae (pg d i))) (pn d) (λi=>ae (pg d i)) i) j).length)=true->decide ((m:Int) < (ce (ap lo hi k (pn d) (λi=>ae (pg d i))) (ae (pg d i)) (bK (ap lo hi k (pn d) (λi=>ae (pg d i))) (pn d) (λi=>ae (pg d i)) i) j).length) = !true->False:=λh h2=>by
      rw [h] at h2;cases h2
     with_unfolding_all refine⟨λh3=>⟨bml h3,pkm h3,λh4=>⟨bml h3,⟨⟨rfl,a1,a2⟩,?_⟩⟩,λh4=>⟨λh5=>⟨bml h5,λe1=>?_,λe0=>⟨⟨rfl,a1,a2⟩,bm2,⟨rfl,a3,a4⟩,?_⟩⟩,λh5=>(c5 h3 h5).elim⟩⟩,λh3=>⟨λh=>(nomatch h),λ_=>⟨λh5=>(c5 h5 h3).elim,λh5=>⟨λh=>(nomatch h),λ_=>⟨⟨rfl,a1,a2⟩,bm2,⟨rfl,a3,a4⟩,?_⟩⟩⟩⟩⟩
     ·with_unfolding_all exact⟨m+1,[some 0,some 1,some 2,some 3],hM h3 h4,hμ3 h3,Wo ⟨qZ ⟨rq,rq,rq,rq,rq,rq,rq,rq,rq,rq,rq,rq,⟨qW,rfl⟩,⟨qW,rfl⟩,qQ⟩,qZ (λ_ _=>rfl),qK,qZ (hrow _ rfl),qQ⟩ ⟨pP,pP,rfl,rfl,pP,pP,wm,qQ⟩ trivial⟩
     ·with_unfolding_all exact⟨j+1,[some 0,some 1],hj1,hμ,Wo ⟨qZ ⟨rq,rq,rq,rq,rq,rq,rq,rq,rq,rq,rq,rq,⟨qW,rfl⟩,⟨qW,rfl⟩,qQ⟩,⟨aN rfl,rfl,rfl,rfl,rfl,(hE (hx h4) (q1 h5 e1)).1,(hE (hx h4) (q1 h5 e1)).2⟩,qQ⟩ ⟨pP,⟨rfl,rfl,(hE (hx h4) (q1 h5 e1)).1.symm,aN rfl,_,rfl⟩,rfl,w5,qQ⟩ trivial⟩
     ·with_unfolding_all exact⟨j+1,[some 0,some 3],hj1,hμ,Wo ⟨qZ ⟨rq,rq,rq,rq,rq,rq,rq,rq,rq,rq,rq,rq,⟨qW,rfl⟩,⟨qW,rfl⟩,qQ⟩,⟨aN rfl,rfl,rfl,rfl,rfl,(hI (hx h4) (q0 h5 e0)).1,(hI (hx h4) (q0 h5 e0)).2 _ rfl⟩,qQ⟩ ⟨pP,⟨rfl,rfl,(hI (hx h4) (q0 h5 e0)).1.symm,aN rfl,_,rfl⟩,rfl,w5,qQ⟩ trivial⟩
     ·with_unfolding_all exact⟨j+1,[some 0,some 3],hj1,hμ,Wo ⟨qZ ⟨rq,rq,rq,rq,rq,rq,rq,rq,rq,rq,rq,rq,⟨qW,rfl⟩,⟨qW,rfl⟩,qQ⟩,⟨aN rfl,rfl,rfl,rfl,rfl,(hI (.inl (ln h3)) (q2 h5)).1,(hI (.inl (ln h3)) (q2 h5)).2 _ rfl⟩,qQ⟩ ⟨pP,⟨rfl,rfl,(hI (.inl (ln h3)) (q2 h5)).1.symm,aN rfl,_,rfl⟩,rfl,w5,qQ⟩ trivial⟩
   ·have hjn:j=pn d i:=by
     have:=of_decide_eq_false h1;rw [show pn (lu d) (i:Int).toNat=pn d i by rw [Int.toNat_natCast];rfl] at this;omega
    have hE:(bK (ap lo hi k (pn d) (λi=>ae (pg d i))) (pn d) (λi=>ae (pg d i)) (i+1)).length=(ce (ap lo hi k (pn d) (λi=>ae (pg d i))) (ae (pg d i)) (bK (ap lo hi k (pn d) (λi=>ae (pg d i))) (pn d) (λi=>ae (pg d i)) i) j).length/\∀t,t < (ce (ap lo hi k (pn d) (λi=>ae (pg d i))) (ae (pg d i)) (bK (ap lo hi k (pn d) (λi=>ae (pg d i))) (pn d) (λi=>ae (pg d i)) i) j).length->(ab (bK (ap lo hi k (pn d) (λi=>ae (pg d i))) (pn d) (λi=>ae (pg d i)) (i+1)) t).cells=(ab (ce (ap lo hi k (pn d) (λi=>ae (pg d i))) (ae (pg d i)) (bK (ap lo hi k (pn d) (λi=>ae (pg d i))) (pn d) (λi=>ae (pg d i)) i) j) t).cells:=by
     rw [hjn,bK];exact⟨rfl,λt _=>rfl⟩
    have hμi:k - (i+1) < k - i:=by omega
    have w4:PV.val (.int .i64 (IntKind.i64.wrap ((i:Int)+1)))=PV.val (goInt ((i+1:Nat):Int)):=by
     rw [wrap64 (by omega) (by omega)];rfl
    with_unfolding_all exact⟨i+1,[some 0,some 1],hik,hμi,Wo ⟨qZ ⟨rq,rq,rq,rq,rq,rq,rq,rq,rq,rq,rq,rq,⟨qW,rfl⟩,⟨qW,rfl⟩,qQ⟩,⟨aN rfl,rfl,rfl,rfl,rfl,hE.1,hE.2⟩,qQ⟩ ⟨pP,⟨rfl,rfl,hE.1.symm,aN rfl,_,rfl⟩,w4,qQ⟩ trivial⟩
  ·have hik:i=k:=by
    have:¬(i:Int) < k:=of_decide_eq_false h1;omega
   have hE:(bK (ap lo hi k (pn d) (λi=>ae (pg d i))) (pn d) (λi=>ae (pg d i)) k).length=(bK (ap lo hi k (pn d) (λi=>ae (pg d i))) (pn d) (λi=>ae (pg d i)) i).length/\∀t,t < (bK (ap lo hi k (pn d) (λi=>ae (pg d i))) (pn d) (λi=>ae (pg d i)) k).length->(ab (bK (ap lo hi k (pn d) (λi=>ae (pg d i))) (pn d) (λi=>ae (pg d i)) k) t).cells=(ab (bK (ap lo hi k (pn d) (λi=>ae (pg d i))) (pn d) (λi=>ae (pg d i)) i) (0+t)).cells:=by
    rw [hik];exact⟨rfl,λt _=>by rw [Nat.zero_add]⟩
   with_unfolding_all exact⟨[],aa [(2,.rs 6 (bK (ap lo hi k (pn d) (λi=>ae (pg d i))) (pn d) (λi=>ae (pg d i)) k).length (λt=>(ab (bK (ap lo hi k (pn d) (λi=>ae (pg d i))) (pn d) (λi=>ae (pg d i)) k) t).cells))] [] 0 [],Wo trivial ⟨⟨by simp,_,rfl,rfl,rfl,hE.1.symm,hE.2⟩,qQ⟩ trivial,rfl,rfl⟩
 ·cases e
theorem AW {ok:Nat->Prop} {w:World} {lo hi:PtS} {k:Nat} {c:Nat->List PV} {l:Nat} {o:Nat->List PV} {v:Value} (h:R0 ok w (.agg (bq lo hi k c l o)) v) (e:∀i,i < k->∀t,t < pn c i->(ae (pg c i) t).cells=pg c i t):R0 ok w (.agg (bq lo hi k (lu c) l o)) v:=by
 cases h with
 |agg _ vs hl hR =>
  refine .agg _ vs hl λi p u hp hu=>?_;by_cases hi:i=12
  ·subst hi;have h2:=hR 12 _ u rfl hu;cases hp;exact R0.rows h2 e
  ·refine hR i p u ?_ hu;rw [<-hp]
   match i,hi with
   |0,_|1,_|2,_|3,_|4,_|5,_|6,_|7,_|8,_|9,_|10,_|11,_|13,_=>rfl
   |12,h=>exact absurd rfl h
   |i+14,_=>rfl
def GE:List PV->Option Ans
 |[.agg xs]=>some ⟨some (isRg 10000 xs/\gK xs<=32/\∀i,i < gK xs->pn (gC xs) i<=64),.rs 6 (bK (ap (bO xs) (bP xs) (gK xs) (pn (gC xs)) (λi=>ae (pg (gC xs) i))) (pn (gC xs)) (λi=>ae (pg (gC xs) i)) (gK xs)).length (λt=>(ab (bK (ap (bO xs) (bP xs) (gK xs) (pn (gC xs)) (λi=>ae (pg (gC xs) i))) (pn (gC xs)) (λi=>ae (pg (gC xs) i)) (gK xs)) t).cells),[]⟩
 |_=>none
theorem f61:FnOk Tryz.prog 61 GE:=λargs r e=>by
 unfold GE at e;split at e
 ·rename_i xs
  cases e;have h:=Il [.agg (bq (bO xs) (bP xs) (gK xs) (lu (gC xs)) (gL xs) (gO xs))] _ rfl;refine⟨λvs w=>h.1 vs w,λhm A w vs hA hl hR=>?_⟩;obtain⟨⟨h1,hb,hcl,hol⟩,hn⟩:=hm _ rfl;refine h.2 (λq hq=>?_) A w vs hA hl λi p v hp hv=>?_
  ·cases hq;exact⟨⟨rfl,hb,⟨λi hi=>⟨rfl,λt ht=>⟨rfl,((hcl.1 i hi).2.1 t ht).2⟩,(hcl.1 i hi).2.2⟩,hcl.2⟩,λi hi=>rfl,hol.2⟩,hn,rfl⟩
  ·match i with
   |0 =>
    cases hp;have h2:=hR 0 _ v rfl hv;rw [h1] at h2;exact AW h2 λi hi t ht=>((hcl.1 i hi).2.1 t ht).1.symm
   |i+1=>cases hp
 ·cases e
end Go.Proofs
namespace Go.Ex
open Go.RowKit
end Go.Ex
namespace Go.Num
end Go.Num
namespace Go.Proofs
end Go.Proofs
namespace Go.Num
def AX (lo hi:PtS) (k:Nat) (c:Nat->List PV) (l:Nat) (o:Nat->List PV):Bool:=bT lo hi k (pn c) (λi=>ae (pg c i)) l (ow o)==0
def od (lo hi:PtS) (k:Nat) (c:Nat->List PV) (l:Nat) (o:Nat->List PV):List PtS:=bif AX lo hi k c l o then cN lo hi k c l o else []
end Go.Num
namespace Go.Proofs
def IC:List PV->Option Ans
 |[.agg xs]=>some ⟨some (isRg 10000 xs/\(au (bO xs) (bP xs) (gK xs) (gC xs) (gL xs) (gO xs)).length<=500),.tup [.rs 6 (od (bO xs) (bP xs) (gK xs) (gC xs) (gL xs) (gO xs)).length (λi=>(ab (od (bO xs) (bP xs) (gK xs) (gC xs) (gL xs) (gO xs)) i).cells),.val (.int .i64 (bW (AX (bO xs) (bP xs) (gK xs) (gC xs) (gL xs) (gO xs))))],[]⟩
 |_=>none
theorem Im:am {} Tryz.f23 1=true:=by kernel_rfl
theorem f23:FnOk Tryz.prog 23 IC:=by
 refine FnOk.ofW aj (an (l:=[(55,AJ),(57,Gv)]) (own:=[]) (inl:=[]) (by simp [F1,f57]) (by simp)) Tryz.func23 {} 1 Im λargs r e=>?_;unfold IC at e;split at e
 ·rename_i xs
  cases e;refine⟨by simp,λhm=>?_⟩;obtain⟨⟨h1,⟨hlo,hhi⟩,hcl,hol⟩,hN⟩:=hm _ rfl;generalize bO xs=lo at *
  generalize bP xs=hi at *
  generalize gK xs=k at *
  generalize gC xs=c at *
  generalize gL xs=l at *
  generalize gO xs=o at *
  subst h1;clear hm;refine⟨[],aa [(0,.agg (bq lo hi k c l o))] [] 0 [],Wo trivial ⟨⟨rfl,rfl,rfl,rfl,rfl,rfl,rfl,rfl,rfl,rfl,rfl,rfl,qW,qW,qQ⟩,qQ⟩ trivial,?_⟩;have hcl':bM 10000 k (λi=>[.rs 6 (pn c i) (pg c i)]):=⟨λi hi=>⟨rfl,(hcl.1 i hi).2⟩,hcl.2⟩;have hol':cQ l (λi=>ag (ow o i)):=⟨λ_ _=>rfl,hol.2⟩;have hrg:((lo.le 4294967296/\hi.le 4294967296)/\bM 10000 k (λi=>[.rs 6 (pn c i) (pg c i)])/\cQ l (λi=>ag (ow o i))):=⟨⟨hlo.mono (by decide),hhi.mono (by decide)⟩,hcl',hol'⟩;have hrg3:((lo.le 10000/\hi.le 10000)/\bM 10000 k (λi=>[.rs 6 (pn c i) (pg c i)])/\cQ l (λi=>ag (ow o i))):=⟨⟨hlo,hhi⟩,hcl',hol'⟩;have p0:isPL 4294967296 0 (λ_=>[]):=⟨λi hi=>absurd hi (Nat.not_lt_zero i),Nat.zero_le _⟩;obtain⟨E,hE⟩:∃E,E=AX lo hi k c l o:=⟨_,rfl⟩;obtain⟨R,hR⟩:∃R,R=od lo hi k c l o:=⟨_,rfl⟩;have eR:R=bif E then cN lo hi k c l o else []:=by rw [hR,od,<-hE]
  show zd _ _ _ _ _ ⟨_,.tup [.rs 6 (od lo hi k c l o).length (λi=>(ab (od lo hi k c l o) i).cells),.val (.int .i64 (bW (AX lo hi k c l o)))],[]⟩;rw [<-hR,<-hE];have q1:((bT lo hi k (pn (λi=>[.rs 6 (pn c i) (pg c i)])) (λi=>ae (pg (λi=>[.rs 6 (pn c i) (pg c i)]) i)) l (ow (λi=>ag (ow o i)))==0)&&!aD (λi=>!ah (ae (λ_=>[]) i)) 0)=E:=by
   rw [hE];exact Bool.and_true _
  have z:∀B:Bool,(bW B != 0)=true->B=false:=λB h=>by cases B<;>first|rfl|cases h
  have z':∀B:Bool,(bW B != 0)=false->B=true:=λB h=>by cases B<;>first|rfl|cases h
  have b0:E=false->R.length=0:=λh=>by rw [eR,h];rfl
  have v0:PV.val (.int .i64 (bW ((bT lo hi k (pn (λi=>[.rs 6 (pn c i) (pg c i)])) (λi=>ae (pg (λi=>[.rs 6 (pn c i) (pg c i)]) i)) l (ow (λi=>ag (ow o i)))==0)&&!aD (λi=>!ah (ae (λ_=>[]) i)) 0)))=PV.val (.int .i64 (bW E)):=by rw [q1]
  have v1:E=true->PV.val (.int .i64 0)=PV.val (.int .i64 (bW E)):=λh=>by rw [h];rfl
  have n1:E=true->(cN lo hi k (λi=>[.rs 6 (pn c i) (pg c i)]) l (λi=>ag (ow o i))).length=R.length:=λh=>by rw [eR,h];rfl
  have n2:E=true->∀i,i < R.length->(ab R i).cells=(ab (cN lo hi k (λi=>[.rs 6 (pn c i) (pg c i)]) l (λi=>ag (ow o i))) i).cells:=λh=>by rw [eR,h];exactλ_ _=>rfl
  with_unfolding_all exact⟨⟨hrg,p0⟩,λh1=>⟨[],aa [(2,.rs 6 R.length (λi=>(ab R i).cells)),(3,.val (.int .i64 (bW E)))] [] 0 [],Wo trivial ⟨⟨rfl,b0 (q1.symm.trans (z _ h1))⟩,v0,qQ⟩ trivial,rfl,rfl⟩,λh1=>⟨⟨hrg3,hN⟩,⟨[],aa [(2,.rs 6 R.length (λi=>(ab R i).cells)),(3,.val (.int .i64 (bW E)))] [] 0 [],Wo trivial ⟨⟨rfl,n1 (q1.symm.trans (z' _ h1)),n2 (q1.symm.trans (z' _ h1))⟩,v1 (q1.symm.trans (z' _ h1)),qQ⟩ trivial,rfl,rfl⟩⟩⟩
 ·cases e
end Go.Proofs
namespace Go.Num
def vo (lo hi:PtS) (k:Nat) (c:Nat->List PV) (l:Nat) (o:Nat->List PV):Bool:=c7 lo hi k (pn c) (λi=>aZ (pn c i) (ae (pg c i))) l (ow o)==0
def Dw (lo hi:PtS) (k:Nat) (c:Nat->List PV) (l:Nat) (o:Nat->List PV):List PtS:=bif vo lo hi k c l o then bK (ap lo hi k (pn c) (λi=>ae (pg c i))) (pn c) (λi=>ae (pg c i)) k else []
end Go.Num
namespace Go.Proofs
def ID:List PV->Option Ans
 |[.rs 6 n g,.rs 6 m h]=>some ⟨some (isPL 10000 n g/\isPL 10000 m h),.val (.bool (decide (n=m)&&!aD (λi=>!bE (ae g i) (ae h i)) n)),[]⟩
 |_=>none
theorem In:am {} Tryz.f25 2=true:=by kernel_rfl
theorem f25:FnOk Tryz.prog 25 ID:=by
 refine FnOk.ofW aj (an (l:=[]) (own:=[]) (inl:=[]) (by simp) (by simp)) Tryz.func25 {} 2 In λargs r e=>?_;unfold ID at e;split at e
 ·rename_i n g m h
  cases e;refine⟨by simp,λhm=>?_⟩;obtain⟨⟨hp,hn⟩,hq,hmm⟩:=hm _ rfl;refine⟨[],aa [(0,.rs 6 n (λi=>(ae g i).cells)),(1,.rs 6 m (λi=>(ae h i).cells))] [] 0 [],Wo trivial ⟨⟨rfl,rfl,λi hi=>(hp i hi).1.symm⟩,⟨rfl,rfl,λi hi=>(hq i hi).1.symm⟩,qQ⟩ trivial,?_⟩;generalize ae g=p at *
  generalize ae h=q at *
  obtain⟨X,hX⟩:∃X,X=(decide (n=m)&&!aD (λi=>!bE (p i) (q i)) n):=⟨_,rfl⟩;rw [<-hX];have v0:(!((n:Int)==(m:Int)))=true->PV.val (.bool false)=PV.val (.bool X):=λh=>by
   have h1:¬n=m:=λe=>by rw [e,beq_self_eq_true] at h;cases h
   rw [hX,decide_eq_false h1];rfl
  have v1:(!((n:Int)==(m:Int)))=false->n=m:=λh=>by
   have h6:((n:Int)==(m:Int))=true:=by simpa using h
   have:=eq_of_beq h6;omega
  with_unfolding_all refine⟨λh1=>⟨[],aa [(4,.val (.bool X))] [] 0 [],Wo trivial ⟨v0 h1,qQ⟩ trivial,rfl,rfl⟩,λh1=>⟨Nat,λi=>i<=n/\∀j,j < i->bE (p j) (q j)=true,λi=>aa [(0,.rs 6 n (λi=>(p i).cells)),(1,.rs 6 m (λi=>(q i).cells)),(12,.val (goInt n)),(13,.val (goInt i))] [] 0 [],λi=>n - i,⟨0,[],⟨Nat.zero_le _,λj hj=>absurd hj (Nat.not_lt_zero j)⟩,Wo trivial ⟨qW,qW,rfl,rfl,qQ⟩ trivial⟩,λi hi=>?_⟩⟩
  have hnm:=v1 h1;obtain⟨hin,hI⟩:i<=n/\∀j,j < i->bE (p j) (q j)=true:=hi;with_unfolding_all refine⟨λh2=>?_,λh2=>⟨[],aa [(4,.val (.bool X))] [] 0 [],Wo trivial ⟨?_,qQ⟩ trivial,rfl,rfl⟩⟩
  ·have h2:(i:Int) < n:=bN h2;have e:(i:Int).toNat=i:=Int.toNat_natCast i;with_unfolding_all refine⟨⟨by omega,by omega⟩,⟨by omega,by omega⟩,λh3=>⟨[],aa [(4,.val (.bool X))] [] 0 [],Wo trivial ⟨?_,qQ⟩ trivial,rfl,rfl⟩,λh3=>⟨i+1,[],⟨by omega,?_⟩,by show n - (i+1) < n - i;omega,Wo trivial ⟨qW,qW,rfl,?_,qQ⟩ trivial⟩⟩
   ·have h3:(!bE (p (i:Int).toNat) (q (i:Int).toNat))=true:=h3;rw [e] at h3;show PV.val (.bool false)=PV.val (.bool X);rw [hX,bl.2 ⟨i,by omega,h3⟩,Bool.not_true,Bool.and_false]
   ·have h3:(!bE (p (i:Int).toNat) (q (i:Int).toNat))=false:=h3;rw [e] at h3;intro j hj;rcases Nat.lt_or_ge j i with h|h
    ·exact hI j h
    ·obtain rfl:j=i:=by omega
     simpa using h3
   ·show PV.val (.int .i64 (IntKind.i64.wrap ((i:Int)+1)))=PV.val (.int .i64 ((i+1:Nat):Int));rw [wrap64 (by omega) (by omega)];rfl
  ·have h2:(n:Int)<=i:=dC h2;show PV.val (.bool true)=PV.val (.bool X);rw [hX,decide_eq_true hnm,ay.2 λj hj=>by rw [hI j (by omega)];rfl];rfl
 ·cases e
def IE:List PV->Option Ans
 |[.agg xs]=>some ⟨some (isRg 10000 xs),.tup [.rs 6 (Dw (bO xs) (bP xs) (gK xs) (gC xs) (gL xs) (gO xs)).length (λi=>(ab (Dw (bO xs) (bP xs) (gK xs) (gC xs) (gL xs) (gO xs)) i).cells),.val (.int .i64 (bW (vo (bO xs) (bP xs) (gK xs) (gC xs) (gL xs) (gO xs))))],[]⟩
 |_=>none
def D24:Opt:={  }
theorem Io:am D24.toOrd Tryz.f24 1=true:=by kernel_rfl
theorem f24:FnOk Tryz.prog 24 IE:=by
 refine FnOk.ofW aj (an (l:=[(58,Dt),(61,GE)]) (own:=[]) (inl:=[]) (by simp [f58,f61]) (by simp)) Tryz.func24 D24 1 Io λargs r e=>?_;unfold IE at e;split at e
 ·rename_i xs
  cases e;refine⟨by simp,λhm=>?_⟩;obtain⟨h1,⟨hlo,hhi⟩,hcl,hol⟩:=hm _ rfl;generalize bO xs=lo at *
  generalize bP xs=hi at *
  generalize gK xs=k at *
  generalize gC xs=c at *
  generalize gL xs=l at *
  generalize gO xs=o at *
  subst h1;clear hm;have hcl':bM 10000 k (λi=>[.rs 6 (pn c i) (pg c i)]):=⟨λi hi=>⟨rfl,(hcl.1 i hi).2⟩,hcl.2⟩;have hX:isRg 10000 (bq lo hi k c l o):=⟨rfl,⟨hlo,hhi⟩,hcl',λ_ _=>rfl,hol.2⟩;refine⟨[],aa [(0,.agg (bq lo hi k c l o))] [] 0 [],Wo trivial ⟨⟨rfl,rfl,rfl,rfl,rfl,rfl,rfl,rfl,rfl,rfl,rfl,rfl,qW,qW,qQ⟩,qQ⟩ trivial,?_⟩;show zd _ _ _ _ _ ⟨_,.tup [.rs 6 (Dw lo hi k c l o).length (λi=>(ab (Dw lo hi k c l o) i).cells),.val (.int .i64 (bW (vo lo hi k c l o)))],[]⟩;obtain⟨K,hK⟩:∃K,K=(vo lo hi k c l o):=⟨_,rfl⟩;obtain⟨R,hR⟩:∃R,R=(Dw lo hi k c l o):=⟨_,rfl⟩;have eK:K=((c7 lo hi k (pn c) (λi=>aZ (pn c i) (ae (pg c i))) l (ow o))==0):=hK;have eR:R=bif K then(bK (ap lo hi k (pn c) (λi=>ae (pg c i))) (pn c) (λi=>ae (pg c i)) k) else []:=by rw [hR,Dw,<-hK]
  rw [<-hK,<-hR];have kc:((c7 lo hi k (pn c) (λi=>aZ (pn c i) (ae (pg c i))) l (ow o)) != 0)=true->K=false:=λh=>by
   have h:((c7 lo hi k (pn c) (λi=>aZ (pn c i) (ae (pg c i))) l (ow o))==0)=false:=by simpa using h
   rw [eK,h]
  have kg:((c7 lo hi k (pn c) (λi=>aZ (pn c i) (ae (pg c i))) l (ow o)) != 0)=false->K=true:=λh=>by
   have h:((c7 lo hi k (pn c) (λi=>aZ (pn c i) (ae (pg c i))) l (ow o))==0)=true:=by simpa using h
   rw [eK,h]
  have fine:((c7 lo hi k (pn c) (λi=>aZ (pn c i) (ae (pg c i))) l (ow o)) != 0)=false->k<=32/\∀i,i < k->pn c i<=64:=λh=>by
   have h:(c7 lo hi k (pn c) (λi=>aZ (pn c i) (ae (pg c i))) l (ow o))=0:=by simpa using h
   have hf:=jq h;exact⟨hf.2.1,hf.2.2⟩
  have b0:K=false->R.length=0/\PV.val (.int .i64 1)=PV.val (.int .i64 (bW K)):=λh=>by
   rw [eR,h];exact⟨rfl,rfl⟩
  have b1:K=true->(bK (ap lo hi k (pn c) (λi=>ae (pg c i))) (pn c) (λi=>ae (pg c i)) k).length=R.length/\(∀i,i < R.length->(ab R i).cells=(ab (bK (ap lo hi k (pn c) (λi=>ae (pg c i))) (pn c) (λi=>ae (pg c i)) k) i).cells)/\PV.val (.int .i64 0)=PV.val (.int .i64 (bW K)):=λh=>by
   rw [eR,h];exact⟨rfl,λ_ _=>rfl,rfl⟩
  with_unfolding_all exact⟨hX,λh1=>⟨[],aa [(2,.rs 6 R.length (λi=>(ab R i).cells)),(3,.val (.int .i64 (bW K)))] [] 0 [],Wo trivial ⟨⟨by simp,_,rfl,rfl,rfl,(b0 (kc h1)).1.symm,λi hi=>absurd ((b0 (kc h1)).1▸hi) (Nat.not_lt_zero i)⟩,(b0 (kc h1)).2,qQ⟩ trivial,rfl,rfl⟩,λh1=>⟨⟨hX,fine h1⟩,⟨[],aa [(2,.rs 6 R.length (λi=>(ab R i).cells)),(3,.val (.int .i64 (bW K)))] [] 0 [],Wo trivial ⟨⟨rfl,(b1 (kg h1)).1,(b1 (kg h1)).2.1⟩,(b1 (kg h1)).2.2,qQ⟩ trivial,rfl,rfl⟩⟩⟩
 ·cases e
end Go.Proofs
namespace Go.Ex
open Go.RowKit Go.Sort
end Go.Ex
namespace Go.Num
end Go.Num
namespace Go.Proofs
end Go.Proofs
namespace Go.Num
end Go.Num
namespace Go.Proofs
end Go.Proofs
namespace Go.Num
def IP:List PV->Int
 |[.val (.int .i64 x)]=>x
 |_=>0
def zz (g:Nat->List PV) (i:Nat):Int:=IP (g i)
end Go.Num
namespace Go.Proofs
end Go.Proofs
namespace Go.Num
end Go.Num
namespace Go.Proofs
end Go.Proofs
namespace Go.Num
end Go.Num
namespace Go.Proofs
end Go.Proofs
namespace Go.Num
end Go.Num
namespace Go.Proofs
end Go.Proofs
namespace Go.Num
def Gk (lo hi:PtS) (k:Nat) (c:Nat->List PV) (l:Nat) (o:Nat->List PV):Int:=c7 lo hi k (pn c) (λi=>aZ (pn c i) (ae (pg c i))) l (ow o)
end Go.Num
namespace Go.Proofs
end Go.Proofs
namespace Go.Num
def kZ (p:Nat->PtS) (i j:Nat):Prop:=(p i).X=(p j).X/\(p i).Y=(p j).Y
theorem oe (a b:Rat):ao a b = -ao b a:=by
 unfold ao;by_cases h:a < b
 ·have h2:¬b < a:=by grind
  rw [if_pos h,if_neg h2,if_pos h]
 ·rw [if_neg h];by_cases h2:b < a
  ·rw [if_pos h2,if_pos h2];rfl
  ·rw [if_neg h2,if_neg h2,if_neg h];rfl
theorem wT (p u:PtS):bg p u = -bg u p:=by
 unfold bg;rw [oe p.X u.X,oe p.Y u.Y];by_cases h:ao u.X p.X=0
 ·rw [if_pos (by omega),if_pos h]
 ·rw [if_neg (by omega),if_neg h]
theorem AY {x y a b:Rat} (h:0 < wY x x a y y b):False:=by
 unfold wY at h
 grind
theorem yZ {x y a b c d:Rat} (h:0 < wY x a b y c d) (k:0 < wY x b a y d c):False:=by
 unfold wY at h k
 grind
theorem AZ {a b c x y z:Rat} (h:0 < wY a b c x y z):0 < wY c a b z x y:=by
 unfold wY at h ⊢
 grind
theorem y4 {n:Nat} {p:Nat->PtS} (h:bh n p=0):aZ n p=0:=by
 unfold bh at h;unfold aZ;cases h1:(decide (n < 3)||decide (64 < n)) with
 |true=>rw [h1] at h;cases h
 |false =>
  rw [h1,cond_false] at h;rw [cond_false];cases h2:aD (λi=>!ah (p i)) n with
  |true=>rw [h2] at h;cases h
  |false =>
   rw [h2,cond_false] at h;rw [cond_false];cases h3:aD (λi=>mZ (p 0) (p (1+i))) (n - 1) with
   |true=>rw [h3] at h;cases h
   |false =>
    rw [h3,cond_false] at h;cases h4:aD (λe=>aD (λi=>dw (p e) (p ((e+1)%n)) (p i)) n) n with
    |true=>rw [h4] at h;cases h
    |false =>
     have hn:3<=n:=by
      rw [Bool.or_eq_false_iff,decide_eq_false_iff_not] at h1;omega
     have c0:∀i,0 < i->i < n->bg (p 0) (p i) < 0:=λi a b=>by
      have:=(ay.1 h3) (i - 1) (by omega);unfold mZ at this;rw [decide_eq_false_iff_not,show 1+(i - 1)=i by omega] at this;rw [wT];omega
     have k0:∀i,0 < i->i < n->¬kZ p i 0:=λi a b e=>by
      rcases u7 (c0 i a b) with h|⟨_,h⟩
      ·rw [e.1] at h;exact absurd h Rat.lt_irrefl
      ·rw [e.2] at h;exact absurd h Rat.lt_irrefl
     have B:∀e i,e < n->i < n->kZ p i e\/kZ p i ((e+1)%n)\/0 < dt (λi=>(p i).X) (λi=>(p i).Y) e ((e+1)%n) i:=λe i he hi=>by
      have:=(ay.1 ((ay.1 h4) e he)) i hi;unfold dw at this;rw [kA p e ((e+1)%n) i] at this;cases e1:bE (p i) (p e) with
      |true=>exact .inl (se e1)
      |false =>
       cases e2:bE (p i) (p ((e+1)%n)) with
       |true=>exact .inr (.inl (se e2))
       |false =>
        rw [e1,e2] at this;exact .inr (.inr (fJ.1 (by simpa using this)))
     have nd:∀e,e < n->¬kZ p e ((e+1)%n):=λe he s=>by
      have al:∀v,v < n->kZ p v e:=λv hv=>by
       rcases B e v he hv with h|h|h
       ·exact h
       ·exact⟨h.1.trans s.1.symm,h.2.trans s.2.symm⟩
       ·exfalso;obtain⟨s1,s2⟩:=s;unfold dt at h;simp only [<-s1,<-s2] at h;exact AY h
      have a0:=al 0 (by omega);have a1:=al 1 (by omega);exact k0 1 (by omega) (by omega) ⟨a1.1.trans a0.1.symm,a1.2.trans a0.2.symm⟩
     have ds:∀d i j,n - j=d->i < j->j < n->¬kZ p i j:=λd=>by
      induction d with
      |zero=>intro i j h1 _ h2;omega
      |succ d ih =>
       intro i j hd hij hj s;have hi1:(i+1)%n=i+1:=Nat.mod_eq_of_lt (by omega);have ni:=nd i (by omega);have nj:=nd j hj;rw [hi1] at ni;have hj':(j+1)%n < n:=Nat.mod_lt _ (by omega);have key:kZ p (i+1) ((j+1)%n):=by
        have b1:=B i ((j+1)%n) (by omega) hj';have b2:=B j (i+1) hj (by omega);rw [hi1] at b1;obtain⟨s1,s2⟩:=s;rcases b1 with b1|b1|b1
        ·exact absurd ⟨s1.symm.trans b1.1.symm,s2.symm.trans b1.2.symm⟩ nj
        ·exact⟨b1.1.symm,b1.2.symm⟩
        ·rcases b2 with b2|b2|b2
         ·exact absurd ⟨s1.trans b2.1.symm,s2.trans b2.2.symm⟩ ni
         ·exact b2
         ·exfalso;unfold dt at b1 b2;simp only [<-s1,<-s2] at b2;exact yZ b1 b2
       by_cases hjn:j+1=n
       ·rw [hjn,Nat.mod_self] at key;exact k0 (i+1) (by omega) (by omega) key
       ·rw [Nat.mod_eq_of_lt (by omega)] at key;exact ih (i+1) (j+1) (by omega) (by omega) (by omega) key
     have dd:∀i j,i≠j->i < n->j < n->¬kZ p i j:=λi j hne hi hj s=>by
      rcases Nat.lt_or_gt_of_ne hne with h|h
      ·exact ds _ i j rfl h hj s
      ·exact ds _ j i rfl h hi ⟨s.1.symm,s.2.symm⟩
     have pos:∀e i,e < n->i < n->i≠e->i≠(e+1)%n->0 < dt (λi=>(p i).X) (λi=>(p i).Y) e ((e+1)%n) i:=λe i he hi h1 h2=>by
      rcases B e i he hi with h|h|h
      ·exact absurd h (dd _ _ h1 hi he)
      ·exact absurd h (dd _ _ h2 hi (Nat.mod_lt _ (by omega)))
      ·exact h
     have m2:∀i,i < n->(i+2)%n≠i/\(i+2)%n≠(i+1)%n:=λi hi=>by
      rcases Nat.lt_or_ge (i+2) n with h|h
      ·rw [Nat.mod_eq_of_lt h,Nat.mod_eq_of_lt (by omega)];omega
      ·rw [Nat.mod_eq_sub_mod h,Nat.mod_eq_of_lt (by omega)];rcases Nat.lt_or_ge (i+1) n with h' | h'
       ·rw [Nat.mod_eq_of_lt h'];omega
       ·rw [Nat.mod_eq_sub_mod h',Nat.mod_eq_of_lt (by omega)];omega
     rw [ay.2 λi hi=>?_,cond_false,ay.2 λi hi=>?_]
     ·rfl
     ·unfold dy;have q1:=pos i ((i+2)%n) hi (Nat.mod_lt _ (by omega)) (m2 i hi).1 (m2 i hi).2;rw [kA,fJ.2 q1,Bool.false_or];cases e1:decide (0 < i) with
      |false=>rfl
      |true =>
       cases e2:decide (i+1 < n) with
       |false=>rfl
       |true =>
        have e1:=of_decide_eq_true e1;have e2:=of_decide_eq_true e2;have q2:=pos i 0 hi (by omega) (by omega) (by rw [Nat.mod_eq_of_lt e2];omega);rw [Nat.mod_eq_of_lt e2] at q2;have q3:0 < dt (λi=>(p i).X) (λi=>(p i).Y) 0 i (i+1):=by
         exact AZ q2
        rw [kA,fJ.2 q3];rfl
     ·unfold wX;have:=c0 (1+i) (by omega) (by omega);exact decide_eq_false (by omega)
theorem vp (lo hi:PtS) (k:Nat) (c:Nat->List PV) (l:Nat) (o:Nat->List PV):(Gk lo hi k c l o==0)=(bT lo hi k (pn c) (λi=>ae (pg c i)) l (ow o)==0):=by
 rw [Bool.eq_iff_iff,beq_iff_eq,beq_iff_eq];constructor
 ·intro h;rw [tQ];exact iG (λj _=>jo) h
 ·intro h;rw [tQ] at h;exact iG (λj _=>y4) h
theorem og {L:List PtS} {x:PtS}:∀{f i:Nat},i+f=L.length->i<=j6 L x f i/\j6 L x f i<=L.length/\(∀t,i<=t->t < j6 L x f i->bg (ab L t) x < 0)/\(j6 L x f i=L.length\/¬bg (ab L (j6 L x f i)) x < 0)
 |0,i,h=>⟨Nat.le_refl _,by rw [j6];omega,λt a b=>by rw [j6] at b;omega,.inl (by rw [j6];omega)⟩
 |f+1,i,h=>by
  rw [j6];by_cases hc:bg (ab L i) x < 0
  ·rw [decide_eq_true hc,cond_true];obtain⟨h1,h2,h3,h4⟩:=og (L:=L) (x:=x) (f:=f) (i:=i+1) (by omega);refine⟨by omega,h2,λt a b=>?_,h4⟩;by_cases e:t=i
   ·rw [e];exact hc
   ·exact h3 t (by omega) b
  ·rw [decide_eq_false hc,cond_false];exact⟨Nat.le_refl _,by omega,λt a b=>by omega,.inr hc⟩
theorem y5 (L:List PtS) (x:PtS):iT L x<=L.length/\(∀t,t < iT L x->bg (ab L t) x < 0)/\(iT L x=L.length\/¬bg (ab L (iT L x)) x < 0):=by
 obtain⟨_,h2,h3,h4⟩:=og (L:=L) (x:=x) (f:=L.length) (i:=0) (Nat.zero_add _);exact⟨h2,λt h=>h3 t (Nat.zero_le _) h,h4⟩
theorem y6 {L:List PtS} {x y:PtS}:y∈ii L x↔y∈L\/y=x:=by
 unfold ii;cases hb:decide (iT L x < L.length)&&bE (ab L (iT L x)) x with
 |true =>
  rw [cond_true];rw [Bool.and_eq_true] at hb;constructor
  ·exact .inl
  ·rintro (h|h)
   ·exact h
   ·rw [h,<-t8 hb.2];exact kC (of_decide_eq_true hb.1)
 |false =>
  rw [cond_false,List.mem_append,List.mem_cons];have h:y∈L↔y∈L.take (iT L x)\/y∈L.drop (iT L x):=by
   rw [<-List.mem_append,List.take_append_drop]
  rw [h];constructor
  ·rintro (h|h|h)
   ·exact .inl (.inl h)
   ·exact .inr h
   ·exact .inl (.inr h)
  ·rintro ((h|h)|h)
   ·exact .inl h
   ·exact .inr (.inr h)
   ·exact .inr (.inl h)
theorem sp {L:List PtS} {x:PtS} (h:L.Pairwise λx y=>bg x y < 0) (hL:∀y∈L,ah y=true) (hx:ah x=true):(ii L x).Pairwise λx y=>bg x y < 0:=by
 unfold ii;obtain⟨h1,h2,h3⟩:=y5 L x;cases hb:decide (iT L x < L.length)&&bE (ab L (iT L x)) x with
 |true=>exact h
 |false =>
  rw [cond_false];have hp:=h;rw [<-List.take_append_drop (iT L x) L,List.pairwise_append] at hp;obtain⟨p1,p2,p3⟩:=hp;have hlt:∀y∈L.take (iT L x),bg y x < 0:=λy hy=>by
   obtain⟨i,hi,e⟩:=List.mem_iff_getElem.1 hy;rw [List.length_take] at hi;rw [List.getElem_take] at e;have:=h2 i (by omega);rw [ab,List.getElem?_eq_getElem (by omega)] at this;rw [<-e];exact this
  have pA:∀y∈L.drop (iT L x),bg x y < 0:=λy hy=>by
   obtain⟨i,hi,e⟩:=List.mem_iff_getElem.1 hy;rw [List.length_drop] at hi;rw [List.getElem_drop] at e;have hm:iT L x < L.length:=by omega
   rw [decide_eq_true hm,Bool.true_and] at hb;have h3:¬bg (ab L (iT L x)) x < 0:=by
    rcases h3 with h3|h3
    ·omega
    ·exact h3
   have h4:bg x (ab L (iT L x)) < 0:=by
    refine Classical.not_not.1 λhn=>?_;have hq:=sg h3 hn;rw [sf (hL _ (kC hm)) hx hq.1 hq.2,ib] at hb;cases hb
   match i with
   |0 =>
    rw [<-e];rw [ab,List.getElem?_eq_getElem hm] at h4;exact h4
   |i+1 =>
    have h5:=List.pairwise_iff_getElem.1 h (iT L x) (iT L x+(i+1)) hm (by omega) (by omega);rw [<-e];exact mQ h3 (by
     rw [ab,List.getElem?_eq_getElem hm];exact h5)
  exact List.pairwise_append.2 ⟨p1,List.pairwise_cons.2 ⟨pA,p2⟩,λa ha b hb2=>by
   rcases List.mem_cons.1 hb2 with e|e
   ·rw [e];exact hlt a ha
   ·exact p3 a ha b e⟩
theorem pT {S:PtS->Bool} {p:Nat->PtS} {L:List PtS} {y:PtS}:∀{j:Nat},y∈ce S p L j↔y∈L\/∃t,t < j/\y=p t/\S (p t)=true
 |0=>⟨.inl,λh=>by rcases h with h|⟨t,ht,_⟩;exact h;exact absurd ht (Nat.not_lt_zero t)⟩
 |j+1=>by
  have ih:=pT (S:=S) (p:=p) (L:=L) (y:=y) (j:=j);rw [ce];cases hS:S (p j) with
  |true =>
   rw [cond_true,y6,ih];constructor
   ·rintro ((h|⟨t,ht,e⟩)|h)
    ·exact .inl h
    ·exact .inr ⟨t,by omega,e⟩
    ·exact .inr ⟨j,by omega,h,hS⟩
   ·rintro (h|⟨t,ht,e,k⟩)
    ·exact .inl (.inl h)
    ·by_cases q:t=j
     ·subst q;exact .inr e
     ·exact .inl (.inr ⟨t,by omega,e,k⟩)
  |false =>
   rw [cond_false,ih];constructor
   ·rintro (h|⟨t,ht,e⟩)
    ·exact .inl h
    ·exact .inr ⟨t,by omega,e⟩
   ·rintro (h|⟨t,ht,e,k⟩)
    ·exact .inl h
    ·by_cases q:t=j
     ·subst q;rw [hS] at k;cases k
     ·exact .inr ⟨t,by omega,e,k⟩
theorem mR {S:PtS->Bool} {p:Nat->PtS} {L:List PtS} (h:L.Pairwise λx y=>bg x y < 0) (hL:∀y∈L,ah y=true):∀{j:Nat},(∀t,t < j->ah (p t)=true)->(ce S p L j).Pairwise λx y=>bg x y < 0
 |0,_=>h
 |j+1,hp=>by
  have ih:=mR (S:=S) h hL (j:=j) λt ht=>hp t (by omega);rw [ce];cases hS:S (p j) with
  |true =>
   refine sp ih (λy hy=>?_) (hp j (by omega));rcases pT.1 hy with k|⟨t,ht,e,_⟩
   ·exact hL y k
   ·rw [e];exact hp t (by omega)
  |false=>exact ih
theorem pU {S:PtS->Bool} {n:Nat->Nat} {p:Nat->Nat->PtS} {y:PtS}:∀{i:Nat},y∈bK S n p i↔∃s,s < i/\∃t,t < n s/\y=p s t/\S (p s t)=true
 |0=>⟨λh=>(nomatch h),λ⟨s,hs,_⟩=>absurd hs (Nat.not_lt_zero s)⟩
 |i+1=>by
  rw [bK,pT,pU (i:=i)];constructor
  ·rintro (⟨s,hs,e⟩|e)
   ·exact⟨s,by omega,e⟩
   ·exact⟨i,by omega,e⟩
  ·rintro ⟨s,hs,e⟩;by_cases q:s=i
   ·subst q;exact .inr e
   ·exact .inl ⟨s,by omega,e⟩
theorem mS {S:PtS->Bool} {n:Nat->Nat} {p:Nat->Nat->PtS}:∀{i:Nat},(∀s,s < i->∀t,t < n s->ah (p s t)=true)->(bK S n p i).Pairwise λx y=>bg x y < 0
 |0,_=>List.Pairwise.nil
 |i+1,h=>mR (mS λs hs=>h s (by omega)) (λy hy=>by
   obtain⟨s,hs,t,ht,e,_⟩:=pU.1 hy;rw [e];exact h s (by omega) t ht) λt ht=>h i (by omega) t ht
theorem y7 {lo hi:PtS} {k:Nat} {c:Nat->List PV} {l:Nat} {o:Nat->List PV} (hr:bT lo hi k (pn c) (λi=>ae (pg c i)) l (ow o)=0) (hc:bM 10000 k c):bK (ap lo hi k (pn c) (λi=>ae (pg c i))) (pn c) (λi=>ae (pg c i)) k=cN lo hi k c l o:=by
 have cp:∀s,s < k->∀t,t < pn c s->ah (ae (pg c s) t)=true:=λs hs t ht=>(mP (iH hr s hs)).2.1 t ht;refine sn (mS cp) (pJ hr hc) λx=>?_;rw [pU,wP];constructor
 ·rintro ⟨s,hs,t,ht,e,hS⟩;rw [iK hr (cp s hs t ht)] at hS;refine⟨?_,by rw [e];exact hS⟩;rw [e];exact iJ (S:=λ_=>true) (p:=λi=>ae (pg c i)) ht rfl hs
 ·rintro ⟨h,hS⟩;obtain⟨s,hs,t,ht,e,_⟩:=fc h;refine⟨s,hs,t,ht,e,?_⟩;rw [iK hr (cp s hs t ht)];rw [<-e];exact hS
theorem Bn (lo hi:PtS) (k:Nat) (c:Nat->List PV) (l:Nat) (o:Nat->List PV) (a b:PtS):fO lo hi k c l o (ar a b)=vk lo hi k c l o a b:=by
 show(!(!ah a||!ah b)&&(bT lo hi k (pn c) (λi=>ae (pg c i)) l (ow o)==0))=((Gk lo hi k c l o==0)&&(ah a&&ah b));rw [vp];cases ah a<;>cases ah b<;>cases (bT lo hi k (pn c) (λi=>ae (pg c i)) l (ow o)==0)<;>rfl
theorem wU {xs:List PV} {n:Nat} {r:Nat->List PV} (h:gF xs n r=false):(au (bO xs) (bP xs) (gK xs) (gC xs) (gL xs) (gO xs)).length<=500:=by
 by_cases hr:bT (bO xs) (bP xs) (gK xs) (pn (gC xs)) (λi=>ae (pg (gC xs) i)) (gL xs) (ow (gO xs))=0
 ·have hk:=yM hr;unfold gF mJ at h;simp only [Bool.or_eq_false_iff,Bool.and_eq_false_iff,decide_eq_false_iff_not] at h;have h2:=n7 (λp=>bc (bO xs) (bP xs) (gK xs) (gC xs) (gL xs) (gO xs) p p) (pn (gC xs)) (λi=>ae (pg (gC xs) i)) (gK xs);refine Nat.le_trans h2 ?_;omega
 ·have h2:∀x,x∉au (bO xs) (bP xs) (gK xs) (gC xs) (gL xs) (gO xs):=λx hx=>by
   obtain⟨s,hs,t,ht,e,hS⟩:=fc hx;have h3:bc (bO xs) (bP xs) (gK xs) (gC xs) (gL xs) (gO xs) x x=true:=hS;unfold bc fO at h3;rw [Bool.and_eq_true,Bool.and_eq_true] at h3;exact hr (eq_of_beq h3.1.2)
  rw [List.eq_nil_iff_forall_not_mem.2 h2];exact Nat.zero_le _
end Go.Num
namespace Go.Proofs
def c5:List PV->Option Ans
 |[.agg [.val (.bool s1),.val (.string b1),.val (.string c1),.val (.bool s2),.val (.string b2),.val (.string c2),.val (.bool s3),.val (.string b3),.val (.string c3),.val (.bool s4),.val (.string b4),.val (.string c4),.rs 1 k c,.rs 3 l o],.val v,.val u]=>some ⟨some ((PtS.le 140737488355328 (PtS.mk ⟨s1,b1,c1⟩ ⟨s2,b2,c2⟩)/\PtS.le 140737488355328 (PtS.mk ⟨s3,b3,c3⟩ ⟨s4,b4,c4⟩))/\bM 140737488355328 k c/\cQ l o/\isPk 140737488355328 v/\isPk 140737488355328 u),.val (.bool true),[]⟩
 |_=>none
def Ip:List PV->Option Ans
 |[.rs 6 n g,.rs 6 m h]=>some ⟨some (isPL 10000 n g/\isPL 10000 m h),.val (.bool (decide (n=m)&&!aD (λi=>!bE (ae g i) (ae h i)) n)),[]⟩
 |_=>none
theorem Iq:am {} Tryz.f63 2=true:=by kernel_rfl
theorem f63:FnOk Tryz.prog 63 Ip:=by
 refine FnOk.ofW aj (an (l:=[]) (own:=[]) (inl:=[]) (by simp) (by simp)) Tryz.func63 {} 2 Iq λargs r e=>?_;unfold Ip at e;split at e
 ·rename_i n g m h
  cases e;refine⟨by simp,λhm=>?_⟩;obtain⟨⟨hp,hn⟩,hq,hmm⟩:=hm _ rfl;refine⟨[],aa [(0,.rs 6 n (λi=>(ae g i).cells)),(1,.rs 6 m (λi=>(ae h i).cells))] [] 0 [],Wo trivial ⟨⟨rfl,rfl,λi hi=>(hp i hi).1.symm⟩,⟨rfl,rfl,λi hi=>(hq i hi).1.symm⟩,qQ⟩ trivial,?_⟩;generalize ae g=p at *
  generalize ae h=q at *
  obtain⟨X,hX⟩:∃X,X=(decide (n=m)&&!aD (λi=>!bE (p i) (q i)) n):=⟨_,rfl⟩;rw [<-hX];have v0:(!((n:Int)==(m:Int)))=true->PV.val (.bool false)=PV.val (.bool X):=λh=>by
   have h1:¬n=m:=λe=>by rw [e,beq_self_eq_true] at h;cases h
   rw [hX,decide_eq_false h1];rfl
  have v1:(!((n:Int)==(m:Int)))=false->n=m:=λh=>by
   have h6:((n:Int)==(m:Int))=true:=by simpa using h
   have:=eq_of_beq h6;omega
  with_unfolding_all refine⟨λh1=>⟨[],aa [(4,.val (.bool X))] [] 0 [],Wo trivial ⟨v0 h1,qQ⟩ trivial,rfl,rfl⟩,λh1=>⟨Nat,λi=>i<=n/\∀j,j < i->bE (p j) (q j)=true,λi=>aa [(0,.rs 6 n (λi=>(p i).cells)),(1,.rs 6 m (λi=>(q i).cells)),(5,.val (goInt i))] [] 0 [],λi=>n - i,⟨0,[],⟨Nat.zero_le _,λj hj=>absurd hj (Nat.not_lt_zero j)⟩,Wo trivial ⟨qW,qW,rfl,qQ⟩ trivial⟩,λi hi=>?_⟩⟩
  have hnm:=v1 h1;obtain⟨hin,hI⟩:i<=n/\∀j,j < i->bE (p j) (q j)=true:=hi;with_unfolding_all refine⟨λh2=>?_,λh2=>⟨[],aa [(4,.val (.bool X))] [] 0 [],Wo trivial ⟨?_,qQ⟩ trivial,rfl,rfl⟩⟩
  ·have h2:(i:Int) < n:=bN h2;have e:(i:Int).toNat=i:=Int.toNat_natCast i;with_unfolding_all refine⟨⟨by omega,by omega⟩,⟨by omega,by omega⟩,λh3=>⟨[],aa [(4,.val (.bool X))] [] 0 [],Wo trivial ⟨?_,qQ⟩ trivial,rfl,rfl⟩,λh3=>⟨i+1,[],⟨by omega,?_⟩,by show n - (i+1) < n - i;omega,Wo trivial ⟨qW,qW,?_,qQ⟩ trivial⟩⟩
   ·have h3:(!bE (p (i:Int).toNat) (q (i:Int).toNat))=true:=h3;rw [e] at h3;show PV.val (.bool false)=PV.val (.bool X);rw [hX,bl.2 ⟨i,by omega,h3⟩,Bool.not_true,Bool.and_false]
   ·have h3:(!bE (p (i:Int).toNat) (q (i:Int).toNat))=false:=h3;rw [e] at h3;intro j hj;rcases Nat.lt_or_ge j i with h|h
    ·exact hI j h
    ·obtain rfl:j=i:=by omega
     simpa using h3
   ·show PV.val (.int .i64 (IntKind.i64.wrap ((i:Int)+1)))=PV.val (.int .i64 ((i+1:Nat):Int));rw [wrap64 (by omega) (by omega)];rfl
  ·have h2:(n:Int)<=i:=dC h2;show PV.val (.bool true)=PV.val (.bool X);rw [hX,decide_eq_true hnm,ay.2 λj hj=>by rw [hI j (by omega)];rfl];rfl
 ·cases e
def Ir:List PV->Option Ans
 |[.rs 2 n g,.rs 2 m h]=>some ⟨some (iO n g/\iO m h),.val (.bool (decide (n=m)&&!aD (λi=>!eqQ (gB g i) (gB h i)) n)),[]⟩
 |_=>none
theorem Is:am {} Tryz.f64 2=true:=by kernel_rfl
theorem f64:FnOk Tryz.prog 64 Ir:=by
 refine FnOk.ofW aj (an (l:=[]) (own:=[]) (inl:=[]) (by simp) (by simp)) Tryz.func64 {} 2 Is λargs r e=>?_;unfold Ir at e;split at e
 ·rename_i n g m h
  cases e;refine⟨by simp,λhm=>?_⟩;obtain⟨⟨hp,hn⟩,hq,hmm⟩:=hm _ rfl;refine⟨[],aa [(0,.rs 2 n (λi=>aF (gB g i))),(1,.rs 2 m (λi=>aF (gB h i)))] [] 0 [],Wo trivial ⟨⟨rfl,rfl,λi hi=>(hp i hi).symm⟩,⟨rfl,rfl,λi hi=>(hq i hi).symm⟩,qQ⟩ trivial,?_⟩;generalize gB g=p at *
  generalize gB h=q at *
  obtain⟨X,hX⟩:∃X,X=(decide (n=m)&&!aD (λi=>!eqQ (p i) (q i)) n):=⟨_,rfl⟩;rw [<-hX];have v0:(!((n:Int)==(m:Int)))=true->PV.val (.bool false)=PV.val (.bool X):=λh=>by
   have h1:¬n=m:=λe=>by rw [e,beq_self_eq_true] at h;cases h
   rw [hX,decide_eq_false h1];rfl
  have v1:(!((n:Int)==(m:Int)))=false->n=m:=λh=>by
   have h6:((n:Int)==(m:Int))=true:=by simpa using h
   have:=eq_of_beq h6;omega
  with_unfolding_all refine⟨λh1=>⟨[],aa [(4,.val (.bool X))] [] 0 [],Wo trivial ⟨v0 h1,qQ⟩ trivial,rfl,rfl⟩,λh1=>⟨Nat,λi=>i<=n/\∀j,j < i->eqQ (p j) (q j)=true,λi=>aa [(0,.rs 2 n (λi=>aF (p i))),(1,.rs 2 m (λi=>aF (q i))),(5,.val (goInt i))] [] 0 [],λi=>n - i,⟨0,[],⟨Nat.zero_le _,λj hj=>absurd hj (Nat.not_lt_zero j)⟩,Wo trivial ⟨qW,qW,rfl,qQ⟩ trivial⟩,λi hi=>?_⟩⟩
  have hnm:=v1 h1;obtain⟨hin,hI⟩:i<=n/\∀j,j < i->eqQ (p j) (q j)=true:=hi;with_unfolding_all refine⟨λh2=>?_,λh2=>⟨[],aa [(4,.val (.bool X))] [] 0 [],Wo trivial ⟨?_,qQ⟩ trivial,rfl,rfl⟩⟩
  ·have h2:(i:Int) < n:=bN h2;have e:(i:Int).toNat=i:=Int.toNat_natCast i;with_unfolding_all refine⟨⟨by omega,by omega⟩,⟨by omega,by omega⟩,λh3=>⟨[],aa [(4,.val (.bool X))] [] 0 [],Wo trivial ⟨?_,qQ⟩ trivial,rfl,rfl⟩,λh3=>⟨i+1,[],⟨by omega,?_⟩,by show n - (i+1) < n - i;omega,Wo trivial ⟨qW,qW,?_,qQ⟩ trivial⟩⟩
   ·have h3:(!eqQ (p (i:Int).toNat) (q (i:Int).toNat))=true:=h3;rw [e] at h3;show PV.val (.bool false)=PV.val (.bool X);rw [hX,bl.2 ⟨i,by omega,h3⟩,Bool.not_true,Bool.and_false]
   ·have h3:(!eqQ (p (i:Int).toNat) (q (i:Int).toNat))=false:=h3;rw [e] at h3;intro j hj;rcases Nat.lt_or_ge j i with h|h
    ·exact hI j h
    ·obtain rfl:j=i:=by omega
     simpa using h3
   ·show PV.val (.int .i64 (IntKind.i64.wrap ((i:Int)+1)))=PV.val (.int .i64 ((i+1:Nat):Int));rw [wrap64 (by omega) (by omega)];rfl
  ·have h2:(n:Int)<=i:=dC h2;show PV.val (.bool true)=PV.val (.bool X);rw [hX,decide_eq_true hnm,ay.2 λj hj=>by rw [hI j (by omega)];rfl];rfl
 ·cases e
def It:List PV->Option Ans
 |[.agg [.rs 6 n g,.rs 2 m h],.agg [.rs 6 n2 g2,.rs 2 m2 h2]]=>some ⟨some ((isPL 10000 n g/\iO m h)/\isPL 10000 n2 g2/\iO m2 h2),.val (.bool ((decide (n=n2)&&!aD (λi=>!bE (ae g i) (ae g2 i)) n)&&(decide (m=m2)&&!aD (λi=>!eqQ (gB h i) (gB h2 i)) m))),[]⟩
 |_=>none
theorem Iu:am {} Tryz.f16 2=true:=by kernel_rfl
theorem f16:FnOk Tryz.prog 16 It:=by
 refine FnOk.ofW aj (an (l:=[(63,Ip),(64,Ir)]) (own:=[]) (inl:=[]) (by simp [f63,f64]) (by simp)) Tryz.func16 {} 2 Iu λargs r e=>?_;unfold It at e;split at e
 ·rename_i n g m h n2 g2 m2 h2
  cases e;refine⟨by simp,λhm=>?_⟩;obtain⟨⟨hp,hq⟩,hp2,hq2⟩:=hm _ rfl;refine⟨[],aa [(0,.agg [.rs 6 n g,.rs 2 m h]),(1,.agg [.rs 6 n2 g2,.rs 2 m2 h2])] [] 0 [],Wo trivial ⟨⟨qW,qW,qQ⟩,⟨qW,qW,qQ⟩,qQ⟩ trivial,?_⟩;obtain⟨A,hA⟩:∃A,A=(decide (n=n2)&&!aD (λi=>!bE (ae g i) (ae g2 i)) n):=⟨_,rfl⟩;obtain⟨B,hB⟩:∃B,B=(decide (m=m2)&&!aD (λi=>!eqQ (gB h i) (gB h2 i)) m):=⟨_,rfl⟩;rw [<-hA,<-hB];have n1:∀A':Bool,A'=A->A'=true->PV.val (.bool B)=PV.val (.bool (A&&B)):=λA' e h=>by rw [<-e,h];rfl
  have n2':∀A':Bool,A'=A->A' = !true->PV.val (.bool false)=PV.val (.bool (A&&B)):=λA' e h=>by rw [<-e,h];rfl
  have nB:∀B':Bool,B'=B->PV.val (.bool B')=PV.val (.bool B):=λB' e=>by rw [e]
  have nA:∀A':Bool,A'=A->A' = !true->PV.val (.bool A')=PV.val (.bool (A&&B)):=λA' e h=>by rw [<-e,h];rfl
  with_unfolding_all exact⟨⟨hp,hp2⟩,λh3=>⟨⟨hq,hq2⟩,⟨[],aa [(4,.val (.bool (A&&B)))] [] 0 [],Wo trivial ⟨(nB _ hB.symm).trans (n1 _ hA.symm h3),qQ⟩ trivial,rfl,rfl⟩⟩,λh3=>⟨[],aa [(4,.val (.bool (A&&B)))] [] 0 [],Wo trivial ⟨n2' _ hA.symm h3,qQ⟩ trivial,rfl,rfl⟩⟩
 ·cases e
end Go.Proofs
namespace Go.Num
def pV (lo hi:PtS) (k:Nat) (c:Nat->List PV) (l:Nat) (o:Nat->List PV) (p q:PtS):Int:=bif vk lo hi k c l o p q then bif ap lo hi k (pn c) (λi=>ae (pg c i)) p&&ap lo hi k (pn c) (λi=>ae (pg c i)) q then bif bE p q then 12 else 0 else 16 else 1
def iU (lo hi:PtS) (k:Nat) (c:Nat->List PV) (l:Nat) (o:Nat->List PV) (p q:PtS):List PtS:=bif pV lo hi k c l o p q==0 then aR p q (ab (bK (ap lo hi k (pn c) (λi=>ae (pg c i))) (pn c) (λi=>ae (pg c i)) k)) (bK (ap lo hi k (pn c) (λi=>ae (pg c i))) (pn c) (λi=>ae (pg c i)) k).length else []
def Gl (lo hi:PtS) (k:Nat) (c:Nat->List PV) (a b:PtS):Bool:=!kD lo hi k (pn c) (λi=>ae (pg c i)) a b
def kE (lo hi:PtS) (k:Nat) (c:Nat->List PV) (l:Nat) (o:Nat->List PV) (p q:PtS):List (Int×Int):=aX (Gl lo hi k c) (ab (iU lo hi k c l o p q)) (iU lo hi k c l o p q).length (iU lo hi k c l o p q).length
end Go.Num
namespace Go.Proofs
def Iv:List PV->Option Ans
 |[.agg xs,.val v,.val u]=>some ⟨some (isRg 10000 xs/\isPk 10000 v/\isPk 10000 u),
  .tup [.agg [.rs 6 (iU (bO xs) (bP xs) (gK xs) (gC xs) (gL xs) (gO xs) (aO v) (aO u)).length (λi=>(ab (iU (bO xs) (bP xs) (gK xs) (gC xs) (gL xs) (gO xs) (aO v) (aO u)) i).cells),.rs 2 (kE (bO xs) (bP xs) (gK xs) (gC xs) (gL xs) (gO xs) (aO v) (aO u)).length (λi=>aF (qL (kE (bO xs) (bP xs) (gK xs) (gC xs) (gL xs) (gO xs) (aO v) (aO u)) i))],.val (.int .i64 (pV (bO xs) (bP xs) (gK xs) (gC xs) (gL xs) (gO xs) (aO v) (aO u)))],[]⟩
 |_=>none
def D15:Opt:={ perm:=ng [(13,rds 6++[(6,false)]),(20,rds 11)] }
theorem Iw:am D15.toOrd Tryz.f15 3=true:=by kernel_rfl
theorem f15:FnOk Tryz.prog 15 Iv:=by
 refine FnOk.ofW aj (an (l:=[(58,Dt),(59,Dq),(60,GC),(61,GE),(62,GD)]) (own:=[]) (inl:=[]) (by simp [f58,f59,f60,f61,f62]) (by simp)) Tryz.func15 D15 3 Iw λargs r e=>?_;unfold Iv at e;split at e
 ·rename_i xs v u
  cases e;refine⟨by simp,λhm=>?_⟩;obtain⟨⟨h1,⟨hlo,hhi⟩,hcl,hol⟩,⟨a,rfl,ha⟩,b,rfl,hb⟩:=hm _ rfl;generalize bO xs=lo at *
  generalize bP xs=hi at *
  generalize gK xs=k at *
  generalize gC xs=c at *
  generalize gL xs=l at *
  generalize gO xs=o at *
  subst h1;clear hm;refine⟨[],aa [(0,.agg (bq lo hi k c l o)),(1,.val a.v),(2,.val b.v)] [] 0 [],Wo trivial ⟨⟨rfl,rfl,rfl,rfl,rfl,rfl,rfl,rfl,rfl,rfl,rfl,rfl,qW,qW,qQ⟩,rfl,rfl,qQ⟩ trivial,?_⟩;have hcl':bM 10000 k (λi=>[.rs 6 (pn c i) (pg c i)]):=⟨λi hi=>⟨rfl,(hcl.1 i hi).2⟩,hcl.2⟩;have hX:isRg 10000 (bq lo hi k c l o):=⟨rfl,⟨hlo,hhi⟩,hcl',λ_ _=>rfl,hol.2⟩;have pka:isPk 10000 a.v:=⟨a,rfl,ha⟩;have pkb:isPk 10000 b.v:=⟨b,rfl,hb⟩;have pa4:isPk 4294967296 a.v:=⟨a,rfl,ha.mono (by decide)⟩;have pb4:isPk 4294967296 b.v:=⟨b,rfl,hb.mono (by decide)⟩;have fine:((c7 lo hi k (pn c) (λi=>aZ (pn c i) (ae (pg c i))) l (ow o)) != 0)=false->k<=32/\∀i,i < k->pn c i<=64:=λh=>by
   have h:(c7 lo hi k (pn c) (λi=>aZ (pn c i) (ae (pg c i))) l (ow o))=0:=by simpa using h
   have hf:=jq h;exact⟨hf.2.1,hf.2.2⟩
  obtain⟨OK,hOK⟩:∃OK,OK=vk lo hi k c l o a b:=⟨_,rfl⟩;obtain⟨F,hF⟩:∃F,F=ap lo hi k (pn c) (λi=>ae (pg c i)):=⟨_,rfl⟩;obtain⟨S,hS⟩:∃S,S=Gl lo hi k c:=⟨_,rfl⟩;obtain⟨C,hC⟩:∃C,C=ab (bK (ap lo hi k (pn c) (λi=>ae (pg c i))) (pn c) (λi=>ae (pg c i)) k):=⟨_,rfl⟩;obtain⟨N,hNN⟩:∃N,N=(bK (ap lo hi k (pn c) (λi=>ae (pg c i))) (pn c) (λi=>ae (pg c i)) k).length:=⟨_,rfl⟩;obtain⟨BE,hBE⟩:∃BE,BE=pV lo hi k c l o a b:=⟨_,rfl⟩;obtain⟨BP,hBP⟩:∃BP,BP=iU lo hi k c l o a b:=⟨_,rfl⟩;obtain⟨BL,hBL⟩:∃BL,BL=kE lo hi k c l o a b:=⟨_,rfl⟩;show zd _ _ _ _ _ ⟨_,.tup [.agg [.rs 6 (iU lo hi k c l o a b).length (λi=>(ab (iU lo hi k c l o a b) i).cells),.rs 2 (kE lo hi k c l o a b).length (λi=>aF (qL (kE lo hi k c l o a b) i))],.val (.int .i64 (pV lo hi k c l o a b))],[]⟩;rw [<-hBE,<-hBP,<-hBL];have eK:OK=(((c7 lo hi k (pn c) (λi=>aZ (pn c i) (ae (pg c i))) l (ow o))==0)&&(ah a&&ah b)):=hOK;have e0:BE=bif OK then bif F a&&F b then bif bE a b then 12 else 0 else 16 else 1:=by rw [hBE,pV,<-hOK,<-hF]
  have e1:BP=bif BE==0 then aR a b C N else []:=by rw [hBP,iU,<-hBE,<-hC,<-hNN]
  have e2:BL=aX S (ab BP) BP.length BP.length:=by rw [hBL,kE,<-hBP,<-hS]
  have bad:BE≠0->BP.length=0/\BL.length=0:=λh=>by
   have h0:(BE==0)=false:=by simpa using h
   have h1:BP=[]:=by rw [e1,h0];rfl
   exact⟨by rw [h1];rfl,by rw [e2,h1];rfl⟩
  have z:∀B:Bool,(bW B != 0)=true->B=false:=λB h=>by cases B<;>first|rfl|cases h
  have z':∀B:Bool,(bW B != 0)=false->B=true:=λB h=>by cases B<;>first|rfl|cases h
  have hnn:∀B:Bool,B = !false->B=true:=λB h=>h;have neq:∀B:Bool,(!B)=true->B=false:=λB h=>by simpa using h
  have neq':∀B:Bool,(!B)=false->B=true:=λB h=>by simpa using h
  have k1:OK=false->BE=1:=λh=>by rw [e0,h];rfl
  have kc:((c7 lo hi k (pn c) (λi=>aZ (pn c i) (ae (pg c i))) l (ow o)) != 0)=true->BE=1:=λh=>k1 (by
   have h:((c7 lo hi k (pn c) (λi=>aZ (pn c i) (ae (pg c i))) l (ow o))==0)=false:=by simpa using h
   rw [eK,h];rfl)
  have ka:(bW (ah a) != 0)=true->BE=1:=λh=>k1 (by rw [eK,z _ h,Bool.false_and,Bool.and_false]);have kb:(bW (ah b) != 0)=true->BE=1:=λh=>k1 (by rw [eK,z _ h,Bool.and_false,Bool.and_false]);have kg:((c7 lo hi k (pn c) (λi=>aZ (pn c i) (ae (pg c i))) l (ow o)) != 0)=false->(bW (ah a) != 0)=false->(bW (ah b) != 0)=false->OK=true:=λh h2 h3=>by
   have h:((c7 lo hi k (pn c) (λi=>aZ (pn c i) (ae (pg c i))) l (ow o))==0)=true:=by simpa using h
   rw [eK,h,z' _ h2,z' _ h3];rfl
  have n1:BE=1->BE≠0:=λh=>by rw [h];decide
  have v1:BE=1->PV.val (.int .i64 1)=PV.val (.int .i64 BE):=λh=>by rw [h]
  have b16:OK=true->F a=false\/F b=false->BE=16:=λhk h=>by
   rw [e0,hk];rcases h with h|h
   ·rw [h];rfl
   ·rw [h,Bool.and_false];rfl
  have b12:OK=true->F a=true->F b=true->bE a b=true->BE=12:=λhk h h' h2=>by rw [e0,hk,h,h',h2];rfl
  have n16:BE=16->BE≠0:=λh=>by rw [h];decide
  have n12:BE=12->BE≠0:=λh=>by rw [h];decide
  have v16:BE=16->PV.val (.int .i64 16)=PV.val (.int .i64 BE):=λh=>by rw [h]
  have v12:BE=12->PV.val (.int .i64 12)=PV.val (.int .i64 BE):=λh=>by rw [h]
  have fs:∀x,(!ap lo hi k (pn c) (λi=>ae (pg c i)) x)=true->F x=false:=λx h=>by rw [hF];exact neq _ h
  have ft:∀x,(!ap lo hi k (pn c) (λi=>ae (pg c i)) x)=false->F x=true:=λx h=>by rw [hF];exact neq' _ h
  have big:((c7 lo hi k (pn c) (λi=>aZ (pn c i) (ae (pg c i))) l (ow o)) != 0)=false->k<=1000/\∀i,i < k->pn c i<=1000000:=λh=>⟨Nat.le_trans (fine h).1 (by decide),λi hi2=>Nat.le_trans ((fine h).2 i hi2) (by decide)⟩;have hrow:∀i,i < N->(C i).cells=(ab (bK (ap lo hi k (pn c) (λi=>ae (pg c i))) (pn c) (λi=>ae (pg c i)) k) i).cells:=λi _=>by rw [hC]
  have hNN':N=(bK (ap lo hi k (pn c) (λi=>ae (pg c i))) (pn c) (λi=>ae (pg c i)) k).length:=hNN;have r0:∀r:Nat->List PV,r 0=a.cells->r 1=b.cells->∀i,i < 2->(ab (aR a b C 0) i).cells=r i:=λr h h' i hi=>by
   match i,hi with
   |0,_=>exact h.symm
   |1,_=>exact h'.symm
  have hCle:∀i,i < N->(C i).le 10000:=by
   rw [hNN,hC];exactλi hi=>f7 (pQ (λs hs t ht=>((hcl.1 s hs).2.1 t ht).2)) hi
  have bnd:((c7 lo hi k (pn c) (λi=>aZ (pn c i) (ae (pg c i))) l (ow o)) != 0)=false->N<=64*32:=λh=>by
   have h1:=pN (ap lo hi k (pn c) (λi=>ae (pg c i))) (pn c) (λi=>ae (pg c i)) (fine h).2 k (Nat.le_refl _);have h2:=(fine h).1;rw [hNN];omega
  with_unfolding_all refine⟨hX,λh1=>⟨pa4,λh2=>⟨pb4,λh3=>⟨[some 3],aa [(6,.ptr 0 0 0 0),(7,.val (.int .i64 BE))] [⟨37,2,0,true,false,1,λ_=>[.rs 6 BP.length (λi=>(ab BP i).cells),.rs 2 BL.length (λi=>aF (qL BL i))]⟩] 1 [],Wo ⟨qZ ⟨⟨⟨rfl,(bad (n1 (kb h3))).1⟩,rfl⟩,⟨⟨rfl,(bad (n1 (kb h3))).2⟩,rfl⟩,qQ⟩,qQ⟩ ⟨pP,v1 (kb h3),qQ⟩ trivial,rfl,rfl⟩,λh3=>⟨⟨⟨hX,pka⟩,big h1⟩,λh4=>⟨⟨⟨hX,pkb⟩,big h1⟩,λh5=>⟨[some 3],aa [(6,.ptr 0 0 0 0),(7,.val (.int .i64 BE))] [⟨37,2,0,true,false,1,λ_=>[.rs 6 BP.length (λi=>(ab BP i).cells),.rs 2 BL.length (λi=>aF (qL BL i))]⟩] 1 [],Wo ⟨qZ ⟨⟨⟨rfl,(bad (n16 (b16 (kg h1 h2 h3) (.inr (fs b h5))))).1⟩,rfl⟩,⟨⟨rfl,(bad (n16 (b16 (kg h1 h2 h3) (.inr (fs b h5))))).2⟩,rfl⟩,qQ⟩,qQ⟩ ⟨pP,v16 (b16 (kg h1 h2 h3) (.inr (fs b h5))),qQ⟩ trivial,rfl,rfl⟩,λh5=>⟨λh6=>⟨[some 3],aa [(6,.ptr 0 0 0 0),(7,.val (.int .i64 BE))] [⟨37,2,0,true,false,1,λ_=>[.rs 6 BP.length (λi=>(ab BP i).cells),.rs 2 BL.length (λi=>aF (qL BL i))]⟩] 1 [],Wo ⟨qZ ⟨⟨⟨rfl,(bad (n12 (b12 (kg h1 h2 h3) (ft a h4) (ft b h5) h6))).1⟩,rfl⟩,⟨⟨rfl,(bad (n12 (b12 (kg h1 h2 h3) (ft a h4) (ft b h5) h6))).2⟩,rfl⟩,qQ⟩,qQ⟩ ⟨pP,v12 (b12 (kg h1 h2 h3) (ft a h4) (ft b h5) h6),qQ⟩ trivial,rfl,rfl⟩,λh6=>⟨⟨hX,fine h1⟩,Nat,λj=>(((c7 lo hi k (pn c) (λi=>aZ (pn c i) (ae (pg c i))) l (ow o)) != 0)=false/\OK=true/\F a=true/\F b=true/\bE a b=false)/\j<=N,λj=>aa [(3,.ptr 0 0 0 0),(4,.ptr 1 1 0 0),(5,.ptr 2 2 0 0),(6,.ptr 3 3 0 0),(8,.ptr 4 4 0 0),(9,.rs 6 N (λi=>(C i).cells)),(10,.val (goInt j))] [⟨31,14,0,true,false,1,λ_=>bq lo hi k c l o⟩,⟨25,6,1,true,false,1,λ_=>a.cells⟩,⟨25,6,2,true,false,1,λ_=>b.cells⟩,⟨37,2,3,true,false,1,λ_=>[.val (.slice none 0 0),.val (.slice none 0 0)]⟩,⟨37,2,4,true,false,1,λ_=>[.sl 5 5 0 (aR a b C j).length,.val (.slice none 0 0)]⟩,⟨25,6,5,false,false,(aR a b C j).length,λi=>(ab (aR a b C j) i).cells⟩] 6 [],λj=>N - j,⟨0,[some 0,some 1,some 2,some 3,some 5,some 4],⟨⟨h1,kg h1 h2 h3,ft a h4,ft b h5,h6⟩,Nat.zero_le _⟩,Wo ⟨qZ ⟨rq,rq,rq,rq,rq,rq,rq,rq,rq,rq,rq,rq,⟨qW,rfl⟩,⟨qW,rfl⟩,qQ⟩,qK,qK,qJ,qZ ⟨⟨pP,rfl⟩,rq,qQ⟩,qZ (r0 _ rfl rfl),qQ⟩ ⟨pP,pP,pP,pP,pP,⟨rfl,hNN'.symm,hrow⟩,rfl,qQ⟩ trivial⟩,λj hj=>?_⟩⟩⟩,λh4=>⟨λ_=>⟨[some 3],aa [(6,.ptr 0 0 0 0),(7,.val (.int .i64 BE))] [⟨37,2,0,true,false,1,λ_=>[.rs 6 BP.length (λi=>(ab BP i).cells),.rs 2 BL.length (λi=>aF (qL BL i))]⟩] 1 [],Wo ⟨qZ ⟨⟨⟨rfl,(bad (n16 (b16 (kg h1 h2 h3) (.inl (fs a (hnn _ h4)))))).1⟩,rfl⟩,⟨⟨rfl,(bad (n16 (b16 (kg h1 h2 h3) (.inl (fs a (hnn _ h4)))))).2⟩,rfl⟩,qQ⟩,qQ⟩ ⟨pP,v16 (b16 (kg h1 h2 h3) (.inl (fs a (hnn _ h4)))),qQ⟩ trivial,rfl,rfl⟩,(λh=>nomatch h)⟩⟩⟩,λh2=>⟨λ_=>⟨[some 3],aa [(6,.ptr 0 0 0 0),(7,.val (.int .i64 BE))] [⟨37,2,0,true,false,1,λ_=>[.rs 6 BP.length (λi=>(ab BP i).cells),.rs 2 BL.length (λi=>aF (qL BL i))]⟩] 1 [],Wo ⟨qZ ⟨⟨⟨rfl,(bad (n1 (ka (hnn _ h2)))).1⟩,rfl⟩,⟨⟨rfl,(bad (n1 (ka (hnn _ h2)))).2⟩,rfl⟩,qQ⟩,qQ⟩ ⟨pP,v1 (ka (hnn _ h2)),qQ⟩ trivial,rfl,rfl⟩,(λh=>nomatch h)⟩⟩,λh1=>⟨(λh=>nomatch h),λ_=>⟨λ_=>⟨[some 3],aa [(6,.ptr 0 0 0 0),(7,.val (.int .i64 BE))] [⟨37,2,0,true,false,1,λ_=>[.rs 6 BP.length (λi=>(ab BP i).cells),.rs 2 BL.length (λi=>aF (qL BL i))]⟩] 1 [],Wo ⟨qZ ⟨⟨⟨rfl,(bad (n1 (kc (hnn _ h1)))).1⟩,rfl⟩,⟨⟨rfl,(bad (n1 (kc (hnn _ h1)))).2⟩,rfl⟩,qQ⟩,qQ⟩ ⟨pP,v1 (kc (hnn _ h1)),qQ⟩ trivial,rfl,rfl⟩,(λh=>nomatch h)⟩⟩⟩
  obtain⟨⟨g0,g1,g2,g3,g4⟩,hjN⟩:(((c7 lo hi k (pn c) (λi=>aZ (pn c i) (ae (pg c i))) l (ow o)) != 0)=false/\OK=true/\F a=true/\F b=true/\bE a b=false)/\j<=N:=hj;have hN:=bnd g0;with_unfolding_all refine⟨λh1=>?_,λh1=>?_⟩
  ·have h1:(j:Int) < N:=bN h1;have ej:(j:Int).toNat=j:=Int.toNat_natCast j;have hjN1:j+1<=N:=by omega
   have hμ : N - (j+1) < N - j:=by omega
   have hkl:=f9 a b C j;have hnn2:∀B:Bool,B = !true->B=false:=λB h=>h;have wj:PV.val (.int .i64 (IntKind.i64.wrap ((j:Int)+1)))=PV.val (.int .i64 ((j+1:Nat):Int)):=by
    rw [wrap64 (by omega) (by omega)];rfl
   have e3:bE (C j) a=false->bE (C j) b=false->aR a b C (j+1)=aR a b C j++[C j]:=λh h'=>by rw [aR,h,h'];rfl
   have e4:(!bE (C j) a&&!bE (C j) b)=false->aR a b C (j+1)=aR a b C j:=λh=>by rw [aR,h];exact List.append_nil _
   have hn0:(!bE (C (j:Int).toNat) a&&!bE (C (j:Int).toNat) b)=false->(aR a b C (j+1)).length=(aR a b C j).length:=λh=>by
    rw [ej] at h;rw [e4 h]
   have hr0:(!bE (C (j:Int).toNat) a&&!bE (C (j:Int).toNat) b)=false->∀i,i < (aR a b C j).length->(ab (aR a b C (j+1)) i).cells=(ab (aR a b C j) i).cells:=λh=>by
    rw [ej] at h;rw [e4 h];exactλ_ _=>rfl
   have hnA:bE (C (j:Int).toNat) a=false->bE (C (j:Int).toNat) b=false->(aR a b C (j+1)).length=(aR a b C j).length+1:=λh h'=>by
    rw [ej] at h h';rw [e3 h h',List.length_append];rfl
   have hr1:bE (C (j:Int).toNat) a=false->bE (C (j:Int).toNat) b=false->∀r:Nat->List PV,r 0=(C (j:Int).toNat).cells->∀i,i < (aR a b C j).length+1->(ab (aR a b C (j+1)) i).cells=gM (aR a b C j).length (λi=>(ab (aR a b C j) i).cells) r i:=λh h' r hr=>by
    rw [ej] at h h' hr;rw [e3 h h'];exact Bk hr
   have k1:((aR a b C j).length+1)*80<=140737488355328:=by omega
   have k2:(aR a b C j).length+1<=9223372036854775807:=by omega
   have m1:∀x y:Bool,(!y)=false->(!x&&!y)=false:=λx y h=>by rw [h,Bool.and_false]
   have m2:∀x y:Bool,(!x)=false->(!x&&!y)=false:=λx y h=>by rw [h];rfl
   with_unfolding_all exact⟨⟨Int.natCast_nonneg j,h1⟩,λh2=>⟨⟨Int.natCast_nonneg j,h1⟩,λh3=>⟨⟨Int.natCast_nonneg j,h1⟩,⟨rfl,k1,k2⟩,⟨j+1,[some 0,some 1,some 2,some 3,some 4,some 5],⟨⟨g0,g1,g2,g3,g4⟩,hjN1⟩,hμ,Wo ⟨qZ ⟨rq,rq,rq,rq,rq,rq,rq,rq,rq,rq,rq,rq,⟨qW,rfl⟩,⟨qW,rfl⟩,qQ⟩,qK,qK,qJ,qZ ⟨⟨⟨rfl,rfl,(hnA (neq _ h2) (neq _ h3)).symm,aN rfl,_,rfl⟩,rfl⟩,rq,qQ⟩,⟨aN rfl,rfl,rfl,rfl,rfl,(hnA (neq _ h2) (neq _ h3)),hr1 (neq _ h2) (neq _ h3) _ rfl⟩,qQ⟩ ⟨pP,pP,pP,pP,pP,qW,wj,qQ⟩ trivial⟩⟩,λh3=>⟨j+1,[some 0,some 1,some 2,some 3,some 4,some 5],⟨⟨g0,g1,g2,g3,g4⟩,hjN1⟩,hμ,Wo ⟨qZ ⟨rq,rq,rq,rq,rq,rq,rq,rq,rq,rq,rq,rq,⟨qW,rfl⟩,⟨qW,rfl⟩,qQ⟩,qK,qK,qJ,qZ ⟨⟨⟨rfl,rfl,(hn0 (m1 _ _ h3)).symm,aN rfl,_,rfl⟩,rfl⟩,rq,qQ⟩,⟨aN rfl,rfl,rfl,rfl,rfl,(hn0 (m1 _ _ h3)),hr0 (m1 _ _ h3)⟩,qQ⟩ ⟨pP,pP,pP,pP,pP,qW,wj,qQ⟩ trivial⟩⟩,λh2=>⟨(λh=>nomatch h),λ_=>⟨j+1,[some 0,some 1,some 2,some 3,some 4,some 5],⟨⟨g0,g1,g2,g3,g4⟩,hjN1⟩,hμ,Wo ⟨qZ ⟨rq,rq,rq,rq,rq,rq,rq,rq,rq,rq,rq,rq,⟨qW,rfl⟩,⟨qW,rfl⟩,qQ⟩,qK,qK,qJ,qZ ⟨⟨⟨rfl,rfl,(hn0 (m2 _ _ (hnn2 _ h2))).symm,aN rfl,_,rfl⟩,rfl⟩,rq,qQ⟩,⟨aN rfl,rfl,rfl,rfl,rfl,(hn0 (m2 _ _ (hnn2 _ h2))),hr0 (m2 _ _ (hnn2 _ h2))⟩,qQ⟩ ⟨pP,pP,pP,pP,pP,qW,wj,qQ⟩ trivial⟩⟩⟩
  ·have h1:(N:Int)<=j:=dC h1;have hb0:BE=0:=by rw [e0,g1,g2,g3,g4];rfl
   have hBPk:aR a b C j=BP:=by
    rw [show j=N by omega,e1,hb0];rfl
   have hl3:(aR a b C j).length=BP.length:=by rw [hBPk]
   have hr3:∀i,i < (aR a b C j).length->(ab BP i).cells=(ab (aR a b C j) i).cells:=λi _=>by rw [hBPk]
   have v69:PV.val (.int .i64 (((aR a b C j).length:Nat):Int))=PV.val (goInt BP.length):=by
    rw [hBPk];rfl
   have hBl:BP.length<=2050:=by
    have:=f9 a b C j;rw [<-hBPk];omega
   have hBall:∀i,i < BP.length->(ab BP i).le 10000:=λi hi=>by
    unfold ab;rw [List.getElem?_eq_getElem hi];exact iI (j:=j) ha hb (λi hi=>hCle i (by omega)) _ (by rw [hBPk];exact List.getElem_mem hi)
   clear hBPk;with_unfolding_all refine⟨Nat,λi=>i<=BP.length,λi=>aa [(3,.ptr 0 0 0 0),(6,.ptr 1 1 0 0),(8,.ptr 2 2 0 0),(11,.val (goInt i))] [⟨31,14,0,true,false,1,λ_=>bq lo hi k c l o⟩,⟨37,2,1,true,false,1,λ_=>[.val (.slice none 0 0),.val (.slice none 0 0)]⟩,⟨37,2,2,true,false,1,λ_=>[.sl 3 3 0 BP.length,.sl 4 4 0 (aX S (ab BP) BP.length i).length]⟩,⟨25,6,3,false,false,BP.length,λt=>(ab BP t).cells⟩,⟨46,2,4,false,false,(aX S (ab BP) BP.length i).length,λt=>aF (qL (aX S (ab BP) BP.length i) t)⟩] 5 [],λi=>BP.length - i,⟨0,[some 0,some 3,some 4,some 5,none],Nat.zero_le _,Wo ⟨qZ ⟨rq,rq,rq,rq,rq,rq,rq,rq,rq,rq,rq,rq,⟨qW,rfl⟩,⟨qW,rfl⟩,qQ⟩,qJ,qZ ⟨⟨⟨rfl,rfl,hl3,aN rfl,_,rfl⟩,rfl⟩,⟨⟨rfl,rfl,rfl,rfl,aN rfl⟩,rfl⟩,qQ⟩,⟨aN rfl,rfl,rfl,rfl,rfl,hl3.symm,hr3⟩,⟨aN rfl,rfl,rfl,rfl⟩,qQ⟩ ⟨pP,pP,pP,rfl,qQ⟩ trivial⟩,λi hiB=>?_⟩
   replace hiB:i<=BP.length:=hiB;with_unfolding_all refine⟨λh1=>?_,λh1=>?_⟩
   ·have h1:(i:Int) < BP.length:=bN h1;have ei:(i:Int).toNat=i:=Int.toNat_natCast i;have hj0:(aX S (ab BP) BP.length i++bu S (ab BP) i 0).length=(aX S (ab BP) BP.length i).length:=by rw [bu,List.append_nil]
    have hr0:∀t,t < (aX S (ab BP) BP.length i).length->aF (qL (aX S (ab BP) BP.length i++bu S (ab BP) i 0) t)=aF (qL (aX S (ab BP) BP.length i) t):=λt _=>by rw [bu,List.append_nil]
    have w14:PV.val (.int .i64 (IntKind.i64.wrap ((i:Int)+1)))=PV.val (goInt (i+1+0)):=by
     rw [wrap64 (by omega) (by omega)];rfl
    with_unfolding_all refine⟨Nat,λd=>i+1+d<=BP.length,λd=>aa [(3,.ptr 0 0 0 0),(6,.ptr 1 1 0 0),(8,.ptr 2 2 0 0),(11,.val (goInt i)),(12,.val (goInt (i+1+d)))] [⟨31,14,0,true,false,1,λ_=>bq lo hi k c l o⟩,⟨37,2,1,true,false,1,λ_=>[.val (.slice none 0 0),.val (.slice none 0 0)]⟩,⟨37,2,2,true,false,1,λ_=>[.sl 3 3 0 BP.length,.sl 4 4 0 (aX S (ab BP) BP.length i++bu S (ab BP) i d).length]⟩,⟨25,6,3,false,false,BP.length,λt=>(ab BP t).cells⟩,⟨46,2,4,false,false,(aX S (ab BP) BP.length i++bu S (ab BP) i d).length,λt=>aF (qL (aX S (ab BP) BP.length i++bu S (ab BP) i d) t)⟩] 5 [],λd=>BP.length - d,⟨0,[some 0,some 1,some 2,some 3,some 4],by show i+1+0<=BP.length;omega,Wo ⟨qZ ⟨rq,rq,rq,rq,rq,rq,rq,rq,rq,rq,rq,rq,⟨qW,rfl⟩,⟨qW,rfl⟩,qQ⟩,qJ,qZ ⟨⟨pP,rfl⟩,⟨⟨rfl,rfl,hj0.symm,aN rfl,_,rfl⟩,rfl⟩,qQ⟩,qZ (λ_ _=>rfl),⟨aN rfl,rfl,rfl,rfl,rfl,hj0,hr0⟩,qQ⟩ ⟨pP,pP,pP,rfl,w14,qQ⟩ trivial⟩,λd hd=>?_⟩
    have hdB:i+1+d<=BP.length:=hd;with_unfolding_all refine⟨λh2=>?_,λh2=>?_⟩
    ·have h2:(i:Int)+1+d < BP.length:=bN h2;have eT:0+((i:Int)+1+d).toNat=i+1+d:=by omega
     have hdB1:i+1+(d+1)<=BP.length:=by omega
     have hμd:BP.length - (d+1) < BP.length - d:=by omega
     have hbI:=lJ S (ab BP) BP.length i;have hbJ:=lI S (ab BP) i d;have hii:i*BP.length<=2050*2050:=Nat.mul_le_mul (by omega) hBl;have hlj:(aX S (ab BP) BP.length i++bu S (ab BP) i d).length<=2050*2050+2050:=by
      rw [List.length_append];omega
     have wd:PV.val (.int .i64 (IntKind.i64.wrap ((i:Int)+1+d+1)))=PV.val (goInt ((i:Int)+1+((d+1:Nat):Int))):=by
      rw [wrap64 (by omega) (by omega)];exact congrArg (λz=>PV.val (.int .i64 z)) (by omega)
     have hs:∀s t b,s=i->t=i+1+d->(!kD lo hi k (pn c) (λi=>ae (pg c i)) (ab BP s) (ab BP t))=b->S (ab BP i) (ab BP (i+1+d))=b:=λs t b h0 h h'=>by rw [<-h,hS];rw [<-h0];exact h'
     have e3:S (ab BP i) (ab BP (i+1+d))=true->aX S (ab BP) BP.length i++bu S (ab BP) i (d+1)=aX S (ab BP) BP.length i++bu S (ab BP) i d++[((i:Int),((i+1+d:Nat):Int))]:=λh=>by rw [bu,h,List.append_assoc];rfl
     have e4:S (ab BP i) (ab BP (i+1+d))=false->aX S (ab BP) BP.length i++bu S (ab BP) i (d+1)=aX S (ab BP) BP.length i++bu S (ab BP) i d:=λh=>by
      rw [bu,h];exact congrArg _ (List.append_nil _)
     have hn0:S (ab BP i) (ab BP (i+1+d))=false->(aX S (ab BP) BP.length i++bu S (ab BP) i (d+1)).length=(aX S (ab BP) BP.length i++bu S (ab BP) i d).length:=λh=>by rw [e4 h]
     have hr0:S (ab BP i) (ab BP (i+1+d))=false->∀t,t < (aX S (ab BP) BP.length i++bu S (ab BP) i d).length->aF (qL (aX S (ab BP) BP.length i++bu S (ab BP) i (d+1)) t)=aF (qL (aX S (ab BP) BP.length i++bu S (ab BP) i d) t):=λh=>by
      rw [e4 h];exactλ_ _=>rfl
     have hnA:S (ab BP i) (ab BP (i+1+d))=true->(aX S (ab BP) BP.length i++bu S (ab BP) i (d+1)).length=(aX S (ab BP) BP.length i++bu S (ab BP) i d).length+1:=λh=>by
      rw [e3 h,List.length_append];rfl
     have hr1:S (ab BP i) (ab BP (i+1+d))=true->∀r:Nat->List PV,r 0=[.val (.int .i64 (i:Int)),.val (.int .i64 ((i:Int)+1+d))]->∀t,t < (aX S (ab BP) BP.length i++bu S (ab BP) i d).length+1->aF (qL (aX S (ab BP) BP.length i++bu S (ab BP) i (d+1)) t)=gM (aX S (ab BP) BP.length i++bu S (ab BP) i d).length (λt=>aF (qL (aX S (ab BP) BP.length i++bu S (ab BP) i d) t)) r t:=λh r hr=>by
      rw [e3 h];refine yC (hr.trans ?_);rw [aF,show(i:Int)+1+d=((i+1+d:Nat):Int) by omega]
     have k1:((aX S (ab BP) BP.length i++bu S (ab BP) i d).length+1)*16<=140737488355328:=by omega
     have k2:(aX S (ab BP) BP.length i++bu S (ab BP) i d).length+1<=9223372036854775807:=by omega
     have pk1:isPk 10000 (ab BP (0+(i:Int).toNat)).v:=⟨_,rfl,hBall _ (by omega)⟩;have pk2:isPk 10000 (ab BP (0+((i:Int)+1+d).toNat)).v:=⟨_,rfl,hBall _ (by omega)⟩;have ei0:0+(i:Int).toNat=i:=by omega
     with_unfolding_all exact⟨⟨by omega,by omega⟩,⟨by omega,h2⟩,⟨⟨hX,pk1,pk2⟩,big g0⟩,λh3=>⟨⟨rfl,k1,k2⟩,⟨d+1,[some 0,some 1,some 2,some 3,some 4],hdB1,hμd,Wo ⟨qZ ⟨rq,rq,rq,rq,rq,rq,rq,rq,rq,rq,rq,rq,⟨qW,rfl⟩,⟨qW,rfl⟩,qQ⟩,qJ,qZ ⟨⟨pP,rfl⟩,⟨⟨rfl,rfl,(hnA (hs _ (0+((i:Int)+1+d).toNat) _ ei0 eT h3)).symm,aN rfl,_,rfl⟩,rfl⟩,qQ⟩,qZ (λ_ _=>rfl),⟨aN rfl,rfl,rfl,rfl,rfl,(hnA (hs _ (0+((i:Int)+1+d).toNat) _ ei0 eT h3)),hr1 (hs _ (0+((i:Int)+1+d).toNat) _ ei0 eT h3) _ rfl⟩,qQ⟩ ⟨pP,pP,pP,rfl,wd,qQ⟩ trivial⟩⟩,λh3=>⟨d+1,[some 0,some 1,some 2,some 3,some 4],hdB1,hμd,Wo ⟨qZ ⟨rq,rq,rq,rq,rq,rq,rq,rq,rq,rq,rq,rq,⟨qW,rfl⟩,⟨qW,rfl⟩,qQ⟩,qJ,qZ ⟨⟨pP,rfl⟩,⟨⟨rfl,rfl,(hn0 (hs _ (0+((i:Int)+1+d).toNat) _ ei0 eT h3)).symm,aN rfl,_,rfl⟩,rfl⟩,qQ⟩,qZ (λ_ _=>rfl),⟨aN rfl,rfl,rfl,rfl,rfl,(hn0 (hs _ (0+((i:Int)+1+d).toNat) _ ei0 eT h3)),hr0 (hs _ (0+((i:Int)+1+d).toNat) _ ei0 eT h3)⟩,qQ⟩ ⟨pP,pP,pP,rfl,wd,qQ⟩ trivial⟩⟩
    ·have h2:(BP.length:Int)<=(i:Int)+1+d:=dC h2;have hd:d=BP.length - (i+1):=by omega
     have hiB1:i+1<=BP.length:=by omega
     have hμi:BP.length - (i+1) < BP.length - i:=by omega
     have wi:PV.val (.int .i64 (IntKind.i64.wrap ((i:Int)+1)))=PV.val (goInt ((i+1:Nat):Int)):=by
      rw [wrap64 (by omega) (by omega)];rfl
     have e3:aX S (ab BP) BP.length (i+1)=aX S (ab BP) BP.length i++bu S (ab BP) i d:=by rw [hd,aX]
     have hn0:(aX S (ab BP) BP.length (i+1)).length=(aX S (ab BP) BP.length i++bu S (ab BP) i d).length:=by rw [e3]
     have hr0:∀t,t < (aX S (ab BP) BP.length i++bu S (ab BP) i d).length->aF (qL (aX S (ab BP) BP.length (i+1)) t)=aF (qL (aX S (ab BP) BP.length i++bu S (ab BP) i d) t):=λt _=>by rw [e3]
     with_unfolding_all exact⟨i+1,[some 0,some 1,some 2,some 3,some 4],hiB1,hμi,Wo ⟨qZ ⟨rq,rq,rq,rq,rq,rq,rq,rq,rq,rq,rq,rq,⟨qW,rfl⟩,⟨qW,rfl⟩,qQ⟩,qJ,qZ ⟨⟨pP,rfl⟩,⟨⟨rfl,rfl,hn0.symm,aN rfl,_,rfl⟩,rfl⟩,qQ⟩,qZ (λ_ _=>rfl),⟨aN rfl,rfl,rfl,rfl,rfl,hn0,hr0⟩,qQ⟩ ⟨pP,pP,pP,wi,qQ⟩ trivial⟩
   ·have h1:(BP.length:Int)<=i:=dC h1;have hi2:i=BP.length:=by omega
    have e5:aX S (ab BP) BP.length i=BL:=by rw [e2,hi2]
    have v7:PV.val (.int .i64 0)=PV.val (.int .i64 BE):=by rw [hb0]
    have rp:∀t,t < BP.length->(ab BP t).cells=(ab BP (0+t)).cells:=λt _=>by rw [Nat.zero_add]
    have rl:∀t,t < BL.length->aF (qL BL t)=aF (qL (aX S (ab BP) BP.length i) (0+t)):=λt _=>by rw [e5,Nat.zero_add]
    with_unfolding_all exact⟨[some 1],aa [(6,.ptr 0 0 0 0),(7,.val (.int .i64 BE))] [⟨37,2,0,true,false,1,λ_=>[.rs 6 BP.length (λi=>(ab BP i).cells),.rs 2 BL.length (λi=>aF (qL BL i))]⟩] 1 [],Wo ⟨qZ ⟨⟨⟨by simp,_,rfl,rfl,rfl,rfl,rp⟩,rfl⟩,⟨⟨by simp,_,rfl,rfl,rfl,congrArg List.length e5,rl⟩,rfl⟩,qQ⟩,qQ⟩ ⟨pP,v7,qQ⟩ trivial,rfl,rfl⟩
 ·cases e
end Go.Proofs
namespace Go.Num
theorem mT {S T:PtS->PtS->Bool} {P:Nat->PtS} {i:Nat}:∀{d:Nat},(∀e,e < d->S (P i) (P (i+1+e))=T (P i) (P (i+1+e)))->bu S P i d=bu T P i d
 |0,_=>rfl
 |d+1,h=>by rw [bu,bu,mT λe he=>h e (by omega),h d (by omega)]
theorem mU {S T:PtS->PtS->Bool} {P:Nat->PtS} {n:Nat} (h:∀s t,s < n->t < n->S (P s) (P t)=T (P s) (P t)):∀{i:Nat},i<=n->aX S P n i=aX T P n i
 |0,_=>rfl
 |i+1,hi=>by rw [aX,aX,mU h (by omega),mT λe he=>h i (i+1+e) (by omega) (by omega)]
theorem pW {lo hi:PtS} {k:Nat} {c:Nat->List PV} {l:Nat} {o:Nat->List PV} {a b:PtS} (h:vk lo hi k c l o a b=true):bT lo hi k (pn c) (λi=>ae (pg c i)) l (ow o)=0/\ah a=true/\ah b=true:=by
 rw [vk,Bool.and_eq_true,Bool.and_eq_true] at h;exact⟨eq_of_beq ((vp lo hi k c l o).symm.trans h.1),h.2⟩
theorem y8 (lo hi:PtS) (k:Nat) (c:Nat->List PV) (l:Nat) (o:Nat->List PV) (a b:PtS):pV lo hi k c l o a b=ig lo hi k c l o a b:=by
 unfold pV ig;rw [Bn];cases h:vk lo hi k c l o a b with
 |false=>rfl
 |true =>
  obtain⟨hr,ha,hb⟩:=pW h;rw [iK hr ha,iK hr hb]
theorem vq {lo hi:PtS} {k:Nat} {c:Nat->List PV} {l:Nat} {o:Nat->List PV} {a b:PtS} (h:(ig lo hi k c l o a b==0)=true):vk lo hi k c l o a b=true:=by
 cases h2:vk lo hi k c l o a b with
 |true=>rfl
 |false =>
  rw [ig,Bn,h2] at h;exact absurd (show((1:Int)==0)=true from h) (by decide)
theorem y9 {lo hi:PtS} {k:Nat} {c:Nat->List PV} {l:Nat} {o:Nat->List PV} {a b:PtS} (hc:bM 10000 k c):iU lo hi k c l o a b=dl lo hi k c l o a b:=by
 unfold iU dl;rw [y8];cases h:ig lo hi k c l o a b==0 with
 |false=>rfl
 |true=>rw [y7 (pW (vq h)).1 hc]
theorem mV {lo hi:PtS} {k:Nat} {c:Nat->List PV} {l:Nat} {o:Nat->List PV} {a b:PtS} {s:Nat} (hs:s < (dl lo hi k c l o a b).length):vk lo hi k c l o a b=true/\ah (ab (dl lo hi k c l o a b) s)=true:=by
 have hm:ab (dl lo hi k c l o a b) s∈dl lo hi k c l o a b:=by
  unfold ab;rw [List.getElem?_eq_getElem hs];exact List.getElem_mem _
 revert hm;generalize ab (dl lo hi k c l o a b) s=x;intro hm;unfold dl at hm;cases hB:ig lo hi k c l o a b==0 with
 |false=>rw [hB] at hm;cases hm
 |true =>
  have hk:=vq hB;obtain⟨hr,ha,hb⟩:=pW hk;rw [hB] at hm;refine⟨hk,?_⟩;rcases n9 hm with h|h|⟨j,h3,h4⟩
  ·rw [h];exact ha
  ·rw [h];exact hb
  ·refine kY hr (n8 ?_);rw [h4];unfold ab;rw [List.getElem?_eq_getElem h3];exact List.getElem_mem _
theorem Dn {lo hi:PtS} {k:Nat} {c:Nat->List PV} {l:Nat} {o:Nat->List PV} {a b:PtS} (hc:bM 10000 k c):kE lo hi k c l o a b=gw lo hi k c l o a b:=by
 unfold kE gw;rw [y9 hc];refine mU (λs t hs ht=>?_) (Nat.le_refl _);have h1:=mV hs;exact yP (pW h1.1).1 h1.2 (mV ht).2
end Go.Num
namespace Go.Proofs
def c3:List PV->Option Ans
 |[.agg [.val (.bool s1),.val (.string b1),.val (.string c1),.val (.bool s2),.val (.string b2),.val (.string c2),.val (.bool s3),.val (.string b3),.val (.string c3),.val (.bool s4),.val (.string b4),.val (.string c4),.rs 1 k c,.rs 3 l o],.val v,.val u]=>some ⟨some ((PtS.le 140737488355328 (PtS.mk ⟨s1,b1,c1⟩ ⟨s2,b2,c2⟩)/\PtS.le 140737488355328 (PtS.mk ⟨s3,b3,c3⟩ ⟨s4,b4,c4⟩))/\bM 140737488355328 k c/\cQ l o/\isPk 140737488355328 v/\isPk 140737488355328 u),.val (.bool true),[]⟩
 |_=>none
def D3:Opt:={}
theorem Gm:am D3.toOrd Tryz.f3 3=true:=by kernel_rfl
theorem f3:FnOk Tryz.prog 3 c3:=by
 refine FnOk.ofW aj (an (l:=[(12,Gx),(13,GB),(14,Gz),(15,Iv),(16,It)]) (own:=[]) (inl:=[]) (by simp [f12,f13,f14,f15,f16]) (by simp)) Tryz.func3 D3 3 Gm λargs r e=>?_;unfold c3 at e;split at e
 ·rename_i s1 b1 c1 s2 b2 c2 s3 b3 c3 s4 b4 c4 k c l o v u
  cases e;refine⟨by simp,λhm=>?_⟩;obtain⟨⟨hlo,hhi⟩,⟨hc,hk⟩,⟨ho,hl⟩,⟨a,rfl,ha⟩,⟨b,rfl,hb⟩⟩:=hm _ rfl;clear hm;obtain⟨lo,hlo'⟩:∃p,p=(PtS.mk ⟨s1,b1,c1⟩ ⟨s2,b2,c2⟩):=⟨_,rfl⟩;obtain⟨hi,hhi'⟩:∃p,p=(PtS.mk ⟨s3,b3,c3⟩ ⟨s4,b4,c4⟩):=⟨_,rfl⟩;have hc1:∀i,i < k->[.rs 6 (pn c i) (pg c i)]=c i:=λi hi=>(hc i hi).1.symm;have ho1:∀i,i < l->ag (ow o i)=o i:=λi hi=>(ho i hi).symm;refine⟨[],aa [(0,.agg (bq (PtS.mk ⟨s1,b1,c1⟩ ⟨s2,b2,c2⟩) (PtS.mk ⟨s3,b3,c3⟩ ⟨s4,b4,c4⟩) k c l o)),(1,.val a.v),(2,.val b.v)] [] 0 [],Wo trivial ⟨⟨rfl,rfl,rfl,rfl,rfl,rfl,rfl,rfl,rfl,rfl,rfl,rfl,⟨rfl,rfl,hc1⟩,⟨rfl,rfl,ho1⟩,qQ⟩,rfl,rfl,qQ⟩ trivial,?_⟩;rw [<-hlo'] at hlo ⊢;rw [<-hhi'] at hhi ⊢;clear hlo' hhi';have hX:isRg 140737488355328 (bq lo hi k c l o):=⟨rfl,⟨hlo,hhi⟩,⟨λi hi=>⟨rfl,(hc i hi).2⟩,hk⟩,λ_ _=>rfl,hl⟩;have p2:∀r:Nat->List PV,r 0=a.cells->r 1=b.cells->isPL 140737488355328 2 r:=λr h h'=>⟨λi hi=>by
   match i,hi with
   |0,_=>exact⟨by rw [ae,h];rfl,by rw [ae,h];exact ha⟩
   |1,_=>exact⟨by rw [ae,h'];rfl,by rw [ae,h'];exact hb⟩
   |i+2,h=>omega,by decide⟩
  with_unfolding_all refine⟨⟨hX,p2 _ rfl rfl⟩,λh1=>⟨[],aa [(6,.val (.bool true))] [] 0 [],Wo trivial ⟨rfl,qQ⟩ trivial,rfl,rfl⟩,λh1=>?_⟩
  have hX12:isRg 12 (bq lo hi k c l o):=by
   have h:=h1;unfold gF at h;rw [Bool.or_eq_false_iff] at h;exact pH h.1 hX
  have hab:a.le 12/\b.le 12:=by
   have h:=h1;unfold gF at h;rw [Bool.or_eq_false_iff] at h;exact⟨fH ((ay.1 h.2) 0 (by decide)),fH ((ay.1 h.2) 1 (by decide))⟩
  have hlen:(au lo hi k c l o).length<=500:=wU h1;clear h1 p2;obtain⟨ha12,hb12⟩:=hab;have hX4:isRg 10000 (bq lo hi k c l o):=hX12.mono (by decide);have hcl:bM 10000 k (λi=>[.rs 6 (pn c i) (pg c i)]):=hX4.2.2.1;have pa:isPk 10000 a.v:=⟨a,rfl,ha12.mono (by decide)⟩;have pb:isPk 10000 b.v:=⟨b,rfl,hb12.mono (by decide)⟩;have hcl:bM 10000 k (λi=>[.rs 6 (pn c i) (pg c i)]):=hX4.2.2.1;have hP:iU lo hi k (λi=>[.rs 6 (pn c i) (pg c i)]) l (λi=>ag (ow o i)) a b=dl lo hi k (λi=>[.rs 6 (pn c i) (pg c i)]) l (λi=>ag (ow o i)) a b:=y9 hcl;have hL:kE lo hi k (λi=>[.rs 6 (pn c i) (pg c i)]) l (λi=>ag (ow o i)) a b=gw lo hi k (λi=>[.rs 6 (pn c i) (pg c i)]) l (λi=>ag (ow o i)) a b:=Dn hcl;have hE:pV lo hi k (λi=>[.rs 6 (pn c i) (pg c i)]) l (λi=>ag (ow o i)) a b=ig lo hi k (λi=>[.rs 6 (pn c i) (pg c i)]) l (λi=>ag (ow o i)) a b:=y8 _ _ _ _ _ _ _ _;have n2:(ig lo hi k (λi=>[.rs 6 (pn c i) (pg c i)]) l (λi=>ag (ow o i)) a b==pV lo hi k (λi=>[.rs 6 (pn c i) (pg c i)]) l (λi=>ag (ow o i)) a b) = !true->False:=λh=>by
   rw [hE,beq_self_eq_true] at h;cases h
  have n1:((decide ((dl lo hi k (λi=>[.rs 6 (pn c i) (pg c i)]) l (λi=>ag (ow o i)) a b).length=(iU lo hi k (λi=>[.rs 6 (pn c i) (pg c i)]) l (λi=>ag (ow o i)) a b).length)&&!aD (λi=>!bE (ae (λi=>(ab (dl lo hi k (λi=>[.rs 6 (pn c i) (pg c i)]) l (λi=>ag (ow o i)) a b) i).cells) i) (ae (λi=>(ab (iU lo hi k (λi=>[.rs 6 (pn c i) (pg c i)]) l (λi=>ag (ow o i)) a b) i).cells) i)) (dl lo hi k (λi=>[.rs 6 (pn c i) (pg c i)]) l (λi=>ag (ow o i)) a b).length)&&(decide ((gw lo hi k (λi=>[.rs 6 (pn c i) (pg c i)]) l (λi=>ag (ow o i)) a b).length=(kE lo hi k (λi=>[.rs 6 (pn c i) (pg c i)]) l (λi=>ag (ow o i)) a b).length)&&!aD (λi=>!eqQ (gB (λi=>aF (qL (gw lo hi k (λi=>[.rs 6 (pn c i) (pg c i)]) l (λi=>ag (ow o i)) a b) i)) i) (gB (λi=>aF (qL (kE lo hi k (λi=>[.rs 6 (pn c i) (pg c i)]) l (λi=>ag (ow o i)) a b) i)) i)) (gw lo hi k (λi=>[.rs 6 (pn c i) (pg c i)]) l (λi=>ag (ow o i)) a b).length)) = !true->False:=λh=>by
   rw [hP,hL,decide_eq_true rfl,decide_eq_true rfl,Bool.true_and,Bool.true_and,ay.2 λi _=>by rw [ib];rfl,ay.2 λi _=>by rw [sa];rfl] at h;cases h
  have hB5:(dl lo hi k (λi=>[.rs 6 (pn c i) (pg c i)]) l (λi=>ag (ow o i)) a b).length<=502:=by
   unfold dl;cases ig lo hi k (λi=>[.rs 6 (pn c i) (pg c i)]) l (λi=>ag (ow o i)) a b==0 with
   |false=>exact Nat.zero_le _
   |true =>
    have h1:=(f9 a b (ab (cN lo hi k (λi=>[.rs 6 (pn c i) (pg c i)]) l (λi=>ag (ow o i)))) (cN lo hi k (λi=>[.rs 6 (pn c i) (pg c i)]) l (λi=>ag (ow o i))).length).2;have h2:(cN lo hi k (λi=>[.rs 6 (pn c i) (pg c i)]) l (λi=>ag (ow o i))).length<=(au lo hi k (λi=>[.rs 6 (pn c i) (pg c i)]) l (λi=>ag (ow o i))).length:=mH _ _;have h3:(au lo hi k (λi=>[.rs 6 (pn c i) (pg c i)]) l (λi=>ag (ow o i))).length<=500:=hlen;show(aR a b (ab (cN lo hi k (λi=>[.rs 6 (pn c i) (pg c i)]) l (λi=>ag (ow o i)))) (cN lo hi k (λi=>[.rs 6 (pn c i) (pg c i)]) l (λi=>ag (ow o i))).length).length<=502;omega
  have hL5:(gw lo hi k (λi=>[.rs 6 (pn c i) (pg c i)]) l (λi=>ag (ow o i)) a b).length<=502*502:=Nat.le_trans (lJ (bc lo hi k (λi=>[.rs 6 (pn c i) (pg c i)]) l (λi=>ag (ow o i))) (ab (dl lo hi k (λi=>[.rs 6 (pn c i) (pg c i)]) l (λi=>ag (ow o i)) a b)) (dl lo hi k (λi=>[.rs 6 (pn c i) (pg c i)]) l (λi=>ag (ow o i)) a b).length (dl lo hi k (λi=>[.rs 6 (pn c i) (pg c i)]) l (λi=>ag (ow o i)) a b).length) (Nat.mul_le_mul hB5 hB5);have pP:isPL 10000 (dl lo hi k (λi=>[.rs 6 (pn c i) (pg c i)]) l (λi=>ag (ow o i)) a b).length (λi=>(ab (dl lo hi k (λi=>[.rs 6 (pn c i) (pg c i)]) l (λi=>ag (ow o i)) a b) i).cells):=⟨λi hi2=>⟨rfl,AO (ha12.mono (by decide)) (hb12.mono (by decide)) hcl i hi2⟩,Nat.le_trans hB5 (by decide)⟩;have pL:iO (gw lo hi k (λi=>[.rs 6 (pn c i) (pg c i)]) l (λi=>ag (ow o i)) a b).length (λi=>aF (qL (gw lo hi k (λi=>[.rs 6 (pn c i) (pg c i)]) l (λi=>ag (ow o i)) a b) i)):=⟨λ_ _=>rfl,Nat.le_trans hL5 (by decide)⟩;have pP2:isPL 10000 (iU lo hi k (λi=>[.rs 6 (pn c i) (pg c i)]) l (λi=>ag (ow o i)) a b).length (λi=>(ab (iU lo hi k (λi=>[.rs 6 (pn c i) (pg c i)]) l (λi=>ag (ow o i)) a b) i).cells):=by
   rw [hP];exact pP
  have pL2:iO (kE lo hi k (λi=>[.rs 6 (pn c i) (pg c i)]) l (λi=>ag (ow o i)) a b).length (λi=>aF (qL (kE lo hi k (λi=>[.rs 6 (pn c i) (pg c i)]) l (λi=>ag (ow o i)) a b) i)):=by
   rw [hL];exact pL
  with_unfolding_all exact⟨⟨⟨hX4,pa,pb⟩,hlen⟩,⟨hX4,pa,pb⟩,⟨⟨pP,pL⟩,pP2,pL2⟩,λh2=>⟨λh3=>⟨[],aa [(6,.val (.bool true))] [] 0 [],Wo trivial ⟨rfl,qQ⟩ trivial,rfl,rfl⟩,λh3=>(n2 h3).elim⟩,λh2=>(n1 h2).elim⟩
 ·cases e
end Go.Proofs
