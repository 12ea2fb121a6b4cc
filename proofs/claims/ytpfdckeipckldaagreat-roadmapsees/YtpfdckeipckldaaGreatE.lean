/- RoadmapSees: for every region and points the law returns true, and leaves its arguments as they are. No conditions. -/
import Derived.Shelf.Lays8
import Derived.Shelf.Spec.SlicesGrow
import Derived.Shelf.Sort.Plain
import Derived.Shelf.Slices.In.SortNone
import Derived.Sort.OwnSortedInts
import Derived.Deep.Slices
import Derived.SizedLaws
import Derived.Carry
import Derived.WideShapes
import Derived.ProofKit
import Derived.Test.YtpfdckeipckldaaGreatRows
import Derived.Test.YtpfdckeipckldaaGreatD
set_option maxHeartbeats 8000000
set_option linter.all false
open Go Go.Ex Go.Num Go.Proofs
set_option maxRecDepth 100000
namespace Go.Num
def tG (p u:PtS):PtS:=o8 (p.X+u.X) (p.Y+u.Y)
def rG (p:PtS) (r:RatS):PtS:=o8 (p.X*r.q) (p.Y*r.q)
def yX (p u:PtS) (r:RatS):PtS:=tG p (rG (ck u p) r)
theorem As {a b:Nat} {p u:PtS} (h1:PtS.le a p) (h2:PtS.le b u):(tG p u).le (a+b+3):=tw ((h1.X.add h2.X).le (by omega)) ((h1.Y.add h2.Y).le (by omega))
theorem uO {a b:Nat} {p:PtS} {r:RatS} (h1:PtS.le a p) (h2:RatS.le b r):(rG p r).le (a+b+3):=tw ((h1.X.mul h2.qb).le (by omega)) ((h1.Y.mul h2.qb).le (by omega))
theorem fI {p:PtS} (h:br p=false):p.le 12:=by
 unfold br mY at h;simp only [Bool.or_eq_false_iff,decide_eq_false_iff_not] at h;unfold PtS.le RatS.le;omega
theorem px {K:Nat} {xs:List PV} (h:mz (bM xs) (bN xs) (gK xs) (pn (gC xs)) (λi=>ab (pg (gC xs) i)) (gL xs)=false) (hx:isRg K xs):isRg 12 xs:=by
 obtain⟨h1,_,hc,ho⟩:=hx;unfold mz at h;simp only [Bool.or_eq_false_iff] at h;refine⟨h1,⟨fI h.1.1.1.1,fI h.1.1.1.2⟩,⟨λi hi=>⟨(hc.1 i hi).1,⟨λj hj=>⟨((hc.1 i hi).2.1 j hj).1,?_⟩,(hc.1 i hi).2.2⟩⟩,hc.2⟩,ho⟩;have h2:=(az.1 h.1.2) i hi;unfold iJ at h2;rw [Bool.or_eq_false_iff] at h2;exact fI ((az.1 h2.2) j hj)
theorem isRg.mono {a b:Nat} {xs:List PV} (h:isRg a xs) (hab:a<=b):isRg b xs :=
 ⟨h.1,⟨h.2.1.1.mono hab,h.2.1.2.mono hab⟩,⟨λi hi=>⟨(h.2.2.1.1 i hi).1,⟨λj hj=>⟨((h.2.2.1.1 i hi).2.1 j hj).1,((h.2.2.1.1 i hi).2.1 j hj).2.mono hab⟩,(h.2.2.1.1 i hi).2.2⟩⟩,h.2.2.1.2⟩,h.2.2.2⟩
theorem At {K n:Nat} {g:Nat->List PV} (h:aE (λi=>br (ab g i)) n=false) (hg:isPL K n g):isPL 12 n g :=
 ⟨λi hi=>⟨(hg.1 i hi).1,fI ((az.1 h) i hi)⟩,hg.2⟩
theorem isPL.mono {a b n:Nat} {g:Nat->List PV} (h:isPL a n g) (hab:a<=b):isPL b n g:=⟨λi hi=>⟨(h.1 i hi).1,(h.1 i hi).2.mono hab⟩,h.2⟩
def gB (xs:List PV) (n:Nat) (g:Nat->List PV):Bool:=mz (bM xs) (bN xs) (gK xs) (pn (gC xs)) (λi=>ab (pg (gC xs) i)) (gL xs)||aE (λi=>br (ab g i)) n
def rH (xs:List PV):Int:=eE (bM xs) (bN xs) (gK xs) (pn (gC xs)) (λi=>bl (pn (gC xs) i) (ab (pg (gC xs) i))) (gL xs) (ow (gO xs))
def rI (xs:List PV) (n:Nat) (g:Nat->List PV):Bool:=!gB xs n g&&(rH xs==0)&&!aE (λi=>!ah (ab g i)) n
end Go.Num
namespace Go.Proofs
theorem fJ {x y:PtS} (h:x=y):PV.val (.bool x.x.s)=PV.val (.bool y.x.s)/\PV.val (.string x.x.b)=PV.val (.string y.x.b)/\PV.val (.string x.x.c)=PV.val (.string y.x.c)/\PV.val (.bool x.y.s)=PV.val (.bool y.y.s)/\PV.val (.string x.y.b)=PV.val (.string y.y.b)/\PV.val (.string x.y.c)=PV.val (.string y.y.c):=by
 rw [h];exact⟨rfl,rfl,rfl,rfl,rfl,rfl⟩
def Hv:List PV->Option Ans
 |[.val v,.val u]=>some ⟨some (isPk 4294967296 v/\isPk 4294967296 u),.val (tG (aN v) (aN u)).v,[]⟩
 |_=>none
def D74:Opt:={  }
theorem Hw:am D74.toOrd Tryz.f74 2=true:=by kernel_rfl
theorem f74:FnOk Tryz.prog 74 Hv:=by
 refine FnOk.ofW aj (an (l:=[(112,mj)]) (own:=[]) (inl:=[]) (by simp [xW]) (by simp)) Tryz.func74 D74 2 Hw λargs r e=>?_;unfold Hv at e;split at e
 ·rename_i v u
  cases e;refine⟨by simp,λhm=>?_⟩;obtain⟨⟨p,rfl,hp⟩,u,rfl,hu⟩:=hm _ rfl;refine⟨[],aa [(0,.val p.v),(1,.val u.v)] [] 0 [],Wo trivial ⟨rfl,rfl,qQ⟩ trivial,?_⟩;with_unfolding_all exact⟨⟨⟨p,rfl,hp⟩,u,rfl,hu⟩,[some 2],aa [(4,.ptr 0 0 0 0)] [gV (tG p u) 0] 1 [],Wo ⟨qK,qQ⟩ ⟨pP,qQ⟩ trivial,rfl,rfl⟩
 ·cases e
def Au:Value->RatS
 |.agg ⟨[.bool s,.string b,.string c]⟩=>⟨s,b,c⟩
 |_=>⟨false,⟨#[]⟩,⟨#[]⟩⟩
def Hy:List PV->Option Ans
 |[.val v,.val u]=>some ⟨some (isPk 4294967296 v/\isRk 4294967296 u),.val (rG (aN v) (Au u)).v,[]⟩
 |_=>none
def D75:Opt:={  }
theorem Hz:am D75.toOrd Tryz.f75 2=true:=by kernel_rfl
theorem f75:FnOk Tryz.prog 75 Hy:=by
 refine FnOk.ofW aj (an (l:=[(112,jN)]) (own:=[]) (inl:=[]) (by simp [ro]) (by simp)) Tryz.func75 D75 2 Hz λargs r e=>?_;unfold Hy at e;split at e
 ·rename_i v u
  cases e;refine⟨by simp,λhm=>?_⟩;obtain⟨⟨p,rfl,hp⟩,s,b,c,rfl,hb,hc⟩:=hm _ rfl;refine⟨[],aa [(0,.val p.v),(1,.val (.agg ⟨[.bool s,.string b,.string c]⟩))] [] 0 [],Wo trivial ⟨rfl,rfl,qQ⟩ trivial,?_⟩;have hr:PtS.le 4294967296 ⟨⟨s,b,c⟩,⟨s,b,c⟩⟩:=⟨⟨hb,hc⟩,hb,hc⟩;with_unfolding_all exact⟨⟨⟨p,rfl,hp⟩,⟨⟨s,b,c⟩,⟨s,b,c⟩⟩,rfl,hr⟩,[some 2],aa [(4,.ptr 0 0 0 0)] [gV (rG p ⟨s,b,c⟩) 0] 1 [],Wo ⟨qK,qQ⟩ ⟨pP,qQ⟩ trivial,rfl,rfl⟩
 ·cases e
def HA:List PV->Option Ans
 |[.val v,.val u,.val w]=>some ⟨some (isPk 1000 v/\isPk 1000 u/\isRk 1000 w),.val (yX (aN v) (aN u) (Au w)).v,[]⟩
 |_=>none
def D28:Opt:={ perm:=ji 1 [(0,true),(1,true),(2,true),(4,true),(3,false),(5,false),(6,false)] }
theorem HB:am D28.toOrd Tryz.f28 3=true:=by kernel_rfl
theorem f28:FnOk Tryz.prog 28 HA:=by
 refine FnOk.ofW aj (an (l:=[(76,E3),(75,Hy),(74,Hv)]) (own:=[]) (inl:=[]) (by simp [f76,f75,f74]) (by simp)) Tryz.func28 D28 3 HB λargs r e=>?_;unfold HA at e;split at e
 ·rename_i v u w
  cases e;refine⟨by simp,λhm=>?_⟩;obtain⟨⟨p,rfl,hp⟩,⟨u,rfl,hu⟩,s,b,c,rfl,hb,hc⟩:=hm _ rfl;refine⟨[],aa [(0,.val p.v),(1,.val u.v),(2,.val (.agg ⟨[.bool s,.string b,.string c]⟩))] [] 0 [],Wo trivial ⟨rfl,rfl,rfl,qQ⟩ trivial,?_⟩;have hr:RatS.le 1000 ⟨s,b,c⟩:=⟨hb,hc⟩;have s1:=cf hu hp;have s2:=uO s1 hr;have i1:isPk 4294967296 u.v/\isPk 4294967296 p.v:=⟨⟨_,rfl,hu.mono (by decide)⟩,_,rfl,hp.mono (by decide)⟩;have i2:isPk 4294967296 (ck u p).v/\isRk 4294967296 (.agg ⟨[.bool s,.string b,.string c]⟩):=⟨⟨_,rfl,s1.mono (by decide)⟩,s,b,c,rfl,Nat.le_trans hb (by decide),Nat.le_trans hc (by decide)⟩;have i3:isPk 4294967296 p.v/\isPk 4294967296 (rG (ck u p) ⟨s,b,c⟩).v:=⟨⟨_,rfl,hp.mono (by decide)⟩,_,rfl,s2.mono (by decide)⟩;have rv:∀p:PtS,aN p.v=p:=λ_=>rfl;obtain⟨Q,hQ⟩:∃Q,Q=yX p u ⟨s,b,c⟩:=⟨_,rfl⟩;have hq:yX (aN p.v) (aN u.v) (Au (.agg ⟨[.bool s,.string b,.string c]⟩))=Q:=hQ.symm;rw [hq];have e:tG (aN p.v) (aN (rG (aN (ck (aN u.v) (aN p.v)).v) (Au (.agg ⟨[.bool s,.string b,.string c]⟩))).v)=Q:=by
   rw [rv,rv,rv,rv];exact hq
  have c6:=fJ e;clear hq hQ e;with_unfolding_all refine⟨?_,?_,?_,[some 3],aa [(6,.ptr 0 0 0 0)] [gV Q 0] 1 [],Wo ⟨qZ ⟨⟨c6.1,rfl⟩,⟨c6.2.1,rfl⟩,⟨c6.2.2.1,rfl⟩,⟨c6.2.2.2.1,rfl⟩,⟨c6.2.2.2.2.1,rfl⟩,⟨c6.2.2.2.2.2,rfl⟩,qQ⟩,qQ⟩ ⟨pP,qQ⟩ trivial,rfl,rfl⟩
  ·exact i1
  ·exact i2
  ·exact i3
 ·cases e
def HC:List PV->Option Ans
 |[.val v]=>some ⟨some (isPk 4294967296 v),.val (.bool (!ah (aN v))),[]⟩
 |_=>none
theorem HD:am {} Tryz.f66 1=true:=by kernel_rfl
theorem f66:FnOk Tryz.prog 66 HC:=by
 refine FnOk.ofW aj (an (l:=[(67,A0)]) (own:=[]) (inl:=[]) (by simp [f67]) (by simp)) Tryz.func66 {} 1 HD λargs r e=>?_;unfold HC at e;split at e
 ·rename_i v
  cases e;refine⟨by simp,λhm=>?_⟩;obtain⟨p,rfl,hp⟩:=hm _ rfl;refine⟨[],aa [(0,.val p.v)] [] 0 [],Wo trivial ⟨rfl,qQ⟩ trivial,?_⟩;with_unfolding_all exact⟨⟨p,rfl,hp⟩,[],aa [(2,.val (.bool (!ah p)))] [] 0 [],Wo trivial ⟨congrArg (λz=>PV.val (.bool z)) (lz _),qQ⟩ trivial,rfl,rfl⟩
 ·cases e
def tH:List PV->Option Ans
 |[.rs 6 n g,.val (.func (.func 66) ⟨[]⟩ ⟨[]⟩)]=>some ⟨some (isPL 4294967296 n g),.val (.int .i64 (dg (λi=>!ah (ab g i)) n 0)),[]⟩
 |_=>none
theorem CT:FnOk Tryz.prog 83 tH:=by
 refine FnOk.ofW aj (an (l:=[(66,HC)]) (own:=[]) (inl:=[]) (by simp [f66]) (by simp)) Tryz.func83 {} 2 tq λargs r e=>?_;unfold tH at e;split at e
 ·rename_i n g
  cases e;refine⟨by simp,λhm=>?_⟩;obtain⟨hg,hn⟩:=hm _ rfl;refine⟨[],aa [(0,.rs 6 n (λi=>(ab g i).cells)),(1,.val (.func (.func 66) ⟨[]⟩ ⟨[]⟩))] [] 0 [],Wo trivial ⟨⟨rfl,rfl,λi hi=>(hg i hi).1.symm⟩,rfl,qQ⟩ trivial,?_⟩;obtain⟨X,hX⟩:∃X,X=dg (λi=>!ah (ab g i)) n 0:=⟨_,rfl⟩;rw [<-hX];with_unfolding_all refine⟨Nat,λi=>i<=n/\dg (λi=>!ah (ab g i)) (n - i) i=X,λi=>aa [(0,.rs 6 n (λi=>(ab g i).cells)),(1,.val (.func (.func 66) ⟨[]⟩ ⟨[]⟩)),(7,.val (goInt n)),(8,.val (goInt i))] [] 0 [],λi=>n - i,⟨0,[],⟨Nat.zero_le _,hX.symm⟩,Wo trivial ⟨qW,rfl,rfl,rfl,qQ⟩ trivial⟩,λi hi=>?_⟩
  obtain⟨hin,hI⟩:i<=n/\dg (λi=>!ah (ab g i)) (n - i) i=X:=hi;with_unfolding_all refine⟨λh=>?_,λh=>⟨[],aa [(4,.val (.int .i64 X))] [] 0 [],Wo trivial ⟨?_,qQ⟩ trivial,rfl,rfl⟩⟩
  ·have h:=bI h;have e:(i:Int).toNat=i:=Int.toNat_natCast i;have hstep:dg (λi=>!ah (ab g i)) (n - i) i=bif !ah (ab g i) then(i:Int) else dg (λi=>!ah (ab g i)) (n - (i+1)) (i+1):=by
    rw [show n - i=(n - (i+1))+1 by omega];rfl
   with_unfolding_all refine⟨⟨by omega,by omega⟩,⟨ab g (i:Int).toNat,rfl,by rw [e];exact(hg i (by omega)).2⟩,λh'=>⟨[],aa [(4,.val (.int .i64 X))] [] 0 [],Wo trivial ⟨?_,qQ⟩ trivial,rfl,rfl⟩,λh'=>⟨i+1,[],⟨by omega,?_⟩,by show n - (i+1) < n - i;omega,Wo trivial ⟨qW,rfl,rfl,?_,qQ⟩ trivial⟩⟩
   ·have h':(!ah (ab g (i:Int).toNat))=true:=h';rw [e] at h';rw [h',cond_true] at hstep;exact congrArg (λz=>PV.val (.int .i64 z)) (hstep.symm.trans hI)
   ·have h':(!ah (ab g (i:Int).toNat))=false:=h';rw [e] at h';rw [h',cond_false] at hstep;exact hstep.symm.trans hI
   ·show PV.val (.int .i64 (IntKind.i64.wrap ((i:Int)+1)))=PV.val (.int .i64 ((i+1:Nat):Int));rw [wrap64 (by omega) (by omega)];rfl
  ·have h:=dP h;rw [show n - i=0 by omega] at hI;exact congrArg (λz=>PV.val (.int .i64 z)) hI
 ·cases e
def tI:List PV->Option Ans
 |[.rs 6 n g,.val (.func (.func 66) ⟨[]⟩ ⟨[]⟩)]=>some ⟨some (isPL 4294967296 n g),.val (.bool (aE (λi=>!ah (ab g i)) n)),[]⟩
 |_=>none
theorem CU:FnOk Tryz.prog 65 tI:=by
 refine FnOk.ofW aj (an (l:=[(83,tH)]) (own:=[]) (inl:=[]) (by simp [CT]) (by simp)) Tryz.func65 {} 2 tr λargs r e=>?_;unfold tI at e;split at e
 ·rename_i n g
  cases e;refine⟨by simp,λhm=>?_⟩;have hp:=hm _ rfl;refine⟨[],aa [(0,.rs 6 n g),(1,.val (.func (.func 66) ⟨[]⟩ ⟨[]⟩))] [] 0 [],Wo trivial ⟨⟨rfl,rfl,λi hi=>rfl⟩,rfl,qQ⟩ trivial,?_⟩;with_unfolding_all exact⟨hp,[],aa [(4,.val (.bool (aE (λi=>!ah (ab g i)) n)))] [] 0 [],Wo trivial ⟨congrArg (λz=>PV.val (.bool z)) (ea _ _),qQ⟩ trivial,rfl,rfl⟩
 ·cases e
def Gl:List PV->Option Ans
 |[.agg xs,.rs 6 n g]=>some ⟨some (isRg 140737488355328 xs/\isPL 140737488355328 n g),.val (.bool (gB xs n g)),[]⟩
 |_=>none
def D12:Opt:={  }
theorem HE:am D12.toOrd Tryz.f12 2=true:=by kernel_rfl
theorem f12:FnOk Tryz.prog 12 Gl:=by
 refine FnOk.ofW aj (an (l:=[(50,Hq),(51,GN)]) (own:=[]) (inl:=[]) (by simp [f50,f51]) (by simp)) Tryz.func12 D12 2 HE λargs r e=>?_;unfold Gl at e;split at e
 ·rename_i xs n g
  cases e;refine⟨by simp,λhm=>?_⟩;obtain⟨⟨h1,hrest⟩,hg⟩:=hm _ rfl;have hx:isRg 140737488355328 xs:=⟨h1,hrest⟩;obtain⟨X,hX⟩:∃X,X=gB xs n g:=⟨_,rfl⟩;rw [<-hX];have e:X=(mz (bM xs) (bN xs) (gK xs) (pn (gC xs)) (λi=>ab (pg (gC xs) i)) (gL xs)||aE (λi=>br (ab g i)) n):=hX;clear hX;obtain⟨A,hA⟩:∃A,A=mz (bM xs) (bN xs) (gK xs) (pn (gC xs)) (λi=>ab (pg (gC xs) i)) (gL xs):=⟨_,rfl⟩;rw [<-hA] at e;generalize bM xs=lo at *
  generalize bN xs=hi at *
  generalize gK xs=k at *
  generalize gC xs=c at *
  generalize gL xs=l at *
  generalize gO xs=o at *
  subst h1;clear hm;refine⟨[],aa [(0,.agg (bq lo hi k c l o)),(1,.rs 6 n g)] [] 0 [],Wo trivial ⟨⟨rfl,rfl,rfl,rfl,rfl,rfl,rfl,rfl,rfl,rfl,rfl,rfl,qW,qW,qQ⟩,qW,qQ⟩ trivial,?_⟩;have v1:mz lo hi k (pn c) (λi=>ab (pg c i)) l=false->PV.val (.bool (aE (λi=>br (ab g i)) n))=PV.val (.bool X):=λh=>by rw [e,hA,h];rfl
  have v2:mz lo hi k (pn c) (λi=>ab (pg c i)) l=true->PV.val (.bool true)=PV.val (.bool X):=λh=>by rw [e,hA,h];rfl
  with_unfolding_all exact⟨hx,λh1=>⟨hg,⟨[],aa [(4,.val (.bool X))] [] 0 [],Wo trivial ⟨v1 h1,qQ⟩ trivial,rfl,rfl⟩⟩,λh1=>⟨[],aa [(4,.val (.bool X))] [] 0 [],Wo trivial ⟨v2 h1,qQ⟩ trivial,rfl,rfl⟩⟩
 ·cases e
def HF:List PV->Option Ans
 |[.agg xs,.rs 6 n g]=>some ⟨some (isRg 140737488355328 xs/\isPL 140737488355328 n g),.val (.bool (rI xs n g)),[]⟩
 |_=>none
def D17:Opt:={  }
theorem HG:am D17.toOrd Tryz.f17 2=true:=by kernel_rfl
theorem f17:FnOk Tryz.prog 17 HF:=by
 refine FnOk.ofW aj (an (l:=[(12,Gl),(58,FK),(65,tI)]) (own:=[]) (inl:=[]) (by simp [f12,f58,CU]) (by simp)) Tryz.func17 D17 2 HG λargs r e=>?_;unfold HF at e;split at e
 ·rename_i xs n g
  cases e;refine⟨by simp,λhm=>?_⟩;obtain⟨⟨h1,hrest⟩,hg⟩:=hm _ rfl;have hx:isRg 140737488355328 xs:=⟨h1,hrest⟩;obtain⟨X,hX⟩:∃X,X=rI xs n g:=⟨_,rfl⟩;rw [<-hX];have e:X=((!gB xs n g&&(rH xs==0))&&!aE (λi=>!ah (ab g i)) n):=hX;clear hX;have p1:(!gB xs n g)=true->isRg 10000 xs:=λh=>by
   have h:gB xs n g=false:=by simpa using h
   unfold gB at h;rw [Bool.or_eq_false_iff] at h;exact(px h.1 hx).mono (by decide)
  have p2:(!gB xs n g)=true->isPL 4294967296 n g:=λh=>by
   have h:gB xs n g=false:=by simpa using h
   unfold gB at h;rw [Bool.or_eq_false_iff] at h;exact(At h.2 hg).mono (by decide)
  have v1:(!gB xs n g)=true->(rH xs==0)=true->PV.val (.bool (!aE (λi=>!ah (ab g i)) n))=PV.val (.bool X):=λh h'=>by rw [e,h,h'];rfl
  have v2:(!gB xs n g)=true->(rH xs==0)=false->PV.val (.bool false)=PV.val (.bool X):=λh h'=>by rw [e,h,h'];rfl
  have v3:(!gB xs n g)=false->PV.val (.bool false)=PV.val (.bool X):=λh=>by rw [e,h];rfl
  clear e;generalize bM xs=lo at *
  generalize bN xs=hi at *
  generalize gK xs=k at *
  generalize gC xs=c at *
  generalize gL xs=l at *
  generalize gO xs=o at *
  subst h1;clear hm;refine⟨[],aa [(0,.agg (bq lo hi k c l o)),(1,.rs 6 n g)] [] 0 [],Wo trivial ⟨⟨rfl,rfl,rfl,rfl,rfl,rfl,rfl,rfl,rfl,rfl,rfl,rfl,qW,qW,qQ⟩,qW,qQ⟩ trivial,?_⟩;with_unfolding_all exact⟨⟨hx,hg⟩,λh1=>⟨p1 h1,λh2=>⟨p2 h1,⟨[],aa [(4,.val (.bool X))] [] 0 [],Wo trivial ⟨v1 h1 h2,qQ⟩ trivial,rfl,rfl⟩⟩,λh2=>⟨[],aa [(4,.val (.bool X))] [] 0 [],Wo trivial ⟨v2 h1 h2,qQ⟩ trivial,rfl,rfl⟩⟩,λh1=>⟨λh=>(nomatch h),λ_=>⟨[],aa [(4,.val (.bool X))] [] 0 [],Wo trivial ⟨v3 h1,qQ⟩ trivial,rfl,rfl⟩⟩⟩
 ·cases e
def HH:List PV->Option Ans
 |[.agg xs,.val v]=>some ⟨some (isRg 10000 xs/\isPk 10000 v),.val (.tuple ⟨[.int .i64 (wq (fF (bM xs) (bN xs) (gK xs) (gC xs) (gL xs) (gO xs) (ar (aN v) (aN v))) (dC (bM xs) (bN xs) (gK xs) (gC xs) (ar (aN v) (aN v)))),.bool (fF (bM xs) (bN xs) (gK xs) (gC xs) (gL xs) (gO xs) (ar (aN v) (aN v))&&!(dC (bM xs) (bN xs) (gK xs) (gC xs) (ar (aN v) (aN v))).isEmpty),.int .i64 (bV (fF (bM xs) (bN xs) (gK xs) (gC xs) (gL xs) (gO xs) (ar (aN v) (aN v))))]⟩),[]⟩
 |_=>none
def D71:Opt:={  }
theorem HI:am D71.toOrd Tryz.f71 2=true:=by kernel_rfl
theorem f71:FnOk Tryz.prog 71 HH:=by
 refine FnOk.ofW aj (an (l:=[(91,Gi)]) (own:=[]) (inl:=[]) (by simp [f91]) (by simp)) Tryz.func71 D71 2 HI λargs r e=>?_;unfold HH at e;split at e
 ·rename_i xs v
  cases e;refine⟨by simp,λhm=>?_⟩;obtain⟨⟨h1,⟨hlo,hhi⟩,hcl,hol⟩,a,rfl,ha⟩:=hm _ rfl;generalize bM xs=lo at *
  generalize bN xs=hi at *
  generalize gK xs=k at *
  generalize gC xs=c at *
  generalize gL xs=l at *
  generalize gO xs=o at *
  subst h1;clear hm;refine⟨[],aa [(0,.agg (bq lo hi k c l o)),(1,.val a.v)] [] 0 [],Wo trivial ⟨⟨rfl,rfl,rfl,rfl,rfl,rfl,rfl,rfl,rfl,rfl,rfl,rfl,qW,qW,qQ⟩,rfl,qQ⟩ trivial,?_⟩;have pre:((lo.le 10000/\hi.le 10000)/\bQ 10000 k (λi=>[.rs 6 (pn c i) (pg c i)])/\cR l (λi=>ag (ow o i)))/\dI 10000 (ar a a):=⟨⟨⟨hlo,hhi⟩,⟨λi hi=>⟨rfl,(hcl.1 i hi).2⟩,hcl.2⟩,λ_ _=>rfl,hol.2⟩,a,a,rfl,ha,ha⟩;obtain⟨OK,hOK⟩:∃OK,OK=fF lo hi k c l o (ar a a):=⟨_,rfl⟩;obtain⟨PC,hPC⟩:∃PC,PC=dC lo hi k c (ar a a):=⟨_,rfl⟩;have e1:fF lo hi k c l o (ar (aN a.v) (aN a.v))=OK:=hOK.symm;have e2:dC lo hi k c (ar (aN a.v) (aN a.v))=PC:=hPC.symm;rw [e1,e2];have e3:fF lo hi k (λi=>[.rs 6 (pn c i) (pg c i)]) l (λi=>ag (ow o i)) (ar a a)=OK:=hOK.symm;have e4:dC lo hi k (λi=>[.rs 6 (pn c i) (pg c i)]) (ar a a)=PC:=hPC.symm;have w1:PV.val (.int .i64 (wq (fF lo hi k (λi=>[.rs 6 (pn c i) (pg c i)]) l (λi=>ag (ow o i)) (ar a a)) (dC lo hi k (λi=>[.rs 6 (pn c i) (pg c i)]) (ar a a))))=PV.val (.int .i64 (wq OK PC)):=by rw [e3,e4]
  have w2:PV.val (.bool (fF lo hi k (λi=>[.rs 6 (pn c i) (pg c i)]) l (λi=>ag (ow o i)) (ar a a)&&!(dC lo hi k (λi=>[.rs 6 (pn c i) (pg c i)]) (ar a a)).isEmpty))=PV.val (.bool (OK&&!PC.isEmpty)):=by rw [e3,e4]
  have w3:PV.val (.int .i64 (bV (fF lo hi k (λi=>[.rs 6 (pn c i) (pg c i)]) l (λi=>ag (ow o i)) (ar a a))))=PV.val (.int .i64 (bV OK)):=by rw [e3]
  clear hOK hPC e1 e2 e3 e4;with_unfolding_all exact⟨pre,[],aa [(4,.val (.int .i64 (wq OK PC))),(5,.val (.bool (OK&&!PC.isEmpty))),(6,.val (.int .i64 (bV OK)))] [] 0 [],Wo trivial ⟨w1,w2,w3,qQ⟩ trivial,rfl,rfl⟩
 ·cases e
def HJ:List PV->Option Ans
 |[.agg xs,.val v]=>some ⟨some (isRg 10000 xs/\isPk 10000 v),.val (.bool (aZ (bM xs) (bN xs) (gK xs) (gC xs) (gL xs) (gO xs) (aN v) (aN v))),[]⟩
 |_=>none
def D26:Opt:={  }
theorem HK:am D26.toOrd Tryz.f26 2=true:=by kernel_rfl
theorem f26:FnOk Tryz.prog 26 HJ:=by
 refine FnOk.ofW aj (an (l:=[(71,HH)]) (own:=[]) (inl:=[]) (by simp [f71]) (by simp)) Tryz.func26 D26 2 HK λargs r e=>?_;unfold HJ at e;split at e
 ·rename_i xs v
  cases e;refine⟨by simp,λhm=>?_⟩;obtain⟨⟨h1,hrest⟩,a,rfl,ha⟩:=hm _ rfl;have hx:isRg 10000 xs:=⟨h1,hrest⟩;have pa:isPk 10000 a.v:=⟨a,rfl,ha⟩;generalize bM xs=lo at *
  generalize bN xs=hi at *
  generalize gK xs=k at *
  generalize gC xs=c at *
  generalize gL xs=l at *
  generalize gO xs=o at *
  subst h1;clear hm;refine⟨[],aa [(0,.agg (bq lo hi k c l o)),(1,.val a.v)] [] 0 [],Wo trivial ⟨⟨rfl,rfl,rfl,rfl,rfl,rfl,rfl,rfl,rfl,rfl,rfl,rfl,qW,qW,qQ⟩,rfl,qQ⟩ trivial,?_⟩;obtain⟨X,hX⟩:∃X,X=aZ lo hi k c l o a a:=⟨_,rfl⟩;have hx2:aZ lo hi k c l o (aN a.v) (aN a.v)=X:=hX.symm;rw [hx2];have v1:(bV (fF lo hi k c l o (ar a a))==0)=true->PV.val (.bool (!(fF lo hi k c l o (ar a a)&&!(dC lo hi k c (ar a a)).isEmpty)))=PV.val (.bool X):=λh=>by
   have h:fF lo hi k c l o (ar a a)=true:=by
    cases hb:fF lo hi k c l o (ar a a) with
    |true=>rfl
    |false =>
     rw [hb] at h;cases h
   rw [hX,aZ,h,Bool.true_and,Bool.true_and,Bool.not_not]
  have v2:(bV (fF lo hi k c l o (ar a a))==0)=false->PV.val (.bool false)=PV.val (.bool X):=λh=>by
   have h:fF lo hi k c l o (ar a a)=false:=by
    cases hb:fF lo hi k c l o (ar a a) with
    |false=>rfl
    |true =>
     rw [hb] at h;cases h
   rw [hX,aZ,h,Bool.false_and]
  with_unfolding_all exact⟨⟨hx,pa⟩,λh1=>⟨[],aa [(4,.val (.bool X))] [] 0 [],Wo trivial ⟨v1 h1,qQ⟩ trivial,rfl,rfl⟩,λh1=>⟨[],aa [(4,.val (.bool X))] [] 0 [],Wo trivial ⟨v2 h1,qQ⟩ trivial,rfl,rfl⟩⟩
 ·cases e
end Go.Proofs
namespace Go.Num
theorem fp {c v:Rat} (h:0 < c*v) (hv:0 < v):0 < c:=by
 rcases Rat.le_total (a:=c) (b:=0) with h1|h1
 ·have:=Rat.mul_nonneg (show 0 <= -c by grind) (show 0<=v by grind)
  grind
 ·by_cases e:c=0
  ·subst e;grind
  ·grind
def wO (a b c x y z:Rat):Rat:=(b - a)*(z - x) - (y - x)*(c - a)
def dt (X Y:Nat->Rat) (i j k:Nat):Rat:=wO (X i) (X j) (X k) (Y i) (Y j) (Y k)
theorem tJ {u1 u2 v1 v2 w1 w2:Rat} (hu:0 < u1\/(u1=0/\0 < u2)) (hv:0 < v1\/(v1=0/\0 < v2)) (hw:0 < w1\/(w1=0/\0 < w2)) (h1:0 < u1*v2 - u2*v1) (h2:0 < v1*w2 - v2*w1):0 < u1*w2 - u2*w1:=by
 have hv1:0 < v1:=by
  rcases hv with h|⟨h,k⟩
  ·exact h
  ·subst h;rcases hw with h3|⟨h3,_⟩
   ·have:=Rat.mul_pos k h3
    grind
   ·subst h3;grind
 have hu1:0 < u1:=by
  rcases hu with h|⟨h,k⟩
  ·exact h
  ·subst h;have:=Rat.mul_pos k hv1
   grind
 have hw1:0<=w1:=by
  rcases hw with h|⟨h,_⟩
  ·grind
  ·grind
 have k1:=Rat.mul_nonneg (Rat.le_of_lt h1) hw1;have k2:=Rat.mul_pos h2 hu1;refine fp (v:=v1) ?_ hv1;have e:(u1*w2 - u2*w1)*v1=(u1*v2 - u2*v1)*w1+(v1*w2 - v2*w1)*u1:=by grind
 rw [e]
 grind
theorem FL (X Y:Nat->Rat) (a b c d:Nat):dt X Y a b d*dt X Y 0 b c=dt X Y a b c*dt X Y 0 b d+dt X Y 0 a b*dt X Y b c d:=by
 unfold dt wO;generalize X 0=x0,X a=xa,X b=xb,X c=xc,X d=xd,Y 0=y0,Y a=ya,Y b=yb,Y c=yc,Y d=yd
 grind
theorem FM (X Y:Nat->Rat) (a b c d:Nat):dt X Y a c d*dt X Y 0 b c=dt X Y a b c*dt X Y 0 c d+dt X Y 0 a c*dt X Y b c d:=by
 unfold dt wO;generalize X 0=x0,X a=xa,X b=xb,X c=xc,X d=xd,Y 0=y0,Y a=ya,Y b=yb,Y c=yc,Y d=yd
 grind
theorem yp (X Y:Nat->Rat) (i j k:Nat):dt X Y j k i=dt X Y i j k:=by
 unfold dt wO;generalize X i=xa,X j=xb,X k=xc,Y i=ya,Y j=yb,Y k=yc
 grind
theorem tK {X Y:Nat->Rat} {n:Nat} (h0:∀i,0 < i->i < n->X 0 < X i\/(X i=X 0/\Y 0 < Y i)) (h1:∀i,i+2 < n->0 < dt X Y i (i+1) (i+2)) (h2:∀i,0 < i->i+1 < n->0 < dt X Y 0 i (i+1)) :
  ∀i j k,i < j->j < k->k < n->0 < dt X Y i j k:=by
 have hH:∀i,0 < i->i < n->0 < X i - X 0\/(X i - X 0=0/\0 < Y i - Y 0):=λi a b=>by
  rcases h0 i a b with h|⟨h,k⟩
  ·exact .inl (by grind)
  ·exact .inr ⟨by grind,by grind⟩
 have fan:∀d i,0 < i->i+1+d < n->0 < dt X Y 0 i (i+1+d):=λd=>by
  induction d with
  |zero=>exactλi a b=>h2 i a b
  |succ d ih =>
   intro i a b;have k1:=ih i a (by omega);have k2:=h2 (i+1+d) (by omega) (by omega);exact tJ (hH i a (by omega)) (hH (i+1+d) (by omega) (by omega)) (hH (i+1+d+1) (by omega) (by omega)) k1 k2
 have fan':∀i j,0 < i->i < j->j < n->0 < dt X Y 0 i j:=λi j a b c=>by
  have:=fan (j - (i+1)) i a (by omega)
  rwa [show i+1+(j - (i+1))=j by omega] at this
 have span:∀m i j k,0 < i->i < j->j < k->k < n->k - i<=m->0 < dt X Y i j k:=λm=>by
  induction m with
  |zero=>intro i j k _ a b _ d;omega
  |succ m ih =>
   intro i j k hi a b c d;by_cases e1:j+1=k
   ·subst e1;by_cases e2:i+1=j
    ·subst e2;exact h1 i (by omega)
    ·have t1:=ih i (i+1) j hi (by omega) (by omega) (by omega) (by omega);have t2:=ih (i+1) j (j+1) (by omega) (by omega) (by omega) (by omega) (by omega);refine fp (v:=dt X Y 0 (i+1) j) ?_ (fan' (i+1) j (by omega) (by omega) (by omega));rw [FM];have s1:=Rat.mul_pos t1 (fan' j (j+1) (by omega) (by omega) (by omega));have s2:=Rat.mul_pos (fan' i j hi a (by omega)) t2
     grind
   ·have t1:=ih i j (k - 1) hi a (by omega) (by omega) (by omega);have t2:=ih j (k - 1) k (by omega) (by omega) (by omega) (by omega) (by omega);refine fp (v:=dt X Y 0 j (k - 1)) ?_ (fan' j (k - 1) (by omega) (by omega) (by omega));rw [FL];have s1:=Rat.mul_pos t1 (fan' j k (by omega) b c);have s2:=Rat.mul_pos (fan' i j hi a (by omega)) t2
    grind
 intro i j k a b c;rcases Nat.eq_zero_or_pos i with rfl|hi
 ·exact fan' j k a b c
 ·exact span (k - i) i j k hi a b c (Nat.le_refl _)
theorem rJ {X Y:Nat->Rat} {n:Nat} (hn:3<=n) (h:∀i j k,i < j->j < k->k < n->0 < dt X Y i j k) {e i:Nat} (he:e < n) (hi:i < n) (h1:i≠e) (h2:i≠(e+1)%n):0 < dt X Y e ((e+1)%n) i:=by
 by_cases hl:e+1 < n
 ·rw [Nat.mod_eq_of_lt hl] at h2 ⊢;rcases Nat.lt_or_ge i e with h3|h3
  ·rw [yp];exact h i e (e+1) h3 (by omega) hl
  ·exact h e (e+1) i (by omega) (by omega) hi
 ·have e1:e+1=n:=by omega
  rw [e1,Nat.mod_self] at h2 ⊢;rw [<-yp];exact h 0 i e (by omega) (by omega) he
theorem fK {a:Rat}:decide (ao a 0<=0)=false↔0 < a:=by
 rw [decide_eq_false_iff_not];unfold ao;split
 ·rename_i h
  exact⟨λk=>absurd (show(-1:Int)<=0 by decide) k,λk=>by grind⟩
 ·split
  ·rename_i h
   exact⟨λ_=>h,λ_=>by decide⟩
  ·rename_i h
   exact⟨λk=>absurd (show(0:Int)<=0 by decide) k,λk=>absurd k h⟩
theorem ef {a:Rat}:decide (ao a 0 > 0)=true↔0 < a:=by
 rw [decide_eq_true_iff];unfold ao;split
 ·rename_i h
  exact⟨λk=>absurd k (by decide),λk=>by grind⟩
 ·split
  ·rename_i h
   exact⟨λ_=>h,λ_=>by decide⟩
  ·rename_i h
   exact⟨λk=>absurd k (by decide),λk=>absurd k h⟩
theorem ks (p:Nat->PtS) (i j k:Nat):jM (p i) (p j) (p k)=ao (dt (λi=>(p i).X) (λi=>(p i).Y) i j k) 0:=by
 unfold jM cE ck;rw [iS,iT,iS,iT];rfl
theorem rK (p:RatS):De p p=true:=by
 have h:∀x:ByteArray,(x==x)=true:=λ⟨x⟩=>by
  show(x==x)=true;exact beq_self_eq_true x
 unfold De;rw [beq_self_eq_true,h,h];rfl
theorem g8 (p:PtS):bW p p=true:=by
 unfold bW;rw [rK,rK];rfl
theorem uP {p u:PtS} (h:bc p u < 0):p.X < u.X\/(u.X=p.X/\p.Y < u.Y):=by
 unfold bc at h;split at h
 ·rename_i h0
  unfold ao at h h0;right;split at h
  ·rename_i h1
   refine⟨?_,h1⟩;split at h0
   ·cases h0
   ·split at h0
    ·cases h0
    ·grind
  ·split at h
   ·exact absurd h (by decide)
   ·exact absurd h (by decide)
 ·unfold ao at h;split at h
  ·rename_i h1
   exact .inl h1
  ·split at h
   ·exact absurd h (by decide)
   ·exact absurd h (by decide)
theorem Av {p u:PtS} (h:p.X < u.X\/(u.X=p.X/\p.Y < u.Y)):¬bc u p<=0:=by
 unfold bc ao;rcases h with h|⟨h,k⟩
 ·have h1:¬u.X < p.X:=by grind
  rw [if_neg h1,if_pos h,if_neg (show ¬(1:Int)=0 by decide)];decide
 ·have h1:¬u.Y < p.Y:=by grind
  rw [h,if_neg Rat.lt_irrefl,if_neg Rat.lt_irrefl,if_pos rfl,if_neg h1,if_pos k];decide
theorem jg {n:Nat} {p:Nat->PtS} (h:bl n p=0):bd n p=0:=by
 unfold bl at h;unfold bd;cases h1:(decide (n < 3)||decide (64 < n)) with
 |true=>rw [h1] at h;cases h
 |false =>
  rw [h1,cond_false] at h;rw [cond_false];cases h2:aE (λi=>!ah (p i)) n with
  |true=>rw [h2] at h;cases h
  |false =>
   rw [h2,cond_false] at h;rw [cond_false];cases h3:aE (wN p) (n - 1) with
   |true=>rw [h3] at h;cases h
   |false =>
    rw [h3,cond_false] at h;cases h4:aE (dw n p) n with
    |true=>rw [h4] at h;cases h
    |false =>
     have hn:3<=n:=by
      rw [Bool.or_eq_false_iff,decide_eq_false_iff_not] at h1;omega
     have k0:∀i,0 < i->i < n->(p 0).X < (p i).X\/((p i).X=(p 0).X/\(p 0).Y < (p i).Y):=λi a b=>by
      have:=(az.1 h3) (i - 1) (by omega);unfold wN at this;rw [decide_eq_false_iff_not,show 1+(i - 1)=i by omega] at this;exact uP (by omega)
     have k1:∀i,i+2 < n->0 < dt (λi=>(p i).X) (λi=>(p i).Y) i (i+1) (i+2):=λi a=>by
      have:=(az.1 h4) i (by omega);unfold dw at this;rw [Bool.or_eq_false_iff,Nat.mod_eq_of_lt (by omega),Nat.mod_eq_of_lt (by omega),ks] at this;exact fK.1 this.1
     have k2:∀i,0 < i->i+1 < n->0 < dt (λi=>(p i).X) (λi=>(p i).Y) 0 i (i+1):=λi a b=>by
      have:=(az.1 h4) i (by omega);unfold dw at this;rw [Bool.or_eq_false_iff,decide_eq_true a,decide_eq_true b,Bool.true_and,Bool.true_and,ks p 0 i (i+1)] at this;exact fK.1 this.2
     have hall:=tK (X:=λi=>(p i).X) (Y:=λi=>(p i).Y) (n:=n) k0 k1 k2;rw [az.2 λi hi=>?_,cond_false,az.2 λe he=>az.2 λi hi=>?_]
     ·rfl
     ·unfold dp;by_cases e1:i=e
      ·rw [e1,g8];rfl
      ·by_cases e2:i=(e+1)%n
       ·rw [<-e2,g8,Bool.not_true,Bool.and_false];rfl
       ·rw [ks p e ((e+1)%n) i,fK.2 (rJ hn hall he hi e1 e2),Bool.and_false]
     ·unfold mO;exact decide_eq_false (Av (k0 (1+i) (by omega) (by omega)))
theorem kQ {r r':Nat->Int}:∀{k i:Nat},(∀j,i<=j->j < i+k->r j=0->r' j=0)->bJ r k i=0->bJ r' k i=0
 |0,_,_,_=>rfl
 |k+1,i,h,e=>by
  unfold bJ at e ⊢;cases h0:(r i==0) with
  |true =>
   rw [h0,cond_true] at e;rw [h i (Nat.le_refl _) (by omega) (eq_of_beq h0)];exact kQ (λj a b=>h j (by omega) (by omega)) e
  |false =>
   rw [h0,cond_false] at e;rw [e] at h0;cases h0
theorem iw {lo hi:PtS} {k:Nat} {n:Nat->Nat} {r r':Nat->Int} {l:Nat} {q:Nat->Int×Int×Int} (h:∀j,j < k->r j=0->r' j=0) (e:eE lo hi k n r l q=0):eE lo hi k n r' l q=0:=by
 unfold eE at e ⊢;cases h1:(!ah lo||!ah hi) with
 |true=>rw [h1] at e;cases e
 |false =>
  rw [h1,cond_false] at e;cases h2:decide (32 < k) with
  |true=>rw [h2] at e;cases e
  |false =>
   rw [h2,cond_false] at e;have hz:bJ r k 0=0:=by
    cases h3:(bJ r k 0==0) with
    |true=>exact eq_of_beq h3
    |false=>rw [h3] at e;exact e
   rw [hz] at e;rw [kQ (λj _ b=>h j (by omega)) hz];exact e
theorem Aw {xs:List PV} (h:rH xs=0):bS (bM xs) (bN xs) (gK xs) (pn (gC xs)) (λi=>ab (pg (gC xs) i)) (gL xs) (ow (gO xs))=0:=by
 rw [tF];exact iw (λj _ hj=>jg hj) h
def Hit (n:Nat) (A B:Nat->Rat):Prop:=∃t:Rat,0 < t/\t < 1/\∀e,e < n->0 < A e+(B e - A e)*t
theorem Hit.symm {n:Nat} {A B:Nat->Rat} (h:Hit n A B):Hit n B A:=by
 obtain⟨t,h1,h2,h3⟩:=h;refine⟨1 - t,by grind,by grind,λe he=>?_⟩;have:=h3 e he
 grind
theorem yq {A B:Rat} (h:0 < A):∃t:Rat,0 < t/\t < 1/\∀s:Rat,0 < s->s<=t->0 < A+(B - A)*s:=by
 by_cases hB:0<=B
 ·refine⟨1 / 2,by grind,by grind,λs h1 h2=>?_⟩;have k1:=Rat.mul_nonneg hB (Rat.le_of_lt h1);have k2:=Rat.mul_pos h (show 0 < 1 - s by grind)
  grind
 ·have hd:0 < A - B:=by grind
  have hi:0 < (A - B)⁻¹:=Rat.inv_pos.2 hd;have e:(A - B)*(A - B)⁻¹ = 1:=Rat.mul_inv_cancel _ (by grind);have k0:=Rat.mul_pos h hi;have k1:A*(A - B)⁻¹ < 1:=by
   have:=Rat.mul_pos (show 0 < -B by grind) hi
   grind
  refine⟨A*(A - B)⁻¹*(1 / 2),by grind,by grind,λs h1 h2=>?_⟩;have k2:=Rat.mul_nonneg (Rat.le_of_lt hd) (show 0<=A*(A - B)⁻¹*(1 / 2) - s by grind);have k3:(A - B)*(A*(A - B)⁻¹*(1 / 2) - s)=A*(1 / 2) - (A - B)*s:=by
   have:(A - B)*(A*(A - B)⁻¹*(1 / 2))=A*(1 / 2)*((A - B)*(A - B)⁻¹):=by grind
   grind
  grind
theorem rL {A B:Nat->Rat}:∀{n:Nat},(∀e,e < n->0 < A e)->∃t:Rat,0 < t/\t < 1/\∀e,e < n->∀s:Rat,0 < s->s<=t->0 < A e+(B e - A e)*s
 |0,_=>⟨1 / 2,by grind,by grind,λe he=>absurd he (Nat.not_lt_zero e)⟩
 |n+1,h=>by
  obtain⟨t,h1,h2,h3⟩:=rL (A:=A) (B:=B) (n:=n) λe he=>h e (by omega);obtain⟨u,k1,k2,k3⟩:=yq (B:=B n) (h n (by omega));refine⟨if t<=u then t else u,by split<;>assumption,by split<;>assumption,λe he s hs hst=>?_⟩;by_cases hen:e=n
  ·subst hen;exact k3 s hs (by split at hst<;>grind)
  ·exact h3 e (by omega) s hs (by split at hst<;>grind)
theorem Hit.near {n:Nat} {A B:Nat->Rat} (h:∀e,e < n->0 < A e):Hit n A B:=by
 obtain⟨t,h1,h2,h3⟩:=rL (A:=A) (B:=B) h;exact⟨t,h1,h2,λe he=>h3 e he t h1 Rat.le_refl⟩
theorem Hit.part {n:Nat} {A B C:Nat->Rat} {q:Rat} (h:¬Hit n A B) (h0:0<=q) (h1:q<=1) (hC:∀e,e < n->C e=A e+(B e - A e)*q):¬Hit n A C:=by
 rintro ⟨t,k0,k1,k2⟩;refine h ?_;by_cases hq:q=0
 ·refine Hit.near λe he=>?_;have:=k2 e he;rw [hC e he,hq] at this
  grind
 ·have hq':0 < q:=by grind
  refine⟨q*t,Rat.mul_pos hq' k0,?_,λe he=>?_⟩
  ·have:=Rat.mul_pos hq' (show 0 < 1 - t by grind)
   grind
  ·have:=k2 e he;rw [hC e he] at this
   grind
theorem tL {x y:Rat} {s:Rat×Rat} (h:gz x y s=none) {t:Rat} (h0:0 < t) (h1:t < 1):¬0 < x+(y - x)*t:=by
 unfold gz at h;cases c1:decide (ao x 0 > 0) with
 |true =>
  rw [c1] at h;cases c2:decide (ao y 0 > 0) with
  |true=>rw [c2] at h;cases h
  |false=>rw [c2] at h;cases h
 |false =>
  cases c2:decide (ao y 0 > 0) with
  |true=>rw [c1,c2] at h;cases h
  |false =>
   have e1:¬0 < x:=λk=>by rw [ef.2 k] at c1;cases c1
   have e2:¬0 < y:=λk=>by rw [ef.2 k] at c2;cases c2
   have k1:=Rat.mul_nonneg (show 0 <= -x by grind) (show 0<=1 - t by grind);have k2:=Rat.mul_nonneg (show 0 <= -y by grind) (Rat.le_of_lt h0)
   grind
theorem jR {a b:Rat}:decide (ao a b > 0)=true↔b < a:=by
 rw [decide_eq_true_iff];unfold ao;split
 ·rename_i h
  exact⟨λk=>absurd k (by decide),λk=>by grind⟩
 ·split
  ·rename_i h
   exact⟨λ_=>h,λ_=>by decide⟩
  ·rename_i h
   exact⟨λk=>absurd k (by decide),λk=>absurd k h⟩
theorem f8 {a b:Rat}:decide (ao a b < 0)=true↔a < b:=by
 rw [decide_eq_true_iff];unfold ao;split
 ·rename_i h
  exact⟨λ_=>h,λ_=>by decide⟩
 ·split
  ·rename_i h h2
   exact⟨λk=>absurd k (by decide),λk=>absurd k h⟩
  ·rename_i h h2
   exact⟨λk=>absurd k (by decide),λk=>absurd k h⟩
theorem rM {x y t:Rat} (h:0 < x - y):t < x / (x - y)↔0 < x+(y - x)*t:=by
 have hi:0 < (x - y)⁻¹:=Rat.inv_pos.2 h;have e:(x - y)*(x - y)⁻¹ = 1:=Rat.mul_inv_cancel _ (by grind);rw [Rat.div_def];constructor
 ·intro k;have:=Rat.mul_pos (show 0 < x*(x - y)⁻¹ - t by grind) h;have e2:(x*(x - y)⁻¹ - t)*(x - y)=x*((x - y)*(x - y)⁻¹) - t*(x - y):=by grind
  rw [e2,e] at this
  grind
 ·intro k;have:=Rat.mul_pos k hi;have e2:(x+(y - x)*t)*(x - y)⁻¹ = x*(x - y)⁻¹ - t*((x - y)*(x - y)⁻¹):=by grind
  rw [e2,e] at this
  grind
theorem rO {x y t:Rat} (h:x - y < 0):x / (x - y) < t↔0 < x+(y - x)*t:=by
 have hd:0 < y - x:=by grind
 have hi:0 < (y - x)⁻¹:=Rat.inv_pos.2 hd;have e:(y - x)*(y - x)⁻¹ = 1:=Rat.mul_inv_cancel _ (by grind);have e0:x / (x - y) = -x*(y - x)⁻¹:=by
  rw [Rat.div_def];have n1:(x - y)*(x - y)⁻¹ = 1:=Rat.mul_inv_cancel _ (by grind);have:(x - y)⁻¹ = -(y - x)⁻¹:=by
   have k:(x - y)⁻¹*((y - x)*(y - x)⁻¹)=(x - y)⁻¹:=by rw [e,Rat.mul_one]
   have k2:(x - y)⁻¹*((y - x)*(y - x)⁻¹) = -((x - y)*(x - y)⁻¹)*(y - x)⁻¹:=by grind
   rw [n1] at k2
   grind
  rw [this]
  grind
 rw [e0];constructor
 ·intro k;have:=Rat.mul_pos (show 0 < t - -x*(y - x)⁻¹ by grind) hd;have e2:(t - -x*(y - x)⁻¹)*(y - x)=t*(y - x)+x*((y - x)*(y - x)⁻¹):=by grind
  rw [e2,e] at this
  grind
 ·intro k;have:=Rat.mul_pos k hi;have e2:(x+(y - x)*t)*(y - x)⁻¹ = x*(y - x)⁻¹+t*((y - x)*(y - x)⁻¹):=by grind
  rw [e2,e] at this
  grind
theorem mA {x y:Rat} {s s':Rat×Rat} (h:gz x y s=some s'):(s.1<=s'.1/\s'.2<=s.2)/\∀t:Rat,0 < t->t < 1->(s'.1 < t/\t < s'.2↔(s.1 < t/\t < s.2)/\0 < x+(y - x)*t):=by
 unfold gz at h;cases c1:decide (ao x 0 > 0) with
 |true =>
  have e1:=ef.1 c1;rw [c1] at h;cases c2:decide (ao y 0 > 0) with
  |true =>
   have e2:=ef.1 c2;rw [c2] at h;cases h;refine⟨⟨Rat.le_refl,Rat.le_refl⟩,λt h0 h1=>⟨λk=>⟨k,?_⟩,λk=>k.1⟩⟩;have k1:=Rat.mul_pos e1 (show 0 < 1 - t by grind);have k2:=Rat.mul_pos e2 h0
   grind
  |false =>
   have e2:¬0 < y:=λk=>by rw [ef.2 k] at c2;cases c2
   rw [c2] at h;have hl:=λt=>rM (x:=x) (y:=y) (t:=t) (by grind);cases c3:decide (ao (x / (x - y)) s.2 < 0) with
   |true =>
    have e3:=f8.1 c3;rw [c3] at h;cases h;refine⟨⟨Rat.le_refl,Rat.le_of_lt e3⟩,λt h0 h1=>⟨λk=>⟨⟨k.1,?_⟩,(hl t).1 k.2⟩,λk=>⟨k.1.1,(hl t).2 k.2⟩⟩⟩;have:t < x / (x - y):=k.2
    grind
   |false =>
    have e3:¬x / (x - y) < s.2:=λk=>by rw [f8.2 k] at c3;cases c3
    rw [c3] at h;cases h;refine⟨⟨Rat.le_refl,Rat.le_refl⟩,λt h0 h1=>⟨λk=>⟨k,(hl t).1 ?_⟩,λk=>k.1⟩⟩;have:t < s.2:=k.2
    grind
 |false =>
  have e1:¬0 < x:=λk=>by rw [ef.2 k] at c1;cases c1
  rw [c1] at h;cases c2:decide (ao y 0 > 0) with
  |false=>rw [c2] at h;cases h
  |true =>
   have e2:=ef.1 c2;rw [c2] at h;have hl:=λt=>rO (x:=x) (y:=y) (t:=t) (by grind);cases c3:decide (ao (x / (x - y)) s.1 > 0) with
   |true =>
    have e3:=jR.1 c3;rw [c3] at h;cases h;refine⟨⟨Rat.le_of_lt e3,Rat.le_refl⟩,λt h0 h1=>⟨λk=>⟨⟨?_,k.2⟩,(hl t).1 k.1⟩,λk=>⟨(hl t).2 k.2,k.1.2⟩⟩⟩;have:x / (x - y) < t:=k.1
    grind
   |false =>
    have e3:¬s.1 < x / (x - y):=λk=>by rw [jR.2 k] at c3;cases c3
    rw [c3] at h;cases h;refine⟨⟨Rat.le_refl,Rat.le_refl⟩,λt h0 h1=>⟨λk=>⟨k,(hl t).1 ?_⟩,λk=>k.1⟩⟩;have:s.1 < t:=k.1
    grind
def fu (n:Nat) (p:Nat->PtS) (a:PtS) (e:Nat):Rat:=po (p e) (p ((e+1)%n)) a
theorem mB {n:Nat} {p:Nat->PtS} {a b:PtS}:∀{k e:Nat} {s:Rat×Rat},du n p a b k e s=none->∀t:Rat,0 < t->t < 1->¬((s.1 < t/\t < s.2)/\∀i,e<=i->i < e+k->0 < fu n p a i+(fu n p b i - fu n p a i)*t)
 |0,_,_,h=>by cases h
 |k+1,e,s,h=>by
  intro t h0 h1 ⟨hs,hg⟩;unfold du at h;cases hst:gz (po (p e) (p ((e+1)%n)) a) (po (p e) (p ((e+1)%n)) b) s with
  |none=>exact tL hst h0 h1 (hg e (Nat.le_refl _) (by omega))
  |some s' =>
   rw [hst] at h;exact mB h t h0 h1 ⟨((mA hst).2 t h0 h1).2 ⟨hs,hg e (Nat.le_refl _) (by omega)⟩,λi a b=>hg i (by omega) (by omega)⟩
theorem mC {n:Nat} {p:Nat->PtS} {a b:PtS}:∀{k e:Nat} {s s':Rat×Rat},du n p a b k e s=some s'->(s.1<=s'.1/\s'.2<=s.2)/\∀t:Rat,0 < t->t < 1->(s'.1 < t/\t < s'.2↔(s.1 < t/\t < s.2)/\∀i,e<=i->i < e+k->0 < fu n p a i+(fu n p b i - fu n p a i)*t)
 |0,_,_,_,h=>by
  cases h;exact⟨⟨Rat.le_refl,Rat.le_refl⟩,λt _ _=>⟨λk=>⟨k,λi a b=>by omega⟩,λk=>k.1⟩⟩
 |k+1,e,s,s',h=>by
  unfold du at h;cases hst:gz (po (p e) (p ((e+1)%n)) a) (po (p e) (p ((e+1)%n)) b) s with
  |none=>rw [hst] at h;cases h
  |some s1 =>
   rw [hst] at h;obtain⟨k1,k2⟩:=mA hst;obtain⟨k3,k4⟩:=mC h;refine⟨⟨Rat.le_trans k1.1 k3.1,Rat.le_trans k3.2 k1.2⟩,λt h0 h1=>?_⟩;rw [k4 t h0 h1,k2 t h0 h1];constructor
   ·rintro ⟨⟨u,v⟩,w⟩;refine⟨u,λi x y=>?_⟩;by_cases hi:i=e
    ·subst hi;exact v
    ·exact w i (by omega) (by omega)
   ·rintro ⟨u,w⟩;exact⟨⟨u,w e (Nat.le_refl _) (by omega)⟩,λi x y=>w i (by omega) (by omega)⟩
theorem wz {n:Nat} {p:Nat->PtS} {a b:PtS} (hB:gA n p a b=false):c8 n p a b=none↔¬Hit n (fu n p a) (fu n p b):=by
 unfold c8;rw [hB,cond_false,Rat.zero_mkRat,show mkRat 1 1=(1:Rat) by rfl];cases hF:du n p a b n 0 (0,1) with
 |none =>
  refine⟨λ_=>?_,λ_=>rfl⟩;rintro ⟨t,h0,h1,h2⟩;exact mB hF t h0 h1 ⟨⟨h0,h1⟩,λi _ hi=>h2 i (by omega)⟩
 |some s =>
  obtain⟨⟨k1,k2⟩,k3⟩:=mC hF;have k1:0<=s.1:=k1;have k2:s.2<=1:=k2;cases hc:decide (ao s.1 s.2>=0) with
  |true =>
   refine⟨λ_=>?_,λ_=>by simp only [Option.bind_some,hc,cond_true]⟩;rintro ⟨t,h0,h1,h2⟩;have:=(k3 t h0 h1).2 ⟨⟨h0,h1⟩,λi _ hi=>h2 i (by omega)⟩;have hlt:s.1 < s.2:=by grind
   have hc:ao s.1 s.2>=0:=of_decide_eq_true hc;unfold ao at hc;rw [if_pos hlt] at hc;exact absurd hc (by decide)
  |false =>
   have hlt:s.1 < s.2:=by
    have hc:¬ao s.1 s.2>=0:=of_decide_eq_false hc;unfold ao at hc;split at hc
    ·rename_i h
     exact h
    ·split at hc
     ·exact absurd (show(1:Int)>=0 by decide) hc
     ·exact absurd (show(0:Int)>=0 by decide) hc
   constructor
   ·intro h;simp only [Option.bind_some,hc,cond_false] at h;cases h
   ·intro h;refine absurd ?_ h;have m0:0 < (s.1+s.2)*(1 / 2):=by grind
    have m1:(s.1+s.2)*(1 / 2) < 1:=by grind
    exact⟨(s.1+s.2)*(1 / 2),m0,m1,λe he=>((k3 _ m0 m1).1 ⟨by grind,by grind⟩).2 e (Nat.zero_le _) (by omega)⟩
theorem CV {n:Nat} {p:Nat->PtS} {a b c:PtS} {q:Rat} (hx:c.X=a.X+(b.X - a.X)*q) (hy:c.Y=a.Y+(b.Y - a.Y)*q) (e:Nat):fu n p c e=fu n p a e+(fu n p b e - fu n p a e)*q:=by
 unfold fu po cE ck;simp only [iS,iT];rw [hx,hy]
 grind
theorem Ax {i:Nat} {lo hi a b c:PtS} {q:Rat} (hx:c.X=a.X+(b.X - a.X)*q) (hy:c.Y=a.Y+(b.Y - a.Y)*q):aK i lo hi c=aK i lo hi a+(aK i lo hi b - aK i lo hi a)*q:=by
 unfold aK;split
 ·rw [hx];grind
 ·rw [hx];grind
 ·rw [hy];grind
 ·rw [hy];grind
structure SeeM (lo hi:PtS) (k:Nat) (c:Nat->List PV) (a b:PtS):Prop where
 inA:∀i,i < 4->aK i lo hi a<=0
 inB:∀i,i < 4->aK i lo hi b<=0
 clear:∀i,i < k->¬Hit (pn c i) (fu (pn c i) (ab (pg c i)) a) (fu (pn c i) (ab (pg c i)) b)
theorem SeeM.symm {lo hi:PtS} {k:Nat} {c:Nat->List PV} {a b:PtS} (h:SeeM lo hi k c a b):SeeM lo hi k c b a :=
 ⟨h.inB,h.inA,λi hi k=>h.clear i hi k.symm⟩
theorem SeeM.part {lo hi:PtS} {k:Nat} {c:Nat->List PV} {a b d:PtS} (h:SeeM lo hi k c a b) {q:Rat} (h0:0<=q) (h1:q<=1) (hx:d.X=a.X+(b.X - a.X)*q) (hy:d.Y=a.Y+(b.Y - a.Y)*q):SeeM lo hi k c a d:=by
 refine⟨h.inA,λi h4=>?_,λi hi=>Hit.part (h.clear i hi) h0 h1 λe _=>CV hx hy e⟩;rw [Ax hx hy];have k1:=h.inA i h4;have k2:=h.inB i h4;have k3:=Rat.mul_nonneg (show 0 <= -aK i lo hi a by grind) (show 0<=1 - q by grind);have k4:=Rat.mul_nonneg (show 0 <= -aK i lo hi b by grind) h0
 grind
theorem SeeM.self {lo hi:PtS} {k:Nat} {c:Nat->List PV} {a b:PtS} (h:SeeM lo hi k c a b):SeeM lo hi k c a a :=
 h.part (q:=0) Rat.le_refl (by grind) (by grind) (by grind)
theorem mD {lo hi:PtS} {n:Nat->Nat} {p:Nat->Nat->PtS} {a b:PtS}:∀{j:Nat},aF lo hi n p a b j=[]↔∀i,i < j->(if i < 4 then dJ i lo hi a b else rr (i - 4) (n (i - 4)) (p (i - 4)) a b)=[]
 |0=>⟨λ_ i hi=>absurd hi (Nat.not_lt_zero i),λ_=>rfl⟩
 |j+1=>by
  rw [aF,List.append_eq_nil_iff,mD];constructor
  ·rintro ⟨h1,h2⟩ i hi;by_cases e:i=j
   ·rw [e];exact h2
   ·exact h1 i (by omega)
  ·intro h;exact⟨λi hi=>h i (by omega),h j (by omega)⟩
theorem rP {i:Nat} {lo hi a b:PtS}:dJ i lo hi a b=[]↔aK i lo hi a<=0/\aK i lo hi b<=0:=by
 have hq:∀x:Rat,decide (ao x 0<=0)=true↔x<=0:=λx=>by
  cases h:decide (ao x 0<=0) with
  |false =>
   have:=fK.1 h;exact⟨λk=>(by cases k),λk=>by grind⟩
  |true =>
   refine⟨λ_=>?_,λ_=>rfl⟩;by_cases hx:0 < x
   ·rw [fK.2 hx] at h;cases h
   ·grind
 unfold dJ;cases h:(decide (ao (aK i lo hi a) 0<=0)&&decide (ao (aK i lo hi b) 0<=0)) with
 |true =>
  rw [Bool.and_eq_true,hq,hq] at h;exact⟨λ_=>h,λ_=>rfl⟩
 |false =>
  refine⟨λk=>(by cases k),λk=>?_⟩;rw [(hq _).2 k.1,(hq _).2 k.2] at h;cases h
theorem rQ {i n:Nat} {p:Nat->PtS} {a b:PtS} (hB:gA n p a b=false):rr i n p a b=[]↔¬Hit n (fu n p a) (fu n p b):=by
 rw [<-wz hB];unfold rr;cases c8 n p a b with
 |none=>exact⟨λ_=>rfl,λ_=>rfl⟩
 |some s=>exact⟨λk=>(by cases k),λk=>by cases k⟩
theorem iz {lo hi:PtS} {k:Nat} {n:Nat->Nat} {p:Nat->Nat->PtS} {l:Nat} {q:Nat->Int×Int×Int} (h:bS lo hi k n p l q=0):∀i,i < k->bd (n i) (p i)=0:=by
 have hf:∀{r:Nat->Int} {k i:Nat},bJ r k i=0->∀j,i<=j->j < i+k->r j=0:=λ{r k}=>by
  induction k with
  |zero=>intro i _ j a b;omega
  |succ k ih =>
   intro i h j a b;unfold bJ at h;cases h0:(r i==0) with
   |true =>
    rw [h0,cond_true] at h;by_cases e:j=i
    ·rw [e];exact eq_of_beq h0
    ·exact ih h j (by omega) (by omega)
   |false =>
    rw [h0,cond_false] at h;rw [h] at h0;cases h0
 intro i hik;unfold bS at h;cases h1:(!ah lo||!ah hi) with
 |true=>rw [h1] at h;cases h
 |false =>
  rw [h1,cond_false] at h;cases h2:decide (32 < k) with
  |true=>rw [h2] at h;cases h
  |false =>
   rw [h2,cond_false] at h;have hz:bJ (λi=>bd (n i) (p i)) k 0=0:=by
    cases h3:(bJ (λi=>bd (n i) (p i)) k 0==0) with
    |true=>exact eq_of_beq h3
    |false=>rw [h3] at h;exact h
   exact hf hz i (Nat.zero_le _) (by omega)
theorem dx {lo hi:PtS} {k:Nat} {c:Nat->List PV} {l:Nat} {o:Nat->List PV} {a b:PtS} (hr:bS lo hi k (pn c) (λi=>ab (pg c i)) l (ow o)=0) (ha:ah a=true) (hb:ah b=true):aZ lo hi k c l o a b=true↔SeeM lo hi k c a b:=by
 have ok:fF lo hi k c l o (ar a b)=true:=by
  show(!(!ah a||!ah b)&&(bS lo hi k (pn c) (λi=>ab (pg c i)) l (ow o)==0))=true;rw [ha,hb,hr];rfl
 have hB:∀i,i < k->gA (pn c i) (ab (pg c i)) a b=false:=λi hi=>by
  unfold gA;rw [iz hr i hi,ha,hb];rfl
 unfold aZ;rw [ok,Bool.true_and,List.isEmpty_iff];show aF lo hi (pn c) (λi=>ab (pg c i)) a b (k+4)=[]↔_;rw [mD];constructor
 ·intro h;have h4:∀i,i < 4->aK i lo hi a<=0/\aK i lo hi b<=0:=λi hi=>by
   have:=h i (by omega);rw [if_pos hi] at this;exact rP.1 this
  refine⟨λi hi=>(h4 i hi).1,λi hi=>(h4 i hi).2,λi hi=>?_⟩;have:=h (i+4) (by omega);rw [if_neg (by omega),Nat.add_sub_cancel] at this;exact(rQ (hB i hi)).1 this
 ·intro h i hi;split
  ·rename_i h4
   exact rP.2 ⟨h.inA i h4,h.inB i h4⟩
  ·rename_i h4
   exact(rQ (hB (i - 4) (by omega))).2 (h.clear (i - 4) (by omega))
end Go.Num
namespace Go.Proofs
def FN:List PV->Option Ans
 |[.agg xs,.val v,.val u]=>some ⟨some (isRg 10000 xs/\isPk 10000 v/\isPk 10000 u),.val (.tuple ⟨[.bool (aZ (bM xs) (bN xs) (gK xs) (gC xs) (gL xs) (gO xs) (aN v) (aN u)),.int .i64 (bV (fF (bM xs) (bN xs) (gK xs) (gC xs) (gL xs) (gO xs) (ar (aN v) (aN u))))]⟩),[]⟩
 |_=>none
theorem HL:am {} Tryz.f21 3=true:=by kernel_rfl
theorem f21:FnOk Tryz.prog 21 FN:=by
 refine FnOk.ofW aj (an (l:=[(55,Fk),(56,Fw)]) (own:=[]) (inl:=[]) (by simp [f55,f56]) (by simp)) Tryz.func21 {} 3 HL λargs r e=>?_;unfold FN at e;split at e
 ·rename_i xs v u
  cases e;refine⟨by simp,λhm=>?_⟩;obtain⟨⟨h1,⟨hlo,hhi⟩,hcl,hol⟩,⟨a,rfl,ha⟩,b,rfl,hb⟩:=hm _ rfl;generalize bM xs=lo at *
  generalize bN xs=hi at *
  generalize gK xs=k at *
  generalize gC xs=c at *
  generalize gL xs=l at *
  generalize gO xs=o at *
  subst h1;clear hm;refine⟨[],aa [(0,.agg (bq lo hi k c l o)),(1,.val a.v),(2,.val b.v)] [] 0 [],Wo trivial ⟨⟨rfl,rfl,rfl,rfl,rfl,rfl,rfl,rfl,rfl,rfl,rfl,rfl,qW,qW,qQ⟩,rfl,rfl,qQ⟩ trivial,?_⟩;have hrg:((lo.le 4294967296/\hi.le 4294967296)/\bQ 10000 k c/\cR l o):=⟨⟨hlo.mono (by decide),hhi.mono (by decide)⟩,hcl,hol⟩;have hrg2:((lo.le 10000/\hi.le 10000)/\bQ 10000 k c/\cR l o):=⟨⟨hlo,hhi⟩,hcl,hol⟩;have ha':=ha.mono (show 10000<=4294967296 by decide);have hb':=hb.mono (show 10000<=4294967296 by decide);obtain⟨S,hS⟩:∃S,S=aZ lo hi k c l o a b:=⟨_,rfl⟩;have hv:aZ lo hi k c l o (aN a.v) (aN b.v)=S:=hS.symm;rw [hv];obtain⟨OK,hOK⟩:∃OK,OK=fF lo hi k c l o (ar a b):=⟨_,rfl⟩;have hw:fF lo hi k c l o (ar (aN a.v) (aN b.v))=OK:=hOK.symm;rw [hw];have cn:∀r:Nat->List PV,ab r 0=a->ab r 1=b->aE (λi=>!ah (ab r i)) 2=(!ah a||!ah b):=λr h h'=>by
   have e:List.range 2=[0,1]:=rfl;simp only [aE,e,List.any_cons,List.any_nil,Bool.or_false,h,h']
  have p2:∀r:Nat->List PV,r 0=a.cells->r 1=b.cells->isPL 4294967296 2 r:=λr h h'=>⟨λi hi=>by
   match i,hi with
   |0,_=>exact⟨by rw [ab,h];rfl,by rw [ab,h];exact ha'⟩
   |1,_=>exact⟨by rw [ab,h'];rfl,by rw [ab,h'];exact hb'⟩
   |i+2,h=>omega,by decide⟩
  have q1:∀r:Nat->List PV,ab r 0=a->ab r 1=b->((bS lo hi k (pn (λi=>[.rs 6 (pn c i) (pg c i)])) (λi=>ab (pg (λi=>[.rs 6 (pn c i) (pg c i)]) i)) l (ow (λi=>ag (ow o i)))==0)&&!aE (λi=>!ah (ab r i)) 2)=OK:=λr h h'=>by
   rw [cn r h h',hOK,Bool.and_comm];rfl
  have z:∀B:Bool,(bV B != 0)=true->B=false:=λB h=>by cases B<;>first|rfl|cases h
  have z':∀B:Bool,(bV B != 0)=false->B=true:=λB h=>by cases B<;>first|rfl|cases h
  have s0:OK=false->S=false:=λh=>by
   rw [hS,aZ,<-hOK,h];rfl
  have hrg':((lo.le 4294967296/\hi.le 4294967296)/\bQ 10000 k (λi=>[.rs 6 (pn c i) (pg c i)])/\cR l (λi=>ag (ow o i))):=⟨hrg.1,⟨λi hi=>⟨rfl,(hcl.1 i hi).2⟩,hcl.2⟩,λ_ _=>rfl,hol.2⟩;have hrg3:((lo.le 10000/\hi.le 10000)/\bQ 10000 k (λi=>[.rs 6 (pn c i) (pg c i)])/\cR l (λi=>ag (ow o i))):=⟨hrg2.1,hrg'.2⟩;have v5:PV.val (.bool (aZ lo hi k (λi=>[.rs 6 (pn c i) (pg c i)]) l (λi=>ag (ow o i)) (aN a.v) (aN b.v)))=PV.val (.bool S):=by
   rw [hS];rfl
  with_unfolding_all refine⟨⟨hrg',p2 _ rfl rfl⟩,λh1=>?_,λh1=>?_⟩
  ·have h2:OK=false:=(q1 _ rfl rfl).symm.trans (z _ h1);have v1:PV.val (.bool false)=PV.val (.bool S):=by rw [s0 h2]
   have v2:∀B,B=OK->PV.val (.int .i64 (bV B))=PV.val (.int .i64 (bV OK)):=λB h=>by rw [h]
   with_unfolding_all exact⟨[],aa [(6,.val (.bool S)),(7,.val (.int .i64 (bV OK)))] [] 0 [],Wo trivial ⟨v1,v2 _ (q1 _ rfl rfl),qQ⟩ trivial,rfl,rfl⟩
  ·have h2:OK=true:=(q1 _ rfl rfl).symm.trans (z' _ h1);have v3:PV.val (.int .i64 0)=PV.val (.int .i64 (bV OK)):=by rw [h2];rfl
   with_unfolding_all exact⟨⟨hrg3,⟨a,rfl,ha⟩,b,rfl,hb⟩,[],aa [(6,.val (.bool S)),(7,.val (.int .i64 (bV OK)))] [] 0 [],Wo trivial ⟨v5,v3,qQ⟩ trivial,rfl,rfl⟩
 ·cases e
end Go.Proofs
namespace Go.Num
def qL (L:List (Int×Int)) (i:Nat):Int×Int:=(L[i]?).getD (0,0)
theorem A7 {L:List (Int×Int)} {x:Int×Int} {r:Nat->List PV} (h:r 0=aM x):∀i,i < L.length+1->aM (qL (L++[x]) i)=iB L.length (λi=>aM (qL L i)) r i:=λi hi=>by
 unfold iB qL;by_cases hl:i < L.length
 ·rw [if_pos hl,List.getElem?_append_left hl]
 ·obtain rfl:i=L.length:=by omega
  rw [if_neg hl,Nat.sub_self,h];simp
def dR (T:Int->Int->Bool) (q:Nat->Int×Int):Nat->List (Int×Int)
 |0=>[]
 |j+1=>dR T q j++(bif T (q j).1 (q j).2&&T (q j).2 (q j).1 then [q j] else [])
theorem uQ (T:Int->Int->Bool) (q:Nat->Int×Int):∀j,(dR T q j).length<=j
 |0=>Nat.le_refl _
 |j+1=>by
  have:=uQ T q j;unfold dR;rw [List.length_append];cases (T (q j).1 (q j).2&&T (q j).2 (q j).1)<;>simp<;>omega
def Dg (lo hi:PtS) (k:Nat) (c:Nat->List PV) (l:Nat) (o:Nat->List PV) (n:Nat) (g:Nat->List PV) (m:Nat) (h:Nat->List PV):Bool:=(bS lo hi k (pn c) (λi=>ab (pg c i)) l (ow o)==0)&&dn n (ab g) m (kL h)
def py (lo hi:PtS) (k:Nat) (c:Nat->List PV) (l:Nat) (o:Nat->List PV) (n:Nat) (g:Nat->List PV) (m:Nat) (h:Nat->List PV):List (Int×Int):=bif Dg lo hi k c l o n g m h then dR (g7 k c (ab g)) (kL h) m else []
theorem g9 {n m:Nat} {q:Nat->Int×Int} (h:c7 n q m=true) {i:Nat} (hi:i < m):0<=(q i).1/\(q i).1 < (q i).2/\(q i).2 < (n:Int)/\(0 < i->eM (q (i - 1)) (q i)=true):=by
 unfold c7 at h;have h0:aE (iG n q) m=false:=by simpa using h
 have h1:=(az.1 h0) i hi;unfold iG at h1;simp only [Bool.or_eq_false_iff,decide_eq_false_iff_not,Bool.and_eq_false_iff,Bool.not_eq_false'] at h1;exact⟨by omega,by omega,by omega,λhi=>by
  rcases h1.2 with h|h
  ·omega
  ·exact h⟩
theorem yr {n m:Nat} {q:Nat->Int×Int} (h:c7 n q m=true):m<=n*n:=by
 have key:∀i,i < m->(i:Int)<=(q i).1*n+(q i).2:=λi=>by
  induction i with
  |zero =>
   intro hi;have:=g9 h hi;have h2:=Int.mul_nonneg this.1 (Int.natCast_nonneg n);omega
  |succ i ih =>
   intro hi;have h1:=g9 h hi;have h2:=g9 h (show i < m by omega);have h3:=ih (by omega);have h4:=h1.2.2.2 (by omega);rw [Nat.add_sub_cancel] at h4;unfold eM at h4;simp only [Bool.or_eq_true,Bool.and_eq_true,decide_eq_true_eq] at h4;rcases h4 with h4|⟨h4,h5⟩
   ·have h6:=Int.mul_le_mul_of_nonneg_right (show(q i).1+1<=(q (i+1)).1 by omega) (Int.natCast_nonneg n);rw [Int.add_mul,Int.one_mul] at h6;omega
   ·rw [<-h4];omega
 rcases Nat.eq_zero_or_pos m with h0|h0
 ·omega
 ·have h1:=g9 h (show m - 1 < m by omega);have h2:=key (m - 1) (by omega);have h3:=Int.mul_le_mul_of_nonneg_right (show(q (m - 1)).1<=(n:Int) - 1 by omega) (Int.natCast_nonneg n);rw [Int.sub_mul,Int.one_mul] at h3;have h4:(m:Int)<=(n:Int)*n:=by omega
  exact_mod_cast h4
end Go.Num
namespace Go.Proofs
theorem Ay {f:FuncId} {p:PV} {r:Ans} (h:gf Tryz.prog f [p,.rs 6 0 λ_=>[]] r):gf Tryz.prog f [p,.val (.slice none 0 0)] r:=by
 refine⟨h.1,λhm A w vs hA hl hR=>h.2 hm A w vs hA hl λi q v e1 e2=>?_⟩
 match i with
 |0=>exact hR 0 q v e1 e2
 |1 =>
  cases e1;have:=hR 1 _ v rfl e2;cases this;exact .rs _ _ _ _ _ (λ_ _=>undef) (λi hi=>absurd hi (Nat.not_lt_zero i)) (Nat.le_refl _) (Nat.zero_le _) (λi f p hi=>absurd hi (Nat.not_lt_zero i)) (λi f p hi=>absurd hi (Nat.not_lt_zero i))
 |i+2=>simp at e1
def Az:List PV->Option Ans
 |[p,.val (.slice none 0 0)]=>Fk [p,.rs 6 0 λ_=>[]]
 |_=>none
theorem FO:FnOk Tryz.prog 55 Az:=λargs r e=>by
 unfold Az at e;split at e
 ·exact Ay (f55 _ r e)
 ·cases e
def HM:List PV->Option Ans
 |[.agg xs,.agg [.rs 6 n g,.rs 2 m h]]=>some ⟨some (isRg 10000 xs/\isPL 10000 n g/\mX m h),.tup [.rs 2 (py (bM xs) (bN xs) (gK xs) (gC xs) (gL xs) (gO xs) n g m h).length (λi=>aM (qL (py (bM xs) (bN xs) (gK xs) (gC xs) (gL xs) (gO xs) n g m h) i)),.val (.int .i64 (bV (Dg (bM xs) (bN xs) (gK xs) (gC xs) (gL xs) (gO xs) n g m h)))],[]⟩
 |_=>none
theorem HN:am {} Tryz.f18 2=true:=by kernel_rfl
theorem f18:FnOk Tryz.prog 18 HM:=by
 refine FnOk.ofW aj (an (l:=[(55,Az),(68,GP),(69,Hl)]) (own:=[]) (inl:=[]) (by simp [FO,f68,f69]) (by simp)) Tryz.func18 {} 2 HN λargs r e=>?_;unfold HM at e;split at e
 ·rename_i xs n g m h
  cases e;refine⟨by simp,λhm=>?_⟩;obtain⟨⟨h1,⟨hlo,hhi⟩,hcl,hol⟩,hg,hq⟩:=hm _ rfl;generalize bM xs=lo at *
  generalize bN xs=hi at *
  generalize gK xs=k at *
  generalize gC xs=c at *
  generalize gL xs=l at *
  generalize gO xs=o at *
  subst h1;clear hm;refine⟨[],aa [(0,.agg (bq lo hi k c l o)),(1,.agg [.rs 6 n g,.rs 2 m (λi=>aM (kL h i))])] [] 0 [],Wo trivial ⟨⟨rfl,rfl,rfl,rfl,rfl,rfl,rfl,rfl,rfl,rfl,rfl,rfl,qW,qW,qQ⟩,⟨qW,⟨rfl,rfl,λi hi=>(hq.1 i hi).symm⟩,qQ⟩,qQ⟩ trivial,?_⟩;have hrg:((lo.le 4294967296/\hi.le 4294967296)/\bQ 10000 k c/\cR l o):=⟨⟨hlo.mono (by decide),hhi.mono (by decide)⟩,hcl,hol⟩;have hg':isPL 4294967296 n g:=⟨λi hi=>⟨(hg.1 i hi).1,(hg.1 i hi).2.mono (by decide)⟩,hg.2⟩;have hqm:=hq.2;generalize hqq:kL h=q at *
  have hql:mX m (λi=>aM (q i)):=⟨λ_ _=>rfl,hqm⟩;obtain⟨T,hT⟩:∃T,T=g7 k c (ab g):=⟨_,rfl⟩;obtain⟨OK,hOK⟩:∃OK,OK=Dg lo hi k c l o n g m h:=⟨_,rfl⟩;obtain⟨TR,hTR⟩:∃TR,TR=py lo hi k c l o n g m h:=⟨_,rfl⟩;rw [<-hTR,<-hOK];have e1:TR=bif OK then dR T q m else []:=by rw [hTR,py,<-hOK,<-hT,hqq]
  have e2:OK=((bS lo hi k (pn c) (λi=>ab (pg c i)) l (ow o)==0)&&dn n (ab g) m q):=by rw [hOK,Dg,hqq]
  have b0:OK=false->TR.length=0:=λh=>by rw [e1,h];rfl
  have b1:OK=false->PV.val (.int .i64 1)=PV.val (.int .i64 (bV OK)):=λh=>by rw [h];rfl
  have q1:((bS lo hi k (pn (λi=>[.rs 6 (pn c i) (pg c i)])) (λi=>ab (pg (λi=>[.rs 6 (pn c i) (pg c i)]) i)) l (ow (λi=>ag (ow o i)))==0)&&!aE (λi=>!ah (ab (λ_=>[]) i)) 0)=(bS lo hi k (pn c) (λi=>ab (pg c i)) l (ow o)==0):=Bool.and_true _;have z:∀B:Bool,(bV B != 0)=true->B=false:=λB h=>by cases B<;>first|rfl|cases h
  have z':∀B:Bool,(bV B != 0)=false->B=true:=λB h=>by cases B<;>first|rfl|cases h
  have f1:(bV ((bS lo hi k (pn (λi=>[.rs 6 (pn c i) (pg c i)])) (λi=>ab (pg (λi=>[.rs 6 (pn c i) (pg c i)]) i)) l (ow (λi=>ag (ow o i)))==0)&&!aE (λi=>!ah (ab (λ_=>[]) i)) 0) != 0)=true->OK=false:=λh=>by
   have:=q1.symm.trans (z _ h);rw [e2,this];rfl
  have f2:(!dn n (ab g) m (kL λi=>aM (q i)))=true->OK=false:=λh=>by
   have h:dn n (ab g) m q=false:=by
    have h:(!dn n (ab g) m q)=true:=h;simpa using h
   rw [e2,h,Bool.and_false]
  have f3:(bV ((bS lo hi k (pn (λi=>[.rs 6 (pn c i) (pg c i)])) (λi=>ab (pg (λi=>[.rs 6 (pn c i) (pg c i)]) i)) l (ow (λi=>ag (ow o i)))==0)&&!aE (λi=>!ah (ab (λ_=>[]) i)) 0) != 0)=false->(!dn n (ab g) m (kL λi=>aM (q i)))=false->OK=true/\dn n (ab g) m q=true:=λh h'=>by
   have h1:=q1.symm.trans (z' _ h);have h2:dn n (ab g) m q=true:=by
    have h:(!dn n (ab g) m q)=false:=h';simpa using h
   exact⟨by rw [e2,h1,h2];rfl,h2⟩
  have hcl':bQ 10000 k (λi=>[.rs 6 (pn c i) (pg c i)]):=⟨λi hi=>⟨rfl,(hcl.1 i hi).2⟩,hcl.2⟩;have hol':cR l (λi=>ag (ow o i)):=⟨λ_ _=>rfl,hol.2⟩;have hrg':((lo.le 4294967296/\hi.le 4294967296)/\bQ 10000 k (λi=>[.rs 6 (pn c i) (pg c i)])/\cR l (λi=>ag (ow o i))):=⟨hrg.1,hcl',hol'⟩;have p0:isPL 4294967296 0 λ_=>[]:=⟨λi hi=>absurd hi (Nat.not_lt_zero i),Nat.zero_le _⟩;with_unfolding_all refine⟨⟨hrg',p0⟩,λh1=>⟨⟨hg',hql⟩,λh2=>⟨[],aa [(4,.rs 2 TR.length (λi=>aM (qL TR i))),(5,.val (.int .i64 (bV OK)))] [] 0 [],Wo trivial ⟨⟨rfl,b0 (f2 h2)⟩,b1 (f2 h2),qQ⟩ trivial,rfl,rfl⟩,λh2=>⟨Nat,λi=>(OK=true/\dn n (ab g) m q=true)/\i<=m,λi=>aa [(2,.ptr 0 0 0 0),(3,.ptr 1 1 0 0),(6,.sl 2 2 0 (dR T q i).length),(18,.rs 2 m (λi=>aM (q i))),(19,.val (goInt m)),(20,.val (goInt i))] [⟨31,14,0,true,false,1,λ_=>bq lo hi k c l o⟩,⟨37,2,1,true,false,1,λ_=>[.rs 6 n g,.rs 2 m (λi=>aM (q i))]⟩,⟨46,2,2,false,false,(dR T q i).length,λj=>aM (qL (dR T q i) j)⟩] 3 [],λi=>m - i,⟨0,[some 0,some 1,none],⟨f3 h1 h2,Nat.zero_le _⟩,Wo ⟨qZ ⟨rq,rq,rq,rq,rq,rq,rq,rq,rq,rq,rq,rq,⟨qW,rfl⟩,⟨qW,rfl⟩,qQ⟩,qZ ⟨⟨qW,rfl⟩,⟨qW,rfl⟩,qQ⟩,⟨aW rfl,rfl,rfl,rfl⟩,qQ⟩ ⟨pP,pP,⟨rfl,rfl,rfl,rfl,aW rfl⟩,qW,rfl,rfl,qQ⟩ trivial⟩,λi hi=>?_⟩⟩,λh1=>⟨λ_=>⟨[],aa [(4,.rs 2 TR.length (λi=>aM (qL TR i))),(5,.val (.int .i64 (bV OK)))] [] 0 [],Wo trivial ⟨⟨rfl,b0 (f1 h1)⟩,b1 (f1 h1),qQ⟩ trivial,rfl,rfl⟩,λh=>nomatch h⟩⟩
  obtain⟨⟨hk1,hk2⟩,him⟩:(OK=true/\dn n (ab g) m q=true)/\i<=m:=hi;with_unfolding_all refine⟨λh1=>?_,λh1=>?_⟩
  ·have h1:(i:Int) < m:=bI h1;have ei:(i:Int).toNat=i:=Int.toNat_natCast i;have him:i+1<=m:=by omega
   have hμ : m - (i+1) < m - i:=by omega
   have hok:=hk2;unfold dn at hok;rw [Bool.and_eq_true,Bool.and_eq_true] at hok;have hn1:n<=1000:=of_decide_eq_true hok.1.1;have hmm:=yr hok.2;have hnn:n*n<=1000*1000:=Nat.mul_le_mul hn1 hn1;have hl:=g9 hok.2 (show i < m by omega);have hl1:0<=(q (i:Int).toNat).1/\(q (i:Int).toNat).1 < n:=by rw [ei];omega
   have hl2:0<=(q (i:Int).toNat).2/\(q (i:Int).toNat).2 < n:=by rw [ei];omega
   have htl:=uQ T q i;have wi:PV.val (.int .i64 (IntKind.i64.wrap ((i:Int)+1)))=PV.val (.int .i64 ((i+1:Nat):Int)):=by
    rw [wrap64 (by omega) (by omega)];rfl
   have pR:isRg 10000 (bq lo hi k c l o):=⟨rfl,⟨hlo,hhi⟩,hcl',hol'⟩;have hT':∀x y,g7 k c (ab g) x y=T x y:=λx y=>by rw [hT]
   have tt:∀x y b,g7 k (λi=>[.rs 6 (pn c i) (pg c i)]) (ab g) x y=b->T x y=b:=λx y b h=>(hT' x y).symm.trans h;have e3:T (q i).1 (q i).2=true->T (q i).2 (q i).1=true->dR T q (i+1)=dR T q i++[q i]:=λh h'=>by rw [dR,h,h'];rfl
   have e4:(T (q i).1 (q i).2&&T (q i).2 (q i).1)=false->dR T q (i+1)=dR T q i:=λh=>by rw [dR,h];exact List.append_nil _
   have hn0:(T (q (i:Int).toNat).1 (q (i:Int).toNat).2&&T (q (i:Int).toNat).2 (q (i:Int).toNat).1)=false->(dR T q (i+1)).length=(dR T q i).length:=λh=>by
    rw [ei] at h;rw [e4 h]
   have hr0:(T (q (i:Int).toNat).1 (q (i:Int).toNat).2&&T (q (i:Int).toNat).2 (q (i:Int).toNat).1)=false->∀j,j < (dR T q i).length->aM (qL (dR T q (i+1)) j)=aM (qL (dR T q i) j):=λh=>by
    rw [ei] at h;rw [e4 h];exactλ_ _=>rfl
   have hnA:T (q (i:Int).toNat).1 (q (i:Int).toNat).2=true->T (q (i:Int).toNat).2 (q (i:Int).toNat).1=true->(dR T q (i+1)).length=(dR T q i).length+1:=λh h'=>by
    rw [ei] at h h';rw [e3 h h',List.length_append];rfl
   have hr1:T (q (i:Int).toNat).1 (q (i:Int).toNat).2=true->T (q (i:Int).toNat).2 (q (i:Int).toNat).1=true->∀r:Nat->List PV,r 0=aM (q (i:Int).toNat)->∀j,j < (dR T q i).length+1->aM (qL (dR T q (i+1)) j)=iB (dR T q i).length (λj=>aM (qL (dR T q i) j)) r j:=λh h' r hr=>by
    rw [ei] at h h' hr;rw [e3 h h'];exact A7 hr
   have k1:((dR T q i).length+1)*16<=140737488355328:=by omega
   have k2:(dR T q i).length+1<=9223372036854775807:=by omega
   have n1:∀x y:Bool,y=false->(x&&y)=false:=λx y h=>by rw [h,Bool.and_false]
   have n2:∀x y:Bool,x=false->(x&&y)=false:=λx y h=>by rw [h];rfl
   with_unfolding_all exact⟨⟨Int.natCast_nonneg i,h1⟩,⟨pR,hg,hl1,hl2⟩,λh2=>⟨⟨pR,hg,hl2,hl1⟩,λh3=>⟨⟨rfl,k1,k2⟩,⟨i+1,[some 0,some 1,some 2],⟨⟨hk1,hk2⟩,him⟩,hμ,Wo ⟨qZ ⟨rq,rq,rq,rq,rq,rq,rq,rq,rq,rq,rq,rq,⟨qW,rfl⟩,⟨qW,rfl⟩,qQ⟩,qZ ⟨⟨qW,rfl⟩,⟨qW,rfl⟩,qQ⟩,⟨aW rfl,rfl,rfl,rfl,rfl,(hnA (tt _ _ _ h2) (tt _ _ _ h3)),hr1 (tt _ _ _ h2) (tt _ _ _ h3) _ rfl⟩,qQ⟩ ⟨pP,pP,⟨rfl,rfl,(hnA (tt _ _ _ h2) (tt _ _ _ h3)).symm,aW rfl,_,rfl⟩,qW,rfl,wi,qQ⟩ trivial⟩⟩,λh3=>⟨i+1,[some 0,some 1,some 2],⟨⟨hk1,hk2⟩,him⟩,hμ,Wo ⟨qZ ⟨rq,rq,rq,rq,rq,rq,rq,rq,rq,rq,rq,rq,⟨qW,rfl⟩,⟨qW,rfl⟩,qQ⟩,qZ ⟨⟨qW,rfl⟩,⟨qW,rfl⟩,qQ⟩,⟨aW rfl,rfl,rfl,rfl,rfl,(hn0 (n1 _ _ (tt _ _ _ h3))),hr0 (n1 _ _ (tt _ _ _ h3))⟩,qQ⟩ ⟨pP,pP,⟨rfl,rfl,(hn0 (n1 _ _ (tt _ _ _ h3))).symm,aW rfl,_,rfl⟩,qW,rfl,wi,qQ⟩ trivial⟩⟩,λh2=>⟨λh=>(nomatch h),λ_=>⟨i+1,[some 0,some 1,some 2],⟨⟨hk1,hk2⟩,him⟩,hμ,Wo ⟨qZ ⟨rq,rq,rq,rq,rq,rq,rq,rq,rq,rq,rq,rq,⟨qW,rfl⟩,⟨qW,rfl⟩,qQ⟩,qZ ⟨⟨qW,rfl⟩,⟨qW,rfl⟩,qQ⟩,⟨aW rfl,rfl,rfl,rfl,rfl,(hn0 (n2 _ _ (tt _ _ _ h2))),hr0 (n2 _ _ (tt _ _ _ h2))⟩,qQ⟩ ⟨pP,pP,⟨rfl,rfl,(hn0 (n2 _ _ (tt _ _ _ h2))).symm,aW rfl,_,rfl⟩,qW,rfl,wi,qQ⟩ trivial⟩⟩⟩
  ·have h1:(m:Int)<=i:=dP h1;have h3:dR T q i=TR:=by
    rw [show i=m by omega,e1,hk1];rfl
   have v2:PV.val (.int .i64 0)=PV.val (.int .i64 (bV OK)):=by rw [hk1];rfl
   have v3:∀j,j < TR.length->aM (qL TR j)=aM (qL (dR T q i) (0+j)):=λj _=>by rw [h3,Nat.zero_add]
   with_unfolding_all exact⟨[],aa [(4,.rs 2 TR.length (λi=>aM (qL TR i))),(5,.val (.int .i64 (bV OK)))] [] 0 [],Wo trivial ⟨⟨by simp,_,rfl,rfl,rfl,congrArg List.length h3,v3⟩,v2,qQ⟩ trivial,rfl,rfl⟩
 ·cases e
end Go.Proofs
namespace Go.Num
def bL (p q:PtS) (C:Nat->PtS):Nat->List PtS
 |0=>[p,q]
 |j+1=>bL p q C j++(bif !bW (C j) p&&!bW (C j) q then [C j] else [])
def dh (S:PtS->PtS->Bool) (P:Nat->PtS) (i:Nat):Nat->List (Int×Int)
 |0=>[]
 |d+1=>dh S P i d++(bif S (P i) (P (i+1+d)) then [((i:Int),((i+1+d:Nat):Int))] else [])
def ct (S:PtS->PtS->Bool) (P:Nat->PtS) (n:Nat):Nat->List (Int×Int)
 |0=>[]
 |i+1=>ct S P n i++dh S P i (n - (i+1))
theorem FP {L:List PtS} {x:PtS} {r:Nat->List PV} (h:r 0=x.cells):∀i,i < L.length+1->(ae (L++[x]) i).cells=iB L.length (λi=>(ae L i).cells) r i:=λi hi=>by
 unfold iB ae;by_cases hl:i < L.length
 ·rw [if_pos hl,List.getElem?_append_left hl]
 ·obtain rfl:i=L.length:=by omega
  rw [if_neg hl,Nat.sub_self,h];simp
theorem mE (p q:PtS) (C:Nat->PtS):∀j,2<=(bL p q C j).length/\(bL p q C j).length<=j+2
 |0=>⟨Nat.le_refl _,Nat.le_refl _⟩
 |j+1=>by
  have:=mE p q C j;unfold bL;rw [List.length_append];cases (!bW (C j) p&&!bW (C j) q)<;>simp<;>omega
theorem nN {p q:PtS} {C:Nat->PtS} (hp:p.le 10000) (hq:q.le 10000):∀{j:Nat},(∀i,i < j->(C i).le 10000)->∀x∈bL p q C j,x.le 10000
 |0,_,x,hx=>by
  rcases List.mem_cons.1 hx with rfl|hx
  ·exact hp
  ·rw [List.mem_singleton.1 hx];exact hq
 |j+1,hC,x,hx=>by
  unfold bL at hx;rcases List.mem_append.1 hx with hx|hx
  ·exact nN hp hq (λi hi=>hC i (by omega)) x hx
  ·cases hb:(!bW (C j) p&&!bW (C j) q) with
   |true =>
    rw [hb] at hx;rw [List.mem_singleton.1 hx];exact hC j (by omega)
   |false=>rw [hb] at hx;cases hx
theorem pz (S:PtS->PtS->Bool) (P:Nat->PtS) (i:Nat):∀d,(dh S P i d).length<=d
 |0=>Nat.le_refl _
 |d+1=>by
  have:=pz S P i d;unfold dh;rw [List.length_append];cases S (P i) (P (i+1+d))<;>simp<;>omega
theorem uR (S:PtS->PtS->Bool) (P:Nat->PtS) (n:Nat):∀i,(ct S P n i).length<=i*n
 |0=>Nat.zero_le _
 |i+1=>by
  have:=uR S P n i;have h2:=pz S P i (n - (i+1));unfold ct;rw [List.length_append,Nat.succ_mul];omega
def tM (lo hi:PtS) (k:Nat) (c:Nat->List PV) (l:Nat) (o:Nat->List PV) (p q:PtS):Int:=bif fF lo hi k c l o (ar p q) then bif aZ lo hi k c l o p p&&aZ lo hi k c l o q q then bif bW p q then 12 else 0 else 16 else 1
def kt (lo hi:PtS) (k:Nat) (c:Nat->List PV) (l:Nat) (o:Nat->List PV) (p q:PtS):List PtS:=bif tM lo hi k c l o p q==0 then bL p q (ae (dv lo hi k c l o)) (dv lo hi k c l o).length else []
def mZ (lo hi:PtS) (k:Nat) (c:Nat->List PV) (l:Nat) (o:Nat->List PV) (p q:PtS):List (Int×Int):=ct (aZ lo hi k c l o) (ae (kt lo hi k c l o p q)) (kt lo hi k c l o p q).length (kt lo hi k c l o p q).length
end Go.Num
namespace Go.Proofs
def HO:List PV->Option Ans
 |[.agg xs,.val v,.val u]=>some ⟨some ((isRg 10000 xs/\isPk 10000 v/\isPk 10000 u)/\(au (bM xs) (bN xs) (gK xs) (gC xs) (gL xs) (gO xs)).length<=500),
  .tup [.agg [.rs 6 (kt (bM xs) (bN xs) (gK xs) (gC xs) (gL xs) (gO xs) (aN v) (aN u)).length (λi=>(ae (kt (bM xs) (bN xs) (gK xs) (gC xs) (gL xs) (gO xs) (aN v) (aN u)) i).cells),.rs 2 (mZ (bM xs) (bN xs) (gK xs) (gC xs) (gL xs) (gO xs) (aN v) (aN u)).length (λi=>aM (qL (mZ (bM xs) (bN xs) (gK xs) (gC xs) (gL xs) (gO xs) (aN v) (aN u)) i))],.val (.int .i64 (tM (bM xs) (bN xs) (gK xs) (gC xs) (gL xs) (gO xs) (aN v) (aN u)))],[]⟩
 |_=>none
def D14:Opt:={ perm:=ji 21 (rds 7) }
theorem HP:am D14.toOrd Tryz.f14 3=true:=by kernel_rfl
theorem f14:FnOk Tryz.prog 14 HO:=by
 refine FnOk.ofW aj (an (l:=[(55,Fk),(56,Fw),(57,Gj)]) (own:=[]) (inl:=[]) (by simp [f55,f56,f57]) (by simp)) Tryz.func14 D14 3 HP λargs r e=>?_;unfold HO at e;split at e
 ·rename_i xs v u
  cases e;refine⟨by simp,λhm=>?_⟩;obtain⟨⟨⟨h1,⟨hlo,hhi⟩,hcl,hol⟩,⟨a,rfl,ha⟩,b,rfl,hb⟩,hN0⟩:=hm _ rfl;generalize bM xs=lo at *
  generalize bN xs=hi at *
  generalize gK xs=k at *
  generalize gC xs=c at *
  generalize gL xs=l at *
  generalize gO xs=o at *
  subst h1;clear hm;refine⟨[],aa [(0,.agg (bq lo hi k c l o)),(1,.val a.v),(2,.val b.v)] [] 0 [],Wo trivial ⟨⟨rfl,rfl,rfl,rfl,rfl,rfl,rfl,rfl,rfl,rfl,rfl,rfl,qW,qW,qQ⟩,rfl,rfl,qQ⟩ trivial,?_⟩;have ha':=ha.mono (show 10000<=4294967296 by decide);have hb':=hb.mono (show 10000<=4294967296 by decide);have hcl':bQ 10000 k (λi=>[.rs 6 (pn c i) (pg c i)]):=⟨λi hi=>⟨rfl,(hcl.1 i hi).2⟩,hcl.2⟩;have hol':cR l (λi=>ag (ow o i)):=⟨λ_ _=>rfl,hol.2⟩;have hrg':((lo.le 4294967296/\hi.le 4294967296)/\bQ 10000 k (λi=>[.rs 6 (pn c i) (pg c i)])/\cR l (λi=>ag (ow o i))):=⟨⟨hlo.mono (by decide),hhi.mono (by decide)⟩,hcl',hol'⟩;have hrg3:((lo.le 10000/\hi.le 10000)/\bQ 10000 k (λi=>[.rs 6 (pn c i) (pg c i)])/\cR l (λi=>ag (ow o i))):=⟨⟨hlo,hhi⟩,hcl',hol'⟩;obtain⟨OK,hOK⟩:∃OK,OK=fF lo hi k c l o (ar a b):=⟨_,rfl⟩;obtain⟨S,hS⟩:∃S,S=aZ lo hi k c l o:=⟨_,rfl⟩;have hSN:aZ lo hi k (λi=>[.rs 6 (pn c i) (pg c i)]) l (λi=>ag (ow o i))=S:=by
   rw [hS];rfl
  obtain⟨C,hC⟩:∃C,C=ae (dv lo hi k c l o):=⟨_,rfl⟩;have hCN:ae (dv lo hi k (λi=>[.rs 6 (pn c i) (pg c i)]) l (λi=>ag (ow o i)))=C:=by
   rw [hC];rfl
  obtain⟨N,hNN⟩:∃N,N=(dv lo hi k c l o).length:=⟨_,rfl⟩;have hNNN:(dv lo hi k (λi=>[.rs 6 (pn c i) (pg c i)]) l (λi=>ag (ow o i))).length=N:=by
   rw [hNN];rfl
  obtain⟨BE,hBE⟩:∃BE,BE=tM lo hi k c l o a b:=⟨_,rfl⟩;obtain⟨BP,hBP⟩:∃BP,BP=kt lo hi k c l o a b:=⟨_,rfl⟩;obtain⟨BL,hBL⟩:∃BL,BL=mZ lo hi k c l o a b:=⟨_,rfl⟩;show y9 _ _ _ _ _ ⟨_,.tup [.agg [.rs 6 (kt lo hi k c l o a b).length (λi=>(ae (kt lo hi k c l o a b) i).cells),.rs 2 (mZ lo hi k c l o a b).length (λi=>aM (qL (mZ lo hi k c l o a b) i))],.val (.int .i64 (tM lo hi k c l o a b))],[]⟩;rw [<-hBE,<-hBP,<-hBL];have e0:BE=bif OK then bif S a a&&S b b then bif bW a b then 12 else 0 else 16 else 1:=by rw [hBE,tM,<-hOK,<-hS]
  have e1:BP=bif BE==0 then bL a b C N else []:=by rw [hBP,kt,<-hBE,<-hC,<-hNN]
  have e2:BL=ct S (ae BP) BP.length BP.length:=by rw [hBL,mZ,<-hBP,<-hS]
  have hN:N<=500:=by
   rw [hNN];exact Nat.le_trans (mw _ _) hN0
  have cn:∀r:Nat->List PV,ab r 0=a->ab r 1=b->aE (λi=>!ah (ab r i)) 2=(!ah a||!ah b):=λr h h'=>by
   have e:List.range 2=[0,1]:=rfl;simp only [aE,e,List.any_cons,List.any_nil,Bool.or_false,h,h']
  have p2:∀r:Nat->List PV,r 0=a.cells->r 1=b.cells->isPL 4294967296 2 r:=λr h h'=>⟨λi hi=>by
   match i,hi with
   |0,_=>exact⟨by rw [ab,h];rfl,by rw [ab,h];exact ha'⟩
   |1,_=>exact⟨by rw [ab,h'];rfl,by rw [ab,h'];exact hb'⟩
   |i+2,h=>omega,by decide⟩
  have q1:∀r:Nat->List PV,ab r 0=a->ab r 1=b->((bS lo hi k (pn (λi=>[.rs 6 (pn c i) (pg c i)])) (λi=>ab (pg (λi=>[.rs 6 (pn c i) (pg c i)]) i)) l (ow (λi=>ag (ow o i)))==0)&&!aE (λi=>!ah (ab r i)) 2)=OK:=λr h h'=>by
   rw [cn r h h',hOK,Bool.and_comm];rfl
  have z:∀B:Bool,(bV B != 0)=true->B=false:=λB h=>by cases B<;>first|rfl|cases h
  have z':∀B:Bool,(bV B != 0)=false->B=true:=λB h=>by cases B<;>first|rfl|cases h
  have bad:BE≠0->BP.length=0/\BL.length=0:=λh=>by
   have h0:(BE==0)=false:=by simpa using h
   have h1:BP=[]:=by rw [e1,h0];rfl
   exact⟨by rw [h1];rfl,by rw [e2,h1];rfl⟩
  have sA:∀B,B=S->∀x y,B x y=S x y:=λB h x y=>by rw [h]
  have neq:∀B:Bool,(!B)=true->B=false:=λB h=>by simpa using h
  have neq':∀B:Bool,(!B)=false->B=true:=λB h=>by simpa using h
  have h57:((lo.le 10000/\hi.le 10000)/\bQ 10000 k (λi=>[.rs 6 (pn c i) (pg c i)])/\cR l (λi=>ag (ow o i)))/\(au lo hi k (λi=>[.rs 6 (pn c i) (pg c i)]) l (λi=>ag (ow o i))).length<=500:=⟨hrg3,hN0⟩;have hrow:∀i,i < N->(C i).cells=(ae (dv lo hi k (λi=>[.rs 6 (pn c i) (pg c i)]) l (λi=>ag (ow o i))) i).cells:=λi _=>by rw [hCN]
  have hlen:PV.val (.int .i64 ((dv lo hi k (λi=>[.rs 6 (pn c i) (pg c i)]) l (λi=>ag (ow o i))).length:Int))=PV.val (goInt N):=by
   rw [hNNN];rfl
  have r0:∀r:Nat->List PV,r 0=a.cells->r 1=b.cells->∀i,i < 2->(ae (bL a b C 0) i).cells=r i:=λr h h' i hi=>by
   match i,hi with
   |0,_=>exact h.symm
   |1,_=>exact h'.symm
  have hCle:∀i,i < N->(C i).le 10000:=by
   rw [hNN,hC];exactλi hi=>jP (rC hcl) hi
  with_unfolding_all refine⟨⟨hrg',p2 _ rfl rfl⟩,λh1=>?_,λh1=>?_⟩
  ·have h2:OK=false:=(q1 _ rfl rfl).symm.trans (z _ h1);have hb1:BE=1:=by rw [e0,h2];rfl
   have hb0:BE≠0:=by rw [hb1];decide
   have v2:∀B,B=OK->PV.val (.int .i64 (bV B))=PV.val (.int .i64 BE):=λB h=>by rw [h,h2,hb1];rfl
   with_unfolding_all exact⟨[some 3],aa [(6,.ptr 0 0 0 0),(7,.val (.int .i64 BE))] [⟨37,2,0,true,false,1,λ_=>[.rs 6 BP.length (λi=>(ae BP i).cells),.rs 2 BL.length (λi=>aM (qL BL i))]⟩] 1 [],Wo ⟨qZ ⟨⟨⟨rfl,(bad hb0).1⟩,rfl⟩,⟨⟨rfl,(bad hb0).2⟩,rfl⟩,qQ⟩,qQ⟩ ⟨pP,v2 _ (q1 _ rfl rfl),qQ⟩ trivial,rfl,rfl⟩
  ·have hk:OK=true:=(q1 _ rfl rfl).symm.trans (z' _ h1);have b16:S a a=false\/S b b=false->BE=16:=λh=>by
    rw [e0,hk];rcases h with h|h
    ·rw [h];rfl
    ·rw [h,Bool.and_false];rfl
   have b12:S a a=true->S b b=true->bW a b=true->BE=12:=λh h' h2=>by rw [e0,hk,h,h',h2];rfl
   have n16:BE=16->BE≠0:=λh=>by rw [h];decide
   have n12:BE=12->BE≠0:=λh=>by rw [h];decide
   have v16:BE=16->PV.val (.int .i64 16)=PV.val (.int .i64 BE):=λh=>by rw [h]
   have v12:BE=12->PV.val (.int .i64 12)=PV.val (.int .i64 BE):=λh=>by rw [h]
   have fs:∀x,(!aZ lo hi k (λi=>[.rs 6 (pn c i) (pg c i)]) l (λi=>ag (ow o i)) x x)=true->S x x=false:=λx h=>by rw [<-hSN];exact neq _ h
   have ft:∀x,(!aZ lo hi k (λi=>[.rs 6 (pn c i) (pg c i)]) l (λi=>ag (ow o i)) x x)=false->S x x=true:=λx h=>by rw [<-hSN];exact neq' _ h
   with_unfolding_all refine⟨⟨hrg3,⟨a,rfl,ha⟩,a,rfl,ha⟩,λh2=>⟨⟨hrg3,⟨b,rfl,hb⟩,b,rfl,hb⟩,λh3=>⟨[some 3],aa [(6,.ptr 0 0 0 0),(7,.val (.int .i64 BE))] [⟨37,2,0,true,false,1,λ_=>[.rs 6 BP.length (λi=>(ae BP i).cells),.rs 2 BL.length (λi=>aM (qL BL i))]⟩] 1 [],Wo ⟨qZ ⟨⟨⟨rfl,(bad (n16 (b16 (.inr (fs b h3))))).1⟩,rfl⟩,⟨⟨rfl,(bad (n16 (b16 (.inr (fs b h3))))).2⟩,rfl⟩,qQ⟩,qQ⟩ ⟨pP,v16 (b16 (.inr (fs b h3))),qQ⟩ trivial,rfl,rfl⟩,λh3=>⟨λh4=>⟨[some 3],aa [(6,.ptr 0 0 0 0),(7,.val (.int .i64 BE))] [⟨37,2,0,true,false,1,λ_=>[.rs 6 BP.length (λi=>(ae BP i).cells),.rs 2 BL.length (λi=>aM (qL BL i))]⟩] 1 [],Wo ⟨qZ ⟨⟨⟨rfl,(bad (n12 (b12 (ft a h2) (ft b h3) h4))).1⟩,rfl⟩,⟨⟨rfl,(bad (n12 (b12 (ft a h2) (ft b h3) h4))).2⟩,rfl⟩,qQ⟩,qQ⟩ ⟨pP,v12 (b12 (ft a h2) (ft b h3) h4),qQ⟩ trivial,rfl,rfl⟩,λh4=>⟨h57,Nat,λj=>(OK=true/\S a a=true/\S b b=true/\bW a b=false)/\j<=N,λj=>aa [(3,.ptr 0 0 0 0),(4,.ptr 1 1 0 0),(5,.ptr 2 2 0 0),(6,.ptr 3 3 0 0),(9,.ptr 4 4 0 0),(46,.rs 6 N (λi=>(C i).cells)),(47,.val (goInt N)),(48,.val (goInt j))] [⟨31,14,0,true,false,1,λ_=>bq lo hi k c l o⟩,⟨25,6,1,true,false,1,λ_=>a.cells⟩,⟨25,6,2,true,false,1,λ_=>b.cells⟩,⟨37,2,3,true,false,1,λ_=>[.val (.slice none 0 0),.val (.slice none 0 0)]⟩,⟨37,2,4,true,false,1,λ_=>[.sl 5 5 0 (bL a b C j).length,.val (.slice none 0 0)]⟩,⟨25,6,5,false,false,(bL a b C j).length,λi=>(ae (bL a b C j) i).cells⟩] 6 [],λj=>N - j,⟨0,[some 0,some 1,some 2,some 3,some 6,some 5],⟨⟨hk,ft a h2,ft b h3,h4⟩,Nat.zero_le _⟩,Wo ⟨qZ ⟨rq,rq,rq,rq,rq,rq,rq,rq,rq,rq,rq,rq,⟨qW,rfl⟩,⟨qW,rfl⟩,qQ⟩,qK,qK,qJ,qZ ⟨⟨pP,rfl⟩,rq,qQ⟩,qZ (r0 _ rfl rfl),qQ⟩ ⟨pP,pP,pP,pP,pP,⟨rfl,hNNN,hrow⟩,hlen,rfl,qQ⟩ trivial⟩,λj hj=>?_⟩⟩⟩,λh2=>⟨λ_=>⟨[some 3],aa [(6,.ptr 0 0 0 0),(7,.val (.int .i64 BE))] [⟨37,2,0,true,false,1,λ_=>[.rs 6 BP.length (λi=>(ae BP i).cells),.rs 2 BL.length (λi=>aM (qL BL i))]⟩] 1 [],Wo ⟨qZ ⟨⟨⟨rfl,(bad (n16 (b16 (.inl (fs a h2))))).1⟩,rfl⟩,⟨⟨rfl,(bad (n16 (b16 (.inl (fs a h2))))).2⟩,rfl⟩,qQ⟩,qQ⟩ ⟨pP,v16 (b16 (.inl (fs a h2))),qQ⟩ trivial,rfl,rfl⟩,λh=>(nomatch h)⟩⟩
   obtain⟨⟨g1,g2,g3,g4⟩,hjN⟩:(OK=true/\S a a=true/\S b b=true/\bW a b=false)/\j<=N:=hj;with_unfolding_all refine⟨λh1=>?_,λh1=>?_⟩
   ·have h1:(j:Int) < N:=bI h1;have ej:(j:Int).toNat=j:=Int.toNat_natCast j;have hjN1:j+1<=N:=by omega
    have hμ : N - (j+1) < N - j:=by omega
    have hkl:=mE a b C j;have wj:PV.val (.int .i64 (IntKind.i64.wrap ((j:Int)+1)))=PV.val (.int .i64 ((j+1:Nat):Int)):=by
     rw [wrap64 (by omega) (by omega)];rfl
    have e3:bW (C j) a=false->bW (C j) b=false->bL a b C (j+1)=bL a b C j++[C j]:=λh h'=>by rw [bL,h,h'];rfl
    have e4:(!bW (C j) a&&!bW (C j) b)=false->bL a b C (j+1)=bL a b C j:=λh=>by rw [bL,h];exact List.append_nil _
    have hn0:(!bW (C (j:Int).toNat) a&&!bW (C (j:Int).toNat) b)=false->(bL a b C (j+1)).length=(bL a b C j).length:=λh=>by
     rw [ej] at h;rw [e4 h]
    have hr0:(!bW (C (j:Int).toNat) a&&!bW (C (j:Int).toNat) b)=false->∀i,i < (bL a b C j).length->(ae (bL a b C (j+1)) i).cells=(ae (bL a b C j) i).cells:=λh=>by
     rw [ej] at h;rw [e4 h];exactλ_ _=>rfl
    have hnA:bW (C (j:Int).toNat) a=false->bW (C (j:Int).toNat) b=false->(bL a b C (j+1)).length=(bL a b C j).length+1:=λh h'=>by
     rw [ej] at h h';rw [e3 h h',List.length_append];rfl
    have hr1:bW (C (j:Int).toNat) a=false->bW (C (j:Int).toNat) b=false->∀r:Nat->List PV,r 0=(C (j:Int).toNat).cells->∀i,i < (bL a b C j).length+1->(ae (bL a b C (j+1)) i).cells=iB (bL a b C j).length (λi=>(ae (bL a b C j) i).cells) r i:=λh h' r hr=>by
     rw [ej] at h h' hr;rw [e3 h h'];exact FP hr
    have k1:((bL a b C j).length+1)*80<=140737488355328:=by omega
    have k2:(bL a b C j).length+1<=9223372036854775807:=by omega
    have n1:∀x y:Bool,(!y)=false->(!x&&!y)=false:=λx y h=>by rw [h,Bool.and_false]
    have n2:∀x y:Bool,(!x)=false->(!x&&!y)=false:=λx y h=>by rw [h];rfl
    with_unfolding_all exact⟨⟨Int.natCast_nonneg j,h1⟩,λh2=>⟨λh3=>⟨⟨rfl,k1,k2⟩,⟨j+1,[some 0,some 1,some 2,some 3,some 4,some 5],⟨⟨g1,g2,g3,g4⟩,hjN1⟩,hμ,Wo ⟨qZ ⟨rq,rq,rq,rq,rq,rq,rq,rq,rq,rq,rq,rq,⟨qW,rfl⟩,⟨qW,rfl⟩,qQ⟩,qK,qK,qJ,qZ ⟨⟨⟨rfl,rfl,(hnA (neq _ h2) (neq _ h3)).symm,aW rfl,_,rfl⟩,rfl⟩,rq,qQ⟩,⟨aW rfl,rfl,rfl,rfl,rfl,(hnA (neq _ h2) (neq _ h3)),hr1 (neq _ h2) (neq _ h3) _ rfl⟩,qQ⟩ ⟨pP,pP,pP,pP,pP,qW,rfl,wj,qQ⟩ trivial⟩⟩,λh3=>⟨j+1,[some 0,some 1,some 2,some 3,some 4,some 5],⟨⟨g1,g2,g3,g4⟩,hjN1⟩,hμ,Wo ⟨qZ ⟨rq,rq,rq,rq,rq,rq,rq,rq,rq,rq,rq,rq,⟨qW,rfl⟩,⟨qW,rfl⟩,qQ⟩,qK,qK,qJ,qZ ⟨⟨⟨rfl,rfl,(hn0 (n1 _ _ h3)).symm,aW rfl,_,rfl⟩,rfl⟩,rq,qQ⟩,⟨aW rfl,rfl,rfl,rfl,rfl,(hn0 (n1 _ _ h3)),hr0 (n1 _ _ h3)⟩,qQ⟩ ⟨pP,pP,pP,pP,pP,qW,rfl,wj,qQ⟩ trivial⟩⟩,λh2=>⟨λh=>(nomatch h),λ_=>⟨j+1,[some 0,some 1,some 2,some 3,some 4,some 5],⟨⟨g1,g2,g3,g4⟩,hjN1⟩,hμ,Wo ⟨qZ ⟨rq,rq,rq,rq,rq,rq,rq,rq,rq,rq,rq,rq,⟨qW,rfl⟩,⟨qW,rfl⟩,qQ⟩,qK,qK,qJ,qZ ⟨⟨⟨rfl,rfl,(hn0 (n2 _ _ h2)).symm,aW rfl,_,rfl⟩,rfl⟩,rq,qQ⟩,⟨aW rfl,rfl,rfl,rfl,rfl,(hn0 (n2 _ _ h2)),hr0 (n2 _ _ h2)⟩,qQ⟩ ⟨pP,pP,pP,pP,pP,qW,rfl,wj,qQ⟩ trivial⟩⟩⟩
   ·have h1:(N:Int)<=j:=dP h1;have hb0:BE=0:=by rw [e0,g1,g2,g3,g4];rfl
    have hBPk:bL a b C j=BP:=by
     rw [show j=N by omega,e1,hb0];rfl
    have hl3:(bL a b C j).length=BP.length:=by rw [hBPk]
    have hr3:∀i,i < (bL a b C j).length->(ae BP i).cells=(ae (bL a b C j) i).cells:=λi _=>by rw [hBPk]
    have v69:PV.val (.int .i64 (((bL a b C j).length:Nat):Int))=PV.val (goInt BP.length):=by
     rw [hBPk];rfl
    have hBl:BP.length<=502:=by
     have:=mE a b C j;rw [<-hBPk];omega
    have hBall:∀i,i < BP.length->(ae BP i).le 10000:=λi hi=>by
     unfold ae;rw [List.getElem?_eq_getElem hi];exact nN (j:=j) ha hb (λi hi=>hCle i (by omega)) _ (by rw [hBPk];exact List.getElem_mem hi)
    clear hBPk;with_unfolding_all refine⟨Nat,λi=>i<=BP.length,λi=>aa [(3,.ptr 0 0 0 0),(6,.ptr 1 1 0 0),(9,.ptr 2 2 0 0),(68,.sl 3 3 0 BP.length),(69,.val (goInt BP.length)),(70,.val (goInt i))] [⟨31,14,0,true,false,1,λ_=>bq lo hi k c l o⟩,⟨37,2,1,true,false,1,λ_=>[.val (.slice none 0 0),.val (.slice none 0 0)]⟩,⟨37,2,2,true,false,1,λ_=>[.sl 3 3 0 BP.length,.sl 4 4 0 (ct S (ae BP) BP.length i).length]⟩,⟨25,6,3,false,false,BP.length,λt=>(ae BP t).cells⟩,⟨46,2,4,false,false,(ct S (ae BP) BP.length i).length,λt=>aM (qL (ct S (ae BP) BP.length i) t)⟩] 5 [],λi=>BP.length - i,⟨0,[some 0,some 3,some 4,some 5,none],Nat.zero_le _,Wo ⟨qZ ⟨rq,rq,rq,rq,rq,rq,rq,rq,rq,rq,rq,rq,⟨qW,rfl⟩,⟨qW,rfl⟩,qQ⟩,qJ,qZ ⟨⟨⟨rfl,rfl,hl3,aW rfl,_,rfl⟩,rfl⟩,⟨⟨rfl,rfl,rfl,rfl,aW rfl⟩,rfl⟩,qQ⟩,⟨aW rfl,rfl,rfl,rfl,rfl,hl3.symm,hr3⟩,⟨aW rfl,rfl,rfl,rfl⟩,qQ⟩ ⟨pP,pP,pP,⟨rfl,rfl,hl3,aW rfl,_,rfl⟩,v69,rfl,qQ⟩ trivial⟩,λi hiB=>?_⟩
    replace hiB:i<=BP.length:=hiB;with_unfolding_all refine⟨λh1=>?_,λh1=>?_⟩
    ·have h1:(i:Int) < BP.length:=bI h1;have ei:(i:Int).toNat=i:=Int.toNat_natCast i;have hj0:(ct S (ae BP) BP.length i++dh S (ae BP) i 0).length=(ct S (ae BP) BP.length i).length:=by rw [dh,List.append_nil]
     have hr0:∀t,t < (ct S (ae BP) BP.length i).length->aM (qL (ct S (ae BP) BP.length i++dh S (ae BP) i 0) t)=aM (qL (ct S (ae BP) BP.length i) t):=λt _=>by rw [dh,List.append_nil]
     have w14:PV.val (.int .i64 (IntKind.i64.wrap ((i:Int)+1)))=PV.val (goInt (i+1+0)):=by
      rw [wrap64 (by omega) (by omega)];rfl
     have cx:∀x y:PtS,x=y->PV.val (.bool x.x.s)=PV.val (.bool y.x.s)/\PV.val (.string x.x.b)=PV.val (.string y.x.b)/\PV.val (.string x.x.c)=PV.val (.string y.x.c)/\PV.val (.bool x.y.s)=PV.val (.bool y.y.s)/\PV.val (.string x.y.b)=PV.val (.string y.y.b)/\PV.val (.string x.y.c)=PV.val (.string y.y.c):=λx y h=>by rw [h];exact⟨rfl,rfl,rfl,rfl,rfl,rfl⟩
     have c6:=cx (ae BP (0+(i:Int).toNat)) (ae BP i) (by rw [Nat.zero_add,ei]);with_unfolding_all refine⟨⟨Int.natCast_nonneg i,h1⟩,Nat,λd=>i+1+d<=BP.length,λd=>aa [(3,.ptr 0 0 0 0),(6,.ptr 1 1 0 0),(9,.ptr 2 2 0 0),(12,.val (goInt i)),(13,.ptr 5 5 0 0),(14,.val (goInt (i+1+d))),(68,.sl 3 3 0 BP.length),(69,.val (goInt BP.length)),(70,.val (goInt i))] [⟨31,14,0,true,false,1,λ_=>bq lo hi k c l o⟩,⟨37,2,1,true,false,1,λ_=>[.val (.slice none 0 0),.val (.slice none 0 0)]⟩,⟨37,2,2,true,false,1,λ_=>[.sl 3 3 0 BP.length,.sl 4 4 0 (ct S (ae BP) BP.length i++dh S (ae BP) i d).length]⟩,⟨25,6,3,false,false,BP.length,λt=>(ae BP t).cells⟩,⟨46,2,4,false,false,(ct S (ae BP) BP.length i++dh S (ae BP) i d).length,λt=>aM (qL (ct S (ae BP) BP.length i++dh S (ae BP) i d) t)⟩,⟨25,6,5,true,false,1,λ_=>(ae BP i).cells⟩] 6 [],λd=>BP.length - d,⟨0,[some 0,some 1,some 2,some 3,some 4,some 5],by show i+1+0<=BP.length;omega,Wo ⟨qZ ⟨rq,rq,rq,rq,rq,rq,rq,rq,rq,rq,rq,rq,⟨qW,rfl⟩,⟨qW,rfl⟩,qQ⟩,qJ,qZ ⟨⟨pP,rfl⟩,⟨⟨rfl,rfl,hj0.symm,aW rfl,_,rfl⟩,rfl⟩,qQ⟩,qZ (λ_ _=>rfl),⟨aW rfl,rfl,rfl,rfl,rfl,hj0,hr0⟩,qZ ⟨⟨c6.1,rfl⟩,⟨c6.2.1,rfl⟩,⟨c6.2.2.1,rfl⟩,⟨c6.2.2.2.1,rfl⟩,⟨c6.2.2.2.2.1,rfl⟩,⟨c6.2.2.2.2.2,rfl⟩,qQ⟩,qQ⟩ ⟨pP,pP,pP,rfl,pP,w14,pP,rfl,rfl,qQ⟩ trivial⟩,λd hd=>?_⟩
     have hdB:i+1+d<=BP.length:=hd;with_unfolding_all refine⟨λh2=>?_,λh2=>?_⟩
     ·have h2:(i:Int)+1+d < BP.length:=bI h2;have eT:0+((i:Int)+1+d).toNat=i+1+d:=by omega
      have hdB1:i+1+(d+1)<=BP.length:=by omega
      have hμd:BP.length - (d+1) < BP.length - d:=by omega
      have hbI:=uR S (ae BP) BP.length i;have hbJ:=pz S (ae BP) i d;have hii:i*BP.length<=502*502:=Nat.mul_le_mul (by omega) hBl;have hlj:(ct S (ae BP) BP.length i++dh S (ae BP) i d).length<=502*502+502:=by
       rw [List.length_append];omega
      have wd:PV.val (.int .i64 (IntKind.i64.wrap ((i:Int)+1+d+1)))=PV.val (goInt ((i:Int)+1+((d+1:Nat):Int))):=by
       rw [wrap64 (by omega) (by omega)];exact congrArg (λz=>PV.val (.int .i64 z)) (by omega)
      have hs:∀t b,t=i+1+d->aZ lo hi k (λi=>[.rs 6 (pn c i) (pg c i)]) l (λi=>ag (ow o i)) (ae BP i) (ae BP t)=b->S (ae BP i) (ae BP (i+1+d))=b:=λt b h h'=>by rw [<-h,<-hSN];exact h'
      have e3:S (ae BP i) (ae BP (i+1+d))=true->ct S (ae BP) BP.length i++dh S (ae BP) i (d+1)=ct S (ae BP) BP.length i++dh S (ae BP) i d++[((i:Int),((i+1+d:Nat):Int))]:=λh=>by rw [dh,h,List.append_assoc];rfl
      have e4:S (ae BP i) (ae BP (i+1+d))=false->ct S (ae BP) BP.length i++dh S (ae BP) i (d+1)=ct S (ae BP) BP.length i++dh S (ae BP) i d:=λh=>by
       rw [dh,h];exact congrArg _ (List.append_nil _)
      have hn0:S (ae BP i) (ae BP (i+1+d))=false->(ct S (ae BP) BP.length i++dh S (ae BP) i (d+1)).length=(ct S (ae BP) BP.length i++dh S (ae BP) i d).length:=λh=>by rw [e4 h]
      have hr0:S (ae BP i) (ae BP (i+1+d))=false->∀t,t < (ct S (ae BP) BP.length i++dh S (ae BP) i d).length->aM (qL (ct S (ae BP) BP.length i++dh S (ae BP) i (d+1)) t)=aM (qL (ct S (ae BP) BP.length i++dh S (ae BP) i d) t):=λh=>by
       rw [e4 h];exactλ_ _=>rfl
      have hnA:S (ae BP i) (ae BP (i+1+d))=true->(ct S (ae BP) BP.length i++dh S (ae BP) i (d+1)).length=(ct S (ae BP) BP.length i++dh S (ae BP) i d).length+1:=λh=>by
       rw [e3 h,List.length_append];rfl
      have hr1:S (ae BP i) (ae BP (i+1+d))=true->∀r:Nat->List PV,r 0=[.val (.int .i64 (i:Int)),.val (.int .i64 ((i:Int)+1+d))]->∀t,t < (ct S (ae BP) BP.length i++dh S (ae BP) i d).length+1->aM (qL (ct S (ae BP) BP.length i++dh S (ae BP) i (d+1)) t)=iB (ct S (ae BP) BP.length i++dh S (ae BP) i d).length (λt=>aM (qL (ct S (ae BP) BP.length i++dh S (ae BP) i d) t)) r t:=λh r hr=>by
       rw [e3 h];refine A7 (hr.trans ?_);rw [aM,show(i:Int)+1+d=((i+1+d:Nat):Int) by omega]
      have k1:((ct S (ae BP) BP.length i++dh S (ae BP) i d).length+1)*16<=140737488355328:=by omega
      have k2:(ct S (ae BP) BP.length i++dh S (ae BP) i d).length+1<=9223372036854775807:=by omega
      have pk1:isPk 10000 (ae BP i).v:=⟨_,rfl,hBall i (by omega)⟩;have pk2:isPk 10000 (ae BP (0+((i:Int)+1+d).toNat)).v:=⟨_,rfl,hBall _ (by omega)⟩;with_unfolding_all exact⟨⟨by omega,h2⟩,⟨hrg3,pk1,pk2⟩,λh3=>⟨⟨rfl,k1,k2⟩,⟨d+1,[some 0,some 1,some 2,some 3,some 4,some 5],hdB1,hμd,Wo ⟨qZ ⟨rq,rq,rq,rq,rq,rq,rq,rq,rq,rq,rq,rq,⟨qW,rfl⟩,⟨qW,rfl⟩,qQ⟩,qJ,qZ ⟨⟨pP,rfl⟩,⟨⟨rfl,rfl,(hnA (hs (0+((i:Int)+1+d).toNat) _ eT h3)).symm,aW rfl,_,rfl⟩,rfl⟩,qQ⟩,qZ (λ_ _=>rfl),⟨aW rfl,rfl,rfl,rfl,rfl,(hnA (hs (0+((i:Int)+1+d).toNat) _ eT h3)),hr1 (hs (0+((i:Int)+1+d).toNat) _ eT h3) _ rfl⟩,qK,qQ⟩ ⟨pP,pP,pP,rfl,pP,wd,pP,rfl,rfl,qQ⟩ trivial⟩⟩,λh3=>⟨d+1,[some 0,some 1,some 2,some 3,some 4,some 5],hdB1,hμd,Wo ⟨qZ ⟨rq,rq,rq,rq,rq,rq,rq,rq,rq,rq,rq,rq,⟨qW,rfl⟩,⟨qW,rfl⟩,qQ⟩,qJ,qZ ⟨⟨pP,rfl⟩,⟨⟨rfl,rfl,(hn0 (hs (0+((i:Int)+1+d).toNat) _ eT h3)).symm,aW rfl,_,rfl⟩,rfl⟩,qQ⟩,qZ (λ_ _=>rfl),⟨aW rfl,rfl,rfl,rfl,rfl,(hn0 (hs (0+((i:Int)+1+d).toNat) _ eT h3)),hr0 (hs (0+((i:Int)+1+d).toNat) _ eT h3)⟩,qK,qQ⟩ ⟨pP,pP,pP,rfl,pP,wd,pP,rfl,rfl,qQ⟩ trivial⟩⟩
     ·have h2:(BP.length:Int)<=(i:Int)+1+d:=dP h2;have hd:d=BP.length - (i+1):=by omega
      have hiB1:i+1<=BP.length:=by omega
      have hμi:BP.length - (i+1) < BP.length - i:=by omega
      have wi:PV.val (.int .i64 (IntKind.i64.wrap ((i:Int)+1)))=PV.val (goInt ((i+1:Nat):Int)):=by
       rw [wrap64 (by omega) (by omega)];rfl
      have e3:ct S (ae BP) BP.length (i+1)=ct S (ae BP) BP.length i++dh S (ae BP) i d:=by rw [hd,ct]
      have hn0:(ct S (ae BP) BP.length (i+1)).length=(ct S (ae BP) BP.length i++dh S (ae BP) i d).length:=by rw [e3]
      have hr0:∀t,t < (ct S (ae BP) BP.length i++dh S (ae BP) i d).length->aM (qL (ct S (ae BP) BP.length (i+1)) t)=aM (qL (ct S (ae BP) BP.length i++dh S (ae BP) i d) t):=λt _=>by rw [e3]
      with_unfolding_all exact⟨i+1,[some 0,some 1,some 2,some 3,some 4],hiB1,hμi,Wo ⟨qZ ⟨rq,rq,rq,rq,rq,rq,rq,rq,rq,rq,rq,rq,⟨qW,rfl⟩,⟨qW,rfl⟩,qQ⟩,qJ,qZ ⟨⟨pP,rfl⟩,⟨⟨rfl,rfl,hn0.symm,aW rfl,_,rfl⟩,rfl⟩,qQ⟩,qZ (λ_ _=>rfl),⟨aW rfl,rfl,rfl,rfl,rfl,hn0,hr0⟩,qQ⟩ ⟨pP,pP,pP,pP,rfl,wi,qQ⟩ trivial⟩
    ·have h1:(BP.length:Int)<=i:=dP h1;have hi2:i=BP.length:=by omega
     have e5:ct S (ae BP) BP.length i=BL:=by rw [e2,hi2]
     have v7:PV.val (.int .i64 0)=PV.val (.int .i64 BE):=by rw [hb0]
     have rp:∀t,t < BP.length->(ae BP t).cells=(ae BP (0+t)).cells:=λt _=>by rw [Nat.zero_add]
     have rl:∀t,t < BL.length->aM (qL BL t)=aM (qL (ct S (ae BP) BP.length i) (0+t)):=λt _=>by rw [e5,Nat.zero_add]
     with_unfolding_all exact⟨[some 1],aa [(6,.ptr 0 0 0 0),(7,.val (.int .i64 BE))] [⟨37,2,0,true,false,1,λ_=>[.rs 6 BP.length (λi=>(ae BP i).cells),.rs 2 BL.length (λi=>aM (qL BL i))]⟩] 1 [],Wo ⟨qZ ⟨⟨⟨by simp,_,rfl,rfl,rfl,rfl,rp⟩,rfl⟩,⟨⟨by simp,_,rfl,rfl,rfl,congrArg List.length e5,rl⟩,rfl⟩,qQ⟩,qQ⟩ ⟨pP,v7,qQ⟩ trivial,rfl,rfl⟩
 ·cases e
end Go.Proofs
namespace Go.Num
theorem jh {p u:PtS} (h:bc p u < 0):¬bc u p < 0:=by
 rw [fZ] at *
 rintro (k|⟨e,k⟩)<;>rcases h with h|⟨e2,h⟩<;>grind
theorem wB {V L:List PtS} (hp:L.Perm V) (hV:∀p∈V,p.le 10000) (hL:L.Pairwise λx y=>bc x y < 0):aP V=L:=by
 refine List.Perm.eq_of_pairwise (le:=λx y=>¬bc y x < 0) (λa b ha hb h1 h2=>?_) (kP hV) (hL.imp λh=>jh h) ((d7 V).trans hp.symm);have ha:a∈L:=hp.mem_iff.2 ((d7 V).mem_iff.1 ha);obtain⟨i,hi,rfl⟩:=List.mem_iff_getElem.1 ha;obtain⟨j,hj,rfl⟩:=List.mem_iff_getElem.1 hb;rw [List.pairwise_iff_getElem] at hL;rcases Nat.lt_trichotomy i j with h|h|h
 ·exact absurd (hL i j hi hj h) h2
 ·subst h;rfl
 ·exact absurd (hL j i hj hi h) h1
end Go.Num
namespace Go.Proofs
def eX:PtS:=⟨⟨false,⟨#[]⟩,⟨#[]⟩⟩,⟨false,⟨#[]⟩,⟨#[]⟩⟩⟩
def bh (x y:Int):PtS:=o8 (mkRat x 1) (mkRat y 1)
def eY:PtS:=bh 10 10
def HQ:List PV:=(bh 4 4).cells++((bh 6 4).cells++((bh 6 6).cells++(bh 4 6).cells))
def k8:Nat->List PV:=λ_=>[.rs 6 4 (λi=>fy 6 HQ (0+i))]
def lA:Nat->List PV:=λ_=>ag (0,0,0)
def yt:List PtS:=[bh 0 5,bh 10 5,bh 4 4,bh 4 6,bh 6 4,bh 6 6]
def Gm:List (Int×Int):=[(0,2),(0,3),(1,4),(1,5),(2,3),(2,4),(3,5),(4,5)]
def yY:Nat->List PV:=λi=>(ae yt i).cells
def mF:Nat->List PV:=λi=>aM (qL Gm i)
theorem x1:fF eX eY 1 k8 1 lA (ar (bh 0 5) (bh 10 5))=true:=by kernel_rfl
theorem x2:aZ eX eY 1 k8 1 lA (bh 0 5) (bh 10 5)=false:=by kernel_rfl
theorem x3:au eX eY 1 k8 1 lA=[bh 4 4,bh 6 4,bh 6 6,bh 4 6]:=by kernel_rfl
theorem x4:dv eX eY 1 k8 1 lA=[bh 4 4,bh 4 6,bh 6 4,bh 6 6]:=by
 have h:aP [bh 4 4,bh 6 4,bh 6 6,bh 4 6]=[bh 4 4,bh 4 6,bh 6 4,bh 6 6] :=
  wB (.cons _ (List.perm_append_comm (l₁:=[bh 4 6]) (l₂:=[bh 6 4,bh 6 6]))) (of_decide_eq_true (by kernel_rfl)) (of_decide_eq_true (by kernel_rfl))
 have h2:aR (ae [bh 4 4,bh 4 6,bh 6 4,bh 6 6]) 4=[bh 4 4,bh 4 6,bh 6 4,bh 6 6]:=by kernel_rfl
 unfold dv;rw [x3,h];exact h2
theorem x5:tM eX eY 1 k8 1 lA (bh 0 5) (bh 10 5)=0:=by kernel_rfl
theorem x6:kt eX eY 1 k8 1 lA (bh 0 5) (bh 10 5)=yt:=by
 have h2:bL (bh 0 5) (bh 10 5) (ae [bh 4 4,bh 4 6,bh 6 4,bh 6 6]) 4=yt:=by kernel_rfl
 unfold kt;rw [x5,x4];exact h2
theorem x7:mZ eX eY 1 k8 1 lA (bh 0 5) (bh 10 5)=Gm:=by
 have h2:ct (aZ eX eY 1 k8 1 lA) (ae yt) 6 6=Gm:=by kernel_rfl
 unfold mZ;rw [x6];exact h2
theorem x8:Dg eX eY 1 k8 1 lA 6 yY 8 mF=true:=by kernel_rfl
theorem x9:py eX eY 1 k8 1 lA 6 yY 8 mF=Gm:=by kernel_rfl
theorem wP (x y:Int) (hx:x.natAbs < 256) (hy:y.natAbs < 256):(bh x y).le 10000:=by
 have q:∀z:Int,z.natAbs < 256->QB 1 (mkRat z 1):=λz hz=>by
  have e:mkRat z 1=(z:Rat):=by simp [Rat.mkRat_one]
  rw [e];exact⟨hz,show(1:Nat) < 256^1 by decide⟩
 exact⟨(q x hx).rs.mono (by decide),(q y hy).rs.mono (by decide)⟩
theorem FQ (x y:Int) (hx:x.natAbs < 256) (hy:y.natAbs < 256):isPk 10000 (bh x y).v:=⟨_,rfl,wP x y hx hy⟩
theorem HR:bQ 10000 1 k8:=⟨λi _=>⟨rfl,λi hi=>by
  match i,hi with
  |0,_=>exact⟨rfl,wP 4 4 (by decide) (by decide)⟩
  |1,_=>exact⟨rfl,wP 6 4 (by decide) (by decide)⟩
  |2,_=>exact⟨rfl,wP 6 6 (by decide) (by decide)⟩
  |3,_=>exact⟨rfl,wP 4 6 (by decide) (by decide)⟩
  |i+4,h=>exact absurd h (show ¬i+4 < 4 by omega),show(4:Nat)<=140737488355328 by decide⟩,by decide⟩
def HS:List PV:=bq eX eY 1 k8 1 lA
theorem yu:isRg 10000 HS:=⟨rfl,⟨⟨⟨by decide,by decide⟩,by decide,by decide⟩,wP 10 10 (by decide) (by decide)⟩,HR,λi _=>rfl,by decide⟩
def HT:List PV->Option Ans
 |[]=>some ⟨none,.agg HS,[]⟩
 |_=>none
theorem HU:am {} Tryz.f53 0=true:=by kernel_rfl
theorem f53:FnOk Tryz.prog 53 HT:=by
 refine FnOk.ofW aj (an (l:=[(52,Gf)]) (own:=[]) (inl:=[]) (by simp [f52]) (by simp)) Tryz.func53 {} 0 HU λargs r e=>?_;unfold HT at e;split at e
 ·cases e;refine⟨by simp,λhm=>?_⟩;refine⟨[],aa [] [] 0 [],Wo trivial trivial trivial,?_⟩;have b:∀x:Int,0<=x/\x < 100->(-9223372036854775808<=x/\x < 9223372036854775808):=λx h=>by omega
  have z1:∀(g h:Nat->List PV),g 0=h 0->∀i,i < 1->g i=h (0+i):=λg h e i hi=>by
   obtain rfl:i=0:=by omega
   exact e
  with_unfolding_all exact⟨⟨b 10 (by decide),b 10 (by decide)⟩,⟨b 4 (by decide),b 4 (by decide)⟩,⟨b 6 (by decide),b 4 (by decide)⟩,⟨b 6 (by decide),b 6 (by decide)⟩,⟨b 4 (by decide),b 6 (by decide)⟩,[some 0],aa [(0,.ptr 0 0 0 0)] [⟨31,14,0,true,false,1,λ_=>HS⟩] 1 [],Wo ⟨qZ ⟨rq,rq,rq,rq,rq,rq,rq,rq,rq,rq,rq,rq,⟨⟨by simp,_,rfl,rfl,rfl,rfl,z1 _ _ rfl⟩,rfl⟩,⟨⟨by simp,_,rfl,rfl,rfl,rfl,z1 _ _ rfl⟩,rfl⟩,qQ⟩,qQ⟩ ⟨pP,qQ⟩ trivial,rfl,rfl⟩
 ·cases e
theorem CW:isPL 10000 6 yY:=⟨λi hi=>by
 match i,hi with
 |0,_=>exact⟨rfl,wP 0 5 (by decide) (by decide)⟩
 |1,_=>exact⟨rfl,wP 10 5 (by decide) (by decide)⟩
 |2,_=>exact⟨rfl,wP 4 4 (by decide) (by decide)⟩
 |3,_=>exact⟨rfl,wP 4 6 (by decide) (by decide)⟩
 |4,_=>exact⟨rfl,wP 6 4 (by decide) (by decide)⟩
 |5,_=>exact⟨rfl,wP 6 6 (by decide) (by decide)⟩
 |i+6,h=>exact absurd h (show ¬i+6 < 6 by omega),by decide⟩
theorem yv:mX 8 mF:=⟨λ_ _=>rfl,by decide⟩
theorem AA {r:Nat->List PV} (h0:r 0=mF 0) (h1:r 1=mF 1) (h2:r 2=mF 2) (h3:r 3=mF 3) (h4:r 4=mF 4) (h5:r 5=mF 5) (h6:r 6=mF 6) (h7:r 7=mF 7):∀i,i < 8->r i=mF i:=λi hi=>by
 match i,hi with
 |0,_=>exact h0
 |1,_=>exact h1
 |2,_=>exact h2
 |3,_=>exact h3
 |4,_=>exact h4
 |5,_=>exact h5
 |6,_=>exact h6
 |7,_=>exact h7
 |i+8,h=>exact absurd h (show ¬i+8 < 8 by omega)
theorem yw {r:Nat->List PV} (h:∀i,i < 8->r i=mF i):mX 8 r:=⟨λi hi=>by
 have e:=h i hi;rw [kL,e];rfl,by decide⟩
theorem yx (x:Int×Int):Num.eqQ x x=true:=by
 unfold Num.eqQ;rw [beq_self_eq_true,beq_self_eq_true];rfl
theorem A8 {g r:Nat->List PV} {n:Nat} (hn:n=8) (hg:∀i,i < 8->g i=mF i) (h:∀i,i < 8->r i=mF i):(decide (n=8)&&!aE (λi=>!Num.eqQ (kL g i) (kL r i)) n)=true:=by
 subst hn;rw [az.2 λi hi=>by rw [kL,kL,hg i hi,h i hi,yx];rfl];rfl
def Gn:List PV->Option Ans
 |[]=>some ⟨none,.val (.bool true),[]⟩
 |_=>none
def D13:Opt:={ perm:=jc [(2,(.rd 1 (.rd 2 (.mk 0 (.mk 3 (.rd 4 (.rd 5 (.rd 6 .nil)))))))),(3,(.rd 1 (.rd 2 (.alt 0 (.alt 3 (.rd 4 (.rd 5 (.rd 6 (.mk 7 .nil)))) (.mk 7 (.mk 3 (.rd 4 (.rd 5 (.rd 6 .nil)))))) (.mk 7 (.mk 0 (.mk 3 (.rd 4 (.rd 5 (.rd 6 .nil)))))))))),(4,(.rd 1 (.mk 0 (.mk 2 (.rd 3 (.rd 4 (.rd 5 .nil)))))))],join:=λc=>match c with | .region 3 _ _=>true|_=>false }
theorem HV:am D13.toOrd Tryz.f13 0=true:=by kernel_rfl
theorem f13:FnOk Tryz.prog 13 Gn:=by
 refine FnOk.ofW aj (an (l:=[(52,Gf),(53,HT),(21,FN),(14,HO),(18,HM),(54,G2),(44,G4)]) (own:=[]) (inl:=[]) (by simp [f52,f53,f21,f14,f18,f54,f44]) (by simp)) Tryz.func13 D13 0 HV λargs r e=>?_;unfold Gn at e;split at e
 ·cases e;refine⟨by simp,λhm=>?_⟩;refine⟨[],aa [] [] 0 [],Wo trivial trivial trivial,?_⟩;have b:∀x:Int,0<=x/\x < 100->(-9223372036854775808<=x/\x < 9223372036854775808):=λx h=>by omega
  have pa:isPk 10000 (bh 0 5).v:=FQ 0 5 (by decide) (by decide);have pb:isPk 10000 (bh 10 5).v:=FQ 10 5 (by decide) (by decide);have pc:(au eX eY 1 k8 1 lA).length<=500:=by rw [x3];decide
  with_unfolding_all refine⟨⟨b 0 (by decide),b 5 (by decide)⟩,⟨b 10 (by decide),b 5 (by decide)⟩,⟨yu,pa,pb⟩,?_⟩
  have v3:PV.val (.bool (aZ eX eY 1 k8 1 lA (bh 0 5) (bh 10 5)))=PV.val (.bool false):=by rw [x2]
  have v4:PV.val (.int .i64 (bV (fF eX eY 1 k8 1 lA (ar (bh 0 5) (bh 10 5)))))=PV.val (.int .i64 0):=by
   rw [x1];rfl
  have v6:PV.val (.int .i64 (tM eX eY 1 k8 1 lA (bh 0 5) (bh 10 5)))=PV.val (.int .i64 0):=by rw [x5]
  have w1:(kt eX eY 1 k8 1 lA (bh 0 5) (bh 10 5)).length=6:=by
   rw [x6];rfl
  have w2:∀i,i < 6->yY i=(ae (kt eX eY 1 k8 1 lA (bh 0 5) (bh 10 5)) i).cells:=λi _=>by
   rw [x6];rfl
  have w3:(mZ eX eY 1 k8 1 lA (bh 0 5) (bh 10 5)).length=8:=by
   rw [x7];rfl
  have w4:∀i,i < 8->mF i=aM (qL (mZ eX eY 1 k8 1 lA (bh 0 5) (bh 10 5)) i):=λi _=>by
   rw [x7];rfl
  with_unfolding_all refine⟨Unit,λ_=>True,λ_=>aa [(0,.val (.bool false)),(3,.val (.bool false)),(4,.val (.int .i64 0)),(5,.ptr 0 0 0 0),(6,.val (.int .i64 0))] [⟨37,2,0,true,false,1,λ_=>[.rs 6 6 yY,.rs 2 8 mF]⟩] 1 [],⟨⟨⟨⟨⟨yu,pa,pb⟩,pc⟩,⟨(),[some 2],trivial,Wo ⟨qZ ⟨⟨⟨rfl,w1,w2⟩,rfl⟩,⟨⟨rfl,w3,w4⟩,rfl⟩,qQ⟩,qQ⟩ ⟨rfl,v3,v4,pP,v6,qQ⟩ trivial⟩⟩,⟨⟨⟨yu,pa,pb⟩,pc⟩,⟨(),[some 2],trivial,Wo ⟨qZ ⟨⟨⟨rfl,w1,w2⟩,rfl⟩,⟨⟨rfl,w3,w4⟩,rfl⟩,qQ⟩,qQ⟩ ⟨rfl,v3,v4,pP,v6,qQ⟩ trivial⟩⟩⟩,⟨⟨⟨yu,pa,pb⟩,pc⟩,⟨(),[some 2],trivial,Wo ⟨qZ ⟨⟨⟨rfl,w1,w2⟩,rfl⟩,⟨⟨rfl,w3,w4⟩,rfl⟩,qQ⟩,qQ⟩ ⟨rfl,v3,v4,pP,v6,qQ⟩ trivial⟩⟩⟩,λ_ _=>?_⟩
  have F3:(bV (Dg eX eY 1 k8 1 lA 6 yY 8 mF)==0)=true:=by
   rw [x8];rfl
  have F6:bW (ae yt 2) (bh 4 4)=true:=by kernel_rfl
  have ht:(py eX eY 1 k8 1 lA 6 yY 8 mF).length=8:=by
   rw [x9];rfl
  have hg:∀i,i < 8->aM (qL (py eX eY 1 k8 1 lA 6 yY 8 mF) i)=mF i:=λi _=>by
   rw [x9];rfl
  have qt:mX (py eX eY 1 k8 1 lA 6 yY 8 mF).length (λi=>aM (qL (py eX eY 1 k8 1 lA 6 yY 8 mF) i)):=by
   rw [ht];exact yw hg
  have v0:∀B,B=true->PV.val (.bool B)=PV.val (.bool true):=λB h=>by rw [h]
  have one:(0==(0:Int))=true:=rfl;with_unfolding_all exact⟨⟨yu,CW,yv⟩,⟨λh1=>⟨λh2=>⟨λh3=>⟨λh4=>⟨λh5=>⟨⟨by decide,by decide⟩,⟨b 4 (by decide),b 4 (by decide)⟩,⟨λh6=>⟨⟨yv,yw (AA rfl rfl rfl rfl rfl rfl rfl rfl)⟩,⟨λh7=>⟨⟨qt,yw (AA rfl rfl rfl rfl rfl rfl rfl rfl)⟩,[],aa [(0,.val (.bool true))] [] 0 [],Wo trivial ⟨v0 _ (A8 ht hg (AA rfl rfl rfl rfl rfl rfl rfl rfl)),qQ⟩ trivial,rfl,rfl⟩,λh=>absurd (h.symm.trans (A8 rfl (λ_ _=>rfl) (AA rfl rfl rfl rfl rfl rfl rfl rfl))) (by decide)⟩⟩,λh=>absurd (h.symm.trans F6) (by decide)⟩⟩,λh=>absurd (h.symm.trans rfl) (by decide)⟩,λh=>absurd (h.symm.trans rfl) (by decide)⟩,λh=>absurd (h.symm.trans F3) (by decide)⟩,λh=>absurd (h.symm.trans one) (by decide)⟩,λh=>absurd (h.symm.trans one) (by decide)⟩⟩
 ·cases e
end Go.Proofs
namespace Go.Num
theorem tN (x y:Rat):ah (o8 x y)=true:=by
 have h:∀q:Rat,bg (bt q).v=true:=λq=>by
  show fO (decide (q.num < 0)) (ai q.num.natAbs) (aO q.den) (aD (aw q))=true;have hb:∀x:ByteArray,(x==x)=true:=λ⟨x⟩=>by
   show(x==x)=true;exact beq_self_eq_true x
  rw [aC,fO,beq_self_eq_true,hb,hb];rfl
 unfold ah o8;show(bg (bt x).v&&bg (bt y).v)=true;rw [h,h];rfl
theorem CX {m:Int} (h0:0<=m) (h1:m < 256):0<=Rat.divInt m 255/\Rat.divInt m 255<=1:=by
 have e:Rat.divInt m 255*255=(m:Rat):=by
  rw [Rat.divInt_eq_div];exact Rat.div_mul_cancel (by decide)
 have k0:(0:Rat)<=(m:Rat):=by exact_mod_cast h0
 have k1:(m:Rat)<=((255:Int):Rat):=Rat.intCast_le_intCast.2 (by omega);have k2:((255:Int):Rat)=255:=rfl;rw [k2] at k1;constructor<;>grind
theorem AB:∀m:Nat,m < 256->(Rat.divInt (m:Int) 255).num.natAbs < 256^2/\(Rat.divInt (m:Int) 255).den < 256^2:=by
 decide +kernel
theorem AC {m:Int} (h0:0<=m) (h1:m < 256):QB 2 (Rat.divInt m 255):=by
 obtain⟨n,rfl⟩:=Int.eq_ofNat_of_zero_le h0;exact AB n (by omega)
theorem FR (a b:PtS) (r:RatS):(yX a b r).X=a.X+(b.X - a.X)*r.q:=by
 unfold yX tG rG ck;rw [iS,iS,iS]
theorem FS (a b:PtS) (r:RatS):(yX a b r).Y=a.Y+(b.Y - a.Y)*r.q:=by
 unfold yX tG rG ck;rw [iT,iT,iT]
theorem CY {i j k:Nat} {a b:PtS} {r:RatS} (h1:PtS.le i a) (h2:PtS.le j b) (h3:RatS.le k r):(yX a b r).le (i+(j+i+3+k+3)+3):=As h1 (uO (cf h2 h1) h3)
theorem tO (a b:PtS) (r:RatS):ah (yX a b r)=true:=tN _ _
theorem AD {lo hi:PtS} {k:Nat} {c:Nat->List PV} {l:Nat} {o:Nat->List PV} {a b:PtS} (hr:bS lo hi k (pn c) (λi=>ab (pg c i)) l (ow o)=0) (ha:ah a=true) (hb:ah b=true):aZ lo hi k c l o b a=aZ lo hi k c l o a b:=by
 rw [Bool.eq_iff_iff,dx hr hb ha,dx hr ha hb];exact⟨SeeM.symm,SeeM.symm⟩
theorem yy {lo hi:PtS} {k:Nat} {c:Nat->List PV} {l:Nat} {o:Nat->List PV} {a b d:PtS} {q:Rat} (hr:bS lo hi k (pn c) (λi=>ab (pg c i)) l (ow o)=0) (ha:ah a=true) (hb:ah b=true) (hd:ah d=true) (hx:d.X=a.X+(b.X - a.X)*q) (hy:d.Y=a.Y+(b.Y - a.Y)*q) (h0:0<=q) (h1:q<=1) (h:aZ lo hi k c l o a b=true):(aZ lo hi k c l o a d=true/\aZ lo hi k c l o d b=true)/\aZ lo hi k c l o a a=true/\aZ lo hi k c l o b b=true/\aZ lo hi k c l o d d=true:=by
 have m:=(dx hr ha hb).1 h;have m2:SeeM lo hi k c b d:=m.symm.part (q:=1 - q) (by grind) (by grind) (by grind) (by grind);exact⟨⟨(dx hr ha hd).2 (m.part h0 h1 hx hy),(dx hr hd hb).2 m2.symm⟩,(dx hr ha ha).2 m.self,(dx hr hb hb).2 m.symm.self,(dx hr hd hd).2 m2.symm.self⟩
theorem yz {xs:List PV} {r:Nat->List PV} {a b:PtS} (h0:r 0=a.cells) (h1:r 1=b.cells) (h:rI xs 2 r=true) (hx:isRg 140737488355328 xs):isRg 12 xs/\(a.le 12/\b.le 12)/\(ah a=true/\ah b=true)/\bS (bM xs) (bN xs) (gK xs) (pn (gC xs)) (λi=>ab (pg (gC xs) i)) (gL xs) (ow (gO xs))=0:=by
 have p0:ab r 0=a:=by
  rw [ab,h0];rfl
 have p1:ab r 1=b:=by
  rw [ab,h1];rfl
 unfold rI gB at h;rw [Bool.and_eq_true,Bool.and_eq_true,Bool.not_eq_true',Bool.not_eq_true',Bool.or_eq_false_iff] at h;obtain⟨⟨⟨g1,g2⟩,g3⟩,g4⟩:=h;have b0:=(az.1 g2) 0 (by decide);have b1:=(az.1 g2) 1 (by decide);have c0:=(az.1 g4) 0 (by decide);have c1:=(az.1 g4) 1 (by decide);simp only [p0,p1] at b0 b1 c0 c1;exact⟨px g1 hx,⟨fI b0,fI b1⟩,⟨by simpa using c0,by simpa using c1⟩,Aw (eq_of_beq g3)⟩
theorem yA {xs:List PV} {r:Nat->List PV} {a b:PtS} (h:(!rI xs 2 r)=false) (h0:r 0=a.cells) (h1:r 1=b.cells) (hx:isRg 140737488355328 xs):isRg 12 xs/\(a.le 12/\b.le 12)/\(ah a=true/\ah b=true)/\bS (bM xs) (bN xs) (gK xs) (pn (gC xs)) (λi=>ab (pg (gC xs) i)) (gL xs) (ow (gO xs))=0 :=
 yz h0 h1 (by simpa using h) hx
end Go.Num
namespace Go.Proofs
def c6:List PV->Option Ans
 |[.agg [.val (.bool s1),.val (.string b1),.val (.string c1),.val (.bool s2),.val (.string b2),.val (.string c2),.val (.bool s3),.val (.string b3),.val (.string c3),.val (.bool s4),.val (.string b4),.val (.string c4),.rs 1 k c,.rs 3 l o],.val v,.val u,.val (.int .u8 m)]=>some ⟨some ((PtS.le 140737488355328 (PtS.mk ⟨s1,b1,c1⟩ ⟨s2,b2,c2⟩)/\PtS.le 140737488355328 (PtS.mk ⟨s3,b3,c3⟩ ⟨s4,b4,c4⟩))/\bQ 140737488355328 k c/\cR l o/\isPk 140737488355328 v/\isPk 140737488355328 u/\0<=m/\m < 256),.val (.bool true),[]⟩
 |_=>none
def D6:Opt:={ join:=λc=>match c with | .region 5 _ _=>true | .region 10 _ _=>true | .region 11 _ _=>true | .region 13 _ _=>true|_=>false }
theorem Is:am D6.toOrd Tryz.f6 4=true:=by kernel_rfl
theorem f6:FnOk Tryz.prog 6 c6:=by
 refine FnOk.ofW aj (an (l:=[(17,HF),(13,Gn),(21,FN),(26,HJ),(27,GE),(28,HA)]) (own:=[]) (inl:=[]) (by simp [f17,f13,f21,f26,f27,f28]) (by simp)) Tryz.func6 D6 4 Is λargs r e=>?_;unfold c6 at e;split at e
 ·rename_i s1 b1 c1 s2 b2 c2 s3 b3 c3 s4 b4 c4 k c l o v u m
  cases e;refine⟨by simp,λhm=>?_⟩;obtain⟨⟨hlo,hhi⟩,⟨hc,hk⟩,⟨ho,hl⟩,⟨a,rfl,ha⟩,⟨b,rfl,hb⟩,hm0⟩:=hm _ rfl;clear hm;obtain⟨lo,hlo'⟩:∃p,p=(PtS.mk ⟨s1,b1,c1⟩ ⟨s2,b2,c2⟩):=⟨_,rfl⟩;obtain⟨hi,hhi'⟩:∃p,p=(PtS.mk ⟨s3,b3,c3⟩ ⟨s4,b4,c4⟩):=⟨_,rfl⟩;have hc1:∀i,i < k->[.rs 6 (pn c i) (pg c i)]=c i:=λi hi=>(hc i hi).1.symm;have ho1:∀i,i < l->ag (ow o i)=o i:=λi hi=>(ho i hi).symm;refine⟨[],aa [(0,.agg (bq (PtS.mk ⟨s1,b1,c1⟩ ⟨s2,b2,c2⟩) (PtS.mk ⟨s3,b3,c3⟩ ⟨s4,b4,c4⟩) k c l o)),(1,.val a.v),(2,.val b.v),(3,.val (.int .u8 m))] [] 0 [],Wo trivial ⟨⟨rfl,rfl,rfl,rfl,rfl,rfl,rfl,rfl,rfl,rfl,rfl,rfl,⟨rfl,rfl,hc1⟩,⟨rfl,rfl,ho1⟩,qQ⟩,rfl,rfl,rfl,qQ⟩ trivial,?_⟩;rw [<-hlo'] at hlo ⊢;rw [<-hhi'] at hhi ⊢;clear hlo' hhi';have hX:isRg 140737488355328 (bq lo hi k c l o):=⟨rfl,⟨hlo,hhi⟩,⟨λi hi=>⟨rfl,(hc i hi).2⟩,hk⟩,λ_ _=>rfl,hl⟩;have p2:∀r:Nat->List PV,r 0=a.cells->r 1=b.cells->isPL 140737488355328 2 r:=λr h h'=>⟨λi hi=>by
   match i,hi with
   |0,_=>exact⟨by rw [ab,h];rfl,by rw [ab,h];exact ha⟩
   |1,_=>exact⟨by rw [ab,h'];rfl,by rw [ab,h'];exact hb⟩
   |i+2,h=>omega,by decide⟩
  with_unfolding_all refine⟨⟨hX,p2 _ rfl rfl⟩,λh1=>⟨[],aa [(8,.val (.bool true))] [] 0 [],Wo trivial ⟨rfl,qQ⟩ trivial,rfl,rfl⟩,λh1=>?_⟩
  obtain⟨hX12,⟨ha12,hb12⟩,⟨ca,cb⟩,hreg0⟩:=yA (a:=a) (b:=b) h1 rfl rfl hX;clear h1 p2;have hreg:bS lo hi k (pn c) (λi=>ab (pg c i)) l (ow o)=0:=hreg0;have hX4:isRg 10000 (bq lo hi k c l o):=hX12.mono (by decide);have pa:isPk 10000 a.v:=⟨a,rfl,ha12.mono (by decide)⟩;have pb:isPk 10000 b.v:=⟨b,rfl,hb12.mono (by decide)⟩;have hok:∀x y:PtS,ah x=true->ah y=true->fF lo hi k c l o (ar x y)=true:=λx y h h'=>by
   show(!(!ah x||!ah y)&&(bS lo hi k (pn c) (λi=>ab (pg c i)) l (ow o)==0))=true;rw [h,h',hreg];rfl
  have hE:∀x y:PtS,ah x=true->ah y=true->PV.val (.int .i64 (bV (fF lo hi k (λi=>[.rs 6 (pn c i) (pg c i)]) l (λi=>ag (ow o i)) (ar x y))))=PV.val (.int .i64 0):=λx y h h'=>by
   show PV.val (.int .i64 (bV (fF lo hi k c l o (ar x y))))=PV.val (.int .i64 0);rw [hok x y h h'];rfl
  have hV:∀x y:PtS,∀z:Bool,aZ lo hi k c l o x y=z->PV.val (.bool (aZ lo hi k (λi=>[.rs 6 (pn c i) (pg c i)]) l (λi=>ag (ow o i)) x y))=PV.val (.bool z):=λx y z h=>by
   show PV.val (.bool (aZ lo hi k c l o x y))=_;rw [h]
  have hS:=AD (a:=a) (b:=b) hreg ca cb;with_unfolding_all refine⟨⟨hX4,pa,pb⟩,⟨hX4,pb,pa⟩,⟨Bool×Bool,λx=>x.1=aZ lo hi k c l o a b/\x.2=aZ lo hi k c l o a a,λx=>aa [(3,.val (.int .u8 m)),(4,.ptr 0 0 0 0),(5,.ptr 1 1 0 0),(6,.ptr 2 2 0 0),(8,.val (.bool false)),(9,.val (.bool x.1)),(10,.val (.int .i64 0)),(11,.val (.bool x.1)),(12,.val (.int .i64 0)),(13,.val (.bool x.2)),(14,.val (.int .i64 0))] [⟨31,14,0,true,false,1,λ_=>bq lo hi k c l o⟩,⟨25,6,1,true,false,1,λ_=>a.cells⟩,⟨25,6,2,true,false,1,λ_=>b.cells⟩] 3 [],?_,λx hx=>?_⟩⟩
  ·with_unfolding_all refine⟨⟨hX4,pa,pa⟩,(aZ lo hi k c l o a b,aZ lo hi k c l o a a),[some 0,some 1,some 2],rq,Wo ⟨qZ ⟨rq,rq,rq,rq,rq,rq,rq,rq,rq,rq,rq,rq,⟨qW,rfl⟩,⟨qW,rfl⟩,qQ⟩,qK,qK,qQ⟩ ⟨rfl,pP,pP,pP,rfl,hV _ _ _ rfl,hE _ _ ca cb,hV _ _ _ hS,hE _ _ cb ca,hV _ _ _ rfl,hE _ _ ca ca,qQ⟩ trivial⟩
  ·obtain⟨x,y⟩:=x;obtain⟨e1,e2⟩:=hx;obtain⟨q,hq⟩:∃q,q=Rat.divInt (IntKind.i64.wrap m) 255:=⟨_,rfl⟩;have hw:IntKind.i64.wrap m=m:=wrap64 (by omega) (by omega);have hq':q=Rat.divInt m 255:=by rw [hq,hw]
   have hqb:RatS.le 2 (bt q):=by
    rw [hq'];exact(AC hm0.1 hm0.2).rs
   have hq01:=CX hm0.1 hm0.2;rw [<-hq'] at hq01;obtain⟨d,hd⟩:∃d,d=yX a b (bt q):=⟨_,rfl⟩;have cd:ah d=true:=by
    rw [hd];exact tO _ _ _
   have pd:isPk 10000 d.v:=by
    rw [hd];exact⟨_,rfl,(CY ha12 hb12 hqb).mono (by decide)⟩
   have hdX:d.X=a.X+(b.X - a.X)*q:=by rw [hd,FR,kM]
   have hdY:d.Y=a.Y+(b.Y - a.Y)*q:=by rw [hd,FS,kM]
   have pa1:isPk 1000 a.v:=⟨a,rfl,ha12.mono (by decide)⟩;have pb1:isPk 1000 b.v:=⟨b,rfl,hb12.mono (by decide)⟩;have pr1:isRk 1000 (bt q).v:=⟨_,_,_,rfl,Nat.le_trans hqb.1 (by decide),Nat.le_trans hqb.2 (by decide)⟩;have hB:∀z:Bool,aZ lo hi k c l o a a=z->(!(z==aZ lo hi k (λi=>[.rs 6 (pn c i) (pg c i)]) l (λi=>ag (ow o i)) a a))=true->False:=λz h kk=>by
    have e:aZ lo hi k (λi=>[.rs 6 (pn c i) (pg c i)]) l (λi=>ag (ow o i)) a a=z:=h;rw [e] at kk;simp at kk
   have hF:∀z:PtS,aZ lo hi k c l o z z=true->(aZ lo hi k (λi=>[.rs 6 (pn c i) (pg c i)]) l (λi=>ag (ow o i)) z z = !true)->False:=λz h kk=>by
    have e:aZ lo hi k (λi=>[.rs 6 (pn c i) (pg c i)]) l (λi=>ag (ow o i)) z z=true:=h;rw [e] at kk;cases kk
   have hR:PV.val (.bool (bt (Rat.divInt (IntKind.i64.wrap m) 255)).s)=PV.val (.bool (bt q).s)/\PV.val (.string (bt (Rat.divInt (IntKind.i64.wrap m) 255)).b)=PV.val (.string (bt q).b)/\PV.val (.string (bt (Rat.divInt (IntKind.i64.wrap m) 255)).c)=PV.val (.string (bt q).c):=by
    rw [hq];exact⟨rfl,rfl,rfl⟩
   have hD:=fJ hd.symm;have nw:IntKind.i64.wrap m < 256/\0<=IntKind.i64.wrap m:=by omega
   cases x with
   |false=>with_unfolding_all refine⟨λ_=>⟨λ_=>⟨λ_=>⟨λ_=>⟨⟨hX4,pa⟩,λh=>(hB y e2.symm h).elim,λ_=>⟨λ_=>⟨[],aa [(8,.val (.bool true))] [] 0 [],Wo trivial ⟨rfl,qQ⟩ trivial,rfl,rfl⟩,λh=>(nomatch h)⟩⟩,λh=>(nomatch h)⟩,λh=>(nomatch h)⟩,λh=>(nomatch h)⟩,λh=>(nomatch h)⟩
   |true =>
    obtain⟨⟨s1,s2⟩,s3,s4,s5⟩:=yy hreg ca cb cd hdX hdY hq01.1 hq01.2 e1.symm;with_unfolding_all refine⟨λ_=>⟨λ_=>⟨λ_=>⟨λ_=>⟨⟨hX4,pa⟩,λh=>(hB y e2.symm h).elim,λ_=>⟨λh=>(nomatch h),λ_=>⟨Unit,λ_=>True,λ_=>aa [(4,.ptr 0 0 0 0),(5,.ptr 1 1 0 0),(6,.ptr 2 2 0 0),(8,.val (.bool false)),(15,.ptr 3 3 0 0)] [⟨31,14,0,true,false,1,λ_=>bq lo hi k c l o⟩,⟨25,6,1,true,false,1,λ_=>a.cells⟩,⟨25,6,2,true,false,1,λ_=>b.cells⟩,⟨23,3,3,true,false,1,λ_=>(bt q).cells⟩] 4 [],?_,λ_ _=>?_⟩⟩⟩,λh=>(nomatch h)⟩,λh=>(nomatch h)⟩,λh=>(nomatch h)⟩,λh=>(nomatch h)⟩
    ·with_unfolding_all refine⟨⟨⟨by omega,by omega⟩,by decide,by decide⟩,(),[some 0,some 1,some 2,some 3],trivial,Wo ⟨qZ ⟨rq,rq,rq,rq,rq,rq,rq,rq,rq,rq,rq,rq,⟨qW,rfl⟩,⟨qW,rfl⟩,qQ⟩,qK,qK,qZ ⟨⟨hR.1,rfl⟩,⟨hR.2.1,rfl⟩,⟨hR.2.2,rfl⟩,qQ⟩,qQ⟩ ⟨pP,pP,pP,rfl,pP,qQ⟩ trivial⟩
    ·with_unfolding_all refine⟨Unit,λ_=>True,λ_=>aa [(4,.ptr 0 0 0 0),(5,.ptr 1 1 0 0),(6,.ptr 2 2 0 0),(8,.val (.bool false)),(17,.ptr 3 3 0 0)] [⟨31,14,0,true,false,1,λ_=>bq lo hi k c l o⟩,⟨25,6,1,true,false,1,λ_=>a.cells⟩,⟨25,6,2,true,false,1,λ_=>b.cells⟩,⟨25,6,3,true,false,1,λ_=>d.cells⟩] 4 [],?_,λ_ _=>?_⟩
     ·with_unfolding_all refine⟨⟨pa1,pb1,pr1⟩,(),[some 0,some 1,some 2,some 4],trivial,Wo ⟨qZ ⟨rq,rq,rq,rq,rq,rq,rq,rq,rq,rq,rq,rq,⟨qW,rfl⟩,⟨qW,rfl⟩,qQ⟩,qK,qK,qZ ⟨⟨hD.1,rfl⟩,⟨hD.2.1,rfl⟩,⟨hD.2.2.1,rfl⟩,⟨hD.2.2.2.1,rfl⟩,⟨hD.2.2.2.2.1,rfl⟩,⟨hD.2.2.2.2.2,rfl⟩,qQ⟩,qQ⟩ ⟨pP,pP,pP,rfl,pP,qQ⟩ trivial⟩
     ·with_unfolding_all refine⟨⟨hX4,pa,pd⟩,⟨Unit,λ_=>True,λ_=>aa [(4,.ptr 0 0 0 0),(5,.ptr 1 1 0 0),(6,.ptr 2 2 0 0),(8,.val (.bool false)),(17,.ptr 3 3 0 0),(18,.val (.bool true)),(19,.val (.int .i64 0)),(20,.val (.bool true)),(21,.val (.int .i64 0))] [⟨31,14,0,true,false,1,λ_=>bq lo hi k c l o⟩,⟨25,6,1,true,false,1,λ_=>a.cells⟩,⟨25,6,2,true,false,1,λ_=>b.cells⟩,⟨25,6,3,true,false,1,λ_=>d.cells⟩] 4 [],?_,λ_ _=>?_⟩⟩
      ·with_unfolding_all refine⟨⟨hX4,pd,pb⟩,(),[some 0,some 1,some 2,some 3],trivial,Wo ⟨qZ ⟨rq,rq,rq,rq,rq,rq,rq,rq,rq,rq,rq,rq,⟨qW,rfl⟩,⟨qW,rfl⟩,qQ⟩,qK,qK,qK,qQ⟩ ⟨pP,pP,pP,rfl,pP,hV _ _ _ s1,hE _ _ ca cd,hV _ _ _ s2,hE _ _ cd cb,qQ⟩ trivial⟩
      ·with_unfolding_all exact⟨λ_=>⟨λ_=>⟨λ_=>⟨λ_=>⟨⟨hX4,pa⟩,λ_=>⟨⟨hX4,pb⟩,λ_=>⟨⟨hX4,pd⟩,λ_=>⟨[],aa [(8,.val (.bool true))] [] 0 [],Wo trivial ⟨rfl,qQ⟩ trivial,rfl,rfl⟩,λh=>(hF _ s5 h).elim⟩,λh=>(hF _ s4 h).elim⟩,λh=>(hF _ s3 h).elim⟩,λh=>(nomatch h)⟩,λh=>(nomatch h)⟩,λh=>(nomatch h)⟩,λh=>(nomatch h)⟩
 ·cases e
end Go.Proofs
namespace Go.Num
theorem tP (a:Rat):(a < 0/\ao a 0 = -1)\/(0 < a/\ao a 0=1)\/(a=0/\ao a 0=0):=by
 unfold ao;split
 ·rename_i h
  exact .inl ⟨h,rfl⟩
 ·rename_i h
  split
  ·rename_i h2
   exact .inr (.inl ⟨h2,rfl⟩)
  ·rename_i h2
   exact .inr (.inr ⟨by grind,rfl⟩)
theorem yB {p u:RatS} (h:De p u=true):p=u:=by
 have be:∀x y:ByteArray,(x==y)=true->x=y:=λ⟨x⟩ ⟨y⟩ h=>by
  have h:(x==y)=true:=h;rw [eq_of_beq h]
 unfold De at h;simp only [Bool.and_true,Bool.and_eq_true] at h;obtain⟨h1,h2,h3⟩:=h;obtain⟨s,b,c⟩:=p;obtain⟨s',b',c'⟩:=u;have h1:=eq_of_beq h1;have h2:=be _ _ h2;have h3:=be _ _ h3;simp only at h1 h2 h3;rw [h1,h2,h3]
theorem tQ {p u:PtS} (h:bW p u=true):p=u:=by
 unfold bW at h;simp only [Bool.and_true,Bool.and_eq_true] at h;obtain⟨x,y⟩:=p;obtain⟨x',y'⟩:=u;have h1:=yB h.1;have h2:=yB h.2;simp only at h1 h2;rw [h1,h2]
theorem rR {p u:PtS} (h:bW p u=true):p.X=u.X/\p.Y=u.Y:=by
 rw [tQ h];exact⟨rfl,rfl⟩
theorem mG {n:Nat} {p:Nat->PtS} (h:bd n p=0):(3<=n/\n<=64)/\(∀i,i < n->ah (p i)=true)/\∀e,e < n->∀i,i < n->dp (p e) (p ((e+1)%n)) (p i)=false:=by
 unfold bd at h;cases h1:(decide (n < 3)||decide (64 < n)) with
 |true=>rw [h1] at h;cases h
 |false =>
  rw [h1,cond_false] at h;cases h2:aE (λi=>!ah (p i)) n with
  |true=>rw [h2] at h;cases h
  |false =>
   rw [h2,cond_false] at h;cases h3:aE (λi=>mO (p 0) (p (1+i))) (n - 1) with
   |true=>rw [h3] at h;cases h
   |false =>
    rw [h3,cond_false] at h;cases h4:aE (λe=>aE (λi=>dp (p e) (p ((e+1)%n)) (p i)) n) n with
    |true=>rw [h4] at h;cases h
    |false =>
     simp only [Bool.or_eq_false_iff,decide_eq_false_iff_not] at h1;exact⟨by omega,λi hi=>by simpa using (az.1 h2) i hi,λe he i hi=>(az.1 ((az.1 h4) e he)) i hi⟩
theorem nO {S:PtS->Bool} {p:Nat->PtS} {x:PtS}:∀{j:Nat},x∈cS S p j->∃t,t < j/\x=p t/\S x=true
 |0,h=>by cases h
 |j+1,h=>by
  rcases List.mem_append.1 h with h|h
  ·obtain⟨t,h1,h2⟩:=nO h;exact⟨t,by omega,h2⟩
  ·cases hs:S (p j) with
   |true =>
    rw [hs] at h;have:=List.mem_singleton.1 h;exact⟨j,by omega,this,by rw [this];exact hs⟩
   |false=>rw [hs] at h;cases h
theorem fc {S:PtS->Bool} {n:Nat->Nat} {p:Nat->Nat->PtS} {x:PtS}:∀{i:Nat},x∈cA S n p i->∃s,s < i/\∃t,t < n s/\x=p s t/\S x=true
 |0,h=>by cases h
 |i+1,h=>by
  rcases List.mem_append.1 h with h|h
  ·obtain⟨s,h1,h2⟩:=fc h;exact⟨s,by omega,h2⟩
  ·obtain⟨t,h1,h2⟩:=nO h;exact⟨i,by omega,t,h1,h2⟩
theorem nP (S:PtS->Bool) (p:Nat->PtS):∀j,(cS S p j).length<=j
 |0=>Nat.le_refl _
 |j+1=>by
  have:=nP S p j;rw [cS,List.length_append];cases S (p j)<;>simp<;>omega
theorem nQ (S:PtS->Bool) (n:Nat->Nat) (p:Nat->Nat->PtS):∀i,(cA S n p i).length<=cm n i
 |0=>Nat.le_refl _
 |i+1=>by
  have:=nQ S n p i;have:=nP S (p i) (n i);rw [cA,List.length_append,cm];omega
theorem wD {lo hi:PtS} {k:Nat} {c:Nat->List PV} {l:Nat} {o:Nat->List PV} {x:PtS} (h:x∈dv lo hi k c l o):x∈au lo hi k c l o:=by
 obtain⟨i,hi2,e⟩:=iv h;refine(d7 _).mem_iff.1 ?_;rw [e];unfold ae;rw [List.getElem?_eq_getElem (by rw [f7];exact hi2)];exact List.getElem_mem _
theorem rU {lo hi:PtS} {k:Nat} {c:Nat->List PV} {l:Nat} {o:Nat->List PV} (hr:bS lo hi k (pn c) (λi=>ab (pg c i)) l (ow o)=0) {x:PtS} (h:x∈au lo hi k c l o):ah x=true:=by
 obtain⟨s,hs,t,ht,e,_⟩:=fc h;rw [e];exact(mG (iz hr s hs)).2.1 t ht
theorem yC {lo hi:PtS} {k:Nat} {n:Nat->Nat} {p:Nat->Nat->PtS} {l:Nat} {q:Nat->Int×Int×Int} (hr:bS lo hi k n p l q=0):k<=32:=by
 unfold bS at hr;cases h1:(!ah lo||!ah hi) with
 |true=>rw [h1] at hr;cases hr
 |false =>
  rw [h1,cond_false] at hr;cases h2:decide (32 < k) with
  |true=>rw [h2] at hr;cases hr
  |false=>have:=of_decide_eq_false h2;omega
theorem jS {r:RatS} (h:bg r.v=true):r=bt r.q:=by
 have be:∀x y:ByteArray,(x==y)=true->x=y:=λ⟨x⟩ ⟨y⟩ h=>by
  have h:(x==y)=true:=h;rw [eq_of_beq h]
 obtain⟨s,b,c⟩:=r;have h:fO s b c (aD (RatS.v ⟨s,b,c⟩))=true:=h;unfold fO at h;simp only [Bool.and_true,Bool.and_eq_true] at h;obtain⟨h1,h2,h3⟩:=h;have h1:=eq_of_beq h1;have h2:=be _ _ h2;have h3:=be _ _ h3;unfold RatS.q bt;generalize aD (RatS.v ⟨s,b,c⟩)=q at *
 rw [h1,h2,h3]
theorem rV {p u:PtS} (hp:ah p=true) (hu:ah u=true) (hx:p.X=u.X) (hy:p.Y=u.Y):p=u:=by
 unfold ah at hp hu;rw [Bool.and_eq_true] at hp hu;obtain⟨x,y⟩:=p;obtain⟨x',y'⟩:=u;have a1:=jS hp.1;have a2:=jS hp.2;have a3:=jS hu.1;have a4:=jS hu.2;simp only at a1 a2 a3 a4;have hx:x.q=x'.q:=hx;have hy:y.q=y'.q:=hy;rw [a1,a2,a3,a4,hx,hy]
theorem rW {p u:PtS} (h1:¬bc p u < 0) (h2:¬bc u p < 0):p.X=u.X/\p.Y=u.Y:=by
 rw [fZ] at h1 h2
 grind
theorem mH {p u v:PtS} (h1:¬bc u p < 0) (h2:bc u v < 0):bc p v < 0:=by
 rw [fZ] at *
 grind
theorem jU {p:Nat->PtS} {n:Nat} (hs:∀i j,i < j->j < n->¬bc (p j) (p i) < 0) (hc:∀i,i < n->ah (p i)=true):∀j,j<=n->(aR p j).Pairwise λx y=>bc x y < 0
 |0,_=>List.Pairwise.nil
 |j+1,hj=>by
  rw [aR,List.pairwise_append];refine⟨jU hs hc j (by omega),?_,λx hx y hy=>?_⟩
  ·cases (j==0||!bW (p j) (p (j - 1)))<;>simp
  ·obtain⟨i,hi,e⟩:=iv hx;cases hb:(j==0||!bW (p j) (p (j - 1))) with
   |false=>rw [hb] at hy;cases hy
   |true =>
    rw [hb] at hy;rw [List.mem_singleton.1 hy,e];have hne:bW (p j) (p (j - 1))=false:=by
     have:(j==0)=false:=by simp;omega
     rw [this] at hb;simpa using hb
    have h1:bc (p (j - 1)) (p j) < 0:=by
     by_cases h:bc (p (j - 1)) (p j) < 0
     ·exact h
     ·have h2:=rW h (hs (j - 1) j (by omega) (by omega));have h3:=rV (hc (j - 1) (by omega)) (hc j (by omega)) h2.1 h2.2;rw [h3,g8] at hne;cases hne
    by_cases hij:i=j - 1
    ·rw [hij];exact h1
    ·exact mH (hs i (j - 1) (by omega) (by omega)) h1
theorem ku {p:Nat->PtS} {i:Nat}:∀{n:Nat},i < n->p i∈aR p n
 |0,h=>by omega
 |n+1,h=>by
  rw [aR];by_cases e:i=n
  ·subst e;cases hb:(i==0||!bW (p i) (p (i - 1))) with
   |true=>exact List.mem_append_right _ (List.mem_singleton.2 rfl)
   |false =>
    have h2:i≠0/\bW (p i) (p (i - 1))=true:=by simpa using hb
    refine List.mem_append_left _ ?_;rw [tQ h2.2];exact ku (by omega)
  ·exact List.mem_append_left _ (ku (by omega))
theorem nR {S:PtS->Bool} {p:Nat->PtS} {t:Nat} (hS:S (p t)=true):∀{j:Nat},t < j->p t∈cS S p j
 |0,h=>by omega
 |j+1,h=>by
  rw [cS];by_cases e:t=j
  ·subst e;rw [hS];exact List.mem_append_right _ (List.mem_singleton.2 rfl)
  ·exact List.mem_append_left _ (nR hS (by omega))
theorem iA {S:PtS->Bool} {n:Nat->Nat} {p:Nat->Nat->PtS} {s t:Nat} (ht:t < n s) (hS:S (p s t)=true):∀{i:Nat},s < i->p s t∈cA S n p i
 |0,h=>by omega
 |i+1,h=>by
  rw [cA];by_cases e:s=i
  ·subst e;exact List.mem_append_right _ (nR hS ht)
  ·exact List.mem_append_left _ (iA ht hS (by omega))
theorem kv {L:List PtS} {i:Nat} (hi:i < L.length):ae L i∈L:=by
 unfold ae;rw [List.getElem?_eq_getElem hi];exact List.getElem_mem hi
theorem wE {L:List PtS} {x:PtS} (h:x∈L):∃i,i < L.length/\x=ae L i:=by
 obtain⟨i,hi,e⟩:=List.mem_iff_getElem.1 h;exact⟨i,hi,by rw [<-e,ae,List.getElem?_eq_getElem hi];rfl⟩
def HW (n:Nat->Nat) (p:Nat->Nat->PtS) (k:Nat):List PtS:=cA (λ_=>true) n p k
theorem wF {lo hi:PtS} {k:Nat} {c:Nat->List PV} {l:Nat} {o:Nat->List PV} {x:PtS}:x∈dv lo hi k c l o↔x∈HW (pn c) (λi=>ab (pg c i)) k/\aZ lo hi k c l o x x=true:=by
 constructor
 ·intro h;obtain⟨s,hs,t,ht,e,hS⟩:=fc (wD h);refine⟨?_,hS⟩;rw [e];exact iA (S:=λ_=>true) (p:=λi=>ab (pg c i)) ht rfl hs
 ·rintro ⟨h,hS⟩;obtain⟨s,hs,t,ht,e,_⟩:=fc h;have hv:x∈au lo hi k c l o:=by
   rw [e] at hS ⊢;exact iA (S:=λp=>aZ lo hi k c l o p p) (p:=λi=>ab (pg c i)) ht hS hs
  obtain⟨i,hi2,e2⟩:=wE ((d7 _).mem_iff.2 hv);rw [e2];exact ku (by rw [f7] at hi2;exact hi2)
theorem pA {lo hi:PtS} {k:Nat} {c:Nat->List PV} {l:Nat} {o:Nat->List PV} (hr:bS lo hi k (pn c) (λi=>ab (pg c i)) l (ow o)=0) (hc:bQ 10000 k c):(dv lo hi k c l o).Pairwise λx y=>bc x y < 0:=by
 have hv:=jO (lo:=lo) (hi:=hi) (l:=l) (o:=o) hc;have hp:=List.pairwise_iff_getElem.1 (kP hv);refine jU (λi j h1 h2=>?_) (λi hi2=>?_) _ (Nat.le_refl _)
 ·have hj:j < (aP (au lo hi k c l o)).length:=by rw [f7];exact h2
  unfold ae;rw [List.getElem?_eq_getElem hj,List.getElem?_eq_getElem (by omega)];exact hp i j (by omega) hj h1
 ·exact rU hr ((d7 _).mem_iff.1 (kv (by rw [f7];exact hi2)))
def k9 (a b:Rat):Rat:=if ao b a > 0 then b else a
def lc (a b:Rat):Rat:=if ao b a < 0 then b else a
def nS (A D:Nat->Rat):Nat->Option (Rat×Rat)
 |0=>some (0,1)
 |e+1=>match nS A D e with
  |none=>none
  |some s=>if ao (D e) 0=0 then(if ao (A e) 0<=0 then none else some s) else if ao (D e) 0 > 0 then some (k9 s.1 (-A e / D e),s.2) else some (s.1,lc s.2 (-A e / D e))
def Dh (A D:Nat->Rat) (n:Nat):Bool:=match nS A D n with
 |none=>false
 |some s=>!decide (ao s.1 s.2>=0)
theorem yD {a d t:Rat} (hd:d≠0):a+d*t=d*(t - -a / d):=by
 have h : -a / d*d = -a:=Rat.div_mul_cancel hd
 grind
theorem AE {a d t:Rat} (hd:0 < d):0 < a+d*t ↔ -a / d < t:=by
 rw [yD (by grind)];constructor
 ·intro h;have:0 < t - -a / d:=fp (by rw [Rat.mul_comm];exact h) hd
  grind
 ·intro h;exact Rat.mul_pos hd (by grind)
theorem AF {a d t:Rat} (hd:d < 0):0 < a+d*t↔t < -a / d:=by
 rw [yD (by grind),show d*(t - -a / d)=(-a / d - t) * -d by grind];constructor
 ·intro h;have:0 < -a / d - t:=fp h (by grind)
  grind
 ·intro h;exact Rat.mul_pos (by grind) (by grind)
theorem uS {a b t:Rat}:k9 a b < t↔a < t/\b < t:=by
 unfold k9;split
 ·rename_i h
  have:=(jR (a:=b) (b:=a)).1 (decide_eq_true h);constructor
  ·intro h2;exact⟨by grind,h2⟩
  ·exact(·.2)
 ·rename_i h
  have:¬a < b:=λk=>h (of_decide_eq_true ((jR (a:=b) (b:=a)).2 k));constructor
  ·intro h2;exact⟨h2,by grind⟩
  ·exact(·.1)
theorem uT {a b t:Rat}:t < lc a b↔t < a/\t < b:=by
 unfold lc;split
 ·rename_i h
  have:=fY.1 h;constructor
  ·intro h2;exact⟨by grind,h2⟩
  ·exact(·.2)
 ·rename_i h
  have:¬b < a:=λk=>h (fY.2 k);constructor
  ·intro h2;exact⟨h2,by grind⟩
  ·exact(·.1)
theorem AG {a b:Rat}:a<=k9 a b:=by
 rcases Rat.not_lt.1 (λh:k9 a b < a=>by have:=(uS.1 h).1;exact Rat.lt_irrefl this) with h;exact h
theorem AH {a b:Rat}:lc a b<=a:=by
 rcases Rat.not_lt.1 (λh:a < lc a b=>by have:=(uT.1 h).1;exact Rat.lt_irrefl this) with h;exact h
def IvP (A D:Nat->Rat) (n:Nat) (t:Rat):Prop:=∀e,e < n->0 < A e+D e*t
theorem IvP.succ {A D:Nat->Rat} {n:Nat} {t:Rat}:IvP A D (n+1) t↔IvP A D n t/\0 < A n+D n*t:=by
 constructor
 ·intro h;exact⟨λe he=>h e (by omega),h n (by omega)⟩
 ·rintro ⟨h,k⟩ e he;by_cases x:e=n
  ·rw [x];exact k
  ·exact h e (by omega)
theorem rX {A D:Nat->Rat}:∀{n:Nat},(nS A D n=none->∀t:Rat,0 < t->t < 1->¬IvP A D n t)/\∀s,nS A D n=some s->(0<=s.1/\s.2<=1)/\∀t:Rat,0 < t->t < 1->(IvP A D n t↔s.1 < t/\t < s.2)
 |0=>⟨(λh=>by cases h),λs h=>by
   cases h;exact⟨⟨by decide,by decide⟩,λt h0 h1=>⟨λ_=>⟨h0,h1⟩,λ_ e he=>absurd he (Nat.not_lt_zero e)⟩⟩⟩
 |n+1=>by
  obtain⟨ih1,ih2⟩:=@rX A D n;rw [nS];cases hs:nS A D n with
  |none=>exact⟨λ_ t h0 h1 h=>ih1 hs t h0 h1 (IvP.succ.1 h).1,λs h=>by cases h⟩
  |some s =>
   obtain⟨⟨b0,b1⟩,ih⟩:=ih2 s hs;simp only;by_cases z:ao (D n) 0=0
   ·rw [if_pos z];have hz:=ms.1 z;by_cases y:ao (A n) 0<=0
    ·rw [if_pos y];refine⟨λ_ t h0 h1 h=>?_,λs h=>by cases h⟩;have h2:=(IvP.succ.1 h).2;rw [hz] at h2;have h3:0 < A n:=by grind
     have:=(ef (a:=A n)).2 h3;have:=of_decide_eq_true this;omega
    ·rw [if_neg y];refine⟨(λh=>by cases h),λs' h=>?_⟩;cases h;refine⟨⟨b0,b1⟩,λt h0 h1=>?_⟩;rw [IvP.succ,<-ih t h0 h1];have h3:0 < A n:=(ef (a:=A n)).1 (decide_eq_true (by omega));exact⟨(·.1),λh=>⟨h,by rw [hz];grind⟩⟩
   ·rw [if_neg z];by_cases y:ao (D n) 0 > 0
    ·rw [if_pos y];have hD:0 < D n:=(ef (a:=D n)).1 (decide_eq_true y);refine⟨(λh=>by cases h),λs' h=>?_⟩;cases h;refine⟨⟨Rat.le_trans b0 AG,b1⟩,λt h0 h1=>?_⟩;rw [IvP.succ,ih t h0 h1,AE hD];simp only [uS];exact⟨λh=>⟨⟨h.1.1,h.2⟩,h.1.2⟩,λh=>⟨⟨h.1.1,h.2⟩,h.1.2⟩⟩
    ·rw [if_neg y];have hD:D n < 0:=fY.1 (by omega);refine⟨(λh=>by cases h),λs' h=>?_⟩;cases h;refine⟨⟨b0,Rat.le_trans AH b1⟩,λt h0 h1=>?_⟩;rw [IvP.succ,ih t h0 h1,AF hD];simp only [uT];exact⟨λh=>⟨h.1.1,h.1.2,h.2⟩,λh=>⟨⟨h.1,h.2.1⟩,h.2.2⟩⟩
theorem uU {A B D:Nat->Rat} {n:Nat} (hD:∀e,e < n->D e=B e - A e):Dh A D n=true↔Hit n A B:=by
 have hp:∀t:Rat,IvP A D n t↔∀e,e < n->0 < A e+(B e - A e)*t:=λt=>by
  constructor
  ·intro h e he;rw [<-hD e he];exact h e he
  ·intro h e he;rw [hD e he];exact h e he
 obtain⟨h1,h2⟩:=@rX A D n;unfold Dh Hit;cases hs:nS A D n with
 |none =>
  constructor
  ·intro h;cases h
  ·rintro ⟨t,k0,k1,k⟩;exact absurd ((hp t).2 k) (h1 hs t k0 k1)
 |some s =>
  obtain⟨⟨b0,b1⟩,ih⟩:=h2 s hs;have e:(!decide (ao s.1 s.2>=0))=true↔s.1 < s.2:=by
   rw [Bool.not_eq_true',decide_eq_false_iff_not,<-fY];omega
  rw [e];constructor
  ·intro h;refine⟨(s.1+s.2) / 2,?_,?_,(hp _).1 ((ih _ ?_ ?_).2 ⟨?_,?_⟩)⟩<;>grind
  ·rintro ⟨t,k0,k1,k⟩;have:=(ih t k0 k1).1 ((hp t).2 k)
   grind
def ld (n:Nat) (p:Nat->PtS) (v:PtS):Nat->Int
 |0=>1
 |e+1=>min (ld n p v e) (jM (p e) (p ((e+1)%n)) v)
theorem uX {n:Nat} {p:Nat->PtS} {v:PtS}:∀{j:Nat},ld n p v j<=1/\(ld n p v j=1↔∀e,e < j->0 < fu n p v e)
 |0=>⟨Int.le_refl _,λ_ e he=>absurd he (Nat.not_lt_zero e),λ_=>rfl⟩
 |j+1=>by
  obtain⟨h1,h2⟩:=@uX n p v j;have ho:jM (p j) (p ((j+1)%n)) v=ao (fu n p v j) 0:=rfl;rw [ld,ho];rcases tP (fu n p v j) with ⟨h,k⟩|⟨h,k⟩|⟨h,k⟩
  ·rw [k];refine⟨by omega,⟨λe=>by omega,λe=>?_⟩⟩;have:=e j (by omega);exfalso;grind
  ·rw [k];refine⟨by omega,⟨λe t ht=>?_,λe=>?_⟩⟩
   ·by_cases x:t=j
    ·rw [x];exact h
    ·exact h2.1 (by omega) t (by omega)
   ·rw [h2.2 λt ht=>e t (by omega)];rfl
  ·rw [k];refine⟨by omega,⟨λe=>by omega,λe=>?_⟩⟩;have:=e j (by omega);exfalso;grind
def dK (i:Nat) (lo hi p:PtS):Bool:=match i with
 |0=>decide (ao p.X lo.X < 0)
 |1=>decide (ao hi.X p.X < 0)
 |2=>decide (ao p.Y lo.Y < 0)
 |_=>decide (ao hi.Y p.Y < 0)
theorem yE {i:Nat} {lo hi p:PtS}:dK i lo hi p=true↔0 < aK i lo hi p:=by
 match i with
 |0=>show decide (ao p.X lo.X < 0)=true↔0 < lo.X - p.X;rw [f8];constructor<;>intro h<;>grind
 |1=>show decide (ao hi.X p.X < 0)=true↔0 < p.X - hi.X;rw [f8];constructor<;>intro h<;>grind
 |2=>show decide (ao p.Y lo.Y < 0)=true↔0 < lo.Y - p.Y;rw [f8];constructor<;>intro h<;>grind
 |i+3=>show decide (ao hi.Y p.Y < 0)=true↔0 < p.Y - hi.Y;rw [f8];constructor<;>intro h<;>grind
theorem eZ {i:Nat} {lo hi p:PtS}:dK i lo hi p=false↔aK i lo hi p<=0:=by
 rw [<-Bool.not_eq_true,yE];exact Rat.not_lt
def gv (n:Nat) (p:Nat->PtS) (a b:PtS) (e:Nat):Rat:=cE (ck (p ((e+1)%n)) (p e)) (ck b a)
theorem uY (n:Nat) (p:Nat->PtS) (a b:PtS) (e:Nat):gv n p a b e=fu n p b e - fu n p a e:=by
 unfold gv fu po cE ck;rw [iS,iT,iS,iT,iS,iT,iS,iT]
 grind
def kw (lo hi:PtS) (k:Nat) (n:Nat->Nat) (p:Nat->Nat->PtS) (a b:PtS):Bool:=aE (λi=>dK i lo hi a||dK i lo hi b) 4||aE (λi=>Dh (fu (n i) (p i) a) (gv (n i) (p i) a b) (n i)) k
def ap (lo hi:PtS) (k:Nat) (n:Nat->Nat) (p:Nat->Nat->PtS) (a:PtS):Bool:=!(aE (λi=>dK i lo hi a) 4||aE (λi=>ld (n i) (p i) a (n i)==1) k)
theorem yF {lo hi:PtS} {k:Nat} {c:Nat->List PV} {l:Nat} {o:Nat->List PV} {a b:PtS} (hr:bS lo hi k (pn c) (λi=>ab (pg c i)) l (ow o)=0) (ha:ah a=true) (hb:ah b=true):(!kw lo hi k (pn c) (λi=>ab (pg c i)) a b)=aZ lo hi k c l o a b:=by
 rw [Bool.eq_iff_iff,dx hr ha hb];unfold kw;rw [Bool.not_eq_true',Bool.or_eq_false_iff,az,az];constructor
 ·rintro ⟨h1,h2⟩;refine⟨λi hi=>?_,λi hi=>?_,λi hi h=>?_⟩
  ·have:=h1 i hi;rw [Bool.or_eq_false_iff,eZ,eZ] at this;exact this.1
  ·have:=h1 i hi;rw [Bool.or_eq_false_iff,eZ,eZ] at this;exact this.2
  ·have:=h2 i hi;rw [(uU λe _=>uY _ _ _ _ e).2 h] at this;cases this
 ·intro h;refine⟨λi hi=>?_,λi hi=>?_⟩
  ·rw [Bool.or_eq_false_iff,eZ,eZ];exact⟨h.inA i hi,h.inB i hi⟩
  ·rw [<-Bool.not_eq_true,uU λe _=>uY _ _ _ _ e];exact h.clear i hi
theorem nU {lo hi:PtS} {k:Nat} {c:Nat->List PV} {l:Nat} {o:Nat->List PV} {a:PtS} (hr:bS lo hi k (pn c) (λi=>ab (pg c i)) l (ow o)=0) (ha:ah a=true):ap lo hi k (pn c) (λi=>ab (pg c i)) a=aZ lo hi k c l o a a:=by
 rw [Bool.eq_iff_iff,dx hr ha ha];unfold ap;rw [Bool.not_eq_true',Bool.or_eq_false_iff,az,az];have hit:∀i,Hit (pn c i) (fu (pn c i) (ab (pg c i)) a) (fu (pn c i) (ab (pg c i)) a)↔(ld (pn c i) (ab (pg c i)) a (pn c i)==1)=true:=λi=>by
  rw [beq_iff_eq,uX.2];constructor
  ·rintro ⟨t,_,_,h⟩ e he;have:=h e he
   grind
  ·intro h;refine⟨1 / 2,by grind,by grind,λe he=>?_⟩;have:=h e he
   grind
 constructor
 ·rintro ⟨h1,h2⟩;refine⟨λi hi=>eZ.1 (h1 i hi),λi hi=>eZ.1 (h1 i hi),λi hi h=>?_⟩;have:=h2 i hi;rw [(hit i).1 h] at this;cases this
 ·intro h;refine⟨λi hi=>eZ.2 (h.inA i hi),λi hi=>?_⟩;rw [<-Bool.not_eq_true,<-hit];exact h.clear i hi
theorem rY {L M:List PtS} (hL:L.Pairwise λx y=>bc x y < 0) (hM:M.Pairwise λx y=>bc x y < 0) (h:∀x,x∈L↔x∈M):L=M:=by
 have nd:∀{K:List PtS},K.Pairwise (λx y=>bc x y < 0)->K.Nodup:=λhK=>hK.imp λ{a b} hab e=>by
  subst e;exact jh hab hab
 refine List.Perm.eq_of_pairwise (le:=λx y=>bc x y < 0) (λa b _ _ h1 h2=>absurd h2 (jh h1)) hL hM ?_;exact(List.perm_ext_iff_of_nodup (nd hL) (nd hM)).2 h
def CZ (p u:RatS):RatS:=bif decide (ao u.q p.q > 0) then u else p
def C0 (p u:RatS):RatS:=bif decide (ao u.q p.q < 0) then u else p
theorem FT (s:Bool) (b c:ByteArray):aD (.agg ⟨[.bool (!s),.string b,.string c]⟩) = -aD (.agg ⟨[.bool s,.string b,.string c]⟩):=by
 show mkRat (aA (!s) (bv b)) (bk (bv c)) = -mkRat (aA s (bv b)) (bk (bv c));rw [Rat.neg_mkRat];congr 1;cases s<;>simp [aA]
end Go.Num
namespace Go.Proofs
def C1:List PV->Option Ans
 |[.val (.agg ⟨[.bool s,.string b,.string c]⟩),.val (.agg ⟨[.bool s',.string b',.string c']⟩)]=>some ⟨some (isRk 1073741824 (.agg ⟨[.bool s,.string b,.string c]⟩)/\isRk 1073741824 (.agg ⟨[.bool s',.string b',.string c']⟩)),.val (.bool (decide (ao (aD (.agg ⟨[.bool s,.string b,.string c]⟩)) (aD (.agg ⟨[.bool s',.string b',.string c']⟩)) < 0))),[]⟩
 |_=>none
def D184:Opt:={  }
theorem FU:am D184.toOrd Tryz.f184 2=true:=by kernel_rfl
theorem f184:FnOk Tryz.prog 184 C1:=by
 refine FnOk.ofW aj (an (l:=[(135,rn)]) (own:=[]) (inl:=[]) (by simp [f135]) (by simp)) Tryz.func184 D184 2 FU λargs r e=>?_;unfold C1 at e;split at e
 ·rename_i s b c s' b' c'
  cases e;refine⟨by simp,λhm=>?_⟩;obtain⟨hv,hu⟩:=hm _ rfl;refine⟨[],aa [(0,.val (.agg ⟨[.bool s,.string b,.string c]⟩)),(1,.val (.agg ⟨[.bool s',.string b',.string c']⟩))] [] 0 [],Wo trivial ⟨rfl,rfl,qQ⟩ trivial,?_⟩;with_unfolding_all exact⟨⟨hv,hu⟩,⟨[],aa [(4,.val (.bool (decide (ao (aD (.agg ⟨[.bool s,.string b,.string c]⟩)) (aD (.agg ⟨[.bool s',.string b',.string c']⟩)) < 0))))] [] 0 [],Wo trivial ⟨rfl,qQ⟩ trivial,rfl,rfl⟩⟩
 ·cases e
def C2:List PV->Option Ans
 |[.val (.agg ⟨[.bool s,.string b,.string c]⟩),.val (.agg ⟨[.bool s',.string b',.string c']⟩)]=>some ⟨some (isRk 1073741824 (.agg ⟨[.bool s,.string b,.string c]⟩)/\isRk 1073741824 (.agg ⟨[.bool s',.string b',.string c']⟩)),.val (CZ ⟨s,b,c⟩ ⟨s',b',c'⟩).v,[]⟩
 |_=>none
def D190:Opt:={  }
theorem FV:am D190.toOrd Tryz.f190 2=true:=by kernel_rfl
theorem f190:FnOk Tryz.prog 190 C2:=by
 refine FnOk.ofW aj (an (l:=[(135,rn)]) (own:=[]) (inl:=[]) (by simp [f135]) (by simp)) Tryz.func190 D190 2 FV λargs r e=>?_;unfold C2 at e;split at e
 ·rename_i s b c s' b' c'
  cases e;refine⟨by simp,λhm=>?_⟩;obtain⟨hv,hu⟩:=hm _ rfl;refine⟨[],aa [(0,.val (.agg ⟨[.bool s,.string b,.string c]⟩)),(1,.val (.agg ⟨[.bool s',.string b',.string c']⟩))] [] 0 [],Wo trivial ⟨rfl,rfl,qQ⟩ trivial,?_⟩;have e1:decide (ao (aD (.agg ⟨[.bool s',.string b',.string c']⟩)) (aD (.agg ⟨[.bool s,.string b,.string c]⟩)) > 0)=true->RatS.mk s' b' c'=(CZ ⟨s,b,c⟩ ⟨s',b',c'⟩):=λh=>by
   show _=bif decide (ao (aD (.agg ⟨[.bool s',.string b',.string c']⟩)) (aD (.agg ⟨[.bool s,.string b,.string c]⟩)) > 0) then RatS.mk s' b' c' else RatS.mk s b c;rw [h];rfl
  have e2:decide (ao (aD (.agg ⟨[.bool s',.string b',.string c']⟩)) (aD (.agg ⟨[.bool s,.string b,.string c]⟩)) > 0)=false->RatS.mk s b c=(CZ ⟨s,b,c⟩ ⟨s',b',c'⟩):=λh=>by
   show _=bif decide (ao (aD (.agg ⟨[.bool s',.string b',.string c']⟩)) (aD (.agg ⟨[.bool s,.string b,.string c]⟩)) > 0) then RatS.mk s' b' c' else RatS.mk s b c;rw [h];rfl
  with_unfolding_all exact⟨⟨hu,hv⟩,λh=>⟨[some 2],aa [(4,.ptr 0 0 0 0)] [⟨23,3,0,true,false,1,λ_=>(CZ ⟨s,b,c⟩ ⟨s',b',c'⟩).cells⟩] 1 [],Wo ⟨qZ ⟨⟨congrArg (λr:RatS=>PV.val (.bool r.s)) (e1 h),rfl⟩,⟨congrArg (λr:RatS=>PV.val (.string r.b)) (e1 h),rfl⟩,⟨congrArg (λr:RatS=>PV.val (.string r.c)) (e1 h),rfl⟩,qQ⟩,qQ⟩ ⟨pP,qQ⟩ trivial,rfl,rfl⟩,λh=>⟨[some 2],aa [(4,.ptr 0 0 0 0)] [⟨23,3,0,true,false,1,λ_=>(CZ ⟨s,b,c⟩ ⟨s',b',c'⟩).cells⟩] 1 [],Wo ⟨qZ ⟨⟨congrArg (λr:RatS=>PV.val (.bool r.s)) (e2 h),rfl⟩,⟨congrArg (λr:RatS=>PV.val (.string r.b)) (e2 h),rfl⟩,⟨congrArg (λr:RatS=>PV.val (.string r.c)) (e2 h),rfl⟩,qQ⟩,qQ⟩ ⟨pP,qQ⟩ trivial,rfl,rfl⟩⟩
 ·cases e
def C3:List PV->Option Ans
 |[.val (.agg ⟨[.bool s,.string b,.string c]⟩),.val (.agg ⟨[.bool s',.string b',.string c']⟩)]=>some ⟨some (isRk 1073741824 (.agg ⟨[.bool s,.string b,.string c]⟩)/\isRk 1073741824 (.agg ⟨[.bool s',.string b',.string c']⟩)),.val (C0 ⟨s,b,c⟩ ⟨s',b',c'⟩).v,[]⟩
 |_=>none
def D191:Opt:={  }
theorem FX:am D191.toOrd Tryz.f191 2=true:=by kernel_rfl
theorem f191:FnOk Tryz.prog 191 C3:=by
 refine FnOk.ofW aj (an (l:=[(135,rn)]) (own:=[]) (inl:=[]) (by simp [f135]) (by simp)) Tryz.func191 D191 2 FX λargs r e=>?_;unfold C3 at e;split at e
 ·rename_i s b c s' b' c'
  cases e;refine⟨by simp,λhm=>?_⟩;obtain⟨hv,hu⟩:=hm _ rfl;refine⟨[],aa [(0,.val (.agg ⟨[.bool s,.string b,.string c]⟩)),(1,.val (.agg ⟨[.bool s',.string b',.string c']⟩))] [] 0 [],Wo trivial ⟨rfl,rfl,qQ⟩ trivial,?_⟩;have e1:decide (ao (aD (.agg ⟨[.bool s',.string b',.string c']⟩)) (aD (.agg ⟨[.bool s,.string b,.string c]⟩)) < 0)=true->RatS.mk s' b' c'=(C0 ⟨s,b,c⟩ ⟨s',b',c'⟩):=λh=>by
   show _=bif decide (ao (aD (.agg ⟨[.bool s',.string b',.string c']⟩)) (aD (.agg ⟨[.bool s,.string b,.string c]⟩)) < 0) then RatS.mk s' b' c' else RatS.mk s b c;rw [h];rfl
  have e2:decide (ao (aD (.agg ⟨[.bool s',.string b',.string c']⟩)) (aD (.agg ⟨[.bool s,.string b,.string c]⟩)) < 0)=false->RatS.mk s b c=(C0 ⟨s,b,c⟩ ⟨s',b',c'⟩):=λh=>by
   show _=bif decide (ao (aD (.agg ⟨[.bool s',.string b',.string c']⟩)) (aD (.agg ⟨[.bool s,.string b,.string c]⟩)) < 0) then RatS.mk s' b' c' else RatS.mk s b c;rw [h];rfl
  with_unfolding_all exact⟨⟨hu,hv⟩,λh=>⟨[some 2],aa [(4,.ptr 0 0 0 0)] [⟨23,3,0,true,false,1,λ_=>(C0 ⟨s,b,c⟩ ⟨s',b',c'⟩).cells⟩] 1 [],Wo ⟨qZ ⟨⟨congrArg (λr:RatS=>PV.val (.bool r.s)) (e1 h),rfl⟩,⟨congrArg (λr:RatS=>PV.val (.string r.b)) (e1 h),rfl⟩,⟨congrArg (λr:RatS=>PV.val (.string r.c)) (e1 h),rfl⟩,qQ⟩,qQ⟩ ⟨pP,qQ⟩ trivial,rfl,rfl⟩,λh=>⟨[some 2],aa [(4,.ptr 0 0 0 0)] [⟨23,3,0,true,false,1,λ_=>(C0 ⟨s,b,c⟩ ⟨s',b',c'⟩).cells⟩] 1 [],Wo ⟨qZ ⟨⟨congrArg (λr:RatS=>PV.val (.bool r.s)) (e2 h),rfl⟩,⟨congrArg (λr:RatS=>PV.val (.string r.b)) (e2 h),rfl⟩,⟨congrArg (λr:RatS=>PV.val (.string r.c)) (e2 h),rfl⟩,qQ⟩,qQ⟩ ⟨pP,qQ⟩ trivial,rfl,rfl⟩⟩
 ·cases e
def C4:List PV->Option Ans
 |[.val (.agg ⟨[.bool s,.string b,.string c]⟩)]=>some ⟨some (isRk 4294967296 (.agg ⟨[.bool s,.string b,.string c]⟩)),.val (aw (-aD (.agg ⟨[.bool s,.string b,.string c]⟩))),[]⟩
 |_=>none
def D189:Opt:={  }
theorem FY:am D189.toOrd Tryz.f189 1=true:=by kernel_rfl
theorem f189:FnOk Tryz.prog 189 C4:=by
 refine FnOk.ofW aj (an (l:=[(132,zQ)]) (own:=[]) (inl:=[]) (by simp [f132]) (by simp)) Tryz.func189 D189 1 FY λargs r e=>?_;unfold C4 at e;split at e
 ·rename_i s b c
  cases e;refine⟨by simp,λhm=>?_⟩;have hv:=hm _ rfl;obtain⟨s',b',c',e,hb,hc⟩:=hv;injection e with e;injection e with e;simp only [List.cons.injEq,Value.bool.injEq,Value.string.injEq,and_true] at e;obtain⟨rfl,rfl,rfl⟩:=e;have hn:isRk 4294967296 (.agg ⟨[.bool (!s),.string b,.string c]⟩):=⟨_,_,_,rfl,hb,hc⟩;have e:=FT s b c;refine⟨[],aa [(0,.val (.agg ⟨[.bool s,.string b,.string c]⟩))] [] 0 [],Wo trivial ⟨rfl,qQ⟩ trivial,?_⟩;with_unfolding_all exact⟨hn,⟨[some 1],aa [(2,.ptr 0 0 0 0)] [⟨23,3,0,true,false,1,λ_=>(bt (-aD (.agg ⟨[.bool s,.string b,.string c]⟩))).cells⟩] 1 [],Wo ⟨qZ ⟨⟨congrArg (λq:Rat=>PV.val (.bool (bt q).s)) e,rfl⟩,⟨congrArg (λq:Rat=>PV.val (.string (bt q).b)) e,rfl⟩,⟨congrArg (λq:Rat=>PV.val (.string (bt q).c)) e,rfl⟩,qQ⟩,qQ⟩ ⟨pP,qQ⟩ trivial,rfl,rfl⟩⟩
 ·cases e
end Go.Proofs
namespace Go.Num
def C5 (v:Value):Value:=.agg ⟨[.bool (decide (cH v < 0)),.string (ai (bK v)),.string (ai (cH v).natAbs)]⟩
theorem FZ {v:Value} (hd:0 < bK v) (hn:cH v≠0):aD (C5 v)=(aD v)⁻¹:=by
 show mkRat (aA (decide (cH v < 0)) (bv (ai (bK v)))) (bk (bv (ai (cH v).natAbs)))=(mkRat (cH v) (bK v))⁻¹;rw [aG,aG];generalize cH v=N at *
 generalize bK v=D at *
 have e1:bk N.natAbs=N.natAbs:=by unfold bk;rw [if_neg (by omega)]
 rw [e1,<-Rat.divInt_ofNat,<-Rat.divInt_ofNat,Rat.inv_divInt];by_cases h:N < 0
 ·rw [decide_eq_true h];show Rat.divInt (-(D:Int)) (N.natAbs:Int)=Rat.divInt D N;rw [<-Rat.neg_divInt_neg,Int.neg_neg,show -(N.natAbs:Int)=N by omega]
 ·rw [decide_eq_false h];show Rat.divInt (D:Int) (N.natAbs:Int)=Rat.divInt D N;rw [show(N.natAbs:Int)=N by omega]
theorem C6 {v:Value} (h:aD v≠0):cH v≠0:=λe=>h (by show mkRat (cH v) (bK v)=0;rw [e,Rat.zero_mkRat])
end Go.Num
namespace Go.Proofs
def C7:List PV->Option Ans
 |[.val (.agg ⟨[.bool s,.string b,.string c]⟩),.val (.agg ⟨[.bool s',.string b',.string c']⟩)]=>some ⟨some ((isRk 1000000 (.agg ⟨[.bool s,.string b,.string c]⟩)/\isRk 1000000 (.agg ⟨[.bool s',.string b',.string c']⟩))/\aD (.agg ⟨[.bool s',.string b',.string c']⟩)≠0),.val (.tuple ⟨[aw (aD (.agg ⟨[.bool s,.string b,.string c]⟩) / aD (.agg ⟨[.bool s',.string b',.string c']⟩)),.int .i64 0]⟩),[]⟩
 |_=>none
def D188:Opt:={  }
theorem F0:am D188.toOrd Tryz.f188 2=true:=by kernel_rfl
theorem f188:FnOk Tryz.prog 188 C7:=by
 refine FnOk.ofW aj (an (l:=[(182,tj),(222,zS)]) (own:=[]) (inl:=[]) (by simp [f182,f222]) (by simp)) Tryz.func188 D188 2 F0 λargs r e=>?_;unfold C7 at e;split at e
 ·rename_i s b c s' b' c'
  cases e;refine⟨by simp,λhm=>?_⟩;obtain⟨⟨hv,hu⟩,h0⟩:=hm _ rfl;have p1:isRk 1073741824 (.agg ⟨[.bool s,.string b,.string c]⟩):=hv.mono (by decide);have p2:isRk 17179869184 (.agg ⟨[.bool s',.string b',.string c']⟩):=hu.mono (by decide);have b2:=hu.b;have hN:=C6 h0;have hi:=FZ b2.2.1 hN;have p3:isRk 1073741824 (C5 (.agg ⟨[.bool s',.string b',.string c']⟩)):=⟨_,_,_,rfl,Nat.le_trans (aX b2.2.2) (by decide),Nat.le_trans (aX b2.1) (by decide)⟩;refine⟨[],aa [(0,.val (.agg ⟨[.bool s,.string b,.string c]⟩)),(1,.val (.agg ⟨[.bool s',.string b',.string c']⟩))] [] 0 [],Wo trivial ⟨rfl,rfl,qQ⟩ trivial,?_⟩;have e:aD (.agg ⟨[.bool s,.string b,.string c]⟩)*aD (C5 (.agg ⟨[.bool s',.string b',.string c']⟩))=aD (.agg ⟨[.bool s,.string b,.string c]⟩) / aD (.agg ⟨[.bool s',.string b',.string c']⟩):=by rw [hi,Rat.div_def]
  have hno:((ai (cH (.agg ⟨[.bool s',.string b',.string c']⟩)).natAbs).toList==(⟨#[]⟩:ByteArray).toList)=true->False:=λh=>by
   rw [cQ] at h;have:=of_decide_eq_true h;omega
  with_unfolding_all exact⟨p2,λh=>(hno h).elim,λ_=>⟨⟨p1,p3⟩,⟨[some 2],aa [(4,.ptr 0 0 0 0),(5,.val (.int .i64 0))] [⟨23,3,0,true,false,1,λ_=>(bt (aD (.agg ⟨[.bool s,.string b,.string c]⟩) / aD (.agg ⟨[.bool s',.string b',.string c']⟩))).cells⟩] 1 [],Wo ⟨qZ ⟨⟨congrArg (λq:Rat=>PV.val (.bool (bt q).s)) e,rfl⟩,⟨congrArg (λq:Rat=>PV.val (.string (bt q).b)) e,rfl⟩,⟨congrArg (λq:Rat=>PV.val (.string (bt q).c)) e,rfl⟩,qQ⟩,qQ⟩ ⟨pP,rfl,qQ⟩ trivial,rfl,rfl⟩⟩⟩
 ·cases e
def C8:List PV->Option Ans
 |[.val (.int .i64 z)]=>some ⟨some (0<=z/\z < 100),.val (aw (z:Rat)),[]⟩
 |_=>none
def D187:Opt:={  }
theorem F1:am D187.toOrd Tryz.f187 1=true:=by kernel_rfl
theorem f187:FnOk Tryz.prog 187 C8:=by
 refine FnOk.ofW aj (an (l:=[(226,rc),(183,wk)]) (own:=[]) (inl:=[]) (by simp [f226,f183]) (by simp)) Tryz.func187 D187 1 F1 λargs r e=>?_;unfold C8 at e;split at e
 ·rename_i z
  cases e;refine⟨by simp,λhm=>?_⟩;obtain⟨h0,h1⟩:=hm _ rfl;refine⟨[],aa [(0,.val (.int .i64 z))] [] 0 [],Wo trivial ⟨rfl,qQ⟩ trivial,?_⟩;have e:Rat.divInt (aI (ay z)) (aI (ay 1))=(z:Rat):=by
   rw [av,av];rw [show(1:Int)=((1:Nat):Int) from rfl,Rat.divInt_ofNat,Rat.mkRat_one]
  have i1:∀y:Int,0<=y->y < 100->cW 8589934592 (ay y):=λy a b=>bz (k:=1) (by omega) (by decide);have n1:aI (ay 1)≠0:=by rw [av];decide
  with_unfolding_all exact⟨by omega,by decide,⟨⟨i1 z h0 h1,i1 1 (by decide) (by decide)⟩,n1⟩,⟨[some 0],aa [(2,.ptr 0 0 0 0)] [⟨23,3,0,true,false,1,λ_=>(bt (z:Rat)).cells⟩] 1 [],Wo ⟨qZ ⟨⟨congrArg (λq:Rat=>PV.val (.bool (bt q).s)) e,rfl⟩,⟨congrArg (λq:Rat=>PV.val (.string (bt q).b)) e,rfl⟩,⟨congrArg (λq:Rat=>PV.val (.string (bt q).c)) e,rfl⟩,qQ⟩,qQ⟩ ⟨pP,qQ⟩ trivial,rfl,rfl⟩⟩
 ·cases e
end Go.Proofs
namespace Go.Num
def mP (z:Int):Nat:=if z = -1 then 0 else if z = -2 then 1 else if z = -3 then 2 else 3
end Go.Num
namespace Go.Proofs
def AI:List PV->Option Ans
 |[.agg xs,.val (.int .i64 z),.val v]=>some ⟨some (isRg 10000 xs/\isPk 10000 v),.val (.bool (dK (mP z) (bM xs) (bN xs) (aN v))),[]⟩
 |_=>none
def D133:Opt:={  }
theorem F2:am D133.toOrd Tryz.f133 3=true:=by kernel_rfl
theorem f133:FnOk Tryz.prog 133 AI:=by
 refine FnOk.ofW aj (an (l:=[(184,C1)]) (own:=[]) (inl:=[]) (by simp [f184]) (by simp)) Tryz.func133 D133 3 F2 λargs r e=>?_;unfold AI at e;split at e
 ·rename_i xs z v
  cases e;refine⟨by simp,λhm=>?_⟩;obtain⟨⟨h1,⟨hlo,hhi⟩,hcl,hol⟩,p,rfl,hp⟩:=hm _ rfl;generalize bM xs=lo at *
  generalize bN xs=hi at *
  generalize gK xs=k at *
  generalize gC xs=c at *
  generalize gL xs=l at *
  generalize gO xs=o at *
  subst h1;clear hm;refine⟨[],aa [(0,.agg (bq lo hi k c l o)),(1,.val (.int .i64 z)),(2,.val p.v)] [] 0 [],Wo trivial ⟨⟨rfl,rfl,rfl,rfl,rfl,rfl,rfl,rfl,rfl,rfl,rfl,rfl,qW,qW,qQ⟩,rfl,rfl,qQ⟩ trivial,?_⟩;have x1:=And.intro (cq hp (show 10000<=1073741824 by decide)) (cq hlo (show 10000<=1073741824 by decide));have x2:=And.intro (cq hhi (show 10000<=1073741824 by decide)) (cq hp (show 10000<=1073741824 by decide));have x3:=And.intro (cr hp (show 10000<=1073741824 by decide)) (cr hlo (show 10000<=1073741824 by decide));have x4:=And.intro (cr hhi (show 10000<=1073741824 by decide)) (cr hp (show 10000<=1073741824 by decide));have v1:(z == -1)=true->PV.val (.bool (decide (ao p.X lo.X < 0)))=PV.val (.bool (dK (mP z) lo hi p)):=λh=>by
   rw [eq_of_beq h];rfl
  have v2:(z == -2)=true->PV.val (.bool (decide (ao hi.X p.X < 0)))=PV.val (.bool (dK (mP z) lo hi p)):=λh=>by
   rw [eq_of_beq h];rfl
  have v3:(z == -3)=true->PV.val (.bool (decide (ao p.Y lo.Y < 0)))=PV.val (.bool (dK (mP z) lo hi p)):=λh=>by
   rw [eq_of_beq h];rfl
  have v4:(z == -1)=false->(z == -2)=false->(z == -3)=false->PV.val (.bool (decide (ao hi.Y p.Y < 0)))=PV.val (.bool (dK (mP z) lo hi p)):=λh h2 h3=>by
   unfold mP;rw [if_neg (by simpa using h),if_neg (by simpa using h2),if_neg (by simpa using h3)];rfl
  with_unfolding_all exact⟨λh=>⟨x1,⟨[],aa [(6,.val (.bool (dK (mP z) lo hi p)))] [] 0 [],Wo trivial ⟨v1 h,qQ⟩ trivial,rfl,rfl⟩⟩,λh=>⟨λh2=>⟨x2,⟨[],aa [(6,.val (.bool (dK (mP z) lo hi p)))] [] 0 [],Wo trivial ⟨v2 h2,qQ⟩ trivial,rfl,rfl⟩⟩,λh2=>⟨λh3=>⟨x3,⟨[],aa [(6,.val (.bool (dK (mP z) lo hi p)))] [] 0 [],Wo trivial ⟨v3 h3,qQ⟩ trivial,rfl,rfl⟩⟩,λh3=>⟨x4,⟨[],aa [(6,.val (.bool (dK (mP z) lo hi p)))] [] 0 [],Wo trivial ⟨v4 h h2 h3,qQ⟩ trivial,rfl,rfl⟩⟩⟩⟩⟩
 ·cases e
def C9:List PV->Option Ans
 |[.rs 6 n g,.val v]=>some ⟨some (isPL 10000 n g/\isPk 10000 v/\n<=1000000),.val (.int .i64 (ld n (ab g) (aN v) n)),[]⟩
 |_=>none
def D134:Opt:={  }
theorem F4:am D134.toOrd Tryz.f134 2=true:=by kernel_rfl
theorem f134:FnOk Tryz.prog 134 C9:=by
 refine FnOk.ofW aj (an (l:=[(131,Aa)]) (own:=[]) (inl:=[]) (by simp [f131]) (by simp)) Tryz.func134 D134 2 F4 λargs r e=>?_;unfold C9 at e;split at e
 ·rename_i n g v
  cases e;refine⟨by simp,λhm=>?_⟩;obtain⟨⟨hg,hn⟩,⟨v,rfl,hv⟩,hn2⟩:=hm _ rfl;refine⟨[],aa [(0,.rs 6 n (λi=>(ab g i).cells)),(1,.val v.v)] [] 0 [],Wo trivial ⟨⟨rfl,rfl,λi hi=>(hg i hi).1.symm⟩,rfl,qQ⟩ trivial,?_⟩;have hp:=λi hi=>(hg i hi).2;generalize ab g=p at *
  clear hg;with_unfolding_all refine⟨Nat,λi=>i<=n,λi=>aa [(0,.rs 6 n (λi=>(p i).cells)),(3,.ptr 0 0 0 0),(5,.val (.int .i64 (ld n p v i))),(6,.val (goInt (i:Nat)))] [⟨25,6,0,true,false,1,λ_=>v.cells⟩] 1 [],λi=>n - i,⟨0,[some 0],Nat.zero_le _,Wo ⟨qK,qQ⟩ ⟨qW,pP,rfl,rfl,qQ⟩ trivial⟩,λi hi=>?_⟩
  have hin:i<=n:=hi;with_unfolding_all refine⟨λh1=>?_,λh1=>?_⟩
  ·have hi1:i < n:=by
    have:=of_decide_eq_true h1;exact Int.ofNat_lt.1 this
   have hw0:IntKind.i64.wrap ((i:Int)+1)=((i+1:Nat):Int):=by
    rw [wrap64 (by omega) (by omega)];rfl
   have hw:(IntKind.i64.wrap ((i:Int)+1)).tmod n=(((i+1)%n:Nat):Int):=by
    rw [hw0];exact Int.ofNat_tmod _ _
   have hm2:(i+1)%n < n:=Nat.mod_lt _ (by omega);have b1:0<=(i:Int)/\(i:Int) < n:=⟨Int.natCast_nonneg i,of_decide_eq_true h1⟩;have b2:0<=(IntKind.i64.wrap ((i:Int)+1)).tmod n/\(IntKind.i64.wrap ((i:Int)+1)).tmod n < n:=by rw [hw];omega
   have ne0:(n:Int)≠0:=by omega
   have q1:isPk 10000 (p (i:Int).toNat).v:=⟨_,rfl,hp _ (by rw [Int.toNat_natCast];exact hi1)⟩;have q2:isPk 10000 (p ((IntKind.i64.wrap ((i:Int)+1)).tmod n).toNat).v:=⟨_,rfl,hp _ (by rw [hw];exact hm2)⟩;have q3:isPk 10000 v.v:=⟨_,rfl,hv⟩;have w5:PV.val (.int .i64 (if (jM (p (i:Int).toNat) (p ((IntKind.i64.wrap ((i:Int)+1)).tmod n).toNat) v) < ld n p v i then(jM (p (i:Int).toNat) (p ((IntKind.i64.wrap ((i:Int)+1)).tmod n).toNat) v) else ld n p v i))=PV.val (.int .i64 (ld n p v (i+1))):=by
    rw [ld,hw,Int.toNat_natCast,Int.toNat_natCast,Int.min_def];congr 2;split<;>split<;>omega
   have w6:PV.val (.int .i64 (IntKind.i64.wrap ((i:Int)+1)))=PV.val (goInt ((i+1:Nat):Int)):=by rw [hw0];rfl
   have hμ : n - (i+1) < n - i:=by omega
   with_unfolding_all exact⟨b1,ne0,b2,⟨q1,q2,q3⟩,⟨i+1,[some 0],hi1,hμ,Wo ⟨qK,qQ⟩ ⟨qW,pP,w5,w6,qQ⟩ trivial⟩⟩
  ·have hi1:i=n:=by
    have:¬(i:Int) < n:=of_decide_eq_false h1;omega
   have w:PV.val (.int .i64 (ld n p v i))=PV.val (.int .i64 (ld n p v n)):=by rw [hi1]
   with_unfolding_all exact⟨[],aa [(4,.val (.int .i64 (ld n p v n)))] [] 0 [],Wo trivial ⟨w,qQ⟩ trivial,rfl,rfl⟩
 ·cases e
end Go.Proofs
namespace Go.Num
def wG (A D:Nat->Rat) (n:Nat):Option (Rat×Rat):=(nS A D n).bind λs=>bif decide (ao s.1 s.2>=0) then none else some s
theorem F5 (A D:Nat->Rat) (n:Nat):(wG A D n).isSome=Dh A D n:=by
 unfold wG Dh;cases nS A D n with
 |none=>rfl
 |some s =>
  simp only [Option.bind_some];cases decide (ao s.1 s.2>=0)<;>rfl
theorem rZ {A D:Nat->Rat} {j:Nat} (h:nS A D j=none):∀d,nS A D (j+d)=none
 |0=>h
 |d+1=>by
  show nS A D (j+d+1)=none;rw [nS,rZ h d]
theorem QB.neg {k:Nat} {q:Rat} (h:QB k q):QB (k+2) (-q):=by
 have h0:QB 1 (0:Rat):=by
  have:=(xY (k:=1) (by decide)).1
  rwa [Rat.zero_mkRat] at this
 rw [show -q=0 - q by grind];exact(h0.sub h).le (by omega)
theorem tR (x y:Rat):CZ (bt x) (bt y)=bt (k9 x y):=by
 unfold CZ k9;rw [kM,kM];by_cases h:ao y x > 0
 ·rw [decide_eq_true h,if_pos h];rfl
 ·rw [decide_eq_false h,if_neg h];rfl
theorem tS (x y:Rat):C0 (bt x) (bt y)=bt (lc x y):=by
 unfold C0 lc;rw [kM,kM];by_cases h:ao y x < 0
 ·rw [decide_eq_true h,if_pos h];rfl
 ·rw [decide_eq_false h,if_neg h];rfl
theorem AJ {k:Nat} {x y:Rat} (h1:QB k x) (h2:QB k y):QB k (k9 x y):=by
 unfold k9;split<;>assumption
theorem AK {k:Nat} {x y:Rat} (h1:QB k x) (h2:QB k y):QB k (lc x y):=by
 unfold lc;split<;>assumption
end Go.Num
namespace Go.Proofs
def Da:List PV->Option Ans
 |[.rs 6 n g,.val v]=>some ⟨some (isPL 10000 n g/\dI 10000 v/\n<=1000000),.val (.tuple ⟨[aw (kq (wG (fu n (ab g) (aL v).1) (gv n (ab g) (aL v).1 (aL v).2) n)),aw (kN (wG (fu n (ab g) (aL v).1) (gv n (ab g) (aL v).1 (aL v).2) n)),.bool (wG (fu n (ab g) (aL v).1) (gv n (ab g) (aL v).1 (aL v).2) n).isSome]⟩),[]⟩
 |_=>none
def D136:Opt:={ join:=λc=>match c with | .region 6 _ _=>true | .region 8 _ _=>true | .region 9 _ _=>true | .region 13 _ _=>true|_=>false,perm:=jc [(6,.rds [0,1,2,3,4,5,6,7,8,9,10,11] (.alt 12 (.mk 13 .nil) (.mk 13 (.mk 12 .nil)))),(8,.rds [0,1,2,3] (.alt 4 (.alt 5 (.mk 6 .nil) (.mk 6 (.mk 5 .nil))) (.mk 6 (.mk 4 (.mk 5 .nil))))),(13,.rds [0,2] (.alt 1 (.alt 3 (.rd 4 (.rd 5 (.rd 6 (.mk 7 .nil)))) (.mk 7 (.mk 3 (.rd 4 (.rd 5 (.rd 6 .nil)))))) (.mk 7 (.mk 1 (.mk 3 (.rd 4 (.rd 5 (.rd 6 .nil))))))))],all:=jc [(19,.alt 0 (.alt 1 (OT.seq [2,3,4] .nil) (OT.seq [2,1,3,4] .nil)) (OT.seq [1,0,2,3,4] .nil))] }
theorem F7:am D136.toOrd Tryz.f136 2=true:=by kernel_rfl
theorem f136:FnOk Tryz.prog 136 Da:=by
 refine FnOk.ofW aj (an (l:=[(187,C8),(179,z7),(178,z8),(177,z6),(189,C4),(188,C7),(190,C2),(191,C3),(135,rn)]) (own:=[]) (inl:=[]) (by simp [f187,f179,f178,f177,f189,f188,f190,f191,f135]) (by simp)) Tryz.func136 D136 2 F7 λargs r e=>?_;unfold Da at e;split at e
 ·rename_i n g v
  cases e;refine⟨by simp,λhm=>?_⟩;obtain⟨⟨hg,hn⟩,⟨a,b,rfl,ha,hb⟩,hn2⟩:=hm _ rfl;clear hm;refine⟨[],aa [(0,.rs 6 n (λi=>(ab g i).cells)),(1,.val (ar a b))] [] 0 [],Wo trivial ⟨⟨rfl,rfl,λi hi=>(hg i hi).1.symm⟩,rfl,qQ⟩ trivial,?_⟩;have hp:=λi hi=>(hg i hi).2;generalize ab g=p at *
  clear hg;obtain⟨X,hX⟩:∃X,X=wG (fu n p a) (gv n p a b) n:=⟨_,rfl⟩;have hv:PV.val (.tuple ⟨[aw (kq (wG (fu n p (aL (ar a b)).1) (gv n p (aL (ar a b)).1 (aL (ar a b)).2) n)),aw (kN (wG (fu n p (aL (ar a b)).1) (gv n p (aL (ar a b)).1 (aL (ar a b)).2) n)),.bool (wG (fu n p (aL (ar a b)).1) (gv n p (aL (ar a b)).1 (aL (ar a b)).2) n).isSome]⟩)=PV.val (.tuple ⟨[aw (kq X),aw (kN X),.bool X.isSome]⟩):=by rw [hX];rfl
  rw [hv];clear hv;have ha6:=ha.mono (show 10000<=1000000 by decide);have hb6:=hb.mono (show 10000<=1000000 by decide);have zb:X=none->PV.val (.bool false)=PV.val (.bool (decide ((kq X).num < 0)))/\PV.val (.string ⟨#[]⟩)=PV.val (.string (ai (kq X).num.natAbs))/\PV.val (.string ⟨#[]⟩)=PV.val (.string (aO (kq X).den))/\PV.val (.bool false)=PV.val (.bool X.isSome):=λh=>by
   rw [h];refine⟨rfl,?_,rfl,rfl⟩;show PV.val (.string ⟨#[]⟩)=PV.val (.string (ai 0));rw [dG]
  have zc:X=none->PV.val (.bool false)=PV.val (.bool (decide ((kN X).num < 0)))/\PV.val (.string ⟨#[]⟩)=PV.val (.string (ai (kN X).num.natAbs))/\PV.val (.string ⟨#[]⟩)=PV.val (.string (aO (kN X).den)):=λh=>by
   rw [h];refine⟨rfl,?_,rfl⟩;show PV.val (.string ⟨#[]⟩)=PV.val (.string (ai 0));rw [dG]
  have q0:QB 300000 (0:Rat):=by
   have:=uG.1
   rwa [Rat.zero_mkRat] at this
  have q1:QB 300000 (1:Rat):=by
   have:=uG.2
   rwa [Rat.mkRat_one] at this
  have z2:PV.val (.string ⟨#[]⟩)=PV.val (.string (bt 0).b):=by
   show PV.val (.string ⟨#[]⟩)=PV.val (.string (ai 0));rw [dG]
  have e1:((1:Int):Rat)=1:=rfl;with_unfolding_all refine⟨⟨by decide,by decide⟩,⟨⟨b,rfl,hb6⟩,a,rfl,ha6⟩,Nat×Rat×Rat,λx=>x.1<=n/\nS (fu n p a) (gv n p a b) x.1=some x.2/\QB 300000 x.2.1/\QB 300000 x.2.2,λx=>aa [(0,.rs 6 n (λi=>(p i).cells)),(3,.ptr 0 0 0 0),(4,.ptr 1 1 0 0),(5,.ptr 2 2 0 0),(7,.ptr 3 3 0 0),(8,.ptr 4 4 0 0),(9,.ptr 5 5 0 0),(10,.val (goInt (x.1:Nat)))] [⟨117,12,0,true,false,1,λ_=>kp a b⟩,aY false ⟨#[]⟩ ⟨#[]⟩ 1,aY false ⟨#[]⟩ ⟨#[]⟩ 2,bx x.2.1 3,bx x.2.2 4,gV (ck b a) 5] 6 [],λx=>n - x.1,⟨(0,0,1),[some 0,some 1,some 2,some 3,some 4,some 5],⟨Nat.zero_le _,rfl,q0,q1⟩,Wo ⟨qZ ⟨rq,rq,rq,rq,rq,rq,rq,rq,rq,rq,rq,rq,qQ⟩,qX,qX,qZ ⟨rq,⟨z2,rfl⟩,rq,qQ⟩,qZ ⟨⟨congrArg (λq:Rat=>PV.val (.bool (bt q).s)) e1,rfl⟩,⟨congrArg (λq:Rat=>PV.val (.string (bt q).b)) e1,rfl⟩,⟨congrArg (λq:Rat=>PV.val (.string (bt q).c)) e1,rfl⟩,qQ⟩,qK,qQ⟩ ⟨qW,pP,pP,pP,pP,pP,pP,rfl,qQ⟩ trivial⟩,λx hx=>?_⟩
  obtain⟨i,s⟩:=x;obtain⟨hi,hs,hq1,hq2⟩:i<=n/\nS (fu n p a) (gv n p a b) i=some s/\QB 300000 s.1/\QB 300000 s.2:=hx;with_unfolding_all refine⟨λh1=>?_,λh1=>?_⟩
  ·have hin:i < n:=by
    have:=of_decide_eq_true h1;exact Int.ofNat_lt.1 this
   have hw0:IntKind.i64.wrap ((i:Int)+1)=((i+1:Nat):Int):=by
    rw [wrap64 (by omega) (by omega)];rfl
   have hw:(IntKind.i64.wrap ((i:Int)+1)).tmod n=(((i+1)%n:Nat):Int):=by
    rw [hw0];exact Int.ofNat_tmod _ _
   have hm2:(i+1)%n < n:=Nat.mod_lt _ (by omega);have b1:0<=(i:Int)/\(i:Int) < n:=⟨Int.natCast_nonneg i,of_decide_eq_true h1⟩;have b2:0<=(IntKind.i64.wrap ((i:Int)+1)).tmod n/\(IntKind.i64.wrap ((i:Int)+1)).tmod n < n:=by rw [hw];omega
   have ne0:(n:Int)≠0:=by omega
   have ep:p ((IntKind.i64.wrap ((i:Int)+1)).tmod n).toNat=(p ((i+1)%n)):=by rw [hw];rfl
   have lp:=hp i hin;have lq:=hp _ hm2;have pkp:isPk 1000000 (p i).v:=⟨_,rfl,lp.mono (by decide)⟩;have pkq:isPk 1000000 (p ((i+1)%n)).v:=⟨_,rfl,lq.mono (by decide)⟩;have pka:isPk 1000000 a.v:=⟨_,rfl,ha6⟩;have pke:isPk 1000000 (ck (p ((i+1)%n)) (p i)).v:=⟨_,rfl,(cf lq lp).mono (by decide)⟩;have pkap:isPk 1000000 (ck a (p i)).v:=⟨_,rfl,(cf ha lp).mono (by decide)⟩;have pkd:isPk 1000000 (ck b a).v:=⟨_,rfl,(cf hb ha).mono (by decide)⟩;obtain⟨A,hA⟩:∃A,A=fu n p a i:=⟨_,rfl⟩;obtain⟨D,hD⟩:∃D,D=gv n p a b i:=⟨_,rfl⟩;have qA:QB 80017 A:=by rw [hA];exact tx lp lq ha
   have qD:QB 80017 D:=by rw [hD];exact(ir (cf lq lp) (cf hb ha)).le (by decide)
   have eA:cE (aN (ck (p ((i+1)%n)) (p i)).v) (aN (ck a (p i)).v)=A:=by
    rw [uE,uE];exact hA.symm
   have eD:cE (aN (ck (p ((i+1)%n)) (p i)).v) (aN (ck b a).v)=D:=by
    rw [uE,uE];exact hD.symm
   obtain⟨T,hT⟩:∃T,T = -A / D:=⟨_,rfl⟩;have eT:aD (aw (-aD (bt A).v)) / aD (bt D).v=T:=by
    rw [aC,mi,mi,aC,aC,hT]
   have qT:QB 300000 T:=by
    rw [hT];exact(qA.neg.div qD).le (by decide)
   have rD:isRk 1073741824 (bt D).v:=qD.rk (by decide);have rD6:isRk 1000000 (bt D).v:=qD.rk (by decide);have rA:isRk 1073741824 (bt A).v:=qA.rk (by decide);have rA4:isRk 4294967296 (bt A).v:=qA.rk (by decide);have rNA:isRk 1000000 (aw (-aD (bt A).v)):=by
    rw [mi,aC];exact qA.neg.rk (by decide)
   have rT:isRk 1073741824 (bt T).v:=qT.rk (by decide);have r1:isRk 1073741824 (bt s.1).v:=hq1.rk (by decide);have r2:isRk 1073741824 (bt s.2).v:=hq2.rk (by decide);have dq:aD (bt D).v=D:=by rw [mi,aC]
   have aq:aD (bt A).v=A:=by rw [mi,aC]
   have nD:(ao (aD (bt D).v) 0==0)=false->aD (bt D).v≠0:=λh e=>by
    rw [e] at h;exact absurd h (by decide)
   have step:nS (fu n p a) (gv n p a b) (i+1)=if ao D 0=0 then(if ao A 0<=0 then none else some s) else if ao D 0 > 0 then some (k9 s.1 T,s.2) else some (s.1,lc s.2 T):=by
    rw [nS,hs,<-hA,<-hD,<-hT]
   have c0:(ao (aD (bt D).v) 0==0)=true->ao D 0=0:=λh=>by
    rw [dq] at h;exact eq_of_beq h
   have c1:(ao (aD (bt D).v) 0==0)=false->¬ao D 0=0:=λh=>by
    rw [dq] at h;simpa using h
   have sX:(ao (aD (bt D).v) 0==0)=true->decide (ao (aD (bt A).v) 0<=0)=true->X=none:=λh h3=>by
    have h3:ao A 0<=0:=by
     rw [aq] at h3;exact of_decide_eq_true h3
    rw [if_pos (c0 h),if_pos h3] at step;have:=rZ step (n - (i+1));rw [show i+1+(n - (i+1))=n by omega] at this;rw [hX,wG,this];rfl
   have sS:(ao (aD (bt D).v) 0==0)=true->decide (ao (aD (bt A).v) 0<=0)=false->nS (fu n p a) (gv n p a b) (i+1)=some s:=λh h3=>by
    have h3:¬ao A 0<=0:=by
     rw [aq] at h3;exact of_decide_eq_false h3
    rw [step,if_pos (c0 h),if_neg h3]
   have sM:(ao (aD (bt D).v) 0==0)=false->decide (ao (aD (bt D).v) 0 > 0)=true->nS (fu n p a) (gv n p a b) (i+1)=some (k9 s.1 T,s.2):=λh h3=>by
    have h3:ao D 0 > 0:=by
     rw [dq] at h3;exact of_decide_eq_true h3
    rw [step,if_neg (c1 h),if_pos h3]
   have sN:(ao (aD (bt D).v) 0==0)=false->decide (ao (aD (bt D).v) 0 > 0)=false->nS (fu n p a) (gv n p a b) (i+1)=some (s.1,lc s.2 T):=λh h3=>by
    have h3:¬ao D 0 > 0:=by
     rw [dq] at h3;exact of_decide_eq_false h3
    rw [step,if_neg (c1 h),if_neg h3]
   have w10:PV.val (.int .i64 (IntKind.i64.wrap ((i:Int)+1)))=PV.val (goInt ((i+1:Nat):Int)):=by rw [hw0];rfl
   have hμ : n - (i+1) < n - i:=by omega
   with_unfolding_all refine⟨Unit,λ_=>True,λ_=>aa [(0,.rs 6 n (λi=>(p i).cells)),(3,.ptr 0 0 0 0),(4,.ptr 1 1 0 0),(5,.ptr 2 2 0 0),(7,.ptr 3 3 0 0),(8,.ptr 4 4 0 0),(9,.ptr 5 5 0 0),(10,.val (goInt (i:Nat))),(11,.ptr 6 6 0 0),(12,.ptr 7 7 0 0)] [⟨117,12,0,true,false,1,λ_=>kp a b⟩,aY false ⟨#[]⟩ ⟨#[]⟩ 1,aY false ⟨#[]⟩ ⟨#[]⟩ 2,bx s.1 3,bx s.2 4,gV (ck b a) 5,gV (p i) 6,gV (p ((i+1)%n)) 7] 8 [],⟨b1,ne0,b2,⟨⟨(),[some 0,some 1,some 2,some 3,some 4,some 5,some 6,some 7],trivial,Wo ⟨qZ ⟨rq,rq,rq,rq,rq,rq,rq,rq,rq,rq,rq,rq,qQ⟩,qX,qX,qX,qX,qK,qK,qZ ⟨⟨(fJ ep).1,rfl⟩,⟨(fJ ep).2.1,rfl⟩,⟨(fJ ep).2.2.1,rfl⟩,⟨(fJ ep).2.2.2.1,rfl⟩,⟨(fJ ep).2.2.2.2.1,rfl⟩,⟨(fJ ep).2.2.2.2.2,rfl⟩,qQ⟩,qQ⟩ ⟨qW,pP,pP,pP,pP,pP,pP,rfl,pP,pP,qQ⟩ trivial⟩,⟨(),[some 0,some 1,some 2,some 3,some 4,some 5,some 7,some 6],trivial,Wo ⟨qZ ⟨rq,rq,rq,rq,rq,rq,rq,rq,rq,rq,rq,rq,qQ⟩,qX,qX,qX,qX,qK,qK,qZ ⟨⟨(fJ ep).1,rfl⟩,⟨(fJ ep).2.1,rfl⟩,⟨(fJ ep).2.2.1,rfl⟩,⟨(fJ ep).2.2.2.1,rfl⟩,⟨(fJ ep).2.2.2.2.1,rfl⟩,⟨(fJ ep).2.2.2.2.2,rfl⟩,qQ⟩,qQ⟩ ⟨qW,pP,pP,pP,pP,pP,pP,rfl,pP,pP,qQ⟩ trivial⟩⟩⟩,λ_ _=>?_⟩
   with_unfolding_all refine⟨⟨pkq,pkp⟩,⟨Unit,λ_=>True,λ_=>aa [(0,.rs 6 n (λi=>(p i).cells)),(3,.ptr 0 0 0 0),(4,.ptr 1 1 0 0),(5,.ptr 2 2 0 0),(7,.ptr 3 3 0 0),(8,.ptr 4 4 0 0),(9,.ptr 5 5 0 0),(10,.val (goInt (i:Nat))),(13,.ptr 6 6 0 0),(14,.ptr 7 7 0 0)] [⟨117,12,0,true,false,1,λ_=>kp a b⟩,aY false ⟨#[]⟩ ⟨#[]⟩ 1,aY false ⟨#[]⟩ ⟨#[]⟩ 2,bx s.1 3,bx s.2 4,gV (ck b a) 5,gV (ck (p ((i+1)%n)) (p i)) 6,bx A 7] 8 [],⟨⟨⟨pka,pkp⟩,⟨⟨⟨pke,pkap⟩,⟨(),[some 0,some 1,some 2,some 3,some 4,some 5,some 8,some 9],trivial,Wo ⟨qZ ⟨rq,rq,rq,rq,rq,rq,rq,rq,rq,rq,rq,rq,qQ⟩,qX,qX,qX,qX,qK,qK,qZ ⟨⟨gp eA,rfl⟩,⟨gq eA,rfl⟩,⟨gr eA,rfl⟩,qQ⟩,qQ⟩ ⟨qW,pP,pP,pP,pP,pP,pP,rfl,pP,pP,qQ⟩ trivial⟩⟩,⟨⟨pke,pkap⟩,⟨(),[some 0,some 1,some 2,some 3,some 4,some 5,some 8,some 9],trivial,Wo ⟨qZ ⟨rq,rq,rq,rq,rq,rq,rq,rq,rq,rq,rq,rq,qQ⟩,qX,qX,qX,qX,qK,qK,qZ ⟨⟨gp eA,rfl⟩,⟨gq eA,rfl⟩,⟨gr eA,rfl⟩,qQ⟩,qQ⟩ ⟨qW,pP,pP,pP,pP,pP,pP,rfl,pP,pP,qQ⟩ trivial⟩⟩⟩⟩,⟨⟨pka,pkp⟩,⟨⟨pke,pkap⟩,⟨(),[some 0,some 1,some 2,some 3,some 4,some 5,some 8,some 9],trivial,Wo ⟨qZ ⟨rq,rq,rq,rq,rq,rq,rq,rq,rq,rq,rq,rq,qQ⟩,qX,qX,qX,qX,qK,qK,qZ ⟨⟨gp eA,rfl⟩,⟨gq eA,rfl⟩,⟨gr eA,rfl⟩,qQ⟩,qQ⟩ ⟨qW,pP,pP,pP,pP,pP,pP,rfl,pP,pP,qQ⟩ trivial⟩⟩⟩⟩,λ_ _=>?_⟩⟩
   with_unfolding_all refine⟨Unit,λ_=>True,λ_=>aa [(0,.rs 6 n (λi=>(p i).cells)),(3,.ptr 0 0 0 0),(4,.ptr 1 1 0 0),(5,.ptr 2 2 0 0),(7,.ptr 3 3 0 0),(8,.ptr 4 4 0 0),(9,.ptr 5 5 0 0),(10,.val (goInt (i:Nat))),(14,.ptr 6 6 0 0),(15,.ptr 7 7 0 0)] [⟨117,12,0,true,false,1,λ_=>kp a b⟩,aY false ⟨#[]⟩ ⟨#[]⟩ 1,aY false ⟨#[]⟩ ⟨#[]⟩ 2,bx s.1 3,bx s.2 4,gV (ck b a) 5,bx A 6,bx D 7] 8 [],⟨⟨pke,pkd⟩,⟨(),[some 0,some 1,some 2,some 3,some 4,some 5,some 7,some 8],trivial,Wo ⟨qZ ⟨rq,rq,rq,rq,rq,rq,rq,rq,rq,rq,rq,rq,qQ⟩,qX,qX,qX,qX,qK,qX,qZ ⟨⟨gp eD,rfl⟩,⟨gq eD,rfl⟩,⟨gr eD,rfl⟩,qQ⟩,qQ⟩ ⟨qW,pP,pP,pP,pP,pP,pP,rfl,pP,pP,qQ⟩ trivial⟩⟩,λ_ _=>?_⟩
   with_unfolding_all refine⟨rD,λh=>⟨rA,λh3=>⟨[some 1,some 2],aa [(4,.ptr 0 0 0 0),(5,.ptr 1 1 0 0),(6,.val (.bool X.isSome))] [bx (kq X) 0,bx (kN X) 1] 2 [],Wo ⟨qZ ⟨⟨(zb (sX h h3)).1,rfl⟩,⟨(zb (sX h h3)).2.1,rfl⟩,⟨(zb (sX h h3)).2.2.1,rfl⟩,qQ⟩,qZ ⟨⟨(zc (sX h h3)).1,rfl⟩,⟨(zc (sX h h3)).2.1,rfl⟩,⟨(zc (sX h h3)).2.2,rfl⟩,qQ⟩,qQ⟩ ⟨pP,pP,(zb (sX h h3)).2.2.2,qQ⟩ trivial,rfl,rfl⟩,λh3=>⟨(i+1,s),[some 0,some 1,some 2,some 3,some 4,some 5],⟨hin,(sS h h3),hq1,hq2⟩,hμ,Wo ⟨qZ ⟨rq,rq,rq,rq,rq,rq,rq,rq,rq,rq,rq,rq,qQ⟩,qX,qX,qX,qX,qK,qQ⟩ ⟨qW,pP,pP,pP,pP,pP,pP,w10,qQ⟩ trivial⟩⟩,λh=>?_⟩
   with_unfolding_all refine⟨Unit,λ_=>True,λ_=>aa [(0,.rs 6 n (λi=>(p i).cells)),(3,.ptr 0 0 0 0),(4,.ptr 1 1 0 0),(5,.ptr 2 2 0 0),(7,.ptr 3 3 0 0),(8,.ptr 4 4 0 0),(9,.ptr 5 5 0 0),(10,.val (goInt (i:Nat))),(15,.ptr 6 6 0 0),(16,.ptr 7 7 0 0)] [⟨117,12,0,true,false,1,λ_=>kp a b⟩,aY false ⟨#[]⟩ ⟨#[]⟩ 1,aY false ⟨#[]⟩ ⟨#[]⟩ 2,bx s.1 3,bx s.2 4,gV (ck b a) 5,bx D 6,bx T 7] 8 [],⟨⟨rA4,⟨⟨⟨⟨rNA,rD6⟩,(nD h)⟩,⟨(),[some 0,some 1,some 2,some 3,some 4,some 5,some 7,some 8],trivial,Wo ⟨qZ ⟨rq,rq,rq,rq,rq,rq,rq,rq,rq,rq,rq,rq,qQ⟩,qX,qX,qX,qX,qK,qX,qZ ⟨⟨gp eT,rfl⟩,⟨gq eT,rfl⟩,⟨gr eT,rfl⟩,qQ⟩,qQ⟩ ⟨qW,pP,pP,pP,pP,pP,pP,rfl,pP,pP,qQ⟩ trivial⟩⟩,⟨⟨⟨rNA,rD6⟩,(nD h)⟩,⟨(),[some 0,some 1,some 2,some 3,some 4,some 5,some 7,some 8],trivial,Wo ⟨qZ ⟨rq,rq,rq,rq,rq,rq,rq,rq,rq,rq,rq,rq,qQ⟩,qX,qX,qX,qX,qK,qX,qZ ⟨⟨gp eT,rfl⟩,⟨gq eT,rfl⟩,⟨gr eT,rfl⟩,qQ⟩,qQ⟩ ⟨qW,pP,pP,pP,pP,pP,pP,rfl,pP,pP,qQ⟩ trivial⟩⟩⟩⟩,⟨rA4,⟨⟨⟨rNA,rD6⟩,(nD h)⟩,⟨(),[some 0,some 1,some 2,some 3,some 4,some 5,some 7,some 8],trivial,Wo ⟨qZ ⟨rq,rq,rq,rq,rq,rq,rq,rq,rq,rq,rq,rq,qQ⟩,qX,qX,qX,qX,qK,qX,qZ ⟨⟨gp eT,rfl⟩,⟨gq eT,rfl⟩,⟨gr eT,rfl⟩,qQ⟩,qQ⟩ ⟨qW,pP,pP,pP,pP,pP,pP,rfl,pP,pP,qQ⟩ trivial⟩⟩⟩⟩,λ_ _=>?_⟩
   with_unfolding_all exact⟨rD,λh4=>⟨⟨r1,rT⟩,⟨(i+1,(k9 s.1 T,s.2)),[some 0,some 1,some 2,some 3,some 4,some 5],⟨hin,(sM h h4),AJ hq1 qT,hq2⟩,hμ,Wo ⟨qZ ⟨rq,rq,rq,rq,rq,rq,rq,rq,rq,rq,rq,rq,qQ⟩,qX,qX,qZ ⟨⟨congrArg (λr:RatS=>PV.val (.bool r.s)) (tR s.1 T),rfl⟩,⟨congrArg (λr:RatS=>PV.val (.string r.b)) (tR s.1 T),rfl⟩,⟨congrArg (λr:RatS=>PV.val (.string r.c)) (tR s.1 T),rfl⟩,qQ⟩,qX,qK,qQ⟩ ⟨qW,pP,pP,pP,pP,pP,pP,w10,qQ⟩ trivial⟩⟩,λh4=>⟨⟨r2,rT⟩,⟨(i+1,(s.1,lc s.2 T)),[some 0,some 1,some 2,some 3,some 4,some 5],⟨hin,(sN h h4),hq1,AK hq2 qT⟩,hμ,Wo ⟨qZ ⟨rq,rq,rq,rq,rq,rq,rq,rq,rq,rq,rq,rq,qQ⟩,qX,qX,qX,qZ ⟨⟨congrArg (λr:RatS=>PV.val (.bool r.s)) (tS s.2 T),rfl⟩,⟨congrArg (λr:RatS=>PV.val (.string r.b)) (tS s.2 T),rfl⟩,⟨congrArg (λr:RatS=>PV.val (.string r.c)) (tS s.2 T),rfl⟩,qQ⟩,qK,qQ⟩ ⟨qW,pP,pP,pP,pP,pP,pP,w10,qQ⟩ trivial⟩⟩⟩
  ·have hin:i=n:=by
    have:¬(i:Int) < n:=of_decide_eq_false h1;omega
   subst hin;have r1:isRk 1073741824 (bt s.1).v:=hq1.rk (by decide);have r2:isRk 1073741824 (bt s.2).v:=hq2.rk (by decide);have d1:aD (bt s.1).v=s.1:=by rw [mi,aC]
   have d2:aD (bt s.2).v=s.2:=by rw [mi,aC]
   have xN:decide (ao (aD (bt s.1).v) (aD (bt s.2).v)>=0)=true->X=none:=λh=>by
    rw [d1,d2] at h;rw [hX,wG,hs,Option.bind_some,h];rfl
   have xS:decide (ao (aD (bt s.1).v) (aD (bt s.2).v)>=0)=false->X=some s:=λh=>by
    rw [d1,d2] at h;rw [hX,wG,hs,Option.bind_some,h];rfl
   have y1:decide (ao (aD (bt s.1).v) (aD (bt s.2).v)>=0)=false->s.1=kq X:=λh=>by rw [xS h];rfl
   have y2:decide (ao (aD (bt s.1).v) (aD (bt s.2).v)>=0)=false->s.2=kN X:=λh=>by rw [xS h];rfl
   have y3:decide (ao (aD (bt s.1).v) (aD (bt s.2).v)>=0)=false->PV.val (.bool true)=PV.val (.bool X.isSome):=λh=>by rw [xS h];rfl
   with_unfolding_all exact⟨⟨r1,r2⟩,λh=>⟨[some 1,some 2],aa [(4,.ptr 0 0 0 0),(5,.ptr 1 1 0 0),(6,.val (.bool X.isSome))] [bx (kq X) 0,bx (kN X) 1] 2 [],Wo ⟨qZ ⟨⟨(zb (xN h)).1,rfl⟩,⟨(zb (xN h)).2.1,rfl⟩,⟨(zb (xN h)).2.2.1,rfl⟩,qQ⟩,qZ ⟨⟨(zc (xN h)).1,rfl⟩,⟨(zc (xN h)).2.1,rfl⟩,⟨(zc (xN h)).2.2,rfl⟩,qQ⟩,qQ⟩ ⟨pP,pP,(zb (xN h)).2.2.2,qQ⟩ trivial,rfl,rfl⟩,λh=>⟨⟨⟨[some 1,some 2],aa [(4,.ptr 0 0 0 0),(5,.ptr 1 1 0 0),(6,.val (.bool X.isSome))] [bx (kq X) 0,bx (kN X) 1] 2 [],Wo ⟨qZ ⟨⟨gp (y1 h),rfl⟩,⟨gq (y1 h),rfl⟩,⟨gr (y1 h),rfl⟩,qQ⟩,qZ ⟨⟨gp (y2 h),rfl⟩,⟨gq (y2 h),rfl⟩,⟨gr (y2 h),rfl⟩,qQ⟩,qQ⟩ ⟨pP,pP,(y3 h),qQ⟩ trivial,rfl,rfl⟩,⟨[some 1,some 2],aa [(4,.ptr 0 0 0 0),(5,.ptr 1 1 0 0),(6,.val (.bool X.isSome))] [bx (kq X) 0,bx (kN X) 1] 2 [],Wo ⟨qZ ⟨⟨gp (y1 h),rfl⟩,⟨gq (y1 h),rfl⟩,⟨gr (y1 h),rfl⟩,qQ⟩,qZ ⟨⟨gp (y2 h),rfl⟩,⟨gq (y2 h),rfl⟩,⟨gr (y2 h),rfl⟩,qQ⟩,qQ⟩ ⟨pP,pP,(y3 h),qQ⟩ trivial,rfl,rfl⟩⟩,⟨[some 1,some 2],aa [(4,.ptr 0 0 0 0),(5,.ptr 1 1 0 0),(6,.val (.bool X.isSome))] [bx (kq X) 0,bx (kN X) 1] 2 [],Wo ⟨qZ ⟨⟨gp (y1 h),rfl⟩,⟨gq (y1 h),rfl⟩,⟨gr (y1 h),rfl⟩,qQ⟩,qZ ⟨⟨gp (y2 h),rfl⟩,⟨gq (y2 h),rfl⟩,⟨gr (y2 h),rfl⟩,qQ⟩,qQ⟩ ⟨pP,pP,(y3 h),qQ⟩ trivial,rfl,rfl⟩⟩⟩
 ·cases e
end Go.Proofs
namespace Go.Num
def dS (lo hi p:PtS):Nat->List Int
 |0=>[]
 |j+1=>dS lo hi p j++(bif dK j lo hi p then [-((j:Int)+1)] else [])
def gD (n:Nat->Nat) (q:Nat->Nat->PtS) (p:PtS):Nat->List Int
 |0=>[]
 |i+1=>gD n q p i++(bif ld (n i) (q i) p (n i)==1 then [(i:Int)] else [])
def pB (L:List Int) (i:Nat):List PV:=[.val (.int .i64 ((L[i]?).getD 0))]
theorem yG {L:List Int} {x:Int} {r:Nat->List PV} (h:r 0=[.val (.int .i64 x)]):∀i,i < L.length+1->pB (L++[x]) i=iB L.length (pB L) r i:=λi hi=>by
 unfold iB pB;by_cases hl:i < L.length
 ·rw [if_pos hl,List.getElem?_append_left hl]
 ·obtain rfl:i=L.length:=by omega
  rw [if_neg hl,Nat.sub_self,h];simp
theorem tT (lo hi p:PtS):∀j,(dS lo hi p j).length<=j
 |0=>Nat.le_refl _
 |j+1=>by
  have:=tT lo hi p j;rw [dS,List.length_append];cases dK j lo hi p<;>simp<;>omega
theorem yH (n:Nat->Nat) (q:Nat->Nat->PtS) (p:PtS):∀j,(gD n q p j).length<=j
 |0=>Nat.le_refl _
 |j+1=>by
  have:=yH n q p j;rw [gD,List.length_append];cases (ld (n j) (q j) p (n j)==1)<;>simp<;>omega
theorem uZ {lo hi p:PtS}:∀{j:Nat},dS lo hi p j=[]↔aE (λi=>dK i lo hi p) j=false
 |0=>⟨λ_=>rfl,λ_=>rfl⟩
 |j+1=>by
  rw [dS,List.append_eq_nil_iff,uZ,az,az];constructor
  ·rintro ⟨h1,h2⟩ i hij;by_cases e:i=j
   ·rw [e];cases hb:dK j lo hi p with
    |false=>rfl
    |true=>rw [hb] at h2;cases h2
   ·exact h1 i (by omega)
  ·intro h;exact⟨λi hi=>h i (by omega),by rw [h j (by omega)];rfl⟩
theorem u0 {n:Nat->Nat} {q:Nat->Nat->PtS} {p:PtS}:∀{j:Nat},gD n q p j=[]↔aE (λi=>ld (n i) (q i) p (n i)==1) j=false
 |0=>⟨λ_=>rfl,λ_=>rfl⟩
 |j+1=>by
  rw [gD,List.append_eq_nil_iff,u0,az,az];constructor
  ·rintro ⟨h1,h2⟩ i hi;by_cases e:i=j
   ·rw [e];cases hb:(ld (n j) (q j) p (n j)==1) with
    |false=>rfl
    |true=>rw [hb] at h2;cases h2
   ·exact h1 i (by omega)
  ·intro h;exact⟨λi hi=>h i (by omega),by rw [h j (by omega)];rfl⟩
def yZ (lo hi:PtS) (k:Nat) (n:Nat->Nat) (q:Nat->Nat->PtS) (p:PtS):List Int:=dS lo hi p 4++gD n q p k
theorem yI (lo hi:PtS) (k:Nat) (n:Nat->Nat) (q:Nat->Nat->PtS) (p:PtS):(((yZ lo hi k n q p).length:Int)==0)=ap lo hi k n q p:=by
 unfold ap yZ;rw [Bool.eq_iff_iff,beq_iff_eq,Bool.not_eq_true',Bool.or_eq_false_iff,<-uZ,<-u0];constructor
 ·intro h;have:(dS lo hi p 4++gD n q p k).length=0:=by omega
  rw [List.length_eq_zero_iff,List.append_eq_nil_iff] at this;exact this
 ·rintro ⟨h1,h2⟩;rw [h1,h2];rfl
end Go.Num
namespace Go.Proofs
def HX:List PV->Option Ans
 |[.agg xs,.val v]=>some ⟨some ((isRg 10000 xs/\isPk 10000 v)/\gK xs<=1000/\∀i,i < gK xs->pn (gC xs) i<=1000000),.rs 1 (yZ (bM xs) (bN xs) (gK xs) (pn (gC xs)) (λi=>ab (pg (gC xs) i)) (aN v)).length (pB (yZ (bM xs) (bN xs) (gK xs) (pn (gC xs)) (λi=>ab (pg (gC xs) i)) (aN v))),[]⟩
 |_=>none
def D97:Opt:={  }
theorem HY:am D97.toOrd Tryz.f97 2=true:=by kernel_rfl
theorem f97:FnOk Tryz.prog 97 HX:=by
 refine FnOk.ofW aj (an (l:=[(133,AI),(134,C9)]) (own:=[]) (inl:=[]) (by simp [f133,f134]) (by simp)) Tryz.func97 D97 2 HY λargs r e=>?_;unfold HX at e;split at e
 ·rename_i xs v
  cases e;refine⟨by simp,λhm=>?_⟩;obtain⟨⟨⟨h1,⟨hlo,hhi⟩,hcl,hol⟩,p,rfl,hp⟩,hk,hn⟩:=hm _ rfl;generalize bM xs=lo at *
  generalize bN xs=hi at *
  generalize gK xs=k at *
  generalize gC xs=c at *
  generalize gL xs=l at *
  generalize gO xs=o at *
  subst h1;clear hm;have hcl':bQ 10000 k (λi=>[.rs 6 (pn c i) (pg c i)]):=⟨λi hi=>⟨rfl,(hcl.1 i hi).2⟩,hcl.2⟩;refine⟨[],aa [(0,.agg (bq lo hi k c l o)),(1,.val p.v)] [] 0 [],Wo trivial ⟨⟨rfl,rfl,rfl,rfl,rfl,rfl,rfl,rfl,rfl,rfl,rfl,rfl,qW,qW,qQ⟩,rfl,qQ⟩ trivial,?_⟩;have hX:isRg 10000 (bq lo hi k c l o):=⟨rfl,⟨hlo,hhi⟩,hcl',λ_ _=>rfl,hol.2⟩;have hpk:isPk 10000 p.v:=⟨p,rfl,hp⟩;with_unfolding_all refine⟨Nat,λj=>j<=4,λj=>aa [(2,.ptr 0 0 0 0),(3,.ptr 1 1 0 0),(5,.sl 2 2 0 (dS lo hi p j).length),(6,.val (.int .i64 (-((j:Int)+1))))] [⟨31,14,0,true,false,1,λ_=>bq lo hi k c l o⟩,⟨25,6,1,true,false,1,λ_=>p.cells⟩,⟨3,1,2,false,false,(dS lo hi p j).length,pB (dS lo hi p j)⟩] 3 [],λj=>4 - j,⟨0,[some 0,some 1,none],Nat.zero_le _,Wo ⟨qZ ⟨rq,rq,rq,rq,rq,rq,rq,rq,rq,rq,rq,rq,⟨qW,rfl⟩,⟨qW,rfl⟩,qQ⟩,qK,⟨aW rfl,rfl,rfl,rfl⟩,qQ⟩ ⟨pP,pP,⟨rfl,rfl,rfl,rfl,aW rfl⟩,rfl,qQ⟩ trivial⟩,λj hj=>?_⟩
  replace hj:j<=4:=hj;with_unfolding_all refine⟨λh1=>?_,λh1=>?_⟩
  ·have hj4:j+1<=4:=by
    have:=of_decide_eq_true h1;omega
   have hl:=tT lo hi p j;have hsd:mP (-((j:Int)+1))=j:=by
    match j,hj4 with
    |0,_=>rfl
    |1,_=>rfl
    |2,_=>rfl
    |3,_=>rfl
    |j+4,h=>omega
   have eT:dK (mP (-((j:Int)+1))) lo hi p=true->dS lo hi p (j+1)=dS lo hi p j++[-((j:Int)+1)]:=λh=>by
    rw [hsd] at h;rw [dS,h];rfl
   have eF:dK (mP (-((j:Int)+1))) lo hi p=false->dS lo hi p (j+1)=dS lo hi p j:=λh=>by
    rw [hsd] at h;rw [dS,h];exact List.append_nil _
   have nT:dK (mP (-((j:Int)+1))) lo hi p=true->(dS lo hi p (j+1)).length=(dS lo hi p j).length+1:=λh=>by rw [eT h,List.length_append];rfl
   have nF:dK (mP (-((j:Int)+1))) lo hi p=false->(dS lo hi p (j+1)).length=(dS lo hi p j).length:=λh=>by rw [eF h]
   have rT:dK (mP (-((j:Int)+1))) lo hi p=true->∀r:Nat->List PV,r 0=[.val (.int .i64 (-((j:Int)+1)))]->∀t,t < (dS lo hi p j).length+1->pB (dS lo hi p (j+1)) t=iB (dS lo hi p j).length (pB (dS lo hi p j)) r t:=λh r hr=>by
    rw [eT h];exact yG hr
   have rF:dK (mP (-((j:Int)+1))) lo hi p=false->∀t,t < (dS lo hi p j).length->pB (dS lo hi p (j+1)) t=pB (dS lo hi p j) t:=λh t _=>by rw [eF h]
   have k1:((dS lo hi p j).length+1)*8<=140737488355328:=by omega
   have k2:(dS lo hi p j).length+1<=9223372036854775807:=by omega
   have w6:PV.val (.int .i64 (IntKind.i64.wrap (-((j:Int)+1) - 1)))=PV.val (.int .i64 (-(((j+1:Nat):Int)+1))):=by
    rw [wrap64 (by omega) (by omega)];exact congrArg (λz=>PV.val (.int .i64 z)) (by omega)
   have hμ : 4 - (j+1) < 4 - j:=by omega
   with_unfolding_all exact⟨⟨hX,hpk⟩,λh2=>⟨⟨rfl,k1,k2⟩,⟨j+1,[some 0,some 1,some 2],hj4,hμ,Wo ⟨qZ ⟨rq,rq,rq,rq,rq,rq,rq,rq,rq,rq,rq,rq,⟨qW,rfl⟩,⟨qW,rfl⟩,qQ⟩,qK,⟨aW rfl,rfl,rfl,rfl,rfl,(nT h2),rT h2 _ rfl⟩,qQ⟩ ⟨pP,pP,⟨rfl,rfl,(nT h2).symm,aW rfl,_,rfl⟩,w6,qQ⟩ trivial⟩⟩,λh2=>⟨j+1,[some 0,some 1,some 2],hj4,hμ,Wo ⟨qZ ⟨rq,rq,rq,rq,rq,rq,rq,rq,rq,rq,rq,rq,⟨qW,rfl⟩,⟨qW,rfl⟩,qQ⟩,qK,⟨aW rfl,rfl,rfl,rfl,rfl,(nF h2),rF h2⟩,qQ⟩ ⟨pP,pP,⟨rfl,rfl,(nF h2).symm,aW rfl,_,rfl⟩,w6,qQ⟩ trivial⟩⟩
  ·have hj4:j=4:=by
    have:¬ -((j:Int)+1) >= -4:=of_decide_eq_false h1;omega
   subst hj4;have n0:(dS lo hi p 4++gD (pn c) (λi=>ab (pg c i)) p 0).length=(dS lo hi p 4).length:=by rw [gD,List.append_nil]
   have r0:∀t,t < (dS lo hi p 4).length->pB (dS lo hi p 4++gD (pn c) (λi=>ab (pg c i)) p 0) t=pB (dS lo hi p 4) t:=λt _=>by rw [gD,List.append_nil]
   with_unfolding_all refine⟨Nat,λi=>i<=k,λi=>aa [(2,.ptr 0 0 0 0),(3,.ptr 1 1 0 0),(5,.sl 2 2 0 (dS lo hi p 4++gD (pn c) (λi=>ab (pg c i)) p i).length),(7,.val (goInt (i:Nat)))] [⟨31,14,0,true,false,1,λ_=>bq lo hi k c l o⟩,⟨25,6,1,true,false,1,λ_=>p.cells⟩,⟨3,1,2,false,false,(dS lo hi p 4++gD (pn c) (λi=>ab (pg c i)) p i).length,pB (dS lo hi p 4++gD (pn c) (λi=>ab (pg c i)) p i)⟩] 3 [],λi=>k - i,⟨0,[some 0,some 1,some 2],Nat.zero_le _,Wo ⟨qZ ⟨rq,rq,rq,rq,rq,rq,rq,rq,rq,rq,rq,rq,⟨qW,rfl⟩,⟨qW,rfl⟩,qQ⟩,qK,⟨aW rfl,rfl,rfl,rfl,rfl,n0,r0⟩,qQ⟩ ⟨pP,pP,⟨rfl,rfl,n0.symm,aW rfl,_,rfl⟩,rfl,qQ⟩ trivial⟩,λi hi1=>?_⟩
   replace hi1:i<=k:=hi1;with_unfolding_all refine⟨λh1=>?_,λh1=>?_⟩
   ·have hik:i < k:=by
     have:=of_decide_eq_true h1;exact Int.ofNat_lt.1 this
    have hl:=tT lo hi p 4;have hl2:=yH (pn c) (λi=>ab (pg c i)) p i;have hll:(dS lo hi p 4++gD (pn c) (λi=>ab (pg c i)) p i).length<=4+i:=by
     rw [List.length_append];omega
    have eT:(ld (pn c (i:Int).toNat) (ab (pg c (i:Int).toNat)) p (pn c (i:Int).toNat)==1)=true->(dS lo hi p 4++gD (pn c) (λi=>ab (pg c i)) p (i+1))=(dS lo hi p 4++gD (pn c) (λi=>ab (pg c i)) p i)++[(i:Int)]:=λh=>by
     rw [Int.toNat_natCast] at h;rw [gD,h,List.append_assoc];rfl
    have eF:(ld (pn c (i:Int).toNat) (ab (pg c (i:Int).toNat)) p (pn c (i:Int).toNat)==1)=false->(dS lo hi p 4++gD (pn c) (λi=>ab (pg c i)) p (i+1))=(dS lo hi p 4++gD (pn c) (λi=>ab (pg c i)) p i):=λh=>by
     rw [Int.toNat_natCast] at h;rw [gD,h];exact congrArg _ (List.append_nil _)
    have nT:(ld (pn c (i:Int).toNat) (ab (pg c (i:Int).toNat)) p (pn c (i:Int).toNat)==1)=true->(dS lo hi p 4++gD (pn c) (λi=>ab (pg c i)) p (i+1)).length=(dS lo hi p 4++gD (pn c) (λi=>ab (pg c i)) p i).length+1:=λh=>by
     rw [eT h,List.length_append];rfl
    have nF:(ld (pn c (i:Int).toNat) (ab (pg c (i:Int).toNat)) p (pn c (i:Int).toNat)==1)=false->(dS lo hi p 4++gD (pn c) (λi=>ab (pg c i)) p (i+1)).length=(dS lo hi p 4++gD (pn c) (λi=>ab (pg c i)) p i).length:=λh=>by rw [eF h]
    have rT:(ld (pn c (i:Int).toNat) (ab (pg c (i:Int).toNat)) p (pn c (i:Int).toNat)==1)=true->∀r:Nat->List PV,r 0=[.val (.int .i64 (i:Int))]->∀t,t < (dS lo hi p 4++gD (pn c) (λi=>ab (pg c i)) p i).length+1->pB (dS lo hi p 4++gD (pn c) (λi=>ab (pg c i)) p (i+1)) t=iB (dS lo hi p 4++gD (pn c) (λi=>ab (pg c i)) p i).length (pB (dS lo hi p 4++gD (pn c) (λi=>ab (pg c i)) p i)) r t:=λh r hr=>by
     rw [eT h];exact yG hr
    have rF:(ld (pn c (i:Int).toNat) (ab (pg c (i:Int).toNat)) p (pn c (i:Int).toNat)==1)=false->∀t,t < (dS lo hi p 4++gD (pn c) (λi=>ab (pg c i)) p i).length->pB (dS lo hi p 4++gD (pn c) (λi=>ab (pg c i)) p (i+1)) t=pB (dS lo hi p 4++gD (pn c) (λi=>ab (pg c i)) p i) t:=λh t _=>by rw [eF h]
    have k1:((dS lo hi p 4++gD (pn c) (λi=>ab (pg c i)) p i).length+1)*8<=140737488355328:=by omega
    have k2:(dS lo hi p 4++gD (pn c) (λi=>ab (pg c i)) p i).length+1<=9223372036854775807:=by omega
    have q1:isPL 10000 (pn c (i:Int).toNat) (pg c (i:Int).toNat):=by
     rw [Int.toNat_natCast];exact(hcl.1 i hik).2
    have q2:pn c (i:Int).toNat<=1000000:=by
     rw [Int.toNat_natCast];exact hn i hik
    have w7:PV.val (.int .i64 (IntKind.i64.wrap ((i:Int)+1)))=PV.val (goInt ((i+1:Nat):Int)):=by
     rw [wrap64 (by omega) (by omega)];rfl
    have hμ : k - (i+1) < k - i:=by omega
    with_unfolding_all exact⟨⟨Int.natCast_nonneg i,of_decide_eq_true h1⟩,⟨q1,hpk,q2⟩,λh2=>⟨⟨rfl,k1,k2⟩,⟨i+1,[some 0,some 1,some 2],hik,hμ,Wo ⟨qZ ⟨rq,rq,rq,rq,rq,rq,rq,rq,rq,rq,rq,rq,⟨qW,rfl⟩,⟨qW,rfl⟩,qQ⟩,qK,⟨aW rfl,rfl,rfl,rfl,rfl,(nT h2),rT h2 _ rfl⟩,qQ⟩ ⟨pP,pP,⟨rfl,rfl,(nT h2).symm,aW rfl,_,rfl⟩,w7,qQ⟩ trivial⟩⟩,λh2=>⟨i+1,[some 0,some 1,some 2],hik,hμ,Wo ⟨qZ ⟨rq,rq,rq,rq,rq,rq,rq,rq,rq,rq,rq,rq,⟨qW,rfl⟩,⟨qW,rfl⟩,qQ⟩,qK,⟨aW rfl,rfl,rfl,rfl,rfl,(nF h2),rF h2⟩,qQ⟩ ⟨pP,pP,⟨rfl,rfl,(nF h2).symm,aW rfl,_,rfl⟩,w7,qQ⟩ trivial⟩⟩
   ·have hik:i=k:=by
     have:¬(i:Int) < k:=of_decide_eq_false h1;omega
    have el:(dS lo hi p 4++gD (pn c) (λi=>ab (pg c i)) p i).length=(yZ lo hi k (pn c) (λi=>ab (pg c i)) p).length:=by rw [hik];rfl
    have er:∀t,t < (yZ lo hi k (pn c) (λi=>ab (pg c i)) p).length->pB (yZ lo hi k (pn c) (λi=>ab (pg c i)) p) t=pB (dS lo hi p 4++gD (pn c) (λi=>ab (pg c i)) p i) (0+t):=λt _=>by rw [hik,Nat.zero_add];rfl
    with_unfolding_all exact⟨[],aa [(4,.rs 1 (yZ lo hi k (pn c) (λi=>ab (pg c i)) p).length (pB (yZ lo hi k (pn c) (λi=>ab (pg c i)) p)))] [] 0 [],Wo trivial ⟨⟨by simp,_,rfl,rfl,rfl,el,er⟩,qQ⟩ trivial,rfl,rfl⟩
 ·cases e
def HZ:List PV->Option Ans
 |[.agg xs,.val v]=>some ⟨some ((isRg 10000 xs/\isPk 10000 v)/\gK xs<=1000/\∀i,i < gK xs->pn (gC xs) i<=1000000),.val (.bool (ap (bM xs) (bN xs) (gK xs) (pn (gC xs)) (λi=>ab (pg (gC xs) i)) (aN v))),[]⟩
 |_=>none
def D60:Opt:={  }
theorem H0:am D60.toOrd Tryz.f60 2=true:=by kernel_rfl
theorem f60:FnOk Tryz.prog 60 HZ:=by
 refine FnOk.ofW aj (an (l:=[(97,HX)]) (own:=[]) (inl:=[]) (by simp [f97]) (by simp)) Tryz.func60 D60 2 H0 λargs r e=>?_;unfold HZ at e;split at e
 ·rename_i xs v
  cases e;refine⟨by simp,λhm=>?_⟩;obtain⟨⟨⟨h1,⟨hlo,hhi⟩,hcl,hol⟩,p,rfl,hp⟩,hk,hn⟩:=hm _ rfl;generalize bM xs=lo at *
  generalize bN xs=hi at *
  generalize gK xs=k at *
  generalize gC xs=c at *
  generalize gL xs=l at *
  generalize gO xs=o at *
  subst h1;clear hm;have hcl':bQ 10000 k (λi=>[.rs 6 (pn c i) (pg c i)]):=⟨λi hi=>⟨rfl,(hcl.1 i hi).2⟩,hcl.2⟩;refine⟨[],aa [(0,.agg (bq lo hi k c l o)),(1,.val p.v)] [] 0 [],Wo trivial ⟨⟨rfl,rfl,rfl,rfl,rfl,rfl,rfl,rfl,rfl,rfl,rfl,rfl,qW,qW,qQ⟩,rfl,qQ⟩ trivial,?_⟩;have hX:isRg 10000 (bq lo hi k c l o):=⟨rfl,⟨hlo,hhi⟩,hcl',λ_ _=>rfl,hol.2⟩;have hpk:isPk 10000 p.v:=⟨p,rfl,hp⟩;have w:PV.val (.bool ((((yZ lo hi k (pn c) (λi=>ab (pg c i)) p).length:Int)==0)))=PV.val (.bool (ap lo hi k (pn c) (λi=>ab (pg c i)) p)):=by rw [yI]
  with_unfolding_all exact⟨⟨⟨hX,hpk⟩,hk,hn⟩,⟨[],aa [(4,.val (.bool (ap lo hi k (pn c) (λi=>ab (pg c i)) p)))] [] 0 [],Wo trivial ⟨w,qQ⟩ trivial,rfl,rfl⟩⟩
 ·cases e
end Go.Proofs
namespace Go.Num
theorem A9 {f:Nat->Bool} {N j:Nat} (h:∀t,t < j->f t=false) (hj:j < N) (k:f j=true):dg f N 0=j:=by
 rcases tk (p:=f) N 0 with ⟨h1,_⟩|⟨i,_,h2,h3,h4,e⟩
 ·rw [h1 j (Nat.zero_le _) (by omega)] at k;cases k
 ·rw [e];rcases Nat.lt_trichotomy i j with h5|h5|h5
  ·rw [h i h5] at h3;cases h3
  ·rw [h5]
  ·rw [h4 j (Nat.zero_le _) h5] at k;cases k
def yJ (lo hi:PtS) (k:Nat) (c:Nat->List PV) (l:Nat) (o:Nat->List PV) (a b:PtS):Bool:=(eE lo hi k (pn c) (λi=>bl (pn c i) (ab (pg c i))) l (ow o)==0)&&(ah a&&ah b)
theorem mI {lo hi:PtS} {k:Nat} {c:Nat->List PV} {l:Nat} {o:Nat->List PV} (h:eE lo hi k (pn c) (λi=>bl (pn c i) (ab (pg c i))) l (ow o)=0):bS lo hi k (pn c) (λi=>ab (pg c i)) l (ow o)=0/\k<=32/\∀i,i < k->pn c i<=64:=by
 have hr:=iw (r':=λi=>bd (pn c i) (ab (pg c i))) (λj _ h=>jg h) h;exact⟨hr,yC hr,λi hi=>(mG (iz hr i hi)).1.2⟩
def wH (lo hi a b:PtS) (i:Nat):Bool:=dK i lo hi a||dK i lo hi b
def u7 (n:Nat->Nat) (p:Nat->Nat->PtS) (a b:PtS) (i:Nat):Bool:=Dh (fu (n i) (p i) a) (gv (n i) (p i) a b) (n i)
def Db (lo hi:PtS) (k:Nat) (n:Nat->Nat) (p:Nat->Nat->PtS) (a b:PtS):Int:=bif aE (wH lo hi a b) 4 then -(dg (wH lo hi a b) 4 0+1) else bif aE (u7 n p a b) k then dg (u7 n p a b) k 0 else 0
end Go.Num
namespace Go.Proofs
def H1:List PV->Option Ans
 |[.agg xs,.val v]=>some ⟨some ((isRg 10000 xs/\dI 10000 v)/\gK xs<=1000/\∀i,i < gK xs->pn (gC xs) i<=1000000),.val (.tuple ⟨[.int .i64 (Db (bM xs) (bN xs) (gK xs) (pn (gC xs)) (λi=>ab (pg (gC xs) i)) (aL v).1 (aL v).2),.bool (kw (bM xs) (bN xs) (gK xs) (pn (gC xs)) (λi=>ab (pg (gC xs) i)) (aL v).1 (aL v).2)]⟩),[]⟩
 |_=>none
def D99:Opt:={ join:=λc=>match c with | .region 9 _ _=>true|_=>false,perm:=jc [(9,(.rd 0 (.rd 1 (.rd 2 (.rd 3 (.rd 4 (.rd 5 (.alt 6 (.rd 7 (.rd 8 (.rd 9 (.rd 10 (.alt 11 (.mk 12 .nil) (.mk 12 (.mk 11 .nil))))))) (.alt 11 (.alt 6 (.rd 7 (.rd 8 (.rd 9 (.rd 10 (.mk 12 .nil))))) (.mk 12 (.mk 6 (.rd 7 (.rd 8 (.rd 9 (.rd 10 .nil))))))) (.mk 12 (.alt 6 (.rd 7 (.rd 8 (.rd 9 (.rd 10 (.mk 11 .nil))))) (.mk 11 (.mk 6 (.rd 7 (.rd 8 (.rd 9 (.rd 10 .nil)))))))))))))))))] }
theorem H2:am D99.toOrd Tryz.f99 2=true:=by kernel_rfl
theorem f99:FnOk Tryz.prog 99 H1:=by
 refine FnOk.ofW aj (an (l:=[(133,AI),(136,Da)]) (own:=[]) (inl:=[]) (by simp [f133,f136]) (by simp)) Tryz.func99 D99 2 H2 λargs r e=>?_;unfold H1 at e;split at e
 ·rename_i xs v
  cases e;refine⟨by simp,λhm=>?_⟩;obtain⟨⟨⟨h1,⟨hlo,hhi⟩,hcl,hol⟩,a,b,rfl,ha,hb⟩,hk,hn⟩:=hm _ rfl;generalize bM xs=lo at *
  generalize bN xs=hi at *
  generalize gK xs=k at *
  generalize gC xs=c at *
  generalize gL xs=l at *
  generalize gO xs=o at *
  subst h1;clear hm;have hcl':bQ 10000 k (λi=>[.rs 6 (pn c i) (pg c i)]):=⟨λi hi=>⟨rfl,(hcl.1 i hi).2⟩,hcl.2⟩;have hX:isRg 10000 (bq lo hi k c l o):=⟨rfl,⟨hlo,hhi⟩,hcl',λ_ _=>rfl,hol.2⟩;have pka:isPk 10000 a.v:=⟨a,rfl,ha⟩;have pkb:isPk 10000 b.v:=⟨b,rfl,hb⟩;have psg:dI 10000 (ar a b):=⟨a,b,rfl,ha,hb⟩;refine⟨[],aa [(0,.agg (bq lo hi k c l o)),(1,.val (ar a b))] [] 0 [],Wo trivial ⟨⟨rfl,rfl,rfl,rfl,rfl,rfl,rfl,rfl,rfl,rfl,rfl,rfl,qW,qW,qQ⟩,rfl,qQ⟩ trivial,?_⟩;show y9 _ _ _ _ _ ⟨_,.val (.tuple ⟨[.int .i64 (Db lo hi k (pn c) (λi=>ab (pg c i)) a b),.bool (kw lo hi k (pn c) (λi=>ab (pg c i)) a b)]⟩),[]⟩;obtain⟨I,hI⟩:∃I,I=(Db lo hi k (pn c) (λi=>ab (pg c i)) a b):=⟨_,rfl⟩;obtain⟨B,hB⟩:∃B,B=(kw lo hi k (pn c) (λi=>ab (pg c i)) a b):=⟨_,rfl⟩;rw [<-hI,<-hB];have eI:I=bif aE (wH lo hi a b) 4 then -(dg (wH lo hi a b) 4 0+1) else bif aE (u7 (pn c) (λi=>ab (pg c i)) a b) k then dg (u7 (pn c) (λi=>ab (pg c i)) a b) k 0 else 0:=hI;have eB:B=(aE (wH lo hi a b) 4||aE (u7 (pn c) (λi=>ab (pg c i)) a b) k):=hB;clear hI hB;with_unfolding_all refine⟨Nat,λj=>j<=4/\∀t,t < j->wH lo hi a b t=false,λj=>aa [(2,.ptr 0 0 0 0),(3,.ptr 1 1 0 0),(6,.val (.int .i64 (-((j:Int)+1))))] [⟨31,14,0,true,false,1,λ_=>bq lo hi k c l o⟩,⟨117,12,1,true,false,1,λ_=>kp a b⟩] 2 [],λj=>4 - j,⟨0,[some 0,some 1],⟨Nat.zero_le _,λt ht=>absurd ht (Nat.not_lt_zero t)⟩,Wo ⟨qZ ⟨rq,rq,rq,rq,rq,rq,rq,rq,rq,rq,rq,rq,⟨qW,rfl⟩,⟨qW,rfl⟩,qQ⟩,qZ ⟨rq,rq,rq,rq,rq,rq,rq,rq,rq,rq,rq,rq,qQ⟩,qQ⟩ ⟨pP,pP,rfl,qQ⟩ trivial⟩,λj hj=>?_⟩
  obtain⟨hj,hjf⟩:j<=4/\∀t,t < j->wH lo hi a b t=false:=hj;with_unfolding_all refine⟨λh1=>?_,λh1=>?_⟩
  ·have hj4:j+1<=4:=by
    have:=of_decide_eq_true h1;omega
   have hsd:mP (-((j:Int)+1))=j:=by
    match j,hj4 with
    |0,_=>rfl
    |1,_=>rfl
    |2,_=>rfl
    |3,_=>rfl
    |j+4,h=>omega
   have nj:dK (mP (-((j:Int)+1))) lo hi a=false->dK (mP (-((j:Int)+1))) lo hi b=false->∀t,t < j+1->wH lo hi a b t=false:=λh2 h3 t ht=>by
    rw [hsd] at h2 h3;by_cases e:t=j
    ·rw [e,wH,h2,h3];rfl
    ·exact hjf t (by omega)
   have yj:dK (mP (-((j:Int)+1))) lo hi a=true\/dK (mP (-((j:Int)+1))) lo hi b=true->PV.val (.int .i64 (-((j:Int)+1)))=PV.val (.int .i64 I)/\PV.val (.bool true)=PV.val (.bool B):=λh=>by
    rw [hsd] at h;have hs:wH lo hi a b j=true:=by
     unfold wH;rcases h with h|h<;>rw [h]<;>simp
    have ha4:aE (wH lo hi a b) 4=true:=bn.2 ⟨j,by omega,hs⟩;rw [eI,eB,ha4,A9 hjf (by omega) hs];exact⟨rfl,rfl⟩
   have w6:PV.val (.int .i64 (IntKind.i64.wrap (-((j:Int)+1) - 1)))=PV.val (.int .i64 (-(((j+1:Nat):Int)+1))):=by
    rw [wrap64 (by omega) (by omega)];exact congrArg (λz=>PV.val (.int .i64 z)) (by omega)
   have hμ : 4 - (j+1) < 4 - j:=by omega
   have hnn:∀B:Bool,B = !false->B=true:=λB h=>h;with_unfolding_all exact⟨⟨hX,pka⟩,λh2=>⟨⟨hX,pkb⟩,λh3=>⟨[],aa [(4,.val (.int .i64 I)),(5,.val (.bool B))] [] 0 [],Wo trivial ⟨(yj (.inr h3)).1,(yj (.inr h3)).2,qQ⟩ trivial,rfl,rfl⟩,λh3=>⟨j+1,[some 0,some 1],⟨hj4,(nj h2 h3)⟩,hμ,Wo ⟨qZ ⟨rq,rq,rq,rq,rq,rq,rq,rq,rq,rq,rq,rq,⟨qW,rfl⟩,⟨qW,rfl⟩,qQ⟩,qZ ⟨rq,rq,rq,rq,rq,rq,rq,rq,rq,rq,rq,rq,qQ⟩,qQ⟩ ⟨pP,pP,w6,qQ⟩ trivial⟩⟩,λh2=>⟨λ_=>⟨[],aa [(4,.val (.int .i64 I)),(5,.val (.bool B))] [] 0 [],Wo trivial ⟨(yj (.inl (hnn _ h2))).1,(yj (.inl (hnn _ h2))).2,qQ⟩ trivial,rfl,rfl⟩,λh=>(nomatch h)⟩⟩
  ·have hj4:j=4:=by
    have:¬ -((j:Int)+1) >= -4:=of_decide_eq_false h1;omega
   subst hj4;have a4:aE (wH lo hi a b) 4=false:=az.2 hjf;with_unfolding_all refine⟨Nat,λi=>i<=k/\∀t,t < i->u7 (pn c) (λi=>ab (pg c i)) a b t=false,λi=>aa [(2,.ptr 0 0 0 0),(3,.ptr 1 1 0 0),(7,.val (goInt (i:Nat)))] [⟨31,14,0,true,false,1,λ_=>bq lo hi k c l o⟩,⟨117,12,1,true,false,1,λ_=>kp a b⟩] 2 [],λi=>k - i,⟨0,[some 0,some 1],⟨Nat.zero_le _,λt ht=>absurd ht (Nat.not_lt_zero t)⟩,Wo ⟨qZ ⟨rq,rq,rq,rq,rq,rq,rq,rq,rq,rq,rq,rq,⟨qW,rfl⟩,⟨qW,rfl⟩,qQ⟩,qZ ⟨rq,rq,rq,rq,rq,rq,rq,rq,rq,rq,rq,rq,qQ⟩,qQ⟩ ⟨pP,pP,rfl,qQ⟩ trivial⟩,λi hi1=>?_⟩
   obtain⟨hi1,hif⟩:i<=k/\∀t,t < i->u7 (pn c) (λi=>ab (pg c i)) a b t=false:=hi1;with_unfolding_all refine⟨λh1=>?_,λh1=>?_⟩
   ·have hik:i < k:=by
     have:=of_decide_eq_true h1;exact Int.ofNat_lt.1 this
    have q1:isPL 10000 (pn c (i:Int).toNat) (pg c (i:Int).toNat):=by
     rw [Int.toNat_natCast];exact(hcl.1 i hik).2
    have q2:pn c (i:Int).toNat<=1000000:=by
     rw [Int.toNat_natCast];exact hn i hik
    have w10:PV.val (.bool (wG (fu (pn c (i:Int).toNat) (ab (pg c (i:Int).toNat)) a) (gv (pn c (i:Int).toNat) (ab (pg c (i:Int).toNat)) a b) (pn c (i:Int).toNat)).isSome)=PV.val (.bool (u7 (pn c) (λi=>ab (pg c i)) a b i)):=by
     rw [Int.toNat_natCast,F5];rfl
    have ni:(u7 (pn c) (λi=>ab (pg c i)) a b i)=false->∀t,t < i+1->u7 (pn c) (λi=>ab (pg c i)) a b t=false:=λh t ht=>by
     by_cases e:t=i
     ·rw [e];exact h
     ·exact hif t (by omega)
    have yi:(u7 (pn c) (λi=>ab (pg c i)) a b i)=true->PV.val (.int .i64 (i:Int))=PV.val (.int .i64 I)/\PV.val (.bool true)=PV.val (.bool B):=λh=>by
     have hk4:aE (u7 (pn c) (λi=>ab (pg c i)) a b) k=true:=bn.2 ⟨i,hik,h⟩;rw [eI,eB,a4,hk4,A9 hif hik h];exact⟨rfl,rfl⟩
    have w7:PV.val (.int .i64 (IntKind.i64.wrap ((i:Int)+1)))=PV.val (goInt ((i+1:Nat):Int)):=by
     rw [wrap64 (by omega) (by omega)];rfl
    have hμ : k - (i+1) < k - i:=by omega
    with_unfolding_all refine⟨Unit,λ_=>True,λ_=>aa [(2,.ptr 0 0 0 0),(3,.ptr 1 1 0 0),(7,.val (goInt (i:Nat))),(10,.val (.bool (u7 (pn c) (λi=>ab (pg c i)) a b i)))] [⟨31,14,0,true,false,1,λ_=>bq lo hi k c l o⟩,⟨117,12,1,true,false,1,λ_=>kp a b⟩] 2 [],⟨⟨Int.natCast_nonneg i,of_decide_eq_true h1⟩,⟨⟨⟨q1,psg,q2⟩,⟨⟨(),[some 0,some 1],trivial,Wo ⟨qZ ⟨rq,rq,rq,rq,rq,rq,rq,rq,rq,rq,rq,rq,⟨qW,rfl⟩,⟨qW,rfl⟩,qQ⟩,qZ ⟨rq,rq,rq,rq,rq,rq,rq,rq,rq,rq,rq,rq,qQ⟩,qQ⟩ ⟨pP,pP,rfl,w10,qQ⟩ trivial⟩,⟨(),[some 0,some 1],trivial,Wo ⟨qZ ⟨rq,rq,rq,rq,rq,rq,rq,rq,rq,rq,rq,rq,⟨qW,rfl⟩,⟨qW,rfl⟩,qQ⟩,qZ ⟨rq,rq,rq,rq,rq,rq,rq,rq,rq,rq,rq,rq,qQ⟩,qQ⟩ ⟨pP,pP,rfl,w10,qQ⟩ trivial⟩⟩⟩,⟨⟨⟨⟨q1,psg,q2⟩,⟨(),[some 0,some 1],trivial,Wo ⟨qZ ⟨rq,rq,rq,rq,rq,rq,rq,rq,rq,rq,rq,rq,⟨qW,rfl⟩,⟨qW,rfl⟩,qQ⟩,qZ ⟨rq,rq,rq,rq,rq,rq,rq,rq,rq,rq,rq,rq,qQ⟩,qQ⟩ ⟨pP,pP,rfl,w10,qQ⟩ trivial⟩⟩,⟨⟨q1,psg,q2⟩,⟨(),[some 0,some 1],trivial,Wo ⟨qZ ⟨rq,rq,rq,rq,rq,rq,rq,rq,rq,rq,rq,rq,⟨qW,rfl⟩,⟨qW,rfl⟩,qQ⟩,qZ ⟨rq,rq,rq,rq,rq,rq,rq,rq,rq,rq,rq,rq,qQ⟩,qQ⟩ ⟨pP,pP,rfl,w10,qQ⟩ trivial⟩⟩⟩,⟨⟨⟨q1,psg,q2⟩,⟨(),[some 0,some 1],trivial,Wo ⟨qZ ⟨rq,rq,rq,rq,rq,rq,rq,rq,rq,rq,rq,rq,⟨qW,rfl⟩,⟨qW,rfl⟩,qQ⟩,qZ ⟨rq,rq,rq,rq,rq,rq,rq,rq,rq,rq,rq,rq,qQ⟩,qQ⟩ ⟨pP,pP,rfl,w10,qQ⟩ trivial⟩⟩,⟨⟨q1,psg,q2⟩,⟨(),[some 0,some 1],trivial,Wo ⟨qZ ⟨rq,rq,rq,rq,rq,rq,rq,rq,rq,rq,rq,rq,⟨qW,rfl⟩,⟨qW,rfl⟩,qQ⟩,qZ ⟨rq,rq,rq,rq,rq,rq,rq,rq,rq,rq,rq,rq,qQ⟩,qQ⟩ ⟨pP,pP,rfl,w10,qQ⟩ trivial⟩⟩⟩⟩⟩⟩,λ_ _=>?_⟩
    with_unfolding_all exact⟨λh2=>⟨[],aa [(4,.val (.int .i64 I)),(5,.val (.bool B))] [] 0 [],Wo trivial ⟨(yi h2).1,(yi h2).2,qQ⟩ trivial,rfl,rfl⟩,λh2=>⟨i+1,[some 0,some 1],⟨hik,(ni h2)⟩,hμ,Wo ⟨qZ ⟨rq,rq,rq,rq,rq,rq,rq,rq,rq,rq,rq,rq,⟨qW,rfl⟩,⟨qW,rfl⟩,qQ⟩,qZ ⟨rq,rq,rq,rq,rq,rq,rq,rq,rq,rq,rq,rq,qQ⟩,qQ⟩ ⟨pP,pP,w7,qQ⟩ trivial⟩⟩
   ·have hik:i=k:=by
     have:¬(i:Int) < k:=of_decide_eq_false h1;omega
    have ak:aE (u7 (pn c) (λi=>ab (pg c i)) a b) k=false:=az.2 (by rw [hik] at hif;exact hif);have y0:PV.val (.int .i64 0)=PV.val (.int .i64 I)/\PV.val (.bool false)=PV.val (.bool B):=by
     rw [eI,eB,a4,ak];exact⟨rfl,rfl⟩
    with_unfolding_all exact⟨[],aa [(4,.val (.int .i64 I)),(5,.val (.bool B))] [] 0 [],Wo trivial ⟨y0.1,y0.2,qQ⟩ trivial,rfl,rfl⟩
 ·cases e
def H3:List PV->Option Ans
 |[.agg xs,.val v,.val u]=>some ⟨some ((isRg 10000 xs/\isPk 10000 v/\isPk 10000 u)/\gK xs<=1000/\∀i,i < gK xs->pn (gC xs) i<=1000000),.val (.bool (!kw (bM xs) (bN xs) (gK xs) (pn (gC xs)) (λi=>ab (pg (gC xs) i)) (aN v) (aN u))),[]⟩
 |_=>none
def D62:Opt:={  }
theorem H4:am D62.toOrd Tryz.f62 3=true:=by kernel_rfl
theorem f62:FnOk Tryz.prog 62 H3:=by
 refine FnOk.ofW aj (an (l:=[(99,H1)]) (own:=[]) (inl:=[]) (by simp [f99]) (by simp)) Tryz.func62 D62 3 H4 λargs r e=>?_;unfold H3 at e;split at e
 ·rename_i xs v u
  cases e;refine⟨by simp,λhm=>?_⟩;obtain⟨⟨⟨h1,⟨hlo,hhi⟩,hcl,hol⟩,⟨a,rfl,ha⟩,b,rfl,hb⟩,hk,hn⟩:=hm _ rfl;generalize bM xs=lo at *
  generalize bN xs=hi at *
  generalize gK xs=k at *
  generalize gC xs=c at *
  generalize gL xs=l at *
  generalize gO xs=o at *
  subst h1;clear hm;have hcl':bQ 10000 k (λi=>[.rs 6 (pn c i) (pg c i)]):=⟨λi hi=>⟨rfl,(hcl.1 i hi).2⟩,hcl.2⟩;have hX:isRg 10000 (bq lo hi k c l o):=⟨rfl,⟨hlo,hhi⟩,hcl',λ_ _=>rfl,hol.2⟩;have psg:dI 10000 (ar a b):=⟨a,b,rfl,ha,hb⟩;refine⟨[],aa [(0,.agg (bq lo hi k c l o)),(1,.val a.v),(2,.val b.v)] [] 0 [],Wo trivial ⟨⟨rfl,rfl,rfl,rfl,rfl,rfl,rfl,rfl,rfl,rfl,rfl,rfl,qW,qW,qQ⟩,rfl,rfl,qQ⟩ trivial,?_⟩;with_unfolding_all exact⟨⟨⟨hX,psg⟩,hk,hn⟩,⟨[],aa [(6,.val (.bool (!(kw lo hi k (pn c) (λi=>ab (pg c i)) a b))))] [] 0 [],Wo trivial ⟨rfl,qQ⟩ trivial,rfl,rfl⟩⟩
 ·cases e
def H5:List PV->Option Ans
 |[.agg xs,.val v,.val u]=>some ⟨some (isRg 10000 xs/\isPk 10000 v/\isPk 10000 u),.val (.tuple ⟨[.bool (yJ (bM xs) (bN xs) (gK xs) (gC xs) (gL xs) (gO xs) (aN v) (aN u)&&!kw (bM xs) (bN xs) (gK xs) (pn (gC xs)) (λi=>ab (pg (gC xs) i)) (aN v) (aN u)),.int .i64 (bV (yJ (bM xs) (bN xs) (gK xs) (gC xs) (gL xs) (gO xs) (aN v) (aN u)))]⟩),[]⟩
 |_=>none
def D22:Opt:={  }
theorem H6:am D22.toOrd Tryz.f22 3=true:=by kernel_rfl
theorem f22:FnOk Tryz.prog 22 H5:=by
 refine FnOk.ofW aj (an (l:=[(58,FK),(59,EZ),(62,H3)]) (own:=[]) (inl:=[]) (by simp [f58,f59,f62]) (by simp)) Tryz.func22 D22 3 H6 λargs r e=>?_;unfold H5 at e;split at e
 ·rename_i xs v u
  cases e;refine⟨by simp,λhm=>?_⟩;obtain⟨⟨h1,⟨hlo,hhi⟩,hcl,hol⟩,⟨a,rfl,ha⟩,b,rfl,hb⟩:=hm _ rfl;generalize bM xs=lo at *
  generalize bN xs=hi at *
  generalize gK xs=k at *
  generalize gC xs=c at *
  generalize gL xs=l at *
  generalize gO xs=o at *
  subst h1;clear hm;have hcl':bQ 10000 k (λi=>[.rs 6 (pn c i) (pg c i)]):=⟨λi hi=>⟨rfl,(hcl.1 i hi).2⟩,hcl.2⟩;have hX:isRg 10000 (bq lo hi k c l o):=⟨rfl,⟨hlo,hhi⟩,hcl',λ_ _=>rfl,hol.2⟩;have pka:isPk 10000 a.v:=⟨a,rfl,ha⟩;have pkb:isPk 10000 b.v:=⟨b,rfl,hb⟩;have pa4:isPk 4294967296 a.v:=⟨a,rfl,ha.mono (by decide)⟩;have pb4:isPk 4294967296 b.v:=⟨b,rfl,hb.mono (by decide)⟩;refine⟨[],aa [(0,.agg (bq lo hi k c l o)),(1,.val a.v),(2,.val b.v)] [] 0 [],Wo trivial ⟨⟨rfl,rfl,rfl,rfl,rfl,rfl,rfl,rfl,rfl,rfl,rfl,rfl,qW,qW,qQ⟩,rfl,rfl,qQ⟩ trivial,?_⟩;show y9 _ _ _ _ _ ⟨_,.val (.tuple ⟨[.bool ((yJ lo hi k c l o a b)&&!(kw lo hi k (pn c) (λi=>ab (pg c i)) a b)),.int .i64 (bV (yJ lo hi k c l o a b))]⟩),[]⟩;obtain⟨K,hK⟩:∃K,K=(yJ lo hi k c l o a b):=⟨_,rfl⟩;obtain⟨B,hB⟩:∃B,B=(kw lo hi k (pn c) (λi=>ab (pg c i)) a b):=⟨_,rfl⟩;rw [<-hK,<-hB];have eK:K=(((eE lo hi k (pn c) (λi=>bl (pn c i) (ab (pg c i))) l (ow o))==0)&&(ah a&&ah b)):=hK;have z:∀C:Bool,(bV C != 0)=true->C=false:=λC h=>by cases C<;>first|rfl|cases h
  have z':∀C:Bool,(bV C != 0)=false->C=true:=λC h=>by cases C<;>first|rfl|cases h
  have bad:K=false->PV.val (.bool false)=PV.val (.bool (K&&!B))/\PV.val (.int .i64 1)=PV.val (.int .i64 (bV K)):=λh=>by
   rw [h];exact⟨rfl,rfl⟩
  have kc:((eE lo hi k (pn c) (λi=>bl (pn c i) (ab (pg c i))) l (ow o)) != 0)=true->K=false:=λh=>by
   have h:((eE lo hi k (pn c) (λi=>bl (pn c i) (ab (pg c i))) l (ow o))==0)=false:=by simpa using h
   rw [eK,h];rfl
  have ka:(bV (ah a) != 0)=true->K=false:=λh=>by
   rw [eK,z _ h,Bool.false_and,Bool.and_false]
  have kb:(bV (ah b) != 0)=true->K=false:=λh=>by
   rw [eK,z _ h,Bool.and_false,Bool.and_false]
  have kg:((eE lo hi k (pn c) (λi=>bl (pn c i) (ab (pg c i))) l (ow o)) != 0)=false->(bV (ah a) != 0)=false->(bV (ah b) != 0)=false->K=true:=λh h2 h3=>by
   have h:((eE lo hi k (pn c) (λi=>bl (pn c i) (ab (pg c i))) l (ow o))==0)=true:=by simpa using h
   rw [eK,h,z' _ h2,z' _ h3];rfl
  have fine:((eE lo hi k (pn c) (λi=>bl (pn c i) (ab (pg c i))) l (ow o)) != 0)=false->k<=1000/\∀i,i < k->pn c i<=1000000:=λh=>by
   have h:(eE lo hi k (pn c) (λi=>bl (pn c i) (ab (pg c i))) l (ow o))=0:=by simpa using h
   have hf:=mI h;exact⟨Nat.le_trans hf.2.1 (by decide),λi hi2=>Nat.le_trans (hf.2.2 i hi2) (by decide)⟩
  have good:K=true->PV.val (.bool (!(kw lo hi k (pn c) (λi=>ab (pg c i)) a b)))=PV.val (.bool (K&&!B))/\PV.val (.int .i64 0)=PV.val (.int .i64 (bV K)):=λh=>by
   rw [h,hB];exact⟨rfl,rfl⟩
  have hnn:∀C:Bool,C = !false->C=true:=λC h=>h;with_unfolding_all exact⟨hX,λh1=>⟨pa4,λh2=>⟨pb4,λh3=>⟨[],aa [(6,.val (.bool (K&&!B))),(7,.val (.int .i64 (bV K)))] [] 0 [],Wo trivial ⟨(bad (kb h3)).1,(bad (kb h3)).2,qQ⟩ trivial,rfl,rfl⟩,λh3=>⟨⟨⟨hX,pka,pkb⟩,fine h1⟩,⟨[],aa [(6,.val (.bool (K&&!B))),(7,.val (.int .i64 (bV K)))] [] 0 [],Wo trivial ⟨(good (kg h1 h2 h3)).1,(good (kg h1 h2 h3)).2,qQ⟩ trivial,rfl,rfl⟩⟩⟩,λh2=>⟨λ_=>⟨[],aa [(6,.val (.bool (K&&!B))),(7,.val (.int .i64 (bV K)))] [] 0 [],Wo trivial ⟨(bad (ka (hnn _ h2))).1,(bad (ka (hnn _ h2))).2,qQ⟩ trivial,rfl,rfl⟩,λh=>(nomatch h)⟩⟩,λh1=>⟨λh=>(nomatch h),λ_=>⟨λ_=>⟨[],aa [(6,.val (.bool (K&&!B))),(7,.val (.int .i64 (bV K)))] [] 0 [],Wo trivial ⟨(bad (kc (hnn _ h1))).1,(bad (kc (hnn _ h1))).2,qQ⟩ trivial,rfl,rfl⟩,λh=>(nomatch h)⟩⟩⟩
 ·cases e
end Go.Proofs
namespace Go.Ex
theorem R0.row {ok:Nat->Prop} {w:World} {es n:Nat} {g g':Nat->List PV} {v:Value} (h:R0 ok w (.rs es n g) v) (e:∀i,i < n->g' i=g i):R0 ok w (.rs es n g') v:=by
 cases h with
 |rs _ _ _ a c u hl hc hm h1 h2=>exact .rs _ _ _ a c u (λi hi=>by rw [e i hi];exact hl i hi) hc hm (λi f p hi hp=>h1 i f p hi (by rw [<-e i hi];exact hp)) (λi f p hi hp=>h2 i f p hi (by rw [<-e i hi];exact hp))
theorem R0.rows {ok:Nat->Prop} {w:World} {k z:Nat} {n:Nat->Nat} {g g':Nat->Nat->List PV} {v:Value} (h:R0 ok w (.rs 1 k λi=>[.rs z (n i) (g i)]) v) (e:∀i,i < k->∀t,t < n i->g' i t=g i t):R0 ok w (.rs 1 k λi=>[.rs z (n i) (g' i)]) v:=by
 cases h with
 |rs _ _ _ a c u hl hc hm h1 h2 =>
  refine .rs _ _ _ a c u (λi hi=>⟨rfl,λp hp=>?_⟩) hc hm (λi f p hi hp=>?_) (λi f p hi hp=>?_)
  ·rw [List.mem_singleton.1 hp];exact(hl i hi).2 (.rs z (n i) (g i)) (List.mem_singleton.2 rfl)
  ·match f with
   |0=>exact h1 i 0 _ hi rfl
   |f+1=>cases hp
  ·match f with
   |0 =>
    cases hp;exact R0.row (h2 i 0 _ hi rfl) (e i hi)
   |f+1=>cases hp
end Go.Ex
namespace Go.Num
def lf (c:Nat->List PV):Nat->List PV:=λi=>[.rs 6 (pn c i) (λt=>(ab (pg c i) t).cells)]
def jV (L:List PtS) (x:PtS):Nat->Nat->Nat
 |0,i=>i
 |f+1,i=>bif decide (bc (ae L i) x < 0) then jV L x f (i+1) else i
def iK (L:List PtS) (x:PtS):Nat:=jV L x L.length 0
theorem u9 {L:List PtS} {x:PtS} {m:Nat}:∀{f i:Nat},i<=m->(∀t,i<=t->t < m->bc (ae L t) x < 0)->m<=i+f->(m=i+f\/¬bc (ae L m) x < 0)->jV L x f i=m
 |0,i,h0,_,h2,_=>by
  rw [jV];omega
 |f+1,i,h0,h1,h2,h3=>by
  rw [jV];by_cases e:i=m
  ·subst e;rcases h3 with h3|h3
   ·omega
   ·rw [decide_eq_false h3];rfl
  ·rw [decide_eq_true (h1 i (Nat.le_refl _) (by omega)),cond_true];exact u9 (by omega) (λt a b=>h1 t (by omega) b) (by omega) (by rcases h3 with h3|h3;exact .inl (by omega);exact .inr h3)
theorem yK {L:List PtS} {x:PtS} {m:Nat} (h1:∀t,t < m->bc (ae L t) x < 0) (h2:m<=L.length) (h3:m=L.length\/¬bc (ae L m) x < 0):iK L x=m :=
 u9 (Nat.zero_le _) (λt _ h=>h1 t h) (by omega) (by rcases h3 with h3|h3;exact .inl (by omega);exact .inr h3)
def hO (L:List PtS) (x:PtS):List PtS:=bif decide (iK L x < L.length)&&bW (ae L (iK L x)) x then L else L.take (iK L x)++x::L.drop (iK L x)
def bZ (S:PtS->Bool) (p:Nat->PtS) (L:List PtS):Nat->List PtS
 |0=>L
 |j+1=>bif S (p j) then hO (bZ S p L j) (p j) else bZ S p L j
def bH (S:PtS->Bool) (n:Nat->Nat) (p:Nat->Nat->PtS):Nat->List PtS
 |0=>[]
 |i+1=>bZ S (p i) (bH S n p i) (n i)
theorem yL (L:List PtS) (x:PtS):(hO L x).length<=L.length+1:=by
 unfold hO;cases decide (iK L x < L.length)&&bW (ae L (iK L x)) x with
 |true=>exact Nat.le_succ _
 |false =>
  show(L.take (iK L x)++x::L.drop (iK L x)).length<=_;rw [List.length_append,List.length_cons,List.length_take,List.length_drop];omega
theorem pD (S:PtS->Bool) (p:Nat->PtS) (L:List PtS):∀j,(bZ S p L j).length<=L.length+j
 |0=>Nat.le_refl _
 |j+1=>by
  have h1:=pD S p L j;have h2:=yL (bZ S p L j) (p j);rw [bZ];cases S (p j) with
  |true=>show(hO (bZ S p L j) (p j)).length<=_;omega
  |false=>show(bZ S p L j).length<=_;omega
theorem vd (S:PtS->Bool) (n:Nat->Nat) (p:Nat->Nat->PtS) {k:Nat} (hn:∀i,i < k->n i<=64):∀i,i<=k->(bH S n p i).length<=64*i
 |0,_=>Nat.le_refl _
 |i+1,h=>by
  have h1:=vd S n p hn i (by omega);have h2:=pD S (p i) (bH S n p i) (n i);have h3:=hn i (by omega);rw [bH];omega
theorem yM {K:Nat} {L:List PtS} {x:PtS} (h:∀p∈L,p.le K) (hx:x.le K):∀p∈hO L x,p.le K:=λp hp=>by
 unfold hO at hp;cases hb:decide (iK L x < L.length)&&bW (ae L (iK L x)) x with
 |true =>
  rw [hb] at hp;exact h p hp
 |false =>
  rw [hb] at hp;have hp:p∈L.take (iK L x)++x::L.drop (iK L x):=hp;rcases List.mem_append.1 hp with hp|hp
  ·exact h p (List.mem_of_mem_take hp)
  ·rcases List.mem_cons.1 hp with hp|hp
   ·rw [hp];exact hx
   ·exact h p (List.mem_of_mem_drop hp)
theorem pE {K:Nat} {S:PtS->Bool} {p:Nat->PtS} {L:List PtS} (h:∀q∈L,q.le K):∀{j:Nat},(∀t,t < j->(p t).le K)->∀q∈bZ S p L j,q.le K
 |0,_=>h
 |j+1,hp=>λq hq=>by
  rw [bZ] at hq;have ih:=pE (S:=S) h (j:=j) λt ht=>hp t (by omega);cases hS:S (p j) with
  |true =>
   rw [hS] at hq;exact yM ih (hp j (by omega)) q hq
  |false =>
   rw [hS] at hq;exact ih q hq
theorem ve {K:Nat} {S:PtS->Bool} {n:Nat->Nat} {p:Nat->Nat->PtS}:∀{i:Nat},(∀s,s < i->∀t,t < n s->(p s t).le K)->∀q∈bH S n p i,q.le K
 |0,_=>λq hq=>by cases hq
 |i+1,h=>pE (ve λs hs=>h s (by omega)) λt ht=>h i (by omega) t ht
theorem yN {L:List PtS} {x:PtS} {m:Nat} (hm:m<=L.length) (t:Nat) (ht:t < L.length+1):ae (L.take m++x::L.drop m) t=if t < m then ae L t else if t=m then x else ae L (t - 1):=by
 unfold ae;by_cases h:t < m
 ·rw [if_pos h,List.getElem?_append_left (by rw [List.length_take];omega),List.getElem?_take_of_lt h]
 ·rw [if_neg h,List.getElem?_append_right (by rw [List.length_take];omega),List.length_take,Nat.min_eq_left hm];by_cases e:t=m
  ·rw [if_pos e,e,Nat.sub_self];rfl
  ·rw [if_neg e,show t - m=(t - m - 1)+1 by omega,List.getElem?_cons_succ,List.getElem?_drop,show m+(t - m - 1)=t - 1 by omega]
theorem wI {L:List PtS} {x:PtS} {m:Nat} (h:iK L x=m) (e:(decide (m < L.length)&&bW (ae L m) x)=true):hO L x=L:=by
 rw [hO,h,e];rfl
theorem yO {L:List PtS} {x:PtS} {m:Nat} (h:iK L x=m) (hm:m<=L.length) (e:(decide (m < L.length)&&bW (ae L m) x)=false):(hO L x).length=m+1+((L.length:Int) - m).toNat/\∀r:Nat->List PV,r 0=x.cells->∀t,t < m+1+((L.length:Int) - m).toNat->(ae (hO L x) t).cells=iB (m+1) (iB m (λt=>(ae L t).cells) r) (λs=>(ae L (0+(m:Int).toNat+s)).cells) t:=by
 have e2:hO L x=L.take m++x::L.drop m:=by
  rw [hO,h,e];rfl
 rw [e2];refine⟨by rw [List.length_append,List.length_cons,List.length_take,List.length_drop];omega,λr hr t ht=>?_⟩;rw [yN hm t (by omega),iB,iB,Nat.zero_add,Int.toNat_natCast];by_cases h1:t < m
 ·rw [if_pos h1,if_pos (by omega),if_pos h1]
 ·rw [if_neg h1];by_cases h2:t=m
  ·rw [if_pos h2,if_pos (by omega),if_neg h1,h2,Nat.sub_self,hr]
  ·rw [if_neg h2,if_neg (by omega),show m+(t - (m+1))=t - 1 by omega]
end Go.Num
namespace Go.Proofs
def F8:List PV->Option Ans
 |[.agg xs]=>some ⟨some (isRg 10000 xs/\(gK xs<=32/\∀i,i < gK xs->pn (gC xs) i<=64)/\gC xs=lf (gC xs)),.rs 6 (bH (ap (bM xs) (bN xs) (gK xs) (pn (gC xs)) (λi=>ab (pg (gC xs) i))) (pn (gC xs)) (λi=>ab (pg (gC xs) i)) (gK xs)).length (λt=>(ae (bH (ap (bM xs) (bN xs) (gK xs) (pn (gC xs)) (λi=>ab (pg (gC xs) i))) (pn (gC xs)) (λi=>ab (pg (gC xs) i)) (gK xs)) t).cells),[]⟩
 |_=>none
def D61:Opt:={  }
theorem H7:am D61.toOrd Tryz.f61 1=true:=by kernel_rfl
theorem H8:FnOk Tryz.prog 61 F8:=by
 refine FnOk.ofW aj (an (l:=[(60,HZ),(98,Gg)]) (own:=[]) (inl:=[]) (by simp [f60,f98]) (by simp)) Tryz.func61 D61 1 H7 λargs r e=>?_;unfold F8 at e;split at e
 ·rename_i xs
  cases e;refine⟨by simp,λhm=>?_⟩;obtain⟨⟨h1,⟨hlo,hhi⟩,hcl,hol⟩,⟨hk,hn⟩,hnm⟩:=hm _ rfl;generalize bM xs=lo at *
  generalize bN xs=hi at *
  generalize gK xs=k at *
  generalize gC xs=c at *
  generalize gL xs=l at *
  generalize gO xs=o at *
  subst h1;clear hm;obtain⟨d,rfl⟩:∃d,c=lf d:=⟨c,hnm⟩;clear hnm;have hp:∀i,i < k->∀t,t < pn d i->(ab (pg d i) t).le 10000:=λi hi2 t ht=>((hcl.1 i hi2).2.1 t ht).2;have hn:∀i,i < k->pn d i<=64:=hn;have hX:isRg 10000 (bq lo hi k (lf d) l o):=⟨rfl,⟨hlo,hhi⟩,⟨λi hi2=>⟨rfl,(hcl.1 i hi2).2⟩,hcl.2⟩,λ_ _=>rfl,hol.2⟩;refine⟨[],aa [(0,.agg (bq lo hi k (lf d) l o))] [] 0 [],Wo trivial ⟨⟨rfl,rfl,rfl,rfl,rfl,rfl,rfl,rfl,rfl,rfl,rfl,rfl,qW,qW,qQ⟩,qQ⟩ trivial,?_⟩;show y9 _ _ _ _ _ ⟨_,.rs 6 (bH (ap lo hi k (pn d) (λi=>ab (pg d i))) (pn d) (λi=>ab (pg d i)) k).length (λt=>(ae (bH (ap lo hi k (pn d) (λi=>ab (pg d i))) (pn d) (λi=>ab (pg d i)) k) t).cells),[]⟩;have hk3:k<=1000:=by omega
  have hn3:∀i,i < k->pn d i<=1000000:=λi hi2=>Nat.le_trans (hn i hi2) (by decide);with_unfolding_all refine⟨Nat,λi=>i<=k,λi=>aa [(1,.ptr 0 0 0 0),(3,.sl 1 1 0 (bH (ap lo hi k (pn d) (λi=>ab (pg d i))) (pn d) (λi=>ab (pg d i)) i).length),(4,.val (goInt (i:Nat)))] [⟨31,14,0,true,false,1,λ_=>bq lo hi k (lf d) l o⟩,⟨25,6,1,false,false,(bH (ap lo hi k (pn d) (λi=>ab (pg d i))) (pn d) (λi=>ab (pg d i)) i).length,λt=>(ae (bH (ap lo hi k (pn d) (λi=>ab (pg d i))) (pn d) (λi=>ab (pg d i)) i) t).cells⟩] 2 [],λi=>k - i,⟨0,[some 0,some 1],Nat.zero_le _,Wo ⟨qZ ⟨rq,rq,rq,rq,rq,rq,rq,rq,rq,rq,rq,rq,⟨qW,rfl⟩,⟨qW,rfl⟩,qQ⟩,qZ (λt ht=>absurd ht (Nat.not_lt_zero t)),qQ⟩ ⟨pP,pP,rfl,qQ⟩ trivial⟩,λi hi1=>?_⟩
  replace hi1:i<=k:=hi1;with_unfolding_all refine⟨λh1=>?_,λh1=>?_⟩
  ·have hik:i < k:=by
    have:=of_decide_eq_true h1;exact Int.ofNat_lt.1 this
   have bi:0<=(i:Int)/\(i:Int) < k:=⟨Int.natCast_nonneg i,of_decide_eq_true h1⟩;with_unfolding_all refine⟨Nat,λj=>j<=pn d i,λj=>aa [(1,.ptr 0 0 0 0),(3,.sl 1 1 0 (bZ (ap lo hi k (pn d) (λi=>ab (pg d i))) (ab (pg d i)) (bH (ap lo hi k (pn d) (λi=>ab (pg d i))) (pn d) (λi=>ab (pg d i)) i) j).length),(4,.val (goInt (i:Nat))),(5,.val (goInt (j:Nat)))] [⟨31,14,0,true,false,1,λ_=>bq lo hi k (lf d) l o⟩,⟨25,6,1,false,false,(bZ (ap lo hi k (pn d) (λi=>ab (pg d i))) (ab (pg d i)) (bH (ap lo hi k (pn d) (λi=>ab (pg d i))) (pn d) (λi=>ab (pg d i)) i) j).length,λt=>(ae (bZ (ap lo hi k (pn d) (λi=>ab (pg d i))) (ab (pg d i)) (bH (ap lo hi k (pn d) (λi=>ab (pg d i))) (pn d) (λi=>ab (pg d i)) i) j) t).cells⟩] 2 [],λj=>pn d i - j,⟨0,[some 0,some 1],Nat.zero_le _,Wo ⟨qZ ⟨rq,rq,rq,rq,rq,rq,rq,rq,rq,rq,rq,rq,⟨qW,rfl⟩,⟨qW,rfl⟩,qQ⟩,qZ (λ_ _=>rfl),qQ⟩ ⟨pP,pP,rfl,rfl,qQ⟩ trivial⟩,λj hj1=>?_⟩
   replace hj1:j<=pn d i:=hj1;with_unfolding_all refine⟨bi,λh1=>?_,λh1=>?_⟩
   ·have hjn:j < pn d i:=by
     have:=of_decide_eq_true h1;rw [show pn (lf d) (i:Int).toNat=pn d i by rw [Int.toNat_natCast];rfl] at this;exact Int.ofNat_lt.1 this
    have bj:0<=(j:Int)/\(j:Int) < pn (lf d) (i:Int).toNat:=⟨Int.natCast_nonneg j,of_decide_eq_true h1⟩;have pkp:isPk 10000 (ab (pg d (i:Int).toNat) (j:Int).toNat).v:=⟨_,rfl,by rw [Int.toNat_natCast,Int.toNat_natCast];exact hp i hik j hjn⟩;with_unfolding_all refine⟨bi,bj,⟨⟨hX,pkp⟩,hk3,hn3⟩,λh2=>?_,λh2=>?_⟩
    ·have hj1:j+1<=pn d i:=hjn;have hμ : pn d i - (j+1) < pn d i - j:=by omega
     have hpn:=hn i hik;have w5:PV.val (.int .i64 (IntKind.i64.wrap ((j:Int)+1)))=PV.val (goInt ((j+1:Nat):Int)):=by
      rw [wrap64 (by omega) (by omega)];rfl
     rw [Int.toNat_natCast,Int.toNat_natCast] at h2;have hS:(ap lo hi k (pn d) (λi=>ab (pg d i)) (ab (pg d i) j))=false:=by
      rw [<-Bool.not_eq_true'];exact h2
     have hL0:(bZ (ap lo hi k (pn d) (λi=>ab (pg d i))) (ab (pg d i)) (bH (ap lo hi k (pn d) (λi=>ab (pg d i))) (pn d) (λi=>ab (pg d i)) i) (j+1)).length=(bZ (ap lo hi k (pn d) (λi=>ab (pg d i))) (ab (pg d i)) (bH (ap lo hi k (pn d) (λi=>ab (pg d i))) (pn d) (λi=>ab (pg d i)) i) j).length/\∀t,t < (bZ (ap lo hi k (pn d) (λi=>ab (pg d i))) (ab (pg d i)) (bH (ap lo hi k (pn d) (λi=>ab (pg d i))) (pn d) (λi=>ab (pg d i)) i) j).length->(ae (bZ (ap lo hi k (pn d) (λi=>ab (pg d i))) (ab (pg d i)) (bH (ap lo hi k (pn d) (λi=>ab (pg d i))) (pn d) (λi=>ab (pg d i)) i) (j+1)) t).cells=(ae (bZ (ap lo hi k (pn d) (λi=>ab (pg d i))) (ab (pg d i)) (bH (ap lo hi k (pn d) (λi=>ab (pg d i))) (pn d) (λi=>ab (pg d i)) i) j) t).cells:=by
      rw [bZ,hS];exact⟨rfl,λt _=>rfl⟩
     with_unfolding_all exact⟨j+1,[some 0,some 1],hj1,hμ,Wo ⟨qZ ⟨rq,rq,rq,rq,rq,rq,rq,rq,rq,rq,rq,rq,⟨qW,rfl⟩,⟨qW,rfl⟩,qQ⟩,⟨aW rfl,rfl,rfl,rfl,rfl,hL0.1,hL0.2⟩,qQ⟩ ⟨pP,⟨rfl,rfl,hL0.1.symm,aW rfl,_,rfl⟩,rfl,w5,qQ⟩ trivial⟩
    ·have hj1:j+1<=pn d i:=hjn;have hμ : pn d i - (j+1) < pn d i - j:=by omega
     have hpn:=hn i hik;have w5:PV.val (.int .i64 (IntKind.i64.wrap ((j:Int)+1)))=PV.val (goInt ((j+1:Nat):Int)):=by
      rw [wrap64 (by omega) (by omega)];rfl
     rw [Int.toNat_natCast,Int.toNat_natCast] at h2;have hS:(ap lo hi k (pn d) (λi=>ab (pg d i)) (ab (pg d i) j))=true:=by
      rw [Bool.not_eq_false'] at h2;exact h2
     have eL:(bZ (ap lo hi k (pn d) (λi=>ab (pg d i))) (ab (pg d i)) (bH (ap lo hi k (pn d) (λi=>ab (pg d i))) (pn d) (λi=>ab (pg d i)) i) (j+1))=hO (bZ (ap lo hi k (pn d) (λi=>ab (pg d i))) (ab (pg d i)) (bH (ap lo hi k (pn d) (λi=>ab (pg d i))) (pn d) (λi=>ab (pg d i)) i) j) (ab (pg d i) j):=by
      rw [bZ,hS];rfl
     have hLl:(bZ (ap lo hi k (pn d) (λi=>ab (pg d i))) (ab (pg d i)) (bH (ap lo hi k (pn d) (λi=>ab (pg d i))) (pn d) (λi=>ab (pg d i)) i) j).length<=100000:=by
      have h6:=pD (ap lo hi k (pn d) (λi=>ab (pg d i))) (ab (pg d i)) (bH (ap lo hi k (pn d) (λi=>ab (pg d i))) (pn d) (λi=>ab (pg d i)) i) j;have h7:=vd (ap lo hi k (pn d) (λi=>ab (pg d i))) (pn d) (λi=>ab (pg d i)) hn i (by omega);have h8:=hn i hik;omega
     have hLp:∀q∈(bZ (ap lo hi k (pn d) (λi=>ab (pg d i))) (ab (pg d i)) (bH (ap lo hi k (pn d) (λi=>ab (pg d i))) (pn d) (λi=>ab (pg d i)) i) j),q.le 10000:=pE (ve λs hs t ht=>hp s (by omega) t ht) λt ht=>hp i hik t (by omega);with_unfolding_all refine⟨Nat,λm=>m<=(bZ (ap lo hi k (pn d) (λi=>ab (pg d i))) (ab (pg d i)) (bH (ap lo hi k (pn d) (λi=>ab (pg d i))) (pn d) (λi=>ab (pg d i)) i) j).length/\∀t,t < m->bc (ae (bZ (ap lo hi k (pn d) (λi=>ab (pg d i))) (ab (pg d i)) (bH (ap lo hi k (pn d) (λi=>ab (pg d i))) (pn d) (λi=>ab (pg d i)) i) j) t) (ab (pg d i) j) < 0,λm=>aa [(1,.ptr 0 0 0 0),(3,.sl 1 1 0 (bZ (ap lo hi k (pn d) (λi=>ab (pg d i))) (ab (pg d i)) (bH (ap lo hi k (pn d) (λi=>ab (pg d i))) (pn d) (λi=>ab (pg d i)) i) j).length),(4,.val (goInt (i:Nat))),(5,.val (goInt (j:Nat))),(6,.ptr 2 2 0 0),(7,.sl 3 3 0 m),(8,.val (goInt (m:Nat)))] [⟨31,14,0,true,false,1,λ_=>bq lo hi k (lf d) l o⟩,⟨25,6,1,false,false,(bZ (ap lo hi k (pn d) (λi=>ab (pg d i))) (ab (pg d i)) (bH (ap lo hi k (pn d) (λi=>ab (pg d i))) (pn d) (λi=>ab (pg d i)) i) j).length,λt=>(ae (bZ (ap lo hi k (pn d) (λi=>ab (pg d i))) (ab (pg d i)) (bH (ap lo hi k (pn d) (λi=>ab (pg d i))) (pn d) (λi=>ab (pg d i)) i) j) t).cells⟩,⟨25,6,2,true,false,1,λ_=>(ab (pg d i) j).cells⟩,⟨25,6,3,false,false,m,λt=>(ae (bZ (ap lo hi k (pn d) (λi=>ab (pg d i))) (ab (pg d i)) (bH (ap lo hi k (pn d) (λi=>ab (pg d i))) (pn d) (λi=>ab (pg d i)) i) j) t).cells⟩] 4 [],λm=>(bZ (ap lo hi k (pn d) (λi=>ab (pg d i))) (ab (pg d i)) (bH (ap lo hi k (pn d) (λi=>ab (pg d i))) (pn d) (λi=>ab (pg d i)) i) j).length - m,⟨0,[some 0,some 1,some 2,some 3],⟨Nat.zero_le _,λt ht=>absurd ht (Nat.not_lt_zero t)⟩,Wo ⟨qZ ⟨rq,rq,rq,rq,rq,rq,rq,rq,rq,rq,rq,rq,⟨qW,rfl⟩,⟨qW,rfl⟩,qQ⟩,qZ (λ_ _=>rfl),qK,qZ (λt ht=>absurd ht (Nat.not_lt_zero t)),qQ⟩ ⟨pP,pP,rfl,rfl,pP,pP,rfl,qQ⟩ trivial⟩,λm hm=>?_⟩
     obtain⟨hm1,hmt⟩:m<=(bZ (ap lo hi k (pn d) (λi=>ab (pg d i))) (ab (pg d i)) (bH (ap lo hi k (pn d) (λi=>ab (pg d i))) (pn d) (λi=>ab (pg d i)) i) j).length/\∀t,t < m->bc (ae (bZ (ap lo hi k (pn d) (λi=>ab (pg d i))) (ab (pg d i)) (bH (ap lo hi k (pn d) (λi=>ab (pg d i))) (pn d) (λi=>ab (pg d i)) i) j) t) (ab (pg d i) j) < 0:=hm;have bm:0<=(m:Int)/\(m:Int) < (bZ (ap lo hi k (pn d) (λi=>ab (pg d i))) (ab (pg d i)) (bH (ap lo hi k (pn d) (λi=>ab (pg d i))) (pn d) (λi=>ab (pg d i)) i) j).length->m < (bZ (ap lo hi k (pn d) (λi=>ab (pg d i))) (ab (pg d i)) (bH (ap lo hi k (pn d) (λi=>ab (pg d i))) (pn d) (λi=>ab (pg d i)) i) j).length:=λh=>Int.ofNat_lt.1 h.2;have lm:decide ((m:Int) < (bZ (ap lo hi k (pn d) (λi=>ab (pg d i))) (ab (pg d i)) (bH (ap lo hi k (pn d) (λi=>ab (pg d i))) (pn d) (λi=>ab (pg d i)) i) j).length)=true->m < (bZ (ap lo hi k (pn d) (λi=>ab (pg d i))) (ab (pg d i)) (bH (ap lo hi k (pn d) (λi=>ab (pg d i))) (pn d) (λi=>ab (pg d i)) i) j).length:=λh=>Int.ofNat_lt.1 (of_decide_eq_true h);have ln:decide ((m:Int) < (bZ (ap lo hi k (pn d) (λi=>ab (pg d i))) (ab (pg d i)) (bH (ap lo hi k (pn d) (λi=>ab (pg d i))) (pn d) (λi=>ab (pg d i)) i) j).length) = !true->m=(bZ (ap lo hi k (pn d) (λi=>ab (pg d i))) (ab (pg d i)) (bH (ap lo hi k (pn d) (λi=>ab (pg d i))) (pn d) (λi=>ab (pg d i)) i) j).length:=λh=>by
      have:=of_decide_eq_false h;omega
     have bml:decide ((m:Int) < (bZ (ap lo hi k (pn d) (λi=>ab (pg d i))) (ab (pg d i)) (bH (ap lo hi k (pn d) (λi=>ab (pg d i))) (pn d) (λi=>ab (pg d i)) i) j).length)=true->0<=(m:Int)/\(m:Int) < (bZ (ap lo hi k (pn d) (λi=>ab (pg d i))) (ab (pg d i)) (bH (ap lo hi k (pn d) (λi=>ab (pg d i))) (pn d) (λi=>ab (pg d i)) i) j).length:=λh=>⟨Int.natCast_nonneg m,of_decide_eq_true h⟩;have pkm:decide ((m:Int) < (bZ (ap lo hi k (pn d) (λi=>ab (pg d i))) (ab (pg d i)) (bH (ap lo hi k (pn d) (λi=>ab (pg d i))) (pn d) (λi=>ab (pg d i)) i) j).length)=true->isPk 1073741824 (ae (bZ (ap lo hi k (pn d) (λi=>ab (pg d i))) (ab (pg d i)) (bH (ap lo hi k (pn d) (λi=>ab (pg d i))) (pn d) (λi=>ab (pg d i)) i) j) (0+(m:Int).toNat)).v/\isPk 1073741824 (ab (pg d i) j).v:=λh=>⟨⟨_,rfl,(jP hLp (by rw [Nat.zero_add];exact lm h)).mono (by decide)⟩,_,rfl,(hp i hik j hjn).mono (by decide)⟩;have hM:decide ((m:Int) < (bZ (ap lo hi k (pn d) (λi=>ab (pg d i))) (ab (pg d i)) (bH (ap lo hi k (pn d) (λi=>ab (pg d i))) (pn d) (λi=>ab (pg d i)) i) j).length)=true->decide (bc (ae (bZ (ap lo hi k (pn d) (λi=>ab (pg d i))) (ab (pg d i)) (bH (ap lo hi k (pn d) (λi=>ab (pg d i))) (pn d) (λi=>ab (pg d i)) i) j) (0+(m:Int).toNat)) (ab (pg d i) j) < 0)=true->(m+1<=(bZ (ap lo hi k (pn d) (λi=>ab (pg d i))) (ab (pg d i)) (bH (ap lo hi k (pn d) (λi=>ab (pg d i))) (pn d) (λi=>ab (pg d i)) i) j).length/\∀t,t < m+1->bc (ae (bZ (ap lo hi k (pn d) (λi=>ab (pg d i))) (ab (pg d i)) (bH (ap lo hi k (pn d) (λi=>ab (pg d i))) (pn d) (λi=>ab (pg d i)) i) j) t) (ab (pg d i) j) < 0):=λh h2=>⟨lm h,λt ht=>by
      rw [Nat.zero_add] at h2;by_cases e:t=m
      ·rw [e];exact of_decide_eq_true h2
      ·exact hmt t (by omega)⟩
     have hμ3:decide ((m:Int) < (bZ (ap lo hi k (pn d) (λi=>ab (pg d i))) (ab (pg d i)) (bH (ap lo hi k (pn d) (λi=>ab (pg d i))) (pn d) (λi=>ab (pg d i)) i) j).length)=true->(bZ (ap lo hi k (pn d) (λi=>ab (pg d i))) (ab (pg d i)) (bH (ap lo hi k (pn d) (λi=>ab (pg d i))) (pn d) (λi=>ab (pg d i)) i) j).length - (m+1) < (bZ (ap lo hi k (pn d) (λi=>ab (pg d i))) (ab (pg d i)) (bH (ap lo hi k (pn d) (λi=>ab (pg d i))) (pn d) (λi=>ab (pg d i)) i) j).length - m:=λh=>by
      have:=lm h;omega
     have a1:(m+1)*80<=140737488355328:=by omega
     have a2:m+1<=9223372036854775807:=by omega
     have a3:(m+1+(((bZ (ap lo hi k (pn d) (λi=>ab (pg d i))) (ab (pg d i)) (bH (ap lo hi k (pn d) (λi=>ab (pg d i))) (pn d) (λi=>ab (pg d i)) i) j).length:Int) - m).toNat)*80<=140737488355328:=by omega
     have a4:m+1+(((bZ (ap lo hi k (pn d) (λi=>ab (pg d i))) (ab (pg d i)) (bH (ap lo hi k (pn d) (λi=>ab (pg d i))) (pn d) (λi=>ab (pg d i)) i) j).length:Int) - m).toNat<=9223372036854775807:=by omega
     have bm2:0<=(m:Int)/\(m:Int)<=(bZ (ap lo hi k (pn d) (λi=>ab (pg d i))) (ab (pg d i)) (bH (ap lo hi k (pn d) (λi=>ab (pg d i))) (pn d) (λi=>ab (pg d i)) i) j).length/\((bZ (ap lo hi k (pn d) (λi=>ab (pg d i))) (ab (pg d i)) (bH (ap lo hi k (pn d) (λi=>ab (pg d i))) (pn d) (λi=>ab (pg d i)) i) j).length:Int)<=(bZ (ap lo hi k (pn d) (λi=>ab (pg d i))) (ab (pg d i)) (bH (ap lo hi k (pn d) (λi=>ab (pg d i))) (pn d) (λi=>ab (pg d i)) i) j).length:=⟨Int.natCast_nonneg m,by omega,Int.le_refl _⟩;have hrow:∀r:Nat->List PV,r 0=(ae (bZ (ap lo hi k (pn d) (λi=>ab (pg d i))) (ab (pg d i)) (bH (ap lo hi k (pn d) (λi=>ab (pg d i))) (pn d) (λi=>ab (pg d i)) i) j) (0+(m:Int).toNat)).cells->∀t,t < m+1->(ae (bZ (ap lo hi k (pn d) (λi=>ab (pg d i))) (ab (pg d i)) (bH (ap lo hi k (pn d) (λi=>ab (pg d i))) (pn d) (λi=>ab (pg d i)) i) j) t).cells=iB m (λt=>(ae (bZ (ap lo hi k (pn d) (λi=>ab (pg d i))) (ab (pg d i)) (bH (ap lo hi k (pn d) (λi=>ab (pg d i))) (pn d) (λi=>ab (pg d i)) i) j) t).cells) r t:=λr hr t ht=>uH (V:=λt=>(ae (bZ (ap lo hi k (pn d) (λi=>ab (pg d i))) (ab (pg d i)) (bH (ap lo hi k (pn d) (λi=>ab (pg d i))) (pn d) (λi=>ab (pg d i)) i) j) t).cells) (by rw [hr,Nat.zero_add];rfl) t ht;have wm:PV.val (.int .i64 (IntKind.i64.wrap ((m:Int)+1)))=PV.val (goInt ((m+1:Nat):Int)):=by
      rw [wrap64 (by omega) (by omega)];rfl
     have hE:(m=(bZ (ap lo hi k (pn d) (λi=>ab (pg d i))) (ab (pg d i)) (bH (ap lo hi k (pn d) (λi=>ab (pg d i))) (pn d) (λi=>ab (pg d i)) i) j).length\/¬bc (ae (bZ (ap lo hi k (pn d) (λi=>ab (pg d i))) (ab (pg d i)) (bH (ap lo hi k (pn d) (λi=>ab (pg d i))) (pn d) (λi=>ab (pg d i)) i) j) m) (ab (pg d i) j) < 0)->(decide (m < (bZ (ap lo hi k (pn d) (λi=>ab (pg d i))) (ab (pg d i)) (bH (ap lo hi k (pn d) (λi=>ab (pg d i))) (pn d) (λi=>ab (pg d i)) i) j).length)&&bW (ae (bZ (ap lo hi k (pn d) (λi=>ab (pg d i))) (ab (pg d i)) (bH (ap lo hi k (pn d) (λi=>ab (pg d i))) (pn d) (λi=>ab (pg d i)) i) j) m) (ab (pg d i) j))=true->((bZ (ap lo hi k (pn d) (λi=>ab (pg d i))) (ab (pg d i)) (bH (ap lo hi k (pn d) (λi=>ab (pg d i))) (pn d) (λi=>ab (pg d i)) i) (j+1)).length=(bZ (ap lo hi k (pn d) (λi=>ab (pg d i))) (ab (pg d i)) (bH (ap lo hi k (pn d) (λi=>ab (pg d i))) (pn d) (λi=>ab (pg d i)) i) j).length/\∀t,t < (bZ (ap lo hi k (pn d) (λi=>ab (pg d i))) (ab (pg d i)) (bH (ap lo hi k (pn d) (λi=>ab (pg d i))) (pn d) (λi=>ab (pg d i)) i) j).length->(ae (bZ (ap lo hi k (pn d) (λi=>ab (pg d i))) (ab (pg d i)) (bH (ap lo hi k (pn d) (λi=>ab (pg d i))) (pn d) (λi=>ab (pg d i)) i) (j+1)) t).cells=(ae (bZ (ap lo hi k (pn d) (λi=>ab (pg d i))) (ab (pg d i)) (bH (ap lo hi k (pn d) (λi=>ab (pg d i))) (pn d) (λi=>ab (pg d i)) i) j) t).cells):=λh6 h7=>by
      rw [eL,wI (yK hmt hm1 h6) h7];exact⟨rfl,λt _=>rfl⟩
     have hI:(m=(bZ (ap lo hi k (pn d) (λi=>ab (pg d i))) (ab (pg d i)) (bH (ap lo hi k (pn d) (λi=>ab (pg d i))) (pn d) (λi=>ab (pg d i)) i) j).length\/¬bc (ae (bZ (ap lo hi k (pn d) (λi=>ab (pg d i))) (ab (pg d i)) (bH (ap lo hi k (pn d) (λi=>ab (pg d i))) (pn d) (λi=>ab (pg d i)) i) j) m) (ab (pg d i) j) < 0)->(decide (m < (bZ (ap lo hi k (pn d) (λi=>ab (pg d i))) (ab (pg d i)) (bH (ap lo hi k (pn d) (λi=>ab (pg d i))) (pn d) (λi=>ab (pg d i)) i) j).length)&&bW (ae (bZ (ap lo hi k (pn d) (λi=>ab (pg d i))) (ab (pg d i)) (bH (ap lo hi k (pn d) (λi=>ab (pg d i))) (pn d) (λi=>ab (pg d i)) i) j) m) (ab (pg d i) j))=false->((bZ (ap lo hi k (pn d) (λi=>ab (pg d i))) (ab (pg d i)) (bH (ap lo hi k (pn d) (λi=>ab (pg d i))) (pn d) (λi=>ab (pg d i)) i) (j+1)).length=m+1+(((bZ (ap lo hi k (pn d) (λi=>ab (pg d i))) (ab (pg d i)) (bH (ap lo hi k (pn d) (λi=>ab (pg d i))) (pn d) (λi=>ab (pg d i)) i) j).length:Int) - m).toNat/\∀r:Nat->List PV,r 0=(ab (pg d i) j).cells->∀t,t < m+1+(((bZ (ap lo hi k (pn d) (λi=>ab (pg d i))) (ab (pg d i)) (bH (ap lo hi k (pn d) (λi=>ab (pg d i))) (pn d) (λi=>ab (pg d i)) i) j).length:Int) - m).toNat->(ae (bZ (ap lo hi k (pn d) (λi=>ab (pg d i))) (ab (pg d i)) (bH (ap lo hi k (pn d) (λi=>ab (pg d i))) (pn d) (λi=>ab (pg d i)) i) (j+1)) t).cells=iB (m+1) (iB m (λt=>(ae (bZ (ap lo hi k (pn d) (λi=>ab (pg d i))) (ab (pg d i)) (bH (ap lo hi k (pn d) (λi=>ab (pg d i))) (pn d) (λi=>ab (pg d i)) i) j) t).cells) r) (λs=>(ae (bZ (ap lo hi k (pn d) (λi=>ab (pg d i))) (ab (pg d i)) (bH (ap lo hi k (pn d) (λi=>ab (pg d i))) (pn d) (λi=>ab (pg d i)) i) j) (0+(m:Int).toNat+s)).cells) t):=λh6 h7=>by
      rw [eL];exact yO (yK hmt hm1 h6) hm1 h7
     have hx:decide (bc (ae (bZ (ap lo hi k (pn d) (λi=>ab (pg d i))) (ab (pg d i)) (bH (ap lo hi k (pn d) (λi=>ab (pg d i))) (pn d) (λi=>ab (pg d i)) i) j) (0+(m:Int).toNat)) (ab (pg d i) j) < 0)=false->(m=(bZ (ap lo hi k (pn d) (λi=>ab (pg d i))) (ab (pg d i)) (bH (ap lo hi k (pn d) (λi=>ab (pg d i))) (pn d) (λi=>ab (pg d i)) i) j).length\/¬bc (ae (bZ (ap lo hi k (pn d) (λi=>ab (pg d i))) (ab (pg d i)) (bH (ap lo hi k (pn d) (λi=>ab (pg d i))) (pn d) (λi=>ab (pg d i)) i) j) m) (ab (pg d i) j) < 0):=λh=>by
      rw [Nat.zero_add] at h;exact .inr (of_decide_eq_false h)
     have q1:decide ((m:Int) < (bZ (ap lo hi k (pn d) (λi=>ab (pg d i))) (ab (pg d i)) (bH (ap lo hi k (pn d) (λi=>ab (pg d i))) (pn d) (λi=>ab (pg d i)) i) j).length)=true->bW (ae (bZ (ap lo hi k (pn d) (λi=>ab (pg d i))) (ab (pg d i)) (bH (ap lo hi k (pn d) (λi=>ab (pg d i))) (pn d) (λi=>ab (pg d i)) i) j) (0+(m:Int).toNat)) (ab (pg d i) j)=true->(decide (m < (bZ (ap lo hi k (pn d) (λi=>ab (pg d i))) (ab (pg d i)) (bH (ap lo hi k (pn d) (λi=>ab (pg d i))) (pn d) (λi=>ab (pg d i)) i) j).length)&&bW (ae (bZ (ap lo hi k (pn d) (λi=>ab (pg d i))) (ab (pg d i)) (bH (ap lo hi k (pn d) (λi=>ab (pg d i))) (pn d) (λi=>ab (pg d i)) i) j) m) (ab (pg d i) j))=true:=λh h2=>by
      rw [Nat.zero_add] at h2;rw [decide_eq_true (lm h),Bool.true_and];exact h2
     have q0:decide ((m:Int) < (bZ (ap lo hi k (pn d) (λi=>ab (pg d i))) (ab (pg d i)) (bH (ap lo hi k (pn d) (λi=>ab (pg d i))) (pn d) (λi=>ab (pg d i)) i) j).length)=true->bW (ae (bZ (ap lo hi k (pn d) (λi=>ab (pg d i))) (ab (pg d i)) (bH (ap lo hi k (pn d) (λi=>ab (pg d i))) (pn d) (λi=>ab (pg d i)) i) j) (0+(m:Int).toNat)) (ab (pg d i) j)=false->(decide (m < (bZ (ap lo hi k (pn d) (λi=>ab (pg d i))) (ab (pg d i)) (bH (ap lo hi k (pn d) (λi=>ab (pg d i))) (pn d) (λi=>ab (pg d i)) i) j).length)&&bW (ae (bZ (ap lo hi k (pn d) (λi=>ab (pg d i))) (ab (pg d i)) (bH (ap lo hi k (pn d) (λi=>ab (pg d i))) (pn d) (λi=>ab (pg d i)) i) j) m) (ab (pg d i) j))=false:=λh h2=>by
      rw [Nat.zero_add] at h2;rw [decide_eq_true (lm h),Bool.true_and];exact h2
     have q2:decide ((m:Int) < (bZ (ap lo hi k (pn d) (λi=>ab (pg d i))) (ab (pg d i)) (bH (ap lo hi k (pn d) (λi=>ab (pg d i))) (pn d) (λi=>ab (pg d i)) i) j).length) = !true->(decide (m < (bZ (ap lo hi k (pn d) (λi=>ab (pg d i))) (ab (pg d i)) (bH (ap lo hi k (pn d) (λi=>ab (pg d i))) (pn d) (λi=>ab (pg d i)) i) j).length)&&bW (ae (bZ (ap lo hi k (pn d) (λi=>ab (pg d i))) (ab (pg d i)) (bH (ap lo hi k (pn d) (λi=>ab (pg d i))) (pn d) (λi=>ab (pg d i)) i) j) m) (ab (pg d i) j))=false:=λh=>by
      have:=ln h;rw [decide_eq_false (by omega),Bool.false_and]
     have c5:decide ((m:Int) < (bZ (ap lo hi k (pn d) (λi=>ab (pg d i))) (ab (pg d i)) (bH (ap lo hi k (pn d) (λi=>ab (pg d i))) (pn d) (λi=>ab (pg d i)) i) j).length)=true->decide ((m:Int) < (bZ (ap lo hi k (pn d) (λi=>ab (pg d i))) (ab (pg d i)) (bH (ap lo hi k (pn d) (λi=>ab (pg d i))) (pn d) (λi=>ab (pg d i)) i) j).length) = !true->False:=λh h2=>by
      rw [h] at h2;cases h2
     with_unfolding_all refine⟨λh3=>⟨bml h3,pkm h3,λh4=>⟨bml h3,⟨⟨rfl,a1,a2⟩,?_⟩⟩,λh4=>⟨λh5=>⟨bml h5,λe1=>?_,λe0=>⟨⟨rfl,a1,a2⟩,bm2,⟨rfl,a3,a4⟩,?_⟩⟩,λh5=>(c5 h3 h5).elim⟩⟩,λh3=>⟨λh=>(nomatch h),λ_=>⟨λh5=>(c5 h5 h3).elim,λh5=>⟨λh=>(nomatch h),λ_=>⟨⟨rfl,a1,a2⟩,bm2,⟨rfl,a3,a4⟩,?_⟩⟩⟩⟩⟩
     ·with_unfolding_all exact⟨m+1,[some 0,some 1,some 2,some 3],hM h3 h4,hμ3 h3,Wo ⟨qZ ⟨rq,rq,rq,rq,rq,rq,rq,rq,rq,rq,rq,rq,⟨qW,rfl⟩,⟨qW,rfl⟩,qQ⟩,qZ (λ_ _=>rfl),qK,qZ (hrow _ rfl),qQ⟩ ⟨pP,pP,rfl,rfl,pP,pP,wm,qQ⟩ trivial⟩
     ·with_unfolding_all exact⟨j+1,[some 0,some 1],hj1,hμ,Wo ⟨qZ ⟨rq,rq,rq,rq,rq,rq,rq,rq,rq,rq,rq,rq,⟨qW,rfl⟩,⟨qW,rfl⟩,qQ⟩,⟨aW rfl,rfl,rfl,rfl,rfl,(hE (hx h4) (q1 h5 e1)).1,(hE (hx h4) (q1 h5 e1)).2⟩,qQ⟩ ⟨pP,⟨rfl,rfl,(hE (hx h4) (q1 h5 e1)).1.symm,aW rfl,_,rfl⟩,rfl,w5,qQ⟩ trivial⟩
     ·with_unfolding_all exact⟨j+1,[some 0,some 3],hj1,hμ,Wo ⟨qZ ⟨rq,rq,rq,rq,rq,rq,rq,rq,rq,rq,rq,rq,⟨qW,rfl⟩,⟨qW,rfl⟩,qQ⟩,⟨aW rfl,rfl,rfl,rfl,rfl,(hI (hx h4) (q0 h5 e0)).1,(hI (hx h4) (q0 h5 e0)).2 _ rfl⟩,qQ⟩ ⟨pP,⟨rfl,rfl,(hI (hx h4) (q0 h5 e0)).1.symm,aW rfl,_,rfl⟩,rfl,w5,qQ⟩ trivial⟩
     ·with_unfolding_all exact⟨j+1,[some 0,some 3],hj1,hμ,Wo ⟨qZ ⟨rq,rq,rq,rq,rq,rq,rq,rq,rq,rq,rq,rq,⟨qW,rfl⟩,⟨qW,rfl⟩,qQ⟩,⟨aW rfl,rfl,rfl,rfl,rfl,(hI (.inl (ln h3)) (q2 h5)).1,(hI (.inl (ln h3)) (q2 h5)).2 _ rfl⟩,qQ⟩ ⟨pP,⟨rfl,rfl,(hI (.inl (ln h3)) (q2 h5)).1.symm,aW rfl,_,rfl⟩,rfl,w5,qQ⟩ trivial⟩
   ·have hjn:j=pn d i:=by
     have:=of_decide_eq_false h1;rw [show pn (lf d) (i:Int).toNat=pn d i by rw [Int.toNat_natCast];rfl] at this;omega
    have hE:(bH (ap lo hi k (pn d) (λi=>ab (pg d i))) (pn d) (λi=>ab (pg d i)) (i+1)).length=(bZ (ap lo hi k (pn d) (λi=>ab (pg d i))) (ab (pg d i)) (bH (ap lo hi k (pn d) (λi=>ab (pg d i))) (pn d) (λi=>ab (pg d i)) i) j).length/\∀t,t < (bZ (ap lo hi k (pn d) (λi=>ab (pg d i))) (ab (pg d i)) (bH (ap lo hi k (pn d) (λi=>ab (pg d i))) (pn d) (λi=>ab (pg d i)) i) j).length->(ae (bH (ap lo hi k (pn d) (λi=>ab (pg d i))) (pn d) (λi=>ab (pg d i)) (i+1)) t).cells=(ae (bZ (ap lo hi k (pn d) (λi=>ab (pg d i))) (ab (pg d i)) (bH (ap lo hi k (pn d) (λi=>ab (pg d i))) (pn d) (λi=>ab (pg d i)) i) j) t).cells:=by
     rw [hjn,bH];exact⟨rfl,λt _=>rfl⟩
    have hμi:k - (i+1) < k - i:=by omega
    have w4:PV.val (.int .i64 (IntKind.i64.wrap ((i:Int)+1)))=PV.val (goInt ((i+1:Nat):Int)):=by
     rw [wrap64 (by omega) (by omega)];rfl
    with_unfolding_all exact⟨i+1,[some 0,some 1],hik,hμi,Wo ⟨qZ ⟨rq,rq,rq,rq,rq,rq,rq,rq,rq,rq,rq,rq,⟨qW,rfl⟩,⟨qW,rfl⟩,qQ⟩,⟨aW rfl,rfl,rfl,rfl,rfl,hE.1,hE.2⟩,qQ⟩ ⟨pP,⟨rfl,rfl,hE.1.symm,aW rfl,_,rfl⟩,w4,qQ⟩ trivial⟩
  ·have hik:i=k:=by
    have:¬(i:Int) < k:=of_decide_eq_false h1;omega
   have hE:(bH (ap lo hi k (pn d) (λi=>ab (pg d i))) (pn d) (λi=>ab (pg d i)) k).length=(bH (ap lo hi k (pn d) (λi=>ab (pg d i))) (pn d) (λi=>ab (pg d i)) i).length/\∀t,t < (bH (ap lo hi k (pn d) (λi=>ab (pg d i))) (pn d) (λi=>ab (pg d i)) k).length->(ae (bH (ap lo hi k (pn d) (λi=>ab (pg d i))) (pn d) (λi=>ab (pg d i)) k) t).cells=(ae (bH (ap lo hi k (pn d) (λi=>ab (pg d i))) (pn d) (λi=>ab (pg d i)) i) (0+t)).cells:=by
    rw [hik];exact⟨rfl,λt _=>by rw [Nat.zero_add]⟩
   with_unfolding_all exact⟨[],aa [(2,.rs 6 (bH (ap lo hi k (pn d) (λi=>ab (pg d i))) (pn d) (λi=>ab (pg d i)) k).length (λt=>(ae (bH (ap lo hi k (pn d) (λi=>ab (pg d i))) (pn d) (λi=>ab (pg d i)) k) t).cells))] [] 0 [],Wo trivial ⟨⟨by simp,_,rfl,rfl,rfl,hE.1.symm,hE.2⟩,qQ⟩ trivial,rfl,rfl⟩
 ·cases e
theorem AL {ok:Nat->Prop} {w:World} {lo hi:PtS} {k:Nat} {c:Nat->List PV} {l:Nat} {o:Nat->List PV} {v:Value} (h:R0 ok w (.agg (bq lo hi k c l o)) v) (e:∀i,i < k->∀t,t < pn c i->(ab (pg c i) t).cells=pg c i t):R0 ok w (.agg (bq lo hi k (lf c) l o)) v:=by
 cases h with
 |agg _ vs hl hR =>
  refine .agg _ vs hl λi p u hp hu=>?_;by_cases hi:i=12
  ·subst hi;have h2:=hR 12 _ u rfl hu;cases hp;exact R0.rows h2 e
  ·refine hR i p u ?_ hu;rw [<-hp]
   match i,hi with
   |0,_|1,_|2,_|3,_|4,_|5,_|6,_|7,_|8,_|9,_|10,_|11,_|13,_=>rfl
   |12,h=>exact absurd rfl h
   |i+14,_=>rfl
def H9:List PV->Option Ans
 |[.agg xs]=>some ⟨some (isRg 10000 xs/\gK xs<=32/\∀i,i < gK xs->pn (gC xs) i<=64),.rs 6 (bH (ap (bM xs) (bN xs) (gK xs) (pn (gC xs)) (λi=>ab (pg (gC xs) i))) (pn (gC xs)) (λi=>ab (pg (gC xs) i)) (gK xs)).length (λt=>(ae (bH (ap (bM xs) (bN xs) (gK xs) (pn (gC xs)) (λi=>ab (pg (gC xs) i))) (pn (gC xs)) (λi=>ab (pg (gC xs) i)) (gK xs)) t).cells),[]⟩
 |_=>none
theorem f61:FnOk Tryz.prog 61 H9:=λargs r e=>by
 unfold H9 at e;split at e
 ·rename_i xs
  cases e;have h:=H8 [.agg (bq (bM xs) (bN xs) (gK xs) (lf (gC xs)) (gL xs) (gO xs))] _ rfl;refine⟨λvs w=>h.1 vs w,λhm A w vs hA hl hR=>?_⟩;obtain⟨⟨h1,hb,hcl,hol⟩,hn⟩:=hm _ rfl;refine h.2 (λq hq=>?_) A w vs hA hl λi p v hp hv=>?_
  ·cases hq;exact⟨⟨rfl,hb,⟨λi hi=>⟨rfl,λt ht=>⟨rfl,((hcl.1 i hi).2.1 t ht).2⟩,(hcl.1 i hi).2.2⟩,hcl.2⟩,λi hi=>rfl,hol.2⟩,hn,rfl⟩
  ·match i with
   |0 =>
    cases hp;have h2:=hR 0 _ v rfl hv;rw [h1] at h2;exact AL h2 λi hi t ht=>((hcl.1 i hi).2.1 t ht).1.symm
   |i+1=>cases hp
 ·cases e
end Go.Proofs
namespace Go.Ex
open Go.RowKit
end Go.Ex
namespace Go.Num
end Go.Num
namespace Go.Proofs
end Go.Proofs
namespace Go.Num
def pF (lo hi:PtS) (k:Nat) (c:Nat->List PV) (l:Nat) (o:Nat->List PV):Bool:=bS lo hi k (pn c) (λi=>ab (pg c i)) l (ow o)==0
def dU (lo hi:PtS) (k:Nat) (c:Nat->List PV) (l:Nat) (o:Nat->List PV):List PtS:=bif pF lo hi k c l o then dv lo hi k c l o else []
end Go.Num
namespace Go.Proofs
def Ia:List PV->Option Ans
 |[.agg xs]=>some ⟨some (isRg 10000 xs/\(au (bM xs) (bN xs) (gK xs) (gC xs) (gL xs) (gO xs)).length<=500),.tup [.rs 6 (dU (bM xs) (bN xs) (gK xs) (gC xs) (gL xs) (gO xs)).length (λi=>(ae (dU (bM xs) (bN xs) (gK xs) (gC xs) (gL xs) (gO xs)) i).cells),.val (.int .i64 (bV (pF (bM xs) (bN xs) (gK xs) (gC xs) (gL xs) (gO xs))))],[]⟩
 |_=>none
theorem Ib:am {} Tryz.f23 1=true:=by kernel_rfl
theorem f23:FnOk Tryz.prog 23 Ia:=by
 refine FnOk.ofW aj (an (l:=[(55,Az),(57,Gj)]) (own:=[]) (inl:=[]) (by simp [FO,f57]) (by simp)) Tryz.func23 {} 1 Ib λargs r e=>?_;unfold Ia at e;split at e
 ·rename_i xs
  cases e;refine⟨by simp,λhm=>?_⟩;obtain⟨⟨h1,⟨hlo,hhi⟩,hcl,hol⟩,hN⟩:=hm _ rfl;generalize bM xs=lo at *
  generalize bN xs=hi at *
  generalize gK xs=k at *
  generalize gC xs=c at *
  generalize gL xs=l at *
  generalize gO xs=o at *
  subst h1;clear hm;refine⟨[],aa [(0,.agg (bq lo hi k c l o))] [] 0 [],Wo trivial ⟨⟨rfl,rfl,rfl,rfl,rfl,rfl,rfl,rfl,rfl,rfl,rfl,rfl,qW,qW,qQ⟩,qQ⟩ trivial,?_⟩;have hcl':bQ 10000 k (λi=>[.rs 6 (pn c i) (pg c i)]):=⟨λi hi=>⟨rfl,(hcl.1 i hi).2⟩,hcl.2⟩;have hol':cR l (λi=>ag (ow o i)):=⟨λ_ _=>rfl,hol.2⟩;have hrg:((lo.le 4294967296/\hi.le 4294967296)/\bQ 10000 k (λi=>[.rs 6 (pn c i) (pg c i)])/\cR l (λi=>ag (ow o i))):=⟨⟨hlo.mono (by decide),hhi.mono (by decide)⟩,hcl',hol'⟩;have hrg3:((lo.le 10000/\hi.le 10000)/\bQ 10000 k (λi=>[.rs 6 (pn c i) (pg c i)])/\cR l (λi=>ag (ow o i))):=⟨⟨hlo,hhi⟩,hcl',hol'⟩;have p0:isPL 4294967296 0 (λ_=>[]):=⟨λi hi=>absurd hi (Nat.not_lt_zero i),Nat.zero_le _⟩;obtain⟨E,hE⟩:∃E,E=pF lo hi k c l o:=⟨_,rfl⟩;obtain⟨R,hR⟩:∃R,R=dU lo hi k c l o:=⟨_,rfl⟩;have eR:R=bif E then dv lo hi k c l o else []:=by rw [hR,dU,<-hE]
  show y9 _ _ _ _ _ ⟨_,.tup [.rs 6 (dU lo hi k c l o).length (λi=>(ae (dU lo hi k c l o) i).cells),.val (.int .i64 (bV (pF lo hi k c l o)))],[]⟩;rw [<-hR,<-hE];have q1:((bS lo hi k (pn (λi=>[.rs 6 (pn c i) (pg c i)])) (λi=>ab (pg (λi=>[.rs 6 (pn c i) (pg c i)]) i)) l (ow (λi=>ag (ow o i)))==0)&&!aE (λi=>!ah (ab (λ_=>[]) i)) 0)=E:=by
   rw [hE];exact Bool.and_true _
  have z:∀B:Bool,(bV B != 0)=true->B=false:=λB h=>by cases B<;>first|rfl|cases h
  have z':∀B:Bool,(bV B != 0)=false->B=true:=λB h=>by cases B<;>first|rfl|cases h
  have b0:E=false->R.length=0:=λh=>by rw [eR,h];rfl
  have v0:PV.val (.int .i64 (bV ((bS lo hi k (pn (λi=>[.rs 6 (pn c i) (pg c i)])) (λi=>ab (pg (λi=>[.rs 6 (pn c i) (pg c i)]) i)) l (ow (λi=>ag (ow o i)))==0)&&!aE (λi=>!ah (ab (λ_=>[]) i)) 0)))=PV.val (.int .i64 (bV E)):=by rw [q1]
  have v1:E=true->PV.val (.int .i64 0)=PV.val (.int .i64 (bV E)):=λh=>by rw [h];rfl
  have n1:E=true->(dv lo hi k (λi=>[.rs 6 (pn c i) (pg c i)]) l (λi=>ag (ow o i))).length=R.length:=λh=>by rw [eR,h];rfl
  have n2:E=true->∀i,i < R.length->(ae R i).cells=(ae (dv lo hi k (λi=>[.rs 6 (pn c i) (pg c i)]) l (λi=>ag (ow o i))) i).cells:=λh=>by rw [eR,h];exactλ_ _=>rfl
  with_unfolding_all exact⟨⟨hrg,p0⟩,λh1=>⟨[],aa [(2,.rs 6 R.length (λi=>(ae R i).cells)),(3,.val (.int .i64 (bV E)))] [] 0 [],Wo trivial ⟨⟨rfl,b0 (q1.symm.trans (z _ h1))⟩,v0,qQ⟩ trivial,rfl,rfl⟩,λh1=>⟨⟨hrg3,hN⟩,⟨[],aa [(2,.rs 6 R.length (λi=>(ae R i).cells)),(3,.val (.int .i64 (bV E)))] [] 0 [],Wo trivial ⟨⟨rfl,n1 (q1.symm.trans (z' _ h1)),n2 (q1.symm.trans (z' _ h1))⟩,v1 (q1.symm.trans (z' _ h1)),qQ⟩ trivial,rfl,rfl⟩⟩⟩
 ·cases e
end Go.Proofs
namespace Go.Num
def nV (lo hi:PtS) (k:Nat) (c:Nat->List PV) (l:Nat) (o:Nat->List PV):Bool:=eE lo hi k (pn c) (λi=>bl (pn c i) (ab (pg c i))) l (ow o)==0
def wJ (lo hi:PtS) (k:Nat) (c:Nat->List PV) (l:Nat) (o:Nat->List PV):List PtS:=bif nV lo hi k c l o then bH (ap lo hi k (pn c) (λi=>ab (pg c i))) (pn c) (λi=>ab (pg c i)) k else []
end Go.Num
namespace Go.Proofs
def Ic:List PV->Option Ans
 |[.rs 6 n g,.rs 6 m h]=>some ⟨some (isPL 10000 n g/\isPL 10000 m h),.val (.bool (decide (n=m)&&!aE (λi=>!bW (ab g i) (ab h i)) n)),[]⟩
 |_=>none
theorem Ie:am {} Tryz.f25 2=true:=by kernel_rfl
theorem f25:FnOk Tryz.prog 25 Ic:=by
 refine FnOk.ofW aj (an (l:=[]) (own:=[]) (inl:=[]) (by simp) (by simp)) Tryz.func25 {} 2 Ie λargs r e=>?_;unfold Ic at e;split at e
 ·rename_i n g m h
  cases e;refine⟨by simp,λhm=>?_⟩;obtain⟨⟨hp,hn⟩,hq,hmm⟩:=hm _ rfl;refine⟨[],aa [(0,.rs 6 n (λi=>(ab g i).cells)),(1,.rs 6 m (λi=>(ab h i).cells))] [] 0 [],Wo trivial ⟨⟨rfl,rfl,λi hi=>(hp i hi).1.symm⟩,⟨rfl,rfl,λi hi=>(hq i hi).1.symm⟩,qQ⟩ trivial,?_⟩;generalize ab g=p at *
  generalize ab h=q at *
  obtain⟨X,hX⟩:∃X,X=(decide (n=m)&&!aE (λi=>!bW (p i) (q i)) n):=⟨_,rfl⟩;rw [<-hX];have v0:(!((n:Int)==(m:Int)))=true->PV.val (.bool false)=PV.val (.bool X):=λh=>by
   have h1:¬n=m:=λe=>by rw [e,beq_self_eq_true] at h;cases h
   rw [hX,decide_eq_false h1];rfl
  have v1:(!((n:Int)==(m:Int)))=false->n=m:=λh=>by
   have h6:((n:Int)==(m:Int))=true:=by simpa using h
   have:=eq_of_beq h6;omega
  with_unfolding_all refine⟨λh1=>⟨[],aa [(4,.val (.bool X))] [] 0 [],Wo trivial ⟨v0 h1,qQ⟩ trivial,rfl,rfl⟩,λh1=>⟨Nat,λi=>i<=n/\∀j,j < i->bW (p j) (q j)=true,λi=>aa [(0,.rs 6 n (λi=>(p i).cells)),(1,.rs 6 m (λi=>(q i).cells)),(12,.val (goInt n)),(13,.val (goInt i))] [] 0 [],λi=>n - i,⟨0,[],⟨Nat.zero_le _,λj hj=>absurd hj (Nat.not_lt_zero j)⟩,Wo trivial ⟨qW,qW,rfl,rfl,qQ⟩ trivial⟩,λi hi=>?_⟩⟩
  have hnm:=v1 h1;obtain⟨hin,hI⟩:i<=n/\∀j,j < i->bW (p j) (q j)=true:=hi;with_unfolding_all refine⟨λh2=>?_,λh2=>⟨[],aa [(4,.val (.bool X))] [] 0 [],Wo trivial ⟨?_,qQ⟩ trivial,rfl,rfl⟩⟩
  ·have h2:(i:Int) < n:=bI h2;have e:(i:Int).toNat=i:=Int.toNat_natCast i;with_unfolding_all refine⟨⟨by omega,by omega⟩,⟨by omega,by omega⟩,λh3=>⟨[],aa [(4,.val (.bool X))] [] 0 [],Wo trivial ⟨?_,qQ⟩ trivial,rfl,rfl⟩,λh3=>⟨i+1,[],⟨by omega,?_⟩,by show n - (i+1) < n - i;omega,Wo trivial ⟨qW,qW,rfl,?_,qQ⟩ trivial⟩⟩
   ·have h3:(!bW (p (i:Int).toNat) (q (i:Int).toNat))=true:=h3;rw [e] at h3;show PV.val (.bool false)=PV.val (.bool X);rw [hX,bn.2 ⟨i,by omega,h3⟩,Bool.not_true,Bool.and_false]
   ·have h3:(!bW (p (i:Int).toNat) (q (i:Int).toNat))=false:=h3;rw [e] at h3;intro j hj;rcases Nat.lt_or_ge j i with h|h
    ·exact hI j h
    ·obtain rfl:j=i:=by omega
     simpa using h3
   ·show PV.val (.int .i64 (IntKind.i64.wrap ((i:Int)+1)))=PV.val (.int .i64 ((i+1:Nat):Int));rw [wrap64 (by omega) (by omega)];rfl
  ·have h2:(n:Int)<=i:=dP h2;show PV.val (.bool true)=PV.val (.bool X);rw [hX,decide_eq_true hnm,az.2 λj hj=>by rw [hI j (by omega)];rfl];rfl
 ·cases e
def If:List PV->Option Ans
 |[.agg xs]=>some ⟨some (isRg 10000 xs),.tup [.rs 6 (wJ (bM xs) (bN xs) (gK xs) (gC xs) (gL xs) (gO xs)).length (λi=>(ae (wJ (bM xs) (bN xs) (gK xs) (gC xs) (gL xs) (gO xs)) i).cells),.val (.int .i64 (bV (nV (bM xs) (bN xs) (gK xs) (gC xs) (gL xs) (gO xs))))],[]⟩
 |_=>none
def D24:Opt:={  }
theorem Ig:am D24.toOrd Tryz.f24 1=true:=by kernel_rfl
theorem f24:FnOk Tryz.prog 24 If:=by
 refine FnOk.ofW aj (an (l:=[(58,FK),(61,H9)]) (own:=[]) (inl:=[]) (by simp [f58,f61]) (by simp)) Tryz.func24 D24 1 Ig λargs r e=>?_;unfold If at e;split at e
 ·rename_i xs
  cases e;refine⟨by simp,λhm=>?_⟩;obtain⟨h1,⟨hlo,hhi⟩,hcl,hol⟩:=hm _ rfl;generalize bM xs=lo at *
  generalize bN xs=hi at *
  generalize gK xs=k at *
  generalize gC xs=c at *
  generalize gL xs=l at *
  generalize gO xs=o at *
  subst h1;clear hm;have hcl':bQ 10000 k (λi=>[.rs 6 (pn c i) (pg c i)]):=⟨λi hi=>⟨rfl,(hcl.1 i hi).2⟩,hcl.2⟩;have hX:isRg 10000 (bq lo hi k c l o):=⟨rfl,⟨hlo,hhi⟩,hcl',λ_ _=>rfl,hol.2⟩;refine⟨[],aa [(0,.agg (bq lo hi k c l o))] [] 0 [],Wo trivial ⟨⟨rfl,rfl,rfl,rfl,rfl,rfl,rfl,rfl,rfl,rfl,rfl,rfl,qW,qW,qQ⟩,qQ⟩ trivial,?_⟩;show y9 _ _ _ _ _ ⟨_,.tup [.rs 6 (wJ lo hi k c l o).length (λi=>(ae (wJ lo hi k c l o) i).cells),.val (.int .i64 (bV (nV lo hi k c l o)))],[]⟩;obtain⟨K,hK⟩:∃K,K=(nV lo hi k c l o):=⟨_,rfl⟩;obtain⟨R,hR⟩:∃R,R=(wJ lo hi k c l o):=⟨_,rfl⟩;have eK:K=((eE lo hi k (pn c) (λi=>bl (pn c i) (ab (pg c i))) l (ow o))==0):=hK;have eR:R=bif K then(bH (ap lo hi k (pn c) (λi=>ab (pg c i))) (pn c) (λi=>ab (pg c i)) k) else []:=by rw [hR,wJ,<-hK]
  rw [<-hK,<-hR];have kc:((eE lo hi k (pn c) (λi=>bl (pn c i) (ab (pg c i))) l (ow o)) != 0)=true->K=false:=λh=>by
   have h:((eE lo hi k (pn c) (λi=>bl (pn c i) (ab (pg c i))) l (ow o))==0)=false:=by simpa using h
   rw [eK,h]
  have kg:((eE lo hi k (pn c) (λi=>bl (pn c i) (ab (pg c i))) l (ow o)) != 0)=false->K=true:=λh=>by
   have h:((eE lo hi k (pn c) (λi=>bl (pn c i) (ab (pg c i))) l (ow o))==0)=true:=by simpa using h
   rw [eK,h]
  have fine:((eE lo hi k (pn c) (λi=>bl (pn c i) (ab (pg c i))) l (ow o)) != 0)=false->k<=32/\∀i,i < k->pn c i<=64:=λh=>by
   have h:(eE lo hi k (pn c) (λi=>bl (pn c i) (ab (pg c i))) l (ow o))=0:=by simpa using h
   have hf:=mI h;exact⟨hf.2.1,hf.2.2⟩
  have b0:K=false->R.length=0/\PV.val (.int .i64 1)=PV.val (.int .i64 (bV K)):=λh=>by
   rw [eR,h];exact⟨rfl,rfl⟩
  have b1:K=true->(bH (ap lo hi k (pn c) (λi=>ab (pg c i))) (pn c) (λi=>ab (pg c i)) k).length=R.length/\(∀i,i < R.length->(ae R i).cells=(ae (bH (ap lo hi k (pn c) (λi=>ab (pg c i))) (pn c) (λi=>ab (pg c i)) k) i).cells)/\PV.val (.int .i64 0)=PV.val (.int .i64 (bV K)):=λh=>by
   rw [eR,h];exact⟨rfl,λ_ _=>rfl,rfl⟩
  with_unfolding_all exact⟨hX,λh1=>⟨[],aa [(2,.rs 6 R.length (λi=>(ae R i).cells)),(3,.val (.int .i64 (bV K)))] [] 0 [],Wo trivial ⟨⟨by simp,_,rfl,rfl,rfl,(b0 (kc h1)).1.symm,λi hi=>absurd ((b0 (kc h1)).1▸hi) (Nat.not_lt_zero i)⟩,(b0 (kc h1)).2,qQ⟩ trivial,rfl,rfl⟩,λh1=>⟨⟨hX,fine h1⟩,⟨[],aa [(2,.rs 6 R.length (λi=>(ae R i).cells)),(3,.val (.int .i64 (bV K)))] [] 0 [],Wo trivial ⟨⟨rfl,(b1 (kg h1)).1,(b1 (kg h1)).2.1⟩,(b1 (kg h1)).2.2,qQ⟩ trivial,rfl,rfl⟩⟩⟩
 ·cases e
end Go.Proofs
namespace Go.Ex
open Go.RowKit Go.Sort
end Go.Ex
namespace Go.Num
end Go.Num
namespace Go.Proofs
end Go.Proofs
namespace Go.Num
end Go.Num
namespace Go.Proofs
end Go.Proofs
namespace Go.Num
def It:List PV->Int
 |[.val (.int .i64 x)]=>x
 |_=>0
def zz (g:Nat->List PV) (i:Nat):Int:=It (g i)
end Go.Num
namespace Go.Proofs
end Go.Proofs
namespace Go.Num
end Go.Num
namespace Go.Proofs
end Go.Proofs
namespace Go.Num
end Go.Num
namespace Go.Proofs
end Go.Proofs
namespace Go.Num
end Go.Num
namespace Go.Proofs
end Go.Proofs
namespace Go.Num
def F9 (lo hi:PtS) (k:Nat) (c:Nat->List PV) (l:Nat) (o:Nat->List PV):Int:=eE lo hi k (pn c) (λi=>bl (pn c i) (ab (pg c i))) l (ow o)
end Go.Num
namespace Go.Proofs
end Go.Proofs
namespace Go.Num
def kR (p:Nat->PtS) (i j:Nat):Prop:=(p i).X=(p j).X/\(p i).Y=(p j).Y
theorem nW (a b:Rat):ao a b = -ao b a:=by
 unfold ao;by_cases h:a < b
 ·have h2:¬b < a:=by grind
  rw [if_pos h,if_neg h2,if_pos h]
 ·rw [if_neg h];by_cases h2:b < a
  ·rw [if_pos h2,if_pos h2];rfl
  ·rw [if_neg h2,if_neg h2,if_neg h];rfl
theorem wK (p u:PtS):bc p u = -bc u p:=by
 unfold bc;rw [nW p.X u.X,nW p.Y u.Y];by_cases h:ao u.X p.X=0
 ·rw [if_pos (by omega),if_pos h]
 ·rw [if_neg (by omega),if_neg h]
theorem AM {x y a b:Rat} (h:0 < wO x x a y y b):False:=by
 unfold wO at h
 grind
theorem yP {x y a b c d:Rat} (h:0 < wO x a b y c d) (k:0 < wO x b a y d c):False:=by
 unfold wO at h k
 grind
theorem AN {a b c x y z:Rat} (h:0 < wO a b c x y z):0 < wO c a b z x y:=by
 unfold wO at h ⊢
 grind
theorem yQ {n:Nat} {p:Nat->PtS} (h:bd n p=0):bl n p=0:=by
 unfold bd at h;unfold bl;cases h1:(decide (n < 3)||decide (64 < n)) with
 |true=>rw [h1] at h;cases h
 |false =>
  rw [h1,cond_false] at h;rw [cond_false];cases h2:aE (λi=>!ah (p i)) n with
  |true=>rw [h2] at h;cases h
  |false =>
   rw [h2,cond_false] at h;rw [cond_false];cases h3:aE (λi=>mO (p 0) (p (1+i))) (n - 1) with
   |true=>rw [h3] at h;cases h
   |false =>
    rw [h3,cond_false] at h;cases h4:aE (λe=>aE (λi=>dp (p e) (p ((e+1)%n)) (p i)) n) n with
    |true=>rw [h4] at h;cases h
    |false =>
     have hn:3<=n:=by
      rw [Bool.or_eq_false_iff,decide_eq_false_iff_not] at h1;omega
     have c0:∀i,0 < i->i < n->bc (p 0) (p i) < 0:=λi a b=>by
      have:=(az.1 h3) (i - 1) (by omega);unfold mO at this;rw [decide_eq_false_iff_not,show 1+(i - 1)=i by omega] at this;rw [wK];omega
     have k0:∀i,0 < i->i < n->¬kR p i 0:=λi a b e=>by
      rcases uP (c0 i a b) with h|⟨_,h⟩
      ·rw [e.1] at h;exact absurd h Rat.lt_irrefl
      ·rw [e.2] at h;exact absurd h Rat.lt_irrefl
     have B:∀e i,e < n->i < n->kR p i e\/kR p i ((e+1)%n)\/0 < dt (λi=>(p i).X) (λi=>(p i).Y) e ((e+1)%n) i:=λe i he hi=>by
      have:=(az.1 ((az.1 h4) e he)) i hi;unfold dp at this;rw [ks p e ((e+1)%n) i] at this;cases e1:bW (p i) (p e) with
      |true=>exact .inl (rR e1)
      |false =>
       cases e2:bW (p i) (p ((e+1)%n)) with
       |true=>exact .inr (.inl (rR e2))
       |false =>
        rw [e1,e2] at this;exact .inr (.inr (fK.1 (by simpa using this)))
     have nd:∀e,e < n->¬kR p e ((e+1)%n):=λe he s=>by
      have al:∀v,v < n->kR p v e:=λv hv=>by
       rcases B e v he hv with h|h|h
       ·exact h
       ·exact⟨h.1.trans s.1.symm,h.2.trans s.2.symm⟩
       ·exfalso;obtain⟨s1,s2⟩:=s;unfold dt at h;simp only [<-s1,<-s2] at h;exact AM h
      have a0:=al 0 (by omega);have a1:=al 1 (by omega);exact k0 1 (by omega) (by omega) ⟨a1.1.trans a0.1.symm,a1.2.trans a0.2.symm⟩
     have ds:∀d i j,n - j=d->i < j->j < n->¬kR p i j:=λd=>by
      induction d with
      |zero=>intro i j h1 _ h2;omega
      |succ d ih =>
       intro i j hd hij hj s;have hi1:(i+1)%n=i+1:=Nat.mod_eq_of_lt (by omega);have ni:=nd i (by omega);have nj:=nd j hj;rw [hi1] at ni;have hj':(j+1)%n < n:=Nat.mod_lt _ (by omega);have key:kR p (i+1) ((j+1)%n):=by
        have b1:=B i ((j+1)%n) (by omega) hj';have b2:=B j (i+1) hj (by omega);rw [hi1] at b1;obtain⟨s1,s2⟩:=s;rcases b1 with b1|b1|b1
        ·exact absurd ⟨s1.symm.trans b1.1.symm,s2.symm.trans b1.2.symm⟩ nj
        ·exact⟨b1.1.symm,b1.2.symm⟩
        ·rcases b2 with b2|b2|b2
         ·exact absurd ⟨s1.trans b2.1.symm,s2.trans b2.2.symm⟩ ni
         ·exact b2
         ·exfalso;unfold dt at b1 b2;simp only [<-s1,<-s2] at b2;exact yP b1 b2
       by_cases hjn:j+1=n
       ·rw [hjn,Nat.mod_self] at key;exact k0 (i+1) (by omega) (by omega) key
       ·rw [Nat.mod_eq_of_lt (by omega)] at key;exact ih (i+1) (j+1) (by omega) (by omega) (by omega) key
     have dd:∀i j,i≠j->i < n->j < n->¬kR p i j:=λi j hne hi hj s=>by
      rcases Nat.lt_or_gt_of_ne hne with h|h
      ·exact ds _ i j rfl h hj s
      ·exact ds _ j i rfl h hi ⟨s.1.symm,s.2.symm⟩
     have pos:∀e i,e < n->i < n->i≠e->i≠(e+1)%n->0 < dt (λi=>(p i).X) (λi=>(p i).Y) e ((e+1)%n) i:=λe i he hi h1 h2=>by
      rcases B e i he hi with h|h|h
      ·exact absurd h (dd _ _ h1 hi he)
      ·exact absurd h (dd _ _ h2 hi (Nat.mod_lt _ (by omega)))
      ·exact h
     have m2:∀i,i < n->(i+2)%n≠i/\(i+2)%n≠(i+1)%n:=λi hi=>by
      rcases Nat.lt_or_ge (i+2) n with h|h
      ·rw [Nat.mod_eq_of_lt h,Nat.mod_eq_of_lt (by omega)];omega
      ·rw [Nat.mod_eq_sub_mod h,Nat.mod_eq_of_lt (by omega)];rcases Nat.lt_or_ge (i+1) n with h' | h'
       ·rw [Nat.mod_eq_of_lt h'];omega
       ·rw [Nat.mod_eq_sub_mod h',Nat.mod_eq_of_lt (by omega)];omega
     rw [az.2 λi hi=>?_,cond_false,az.2 λi hi=>?_]
     ·rfl
     ·unfold dw;have q1:=pos i ((i+2)%n) hi (Nat.mod_lt _ (by omega)) (m2 i hi).1 (m2 i hi).2;rw [ks,fK.2 q1,Bool.false_or];cases e1:decide (0 < i) with
      |false=>rfl
      |true =>
       cases e2:decide (i+1 < n) with
       |false=>rfl
       |true =>
        have e1:=of_decide_eq_true e1;have e2:=of_decide_eq_true e2;have q2:=pos i 0 hi (by omega) (by omega) (by rw [Nat.mod_eq_of_lt e2];omega);rw [Nat.mod_eq_of_lt e2] at q2;have q3:0 < dt (λi=>(p i).X) (λi=>(p i).Y) 0 i (i+1):=by
         exact AN q2
        rw [ks,fK.2 q3];rfl
     ·unfold wN;have:=c0 (1+i) (by omega) (by omega);exact decide_eq_false (by omega)
theorem pG (lo hi:PtS) (k:Nat) (c:Nat->List PV) (l:Nat) (o:Nat->List PV):(F9 lo hi k c l o==0)=(bS lo hi k (pn c) (λi=>ab (pg c i)) l (ow o)==0):=by
 rw [Bool.eq_iff_iff,beq_iff_eq,beq_iff_eq];constructor
 ·intro h;rw [tF];exact iw (λj _=>jg) h
 ·intro h;rw [tF] at h;exact iw (λj _=>yQ) h
theorem nX {L:List PtS} {x:PtS}:∀{f i:Nat},i+f=L.length->i<=jV L x f i/\jV L x f i<=L.length/\(∀t,i<=t->t < jV L x f i->bc (ae L t) x < 0)/\(jV L x f i=L.length\/¬bc (ae L (jV L x f i)) x < 0)
 |0,i,h=>⟨Nat.le_refl _,by rw [jV];omega,λt a b=>by rw [jV] at b;omega,.inl (by rw [jV];omega)⟩
 |f+1,i,h=>by
  rw [jV];by_cases hc:bc (ae L i) x < 0
  ·rw [decide_eq_true hc,cond_true];obtain⟨h1,h2,h3,h4⟩:=nX (L:=L) (x:=x) (f:=f) (i:=i+1) (by omega);refine⟨by omega,h2,λt a b=>?_,h4⟩;by_cases e:t=i
   ·rw [e];exact hc
   ·exact h3 t (by omega) b
  ·rw [decide_eq_false hc,cond_false];exact⟨Nat.le_refl _,by omega,λt a b=>by omega,.inr hc⟩
theorem yR (L:List PtS) (x:PtS):iK L x<=L.length/\(∀t,t < iK L x->bc (ae L t) x < 0)/\(iK L x=L.length\/¬bc (ae L (iK L x)) x < 0):=by
 obtain⟨_,h2,h3,h4⟩:=nX (L:=L) (x:=x) (f:=L.length) (i:=0) (Nat.zero_add _);exact⟨h2,λt h=>h3 t (Nat.zero_le _) h,h4⟩
theorem yS {L:List PtS} {x y:PtS}:y∈hO L x↔y∈L\/y=x:=by
 unfold hO;cases hb:decide (iK L x < L.length)&&bW (ae L (iK L x)) x with
 |true =>
  rw [cond_true];rw [Bool.and_eq_true] at hb;constructor
  ·exact .inl
  ·rintro (h|h)
   ·exact h
   ·rw [h,<-tQ hb.2];exact kv (of_decide_eq_true hb.1)
 |false =>
  rw [cond_false,List.mem_append,List.mem_cons];have h:y∈L↔y∈L.take (iK L x)\/y∈L.drop (iK L x):=by
   rw [<-List.mem_append,List.take_append_drop]
  rw [h];constructor
  ·rintro (h|h|h)
   ·exact .inl (.inl h)
   ·exact .inr h
   ·exact .inl (.inr h)
  ·rintro ((h|h)|h)
   ·exact .inl h
   ·exact .inr (.inr h)
   ·exact .inr (.inl h)
theorem r5 {L:List PtS} {x:PtS} (h:L.Pairwise λx y=>bc x y < 0) (hL:∀y∈L,ah y=true) (hx:ah x=true):(hO L x).Pairwise λx y=>bc x y < 0:=by
 unfold hO;obtain⟨h1,h2,h3⟩:=yR L x;cases hb:decide (iK L x < L.length)&&bW (ae L (iK L x)) x with
 |true=>exact h
 |false =>
  rw [cond_false];have hp:=h;rw [<-List.take_append_drop (iK L x) L,List.pairwise_append] at hp;obtain⟨p1,p2,p3⟩:=hp;have hlt:∀y∈L.take (iK L x),bc y x < 0:=λy hy=>by
   obtain⟨i,hi,e⟩:=List.mem_iff_getElem.1 hy;rw [List.length_take] at hi;rw [List.getElem_take] at e;have:=h2 i (by omega);rw [ae,List.getElem?_eq_getElem (by omega)] at this;rw [<-e];exact this
  have po:∀y∈L.drop (iK L x),bc x y < 0:=λy hy=>by
   obtain⟨i,hi,e⟩:=List.mem_iff_getElem.1 hy;rw [List.length_drop] at hi;rw [List.getElem_drop] at e;have hm:iK L x < L.length:=by omega
   rw [decide_eq_true hm,Bool.true_and] at hb;have h3:¬bc (ae L (iK L x)) x < 0:=by
    rcases h3 with h3|h3
    ·omega
    ·exact h3
   have h4:bc x (ae L (iK L x)) < 0:=by
    refine Classical.not_not.1 λhn=>?_;have hq:=rW h3 hn;rw [rV (hL _ (kv hm)) hx hq.1 hq.2,g8] at hb;cases hb
   match i with
   |0 =>
    rw [<-e];rw [ae,List.getElem?_eq_getElem hm] at h4;exact h4
   |i+1 =>
    have h5:=List.pairwise_iff_getElem.1 h (iK L x) (iK L x+(i+1)) hm (by omega) (by omega);rw [<-e];exact mH h3 (by
     rw [ae,List.getElem?_eq_getElem hm];exact h5)
  exact List.pairwise_append.2 ⟨p1,List.pairwise_cons.2 ⟨po,p2⟩,λa ha b hb2=>by
   rcases List.mem_cons.1 hb2 with e|e
   ·rw [e];exact hlt a ha
   ·exact p3 a ha b e⟩
theorem pH {S:PtS->Bool} {p:Nat->PtS} {L:List PtS} {y:PtS}:∀{j:Nat},y∈bZ S p L j↔y∈L\/∃t,t < j/\y=p t/\S (p t)=true
 |0=>⟨.inl,λh=>by rcases h with h|⟨t,ht,_⟩;exact h;exact absurd ht (Nat.not_lt_zero t)⟩
 |j+1=>by
  have ih:=pH (S:=S) (p:=p) (L:=L) (y:=y) (j:=j);rw [bZ];cases hS:S (p j) with
  |true =>
   rw [cond_true,yS,ih];constructor
   ·rintro ((h|⟨t,ht,e⟩)|h)
    ·exact .inl h
    ·exact .inr ⟨t,by omega,e⟩
    ·exact .inr ⟨j,by omega,h,hS⟩
   ·rintro (h|⟨t,ht,e,k⟩)
    ·exact .inl (.inl h)
    ·by_cases q:t=j
     ·subst q;exact .inr e
     ·exact .inl (.inr ⟨t,by omega,e,k⟩)
  |false =>
   rw [cond_false,ih];constructor
   ·rintro (h|⟨t,ht,e⟩)
    ·exact .inl h
    ·exact .inr ⟨t,by omega,e⟩
   ·rintro (h|⟨t,ht,e,k⟩)
    ·exact .inl h
    ·by_cases q:t=j
     ·subst q;rw [hS] at k;cases k
     ·exact .inr ⟨t,by omega,e,k⟩
theorem mJ {S:PtS->Bool} {p:Nat->PtS} {L:List PtS} (h:L.Pairwise λx y=>bc x y < 0) (hL:∀y∈L,ah y=true):∀{j:Nat},(∀t,t < j->ah (p t)=true)->(bZ S p L j).Pairwise λx y=>bc x y < 0
 |0,_=>h
 |j+1,hp=>by
  have ih:=mJ (S:=S) h hL (j:=j) λt ht=>hp t (by omega);rw [bZ];cases hS:S (p j) with
  |true =>
   refine r5 ih (λy hy=>?_) (hp j (by omega));rcases pH.1 hy with k|⟨t,ht,e,_⟩
   ·exact hL y k
   ·rw [e];exact hp t (by omega)
  |false=>exact ih
theorem pI {S:PtS->Bool} {n:Nat->Nat} {p:Nat->Nat->PtS} {y:PtS}:∀{i:Nat},y∈bH S n p i↔∃s,s < i/\∃t,t < n s/\y=p s t/\S (p s t)=true
 |0=>⟨λh=>(nomatch h),λ⟨s,hs,_⟩=>absurd hs (Nat.not_lt_zero s)⟩
 |i+1=>by
  rw [bH,pH,pI (i:=i)];constructor
  ·rintro (⟨s,hs,e⟩|e)
   ·exact⟨s,by omega,e⟩
   ·exact⟨i,by omega,e⟩
  ·rintro ⟨s,hs,e⟩;by_cases q:s=i
   ·subst q;exact .inr e
   ·exact .inl ⟨s,by omega,e⟩
theorem mK {S:PtS->Bool} {n:Nat->Nat} {p:Nat->Nat->PtS}:∀{i:Nat},(∀s,s < i->∀t,t < n s->ah (p s t)=true)->(bH S n p i).Pairwise λx y=>bc x y < 0
 |0,_=>List.Pairwise.nil
 |i+1,h=>mJ (mK λs hs=>h s (by omega)) (λy hy=>by
   obtain⟨s,hs,t,ht,e,_⟩:=pI.1 hy;rw [e];exact h s (by omega) t ht) λt ht=>h i (by omega) t ht
theorem yU {lo hi:PtS} {k:Nat} {c:Nat->List PV} {l:Nat} {o:Nat->List PV} (hr:bS lo hi k (pn c) (λi=>ab (pg c i)) l (ow o)=0) (hc:bQ 10000 k c):bH (ap lo hi k (pn c) (λi=>ab (pg c i))) (pn c) (λi=>ab (pg c i)) k=dv lo hi k c l o:=by
 have cp:∀s,s < k->∀t,t < pn c s->ah (ab (pg c s) t)=true:=λs hs t ht=>(mG (iz hr s hs)).2.1 t ht;refine rY (mK cp) (pA hr hc) λx=>?_;rw [pI,wF];constructor
 ·rintro ⟨s,hs,t,ht,e,hS⟩;rw [nU hr (cp s hs t ht)] at hS;refine⟨?_,by rw [e];exact hS⟩;rw [e];exact iA (S:=λ_=>true) (p:=λi=>ab (pg c i)) ht rfl hs
 ·rintro ⟨h,hS⟩;obtain⟨s,hs,t,ht,e,_⟩:=fc h;refine⟨s,hs,t,ht,e,?_⟩;rw [nU hr (cp s hs t ht)];rw [<-e];exact hS
theorem Ba (lo hi:PtS) (k:Nat) (c:Nat->List PV) (l:Nat) (o:Nat->List PV) (a b:PtS):fF lo hi k c l o (ar a b)=yJ lo hi k c l o a b:=by
 show(!(!ah a||!ah b)&&(bS lo hi k (pn c) (λi=>ab (pg c i)) l (ow o)==0))=((F9 lo hi k c l o==0)&&(ah a&&ah b));rw [pG];cases ah a<;>cases ah b<;>cases (bS lo hi k (pn c) (λi=>ab (pg c i)) l (ow o)==0)<;>rfl
theorem Bb (lo hi:PtS) (k:Nat) (c:Nat->List PV) (l:Nat) (o:Nat->List PV):nV lo hi k c l o=pF lo hi k c l o:=pG lo hi k c l o
theorem Ga (lo hi:PtS) (k:Nat) (c:Nat->List PV) (l:Nat) (o:Nat->List PV) (a b:PtS):(yJ lo hi k c l o a b&&!kw lo hi k (pn c) (λi=>ab (pg c i)) a b)=aZ lo hi k c l o a b:=by
 cases h:yJ lo hi k c l o a b with
 |false =>
  rw [aZ,Ba,h];rfl
 |true =>
  rw [Bool.true_and];have h2:=h;rw [yJ,Bool.and_eq_true,Bool.and_eq_true] at h2;exact yF (eq_of_beq ((pG lo hi k c l o).symm.trans h2.1)) h2.2.1 h2.2.2
theorem Gb {lo hi:PtS} {k:Nat} {c:Nat->List PV} {l:Nat} {o:Nat->List PV} (hc:bQ 10000 k c):wJ lo hi k c l o=dU lo hi k c l o:=by
 rw [wJ,dU,Bb];cases h:pF lo hi k c l o with
 |false=>rfl
 |true=>exact yU (eq_of_beq h) hc
theorem wL {xs:List PV} {n:Nat} {r:Nat->List PV} (h:gB xs n r=false):(au (bM xs) (bN xs) (gK xs) (gC xs) (gL xs) (gO xs)).length<=500:=by
 by_cases hr:bS (bM xs) (bN xs) (gK xs) (pn (gC xs)) (λi=>ab (pg (gC xs) i)) (gL xs) (ow (gO xs))=0
 ·have hk:=yC hr;unfold gB mz at h;simp only [Bool.or_eq_false_iff,Bool.and_eq_false_iff,decide_eq_false_iff_not] at h;have h2:=nQ (λp=>aZ (bM xs) (bN xs) (gK xs) (gC xs) (gL xs) (gO xs) p p) (pn (gC xs)) (λi=>ab (pg (gC xs) i)) (gK xs);refine Nat.le_trans h2 ?_;omega
 ·have h2:∀x,x∉au (bM xs) (bN xs) (gK xs) (gC xs) (gL xs) (gO xs):=λx hx=>by
   obtain⟨s,hs,t,ht,e,hS⟩:=fc hx;have h3:aZ (bM xs) (bN xs) (gK xs) (gC xs) (gL xs) (gO xs) x x=true:=hS;unfold aZ fF at h3;rw [Bool.and_eq_true,Bool.and_eq_true] at h3;exact hr (eq_of_beq h3.1.2)
  rw [List.eq_nil_iff_forall_not_mem.2 h2];exact Nat.zero_le _
end Go.Num
namespace Go.Proofs
def c5:List PV->Option Ans
 |[.agg [.val (.bool s1),.val (.string b1),.val (.string c1),.val (.bool s2),.val (.string b2),.val (.string c2),.val (.bool s3),.val (.string b3),.val (.string c3),.val (.bool s4),.val (.string b4),.val (.string c4),.rs 1 k c,.rs 3 l o],.val v,.val u]=>some ⟨some ((PtS.le 140737488355328 (PtS.mk ⟨s1,b1,c1⟩ ⟨s2,b2,c2⟩)/\PtS.le 140737488355328 (PtS.mk ⟨s3,b3,c3⟩ ⟨s4,b4,c4⟩))/\bQ 140737488355328 k c/\cR l o/\isPk 140737488355328 v/\isPk 140737488355328 u),.val (.bool true),[]⟩
 |_=>none
def D5:Opt:={}
theorem Iu:am D5.toOrd Tryz.f5 3=true:=by kernel_rfl
theorem f5:FnOk Tryz.prog 5 c5:=by
 refine FnOk.ofW aj (an (l:=[(12,Gl),(13,Gn),(21,FN),(22,H5),(23,Ia),(24,If),(25,Ic)]) (own:=[]) (inl:=[]) (by simp [f12,f13,f21,f22,f23,f24,f25]) (by simp)) Tryz.func5 D5 3 Iu λargs r e=>?_;unfold c5 at e;split at e
 ·rename_i s1 b1 c1 s2 b2 c2 s3 b3 c3 s4 b4 c4 k c l o v u
  cases e;refine⟨by simp,λhm=>?_⟩;obtain⟨⟨hlo,hhi⟩,⟨hc,hk⟩,⟨ho,hl⟩,⟨a,rfl,ha⟩,⟨b,rfl,hb⟩⟩:=hm _ rfl;clear hm;obtain⟨lo,hlo'⟩:∃p,p=(PtS.mk ⟨s1,b1,c1⟩ ⟨s2,b2,c2⟩):=⟨_,rfl⟩;obtain⟨hi,hhi'⟩:∃p,p=(PtS.mk ⟨s3,b3,c3⟩ ⟨s4,b4,c4⟩):=⟨_,rfl⟩;have hc1:∀i,i < k->[.rs 6 (pn c i) (pg c i)]=c i:=λi hi=>(hc i hi).1.symm;have ho1:∀i,i < l->ag (ow o i)=o i:=λi hi=>(ho i hi).symm;refine⟨[],aa [(0,.agg (bq (PtS.mk ⟨s1,b1,c1⟩ ⟨s2,b2,c2⟩) (PtS.mk ⟨s3,b3,c3⟩ ⟨s4,b4,c4⟩) k c l o)),(1,.val a.v),(2,.val b.v)] [] 0 [],Wo trivial ⟨⟨rfl,rfl,rfl,rfl,rfl,rfl,rfl,rfl,rfl,rfl,rfl,rfl,⟨rfl,rfl,hc1⟩,⟨rfl,rfl,ho1⟩,qQ⟩,rfl,rfl,qQ⟩ trivial,?_⟩;rw [<-hlo'] at hlo ⊢;rw [<-hhi'] at hhi ⊢;clear hlo' hhi';have hX:isRg 140737488355328 (bq lo hi k c l o):=⟨rfl,⟨hlo,hhi⟩,⟨λi hi=>⟨rfl,(hc i hi).2⟩,hk⟩,λ_ _=>rfl,hl⟩;have p2:∀r:Nat->List PV,r 0=a.cells->r 1=b.cells->isPL 140737488355328 2 r:=λr h h'=>⟨λi hi=>by
   match i,hi with
   |0,_=>exact⟨by rw [ab,h];rfl,by rw [ab,h];exact ha⟩
   |1,_=>exact⟨by rw [ab,h'];rfl,by rw [ab,h'];exact hb⟩
   |i+2,h=>omega,by decide⟩
  with_unfolding_all refine⟨⟨hX,p2 _ rfl rfl⟩,λh1=>⟨[],aa [(6,.val (.bool true))] [] 0 [],Wo trivial ⟨rfl,qQ⟩ trivial,rfl,rfl⟩,λh1=>?_⟩
  have hX12:isRg 12 (bq lo hi k c l o):=by
   have h:=h1;unfold gB at h;rw [Bool.or_eq_false_iff] at h;exact px h.1 hX
  have hab:a.le 12/\b.le 12:=by
   have h:=h1;unfold gB at h;rw [Bool.or_eq_false_iff] at h;exact⟨fI ((az.1 h.2) 0 (by decide)),fI ((az.1 h.2) 1 (by decide))⟩
  have hlen:(au lo hi k c l o).length<=500:=wL h1;clear h1 p2;obtain⟨ha12,hb12⟩:=hab;have hX4:isRg 10000 (bq lo hi k c l o):=hX12.mono (by decide);have hcl:bQ 10000 k (λi=>[.rs 6 (pn c i) (pg c i)]):=hX4.2.2.1;have pa:isPk 10000 a.v:=⟨a,rfl,ha12.mono (by decide)⟩;have pb:isPk 10000 b.v:=⟨b,rfl,hb12.mono (by decide)⟩;have n1:(aZ lo hi k (λi=>[.rs 6 (pn c i) (pg c i)]) l (λi=>ag (ow o i)) a b==(yJ lo hi k (λi=>[.rs 6 (pn c i) (pg c i)]) l (λi=>ag (ow o i)) a b&&!kw lo hi k (pn (λi=>[.rs 6 (pn c i) (pg c i)])) (λi=>ab (pg (λi=>[.rs 6 (pn c i) (pg c i)]) i)) a b)) = !true->False:=λh=>by
   rw [Ga,beq_self_eq_true] at h;cases h
  have n2:(bV (fF lo hi k (λi=>[.rs 6 (pn c i) (pg c i)]) l (λi=>ag (ow o i)) (ar a b))==bV (yJ lo hi k (λi=>[.rs 6 (pn c i) (pg c i)]) l (λi=>ag (ow o i)) a b)) = !true->False:=λh=>by
   rw [Ba,beq_self_eq_true] at h;cases h
  have hE:(wJ lo hi k (λi=>[.rs 6 (pn c i) (pg c i)]) l (λi=>ag (ow o i)))=(dU lo hi k (λi=>[.rs 6 (pn c i) (pg c i)]) l (λi=>ag (ow o i))):=Gb hcl;have n3:(decide ((dU lo hi k (λi=>[.rs 6 (pn c i) (pg c i)]) l (λi=>ag (ow o i))).length=(wJ lo hi k (λi=>[.rs 6 (pn c i) (pg c i)]) l (λi=>ag (ow o i))).length)&&!aE (λi=>!bW (ab (λi=>(ae (dU lo hi k (λi=>[.rs 6 (pn c i) (pg c i)]) l (λi=>ag (ow o i))) i).cells) i) (ab (λi=>(ae (wJ lo hi k (λi=>[.rs 6 (pn c i) (pg c i)]) l (λi=>ag (ow o i))) i).cells) i)) (dU lo hi k (λi=>[.rs 6 (pn c i) (pg c i)]) l (λi=>ag (ow o i))).length) = !true->False:=λh=>by
   rw [hE,decide_eq_true rfl,Bool.true_and,az.2 λi _=>by rw [g8];rfl] at h;cases h
  have n4:(bV (pF lo hi k (λi=>[.rs 6 (pn c i) (pg c i)]) l (λi=>ag (ow o i)))==bV (nV lo hi k (λi=>[.rs 6 (pn c i) (pg c i)]) l (λi=>ag (ow o i)))) = !true->False:=λh=>by
   rw [Bb,beq_self_eq_true] at h;cases h
  have hCle:∀p∈(dU lo hi k (λi=>[.rs 6 (pn c i) (pg c i)]) l (λi=>ag (ow o i))),p.le 10000:=λp hp=>by
   unfold dU at hp;cases h:pF lo hi k (λi=>[.rs 6 (pn c i) (pg c i)]) l (λi=>ag (ow o i)) with
   |true =>
    rw [h] at hp;exact rC hcl p hp
   |false =>
    rw [h] at hp;cases hp
  have hCn:(dU lo hi k (λi=>[.rs 6 (pn c i) (pg c i)]) l (λi=>ag (ow o i))).length<=500:=by
   unfold dU;cases pF lo hi k (λi=>[.rs 6 (pn c i) (pg c i)]) l (λi=>ag (ow o i)) with
   |true=>exact Nat.le_trans (mw _ _) hlen
   |false=>exact Nat.zero_le _
  have pC:isPL 10000 (dU lo hi k (λi=>[.rs 6 (pn c i) (pg c i)]) l (λi=>ag (ow o i))).length (λi=>(ae (dU lo hi k (λi=>[.rs 6 (pn c i) (pg c i)]) l (λi=>ag (ow o i))) i).cells):=⟨λi hi2=>⟨rfl,jP hCle hi2⟩,Nat.le_trans hCn (by decide)⟩;have pR:isPL 10000 (wJ lo hi k (λi=>[.rs 6 (pn c i) (pg c i)]) l (λi=>ag (ow o i))).length (λi=>(ae (wJ lo hi k (λi=>[.rs 6 (pn c i) (pg c i)]) l (λi=>ag (ow o i))) i).cells):=by
   rw [hE];exact pC
  with_unfolding_all exact⟨⟨hX4,pa,pb⟩,⟨hX4,pa,pb⟩,⟨hX4,hlen⟩,hX4,λs1=>⟨λs2=>⟨⟨pC,pR⟩,λs3=>⟨λs4=>⟨[],aa [(6,.val (.bool true))] [] 0 [],Wo trivial ⟨rfl,qQ⟩ trivial,rfl,rfl⟩,λs4=>(n4 s4).elim⟩,λs3=>(n3 s3).elim⟩,λs2=>(n2 s2).elim⟩,λs1=>(n1 s1).elim⟩
 ·cases e
end Go.Proofs
namespace Go.Ex
open Go.RowKit
section
variable {H:Type} {enc:TypeId×Value->H} {P:Program} {w:World}
def vf (T:TypeId->List PV->Prop):List Field->List PV->Prop
 |[],ps=>ps=[]
 |f::fs,ps=>∃qs rs,ps=qs++rs/\T f.type qs/\vf T fs rs
def lB (P:Program):Nat->TypeId->List PV->Prop
 |0,_,_=>False
 |d+1,t,ps=>match P.underlying t with
  |some .bool=>∃b,ps=[.val (.bool b)]
  |some (.int k)=>∃z,ps=[.val (.int k z)]/\(Lit.int k z).wf=true
  |some .string=>∃s:ByteArray,ps=[.val (.string s)]/\s.size<=140737488355328
  |some (.slice e)=>∃m g,ps=[.rs (P.cellsOf e) m g]/\m<=140737488355328/\∀i,i < m->lB P d e (g i)
  |some (.struct fs)=>vf (lB P d) fs.toList ps
  |_=>False
def AO (P:Program):Nat->List Field->Option Nat
 |o,[]=>some o
 |o,f::fs=>if f.offset=o then AO P (o+P.cellsOf f.type) fs else none
def fP (P:Program):Nat->TypeId->Bool
 |0,_=>false
 |d+1,t=>match P.underlying t with
  |some .bool|some (.int _)|some .string=>true
  |some (.slice e)=>fP P d e&&decide (0 < P.cellsOf e)&&decide (0 < P.bytesOf e)
  |some (.struct fs)=>fs.toList.all (λf=>fP P d f.type)&&decide (AO P 0 fs.toList=some (P.cellsOf t))
  |_=>false
def Pt (A:Nat->Prop) (w:World) (ps:List PV) (cs:List Value):Prop:=ps.length=cs.length/\∀(i:Nat) p u,ps[i]? = some p->cs[i]? = some u->R0 A w p u/\bA p=true
theorem Pt.append {A:Nat->Prop} {ps qs:List PV} {cs ds:List Value} (h:Pt A w ps cs) (k:Pt A w qs ds):Pt A w (ps++qs) (cs++ds):=by
 refine⟨by rw [List.length_append,List.length_append,h.1,k.1],λi p u hp hu=>?_⟩;rw [List.getElem?_append] at hp hu;rw [<-h.1] at hu;split at hp
 ·rename_i hi
  rw [if_pos hi] at hu;exact h.2 i p u hp hu
 ·rename_i hi
  rw [if_neg hi] at hu;exact k.2 _ p u hp hu
theorem mL {A:Nat->Prop} {d n:Nat} {cs:List Value} (hn:cs.length=n):∀{fs:List Field} {o:Nat},AO P o fs=some n ->
  (∀f∈fs,∃ps,lB P d f.type ps/\Pt A w ps ((cs.drop f.offset).take (P.cellsOf f.type)))->∃ps,vf (lB P d) fs ps/\Pt A w ps (cs.drop o)
 |[],o,h,_=>by
  cases h;refine⟨[],rfl,?_,λi p u hp=>by simp at hp⟩;rw [List.length_drop];simp only [List.length_nil];omega
 |f::fs,o,h,hf=>by
  unfold AO at h;split at h
  ·rename_i e
   obtain⟨rs,h1,h2⟩:=mL hn h λf hf'=>hf f (List.mem_cons_of_mem _ hf');obtain⟨qs,h3,h4⟩:=hf f List.mem_cons_self;refine⟨qs++rs,⟨qs,rs,rfl,h3,h1⟩,?_⟩;rw [e] at h4;have:=h4.append h2;rw [<-List.drop_drop,List.take_append_drop] at this;exact this
  ·cases h
theorem mM {A:Nat->Prop} (hA:∀k,k < w.heap.size->A k) {base:Nat} {spare:Nat->Bool} {held:Bool}:∀(d fuel:Nat) {t:TypeId} {cs:List Value} {x:DataW H×List MemPlace},fP P d t=true ->
  DataW.trod enc P w base spare held fuel t cs=some x->(∀n∈x.1.weights P t,n<=reachBytes)->∃ps,lB P d t ps/\Pt A w ps cs
 |0,_,_,_,_,hp,_,_=>by simp [fP] at hp
 |d+1,fuel,t,cs,x,hp,h,hw=>by
  have one:∀v:Value,v.oneCell'=true->Pt A w [.val v] [v]:=λv hv=>⟨rfl,λi p u h1 h2=>by
   match i with
   |0=>cases h1;cases h2;exact⟨.val v,hv⟩
   |i+1=>simp at h1⟩
  unfold fP at hp;unfold lB;split at hp
  ·rename_i ht
   obtain⟨b,rfl,rfl⟩:=DataW.trod_bool ht h;exact⟨_,⟨b,rfl⟩,one _ rfl⟩
  ·rename_i k ht
   obtain⟨b,rfl,rfl,hb⟩:=DataW.trod_int ht h;exact⟨_,⟨b,rfl,hb⟩,one _ rfl⟩
  ·rename_i ht
   obtain⟨b,rfl,rfl,hb⟩:=DataW.trod_string ht h;have:=hw b.data.toList.length (by simp [DataW.weights]);have e:b.data.toList.length=b.size:=Array.length_toList;refine⟨_,⟨b,rfl,?_⟩,one _ rfl⟩;rw [e] at this;unfold reachBytes at this;omega
  ·rename_i e ht
   simp only [Bool.and_eq_true,decide_eq_true_eq] at hp;obtain⟨⟨hpe,hce⟩,hbe⟩:=hp;rcases Deep.open_slice ht h with ⟨rfl,rfl⟩|⟨a,len,cap,m,n,D,Pl,rfl,hb,hl,hm,hme,rfl,hel⟩
   ·refine⟨[.rs (P.cellsOf e) 0 λ_=>[]],⟨0,_,rfl,Nat.zero_le _,λi hi=>absurd hi (Nat.not_lt_zero i)⟩,rfl,λi p u h1 h2=>?_⟩
    match i with
    |0=>cases h1;cases h2;exact⟨.rs _ _ _ _ _ (λ_ _=>undef) (λi hi=>absurd hi (Nat.not_lt_zero i)) (Nat.le_refl _) (Nat.zero_le _) (λi f p hi=>absurd hi (Nat.not_lt_zero i)) (λi f p hi=>absurd hi (Nat.not_lt_zero i)),rfl⟩
    |i+1=>simp at h1
   ·have hlm:len<=m:=by rw [hme];split<;>omega
    have hsz:((List.range len).map D).length*P.bytesOf e<=reachBytes:=by
     refine Nat.le_trans (Nat.mul_le_mul_right _ (Nat.le_add_right _ ((List.range (m - len)).map λj=>D (len+j)).length)) (hw _ ?_);simp [DataW.weights,ht]
    rw [List.length_map,List.length_range] at hsz;have hlen:len<=140737488355328:=by
     have:=Nat.le_mul_of_pos_right len hbe;unfold reachBytes at hsz;omega
    have hall:∀ds:List (DataW H),∀y∈ds,∀k∈y.weights P e,k∈DataW.weightsAll P e ds:=λds=>by
     induction ds with
     |nil=>intro y hy;simp at hy
     |cons z r ih =>
      intro y hy k hk;rw [DataW.weightsAll,List.mem_append];rcases List.mem_cons.1 hy with rfl|hy
      ·exact .inl hk
      ·exact .inr (ih y hy k hk)
    have key:∀i,i < len->∃z:List PV×List Value,lB P d e z.1/\Pt A w z.1 z.2/\z.2.length=P.cellsOf e/\∀f,f < P.cellsOf e->w.cell? ((a.add (i*P.cellsOf e)).add f)=z.2[f]?:=λi hi=>by
     obtain⟨cs',h1,h2⟩:=hel i (by omega);obtain⟨ps,k1,k2⟩:=mM hA d n hpe h2 (λk hk=>hw k (by
      simp only [DataW.weights,ht,List.mem_cons,List.mem_append];exact .inr (.inl (hall _ (D i) (List.mem_map.2 ⟨i,List.mem_range.2 hi,rfl⟩) k hk))))
     obtain⟨_,c2,c3⟩:=World.cells?_some h1;exact⟨(ps,cs'),k1,k2,c2,c3⟩
    obtain⟨z,hz⟩:=Deep.choose_lt key;have hspot:0 < len->a.spot=none:=λh0=>by
     obtain⟨_,_,c1,c2⟩:=hz 0 h0;have:=c2 0 hce;rw [List.getElem?_eq_getElem (by omega),Nat.zero_mul] at this;unfold Addr.add at this;rw [if_pos rfl,if_pos rfl] at this;unfold World.cell? at this;split at this
     ·split at this
      ·cases this
      ·rename_i hs
       cases hsp:a.spot with
       |none=>rfl
       |some _=>rw [hsp] at hs;exact absurd rfl hs
     ·cases this
    have hadd:∀i f,0 < len->(a.add (i*P.cellsOf e)).add f=⟨a.block,a.off+(i*P.cellsOf e+f),none⟩:=λi f h0=>by
     have hs:=hspot h0;obtain⟨b,o,s⟩:=a;cases hs;rw [WideShapes.add_plain,WideShapes.add_plain,Nat.add_assoc]
    have hcell:∀i f p,i < len->(z i).1[f]? = some p->∃u,(z i).2[f]? = some u/\w.cell? ⟨a.block,a.off+(i*P.cellsOf e+f),none⟩=some u:=λi f p hi hp=>by
     obtain⟨_,⟨k1,_⟩,k3,k4⟩:=hz i hi;obtain⟨hf,_⟩:=List.getElem?_eq_some_iff.1 hp;have:=k4 f (by omega);rw [hadd i f (by omega)] at this;rw [this];exact⟨(z i).2[f]'(by omega),List.getElem?_eq_getElem _,List.getElem?_eq_getElem _⟩
    refine⟨[.rs (P.cellsOf e) len λi=>(z i).1],⟨len,_,rfl,hlen,λi hi=>(hz i hi).1⟩,rfl,λi p u h1 h2=>?_⟩
    match i with
    |i+1=>simp at h1
    |0 =>
     cases h1;cases h2;refine⟨.rs _ _ _ _ _ (λi f=>((z i).2[f]?).getD undef) (λi hi=>?_) hl hm (λi f p hi hp=>?_) (λi f p hi hp=>?_),rfl⟩
     ·obtain⟨_,⟨k1,k2⟩,k3,_⟩:=hz i hi;refine⟨k1.trans k3,λp hp=>?_⟩;obtain⟨f,hf⟩:=List.getElem?_of_mem hp;obtain⟨hf',_⟩:=List.getElem?_eq_some_iff.1 hf;exact(k2 f p _ hf (List.getElem?_eq_getElem (show f < (z i).2.length by omega))).2
     ·obtain⟨u,e1,e2⟩:=hcell i f p hi hp;obtain⟨b,o,s⟩:=a;have hs:s=none:=hspot (show 0 < len by omega);subst hs;refine⟨b,o,rfl,hA _ ?_,?_⟩
      ·exact Nat.lt_of_not_le λhge=>by
        unfold World.cell? at e2;rw [show w.heap[(⟨b,o+(i*P.cellsOf e+f),none⟩:Addr).block]? = none from Array.getElem?_eq_none hge] at e2;cases e2
      ·rw [e2,e1];rfl
     ·obtain⟨u,e1,e2⟩:=hcell i f p hi hp;rw [e1];exact((hz i hi).2.1.2 f p u hp e1).1
  ·rename_i fs ht
   simp only [Bool.and_eq_true,decide_eq_true_eq,List.all_eq_true] at hp;obtain⟨xs,n,rfl,rfl,hl,hlen,hf⟩:=DataW.trod_struct ht h;obtain⟨ps,h1,h2⟩:=mL (P:=P) (A:=A) (w:=w) (d:=d) hl hp.2 λf hm=>by
    obtain⟨i,hi⟩:=List.getElem?_of_mem hm;have hi':fs[i]? = some f:=by rw [<-hi,Array.getElem?_toList]
    have h1:=hf i f hi';obtain⟨hil,_⟩:=List.getElem?_eq_some_iff.1 hi;have hil':i < xs.length:=by rw [hlen];simpa using hil
    rw [List.getElem?_eq_getElem hil'] at h1;refine mM hA d n (hp.1 f hm) h1 λk hk=>hw k ?_;have e2:DataW.weights P t (.agg (xs.map (·.1)))=DataW.weightsEach P (fs.toList.map (·.type)) (xs.map (·.1)):=by simp only [DataW.weights,ht]
    show k∈DataW.weights P t (.agg (xs.map (·.1)));rw [e2];exact DataW.weights_mem_each (j:=i) (t:=f.type) (d:=xs[i].1) (by rw [List.getElem?_map,hi];rfl) (by rw [List.getElem?_map,List.getElem?_eq_getElem hil'];rfl) k hk
   exact⟨ps,h1,h2⟩
  ·cases hp
def tU (P:Program) (d:Nat) (t:TypeId) (p:PV):Prop:=match P.underlying t with
 |some (.struct _)=>∃xs,p=mkAgg xs/\lB P d t xs
 |_=>lB P d t [p]
def pJ (P:Program) (d:Nat):List TypeId->List PV->Prop
 |[],ps=>ps=[]
 |t::ts,ps=>∃p qs,ps=p::qs/\tU P d t p/\pJ P d ts qs
theorem wM {A:Nat->Prop} (hA:∀k,k < w.heap.size->A k) {base base':Nat} {spare:Nat->Bool} {held:Bool} {r:Reach} {d:Nat} {t:TypeId} {v:Value} {y:DataW H} {q:List MemPlace} (hp:fP P d t=true)
  (h:DataW.Trod enc P w base spare held t v y q) (hv:Value.okWide P w r base' t v) (hw:∀n∈y.weights P t,n<=reachBytes):∃p,tU P d t p/\R0 A w p v:=by
 obtain⟨fuel,h⟩:=h;obtain⟨ps,h1,h2⟩:=mM hA d fuel hp h hw;have one:v.cells.toList=[v]->∃p,ps=[p]/\R0 A w p v:=λe=>by
  rw [e] at h2
  match ps,h2 with
  |[p],h2=>exact⟨p,rfl,(h2.2 0 p v rfl rfl).1⟩
  |[],h2=>exact absurd h2.1 (by simp)
  |_::_::_,h2=>exact absurd h2.1 (by simp)
 unfold tU
 match d,hp with
 |d+1,hp =>
  unfold fP at hp;split at hp
  ·rename_i ht
   obtain⟨b,rfl⟩:=WideShapes.okWide_bool ht hv;obtain⟨p,rfl,hr⟩:=one rfl;rw [ht];exact⟨p,h1,hr⟩
  ·rename_i k ht
   obtain⟨b,rfl⟩:=WideShapes.okWide_int ht hv;obtain⟨p,rfl,hr⟩:=one rfl;rw [ht];exact⟨p,h1,hr⟩
  ·rename_i ht
   obtain⟨b,rfl⟩:=WideShapes.okWide_string ht hv;obtain⟨p,rfl,hr⟩:=one rfl;rw [ht];exact⟨p,h1,hr⟩
  ·rename_i e ht
   obtain⟨a,len,cap,rfl⟩:=WideShapes.okWide_slice ht hv;obtain⟨p,rfl,hr⟩:=one rfl;rw [ht];exact⟨p,h1,hr⟩
  ·rename_i fs ht
   obtain⟨cs,rfl,_⟩:=WideShapes.okWide_struct ht hv;rw [ht];have h2':Pt A w ps cs.toList:=h2;exact⟨Ex.mkAgg ps,⟨ps,rfl,h1⟩,R0.mkAgg (by simpa using h2'.1) λi p u hp hu=>(h2'.2 i p u hp (by rw [Array.getElem?_toList];exact hu)).1⟩
  ·cases hp
theorem kS {A:Nat->Prop} (hA:∀k,k < w.heap.size->A k) {base base':Nat} {spare:Nat->Bool} {held:Bool} {r:Reach} {d:Nat}:∀{ts:List TypeId} {vs:List Value} {ds:List (DataW H)} {q:List MemPlace},(∀t∈ts,fP P d t=true) ->
  DataW.TrodAll enc P w base spare held ts vs ds q->(∀(j:Nat) t v,ts[j]? = some t->vs[j]? = some v->Value.okWide P w r base' t v)->(∀n∈DataW.weightsEach P ts ds,n<=reachBytes) ->
  ∃ps,pJ P d ts ps/\ps.length=vs.length/\∀(i:Nat) p v,ps[i]? = some p->vs[i]? = some v->R0 A w p v
 |[],[],_,_,_,_,_,_=>⟨[],rfl,rfl,λi p v h=>by simp at h⟩
 |[],_::_,_,_,_,h,_,_=>h.elim
 |_::_,[],_,_,_,h,_,_=>h.elim
 |_::_,_::_,[],_,_,h,_,_=>h.elim
 |t::ts,v::vs,y::ds,q,hp,h,hv,hw=>by
  obtain⟨q1,q2,h1,h2,_⟩:=h;obtain⟨p,k1,k2⟩:=wM (A:=A) hA (hp t List.mem_cons_self) h1 (hv 0 t v rfl rfl) λn hn=>hw n (by rw [DataW.weightsEach,List.mem_append];exact .inl hn);obtain⟨ps,k3,k4,k5⟩:=kS hA (λt ht=>hp t (List.mem_cons_of_mem _ ht)) h2 (λj t' v' a b=>hv (j+1) t' v' (by simpa using a) (by simpa using b)) λn hn=>hw n (by rw [DataW.weightsEach,List.mem_append];exact .inr hn);refine⟨p::ps,⟨p,ps,rfl,k1,k3⟩,by simp [k4],λi p' v' a b=>?_⟩
  match i with
  |0=>cases a;cases b;exact k2
  |i+1=>exact k5 i p' v' (by simpa using a) (by simpa using b)
theorem iU (hl:laidOutB P=true) {w':World} (hb:Below w.heap.size w w'):∀{ts:List TypeId} {vs:List Value} {ds:List (DataW H)} {q:List MemPlace},(∀t∈ts,P.readableRec t=true/\t < P.types.size) ->
  DataW.TrodAll enc P w 0 (λ_=>true) true ts vs ds q->(∀x∈q,x.block < w.heap.size)->DataW.TrodAll enc P w' 0 (λb=>decide (b < w.heap.size)) true ts vs ds q
 |[],[],[],_,_,h,_=>h
 |[],[],_::_,_,_,h,_=>h.elim
 |[],_::_,_,_,_,h,_=>h.elim
 |_::_,[],_,_,_,h,_=>h.elim
 |_::_,_::_,[],_,_,h,_=>h.elim
 |t::ts,v::vs,y::ds,q,hp,h,hq=>by
  obtain⟨q1,q2,h1,h2,rfl⟩:=h;exact⟨q1,q2,Below.trod hl (hp t List.mem_cons_self).1 (hp t List.mem_cons_self).2 h1 hb λx hx=>hq x (List.mem_append.2 (.inl hx)),
   iU hl hb (λt ht=>hp t (List.mem_cons_of_mem _ ht)) h2 λx hx=>hq x (List.mem_append.2 (.inr hx)),rfl⟩
theorem pK (hl:laidOutB P=true) {f:FuncId} {fn:Func} {s:ChangeSpec} {d tb:Nat} {c:List PV->Option Ans} (hv:s.vars=[]) (hs:∀ds:List (DataW H),ds.length=fn.params.size->s.fn H ds={ results:=[.lit (.bool true)],args:=ds })
  (hr:fn.resultTypes = #[tb]) (ht:P.underlying tb=some .bool) (hp:(fn.params.toList.all λt=>fP P d t&&P.readableRec t&&decide (t < P.types.size))=true) (hc:FnOk P f c)
  (hd:∀ps,pJ P d fn.params.toList ps->∃pre,c ps=some ⟨pre,.val (.bool true),[]⟩/\Met pre)
  (W:World) (base:Nat) (args:Array Value) (ds gs:List (DataW H)) (before:List MemPlace)
  (hval:∀(j:Nat) t v,fn.params[j]? = some t->args[j]? = some v->Value.okWide P W .any base t v)
  (hW:DataW.Whole enc P fn.params.toList s.vars false W args.toList ds gs before)
  (hsz:(DataW.weightsEach P (fn.params.toList++s.plain.varTypes P) (ds++gs)).all (·<=reachBytes)=true) :
  Calls P f args W λe W'=>∃v,e=.returned v/\s.post enc P fn false true false false W args v W':=by
 have hW':=hW;obtain⟨p,q,hA,hV,rfl,hfz,hnd⟩:=hW;rw [hv] at hV;obtain⟨rfl,rfl⟩:=ChangeShapes.trodVars_none hV;have hp':∀t∈fn.params.toList,fP P d t=true/\P.readableRec t=true/\t < P.types.size:=λt h=>by
  have:=List.all_eq_true.1 hp t h;simp only [Bool.and_eq_true,decide_eq_true_eq] at this;exact⟨this.1.1,this.1.2,this.2⟩
 have hvt:s.plain.varTypes P=[]:=by
  unfold DataSpec.varTypes ChangeSpec.plain;rw [hv];rfl
 rw [hvt,List.append_nil,List.append_nil] at hsz;obtain⟨ps,h1,h2,h3⟩:=kS (A:=λk=>k < W.heap.size) (λk h=>h) (λt h=>(hp' t h).1) hA (λj t v a b=>hval j t v (by rw [<-Array.getElem?_toList];exact a) (by rw [<-Array.getElem?_toList];exact b)) λn hn=>by simpa using List.all_eq_true.1 hsz n hn
 obtain⟨pre,h4,h5⟩:=hd ps h1;have hlt:=hW'.lt;rw [List.append_nil] at hlt;refine((hc ps _ h4).2 h5 (λk=>k < W.heap.size) W args (λk h=>h) (by simpa using h2) λi p v a b=>h3 i p v a (by rw [Array.getElem?_toList];exact b)).mono λe W' ⟨v,β,he,hres⟩=>?_;refine⟨v,he,?_⟩;have hv':v=.bool true:=hres.val.val_eq;subst hv';have hdl:ds.length=fn.params.size:=by
  have:∀{ts:List TypeId} {vs:List Value} {ds:List (DataW H)} {q:List MemPlace},DataW.TrodAll enc P W 0 (λ_=>true) true ts vs ds q->ds.length=ts.length:=λ{ts}=>by
   induction ts with
   |nil =>
    intro vs ds q h
    match vs,ds,h with
    |[],[],_=>rfl
   |cons t ts ih =>
    intro vs ds q h
    match vs,ds,h with
    |v::vs,y::ds,h =>
     obtain⟨_,_,_,h2,_⟩:=h;rw [List.length_cons,List.length_cons,ih h2]
  rw [this hA];simp
 have hb:=hres.below;refine⟨ds,[],p++[],[],p,[],hW',?_,?_,?_,hb.frame _,λh=>by cases h⟩
 ·rw [hs (ds++[]) (by rw [List.append_nil];exact hdl),hr];exact⟨[],[],⟨1,by simp [DataW.trod,Value.cells,ht]⟩,rfl,rfl⟩
 ·rw [hs (ds++[]) (by rw [List.append_nil];exact hdl),List.append_nil];exact iU hl hb (λt h=>(hp' t h).2) hA hlt
 ·rw [hv,hs (ds++[]) (by rw [List.append_nil];exact hdl)];rfl
end
end Go.Ex
namespace Go.Proofs
theorem AP:Tryz.prog.cellsOf 25=6:=by kernel_rfl
theorem pL {d t:Nat} {k:IntKind} {ps:List PV} (ht:Tryz.prog.underlying t=some (.int k)) (h:lB Tryz.prog d t ps):∃z,ps=[.val (.int k z)]/\k.min<=z/\z<=k.max:=by
 match d,h with
 |d+1,h =>
  unfold lB at h;rw [ht] at h;obtain⟨z,rfl,hz⟩:=h;unfold Lit.wf at hz;simp only [Bool.and_eq_true,decide_eq_true_eq] at hz;exact⟨z,rfl,hz⟩
theorem mN {d t:Nat} {ps:List PV} (ht:Tryz.prog.underlying t=some .string) (h:lB Tryz.prog d t ps):∃s:ByteArray,ps=[.val (.string s)]/\s.size<=140737488355328:=by
 match d,h with
 |d+1,h =>
  unfold lB at h;rw [ht] at h;exact h
theorem yV {d t:Nat} {ps:List PV} (ht:Tryz.prog.underlying t=some .bool) (h:lB Tryz.prog d t ps):∃b,ps=[.val (.bool b)]:=by
 match d,h with
 |d+1,h =>
  unfold lB at h;rw [ht] at h;exact h
theorem fq {d t:Nat} {fs:Array Field} {ps:List PV} (ht:Tryz.prog.underlying t=some (.struct fs)) (h:lB Tryz.prog d t ps):vf (lB Tryz.prog (d - 1)) fs.toList ps:=by
 match d,h with
 |d+1,h =>
  unfold lB at h;rw [ht] at h;exact h
theorem kx {d t e:Nat} {ps:List PV} (ht:Tryz.prog.underlying t=some (.slice e)) (h:lB Tryz.prog d t ps):∃m g,ps=[.rs (Tryz.prog.cellsOf e) m g]/\m<=140737488355328/\∀i,i < m->lB Tryz.prog (d - 1) e (g i):=by
 match d,h with
 |d+1,h =>
  unfold lB at h;rw [ht] at h;exact h
theorem vg {d:Nat} {ps:List PV} (h:lB Tryz.prog d 23 ps):∃r:RatS,ps=r.cells/\r.le 140737488355328:=by
 obtain⟨q1,r1,rfl,h1,q2,r2,rfl,h2,q3,r3,rfl,h3,rfl⟩:=fq Tryz.underlying23 h;obtain⟨s,rfl⟩:=yV Tryz.underlying4 h1;obtain⟨b,rfl,hb⟩:=mN Tryz.underlying9 h2;obtain⟨c,rfl,hc⟩:=mN Tryz.underlying9 h3;exact⟨⟨s,b,c⟩,rfl,hb,hc⟩
theorem pM {d:Nat} {ps:List PV} (h:lB Tryz.prog d 25 ps):∃p:PtS,ps=p.cells/\p.le 140737488355328:=by
 obtain⟨q1,r1,rfl,h1,q2,r2,rfl,h2,rfl⟩:=fq Tryz.underlying25 h;obtain⟨x,rfl,hx⟩:=vg h1;obtain⟨y,rfl,hy⟩:=vg h2;exact⟨⟨x,y⟩,rfl,hx,hy⟩
theorem AQ {d:Nat} {ps:List PV} (h:lB Tryz.prog d 34 ps):∃n g,ps=[.rs 6 n g]/\isPL 140737488355328 n g:=by
 obtain⟨n,g,rfl,hn,hg⟩:=kx Tryz.underlying34 h;rw [AP];refine⟨n,g,rfl,λi hi=>?_,hn⟩;obtain⟨p,hp,hl⟩:=pM (hg i hi);unfold ab;rw [hp];exact⟨rfl,hl⟩
theorem vh {d:Nat} {p:PV} (h:tU Tryz.prog d 25 p):∃q:PtS,p=.val q.v/\q.le 140737488355328:=by
 unfold tU at h;rw [Tryz.underlying25] at h;obtain⟨xs,rfl,h⟩:=h;obtain⟨q,rfl,hq⟩:=pM h;exact⟨q,rfl,hq⟩
theorem AR:Tryz.prog.cellsOf 34=1:=by kernel_rfl
theorem AS:Tryz.prog.cellsOf 63=3:=by kernel_rfl
theorem tX {d:Nat} {p:PV} (h:tU Tryz.prog d 31 p):∃(lo hi:PtS) (k:Nat) (c:Nat->List PV) (l:Nat) (o:Nat->List PV),p=.agg [.val (.bool lo.x.s),.val (.string lo.x.b),.val (.string lo.x.c),.val (.bool lo.y.s),.val (.string lo.y.b),.val (.string lo.y.c),.val (.bool hi.x.s),.val (.string hi.x.b),.val (.string hi.x.c),.val (.bool hi.y.s),.val (.string hi.y.b),.val (.string hi.y.c),.rs 1 k c,.rs 3 l o] /\
  (lo.le 140737488355328/\hi.le 140737488355328)/\bQ 140737488355328 k c/\cR l o:=by
 unfold tU at h;rw [Tryz.underlying31] at h;obtain⟨xs,rfl,h⟩:=h;obtain⟨q1,r1,rfl,h1,q2,r2,rfl,h2,q3,r3,rfl,h3,rfl⟩:=fq Tryz.underlying31 h;obtain⟨s1,u1,rfl,g1,s2,u2,rfl,g2,rfl⟩:=fq Tryz.underlying27 h1;obtain⟨lo,rfl,hlo⟩:=pM g1;obtain⟨hi,rfl,hhi⟩:=pM g2;obtain⟨k,c,rfl,hk,hc⟩:=kx Tryz.underlying28 h2;obtain⟨l,o,rfl,hl,ho⟩:=kx Tryz.underlying29 h3;rw [AR,AS];refine⟨lo,hi,k,c,l,o,rfl,⟨hlo,hhi⟩,⟨λi hi=>?_,hk⟩,λi hi=>?_,hl⟩
 ·obtain⟨n,g,e,hg⟩:=AQ (hc i hi);unfold pn pg;rw [e];exact⟨rfl,hg⟩
 ·obtain⟨q1,r1,e,h1,q2,r2,rfl,h2,q3,r3,rfl,h3,rfl⟩:=fq Tryz.underlying63 (ho i hi);obtain⟨x,rfl,_⟩:=pL Tryz.underlying3 h1;obtain⟨y,rfl,_⟩:=pL Tryz.underlying3 h2;obtain⟨z,rfl,_⟩:=pL Tryz.underlying3 h3;unfold ow;rw [e];rfl
end Go.Proofs
namespace Go.Proofs.YtpfdckeipckldaaGreat
open Go.RowKit
theorem own:ownKnob Tryz.prog.godebug=none:=by kernel_rfl
theorem AT:laidOutB Tryz.prog=true:=by kernel_rfl
theorem yW (ps:List PV) (h:pJ Tryz.prog 8 [31,25,25] ps):∃pre,c5 ps=some ⟨pre,.val (.bool true),[]⟩/\Go.Ex.Met pre:=by
 obtain⟨p1,q1,rfl,h1,p2,q2,rfl,h2,p3,q3,rfl,h3,rfl⟩:=h;obtain⟨lo,hi,k,c,l,o,rfl,hb,hc,ho⟩:=tX h1;obtain⟨a,rfl,ha⟩:=vh h2;obtain⟨b,rfl,hb'⟩:=vh h3;exact⟨_,rfl,λq e=>by cases e;exact⟨hb,hc,ho,⟨a,rfl,ha⟩,⟨b,rfl,hb'⟩⟩⟩
theorem r6 (os:Os) (started:os.Started) (H:Type) (enc:TypeId×Value->H) :
  ReturnsInHanded {} Tryz.checked os 5 .any (Rows.roadmapSeesSpec.pre6 enc Tryz.prog Tryz.f5 Rows.roadmapSeesRow.domain false) (Rows.roadmapSeesSpec.post enc Tryz.prog Tryz.f5 false true false false):=by
 refine returnsInHanded_of_change_sized (C:=Tryz.checked) own started (by kernel_rfl) Tryz.func5
  (ChangeSpec.witness6 (enc:=enc) (C:=Tryz.checked) false ⟨#[],#[.agg #[.bool false,.string ⟨#[]⟩,.string ⟨#[]⟩,.bool false,.string ⟨#[]⟩,.string ⟨#[]⟩,.bool false,.string ⟨#[]⟩,.string ⟨#[]⟩,.bool false,.string ⟨#[]⟩,.string ⟨#[]⟩,.slice none 0 0,.slice none 0 0],.agg #[.bool false,.string ⟨#[]⟩,.string ⟨#[]⟩,.bool false,.string ⟨#[]⟩,.string ⟨#[]⟩],.agg #[.bool false,.string ⟨#[]⟩,.string ⟨#[]⟩,.bool false,.string ⟨#[]⟩,.string ⟨#[]⟩]],[]⟩ 8 (by kernel_rfl) (by kernel_rfl) (by kernel_rfl) (by kernel_rfl)) ?_
 intro W base args ds gs before hval hW _ hsz _;exact pK (P:=Tryz.prog) (fn:=Tryz.f5) (d:=8) (tb:=4) (s:=Rows.roadmapSeesSpec) AT rfl (λds hd=>by
  match ds,hd with
  |[d1,d2,d3],_=>rfl) rfl Tryz.underlying4 (by kernel_rfl) f5 (λps h=>yW ps h) W base args ds gs before hval hW hsz
theorem sees_holds:Rows.RoadmapSeesSaid :=
 OpenClaim.holds_of_wide 5 Tryz.f5 rfl rfl rfl rfl rfl rfl rfl ⟨rfl,rfl,rfl,rfl,rfl⟩ rfl rfl rfl rfl rfl (by kernel_rfl) Tryz.func5 (by kernel_rfl)
  (of_decide_eq_true (by kernel_rfl)) (by unfold Func.isWrapper;rw [if_neg (of_decide_eq_false (by kernel_rfl))];exact⟨rfl,rfl⟩)
  (λos started H enc _=>r6 os started H enc)
end Go.Proofs.YtpfdckeipckldaaGreat
