import Derived.Shelf.SlSortCmp.NoneTotal
import Derived.Sort.OwnSorted
import Derived.Below
import Derived.Shelf.SlLaysF0
import Derived.Shelf.Sort.Plain
import Derived.Shelf.Slices.In.SortNone
import Derived.Sort.OwnSortedInts
import Derived.Test.YtpfdckeipckldaaGreatC
set_option maxHeartbeats 8000000
set_option linter.all false
open Go Go.Ex Go.Num Go.Proofs
set_option maxRecDepth 100000
theorem Go.Ex.FnOk.orElse {P:Go.Program} {f:Go.FuncId} {s t:List Go.Ex.PV->Option Go.Ex.Ans} (h1:Go.Ex.FnOk P f s) (h2:Go.Ex.FnOk P f t):Go.Ex.FnOk P f (λa=>(s a).orElse λ_=>t a):=λargs r e=>by
 replace e:((s args).orElse λ_=>t args)=some r:=e;cases hs:s args with
 |some x =>
  rw [hs] at e;exact h1 args r (by rw [hs];exact e)
 |none =>
  rw [hs] at e;exact h2 args r e
namespace Go.Num
def bk (n:Nat) (p:Nat->PtS):Int:=bif decide (n < 3)||decide (64 < n) then 4 else bif aA (λi=>!ai (p i)) n then 1 else bif aA (λi=>nP (p 0) (p (1+i))) (n - 1) then 8 else bif aA (λe=>aA (λi=>dS (p e) (p ((e+1)%n)) (p i)) n) n then 15 else 0
end Go.Num
namespace Go.Proofs
def AA:List PV->Option Ans
 |[.rs 6 n g]=>some ⟨some (isPL 10000 n g),.val (.int .i64 (bk n (ab g))),[]⟩
 |_=>none
def D124:Opt:={ join:=ez [1] }
theorem FE:am D124.toOrd Tryz.f124 1=true:=by kernel_rfl
theorem f124:FnOk Tryz.prog 124 AA:=by
 refine FnOk.ofW aj (oN (l:=[(167,Az),(65,λa=>(px a).orElse λ_=>pz a),(169,Ax)]) (own:=[]) (inl:=[]) (sq:=[(207,Ay)]) ?_ (by simp) (by simp [f207])) Tryz.func124 D124 1 FE λargs r e=>?_
 ·simp only [List.mem_cons,List.not_mem_nil,or_false,forall_eq_or_imp,forall_eq];exact⟨f167,FnOk.orElse Au Aw,f169⟩
 unfold AA at e;split at e
 ·rename_i n g
  cases e;refine⟨by simp,λhm=>?_⟩;obtain⟨hg,hn⟩:=hm _ rfl;refine⟨[],aa [(0,.rs 6 n (λi=>(ab g i).cells))] [] 0 [],Wo trivial ⟨⟨rfl,rfl,λi hi=>(hg i hi).1.symm⟩,qQ⟩ trivial,?_⟩;have pl:isPL 10000 n (λi=>(ab g i).cells):=⟨λi hi=>⟨rfl,(hg i hi).2⟩,hn⟩;have pl2:isPL 4294967296 n (λi=>(ab g i).cells):=⟨λi hi=>⟨rfl,((hg i hi).2).mono (by decide)⟩,hn⟩;with_unfolding_all refine⟨Unit,λ_=>(decide (n < 3)||decide (64 < n))=false,λ_=>aa [(1,.ptr 0 0 0 0),(2,.ptr 1 1 0 0)] [⟨34,1,0,true,false,1,λ_=>[.rs 6 n (λi=>(ab g i).cells)]⟩,⟨38,1,1,true,false,1,λ_=>[.val (.int .i64 0)]⟩] 2 [],?_,λ_ h1=>?_⟩
  ·have j1:decide ((n:Int) < 3)=false->decide ((n:Int) > 64)=false->(decide (n < 3)||decide (64 < n))=false:=λh h'=>by
    have h:=of_decide_eq_false h;have h':=of_decide_eq_false h';rw [decide_eq_false (by omega),decide_eq_false (by omega)];rfl
   have v4:(decide (n < 3)||decide (64 < n))=true->PV.val (.int .i64 4)=PV.val (.int .i64 (bk n (ab g))):=λh=>by
    unfold bk;rw [h];rfl
   have q1:decide ((n:Int) > 64)=true->(decide (n < 3)||decide (64 < n))=true:=λh=>by
    have h:=of_decide_eq_true h;rw [decide_eq_true (show 64 < n by omega),Bool.or_true]
   have q2:decide ((n:Int) < 3) = !false->(decide (n < 3)||decide (64 < n))=true:=λh=>by
    have h:(n:Int) < 3:=of_decide_eq_true h;rw [decide_eq_true (show n < 3 by omega),Bool.true_or]
   with_unfolding_all refine⟨λh1=>⟨λh2=>⟨[some 1],aa [(2,.ptr 0 0 0 0)] [⟨38,1,0,true,false,1,λ_=>[.val (.int .i64 (bk n (ab g)))]⟩] 1 [],Wo ⟨qZ ⟨⟨v4 (q1 h2),rfl⟩,qQ⟩,qQ⟩ ⟨pP,qQ⟩ trivial,rfl,rfl⟩,λh2=>⟨(),[some 0,some 1],j1 h1 h2,Wo ⟨qZ ⟨⟨qW,rfl⟩,qQ⟩,qY,qQ⟩ ⟨pP,pP,qQ⟩ trivial⟩⟩,λh1=>⟨λh2=>⟨[some 1],aa [(2,.ptr 0 0 0 0)] [⟨38,1,0,true,false,1,λ_=>[.val (.int .i64 (bk n (ab g)))]⟩] 1 [],Wo ⟨qZ ⟨⟨v4 (q2 h1),rfl⟩,qQ⟩,qQ⟩ ⟨pP,qQ⟩ trivial,rfl,rfl⟩,λh2=>(nomatch h2)⟩⟩
  ·have h1:(decide (n < 3)||decide (64 < n))=false:=h1;have hn3:3<=n:=by
    rw [Bool.or_eq_false_iff] at h1;have:=of_decide_eq_false h1.1;omega
   obtain⟨A1,hA1⟩:∃b,b=aA (λi=>!ai (ab g i)) n:=⟨_,rfl⟩;obtain⟨A2,hA2⟩:∃b,b=aA (λi=>nP (ab g 0) (ab g (1+i))) (n - 1):=⟨_,rfl⟩;obtain⟨A3,hA3⟩:∃b,b=aA (λe=>aA (λi=>dS (ab g e) (ab g ((e+1)%n)) (ab g i)) n) n:=⟨_,rfl⟩;have vE:bk n (ab g)=bif A1 then 1 else bif A2 then 8 else bif A3 then 15 else 0:=by
    unfold bk;rw [h1,<-hA1,<-hA2,<-hA3];rfl
   have a1:(!!aA (λi=>!ai (ab (λi=>(ab g i).cells) i)) n)=A1:=by rw [hA1,Bool.not_not];rfl
   have a2:aA (λi=>nP (ab (iL ((λ(x:Nat)=>[PV.rs 6 n (λi=>(ab g i).cells)]) 0)).2 0) (ab (λk=>(λi=>(ab g i).cells) (Int.toNat 1+k)) i)) ((n:Int) - 1).toNat=A2:=by
    rw [hA2,show((n:Int) - 1).toNat=n - 1 by omega];rfl
   have v1:(!!aA (λi=>!ai (ab (λi=>(ab g i).cells) i)) n)=true->PV.val (.int .i64 1)=PV.val (.int .i64 (bk n (ab g))):=λh=>by
    rw [a1] at h;rw [vE,h];rfl
   have v8:(!!aA (λi=>!ai (ab (λi=>(ab g i).cells) i)) n)=false->aA (λi=>nP (ab (iL ((λ(x:Nat)=>[PV.rs 6 n (λi=>(ab g i).cells)]) 0)).2 0) (ab (λk=>(λi=>(ab g i).cells) (Int.toNat 1+k)) i)) ((n:Int) - 1).toNat=true->PV.val (.int .i64 8)=PV.val (.int .i64 (bk n (ab g))):=λh h'=>by
    rw [a1] at h;rw [a2] at h';rw [vE,h,h'];rfl
   have p2:isPL 10000 ((n:Int) - 1).toNat (λk=>(λi=>(ab g i).cells) (Int.toNat 1+k)):=⟨λi hi=>⟨rfl,(hg (1+i) (by omega)).2⟩,by omega⟩
   ·with_unfolding_all refine⟨pl2,λh2=>⟨[some 1],aa [(2,.ptr 0 0 0 0)] [⟨38,1,0,true,false,1,λ_=>[.val (.int .i64 (bk n (ab g)))]⟩] 1 [],Wo ⟨qZ ⟨⟨v1 h2,rfl⟩,qQ⟩,qQ⟩ ⟨pP,qQ⟩ trivial,rfl,rfl⟩,λh2=>⟨⟨by decide,by omega,by omega⟩,⟨p2,rfl,pl,by show 0 < n;omega⟩,λh3=>⟨[some 1],aa [(2,.ptr 0 0 0 0)] [⟨38,1,0,true,false,1,λ_=>[.val (.int .i64 (bk n (ab g)))]⟩] 1 [],Wo ⟨qZ ⟨⟨v8 h2 h3,rfl⟩,qQ⟩,qQ⟩ ⟨pP,qQ⟩ trivial,rfl,rfl⟩,λh3=>⟨λ_ _=>rfl,⟨rfl,hn⟩,?_⟩⟩⟩
    with_unfolding_all refine⟨Unit,λk _=>∀e,e < k->aA (λi=>dS (ab g e) (ab g ((e+1)%n)) (ab g i)) n=false,λ_=>aa [(1,.ptr 0 0 0 0),(2,.ptr 1 1 0 0)] [⟨34,1,0,true,false,1,λ_=>[.rs 6 n (λi=>(ab g i).cells)]⟩,⟨38,1,1,true,false,1,λ_=>[.val (.int .i64 0)]⟩] 2 [],⟨(),[some 0,some 1],λe he=>absurd he (Nat.not_lt_zero e),Wo ⟨qZ ⟨⟨qW,rfl⟩,qQ⟩,qY,qQ⟩ ⟨pP,pP,qQ⟩ trivial⟩,λk y hk hI=>?_,λy hI=>?_⟩
    ·have hk:k < n:=hk;have hI:∀e,e < k->aA (λi=>dS (ab g e) (ab g ((e+1)%n)) (ab g i)) n=false:=hI;have hml:=Nat.mod_lt (k+1) (show 0 < n by omega);have c1:lg 10000 (ab g k).cells:=⟨rfl,(hg k hk).2⟩;have c2:lg 10000 (ab g ((k+1)%n)).cells:=⟨rfl,(hg _ hml).2⟩;have w15:aA (λi=>dS (ab g k) (ab g ((k+1)%n)) (ab g i)) n=true->(!!aA (λi=>!ai (ab (λi=>(ab g i).cells) i)) n)=false->aA (λi=>nP (ab (iL ((λ(x:Nat)=>[PV.rs 6 n (λi=>(ab g i).cells)]) 0)).2 0) (ab (λk=>(λi=>(ab g i).cells) (Int.toNat 1+k)) i)) ((n:Int) - 1).toNat=false->PV.val (.int .i64 15)=PV.val (.int .i64 (bk n (ab g))):=λh h' h''=>by
      rw [a1] at h';rw [a2] at h'';have e3:A3=true:=by rw [hA3];exact bc.2 ⟨k,hk,h⟩
      rw [vE,h',h'',e3];rfl
     with_unfolding_all refine⟨rfl,⟨pl,c1,c2⟩,λh4=>?_,λh4=>⟨(),[some 0,some 1],?_,Wo ⟨qZ ⟨⟨qW,rfl⟩,qQ⟩,qY,qQ⟩ ⟨pP,pP,qQ⟩ trivial⟩⟩
     ·with_unfolding_all exact⟨[some 1],aa [(2,.ptr 0 0 0 0)] [⟨38,1,0,true,false,1,λ_=>[.val (.int .i64 (bk n (ab g)))]⟩] 1 [],Wo ⟨qZ ⟨⟨w15 h4 h2 h3,rfl⟩,qQ⟩,qQ⟩ ⟨pP,qQ⟩ trivial,rfl,rfl⟩
     ·intro e he;have he:e < k+1:=he;rcases Nat.lt_or_ge e k with h|h
      ·exact hI e h
      ·obtain rfl:e=k:=by omega
       exact h4
    ·have hI:∀e,e < n->aA (λi=>dS (ab g e) (ab g ((e+1)%n)) (ab g i)) n=false:=hI;have e3:A3=false:=by rw [hA3];exact aF.2 hI
     have w0:PV.val (.int .i64 0)=PV.val (.int .i64 (bk n (ab g))):=by
      rw [a1] at h2;rw [a2] at h3;rw [vE,h2,h3,e3];rfl
     with_unfolding_all exact⟨[some 1],aa [(2,.ptr 0 0 0 0)] [⟨38,1,0,true,false,1,λ_=>[.val (.int .i64 (bk n (ab g)))]⟩] 1 [],Wo ⟨qZ ⟨⟨w0,rfl⟩,qQ⟩,qQ⟩ ⟨pP,qQ⟩ trivial,rfl,rfl⟩
 ·cases e
end Go.Proofs
namespace Go.Num
def pn (c:Nat->List PV) (i:Nat):Nat:=(iL (c i)).1
def pg (c:Nat->List PV) (i:Nat):Nat->List PV:=(iL (c i)).2
def Js:List PV->Int×Int×Int
 |[.val (.int .i64 x),.val (.int .i64 y),.val (.int .i64 z)]=>(x,y,z)
 |_=>(0,0,0)
def ag (q:Int×Int×Int):List PV:=[.val (.int .i64 q.1),.val (.int .i64 q.2.1),.val (.int .i64 q.2.2)]
def ow (o:Nat->List PV) (i:Nat):Int×Int×Int:=Js (o i)
def bU (K k:Nat) (c:Nat->List PV):Prop:=(∀i,i < k->c i=[.rs 6 (pn c i) (pg c i)]/\isPL K (pn c i) (pg c i))/\k<=140737488355328
def cX (l:Nat) (o:Nat->List PV):Prop:=(∀i,i < l->o i=ag (ow o i))/\l<=140737488355328
def bM (e:Nat->Int):Nat->Nat->Int
 |0,_=>0
 |n+1,i=>bif e i==0 then bM e n (i+1) else e i
def b9 (n:Nat->Nat):Nat->Nat
 |0=>0
 |k+1=>b9 n k+n k
def dz (q:Int×Int×Int):Bool:=decide (q.1 < 0)||decide (q.2.1 < 0)||decide (q.2.2 < 0)
def bX (lo hi:PtS) (k:Nat) (n:Nat->Nat) (p:Nat->Nat->PtS) (l:Nat) (q:Nat->Int×Int×Int):Int :=
 bif !ai lo||!ai hi then 1 else bif decide (32 < k) then 4 else bif !(bM (λi=>bk (n i) (p i)) k 0==0) then bM (λi=>bk (n i) (p i)) k 0
 else bif decide (396 < b9 n k) then 4 else bif !decide (l=k) then 9 else bif aA (λi=>dz (q i)) l then 2 else 0
end Go.Num
namespace Go.Proofs
def GP:List PV->Option Ans
 |[.agg [.val (.bool s1),.val (.string b1),.val (.string c1),.val (.bool s2),.val (.string b2),.val (.string c2),.val (.bool s3),.val (.string b3),.val (.string c3),.val (.bool s4),.val (.string b4),.val (.string c4),.rs 1 k c,.rs 3 l o]]=>some ⟨some ((PtS.le 4294967296 (PtS.mk ⟨s1,b1,c1⟩ ⟨s2,b2,c2⟩)/\PtS.le 4294967296 (PtS.mk ⟨s3,b3,c3⟩ ⟨s4,b4,c4⟩))/\bU 10000 k c/\cX l o),.val (.int .i64 (bX (PtS.mk ⟨s1,b1,c1⟩ ⟨s2,b2,c2⟩) (PtS.mk ⟨s3,b3,c3⟩ ⟨s4,b4,c4⟩) k (pn c) (λi=>ab (pg c i)) l (ow o))),[]⟩
 |_=>none
def D89:Opt:={ join:=ez [1] }
theorem HC:am D89.toOrd Tryz.f89 1=true:=by kernel_rfl
theorem f89:FnOk Tryz.prog 89 GP:=by
 refine FnOk.ofW aj (an (l:=[(67,Bn),(124,AA)]) (own:=[]) (inl:=[]) (by simp [f67,f124]) (by simp)) Tryz.func89 D89 1 HC λargs r e=>?_;unfold GP at e;split at e
 ·rename_i s1 b1 c1 s2 b2 c2 s3 b3 c3 s4 b4 c4 k c l o
  cases e;refine⟨by simp,λhm=>?_⟩;obtain⟨⟨hlo,hhi⟩,⟨hc,hk⟩,ho,hl⟩:=hm _ rfl;obtain⟨lo,hlo'⟩:∃p,p=(PtS.mk ⟨s1,b1,c1⟩ ⟨s2,b2,c2⟩):=⟨_,rfl⟩;obtain⟨hi,hhi'⟩:∃p,p=(PtS.mk ⟨s3,b3,c3⟩ ⟨s4,b4,c4⟩):=⟨_,rfl⟩;have hc1:∀i,i < k->[.rs 6 (pn c i) (pg c i)]=c i:=λi hi=>(hc i hi).1.symm;have ho1:∀i,i < l->ag (ow o i)=o i:=λi hi=>(ho i hi).symm;refine⟨[],aa [(0,.agg [.val (.bool (PtS.mk ⟨s1,b1,c1⟩ ⟨s2,b2,c2⟩).x.s),.val (.string (PtS.mk ⟨s1,b1,c1⟩ ⟨s2,b2,c2⟩).x.b),.val (.string (PtS.mk ⟨s1,b1,c1⟩ ⟨s2,b2,c2⟩).x.c),.val (.bool (PtS.mk ⟨s1,b1,c1⟩ ⟨s2,b2,c2⟩).y.s),.val (.string (PtS.mk ⟨s1,b1,c1⟩ ⟨s2,b2,c2⟩).y.b),.val (.string (PtS.mk ⟨s1,b1,c1⟩ ⟨s2,b2,c2⟩).y.c),.val (.bool (PtS.mk ⟨s3,b3,c3⟩ ⟨s4,b4,c4⟩).x.s),.val (.string (PtS.mk ⟨s3,b3,c3⟩ ⟨s4,b4,c4⟩).x.b),.val (.string (PtS.mk ⟨s3,b3,c3⟩ ⟨s4,b4,c4⟩).x.c),.val (.bool (PtS.mk ⟨s3,b3,c3⟩ ⟨s4,b4,c4⟩).y.s),.val (.string (PtS.mk ⟨s3,b3,c3⟩ ⟨s4,b4,c4⟩).y.b),.val (.string (PtS.mk ⟨s3,b3,c3⟩ ⟨s4,b4,c4⟩).y.c),.rs 1 k (λi=>[.rs 6 (pn c i) (pg c i)]),.rs 3 l (λi=>ag (ow o i))])] [] 0 [],Wo trivial ⟨⟨rfl,rfl,rfl,rfl,rfl,rfl,rfl,rfl,rfl,rfl,rfl,rfl,⟨rfl,rfl,hc1⟩,⟨rfl,rfl,ho1⟩,qQ⟩,qQ⟩ trivial,?_⟩;rw [<-hlo'] at hlo ⊢;rw [<-hhi'] at hhi ⊢;clear hlo' hhi' hm;have hlo5:=hlo;have hno:∀b:Bool,(bY b != 0)=true->b=false:=λb h=>by cases b<;>first|rfl|cases h
  have hyes:∀b:Bool,(bY b != 0)=false->b=true:=λb h=>by cases b<;>first|rfl|cases h
  obtain⟨R,hR⟩:∃R,R=bX lo hi k (pn c) (λi=>ab (pg c i)) l (ow o):=⟨_,rfl⟩;rw [<-hR];have v1:(!ai lo||!ai hi)=true->PV.val (.int .i64 1)=PV.val (.int .i64 R):=λh=>by
   rw [hR];unfold bX;rw [h];rfl
  have n1:ai lo=false->(!ai lo||!ai hi)=true:=λh=>by rw [h];rfl
  have n2:ai hi=false->(!ai lo||!ai hi)=true:=λh=>by rw [h,Bool.not_false,Bool.or_true]
  have n3:ai lo=true->ai hi=true->(!ai lo||!ai hi)=false:=λh h'=>by rw [h,h'];rfl
  with_unfolding_all refine⟨Unit,λ_=>(!ai lo||!ai hi)=false,λ_=>aa [(1,.ptr 0 0 0 0)] [⟨31,14,0,true,false,1,λ_=>[.val (.bool lo.x.s),.val (.string lo.x.b),.val (.string lo.x.c),.val (.bool lo.y.s),.val (.string lo.y.b),.val (.string lo.y.c),.val (.bool hi.x.s),.val (.string hi.x.b),.val (.string hi.x.c),.val (.bool hi.y.s),.val (.string hi.y.b),.val (.string hi.y.c),.rs 1 k (λi=>[.rs 6 (pn c i) (pg c i)]),.rs 3 l (λi=>ag (ow o i))]⟩] 1 [],?_,λ_ h1=>?_⟩
  ·with_unfolding_all refine⟨⟨lo,rfl,hlo⟩,λh1=>⟨⟨hi,rfl,hhi⟩,λh2=>⟨[],aa [(2,.val (.int .i64 (R)))] [] 0 [],Wo trivial ⟨v1 (n2 (hno _ h2)),qQ⟩ trivial,rfl,rfl⟩,λh2=>⟨(),[some 0],n3 (hyes _ h1) (hyes _ h2),Wo ⟨qZ ⟨rq,rq,rq,rq,rq,rq,rq,rq,rq,rq,rq,rq,⟨qW,rfl⟩,⟨qW,rfl⟩,qQ⟩,qQ⟩ ⟨pP,qQ⟩ trivial⟩⟩,λh1=>⟨λh2=>⟨[],aa [(2,.val (.int .i64 (R)))] [] 0 [],Wo trivial ⟨v1 (n1 (hno _ h1)),qQ⟩ trivial,rfl,rfl⟩,λh2=>(nomatch h2)⟩⟩
  ·have h1:(!ai lo||!ai hi)=false:=h1;with_unfolding_all refine⟨λh2=>⟨[],aa [(2,.val (.int .i64 (R)))] [] 0 [],Wo trivial ⟨?_,qQ⟩ trivial,rfl,rfl⟩,λh2=>?_⟩
   ·have h2:(k:Int) > 32:=of_decide_eq_true h2;rw [hR];unfold bX;rw [h1,decide_eq_true (show 32 < k by omega)];rfl
   ·have h2:¬(k:Int) > 32:=of_decide_eq_false h2;have hk32:k<=32:=by omega
    have e2:R=bif !(bM (λi=>bk (pn c i) (ab (pg c i))) k 0==0) then bM (λi=>bk (pn c i) (ab (pg c i))) k 0 else bif decide (396 < b9 (pn c) k) then 4 else bif !decide (l=k) then 9 else bif aA (λi=>dz (ow o i)) l then 2 else 0:=by
     rw [hR];unfold bX;rw [h1,decide_eq_false (show ¬32 < k by omega)];rfl
    clear hR;obtain⟨F,hF⟩:∃F,F=bM (λi=>bk (pn c i) (ab (pg c i))) k 0:=⟨_,rfl⟩;rw [<-hF] at e2;with_unfolding_all refine⟨Nat,λi=>i<=k/\bM (λi=>bk (pn c i) (ab (pg c i))) (k - i) i=F/\b9 (pn c) i<=64*i,λi=>aa [(1,.ptr 0 0 0 0),(3,.val (.int .i64 (b9 (pn c) i:Nat))),(26,.rs 1 k (λi=>[.rs 6 (pn c i) (pg c i)])),(27,.val (goInt k)),(28,.val (goInt i))] [⟨31,14,0,true,false,1,λ_=>[.val (.bool lo.x.s),.val (.string lo.x.b),.val (.string lo.x.c),.val (.bool lo.y.s),.val (.string lo.y.b),.val (.string lo.y.c),.val (.bool hi.x.s),.val (.string hi.x.b),.val (.string hi.x.c),.val (.bool hi.y.s),.val (.string hi.y.b),.val (.string hi.y.c),.rs 1 k (λi=>[.rs 6 (pn c i) (pg c i)]),.rs 3 l (λi=>ag (ow o i))]⟩] 1 [],λi=>k - i,⟨0,[some 0],⟨Nat.zero_le _,hF.symm,Nat.le_refl _⟩,Wo ⟨qZ ⟨rq,rq,rq,rq,rq,rq,rq,rq,rq,rq,rq,rq,⟨qW,rfl⟩,⟨qW,rfl⟩,qQ⟩,qQ⟩ ⟨pP,rfl,qW,rfl,rfl,qQ⟩ trivial⟩,λi hi=>?_⟩
    obtain⟨hik,hFi,hsum⟩:i<=k/\bM (λi=>bk (pn c i) (ab (pg c i))) (k - i) i=F/\b9 (pn c) i<=64*i:=hi;with_unfolding_all refine⟨λh3=>?_,λh3=>?_⟩
    ·have h3:(i:Int) < k:=bL h3;have ei:(i:Int).toNat=i:=Int.toNat_natCast i;have hpl:=(hc i (by omega)).2;have hst:bM (λi=>bk (pn c i) (ab (pg c i))) (k - i) i=bif bk (pn c i) (ab (pg c i))==0 then bM (λi=>bk (pn c i) (ab (pg c i))) (k - (i+1)) (i+1) else bk (pn c i) (ab (pg c i)):=by
      rw [show k - i=(k - (i+1))+1 by omega];rfl
     have g1:∀j:Nat,j=i->isPL 10000 (pn c j) (pg c j):=λj hj=>by rw [hj];exact hpl
     have g2:∀j:Nat,j=i->(bk (pn c j) (ab (pg c j)) != 0)=true->PV.val (.int .i64 (bk (pn c j) (ab (pg c j))))=PV.val (.int .i64 R):=λj hj h=>by
      rw [hj] at h ⊢;have h':(bk (pn c i) (ab (pg c i))==0)=false:=by simpa using h
      rw [h',cond_false,hFi] at hst;have h'':(F==0)=false:=by rw [hst];exact h'
      rw [e2,h'',hst];rfl
     have g3:∀j:Nat,j=i->(bk (pn c j) (ab (pg c j)) != 0)=false->bM (λi=>bk (pn c i) (ab (pg c i))) (k - (i+1)) (i+1)=F/\pn c i<=64:=λj hj h=>by
      rw [hj] at h;have h':(bk (pn c i) (ab (pg c i))==0)=true:=by simpa using h
      rw [h',cond_true] at hst;refine⟨by rw [<-hst];exact hFi,?_⟩;have h0:bk (pn c i) (ab (pg c i))=0:=eq_of_beq h';unfold bk at h0;cases hb:(decide (pn c i < 3)||decide (64 < pn c i)) with
      |true=>rw [hb] at h0;cases h0
      |false =>
       rw [Bool.or_eq_false_iff] at hb;have:=of_decide_eq_false hb.2;omega
     have g4:∀j:Nat,j=i->pn c i<=64->PV.val (.int .i64 (IntKind.i64.wrap ((b9 (pn c) i:Nat)+(pn c j:Nat))))=PV.val (.int .i64 (b9 (pn c) (i+1):Nat)):=λj hj h=>by
      rw [hj,wrap64 (by omega) (by omega)];rfl
     have wi:PV.val (.int .i64 (IntKind.i64.wrap ((i:Int)+1)))=PV.val (.int .i64 ((i+1:Nat):Int)):=by
      rw [wrap64 (by omega) (by omega)];rfl
     with_unfolding_all refine⟨⟨by omega,by omega⟩,g1 _ ei,λh4=>⟨[],aa [(2,.val (.int .i64 (R)))] [] 0 [],Wo trivial ⟨g2 _ ei h4,qQ⟩ trivial,rfl,rfl⟩,λh4=>⟨i+1,[some 0],⟨by omega,(g3 _ ei h4).1,?_⟩,by show k - (i+1) < k - i;omega,Wo ⟨qZ ⟨rq,rq,rq,rq,rq,rq,rq,rq,rq,rq,rq,rq,⟨qW,rfl⟩,⟨qW,rfl⟩,qQ⟩,qQ⟩ ⟨pP,g4 _ ei (g3 _ ei h4).2,qW,rfl,wi,qQ⟩ trivial⟩⟩
     have h5:=(g3 _ ei h4).2;show b9 (pn c) i+pn c i<=64*(i+1);omega
    ·have h3:(k:Int)<=i:=dI h3;obtain rfl:i=k:=by omega
     have hF0:F=0:=by
      rw [Nat.sub_self] at hFi;exact hFi.symm
     rw [hF0] at e2;have e3:R=bif decide (396 < b9 (pn c) i) then 4 else bif !decide (l=i) then 9 else bif aA (λi=>dz (ow o i)) l then 2 else 0:=e2;clear e2 hF hFi;with_unfolding_all refine⟨λh4=>⟨[],aa [(2,.val (.int .i64 (R)))] [] 0 [],Wo trivial ⟨?_,qQ⟩ trivial,rfl,rfl⟩,λh4=>⟨λh5=>⟨[],aa [(2,.val (.int .i64 (R)))] [] 0 [],Wo trivial ⟨?_,qQ⟩ trivial,rfl,rfl⟩,λh5=>?_⟩⟩
     ·have h4:((b9 (pn c) i:Nat):Int) > 396:=of_decide_eq_true h4;rw [e3,decide_eq_true (show 396 < b9 (pn c) i by omega)];rfl
     ·have h4:¬((b9 (pn c) i:Nat):Int) > 396:=of_decide_eq_false h4;have h5:¬l=i:=by
       have h5:(!((l:Int)==(i:Int)))=true:=h5;intro e;rw [e,beq_self_eq_true] at h5;cases h5
      rw [e3,decide_eq_false (show ¬396 < b9 (pn c) i by omega),decide_eq_false h5];rfl
     ·have h4:¬((b9 (pn c) i:Nat):Int) > 396:=of_decide_eq_false h4;have h5:l=i:=by
       have h5:(!((l:Int)==(i:Int)))=false:=h5;have h6:((l:Int)==(i:Int))=true:=by simpa using h5
       have:=eq_of_beq h6;omega
      have e4:R=bif aA (λi=>dz (ow o i)) l then 2 else 0:=by
       rw [e3,decide_eq_false (show ¬396 < b9 (pn c) i by omega),decide_eq_true h5];rfl
      with_unfolding_all refine⟨Nat,λj=>j<=l/\∀x,x < j->dz (ow o x)=false,λj=>aa [(52,.rs 3 l (λi=>ag (ow o i))),(53,.val (goInt l)),(54,.val (goInt j))] [] 0 [],λj=>l - j,⟨0,[],⟨Nat.zero_le _,λx hx=>absurd hx (Nat.not_lt_zero x)⟩,Wo trivial ⟨qW,rfl,rfl,qQ⟩ trivial⟩,λj hj=>?_⟩
      obtain⟨hjl,hJ⟩:j<=l/\∀x,x < j->dz (ow o x)=false:=hj;have eb:dz (ow o j)=(decide ((ow o j).1 < 0)||decide ((ow o j).2.1 < 0)||decide ((ow o j).2.2 < 0)):=rfl;have T1:decide ((ow o (j:Int).toNat).1 < 0) = !false->dz (ow o j)=true:=λh=>by
       have h:decide ((ow o j).1 < 0)=true:=h;rw [eb,h,Bool.true_or,Bool.true_or]
      have T2:decide ((ow o (j:Int).toNat).2.1 < 0) = !false->dz (ow o j)=true:=λh=>by
       have h:decide ((ow o j).2.1 < 0)=true:=h;rw [eb,h,Bool.or_true,Bool.true_or]
      have T3:decide ((ow o (j:Int).toNat).2.2 < 0)=true->dz (ow o j)=true:=λh=>by
       have h:decide ((ow o j).2.2 < 0)=true:=h;rw [eb,h,Bool.or_true]
      have rT:(j:Int) < l->dz (ow o j)=true->PV.val (.int .i64 2)=PV.val (.int .i64 R):=λh h'=>by
       rw [e4,bc.2 ⟨j,by omega,h'⟩];rfl
      have rF:(l:Int)<=j->PV.val (.int .i64 0)=PV.val (.int .i64 R):=λh=>by
       rw [e4,aF.2 λx hx=>hJ x (by omega)];rfl
      have nx:decide ((ow o (j:Int).toNat).1 < 0)=false->decide ((ow o (j:Int).toNat).2.1 < 0)=false->decide ((ow o (j:Int).toNat).2.2 < 0)=false->∀x,x < j+1->dz (ow o x)=false:=λh1 h2 h3 x hx=>by
       have h1:decide ((ow o j).1 < 0)=false:=h1;have h2:decide ((ow o j).2.1 < 0)=false:=h2;have h3:decide ((ow o j).2.2 < 0)=false:=h3;rcases Nat.lt_or_ge x j with h|h
       ·exact hJ x h
       ·obtain rfl:x=j:=by omega
        rw [eb,h1,h2,h3];rfl
      have wi:(j:Int) < l->PV.val (.int .i64 (IntKind.i64.wrap ((j:Int)+1)))=PV.val (.int .i64 ((j+1:Nat):Int)):=λh=>by
       rw [wrap64 (by omega) (by omega)];rfl
      with_unfolding_all exact⟨(λh1=>⟨⟨Int.natCast_nonneg j,(bL h1)⟩,(λh2=>⟨(λh3=>⟨(λh4=>⟨[],aa [(2,.val (.int .i64 (R)))] [] 0 [],Wo trivial ⟨rT (bL h1) (T3 h4),qQ⟩ trivial,rfl,rfl⟩),(λh4=>⟨j+1,[],⟨Int.ofNat_lt.1 (bL h1),nx (h2) (h3) (h4)⟩,by have:=bL h1;show l - (j+1) < l - j;omega,Wo trivial ⟨qW,rfl,wi (bL h1),qQ⟩ trivial⟩)⟩),(λh3=>⟨(λh4=>⟨[],aa [(2,.val (.int .i64 (R)))] [] 0 [],Wo trivial ⟨rT (bL h1) (T2 h3),qQ⟩ trivial,rfl,rfl⟩),(λh4=>nomatch h4)⟩)⟩),(λh2=>⟨(λh3=>nomatch h3),(λh3=>⟨(λh4=>⟨[],aa [(2,.val (.int .i64 (R)))] [] 0 [],Wo trivial ⟨rT (bL h1) (T1 h2),qQ⟩ trivial,rfl,rfl⟩),(λh4=>nomatch h4)⟩)⟩)⟩),(λh1=>⟨[],aa [(2,.val (.int .i64 (R)))] [] 0 [],Wo trivial ⟨rF (dI h1),qQ⟩ trivial,rfl,rfl⟩)⟩
 ·cases e
def CP:List PV->Option Ans
 |[.agg [.val (.bool s1),.val (.string b1),.val (.string c1),.val (.bool s2),.val (.string b2),.val (.string c2),.val (.bool s3),.val (.string b3),.val (.string c3),.val (.bool s4),.val (.string b4),.val (.string c4),.rs 1 k c,.rs 3 l o],.rs 6 n g]=>some ⟨some (((PtS.le 4294967296 (PtS.mk ⟨s1,b1,c1⟩ ⟨s2,b2,c2⟩)/\PtS.le 4294967296 (PtS.mk ⟨s3,b3,c3⟩ ⟨s4,b4,c4⟩))/\bU 10000 k c/\cX l o)/\isPL 4294967296 n g),.val (.bool (!aA (λi=>!ai (ab g i)) n&&(bX (PtS.mk ⟨s1,b1,c1⟩ ⟨s2,b2,c2⟩) (PtS.mk ⟨s3,b3,c3⟩ ⟨s4,b4,c4⟩) k (pn c) (λi=>ab (pg c i)) l (ow o)==0))),[]⟩
 |_=>none
theorem FF:am {} Tryz.f125 2=true:=by kernel_rfl
theorem f125:FnOk Tryz.prog 125 CP:=by
 refine FnOk.ofW aj (an (l:=[(67,Bn),(89,GP)]) (own:=[]) (inl:=[]) (by simp [f67,f89]) (by simp)) Tryz.func125 {} 2 FF λargs r e=>?_;unfold CP at e;split at e
 ·rename_i s1 b1 c1 s2 b2 c2 s3 b3 c3 s4 b4 c4 k c l o n g
  cases e;refine⟨by simp,λhm=>?_⟩;obtain⟨⟨⟨hlo,hhi⟩,⟨hc,hk⟩,ho,hl⟩,hg,hn⟩:=hm _ rfl;obtain⟨lo,hlo'⟩:∃p,p=(PtS.mk ⟨s1,b1,c1⟩ ⟨s2,b2,c2⟩):=⟨_,rfl⟩;obtain⟨hi,hhi'⟩:∃p,p=(PtS.mk ⟨s3,b3,c3⟩ ⟨s4,b4,c4⟩):=⟨_,rfl⟩;have hc1:∀i,i < k->[.rs 6 (pn c i) (pg c i)]=c i:=λi hi=>(hc i hi).1.symm;have ho1:∀i,i < l->ag (ow o i)=o i:=λi hi=>(ho i hi).symm;refine⟨[],aa [(0,.agg [.val (.bool (PtS.mk ⟨s1,b1,c1⟩ ⟨s2,b2,c2⟩).x.s),.val (.string (PtS.mk ⟨s1,b1,c1⟩ ⟨s2,b2,c2⟩).x.b),.val (.string (PtS.mk ⟨s1,b1,c1⟩ ⟨s2,b2,c2⟩).x.c),.val (.bool (PtS.mk ⟨s1,b1,c1⟩ ⟨s2,b2,c2⟩).y.s),.val (.string (PtS.mk ⟨s1,b1,c1⟩ ⟨s2,b2,c2⟩).y.b),.val (.string (PtS.mk ⟨s1,b1,c1⟩ ⟨s2,b2,c2⟩).y.c),.val (.bool (PtS.mk ⟨s3,b3,c3⟩ ⟨s4,b4,c4⟩).x.s),.val (.string (PtS.mk ⟨s3,b3,c3⟩ ⟨s4,b4,c4⟩).x.b),.val (.string (PtS.mk ⟨s3,b3,c3⟩ ⟨s4,b4,c4⟩).x.c),.val (.bool (PtS.mk ⟨s3,b3,c3⟩ ⟨s4,b4,c4⟩).y.s),.val (.string (PtS.mk ⟨s3,b3,c3⟩ ⟨s4,b4,c4⟩).y.b),.val (.string (PtS.mk ⟨s3,b3,c3⟩ ⟨s4,b4,c4⟩).y.c),.rs 1 k (λi=>[.rs 6 (pn c i) (pg c i)]),.rs 3 l (λi=>ag (ow o i))]),(1,.rs 6 n (λi=>(ab g i).cells))] [] 0 [],Wo trivial ⟨⟨rfl,rfl,rfl,rfl,rfl,rfl,rfl,rfl,rfl,rfl,rfl,rfl,⟨rfl,rfl,hc1⟩,⟨rfl,rfl,ho1⟩,qQ⟩,⟨rfl,rfl,λi hi=>(hg i hi).1.symm⟩,qQ⟩ trivial,?_⟩;rw [<-hlo'] at hlo ⊢;rw [<-hhi'] at hhi ⊢;clear hlo' hhi' hm;have hrg:(lo.le 4294967296/\hi.le 4294967296)/\bU 10000 k (λi=>[.rs 6 (pn c i) (pg c i)])/\cX l (λi=>ag (ow o i)):=⟨⟨hlo,hhi⟩,⟨λi hi=>⟨rfl,(hc i hi).2⟩,hk⟩,λi hi=>rfl,hl⟩;obtain⟨R,hR⟩:∃R,R=bX lo hi k (pn c) (λi=>ab (pg c i)) l (ow o):=⟨_,rfl⟩;rw [<-hR];have hR':bX lo hi k (pn (λi=>[.rs 6 (pn c i) (pg c i)])) (λi=>ab (pg (λi=>[.rs 6 (pn c i) (pg c i)]) i)) l (ow (λi=>ag (ow o i)))=R:=hR.symm;obtain⟨V,hV⟩:∃V,V=(!aA (λi=>!ai (ab g i)) n&&(R==0)):=⟨_,rfl⟩;rw [<-hV];have hno:∀b:Bool,(bY b != 0)=true->b=false:=λb h=>by cases b<;>first|rfl|cases h
  have hyes:∀b:Bool,(bY b != 0)=false->b=true:=λb h=>by cases b<;>first|rfl|cases h
  with_unfolding_all refine⟨Nat,λi=>i<=n/\∀j,j < i->ai (ab g j)=true,λi=>aa [(2,.ptr 0 0 0 0),(7,.rs 6 n (λi=>(ab g i).cells)),(8,.val (goInt n)),(9,.val (goInt i))] [⟨31,14,0,true,false,1,λ_=>[.val (.bool lo.x.s),.val (.string lo.x.b),.val (.string lo.x.c),.val (.bool lo.y.s),.val (.string lo.y.b),.val (.string lo.y.c),.val (.bool hi.x.s),.val (.string hi.x.b),.val (.string hi.x.c),.val (.bool hi.y.s),.val (.string hi.y.b),.val (.string hi.y.c),.rs 1 k (λi=>[.rs 6 (pn c i) (pg c i)]),.rs 3 l (λi=>ag (ow o i))]⟩] 1 [],λi=>n - i,⟨0,[some 0],⟨Nat.zero_le _,λj hj=>absurd hj (Nat.not_lt_zero j)⟩,Wo ⟨qZ ⟨rq,rq,rq,rq,rq,rq,rq,rq,rq,rq,rq,rq,⟨qW,rfl⟩,⟨qW,rfl⟩,qQ⟩,qQ⟩ ⟨pP,qW,rfl,rfl,qQ⟩ trivial⟩,λi hi=>?_⟩
  obtain⟨hin,hI⟩:i<=n/\∀j,j < i->ai (ab g j)=true:=hi;with_unfolding_all refine⟨λh1=>?_,λh1=>⟨hrg,[],aa [(4,.val (.bool V))] [] 0 [],Wo trivial ⟨?_,qQ⟩ trivial,rfl,rfl⟩⟩
  ·have h1:(i:Int) < n:=bL h1;have ei:(i:Int).toNat=i:=Int.toNat_natCast i;have hp:=(hg i (by omega)).2;rw [<-ei] at hp;with_unfolding_all refine⟨⟨by omega,by omega⟩,⟨ab g (i:Int).toNat,rfl,hp⟩,λh2=>⟨[],aa [(4,.val (.bool V))] [] 0 [],Wo trivial ⟨?_,qQ⟩ trivial,rfl,rfl⟩,λh2=>⟨i+1,[some 0],⟨by omega,?_⟩,by show n - (i+1) < n - i;omega,Wo ⟨qZ ⟨rq,rq,rq,rq,rq,rq,rq,rq,rq,rq,rq,rq,⟨qW,rfl⟩,⟨qW,rfl⟩,qQ⟩,qQ⟩ ⟨pP,qW,rfl,?_,qQ⟩ trivial⟩⟩
   ·have h2:ai (ab g (i:Int).toNat)=false:=hno _ h2;rw [ei] at h2;rw [hV,bc.2 ⟨i,by omega,by rw [h2];rfl⟩];rfl
   ·have h2:ai (ab g (i:Int).toNat)=true:=hyes _ h2;rw [ei] at h2;intro j hj;rcases Nat.lt_or_ge j i with h|h
    ·exact hI j h
    ·obtain rfl:j=i:=by omega
     exact h2
   ·show PV.val (.int .i64 (IntKind.i64.wrap ((i:Int)+1)))=PV.val (.int .i64 ((i+1:Nat):Int));rw [wrap64 (by omega) (by omega)];rfl
  ·have h1:(n:Int)<=i:=dI h1;have e1:aA (λi=>!ai (ab g i)) n=false:=aF.2 λj hj=>by rw [hI j (by omega)];rfl
   rw [hV,e1];show PV.val (.bool (bX lo hi k (pn (λi=>[.rs 6 (pn c i) (pg c i)])) (λi=>ab (pg (λi=>[.rs 6 (pn c i) (pg c i)]) i)) l (ow (λi=>ag (ow o i)))==0))=PV.val (.bool (!false&&(R==0)));rw [hR'];rfl
 ·cases e
def FG:List PV->Option Ans
 |[.agg [.val (.bool s1),.val (.string b1),.val (.string c1),.val (.bool s2),.val (.string b2),.val (.string c2),.val (.bool s3),.val (.string b3),.val (.string c3),.val (.bool s4),.val (.string b4),.val (.string c4),.rs 1 k c,.rs 3 l o],.rs 6 n g]=>some ⟨some (((PtS.le 4294967296 (PtS.mk ⟨s1,b1,c1⟩ ⟨s2,b2,c2⟩)/\PtS.le 4294967296 (PtS.mk ⟨s3,b3,c3⟩ ⟨s4,b4,c4⟩))/\bU 10000 k c/\cX l o)/\isPL 4294967296 n g),.val (.int .i64 (bY ((bX (PtS.mk ⟨s1,b1,c1⟩ ⟨s2,b2,c2⟩) (PtS.mk ⟨s3,b3,c3⟩ ⟨s4,b4,c4⟩) k (pn c) (λi=>ab (pg c i)) l (ow o)==0)&&!aA (λi=>!ai (ab g i)) n))),[]⟩
 |_=>none
theorem HD:am {} Tryz.f55 2=true:=by kernel_rfl
theorem f55:FnOk Tryz.prog 55 FG:=by
 refine FnOk.ofW aj (an (l:=[(65,tU),(89,GP)]) (own:=[]) (inl:=[]) (by simp [CK,f89]) (by simp)) Tryz.func55 {} 2 HD λargs r e=>?_;unfold FG at e;split at e
 ·rename_i s1 b1 c1 s2 b2 c2 s3 b3 c3 s4 b4 c4 k c l o n g
  cases e;refine⟨by simp,λhm=>?_⟩;obtain⟨⟨⟨hlo,hhi⟩,⟨hc,hk⟩,ho,hl⟩,hg,hn⟩:=hm _ rfl;obtain⟨lo,hlo'⟩:∃p,p=(PtS.mk ⟨s1,b1,c1⟩ ⟨s2,b2,c2⟩):=⟨_,rfl⟩;obtain⟨hi,hhi'⟩:∃p,p=(PtS.mk ⟨s3,b3,c3⟩ ⟨s4,b4,c4⟩):=⟨_,rfl⟩;have hc1:∀i,i < k->[.rs 6 (pn c i) (pg c i)]=c i:=λi hi=>(hc i hi).1.symm;have ho1:∀i,i < l->ag (ow o i)=o i:=λi hi=>(ho i hi).symm;refine⟨[],aa [(0,.agg [.val (.bool (PtS.mk ⟨s1,b1,c1⟩ ⟨s2,b2,c2⟩).x.s),.val (.string (PtS.mk ⟨s1,b1,c1⟩ ⟨s2,b2,c2⟩).x.b),.val (.string (PtS.mk ⟨s1,b1,c1⟩ ⟨s2,b2,c2⟩).x.c),.val (.bool (PtS.mk ⟨s1,b1,c1⟩ ⟨s2,b2,c2⟩).y.s),.val (.string (PtS.mk ⟨s1,b1,c1⟩ ⟨s2,b2,c2⟩).y.b),.val (.string (PtS.mk ⟨s1,b1,c1⟩ ⟨s2,b2,c2⟩).y.c),.val (.bool (PtS.mk ⟨s3,b3,c3⟩ ⟨s4,b4,c4⟩).x.s),.val (.string (PtS.mk ⟨s3,b3,c3⟩ ⟨s4,b4,c4⟩).x.b),.val (.string (PtS.mk ⟨s3,b3,c3⟩ ⟨s4,b4,c4⟩).x.c),.val (.bool (PtS.mk ⟨s3,b3,c3⟩ ⟨s4,b4,c4⟩).y.s),.val (.string (PtS.mk ⟨s3,b3,c3⟩ ⟨s4,b4,c4⟩).y.b),.val (.string (PtS.mk ⟨s3,b3,c3⟩ ⟨s4,b4,c4⟩).y.c),.rs 1 k (λi=>[.rs 6 (pn c i) (pg c i)]),.rs 3 l (λi=>ag (ow o i))]),(1,.rs 6 n g)] [] 0 [],Wo trivial ⟨⟨rfl,rfl,rfl,rfl,rfl,rfl,rfl,rfl,rfl,rfl,rfl,rfl,⟨rfl,rfl,hc1⟩,⟨rfl,rfl,ho1⟩,qQ⟩,⟨rfl,rfl,λi hi=>rfl⟩,qQ⟩ trivial,?_⟩;rw [<-hlo'] at hlo ⊢;rw [<-hhi'] at hhi ⊢;clear hlo' hhi' hm;have hrg:(lo.le 4294967296/\hi.le 4294967296)/\bU 10000 k (λi=>[.rs 6 (pn c i) (pg c i)])/\cX l (λi=>ag (ow o i)):=⟨⟨hlo,hhi⟩,⟨λi hi=>⟨rfl,(hc i hi).2⟩,hk⟩,λi hi=>rfl,hl⟩;obtain⟨R,hR⟩:∃R,R=bX lo hi k (pn c) (λi=>ab (pg c i)) l (ow o):=⟨_,rfl⟩;rw [<-hR];have hR':bX lo hi k (pn (λi=>[.rs 6 (pn c i) (pg c i)])) (λi=>ab (pg (λi=>[.rs 6 (pn c i) (pg c i)]) i)) l (ow (λi=>ag (ow o i)))=R:=hR.symm;have hpl:isPL 4294967296 n g:=⟨hg,hn⟩;obtain⟨V,hV⟩:∃V,V=bY ((R==0)&&!aA (λi=>!ai (ab g i)) n):=⟨_,rfl⟩;rw [<-hV];have n1:(bX lo hi k (pn (λi=>[.rs 6 (pn c i) (pg c i)])) (λi=>ab (pg (λi=>[.rs 6 (pn c i) (pg c i)]) i)) l (ow (λi=>ag (ow o i))) != 0)=true->PV.val (.int .i64 1)=PV.val (.int .i64 V):=λh=>by
   rw [hR'] at h;have h:(R==0)=false:=by simpa using h
   rw [hV,h];rfl
  have n2:aA (λi=>!ai (ab g i)) n=true->PV.val (.int .i64 1)=PV.val (.int .i64 V):=λh=>by
   rw [hV,h,Bool.not_true,Bool.and_false];rfl
  have n3:(bX lo hi k (pn (λi=>[.rs 6 (pn c i) (pg c i)])) (λi=>ab (pg (λi=>[.rs 6 (pn c i) (pg c i)]) i)) l (ow (λi=>ag (ow o i))) != 0)=false->aA (λi=>!ai (ab g i)) n=false->PV.val (.int .i64 0)=PV.val (.int .i64 V):=λh h'=>by
   rw [hR'] at h;have h:(R==0)=true:=by simpa using h
   rw [hV,h,h'];rfl
  with_unfolding_all refine⟨hrg,λh1=>⟨hpl,λh2=>⟨[],aa [(4,.val (.int .i64 V))] [] 0 [],Wo trivial ⟨?_,qQ⟩ trivial,rfl,rfl⟩,λh2=>⟨[],aa [(4,.val (.int .i64 V))] [] 0 [],Wo trivial ⟨?_,qQ⟩ trivial,rfl,rfl⟩⟩,λh1=>⟨λh2=>⟨[],aa [(4,.val (.int .i64 V))] [] 0 [],Wo trivial ⟨?_,qQ⟩ trivial,rfl,rfl⟩,λh2=>(nomatch h2)⟩⟩
  ·exact n2 h2
  ·exact n3 h1 h2
  ·exact n1 h1
 ·cases e
end Go.Proofs
namespace Go.Num
def eqQ (x y:Int×Int):Bool:=x.1==y.1&&(x.2==y.2&&true)
theorem ve {x y:Int×Int}:eqQ x y=true↔x=y:=by
 obtain⟨a,b⟩:=x;obtain⟨c,d⟩:=y;simp [eqQ]
end Go.Num
namespace Go.Proofs
def HE:List PV->Option Ans
 |[.rs 2 m h,.val (.agg ⟨[.int .i64 a,.int .i64 b]⟩)]=>some ⟨some (kv m h),.val (.int .i64 (cW (λi=>eqQ (a,b) (eE h i)) m 0)),[]⟩
 |_=>none
theorem HF:am {} Tryz.f70 2=true:=by kernel_rfl
theorem f70:FnOk Tryz.prog 70 HE:=by
 refine FnOk.ofW aj (an (l:=[]) (own:=[]) (inl:=[]) (by simp) (by simp)) Tryz.func70 {} 2 HF λargs r e=>?_;unfold HE at e;split at e
 ·rename_i n h a b
  cases e;refine⟨by simp,λhm=>?_⟩;obtain⟨hq,hn⟩:=hm _ rfl;refine⟨[],aa [(0,.rs 2 n (λi=>aD (eE h i))),(1,.val (.agg ⟨[.int .i64 a,.int .i64 b]⟩))] [] 0 [],Wo trivial ⟨⟨rfl,rfl,λi hi=>(hq i hi).symm⟩,rfl,qQ⟩ trivial,?_⟩;generalize eE h=q at *
  obtain⟨X,hX⟩:∃X,X=cW (λi=>eqQ (a,b) (q i)) n 0:=⟨_,rfl⟩;rw [<-hX];with_unfolding_all refine⟨Nat,λi=>i<=n/\cW (λi=>eqQ (a,b) (q i)) (n - i) i=X,λi=>aa [(0,.rs 2 n (λi=>aD (q i))),(3,.ptr 0 0 0 0),(7,.val (goInt n)),(8,.val (goInt i))] [⟨46,2,0,true,false,1,λ_=>[.val (.int .i64 a),.val (.int .i64 b)]⟩] 1 [],λi=>n - i,⟨0,[some 0],⟨Nat.zero_le _,hX.symm⟩,Wo ⟨qJ,qQ⟩ ⟨qW,pP,rfl,rfl,qQ⟩ trivial⟩,λi hi=>?_⟩
  obtain⟨hin,hI⟩:i<=n/\cW (λi=>eqQ (a,b) (q i)) (n - i) i=X:=hi;with_unfolding_all refine⟨λh=>?_,λh=>⟨[],aa [(4,.val (.int .i64 X))] [] 0 [],Wo trivial ⟨?_,qQ⟩ trivial,rfl,rfl⟩⟩
  ·have h:(i:Int) < n:=bL h;have e:(i:Int).toNat=i:=Int.toNat_natCast i;have hstep:cW (λi=>eqQ (a,b) (q i)) (n - i) i=bif eqQ (a,b) (q i) then(i:Int) else cW (λi=>eqQ (a,b) (q i)) (n - (i+1)) (i+1):=by
    rw [show n - i=(n - (i+1))+1 by omega];rfl
   with_unfolding_all refine⟨⟨by omega,by omega⟩,λh'=>⟨[],aa [(4,.val (.int .i64 X))] [] 0 [],Wo trivial ⟨?_,qQ⟩ trivial,rfl,rfl⟩,λh'=>⟨i+1,[some 0],⟨by omega,?_⟩,by show n - (i+1) < n - i;omega,Wo ⟨qJ,qQ⟩ ⟨qW,pP,rfl,?_,qQ⟩ trivial⟩⟩
   ·have h':eqQ (a,b) (q (i:Int).toNat)=true:=h';rw [e] at h';rw [h',cond_true] at hstep;exact congrArg (λz=>PV.val (.int .i64 z)) (hstep.symm.trans hI)
   ·have h':eqQ (a,b) (q (i:Int).toNat)=false:=h';rw [e] at h';rw [h',cond_false] at hstep;exact hstep.symm.trans hI
   ·show PV.val (.int .i64 (IntKind.i64.wrap ((i:Int)+1)))=PV.val (.int .i64 ((i+1:Nat):Int));rw [wrap64 (by omega) (by omega)];rfl
  ·have h:(n:Int)<=i:=dI h;rw [show n - i=0 by omega] at hI;exact congrArg (λz=>PV.val (.int .i64 z)) hI
 ·cases e
def HG:List PV->Option Ans
 |[.rs 2 m h,.val (.agg ⟨[.int .i64 a,.int .i64 b]⟩)]=>some ⟨some (kv m h),.val (.bool (aA (λi=>eqQ (a,b) (eE h i)) m)),[]⟩
 |_=>none
theorem HH:am {} Tryz.f20 2=true:=by kernel_rfl
theorem f20:FnOk Tryz.prog 20 HG:=by
 refine FnOk.ofW aj (an (l:=[(70,HE)]) (own:=[]) (inl:=[]) (by simp [f70]) (by simp)) Tryz.func20 {} 2 HH λargs r e=>?_;unfold HG at e;split at e
 ·rename_i n h a b
  cases e;refine⟨by simp,λhm=>?_⟩;have hq:=hm _ rfl;refine⟨[],aa [(0,.rs 2 n h),(1,.val (.agg ⟨[.int .i64 a,.int .i64 b]⟩))] [] 0 [],Wo trivial ⟨⟨rfl,rfl,λi hi=>rfl⟩,rfl,qQ⟩ trivial,?_⟩;with_unfolding_all refine⟨hq,[],aa [(4,.val (.bool (aA (λi=>eqQ (a,b) (eE h i)) n)))] [] 0 [],Wo trivial ⟨?_,qQ⟩ trivial,rfl,rfl⟩
  exact congrArg (λz=>PV.val (.bool z)) (dZ _ _)
 ·cases e
def HI:List PV->Option Ans
 |[.val (.int .i64 a),.val (.int .i64 b)]=>some ⟨none,.val (.agg ⟨[.int .i64 a,.int .i64 b]⟩),[]⟩
 |_=>none
theorem HJ:am {} Tryz.f54 2=true:=by kernel_rfl
theorem f54:FnOk Tryz.prog 54 HI:=by
 refine FnOk.ofW aj (an (l:=[]) (own:=[]) (inl:=[]) (by simp) (by simp)) Tryz.func54 {} 2 HJ λargs r e=>?_;unfold HI at e;split at e
 ·rename_i a b
  cases e;refine⟨by simp,λhm=>?_⟩;refine⟨[],aa [(0,.val (.int .i64 a)),(1,.val (.int .i64 b))] [] 0 [],Wo trivial ⟨rfl,rfl,qQ⟩ trivial,?_⟩;with_unfolding_all exact⟨[some 0],aa [(4,.ptr 0 0 0 0)] [⟨46,2,0,true,false,1,λ_=>[.val (.int .i64 a),.val (.int .i64 b)]⟩] 1 [],Wo ⟨qJ,qQ⟩ ⟨pP,qQ⟩ trivial,rfl,rfl⟩
 ·cases e
def HK:List PV->Option Ans
 |[.rs 2 n g,.rs 2 m h]=>some ⟨some (kv n g/\kv m h),.val (.bool (decide (n=m)&&!aA (λi=>!eqQ (eE g i) (eE h i)) n)),[]⟩
 |_=>none
theorem HL:am {} Tryz.f44 2=true:=by kernel_rfl
theorem f44:FnOk Tryz.prog 44 HK:=by
 refine FnOk.ofW aj (an (l:=[]) (own:=[]) (inl:=[]) (by simp) (by simp)) Tryz.func44 {} 2 HL λargs r e=>?_;unfold HK at e;split at e
 ·rename_i n g m h
  cases e;refine⟨by simp,λhm=>?_⟩;obtain⟨⟨hp,hn⟩,hq,hmm⟩:=hm _ rfl;refine⟨[],aa [(0,.rs 2 n (λi=>aD (eE g i))),(1,.rs 2 m (λi=>aD (eE h i)))] [] 0 [],Wo trivial ⟨⟨rfl,rfl,λi hi=>(hp i hi).symm⟩,⟨rfl,rfl,λi hi=>(hq i hi).symm⟩,qQ⟩ trivial,?_⟩;generalize eE g=p at *
  generalize eE h=q at *
  obtain⟨X,hX⟩:∃X,X=(decide (n=m)&&!aA (λi=>!eqQ (p i) (q i)) n):=⟨_,rfl⟩;rw [<-hX];have v0:(!((n:Int)==(m:Int)))=true->PV.val (.bool false)=PV.val (.bool X):=λh=>by
   have h1:¬n=m:=λe=>by rw [e,beq_self_eq_true] at h;cases h
   rw [hX,decide_eq_false h1];rfl
  have v1:(!((n:Int)==(m:Int)))=false->n=m:=λh=>by
   have h6:((n:Int)==(m:Int))=true:=by simpa using h
   have:=eq_of_beq h6;omega
  with_unfolding_all refine⟨λh1=>⟨[],aa [(4,.val (.bool X))] [] 0 [],Wo trivial ⟨v0 h1,qQ⟩ trivial,rfl,rfl⟩,λh1=>⟨Nat,λi=>i<=n/\∀j,j < i->eqQ (p j) (q j)=true,λi=>aa [(0,.rs 2 n (λi=>aD (p i))),(1,.rs 2 m (λi=>aD (q i))),(12,.val (goInt n)),(13,.val (goInt i))] [] 0 [],λi=>n - i,⟨0,[],⟨Nat.zero_le _,λj hj=>absurd hj (Nat.not_lt_zero j)⟩,Wo trivial ⟨qW,qW,rfl,rfl,qQ⟩ trivial⟩,λi hi=>?_⟩⟩
  have hnm:=v1 h1;obtain⟨hin,hI⟩:i<=n/\∀j,j < i->eqQ (p j) (q j)=true:=hi;with_unfolding_all refine⟨λh2=>?_,λh2=>⟨[],aa [(4,.val (.bool X))] [] 0 [],Wo trivial ⟨?_,qQ⟩ trivial,rfl,rfl⟩⟩
  ·have h2:(i:Int) < n:=bL h2;have e:(i:Int).toNat=i:=Int.toNat_natCast i;with_unfolding_all refine⟨⟨by omega,by omega⟩,⟨by omega,by omega⟩,λh3=>⟨[],aa [(4,.val (.bool X))] [] 0 [],Wo trivial ⟨?_,qQ⟩ trivial,rfl,rfl⟩,λh3=>⟨i+1,[],⟨by omega,?_⟩,by show n - (i+1) < n - i;omega,Wo trivial ⟨qW,qW,rfl,?_,qQ⟩ trivial⟩⟩
   ·have h3:(!eqQ (p (i:Int).toNat) (q (i:Int).toNat))=true:=h3;rw [e] at h3;show PV.val (.bool false)=PV.val (.bool X);rw [hX,bc.2 ⟨i,by omega,h3⟩,Bool.not_true,Bool.and_false]
   ·have h3:(!eqQ (p (i:Int).toNat) (q (i:Int).toNat))=false:=h3;rw [e] at h3;intro j hj;rcases Nat.lt_or_ge j i with h|h
    ·exact hI j h
    ·obtain rfl:j=i:=by omega
     simpa using h3
   ·show PV.val (.int .i64 (IntKind.i64.wrap ((i:Int)+1)))=PV.val (.int .i64 ((i+1:Nat):Int));rw [wrap64 (by omega) (by omega)];rfl
  ·have h2:(n:Int)<=i:=dI h2;show PV.val (.bool true)=PV.val (.bool X);rw [hX,decide_eq_true hnm,aF.2 λj hj=>by rw [hI j (by omega)];rfl];rfl
 ·cases e
end Go.Proofs
namespace Go.Num
def bz (q:Rat) (st:Nat):Blk:=⟨23,3,st,true,false,1,λ_=>(bx q).cells⟩
def ar (a b:PtS):Value:=.agg ⟨[.bool a.x.s,.string a.x.b,.string a.x.c,.bool a.y.s,.string a.y.b,.string a.y.c,.bool b.x.s,.string b.x.b,.string b.x.c,.bool b.y.s,.string b.y.b,.string b.y.c]⟩
def kw (a b:PtS):List PV:=[.val (.bool a.x.s),.val (.string a.x.b),.val (.string a.x.c),.val (.bool a.y.s),.val (.string a.y.b),.val (.string a.y.c),.val (.bool b.x.s),.val (.string b.x.b),.val (.string b.x.c),.val (.bool b.y.s),.val (.string b.y.b),.val (.string b.y.c)]
def aM:Value->PtS×PtS
 |.agg ⟨[.bool s1,.string b1,.string c1,.bool s2,.string b2,.string c2,.bool s3,.string b3,.string c3,.bool s4,.string b4,.string c4]⟩=>(⟨⟨s1,b1,c1⟩,⟨s2,b2,c2⟩⟩,⟨⟨s3,b3,c3⟩,⟨s4,b4,c4⟩⟩)
 |_=>(pv 0 0,pv 0 0)
def dQ (K:Nat) (v:Value):Prop:=∃a b,v=ar a b/\PtS.le K a/\PtS.le K b
def aL (i:Nat) (lo hi p:PtS):Rat:=match i with
 |0=>lo.X - p.X
 |1=>p.X - hi.X
 |2=>lo.Y - p.Y
 |_=>p.Y - hi.Y
end Go.Num
namespace Go.Proofs
def CQ:List PV->Option Ans
 |[.val v,.val u]=>some ⟨some (dQ 4294967296 v/\isPk 4294967296 u),.val (aw (aL 0 (aM v).1 (aM v).2 (aN u))),[]⟩
 |_=>none
theorem FH:am {} Tryz.f208 2=true:=by kernel_rfl
theorem f208:FnOk Tryz.prog 208 CQ:=by
 refine FnOk.ofW aj (an (l:=[(115,m8)]) (own:=[]) (inl:=[]) (by simp [f115]) (by simp)) Tryz.func208 {} 2 FH λargs r e=>?_;unfold CQ at e;split at e
 ·rename_i v u
  cases e;refine⟨by simp,λhm=>?_⟩;obtain⟨⟨lo,hi,rfl,hlo,hhi⟩,p,rfl,hp⟩:=hm _ rfl;refine⟨[],aa [(0,.val (ar lo hi)),(1,.val p.v)] [] 0 [],Wo trivial ⟨rfl,rfl,qQ⟩ trivial,?_⟩;have hr:=And.intro (cv hlo (Nat.le_refl _)) (cv hp (Nat.le_refl _));obtain⟨F,hF⟩:∃F,F=lo.X - p.X:=⟨_,rfl⟩;have hv:PV.val (aw (aL 0 (aM (ar lo hi)).1 (aM (ar lo hi)).2 (aN p.v)))=PV.val (aw F):=by rw [hF];rfl
  rw [hv];with_unfolding_all refine⟨hr,[some 2],aa [(4,.ptr 0 0 0 0)] [bz F 0] 1 [],Wo ⟨qZ ⟨⟨?_,rfl⟩,⟨?_,rfl⟩,⟨?_,rfl⟩,qQ⟩,qQ⟩ ⟨pP,qQ⟩ trivial,rfl,rfl⟩
  ·rw [hF];rfl
  ·rw [hF];rfl
  ·rw [hF];rfl
 ·cases e
def CR:List PV->Option Ans
 |[.val v,.val u]=>some ⟨some (dQ 4294967296 v/\isPk 4294967296 u),.val (aw (aL 1 (aM v).1 (aM v).2 (aN u))),[]⟩
 |_=>none
theorem FI:am {} Tryz.f209 2=true:=by kernel_rfl
theorem f209:FnOk Tryz.prog 209 CR:=by
 refine FnOk.ofW aj (an (l:=[(115,m8)]) (own:=[]) (inl:=[]) (by simp [f115]) (by simp)) Tryz.func209 {} 2 FI λargs r e=>?_;unfold CR at e;split at e
 ·rename_i v u
  cases e;refine⟨by simp,λhm=>?_⟩;obtain⟨⟨lo,hi,rfl,hlo,hhi⟩,p,rfl,hp⟩:=hm _ rfl;refine⟨[],aa [(0,.val (ar lo hi)),(1,.val p.v)] [] 0 [],Wo trivial ⟨rfl,rfl,qQ⟩ trivial,?_⟩;have hr:=And.intro (cv hp (Nat.le_refl _)) (cv hhi (Nat.le_refl _));obtain⟨F,hF⟩:∃F,F=p.X - hi.X:=⟨_,rfl⟩;have hv:PV.val (aw (aL 1 (aM (ar lo hi)).1 (aM (ar lo hi)).2 (aN p.v)))=PV.val (aw F):=by rw [hF];rfl
  rw [hv];with_unfolding_all refine⟨hr,[some 2],aa [(4,.ptr 0 0 0 0)] [bz F 0] 1 [],Wo ⟨qZ ⟨⟨?_,rfl⟩,⟨?_,rfl⟩,⟨?_,rfl⟩,qQ⟩,qQ⟩ ⟨pP,qQ⟩ trivial,rfl,rfl⟩
  ·rw [hF];rfl
  ·rw [hF];rfl
  ·rw [hF];rfl
 ·cases e
def CS:List PV->Option Ans
 |[.val v,.val u]=>some ⟨some (dQ 4294967296 v/\isPk 4294967296 u),.val (aw (aL 2 (aM v).1 (aM v).2 (aN u))),[]⟩
 |_=>none
theorem FJ:am {} Tryz.f210 2=true:=by kernel_rfl
theorem f210:FnOk Tryz.prog 210 CS:=by
 refine FnOk.ofW aj (an (l:=[(115,m8)]) (own:=[]) (inl:=[]) (by simp [f115]) (by simp)) Tryz.func210 {} 2 FJ λargs r e=>?_;unfold CS at e;split at e
 ·rename_i v u
  cases e;refine⟨by simp,λhm=>?_⟩;obtain⟨⟨lo,hi,rfl,hlo,hhi⟩,p,rfl,hp⟩:=hm _ rfl;refine⟨[],aa [(0,.val (ar lo hi)),(1,.val p.v)] [] 0 [],Wo trivial ⟨rfl,rfl,qQ⟩ trivial,?_⟩;have hr:=And.intro (cw hlo (Nat.le_refl _)) (cw hp (Nat.le_refl _));obtain⟨F,hF⟩:∃F,F=lo.Y - p.Y:=⟨_,rfl⟩;have hv:PV.val (aw (aL 2 (aM (ar lo hi)).1 (aM (ar lo hi)).2 (aN p.v)))=PV.val (aw F):=by rw [hF];rfl
  rw [hv];with_unfolding_all refine⟨hr,[some 2],aa [(4,.ptr 0 0 0 0)] [bz F 0] 1 [],Wo ⟨qZ ⟨⟨?_,rfl⟩,⟨?_,rfl⟩,⟨?_,rfl⟩,qQ⟩,qQ⟩ ⟨pP,qQ⟩ trivial,rfl,rfl⟩
  ·rw [hF];rfl
  ·rw [hF];rfl
  ·rw [hF];rfl
 ·cases e
def CT:List PV->Option Ans
 |[.val v,.val u]=>some ⟨some (dQ 4294967296 v/\isPk 4294967296 u),.val (aw (aL 3 (aM v).1 (aM v).2 (aN u))),[]⟩
 |_=>none
theorem FK:am {} Tryz.f211 2=true:=by kernel_rfl
theorem f211:FnOk Tryz.prog 211 CT:=by
 refine FnOk.ofW aj (an (l:=[(115,m8)]) (own:=[]) (inl:=[]) (by simp [f115]) (by simp)) Tryz.func211 {} 2 FK λargs r e=>?_;unfold CT at e;split at e
 ·rename_i v u
  cases e;refine⟨by simp,λhm=>?_⟩;obtain⟨⟨lo,hi,rfl,hlo,hhi⟩,p,rfl,hp⟩:=hm _ rfl;refine⟨[],aa [(0,.val (ar lo hi)),(1,.val p.v)] [] 0 [],Wo trivial ⟨rfl,rfl,qQ⟩ trivial,?_⟩;have hr:=And.intro (cw hp (Nat.le_refl _)) (cw hhi (Nat.le_refl _));obtain⟨F,hF⟩:∃F,F=p.Y - hi.Y:=⟨_,rfl⟩;have hv:PV.val (aw (aL 3 (aM (ar lo hi)).1 (aM (ar lo hi)).2 (aN p.v)))=PV.val (aw F):=by rw [hF];rfl
  rw [hv];with_unfolding_all refine⟨hr,[some 2],aa [(4,.ptr 0 0 0 0)] [bz F 0] 1 [],Wo ⟨qZ ⟨⟨?_,rfl⟩,⟨?_,rfl⟩,⟨?_,rfl⟩,qQ⟩,qQ⟩ ⟨pP,qQ⟩ trivial,rfl,rfl⟩
  ·rw [hF];rfl
  ·rw [hF];rfl
  ·rw [hF];rfl
 ·cases e
def CU:List PV->Option Ans
 |[]=>some ⟨none,.val (.agg ⟨[.int .i64 (-1),.func (.func 208) ⟨[]⟩ ⟨[]⟩,.int .i64 (-2),.func (.func 209) ⟨[]⟩ ⟨[]⟩,.int .i64 (-3),.func (.func 210) ⟨[]⟩ ⟨[]⟩,.int .i64 (-4),.func (.func 211) ⟨[]⟩ ⟨[]⟩]⟩),[]⟩
 |_=>none
theorem FL:am {} Tryz.f172 0=true:=by kernel_rfl
theorem f172:FnOk Tryz.prog 172 CU:=by
 refine FnOk.ofW aj (an (l:=[]) (own:=[]) (inl:=[]) (by simp) (by simp)) Tryz.func172 {} 0 FL λargs r e=>?_;unfold CU at e;split at e
 ·cases e;refine⟨by simp,λhm=>?_⟩;refine⟨[],aa [] [] 0 [],Wo trivial trivial trivial,?_⟩;with_unfolding_all refine⟨[some 0],aa [(0,.ptr 0 0 0 0)] [⟨197,2,0,false,true,4,λi=>match i with|0=>[.val (.int .i64 (-1)),.val (.func (.func 208) ⟨[]⟩ ⟨[]⟩)]|1=>[.val (.int .i64 (-2)),.val (.func (.func 209) ⟨[]⟩ ⟨[]⟩)]|2=>[.val (.int .i64 (-3)),.val (.func (.func 210) ⟨[]⟩ ⟨[]⟩)]|_=>[.val (.int .i64 (-4)),.val (.func (.func 211) ⟨[]⟩ ⟨[]⟩)]⟩] 1 [],Wo ⟨qZ (λi hi=>?_),qQ⟩ ⟨pP,qQ⟩ trivial,rfl,rfl⟩
  have hi:i < 4:=hi
  match i,hi with
  |0,_=>rfl
  |1,_=>rfl
  |2,_=>rfl
  |3,_=>rfl
  |i+4,h=>omega
 ·cases e
end Go.Proofs
namespace Go.Num
def sx (a b p:PtS):Rat:=cL (cq b a) (cq p a)
theorem tY {a b p:PtS} (ha:PtS.le 10000 a) (hb:PtS.le 10000 b) (hp:PtS.le 10000 p):QB 80017 (sx a b p):=(iJ (cj hb ha) (cj hp ha)).le (by decide)
theorem yJ {k:Nat} (hk:0 < k):QB k (mkRat 0 1)/\QB k (mkRat 1 1):=by
 have h2:1 < 256^k:=Nat.one_lt_pow (by omega) (by decide);have e:=fD 1 (d:=1) (by decide);refine⟨?_,Nat.lt_of_le_of_lt e.1 h2,Nat.lt_of_le_of_lt e.2 h2⟩;rw [Rat.zero_mkRat];exact⟨Nat.pow_pos (by decide),h2⟩
theorem vf:QB 300000 (mkRat 0 1)/\QB 300000 (mkRat 1 1):=yJ (by decide)
def gD (x y:Rat) (s:Rat×Rat):Option (Rat×Rat) :=
 bif !decide (ao x 0 > 0)&&!decide (ao y 0 > 0) then none else bif decide (ao x 0 > 0)&&decide (ao y 0 > 0) then some s
 else some (bif decide (ao y 0 > 0)&&decide (ao (x / (x - y)) s.1 > 0) then x / (x - y) else s.1,bif decide (ao x 0 > 0)&&decide (ao (x / (x - y)) s.2 < 0) then x / (x - y) else s.2)
def dC (n:Nat) (p:Nat->PtS) (a b:PtS):Nat->Nat->Rat×Rat->Option (Rat×Rat)
 |0,_,s=>some s
 |k+1,e,s=>(gD (sx (p e) (p ((e+1)%n)) a) (sx (p e) (p ((e+1)%n)) b) s).bind λs=>dC n p a b k (e+1) s
def gE (n:Nat) (p:Nat->PtS) (a b:PtS):Bool:=!(bk n p==0)||(!ai a||!ai b)
def dh (n:Nat) (p:Nat->PtS) (a b:PtS):Option (Rat×Rat) :=
 bif gE n p a b then none else(dC n p a b n 0 (mkRat 0 1,mkRat 1 1)).bind λs=>bif decide (ao s.1 s.2>=0) then none else some s
def kx (r:Option (Rat×Rat)):Rat:=match r with|some s=>s.1|none=>0
def kW (r:Option (Rat×Rat)):Rat:=match r with|some s=>s.2|none=>0
end Go.Num
namespace Go.Proofs
def CV:List PV->Option Ans
 |[.val v,.val u,.val w]=>some ⟨some (isPk 10000 v/\isPk 10000 u/\isPk 10000 w),.val (aw (sx (aN v) (aN u) (aN w))),[]⟩
 |_=>none
def D212:Opt:={ perm:=jm 1 [(0,true),(1,true),(3,true),(4,true),(2,false),(5,false)] }
theorem FM:am D212.toOrd Tryz.f212 3=true:=by kernel_rfl
theorem f212:FnOk Tryz.prog 212 CV:=by
 refine FnOk.ofW aj (an (l:=[(76,Fw),(140,Ar)]) (own:=[]) (inl:=[]) (by simp [f76,f140]) (by simp)) Tryz.func212 D212 3 FM λargs r e=>?_;unfold CV at e;split at e
 ·rename_i v u w
  cases e;refine⟨by simp,λhm=>?_⟩;obtain⟨⟨a,rfl,ha⟩,⟨b,rfl,hb⟩,c,rfl,hc⟩:=hm _ rfl;refine⟨[],aa [(0,.val a.v),(1,.val b.v),(2,.val c.v)] [] 0 [],Wo trivial ⟨rfl,rfl,rfl,qQ⟩ trivial,?_⟩;have ha':=ha.mono (show 10000<=4294967296 by decide);have hb':=hb.mono (show 10000<=4294967296 by decide);have hc':=hc.mono (show 10000<=4294967296 by decide);have s1:=(cj hb ha).mono (show 10000+10000+3<=1000000 by decide);have s2:=(cj hc ha).mono (show 10000+10000+3<=1000000 by decide);obtain⟨F,hF⟩:∃F,F=sx a b c:=⟨_,rfl⟩;have hv:PV.val (aw (sx (aN a.v) (aN b.v) (aN c.v)))=PV.val (aw F):=by rw [hF];rfl
  rw [hv];with_unfolding_all refine⟨⟨⟨b,rfl,hb'⟩,a,rfl,ha'⟩,⟨⟨c,rfl,hc'⟩,a,rfl,ha'⟩,⟨⟨cq b a,rfl,s1⟩,cq c a,rfl,s2⟩,[some 3],aa [(6,.ptr 0 0 0 0)] [bz F 0] 1 [],Wo ⟨qZ ⟨⟨?_,rfl⟩,⟨?_,rfl⟩,⟨?_,rfl⟩,qQ⟩,qQ⟩ ⟨pP,qQ⟩ trivial,rfl,rfl⟩
  ·rw [hF];rfl
  ·rw [hF];rfl
  ·rw [hF];rfl
 ·cases e
def CW:List PV->Option Ans
 |[.rs 6 n g,.val v]=>some ⟨some (isPL 10000 n g/\dQ 10000 v),.val (.tuple ⟨[aw (kx (dh n (ab g) (aM v).1 (aM v).2)),aw (kW (dh n (ab g) (aM v).1 (aM v).2)),.bool (dh n (ab g) (aM v).1 (aM v).2).isSome,.int .i64 (bif gE n (ab g) (aM v).1 (aM v).2 then 1 else 0)]⟩),[]⟩
 |_=>none
def D174:Opt:={ join:=λc=>match c with | .region 7 _ _=>true | .region 12 _ _=>true|c=>ez [1,9,13] c,perm:=jh [(7,.rds [0,1,2,3,5,6,7,8] (.alt 4 (.alt 9 (.alt 10 (.mk 11 .nil) (.mk 11 (.mk 10 .nil))) (.alt 10 (.alt 9 (.mk 11 .nil) (.mk 11 (.mk 9 .nil))) (.mk 11 (.alt 9 (.mk 10 .nil) (.mk 10 (.mk 9 .nil)))))) (.alt 10 (.alt 4 (.alt 9 (.mk 11 .nil) (.mk 11 (.mk 9 .nil))) (.mk 11 (.mk 4 (.mk 9 .nil)))) (.mk 11 (.alt 4 (.alt 9 (.mk 10 .nil) (.mk 10 (.mk 9 .nil))) (.mk 10 (.mk 4 (.mk 9 .nil)))))))),(8,(.rd 0 (.rd 3 (.mk 1 (.rd 2 (.mk 4 (.rd 5 (.rd 6 .nil)))))))),(12,(.rd 0 (.rd 1 (.rd 2 (.alt 3 (.alt 4 (.rd 5 (.rd 6 (.rd 7 (.mk 8 .nil)))) (.mk 8 (.mk 4 (.rd 5 (.rd 6 (.rd 7 .nil)))))) (.mk 8 (.mk 3 (.mk 4 (.rd 5 (.rd 6 (.rd 7 .nil)))))))))))],all:=jh [(19,.alt 0 (.alt 1 (OT.seq [2,3,4,5] .nil) (OT.seq [2,1,3,4,5] .nil)) (OT.seq [1,0,2,3,4,5] .nil))] }
theorem FN:am D174.toOrd Tryz.f174 2=true:=by kernel_rfl
theorem f174:FnOk Tryz.prog 174 CW:=by
 refine FnOk.ofW aj (oN (l:=[(124,AA),(167,Az),(88,GM),(169,Ax),(212,CV),(139,yr),(115,m8),(173,Aa),(80,GK)]) (own:=[]) (inl:=[]) (sq:=[(207,Ay)]) (by simp [f124,f167,f88,f169,f212,f139,f115,f173,f80]) (by simp) (by simp [f207])) Tryz.func174 D174 2 FN λargs r e=>?_;unfold CW at e;split at e
 ·rename_i n g v
  cases e;refine⟨by simp,λhm=>?_⟩;obtain⟨⟨hg,hn⟩,a,b,rfl,ha,hb⟩:=hm _ rfl;clear hm;refine⟨[],aa [(0,.rs 6 n (λi=>(ab g i).cells)),(1,.val (ar a b))] [] 0 [],Wo trivial ⟨⟨rfl,rfl,λi hi=>(hg i hi).1.symm⟩,rfl,qQ⟩ trivial,?_⟩;have pl:isPL 10000 n (λi=>(ab g i).cells):=⟨λi hi=>⟨rfl,(hg i hi).2⟩,hn⟩;generalize hp:ab g=p at *
  obtain⟨X,hX⟩:∃X,X=dh n p a b:=⟨_,rfl⟩;obtain⟨Bd,hB⟩:∃B,B=gE n p a b:=⟨_,rfl⟩;have hv:PV.val (.tuple ⟨[aw (kx (dh n p (aM (ar a b)).1 (aM (ar a b)).2)),aw (kW (dh n p (aM (ar a b)).1 (aM (ar a b)).2)),.bool (dh n p (aM (ar a b)).1 (aM (ar a b)).2).isSome,.int .i64 (bif gE n p (aM (ar a b)).1 (aM (ar a b)).2 then 1 else 0)]⟩)=PV.val (.tuple ⟨[aw (kx X),aw (kW X),.bool X.isSome,.int .i64 (bif Bd then 1 else 0)]⟩):=by rw [hX,hB];rfl
  rw [hv];clear hv;have zb:X=none->PV.val (.bool false)=PV.val (.bool (decide ((kx X).num < 0)))/\PV.val (.string ⟨#[]⟩)=PV.val (.string (ah (kx X).num.natAbs))/\PV.val (.string ⟨#[]⟩)=PV.val (.string (aO (kx X).den))/\PV.val (.bool false)=PV.val (.bool X.isSome):=λh=>by
   rw [h];refine⟨rfl,?_,rfl,rfl⟩;show PV.val (.string ⟨#[]⟩)=PV.val (.string (ah 0));rw [dN]
  have zc:X=none->PV.val (.bool false)=PV.val (.bool (decide ((kW X).num < 0)))/\PV.val (.string ⟨#[]⟩)=PV.val (.string (ah (kW X).num.natAbs))/\PV.val (.string ⟨#[]⟩)=PV.val (.string (aO (kW X).den)):=λh=>by
   rw [h];refine⟨rfl,?_,rfl⟩;show PV.val (.string ⟨#[]⟩)=PV.val (.string (ah 0));rw [dN]
  have xB:Bd=true->X=none:=λh=>by
   rw [hX];unfold dh;rw [<-hB,h];rfl
  have e1:Bd=true->PV.val (.int .i64 1)=PV.val (.int .i64 (bif Bd then 1 else 0)):=λh=>by rw [h];rfl
  have e0:Bd=false->PV.val (.int .i64 0)=PV.val (.int .i64 (bif Bd then 1 else 0)):=λh=>by rw [h];rfl
  have hBd:Bd=(!(bk n p==0)||(!ai a||!ai b)):=hB;with_unfolding_all refine⟨Unit,λ_=>Bd=false,λ_=>aa [(0,.rs 6 n (λi=>(p i).cells)),(3,.ptr 0 0 0 0),(4,.ptr 1 1 0 0),(5,.ptr 2 2 0 0),(6,.ptr 3 3 0 0),(7,.ptr 4 4 0 0)] [⟨117,12,0,true,false,1,λ_=>[.val (.bool a.x.s),.val (.string a.x.b),.val (.string a.x.c),.val (.bool a.y.s),.val (.string a.y.b),.val (.string a.y.c),.val (.bool b.x.s),.val (.string b.x.b),.val (.string b.x.c),.val (.bool b.y.s),.val (.string b.y.b),.val (.string b.y.c)]⟩,aZ false ⟨#[]⟩ ⟨#[]⟩ 1,aZ false ⟨#[]⟩ ⟨#[]⟩ 2,⟨4,1,3,true,false,1,λ_=>[.val (.bool false)]⟩,⟨38,1,4,true,false,1,λ_=>[.val (.int .i64 0)]⟩] 5 [],?_,λ_ hbd=>?_⟩
  ·have cn:∀r:Nat->List PV,ab r 0=a->ab r 1=b->aA (λi=>!ai (ab r i)) 2=(!ai a||!ai b):=λr h h'=>by
    have e:List.range 2=[0,1]:=rfl;simp only [aA,e,List.any_cons,List.any_nil,Bool.or_false,h,h']
   have q1:(bk n p != 0) = !false->Bd=true:=λh=>by
    have h:(bk n p==0)=false:=by simpa using h
    rw [hBd,h];rfl
   have q2:∀r:Nat->List PV,ab r 0=a->ab r 1=b->(!!aA (λi=>!ai (ab r i)) 2)=true->Bd=true:=λr h h' h2=>by
    rw [cn r h h',Bool.not_not] at h2;rw [hBd,h2,Bool.or_true]
   have q3:∀r:Nat->List PV,ab r 0=a->ab r 1=b->(bk n p != 0)=false->(!!aA (λi=>!ai (ab r i)) 2)=false->Bd=false:=λr h h' h1 h2=>by
    rw [cn r h h',Bool.not_not] at h2;have h1:(bk n p==0)=true:=by simpa using h1
    rw [hBd,h1,h2];rfl
   have ha':=ha.mono (show 10000<=4294967296 by decide);have hb':=hb.mono (show 10000<=4294967296 by decide);have p2:∀r:Nat->List PV,r 0=a.cells->r 1=b.cells->isPL 4294967296 2 r:=λr h h'=>⟨λi hi=>by
    match i,hi with
    |0,_=>exact⟨by rw [ab,h];rfl,by rw [ab,h];exact ha'⟩
    |1,_=>exact⟨by rw [ab,h'];rfl,by rw [ab,h'];exact hb'⟩
    |i+2,h=>omega,by decide⟩
   with_unfolding_all refine⟨pl,λh1=>⟨p2 _ rfl rfl,λh2=>⟨[some 1,some 2,some 3,some 4],aa [(4,.ptr 0 0 0 0),(5,.ptr 1 1 0 0),(6,.ptr 2 2 0 0),(7,.ptr 3 3 0 0)] [bz (kx X) 0,bz (kW X) 1,⟨4,1,2,true,false,1,λ_=>[.val (.bool X.isSome)]⟩,⟨38,1,3,true,false,1,λ_=>[.val (.int .i64 (bif Bd then 1 else 0))]⟩] 4 [],Wo ⟨qZ ⟨⟨(zb (xB (q2 _ rfl rfl h2))).1,rfl⟩,⟨(zb (xB (q2 _ rfl rfl h2))).2.1,rfl⟩,⟨(zb (xB (q2 _ rfl rfl h2))).2.2.1,rfl⟩,qQ⟩,qZ ⟨⟨(zc (xB (q2 _ rfl rfl h2))).1,rfl⟩,⟨(zc (xB (q2 _ rfl rfl h2))).2.1,rfl⟩,⟨(zc (xB (q2 _ rfl rfl h2))).2.2,rfl⟩,qQ⟩,qZ ⟨⟨(zb (xB (q2 _ rfl rfl h2))).2.2.2,rfl⟩,qQ⟩,qZ ⟨⟨e1 (q2 _ rfl rfl h2),rfl⟩,qQ⟩,qQ⟩ ⟨pP,pP,pP,pP,qQ⟩ trivial,rfl,rfl⟩,λh2=>⟨(),[some 0,some 1,some 2,some 3,some 4],q3 _ rfl rfl h1 h2,Wo ⟨qZ ⟨rq,rq,rq,rq,rq,rq,rq,rq,rq,rq,rq,rq,qQ⟩,qX,qX,qY,qY,qQ⟩ ⟨qW,pP,pP,pP,pP,pP,qQ⟩ trivial⟩⟩,λh1=>⟨λh2=>⟨[some 1,some 2,some 3,some 4],aa [(4,.ptr 0 0 0 0),(5,.ptr 1 1 0 0),(6,.ptr 2 2 0 0),(7,.ptr 3 3 0 0)] [bz (kx X) 0,bz (kW X) 1,⟨4,1,2,true,false,1,λ_=>[.val (.bool X.isSome)]⟩,⟨38,1,3,true,false,1,λ_=>[.val (.int .i64 (bif Bd then 1 else 0))]⟩] 4 [],Wo ⟨qZ ⟨⟨(zb (xB (q1 h1))).1,rfl⟩,⟨(zb (xB (q1 h1))).2.1,rfl⟩,⟨(zb (xB (q1 h1))).2.2.1,rfl⟩,qQ⟩,qZ ⟨⟨(zc (xB (q1 h1))).1,rfl⟩,⟨(zc (xB (q1 h1))).2.1,rfl⟩,⟨(zc (xB (q1 h1))).2.2,rfl⟩,qQ⟩,qZ ⟨⟨(zb (xB (q1 h1))).2.2.2,rfl⟩,qQ⟩,qZ ⟨⟨e1 (q1 h1),rfl⟩,qQ⟩,qQ⟩ ⟨pP,pP,pP,pP,qQ⟩ trivial,rfl,rfl⟩,λh2=>(nomatch h2)⟩⟩
  ·have hbd:Bd=false:=hbd;with_unfolding_all refine⟨by decide,by decide,λ_ _=>rfl,⟨rfl,hn⟩,Rat×Rat,λk s=>(QB 300000 s.1/\QB 300000 s.2)/\dC n p a b (n - k) k s=dC n p a b n 0 (mkRat 0 1,mkRat 1 1),λs=>aa [(3,.ptr 0 0 0 0),(4,.ptr 1 1 0 0),(5,.ptr 2 2 0 0),(6,.ptr 3 3 0 0),(7,.ptr 4 4 0 0),(8,.ptr 5 5 0 0),(9,.ptr 6 6 0 0)] [⟨117,12,0,true,false,1,λ_=>[.val (.bool a.x.s),.val (.string a.x.b),.val (.string a.x.c),.val (.bool a.y.s),.val (.string a.y.b),.val (.string a.y.c),.val (.bool b.x.s),.val (.string b.x.b),.val (.string b.x.c),.val (.bool b.y.s),.val (.string b.y.b),.val (.string b.y.c)]⟩,aZ false ⟨#[]⟩ ⟨#[]⟩ 1,aZ false ⟨#[]⟩ ⟨#[]⟩ 2,⟨4,1,3,true,false,1,λ_=>[.val (.bool false)]⟩,⟨38,1,4,true,false,1,λ_=>[.val (.int .i64 0)]⟩,bz s.1 5,bz s.2 6] 7 [],⟨(mkRat 0 1,mkRat 1 1),[some 0,some 1,some 2,some 3,some 4,some 5,some 6],?_,Wo ⟨qZ ⟨rq,rq,rq,rq,rq,rq,rq,rq,rq,rq,rq,rq,qQ⟩,qX,qX,qY,qY,qX,qX,qQ⟩ ⟨pP,pP,pP,pP,pP,pP,pP,qQ⟩ trivial⟩,λk s hk hI=>?_,λs hI=>?_⟩
   ·exact⟨⟨vf.1,vf.2⟩,rfl⟩
   ·obtain⟨⟨hq1,hq2⟩,hpf⟩:(QB 300000 s.1/\QB 300000 s.2)/\dC n p a b (n - k) k s=dC n p a b n 0 (mkRat 0 1,mkRat 1 1):=hI;have hkn:k < n:=hk;have hml:=Nat.mod_lt (k+1) (show 0 < n by omega);have hpk:=(hg k hkn).2;have hpm:=(hg _ hml).2;obtain⟨x,hx⟩:∃x,x=sx (p k) (p ((k+1)%n)) a:=⟨_,rfl⟩;obtain⟨y,hy⟩:∃y,y=sx (p k) (p ((k+1)%n)) b:=⟨_,rfl⟩;have hx1:sx (aN (p k).v) (aN (p ((k+1)%n)).v) (aN a.v)=x:=by rw [hx];rfl
    have hy1:sx (aN (p k).v) (aN (p ((k+1)%n)).v) (aN b.v)=y:=by rw [hy];rfl
    have qx:QB 80017 x:=by rw [hx];exact tY hpk hpm ha
    have qy:QB 80017 y:=by rw [hy];exact tY hpk hpm hb
    have pr1:isPk 10000 (p k).v/\isPk 10000 (p ((k+1)%n)).v/\isPk 10000 a.v:=⟨⟨_,rfl,hpk⟩,⟨_,rfl,hpm⟩,_,rfl,ha⟩;have pr2:isPk 10000 (p k).v/\isPk 10000 (p ((k+1)%n)).v/\isPk 10000 b.v:=⟨⟨_,rfl,hpk⟩,⟨_,rfl,hpm⟩,_,rfl,hb⟩;have hstep:dC n p a b (n - k) k s=(gD x y s).bind λs=>dC n p a b (n - (k+1)) (k+1) s:=by
     rw [hx,hy,show n - k=(n - (k+1))+1 by omega];rfl
    clear hx hy;with_unfolding_all refine⟨rfl,Unit,λ_=>True,λ_=>aa [(3,.ptr 0 0 0 0),(4,.ptr 1 1 0 0),(5,.ptr 2 2 0 0),(6,.ptr 3 3 0 0),(7,.ptr 4 4 0 0),(8,.ptr 5 5 0 0),(9,.ptr 6 6 0 0),(12,.ptr 7 7 0 0),(13,.ptr 8 8 0 0)] [⟨117,12,0,true,false,1,λ_=>[.val (.bool a.x.s),.val (.string a.x.b),.val (.string a.x.c),.val (.bool a.y.s),.val (.string a.y.b),.val (.string a.y.c),.val (.bool b.x.s),.val (.string b.x.b),.val (.string b.x.c),.val (.bool b.y.s),.val (.string b.y.b),.val (.string b.y.c)]⟩,aZ false ⟨#[]⟩ ⟨#[]⟩ 1,aZ false ⟨#[]⟩ ⟨#[]⟩ 2,⟨4,1,3,true,false,1,λ_=>[.val (.bool false)]⟩,⟨38,1,4,true,false,1,λ_=>[.val (.int .i64 0)]⟩,bz s.1 5,bz s.2 6,bz x 7,bz y 8] 9 [[(3,.ptr 0 0 0 0),(4,.ptr 1 1 0 0),(5,.ptr 2 2 0 0),(6,.ptr 3 3 0 0),(7,.ptr 4 4 0 0),(8,.ptr 5 5 0 0),(9,.ptr 6 6 0 0)]],⟨⟨pr1,⟨⟨pr2,⟨⟨(),[some 0,some 1,some 2,some 3,some 4,some 5,some 6,some 9,some 10],trivial,Wo ⟨qZ ⟨rq,rq,rq,rq,rq,rq,rq,rq,rq,rq,rq,rq,qQ⟩,qX,qX,qY,qY,qX,qX,qZ ⟨⟨congrArg (λq:Rat=>PV.val (.bool (decide (q.num < 0)))) hx1,rfl⟩,⟨congrArg (λq:Rat=>PV.val (.string (ah q.num.natAbs))) hx1,rfl⟩,⟨congrArg (λq:Rat=>PV.val (.string (aO q.den))) hx1,rfl⟩,qQ⟩,qZ ⟨⟨congrArg (λq:Rat=>PV.val (.bool (decide (q.num < 0)))) hy1,rfl⟩,⟨congrArg (λq:Rat=>PV.val (.string (ah q.num.natAbs))) hy1,rfl⟩,⟨congrArg (λq:Rat=>PV.val (.string (aO q.den))) hy1,rfl⟩,qQ⟩,qQ⟩ ⟨pP,pP,pP,pP,pP,pP,pP,pP,pP,qQ⟩ ⟨⟨pP,pP,pP,pP,pP,pP,pP,qQ⟩,qQ⟩⟩,⟨(),[some 0,some 1,some 2,some 3,some 4,some 5,some 6,some 10,some 9],trivial,Wo ⟨qZ ⟨rq,rq,rq,rq,rq,rq,rq,rq,rq,rq,rq,rq,qQ⟩,qX,qX,qY,qY,qX,qX,qZ ⟨⟨congrArg (λq:Rat=>PV.val (.bool (decide (q.num < 0)))) hx1,rfl⟩,⟨congrArg (λq:Rat=>PV.val (.string (ah q.num.natAbs))) hx1,rfl⟩,⟨congrArg (λq:Rat=>PV.val (.string (aO q.den))) hx1,rfl⟩,qQ⟩,qZ ⟨⟨congrArg (λq:Rat=>PV.val (.bool (decide (q.num < 0)))) hy1,rfl⟩,⟨congrArg (λq:Rat=>PV.val (.string (ah q.num.natAbs))) hy1,rfl⟩,⟨congrArg (λq:Rat=>PV.val (.string (aO q.den))) hy1,rfl⟩,qQ⟩,qQ⟩ ⟨pP,pP,pP,pP,pP,pP,pP,pP,pP,qQ⟩ ⟨⟨pP,pP,pP,pP,pP,pP,pP,qQ⟩,qQ⟩⟩⟩⟩,⟨⟨⟨pr2,⟨(),[some 0,some 1,some 2,some 3,some 4,some 5,some 6,some 9,some 10],trivial,Wo ⟨qZ ⟨rq,rq,rq,rq,rq,rq,rq,rq,rq,rq,rq,rq,qQ⟩,qX,qX,qY,qY,qX,qX,qZ ⟨⟨congrArg (λq:Rat=>PV.val (.bool (decide (q.num < 0)))) hx1,rfl⟩,⟨congrArg (λq:Rat=>PV.val (.string (ah q.num.natAbs))) hx1,rfl⟩,⟨congrArg (λq:Rat=>PV.val (.string (aO q.den))) hx1,rfl⟩,qQ⟩,qZ ⟨⟨congrArg (λq:Rat=>PV.val (.bool (decide (q.num < 0)))) hy1,rfl⟩,⟨congrArg (λq:Rat=>PV.val (.string (ah q.num.natAbs))) hy1,rfl⟩,⟨congrArg (λq:Rat=>PV.val (.string (aO q.den))) hy1,rfl⟩,qQ⟩,qQ⟩ ⟨pP,pP,pP,pP,pP,pP,pP,pP,pP,qQ⟩ ⟨⟨pP,pP,pP,pP,pP,pP,pP,qQ⟩,qQ⟩⟩⟩,⟨pr2,⟨(),[some 0,some 1,some 2,some 3,some 4,some 5,some 6,some 9,some 10],trivial,Wo ⟨qZ ⟨rq,rq,rq,rq,rq,rq,rq,rq,rq,rq,rq,rq,qQ⟩,qX,qX,qY,qY,qX,qX,qZ ⟨⟨congrArg (λq:Rat=>PV.val (.bool (decide (q.num < 0)))) hx1,rfl⟩,⟨congrArg (λq:Rat=>PV.val (.string (ah q.num.natAbs))) hx1,rfl⟩,⟨congrArg (λq:Rat=>PV.val (.string (aO q.den))) hx1,rfl⟩,qQ⟩,qZ ⟨⟨congrArg (λq:Rat=>PV.val (.bool (decide (q.num < 0)))) hy1,rfl⟩,⟨congrArg (λq:Rat=>PV.val (.string (ah q.num.natAbs))) hy1,rfl⟩,⟨congrArg (λq:Rat=>PV.val (.string (aO q.den))) hy1,rfl⟩,qQ⟩,qQ⟩ ⟨pP,pP,pP,pP,pP,pP,pP,pP,pP,qQ⟩ ⟨⟨pP,pP,pP,pP,pP,pP,pP,qQ⟩,qQ⟩⟩⟩⟩,⟨⟨pr2,⟨(),[some 0,some 1,some 2,some 3,some 4,some 5,some 6,some 10,some 9],trivial,Wo ⟨qZ ⟨rq,rq,rq,rq,rq,rq,rq,rq,rq,rq,rq,rq,qQ⟩,qX,qX,qY,qY,qX,qX,qZ ⟨⟨congrArg (λq:Rat=>PV.val (.bool (decide (q.num < 0)))) hx1,rfl⟩,⟨congrArg (λq:Rat=>PV.val (.string (ah q.num.natAbs))) hx1,rfl⟩,⟨congrArg (λq:Rat=>PV.val (.string (aO q.den))) hx1,rfl⟩,qQ⟩,qZ ⟨⟨congrArg (λq:Rat=>PV.val (.bool (decide (q.num < 0)))) hy1,rfl⟩,⟨congrArg (λq:Rat=>PV.val (.string (ah q.num.natAbs))) hy1,rfl⟩,⟨congrArg (λq:Rat=>PV.val (.string (aO q.den))) hy1,rfl⟩,qQ⟩,qQ⟩ ⟨pP,pP,pP,pP,pP,pP,pP,pP,pP,qQ⟩ ⟨⟨pP,pP,pP,pP,pP,pP,pP,qQ⟩,qQ⟩⟩⟩,⟨pr2,⟨(),[some 0,some 1,some 2,some 3,some 4,some 5,some 6,some 10,some 9],trivial,Wo ⟨qZ ⟨rq,rq,rq,rq,rq,rq,rq,rq,rq,rq,rq,rq,qQ⟩,qX,qX,qY,qY,qX,qX,qZ ⟨⟨congrArg (λq:Rat=>PV.val (.bool (decide (q.num < 0)))) hx1,rfl⟩,⟨congrArg (λq:Rat=>PV.val (.string (ah q.num.natAbs))) hx1,rfl⟩,⟨congrArg (λq:Rat=>PV.val (.string (aO q.den))) hx1,rfl⟩,qQ⟩,qZ ⟨⟨congrArg (λq:Rat=>PV.val (.bool (decide (q.num < 0)))) hy1,rfl⟩,⟨congrArg (λq:Rat=>PV.val (.string (ah q.num.natAbs))) hy1,rfl⟩,⟨congrArg (λq:Rat=>PV.val (.string (aO q.den))) hy1,rfl⟩,qQ⟩,qQ⟩ ⟨pP,pP,pP,pP,pP,pP,pP,pP,pP,qQ⟩ ⟨⟨pP,pP,pP,pP,pP,pP,pP,qQ⟩,qQ⟩⟩⟩⟩⟩⟩⟩,⟨⟨⟨pr1,⟨⟨pr2,⟨(),[some 0,some 1,some 2,some 3,some 4,some 5,some 6,some 9,some 10],trivial,Wo ⟨qZ ⟨rq,rq,rq,rq,rq,rq,rq,rq,rq,rq,rq,rq,qQ⟩,qX,qX,qY,qY,qX,qX,qZ ⟨⟨congrArg (λq:Rat=>PV.val (.bool (decide (q.num < 0)))) hx1,rfl⟩,⟨congrArg (λq:Rat=>PV.val (.string (ah q.num.natAbs))) hx1,rfl⟩,⟨congrArg (λq:Rat=>PV.val (.string (aO q.den))) hx1,rfl⟩,qQ⟩,qZ ⟨⟨congrArg (λq:Rat=>PV.val (.bool (decide (q.num < 0)))) hy1,rfl⟩,⟨congrArg (λq:Rat=>PV.val (.string (ah q.num.natAbs))) hy1,rfl⟩,⟨congrArg (λq:Rat=>PV.val (.string (aO q.den))) hy1,rfl⟩,qQ⟩,qQ⟩ ⟨pP,pP,pP,pP,pP,pP,pP,pP,pP,qQ⟩ ⟨⟨pP,pP,pP,pP,pP,pP,pP,qQ⟩,qQ⟩⟩⟩,⟨pr2,⟨(),[some 0,some 1,some 2,some 3,some 4,some 5,some 6,some 9,some 10],trivial,Wo ⟨qZ ⟨rq,rq,rq,rq,rq,rq,rq,rq,rq,rq,rq,rq,qQ⟩,qX,qX,qY,qY,qX,qX,qZ ⟨⟨congrArg (λq:Rat=>PV.val (.bool (decide (q.num < 0)))) hx1,rfl⟩,⟨congrArg (λq:Rat=>PV.val (.string (ah q.num.natAbs))) hx1,rfl⟩,⟨congrArg (λq:Rat=>PV.val (.string (aO q.den))) hx1,rfl⟩,qQ⟩,qZ ⟨⟨congrArg (λq:Rat=>PV.val (.bool (decide (q.num < 0)))) hy1,rfl⟩,⟨congrArg (λq:Rat=>PV.val (.string (ah q.num.natAbs))) hy1,rfl⟩,⟨congrArg (λq:Rat=>PV.val (.string (aO q.den))) hy1,rfl⟩,qQ⟩,qQ⟩ ⟨pP,pP,pP,pP,pP,pP,pP,pP,pP,qQ⟩ ⟨⟨pP,pP,pP,pP,pP,pP,pP,qQ⟩,qQ⟩⟩⟩⟩⟩,⟨pr1,⟨pr2,⟨(),[some 0,some 1,some 2,some 3,some 4,some 5,some 6,some 9,some 10],trivial,Wo ⟨qZ ⟨rq,rq,rq,rq,rq,rq,rq,rq,rq,rq,rq,rq,qQ⟩,qX,qX,qY,qY,qX,qX,qZ ⟨⟨congrArg (λq:Rat=>PV.val (.bool (decide (q.num < 0)))) hx1,rfl⟩,⟨congrArg (λq:Rat=>PV.val (.string (ah q.num.natAbs))) hx1,rfl⟩,⟨congrArg (λq:Rat=>PV.val (.string (aO q.den))) hx1,rfl⟩,qQ⟩,qZ ⟨⟨congrArg (λq:Rat=>PV.val (.bool (decide (q.num < 0)))) hy1,rfl⟩,⟨congrArg (λq:Rat=>PV.val (.string (ah q.num.natAbs))) hy1,rfl⟩,⟨congrArg (λq:Rat=>PV.val (.string (aO q.den))) hy1,rfl⟩,qQ⟩,qQ⟩ ⟨pP,pP,pP,pP,pP,pP,pP,pP,pP,qQ⟩ ⟨⟨pP,pP,pP,pP,pP,pP,pP,qQ⟩,qQ⟩⟩⟩⟩⟩,⟨⟨pr1,⟨⟨pr2,⟨(),[some 0,some 1,some 2,some 3,some 4,some 5,some 6,some 10,some 9],trivial,Wo ⟨qZ ⟨rq,rq,rq,rq,rq,rq,rq,rq,rq,rq,rq,rq,qQ⟩,qX,qX,qY,qY,qX,qX,qZ ⟨⟨congrArg (λq:Rat=>PV.val (.bool (decide (q.num < 0)))) hx1,rfl⟩,⟨congrArg (λq:Rat=>PV.val (.string (ah q.num.natAbs))) hx1,rfl⟩,⟨congrArg (λq:Rat=>PV.val (.string (aO q.den))) hx1,rfl⟩,qQ⟩,qZ ⟨⟨congrArg (λq:Rat=>PV.val (.bool (decide (q.num < 0)))) hy1,rfl⟩,⟨congrArg (λq:Rat=>PV.val (.string (ah q.num.natAbs))) hy1,rfl⟩,⟨congrArg (λq:Rat=>PV.val (.string (aO q.den))) hy1,rfl⟩,qQ⟩,qQ⟩ ⟨pP,pP,pP,pP,pP,pP,pP,pP,pP,qQ⟩ ⟨⟨pP,pP,pP,pP,pP,pP,pP,qQ⟩,qQ⟩⟩⟩,⟨pr2,⟨(),[some 0,some 1,some 2,some 3,some 4,some 5,some 6,some 10,some 9],trivial,Wo ⟨qZ ⟨rq,rq,rq,rq,rq,rq,rq,rq,rq,rq,rq,rq,qQ⟩,qX,qX,qY,qY,qX,qX,qZ ⟨⟨congrArg (λq:Rat=>PV.val (.bool (decide (q.num < 0)))) hx1,rfl⟩,⟨congrArg (λq:Rat=>PV.val (.string (ah q.num.natAbs))) hx1,rfl⟩,⟨congrArg (λq:Rat=>PV.val (.string (aO q.den))) hx1,rfl⟩,qQ⟩,qZ ⟨⟨congrArg (λq:Rat=>PV.val (.bool (decide (q.num < 0)))) hy1,rfl⟩,⟨congrArg (λq:Rat=>PV.val (.string (ah q.num.natAbs))) hy1,rfl⟩,⟨congrArg (λq:Rat=>PV.val (.string (aO q.den))) hy1,rfl⟩,qQ⟩,qQ⟩ ⟨pP,pP,pP,pP,pP,pP,pP,pP,pP,qQ⟩ ⟨⟨pP,pP,pP,pP,pP,pP,pP,qQ⟩,qQ⟩⟩⟩⟩⟩,⟨pr1,⟨pr2,⟨(),[some 0,some 1,some 2,some 3,some 4,some 5,some 6,some 10,some 9],trivial,Wo ⟨qZ ⟨rq,rq,rq,rq,rq,rq,rq,rq,rq,rq,rq,rq,qQ⟩,qX,qX,qY,qY,qX,qX,qZ ⟨⟨congrArg (λq:Rat=>PV.val (.bool (decide (q.num < 0)))) hx1,rfl⟩,⟨congrArg (λq:Rat=>PV.val (.string (ah q.num.natAbs))) hx1,rfl⟩,⟨congrArg (λq:Rat=>PV.val (.string (aO q.den))) hx1,rfl⟩,qQ⟩,qZ ⟨⟨congrArg (λq:Rat=>PV.val (.bool (decide (q.num < 0)))) hy1,rfl⟩,⟨congrArg (λq:Rat=>PV.val (.string (ah q.num.natAbs))) hy1,rfl⟩,⟨congrArg (λq:Rat=>PV.val (.string (aO q.den))) hy1,rfl⟩,qQ⟩,qQ⟩ ⟨pP,pP,pP,pP,pP,pP,pP,pP,pP,qQ⟩ ⟨⟨pP,pP,pP,pP,pP,pP,pP,qQ⟩,qQ⟩⟩⟩⟩⟩⟩⟩,λ_ _=>?_⟩
    have rx:isRk 4294967296 (aw x):=qx.rk (by decide);have ry:isRk 4294967296 (aw y):=qy.rk (by decide);have ix:decide (ao (aE (aw x)) 0 > 0)=decide (ao x 0 > 0):=by rw [aC]
    have iy:decide (ao (aE (aw y)) 0 > 0)=decide (ao y 0 > 0):=by rw [aC]
    have nin:(!decide (ao (aE (aw x)) 0 > 0))=true->(!decide (ao (aE (aw y)) 0 > 0))=true->X=none:=λh h'=>by
     rw [ix] at h;rw [iy] at h';rw [hX];unfold dh;rw [<-hB,hbd];unfold gD at hstep;rw [h,h'] at hstep;rw [<-hpf,hstep];rfl
    have I9a:(!decide (ao (aE (aw y)) 0 > 0))=false->(decide (ao x 0 > 0)||decide (ao y 0 > 0))=true:=λh=>by
     rw [iy] at h;have h:decide (ao y 0 > 0)=true:=by simpa using h
     rw [h,Bool.or_true]
    have I9b:(!decide (ao (aE (aw x)) 0 > 0)) = !true->(decide (ao x 0 > 0)||decide (ao y 0 > 0))=true:=λh=>by
     rw [ix] at h;have h:decide (ao x 0 > 0)=true:=by simpa using h
     rw [h,Bool.true_or]
    with_unfolding_all refine⟨rx,ry,Unit,λ_=>(decide (ao x 0 > 0)||decide (ao y 0 > 0))=true,λ_=>aa [(3,.ptr 0 0 0 0),(4,.ptr 1 1 0 0),(5,.ptr 2 2 0 0),(6,.ptr 3 3 0 0),(7,.ptr 4 4 0 0),(8,.ptr 5 5 0 0),(9,.ptr 6 6 0 0),(12,.ptr 7 7 0 0),(13,.ptr 8 8 0 0),(14,.val (.bool (decide (ao x 0 > 0)))),(15,.val (.bool (decide (ao y 0 > 0))))] [⟨117,12,0,true,false,1,λ_=>[.val (.bool a.x.s),.val (.string a.x.b),.val (.string a.x.c),.val (.bool a.y.s),.val (.string a.y.b),.val (.string a.y.c),.val (.bool b.x.s),.val (.string b.x.b),.val (.string b.x.c),.val (.bool b.y.s),.val (.string b.y.b),.val (.string b.y.c)]⟩,aZ false ⟨#[]⟩ ⟨#[]⟩ 1,aZ false ⟨#[]⟩ ⟨#[]⟩ 2,⟨4,1,3,true,false,1,λ_=>[.val (.bool false)]⟩,⟨38,1,4,true,false,1,λ_=>[.val (.int .i64 0)]⟩,bz s.1 5,bz s.2 6,bz x 7,bz y 8] 9 [[(3,.ptr 0 0 0 0),(4,.ptr 1 1 0 0),(5,.ptr 2 2 0 0),(6,.ptr 3 3 0 0),(7,.ptr 4 4 0 0),(8,.ptr 5 5 0 0),(9,.ptr 6 6 0 0)]],⟨λh1=>⟨λh2=>⟨[some 1,some 2,some 3,some 4],aa [(4,.ptr 0 0 0 0),(5,.ptr 1 1 0 0),(6,.ptr 2 2 0 0),(7,.ptr 3 3 0 0)] [bz (kx X) 0,bz (kW X) 1,⟨4,1,2,true,false,1,λ_=>[.val (.bool X.isSome)]⟩,⟨38,1,3,true,false,1,λ_=>[.val (.int .i64 (bif Bd then 1 else 0))]⟩] 4 [],Wo ⟨qZ ⟨⟨(zb (nin h1 h2)).1,rfl⟩,⟨(zb (nin h1 h2)).2.1,rfl⟩,⟨(zb (nin h1 h2)).2.2.1,rfl⟩,qQ⟩,qZ ⟨⟨(zc (nin h1 h2)).1,rfl⟩,⟨(zc (nin h1 h2)).2.1,rfl⟩,⟨(zc (nin h1 h2)).2.2,rfl⟩,qQ⟩,qZ ⟨⟨(zb (nin h1 h2)).2.2.2,rfl⟩,qQ⟩,qZ ⟨⟨e0 hbd,rfl⟩,qQ⟩,qQ⟩ ⟨pP,pP,pP,pP,qQ⟩ trivial,rfl,rfl⟩,λh2=>⟨(),[some 0,some 1,some 2,some 3,some 4,some 5,some 6,some 7,some 8],I9a h2,Wo ⟨qZ ⟨rq,rq,rq,rq,rq,rq,rq,rq,rq,rq,rq,rq,qQ⟩,qX,qX,qY,qY,qX,qX,qX,qX,qQ⟩ ⟨pP,pP,pP,pP,pP,pP,pP,pP,pP,congrArg (λz=>PV.val (.bool z)) ix,congrArg (λz=>PV.val (.bool z)) iy,qQ⟩ ⟨⟨pP,pP,pP,pP,pP,pP,pP,qQ⟩,qQ⟩⟩⟩,λh1=>⟨λh2=>(nomatch h2),λh2=>⟨(),[some 0,some 1,some 2,some 3,some 4,some 5,some 6,some 7,some 8],I9b h1,Wo ⟨qZ ⟨rq,rq,rq,rq,rq,rq,rq,rq,rq,rq,rq,rq,qQ⟩,qX,qX,qY,qY,qX,qX,qX,qX,qQ⟩ ⟨pP,pP,pP,pP,pP,pP,pP,pP,pP,congrArg (λz=>PV.val (.bool z)) ix,congrArg (λz=>PV.val (.bool z)) iy,qQ⟩ ⟨⟨pP,pP,pP,pP,pP,pP,pP,qQ⟩,qQ⟩⟩⟩⟩,λ_ h9=>?_⟩
    have h9:(decide (ao x 0 > 0)||decide (ao y 0 > 0))=true:=h9;obtain⟨t,ht⟩:∃t,t=x / (x - y):=⟨_,rfl⟩;have ht1:aE (aw x) / aE (aw (aE (aw x) - aE (aw y)))=t:=by rw [aC,aC,aC,ht]
    have qt:QB 300000 t:=by rw [ht];exact(qx.div (qx.sub qy)).le (by decide)
    have pr3:isRk 4294967296 (aw x)/\isRk 4294967296 (aw y):=⟨rx,ry⟩;have pr4:isRk 4294967296 (aw x)/\isRk 4294967296 (aw (aE (aw x) - aE (aw y))):=⟨rx,by rw [aC,aC];exact(qx.sub qy).rk (by decide)⟩;have h9':(!decide (ao x 0 > 0)&&!decide (ao y 0 > 0))=false:=by cases h:decide (ao x 0 > 0)<;>cases h':decide (ao y 0 > 0)<;>first|rfl|(rw [h,h'] at h9;cases h9)
    have I12a:decide (ao y 0 > 0)=false->(decide (ao x 0 > 0)&&decide (ao y 0 > 0))=false:=λh=>by rw [h,Bool.and_false]
    have I12b:decide (ao x 0 > 0) = !true->(decide (ao x 0 > 0)&&decide (ao y 0 > 0))=false:=λh=>by rw [h];rfl
    with_unfolding_all refine⟨λh1=>⟨λh2=>⟨s,[some 0,some 1,some 2,some 3,some 4,some 5,some 6],?_,Wo ⟨qZ ⟨rq,rq,rq,rq,rq,rq,rq,rq,rq,rq,rq,rq,qQ⟩,qX,qX,qY,qY,qX,qX,qQ⟩ ⟨pP,pP,pP,pP,pP,pP,pP,qQ⟩ trivial⟩,λh2=>⟨Unit,λ_=>(decide (ao x 0 > 0)&&decide (ao y 0 > 0))=false,λ_=>aa [(3,.ptr 0 0 0 0),(4,.ptr 1 1 0 0),(5,.ptr 2 2 0 0),(6,.ptr 3 3 0 0),(7,.ptr 4 4 0 0),(8,.ptr 5 5 0 0),(9,.ptr 6 6 0 0),(14,.val (.bool (decide (ao x 0 > 0)))),(15,.val (.bool (decide (ao y 0 > 0)))),(16,.ptr 7 7 0 0)] [⟨117,12,0,true,false,1,λ_=>[.val (.bool a.x.s),.val (.string a.x.b),.val (.string a.x.c),.val (.bool a.y.s),.val (.string a.y.b),.val (.string a.y.c),.val (.bool b.x.s),.val (.string b.x.b),.val (.string b.x.c),.val (.bool b.y.s),.val (.string b.y.b),.val (.string b.y.c)]⟩,aZ false ⟨#[]⟩ ⟨#[]⟩ 1,aZ false ⟨#[]⟩ ⟨#[]⟩ 2,⟨4,1,3,true,false,1,λ_=>[.val (.bool false)]⟩,⟨38,1,4,true,false,1,λ_=>[.val (.int .i64 0)]⟩,bz s.1 5,bz s.2 6,bz t 7] 8 [[(3,.ptr 0 0 0 0),(4,.ptr 1 1 0 0),(5,.ptr 2 2 0 0),(6,.ptr 3 3 0 0),(7,.ptr 4 4 0 0),(8,.ptr 5 5 0 0),(9,.ptr 6 6 0 0)]],(λI12=>?_) (I12a h2),λ_ hn12=>?_⟩⟩,λh1=>⟨λh2=>(nomatch h2),λh2=>⟨Unit,λ_=>(decide (ao x 0 > 0)&&decide (ao y 0 > 0))=false,λ_=>aa [(3,.ptr 0 0 0 0),(4,.ptr 1 1 0 0),(5,.ptr 2 2 0 0),(6,.ptr 3 3 0 0),(7,.ptr 4 4 0 0),(8,.ptr 5 5 0 0),(9,.ptr 6 6 0 0),(14,.val (.bool (decide (ao x 0 > 0)))),(15,.val (.bool (decide (ao y 0 > 0)))),(16,.ptr 7 7 0 0)] [⟨117,12,0,true,false,1,λ_=>[.val (.bool a.x.s),.val (.string a.x.b),.val (.string a.x.c),.val (.bool a.y.s),.val (.string a.y.b),.val (.string a.y.c),.val (.bool b.x.s),.val (.string b.x.b),.val (.string b.x.c),.val (.bool b.y.s),.val (.string b.y.b),.val (.string b.y.c)]⟩,aZ false ⟨#[]⟩ ⟨#[]⟩ 1,aZ false ⟨#[]⟩ ⟨#[]⟩ 2,⟨4,1,3,true,false,1,λ_=>[.val (.bool false)]⟩,⟨38,1,4,true,false,1,λ_=>[.val (.int .i64 0)]⟩,bz s.1 5,bz s.2 6,bz t 7] 8 [[(3,.ptr 0 0 0 0),(4,.ptr 1 1 0 0),(5,.ptr 2 2 0 0),(6,.ptr 3 3 0 0),(7,.ptr 4 4 0 0),(8,.ptr 5 5 0 0),(9,.ptr 6 6 0 0)]],(λI12=>?_) (I12b h1),λ_ hn12=>?_⟩⟩⟩
    ·have hpf2:dC n p a b (n - (k+1)) (k+1) s=dC n p a b n 0 (mkRat 0 1,mkRat 1 1):=by
      rw [<-hpf,hstep];unfold gD;rw [h9',show((decide (ao x 0 > 0))&&(decide (ao y 0 > 0)))=true by
       have h1:decide (ao x 0 > 0)=true:=h1;have h2:decide (ao y 0 > 0)=true:=h2;rw [h1,h2];rfl]
      rfl
     exact⟨⟨hq1,hq2⟩,hpf2⟩
    ·with_unfolding_all exact⟨⟨pr3,⟨⟨pr4,⟨(),[some 0,some 1,some 2,some 3,some 4,some 5,some 6,some 9],I12,Wo ⟨qZ ⟨rq,rq,rq,rq,rq,rq,rq,rq,rq,rq,rq,rq,qQ⟩,qX,qX,qY,qY,qX,qX,qZ ⟨⟨congrArg (λq:Rat=>PV.val (.bool (decide (q.num < 0)))) ht1,rfl⟩,⟨congrArg (λq:Rat=>PV.val (.string (ah q.num.natAbs))) ht1,rfl⟩,⟨congrArg (λq:Rat=>PV.val (.string (aO q.den))) ht1,rfl⟩,qQ⟩,qQ⟩ ⟨pP,pP,pP,pP,pP,pP,pP,rfl,rfl,pP,qQ⟩ ⟨⟨pP,pP,pP,pP,pP,pP,pP,qQ⟩,qQ⟩⟩⟩,⟨pr4,⟨(),[some 0,some 1,some 2,some 3,some 4,some 5,some 6,some 9],I12,Wo ⟨qZ ⟨rq,rq,rq,rq,rq,rq,rq,rq,rq,rq,rq,rq,qQ⟩,qX,qX,qY,qY,qX,qX,qZ ⟨⟨congrArg (λq:Rat=>PV.val (.bool (decide (q.num < 0)))) ht1,rfl⟩,⟨congrArg (λq:Rat=>PV.val (.string (ah q.num.natAbs))) ht1,rfl⟩,⟨congrArg (λq:Rat=>PV.val (.string (aO q.den))) ht1,rfl⟩,qQ⟩,qQ⟩ ⟨pP,pP,pP,pP,pP,pP,pP,rfl,rfl,pP,qQ⟩ ⟨⟨pP,pP,pP,pP,pP,pP,pP,qQ⟩,qQ⟩⟩⟩⟩⟩,⟨pr3,⟨pr4,⟨(),[some 0,some 1,some 2,some 3,some 4,some 5,some 6,some 9],I12,Wo ⟨qZ ⟨rq,rq,rq,rq,rq,rq,rq,rq,rq,rq,rq,rq,qQ⟩,qX,qX,qY,qY,qX,qX,qZ ⟨⟨congrArg (λq:Rat=>PV.val (.bool (decide (q.num < 0)))) ht1,rfl⟩,⟨congrArg (λq:Rat=>PV.val (.string (ah q.num.natAbs))) ht1,rfl⟩,⟨congrArg (λq:Rat=>PV.val (.string (aO q.den))) ht1,rfl⟩,qQ⟩,qQ⟩ ⟨pP,pP,pP,pP,pP,pP,pP,rfl,rfl,pP,qQ⟩ ⟨⟨pP,pP,pP,pP,pP,pP,pP,qQ⟩,qQ⟩⟩⟩⟩⟩
    ·have hn12:(decide (ao x 0 > 0)&&decide (ao y 0 > 0))=false:=hn12;have rt:isRk 4294967296 (aw t):=qt.rk (by decide);have r1:isRk 4294967296 (aw s.1):=hq1.rk (by decide);have r2:isRk 4294967296 (aw s.2):=hq2.rk (by decide);obtain⟨lw,hlw⟩:∃z,z=(bif decide (ao y 0 > 0)&&decide (ao t s.1 > 0) then t else s.1):=⟨_,rfl⟩;obtain⟨hgx,hhg⟩:∃z,z=(bif decide (ao x 0 > 0)&&decide (ao t s.2 < 0) then t else s.2):=⟨_,rfl⟩;have el:decide (ao (aE (aw t)) (aE (aw s.1)) > 0)=decide (ao t s.1 > 0):=by rw [aC,aC]
     have eh:decide (ao (aE (aw t)) (aE (aw s.2)) < 0)=decide (ao t s.2 < 0):=by rw [aC,aC]
     have l1:decide (ao y 0 > 0)=true->decide (ao (aE (aw t)) (aE (aw s.1)) > 0)=true->t=lw:=λh h'=>by rw [el] at h';rw [hlw,h,h'];rfl
     have l2:decide (ao (aE (aw t)) (aE (aw s.1)) > 0)=false->s.1=lw:=λh=>by rw [el] at h;rw [hlw,h,Bool.and_false];rfl
     have l3:decide (ao y 0 > 0) = !true->s.1=lw:=λh=>by rw [hlw,h];rfl
     have g1:decide (ao x 0 > 0)=true->decide (ao (aE (aw t)) (aE (aw s.2)) < 0)=true->t=hgx:=λh h'=>by rw [eh] at h';rw [hhg,h,h'];rfl
     have g2:decide (ao (aE (aw t)) (aE (aw s.2)) < 0)=false->s.2=hgx:=λh=>by rw [eh] at h;rw [hhg,h,Bool.and_false];rfl
     have g3:decide (ao x 0 > 0) = !true->s.2=hgx:=λh=>by rw [hhg,h];rfl
     have qw:QB 300000 lw:=by
      rw [hlw];cases (decide (ao y 0 > 0)&&decide (ao t s.1 > 0))
      ·exact hq1
      ·exact qt
     have qg:QB 300000 hgx:=by
      rw [hhg];cases (decide (ao x 0 > 0)&&decide (ao t s.2 < 0))
      ·exact hq2
      ·exact qt
     have hpf2:dC n p a b (n - (k+1)) (k+1) (lw,hgx)=dC n p a b n 0 (mkRat 0 1,mkRat 1 1):=by
      rw [<-hpf,hstep];unfold gD;rw [h9',hn12,<-ht,<-hlw,<-hhg];rfl
     with_unfolding_all refine⟨Unit,λ_=>True,λ_=>aa [(3,.ptr 0 0 0 0),(4,.ptr 1 1 0 0),(5,.ptr 2 2 0 0),(6,.ptr 3 3 0 0),(7,.ptr 4 4 0 0),(8,.ptr 5 5 0 0),(9,.ptr 6 6 0 0),(14,.val (.bool (decide (ao x 0 > 0)))),(15,.val (.bool (decide (ao y 0 > 0)))),(16,.ptr 7 7 0 0)] [⟨117,12,0,true,false,1,λ_=>[.val (.bool a.x.s),.val (.string a.x.b),.val (.string a.x.c),.val (.bool a.y.s),.val (.string a.y.b),.val (.string a.y.c),.val (.bool b.x.s),.val (.string b.x.b),.val (.string b.x.c),.val (.bool b.y.s),.val (.string b.y.b),.val (.string b.y.c)]⟩,aZ false ⟨#[]⟩ ⟨#[]⟩ 1,aZ false ⟨#[]⟩ ⟨#[]⟩ 2,⟨4,1,3,true,false,1,λ_=>[.val (.bool false)]⟩,⟨38,1,4,true,false,1,λ_=>[.val (.int .i64 0)]⟩,bz lw 5,bz s.2 6,bz t 7] 8 [[(3,.ptr 0 0 0 0),(4,.ptr 1 1 0 0),(5,.ptr 2 2 0 0),(6,.ptr 3 3 0 0),(7,.ptr 4 4 0 0),(8,.ptr 5 5 0 0),(9,.ptr 6 6 0 0)]],?_,λ_ _=>?_⟩
     ·with_unfolding_all exact⟨λh1=>⟨⟨rt,r1⟩,λh2=>⟨(),[some 0,some 1,some 2,some 3,some 4,some 5,some 6,some 7],trivial,Wo ⟨qZ ⟨rq,rq,rq,rq,rq,rq,rq,rq,rq,rq,rq,rq,qQ⟩,qX,qX,qY,qY,qZ ⟨⟨congrArg (λq:Rat=>PV.val (.bool (bx q).s)) (l1 h1 h2),rfl⟩,⟨congrArg (λq:Rat=>PV.val (.string (bx q).b)) (l1 h1 h2),rfl⟩,⟨congrArg (λq:Rat=>PV.val (.string (bx q).c)) (l1 h1 h2),rfl⟩,qQ⟩,qX,qX,qQ⟩ ⟨pP,pP,pP,pP,pP,pP,pP,rfl,rfl,pP,qQ⟩ ⟨⟨pP,pP,pP,pP,pP,pP,pP,qQ⟩,qQ⟩⟩,λh2=>⟨(),[some 0,some 1,some 2,some 3,some 4,some 5,some 6,some 7],trivial,Wo ⟨qZ ⟨rq,rq,rq,rq,rq,rq,rq,rq,rq,rq,rq,rq,qQ⟩,qX,qX,qY,qY,qZ ⟨⟨congrArg (λq:Rat=>PV.val (.bool (bx q).s)) (l2 h2),rfl⟩,⟨congrArg (λq:Rat=>PV.val (.string (bx q).b)) (l2 h2),rfl⟩,⟨congrArg (λq:Rat=>PV.val (.string (bx q).c)) (l2 h2),rfl⟩,qQ⟩,qX,qX,qQ⟩ ⟨pP,pP,pP,pP,pP,pP,pP,rfl,rfl,pP,qQ⟩ ⟨⟨pP,pP,pP,pP,pP,pP,pP,qQ⟩,qQ⟩⟩⟩,λh1=>⟨λh2=>(nomatch h2),λh2=>⟨(),[some 0,some 1,some 2,some 3,some 4,some 5,some 6,some 7],trivial,Wo ⟨qZ ⟨rq,rq,rq,rq,rq,rq,rq,rq,rq,rq,rq,rq,qQ⟩,qX,qX,qY,qY,qZ ⟨⟨congrArg (λq:Rat=>PV.val (.bool (bx q).s)) (l3 h1),rfl⟩,⟨congrArg (λq:Rat=>PV.val (.string (bx q).b)) (l3 h1),rfl⟩,⟨congrArg (λq:Rat=>PV.val (.string (bx q).c)) (l3 h1),rfl⟩,qQ⟩,qX,qX,qQ⟩ ⟨pP,pP,pP,pP,pP,pP,pP,rfl,rfl,pP,qQ⟩ ⟨⟨pP,pP,pP,pP,pP,pP,pP,qQ⟩,qQ⟩⟩⟩⟩
     ·with_unfolding_all exact⟨λh1=>⟨⟨rt,r2⟩,λh2=>⟨(lw,hgx),[some 0,some 1,some 2,some 3,some 4,some 5,some 6],⟨⟨qw,qg⟩,hpf2⟩,Wo ⟨qZ ⟨rq,rq,rq,rq,rq,rq,rq,rq,rq,rq,rq,rq,qQ⟩,qX,qX,qY,qY,qX,qZ ⟨⟨congrArg (λq:Rat=>PV.val (.bool (bx q).s)) (g1 h1 h2),rfl⟩,⟨congrArg (λq:Rat=>PV.val (.string (bx q).b)) (g1 h1 h2),rfl⟩,⟨congrArg (λq:Rat=>PV.val (.string (bx q).c)) (g1 h1 h2),rfl⟩,qQ⟩,qQ⟩ ⟨pP,pP,pP,pP,pP,pP,pP,qQ⟩ trivial⟩,λh2=>⟨(lw,hgx),[some 0,some 1,some 2,some 3,some 4,some 5,some 6],⟨⟨qw,qg⟩,hpf2⟩,Wo ⟨qZ ⟨rq,rq,rq,rq,rq,rq,rq,rq,rq,rq,rq,rq,qQ⟩,qX,qX,qY,qY,qX,qZ ⟨⟨congrArg (λq:Rat=>PV.val (.bool (bx q).s)) (g2 h2),rfl⟩,⟨congrArg (λq:Rat=>PV.val (.string (bx q).b)) (g2 h2),rfl⟩,⟨congrArg (λq:Rat=>PV.val (.string (bx q).c)) (g2 h2),rfl⟩,qQ⟩,qQ⟩ ⟨pP,pP,pP,pP,pP,pP,pP,qQ⟩ trivial⟩⟩,λh1=>⟨λh2=>(nomatch h2),λh2=>⟨(lw,hgx),[some 0,some 1,some 2,some 3,some 4,some 5,some 6],⟨⟨qw,qg⟩,hpf2⟩,Wo ⟨qZ ⟨rq,rq,rq,rq,rq,rq,rq,rq,rq,rq,rq,rq,qQ⟩,qX,qX,qY,qY,qX,qZ ⟨⟨congrArg (λq:Rat=>PV.val (.bool (bx q).s)) (g3 h1),rfl⟩,⟨congrArg (λq:Rat=>PV.val (.string (bx q).b)) (g3 h1),rfl⟩,⟨congrArg (λq:Rat=>PV.val (.string (bx q).c)) (g3 h1),rfl⟩,qQ⟩,qQ⟩ ⟨pP,pP,pP,pP,pP,pP,pP,qQ⟩ trivial⟩⟩⟩
    ·with_unfolding_all exact⟨⟨pr3,⟨⟨pr4,⟨(),[some 0,some 1,some 2,some 3,some 4,some 5,some 6,some 9],I12,Wo ⟨qZ ⟨rq,rq,rq,rq,rq,rq,rq,rq,rq,rq,rq,rq,qQ⟩,qX,qX,qY,qY,qX,qX,qZ ⟨⟨congrArg (λq:Rat=>PV.val (.bool (decide (q.num < 0)))) ht1,rfl⟩,⟨congrArg (λq:Rat=>PV.val (.string (ah q.num.natAbs))) ht1,rfl⟩,⟨congrArg (λq:Rat=>PV.val (.string (aO q.den))) ht1,rfl⟩,qQ⟩,qQ⟩ ⟨pP,pP,pP,pP,pP,pP,pP,rfl,rfl,pP,qQ⟩ ⟨⟨pP,pP,pP,pP,pP,pP,pP,qQ⟩,qQ⟩⟩⟩,⟨pr4,⟨(),[some 0,some 1,some 2,some 3,some 4,some 5,some 6,some 9],I12,Wo ⟨qZ ⟨rq,rq,rq,rq,rq,rq,rq,rq,rq,rq,rq,rq,qQ⟩,qX,qX,qY,qY,qX,qX,qZ ⟨⟨congrArg (λq:Rat=>PV.val (.bool (decide (q.num < 0)))) ht1,rfl⟩,⟨congrArg (λq:Rat=>PV.val (.string (ah q.num.natAbs))) ht1,rfl⟩,⟨congrArg (λq:Rat=>PV.val (.string (aO q.den))) ht1,rfl⟩,qQ⟩,qQ⟩ ⟨pP,pP,pP,pP,pP,pP,pP,rfl,rfl,pP,qQ⟩ ⟨⟨pP,pP,pP,pP,pP,pP,pP,qQ⟩,qQ⟩⟩⟩⟩⟩,⟨pr3,⟨pr4,⟨(),[some 0,some 1,some 2,some 3,some 4,some 5,some 6,some 9],I12,Wo ⟨qZ ⟨rq,rq,rq,rq,rq,rq,rq,rq,rq,rq,rq,rq,qQ⟩,qX,qX,qY,qY,qX,qX,qZ ⟨⟨congrArg (λq:Rat=>PV.val (.bool (decide (q.num < 0)))) ht1,rfl⟩,⟨congrArg (λq:Rat=>PV.val (.string (ah q.num.natAbs))) ht1,rfl⟩,⟨congrArg (λq:Rat=>PV.val (.string (aO q.den))) ht1,rfl⟩,qQ⟩,qQ⟩ ⟨pP,pP,pP,pP,pP,pP,pP,rfl,rfl,pP,qQ⟩ ⟨⟨pP,pP,pP,pP,pP,pP,pP,qQ⟩,qQ⟩⟩⟩⟩⟩
    ·have hn12:(decide (ao x 0 > 0)&&decide (ao y 0 > 0))=false:=hn12;have rt:isRk 4294967296 (aw t):=qt.rk (by decide);have r1:isRk 4294967296 (aw s.1):=hq1.rk (by decide);have r2:isRk 4294967296 (aw s.2):=hq2.rk (by decide);obtain⟨lw,hlw⟩:∃z,z=(bif decide (ao y 0 > 0)&&decide (ao t s.1 > 0) then t else s.1):=⟨_,rfl⟩;obtain⟨hgx,hhg⟩:∃z,z=(bif decide (ao x 0 > 0)&&decide (ao t s.2 < 0) then t else s.2):=⟨_,rfl⟩;have el:decide (ao (aE (aw t)) (aE (aw s.1)) > 0)=decide (ao t s.1 > 0):=by rw [aC,aC]
     have eh:decide (ao (aE (aw t)) (aE (aw s.2)) < 0)=decide (ao t s.2 < 0):=by rw [aC,aC]
     have l1:decide (ao y 0 > 0)=true->decide (ao (aE (aw t)) (aE (aw s.1)) > 0)=true->t=lw:=λh h'=>by rw [el] at h';rw [hlw,h,h'];rfl
     have l2:decide (ao (aE (aw t)) (aE (aw s.1)) > 0)=false->s.1=lw:=λh=>by rw [el] at h;rw [hlw,h,Bool.and_false];rfl
     have l3:decide (ao y 0 > 0) = !true->s.1=lw:=λh=>by rw [hlw,h];rfl
     have g1:decide (ao x 0 > 0)=true->decide (ao (aE (aw t)) (aE (aw s.2)) < 0)=true->t=hgx:=λh h'=>by rw [eh] at h';rw [hhg,h,h'];rfl
     have g2:decide (ao (aE (aw t)) (aE (aw s.2)) < 0)=false->s.2=hgx:=λh=>by rw [eh] at h;rw [hhg,h,Bool.and_false];rfl
     have g3:decide (ao x 0 > 0) = !true->s.2=hgx:=λh=>by rw [hhg,h];rfl
     have qw:QB 300000 lw:=by
      rw [hlw];cases (decide (ao y 0 > 0)&&decide (ao t s.1 > 0))
      ·exact hq1
      ·exact qt
     have qg:QB 300000 hgx:=by
      rw [hhg];cases (decide (ao x 0 > 0)&&decide (ao t s.2 < 0))
      ·exact hq2
      ·exact qt
     have hpf2:dC n p a b (n - (k+1)) (k+1) (lw,hgx)=dC n p a b n 0 (mkRat 0 1,mkRat 1 1):=by
      rw [<-hpf,hstep];unfold gD;rw [h9',hn12,<-ht,<-hlw,<-hhg];rfl
     with_unfolding_all refine⟨Unit,λ_=>True,λ_=>aa [(3,.ptr 0 0 0 0),(4,.ptr 1 1 0 0),(5,.ptr 2 2 0 0),(6,.ptr 3 3 0 0),(7,.ptr 4 4 0 0),(8,.ptr 5 5 0 0),(9,.ptr 6 6 0 0),(14,.val (.bool (decide (ao x 0 > 0)))),(15,.val (.bool (decide (ao y 0 > 0)))),(16,.ptr 7 7 0 0)] [⟨117,12,0,true,false,1,λ_=>[.val (.bool a.x.s),.val (.string a.x.b),.val (.string a.x.c),.val (.bool a.y.s),.val (.string a.y.b),.val (.string a.y.c),.val (.bool b.x.s),.val (.string b.x.b),.val (.string b.x.c),.val (.bool b.y.s),.val (.string b.y.b),.val (.string b.y.c)]⟩,aZ false ⟨#[]⟩ ⟨#[]⟩ 1,aZ false ⟨#[]⟩ ⟨#[]⟩ 2,⟨4,1,3,true,false,1,λ_=>[.val (.bool false)]⟩,⟨38,1,4,true,false,1,λ_=>[.val (.int .i64 0)]⟩,bz lw 5,bz s.2 6,bz t 7] 8 [[(3,.ptr 0 0 0 0),(4,.ptr 1 1 0 0),(5,.ptr 2 2 0 0),(6,.ptr 3 3 0 0),(7,.ptr 4 4 0 0),(8,.ptr 5 5 0 0),(9,.ptr 6 6 0 0)]],?_,λ_ _=>?_⟩
     ·with_unfolding_all exact⟨λh1=>⟨⟨rt,r1⟩,λh2=>⟨(),[some 0,some 1,some 2,some 3,some 4,some 5,some 6,some 7],trivial,Wo ⟨qZ ⟨rq,rq,rq,rq,rq,rq,rq,rq,rq,rq,rq,rq,qQ⟩,qX,qX,qY,qY,qZ ⟨⟨congrArg (λq:Rat=>PV.val (.bool (bx q).s)) (l1 h1 h2),rfl⟩,⟨congrArg (λq:Rat=>PV.val (.string (bx q).b)) (l1 h1 h2),rfl⟩,⟨congrArg (λq:Rat=>PV.val (.string (bx q).c)) (l1 h1 h2),rfl⟩,qQ⟩,qX,qX,qQ⟩ ⟨pP,pP,pP,pP,pP,pP,pP,rfl,rfl,pP,qQ⟩ ⟨⟨pP,pP,pP,pP,pP,pP,pP,qQ⟩,qQ⟩⟩,λh2=>⟨(),[some 0,some 1,some 2,some 3,some 4,some 5,some 6,some 7],trivial,Wo ⟨qZ ⟨rq,rq,rq,rq,rq,rq,rq,rq,rq,rq,rq,rq,qQ⟩,qX,qX,qY,qY,qZ ⟨⟨congrArg (λq:Rat=>PV.val (.bool (bx q).s)) (l2 h2),rfl⟩,⟨congrArg (λq:Rat=>PV.val (.string (bx q).b)) (l2 h2),rfl⟩,⟨congrArg (λq:Rat=>PV.val (.string (bx q).c)) (l2 h2),rfl⟩,qQ⟩,qX,qX,qQ⟩ ⟨pP,pP,pP,pP,pP,pP,pP,rfl,rfl,pP,qQ⟩ ⟨⟨pP,pP,pP,pP,pP,pP,pP,qQ⟩,qQ⟩⟩⟩,λh1=>⟨λh2=>(nomatch h2),λh2=>⟨(),[some 0,some 1,some 2,some 3,some 4,some 5,some 6,some 7],trivial,Wo ⟨qZ ⟨rq,rq,rq,rq,rq,rq,rq,rq,rq,rq,rq,rq,qQ⟩,qX,qX,qY,qY,qZ ⟨⟨congrArg (λq:Rat=>PV.val (.bool (bx q).s)) (l3 h1),rfl⟩,⟨congrArg (λq:Rat=>PV.val (.string (bx q).b)) (l3 h1),rfl⟩,⟨congrArg (λq:Rat=>PV.val (.string (bx q).c)) (l3 h1),rfl⟩,qQ⟩,qX,qX,qQ⟩ ⟨pP,pP,pP,pP,pP,pP,pP,rfl,rfl,pP,qQ⟩ ⟨⟨pP,pP,pP,pP,pP,pP,pP,qQ⟩,qQ⟩⟩⟩⟩
     ·with_unfolding_all exact⟨λh1=>⟨⟨rt,r2⟩,λh2=>⟨(lw,hgx),[some 0,some 1,some 2,some 3,some 4,some 5,some 6],⟨⟨qw,qg⟩,hpf2⟩,Wo ⟨qZ ⟨rq,rq,rq,rq,rq,rq,rq,rq,rq,rq,rq,rq,qQ⟩,qX,qX,qY,qY,qX,qZ ⟨⟨congrArg (λq:Rat=>PV.val (.bool (bx q).s)) (g1 h1 h2),rfl⟩,⟨congrArg (λq:Rat=>PV.val (.string (bx q).b)) (g1 h1 h2),rfl⟩,⟨congrArg (λq:Rat=>PV.val (.string (bx q).c)) (g1 h1 h2),rfl⟩,qQ⟩,qQ⟩ ⟨pP,pP,pP,pP,pP,pP,pP,qQ⟩ trivial⟩,λh2=>⟨(lw,hgx),[some 0,some 1,some 2,some 3,some 4,some 5,some 6],⟨⟨qw,qg⟩,hpf2⟩,Wo ⟨qZ ⟨rq,rq,rq,rq,rq,rq,rq,rq,rq,rq,rq,rq,qQ⟩,qX,qX,qY,qY,qX,qZ ⟨⟨congrArg (λq:Rat=>PV.val (.bool (bx q).s)) (g2 h2),rfl⟩,⟨congrArg (λq:Rat=>PV.val (.string (bx q).b)) (g2 h2),rfl⟩,⟨congrArg (λq:Rat=>PV.val (.string (bx q).c)) (g2 h2),rfl⟩,qQ⟩,qQ⟩ ⟨pP,pP,pP,pP,pP,pP,pP,qQ⟩ trivial⟩⟩,λh1=>⟨λh2=>(nomatch h2),λh2=>⟨(lw,hgx),[some 0,some 1,some 2,some 3,some 4,some 5,some 6],⟨⟨qw,qg⟩,hpf2⟩,Wo ⟨qZ ⟨rq,rq,rq,rq,rq,rq,rq,rq,rq,rq,rq,rq,qQ⟩,qX,qX,qY,qY,qX,qZ ⟨⟨congrArg (λq:Rat=>PV.val (.bool (bx q).s)) (g3 h1),rfl⟩,⟨congrArg (λq:Rat=>PV.val (.string (bx q).b)) (g3 h1),rfl⟩,⟨congrArg (λq:Rat=>PV.val (.string (bx q).c)) (g3 h1),rfl⟩,qQ⟩,qQ⟩ ⟨pP,pP,pP,pP,pP,pP,pP,qQ⟩ trivial⟩⟩⟩
   ·obtain⟨⟨hq1,hq2⟩,hpf⟩:(QB 300000 s.1/\QB 300000 s.2)/\dC n p a b (n - n) n s=dC n p a b n 0 (mkRat 0 1,mkRat 1 1):=hI;have r1:isRk 4294967296 (aw s.1):=hq1.rk (by decide);have r2:isRk 4294967296 (aw s.2):=hq2.rk (by decide);rw [Nat.sub_self] at hpf;have hXs:X=bif decide (ao s.1 s.2>=0) then none else some s:=by
     rw [hX];unfold dh;rw [<-hB,hbd,<-hpf];rfl
    have ec:decide (ao (aE (aw s.1)) (aE (aw s.2))>=0)=decide (ao s.1 s.2>=0):=by rw [aC,aC]
    have xn:decide (ao (aE (aw s.1)) (aE (aw s.2))>=0)=true->X=none:=λh=>by
     rw [ec] at h;rw [hXs,h];rfl
    have xs:decide (ao (aE (aw s.1)) (aE (aw s.2))>=0)=false->X=some s:=λh=>by
     rw [ec] at h;rw [hXs,h];rfl
    have sl:decide (ao (aE (aw s.1)) (aE (aw s.2))>=0)=false->s.1=kx X:=λh=>by rw [xs h];rfl
    have sh:decide (ao (aE (aw s.1)) (aE (aw s.2))>=0)=false->s.2=kW X:=λh=>by rw [xs h];rfl
    have si:decide (ao (aE (aw s.1)) (aE (aw s.2))>=0)=false->PV.val (.bool true)=PV.val (.bool X.isSome):=λh=>by rw [xs h];rfl
    with_unfolding_all exact⟨⟨r1,r2⟩,λh1=>⟨[some 1,some 2,some 3,some 4],aa [(4,.ptr 0 0 0 0),(5,.ptr 1 1 0 0),(6,.ptr 2 2 0 0),(7,.ptr 3 3 0 0)] [bz (kx X) 0,bz (kW X) 1,⟨4,1,2,true,false,1,λ_=>[.val (.bool X.isSome)]⟩,⟨38,1,3,true,false,1,λ_=>[.val (.int .i64 (bif Bd then 1 else 0))]⟩] 4 [],Wo ⟨qZ ⟨⟨(zb (xn h1)).1,rfl⟩,⟨(zb (xn h1)).2.1,rfl⟩,⟨(zb (xn h1)).2.2.1,rfl⟩,qQ⟩,qZ ⟨⟨(zc (xn h1)).1,rfl⟩,⟨(zc (xn h1)).2.1,rfl⟩,⟨(zc (xn h1)).2.2,rfl⟩,qQ⟩,qZ ⟨⟨(zb (xn h1)).2.2.2,rfl⟩,qQ⟩,qZ ⟨⟨e0 hbd,rfl⟩,qQ⟩,qQ⟩ ⟨pP,pP,pP,pP,qQ⟩ trivial,rfl,rfl⟩,λh1=>⟨⟨⟨[some 1,some 2,some 3,some 4],aa [(4,.ptr 0 0 0 0),(5,.ptr 1 1 0 0),(6,.ptr 2 2 0 0),(7,.ptr 3 3 0 0)] [bz (kx X) 0,bz (kW X) 1,⟨4,1,2,true,false,1,λ_=>[.val (.bool X.isSome)]⟩,⟨38,1,3,true,false,1,λ_=>[.val (.int .i64 (bif Bd then 1 else 0))]⟩] 4 [],Wo ⟨qZ ⟨⟨congrArg (λq:Rat=>PV.val (.bool (bx q).s)) (sl h1),rfl⟩,⟨congrArg (λq:Rat=>PV.val (.string (bx q).b)) (sl h1),rfl⟩,⟨congrArg (λq:Rat=>PV.val (.string (bx q).c)) (sl h1),rfl⟩,qQ⟩,qZ ⟨⟨congrArg (λq:Rat=>PV.val (.bool (bx q).s)) (sh h1),rfl⟩,⟨congrArg (λq:Rat=>PV.val (.string (bx q).b)) (sh h1),rfl⟩,⟨congrArg (λq:Rat=>PV.val (.string (bx q).c)) (sh h1),rfl⟩,qQ⟩,qZ ⟨⟨si h1,rfl⟩,qQ⟩,qZ ⟨⟨e0 hbd,rfl⟩,qQ⟩,qQ⟩ ⟨pP,pP,pP,pP,qQ⟩ trivial,rfl,rfl⟩,⟨[some 1,some 2,some 3,some 4],aa [(4,.ptr 0 0 0 0),(5,.ptr 1 1 0 0),(6,.ptr 2 2 0 0),(7,.ptr 3 3 0 0)] [bz (kx X) 0,bz (kW X) 1,⟨4,1,2,true,false,1,λ_=>[.val (.bool X.isSome)]⟩,⟨38,1,3,true,false,1,λ_=>[.val (.int .i64 (bif Bd then 1 else 0))]⟩] 4 [],Wo ⟨qZ ⟨⟨congrArg (λq:Rat=>PV.val (.bool (bx q).s)) (sl h1),rfl⟩,⟨congrArg (λq:Rat=>PV.val (.string (bx q).b)) (sl h1),rfl⟩,⟨congrArg (λq:Rat=>PV.val (.string (bx q).c)) (sl h1),rfl⟩,qQ⟩,qZ ⟨⟨congrArg (λq:Rat=>PV.val (.bool (bx q).s)) (sh h1),rfl⟩,⟨congrArg (λq:Rat=>PV.val (.string (bx q).b)) (sh h1),rfl⟩,⟨congrArg (λq:Rat=>PV.val (.string (bx q).c)) (sh h1),rfl⟩,qQ⟩,qZ ⟨⟨si h1,rfl⟩,qQ⟩,qZ ⟨⟨e0 hbd,rfl⟩,qQ⟩,qQ⟩ ⟨pP,pP,pP,pP,qQ⟩ trivial,rfl,rfl⟩⟩,⟨[some 1,some 2,some 3,some 4],aa [(4,.ptr 0 0 0 0),(5,.ptr 1 1 0 0),(6,.ptr 2 2 0 0),(7,.ptr 3 3 0 0)] [bz (kx X) 0,bz (kW X) 1,⟨4,1,2,true,false,1,λ_=>[.val (.bool X.isSome)]⟩,⟨38,1,3,true,false,1,λ_=>[.val (.int .i64 (bif Bd then 1 else 0))]⟩] 4 [],Wo ⟨qZ ⟨⟨congrArg (λq:Rat=>PV.val (.bool (bx q).s)) (sl h1),rfl⟩,⟨congrArg (λq:Rat=>PV.val (.string (bx q).b)) (sl h1),rfl⟩,⟨congrArg (λq:Rat=>PV.val (.string (bx q).c)) (sl h1),rfl⟩,qQ⟩,qZ ⟨⟨congrArg (λq:Rat=>PV.val (.bool (bx q).s)) (sh h1),rfl⟩,⟨congrArg (λq:Rat=>PV.val (.string (bx q).b)) (sh h1),rfl⟩,⟨congrArg (λq:Rat=>PV.val (.string (bx q).c)) (sh h1),rfl⟩,qQ⟩,qZ ⟨⟨si h1,rfl⟩,qQ⟩,qZ ⟨⟨e0 hbd,rfl⟩,qQ⟩,qQ⟩ ⟨pP,pP,pP,pP,qQ⟩ trivial,rfl,rfl⟩⟩⟩
 ·cases e
end Go.Proofs
namespace Go.Num
def br (lo hi:PtS) (k:Nat) (c:Nat->List PV) (l:Nat) (o:Nat->List PV):List PV:=[.val (.bool lo.x.s),.val (.string lo.x.b),.val (.string lo.x.c),.val (.bool lo.y.s),.val (.string lo.y.b),.val (.string lo.y.c),.val (.bool hi.x.s),.val (.string hi.x.b),.val (.string hi.x.c),.val (.bool hi.y.s),.val (.string hi.y.b),.val (.string hi.y.c),.rs 1 k (λi=>[.rs 6 (pn c i) (pg c i)]),.rs 3 l (λi=>ag (ow o i))]
def bV:List PV->PtS
 |a1::a2::a3::a4::a5::a6::_=>cr [a1,a2,a3,a4,a5,a6]
 |_=>cr []
def bW:List PV->PtS
 |_::_::_::_::_::_::a1::a2::a3::a4::a5::a6::_=>cr [a1,a2,a3,a4,a5,a6]
 |_=>cr []
def gK:List PV->Nat
 |[_,_,_,_,_,_,_,_,_,_,_,_,.rs 1 k _,_]=>k
 |_=>0
def gC:List PV->Nat->List PV
 |[_,_,_,_,_,_,_,_,_,_,_,_,.rs 1 _ c,_]=>c
 |_=>λ_=>[]
def gL:List PV->Nat
 |[_,_,_,_,_,_,_,_,_,_,_,_,_,.rs 3 l _]=>l
 |_=>0
def gO:List PV->Nat->List PV
 |[_,_,_,_,_,_,_,_,_,_,_,_,_,.rs 3 _ o]=>o
 |_=>λ_=>[]
def AB (h:Nat->List PV):Prop:=h=λ_=>br (bV (h 0)) (bW (h 0)) (gK (h 0)) (gC (h 0)) (gL (h 0)) (gO (h 0))
def sA:List PV->PtS
 |[a1,a2,a3,a4,a5,a6,_,_,_,_,_,_]=>cr [a1,a2,a3,a4,a5,a6]
 |_=>cr []
def sB:List PV->PtS
 |[_,_,_,_,_,_,a1,a2,a3,a4,a5,a6]=>cr [a1,a2,a3,a4,a5,a6]
 |_=>cr []
def FO (h:Nat->List PV):Prop:=h=λ_=>kw (sA (h 0)) (sB (h 0))
def dT (i:Nat) (lo hi a b:PtS):List (Int×Rat) :=
 bif decide (ao (aL i lo hi a) 0<=0)&&decide (ao (aL i lo hi b) 0<=0) then [] else [(-((i:Int)+1),bif decide (ao (aL i lo hi a) 0<=0) then aL i lo hi a / (aL i lo hi a - aL i lo hi b) else 0)]
def rK (i:Nat) (n:Nat) (p:Nat->PtS) (a b:PtS):List (Int×Rat):=match dh n p a b with
 |none=>[]
 |some s=>[((i:Int),s.1)]
def aG (lo hi:PtS) (n:Nat->Nat) (p:Nat->Nat->PtS) (a b:PtS):Nat->List (Int×Rat)
 |0=>[]
 |j+1=>aG lo hi n p a b j++(if j < 4 then dT j lo hi a b else rK (j - 4) (n (j - 4)) (p (j - 4)) a b)
def ic (lo hi:PtS) (k:Nat) (n:Nat->Nat) (p:Nat->Nat->PtS) (a b:PtS):List (Int×Rat):=aG lo hi n p a b (k+4)
theorem fO (i:Nat) {lo hi p:PtS} (h1:PtS.le 10000 lo) (h2:PtS.le 10000 hi) (h3:PtS.le 10000 p):QB 20003 (aL i lo hi p):=by
 unfold aL;split
 ·exact(h1.X.sub h3.X).le (by decide)
 ·exact(h3.X.sub h2.X).le (by decide)
 ·exact(h1.Y.sub h3.Y).le (by decide)
 ·exact(h3.Y.sub h2.Y).le (by decide)
theorem mD {lo hi:PtS} {n:Nat->Nat} {p:Nat->Nat->PtS} {a b:PtS}:∀(d j:Nat),aG lo hi n p a b j <+: aG lo hi n p a b (j+d)
 |0,j=>List.prefix_refl _
 |d+1,j=>(mD d j).trans (List.prefix_append _ _)
theorem f9 {lo hi:PtS} {n:Nat->Nat} {p:Nat->Nat->PtS} {a b:PtS} {j k:Nat} (h:j < k) {x:Int×Rat} (hx:(if j < 4 then dT j lo hi a b else rK (j - 4) (n (j - 4)) (p (j - 4)) a b)=[x]) :
  (aG lo hi n p a b k)[(aG lo hi n p a b j).length]? = some x/\(aG lo hi n p a b j).length < (aG lo hi n p a b k).length/\(aG lo hi n p a b (j+1)).length=(aG lo hi n p a b j).length+1:=by
 obtain⟨t,ht⟩:=mD (lo:=lo) (hi:=hi) (n:=n) (p:=p) (a:=a) (b:=b) (k - (j+1)) (j+1);rw [show j+1+(k - (j+1))=k by omega] at ht;have e:aG lo hi n p a b (j+1)=aG lo hi n p a b j++[x]:=by rw [aG,hx]
 rw [<-ht,e];simp
def Bp (L:List (Int×Rat)) (i:Nat):Int:=match L[i]? with
 |some q=>q.1
 |none=>0
def DG (L:List (Int×Rat)) (i:Nat):Rat:=match L[i]? with
 |some q=>q.2
 |none=>0
def ig (L:List (Int×Rat)) (i:Nat):List PV:=[.val (.int .i64 (Bp L i)),.val (aw (DG L i))]
end Go.Num
namespace Go.Proofs
def CX:List PV->Option Ans
 |[.agg [.val (.bool s1),.val (.string b1),.val (.string c1),.val (.bool s2),.val (.string b2),.val (.string c2),.val (.bool s3),.val (.string b3),.val (.string c3),.val (.bool s4),.val (.string b4),.val (.string c4),.rs 1 k c,.rs 3 l o],.val v]=>some ⟨some (((∀i,i < k->c i=[.rs 6 (pn c i) (pg c i)])/\∀i,i < l->o i=ag (ow o i))/\∃a b,v=ar a b),.fn (.func 171) [] [.rp 14 1 (λ_=>br (PtS.mk ⟨s1,b1,c1⟩ ⟨s2,b2,c2⟩) (PtS.mk ⟨s3,b3,c3⟩ ⟨s4,b4,c4⟩) k c l o) 0 0,.rp 12 1 (λ_=>kw (aM v).1 (aM v).2) 0 0],[]⟩
 |_=>none
theorem FP:am {} Tryz.f126 2=true:=by kernel_rfl
theorem f126:FnOk Tryz.prog 126 CX:=by
 refine FnOk.ofW aj (an (l:=[]) (own:=[]) (inl:=[]) (by simp) (by simp)) Tryz.func126 {} 2 FP λargs r e=>?_;unfold CX at e;split at e
 ·rename_i s1 b1 c1 s2 b2 c2 s3 b3 c3 s4 b4 c4 k c l o v
  cases e;refine⟨by simp,λhm=>?_⟩;obtain⟨⟨hc,ho⟩,a,b,rfl⟩:=hm _ rfl;have hc1:∀i,i < k->[.rs 6 (pn c i) (pg c i)]=c i:=λi hi=>(hc i hi).symm;have ho1:∀i,i < l->ag (ow o i)=o i:=λi hi=>(ho i hi).symm;refine⟨[],aa [(0,.agg [.val (.bool (PtS.mk ⟨s1,b1,c1⟩ ⟨s2,b2,c2⟩).x.s),.val (.string (PtS.mk ⟨s1,b1,c1⟩ ⟨s2,b2,c2⟩).x.b),.val (.string (PtS.mk ⟨s1,b1,c1⟩ ⟨s2,b2,c2⟩).x.c),.val (.bool (PtS.mk ⟨s1,b1,c1⟩ ⟨s2,b2,c2⟩).y.s),.val (.string (PtS.mk ⟨s1,b1,c1⟩ ⟨s2,b2,c2⟩).y.b),.val (.string (PtS.mk ⟨s1,b1,c1⟩ ⟨s2,b2,c2⟩).y.c),.val (.bool (PtS.mk ⟨s3,b3,c3⟩ ⟨s4,b4,c4⟩).x.s),.val (.string (PtS.mk ⟨s3,b3,c3⟩ ⟨s4,b4,c4⟩).x.b),.val (.string (PtS.mk ⟨s3,b3,c3⟩ ⟨s4,b4,c4⟩).x.c),.val (.bool (PtS.mk ⟨s3,b3,c3⟩ ⟨s4,b4,c4⟩).y.s),.val (.string (PtS.mk ⟨s3,b3,c3⟩ ⟨s4,b4,c4⟩).y.b),.val (.string (PtS.mk ⟨s3,b3,c3⟩ ⟨s4,b4,c4⟩).y.c),.rs 1 k (λi=>[.rs 6 (pn c i) (pg c i)]),.rs 3 l (λi=>ag (ow o i))]),(1,.val (ar a b))] [] 0 [],Wo trivial ⟨⟨rfl,rfl,rfl,rfl,rfl,rfl,rfl,rfl,rfl,rfl,rfl,rfl,⟨rfl,rfl,hc1⟩,⟨rfl,rfl,ho1⟩,qQ⟩,rfl,qQ⟩ trivial,?_⟩;with_unfolding_all exact⟨[some 0,some 1],aa [(4,.fn (.func 171) [] [.ptr 0 0 0 0,.ptr 1 1 0 0])] [⟨31,14,0,true,false,1,λ_=>br (PtS.mk ⟨s1,b1,c1⟩ ⟨s2,b2,c2⟩) (PtS.mk ⟨s3,b3,c3⟩ ⟨s4,b4,c4⟩) k c l o⟩,⟨117,12,1,true,false,1,λ_=>kw a b⟩] 2 [],Wo ⟨qZ ⟨rq,rq,rq,rq,rq,rq,rq,rq,rq,rq,rq,rq,⟨qW,rfl⟩,⟨qW,rfl⟩,qQ⟩,qZ ⟨rq,rq,rq,rq,rq,rq,rq,rq,rq,rq,rq,rq,qQ⟩,qQ⟩ ⟨⟨rfl,trivial,pP,pP,qQ⟩,qQ⟩ trivial,rfl,rfl⟩
 ·cases e
def CY:List PV->Option gR
 |[.rp 14 1 h 0 0,.rp 12 1 h' 0 0]=>some ⟨some ((AB h/\FO h')/\((bV (h 0)).le 10000/\(bW (h 0)).le 10000)/\((sA (h' 0)).le 10000/\(sB (h' 0)).le 10000)/\bU 10000 (gK (h 0)) (gC (h 0))),(ic (bV (h 0)) (bW (h 0)) (gK (h 0)) (pn (gC (h 0))) (λi=>ab (pg (gC (h 0)) i)) (sA (h' 0)) (sB (h' 0))).length,ig (ic (bV (h 0)) (bW (h 0)) (gK (h 0)) (pn (gC (h 0))) (λi=>ab (pg (gC (h 0)) i)) (sA (h' 0)) (sB (h' 0)))⟩
 |_=>none
def D171:Opt:={ perm:=jh [(3,(.rd 0 (.rd 1 (.rd 2 (.rd 3 (.rd 4 (.rd 5 (.rd 7 (.rd 8 (.rd 9 (.rd 10 (.rd 11 (.rd 12 (.alt 6 (.alt 13 (.alt 14 (.mk 15 .nil) (.mk 15 (.mk 14 .nil))) (.alt 14 (.alt 13 (.mk 15 .nil) (.mk 15 (.mk 13 .nil))) (.mk 15 (.alt 13 (.mk 14 .nil) (.mk 14 (.mk 13 .nil)))))) (.alt 14 (.alt 6 (.alt 13 (.mk 15 .nil) (.mk 15 (.mk 13 .nil))) (.mk 15 (.mk 6 (.mk 13 .nil)))) (.mk 15 (.alt 6 (.alt 13 (.mk 14 .nil) (.mk 14 (.mk 13 .nil))) (.mk 14 (.mk 6 (.mk 13 .nil)))))))))))))))))))),(7,(.rd 0 (.rd 1 (.rd 2 (.mk 3 (.mk 4 (.rd 5 (.rd 6 (.rd 7 .nil)))))))))] }
theorem FQ:am D171.toOrd Tryz.f171 3=true:=by kernel_rfl
theorem f171:SeqFn Tryz.prog 171 CY:=by
 refine SeqFn.of aj (an (l:=[(172,CU),(208,CQ),(209,CR),(210,CS),(211,CT),(139,yr),(115,m8),(173,Aa),(174,CW)]) (own:=[]) (inl:=[]) (by simp [f172,f208,f209,f210,f211,f139,f115,f173,f174]) (by simp)) Tryz.func171 D171 3 FQ rfl λargs r e=>?_;unfold CY at e;split at e
 ·rename_i h h'
  cases e;refine⟨by simp,λhm L0=>?_⟩;obtain⟨⟨h1,h2⟩,⟨hlo,hhi⟩,⟨ha,hb⟩,hc,hk⟩:=hm _ rfl;unfold AB at h1;unfold FO at h2;generalize bV (h 0)=lo at *
  generalize bW (h 0)=hi at *
  generalize gK (h 0)=k at *
  generalize gC (h 0)=c at *
  generalize gL (h 0)=l at *
  generalize gO (h 0)=o at *
  generalize sA (h' 0)=a at *
  generalize sB (h' 0)=b at *
  subst h1;subst h2;clear hm;unfold ic;have hlo':=hlo.mono (show 10000<=4294967296 by decide);have hhi':=hhi.mono (show 10000<=4294967296 by decide);have ha':=ha.mono (show 10000<=4294967296 by decide);have hb':=hb.mono (show 10000<=4294967296 by decide);with_unfolding_all refine⟨Nat,λj=>j<=4,λj=>aa [(0,.val (.func (.yield L0) ⟨[]⟩ ⟨[]⟩)),(1,.rp 14 1 (λ_=>br lo hi k c l o) 0 0),(2,.rp 12 1 (λ_=>kw a b) 0 0),(15,.val (.agg ⟨[.int .i64 (-1),.func (.func 208) ⟨[]⟩ ⟨[]⟩,.int .i64 (-2),.func (.func 209) ⟨[]⟩ ⟨[]⟩,.int .i64 (-3),.func (.func 210) ⟨[]⟩ ⟨[]⟩,.int .i64 (-4),.func (.func 211) ⟨[]⟩ ⟨[]⟩]⟩)),(16,.val (goInt ((j:Nat):Int)))] [] 0 [[(0,.val (.int .i64 ((aG lo hi (pn c) (λi=>ab (pg c i)) a b (j)).length:Nat))),(1,.val (.bool false))]],λj=>4 - j,⟨0,[],Nat.zero_le _,Wo trivial ⟨rfl,⟨rfl,rfl,rfl,rfl,λ_ _=>rfl⟩,⟨rfl,rfl,rfl,rfl,λ_ _=>rfl⟩,rfl,rfl,qQ⟩ ⟨⟨rfl,rfl,qQ⟩,qQ⟩⟩,λj hj=>?_⟩
  match j,hj with
  |0,_ =>
   obtain⟨x,hx⟩:∃x,x=(aL 0 (aM (ar lo hi)).1 (aM (ar lo hi)).2 (aN a.v)):=⟨_,rfl⟩;obtain⟨y,hy⟩:∃y,y=(aL 0 (aM (ar lo hi)).1 (aM (ar lo hi)).2 (aN b.v)):=⟨_,rfl⟩;have hx1:aL 0 lo hi a=x:=by rw [hx];rfl
   have hy1:aL 0 lo hi b=y:=by rw [hy];rfl
   have qx:QB 20003 x:=by rw [<-hx1];exact fO 0 hlo hhi ha
   have qy:QB 20003 y:=by rw [<-hy1];exact fO 0 hlo hhi hb
   have hone:dT 0 lo hi a b=bif decide (ao x 0<=0)&&decide (ao y 0<=0) then [] else [(-((0:Nat)+1:Int),bif decide (ao x 0<=0) then x / (x - y) else 0)]:=by unfold dT;rw [hx1,hy1]
   have rx:isRk 4294967296 (aw (aL 0 (aM (ar lo hi)).1 (aM (ar lo hi)).2 (aN a.v))):=by rw [<-hx];exact qx.rk (by decide)
   have ry:isRk 4294967296 (aw (aL 0 (aM (ar lo hi)).1 (aM (ar lo hi)).2 (aN b.v))):=by rw [<-hy];exact qy.rk (by decide)
   have rd:isRk 4294967296 (aw (aE (aw (aL 0 (aM (ar lo hi)).1 (aM (ar lo hi)).2 (aN a.v))) - aE (aw (aL 0 (aM (ar lo hi)).1 (aM (ar lo hi)).2 (aN b.v))))):=by rw [aC,aC,<-hx,<-hy];exact(qx.sub qy).rk (by decide)
   have ix:decide (ao (aE (aw (aL 0 (aM (ar lo hi)).1 (aM (ar lo hi)).2 (aN a.v)))) 0<=0)=decide (ao x 0<=0):=by rw [aC,<-hx]
   have iy:decide (ao (aE (aw (aL 0 (aM (ar lo hi)).1 (aM (ar lo hi)).2 (aN b.v)))) 0<=0)=decide (ao y 0<=0):=by rw [aC,<-hy]
   have it:aE (aw (aL 0 (aM (ar lo hi)).1 (aM (ar lo hi)).2 (aN a.v))) / aE (aw (aE (aw (aL 0 (aM (ar lo hi)).1 (aM (ar lo hi)).2 (aN a.v))) - aE (aw (aL 0 (aM (ar lo hi)).1 (aM (ar lo hi)).2 (aN b.v)))))=x / (x - y):=by rw [aC,aC,aC,<-hx,<-hy]
   have prA:dQ 4294967296 (ar lo hi)/\isPk 4294967296 a.v:=⟨⟨lo,hi,rfl,hlo',hhi'⟩,a,rfl,ha'⟩;have prB:dQ 4294967296 (ar lo hi)/\isPk 4294967296 b.v:=⟨⟨lo,hi,rfl,hlo',hhi'⟩,b,rfl,hb'⟩;have sk:decide (ao (aE (aw (aL 0 (aM (ar lo hi)).1 (aM (ar lo hi)).2 (aN a.v)))) 0<=0)=true->decide (ao (aE (aw (aL 0 (aM (ar lo hi)).1 (aM (ar lo hi)).2 (aN b.v)))) 0<=0)=true->(aG lo hi (pn c) (λi=>ab (pg c i)) a b (0)).length=(aG lo hi (pn c) (λi=>ab (pg c i)) a b (1)).length:=λh h'=>by
    rw [ix] at h;rw [iy] at h';have e:aG lo hi (pn c) (λi=>ab (pg c i)) a b (0+1)=aG lo hi (pn c) (λi=>ab (pg c i)) a b 0++dT 0 lo hi a b:=rfl;rw [e,hone,h,h'];simp
   have yl:∀fr:Rat,dT 0 lo hi a b=[(-((0:Nat)+1:Int),fr)]->(aG lo hi (pn c) (λi=>ab (pg c i)) a b (0)).length < (aG lo hi (pn c) (λi=>ab (pg c i)) a b (k+4)).length/\[PV.val (.int .i64 (-1)),PV.val (aw fr)]=ig (aG lo hi (pn c) (λi=>ab (pg c i)) a b (k+4)) (aG lo hi (pn c) (λi=>ab (pg c i)) a b (0)).length/\(aG lo hi (pn c) (λi=>ab (pg c i)) a b (0)).length+1=(aG lo hi (pn c) (λi=>ab (pg c i)) a b (1)).length:=λfr h=>by
    have h1:=f9 (n:=pn c) (p:=λi=>ab (pg c i)) (show 0 < k+4 by omega) (x:=(-((0:Nat)+1:Int),fr)) (by rw [if_pos (by decide)];exact h);refine⟨h1.2.1,?_,h1.2.2.symm⟩;unfold ig Bp DG;rw [h1.1];rfl
   have fa:(decide (ao x 0<=0)&&decide (ao y 0<=0))=false->decide (ao (aE (aw (aL 0 (aM (ar lo hi)).1 (aM (ar lo hi)).2 (aN a.v)))) 0<=0)=true->dT 0 lo hi a b=[(-((0:Nat)+1:Int),aE (aw (aL 0 (aM (ar lo hi)).1 (aM (ar lo hi)).2 (aN a.v))) / aE (aw (aE (aw (aL 0 (aM (ar lo hi)).1 (aM (ar lo hi)).2 (aN a.v))) - aE (aw (aL 0 (aM (ar lo hi)).1 (aM (ar lo hi)).2 (aN b.v))))))]:=λh h'=>by
    rw [ix] at h';rw [hone,h,h',it];rfl
   have fb:(decide (ao x 0<=0)&&decide (ao y 0<=0))=false->decide (ao (aE (aw (aL 0 (aM (ar lo hi)).1 (aM (ar lo hi)).2 (aN a.v)))) 0<=0)=false->dT 0 lo hi a b=[(-((0:Nat)+1:Int),0)]:=λh h'=>by
    rw [ix] at h';rw [hone,h,h'];rfl
   have k1:decide (ao (aE (aw (aL 0 (aM (ar lo hi)).1 (aM (ar lo hi)).2 (aN b.v)))) 0<=0)=false->(decide (ao x 0<=0)&&decide (ao y 0<=0))=false:=λh=>by
    rw [iy] at h;rw [h,Bool.and_false]
   have k2:decide (ao (aE (aw (aL 0 (aM (ar lo hi)).1 (aM (ar lo hi)).2 (aN a.v)))) 0<=0) = !true->(decide (ao x 0<=0)&&decide (ao y 0<=0))=false:=λh=>by
    rw [ix] at h;rw [h];rfl
   clear hx hy;with_unfolding_all refine⟨λ_=>⟨⟨by decide,by decide⟩,⟨⟨prA,⟨⟨prB,⟨?_,?_⟩⟩,⟨⟨⟨prB,?_⟩,⟨prB,?_⟩⟩,⟨⟨prB,?_⟩,⟨prB,?_⟩⟩⟩⟩⟩,⟨⟨⟨prA,⟨⟨prB,?_⟩,⟨prB,?_⟩⟩⟩,⟨prA,⟨prB,?_⟩⟩⟩,⟨⟨prA,⟨⟨prB,?_⟩,⟨prB,?_⟩⟩⟩,⟨prA,⟨prB,?_⟩⟩⟩⟩⟩⟩,λhh=>absurd hh (by decide)⟩
   all_goals with_unfolding_all refine⟨rx,λh1=>⟨ry,λh2=>⟨1,[],by show 1<=4;decide,by show 4 - 1 < 4 - 0;decide,Wo trivial ⟨rfl,⟨rfl,rfl,rfl,rfl,λ_ _=>rfl⟩,⟨rfl,rfl,rfl,rfl,λ_ _=>rfl⟩,rfl,rfl,qQ⟩ ⟨⟨congrArg (λz:Nat=>PV.val (.int .i64 (z:Int))) (sk h1 h2),rfl,qQ⟩,qQ⟩⟩,λh2=>⟨rx,λh3=>⟨⟨rx,ry⟩,⟨rx,rd⟩,⟨rfl,(aG lo hi (pn c) (λi=>ab (pg c i)) a b (0)).length,rfl,(yl _ (fa (k1 h2) h3)).1,(yl _ (fa (k1 h2) h3)).2.1,⟨λe=>(nomatch e),λ_=>⟨1,[],by show 1<=4;decide,by show 4 - 1 < 4 - 0;decide,Wo trivial ⟨rfl,⟨rfl,rfl,rfl,rfl,λ_ _=>rfl⟩,⟨rfl,rfl,rfl,rfl,λ_ _=>rfl⟩,rfl,rfl,qQ⟩ ⟨⟨congrArg (λz:Nat=>PV.val (.int .i64 (z:Int))) (yl _ (fa (k1 h2) h3)).2.2,rfl,qQ⟩,qQ⟩⟩⟩,⟨λ_=>trivial,λe=>(nomatch e)⟩⟩⟩,λh3=>⟨rfl,(aG lo hi (pn c) (λi=>ab (pg c i)) a b (0)).length,rfl,(yl _ (fb (k1 h2) h3)).1,(yl _ (fb (k1 h2) h3)).2.1,⟨λe=>(nomatch e),λ_=>⟨1,[],by show 1<=4;decide,by show 4 - 1 < 4 - 0;decide,Wo trivial ⟨rfl,⟨rfl,rfl,rfl,rfl,λ_ _=>rfl⟩,⟨rfl,rfl,rfl,rfl,λ_ _=>rfl⟩,rfl,rfl,qQ⟩ ⟨⟨congrArg (λz:Nat=>PV.val (.int .i64 (z:Int))) (yl _ (fb (k1 h2) h3)).2.2,rfl,qQ⟩,qQ⟩⟩⟩,⟨λ_=>trivial,λe=>(nomatch e)⟩⟩⟩⟩,λh1=>⟨λh2=>(nomatch h2),λh2=>⟨rx,λh3=>⟨⟨rx,ry⟩,⟨rx,rd⟩,⟨rfl,(aG lo hi (pn c) (λi=>ab (pg c i)) a b (0)).length,rfl,(yl _ (fa (k2 h1) h3)).1,(yl _ (fa (k2 h1) h3)).2.1,⟨λe=>(nomatch e),λ_=>⟨1,[],by show 1<=4;decide,by show 4 - 1 < 4 - 0;decide,Wo trivial ⟨rfl,⟨rfl,rfl,rfl,rfl,λ_ _=>rfl⟩,⟨rfl,rfl,rfl,rfl,λ_ _=>rfl⟩,rfl,rfl,qQ⟩ ⟨⟨congrArg (λz:Nat=>PV.val (.int .i64 (z:Int))) (yl _ (fa (k2 h1) h3)).2.2,rfl,qQ⟩,qQ⟩⟩⟩,⟨λ_=>trivial,λe=>(nomatch e)⟩⟩⟩,λh3=>⟨rfl,(aG lo hi (pn c) (λi=>ab (pg c i)) a b (0)).length,rfl,(yl _ (fb (k2 h1) h3)).1,(yl _ (fb (k2 h1) h3)).2.1,⟨λe=>(nomatch e),λ_=>⟨1,[],by show 1<=4;decide,by show 4 - 1 < 4 - 0;decide,Wo trivial ⟨rfl,⟨rfl,rfl,rfl,rfl,λ_ _=>rfl⟩,⟨rfl,rfl,rfl,rfl,λ_ _=>rfl⟩,rfl,rfl,qQ⟩ ⟨⟨congrArg (λz:Nat=>PV.val (.int .i64 (z:Int))) (yl _ (fb (k2 h1) h3)).2.2,rfl,qQ⟩,qQ⟩⟩⟩,⟨λ_=>trivial,λe=>(nomatch e)⟩⟩⟩⟩⟩
  |1,_ =>
   obtain⟨x,hx⟩:∃x,x=(aL 1 (aM (ar lo hi)).1 (aM (ar lo hi)).2 (aN a.v)):=⟨_,rfl⟩;obtain⟨y,hy⟩:∃y,y=(aL 1 (aM (ar lo hi)).1 (aM (ar lo hi)).2 (aN b.v)):=⟨_,rfl⟩;have hx1:aL 1 lo hi a=x:=by rw [hx];rfl
   have hy1:aL 1 lo hi b=y:=by rw [hy];rfl
   have qx:QB 20003 x:=by rw [<-hx1];exact fO 1 hlo hhi ha
   have qy:QB 20003 y:=by rw [<-hy1];exact fO 1 hlo hhi hb
   have hone:dT 1 lo hi a b=bif decide (ao x 0<=0)&&decide (ao y 0<=0) then [] else [(-((1:Nat)+1:Int),bif decide (ao x 0<=0) then x / (x - y) else 0)]:=by unfold dT;rw [hx1,hy1]
   have rx:isRk 4294967296 (aw (aL 1 (aM (ar lo hi)).1 (aM (ar lo hi)).2 (aN a.v))):=by rw [<-hx];exact qx.rk (by decide)
   have ry:isRk 4294967296 (aw (aL 1 (aM (ar lo hi)).1 (aM (ar lo hi)).2 (aN b.v))):=by rw [<-hy];exact qy.rk (by decide)
   have rd:isRk 4294967296 (aw (aE (aw (aL 1 (aM (ar lo hi)).1 (aM (ar lo hi)).2 (aN a.v))) - aE (aw (aL 1 (aM (ar lo hi)).1 (aM (ar lo hi)).2 (aN b.v))))):=by rw [aC,aC,<-hx,<-hy];exact(qx.sub qy).rk (by decide)
   have ix:decide (ao (aE (aw (aL 1 (aM (ar lo hi)).1 (aM (ar lo hi)).2 (aN a.v)))) 0<=0)=decide (ao x 0<=0):=by rw [aC,<-hx]
   have iy:decide (ao (aE (aw (aL 1 (aM (ar lo hi)).1 (aM (ar lo hi)).2 (aN b.v)))) 0<=0)=decide (ao y 0<=0):=by rw [aC,<-hy]
   have it:aE (aw (aL 1 (aM (ar lo hi)).1 (aM (ar lo hi)).2 (aN a.v))) / aE (aw (aE (aw (aL 1 (aM (ar lo hi)).1 (aM (ar lo hi)).2 (aN a.v))) - aE (aw (aL 1 (aM (ar lo hi)).1 (aM (ar lo hi)).2 (aN b.v)))))=x / (x - y):=by rw [aC,aC,aC,<-hx,<-hy]
   have prA:dQ 4294967296 (ar lo hi)/\isPk 4294967296 a.v:=⟨⟨lo,hi,rfl,hlo',hhi'⟩,a,rfl,ha'⟩;have prB:dQ 4294967296 (ar lo hi)/\isPk 4294967296 b.v:=⟨⟨lo,hi,rfl,hlo',hhi'⟩,b,rfl,hb'⟩;have sk:decide (ao (aE (aw (aL 1 (aM (ar lo hi)).1 (aM (ar lo hi)).2 (aN a.v)))) 0<=0)=true->decide (ao (aE (aw (aL 1 (aM (ar lo hi)).1 (aM (ar lo hi)).2 (aN b.v)))) 0<=0)=true->(aG lo hi (pn c) (λi=>ab (pg c i)) a b (1)).length=(aG lo hi (pn c) (λi=>ab (pg c i)) a b (2)).length:=λh h'=>by
    rw [ix] at h;rw [iy] at h';have e:aG lo hi (pn c) (λi=>ab (pg c i)) a b (1+1)=aG lo hi (pn c) (λi=>ab (pg c i)) a b 1++dT 1 lo hi a b:=rfl;rw [e,hone,h,h'];simp
   have yl:∀fr:Rat,dT 1 lo hi a b=[(-((1:Nat)+1:Int),fr)]->(aG lo hi (pn c) (λi=>ab (pg c i)) a b (1)).length < (aG lo hi (pn c) (λi=>ab (pg c i)) a b (k+4)).length/\[PV.val (.int .i64 (-2)),PV.val (aw fr)]=ig (aG lo hi (pn c) (λi=>ab (pg c i)) a b (k+4)) (aG lo hi (pn c) (λi=>ab (pg c i)) a b (1)).length/\(aG lo hi (pn c) (λi=>ab (pg c i)) a b (1)).length+1=(aG lo hi (pn c) (λi=>ab (pg c i)) a b (2)).length:=λfr h=>by
    have h1:=f9 (n:=pn c) (p:=λi=>ab (pg c i)) (show 1 < k+4 by omega) (x:=(-((1:Nat)+1:Int),fr)) (by rw [if_pos (by decide)];exact h);refine⟨h1.2.1,?_,h1.2.2.symm⟩;unfold ig Bp DG;rw [h1.1];rfl
   have fa:(decide (ao x 0<=0)&&decide (ao y 0<=0))=false->decide (ao (aE (aw (aL 1 (aM (ar lo hi)).1 (aM (ar lo hi)).2 (aN a.v)))) 0<=0)=true->dT 1 lo hi a b=[(-((1:Nat)+1:Int),aE (aw (aL 1 (aM (ar lo hi)).1 (aM (ar lo hi)).2 (aN a.v))) / aE (aw (aE (aw (aL 1 (aM (ar lo hi)).1 (aM (ar lo hi)).2 (aN a.v))) - aE (aw (aL 1 (aM (ar lo hi)).1 (aM (ar lo hi)).2 (aN b.v))))))]:=λh h'=>by
    rw [ix] at h';rw [hone,h,h',it];rfl
   have fb:(decide (ao x 0<=0)&&decide (ao y 0<=0))=false->decide (ao (aE (aw (aL 1 (aM (ar lo hi)).1 (aM (ar lo hi)).2 (aN a.v)))) 0<=0)=false->dT 1 lo hi a b=[(-((1:Nat)+1:Int),0)]:=λh h'=>by
    rw [ix] at h';rw [hone,h,h'];rfl
   have k1:decide (ao (aE (aw (aL 1 (aM (ar lo hi)).1 (aM (ar lo hi)).2 (aN b.v)))) 0<=0)=false->(decide (ao x 0<=0)&&decide (ao y 0<=0))=false:=λh=>by
    rw [iy] at h;rw [h,Bool.and_false]
   have k2:decide (ao (aE (aw (aL 1 (aM (ar lo hi)).1 (aM (ar lo hi)).2 (aN a.v)))) 0<=0) = !true->(decide (ao x 0<=0)&&decide (ao y 0<=0))=false:=λh=>by
    rw [ix] at h;rw [h];rfl
   clear hx hy;with_unfolding_all refine⟨λ_=>⟨⟨by decide,by decide⟩,⟨⟨prA,⟨⟨prB,⟨?_,?_⟩⟩,⟨⟨⟨prB,?_⟩,⟨prB,?_⟩⟩,⟨⟨prB,?_⟩,⟨prB,?_⟩⟩⟩⟩⟩,⟨⟨⟨prA,⟨⟨prB,?_⟩,⟨prB,?_⟩⟩⟩,⟨prA,⟨prB,?_⟩⟩⟩,⟨⟨prA,⟨⟨prB,?_⟩,⟨prB,?_⟩⟩⟩,⟨prA,⟨prB,?_⟩⟩⟩⟩⟩⟩,λhh=>absurd hh (by decide)⟩
   all_goals with_unfolding_all refine⟨rx,λh1=>⟨ry,λh2=>⟨2,[],by show 2<=4;decide,by show 4 - 2 < 4 - 1;decide,Wo trivial ⟨rfl,⟨rfl,rfl,rfl,rfl,λ_ _=>rfl⟩,⟨rfl,rfl,rfl,rfl,λ_ _=>rfl⟩,rfl,rfl,qQ⟩ ⟨⟨congrArg (λz:Nat=>PV.val (.int .i64 (z:Int))) (sk h1 h2),rfl,qQ⟩,qQ⟩⟩,λh2=>⟨rx,λh3=>⟨⟨rx,ry⟩,⟨rx,rd⟩,⟨rfl,(aG lo hi (pn c) (λi=>ab (pg c i)) a b (1)).length,rfl,(yl _ (fa (k1 h2) h3)).1,(yl _ (fa (k1 h2) h3)).2.1,⟨λe=>(nomatch e),λ_=>⟨2,[],by show 2<=4;decide,by show 4 - 2 < 4 - 1;decide,Wo trivial ⟨rfl,⟨rfl,rfl,rfl,rfl,λ_ _=>rfl⟩,⟨rfl,rfl,rfl,rfl,λ_ _=>rfl⟩,rfl,rfl,qQ⟩ ⟨⟨congrArg (λz:Nat=>PV.val (.int .i64 (z:Int))) (yl _ (fa (k1 h2) h3)).2.2,rfl,qQ⟩,qQ⟩⟩⟩,⟨λ_=>trivial,λe=>(nomatch e)⟩⟩⟩,λh3=>⟨rfl,(aG lo hi (pn c) (λi=>ab (pg c i)) a b (1)).length,rfl,(yl _ (fb (k1 h2) h3)).1,(yl _ (fb (k1 h2) h3)).2.1,⟨λe=>(nomatch e),λ_=>⟨2,[],by show 2<=4;decide,by show 4 - 2 < 4 - 1;decide,Wo trivial ⟨rfl,⟨rfl,rfl,rfl,rfl,λ_ _=>rfl⟩,⟨rfl,rfl,rfl,rfl,λ_ _=>rfl⟩,rfl,rfl,qQ⟩ ⟨⟨congrArg (λz:Nat=>PV.val (.int .i64 (z:Int))) (yl _ (fb (k1 h2) h3)).2.2,rfl,qQ⟩,qQ⟩⟩⟩,⟨λ_=>trivial,λe=>(nomatch e)⟩⟩⟩⟩,λh1=>⟨λh2=>(nomatch h2),λh2=>⟨rx,λh3=>⟨⟨rx,ry⟩,⟨rx,rd⟩,⟨rfl,(aG lo hi (pn c) (λi=>ab (pg c i)) a b (1)).length,rfl,(yl _ (fa (k2 h1) h3)).1,(yl _ (fa (k2 h1) h3)).2.1,⟨λe=>(nomatch e),λ_=>⟨2,[],by show 2<=4;decide,by show 4 - 2 < 4 - 1;decide,Wo trivial ⟨rfl,⟨rfl,rfl,rfl,rfl,λ_ _=>rfl⟩,⟨rfl,rfl,rfl,rfl,λ_ _=>rfl⟩,rfl,rfl,qQ⟩ ⟨⟨congrArg (λz:Nat=>PV.val (.int .i64 (z:Int))) (yl _ (fa (k2 h1) h3)).2.2,rfl,qQ⟩,qQ⟩⟩⟩,⟨λ_=>trivial,λe=>(nomatch e)⟩⟩⟩,λh3=>⟨rfl,(aG lo hi (pn c) (λi=>ab (pg c i)) a b (1)).length,rfl,(yl _ (fb (k2 h1) h3)).1,(yl _ (fb (k2 h1) h3)).2.1,⟨λe=>(nomatch e),λ_=>⟨2,[],by show 2<=4;decide,by show 4 - 2 < 4 - 1;decide,Wo trivial ⟨rfl,⟨rfl,rfl,rfl,rfl,λ_ _=>rfl⟩,⟨rfl,rfl,rfl,rfl,λ_ _=>rfl⟩,rfl,rfl,qQ⟩ ⟨⟨congrArg (λz:Nat=>PV.val (.int .i64 (z:Int))) (yl _ (fb (k2 h1) h3)).2.2,rfl,qQ⟩,qQ⟩⟩⟩,⟨λ_=>trivial,λe=>(nomatch e)⟩⟩⟩⟩⟩
  |2,_ =>
   obtain⟨x,hx⟩:∃x,x=(aL 2 (aM (ar lo hi)).1 (aM (ar lo hi)).2 (aN a.v)):=⟨_,rfl⟩;obtain⟨y,hy⟩:∃y,y=(aL 2 (aM (ar lo hi)).1 (aM (ar lo hi)).2 (aN b.v)):=⟨_,rfl⟩;have hx1:aL 2 lo hi a=x:=by rw [hx];rfl
   have hy1:aL 2 lo hi b=y:=by rw [hy];rfl
   have qx:QB 20003 x:=by rw [<-hx1];exact fO 2 hlo hhi ha
   have qy:QB 20003 y:=by rw [<-hy1];exact fO 2 hlo hhi hb
   have hone:dT 2 lo hi a b=bif decide (ao x 0<=0)&&decide (ao y 0<=0) then [] else [(-((2:Nat)+1:Int),bif decide (ao x 0<=0) then x / (x - y) else 0)]:=by unfold dT;rw [hx1,hy1]
   have rx:isRk 4294967296 (aw (aL 2 (aM (ar lo hi)).1 (aM (ar lo hi)).2 (aN a.v))):=by rw [<-hx];exact qx.rk (by decide)
   have ry:isRk 4294967296 (aw (aL 2 (aM (ar lo hi)).1 (aM (ar lo hi)).2 (aN b.v))):=by rw [<-hy];exact qy.rk (by decide)
   have rd:isRk 4294967296 (aw (aE (aw (aL 2 (aM (ar lo hi)).1 (aM (ar lo hi)).2 (aN a.v))) - aE (aw (aL 2 (aM (ar lo hi)).1 (aM (ar lo hi)).2 (aN b.v))))):=by rw [aC,aC,<-hx,<-hy];exact(qx.sub qy).rk (by decide)
   have ix:decide (ao (aE (aw (aL 2 (aM (ar lo hi)).1 (aM (ar lo hi)).2 (aN a.v)))) 0<=0)=decide (ao x 0<=0):=by rw [aC,<-hx]
   have iy:decide (ao (aE (aw (aL 2 (aM (ar lo hi)).1 (aM (ar lo hi)).2 (aN b.v)))) 0<=0)=decide (ao y 0<=0):=by rw [aC,<-hy]
   have it:aE (aw (aL 2 (aM (ar lo hi)).1 (aM (ar lo hi)).2 (aN a.v))) / aE (aw (aE (aw (aL 2 (aM (ar lo hi)).1 (aM (ar lo hi)).2 (aN a.v))) - aE (aw (aL 2 (aM (ar lo hi)).1 (aM (ar lo hi)).2 (aN b.v)))))=x / (x - y):=by rw [aC,aC,aC,<-hx,<-hy]
   have prA:dQ 4294967296 (ar lo hi)/\isPk 4294967296 a.v:=⟨⟨lo,hi,rfl,hlo',hhi'⟩,a,rfl,ha'⟩;have prB:dQ 4294967296 (ar lo hi)/\isPk 4294967296 b.v:=⟨⟨lo,hi,rfl,hlo',hhi'⟩,b,rfl,hb'⟩;have sk:decide (ao (aE (aw (aL 2 (aM (ar lo hi)).1 (aM (ar lo hi)).2 (aN a.v)))) 0<=0)=true->decide (ao (aE (aw (aL 2 (aM (ar lo hi)).1 (aM (ar lo hi)).2 (aN b.v)))) 0<=0)=true->(aG lo hi (pn c) (λi=>ab (pg c i)) a b (2)).length=(aG lo hi (pn c) (λi=>ab (pg c i)) a b (3)).length:=λh h'=>by
    rw [ix] at h;rw [iy] at h';have e:aG lo hi (pn c) (λi=>ab (pg c i)) a b (2+1)=aG lo hi (pn c) (λi=>ab (pg c i)) a b 2++dT 2 lo hi a b:=rfl;rw [e,hone,h,h'];simp
   have yl:∀fr:Rat,dT 2 lo hi a b=[(-((2:Nat)+1:Int),fr)]->(aG lo hi (pn c) (λi=>ab (pg c i)) a b (2)).length < (aG lo hi (pn c) (λi=>ab (pg c i)) a b (k+4)).length/\[PV.val (.int .i64 (-3)),PV.val (aw fr)]=ig (aG lo hi (pn c) (λi=>ab (pg c i)) a b (k+4)) (aG lo hi (pn c) (λi=>ab (pg c i)) a b (2)).length/\(aG lo hi (pn c) (λi=>ab (pg c i)) a b (2)).length+1=(aG lo hi (pn c) (λi=>ab (pg c i)) a b (3)).length:=λfr h=>by
    have h1:=f9 (n:=pn c) (p:=λi=>ab (pg c i)) (show 2 < k+4 by omega) (x:=(-((2:Nat)+1:Int),fr)) (by rw [if_pos (by decide)];exact h);refine⟨h1.2.1,?_,h1.2.2.symm⟩;unfold ig Bp DG;rw [h1.1];rfl
   have fa:(decide (ao x 0<=0)&&decide (ao y 0<=0))=false->decide (ao (aE (aw (aL 2 (aM (ar lo hi)).1 (aM (ar lo hi)).2 (aN a.v)))) 0<=0)=true->dT 2 lo hi a b=[(-((2:Nat)+1:Int),aE (aw (aL 2 (aM (ar lo hi)).1 (aM (ar lo hi)).2 (aN a.v))) / aE (aw (aE (aw (aL 2 (aM (ar lo hi)).1 (aM (ar lo hi)).2 (aN a.v))) - aE (aw (aL 2 (aM (ar lo hi)).1 (aM (ar lo hi)).2 (aN b.v))))))]:=λh h'=>by
    rw [ix] at h';rw [hone,h,h',it];rfl
   have fb:(decide (ao x 0<=0)&&decide (ao y 0<=0))=false->decide (ao (aE (aw (aL 2 (aM (ar lo hi)).1 (aM (ar lo hi)).2 (aN a.v)))) 0<=0)=false->dT 2 lo hi a b=[(-((2:Nat)+1:Int),0)]:=λh h'=>by
    rw [ix] at h';rw [hone,h,h'];rfl
   have k1:decide (ao (aE (aw (aL 2 (aM (ar lo hi)).1 (aM (ar lo hi)).2 (aN b.v)))) 0<=0)=false->(decide (ao x 0<=0)&&decide (ao y 0<=0))=false:=λh=>by
    rw [iy] at h;rw [h,Bool.and_false]
   have k2:decide (ao (aE (aw (aL 2 (aM (ar lo hi)).1 (aM (ar lo hi)).2 (aN a.v)))) 0<=0) = !true->(decide (ao x 0<=0)&&decide (ao y 0<=0))=false:=λh=>by
    rw [ix] at h;rw [h];rfl
   clear hx hy;with_unfolding_all refine⟨λ_=>⟨⟨by decide,by decide⟩,⟨⟨prA,⟨⟨prB,⟨?_,?_⟩⟩,⟨⟨⟨prB,?_⟩,⟨prB,?_⟩⟩,⟨⟨prB,?_⟩,⟨prB,?_⟩⟩⟩⟩⟩,⟨⟨⟨prA,⟨⟨prB,?_⟩,⟨prB,?_⟩⟩⟩,⟨prA,⟨prB,?_⟩⟩⟩,⟨⟨prA,⟨⟨prB,?_⟩,⟨prB,?_⟩⟩⟩,⟨prA,⟨prB,?_⟩⟩⟩⟩⟩⟩,λhh=>absurd hh (by decide)⟩
   all_goals with_unfolding_all refine⟨rx,λh1=>⟨ry,λh2=>⟨3,[],by show 3<=4;decide,by show 4 - 3 < 4 - 2;decide,Wo trivial ⟨rfl,⟨rfl,rfl,rfl,rfl,λ_ _=>rfl⟩,⟨rfl,rfl,rfl,rfl,λ_ _=>rfl⟩,rfl,rfl,qQ⟩ ⟨⟨congrArg (λz:Nat=>PV.val (.int .i64 (z:Int))) (sk h1 h2),rfl,qQ⟩,qQ⟩⟩,λh2=>⟨rx,λh3=>⟨⟨rx,ry⟩,⟨rx,rd⟩,⟨rfl,(aG lo hi (pn c) (λi=>ab (pg c i)) a b (2)).length,rfl,(yl _ (fa (k1 h2) h3)).1,(yl _ (fa (k1 h2) h3)).2.1,⟨λe=>(nomatch e),λ_=>⟨3,[],by show 3<=4;decide,by show 4 - 3 < 4 - 2;decide,Wo trivial ⟨rfl,⟨rfl,rfl,rfl,rfl,λ_ _=>rfl⟩,⟨rfl,rfl,rfl,rfl,λ_ _=>rfl⟩,rfl,rfl,qQ⟩ ⟨⟨congrArg (λz:Nat=>PV.val (.int .i64 (z:Int))) (yl _ (fa (k1 h2) h3)).2.2,rfl,qQ⟩,qQ⟩⟩⟩,⟨λ_=>trivial,λe=>(nomatch e)⟩⟩⟩,λh3=>⟨rfl,(aG lo hi (pn c) (λi=>ab (pg c i)) a b (2)).length,rfl,(yl _ (fb (k1 h2) h3)).1,(yl _ (fb (k1 h2) h3)).2.1,⟨λe=>(nomatch e),λ_=>⟨3,[],by show 3<=4;decide,by show 4 - 3 < 4 - 2;decide,Wo trivial ⟨rfl,⟨rfl,rfl,rfl,rfl,λ_ _=>rfl⟩,⟨rfl,rfl,rfl,rfl,λ_ _=>rfl⟩,rfl,rfl,qQ⟩ ⟨⟨congrArg (λz:Nat=>PV.val (.int .i64 (z:Int))) (yl _ (fb (k1 h2) h3)).2.2,rfl,qQ⟩,qQ⟩⟩⟩,⟨λ_=>trivial,λe=>(nomatch e)⟩⟩⟩⟩,λh1=>⟨λh2=>(nomatch h2),λh2=>⟨rx,λh3=>⟨⟨rx,ry⟩,⟨rx,rd⟩,⟨rfl,(aG lo hi (pn c) (λi=>ab (pg c i)) a b (2)).length,rfl,(yl _ (fa (k2 h1) h3)).1,(yl _ (fa (k2 h1) h3)).2.1,⟨λe=>(nomatch e),λ_=>⟨3,[],by show 3<=4;decide,by show 4 - 3 < 4 - 2;decide,Wo trivial ⟨rfl,⟨rfl,rfl,rfl,rfl,λ_ _=>rfl⟩,⟨rfl,rfl,rfl,rfl,λ_ _=>rfl⟩,rfl,rfl,qQ⟩ ⟨⟨congrArg (λz:Nat=>PV.val (.int .i64 (z:Int))) (yl _ (fa (k2 h1) h3)).2.2,rfl,qQ⟩,qQ⟩⟩⟩,⟨λ_=>trivial,λe=>(nomatch e)⟩⟩⟩,λh3=>⟨rfl,(aG lo hi (pn c) (λi=>ab (pg c i)) a b (2)).length,rfl,(yl _ (fb (k2 h1) h3)).1,(yl _ (fb (k2 h1) h3)).2.1,⟨λe=>(nomatch e),λ_=>⟨3,[],by show 3<=4;decide,by show 4 - 3 < 4 - 2;decide,Wo trivial ⟨rfl,⟨rfl,rfl,rfl,rfl,λ_ _=>rfl⟩,⟨rfl,rfl,rfl,rfl,λ_ _=>rfl⟩,rfl,rfl,qQ⟩ ⟨⟨congrArg (λz:Nat=>PV.val (.int .i64 (z:Int))) (yl _ (fb (k2 h1) h3)).2.2,rfl,qQ⟩,qQ⟩⟩⟩,⟨λ_=>trivial,λe=>(nomatch e)⟩⟩⟩⟩⟩
  |3,_ =>
   obtain⟨x,hx⟩:∃x,x=(aL 3 (aM (ar lo hi)).1 (aM (ar lo hi)).2 (aN a.v)):=⟨_,rfl⟩;obtain⟨y,hy⟩:∃y,y=(aL 3 (aM (ar lo hi)).1 (aM (ar lo hi)).2 (aN b.v)):=⟨_,rfl⟩;have hx1:aL 3 lo hi a=x:=by rw [hx];rfl
   have hy1:aL 3 lo hi b=y:=by rw [hy];rfl
   have qx:QB 20003 x:=by rw [<-hx1];exact fO 3 hlo hhi ha
   have qy:QB 20003 y:=by rw [<-hy1];exact fO 3 hlo hhi hb
   have hone:dT 3 lo hi a b=bif decide (ao x 0<=0)&&decide (ao y 0<=0) then [] else [(-((3:Nat)+1:Int),bif decide (ao x 0<=0) then x / (x - y) else 0)]:=by unfold dT;rw [hx1,hy1]
   have rx:isRk 4294967296 (aw (aL 3 (aM (ar lo hi)).1 (aM (ar lo hi)).2 (aN a.v))):=by rw [<-hx];exact qx.rk (by decide)
   have ry:isRk 4294967296 (aw (aL 3 (aM (ar lo hi)).1 (aM (ar lo hi)).2 (aN b.v))):=by rw [<-hy];exact qy.rk (by decide)
   have rd:isRk 4294967296 (aw (aE (aw (aL 3 (aM (ar lo hi)).1 (aM (ar lo hi)).2 (aN a.v))) - aE (aw (aL 3 (aM (ar lo hi)).1 (aM (ar lo hi)).2 (aN b.v))))):=by rw [aC,aC,<-hx,<-hy];exact(qx.sub qy).rk (by decide)
   have ix:decide (ao (aE (aw (aL 3 (aM (ar lo hi)).1 (aM (ar lo hi)).2 (aN a.v)))) 0<=0)=decide (ao x 0<=0):=by rw [aC,<-hx]
   have iy:decide (ao (aE (aw (aL 3 (aM (ar lo hi)).1 (aM (ar lo hi)).2 (aN b.v)))) 0<=0)=decide (ao y 0<=0):=by rw [aC,<-hy]
   have it:aE (aw (aL 3 (aM (ar lo hi)).1 (aM (ar lo hi)).2 (aN a.v))) / aE (aw (aE (aw (aL 3 (aM (ar lo hi)).1 (aM (ar lo hi)).2 (aN a.v))) - aE (aw (aL 3 (aM (ar lo hi)).1 (aM (ar lo hi)).2 (aN b.v)))))=x / (x - y):=by rw [aC,aC,aC,<-hx,<-hy]
   have prA:dQ 4294967296 (ar lo hi)/\isPk 4294967296 a.v:=⟨⟨lo,hi,rfl,hlo',hhi'⟩,a,rfl,ha'⟩;have prB:dQ 4294967296 (ar lo hi)/\isPk 4294967296 b.v:=⟨⟨lo,hi,rfl,hlo',hhi'⟩,b,rfl,hb'⟩;have sk:decide (ao (aE (aw (aL 3 (aM (ar lo hi)).1 (aM (ar lo hi)).2 (aN a.v)))) 0<=0)=true->decide (ao (aE (aw (aL 3 (aM (ar lo hi)).1 (aM (ar lo hi)).2 (aN b.v)))) 0<=0)=true->(aG lo hi (pn c) (λi=>ab (pg c i)) a b (3)).length=(aG lo hi (pn c) (λi=>ab (pg c i)) a b (4)).length:=λh h'=>by
    rw [ix] at h;rw [iy] at h';have e:aG lo hi (pn c) (λi=>ab (pg c i)) a b (3+1)=aG lo hi (pn c) (λi=>ab (pg c i)) a b 3++dT 3 lo hi a b:=rfl;rw [e,hone,h,h'];simp
   have yl:∀fr:Rat,dT 3 lo hi a b=[(-((3:Nat)+1:Int),fr)]->(aG lo hi (pn c) (λi=>ab (pg c i)) a b (3)).length < (aG lo hi (pn c) (λi=>ab (pg c i)) a b (k+4)).length/\[PV.val (.int .i64 (-4)),PV.val (aw fr)]=ig (aG lo hi (pn c) (λi=>ab (pg c i)) a b (k+4)) (aG lo hi (pn c) (λi=>ab (pg c i)) a b (3)).length/\(aG lo hi (pn c) (λi=>ab (pg c i)) a b (3)).length+1=(aG lo hi (pn c) (λi=>ab (pg c i)) a b (4)).length:=λfr h=>by
    have h1:=f9 (n:=pn c) (p:=λi=>ab (pg c i)) (show 3 < k+4 by omega) (x:=(-((3:Nat)+1:Int),fr)) (by rw [if_pos (by decide)];exact h);refine⟨h1.2.1,?_,h1.2.2.symm⟩;unfold ig Bp DG;rw [h1.1];rfl
   have fa:(decide (ao x 0<=0)&&decide (ao y 0<=0))=false->decide (ao (aE (aw (aL 3 (aM (ar lo hi)).1 (aM (ar lo hi)).2 (aN a.v)))) 0<=0)=true->dT 3 lo hi a b=[(-((3:Nat)+1:Int),aE (aw (aL 3 (aM (ar lo hi)).1 (aM (ar lo hi)).2 (aN a.v))) / aE (aw (aE (aw (aL 3 (aM (ar lo hi)).1 (aM (ar lo hi)).2 (aN a.v))) - aE (aw (aL 3 (aM (ar lo hi)).1 (aM (ar lo hi)).2 (aN b.v))))))]:=λh h'=>by
    rw [ix] at h';rw [hone,h,h',it];rfl
   have fb:(decide (ao x 0<=0)&&decide (ao y 0<=0))=false->decide (ao (aE (aw (aL 3 (aM (ar lo hi)).1 (aM (ar lo hi)).2 (aN a.v)))) 0<=0)=false->dT 3 lo hi a b=[(-((3:Nat)+1:Int),0)]:=λh h'=>by
    rw [ix] at h';rw [hone,h,h'];rfl
   have k1:decide (ao (aE (aw (aL 3 (aM (ar lo hi)).1 (aM (ar lo hi)).2 (aN b.v)))) 0<=0)=false->(decide (ao x 0<=0)&&decide (ao y 0<=0))=false:=λh=>by
    rw [iy] at h;rw [h,Bool.and_false]
   have k2:decide (ao (aE (aw (aL 3 (aM (ar lo hi)).1 (aM (ar lo hi)).2 (aN a.v)))) 0<=0) = !true->(decide (ao x 0<=0)&&decide (ao y 0<=0))=false:=λh=>by
    rw [ix] at h;rw [h];rfl
   clear hx hy;with_unfolding_all refine⟨λ_=>⟨⟨by decide,by decide⟩,⟨⟨prA,⟨⟨prB,⟨?_,?_⟩⟩,⟨⟨⟨prB,?_⟩,⟨prB,?_⟩⟩,⟨⟨prB,?_⟩,⟨prB,?_⟩⟩⟩⟩⟩,⟨⟨⟨prA,⟨⟨prB,?_⟩,⟨prB,?_⟩⟩⟩,⟨prA,⟨prB,?_⟩⟩⟩,⟨⟨prA,⟨⟨prB,?_⟩,⟨prB,?_⟩⟩⟩,⟨prA,⟨prB,?_⟩⟩⟩⟩⟩⟩,λhh=>absurd hh (by decide)⟩
   all_goals with_unfolding_all refine⟨rx,λh1=>⟨ry,λh2=>⟨4,[],by show 4<=4;decide,by show 4 - 4 < 4 - 3;decide,Wo trivial ⟨rfl,⟨rfl,rfl,rfl,rfl,λ_ _=>rfl⟩,⟨rfl,rfl,rfl,rfl,λ_ _=>rfl⟩,rfl,rfl,qQ⟩ ⟨⟨congrArg (λz:Nat=>PV.val (.int .i64 (z:Int))) (sk h1 h2),rfl,qQ⟩,qQ⟩⟩,λh2=>⟨rx,λh3=>⟨⟨rx,ry⟩,⟨rx,rd⟩,⟨rfl,(aG lo hi (pn c) (λi=>ab (pg c i)) a b (3)).length,rfl,(yl _ (fa (k1 h2) h3)).1,(yl _ (fa (k1 h2) h3)).2.1,⟨λe=>(nomatch e),λ_=>⟨4,[],by show 4<=4;decide,by show 4 - 4 < 4 - 3;decide,Wo trivial ⟨rfl,⟨rfl,rfl,rfl,rfl,λ_ _=>rfl⟩,⟨rfl,rfl,rfl,rfl,λ_ _=>rfl⟩,rfl,rfl,qQ⟩ ⟨⟨congrArg (λz:Nat=>PV.val (.int .i64 (z:Int))) (yl _ (fa (k1 h2) h3)).2.2,rfl,qQ⟩,qQ⟩⟩⟩,⟨λ_=>trivial,λe=>(nomatch e)⟩⟩⟩,λh3=>⟨rfl,(aG lo hi (pn c) (λi=>ab (pg c i)) a b (3)).length,rfl,(yl _ (fb (k1 h2) h3)).1,(yl _ (fb (k1 h2) h3)).2.1,⟨λe=>(nomatch e),λ_=>⟨4,[],by show 4<=4;decide,by show 4 - 4 < 4 - 3;decide,Wo trivial ⟨rfl,⟨rfl,rfl,rfl,rfl,λ_ _=>rfl⟩,⟨rfl,rfl,rfl,rfl,λ_ _=>rfl⟩,rfl,rfl,qQ⟩ ⟨⟨congrArg (λz:Nat=>PV.val (.int .i64 (z:Int))) (yl _ (fb (k1 h2) h3)).2.2,rfl,qQ⟩,qQ⟩⟩⟩,⟨λ_=>trivial,λe=>(nomatch e)⟩⟩⟩⟩,λh1=>⟨λh2=>(nomatch h2),λh2=>⟨rx,λh3=>⟨⟨rx,ry⟩,⟨rx,rd⟩,⟨rfl,(aG lo hi (pn c) (λi=>ab (pg c i)) a b (3)).length,rfl,(yl _ (fa (k2 h1) h3)).1,(yl _ (fa (k2 h1) h3)).2.1,⟨λe=>(nomatch e),λ_=>⟨4,[],by show 4<=4;decide,by show 4 - 4 < 4 - 3;decide,Wo trivial ⟨rfl,⟨rfl,rfl,rfl,rfl,λ_ _=>rfl⟩,⟨rfl,rfl,rfl,rfl,λ_ _=>rfl⟩,rfl,rfl,qQ⟩ ⟨⟨congrArg (λz:Nat=>PV.val (.int .i64 (z:Int))) (yl _ (fa (k2 h1) h3)).2.2,rfl,qQ⟩,qQ⟩⟩⟩,⟨λ_=>trivial,λe=>(nomatch e)⟩⟩⟩,λh3=>⟨rfl,(aG lo hi (pn c) (λi=>ab (pg c i)) a b (3)).length,rfl,(yl _ (fb (k2 h1) h3)).1,(yl _ (fb (k2 h1) h3)).2.1,⟨λe=>(nomatch e),λ_=>⟨4,[],by show 4<=4;decide,by show 4 - 4 < 4 - 3;decide,Wo trivial ⟨rfl,⟨rfl,rfl,rfl,rfl,λ_ _=>rfl⟩,⟨rfl,rfl,rfl,rfl,λ_ _=>rfl⟩,rfl,rfl,qQ⟩ ⟨⟨congrArg (λz:Nat=>PV.val (.int .i64 (z:Int))) (yl _ (fb (k2 h1) h3)).2.2,rfl,qQ⟩,qQ⟩⟩⟩,⟨λ_=>trivial,λe=>(nomatch e)⟩⟩⟩⟩⟩
  |4,_ =>
   have h44:decide (((4:Nat):Int) < 4)=true->False:=λh=>absurd h (by decide);with_unfolding_all refine⟨λh=>h44 h,λ_=>⟨Nat,λi=>i<=k,λi=>aa [(0,.val (.func (.yield L0) ⟨[]⟩ ⟨[]⟩)),(1,.rp 14 1 (λ_=>br lo hi k c l o) 0 0),(2,.rp 12 1 (λ_=>kw a b) 0 0),(60,.rs 1 k (λi=>[.rs 6 (pn c i) (pg c i)])),(61,.val (goInt k)),(62,.val (goInt i))] [] 0 [[(0,.val (.int .i64 ((aG lo hi (pn c) (λi=>ab (pg c i)) a b (i+4)).length:Nat))),(1,.val (.bool false))]],λi=>k - i,⟨0,[],Nat.zero_le _,Wo trivial ⟨rfl,⟨rfl,rfl,rfl,rfl,λ_ _=>rfl⟩,⟨rfl,rfl,rfl,rfl,λ_ _=>rfl⟩,qW,rfl,rfl,qQ⟩ ⟨⟨rfl,rfl,qQ⟩,qQ⟩⟩,λi hik=>?_⟩⟩
   have hX:(dh (pn c ((i:Nat):Int).toNat) (ab (pg c ((i:Nat):Int).toNat)) (aM (ar a b)).1 (aM (ar a b)).2)=dh (pn c i) (ab (pg c i)) a b:=rfl;have sk:(dh (pn c ((i:Nat):Int).toNat) (ab (pg c ((i:Nat):Int).toNat)) (aM (ar a b)).1 (aM (ar a b)).2).isSome=false->(aG lo hi (pn c) (λi=>ab (pg c i)) a b (i+4)).length=(aG lo hi (pn c) (λi=>ab (pg c i)) a b ((i+1)+4)).length:=λh=>by
    rw [hX] at h;have e:aG lo hi (pn c) (λi=>ab (pg c i)) a b (i+4+1)=aG lo hi (pn c) (λi=>ab (pg c i)) a b (i+4)++(if i+4 < 4 then dT (i+4) lo hi a b else rK (i+4 - 4) (pn c (i+4 - 4)) (ab (pg c (i+4 - 4))) a b):=rfl;rw [show i+1+4=i+4+1 by omega,e,if_neg (by omega),show i+4 - 4=i by omega,rK];cases hh:dh (pn c i) (ab (pg c i)) a b with
    |none=>simp
    |some s=>rw [hh] at h;cases h
   have yl:i < k->(dh (pn c ((i:Nat):Int).toNat) (ab (pg c ((i:Nat):Int).toNat)) (aM (ar a b)).1 (aM (ar a b)).2).isSome=true->(aG lo hi (pn c) (λi=>ab (pg c i)) a b (i+4)).length < (aG lo hi (pn c) (λi=>ab (pg c i)) a b (k+4)).length/\[PV.val (.int .i64 i),PV.val (aw (kx (dh (pn c ((i:Nat):Int).toNat) (ab (pg c ((i:Nat):Int).toNat)) (aM (ar a b)).1 (aM (ar a b)).2)))]=ig (aG lo hi (pn c) (λi=>ab (pg c i)) a b (k+4)) (aG lo hi (pn c) (λi=>ab (pg c i)) a b (i+4)).length/\(aG lo hi (pn c) (λi=>ab (pg c i)) a b (i+4)).length+1=(aG lo hi (pn c) (λi=>ab (pg c i)) a b ((i+1)+4)).length:=λhik h=>by
    rw [hX] at h ⊢;cases hh:dh (pn c i) (ab (pg c i)) a b with
    |none=>rw [hh] at h;cases h
    |some s =>
    have h1:=f9 (lo:=lo) (hi:=hi) (n:=pn c) (p:=λi=>ab (pg c i)) (a:=a) (b:=b) (show i+4 < k+4 by omega) (x:=((i:Int),s.1)) (by rw [if_neg (by omega),show i+4 - 4=i by omega,rK,hh]);refine⟨h1.2.1,?_,by rw [show i+1+4=i+4+1 by omega];exact h1.2.2.symm⟩;unfold ig Bp DG;rw [h1.1];rfl
   have nb:(dh (pn c ((i:Nat):Int).toNat) (ab (pg c ((i:Nat):Int).toNat)) (aM (ar a b)).1 (aM (ar a b)).2).isSome=true->gE (pn c ((i:Nat):Int).toNat) (ab (pg c ((i:Nat):Int).toNat)) (aM (ar a b)).1 (aM (ar a b)).2=false:=λh=>by
    rw [hX] at h;show gE (pn c i) (ab (pg c i)) a b=false;cases hb:gE (pn c i) (ab (pg c i)) a b
    ·rfl
    ·unfold dh at h;rw [hb] at h;cases h
   have nb':(dh (pn c ((i:Nat):Int).toNat) (ab (pg c ((i:Nat):Int).toNat)) (aM (ar a b)).1 (aM (ar a b)).2).isSome=true->∀x:Bool,x=((bif gE (pn c ((i:Nat):Int).toNat) (ab (pg c ((i:Nat):Int).toNat)) (aM (ar a b)).1 (aM (ar a b)).2 then(1:Int) else 0)==0)->x=false->False:=λh x hx h'=>by
    rw [nb h] at hx;rw [hx] at h';cases h'
   have bL:decide ((i:Int) < (k:Int))=true->i < k:=λh=>Int.ofNat_lt.1 (of_decide_eq_true h);have dI:decide ((i:Int) < (k:Int))=false->i=k:=λh=>Nat.le_antisymm hik (Nat.le_of_not_lt λh'=>of_decide_eq_false h (Int.ofNat_lt.2 h'));have wi:decide ((i:Int) < (k:Int))=true->PV.val (.int .i64 (IntKind.i64.wrap ((i:Int)+1)))=.val (goInt (i+1:Nat)):=λh=>by
    have:=bL h;rw [wrap64 (by omega) (by omega)];rfl
   with_unfolding_all refine⟨λh0=>⟨⟨Int.natCast_nonneg i,Int.ofNat_lt.2 (bL h0)⟩,⟨(hc i (bL h0)).2,a,b,rfl,ha,hb⟩,λh1=>⟨λh2=>⟨rfl,(aG lo hi (pn c) (λi=>ab (pg c i)) a b (i+4)).length,rfl,(yl (bL h0) h1).1,(yl (bL h0) h1).2.1,⟨λ_=>⟨λe=>(nomatch e),λ_=>⟨i+1,[],bL h0,by have:=bL h0;show k - (i+1) < k - i;omega,Wo trivial ⟨rfl,⟨rfl,rfl,rfl,rfl,λ_ _=>rfl⟩,⟨rfl,rfl,rfl,rfl,λ_ _=>rfl⟩,qW,rfl,wi h0,qQ⟩ ⟨⟨congrArg (λz:Nat=>PV.val (.int .i64 (z:Int))) (yl (bL h0) h1).2.2,rfl,qQ⟩,qQ⟩⟩⟩,λe=>(nomatch e)⟩,⟨λ_=>⟨λ_=>trivial,λe=>(nomatch e)⟩,λe=>(nomatch e)⟩⟩,λh2=>⟨λe=>(nomatch e),λ_=>(nb' h1 _ rfl h2).elim⟩⟩,λh1=>⟨λe=>(nomatch e),λ_=>⟨λe=>(nomatch e),λ_=>⟨i+1,[],bL h0,by have:=bL h0;show k - (i+1) < k - i;omega,Wo trivial ⟨rfl,⟨rfl,rfl,rfl,rfl,λ_ _=>rfl⟩,⟨rfl,rfl,rfl,rfl,λ_ _=>rfl⟩,qW,rfl,wi h0,qQ⟩ ⟨⟨congrArg (λz:Nat=>PV.val (.int .i64 (z:Int))) (sk h1),rfl,qQ⟩,qQ⟩⟩⟩⟩⟩,λh0=>?_⟩
   rw [dI h0];rfl
  |j+5,h=>exact absurd h (by show ¬j+5<=4;omega)
 ·cases e
end Go.Proofs
namespace Go.Num
def fP (lo hi:PtS) (k:Nat) (c:Nat->List PV) (l:Nat) (o:Nat->List PV) (v:Value):Bool:=!(!ai (aM v).1||!ai (aM v).2)&&(bX lo hi k (pn c) (λi=>ab (pg c i)) l (ow o)==0)
def dJ (lo hi:PtS) (k:Nat) (c:Nat->List PV) (v:Value):List (Int×Rat):=ic lo hi k (pn c) (λi=>ab (pg c i)) (aM v).1 (aM v).2
def wX (b:Bool) (L:List (Int×Rat)):Int:=bif b then Bp L 0 else 0
end Go.Num
namespace Go.Proofs
def GQ:List PV->Option Ans
 |[.agg [.val (.bool s1),.val (.string b1),.val (.string c1),.val (.bool s2),.val (.string b2),.val (.string c2),.val (.bool s3),.val (.string b3),.val (.string c3),.val (.bool s4),.val (.string b4),.val (.string c4),.rs 1 k c,.rs 3 l o],.val v]=>some ⟨some (((PtS.le 10000 (PtS.mk ⟨s1,b1,c1⟩ ⟨s2,b2,c2⟩)/\PtS.le 10000 (PtS.mk ⟨s3,b3,c3⟩ ⟨s4,b4,c4⟩))/\bU 10000 k c/\cX l o)/\dQ 10000 v),.val (.tuple ⟨[.int .i64 (wX (fP (PtS.mk ⟨s1,b1,c1⟩ ⟨s2,b2,c2⟩) (PtS.mk ⟨s3,b3,c3⟩ ⟨s4,b4,c4⟩) k c l o v) (dJ (PtS.mk ⟨s1,b1,c1⟩ ⟨s2,b2,c2⟩) (PtS.mk ⟨s3,b3,c3⟩ ⟨s4,b4,c4⟩) k c v)),.bool (fP (PtS.mk ⟨s1,b1,c1⟩ ⟨s2,b2,c2⟩) (PtS.mk ⟨s3,b3,c3⟩ ⟨s4,b4,c4⟩) k c l o v&&!(dJ (PtS.mk ⟨s1,b1,c1⟩ ⟨s2,b2,c2⟩) (PtS.mk ⟨s3,b3,c3⟩ ⟨s4,b4,c4⟩) k c v).isEmpty),.int .i64 (bY (fP (PtS.mk ⟨s1,b1,c1⟩ ⟨s2,b2,c2⟩) (PtS.mk ⟨s3,b3,c3⟩ ⟨s4,b4,c4⟩) k c l o v))]⟩),[]⟩
 |_=>none
def D91:Opt:={ }
theorem HM:am D91.toOrd Tryz.f91 2=true:=by kernel_rfl
theorem f91:FnOk Tryz.prog 91 GQ:=by
 refine FnOk.ofW aj (oN (l:=[(125,CP),(126,CX)]) (own:=[]) (inl:=[]) (sq:=[(171,CY)]) (by simp [f125,f126]) (by simp) (by simp [f171])) Tryz.func91 D91 2 HM λargs r e=>?_;unfold GQ at e;split at e
 ·rename_i s1 b1 c1 s2 b2 c2 s3 b3 c3 s4 b4 c4 k c l o v
  cases e;refine⟨by simp,λhm=>?_⟩;obtain⟨⟨⟨hlo,hhi⟩,⟨hc,hk⟩,ho,hl⟩,a,b,rfl,ha,hb⟩:=hm _ rfl;obtain⟨lo,hlo'⟩:∃p,p=(PtS.mk ⟨s1,b1,c1⟩ ⟨s2,b2,c2⟩):=⟨_,rfl⟩;obtain⟨hi,hhi'⟩:∃p,p=(PtS.mk ⟨s3,b3,c3⟩ ⟨s4,b4,c4⟩):=⟨_,rfl⟩;have hc1:∀i,i < k->[.rs 6 (pn c i) (pg c i)]=c i:=λi hi=>(hc i hi).1.symm;have ho1:∀i,i < l->ag (ow o i)=o i:=λi hi=>(ho i hi).symm;refine⟨[],aa [(0,.agg [.val (.bool (PtS.mk ⟨s1,b1,c1⟩ ⟨s2,b2,c2⟩).x.s),.val (.string (PtS.mk ⟨s1,b1,c1⟩ ⟨s2,b2,c2⟩).x.b),.val (.string (PtS.mk ⟨s1,b1,c1⟩ ⟨s2,b2,c2⟩).x.c),.val (.bool (PtS.mk ⟨s1,b1,c1⟩ ⟨s2,b2,c2⟩).y.s),.val (.string (PtS.mk ⟨s1,b1,c1⟩ ⟨s2,b2,c2⟩).y.b),.val (.string (PtS.mk ⟨s1,b1,c1⟩ ⟨s2,b2,c2⟩).y.c),.val (.bool (PtS.mk ⟨s3,b3,c3⟩ ⟨s4,b4,c4⟩).x.s),.val (.string (PtS.mk ⟨s3,b3,c3⟩ ⟨s4,b4,c4⟩).x.b),.val (.string (PtS.mk ⟨s3,b3,c3⟩ ⟨s4,b4,c4⟩).x.c),.val (.bool (PtS.mk ⟨s3,b3,c3⟩ ⟨s4,b4,c4⟩).y.s),.val (.string (PtS.mk ⟨s3,b3,c3⟩ ⟨s4,b4,c4⟩).y.b),.val (.string (PtS.mk ⟨s3,b3,c3⟩ ⟨s4,b4,c4⟩).y.c),.rs 1 k (λi=>[.rs 6 (pn c i) (pg c i)]),.rs 3 l (λi=>ag (ow o i))]),(1,.val (ar a b))] [] 0 [],Wo trivial ⟨⟨rfl,rfl,rfl,rfl,rfl,rfl,rfl,rfl,rfl,rfl,rfl,rfl,⟨rfl,rfl,hc1⟩,⟨rfl,rfl,ho1⟩,qQ⟩,rfl,qQ⟩ trivial,?_⟩;rw [<-hlo'] at hlo ⊢;rw [<-hhi'] at hhi ⊢;clear hlo' hhi' hm;have hlo':=hlo.mono (show 10000<=4294967296 by decide);have hhi':=hhi.mono (show 10000<=4294967296 by decide);have hrg:(lo.le 4294967296/\hi.le 4294967296)/\bU 10000 k (λi=>[.rs 6 (pn c i) (pg c i)])/\cX l (λi=>ag (ow o i)):=⟨⟨hlo',hhi'⟩,⟨λi hi=>⟨rfl,(hc i hi).2⟩,hk⟩,λi hi=>rfl,hl⟩;obtain⟨R,hR⟩:∃R,R=bX lo hi k (pn c) (λi=>ab (pg c i)) l (ow o):=⟨_,rfl⟩;have hR':bX lo hi k (pn (λi=>[.rs 6 (pn c i) (pg c i)])) (λi=>ab (pg (λi=>[.rs 6 (pn c i) (pg c i)]) i)) l (ow (λi=>ag (ow o i)))=R:=hR.symm;have ha':=ha.mono (show 10000<=4294967296 by decide);have hb':=hb.mono (show 10000<=4294967296 by decide);obtain⟨L,hL⟩:∃L,L=dJ lo hi k c (ar a b):=⟨_,rfl⟩;rw [<-hL];obtain⟨OK,hOK⟩:∃OK,OK=fP lo hi k c l o (ar a b):=⟨_,rfl⟩;rw [<-hOK];obtain⟨VI,hVI⟩:∃VI,VI=wX OK L:=⟨_,rfl⟩;rw [<-hVI];obtain⟨VB,hVB⟩:∃VB,VB=(OK&&!L.isEmpty):=⟨_,rfl⟩;rw [<-hVB];have hL':ic lo hi k (pn (λi=>[.rs 6 (pn c i) (pg c i)])) (λi=>ab (pg (λi=>[.rs 6 (pn c i) (pg c i)]) i)) a b=L:=hL.symm;have cn:∀r:Nat->List PV,ab r 0=a->ab r 1=b->aA (λi=>!ai (ab r i)) 2=(!ai a||!ai b):=λr h h'=>by
   have e:List.range 2=[0,1]:=rfl;simp only [aA,e,List.any_cons,List.any_nil,Bool.or_false,h,h']
  have p2:∀r:Nat->List PV,r 0=a.cells->r 1=b.cells->isPL 4294967296 2 r:=λr h h'=>⟨λi hi=>by
   match i,hi with
   |0,_=>exact⟨by rw [ab,h];rfl,by rw [ab,h];exact ha'⟩
   |1,_=>exact⟨by rw [ab,h'];rfl,by rw [ab,h'];exact hb'⟩
   |i+2,h=>omega,by decide⟩
  have hOK':OK=(!(!ai a||!ai b)&&(R==0)):=by rw [hOK,hR];rfl
  have q1:∀r:Nat->List PV,ab r 0=a->ab r 1=b->(!(!aA (λi=>!ai (ab r i)) 2&&(bX lo hi k (pn (λi=>[.rs 6 (pn c i) (pg c i)])) (λi=>ab (pg (λi=>[.rs 6 (pn c i) (pg c i)]) i)) l (ow (λi=>ag (ow o i)))==0))) = !OK:=λr h h'=>by
   rw [cn r h h',hR',hOK']
  with_unfolding_all refine⟨⟨hrg,p2 _ rfl rfl⟩,λh1=>?_,λh1=>?_⟩
  ·have h1:OK=false:=by
    have:=(q1 _ rfl rfl).symm.trans h1;simpa using this
   have v1:PV.val (.int .i64 0)=PV.val (.int .i64 VI):=by rw [hVI,h1];rfl
   have v2:PV.val (.bool false)=PV.val (.bool VB):=by rw [hVB,h1];rfl
   have v3:PV.val (.int .i64 1)=PV.val (.int .i64 (bY OK)):=by rw [h1];rfl
   with_unfolding_all exact⟨[some 2,some 3,some 4],aa [(4,.ptr 0 0 0 0),(5,.ptr 1 1 0 0),(6,.ptr 2 2 0 0)] [⟨3,1,0,true,false,1,λ_=>[.val (.int .i64 VI)]⟩,⟨4,1,1,true,false,1,λ_=>[.val (.bool VB)]⟩,⟨38,1,2,true,false,1,λ_=>[.val (.int .i64 (bY OK))]⟩] 3 [],Wo ⟨qZ ⟨⟨v1,rfl⟩,qQ⟩,qZ ⟨⟨v2,rfl⟩,qQ⟩,qZ ⟨⟨v3,rfl⟩,qQ⟩,qQ⟩ ⟨pP,pP,pP,qQ⟩ trivial,rfl,rfl⟩
  ·have h1:OK=true:=by
    have:=(q1 _ rfl rfl).symm.trans h1;simpa using this
   have v3:PV.val (.int .i64 0)=PV.val (.int .i64 (bY OK)):=by rw [h1];rfl
   with_unfolding_all refine⟨⟨⟨λi _=>rfl,λi _=>rfl⟩,a,b,rfl⟩,⟨rq,⟨hlo,hhi⟩,⟨ha,hb⟩,⟨λi hi=>⟨rfl,(hc i hi).2⟩,hk⟩⟩,Unit,λi _=>i=0,λ_=>aa [(2,.ptr 0 0 0 0),(3,.ptr 1 1 0 0),(4,.ptr 2 2 0 0),(5,.ptr 3 3 0 0),(6,.ptr 4 4 0 0)] [⟨31,14,0,true,false,1,λ_=>[.val (.bool lo.x.s),.val (.string lo.x.b),.val (.string lo.x.c),.val (.bool lo.y.s),.val (.string lo.y.b),.val (.string lo.y.c),.val (.bool hi.x.s),.val (.string hi.x.b),.val (.string hi.x.c),.val (.bool hi.y.s),.val (.string hi.y.b),.val (.string hi.y.c),.rs 1 k (λi=>[.rs 6 (pn c i) (pg c i)]),.rs 3 l (λi=>ag (ow o i))]⟩,⟨117,12,1,true,false,1,λ_=>[.val (.bool a.x.s),.val (.string a.x.b),.val (.string a.x.c),.val (.bool a.y.s),.val (.string a.y.b),.val (.string a.y.c),.val (.bool b.x.s),.val (.string b.x.b),.val (.string b.x.c),.val (.bool b.y.s),.val (.string b.y.b),.val (.string b.y.c)]⟩,⟨3,1,2,true,false,1,λ_=>[.val (.int .i64 0)]⟩,⟨4,1,3,true,false,1,λ_=>[.val (.bool false)]⟩,⟨38,1,4,true,false,1,λ_=>[.val (.int .i64 0)]⟩] 5 [],⟨(),[some 0,some 1,some 2,some 3,some 4],rfl,Wo ⟨qZ ⟨rq,rq,rq,rq,rq,rq,rq,rq,rq,rq,rq,rq,⟨qW,rfl⟩,⟨qW,rfl⟩,qQ⟩,qZ ⟨rq,rq,rq,rq,rq,rq,rq,rq,rq,rq,rq,rq,qQ⟩,qY,qY,qY,qQ⟩ ⟨pP,pP,pP,pP,pP,qQ⟩ trivial⟩,λi y hin hI=>?_,λy hI=>?_⟩
   ·have hI:i=0:=hI;have hin:i < (ic lo hi k (pn (λi=>[.rs 6 (pn c i) (pg c i)])) (λi=>ab (pg (λi=>[.rs 6 (pn c i) (pg c i)]) i)) a b).length:=hin;have v1:PV.val (.int .i64 (Bp (ic lo hi k (pn (λi=>[.rs 6 (pn c i) (pg c i)])) (λi=>ab (pg (λi=>[.rs 6 (pn c i) (pg c i)]) i)) a b) i))=PV.val (.int .i64 VI):=by rw [hL',hVI,h1,hI];rfl
    have v2:PV.val (.bool true)=PV.val (.bool VB):=by
     rw [hL'] at hin;rw [hVB,h1];cases L with
     |nil=>cases hin
     |cons=>rfl
    with_unfolding_all exact⟨rfl,⟨[some 2,some 3,some 4],aa [(4,.ptr 0 0 0 0),(5,.ptr 1 1 0 0),(6,.ptr 2 2 0 0)] [⟨3,1,0,true,false,1,λ_=>[.val (.int .i64 VI)]⟩,⟨4,1,1,true,false,1,λ_=>[.val (.bool VB)]⟩,⟨38,1,2,true,false,1,λ_=>[.val (.int .i64 (bY OK))]⟩] 3 [],Wo ⟨qZ ⟨⟨v1,rfl⟩,qQ⟩,qZ ⟨⟨v2,rfl⟩,qQ⟩,qZ ⟨⟨v3,rfl⟩,qQ⟩,qQ⟩ ⟨pP,pP,pP,qQ⟩ trivial,rfl,rfl⟩⟩
   ·have hI:(ic lo hi k (pn (λi=>[.rs 6 (pn c i) (pg c i)])) (λi=>ab (pg (λi=>[.rs 6 (pn c i) (pg c i)]) i)) a b).length=0:=hI;rw [hL'] at hI;have hI:=List.length_eq_zero_iff.1 hI;have v1:PV.val (.int .i64 0)=PV.val (.int .i64 VI):=by rw [hVI,h1,hI];rfl
    have v2:PV.val (.bool false)=PV.val (.bool VB):=by rw [hVB,h1,hI];rfl
    with_unfolding_all exact⟨[some 2,some 3,some 4],aa [(4,.ptr 0 0 0 0),(5,.ptr 1 1 0 0),(6,.ptr 2 2 0 0)] [⟨3,1,0,true,false,1,λ_=>[.val (.int .i64 VI)]⟩,⟨4,1,1,true,false,1,λ_=>[.val (.bool VB)]⟩,⟨38,1,2,true,false,1,λ_=>[.val (.int .i64 (bY OK))]⟩] 3 [],Wo ⟨qZ ⟨⟨v1,rfl⟩,qQ⟩,qZ ⟨⟨v2,rfl⟩,qQ⟩,qZ ⟨⟨v3,rfl⟩,qQ⟩,qQ⟩ ⟨pP,pP,pP,qQ⟩ trivial,rfl,rfl⟩
 ·cases e
end Go.Proofs
namespace Go.Num
def a7 (lo hi:PtS) (k:Nat) (c:Nat->List PV) (l:Nat) (o:Nat->List PV) (a b:PtS):Bool:=fP lo hi k c l o (ar a b)&&(dJ lo hi k c (ar a b)).isEmpty
end Go.Num
namespace Go.Proofs
def FR:List PV->Option Ans
 |[.agg [.val (.bool s1),.val (.string b1),.val (.string c1),.val (.bool s2),.val (.string b2),.val (.string c2),.val (.bool s3),.val (.string b3),.val (.string c3),.val (.bool s4),.val (.string b4),.val (.string c4),.rs 1 k c,.rs 3 l o],.val v,.val w]=>some ⟨some (((PtS.le 10000 (PtS.mk ⟨s1,b1,c1⟩ ⟨s2,b2,c2⟩)/\PtS.le 10000 (PtS.mk ⟨s3,b3,c3⟩ ⟨s4,b4,c4⟩))/\bU 10000 k c/\cX l o)/\isPk 10000 v/\isPk 10000 w),.val (.bool (a7 (PtS.mk ⟨s1,b1,c1⟩ ⟨s2,b2,c2⟩) (PtS.mk ⟨s3,b3,c3⟩ ⟨s4,b4,c4⟩) k c l o (aN v) (aN w))),[]⟩
 |_=>none
theorem HN:am {} Tryz.f56 1=true:=by kernel_rfl
theorem f56:FnOk Tryz.prog 56 FR:=by
 refine FnOk.ofW aj (an (l:=[(91,GQ)]) (own:=[]) (inl:=[]) (by simp [f91]) (by simp)) Tryz.func56 {} 3 HN λargs r e=>?_;unfold FR at e;split at e
 ·rename_i s1 b1 c1 s2 b2 c2 s3 b3 c3 s4 b4 c4 k c l o v w
  cases e;refine⟨by simp,λhm=>?_⟩;obtain⟨⟨⟨hlo,hhi⟩,⟨hc,hk⟩,ho,hl⟩,⟨a,rfl,ha⟩,b,rfl,hb⟩:=hm _ rfl;obtain⟨lo,hlo'⟩:∃p,p=(PtS.mk ⟨s1,b1,c1⟩ ⟨s2,b2,c2⟩):=⟨_,rfl⟩;obtain⟨hi,hhi'⟩:∃p,p=(PtS.mk ⟨s3,b3,c3⟩ ⟨s4,b4,c4⟩):=⟨_,rfl⟩;have hc1:∀i,i < k->[.rs 6 (pn c i) (pg c i)]=c i:=λi hi=>(hc i hi).1.symm;have ho1:∀i,i < l->ag (ow o i)=o i:=λi hi=>(ho i hi).symm;refine⟨[],aa [(0,.agg [.val (.bool (PtS.mk ⟨s1,b1,c1⟩ ⟨s2,b2,c2⟩).x.s),.val (.string (PtS.mk ⟨s1,b1,c1⟩ ⟨s2,b2,c2⟩).x.b),.val (.string (PtS.mk ⟨s1,b1,c1⟩ ⟨s2,b2,c2⟩).x.c),.val (.bool (PtS.mk ⟨s1,b1,c1⟩ ⟨s2,b2,c2⟩).y.s),.val (.string (PtS.mk ⟨s1,b1,c1⟩ ⟨s2,b2,c2⟩).y.b),.val (.string (PtS.mk ⟨s1,b1,c1⟩ ⟨s2,b2,c2⟩).y.c),.val (.bool (PtS.mk ⟨s3,b3,c3⟩ ⟨s4,b4,c4⟩).x.s),.val (.string (PtS.mk ⟨s3,b3,c3⟩ ⟨s4,b4,c4⟩).x.b),.val (.string (PtS.mk ⟨s3,b3,c3⟩ ⟨s4,b4,c4⟩).x.c),.val (.bool (PtS.mk ⟨s3,b3,c3⟩ ⟨s4,b4,c4⟩).y.s),.val (.string (PtS.mk ⟨s3,b3,c3⟩ ⟨s4,b4,c4⟩).y.b),.val (.string (PtS.mk ⟨s3,b3,c3⟩ ⟨s4,b4,c4⟩).y.c),.rs 1 k (λi=>[.rs 6 (pn c i) (pg c i)]),.rs 3 l (λi=>ag (ow o i))]),(1,.val a.v),(2,.val b.v)] [] 0 [],Wo trivial ⟨⟨rfl,rfl,rfl,rfl,rfl,rfl,rfl,rfl,rfl,rfl,rfl,rfl,⟨rfl,rfl,hc1⟩,⟨rfl,rfl,ho1⟩,qQ⟩,rfl,rfl,qQ⟩ trivial,?_⟩;rw [<-hlo'] at hlo ⊢;rw [<-hhi'] at hhi ⊢;clear hlo' hhi' hm;have hlo':=hlo.mono (show 10000<=4294967296 by decide);have hhi':=hhi.mono (show 10000<=4294967296 by decide);have hrg:(lo.le 4294967296/\hi.le 4294967296)/\bU 10000 k (λi=>[.rs 6 (pn c i) (pg c i)])/\cX l (λi=>ag (ow o i)):=⟨⟨hlo',hhi'⟩,⟨λi hi=>⟨rfl,(hc i hi).2⟩,hk⟩,λi hi=>rfl,hl⟩;obtain⟨R,hR⟩:∃R,R=bX lo hi k (pn c) (λi=>ab (pg c i)) l (ow o):=⟨_,rfl⟩;have hR':bX lo hi k (pn (λi=>[.rs 6 (pn c i) (pg c i)])) (λi=>ab (pg (λi=>[.rs 6 (pn c i) (pg c i)]) i)) l (ow (λi=>ag (ow o i)))=R:=hR.symm;clear hR' hR;obtain⟨S,hS⟩:∃S,S=a7 lo hi k c l o a b:=⟨_,rfl⟩;have hv:a7 lo hi k c l o (aN a.v) (aN b.v)=S:=hS.symm;rw [hv];have hrg2:((lo.le 10000/\hi.le 10000)/\bU 10000 k (λi=>[.rs 6 (pn c i) (pg c i)])/\cX l (λi=>ag (ow o i)))/\dQ 10000 (ar a b):=⟨⟨⟨hlo,hhi⟩,⟨λi hi=>⟨rfl,(hc i hi).2⟩,hk⟩,λi hi=>rfl,hl⟩,a,b,rfl,ha,hb⟩;have fv:fP lo hi k (λi=>[.rs 6 (pn c i) (pg c i)]) l (λi=>ag (ow o i)) (ar a b)=fP lo hi k c l o (ar a b):=rfl;have fw:dJ lo hi k (λi=>[.rs 6 (pn c i) (pg c i)]) (ar a b)=dJ lo hi k c (ar a b):=rfl;have w1:(bY (fP lo hi k (λi=>[.rs 6 (pn c i) (pg c i)]) l (λi=>ag (ow o i)) (ar a b))==0)=true->PV.val (.bool (!(fP lo hi k (λi=>[.rs 6 (pn c i) (pg c i)]) l (λi=>ag (ow o i)) (ar a b)&&!(dJ lo hi k (λi=>[.rs 6 (pn c i) (pg c i)]) (ar a b)).isEmpty)))=PV.val (.bool S):=λh=>by
   have h:fP lo hi k (λi=>[.rs 6 (pn c i) (pg c i)]) l (λi=>ag (ow o i)) (ar a b)=true:=by cases h':fP lo hi k (λi=>[.rs 6 (pn c i) (pg c i)]) l (λi=>ag (ow o i)) (ar a b) with
    |true=>rfl
    |false=>rw [h'] at h;cases h
   rw [fv] at h ⊢;rw [fw,h,hS,a7,h,Bool.true_and,Bool.true_and,Bool.not_not]
  have w2:(bY (fP lo hi k (λi=>[.rs 6 (pn c i) (pg c i)]) l (λi=>ag (ow o i)) (ar a b))==0)=false->PV.val (.bool false)=PV.val (.bool S):=λh=>by
   have h:fP lo hi k (λi=>[.rs 6 (pn c i) (pg c i)]) l (λi=>ag (ow o i)) (ar a b)=false:=by cases h':fP lo hi k (λi=>[.rs 6 (pn c i) (pg c i)]) l (λi=>ag (ow o i)) (ar a b) with
    |false=>rfl
    |true=>rw [h'] at h;cases h
   rw [fv] at h;rw [hS,a7,h,Bool.false_and]
  with_unfolding_all exact⟨hrg2,λh1=>⟨[],aa [(6,.val (.bool S))] [] 0 [],Wo trivial ⟨w1 h1,qQ⟩ trivial,rfl,rfl⟩,λh1=>⟨[],aa [(6,.val (.bool S))] [] 0 [],Wo trivial ⟨w2 h1,qQ⟩ trivial,rfl,rfl⟩⟩
 ·cases e
end Go.Proofs
namespace Go.Num
def dv (S:PtS->Bool) (p:Nat->PtS):Nat->List PtS
 |0=>[]
 |j+1=>dv S p j++(bif S (p j) then [p j] else [])
def cQ (S:PtS->Bool) (n:Nat->Nat) (p:Nat->Nat->PtS):Nat->List PtS
 |0=>[]
 |i+1=>cQ S n p i++dv S (p i) (n i)
theorem nQ {S:PtS->Bool} {p:Nat->PtS}:∀(d j:Nat),dv S p j <+: dv S p (j+d)
 |0,j=>List.prefix_refl _
 |d+1,j=>(nQ d j).trans (List.prefix_append _ _)
theorem nR {S:PtS->Bool} {n:Nat->Nat} {p:Nat->Nat->PtS}:∀(d j:Nat),cQ S n p j <+: cQ S n p (j+d)
 |0,j=>List.prefix_refl _
 |d+1,j=>(nR d j).trans (List.prefix_append _ _)
theorem AC {S:PtS->Bool} {n:Nat->Nat} {p:Nat->Nat->PtS} {i k j:Nat} (hi:i < k) (hj:j < n i) (h:S (p i j)=true) :
  (cQ S n p k)[(cQ S n p i).length+(dv S (p i) j).length]? = some (p i j)/\(cQ S n p i).length+(dv S (p i) j).length < (cQ S n p k).length:=by
 obtain⟨t,ht⟩:=nR (S:=S) (n:=n) (p:=p) (k - (i+1)) (i+1);rw [show i+1+(k - (i+1))=k by omega] at ht;obtain⟨u,hu⟩:=nQ (S:=S) (p:=p i) (n i - (j+1)) (j+1);rw [show j+1+(n i - (j+1))=n i by omega] at hu;rw [<-ht,cQ,<-hu,dv,h];simp
def ae (L:List PtS) (i:Nat):PtS:=L[i]?.getD (cr [])
def au (lo hi:PtS) (k:Nat) (c:Nat->List PV) (l:Nat) (o:Nat->List PV):List PtS:=cQ (λp=>a7 lo hi k c l o p p) (pn c) (λi=>ab (pg c i)) k
end Go.Num
namespace Go.Proofs
def HO:List PV->Option Ans
 |[.agg [.val (.bool s1),.val (.string b1),.val (.string c1),.val (.bool s2),.val (.string b2),.val (.string c2),.val (.bool s3),.val (.string b3),.val (.string c3),.val (.bool s4),.val (.string b4),.val (.string c4),.rs 1 k c,.rs 3 l o]]=>some ⟨some (((∀i,i < k->c i=[.rs 6 (pn c i) (pg c i)])/\∀i,i < l->o i=ag (ow o i))),.fn (.func 129) [] [.rp 14 1 (λ_=>br (PtS.mk ⟨s1,b1,c1⟩ ⟨s2,b2,c2⟩) (PtS.mk ⟨s3,b3,c3⟩ ⟨s4,b4,c4⟩) k c l o) 0 0],[]⟩
 |_=>none
theorem HP:am {} Tryz.f94 1=true:=by kernel_rfl
theorem f94:FnOk Tryz.prog 94 HO:=by
 refine FnOk.ofW aj (an (l:=[]) (own:=[]) (inl:=[]) (by simp) (by simp)) Tryz.func94 {} 1 HP λargs r e=>?_;unfold HO at e;split at e
 ·rename_i s1 b1 c1 s2 b2 c2 s3 b3 c3 s4 b4 c4 k c l o
  cases e;refine⟨by simp,λhm=>?_⟩;obtain⟨hc,ho⟩:=hm _ rfl;have hc1:∀i,i < k->[.rs 6 (pn c i) (pg c i)]=c i:=λi hi=>(hc i hi).symm;have ho1:∀i,i < l->ag (ow o i)=o i:=λi hi=>(ho i hi).symm;refine⟨[],aa [(0,.agg [.val (.bool (PtS.mk ⟨s1,b1,c1⟩ ⟨s2,b2,c2⟩).x.s),.val (.string (PtS.mk ⟨s1,b1,c1⟩ ⟨s2,b2,c2⟩).x.b),.val (.string (PtS.mk ⟨s1,b1,c1⟩ ⟨s2,b2,c2⟩).x.c),.val (.bool (PtS.mk ⟨s1,b1,c1⟩ ⟨s2,b2,c2⟩).y.s),.val (.string (PtS.mk ⟨s1,b1,c1⟩ ⟨s2,b2,c2⟩).y.b),.val (.string (PtS.mk ⟨s1,b1,c1⟩ ⟨s2,b2,c2⟩).y.c),.val (.bool (PtS.mk ⟨s3,b3,c3⟩ ⟨s4,b4,c4⟩).x.s),.val (.string (PtS.mk ⟨s3,b3,c3⟩ ⟨s4,b4,c4⟩).x.b),.val (.string (PtS.mk ⟨s3,b3,c3⟩ ⟨s4,b4,c4⟩).x.c),.val (.bool (PtS.mk ⟨s3,b3,c3⟩ ⟨s4,b4,c4⟩).y.s),.val (.string (PtS.mk ⟨s3,b3,c3⟩ ⟨s4,b4,c4⟩).y.b),.val (.string (PtS.mk ⟨s3,b3,c3⟩ ⟨s4,b4,c4⟩).y.c),.rs 1 k (λi=>[.rs 6 (pn c i) (pg c i)]),.rs 3 l (λi=>ag (ow o i))])] [] 0 [],Wo trivial ⟨⟨rfl,rfl,rfl,rfl,rfl,rfl,rfl,rfl,rfl,rfl,rfl,rfl,⟨rfl,rfl,hc1⟩,⟨rfl,rfl,ho1⟩,qQ⟩,qQ⟩ trivial,?_⟩;with_unfolding_all exact⟨[some 0],aa [(2,.fn (.func 129) [] [.ptr 0 0 0 0])] [⟨31,14,0,true,false,1,λ_=>br (PtS.mk ⟨s1,b1,c1⟩ ⟨s2,b2,c2⟩) (PtS.mk ⟨s3,b3,c3⟩ ⟨s4,b4,c4⟩) k c l o⟩] 1 [],Wo ⟨qZ ⟨rq,rq,rq,rq,rq,rq,rq,rq,rq,rq,rq,rq,⟨qW,rfl⟩,⟨qW,rfl⟩,qQ⟩,qQ⟩ ⟨⟨rfl,trivial,pP,qQ⟩,qQ⟩ trivial,rfl,rfl⟩
 ·cases e
def CZ:List PV->Option gR
 |[.rp 14 1 h 0 0]=>some ⟨some (AB h/\((bV (h 0)).le 10000/\(bW (h 0)).le 10000)/\bU 10000 (gK (h 0)) (gC (h 0))/\cX (gL (h 0)) (gO (h 0))),(au (bV (h 0)) (bW (h 0)) (gK (h 0)) (gC (h 0)) (gL (h 0)) (gO (h 0))).length,λi=>[.val (ae (au (bV (h 0)) (bW (h 0)) (gK (h 0)) (gC (h 0)) (gL (h 0)) (gO (h 0))) i).v]⟩
 |_=>none
def D129:Opt:={ }
theorem FS:am D129.toOrd Tryz.f129 2=true:=by kernel_rfl
theorem f129:SeqFn Tryz.prog 129 CZ:=by
 refine SeqFn.of aj (an (l:=[(56,FR)]) (own:=[]) (inl:=[]) (by simp [f56]) (by simp)) Tryz.func129 D129 2 FS rfl λargs r e=>?_;unfold CZ at e;split at e
 ·rename_i h
  cases e;refine⟨by simp,λhm L0=>?_⟩;obtain⟨h1,⟨hlo,hhi⟩,⟨hc,hk⟩,ho,hl⟩:=hm _ rfl;unfold AB at h1;generalize bV (h 0)=lo at *
  generalize bW (h 0)=hi at *
  generalize gK (h 0)=k at *
  generalize gC (h 0)=c at *
  generalize gL (h 0)=l at *
  generalize gO (h 0)=o at *
  subst h1;clear hm;with_unfolding_all refine⟨Nat,λi=>i<=k,λi=>aa [(0,.val (.func (.yield L0) ⟨[]⟩ ⟨[]⟩)),(1,.rp 14 1 (λ_=>br lo hi k c l o) 0 0),(8,.rs 1 k (λi=>[.rs 6 (pn c i) (pg c i)])),(9,.val (goInt k)),(10,.val (goInt i))] [] 0 [[(0,.val (.int .i64 (((cQ (λp=>a7 lo hi k c l o p p) (pn c) (λi=>ab (pg c i)) i).length:Nat):Int))),(1,.val (.bool false))]],λi=>k - i,⟨0,[],Nat.zero_le _,Wo trivial ⟨rfl,⟨rfl,rfl,rfl,rfl,λ_ _=>rfl⟩,qW,rfl,rfl,qQ⟩ ⟨⟨rfl,rfl,qQ⟩,qQ⟩⟩,λi hik=>?_⟩
  have bL:decide ((i:Int) < (k:Int))=true->i < k:=λh=>Int.ofNat_lt.1 (of_decide_eq_true h);have dI:decide ((i:Int) < (k:Int))=false->i=k:=λh=>Nat.le_antisymm hik (Nat.le_of_not_lt λh'=>of_decide_eq_false h (Int.ofNat_lt.2 h'));with_unfolding_all refine⟨λh0=>⟨⟨Int.natCast_nonneg i,Int.ofNat_lt.2 (bL h0)⟩,Nat,λj=>j<=pn c i,λj=>aa [(0,.val (.func (.yield L0) ⟨[]⟩ ⟨[]⟩)),(1,.rp 14 1 (λ_=>br lo hi k c l o) 0 0),(8,.rs 1 k (λi=>[.rs 6 (pn c i) (pg c i)])),(9,.val (goInt k)),(10,.val (goInt i)),(14,.rs 6 (pn c i) (λj=>(ab (pg c i) j).cells)),(15,.val (goInt (pn c i))),(16,.val (goInt j))] [] 0 [[(0,.val (.int .i64 (((cQ (λp=>a7 lo hi k c l o p p) (pn c) (λi=>ab (pg c i)) i).length+(dv (λp=>a7 lo hi k c l o p p) (ab (pg c i)) j).length:Nat):Int))),(1,.val (.bool false))]],λj=>pn c i - j,⟨0,[],Nat.zero_le _,Wo trivial ⟨rfl,⟨rfl,rfl,rfl,rfl,λ_ _=>rfl⟩,qW,rfl,rfl,⟨rfl,rfl,λj hj=>((hc i (bL h0)).2.1 j hj).1.symm⟩,rfl,rfl,qQ⟩ ⟨⟨rfl,rfl,qQ⟩,qQ⟩⟩,λj hj=>?_⟩,λh0=>?_⟩
  ·have hik:=bL h0;have jT:decide ((j:Int) < (pn c i:Int))=true->j < pn c i:=λh=>Int.ofNat_lt.1 (of_decide_eq_true h);have jF:decide ((j:Int) < (pn c i:Int))=false->j=pn c i:=λh=>Nat.le_antisymm hj (Nat.le_of_not_lt λh'=>of_decide_eq_false h (Int.ofNat_lt.2 h'));have hn:=(hc i hik).2.2;have wj:decide ((j:Int) < (pn c i:Int))=true->PV.val (.int .i64 (IntKind.i64.wrap ((j:Int)+1)))=.val (goInt (j+1:Nat)):=λh=>by
    have:=jT h;rw [wrap64 (by omega) (by omega)];rfl
   have wi:PV.val (.int .i64 (IntKind.i64.wrap ((i:Int)+1)))=.val (goInt (i+1:Nat)):=by
    rw [wrap64 (by omega) (by omega)];rfl
   have pr:decide ((j:Int) < (pn c i:Int))=true->(((lo.le 10000/\hi.le 10000)/\bU 10000 k (λi=>[.rs 6 (pn c i) (pg c i)])/\cX l (λi=>ag (ow o i)))/\isPk 10000 (ab (pg c i) ((j:Nat):Int).toNat).v/\isPk 10000 (ab (pg c i) ((j:Nat):Int).toNat).v):=λh=>by
    have hp:=((hc i hik).2.1 j (jT h)).2;exact⟨⟨⟨hlo,hhi⟩,⟨λi hi=>⟨rfl,(hc i hi).2⟩,hk⟩,λi hi=>rfl,hl⟩,⟨_,rfl,hp⟩,_,rfl,hp⟩
   have yl:j < pn c i->a7 lo hi k c l o (ab (pg c i) j) (ab (pg c i) j)=true->(cQ (λp=>a7 lo hi k c l o p p) (pn c) (λi=>ab (pg c i)) i).length+(dv (λp=>a7 lo hi k c l o p p) (ab (pg c i)) j).length < (au lo hi k c l o).length/\[PV.val (ab (pg c i) ((j:Nat):Int).toNat).v]=[PV.val (ae (au lo hi k c l o) ((cQ (λp=>a7 lo hi k c l o p p) (pn c) (λi=>ab (pg c i)) i).length+(dv (λp=>a7 lo hi k c l o p p) (ab (pg c i)) j).length)).v]/\(cQ (λp=>a7 lo hi k c l o p p) (pn c) (λi=>ab (pg c i)) i).length+(dv (λp=>a7 lo hi k c l o p p) (ab (pg c i)) j).length+1=(cQ (λp=>a7 lo hi k c l o p p) (pn c) (λi=>ab (pg c i)) i).length+(dv (λp=>a7 lo hi k c l o p p) (ab (pg c i)) (j+1)).length:=λh h'=>by
    have g:=AC (S:=(λp=>a7 lo hi k c l o p p)) (n:=pn c) (p:=λi=>ab (pg c i)) hik h h';refine⟨g.2,?_,?_⟩
    ·unfold ae au;rw [g.1];rfl
    ·rw [dv];simp only [h',cond_true,List.length_append,List.length_singleton];rfl
   have sk:a7 lo hi k c l o (ab (pg c i) j) (ab (pg c i) j)=false->(cQ (λp=>a7 lo hi k c l o p p) (pn c) (λi=>ab (pg c i)) i).length+(dv (λp=>a7 lo hi k c l o p p) (ab (pg c i)) j).length=(cQ (λp=>a7 lo hi k c l o p p) (pn c) (λi=>ab (pg c i)) i).length+(dv (λp=>a7 lo hi k c l o p p) (ab (pg c i)) (j+1)).length:=λh'=>by
    rw [dv];simp only [h',cond_false,List.append_nil]
   have fin:decide ((j:Int) < (pn c i:Int))=false->(cQ (λp=>a7 lo hi k c l o p p) (pn c) (λi=>ab (pg c i)) i).length+(dv (λp=>a7 lo hi k c l o p p) (ab (pg c i)) j).length=(cQ (λp=>a7 lo hi k c l o p p) (pn c) (λi=>ab (pg c i)) (i+1)).length:=λh=>by
    rw [jF h,cQ,List.length_append]
   with_unfolding_all refine⟨λh1=>⟨⟨Int.natCast_nonneg j,Int.ofNat_lt.2 (jT h1)⟩,pr h1,λh2=>⟨rfl,(cQ (λp=>a7 lo hi k c l o p p) (pn c) (λi=>ab (pg c i)) i).length+(dv (λp=>a7 lo hi k c l o p p) (ab (pg c i)) j).length,rfl,(yl (jT h1) h2).1,(yl (jT h1) h2).2.1,⟨λ_=>⟨λe=>(nomatch e),λ_=>⟨j+1,[],jT h1,by have:=jT h1;show pn c i - (j+1) < pn c i - j;omega,Wo trivial ⟨rfl,⟨rfl,rfl,rfl,rfl,λ_ _=>rfl⟩,qW,rfl,rfl,qW,rfl,wj h1,qQ⟩ ⟨⟨congrArg (λz:Nat=>PV.val (.int .i64 (z:Int))) (yl (jT h1) h2).2.2,rfl,qQ⟩,qQ⟩⟩⟩,λe=>(nomatch e)⟩,⟨λ_=>⟨λ_=>trivial,λe=>(nomatch e)⟩,λe=>(nomatch e)⟩⟩,λh2=>⟨λe=>(nomatch e),λ_=>⟨j+1,[],jT h1,by have:=jT h1;show pn c i - (j+1) < pn c i - j;omega,Wo trivial ⟨rfl,⟨rfl,rfl,rfl,rfl,λ_ _=>rfl⟩,qW,rfl,rfl,qW,rfl,wj h1,qQ⟩ ⟨⟨congrArg (λz:Nat=>PV.val (.int .i64 (z:Int))) (sk h2),rfl,qQ⟩,qQ⟩⟩⟩⟩,λh1=>⟨i+1,[],hik,by show k - (i+1) < k - i;omega,Wo trivial ⟨rfl,⟨rfl,rfl,rfl,rfl,λ_ _=>rfl⟩,qW,rfl,wi,qQ⟩ ⟨⟨congrArg (λz:Nat=>PV.val (.int .i64 (z:Int))) (fin h1),rfl,qQ⟩,qQ⟩⟩⟩
  ·rw [dI h0];rfl
 ·cases e
theorem vg {V r:Nat->List PV} {y:Nat} (h:r 0=V y):∀i,i < y+1->V i=gH y V r i:=λi hi=>by
 unfold gH;by_cases hy:i < y
 ·rw [if_pos hy]
 ·obtain rfl:i=y:=by omega
  rw [if_neg hy,Nat.sub_self,h]
def C0:List PV->Option Ans
 |[.val (.slice none 0 0),.fn (.func 129) [] [.rp 14 1 h 0 0]]=>some ⟨some ((AB h/\((bV (h 0)).le 10000/\(bW (h 0)).le 10000)/\bU 10000 (gK (h 0)) (gC (h 0))/\cX (gL (h 0)) (gO (h 0)))/\(au (bV (h 0)) (bW (h 0)) (gK (h 0)) (gC (h 0)) (gL (h 0)) (gO (h 0))).length<=1000),.sl 0 0 0 (au (bV (h 0)) (bW (h 0)) (gK (h 0)) (gC (h 0)) (gL (h 0)) (gO (h 0))).length,[⟨25,6,0,false,false,(au (bV (h 0)) (bW (h 0)) (gK (h 0)) (gC (h 0)) (gL (h 0)) (gO (h 0))).length,λi=>(ae (au (bV (h 0)) (bW (h 0)) (gK (h 0)) (gC (h 0)) (gL (h 0)) (gO (h 0))) i).cells⟩]⟩
 |_=>none
def D175:Opt:={ }
theorem FT:am D175.toOrd Tryz.f175 2=true:=by kernel_rfl
theorem f175:FnOk Tryz.prog 175 C0:=by
 refine FnOk.ofW aj (oN (l:=[]) (own:=[]) (inl:=[]) (sq:=[(129,CZ)]) (by simp) (by simp) (by simp [f129])) Tryz.func175 D175 2 FT λargs r e=>?_;unfold C0 at e;split at e
 ·rename_i h
  cases e;refine⟨by simp,λhm=>?_⟩;obtain⟨hp,hn⟩:=hm _ rfl;refine⟨[],aa [(0,.val (.slice none 0 0)),(1,.fn (.func 129) [] [.rp 14 1 h 0 0])] [] 0 [],Wo trivial ⟨rfl,⟨rfl,trivial,⟨rfl,rfl,rfl,rfl,λ_ _=>rfl⟩,qQ⟩,qQ⟩ trivial,?_⟩;have hP:AB h/\((bV (h 0)).le 10000/\(bW (h 0)).le 10000)/\bU 10000 (gK (h 0)) (gC (h 0))/\cX (gL (h 0)) (gO (h 0)):=hp;with_unfolding_all refine⟨hP,Nat,λi y=>y=i,λy=>aa [(2,.ptr 0 0 0 0)] [⟨34,1,0,true,false,1,λ_=>[.sl 1 1 0 y]⟩,⟨25,6,1,false,false,y,λi=>(ae (au (bV (h 0)) (bW (h 0)) (gK (h 0)) (gC (h 0)) (gL (h 0)) (gO (h 0))) i).cells⟩] 2 [],⟨0,[some 0,none],rfl,Wo ⟨qZ ⟨⟨⟨rfl,rfl,rfl,rfl,aP rfl⟩,rfl⟩,qQ⟩,⟨aP rfl,rfl,rfl,rfl⟩,qQ⟩ ⟨pP,qQ⟩ trivial⟩,λi y hi hI=>?_,λy hI=>?_⟩
  ·have hy:y < 1000:=Nat.lt_of_lt_of_le (show y < (au (bV (h 0)) (bW (h 0)) (gK (h 0)) (gC (h 0)) (gL (h 0)) (gO (h 0))).length from hI▸hi) hn;have hI:y=i:=hI;subst hI;have k1:(y+1)*80<=140737488355328:=by omega
   with_unfolding_all refine⟨rfl,⟨rfl,?_,?_⟩,y+1,[some 0,some 1],rfl,Wo ⟨qZ ⟨⟨pP,rfl⟩,qQ⟩,qZ (?_),qQ⟩ ⟨pP,qQ⟩ trivial⟩
   ·with_unfolding_all exact k1
   ·with_unfolding_all exact(show y+1<=9223372036854775807 by omega)
   ·with_unfolding_all exact vg (V:=λi=>(ae (au (bV (h 0)) (bW (h 0)) (gK (h 0)) (gC (h 0)) (gL (h 0)) (gO (h 0))) i).cells) rfl
  ·have hI:y=(au (bV (h 0)) (bW (h 0)) (gK (h 0)) (gC (h 0)) (gL (h 0)) (gO (h 0))).length:=hI;subst hI;with_unfolding_all exact⟨[some 1],aa [(4,.sl 0 0 0 (au (bV (h 0)) (bW (h 0)) (gK (h 0)) (gC (h 0)) (gL (h 0)) (gO (h 0))).length)] [⟨25,6,0,false,false,(au (bV (h 0)) (bW (h 0)) (gK (h 0)) (gC (h 0)) (gL (h 0)) (gO (h 0))).length,λi=>(ae (au (bV (h 0)) (bW (h 0)) (gK (h 0)) (gC (h 0)) (gL (h 0)) (gO (h 0))) i).cells⟩] 1 [],Wo ⟨qZ (λ_ _=>rfl),qQ⟩ ⟨pP,qQ⟩ trivial,rfl,rfl⟩
 ·cases e
def C1:List PV->Option Ans
 |[.fn (.func 129) [] [.rp 14 1 h 0 0]]=>some ⟨some ((AB h/\((bV (h 0)).le 10000/\(bW (h 0)).le 10000)/\bU 10000 (gK (h 0)) (gC (h 0))/\cX (gL (h 0)) (gO (h 0)))/\(au (bV (h 0)) (bW (h 0)) (gK (h 0)) (gC (h 0)) (gL (h 0)) (gO (h 0))).length<=1000),.sl 0 0 0 (au (bV (h 0)) (bW (h 0)) (gK (h 0)) (gC (h 0)) (gL (h 0)) (gO (h 0))).length,[⟨25,6,0,false,false,(au (bV (h 0)) (bW (h 0)) (gK (h 0)) (gC (h 0)) (gL (h 0)) (gO (h 0))).length,λi=>(ae (au (bV (h 0)) (bW (h 0)) (gK (h 0)) (gC (h 0)) (gL (h 0)) (gO (h 0))) i).cells⟩]⟩
 |_=>none
theorem FU:am {} Tryz.f127 1=true:=by kernel_rfl
theorem f127:FnOk Tryz.prog 127 C1:=by
 refine FnOk.ofW aj (an (l:=[(175,C0)]) (own:=[175]) (inl:=[]) (by simp [f175]) (by simp)) Tryz.func127 {} 1 FU λargs r e=>?_;unfold C1 at e;split at e
 ·rename_i h
  cases e;refine⟨by simp,λhm=>?_⟩;have hp:=hm _ rfl;refine⟨[],aa [(0,.fn (.func 129) [] [.rp 14 1 h 0 0])] [] 0 [],Wo trivial ⟨⟨rfl,trivial,⟨rfl,rfl,rfl,rfl,λ_ _=>rfl⟩,qQ⟩,qQ⟩ trivial,?_⟩;with_unfolding_all refine⟨hp,?_⟩
  with_unfolding_all exact⟨[some 0],aa [(2,.sl 0 0 0 (au (bV (h 0)) (bW (h 0)) (gK (h 0)) (gC (h 0)) (gL (h 0)) (gO (h 0))).length)] [⟨25,6,0,false,false,(au (bV (h 0)) (bW (h 0)) (gK (h 0)) (gC (h 0)) (gL (h 0)) (gO (h 0))).length,λi=>(ae (au (bV (h 0)) (bW (h 0)) (gK (h 0)) (gC (h 0)) (gL (h 0)) (gO (h 0))) i).cells⟩] 1 [],Wo ⟨qZ (λ_ _=>rfl),qQ⟩ ⟨pP,qQ⟩ trivial,rfl,rfl⟩
 ·cases e
end Go.Proofs
namespace Go.Ex
open Go.Sort
theorem lh {w:World} {g:Nat} {cur:Array Value} {e:TypeId} {F:Array Value} (hb:w.heap[g]? = some (.cells cur e (0,0))) (ht:cur.toList.take F.size=F.toList):Holds id w g 0 F:=by
 intro j hj;refine⟨?_,by simp [World.frozen?,hb]⟩;have h1:(cur.toList.take F.size)[j]? = F.toList[j]?:=by rw [ht]
 rw [List.getElem?_take_of_lt hj] at h1;simp only [World.cell?,hb,Nat.zero_add];simp only [Option.isSome_none,Bool.false_eq_true,if_false];rw [<-Array.getElem?_toList,h1];simp [hj]
theorem pA {w:World} {g n:Nat} {os:Array Obj} {cur:Array Value} {e:TypeId} {fr:Nat×Nat} (d:Array Value) (hb:w.heap[g]? = some (.cells cur e fr)) :
  (grow (putRow id (Sort.ahead w n) g 0 d) os).heap[g]? = some (.cells (putCells id 0 d cur) e fr):=by
 have hg:g < w.heap.size:=(Array.getElem?_eq_some_iff.1 hb).1;rw [heap_grow_old _ _ (by simpa using hg)];simp [putRow,mapBlock,Sort.ahead,Array.getElem?_modify,hb,onCells]
theorem li {w:World} {g n:Nat} {os:Array Obj} (d:Array Value):w.grownBy (grow (putRow id (Sort.ahead w n) g 0 d) os) (some g):=by
 refine⟨rfl,rfl,rfl,by simp,λk hk hne=>?_⟩;rw [heap_grow_old _ _ (by simpa using hk)];have:g≠k:=λe=>hne (by rw [e]);simp [putRow,mapBlock,Sort.ahead,Array.getElem?_modify,this]
theorem mE (cur:Array Value) (F:Array Value) (h:F.size<=cur.size):(putCells id 0 F cur).toList.take F.size=F.toList:=by
 apply List.ext_getElem?;intro j;by_cases hj:j < F.size
 ·rw [List.getElem?_take_of_lt hj,Array.getElem?_toList];simp [putCells,hj,show j < cur.size by omega]
 ·rw [List.getElem?_take_eq_none (by omega),List.getElem?_eq_none (by simp;omega)]
theorem lj {w:World} {base g cap n m es:Nat} {e:TypeId} {os:Array Obj} {cur:Array Value} {F:Array Value} (hF:F.size=m*es) (hbase:base<=g) (hb:w.heap[g]? = some (.cells cur e (0,0)))
  (h1:m<=cap) (h2:cap<=maxLen) (h3:cur.size=cap*es) :
  (grow (putRow id (Sort.ahead w n) g 0 F) os).ownsRow base e es (.slice (some ⟨g,0,none⟩) m cap) m F.toList :=
 ⟨by simp [hF],.inr ⟨g,cap,_,rfl,hbase,pA _ hb,h1,h2,by simp [putCells,h3],by
  rw [<-hF];exact mE cur F (by rw [hF,h3];exact Nat.mul_le_mul_right _ h1)⟩⟩
theorem AD {w w':World} (h:RowKit.Below w.heap.size w w') (hd:w.drawn<=w'.drawn):∃q os,w'=grow (w.drewN q) os:=by
 refine⟨w'.drawn - w.drawn,w'.heap.extract w.heap.size w'.heap.size,?_⟩;have hheap:w'.heap=w.heap++w'.heap.extract w.heap.size w'.heap.size:=by
  apply Array.ext_getElem?;intro k;by_cases hk:k < w.heap.size
  ·rw [h.block k hk,Array.getElem?_append_left hk]
  ·have:=h.size;rw [Array.getElem?_append_right (by omega),Array.getElem?_extract];split
   ·congr 1;omega
   ·rw [Array.getElem?_eq_none (by omega)]
 obtain⟨hp,tp,dr,os,ou⟩:=w';obtain⟨hp0,tp0,dr0,os0,ou0⟩:=w;have e1:os=os0:=h.os;have e2:tp=tp0:=h.tape;have e3:ou=ou0:=h.output;subst e1;subst e2;subst e3;simp only at hheap hd ⊢;unfold grow World.drewN;simp only;rw [<-hheap,show dr0+(dr - dr0)=dr by omega]
end Go.Ex
namespace Go.Num
open Go.Sort
def PtS.enc (p:PtS):List Value:=[.bool p.x.s,.string p.x.b,.string p.x.c,.bool p.y.s,.string p.y.b,.string p.y.c]
structure PtB where
 v:PtS
 h:v.le 10000
instance:Inhabited PtB:=⟨⟨⟨⟨false,⟨#[]⟩,⟨#[]⟩⟩,⟨false,⟨#[]⟩,⟨#[]⟩⟩⟩,⟨by decide,by decide⟩,by decide,by decide⟩⟩
instance (k:Nat) (r:RatS):Decidable (r.le k):=inferInstanceAs (Decidable (_/\_))
instance (k:Nat) (p:PtS):Decidable (p.le k):=inferInstanceAs (Decidable (_/\_))
def iO (x y:PtB):Int:=cu x.1 y.1
def ky (V:List PtB):List PtB:=(pdq (ltOf iO) V.toArray 0 V.toArray.size (Lib.bitLen V.toArray.size) true true).toList
def aQ (V:List PtS):List PtS:=if h:∀p∈V,p.le 10000 then(ky (V.pmap PtB.mk h)).map (·.1) else V
theorem rL {a b:Rat}:ao a b < 0↔a < b:=by
 unfold ao;split
 ·rename_i h;exact⟨λ_=>h,λ_=>by decide⟩
 ·split
  ·rename_i h _;exact⟨λh2=>absurd h2 (by decide),λh2=>absurd h2 h⟩
  ·rename_i h _;exact⟨λh2=>absurd h2 (by decide),λh2=>absurd h2 h⟩
theorem rM {a b:Rat}:ao a b=0↔a=b:=by
 unfold ao;split
 ·rename_i h;exact⟨λh2=>absurd h2 (by decide),λh2=>by subst h2;exact absurd h (Rat.lt_irrefl)⟩
 ·split
  ·rename_i h;exact⟨λh2=>absurd h2 (by decide),λh2=>by subst h2;exact absurd h (Rat.lt_irrefl)⟩
  ·rename_i h1 h2;exact⟨λ_=>Rat.le_antisymm (Rat.not_lt.1 h2) (Rat.not_lt.1 h1),λ_=>rfl⟩
theorem jU {p u:PtS}:cu p u < 0↔p.X < u.X\/(p.X=u.X/\p.Y < u.Y):=by
 unfold cu;split
 ·rename_i h
  rw [rM] at h;rw [rL];exact⟨λh2=>.inr ⟨h,h2⟩,λh2=>h2.elim (λh3=>absurd (h▸h3) Rat.lt_irrefl) (·.2)⟩
 ·rename_i h
  rw [rM] at h;rw [rL];exact⟨.inl,λh2=>h2.elim id λh3=>absurd h3.1 h⟩
theorem FV {a b c:Rat} (h:a < b) (k:b < c):a < c:=by grind
theorem FX:SWO (ltOf iO) where
 irrefl x:=by
  unfold ltOf iO;rw [decide_eq_false_iff_not,jU];rintro (h|h)
  ·exact Rat.lt_irrefl h
  ·exact Rat.lt_irrefl h.2
 trans x y z h1 h2:=by
  unfold ltOf iO at *
  rw [decide_eq_true_iff,jU] at *
  rcases h1 with h1|⟨e1,h1⟩<;>rcases h2 with h2|⟨e2,h2⟩
  ·exact .inl (FV h1 h2)
  ·exact .inl (e2▸h1)
  ·exact .inl (e1▸h2)
  ·exact .inr ⟨e1.trans e2,FV h1 h2⟩
 ntrans x y z h1 h2:=by
  unfold ltOf iO at *
  rw [decide_eq_false_iff_not,jU] at *
  rintro (h|⟨e,h⟩)
  ·refine h1 (.inl ?_);have:¬y.1.X < z.1.X:=λh3=>h2 (.inl h3);have t2:=Rat.not_lt.1 this
   grind
  ·have a1:y.1.X<=x.1.X:=Rat.not_lt.1 λh3=>h1 (.inl h3);have a2:z.1.X<=y.1.X:=Rat.not_lt.1 λh3=>h2 (.inl h3);have e1:x.1.X=y.1.X:=Rat.le_antisymm (e▸a2) a1;have e2:y.1.X=z.1.X:=e1.symm.trans e;have b1:y.1.Y<=x.1.Y:=Rat.not_lt.1 λh3=>h1 (.inr ⟨e1,h3⟩);have b2:z.1.Y<=y.1.Y:=Rat.not_lt.1 λh3=>h2 (.inr ⟨e2,h3⟩);exact absurd h (Rat.not_lt.2 (Rat.le_trans b2 b1))
theorem nS (V:List PtB):PermIn 0 V.toArray.size V.toArray (pdq (ltOf iO) V.toArray 0 V.toArray.size (Lib.bitLen V.toArray.size) true true)/\SortedIn (ltOf iO) 0 V.toArray.size (pdq (ltOf iO) V.toArray 0 V.toArray.size (Lib.bitLen V.toArray.size) true true) :=
 pdq_sorts (ltOf iO) FX V.toArray 0 V.toArray.size _ true true (Nat.zero_le _) (Nat.le_refl _) (Or.inl rfl)
theorem nU (V:List PtB):(ky V).Perm V:=by
 obtain⟨⟨hs,_,hp⟩,_⟩:=nS V;unfold ky;generalize pdq (ltOf iO) V.toArray 0 V.toArray.size (Lib.bitLen V.toArray.size) true true=d at *
 rw [Array.extract_size,<-hs,Array.extract_size] at hp;exact hp
theorem wY (V:List PtB):(ky V).length=V.length:=(nU V).length_eq
theorem rO (V:List PtB):(ky V).Pairwise λx y=>¬cu y.1 x.1 < 0:=by
 obtain⟨⟨hs,_,_⟩,h⟩:=nS V;unfold ky;generalize pdq (ltOf iO) V.toArray 0 V.toArray.size (Lib.bitLen V.toArray.size) true true=d at *
 rw [List.pairwise_iff_getElem];intro i j hi hj hij;have hi':i < d.size:=by simpa using hi
 have hj':j < d.size:=by simpa using hj
 have:=h i j (Nat.zero_le _) hij (by omega);unfold ltOf iO at this;rw [getElem!_pos d i hi',getElem!_pos d j hj'] at this;simpa using this
theorem mF:∀{V:List PtS} (h:∀p∈V,p.le 10000),(V.pmap PtB.mk h).map (λx:PtB=>x.1)=V
 |[],_=>rfl
 |p::V,h=>by
  rw [List.pmap_cons,List.map_cons,mF λq hq=>h q (List.mem_cons_of_mem _ hq)]
theorem ga (V:List PtS):(aQ V).Perm V:=by
 unfold aQ;split
 ·rename_i h
  have:=(nU (V.pmap PtB.mk h)).map (λx:PtB=>x.1);rw [mF] at this;exact this
 ·exact List.Perm.refl _
theorem nV (V:List PtS):(aQ V).length=V.length:=(ga V).length_eq
theorem rP {V:List PtS} (h:∀p∈V,p.le 10000):(aQ V).Pairwise λx y=>¬cu y x < 0:=by
 unfold aQ;rw [dif_pos h,List.pairwise_map];exact rO _
end Go.Num
namespace Go.Proofs
def HQ:Shelf.Ren where
 f:=λx=>match x with
  |6=>128
  |14=>176
  |15=>121
  |20=>213
  |21=>214
  |22=>215
  |23=>216
  |24=>217
  |25=>218
  |26=>219
  |27=>220
  |28=>165
  |29=>166
  |46=>241
  |47=>202
  |48=>203
  |49=>242
  |50=>243
  |57=>254
  |n=>n
 t:=λx=>match x with
  |22=>34
  |24=>25
  |25=>71
  |39=>140
  |45=>181
  |46=>182
  |50=>125
  |53=>139
  |55=>137
  |66=>216
  |70=>220
  |76=>239
  |77=>240
  |n=>n
 g:=λn=>n
theorem Bq:SlLaysF0.n6 Tryz.prog HQ :=
 { mixed:=aj,f6:=⟨Tryz.f128.name,by kernel_rfl,Eq.trans Tryz.func128 (congrArg some (by kernel_rfl))⟩,f14:=⟨Tryz.f176.name,by kernel_rfl,Eq.trans Tryz.func176 (congrArg some (by kernel_rfl))⟩,f15:=Eq.trans Tryz.func121 (congrArg some (by kernel_rfl)),f20:=⟨Tryz.f213.name,by kernel_rfl,Eq.trans Tryz.func213 (congrArg some (by kernel_rfl))⟩,f21:=⟨Tryz.f214.name,by kernel_rfl,Eq.trans Tryz.func214 (congrArg some (by kernel_rfl))⟩,f22:=⟨Tryz.f215.name,by kernel_rfl,Eq.trans Tryz.func215 (congrArg some (by kernel_rfl))⟩,f23:=⟨Tryz.f216.name,by kernel_rfl,Eq.trans Tryz.func216 (congrArg some (by kernel_rfl))⟩,f24:=⟨Tryz.f217.name,by kernel_rfl,Eq.trans Tryz.func217 (congrArg some (by kernel_rfl))⟩,f25:=⟨Tryz.f218.name,by kernel_rfl,Eq.trans Tryz.func218 (congrArg some (by kernel_rfl))⟩,f26:=⟨Tryz.f219.name,by kernel_rfl,Eq.trans Tryz.func219 (congrArg some (by kernel_rfl))⟩,f27:=⟨Tryz.f220.name,by kernel_rfl,Eq.trans Tryz.func220 (congrArg some (by kernel_rfl))⟩,f28:=Eq.trans Tryz.func165 (congrArg some (by kernel_rfl)),f29:=Eq.trans Tryz.func166 (congrArg some (by kernel_rfl)),f46:=⟨Tryz.f241.name,by kernel_rfl,Eq.trans Tryz.func241 (congrArg some (by kernel_rfl))⟩,f47:=Eq.trans Tryz.func202 (congrArg some (by kernel_rfl)),f48:=Eq.trans Tryz.func203 (congrArg some (by kernel_rfl)),f49:=⟨Tryz.f242.name,by kernel_rfl,Eq.trans Tryz.func242 (congrArg some (by kernel_rfl))⟩,f50:=⟨Tryz.f243.name,by kernel_rfl,Eq.trans Tryz.func243 (congrArg some (by kernel_rfl))⟩,f57:=⟨Tryz.f254.name,by kernel_rfl,Eq.trans Tryz.func254 (congrArg some (by kernel_rfl))⟩,t0:=Tryz.underlying0,a0:=Tryz.isAgg0,z0:=Tryz.sizeOf0,v0:=Tryz.zeroValue0,t3:=Tryz.underlying3,a3:=Tryz.isAgg3,z3:=Tryz.sizeOf3,v3:=Tryz.zeroValue3,t4:=Tryz.underlying4,a4:=Tryz.isAgg4,z4:=Tryz.sizeOf4,v4:=Tryz.zeroValue4,t5:=Tryz.underlying5,a5:=Tryz.isAgg5,z5:=Tryz.sizeOf5,v5:=Tryz.zeroValue5,t9:=Tryz.underlying9,a9:=Tryz.isAgg9,z9:=Tryz.sizeOf9,v9:=Tryz.zeroValue9,t22:=Tryz.underlying34,a22:=Tryz.isAgg34,z22:=Tryz.sizeOf34,v22:=Tryz.zeroValue34,t25:=Tryz.underlying71,a25:=Tryz.isAgg71,z25:=Tryz.sizeOf71,v25:=Tryz.zeroValue71,t39:=Tryz.underlying140,a39:=Tryz.isAgg140,z39:=Tryz.sizeOf140,v39:=Tryz.zeroValue140,t45:=Tryz.underlying181,a45:=Tryz.isAgg181,z45:=Tryz.sizeOf181,v45:=Tryz.zeroValue181,t46:=Tryz.underlying182,a46:=Tryz.isAgg182,z46:=Tryz.sizeOf182,v46:=Tryz.zeroValue182,t50:=Tryz.underlying125,a50:=Tryz.isAgg125,z50:=Tryz.sizeOf125,v50:=Tryz.zeroValue125,t53:=Tryz.underlying139,a53:=Tryz.isAgg139,z53:=Tryz.sizeOf139,v53:=Tryz.zeroValue139,t55:=Tryz.underlying137,a55:=Tryz.isAgg137,z55:=Tryz.sizeOf137,v55:=Tryz.zeroValue137,t66:=Tryz.underlying216,a66:=Tryz.isAgg216,z66:=Tryz.sizeOf216,v66:=Tryz.zeroValue216,t70:=Tryz.underlying220,a70:=Tryz.isAgg220,z70:=Tryz.sizeOf220,v70:=Tryz.zeroValue220,t76:=Tryz.underlying239,a76:=Tryz.isAgg239,z76:=Tryz.sizeOf239,v76:=Tryz.zeroValue239,t77:=Tryz.underlying240,a77:=Tryz.isAgg240,z77:=Tryz.sizeOf240,v77:=Tryz.zeroValue240 }
end Go.Proofs
namespace Go.Ex
open Go.RowKit Go.Sort
theorem FY (x y:PtB) (W:World):Calls Tryz.prog 38 #[x.1.v,y.1.v] W λe w'=>e=.returned (.int .i64 (iO x y))/\∃q os',w'=grow (W.drewN q) os':=by
 have h:=f38 [.val x.1.v,.val y.1.v] _ rfl;have h2:=h.2 (λp hp=>by cases hp;exact⟨⟨_,rfl,x.2.mono (by decide)⟩,_,rfl,y.2.mono (by decide)⟩) (λ_=>False) W #[x.1.v,y.1.v] (λ_ h=>h.elim) rfl (λi p v hp hv=>by
  match i,hp,hv with
  |0,hp,hv=>cases hp;cases hv;exact .val _
  |1,hp,hv=>cases hp;cases hv;exact .val _
  |i+2,hp,_=>simp at hp)
 refine(xz h2).mono ?_;rintro e w' ⟨⟨v,β,rfl,hres⟩,hd⟩;have hv:=hres.val.val_eq;exact⟨congrArg Ending.returned hv,AD hres.below (hd _ rfl)⟩
def C2:Trans:=λargs s K=>match args with
 |[.sl id st 0 n,.val (.func (.func 38) ⟨[]⟩ ⟨[]⟩)]=>match ek s.H id st with
  |some ⟨ty,es,st',box,arr,m,get⟩=>(es=6/\box=false/\n=m/\n<=1000000)/\∃V:List PtS,V.length=n/\(∀p∈V,p.le 10000)/\(∀i,i < n->get i=(ae V i).cells)/\(n=0->K (.val (.tuple ⟨[]⟩)) s) /\
    (0 < n->match s with
     |⟨fr,H,nx,sv⟩=>K (.val (.tuple ⟨[]⟩)) ⟨fr,H.set id ⟨ty,es,st',box,arr,m,λi=>(ae (aQ V) i).cells⟩,nx,sv⟩)
  |none=>False
 |_=>False
theorem FZ:am ({}:Opt).toOrd Tryz.f128 2=true:=by kernel_rfl
theorem rQ {V:List PtB} {t:Nat} (ht:t < V.length*6):(flatK (λx:PtB=>x.1.enc) 6 V.toArray)[t]! = ((V[t / 6]!).1.enc)[t%6]!:=by
 rw [get_flatK _ _ _ _ (by simpa using ht)];simp
theorem HR:dx Tryz.prog 128 C2:=by
 refine⟨λvs w=>?_,λZ G n A a w s args vs K hZ hS e=>?_⟩
 ·obtain⟨⟨c,hb,h1⟩,h2,h3,h4⟩:=du FZ;exact co Tryz.func128 h4 hb vs w
 unfold C2 at e;split at e
 ·rename_i id st m
  split at e
  ·rename_i ty es st' box arr m' get hb
   obtain⟨⟨rfl,rfl,rfl,hmx⟩,V,hVl,hVle,hz,k0,k1⟩:=e;obtain⟨b,ok,β,hzz,hr,hA1,hA2,hA3,hl,hR⟩:=hS;obtain⟨vl⟩:=vs
   match vl,hl,hR with
   |[v,fv],hl,hR =>
    have hv:=hR 0 _ v rfl rfl;have hf:=(hR 1 _ fv rfl rfl).val_eq;subst hf;obtain⟨e3,e4⟩:=hv.sl_inv hb;have e3:v=sub 6 0 m (β id):=e3.resolve_right λq=>q.1 rfl;have hb':=(aT hb).1;obtain⟨xs,h1,h2,_,_,h3⟩:=hr.heap.own id _ hb';rcases Nat.eq_zero_or_pos m with h0|h0
    ·subst h0;obtain⟨ad,c,rfl⟩:∃ad c,v=.slice ad 0 c:=by
      rcases hr.heap.slice_of hb' with ⟨e5,_⟩|⟨g,c,e5,_⟩
      ·rw [e3,e5];exact⟨none,0,rfl⟩
      ·rw [e3,e5];exact⟨_,_,rfl⟩
     refine(AnyF.slices_SortFunc_none Bq ad c _ w).mono ?_;rintro e w' ⟨rfl,rfl⟩;refine⟨_,_,_,rfl,k0 rfl,b,ok,β,hzz,hr,hA1,hA2,hA3,rfl,λi p v hp hv=>?_⟩
     match i,hp,hv with
     |0,hp,hv=>cases hp;cases hv;exact .val _
     |i+1,hp,_=>simp at hp
    ·rcases hr.heap.slice_of hb' with ⟨_,e6⟩|⟨g,c,e5,e6,e7⟩
     ·simp only at e6;omega
     simp only at e6;have hvx:v=.slice (some ⟨g,0,none⟩) m c:=by rw [e3,e5];simp [sub,Addr.add_mid]
     simp only at h1 h2 h3;rw [e5] at h1;obtain⟨hxl,h1⟩:=h1;rcases h1 with ⟨h1,_⟩|⟨g',c',cur,h1,hbase,hcur,q1,q2,q3,q4⟩
     ·cases h1
     cases h1;obtain⟨W,hW⟩:∃W:List PtB,W=V.pmap PtB.mk hVle:=⟨_,rfl⟩;have hWl:W.length=m:=by rw [hW,List.length_pmap,hVl]
     have hWV:W.map (λx:PtB=>x.1)=V:=by rw [hW];exact mF hVle
     have hFs:(flatK (λx:PtB=>x.1.enc) 6 W.toArray).size=m*6:=by rw [size_flatK];simp [hWl]
     have hWV':∀i,i < m->(W[i]!).1=ae V i:=λi hi=>by
      unfold ae;rw [<-hWV,getElem!_pos W i (by omega),List.getElem?_map,List.getElem?_eq_getElem (by omega)];rfl
     have hxs:xs=(flatK (λx:PtB=>x.1.enc) 6 W.toArray).toList:=by
      apply List.ext_getElem
      ·rw [hxl,Array.length_toList,hFs]
      ·intro t i1 i2;have ht:t < m*6:=by rw [hxl] at i1;exact i1
       have hi:t / 6 < m:=by omega
       have hf:t%6 < 6:=Nat.mod_lt _ (by decide);have hcell:∀f,f < 6->(ae V (t / 6)).cells[f]? = some (.val ((ae V (t / 6)).enc[f]!)):=λf hf=>by
        match f,hf with
        |0,_=>rfl
        |1,_=>rfl
        |2,_=>rfl
        |3,_=>rfl
        |4,_=>rfl
        |5,_=>rfl
       obtain⟨u,u1,u2,u3⟩:=h3 (t / 6) (t%6) _ hi (by rw [hz _ hi];exact hcell _ hf);have:=(u3 trivial).val_eq;subst this;rw [show t / 6*6+t%6=t by omega] at u1;have hx1:xs[t]'i1=(ae V (t / 6)).enc[t%6]!:=by
        rw [List.getElem?_eq_getElem i1] at u1;injection u1
       rw [hx1];have h5:=rQ (V:=W) (t:=t) (by rw [hWl];exact ht);rw [hWV' _ hi] at h5;rw [<-h5,Array.getElem_toList,getElem!_pos _ t (by rw [hFs];exact ht)]
     have hH:HoldsK (λx:PtB=>x.1.enc) 6 w g 0 W.toArray:=lh hcur (by rw [hFs,<-hxs,<-q4]);have hcm:CmpLays Tryz.prog 38 #[] (λx:PtB=>x.1.enc) 6 iO g 0 W.toArray.size w:=λmm os dk _ x y=>FY x y _;have call:=AnyQ.slices_SortFunc_eq Bq 6 Tryz.isAgg25 Tryz.sizeOf25 (λx:PtB=>x.1.enc) (λ_=>rfl) (λx v hv=>by
      simp [PtS.enc] at hv;rcases hv with rfl|rfl|rfl|rfl|rfl|rfl<;>rfl) iO FX 38 #[] g 0 c W.toArray w (f38 [.val default,.val default] _ rfl).1 hcm hH (Array.getElem?_eq_some_iff.1 hcur).1 (by simp only [List.size_toArray];omega)
     rw [show W.toArray.size=m by simp [hWl]] at call;rw [hvx];refine call.mono ?_;rintro e w' ⟨rfl,nn,os,rfl⟩;have hD:pdq (ltOf iO) W.toArray 0 m (Lib.bitLen m) true true=(ky W).toArray:=by
      unfold ky;rw [show W.toArray.size=m by simp [hWl]]
     rw [hD];have hSl:(ky W).length=m:=by rw [wY,hWl]
     have hSF:(flatK (λx:PtB=>x.1.enc) 6 (ky W).toArray).size=m*6:=by rw [size_flatK];simp [hSl]
     have hSV:∀i,i < m->((ky W)[i]!).1=ae (aQ V) i:=λi hi=>by
      unfold ae aQ;rw [dif_pos hVle,<-hW,getElem!_pos _ i (by omega),List.getElem?_map,List.getElem?_eq_getElem (by omega)];rfl
     have hown:=lj (n:=nn) (os:=os) hSF hbase hcur q1 q2 q3;have hset:=hr.set (λi=>(ae (aQ V) i).cells) (flatK (λx:PtB=>x.1.enc) 6 (ky W).toArray).toList hb' e5 (li (w:=w) (n:=nn) (os:=os) _) (by simp only;rw [e5];exact hown) (λi hi=>⟨rfl,λp hp=>by
      simp [PtS.cells] at hp;rcases hp with rfl|rfl|rfl|rfl|rfl|rfl<;>rfl⟩) (λi f p hi hp=>by
      simp only at hi;have hf:f < 6:=by
       have:=(List.getElem?_eq_some_iff.1 hp).1;exact this
      have hp2:p=.val ((ae (aQ V) i).enc[f]!):=by
       match f,hf,hp with
       |0,_,hp=>cases hp;rfl
       |1,_,hp=>cases hp;rfl
       |2,_,hp=>cases hp;rfl
       |3,_,hp=>cases hp;rfl
       |4,_,hp=>cases hp;rfl
       |5,_,hp=>cases hp;rfl
      subst hp2;refine⟨(ae (aQ V) i).enc[f]!,?_,.val _,λ_=>.val _⟩;have ht:i*6+f < m*6:=by omega
      have h5:=rQ (V:=ky W) (t:=i*6+f) (by rw [hSl];exact ht);rw [show(i*6+f) / 6=i by omega,show(i*6+f)%6=f by omega,hSV _ hi] at h5;simp only;rw [<-h5,Array.getElem?_toList,Array.getElem?_eq_getElem (by rw [hSF];exact ht),getElem!_pos _ _ (by rw [hSF];exact ht)])
     refine⟨_,_,_,rfl,k1 h0,b,ok,β,hzz,hset,hA1,hA2,hA3,rfl,λi p v hp hv=>?_⟩
     match i,hp,hv with
     |0,hp,hv=>cases hp;cases hv;exact .val _
     |i+1,hp,_=>simp at hp
   |[],hl,_=>simp at hl
   |[_],hl,_=>simp at hl
   |_::_::_::_,hl,_=>simp at hl
  ·exact e.elim
 ·exact e.elim
end Go.Ex
namespace Go.Num
theorem mG {lo hi:PtS} {k:Nat} {c:Nat->List PV} {l:Nat} {o:Nat->List PV} (h:bU 10000 k c):∀p∈au lo hi k c l o,p.le 10000:=by
 have hJ:∀{S:PtS->Bool} {q:Nat->PtS} {n:Nat},(∀j,j < n->(q j).le 10000)->∀p∈dv S q n,p.le 10000:=λ{S q n}=>by
  induction n with
  |zero=>intro _ p hp;cases hp
  |succ n ih =>
   intro hq p hp;rw [dv] at hp;rcases List.mem_append.1 hp with hp|hp
   ·exact ih (λj hj=>hq j (by omega)) p hp
   ·cases hS:S (q n) with
    |true =>
     rw [hS] at hp;rw [List.mem_singleton.1 hp];exact hq n (by omega)
    |false=>rw [hS] at hp;cases hp
 unfold au;have hI:∀i,i<=k->∀p∈cQ (λp=>a7 lo hi k c l o p p) (pn c) (λi=>ab (pg c i)) i,p.le 10000:=λi=>by
  induction i with
  |zero=>intro _ p hp;cases hp
  |succ i ih =>
   intro hi p hp;rw [cQ] at hp;rcases List.mem_append.1 hp with hp|hp
   ·exact ih (by omega) p hp
   ·exact hJ (λj hj=>((h.1 i (by omega)).2.1 j hj).2) p hp
 exact hI k (Nat.le_refl k)
theorem gb {V:List PtS} (h:∀p∈V,p.le 10000) {i:Nat} (hi:i < V.length):(ae V i).le 10000:=by
 unfold ae;rw [List.getElem?_eq_getElem hi];exact h _ (List.getElem_mem hi)
end Go.Num
namespace Go.Proofs
def HS:List PV->Option Ans
 |[.fn (.func 129) [] [.rp 14 1 h 0 0],.val (.func (.func 38) ⟨[]⟩ ⟨[]⟩)]=>some ⟨some ((AB h/\((bV (h 0)).le 10000/\(bW (h 0)).le 10000)/\bU 10000 (gK (h 0)) (gC (h 0))/\cX (gL (h 0)) (gO (h 0)))/\(au (bV (h 0)) (bW (h 0)) (gK (h 0)) (gC (h 0)) (gL (h 0)) (gO (h 0))).length<=500),.sl 0 0 0 (au (bV (h 0)) (bW (h 0)) (gK (h 0)) (gC (h 0)) (gL (h 0)) (gO (h 0))).length,[⟨25,6,0,false,false,(au (bV (h 0)) (bW (h 0)) (gK (h 0)) (gC (h 0)) (gL (h 0)) (gO (h 0))).length,λi=>(ae (aQ (au (bV (h 0)) (bW (h 0)) (gK (h 0)) (gC (h 0)) (gL (h 0)) (gO (h 0)))) i).cells⟩]⟩
 |_=>none
theorem HT:am {} Tryz.f93 2=true:=by kernel_rfl
theorem f93:FnOk Tryz.prog 93 HS:=by
 refine FnOk.ofW aj (an (l:=[(127,C1)]) (own:=[127]) (inl:=[(128,C2)]) (by simp [f127]) (by simp [HR])) Tryz.func93 {} 2 HT λargs r e=>?_;unfold HS at e;split at e
 ·rename_i h
  cases e;refine⟨by simp,λhm=>?_⟩;obtain⟨hp,hn⟩:=hm _ rfl;refine⟨[],aa [(0,.fn (.func 129) [] [.rp 14 1 h 0 0]),(1,.val (.func (.func 38) ⟨[]⟩ ⟨[]⟩))] [] 0 [],Wo trivial ⟨⟨rfl,trivial,⟨rfl,rfl,rfl,rfl,λ_ _=>rfl⟩,qQ⟩,rfl,qQ⟩ trivial,?_⟩;have hle:=mG (lo:=bV (h 0)) (hi:=bW (h 0)) (l:=gL (h 0)) (o:=gO (h 0)) hp.2.2.1;with_unfolding_all refine⟨⟨hp,Nat.le_trans hn (by decide)⟩,?_⟩
  clear hp hm;generalize (au (bV (h 0)) (bW (h 0)) (gK (h 0)) (gC (h 0)) (gL (h 0)) (gO (h 0)))=V at *
  with_unfolding_all exact⟨⟨rfl,rfl,rfl,Nat.le_trans hn (by decide)⟩,V,rfl,hle,λ_ _=>rfl,λh0=>⟨[some 0],aa [(4,.sl 0 0 0 V.length)] [⟨25,6,0,false,false,V.length,λi=>(ae (aQ V) i).cells⟩] 1 [],Wo ⟨qZ (λz hz=>absurd hz (by rw [h0];exact Nat.not_lt_zero _)),qQ⟩ ⟨pP,qQ⟩ trivial,rfl,rfl⟩,λ_=>⟨[some 0],aa [(4,.sl 0 0 0 V.length)] [⟨25,6,0,false,false,V.length,λi=>(ae (aQ V) i).cells⟩] 1 [],Wo ⟨qZ (λ_ _=>rfl),qQ⟩ ⟨pP,qQ⟩ trivial,rfl,rfl⟩⟩
 ·cases e
def HU:List PV->Option Ans
 |[.rs 6 m h,.val v]=>some ⟨some (isPL 4294967296 m h/\isPk 4294967296 v),.val (.int .i64 (cW (λi=>aX (aN v) (ab h i)) m 0)),[]⟩
 |_=>none
theorem HV:am {} Tryz.f19 2=true:=by kernel_rfl
theorem f19:FnOk Tryz.prog 19 HU:=by
 refine FnOk.ofW aj (an (l:=[]) (own:=[]) (inl:=[]) (by simp) (by simp)) Tryz.func19 {} 2 HV λargs r e=>?_;unfold HU at e;split at e
 ·rename_i n h v
  cases e;refine⟨by simp,λhm=>?_⟩;obtain⟨⟨hq,hn⟩,a,rfl,ha⟩:=hm _ rfl;refine⟨[],aa [(0,.rs 6 n (λi=>(ab h i).cells)),(1,.val a.v)] [] 0 [],Wo trivial ⟨⟨rfl,rfl,λi hi=>(hq i hi).1.symm⟩,rfl,qQ⟩ trivial,?_⟩;generalize ab h=q at *
  obtain⟨X,hX⟩:∃X,X=cW (λi=>aX a (q i)) n 0:=⟨_,rfl⟩;have hv:cW (λi=>aX (aN a.v) (q i)) n 0=X:=hX.symm;rw [hv];with_unfolding_all refine⟨Nat,λi=>i<=n/\cW (λi=>aX a (q i)) (n - i) i=X,λi=>aa [(0,.rs 6 n (λi=>(q i).cells)),(3,.ptr 0 0 0 0),(7,.val (goInt n)),(8,.val (goInt i))] [⟨25,6,0,true,false,1,λ_=>[.val (.bool a.x.s),.val (.string a.x.b),.val (.string a.x.c),.val (.bool a.y.s),.val (.string a.y.b),.val (.string a.y.c)]⟩] 1 [],λi=>n - i,⟨0,[some 0],⟨Nat.zero_le _,hX.symm⟩,Wo ⟨qK,qQ⟩ ⟨qW,pP,rfl,rfl,qQ⟩ trivial⟩,λi hi=>?_⟩
  obtain⟨hin,hI⟩:i<=n/\cW (λi=>aX a (q i)) (n - i) i=X:=hi;with_unfolding_all refine⟨λh=>?_,λh=>⟨[],aa [(4,.val (.int .i64 X))] [] 0 [],Wo trivial ⟨?_,qQ⟩ trivial,rfl,rfl⟩⟩
  ·have h:(i:Int) < n:=bL h;have e:(i:Int).toNat=i:=Int.toNat_natCast i;have hstep:cW (λi=>aX a (q i)) (n - i) i=bif aX a (q i) then(i:Int) else cW (λi=>aX a (q i)) (n - (i+1)) (i+1):=by
    rw [show n - i=(n - (i+1))+1 by omega];rfl
   with_unfolding_all refine⟨⟨by omega,by omega⟩,λh'=>⟨[],aa [(4,.val (.int .i64 X))] [] 0 [],Wo trivial ⟨?_,qQ⟩ trivial,rfl,rfl⟩,λh'=>⟨i+1,[some 0],⟨by omega,?_⟩,by show n - (i+1) < n - i;omega,Wo ⟨qK,qQ⟩ ⟨qW,pP,rfl,?_,qQ⟩ trivial⟩⟩
   ·have h':aX a (q (i:Int).toNat)=true:=h';rw [e] at h';rw [h',cond_true] at hstep;exact congrArg (λz=>PV.val (.int .i64 z)) (hstep.symm.trans hI)
   ·have h':aX a (q (i:Int).toNat)=false:=h';rw [e] at h';rw [h',cond_false] at hstep;exact hstep.symm.trans hI
   ·show PV.val (.int .i64 (IntKind.i64.wrap ((i:Int)+1)))=PV.val (.int .i64 ((i+1:Nat):Int));rw [wrap64 (by omega) (by omega)];rfl
  ·have h:(n:Int)<=i:=dI h;rw [show n - i=0 by omega] at hI;exact congrArg (λz=>PV.val (.int .i64 z)) hI
 ·cases e
def HW:List PV->Option Ans
 |[.rs 6 m h,.val v]=>some ⟨some (isPL 4294967296 m h/\isPk 4294967296 v),.val (.bool (aA (λi=>aX (aN v) (ab h i)) m)),[]⟩
 |_=>none
theorem HX:am {} Tryz.f37 2=true:=by kernel_rfl
theorem f37:FnOk Tryz.prog 37 HW:=by
 refine FnOk.ofW aj (an (l:=[(19,HU)]) (own:=[]) (inl:=[]) (by simp [f19]) (by simp)) Tryz.func37 {} 2 HX λargs r e=>?_;unfold HW at e;split at e
 ·rename_i n h v
  cases e;refine⟨by simp,λhm=>?_⟩;obtain⟨hq,a,rfl,ha⟩:=hm _ rfl;refine⟨[],aa [(0,.rs 6 n h),(1,.val a.v)] [] 0 [],Wo trivial ⟨⟨rfl,rfl,λi hi=>rfl⟩,rfl,qQ⟩ trivial,?_⟩;with_unfolding_all refine⟨⟨hq,a,rfl,ha⟩,[],aa [(4,.val (.bool (aA (λi=>aX a (ab h i)) n)))] [] 0 [],Wo trivial ⟨?_,qQ⟩ trivial,rfl,rfl⟩
  exact congrArg (λz=>PV.val (.bool z)) (dZ _ _)
 ·cases e
end Go.Proofs
namespace Go.Num
def aW (p:Nat->PtS):Nat->List PtS
 |0=>[]
 |j+1=>aW p j++(bif j==0||!aX (p j) (p (j - 1)) then [p j] else [])
theorem jV (p:Nat->PtS):∀j,(aW p j).length<=j
 |0=>Nat.le_refl _
 |j+1=>by
  have:=jV p j;unfold aW;rw [List.length_append];cases (j==0||!aX (p j) (p (j - 1)))<;>simp<;>omega
theorem kz {p:Nat->PtS}:∀{j:Nat} {x:PtS},x∈aW p j->∃i,i < j/\x=p i
 |0,x,h=>by cases h
 |j+1,x,h=>by
  unfold aW at h;rcases List.mem_append.1 h with h|h
  ·obtain⟨i,h1,h2⟩:=kz h;exact⟨i,by omega,h2⟩
  ·cases hb:(j==0||!aX (p j) (p (j - 1))) with
   |true =>
    rw [hb] at h;exact⟨j,by omega,List.mem_singleton.1 h⟩
   |false =>
    rw [hb] at h;cases h
theorem nW {p:Nat->PtS}:∀{j:Nat},(∀i,i+1 < j->aX (p (i+1)) (p i)=false)->aW p j=(List.range j).map p
 |0,_=>rfl
 |j+1,h=>by
  have hb:(j==0||!aX (p j) (p (j - 1)))=true:=by
   cases j with
   |zero=>rfl
   |succ i=>rw [show i+1 - 1=i by omega,h i (by omega)];simp
  rw [aW,hb,nW λi hi=>h i (by omega),List.range_succ,List.map_append];rfl
end Go.Num
namespace Go.Proofs
theorem HY:am {} Tryz.f92 1=true:=by kernel_rfl
def Jf:Trans:=λargs s K=>args.length<=1/\qH Tryz.prog (DE [] [] []) {} Tryz.f92 args s K
theorem Jt:dx Tryz.prog 92 Jf:=jE aj (an (by simp) (by simp)) Tryz.func92 {} 1 HY λ_ _ _ h=>h
end Go.Proofs
namespace Go.Num
def jW:List PV->Int
 |[.val (.int .i64 s)]=>s
 |_=>0
def yK (c:List PV):Prop:=c=[.val (.int .i64 (jW c))]
def ea (a b:PtS) (s:Int) (p:PtS):Bool:=j5 a b p==s
end Go.Num
namespace Go.Proofs
def C3:List PV->Option Ans
 |[.val v,.rp 6 1 h 0 0,.rp 6 1 h' 0 0,.rp 1 1 h2 0 0]=>some ⟨some (isPk 10000 v/\lg 10000 (h 0)/\lg 10000 (h' 0)/\yK (h2 0)),.val (.bool (ea (cr (h 0)) (cr (h' 0)) (jW (h2 0)) (aN v))),[]⟩
 |_=>none
theorem F0:am {} Tryz.f106 4=true:=by kernel_rfl
theorem f106:FnOk Tryz.prog 106 C3:=by
 refine FnOk.ofW aj (an (l:=[(107,As)]) (own:=[]) (inl:=[]) (by simp [f107]) (by simp)) Tryz.func106 {} 4 F0 λargs r e=>?_;unfold C3 at e;split at e
 ·rename_i v h h' h2
  cases e;refine⟨by simp,λhm=>?_⟩;obtain⟨⟨p,rfl,hp⟩,⟨h1,ha⟩,⟨h3,hb⟩,h4⟩:=hm _ rfl;unfold yK at h4;generalize cr (h 0)=a at *
  generalize cr (h' 0)=b at *
  generalize jW (h2 0)=s at *
  refine⟨[],aa [(0,.val p.v),(1,.rp 6 1 (λ_=>a.cells) 0 0),(2,.rp 6 1 (λ_=>b.cells) 0 0),(3,.rp 1 1 (λ_=>[.val (.int .i64 s)]) 0 0)] [] 0 [],Wo trivial ⟨rfl,⟨rfl,rfl,rfl,rfl,Bo h1⟩,⟨rfl,rfl,rfl,rfl,Bo h3⟩,⟨rfl,rfl,rfl,rfl,Bo h4⟩,qQ⟩ trivial,?_⟩;with_unfolding_all exact⟨⟨⟨a,rfl,ha⟩,⟨b,rfl,hb⟩,p,rfl,hp⟩,⟨[],aa [(5,.val (.bool (ea a b s p)))] [] 0 [],Wo trivial ⟨rfl,qQ⟩ trivial,rfl,rfl⟩⟩
 ·cases e
def pB:List PV->Option Ans
 |[.rs 6 n g,.fn (.func 106) [] [.rp 6 1 cc 0 0,.rp 6 1 dd 0 0,.rp 1 1 ee 0 0]]=>some ⟨some (isPL 10000 n g/\lg 10000 (cc 0)/\lg 10000 (dd 0)/\yK (ee 0)),.val (.int .i64 (cW (λi=>ea (cr (cc 0)) (cr (dd 0)) (jW (ee 0)) (ab g i)) n 0)),[]⟩
 |_=>none
theorem AE:FnOk Tryz.prog 83 pB:=by
 refine FnOk.ofW aj (an (l:=[(106,C3)]) (own:=[]) (inl:=[]) (by simp [f106]) (by simp)) Tryz.func83 {} 2 tR λargs r e=>?_;unfold pB at e;split at e
 ·rename_i n g cc dd ee
  cases e;refine⟨by simp,λhm=>?_⟩;obtain⟨⟨hg,hn⟩,h1,h2,h3⟩:=hm _ rfl;refine⟨[],aa [(0,.rs 6 n (λi=>(ab g i).cells)),(1,.fn (.func 106) [] [.rp 6 1 cc 0 0,.rp 6 1 dd 0 0,.rp 1 1 ee 0 0])] [] 0 [],Wo trivial ⟨⟨rfl,rfl,λi hi=>(hg i hi).1.symm⟩,⟨rfl,trivial,⟨rfl,rfl,rfl,rfl,λ_ _=>rfl⟩,⟨rfl,rfl,rfl,rfl,λ_ _=>rfl⟩,⟨rfl,rfl,rfl,rfl,λ_ _=>rfl⟩,qQ⟩,qQ⟩ trivial,?_⟩;obtain⟨X,hX⟩:∃X,X=cW (λi=>ea (cr (cc 0)) (cr (dd 0)) (jW (ee 0)) (ab g i)) n 0:=⟨_,rfl⟩;rw [<-hX];with_unfolding_all refine⟨Nat,λi=>i<=n/\cW (λi=>ea (cr (cc 0)) (cr (dd 0)) (jW (ee 0)) (ab g i)) (n - i) i=X,λi=>aa [(0,.rs 6 n (λi=>(ab g i).cells)),(1,.fn (.func 106) [] [.rp 6 1 cc 0 0,.rp 6 1 dd 0 0,.rp 1 1 ee 0 0]),(7,.val (goInt n)),(8,.val (goInt i))] [] 0 [],λi=>n - i,⟨0,[],⟨Nat.zero_le _,hX.symm⟩,Wo trivial ⟨qW,⟨rfl,trivial,⟨rfl,rfl,rfl,rfl,λ_ _=>rfl⟩,⟨rfl,rfl,rfl,rfl,λ_ _=>rfl⟩,⟨rfl,rfl,rfl,rfl,λ_ _=>rfl⟩,qQ⟩,rfl,rfl,qQ⟩ trivial⟩,λi hi=>?_⟩
  obtain⟨hin,hI⟩:i<=n/\cW (λi=>ea (cr (cc 0)) (cr (dd 0)) (jW (ee 0)) (ab g i)) (n - i) i=X:=hi;with_unfolding_all refine⟨λh=>?_,λh=>⟨[],aa [(4,.val (.int .i64 X))] [] 0 [],Wo trivial ⟨?_,qQ⟩ trivial,rfl,rfl⟩⟩
  ·have h:(i:Int) < n:=bL h;have e:(i:Int).toNat=i:=Int.toNat_natCast i;have hstep:cW (λi=>ea (cr (cc 0)) (cr (dd 0)) (jW (ee 0)) (ab g i)) (n - i) i=bif ea (cr (cc 0)) (cr (dd 0)) (jW (ee 0)) (ab g i) then(i:Int) else cW (λi=>ea (cr (cc 0)) (cr (dd 0)) (jW (ee 0)) (ab g i)) (n - (i+1)) (i+1):=by
    rw [show n - i=(n - (i+1))+1 by omega];rfl
   have hip:=(hg i (by omega)).2;rw [<-e] at hip;with_unfolding_all refine⟨⟨by omega,by omega⟩,⟨⟨ab g (i:Int).toNat,rfl,hip⟩,h1,h2,h3⟩,λh'=>⟨[],aa [(4,.val (.int .i64 X))] [] 0 [],Wo trivial ⟨?_,qQ⟩ trivial,rfl,rfl⟩,λh'=>⟨i+1,[],⟨by omega,?_⟩,by show n - (i+1) < n - i;omega,Wo trivial ⟨qW,⟨rfl,trivial,⟨rfl,rfl,rfl,rfl,λ_ _=>rfl⟩,⟨rfl,rfl,rfl,rfl,λ_ _=>rfl⟩,⟨rfl,rfl,rfl,rfl,λ_ _=>rfl⟩,qQ⟩,rfl,?_,qQ⟩ trivial⟩⟩
   ·have h':(ea (cr (cc 0)) (cr (dd 0)) (jW (ee 0)) (ab g (i:Int).toNat))=true:=h';rw [e] at h';rw [h',cond_true] at hstep;exact congrArg (λz=>PV.val (.int .i64 z)) (hstep.symm.trans hI)
   ·have h':(ea (cr (cc 0)) (cr (dd 0)) (jW (ee 0)) (ab g (i:Int).toNat))=false:=h';rw [e] at h';rw [h',cond_false] at hstep;exact hstep.symm.trans hI
   ·show PV.val (.int .i64 (IntKind.i64.wrap ((i:Int)+1)))=PV.val (.int .i64 ((i+1:Nat):Int));rw [wrap64 (by omega) (by omega)];rfl
  ·have h:(n:Int)<=i:=dI h;rw [show n - i=0 by omega] at hI;exact congrArg (λz=>PV.val (.int .i64 z)) hI
 ·cases e
def pD:List PV->Option Ans
 |[.rs 6 n g,.fn (.func 106) [] [.rp 6 1 cc 0 0,.rp 6 1 dd 0 0,.rp 1 1 ee 0 0]]=>some ⟨some (isPL 10000 n g/\lg 10000 (cc 0)/\lg 10000 (dd 0)/\yK (ee 0)),.val (.bool (aA (λi=>ea (cr (cc 0)) (cr (dd 0)) (jW (ee 0)) (ab g i)) n)),[]⟩
 |_=>none
theorem AF:FnOk Tryz.prog 65 pD:=by
 refine FnOk.ofW aj (an (l:=[(83,pB)]) (own:=[]) (inl:=[]) (by simp [AE]) (by simp)) Tryz.func65 {} 2 tS λargs r e=>?_;unfold pD at e;split at e
 ·rename_i n g cc dd ee
  cases e;refine⟨by simp,λhm=>?_⟩;have hp:=hm _ rfl;refine⟨[],aa [(0,.rs 6 n g),(1,.fn (.func 106) [] [.rp 6 1 cc 0 0,.rp 6 1 dd 0 0,.rp 1 1 ee 0 0])] [] 0 [],Wo trivial ⟨⟨rfl,rfl,λi hi=>rfl⟩,⟨rfl,trivial,⟨rfl,rfl,rfl,rfl,λ_ _=>rfl⟩,⟨rfl,rfl,rfl,rfl,λ_ _=>rfl⟩,⟨rfl,rfl,rfl,rfl,λ_ _=>rfl⟩,qQ⟩,qQ⟩ trivial,?_⟩;with_unfolding_all refine⟨hp,[],aa [(4,.val (.bool (aA (λi=>ea (cr (cc 0)) (cr (dd 0)) (jW (ee 0)) (ab g i)) n)))] [] 0 [],Wo trivial ⟨?_,qQ⟩ trivial,rfl,rfl⟩
  exact congrArg (λz=>PV.val (.bool z)) (dZ _ _)
 ·cases e
def C4:List PV->Option Ans
 |[.val (.int .i64 s),.rp 6 1 h 0 0,.rp 6 1 h' 0 0]=>some ⟨none,.fn (.func 106) [] [.rp 6 1 h 0 0,.rp 6 1 h' 0 0,.rp 1 1 (λ_=>[.val (.int .i64 s)]) 0 0],[]⟩
 |_=>none
theorem F1:am {} Tryz.f105 3=true:=by kernel_rfl
theorem f105:FnOk Tryz.prog 105 C4:=by
 refine FnOk.ofW aj (an (l:=[]) (own:=[]) (inl:=[]) (by simp) (by simp)) Tryz.func105 {} 3 F1 λargs r e=>?_;unfold C4 at e;split at e
 ·rename_i s h h'
  cases e;refine⟨by simp,λhm=>?_⟩;refine⟨[],aa [(0,.val (.int .i64 s)),(1,.rp 6 1 h 0 0),(2,.rp 6 1 h' 0 0)] [] 0 [],Wo trivial ⟨rfl,⟨rfl,rfl,rfl,rfl,λ_ _=>rfl⟩,⟨rfl,rfl,rfl,rfl,λ_ _=>rfl⟩,qQ⟩ trivial,?_⟩;with_unfolding_all exact⟨[some 0],aa [(4,.fn (.func 106) [] [.rp 6 1 h 0 0,.rp 6 1 h' 0 0,.ptr 0 0 0 0])] [⟨3,1,0,true,false,1,λ_=>[.val (.int .i64 s)]⟩] 1 [],Wo ⟨qY,qQ⟩ ⟨⟨rfl,trivial,⟨rfl,rfl,rfl,rfl,λ_ _=>rfl⟩,⟨rfl,rfl,rfl,rfl,λ_ _=>rfl⟩,pP,qQ⟩,qQ⟩ trivial,rfl,rfl⟩
 ·cases e
end Go.Proofs
namespace Go.Num
def dc (n:Nat) (p:Nat->PtS) (a b:PtS):Bool:=aA (λi=>aX a (p i)) n&&!(aA (λi=>ea a b 1 (p i)) n&&aA (λi=>ea a b (-1) (p i)) n)
end Go.Num
namespace Go.Proofs
def C5:List PV->Option Ans
 |[.rs 6 n g,.rp 6 1 h 0 0,.rp 6 1 h' 0 0]=>some ⟨some (isPL 10000 n g/\lg 10000 (h 0)/\lg 10000 (h' 0)),.val (.bool (dc n (ab g) (cr (h 0)) (cr (h' 0)))),[]⟩
 |_=>none
theorem F2:am {} Tryz.f104 3=true:=by kernel_rfl
theorem f104:FnOk Tryz.prog 104 C5:=by
 refine FnOk.ofW aj (an (l:=[(37,HW),(65,pD),(105,C4)]) (own:=[]) (inl:=[]) (by simp [f37,AF,f105]) (by simp)) Tryz.func104 {} 3 F2 λargs r e=>?_;unfold C5 at e;split at e
 ·rename_i n g h h'
  cases e;refine⟨by simp,λhm=>?_⟩;obtain⟨hg,⟨h1,ha⟩,h3,hb⟩:=hm _ rfl;generalize cr (h 0)=a at *
  generalize cr (h' 0)=b at *
  refine⟨[],aa [(0,.rs 6 n g),(1,.rp 6 1 (λ_=>a.cells) 0 0),(2,.rp 6 1 (λ_=>b.cells) 0 0)] [] 0 [],Wo trivial ⟨qW,⟨rfl,rfl,rfl,rfl,Bo h1⟩,⟨rfl,rfl,rfl,rfl,Bo h3⟩,qQ⟩ trivial,?_⟩;have hg':isPL 4294967296 n g:=⟨λi hi=>⟨(hg.1 i hi).1,(hg.1 i hi).2.mono (by decide)⟩,hg.2⟩;have ha':=ha.mono (show 10000<=4294967296 by decide);have pS:∀s:Int,isPL 10000 n g/\lg 10000 a.cells/\lg 10000 b.cells/\yK [.val (.int .i64 s)]:=λs=>⟨hg,⟨rfl,ha⟩,⟨rfl,hb⟩,rfl⟩;obtain⟨X,hX⟩:∃X,X=dc n (ab g) a b:=⟨_,rfl⟩;rw [<-hX];have v1:aA (λi=>aX a (ab g i)) n=true->aA (λi=>ea a b 1 (ab g i)) n=true->PV.val (.bool (!aA (λi=>ea a b (-1) (ab g i)) n))=PV.val (.bool X):=λh h'=>by
   rw [hX,dc,h,h',Bool.true_and,Bool.true_and]
  have v2:aA (λi=>aX a (ab g i)) n=true->aA (λi=>ea a b 1 (ab g i)) n=false->PV.val (.bool true)=PV.val (.bool X):=λh h'=>by
   rw [hX,dc,h,h'];rfl
  have v3:aA (λi=>aX a (ab g i)) n=false->PV.val (.bool false)=PV.val (.bool X):=λh=>by
   rw [hX,dc,h];rfl
  with_unfolding_all exact⟨⟨hg',a,rfl,ha'⟩,λh1=>⟨pS 1,λh2=>⟨pS (-1),⟨[],aa [(4,.val (.bool X))] [] 0 [],Wo trivial ⟨v1 h1 h2,qQ⟩ trivial,rfl,rfl⟩⟩,λh2=>⟨[],aa [(4,.val (.bool X))] [] 0 [],Wo trivial ⟨v2 h1 h2,qQ⟩ trivial,rfl,rfl⟩⟩,λh1=>⟨[],aa [(4,.val (.bool X))] [] 0 [],Wo trivial ⟨v3 h1,qQ⟩ trivial,rfl,rfl⟩⟩
 ·cases e
def C6:List PV->Option Ans
 |[.rs 1 k c,.fn (.func 104) [] [.rp 6 1 h 0 0,.rp 6 1 h' 0 0]]=>some ⟨some (bU 10000 k c/\lg 10000 (h 0)/\lg 10000 (h' 0)),.val (.int .i64 (cW (λi=>dc (pn c i) (ab (pg c i)) (cr (h 0)) (cr (h' 0))) k 0)),[]⟩
 |_=>none
theorem F4:am {} Tryz.f138 2=true:=by kernel_rfl
theorem f138:FnOk Tryz.prog 138 C6:=by
 refine FnOk.ofW aj (an (l:=[(104,C5)]) (own:=[]) (inl:=[]) (by simp [f104]) (by simp)) Tryz.func138 {} 2 F4 λargs r e=>?_;unfold C6 at e;split at e
 ·rename_i k c cc dd
  cases e;refine⟨by simp,λhm=>?_⟩;obtain⟨⟨hc,hn⟩,h1,h2⟩:=hm _ rfl;refine⟨[],aa [(0,.rs 1 k (λi=>[.rs 6 (pn c i) (pg c i)])),(1,.fn (.func 104) [] [.rp 6 1 cc 0 0,.rp 6 1 dd 0 0])] [] 0 [],Wo trivial ⟨⟨rfl,rfl,λi hi=>(hc i hi).1.symm⟩,⟨rfl,trivial,⟨rfl,rfl,rfl,rfl,λ_ _=>rfl⟩,⟨rfl,rfl,rfl,rfl,λ_ _=>rfl⟩,qQ⟩,qQ⟩ trivial,?_⟩;obtain⟨X,hX⟩:∃X,X=cW (λi=>dc (pn c i) (ab (pg c i)) (cr (cc 0)) (cr (dd 0))) k 0:=⟨_,rfl⟩;rw [<-hX];with_unfolding_all refine⟨Nat,λi=>i<=k/\cW (λi=>dc (pn c i) (ab (pg c i)) (cr (cc 0)) (cr (dd 0))) (k - i) i=X,λi=>aa [(0,.rs 1 k (λi=>[.rs 6 (pn c i) (pg c i)])),(1,.fn (.func 104) [] [.rp 6 1 cc 0 0,.rp 6 1 dd 0 0]),(7,.val (goInt k)),(8,.val (goInt i))] [] 0 [],λi=>k - i,⟨0,[],⟨Nat.zero_le _,hX.symm⟩,Wo trivial ⟨qW,⟨rfl,trivial,⟨rfl,rfl,rfl,rfl,λ_ _=>rfl⟩,⟨rfl,rfl,rfl,rfl,λ_ _=>rfl⟩,qQ⟩,rfl,rfl,qQ⟩ trivial⟩,λi hi=>?_⟩
  obtain⟨hin,hI⟩:i<=k/\cW (λi=>dc (pn c i) (ab (pg c i)) (cr (cc 0)) (cr (dd 0))) (k - i) i=X:=hi;with_unfolding_all refine⟨λh=>?_,λh=>⟨[],aa [(4,.val (.int .i64 X))] [] 0 [],Wo trivial ⟨?_,qQ⟩ trivial,rfl,rfl⟩⟩
  ·have h:(i:Int) < k:=bL h;have e:(i:Int).toNat=i:=Int.toNat_natCast i;have hstep:cW (λi=>dc (pn c i) (ab (pg c i)) (cr (cc 0)) (cr (dd 0))) (k - i) i=bif dc (pn c i) (ab (pg c i)) (cr (cc 0)) (cr (dd 0)) then(i:Int) else cW (λi=>dc (pn c i) (ab (pg c i)) (cr (cc 0)) (cr (dd 0))) (k - (i+1)) (i+1):=by
    rw [show k - i=(k - (i+1))+1 by omega];rfl
   have hip:=(hc i (by omega)).2;rw [<-e] at hip;with_unfolding_all refine⟨⟨by omega,by omega⟩,⟨hip,h1,h2⟩,λh'=>⟨[],aa [(4,.val (.int .i64 X))] [] 0 [],Wo trivial ⟨?_,qQ⟩ trivial,rfl,rfl⟩,λh'=>⟨i+1,[],⟨by omega,?_⟩,by show k - (i+1) < k - i;omega,Wo trivial ⟨qW,⟨rfl,trivial,⟨rfl,rfl,rfl,rfl,λ_ _=>rfl⟩,⟨rfl,rfl,rfl,rfl,λ_ _=>rfl⟩,qQ⟩,rfl,?_,qQ⟩ trivial⟩⟩
   ·have h':dc (pn c (i:Int).toNat) (ab (pg c (i:Int).toNat)) (cr (cc 0)) (cr (dd 0))=true:=h';rw [e] at h';rw [h',cond_true] at hstep;exact congrArg (λz=>PV.val (.int .i64 z)) (hstep.symm.trans hI)
   ·have h':dc (pn c (i:Int).toNat) (ab (pg c (i:Int).toNat)) (cr (cc 0)) (cr (dd 0))=false:=h';rw [e] at h';rw [h',cond_false] at hstep;exact hstep.symm.trans hI
   ·show PV.val (.int .i64 (IntKind.i64.wrap ((i:Int)+1)))=PV.val (.int .i64 ((i+1:Nat):Int));rw [wrap64 (by omega) (by omega)];rfl
  ·have h:(k:Int)<=i:=dI h;rw [show k - i=0 by omega] at hI;exact congrArg (λz=>PV.val (.int .i64 z)) hI
 ·cases e
def C7:List PV->Option Ans
 |[.rs 1 k c,.fn (.func 104) [] [.rp 6 1 h 0 0,.rp 6 1 h' 0 0]]=>some ⟨some (bU 10000 k c/\lg 10000 (h 0)/\lg 10000 (h' 0)),.val (.bool (aA (λi=>dc (pn c i) (ab (pg c i)) (cr (h 0)) (cr (h' 0))) k)),[]⟩
 |_=>none
theorem F5:am {} Tryz.f103 2=true:=by kernel_rfl
theorem f103:FnOk Tryz.prog 103 C7:=by
 refine FnOk.ofW aj (an (l:=[(138,C6)]) (own:=[]) (inl:=[]) (by simp [f138]) (by simp)) Tryz.func103 {} 2 F5 λargs r e=>?_;unfold C7 at e;split at e
 ·rename_i n g cc dd
  cases e;refine⟨by simp,λhm=>?_⟩;have hp:=hm _ rfl;refine⟨[],aa [(0,.rs 1 n g),(1,.fn (.func 104) [] [.rp 6 1 cc 0 0,.rp 6 1 dd 0 0])] [] 0 [],Wo trivial ⟨⟨rfl,rfl,λi hi=>rfl⟩,⟨rfl,trivial,⟨rfl,rfl,rfl,rfl,λ_ _=>rfl⟩,⟨rfl,rfl,rfl,rfl,λ_ _=>rfl⟩,qQ⟩,qQ⟩ trivial,?_⟩;with_unfolding_all refine⟨hp,[],aa [(4,.val (.bool (aA (λi=>dc (pn g i) (ab (pg g i)) (cr (cc 0)) (cr (dd 0))) n)))] [] 0 [],Wo trivial ⟨?_,qQ⟩ trivial,rfl,rfl⟩
  exact congrArg (λz=>PV.val (.bool z)) (dZ _ _)
 ·cases e
end Go.Proofs
namespace Go.Num
theorem nX {p:Nat->PtS} {n:Nat} (h:∀i,i+1 < n->aX (p (i+1)) (p i)=false):(aW p n).length=n/\∀t,t < n->ae (aW p n) t=p t:=by
 rw [nW h];refine⟨by simp,λt ht=>?_⟩;unfold ae;simp [ht]
def fE (p:Nat->PtS) (n:Nat):Nat->PtS:=λi=>if i < (aW p n).length then ae (aW p n) i else p i
theorem gx {p:Nat->PtS} {j:Nat} (h:aX (p (j+1)) (p j)=true):aW p (j+2)=aW p (j+1):=by
 rw [aW,show j+1 - 1=j by omega,h];exact List.append_nil _
theorem mH {p:Nat->PtS} {j:Nat} (h:aX (p (j+1)) (p j)=false):aW p (j+2)=aW p (j+1)++[p (j+1)]:=by
 rw [aW,show j+1 - 1=j by omega,h];simp
theorem yL {p:Nat->PtS} {n:Nat} (h:(aW p n).length=n/\∀t,t < n->ae (aW p n) t=p t) (i:Nat):fE p n i=p i:=by
 unfold fE;split
 ·rename_i hi
  rw [h.1] at hi;exact h.2 i hi
 ·rfl
theorem vh {p:Nat->PtS} {n i:Nat} (h:(aW p n).length<=i):fE p n i=p i:=if_neg (by omega)
theorem wZ {p:Nat->PtS} {j:Nat} (h:aX (p (j+1)) (p j)=false) (i:Nat):fE p (j+2) i=if i=(aW p (j+1)).length then p (j+1) else fE p (j+1) i:=by
 unfold fE;rw [mH h,List.length_append];by_cases h1:i=(aW p (j+1)).length
 ·rw [if_pos h1,if_pos (by rw [h1];simp),h1];unfold ae;simp
 ·rw [if_neg h1];by_cases h2:i < (aW p (j+1)).length
  ·rw [if_pos h2,if_pos (by omega)];unfold ae;rw [List.getElem?_append_left h2]
  ·rw [if_neg h2,if_neg (by simp;omega)]
def di (lo hi:PtS) (k:Nat) (c:Nat->List PV) (l:Nat) (o:Nat->List PV):List PtS:=aW (ae (aQ (au lo hi k c l o))) (au lo hi k c l o).length
theorem vi {V:List PtS} (h:∀p∈V,p.le 10000) {i:Nat} (hi:i < V.length):(ae (aQ V) i).le 10000:=gb (λp hp=>h p ((ga V).mem_iff.1 hp)) (by rw [nV];exact hi)
theorem mI {lo hi:PtS} {k:Nat} {c:Nat->List PV} {l:Nat} {o:Nat->List PV} (h:bU 10000 k c):∀p∈di lo hi k c l o,p.le 10000:=λp hp=>by
 obtain⟨i,hi,e⟩:=kz hp;rw [e];exact vi (mG h) hi
end Go.Num
namespace Go.Proofs
def GR:List PV->Option Ans
 |[.agg [.val (.bool s1),.val (.string b1),.val (.string c1),.val (.bool s2),.val (.string b2),.val (.string c2),.val (.bool s3),.val (.string b3),.val (.string c3),.val (.bool s4),.val (.string b4),.val (.string c4),.rs 1 k c,.rs 3 l o]]=>some ⟨some (((PtS.le 10000 (PtS.mk ⟨s1,b1,c1⟩ ⟨s2,b2,c2⟩)/\PtS.le 10000 (PtS.mk ⟨s3,b3,c3⟩ ⟨s4,b4,c4⟩))/\bU 10000 k c/\cX l o)/\(au (PtS.mk ⟨s1,b1,c1⟩ ⟨s2,b2,c2⟩) (PtS.mk ⟨s3,b3,c3⟩ ⟨s4,b4,c4⟩) k c l o).length<=500),.rs 6 (di (PtS.mk ⟨s1,b1,c1⟩ ⟨s2,b2,c2⟩) (PtS.mk ⟨s3,b3,c3⟩ ⟨s4,b4,c4⟩) k c l o).length (λi=>(ae (di (PtS.mk ⟨s1,b1,c1⟩ ⟨s2,b2,c2⟩) (PtS.mk ⟨s3,b3,c3⟩ ⟨s4,b4,c4⟩) k c l o) i).cells),[]⟩
 |_=>none
theorem HZ:am {} Tryz.f57 1=true:=by kernel_rfl
theorem f57:FnOk Tryz.prog 57 GR:=by
 refine FnOk.ofW aj (an (l:=[(94,HO),(93,HS)]) (own:=[93]) (inl:=[(92,Jf)]) (by simp [f94,f93]) (by simp [Jt])) Tryz.func57 {} 1 HZ λargs r e=>?_;unfold GR at e;split at e
 ·rename_i s1 b1 c1 s2 b2 c2 s3 b3 c3 s4 b4 c4 k c l o
  cases e;refine⟨by simp,λhm=>?_⟩;obtain⟨⟨⟨hlo,hhi⟩,⟨hc,hk⟩,ho,hl⟩,hn⟩:=hm _ rfl;obtain⟨lo,hlo'⟩:∃p,p=(PtS.mk ⟨s1,b1,c1⟩ ⟨s2,b2,c2⟩):=⟨_,rfl⟩;obtain⟨hi,hhi'⟩:∃p,p=(PtS.mk ⟨s3,b3,c3⟩ ⟨s4,b4,c4⟩):=⟨_,rfl⟩;have hc1:∀i,i < k->[.rs 6 (pn c i) (pg c i)]=c i:=λi hi=>(hc i hi).1.symm;have ho1:∀i,i < l->ag (ow o i)=o i:=λi hi=>(ho i hi).symm;refine⟨[],aa [(0,.agg [.val (.bool (PtS.mk ⟨s1,b1,c1⟩ ⟨s2,b2,c2⟩).x.s),.val (.string (PtS.mk ⟨s1,b1,c1⟩ ⟨s2,b2,c2⟩).x.b),.val (.string (PtS.mk ⟨s1,b1,c1⟩ ⟨s2,b2,c2⟩).x.c),.val (.bool (PtS.mk ⟨s1,b1,c1⟩ ⟨s2,b2,c2⟩).y.s),.val (.string (PtS.mk ⟨s1,b1,c1⟩ ⟨s2,b2,c2⟩).y.b),.val (.string (PtS.mk ⟨s1,b1,c1⟩ ⟨s2,b2,c2⟩).y.c),.val (.bool (PtS.mk ⟨s3,b3,c3⟩ ⟨s4,b4,c4⟩).x.s),.val (.string (PtS.mk ⟨s3,b3,c3⟩ ⟨s4,b4,c4⟩).x.b),.val (.string (PtS.mk ⟨s3,b3,c3⟩ ⟨s4,b4,c4⟩).x.c),.val (.bool (PtS.mk ⟨s3,b3,c3⟩ ⟨s4,b4,c4⟩).y.s),.val (.string (PtS.mk ⟨s3,b3,c3⟩ ⟨s4,b4,c4⟩).y.b),.val (.string (PtS.mk ⟨s3,b3,c3⟩ ⟨s4,b4,c4⟩).y.c),.rs 1 k (λi=>[.rs 6 (pn c i) (pg c i)]),.rs 3 l (λi=>ag (ow o i))])] [] 0 [],Wo trivial ⟨⟨rfl,rfl,rfl,rfl,rfl,rfl,rfl,rfl,rfl,rfl,rfl,rfl,⟨rfl,rfl,hc1⟩,⟨rfl,rfl,ho1⟩,qQ⟩,qQ⟩ trivial,?_⟩;rw [<-hlo'] at hlo hn ⊢;rw [<-hhi'] at hhi hn ⊢;clear hlo' hhi' hm;have hCL:bU 10000 k (λi=>[PV.rs 6 (pn c i) (pg c i)]):=⟨λi hi=>⟨rfl,(hc i hi).2⟩,hk⟩;have hOL:cX l (λi=>ag (ow o i)):=⟨λi hi=>rfl,hl⟩;have p93:(AB (λ_=>br lo hi k (λi=>[PV.rs 6 (pn c i) (pg c i)]) l (λi=>ag (ow o i)))/\(lo.le 10000/\hi.le 10000)/\bU 10000 k (λi=>[PV.rs 6 (pn c i) (pg c i)])/\cX l (λi=>ag (ow o i)))/\(au lo hi k (λi=>[PV.rs 6 (pn c i) (pg c i)]) l (λi=>ag (ow o i))).length<=500:=⟨⟨rfl,⟨hlo,hhi⟩,hCL,hOL⟩,hn⟩;have hVle:∀i,i < (au lo hi k (λi=>[PV.rs 6 (pn c i) (pg c i)]) l (λi=>ag (ow o i))).length->(ae (aQ (au lo hi k (λi=>[PV.rs 6 (pn c i) (pg c i)]) l (λi=>ag (ow o i)))) i).le 10000:=λi hi2=>vi (mG hCL) hi2;have hn0:(au lo hi k (λi=>[PV.rs 6 (pn c i) (pg c i)]) l (λi=>ag (ow o i))).length<=500:=hn;with_unfolding_all refine⟨⟨λ_ _=>rfl,λ_ _=>rfl⟩,p93,?_⟩
  have hrun:(∀i,i+1 < (au lo hi k (λi=>[PV.rs 6 (pn c i) (pg c i)]) l (λi=>ag (ow o i))).length->aX ((ae (aQ (au lo hi k (λi=>[PV.rs 6 (pn c i) (pg c i)]) l (λi=>ag (ow o i))))) (i+1)) ((ae (aQ (au lo hi k (λi=>[PV.rs 6 (pn c i) (pg c i)]) l (λi=>ag (ow o i))))) i)=false)->(au lo hi k (λi=>[PV.rs 6 (pn c i) (pg c i)]) l (λi=>ag (ow o i))).length=(aW (ae (aQ (au lo hi k (λi=>[PV.rs 6 (pn c i) (pg c i)]) l (λi=>ag (ow o i))))) (au lo hi k (λi=>[PV.rs 6 (pn c i) (pg c i)]) l (λi=>ag (ow o i))).length).length/\∀t,t < (aW (ae (aQ (au lo hi k (λi=>[PV.rs 6 (pn c i) (pg c i)]) l (λi=>ag (ow o i))))) (au lo hi k (λi=>[PV.rs 6 (pn c i) (pg c i)]) l (λi=>ag (ow o i))).length).length->(ae (aW (ae (aQ (au lo hi k (λi=>[PV.rs 6 (pn c i) (pg c i)]) l (λi=>ag (ow o i))))) (au lo hi k (λi=>[PV.rs 6 (pn c i) (pg c i)]) l (λi=>ag (ow o i))).length) t).cells=((ae (aQ (au lo hi k (λi=>[PV.rs 6 (pn c i) (pg c i)]) l (λi=>ag (ow o i))))) (0+t)).cells:=λh=>by
   have h2:=nX h;exact⟨h2.1.symm,λt ht=>by rw [h2.2 t (by rw [h2.1] at ht;exact ht),Nat.zero_add]⟩
  have hsm:(au lo hi k (λi=>[PV.rs 6 (pn c i) (pg c i)]) l (λi=>ag (ow o i))).length < 2->∀i,i+1 < (au lo hi k (λi=>[PV.rs 6 (pn c i) (pg c i)]) l (λi=>ag (ow o i))).length->aX ((ae (aQ (au lo hi k (λi=>[PV.rs 6 (pn c i) (pg c i)]) l (λi=>ag (ow o i))))) (i+1)) ((ae (aQ (au lo hi k (λi=>[PV.rs 6 (pn c i) (pg c i)]) l (λi=>ag (ow o i))))) i)=false:=λh i hi2=>by omega
  have hlt:∀{m:Nat},decide ((m:Int) < 2)=true->m < 2:=λh=>by
   have:=of_decide_eq_true h;omega
  have hge:∀{m:Nat},decide ((m:Int) < 2)=false->0+1<=m:=λh=>by
   have:=of_decide_eq_false h;omega
  with_unfolding_all refine⟨Nat.le_refl 1,λh=>⟨[],aa [(2,.rs 6 (aW (ae (aQ (au lo hi k (λi=>[PV.rs 6 (pn c i) (pg c i)]) l (λi=>ag (ow o i))))) (au lo hi k (λi=>[PV.rs 6 (pn c i) (pg c i)]) l (λi=>ag (ow o i))).length).length (λi=>(ae (aW (ae (aQ (au lo hi k (λi=>[PV.rs 6 (pn c i) (pg c i)]) l (λi=>ag (ow o i))))) (au lo hi k (λi=>[PV.rs 6 (pn c i) (pg c i)]) l (λi=>ag (ow o i))).length) i).cells))] [] 0 [],Wo trivial ⟨⟨by simp,_,rfl,rfl,rfl,(hrun (hsm (hlt h))).1,(hrun (hsm (hlt h))).2⟩,qQ⟩ trivial,rfl,rfl⟩,λh0=>⟨Nat,λkk=>kk+1<=(au lo hi k (λi=>[PV.rs 6 (pn c i) (pg c i)]) l (λi=>ag (ow o i))).length/\∀i,i < kk->aX ((ae (aQ (au lo hi k (λi=>[PV.rs 6 (pn c i) (pg c i)]) l (λi=>ag (ow o i))))) (i+1)) ((ae (aQ (au lo hi k (λi=>[PV.rs 6 (pn c i) (pg c i)]) l (λi=>ag (ow o i))))) i)=false,λkk=>aa [(0,.sl 0 0 0 (au lo hi k (λi=>[PV.rs 6 (pn c i) (pg c i)]) l (λi=>ag (ow o i))).length),(3,.val (.int .i64 ((kk:Int)+1)))] [⟨25,6,0,false,false,(au lo hi k (λi=>[PV.rs 6 (pn c i) (pg c i)]) l (λi=>ag (ow o i))).length,λi=>((ae (aQ (au lo hi k (λi=>[PV.rs 6 (pn c i) (pg c i)]) l (λi=>ag (ow o i))))) i).cells⟩] 1 [[]],λkk=>(au lo hi k (λi=>[PV.rs 6 (pn c i) (pg c i)]) l (λi=>ag (ow o i))).length - kk,⟨0,[some 1],⟨hge h0,λi hi2=>absurd hi2 (Nat.not_lt_zero i)⟩,Wo ⟨qZ (λ_ _=>rfl),qQ⟩ ⟨pP,rfl,qQ⟩ ⟨qQ,qQ⟩⟩,λkk hkk=>?_⟩⟩
  obtain⟨hk1,hk2⟩:kk+1<=(au lo hi k (λi=>[PV.rs 6 (pn c i) (pg c i)]) l (λi=>ag (ow o i))).length/\∀i,i < kk->aX ((ae (aQ (au lo hi k (λi=>[PV.rs 6 (pn c i) (pg c i)]) l (λi=>ag (ow o i))))) (i+1)) ((ae (aQ (au lo hi k (λi=>[PV.rs 6 (pn c i) (pg c i)]) l (λi=>ag (ow o i))))) i)=false:=hkk;have eA:0+((kk:Int)+1).toNat=kk+1:=by omega
  have wA:IntKind.i64.wrap ((kk:Int)+1 - 1)=kk:=by rw [wrap64 (by omega) (by omega)];omega
  have eB:0+(IntKind.i64.wrap ((kk:Int)+1 - 1)).toNat=kk:=by rw [wA];omega
  have hb2:0<=IntKind.i64.wrap ((kk:Int)+1 - 1)/\IntKind.i64.wrap ((kk:Int)+1 - 1) < (au lo hi k (λi=>[PV.rs 6 (pn c i) (pg c i)]) l (λi=>ag (ow o i))).length:=by rw [wA];omega
  have hz:0<=(kk:Int)+1:=by omega
  have hpre:=nX (p:=(ae (aQ (au lo hi k (λi=>[PV.rs 6 (pn c i) (pg c i)]) l (λi=>ag (ow o i)))))) (n:=kk+1) λi hi2=>hk2 i (by omega);have hEq:∀z,aX ((ae (aQ (au lo hi k (λi=>[PV.rs 6 (pn c i) (pg c i)]) l (λi=>ag (ow o i))))) (0+((kk:Int)+1).toNat)) ((ae (aQ (au lo hi k (λi=>[PV.rs 6 (pn c i) (pg c i)]) l (λi=>ag (ow o i))))) (0+(IntKind.i64.wrap ((kk:Int)+1 - 1)).toNat))=z->aX ((ae (aQ (au lo hi k (λi=>[PV.rs 6 (pn c i) (pg c i)]) l (λi=>ag (ow o i))))) (kk+1)) ((ae (aQ (au lo hi k (λi=>[PV.rs 6 (pn c i) (pg c i)]) l (λi=>ag (ow o i))))) kk)=z:=λz h=>by
   rw [eA,eB] at h;exact h
  have hS:aX ((ae (aQ (au lo hi k (λi=>[PV.rs 6 (pn c i) (pg c i)]) l (λi=>ag (ow o i))))) (kk+1)) ((ae (aQ (au lo hi k (λi=>[PV.rs 6 (pn c i) (pg c i)]) l (λi=>ag (ow o i))))) kk)=true->(aW (ae (aQ (au lo hi k (λi=>[PV.rs 6 (pn c i) (pg c i)]) l (λi=>ag (ow o i))))) (kk+1+1)).length=kk+1:=λh=>by rw [gx h];exact hpre.1
  have v3:aX ((ae (aQ (au lo hi k (λi=>[PV.rs 6 (pn c i) (pg c i)]) l (λi=>ag (ow o i))))) (kk+1)) ((ae (aQ (au lo hi k (λi=>[PV.rs 6 (pn c i) (pg c i)]) l (λi=>ag (ow o i))))) kk)=true->PV.val (.int .i64 ((kk:Int)+1))=PV.val (goInt ((aW (ae (aQ (au lo hi k (λi=>[PV.rs 6 (pn c i) (pg c i)]) l (λi=>ag (ow o i))))) (kk+1+1)).length:Nat)):=λh=>by
   rw [hS h];rfl
  have r3:aX ((ae (aQ (au lo hi k (λi=>[PV.rs 6 (pn c i) (pg c i)]) l (λi=>ag (ow o i))))) (kk+1)) ((ae (aQ (au lo hi k (λi=>[PV.rs 6 (pn c i) (pg c i)]) l (λi=>ag (ow o i))))) kk)=true->∀i,i < (au lo hi k (λi=>[PV.rs 6 (pn c i) (pg c i)]) l (λi=>ag (ow o i))).length->(fE (ae (aQ (au lo hi k (λi=>[PV.rs 6 (pn c i) (pg c i)]) l (λi=>ag (ow o i))))) (kk+1+1) i).cells=((ae (aQ (au lo hi k (λi=>[PV.rs 6 (pn c i) (pg c i)]) l (λi=>ag (ow o i))))) i).cells:=λh i _=>by
   have e:fE (ae (aQ (au lo hi k (λi=>[PV.rs 6 (pn c i) (pg c i)]) l (λi=>ag (ow o i))))) (kk+1+1) i=fE (ae (aQ (au lo hi k (λi=>[PV.rs 6 (pn c i) (pg c i)]) l (λi=>ag (ow o i))))) (kk+1) i:=by
    unfold fE;rw [gx h]
   rw [e,yL hpre]
  have vN:PV.val (.int .i64 (IntKind.i64.wrap ((kk:Int)+1+1)))=PV.val (.int .i64 (((kk+1:Nat):Int)+1)):=by
   rw [wrap64 (by omega) (by omega)];rfl
  have hlN:∀{x y:Nat},decide ((x:Int)+1 < (y:Int))=true->x+1 < y:=λh=>by
   have:=of_decide_eq_true h;omega
  have hgN:∀{x y:Nat},decide ((x:Int)+1 < (y:Int))=false->y<=x+1:=λh=>by
   have:=of_decide_eq_false h;omega
  have eLo:0+((kk:Int)+1).toNat=kk+1:=eA;have eLn:(((au lo hi k (λi=>[PV.rs 6 (pn c i) (pg c i)]) l (λi=>ag (ow o i))).length:Int) - ((kk:Int)+1)).toNat=(au lo hi k (λi=>[PV.rs 6 (pn c i) (pg c i)]) l (λi=>ag (ow o i))).length - (kk+1):=by omega
  with_unfolding_all refine⟨λh1=>⟨⟨hz,of_decide_eq_true h1⟩,hb2,λh2=>⟨⟨hz,Int.le_of_lt (of_decide_eq_true h1),Int.le_refl _⟩,Nat,λj=>1<=j/\kk+1+j<=(au lo hi k (λi=>[PV.rs 6 (pn c i) (pg c i)]) l (λi=>ag (ow o i))).length/\(aW (ae (aQ (au lo hi k (λi=>[PV.rs 6 (pn c i) (pg c i)]) l (λi=>ag (ow o i))))) (kk+1+j)).length+1<=kk+1+j/\kk+1<=(aW (ae (aQ (au lo hi k (λi=>[PV.rs 6 (pn c i) (pg c i)]) l (λi=>ag (ow o i))))) (kk+1+j)).length,λj=>aa [(0,.sl 0 0 0 (au lo hi k (λi=>[PV.rs 6 (pn c i) (pg c i)]) l (λi=>ag (ow o i))).length),(3,.val (goInt ((aW (ae (aQ (au lo hi k (λi=>[PV.rs 6 (pn c i) (pg c i)]) l (λi=>ag (ow o i))))) (kk+1+j)).length:Nat))),(4,.sl 0 0 (kk+1) ((au lo hi k (λi=>[PV.rs 6 (pn c i) (pg c i)]) l (λi=>ag (ow o i))).length - (kk+1))),(5,.val (goInt (j:Nat)))] [⟨25,6,0,false,false,(au lo hi k (λi=>[PV.rs 6 (pn c i) (pg c i)]) l (λi=>ag (ow o i))).length,λi=>(fE (ae (aQ (au lo hi k (λi=>[PV.rs 6 (pn c i) (pg c i)]) l (λi=>ag (ow o i))))) (kk+1+j) i).cells⟩] 1 [[]],λj=>(au lo hi k (λi=>[PV.rs 6 (pn c i) (pg c i)]) l (λi=>ag (ow o i))).length - j,⟨1,[some 0],⟨Nat.le_refl 1,by have:=hlN h1;omega,by rw [hS (hEq _ h2)];omega,by rw [hS (hEq _ h2)];omega⟩,Wo ⟨qZ (r3 (hEq _ h2)),qQ⟩ ⟨pP,v3 (hEq _ h2),⟨rfl,eLo,eLn,aP rfl,_,rfl⟩,rfl,qQ⟩ ⟨qQ,qQ⟩⟩,λj hj=>?_⟩,λh2=>⟨kk+1,[some 0],⟨by have:=hlN h1;omega,λi hi2=>(Nat.lt_succ_iff_lt_or_eq.1 hi2).elim (hk2 i) λe=>by rw [e];exact hEq _ h2⟩,by have:=hlN h1;show(au lo hi k (λi=>[PV.rs 6 (pn c i) (pg c i)]) l (λi=>ag (ow o i))).length - (kk+1) < (au lo hi k (λi=>[PV.rs 6 (pn c i) (pg c i)]) l (λi=>ag (ow o i))).length - kk;omega,Wo ⟨qZ (λ_ _=>rfl),qQ⟩ ⟨pP,vN,qQ⟩ ⟨qQ,qQ⟩⟩⟩,λh1=>⟨[],aa [(2,.rs 6 (aW (ae (aQ (au lo hi k (λi=>[PV.rs 6 (pn c i) (pg c i)]) l (λi=>ag (ow o i))))) (au lo hi k (λi=>[PV.rs 6 (pn c i) (pg c i)]) l (λi=>ag (ow o i))).length).length (λi=>(ae (aW (ae (aQ (au lo hi k (λi=>[PV.rs 6 (pn c i) (pg c i)]) l (λi=>ag (ow o i))))) (au lo hi k (λi=>[PV.rs 6 (pn c i) (pg c i)]) l (λi=>ag (ow o i))).length) i).cells))] [] 0 [],Wo trivial ⟨⟨by simp,_,rfl,rfl,rfl,(hrun (λi hi2=>hk2 i (by have:=hgN h1;omega))).1,(hrun (λi hi2=>hk2 i (by have:=hgN h1;omega))).2⟩,qQ⟩ trivial,rfl,rfl⟩⟩
  obtain⟨hj1,hj2,hj3,hj4⟩:1<=j/\kk+1+j<=(au lo hi k (λi=>[PV.rs 6 (pn c i) (pg c i)]) l (λi=>ag (ow o i))).length/\(aW (ae (aQ (au lo hi k (λi=>[PV.rs 6 (pn c i) (pg c i)]) l (λi=>ag (ow o i))))) (kk+1+j)).length+1<=kk+1+j/\kk+1<=(aW (ae (aQ (au lo hi k (λi=>[PV.rs 6 (pn c i) (pg c i)]) l (λi=>ag (ow o i))))) (kk+1+j)).length:=hj;have eC:kk+1+(j:Int).toNat=kk+1+j:=by omega
  have wC:IntKind.i64.wrap ((j:Int) - 1)=((j - 1:Nat):Int):=by rw [wrap64 (by omega) (by omega)];omega
  have eD:kk+1+(IntKind.i64.wrap ((j:Int) - 1)).toNat=kk+j:=by rw [wC];omega
  have bC:∀{y:Nat},decide ((j:Int) < (y:Int))=true->(0<=(j:Int)/\(j:Int) < (y:Int))/\0<=IntKind.i64.wrap ((j:Int) - 1)/\IntKind.i64.wrap ((j:Int) - 1) < (y:Int):=λh=>by
   have:=of_decide_eq_true h;rw [wC];omega
  have w1:fE (ae (aQ (au lo hi k (λi=>[PV.rs 6 (pn c i) (pg c i)]) l (λi=>ag (ow o i))))) (kk+1+j) (kk+1+j)=(ae (aQ (au lo hi k (λi=>[PV.rs 6 (pn c i) (pg c i)]) l (λi=>ag (ow o i))))) (kk+1+j):=vh (by omega);have w2:fE (ae (aQ (au lo hi k (λi=>[PV.rs 6 (pn c i) (pg c i)]) l (λi=>ag (ow o i))))) (kk+1+j) (kk+j)=(ae (aQ (au lo hi k (λi=>[PV.rs 6 (pn c i) (pg c i)]) l (λi=>ag (ow o i))))) (kk+j):=vh (by omega);have hE:∀z,aX (fE (ae (aQ (au lo hi k (λi=>[PV.rs 6 (pn c i) (pg c i)]) l (λi=>ag (ow o i))))) (kk+1+j) (kk+1+(j:Int).toNat)) (fE (ae (aQ (au lo hi k (λi=>[PV.rs 6 (pn c i) (pg c i)]) l (λi=>ag (ow o i))))) (kk+1+j) (kk+1+(IntKind.i64.wrap ((j:Int) - 1)).toNat))=z->aX ((ae (aQ (au lo hi k (λi=>[PV.rs 6 (pn c i) (pg c i)]) l (λi=>ag (ow o i))))) (kk+j+1)) ((ae (aQ (au lo hi k (λi=>[PV.rs 6 (pn c i) (pg c i)]) l (λi=>ag (ow o i))))) (kk+j))=z:=λz h=>by
   rw [eC,eD,w1,w2,show kk+1+j=kk+j+1 by omega] at h;exact h
  have hn:∀B:Bool,(!B)=true->B=false:=λB h=>by simpa using h
  have hy:∀B:Bool,(!B)=false->B=true:=λB h=>by simpa using h
  have eJ:kk+1+(j+1)=kk+j+2:=by omega
  have eJ0:kk+1+j=kk+j+1:=by omega
  have vJ:PV.val (.int .i64 (IntKind.i64.wrap ((j:Int)+1)))=PV.val (goInt ((j+1:Nat):Int)):=by
   rw [wrap64 (by omega) (by omega)];rfl
  have qS:aX ((ae (aQ (au lo hi k (λi=>[PV.rs 6 (pn c i) (pg c i)]) l (λi=>ag (ow o i))))) (kk+j+1)) ((ae (aQ (au lo hi k (λi=>[PV.rs 6 (pn c i) (pg c i)]) l (λi=>ag (ow o i))))) (kk+j))=true->(aW (ae (aQ (au lo hi k (λi=>[PV.rs 6 (pn c i) (pg c i)]) l (λi=>ag (ow o i))))) (kk+1+(j+1))).length=(aW (ae (aQ (au lo hi k (λi=>[PV.rs 6 (pn c i) (pg c i)]) l (λi=>ag (ow o i))))) (kk+1+j)).length:=λh=>by rw [eJ,eJ0,gx h]
  have qT:aX ((ae (aQ (au lo hi k (λi=>[PV.rs 6 (pn c i) (pg c i)]) l (λi=>ag (ow o i))))) (kk+j+1)) ((ae (aQ (au lo hi k (λi=>[PV.rs 6 (pn c i) (pg c i)]) l (λi=>ag (ow o i))))) (kk+j))=false->(aW (ae (aQ (au lo hi k (λi=>[PV.rs 6 (pn c i) (pg c i)]) l (λi=>ag (ow o i))))) (kk+1+(j+1))).length=(aW (ae (aQ (au lo hi k (λi=>[PV.rs 6 (pn c i) (pg c i)]) l (λi=>ag (ow o i))))) (kk+1+j)).length+1:=λh=>by rw [eJ,eJ0,mH h,List.length_append];rfl
  have vS:aX ((ae (aQ (au lo hi k (λi=>[PV.rs 6 (pn c i) (pg c i)]) l (λi=>ag (ow o i))))) (kk+j+1)) ((ae (aQ (au lo hi k (λi=>[PV.rs 6 (pn c i) (pg c i)]) l (λi=>ag (ow o i))))) (kk+j))=true->PV.val (goInt ((aW (ae (aQ (au lo hi k (λi=>[PV.rs 6 (pn c i) (pg c i)]) l (λi=>ag (ow o i))))) (kk+1+j)).length:Nat))=PV.val (goInt ((aW (ae (aQ (au lo hi k (λi=>[PV.rs 6 (pn c i) (pg c i)]) l (λi=>ag (ow o i))))) (kk+1+(j+1))).length:Nat)):=λh=>by rw [qS h]
  have vT:aX ((ae (aQ (au lo hi k (λi=>[PV.rs 6 (pn c i) (pg c i)]) l (λi=>ag (ow o i))))) (kk+j+1)) ((ae (aQ (au lo hi k (λi=>[PV.rs 6 (pn c i) (pg c i)]) l (λi=>ag (ow o i))))) (kk+j))=false->PV.val (.int .i64 (IntKind.i64.wrap (((aW (ae (aQ (au lo hi k (λi=>[PV.rs 6 (pn c i) (pg c i)]) l (λi=>ag (ow o i))))) (kk+1+j)).length:Int)+1)))=PV.val (goInt ((aW (ae (aQ (au lo hi k (λi=>[PV.rs 6 (pn c i) (pg c i)]) l (λi=>ag (ow o i))))) (kk+1+(j+1))).length:Nat)):=λh=>by
   rw [qT h,wrap64 (by omega) (by omega)];rfl
  have rS:aX ((ae (aQ (au lo hi k (λi=>[PV.rs 6 (pn c i) (pg c i)]) l (λi=>ag (ow o i))))) (kk+j+1)) ((ae (aQ (au lo hi k (λi=>[PV.rs 6 (pn c i) (pg c i)]) l (λi=>ag (ow o i))))) (kk+j))=true->∀i,i < (au lo hi k (λi=>[PV.rs 6 (pn c i) (pg c i)]) l (λi=>ag (ow o i))).length->(fE (ae (aQ (au lo hi k (λi=>[PV.rs 6 (pn c i) (pg c i)]) l (λi=>ag (ow o i))))) (kk+1+(j+1)) i).cells=(fE (ae (aQ (au lo hi k (λi=>[PV.rs 6 (pn c i) (pg c i)]) l (λi=>ag (ow o i))))) (kk+1+j) i).cells:=λh i _=>by
   unfold fE;rw [eJ,eJ0,gx h]
  have rT:aX ((ae (aQ (au lo hi k (λi=>[PV.rs 6 (pn c i) (pg c i)]) l (λi=>ag (ow o i))))) (kk+j+1)) ((ae (aQ (au lo hi k (λi=>[PV.rs 6 (pn c i) (pg c i)]) l (λi=>ag (ow o i))))) (kk+j))=false->∀i,i < (au lo hi k (λi=>[PV.rs 6 (pn c i) (pg c i)]) l (λi=>ag (ow o i))).length->(fE (ae (aQ (au lo hi k (λi=>[PV.rs 6 (pn c i) (pg c i)]) l (λi=>ag (ow o i))))) (kk+1+(j+1)) i).cells=if i=0+((aW (ae (aQ (au lo hi k (λi=>[PV.rs 6 (pn c i) (pg c i)]) l (λi=>ag (ow o i))))) (kk+1+j)).length:Int).toNat then(fE (ae (aQ (au lo hi k (λi=>[PV.rs 6 (pn c i) (pg c i)]) l (λi=>ag (ow o i))))) (kk+1+j) (kk+1+(j:Int).toNat)).cells else(fE (ae (aQ (au lo hi k (λi=>[PV.rs 6 (pn c i) (pg c i)]) l (λi=>ag (ow o i))))) (kk+1+j) i).cells:=λh i _=>by
   rw [eJ,wZ h,eC,w1,<-eJ0,Nat.zero_add,Int.toNat_natCast];split<;>rfl
  with_unfolding_all refine⟨λh3=>⟨(bC h3).1,(bC h3).2,λh4=>⟨(bC h3).1,⟨Int.natCast_nonneg _,by have:=(bC h3).1;omega⟩,⟨j+1,[some 0],⟨by omega,by have:=(bC h3).1;omega,by rw [qT (hE _ (hn _ h4))];omega,by rw [qT (hE _ (hn _ h4))];omega⟩,by have:=(bC h3).1;show(au lo hi k (λi=>[PV.rs 6 (pn c i) (pg c i)]) l (λi=>ag (ow o i))).length - (j+1) < (au lo hi k (λi=>[PV.rs 6 (pn c i) (pg c i)]) l (λi=>ag (ow o i))).length - j;omega,Wo ⟨qZ (rT (hE _ (hn _ h4))),qQ⟩ ⟨pP,vT (hE _ (hn _ h4)),pP,vJ,qQ⟩ ⟨qQ,qQ⟩⟩⟩,λh4=>⟨j+1,[some 0],⟨by omega,by have:=(bC h3).1;omega,by rw [qS (hE _ (hy _ h4))];omega,by rw [qS (hE _ (hy _ h4))];omega⟩,by have:=(bC h3).1;show(au lo hi k (λi=>[PV.rs 6 (pn c i) (pg c i)]) l (λi=>ag (ow o i))).length - (j+1) < (au lo hi k (λi=>[PV.rs 6 (pn c i) (pg c i)]) l (λi=>ag (ow o i))).length - j;omega,Wo ⟨qZ (rS (hE _ (hy _ h4))),qQ⟩ ⟨pP,vS (hE _ (hy _ h4)),pP,vJ,qQ⟩ ⟨qQ,qQ⟩⟩⟩,λh3=>?_⟩
  have hjn:kk+1+j=(au lo hi k (λi=>[PV.rs 6 (pn c i) (pg c i)]) l (λi=>ag (ow o i))).length:=by
   have:∀{x y:Nat},decide ((x:Int) < (y:Int))=false->y<=x:=λh=>by
    have:=of_decide_eq_false h;omega
   have:=this h3;omega
  have q0:(0:Int)<=((aW (ae (aQ (au lo hi k (λi=>[PV.rs 6 (pn c i) (pg c i)]) l (λi=>ag (ow o i))))) (kk+1+j)).length:Nat):=Int.natCast_nonneg _;have qn:(((aW (ae (aQ (au lo hi k (λi=>[PV.rs 6 (pn c i) (pg c i)]) l (λi=>ag (ow o i))))) (kk+1+j)).length:Nat):Int)<=(au lo hi k (λi=>[PV.rs 6 (pn c i) (pg c i)]) l (λi=>ag (ow o i))).length:=by omega
  have eQ:((((aW (ae (aQ (au lo hi k (λi=>[PV.rs 6 (pn c i) (pg c i)]) l (λi=>ag (ow o i))))) (kk+1+j)).length:Nat):Int) - 0).toNat=(aW (ae (aQ (au lo hi k (λi=>[PV.rs 6 (pn c i) (pg c i)]) l (λi=>ag (ow o i))))) (au lo hi k (λi=>[PV.rs 6 (pn c i) (pg c i)]) l (λi=>ag (ow o i))).length).length:=by rw [hjn];omega
  have np:0 < (au lo hi k (λi=>[PV.rs 6 (pn c i) (pg c i)]) l (λi=>ag (ow o i))).length:=by omega
  with_unfolding_all refine⟨⟨q0,qn,Int.le_refl _⟩,np,⟨Int.le_refl 0,q0,qn⟩,⟨[],aa [(2,.rs 6 (aW (ae (aQ (au lo hi k (λi=>[PV.rs 6 (pn c i) (pg c i)]) l (λi=>ag (ow o i))))) (au lo hi k (λi=>[PV.rs 6 (pn c i) (pg c i)]) l (λi=>ag (ow o i))).length).length (λi=>(ae (aW (ae (aQ (au lo hi k (λi=>[PV.rs 6 (pn c i) (pg c i)]) l (λi=>ag (ow o i))))) (au lo hi k (λi=>[PV.rs 6 (pn c i) (pg c i)]) l (λi=>ag (ow o i))).length) i).cells))] [] 0 [],Wo trivial ⟨⟨by simp,_,rfl,rfl,rfl,eQ,?_⟩,qQ⟩ trivial,rfl,rfl⟩⟩
  intro t ht;have hq:((aW (ae (aQ (au lo hi k (λi=>[PV.rs 6 (pn c i) (pg c i)]) l (λi=>ag (ow o i))))) (kk+1+j)).length)=(aW (ae (aQ (au lo hi k (λi=>[PV.rs 6 (pn c i) (pg c i)]) l (λi=>ag (ow o i))))) (au lo hi k (λi=>[PV.rs 6 (pn c i) (pg c i)]) l (λi=>ag (ow o i))).length).length:=by rw [hjn]
  have ht2:t < (aW (ae (aQ (au lo hi k (λi=>[PV.rs 6 (pn c i) (pg c i)]) l (λi=>ag (ow o i))))) (kk+1+j)).length:=by rw [hq];exact ht
  show(ae (aW (ae (aQ (au lo hi k (λi=>[PV.rs 6 (pn c i) (pg c i)]) l (λi=>ag (ow o i))))) (au lo hi k (λi=>[PV.rs 6 (pn c i) (pg c i)]) l (λi=>ag (ow o i))).length) t).cells=if 0+((((aW (ae (aQ (au lo hi k (λi=>[PV.rs 6 (pn c i) (pg c i)]) l (λi=>ag (ow o i))))) (kk+1+j)).length:Nat):Int)).toNat<=0+Int.toNat 0+t/\_ then _ else(fE (ae (aQ (au lo hi k (λi=>[PV.rs 6 (pn c i) (pg c i)]) l (λi=>ag (ow o i))))) (kk+1+j) (0+Int.toNat 0+t)).cells
  rw [if_neg (λh=>by have:=h.1;simp only [Int.toNat_natCast] at this;omega),show 0+Int.toNat 0+t=t by simp];unfold fE;rw [if_pos ht2,hjn]
 ·cases e
end Go.Proofs
namespace Go.Num
def isRg (K:Nat) (xs:List PV):Prop:=xs=br (bV xs) (bW xs) (gK xs) (gC xs) (gL xs) (gO xs)/\((bV xs).le K/\(bW xs).le K)/\bU K (gK xs) (gC xs)/\cX (gL xs) (gO xs)
def ii (k:Nat) (c:Nat->List PV) (g:Nat->PtS) (e o:Int):Bool:=decide (e < 2)||aA (λi=>dc (pn c i) (ab (pg c i)) (g e.toNat) (g o.toNat)) k
end Go.Num
namespace Go.Proofs
def H0:List PV->Option Ans
 |[.agg xs,.agg [.rs 6 n g,.rs 2 m h],.val (.int .i64 e),.val (.int .i64 o)]=>some ⟨some (isRg 10000 xs/\isPL 10000 n g/\(0<=e/\e < n)/\0<=o/\o < n),.val (.bool (ii (gK xs) (gC xs) (ab g) e o)),[]⟩
 |_=>none
def D69:Opt:={ perm:=jh [(3,(.rd 0 (.rd 1 (.rd 2 (.rd 3 (.rd 4 (.rd 5 (.rd 6 (.rd 7 (.rd 8 (.rd 9 (.alt 10 (.mk 11 .nil) (.mk 11 (.mk 10 .nil))))))))))))))] }
theorem H1:am D69.toOrd Tryz.f69 4=true:=by kernel_rfl
theorem f69:FnOk Tryz.prog 69 H0:=by
 refine FnOk.ofW aj (an (l:=[(103,C7)]) (own:=[]) (inl:=[]) (by simp [f103]) (by simp)) Tryz.func69 D69 4 H1 λargs r e=>?_;unfold H0 at e;split at e
 ·rename_i xs n g m h e o
  cases e;refine⟨by simp,λhm=>?_⟩;obtain⟨⟨h1,⟨hlo,hhi⟩,hcl,hol⟩,hg,he,ho⟩:=hm _ rfl;generalize bV xs=lo at *
  generalize bW xs=hi at *
  generalize gK xs=k at *
  generalize gC xs=c at *
  generalize gL xs=l at *
  generalize gO xs=w at *
  subst h1;clear hm;refine⟨[],aa [(0,.agg (br lo hi k c l w)),(1,.agg [.rs 6 n (λi=>(ab g i).cells),.rs 2 m h]),(2,.val (.int .i64 e)),(3,.val (.int .i64 o))] [] 0 [],Wo trivial ⟨⟨rfl,rfl,rfl,rfl,rfl,rfl,rfl,rfl,rfl,rfl,rfl,rfl,qW,qW,qQ⟩,⟨⟨rfl,rfl,λi hi=>(hg.1 i hi).1.symm⟩,qW,qQ⟩,rfl,rfl,qQ⟩ trivial,?_⟩;obtain⟨X,hX⟩:∃X,X=ii k c (ab g) e o:=⟨_,rfl⟩;rw [<-hX];have v1:decide (e < 2)=true->PV.val (.bool true)=PV.val (.bool X):=λh=>by rw [hX,ii,h];rfl
  have v2:decide (e < 2)=false->PV.val (.bool (aA (λi=>dc (pn c i) (ab (pg c i)) (ab g e.toNat) (ab g o.toNat)) k))=PV.val (.bool X):=λh=>by rw [hX,ii,h];rfl
  have cg:∀i:Int,0<=i/\i < n->lg 10000 (ab g i.toNat).cells:=λi h=>⟨rfl,(hg.1 i.toNat (by omega)).2⟩;have pre:bU 10000 k (λi=>[.rs 6 (pn c i) (pg c i)])/\lg 10000 (ab g e.toNat).cells/\lg 10000 (ab g o.toNat).cells:=⟨⟨λi hi=>⟨rfl,(hcl.1 i hi).2⟩,hcl.2⟩,cg e he,cg o ho⟩;with_unfolding_all exact⟨λh1=>⟨[],aa [(8,.val (.bool X))] [] 0 [],Wo trivial ⟨v1 h1,qQ⟩ trivial,rfl,rfl⟩,λh1=>⟨he,ho,⟨pre,[],aa [(8,.val (.bool X))] [] 0 [],Wo trivial ⟨v2 h1,qQ⟩ trivial,rfl,rfl⟩,pre,[],aa [(8,.val (.bool X))] [] 0 [],Wo trivial ⟨v2 h1,qQ⟩ trivial,rfl,rfl⟩⟩
 ·cases e
def F7:List PV->Option Ans
 |[.agg xs,.val v,.val u]=>some ⟨some (isRg 10000 xs/\isPk 10000 v/\isPk 10000 u),.val (.tuple ⟨[.bool (a7 (bV xs) (bW xs) (gK xs) (gC xs) (gL xs) (gO xs) (aN v) (aN u)),.int .i64 (bY (fP (bV xs) (bW xs) (gK xs) (gC xs) (gL xs) (gO xs) (ar (aN v) (aN u))))]⟩),[]⟩
 |_=>none
theorem H2:am {} Tryz.f21 3=true:=by kernel_rfl
theorem f21:FnOk Tryz.prog 21 F7:=by
 refine FnOk.ofW aj (an (l:=[(55,FG),(56,FR)]) (own:=[]) (inl:=[]) (by simp [f55,f56]) (by simp)) Tryz.func21 {} 3 H2 λargs r e=>?_;unfold F7 at e;split at e
 ·rename_i xs v u
  cases e;refine⟨by simp,λhm=>?_⟩;obtain⟨⟨h1,⟨hlo,hhi⟩,hcl,hol⟩,⟨a,rfl,ha⟩,b,rfl,hb⟩:=hm _ rfl;generalize bV xs=lo at *
  generalize bW xs=hi at *
  generalize gK xs=k at *
  generalize gC xs=c at *
  generalize gL xs=l at *
  generalize gO xs=o at *
  subst h1;clear hm;refine⟨[],aa [(0,.agg (br lo hi k c l o)),(1,.val a.v),(2,.val b.v)] [] 0 [],Wo trivial ⟨⟨rfl,rfl,rfl,rfl,rfl,rfl,rfl,rfl,rfl,rfl,rfl,rfl,qW,qW,qQ⟩,rfl,rfl,qQ⟩ trivial,?_⟩;have hrg:((lo.le 4294967296/\hi.le 4294967296)/\bU 10000 k c/\cX l o):=⟨⟨hlo.mono (by decide),hhi.mono (by decide)⟩,hcl,hol⟩;have hrg2:((lo.le 10000/\hi.le 10000)/\bU 10000 k c/\cX l o):=⟨⟨hlo,hhi⟩,hcl,hol⟩;have ha':=ha.mono (show 10000<=4294967296 by decide);have hb':=hb.mono (show 10000<=4294967296 by decide);obtain⟨S,hS⟩:∃S,S=a7 lo hi k c l o a b:=⟨_,rfl⟩;have hv:a7 lo hi k c l o (aN a.v) (aN b.v)=S:=hS.symm;rw [hv];obtain⟨OK,hOK⟩:∃OK,OK=fP lo hi k c l o (ar a b):=⟨_,rfl⟩;have hw:fP lo hi k c l o (ar (aN a.v) (aN b.v))=OK:=hOK.symm;rw [hw];have cn:∀r:Nat->List PV,ab r 0=a->ab r 1=b->aA (λi=>!ai (ab r i)) 2=(!ai a||!ai b):=λr h h'=>by
   have e:List.range 2=[0,1]:=rfl;simp only [aA,e,List.any_cons,List.any_nil,Bool.or_false,h,h']
  have p2:∀r:Nat->List PV,r 0=a.cells->r 1=b.cells->isPL 4294967296 2 r:=λr h h'=>⟨λi hi=>by
   match i,hi with
   |0,_=>exact⟨by rw [ab,h];rfl,by rw [ab,h];exact ha'⟩
   |1,_=>exact⟨by rw [ab,h'];rfl,by rw [ab,h'];exact hb'⟩
   |i+2,h=>omega,by decide⟩
  have q1:∀r:Nat->List PV,ab r 0=a->ab r 1=b->((bX lo hi k (pn (λi=>[.rs 6 (pn c i) (pg c i)])) (λi=>ab (pg (λi=>[.rs 6 (pn c i) (pg c i)]) i)) l (ow (λi=>ag (ow o i)))==0)&&!aA (λi=>!ai (ab r i)) 2)=OK:=λr h h'=>by
   rw [cn r h h',hOK,Bool.and_comm];rfl
  have z:∀B:Bool,(bY B != 0)=true->B=false:=λB h=>by cases B<;>first|rfl|cases h
  have z':∀B:Bool,(bY B != 0)=false->B=true:=λB h=>by cases B<;>first|rfl|cases h
  have s0:OK=false->S=false:=λh=>by
   rw [hS,a7,<-hOK,h];rfl
  have hrg':((lo.le 4294967296/\hi.le 4294967296)/\bU 10000 k (λi=>[.rs 6 (pn c i) (pg c i)])/\cX l (λi=>ag (ow o i))):=⟨hrg.1,⟨λi hi=>⟨rfl,(hcl.1 i hi).2⟩,hcl.2⟩,λ_ _=>rfl,hol.2⟩;have hrg3:((lo.le 10000/\hi.le 10000)/\bU 10000 k (λi=>[.rs 6 (pn c i) (pg c i)])/\cX l (λi=>ag (ow o i))):=⟨hrg2.1,hrg'.2⟩;have v5:PV.val (.bool (a7 lo hi k (λi=>[.rs 6 (pn c i) (pg c i)]) l (λi=>ag (ow o i)) (aN a.v) (aN b.v)))=PV.val (.bool S):=by
   rw [hS];rfl
  with_unfolding_all refine⟨⟨hrg',p2 _ rfl rfl⟩,λh1=>?_,λh1=>?_⟩
  ·have h2:OK=false:=(q1 _ rfl rfl).symm.trans (z _ h1);have v1:PV.val (.bool false)=PV.val (.bool S):=by rw [s0 h2]
   have v2:∀B,B=OK->PV.val (.int .i64 (bY B))=PV.val (.int .i64 (bY OK)):=λB h=>by rw [h]
   with_unfolding_all exact⟨[],aa [(6,.val (.bool S)),(7,.val (.int .i64 (bY OK)))] [] 0 [],Wo trivial ⟨v1,v2 _ (q1 _ rfl rfl),qQ⟩ trivial,rfl,rfl⟩
  ·have h2:OK=true:=(q1 _ rfl rfl).symm.trans (z' _ h1);have v3:PV.val (.int .i64 0)=PV.val (.int .i64 (bY OK)):=by rw [h2];rfl
   with_unfolding_all exact⟨⟨hrg3,⟨a,rfl,ha⟩,b,rfl,hb⟩,[],aa [(6,.val (.bool S)),(7,.val (.int .i64 (bY OK)))] [] 0 [],Wo trivial ⟨v5,v3,qQ⟩ trivial,rfl,rfl⟩
 ·cases e
end Go.Proofs
namespace Go.Num
def qL (L:List (Int×Int)) (i:Nat):Int×Int:=(L[i]?).getD (0,0)
theorem Br {L:List (Int×Int)} {x:Int×Int} {r:Nat->List PV} (h:r 0=aD x):∀i,i < L.length+1->aD (qL (L++[x]) i)=gH L.length (λi=>aD (qL L i)) r i:=λi hi=>by
 unfold gH qL;by_cases hl:i < L.length
 ·rw [if_pos hl,List.getElem?_append_left hl]
 ·obtain rfl:i=L.length:=by omega
  rw [if_neg hl,Nat.sub_self,h];simp
def d0 (T:Int->Int->Bool) (q:Nat->Int×Int):Nat->List (Int×Int)
 |0=>[]
 |j+1=>d0 T q j++(bif T (q j).1 (q j).2&&T (q j).2 (q j).1 then [q j] else [])
theorem vj (T:Int->Int->Bool) (q:Nat->Int×Int):∀j,(d0 T q j).length<=j
 |0=>Nat.le_refl _
 |j+1=>by
  have:=vj T q j;unfold d0;rw [List.length_append];cases (T (q j).1 (q j).2&&T (q j).2 (q j).1)<;>simp<;>omega
def DH (lo hi:PtS) (k:Nat) (c:Nat->List PV) (l:Nat) (o:Nat->List PV) (n:Nat) (g:Nat->List PV) (m:Nat) (h:Nat->List PV):Bool:=(bX lo hi k (pn c) (λi=>ab (pg c i)) l (ow o)==0)&&bG n (ab g) m (eE h)
def pE (lo hi:PtS) (k:Nat) (c:Nat->List PV) (l:Nat) (o:Nat->List PV) (n:Nat) (g:Nat->List PV) (m:Nat) (h:Nat->List PV):List (Int×Int):=bif DH lo hi k c l o n g m h then d0 (ii k c (ab g)) (eE h) m else []
theorem ij {n m:Nat} {q:Nat->Int×Int} (h:cJ n q m=true) {i:Nat} (hi:i < m):0<=(q i).1/\(q i).1 < (q i).2/\(q i).2 < (n:Int)/\(0 < i->dP (q (i - 1)) (q i)=true):=by
 unfold cJ at h;have h0:aA (ia n q) m=false:=by simpa using h
 have h1:=(aF.1 h0) i hi;unfold ia at h1;simp only [Bool.or_eq_false_iff,decide_eq_false_iff_not,Bool.and_eq_false_iff,Bool.not_eq_false'] at h1;exact⟨by omega,by omega,by omega,λhi=>by
  rcases h1.2 with h|h
  ·omega
  ·exact h⟩
theorem mJ {n m:Nat} {q:Nat->Int×Int} (h:cJ n q m=true):m<=n*n:=by
 have key:∀i,i < m->(i:Int)<=(q i).1*n+(q i).2:=λi=>by
  induction i with
  |zero =>
   intro hi;have:=ij h hi;have h2:=Int.mul_nonneg this.1 (Int.natCast_nonneg n);omega
  |succ i ih =>
   intro hi;have h1:=ij h hi;have h2:=ij h (show i < m by omega);have h3:=ih (by omega);have h4:=h1.2.2.2 (by omega);rw [Nat.add_sub_cancel] at h4;unfold dP at h4;simp only [Bool.or_eq_true,Bool.and_eq_true,decide_eq_true_eq] at h4;rcases h4 with h4|⟨h4,h5⟩
   ·have h6:=Int.mul_le_mul_of_nonneg_right (show(q i).1+1<=(q (i+1)).1 by omega) (Int.natCast_nonneg n);rw [Int.add_mul,Int.one_mul] at h6;omega
   ·rw [<-h4];omega
 rcases Nat.eq_zero_or_pos m with h0|h0
 ·omega
 ·have h1:=ij h (show m - 1 < m by omega);have h2:=key (m - 1) (by omega);have h3:=Int.mul_le_mul_of_nonneg_right (show(q (m - 1)).1<=(n:Int) - 1 by omega) (Int.natCast_nonneg n);rw [Int.sub_mul,Int.one_mul] at h3;have h4:(m:Int)<=(n:Int)*n:=by omega
  exact_mod_cast h4
end Go.Num
namespace Go.Proofs
theorem AG {f:FuncId} {p:PV} {r:Ans} (h:gk Tryz.prog f [p,.rs 6 0 λ_=>[]] r):gk Tryz.prog f [p,.val (.slice none 0 0)] r:=by
 refine⟨h.1,λhm A w vs hA hl hR=>h.2 hm A w vs hA hl λi q v e1 e2=>?_⟩
 match i with
 |0=>exact hR 0 q v e1 e2
 |1 =>
  cases e1;have:=hR 1 _ v rfl e2;cases this;exact .rs _ _ _ _ _ (λ_ _=>undef) (λi hi=>absurd hi (Nat.not_lt_zero i)) (Nat.le_refl _) (Nat.zero_le _) (λi f p hi=>absurd hi (Nat.not_lt_zero i)) (λi f p hi=>absurd hi (Nat.not_lt_zero i))
 |i+2=>simp at e1
def AH:List PV->Option Ans
 |[p,.val (.slice none 0 0)]=>FG [p,.rs 6 0 λ_=>[]]
 |_=>none
theorem F8:FnOk Tryz.prog 55 AH:=λargs r e=>by
 unfold AH at e;split at e
 ·exact AG (f55 _ r e)
 ·cases e
def H3:List PV->Option Ans
 |[.agg xs,.agg [.rs 6 n g,.rs 2 m h]]=>some ⟨some (isRg 10000 xs/\isPL 10000 n g/\kv m h),.tup [.rs 2 (pE (bV xs) (bW xs) (gK xs) (gC xs) (gL xs) (gO xs) n g m h).length (λi=>aD (qL (pE (bV xs) (bW xs) (gK xs) (gC xs) (gL xs) (gO xs) n g m h) i)),.val (.int .i64 (bY (DH (bV xs) (bW xs) (gK xs) (gC xs) (gL xs) (gO xs) n g m h)))],[]⟩
 |_=>none
theorem H4:am {} Tryz.f18 2=true:=by kernel_rfl
theorem f18:FnOk Tryz.prog 18 H3:=by
 refine FnOk.ofW aj (an (l:=[(55,AH),(68,GN),(69,H0)]) (own:=[]) (inl:=[]) (by simp [F8,f68,f69]) (by simp)) Tryz.func18 {} 2 H4 λargs r e=>?_;unfold H3 at e;split at e
 ·rename_i xs n g m h
  cases e;refine⟨by simp,λhm=>?_⟩;obtain⟨⟨h1,⟨hlo,hhi⟩,hcl,hol⟩,hg,hq⟩:=hm _ rfl;generalize bV xs=lo at *
  generalize bW xs=hi at *
  generalize gK xs=k at *
  generalize gC xs=c at *
  generalize gL xs=l at *
  generalize gO xs=o at *
  subst h1;clear hm;refine⟨[],aa [(0,.agg (br lo hi k c l o)),(1,.agg [.rs 6 n g,.rs 2 m (λi=>aD (eE h i))])] [] 0 [],Wo trivial ⟨⟨rfl,rfl,rfl,rfl,rfl,rfl,rfl,rfl,rfl,rfl,rfl,rfl,qW,qW,qQ⟩,⟨qW,⟨rfl,rfl,λi hi=>(hq.1 i hi).symm⟩,qQ⟩,qQ⟩ trivial,?_⟩;have hrg:((lo.le 4294967296/\hi.le 4294967296)/\bU 10000 k c/\cX l o):=⟨⟨hlo.mono (by decide),hhi.mono (by decide)⟩,hcl,hol⟩;have hg':isPL 4294967296 n g:=⟨λi hi=>⟨(hg.1 i hi).1,(hg.1 i hi).2.mono (by decide)⟩,hg.2⟩;have hqm:=hq.2;generalize hqq:eE h=q at *
  have hql:kv m (λi=>aD (q i)):=⟨λ_ _=>rfl,hqm⟩;obtain⟨T,hT⟩:∃T,T=ii k c (ab g):=⟨_,rfl⟩;obtain⟨OK,hOK⟩:∃OK,OK=DH lo hi k c l o n g m h:=⟨_,rfl⟩;obtain⟨TR,hTR⟩:∃TR,TR=pE lo hi k c l o n g m h:=⟨_,rfl⟩;rw [<-hTR,<-hOK];have e1:TR=bif OK then d0 T q m else []:=by rw [hTR,pE,<-hOK,<-hT,hqq]
  have e2:OK=((bX lo hi k (pn c) (λi=>ab (pg c i)) l (ow o)==0)&&bG n (ab g) m q):=by rw [hOK,DH,hqq]
  have b0:OK=false->TR.length=0:=λh=>by rw [e1,h];rfl
  have b1:OK=false->PV.val (.int .i64 1)=PV.val (.int .i64 (bY OK)):=λh=>by rw [h];rfl
  have q1:((bX lo hi k (pn (λi=>[.rs 6 (pn c i) (pg c i)])) (λi=>ab (pg (λi=>[.rs 6 (pn c i) (pg c i)]) i)) l (ow (λi=>ag (ow o i)))==0)&&!aA (λi=>!ai (ab (λ_=>[]) i)) 0)=(bX lo hi k (pn c) (λi=>ab (pg c i)) l (ow o)==0):=Bool.and_true _;have z:∀B:Bool,(bY B != 0)=true->B=false:=λB h=>by cases B<;>first|rfl|cases h
  have z':∀B:Bool,(bY B != 0)=false->B=true:=λB h=>by cases B<;>first|rfl|cases h
  have f1:(bY ((bX lo hi k (pn (λi=>[.rs 6 (pn c i) (pg c i)])) (λi=>ab (pg (λi=>[.rs 6 (pn c i) (pg c i)]) i)) l (ow (λi=>ag (ow o i)))==0)&&!aA (λi=>!ai (ab (λ_=>[]) i)) 0) != 0)=true->OK=false:=λh=>by
   have:=q1.symm.trans (z _ h);rw [e2,this];rfl
  have f2:(!bG n (ab g) m (eE λi=>aD (q i)))=true->OK=false:=λh=>by
   have h:bG n (ab g) m q=false:=by
    have h:(!bG n (ab g) m q)=true:=h;simpa using h
   rw [e2,h,Bool.and_false]
  have f3:(bY ((bX lo hi k (pn (λi=>[.rs 6 (pn c i) (pg c i)])) (λi=>ab (pg (λi=>[.rs 6 (pn c i) (pg c i)]) i)) l (ow (λi=>ag (ow o i)))==0)&&!aA (λi=>!ai (ab (λ_=>[]) i)) 0) != 0)=false->(!bG n (ab g) m (eE λi=>aD (q i)))=false->OK=true/\bG n (ab g) m q=true:=λh h'=>by
   have h1:=q1.symm.trans (z' _ h);have h2:bG n (ab g) m q=true:=by
    have h:(!bG n (ab g) m q)=false:=h';simpa using h
   exact⟨by rw [e2,h1,h2];rfl,h2⟩
  have hcl':bU 10000 k (λi=>[.rs 6 (pn c i) (pg c i)]):=⟨λi hi=>⟨rfl,(hcl.1 i hi).2⟩,hcl.2⟩;have hol':cX l (λi=>ag (ow o i)):=⟨λ_ _=>rfl,hol.2⟩;have hrg':((lo.le 4294967296/\hi.le 4294967296)/\bU 10000 k (λi=>[.rs 6 (pn c i) (pg c i)])/\cX l (λi=>ag (ow o i))):=⟨hrg.1,hcl',hol'⟩;have p0:isPL 4294967296 0 λ_=>[]:=⟨λi hi=>absurd hi (Nat.not_lt_zero i),Nat.zero_le _⟩;with_unfolding_all refine⟨⟨hrg',p0⟩,λh1=>⟨⟨hg',hql⟩,λh2=>⟨[],aa [(4,.rs 2 TR.length (λi=>aD (qL TR i))),(5,.val (.int .i64 (bY OK)))] [] 0 [],Wo trivial ⟨⟨rfl,b0 (f2 h2)⟩,b1 (f2 h2),qQ⟩ trivial,rfl,rfl⟩,λh2=>⟨Nat,λi=>(OK=true/\bG n (ab g) m q=true)/\i<=m,λi=>aa [(2,.ptr 0 0 0 0),(3,.ptr 1 1 0 0),(6,.sl 2 2 0 (d0 T q i).length),(18,.rs 2 m (λi=>aD (q i))),(19,.val (goInt m)),(20,.val (goInt i))] [⟨31,14,0,true,false,1,λ_=>br lo hi k c l o⟩,⟨37,2,1,true,false,1,λ_=>[.rs 6 n g,.rs 2 m (λi=>aD (q i))]⟩,⟨46,2,2,false,false,(d0 T q i).length,λj=>aD (qL (d0 T q i) j)⟩] 3 [],λi=>m - i,⟨0,[some 0,some 1,none],⟨f3 h1 h2,Nat.zero_le _⟩,Wo ⟨qZ ⟨rq,rq,rq,rq,rq,rq,rq,rq,rq,rq,rq,rq,⟨qW,rfl⟩,⟨qW,rfl⟩,qQ⟩,qZ ⟨⟨qW,rfl⟩,⟨qW,rfl⟩,qQ⟩,⟨aP rfl,rfl,rfl,rfl⟩,qQ⟩ ⟨pP,pP,⟨rfl,rfl,rfl,rfl,aP rfl⟩,qW,rfl,rfl,qQ⟩ trivial⟩,λi hi=>?_⟩⟩,λh1=>⟨λ_=>⟨[],aa [(4,.rs 2 TR.length (λi=>aD (qL TR i))),(5,.val (.int .i64 (bY OK)))] [] 0 [],Wo trivial ⟨⟨rfl,b0 (f1 h1)⟩,b1 (f1 h1),qQ⟩ trivial,rfl,rfl⟩,λh=>nomatch h⟩⟩
  obtain⟨⟨hk1,hk2⟩,him⟩:(OK=true/\bG n (ab g) m q=true)/\i<=m:=hi;with_unfolding_all refine⟨λh1=>?_,λh1=>?_⟩
  ·have h1:(i:Int) < m:=bL h1;have ei:(i:Int).toNat=i:=Int.toNat_natCast i;have him:i+1<=m:=by omega
   have hμ : m - (i+1) < m - i:=by omega
   have hok:=hk2;unfold bG at hok;rw [Bool.and_eq_true,Bool.and_eq_true] at hok;have hn1:n<=1000:=of_decide_eq_true hok.1.1;have hmm:=mJ hok.2;have hnn:n*n<=1000*1000:=Nat.mul_le_mul hn1 hn1;have hl:=ij hok.2 (show i < m by omega);have hl1:0<=(q (i:Int).toNat).1/\(q (i:Int).toNat).1 < n:=by rw [ei];omega
   have hl2:0<=(q (i:Int).toNat).2/\(q (i:Int).toNat).2 < n:=by rw [ei];omega
   have htl:=vj T q i;have wi:PV.val (.int .i64 (IntKind.i64.wrap ((i:Int)+1)))=PV.val (.int .i64 ((i+1:Nat):Int)):=by
    rw [wrap64 (by omega) (by omega)];rfl
   have pR:isRg 10000 (br lo hi k c l o):=⟨rfl,⟨hlo,hhi⟩,hcl',hol'⟩;have hT':∀x y,ii k c (ab g) x y=T x y:=λx y=>by rw [hT]
   have tt:∀x y b,ii k (λi=>[.rs 6 (pn c i) (pg c i)]) (ab g) x y=b->T x y=b:=λx y b h=>(hT' x y).symm.trans h;have e3:T (q i).1 (q i).2=true->T (q i).2 (q i).1=true->d0 T q (i+1)=d0 T q i++[q i]:=λh h'=>by rw [d0,h,h'];rfl
   have e4:(T (q i).1 (q i).2&&T (q i).2 (q i).1)=false->d0 T q (i+1)=d0 T q i:=λh=>by rw [d0,h];exact List.append_nil _
   have hn0:(T (q (i:Int).toNat).1 (q (i:Int).toNat).2&&T (q (i:Int).toNat).2 (q (i:Int).toNat).1)=false->(d0 T q (i+1)).length=(d0 T q i).length:=λh=>by
    rw [ei] at h;rw [e4 h]
   have hr0:(T (q (i:Int).toNat).1 (q (i:Int).toNat).2&&T (q (i:Int).toNat).2 (q (i:Int).toNat).1)=false->∀j,j < (d0 T q i).length->aD (qL (d0 T q (i+1)) j)=aD (qL (d0 T q i) j):=λh=>by
    rw [ei] at h;rw [e4 h];exactλ_ _=>rfl
   have hnA:T (q (i:Int).toNat).1 (q (i:Int).toNat).2=true->T (q (i:Int).toNat).2 (q (i:Int).toNat).1=true->(d0 T q (i+1)).length=(d0 T q i).length+1:=λh h'=>by
    rw [ei] at h h';rw [e3 h h',List.length_append];rfl
   have hr1:T (q (i:Int).toNat).1 (q (i:Int).toNat).2=true->T (q (i:Int).toNat).2 (q (i:Int).toNat).1=true->∀r:Nat->List PV,r 0=aD (q (i:Int).toNat)->∀j,j < (d0 T q i).length+1->aD (qL (d0 T q (i+1)) j)=gH (d0 T q i).length (λj=>aD (qL (d0 T q i) j)) r j:=λh h' r hr=>by
    rw [ei] at h h' hr;rw [e3 h h'];exact Br hr
   have k1:((d0 T q i).length+1)*16<=140737488355328:=by omega
   have k2:(d0 T q i).length+1<=9223372036854775807:=by omega
   have n1:∀x y:Bool,y=false->(x&&y)=false:=λx y h=>by rw [h,Bool.and_false]
   have n2:∀x y:Bool,x=false->(x&&y)=false:=λx y h=>by rw [h];rfl
   with_unfolding_all exact⟨⟨Int.natCast_nonneg i,h1⟩,⟨pR,hg,hl1,hl2⟩,λh2=>⟨⟨pR,hg,hl2,hl1⟩,λh3=>⟨⟨rfl,k1,k2⟩,⟨i+1,[some 0,some 1,some 2],⟨⟨hk1,hk2⟩,him⟩,hμ,Wo ⟨qZ ⟨rq,rq,rq,rq,rq,rq,rq,rq,rq,rq,rq,rq,⟨qW,rfl⟩,⟨qW,rfl⟩,qQ⟩,qZ ⟨⟨qW,rfl⟩,⟨qW,rfl⟩,qQ⟩,⟨aP rfl,rfl,rfl,rfl,rfl,(hnA (tt _ _ _ h2) (tt _ _ _ h3)),hr1 (tt _ _ _ h2) (tt _ _ _ h3) _ rfl⟩,qQ⟩ ⟨pP,pP,⟨rfl,rfl,(hnA (tt _ _ _ h2) (tt _ _ _ h3)).symm,aP rfl,_,rfl⟩,qW,rfl,wi,qQ⟩ trivial⟩⟩,λh3=>⟨i+1,[some 0,some 1,some 2],⟨⟨hk1,hk2⟩,him⟩,hμ,Wo ⟨qZ ⟨rq,rq,rq,rq,rq,rq,rq,rq,rq,rq,rq,rq,⟨qW,rfl⟩,⟨qW,rfl⟩,qQ⟩,qZ ⟨⟨qW,rfl⟩,⟨qW,rfl⟩,qQ⟩,⟨aP rfl,rfl,rfl,rfl,rfl,(hn0 (n1 _ _ (tt _ _ _ h3))),hr0 (n1 _ _ (tt _ _ _ h3))⟩,qQ⟩ ⟨pP,pP,⟨rfl,rfl,(hn0 (n1 _ _ (tt _ _ _ h3))).symm,aP rfl,_,rfl⟩,qW,rfl,wi,qQ⟩ trivial⟩⟩,λh2=>⟨λh=>(nomatch h),λ_=>⟨i+1,[some 0,some 1,some 2],⟨⟨hk1,hk2⟩,him⟩,hμ,Wo ⟨qZ ⟨rq,rq,rq,rq,rq,rq,rq,rq,rq,rq,rq,rq,⟨qW,rfl⟩,⟨qW,rfl⟩,qQ⟩,qZ ⟨⟨qW,rfl⟩,⟨qW,rfl⟩,qQ⟩,⟨aP rfl,rfl,rfl,rfl,rfl,(hn0 (n2 _ _ (tt _ _ _ h2))),hr0 (n2 _ _ (tt _ _ _ h2))⟩,qQ⟩ ⟨pP,pP,⟨rfl,rfl,(hn0 (n2 _ _ (tt _ _ _ h2))).symm,aP rfl,_,rfl⟩,qW,rfl,wi,qQ⟩ trivial⟩⟩⟩
  ·have h1:(m:Int)<=i:=dI h1;have h3:d0 T q i=TR:=by
    rw [show i=m by omega,e1,hk1];rfl
   have v2:PV.val (.int .i64 0)=PV.val (.int .i64 (bY OK)):=by rw [hk1];rfl
   have v3:∀j,j < TR.length->aD (qL TR j)=aD (qL (d0 T q i) (0+j)):=λj _=>by rw [h3,Nat.zero_add]
   with_unfolding_all exact⟨[],aa [(4,.rs 2 TR.length (λi=>aD (qL TR i))),(5,.val (.int .i64 (bY OK)))] [] 0 [],Wo trivial ⟨⟨by simp,_,rfl,rfl,rfl,congrArg List.length h3,v3⟩,v2,qQ⟩ trivial,rfl,rfl⟩
 ·cases e
def C8:Shelf.Ren where
 f:=λx=>match x with
  |189=>81
  |125=>121
  |257=>120
  |128=>165
  |129=>166
  |294=>157
  |295=>158
  |296=>159
  |297=>160
  |298=>161
  |299=>162
  |216=>85
  |300=>163
  |301=>164
  |328=>201
  |329=>202
  |330=>203
  |331=>204
  |332=>205
  |215=>123
  |343=>240
  |n=>n
 t:=λx=>match x with
  |28=>73
  |46=>140
  |51=>139
  |53=>137
  |183=>182
  |182=>181
  |131=>125
  |218=>216
  |222=>220
  |228=>239
  |229=>240
  |n=>n
 g:=λn=>n
theorem vk:Lays.n189 Tryz.prog C8 :=
 { mixed:=aj,f125:=Eq.trans Tryz.func121 (congrArg some (by kernel_rfl)),f128:=Eq.trans Tryz.func165 (congrArg some (by kernel_rfl)),f129:=Eq.trans Tryz.func166 (congrArg some (by kernel_rfl)),f189:=Eq.trans Tryz.func81 (congrArg some (by kernel_rfl)),f215:=Eq.trans Tryz.func123 (congrArg some (by kernel_rfl)),f216:=Eq.trans Tryz.func85 (congrArg some (by kernel_rfl)),f257:=Eq.trans Tryz.func120 (congrArg some (by kernel_rfl)),f294:=Eq.trans Tryz.func157 (congrArg some (by kernel_rfl)),f295:=Eq.trans Tryz.func158 (congrArg some (by kernel_rfl)),f296:=Eq.trans Tryz.func159 (congrArg some (by kernel_rfl)),f297:=Eq.trans Tryz.func160 (congrArg some (by kernel_rfl)),f298:=Eq.trans Tryz.func161 (congrArg some (by kernel_rfl)),f299:=Eq.trans Tryz.func162 (congrArg some (by kernel_rfl)),f300:=Eq.trans Tryz.func163 (congrArg some (by kernel_rfl)),f301:=Eq.trans Tryz.func164 (congrArg some (by kernel_rfl)),f328:=Eq.trans Tryz.func201 (congrArg some (by kernel_rfl)),f329:=Eq.trans Tryz.func202 (congrArg some (by kernel_rfl)),f330:=Eq.trans Tryz.func203 (congrArg some (by kernel_rfl)),f331:=Eq.trans Tryz.func204 (congrArg some (by kernel_rfl)),f332:=Eq.trans Tryz.func205 (congrArg some (by kernel_rfl)),f343:=Eq.trans Tryz.func240 (congrArg some (by kernel_rfl)),t0:=Tryz.underlying0,a0:=Tryz.isAgg0,z0:=Tryz.sizeOf0,v0:=Tryz.zeroValue0,t3:=Tryz.underlying3,a3:=Tryz.isAgg3,z3:=Tryz.sizeOf3,v3:=Tryz.zeroValue3,t4:=Tryz.underlying4,a4:=Tryz.isAgg4,z4:=Tryz.sizeOf4,v4:=Tryz.zeroValue4,t5:=Tryz.underlying5,a5:=Tryz.isAgg5,z5:=Tryz.sizeOf5,v5:=Tryz.zeroValue5,t9:=Tryz.underlying9,a9:=Tryz.isAgg9,z9:=Tryz.sizeOf9,v9:=Tryz.zeroValue9,t28:=Tryz.underlying73,a28:=Tryz.isAgg73,z28:=Tryz.sizeOf73,v28:=Tryz.zeroValue73,t46:=Tryz.underlying140,a46:=Tryz.isAgg140,z46:=Tryz.sizeOf140,v46:=Tryz.zeroValue140,t51:=Tryz.underlying139,a51:=Tryz.isAgg139,z51:=Tryz.sizeOf139,v51:=Tryz.zeroValue139,t53:=Tryz.underlying137,a53:=Tryz.isAgg137,z53:=Tryz.sizeOf137,v53:=Tryz.zeroValue137,t131:=Tryz.underlying125,a131:=Tryz.isAgg125,z131:=Tryz.sizeOf125,v131:=Tryz.zeroValue125,t182:=Tryz.underlying181,a182:=Tryz.isAgg181,z182:=Tryz.sizeOf181,v182:=Tryz.zeroValue181,t183:=Tryz.underlying182,a183:=Tryz.isAgg182,z183:=Tryz.sizeOf182,v183:=Tryz.zeroValue182,t218:=Tryz.underlying216,a218:=Tryz.isAgg216,z218:=Tryz.sizeOf216,v218:=Tryz.zeroValue216,t222:=Tryz.underlying220,a222:=Tryz.isAgg220,z222:=Tryz.sizeOf220,v222:=Tryz.zeroValue220,t228:=Tryz.underlying239,a228:=Tryz.isAgg239,z228:=Tryz.sizeOf239,v228:=Tryz.zeroValue239,t229:=Tryz.underlying240,a229:=Tryz.isAgg240,z229:=Tryz.sizeOf240,v229:=Tryz.zeroValue240 }
end Go.Proofs
namespace Go.Ex
open Go.RowKit Go.Sort
def kA (n:Nat) (z:Nat->Int):List Int:=((List.range n).map z).mergeSort λx y=>decide (x<=y)
theorem fQ (n:Nat) (z:Nat->Int):(kA n z).length=n:=by
 unfold kA;rw [List.length_mergeSort];simp
def H5:Trans:=λargs s K=>match args with
 |[.sl id st 0 n]=>match ek s.H id st with
  |some ⟨ty,es,st',box,arr,m,get⟩=>(es=1/\box=false/\n=m/\n<=1000000)/\∃z:Nat->Int,(∀i,i < n->get i=[.val (.int .i64 (z i))])/\(n=0->K (.val (.tuple ⟨[]⟩)) s) /\
    (0 < n->match s with
     |⟨fr,H,nx,sv⟩=>K (.val (.tuple ⟨[]⟩)) ⟨fr,H.set id ⟨ty,es,st',box,arr,m,λi=>[.val (.int .i64 ((kA n z).getD i 0))]⟩,nx,sv⟩)
  |none=>False
 |_=>False
theorem H6:am ({}:Opt).toOrd Tryz.f81 1=true:=by kernel_rfl
theorem Ju:dx Tryz.prog 81 H5:=by
 refine⟨λvs w=>?_,λZ G n A a w s args vs K hZ hS e=>?_⟩
 ·obtain⟨⟨c,hb,h1⟩,h2,h3,h4⟩:=du H6;exact co Tryz.func81 h4 hb vs w
 unfold H5 at e;split at e
 ·rename_i id st m
  split at e
  ·rename_i ty es st' box arr m' get hb
   obtain⟨⟨rfl,rfl,rfl,hmx⟩,z,hz,k0,k1⟩:=e;obtain⟨b,ok,β,hzz,hr,hA1,hA2,hA3,hl,hR⟩:=hS;obtain⟨vl⟩:=vs
   match vl,hl,hR with
   |[v],hl,hR =>
    have hv:=hR 0 _ v rfl rfl;obtain⟨e3,e4⟩:=hv.sl_inv hb;have e3:v=sub 1 0 m (β id):=e3.resolve_right λq=>q.1 rfl;have hb':=(aT hb).1;obtain⟨xs,h1,h2,_,_,h3⟩:=hr.heap.own id _ hb';rcases Nat.eq_zero_or_pos m with h0|h0
    ·subst h0;obtain⟨ad,c,rfl⟩:∃ad c,v=.slice ad 0 c:=by
      rcases hr.heap.slice_of hb' with ⟨e5,_⟩|⟨g,c,e5,_⟩
      ·rw [e3,e5];exact⟨none,0,rfl⟩
      ·rw [e3,e5];exact⟨_,_,rfl⟩
     refine(Any.slices_Sort_int_none vk ad c w).mono ?_;rintro e w' ⟨rfl,rfl⟩;refine⟨_,_,_,rfl,k0 rfl,b,ok,β,hzz,hr,hA1,hA2,hA3,rfl,λi p v hp hv=>?_⟩
     match i,hp,hv with
     |0,hp,hv=>cases hp;cases hv;exact .val _
     |i+1,hp,_=>simp at hp
    ·rcases hr.heap.slice_of hb' with ⟨_,e6⟩|⟨g,c,e5,e6,e7⟩
     ·simp only at e6;omega
     simp only at e6;have hvx:v=.slice (some ⟨g,0,none⟩) m c:=by rw [e3,e5];simp [sub,Addr.add_mid]
     simp only at h1 h2 h3;rw [e5] at h1;obtain⟨hxl,h1⟩:=h1;rcases h1 with ⟨h1,_⟩|⟨g',c',cur,h1,hbase,hcur,q1,q2,q3,q4⟩
     ·cases h1
     cases h1;have hxs:xs=((List.range m).map z).map (Value.int .i64):=by
      apply List.ext_getElem
      ·simp [hxl]
      ·intro i i1 i2;have hi:i < m:=by simpa [hxl] using i1
       obtain⟨u,u1,u2,u3⟩:=h3 i 0 (.val (.int .i64 (z i))) hi (by rw [hz i hi];rfl);have:=(u3 trivial).val_eq;subst this;have hx1:xs[i]? = some (.int .i64 (z i)):=by simpa using u1
       rw [List.getElem?_eq_getElem i1] at hx1;simpa using hx1
     have hH:Holds (Value.int .i64) w g 0 ((List.range m).map z).toArray:=holds_of_blockI hcur (by rw [<-hxs,<-q4];simp);have hlen:((List.range m).map z).length=m:=by simp
     have call:=Any.slices_Sort_int vk g 0 c ((List.range m).map z) w hH (Array.getElem?_eq_some_iff.1 hcur).1 (by rw [hlen];omega);rw [hlen] at call;rw [hvx];refine call.mono ?_;rintro e w' ⟨rfl,nn,os,rfl⟩;have hown:=ownsRow_sortedI (n:=nn) (os:=os) (ss:=(List.range m).map z) (ts:=kA m z) (by rw [fQ,hlen]) hbase hcur (by rw [hlen];exact q1) q2 (by simpa using q3);rw [hlen] at hown;have hset:=hr.set (λi=>[.val (.int .i64 ((kA m z).getD i 0))]) ((kA m z).map (Value.int .i64)) hb' e5 (grownBy_sortedI (w:=w) (n:=nn) (os:=os) (kA m z).toArray) (by simp only;rw [e5];exact hown) (λi hi=>⟨rfl,λp hp=>by simp at hp;subst hp;rfl⟩) (λi f p hi hp=>by
      match f,hp with
      |0,hp =>
       cases hp;refine⟨.int .i64 ((kA m z).getD i 0),?_,.val _,λ_=>.val _⟩;have:i < (kA m z).length:=by rw [fQ];exact hi
       simp [List.getD,this]
      |f+1,hp=>simp at hp)
     refine⟨_,_,_,rfl,k1 h0,b,ok,β,hzz,hset,hA1,hA2,hA3,rfl,λi p v hp hv=>?_⟩
     match i,hp,hv with
     |0,hp,hv=>cases hp;cases hv;exact .val _
     |i+1,hp,_=>simp at hp
   |[],hl,_=>simp at hl
   |_::_::_,hl,_=>simp at hl
  ·exact e.elim
 ·exact e.elim
end Go.Ex
namespace Go.Num
def zL (L:List Int) (i:Nat):Int:=L.getD i 0
def cZ (L:List Int) (i:Nat):List PV:=[.val (.int .i64 (zL L i))]
theorem F9 {L:List Int} {x:Int} {r:Nat->List PV} (h:r 0=[.val (.int .i64 x)]):∀i,i < L.length+1->cZ (L++[x]) i=gH L.length (cZ L) r i:=λi hi=>by
 unfold gH cZ zL;by_cases hl:i < L.length
 ·rw [if_pos hl,List.getD_eq_getElem?_getD,List.getElem?_append_left hl,List.getD_eq_getElem?_getD]
 ·obtain rfl:i=L.length:=by omega
  rw [if_neg hl,Nat.sub_self,h];simp
def eH (z:Int) (q:Nat->Int×Int):Nat->List Int
 |0=>[]
 |j+1=>eH z q j++(bif z==(q j).1 then [(q j).2] else bif z==(q j).2 then [(q j).1] else [])
theorem pF (z:Int) (q:Nat->Int×Int):∀j,(eH z q j).length<=j
 |0=>Nat.le_refl _
 |j+1=>by
  have:=pF z q j;rw [eH,List.length_append];have h:(bif z==(q j).1 then [(q j).2] else bif z==(q j).2 then [(q j).1] else []).length<=1:=by
   cases z==(q j).1
   ·cases z==(q j).2
    ·exact Nat.zero_le _
    ·exact Nat.le_refl _
   ·exact Nat.le_refl _
  omega
theorem Ga {z:Int} {q:Nat->Int×Int} {j:Nat} (h:(z==(q j).1)=true):eH z q (j+1)=eH z q j++[(q j).2]:=by rw [eH,h];rfl
theorem Gb {z:Int} {q:Nat->Int×Int} {j:Nat} (h:(z==(q j).1)=false) (h2:(z==(q j).2)=true):eH z q (j+1)=eH z q j++[(q j).1]:=by rw [eH,h,h2];rfl
theorem Gc {z:Int} {q:Nat->Int×Int} {j:Nat} (h:(z==(q j).1)=false) (h2:(z==(q j).2)=false):eH z q (j+1)=eH z q j:=by rw [eH,h,h2];exact List.append_nil _
def xp (z:Int) (q:Nat->Int×Int) (m:Nat):List Int:=kA (eH z q m).length (zL (eH z q m))
def pG (ok:Bool) (n:Nat) (z:Int):Int:=bif ok then bif jR n z then 0 else 2 else 1
def nc (n:Nat) (p:Nat->PtS) (m:Nat) (q:Nat->Int×Int) (z:Int):List Int:=bif bG n p m q&&jR n z then xp z q m else []
theorem pH {n:Nat} {p:Nat->PtS} {m:Nat} {q:Nat->Int×Int} {z:Int} (h:bG n p m q=true) (h2:jR n z=true):nc n p m q z=xp z q m:=by rw [nc,h,h2];rfl
end Go.Num
namespace Go.Proofs
def H7:List PV->Option Ans
 |[.agg [.rs 6 n g,.rs 2 m h],.val (.int .i64 z)]=>some ⟨some (isPL 4294967296 n g/\kv m h),.tup [.rs 1 (nc n (ab g) m (eE h) z).length (λi=>cZ (nc n (ab g) m (eE h) z) i),.val (.int .i64 (pG (bG n (ab g) m (eE h)) n z))],[]⟩
 |_=>none
def D39:Opt:={  }
theorem H8:am D39.toOrd Tryz.f39 2=true:=by kernel_rfl
theorem f39:FnOk Tryz.prog 39 H7:=by
 refine FnOk.ofW aj (an (l:=[(68,GN),(77,Ht)]) (own:=[]) (inl:=[(81,H5)]) (by simp [f68,f77]) (by simp [Ju])) Tryz.func39 D39 2 H8 λargs r e=>?_;unfold H7 at e;split at e
 ·rename_i n g m h z
  cases e;refine⟨by simp,λhm=>?_⟩;obtain⟨hg,hq⟩:=hm _ rfl;clear hm;have hqm:=hq.2;refine⟨[],aa [(0,.agg [.rs 6 n g,.rs 2 m (λi=>aD (eE h i))]),(1,.val (.int .i64 z))] [] 0 [],Wo trivial ⟨⟨qW,⟨rfl,rfl,λi hi=>(hq.1 i hi).symm⟩,qQ⟩,rfl,qQ⟩ trivial,?_⟩;generalize hqq:eE h=q at *
  have hql:kv m (λi=>aD (q i)):=⟨λ_ _=>rfl,hqm⟩;obtain⟨NB,hNB⟩:∃L,L=nc n (ab g) m q z:=⟨_,rfl⟩;obtain⟨ER,hER⟩:∃e,e=pG (bG n (ab g) m q) n z:=⟨_,rfl⟩;rw [<-hNB,<-hER];have f1:(!bG n (ab g) m (eE λi=>aD (q i)))=true->NB.length=0/\PV.val (.int .i64 1)=PV.val (.int .i64 ER):=λh=>by
   have h:(!bG n (ab g) m q)=true:=h;rw [Bool.not_eq_true'] at h;rw [hNB,hER,nc,pG,h];exact⟨rfl,rfl⟩
  have f2:(!bG n (ab g) m (eE λi=>aD (q i)))=false->bG n (ab g) m q=true:=λh=>by
   have h:(!bG n (ab g) m q)=false:=h;simpa using h
  have f3:bG n (ab g) m q=true->(!(decide (0<=z)&&decide (z < (n:Int))))=true->NB.length=0/\PV.val (.int .i64 2)=PV.val (.int .i64 ER):=λh h'=>by
   have h':jR n z=false:=by
    have h':(!jR n z)=true:=h';simpa using h'
   rw [hNB,hER,nc,pG,h,h'];exact⟨rfl,rfl⟩
  have f4:(!(decide (0<=z)&&decide (z < (n:Int))))=false->jR n z=true:=λh=>by
   have h:(!jR n z)=false:=h;simpa using h
  with_unfolding_all refine⟨⟨hg,hql⟩,λh1=>⟨[],aa [(4,.rs 1 NB.length (λi=>cZ NB i)),(5,.val (.int .i64 ER))] [] 0 [],Wo trivial ⟨⟨rfl,(f1 h1).1⟩,(f1 h1).2,qQ⟩ trivial,rfl,rfl⟩,λh1=>⟨hg.2,λh2=>⟨[],aa [(4,.rs 1 NB.length (λi=>cZ NB i)),(5,.val (.int .i64 ER))] [] 0 [],Wo trivial ⟨⟨rfl,(f3 (f2 h1) h2).1⟩,(f3 (f2 h1) h2).2,qQ⟩ trivial,rfl,rfl⟩,λh2=>⟨Nat,λi=>(bG n (ab g) m q=true/\jR n z=true)/\i<=m,λi=>aa [(1,.val (.int .i64 z)),(2,.ptr 0 0 0 0),(6,.sl 1 1 0 (eH z q i).length),(17,.rs 2 m (λi=>aD (q i))),(18,.val (goInt m)),(19,.val (goInt i))] [⟨37,2,0,true,false,1,λ_=>[.rs 6 n g,.rs 2 m (λi=>aD (q i))]⟩,⟨3,1,1,false,false,(eH z q i).length,λj=>cZ (eH z q i) j⟩] 2 [],λi=>m - i,⟨0,[some 0,none],⟨⟨f2 h1,f4 h2⟩,Nat.zero_le _⟩,Wo ⟨qZ ⟨⟨qW,rfl⟩,⟨qW,rfl⟩,qQ⟩,⟨aP rfl,rfl,rfl,rfl⟩,qQ⟩ ⟨rfl,pP,⟨rfl,rfl,rfl,rfl,aP rfl⟩,qW,rfl,rfl,qQ⟩ trivial⟩,λi hi=>?_⟩⟩⟩
  obtain⟨⟨hk1,hk2⟩,him⟩:(bG n (ab g) m q=true/\jR n z=true)/\i<=m:=hi;with_unfolding_all refine⟨λh1=>?_,λh1=>?_⟩
  ·have h1:(i:Int) < m:=bL h1;have ei:(i:Int).toNat=i:=Int.toNat_natCast i;have him:i+1<=m:=by omega
   have hμ : m - (i+1) < m - i:=by omega
   have hok:=hk1;unfold bG at hok;rw [Bool.and_eq_true,Bool.and_eq_true] at hok;have hn1:n<=1000:=of_decide_eq_true hok.1.1;have hmm:=mJ hok.2;have hnn:n*n<=1000*1000:=Nat.mul_le_mul hn1 hn1;have hnl:=pF z q i;have wi:PV.val (.int .i64 (IntKind.i64.wrap ((i:Int)+1)))=PV.val (.int .i64 ((i+1:Nat):Int)):=by
    rw [wrap64 (by omega) (by omega)];rfl
   have k1:((eH z q i).length+1)*8<=140737488355328:=by omega
   have k2:(eH z q i).length+1<=9223372036854775807:=by omega
   have lA:∀x,eH z q (i+1)=eH z q i++[x]->(eH z q (i+1)).length=(eH z q i).length+1:=λx h=>by
    rw [h,List.length_append];rfl
   have rA:∀x,eH z q (i+1)=eH z q i++[x]->∀r:Nat->List PV,r 0=[.val (.int .i64 x)]->∀j,j < (eH z q i).length+1->cZ (eH z q (i+1)) j=gH (eH z q i).length (λj=>cZ (eH z q i) j) r j:=λx h r hr=>by
    rw [h];exact F9 hr
   have eA:(z==(q (i:Int).toNat).1)=true->eH z q (i+1)=eH z q i++[(q (i:Int).toNat).2]:=λh=>by
    rw [ei] at h ⊢;exact Ga h
   have eB:(z==(q (i:Int).toNat).1)=false->(z==(q (i:Int).toNat).2)=true->eH z q (i+1)=eH z q i++[(q (i:Int).toNat).1]:=λh h'=>by
    rw [ei] at h h' ⊢;exact Gb h h'
   have eN:(z==(q (i:Int).toNat).1)=false->(z==(q (i:Int).toNat).2)=false->eH z q (i+1)=eH z q i:=λh h'=>by
    rw [ei] at h h';exact Gc h h'
   have rN:eH z q (i+1)=eH z q i->∀j,j < (eH z q i).length->cZ (eH z q (i+1)) j=cZ (eH z q i) j:=λh j _=>by rw [h]
   with_unfolding_all exact⟨⟨Int.natCast_nonneg i,h1⟩,λh2=>⟨⟨rfl,k1,k2⟩,⟨i+1,[some 0,some 1],⟨⟨hk1,hk2⟩,him⟩,hμ,Wo ⟨qZ ⟨⟨qW,rfl⟩,⟨qW,rfl⟩,qQ⟩,⟨aP rfl,rfl,rfl,rfl,rfl,(lA _ (eA h2)),rA _ (eA h2) _ rfl⟩,qQ⟩ ⟨rfl,pP,⟨rfl,rfl,(lA _ (eA h2)).symm,aP rfl,_,rfl⟩,qW,rfl,wi,qQ⟩ trivial⟩⟩,λh2=>⟨λh3=>⟨⟨rfl,k1,k2⟩,⟨i+1,[some 0,some 1],⟨⟨hk1,hk2⟩,him⟩,hμ,Wo ⟨qZ ⟨⟨qW,rfl⟩,⟨qW,rfl⟩,qQ⟩,⟨aP rfl,rfl,rfl,rfl,rfl,(lA _ (eB h2 h3)),rA _ (eB h2 h3) _ rfl⟩,qQ⟩ ⟨rfl,pP,⟨rfl,rfl,(lA _ (eB h2 h3)).symm,aP rfl,_,rfl⟩,qW,rfl,wi,qQ⟩ trivial⟩⟩,λh3=>⟨i+1,[some 0,some 1],⟨⟨hk1,hk2⟩,him⟩,hμ,Wo ⟨qZ ⟨⟨qW,rfl⟩,⟨qW,rfl⟩,qQ⟩,⟨aP rfl,rfl,rfl,rfl,rfl,(congrArg List.length (eN h2 h3)),rN (eN h2 h3)⟩,qQ⟩ ⟨rfl,pP,⟨rfl,rfl,(congrArg List.length (eN h2 h3)).symm,aP rfl,_,rfl⟩,qW,rfl,wi,qQ⟩ trivial⟩⟩⟩
  ·have h1:(m:Int)<=i:=dI h1;have h3:NB=kA (eH z q i).length (zL (eH z q i)):=by
    rw [hNB,pH hk1 hk2,xp,show i=m by omega]
   have hl:(eH z q i).length=NB.length:=by rw [h3,fQ]
   have v2:PV.val (.int .i64 0)=PV.val (.int .i64 ER):=by
    rw [hER,pG,hk1,hk2];rfl
   have hok:=hk1;unfold bG at hok;rw [Bool.and_eq_true,Bool.and_eq_true] at hok;have hn1:n<=1000:=of_decide_eq_true hok.1.1;have hmm:=mJ hok.2;have hnn:n*n<=1000*1000:=Nat.mul_le_mul hn1 hn1;have hnl:=pF z q i;have hle:(eH z q i).length<=1000000:=by omega
   have v0:(eH z q i).length=0->∀j,j < NB.length->cZ NB j=cZ (eH z q i) (0+j):=λh j hj=>by omega
   have v1:∀j,j < NB.length->cZ NB j=cZ (kA (eH z q i).length (zL (eH z q i))) (0+j):=λj _=>by rw [h3,Nat.zero_add]
   with_unfolding_all exact⟨⟨rfl,rfl,rfl,hle⟩,zL (eH z q i),λ_ _=>rfl,λh0=>⟨[],aa [(4,.rs 1 NB.length (λi=>cZ NB i)),(5,.val (.int .i64 ER))] [] 0 [],Wo trivial ⟨⟨by simp,_,rfl,rfl,rfl,hl,v0 h0⟩,v2,qQ⟩ trivial,rfl,rfl⟩,λ_=>⟨[],aa [(4,.rs 1 NB.length (λi=>cZ NB i)),(5,.val (.int .i64 ER))] [] 0 [],Wo trivial ⟨⟨by simp,_,rfl,rfl,rfl,hl,v1⟩,v2,qQ⟩ trivial,rfl,rfl⟩⟩
 ·cases e
end Go.Proofs
namespace Go.Num
end Go.Num
namespace Go.Proofs
end Go.Proofs
namespace Go.Num
def Jv:List PV->Int
 |[.val (.int .i64 x)]=>x
 |_=>0
def zz (g:Nat->List PV) (i:Nat):Int:=Jv (g i)
def rR (x:Int):List PV:=[.val (.int .i64 x)]
def yM (n:Nat) (g:Nat->List PV):Prop:=(∀i,i < n->g i=rR (zz g i))/\n<=140737488355328
end Go.Num
namespace Go.Proofs
end Go.Proofs
namespace Go.Num
def tZ (q:Nat->Int) (n:Nat):Bool:=!aA (λt=>decide (q (t+1) < q t)) (n - 1)
end Go.Num
namespace Go.Proofs
def H9:List PV->Option Ans
 |[.rs 1 m h,.val (.int .i64 a)]=>some ⟨some (yM m h),.val (.int .i64 (cW (λi=>(a==zz h i)) m 0)),[]⟩
 |_=>none
theorem Ia:am {} Tryz.f84 2=true:=by kernel_rfl
theorem f84:FnOk Tryz.prog 84 H9:=by
 refine FnOk.ofW aj (an (l:=[]) (own:=[]) (inl:=[]) (by simp) (by simp)) Tryz.func84 {} 2 Ia λargs r e=>?_;unfold H9 at e;split at e
 ·rename_i n h a
  cases e;refine⟨by simp,λhm=>?_⟩;obtain⟨hq,hn⟩:=hm _ rfl;refine⟨[],aa [(0,.rs 1 n (λi=>rR (zz h i))),(1,.val (.int .i64 a))] [] 0 [],Wo trivial ⟨⟨rfl,rfl,λi hi=>(hq i hi).symm⟩,rfl,qQ⟩ trivial,?_⟩;generalize zz h=q at *
  obtain⟨X,hX⟩:∃X,X=cW (λi=>(a==q i)) n 0:=⟨_,rfl⟩;rw [<-hX];with_unfolding_all refine⟨Nat,λi=>i<=n/\cW (λi=>(a==q i)) (n - i) i=X,λi=>aa [(0,.rs 1 n (λi=>rR (q i))),(1,.val (.int .i64 a)),(7,.val (goInt n)),(8,.val (goInt i))] [] 0 [],λi=>n - i,⟨0,[],⟨Nat.zero_le _,hX.symm⟩,Wo trivial ⟨qW,rfl,rfl,rfl,qQ⟩ trivial⟩,λi hi=>?_⟩
  obtain⟨hin,hI⟩:i<=n/\cW (λi=>(a==q i)) (n - i) i=X:=hi;with_unfolding_all refine⟨λh=>?_,λh=>⟨[],aa [(4,.val (.int .i64 X))] [] 0 [],Wo trivial ⟨?_,qQ⟩ trivial,rfl,rfl⟩⟩
  ·have h:(i:Int) < n:=bL h;have e:(i:Int).toNat=i:=Int.toNat_natCast i;have hstep:cW (λi=>(a==q i)) (n - i) i=bif (a==q i) then(i:Int) else cW (λi=>(a==q i)) (n - (i+1)) (i+1):=by
    rw [show n - i=(n - (i+1))+1 by omega];rfl
   with_unfolding_all refine⟨⟨by omega,by omega⟩,λh'=>⟨[],aa [(4,.val (.int .i64 X))] [] 0 [],Wo trivial ⟨?_,qQ⟩ trivial,rfl,rfl⟩,λh'=>⟨i+1,[],⟨by omega,?_⟩,by show n - (i+1) < n - i;omega,Wo trivial ⟨qW,rfl,rfl,?_,qQ⟩ trivial⟩⟩
   ·have h':(a==q (i:Int).toNat)=true:=h';rw [e] at h';rw [h',cond_true] at hstep;exact congrArg (λz=>PV.val (.int .i64 z)) (hstep.symm.trans hI)
   ·have h':(a==q (i:Int).toNat)=false:=h';rw [e] at h';rw [h',cond_false] at hstep;exact hstep.symm.trans hI
   ·show PV.val (.int .i64 (IntKind.i64.wrap ((i:Int)+1)))=PV.val (.int .i64 ((i+1:Nat):Int));rw [wrap64 (by omega) (by omega)];rfl
  ·have h:(n:Int)<=i:=dI h;rw [show n - i=0 by omega] at hI;exact congrArg (λz=>PV.val (.int .i64 z)) hI
 ·cases e
def Ib:List PV->Option Ans
 |[.rs 1 m h,.val (.int .i64 a)]=>some ⟨some (yM m h),.val (.bool (aA (λi=>(a==zz h i)) m)),[]⟩
 |_=>none
theorem Ic:am {} Tryz.f48 2=true:=by kernel_rfl
theorem f48:FnOk Tryz.prog 48 Ib:=by
 refine FnOk.ofW aj (an (l:=[(84,H9)]) (own:=[]) (inl:=[]) (by simp [f84]) (by simp)) Tryz.func48 {} 2 Ic λargs r e=>?_;unfold Ib at e;split at e
 ·rename_i n h a
  cases e;refine⟨by simp,λhm=>?_⟩;have hq:=hm _ rfl;refine⟨[],aa [(0,.rs 1 n h),(1,.val (.int .i64 a))] [] 0 [],Wo trivial ⟨⟨rfl,rfl,λi hi=>rfl⟩,rfl,qQ⟩ trivial,?_⟩;with_unfolding_all refine⟨hq,[],aa [(4,.val (.bool (aA (λi=>(a==zz h i)) n)))] [] 0 [],Wo trivial ⟨?_,qQ⟩ trivial,rfl,rfl⟩
  exact congrArg (λz=>PV.val (.bool z)) (dZ _ _)
 ·cases e
def C9:List PV->Option Ans
 |[.val (.int .i64 _)]=>some ⟨none,.val (.bool false),[]⟩
 |_=>none
theorem Gd:am {} Tryz.f123 1=true:=by kernel_rfl
theorem f123:FnOk Tryz.prog 123 C9:=by
 refine FnOk.ofW aj (an (l:=[]) (own:=[]) (inl:=[]) (by simp) (by simp)) Tryz.func123 {} 1 Gd λargs r e=>?_;unfold C9 at e;split at e
 ·rename_i a
  cases e;refine⟨by simp,λhm=>?_⟩;refine⟨[],aa [(0,.val (.int .i64 a))] [] 0 [],Wo trivial ⟨rfl,qQ⟩ trivial,?_⟩;have h:PV.val (.bool false)=PV.val (.bool (!(a==a))):=by rw [beq_self_eq_true];rfl
  with_unfolding_all exact⟨[],aa [(2,.val (.bool false))] [] 0 [],Wo trivial ⟨h.symm,qQ⟩ trivial,rfl,rfl⟩
 ·cases e
def Ie:List PV->Option Ans
 |[.val (.int .i64 a),.val (.int .i64 b)]=>some ⟨none,.val (.bool (decide (a < b))),[]⟩
 |_=>none
theorem If:am {} Tryz.f85 2=true:=by kernel_rfl
theorem f85:FnOk Tryz.prog 85 Ie:=by
 refine FnOk.ofW aj (an (l:=[(123,C9)]) (own:=[]) (inl:=[]) (by simp [f123]) (by simp)) Tryz.func85 {} 2 If λargs r e=>?_;unfold Ie at e;split at e
 ·rename_i a b
  cases e;refine⟨by simp,λhm=>?_⟩;refine⟨[],aa [(0,.val (.int .i64 a)),(1,.val (.int .i64 b))] [] 0 [],Wo trivial ⟨rfl,rfl,qQ⟩ trivial,?_⟩;with_unfolding_all exact⟨λh=>(nomatch h),λ_=>⟨λ_=>⟨[],aa [(4,.val (.bool (decide (a < b))))] [] 0 [],Wo trivial ⟨rfl,qQ⟩ trivial,rfl,rfl⟩,λh=>(nomatch h)⟩⟩
 ·cases e
def Ig:List PV->Option Ans
 |[.rs 1 n g]=>some ⟨some (yM n g),.val (.bool (tZ (zz g) n)),[]⟩
 |_=>none
theorem Ih:am {} Tryz.f49 1=true:=by kernel_rfl
theorem f49:FnOk Tryz.prog 49 Ig:=by
 refine FnOk.ofW aj (an (l:=[(85,Ie)]) (own:=[]) (inl:=[]) (by simp [f85]) (by simp)) Tryz.func49 {} 1 Ih λargs r e=>?_;unfold Ig at e;split at e
 ·rename_i n g
  cases e;refine⟨by simp,λhm=>?_⟩;obtain⟨hq,hn⟩:=hm _ rfl;refine⟨[],aa [(0,.rs 1 n (λi=>rR (zz g i)))] [] 0 [],Wo trivial ⟨⟨rfl,rfl,λi hi=>(hq i hi).symm⟩,qQ⟩ trivial,?_⟩;generalize zz g=q at *
  obtain⟨X,hX⟩:∃X,X=tZ q n:=⟨_,rfl⟩;rw [<-hX];have w0:PV.val (.int .i64 (IntKind.i64.wrap ((n:Int) - 1)))=PV.val (goInt ((n:Int) - 1 - (0:Nat))):=by
   rw [wrap64 (by omega) (by omega)];exact congrArg (λz=>PV.val (.int .i64 z)) (by omega)
  with_unfolding_all refine⟨Nat,λd=>d<=n/\∀t,t+1 < n->n<=t+1+d->decide (q (t+1) < q t)=false,λd=>aa [(0,.rs 1 n (λi=>rR (q i))),(3,.val (goInt ((n:Int) - 1 - d)))] [] 0 [],λd=>n - d,⟨0,[],⟨Nat.zero_le _,λt h1 h2=>by omega⟩,Wo trivial ⟨qW,w0,qQ⟩ trivial⟩,λd hd=>?_⟩
  obtain⟨hd1,hd2⟩:d<=n/\∀t,t+1 < n->n<=t+1+d->decide (q (t+1) < q t)=false:=hd;with_unfolding_all refine⟨λh1=>?_,λh1=>?_⟩
  ·have h1:(n:Int) - 1 - d > 0:=of_decide_eq_true h1;have w1:IntKind.i64.wrap ((n:Int) - 1 - d - 1)=(n:Int) - 1 - (d+1:Nat):=by
    rw [wrap64 (by omega) (by omega)];omega
   have e1:((n:Int) - 1 - d).toNat=n - 2 - d+1:=by omega
   have e2:(IntKind.i64.wrap ((n:Int) - 1 - d - 1)).toNat=n - 2 - d:=by rw [w1];omega
   have v:decide (q ((n:Int) - 1 - d).toNat < q (IntKind.i64.wrap ((n:Int) - 1 - d - 1)).toNat)=true->PV.val (.bool false)=PV.val (.bool X):=λh=>by
    rw [e1,e2] at h;rw [hX,tZ,bc.2 ⟨n - 2 - d,by omega,h⟩];rfl
   have u:decide (q ((n:Int) - 1 - d).toNat < q (IntKind.i64.wrap ((n:Int) - 1 - d - 1)).toNat)=false->∀t,t+1 < n->n<=t+1+(d+1)->decide (q (t+1) < q t)=false:=λh t h3 h4=>by
    rw [e1,e2] at h;by_cases e:t=n - 2 - d
    ·rw [e];exact h
    ·exact hd2 t h3 (by omega)
   have hd3:d+1<=n:=by omega
   have hμ : n - (d+1) < n - d:=by omega
   have wd:PV.val (.int .i64 (IntKind.i64.wrap ((n:Int) - 1 - d - 1)))=PV.val (goInt ((n:Int) - 1 - (d+1:Nat))):=by rw [w1];rfl
   with_unfolding_all exact⟨⟨by omega,by omega⟩,⟨by rw [w1];omega,by rw [w1];omega⟩,λh2=>⟨[],aa [(2,.val (.bool X))] [] 0 [],Wo trivial ⟨v h2,qQ⟩ trivial,rfl,rfl⟩,λh2=>⟨d+1,[],⟨hd3,u h2⟩,hμ,Wo trivial ⟨qW,wd,qQ⟩ trivial⟩⟩
  ·have h1:¬(n:Int) - 1 - d > 0:=of_decide_eq_false h1;have v:PV.val (.bool true)=PV.val (.bool X):=by
    rw [hX,tZ,aF.2 λt ht=>hd2 t (by omega) (by omega)];rfl
   with_unfolding_all exact⟨[],aa [(2,.val (.bool X))] [] 0 [],Wo trivial ⟨v,qQ⟩ trivial,rfl,rfl⟩
 ·cases e
end Go.Proofs
namespace Go.Num
theorem nY {v:Value} (h:ce v=true):(cI v).natAbs < 16777216/\0 < bO v/\bO v < 16777216:=by
 unfold ce at h;split at h
 ·rename_i s b c
  rw [Bool.and_eq_true] at h;refine⟨?_,bT _,o5 (f8 (of_decide_eq_true h.2))⟩;show(az s (bv b)).natAbs < 16777216;rw [aI];exact f8 (of_decide_eq_true h.1)
 ·cases h
theorem isRk.mono {k n:Nat} {v:Value} (h:isRk k v) (hk:k<=n):isRk n v:=by
 obtain⟨s,b,c,rfl,hb,hc⟩:=h;exact⟨s,b,c,rfl,Nat.le_trans hb hk,Nat.le_trans hc hk⟩
theorem AI {x y:Int} {k l:Nat} (h1:x.natAbs < 256^k) (h2:y.natAbs < 256^l):(x*y).natAbs < 256^(k+l):=by
 rw [Int.natAbs_mul,Nat.pow_add];exact Nat.mul_lt_mul'' h1 h2
theorem rU {x y:Int} {k l K:Nat} (h1:x.natAbs < 256^k) (h2:y.natAbs < 256^l) (hK:k+l<=K):c9 K (ay (aJ (ay x)*aJ (ay y))):=by
 rw [av,av];exact bA (AI h1 h2) hK
theorem Bs {x y:Int} {k l:Nat} (h1:x.natAbs < 256^k) (h2:y.natAbs < 256^l) (hK:k+l<=34359738368):eG (ay (aJ (ay x)*aJ (ay y))):=by
 rw [av,av];exact cU (AI h1 h2) hK
theorem iP {n k:Nat} (h:n < 256^k):((n:Nat):Int).natAbs < 256^k:=by simpa using h
theorem isRk.b {k:Nat} {v:Value} (h:isRk k v):(cI v).natAbs < 256^k/\0 < bO v/\bO v < 256^(k+1):=by
 obtain⟨s,b,c,rfl,hb,hc⟩:=h;have h1:=bK b;have h2:=bK c;have h3:256^b.size<=256^k:=Nat.pow_le_pow_right (by decide) hb;have h4:256^c.size<=256^k:=Nat.pow_le_pow_right (by decide) hc;have h5:=Nat.pow_pos (n:=k) (show 0 < 256 by decide);refine⟨?_,bT _,?_⟩
 ·show(az s (bv b)).natAbs < 256^k;rw [aI];omega
 ·show bq (bv c) < 256^(k+1);rw [Nat.pow_succ];unfold bq;split<;>omega
theorem kB (v:Value):aE v=mkRat (cI v) (bO v):=rfl
end Go.Num
namespace Go.Proofs
def rV:List PV->Option Ans
 |[.val v,.val u]=>some ⟨some (isRk 1073741824 v/\isRk 1073741824 u),.val (goInt (ao (aE v) (aE u))),[]⟩
 |_=>none
def D135:Opt:={ perm:=jm 11 [(0,true),(1,true),(3,true),(4,true),(2,false),(5,false),(6,false)] }
theorem Ge:am D135.toOrd Tryz.f135 2=true:=by kernel_rfl
theorem f135:FnOk Tryz.prog 135 rV:=by
 refine FnOk.ofW aj (an (l:=[(180,wV),(182,tP),(185,Cy),(186,yC)]) (own:=[]) (inl:=[]) (by simp [f180,f182,f185,f186]) (by simp)) Tryz.func135 D135 2 Ge λargs r e=>?_;unfold rV at e;split at e
 ·rename_i v u
  cases e;refine⟨by simp,λhm=>?_⟩;obtain⟨hv,hu⟩:=hm _ rfl;have r1:=hv.R (by decide);have r2:=hu.R (by decide);have p1:isRk 17179869184 v:=hv.mono (by decide);have p2:isRk 17179869184 u:=hu.mono (by decide);have b1:=hv.b;have b2:=hu.b;obtain⟨s,b,c,rfl,hb,hc⟩:=hv;obtain⟨s',b',c',rfl,hb',hc'⟩:=hu;refine⟨[],aa [(0,.val (.agg ⟨[.bool s,.string b,.string c]⟩)),(1,.val (.agg ⟨[.bool s',.string b',.string c']⟩))] [] 0 [],Wo trivial ⟨rfl,rfl,qQ⟩ trivial,?_⟩;obtain⟨K,hK⟩:∃K,K=1073741824:=⟨_,rfl⟩;rw [<-hK] at b1 b2;obtain⟨b3,b4,b5⟩:=b1;obtain⟨b6,b7,b8⟩:=b2;have iN:c9 17179869184 (ay (cI (.agg ⟨[.bool s,.string b,.string c]⟩))):=bA b3 (by omega);have iD:c9 17179869184 (ay ((bO (.agg ⟨[.bool s,.string b,.string c]⟩):Nat):Int)):=bA (iP b5) (by omega);have iM:c9 17179869184 (ay (cI (.agg ⟨[.bool s',.string b',.string c']⟩))):=bA b6 (by omega);have iE:c9 17179869184 (ay ((bO (.agg ⟨[.bool s',.string b',.string c']⟩):Nat):Int)):=bA (iP b8) (by omega);have sm:ce (.agg ⟨[.bool s,.string b,.string c]⟩)=true->ce (.agg ⟨[.bool s',.string b',.string c']⟩)=true->((cI (.agg ⟨[.bool s,.string b,.string c]⟩)).natAbs < 16777216/\(((bO (.agg ⟨[.bool s,.string b,.string c]⟩):Nat):Int)).natAbs < 16777216)/\(cI (.agg ⟨[.bool s',.string b',.string c']⟩)).natAbs < 16777216/\(((bO (.agg ⟨[.bool s',.string b',.string c']⟩):Nat):Int)).natAbs < 16777216:=λh h'=>by
   have k1:=nY h;have k2:=nY h';exact⟨⟨k1.1,by simpa using k1.2.2⟩,k2.1,by simpa using k2.2.2⟩
  obtain⟨Q,hQ⟩:∃Q,Q=ao (aE (.agg ⟨[.bool s,.string b,.string c]⟩)) (aE (.agg ⟨[.bool s',.string b',.string c']⟩)):=⟨_,rfl⟩;have hQ2:Q=bI (cI (.agg ⟨[.bool s,.string b,.string c]⟩)*((bO (.agg ⟨[.bool s',.string b',.string c']⟩):Nat):Int)) (cI (.agg ⟨[.bool s',.string b',.string c']⟩)*((bO (.agg ⟨[.bool s,.string b,.string c]⟩):Nat):Int)):=by rw [hQ,kB,kB,tM _ _ (by omega) (by omega)]
  rw [<-hQ];have ws:ce (.agg ⟨[.bool s,.string b,.string c]⟩)=true->ce (.agg ⟨[.bool s',.string b',.string c']⟩)=true->IntKind.i64.wrap ((bif ce (.agg ⟨[.bool s,.string b,.string c]⟩) then cI (.agg ⟨[.bool s,.string b,.string c]⟩) else 0)*(bif ce (.agg ⟨[.bool s',.string b',.string c']⟩) then((bO (.agg ⟨[.bool s',.string b',.string c']⟩):Nat):Int) else 0))=cI (.agg ⟨[.bool s,.string b,.string c]⟩)*((bO (.agg ⟨[.bool s',.string b',.string c']⟩):Nat):Int)/\IntKind.i64.wrap ((bif ce (.agg ⟨[.bool s',.string b',.string c']⟩) then cI (.agg ⟨[.bool s',.string b',.string c']⟩) else 0)*(bif ce (.agg ⟨[.bool s,.string b,.string c]⟩) then((bO (.agg ⟨[.bool s,.string b,.string c]⟩):Nat):Int) else 0))=cI (.agg ⟨[.bool s',.string b',.string c']⟩)*((bO (.agg ⟨[.bool s,.string b,.string c]⟩):Nat):Int):=λh h'=>by
   have k:=sm h h';rw [h,h',cond_true,cond_true,cond_true,cond_true,jP k.1.1 k.2.2,jP k.2.1 k.1.2];exact⟨rfl,rfl⟩
  have v1:ce (.agg ⟨[.bool s,.string b,.string c]⟩)=true->ce (.agg ⟨[.bool s',.string b',.string c']⟩)=true->decide (IntKind.i64.wrap ((bif ce (.agg ⟨[.bool s,.string b,.string c]⟩) then cI (.agg ⟨[.bool s,.string b,.string c]⟩) else 0)*(bif ce (.agg ⟨[.bool s',.string b',.string c']⟩) then((bO (.agg ⟨[.bool s',.string b',.string c']⟩):Nat):Int) else 0)) < IntKind.i64.wrap ((bif ce (.agg ⟨[.bool s',.string b',.string c']⟩) then cI (.agg ⟨[.bool s',.string b',.string c']⟩) else 0)*(bif ce (.agg ⟨[.bool s,.string b,.string c]⟩) then((bO (.agg ⟨[.bool s,.string b,.string c]⟩):Nat):Int) else 0)))=true->PV.val (.int .i64 (-1))=PV.val (goInt Q):=λh h' k=>by
   rw [(ws h h').1,(ws h h').2] at k;rw [hQ2,bI,if_pos (of_decide_eq_true k)];rfl
  have v2:ce (.agg ⟨[.bool s,.string b,.string c]⟩)=true->ce (.agg ⟨[.bool s',.string b',.string c']⟩)=true->decide (IntKind.i64.wrap ((bif ce (.agg ⟨[.bool s,.string b,.string c]⟩) then cI (.agg ⟨[.bool s,.string b,.string c]⟩) else 0)*(bif ce (.agg ⟨[.bool s',.string b',.string c']⟩) then((bO (.agg ⟨[.bool s',.string b',.string c']⟩):Nat):Int) else 0)) < IntKind.i64.wrap ((bif ce (.agg ⟨[.bool s',.string b',.string c']⟩) then cI (.agg ⟨[.bool s',.string b',.string c']⟩) else 0)*(bif ce (.agg ⟨[.bool s,.string b,.string c]⟩) then((bO (.agg ⟨[.bool s,.string b,.string c]⟩):Nat):Int) else 0)))=false->decide (IntKind.i64.wrap ((bif ce (.agg ⟨[.bool s,.string b,.string c]⟩) then cI (.agg ⟨[.bool s,.string b,.string c]⟩) else 0)*(bif ce (.agg ⟨[.bool s',.string b',.string c']⟩) then((bO (.agg ⟨[.bool s',.string b',.string c']⟩):Nat):Int) else 0)) > IntKind.i64.wrap ((bif ce (.agg ⟨[.bool s',.string b',.string c']⟩) then cI (.agg ⟨[.bool s',.string b',.string c']⟩) else 0)*(bif ce (.agg ⟨[.bool s,.string b,.string c]⟩) then((bO (.agg ⟨[.bool s,.string b,.string c]⟩):Nat):Int) else 0)))=true->PV.val (.int .i64 1)=PV.val (goInt Q):=λh h' k l=>by
   rw [(ws h h').1,(ws h h').2] at k l;rw [hQ2,bI,if_neg (of_decide_eq_false k),if_pos (of_decide_eq_true l)];rfl
  have v3:ce (.agg ⟨[.bool s,.string b,.string c]⟩)=true->ce (.agg ⟨[.bool s',.string b',.string c']⟩)=true->decide (IntKind.i64.wrap ((bif ce (.agg ⟨[.bool s,.string b,.string c]⟩) then cI (.agg ⟨[.bool s,.string b,.string c]⟩) else 0)*(bif ce (.agg ⟨[.bool s',.string b',.string c']⟩) then((bO (.agg ⟨[.bool s',.string b',.string c']⟩):Nat):Int) else 0)) < IntKind.i64.wrap ((bif ce (.agg ⟨[.bool s',.string b',.string c']⟩) then cI (.agg ⟨[.bool s',.string b',.string c']⟩) else 0)*(bif ce (.agg ⟨[.bool s,.string b,.string c]⟩) then((bO (.agg ⟨[.bool s,.string b,.string c]⟩):Nat):Int) else 0)))=false->decide (IntKind.i64.wrap ((bif ce (.agg ⟨[.bool s,.string b,.string c]⟩) then cI (.agg ⟨[.bool s,.string b,.string c]⟩) else 0)*(bif ce (.agg ⟨[.bool s',.string b',.string c']⟩) then((bO (.agg ⟨[.bool s',.string b',.string c']⟩):Nat):Int) else 0)) > IntKind.i64.wrap ((bif ce (.agg ⟨[.bool s',.string b',.string c']⟩) then cI (.agg ⟨[.bool s',.string b',.string c']⟩) else 0)*(bif ce (.agg ⟨[.bool s,.string b,.string c]⟩) then((bO (.agg ⟨[.bool s,.string b,.string c]⟩):Nat):Int) else 0)))=false->PV.val (.int .i64 0)=PV.val (goInt Q):=λh h' k l=>by
   rw [(ws h h').1,(ws h h').2] at k l;rw [hQ2,bI,if_neg (of_decide_eq_false k),if_neg (of_decide_eq_false l)];rfl
  have v4:PV.val (goInt (bI (aJ (ay (aJ (ay (cI (.agg ⟨[.bool s,.string b,.string c]⟩)))*aJ (ay (((bO (.agg ⟨[.bool s',.string b',.string c']⟩):Nat):Int)))))) (aJ (ay (aJ (ay (cI (.agg ⟨[.bool s',.string b',.string c']⟩)))*aJ (ay (((bO (.agg ⟨[.bool s,.string b,.string c]⟩):Nat):Int))))))))=PV.val (goInt Q):=by rw [av,av,av,av,av,av,hQ2]
  have i1:eG (ay (aJ (ay (cI (.agg ⟨[.bool s,.string b,.string c]⟩)))*aJ (ay (((bO (.agg ⟨[.bool s',.string b',.string c']⟩):Nat):Int))))):=Bs b3 (iP b8) (by omega);have i2:eG (ay (aJ (ay (cI (.agg ⟨[.bool s',.string b',.string c']⟩)))*aJ (ay (((bO (.agg ⟨[.bool s,.string b,.string c]⟩):Nat):Int))))):=Bs b6 (iP b5) (by omega);with_unfolding_all exact⟨r1,r2,⟨λh1=>⟨λh2=>⟨λh3=>⟨[],aa [(4,.val (goInt Q))] [] 0 [],Wo trivial ⟨v1 h1 h2 h3,qQ⟩ trivial,rfl,rfl⟩,λh3=>⟨λh4=>⟨[],aa [(4,.val (goInt Q))] [] 0 [],Wo trivial ⟨v2 h1 h2 h3 h4,qQ⟩ trivial,rfl,rfl⟩,λh4=>⟨[],aa [(4,.val (goInt Q))] [] 0 [],Wo trivial ⟨v3 h1 h2 h3 h4,qQ⟩ trivial,rfl,rfl⟩⟩⟩,λh2=>⟨p1,p2,⟨iN,iE⟩,⟨iM,iD⟩,⟨i1,i2⟩,⟨[],aa [(4,.val (goInt Q))] [] 0 [],Wo trivial ⟨v4,qQ⟩ trivial,rfl,rfl⟩⟩⟩,λh1=>⟨λh=>(nomatch h),λ_=>⟨p1,p2,⟨iN,iE⟩,⟨iM,iD⟩,⟨i1,i2⟩,⟨[],aa [(4,.val (goInt Q))] [] 0 [],Wo trivial ⟨v4,qQ⟩ trivial,rfl,rfl⟩⟩⟩⟩⟩
 ·cases e
def AJ:List PV->Option Ans
 |[.val v,.val u]=>some ⟨some (isRk 1073741824 v/\isRk 1073741824 u),.val (aw (aE v*aE u)),[]⟩
 |_=>none
def D222:Opt:={ perm:=jm 7 [(0,true),(1,true),(3,true),(4,true),(2,false),(5,false),(6,false)] }
theorem Gf:am D222.toOrd Tryz.f222 2=true:=by kernel_rfl
theorem f222:FnOk Tryz.prog 222 AJ:=by
 refine FnOk.ofW aj (an (l:=[(180,wV),(181,yD),(182,tP),(183,wW),(186,yC)]) (own:=[]) (inl:=[]) (by simp [f180,f181,f182,f183,f186]) (by simp)) Tryz.func222 D222 2 Gf λargs r e=>?_;unfold AJ at e;split at e
 ·rename_i v u
  cases e;refine⟨by simp,λhm=>?_⟩;obtain⟨hv,hu⟩:=hm _ rfl;have r1:=hv.R (by decide);have r2:=hu.R (by decide);have p1:isRk 17179869184 v:=hv.mono (by decide);have p2:isRk 17179869184 u:=hu.mono (by decide);have b1:=hv.b;have b2:=hu.b;obtain⟨s,b,c,rfl,hb,hc⟩:=hv;obtain⟨s',b',c',rfl,hb',hc'⟩:=hu;refine⟨[],aa [(0,.val (.agg ⟨[.bool s,.string b,.string c]⟩)),(1,.val (.agg ⟨[.bool s',.string b',.string c']⟩))] [] 0 [],Wo trivial ⟨rfl,rfl,qQ⟩ trivial,?_⟩;obtain⟨K,hK⟩:∃K,K=1073741824:=⟨_,rfl⟩;rw [<-hK] at b1 b2;obtain⟨b3,b4,b5⟩:=b1;obtain⟨b6,b7,b8⟩:=b2;have iN:c9 17179869184 (ay (cI (.agg ⟨[.bool s,.string b,.string c]⟩))):=bA b3 (by omega);have iD:c9 17179869184 (ay ((bO (.agg ⟨[.bool s,.string b,.string c]⟩):Nat):Int)):=bA (iP b5) (by omega);have iM:c9 17179869184 (ay (cI (.agg ⟨[.bool s',.string b',.string c']⟩))):=bA b6 (by omega);have iE:c9 17179869184 (ay ((bO (.agg ⟨[.bool s',.string b',.string c']⟩):Nat):Int)):=bA (iP b8) (by omega);have sm:ce (.agg ⟨[.bool s,.string b,.string c]⟩)=true->ce (.agg ⟨[.bool s',.string b',.string c']⟩)=true->((cI (.agg ⟨[.bool s,.string b,.string c]⟩)).natAbs < 16777216/\(((bO (.agg ⟨[.bool s,.string b,.string c]⟩):Nat):Int)).natAbs < 16777216)/\(cI (.agg ⟨[.bool s',.string b',.string c']⟩)).natAbs < 16777216/\(((bO (.agg ⟨[.bool s',.string b',.string c']⟩):Nat):Int)).natAbs < 16777216:=λh h'=>by
   have k1:=nY h;have k2:=nY h';exact⟨⟨k1.1,by simpa using k1.2.2⟩,k2.1,by simpa using k2.2.2⟩
  obtain⟨Q,hQ⟩:∃Q,Q=aE (.agg ⟨[.bool s,.string b,.string c]⟩)*aE (.agg ⟨[.bool s',.string b',.string c']⟩):=⟨_,rfl⟩;rw [<-hQ];have hQ2:Q=mkRat (cI (.agg ⟨[.bool s,.string b,.string c]⟩)*cI (.agg ⟨[.bool s',.string b',.string c']⟩)) (bO (.agg ⟨[.bool s,.string b,.string c]⟩)*bO (.agg ⟨[.bool s',.string b',.string c']⟩)):=by rw [hQ,kB,kB,Rat.mkRat_mul_mkRat]
  have dd:((bO (.agg ⟨[.bool s,.string b,.string c]⟩):Nat):Int)*((bO (.agg ⟨[.bool s',.string b',.string c']⟩):Nat):Int)=((bO (.agg ⟨[.bool s,.string b,.string c]⟩)*bO (.agg ⟨[.bool s',.string b',.string c']⟩):Nat):Int):=by rw [Int.natCast_mul]
  have dpos:0 < bO (.agg ⟨[.bool s,.string b,.string c]⟩)*bO (.agg ⟨[.bool s',.string b',.string c']⟩):=Nat.mul_pos b4 b7;have w:ce (.agg ⟨[.bool s,.string b,.string c]⟩)=true->ce (.agg ⟨[.bool s',.string b',.string c']⟩)=true->((IntKind.i64.wrap ((bif ce (.agg ⟨[.bool s,.string b,.string c]⟩) then cI (.agg ⟨[.bool s,.string b,.string c]⟩) else 0)*(bif ce (.agg ⟨[.bool s',.string b',.string c']⟩) then cI (.agg ⟨[.bool s',.string b',.string c']⟩) else 0))).natAbs < 72057594037927936/\0 < IntKind.i64.wrap ((bif ce (.agg ⟨[.bool s,.string b,.string c]⟩) then((bO (.agg ⟨[.bool s,.string b,.string c]⟩):Nat):Int) else 0)*(bif ce (.agg ⟨[.bool s',.string b',.string c']⟩) then((bO (.agg ⟨[.bool s',.string b',.string c']⟩):Nat):Int) else 0))/\IntKind.i64.wrap ((bif ce (.agg ⟨[.bool s,.string b,.string c]⟩) then((bO (.agg ⟨[.bool s,.string b,.string c]⟩):Nat):Int) else 0)*(bif ce (.agg ⟨[.bool s',.string b',.string c']⟩) then((bO (.agg ⟨[.bool s',.string b',.string c']⟩):Nat):Int) else 0)) < 72057594037927936)/\mkRat (IntKind.i64.wrap ((bif ce (.agg ⟨[.bool s,.string b,.string c]⟩) then cI (.agg ⟨[.bool s,.string b,.string c]⟩) else 0)*(bif ce (.agg ⟨[.bool s',.string b',.string c']⟩) then cI (.agg ⟨[.bool s',.string b',.string c']⟩) else 0))) (IntKind.i64.wrap ((bif ce (.agg ⟨[.bool s,.string b,.string c]⟩) then((bO (.agg ⟨[.bool s,.string b,.string c]⟩):Nat):Int) else 0)*(bif ce (.agg ⟨[.bool s',.string b',.string c']⟩) then((bO (.agg ⟨[.bool s',.string b',.string c']⟩):Nat):Int) else 0))).toNat=Q:=λh h'=>by
   have k:=sm h h';have m1:=g8 k.1.1 k.2.1;have m2:=g8 k.1.2 k.2.2;rw [h,h',cond_true,cond_true,cond_true,cond_true,jP k.1.1 k.2.1,jP k.1.2 k.2.2];rw [dd] at m2 ⊢;rw [hQ2,Int.toNat_natCast];exact⟨⟨by omega,by omega,by omega⟩,rfl⟩
  have e2:Rat.divInt (aJ (ay (aJ (ay (cI (.agg ⟨[.bool s,.string b,.string c]⟩)))*aJ (ay (cI (.agg ⟨[.bool s',.string b',.string c']⟩)))))) (aJ (ay (aJ (ay (((bO (.agg ⟨[.bool s,.string b,.string c]⟩):Nat):Int)))*aJ (ay (((bO (.agg ⟨[.bool s',.string b',.string c']⟩):Nat):Int))))))=Q:=by
   simp only [av];rw [dd,Rat.divInt_ofNat,hQ2]
  have i2:c9 8589934592 (ay (aJ (ay (((bO (.agg ⟨[.bool s,.string b,.string c]⟩):Nat):Int)))*aJ (ay (((bO (.agg ⟨[.bool s',.string b',.string c']⟩):Nat):Int))))):=rU (iP b5) (iP b8) (by omega);have i3:aJ (ay (aJ (ay (((bO (.agg ⟨[.bool s,.string b,.string c]⟩):Nat):Int)))*aJ (ay (((bO (.agg ⟨[.bool s',.string b',.string c']⟩):Nat):Int)))))≠0:=by
   rw [av,av,av,dd];omega
  have i1:c9 8589934592 (ay (aJ (ay (cI (.agg ⟨[.bool s,.string b,.string c]⟩)))*aJ (ay (cI (.agg ⟨[.bool s',.string b',.string c']⟩))))):=rU b3 b6 (by omega);with_unfolding_all exact⟨r1,r2,⟨λh1=>⟨λh2=>⟨(w h1 h2).1,⟨[some 2],aa [(4,.ptr 0 0 0 0)] [aZ (decide (Q.num < 0)) (ah Q.num.natAbs) (aO Q.den) 0] 1 [],Wo ⟨qZ ⟨⟨gt (w h1 h2).2,rfl⟩,⟨gu (w h1 h2).2,rfl⟩,⟨gv (w h1 h2).2,rfl⟩,qQ⟩,qQ⟩ ⟨pP,qQ⟩ trivial,rfl,rfl⟩⟩,λh2=>⟨p1,p2,⟨iN,iM⟩,⟨iD,iE⟩,⟨⟨i1,i2⟩,i3⟩,⟨[some 2],aa [(4,.ptr 0 0 0 0)] [aZ (decide (Q.num < 0)) (ah Q.num.natAbs) (aO Q.den) 0] 1 [],Wo ⟨qZ ⟨⟨gt e2,rfl⟩,⟨gu e2,rfl⟩,⟨gv e2,rfl⟩,qQ⟩,qQ⟩ ⟨pP,qQ⟩ trivial,rfl,rfl⟩⟩⟩,λh1=>⟨λh=>(nomatch h),λ_=>⟨p1,p2,⟨iN,iM⟩,⟨iD,iE⟩,⟨⟨i1,i2⟩,i3⟩,⟨[some 2],aa [(4,.ptr 0 0 0 0)] [aZ (decide (Q.num < 0)) (ah Q.num.natAbs) (aO Q.den) 0] 1 [],Wo ⟨qZ ⟨⟨gt e2,rfl⟩,⟨gu e2,rfl⟩,⟨gv e2,rfl⟩,qQ⟩,qQ⟩ ⟨pP,qQ⟩ trivial,rfl,rfl⟩⟩⟩⟩⟩
 ·cases e
def Da:List PV->Option Ans
 |[.val v,.val u]=>some ⟨some (isRk 1073741824 v/\isRk 1073741824 u),.val (aw (aE v+aE u)),[]⟩
 |_=>none
def D244:Opt:={ perm:=jm 7 [(0,true),(1,true),(3,true),(4,true),(7,true),(8,true),(2,false),(5,false),(6,false),(9,false),(10,false)] }
theorem Gg:am D244.toOrd Tryz.f244 2=true:=by kernel_rfl
theorem f244:FnOk Tryz.prog 244 Da:=by
 refine FnOk.ofW aj (an (l:=[(180,wV),(181,yD),(182,tP),(183,wW),(186,yC),(225,wU)]) (own:=[]) (inl:=[]) (by simp [f180,f181,f182,f183,f186,f225]) (by simp)) Tryz.func244 D244 2 Gg λargs r e=>?_;unfold Da at e;split at e
 ·rename_i v u
  cases e;refine⟨by simp,λhm=>?_⟩;obtain⟨hv,hu⟩:=hm _ rfl;have r1:=hv.R (by decide);have r2:=hu.R (by decide);have p1:isRk 17179869184 v:=hv.mono (by decide);have p2:isRk 17179869184 u:=hu.mono (by decide);have b1:=hv.b;have b2:=hu.b;obtain⟨s,b,c,rfl,hb,hc⟩:=hv;obtain⟨s',b',c',rfl,hb',hc'⟩:=hu;refine⟨[],aa [(0,.val (.agg ⟨[.bool s,.string b,.string c]⟩)),(1,.val (.agg ⟨[.bool s',.string b',.string c']⟩))] [] 0 [],Wo trivial ⟨rfl,rfl,qQ⟩ trivial,?_⟩;obtain⟨K,hK⟩:∃K,K=1073741824:=⟨_,rfl⟩;rw [<-hK] at b1 b2;obtain⟨b3,b4,b5⟩:=b1;obtain⟨b6,b7,b8⟩:=b2;have iN:c9 17179869184 (ay (cI (.agg ⟨[.bool s,.string b,.string c]⟩))):=bA b3 (by omega);have iD:c9 17179869184 (ay ((bO (.agg ⟨[.bool s,.string b,.string c]⟩):Nat):Int)):=bA (iP b5) (by omega);have iM:c9 17179869184 (ay (cI (.agg ⟨[.bool s',.string b',.string c']⟩))):=bA b6 (by omega);have iE:c9 17179869184 (ay ((bO (.agg ⟨[.bool s',.string b',.string c']⟩):Nat):Int)):=bA (iP b8) (by omega);have sm:ce (.agg ⟨[.bool s,.string b,.string c]⟩)=true->ce (.agg ⟨[.bool s',.string b',.string c']⟩)=true->((cI (.agg ⟨[.bool s,.string b,.string c]⟩)).natAbs < 16777216/\(((bO (.agg ⟨[.bool s,.string b,.string c]⟩):Nat):Int)).natAbs < 16777216)/\(cI (.agg ⟨[.bool s',.string b',.string c']⟩)).natAbs < 16777216/\(((bO (.agg ⟨[.bool s',.string b',.string c']⟩):Nat):Int)).natAbs < 16777216:=λh h'=>by
   have k1:=nY h;have k2:=nY h';exact⟨⟨k1.1,by simpa using k1.2.2⟩,k2.1,by simpa using k2.2.2⟩
  obtain⟨Q,hQ⟩:∃Q,Q=aE (.agg ⟨[.bool s,.string b,.string c]⟩)+aE (.agg ⟨[.bool s',.string b',.string c']⟩):=⟨_,rfl⟩;rw [<-hQ];have hQ2:Q=mkRat (cI (.agg ⟨[.bool s,.string b,.string c]⟩)*((bO (.agg ⟨[.bool s',.string b',.string c']⟩):Nat):Int)+cI (.agg ⟨[.bool s',.string b',.string c']⟩)*((bO (.agg ⟨[.bool s,.string b,.string c]⟩):Nat):Int)) (bO (.agg ⟨[.bool s,.string b,.string c]⟩)*bO (.agg ⟨[.bool s',.string b',.string c']⟩)):=by rw [hQ,kB,kB,Rat.mkRat_add_mkRat _ _ (by omega) (by omega)]
  have dd:((bO (.agg ⟨[.bool s,.string b,.string c]⟩):Nat):Int)*((bO (.agg ⟨[.bool s',.string b',.string c']⟩):Nat):Int)=((bO (.agg ⟨[.bool s,.string b,.string c]⟩)*bO (.agg ⟨[.bool s',.string b',.string c']⟩):Nat):Int):=by rw [Int.natCast_mul]
  have dpos:0 < bO (.agg ⟨[.bool s,.string b,.string c]⟩)*bO (.agg ⟨[.bool s',.string b',.string c']⟩):=Nat.mul_pos b4 b7;have w:ce (.agg ⟨[.bool s,.string b,.string c]⟩)=true->ce (.agg ⟨[.bool s',.string b',.string c']⟩)=true->((IntKind.i64.wrap (IntKind.i64.wrap ((bif ce (.agg ⟨[.bool s,.string b,.string c]⟩) then cI (.agg ⟨[.bool s,.string b,.string c]⟩) else 0)*(bif ce (.agg ⟨[.bool s',.string b',.string c']⟩) then((bO (.agg ⟨[.bool s',.string b',.string c']⟩):Nat):Int) else 0))+IntKind.i64.wrap ((bif ce (.agg ⟨[.bool s',.string b',.string c']⟩) then cI (.agg ⟨[.bool s',.string b',.string c']⟩) else 0)*(bif ce (.agg ⟨[.bool s,.string b,.string c]⟩) then((bO (.agg ⟨[.bool s,.string b,.string c]⟩):Nat):Int) else 0)))).natAbs < 72057594037927936/\0 < IntKind.i64.wrap ((bif ce (.agg ⟨[.bool s,.string b,.string c]⟩) then((bO (.agg ⟨[.bool s,.string b,.string c]⟩):Nat):Int) else 0)*(bif ce (.agg ⟨[.bool s',.string b',.string c']⟩) then((bO (.agg ⟨[.bool s',.string b',.string c']⟩):Nat):Int) else 0))/\IntKind.i64.wrap ((bif ce (.agg ⟨[.bool s,.string b,.string c]⟩) then((bO (.agg ⟨[.bool s,.string b,.string c]⟩):Nat):Int) else 0)*(bif ce (.agg ⟨[.bool s',.string b',.string c']⟩) then((bO (.agg ⟨[.bool s',.string b',.string c']⟩):Nat):Int) else 0)) < 72057594037927936)/\mkRat (IntKind.i64.wrap (IntKind.i64.wrap ((bif ce (.agg ⟨[.bool s,.string b,.string c]⟩) then cI (.agg ⟨[.bool s,.string b,.string c]⟩) else 0)*(bif ce (.agg ⟨[.bool s',.string b',.string c']⟩) then((bO (.agg ⟨[.bool s',.string b',.string c']⟩):Nat):Int) else 0))+IntKind.i64.wrap ((bif ce (.agg ⟨[.bool s',.string b',.string c']⟩) then cI (.agg ⟨[.bool s',.string b',.string c']⟩) else 0)*(bif ce (.agg ⟨[.bool s,.string b,.string c]⟩) then((bO (.agg ⟨[.bool s,.string b,.string c]⟩):Nat):Int) else 0)))) (IntKind.i64.wrap ((bif ce (.agg ⟨[.bool s,.string b,.string c]⟩) then((bO (.agg ⟨[.bool s,.string b,.string c]⟩):Nat):Int) else 0)*(bif ce (.agg ⟨[.bool s',.string b',.string c']⟩) then((bO (.agg ⟨[.bool s',.string b',.string c']⟩):Nat):Int) else 0))).toNat=Q:=λh h'=>by
   have k:=sm h h';have m0:=g8 k.1.1 k.2.2;have m1:=g8 k.2.1 k.1.2;have m2:=g8 k.1.2 k.2.2;rw [h,h',cond_true,cond_true,cond_true,cond_true,jP k.1.1 k.2.2,jP k.2.1 k.1.2,jP k.1.2 k.2.2,wrap64 (by omega) (by omega)];rw [dd] at m2 ⊢;rw [hQ2,Int.toNat_natCast];exact⟨⟨by omega,by omega,by omega⟩,rfl⟩
  have e2:Rat.divInt (aJ (ay (aJ (ay (aJ (ay (cI (.agg ⟨[.bool s,.string b,.string c]⟩)))*aJ (ay (((bO (.agg ⟨[.bool s',.string b',.string c']⟩):Nat):Int)))))+aJ (ay (aJ (ay (cI (.agg ⟨[.bool s',.string b',.string c']⟩)))*aJ (ay (((bO (.agg ⟨[.bool s,.string b,.string c]⟩):Nat):Int)))))))) (aJ (ay (aJ (ay (((bO (.agg ⟨[.bool s,.string b,.string c]⟩):Nat):Int)))*aJ (ay (((bO (.agg ⟨[.bool s',.string b',.string c']⟩):Nat):Int))))))=Q:=by
   simp only [av];rw [dd,Rat.divInt_ofNat,hQ2]
  have i2:c9 8589934592 (ay (aJ (ay (((bO (.agg ⟨[.bool s,.string b,.string c]⟩):Nat):Int)))*aJ (ay (((bO (.agg ⟨[.bool s',.string b',.string c']⟩):Nat):Int))))):=rU (iP b5) (iP b8) (by omega);have i3:aJ (ay (aJ (ay (((bO (.agg ⟨[.bool s,.string b,.string c]⟩):Nat):Int)))*aJ (ay (((bO (.agg ⟨[.bool s',.string b',.string c']⟩):Nat):Int)))))≠0:=by
   rw [av,av,av,dd];omega
  have i0:c9 17179869184 (ay (aJ (ay (cI (.agg ⟨[.bool s,.string b,.string c]⟩)))*aJ (ay (((bO (.agg ⟨[.bool s',.string b',.string c']⟩):Nat):Int))))):=rU b3 (iP b8) (by omega);have i1:c9 17179869184 (ay (aJ (ay (cI (.agg ⟨[.bool s',.string b',.string c']⟩)))*aJ (ay (((bO (.agg ⟨[.bool s,.string b,.string c]⟩):Nat):Int))))):=rU b6 (iP b5) (by omega);have i4:c9 8589934592 (ay (aJ (ay (aJ (ay (cI (.agg ⟨[.bool s,.string b,.string c]⟩)))*aJ (ay (((bO (.agg ⟨[.bool s',.string b',.string c']⟩):Nat):Int)))))+aJ (ay (aJ (ay (cI (.agg ⟨[.bool s',.string b',.string c']⟩)))*aJ (ay (((bO (.agg ⟨[.bool s,.string b,.string c]⟩):Nat):Int))))))):=by
   rw [av,av,av,av,av,av];exact bA (EH (AI b3 (iP b8)) (AI b6 (iP b5))) (by omega)
  with_unfolding_all exact⟨r1,r2,⟨λh1=>⟨λh2=>⟨(w h1 h2).1,⟨[some 2],aa [(4,.ptr 0 0 0 0)] [aZ (decide (Q.num < 0)) (ah Q.num.natAbs) (aO Q.den) 0] 1 [],Wo ⟨qZ ⟨⟨gt (w h1 h2).2,rfl⟩,⟨gu (w h1 h2).2,rfl⟩,⟨gv (w h1 h2).2,rfl⟩,qQ⟩,qQ⟩ ⟨pP,qQ⟩ trivial,rfl,rfl⟩⟩,λh2=>⟨p1,p2,⟨iN,iE⟩,⟨iM,iD⟩,⟨i0,i1⟩,⟨iD,iE⟩,⟨⟨i4,i2⟩,i3⟩,⟨[some 2],aa [(4,.ptr 0 0 0 0)] [aZ (decide (Q.num < 0)) (ah Q.num.natAbs) (aO Q.den) 0] 1 [],Wo ⟨qZ ⟨⟨gt e2,rfl⟩,⟨gu e2,rfl⟩,⟨gv e2,rfl⟩,qQ⟩,qQ⟩ ⟨pP,qQ⟩ trivial,rfl,rfl⟩⟩⟩,λh1=>⟨λh=>(nomatch h),λ_=>⟨p1,p2,⟨iN,iE⟩,⟨iM,iD⟩,⟨i0,i1⟩,⟨iD,iE⟩,⟨⟨i4,i2⟩,i3⟩,⟨[some 2],aa [(4,.ptr 0 0 0 0)] [aZ (decide (Q.num < 0)) (ah Q.num.natAbs) (aO Q.den) 0] 1 [],Wo ⟨qZ ⟨⟨gt e2,rfl⟩,⟨gu e2,rfl⟩,⟨gv e2,rfl⟩,qQ⟩,qQ⟩ ⟨pP,qQ⟩ trivial,rfl,rfl⟩⟩⟩⟩⟩
 ·cases e
def AK:List PV->Option Ans
 |[.val v,.val u]=>some ⟨some (isRk 1073741824 v/\isRk 1073741824 u),.val (aw (aE v - aE u)),[]⟩
 |_=>none
theorem Gh:am {} Tryz.f221 2=true:=by kernel_rfl
theorem f221:FnOk Tryz.prog 221 AK:=by
 refine FnOk.ofW aj (an (l:=[(244,Da)]) (own:=[]) (inl:=[]) (by simp [f244]) (by simp)) Tryz.func221 {} 2 Gh λargs r e=>?_;unfold AK at e;split at e
 ·rename_i v u
  cases e;refine⟨by simp,λhm=>?_⟩;obtain⟨hv,hu⟩:=hm _ rfl;obtain⟨s,b,c,rfl,hb,hc⟩:=hv;obtain⟨s',b',c',rfl,hb',hc'⟩:=hu;refine⟨[],aa [(0,.val (.agg ⟨[.bool s,.string b,.string c]⟩)),(1,.val (.agg ⟨[.bool s',.string b',.string c']⟩))] [] 0 [],Wo trivial ⟨rfl,rfl,qQ⟩ trivial,?_⟩;obtain⟨Q,hQ⟩:∃Q,Q=aE (.agg ⟨[.bool s,.string b,.string c]⟩) - aE (.agg ⟨[.bool s',.string b',.string c']⟩):=⟨_,rfl⟩;rw [<-hQ];have e2:aE (.agg ⟨[.bool s,.string b,.string c]⟩)+aE (.agg ⟨[.bool (!s'),.string b',.string c']⟩)=Q:=by rw [hQ,uX,Rat.sub_eq_add_neg]
  with_unfolding_all exact⟨⟨⟨_,_,_,rfl,hb,hc⟩,_,_,_,rfl,hb',hc'⟩,⟨[some 2],aa [(4,.ptr 0 0 0 0)] [aZ (decide (Q.num < 0)) (ah Q.num.natAbs) (aO Q.den) 0] 1 [],Wo ⟨qZ ⟨⟨gt e2,rfl⟩,⟨gu e2,rfl⟩,⟨gv e2,rfl⟩,qQ⟩,qQ⟩ ⟨pP,qQ⟩ trivial,rfl,rfl⟩⟩
 ·cases e
def AL:List PV->Option Ans
 |[.val v]=>some ⟨some (isRk 1073741824 v),.val (goInt (ao (aE v) 0)),[]⟩
 |_=>none
def D177:Opt:={  }
theorem Gi:am D177.toOrd Tryz.f177 1=true:=by kernel_rfl
theorem f177:FnOk Tryz.prog 177 AL:=by
 refine FnOk.ofW aj (an (l:=[(135,rV)]) (own:=[]) (inl:=[]) (by simp [f135]) (by simp)) Tryz.func177 D177 1 Gi λargs r e=>?_;unfold AL at e;split at e
 ·rename_i v
  cases e;refine⟨by simp,λhm=>?_⟩;have hv:=hm _ rfl;obtain⟨s,b,c,rfl,hb,hc⟩:=hv;refine⟨[],aa [(0,.val (.agg ⟨[.bool s,.string b,.string c]⟩))] [] 0 [],Wo trivial ⟨rfl,qQ⟩ trivial,?_⟩;have e0:aE (.agg ⟨[.bool false,.string ⟨#[]⟩,.string ⟨#[]⟩]⟩)=0:=by rw [<-iI,aC]
  have z:isRk 1073741824 (.agg ⟨[.bool false,.string ⟨#[]⟩,.string ⟨#[]⟩]⟩):=⟨_,_,_,rfl,by decide,by decide⟩;have v:PV.val (goInt (ao (aE (.agg ⟨[.bool s,.string b,.string c]⟩)) (aE (.agg ⟨[.bool false,.string ⟨#[]⟩,.string ⟨#[]⟩]⟩))))=PV.val (goInt (ao (aE (.agg ⟨[.bool s,.string b,.string c]⟩)) 0)):=by rw [e0]
  with_unfolding_all exact⟨⟨⟨_,_,_,rfl,hb,hc⟩,z⟩,⟨[],aa [(2,.val (goInt (ao (aE (.agg ⟨[.bool s,.string b,.string c]⟩)) 0)))] [] 0 [],Wo trivial ⟨v,qQ⟩ trivial,rfl,rfl⟩⟩
 ·cases e
def GS:List PV->Option Ans
 |[.val v,.val u]=>some ⟨some (isPk 1073741824 v/\isPk 1073741824 u),.val (goInt (cu (aN v) (aN u))),[]⟩
 |_=>none
def D98:Opt:={  }
theorem Ii:am D98.toOrd Tryz.f98 2=true:=by kernel_rfl
theorem f98:FnOk Tryz.prog 98 GS:=by
 refine FnOk.ofW aj (an (l:=[(135,rV)]) (own:=[]) (inl:=[]) (by simp [f135]) (by simp)) Tryz.func98 D98 2 Ii λargs r e=>?_;unfold GS at e;split at e
 ·rename_i v u
  cases e;refine⟨by simp,λhm=>?_⟩;obtain⟨⟨p,rfl,hp⟩,u,rfl,hu⟩:=hm _ rfl;refine⟨[],aa [(0,.val p.v),(1,.val u.v)] [] 0 [],Wo trivial ⟨rfl,rfl,qQ⟩ trivial,?_⟩;have hx:=And.intro (cv hp (Nat.le_refl _)) (cv hu (Nat.le_refl _));have hy:=And.intro (cw hp (Nat.le_refl _)) (cw hu (Nat.le_refl _));have t1:(!(ao p.X u.X==0))=true->PV.val (goInt (ao p.X u.X))=PV.val (goInt (cu p u)):=λh=>by
   have h:¬ao p.X u.X=0:=by simpa using h
   rw [cu,if_neg h]
  have t2:(!(ao p.X u.X==0))=false->PV.val (goInt (ao p.Y u.Y))=PV.val (goInt (cu p u)):=λh=>by
   have h:ao p.X u.X=0:=by simpa using h
   rw [cu,if_pos h]
  with_unfolding_all exact⟨hx,λh=>⟨[],aa [(4,.val (goInt (cu p u)))] [] 0 [],Wo trivial ⟨t1 h,qQ⟩ trivial,rfl,rfl⟩,λh=>⟨hy,⟨[],aa [(4,.val (goInt (cu p u)))] [] 0 [],Wo trivial ⟨t2 h,qQ⟩ trivial,rfl,rfl⟩⟩⟩
 ·cases e
def AM:List PV->Option Ans
 |[.val v,.val u]=>some ⟨some (isPk 1000000 v/\isPk 1000000 u),.val (cq (aN v) (aN u)).v,[]⟩
 |_=>none
def D179:Opt:={ perm:=jm 1 [(0,true),(1,true),(2,true),(3,true),(5,true),(6,true),(7,true),(8,true),(4,false),(9,false),(10,true)] }
theorem Gj:am D179.toOrd Tryz.f179 2=true:=by kernel_rfl
theorem f179:FnOk Tryz.prog 179 AM:=by
 refine FnOk.ofW aj (an (l:=[(221,AK)]) (own:=[]) (inl:=[]) (by simp [f221]) (by simp)) Tryz.func179 D179 2 Gj λargs r e=>?_;unfold AM at e;split at e
 ·rename_i v u
  cases e;refine⟨by simp,λhm=>?_⟩;obtain⟨⟨p,rfl,hp⟩,u,rfl,hu⟩:=hm _ rfl;refine⟨[],aa [(0,.val p.v),(1,.val u.v)] [] 0 [],Wo trivial ⟨rfl,rfl,qQ⟩ trivial,?_⟩;have hx:=And.intro (cv hp (show 1000000<=1073741824 by decide)) (cv hu (show 1000000<=1073741824 by decide));have hy:=And.intro (cw hp (show 1000000<=1073741824 by decide)) (cw hu (show 1000000<=1073741824 by decide));with_unfolding_all exact⟨hx,hy,[some 2],aa [(4,.ptr 0 0 0 0)] [ib (cq p u) 0] 1 [],Wo ⟨qK,qQ⟩ ⟨pP,qQ⟩ trivial,rfl,rfl⟩
 ·cases e
def AN:List PV->Option Ans
 |[.val v,.val u]=>some ⟨some (isPk 1000000 v/\isPk 1000000 u),.val (aw (cL (aN v) (aN u))),[]⟩
 |_=>none
def D178:Opt:={ perm:=jm 1 [(0,true),(1,true),(2,true),(3,true),(5,true),(6,true),(7,true),(8,true),(4,false),(9,false),(10,false)] }
theorem Gk:am D178.toOrd Tryz.f178 2=true:=by kernel_rfl
theorem f178:FnOk Tryz.prog 178 AN:=by
 refine FnOk.ofW aj (an (l:=[(222,AJ),(221,AK)]) (own:=[]) (inl:=[]) (by simp [f222,f221]) (by simp)) Tryz.func178 D178 2 Gk λargs r e=>?_;unfold AN at e;split at e
 ·rename_i v u
  cases e;refine⟨by simp,λhm=>?_⟩;obtain⟨⟨p,rfl,hp⟩,u,rfl,hu⟩:=hm _ rfl;refine⟨[],aa [(0,.val p.v),(1,.val u.v)] [] 0 [],Wo trivial ⟨rfl,rfl,qQ⟩ trivial,?_⟩;have hx:=And.intro (cv hp (show 1000000<=1073741824 by decide)) (cw hu (show 1000000<=1073741824 by decide));have hy:=And.intro (cw hp (show 1000000<=1073741824 by decide)) (cv hu (show 1000000<=1073741824 by decide));have r1:isRk 1073741824 (aw (p.X*u.Y)):=(hp.X.mul hu.Y).rk (by decide);have r2:isRk 1073741824 (aw (p.Y*u.X)):=(hp.Y.mul hu.X).rk (by decide);obtain⟨Q,hQ⟩:∃Q,Q=cL p u:=⟨_,rfl⟩;have e:aE (aw (p.X*u.Y)) - aE (aw (p.Y*u.X))=Q:=by rw [aC,aC,hQ];rfl
  have hq:cL (aN p.v) (aN u.v)=Q:=hQ.symm;rw [hq];with_unfolding_all exact⟨hx,hy,⟨r1,r2⟩,[some 2],aa [(4,.ptr 0 0 0 0)] [aZ (decide (Q.num < 0)) (ah Q.num.natAbs) (aO Q.den) 0] 1 [],Wo ⟨qZ ⟨⟨gt e,rfl⟩,⟨gu e,rfl⟩,⟨gv e,rfl⟩,qQ⟩,qQ⟩ ⟨pP,qQ⟩ trivial,rfl,rfl⟩
 ·cases e
def AO:List PV->Option Ans
 |[.val v,.val u,.val w]=>some ⟨some (isPk 10000 v/\isPk 10000 u/\isPk 10000 w),.val (goInt (j5 (aN v) (aN u) (aN w))),[]⟩
 |_=>none
def D131:Opt:={ perm:=jm 1 [(0,true),(1,true),(3,true),(4,true),(2,false),(5,false),(6,false),(7,false)] }
theorem Gl:am D131.toOrd Tryz.f131 3=true:=by kernel_rfl
theorem f131:FnOk Tryz.prog 131 AO:=by
 refine FnOk.ofW aj (an (l:=[(179,AM),(178,AN),(177,AL)]) (own:=[]) (inl:=[]) (by simp [f179,f178,f177]) (by simp)) Tryz.func131 D131 3 Gl λargs r e=>?_;unfold AO at e;split at e
 ·rename_i v u w
  cases e;refine⟨by simp,λhm=>?_⟩;obtain⟨⟨a,rfl,ha⟩,⟨b,rfl,hb⟩,c,rfl,hc⟩:=hm _ rfl;refine⟨[],aa [(0,.val a.v),(1,.val b.v),(2,.val c.v)] [] 0 [],Wo trivial ⟨rfl,rfl,rfl,qQ⟩ trivial,?_⟩;have ha':=ha.mono (show 10000<=1000000 by decide);have hb':=hb.mono (show 10000<=1000000 by decide);have hc':=hc.mono (show 10000<=1000000 by decide);have s1:=(cj hb ha).mono (show 10000+10000+3<=1000000 by decide);have s2:=(cj hc ha).mono (show 10000+10000+3<=1000000 by decide);have r1:isRk 1073741824 (aw (cL (cq b a) (cq c a))):=(iJ (cj hb ha) (cj hc ha)).rk (by decide);have e:ao (aE (aw (cL (cq b a) (cq c a)))) 0=j5 a b c:=by rw [aC];rfl
  with_unfolding_all refine⟨⟨⟨b,rfl,hb'⟩,a,rfl,ha'⟩,⟨⟨c,rfl,hc'⟩,a,rfl,ha'⟩,⟨⟨cq b a,rfl,s1⟩,cq c a,rfl,s2⟩,?_,[],aa [(6,.val (goInt (j5 a b c)))] [] 0 [],Wo trivial ⟨?_,qQ⟩ trivial,rfl,rfl⟩
  ·exact r1
  ·exact congrArg (λz=>PV.val (goInt z)) e
 ·cases e
def Db:List PV->Option Ans
 |[.rs 6 n g]=>some ⟨some (isPL 4294967296 n g),.val (.bool (!aA (λi=>!ai (ab g i)) n)),[]⟩
 |_=>none
def D130:Opt:={  }
theorem Gm:am D130.toOrd Tryz.f130 1=true:=by kernel_rfl
theorem f130:FnOk Tryz.prog 130 Db:=by
 refine FnOk.ofW aj (an (l:=[(59,Fs)]) (own:=[]) (inl:=[]) (by simp [f59]) (by simp)) Tryz.func130 D130 1 Gm λargs r e=>?_;unfold Db at e;split at e
 ·rename_i n g
  cases e;refine⟨by simp,λhm=>?_⟩;obtain⟨hg,hn⟩:=hm _ rfl;refine⟨[],aa [(0,.rs 6 n (λi=>(ab g i).cells))] [] 0 [],Wo trivial ⟨⟨rfl,rfl,λi hi=>(hg i hi).1.symm⟩,qQ⟩ trivial,?_⟩;obtain⟨V,hV⟩:∃V,V = !aA (λi=>!ai (ab g i)) n:=⟨_,rfl⟩;rw [<-hV];have hno:∀b:Bool,(bY b != 0)=true->b=false:=λb h=>by cases b<;>first|rfl|cases h
  have hyes:∀b:Bool,(bY b != 0)=false->b=true:=λb h=>by cases b<;>first|rfl|cases h
  with_unfolding_all refine⟨Nat,λi=>i<=n/\∀j,j < i->ai (ab g j)=true,λi=>aa [(0,.rs 6 n (λi=>(ab g i).cells)),(3,.val (goInt i))] [] 0 [],λi=>n - i,⟨0,[],⟨Nat.zero_le _,λj hj=>absurd hj (Nat.not_lt_zero j)⟩,Wo trivial ⟨qW,rfl,qQ⟩ trivial⟩,λi hi=>?_⟩
  obtain⟨hin,hI⟩:i<=n/\∀j,j < i->ai (ab g j)=true:=hi;with_unfolding_all refine⟨λh1=>?_,λh1=>⟨[],aa [(2,.val (.bool V))] [] 0 [],Wo trivial ⟨?_,qQ⟩ trivial,rfl,rfl⟩⟩
  ·have h1:(i:Int) < n:=bL h1;have ei:(i:Int).toNat=i:=Int.toNat_natCast i;have hp:=(hg i (by omega)).2;rw [<-ei] at hp;with_unfolding_all refine⟨⟨by omega,by omega⟩,⟨ab g (i:Int).toNat,rfl,hp⟩,λh2=>⟨[],aa [(2,.val (.bool V))] [] 0 [],Wo trivial ⟨?_,qQ⟩ trivial,rfl,rfl⟩,λh2=>⟨i+1,[],⟨by omega,?_⟩,by show n - (i+1) < n - i;omega,Wo trivial ⟨qW,?_,qQ⟩ trivial⟩⟩
   ·have h2:ai (ab g (i:Int).toNat)=false:=hno _ h2;rw [ei] at h2;rw [hV,bc.2 ⟨i,by omega,by rw [h2];rfl⟩];rfl
   ·have h2:ai (ab g (i:Int).toNat)=true:=hyes _ h2;rw [ei] at h2;intro j hj;rcases Nat.lt_or_ge j i with h|h
    ·exact hI j h
    ·obtain rfl:j=i:=by omega
     exact h2
   ·show PV.val (.int .i64 (IntKind.i64.wrap ((i:Int)+1)))=PV.val (.int .i64 ((i+1:Nat):Int));rw [wrap64 (by omega) (by omega)];rfl
  ·have h1:(n:Int)<=i:=dI h1;rw [hV,aF.2 λj hj=>by rw [hI j (by omega)];rfl];rfl
 ·cases e
end Go.Proofs
