import Derived.Calls
import Derived.StepT
import Derived.Shelf.SlSortCmp.NoneTotal
import Derived.Sort.OwnSorted
import Derived.Below
import Derived.Shelf.SlLaysF0
import Derived.Test.YtpfdckeipckldaaGreatC
set_option maxHeartbeats 8000000
set_option linter.all false
open Go Go.Ex Go.Num Go.Proofs
set_option maxRecDepth 100000
namespace Go.Proofs
def Ah:List PV->Option Ans
 |[.val v]=>some ⟨some (isRk 1073741824 v),.val (goInt (ao (aE v) 0)),[]⟩
 |_=>none
def D177:Opt:={  }
theorem Fm:am D177.toOrd Tryz.f177 1=true:=by kernel_rfl
theorem f177:FnOk Tryz.prog 177 Ah:=by
 refine FnOk.ofW aj (an (l:=[(135,rK)]) (own:=[]) (inl:=[]) (by simp [f135]) (by simp)) Tryz.func177 D177 1 Fm λargs r e=>?_;unfold Ah at e;split at e
 ·rename_i v
  cases e;refine⟨by simp,λhm=>?_⟩;have hv:=hm _ rfl;obtain⟨s,b,c,rfl,hb,hc⟩:=hv;refine⟨[],aa [(0,.val (.agg ⟨[.bool s,.string b,.string c]⟩))] [] 0 [],Wo trivial ⟨rfl,qQ⟩ trivial,?_⟩;have e0:aE (.agg ⟨[.bool false,.string ⟨#[]⟩,.string ⟨#[]⟩]⟩)=0:=by rw [<-iz,aC]
  have z:isRk 1073741824 (.agg ⟨[.bool false,.string ⟨#[]⟩,.string ⟨#[]⟩]⟩):=⟨_,_,_,rfl,by decide,by decide⟩;have v:PV.val (goInt (ao (aE (.agg ⟨[.bool s,.string b,.string c]⟩)) (aE (.agg ⟨[.bool false,.string ⟨#[]⟩,.string ⟨#[]⟩]⟩))))=PV.val (goInt (ao (aE (.agg ⟨[.bool s,.string b,.string c]⟩)) 0)):=by rw [e0]
  with_unfolding_all exact⟨⟨⟨_,_,_,rfl,hb,hc⟩,z⟩,⟨[],aa [(2,.val (goInt (ao (aE (.agg ⟨[.bool s,.string b,.string c]⟩)) 0)))] [] 0 [],Wo trivial ⟨v,qQ⟩ trivial,rfl,rfl⟩⟩
 ·cases e
def Gs:List PV->Option Ans
 |[.val v,.val u]=>some ⟨some (isPk 1073741824 v/\isPk 1073741824 u),.val (goInt (bg (aO v) (aO u))),[]⟩
 |_=>none
def D98:Opt:={  }
theorem Hb:am D98.toOrd Tryz.f98 2=true:=by kernel_rfl
theorem f98:FnOk Tryz.prog 98 Gs:=by
 refine FnOk.ofW aj (an (l:=[(135,rK)]) (own:=[]) (inl:=[]) (by simp [f135]) (by simp)) Tryz.func98 D98 2 Hb λargs r e=>?_;unfold Gs at e;split at e
 ·rename_i v u
  cases e;refine⟨by simp,λhm=>?_⟩;obtain⟨⟨p,rfl,hp⟩,u,rfl,hu⟩:=hm _ rfl;refine⟨[],aa [(0,.val p.v),(1,.val u.v)] [] 0 [],Wo trivial ⟨rfl,rfl,qQ⟩ trivial,?_⟩;have hx:=And.intro (ct hp (Nat.le_refl _)) (ct hu (Nat.le_refl _));have hy:=And.intro (cu hp (Nat.le_refl _)) (cu hu (Nat.le_refl _));have t1:(!(ao p.X u.X==0))=true->PV.val (goInt (ao p.X u.X))=PV.val (goInt (bg p u)):=λh=>by
   have h:¬ao p.X u.X=0:=by simpa using h
   rw [bg,if_neg h]
  have t2:(!(ao p.X u.X==0))=false->PV.val (goInt (ao p.Y u.Y))=PV.val (goInt (bg p u)):=λh=>by
   have h:ao p.X u.X=0:=by simpa using h
   rw [bg,if_pos h]
  with_unfolding_all exact⟨hx,λh=>⟨[],aa [(4,.val (goInt (bg p u)))] [] 0 [],Wo trivial ⟨t1 h,qQ⟩ trivial,rfl,rfl⟩,λh=>⟨hy,⟨[],aa [(4,.val (goInt (bg p u)))] [] 0 [],Wo trivial ⟨t2 h,qQ⟩ trivial,rfl,rfl⟩⟩⟩
 ·cases e
def Ai:List PV->Option Ans
 |[.val v,.val u]=>some ⟨some (isPk 1000000 v/\isPk 1000000 u),.val (cm (aO v) (aO u)).v,[]⟩
 |_=>none
def D179:Opt:={ perm:=jr 1 [(0,true),(1,true),(2,true),(3,true),(5,true),(6,true),(7,true),(8,true),(4,false),(9,false),(10,true)] }
theorem Fo:am D179.toOrd Tryz.f179 2=true:=by kernel_rfl
theorem f179:FnOk Tryz.prog 179 Ai:=by
 refine FnOk.ofW aj (an (l:=[(221,Aa)]) (own:=[]) (inl:=[]) (by simp [f221]) (by simp)) Tryz.func179 D179 2 Fo λargs r e=>?_;unfold Ai at e;split at e
 ·rename_i v u
  cases e;refine⟨by simp,λhm=>?_⟩;obtain⟨⟨p,rfl,hp⟩,u,rfl,hu⟩:=hm _ rfl;refine⟨[],aa [(0,.val p.v),(1,.val u.v)] [] 0 [],Wo trivial ⟨rfl,rfl,qQ⟩ trivial,?_⟩;have hx:=And.intro (ct hp (show 1000000<=1073741824 by decide)) (ct hu (show 1000000<=1073741824 by decide));have hy:=And.intro (cu hp (show 1000000<=1073741824 by decide)) (cu hu (show 1000000<=1073741824 by decide));with_unfolding_all exact⟨hx,hy,[some 2],aa [(4,.ptr 0 0 0 0)] [gZ (cm p u) 0] 1 [],Wo ⟨qK,qQ⟩ ⟨pP,qQ⟩ trivial,rfl,rfl⟩
 ·cases e
def Aj:List PV->Option Ans
 |[.val v,.val u]=>some ⟨some (isPk 1000000 v/\isPk 1000000 u),.val (aw (cF (aO v) (aO u))),[]⟩
 |_=>none
def D178:Opt:={ perm:=jr 1 [(0,true),(1,true),(2,true),(3,true),(5,true),(6,true),(7,true),(8,true),(4,false),(9,false),(10,false)] }
theorem Fp:am D178.toOrd Tryz.f178 2=true:=by kernel_rfl
theorem f178:FnOk Tryz.prog 178 Aj:=by
 refine FnOk.ofW aj (an (l:=[(222,z8),(221,Aa)]) (own:=[]) (inl:=[]) (by simp [f222,f221]) (by simp)) Tryz.func178 D178 2 Fp λargs r e=>?_;unfold Aj at e;split at e
 ·rename_i v u
  cases e;refine⟨by simp,λhm=>?_⟩;obtain⟨⟨p,rfl,hp⟩,u,rfl,hu⟩:=hm _ rfl;refine⟨[],aa [(0,.val p.v),(1,.val u.v)] [] 0 [],Wo trivial ⟨rfl,rfl,qQ⟩ trivial,?_⟩;have hx:=And.intro (ct hp (show 1000000<=1073741824 by decide)) (cu hu (show 1000000<=1073741824 by decide));have hy:=And.intro (cu hp (show 1000000<=1073741824 by decide)) (ct hu (show 1000000<=1073741824 by decide));have r1:isRk 1073741824 (aw (p.X*u.Y)):=(hp.X.mul hu.Y).rk (by decide);have r2:isRk 1073741824 (aw (p.Y*u.X)):=(hp.Y.mul hu.X).rk (by decide);obtain⟨Q,hQ⟩:∃Q,Q=cF p u:=⟨_,rfl⟩;have e:aE (aw (p.X*u.Y)) - aE (aw (p.Y*u.X))=Q:=by rw [aC,aC,hQ];rfl
  have hq:cF (aO p.v) (aO u.v)=Q:=hQ.symm;rw [hq];with_unfolding_all exact⟨hx,hy,⟨r1,r2⟩,[some 2],aa [(4,.ptr 0 0 0 0)] [a8 (decide (Q.num < 0)) (ai Q.num.natAbs) (aP Q.den) 0] 1 [],Wo ⟨qZ ⟨⟨gq e,rfl⟩,⟨gr e,rfl⟩,⟨gt e,rfl⟩,qQ⟩,qQ⟩ ⟨pP,qQ⟩ trivial,rfl,rfl⟩
 ·cases e
def Ak:List PV->Option Ans
 |[.val v,.val u,.val w]=>some ⟨some (isPk 10000 v/\isPk 10000 u/\isPk 10000 w),.val (goInt (jW (aO v) (aO u) (aO w))),[]⟩
 |_=>none
def D131:Opt:={ perm:=jr 1 [(0,true),(1,true),(3,true),(4,true),(2,false),(5,false),(6,false),(7,false)] }
theorem Fq:am D131.toOrd Tryz.f131 3=true:=by kernel_rfl
theorem f131:FnOk Tryz.prog 131 Ak:=by
 refine FnOk.ofW aj (an (l:=[(179,Ai),(178,Aj),(177,Ah)]) (own:=[]) (inl:=[]) (by simp [f179,f178,f177]) (by simp)) Tryz.func131 D131 3 Fq λargs r e=>?_;unfold Ak at e;split at e
 ·rename_i v u w
  cases e;refine⟨by simp,λhm=>?_⟩;obtain⟨⟨a,rfl,ha⟩,⟨b,rfl,hb⟩,c,rfl,hc⟩:=hm _ rfl;refine⟨[],aa [(0,.val a.v),(1,.val b.v),(2,.val c.v)] [] 0 [],Wo trivial ⟨rfl,rfl,rfl,qQ⟩ trivial,?_⟩;have ha':=ha.mono (show 10000<=1000000 by decide);have hb':=hb.mono (show 10000<=1000000 by decide);have hc':=hc.mono (show 10000<=1000000 by decide);have s1:=(cj hb ha).mono (show 10000+10000+3<=1000000 by decide);have s2:=(cj hc ha).mono (show 10000+10000+3<=1000000 by decide);have r1:isRk 1073741824 (aw (cF (cm b a) (cm c a))):=(iA (cj hb ha) (cj hc ha)).rk (by decide);have e:ao (aE (aw (cF (cm b a) (cm c a)))) 0=jW a b c:=by rw [aC];rfl
  with_unfolding_all refine⟨⟨⟨b,rfl,hb'⟩,a,rfl,ha'⟩,⟨⟨c,rfl,hc'⟩,a,rfl,ha'⟩,⟨⟨cm b a,rfl,s1⟩,cm c a,rfl,s2⟩,?_,[],aa [(6,.val (goInt (jW a b c)))] [] 0 [],Wo trivial ⟨?_,qQ⟩ trivial,rfl,rfl⟩
  ·exact r1
  ·exact congrArg (λz=>PV.val (goInt z)) e
 ·cases e
def CG:List PV->Option Ans
 |[.rs 6 n g]=>some ⟨some (isPL 4294967296 n g),.val (.bool (!aD (λi=>!ah (ae g i)) n)),[]⟩
 |_=>none
def D130:Opt:={  }
theorem Fr:am D130.toOrd Tryz.f130 1=true:=by kernel_rfl
theorem f130:FnOk Tryz.prog 130 CG:=by
 refine FnOk.ofW aj (an (l:=[(59,Dq)]) (own:=[]) (inl:=[]) (by simp [f59]) (by simp)) Tryz.func130 D130 1 Fr λargs r e=>?_;unfold CG at e;split at e
 ·rename_i n g
  cases e;refine⟨by simp,λhm=>?_⟩;obtain⟨hg,hn⟩:=hm _ rfl;refine⟨[],aa [(0,.rs 6 n (λi=>(ae g i).cells))] [] 0 [],Wo trivial ⟨⟨rfl,rfl,λi hi=>(hg i hi).1.symm⟩,qQ⟩ trivial,?_⟩;obtain⟨V,hV⟩:∃V,V = !aD (λi=>!ah (ae g i)) n:=⟨_,rfl⟩;rw [<-hV];have hno:∀b:Bool,(bW b != 0)=true->b=false:=λb h=>by cases b<;>first|rfl|cases h
  have hyes:∀b:Bool,(bW b != 0)=false->b=true:=λb h=>by cases b<;>first|rfl|cases h
  with_unfolding_all refine⟨Nat,λi=>i<=n/\∀j,j < i->ah (ae g j)=true,λi=>aa [(0,.rs 6 n (λi=>(ae g i).cells)),(3,.val (goInt i))] [] 0 [],λi=>n - i,⟨0,[],⟨Nat.zero_le _,λj hj=>absurd hj (Nat.not_lt_zero j)⟩,Wo trivial ⟨qW,rfl,qQ⟩ trivial⟩,λi hi=>?_⟩
  obtain⟨hin,hI⟩:i<=n/\∀j,j < i->ah (ae g j)=true:=hi;with_unfolding_all refine⟨λh1=>?_,λh1=>⟨[],aa [(2,.val (.bool V))] [] 0 [],Wo trivial ⟨?_,qQ⟩ trivial,rfl,rfl⟩⟩
  ·have h1:(i:Int) < n:=bN h1;have ei:(i:Int).toNat=i:=Int.toNat_natCast i;have hp:=(hg i (by omega)).2;rw [<-ei] at hp;with_unfolding_all refine⟨⟨by omega,by omega⟩,⟨ae g (i:Int).toNat,rfl,hp⟩,λh2=>⟨[],aa [(2,.val (.bool V))] [] 0 [],Wo trivial ⟨?_,qQ⟩ trivial,rfl,rfl⟩,λh2=>⟨i+1,[],⟨by omega,?_⟩,by show n - (i+1) < n - i;omega,Wo trivial ⟨qW,?_,qQ⟩ trivial⟩⟩
   ·have h2:ah (ae g (i:Int).toNat)=false:=hno _ h2;rw [ei] at h2;rw [hV,bl.2 ⟨i,by omega,by rw [h2];rfl⟩];rfl
   ·have h2:ah (ae g (i:Int).toNat)=true:=hyes _ h2;rw [ei] at h2;intro j hj;rcases Nat.lt_or_ge j i with h|h
    ·exact hI j h
    ·obtain rfl:j=i:=by omega
     exact h2
   ·show PV.val (.int .i64 (IntKind.i64.wrap ((i:Int)+1)))=PV.val (.int .i64 ((i+1:Nat):Int));rw [wrap64 (by omega) (by omega)];rfl
  ·have h1:(n:Int)<=i:=dC h1;rw [hV,ay.2 λj hj=>by rw [hI j (by omega)];rfl];rfl
 ·cases e
end Go.Proofs
namespace Go.Num
def iQ:List PV->Nat×(Nat->List PV)
 |[.rs 6 n g]=>(n,g)
 |_=>(0,λ_=>[])
def Dr (p u:RatS):Bool:=p.s==u.s&&(p.b==u.b&&(p.c==u.c&&true))
def bE (p u:PtS):Bool:=Dr p.x u.x&&(Dr p.y u.y&&true)
def Hc (k:Nat) (c:List PV):Prop:=c=[.rs 6 (iQ c).1 (λi=>(ae (iQ c).2 i).cells)]/\isPL k (iQ c).1 (iQ c).2/\0 < (iQ c).1
def ld (k:Nat) (c:List PV):Prop:=c=(cz c).cells/\(cz c).le k
def mZ (u v:PtS):Bool:=decide (bg v u<=0)
def dw (a b v:PtS):Bool:=!bE v a&&!bE v b&&decide (jW a b v<=0)
theorem Bh {h:Nat->List PV} {x:List PV} (e:h 0=x):∀i,i < 1->x=h i:=λi hi=>by
 have:i=0:=by omega
 rw [this,e]
end Go.Num
namespace Go.Proofs
def CH:List PV->Option Ans
 |[.val v,.rp 1 1 h 0 0]=>some ⟨some (isPk 10000 v/\Hc 10000 (h 0)),.val (.bool (mZ (ae (iQ (h 0)).2 0) (aO v))),[]⟩
 |_=>none
theorem Fs:am {} Tryz.f168 2=true:=by kernel_rfl
theorem f168:FnOk Tryz.prog 168 CH:=by
 refine FnOk.ofW aj (an (l:=[(38,G8)]) (own:=[]) (inl:=[]) (by simp [f38]) (by simp)) Tryz.func168 {} 2 Fs λargs r e=>?_;unfold CH at e;split at e
 ·rename_i v h
  cases e;refine⟨by simp,λhm=>?_⟩;obtain⟨⟨p,rfl,hp⟩,h1,⟨hg,hn⟩,h0⟩:=hm _ rfl;generalize (iQ (h 0)).1=n at *
  generalize (iQ (h 0)).2=g at *
  refine⟨[],aa [(0,.val p.v),(1,.rp 1 1 (λ_=>[.rs 6 n (λi=>(ae g i).cells)]) 0 0)] [] 0 [],Wo trivial ⟨rfl,?_,qQ⟩ trivial,?_⟩
  ·exact⟨rfl,rfl,rfl,rfl,Bh h1⟩
  ·have h0':0 < n:=h0;have hp':=hp.mono (show 10000<=4294967296 by decide);have hu:=(hg 0 h0').2.mono (show 10000<=4294967296 by decide);with_unfolding_all refine⟨⟨by decide,by omega⟩,⟨⟨p,rfl,hp'⟩,ae g (Int.toNat 0),rfl,hu⟩,[],aa [(3,.val (.bool (mZ (ae g 0) p)))] [] 0 [],Wo trivial ⟨?_,qQ⟩ trivial,rfl,rfl⟩
   rfl
 ·cases e
def CI:List PV->Option Ans
 |[.val v,.rp 6 1 h 0 0,.rp 6 1 h' 0 0]=>some ⟨some (isPk 10000 v/\ld 10000 (h 0)/\ld 10000 (h' 0)),.val (.bool (dw (cz (h 0)) (cz (h' 0)) (aO v))),[]⟩
 |_=>none
theorem Ft:am {} Tryz.f170 3=true:=by kernel_rfl
theorem f170:FnOk Tryz.prog 170 CI:=by
 refine FnOk.ofW aj (an (l:=[(107,Ag)]) (own:=[]) (inl:=[]) (by simp [f107]) (by simp)) Tryz.func170 {} 3 Ft λargs r e=>?_;unfold CI at e;split at e
 ·rename_i v h h'
  cases e;refine⟨by simp,λhm=>?_⟩;obtain⟨⟨p,rfl,hp⟩,⟨h1,ha⟩,h2,hb⟩:=hm _ rfl;generalize cz (h 0)=a at *
  generalize cz (h' 0)=b at *
  refine⟨[],aa [(0,.val p.v),(1,.rp 6 1 (λ_=>a.cells) 0 0),(2,.rp 6 1 (λ_=>b.cells) 0 0)] [] 0 [],Wo trivial ⟨rfl,?_,?_,qQ⟩ trivial,?_⟩
  ·exact⟨rfl,rfl,rfl,rfl,Bh h1⟩
  ·exact⟨rfl,rfl,rfl,rfl,Bh h2⟩
  ·have k1:(!bE p a)=true->(!bE p b)=true->PV.val (.bool (decide (jW a b p<=0)))=PV.val (.bool (dw a b p)):=λh h'=>by
    unfold dw;rw [h,h'];rfl
   have k2:(!bE p b) = !true->PV.val (.bool false)=PV.val (.bool (dw a b p)):=λh=>by
    unfold dw;rw [h,Bool.not_true,Bool.and_false,Bool.false_and]
   have k3:(!bE p a) = !true->PV.val (.bool false)=PV.val (.bool (dw a b p)):=λh=>by
    unfold dw;rw [h,Bool.not_true,Bool.false_and,Bool.false_and]
   with_unfolding_all refine⟨λh3=>⟨λh4=>⟨⟨⟨a,rfl,ha⟩,⟨b,rfl,hb⟩,p,rfl,hp⟩,⟨[],aa [(4,.val (.bool (dw a b p)))] [] 0 [],Wo trivial ⟨?_,qQ⟩ trivial,rfl,rfl⟩⟩,λh4=>⟨[],aa [(4,.val (.bool (dw a b p)))] [] 0 [],Wo trivial ⟨?_,qQ⟩ trivial,rfl,rfl⟩⟩,λh3=>⟨λh4=>(nomatch h4),λh4=>⟨[],aa [(4,.val (.bool (dw a b p)))] [] 0 [],Wo trivial ⟨?_,qQ⟩ trivial,rfl,rfl⟩⟩⟩
   ·exact k1 h3 h4
   ·exact k2 h4
   ·exact k3 h3
 ·cases e
def pw:List PV->Option Ans
 |[.rs 6 n g,.fn (.func 168) [] [.rp 1 1 cc 0 0]]=>some ⟨some (isPL 10000 n g/\Hc 10000 (cc 0)),.val (.int .i64 (dj (λi=>mZ (ae (iQ (cc 0)).2 0) (ae g i)) n 0)),[]⟩
 |_=>none
theorem Al:FnOk Tryz.prog 83 pw:=by
 refine FnOk.ofW aj (an (l:=[(168,CH)]) (own:=[]) (inl:=[]) (by simp [f168]) (by simp)) Tryz.func83 {} 2 tG λargs r e=>?_;unfold pw at e;split at e
 ·rename_i n g cc
  cases e;refine⟨by simp,λhm=>?_⟩;obtain⟨⟨hg,hn⟩,h1⟩:=hm _ rfl;refine⟨[],aa [(0,.rs 6 n (λi=>(ae g i).cells)),(1,.fn (.func 168) [] [.rp 1 1 cc 0 0])] [] 0 [],Wo trivial ⟨⟨rfl,rfl,λi hi=>(hg i hi).1.symm⟩,⟨rfl,trivial,⟨rfl,rfl,rfl,rfl,λ_ _=>rfl⟩,qQ⟩,qQ⟩ trivial,?_⟩;obtain⟨X,hX⟩:∃X,X=dj (λi=>mZ (ae (iQ (cc 0)).2 0) (ae g i)) n 0:=⟨_,rfl⟩;rw [<-hX];with_unfolding_all refine⟨Nat,λi=>i<=n/\dj (λi=>mZ (ae (iQ (cc 0)).2 0) (ae g i)) (n - i) i=X,λi=>aa [(0,.rs 6 n (λi=>(ae g i).cells)),(1,.fn (.func 168) [] [.rp 1 1 cc 0 0]),(7,.val (goInt n)),(8,.val (goInt i))] [] 0 [],λi=>n - i,⟨0,[],⟨Nat.zero_le _,hX.symm⟩,Wo trivial ⟨qW,⟨rfl,trivial,⟨rfl,rfl,rfl,rfl,λ_ _=>rfl⟩,qQ⟩,rfl,rfl,qQ⟩ trivial⟩,λi hi=>?_⟩
  obtain⟨hin,hI⟩:i<=n/\dj (λi=>mZ (ae (iQ (cc 0)).2 0) (ae g i)) (n - i) i=X:=hi;with_unfolding_all refine⟨λh=>?_,λh=>⟨[],aa [(4,.val (.int .i64 X))] [] 0 [],Wo trivial ⟨?_,qQ⟩ trivial,rfl,rfl⟩⟩
  ·have h:(i:Int) < n:=bN h;have e:(i:Int).toNat=i:=Int.toNat_natCast i;have hstep:dj (λi=>mZ (ae (iQ (cc 0)).2 0) (ae g i)) (n - i) i=bif mZ (ae (iQ (cc 0)).2 0) (ae g i) then(i:Int) else dj (λi=>mZ (ae (iQ (cc 0)).2 0) (ae g i)) (n - (i+1)) (i+1):=by
    rw [show n - i=(n - (i+1))+1 by omega];rfl
   have hip:=(hg i (by omega)).2;rw [<-e] at hip;with_unfolding_all refine⟨⟨by omega,by omega⟩,⟨⟨ae g (i:Int).toNat,rfl,hip⟩,h1⟩,λh'=>⟨[],aa [(4,.val (.int .i64 X))] [] 0 [],Wo trivial ⟨?_,qQ⟩ trivial,rfl,rfl⟩,λh'=>⟨i+1,[],⟨by omega,?_⟩,by show n - (i+1) < n - i;omega,Wo trivial ⟨qW,⟨rfl,trivial,⟨rfl,rfl,rfl,rfl,λ_ _=>rfl⟩,qQ⟩,rfl,?_,qQ⟩ trivial⟩⟩
   ·have h':(mZ (ae (iQ (cc 0)).2 0) (ae g (i:Int).toNat))=true:=h';rw [e] at h';rw [h',cond_true] at hstep;exact congrArg (λz=>PV.val (.int .i64 z)) (hstep.symm.trans hI)
   ·have h':(mZ (ae (iQ (cc 0)).2 0) (ae g (i:Int).toNat))=false:=h';rw [e] at h';rw [h',cond_false] at hstep;exact hstep.symm.trans hI
   ·show PV.val (.int .i64 (IntKind.i64.wrap ((i:Int)+1)))=PV.val (.int .i64 ((i+1:Nat):Int));rw [wrap64 (by omega) (by omega)];rfl
  ·have h:(n:Int)<=i:=dC h;rw [show n - i=0 by omega] at hI;exact congrArg (λz=>PV.val (.int .i64 z)) hI
 ·cases e
def px:List PV->Option Ans
 |[.rs 6 n g,.fn (.func 168) [] [.rp 1 1 cc 0 0]]=>some ⟨some (isPL 10000 n g/\Hc 10000 (cc 0)),.val (.bool (aD (λi=>mZ (ae (iQ (cc 0)).2 0) (ae g i)) n)),[]⟩
 |_=>none
theorem Am:FnOk Tryz.prog 65 px:=by
 refine FnOk.ofW aj (an (l:=[(83,pw)]) (own:=[]) (inl:=[]) (by simp [Al]) (by simp)) Tryz.func65 {} 2 tH λargs r e=>?_;unfold px at e;split at e
 ·rename_i n g cc
  cases e;refine⟨by simp,λhm=>?_⟩;have hp:=hm _ rfl;refine⟨[],aa [(0,.rs 6 n g),(1,.fn (.func 168) [] [.rp 1 1 cc 0 0])] [] 0 [],Wo trivial ⟨⟨rfl,rfl,λi hi=>rfl⟩,⟨rfl,trivial,⟨rfl,rfl,rfl,rfl,λ_ _=>rfl⟩,qQ⟩,qQ⟩ trivial,?_⟩;with_unfolding_all refine⟨hp,[],aa [(4,.val (.bool (aD (λi=>mZ (ae (iQ (cc 0)).2 0) (ae g i)) n)))] [] 0 [],Wo trivial ⟨?_,qQ⟩ trivial,rfl,rfl⟩
  exact congrArg (λz=>PV.val (.bool z)) (ef _ _)
 ·cases e
def py:List PV->Option Ans
 |[.rs 6 n g,.fn (.func 170) [] [.rp 6 1 cc 0 0,.rp 6 1 dd 0 0]]=>some ⟨some (isPL 10000 n g/\ld 10000 (cc 0)/\ld 10000 (dd 0)),.val (.int .i64 (dj (λi=>dw (cz (cc 0)) (cz (dd 0)) (ae g i)) n 0)),[]⟩
 |_=>none
theorem An:FnOk Tryz.prog 83 py:=by
 refine FnOk.ofW aj (an (l:=[(170,CI)]) (own:=[]) (inl:=[]) (by simp [f170]) (by simp)) Tryz.func83 {} 2 tG λargs r e=>?_;unfold py at e;split at e
 ·rename_i n g cc dd
  cases e;refine⟨by simp,λhm=>?_⟩;obtain⟨⟨hg,hn⟩,h1,h2⟩:=hm _ rfl;refine⟨[],aa [(0,.rs 6 n (λi=>(ae g i).cells)),(1,.fn (.func 170) [] [.rp 6 1 cc 0 0,.rp 6 1 dd 0 0])] [] 0 [],Wo trivial ⟨⟨rfl,rfl,λi hi=>(hg i hi).1.symm⟩,⟨rfl,trivial,⟨rfl,rfl,rfl,rfl,λ_ _=>rfl⟩,⟨rfl,rfl,rfl,rfl,λ_ _=>rfl⟩,qQ⟩,qQ⟩ trivial,?_⟩;obtain⟨X,hX⟩:∃X,X=dj (λi=>dw (cz (cc 0)) (cz (dd 0)) (ae g i)) n 0:=⟨_,rfl⟩;rw [<-hX];with_unfolding_all refine⟨Nat,λi=>i<=n/\dj (λi=>dw (cz (cc 0)) (cz (dd 0)) (ae g i)) (n - i) i=X,λi=>aa [(0,.rs 6 n (λi=>(ae g i).cells)),(1,.fn (.func 170) [] [.rp 6 1 cc 0 0,.rp 6 1 dd 0 0]),(7,.val (goInt n)),(8,.val (goInt i))] [] 0 [],λi=>n - i,⟨0,[],⟨Nat.zero_le _,hX.symm⟩,Wo trivial ⟨qW,⟨rfl,trivial,⟨rfl,rfl,rfl,rfl,λ_ _=>rfl⟩,⟨rfl,rfl,rfl,rfl,λ_ _=>rfl⟩,qQ⟩,rfl,rfl,qQ⟩ trivial⟩,λi hi=>?_⟩
  obtain⟨hin,hI⟩:i<=n/\dj (λi=>dw (cz (cc 0)) (cz (dd 0)) (ae g i)) (n - i) i=X:=hi;with_unfolding_all refine⟨λh=>?_,λh=>⟨[],aa [(4,.val (.int .i64 X))] [] 0 [],Wo trivial ⟨?_,qQ⟩ trivial,rfl,rfl⟩⟩
  ·have h:(i:Int) < n:=bN h;have e:(i:Int).toNat=i:=Int.toNat_natCast i;have hstep:dj (λi=>dw (cz (cc 0)) (cz (dd 0)) (ae g i)) (n - i) i=bif dw (cz (cc 0)) (cz (dd 0)) (ae g i) then(i:Int) else dj (λi=>dw (cz (cc 0)) (cz (dd 0)) (ae g i)) (n - (i+1)) (i+1):=by
    rw [show n - i=(n - (i+1))+1 by omega];rfl
   have hip:=(hg i (by omega)).2;rw [<-e] at hip;with_unfolding_all refine⟨⟨by omega,by omega⟩,⟨⟨ae g (i:Int).toNat,rfl,hip⟩,h1,h2⟩,λh'=>⟨[],aa [(4,.val (.int .i64 X))] [] 0 [],Wo trivial ⟨?_,qQ⟩ trivial,rfl,rfl⟩,λh'=>⟨i+1,[],⟨by omega,?_⟩,by show n - (i+1) < n - i;omega,Wo trivial ⟨qW,⟨rfl,trivial,⟨rfl,rfl,rfl,rfl,λ_ _=>rfl⟩,⟨rfl,rfl,rfl,rfl,λ_ _=>rfl⟩,qQ⟩,rfl,?_,qQ⟩ trivial⟩⟩
   ·have h':(dw (cz (cc 0)) (cz (dd 0)) (ae g (i:Int).toNat))=true:=h';rw [e] at h';rw [h',cond_true] at hstep;exact congrArg (λz=>PV.val (.int .i64 z)) (hstep.symm.trans hI)
   ·have h':(dw (cz (cc 0)) (cz (dd 0)) (ae g (i:Int).toNat))=false:=h';rw [e] at h';rw [h',cond_false] at hstep;exact hstep.symm.trans hI
   ·show PV.val (.int .i64 (IntKind.i64.wrap ((i:Int)+1)))=PV.val (.int .i64 ((i+1:Nat):Int));rw [wrap64 (by omega) (by omega)];rfl
  ·have h:(n:Int)<=i:=dC h;rw [show n - i=0 by omega] at hI;exact congrArg (λz=>PV.val (.int .i64 z)) hI
 ·cases e
def pz:List PV->Option Ans
 |[.rs 6 n g,.fn (.func 170) [] [.rp 6 1 cc 0 0,.rp 6 1 dd 0 0]]=>some ⟨some (isPL 10000 n g/\ld 10000 (cc 0)/\ld 10000 (dd 0)),.val (.bool (aD (λi=>dw (cz (cc 0)) (cz (dd 0)) (ae g i)) n)),[]⟩
 |_=>none
theorem Ao:FnOk Tryz.prog 65 pz:=by
 refine FnOk.ofW aj (an (l:=[(83,py)]) (own:=[]) (inl:=[]) (by simp [An]) (by simp)) Tryz.func65 {} 2 tH λargs r e=>?_;unfold pz at e;split at e
 ·rename_i n g cc dd
  cases e;refine⟨by simp,λhm=>?_⟩;have hp:=hm _ rfl;refine⟨[],aa [(0,.rs 6 n g),(1,.fn (.func 170) [] [.rp 6 1 cc 0 0,.rp 6 1 dd 0 0])] [] 0 [],Wo trivial ⟨⟨rfl,rfl,λi hi=>rfl⟩,⟨rfl,trivial,⟨rfl,rfl,rfl,rfl,λ_ _=>rfl⟩,⟨rfl,rfl,rfl,rfl,λ_ _=>rfl⟩,qQ⟩,qQ⟩ trivial,?_⟩;with_unfolding_all refine⟨hp,[],aa [(4,.val (.bool (aD (λi=>dw (cz (cc 0)) (cz (dd 0)) (ae g i)) n)))] [] 0 [],Wo trivial ⟨?_,qQ⟩ trivial,rfl,rfl⟩
  exact congrArg (λz=>PV.val (.bool z)) (ef _ _)
 ·cases e
end Go.Proofs
namespace Go.Num
def IJ (h:Nat->List PV):Prop:=(h=λ_=>[.rs 6 (iQ (h 0)).1 (λi=>(ae (iQ (h 0)).2 i).cells)])/\(iQ (h 0)).1<=140737488355328
end Go.Num
namespace Go.Proofs
def Ap:List PV->Option Ans
 |[.rs 6 n g]=>some ⟨some (∀i,i < n->g i=(ae g i).cells),.fn (.func 207) [] [.rp 1 1 (λ_=>[.rs 6 n (λi=>(ae g i).cells)]) 0 0],[]⟩
 |_=>none
theorem Fu:am {} Tryz.f169 1=true:=by kernel_rfl
theorem f169:FnOk Tryz.prog 169 Ap:=by
 refine FnOk.ofW aj (an (l:=[]) (own:=[]) (inl:=[]) (by simp) (by simp)) Tryz.func169 {} 1 Fu λargs r e=>?_;unfold Ap at e;split at e
 ·rename_i n g
  cases e;refine⟨by simp,λhm=>?_⟩;have hg:=hm _ rfl;refine⟨[],aa [(0,.rs 6 n (λi=>(ae g i).cells))] [] 0 [],Wo trivial ⟨⟨rfl,rfl,λi hi=>(hg i hi).symm⟩,qQ⟩ trivial,?_⟩;with_unfolding_all exact⟨[some 0],aa [(2,.fn (.func 207) [] [.ptr 0 0 0 0])] [⟨34,1,0,true,false,1,λ_=>[.rs 6 n (λi=>(ae g i).cells)]⟩] 1 [],Wo ⟨qZ ⟨⟨qW,rfl⟩,qQ⟩,qQ⟩ ⟨⟨rfl,trivial,pP,qQ⟩,qQ⟩ trivial,rfl,rfl⟩
 ·cases e
def Aq:List PV->Option gJ
 |[.rp 1 1 h 0 0]=>some ⟨some (IJ h),(iQ (h 0)).1,λi=>[.val (ae (iQ (h 0)).2 i).v,.val (ae (iQ (h 0)).2 ((i+1)%(iQ (h 0)).1)).v]⟩
 |_=>none
def D207:Opt:={ perm:=jr 3 (rds 10) }
theorem Fv:am D207.toOrd Tryz.f207 2=true:=by kernel_rfl
theorem f207:SeqFn Tryz.prog 207 Aq:=by
 refine SeqFn.of aj (an (l:=[]) (own:=[]) (inl:=[]) (by simp) (by simp)) Tryz.func207 D207 2 Fv rfl λargs r e=>?_;unfold Aq at e;split at e
 ·rename_i h
  cases e;refine⟨by simp,λhm l=>?_⟩;obtain⟨h1,hn⟩:=hm _ rfl;generalize (iQ (h 0)).1=n at *
  generalize (iQ (h 0)).2=g at *
  subst h1;with_unfolding_all refine⟨Nat,λx=>x<=n,λx=>aa [(0,.val (.func (.yield l) ⟨[]⟩ ⟨[]⟩)),(1,.rp 1 1 (λ_=>[.rs 6 n (λi=>(ae g i).cells)]) 0 0),(5,.rs 6 n (λi=>(ae g i).cells)),(6,.val (goInt n)),(7,.val (goInt (x:Nat)))] [] 0 [[(0,.val (.int .i64 (x:Nat))),(1,.val (.bool false))]],λx=>n - x,⟨0,[],Nat.zero_le _,Wo trivial ⟨rfl,⟨rfl,rfl,rfl,rfl,λ_ _=>rfl⟩,qW,rfl,rfl,qQ⟩ ⟨⟨rfl,rfl,qQ⟩,qQ⟩⟩,λx hx=>?_⟩
  have hx:x<=n:=hx;with_unfolding_all refine⟨λh1=>?_,λh1=>?_⟩
  ·have h1:(x:Int) < n:=bN h1;have wx:IntKind.i64.wrap ((x:Int)+1)=((x+1:Nat):Int):=by rw [wrap64 (by omega) (by omega)];rfl
   have hm:(IntKind.i64.wrap ((x:Int)+1)).tmod (n:Int)=(((x+1)%n:Nat):Int):=by rw [wx];rfl
   have hml:=Nat.mod_lt (x+1) (show 0 < n by omega);have hxn:x < n:=by omega
   have kd:∀(a b:Nat),a=x->b=(x+1)%n->[PV.val (ae g a).v,PV.val (ae g b).v]=[PV.val (ae g x).v,PV.val (ae g ((x+1)%n)).v]:=λa b ha hb=>by rw [ha,hb]
   have m1:0<=(IntKind.i64.wrap ((x:Int)+1)).tmod (n:Int)/\(IntKind.i64.wrap ((x:Int)+1)).tmod (n:Int) < (n:Int):=by rw [hm];omega
   have m2:(IntKind.i64.wrap ((x:Int)+1)).tmod (n:Int)=(((x+1)%n:Nat):Int):=hm;have m3:((IntKind.i64.wrap ((x:Int)+1)).tmod (n:Int)).toNat=(x+1)%n:=by rw [hm];exact Int.toNat_natCast _
   with_unfolding_all refine⟨⟨by omega,by omega⟩,by omega,m1,rfl,x,rfl,hxn,?_,⟨λh=>(nomatch h),λh=>⟨x+1,[],hxn,by show n - (x+1) < n - x;omega,Wo trivial ⟨rfl,⟨rfl,rfl,rfl,rfl,λ_ _=>rfl⟩,qW,rfl,congrArg (λz=>PV.val (.int .i64 z)) wx,qQ⟩ ⟨⟨rfl,rfl,qQ⟩,qQ⟩⟩⟩,⟨λh=>trivial,λh=>(nomatch h)⟩⟩
   exact kd _ _ (Int.toNat_natCast x) m3
  ·have h1:(n:Int)<=x:=dC h1;show(x:Int)=(n:Nat);omega
 ·cases e
def Ar:List PV->Option Ans
 |[.rs 6 n g]=>some ⟨some (isPL 4294967296 n g),.val (.bool (!aD (λi=>!ah (ae g i)) n)),[]⟩
 |_=>none
theorem Fw:am {} Tryz.f167 1=true:=by kernel_rfl
theorem f167:FnOk Tryz.prog 167 Ar:=by
 refine FnOk.ofW aj (an (l:=[(65,pu)]) (own:=[]) (inl:=[]) (by simp [Ae]) (by simp)) Tryz.func167 {} 1 Fw λargs r e=>?_;unfold Ar at e;split at e
 ·rename_i n g
  cases e;refine⟨by simp,λhm=>?_⟩;have hg:=hm _ rfl;refine⟨[],aa [(0,.rs 6 n g)] [] 0 [],Wo trivial ⟨⟨rfl,rfl,λi hi=>rfl⟩,qQ⟩ trivial,?_⟩;with_unfolding_all exact⟨hg,[],aa [(2,.val (.bool (!aD (λi=>!ah (ae g i)) n)))] [] 0 [],Wo trivial ⟨rfl,qQ⟩ trivial,rfl,rfl⟩
 ·cases e
end Go.Proofs
theorem Go.Ex.FnOk.orElse {P:Go.Program} {f:Go.FuncId} {s t:List Go.Ex.PV->Option Go.Ex.Ans} (h1:Go.Ex.FnOk P f s) (h2:Go.Ex.FnOk P f t):Go.Ex.FnOk P f (λa=>(s a).orElse λ_=>t a):=λargs r e=>by
 replace e:((s args).orElse λ_=>t args)=some r:=e;cases hs:s args with
 |some x =>
  rw [hs] at e;exact h1 args r (by rw [hs];exact e)
 |none =>
  rw [hs] at e;exact h2 args r e
namespace Go.Num
def bh (n:Nat) (p:Nat->PtS):Int:=bif decide (n < 3)||decide (64 < n) then 4 else bif aD (λi=>!ah (p i)) n then 1 else bif aD (λi=>mZ (p 0) (p (1+i))) (n - 1) then 8 else bif aD (λe=>aD (λi=>dw (p e) (p ((e+1)%n)) (p i)) n) n then 15 else 0
end Go.Num
namespace Go.Proofs
def As:List PV->Option Ans
 |[.rs 6 n g]=>some ⟨some (isPL 10000 n g),.val (.int .i64 (bh n (ae g))),[]⟩
 |_=>none
def D124:Opt:={ join:=d7 [1] }
theorem Fx:am D124.toOrd Tryz.f124 1=true:=by kernel_rfl
theorem f124:FnOk Tryz.prog 124 As:=by
 refine FnOk.ofW aj (oN (l:=[(167,Ar),(65,λa=>(px a).orElse λ_=>pz a),(169,Ap)]) (own:=[]) (inl:=[]) (sq:=[(207,Aq)]) ?_ (by simp) (by simp [f207])) Tryz.func124 D124 1 Fx λargs r e=>?_
 ·simp only [List.mem_cons,List.not_mem_nil,or_false,forall_eq_or_imp,forall_eq];exact⟨f167,FnOk.orElse Am Ao,f169⟩
 unfold As at e;split at e
 ·rename_i n g
  cases e;refine⟨by simp,λhm=>?_⟩;obtain⟨hg,hn⟩:=hm _ rfl;refine⟨[],aa [(0,.rs 6 n (λi=>(ae g i).cells))] [] 0 [],Wo trivial ⟨⟨rfl,rfl,λi hi=>(hg i hi).1.symm⟩,qQ⟩ trivial,?_⟩;have pl:isPL 10000 n (λi=>(ae g i).cells):=⟨λi hi=>⟨rfl,(hg i hi).2⟩,hn⟩;have pl2:isPL 4294967296 n (λi=>(ae g i).cells):=⟨λi hi=>⟨rfl,((hg i hi).2).mono (by decide)⟩,hn⟩;with_unfolding_all refine⟨Unit,λ_=>(decide (n < 3)||decide (64 < n))=false,λ_=>aa [(1,.ptr 0 0 0 0),(2,.ptr 1 1 0 0)] [⟨34,1,0,true,false,1,λ_=>[.rs 6 n (λi=>(ae g i).cells)]⟩,⟨38,1,1,true,false,1,λ_=>[.val (.int .i64 0)]⟩] 2 [],?_,λ_ h1=>?_⟩
  ·have j1:decide ((n:Int) < 3)=false->decide ((n:Int) > 64)=false->(decide (n < 3)||decide (64 < n))=false:=λh h'=>by
    have h:=of_decide_eq_false h;have h':=of_decide_eq_false h';rw [decide_eq_false (by omega),decide_eq_false (by omega)];rfl
   have v4:(decide (n < 3)||decide (64 < n))=true->PV.val (.int .i64 4)=PV.val (.int .i64 (bh n (ae g))):=λh=>by
    unfold bh;rw [h];rfl
   have q1:decide ((n:Int) > 64)=true->(decide (n < 3)||decide (64 < n))=true:=λh=>by
    have h:=of_decide_eq_true h;rw [decide_eq_true (show 64 < n by omega),Bool.or_true]
   have q2:decide ((n:Int) < 3) = !false->(decide (n < 3)||decide (64 < n))=true:=λh=>by
    have h:(n:Int) < 3:=of_decide_eq_true h;rw [decide_eq_true (show n < 3 by omega),Bool.true_or]
   with_unfolding_all refine⟨λh1=>⟨λh2=>⟨[some 1],aa [(2,.ptr 0 0 0 0)] [⟨38,1,0,true,false,1,λ_=>[.val (.int .i64 (bh n (ae g)))]⟩] 1 [],Wo ⟨qZ ⟨⟨v4 (q1 h2),rfl⟩,qQ⟩,qQ⟩ ⟨pP,qQ⟩ trivial,rfl,rfl⟩,λh2=>⟨(),[some 0,some 1],j1 h1 h2,Wo ⟨qZ ⟨⟨qW,rfl⟩,qQ⟩,qY,qQ⟩ ⟨pP,pP,qQ⟩ trivial⟩⟩,λh1=>⟨λh2=>⟨[some 1],aa [(2,.ptr 0 0 0 0)] [⟨38,1,0,true,false,1,λ_=>[.val (.int .i64 (bh n (ae g)))]⟩] 1 [],Wo ⟨qZ ⟨⟨v4 (q2 h1),rfl⟩,qQ⟩,qQ⟩ ⟨pP,qQ⟩ trivial,rfl,rfl⟩,λh2=>(nomatch h2)⟩⟩
  ·have h1:(decide (n < 3)||decide (64 < n))=false:=h1;have hn3:3<=n:=by
    rw [Bool.or_eq_false_iff] at h1;have:=of_decide_eq_false h1.1;omega
   obtain⟨A1,hA1⟩:∃b,b=aD (λi=>!ah (ae g i)) n:=⟨_,rfl⟩;obtain⟨A2,hA2⟩:∃b,b=aD (λi=>mZ (ae g 0) (ae g (1+i))) (n - 1):=⟨_,rfl⟩;obtain⟨A3,hA3⟩:∃b,b=aD (λe=>aD (λi=>dw (ae g e) (ae g ((e+1)%n)) (ae g i)) n) n:=⟨_,rfl⟩;have vE:bh n (ae g)=bif A1 then 1 else bif A2 then 8 else bif A3 then 15 else 0:=by
    unfold bh;rw [h1,<-hA1,<-hA2,<-hA3];rfl
   have a1:(!!aD (λi=>!ah (ae (λi=>(ae g i).cells) i)) n)=A1:=by rw [hA1,Bool.not_not];rfl
   have a2:aD (λi=>mZ (ae (iQ ((λ(x:Nat)=>[PV.rs 6 n (λi=>(ae g i).cells)]) 0)).2 0) (ae (λk=>(λi=>(ae g i).cells) (Int.toNat 1+k)) i)) ((n:Int) - 1).toNat=A2:=by
    rw [hA2,show((n:Int) - 1).toNat=n - 1 by omega];rfl
   have v1:(!!aD (λi=>!ah (ae (λi=>(ae g i).cells) i)) n)=true->PV.val (.int .i64 1)=PV.val (.int .i64 (bh n (ae g))):=λh=>by
    rw [a1] at h;rw [vE,h];rfl
   have v8:(!!aD (λi=>!ah (ae (λi=>(ae g i).cells) i)) n)=false->aD (λi=>mZ (ae (iQ ((λ(x:Nat)=>[PV.rs 6 n (λi=>(ae g i).cells)]) 0)).2 0) (ae (λk=>(λi=>(ae g i).cells) (Int.toNat 1+k)) i)) ((n:Int) - 1).toNat=true->PV.val (.int .i64 8)=PV.val (.int .i64 (bh n (ae g))):=λh h'=>by
    rw [a1] at h;rw [a2] at h';rw [vE,h,h'];rfl
   have p2:isPL 10000 ((n:Int) - 1).toNat (λk=>(λi=>(ae g i).cells) (Int.toNat 1+k)):=⟨λi hi=>⟨rfl,(hg (1+i) (by omega)).2⟩,by omega⟩
   ·with_unfolding_all refine⟨pl2,λh2=>⟨[some 1],aa [(2,.ptr 0 0 0 0)] [⟨38,1,0,true,false,1,λ_=>[.val (.int .i64 (bh n (ae g)))]⟩] 1 [],Wo ⟨qZ ⟨⟨v1 h2,rfl⟩,qQ⟩,qQ⟩ ⟨pP,qQ⟩ trivial,rfl,rfl⟩,λh2=>⟨⟨by decide,by omega,by omega⟩,⟨p2,rfl,pl,by show 0 < n;omega⟩,λh3=>⟨[some 1],aa [(2,.ptr 0 0 0 0)] [⟨38,1,0,true,false,1,λ_=>[.val (.int .i64 (bh n (ae g)))]⟩] 1 [],Wo ⟨qZ ⟨⟨v8 h2 h3,rfl⟩,qQ⟩,qQ⟩ ⟨pP,qQ⟩ trivial,rfl,rfl⟩,λh3=>⟨λ_ _=>rfl,⟨rfl,hn⟩,?_⟩⟩⟩
    with_unfolding_all refine⟨Unit,λk _=>∀e,e < k->aD (λi=>dw (ae g e) (ae g ((e+1)%n)) (ae g i)) n=false,λ_=>aa [(1,.ptr 0 0 0 0),(2,.ptr 1 1 0 0)] [⟨34,1,0,true,false,1,λ_=>[.rs 6 n (λi=>(ae g i).cells)]⟩,⟨38,1,1,true,false,1,λ_=>[.val (.int .i64 0)]⟩] 2 [],⟨(),[some 0,some 1],λe he=>absurd he (Nat.not_lt_zero e),Wo ⟨qZ ⟨⟨qW,rfl⟩,qQ⟩,qY,qQ⟩ ⟨pP,pP,qQ⟩ trivial⟩,λk y hk hI=>?_,λy hI=>?_⟩
    ·have hk:k < n:=hk;have hI:∀e,e < k->aD (λi=>dw (ae g e) (ae g ((e+1)%n)) (ae g i)) n=false:=hI;have hml:=Nat.mod_lt (k+1) (show 0 < n by omega);have c1:ld 10000 (ae g k).cells:=⟨rfl,(hg k hk).2⟩;have c2:ld 10000 (ae g ((k+1)%n)).cells:=⟨rfl,(hg _ hml).2⟩;have w15:aD (λi=>dw (ae g k) (ae g ((k+1)%n)) (ae g i)) n=true->(!!aD (λi=>!ah (ae (λi=>(ae g i).cells) i)) n)=false->aD (λi=>mZ (ae (iQ ((λ(x:Nat)=>[PV.rs 6 n (λi=>(ae g i).cells)]) 0)).2 0) (ae (λk=>(λi=>(ae g i).cells) (Int.toNat 1+k)) i)) ((n:Int) - 1).toNat=false->PV.val (.int .i64 15)=PV.val (.int .i64 (bh n (ae g))):=λh h' h''=>by
      rw [a1] at h';rw [a2] at h'';have e3:A3=true:=by rw [hA3];exact bl.2 ⟨k,hk,h⟩
      rw [vE,h',h'',e3];rfl
     with_unfolding_all refine⟨rfl,⟨pl,c1,c2⟩,λh4=>?_,λh4=>⟨(),[some 0,some 1],?_,Wo ⟨qZ ⟨⟨qW,rfl⟩,qQ⟩,qY,qQ⟩ ⟨pP,pP,qQ⟩ trivial⟩⟩
     ·with_unfolding_all exact⟨[some 1],aa [(2,.ptr 0 0 0 0)] [⟨38,1,0,true,false,1,λ_=>[.val (.int .i64 (bh n (ae g)))]⟩] 1 [],Wo ⟨qZ ⟨⟨w15 h4 h2 h3,rfl⟩,qQ⟩,qQ⟩ ⟨pP,qQ⟩ trivial,rfl,rfl⟩
     ·intro e he;have he:e < k+1:=he;rcases Nat.lt_or_ge e k with h|h
      ·exact hI e h
      ·obtain rfl:e=k:=by omega
       exact h4
    ·have hI:∀e,e < n->aD (λi=>dw (ae g e) (ae g ((e+1)%n)) (ae g i)) n=false:=hI;have e3:A3=false:=by rw [hA3];exact ay.2 hI
     have w0:PV.val (.int .i64 0)=PV.val (.int .i64 (bh n (ae g))):=by
      rw [a1] at h2;rw [a2] at h3;rw [vE,h2,h3,e3];rfl
     with_unfolding_all exact⟨[some 1],aa [(2,.ptr 0 0 0 0)] [⟨38,1,0,true,false,1,λ_=>[.val (.int .i64 (bh n (ae g)))]⟩] 1 [],Wo ⟨qZ ⟨⟨w0,rfl⟩,qQ⟩,qQ⟩ ⟨pP,qQ⟩ trivial,rfl,rfl⟩
 ·cases e
end Go.Proofs
namespace Go.Num
def pn (c:Nat->List PV) (i:Nat):Nat:=(iQ (c i)).1
def pg (c:Nat->List PV) (i:Nat):Nat->List PV:=(iQ (c i)).2
def IK:List PV->Int×Int×Int
 |[.val (.int .i64 x),.val (.int .i64 y),.val (.int .i64 z)]=>(x,y,z)
 |_=>(0,0,0)
def ag (q:Int×Int×Int):List PV:=[.val (.int .i64 q.1),.val (.int .i64 q.2.1),.val (.int .i64 q.2.2)]
def ow (o:Nat->List PV) (i:Nat):Int×Int×Int:=IK (o i)
def bM (K k:Nat) (c:Nat->List PV):Prop:=(∀i,i < k->c i=[.rs 6 (pn c i) (pg c i)]/\isPL K (pn c i) (pg c i))/\k<=140737488355328
def cQ (l:Nat) (o:Nat->List PV):Prop:=(∀i,i < l->o i=ag (ow o i))/\l<=140737488355328
def bQ (e:Nat->Int):Nat->Nat->Int
 |0,_=>0
 |n+1,i=>bif e i==0 then bQ e n (i+1) else e i
def cq (n:Nat->Nat):Nat->Nat
 |0=>0
 |k+1=>cq n k+n k
def dn (q:Int×Int×Int):Bool:=decide (q.1 < 0)||decide (q.2.1 < 0)||decide (q.2.2 < 0)
def bT (lo hi:PtS) (k:Nat) (n:Nat->Nat) (p:Nat->Nat->PtS) (l:Nat) (q:Nat->Int×Int×Int):Int :=
 bif !ah lo||!ah hi then 1 else bif decide (32 < k) then 4 else bif !(bQ (λi=>bh (n i) (p i)) k 0==0) then bQ (λi=>bh (n i) (p i)) k 0
 else bif decide (396 < cq n k) then 4 else bif !decide (l=k) then 9 else bif aD (λi=>dn (q i)) l then 2 else 0
end Go.Num
namespace Go.Proofs
def Gt:List PV->Option Ans
 |[.agg [.val (.bool s1),.val (.string b1),.val (.string c1),.val (.bool s2),.val (.string b2),.val (.string c2),.val (.bool s3),.val (.string b3),.val (.string c3),.val (.bool s4),.val (.string b4),.val (.string c4),.rs 1 k c,.rs 3 l o]]=>some ⟨some ((PtS.le 4294967296 (PtS.mk ⟨s1,b1,c1⟩ ⟨s2,b2,c2⟩)/\PtS.le 4294967296 (PtS.mk ⟨s3,b3,c3⟩ ⟨s4,b4,c4⟩))/\bM 10000 k c/\cQ l o),.val (.int .i64 (bT (PtS.mk ⟨s1,b1,c1⟩ ⟨s2,b2,c2⟩) (PtS.mk ⟨s3,b3,c3⟩ ⟨s4,b4,c4⟩) k (pn c) (λi=>ae (pg c i)) l (ow o))),[]⟩
 |_=>none
def D89:Opt:={ join:=d7 [1] }
theorem Hd:am D89.toOrd Tryz.f89 1=true:=by kernel_rfl
theorem f89:FnOk Tryz.prog 89 Gt:=by
 refine FnOk.ofW aj (an (l:=[(67,Bg),(124,As)]) (own:=[]) (inl:=[]) (by simp [f67,f124]) (by simp)) Tryz.func89 D89 1 Hd λargs r e=>?_;unfold Gt at e;split at e
 ·rename_i s1 b1 c1 s2 b2 c2 s3 b3 c3 s4 b4 c4 k c l o
  cases e;refine⟨by simp,λhm=>?_⟩;obtain⟨⟨hlo,hhi⟩,⟨hc,hk⟩,ho,hl⟩:=hm _ rfl;obtain⟨lo,hlo'⟩:∃p,p=(PtS.mk ⟨s1,b1,c1⟩ ⟨s2,b2,c2⟩):=⟨_,rfl⟩;obtain⟨hi,hhi'⟩:∃p,p=(PtS.mk ⟨s3,b3,c3⟩ ⟨s4,b4,c4⟩):=⟨_,rfl⟩;have hc1:∀i,i < k->[.rs 6 (pn c i) (pg c i)]=c i:=λi hi=>(hc i hi).1.symm;have ho1:∀i,i < l->ag (ow o i)=o i:=λi hi=>(ho i hi).symm;refine⟨[],aa [(0,.agg [.val (.bool (PtS.mk ⟨s1,b1,c1⟩ ⟨s2,b2,c2⟩).x.s),.val (.string (PtS.mk ⟨s1,b1,c1⟩ ⟨s2,b2,c2⟩).x.b),.val (.string (PtS.mk ⟨s1,b1,c1⟩ ⟨s2,b2,c2⟩).x.c),.val (.bool (PtS.mk ⟨s1,b1,c1⟩ ⟨s2,b2,c2⟩).y.s),.val (.string (PtS.mk ⟨s1,b1,c1⟩ ⟨s2,b2,c2⟩).y.b),.val (.string (PtS.mk ⟨s1,b1,c1⟩ ⟨s2,b2,c2⟩).y.c),.val (.bool (PtS.mk ⟨s3,b3,c3⟩ ⟨s4,b4,c4⟩).x.s),.val (.string (PtS.mk ⟨s3,b3,c3⟩ ⟨s4,b4,c4⟩).x.b),.val (.string (PtS.mk ⟨s3,b3,c3⟩ ⟨s4,b4,c4⟩).x.c),.val (.bool (PtS.mk ⟨s3,b3,c3⟩ ⟨s4,b4,c4⟩).y.s),.val (.string (PtS.mk ⟨s3,b3,c3⟩ ⟨s4,b4,c4⟩).y.b),.val (.string (PtS.mk ⟨s3,b3,c3⟩ ⟨s4,b4,c4⟩).y.c),.rs 1 k (λi=>[.rs 6 (pn c i) (pg c i)]),.rs 3 l (λi=>ag (ow o i))])] [] 0 [],Wo trivial ⟨⟨rfl,rfl,rfl,rfl,rfl,rfl,rfl,rfl,rfl,rfl,rfl,rfl,⟨rfl,rfl,hc1⟩,⟨rfl,rfl,ho1⟩,qQ⟩,qQ⟩ trivial,?_⟩;rw [<-hlo'] at hlo ⊢;rw [<-hhi'] at hhi ⊢;clear hlo' hhi' hm;have hlo5:=hlo;have hno:∀b:Bool,(bW b != 0)=true->b=false:=λb h=>by cases b<;>first|rfl|cases h
  have hyes:∀b:Bool,(bW b != 0)=false->b=true:=λb h=>by cases b<;>first|rfl|cases h
  obtain⟨R,hR⟩:∃R,R=bT lo hi k (pn c) (λi=>ae (pg c i)) l (ow o):=⟨_,rfl⟩;rw [<-hR];have v1:(!ah lo||!ah hi)=true->PV.val (.int .i64 1)=PV.val (.int .i64 R):=λh=>by
   rw [hR];unfold bT;rw [h];rfl
  have n1:ah lo=false->(!ah lo||!ah hi)=true:=λh=>by rw [h];rfl
  have n2:ah hi=false->(!ah lo||!ah hi)=true:=λh=>by rw [h,Bool.not_false,Bool.or_true]
  have n3:ah lo=true->ah hi=true->(!ah lo||!ah hi)=false:=λh h'=>by rw [h,h'];rfl
  with_unfolding_all refine⟨Unit,λ_=>(!ah lo||!ah hi)=false,λ_=>aa [(1,.ptr 0 0 0 0)] [⟨31,14,0,true,false,1,λ_=>[.val (.bool lo.x.s),.val (.string lo.x.b),.val (.string lo.x.c),.val (.bool lo.y.s),.val (.string lo.y.b),.val (.string lo.y.c),.val (.bool hi.x.s),.val (.string hi.x.b),.val (.string hi.x.c),.val (.bool hi.y.s),.val (.string hi.y.b),.val (.string hi.y.c),.rs 1 k (λi=>[.rs 6 (pn c i) (pg c i)]),.rs 3 l (λi=>ag (ow o i))]⟩] 1 [],?_,λ_ h1=>?_⟩
  ·with_unfolding_all refine⟨⟨lo,rfl,hlo⟩,λh1=>⟨⟨hi,rfl,hhi⟩,λh2=>⟨[],aa [(2,.val (.int .i64 (R)))] [] 0 [],Wo trivial ⟨v1 (n2 (hno _ h2)),qQ⟩ trivial,rfl,rfl⟩,λh2=>⟨(),[some 0],n3 (hyes _ h1) (hyes _ h2),Wo ⟨qZ ⟨rq,rq,rq,rq,rq,rq,rq,rq,rq,rq,rq,rq,⟨qW,rfl⟩,⟨qW,rfl⟩,qQ⟩,qQ⟩ ⟨pP,qQ⟩ trivial⟩⟩,λh1=>⟨λh2=>⟨[],aa [(2,.val (.int .i64 (R)))] [] 0 [],Wo trivial ⟨v1 (n1 (hno _ h1)),qQ⟩ trivial,rfl,rfl⟩,λh2=>(nomatch h2)⟩⟩
  ·have h1:(!ah lo||!ah hi)=false:=h1;with_unfolding_all refine⟨λh2=>⟨[],aa [(2,.val (.int .i64 (R)))] [] 0 [],Wo trivial ⟨?_,qQ⟩ trivial,rfl,rfl⟩,λh2=>?_⟩
   ·have h2:(k:Int) > 32:=of_decide_eq_true h2;rw [hR];unfold bT;rw [h1,decide_eq_true (show 32 < k by omega)];rfl
   ·have h2:¬(k:Int) > 32:=of_decide_eq_false h2;have hk32:k<=32:=by omega
    have e2:R=bif !(bQ (λi=>bh (pn c i) (ae (pg c i))) k 0==0) then bQ (λi=>bh (pn c i) (ae (pg c i))) k 0 else bif decide (396 < cq (pn c) k) then 4 else bif !decide (l=k) then 9 else bif aD (λi=>dn (ow o i)) l then 2 else 0:=by
     rw [hR];unfold bT;rw [h1,decide_eq_false (show ¬32 < k by omega)];rfl
    clear hR;obtain⟨F,hF⟩:∃F,F=bQ (λi=>bh (pn c i) (ae (pg c i))) k 0:=⟨_,rfl⟩;rw [<-hF] at e2;with_unfolding_all refine⟨Nat,λi=>i<=k/\bQ (λi=>bh (pn c i) (ae (pg c i))) (k - i) i=F/\cq (pn c) i<=64*i,λi=>aa [(1,.ptr 0 0 0 0),(3,.val (.int .i64 (cq (pn c) i:Nat))),(26,.rs 1 k (λi=>[.rs 6 (pn c i) (pg c i)])),(27,.val (goInt k)),(28,.val (goInt i))] [⟨31,14,0,true,false,1,λ_=>[.val (.bool lo.x.s),.val (.string lo.x.b),.val (.string lo.x.c),.val (.bool lo.y.s),.val (.string lo.y.b),.val (.string lo.y.c),.val (.bool hi.x.s),.val (.string hi.x.b),.val (.string hi.x.c),.val (.bool hi.y.s),.val (.string hi.y.b),.val (.string hi.y.c),.rs 1 k (λi=>[.rs 6 (pn c i) (pg c i)]),.rs 3 l (λi=>ag (ow o i))]⟩] 1 [],λi=>k - i,⟨0,[some 0],⟨Nat.zero_le _,hF.symm,Nat.le_refl _⟩,Wo ⟨qZ ⟨rq,rq,rq,rq,rq,rq,rq,rq,rq,rq,rq,rq,⟨qW,rfl⟩,⟨qW,rfl⟩,qQ⟩,qQ⟩ ⟨pP,rfl,qW,rfl,rfl,qQ⟩ trivial⟩,λi hi=>?_⟩
    obtain⟨hik,hFi,hsum⟩:i<=k/\bQ (λi=>bh (pn c i) (ae (pg c i))) (k - i) i=F/\cq (pn c) i<=64*i:=hi;with_unfolding_all refine⟨λh3=>?_,λh3=>?_⟩
    ·have h3:(i:Int) < k:=bN h3;have ei:(i:Int).toNat=i:=Int.toNat_natCast i;have hpl:=(hc i (by omega)).2;have hst:bQ (λi=>bh (pn c i) (ae (pg c i))) (k - i) i=bif bh (pn c i) (ae (pg c i))==0 then bQ (λi=>bh (pn c i) (ae (pg c i))) (k - (i+1)) (i+1) else bh (pn c i) (ae (pg c i)):=by
      rw [show k - i=(k - (i+1))+1 by omega];rfl
     have g1:∀j:Nat,j=i->isPL 10000 (pn c j) (pg c j):=λj hj=>by rw [hj];exact hpl
     have g2:∀j:Nat,j=i->(bh (pn c j) (ae (pg c j)) != 0)=true->PV.val (.int .i64 (bh (pn c j) (ae (pg c j))))=PV.val (.int .i64 R):=λj hj h=>by
      rw [hj] at h ⊢;have h':(bh (pn c i) (ae (pg c i))==0)=false:=by simpa using h
      rw [h',cond_false,hFi] at hst;have h'':(F==0)=false:=by rw [hst];exact h'
      rw [e2,h'',hst];rfl
     have g3:∀j:Nat,j=i->(bh (pn c j) (ae (pg c j)) != 0)=false->bQ (λi=>bh (pn c i) (ae (pg c i))) (k - (i+1)) (i+1)=F/\pn c i<=64:=λj hj h=>by
      rw [hj] at h;have h':(bh (pn c i) (ae (pg c i))==0)=true:=by simpa using h
      rw [h',cond_true] at hst;refine⟨by rw [<-hst];exact hFi,?_⟩;have h0:bh (pn c i) (ae (pg c i))=0:=eq_of_beq h';unfold bh at h0;cases hb:(decide (pn c i < 3)||decide (64 < pn c i)) with
      |true=>rw [hb] at h0;cases h0
      |false =>
       rw [Bool.or_eq_false_iff] at hb;have:=of_decide_eq_false hb.2;omega
     have g4:∀j:Nat,j=i->pn c i<=64->PV.val (.int .i64 (IntKind.i64.wrap ((cq (pn c) i:Nat)+(pn c j:Nat))))=PV.val (.int .i64 (cq (pn c) (i+1):Nat)):=λj hj h=>by
      rw [hj,wrap64 (by omega) (by omega)];rfl
     have wi:PV.val (.int .i64 (IntKind.i64.wrap ((i:Int)+1)))=PV.val (.int .i64 ((i+1:Nat):Int)):=by
      rw [wrap64 (by omega) (by omega)];rfl
     with_unfolding_all refine⟨⟨by omega,by omega⟩,g1 _ ei,λh4=>⟨[],aa [(2,.val (.int .i64 (R)))] [] 0 [],Wo trivial ⟨g2 _ ei h4,qQ⟩ trivial,rfl,rfl⟩,λh4=>⟨i+1,[some 0],⟨by omega,(g3 _ ei h4).1,?_⟩,by show k - (i+1) < k - i;omega,Wo ⟨qZ ⟨rq,rq,rq,rq,rq,rq,rq,rq,rq,rq,rq,rq,⟨qW,rfl⟩,⟨qW,rfl⟩,qQ⟩,qQ⟩ ⟨pP,g4 _ ei (g3 _ ei h4).2,qW,rfl,wi,qQ⟩ trivial⟩⟩
     have h5:=(g3 _ ei h4).2;show cq (pn c) i+pn c i<=64*(i+1);omega
    ·have h3:(k:Int)<=i:=dC h3;obtain rfl:i=k:=by omega
     have hF0:F=0:=by
      rw [Nat.sub_self] at hFi;exact hFi.symm
     rw [hF0] at e2;have e3:R=bif decide (396 < cq (pn c) i) then 4 else bif !decide (l=i) then 9 else bif aD (λi=>dn (ow o i)) l then 2 else 0:=e2;clear e2 hF hFi;with_unfolding_all refine⟨λh4=>⟨[],aa [(2,.val (.int .i64 (R)))] [] 0 [],Wo trivial ⟨?_,qQ⟩ trivial,rfl,rfl⟩,λh4=>⟨λh5=>⟨[],aa [(2,.val (.int .i64 (R)))] [] 0 [],Wo trivial ⟨?_,qQ⟩ trivial,rfl,rfl⟩,λh5=>?_⟩⟩
     ·have h4:((cq (pn c) i:Nat):Int) > 396:=of_decide_eq_true h4;rw [e3,decide_eq_true (show 396 < cq (pn c) i by omega)];rfl
     ·have h4:¬((cq (pn c) i:Nat):Int) > 396:=of_decide_eq_false h4;have h5:¬l=i:=by
       have h5:(!((l:Int)==(i:Int)))=true:=h5;intro e;rw [e,beq_self_eq_true] at h5;cases h5
      rw [e3,decide_eq_false (show ¬396 < cq (pn c) i by omega),decide_eq_false h5];rfl
     ·have h4:¬((cq (pn c) i:Nat):Int) > 396:=of_decide_eq_false h4;have h5:l=i:=by
       have h5:(!((l:Int)==(i:Int)))=false:=h5;have h6:((l:Int)==(i:Int))=true:=by simpa using h5
       have:=eq_of_beq h6;omega
      have e4:R=bif aD (λi=>dn (ow o i)) l then 2 else 0:=by
       rw [e3,decide_eq_false (show ¬396 < cq (pn c) i by omega),decide_eq_true h5];rfl
      with_unfolding_all refine⟨Nat,λj=>j<=l/\∀x,x < j->dn (ow o x)=false,λj=>aa [(52,.rs 3 l (λi=>ag (ow o i))),(53,.val (goInt l)),(54,.val (goInt j))] [] 0 [],λj=>l - j,⟨0,[],⟨Nat.zero_le _,λx hx=>absurd hx (Nat.not_lt_zero x)⟩,Wo trivial ⟨qW,rfl,rfl,qQ⟩ trivial⟩,λj hj=>?_⟩
      obtain⟨hjl,hJ⟩:j<=l/\∀x,x < j->dn (ow o x)=false:=hj;have eb:dn (ow o j)=(decide ((ow o j).1 < 0)||decide ((ow o j).2.1 < 0)||decide ((ow o j).2.2 < 0)):=rfl;have T1:decide ((ow o (j:Int).toNat).1 < 0) = !false->dn (ow o j)=true:=λh=>by
       have h:decide ((ow o j).1 < 0)=true:=h;rw [eb,h,Bool.true_or,Bool.true_or]
      have T2:decide ((ow o (j:Int).toNat).2.1 < 0) = !false->dn (ow o j)=true:=λh=>by
       have h:decide ((ow o j).2.1 < 0)=true:=h;rw [eb,h,Bool.or_true,Bool.true_or]
      have T3:decide ((ow o (j:Int).toNat).2.2 < 0)=true->dn (ow o j)=true:=λh=>by
       have h:decide ((ow o j).2.2 < 0)=true:=h;rw [eb,h,Bool.or_true]
      have rT:(j:Int) < l->dn (ow o j)=true->PV.val (.int .i64 2)=PV.val (.int .i64 R):=λh h'=>by
       rw [e4,bl.2 ⟨j,by omega,h'⟩];rfl
      have rF:(l:Int)<=j->PV.val (.int .i64 0)=PV.val (.int .i64 R):=λh=>by
       rw [e4,ay.2 λx hx=>hJ x (by omega)];rfl
      have nx:decide ((ow o (j:Int).toNat).1 < 0)=false->decide ((ow o (j:Int).toNat).2.1 < 0)=false->decide ((ow o (j:Int).toNat).2.2 < 0)=false->∀x,x < j+1->dn (ow o x)=false:=λh1 h2 h3 x hx=>by
       have h1:decide ((ow o j).1 < 0)=false:=h1;have h2:decide ((ow o j).2.1 < 0)=false:=h2;have h3:decide ((ow o j).2.2 < 0)=false:=h3;rcases Nat.lt_or_ge x j with h|h
       ·exact hJ x h
       ·obtain rfl:x=j:=by omega
        rw [eb,h1,h2,h3];rfl
      have wi:(j:Int) < l->PV.val (.int .i64 (IntKind.i64.wrap ((j:Int)+1)))=PV.val (.int .i64 ((j+1:Nat):Int)):=λh=>by
       rw [wrap64 (by omega) (by omega)];rfl
      with_unfolding_all exact⟨(λh1=>⟨⟨Int.natCast_nonneg j,(bN h1)⟩,(λh2=>⟨(λh3=>⟨(λh4=>⟨[],aa [(2,.val (.int .i64 (R)))] [] 0 [],Wo trivial ⟨rT (bN h1) (T3 h4),qQ⟩ trivial,rfl,rfl⟩),(λh4=>⟨j+1,[],⟨Int.ofNat_lt.1 (bN h1),nx (h2) (h3) (h4)⟩,by have:=bN h1;show l - (j+1) < l - j;omega,Wo trivial ⟨qW,rfl,wi (bN h1),qQ⟩ trivial⟩)⟩),(λh3=>⟨(λh4=>⟨[],aa [(2,.val (.int .i64 (R)))] [] 0 [],Wo trivial ⟨rT (bN h1) (T2 h3),qQ⟩ trivial,rfl,rfl⟩),(λh4=>nomatch h4)⟩)⟩),(λh2=>⟨(λh3=>nomatch h3),(λh3=>⟨(λh4=>⟨[],aa [(2,.val (.int .i64 (R)))] [] 0 [],Wo trivial ⟨rT (bN h1) (T1 h2),qQ⟩ trivial,rfl,rfl⟩),(λh4=>nomatch h4)⟩)⟩)⟩),(λh1=>⟨[],aa [(2,.val (.int .i64 (R)))] [] 0 [],Wo trivial ⟨rF (dC h1),qQ⟩ trivial,rfl,rfl⟩)⟩
 ·cases e
def CJ:List PV->Option Ans
 |[.agg [.val (.bool s1),.val (.string b1),.val (.string c1),.val (.bool s2),.val (.string b2),.val (.string c2),.val (.bool s3),.val (.string b3),.val (.string c3),.val (.bool s4),.val (.string b4),.val (.string c4),.rs 1 k c,.rs 3 l o],.rs 6 n g]=>some ⟨some (((PtS.le 4294967296 (PtS.mk ⟨s1,b1,c1⟩ ⟨s2,b2,c2⟩)/\PtS.le 4294967296 (PtS.mk ⟨s3,b3,c3⟩ ⟨s4,b4,c4⟩))/\bM 10000 k c/\cQ l o)/\isPL 4294967296 n g),.val (.bool (!aD (λi=>!ah (ae g i)) n&&(bT (PtS.mk ⟨s1,b1,c1⟩ ⟨s2,b2,c2⟩) (PtS.mk ⟨s3,b3,c3⟩ ⟨s4,b4,c4⟩) k (pn c) (λi=>ae (pg c i)) l (ow o)==0))),[]⟩
 |_=>none
theorem Fy:am {} Tryz.f125 2=true:=by kernel_rfl
theorem f125:FnOk Tryz.prog 125 CJ:=by
 refine FnOk.ofW aj (an (l:=[(67,Bg),(89,Gt)]) (own:=[]) (inl:=[]) (by simp [f67,f89]) (by simp)) Tryz.func125 {} 2 Fy λargs r e=>?_;unfold CJ at e;split at e
 ·rename_i s1 b1 c1 s2 b2 c2 s3 b3 c3 s4 b4 c4 k c l o n g
  cases e;refine⟨by simp,λhm=>?_⟩;obtain⟨⟨⟨hlo,hhi⟩,⟨hc,hk⟩,ho,hl⟩,hg,hn⟩:=hm _ rfl;obtain⟨lo,hlo'⟩:∃p,p=(PtS.mk ⟨s1,b1,c1⟩ ⟨s2,b2,c2⟩):=⟨_,rfl⟩;obtain⟨hi,hhi'⟩:∃p,p=(PtS.mk ⟨s3,b3,c3⟩ ⟨s4,b4,c4⟩):=⟨_,rfl⟩;have hc1:∀i,i < k->[.rs 6 (pn c i) (pg c i)]=c i:=λi hi=>(hc i hi).1.symm;have ho1:∀i,i < l->ag (ow o i)=o i:=λi hi=>(ho i hi).symm;refine⟨[],aa [(0,.agg [.val (.bool (PtS.mk ⟨s1,b1,c1⟩ ⟨s2,b2,c2⟩).x.s),.val (.string (PtS.mk ⟨s1,b1,c1⟩ ⟨s2,b2,c2⟩).x.b),.val (.string (PtS.mk ⟨s1,b1,c1⟩ ⟨s2,b2,c2⟩).x.c),.val (.bool (PtS.mk ⟨s1,b1,c1⟩ ⟨s2,b2,c2⟩).y.s),.val (.string (PtS.mk ⟨s1,b1,c1⟩ ⟨s2,b2,c2⟩).y.b),.val (.string (PtS.mk ⟨s1,b1,c1⟩ ⟨s2,b2,c2⟩).y.c),.val (.bool (PtS.mk ⟨s3,b3,c3⟩ ⟨s4,b4,c4⟩).x.s),.val (.string (PtS.mk ⟨s3,b3,c3⟩ ⟨s4,b4,c4⟩).x.b),.val (.string (PtS.mk ⟨s3,b3,c3⟩ ⟨s4,b4,c4⟩).x.c),.val (.bool (PtS.mk ⟨s3,b3,c3⟩ ⟨s4,b4,c4⟩).y.s),.val (.string (PtS.mk ⟨s3,b3,c3⟩ ⟨s4,b4,c4⟩).y.b),.val (.string (PtS.mk ⟨s3,b3,c3⟩ ⟨s4,b4,c4⟩).y.c),.rs 1 k (λi=>[.rs 6 (pn c i) (pg c i)]),.rs 3 l (λi=>ag (ow o i))]),(1,.rs 6 n (λi=>(ae g i).cells))] [] 0 [],Wo trivial ⟨⟨rfl,rfl,rfl,rfl,rfl,rfl,rfl,rfl,rfl,rfl,rfl,rfl,⟨rfl,rfl,hc1⟩,⟨rfl,rfl,ho1⟩,qQ⟩,⟨rfl,rfl,λi hi=>(hg i hi).1.symm⟩,qQ⟩ trivial,?_⟩;rw [<-hlo'] at hlo ⊢;rw [<-hhi'] at hhi ⊢;clear hlo' hhi' hm;have hrg:(lo.le 4294967296/\hi.le 4294967296)/\bM 10000 k (λi=>[.rs 6 (pn c i) (pg c i)])/\cQ l (λi=>ag (ow o i)):=⟨⟨hlo,hhi⟩,⟨λi hi=>⟨rfl,(hc i hi).2⟩,hk⟩,λi hi=>rfl,hl⟩;obtain⟨R,hR⟩:∃R,R=bT lo hi k (pn c) (λi=>ae (pg c i)) l (ow o):=⟨_,rfl⟩;rw [<-hR];have hR':bT lo hi k (pn (λi=>[.rs 6 (pn c i) (pg c i)])) (λi=>ae (pg (λi=>[.rs 6 (pn c i) (pg c i)]) i)) l (ow (λi=>ag (ow o i)))=R:=hR.symm;obtain⟨V,hV⟩:∃V,V=(!aD (λi=>!ah (ae g i)) n&&(R==0)):=⟨_,rfl⟩;rw [<-hV];have hno:∀b:Bool,(bW b != 0)=true->b=false:=λb h=>by cases b<;>first|rfl|cases h
  have hyes:∀b:Bool,(bW b != 0)=false->b=true:=λb h=>by cases b<;>first|rfl|cases h
  with_unfolding_all refine⟨Nat,λi=>i<=n/\∀j,j < i->ah (ae g j)=true,λi=>aa [(2,.ptr 0 0 0 0),(7,.rs 6 n (λi=>(ae g i).cells)),(8,.val (goInt n)),(9,.val (goInt i))] [⟨31,14,0,true,false,1,λ_=>[.val (.bool lo.x.s),.val (.string lo.x.b),.val (.string lo.x.c),.val (.bool lo.y.s),.val (.string lo.y.b),.val (.string lo.y.c),.val (.bool hi.x.s),.val (.string hi.x.b),.val (.string hi.x.c),.val (.bool hi.y.s),.val (.string hi.y.b),.val (.string hi.y.c),.rs 1 k (λi=>[.rs 6 (pn c i) (pg c i)]),.rs 3 l (λi=>ag (ow o i))]⟩] 1 [],λi=>n - i,⟨0,[some 0],⟨Nat.zero_le _,λj hj=>absurd hj (Nat.not_lt_zero j)⟩,Wo ⟨qZ ⟨rq,rq,rq,rq,rq,rq,rq,rq,rq,rq,rq,rq,⟨qW,rfl⟩,⟨qW,rfl⟩,qQ⟩,qQ⟩ ⟨pP,qW,rfl,rfl,qQ⟩ trivial⟩,λi hi=>?_⟩
  obtain⟨hin,hI⟩:i<=n/\∀j,j < i->ah (ae g j)=true:=hi;with_unfolding_all refine⟨λh1=>?_,λh1=>⟨hrg,[],aa [(4,.val (.bool V))] [] 0 [],Wo trivial ⟨?_,qQ⟩ trivial,rfl,rfl⟩⟩
  ·have h1:(i:Int) < n:=bN h1;have ei:(i:Int).toNat=i:=Int.toNat_natCast i;have hp:=(hg i (by omega)).2;rw [<-ei] at hp;with_unfolding_all refine⟨⟨by omega,by omega⟩,⟨ae g (i:Int).toNat,rfl,hp⟩,λh2=>⟨[],aa [(4,.val (.bool V))] [] 0 [],Wo trivial ⟨?_,qQ⟩ trivial,rfl,rfl⟩,λh2=>⟨i+1,[some 0],⟨by omega,?_⟩,by show n - (i+1) < n - i;omega,Wo ⟨qZ ⟨rq,rq,rq,rq,rq,rq,rq,rq,rq,rq,rq,rq,⟨qW,rfl⟩,⟨qW,rfl⟩,qQ⟩,qQ⟩ ⟨pP,qW,rfl,?_,qQ⟩ trivial⟩⟩
   ·have h2:ah (ae g (i:Int).toNat)=false:=hno _ h2;rw [ei] at h2;rw [hV,bl.2 ⟨i,by omega,by rw [h2];rfl⟩];rfl
   ·have h2:ah (ae g (i:Int).toNat)=true:=hyes _ h2;rw [ei] at h2;intro j hj;rcases Nat.lt_or_ge j i with h|h
    ·exact hI j h
    ·obtain rfl:j=i:=by omega
     exact h2
   ·show PV.val (.int .i64 (IntKind.i64.wrap ((i:Int)+1)))=PV.val (.int .i64 ((i+1:Nat):Int));rw [wrap64 (by omega) (by omega)];rfl
  ·have h1:(n:Int)<=i:=dC h1;have e1:aD (λi=>!ah (ae g i)) n=false:=ay.2 λj hj=>by rw [hI j (by omega)];rfl
   rw [hV,e1];show PV.val (.bool (bT lo hi k (pn (λi=>[.rs 6 (pn c i) (pg c i)])) (λi=>ae (pg (λi=>[.rs 6 (pn c i) (pg c i)]) i)) l (ow (λi=>ag (ow o i)))==0))=PV.val (.bool (!false&&(R==0)));rw [hR'];rfl
 ·cases e
def Fz:List PV->Option Ans
 |[.agg [.val (.bool s1),.val (.string b1),.val (.string c1),.val (.bool s2),.val (.string b2),.val (.string c2),.val (.bool s3),.val (.string b3),.val (.string c3),.val (.bool s4),.val (.string b4),.val (.string c4),.rs 1 k c,.rs 3 l o],.rs 6 n g]=>some ⟨some (((PtS.le 4294967296 (PtS.mk ⟨s1,b1,c1⟩ ⟨s2,b2,c2⟩)/\PtS.le 4294967296 (PtS.mk ⟨s3,b3,c3⟩ ⟨s4,b4,c4⟩))/\bM 10000 k c/\cQ l o)/\isPL 4294967296 n g),.val (.int .i64 (bW ((bT (PtS.mk ⟨s1,b1,c1⟩ ⟨s2,b2,c2⟩) (PtS.mk ⟨s3,b3,c3⟩ ⟨s4,b4,c4⟩) k (pn c) (λi=>ae (pg c i)) l (ow o)==0)&&!aD (λi=>!ah (ae g i)) n))),[]⟩
 |_=>none
theorem He:am {} Tryz.f55 2=true:=by kernel_rfl
theorem f55:FnOk Tryz.prog 55 Fz:=by
 refine FnOk.ofW aj (an (l:=[(65,tJ),(89,Gt)]) (own:=[]) (inl:=[]) (by simp [CD,f89]) (by simp)) Tryz.func55 {} 2 He λargs r e=>?_;unfold Fz at e;split at e
 ·rename_i s1 b1 c1 s2 b2 c2 s3 b3 c3 s4 b4 c4 k c l o n g
  cases e;refine⟨by simp,λhm=>?_⟩;obtain⟨⟨⟨hlo,hhi⟩,⟨hc,hk⟩,ho,hl⟩,hg,hn⟩:=hm _ rfl;obtain⟨lo,hlo'⟩:∃p,p=(PtS.mk ⟨s1,b1,c1⟩ ⟨s2,b2,c2⟩):=⟨_,rfl⟩;obtain⟨hi,hhi'⟩:∃p,p=(PtS.mk ⟨s3,b3,c3⟩ ⟨s4,b4,c4⟩):=⟨_,rfl⟩;have hc1:∀i,i < k->[.rs 6 (pn c i) (pg c i)]=c i:=λi hi=>(hc i hi).1.symm;have ho1:∀i,i < l->ag (ow o i)=o i:=λi hi=>(ho i hi).symm;refine⟨[],aa [(0,.agg [.val (.bool (PtS.mk ⟨s1,b1,c1⟩ ⟨s2,b2,c2⟩).x.s),.val (.string (PtS.mk ⟨s1,b1,c1⟩ ⟨s2,b2,c2⟩).x.b),.val (.string (PtS.mk ⟨s1,b1,c1⟩ ⟨s2,b2,c2⟩).x.c),.val (.bool (PtS.mk ⟨s1,b1,c1⟩ ⟨s2,b2,c2⟩).y.s),.val (.string (PtS.mk ⟨s1,b1,c1⟩ ⟨s2,b2,c2⟩).y.b),.val (.string (PtS.mk ⟨s1,b1,c1⟩ ⟨s2,b2,c2⟩).y.c),.val (.bool (PtS.mk ⟨s3,b3,c3⟩ ⟨s4,b4,c4⟩).x.s),.val (.string (PtS.mk ⟨s3,b3,c3⟩ ⟨s4,b4,c4⟩).x.b),.val (.string (PtS.mk ⟨s3,b3,c3⟩ ⟨s4,b4,c4⟩).x.c),.val (.bool (PtS.mk ⟨s3,b3,c3⟩ ⟨s4,b4,c4⟩).y.s),.val (.string (PtS.mk ⟨s3,b3,c3⟩ ⟨s4,b4,c4⟩).y.b),.val (.string (PtS.mk ⟨s3,b3,c3⟩ ⟨s4,b4,c4⟩).y.c),.rs 1 k (λi=>[.rs 6 (pn c i) (pg c i)]),.rs 3 l (λi=>ag (ow o i))]),(1,.rs 6 n g)] [] 0 [],Wo trivial ⟨⟨rfl,rfl,rfl,rfl,rfl,rfl,rfl,rfl,rfl,rfl,rfl,rfl,⟨rfl,rfl,hc1⟩,⟨rfl,rfl,ho1⟩,qQ⟩,⟨rfl,rfl,λi hi=>rfl⟩,qQ⟩ trivial,?_⟩;rw [<-hlo'] at hlo ⊢;rw [<-hhi'] at hhi ⊢;clear hlo' hhi' hm;have hrg:(lo.le 4294967296/\hi.le 4294967296)/\bM 10000 k (λi=>[.rs 6 (pn c i) (pg c i)])/\cQ l (λi=>ag (ow o i)):=⟨⟨hlo,hhi⟩,⟨λi hi=>⟨rfl,(hc i hi).2⟩,hk⟩,λi hi=>rfl,hl⟩;obtain⟨R,hR⟩:∃R,R=bT lo hi k (pn c) (λi=>ae (pg c i)) l (ow o):=⟨_,rfl⟩;rw [<-hR];have hR':bT lo hi k (pn (λi=>[.rs 6 (pn c i) (pg c i)])) (λi=>ae (pg (λi=>[.rs 6 (pn c i) (pg c i)]) i)) l (ow (λi=>ag (ow o i)))=R:=hR.symm;have hpl:isPL 4294967296 n g:=⟨hg,hn⟩;obtain⟨V,hV⟩:∃V,V=bW ((R==0)&&!aD (λi=>!ah (ae g i)) n):=⟨_,rfl⟩;rw [<-hV];have n1:(bT lo hi k (pn (λi=>[.rs 6 (pn c i) (pg c i)])) (λi=>ae (pg (λi=>[.rs 6 (pn c i) (pg c i)]) i)) l (ow (λi=>ag (ow o i))) != 0)=true->PV.val (.int .i64 1)=PV.val (.int .i64 V):=λh=>by
   rw [hR'] at h;have h:(R==0)=false:=by simpa using h
   rw [hV,h];rfl
  have n2:aD (λi=>!ah (ae g i)) n=true->PV.val (.int .i64 1)=PV.val (.int .i64 V):=λh=>by
   rw [hV,h,Bool.not_true,Bool.and_false];rfl
  have n3:(bT lo hi k (pn (λi=>[.rs 6 (pn c i) (pg c i)])) (λi=>ae (pg (λi=>[.rs 6 (pn c i) (pg c i)]) i)) l (ow (λi=>ag (ow o i))) != 0)=false->aD (λi=>!ah (ae g i)) n=false->PV.val (.int .i64 0)=PV.val (.int .i64 V):=λh h'=>by
   rw [hR'] at h;have h:(R==0)=true:=by simpa using h
   rw [hV,h,h'];rfl
  with_unfolding_all refine⟨hrg,λh1=>⟨hpl,λh2=>⟨[],aa [(4,.val (.int .i64 V))] [] 0 [],Wo trivial ⟨?_,qQ⟩ trivial,rfl,rfl⟩,λh2=>⟨[],aa [(4,.val (.int .i64 V))] [] 0 [],Wo trivial ⟨?_,qQ⟩ trivial,rfl,rfl⟩⟩,λh1=>⟨λh2=>⟨[],aa [(4,.val (.int .i64 V))] [] 0 [],Wo trivial ⟨?_,qQ⟩ trivial,rfl,rfl⟩,λh2=>(nomatch h2)⟩⟩
  ·exact n2 h2
  ·exact n3 h1 h2
  ·exact n1 h1
 ·cases e
end Go.Proofs
namespace Go.Num
def eqQ (x y:Int×Int):Bool:=x.1==y.1&&(x.2==y.2&&true)
end Go.Num
namespace Go.Proofs
def Hf:List PV->Option Ans
 |[.rs 2 m h,.val (.agg ⟨[.int .i64 a,.int .i64 b]⟩)]=>some ⟨some (iO m h),.val (.int .i64 (dj (λi=>eqQ (a,b) (gB h i)) m 0)),[]⟩
 |_=>none
theorem Hg:am {} Tryz.f70 2=true:=by kernel_rfl
theorem f70:FnOk Tryz.prog 70 Hf:=by
 refine FnOk.ofW aj (an (l:=[]) (own:=[]) (inl:=[]) (by simp) (by simp)) Tryz.func70 {} 2 Hg λargs r e=>?_;unfold Hf at e;split at e
 ·rename_i n h a b
  cases e;refine⟨by simp,λhm=>?_⟩;obtain⟨hq,hn⟩:=hm _ rfl;refine⟨[],aa [(0,.rs 2 n (λi=>aF (gB h i))),(1,.val (.agg ⟨[.int .i64 a,.int .i64 b]⟩))] [] 0 [],Wo trivial ⟨⟨rfl,rfl,λi hi=>(hq i hi).symm⟩,rfl,qQ⟩ trivial,?_⟩;generalize gB h=q at *
  obtain⟨X,hX⟩:∃X,X=dj (λi=>eqQ (a,b) (q i)) n 0:=⟨_,rfl⟩;rw [<-hX];with_unfolding_all refine⟨Nat,λi=>i<=n/\dj (λi=>eqQ (a,b) (q i)) (n - i) i=X,λi=>aa [(0,.rs 2 n (λi=>aF (q i))),(3,.ptr 0 0 0 0),(7,.val (goInt n)),(8,.val (goInt i))] [⟨46,2,0,true,false,1,λ_=>[.val (.int .i64 a),.val (.int .i64 b)]⟩] 1 [],λi=>n - i,⟨0,[some 0],⟨Nat.zero_le _,hX.symm⟩,Wo ⟨qJ,qQ⟩ ⟨qW,pP,rfl,rfl,qQ⟩ trivial⟩,λi hi=>?_⟩
  obtain⟨hin,hI⟩:i<=n/\dj (λi=>eqQ (a,b) (q i)) (n - i) i=X:=hi;with_unfolding_all refine⟨λh=>?_,λh=>⟨[],aa [(4,.val (.int .i64 X))] [] 0 [],Wo trivial ⟨?_,qQ⟩ trivial,rfl,rfl⟩⟩
  ·have h:(i:Int) < n:=bN h;have e:(i:Int).toNat=i:=Int.toNat_natCast i;have hstep:dj (λi=>eqQ (a,b) (q i)) (n - i) i=bif eqQ (a,b) (q i) then(i:Int) else dj (λi=>eqQ (a,b) (q i)) (n - (i+1)) (i+1):=by
    rw [show n - i=(n - (i+1))+1 by omega];rfl
   with_unfolding_all refine⟨⟨by omega,by omega⟩,λh'=>⟨[],aa [(4,.val (.int .i64 X))] [] 0 [],Wo trivial ⟨?_,qQ⟩ trivial,rfl,rfl⟩,λh'=>⟨i+1,[some 0],⟨by omega,?_⟩,by show n - (i+1) < n - i;omega,Wo ⟨qJ,qQ⟩ ⟨qW,pP,rfl,?_,qQ⟩ trivial⟩⟩
   ·have h':eqQ (a,b) (q (i:Int).toNat)=true:=h';rw [e] at h';rw [h',cond_true] at hstep;exact congrArg (λz=>PV.val (.int .i64 z)) (hstep.symm.trans hI)
   ·have h':eqQ (a,b) (q (i:Int).toNat)=false:=h';rw [e] at h';rw [h',cond_false] at hstep;exact hstep.symm.trans hI
   ·show PV.val (.int .i64 (IntKind.i64.wrap ((i:Int)+1)))=PV.val (.int .i64 ((i+1:Nat):Int));rw [wrap64 (by omega) (by omega)];rfl
  ·have h:(n:Int)<=i:=dC h;rw [show n - i=0 by omega] at hI;exact congrArg (λz=>PV.val (.int .i64 z)) hI
 ·cases e
def Iy:List PV->Option Ans
 |[.rs 2 m h,.val (.agg ⟨[.int .i64 a,.int .i64 b]⟩)]=>some ⟨some (iO m h),.val (.bool (aD (λi=>eqQ (a,b) (gB h i)) m)),[]⟩
 |_=>none
theorem Hh:am {} Tryz.f20 2=true:=by kernel_rfl
theorem f20:FnOk Tryz.prog 20 Iy:=by
 refine FnOk.ofW aj (an (l:=[(70,Hf)]) (own:=[]) (inl:=[]) (by simp [f70]) (by simp)) Tryz.func20 {} 2 Hh λargs r e=>?_;unfold Iy at e;split at e
 ·rename_i n h a b
  cases e;refine⟨by simp,λhm=>?_⟩;have hq:=hm _ rfl;refine⟨[],aa [(0,.rs 2 n h),(1,.val (.agg ⟨[.int .i64 a,.int .i64 b]⟩))] [] 0 [],Wo trivial ⟨⟨rfl,rfl,λi hi=>rfl⟩,rfl,qQ⟩ trivial,?_⟩;with_unfolding_all refine⟨hq,[],aa [(4,.val (.bool (aD (λi=>eqQ (a,b) (gB h i)) n)))] [] 0 [],Wo trivial ⟨?_,qQ⟩ trivial,rfl,rfl⟩
  exact congrArg (λz=>PV.val (.bool z)) (ef _ _)
 ·cases e
def Hi:List PV->Option Ans
 |[.val (.int .i64 a),.val (.int .i64 b)]=>some ⟨none,.val (.agg ⟨[.int .i64 a,.int .i64 b]⟩),[]⟩
 |_=>none
theorem Hj:am {} Tryz.f54 2=true:=by kernel_rfl
theorem f54:FnOk Tryz.prog 54 Hi:=by
 refine FnOk.ofW aj (an (l:=[]) (own:=[]) (inl:=[]) (by simp) (by simp)) Tryz.func54 {} 2 Hj λargs r e=>?_;unfold Hi at e;split at e
 ·rename_i a b
  cases e;refine⟨by simp,λhm=>?_⟩;refine⟨[],aa [(0,.val (.int .i64 a)),(1,.val (.int .i64 b))] [] 0 [],Wo trivial ⟨rfl,rfl,qQ⟩ trivial,?_⟩;with_unfolding_all exact⟨[some 0],aa [(4,.ptr 0 0 0 0)] [⟨46,2,0,true,false,1,λ_=>[.val (.int .i64 a),.val (.int .i64 b)]⟩] 1 [],Wo ⟨qJ,qQ⟩ ⟨pP,qQ⟩ trivial,rfl,rfl⟩
 ·cases e
def Hk:List PV->Option Ans
 |[.rs 2 n g,.rs 2 m h]=>some ⟨some (iO n g/\iO m h),.val (.bool (decide (n=m)&&!aD (λi=>!eqQ (gB g i) (gB h i)) n)),[]⟩
 |_=>none
theorem Hl:am {} Tryz.f44 2=true:=by kernel_rfl
theorem f44:FnOk Tryz.prog 44 Hk:=by
 refine FnOk.ofW aj (an (l:=[]) (own:=[]) (inl:=[]) (by simp) (by simp)) Tryz.func44 {} 2 Hl λargs r e=>?_;unfold Hk at e;split at e
 ·rename_i n g m h
  cases e;refine⟨by simp,λhm=>?_⟩;obtain⟨⟨hp,hn⟩,hq,hmm⟩:=hm _ rfl;refine⟨[],aa [(0,.rs 2 n (λi=>aF (gB g i))),(1,.rs 2 m (λi=>aF (gB h i)))] [] 0 [],Wo trivial ⟨⟨rfl,rfl,λi hi=>(hp i hi).symm⟩,⟨rfl,rfl,λi hi=>(hq i hi).symm⟩,qQ⟩ trivial,?_⟩;generalize gB g=p at *
  generalize gB h=q at *
  obtain⟨X,hX⟩:∃X,X=(decide (n=m)&&!aD (λi=>!eqQ (p i) (q i)) n):=⟨_,rfl⟩;rw [<-hX];have v0:(!((n:Int)==(m:Int)))=true->PV.val (.bool false)=PV.val (.bool X):=λh=>by
   have h1:¬n=m:=λe=>by rw [e,beq_self_eq_true] at h;cases h
   rw [hX,decide_eq_false h1];rfl
  have v1:(!((n:Int)==(m:Int)))=false->n=m:=λh=>by
   have h6:((n:Int)==(m:Int))=true:=by simpa using h
   have:=eq_of_beq h6;omega
  with_unfolding_all refine⟨λh1=>⟨[],aa [(4,.val (.bool X))] [] 0 [],Wo trivial ⟨v0 h1,qQ⟩ trivial,rfl,rfl⟩,λh1=>⟨Nat,λi=>i<=n/\∀j,j < i->eqQ (p j) (q j)=true,λi=>aa [(0,.rs 2 n (λi=>aF (p i))),(1,.rs 2 m (λi=>aF (q i))),(12,.val (goInt n)),(13,.val (goInt i))] [] 0 [],λi=>n - i,⟨0,[],⟨Nat.zero_le _,λj hj=>absurd hj (Nat.not_lt_zero j)⟩,Wo trivial ⟨qW,qW,rfl,rfl,qQ⟩ trivial⟩,λi hi=>?_⟩⟩
  have hnm:=v1 h1;obtain⟨hin,hI⟩:i<=n/\∀j,j < i->eqQ (p j) (q j)=true:=hi;with_unfolding_all refine⟨λh2=>?_,λh2=>⟨[],aa [(4,.val (.bool X))] [] 0 [],Wo trivial ⟨?_,qQ⟩ trivial,rfl,rfl⟩⟩
  ·have h2:(i:Int) < n:=bN h2;have e:(i:Int).toNat=i:=Int.toNat_natCast i;with_unfolding_all refine⟨⟨by omega,by omega⟩,⟨by omega,by omega⟩,λh3=>⟨[],aa [(4,.val (.bool X))] [] 0 [],Wo trivial ⟨?_,qQ⟩ trivial,rfl,rfl⟩,λh3=>⟨i+1,[],⟨by omega,?_⟩,by show n - (i+1) < n - i;omega,Wo trivial ⟨qW,qW,rfl,?_,qQ⟩ trivial⟩⟩
   ·have h3:(!eqQ (p (i:Int).toNat) (q (i:Int).toNat))=true:=h3;rw [e] at h3;show PV.val (.bool false)=PV.val (.bool X);rw [hX,bl.2 ⟨i,by omega,h3⟩,Bool.not_true,Bool.and_false]
   ·have h3:(!eqQ (p (i:Int).toNat) (q (i:Int).toNat))=false:=h3;rw [e] at h3;intro j hj;rcases Nat.lt_or_ge j i with h|h
    ·exact hI j h
    ·obtain rfl:j=i:=by omega
     simpa using h3
   ·show PV.val (.int .i64 (IntKind.i64.wrap ((i:Int)+1)))=PV.val (.int .i64 ((i+1:Nat):Int));rw [wrap64 (by omega) (by omega)];rfl
  ·have h2:(n:Int)<=i:=dC h2;show PV.val (.bool true)=PV.val (.bool X);rw [hX,decide_eq_true hnm,ay.2 λj hj=>by rw [hI j (by omega)];rfl];rfl
 ·cases e
end Go.Proofs
namespace Go.Num
def bB (q:Rat) (st:Nat):Blk:=⟨23,3,st,true,false,1,λ_=>(bz q).cells⟩
def ar (a b:PtS):Value:=.agg ⟨[.bool a.x.s,.string a.x.b,.string a.x.c,.bool a.y.s,.string a.y.b,.string a.y.c,.bool b.x.s,.string b.x.b,.string b.x.c,.bool b.y.s,.string b.y.b,.string b.y.c]⟩
def kx (a b:PtS):List PV:=[.val (.bool a.x.s),.val (.string a.x.b),.val (.string a.x.c),.val (.bool a.y.s),.val (.string a.y.b),.val (.string a.y.c),.val (.bool b.x.s),.val (.string b.x.b),.val (.string b.x.c),.val (.bool b.y.s),.val (.string b.y.b),.val (.string b.y.c)]
def aM:Value->PtS×PtS
 |.agg ⟨[.bool s1,.string b1,.string c1,.bool s2,.string b2,.string c2,.bool s3,.string b3,.string c3,.bool s4,.string b4,.string c4]⟩=>(⟨⟨s1,b1,c1⟩,⟨s2,b2,c2⟩⟩,⟨⟨s3,b3,c3⟩,⟨s4,b4,c4⟩⟩)
 |_=>(pv 0 0,pv 0 0)
def dL (K:Nat) (v:Value):Prop:=∃a b,v=ar a b/\PtS.le K a/\PtS.le K b
def aL (i:Nat) (lo hi p:PtS):Rat:=match i with
 |0=>lo.X - p.X
 |1=>p.X - hi.X
 |2=>lo.Y - p.Y
 |_=>p.Y - hi.Y
end Go.Num
namespace Go.Proofs
def CK:List PV->Option Ans
 |[.val v,.val u]=>some ⟨some (dL 4294967296 v/\isPk 4294967296 u),.val (aw (aL 0 (aM v).1 (aM v).2 (aO u))),[]⟩
 |_=>none
theorem FA:am {} Tryz.f208 2=true:=by kernel_rfl
theorem f208:FnOk Tryz.prog 208 CK:=by
 refine FnOk.ofW aj (an (l:=[(115,nh)]) (own:=[]) (inl:=[]) (by simp [f115]) (by simp)) Tryz.func208 {} 2 FA λargs r e=>?_;unfold CK at e;split at e
 ·rename_i v u
  cases e;refine⟨by simp,λhm=>?_⟩;obtain⟨⟨lo,hi,rfl,hlo,hhi⟩,p,rfl,hp⟩:=hm _ rfl;refine⟨[],aa [(0,.val (ar lo hi)),(1,.val p.v)] [] 0 [],Wo trivial ⟨rfl,rfl,qQ⟩ trivial,?_⟩;have hr:=And.intro (ct hlo (Nat.le_refl _)) (ct hp (Nat.le_refl _));obtain⟨F,hF⟩:∃F,F=lo.X - p.X:=⟨_,rfl⟩;have hv:PV.val (aw (aL 0 (aM (ar lo hi)).1 (aM (ar lo hi)).2 (aO p.v)))=PV.val (aw F):=by rw [hF];rfl
  rw [hv];with_unfolding_all refine⟨hr,[some 2],aa [(4,.ptr 0 0 0 0)] [bB F 0] 1 [],Wo ⟨qZ ⟨⟨?_,rfl⟩,⟨?_,rfl⟩,⟨?_,rfl⟩,qQ⟩,qQ⟩ ⟨pP,qQ⟩ trivial,rfl,rfl⟩
  ·rw [hF];rfl
  ·rw [hF];rfl
  ·rw [hF];rfl
 ·cases e
def CL:List PV->Option Ans
 |[.val v,.val u]=>some ⟨some (dL 4294967296 v/\isPk 4294967296 u),.val (aw (aL 1 (aM v).1 (aM v).2 (aO u))),[]⟩
 |_=>none
theorem FB:am {} Tryz.f209 2=true:=by kernel_rfl
theorem f209:FnOk Tryz.prog 209 CL:=by
 refine FnOk.ofW aj (an (l:=[(115,nh)]) (own:=[]) (inl:=[]) (by simp [f115]) (by simp)) Tryz.func209 {} 2 FB λargs r e=>?_;unfold CL at e;split at e
 ·rename_i v u
  cases e;refine⟨by simp,λhm=>?_⟩;obtain⟨⟨lo,hi,rfl,hlo,hhi⟩,p,rfl,hp⟩:=hm _ rfl;refine⟨[],aa [(0,.val (ar lo hi)),(1,.val p.v)] [] 0 [],Wo trivial ⟨rfl,rfl,qQ⟩ trivial,?_⟩;have hr:=And.intro (ct hp (Nat.le_refl _)) (ct hhi (Nat.le_refl _));obtain⟨F,hF⟩:∃F,F=p.X - hi.X:=⟨_,rfl⟩;have hv:PV.val (aw (aL 1 (aM (ar lo hi)).1 (aM (ar lo hi)).2 (aO p.v)))=PV.val (aw F):=by rw [hF];rfl
  rw [hv];with_unfolding_all refine⟨hr,[some 2],aa [(4,.ptr 0 0 0 0)] [bB F 0] 1 [],Wo ⟨qZ ⟨⟨?_,rfl⟩,⟨?_,rfl⟩,⟨?_,rfl⟩,qQ⟩,qQ⟩ ⟨pP,qQ⟩ trivial,rfl,rfl⟩
  ·rw [hF];rfl
  ·rw [hF];rfl
  ·rw [hF];rfl
 ·cases e
def CM:List PV->Option Ans
 |[.val v,.val u]=>some ⟨some (dL 4294967296 v/\isPk 4294967296 u),.val (aw (aL 2 (aM v).1 (aM v).2 (aO u))),[]⟩
 |_=>none
theorem FC:am {} Tryz.f210 2=true:=by kernel_rfl
theorem f210:FnOk Tryz.prog 210 CM:=by
 refine FnOk.ofW aj (an (l:=[(115,nh)]) (own:=[]) (inl:=[]) (by simp [f115]) (by simp)) Tryz.func210 {} 2 FC λargs r e=>?_;unfold CM at e;split at e
 ·rename_i v u
  cases e;refine⟨by simp,λhm=>?_⟩;obtain⟨⟨lo,hi,rfl,hlo,hhi⟩,p,rfl,hp⟩:=hm _ rfl;refine⟨[],aa [(0,.val (ar lo hi)),(1,.val p.v)] [] 0 [],Wo trivial ⟨rfl,rfl,qQ⟩ trivial,?_⟩;have hr:=And.intro (cu hlo (Nat.le_refl _)) (cu hp (Nat.le_refl _));obtain⟨F,hF⟩:∃F,F=lo.Y - p.Y:=⟨_,rfl⟩;have hv:PV.val (aw (aL 2 (aM (ar lo hi)).1 (aM (ar lo hi)).2 (aO p.v)))=PV.val (aw F):=by rw [hF];rfl
  rw [hv];with_unfolding_all refine⟨hr,[some 2],aa [(4,.ptr 0 0 0 0)] [bB F 0] 1 [],Wo ⟨qZ ⟨⟨?_,rfl⟩,⟨?_,rfl⟩,⟨?_,rfl⟩,qQ⟩,qQ⟩ ⟨pP,qQ⟩ trivial,rfl,rfl⟩
  ·rw [hF];rfl
  ·rw [hF];rfl
  ·rw [hF];rfl
 ·cases e
def CN:List PV->Option Ans
 |[.val v,.val u]=>some ⟨some (dL 4294967296 v/\isPk 4294967296 u),.val (aw (aL 3 (aM v).1 (aM v).2 (aO u))),[]⟩
 |_=>none
theorem FD:am {} Tryz.f211 2=true:=by kernel_rfl
theorem f211:FnOk Tryz.prog 211 CN:=by
 refine FnOk.ofW aj (an (l:=[(115,nh)]) (own:=[]) (inl:=[]) (by simp [f115]) (by simp)) Tryz.func211 {} 2 FD λargs r e=>?_;unfold CN at e;split at e
 ·rename_i v u
  cases e;refine⟨by simp,λhm=>?_⟩;obtain⟨⟨lo,hi,rfl,hlo,hhi⟩,p,rfl,hp⟩:=hm _ rfl;refine⟨[],aa [(0,.val (ar lo hi)),(1,.val p.v)] [] 0 [],Wo trivial ⟨rfl,rfl,qQ⟩ trivial,?_⟩;have hr:=And.intro (cu hp (Nat.le_refl _)) (cu hhi (Nat.le_refl _));obtain⟨F,hF⟩:∃F,F=p.Y - hi.Y:=⟨_,rfl⟩;have hv:PV.val (aw (aL 3 (aM (ar lo hi)).1 (aM (ar lo hi)).2 (aO p.v)))=PV.val (aw F):=by rw [hF];rfl
  rw [hv];with_unfolding_all refine⟨hr,[some 2],aa [(4,.ptr 0 0 0 0)] [bB F 0] 1 [],Wo ⟨qZ ⟨⟨?_,rfl⟩,⟨?_,rfl⟩,⟨?_,rfl⟩,qQ⟩,qQ⟩ ⟨pP,qQ⟩ trivial,rfl,rfl⟩
  ·rw [hF];rfl
  ·rw [hF];rfl
  ·rw [hF];rfl
 ·cases e
def CO:List PV->Option Ans
 |[]=>some ⟨none,.val (.agg ⟨[.int .i64 (-1),.func (.func 208) ⟨[]⟩ ⟨[]⟩,.int .i64 (-2),.func (.func 209) ⟨[]⟩ ⟨[]⟩,.int .i64 (-3),.func (.func 210) ⟨[]⟩ ⟨[]⟩,.int .i64 (-4),.func (.func 211) ⟨[]⟩ ⟨[]⟩]⟩),[]⟩
 |_=>none
theorem FE:am {} Tryz.f172 0=true:=by kernel_rfl
theorem f172:FnOk Tryz.prog 172 CO:=by
 refine FnOk.ofW aj (an (l:=[]) (own:=[]) (inl:=[]) (by simp) (by simp)) Tryz.func172 {} 0 FE λargs r e=>?_;unfold CO at e;split at e
 ·cases e;refine⟨by simp,λhm=>?_⟩;refine⟨[],aa [] [] 0 [],Wo trivial trivial trivial,?_⟩;with_unfolding_all refine⟨[some 0],aa [(0,.ptr 0 0 0 0)] [⟨197,2,0,false,true,4,λi=>match i with|0=>[.val (.int .i64 (-1)),.val (.func (.func 208) ⟨[]⟩ ⟨[]⟩)]|1=>[.val (.int .i64 (-2)),.val (.func (.func 209) ⟨[]⟩ ⟨[]⟩)]|2=>[.val (.int .i64 (-3)),.val (.func (.func 210) ⟨[]⟩ ⟨[]⟩)]|_=>[.val (.int .i64 (-4)),.val (.func (.func 211) ⟨[]⟩ ⟨[]⟩)]⟩] 1 [],Wo ⟨qZ (λi hi=>?_),qQ⟩ ⟨pP,qQ⟩ trivial,rfl,rfl⟩
  have hi:i < 4:=hi
  match i,hi with
  |0,_=>rfl
  |1,_=>rfl
  |2,_=>rfl
  |3,_=>rfl
  |i+4,h=>omega
 ·cases e
end Go.Proofs
namespace Go.Num
def pA (a b p:PtS):Rat:=cF (cm b a) (cm p a)
theorem tL {a b p:PtS} (ha:PtS.le 10000 a) (hb:PtS.le 10000 b) (hp:PtS.le 10000 p):QB 80017 (pA a b p):=(iA (cj hb ha) (cj hp ha)).le (by decide)
theorem yp {k:Nat} (hk:0 < k):QB k (mkRat 0 1)/\QB k (mkRat 1 1):=by
 have h2:1 < 256^k:=Nat.one_lt_pow (by omega) (by decide);have e:=fl 1 (d:=1) (by decide);refine⟨?_,Nat.lt_of_le_of_lt e.1 h2,Nat.lt_of_le_of_lt e.2 h2⟩;rw [Rat.zero_mkRat];exact⟨Nat.pow_pos (by decide),h2⟩
theorem uQ:QB 300000 (mkRat 0 1)/\QB 300000 (mkRat 1 1):=yp (by decide)
def gD (x y:Rat) (s:Rat×Rat):Option (Rat×Rat) :=
 bif !decide (ao x 0 > 0)&&!decide (ao y 0 > 0) then none else bif decide (ao x 0 > 0)&&decide (ao y 0 > 0) then some s
 else some (bif decide (ao y 0 > 0)&&decide (ao (x / (x - y)) s.1 > 0) then x / (x - y) else s.1,bif decide (ao x 0 > 0)&&decide (ao (x / (x - y)) s.2 < 0) then x / (x - y) else s.2)
def dx (n:Nat) (p:Nat->PtS) (a b:PtS):Nat->Nat->Rat×Rat->Option (Rat×Rat)
 |0,_,s=>some s
 |k+1,e,s=>(gD (pA (p e) (p ((e+1)%n)) a) (pA (p e) (p ((e+1)%n)) b) s).bind λs=>dx n p a b k (e+1) s
def gE (n:Nat) (p:Nat->PtS) (a b:PtS):Bool:=!(bh n p==0)||(!ah a||!ah b)
def db (n:Nat) (p:Nat->PtS) (a b:PtS):Option (Rat×Rat) :=
 bif gE n p a b then none else(dx n p a b n 0 (mkRat 0 1,mkRat 1 1)).bind λs=>bif decide (ao s.1 s.2>=0) then none else some s
def ky (r:Option (Rat×Rat)):Rat:=match r with|some s=>s.1|none=>0
def kU (r:Option (Rat×Rat)):Rat:=match r with|some s=>s.2|none=>0
end Go.Num
namespace Go.Proofs
def CP:List PV->Option Ans
 |[.val v,.val u,.val w]=>some ⟨some (isPk 10000 v/\isPk 10000 u/\isPk 10000 w),.val (aw (pA (aO v) (aO u) (aO w))),[]⟩
 |_=>none
def D212:Opt:={ perm:=jr 1 [(0,true),(1,true),(3,true),(4,true),(2,false),(5,false)] }
theorem FF:am D212.toOrd Tryz.f212 3=true:=by kernel_rfl
theorem f212:FnOk Tryz.prog 212 CP:=by
 refine FnOk.ofW aj (an (l:=[(76,Fj),(140,Af)]) (own:=[]) (inl:=[]) (by simp [f76,f140]) (by simp)) Tryz.func212 D212 3 FF λargs r e=>?_;unfold CP at e;split at e
 ·rename_i v u w
  cases e;refine⟨by simp,λhm=>?_⟩;obtain⟨⟨a,rfl,ha⟩,⟨b,rfl,hb⟩,c,rfl,hc⟩:=hm _ rfl;refine⟨[],aa [(0,.val a.v),(1,.val b.v),(2,.val c.v)] [] 0 [],Wo trivial ⟨rfl,rfl,rfl,qQ⟩ trivial,?_⟩;have ha':=ha.mono (show 10000<=4294967296 by decide);have hb':=hb.mono (show 10000<=4294967296 by decide);have hc':=hc.mono (show 10000<=4294967296 by decide);have s1:=(cj hb ha).mono (show 10000+10000+3<=1000000 by decide);have s2:=(cj hc ha).mono (show 10000+10000+3<=1000000 by decide);obtain⟨F,hF⟩:∃F,F=pA a b c:=⟨_,rfl⟩;have hv:PV.val (aw (pA (aO a.v) (aO b.v) (aO c.v)))=PV.val (aw F):=by rw [hF];rfl
  rw [hv];with_unfolding_all refine⟨⟨⟨b,rfl,hb'⟩,a,rfl,ha'⟩,⟨⟨c,rfl,hc'⟩,a,rfl,ha'⟩,⟨⟨cm b a,rfl,s1⟩,cm c a,rfl,s2⟩,[some 3],aa [(6,.ptr 0 0 0 0)] [bB F 0] 1 [],Wo ⟨qZ ⟨⟨?_,rfl⟩,⟨?_,rfl⟩,⟨?_,rfl⟩,qQ⟩,qQ⟩ ⟨pP,qQ⟩ trivial,rfl,rfl⟩
  ·rw [hF];rfl
  ·rw [hF];rfl
  ·rw [hF];rfl
 ·cases e
def CQ:List PV->Option Ans
 |[.rs 6 n g,.val v]=>some ⟨some (isPL 10000 n g/\dL 10000 v),.val (.tuple ⟨[aw (ky (db n (ae g) (aM v).1 (aM v).2)),aw (kU (db n (ae g) (aM v).1 (aM v).2)),.bool (db n (ae g) (aM v).1 (aM v).2).isSome,.int .i64 (bif gE n (ae g) (aM v).1 (aM v).2 then 1 else 0)]⟩),[]⟩
 |_=>none
def D174:Opt:={ join:=λc=>match c with | .region 7 _ _=>true | .region 12 _ _=>true|c=>d7 [1,9,13] c,perm:=jl [(7,.rds [0,1,2,3,5,6,7,8] (.alt 4 (.alt 9 (.alt 10 (.mk 11 .nil) (.mk 11 (.mk 10 .nil))) (.alt 10 (.alt 9 (.mk 11 .nil) (.mk 11 (.mk 9 .nil))) (.mk 11 (.alt 9 (.mk 10 .nil) (.mk 10 (.mk 9 .nil)))))) (.alt 10 (.alt 4 (.alt 9 (.mk 11 .nil) (.mk 11 (.mk 9 .nil))) (.mk 11 (.mk 4 (.mk 9 .nil)))) (.mk 11 (.alt 4 (.alt 9 (.mk 10 .nil) (.mk 10 (.mk 9 .nil))) (.mk 10 (.mk 4 (.mk 9 .nil)))))))),(8,(.rd 0 (.rd 3 (.mk 1 (.rd 2 (.mk 4 (.rd 5 (.rd 6 .nil)))))))),(12,(.rd 0 (.rd 1 (.rd 2 (.alt 3 (.alt 4 (.rd 5 (.rd 6 (.rd 7 (.mk 8 .nil)))) (.mk 8 (.mk 4 (.rd 5 (.rd 6 (.rd 7 .nil)))))) (.mk 8 (.mk 3 (.mk 4 (.rd 5 (.rd 6 (.rd 7 .nil)))))))))))],all:=jl [(19,.alt 0 (.alt 1 (OT.seq [2,3,4,5] .nil) (OT.seq [2,1,3,4,5] .nil)) (OT.seq [1,0,2,3,4,5] .nil))] }
theorem FG:am D174.toOrd Tryz.f174 2=true:=by kernel_rfl
theorem f174:FnOk Tryz.prog 174 CQ:=by
 refine FnOk.ofW aj (oN (l:=[(124,As),(167,Ar),(88,Gq),(169,Ap),(212,CP),(139,xQ),(115,nh),(173,zO),(80,Gn)]) (own:=[]) (inl:=[]) (sq:=[(207,Aq)]) (by simp [f124,f167,f88,f169,f212,f139,f115,f173,f80]) (by simp) (by simp [f207])) Tryz.func174 D174 2 FG λargs r e=>?_;unfold CQ at e;split at e
 ·rename_i n g v
  cases e;refine⟨by simp,λhm=>?_⟩;obtain⟨⟨hg,hn⟩,a,b,rfl,ha,hb⟩:=hm _ rfl;clear hm;refine⟨[],aa [(0,.rs 6 n (λi=>(ae g i).cells)),(1,.val (ar a b))] [] 0 [],Wo trivial ⟨⟨rfl,rfl,λi hi=>(hg i hi).1.symm⟩,rfl,qQ⟩ trivial,?_⟩;have pl:isPL 10000 n (λi=>(ae g i).cells):=⟨λi hi=>⟨rfl,(hg i hi).2⟩,hn⟩;generalize hp:ae g=p at *
  obtain⟨X,hX⟩:∃X,X=db n p a b:=⟨_,rfl⟩;obtain⟨Bd,hB⟩:∃B,B=gE n p a b:=⟨_,rfl⟩;have hv:PV.val (.tuple ⟨[aw (ky (db n p (aM (ar a b)).1 (aM (ar a b)).2)),aw (kU (db n p (aM (ar a b)).1 (aM (ar a b)).2)),.bool (db n p (aM (ar a b)).1 (aM (ar a b)).2).isSome,.int .i64 (bif gE n p (aM (ar a b)).1 (aM (ar a b)).2 then 1 else 0)]⟩)=PV.val (.tuple ⟨[aw (ky X),aw (kU X),.bool X.isSome,.int .i64 (bif Bd then 1 else 0)]⟩):=by rw [hX,hB];rfl
  rw [hv];clear hv;have zb:X=none->PV.val (.bool false)=PV.val (.bool (decide ((ky X).num < 0)))/\PV.val (.string ⟨#[]⟩)=PV.val (.string (ai (ky X).num.natAbs))/\PV.val (.string ⟨#[]⟩)=PV.val (.string (aP (ky X).den))/\PV.val (.bool false)=PV.val (.bool X.isSome):=λh=>by
   rw [h];refine⟨rfl,?_,rfl,rfl⟩;show PV.val (.string ⟨#[]⟩)=PV.val (.string (ai 0));rw [dJ]
  have zc:X=none->PV.val (.bool false)=PV.val (.bool (decide ((kU X).num < 0)))/\PV.val (.string ⟨#[]⟩)=PV.val (.string (ai (kU X).num.natAbs))/\PV.val (.string ⟨#[]⟩)=PV.val (.string (aP (kU X).den)):=λh=>by
   rw [h];refine⟨rfl,?_,rfl⟩;show PV.val (.string ⟨#[]⟩)=PV.val (.string (ai 0));rw [dJ]
  have xB:Bd=true->X=none:=λh=>by
   rw [hX];unfold db;rw [<-hB,h];rfl
  have e1:Bd=true->PV.val (.int .i64 1)=PV.val (.int .i64 (bif Bd then 1 else 0)):=λh=>by rw [h];rfl
  have e0:Bd=false->PV.val (.int .i64 0)=PV.val (.int .i64 (bif Bd then 1 else 0)):=λh=>by rw [h];rfl
  have hBd:Bd=(!(bh n p==0)||(!ah a||!ah b)):=hB;with_unfolding_all refine⟨Unit,λ_=>Bd=false,λ_=>aa [(0,.rs 6 n (λi=>(p i).cells)),(3,.ptr 0 0 0 0),(4,.ptr 1 1 0 0),(5,.ptr 2 2 0 0),(6,.ptr 3 3 0 0),(7,.ptr 4 4 0 0)] [⟨117,12,0,true,false,1,λ_=>[.val (.bool a.x.s),.val (.string a.x.b),.val (.string a.x.c),.val (.bool a.y.s),.val (.string a.y.b),.val (.string a.y.c),.val (.bool b.x.s),.val (.string b.x.b),.val (.string b.x.c),.val (.bool b.y.s),.val (.string b.y.b),.val (.string b.y.c)]⟩,a8 false ⟨#[]⟩ ⟨#[]⟩ 1,a8 false ⟨#[]⟩ ⟨#[]⟩ 2,⟨4,1,3,true,false,1,λ_=>[.val (.bool false)]⟩,⟨38,1,4,true,false,1,λ_=>[.val (.int .i64 0)]⟩] 5 [],?_,λ_ hbd=>?_⟩
  ·have cn:∀r:Nat->List PV,ae r 0=a->ae r 1=b->aD (λi=>!ah (ae r i)) 2=(!ah a||!ah b):=λr h h'=>by
    have e:List.range 2=[0,1]:=rfl;simp only [aD,e,List.any_cons,List.any_nil,Bool.or_false,h,h']
   have q1:(bh n p != 0) = !false->Bd=true:=λh=>by
    have h:(bh n p==0)=false:=by simpa using h
    rw [hBd,h];rfl
   have q2:∀r:Nat->List PV,ae r 0=a->ae r 1=b->(!!aD (λi=>!ah (ae r i)) 2)=true->Bd=true:=λr h h' h2=>by
    rw [cn r h h',Bool.not_not] at h2;rw [hBd,h2,Bool.or_true]
   have q3:∀r:Nat->List PV,ae r 0=a->ae r 1=b->(bh n p != 0)=false->(!!aD (λi=>!ah (ae r i)) 2)=false->Bd=false:=λr h h' h1 h2=>by
    rw [cn r h h',Bool.not_not] at h2;have h1:(bh n p==0)=true:=by simpa using h1
    rw [hBd,h1,h2];rfl
   have ha':=ha.mono (show 10000<=4294967296 by decide);have hb':=hb.mono (show 10000<=4294967296 by decide);have p2:∀r:Nat->List PV,r 0=a.cells->r 1=b.cells->isPL 4294967296 2 r:=λr h h'=>⟨λi hi=>by
    match i,hi with
    |0,_=>exact⟨by rw [ae,h];rfl,by rw [ae,h];exact ha'⟩
    |1,_=>exact⟨by rw [ae,h'];rfl,by rw [ae,h'];exact hb'⟩
    |i+2,h=>omega,by decide⟩
   with_unfolding_all refine⟨pl,λh1=>⟨p2 _ rfl rfl,λh2=>⟨[some 1,some 2,some 3,some 4],aa [(4,.ptr 0 0 0 0),(5,.ptr 1 1 0 0),(6,.ptr 2 2 0 0),(7,.ptr 3 3 0 0)] [bB (ky X) 0,bB (kU X) 1,⟨4,1,2,true,false,1,λ_=>[.val (.bool X.isSome)]⟩,⟨38,1,3,true,false,1,λ_=>[.val (.int .i64 (bif Bd then 1 else 0))]⟩] 4 [],Wo ⟨qZ ⟨⟨(zb (xB (q2 _ rfl rfl h2))).1,rfl⟩,⟨(zb (xB (q2 _ rfl rfl h2))).2.1,rfl⟩,⟨(zb (xB (q2 _ rfl rfl h2))).2.2.1,rfl⟩,qQ⟩,qZ ⟨⟨(zc (xB (q2 _ rfl rfl h2))).1,rfl⟩,⟨(zc (xB (q2 _ rfl rfl h2))).2.1,rfl⟩,⟨(zc (xB (q2 _ rfl rfl h2))).2.2,rfl⟩,qQ⟩,qZ ⟨⟨(zb (xB (q2 _ rfl rfl h2))).2.2.2,rfl⟩,qQ⟩,qZ ⟨⟨e1 (q2 _ rfl rfl h2),rfl⟩,qQ⟩,qQ⟩ ⟨pP,pP,pP,pP,qQ⟩ trivial,rfl,rfl⟩,λh2=>⟨(),[some 0,some 1,some 2,some 3,some 4],q3 _ rfl rfl h1 h2,Wo ⟨qZ ⟨rq,rq,rq,rq,rq,rq,rq,rq,rq,rq,rq,rq,qQ⟩,qX,qX,qY,qY,qQ⟩ ⟨qW,pP,pP,pP,pP,pP,qQ⟩ trivial⟩⟩,λh1=>⟨λh2=>⟨[some 1,some 2,some 3,some 4],aa [(4,.ptr 0 0 0 0),(5,.ptr 1 1 0 0),(6,.ptr 2 2 0 0),(7,.ptr 3 3 0 0)] [bB (ky X) 0,bB (kU X) 1,⟨4,1,2,true,false,1,λ_=>[.val (.bool X.isSome)]⟩,⟨38,1,3,true,false,1,λ_=>[.val (.int .i64 (bif Bd then 1 else 0))]⟩] 4 [],Wo ⟨qZ ⟨⟨(zb (xB (q1 h1))).1,rfl⟩,⟨(zb (xB (q1 h1))).2.1,rfl⟩,⟨(zb (xB (q1 h1))).2.2.1,rfl⟩,qQ⟩,qZ ⟨⟨(zc (xB (q1 h1))).1,rfl⟩,⟨(zc (xB (q1 h1))).2.1,rfl⟩,⟨(zc (xB (q1 h1))).2.2,rfl⟩,qQ⟩,qZ ⟨⟨(zb (xB (q1 h1))).2.2.2,rfl⟩,qQ⟩,qZ ⟨⟨e1 (q1 h1),rfl⟩,qQ⟩,qQ⟩ ⟨pP,pP,pP,pP,qQ⟩ trivial,rfl,rfl⟩,λh2=>(nomatch h2)⟩⟩
  ·have hbd:Bd=false:=hbd;with_unfolding_all refine⟨by decide,by decide,λ_ _=>rfl,⟨rfl,hn⟩,Rat×Rat,λk s=>(QB 300000 s.1/\QB 300000 s.2)/\dx n p a b (n - k) k s=dx n p a b n 0 (mkRat 0 1,mkRat 1 1),λs=>aa [(3,.ptr 0 0 0 0),(4,.ptr 1 1 0 0),(5,.ptr 2 2 0 0),(6,.ptr 3 3 0 0),(7,.ptr 4 4 0 0),(8,.ptr 5 5 0 0),(9,.ptr 6 6 0 0)] [⟨117,12,0,true,false,1,λ_=>[.val (.bool a.x.s),.val (.string a.x.b),.val (.string a.x.c),.val (.bool a.y.s),.val (.string a.y.b),.val (.string a.y.c),.val (.bool b.x.s),.val (.string b.x.b),.val (.string b.x.c),.val (.bool b.y.s),.val (.string b.y.b),.val (.string b.y.c)]⟩,a8 false ⟨#[]⟩ ⟨#[]⟩ 1,a8 false ⟨#[]⟩ ⟨#[]⟩ 2,⟨4,1,3,true,false,1,λ_=>[.val (.bool false)]⟩,⟨38,1,4,true,false,1,λ_=>[.val (.int .i64 0)]⟩,bB s.1 5,bB s.2 6] 7 [],⟨(mkRat 0 1,mkRat 1 1),[some 0,some 1,some 2,some 3,some 4,some 5,some 6],?_,Wo ⟨qZ ⟨rq,rq,rq,rq,rq,rq,rq,rq,rq,rq,rq,rq,qQ⟩,qX,qX,qY,qY,qX,qX,qQ⟩ ⟨pP,pP,pP,pP,pP,pP,pP,qQ⟩ trivial⟩,λk s hk hI=>?_,λs hI=>?_⟩
   ·exact⟨⟨uQ.1,uQ.2⟩,rfl⟩
   ·obtain⟨⟨hq1,hq2⟩,hpf⟩:(QB 300000 s.1/\QB 300000 s.2)/\dx n p a b (n - k) k s=dx n p a b n 0 (mkRat 0 1,mkRat 1 1):=hI;have hkn:k < n:=hk;have hml:=Nat.mod_lt (k+1) (show 0 < n by omega);have hpk:=(hg k hkn).2;have hpm:=(hg _ hml).2;obtain⟨x,hx⟩:∃x,x=pA (p k) (p ((k+1)%n)) a:=⟨_,rfl⟩;obtain⟨y,hy⟩:∃y,y=pA (p k) (p ((k+1)%n)) b:=⟨_,rfl⟩;have hx1:pA (aO (p k).v) (aO (p ((k+1)%n)).v) (aO a.v)=x:=by rw [hx];rfl
    have hy1:pA (aO (p k).v) (aO (p ((k+1)%n)).v) (aO b.v)=y:=by rw [hy];rfl
    have qx:QB 80017 x:=by rw [hx];exact tL hpk hpm ha
    have qy:QB 80017 y:=by rw [hy];exact tL hpk hpm hb
    have pr1:isPk 10000 (p k).v/\isPk 10000 (p ((k+1)%n)).v/\isPk 10000 a.v:=⟨⟨_,rfl,hpk⟩,⟨_,rfl,hpm⟩,_,rfl,ha⟩;have pr2:isPk 10000 (p k).v/\isPk 10000 (p ((k+1)%n)).v/\isPk 10000 b.v:=⟨⟨_,rfl,hpk⟩,⟨_,rfl,hpm⟩,_,rfl,hb⟩;have hstep:dx n p a b (n - k) k s=(gD x y s).bind λs=>dx n p a b (n - (k+1)) (k+1) s:=by
     rw [hx,hy,show n - k=(n - (k+1))+1 by omega];rfl
    clear hx hy;with_unfolding_all refine⟨rfl,Unit,λ_=>True,λ_=>aa [(3,.ptr 0 0 0 0),(4,.ptr 1 1 0 0),(5,.ptr 2 2 0 0),(6,.ptr 3 3 0 0),(7,.ptr 4 4 0 0),(8,.ptr 5 5 0 0),(9,.ptr 6 6 0 0),(12,.ptr 7 7 0 0),(13,.ptr 8 8 0 0)] [⟨117,12,0,true,false,1,λ_=>[.val (.bool a.x.s),.val (.string a.x.b),.val (.string a.x.c),.val (.bool a.y.s),.val (.string a.y.b),.val (.string a.y.c),.val (.bool b.x.s),.val (.string b.x.b),.val (.string b.x.c),.val (.bool b.y.s),.val (.string b.y.b),.val (.string b.y.c)]⟩,a8 false ⟨#[]⟩ ⟨#[]⟩ 1,a8 false ⟨#[]⟩ ⟨#[]⟩ 2,⟨4,1,3,true,false,1,λ_=>[.val (.bool false)]⟩,⟨38,1,4,true,false,1,λ_=>[.val (.int .i64 0)]⟩,bB s.1 5,bB s.2 6,bB x 7,bB y 8] 9 [[(3,.ptr 0 0 0 0),(4,.ptr 1 1 0 0),(5,.ptr 2 2 0 0),(6,.ptr 3 3 0 0),(7,.ptr 4 4 0 0),(8,.ptr 5 5 0 0),(9,.ptr 6 6 0 0)]],⟨⟨pr1,⟨⟨pr2,⟨⟨(),[some 0,some 1,some 2,some 3,some 4,some 5,some 6,some 9,some 10],trivial,Wo ⟨qZ ⟨rq,rq,rq,rq,rq,rq,rq,rq,rq,rq,rq,rq,qQ⟩,qX,qX,qY,qY,qX,qX,qZ ⟨⟨congrArg (λq:Rat=>PV.val (.bool (decide (q.num < 0)))) hx1,rfl⟩,⟨congrArg (λq:Rat=>PV.val (.string (ai q.num.natAbs))) hx1,rfl⟩,⟨congrArg (λq:Rat=>PV.val (.string (aP q.den))) hx1,rfl⟩,qQ⟩,qZ ⟨⟨congrArg (λq:Rat=>PV.val (.bool (decide (q.num < 0)))) hy1,rfl⟩,⟨congrArg (λq:Rat=>PV.val (.string (ai q.num.natAbs))) hy1,rfl⟩,⟨congrArg (λq:Rat=>PV.val (.string (aP q.den))) hy1,rfl⟩,qQ⟩,qQ⟩ ⟨pP,pP,pP,pP,pP,pP,pP,pP,pP,qQ⟩ ⟨⟨pP,pP,pP,pP,pP,pP,pP,qQ⟩,qQ⟩⟩,⟨(),[some 0,some 1,some 2,some 3,some 4,some 5,some 6,some 10,some 9],trivial,Wo ⟨qZ ⟨rq,rq,rq,rq,rq,rq,rq,rq,rq,rq,rq,rq,qQ⟩,qX,qX,qY,qY,qX,qX,qZ ⟨⟨congrArg (λq:Rat=>PV.val (.bool (decide (q.num < 0)))) hx1,rfl⟩,⟨congrArg (λq:Rat=>PV.val (.string (ai q.num.natAbs))) hx1,rfl⟩,⟨congrArg (λq:Rat=>PV.val (.string (aP q.den))) hx1,rfl⟩,qQ⟩,qZ ⟨⟨congrArg (λq:Rat=>PV.val (.bool (decide (q.num < 0)))) hy1,rfl⟩,⟨congrArg (λq:Rat=>PV.val (.string (ai q.num.natAbs))) hy1,rfl⟩,⟨congrArg (λq:Rat=>PV.val (.string (aP q.den))) hy1,rfl⟩,qQ⟩,qQ⟩ ⟨pP,pP,pP,pP,pP,pP,pP,pP,pP,qQ⟩ ⟨⟨pP,pP,pP,pP,pP,pP,pP,qQ⟩,qQ⟩⟩⟩⟩,⟨⟨⟨pr2,⟨(),[some 0,some 1,some 2,some 3,some 4,some 5,some 6,some 9,some 10],trivial,Wo ⟨qZ ⟨rq,rq,rq,rq,rq,rq,rq,rq,rq,rq,rq,rq,qQ⟩,qX,qX,qY,qY,qX,qX,qZ ⟨⟨congrArg (λq:Rat=>PV.val (.bool (decide (q.num < 0)))) hx1,rfl⟩,⟨congrArg (λq:Rat=>PV.val (.string (ai q.num.natAbs))) hx1,rfl⟩,⟨congrArg (λq:Rat=>PV.val (.string (aP q.den))) hx1,rfl⟩,qQ⟩,qZ ⟨⟨congrArg (λq:Rat=>PV.val (.bool (decide (q.num < 0)))) hy1,rfl⟩,⟨congrArg (λq:Rat=>PV.val (.string (ai q.num.natAbs))) hy1,rfl⟩,⟨congrArg (λq:Rat=>PV.val (.string (aP q.den))) hy1,rfl⟩,qQ⟩,qQ⟩ ⟨pP,pP,pP,pP,pP,pP,pP,pP,pP,qQ⟩ ⟨⟨pP,pP,pP,pP,pP,pP,pP,qQ⟩,qQ⟩⟩⟩,⟨pr2,⟨(),[some 0,some 1,some 2,some 3,some 4,some 5,some 6,some 9,some 10],trivial,Wo ⟨qZ ⟨rq,rq,rq,rq,rq,rq,rq,rq,rq,rq,rq,rq,qQ⟩,qX,qX,qY,qY,qX,qX,qZ ⟨⟨congrArg (λq:Rat=>PV.val (.bool (decide (q.num < 0)))) hx1,rfl⟩,⟨congrArg (λq:Rat=>PV.val (.string (ai q.num.natAbs))) hx1,rfl⟩,⟨congrArg (λq:Rat=>PV.val (.string (aP q.den))) hx1,rfl⟩,qQ⟩,qZ ⟨⟨congrArg (λq:Rat=>PV.val (.bool (decide (q.num < 0)))) hy1,rfl⟩,⟨congrArg (λq:Rat=>PV.val (.string (ai q.num.natAbs))) hy1,rfl⟩,⟨congrArg (λq:Rat=>PV.val (.string (aP q.den))) hy1,rfl⟩,qQ⟩,qQ⟩ ⟨pP,pP,pP,pP,pP,pP,pP,pP,pP,qQ⟩ ⟨⟨pP,pP,pP,pP,pP,pP,pP,qQ⟩,qQ⟩⟩⟩⟩,⟨⟨pr2,⟨(),[some 0,some 1,some 2,some 3,some 4,some 5,some 6,some 10,some 9],trivial,Wo ⟨qZ ⟨rq,rq,rq,rq,rq,rq,rq,rq,rq,rq,rq,rq,qQ⟩,qX,qX,qY,qY,qX,qX,qZ ⟨⟨congrArg (λq:Rat=>PV.val (.bool (decide (q.num < 0)))) hx1,rfl⟩,⟨congrArg (λq:Rat=>PV.val (.string (ai q.num.natAbs))) hx1,rfl⟩,⟨congrArg (λq:Rat=>PV.val (.string (aP q.den))) hx1,rfl⟩,qQ⟩,qZ ⟨⟨congrArg (λq:Rat=>PV.val (.bool (decide (q.num < 0)))) hy1,rfl⟩,⟨congrArg (λq:Rat=>PV.val (.string (ai q.num.natAbs))) hy1,rfl⟩,⟨congrArg (λq:Rat=>PV.val (.string (aP q.den))) hy1,rfl⟩,qQ⟩,qQ⟩ ⟨pP,pP,pP,pP,pP,pP,pP,pP,pP,qQ⟩ ⟨⟨pP,pP,pP,pP,pP,pP,pP,qQ⟩,qQ⟩⟩⟩,⟨pr2,⟨(),[some 0,some 1,some 2,some 3,some 4,some 5,some 6,some 10,some 9],trivial,Wo ⟨qZ ⟨rq,rq,rq,rq,rq,rq,rq,rq,rq,rq,rq,rq,qQ⟩,qX,qX,qY,qY,qX,qX,qZ ⟨⟨congrArg (λq:Rat=>PV.val (.bool (decide (q.num < 0)))) hx1,rfl⟩,⟨congrArg (λq:Rat=>PV.val (.string (ai q.num.natAbs))) hx1,rfl⟩,⟨congrArg (λq:Rat=>PV.val (.string (aP q.den))) hx1,rfl⟩,qQ⟩,qZ ⟨⟨congrArg (λq:Rat=>PV.val (.bool (decide (q.num < 0)))) hy1,rfl⟩,⟨congrArg (λq:Rat=>PV.val (.string (ai q.num.natAbs))) hy1,rfl⟩,⟨congrArg (λq:Rat=>PV.val (.string (aP q.den))) hy1,rfl⟩,qQ⟩,qQ⟩ ⟨pP,pP,pP,pP,pP,pP,pP,pP,pP,qQ⟩ ⟨⟨pP,pP,pP,pP,pP,pP,pP,qQ⟩,qQ⟩⟩⟩⟩⟩⟩⟩,⟨⟨⟨pr1,⟨⟨pr2,⟨(),[some 0,some 1,some 2,some 3,some 4,some 5,some 6,some 9,some 10],trivial,Wo ⟨qZ ⟨rq,rq,rq,rq,rq,rq,rq,rq,rq,rq,rq,rq,qQ⟩,qX,qX,qY,qY,qX,qX,qZ ⟨⟨congrArg (λq:Rat=>PV.val (.bool (decide (q.num < 0)))) hx1,rfl⟩,⟨congrArg (λq:Rat=>PV.val (.string (ai q.num.natAbs))) hx1,rfl⟩,⟨congrArg (λq:Rat=>PV.val (.string (aP q.den))) hx1,rfl⟩,qQ⟩,qZ ⟨⟨congrArg (λq:Rat=>PV.val (.bool (decide (q.num < 0)))) hy1,rfl⟩,⟨congrArg (λq:Rat=>PV.val (.string (ai q.num.natAbs))) hy1,rfl⟩,⟨congrArg (λq:Rat=>PV.val (.string (aP q.den))) hy1,rfl⟩,qQ⟩,qQ⟩ ⟨pP,pP,pP,pP,pP,pP,pP,pP,pP,qQ⟩ ⟨⟨pP,pP,pP,pP,pP,pP,pP,qQ⟩,qQ⟩⟩⟩,⟨pr2,⟨(),[some 0,some 1,some 2,some 3,some 4,some 5,some 6,some 9,some 10],trivial,Wo ⟨qZ ⟨rq,rq,rq,rq,rq,rq,rq,rq,rq,rq,rq,rq,qQ⟩,qX,qX,qY,qY,qX,qX,qZ ⟨⟨congrArg (λq:Rat=>PV.val (.bool (decide (q.num < 0)))) hx1,rfl⟩,⟨congrArg (λq:Rat=>PV.val (.string (ai q.num.natAbs))) hx1,rfl⟩,⟨congrArg (λq:Rat=>PV.val (.string (aP q.den))) hx1,rfl⟩,qQ⟩,qZ ⟨⟨congrArg (λq:Rat=>PV.val (.bool (decide (q.num < 0)))) hy1,rfl⟩,⟨congrArg (λq:Rat=>PV.val (.string (ai q.num.natAbs))) hy1,rfl⟩,⟨congrArg (λq:Rat=>PV.val (.string (aP q.den))) hy1,rfl⟩,qQ⟩,qQ⟩ ⟨pP,pP,pP,pP,pP,pP,pP,pP,pP,qQ⟩ ⟨⟨pP,pP,pP,pP,pP,pP,pP,qQ⟩,qQ⟩⟩⟩⟩⟩,⟨pr1,⟨pr2,⟨(),[some 0,some 1,some 2,some 3,some 4,some 5,some 6,some 9,some 10],trivial,Wo ⟨qZ ⟨rq,rq,rq,rq,rq,rq,rq,rq,rq,rq,rq,rq,qQ⟩,qX,qX,qY,qY,qX,qX,qZ ⟨⟨congrArg (λq:Rat=>PV.val (.bool (decide (q.num < 0)))) hx1,rfl⟩,⟨congrArg (λq:Rat=>PV.val (.string (ai q.num.natAbs))) hx1,rfl⟩,⟨congrArg (λq:Rat=>PV.val (.string (aP q.den))) hx1,rfl⟩,qQ⟩,qZ ⟨⟨congrArg (λq:Rat=>PV.val (.bool (decide (q.num < 0)))) hy1,rfl⟩,⟨congrArg (λq:Rat=>PV.val (.string (ai q.num.natAbs))) hy1,rfl⟩,⟨congrArg (λq:Rat=>PV.val (.string (aP q.den))) hy1,rfl⟩,qQ⟩,qQ⟩ ⟨pP,pP,pP,pP,pP,pP,pP,pP,pP,qQ⟩ ⟨⟨pP,pP,pP,pP,pP,pP,pP,qQ⟩,qQ⟩⟩⟩⟩⟩,⟨⟨pr1,⟨⟨pr2,⟨(),[some 0,some 1,some 2,some 3,some 4,some 5,some 6,some 10,some 9],trivial,Wo ⟨qZ ⟨rq,rq,rq,rq,rq,rq,rq,rq,rq,rq,rq,rq,qQ⟩,qX,qX,qY,qY,qX,qX,qZ ⟨⟨congrArg (λq:Rat=>PV.val (.bool (decide (q.num < 0)))) hx1,rfl⟩,⟨congrArg (λq:Rat=>PV.val (.string (ai q.num.natAbs))) hx1,rfl⟩,⟨congrArg (λq:Rat=>PV.val (.string (aP q.den))) hx1,rfl⟩,qQ⟩,qZ ⟨⟨congrArg (λq:Rat=>PV.val (.bool (decide (q.num < 0)))) hy1,rfl⟩,⟨congrArg (λq:Rat=>PV.val (.string (ai q.num.natAbs))) hy1,rfl⟩,⟨congrArg (λq:Rat=>PV.val (.string (aP q.den))) hy1,rfl⟩,qQ⟩,qQ⟩ ⟨pP,pP,pP,pP,pP,pP,pP,pP,pP,qQ⟩ ⟨⟨pP,pP,pP,pP,pP,pP,pP,qQ⟩,qQ⟩⟩⟩,⟨pr2,⟨(),[some 0,some 1,some 2,some 3,some 4,some 5,some 6,some 10,some 9],trivial,Wo ⟨qZ ⟨rq,rq,rq,rq,rq,rq,rq,rq,rq,rq,rq,rq,qQ⟩,qX,qX,qY,qY,qX,qX,qZ ⟨⟨congrArg (λq:Rat=>PV.val (.bool (decide (q.num < 0)))) hx1,rfl⟩,⟨congrArg (λq:Rat=>PV.val (.string (ai q.num.natAbs))) hx1,rfl⟩,⟨congrArg (λq:Rat=>PV.val (.string (aP q.den))) hx1,rfl⟩,qQ⟩,qZ ⟨⟨congrArg (λq:Rat=>PV.val (.bool (decide (q.num < 0)))) hy1,rfl⟩,⟨congrArg (λq:Rat=>PV.val (.string (ai q.num.natAbs))) hy1,rfl⟩,⟨congrArg (λq:Rat=>PV.val (.string (aP q.den))) hy1,rfl⟩,qQ⟩,qQ⟩ ⟨pP,pP,pP,pP,pP,pP,pP,pP,pP,qQ⟩ ⟨⟨pP,pP,pP,pP,pP,pP,pP,qQ⟩,qQ⟩⟩⟩⟩⟩,⟨pr1,⟨pr2,⟨(),[some 0,some 1,some 2,some 3,some 4,some 5,some 6,some 10,some 9],trivial,Wo ⟨qZ ⟨rq,rq,rq,rq,rq,rq,rq,rq,rq,rq,rq,rq,qQ⟩,qX,qX,qY,qY,qX,qX,qZ ⟨⟨congrArg (λq:Rat=>PV.val (.bool (decide (q.num < 0)))) hx1,rfl⟩,⟨congrArg (λq:Rat=>PV.val (.string (ai q.num.natAbs))) hx1,rfl⟩,⟨congrArg (λq:Rat=>PV.val (.string (aP q.den))) hx1,rfl⟩,qQ⟩,qZ ⟨⟨congrArg (λq:Rat=>PV.val (.bool (decide (q.num < 0)))) hy1,rfl⟩,⟨congrArg (λq:Rat=>PV.val (.string (ai q.num.natAbs))) hy1,rfl⟩,⟨congrArg (λq:Rat=>PV.val (.string (aP q.den))) hy1,rfl⟩,qQ⟩,qQ⟩ ⟨pP,pP,pP,pP,pP,pP,pP,pP,pP,qQ⟩ ⟨⟨pP,pP,pP,pP,pP,pP,pP,qQ⟩,qQ⟩⟩⟩⟩⟩⟩⟩,λ_ _=>?_⟩
    have rx:isRk 4294967296 (aw x):=qx.rk (by decide);have ry:isRk 4294967296 (aw y):=qy.rk (by decide);have ix:decide (ao (aE (aw x)) 0 > 0)=decide (ao x 0 > 0):=by rw [aC]
    have iy:decide (ao (aE (aw y)) 0 > 0)=decide (ao y 0 > 0):=by rw [aC]
    have nin:(!decide (ao (aE (aw x)) 0 > 0))=true->(!decide (ao (aE (aw y)) 0 > 0))=true->X=none:=λh h'=>by
     rw [ix] at h;rw [iy] at h';rw [hX];unfold db;rw [<-hB,hbd];unfold gD at hstep;rw [h,h'] at hstep;rw [<-hpf,hstep];rfl
    have I9a:(!decide (ao (aE (aw y)) 0 > 0))=false->(decide (ao x 0 > 0)||decide (ao y 0 > 0))=true:=λh=>by
     rw [iy] at h;have h:decide (ao y 0 > 0)=true:=by simpa using h
     rw [h,Bool.or_true]
    have I9b:(!decide (ao (aE (aw x)) 0 > 0)) = !true->(decide (ao x 0 > 0)||decide (ao y 0 > 0))=true:=λh=>by
     rw [ix] at h;have h:decide (ao x 0 > 0)=true:=by simpa using h
     rw [h,Bool.true_or]
    with_unfolding_all refine⟨rx,ry,Unit,λ_=>(decide (ao x 0 > 0)||decide (ao y 0 > 0))=true,λ_=>aa [(3,.ptr 0 0 0 0),(4,.ptr 1 1 0 0),(5,.ptr 2 2 0 0),(6,.ptr 3 3 0 0),(7,.ptr 4 4 0 0),(8,.ptr 5 5 0 0),(9,.ptr 6 6 0 0),(12,.ptr 7 7 0 0),(13,.ptr 8 8 0 0),(14,.val (.bool (decide (ao x 0 > 0)))),(15,.val (.bool (decide (ao y 0 > 0))))] [⟨117,12,0,true,false,1,λ_=>[.val (.bool a.x.s),.val (.string a.x.b),.val (.string a.x.c),.val (.bool a.y.s),.val (.string a.y.b),.val (.string a.y.c),.val (.bool b.x.s),.val (.string b.x.b),.val (.string b.x.c),.val (.bool b.y.s),.val (.string b.y.b),.val (.string b.y.c)]⟩,a8 false ⟨#[]⟩ ⟨#[]⟩ 1,a8 false ⟨#[]⟩ ⟨#[]⟩ 2,⟨4,1,3,true,false,1,λ_=>[.val (.bool false)]⟩,⟨38,1,4,true,false,1,λ_=>[.val (.int .i64 0)]⟩,bB s.1 5,bB s.2 6,bB x 7,bB y 8] 9 [[(3,.ptr 0 0 0 0),(4,.ptr 1 1 0 0),(5,.ptr 2 2 0 0),(6,.ptr 3 3 0 0),(7,.ptr 4 4 0 0),(8,.ptr 5 5 0 0),(9,.ptr 6 6 0 0)]],⟨λh1=>⟨λh2=>⟨[some 1,some 2,some 3,some 4],aa [(4,.ptr 0 0 0 0),(5,.ptr 1 1 0 0),(6,.ptr 2 2 0 0),(7,.ptr 3 3 0 0)] [bB (ky X) 0,bB (kU X) 1,⟨4,1,2,true,false,1,λ_=>[.val (.bool X.isSome)]⟩,⟨38,1,3,true,false,1,λ_=>[.val (.int .i64 (bif Bd then 1 else 0))]⟩] 4 [],Wo ⟨qZ ⟨⟨(zb (nin h1 h2)).1,rfl⟩,⟨(zb (nin h1 h2)).2.1,rfl⟩,⟨(zb (nin h1 h2)).2.2.1,rfl⟩,qQ⟩,qZ ⟨⟨(zc (nin h1 h2)).1,rfl⟩,⟨(zc (nin h1 h2)).2.1,rfl⟩,⟨(zc (nin h1 h2)).2.2,rfl⟩,qQ⟩,qZ ⟨⟨(zb (nin h1 h2)).2.2.2,rfl⟩,qQ⟩,qZ ⟨⟨e0 hbd,rfl⟩,qQ⟩,qQ⟩ ⟨pP,pP,pP,pP,qQ⟩ trivial,rfl,rfl⟩,λh2=>⟨(),[some 0,some 1,some 2,some 3,some 4,some 5,some 6,some 7,some 8],I9a h2,Wo ⟨qZ ⟨rq,rq,rq,rq,rq,rq,rq,rq,rq,rq,rq,rq,qQ⟩,qX,qX,qY,qY,qX,qX,qX,qX,qQ⟩ ⟨pP,pP,pP,pP,pP,pP,pP,pP,pP,congrArg (λz=>PV.val (.bool z)) ix,congrArg (λz=>PV.val (.bool z)) iy,qQ⟩ ⟨⟨pP,pP,pP,pP,pP,pP,pP,qQ⟩,qQ⟩⟩⟩,λh1=>⟨λh2=>(nomatch h2),λh2=>⟨(),[some 0,some 1,some 2,some 3,some 4,some 5,some 6,some 7,some 8],I9b h1,Wo ⟨qZ ⟨rq,rq,rq,rq,rq,rq,rq,rq,rq,rq,rq,rq,qQ⟩,qX,qX,qY,qY,qX,qX,qX,qX,qQ⟩ ⟨pP,pP,pP,pP,pP,pP,pP,pP,pP,congrArg (λz=>PV.val (.bool z)) ix,congrArg (λz=>PV.val (.bool z)) iy,qQ⟩ ⟨⟨pP,pP,pP,pP,pP,pP,pP,qQ⟩,qQ⟩⟩⟩⟩,λ_ h9=>?_⟩
    have h9:(decide (ao x 0 > 0)||decide (ao y 0 > 0))=true:=h9;obtain⟨t,ht⟩:∃t,t=x / (x - y):=⟨_,rfl⟩;have ht1:aE (aw x) / aE (aw (aE (aw x) - aE (aw y)))=t:=by rw [aC,aC,aC,ht]
    have qt:QB 300000 t:=by rw [ht];exact(qx.div (qx.sub qy)).le (by decide)
    have pr3:isRk 4294967296 (aw x)/\isRk 4294967296 (aw y):=⟨rx,ry⟩;have pr4:isRk 4294967296 (aw x)/\isRk 4294967296 (aw (aE (aw x) - aE (aw y))):=⟨rx,by rw [aC,aC];exact(qx.sub qy).rk (by decide)⟩;have h9':(!decide (ao x 0 > 0)&&!decide (ao y 0 > 0))=false:=by cases h:decide (ao x 0 > 0)<;>cases h':decide (ao y 0 > 0)<;>first|rfl|(rw [h,h'] at h9;cases h9)
    have I12a:decide (ao y 0 > 0)=false->(decide (ao x 0 > 0)&&decide (ao y 0 > 0))=false:=λh=>by rw [h,Bool.and_false]
    have I12b:decide (ao x 0 > 0) = !true->(decide (ao x 0 > 0)&&decide (ao y 0 > 0))=false:=λh=>by rw [h];rfl
    with_unfolding_all refine⟨λh1=>⟨λh2=>⟨s,[some 0,some 1,some 2,some 3,some 4,some 5,some 6],?_,Wo ⟨qZ ⟨rq,rq,rq,rq,rq,rq,rq,rq,rq,rq,rq,rq,qQ⟩,qX,qX,qY,qY,qX,qX,qQ⟩ ⟨pP,pP,pP,pP,pP,pP,pP,qQ⟩ trivial⟩,λh2=>⟨Unit,λ_=>(decide (ao x 0 > 0)&&decide (ao y 0 > 0))=false,λ_=>aa [(3,.ptr 0 0 0 0),(4,.ptr 1 1 0 0),(5,.ptr 2 2 0 0),(6,.ptr 3 3 0 0),(7,.ptr 4 4 0 0),(8,.ptr 5 5 0 0),(9,.ptr 6 6 0 0),(14,.val (.bool (decide (ao x 0 > 0)))),(15,.val (.bool (decide (ao y 0 > 0)))),(16,.ptr 7 7 0 0)] [⟨117,12,0,true,false,1,λ_=>[.val (.bool a.x.s),.val (.string a.x.b),.val (.string a.x.c),.val (.bool a.y.s),.val (.string a.y.b),.val (.string a.y.c),.val (.bool b.x.s),.val (.string b.x.b),.val (.string b.x.c),.val (.bool b.y.s),.val (.string b.y.b),.val (.string b.y.c)]⟩,a8 false ⟨#[]⟩ ⟨#[]⟩ 1,a8 false ⟨#[]⟩ ⟨#[]⟩ 2,⟨4,1,3,true,false,1,λ_=>[.val (.bool false)]⟩,⟨38,1,4,true,false,1,λ_=>[.val (.int .i64 0)]⟩,bB s.1 5,bB s.2 6,bB t 7] 8 [[(3,.ptr 0 0 0 0),(4,.ptr 1 1 0 0),(5,.ptr 2 2 0 0),(6,.ptr 3 3 0 0),(7,.ptr 4 4 0 0),(8,.ptr 5 5 0 0),(9,.ptr 6 6 0 0)]],(λI12=>?_) (I12a h2),λ_ hn12=>?_⟩⟩,λh1=>⟨λh2=>(nomatch h2),λh2=>⟨Unit,λ_=>(decide (ao x 0 > 0)&&decide (ao y 0 > 0))=false,λ_=>aa [(3,.ptr 0 0 0 0),(4,.ptr 1 1 0 0),(5,.ptr 2 2 0 0),(6,.ptr 3 3 0 0),(7,.ptr 4 4 0 0),(8,.ptr 5 5 0 0),(9,.ptr 6 6 0 0),(14,.val (.bool (decide (ao x 0 > 0)))),(15,.val (.bool (decide (ao y 0 > 0)))),(16,.ptr 7 7 0 0)] [⟨117,12,0,true,false,1,λ_=>[.val (.bool a.x.s),.val (.string a.x.b),.val (.string a.x.c),.val (.bool a.y.s),.val (.string a.y.b),.val (.string a.y.c),.val (.bool b.x.s),.val (.string b.x.b),.val (.string b.x.c),.val (.bool b.y.s),.val (.string b.y.b),.val (.string b.y.c)]⟩,a8 false ⟨#[]⟩ ⟨#[]⟩ 1,a8 false ⟨#[]⟩ ⟨#[]⟩ 2,⟨4,1,3,true,false,1,λ_=>[.val (.bool false)]⟩,⟨38,1,4,true,false,1,λ_=>[.val (.int .i64 0)]⟩,bB s.1 5,bB s.2 6,bB t 7] 8 [[(3,.ptr 0 0 0 0),(4,.ptr 1 1 0 0),(5,.ptr 2 2 0 0),(6,.ptr 3 3 0 0),(7,.ptr 4 4 0 0),(8,.ptr 5 5 0 0),(9,.ptr 6 6 0 0)]],(λI12=>?_) (I12b h1),λ_ hn12=>?_⟩⟩⟩
    ·have hpf2:dx n p a b (n - (k+1)) (k+1) s=dx n p a b n 0 (mkRat 0 1,mkRat 1 1):=by
      rw [<-hpf,hstep];unfold gD;rw [h9',show((decide (ao x 0 > 0))&&(decide (ao y 0 > 0)))=true by
       have h1:decide (ao x 0 > 0)=true:=h1;have h2:decide (ao y 0 > 0)=true:=h2;rw [h1,h2];rfl]
      rfl
     exact⟨⟨hq1,hq2⟩,hpf2⟩
    ·with_unfolding_all exact⟨⟨pr3,⟨⟨pr4,⟨(),[some 0,some 1,some 2,some 3,some 4,some 5,some 6,some 9],I12,Wo ⟨qZ ⟨rq,rq,rq,rq,rq,rq,rq,rq,rq,rq,rq,rq,qQ⟩,qX,qX,qY,qY,qX,qX,qZ ⟨⟨congrArg (λq:Rat=>PV.val (.bool (decide (q.num < 0)))) ht1,rfl⟩,⟨congrArg (λq:Rat=>PV.val (.string (ai q.num.natAbs))) ht1,rfl⟩,⟨congrArg (λq:Rat=>PV.val (.string (aP q.den))) ht1,rfl⟩,qQ⟩,qQ⟩ ⟨pP,pP,pP,pP,pP,pP,pP,rfl,rfl,pP,qQ⟩ ⟨⟨pP,pP,pP,pP,pP,pP,pP,qQ⟩,qQ⟩⟩⟩,⟨pr4,⟨(),[some 0,some 1,some 2,some 3,some 4,some 5,some 6,some 9],I12,Wo ⟨qZ ⟨rq,rq,rq,rq,rq,rq,rq,rq,rq,rq,rq,rq,qQ⟩,qX,qX,qY,qY,qX,qX,qZ ⟨⟨congrArg (λq:Rat=>PV.val (.bool (decide (q.num < 0)))) ht1,rfl⟩,⟨congrArg (λq:Rat=>PV.val (.string (ai q.num.natAbs))) ht1,rfl⟩,⟨congrArg (λq:Rat=>PV.val (.string (aP q.den))) ht1,rfl⟩,qQ⟩,qQ⟩ ⟨pP,pP,pP,pP,pP,pP,pP,rfl,rfl,pP,qQ⟩ ⟨⟨pP,pP,pP,pP,pP,pP,pP,qQ⟩,qQ⟩⟩⟩⟩⟩,⟨pr3,⟨pr4,⟨(),[some 0,some 1,some 2,some 3,some 4,some 5,some 6,some 9],I12,Wo ⟨qZ ⟨rq,rq,rq,rq,rq,rq,rq,rq,rq,rq,rq,rq,qQ⟩,qX,qX,qY,qY,qX,qX,qZ ⟨⟨congrArg (λq:Rat=>PV.val (.bool (decide (q.num < 0)))) ht1,rfl⟩,⟨congrArg (λq:Rat=>PV.val (.string (ai q.num.natAbs))) ht1,rfl⟩,⟨congrArg (λq:Rat=>PV.val (.string (aP q.den))) ht1,rfl⟩,qQ⟩,qQ⟩ ⟨pP,pP,pP,pP,pP,pP,pP,rfl,rfl,pP,qQ⟩ ⟨⟨pP,pP,pP,pP,pP,pP,pP,qQ⟩,qQ⟩⟩⟩⟩⟩
    ·have hn12:(decide (ao x 0 > 0)&&decide (ao y 0 > 0))=false:=hn12;have rt:isRk 4294967296 (aw t):=qt.rk (by decide);have r1:isRk 4294967296 (aw s.1):=hq1.rk (by decide);have r2:isRk 4294967296 (aw s.2):=hq2.rk (by decide);obtain⟨lw,hlw⟩:∃z,z=(bif decide (ao y 0 > 0)&&decide (ao t s.1 > 0) then t else s.1):=⟨_,rfl⟩;obtain⟨hgx,hhg⟩:∃z,z=(bif decide (ao x 0 > 0)&&decide (ao t s.2 < 0) then t else s.2):=⟨_,rfl⟩;have el:decide (ao (aE (aw t)) (aE (aw s.1)) > 0)=decide (ao t s.1 > 0):=by rw [aC,aC]
     have eh:decide (ao (aE (aw t)) (aE (aw s.2)) < 0)=decide (ao t s.2 < 0):=by rw [aC,aC]
     have l1:decide (ao y 0 > 0)=true->decide (ao (aE (aw t)) (aE (aw s.1)) > 0)=true->t=lw:=λh h'=>by rw [el] at h';rw [hlw,h,h'];rfl
     have l2:decide (ao (aE (aw t)) (aE (aw s.1)) > 0)=false->s.1=lw:=λh=>by rw [el] at h;rw [hlw,h,Bool.and_false];rfl
     have l3:decide (ao y 0 > 0) = !true->s.1=lw:=λh=>by rw [hlw,h];rfl
     have g1:decide (ao x 0 > 0)=true->decide (ao (aE (aw t)) (aE (aw s.2)) < 0)=true->t=hgx:=λh h'=>by rw [eh] at h';rw [hhg,h,h'];rfl
     have g2:decide (ao (aE (aw t)) (aE (aw s.2)) < 0)=false->s.2=hgx:=λh=>by rw [eh] at h;rw [hhg,h,Bool.and_false];rfl
     have g3:decide (ao x 0 > 0) = !true->s.2=hgx:=λh=>by rw [hhg,h];rfl
     have qw:QB 300000 lw:=by
      rw [hlw];cases (decide (ao y 0 > 0)&&decide (ao t s.1 > 0))
      ·exact hq1
      ·exact qt
     have qg:QB 300000 hgx:=by
      rw [hhg];cases (decide (ao x 0 > 0)&&decide (ao t s.2 < 0))
      ·exact hq2
      ·exact qt
     have hpf2:dx n p a b (n - (k+1)) (k+1) (lw,hgx)=dx n p a b n 0 (mkRat 0 1,mkRat 1 1):=by
      rw [<-hpf,hstep];unfold gD;rw [h9',hn12,<-ht,<-hlw,<-hhg];rfl
     with_unfolding_all refine⟨Unit,λ_=>True,λ_=>aa [(3,.ptr 0 0 0 0),(4,.ptr 1 1 0 0),(5,.ptr 2 2 0 0),(6,.ptr 3 3 0 0),(7,.ptr 4 4 0 0),(8,.ptr 5 5 0 0),(9,.ptr 6 6 0 0),(14,.val (.bool (decide (ao x 0 > 0)))),(15,.val (.bool (decide (ao y 0 > 0)))),(16,.ptr 7 7 0 0)] [⟨117,12,0,true,false,1,λ_=>[.val (.bool a.x.s),.val (.string a.x.b),.val (.string a.x.c),.val (.bool a.y.s),.val (.string a.y.b),.val (.string a.y.c),.val (.bool b.x.s),.val (.string b.x.b),.val (.string b.x.c),.val (.bool b.y.s),.val (.string b.y.b),.val (.string b.y.c)]⟩,a8 false ⟨#[]⟩ ⟨#[]⟩ 1,a8 false ⟨#[]⟩ ⟨#[]⟩ 2,⟨4,1,3,true,false,1,λ_=>[.val (.bool false)]⟩,⟨38,1,4,true,false,1,λ_=>[.val (.int .i64 0)]⟩,bB lw 5,bB s.2 6,bB t 7] 8 [[(3,.ptr 0 0 0 0),(4,.ptr 1 1 0 0),(5,.ptr 2 2 0 0),(6,.ptr 3 3 0 0),(7,.ptr 4 4 0 0),(8,.ptr 5 5 0 0),(9,.ptr 6 6 0 0)]],?_,λ_ _=>?_⟩
     ·with_unfolding_all exact⟨λh1=>⟨⟨rt,r1⟩,λh2=>⟨(),[some 0,some 1,some 2,some 3,some 4,some 5,some 6,some 7],trivial,Wo ⟨qZ ⟨rq,rq,rq,rq,rq,rq,rq,rq,rq,rq,rq,rq,qQ⟩,qX,qX,qY,qY,qZ ⟨⟨congrArg (λq:Rat=>PV.val (.bool (bz q).s)) (l1 h1 h2),rfl⟩,⟨congrArg (λq:Rat=>PV.val (.string (bz q).b)) (l1 h1 h2),rfl⟩,⟨congrArg (λq:Rat=>PV.val (.string (bz q).c)) (l1 h1 h2),rfl⟩,qQ⟩,qX,qX,qQ⟩ ⟨pP,pP,pP,pP,pP,pP,pP,rfl,rfl,pP,qQ⟩ ⟨⟨pP,pP,pP,pP,pP,pP,pP,qQ⟩,qQ⟩⟩,λh2=>⟨(),[some 0,some 1,some 2,some 3,some 4,some 5,some 6,some 7],trivial,Wo ⟨qZ ⟨rq,rq,rq,rq,rq,rq,rq,rq,rq,rq,rq,rq,qQ⟩,qX,qX,qY,qY,qZ ⟨⟨congrArg (λq:Rat=>PV.val (.bool (bz q).s)) (l2 h2),rfl⟩,⟨congrArg (λq:Rat=>PV.val (.string (bz q).b)) (l2 h2),rfl⟩,⟨congrArg (λq:Rat=>PV.val (.string (bz q).c)) (l2 h2),rfl⟩,qQ⟩,qX,qX,qQ⟩ ⟨pP,pP,pP,pP,pP,pP,pP,rfl,rfl,pP,qQ⟩ ⟨⟨pP,pP,pP,pP,pP,pP,pP,qQ⟩,qQ⟩⟩⟩,λh1=>⟨λh2=>(nomatch h2),λh2=>⟨(),[some 0,some 1,some 2,some 3,some 4,some 5,some 6,some 7],trivial,Wo ⟨qZ ⟨rq,rq,rq,rq,rq,rq,rq,rq,rq,rq,rq,rq,qQ⟩,qX,qX,qY,qY,qZ ⟨⟨congrArg (λq:Rat=>PV.val (.bool (bz q).s)) (l3 h1),rfl⟩,⟨congrArg (λq:Rat=>PV.val (.string (bz q).b)) (l3 h1),rfl⟩,⟨congrArg (λq:Rat=>PV.val (.string (bz q).c)) (l3 h1),rfl⟩,qQ⟩,qX,qX,qQ⟩ ⟨pP,pP,pP,pP,pP,pP,pP,rfl,rfl,pP,qQ⟩ ⟨⟨pP,pP,pP,pP,pP,pP,pP,qQ⟩,qQ⟩⟩⟩⟩
     ·with_unfolding_all exact⟨λh1=>⟨⟨rt,r2⟩,λh2=>⟨(lw,hgx),[some 0,some 1,some 2,some 3,some 4,some 5,some 6],⟨⟨qw,qg⟩,hpf2⟩,Wo ⟨qZ ⟨rq,rq,rq,rq,rq,rq,rq,rq,rq,rq,rq,rq,qQ⟩,qX,qX,qY,qY,qX,qZ ⟨⟨congrArg (λq:Rat=>PV.val (.bool (bz q).s)) (g1 h1 h2),rfl⟩,⟨congrArg (λq:Rat=>PV.val (.string (bz q).b)) (g1 h1 h2),rfl⟩,⟨congrArg (λq:Rat=>PV.val (.string (bz q).c)) (g1 h1 h2),rfl⟩,qQ⟩,qQ⟩ ⟨pP,pP,pP,pP,pP,pP,pP,qQ⟩ trivial⟩,λh2=>⟨(lw,hgx),[some 0,some 1,some 2,some 3,some 4,some 5,some 6],⟨⟨qw,qg⟩,hpf2⟩,Wo ⟨qZ ⟨rq,rq,rq,rq,rq,rq,rq,rq,rq,rq,rq,rq,qQ⟩,qX,qX,qY,qY,qX,qZ ⟨⟨congrArg (λq:Rat=>PV.val (.bool (bz q).s)) (g2 h2),rfl⟩,⟨congrArg (λq:Rat=>PV.val (.string (bz q).b)) (g2 h2),rfl⟩,⟨congrArg (λq:Rat=>PV.val (.string (bz q).c)) (g2 h2),rfl⟩,qQ⟩,qQ⟩ ⟨pP,pP,pP,pP,pP,pP,pP,qQ⟩ trivial⟩⟩,λh1=>⟨λh2=>(nomatch h2),λh2=>⟨(lw,hgx),[some 0,some 1,some 2,some 3,some 4,some 5,some 6],⟨⟨qw,qg⟩,hpf2⟩,Wo ⟨qZ ⟨rq,rq,rq,rq,rq,rq,rq,rq,rq,rq,rq,rq,qQ⟩,qX,qX,qY,qY,qX,qZ ⟨⟨congrArg (λq:Rat=>PV.val (.bool (bz q).s)) (g3 h1),rfl⟩,⟨congrArg (λq:Rat=>PV.val (.string (bz q).b)) (g3 h1),rfl⟩,⟨congrArg (λq:Rat=>PV.val (.string (bz q).c)) (g3 h1),rfl⟩,qQ⟩,qQ⟩ ⟨pP,pP,pP,pP,pP,pP,pP,qQ⟩ trivial⟩⟩⟩
    ·with_unfolding_all exact⟨⟨pr3,⟨⟨pr4,⟨(),[some 0,some 1,some 2,some 3,some 4,some 5,some 6,some 9],I12,Wo ⟨qZ ⟨rq,rq,rq,rq,rq,rq,rq,rq,rq,rq,rq,rq,qQ⟩,qX,qX,qY,qY,qX,qX,qZ ⟨⟨congrArg (λq:Rat=>PV.val (.bool (decide (q.num < 0)))) ht1,rfl⟩,⟨congrArg (λq:Rat=>PV.val (.string (ai q.num.natAbs))) ht1,rfl⟩,⟨congrArg (λq:Rat=>PV.val (.string (aP q.den))) ht1,rfl⟩,qQ⟩,qQ⟩ ⟨pP,pP,pP,pP,pP,pP,pP,rfl,rfl,pP,qQ⟩ ⟨⟨pP,pP,pP,pP,pP,pP,pP,qQ⟩,qQ⟩⟩⟩,⟨pr4,⟨(),[some 0,some 1,some 2,some 3,some 4,some 5,some 6,some 9],I12,Wo ⟨qZ ⟨rq,rq,rq,rq,rq,rq,rq,rq,rq,rq,rq,rq,qQ⟩,qX,qX,qY,qY,qX,qX,qZ ⟨⟨congrArg (λq:Rat=>PV.val (.bool (decide (q.num < 0)))) ht1,rfl⟩,⟨congrArg (λq:Rat=>PV.val (.string (ai q.num.natAbs))) ht1,rfl⟩,⟨congrArg (λq:Rat=>PV.val (.string (aP q.den))) ht1,rfl⟩,qQ⟩,qQ⟩ ⟨pP,pP,pP,pP,pP,pP,pP,rfl,rfl,pP,qQ⟩ ⟨⟨pP,pP,pP,pP,pP,pP,pP,qQ⟩,qQ⟩⟩⟩⟩⟩,⟨pr3,⟨pr4,⟨(),[some 0,some 1,some 2,some 3,some 4,some 5,some 6,some 9],I12,Wo ⟨qZ ⟨rq,rq,rq,rq,rq,rq,rq,rq,rq,rq,rq,rq,qQ⟩,qX,qX,qY,qY,qX,qX,qZ ⟨⟨congrArg (λq:Rat=>PV.val (.bool (decide (q.num < 0)))) ht1,rfl⟩,⟨congrArg (λq:Rat=>PV.val (.string (ai q.num.natAbs))) ht1,rfl⟩,⟨congrArg (λq:Rat=>PV.val (.string (aP q.den))) ht1,rfl⟩,qQ⟩,qQ⟩ ⟨pP,pP,pP,pP,pP,pP,pP,rfl,rfl,pP,qQ⟩ ⟨⟨pP,pP,pP,pP,pP,pP,pP,qQ⟩,qQ⟩⟩⟩⟩⟩
    ·have hn12:(decide (ao x 0 > 0)&&decide (ao y 0 > 0))=false:=hn12;have rt:isRk 4294967296 (aw t):=qt.rk (by decide);have r1:isRk 4294967296 (aw s.1):=hq1.rk (by decide);have r2:isRk 4294967296 (aw s.2):=hq2.rk (by decide);obtain⟨lw,hlw⟩:∃z,z=(bif decide (ao y 0 > 0)&&decide (ao t s.1 > 0) then t else s.1):=⟨_,rfl⟩;obtain⟨hgx,hhg⟩:∃z,z=(bif decide (ao x 0 > 0)&&decide (ao t s.2 < 0) then t else s.2):=⟨_,rfl⟩;have el:decide (ao (aE (aw t)) (aE (aw s.1)) > 0)=decide (ao t s.1 > 0):=by rw [aC,aC]
     have eh:decide (ao (aE (aw t)) (aE (aw s.2)) < 0)=decide (ao t s.2 < 0):=by rw [aC,aC]
     have l1:decide (ao y 0 > 0)=true->decide (ao (aE (aw t)) (aE (aw s.1)) > 0)=true->t=lw:=λh h'=>by rw [el] at h';rw [hlw,h,h'];rfl
     have l2:decide (ao (aE (aw t)) (aE (aw s.1)) > 0)=false->s.1=lw:=λh=>by rw [el] at h;rw [hlw,h,Bool.and_false];rfl
     have l3:decide (ao y 0 > 0) = !true->s.1=lw:=λh=>by rw [hlw,h];rfl
     have g1:decide (ao x 0 > 0)=true->decide (ao (aE (aw t)) (aE (aw s.2)) < 0)=true->t=hgx:=λh h'=>by rw [eh] at h';rw [hhg,h,h'];rfl
     have g2:decide (ao (aE (aw t)) (aE (aw s.2)) < 0)=false->s.2=hgx:=λh=>by rw [eh] at h;rw [hhg,h,Bool.and_false];rfl
     have g3:decide (ao x 0 > 0) = !true->s.2=hgx:=λh=>by rw [hhg,h];rfl
     have qw:QB 300000 lw:=by
      rw [hlw];cases (decide (ao y 0 > 0)&&decide (ao t s.1 > 0))
      ·exact hq1
      ·exact qt
     have qg:QB 300000 hgx:=by
      rw [hhg];cases (decide (ao x 0 > 0)&&decide (ao t s.2 < 0))
      ·exact hq2
      ·exact qt
     have hpf2:dx n p a b (n - (k+1)) (k+1) (lw,hgx)=dx n p a b n 0 (mkRat 0 1,mkRat 1 1):=by
      rw [<-hpf,hstep];unfold gD;rw [h9',hn12,<-ht,<-hlw,<-hhg];rfl
     with_unfolding_all refine⟨Unit,λ_=>True,λ_=>aa [(3,.ptr 0 0 0 0),(4,.ptr 1 1 0 0),(5,.ptr 2 2 0 0),(6,.ptr 3 3 0 0),(7,.ptr 4 4 0 0),(8,.ptr 5 5 0 0),(9,.ptr 6 6 0 0),(14,.val (.bool (decide (ao x 0 > 0)))),(15,.val (.bool (decide (ao y 0 > 0)))),(16,.ptr 7 7 0 0)] [⟨117,12,0,true,false,1,λ_=>[.val (.bool a.x.s),.val (.string a.x.b),.val (.string a.x.c),.val (.bool a.y.s),.val (.string a.y.b),.val (.string a.y.c),.val (.bool b.x.s),.val (.string b.x.b),.val (.string b.x.c),.val (.bool b.y.s),.val (.string b.y.b),.val (.string b.y.c)]⟩,a8 false ⟨#[]⟩ ⟨#[]⟩ 1,a8 false ⟨#[]⟩ ⟨#[]⟩ 2,⟨4,1,3,true,false,1,λ_=>[.val (.bool false)]⟩,⟨38,1,4,true,false,1,λ_=>[.val (.int .i64 0)]⟩,bB lw 5,bB s.2 6,bB t 7] 8 [[(3,.ptr 0 0 0 0),(4,.ptr 1 1 0 0),(5,.ptr 2 2 0 0),(6,.ptr 3 3 0 0),(7,.ptr 4 4 0 0),(8,.ptr 5 5 0 0),(9,.ptr 6 6 0 0)]],?_,λ_ _=>?_⟩
     ·with_unfolding_all exact⟨λh1=>⟨⟨rt,r1⟩,λh2=>⟨(),[some 0,some 1,some 2,some 3,some 4,some 5,some 6,some 7],trivial,Wo ⟨qZ ⟨rq,rq,rq,rq,rq,rq,rq,rq,rq,rq,rq,rq,qQ⟩,qX,qX,qY,qY,qZ ⟨⟨congrArg (λq:Rat=>PV.val (.bool (bz q).s)) (l1 h1 h2),rfl⟩,⟨congrArg (λq:Rat=>PV.val (.string (bz q).b)) (l1 h1 h2),rfl⟩,⟨congrArg (λq:Rat=>PV.val (.string (bz q).c)) (l1 h1 h2),rfl⟩,qQ⟩,qX,qX,qQ⟩ ⟨pP,pP,pP,pP,pP,pP,pP,rfl,rfl,pP,qQ⟩ ⟨⟨pP,pP,pP,pP,pP,pP,pP,qQ⟩,qQ⟩⟩,λh2=>⟨(),[some 0,some 1,some 2,some 3,some 4,some 5,some 6,some 7],trivial,Wo ⟨qZ ⟨rq,rq,rq,rq,rq,rq,rq,rq,rq,rq,rq,rq,qQ⟩,qX,qX,qY,qY,qZ ⟨⟨congrArg (λq:Rat=>PV.val (.bool (bz q).s)) (l2 h2),rfl⟩,⟨congrArg (λq:Rat=>PV.val (.string (bz q).b)) (l2 h2),rfl⟩,⟨congrArg (λq:Rat=>PV.val (.string (bz q).c)) (l2 h2),rfl⟩,qQ⟩,qX,qX,qQ⟩ ⟨pP,pP,pP,pP,pP,pP,pP,rfl,rfl,pP,qQ⟩ ⟨⟨pP,pP,pP,pP,pP,pP,pP,qQ⟩,qQ⟩⟩⟩,λh1=>⟨λh2=>(nomatch h2),λh2=>⟨(),[some 0,some 1,some 2,some 3,some 4,some 5,some 6,some 7],trivial,Wo ⟨qZ ⟨rq,rq,rq,rq,rq,rq,rq,rq,rq,rq,rq,rq,qQ⟩,qX,qX,qY,qY,qZ ⟨⟨congrArg (λq:Rat=>PV.val (.bool (bz q).s)) (l3 h1),rfl⟩,⟨congrArg (λq:Rat=>PV.val (.string (bz q).b)) (l3 h1),rfl⟩,⟨congrArg (λq:Rat=>PV.val (.string (bz q).c)) (l3 h1),rfl⟩,qQ⟩,qX,qX,qQ⟩ ⟨pP,pP,pP,pP,pP,pP,pP,rfl,rfl,pP,qQ⟩ ⟨⟨pP,pP,pP,pP,pP,pP,pP,qQ⟩,qQ⟩⟩⟩⟩
     ·with_unfolding_all exact⟨λh1=>⟨⟨rt,r2⟩,λh2=>⟨(lw,hgx),[some 0,some 1,some 2,some 3,some 4,some 5,some 6],⟨⟨qw,qg⟩,hpf2⟩,Wo ⟨qZ ⟨rq,rq,rq,rq,rq,rq,rq,rq,rq,rq,rq,rq,qQ⟩,qX,qX,qY,qY,qX,qZ ⟨⟨congrArg (λq:Rat=>PV.val (.bool (bz q).s)) (g1 h1 h2),rfl⟩,⟨congrArg (λq:Rat=>PV.val (.string (bz q).b)) (g1 h1 h2),rfl⟩,⟨congrArg (λq:Rat=>PV.val (.string (bz q).c)) (g1 h1 h2),rfl⟩,qQ⟩,qQ⟩ ⟨pP,pP,pP,pP,pP,pP,pP,qQ⟩ trivial⟩,λh2=>⟨(lw,hgx),[some 0,some 1,some 2,some 3,some 4,some 5,some 6],⟨⟨qw,qg⟩,hpf2⟩,Wo ⟨qZ ⟨rq,rq,rq,rq,rq,rq,rq,rq,rq,rq,rq,rq,qQ⟩,qX,qX,qY,qY,qX,qZ ⟨⟨congrArg (λq:Rat=>PV.val (.bool (bz q).s)) (g2 h2),rfl⟩,⟨congrArg (λq:Rat=>PV.val (.string (bz q).b)) (g2 h2),rfl⟩,⟨congrArg (λq:Rat=>PV.val (.string (bz q).c)) (g2 h2),rfl⟩,qQ⟩,qQ⟩ ⟨pP,pP,pP,pP,pP,pP,pP,qQ⟩ trivial⟩⟩,λh1=>⟨λh2=>(nomatch h2),λh2=>⟨(lw,hgx),[some 0,some 1,some 2,some 3,some 4,some 5,some 6],⟨⟨qw,qg⟩,hpf2⟩,Wo ⟨qZ ⟨rq,rq,rq,rq,rq,rq,rq,rq,rq,rq,rq,rq,qQ⟩,qX,qX,qY,qY,qX,qZ ⟨⟨congrArg (λq:Rat=>PV.val (.bool (bz q).s)) (g3 h1),rfl⟩,⟨congrArg (λq:Rat=>PV.val (.string (bz q).b)) (g3 h1),rfl⟩,⟨congrArg (λq:Rat=>PV.val (.string (bz q).c)) (g3 h1),rfl⟩,qQ⟩,qQ⟩ ⟨pP,pP,pP,pP,pP,pP,pP,qQ⟩ trivial⟩⟩⟩
   ·obtain⟨⟨hq1,hq2⟩,hpf⟩:(QB 300000 s.1/\QB 300000 s.2)/\dx n p a b (n - n) n s=dx n p a b n 0 (mkRat 0 1,mkRat 1 1):=hI;have r1:isRk 4294967296 (aw s.1):=hq1.rk (by decide);have r2:isRk 4294967296 (aw s.2):=hq2.rk (by decide);rw [Nat.sub_self] at hpf;have hXs:X=bif decide (ao s.1 s.2>=0) then none else some s:=by
     rw [hX];unfold db;rw [<-hB,hbd,<-hpf];rfl
    have ec:decide (ao (aE (aw s.1)) (aE (aw s.2))>=0)=decide (ao s.1 s.2>=0):=by rw [aC,aC]
    have xn:decide (ao (aE (aw s.1)) (aE (aw s.2))>=0)=true->X=none:=λh=>by
     rw [ec] at h;rw [hXs,h];rfl
    have xs:decide (ao (aE (aw s.1)) (aE (aw s.2))>=0)=false->X=some s:=λh=>by
     rw [ec] at h;rw [hXs,h];rfl
    have sl:decide (ao (aE (aw s.1)) (aE (aw s.2))>=0)=false->s.1=ky X:=λh=>by rw [xs h];rfl
    have sh:decide (ao (aE (aw s.1)) (aE (aw s.2))>=0)=false->s.2=kU X:=λh=>by rw [xs h];rfl
    have si:decide (ao (aE (aw s.1)) (aE (aw s.2))>=0)=false->PV.val (.bool true)=PV.val (.bool X.isSome):=λh=>by rw [xs h];rfl
    with_unfolding_all exact⟨⟨r1,r2⟩,λh1=>⟨[some 1,some 2,some 3,some 4],aa [(4,.ptr 0 0 0 0),(5,.ptr 1 1 0 0),(6,.ptr 2 2 0 0),(7,.ptr 3 3 0 0)] [bB (ky X) 0,bB (kU X) 1,⟨4,1,2,true,false,1,λ_=>[.val (.bool X.isSome)]⟩,⟨38,1,3,true,false,1,λ_=>[.val (.int .i64 (bif Bd then 1 else 0))]⟩] 4 [],Wo ⟨qZ ⟨⟨(zb (xn h1)).1,rfl⟩,⟨(zb (xn h1)).2.1,rfl⟩,⟨(zb (xn h1)).2.2.1,rfl⟩,qQ⟩,qZ ⟨⟨(zc (xn h1)).1,rfl⟩,⟨(zc (xn h1)).2.1,rfl⟩,⟨(zc (xn h1)).2.2,rfl⟩,qQ⟩,qZ ⟨⟨(zb (xn h1)).2.2.2,rfl⟩,qQ⟩,qZ ⟨⟨e0 hbd,rfl⟩,qQ⟩,qQ⟩ ⟨pP,pP,pP,pP,qQ⟩ trivial,rfl,rfl⟩,λh1=>⟨⟨⟨[some 1,some 2,some 3,some 4],aa [(4,.ptr 0 0 0 0),(5,.ptr 1 1 0 0),(6,.ptr 2 2 0 0),(7,.ptr 3 3 0 0)] [bB (ky X) 0,bB (kU X) 1,⟨4,1,2,true,false,1,λ_=>[.val (.bool X.isSome)]⟩,⟨38,1,3,true,false,1,λ_=>[.val (.int .i64 (bif Bd then 1 else 0))]⟩] 4 [],Wo ⟨qZ ⟨⟨congrArg (λq:Rat=>PV.val (.bool (bz q).s)) (sl h1),rfl⟩,⟨congrArg (λq:Rat=>PV.val (.string (bz q).b)) (sl h1),rfl⟩,⟨congrArg (λq:Rat=>PV.val (.string (bz q).c)) (sl h1),rfl⟩,qQ⟩,qZ ⟨⟨congrArg (λq:Rat=>PV.val (.bool (bz q).s)) (sh h1),rfl⟩,⟨congrArg (λq:Rat=>PV.val (.string (bz q).b)) (sh h1),rfl⟩,⟨congrArg (λq:Rat=>PV.val (.string (bz q).c)) (sh h1),rfl⟩,qQ⟩,qZ ⟨⟨si h1,rfl⟩,qQ⟩,qZ ⟨⟨e0 hbd,rfl⟩,qQ⟩,qQ⟩ ⟨pP,pP,pP,pP,qQ⟩ trivial,rfl,rfl⟩,⟨[some 1,some 2,some 3,some 4],aa [(4,.ptr 0 0 0 0),(5,.ptr 1 1 0 0),(6,.ptr 2 2 0 0),(7,.ptr 3 3 0 0)] [bB (ky X) 0,bB (kU X) 1,⟨4,1,2,true,false,1,λ_=>[.val (.bool X.isSome)]⟩,⟨38,1,3,true,false,1,λ_=>[.val (.int .i64 (bif Bd then 1 else 0))]⟩] 4 [],Wo ⟨qZ ⟨⟨congrArg (λq:Rat=>PV.val (.bool (bz q).s)) (sl h1),rfl⟩,⟨congrArg (λq:Rat=>PV.val (.string (bz q).b)) (sl h1),rfl⟩,⟨congrArg (λq:Rat=>PV.val (.string (bz q).c)) (sl h1),rfl⟩,qQ⟩,qZ ⟨⟨congrArg (λq:Rat=>PV.val (.bool (bz q).s)) (sh h1),rfl⟩,⟨congrArg (λq:Rat=>PV.val (.string (bz q).b)) (sh h1),rfl⟩,⟨congrArg (λq:Rat=>PV.val (.string (bz q).c)) (sh h1),rfl⟩,qQ⟩,qZ ⟨⟨si h1,rfl⟩,qQ⟩,qZ ⟨⟨e0 hbd,rfl⟩,qQ⟩,qQ⟩ ⟨pP,pP,pP,pP,qQ⟩ trivial,rfl,rfl⟩⟩,⟨[some 1,some 2,some 3,some 4],aa [(4,.ptr 0 0 0 0),(5,.ptr 1 1 0 0),(6,.ptr 2 2 0 0),(7,.ptr 3 3 0 0)] [bB (ky X) 0,bB (kU X) 1,⟨4,1,2,true,false,1,λ_=>[.val (.bool X.isSome)]⟩,⟨38,1,3,true,false,1,λ_=>[.val (.int .i64 (bif Bd then 1 else 0))]⟩] 4 [],Wo ⟨qZ ⟨⟨congrArg (λq:Rat=>PV.val (.bool (bz q).s)) (sl h1),rfl⟩,⟨congrArg (λq:Rat=>PV.val (.string (bz q).b)) (sl h1),rfl⟩,⟨congrArg (λq:Rat=>PV.val (.string (bz q).c)) (sl h1),rfl⟩,qQ⟩,qZ ⟨⟨congrArg (λq:Rat=>PV.val (.bool (bz q).s)) (sh h1),rfl⟩,⟨congrArg (λq:Rat=>PV.val (.string (bz q).b)) (sh h1),rfl⟩,⟨congrArg (λq:Rat=>PV.val (.string (bz q).c)) (sh h1),rfl⟩,qQ⟩,qZ ⟨⟨si h1,rfl⟩,qQ⟩,qZ ⟨⟨e0 hbd,rfl⟩,qQ⟩,qQ⟩ ⟨pP,pP,pP,pP,qQ⟩ trivial,rfl,rfl⟩⟩⟩
 ·cases e
end Go.Proofs
namespace Go.Num
def bq (lo hi:PtS) (k:Nat) (c:Nat->List PV) (l:Nat) (o:Nat->List PV):List PV:=[.val (.bool lo.x.s),.val (.string lo.x.b),.val (.string lo.x.c),.val (.bool lo.y.s),.val (.string lo.y.b),.val (.string lo.y.c),.val (.bool hi.x.s),.val (.string hi.x.b),.val (.string hi.x.c),.val (.bool hi.y.s),.val (.string hi.y.b),.val (.string hi.y.c),.rs 1 k (λi=>[.rs 6 (pn c i) (pg c i)]),.rs 3 l (λi=>ag (ow o i))]
def bO:List PV->PtS
 |a1::a2::a3::a4::a5::a6::_=>cz [a1,a2,a3,a4,a5,a6]
 |_=>cz []
def bP:List PV->PtS
 |_::_::_::_::_::_::a1::a2::a3::a4::a5::a6::_=>cz [a1,a2,a3,a4,a5,a6]
 |_=>cz []
def gK:List PV->Nat
 |[_,_,_,_,_,_,_,_,_,_,_,_,.rs 1 k _,_]=>k
 |_=>0
def gC:List PV->Nat->List PV
 |[_,_,_,_,_,_,_,_,_,_,_,_,.rs 1 _ c,_]=>c
 |_=>λ_=>[]
def gL:List PV->Nat
 |[_,_,_,_,_,_,_,_,_,_,_,_,_,.rs 3 l _]=>l
 |_=>0
def gO:List PV->Nat->List PV
 |[_,_,_,_,_,_,_,_,_,_,_,_,_,.rs 3 _ o]=>o
 |_=>λ_=>[]
def At (h:Nat->List PV):Prop:=h=λ_=>bq (bO (h 0)) (bP (h 0)) (gK (h 0)) (gC (h 0)) (gL (h 0)) (gO (h 0))
def sA:List PV->PtS
 |[a1,a2,a3,a4,a5,a6,_,_,_,_,_,_]=>cz [a1,a2,a3,a4,a5,a6]
 |_=>cz []
def sB:List PV->PtS
 |[_,_,_,_,_,_,a1,a2,a3,a4,a5,a6]=>cz [a1,a2,a3,a4,a5,a6]
 |_=>cz []
def FH (h:Nat->List PV):Prop:=h=λ_=>kx (sA (h 0)) (sB (h 0))
def dM (i:Nat) (lo hi a b:PtS):List (Int×Rat) :=
 bif decide (ao (aL i lo hi a) 0<=0)&&decide (ao (aL i lo hi b) 0<=0) then [] else [(-((i:Int)+1),bif decide (ao (aL i lo hi a) 0<=0) then aL i lo hi a / (aL i lo hi a - aL i lo hi b) else 0)]
def rM (i:Nat) (n:Nat) (p:Nat->PtS) (a b:PtS):List (Int×Rat):=match db n p a b with
 |none=>[]
 |some s=>[((i:Int),s.1)]
def aG (lo hi:PtS) (n:Nat->Nat) (p:Nat->Nat->PtS) (a b:PtS):Nat->List (Int×Rat)
 |0=>[]
 |j+1=>aG lo hi n p a b j++(if j < 4 then dM j lo hi a b else rM (j - 4) (n (j - 4)) (p (j - 4)) a b)
def g7 (lo hi:PtS) (k:Nat) (n:Nat->Nat) (p:Nat->Nat->PtS) (a b:PtS):List (Int×Rat):=aG lo hi n p a b (k+4)
theorem fE (i:Nat) {lo hi p:PtS} (h1:PtS.le 10000 lo) (h2:PtS.le 10000 hi) (h3:PtS.le 10000 p):QB 20003 (aL i lo hi p):=by
 unfold aL;split
 ·exact(h1.X.sub h3.X).le (by decide)
 ·exact(h3.X.sub h2.X).le (by decide)
 ·exact(h1.Y.sub h3.Y).le (by decide)
 ·exact(h3.Y.sub h2.Y).le (by decide)
theorem mB {lo hi:PtS} {n:Nat->Nat} {p:Nat->Nat->PtS} {a b:PtS}:∀(d j:Nat),aG lo hi n p a b j <+: aG lo hi n p a b (j+d)
 |0,j=>List.prefix_refl _
 |d+1,j=>(mB d j).trans (List.prefix_append _ _)
theorem fX {lo hi:PtS} {n:Nat->Nat} {p:Nat->Nat->PtS} {a b:PtS} {j k:Nat} (h:j < k) {x:Int×Rat} (hx:(if j < 4 then dM j lo hi a b else rM (j - 4) (n (j - 4)) (p (j - 4)) a b)=[x]) :
  (aG lo hi n p a b k)[(aG lo hi n p a b j).length]? = some x/\(aG lo hi n p a b j).length < (aG lo hi n p a b k).length/\(aG lo hi n p a b (j+1)).length=(aG lo hi n p a b j).length+1:=by
 obtain⟨t,ht⟩:=mB (lo:=lo) (hi:=hi) (n:=n) (p:=p) (a:=a) (b:=b) (k - (j+1)) (j+1);rw [show j+1+(k - (j+1))=k by omega] at ht;have e:aG lo hi n p a b (j+1)=aG lo hi n p a b j++[x]:=by rw [aG,hx]
 rw [<-ht,e];simp
def Bi (L:List (Int×Rat)) (i:Nat):Int:=match L[i]? with
 |some q=>q.1
 |none=>0
def Ds (L:List (Int×Rat)) (i:Nat):Rat:=match L[i]? with
 |some q=>q.2
 |none=>0
def g8 (L:List (Int×Rat)) (i:Nat):List PV:=[.val (.int .i64 (Bi L i)),.val (aw (Ds L i))]
end Go.Num
namespace Go.Proofs
def CR:List PV->Option Ans
 |[.agg [.val (.bool s1),.val (.string b1),.val (.string c1),.val (.bool s2),.val (.string b2),.val (.string c2),.val (.bool s3),.val (.string b3),.val (.string c3),.val (.bool s4),.val (.string b4),.val (.string c4),.rs 1 k c,.rs 3 l o],.val v]=>some ⟨some (((∀i,i < k->c i=[.rs 6 (pn c i) (pg c i)])/\∀i,i < l->o i=ag (ow o i))/\∃a b,v=ar a b),.fn (.func 171) [] [.rp 14 1 (λ_=>bq (PtS.mk ⟨s1,b1,c1⟩ ⟨s2,b2,c2⟩) (PtS.mk ⟨s3,b3,c3⟩ ⟨s4,b4,c4⟩) k c l o) 0 0,.rp 12 1 (λ_=>kx (aM v).1 (aM v).2) 0 0],[]⟩
 |_=>none
theorem FI:am {} Tryz.f126 2=true:=by kernel_rfl
theorem f126:FnOk Tryz.prog 126 CR:=by
 refine FnOk.ofW aj (an (l:=[]) (own:=[]) (inl:=[]) (by simp) (by simp)) Tryz.func126 {} 2 FI λargs r e=>?_;unfold CR at e;split at e
 ·rename_i s1 b1 c1 s2 b2 c2 s3 b3 c3 s4 b4 c4 k c l o v
  cases e;refine⟨by simp,λhm=>?_⟩;obtain⟨⟨hc,ho⟩,a,b,rfl⟩:=hm _ rfl;have hc1:∀i,i < k->[.rs 6 (pn c i) (pg c i)]=c i:=λi hi=>(hc i hi).symm;have ho1:∀i,i < l->ag (ow o i)=o i:=λi hi=>(ho i hi).symm;refine⟨[],aa [(0,.agg [.val (.bool (PtS.mk ⟨s1,b1,c1⟩ ⟨s2,b2,c2⟩).x.s),.val (.string (PtS.mk ⟨s1,b1,c1⟩ ⟨s2,b2,c2⟩).x.b),.val (.string (PtS.mk ⟨s1,b1,c1⟩ ⟨s2,b2,c2⟩).x.c),.val (.bool (PtS.mk ⟨s1,b1,c1⟩ ⟨s2,b2,c2⟩).y.s),.val (.string (PtS.mk ⟨s1,b1,c1⟩ ⟨s2,b2,c2⟩).y.b),.val (.string (PtS.mk ⟨s1,b1,c1⟩ ⟨s2,b2,c2⟩).y.c),.val (.bool (PtS.mk ⟨s3,b3,c3⟩ ⟨s4,b4,c4⟩).x.s),.val (.string (PtS.mk ⟨s3,b3,c3⟩ ⟨s4,b4,c4⟩).x.b),.val (.string (PtS.mk ⟨s3,b3,c3⟩ ⟨s4,b4,c4⟩).x.c),.val (.bool (PtS.mk ⟨s3,b3,c3⟩ ⟨s4,b4,c4⟩).y.s),.val (.string (PtS.mk ⟨s3,b3,c3⟩ ⟨s4,b4,c4⟩).y.b),.val (.string (PtS.mk ⟨s3,b3,c3⟩ ⟨s4,b4,c4⟩).y.c),.rs 1 k (λi=>[.rs 6 (pn c i) (pg c i)]),.rs 3 l (λi=>ag (ow o i))]),(1,.val (ar a b))] [] 0 [],Wo trivial ⟨⟨rfl,rfl,rfl,rfl,rfl,rfl,rfl,rfl,rfl,rfl,rfl,rfl,⟨rfl,rfl,hc1⟩,⟨rfl,rfl,ho1⟩,qQ⟩,rfl,qQ⟩ trivial,?_⟩;with_unfolding_all exact⟨[some 0,some 1],aa [(4,.fn (.func 171) [] [.ptr 0 0 0 0,.ptr 1 1 0 0])] [⟨31,14,0,true,false,1,λ_=>bq (PtS.mk ⟨s1,b1,c1⟩ ⟨s2,b2,c2⟩) (PtS.mk ⟨s3,b3,c3⟩ ⟨s4,b4,c4⟩) k c l o⟩,⟨117,12,1,true,false,1,λ_=>kx a b⟩] 2 [],Wo ⟨qZ ⟨rq,rq,rq,rq,rq,rq,rq,rq,rq,rq,rq,rq,⟨qW,rfl⟩,⟨qW,rfl⟩,qQ⟩,qZ ⟨rq,rq,rq,rq,rq,rq,rq,rq,rq,rq,rq,rq,qQ⟩,qQ⟩ ⟨⟨rfl,trivial,pP,pP,qQ⟩,qQ⟩ trivial,rfl,rfl⟩
 ·cases e
def CS:List PV->Option gJ
 |[.rp 14 1 h 0 0,.rp 12 1 h' 0 0]=>some ⟨some ((At h/\FH h')/\((bO (h 0)).le 10000/\(bP (h 0)).le 10000)/\((sA (h' 0)).le 10000/\(sB (h' 0)).le 10000)/\bM 10000 (gK (h 0)) (gC (h 0))),(g7 (bO (h 0)) (bP (h 0)) (gK (h 0)) (pn (gC (h 0))) (λi=>ae (pg (gC (h 0)) i)) (sA (h' 0)) (sB (h' 0))).length,g8 (g7 (bO (h 0)) (bP (h 0)) (gK (h 0)) (pn (gC (h 0))) (λi=>ae (pg (gC (h 0)) i)) (sA (h' 0)) (sB (h' 0)))⟩
 |_=>none
def D171:Opt:={ perm:=jl [(3,(.rd 0 (.rd 1 (.rd 2 (.rd 3 (.rd 4 (.rd 5 (.rd 7 (.rd 8 (.rd 9 (.rd 10 (.rd 11 (.rd 12 (.alt 6 (.alt 13 (.alt 14 (.mk 15 .nil) (.mk 15 (.mk 14 .nil))) (.alt 14 (.alt 13 (.mk 15 .nil) (.mk 15 (.mk 13 .nil))) (.mk 15 (.alt 13 (.mk 14 .nil) (.mk 14 (.mk 13 .nil)))))) (.alt 14 (.alt 6 (.alt 13 (.mk 15 .nil) (.mk 15 (.mk 13 .nil))) (.mk 15 (.mk 6 (.mk 13 .nil)))) (.mk 15 (.alt 6 (.alt 13 (.mk 14 .nil) (.mk 14 (.mk 13 .nil))) (.mk 14 (.mk 6 (.mk 13 .nil)))))))))))))))))))),(7,(.rd 0 (.rd 1 (.rd 2 (.mk 3 (.mk 4 (.rd 5 (.rd 6 (.rd 7 .nil)))))))))] }
theorem FJ:am D171.toOrd Tryz.f171 3=true:=by kernel_rfl
theorem f171:SeqFn Tryz.prog 171 CS:=by
 refine SeqFn.of aj (an (l:=[(172,CO),(208,CK),(209,CL),(210,CM),(211,CN),(139,xQ),(115,nh),(173,zO),(174,CQ)]) (own:=[]) (inl:=[]) (by simp [f172,f208,f209,f210,f211,f139,f115,f173,f174]) (by simp)) Tryz.func171 D171 3 FJ rfl λargs r e=>?_;unfold CS at e;split at e
 ·rename_i h h'
  cases e;refine⟨by simp,λhm L0=>?_⟩;obtain⟨⟨h1,h2⟩,⟨hlo,hhi⟩,⟨ha,hb⟩,hc,hk⟩:=hm _ rfl;unfold At at h1;unfold FH at h2;generalize bO (h 0)=lo at *
  generalize bP (h 0)=hi at *
  generalize gK (h 0)=k at *
  generalize gC (h 0)=c at *
  generalize gL (h 0)=l at *
  generalize gO (h 0)=o at *
  generalize sA (h' 0)=a at *
  generalize sB (h' 0)=b at *
  subst h1;subst h2;clear hm;unfold g7;have hlo':=hlo.mono (show 10000<=4294967296 by decide);have hhi':=hhi.mono (show 10000<=4294967296 by decide);have ha':=ha.mono (show 10000<=4294967296 by decide);have hb':=hb.mono (show 10000<=4294967296 by decide);with_unfolding_all refine⟨Nat,λj=>j<=4,λj=>aa [(0,.val (.func (.yield L0) ⟨[]⟩ ⟨[]⟩)),(1,.rp 14 1 (λ_=>bq lo hi k c l o) 0 0),(2,.rp 12 1 (λ_=>kx a b) 0 0),(15,.val (.agg ⟨[.int .i64 (-1),.func (.func 208) ⟨[]⟩ ⟨[]⟩,.int .i64 (-2),.func (.func 209) ⟨[]⟩ ⟨[]⟩,.int .i64 (-3),.func (.func 210) ⟨[]⟩ ⟨[]⟩,.int .i64 (-4),.func (.func 211) ⟨[]⟩ ⟨[]⟩]⟩)),(16,.val (goInt ((j:Nat):Int)))] [] 0 [[(0,.val (.int .i64 ((aG lo hi (pn c) (λi=>ae (pg c i)) a b (j)).length:Nat))),(1,.val (.bool false))]],λj=>4 - j,⟨0,[],Nat.zero_le _,Wo trivial ⟨rfl,⟨rfl,rfl,rfl,rfl,λ_ _=>rfl⟩,⟨rfl,rfl,rfl,rfl,λ_ _=>rfl⟩,rfl,rfl,qQ⟩ ⟨⟨rfl,rfl,qQ⟩,qQ⟩⟩,λj hj=>?_⟩
  match j,hj with
  |0,_ =>
   obtain⟨x,hx⟩:∃x,x=(aL 0 (aM (ar lo hi)).1 (aM (ar lo hi)).2 (aO a.v)):=⟨_,rfl⟩;obtain⟨y,hy⟩:∃y,y=(aL 0 (aM (ar lo hi)).1 (aM (ar lo hi)).2 (aO b.v)):=⟨_,rfl⟩;have hx1:aL 0 lo hi a=x:=by rw [hx];rfl
   have hy1:aL 0 lo hi b=y:=by rw [hy];rfl
   have qx:QB 20003 x:=by rw [<-hx1];exact fE 0 hlo hhi ha
   have qy:QB 20003 y:=by rw [<-hy1];exact fE 0 hlo hhi hb
   have hone:dM 0 lo hi a b=bif decide (ao x 0<=0)&&decide (ao y 0<=0) then [] else [(-((0:Nat)+1:Int),bif decide (ao x 0<=0) then x / (x - y) else 0)]:=by unfold dM;rw [hx1,hy1]
   have rx:isRk 4294967296 (aw (aL 0 (aM (ar lo hi)).1 (aM (ar lo hi)).2 (aO a.v))):=by rw [<-hx];exact qx.rk (by decide)
   have ry:isRk 4294967296 (aw (aL 0 (aM (ar lo hi)).1 (aM (ar lo hi)).2 (aO b.v))):=by rw [<-hy];exact qy.rk (by decide)
   have rd:isRk 4294967296 (aw (aE (aw (aL 0 (aM (ar lo hi)).1 (aM (ar lo hi)).2 (aO a.v))) - aE (aw (aL 0 (aM (ar lo hi)).1 (aM (ar lo hi)).2 (aO b.v))))):=by rw [aC,aC,<-hx,<-hy];exact(qx.sub qy).rk (by decide)
   have ix:decide (ao (aE (aw (aL 0 (aM (ar lo hi)).1 (aM (ar lo hi)).2 (aO a.v)))) 0<=0)=decide (ao x 0<=0):=by rw [aC,<-hx]
   have iy:decide (ao (aE (aw (aL 0 (aM (ar lo hi)).1 (aM (ar lo hi)).2 (aO b.v)))) 0<=0)=decide (ao y 0<=0):=by rw [aC,<-hy]
   have it:aE (aw (aL 0 (aM (ar lo hi)).1 (aM (ar lo hi)).2 (aO a.v))) / aE (aw (aE (aw (aL 0 (aM (ar lo hi)).1 (aM (ar lo hi)).2 (aO a.v))) - aE (aw (aL 0 (aM (ar lo hi)).1 (aM (ar lo hi)).2 (aO b.v)))))=x / (x - y):=by rw [aC,aC,aC,<-hx,<-hy]
   have prA:dL 4294967296 (ar lo hi)/\isPk 4294967296 a.v:=⟨⟨lo,hi,rfl,hlo',hhi'⟩,a,rfl,ha'⟩;have prB:dL 4294967296 (ar lo hi)/\isPk 4294967296 b.v:=⟨⟨lo,hi,rfl,hlo',hhi'⟩,b,rfl,hb'⟩;have sk:decide (ao (aE (aw (aL 0 (aM (ar lo hi)).1 (aM (ar lo hi)).2 (aO a.v)))) 0<=0)=true->decide (ao (aE (aw (aL 0 (aM (ar lo hi)).1 (aM (ar lo hi)).2 (aO b.v)))) 0<=0)=true->(aG lo hi (pn c) (λi=>ae (pg c i)) a b (0)).length=(aG lo hi (pn c) (λi=>ae (pg c i)) a b (1)).length:=λh h'=>by
    rw [ix] at h;rw [iy] at h';have e:aG lo hi (pn c) (λi=>ae (pg c i)) a b (0+1)=aG lo hi (pn c) (λi=>ae (pg c i)) a b 0++dM 0 lo hi a b:=rfl;rw [e,hone,h,h'];simp
   have yl:∀fr:Rat,dM 0 lo hi a b=[(-((0:Nat)+1:Int),fr)]->(aG lo hi (pn c) (λi=>ae (pg c i)) a b (0)).length < (aG lo hi (pn c) (λi=>ae (pg c i)) a b (k+4)).length/\[PV.val (.int .i64 (-1)),PV.val (aw fr)]=g8 (aG lo hi (pn c) (λi=>ae (pg c i)) a b (k+4)) (aG lo hi (pn c) (λi=>ae (pg c i)) a b (0)).length/\(aG lo hi (pn c) (λi=>ae (pg c i)) a b (0)).length+1=(aG lo hi (pn c) (λi=>ae (pg c i)) a b (1)).length:=λfr h=>by
    have h1:=fX (n:=pn c) (p:=λi=>ae (pg c i)) (show 0 < k+4 by omega) (x:=(-((0:Nat)+1:Int),fr)) (by rw [if_pos (by decide)];exact h);refine⟨h1.2.1,?_,h1.2.2.symm⟩;unfold g8 Bi Ds;rw [h1.1];rfl
   have fa:(decide (ao x 0<=0)&&decide (ao y 0<=0))=false->decide (ao (aE (aw (aL 0 (aM (ar lo hi)).1 (aM (ar lo hi)).2 (aO a.v)))) 0<=0)=true->dM 0 lo hi a b=[(-((0:Nat)+1:Int),aE (aw (aL 0 (aM (ar lo hi)).1 (aM (ar lo hi)).2 (aO a.v))) / aE (aw (aE (aw (aL 0 (aM (ar lo hi)).1 (aM (ar lo hi)).2 (aO a.v))) - aE (aw (aL 0 (aM (ar lo hi)).1 (aM (ar lo hi)).2 (aO b.v))))))]:=λh h'=>by
    rw [ix] at h';rw [hone,h,h',it];rfl
   have fb:(decide (ao x 0<=0)&&decide (ao y 0<=0))=false->decide (ao (aE (aw (aL 0 (aM (ar lo hi)).1 (aM (ar lo hi)).2 (aO a.v)))) 0<=0)=false->dM 0 lo hi a b=[(-((0:Nat)+1:Int),0)]:=λh h'=>by
    rw [ix] at h';rw [hone,h,h'];rfl
   have k1:decide (ao (aE (aw (aL 0 (aM (ar lo hi)).1 (aM (ar lo hi)).2 (aO b.v)))) 0<=0)=false->(decide (ao x 0<=0)&&decide (ao y 0<=0))=false:=λh=>by
    rw [iy] at h;rw [h,Bool.and_false]
   have k2:decide (ao (aE (aw (aL 0 (aM (ar lo hi)).1 (aM (ar lo hi)).2 (aO a.v)))) 0<=0) = !true->(decide (ao x 0<=0)&&decide (ao y 0<=0))=false:=λh=>by
    rw [ix] at h;rw [h];rfl
   clear hx hy;with_unfolding_all refine⟨λ_=>⟨⟨by decide,by decide⟩,⟨⟨prA,⟨⟨prB,⟨?_,?_⟩⟩,⟨⟨⟨prB,?_⟩,⟨prB,?_⟩⟩,⟨⟨prB,?_⟩,⟨prB,?_⟩⟩⟩⟩⟩,⟨⟨⟨prA,⟨⟨prB,?_⟩,⟨prB,?_⟩⟩⟩,⟨prA,⟨prB,?_⟩⟩⟩,⟨⟨prA,⟨⟨prB,?_⟩,⟨prB,?_⟩⟩⟩,⟨prA,⟨prB,?_⟩⟩⟩⟩⟩⟩,λhh=>absurd hh (by decide)⟩
   all_goals with_unfolding_all refine⟨rx,λh1=>⟨ry,λh2=>⟨1,[],by show 1<=4;decide,by show 4 - 1 < 4 - 0;decide,Wo trivial ⟨rfl,⟨rfl,rfl,rfl,rfl,λ_ _=>rfl⟩,⟨rfl,rfl,rfl,rfl,λ_ _=>rfl⟩,rfl,rfl,qQ⟩ ⟨⟨congrArg (λz:Nat=>PV.val (.int .i64 (z:Int))) (sk h1 h2),rfl,qQ⟩,qQ⟩⟩,λh2=>⟨rx,λh3=>⟨⟨rx,ry⟩,⟨rx,rd⟩,⟨rfl,(aG lo hi (pn c) (λi=>ae (pg c i)) a b (0)).length,rfl,(yl _ (fa (k1 h2) h3)).1,(yl _ (fa (k1 h2) h3)).2.1,⟨λe=>(nomatch e),λ_=>⟨1,[],by show 1<=4;decide,by show 4 - 1 < 4 - 0;decide,Wo trivial ⟨rfl,⟨rfl,rfl,rfl,rfl,λ_ _=>rfl⟩,⟨rfl,rfl,rfl,rfl,λ_ _=>rfl⟩,rfl,rfl,qQ⟩ ⟨⟨congrArg (λz:Nat=>PV.val (.int .i64 (z:Int))) (yl _ (fa (k1 h2) h3)).2.2,rfl,qQ⟩,qQ⟩⟩⟩,⟨λ_=>trivial,λe=>(nomatch e)⟩⟩⟩,λh3=>⟨rfl,(aG lo hi (pn c) (λi=>ae (pg c i)) a b (0)).length,rfl,(yl _ (fb (k1 h2) h3)).1,(yl _ (fb (k1 h2) h3)).2.1,⟨λe=>(nomatch e),λ_=>⟨1,[],by show 1<=4;decide,by show 4 - 1 < 4 - 0;decide,Wo trivial ⟨rfl,⟨rfl,rfl,rfl,rfl,λ_ _=>rfl⟩,⟨rfl,rfl,rfl,rfl,λ_ _=>rfl⟩,rfl,rfl,qQ⟩ ⟨⟨congrArg (λz:Nat=>PV.val (.int .i64 (z:Int))) (yl _ (fb (k1 h2) h3)).2.2,rfl,qQ⟩,qQ⟩⟩⟩,⟨λ_=>trivial,λe=>(nomatch e)⟩⟩⟩⟩,λh1=>⟨λh2=>(nomatch h2),λh2=>⟨rx,λh3=>⟨⟨rx,ry⟩,⟨rx,rd⟩,⟨rfl,(aG lo hi (pn c) (λi=>ae (pg c i)) a b (0)).length,rfl,(yl _ (fa (k2 h1) h3)).1,(yl _ (fa (k2 h1) h3)).2.1,⟨λe=>(nomatch e),λ_=>⟨1,[],by show 1<=4;decide,by show 4 - 1 < 4 - 0;decide,Wo trivial ⟨rfl,⟨rfl,rfl,rfl,rfl,λ_ _=>rfl⟩,⟨rfl,rfl,rfl,rfl,λ_ _=>rfl⟩,rfl,rfl,qQ⟩ ⟨⟨congrArg (λz:Nat=>PV.val (.int .i64 (z:Int))) (yl _ (fa (k2 h1) h3)).2.2,rfl,qQ⟩,qQ⟩⟩⟩,⟨λ_=>trivial,λe=>(nomatch e)⟩⟩⟩,λh3=>⟨rfl,(aG lo hi (pn c) (λi=>ae (pg c i)) a b (0)).length,rfl,(yl _ (fb (k2 h1) h3)).1,(yl _ (fb (k2 h1) h3)).2.1,⟨λe=>(nomatch e),λ_=>⟨1,[],by show 1<=4;decide,by show 4 - 1 < 4 - 0;decide,Wo trivial ⟨rfl,⟨rfl,rfl,rfl,rfl,λ_ _=>rfl⟩,⟨rfl,rfl,rfl,rfl,λ_ _=>rfl⟩,rfl,rfl,qQ⟩ ⟨⟨congrArg (λz:Nat=>PV.val (.int .i64 (z:Int))) (yl _ (fb (k2 h1) h3)).2.2,rfl,qQ⟩,qQ⟩⟩⟩,⟨λ_=>trivial,λe=>(nomatch e)⟩⟩⟩⟩⟩
  |1,_ =>
   obtain⟨x,hx⟩:∃x,x=(aL 1 (aM (ar lo hi)).1 (aM (ar lo hi)).2 (aO a.v)):=⟨_,rfl⟩;obtain⟨y,hy⟩:∃y,y=(aL 1 (aM (ar lo hi)).1 (aM (ar lo hi)).2 (aO b.v)):=⟨_,rfl⟩;have hx1:aL 1 lo hi a=x:=by rw [hx];rfl
   have hy1:aL 1 lo hi b=y:=by rw [hy];rfl
   have qx:QB 20003 x:=by rw [<-hx1];exact fE 1 hlo hhi ha
   have qy:QB 20003 y:=by rw [<-hy1];exact fE 1 hlo hhi hb
   have hone:dM 1 lo hi a b=bif decide (ao x 0<=0)&&decide (ao y 0<=0) then [] else [(-((1:Nat)+1:Int),bif decide (ao x 0<=0) then x / (x - y) else 0)]:=by unfold dM;rw [hx1,hy1]
   have rx:isRk 4294967296 (aw (aL 1 (aM (ar lo hi)).1 (aM (ar lo hi)).2 (aO a.v))):=by rw [<-hx];exact qx.rk (by decide)
   have ry:isRk 4294967296 (aw (aL 1 (aM (ar lo hi)).1 (aM (ar lo hi)).2 (aO b.v))):=by rw [<-hy];exact qy.rk (by decide)
   have rd:isRk 4294967296 (aw (aE (aw (aL 1 (aM (ar lo hi)).1 (aM (ar lo hi)).2 (aO a.v))) - aE (aw (aL 1 (aM (ar lo hi)).1 (aM (ar lo hi)).2 (aO b.v))))):=by rw [aC,aC,<-hx,<-hy];exact(qx.sub qy).rk (by decide)
   have ix:decide (ao (aE (aw (aL 1 (aM (ar lo hi)).1 (aM (ar lo hi)).2 (aO a.v)))) 0<=0)=decide (ao x 0<=0):=by rw [aC,<-hx]
   have iy:decide (ao (aE (aw (aL 1 (aM (ar lo hi)).1 (aM (ar lo hi)).2 (aO b.v)))) 0<=0)=decide (ao y 0<=0):=by rw [aC,<-hy]
   have it:aE (aw (aL 1 (aM (ar lo hi)).1 (aM (ar lo hi)).2 (aO a.v))) / aE (aw (aE (aw (aL 1 (aM (ar lo hi)).1 (aM (ar lo hi)).2 (aO a.v))) - aE (aw (aL 1 (aM (ar lo hi)).1 (aM (ar lo hi)).2 (aO b.v)))))=x / (x - y):=by rw [aC,aC,aC,<-hx,<-hy]
   have prA:dL 4294967296 (ar lo hi)/\isPk 4294967296 a.v:=⟨⟨lo,hi,rfl,hlo',hhi'⟩,a,rfl,ha'⟩;have prB:dL 4294967296 (ar lo hi)/\isPk 4294967296 b.v:=⟨⟨lo,hi,rfl,hlo',hhi'⟩,b,rfl,hb'⟩;have sk:decide (ao (aE (aw (aL 1 (aM (ar lo hi)).1 (aM (ar lo hi)).2 (aO a.v)))) 0<=0)=true->decide (ao (aE (aw (aL 1 (aM (ar lo hi)).1 (aM (ar lo hi)).2 (aO b.v)))) 0<=0)=true->(aG lo hi (pn c) (λi=>ae (pg c i)) a b (1)).length=(aG lo hi (pn c) (λi=>ae (pg c i)) a b (2)).length:=λh h'=>by
    rw [ix] at h;rw [iy] at h';have e:aG lo hi (pn c) (λi=>ae (pg c i)) a b (1+1)=aG lo hi (pn c) (λi=>ae (pg c i)) a b 1++dM 1 lo hi a b:=rfl;rw [e,hone,h,h'];simp
   have yl:∀fr:Rat,dM 1 lo hi a b=[(-((1:Nat)+1:Int),fr)]->(aG lo hi (pn c) (λi=>ae (pg c i)) a b (1)).length < (aG lo hi (pn c) (λi=>ae (pg c i)) a b (k+4)).length/\[PV.val (.int .i64 (-2)),PV.val (aw fr)]=g8 (aG lo hi (pn c) (λi=>ae (pg c i)) a b (k+4)) (aG lo hi (pn c) (λi=>ae (pg c i)) a b (1)).length/\(aG lo hi (pn c) (λi=>ae (pg c i)) a b (1)).length+1=(aG lo hi (pn c) (λi=>ae (pg c i)) a b (2)).length:=λfr h=>by
    have h1:=fX (n:=pn c) (p:=λi=>ae (pg c i)) (show 1 < k+4 by omega) (x:=(-((1:Nat)+1:Int),fr)) (by rw [if_pos (by decide)];exact h);refine⟨h1.2.1,?_,h1.2.2.symm⟩;unfold g8 Bi Ds;rw [h1.1];rfl
   have fa:(decide (ao x 0<=0)&&decide (ao y 0<=0))=false->decide (ao (aE (aw (aL 1 (aM (ar lo hi)).1 (aM (ar lo hi)).2 (aO a.v)))) 0<=0)=true->dM 1 lo hi a b=[(-((1:Nat)+1:Int),aE (aw (aL 1 (aM (ar lo hi)).1 (aM (ar lo hi)).2 (aO a.v))) / aE (aw (aE (aw (aL 1 (aM (ar lo hi)).1 (aM (ar lo hi)).2 (aO a.v))) - aE (aw (aL 1 (aM (ar lo hi)).1 (aM (ar lo hi)).2 (aO b.v))))))]:=λh h'=>by
    rw [ix] at h';rw [hone,h,h',it];rfl
   have fb:(decide (ao x 0<=0)&&decide (ao y 0<=0))=false->decide (ao (aE (aw (aL 1 (aM (ar lo hi)).1 (aM (ar lo hi)).2 (aO a.v)))) 0<=0)=false->dM 1 lo hi a b=[(-((1:Nat)+1:Int),0)]:=λh h'=>by
    rw [ix] at h';rw [hone,h,h'];rfl
   have k1:decide (ao (aE (aw (aL 1 (aM (ar lo hi)).1 (aM (ar lo hi)).2 (aO b.v)))) 0<=0)=false->(decide (ao x 0<=0)&&decide (ao y 0<=0))=false:=λh=>by
    rw [iy] at h;rw [h,Bool.and_false]
   have k2:decide (ao (aE (aw (aL 1 (aM (ar lo hi)).1 (aM (ar lo hi)).2 (aO a.v)))) 0<=0) = !true->(decide (ao x 0<=0)&&decide (ao y 0<=0))=false:=λh=>by
    rw [ix] at h;rw [h];rfl
   clear hx hy;with_unfolding_all refine⟨λ_=>⟨⟨by decide,by decide⟩,⟨⟨prA,⟨⟨prB,⟨?_,?_⟩⟩,⟨⟨⟨prB,?_⟩,⟨prB,?_⟩⟩,⟨⟨prB,?_⟩,⟨prB,?_⟩⟩⟩⟩⟩,⟨⟨⟨prA,⟨⟨prB,?_⟩,⟨prB,?_⟩⟩⟩,⟨prA,⟨prB,?_⟩⟩⟩,⟨⟨prA,⟨⟨prB,?_⟩,⟨prB,?_⟩⟩⟩,⟨prA,⟨prB,?_⟩⟩⟩⟩⟩⟩,λhh=>absurd hh (by decide)⟩
   all_goals with_unfolding_all refine⟨rx,λh1=>⟨ry,λh2=>⟨2,[],by show 2<=4;decide,by show 4 - 2 < 4 - 1;decide,Wo trivial ⟨rfl,⟨rfl,rfl,rfl,rfl,λ_ _=>rfl⟩,⟨rfl,rfl,rfl,rfl,λ_ _=>rfl⟩,rfl,rfl,qQ⟩ ⟨⟨congrArg (λz:Nat=>PV.val (.int .i64 (z:Int))) (sk h1 h2),rfl,qQ⟩,qQ⟩⟩,λh2=>⟨rx,λh3=>⟨⟨rx,ry⟩,⟨rx,rd⟩,⟨rfl,(aG lo hi (pn c) (λi=>ae (pg c i)) a b (1)).length,rfl,(yl _ (fa (k1 h2) h3)).1,(yl _ (fa (k1 h2) h3)).2.1,⟨λe=>(nomatch e),λ_=>⟨2,[],by show 2<=4;decide,by show 4 - 2 < 4 - 1;decide,Wo trivial ⟨rfl,⟨rfl,rfl,rfl,rfl,λ_ _=>rfl⟩,⟨rfl,rfl,rfl,rfl,λ_ _=>rfl⟩,rfl,rfl,qQ⟩ ⟨⟨congrArg (λz:Nat=>PV.val (.int .i64 (z:Int))) (yl _ (fa (k1 h2) h3)).2.2,rfl,qQ⟩,qQ⟩⟩⟩,⟨λ_=>trivial,λe=>(nomatch e)⟩⟩⟩,λh3=>⟨rfl,(aG lo hi (pn c) (λi=>ae (pg c i)) a b (1)).length,rfl,(yl _ (fb (k1 h2) h3)).1,(yl _ (fb (k1 h2) h3)).2.1,⟨λe=>(nomatch e),λ_=>⟨2,[],by show 2<=4;decide,by show 4 - 2 < 4 - 1;decide,Wo trivial ⟨rfl,⟨rfl,rfl,rfl,rfl,λ_ _=>rfl⟩,⟨rfl,rfl,rfl,rfl,λ_ _=>rfl⟩,rfl,rfl,qQ⟩ ⟨⟨congrArg (λz:Nat=>PV.val (.int .i64 (z:Int))) (yl _ (fb (k1 h2) h3)).2.2,rfl,qQ⟩,qQ⟩⟩⟩,⟨λ_=>trivial,λe=>(nomatch e)⟩⟩⟩⟩,λh1=>⟨λh2=>(nomatch h2),λh2=>⟨rx,λh3=>⟨⟨rx,ry⟩,⟨rx,rd⟩,⟨rfl,(aG lo hi (pn c) (λi=>ae (pg c i)) a b (1)).length,rfl,(yl _ (fa (k2 h1) h3)).1,(yl _ (fa (k2 h1) h3)).2.1,⟨λe=>(nomatch e),λ_=>⟨2,[],by show 2<=4;decide,by show 4 - 2 < 4 - 1;decide,Wo trivial ⟨rfl,⟨rfl,rfl,rfl,rfl,λ_ _=>rfl⟩,⟨rfl,rfl,rfl,rfl,λ_ _=>rfl⟩,rfl,rfl,qQ⟩ ⟨⟨congrArg (λz:Nat=>PV.val (.int .i64 (z:Int))) (yl _ (fa (k2 h1) h3)).2.2,rfl,qQ⟩,qQ⟩⟩⟩,⟨λ_=>trivial,λe=>(nomatch e)⟩⟩⟩,λh3=>⟨rfl,(aG lo hi (pn c) (λi=>ae (pg c i)) a b (1)).length,rfl,(yl _ (fb (k2 h1) h3)).1,(yl _ (fb (k2 h1) h3)).2.1,⟨λe=>(nomatch e),λ_=>⟨2,[],by show 2<=4;decide,by show 4 - 2 < 4 - 1;decide,Wo trivial ⟨rfl,⟨rfl,rfl,rfl,rfl,λ_ _=>rfl⟩,⟨rfl,rfl,rfl,rfl,λ_ _=>rfl⟩,rfl,rfl,qQ⟩ ⟨⟨congrArg (λz:Nat=>PV.val (.int .i64 (z:Int))) (yl _ (fb (k2 h1) h3)).2.2,rfl,qQ⟩,qQ⟩⟩⟩,⟨λ_=>trivial,λe=>(nomatch e)⟩⟩⟩⟩⟩
  |2,_ =>
   obtain⟨x,hx⟩:∃x,x=(aL 2 (aM (ar lo hi)).1 (aM (ar lo hi)).2 (aO a.v)):=⟨_,rfl⟩;obtain⟨y,hy⟩:∃y,y=(aL 2 (aM (ar lo hi)).1 (aM (ar lo hi)).2 (aO b.v)):=⟨_,rfl⟩;have hx1:aL 2 lo hi a=x:=by rw [hx];rfl
   have hy1:aL 2 lo hi b=y:=by rw [hy];rfl
   have qx:QB 20003 x:=by rw [<-hx1];exact fE 2 hlo hhi ha
   have qy:QB 20003 y:=by rw [<-hy1];exact fE 2 hlo hhi hb
   have hone:dM 2 lo hi a b=bif decide (ao x 0<=0)&&decide (ao y 0<=0) then [] else [(-((2:Nat)+1:Int),bif decide (ao x 0<=0) then x / (x - y) else 0)]:=by unfold dM;rw [hx1,hy1]
   have rx:isRk 4294967296 (aw (aL 2 (aM (ar lo hi)).1 (aM (ar lo hi)).2 (aO a.v))):=by rw [<-hx];exact qx.rk (by decide)
   have ry:isRk 4294967296 (aw (aL 2 (aM (ar lo hi)).1 (aM (ar lo hi)).2 (aO b.v))):=by rw [<-hy];exact qy.rk (by decide)
   have rd:isRk 4294967296 (aw (aE (aw (aL 2 (aM (ar lo hi)).1 (aM (ar lo hi)).2 (aO a.v))) - aE (aw (aL 2 (aM (ar lo hi)).1 (aM (ar lo hi)).2 (aO b.v))))):=by rw [aC,aC,<-hx,<-hy];exact(qx.sub qy).rk (by decide)
   have ix:decide (ao (aE (aw (aL 2 (aM (ar lo hi)).1 (aM (ar lo hi)).2 (aO a.v)))) 0<=0)=decide (ao x 0<=0):=by rw [aC,<-hx]
   have iy:decide (ao (aE (aw (aL 2 (aM (ar lo hi)).1 (aM (ar lo hi)).2 (aO b.v)))) 0<=0)=decide (ao y 0<=0):=by rw [aC,<-hy]
   have it:aE (aw (aL 2 (aM (ar lo hi)).1 (aM (ar lo hi)).2 (aO a.v))) / aE (aw (aE (aw (aL 2 (aM (ar lo hi)).1 (aM (ar lo hi)).2 (aO a.v))) - aE (aw (aL 2 (aM (ar lo hi)).1 (aM (ar lo hi)).2 (aO b.v)))))=x / (x - y):=by rw [aC,aC,aC,<-hx,<-hy]
   have prA:dL 4294967296 (ar lo hi)/\isPk 4294967296 a.v:=⟨⟨lo,hi,rfl,hlo',hhi'⟩,a,rfl,ha'⟩;have prB:dL 4294967296 (ar lo hi)/\isPk 4294967296 b.v:=⟨⟨lo,hi,rfl,hlo',hhi'⟩,b,rfl,hb'⟩;have sk:decide (ao (aE (aw (aL 2 (aM (ar lo hi)).1 (aM (ar lo hi)).2 (aO a.v)))) 0<=0)=true->decide (ao (aE (aw (aL 2 (aM (ar lo hi)).1 (aM (ar lo hi)).2 (aO b.v)))) 0<=0)=true->(aG lo hi (pn c) (λi=>ae (pg c i)) a b (2)).length=(aG lo hi (pn c) (λi=>ae (pg c i)) a b (3)).length:=λh h'=>by
    rw [ix] at h;rw [iy] at h';have e:aG lo hi (pn c) (λi=>ae (pg c i)) a b (2+1)=aG lo hi (pn c) (λi=>ae (pg c i)) a b 2++dM 2 lo hi a b:=rfl;rw [e,hone,h,h'];simp
   have yl:∀fr:Rat,dM 2 lo hi a b=[(-((2:Nat)+1:Int),fr)]->(aG lo hi (pn c) (λi=>ae (pg c i)) a b (2)).length < (aG lo hi (pn c) (λi=>ae (pg c i)) a b (k+4)).length/\[PV.val (.int .i64 (-3)),PV.val (aw fr)]=g8 (aG lo hi (pn c) (λi=>ae (pg c i)) a b (k+4)) (aG lo hi (pn c) (λi=>ae (pg c i)) a b (2)).length/\(aG lo hi (pn c) (λi=>ae (pg c i)) a b (2)).length+1=(aG lo hi (pn c) (λi=>ae (pg c i)) a b (3)).length:=λfr h=>by
    have h1:=fX (n:=pn c) (p:=λi=>ae (pg c i)) (show 2 < k+4 by omega) (x:=(-((2:Nat)+1:Int),fr)) (by rw [if_pos (by decide)];exact h);refine⟨h1.2.1,?_,h1.2.2.symm⟩;unfold g8 Bi Ds;rw [h1.1];rfl
   have fa:(decide (ao x 0<=0)&&decide (ao y 0<=0))=false->decide (ao (aE (aw (aL 2 (aM (ar lo hi)).1 (aM (ar lo hi)).2 (aO a.v)))) 0<=0)=true->dM 2 lo hi a b=[(-((2:Nat)+1:Int),aE (aw (aL 2 (aM (ar lo hi)).1 (aM (ar lo hi)).2 (aO a.v))) / aE (aw (aE (aw (aL 2 (aM (ar lo hi)).1 (aM (ar lo hi)).2 (aO a.v))) - aE (aw (aL 2 (aM (ar lo hi)).1 (aM (ar lo hi)).2 (aO b.v))))))]:=λh h'=>by
    rw [ix] at h';rw [hone,h,h',it];rfl
   have fb:(decide (ao x 0<=0)&&decide (ao y 0<=0))=false->decide (ao (aE (aw (aL 2 (aM (ar lo hi)).1 (aM (ar lo hi)).2 (aO a.v)))) 0<=0)=false->dM 2 lo hi a b=[(-((2:Nat)+1:Int),0)]:=λh h'=>by
    rw [ix] at h';rw [hone,h,h'];rfl
   have k1:decide (ao (aE (aw (aL 2 (aM (ar lo hi)).1 (aM (ar lo hi)).2 (aO b.v)))) 0<=0)=false->(decide (ao x 0<=0)&&decide (ao y 0<=0))=false:=λh=>by
    rw [iy] at h;rw [h,Bool.and_false]
   have k2:decide (ao (aE (aw (aL 2 (aM (ar lo hi)).1 (aM (ar lo hi)).2 (aO a.v)))) 0<=0) = !true->(decide (ao x 0<=0)&&decide (ao y 0<=0))=false:=λh=>by
    rw [ix] at h;rw [h];rfl
   clear hx hy;with_unfolding_all refine⟨λ_=>⟨⟨by decide,by decide⟩,⟨⟨prA,⟨⟨prB,⟨?_,?_⟩⟩,⟨⟨⟨prB,?_⟩,⟨prB,?_⟩⟩,⟨⟨prB,?_⟩,⟨prB,?_⟩⟩⟩⟩⟩,⟨⟨⟨prA,⟨⟨prB,?_⟩,⟨prB,?_⟩⟩⟩,⟨prA,⟨prB,?_⟩⟩⟩,⟨⟨prA,⟨⟨prB,?_⟩,⟨prB,?_⟩⟩⟩,⟨prA,⟨prB,?_⟩⟩⟩⟩⟩⟩,λhh=>absurd hh (by decide)⟩
   all_goals with_unfolding_all refine⟨rx,λh1=>⟨ry,λh2=>⟨3,[],by show 3<=4;decide,by show 4 - 3 < 4 - 2;decide,Wo trivial ⟨rfl,⟨rfl,rfl,rfl,rfl,λ_ _=>rfl⟩,⟨rfl,rfl,rfl,rfl,λ_ _=>rfl⟩,rfl,rfl,qQ⟩ ⟨⟨congrArg (λz:Nat=>PV.val (.int .i64 (z:Int))) (sk h1 h2),rfl,qQ⟩,qQ⟩⟩,λh2=>⟨rx,λh3=>⟨⟨rx,ry⟩,⟨rx,rd⟩,⟨rfl,(aG lo hi (pn c) (λi=>ae (pg c i)) a b (2)).length,rfl,(yl _ (fa (k1 h2) h3)).1,(yl _ (fa (k1 h2) h3)).2.1,⟨λe=>(nomatch e),λ_=>⟨3,[],by show 3<=4;decide,by show 4 - 3 < 4 - 2;decide,Wo trivial ⟨rfl,⟨rfl,rfl,rfl,rfl,λ_ _=>rfl⟩,⟨rfl,rfl,rfl,rfl,λ_ _=>rfl⟩,rfl,rfl,qQ⟩ ⟨⟨congrArg (λz:Nat=>PV.val (.int .i64 (z:Int))) (yl _ (fa (k1 h2) h3)).2.2,rfl,qQ⟩,qQ⟩⟩⟩,⟨λ_=>trivial,λe=>(nomatch e)⟩⟩⟩,λh3=>⟨rfl,(aG lo hi (pn c) (λi=>ae (pg c i)) a b (2)).length,rfl,(yl _ (fb (k1 h2) h3)).1,(yl _ (fb (k1 h2) h3)).2.1,⟨λe=>(nomatch e),λ_=>⟨3,[],by show 3<=4;decide,by show 4 - 3 < 4 - 2;decide,Wo trivial ⟨rfl,⟨rfl,rfl,rfl,rfl,λ_ _=>rfl⟩,⟨rfl,rfl,rfl,rfl,λ_ _=>rfl⟩,rfl,rfl,qQ⟩ ⟨⟨congrArg (λz:Nat=>PV.val (.int .i64 (z:Int))) (yl _ (fb (k1 h2) h3)).2.2,rfl,qQ⟩,qQ⟩⟩⟩,⟨λ_=>trivial,λe=>(nomatch e)⟩⟩⟩⟩,λh1=>⟨λh2=>(nomatch h2),λh2=>⟨rx,λh3=>⟨⟨rx,ry⟩,⟨rx,rd⟩,⟨rfl,(aG lo hi (pn c) (λi=>ae (pg c i)) a b (2)).length,rfl,(yl _ (fa (k2 h1) h3)).1,(yl _ (fa (k2 h1) h3)).2.1,⟨λe=>(nomatch e),λ_=>⟨3,[],by show 3<=4;decide,by show 4 - 3 < 4 - 2;decide,Wo trivial ⟨rfl,⟨rfl,rfl,rfl,rfl,λ_ _=>rfl⟩,⟨rfl,rfl,rfl,rfl,λ_ _=>rfl⟩,rfl,rfl,qQ⟩ ⟨⟨congrArg (λz:Nat=>PV.val (.int .i64 (z:Int))) (yl _ (fa (k2 h1) h3)).2.2,rfl,qQ⟩,qQ⟩⟩⟩,⟨λ_=>trivial,λe=>(nomatch e)⟩⟩⟩,λh3=>⟨rfl,(aG lo hi (pn c) (λi=>ae (pg c i)) a b (2)).length,rfl,(yl _ (fb (k2 h1) h3)).1,(yl _ (fb (k2 h1) h3)).2.1,⟨λe=>(nomatch e),λ_=>⟨3,[],by show 3<=4;decide,by show 4 - 3 < 4 - 2;decide,Wo trivial ⟨rfl,⟨rfl,rfl,rfl,rfl,λ_ _=>rfl⟩,⟨rfl,rfl,rfl,rfl,λ_ _=>rfl⟩,rfl,rfl,qQ⟩ ⟨⟨congrArg (λz:Nat=>PV.val (.int .i64 (z:Int))) (yl _ (fb (k2 h1) h3)).2.2,rfl,qQ⟩,qQ⟩⟩⟩,⟨λ_=>trivial,λe=>(nomatch e)⟩⟩⟩⟩⟩
  |3,_ =>
   obtain⟨x,hx⟩:∃x,x=(aL 3 (aM (ar lo hi)).1 (aM (ar lo hi)).2 (aO a.v)):=⟨_,rfl⟩;obtain⟨y,hy⟩:∃y,y=(aL 3 (aM (ar lo hi)).1 (aM (ar lo hi)).2 (aO b.v)):=⟨_,rfl⟩;have hx1:aL 3 lo hi a=x:=by rw [hx];rfl
   have hy1:aL 3 lo hi b=y:=by rw [hy];rfl
   have qx:QB 20003 x:=by rw [<-hx1];exact fE 3 hlo hhi ha
   have qy:QB 20003 y:=by rw [<-hy1];exact fE 3 hlo hhi hb
   have hone:dM 3 lo hi a b=bif decide (ao x 0<=0)&&decide (ao y 0<=0) then [] else [(-((3:Nat)+1:Int),bif decide (ao x 0<=0) then x / (x - y) else 0)]:=by unfold dM;rw [hx1,hy1]
   have rx:isRk 4294967296 (aw (aL 3 (aM (ar lo hi)).1 (aM (ar lo hi)).2 (aO a.v))):=by rw [<-hx];exact qx.rk (by decide)
   have ry:isRk 4294967296 (aw (aL 3 (aM (ar lo hi)).1 (aM (ar lo hi)).2 (aO b.v))):=by rw [<-hy];exact qy.rk (by decide)
   have rd:isRk 4294967296 (aw (aE (aw (aL 3 (aM (ar lo hi)).1 (aM (ar lo hi)).2 (aO a.v))) - aE (aw (aL 3 (aM (ar lo hi)).1 (aM (ar lo hi)).2 (aO b.v))))):=by rw [aC,aC,<-hx,<-hy];exact(qx.sub qy).rk (by decide)
   have ix:decide (ao (aE (aw (aL 3 (aM (ar lo hi)).1 (aM (ar lo hi)).2 (aO a.v)))) 0<=0)=decide (ao x 0<=0):=by rw [aC,<-hx]
   have iy:decide (ao (aE (aw (aL 3 (aM (ar lo hi)).1 (aM (ar lo hi)).2 (aO b.v)))) 0<=0)=decide (ao y 0<=0):=by rw [aC,<-hy]
   have it:aE (aw (aL 3 (aM (ar lo hi)).1 (aM (ar lo hi)).2 (aO a.v))) / aE (aw (aE (aw (aL 3 (aM (ar lo hi)).1 (aM (ar lo hi)).2 (aO a.v))) - aE (aw (aL 3 (aM (ar lo hi)).1 (aM (ar lo hi)).2 (aO b.v)))))=x / (x - y):=by rw [aC,aC,aC,<-hx,<-hy]
   have prA:dL 4294967296 (ar lo hi)/\isPk 4294967296 a.v:=⟨⟨lo,hi,rfl,hlo',hhi'⟩,a,rfl,ha'⟩;have prB:dL 4294967296 (ar lo hi)/\isPk 4294967296 b.v:=⟨⟨lo,hi,rfl,hlo',hhi'⟩,b,rfl,hb'⟩;have sk:decide (ao (aE (aw (aL 3 (aM (ar lo hi)).1 (aM (ar lo hi)).2 (aO a.v)))) 0<=0)=true->decide (ao (aE (aw (aL 3 (aM (ar lo hi)).1 (aM (ar lo hi)).2 (aO b.v)))) 0<=0)=true->(aG lo hi (pn c) (λi=>ae (pg c i)) a b (3)).length=(aG lo hi (pn c) (λi=>ae (pg c i)) a b (4)).length:=λh h'=>by
    rw [ix] at h;rw [iy] at h';have e:aG lo hi (pn c) (λi=>ae (pg c i)) a b (3+1)=aG lo hi (pn c) (λi=>ae (pg c i)) a b 3++dM 3 lo hi a b:=rfl;rw [e,hone,h,h'];simp
   have yl:∀fr:Rat,dM 3 lo hi a b=[(-((3:Nat)+1:Int),fr)]->(aG lo hi (pn c) (λi=>ae (pg c i)) a b (3)).length < (aG lo hi (pn c) (λi=>ae (pg c i)) a b (k+4)).length/\[PV.val (.int .i64 (-4)),PV.val (aw fr)]=g8 (aG lo hi (pn c) (λi=>ae (pg c i)) a b (k+4)) (aG lo hi (pn c) (λi=>ae (pg c i)) a b (3)).length/\(aG lo hi (pn c) (λi=>ae (pg c i)) a b (3)).length+1=(aG lo hi (pn c) (λi=>ae (pg c i)) a b (4)).length:=λfr h=>by
    have h1:=fX (n:=pn c) (p:=λi=>ae (pg c i)) (show 3 < k+4 by omega) (x:=(-((3:Nat)+1:Int),fr)) (by rw [if_pos (by decide)];exact h);refine⟨h1.2.1,?_,h1.2.2.symm⟩;unfold g8 Bi Ds;rw [h1.1];rfl
   have fa:(decide (ao x 0<=0)&&decide (ao y 0<=0))=false->decide (ao (aE (aw (aL 3 (aM (ar lo hi)).1 (aM (ar lo hi)).2 (aO a.v)))) 0<=0)=true->dM 3 lo hi a b=[(-((3:Nat)+1:Int),aE (aw (aL 3 (aM (ar lo hi)).1 (aM (ar lo hi)).2 (aO a.v))) / aE (aw (aE (aw (aL 3 (aM (ar lo hi)).1 (aM (ar lo hi)).2 (aO a.v))) - aE (aw (aL 3 (aM (ar lo hi)).1 (aM (ar lo hi)).2 (aO b.v))))))]:=λh h'=>by
    rw [ix] at h';rw [hone,h,h',it];rfl
   have fb:(decide (ao x 0<=0)&&decide (ao y 0<=0))=false->decide (ao (aE (aw (aL 3 (aM (ar lo hi)).1 (aM (ar lo hi)).2 (aO a.v)))) 0<=0)=false->dM 3 lo hi a b=[(-((3:Nat)+1:Int),0)]:=λh h'=>by
    rw [ix] at h';rw [hone,h,h'];rfl
   have k1:decide (ao (aE (aw (aL 3 (aM (ar lo hi)).1 (aM (ar lo hi)).2 (aO b.v)))) 0<=0)=false->(decide (ao x 0<=0)&&decide (ao y 0<=0))=false:=λh=>by
    rw [iy] at h;rw [h,Bool.and_false]
   have k2:decide (ao (aE (aw (aL 3 (aM (ar lo hi)).1 (aM (ar lo hi)).2 (aO a.v)))) 0<=0) = !true->(decide (ao x 0<=0)&&decide (ao y 0<=0))=false:=λh=>by
    rw [ix] at h;rw [h];rfl
   clear hx hy;with_unfolding_all refine⟨λ_=>⟨⟨by decide,by decide⟩,⟨⟨prA,⟨⟨prB,⟨?_,?_⟩⟩,⟨⟨⟨prB,?_⟩,⟨prB,?_⟩⟩,⟨⟨prB,?_⟩,⟨prB,?_⟩⟩⟩⟩⟩,⟨⟨⟨prA,⟨⟨prB,?_⟩,⟨prB,?_⟩⟩⟩,⟨prA,⟨prB,?_⟩⟩⟩,⟨⟨prA,⟨⟨prB,?_⟩,⟨prB,?_⟩⟩⟩,⟨prA,⟨prB,?_⟩⟩⟩⟩⟩⟩,λhh=>absurd hh (by decide)⟩
   all_goals with_unfolding_all refine⟨rx,λh1=>⟨ry,λh2=>⟨4,[],by show 4<=4;decide,by show 4 - 4 < 4 - 3;decide,Wo trivial ⟨rfl,⟨rfl,rfl,rfl,rfl,λ_ _=>rfl⟩,⟨rfl,rfl,rfl,rfl,λ_ _=>rfl⟩,rfl,rfl,qQ⟩ ⟨⟨congrArg (λz:Nat=>PV.val (.int .i64 (z:Int))) (sk h1 h2),rfl,qQ⟩,qQ⟩⟩,λh2=>⟨rx,λh3=>⟨⟨rx,ry⟩,⟨rx,rd⟩,⟨rfl,(aG lo hi (pn c) (λi=>ae (pg c i)) a b (3)).length,rfl,(yl _ (fa (k1 h2) h3)).1,(yl _ (fa (k1 h2) h3)).2.1,⟨λe=>(nomatch e),λ_=>⟨4,[],by show 4<=4;decide,by show 4 - 4 < 4 - 3;decide,Wo trivial ⟨rfl,⟨rfl,rfl,rfl,rfl,λ_ _=>rfl⟩,⟨rfl,rfl,rfl,rfl,λ_ _=>rfl⟩,rfl,rfl,qQ⟩ ⟨⟨congrArg (λz:Nat=>PV.val (.int .i64 (z:Int))) (yl _ (fa (k1 h2) h3)).2.2,rfl,qQ⟩,qQ⟩⟩⟩,⟨λ_=>trivial,λe=>(nomatch e)⟩⟩⟩,λh3=>⟨rfl,(aG lo hi (pn c) (λi=>ae (pg c i)) a b (3)).length,rfl,(yl _ (fb (k1 h2) h3)).1,(yl _ (fb (k1 h2) h3)).2.1,⟨λe=>(nomatch e),λ_=>⟨4,[],by show 4<=4;decide,by show 4 - 4 < 4 - 3;decide,Wo trivial ⟨rfl,⟨rfl,rfl,rfl,rfl,λ_ _=>rfl⟩,⟨rfl,rfl,rfl,rfl,λ_ _=>rfl⟩,rfl,rfl,qQ⟩ ⟨⟨congrArg (λz:Nat=>PV.val (.int .i64 (z:Int))) (yl _ (fb (k1 h2) h3)).2.2,rfl,qQ⟩,qQ⟩⟩⟩,⟨λ_=>trivial,λe=>(nomatch e)⟩⟩⟩⟩,λh1=>⟨λh2=>(nomatch h2),λh2=>⟨rx,λh3=>⟨⟨rx,ry⟩,⟨rx,rd⟩,⟨rfl,(aG lo hi (pn c) (λi=>ae (pg c i)) a b (3)).length,rfl,(yl _ (fa (k2 h1) h3)).1,(yl _ (fa (k2 h1) h3)).2.1,⟨λe=>(nomatch e),λ_=>⟨4,[],by show 4<=4;decide,by show 4 - 4 < 4 - 3;decide,Wo trivial ⟨rfl,⟨rfl,rfl,rfl,rfl,λ_ _=>rfl⟩,⟨rfl,rfl,rfl,rfl,λ_ _=>rfl⟩,rfl,rfl,qQ⟩ ⟨⟨congrArg (λz:Nat=>PV.val (.int .i64 (z:Int))) (yl _ (fa (k2 h1) h3)).2.2,rfl,qQ⟩,qQ⟩⟩⟩,⟨λ_=>trivial,λe=>(nomatch e)⟩⟩⟩,λh3=>⟨rfl,(aG lo hi (pn c) (λi=>ae (pg c i)) a b (3)).length,rfl,(yl _ (fb (k2 h1) h3)).1,(yl _ (fb (k2 h1) h3)).2.1,⟨λe=>(nomatch e),λ_=>⟨4,[],by show 4<=4;decide,by show 4 - 4 < 4 - 3;decide,Wo trivial ⟨rfl,⟨rfl,rfl,rfl,rfl,λ_ _=>rfl⟩,⟨rfl,rfl,rfl,rfl,λ_ _=>rfl⟩,rfl,rfl,qQ⟩ ⟨⟨congrArg (λz:Nat=>PV.val (.int .i64 (z:Int))) (yl _ (fb (k2 h1) h3)).2.2,rfl,qQ⟩,qQ⟩⟩⟩,⟨λ_=>trivial,λe=>(nomatch e)⟩⟩⟩⟩⟩
  |4,_ =>
   have h44:decide (((4:Nat):Int) < 4)=true->False:=λh=>absurd h (by decide);with_unfolding_all refine⟨λh=>h44 h,λ_=>⟨Nat,λi=>i<=k,λi=>aa [(0,.val (.func (.yield L0) ⟨[]⟩ ⟨[]⟩)),(1,.rp 14 1 (λ_=>bq lo hi k c l o) 0 0),(2,.rp 12 1 (λ_=>kx a b) 0 0),(60,.rs 1 k (λi=>[.rs 6 (pn c i) (pg c i)])),(61,.val (goInt k)),(62,.val (goInt i))] [] 0 [[(0,.val (.int .i64 ((aG lo hi (pn c) (λi=>ae (pg c i)) a b (i+4)).length:Nat))),(1,.val (.bool false))]],λi=>k - i,⟨0,[],Nat.zero_le _,Wo trivial ⟨rfl,⟨rfl,rfl,rfl,rfl,λ_ _=>rfl⟩,⟨rfl,rfl,rfl,rfl,λ_ _=>rfl⟩,qW,rfl,rfl,qQ⟩ ⟨⟨rfl,rfl,qQ⟩,qQ⟩⟩,λi hik=>?_⟩⟩
   have hX:(db (pn c ((i:Nat):Int).toNat) (ae (pg c ((i:Nat):Int).toNat)) (aM (ar a b)).1 (aM (ar a b)).2)=db (pn c i) (ae (pg c i)) a b:=rfl;have sk:(db (pn c ((i:Nat):Int).toNat) (ae (pg c ((i:Nat):Int).toNat)) (aM (ar a b)).1 (aM (ar a b)).2).isSome=false->(aG lo hi (pn c) (λi=>ae (pg c i)) a b (i+4)).length=(aG lo hi (pn c) (λi=>ae (pg c i)) a b ((i+1)+4)).length:=λh=>by
    rw [hX] at h;have e:aG lo hi (pn c) (λi=>ae (pg c i)) a b (i+4+1)=aG lo hi (pn c) (λi=>ae (pg c i)) a b (i+4)++(if i+4 < 4 then dM (i+4) lo hi a b else rM (i+4 - 4) (pn c (i+4 - 4)) (ae (pg c (i+4 - 4))) a b):=rfl;rw [show i+1+4=i+4+1 by omega,e,if_neg (by omega),show i+4 - 4=i by omega,rM];cases hh:db (pn c i) (ae (pg c i)) a b with
    |none=>simp
    |some s=>rw [hh] at h;cases h
   have yl:i < k->(db (pn c ((i:Nat):Int).toNat) (ae (pg c ((i:Nat):Int).toNat)) (aM (ar a b)).1 (aM (ar a b)).2).isSome=true->(aG lo hi (pn c) (λi=>ae (pg c i)) a b (i+4)).length < (aG lo hi (pn c) (λi=>ae (pg c i)) a b (k+4)).length/\[PV.val (.int .i64 i),PV.val (aw (ky (db (pn c ((i:Nat):Int).toNat) (ae (pg c ((i:Nat):Int).toNat)) (aM (ar a b)).1 (aM (ar a b)).2)))]=g8 (aG lo hi (pn c) (λi=>ae (pg c i)) a b (k+4)) (aG lo hi (pn c) (λi=>ae (pg c i)) a b (i+4)).length/\(aG lo hi (pn c) (λi=>ae (pg c i)) a b (i+4)).length+1=(aG lo hi (pn c) (λi=>ae (pg c i)) a b ((i+1)+4)).length:=λhik h=>by
    rw [hX] at h ⊢;cases hh:db (pn c i) (ae (pg c i)) a b with
    |none=>rw [hh] at h;cases h
    |some s =>
    have h1:=fX (lo:=lo) (hi:=hi) (n:=pn c) (p:=λi=>ae (pg c i)) (a:=a) (b:=b) (show i+4 < k+4 by omega) (x:=((i:Int),s.1)) (by rw [if_neg (by omega),show i+4 - 4=i by omega,rM,hh]);refine⟨h1.2.1,?_,by rw [show i+1+4=i+4+1 by omega];exact h1.2.2.symm⟩;unfold g8 Bi Ds;rw [h1.1];rfl
   have nb:(db (pn c ((i:Nat):Int).toNat) (ae (pg c ((i:Nat):Int).toNat)) (aM (ar a b)).1 (aM (ar a b)).2).isSome=true->gE (pn c ((i:Nat):Int).toNat) (ae (pg c ((i:Nat):Int).toNat)) (aM (ar a b)).1 (aM (ar a b)).2=false:=λh=>by
    rw [hX] at h;show gE (pn c i) (ae (pg c i)) a b=false;cases hb:gE (pn c i) (ae (pg c i)) a b
    ·rfl
    ·unfold db at h;rw [hb] at h;cases h
   have nb':(db (pn c ((i:Nat):Int).toNat) (ae (pg c ((i:Nat):Int).toNat)) (aM (ar a b)).1 (aM (ar a b)).2).isSome=true->∀x:Bool,x=((bif gE (pn c ((i:Nat):Int).toNat) (ae (pg c ((i:Nat):Int).toNat)) (aM (ar a b)).1 (aM (ar a b)).2 then(1:Int) else 0)==0)->x=false->False:=λh x hx h'=>by
    rw [nb h] at hx;rw [hx] at h';cases h'
   have bN:decide ((i:Int) < (k:Int))=true->i < k:=λh=>Int.ofNat_lt.1 (of_decide_eq_true h);have dC:decide ((i:Int) < (k:Int))=false->i=k:=λh=>Nat.le_antisymm hik (Nat.le_of_not_lt λh'=>of_decide_eq_false h (Int.ofNat_lt.2 h'));have wi:decide ((i:Int) < (k:Int))=true->PV.val (.int .i64 (IntKind.i64.wrap ((i:Int)+1)))=.val (goInt (i+1:Nat)):=λh=>by
    have:=bN h;rw [wrap64 (by omega) (by omega)];rfl
   with_unfolding_all refine⟨λh0=>⟨⟨Int.natCast_nonneg i,Int.ofNat_lt.2 (bN h0)⟩,⟨(hc i (bN h0)).2,a,b,rfl,ha,hb⟩,λh1=>⟨λh2=>⟨rfl,(aG lo hi (pn c) (λi=>ae (pg c i)) a b (i+4)).length,rfl,(yl (bN h0) h1).1,(yl (bN h0) h1).2.1,⟨λ_=>⟨λe=>(nomatch e),λ_=>⟨i+1,[],bN h0,by have:=bN h0;show k - (i+1) < k - i;omega,Wo trivial ⟨rfl,⟨rfl,rfl,rfl,rfl,λ_ _=>rfl⟩,⟨rfl,rfl,rfl,rfl,λ_ _=>rfl⟩,qW,rfl,wi h0,qQ⟩ ⟨⟨congrArg (λz:Nat=>PV.val (.int .i64 (z:Int))) (yl (bN h0) h1).2.2,rfl,qQ⟩,qQ⟩⟩⟩,λe=>(nomatch e)⟩,⟨λ_=>⟨λ_=>trivial,λe=>(nomatch e)⟩,λe=>(nomatch e)⟩⟩,λh2=>⟨λe=>(nomatch e),λ_=>(nb' h1 _ rfl h2).elim⟩⟩,λh1=>⟨λe=>(nomatch e),λ_=>⟨λe=>(nomatch e),λ_=>⟨i+1,[],bN h0,by have:=bN h0;show k - (i+1) < k - i;omega,Wo trivial ⟨rfl,⟨rfl,rfl,rfl,rfl,λ_ _=>rfl⟩,⟨rfl,rfl,rfl,rfl,λ_ _=>rfl⟩,qW,rfl,wi h0,qQ⟩ ⟨⟨congrArg (λz:Nat=>PV.val (.int .i64 (z:Int))) (sk h1),rfl,qQ⟩,qQ⟩⟩⟩⟩⟩,λh0=>?_⟩
   rw [dC h0];rfl
  |j+5,h=>exact absurd h (by show ¬j+5<=4;omega)
 ·cases e
end Go.Proofs
namespace Go.Num
def fO (lo hi:PtS) (k:Nat) (c:Nat->List PV) (l:Nat) (o:Nat->List PV) (v:Value):Bool:=!(!ah (aM v).1||!ah (aM v).2)&&(bT lo hi k (pn c) (λi=>ae (pg c i)) l (ow o)==0)
def dF (lo hi:PtS) (k:Nat) (c:Nat->List PV) (v:Value):List (Int×Rat):=g7 lo hi k (pn c) (λi=>ae (pg c i)) (aM v).1 (aM v).2
def wI (b:Bool) (L:List (Int×Rat)):Int:=bif b then Bi L 0 else 0
end Go.Num
namespace Go.Proofs
def Gu:List PV->Option Ans
 |[.agg [.val (.bool s1),.val (.string b1),.val (.string c1),.val (.bool s2),.val (.string b2),.val (.string c2),.val (.bool s3),.val (.string b3),.val (.string c3),.val (.bool s4),.val (.string b4),.val (.string c4),.rs 1 k c,.rs 3 l o],.val v]=>some ⟨some (((PtS.le 10000 (PtS.mk ⟨s1,b1,c1⟩ ⟨s2,b2,c2⟩)/\PtS.le 10000 (PtS.mk ⟨s3,b3,c3⟩ ⟨s4,b4,c4⟩))/\bM 10000 k c/\cQ l o)/\dL 10000 v),.val (.tuple ⟨[.int .i64 (wI (fO (PtS.mk ⟨s1,b1,c1⟩ ⟨s2,b2,c2⟩) (PtS.mk ⟨s3,b3,c3⟩ ⟨s4,b4,c4⟩) k c l o v) (dF (PtS.mk ⟨s1,b1,c1⟩ ⟨s2,b2,c2⟩) (PtS.mk ⟨s3,b3,c3⟩ ⟨s4,b4,c4⟩) k c v)),.bool (fO (PtS.mk ⟨s1,b1,c1⟩ ⟨s2,b2,c2⟩) (PtS.mk ⟨s3,b3,c3⟩ ⟨s4,b4,c4⟩) k c l o v&&!(dF (PtS.mk ⟨s1,b1,c1⟩ ⟨s2,b2,c2⟩) (PtS.mk ⟨s3,b3,c3⟩ ⟨s4,b4,c4⟩) k c v).isEmpty),.int .i64 (bW (fO (PtS.mk ⟨s1,b1,c1⟩ ⟨s2,b2,c2⟩) (PtS.mk ⟨s3,b3,c3⟩ ⟨s4,b4,c4⟩) k c l o v))]⟩),[]⟩
 |_=>none
def D91:Opt:={ }
theorem Hm:am D91.toOrd Tryz.f91 2=true:=by kernel_rfl
theorem f91:FnOk Tryz.prog 91 Gu:=by
 refine FnOk.ofW aj (oN (l:=[(125,CJ),(126,CR)]) (own:=[]) (inl:=[]) (sq:=[(171,CS)]) (by simp [f125,f126]) (by simp) (by simp [f171])) Tryz.func91 D91 2 Hm λargs r e=>?_;unfold Gu at e;split at e
 ·rename_i s1 b1 c1 s2 b2 c2 s3 b3 c3 s4 b4 c4 k c l o v
  cases e;refine⟨by simp,λhm=>?_⟩;obtain⟨⟨⟨hlo,hhi⟩,⟨hc,hk⟩,ho,hl⟩,a,b,rfl,ha,hb⟩:=hm _ rfl;obtain⟨lo,hlo'⟩:∃p,p=(PtS.mk ⟨s1,b1,c1⟩ ⟨s2,b2,c2⟩):=⟨_,rfl⟩;obtain⟨hi,hhi'⟩:∃p,p=(PtS.mk ⟨s3,b3,c3⟩ ⟨s4,b4,c4⟩):=⟨_,rfl⟩;have hc1:∀i,i < k->[.rs 6 (pn c i) (pg c i)]=c i:=λi hi=>(hc i hi).1.symm;have ho1:∀i,i < l->ag (ow o i)=o i:=λi hi=>(ho i hi).symm;refine⟨[],aa [(0,.agg [.val (.bool (PtS.mk ⟨s1,b1,c1⟩ ⟨s2,b2,c2⟩).x.s),.val (.string (PtS.mk ⟨s1,b1,c1⟩ ⟨s2,b2,c2⟩).x.b),.val (.string (PtS.mk ⟨s1,b1,c1⟩ ⟨s2,b2,c2⟩).x.c),.val (.bool (PtS.mk ⟨s1,b1,c1⟩ ⟨s2,b2,c2⟩).y.s),.val (.string (PtS.mk ⟨s1,b1,c1⟩ ⟨s2,b2,c2⟩).y.b),.val (.string (PtS.mk ⟨s1,b1,c1⟩ ⟨s2,b2,c2⟩).y.c),.val (.bool (PtS.mk ⟨s3,b3,c3⟩ ⟨s4,b4,c4⟩).x.s),.val (.string (PtS.mk ⟨s3,b3,c3⟩ ⟨s4,b4,c4⟩).x.b),.val (.string (PtS.mk ⟨s3,b3,c3⟩ ⟨s4,b4,c4⟩).x.c),.val (.bool (PtS.mk ⟨s3,b3,c3⟩ ⟨s4,b4,c4⟩).y.s),.val (.string (PtS.mk ⟨s3,b3,c3⟩ ⟨s4,b4,c4⟩).y.b),.val (.string (PtS.mk ⟨s3,b3,c3⟩ ⟨s4,b4,c4⟩).y.c),.rs 1 k (λi=>[.rs 6 (pn c i) (pg c i)]),.rs 3 l (λi=>ag (ow o i))]),(1,.val (ar a b))] [] 0 [],Wo trivial ⟨⟨rfl,rfl,rfl,rfl,rfl,rfl,rfl,rfl,rfl,rfl,rfl,rfl,⟨rfl,rfl,hc1⟩,⟨rfl,rfl,ho1⟩,qQ⟩,rfl,qQ⟩ trivial,?_⟩;rw [<-hlo'] at hlo ⊢;rw [<-hhi'] at hhi ⊢;clear hlo' hhi' hm;have hlo':=hlo.mono (show 10000<=4294967296 by decide);have hhi':=hhi.mono (show 10000<=4294967296 by decide);have hrg:(lo.le 4294967296/\hi.le 4294967296)/\bM 10000 k (λi=>[.rs 6 (pn c i) (pg c i)])/\cQ l (λi=>ag (ow o i)):=⟨⟨hlo',hhi'⟩,⟨λi hi=>⟨rfl,(hc i hi).2⟩,hk⟩,λi hi=>rfl,hl⟩;obtain⟨R,hR⟩:∃R,R=bT lo hi k (pn c) (λi=>ae (pg c i)) l (ow o):=⟨_,rfl⟩;have hR':bT lo hi k (pn (λi=>[.rs 6 (pn c i) (pg c i)])) (λi=>ae (pg (λi=>[.rs 6 (pn c i) (pg c i)]) i)) l (ow (λi=>ag (ow o i)))=R:=hR.symm;have ha':=ha.mono (show 10000<=4294967296 by decide);have hb':=hb.mono (show 10000<=4294967296 by decide);obtain⟨L,hL⟩:∃L,L=dF lo hi k c (ar a b):=⟨_,rfl⟩;rw [<-hL];obtain⟨OK,hOK⟩:∃OK,OK=fO lo hi k c l o (ar a b):=⟨_,rfl⟩;rw [<-hOK];obtain⟨VI,hVI⟩:∃VI,VI=wI OK L:=⟨_,rfl⟩;rw [<-hVI];obtain⟨VB,hVB⟩:∃VB,VB=(OK&&!L.isEmpty):=⟨_,rfl⟩;rw [<-hVB];have hL':g7 lo hi k (pn (λi=>[.rs 6 (pn c i) (pg c i)])) (λi=>ae (pg (λi=>[.rs 6 (pn c i) (pg c i)]) i)) a b=L:=hL.symm;have cn:∀r:Nat->List PV,ae r 0=a->ae r 1=b->aD (λi=>!ah (ae r i)) 2=(!ah a||!ah b):=λr h h'=>by
   have e:List.range 2=[0,1]:=rfl;simp only [aD,e,List.any_cons,List.any_nil,Bool.or_false,h,h']
  have p2:∀r:Nat->List PV,r 0=a.cells->r 1=b.cells->isPL 4294967296 2 r:=λr h h'=>⟨λi hi=>by
   match i,hi with
   |0,_=>exact⟨by rw [ae,h];rfl,by rw [ae,h];exact ha'⟩
   |1,_=>exact⟨by rw [ae,h'];rfl,by rw [ae,h'];exact hb'⟩
   |i+2,h=>omega,by decide⟩
  have hOK':OK=(!(!ah a||!ah b)&&(R==0)):=by rw [hOK,hR];rfl
  have q1:∀r:Nat->List PV,ae r 0=a->ae r 1=b->(!(!aD (λi=>!ah (ae r i)) 2&&(bT lo hi k (pn (λi=>[.rs 6 (pn c i) (pg c i)])) (λi=>ae (pg (λi=>[.rs 6 (pn c i) (pg c i)]) i)) l (ow (λi=>ag (ow o i)))==0))) = !OK:=λr h h'=>by
   rw [cn r h h',hR',hOK']
  with_unfolding_all refine⟨⟨hrg,p2 _ rfl rfl⟩,λh1=>?_,λh1=>?_⟩
  ·have h1:OK=false:=by
    have:=(q1 _ rfl rfl).symm.trans h1;simpa using this
   have v1:PV.val (.int .i64 0)=PV.val (.int .i64 VI):=by rw [hVI,h1];rfl
   have v2:PV.val (.bool false)=PV.val (.bool VB):=by rw [hVB,h1];rfl
   have v3:PV.val (.int .i64 1)=PV.val (.int .i64 (bW OK)):=by rw [h1];rfl
   with_unfolding_all exact⟨[some 2,some 3,some 4],aa [(4,.ptr 0 0 0 0),(5,.ptr 1 1 0 0),(6,.ptr 2 2 0 0)] [⟨3,1,0,true,false,1,λ_=>[.val (.int .i64 VI)]⟩,⟨4,1,1,true,false,1,λ_=>[.val (.bool VB)]⟩,⟨38,1,2,true,false,1,λ_=>[.val (.int .i64 (bW OK))]⟩] 3 [],Wo ⟨qZ ⟨⟨v1,rfl⟩,qQ⟩,qZ ⟨⟨v2,rfl⟩,qQ⟩,qZ ⟨⟨v3,rfl⟩,qQ⟩,qQ⟩ ⟨pP,pP,pP,qQ⟩ trivial,rfl,rfl⟩
  ·have h1:OK=true:=by
    have:=(q1 _ rfl rfl).symm.trans h1;simpa using this
   have v3:PV.val (.int .i64 0)=PV.val (.int .i64 (bW OK)):=by rw [h1];rfl
   with_unfolding_all refine⟨⟨⟨λi _=>rfl,λi _=>rfl⟩,a,b,rfl⟩,⟨rq,⟨hlo,hhi⟩,⟨ha,hb⟩,⟨λi hi=>⟨rfl,(hc i hi).2⟩,hk⟩⟩,Unit,λi _=>i=0,λ_=>aa [(2,.ptr 0 0 0 0),(3,.ptr 1 1 0 0),(4,.ptr 2 2 0 0),(5,.ptr 3 3 0 0),(6,.ptr 4 4 0 0)] [⟨31,14,0,true,false,1,λ_=>[.val (.bool lo.x.s),.val (.string lo.x.b),.val (.string lo.x.c),.val (.bool lo.y.s),.val (.string lo.y.b),.val (.string lo.y.c),.val (.bool hi.x.s),.val (.string hi.x.b),.val (.string hi.x.c),.val (.bool hi.y.s),.val (.string hi.y.b),.val (.string hi.y.c),.rs 1 k (λi=>[.rs 6 (pn c i) (pg c i)]),.rs 3 l (λi=>ag (ow o i))]⟩,⟨117,12,1,true,false,1,λ_=>[.val (.bool a.x.s),.val (.string a.x.b),.val (.string a.x.c),.val (.bool a.y.s),.val (.string a.y.b),.val (.string a.y.c),.val (.bool b.x.s),.val (.string b.x.b),.val (.string b.x.c),.val (.bool b.y.s),.val (.string b.y.b),.val (.string b.y.c)]⟩,⟨3,1,2,true,false,1,λ_=>[.val (.int .i64 0)]⟩,⟨4,1,3,true,false,1,λ_=>[.val (.bool false)]⟩,⟨38,1,4,true,false,1,λ_=>[.val (.int .i64 0)]⟩] 5 [],⟨(),[some 0,some 1,some 2,some 3,some 4],rfl,Wo ⟨qZ ⟨rq,rq,rq,rq,rq,rq,rq,rq,rq,rq,rq,rq,⟨qW,rfl⟩,⟨qW,rfl⟩,qQ⟩,qZ ⟨rq,rq,rq,rq,rq,rq,rq,rq,rq,rq,rq,rq,qQ⟩,qY,qY,qY,qQ⟩ ⟨pP,pP,pP,pP,pP,qQ⟩ trivial⟩,λi y hin hI=>?_,λy hI=>?_⟩
   ·have hI:i=0:=hI;have hin:i < (g7 lo hi k (pn (λi=>[.rs 6 (pn c i) (pg c i)])) (λi=>ae (pg (λi=>[.rs 6 (pn c i) (pg c i)]) i)) a b).length:=hin;have v1:PV.val (.int .i64 (Bi (g7 lo hi k (pn (λi=>[.rs 6 (pn c i) (pg c i)])) (λi=>ae (pg (λi=>[.rs 6 (pn c i) (pg c i)]) i)) a b) i))=PV.val (.int .i64 VI):=by rw [hL',hVI,h1,hI];rfl
    have v2:PV.val (.bool true)=PV.val (.bool VB):=by
     rw [hL'] at hin;rw [hVB,h1];cases L with
     |nil=>cases hin
     |cons=>rfl
    with_unfolding_all exact⟨rfl,⟨[some 2,some 3,some 4],aa [(4,.ptr 0 0 0 0),(5,.ptr 1 1 0 0),(6,.ptr 2 2 0 0)] [⟨3,1,0,true,false,1,λ_=>[.val (.int .i64 VI)]⟩,⟨4,1,1,true,false,1,λ_=>[.val (.bool VB)]⟩,⟨38,1,2,true,false,1,λ_=>[.val (.int .i64 (bW OK))]⟩] 3 [],Wo ⟨qZ ⟨⟨v1,rfl⟩,qQ⟩,qZ ⟨⟨v2,rfl⟩,qQ⟩,qZ ⟨⟨v3,rfl⟩,qQ⟩,qQ⟩ ⟨pP,pP,pP,qQ⟩ trivial,rfl,rfl⟩⟩
   ·have hI:(g7 lo hi k (pn (λi=>[.rs 6 (pn c i) (pg c i)])) (λi=>ae (pg (λi=>[.rs 6 (pn c i) (pg c i)]) i)) a b).length=0:=hI;rw [hL'] at hI;have hI:=List.length_eq_zero_iff.1 hI;have v1:PV.val (.int .i64 0)=PV.val (.int .i64 VI):=by rw [hVI,h1,hI];rfl
    have v2:PV.val (.bool false)=PV.val (.bool VB):=by rw [hVB,h1,hI];rfl
    with_unfolding_all exact⟨[some 2,some 3,some 4],aa [(4,.ptr 0 0 0 0),(5,.ptr 1 1 0 0),(6,.ptr 2 2 0 0)] [⟨3,1,0,true,false,1,λ_=>[.val (.int .i64 VI)]⟩,⟨4,1,1,true,false,1,λ_=>[.val (.bool VB)]⟩,⟨38,1,2,true,false,1,λ_=>[.val (.int .i64 (bW OK))]⟩] 3 [],Wo ⟨qZ ⟨⟨v1,rfl⟩,qQ⟩,qZ ⟨⟨v2,rfl⟩,qQ⟩,qZ ⟨⟨v3,rfl⟩,qQ⟩,qQ⟩ ⟨pP,pP,pP,qQ⟩ trivial,rfl,rfl⟩
 ·cases e
end Go.Proofs
namespace Go.Num
def bc (lo hi:PtS) (k:Nat) (c:Nat->List PV) (l:Nat) (o:Nat->List PV) (a b:PtS):Bool:=fO lo hi k c l o (ar a b)&&(dF lo hi k c (ar a b)).isEmpty
end Go.Num
namespace Go.Proofs
def FK:List PV->Option Ans
 |[.agg [.val (.bool s1),.val (.string b1),.val (.string c1),.val (.bool s2),.val (.string b2),.val (.string c2),.val (.bool s3),.val (.string b3),.val (.string c3),.val (.bool s4),.val (.string b4),.val (.string c4),.rs 1 k c,.rs 3 l o],.val v,.val w]=>some ⟨some (((PtS.le 10000 (PtS.mk ⟨s1,b1,c1⟩ ⟨s2,b2,c2⟩)/\PtS.le 10000 (PtS.mk ⟨s3,b3,c3⟩ ⟨s4,b4,c4⟩))/\bM 10000 k c/\cQ l o)/\isPk 10000 v/\isPk 10000 w),.val (.bool (bc (PtS.mk ⟨s1,b1,c1⟩ ⟨s2,b2,c2⟩) (PtS.mk ⟨s3,b3,c3⟩ ⟨s4,b4,c4⟩) k c l o (aO v) (aO w))),[]⟩
 |_=>none
theorem Hn:am {} Tryz.f56 1=true:=by kernel_rfl
theorem f56:FnOk Tryz.prog 56 FK:=by
 refine FnOk.ofW aj (an (l:=[(91,Gu)]) (own:=[]) (inl:=[]) (by simp [f91]) (by simp)) Tryz.func56 {} 3 Hn λargs r e=>?_;unfold FK at e;split at e
 ·rename_i s1 b1 c1 s2 b2 c2 s3 b3 c3 s4 b4 c4 k c l o v w
  cases e;refine⟨by simp,λhm=>?_⟩;obtain⟨⟨⟨hlo,hhi⟩,⟨hc,hk⟩,ho,hl⟩,⟨a,rfl,ha⟩,b,rfl,hb⟩:=hm _ rfl;obtain⟨lo,hlo'⟩:∃p,p=(PtS.mk ⟨s1,b1,c1⟩ ⟨s2,b2,c2⟩):=⟨_,rfl⟩;obtain⟨hi,hhi'⟩:∃p,p=(PtS.mk ⟨s3,b3,c3⟩ ⟨s4,b4,c4⟩):=⟨_,rfl⟩;have hc1:∀i,i < k->[.rs 6 (pn c i) (pg c i)]=c i:=λi hi=>(hc i hi).1.symm;have ho1:∀i,i < l->ag (ow o i)=o i:=λi hi=>(ho i hi).symm;refine⟨[],aa [(0,.agg [.val (.bool (PtS.mk ⟨s1,b1,c1⟩ ⟨s2,b2,c2⟩).x.s),.val (.string (PtS.mk ⟨s1,b1,c1⟩ ⟨s2,b2,c2⟩).x.b),.val (.string (PtS.mk ⟨s1,b1,c1⟩ ⟨s2,b2,c2⟩).x.c),.val (.bool (PtS.mk ⟨s1,b1,c1⟩ ⟨s2,b2,c2⟩).y.s),.val (.string (PtS.mk ⟨s1,b1,c1⟩ ⟨s2,b2,c2⟩).y.b),.val (.string (PtS.mk ⟨s1,b1,c1⟩ ⟨s2,b2,c2⟩).y.c),.val (.bool (PtS.mk ⟨s3,b3,c3⟩ ⟨s4,b4,c4⟩).x.s),.val (.string (PtS.mk ⟨s3,b3,c3⟩ ⟨s4,b4,c4⟩).x.b),.val (.string (PtS.mk ⟨s3,b3,c3⟩ ⟨s4,b4,c4⟩).x.c),.val (.bool (PtS.mk ⟨s3,b3,c3⟩ ⟨s4,b4,c4⟩).y.s),.val (.string (PtS.mk ⟨s3,b3,c3⟩ ⟨s4,b4,c4⟩).y.b),.val (.string (PtS.mk ⟨s3,b3,c3⟩ ⟨s4,b4,c4⟩).y.c),.rs 1 k (λi=>[.rs 6 (pn c i) (pg c i)]),.rs 3 l (λi=>ag (ow o i))]),(1,.val a.v),(2,.val b.v)] [] 0 [],Wo trivial ⟨⟨rfl,rfl,rfl,rfl,rfl,rfl,rfl,rfl,rfl,rfl,rfl,rfl,⟨rfl,rfl,hc1⟩,⟨rfl,rfl,ho1⟩,qQ⟩,rfl,rfl,qQ⟩ trivial,?_⟩;rw [<-hlo'] at hlo ⊢;rw [<-hhi'] at hhi ⊢;clear hlo' hhi' hm;have hlo':=hlo.mono (show 10000<=4294967296 by decide);have hhi':=hhi.mono (show 10000<=4294967296 by decide);have hrg:(lo.le 4294967296/\hi.le 4294967296)/\bM 10000 k (λi=>[.rs 6 (pn c i) (pg c i)])/\cQ l (λi=>ag (ow o i)):=⟨⟨hlo',hhi'⟩,⟨λi hi=>⟨rfl,(hc i hi).2⟩,hk⟩,λi hi=>rfl,hl⟩;obtain⟨R,hR⟩:∃R,R=bT lo hi k (pn c) (λi=>ae (pg c i)) l (ow o):=⟨_,rfl⟩;have hR':bT lo hi k (pn (λi=>[.rs 6 (pn c i) (pg c i)])) (λi=>ae (pg (λi=>[.rs 6 (pn c i) (pg c i)]) i)) l (ow (λi=>ag (ow o i)))=R:=hR.symm;clear hR' hR;obtain⟨S,hS⟩:∃S,S=bc lo hi k c l o a b:=⟨_,rfl⟩;have hv:bc lo hi k c l o (aO a.v) (aO b.v)=S:=hS.symm;rw [hv];have hrg2:((lo.le 10000/\hi.le 10000)/\bM 10000 k (λi=>[.rs 6 (pn c i) (pg c i)])/\cQ l (λi=>ag (ow o i)))/\dL 10000 (ar a b):=⟨⟨⟨hlo,hhi⟩,⟨λi hi=>⟨rfl,(hc i hi).2⟩,hk⟩,λi hi=>rfl,hl⟩,a,b,rfl,ha,hb⟩;have fv:fO lo hi k (λi=>[.rs 6 (pn c i) (pg c i)]) l (λi=>ag (ow o i)) (ar a b)=fO lo hi k c l o (ar a b):=rfl;have fw:dF lo hi k (λi=>[.rs 6 (pn c i) (pg c i)]) (ar a b)=dF lo hi k c (ar a b):=rfl;have w1:(bW (fO lo hi k (λi=>[.rs 6 (pn c i) (pg c i)]) l (λi=>ag (ow o i)) (ar a b))==0)=true->PV.val (.bool (!(fO lo hi k (λi=>[.rs 6 (pn c i) (pg c i)]) l (λi=>ag (ow o i)) (ar a b)&&!(dF lo hi k (λi=>[.rs 6 (pn c i) (pg c i)]) (ar a b)).isEmpty)))=PV.val (.bool S):=λh=>by
   have h:fO lo hi k (λi=>[.rs 6 (pn c i) (pg c i)]) l (λi=>ag (ow o i)) (ar a b)=true:=by cases h':fO lo hi k (λi=>[.rs 6 (pn c i) (pg c i)]) l (λi=>ag (ow o i)) (ar a b) with
    |true=>rfl
    |false=>rw [h'] at h;cases h
   rw [fv] at h ⊢;rw [fw,h,hS,bc,h,Bool.true_and,Bool.true_and,Bool.not_not]
  have w2:(bW (fO lo hi k (λi=>[.rs 6 (pn c i) (pg c i)]) l (λi=>ag (ow o i)) (ar a b))==0)=false->PV.val (.bool false)=PV.val (.bool S):=λh=>by
   have h:fO lo hi k (λi=>[.rs 6 (pn c i) (pg c i)]) l (λi=>ag (ow o i)) (ar a b)=false:=by cases h':fO lo hi k (λi=>[.rs 6 (pn c i) (pg c i)]) l (λi=>ag (ow o i)) (ar a b) with
    |false=>rfl
    |true=>rw [h'] at h;cases h
   rw [fv] at h;rw [hS,bc,h,Bool.false_and]
  with_unfolding_all exact⟨hrg2,λh1=>⟨[],aa [(6,.val (.bool S))] [] 0 [],Wo trivial ⟨w1 h1,qQ⟩ trivial,rfl,rfl⟩,λh1=>⟨[],aa [(6,.val (.bool S))] [] 0 [],Wo trivial ⟨w2 h1,qQ⟩ trivial,rfl,rfl⟩⟩
 ·cases e
end Go.Proofs
namespace Go.Num
def cU (S:PtS->Bool) (p:Nat->PtS):Nat->List PtS
 |0=>[]
 |j+1=>cU S p j++(bif S (p j) then [p j] else [])
def cD (S:PtS->Bool) (n:Nat->Nat) (p:Nat->Nat->PtS):Nat->List PtS
 |0=>[]
 |i+1=>cD S n p i++cU S (p i) (n i)
theorem nR {S:PtS->Bool} {p:Nat->PtS}:∀(d j:Nat),cU S p j <+: cU S p (j+d)
 |0,j=>List.prefix_refl _
 |d+1,j=>(nR d j).trans (List.prefix_append _ _)
theorem nS {S:PtS->Bool} {n:Nat->Nat} {p:Nat->Nat->PtS}:∀(d j:Nat),cD S n p j <+: cD S n p (j+d)
 |0,j=>List.prefix_refl _
 |d+1,j=>(nS d j).trans (List.prefix_append _ _)
theorem Au {S:PtS->Bool} {n:Nat->Nat} {p:Nat->Nat->PtS} {i k j:Nat} (hi:i < k) (hj:j < n i) (h:S (p i j)=true) :
  (cD S n p k)[(cD S n p i).length+(cU S (p i) j).length]? = some (p i j)/\(cD S n p i).length+(cU S (p i) j).length < (cD S n p k).length:=by
 obtain⟨t,ht⟩:=nS (S:=S) (n:=n) (p:=p) (k - (i+1)) (i+1);rw [show i+1+(k - (i+1))=k by omega] at ht;obtain⟨u,hu⟩:=nR (S:=S) (p:=p i) (n i - (j+1)) (j+1);rw [show j+1+(n i - (j+1))=n i by omega] at hu;rw [<-ht,cD,<-hu,cU,h];simp
def ab (L:List PtS) (i:Nat):PtS:=L[i]?.getD (cz [])
def au (lo hi:PtS) (k:Nat) (c:Nat->List PV) (l:Nat) (o:Nat->List PV):List PtS:=cD (λp=>bc lo hi k c l o p p) (pn c) (λi=>ae (pg c i)) k
end Go.Num
namespace Go.Proofs
def Ho:List PV->Option Ans
 |[.agg [.val (.bool s1),.val (.string b1),.val (.string c1),.val (.bool s2),.val (.string b2),.val (.string c2),.val (.bool s3),.val (.string b3),.val (.string c3),.val (.bool s4),.val (.string b4),.val (.string c4),.rs 1 k c,.rs 3 l o]]=>some ⟨some (((∀i,i < k->c i=[.rs 6 (pn c i) (pg c i)])/\∀i,i < l->o i=ag (ow o i))),.fn (.func 129) [] [.rp 14 1 (λ_=>bq (PtS.mk ⟨s1,b1,c1⟩ ⟨s2,b2,c2⟩) (PtS.mk ⟨s3,b3,c3⟩ ⟨s4,b4,c4⟩) k c l o) 0 0],[]⟩
 |_=>none
theorem Hp:am {} Tryz.f94 1=true:=by kernel_rfl
theorem f94:FnOk Tryz.prog 94 Ho:=by
 refine FnOk.ofW aj (an (l:=[]) (own:=[]) (inl:=[]) (by simp) (by simp)) Tryz.func94 {} 1 Hp λargs r e=>?_;unfold Ho at e;split at e
 ·rename_i s1 b1 c1 s2 b2 c2 s3 b3 c3 s4 b4 c4 k c l o
  cases e;refine⟨by simp,λhm=>?_⟩;obtain⟨hc,ho⟩:=hm _ rfl;have hc1:∀i,i < k->[.rs 6 (pn c i) (pg c i)]=c i:=λi hi=>(hc i hi).symm;have ho1:∀i,i < l->ag (ow o i)=o i:=λi hi=>(ho i hi).symm;refine⟨[],aa [(0,.agg [.val (.bool (PtS.mk ⟨s1,b1,c1⟩ ⟨s2,b2,c2⟩).x.s),.val (.string (PtS.mk ⟨s1,b1,c1⟩ ⟨s2,b2,c2⟩).x.b),.val (.string (PtS.mk ⟨s1,b1,c1⟩ ⟨s2,b2,c2⟩).x.c),.val (.bool (PtS.mk ⟨s1,b1,c1⟩ ⟨s2,b2,c2⟩).y.s),.val (.string (PtS.mk ⟨s1,b1,c1⟩ ⟨s2,b2,c2⟩).y.b),.val (.string (PtS.mk ⟨s1,b1,c1⟩ ⟨s2,b2,c2⟩).y.c),.val (.bool (PtS.mk ⟨s3,b3,c3⟩ ⟨s4,b4,c4⟩).x.s),.val (.string (PtS.mk ⟨s3,b3,c3⟩ ⟨s4,b4,c4⟩).x.b),.val (.string (PtS.mk ⟨s3,b3,c3⟩ ⟨s4,b4,c4⟩).x.c),.val (.bool (PtS.mk ⟨s3,b3,c3⟩ ⟨s4,b4,c4⟩).y.s),.val (.string (PtS.mk ⟨s3,b3,c3⟩ ⟨s4,b4,c4⟩).y.b),.val (.string (PtS.mk ⟨s3,b3,c3⟩ ⟨s4,b4,c4⟩).y.c),.rs 1 k (λi=>[.rs 6 (pn c i) (pg c i)]),.rs 3 l (λi=>ag (ow o i))])] [] 0 [],Wo trivial ⟨⟨rfl,rfl,rfl,rfl,rfl,rfl,rfl,rfl,rfl,rfl,rfl,rfl,⟨rfl,rfl,hc1⟩,⟨rfl,rfl,ho1⟩,qQ⟩,qQ⟩ trivial,?_⟩;with_unfolding_all exact⟨[some 0],aa [(2,.fn (.func 129) [] [.ptr 0 0 0 0])] [⟨31,14,0,true,false,1,λ_=>bq (PtS.mk ⟨s1,b1,c1⟩ ⟨s2,b2,c2⟩) (PtS.mk ⟨s3,b3,c3⟩ ⟨s4,b4,c4⟩) k c l o⟩] 1 [],Wo ⟨qZ ⟨rq,rq,rq,rq,rq,rq,rq,rq,rq,rq,rq,rq,⟨qW,rfl⟩,⟨qW,rfl⟩,qQ⟩,qQ⟩ ⟨⟨rfl,trivial,pP,qQ⟩,qQ⟩ trivial,rfl,rfl⟩
 ·cases e
def CT:List PV->Option gJ
 |[.rp 14 1 h 0 0]=>some ⟨some (At h/\((bO (h 0)).le 10000/\(bP (h 0)).le 10000)/\bM 10000 (gK (h 0)) (gC (h 0))/\cQ (gL (h 0)) (gO (h 0))),(au (bO (h 0)) (bP (h 0)) (gK (h 0)) (gC (h 0)) (gL (h 0)) (gO (h 0))).length,λi=>[.val (ab (au (bO (h 0)) (bP (h 0)) (gK (h 0)) (gC (h 0)) (gL (h 0)) (gO (h 0))) i).v]⟩
 |_=>none
def D129:Opt:={ }
theorem FL:am D129.toOrd Tryz.f129 2=true:=by kernel_rfl
theorem f129:SeqFn Tryz.prog 129 CT:=by
 refine SeqFn.of aj (an (l:=[(56,FK)]) (own:=[]) (inl:=[]) (by simp [f56]) (by simp)) Tryz.func129 D129 2 FL rfl λargs r e=>?_;unfold CT at e;split at e
 ·rename_i h
  cases e;refine⟨by simp,λhm L0=>?_⟩;obtain⟨h1,⟨hlo,hhi⟩,⟨hc,hk⟩,ho,hl⟩:=hm _ rfl;unfold At at h1;generalize bO (h 0)=lo at *
  generalize bP (h 0)=hi at *
  generalize gK (h 0)=k at *
  generalize gC (h 0)=c at *
  generalize gL (h 0)=l at *
  generalize gO (h 0)=o at *
  subst h1;clear hm;with_unfolding_all refine⟨Nat,λi=>i<=k,λi=>aa [(0,.val (.func (.yield L0) ⟨[]⟩ ⟨[]⟩)),(1,.rp 14 1 (λ_=>bq lo hi k c l o) 0 0),(8,.rs 1 k (λi=>[.rs 6 (pn c i) (pg c i)])),(9,.val (goInt k)),(10,.val (goInt i))] [] 0 [[(0,.val (.int .i64 (((cD (λp=>bc lo hi k c l o p p) (pn c) (λi=>ae (pg c i)) i).length:Nat):Int))),(1,.val (.bool false))]],λi=>k - i,⟨0,[],Nat.zero_le _,Wo trivial ⟨rfl,⟨rfl,rfl,rfl,rfl,λ_ _=>rfl⟩,qW,rfl,rfl,qQ⟩ ⟨⟨rfl,rfl,qQ⟩,qQ⟩⟩,λi hik=>?_⟩
  have bN:decide ((i:Int) < (k:Int))=true->i < k:=λh=>Int.ofNat_lt.1 (of_decide_eq_true h);have dC:decide ((i:Int) < (k:Int))=false->i=k:=λh=>Nat.le_antisymm hik (Nat.le_of_not_lt λh'=>of_decide_eq_false h (Int.ofNat_lt.2 h'));with_unfolding_all refine⟨λh0=>⟨⟨Int.natCast_nonneg i,Int.ofNat_lt.2 (bN h0)⟩,Nat,λj=>j<=pn c i,λj=>aa [(0,.val (.func (.yield L0) ⟨[]⟩ ⟨[]⟩)),(1,.rp 14 1 (λ_=>bq lo hi k c l o) 0 0),(8,.rs 1 k (λi=>[.rs 6 (pn c i) (pg c i)])),(9,.val (goInt k)),(10,.val (goInt i)),(14,.rs 6 (pn c i) (λj=>(ae (pg c i) j).cells)),(15,.val (goInt (pn c i))),(16,.val (goInt j))] [] 0 [[(0,.val (.int .i64 (((cD (λp=>bc lo hi k c l o p p) (pn c) (λi=>ae (pg c i)) i).length+(cU (λp=>bc lo hi k c l o p p) (ae (pg c i)) j).length:Nat):Int))),(1,.val (.bool false))]],λj=>pn c i - j,⟨0,[],Nat.zero_le _,Wo trivial ⟨rfl,⟨rfl,rfl,rfl,rfl,λ_ _=>rfl⟩,qW,rfl,rfl,⟨rfl,rfl,λj hj=>((hc i (bN h0)).2.1 j hj).1.symm⟩,rfl,rfl,qQ⟩ ⟨⟨rfl,rfl,qQ⟩,qQ⟩⟩,λj hj=>?_⟩,λh0=>?_⟩
  ·have hik:=bN h0;have jT:decide ((j:Int) < (pn c i:Int))=true->j < pn c i:=λh=>Int.ofNat_lt.1 (of_decide_eq_true h);have jF:decide ((j:Int) < (pn c i:Int))=false->j=pn c i:=λh=>Nat.le_antisymm hj (Nat.le_of_not_lt λh'=>of_decide_eq_false h (Int.ofNat_lt.2 h'));have hn:=(hc i hik).2.2;have wj:decide ((j:Int) < (pn c i:Int))=true->PV.val (.int .i64 (IntKind.i64.wrap ((j:Int)+1)))=.val (goInt (j+1:Nat)):=λh=>by
    have:=jT h;rw [wrap64 (by omega) (by omega)];rfl
   have wi:PV.val (.int .i64 (IntKind.i64.wrap ((i:Int)+1)))=.val (goInt (i+1:Nat)):=by
    rw [wrap64 (by omega) (by omega)];rfl
   have pr:decide ((j:Int) < (pn c i:Int))=true->(((lo.le 10000/\hi.le 10000)/\bM 10000 k (λi=>[.rs 6 (pn c i) (pg c i)])/\cQ l (λi=>ag (ow o i)))/\isPk 10000 (ae (pg c i) ((j:Nat):Int).toNat).v/\isPk 10000 (ae (pg c i) ((j:Nat):Int).toNat).v):=λh=>by
    have hp:=((hc i hik).2.1 j (jT h)).2;exact⟨⟨⟨hlo,hhi⟩,⟨λi hi=>⟨rfl,(hc i hi).2⟩,hk⟩,λi hi=>rfl,hl⟩,⟨_,rfl,hp⟩,_,rfl,hp⟩
   have yl:j < pn c i->bc lo hi k c l o (ae (pg c i) j) (ae (pg c i) j)=true->(cD (λp=>bc lo hi k c l o p p) (pn c) (λi=>ae (pg c i)) i).length+(cU (λp=>bc lo hi k c l o p p) (ae (pg c i)) j).length < (au lo hi k c l o).length/\[PV.val (ae (pg c i) ((j:Nat):Int).toNat).v]=[PV.val (ab (au lo hi k c l o) ((cD (λp=>bc lo hi k c l o p p) (pn c) (λi=>ae (pg c i)) i).length+(cU (λp=>bc lo hi k c l o p p) (ae (pg c i)) j).length)).v]/\(cD (λp=>bc lo hi k c l o p p) (pn c) (λi=>ae (pg c i)) i).length+(cU (λp=>bc lo hi k c l o p p) (ae (pg c i)) j).length+1=(cD (λp=>bc lo hi k c l o p p) (pn c) (λi=>ae (pg c i)) i).length+(cU (λp=>bc lo hi k c l o p p) (ae (pg c i)) (j+1)).length:=λh h'=>by
    have g:=Au (S:=(λp=>bc lo hi k c l o p p)) (n:=pn c) (p:=λi=>ae (pg c i)) hik h h';refine⟨g.2,?_,?_⟩
    ·unfold ab au;rw [g.1];rfl
    ·rw [cU];simp only [h',cond_true,List.length_append,List.length_singleton];rfl
   have sk:bc lo hi k c l o (ae (pg c i) j) (ae (pg c i) j)=false->(cD (λp=>bc lo hi k c l o p p) (pn c) (λi=>ae (pg c i)) i).length+(cU (λp=>bc lo hi k c l o p p) (ae (pg c i)) j).length=(cD (λp=>bc lo hi k c l o p p) (pn c) (λi=>ae (pg c i)) i).length+(cU (λp=>bc lo hi k c l o p p) (ae (pg c i)) (j+1)).length:=λh'=>by
    rw [cU];simp only [h',cond_false,List.append_nil]
   have fin:decide ((j:Int) < (pn c i:Int))=false->(cD (λp=>bc lo hi k c l o p p) (pn c) (λi=>ae (pg c i)) i).length+(cU (λp=>bc lo hi k c l o p p) (ae (pg c i)) j).length=(cD (λp=>bc lo hi k c l o p p) (pn c) (λi=>ae (pg c i)) (i+1)).length:=λh=>by
    rw [jF h,cD,List.length_append]
   with_unfolding_all refine⟨λh1=>⟨⟨Int.natCast_nonneg j,Int.ofNat_lt.2 (jT h1)⟩,pr h1,λh2=>⟨rfl,(cD (λp=>bc lo hi k c l o p p) (pn c) (λi=>ae (pg c i)) i).length+(cU (λp=>bc lo hi k c l o p p) (ae (pg c i)) j).length,rfl,(yl (jT h1) h2).1,(yl (jT h1) h2).2.1,⟨λ_=>⟨λe=>(nomatch e),λ_=>⟨j+1,[],jT h1,by have:=jT h1;show pn c i - (j+1) < pn c i - j;omega,Wo trivial ⟨rfl,⟨rfl,rfl,rfl,rfl,λ_ _=>rfl⟩,qW,rfl,rfl,qW,rfl,wj h1,qQ⟩ ⟨⟨congrArg (λz:Nat=>PV.val (.int .i64 (z:Int))) (yl (jT h1) h2).2.2,rfl,qQ⟩,qQ⟩⟩⟩,λe=>(nomatch e)⟩,⟨λ_=>⟨λ_=>trivial,λe=>(nomatch e)⟩,λe=>(nomatch e)⟩⟩,λh2=>⟨λe=>(nomatch e),λ_=>⟨j+1,[],jT h1,by have:=jT h1;show pn c i - (j+1) < pn c i - j;omega,Wo trivial ⟨rfl,⟨rfl,rfl,rfl,rfl,λ_ _=>rfl⟩,qW,rfl,rfl,qW,rfl,wj h1,qQ⟩ ⟨⟨congrArg (λz:Nat=>PV.val (.int .i64 (z:Int))) (sk h2),rfl,qQ⟩,qQ⟩⟩⟩⟩,λh1=>⟨i+1,[],hik,by show k - (i+1) < k - i;omega,Wo trivial ⟨rfl,⟨rfl,rfl,rfl,rfl,λ_ _=>rfl⟩,qW,rfl,wi,qQ⟩ ⟨⟨congrArg (λz:Nat=>PV.val (.int .i64 (z:Int))) (fin h1),rfl,qQ⟩,qQ⟩⟩⟩
  ·rw [dC h0];rfl
 ·cases e
theorem uR {V r:Nat->List PV} {y:Nat} (h:r 0=V y):∀i,i < y+1->V i=gM y V r i:=λi hi=>by
 unfold gM;by_cases hy:i < y
 ·rw [if_pos hy]
 ·obtain rfl:i=y:=by omega
  rw [if_neg hy,Nat.sub_self,h]
def CU:List PV->Option Ans
 |[.val (.slice none 0 0),.fn (.func 129) [] [.rp 14 1 h 0 0]]=>some ⟨some ((At h/\((bO (h 0)).le 10000/\(bP (h 0)).le 10000)/\bM 10000 (gK (h 0)) (gC (h 0))/\cQ (gL (h 0)) (gO (h 0)))/\(au (bO (h 0)) (bP (h 0)) (gK (h 0)) (gC (h 0)) (gL (h 0)) (gO (h 0))).length<=1000),.sl 0 0 0 (au (bO (h 0)) (bP (h 0)) (gK (h 0)) (gC (h 0)) (gL (h 0)) (gO (h 0))).length,[⟨25,6,0,false,false,(au (bO (h 0)) (bP (h 0)) (gK (h 0)) (gC (h 0)) (gL (h 0)) (gO (h 0))).length,λi=>(ab (au (bO (h 0)) (bP (h 0)) (gK (h 0)) (gC (h 0)) (gL (h 0)) (gO (h 0))) i).cells⟩]⟩
 |_=>none
def D175:Opt:={ }
theorem FM:am D175.toOrd Tryz.f175 2=true:=by kernel_rfl
theorem f175:FnOk Tryz.prog 175 CU:=by
 refine FnOk.ofW aj (oN (l:=[]) (own:=[]) (inl:=[]) (sq:=[(129,CT)]) (by simp) (by simp) (by simp [f129])) Tryz.func175 D175 2 FM λargs r e=>?_;unfold CU at e;split at e
 ·rename_i h
  cases e;refine⟨by simp,λhm=>?_⟩;obtain⟨hp,hn⟩:=hm _ rfl;refine⟨[],aa [(0,.val (.slice none 0 0)),(1,.fn (.func 129) [] [.rp 14 1 h 0 0])] [] 0 [],Wo trivial ⟨rfl,⟨rfl,trivial,⟨rfl,rfl,rfl,rfl,λ_ _=>rfl⟩,qQ⟩,qQ⟩ trivial,?_⟩;have hP:At h/\((bO (h 0)).le 10000/\(bP (h 0)).le 10000)/\bM 10000 (gK (h 0)) (gC (h 0))/\cQ (gL (h 0)) (gO (h 0)):=hp;with_unfolding_all refine⟨hP,Nat,λi y=>y=i,λy=>aa [(2,.ptr 0 0 0 0)] [⟨34,1,0,true,false,1,λ_=>[.sl 1 1 0 y]⟩,⟨25,6,1,false,false,y,λi=>(ab (au (bO (h 0)) (bP (h 0)) (gK (h 0)) (gC (h 0)) (gL (h 0)) (gO (h 0))) i).cells⟩] 2 [],⟨0,[some 0,none],rfl,Wo ⟨qZ ⟨⟨⟨rfl,rfl,rfl,rfl,aN rfl⟩,rfl⟩,qQ⟩,⟨aN rfl,rfl,rfl,rfl⟩,qQ⟩ ⟨pP,qQ⟩ trivial⟩,λi y hi hI=>?_,λy hI=>?_⟩
  ·have hy:y < 1000:=Nat.lt_of_lt_of_le (show y < (au (bO (h 0)) (bP (h 0)) (gK (h 0)) (gC (h 0)) (gL (h 0)) (gO (h 0))).length from hI▸hi) hn;have hI:y=i:=hI;subst hI;have k1:(y+1)*80<=140737488355328:=by omega
   with_unfolding_all refine⟨rfl,⟨rfl,?_,?_⟩,y+1,[some 0,some 1],rfl,Wo ⟨qZ ⟨⟨pP,rfl⟩,qQ⟩,qZ (?_),qQ⟩ ⟨pP,qQ⟩ trivial⟩
   ·with_unfolding_all exact k1
   ·with_unfolding_all exact(show y+1<=9223372036854775807 by omega)
   ·with_unfolding_all exact uR (V:=λi=>(ab (au (bO (h 0)) (bP (h 0)) (gK (h 0)) (gC (h 0)) (gL (h 0)) (gO (h 0))) i).cells) rfl
  ·have hI:y=(au (bO (h 0)) (bP (h 0)) (gK (h 0)) (gC (h 0)) (gL (h 0)) (gO (h 0))).length:=hI;subst hI;with_unfolding_all exact⟨[some 1],aa [(4,.sl 0 0 0 (au (bO (h 0)) (bP (h 0)) (gK (h 0)) (gC (h 0)) (gL (h 0)) (gO (h 0))).length)] [⟨25,6,0,false,false,(au (bO (h 0)) (bP (h 0)) (gK (h 0)) (gC (h 0)) (gL (h 0)) (gO (h 0))).length,λi=>(ab (au (bO (h 0)) (bP (h 0)) (gK (h 0)) (gC (h 0)) (gL (h 0)) (gO (h 0))) i).cells⟩] 1 [],Wo ⟨qZ (λ_ _=>rfl),qQ⟩ ⟨pP,qQ⟩ trivial,rfl,rfl⟩
 ·cases e
def CV:List PV->Option Ans
 |[.fn (.func 129) [] [.rp 14 1 h 0 0]]=>some ⟨some ((At h/\((bO (h 0)).le 10000/\(bP (h 0)).le 10000)/\bM 10000 (gK (h 0)) (gC (h 0))/\cQ (gL (h 0)) (gO (h 0)))/\(au (bO (h 0)) (bP (h 0)) (gK (h 0)) (gC (h 0)) (gL (h 0)) (gO (h 0))).length<=1000),.sl 0 0 0 (au (bO (h 0)) (bP (h 0)) (gK (h 0)) (gC (h 0)) (gL (h 0)) (gO (h 0))).length,[⟨25,6,0,false,false,(au (bO (h 0)) (bP (h 0)) (gK (h 0)) (gC (h 0)) (gL (h 0)) (gO (h 0))).length,λi=>(ab (au (bO (h 0)) (bP (h 0)) (gK (h 0)) (gC (h 0)) (gL (h 0)) (gO (h 0))) i).cells⟩]⟩
 |_=>none
theorem FN:am {} Tryz.f127 1=true:=by kernel_rfl
theorem f127:FnOk Tryz.prog 127 CV:=by
 refine FnOk.ofW aj (an (l:=[(175,CU)]) (own:=[175]) (inl:=[]) (by simp [f175]) (by simp)) Tryz.func127 {} 1 FN λargs r e=>?_;unfold CV at e;split at e
 ·rename_i h
  cases e;refine⟨by simp,λhm=>?_⟩;have hp:=hm _ rfl;refine⟨[],aa [(0,.fn (.func 129) [] [.rp 14 1 h 0 0])] [] 0 [],Wo trivial ⟨⟨rfl,trivial,⟨rfl,rfl,rfl,rfl,λ_ _=>rfl⟩,qQ⟩,qQ⟩ trivial,?_⟩;with_unfolding_all refine⟨hp,?_⟩
  with_unfolding_all exact⟨[some 0],aa [(2,.sl 0 0 0 (au (bO (h 0)) (bP (h 0)) (gK (h 0)) (gC (h 0)) (gL (h 0)) (gO (h 0))).length)] [⟨25,6,0,false,false,(au (bO (h 0)) (bP (h 0)) (gK (h 0)) (gC (h 0)) (gL (h 0)) (gO (h 0))).length,λi=>(ab (au (bO (h 0)) (bP (h 0)) (gK (h 0)) (gC (h 0)) (gL (h 0)) (gO (h 0))) i).cells⟩] 1 [],Wo ⟨qZ (λ_ _=>rfl),qQ⟩ ⟨pP,qQ⟩ trivial,rfl,rfl⟩
 ·cases e
end Go.Proofs
namespace Go.Ex
def IL {α : Type} (n:Nat):Result α->Prop
 |.ok _ w=>n<=w.drawn
 |.halt _ w=>n<=w.drawn
theorem tM {α : Type}:∀(m:Ask α) (w:World),w.drawn<=(w.ask m).2.drawn
 |.done a,w=>Nat.le_refl _
 |.ask what range k,w=>by
  simp only [World.ask];split
  ·exact tM (k 0) w
  ·exact Nat.le_trans (Nat.le_succ _) (tM _ { w with drawn:=w.drawn+1 })
theorem CW (w:World) (c:Sys):w.drawn<=(w.sys c).2.drawn:=by
 have h:=tM (Kernel.perform c w.os) w;unfold World.sys;split
 ·exact Nat.le_refl _
 ·rename_i e;rw [e] at h;exact h
theorem pB {p:Program} {w:World} {at_:Addr} {u:TypeId} {a:Addr} {v:Value} {b:Bool} {w':World} {l:List Addr} (h:w.viewStore p at_ u a v b=.ok (w',l)):w'.drawn=w.drawn:=by
 unfold World.viewStore at h;simp only [bind,Except.bind,pure,Except.pure] at h
 repeat' split at h
 all_goals first|(cases h;rfl)|(cases h;done)|(simp only [throw,throwThe,MonadExceptOf.throw] at h;cases h;done)
theorem rO {p:Program} {w:World} {a:Addr} {v:Value} {b:Bool} {w':World} {l:List Addr} (h:w.farStore p a v b=.ok (w',l)):w'.drawn=w.drawn:=by
 unfold World.farStore at h;split at h
 ·split at h
  ·rename_i e;cases h;exact pB e
  ·cases h
 ·cases h
theorem pC {α : Type} (p:Program):∀(m:Sem α) (w:World) (n:Nat),n<=w.drawn->IL n (m.run p w):=by
 intro m
 induction m with
 |pure a=>intro w n h;exact h
 |load m a k ih =>
  intro w n h;simp only [Sem.run]
  repeat' split
  all_goals first|exact ih _ _ _ h|exact h
 |store m a v k ih =>
  intro w n h;cases v<;>simp only [Sem.run]<;>repeat' split
  all_goals first|exact ih _ _ h|exact h|(rename_i e;exact ih _ _ (by rw [rO e];exact h))
 |new o k ih=>intro w n h;simp only [Sem.run];exact ih _ _ _ h
 |shape r k ih=>intro w n h;simp only [Sem.run];exact ih _ _ _ h
 |freeze a m k ih=>intro w n h;simp only [Sem.run];exact ih _ _ (by unfold World.freeze;split<;>exact h)
 |frozen a k ih=>intro w n h;simp only [Sem.run];exact ih _ _ _ h
 |getObj r k ih =>
  intro w n h;simp only [Sem.run]
  repeat' split
  all_goals first|exact ih _ _ _ h|exact h
 |setObj r o k ih =>
  intro w n h;simp only [Sem.run]
  repeat' split
  all_goals first|exact ih _ _ h|exact h
 |choose q k ih =>
  intro w n h;simp only [Sem.run];split
  ·exact ih _ _ _ h
  ·exact ih _ _ _ (Nat.le_trans h (Nat.le_succ _))
 |sys c k ih=>intro w n h;simp only [Sem.run];exact ih _ _ _ (Nat.le_trans h (CW w c))
 |program k ih=>intro w n h;simp only [Sem.run];exact ih _ _ _ h
 |mark _ k ih=>intro w n h;simp only [Sem.run];exact ih _ _ h
 |halt _=>intro w n h;exact h
theorem bI {α : Type} {p:Program} {m:Sem α} {w w':World} {a : α} (h:m.run p w=.ok a w') {n:Nat} (hn:n<=w.drawn):n<=w'.drawn:=by
 have:=pC p m w n hn;rw [h] at this;exact this
theorem g9 {α : Type} {p:Program} {m:Sem α} {w w':World} {a:Halt} (h:m.run p w=.halt a w') {n:Nat} (hn:n<=w.drawn):n<=w'.drawn:=by
 have:=pC p m w n hn;rw [h] at this;exact this
def UpG (n:Nat):GStep->Prop
 |.go _ w _=>n<=w.drawn
 |.comm _ _ _ _ w _=>n<=w.drawn
 |.spawn _ _ w _=>n<=w.drawn
 |.count _ w _=>n<=w.drawn
 |.timer _ _ w _=>n<=w.drawn
 |.alone _ _ w _=>n<=w.drawn
 |.newcoro _ _ _ w _=>n<=w.drawn
 |.coroswitch _ _ _ w _=>n<=w.drawn
 |.collect _ w _=>n<=w.drawn
 |.watch _ w _=>n<=w.drawn
 |.ended _ _ _=>True
theorem UpG.after {n:Nat} {es:Array Event} {s:GStep} (h:UpG n s):UpG n (GStep.after es s):=by
 cases s<;>exact h
def FO (n:Nat):Stepped->Prop
 |.next m=>n<=m.world.drawn
 |.ended _ _=>True
theorem tN {n:Nat} {w:World} {fd:Nat} {t:ByteArray} {o:Outcome}:UpG n (endWith w fd t o):=by
 unfold endWith
 repeat' split
 all_goals trivial
theorem yq {n:Nat} {fr:Frame} {a:List ByteArray} {m:String} {b:Bool} {w:World} (h:n<=w.drawn):UpG n (dieOf fr a m b w):=h
theorem fF {n:Nat} {fr:Frame} {m:String} {w:World} (h:n<=w.drawn):UpG n (endThrow fr m w):=h
theorem hO {n:Nat} {p:Program} {fr:Frame} {v:Value} {w:World} (h:n<=w.drawn):UpG n (endPrinting p fr v w):=by
 unfold endPrinting;dsimp only;split
 ·exact fF h
 ·trivial
theorem kV {n:Nat} {p:Program} {fr:Frame} {cs:List Frame} {d:Option Dying} {m:String} {w:World} (h:n<=w.drawn):UpG n (endFatal p fr cs d m w):=by
 unfold endFatal;dsimp only;split
 ·rename_i e;exact yq (bI e h)
 ·trivial
 ·trivial
theorem tO {n:Nat} {p:Program} {fr:Frame} {d:Dying} {f:Fatal} {w:World} (h:n<=w.drawn):UpG n (writeOn p fr d f w):=by
 unfold writeOn;dsimp only;simp only [Sem.runT_eq];split
 ·trivial
 ·split
  ·rename_i e;exact bI (congrArg Prod.fst e) h
  ·rename_i e;exact g9 (congrArg Prod.fst e) h
  ·trivial
  ·trivial
theorem CX {n:Nat} {p:Program} {fr:Frame} {d:Dying} {w:World} (h:n<=w.drawn):UpG n (die p fr d w):=by
 unfold die;simp only [Sem.runT_eq];split
 ·exact tO h
 ·split
  ·split
   ·exact h
   ·exact tN
  ·split
   ·exact h
   ·split
    ·rename_i e;exact bI e h
    ·trivial
   ·refine UpG.after ?_;split
    ·rename_i e;exact bI e h
    ·rename_i e;exact bI e h
    ·trivial
    ·rename_i e;exact hO (g9 e h)
    ·trivial
   ·trivial
theorem fG {n:Nat} {p:Program} {b:Bool} {fr:Frame} {cs:List Frame} {d:Option Dying} {v:Value} {w:World} (h:n<=w.drawn):UpG n (doReturn p b fr cs d v w):=by
 unfold doReturn
 repeat' split
 all_goals first|exact h|trivial
theorem lf {n:Nat} {p:Program} {fr:Frame} {cs:List Frame} {o:Option Dying} {d:Deferred} {w:World} (h:n<=w.drawn):UpG n (callDeferred p fr cs o d w):=by
 have hr:=pC p (invoke d.target d.args) w n h;unfold callDeferred;simp only [Sem.runT_eq];generalize (invoke d.target d.args).run p w=r at hr;refine iteInduction (motive:=UpG n) (λ_=>trivial) λ_=>?_;refine UpG.after ?_;split
 all_goals first
  |trivial
  |exact hr
  |exact kV hr
  |exact fF hr
  |(split<;>exact hr)
theorem wJ {n:Nat} {p:Program} {b:Bool} {fr:Frame} {cs:List Frame} {d:Option Dying} {w:World} (h:n<=w.drawn):UpG n (unwind p b fr cs d w):=by
 unfold unwind;simp only [Sem.runT_eq]
 repeat' (first|refine UpG.after ?_|split)
 all_goals first
  |trivial
  |exact h
  |exact lf h
  |exact hO h
  |exact fG h
  |(rename_i e;first|exact bI e h|exact g9 e h|exact fG (bI e h))
  |skip
theorem yr {n:Nat} {p:Program} {fr:Frame} {cs:List Frame} {d:Option Dying} {g:Nat} {w:World} (h:n<=w.drawn):UpG n (early p fr cs d g w):=by
 unfold early;dsimp only
 repeat' split
 all_goals first
  |trivial
  |exact h
  |(rename_i e _ _ _ _;exact bI e h)
  |(rename_i e _ _ _;exact bI e h)
  |(rename_i e _ _;exact bI e h)
  |(rename_i e _;exact bI e h)
  |(rename_i e;exact bI e h)
  |skip
theorem fm {n:Nat} {p:Program} {l:Bool} {fr:Frame} {cs:List Frame} {d:Option Dying} {s:Sem Next} {w:World} (h:n<=w.drawn):UpG n (stepG.apply p l fr cs d s w):=by
 have hr:=pC p s w n h;unfold stepG.apply;dsimp only;have e1:(if l=true then s.runT p w #[] else(s.run p w,#[])).1=s.run p w:=by cases l<;>simp
 rw [e1];refine UpG.after ?_;generalize s.run p w=r at hr;split
 all_goals first
  |exact hr
  |trivial
  |exact kV hr
  |exact fF hr
  |exact yr hr
  |(split<;>first|exact hr|(split<;>exact hr))
  |(split;exact fF hr;exact hr)
  |skip
theorem uS {n:Nat} {p:Program} {l:Bool} {fr:Frame} {cs:List Frame} {d:Option Dying} {w:World} (h:n<=w.drawn):UpG n (stepG.oper p l fr cs d w):=by
 unfold stepG.oper
 repeat' split
 all_goals first|trivial|exact fm h
theorem iB {α : Type} {n:Nat} {o:Option α} {a:GStep} {f : α->GStep} (h1:UpG n a) (h2:∀k,UpG n (f k)):UpG n (o.elim a f):=by
 cases o
 ·exact h1
 ·exact h2 _
theorem Av {n:Nat} {p:Program} {b l:Bool} {fr:Frame} {cs:List Frame} {d:Option Dying} {w:World} (h:n<=w.drawn):UpG n (stepG.exec p b l fr cs d w):=by
 unfold stepG.exec;dsimp only;simp only [Sem.runT_eq]
 repeat' (first|exact fm h|exact uS h|(rename_i e;exact fm (bI e h))|exact iB trivial λ_=>fm h|refine UpG.after ?_|split)
 all_goals first
  |trivial
  |exact h
  |exact fm h
  |exact uS h
  |(rename_i e;first|exact bI e h|exact g9 e h|exact fG (bI e h)|exact fm (bI e h)|exact iB (UpG.after (fG (bI e h))) λ_=>h|exact iB (UpG.after trivial) λ_=>h)
  |exact iB trivial λ_=>fm h
  |exact iB trivial λ_=>h
  |exact iB h λ_=>h
  |skip
theorem yt {n:Nat} {p:Program} {b l:Bool} {g:Goroutine} {w:World} (h:n<=w.drawn):UpG n (stepG p b g w l):=by
 unfold stepG;dsimp only;split
 ·exact CX h
 ·exact Av h
 ·exact wJ h
theorem pD {rest:Rest} {cs:Array CommCase} {w w':World} (h:waitingAt rest cs w=some w'):w'.drawn=w.drawn:=by
 unfold waitingAt at h;split at h
 ·split at h
  ·cases h;rfl
  ·cases h
 ·cases h;rfl
theorem mC {n:Nat} {p:Program} {rest:Rest} {gs:Array Goroutine} {i:Nat} {g:Goroutine} {cs:Array CommCase} {b:Bool} {sh:CommShape} {w:World} (h:n<=w.drawn):FO n (communicate p rest gs i g cs b sh w).1:=by
 unfold communicate;dsimp only;split
 ·trivial
 ·split
  ·split
   ·split
    ·rename_i e;show n<=_;rw [pD e];exact h
    ·trivial
   ·exact h
  ·split
   ·trivial
   ·rename_i e
    have h2:=bI e h;split
    ·split
     ·rename_i e3;exact g9 e3 h2
     ·trivial
    ·exact h2
    ·exact h2
    ·split
     ·exact h2
     ·split
      ·rename_i e3;exact bI e3 h2
      ·trivial
    ·exact h2
    ·exact h2
    ·trivial
theorem uT {n:Nat} {p:Program} {gs:Array Goroutine} {rest:Rest} {w:World} (h:n<=w.drawn):FO n (look p gs rest w):=by
 unfold look;dsimp only;split
 ·split
  ·trivial
  ·split
   ·trivial
   ·split
    ·rename_i e;exact bI e h
    ·trivial
    ·trivial
 ·trivial
theorem yu (w:World) (c:Nat):(drain w c).2.drawn=w.drawn:=by
 unfold drain;split<;>rfl
theorem nU (m:Machine) (k:Nat) (t:Timer) (a b:Nat):(retime m k t a b).2.world.drawn=m.world.drawn:=by
 unfold retime;dsimp only;cases t.chan
 ·rfl
 ·exact yu _ _
theorem tP {m m':Machine} {op:TimerOp} {v:Value} (h:timerOp m op=.ok (v,m')):m'.world.drawn=m.world.drawn:=by
 have nm:∀(m:Machine) (var:Addr) (f:Nat->Timer->Value×Machine),(∀k t,(f k t).2.world.drawn=m.world.drawn)->timerOp.named m var f=.ok (v,m')->m'.world.drawn=m.world.drawn:=by
  intro m var f hf h;unfold timerOp.named at h;split at h
  ·injection h with h;rw [<-hf _ _,h]
  ·cases h
 unfold timerOp at h;split at h
 ·split at h
  ·injection h with h;injection h with _ h;subst h;rfl
  ·split at h
   ·split at h
    ·cases h
    ·injection h with h;injection h with _ h;subst h;rfl
   ·cases h
 ·exact nm _ _ _ (λk t=>nU _ _ _ _ _) h
 ·split at h
  ·rename_i e
   have:∀var m2,timerOp.opened m var=some m2->m2.world.drawn=m.world.drawn:=by
    intro var m2 e;unfold timerOp.opened at e;split at e
    ·split at e
     ·cases e;rfl
     ·cases e
    ·cases e;rfl
   exact nm _ _ _ (λk t=>by rw [nU];exact this _ _ e) h
  ·cases h
 ·injection h with h;injection h with _ h;subst h;rfl
theorem Aw {p:Program} {m:Machine} {i:Nat} {l:Bool}:FO m.world.drawn (runT p m i l).1:=by
 unfold runT;dsimp only;have hG:=yt (p:=p) (b:=i==0) (l:=l) (g:=(m.gs.swapAt! i { (default:Goroutine) with status:=.finished }).1) (w:=m.world) (Nat.le_refl _);revert hG;generalize stepG p (i==0) (m.gs.swapAt! i { (default:Goroutine) with status:=.finished }).1 m.world l=s;intro hG;split
 ·trivial
 ·exact mC hG
 ·exact hG
 ·exact hG
 ·split
  ·trivial
  ·exact hG
 ·exact hG
 ·exact uT hG
 ·exact hG
 ·exact hG
 ·split
  ·exact hG
  ·exact hG
  ·trivial
 ·split
  ·rename_i e;show _<=_;exact Nat.le_trans hG (Nat.le_of_eq (tP e).symm)
  ·exact hG
  ·trivial
  ·trivial
def Hq (n:Nat):Move->Prop
 |.goroutine m _=>n<=m.world.drawn
 |.machine s _=>FO n s
theorem yv {n:Nat} {p:Program} {m:Machine} {k:Nat} (h:n<=m.world.drawn):FO n (serve p m k):=by
 unfold serve;dsimp only;split
 ·trivial
 ·exact h
 ·split
  ·trivial
  ·exact h
theorem mD {n:Nat} {p:Program} {m:Machine} (h:n<=m.world.drawn):Hq n (askOn p m):=by
 unfold askOn;dsimp only;split
 ·trivial
 ·rename_i w0 e
  have h2:=bI e h;split
  ·exact yv h2
  ·split
   ·split
    ·exact h2
    ·split
     ·exact h2
     ·split<;>trivial
   ·split
    ·split
     ·trivial
     ·rename_i e3
      have h3:=bI e3 h2;split
      ·exact h3
      ·split
       ·trivial
       ·rename_i e4;exact bI e4 h3
    ·split
     ·trivial
     ·rename_i w1 e2
      split
      ·trivial
      ·rename_i e3
       have h3:=bI e3 (bI e2 h2);split
       ·exact h3
       ·split
        ·trivial
        ·rename_i e4;exact bI e4 h3
     ·rename_i e2;exact bI e2 h2
     ·rename_i k w1 e2
      split
      ·trivial
      ·rename_i e3
       have h3:=bI e3 (n:=n) (w:=(Machine.advanceTo { m with world:=w1 } _).world) (bI e2 h2);split
       ·exact h3
       ·split
        ·trivial
        ·rename_i e4;exact bI e4 h3
theorem uU {n:Nat} {p:Program} {m:Machine} (h:n<=m.world.drawn):Hq n (ask p m):=by
 unfold Go.ask;split
 ·split
  ·trivial
  ·rename_i e
   have hl:=uT (p:=p) (gs:=m.gs) (rest:=m.rest) (bI e h);split
   ·rename_i e2;rw [e2] at hl;exact mD hl
   ·exact hl
  ·rename_i e;exact mD (bI (by assumption) h)
 ·exact mD h
theorem Ax {p:Program} {m:Machine}:Hq m.world.drawn (move p m):=by
 unfold move;split
 ·split
  ·exact Nat.le_refl _
  ·trivial
 ·split
  ·split
   ·exact Nat.le_refl _
   ·exact uU (Nat.le_refl _)
  ·exact uU (Nat.le_refl _)
theorem Ay {p:Program} {m m':Machine} (h:step p m=.next m'):m.world.drawn<=m'.world.drawn:=by
 have hm:=Ax (p:=p) (m:=m);unfold step stepT at h;revert h hm;cases move p m with
 |goroutine m2 i =>
  intro h hm;have:=Aw (p:=p) (m:=m2) (i:=i) (l:=true);simp only at h;rw [h] at this;exact Nat.le_trans hm this
 |machine s ops =>
  intro h hm;simp only at h;subst h;exact hm
theorem yw {p:Program} {m m':Machine} (h:Steps p m m'):m.world.drawn<=m'.world.drawn:=by
 obtain⟨k,hk⟩:=h
 induction k generalizing m with
 |zero=>simp [runN] at hk;rw [hk];exact Nat.le_refl _
 |succ k ih =>
  simp only [runN] at hk;cases hs:step p m with
  |next m1=>rw [hs] at hk;exact Nat.le_trans (Ay hs) (ih hk)
  |ended o w=>rw [hs] at hk;simp at hk
theorem yx {P:Program} {f:FuncId} {args:Array Value} {w:World} {R:Ending->World->Prop} (h:Calls P f args w R):Calls P f args w λe w'=>R e w'/\∀v,e=.returned v->w.drawn<=w'.drawn:=by
 intro cs;obtain⟨e,w',fr,hR,hC,h1,h2⟩:=h cs;refine⟨e,w',fr,⟨hR,λv hv=>?_⟩,hC,h1,h2⟩;subst hv;exact yw (m:=lone (Frame.enter P f args .normal) cs w) (m':=lone fr cs w') hC
open Go.Sort
theorem lg {w:World} {g:Nat} {cur:Array Value} {e:TypeId} {F:Array Value} (hb:w.heap[g]? = some (.cells cur e (0,0))) (ht:cur.toList.take F.size=F.toList):Holds id w g 0 F:=by
 intro j hj;refine⟨?_,by simp [World.frozen?,hb]⟩;have h1:(cur.toList.take F.size)[j]? = F.toList[j]?:=by rw [ht]
 rw [List.getElem?_take_of_lt hj] at h1;simp only [World.cell?,hb,Nat.zero_add];simp only [Option.isSome_none,Bool.false_eq_true,if_false];rw [<-Array.getElem?_toList,h1];simp [hj]
theorem pE {w:World} {g n:Nat} {os:Array Obj} {cur:Array Value} {e:TypeId} {fr:Nat×Nat} (d:Array Value) (hb:w.heap[g]? = some (.cells cur e fr)) :
  (grow (putRow id (Sort.ahead w n) g 0 d) os).heap[g]? = some (.cells (putCells id 0 d cur) e fr):=by
 have hg:g < w.heap.size:=(Array.getElem?_eq_some_iff.1 hb).1;rw [heap_grow_old _ _ (by simpa using hg)];simp [putRow,mapBlock,Sort.ahead,Array.getElem?_modify,hb,onCells]
theorem lh {w:World} {g n:Nat} {os:Array Obj} (d:Array Value):w.grownBy (grow (putRow id (Sort.ahead w n) g 0 d) os) (some g):=by
 refine⟨rfl,rfl,rfl,by simp,λk hk hne=>?_⟩;rw [heap_grow_old _ _ (by simpa using hk)];have:g≠k:=λe=>hne (by rw [e]);simp [putRow,mapBlock,Sort.ahead,Array.getElem?_modify,this]
theorem mE (cur:Array Value) (F:Array Value) (h:F.size<=cur.size):(putCells id 0 F cur).toList.take F.size=F.toList:=by
 apply List.ext_getElem?;intro j;by_cases hj:j < F.size
 ·rw [List.getElem?_take_of_lt hj,Array.getElem?_toList];simp [putCells,hj,show j < cur.size by omega]
 ·rw [List.getElem?_take_eq_none (by omega),List.getElem?_eq_none (by simp;omega)]
theorem li {w:World} {base g cap n m es:Nat} {e:TypeId} {os:Array Obj} {cur:Array Value} {F:Array Value} (hF:F.size=m*es) (hbase:base<=g) (hb:w.heap[g]? = some (.cells cur e (0,0)))
  (h1:m<=cap) (h2:cap<=maxLen) (h3:cur.size=cap*es) :
  (grow (putRow id (Sort.ahead w n) g 0 F) os).ownsRow base e es (.slice (some ⟨g,0,none⟩) m cap) m F.toList :=
 ⟨by simp [hF],.inr ⟨g,cap,_,rfl,hbase,pE _ hb,h1,h2,by simp [putCells,h3],by
  rw [<-hF];exact mE cur F (by rw [hF,h3];exact Nat.mul_le_mul_right _ h1)⟩⟩
theorem Az {w w':World} (h:RowKit.Below w.heap.size w w') (hd:w.drawn<=w'.drawn):∃q os,w'=grow (w.drewN q) os:=by
 refine⟨w'.drawn - w.drawn,w'.heap.extract w.heap.size w'.heap.size,?_⟩;have hheap:w'.heap=w.heap++w'.heap.extract w.heap.size w'.heap.size:=by
  apply Array.ext_getElem?;intro k;by_cases hk:k < w.heap.size
  ·rw [h.block k hk,Array.getElem?_append_left hk]
  ·have:=h.size;rw [Array.getElem?_append_right (by omega),Array.getElem?_extract];split
   ·congr 1;omega
   ·rw [Array.getElem?_eq_none (by omega)]
 obtain⟨hp,tp,dr,os,ou⟩:=w';obtain⟨hp0,tp0,dr0,os0,ou0⟩:=w;have e1:os=os0:=h.os;have e2:tp=tp0:=h.tape;have e3:ou=ou0:=h.output;subst e1;subst e2;subst e3;simp only at hheap hd ⊢;unfold grow World.drewN;simp only;rw [<-hheap,show dr0+(dr - dr0)=dr by omega]
end Go.Ex
namespace Go.Num
open Go.Sort
def PtS.enc (p:PtS):List Value:=[.bool p.x.s,.string p.x.b,.string p.x.c,.bool p.y.s,.string p.y.b,.string p.y.c]
structure PtB where
 v:PtS
 h:v.le 10000
instance:Inhabited PtB:=⟨⟨⟨⟨false,⟨#[]⟩,⟨#[]⟩⟩,⟨false,⟨#[]⟩,⟨#[]⟩⟩⟩,⟨by decide,by decide⟩,by decide,by decide⟩⟩
instance (k:Nat) (r:RatS):Decidable (r.le k):=inferInstanceAs (Decidable (_/\_))
instance (k:Nat) (p:PtS):Decidable (p.le k):=inferInstanceAs (Decidable (_/\_))
def iR (x y:PtB):Int:=bg x.1 y.1
def kz (V:List PtB):List PtB:=(pdq (ltOf iR) V.toArray 0 V.toArray.size (Lib.bitLen V.toArray.size) true true).toList
def aQ (V:List PtS):List PtS:=if h:∀p∈V,p.le 10000 then(kz (V.pmap PtB.mk h)).map (·.1) else V
theorem fY {a b:Rat}:ao a b < 0↔a < b:=by
 unfold ao;split
 ·rename_i h;exact⟨λ_=>h,λ_=>by decide⟩
 ·split
  ·rename_i h _;exact⟨λh2=>absurd h2 (by decide),λh2=>absurd h2 h⟩
  ·rename_i h _;exact⟨λh2=>absurd h2 (by decide),λh2=>absurd h2 h⟩
theorem mF {a b:Rat}:ao a b=0↔a=b:=by
 unfold ao;split
 ·rename_i h;exact⟨λh2=>absurd h2 (by decide),λh2=>by subst h2;exact absurd h (Rat.lt_irrefl)⟩
 ·split
  ·rename_i h;exact⟨λh2=>absurd h2 (by decide),λh2=>by subst h2;exact absurd h (Rat.lt_irrefl)⟩
  ·rename_i h1 h2;exact⟨λ_=>Rat.le_antisymm (Rat.not_lt.1 h2) (Rat.not_lt.1 h1),λ_=>rfl⟩
theorem fZ {p u:PtS}:bg p u < 0↔p.X < u.X\/(p.X=u.X/\p.Y < u.Y):=by
 unfold bg;split
 ·rename_i h
  rw [mF] at h;rw [fY];exact⟨λh2=>.inr ⟨h,h2⟩,λh2=>h2.elim (λh3=>absurd (h▸h3) Rat.lt_irrefl) (·.2)⟩
 ·rename_i h
  rw [mF] at h;rw [fY];exact⟨.inl,λh2=>h2.elim id λh3=>absurd h3.1 h⟩
theorem FP {a b c:Rat} (h:a < b) (k:b < c):a < c:=by grind
theorem FQ:SWO (ltOf iR) where
 irrefl x:=by
  unfold ltOf iR;rw [decide_eq_false_iff_not,fZ];rintro (h|h)
  ·exact Rat.lt_irrefl h
  ·exact Rat.lt_irrefl h.2
 trans x y z h1 h2:=by
  unfold ltOf iR at *
  rw [decide_eq_true_iff,fZ] at *
  rcases h1 with h1|⟨e1,h1⟩<;>rcases h2 with h2|⟨e2,h2⟩
  ·exact .inl (FP h1 h2)
  ·exact .inl (e2▸h1)
  ·exact .inl (e1▸h2)
  ·exact .inr ⟨e1.trans e2,FP h1 h2⟩
 ntrans x y z h1 h2:=by
  unfold ltOf iR at *
  rw [decide_eq_false_iff_not,fZ] at *
  rintro (h|⟨e,h⟩)
  ·refine h1 (.inl ?_);have:¬y.1.X < z.1.X:=λh3=>h2 (.inl h3);have t2:=Rat.not_lt.1 this
   grind
  ·have a1:y.1.X<=x.1.X:=Rat.not_lt.1 λh3=>h1 (.inl h3);have a2:z.1.X<=y.1.X:=Rat.not_lt.1 λh3=>h2 (.inl h3);have e1:x.1.X=y.1.X:=Rat.le_antisymm (e▸a2) a1;have e2:y.1.X=z.1.X:=e1.symm.trans e;have b1:y.1.Y<=x.1.Y:=Rat.not_lt.1 λh3=>h1 (.inr ⟨e1,h3⟩);have b2:z.1.Y<=y.1.Y:=Rat.not_lt.1 λh3=>h2 (.inr ⟨e2,h3⟩);exact absurd h (Rat.not_lt.2 (Rat.le_trans b2 b1))
theorem nV (V:List PtB):PermIn 0 V.toArray.size V.toArray (pdq (ltOf iR) V.toArray 0 V.toArray.size (Lib.bitLen V.toArray.size) true true)/\SortedIn (ltOf iR) 0 V.toArray.size (pdq (ltOf iR) V.toArray 0 V.toArray.size (Lib.bitLen V.toArray.size) true true) :=
 pdq_sorts (ltOf iR) FQ V.toArray 0 V.toArray.size _ true true (Nat.zero_le _) (Nat.le_refl _) (Or.inl rfl)
theorem nW (V:List PtB):(kz V).Perm V:=by
 obtain⟨⟨hs,_,hp⟩,_⟩:=nV V;unfold kz;generalize pdq (ltOf iR) V.toArray 0 V.toArray.size (Lib.bitLen V.toArray.size) true true=d at *
 rw [Array.extract_size,<-hs,Array.extract_size] at hp;exact hp
theorem wK (V:List PtB):(kz V).length=V.length:=(nW V).length_eq
theorem rP (V:List PtB):(kz V).Pairwise λx y=>¬bg y.1 x.1 < 0:=by
 obtain⟨⟨hs,_,_⟩,h⟩:=nV V;unfold kz;generalize pdq (ltOf iR) V.toArray 0 V.toArray.size (Lib.bitLen V.toArray.size) true true=d at *
 rw [List.pairwise_iff_getElem];intro i j hi hj hij;have hi':i < d.size:=by simpa using hi
 have hj':j < d.size:=by simpa using hj
 have:=h i j (Nat.zero_le _) hij (by omega);unfold ltOf iR at this;rw [getElem!_pos d i hi',getElem!_pos d j hj'] at this;simpa using this
theorem mG:∀{V:List PtS} (h:∀p∈V,p.le 10000),(V.pmap PtB.mk h).map (λx:PtB=>x.1)=V
 |[],_=>rfl
 |p::V,h=>by
  rw [List.pmap_cons,List.map_cons,mG λq hq=>h q (List.mem_cons_of_mem _ hq)]
theorem d8 (V:List PtS):(aQ V).Perm V:=by
 unfold aQ;split
 ·rename_i h
  have:=(nW (V.pmap PtB.mk h)).map (λx:PtB=>x.1);rw [mG] at this;exact this
 ·exact List.Perm.refl _
theorem f5 (V:List PtS):(aQ V).length=V.length:=(d8 V).length_eq
theorem kW {V:List PtS} (h:∀p∈V,p.le 10000):(aQ V).Pairwise λx y=>¬bg y x < 0:=by
 unfold aQ;rw [dif_pos h,List.pairwise_map];exact rP _
end Go.Num
namespace Go.Proofs
def Hr:Shelf.Ren where
 f:=λx=>match x with
  |6=>128
  |14=>176
  |15=>121
  |20=>213
  |21=>214
  |22=>215
  |23=>216
  |24=>217
  |25=>218
  |26=>219
  |27=>220
  |28=>165
  |29=>166
  |46=>241
  |47=>202
  |48=>203
  |49=>242
  |50=>243
  |57=>254
  |n=>n
 t:=λx=>match x with
  |22=>34
  |24=>25
  |25=>71
  |39=>140
  |45=>181
  |46=>182
  |50=>125
  |53=>139
  |55=>137
  |66=>216
  |70=>220
  |76=>239
  |77=>240
  |n=>n
 g:=λn=>n
theorem Bj:SlLaysF0.n6 Tryz.prog Hr :=
 { mixed:=aj,f6:=⟨Tryz.f128.name,by kernel_rfl,Eq.trans Tryz.func128 (congrArg some (by kernel_rfl))⟩,f14:=⟨Tryz.f176.name,by kernel_rfl,Eq.trans Tryz.func176 (congrArg some (by kernel_rfl))⟩,f15:=Eq.trans Tryz.func121 (congrArg some (by kernel_rfl)),f20:=⟨Tryz.f213.name,by kernel_rfl,Eq.trans Tryz.func213 (congrArg some (by kernel_rfl))⟩,f21:=⟨Tryz.f214.name,by kernel_rfl,Eq.trans Tryz.func214 (congrArg some (by kernel_rfl))⟩,f22:=⟨Tryz.f215.name,by kernel_rfl,Eq.trans Tryz.func215 (congrArg some (by kernel_rfl))⟩,f23:=⟨Tryz.f216.name,by kernel_rfl,Eq.trans Tryz.func216 (congrArg some (by kernel_rfl))⟩,f24:=⟨Tryz.f217.name,by kernel_rfl,Eq.trans Tryz.func217 (congrArg some (by kernel_rfl))⟩,f25:=⟨Tryz.f218.name,by kernel_rfl,Eq.trans Tryz.func218 (congrArg some (by kernel_rfl))⟩,f26:=⟨Tryz.f219.name,by kernel_rfl,Eq.trans Tryz.func219 (congrArg some (by kernel_rfl))⟩,f27:=⟨Tryz.f220.name,by kernel_rfl,Eq.trans Tryz.func220 (congrArg some (by kernel_rfl))⟩,f28:=Eq.trans Tryz.func165 (congrArg some (by kernel_rfl)),f29:=Eq.trans Tryz.func166 (congrArg some (by kernel_rfl)),f46:=⟨Tryz.f241.name,by kernel_rfl,Eq.trans Tryz.func241 (congrArg some (by kernel_rfl))⟩,f47:=Eq.trans Tryz.func202 (congrArg some (by kernel_rfl)),f48:=Eq.trans Tryz.func203 (congrArg some (by kernel_rfl)),f49:=⟨Tryz.f242.name,by kernel_rfl,Eq.trans Tryz.func242 (congrArg some (by kernel_rfl))⟩,f50:=⟨Tryz.f243.name,by kernel_rfl,Eq.trans Tryz.func243 (congrArg some (by kernel_rfl))⟩,f57:=⟨Tryz.f254.name,by kernel_rfl,Eq.trans Tryz.func254 (congrArg some (by kernel_rfl))⟩,t0:=Tryz.underlying0,a0:=Tryz.isAgg0,z0:=Tryz.sizeOf0,v0:=Tryz.zeroValue0,t3:=Tryz.underlying3,a3:=Tryz.isAgg3,z3:=Tryz.sizeOf3,v3:=Tryz.zeroValue3,t4:=Tryz.underlying4,a4:=Tryz.isAgg4,z4:=Tryz.sizeOf4,v4:=Tryz.zeroValue4,t5:=Tryz.underlying5,a5:=Tryz.isAgg5,z5:=Tryz.sizeOf5,v5:=Tryz.zeroValue5,t9:=Tryz.underlying9,a9:=Tryz.isAgg9,z9:=Tryz.sizeOf9,v9:=Tryz.zeroValue9,t22:=Tryz.underlying34,a22:=Tryz.isAgg34,z22:=Tryz.sizeOf34,v22:=Tryz.zeroValue34,t25:=Tryz.underlying71,a25:=Tryz.isAgg71,z25:=Tryz.sizeOf71,v25:=Tryz.zeroValue71,t39:=Tryz.underlying140,a39:=Tryz.isAgg140,z39:=Tryz.sizeOf140,v39:=Tryz.zeroValue140,t45:=Tryz.underlying181,a45:=Tryz.isAgg181,z45:=Tryz.sizeOf181,v45:=Tryz.zeroValue181,t46:=Tryz.underlying182,a46:=Tryz.isAgg182,z46:=Tryz.sizeOf182,v46:=Tryz.zeroValue182,t50:=Tryz.underlying125,a50:=Tryz.isAgg125,z50:=Tryz.sizeOf125,v50:=Tryz.zeroValue125,t53:=Tryz.underlying139,a53:=Tryz.isAgg139,z53:=Tryz.sizeOf139,v53:=Tryz.zeroValue139,t55:=Tryz.underlying137,a55:=Tryz.isAgg137,z55:=Tryz.sizeOf137,v55:=Tryz.zeroValue137,t66:=Tryz.underlying216,a66:=Tryz.isAgg216,z66:=Tryz.sizeOf216,v66:=Tryz.zeroValue216,t70:=Tryz.underlying220,a70:=Tryz.isAgg220,z70:=Tryz.sizeOf220,v70:=Tryz.zeroValue220,t76:=Tryz.underlying239,a76:=Tryz.isAgg239,z76:=Tryz.sizeOf239,v76:=Tryz.zeroValue239,t77:=Tryz.underlying240,a77:=Tryz.isAgg240,z77:=Tryz.sizeOf240,v77:=Tryz.zeroValue240 }
end Go.Proofs
namespace Go.Ex
open Go.RowKit Go.Sort
theorem FR (x y:PtB) (W:World):Calls Tryz.prog 38 #[x.1.v,y.1.v] W λe w'=>e=.returned (.int .i64 (iR x y))/\∃q os',w'=grow (W.drewN q) os':=by
 have h:=f38 [.val x.1.v,.val y.1.v] _ rfl;have h2:=h.2 (λp hp=>by cases hp;exact⟨⟨_,rfl,x.2.mono (by decide)⟩,_,rfl,y.2.mono (by decide)⟩) (λ_=>False) W #[x.1.v,y.1.v] (λ_ h=>h.elim) rfl (λi p v hp hv=>by
  match i,hp,hv with
  |0,hp,hv=>cases hp;cases hv;exact .val _
  |1,hp,hv=>cases hp;cases hv;exact .val _
  |i+2,hp,_=>simp at hp)
 refine(yx h2).mono ?_;rintro e w' ⟨⟨v,β,rfl,hres⟩,hd⟩;have hv:=hres.val.val_eq;exact⟨congrArg Ending.returned hv,Az hres.below (hd _ rfl)⟩
def CY:Trans:=λargs s K=>match args with
 |[.sl id st 0 n,.val (.func (.func 38) ⟨[]⟩ ⟨[]⟩)]=>match d9 s.H id st with
  |some ⟨ty,es,st',box,arr,m,get⟩=>(es=6/\box=false/\n=m/\n<=1000000)/\∃V:List PtS,V.length=n/\(∀p∈V,p.le 10000)/\(∀i,i < n->get i=(ab V i).cells)/\(n=0->K (.val (.tuple ⟨[]⟩)) s) /\
    (0 < n->match s with
     |⟨fr,H,nx,sv⟩=>K (.val (.tuple ⟨[]⟩)) ⟨fr,H.set id ⟨ty,es,st',box,arr,m,λi=>(ab (aQ V) i).cells⟩,nx,sv⟩)
  |none=>False
 |_=>False
theorem FS:am ({}:Opt).toOrd Tryz.f128 2=true:=by kernel_rfl
theorem rQ {V:List PtB} {t:Nat} (ht:t < V.length*6):(flatK (λx:PtB=>x.1.enc) 6 V.toArray)[t]! = ((V[t / 6]!).1.enc)[t%6]!:=by
 rw [get_flatK _ _ _ _ (by simpa using ht)];simp
theorem Hs:eU Tryz.prog 128 CY:=by
 refine⟨λvs w=>?_,λZ G n A a w s args vs K hZ hS e=>?_⟩
 ·obtain⟨⟨c,hb,h1⟩,h2,h3,h4⟩:=ex FS;exact di Tryz.func128 h4 hb vs w
 unfold CY at e;split at e
 ·rename_i id st m
  split at e
  ·rename_i ty es st' box arr m' get hb
   obtain⟨⟨rfl,rfl,rfl,hmx⟩,V,hVl,hVle,hz,k0,k1⟩:=e;obtain⟨b,ok,β,hzz,hr,hA1,hA2,hA3,hl,hR⟩:=hS;obtain⟨vl⟩:=vs
   match vl,hl,hR with
   |[v,fv],hl,hR =>
    have hv:=hR 0 _ v rfl rfl;have hf:=(hR 1 _ fv rfl rfl).val_eq;subst hf;obtain⟨e3,e4⟩:=hv.sl_inv hb;have e3:v=sub 6 0 m (β id):=e3.resolve_right λq=>q.1 rfl;have hb':=(aW hb).1;obtain⟨xs,h1,h2,_,_,h3⟩:=hr.heap.own id _ hb';rcases Nat.eq_zero_or_pos m with h0|h0
    ·subst h0;obtain⟨ad,c,rfl⟩:∃ad c,v=.slice ad 0 c:=by
      rcases hr.heap.slice_of hb' with ⟨e5,_⟩|⟨g,c,e5,_⟩
      ·rw [e3,e5];exact⟨none,0,rfl⟩
      ·rw [e3,e5];exact⟨_,_,rfl⟩
     refine(AnyF.slices_SortFunc_none Bj ad c _ w).mono ?_;rintro e w' ⟨rfl,rfl⟩;refine⟨_,_,_,rfl,k0 rfl,b,ok,β,hzz,hr,hA1,hA2,hA3,rfl,λi p v hp hv=>?_⟩
     match i,hp,hv with
     |0,hp,hv=>cases hp;cases hv;exact .val _
     |i+1,hp,_=>simp at hp
    ·rcases hr.heap.slice_of hb' with ⟨_,e6⟩|⟨g,c,e5,e6,e7⟩
     ·simp only at e6;omega
     simp only at e6;have hvx:v=.slice (some ⟨g,0,none⟩) m c:=by rw [e3,e5];simp [sub,Addr.add_mid]
     simp only at h1 h2 h3;rw [e5] at h1;obtain⟨hxl,h1⟩:=h1;rcases h1 with ⟨h1,_⟩|⟨g',c',cur,h1,hbase,hcur,q1,q2,q3,q4⟩
     ·cases h1
     cases h1;obtain⟨W,hW⟩:∃W:List PtB,W=V.pmap PtB.mk hVle:=⟨_,rfl⟩;have hWl:W.length=m:=by rw [hW,List.length_pmap,hVl]
     have hWV:W.map (λx:PtB=>x.1)=V:=by rw [hW];exact mG hVle
     have hFs:(flatK (λx:PtB=>x.1.enc) 6 W.toArray).size=m*6:=by rw [size_flatK];simp [hWl]
     have hWV':∀i,i < m->(W[i]!).1=ab V i:=λi hi=>by
      unfold ab;rw [<-hWV,getElem!_pos W i (by omega),List.getElem?_map,List.getElem?_eq_getElem (by omega)];rfl
     have hxs:xs=(flatK (λx:PtB=>x.1.enc) 6 W.toArray).toList:=by
      apply List.ext_getElem
      ·rw [hxl,Array.length_toList,hFs]
      ·intro t i1 i2;have ht:t < m*6:=by rw [hxl] at i1;exact i1
       have hi:t / 6 < m:=by omega
       have hf:t%6 < 6:=Nat.mod_lt _ (by decide);have hcell:∀f,f < 6->(ab V (t / 6)).cells[f]? = some (.val ((ab V (t / 6)).enc[f]!)):=λf hf=>by
        match f,hf with
        |0,_=>rfl
        |1,_=>rfl
        |2,_=>rfl
        |3,_=>rfl
        |4,_=>rfl
        |5,_=>rfl
       obtain⟨u,u1,u2,u3⟩:=h3 (t / 6) (t%6) _ hi (by rw [hz _ hi];exact hcell _ hf);have:=(u3 trivial).val_eq;subst this;rw [show t / 6*6+t%6=t by omega] at u1;have hx1:xs[t]'i1=(ab V (t / 6)).enc[t%6]!:=by
        rw [List.getElem?_eq_getElem i1] at u1;injection u1
       rw [hx1];have h5:=rQ (V:=W) (t:=t) (by rw [hWl];exact ht);rw [hWV' _ hi] at h5;rw [<-h5,Array.getElem_toList,getElem!_pos _ t (by rw [hFs];exact ht)]
     have hH:HoldsK (λx:PtB=>x.1.enc) 6 w g 0 W.toArray:=lg hcur (by rw [hFs,<-hxs,<-q4]);have hcm:CmpLays Tryz.prog 38 #[] (λx:PtB=>x.1.enc) 6 iR g 0 W.toArray.size w:=λmm os dk _ x y=>FR x y _;have call:=AnyQ.slices_SortFunc_eq Bj 6 Tryz.isAgg25 Tryz.sizeOf25 (λx:PtB=>x.1.enc) (λ_=>rfl) (λx v hv=>by
      simp [PtS.enc] at hv;rcases hv with rfl|rfl|rfl|rfl|rfl|rfl<;>rfl) iR FQ 38 #[] g 0 c W.toArray w (f38 [.val default,.val default] _ rfl).1 hcm hH (Array.getElem?_eq_some_iff.1 hcur).1 (by simp only [List.size_toArray];omega)
     rw [show W.toArray.size=m by simp [hWl]] at call;rw [hvx];refine call.mono ?_;rintro e w' ⟨rfl,nn,os,rfl⟩;have hD:pdq (ltOf iR) W.toArray 0 m (Lib.bitLen m) true true=(kz W).toArray:=by
      unfold kz;rw [show W.toArray.size=m by simp [hWl]]
     rw [hD];have hSl:(kz W).length=m:=by rw [wK,hWl]
     have hSF:(flatK (λx:PtB=>x.1.enc) 6 (kz W).toArray).size=m*6:=by rw [size_flatK];simp [hSl]
     have hSV:∀i,i < m->((kz W)[i]!).1=ab (aQ V) i:=λi hi=>by
      unfold ab aQ;rw [dif_pos hVle,<-hW,getElem!_pos _ i (by omega),List.getElem?_map,List.getElem?_eq_getElem (by omega)];rfl
     have hown:=li (n:=nn) (os:=os) hSF hbase hcur q1 q2 q3;have hset:=hr.set (λi=>(ab (aQ V) i).cells) (flatK (λx:PtB=>x.1.enc) 6 (kz W).toArray).toList hb' e5 (lh (w:=w) (n:=nn) (os:=os) _) (by simp only;rw [e5];exact hown) (λi hi=>⟨rfl,λp hp=>by
      simp [PtS.cells] at hp;rcases hp with rfl|rfl|rfl|rfl|rfl|rfl<;>rfl⟩) (λi f p hi hp=>by
      simp only at hi;have hf:f < 6:=by
       have:=(List.getElem?_eq_some_iff.1 hp).1;exact this
      have hp2:p=.val ((ab (aQ V) i).enc[f]!):=by
       match f,hf,hp with
       |0,_,hp=>cases hp;rfl
       |1,_,hp=>cases hp;rfl
       |2,_,hp=>cases hp;rfl
       |3,_,hp=>cases hp;rfl
       |4,_,hp=>cases hp;rfl
       |5,_,hp=>cases hp;rfl
      subst hp2;refine⟨(ab (aQ V) i).enc[f]!,?_,.val _,λ_=>.val _⟩;have ht:i*6+f < m*6:=by omega
      have h5:=rQ (V:=kz W) (t:=i*6+f) (by rw [hSl];exact ht);rw [show(i*6+f) / 6=i by omega,show(i*6+f)%6=f by omega,hSV _ hi] at h5;simp only;rw [<-h5,Array.getElem?_toList,Array.getElem?_eq_getElem (by rw [hSF];exact ht),getElem!_pos _ _ (by rw [hSF];exact ht)])
     refine⟨_,_,_,rfl,k1 h0,b,ok,β,hzz,hset,hA1,hA2,hA3,rfl,λi p v hp hv=>?_⟩
     match i,hp,hv with
     |0,hp,hv=>cases hp;cases hv;exact .val _
     |i+1,hp,_=>simp at hp
   |[],hl,_=>simp at hl
   |[_],hl,_=>simp at hl
   |_::_::_::_,hl,_=>simp at hl
  ·exact e.elim
 ·exact e.elim
end Go.Ex
namespace Go.Num
theorem jY {lo hi:PtS} {k:Nat} {c:Nat->List PV} {l:Nat} {o:Nat->List PV} (h:bM 10000 k c):∀p∈au lo hi k c l o,p.le 10000:=by
 have hJ:∀{S:PtS->Bool} {q:Nat->PtS} {n:Nat},(∀j,j < n->(q j).le 10000)->∀p∈cU S q n,p.le 10000:=λ{S q n}=>by
  induction n with
  |zero=>intro _ p hp;cases hp
  |succ n ih =>
   intro hq p hp;rw [cU] at hp;rcases List.mem_append.1 hp with hp|hp
   ·exact ih (λj hj=>hq j (by omega)) p hp
   ·cases hS:S (q n) with
    |true =>
     rw [hS] at hp;rw [List.mem_singleton.1 hp];exact hq n (by omega)
    |false=>rw [hS] at hp;cases hp
 unfold au;have hI:∀i,i<=k->∀p∈cD (λp=>bc lo hi k c l o p p) (pn c) (λi=>ae (pg c i)) i,p.le 10000:=λi=>by
  induction i with
  |zero=>intro _ p hp;cases hp
  |succ i ih =>
   intro hi p hp;rw [cD] at hp;rcases List.mem_append.1 hp with hp|hp
   ·exact ih (by omega) p hp
   ·exact hJ (λj hj=>((h.1 i (by omega)).2.1 j hj).2) p hp
 exact hI k (Nat.le_refl k)
theorem f7 {V:List PtS} (h:∀p∈V,p.le 10000) {i:Nat} (hi:i < V.length):(ab V i).le 10000:=by
 unfold ab;rw [List.getElem?_eq_getElem hi];exact h _ (List.getElem_mem hi)
end Go.Num
namespace Go.Proofs
def Ht:List PV->Option Ans
 |[.fn (.func 129) [] [.rp 14 1 h 0 0],.val (.func (.func 38) ⟨[]⟩ ⟨[]⟩)]=>some ⟨some ((At h/\((bO (h 0)).le 10000/\(bP (h 0)).le 10000)/\bM 10000 (gK (h 0)) (gC (h 0))/\cQ (gL (h 0)) (gO (h 0)))/\(au (bO (h 0)) (bP (h 0)) (gK (h 0)) (gC (h 0)) (gL (h 0)) (gO (h 0))).length<=500),.sl 0 0 0 (au (bO (h 0)) (bP (h 0)) (gK (h 0)) (gC (h 0)) (gL (h 0)) (gO (h 0))).length,[⟨25,6,0,false,false,(au (bO (h 0)) (bP (h 0)) (gK (h 0)) (gC (h 0)) (gL (h 0)) (gO (h 0))).length,λi=>(ab (aQ (au (bO (h 0)) (bP (h 0)) (gK (h 0)) (gC (h 0)) (gL (h 0)) (gO (h 0)))) i).cells⟩]⟩
 |_=>none
theorem Hu:am {} Tryz.f93 2=true:=by kernel_rfl
theorem f93:FnOk Tryz.prog 93 Ht:=by
 refine FnOk.ofW aj (an (l:=[(127,CV)]) (own:=[127]) (inl:=[(128,CY)]) (by simp [f127]) (by simp [Hs])) Tryz.func93 {} 2 Hu λargs r e=>?_;unfold Ht at e;split at e
 ·rename_i h
  cases e;refine⟨by simp,λhm=>?_⟩;obtain⟨hp,hn⟩:=hm _ rfl;refine⟨[],aa [(0,.fn (.func 129) [] [.rp 14 1 h 0 0]),(1,.val (.func (.func 38) ⟨[]⟩ ⟨[]⟩))] [] 0 [],Wo trivial ⟨⟨rfl,trivial,⟨rfl,rfl,rfl,rfl,λ_ _=>rfl⟩,qQ⟩,rfl,qQ⟩ trivial,?_⟩;have hle:=jY (lo:=bO (h 0)) (hi:=bP (h 0)) (l:=gL (h 0)) (o:=gO (h 0)) hp.2.2.1;with_unfolding_all refine⟨⟨hp,Nat.le_trans hn (by decide)⟩,?_⟩
  clear hp hm;generalize (au (bO (h 0)) (bP (h 0)) (gK (h 0)) (gC (h 0)) (gL (h 0)) (gO (h 0)))=V at *
  with_unfolding_all exact⟨⟨rfl,rfl,rfl,Nat.le_trans hn (by decide)⟩,V,rfl,hle,λ_ _=>rfl,λh0=>⟨[some 0],aa [(4,.sl 0 0 0 V.length)] [⟨25,6,0,false,false,V.length,λi=>(ab (aQ V) i).cells⟩] 1 [],Wo ⟨qZ (λz hz=>absurd hz (by rw [h0];exact Nat.not_lt_zero _)),qQ⟩ ⟨pP,qQ⟩ trivial,rfl,rfl⟩,λ_=>⟨[some 0],aa [(4,.sl 0 0 0 V.length)] [⟨25,6,0,false,false,V.length,λi=>(ab (aQ V) i).cells⟩] 1 [],Wo ⟨qZ (λ_ _=>rfl),qQ⟩ ⟨pP,qQ⟩ trivial,rfl,rfl⟩⟩
 ·cases e
def Hv:List PV->Option Ans
 |[.rs 6 m h,.val v]=>some ⟨some (isPL 4294967296 m h/\isPk 4294967296 v),.val (.int .i64 (dj (λi=>bE (aO v) (ae h i)) m 0)),[]⟩
 |_=>none
theorem Hw:am {} Tryz.f19 2=true:=by kernel_rfl
theorem f19:FnOk Tryz.prog 19 Hv:=by
 refine FnOk.ofW aj (an (l:=[]) (own:=[]) (inl:=[]) (by simp) (by simp)) Tryz.func19 {} 2 Hw λargs r e=>?_;unfold Hv at e;split at e
 ·rename_i n h v
  cases e;refine⟨by simp,λhm=>?_⟩;obtain⟨⟨hq,hn⟩,a,rfl,ha⟩:=hm _ rfl;refine⟨[],aa [(0,.rs 6 n (λi=>(ae h i).cells)),(1,.val a.v)] [] 0 [],Wo trivial ⟨⟨rfl,rfl,λi hi=>(hq i hi).1.symm⟩,rfl,qQ⟩ trivial,?_⟩;generalize ae h=q at *
  obtain⟨X,hX⟩:∃X,X=dj (λi=>bE a (q i)) n 0:=⟨_,rfl⟩;have hv:dj (λi=>bE (aO a.v) (q i)) n 0=X:=hX.symm;rw [hv];with_unfolding_all refine⟨Nat,λi=>i<=n/\dj (λi=>bE a (q i)) (n - i) i=X,λi=>aa [(0,.rs 6 n (λi=>(q i).cells)),(3,.ptr 0 0 0 0),(7,.val (goInt n)),(8,.val (goInt i))] [⟨25,6,0,true,false,1,λ_=>[.val (.bool a.x.s),.val (.string a.x.b),.val (.string a.x.c),.val (.bool a.y.s),.val (.string a.y.b),.val (.string a.y.c)]⟩] 1 [],λi=>n - i,⟨0,[some 0],⟨Nat.zero_le _,hX.symm⟩,Wo ⟨qK,qQ⟩ ⟨qW,pP,rfl,rfl,qQ⟩ trivial⟩,λi hi=>?_⟩
  obtain⟨hin,hI⟩:i<=n/\dj (λi=>bE a (q i)) (n - i) i=X:=hi;with_unfolding_all refine⟨λh=>?_,λh=>⟨[],aa [(4,.val (.int .i64 X))] [] 0 [],Wo trivial ⟨?_,qQ⟩ trivial,rfl,rfl⟩⟩
  ·have h:(i:Int) < n:=bN h;have e:(i:Int).toNat=i:=Int.toNat_natCast i;have hstep:dj (λi=>bE a (q i)) (n - i) i=bif bE a (q i) then(i:Int) else dj (λi=>bE a (q i)) (n - (i+1)) (i+1):=by
    rw [show n - i=(n - (i+1))+1 by omega];rfl
   with_unfolding_all refine⟨⟨by omega,by omega⟩,λh'=>⟨[],aa [(4,.val (.int .i64 X))] [] 0 [],Wo trivial ⟨?_,qQ⟩ trivial,rfl,rfl⟩,λh'=>⟨i+1,[some 0],⟨by omega,?_⟩,by show n - (i+1) < n - i;omega,Wo ⟨qK,qQ⟩ ⟨qW,pP,rfl,?_,qQ⟩ trivial⟩⟩
   ·have h':bE a (q (i:Int).toNat)=true:=h';rw [e] at h';rw [h',cond_true] at hstep;exact congrArg (λz=>PV.val (.int .i64 z)) (hstep.symm.trans hI)
   ·have h':bE a (q (i:Int).toNat)=false:=h';rw [e] at h';rw [h',cond_false] at hstep;exact hstep.symm.trans hI
   ·show PV.val (.int .i64 (IntKind.i64.wrap ((i:Int)+1)))=PV.val (.int .i64 ((i+1:Nat):Int));rw [wrap64 (by omega) (by omega)];rfl
  ·have h:(n:Int)<=i:=dC h;rw [show n - i=0 by omega] at hI;exact congrArg (λz=>PV.val (.int .i64 z)) hI
 ·cases e
def Hy:List PV->Option Ans
 |[.rs 6 m h,.val v]=>some ⟨some (isPL 4294967296 m h/\isPk 4294967296 v),.val (.bool (aD (λi=>bE (aO v) (ae h i)) m)),[]⟩
 |_=>none
theorem Hz:am {} Tryz.f37 2=true:=by kernel_rfl
theorem f37:FnOk Tryz.prog 37 Hy:=by
 refine FnOk.ofW aj (an (l:=[(19,Hv)]) (own:=[]) (inl:=[]) (by simp [f19]) (by simp)) Tryz.func37 {} 2 Hz λargs r e=>?_;unfold Hy at e;split at e
 ·rename_i n h v
  cases e;refine⟨by simp,λhm=>?_⟩;obtain⟨hq,a,rfl,ha⟩:=hm _ rfl;refine⟨[],aa [(0,.rs 6 n h),(1,.val a.v)] [] 0 [],Wo trivial ⟨⟨rfl,rfl,λi hi=>rfl⟩,rfl,qQ⟩ trivial,?_⟩;with_unfolding_all refine⟨⟨hq,a,rfl,ha⟩,[],aa [(4,.val (.bool (aD (λi=>bE a (ae h i)) n)))] [] 0 [],Wo trivial ⟨?_,qQ⟩ trivial,rfl,rfl⟩
  exact congrArg (λz=>PV.val (.bool z)) (ef _ _)
 ·cases e
end Go.Proofs
namespace Go.Num
def aU (p:Nat->PtS):Nat->List PtS
 |0=>[]
 |j+1=>aU p j++(bif j==0||!bE (p j) (p (j - 1)) then [p j] else [])
theorem mH (p:Nat->PtS):∀j,(aU p j).length<=j
 |0=>Nat.le_refl _
 |j+1=>by
  have:=mH p j;unfold aU;rw [List.length_append];cases (j==0||!bE (p j) (p (j - 1)))<;>simp<;>omega
theorem iC {p:Nat->PtS}:∀{j:Nat} {x:PtS},x∈aU p j->∃i,i < j/\x=p i
 |0,x,h=>by cases h
 |j+1,x,h=>by
  unfold aU at h;rcases List.mem_append.1 h with h|h
  ·obtain⟨i,h1,h2⟩:=iC h;exact⟨i,by omega,h2⟩
  ·cases hb:(j==0||!bE (p j) (p (j - 1))) with
   |true =>
    rw [hb] at h;exact⟨j,by omega,List.mem_singleton.1 h⟩
   |false =>
    rw [hb] at h;cases h
theorem nX {p:Nat->PtS}:∀{j:Nat},(∀i,i+1 < j->bE (p (i+1)) (p i)=false)->aU p j=(List.range j).map p
 |0,_=>rfl
 |j+1,h=>by
  have hb:(j==0||!bE (p j) (p (j - 1)))=true:=by
   cases j with
   |zero=>rfl
   |succ i=>rw [show i+1 - 1=i by omega,h i (by omega)];simp
  rw [aU,hb,nX λi hi=>h i (by omega),List.range_succ,List.map_append];rfl
end Go.Num
namespace Go.Proofs
theorem HA:am {} Tryz.f92 1=true:=by kernel_rfl
def Iz:Trans:=λargs s K=>args.length<=1/\xx Tryz.prog (GH [] [] []) {} Tryz.f92 args s K
theorem IM:eU Tryz.prog 92 Iz:=uv aj (an (by simp) (by simp)) Tryz.func92 {} 1 HA λ_ _ _ h=>h
end Go.Proofs
namespace Go.Num
def jZ:List PV->Int
 |[.val (.int .i64 s)]=>s
 |_=>0
def yy (c:List PV):Prop:=c=[.val (.int .i64 (jZ c))]
def dV (a b:PtS) (s:Int) (p:PtS):Bool:=jW a b p==s
end Go.Num
namespace Go.Proofs
def CZ:List PV->Option Ans
 |[.val v,.rp 6 1 h 0 0,.rp 6 1 h' 0 0,.rp 1 1 h2 0 0]=>some ⟨some (isPk 10000 v/\ld 10000 (h 0)/\ld 10000 (h' 0)/\yy (h2 0)),.val (.bool (dV (cz (h 0)) (cz (h' 0)) (jZ (h2 0)) (aO v))),[]⟩
 |_=>none
theorem FT:am {} Tryz.f106 4=true:=by kernel_rfl
theorem f106:FnOk Tryz.prog 106 CZ:=by
 refine FnOk.ofW aj (an (l:=[(107,Ag)]) (own:=[]) (inl:=[]) (by simp [f107]) (by simp)) Tryz.func106 {} 4 FT λargs r e=>?_;unfold CZ at e;split at e
 ·rename_i v h h' h2
  cases e;refine⟨by simp,λhm=>?_⟩;obtain⟨⟨p,rfl,hp⟩,⟨h1,ha⟩,⟨h3,hb⟩,h4⟩:=hm _ rfl;unfold yy at h4;generalize cz (h 0)=a at *
  generalize cz (h' 0)=b at *
  generalize jZ (h2 0)=s at *
  refine⟨[],aa [(0,.val p.v),(1,.rp 6 1 (λ_=>a.cells) 0 0),(2,.rp 6 1 (λ_=>b.cells) 0 0),(3,.rp 1 1 (λ_=>[.val (.int .i64 s)]) 0 0)] [] 0 [],Wo trivial ⟨rfl,⟨rfl,rfl,rfl,rfl,Bh h1⟩,⟨rfl,rfl,rfl,rfl,Bh h3⟩,⟨rfl,rfl,rfl,rfl,Bh h4⟩,qQ⟩ trivial,?_⟩;with_unfolding_all exact⟨⟨⟨a,rfl,ha⟩,⟨b,rfl,hb⟩,p,rfl,hp⟩,⟨[],aa [(5,.val (.bool (dV a b s p)))] [] 0 [],Wo trivial ⟨rfl,qQ⟩ trivial,rfl,rfl⟩⟩
 ·cases e
def pF:List PV->Option Ans
 |[.rs 6 n g,.fn (.func 106) [] [.rp 6 1 cc 0 0,.rp 6 1 dd 0 0,.rp 1 1 ee 0 0]]=>some ⟨some (isPL 10000 n g/\ld 10000 (cc 0)/\ld 10000 (dd 0)/\yy (ee 0)),.val (.int .i64 (dj (λi=>dV (cz (cc 0)) (cz (dd 0)) (jZ (ee 0)) (ae g i)) n 0)),[]⟩
 |_=>none
theorem AA:FnOk Tryz.prog 83 pF:=by
 refine FnOk.ofW aj (an (l:=[(106,CZ)]) (own:=[]) (inl:=[]) (by simp [f106]) (by simp)) Tryz.func83 {} 2 tG λargs r e=>?_;unfold pF at e;split at e
 ·rename_i n g cc dd ee
  cases e;refine⟨by simp,λhm=>?_⟩;obtain⟨⟨hg,hn⟩,h1,h2,h3⟩:=hm _ rfl;refine⟨[],aa [(0,.rs 6 n (λi=>(ae g i).cells)),(1,.fn (.func 106) [] [.rp 6 1 cc 0 0,.rp 6 1 dd 0 0,.rp 1 1 ee 0 0])] [] 0 [],Wo trivial ⟨⟨rfl,rfl,λi hi=>(hg i hi).1.symm⟩,⟨rfl,trivial,⟨rfl,rfl,rfl,rfl,λ_ _=>rfl⟩,⟨rfl,rfl,rfl,rfl,λ_ _=>rfl⟩,⟨rfl,rfl,rfl,rfl,λ_ _=>rfl⟩,qQ⟩,qQ⟩ trivial,?_⟩;obtain⟨X,hX⟩:∃X,X=dj (λi=>dV (cz (cc 0)) (cz (dd 0)) (jZ (ee 0)) (ae g i)) n 0:=⟨_,rfl⟩;rw [<-hX];with_unfolding_all refine⟨Nat,λi=>i<=n/\dj (λi=>dV (cz (cc 0)) (cz (dd 0)) (jZ (ee 0)) (ae g i)) (n - i) i=X,λi=>aa [(0,.rs 6 n (λi=>(ae g i).cells)),(1,.fn (.func 106) [] [.rp 6 1 cc 0 0,.rp 6 1 dd 0 0,.rp 1 1 ee 0 0]),(7,.val (goInt n)),(8,.val (goInt i))] [] 0 [],λi=>n - i,⟨0,[],⟨Nat.zero_le _,hX.symm⟩,Wo trivial ⟨qW,⟨rfl,trivial,⟨rfl,rfl,rfl,rfl,λ_ _=>rfl⟩,⟨rfl,rfl,rfl,rfl,λ_ _=>rfl⟩,⟨rfl,rfl,rfl,rfl,λ_ _=>rfl⟩,qQ⟩,rfl,rfl,qQ⟩ trivial⟩,λi hi=>?_⟩
  obtain⟨hin,hI⟩:i<=n/\dj (λi=>dV (cz (cc 0)) (cz (dd 0)) (jZ (ee 0)) (ae g i)) (n - i) i=X:=hi;with_unfolding_all refine⟨λh=>?_,λh=>⟨[],aa [(4,.val (.int .i64 X))] [] 0 [],Wo trivial ⟨?_,qQ⟩ trivial,rfl,rfl⟩⟩
  ·have h:(i:Int) < n:=bN h;have e:(i:Int).toNat=i:=Int.toNat_natCast i;have hstep:dj (λi=>dV (cz (cc 0)) (cz (dd 0)) (jZ (ee 0)) (ae g i)) (n - i) i=bif dV (cz (cc 0)) (cz (dd 0)) (jZ (ee 0)) (ae g i) then(i:Int) else dj (λi=>dV (cz (cc 0)) (cz (dd 0)) (jZ (ee 0)) (ae g i)) (n - (i+1)) (i+1):=by
    rw [show n - i=(n - (i+1))+1 by omega];rfl
   have hip:=(hg i (by omega)).2;rw [<-e] at hip;with_unfolding_all refine⟨⟨by omega,by omega⟩,⟨⟨ae g (i:Int).toNat,rfl,hip⟩,h1,h2,h3⟩,λh'=>⟨[],aa [(4,.val (.int .i64 X))] [] 0 [],Wo trivial ⟨?_,qQ⟩ trivial,rfl,rfl⟩,λh'=>⟨i+1,[],⟨by omega,?_⟩,by show n - (i+1) < n - i;omega,Wo trivial ⟨qW,⟨rfl,trivial,⟨rfl,rfl,rfl,rfl,λ_ _=>rfl⟩,⟨rfl,rfl,rfl,rfl,λ_ _=>rfl⟩,⟨rfl,rfl,rfl,rfl,λ_ _=>rfl⟩,qQ⟩,rfl,?_,qQ⟩ trivial⟩⟩
   ·have h':(dV (cz (cc 0)) (cz (dd 0)) (jZ (ee 0)) (ae g (i:Int).toNat))=true:=h';rw [e] at h';rw [h',cond_true] at hstep;exact congrArg (λz=>PV.val (.int .i64 z)) (hstep.symm.trans hI)
   ·have h':(dV (cz (cc 0)) (cz (dd 0)) (jZ (ee 0)) (ae g (i:Int).toNat))=false:=h';rw [e] at h';rw [h',cond_false] at hstep;exact hstep.symm.trans hI
   ·show PV.val (.int .i64 (IntKind.i64.wrap ((i:Int)+1)))=PV.val (.int .i64 ((i+1:Nat):Int));rw [wrap64 (by omega) (by omega)];rfl
  ·have h:(n:Int)<=i:=dC h;rw [show n - i=0 by omega] at hI;exact congrArg (λz=>PV.val (.int .i64 z)) hI
 ·cases e
def pG:List PV->Option Ans
 |[.rs 6 n g,.fn (.func 106) [] [.rp 6 1 cc 0 0,.rp 6 1 dd 0 0,.rp 1 1 ee 0 0]]=>some ⟨some (isPL 10000 n g/\ld 10000 (cc 0)/\ld 10000 (dd 0)/\yy (ee 0)),.val (.bool (aD (λi=>dV (cz (cc 0)) (cz (dd 0)) (jZ (ee 0)) (ae g i)) n)),[]⟩
 |_=>none
theorem AB:FnOk Tryz.prog 65 pG:=by
 refine FnOk.ofW aj (an (l:=[(83,pF)]) (own:=[]) (inl:=[]) (by simp [AA]) (by simp)) Tryz.func65 {} 2 tH λargs r e=>?_;unfold pG at e;split at e
 ·rename_i n g cc dd ee
  cases e;refine⟨by simp,λhm=>?_⟩;have hp:=hm _ rfl;refine⟨[],aa [(0,.rs 6 n g),(1,.fn (.func 106) [] [.rp 6 1 cc 0 0,.rp 6 1 dd 0 0,.rp 1 1 ee 0 0])] [] 0 [],Wo trivial ⟨⟨rfl,rfl,λi hi=>rfl⟩,⟨rfl,trivial,⟨rfl,rfl,rfl,rfl,λ_ _=>rfl⟩,⟨rfl,rfl,rfl,rfl,λ_ _=>rfl⟩,⟨rfl,rfl,rfl,rfl,λ_ _=>rfl⟩,qQ⟩,qQ⟩ trivial,?_⟩;with_unfolding_all refine⟨hp,[],aa [(4,.val (.bool (aD (λi=>dV (cz (cc 0)) (cz (dd 0)) (jZ (ee 0)) (ae g i)) n)))] [] 0 [],Wo trivial ⟨?_,qQ⟩ trivial,rfl,rfl⟩
  exact congrArg (λz=>PV.val (.bool z)) (ef _ _)
 ·cases e
def C0:List PV->Option Ans
 |[.val (.int .i64 s),.rp 6 1 h 0 0,.rp 6 1 h' 0 0]=>some ⟨none,.fn (.func 106) [] [.rp 6 1 h 0 0,.rp 6 1 h' 0 0,.rp 1 1 (λ_=>[.val (.int .i64 s)]) 0 0],[]⟩
 |_=>none
theorem FU:am {} Tryz.f105 3=true:=by kernel_rfl
theorem f105:FnOk Tryz.prog 105 C0:=by
 refine FnOk.ofW aj (an (l:=[]) (own:=[]) (inl:=[]) (by simp) (by simp)) Tryz.func105 {} 3 FU λargs r e=>?_;unfold C0 at e;split at e
 ·rename_i s h h'
  cases e;refine⟨by simp,λhm=>?_⟩;refine⟨[],aa [(0,.val (.int .i64 s)),(1,.rp 6 1 h 0 0),(2,.rp 6 1 h' 0 0)] [] 0 [],Wo trivial ⟨rfl,⟨rfl,rfl,rfl,rfl,λ_ _=>rfl⟩,⟨rfl,rfl,rfl,rfl,λ_ _=>rfl⟩,qQ⟩ trivial,?_⟩;with_unfolding_all exact⟨[some 0],aa [(4,.fn (.func 106) [] [.rp 6 1 h 0 0,.rp 6 1 h' 0 0,.ptr 0 0 0 0])] [⟨3,1,0,true,false,1,λ_=>[.val (.int .i64 s)]⟩] 1 [],Wo ⟨qY,qQ⟩ ⟨⟨rfl,trivial,⟨rfl,rfl,rfl,rfl,λ_ _=>rfl⟩,⟨rfl,rfl,rfl,rfl,λ_ _=>rfl⟩,pP,qQ⟩,qQ⟩ trivial,rfl,rfl⟩
 ·cases e
end Go.Proofs
namespace Go.Num
def cZ (n:Nat) (p:Nat->PtS) (a b:PtS):Bool:=aD (λi=>bE a (p i)) n&&!(aD (λi=>dV a b 1 (p i)) n&&aD (λi=>dV a b (-1) (p i)) n)
end Go.Num
namespace Go.Proofs
def C1:List PV->Option Ans
 |[.rs 6 n g,.rp 6 1 h 0 0,.rp 6 1 h' 0 0]=>some ⟨some (isPL 10000 n g/\ld 10000 (h 0)/\ld 10000 (h' 0)),.val (.bool (cZ n (ae g) (cz (h 0)) (cz (h' 0)))),[]⟩
 |_=>none
theorem FV:am {} Tryz.f104 3=true:=by kernel_rfl
theorem f104:FnOk Tryz.prog 104 C1:=by
 refine FnOk.ofW aj (an (l:=[(37,Hy),(65,pG),(105,C0)]) (own:=[]) (inl:=[]) (by simp [f37,AB,f105]) (by simp)) Tryz.func104 {} 3 FV λargs r e=>?_;unfold C1 at e;split at e
 ·rename_i n g h h'
  cases e;refine⟨by simp,λhm=>?_⟩;obtain⟨hg,⟨h1,ha⟩,h3,hb⟩:=hm _ rfl;generalize cz (h 0)=a at *
  generalize cz (h' 0)=b at *
  refine⟨[],aa [(0,.rs 6 n g),(1,.rp 6 1 (λ_=>a.cells) 0 0),(2,.rp 6 1 (λ_=>b.cells) 0 0)] [] 0 [],Wo trivial ⟨qW,⟨rfl,rfl,rfl,rfl,Bh h1⟩,⟨rfl,rfl,rfl,rfl,Bh h3⟩,qQ⟩ trivial,?_⟩;have hg':isPL 4294967296 n g:=⟨λi hi=>⟨(hg.1 i hi).1,(hg.1 i hi).2.mono (by decide)⟩,hg.2⟩;have ha':=ha.mono (show 10000<=4294967296 by decide);have pS:∀s:Int,isPL 10000 n g/\ld 10000 a.cells/\ld 10000 b.cells/\yy [.val (.int .i64 s)]:=λs=>⟨hg,⟨rfl,ha⟩,⟨rfl,hb⟩,rfl⟩;obtain⟨X,hX⟩:∃X,X=cZ n (ae g) a b:=⟨_,rfl⟩;rw [<-hX];have v1:aD (λi=>bE a (ae g i)) n=true->aD (λi=>dV a b 1 (ae g i)) n=true->PV.val (.bool (!aD (λi=>dV a b (-1) (ae g i)) n))=PV.val (.bool X):=λh h'=>by
   rw [hX,cZ,h,h',Bool.true_and,Bool.true_and]
  have v2:aD (λi=>bE a (ae g i)) n=true->aD (λi=>dV a b 1 (ae g i)) n=false->PV.val (.bool true)=PV.val (.bool X):=λh h'=>by
   rw [hX,cZ,h,h'];rfl
  have v3:aD (λi=>bE a (ae g i)) n=false->PV.val (.bool false)=PV.val (.bool X):=λh=>by
   rw [hX,cZ,h];rfl
  with_unfolding_all exact⟨⟨hg',a,rfl,ha'⟩,λh1=>⟨pS 1,λh2=>⟨pS (-1),⟨[],aa [(4,.val (.bool X))] [] 0 [],Wo trivial ⟨v1 h1 h2,qQ⟩ trivial,rfl,rfl⟩⟩,λh2=>⟨[],aa [(4,.val (.bool X))] [] 0 [],Wo trivial ⟨v2 h1 h2,qQ⟩ trivial,rfl,rfl⟩⟩,λh1=>⟨[],aa [(4,.val (.bool X))] [] 0 [],Wo trivial ⟨v3 h1,qQ⟩ trivial,rfl,rfl⟩⟩
 ·cases e
def C2:List PV->Option Ans
 |[.rs 1 k c,.fn (.func 104) [] [.rp 6 1 h 0 0,.rp 6 1 h' 0 0]]=>some ⟨some (bM 10000 k c/\ld 10000 (h 0)/\ld 10000 (h' 0)),.val (.int .i64 (dj (λi=>cZ (pn c i) (ae (pg c i)) (cz (h 0)) (cz (h' 0))) k 0)),[]⟩
 |_=>none
theorem FX:am {} Tryz.f138 2=true:=by kernel_rfl
theorem f138:FnOk Tryz.prog 138 C2:=by
 refine FnOk.ofW aj (an (l:=[(104,C1)]) (own:=[]) (inl:=[]) (by simp [f104]) (by simp)) Tryz.func138 {} 2 FX λargs r e=>?_;unfold C2 at e;split at e
 ·rename_i k c cc dd
  cases e;refine⟨by simp,λhm=>?_⟩;obtain⟨⟨hc,hn⟩,h1,h2⟩:=hm _ rfl;refine⟨[],aa [(0,.rs 1 k (λi=>[.rs 6 (pn c i) (pg c i)])),(1,.fn (.func 104) [] [.rp 6 1 cc 0 0,.rp 6 1 dd 0 0])] [] 0 [],Wo trivial ⟨⟨rfl,rfl,λi hi=>(hc i hi).1.symm⟩,⟨rfl,trivial,⟨rfl,rfl,rfl,rfl,λ_ _=>rfl⟩,⟨rfl,rfl,rfl,rfl,λ_ _=>rfl⟩,qQ⟩,qQ⟩ trivial,?_⟩;obtain⟨X,hX⟩:∃X,X=dj (λi=>cZ (pn c i) (ae (pg c i)) (cz (cc 0)) (cz (dd 0))) k 0:=⟨_,rfl⟩;rw [<-hX];with_unfolding_all refine⟨Nat,λi=>i<=k/\dj (λi=>cZ (pn c i) (ae (pg c i)) (cz (cc 0)) (cz (dd 0))) (k - i) i=X,λi=>aa [(0,.rs 1 k (λi=>[.rs 6 (pn c i) (pg c i)])),(1,.fn (.func 104) [] [.rp 6 1 cc 0 0,.rp 6 1 dd 0 0]),(7,.val (goInt k)),(8,.val (goInt i))] [] 0 [],λi=>k - i,⟨0,[],⟨Nat.zero_le _,hX.symm⟩,Wo trivial ⟨qW,⟨rfl,trivial,⟨rfl,rfl,rfl,rfl,λ_ _=>rfl⟩,⟨rfl,rfl,rfl,rfl,λ_ _=>rfl⟩,qQ⟩,rfl,rfl,qQ⟩ trivial⟩,λi hi=>?_⟩
  obtain⟨hin,hI⟩:i<=k/\dj (λi=>cZ (pn c i) (ae (pg c i)) (cz (cc 0)) (cz (dd 0))) (k - i) i=X:=hi;with_unfolding_all refine⟨λh=>?_,λh=>⟨[],aa [(4,.val (.int .i64 X))] [] 0 [],Wo trivial ⟨?_,qQ⟩ trivial,rfl,rfl⟩⟩
  ·have h:(i:Int) < k:=bN h;have e:(i:Int).toNat=i:=Int.toNat_natCast i;have hstep:dj (λi=>cZ (pn c i) (ae (pg c i)) (cz (cc 0)) (cz (dd 0))) (k - i) i=bif cZ (pn c i) (ae (pg c i)) (cz (cc 0)) (cz (dd 0)) then(i:Int) else dj (λi=>cZ (pn c i) (ae (pg c i)) (cz (cc 0)) (cz (dd 0))) (k - (i+1)) (i+1):=by
    rw [show k - i=(k - (i+1))+1 by omega];rfl
   have hip:=(hc i (by omega)).2;rw [<-e] at hip;with_unfolding_all refine⟨⟨by omega,by omega⟩,⟨hip,h1,h2⟩,λh'=>⟨[],aa [(4,.val (.int .i64 X))] [] 0 [],Wo trivial ⟨?_,qQ⟩ trivial,rfl,rfl⟩,λh'=>⟨i+1,[],⟨by omega,?_⟩,by show k - (i+1) < k - i;omega,Wo trivial ⟨qW,⟨rfl,trivial,⟨rfl,rfl,rfl,rfl,λ_ _=>rfl⟩,⟨rfl,rfl,rfl,rfl,λ_ _=>rfl⟩,qQ⟩,rfl,?_,qQ⟩ trivial⟩⟩
   ·have h':cZ (pn c (i:Int).toNat) (ae (pg c (i:Int).toNat)) (cz (cc 0)) (cz (dd 0))=true:=h';rw [e] at h';rw [h',cond_true] at hstep;exact congrArg (λz=>PV.val (.int .i64 z)) (hstep.symm.trans hI)
   ·have h':cZ (pn c (i:Int).toNat) (ae (pg c (i:Int).toNat)) (cz (cc 0)) (cz (dd 0))=false:=h';rw [e] at h';rw [h',cond_false] at hstep;exact hstep.symm.trans hI
   ·show PV.val (.int .i64 (IntKind.i64.wrap ((i:Int)+1)))=PV.val (.int .i64 ((i+1:Nat):Int));rw [wrap64 (by omega) (by omega)];rfl
  ·have h:(k:Int)<=i:=dC h;rw [show k - i=0 by omega] at hI;exact congrArg (λz=>PV.val (.int .i64 z)) hI
 ·cases e
def C3:List PV->Option Ans
 |[.rs 1 k c,.fn (.func 104) [] [.rp 6 1 h 0 0,.rp 6 1 h' 0 0]]=>some ⟨some (bM 10000 k c/\ld 10000 (h 0)/\ld 10000 (h' 0)),.val (.bool (aD (λi=>cZ (pn c i) (ae (pg c i)) (cz (h 0)) (cz (h' 0))) k)),[]⟩
 |_=>none
theorem FY:am {} Tryz.f103 2=true:=by kernel_rfl
theorem f103:FnOk Tryz.prog 103 C3:=by
 refine FnOk.ofW aj (an (l:=[(138,C2)]) (own:=[]) (inl:=[]) (by simp [f138]) (by simp)) Tryz.func103 {} 2 FY λargs r e=>?_;unfold C3 at e;split at e
 ·rename_i n g cc dd
  cases e;refine⟨by simp,λhm=>?_⟩;have hp:=hm _ rfl;refine⟨[],aa [(0,.rs 1 n g),(1,.fn (.func 104) [] [.rp 6 1 cc 0 0,.rp 6 1 dd 0 0])] [] 0 [],Wo trivial ⟨⟨rfl,rfl,λi hi=>rfl⟩,⟨rfl,trivial,⟨rfl,rfl,rfl,rfl,λ_ _=>rfl⟩,⟨rfl,rfl,rfl,rfl,λ_ _=>rfl⟩,qQ⟩,qQ⟩ trivial,?_⟩;with_unfolding_all refine⟨hp,[],aa [(4,.val (.bool (aD (λi=>cZ (pn g i) (ae (pg g i)) (cz (cc 0)) (cz (dd 0))) n)))] [] 0 [],Wo trivial ⟨?_,qQ⟩ trivial,rfl,rfl⟩
  exact congrArg (λz=>PV.val (.bool z)) (ef _ _)
 ·cases e
end Go.Proofs
namespace Go.Num
theorem nY {p:Nat->PtS} {n:Nat} (h:∀i,i+1 < n->bE (p (i+1)) (p i)=false):(aU p n).length=n/\∀t,t < n->ab (aU p n) t=p t:=by
 rw [nX h];refine⟨by simp,λt ht=>?_⟩;unfold ab;simp [ht]
def fo (p:Nat->PtS) (n:Nat):Nat->PtS:=λi=>if i < (aU p n).length then ab (aU p n) i else p i
theorem gv {p:Nat->PtS} {j:Nat} (h:bE (p (j+1)) (p j)=true):aU p (j+2)=aU p (j+1):=by
 rw [aU,show j+1 - 1=j by omega,h];exact List.append_nil _
theorem mI {p:Nat->PtS} {j:Nat} (h:bE (p (j+1)) (p j)=false):aU p (j+2)=aU p (j+1)++[p (j+1)]:=by
 rw [aU,show j+1 - 1=j by omega,h];simp
theorem yz {p:Nat->PtS} {n:Nat} (h:(aU p n).length=n/\∀t,t < n->ab (aU p n) t=p t) (i:Nat):fo p n i=p i:=by
 unfold fo;split
 ·rename_i hi
  rw [h.1] at hi;exact h.2 i hi
 ·rfl
theorem uX {p:Nat->PtS} {n i:Nat} (h:(aU p n).length<=i):fo p n i=p i:=if_neg (by omega)
theorem wL {p:Nat->PtS} {j:Nat} (h:bE (p (j+1)) (p j)=false) (i:Nat):fo p (j+2) i=if i=(aU p (j+1)).length then p (j+1) else fo p (j+1) i:=by
 unfold fo;rw [mI h,List.length_append];by_cases h1:i=(aU p (j+1)).length
 ·rw [if_pos h1,if_pos (by rw [h1];simp),h1];unfold ab;simp
 ·rw [if_neg h1];by_cases h2:i < (aU p (j+1)).length
  ·rw [if_pos h2,if_pos (by omega)];unfold ab;rw [List.getElem?_append_left h2]
  ·rw [if_neg h2,if_neg (by simp;omega)]
def cN (lo hi:PtS) (k:Nat) (c:Nat->List PV) (l:Nat) (o:Nat->List PV):List PtS:=aU (ab (aQ (au lo hi k c l o))) (au lo hi k c l o).length
theorem uY {V:List PtS} (h:∀p∈V,p.le 10000) {i:Nat} (hi:i < V.length):(ab (aQ V) i).le 10000:=f7 (λp hp=>h p ((d8 V).mem_iff.1 hp)) (by rw [f5];exact hi)
theorem rR {lo hi:PtS} {k:Nat} {c:Nat->List PV} {l:Nat} {o:Nat->List PV} (h:bM 10000 k c):∀p∈cN lo hi k c l o,p.le 10000:=λp hp=>by
 obtain⟨i,hi,e⟩:=iC hp;rw [e];exact uY (jY h) hi
end Go.Num
namespace Go.Proofs
def Gv:List PV->Option Ans
 |[.agg [.val (.bool s1),.val (.string b1),.val (.string c1),.val (.bool s2),.val (.string b2),.val (.string c2),.val (.bool s3),.val (.string b3),.val (.string c3),.val (.bool s4),.val (.string b4),.val (.string c4),.rs 1 k c,.rs 3 l o]]=>some ⟨some (((PtS.le 10000 (PtS.mk ⟨s1,b1,c1⟩ ⟨s2,b2,c2⟩)/\PtS.le 10000 (PtS.mk ⟨s3,b3,c3⟩ ⟨s4,b4,c4⟩))/\bM 10000 k c/\cQ l o)/\(au (PtS.mk ⟨s1,b1,c1⟩ ⟨s2,b2,c2⟩) (PtS.mk ⟨s3,b3,c3⟩ ⟨s4,b4,c4⟩) k c l o).length<=500),.rs 6 (cN (PtS.mk ⟨s1,b1,c1⟩ ⟨s2,b2,c2⟩) (PtS.mk ⟨s3,b3,c3⟩ ⟨s4,b4,c4⟩) k c l o).length (λi=>(ab (cN (PtS.mk ⟨s1,b1,c1⟩ ⟨s2,b2,c2⟩) (PtS.mk ⟨s3,b3,c3⟩ ⟨s4,b4,c4⟩) k c l o) i).cells),[]⟩
 |_=>none
theorem HB:am {} Tryz.f57 1=true:=by kernel_rfl
theorem f57:FnOk Tryz.prog 57 Gv:=by
 refine FnOk.ofW aj (an (l:=[(94,Ho),(93,Ht)]) (own:=[93]) (inl:=[(92,Iz)]) (by simp [f94,f93]) (by simp [IM])) Tryz.func57 {} 1 HB λargs r e=>?_;unfold Gv at e;split at e
 ·rename_i s1 b1 c1 s2 b2 c2 s3 b3 c3 s4 b4 c4 k c l o
  cases e;refine⟨by simp,λhm=>?_⟩;obtain⟨⟨⟨hlo,hhi⟩,⟨hc,hk⟩,ho,hl⟩,hn⟩:=hm _ rfl;obtain⟨lo,hlo'⟩:∃p,p=(PtS.mk ⟨s1,b1,c1⟩ ⟨s2,b2,c2⟩):=⟨_,rfl⟩;obtain⟨hi,hhi'⟩:∃p,p=(PtS.mk ⟨s3,b3,c3⟩ ⟨s4,b4,c4⟩):=⟨_,rfl⟩;have hc1:∀i,i < k->[.rs 6 (pn c i) (pg c i)]=c i:=λi hi=>(hc i hi).1.symm;have ho1:∀i,i < l->ag (ow o i)=o i:=λi hi=>(ho i hi).symm;refine⟨[],aa [(0,.agg [.val (.bool (PtS.mk ⟨s1,b1,c1⟩ ⟨s2,b2,c2⟩).x.s),.val (.string (PtS.mk ⟨s1,b1,c1⟩ ⟨s2,b2,c2⟩).x.b),.val (.string (PtS.mk ⟨s1,b1,c1⟩ ⟨s2,b2,c2⟩).x.c),.val (.bool (PtS.mk ⟨s1,b1,c1⟩ ⟨s2,b2,c2⟩).y.s),.val (.string (PtS.mk ⟨s1,b1,c1⟩ ⟨s2,b2,c2⟩).y.b),.val (.string (PtS.mk ⟨s1,b1,c1⟩ ⟨s2,b2,c2⟩).y.c),.val (.bool (PtS.mk ⟨s3,b3,c3⟩ ⟨s4,b4,c4⟩).x.s),.val (.string (PtS.mk ⟨s3,b3,c3⟩ ⟨s4,b4,c4⟩).x.b),.val (.string (PtS.mk ⟨s3,b3,c3⟩ ⟨s4,b4,c4⟩).x.c),.val (.bool (PtS.mk ⟨s3,b3,c3⟩ ⟨s4,b4,c4⟩).y.s),.val (.string (PtS.mk ⟨s3,b3,c3⟩ ⟨s4,b4,c4⟩).y.b),.val (.string (PtS.mk ⟨s3,b3,c3⟩ ⟨s4,b4,c4⟩).y.c),.rs 1 k (λi=>[.rs 6 (pn c i) (pg c i)]),.rs 3 l (λi=>ag (ow o i))])] [] 0 [],Wo trivial ⟨⟨rfl,rfl,rfl,rfl,rfl,rfl,rfl,rfl,rfl,rfl,rfl,rfl,⟨rfl,rfl,hc1⟩,⟨rfl,rfl,ho1⟩,qQ⟩,qQ⟩ trivial,?_⟩;rw [<-hlo'] at hlo hn ⊢;rw [<-hhi'] at hhi hn ⊢;clear hlo' hhi' hm;have hCL:bM 10000 k (λi=>[PV.rs 6 (pn c i) (pg c i)]):=⟨λi hi=>⟨rfl,(hc i hi).2⟩,hk⟩;have hOL:cQ l (λi=>ag (ow o i)):=⟨λi hi=>rfl,hl⟩;have p93:(At (λ_=>bq lo hi k (λi=>[PV.rs 6 (pn c i) (pg c i)]) l (λi=>ag (ow o i)))/\(lo.le 10000/\hi.le 10000)/\bM 10000 k (λi=>[PV.rs 6 (pn c i) (pg c i)])/\cQ l (λi=>ag (ow o i)))/\(au lo hi k (λi=>[PV.rs 6 (pn c i) (pg c i)]) l (λi=>ag (ow o i))).length<=500:=⟨⟨rfl,⟨hlo,hhi⟩,hCL,hOL⟩,hn⟩;have hVle:∀i,i < (au lo hi k (λi=>[PV.rs 6 (pn c i) (pg c i)]) l (λi=>ag (ow o i))).length->(ab (aQ (au lo hi k (λi=>[PV.rs 6 (pn c i) (pg c i)]) l (λi=>ag (ow o i)))) i).le 10000:=λi hi2=>uY (jY hCL) hi2;have hn0:(au lo hi k (λi=>[PV.rs 6 (pn c i) (pg c i)]) l (λi=>ag (ow o i))).length<=500:=hn;with_unfolding_all refine⟨⟨λ_ _=>rfl,λ_ _=>rfl⟩,p93,?_⟩
  have hrun:(∀i,i+1 < (au lo hi k (λi=>[PV.rs 6 (pn c i) (pg c i)]) l (λi=>ag (ow o i))).length->bE ((ab (aQ (au lo hi k (λi=>[PV.rs 6 (pn c i) (pg c i)]) l (λi=>ag (ow o i))))) (i+1)) ((ab (aQ (au lo hi k (λi=>[PV.rs 6 (pn c i) (pg c i)]) l (λi=>ag (ow o i))))) i)=false)->(au lo hi k (λi=>[PV.rs 6 (pn c i) (pg c i)]) l (λi=>ag (ow o i))).length=(aU (ab (aQ (au lo hi k (λi=>[PV.rs 6 (pn c i) (pg c i)]) l (λi=>ag (ow o i))))) (au lo hi k (λi=>[PV.rs 6 (pn c i) (pg c i)]) l (λi=>ag (ow o i))).length).length/\∀t,t < (aU (ab (aQ (au lo hi k (λi=>[PV.rs 6 (pn c i) (pg c i)]) l (λi=>ag (ow o i))))) (au lo hi k (λi=>[PV.rs 6 (pn c i) (pg c i)]) l (λi=>ag (ow o i))).length).length->(ab (aU (ab (aQ (au lo hi k (λi=>[PV.rs 6 (pn c i) (pg c i)]) l (λi=>ag (ow o i))))) (au lo hi k (λi=>[PV.rs 6 (pn c i) (pg c i)]) l (λi=>ag (ow o i))).length) t).cells=((ab (aQ (au lo hi k (λi=>[PV.rs 6 (pn c i) (pg c i)]) l (λi=>ag (ow o i))))) (0+t)).cells:=λh=>by
   have h2:=nY h;exact⟨h2.1.symm,λt ht=>by rw [h2.2 t (by rw [h2.1] at ht;exact ht),Nat.zero_add]⟩
  have hsm:(au lo hi k (λi=>[PV.rs 6 (pn c i) (pg c i)]) l (λi=>ag (ow o i))).length < 2->∀i,i+1 < (au lo hi k (λi=>[PV.rs 6 (pn c i) (pg c i)]) l (λi=>ag (ow o i))).length->bE ((ab (aQ (au lo hi k (λi=>[PV.rs 6 (pn c i) (pg c i)]) l (λi=>ag (ow o i))))) (i+1)) ((ab (aQ (au lo hi k (λi=>[PV.rs 6 (pn c i) (pg c i)]) l (λi=>ag (ow o i))))) i)=false:=λh i hi2=>by omega
  have hlt:∀{m:Nat},decide ((m:Int) < 2)=true->m < 2:=λh=>by
   have:=of_decide_eq_true h;omega
  have hge:∀{m:Nat},decide ((m:Int) < 2)=false->0+1<=m:=λh=>by
   have:=of_decide_eq_false h;omega
  with_unfolding_all refine⟨Nat.le_refl 1,λh=>⟨[],aa [(2,.rs 6 (aU (ab (aQ (au lo hi k (λi=>[PV.rs 6 (pn c i) (pg c i)]) l (λi=>ag (ow o i))))) (au lo hi k (λi=>[PV.rs 6 (pn c i) (pg c i)]) l (λi=>ag (ow o i))).length).length (λi=>(ab (aU (ab (aQ (au lo hi k (λi=>[PV.rs 6 (pn c i) (pg c i)]) l (λi=>ag (ow o i))))) (au lo hi k (λi=>[PV.rs 6 (pn c i) (pg c i)]) l (λi=>ag (ow o i))).length) i).cells))] [] 0 [],Wo trivial ⟨⟨by simp,_,rfl,rfl,rfl,(hrun (hsm (hlt h))).1,(hrun (hsm (hlt h))).2⟩,qQ⟩ trivial,rfl,rfl⟩,λh0=>⟨Nat,λkk=>kk+1<=(au lo hi k (λi=>[PV.rs 6 (pn c i) (pg c i)]) l (λi=>ag (ow o i))).length/\∀i,i < kk->bE ((ab (aQ (au lo hi k (λi=>[PV.rs 6 (pn c i) (pg c i)]) l (λi=>ag (ow o i))))) (i+1)) ((ab (aQ (au lo hi k (λi=>[PV.rs 6 (pn c i) (pg c i)]) l (λi=>ag (ow o i))))) i)=false,λkk=>aa [(0,.sl 0 0 0 (au lo hi k (λi=>[PV.rs 6 (pn c i) (pg c i)]) l (λi=>ag (ow o i))).length),(3,.val (.int .i64 ((kk:Int)+1)))] [⟨25,6,0,false,false,(au lo hi k (λi=>[PV.rs 6 (pn c i) (pg c i)]) l (λi=>ag (ow o i))).length,λi=>((ab (aQ (au lo hi k (λi=>[PV.rs 6 (pn c i) (pg c i)]) l (λi=>ag (ow o i))))) i).cells⟩] 1 [[]],λkk=>(au lo hi k (λi=>[PV.rs 6 (pn c i) (pg c i)]) l (λi=>ag (ow o i))).length - kk,⟨0,[some 1],⟨hge h0,λi hi2=>absurd hi2 (Nat.not_lt_zero i)⟩,Wo ⟨qZ (λ_ _=>rfl),qQ⟩ ⟨pP,rfl,qQ⟩ ⟨qQ,qQ⟩⟩,λkk hkk=>?_⟩⟩
  obtain⟨hk1,hk2⟩:kk+1<=(au lo hi k (λi=>[PV.rs 6 (pn c i) (pg c i)]) l (λi=>ag (ow o i))).length/\∀i,i < kk->bE ((ab (aQ (au lo hi k (λi=>[PV.rs 6 (pn c i) (pg c i)]) l (λi=>ag (ow o i))))) (i+1)) ((ab (aQ (au lo hi k (λi=>[PV.rs 6 (pn c i) (pg c i)]) l (λi=>ag (ow o i))))) i)=false:=hkk;have eA:0+((kk:Int)+1).toNat=kk+1:=by omega
  have wA:IntKind.i64.wrap ((kk:Int)+1 - 1)=kk:=by rw [wrap64 (by omega) (by omega)];omega
  have eB:0+(IntKind.i64.wrap ((kk:Int)+1 - 1)).toNat=kk:=by rw [wA];omega
  have hb2:0<=IntKind.i64.wrap ((kk:Int)+1 - 1)/\IntKind.i64.wrap ((kk:Int)+1 - 1) < (au lo hi k (λi=>[PV.rs 6 (pn c i) (pg c i)]) l (λi=>ag (ow o i))).length:=by rw [wA];omega
  have hz:0<=(kk:Int)+1:=by omega
  have hpre:=nY (p:=(ab (aQ (au lo hi k (λi=>[PV.rs 6 (pn c i) (pg c i)]) l (λi=>ag (ow o i)))))) (n:=kk+1) λi hi2=>hk2 i (by omega);have hEq:∀z,bE ((ab (aQ (au lo hi k (λi=>[PV.rs 6 (pn c i) (pg c i)]) l (λi=>ag (ow o i))))) (0+((kk:Int)+1).toNat)) ((ab (aQ (au lo hi k (λi=>[PV.rs 6 (pn c i) (pg c i)]) l (λi=>ag (ow o i))))) (0+(IntKind.i64.wrap ((kk:Int)+1 - 1)).toNat))=z->bE ((ab (aQ (au lo hi k (λi=>[PV.rs 6 (pn c i) (pg c i)]) l (λi=>ag (ow o i))))) (kk+1)) ((ab (aQ (au lo hi k (λi=>[PV.rs 6 (pn c i) (pg c i)]) l (λi=>ag (ow o i))))) kk)=z:=λz h=>by
   rw [eA,eB] at h;exact h
  have hS:bE ((ab (aQ (au lo hi k (λi=>[PV.rs 6 (pn c i) (pg c i)]) l (λi=>ag (ow o i))))) (kk+1)) ((ab (aQ (au lo hi k (λi=>[PV.rs 6 (pn c i) (pg c i)]) l (λi=>ag (ow o i))))) kk)=true->(aU (ab (aQ (au lo hi k (λi=>[PV.rs 6 (pn c i) (pg c i)]) l (λi=>ag (ow o i))))) (kk+1+1)).length=kk+1:=λh=>by rw [gv h];exact hpre.1
  have v3:bE ((ab (aQ (au lo hi k (λi=>[PV.rs 6 (pn c i) (pg c i)]) l (λi=>ag (ow o i))))) (kk+1)) ((ab (aQ (au lo hi k (λi=>[PV.rs 6 (pn c i) (pg c i)]) l (λi=>ag (ow o i))))) kk)=true->PV.val (.int .i64 ((kk:Int)+1))=PV.val (goInt ((aU (ab (aQ (au lo hi k (λi=>[PV.rs 6 (pn c i) (pg c i)]) l (λi=>ag (ow o i))))) (kk+1+1)).length:Nat)):=λh=>by
   rw [hS h];rfl
  have r3:bE ((ab (aQ (au lo hi k (λi=>[PV.rs 6 (pn c i) (pg c i)]) l (λi=>ag (ow o i))))) (kk+1)) ((ab (aQ (au lo hi k (λi=>[PV.rs 6 (pn c i) (pg c i)]) l (λi=>ag (ow o i))))) kk)=true->∀i,i < (au lo hi k (λi=>[PV.rs 6 (pn c i) (pg c i)]) l (λi=>ag (ow o i))).length->(fo (ab (aQ (au lo hi k (λi=>[PV.rs 6 (pn c i) (pg c i)]) l (λi=>ag (ow o i))))) (kk+1+1) i).cells=((ab (aQ (au lo hi k (λi=>[PV.rs 6 (pn c i) (pg c i)]) l (λi=>ag (ow o i))))) i).cells:=λh i _=>by
   have e:fo (ab (aQ (au lo hi k (λi=>[PV.rs 6 (pn c i) (pg c i)]) l (λi=>ag (ow o i))))) (kk+1+1) i=fo (ab (aQ (au lo hi k (λi=>[PV.rs 6 (pn c i) (pg c i)]) l (λi=>ag (ow o i))))) (kk+1) i:=by
    unfold fo;rw [gv h]
   rw [e,yz hpre]
  have vN:PV.val (.int .i64 (IntKind.i64.wrap ((kk:Int)+1+1)))=PV.val (.int .i64 (((kk+1:Nat):Int)+1)):=by
   rw [wrap64 (by omega) (by omega)];rfl
  have hlN:∀{x y:Nat},decide ((x:Int)+1 < (y:Int))=true->x+1 < y:=λh=>by
   have:=of_decide_eq_true h;omega
  have hgN:∀{x y:Nat},decide ((x:Int)+1 < (y:Int))=false->y<=x+1:=λh=>by
   have:=of_decide_eq_false h;omega
  have eLo:0+((kk:Int)+1).toNat=kk+1:=eA;have eLn:(((au lo hi k (λi=>[PV.rs 6 (pn c i) (pg c i)]) l (λi=>ag (ow o i))).length:Int) - ((kk:Int)+1)).toNat=(au lo hi k (λi=>[PV.rs 6 (pn c i) (pg c i)]) l (λi=>ag (ow o i))).length - (kk+1):=by omega
  with_unfolding_all refine⟨λh1=>⟨⟨hz,of_decide_eq_true h1⟩,hb2,λh2=>⟨⟨hz,Int.le_of_lt (of_decide_eq_true h1),Int.le_refl _⟩,Nat,λj=>1<=j/\kk+1+j<=(au lo hi k (λi=>[PV.rs 6 (pn c i) (pg c i)]) l (λi=>ag (ow o i))).length/\(aU (ab (aQ (au lo hi k (λi=>[PV.rs 6 (pn c i) (pg c i)]) l (λi=>ag (ow o i))))) (kk+1+j)).length+1<=kk+1+j/\kk+1<=(aU (ab (aQ (au lo hi k (λi=>[PV.rs 6 (pn c i) (pg c i)]) l (λi=>ag (ow o i))))) (kk+1+j)).length,λj=>aa [(0,.sl 0 0 0 (au lo hi k (λi=>[PV.rs 6 (pn c i) (pg c i)]) l (λi=>ag (ow o i))).length),(3,.val (goInt ((aU (ab (aQ (au lo hi k (λi=>[PV.rs 6 (pn c i) (pg c i)]) l (λi=>ag (ow o i))))) (kk+1+j)).length:Nat))),(4,.sl 0 0 (kk+1) ((au lo hi k (λi=>[PV.rs 6 (pn c i) (pg c i)]) l (λi=>ag (ow o i))).length - (kk+1))),(5,.val (goInt (j:Nat)))] [⟨25,6,0,false,false,(au lo hi k (λi=>[PV.rs 6 (pn c i) (pg c i)]) l (λi=>ag (ow o i))).length,λi=>(fo (ab (aQ (au lo hi k (λi=>[PV.rs 6 (pn c i) (pg c i)]) l (λi=>ag (ow o i))))) (kk+1+j) i).cells⟩] 1 [[]],λj=>(au lo hi k (λi=>[PV.rs 6 (pn c i) (pg c i)]) l (λi=>ag (ow o i))).length - j,⟨1,[some 0],⟨Nat.le_refl 1,by have:=hlN h1;omega,by rw [hS (hEq _ h2)];omega,by rw [hS (hEq _ h2)];omega⟩,Wo ⟨qZ (r3 (hEq _ h2)),qQ⟩ ⟨pP,v3 (hEq _ h2),⟨rfl,eLo,eLn,aN rfl,_,rfl⟩,rfl,qQ⟩ ⟨qQ,qQ⟩⟩,λj hj=>?_⟩,λh2=>⟨kk+1,[some 0],⟨by have:=hlN h1;omega,λi hi2=>(Nat.lt_succ_iff_lt_or_eq.1 hi2).elim (hk2 i) λe=>by rw [e];exact hEq _ h2⟩,by have:=hlN h1;show(au lo hi k (λi=>[PV.rs 6 (pn c i) (pg c i)]) l (λi=>ag (ow o i))).length - (kk+1) < (au lo hi k (λi=>[PV.rs 6 (pn c i) (pg c i)]) l (λi=>ag (ow o i))).length - kk;omega,Wo ⟨qZ (λ_ _=>rfl),qQ⟩ ⟨pP,vN,qQ⟩ ⟨qQ,qQ⟩⟩⟩,λh1=>⟨[],aa [(2,.rs 6 (aU (ab (aQ (au lo hi k (λi=>[PV.rs 6 (pn c i) (pg c i)]) l (λi=>ag (ow o i))))) (au lo hi k (λi=>[PV.rs 6 (pn c i) (pg c i)]) l (λi=>ag (ow o i))).length).length (λi=>(ab (aU (ab (aQ (au lo hi k (λi=>[PV.rs 6 (pn c i) (pg c i)]) l (λi=>ag (ow o i))))) (au lo hi k (λi=>[PV.rs 6 (pn c i) (pg c i)]) l (λi=>ag (ow o i))).length) i).cells))] [] 0 [],Wo trivial ⟨⟨by simp,_,rfl,rfl,rfl,(hrun (λi hi2=>hk2 i (by have:=hgN h1;omega))).1,(hrun (λi hi2=>hk2 i (by have:=hgN h1;omega))).2⟩,qQ⟩ trivial,rfl,rfl⟩⟩
  obtain⟨hj1,hj2,hj3,hj4⟩:1<=j/\kk+1+j<=(au lo hi k (λi=>[PV.rs 6 (pn c i) (pg c i)]) l (λi=>ag (ow o i))).length/\(aU (ab (aQ (au lo hi k (λi=>[PV.rs 6 (pn c i) (pg c i)]) l (λi=>ag (ow o i))))) (kk+1+j)).length+1<=kk+1+j/\kk+1<=(aU (ab (aQ (au lo hi k (λi=>[PV.rs 6 (pn c i) (pg c i)]) l (λi=>ag (ow o i))))) (kk+1+j)).length:=hj;have eC:kk+1+(j:Int).toNat=kk+1+j:=by omega
  have wC:IntKind.i64.wrap ((j:Int) - 1)=((j - 1:Nat):Int):=by rw [wrap64 (by omega) (by omega)];omega
  have eD:kk+1+(IntKind.i64.wrap ((j:Int) - 1)).toNat=kk+j:=by rw [wC];omega
  have bC:∀{y:Nat},decide ((j:Int) < (y:Int))=true->(0<=(j:Int)/\(j:Int) < (y:Int))/\0<=IntKind.i64.wrap ((j:Int) - 1)/\IntKind.i64.wrap ((j:Int) - 1) < (y:Int):=λh=>by
   have:=of_decide_eq_true h;rw [wC];omega
  have w1:fo (ab (aQ (au lo hi k (λi=>[PV.rs 6 (pn c i) (pg c i)]) l (λi=>ag (ow o i))))) (kk+1+j) (kk+1+j)=(ab (aQ (au lo hi k (λi=>[PV.rs 6 (pn c i) (pg c i)]) l (λi=>ag (ow o i))))) (kk+1+j):=uX (by omega);have w2:fo (ab (aQ (au lo hi k (λi=>[PV.rs 6 (pn c i) (pg c i)]) l (λi=>ag (ow o i))))) (kk+1+j) (kk+j)=(ab (aQ (au lo hi k (λi=>[PV.rs 6 (pn c i) (pg c i)]) l (λi=>ag (ow o i))))) (kk+j):=uX (by omega);have hE:∀z,bE (fo (ab (aQ (au lo hi k (λi=>[PV.rs 6 (pn c i) (pg c i)]) l (λi=>ag (ow o i))))) (kk+1+j) (kk+1+(j:Int).toNat)) (fo (ab (aQ (au lo hi k (λi=>[PV.rs 6 (pn c i) (pg c i)]) l (λi=>ag (ow o i))))) (kk+1+j) (kk+1+(IntKind.i64.wrap ((j:Int) - 1)).toNat))=z->bE ((ab (aQ (au lo hi k (λi=>[PV.rs 6 (pn c i) (pg c i)]) l (λi=>ag (ow o i))))) (kk+j+1)) ((ab (aQ (au lo hi k (λi=>[PV.rs 6 (pn c i) (pg c i)]) l (λi=>ag (ow o i))))) (kk+j))=z:=λz h=>by
   rw [eC,eD,w1,w2,show kk+1+j=kk+j+1 by omega] at h;exact h
  have hn:∀B:Bool,(!B)=true->B=false:=λB h=>by simpa using h
  have hy:∀B:Bool,(!B)=false->B=true:=λB h=>by simpa using h
  have eJ:kk+1+(j+1)=kk+j+2:=by omega
  have eJ0:kk+1+j=kk+j+1:=by omega
  have vJ:PV.val (.int .i64 (IntKind.i64.wrap ((j:Int)+1)))=PV.val (goInt ((j+1:Nat):Int)):=by
   rw [wrap64 (by omega) (by omega)];rfl
  have qS:bE ((ab (aQ (au lo hi k (λi=>[PV.rs 6 (pn c i) (pg c i)]) l (λi=>ag (ow o i))))) (kk+j+1)) ((ab (aQ (au lo hi k (λi=>[PV.rs 6 (pn c i) (pg c i)]) l (λi=>ag (ow o i))))) (kk+j))=true->(aU (ab (aQ (au lo hi k (λi=>[PV.rs 6 (pn c i) (pg c i)]) l (λi=>ag (ow o i))))) (kk+1+(j+1))).length=(aU (ab (aQ (au lo hi k (λi=>[PV.rs 6 (pn c i) (pg c i)]) l (λi=>ag (ow o i))))) (kk+1+j)).length:=λh=>by rw [eJ,eJ0,gv h]
  have qT:bE ((ab (aQ (au lo hi k (λi=>[PV.rs 6 (pn c i) (pg c i)]) l (λi=>ag (ow o i))))) (kk+j+1)) ((ab (aQ (au lo hi k (λi=>[PV.rs 6 (pn c i) (pg c i)]) l (λi=>ag (ow o i))))) (kk+j))=false->(aU (ab (aQ (au lo hi k (λi=>[PV.rs 6 (pn c i) (pg c i)]) l (λi=>ag (ow o i))))) (kk+1+(j+1))).length=(aU (ab (aQ (au lo hi k (λi=>[PV.rs 6 (pn c i) (pg c i)]) l (λi=>ag (ow o i))))) (kk+1+j)).length+1:=λh=>by rw [eJ,eJ0,mI h,List.length_append];rfl
  have vS:bE ((ab (aQ (au lo hi k (λi=>[PV.rs 6 (pn c i) (pg c i)]) l (λi=>ag (ow o i))))) (kk+j+1)) ((ab (aQ (au lo hi k (λi=>[PV.rs 6 (pn c i) (pg c i)]) l (λi=>ag (ow o i))))) (kk+j))=true->PV.val (goInt ((aU (ab (aQ (au lo hi k (λi=>[PV.rs 6 (pn c i) (pg c i)]) l (λi=>ag (ow o i))))) (kk+1+j)).length:Nat))=PV.val (goInt ((aU (ab (aQ (au lo hi k (λi=>[PV.rs 6 (pn c i) (pg c i)]) l (λi=>ag (ow o i))))) (kk+1+(j+1))).length:Nat)):=λh=>by rw [qS h]
  have vT:bE ((ab (aQ (au lo hi k (λi=>[PV.rs 6 (pn c i) (pg c i)]) l (λi=>ag (ow o i))))) (kk+j+1)) ((ab (aQ (au lo hi k (λi=>[PV.rs 6 (pn c i) (pg c i)]) l (λi=>ag (ow o i))))) (kk+j))=false->PV.val (.int .i64 (IntKind.i64.wrap (((aU (ab (aQ (au lo hi k (λi=>[PV.rs 6 (pn c i) (pg c i)]) l (λi=>ag (ow o i))))) (kk+1+j)).length:Int)+1)))=PV.val (goInt ((aU (ab (aQ (au lo hi k (λi=>[PV.rs 6 (pn c i) (pg c i)]) l (λi=>ag (ow o i))))) (kk+1+(j+1))).length:Nat)):=λh=>by
   rw [qT h,wrap64 (by omega) (by omega)];rfl
  have rS:bE ((ab (aQ (au lo hi k (λi=>[PV.rs 6 (pn c i) (pg c i)]) l (λi=>ag (ow o i))))) (kk+j+1)) ((ab (aQ (au lo hi k (λi=>[PV.rs 6 (pn c i) (pg c i)]) l (λi=>ag (ow o i))))) (kk+j))=true->∀i,i < (au lo hi k (λi=>[PV.rs 6 (pn c i) (pg c i)]) l (λi=>ag (ow o i))).length->(fo (ab (aQ (au lo hi k (λi=>[PV.rs 6 (pn c i) (pg c i)]) l (λi=>ag (ow o i))))) (kk+1+(j+1)) i).cells=(fo (ab (aQ (au lo hi k (λi=>[PV.rs 6 (pn c i) (pg c i)]) l (λi=>ag (ow o i))))) (kk+1+j) i).cells:=λh i _=>by
   unfold fo;rw [eJ,eJ0,gv h]
  have rT:bE ((ab (aQ (au lo hi k (λi=>[PV.rs 6 (pn c i) (pg c i)]) l (λi=>ag (ow o i))))) (kk+j+1)) ((ab (aQ (au lo hi k (λi=>[PV.rs 6 (pn c i) (pg c i)]) l (λi=>ag (ow o i))))) (kk+j))=false->∀i,i < (au lo hi k (λi=>[PV.rs 6 (pn c i) (pg c i)]) l (λi=>ag (ow o i))).length->(fo (ab (aQ (au lo hi k (λi=>[PV.rs 6 (pn c i) (pg c i)]) l (λi=>ag (ow o i))))) (kk+1+(j+1)) i).cells=if i=0+((aU (ab (aQ (au lo hi k (λi=>[PV.rs 6 (pn c i) (pg c i)]) l (λi=>ag (ow o i))))) (kk+1+j)).length:Int).toNat then(fo (ab (aQ (au lo hi k (λi=>[PV.rs 6 (pn c i) (pg c i)]) l (λi=>ag (ow o i))))) (kk+1+j) (kk+1+(j:Int).toNat)).cells else(fo (ab (aQ (au lo hi k (λi=>[PV.rs 6 (pn c i) (pg c i)]) l (λi=>ag (ow o i))))) (kk+1+j) i).cells:=λh i _=>by
   rw [eJ,wL h,eC,w1,<-eJ0,Nat.zero_add,Int.toNat_natCast];split<;>rfl
  with_unfolding_all refine⟨λh3=>⟨(bC h3).1,(bC h3).2,λh4=>⟨(bC h3).1,⟨Int.natCast_nonneg _,by have:=(bC h3).1;omega⟩,⟨j+1,[some 0],⟨by omega,by have:=(bC h3).1;omega,by rw [qT (hE _ (hn _ h4))];omega,by rw [qT (hE _ (hn _ h4))];omega⟩,by have:=(bC h3).1;show(au lo hi k (λi=>[PV.rs 6 (pn c i) (pg c i)]) l (λi=>ag (ow o i))).length - (j+1) < (au lo hi k (λi=>[PV.rs 6 (pn c i) (pg c i)]) l (λi=>ag (ow o i))).length - j;omega,Wo ⟨qZ (rT (hE _ (hn _ h4))),qQ⟩ ⟨pP,vT (hE _ (hn _ h4)),pP,vJ,qQ⟩ ⟨qQ,qQ⟩⟩⟩,λh4=>⟨j+1,[some 0],⟨by omega,by have:=(bC h3).1;omega,by rw [qS (hE _ (hy _ h4))];omega,by rw [qS (hE _ (hy _ h4))];omega⟩,by have:=(bC h3).1;show(au lo hi k (λi=>[PV.rs 6 (pn c i) (pg c i)]) l (λi=>ag (ow o i))).length - (j+1) < (au lo hi k (λi=>[PV.rs 6 (pn c i) (pg c i)]) l (λi=>ag (ow o i))).length - j;omega,Wo ⟨qZ (rS (hE _ (hy _ h4))),qQ⟩ ⟨pP,vS (hE _ (hy _ h4)),pP,vJ,qQ⟩ ⟨qQ,qQ⟩⟩⟩,λh3=>?_⟩
  have hjn:kk+1+j=(au lo hi k (λi=>[PV.rs 6 (pn c i) (pg c i)]) l (λi=>ag (ow o i))).length:=by
   have:∀{x y:Nat},decide ((x:Int) < (y:Int))=false->y<=x:=λh=>by
    have:=of_decide_eq_false h;omega
   have:=this h3;omega
  have q0:(0:Int)<=((aU (ab (aQ (au lo hi k (λi=>[PV.rs 6 (pn c i) (pg c i)]) l (λi=>ag (ow o i))))) (kk+1+j)).length:Nat):=Int.natCast_nonneg _;have qn:(((aU (ab (aQ (au lo hi k (λi=>[PV.rs 6 (pn c i) (pg c i)]) l (λi=>ag (ow o i))))) (kk+1+j)).length:Nat):Int)<=(au lo hi k (λi=>[PV.rs 6 (pn c i) (pg c i)]) l (λi=>ag (ow o i))).length:=by omega
  have eQ:((((aU (ab (aQ (au lo hi k (λi=>[PV.rs 6 (pn c i) (pg c i)]) l (λi=>ag (ow o i))))) (kk+1+j)).length:Nat):Int) - 0).toNat=(aU (ab (aQ (au lo hi k (λi=>[PV.rs 6 (pn c i) (pg c i)]) l (λi=>ag (ow o i))))) (au lo hi k (λi=>[PV.rs 6 (pn c i) (pg c i)]) l (λi=>ag (ow o i))).length).length:=by rw [hjn];omega
  have np:0 < (au lo hi k (λi=>[PV.rs 6 (pn c i) (pg c i)]) l (λi=>ag (ow o i))).length:=by omega
  with_unfolding_all refine⟨⟨q0,qn,Int.le_refl _⟩,np,⟨Int.le_refl 0,q0,qn⟩,⟨[],aa [(2,.rs 6 (aU (ab (aQ (au lo hi k (λi=>[PV.rs 6 (pn c i) (pg c i)]) l (λi=>ag (ow o i))))) (au lo hi k (λi=>[PV.rs 6 (pn c i) (pg c i)]) l (λi=>ag (ow o i))).length).length (λi=>(ab (aU (ab (aQ (au lo hi k (λi=>[PV.rs 6 (pn c i) (pg c i)]) l (λi=>ag (ow o i))))) (au lo hi k (λi=>[PV.rs 6 (pn c i) (pg c i)]) l (λi=>ag (ow o i))).length) i).cells))] [] 0 [],Wo trivial ⟨⟨by simp,_,rfl,rfl,rfl,eQ,?_⟩,qQ⟩ trivial,rfl,rfl⟩⟩
  intro t ht;have hq:((aU (ab (aQ (au lo hi k (λi=>[PV.rs 6 (pn c i) (pg c i)]) l (λi=>ag (ow o i))))) (kk+1+j)).length)=(aU (ab (aQ (au lo hi k (λi=>[PV.rs 6 (pn c i) (pg c i)]) l (λi=>ag (ow o i))))) (au lo hi k (λi=>[PV.rs 6 (pn c i) (pg c i)]) l (λi=>ag (ow o i))).length).length:=by rw [hjn]
  have ht2:t < (aU (ab (aQ (au lo hi k (λi=>[PV.rs 6 (pn c i) (pg c i)]) l (λi=>ag (ow o i))))) (kk+1+j)).length:=by rw [hq];exact ht
  show(ab (aU (ab (aQ (au lo hi k (λi=>[PV.rs 6 (pn c i) (pg c i)]) l (λi=>ag (ow o i))))) (au lo hi k (λi=>[PV.rs 6 (pn c i) (pg c i)]) l (λi=>ag (ow o i))).length) t).cells=if 0+((((aU (ab (aQ (au lo hi k (λi=>[PV.rs 6 (pn c i) (pg c i)]) l (λi=>ag (ow o i))))) (kk+1+j)).length:Nat):Int)).toNat<=0+Int.toNat 0+t/\_ then _ else(fo (ab (aQ (au lo hi k (λi=>[PV.rs 6 (pn c i) (pg c i)]) l (λi=>ag (ow o i))))) (kk+1+j) (0+Int.toNat 0+t)).cells
  rw [if_neg (λh=>by have:=h.1;simp only [Int.toNat_natCast] at this;omega),show 0+Int.toNat 0+t=t by simp];unfold fo;rw [if_pos ht2,hjn]
 ·cases e
end Go.Proofs
namespace Go.Num
def isRg (K:Nat) (xs:List PV):Prop:=xs=bq (bO xs) (bP xs) (gK xs) (gC xs) (gL xs) (gO xs)/\((bO xs).le K/\(bP xs).le K)/\bM K (gK xs) (gC xs)/\cQ (gL xs) (gO xs)
def ia (k:Nat) (c:Nat->List PV) (g:Nat->PtS) (e o:Int):Bool:=decide (e < 2)||aD (λi=>cZ (pn c i) (ae (pg c i)) (g e.toNat) (g o.toNat)) k
end Go.Num
namespace Go.Proofs
def HC:List PV->Option Ans
 |[.agg xs,.agg [.rs 6 n g,.rs 2 m h],.val (.int .i64 e),.val (.int .i64 o)]=>some ⟨some (isRg 10000 xs/\isPL 10000 n g/\(0<=e/\e < n)/\0<=o/\o < n),.val (.bool (ia (gK xs) (gC xs) (ae g) e o)),[]⟩
 |_=>none
def D69:Opt:={ perm:=jl [(3,(.rd 0 (.rd 1 (.rd 2 (.rd 3 (.rd 4 (.rd 5 (.rd 6 (.rd 7 (.rd 8 (.rd 9 (.alt 10 (.mk 11 .nil) (.mk 11 (.mk 10 .nil))))))))))))))] }
theorem HD:am D69.toOrd Tryz.f69 4=true:=by kernel_rfl
theorem f69:FnOk Tryz.prog 69 HC:=by
 refine FnOk.ofW aj (an (l:=[(103,C3)]) (own:=[]) (inl:=[]) (by simp [f103]) (by simp)) Tryz.func69 D69 4 HD λargs r e=>?_;unfold HC at e;split at e
 ·rename_i xs n g m h e o
  cases e;refine⟨by simp,λhm=>?_⟩;obtain⟨⟨h1,⟨hlo,hhi⟩,hcl,hol⟩,hg,he,ho⟩:=hm _ rfl;generalize bO xs=lo at *
  generalize bP xs=hi at *
  generalize gK xs=k at *
  generalize gC xs=c at *
  generalize gL xs=l at *
  generalize gO xs=w at *
  subst h1;clear hm;refine⟨[],aa [(0,.agg (bq lo hi k c l w)),(1,.agg [.rs 6 n (λi=>(ae g i).cells),.rs 2 m h]),(2,.val (.int .i64 e)),(3,.val (.int .i64 o))] [] 0 [],Wo trivial ⟨⟨rfl,rfl,rfl,rfl,rfl,rfl,rfl,rfl,rfl,rfl,rfl,rfl,qW,qW,qQ⟩,⟨⟨rfl,rfl,λi hi=>(hg.1 i hi).1.symm⟩,qW,qQ⟩,rfl,rfl,qQ⟩ trivial,?_⟩;obtain⟨X,hX⟩:∃X,X=ia k c (ae g) e o:=⟨_,rfl⟩;rw [<-hX];have v1:decide (e < 2)=true->PV.val (.bool true)=PV.val (.bool X):=λh=>by rw [hX,ia,h];rfl
  have v2:decide (e < 2)=false->PV.val (.bool (aD (λi=>cZ (pn c i) (ae (pg c i)) (ae g e.toNat) (ae g o.toNat)) k))=PV.val (.bool X):=λh=>by rw [hX,ia,h];rfl
  have cg:∀i:Int,0<=i/\i < n->ld 10000 (ae g i.toNat).cells:=λi h=>⟨rfl,(hg.1 i.toNat (by omega)).2⟩;have pre:bM 10000 k (λi=>[.rs 6 (pn c i) (pg c i)])/\ld 10000 (ae g e.toNat).cells/\ld 10000 (ae g o.toNat).cells:=⟨⟨λi hi=>⟨rfl,(hcl.1 i hi).2⟩,hcl.2⟩,cg e he,cg o ho⟩;with_unfolding_all exact⟨λh1=>⟨[],aa [(8,.val (.bool X))] [] 0 [],Wo trivial ⟨v1 h1,qQ⟩ trivial,rfl,rfl⟩,λh1=>⟨he,ho,⟨pre,[],aa [(8,.val (.bool X))] [] 0 [],Wo trivial ⟨v2 h1,qQ⟩ trivial,rfl,rfl⟩,pre,[],aa [(8,.val (.bool X))] [] 0 [],Wo trivial ⟨v2 h1,qQ⟩ trivial,rfl,rfl⟩⟩
 ·cases e
end Go.Proofs
namespace Go.Num
theorem sr {n:Nat} (k:Nat):decide (((n:Nat):Int) > (k:Int))=decide (k < n):=by
 rw [decide_eq_decide];omega
theorem IA {n:Nat} (k:Nat):decide (((n:Nat):Int) < (k:Int))=decide (n < k):=by
 rw [decide_eq_decide];omega
def iS (n:Nat) (p:Nat->PtS):Bool:=(decide (10 < n)&&decide (n < 63)||decide (66 < n))||aD (λi=>bx (p i)) n
def mJ (lo hi:PtS) (k:Nat) (n:Nat->Nat) (p:Nat->Nat->PtS) (l:Nat):Bool:=(bx lo||bx hi||decide (40 < l))||aD (λi=>iS (n i) (p i)) k||(decide (k<=32)&&(decide (6 < k)||decide (24 < cq n k))||decide (35 < k))
theorem uZ {n:Nat} {p:Nat->PtS} (h:iS n p=false):n<=66:=by
 unfold iS at h;simp only [Bool.or_eq_false_iff,decide_eq_false_iff_not] at h;omega
end Go.Num
namespace Go.Proofs
def Gw:List PV->Option Ans
 |[.val v]=>some ⟨some (isPk 140737488355328 v),.val (.bool (bx (aO v))),[]⟩
 |_=>none
def D86:Opt:={  }
theorem HE:am D86.toOrd Tryz.f86 1=true:=by kernel_rfl
theorem f86:FnOk Tryz.prog 86 Gw:=by
 refine FnOk.ofW aj (an (l:=[]) (own:=[]) (inl:=[]) (by simp []) (by simp)) Tryz.func86 D86 1 HE λargs r e=>?_;unfold Gw at e;split at e
 ·rename_i v
  cases e;refine⟨by simp,λhm=>?_⟩;obtain⟨p,rfl,hp⟩:=hm _ rfl;refine⟨[],aa [(0,.val p.v)] [] 0 [],Wo trivial ⟨rfl,qQ⟩ trivial,?_⟩;obtain⟨X,hX⟩:∃X,X=bx p:=⟨_,rfl⟩;have hx:bx (aO p.v)=X:=hX.symm;rw [hx];have e:X=((decide ((((p.x.b).size:Nat):Int) > 12)||decide ((((p.x.c).size:Nat):Int) > 12))||(decide ((((p.y.b).size:Nat):Int) > 12)||decide ((((p.y.c).size:Nat):Int) > 12))):=by rw [hX,bx,nq,nq,<-sr 12,<-sr 12,<-sr 12,<-sr 12];rfl
  have v4:decide ((((p.x.b).size:Nat):Int) > 12)=false->decide ((((p.x.c).size:Nat):Int) > 12)=false->decide ((((p.y.b).size:Nat):Int) > 12)=false->PV.val (.bool (decide ((((p.y.c).size:Nat):Int) > 12)))=PV.val (.bool X):=λh1 h2 h3=>by rw [e,h1,h2,h3];rfl
  have v3:decide ((((p.y.b).size:Nat):Int) > 12)=true->PV.val (.bool true)=PV.val (.bool X):=λh=>by rw [e,h,Bool.true_or,Bool.or_true]
  have v2:decide ((((p.x.c).size:Nat):Int) > 12)=true->PV.val (.bool true)=PV.val (.bool X):=λh=>by rw [e,h,Bool.or_true,Bool.true_or]
  have v1:decide ((((p.x.b).size:Nat):Int) > 12)=true->PV.val (.bool true)=PV.val (.bool X):=λh=>by rw [e,h,Bool.true_or,Bool.true_or]
  with_unfolding_all exact⟨λh1=>⟨λh2=>⟨λh3=>⟨[],aa [(2,.val (.bool X))] [] 0 [],Wo trivial ⟨v4 h1 h2 h3,qQ⟩ trivial,rfl,rfl⟩,λh3=>⟨[],aa [(2,.val (.bool X))] [] 0 [],Wo trivial ⟨v3 h3,qQ⟩ trivial,rfl,rfl⟩⟩,λh2=>⟨λh=>(nomatch h),λ_=>⟨[],aa [(2,.val (.bool X))] [] 0 [],Wo trivial ⟨v2 h2,qQ⟩ trivial,rfl,rfl⟩⟩⟩,λh1=>⟨λh=>(nomatch h),λ_=>⟨λh=>(nomatch h),λ_=>⟨[],aa [(2,.val (.bool X))] [] 0 [],Wo trivial ⟨v1 h1,qQ⟩ trivial,rfl,rfl⟩⟩⟩⟩
 ·cases e
def HF:List PV->Option Ans
 |[.rs 6 n g]=>some ⟨some (isPL 140737488355328 n g),.val (.bool (iS n (ae g))),[]⟩
 |_=>none
def D87:Opt:={  }
theorem HG:am D87.toOrd Tryz.f87 1=true:=by kernel_rfl
theorem f87:FnOk Tryz.prog 87 HF:=by
 refine FnOk.ofW aj (an (l:=[(86,Gw)]) (own:=[]) (inl:=[]) (by simp [f86]) (by simp)) Tryz.func87 D87 1 HG λargs r e=>?_;unfold HF at e;split at e
 ·rename_i n g
  cases e;refine⟨by simp,λhm=>?_⟩;obtain⟨hg,hn⟩:=hm _ rfl;refine⟨[],aa [(0,.rs 6 n (λi=>(ae g i).cells))] [] 0 [],Wo trivial ⟨⟨rfl,rfl,λi hi=>(hg i hi).1.symm⟩,qQ⟩ trivial,?_⟩;obtain⟨X,hX⟩:∃X,X=iS n (ae g):=⟨_,rfl⟩;rw [<-hX];have e:X=((decide ((n:Int) > 10)&&decide ((n:Int) < 63)||decide ((n:Int) > 66))||aD (λi=>bx (ae g i)) n):=by rw [hX,iS,<-sr 10,<-sr 66,<-IA 63];rfl
  have z:∀a b c:Bool,(a&&b||c)=true->(a&&b||c||aD (λi=>bx (ae g i)) n)=true:=λa b c h=>by rw [h];rfl
  have v1:∀c:Bool,c=(decide ((n:Int) > 10)&&decide ((n:Int) < 63)||decide ((n:Int) > 66))->c=true->PV.val (.bool true)=PV.val (.bool X):=λc h h'=>by rw [e,<-h,h'];rfl
  have m1:decide ((n:Int) > 10)=true->decide ((n:Int) < 63)=false->decide ((n:Int) > 66)=true->(decide ((n:Int) > 10)&&decide ((n:Int) < 63)||decide ((n:Int) > 66))=true:=λa b c=>by rw [c,Bool.or_true]
  have m2:decide ((n:Int) > 10)=true->decide ((n:Int) < 63)=true->(decide ((n:Int) > 10)&&decide ((n:Int) < 63)||decide ((n:Int) > 66))=true:=λa b=>by rw [a,b];rfl
  have m3:decide ((n:Int) > 66)=true->(decide ((n:Int) > 10)&&decide ((n:Int) < 63)||decide ((n:Int) > 66))=true:=λa=>by rw [a,Bool.or_true]
  have m4:decide ((n:Int) < 63)=false->decide ((n:Int) > 66)=false->(decide ((n:Int) > 10)&&decide ((n:Int) < 63)||decide ((n:Int) > 66))=false:=λa b=>by rw [a,b,Bool.and_false];rfl
  have m5:decide ((n:Int) > 10)=false->decide ((n:Int) > 66)=false->(decide ((n:Int) > 10)&&decide ((n:Int) < 63)||decide ((n:Int) > 66))=false:=λa b=>by rw [a,b];rfl
  have v2:(decide ((n:Int) > 10)&&decide ((n:Int) < 63)||decide ((n:Int) > 66))=true->PV.val (.bool true)=PV.val (.bool X):=λh=>by rw [e,h];rfl
  have rT:∀i:Nat,(i:Int) < n->bx (ae g (i:Int).toNat)=true->PV.val (.bool true)=PV.val (.bool X):=λi hi h=>by
   rw [Int.toNat_natCast] at h;rw [e,bl.2 ⟨i,by omega,h⟩,Bool.or_true]
  have rN:∀i:Nat,(∀j,j < i->bx (ae g j)=false)->bx (ae g (i:Int).toNat)=false->∀j,j < i+1->bx (ae g j)=false:=λi hI h j hj=>by
   rw [Int.toNat_natCast] at h;rcases Nat.lt_or_ge j i with h' | h'
   ·exact hI j h'
   ·obtain rfl:j=i:=by omega
    exact h
  have rF:∀i:Nat,(decide ((n:Int) > 10)&&decide ((n:Int) < 63)||decide ((n:Int) > 66))=false->(∀j,j < i->bx (ae g j)=false)->(n:Int)<=i->PV.val (.bool false)=PV.val (.bool X):=λi h hI hi=>by
   rw [e,h,ay.2 λj hj=>hI j (by omega)];rfl
  have wi:∀i:Nat,(i:Int) < n->PV.val (.int .i64 (IntKind.i64.wrap ((i:Int)+1)))=PV.val (.int .i64 ((i+1:Nat):Int)):=λi h=>by
   rw [wrap64 (by omega) (by omega)];rfl
  have pk:∀i:Nat,(i:Int) < n->isPk 140737488355328 (ae g (i:Int).toNat).v:=λi h=>⟨_,rfl,(hg (i:Int).toNat (by omega)).2⟩;have mu:∀i:Nat,(i:Int) < n->n - (i+1) < n - i:=λi h=>by omega
  have le:∀i:Nat,(i:Int) < n->i+1<=n:=λi h=>by omega
  with_unfolding_all exact⟨λh1=>⟨λh2=>⟨λh3=>⟨[],aa [(2,.val (.bool X))] [] 0 [],Wo trivial ⟨v2 (m1 h1 h2 h3),qQ⟩ trivial,rfl,rfl⟩,λh3=>⟨Nat,λi=>(decide ((n:Int) > 10)&&decide ((n:Int) < 63)||decide ((n:Int) > 66))=false/\i<=n/\∀j,j < i->bx (ae g j)=false,λi=>aa [(0,.rs 6 n (λi=>(ae g i).cells)),(3,.val (goInt i))] [] 0 [],λi=>n - i,⟨0,[],⟨m4 h2 h3,Nat.zero_le _,λj hj=>absurd hj (Nat.not_lt_zero j)⟩,Wo trivial ⟨qW,rfl,qQ⟩ trivial⟩,λi hi=>⟨λh1=>⟨⟨Int.natCast_nonneg i,bN h1⟩,pk i (bN h1),λh2=>⟨[],aa [(2,.val (.bool X))] [] 0 [],Wo trivial ⟨rT i (bN h1) h2,qQ⟩ trivial,rfl,rfl⟩,λh2=>⟨i+1,[],⟨hi.1,le i (bN h1),rN i hi.2.2 h2⟩,mu i (bN h1),Wo trivial ⟨qW,wi i (bN h1),qQ⟩ trivial⟩⟩,λh1=>⟨[],aa [(2,.val (.bool X))] [] 0 [],Wo trivial ⟨rF i hi.1 hi.2.2 (dC h1),qQ⟩ trivial,rfl,rfl⟩⟩⟩⟩,λh2=>⟨λ_=>⟨[],aa [(2,.val (.bool X))] [] 0 [],Wo trivial ⟨v2 (m2 h1 h2),qQ⟩ trivial,rfl,rfl⟩,λh=>(nomatch h)⟩⟩,λh1=>⟨λ_=>⟨λh3=>⟨[],aa [(2,.val (.bool X))] [] 0 [],Wo trivial ⟨v2 (m3 h3),qQ⟩ trivial,rfl,rfl⟩,λh3=>⟨Nat,λi=>(decide ((n:Int) > 10)&&decide ((n:Int) < 63)||decide ((n:Int) > 66))=false/\i<=n/\∀j,j < i->bx (ae g j)=false,λi=>aa [(0,.rs 6 n (λi=>(ae g i).cells)),(3,.val (goInt i))] [] 0 [],λi=>n - i,⟨0,[],⟨m5 h1 h3,Nat.zero_le _,λj hj=>absurd hj (Nat.not_lt_zero j)⟩,Wo trivial ⟨qW,rfl,qQ⟩ trivial⟩,λi hi=>⟨λh1=>⟨⟨Int.natCast_nonneg i,bN h1⟩,pk i (bN h1),λh2=>⟨[],aa [(2,.val (.bool X))] [] 0 [],Wo trivial ⟨rT i (bN h1) h2,qQ⟩ trivial,rfl,rfl⟩,λh2=>⟨i+1,[],⟨hi.1,le i (bN h1),rN i hi.2.2 h2⟩,mu i (bN h1),Wo trivial ⟨qW,wi i (bN h1),qQ⟩ trivial⟩⟩,λh1=>⟨[],aa [(2,.val (.bool X))] [] 0 [],Wo trivial ⟨rF i hi.1 hi.2.2 (dC h1),qQ⟩ trivial,rfl,rfl⟩⟩⟩⟩,λh=>(nomatch h)⟩⟩
 ·cases e
def HH:List PV->Option Ans
 |[.agg xs]=>some ⟨some (isRg 140737488355328 xs),.val (.bool (mJ (bO xs) (bP xs) (gK xs) (pn (gC xs)) (λi=>ae (pg (gC xs) i)) (gL xs))),[]⟩
 |_=>none
def D50:Opt:={  }
theorem HI:am D50.toOrd Tryz.f50 1=true:=by kernel_rfl
theorem f50:FnOk Tryz.prog 50 HH:=by
 refine FnOk.ofW aj (an (l:=[(86,Gw),(87,HF)]) (own:=[]) (inl:=[]) (by simp [f86,f87]) (by simp)) Tryz.func50 D50 1 HI λargs r e=>?_;unfold HH at e;split at e
 ·rename_i xs
  cases e;refine⟨by simp,λhm=>?_⟩;obtain⟨h1,⟨hlo,hhi⟩,hcl,hol⟩:=hm _ rfl;generalize bO xs=lo at *
  generalize bP xs=hi at *
  generalize gK xs=k at *
  generalize gC xs=c at *
  generalize gL xs=l at *
  generalize gO xs=o at *
  subst h1;clear hm;refine⟨[],aa [(0,.agg (bq lo hi k c l o))] [] 0 [],Wo trivial ⟨⟨rfl,rfl,rfl,rfl,rfl,rfl,rfl,rfl,rfl,rfl,rfl,rfl,qW,qW,qQ⟩,qQ⟩ trivial,?_⟩;obtain⟨X,hX⟩:∃X,X=mJ lo hi k (pn c) (λi=>ae (pg c i)) l:=⟨_,rfl⟩;rw [<-hX];have e:X=(((bx lo||bx hi)||decide ((l:Int) > 40))||aD (λi=>iS (pn c i) (ae (pg c i))) k||(decide (k<=32)&&(decide (6 < k)||decide (24 < cq (pn c) k))||decide (35 < k))):=by rw [hX,mJ,<-sr 40];rfl
  have v1:∀A B C:Bool,((A||B)||C)=((bx lo||bx hi)||decide ((l:Int) > 40))->((A||B)||C)=true->PV.val (.bool true)=PV.val (.bool X):=λA B C h h'=>by rw [e,<-h,h',Bool.true_or,Bool.true_or]
  have t1:bx lo=true->((bx lo||bx hi)||decide ((l:Int) > 40))=true:=λh=>by rw [h];rfl
  have t2:bx hi=true->((bx lo||bx hi)||decide ((l:Int) > 40))=true:=λh=>by rw [h,Bool.or_true];rfl
  have t3:decide ((l:Int) > 40)=true->((bx lo||bx hi)||decide ((l:Int) > 40))=true:=λh=>by rw [h,Bool.or_true]
  have t4:bx lo=false->bx hi=false->decide ((l:Int) > 40)=false->((bx lo||bx hi)||decide ((l:Int) > 40))=false:=λh h' h2=>by rw [h,h',h2];rfl
  have v0:((bx lo||bx hi)||decide ((l:Int) > 40))=true->PV.val (.bool true)=PV.val (.bool X):=λh=>by rw [e,h,Bool.true_or,Bool.true_or]
  have pl:isPk 140737488355328 lo.v:=⟨_,rfl,hlo⟩;have ph:isPk 140737488355328 hi.v:=⟨_,rfl,hhi⟩;have hk47:k<=140737488355328:=hcl.2;with_unfolding_all refine⟨pl,λh1=>⟨ph,λh2=>⟨λh3=>⟨[],aa [(2,.val (.bool X))] [] 0 [],Wo trivial ⟨v0 (t3 h3),qQ⟩ trivial,rfl,rfl⟩,λh3=>⟨Nat,λi=>((bx lo||bx hi)||decide ((l:Int) > 40))=false/\i<=k/\∀j,j < i->iS (pn c j) (ae (pg c j))=false,λi=>aa [(1,.ptr 0 0 0 0),(3,.val (goInt (cq (pn c) i))),(4,.val (goInt i))] [⟨31,14,0,true,false,1,λ_=>bq lo hi k c l o⟩] 1 [],λi=>k - i,⟨0,[some 0],⟨t4 h1 h2 h3,Nat.zero_le _,λj hj=>absurd hj (Nat.not_lt_zero j)⟩,Wo ⟨qZ ⟨rq,rq,rq,rq,rq,rq,rq,rq,rq,rq,rq,rq,⟨qW,rfl⟩,⟨qW,rfl⟩,qQ⟩,qQ⟩ ⟨pP,rfl,rfl,qQ⟩ trivial⟩,λi hI0=>?_⟩⟩,λh2=>⟨λ_=>⟨[],aa [(2,.val (.bool X))] [] 0 [],Wo trivial ⟨v0 (t2 h2),qQ⟩ trivial,rfl,rfl⟩,λh=>(nomatch h)⟩⟩,λh1=>⟨λh=>(nomatch h),λ_=>⟨λ_=>⟨[],aa [(2,.val (.bool X))] [] 0 [],Wo trivial ⟨v0 (t1 h1),qQ⟩ trivial,rfl,rfl⟩,λh=>(nomatch h)⟩⟩⟩
  obtain⟨ha,hik,hI⟩:((bx lo||bx hi)||decide ((l:Int) > 40))=false/\i<=k/\∀j,j < i->iS (pn c j) (ae (pg c j))=false:=hI0;have hsum:∀j,j<=i->cq (pn c) j<=66*j:=λj=>by
   induction j with
   |zero=>intro _;exact Nat.le_refl _
   |succ j ih =>
    intro hj;have h1:=ih (by omega);have h2:=uZ (hI j (by omega));unfold cq;omega
  have hs:=hsum i (Nat.le_refl _);have e1:decide (k<=32)=decide ((k:Int)<=32):=by
   rw [decide_eq_decide];omega
  have e':i=k->X=(aD (λi=>iS (pn c i) (ae (pg c i))) k||(decide ((k:Int)<=32)&&(decide ((k:Int) > 6)||decide (((cq (pn c) i:Nat):Int) > 24))||decide ((k:Int) > 35))):=λh=>by rw [e,ha,Bool.false_or,e1,<-sr 6,<-sr 35,<-sr 24,h];rfl
  have af:i=k->aD (λi=>iS (pn c i) (ae (pg c i))) k=false:=λh=>ay.2 λj hj=>hI j (by omega);have x1:(k:Int)<=i->decide ((k:Int)<=32)=true->decide ((k:Int) > 6)=false->decide (((cq (pn c) i:Nat):Int) > 24)=false->PV.val (.bool (decide ((k:Int) > 35)))=PV.val (.bool X):=λh a b d=>by
   have hk:i=k:=by omega
   rw [e' hk,af hk,a,b,d];rfl
  have x2:(k:Int)<=i->decide ((k:Int)<=32)=true->decide ((k:Int) > 6)=false->decide (((cq (pn c) i:Nat):Int) > 24)=true->PV.val (.bool true)=PV.val (.bool X):=λh a b d=>by
   have hk:i=k:=by omega
   rw [e' hk,a,d,Bool.or_true,Bool.true_and,Bool.true_or,Bool.or_true]
  have x3:(k:Int)<=i->decide ((k:Int)<=32)=true->decide ((k:Int) > 6)=true->PV.val (.bool true)=PV.val (.bool X):=λh a b=>by
   have hk:i=k:=by omega
   rw [e' hk,a,b,Bool.true_or,Bool.true_and,Bool.true_or,Bool.or_true]
  have x4:(k:Int)<=i->decide ((k:Int)<=32)=false->PV.val (.bool (decide ((k:Int) > 35)))=PV.val (.bool X):=λh a=>by
   have hk:i=k:=by omega
   rw [e' hk,af hk,a];rfl
  have ei:(i:Int).toNat=i:=Int.toNat_natCast i;have rT:(i:Int) < k->iS (pn c (i:Int).toNat) (ae (pg c (i:Int).toNat))=true->PV.val (.bool true)=PV.val (.bool X):=λhi1 h=>by
   rw [ei] at h;rw [e,bl.2 ⟨i,by omega,h⟩,Bool.or_true,Bool.true_or]
  have rN:iS (pn c (i:Int).toNat) (ae (pg c (i:Int).toNat))=false->∀j,j < i+1->iS (pn c j) (ae (pg c j))=false:=λh j hj=>by
   rw [ei] at h;rcases Nat.lt_or_ge j i with h' | h'
   ·exact hI j h'
   ·obtain rfl:j=i:=by omega
    exact h
  have wi:(i:Int) < k->PV.val (.int .i64 (IntKind.i64.wrap ((i:Int)+1)))=PV.val (.int .i64 ((i+1:Nat):Int)):=λh=>by
   rw [wrap64 (by omega) (by omega)];rfl
  have ws:iS (pn c (i:Int).toNat) (ae (pg c (i:Int).toNat))=false->PV.val (.int .i64 (IntKind.i64.wrap (((cq (pn c) i:Nat):Int)+((pn c (i:Int).toNat:Nat):Int))))=PV.val (goInt ((cq (pn c) (i+1):Nat):Int)):=λh=>by
   rw [ei] at h ⊢;have h2:=uZ h;rw [wrap64 (by omega) (by omega),cq];rfl
  have pr:(i:Int) < k->isPL 140737488355328 (pn c (i:Int).toNat) (pg c (i:Int).toNat):=λh=>(hcl.1 _ (by omega)).2;have mu:(i:Int) < k->k - (i+1) < k - i:=λh=>by omega
  have le:(i:Int) < k->i+1<=k:=λh=>by omega
  with_unfolding_all exact⟨λh1=>⟨⟨Int.natCast_nonneg i,bN h1⟩,⟨Int.natCast_nonneg i,bN h1⟩,pr (bN h1),λh2=>⟨[],aa [(2,.val (.bool X))] [] 0 [],Wo trivial ⟨rT (bN h1) h2,qQ⟩ trivial,rfl,rfl⟩,λh2=>⟨i+1,[some 0],⟨ha,le (bN h1),rN h2⟩,mu (bN h1),Wo ⟨qZ ⟨rq,rq,rq,rq,rq,rq,rq,rq,rq,rq,rq,rq,⟨qW,rfl⟩,⟨qW,rfl⟩,qQ⟩,qQ⟩ ⟨pP,ws h2,wi (bN h1),qQ⟩ trivial⟩⟩,λh1=>⟨λh2=>⟨λh3=>⟨λh4=>⟨[],aa [(2,.val (.bool X))] [] 0 [],Wo trivial ⟨x1 (dC h1) h2 h3 h4,qQ⟩ trivial,rfl,rfl⟩,λh4=>⟨[],aa [(2,.val (.bool X))] [] 0 [],Wo trivial ⟨x2 (dC h1) h2 h3 h4,qQ⟩ trivial,rfl,rfl⟩⟩,λh3=>⟨λh=>(nomatch h),λ_=>⟨[],aa [(2,.val (.bool X))] [] 0 [],Wo trivial ⟨x3 (dC h1) h2 h3,qQ⟩ trivial,rfl,rfl⟩⟩⟩,λh2=>⟨λ_=>⟨[],aa [(2,.val (.bool X))] [] 0 [],Wo trivial ⟨x4 (dC h1) h2,qQ⟩ trivial,rfl,rfl⟩,λh=>(nomatch h)⟩⟩⟩
 ·cases e
end Go.Proofs
namespace Go.Num
def dy (n:Nat) (p:Nat->PtS) (i:Nat):Bool:=decide (jW (p i) (p ((i+1)%n)) (p ((i+2)%n))<=0)||decide (0 < i)&&decide (i+1 < n)&&decide (jW (p 0) (p i) (p (i+1))<=0)
def wX (p:Nat->PtS) (i:Nat):Bool:=decide (bg (p 0) (p (1+i))>=0)
def aZ (n:Nat) (p:Nat->PtS):Int:=bif decide (n < 3)||decide (64 < n) then 4 else bif aD (λi=>!ah (p i)) n then 1 else bif aD (wX p) (n - 1) then 8 else bif aD (dy n p) n then 15 else 0
end Go.Num
namespace Go.Proofs
def HJ:List PV->Option Ans
 |[.rs 6 n g]=>some ⟨some (isPL 10000 n g),.val (.int .i64 (aZ n (ae g))),[]⟩
 |_=>none
def D95:Opt:={  }
theorem HK:am D95.toOrd Tryz.f95 1=true:=by kernel_rfl
theorem f95:FnOk Tryz.prog 95 HJ:=by
 refine FnOk.ofW aj (an (l:=[(130,CG),(98,Gs),(131,Ak)]) (own:=[]) (inl:=[]) (by simp [f130,f98,f131]) (by simp)) Tryz.func95 D95 1 HK λargs r e=>?_;unfold HJ at e;split at e
 ·rename_i n g
  cases e;refine⟨by simp,λhm=>?_⟩;obtain⟨hg,hn⟩:=hm _ rfl;refine⟨[],aa [(0,.rs 6 n (λi=>(ae g i).cells))] [] 0 [],Wo trivial ⟨⟨rfl,rfl,λi hi=>(hg i hi).1.symm⟩,qQ⟩ trivial,?_⟩;obtain⟨X,hX⟩:∃X,X=aZ n (ae g):=⟨_,rfl⟩;rw [<-hX];have e:X=bif decide ((n:Int) < 3)||decide ((n:Int) > 64) then 4 else bif aD (λi=>!ah (ae g i)) n then 1 else bif aD (wX (ae g)) (n - 1) then 8 else bif aD (dy n (ae g)) n then 15 else 0:=by rw [hX,aZ,<-sr 64,<-IA 3];rfl
  have hpl:isPL 4294967296 n (λi=>(ae g i).cells):=⟨λi hi=>⟨rfl,(hg i hi).2.mono (by decide)⟩,hn⟩;have x4:(decide ((n:Int) < 3)||decide ((n:Int) > 64))=true->PV.val (.int .i64 4)=PV.val (.int .i64 X):=λh=>by rw [e,h];rfl
  have t1:decide ((n:Int) < 3)=true->(decide ((n:Int) < 3)||decide ((n:Int) > 64))=true:=λh=>by rw [h];rfl
  have t2:decide ((n:Int) > 64)=true->(decide ((n:Int) < 3)||decide ((n:Int) > 64))=true:=λh=>by rw [h,Bool.or_true]
  have x1:decide ((n:Int) < 3)=false->decide ((n:Int) > 64)=false->(!!aD (λi=>!ah (ae g i)) n)=true->PV.val (.int .i64 1)=PV.val (.int .i64 X):=λh h' k=>by
   rw [Bool.not_not] at k;rw [e,h,h',k];rfl
  have e2:decide ((n:Int) < 3)=false->decide ((n:Int) > 64)=false->(!!aD (λi=>!ah (ae g i)) n)=false->(3<=n/\n<=64)/\X=bif aD (wX (ae g)) (n - 1) then 8 else bif aD (dy n (ae g)) n then 15 else 0:=λh h' k=>by
   rw [Bool.not_not] at k;have h1:=of_decide_eq_false h;have h2:=of_decide_eq_false h';exact⟨by omega,by rw [e,h,h',k];rfl⟩
  with_unfolding_all refine⟨λh1=>⟨λh2=>⟨[],aa [(2,.val (.int .i64 X))] [] 0 [],Wo trivial ⟨x4 (t2 h2),qQ⟩ trivial,rfl,rfl⟩,λh2=>⟨hpl,λh3=>⟨[],aa [(2,.val (.int .i64 X))] [] 0 [],Wo trivial ⟨x1 h1 h2 h3,qQ⟩ trivial,rfl,rfl⟩,λh3=>⟨Nat,λj=>((3<=n/\n<=64)/\X=bif aD (wX (ae g)) (n - 1) then 8 else bif aD (dy n (ae g)) n then 15 else 0)/\j+1<=n/\∀i,i < j->wX (ae g) i=false,λj=>aa [(0,.rs 6 n (λi=>(ae g i).cells)),(3,.val (goInt n)),(4,.val (.int .i64 ((j:Int)+1)))] [] 0 [],λj=>n - j,⟨0,[],⟨e2 h1 h2 h3,by have:=(e2 h1 h2 h3).1;show 0+1<=n;omega,λi hi=>absurd hi (Nat.not_lt_zero i)⟩,Wo trivial ⟨qW,rfl,rfl,qQ⟩ trivial⟩,λj hj=>?_⟩⟩⟩,λh1=>⟨λ_=>⟨[],aa [(2,.val (.int .i64 X))] [] 0 [],Wo trivial ⟨x4 (t1 h1),qQ⟩ trivial,rfl,rfl⟩,λh=>(nomatch h)⟩⟩
  obtain⟨⟨⟨hn3,hn64⟩,hE⟩,hjn,hJ⟩:((3<=n/\n<=64)/\X=bif aD (wX (ae g)) (n - 1) then 8 else bif aD (dy n (ae g)) n then 15 else 0)/\j+1<=n/\∀i,i < j->wX (ae g) i=false:=hj;with_unfolding_all refine⟨λh1=>?_,λh1=>?_⟩
  ·have h1:(j:Int)+1 < n:=bN h1;have ej:((j:Int)+1).toNat=1+j:=by omega
   have hc:decide (bg (ae g 0) (ae g ((j:Int)+1).toNat)>=0)=wX (ae g) j:=by rw [ej];rfl
   have pk0:isPk 1073741824 (ae g 0).v:=⟨_,rfl,(hg 0 (by omega)).2.mono (by decide)⟩;have pkj:isPk 1073741824 (ae g ((j:Int)+1).toNat).v:=⟨_,rfl,(hg _ (by omega)).2.mono (by decide)⟩;have v8:decide (bg (ae g 0) (ae g ((j:Int)+1).toNat)>=0)=true->PV.val (.int .i64 8)=PV.val (.int .i64 X):=λh=>by
    rw [hc] at h;rw [hE,bl.2 ⟨j,by omega,h⟩];rfl
   have nx:decide (bg (ae g 0) (ae g ((j:Int)+1).toNat)>=0)=false->∀i,i < j+1->wX (ae g) i=false:=λh i hi=>by
    rw [hc] at h;rcases Nat.lt_or_ge i j with h' | h'
    ·exact hJ i h'
    ·obtain rfl:i=j:=by omega
     exact h
   have wj:PV.val (.int .i64 (IntKind.i64.wrap ((j:Int)+1+1)))=PV.val (.int .i64 (((j+1:Nat):Int)+1)):=by
    rw [wrap64 (by omega) (by omega)];rfl
   with_unfolding_all exact⟨⟨by omega,by omega⟩,⟨by omega,h1⟩,⟨pk0,pkj⟩,λh2=>⟨[],aa [(2,.val (.int .i64 X))] [] 0 [],Wo trivial ⟨v8 h2,qQ⟩ trivial,rfl,rfl⟩,λh2=>⟨j+1,[],⟨⟨⟨hn3,hn64⟩,hE⟩,by show j+1+1<=n;omega,nx h2⟩,by show n - (j+1) < n - j;omega,Wo trivial ⟨qW,rfl,wj,qQ⟩ trivial⟩⟩
  ·have h1:(n:Int)<=(j:Int)+1:=dC h1;have hE2:X=bif aD (dy n (ae g)) n then 15 else 0:=by
    rw [hE,ay.2 λi hi=>hJ i (by omega)];rfl
   with_unfolding_all refine⟨Nat,λi=>i<=n/\∀j,j < i->dy n (ae g) j=false,λi=>aa [(0,.rs 6 n (λi=>(ae g i).cells)),(3,.val (goInt n)),(5,.val (goInt i))] [] 0 [],λi=>n - i,⟨0,[],⟨Nat.zero_le _,λi hi=>absurd hi (Nat.not_lt_zero i)⟩,Wo trivial ⟨qW,rfl,rfl,qQ⟩ trivial⟩,λi hi=>?_⟩
   obtain⟨hin,hI⟩:i<=n/\∀j,j < i->dy n (ae g) j=false:=hi;with_unfolding_all refine⟨λh2=>?_,λh2=>?_⟩
   ·have h2:(i:Int) < n:=bN h2;have ei:(i:Int).toNat=i:=Int.toNat_natCast i;have wr:∀m:Nat,m<=2->IntKind.i64.wrap ((i:Int)+(m:Int))=((i+m:Nat):Int):=λm hm=>by
     rw [wrap64 (by omega) (by omega),Int.natCast_add]
    have r1:IntKind.i64.wrap ((i:Int)+1)=((i+1:Nat):Int):=wr 1 (by decide);have r2:IntKind.i64.wrap ((i:Int)+2)=((i+2:Nat):Int):=wr 2 (by decide);have q1:((IntKind.i64.wrap ((i:Int)+1)).tmod n)=(((i+1)%n:Nat):Int):=by rw [r1];rfl
    have q2:((IntKind.i64.wrap ((i:Int)+2)).tmod n)=(((i+2)%n:Nat):Int):=by rw [r2];rfl
    have l1:=Nat.mod_lt (i+1) (show 0 < n by omega);have l2:=Nat.mod_lt (i+2) (show 0 < n by omega);have m1:0<=((IntKind.i64.wrap ((i:Int)+1)).tmod n)/\((IntKind.i64.wrap ((i:Int)+1)).tmod n) < n:=by rw [q1];omega
    have m2:0<=((IntKind.i64.wrap ((i:Int)+2)).tmod n)/\((IntKind.i64.wrap ((i:Int)+2)).tmod n) < n:=by rw [q2];omega
    have hne:(n:Int)≠0:=by omega
    have b1:decide (jW (ae g (i:Int).toNat) (ae g ((IntKind.i64.wrap ((i:Int)+1)).tmod n).toNat) (ae g ((IntKind.i64.wrap ((i:Int)+2)).tmod n).toNat)<=0)=decide (jW (ae g i) (ae g ((i+1)%n)) (ae g ((i+2)%n))<=0):=by rw [q1,q2,ei,Int.toNat_natCast,Int.toNat_natCast]
    have b2:decide (jW (ae g 0) (ae g (i:Int).toNat) (ae g (IntKind.i64.wrap ((i:Int)+1)).toNat)<=0)=decide (jW (ae g 0) (ae g i) (ae g (i+1))<=0):=by rw [r1,ei,Int.toNat_natCast]
    have b3:decide ((IntKind.i64.wrap ((i:Int)+1)) < (n:Int))=decide (i+1 < n):=by
     rw [r1,decide_eq_decide];omega
    have b4:decide ((i:Int) > 0)=decide (0 < i):=by
     rw [decide_eq_decide];omega
    have eb:dy n (ae g) i=(decide (jW (ae g (i:Int).toNat) (ae g ((IntKind.i64.wrap ((i:Int)+1)).tmod n).toNat) (ae g ((IntKind.i64.wrap ((i:Int)+2)).tmod n).toNat)<=0)||decide ((i:Int) > 0)&&decide ((IntKind.i64.wrap ((i:Int)+1)) < (n:Int))&&decide (jW (ae g 0) (ae g (i:Int).toNat) (ae g (IntKind.i64.wrap ((i:Int)+1)).toNat)<=0)):=by rw [b1,b2,b3,b4];rfl
    have le1:i+1<=n:=by omega
    have mu:n - (i+1) < n - i:=by omega
    have wi:PV.val (.int .i64 (IntKind.i64.wrap ((i:Int)+1)))=PV.val (.int .i64 ((i+1:Nat):Int)):=by rw [r1]
    have v15:dy n (ae g) i=true->PV.val (.int .i64 15)=PV.val (.int .i64 X):=λh=>by
     rw [hE2,bl.2 ⟨i,by omega,h⟩];rfl
    have nx:dy n (ae g) i=false->∀j,j < i+1->dy n (ae g) j=false:=λh j hj=>by
     rcases Nat.lt_or_ge j i with h' | h'
     ·exact hI j h'
     ·obtain rfl:j=i:=by omega
      exact h
    have a1:decide (jW (ae g (i:Int).toNat) (ae g ((IntKind.i64.wrap ((i:Int)+1)).tmod n).toNat) (ae g ((IntKind.i64.wrap ((i:Int)+2)).tmod n).toNat)<=0)=true->dy n (ae g) i=true:=λh=>by rw [eb,h];rfl
    have a2:decide (jW (ae g (i:Int).toNat) (ae g ((IntKind.i64.wrap ((i:Int)+1)).tmod n).toNat) (ae g ((IntKind.i64.wrap ((i:Int)+2)).tmod n).toNat)<=0)=false->decide ((i:Int) > 0)=false->dy n (ae g) i=false:=λh h'=>by rw [eb,h,h'];rfl
    have a3:decide (jW (ae g (i:Int).toNat) (ae g ((IntKind.i64.wrap ((i:Int)+1)).tmod n).toNat) (ae g ((IntKind.i64.wrap ((i:Int)+2)).tmod n).toNat)<=0)=false->decide ((i:Int) > 0)=true->decide ((IntKind.i64.wrap ((i:Int)+1)) < (n:Int))=false->dy n (ae g) i=false:=λh h' k=>by rw [eb,h,h',k];rfl
    have a4:decide ((i:Int) > 0)=true->decide ((IntKind.i64.wrap ((i:Int)+1)) < (n:Int))=true->decide (jW (ae g 0) (ae g (i:Int).toNat) (ae g (IntKind.i64.wrap ((i:Int)+1)).toNat)<=0)=true->dy n (ae g) i=true:=λh h' k=>by
     rw [eb,h,h',k];exact Bool.or_true _
    have a5:decide (jW (ae g (i:Int).toNat) (ae g ((IntKind.i64.wrap ((i:Int)+1)).tmod n).toNat) (ae g ((IntKind.i64.wrap ((i:Int)+2)).tmod n).toNat)<=0)=false->decide (jW (ae g 0) (ae g (i:Int).toNat) (ae g (IntKind.i64.wrap ((i:Int)+1)).toNat)<=0)=false->dy n (ae g) i=false:=λh k=>by rw [eb,h,k,Bool.and_false];rfl
    have pk:∀z:Int,0<=z/\z < n->isPk 10000 (ae g z.toNat).v:=λz hz=>⟨_,rfl,(hg _ (by omega)).2⟩;have pi:isPk 10000 (ae g (i:Int).toNat).v:=pk _ ⟨by omega,h2⟩;have p0:isPk 10000 (ae g (Int.toNat 0)).v:=pk 0 ⟨by omega,by omega⟩;have ri:0<=(i:Int)/\(i:Int) < n:=⟨by omega,h2⟩;have r0:0<=(0:Int)/\(0:Int) < n:=⟨by omega,by omega⟩;have rw1:decide ((IntKind.i64.wrap ((i:Int)+1)) < (n:Int))=true->0<=(IntKind.i64.wrap ((i:Int)+1))/\(IntKind.i64.wrap ((i:Int)+1)) < n:=λh=>⟨by rw [r1];omega,of_decide_eq_true h⟩;with_unfolding_all exact⟨ri,hne,m1,hne,m2,⟨pi,pk _ m1,pk _ m2⟩,⟨λh3=>⟨λh4=>⟨λh5=>⟨r0,ri,rw1 h5,⟨p0,pi,pk _ (rw1 h5)⟩,λh6=>⟨[],aa [(2,.val (.int .i64 X))] [] 0 [],Wo trivial ⟨v15 (a4 h4 h5 h6),qQ⟩ trivial,rfl,rfl⟩,λh6=>⟨i+1,[],⟨le1,nx (a5 h3 h6)⟩,mu,Wo trivial ⟨qW,rfl,wi,qQ⟩ trivial⟩⟩,λh5=>⟨λh=>(nomatch h),λ_=>⟨i+1,[],⟨le1,nx (a3 h3 h4 h5)⟩,mu,Wo trivial ⟨qW,rfl,wi,qQ⟩ trivial⟩⟩⟩,λh4=>⟨λh=>(nomatch h),λ_=>⟨λh=>(nomatch h),λ_=>⟨i+1,[],⟨le1,nx (a2 h3 h4)⟩,mu,Wo trivial ⟨qW,rfl,wi,qQ⟩ trivial⟩⟩⟩⟩,λh3=>⟨λ_=>⟨[],aa [(2,.val (.int .i64 X))] [] 0 [],Wo trivial ⟨v15 (a1 h3),qQ⟩ trivial,rfl,rfl⟩,λh=>(nomatch h)⟩⟩⟩
   ·have h2:(n:Int)<=i:=dC h2;have v0:PV.val (.int .i64 0)=PV.val (.int .i64 X):=by
     rw [hE2,ay.2 λj hj=>hI j (by omega)];rfl
    with_unfolding_all exact⟨[],aa [(2,.val (.int .i64 X))] [] 0 [],Wo trivial ⟨v0,qQ⟩ trivial,rfl,rfl⟩
 ·cases e
end Go.Proofs
namespace Go.Num
def c7 (lo hi:PtS) (k:Nat) (n:Nat->Nat) (r:Nat->Int) (l:Nat) (q:Nat->Int×Int×Int):Int :=
 bif !ah lo||!ah hi then 1 else bif decide (32 < k) then 4 else bif !(bQ r k 0==0) then bQ r k 0
 else bif decide (396 < cq n k) then 4 else bif !decide (l=k) then 9 else bif aD (λi=>dn (q i)) l then 2 else 0
theorem tQ (lo hi:PtS) (k:Nat) (n:Nat->Nat) (p:Nat->Nat->PtS) (l:Nat) (q:Nat->Int×Int×Int):bT lo hi k n p l q=c7 lo hi k n (λi=>bh (n i) (p i)) l q:=rfl
theorem rU {n:Nat} {p:Nat->PtS} (h:aZ n p=0):n<=64:=by
 unfold aZ at h;cases hc:(decide (n < 3)||decide (64 < n)) with
 |true=>rw [hc] at h;cases h
 |false =>
  simp only [Bool.or_eq_false_iff,decide_eq_false_iff_not] at hc;omega
end Go.Num
namespace Go.Proofs
def Dt:List PV->Option Ans
 |[.agg xs]=>some ⟨some (isRg 10000 xs),.val (.int .i64 (c7 (bO xs) (bP xs) (gK xs) (pn (gC xs)) (λi=>aZ (pn (gC xs) i) (ae (pg (gC xs) i))) (gL xs) (ow (gO xs)))),[]⟩
 |_=>none
def D58:Opt:={  }
theorem HL:am D58.toOrd Tryz.f58 1=true:=by kernel_rfl
theorem f58:FnOk Tryz.prog 58 Dt:=by
 refine FnOk.ofW aj (an (l:=[(59,Dq),(95,HJ)]) (own:=[]) (inl:=[]) (by simp [f59,f95]) (by simp)) Tryz.func58 D58 1 HL λargs r e=>?_;unfold Dt at e;split at e
 ·rename_i xs
  cases e;refine⟨by simp,λhm=>?_⟩;obtain⟨h1,⟨hlo,hhi⟩,hcl,hol⟩:=hm _ rfl;generalize bO xs=lo at *
  generalize bP xs=hi at *
  generalize gK xs=k at *
  generalize gC xs=c at *
  generalize gL xs=l at *
  generalize gO xs=o at *
  subst h1;clear hm;refine⟨[],aa [(0,.agg (bq lo hi k c l o))] [] 0 [],Wo trivial ⟨⟨rfl,rfl,rfl,rfl,rfl,rfl,rfl,rfl,rfl,rfl,rfl,rfl,qW,qW,qQ⟩,qQ⟩ trivial,?_⟩;obtain⟨X,hX⟩:∃X,X=c7 lo hi k (pn c) (λi=>aZ (pn c i) (ae (pg c i))) l (ow o):=⟨_,rfl⟩;rw [<-hX];obtain⟨Fe,hFe⟩:∃Fe,Fe=bQ (λi=>aZ (pn c i) (ae (pg c i))) k 0:=⟨_,rfl⟩;have e:X=bif !ah lo||!ah hi then 1 else bif decide (32 < k) then 4 else bif !(Fe==0) then Fe else bif decide (396 < cq (pn c) k) then 4 else bif !decide (l=k) then 9 else bif aD (λi=>dn (ow o i)) l then 2 else 0:=by rw [hX,c7,<-hFe]
  clear hX;have hno:∀b:Bool,(bW b != 0)=true->b=false:=λb h=>by cases b<;>first|rfl|cases h
  have hyes:∀b:Bool,(bW b != 0)=false->b=true:=λb h=>by cases b<;>first|rfl|cases h
  have pl:isPk 4294967296 lo.v:=⟨_,rfl,hlo.mono (by decide)⟩;have ph:isPk 4294967296 hi.v:=⟨_,rfl,hhi.mono (by decide)⟩;have x1:ah lo=false->PV.val (.int .i64 1)=PV.val (.int .i64 X):=λh=>by rw [e,h];rfl
  have x2:ah hi=false->PV.val (.int .i64 1)=PV.val (.int .i64 X):=λh=>by rw [e,h,Bool.not_false,Bool.or_true];rfl
  have x3:ah lo=true->ah hi=true->decide ((k:Int) > 32)=true->PV.val (.int .i64 4)=PV.val (.int .i64 X):=λh h' k'=>by
   replace k':=(sr 32).symm.trans k';rw [e,h,h',k'];rfl
  have x4:ah lo=true->ah hi=true->decide ((k:Int) > 32)=false->(X=bif !(Fe==0) then Fe else bif decide (396 < cq (pn c) k) then 4 else bif !decide (l=k) then 9 else bif aD (λi=>dn (ow o i)) l then 2 else 0)/\k<=32:=λh h' k'=>by
   replace k':=(sr 32).symm.trans k';refine⟨by rw [e,h,h',k'];rfl,?_⟩;have:=of_decide_eq_false k';omega
  with_unfolding_all refine⟨pl,λh1=>⟨ph,λh2=>⟨[],aa [(2,.val (.int .i64 X))] [] 0 [],Wo trivial ⟨x2 (hno _ h2),qQ⟩ trivial,rfl,rfl⟩,λh2=>⟨λh3=>⟨[],aa [(2,.val (.int .i64 X))] [] 0 [],Wo trivial ⟨x3 (hyes _ h1) (hyes _ h2) h3,qQ⟩ trivial,rfl,rfl⟩,λh3=>⟨Nat,λi=>(X=bif !(Fe==0) then Fe else bif decide (396 < cq (pn c) k) then 4 else bif !decide (l=k) then 9 else bif aD (λi=>dn (ow o i)) l then 2 else 0)/\k<=32/\i<=k/\bQ (λi=>aZ (pn c i) (ae (pg c i))) (k - i) i=Fe/\cq (pn c) i<=64*i,λi=>aa [(1,.ptr 0 0 0 0),(3,.val (goInt (cq (pn c) i))),(4,.val (goInt i))] [⟨31,14,0,true,false,1,λ_=>bq lo hi k c l o⟩] 1 [],λi=>k - i,⟨0,[some 0],⟨(x4 (hyes _ h1) (hyes _ h2) h3).1,(x4 (hyes _ h1) (hyes _ h2) h3).2,Nat.zero_le _,hFe.symm,Nat.le_refl _⟩,Wo ⟨qZ ⟨rq,rq,rq,rq,rq,rq,rq,rq,rq,rq,rq,rq,⟨qW,rfl⟩,⟨qW,rfl⟩,qQ⟩,qQ⟩ ⟨pP,rfl,rfl,qQ⟩ trivial⟩,λi hI0=>?_⟩⟩⟩,λh1=>⟨λ_=>⟨[],aa [(2,.val (.int .i64 X))] [] 0 [],Wo trivial ⟨x1 (hno _ h1),qQ⟩ trivial,rfl,rfl⟩,λh=>(nomatch h)⟩⟩
  obtain⟨hX,hk32,hik,hFi,hsum⟩:(X=bif !(Fe==0) then Fe else bif decide (396 < cq (pn c) k) then 4 else bif !decide (l=k) then 9 else bif aD (λi=>dn (ow o i)) l then 2 else 0)/\k<=32/\i<=k/\bQ (λi=>aZ (pn c i) (ae (pg c i))) (k - i) i=Fe/\cq (pn c) i<=64*i:=hI0;with_unfolding_all refine⟨λh1=>?_,λh1=>?_⟩
  ·have h1:(i:Int) < k:=bN h1;have ei:(i:Int).toNat=i:=Int.toNat_natCast i;have hst:bQ (λi=>aZ (pn c i) (ae (pg c i))) (k - i) i=bif aZ (pn c i) (ae (pg c i))==0 then bQ (λi=>aZ (pn c i) (ae (pg c i))) (k - (i+1)) (i+1) else aZ (pn c i) (ae (pg c i)):=by
    rw [show k - i=(k - (i+1))+1 by omega];rfl
   have hpl:isPL 10000 (pn c (i:Int).toNat) (pg c (i:Int).toNat):=(hcl.1 _ (by omega)).2;have xr:(aZ (pn c (i:Int).toNat) (ae (pg c (i:Int).toNat)) != 0)=true->PV.val (.int .i64 (aZ (pn c (i:Int).toNat) (ae (pg c (i:Int).toNat))))=PV.val (.int .i64 X):=λh=>by
    rw [ei] at h ⊢;have h':(aZ (pn c i) (ae (pg c i))==0)=false:=by simpa using h
    rw [h',cond_false] at hst;rw [hX,<-hFi,hst,h'];rfl
   have z0:(aZ (pn c (i:Int).toNat) (ae (pg c (i:Int).toNat)) != 0)=false->aZ (pn c i) (ae (pg c i))=0:=λh=>by
    rw [ei] at h;simpa using h
   have nf:(aZ (pn c (i:Int).toNat) (ae (pg c (i:Int).toNat)) != 0)=false->bQ (λi=>aZ (pn c i) (ae (pg c i))) (k - (i+1)) (i+1)=Fe:=λh=>by
    have h':=z0 h;rw [<-hFi,hst,h'];rfl
   have ns:(aZ (pn c (i:Int).toNat) (ae (pg c (i:Int).toNat)) != 0)=false->cq (pn c) (i+1)<=64*(i+1):=λh=>by
    have h':=rU (z0 h);unfold cq;omega
   have wi:PV.val (.int .i64 (IntKind.i64.wrap ((i:Int)+1)))=PV.val (.int .i64 ((i+1:Nat):Int)):=by
    rw [wrap64 (by omega) (by omega)];rfl
   have ws:(aZ (pn c (i:Int).toNat) (ae (pg c (i:Int).toNat)) != 0)=false->PV.val (.int .i64 (IntKind.i64.wrap (((cq (pn c) i:Nat):Int)+((pn c (i:Int).toNat:Nat):Int))))=PV.val (goInt ((cq (pn c) (i+1):Nat):Int)):=λh=>by
    have h':=rU (z0 h);rw [ei,wrap64 (by omega) (by omega),cq];rfl
   have ri:0<=(i:Int)/\(i:Int) < k:=⟨by omega,h1⟩;have mu:k - (i+1) < k - i:=by omega
   have le:i+1<=k:=by omega
   with_unfolding_all exact⟨ri,hpl,λh2=>⟨[],aa [(2,.val (.int .i64 X))] [] 0 [],Wo trivial ⟨xr h2,qQ⟩ trivial,rfl,rfl⟩,λh2=>⟨ri,i+1,[some 0],⟨hX,hk32,le,nf h2,ns h2⟩,mu,Wo ⟨qZ ⟨rq,rq,rq,rq,rq,rq,rq,rq,rq,rq,rq,rq,⟨qW,rfl⟩,⟨qW,rfl⟩,qQ⟩,qQ⟩ ⟨pP,ws h2,wi,qQ⟩ trivial⟩⟩
  ·have h1:(k:Int)<=i:=dC h1;have hki:i=k:=by omega
   have hF0:Fe=0:=by
    rw [<-hFi,show k - i=0 by omega];rfl
   have hX2:X=bif decide (396 < cq (pn c) k) then 4 else bif !decide (l=k) then 9 else bif aD (λi=>dn (ow o i)) l then 2 else 0:=by rw [hX,hF0];rfl
   have hl47:=hol.2;have y1:decide (((cq (pn c) i:Nat):Int) > 396)=true->PV.val (.int .i64 4)=PV.val (.int .i64 X):=λh=>by
    replace h:=(sr 396).symm.trans h;rw [hki] at h;rw [hX2,h];rfl
   have y2:decide (((cq (pn c) i:Nat):Int) > 396)=false->(!((l:Int)==(k:Int)))=true->PV.val (.int .i64 9)=PV.val (.int .i64 X):=λh h'=>by
    replace h:=(sr 396).symm.trans h;rw [hki] at h;have h2:¬l=k:=λe=>by
     rw [e,beq_self_eq_true] at h';cases h'
    rw [hX2,h,decide_eq_false h2];rfl
   have x9:decide (((cq (pn c) i:Nat):Int) > 396)=false->(!((l:Int)==(k:Int)))=false->X=bif aD (λi=>dn (ow o i)) l then 2 else 0:=λh h'=>by
    replace h:=(sr 396).symm.trans h;rw [hki] at h;have h2:l=k:=by
     have:((l:Int)==(k:Int))=true:=by simpa using h'
     have:=eq_of_beq this;omega
    rw [hX2,h,decide_eq_true h2];rfl
   with_unfolding_all refine⟨λh2=>⟨[],aa [(2,.val (.int .i64 X))] [] 0 [],Wo trivial ⟨y1 h2,qQ⟩ trivial,rfl,rfl⟩,λh2=>⟨λh3=>⟨[],aa [(2,.val (.int .i64 X))] [] 0 [],Wo trivial ⟨y2 h2 h3,qQ⟩ trivial,rfl,rfl⟩,λh3=>⟨Nat,λj=>(X=bif aD (λi=>dn (ow o i)) l then 2 else 0)/\j<=l/\∀i,i < j->dn (ow o i)=false,λj=>aa [(1,.ptr 0 0 0 0),(6,.val (goInt j))] [⟨31,14,0,true,false,1,λ_=>bq lo hi k c l o⟩] 1 [],λj=>l - j,⟨0,[some 0],⟨x9 h2 h3,Nat.zero_le _,λi hi=>absurd hi (Nat.not_lt_zero i)⟩,Wo ⟨qZ ⟨rq,rq,rq,rq,rq,rq,rq,rq,rq,rq,rq,rq,⟨qW,rfl⟩,⟨qW,rfl⟩,qQ⟩,qQ⟩ ⟨pP,rfl,qQ⟩ trivial⟩,λj hJ0=>?_⟩⟩⟩
   obtain⟨hX3,hjl,hJ⟩:(X=bif aD (λi=>dn (ow o i)) l then 2 else 0)/\j<=l/\∀i,i < j->dn (ow o i)=false:=hJ0;with_unfolding_all refine⟨λh2=>?_,λh2=>?_⟩
   ·have h2:(j:Int) < l:=bN h2;have ej:(j:Int).toNat=j:=Int.toNat_natCast j;have rj:0<=(j:Int)/\(j:Int) < l:=⟨by omega,h2⟩;have v2:dn (ow o (j:Int).toNat)=true->PV.val (.int .i64 2)=PV.val (.int .i64 X):=λh=>by
     rw [ej] at h;rw [hX3,bl.2 ⟨j,by omega,h⟩];rfl
    have nx:dn (ow o (j:Int).toNat)=false->∀i,i < j+1->dn (ow o i)=false:=λh i hi=>by
     rw [ej] at h;rcases Nat.lt_or_ge i j with h' | h'
     ·exact hJ i h'
     ·obtain rfl:i=j:=by omega
      exact h
    have n1:decide ((ow o (j:Int).toNat).1 < 0)=true->dn (ow o (j:Int).toNat)=true:=λh=>by unfold dn;rw [h];rfl
    have n2:decide ((ow o (j:Int).toNat).2.1 < 0)=true->dn (ow o (j:Int).toNat)=true:=λh=>by unfold dn;rw [h,Bool.or_true];rfl
    have n3:decide ((ow o (j:Int).toNat).2.2 < 0)=true->dn (ow o (j:Int).toNat)=true:=λh=>by unfold dn;rw [h,Bool.or_true]
    have n4:decide ((ow o (j:Int).toNat).1 < 0)=false->decide ((ow o (j:Int).toNat).2.1 < 0)=false->decide ((ow o (j:Int).toNat).2.2 < 0)=false->dn (ow o (j:Int).toNat)=false:=λh h' k=>by unfold dn;rw [h,h',k];rfl
    have wj:PV.val (.int .i64 (IntKind.i64.wrap ((j:Int)+1)))=PV.val (.int .i64 ((j+1:Nat):Int)):=by
     rw [wrap64 (by omega) (by omega)];rfl
    have mu:l - (j+1) < l - j:=by omega
    have le:j+1<=l:=by omega
    with_unfolding_all exact⟨rj,λh3=>⟨rj,λh4=>⟨rj,λh5=>⟨[],aa [(2,.val (.int .i64 X))] [] 0 [],Wo trivial ⟨v2 (n3 h5),qQ⟩ trivial,rfl,rfl⟩,λh5=>⟨j+1,[some 0],⟨hX3,le,nx (n4 h3 h4 h5)⟩,mu,Wo ⟨qZ ⟨rq,rq,rq,rq,rq,rq,rq,rq,rq,rq,rq,rq,⟨qW,rfl⟩,⟨qW,rfl⟩,qQ⟩,qQ⟩ ⟨pP,wj,qQ⟩ trivial⟩⟩,λh4=>⟨λ_=>⟨[],aa [(2,.val (.int .i64 X))] [] 0 [],Wo trivial ⟨v2 (n2 h4),qQ⟩ trivial,rfl,rfl⟩,λh=>(nomatch h)⟩⟩,λh3=>⟨λh=>(nomatch h),λ_=>⟨λ_=>⟨[],aa [(2,.val (.int .i64 X))] [] 0 [],Wo trivial ⟨v2 (n1 h3),qQ⟩ trivial,rfl,rfl⟩,λh=>(nomatch h)⟩⟩⟩
   ·have h2:(l:Int)<=j:=dC h2;have v0:PV.val (.int .i64 0)=PV.val (.int .i64 X):=by
     rw [hX3,ay.2 λi hi=>hJ i (by omega)];rfl
    with_unfolding_all exact⟨[],aa [(2,.val (.int .i64 X))] [] 0 [],Wo trivial ⟨v0,qQ⟩ trivial,rfl,rfl⟩
 ·cases e
end Go.Proofs
