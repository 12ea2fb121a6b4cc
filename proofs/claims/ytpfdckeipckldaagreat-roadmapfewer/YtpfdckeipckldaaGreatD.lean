import Derived.Calls
import Derived.StepT
import Derived.Shelf.SlSortCmp.NoneTotal
import Derived.Sort.OwnSorted
import Derived.Below
import Derived.Shelf.SlLaysF0
import Derived.Test.YtpfdckeipckldaaGreatC
set_option maxHeartbeats 8000000
set_option linter.all false
open Go Go.Ex Go.Num Go.Proofs
set_option maxRecDepth 100000
namespace Go.Num
def oD (p:PtS) (st:Nat):Blk:=⟨25,6,st,true,false,1,λ_=>p.cells⟩
def PtS.X (p:PtS):Rat:=p.x.q
def PtS.Y (p:PtS):Rat:=p.y.q
def dp (p u:PtS):Int:=if an p.X u.X=0 then an p.Y u.Y else an p.X u.X
def cH (p u:PtS):PtS:=oC (p.X - u.X) (p.Y - u.Y)
def b9 (p u:PtS):Rat:=p.X*u.Y - p.Y*u.X
def gp (a b c:PtS):Int:=an (b9 (cH b a) (cH c a)) 0
theorem PtS.le.X {k:Nat} {p:PtS} (h:PtS.le k p):QB (k+1) p.X:=RatS.le.qb h.1
theorem PtS.le.Y {k:Nat} {p:PtS} (h:PtS.le k p):QB (k+1) p.Y:=RatS.le.qb h.2
theorem cV {a b:Nat} {p u:PtS} (h1:PtS.le a p) (h2:PtS.le b u):(cH p u).le (a+b+3):=sy ((h1.X.sub h2.X).le (by omega)) ((h1.Y.sub h2.Y).le (by omega))
theorem j8 {a b:Nat} {p u:PtS} (h1:PtS.le a p) (h2:PtS.le b u):QB (2*a+2*b+5) (b9 p u):=((h1.X.mul h2.Y).sub (h1.Y.mul h2.X)).le (by omega)
theorem fQ (x y:Rat):(oC x y).X=x:=tO x
theorem fR (x y:Rat):(oC x y).Y=y:=tO y
theorem cP {k n:Nat} {p:PtS} (h:PtS.le k p) (hk:k<=n):isRk n p.x.v:=⟨_,_,_,rfl,Nat.le_trans h.1.1 hk,Nat.le_trans h.1.2 hk⟩
theorem cQ {k n:Nat} {p:PtS} (h:PtS.le k p) (hk:k<=n):isRk n p.y.v:=⟨_,_,_,rfl,Nat.le_trans h.2.1 hk,Nat.le_trans h.2.2 hk⟩
end Go.Num
namespace Go.Proofs
def D112:Opt:={ perm:=iS 1 [(0,true),(1,true),(2,true),(3,true),(4,true),(6,true),(7,true),(8,true),(9,true),(10,true),(5,false),(11,false)] }
theorem wO:ak D112.toOrd Tryz.f112 3=true:=by kernel_rfl
def lW:List PV->Option Ans
 |[.val v,.val u,.val (.func (.func 113) ⟨[]⟩ ⟨[]⟩)]=>some ⟨some (isPk 4294967296 v/\isPk 4294967296 u),.val (oC ((aN v).X+(aN u).X) ((aN v).Y+(aN u).Y)).v,[]⟩
 |_=>none
theorem wP:FnOk Tryz.prog 112 lW:=by
 refine FnOk.ofW aj (am (l:=[(113,yp)]) (own:=[]) (inl:=[]) (by simp [f113]) (by simp)) Tryz.func112 D112 3 wO λargs r e=>?_;unfold lW at e;split at e
 ·rename_i v u
  cases e;refine⟨by simp,λhm=>?_⟩;obtain⟨⟨p,rfl,hp⟩,u,rfl,hu⟩:=hm _ rfl;refine⟨[],aa [(0,.val p.v),(1,.val u.v),(2,.val (.func (.func 113) ⟨[]⟩ ⟨[]⟩))] [] 0 [],Wo trivial ⟨rfl,rfl,rfl,qQ⟩ trivial,?_⟩;have hx:=And.intro (cP hp (Nat.le_refl _)) (cP hu (Nat.le_refl _));have hy:=And.intro (cQ hp (Nat.le_refl _)) (cQ hu (Nat.le_refl _));with_unfolding_all exact⟨hx,hy,[some 2],aa [(6,.ptr 0 0 0 0)] [oD (oC (p.X+u.X) (p.Y+u.Y)) 0] 1 [],Wo ⟨qK,qQ⟩ ⟨pP,qQ⟩ trivial,rfl,rfl⟩
 ·cases e
def jv:List PV->Option Ans
 |[.val v,.val u,.val (.func (.func 114) ⟨[]⟩ ⟨[]⟩)]=>some ⟨some (isPk 4294967296 v/\isPk 4294967296 u),.val (oC ((aN v).X*(aN u).X) ((aN v).Y*(aN u).Y)).v,[]⟩
 |_=>none
theorem qe:FnOk Tryz.prog 112 jv:=by
 refine FnOk.ofW aj (am (l:=[(114,AM)]) (own:=[]) (inl:=[]) (by simp [f114]) (by simp)) Tryz.func112 D112 3 wO λargs r e=>?_;unfold jv at e;split at e
 ·rename_i v u
  cases e;refine⟨by simp,λhm=>?_⟩;obtain⟨⟨p,rfl,hp⟩,u,rfl,hu⟩:=hm _ rfl;refine⟨[],aa [(0,.val p.v),(1,.val u.v),(2,.val (.func (.func 114) ⟨[]⟩ ⟨[]⟩))] [] 0 [],Wo trivial ⟨rfl,rfl,rfl,qQ⟩ trivial,?_⟩;have hx:=And.intro (cP hp (Nat.le_refl _)) (cP hu (Nat.le_refl _));have hy:=And.intro (cQ hp (Nat.le_refl _)) (cQ hu (Nat.le_refl _));with_unfolding_all exact⟨hx,hy,[some 2],aa [(6,.ptr 0 0 0 0)] [oD (oC (p.X*u.X) (p.Y*u.Y)) 0] 1 [],Wo ⟨qK,qQ⟩ ⟨pP,qQ⟩ trivial,rfl,rfl⟩
 ·cases e
def lX:List PV->Option Ans
 |[.val v,.val u,.val (.func (.func 115) ⟨[]⟩ ⟨[]⟩)]=>some ⟨some (isPk 4294967296 v/\isPk 4294967296 u),.val (oC ((aN v).X - (aN u).X) ((aN v).Y - (aN u).Y)).v,[]⟩
 |_=>none
theorem wQ:FnOk Tryz.prog 112 lX:=by
 refine FnOk.ofW aj (am (l:=[(115,mC)]) (own:=[]) (inl:=[]) (by simp [f115]) (by simp)) Tryz.func112 D112 3 wO λargs r e=>?_;unfold lX at e;split at e
 ·rename_i v u
  cases e;refine⟨by simp,λhm=>?_⟩;obtain⟨⟨p,rfl,hp⟩,u,rfl,hu⟩:=hm _ rfl;refine⟨[],aa [(0,.val p.v),(1,.val u.v),(2,.val (.func (.func 115) ⟨[]⟩ ⟨[]⟩))] [] 0 [],Wo trivial ⟨rfl,rfl,rfl,qQ⟩ trivial,?_⟩;have hx:=And.intro (cP hp (Nat.le_refl _)) (cP hu (Nat.le_refl _));have hy:=And.intro (cQ hp (Nat.le_refl _)) (cQ hu (Nat.le_refl _));with_unfolding_all exact⟨hx,hy,[some 2],aa [(6,.ptr 0 0 0 0)] [oD (oC (p.X - u.X) (p.Y - u.Y)) 0] 1 [],Wo ⟨qK,qQ⟩ ⟨pP,qQ⟩ trivial,rfl,rfl⟩
 ·cases e
def DH:List PV->Option Ans
 |[.val v,.val u]=>some ⟨some (isPk 4294967296 v/\isPk 4294967296 u),.val (cH (aN v) (aN u)).v,[]⟩
 |_=>none
theorem Fi:ak {} Tryz.f76 2=true:=by kernel_rfl
theorem f76:FnOk Tryz.prog 76 DH:=by
 refine FnOk.ofW aj (am (l:=[(112,lX)]) (own:=[]) (inl:=[]) (by simp [wQ]) (by simp)) Tryz.func76 {} 2 Fi λargs r e=>?_;unfold DH at e;split at e
 ·rename_i v u
  cases e;refine⟨by simp,λhm=>?_⟩;obtain⟨⟨p,rfl,hp⟩,u,rfl,hu⟩:=hm _ rfl;refine⟨[],aa [(0,.val p.v),(1,.val u.v)] [] 0 [],Wo trivial ⟨rfl,rfl,qQ⟩ trivial,?_⟩;with_unfolding_all exact⟨⟨⟨p,rfl,hp⟩,u,rfl,hu⟩,[some 2],aa [(4,.ptr 0 0 0 0)] [oD (cH p u) 0] 1 [],Wo ⟨qK,qQ⟩ ⟨pP,qQ⟩ trivial,rfl,rfl⟩
 ·cases e
def yL:List PV->Option Ans
 |[.val v,.val u]=>some ⟨some (isPk 1000000 v/\isPk 1000000 u),.val (au (b9 (aN v) (aN u))),[]⟩
 |_=>none
theorem DI:ak {} Tryz.f140 2=true:=by kernel_rfl
theorem f140:FnOk Tryz.prog 140 yL:=by
 refine FnOk.ofW aj (am (l:=[(112,jv),(115,mC)]) (own:=[]) (inl:=[]) (by simp [qe,f115]) (by simp)) Tryz.func140 {} 2 DI λargs r e=>?_;unfold yL at e;split at e
 ·rename_i v u
  cases e;refine⟨by simp,λhm=>?_⟩;obtain⟨⟨p,rfl,hp⟩,u,rfl,hu⟩:=hm _ rfl;refine⟨[],aa [(0,.val p.v),(1,.val u.v)] [] 0 [],Wo trivial ⟨rfl,rfl,qQ⟩ trivial,?_⟩;have hp':=hp.mono (show 1000000<=4294967296 by decide);have hu':=hu.mono (show 1000000<=4294967296 by decide);have hu2:(PtS.mk u.y u.x).le 4294967296:=⟨hu'.2,hu'.1⟩;have r1:isRk 4294967296 (au (p.X*u.Y)):=(hp.X.mul hu.Y).rk (by decide);have r2:isRk 4294967296 (au (p.Y*u.X)):=(hp.Y.mul hu.X).rk (by decide);have e:aF (au (p.X*u.Y)) - aF (au (p.Y*u.X))=b9 p u:=by rw [az,az];rfl
  with_unfolding_all exact⟨⟨⟨p,rfl,hp'⟩,⟨u.y,u.x⟩,rfl,hu2⟩,⟨r1,r2⟩,[some 2],aa [(4,.ptr 0 0 0 0)] [ba (decide ((b9 p u).num < 0)) (ag (b9 p u).num.natAbs) (aK (b9 p u).den) 0] 1 [],Wo ⟨qZ ⟨⟨congrArg (λq:Rat=>PV.val (.bool (decide (q.num < 0)))) e,rfl⟩,⟨congrArg (λq:Rat=>PV.val (.string (ag q.num.natAbs))) e,rfl⟩,⟨congrArg (λq:Rat=>PV.val (.string (aK q.den))) e,rfl⟩,qQ⟩,qQ⟩ ⟨pP,qQ⟩ trivial,rfl,rfl⟩
 ·cases e
def Fj:List PV->Option Ans
 |[.val v,.val u]=>some ⟨some (isPk 4294967296 v/\isPk 4294967296 u),.val (goInt (dp (aN v) (aN u))),[]⟩
 |_=>none
theorem Fk:ak {} Tryz.f38 2=true:=by kernel_rfl
theorem f38:FnOk Tryz.prog 38 Fj:=by
 refine FnOk.ofW aj (am (l:=[(80,EC)]) (own:=[]) (inl:=[]) (by simp [f80]) (by simp)) Tryz.func38 {} 2 Fk λargs r e=>?_;unfold Fj at e;split at e
 ·rename_i v u
  cases e;refine⟨by simp,λhm=>?_⟩;obtain⟨⟨p,rfl,hp⟩,u,rfl,hu⟩:=hm _ rfl;refine⟨[],aa [(0,.val p.v),(1,.val u.v)] [] 0 [],Wo trivial ⟨rfl,rfl,qQ⟩ trivial,?_⟩;have hx:=And.intro (cP hp (Nat.le_refl _)) (cP hu (Nat.le_refl _));have hy:=And.intro (cQ hp (Nat.le_refl _)) (cQ hu (Nat.le_refl _));have t1:(!(an p.X u.X==0))=true->PV.val (goInt (an p.X u.X))=PV.val (goInt (dp p u)):=λh=>by
   have h:¬an p.X u.X=0:=by simpa using h
   rw [dp,if_neg h]
  have t2:(!(an p.X u.X==0))=false->PV.val (goInt (an p.Y u.Y))=PV.val (goInt (dp p u)):=λh=>by
   have h:an p.X u.X=0:=by simpa using h
   rw [dp,if_pos h]
  with_unfolding_all exact⟨hx,λh=>⟨[],aa [(4,.val (goInt (dp p u)))] [] 0 [],Wo trivial ⟨t1 h,qQ⟩ trivial,rfl,rfl⟩,λh=>⟨hy,[],aa [(4,.val (goInt (dp p u)))] [] 0 [],Wo trivial ⟨t2 h,qQ⟩ trivial,rfl,rfl⟩⟩
 ·cases e
def EG:List PV->Option Ans
 |[.val (.int .i64 x),.val (.int .i64 y)]=>some ⟨some ((-9223372036854775808<=x/\x < 9223372036854775808) /\ -9223372036854775808<=y/\y < 9223372036854775808),.val (oC (mkRat x 1) (mkRat y 1)).v,[]⟩
 |_=>none
theorem Fl:ak {} Tryz.f52 2=true:=by kernel_rfl
theorem f52:FnOk Tryz.prog 52 EG:=by
 refine FnOk.ofW aj (am (l:=[(88,EE)]) (own:=[]) (inl:=[]) (by simp [f88]) (by simp)) Tryz.func52 {} 2 Fl λargs r e=>?_;unfold EG at e;split at e
 ·rename_i x y
  cases e;refine⟨by simp,λhm=>?_⟩;have hp:=hm _ rfl;refine⟨[],aa [(0,.val (.int .i64 x)),(1,.val (.int .i64 y))] [] 0 [],Wo trivial ⟨rfl,rfl,qQ⟩ trivial,?_⟩;with_unfolding_all exact⟨hp.1,hp.2,[some 0],aa [(4,.ptr 0 0 0 0)] [oD (oC (mkRat x 1) (mkRat y 1)) 0] 1 [],Wo ⟨qK,qQ⟩ ⟨pP,qQ⟩ trivial,rfl,rfl⟩
 ·cases e
def yM:List PV->Option Ans
 |[.val v,.val u,.val w]=>some ⟨some (isPk 10000 v/\isPk 10000 u/\isPk 10000 w),.val (goInt (gp (aN v) (aN u) (aN w))),[]⟩
 |_=>none
def D107:Opt:={ perm:=iS 1 [(0,true),(1,true),(3,true),(4,true),(2,false),(5,false)] }
theorem DJ:ak D107.toOrd Tryz.f107 3=true:=by kernel_rfl
theorem f107:FnOk Tryz.prog 107 yM:=by
 refine FnOk.ofW aj (am (l:=[(76,DH),(140,yL),(139,wv)]) (own:=[]) (inl:=[]) (by simp [f76,f140,f139]) (by simp)) Tryz.func107 D107 3 DJ λargs r e=>?_;unfold yM at e;split at e
 ·rename_i v u w
  cases e;refine⟨by simp,λhm=>?_⟩;obtain⟨⟨a,rfl,ha⟩,⟨b,rfl,hb⟩,c,rfl,hc⟩:=hm _ rfl;refine⟨[],aa [(0,.val a.v),(1,.val b.v),(2,.val c.v)] [] 0 [],Wo trivial ⟨rfl,rfl,rfl,qQ⟩ trivial,?_⟩;have ha':=ha.mono (show 10000<=4294967296 by decide);have hb':=hb.mono (show 10000<=4294967296 by decide);have hc':=hc.mono (show 10000<=4294967296 by decide);have s1:=(cV hb ha).mono (show 10000+10000+3<=1000000 by decide);have s2:=(cV hc ha).mono (show 10000+10000+3<=1000000 by decide);have r1:isRk 4294967296 (au (b9 (cH b a) (cH c a))):=(j8 (cV hb ha) (cV hc ha)).rk (by decide);have e:an (aF (au (b9 (cH b a) (cH c a)))) 0=gp a b c:=by rw [az];rfl
  with_unfolding_all refine⟨⟨⟨b,rfl,hb'⟩,a,rfl,ha'⟩,⟨⟨c,rfl,hc'⟩,a,rfl,ha'⟩,⟨⟨cH b a,rfl,s1⟩,cH c a,rfl,s2⟩,?_,[],aa [(6,.val (goInt (gp a b c)))] [] 0 [],Wo trivial ⟨?_,qQ⟩ trivial,rfl,rfl⟩
  ·exact r1
  ·exact congrArg (λz=>PV.val (goInt z)) e
 ·cases e
def Bc:List PV->Option Ans
 |[.val v]=>some ⟨some (isRk 1073741824 v),.val (goInt (an (aF v) 0)),[]⟩
 |_=>none
def D177:Opt:={  }
theorem DK:ak D177.toOrd Tryz.f177 1=true:=by kernel_rfl
theorem f177:FnOk Tryz.prog 177 Bc:=by
 refine FnOk.ofW aj (am (l:=[(135,yF)]) (own:=[]) (inl:=[]) (by simp [f135]) (by simp)) Tryz.func177 D177 1 DK λargs r e=>?_;unfold Bc at e;split at e
 ·rename_i v
  cases e;refine⟨by simp,λhm=>?_⟩;have hv:=hm _ rfl;obtain⟨s,b,c,rfl,hb,hc⟩:=hv;refine⟨[],aa [(0,.val (.agg ⟨[.bool s,.string b,.string c]⟩))] [] 0 [],Wo trivial ⟨rfl,qQ⟩ trivial,?_⟩;have e0:aF (.agg ⟨[.bool false,.string ⟨#[]⟩,.string ⟨#[]⟩]⟩)=0:=by rw [<-ib,az]
  have z:isRk 1073741824 (.agg ⟨[.bool false,.string ⟨#[]⟩,.string ⟨#[]⟩]⟩):=⟨_,_,_,rfl,by decide,by decide⟩;have v:PV.val (goInt (an (aF (.agg ⟨[.bool s,.string b,.string c]⟩)) (aF (.agg ⟨[.bool false,.string ⟨#[]⟩,.string ⟨#[]⟩]⟩))))=PV.val (goInt (an (aF (.agg ⟨[.bool s,.string b,.string c]⟩)) 0)):=by rw [e0]
  with_unfolding_all exact⟨⟨⟨_,_,_,rfl,hb,hc⟩,z⟩,⟨[],aa [(2,.val (goInt (an (aF (.agg ⟨[.bool s,.string b,.string c]⟩)) 0)))] [] 0 [],Wo trivial ⟨v,qQ⟩ trivial,rfl,rfl⟩⟩
 ·cases e
def Fm:List PV->Option Ans
 |[.val v,.val u]=>some ⟨some (isPk 1073741824 v/\isPk 1073741824 u),.val (goInt (dp (aN v) (aN u))),[]⟩
 |_=>none
def D98:Opt:={  }
theorem Fo:ak D98.toOrd Tryz.f98 2=true:=by kernel_rfl
theorem f98:FnOk Tryz.prog 98 Fm:=by
 refine FnOk.ofW aj (am (l:=[(135,yF)]) (own:=[]) (inl:=[]) (by simp [f135]) (by simp)) Tryz.func98 D98 2 Fo λargs r e=>?_;unfold Fm at e;split at e
 ·rename_i v u
  cases e;refine⟨by simp,λhm=>?_⟩;obtain⟨⟨p,rfl,hp⟩,u,rfl,hu⟩:=hm _ rfl;refine⟨[],aa [(0,.val p.v),(1,.val u.v)] [] 0 [],Wo trivial ⟨rfl,rfl,qQ⟩ trivial,?_⟩;have hx:=And.intro (cP hp (Nat.le_refl _)) (cP hu (Nat.le_refl _));have hy:=And.intro (cQ hp (Nat.le_refl _)) (cQ hu (Nat.le_refl _));have t1:(!(an p.X u.X==0))=true->PV.val (goInt (an p.X u.X))=PV.val (goInt (dp p u)):=λh=>by
   have h:¬an p.X u.X=0:=by simpa using h
   rw [dp,if_neg h]
  have t2:(!(an p.X u.X==0))=false->PV.val (goInt (an p.Y u.Y))=PV.val (goInt (dp p u)):=λh=>by
   have h:an p.X u.X=0:=by simpa using h
   rw [dp,if_pos h]
  with_unfolding_all exact⟨hx,λh=>⟨[],aa [(4,.val (goInt (dp p u)))] [] 0 [],Wo trivial ⟨t1 h,qQ⟩ trivial,rfl,rfl⟩,λh=>⟨hy,⟨[],aa [(4,.val (goInt (dp p u)))] [] 0 [],Wo trivial ⟨t2 h,qQ⟩ trivial,rfl,rfl⟩⟩⟩
 ·cases e
def Be:List PV->Option Ans
 |[.val v,.val u]=>some ⟨some (isPk 1000000 v/\isPk 1000000 u),.val (cH (aN v) (aN u)).v,[]⟩
 |_=>none
def D179:Opt:={ perm:=iS 1 [(0,true),(1,true),(2,true),(3,true),(5,true),(6,true),(7,true),(8,true),(4,false),(9,false),(10,true)] }
theorem DL:ak D179.toOrd Tryz.f179 2=true:=by kernel_rfl
theorem f179:FnOk Tryz.prog 179 Be:=by
 refine FnOk.ofW aj (am (l:=[(221,yG)]) (own:=[]) (inl:=[]) (by simp [f221]) (by simp)) Tryz.func179 D179 2 DL λargs r e=>?_;unfold Be at e;split at e
 ·rename_i v u
  cases e;refine⟨by simp,λhm=>?_⟩;obtain⟨⟨p,rfl,hp⟩,u,rfl,hu⟩:=hm _ rfl;refine⟨[],aa [(0,.val p.v),(1,.val u.v)] [] 0 [],Wo trivial ⟨rfl,rfl,qQ⟩ trivial,?_⟩;have hx:=And.intro (cP hp (show 1000000<=1073741824 by decide)) (cP hu (show 1000000<=1073741824 by decide));have hy:=And.intro (cQ hp (show 1000000<=1073741824 by decide)) (cQ hu (show 1000000<=1073741824 by decide));with_unfolding_all exact⟨hx,hy,[some 2],aa [(4,.ptr 0 0 0 0)] [oD (cH p u) 0] 1 [],Wo ⟨qK,qQ⟩ ⟨pP,qQ⟩ trivial,rfl,rfl⟩
 ·cases e
def Bf:List PV->Option Ans
 |[.val v,.val u]=>some ⟨some (isPk 1000000 v/\isPk 1000000 u),.val (au (b9 (aN v) (aN u))),[]⟩
 |_=>none
def D178:Opt:={ perm:=iS 1 [(0,true),(1,true),(2,true),(3,true),(5,true),(6,true),(7,true),(8,true),(4,false),(9,false),(10,false)] }
theorem DM:ak D178.toOrd Tryz.f178 2=true:=by kernel_rfl
theorem f178:FnOk Tryz.prog 178 Bf:=by
 refine FnOk.ofW aj (am (l:=[(222,A5),(221,yG)]) (own:=[]) (inl:=[]) (by simp [f222,f221]) (by simp)) Tryz.func178 D178 2 DM λargs r e=>?_;unfold Bf at e;split at e
 ·rename_i v u
  cases e;refine⟨by simp,λhm=>?_⟩;obtain⟨⟨p,rfl,hp⟩,u,rfl,hu⟩:=hm _ rfl;refine⟨[],aa [(0,.val p.v),(1,.val u.v)] [] 0 [],Wo trivial ⟨rfl,rfl,qQ⟩ trivial,?_⟩;have hx:=And.intro (cP hp (show 1000000<=1073741824 by decide)) (cQ hu (show 1000000<=1073741824 by decide));have hy:=And.intro (cQ hp (show 1000000<=1073741824 by decide)) (cP hu (show 1000000<=1073741824 by decide));have r1:isRk 1073741824 (au (p.X*u.Y)):=(hp.X.mul hu.Y).rk (by decide);have r2:isRk 1073741824 (au (p.Y*u.X)):=(hp.Y.mul hu.X).rk (by decide);obtain⟨Q,hQ⟩:∃Q,Q=b9 p u:=⟨_,rfl⟩;have e:aF (au (p.X*u.Y)) - aF (au (p.Y*u.X))=Q:=by rw [az,az,hQ];rfl
  have hq:b9 (aN p.v) (aN u.v)=Q:=hQ.symm;rw [hq];with_unfolding_all exact⟨hx,hy,⟨r1,r2⟩,[some 2],aa [(4,.ptr 0 0 0 0)] [ba (decide (Q.num < 0)) (ag Q.num.natAbs) (aK Q.den) 0] 1 [],Wo ⟨qZ ⟨⟨kw e,rfl⟩,⟨kx e,rfl⟩,⟨ky e,rfl⟩,qQ⟩,qQ⟩ ⟨pP,qQ⟩ trivial,rfl,rfl⟩
 ·cases e
def Bg:List PV->Option Ans
 |[.val v,.val u,.val w]=>some ⟨some (isPk 10000 v/\isPk 10000 u/\isPk 10000 w),.val (goInt (gp (aN v) (aN u) (aN w))),[]⟩
 |_=>none
def D131:Opt:={ perm:=iS 1 [(0,true),(1,true),(3,true),(4,true),(2,false),(5,false),(6,false),(7,false)] }
theorem DN:ak D131.toOrd Tryz.f131 3=true:=by kernel_rfl
theorem f131:FnOk Tryz.prog 131 Bg:=by
 refine FnOk.ofW aj (am (l:=[(179,Be),(178,Bf),(177,Bc)]) (own:=[]) (inl:=[]) (by simp [f179,f178,f177]) (by simp)) Tryz.func131 D131 3 DN λargs r e=>?_;unfold Bg at e;split at e
 ·rename_i v u w
  cases e;refine⟨by simp,λhm=>?_⟩;obtain⟨⟨a,rfl,ha⟩,⟨b,rfl,hb⟩,c,rfl,hc⟩:=hm _ rfl;refine⟨[],aa [(0,.val a.v),(1,.val b.v),(2,.val c.v)] [] 0 [],Wo trivial ⟨rfl,rfl,rfl,qQ⟩ trivial,?_⟩;have ha':=ha.mono (show 10000<=1000000 by decide);have hb':=hb.mono (show 10000<=1000000 by decide);have hc':=hc.mono (show 10000<=1000000 by decide);have s1:=(cV hb ha).mono (show 10000+10000+3<=1000000 by decide);have s2:=(cV hc ha).mono (show 10000+10000+3<=1000000 by decide);have r1:isRk 1073741824 (au (b9 (cH b a) (cH c a))):=(j8 (cV hb ha) (cV hc ha)).rk (by decide);have e:an (aF (au (b9 (cH b a) (cH c a)))) 0=gp a b c:=by rw [az];rfl
  with_unfolding_all refine⟨⟨⟨b,rfl,hb'⟩,a,rfl,ha'⟩,⟨⟨c,rfl,hc'⟩,a,rfl,ha'⟩,⟨⟨cH b a,rfl,s1⟩,cH c a,rfl,s2⟩,?_,[],aa [(6,.val (goInt (gp a b c)))] [] 0 [],Wo trivial ⟨?_,qQ⟩ trivial,rfl,rfl⟩
  ·exact r1
  ·exact congrArg (λz=>PV.val (goInt z)) e
 ·cases e
def Bh:List PV->Option Ans
 |[.rs 6 n g]=>some ⟨some (isPL 4294967296 n g),.val (.bool (!aA (λi=>!ah (ai g i)) n)),[]⟩
 |_=>none
def D130:Opt:={  }
theorem DO:ak D130.toOrd Tryz.f130 1=true:=by kernel_rfl
theorem f130:FnOk Tryz.prog 130 Bh:=by
 refine FnOk.ofW aj (am (l:=[(59,EF)]) (own:=[]) (inl:=[]) (by simp [f59]) (by simp)) Tryz.func130 D130 1 DO λargs r e=>?_;unfold Bh at e;split at e
 ·rename_i n g
  cases e;refine⟨by simp,λhm=>?_⟩;obtain⟨hg,hn⟩:=hm _ rfl;refine⟨[],aa [(0,.rs 6 n (λi=>(ai g i).cells))] [] 0 [],Wo trivial ⟨⟨rfl,rfl,λi hi=>(hg i hi).1.symm⟩,qQ⟩ trivial,?_⟩;obtain⟨V,hV⟩:∃V,V = !aA (λi=>!ah (ai g i)) n:=⟨_,rfl⟩;rw [<-hV];have hno:∀b:Bool,(cD b != 0)=true->b=false:=λb h=>by cases b<;>first|rfl|cases h
  have hyes:∀b:Bool,(cD b != 0)=false->b=true:=λb h=>by cases b<;>first|rfl|cases h
  with_unfolding_all refine⟨Nat,λi=>i<=n/\∀j,j < i->ah (ai g j)=true,λi=>aa [(0,.rs 6 n (λi=>(ai g i).cells)),(3,.val (goInt i))] [] 0 [],λi=>n - i,⟨0,[],⟨Nat.zero_le _,λj hj=>absurd hj (Nat.not_lt_zero j)⟩,Wo trivial ⟨qW,rfl,qQ⟩ trivial⟩,λi hi=>?_⟩
  obtain⟨hin,hI⟩:i<=n/\∀j,j < i->ah (ai g j)=true:=hi;with_unfolding_all refine⟨λh1=>?_,λh1=>⟨[],aa [(2,.val (.bool V))] [] 0 [],Wo trivial ⟨?_,qQ⟩ trivial,rfl,rfl⟩⟩
  ·have h1:(i:Int) < n:=bx h1;have ei:(i:Int).toNat=i:=Int.toNat_natCast i;have hp:=(hg i (by omega)).2;rw [<-ei] at hp;with_unfolding_all refine⟨⟨by omega,by omega⟩,⟨ai g (i:Int).toNat,rfl,hp⟩,λh2=>⟨[],aa [(2,.val (.bool V))] [] 0 [],Wo trivial ⟨?_,qQ⟩ trivial,rfl,rfl⟩,λh2=>⟨i+1,[],⟨by omega,?_⟩,by show n - (i+1) < n - i;omega,Wo trivial ⟨qW,?_,qQ⟩ trivial⟩⟩
   ·have h2:ah (ai g (i:Int).toNat)=false:=hno _ h2;rw [ei] at h2;rw [hV,a8.2 ⟨i,by omega,by rw [h2];rfl⟩];rfl
   ·have h2:ah (ai g (i:Int).toNat)=true:=hyes _ h2;rw [ei] at h2;intro j hj;rcases Nat.lt_or_ge j i with h|h
    ·exact hI j h
    ·obtain rfl:j=i:=by omega
     exact h2
   ·show PV.val (.int .i64 (IntKind.i64.wrap ((i:Int)+1)))=PV.val (.int .i64 ((i+1:Nat):Int));rw [wrap64 (by omega) (by omega)];rfl
  ·have h1:(n:Int)<=i:=dU h1;rw [hV,aE.2 λj hj=>by rw [hI j (by omega)];rfl];rfl
 ·cases e
end Go.Proofs
namespace Go.Num
def ez:List PV->Nat×(Nat->List PV)
 |[.rs 6 n g]=>(n,g)
 |_=>(0,λ_=>[])
def BW (p u:RatS):Bool:=p.s==u.s&&(p.b==u.b&&(p.c==u.c&&true))
def bH (p u:PtS):Bool:=BW p.x u.x&&(BW p.y u.y&&true)
def Fp (k:Nat) (c:List PV):Prop:=c=[.rs 6 (ez c).1 (λi=>(ai (ez c).2 i).cells)]/\isPL k (ez c).1 (ez c).2/\0 < (ez c).1
def kK (k:Nat) (c:List PV):Prop:=c=(ci c).cells/\(ci c).le k
def mY (u v:PtS):Bool:=decide (dp v u<=0)
def dz (a b v:PtS):Bool:=!bH v a&&!bH v b&&decide (gp a b v<=0)
theorem zG {h:Nat->List PV} {x:List PV} (e:h 0=x):∀i,i < 1->x=h i:=λi hi=>by
 have:i=0:=by omega
 rw [this,e]
end Go.Num
namespace Go.Proofs
def Bi:List PV->Option Ans
 |[.val v,.rp 1 1 h 0 0]=>some ⟨some (isPk 10000 v/\Fp 10000 (h 0)),.val (.bool (mY (ai (ez (h 0)).2 0) (aN v))),[]⟩
 |_=>none
theorem DP:ak {} Tryz.f168 2=true:=by kernel_rfl
theorem f168:FnOk Tryz.prog 168 Bi:=by
 refine FnOk.ofW aj (am (l:=[(38,Fj)]) (own:=[]) (inl:=[]) (by simp [f38]) (by simp)) Tryz.func168 {} 2 DP λargs r e=>?_;unfold Bi at e;split at e
 ·rename_i v h
  cases e;refine⟨by simp,λhm=>?_⟩;obtain⟨⟨p,rfl,hp⟩,h1,⟨hg,hn⟩,h0⟩:=hm _ rfl;generalize (ez (h 0)).1=n at *
  generalize (ez (h 0)).2=g at *
  refine⟨[],aa [(0,.val p.v),(1,.rp 1 1 (λ_=>[.rs 6 n (λi=>(ai g i).cells)]) 0 0)] [] 0 [],Wo trivial ⟨rfl,?_,qQ⟩ trivial,?_⟩
  ·exact⟨rfl,rfl,rfl,rfl,zG h1⟩
  ·have h0':0 < n:=h0;have hp':=hp.mono (show 10000<=4294967296 by decide);have hu:=(hg 0 h0').2.mono (show 10000<=4294967296 by decide);with_unfolding_all refine⟨⟨by decide,by omega⟩,⟨⟨p,rfl,hp'⟩,ai g (Int.toNat 0),rfl,hu⟩,[],aa [(3,.val (.bool (mY (ai g 0) p)))] [] 0 [],Wo trivial ⟨?_,qQ⟩ trivial,rfl,rfl⟩
   rfl
 ·cases e
def Bj:List PV->Option Ans
 |[.val v,.rp 6 1 h 0 0,.rp 6 1 h' 0 0]=>some ⟨some (isPk 10000 v/\kK 10000 (h 0)/\kK 10000 (h' 0)),.val (.bool (dz (ci (h 0)) (ci (h' 0)) (aN v))),[]⟩
 |_=>none
theorem DQ:ak {} Tryz.f170 3=true:=by kernel_rfl
theorem f170:FnOk Tryz.prog 170 Bj:=by
 refine FnOk.ofW aj (am (l:=[(107,yM)]) (own:=[]) (inl:=[]) (by simp [f107]) (by simp)) Tryz.func170 {} 3 DQ λargs r e=>?_;unfold Bj at e;split at e
 ·rename_i v h h'
  cases e;refine⟨by simp,λhm=>?_⟩;obtain⟨⟨p,rfl,hp⟩,⟨h1,ha⟩,h2,hb⟩:=hm _ rfl;generalize ci (h 0)=a at *
  generalize ci (h' 0)=b at *
  refine⟨[],aa [(0,.val p.v),(1,.rp 6 1 (λ_=>a.cells) 0 0),(2,.rp 6 1 (λ_=>b.cells) 0 0)] [] 0 [],Wo trivial ⟨rfl,?_,?_,qQ⟩ trivial,?_⟩
  ·exact⟨rfl,rfl,rfl,rfl,zG h1⟩
  ·exact⟨rfl,rfl,rfl,rfl,zG h2⟩
  ·have k1:(!bH p a)=true->(!bH p b)=true->PV.val (.bool (decide (gp a b p<=0)))=PV.val (.bool (dz a b p)):=λh h'=>by
    unfold dz;rw [h,h'];rfl
   have k2:(!bH p b) = !true->PV.val (.bool false)=PV.val (.bool (dz a b p)):=λh=>by
    unfold dz;rw [h,Bool.not_true,Bool.and_false,Bool.false_and]
   have k3:(!bH p a) = !true->PV.val (.bool false)=PV.val (.bool (dz a b p)):=λh=>by
    unfold dz;rw [h,Bool.not_true,Bool.false_and,Bool.false_and]
   with_unfolding_all refine⟨λh3=>⟨λh4=>⟨⟨⟨a,rfl,ha⟩,⟨b,rfl,hb⟩,p,rfl,hp⟩,⟨[],aa [(4,.val (.bool (dz a b p)))] [] 0 [],Wo trivial ⟨?_,qQ⟩ trivial,rfl,rfl⟩⟩,λh4=>⟨[],aa [(4,.val (.bool (dz a b p)))] [] 0 [],Wo trivial ⟨?_,qQ⟩ trivial,rfl,rfl⟩⟩,λh3=>⟨λh4=>(nomatch h4),λh4=>⟨[],aa [(4,.val (.bool (dz a b p)))] [] 0 [],Wo trivial ⟨?_,qQ⟩ trivial,rfl,rfl⟩⟩⟩
   ·exact k1 h3 h4
   ·exact k2 h4
   ·exact k3 h3
 ·cases e
def oE:List PV->Option Ans
 |[.rs 6 n g,.fn (.func 168) [] [.rp 1 1 cc 0 0]]=>some ⟨some (isPL 10000 n g/\Fp 10000 (cc 0)),.val (.int .i64 (bV (λi=>mY (ai (ez (cc 0)).2 0) (ai g i)) n 0)),[]⟩
 |_=>none
theorem yN:FnOk Tryz.prog 83 oE:=by
 refine FnOk.ofW aj (am (l:=[(168,Bi)]) (own:=[]) (inl:=[]) (by simp [f168]) (by simp)) Tryz.func83 {} 2 ss λargs r e=>?_;unfold oE at e;split at e
 ·rename_i n g cc
  cases e;refine⟨by simp,λhm=>?_⟩;obtain⟨⟨hg,hn⟩,h1⟩:=hm _ rfl;refine⟨[],aa [(0,.rs 6 n (λi=>(ai g i).cells)),(1,.fn (.func 168) [] [.rp 1 1 cc 0 0])] [] 0 [],Wo trivial ⟨⟨rfl,rfl,λi hi=>(hg i hi).1.symm⟩,⟨rfl,trivial,⟨rfl,rfl,rfl,rfl,λ_ _=>rfl⟩,qQ⟩,qQ⟩ trivial,?_⟩;obtain⟨X,hX⟩:∃X,X=bV (λi=>mY (ai (ez (cc 0)).2 0) (ai g i)) n 0:=⟨_,rfl⟩;rw [<-hX];with_unfolding_all refine⟨Nat,λi=>i<=n/\bV (λi=>mY (ai (ez (cc 0)).2 0) (ai g i)) (n - i) i=X,λi=>aa [(0,.rs 6 n (λi=>(ai g i).cells)),(1,.fn (.func 168) [] [.rp 1 1 cc 0 0]),(7,.val (goInt n)),(8,.val (goInt i))] [] 0 [],λi=>n - i,⟨0,[],⟨Nat.zero_le _,hX.symm⟩,Wo trivial ⟨qW,⟨rfl,trivial,⟨rfl,rfl,rfl,rfl,λ_ _=>rfl⟩,qQ⟩,rfl,rfl,qQ⟩ trivial⟩,λi hi=>?_⟩
  obtain⟨hin,hI⟩:i<=n/\bV (λi=>mY (ai (ez (cc 0)).2 0) (ai g i)) (n - i) i=X:=hi;with_unfolding_all refine⟨λh=>?_,λh=>⟨[],aa [(4,.val (.int .i64 X))] [] 0 [],Wo trivial ⟨?_,qQ⟩ trivial,rfl,rfl⟩⟩
  ·have h:(i:Int) < n:=bx h;have e:(i:Int).toNat=i:=Int.toNat_natCast i;have hstep:bV (λi=>mY (ai (ez (cc 0)).2 0) (ai g i)) (n - i) i=bif mY (ai (ez (cc 0)).2 0) (ai g i) then(i:Int) else bV (λi=>mY (ai (ez (cc 0)).2 0) (ai g i)) (n - (i+1)) (i+1):=by
    rw [show n - i=(n - (i+1))+1 by omega];rfl
   have hip:=(hg i (by omega)).2;rw [<-e] at hip;with_unfolding_all refine⟨⟨by omega,by omega⟩,⟨⟨ai g (i:Int).toNat,rfl,hip⟩,h1⟩,λh'=>⟨[],aa [(4,.val (.int .i64 X))] [] 0 [],Wo trivial ⟨?_,qQ⟩ trivial,rfl,rfl⟩,λh'=>⟨i+1,[],⟨by omega,?_⟩,by show n - (i+1) < n - i;omega,Wo trivial ⟨qW,⟨rfl,trivial,⟨rfl,rfl,rfl,rfl,λ_ _=>rfl⟩,qQ⟩,rfl,?_,qQ⟩ trivial⟩⟩
   ·have h':(mY (ai (ez (cc 0)).2 0) (ai g (i:Int).toNat))=true:=h';rw [e] at h';rw [h',cond_true] at hstep;exact congrArg (λz=>PV.val (.int .i64 z)) (hstep.symm.trans hI)
   ·have h':(mY (ai (ez (cc 0)).2 0) (ai g (i:Int).toNat))=false:=h';rw [e] at h';rw [h',cond_false] at hstep;exact hstep.symm.trans hI
   ·show PV.val (.int .i64 (IntKind.i64.wrap ((i:Int)+1)))=PV.val (.int .i64 ((i+1:Nat):Int));rw [wrap64 (by omega) (by omega)];rfl
  ·have h:(n:Int)<=i:=dU h;rw [show n - i=0 by omega] at hI;exact congrArg (λz=>PV.val (.int .i64 z)) hI
 ·cases e
def oF:List PV->Option Ans
 |[.rs 6 n g,.fn (.func 168) [] [.rp 1 1 cc 0 0]]=>some ⟨some (isPL 10000 n g/\Fp 10000 (cc 0)),.val (.bool (aA (λi=>mY (ai (ez (cc 0)).2 0) (ai g i)) n)),[]⟩
 |_=>none
theorem yO:FnOk Tryz.prog 65 oF:=by
 refine FnOk.ofW aj (am (l:=[(83,oE)]) (own:=[]) (inl:=[]) (by simp [yN]) (by simp)) Tryz.func65 {} 2 su λargs r e=>?_;unfold oF at e;split at e
 ·rename_i n g cc
  cases e;refine⟨by simp,λhm=>?_⟩;have hp:=hm _ rfl;refine⟨[],aa [(0,.rs 6 n g),(1,.fn (.func 168) [] [.rp 1 1 cc 0 0])] [] 0 [],Wo trivial ⟨⟨rfl,rfl,λi hi=>rfl⟩,⟨rfl,trivial,⟨rfl,rfl,rfl,rfl,λ_ _=>rfl⟩,qQ⟩,qQ⟩ trivial,?_⟩;with_unfolding_all refine⟨hp,[],aa [(4,.val (.bool (aA (λi=>mY (ai (ez (cc 0)).2 0) (ai g i)) n)))] [] 0 [],Wo trivial ⟨?_,qQ⟩ trivial,rfl,rfl⟩
  exact congrArg (λz=>PV.val (.bool z)) (ek _ _)
 ·cases e
def oG:List PV->Option Ans
 |[.rs 6 n g,.fn (.func 170) [] [.rp 6 1 cc 0 0,.rp 6 1 dd 0 0]]=>some ⟨some (isPL 10000 n g/\kK 10000 (cc 0)/\kK 10000 (dd 0)),.val (.int .i64 (bV (λi=>dz (ci (cc 0)) (ci (dd 0)) (ai g i)) n 0)),[]⟩
 |_=>none
theorem yP:FnOk Tryz.prog 83 oG:=by
 refine FnOk.ofW aj (am (l:=[(170,Bj)]) (own:=[]) (inl:=[]) (by simp [f170]) (by simp)) Tryz.func83 {} 2 ss λargs r e=>?_;unfold oG at e;split at e
 ·rename_i n g cc dd
  cases e;refine⟨by simp,λhm=>?_⟩;obtain⟨⟨hg,hn⟩,h1,h2⟩:=hm _ rfl;refine⟨[],aa [(0,.rs 6 n (λi=>(ai g i).cells)),(1,.fn (.func 170) [] [.rp 6 1 cc 0 0,.rp 6 1 dd 0 0])] [] 0 [],Wo trivial ⟨⟨rfl,rfl,λi hi=>(hg i hi).1.symm⟩,⟨rfl,trivial,⟨rfl,rfl,rfl,rfl,λ_ _=>rfl⟩,⟨rfl,rfl,rfl,rfl,λ_ _=>rfl⟩,qQ⟩,qQ⟩ trivial,?_⟩;obtain⟨X,hX⟩:∃X,X=bV (λi=>dz (ci (cc 0)) (ci (dd 0)) (ai g i)) n 0:=⟨_,rfl⟩;rw [<-hX];with_unfolding_all refine⟨Nat,λi=>i<=n/\bV (λi=>dz (ci (cc 0)) (ci (dd 0)) (ai g i)) (n - i) i=X,λi=>aa [(0,.rs 6 n (λi=>(ai g i).cells)),(1,.fn (.func 170) [] [.rp 6 1 cc 0 0,.rp 6 1 dd 0 0]),(7,.val (goInt n)),(8,.val (goInt i))] [] 0 [],λi=>n - i,⟨0,[],⟨Nat.zero_le _,hX.symm⟩,Wo trivial ⟨qW,⟨rfl,trivial,⟨rfl,rfl,rfl,rfl,λ_ _=>rfl⟩,⟨rfl,rfl,rfl,rfl,λ_ _=>rfl⟩,qQ⟩,rfl,rfl,qQ⟩ trivial⟩,λi hi=>?_⟩
  obtain⟨hin,hI⟩:i<=n/\bV (λi=>dz (ci (cc 0)) (ci (dd 0)) (ai g i)) (n - i) i=X:=hi;with_unfolding_all refine⟨λh=>?_,λh=>⟨[],aa [(4,.val (.int .i64 X))] [] 0 [],Wo trivial ⟨?_,qQ⟩ trivial,rfl,rfl⟩⟩
  ·have h:(i:Int) < n:=bx h;have e:(i:Int).toNat=i:=Int.toNat_natCast i;have hstep:bV (λi=>dz (ci (cc 0)) (ci (dd 0)) (ai g i)) (n - i) i=bif dz (ci (cc 0)) (ci (dd 0)) (ai g i) then(i:Int) else bV (λi=>dz (ci (cc 0)) (ci (dd 0)) (ai g i)) (n - (i+1)) (i+1):=by
    rw [show n - i=(n - (i+1))+1 by omega];rfl
   have hip:=(hg i (by omega)).2;rw [<-e] at hip;with_unfolding_all refine⟨⟨by omega,by omega⟩,⟨⟨ai g (i:Int).toNat,rfl,hip⟩,h1,h2⟩,λh'=>⟨[],aa [(4,.val (.int .i64 X))] [] 0 [],Wo trivial ⟨?_,qQ⟩ trivial,rfl,rfl⟩,λh'=>⟨i+1,[],⟨by omega,?_⟩,by show n - (i+1) < n - i;omega,Wo trivial ⟨qW,⟨rfl,trivial,⟨rfl,rfl,rfl,rfl,λ_ _=>rfl⟩,⟨rfl,rfl,rfl,rfl,λ_ _=>rfl⟩,qQ⟩,rfl,?_,qQ⟩ trivial⟩⟩
   ·have h':(dz (ci (cc 0)) (ci (dd 0)) (ai g (i:Int).toNat))=true:=h';rw [e] at h';rw [h',cond_true] at hstep;exact congrArg (λz=>PV.val (.int .i64 z)) (hstep.symm.trans hI)
   ·have h':(dz (ci (cc 0)) (ci (dd 0)) (ai g (i:Int).toNat))=false:=h';rw [e] at h';rw [h',cond_false] at hstep;exact hstep.symm.trans hI
   ·show PV.val (.int .i64 (IntKind.i64.wrap ((i:Int)+1)))=PV.val (.int .i64 ((i+1:Nat):Int));rw [wrap64 (by omega) (by omega)];rfl
  ·have h:(n:Int)<=i:=dU h;rw [show n - i=0 by omega] at hI;exact congrArg (λz=>PV.val (.int .i64 z)) hI
 ·cases e
def oH:List PV->Option Ans
 |[.rs 6 n g,.fn (.func 170) [] [.rp 6 1 cc 0 0,.rp 6 1 dd 0 0]]=>some ⟨some (isPL 10000 n g/\kK 10000 (cc 0)/\kK 10000 (dd 0)),.val (.bool (aA (λi=>dz (ci (cc 0)) (ci (dd 0)) (ai g i)) n)),[]⟩
 |_=>none
theorem yQ:FnOk Tryz.prog 65 oH:=by
 refine FnOk.ofW aj (am (l:=[(83,oG)]) (own:=[]) (inl:=[]) (by simp [yP]) (by simp)) Tryz.func65 {} 2 su λargs r e=>?_;unfold oH at e;split at e
 ·rename_i n g cc dd
  cases e;refine⟨by simp,λhm=>?_⟩;have hp:=hm _ rfl;refine⟨[],aa [(0,.rs 6 n g),(1,.fn (.func 170) [] [.rp 6 1 cc 0 0,.rp 6 1 dd 0 0])] [] 0 [],Wo trivial ⟨⟨rfl,rfl,λi hi=>rfl⟩,⟨rfl,trivial,⟨rfl,rfl,rfl,rfl,λ_ _=>rfl⟩,⟨rfl,rfl,rfl,rfl,λ_ _=>rfl⟩,qQ⟩,qQ⟩ trivial,?_⟩;with_unfolding_all refine⟨hp,[],aa [(4,.val (.bool (aA (λi=>dz (ci (cc 0)) (ci (dd 0)) (ai g i)) n)))] [] 0 [],Wo trivial ⟨?_,qQ⟩ trivial,rfl,rfl⟩
  exact congrArg (λz=>PV.val (.bool z)) (ek _ _)
 ·cases e
end Go.Proofs
namespace Go.Num
def GI (h:Nat->List PV):Prop:=(h=λ_=>[.rs 6 (ez (h 0)).1 (λi=>(ai (ez (h 0)).2 i).cells)])/\(ez (h 0)).1<=140737488355328
end Go.Num
namespace Go.Proofs
def yR:List PV->Option Ans
 |[.rs 6 n g]=>some ⟨some (∀i,i < n->g i=(ai g i).cells),.fn (.func 207) [] [.rp 1 1 (λ_=>[.rs 6 n (λi=>(ai g i).cells)]) 0 0],[]⟩
 |_=>none
theorem DR:ak {} Tryz.f169 1=true:=by kernel_rfl
theorem f169:FnOk Tryz.prog 169 yR:=by
 refine FnOk.ofW aj (am (l:=[]) (own:=[]) (inl:=[]) (by simp) (by simp)) Tryz.func169 {} 1 DR λargs r e=>?_;unfold yR at e;split at e
 ·rename_i n g
  cases e;refine⟨by simp,λhm=>?_⟩;have hg:=hm _ rfl;refine⟨[],aa [(0,.rs 6 n (λi=>(ai g i).cells))] [] 0 [],Wo trivial ⟨⟨rfl,rfl,λi hi=>(hg i hi).symm⟩,qQ⟩ trivial,?_⟩;with_unfolding_all exact⟨[some 0],aa [(2,.fn (.func 207) [] [.ptr 0 0 0 0])] [⟨34,1,0,true,false,1,λ_=>[.rs 6 n (λi=>(ai g i).cells)]⟩] 1 [],Wo ⟨qZ ⟨⟨qW,rfl⟩,qQ⟩,qQ⟩ ⟨⟨rfl,trivial,pP,qQ⟩,qQ⟩ trivial,rfl,rfl⟩
 ·cases e
def yS:List PV->Option gu
 |[.rp 1 1 h 0 0]=>some ⟨some (GI h),(ez (h 0)).1,λi=>[.val (ai (ez (h 0)).2 i).v,.val (ai (ez (h 0)).2 ((i+1)%(ez (h 0)).1)).v]⟩
 |_=>none
def D207:Opt:={ perm:=iS 3 (rds 10) }
theorem DS:ak D207.toOrd Tryz.f207 2=true:=by kernel_rfl
theorem f207:SeqFn Tryz.prog 207 yS:=by
 refine SeqFn.of aj (am (l:=[]) (own:=[]) (inl:=[]) (by simp) (by simp)) Tryz.func207 D207 2 DS rfl λargs r e=>?_;unfold yS at e;split at e
 ·rename_i h
  cases e;refine⟨by simp,λhm l=>?_⟩;obtain⟨h1,hn⟩:=hm _ rfl;generalize (ez (h 0)).1=n at *
  generalize (ez (h 0)).2=g at *
  subst h1;with_unfolding_all refine⟨Nat,λx=>x<=n,λx=>aa [(0,.val (.func (.yield l) ⟨[]⟩ ⟨[]⟩)),(1,.rp 1 1 (λ_=>[.rs 6 n (λi=>(ai g i).cells)]) 0 0),(5,.rs 6 n (λi=>(ai g i).cells)),(6,.val (goInt n)),(7,.val (goInt (x:Nat)))] [] 0 [[(0,.val (.int .i64 (x:Nat))),(1,.val (.bool false))]],λx=>n - x,⟨0,[],Nat.zero_le _,Wo trivial ⟨rfl,⟨rfl,rfl,rfl,rfl,λ_ _=>rfl⟩,qW,rfl,rfl,qQ⟩ ⟨⟨rfl,rfl,qQ⟩,qQ⟩⟩,λx hx=>?_⟩
  have hx:x<=n:=hx;with_unfolding_all refine⟨λh1=>?_,λh1=>?_⟩
  ·have h1:(x:Int) < n:=bx h1;have wx:IntKind.i64.wrap ((x:Int)+1)=((x+1:Nat):Int):=by rw [wrap64 (by omega) (by omega)];rfl
   have hm:(IntKind.i64.wrap ((x:Int)+1)).tmod (n:Int)=(((x+1)%n:Nat):Int):=by rw [wx];rfl
   have hml:=Nat.mod_lt (x+1) (show 0 < n by omega);have hxn:x < n:=by omega
   have kd:∀(a b:Nat),a=x->b=(x+1)%n->[PV.val (ai g a).v,PV.val (ai g b).v]=[PV.val (ai g x).v,PV.val (ai g ((x+1)%n)).v]:=λa b ha hb=>by rw [ha,hb]
   have m1:0<=(IntKind.i64.wrap ((x:Int)+1)).tmod (n:Int)/\(IntKind.i64.wrap ((x:Int)+1)).tmod (n:Int) < (n:Int):=by rw [hm];omega
   have m2:(IntKind.i64.wrap ((x:Int)+1)).tmod (n:Int)=(((x+1)%n:Nat):Int):=hm;have m3:((IntKind.i64.wrap ((x:Int)+1)).tmod (n:Int)).toNat=(x+1)%n:=by rw [hm];exact Int.toNat_natCast _
   with_unfolding_all refine⟨⟨by omega,by omega⟩,by omega,m1,rfl,x,rfl,hxn,?_,⟨λh=>(nomatch h),λh=>⟨x+1,[],hxn,by show n - (x+1) < n - x;omega,Wo trivial ⟨rfl,⟨rfl,rfl,rfl,rfl,λ_ _=>rfl⟩,qW,rfl,congrArg (λz=>PV.val (.int .i64 z)) wx,qQ⟩ ⟨⟨rfl,rfl,qQ⟩,qQ⟩⟩⟩,⟨λh=>trivial,λh=>(nomatch h)⟩⟩
   exact kd _ _ (Int.toNat_natCast x) m3
  ·have h1:(n:Int)<=x:=dU h1;show(x:Int)=(n:Nat);omega
 ·cases e
def yU:List PV->Option Ans
 |[.rs 6 n g]=>some ⟨some (isPL 4294967296 n g),.val (.bool (!aA (λi=>!ah (ai g i)) n)),[]⟩
 |_=>none
theorem DT:ak {} Tryz.f167 1=true:=by kernel_rfl
theorem f167:FnOk Tryz.prog 167 yU:=by
 refine FnOk.ofW aj (am (l:=[(65,oB)]) (own:=[]) (inl:=[]) (by simp [yK]) (by simp)) Tryz.func167 {} 1 DT λargs r e=>?_;unfold yU at e;split at e
 ·rename_i n g
  cases e;refine⟨by simp,λhm=>?_⟩;have hg:=hm _ rfl;refine⟨[],aa [(0,.rs 6 n g)] [] 0 [],Wo trivial ⟨⟨rfl,rfl,λi hi=>rfl⟩,qQ⟩ trivial,?_⟩;with_unfolding_all exact⟨hg,[],aa [(2,.val (.bool (!aA (λi=>!ah (ai g i)) n)))] [] 0 [],Wo trivial ⟨rfl,qQ⟩ trivial,rfl,rfl⟩
 ·cases e
end Go.Proofs
theorem Go.Ex.FnOk.orElse {P:Go.Program} {f:Go.FuncId} {s t:List Go.Ex.PV->Option Go.Ex.Ans} (h1:Go.Ex.FnOk P f s) (h2:Go.Ex.FnOk P f t):Go.Ex.FnOk P f (λa=>(s a).orElse λ_=>t a):=λargs r e=>by
 replace e:((s args).orElse λ_=>t args)=some r:=e;cases hs:s args with
 |some x =>
  rw [hs] at e;exact h1 args r (by rw [hs];exact e)
 |none =>
  rw [hs] at e;exact h2 args r e
namespace Go.Num
def aY (n:Nat) (p:Nat->PtS):Int:=bif decide (n < 3)||decide (64 < n) then 4 else bif aA (λi=>!ah (p i)) n then 1 else bif aA (λi=>mY (p 0) (p (1+i))) (n - 1) then 8 else bif aA (λe=>aA (λi=>dz (p e) (p ((e+1)%n)) (p i)) n) n then 15 else 0
end Go.Num
namespace Go.Proofs
def yV:List PV->Option Ans
 |[.rs 6 n g]=>some ⟨some (isPL 10000 n g),.val (.int .i64 (aY n (ai g))),[]⟩
 |_=>none
def D124:Opt:={ join:=d9 [1] }
theorem DU:ak D124.toOrd Tryz.f124 1=true:=by kernel_rfl
theorem f124:FnOk Tryz.prog 124 yV:=by
 refine FnOk.ofW aj (nQ (l:=[(167,yU),(65,λa=>(oF a).orElse λ_=>oH a),(169,yR)]) (own:=[]) (inl:=[]) (sq:=[(207,yS)]) ?_ (by simp) (by simp [f207])) Tryz.func124 D124 1 DU λargs r e=>?_
 ·simp only [List.mem_cons,List.not_mem_nil,or_false,forall_eq_or_imp,forall_eq];exact⟨f167,FnOk.orElse yO yQ,f169⟩
 unfold yV at e;split at e
 ·rename_i n g
  cases e;refine⟨by simp,λhm=>?_⟩;obtain⟨hg,hn⟩:=hm _ rfl;refine⟨[],aa [(0,.rs 6 n (λi=>(ai g i).cells))] [] 0 [],Wo trivial ⟨⟨rfl,rfl,λi hi=>(hg i hi).1.symm⟩,qQ⟩ trivial,?_⟩;have pl:isPL 10000 n (λi=>(ai g i).cells):=⟨λi hi=>⟨rfl,(hg i hi).2⟩,hn⟩;have pl2:isPL 4294967296 n (λi=>(ai g i).cells):=⟨λi hi=>⟨rfl,((hg i hi).2).mono (by decide)⟩,hn⟩;with_unfolding_all refine⟨Unit,λ_=>(decide (n < 3)||decide (64 < n))=false,λ_=>aa [(1,.ptr 0 0 0 0),(2,.ptr 1 1 0 0)] [⟨34,1,0,true,false,1,λ_=>[.rs 6 n (λi=>(ai g i).cells)]⟩,⟨38,1,1,true,false,1,λ_=>[.val (.int .i64 0)]⟩] 2 [],?_,λ_ h1=>?_⟩
  ·have j1:decide ((n:Int) < 3)=false->decide ((n:Int) > 64)=false->(decide (n < 3)||decide (64 < n))=false:=λh h'=>by
    have h:=of_decide_eq_false h;have h':=of_decide_eq_false h';rw [decide_eq_false (by omega),decide_eq_false (by omega)];rfl
   have v4:(decide (n < 3)||decide (64 < n))=true->PV.val (.int .i64 4)=PV.val (.int .i64 (aY n (ai g))):=λh=>by
    unfold aY;rw [h];rfl
   have q1:decide ((n:Int) > 64)=true->(decide (n < 3)||decide (64 < n))=true:=λh=>by
    have h:=of_decide_eq_true h;rw [decide_eq_true (show 64 < n by omega),Bool.or_true]
   have q2:decide ((n:Int) < 3) = !false->(decide (n < 3)||decide (64 < n))=true:=λh=>by
    have h:(n:Int) < 3:=of_decide_eq_true h;rw [decide_eq_true (show n < 3 by omega),Bool.true_or]
   with_unfolding_all refine⟨λh1=>⟨λh2=>⟨[some 1],aa [(2,.ptr 0 0 0 0)] [⟨38,1,0,true,false,1,λ_=>[.val (.int .i64 (aY n (ai g)))]⟩] 1 [],Wo ⟨qZ ⟨⟨v4 (q1 h2),rfl⟩,qQ⟩,qQ⟩ ⟨pP,qQ⟩ trivial,rfl,rfl⟩,λh2=>⟨(),[some 0,some 1],j1 h1 h2,Wo ⟨qZ ⟨⟨qW,rfl⟩,qQ⟩,qY,qQ⟩ ⟨pP,pP,qQ⟩ trivial⟩⟩,λh1=>⟨λh2=>⟨[some 1],aa [(2,.ptr 0 0 0 0)] [⟨38,1,0,true,false,1,λ_=>[.val (.int .i64 (aY n (ai g)))]⟩] 1 [],Wo ⟨qZ ⟨⟨v4 (q2 h1),rfl⟩,qQ⟩,qQ⟩ ⟨pP,qQ⟩ trivial,rfl,rfl⟩,λh2=>(nomatch h2)⟩⟩
  ·have h1:(decide (n < 3)||decide (64 < n))=false:=h1;have hn3:3<=n:=by
    rw [Bool.or_eq_false_iff] at h1;have:=of_decide_eq_false h1.1;omega
   obtain⟨A1,hA1⟩:∃b,b=aA (λi=>!ah (ai g i)) n:=⟨_,rfl⟩;obtain⟨A2,hA2⟩:∃b,b=aA (λi=>mY (ai g 0) (ai g (1+i))) (n - 1):=⟨_,rfl⟩;obtain⟨A3,hA3⟩:∃b,b=aA (λe=>aA (λi=>dz (ai g e) (ai g ((e+1)%n)) (ai g i)) n) n:=⟨_,rfl⟩;have vE:aY n (ai g)=bif A1 then 1 else bif A2 then 8 else bif A3 then 15 else 0:=by
    unfold aY;rw [h1,<-hA1,<-hA2,<-hA3];rfl
   have a1:(!!aA (λi=>!ah (ai (λi=>(ai g i).cells) i)) n)=A1:=by rw [hA1,Bool.not_not];rfl
   have a2:aA (λi=>mY (ai (ez ((λ(x:Nat)=>[PV.rs 6 n (λi=>(ai g i).cells)]) 0)).2 0) (ai (λk=>(λi=>(ai g i).cells) (Int.toNat 1+k)) i)) ((n:Int) - 1).toNat=A2:=by
    rw [hA2,show((n:Int) - 1).toNat=n - 1 by omega];rfl
   have v1:(!!aA (λi=>!ah (ai (λi=>(ai g i).cells) i)) n)=true->PV.val (.int .i64 1)=PV.val (.int .i64 (aY n (ai g))):=λh=>by
    rw [a1] at h;rw [vE,h];rfl
   have v8:(!!aA (λi=>!ah (ai (λi=>(ai g i).cells) i)) n)=false->aA (λi=>mY (ai (ez ((λ(x:Nat)=>[PV.rs 6 n (λi=>(ai g i).cells)]) 0)).2 0) (ai (λk=>(λi=>(ai g i).cells) (Int.toNat 1+k)) i)) ((n:Int) - 1).toNat=true->PV.val (.int .i64 8)=PV.val (.int .i64 (aY n (ai g))):=λh h'=>by
    rw [a1] at h;rw [a2] at h';rw [vE,h,h'];rfl
   have p2:isPL 10000 ((n:Int) - 1).toNat (λk=>(λi=>(ai g i).cells) (Int.toNat 1+k)):=⟨λi hi=>⟨rfl,(hg (1+i) (by omega)).2⟩,by omega⟩
   ·with_unfolding_all refine⟨pl2,λh2=>⟨[some 1],aa [(2,.ptr 0 0 0 0)] [⟨38,1,0,true,false,1,λ_=>[.val (.int .i64 (aY n (ai g)))]⟩] 1 [],Wo ⟨qZ ⟨⟨v1 h2,rfl⟩,qQ⟩,qQ⟩ ⟨pP,qQ⟩ trivial,rfl,rfl⟩,λh2=>⟨⟨by decide,by omega,by omega⟩,⟨p2,rfl,pl,by show 0 < n;omega⟩,λh3=>⟨[some 1],aa [(2,.ptr 0 0 0 0)] [⟨38,1,0,true,false,1,λ_=>[.val (.int .i64 (aY n (ai g)))]⟩] 1 [],Wo ⟨qZ ⟨⟨v8 h2 h3,rfl⟩,qQ⟩,qQ⟩ ⟨pP,qQ⟩ trivial,rfl,rfl⟩,λh3=>⟨λ_ _=>rfl,⟨rfl,hn⟩,?_⟩⟩⟩
    with_unfolding_all refine⟨Unit,λk _=>∀e,e < k->aA (λi=>dz (ai g e) (ai g ((e+1)%n)) (ai g i)) n=false,λ_=>aa [(1,.ptr 0 0 0 0),(2,.ptr 1 1 0 0)] [⟨34,1,0,true,false,1,λ_=>[.rs 6 n (λi=>(ai g i).cells)]⟩,⟨38,1,1,true,false,1,λ_=>[.val (.int .i64 0)]⟩] 2 [],⟨(),[some 0,some 1],λe he=>absurd he (Nat.not_lt_zero e),Wo ⟨qZ ⟨⟨qW,rfl⟩,qQ⟩,qY,qQ⟩ ⟨pP,pP,qQ⟩ trivial⟩,λk y hk hI=>?_,λy hI=>?_⟩
    ·have hk:k < n:=hk;have hI:∀e,e < k->aA (λi=>dz (ai g e) (ai g ((e+1)%n)) (ai g i)) n=false:=hI;have hml:=Nat.mod_lt (k+1) (show 0 < n by omega);have c1:kK 10000 (ai g k).cells:=⟨rfl,(hg k hk).2⟩;have c2:kK 10000 (ai g ((k+1)%n)).cells:=⟨rfl,(hg _ hml).2⟩;have w15:aA (λi=>dz (ai g k) (ai g ((k+1)%n)) (ai g i)) n=true->(!!aA (λi=>!ah (ai (λi=>(ai g i).cells) i)) n)=false->aA (λi=>mY (ai (ez ((λ(x:Nat)=>[PV.rs 6 n (λi=>(ai g i).cells)]) 0)).2 0) (ai (λk=>(λi=>(ai g i).cells) (Int.toNat 1+k)) i)) ((n:Int) - 1).toNat=false->PV.val (.int .i64 15)=PV.val (.int .i64 (aY n (ai g))):=λh h' h''=>by
      rw [a1] at h';rw [a2] at h'';have e3:A3=true:=by rw [hA3];exact a8.2 ⟨k,hk,h⟩
      rw [vE,h',h'',e3];rfl
     with_unfolding_all refine⟨rfl,⟨pl,c1,c2⟩,λh4=>?_,λh4=>⟨(),[some 0,some 1],?_,Wo ⟨qZ ⟨⟨qW,rfl⟩,qQ⟩,qY,qQ⟩ ⟨pP,pP,qQ⟩ trivial⟩⟩
     ·with_unfolding_all exact⟨[some 1],aa [(2,.ptr 0 0 0 0)] [⟨38,1,0,true,false,1,λ_=>[.val (.int .i64 (aY n (ai g)))]⟩] 1 [],Wo ⟨qZ ⟨⟨w15 h4 h2 h3,rfl⟩,qQ⟩,qQ⟩ ⟨pP,qQ⟩ trivial,rfl,rfl⟩
     ·intro e he;have he:e < k+1:=he;rcases Nat.lt_or_ge e k with h|h
      ·exact hI e h
      ·obtain rfl:e=k:=by omega
       exact h4
    ·have hI:∀e,e < n->aA (λi=>dz (ai g e) (ai g ((e+1)%n)) (ai g i)) n=false:=hI;have e3:A3=false:=by rw [hA3];exact aE.2 hI
     have w0:PV.val (.int .i64 0)=PV.val (.int .i64 (aY n (ai g))):=by
      rw [a1] at h2;rw [a2] at h3;rw [vE,h2,h3,e3];rfl
     with_unfolding_all exact⟨[some 1],aa [(2,.ptr 0 0 0 0)] [⟨38,1,0,true,false,1,λ_=>[.val (.int .i64 (aY n (ai g)))]⟩] 1 [],Wo ⟨qZ ⟨⟨w0,rfl⟩,qQ⟩,qQ⟩ ⟨pP,qQ⟩ trivial,rfl,rfl⟩
 ·cases e
end Go.Proofs
namespace Go.Num
def pn (c:Nat->List PV) (i:Nat):Nat:=(ez (c i)).1
def pg (c:Nat->List PV) (i:Nat):Nat->List PV:=(ez (c i)).2
def Bk:List PV->Int×Int×Int
 |[.val (.int .i64 x),.val (.int .i64 y),.val (.int .i64 z)]=>(x,y,z)
 |_=>(0,0,0)
def ab (q:Int×Int×Int):List PV:=[.val (.int .i64 q.1),.val (.int .i64 q.2.1),.val (.int .i64 q.2.2)]
def ow (o:Nat->List PV) (i:Nat):Int×Int×Int:=Bk (o i)
def bZ (K k:Nat) (c:Nat->List PV):Prop:=(∀i,i < k->c i=[.rs 6 (pn c i) (pg c i)]/\isPL K (pn c i) (pg c i))/\k<=140737488355328
def c8 (l:Nat) (o:Nat->List PV):Prop:=(∀i,i < l->o i=ab (ow o i))/\l<=140737488355328
def bm (e:Nat->Int):Nat->Nat->Int
 |0,_=>0
 |n+1,i=>bif e i==0 then bm e n (i+1) else e i
def bg (n:Nat->Nat):Nat->Nat
 |0=>0
 |k+1=>bg n k+n k
def cR (q:Int×Int×Int):Bool:=decide (q.1 < 0)||decide (q.2.1 < 0)||decide (q.2.2 < 0)
def bz (lo hi:PtS) (k:Nat) (n:Nat->Nat) (p:Nat->Nat->PtS) (l:Nat) (q:Nat->Int×Int×Int):Int :=
 bif !ah lo||!ah hi then 1 else bif decide (32 < k) then 4 else bif !(bm (λi=>aY (n i) (p i)) k 0==0) then bm (λi=>aY (n i) (p i)) k 0
 else bif decide (396 < bg n k) then 4 else bif !decide (l=k) then 9 else bif aA (λi=>cR (q i)) l then 2 else 0
end Go.Num
namespace Go.Proofs
def EH:List PV->Option Ans
 |[.agg [.val (.bool s1),.val (.string b1),.val (.string c1),.val (.bool s2),.val (.string b2),.val (.string c2),.val (.bool s3),.val (.string b3),.val (.string c3),.val (.bool s4),.val (.string b4),.val (.string c4),.rs 1 k c,.rs 3 l o]]=>some ⟨some ((PtS.le 4294967296 (PtS.mk ⟨s1,b1,c1⟩ ⟨s2,b2,c2⟩)/\PtS.le 4294967296 (PtS.mk ⟨s3,b3,c3⟩ ⟨s4,b4,c4⟩))/\bZ 10000 k c/\c8 l o),.val (.int .i64 (bz (PtS.mk ⟨s1,b1,c1⟩ ⟨s2,b2,c2⟩) (PtS.mk ⟨s3,b3,c3⟩ ⟨s4,b4,c4⟩) k (pn c) (λi=>ai (pg c i)) l (ow o))),[]⟩
 |_=>none
def D89:Opt:={ join:=d9 [1] }
theorem Fq:ak D89.toOrd Tryz.f89 1=true:=by kernel_rfl
theorem f89:FnOk Tryz.prog 89 EH:=by
 refine FnOk.ofW aj (am (l:=[(67,zF),(124,yV)]) (own:=[]) (inl:=[]) (by simp [f67,f124]) (by simp)) Tryz.func89 D89 1 Fq λargs r e=>?_;unfold EH at e;split at e
 ·rename_i s1 b1 c1 s2 b2 c2 s3 b3 c3 s4 b4 c4 k c l o
  cases e;refine⟨by simp,λhm=>?_⟩;obtain⟨⟨hlo,hhi⟩,⟨hc,hk⟩,ho,hl⟩:=hm _ rfl;obtain⟨lo,hlo'⟩:∃p,p=(PtS.mk ⟨s1,b1,c1⟩ ⟨s2,b2,c2⟩):=⟨_,rfl⟩;obtain⟨hi,hhi'⟩:∃p,p=(PtS.mk ⟨s3,b3,c3⟩ ⟨s4,b4,c4⟩):=⟨_,rfl⟩;have hc1:∀i,i < k->[.rs 6 (pn c i) (pg c i)]=c i:=λi hi=>(hc i hi).1.symm;have ho1:∀i,i < l->ab (ow o i)=o i:=λi hi=>(ho i hi).symm;refine⟨[],aa [(0,.agg [.val (.bool (PtS.mk ⟨s1,b1,c1⟩ ⟨s2,b2,c2⟩).x.s),.val (.string (PtS.mk ⟨s1,b1,c1⟩ ⟨s2,b2,c2⟩).x.b),.val (.string (PtS.mk ⟨s1,b1,c1⟩ ⟨s2,b2,c2⟩).x.c),.val (.bool (PtS.mk ⟨s1,b1,c1⟩ ⟨s2,b2,c2⟩).y.s),.val (.string (PtS.mk ⟨s1,b1,c1⟩ ⟨s2,b2,c2⟩).y.b),.val (.string (PtS.mk ⟨s1,b1,c1⟩ ⟨s2,b2,c2⟩).y.c),.val (.bool (PtS.mk ⟨s3,b3,c3⟩ ⟨s4,b4,c4⟩).x.s),.val (.string (PtS.mk ⟨s3,b3,c3⟩ ⟨s4,b4,c4⟩).x.b),.val (.string (PtS.mk ⟨s3,b3,c3⟩ ⟨s4,b4,c4⟩).x.c),.val (.bool (PtS.mk ⟨s3,b3,c3⟩ ⟨s4,b4,c4⟩).y.s),.val (.string (PtS.mk ⟨s3,b3,c3⟩ ⟨s4,b4,c4⟩).y.b),.val (.string (PtS.mk ⟨s3,b3,c3⟩ ⟨s4,b4,c4⟩).y.c),.rs 1 k (λi=>[.rs 6 (pn c i) (pg c i)]),.rs 3 l (λi=>ab (ow o i))])] [] 0 [],Wo trivial ⟨⟨rfl,rfl,rfl,rfl,rfl,rfl,rfl,rfl,rfl,rfl,rfl,rfl,⟨rfl,rfl,hc1⟩,⟨rfl,rfl,ho1⟩,qQ⟩,qQ⟩ trivial,?_⟩;rw [<-hlo'] at hlo ⊢;rw [<-hhi'] at hhi ⊢;clear hlo' hhi' hm;have hlo5:=hlo;have hno:∀b:Bool,(cD b != 0)=true->b=false:=λb h=>by cases b<;>first|rfl|cases h
  have hyes:∀b:Bool,(cD b != 0)=false->b=true:=λb h=>by cases b<;>first|rfl|cases h
  obtain⟨R,hR⟩:∃R,R=bz lo hi k (pn c) (λi=>ai (pg c i)) l (ow o):=⟨_,rfl⟩;rw [<-hR];have v1:(!ah lo||!ah hi)=true->PV.val (.int .i64 1)=PV.val (.int .i64 R):=λh=>by
   rw [hR];unfold bz;rw [h];rfl
  have n1:ah lo=false->(!ah lo||!ah hi)=true:=λh=>by rw [h];rfl
  have n2:ah hi=false->(!ah lo||!ah hi)=true:=λh=>by rw [h,Bool.not_false,Bool.or_true]
  have n3:ah lo=true->ah hi=true->(!ah lo||!ah hi)=false:=λh h'=>by rw [h,h'];rfl
  with_unfolding_all refine⟨Unit,λ_=>(!ah lo||!ah hi)=false,λ_=>aa [(1,.ptr 0 0 0 0)] [⟨31,14,0,true,false,1,λ_=>[.val (.bool lo.x.s),.val (.string lo.x.b),.val (.string lo.x.c),.val (.bool lo.y.s),.val (.string lo.y.b),.val (.string lo.y.c),.val (.bool hi.x.s),.val (.string hi.x.b),.val (.string hi.x.c),.val (.bool hi.y.s),.val (.string hi.y.b),.val (.string hi.y.c),.rs 1 k (λi=>[.rs 6 (pn c i) (pg c i)]),.rs 3 l (λi=>ab (ow o i))]⟩] 1 [],?_,λ_ h1=>?_⟩
  ·with_unfolding_all refine⟨⟨lo,rfl,hlo⟩,λh1=>⟨⟨hi,rfl,hhi⟩,λh2=>⟨[],aa [(2,.val (.int .i64 (R)))] [] 0 [],Wo trivial ⟨v1 (n2 (hno _ h2)),qQ⟩ trivial,rfl,rfl⟩,λh2=>⟨(),[some 0],n3 (hyes _ h1) (hyes _ h2),Wo ⟨qZ ⟨rq,rq,rq,rq,rq,rq,rq,rq,rq,rq,rq,rq,⟨qW,rfl⟩,⟨qW,rfl⟩,qQ⟩,qQ⟩ ⟨pP,qQ⟩ trivial⟩⟩,λh1=>⟨λh2=>⟨[],aa [(2,.val (.int .i64 (R)))] [] 0 [],Wo trivial ⟨v1 (n1 (hno _ h1)),qQ⟩ trivial,rfl,rfl⟩,λh2=>(nomatch h2)⟩⟩
  ·have h1:(!ah lo||!ah hi)=false:=h1;with_unfolding_all refine⟨λh2=>⟨[],aa [(2,.val (.int .i64 (R)))] [] 0 [],Wo trivial ⟨?_,qQ⟩ trivial,rfl,rfl⟩,λh2=>?_⟩
   ·have h2:(k:Int) > 32:=of_decide_eq_true h2;rw [hR];unfold bz;rw [h1,decide_eq_true (show 32 < k by omega)];rfl
   ·have h2:¬(k:Int) > 32:=of_decide_eq_false h2;have hk32:k<=32:=by omega
    have e2:R=bif !(bm (λi=>aY (pn c i) (ai (pg c i))) k 0==0) then bm (λi=>aY (pn c i) (ai (pg c i))) k 0 else bif decide (396 < bg (pn c) k) then 4 else bif !decide (l=k) then 9 else bif aA (λi=>cR (ow o i)) l then 2 else 0:=by
     rw [hR];unfold bz;rw [h1,decide_eq_false (show ¬32 < k by omega)];rfl
    clear hR;obtain⟨F,hF⟩:∃F,F=bm (λi=>aY (pn c i) (ai (pg c i))) k 0:=⟨_,rfl⟩;rw [<-hF] at e2;with_unfolding_all refine⟨Nat,λi=>i<=k/\bm (λi=>aY (pn c i) (ai (pg c i))) (k - i) i=F/\bg (pn c) i<=64*i,λi=>aa [(1,.ptr 0 0 0 0),(3,.val (.int .i64 (bg (pn c) i:Nat))),(26,.rs 1 k (λi=>[.rs 6 (pn c i) (pg c i)])),(27,.val (goInt k)),(28,.val (goInt i))] [⟨31,14,0,true,false,1,λ_=>[.val (.bool lo.x.s),.val (.string lo.x.b),.val (.string lo.x.c),.val (.bool lo.y.s),.val (.string lo.y.b),.val (.string lo.y.c),.val (.bool hi.x.s),.val (.string hi.x.b),.val (.string hi.x.c),.val (.bool hi.y.s),.val (.string hi.y.b),.val (.string hi.y.c),.rs 1 k (λi=>[.rs 6 (pn c i) (pg c i)]),.rs 3 l (λi=>ab (ow o i))]⟩] 1 [],λi=>k - i,⟨0,[some 0],⟨Nat.zero_le _,hF.symm,Nat.le_refl _⟩,Wo ⟨qZ ⟨rq,rq,rq,rq,rq,rq,rq,rq,rq,rq,rq,rq,⟨qW,rfl⟩,⟨qW,rfl⟩,qQ⟩,qQ⟩ ⟨pP,rfl,qW,rfl,rfl,qQ⟩ trivial⟩,λi hi=>?_⟩
    obtain⟨hik,hFi,hsum⟩:i<=k/\bm (λi=>aY (pn c i) (ai (pg c i))) (k - i) i=F/\bg (pn c) i<=64*i:=hi;with_unfolding_all refine⟨λh3=>?_,λh3=>?_⟩
    ·have h3:(i:Int) < k:=bx h3;have ei:(i:Int).toNat=i:=Int.toNat_natCast i;have hpl:=(hc i (by omega)).2;have hst:bm (λi=>aY (pn c i) (ai (pg c i))) (k - i) i=bif aY (pn c i) (ai (pg c i))==0 then bm (λi=>aY (pn c i) (ai (pg c i))) (k - (i+1)) (i+1) else aY (pn c i) (ai (pg c i)):=by
      rw [show k - i=(k - (i+1))+1 by omega];rfl
     have g1:∀j:Nat,j=i->isPL 10000 (pn c j) (pg c j):=λj hj=>by rw [hj];exact hpl
     have g2:∀j:Nat,j=i->(aY (pn c j) (ai (pg c j)) != 0)=true->PV.val (.int .i64 (aY (pn c j) (ai (pg c j))))=PV.val (.int .i64 R):=λj hj h=>by
      rw [hj] at h ⊢;have h':(aY (pn c i) (ai (pg c i))==0)=false:=by simpa using h
      rw [h',cond_false,hFi] at hst;have h'':(F==0)=false:=by rw [hst];exact h'
      rw [e2,h'',hst];rfl
     have g3:∀j:Nat,j=i->(aY (pn c j) (ai (pg c j)) != 0)=false->bm (λi=>aY (pn c i) (ai (pg c i))) (k - (i+1)) (i+1)=F/\pn c i<=64:=λj hj h=>by
      rw [hj] at h;have h':(aY (pn c i) (ai (pg c i))==0)=true:=by simpa using h
      rw [h',cond_true] at hst;refine⟨by rw [<-hst];exact hFi,?_⟩;have h0:aY (pn c i) (ai (pg c i))=0:=eq_of_beq h';unfold aY at h0;cases hb:(decide (pn c i < 3)||decide (64 < pn c i)) with
      |true=>rw [hb] at h0;cases h0
      |false =>
       rw [Bool.or_eq_false_iff] at hb;have:=of_decide_eq_false hb.2;omega
     have g4:∀j:Nat,j=i->pn c i<=64->PV.val (.int .i64 (IntKind.i64.wrap ((bg (pn c) i:Nat)+(pn c j:Nat))))=PV.val (.int .i64 (bg (pn c) (i+1):Nat)):=λj hj h=>by
      rw [hj,wrap64 (by omega) (by omega)];rfl
     have wi:PV.val (.int .i64 (IntKind.i64.wrap ((i:Int)+1)))=PV.val (.int .i64 ((i+1:Nat):Int)):=by
      rw [wrap64 (by omega) (by omega)];rfl
     with_unfolding_all refine⟨⟨by omega,by omega⟩,g1 _ ei,λh4=>⟨[],aa [(2,.val (.int .i64 (R)))] [] 0 [],Wo trivial ⟨g2 _ ei h4,qQ⟩ trivial,rfl,rfl⟩,λh4=>⟨i+1,[some 0],⟨by omega,(g3 _ ei h4).1,?_⟩,by show k - (i+1) < k - i;omega,Wo ⟨qZ ⟨rq,rq,rq,rq,rq,rq,rq,rq,rq,rq,rq,rq,⟨qW,rfl⟩,⟨qW,rfl⟩,qQ⟩,qQ⟩ ⟨pP,g4 _ ei (g3 _ ei h4).2,qW,rfl,wi,qQ⟩ trivial⟩⟩
     have h5:=(g3 _ ei h4).2;show bg (pn c) i+pn c i<=64*(i+1);omega
    ·have h3:(k:Int)<=i:=dU h3;obtain rfl:i=k:=by omega
     have hF0:F=0:=by
      rw [Nat.sub_self] at hFi;exact hFi.symm
     rw [hF0] at e2;have e3:R=bif decide (396 < bg (pn c) i) then 4 else bif !decide (l=i) then 9 else bif aA (λi=>cR (ow o i)) l then 2 else 0:=e2;clear e2 hF hFi;with_unfolding_all refine⟨λh4=>⟨[],aa [(2,.val (.int .i64 (R)))] [] 0 [],Wo trivial ⟨?_,qQ⟩ trivial,rfl,rfl⟩,λh4=>⟨λh5=>⟨[],aa [(2,.val (.int .i64 (R)))] [] 0 [],Wo trivial ⟨?_,qQ⟩ trivial,rfl,rfl⟩,λh5=>?_⟩⟩
     ·have h4:((bg (pn c) i:Nat):Int) > 396:=of_decide_eq_true h4;rw [e3,decide_eq_true (show 396 < bg (pn c) i by omega)];rfl
     ·have h4:¬((bg (pn c) i:Nat):Int) > 396:=of_decide_eq_false h4;have h5:¬l=i:=by
       have h5:(!((l:Int)==(i:Int)))=true:=h5;intro e;rw [e,beq_self_eq_true] at h5;cases h5
      rw [e3,decide_eq_false (show ¬396 < bg (pn c) i by omega),decide_eq_false h5];rfl
     ·have h4:¬((bg (pn c) i:Nat):Int) > 396:=of_decide_eq_false h4;have h5:l=i:=by
       have h5:(!((l:Int)==(i:Int)))=false:=h5;have h6:((l:Int)==(i:Int))=true:=by simpa using h5
       have:=eq_of_beq h6;omega
      have e4:R=bif aA (λi=>cR (ow o i)) l then 2 else 0:=by
       rw [e3,decide_eq_false (show ¬396 < bg (pn c) i by omega),decide_eq_true h5];rfl
      with_unfolding_all refine⟨Nat,λj=>j<=l/\∀x,x < j->cR (ow o x)=false,λj=>aa [(52,.rs 3 l (λi=>ab (ow o i))),(53,.val (goInt l)),(54,.val (goInt j))] [] 0 [],λj=>l - j,⟨0,[],⟨Nat.zero_le _,λx hx=>absurd hx (Nat.not_lt_zero x)⟩,Wo trivial ⟨qW,rfl,rfl,qQ⟩ trivial⟩,λj hj=>?_⟩
      obtain⟨hjl,hJ⟩:j<=l/\∀x,x < j->cR (ow o x)=false:=hj;have eb:cR (ow o j)=(decide ((ow o j).1 < 0)||decide ((ow o j).2.1 < 0)||decide ((ow o j).2.2 < 0)):=rfl;have T1:decide ((ow o (j:Int).toNat).1 < 0) = !false->cR (ow o j)=true:=λh=>by
       have h:decide ((ow o j).1 < 0)=true:=h;rw [eb,h,Bool.true_or,Bool.true_or]
      have T2:decide ((ow o (j:Int).toNat).2.1 < 0) = !false->cR (ow o j)=true:=λh=>by
       have h:decide ((ow o j).2.1 < 0)=true:=h;rw [eb,h,Bool.or_true,Bool.true_or]
      have T3:decide ((ow o (j:Int).toNat).2.2 < 0)=true->cR (ow o j)=true:=λh=>by
       have h:decide ((ow o j).2.2 < 0)=true:=h;rw [eb,h,Bool.or_true]
      have rT:(j:Int) < l->cR (ow o j)=true->PV.val (.int .i64 2)=PV.val (.int .i64 R):=λh h'=>by
       rw [e4,a8.2 ⟨j,by omega,h'⟩];rfl
      have rF:(l:Int)<=j->PV.val (.int .i64 0)=PV.val (.int .i64 R):=λh=>by
       rw [e4,aE.2 λx hx=>hJ x (by omega)];rfl
      have nx:decide ((ow o (j:Int).toNat).1 < 0)=false->decide ((ow o (j:Int).toNat).2.1 < 0)=false->decide ((ow o (j:Int).toNat).2.2 < 0)=false->∀x,x < j+1->cR (ow o x)=false:=λh1 h2 h3 x hx=>by
       have h1:decide ((ow o j).1 < 0)=false:=h1;have h2:decide ((ow o j).2.1 < 0)=false:=h2;have h3:decide ((ow o j).2.2 < 0)=false:=h3;rcases Nat.lt_or_ge x j with h|h
       ·exact hJ x h
       ·obtain rfl:x=j:=by omega
        rw [eb,h1,h2,h3];rfl
      have wi:(j:Int) < l->PV.val (.int .i64 (IntKind.i64.wrap ((j:Int)+1)))=PV.val (.int .i64 ((j+1:Nat):Int)):=λh=>by
       rw [wrap64 (by omega) (by omega)];rfl
      with_unfolding_all exact⟨(λh1=>⟨⟨Int.natCast_nonneg j,(bx h1)⟩,(λh2=>⟨(λh3=>⟨(λh4=>⟨[],aa [(2,.val (.int .i64 (R)))] [] 0 [],Wo trivial ⟨rT (bx h1) (T3 h4),qQ⟩ trivial,rfl,rfl⟩),(λh4=>⟨j+1,[],⟨Int.ofNat_lt.1 (bx h1),nx (h2) (h3) (h4)⟩,by have:=bx h1;show l - (j+1) < l - j;omega,Wo trivial ⟨qW,rfl,wi (bx h1),qQ⟩ trivial⟩)⟩),(λh3=>⟨(λh4=>⟨[],aa [(2,.val (.int .i64 (R)))] [] 0 [],Wo trivial ⟨rT (bx h1) (T2 h3),qQ⟩ trivial,rfl,rfl⟩),(λh4=>nomatch h4)⟩)⟩),(λh2=>⟨(λh3=>nomatch h3),(λh3=>⟨(λh4=>⟨[],aa [(2,.val (.int .i64 (R)))] [] 0 [],Wo trivial ⟨rT (bx h1) (T1 h2),qQ⟩ trivial,rfl,rfl⟩),(λh4=>nomatch h4)⟩)⟩)⟩),(λh1=>⟨[],aa [(2,.val (.int .i64 (R)))] [] 0 [],Wo trivial ⟨rF (dU h1),qQ⟩ trivial,rfl,rfl⟩)⟩
 ·cases e
def Bl:List PV->Option Ans
 |[.agg [.val (.bool s1),.val (.string b1),.val (.string c1),.val (.bool s2),.val (.string b2),.val (.string c2),.val (.bool s3),.val (.string b3),.val (.string c3),.val (.bool s4),.val (.string b4),.val (.string c4),.rs 1 k c,.rs 3 l o],.rs 6 n g]=>some ⟨some (((PtS.le 4294967296 (PtS.mk ⟨s1,b1,c1⟩ ⟨s2,b2,c2⟩)/\PtS.le 4294967296 (PtS.mk ⟨s3,b3,c3⟩ ⟨s4,b4,c4⟩))/\bZ 10000 k c/\c8 l o)/\isPL 4294967296 n g),.val (.bool (!aA (λi=>!ah (ai g i)) n&&(bz (PtS.mk ⟨s1,b1,c1⟩ ⟨s2,b2,c2⟩) (PtS.mk ⟨s3,b3,c3⟩ ⟨s4,b4,c4⟩) k (pn c) (λi=>ai (pg c i)) l (ow o)==0))),[]⟩
 |_=>none
theorem DV:ak {} Tryz.f125 2=true:=by kernel_rfl
theorem f125:FnOk Tryz.prog 125 Bl:=by
 refine FnOk.ofW aj (am (l:=[(67,zF),(89,EH)]) (own:=[]) (inl:=[]) (by simp [f67,f89]) (by simp)) Tryz.func125 {} 2 DV λargs r e=>?_;unfold Bl at e;split at e
 ·rename_i s1 b1 c1 s2 b2 c2 s3 b3 c3 s4 b4 c4 k c l o n g
  cases e;refine⟨by simp,λhm=>?_⟩;obtain⟨⟨⟨hlo,hhi⟩,⟨hc,hk⟩,ho,hl⟩,hg,hn⟩:=hm _ rfl;obtain⟨lo,hlo'⟩:∃p,p=(PtS.mk ⟨s1,b1,c1⟩ ⟨s2,b2,c2⟩):=⟨_,rfl⟩;obtain⟨hi,hhi'⟩:∃p,p=(PtS.mk ⟨s3,b3,c3⟩ ⟨s4,b4,c4⟩):=⟨_,rfl⟩;have hc1:∀i,i < k->[.rs 6 (pn c i) (pg c i)]=c i:=λi hi=>(hc i hi).1.symm;have ho1:∀i,i < l->ab (ow o i)=o i:=λi hi=>(ho i hi).symm;refine⟨[],aa [(0,.agg [.val (.bool (PtS.mk ⟨s1,b1,c1⟩ ⟨s2,b2,c2⟩).x.s),.val (.string (PtS.mk ⟨s1,b1,c1⟩ ⟨s2,b2,c2⟩).x.b),.val (.string (PtS.mk ⟨s1,b1,c1⟩ ⟨s2,b2,c2⟩).x.c),.val (.bool (PtS.mk ⟨s1,b1,c1⟩ ⟨s2,b2,c2⟩).y.s),.val (.string (PtS.mk ⟨s1,b1,c1⟩ ⟨s2,b2,c2⟩).y.b),.val (.string (PtS.mk ⟨s1,b1,c1⟩ ⟨s2,b2,c2⟩).y.c),.val (.bool (PtS.mk ⟨s3,b3,c3⟩ ⟨s4,b4,c4⟩).x.s),.val (.string (PtS.mk ⟨s3,b3,c3⟩ ⟨s4,b4,c4⟩).x.b),.val (.string (PtS.mk ⟨s3,b3,c3⟩ ⟨s4,b4,c4⟩).x.c),.val (.bool (PtS.mk ⟨s3,b3,c3⟩ ⟨s4,b4,c4⟩).y.s),.val (.string (PtS.mk ⟨s3,b3,c3⟩ ⟨s4,b4,c4⟩).y.b),.val (.string (PtS.mk ⟨s3,b3,c3⟩ ⟨s4,b4,c4⟩).y.c),.rs 1 k (λi=>[.rs 6 (pn c i) (pg c i)]),.rs 3 l (λi=>ab (ow o i))]),(1,.rs 6 n (λi=>(ai g i).cells))] [] 0 [],Wo trivial ⟨⟨rfl,rfl,rfl,rfl,rfl,rfl,rfl,rfl,rfl,rfl,rfl,rfl,⟨rfl,rfl,hc1⟩,⟨rfl,rfl,ho1⟩,qQ⟩,⟨rfl,rfl,λi hi=>(hg i hi).1.symm⟩,qQ⟩ trivial,?_⟩;rw [<-hlo'] at hlo ⊢;rw [<-hhi'] at hhi ⊢;clear hlo' hhi' hm;have hrg:(lo.le 4294967296/\hi.le 4294967296)/\bZ 10000 k (λi=>[.rs 6 (pn c i) (pg c i)])/\c8 l (λi=>ab (ow o i)):=⟨⟨hlo,hhi⟩,⟨λi hi=>⟨rfl,(hc i hi).2⟩,hk⟩,λi hi=>rfl,hl⟩;obtain⟨R,hR⟩:∃R,R=bz lo hi k (pn c) (λi=>ai (pg c i)) l (ow o):=⟨_,rfl⟩;rw [<-hR];have hR':bz lo hi k (pn (λi=>[.rs 6 (pn c i) (pg c i)])) (λi=>ai (pg (λi=>[.rs 6 (pn c i) (pg c i)]) i)) l (ow (λi=>ab (ow o i)))=R:=hR.symm;obtain⟨V,hV⟩:∃V,V=(!aA (λi=>!ah (ai g i)) n&&(R==0)):=⟨_,rfl⟩;rw [<-hV];have hno:∀b:Bool,(cD b != 0)=true->b=false:=λb h=>by cases b<;>first|rfl|cases h
  have hyes:∀b:Bool,(cD b != 0)=false->b=true:=λb h=>by cases b<;>first|rfl|cases h
  with_unfolding_all refine⟨Nat,λi=>i<=n/\∀j,j < i->ah (ai g j)=true,λi=>aa [(2,.ptr 0 0 0 0),(7,.rs 6 n (λi=>(ai g i).cells)),(8,.val (goInt n)),(9,.val (goInt i))] [⟨31,14,0,true,false,1,λ_=>[.val (.bool lo.x.s),.val (.string lo.x.b),.val (.string lo.x.c),.val (.bool lo.y.s),.val (.string lo.y.b),.val (.string lo.y.c),.val (.bool hi.x.s),.val (.string hi.x.b),.val (.string hi.x.c),.val (.bool hi.y.s),.val (.string hi.y.b),.val (.string hi.y.c),.rs 1 k (λi=>[.rs 6 (pn c i) (pg c i)]),.rs 3 l (λi=>ab (ow o i))]⟩] 1 [],λi=>n - i,⟨0,[some 0],⟨Nat.zero_le _,λj hj=>absurd hj (Nat.not_lt_zero j)⟩,Wo ⟨qZ ⟨rq,rq,rq,rq,rq,rq,rq,rq,rq,rq,rq,rq,⟨qW,rfl⟩,⟨qW,rfl⟩,qQ⟩,qQ⟩ ⟨pP,qW,rfl,rfl,qQ⟩ trivial⟩,λi hi=>?_⟩
  obtain⟨hin,hI⟩:i<=n/\∀j,j < i->ah (ai g j)=true:=hi;with_unfolding_all refine⟨λh1=>?_,λh1=>⟨hrg,[],aa [(4,.val (.bool V))] [] 0 [],Wo trivial ⟨?_,qQ⟩ trivial,rfl,rfl⟩⟩
  ·have h1:(i:Int) < n:=bx h1;have ei:(i:Int).toNat=i:=Int.toNat_natCast i;have hp:=(hg i (by omega)).2;rw [<-ei] at hp;with_unfolding_all refine⟨⟨by omega,by omega⟩,⟨ai g (i:Int).toNat,rfl,hp⟩,λh2=>⟨[],aa [(4,.val (.bool V))] [] 0 [],Wo trivial ⟨?_,qQ⟩ trivial,rfl,rfl⟩,λh2=>⟨i+1,[some 0],⟨by omega,?_⟩,by show n - (i+1) < n - i;omega,Wo ⟨qZ ⟨rq,rq,rq,rq,rq,rq,rq,rq,rq,rq,rq,rq,⟨qW,rfl⟩,⟨qW,rfl⟩,qQ⟩,qQ⟩ ⟨pP,qW,rfl,?_,qQ⟩ trivial⟩⟩
   ·have h2:ah (ai g (i:Int).toNat)=false:=hno _ h2;rw [ei] at h2;rw [hV,a8.2 ⟨i,by omega,by rw [h2];rfl⟩];rfl
   ·have h2:ah (ai g (i:Int).toNat)=true:=hyes _ h2;rw [ei] at h2;intro j hj;rcases Nat.lt_or_ge j i with h|h
    ·exact hI j h
    ·obtain rfl:j=i:=by omega
     exact h2
   ·show PV.val (.int .i64 (IntKind.i64.wrap ((i:Int)+1)))=PV.val (.int .i64 ((i+1:Nat):Int));rw [wrap64 (by omega) (by omega)];rfl
  ·have h1:(n:Int)<=i:=dU h1;have e1:aA (λi=>!ah (ai g i)) n=false:=aE.2 λj hj=>by rw [hI j (by omega)];rfl
   rw [hV,e1];show PV.val (.bool (bz lo hi k (pn (λi=>[.rs 6 (pn c i) (pg c i)])) (λi=>ai (pg (λi=>[.rs 6 (pn c i) (pg c i)]) i)) l (ow (λi=>ab (ow o i)))==0))=PV.val (.bool (!false&&(R==0)));rw [hR'];rfl
 ·cases e
def DW:List PV->Option Ans
 |[.agg [.val (.bool s1),.val (.string b1),.val (.string c1),.val (.bool s2),.val (.string b2),.val (.string c2),.val (.bool s3),.val (.string b3),.val (.string c3),.val (.bool s4),.val (.string b4),.val (.string c4),.rs 1 k c,.rs 3 l o],.rs 6 n g]=>some ⟨some (((PtS.le 4294967296 (PtS.mk ⟨s1,b1,c1⟩ ⟨s2,b2,c2⟩)/\PtS.le 4294967296 (PtS.mk ⟨s3,b3,c3⟩ ⟨s4,b4,c4⟩))/\bZ 10000 k c/\c8 l o)/\isPL 4294967296 n g),.val (.int .i64 (cD ((bz (PtS.mk ⟨s1,b1,c1⟩ ⟨s2,b2,c2⟩) (PtS.mk ⟨s3,b3,c3⟩ ⟨s4,b4,c4⟩) k (pn c) (λi=>ai (pg c i)) l (ow o)==0)&&!aA (λi=>!ah (ai g i)) n))),[]⟩
 |_=>none
theorem Fr:ak {} Tryz.f55 2=true:=by kernel_rfl
theorem f55:FnOk Tryz.prog 55 DW:=by
 refine FnOk.ofW aj (am (l:=[(65,sx),(89,EH)]) (own:=[]) (inl:=[]) (by simp [A9,f89]) (by simp)) Tryz.func55 {} 2 Fr λargs r e=>?_;unfold DW at e;split at e
 ·rename_i s1 b1 c1 s2 b2 c2 s3 b3 c3 s4 b4 c4 k c l o n g
  cases e;refine⟨by simp,λhm=>?_⟩;obtain⟨⟨⟨hlo,hhi⟩,⟨hc,hk⟩,ho,hl⟩,hg,hn⟩:=hm _ rfl;obtain⟨lo,hlo'⟩:∃p,p=(PtS.mk ⟨s1,b1,c1⟩ ⟨s2,b2,c2⟩):=⟨_,rfl⟩;obtain⟨hi,hhi'⟩:∃p,p=(PtS.mk ⟨s3,b3,c3⟩ ⟨s4,b4,c4⟩):=⟨_,rfl⟩;have hc1:∀i,i < k->[.rs 6 (pn c i) (pg c i)]=c i:=λi hi=>(hc i hi).1.symm;have ho1:∀i,i < l->ab (ow o i)=o i:=λi hi=>(ho i hi).symm;refine⟨[],aa [(0,.agg [.val (.bool (PtS.mk ⟨s1,b1,c1⟩ ⟨s2,b2,c2⟩).x.s),.val (.string (PtS.mk ⟨s1,b1,c1⟩ ⟨s2,b2,c2⟩).x.b),.val (.string (PtS.mk ⟨s1,b1,c1⟩ ⟨s2,b2,c2⟩).x.c),.val (.bool (PtS.mk ⟨s1,b1,c1⟩ ⟨s2,b2,c2⟩).y.s),.val (.string (PtS.mk ⟨s1,b1,c1⟩ ⟨s2,b2,c2⟩).y.b),.val (.string (PtS.mk ⟨s1,b1,c1⟩ ⟨s2,b2,c2⟩).y.c),.val (.bool (PtS.mk ⟨s3,b3,c3⟩ ⟨s4,b4,c4⟩).x.s),.val (.string (PtS.mk ⟨s3,b3,c3⟩ ⟨s4,b4,c4⟩).x.b),.val (.string (PtS.mk ⟨s3,b3,c3⟩ ⟨s4,b4,c4⟩).x.c),.val (.bool (PtS.mk ⟨s3,b3,c3⟩ ⟨s4,b4,c4⟩).y.s),.val (.string (PtS.mk ⟨s3,b3,c3⟩ ⟨s4,b4,c4⟩).y.b),.val (.string (PtS.mk ⟨s3,b3,c3⟩ ⟨s4,b4,c4⟩).y.c),.rs 1 k (λi=>[.rs 6 (pn c i) (pg c i)]),.rs 3 l (λi=>ab (ow o i))]),(1,.rs 6 n g)] [] 0 [],Wo trivial ⟨⟨rfl,rfl,rfl,rfl,rfl,rfl,rfl,rfl,rfl,rfl,rfl,rfl,⟨rfl,rfl,hc1⟩,⟨rfl,rfl,ho1⟩,qQ⟩,⟨rfl,rfl,λi hi=>rfl⟩,qQ⟩ trivial,?_⟩;rw [<-hlo'] at hlo ⊢;rw [<-hhi'] at hhi ⊢;clear hlo' hhi' hm;have hrg:(lo.le 4294967296/\hi.le 4294967296)/\bZ 10000 k (λi=>[.rs 6 (pn c i) (pg c i)])/\c8 l (λi=>ab (ow o i)):=⟨⟨hlo,hhi⟩,⟨λi hi=>⟨rfl,(hc i hi).2⟩,hk⟩,λi hi=>rfl,hl⟩;obtain⟨R,hR⟩:∃R,R=bz lo hi k (pn c) (λi=>ai (pg c i)) l (ow o):=⟨_,rfl⟩;rw [<-hR];have hR':bz lo hi k (pn (λi=>[.rs 6 (pn c i) (pg c i)])) (λi=>ai (pg (λi=>[.rs 6 (pn c i) (pg c i)]) i)) l (ow (λi=>ab (ow o i)))=R:=hR.symm;have hpl:isPL 4294967296 n g:=⟨hg,hn⟩;obtain⟨V,hV⟩:∃V,V=cD ((R==0)&&!aA (λi=>!ah (ai g i)) n):=⟨_,rfl⟩;rw [<-hV];have n1:(bz lo hi k (pn (λi=>[.rs 6 (pn c i) (pg c i)])) (λi=>ai (pg (λi=>[.rs 6 (pn c i) (pg c i)]) i)) l (ow (λi=>ab (ow o i))) != 0)=true->PV.val (.int .i64 1)=PV.val (.int .i64 V):=λh=>by
   rw [hR'] at h;have h:(R==0)=false:=by simpa using h
   rw [hV,h];rfl
  have n2:aA (λi=>!ah (ai g i)) n=true->PV.val (.int .i64 1)=PV.val (.int .i64 V):=λh=>by
   rw [hV,h,Bool.not_true,Bool.and_false];rfl
  have n3:(bz lo hi k (pn (λi=>[.rs 6 (pn c i) (pg c i)])) (λi=>ai (pg (λi=>[.rs 6 (pn c i) (pg c i)]) i)) l (ow (λi=>ab (ow o i))) != 0)=false->aA (λi=>!ah (ai g i)) n=false->PV.val (.int .i64 0)=PV.val (.int .i64 V):=λh h'=>by
   rw [hR'] at h;have h:(R==0)=true:=by simpa using h
   rw [hV,h,h'];rfl
  with_unfolding_all refine⟨hrg,λh1=>⟨hpl,λh2=>⟨[],aa [(4,.val (.int .i64 V))] [] 0 [],Wo trivial ⟨?_,qQ⟩ trivial,rfl,rfl⟩,λh2=>⟨[],aa [(4,.val (.int .i64 V))] [] 0 [],Wo trivial ⟨?_,qQ⟩ trivial,rfl,rfl⟩⟩,λh1=>⟨λh2=>⟨[],aa [(4,.val (.int .i64 V))] [] 0 [],Wo trivial ⟨?_,qQ⟩ trivial,rfl,rfl⟩,λh2=>(nomatch h2)⟩⟩
  ·exact n2 h2
  ·exact n3 h1 h2
  ·exact n1 h1
 ·cases e
end Go.Proofs
namespace Go.Num
def eqQ (x y:Int×Int):Bool:=x.1==y.1&&(x.2==y.2&&true)
theorem oI {x y:Int×Int}:eqQ x y=true↔x=y:=by
 obtain⟨a,b⟩:=x;obtain⟨c,d⟩:=y;simp [eqQ]
end Go.Num
namespace Go.Proofs
def Fs:List PV->Option Ans
 |[.rs 2 m h,.val (.agg ⟨[.int .i64 a,.int .i64 b]⟩)]=>some ⟨some (j7 m h),.val (.int .i64 (bV (λi=>eqQ (a,b) (kz h i)) m 0)),[]⟩
 |_=>none
theorem Ft:ak {} Tryz.f70 2=true:=by kernel_rfl
theorem f70:FnOk Tryz.prog 70 Fs:=by
 refine FnOk.ofW aj (am (l:=[]) (own:=[]) (inl:=[]) (by simp) (by simp)) Tryz.func70 {} 2 Ft λargs r e=>?_;unfold Fs at e;split at e
 ·rename_i n h a b
  cases e;refine⟨by simp,λhm=>?_⟩;obtain⟨hq,hn⟩:=hm _ rfl;refine⟨[],aa [(0,.rs 2 n (λi=>ax (kz h i))),(1,.val (.agg ⟨[.int .i64 a,.int .i64 b]⟩))] [] 0 [],Wo trivial ⟨⟨rfl,rfl,λi hi=>(hq i hi).symm⟩,rfl,qQ⟩ trivial,?_⟩;generalize kz h=q at *
  obtain⟨X,hX⟩:∃X,X=bV (λi=>eqQ (a,b) (q i)) n 0:=⟨_,rfl⟩;rw [<-hX];with_unfolding_all refine⟨Nat,λi=>i<=n/\bV (λi=>eqQ (a,b) (q i)) (n - i) i=X,λi=>aa [(0,.rs 2 n (λi=>ax (q i))),(3,.ptr 0 0 0 0),(7,.val (goInt n)),(8,.val (goInt i))] [⟨46,2,0,true,false,1,λ_=>[.val (.int .i64 a),.val (.int .i64 b)]⟩] 1 [],λi=>n - i,⟨0,[some 0],⟨Nat.zero_le _,hX.symm⟩,Wo ⟨qJ,qQ⟩ ⟨qW,pP,rfl,rfl,qQ⟩ trivial⟩,λi hi=>?_⟩
  obtain⟨hin,hI⟩:i<=n/\bV (λi=>eqQ (a,b) (q i)) (n - i) i=X:=hi;with_unfolding_all refine⟨λh=>?_,λh=>⟨[],aa [(4,.val (.int .i64 X))] [] 0 [],Wo trivial ⟨?_,qQ⟩ trivial,rfl,rfl⟩⟩
  ·have h:(i:Int) < n:=bx h;have e:(i:Int).toNat=i:=Int.toNat_natCast i;have hstep:bV (λi=>eqQ (a,b) (q i)) (n - i) i=bif eqQ (a,b) (q i) then(i:Int) else bV (λi=>eqQ (a,b) (q i)) (n - (i+1)) (i+1):=by
    rw [show n - i=(n - (i+1))+1 by omega];rfl
   with_unfolding_all refine⟨⟨by omega,by omega⟩,λh'=>⟨[],aa [(4,.val (.int .i64 X))] [] 0 [],Wo trivial ⟨?_,qQ⟩ trivial,rfl,rfl⟩,λh'=>⟨i+1,[some 0],⟨by omega,?_⟩,by show n - (i+1) < n - i;omega,Wo ⟨qJ,qQ⟩ ⟨qW,pP,rfl,?_,qQ⟩ trivial⟩⟩
   ·have h':eqQ (a,b) (q (i:Int).toNat)=true:=h';rw [e] at h';rw [h',cond_true] at hstep;exact congrArg (λz=>PV.val (.int .i64 z)) (hstep.symm.trans hI)
   ·have h':eqQ (a,b) (q (i:Int).toNat)=false:=h';rw [e] at h';rw [h',cond_false] at hstep;exact hstep.symm.trans hI
   ·show PV.val (.int .i64 (IntKind.i64.wrap ((i:Int)+1)))=PV.val (.int .i64 ((i+1:Nat):Int));rw [wrap64 (by omega) (by omega)];rfl
  ·have h:(n:Int)<=i:=dU h;rw [show n - i=0 by omega] at hI;exact congrArg (λz=>PV.val (.int .i64 z)) hI
 ·cases e
def Fu:List PV->Option Ans
 |[.rs 2 m h,.val (.agg ⟨[.int .i64 a,.int .i64 b]⟩)]=>some ⟨some (j7 m h),.val (.bool (aA (λi=>eqQ (a,b) (kz h i)) m)),[]⟩
 |_=>none
theorem Fv:ak {} Tryz.f20 2=true:=by kernel_rfl
theorem f20:FnOk Tryz.prog 20 Fu:=by
 refine FnOk.ofW aj (am (l:=[(70,Fs)]) (own:=[]) (inl:=[]) (by simp [f70]) (by simp)) Tryz.func20 {} 2 Fv λargs r e=>?_;unfold Fu at e;split at e
 ·rename_i n h a b
  cases e;refine⟨by simp,λhm=>?_⟩;have hq:=hm _ rfl;refine⟨[],aa [(0,.rs 2 n h),(1,.val (.agg ⟨[.int .i64 a,.int .i64 b]⟩))] [] 0 [],Wo trivial ⟨⟨rfl,rfl,λi hi=>rfl⟩,rfl,qQ⟩ trivial,?_⟩;with_unfolding_all refine⟨hq,[],aa [(4,.val (.bool (aA (λi=>eqQ (a,b) (kz h i)) n)))] [] 0 [],Wo trivial ⟨?_,qQ⟩ trivial,rfl,rfl⟩
  exact congrArg (λz=>PV.val (.bool z)) (ek _ _)
 ·cases e
def Fw:List PV->Option Ans
 |[.val (.int .i64 a),.val (.int .i64 b)]=>some ⟨none,.val (.agg ⟨[.int .i64 a,.int .i64 b]⟩),[]⟩
 |_=>none
theorem Fx:ak {} Tryz.f54 2=true:=by kernel_rfl
theorem f54:FnOk Tryz.prog 54 Fw:=by
 refine FnOk.ofW aj (am (l:=[]) (own:=[]) (inl:=[]) (by simp) (by simp)) Tryz.func54 {} 2 Fx λargs r e=>?_;unfold Fw at e;split at e
 ·rename_i a b
  cases e;refine⟨by simp,λhm=>?_⟩;refine⟨[],aa [(0,.val (.int .i64 a)),(1,.val (.int .i64 b))] [] 0 [],Wo trivial ⟨rfl,rfl,qQ⟩ trivial,?_⟩;with_unfolding_all exact⟨[some 0],aa [(4,.ptr 0 0 0 0)] [⟨46,2,0,true,false,1,λ_=>[.val (.int .i64 a),.val (.int .i64 b)]⟩] 1 [],Wo ⟨qJ,qQ⟩ ⟨pP,qQ⟩ trivial,rfl,rfl⟩
 ·cases e
def Fy:List PV->Option Ans
 |[.rs 2 n g,.rs 2 m h]=>some ⟨some (j7 n g/\j7 m h),.val (.bool (decide (n=m)&&!aA (λi=>!eqQ (kz g i) (kz h i)) n)),[]⟩
 |_=>none
theorem Fz:ak {} Tryz.f44 2=true:=by kernel_rfl
theorem f44:FnOk Tryz.prog 44 Fy:=by
 refine FnOk.ofW aj (am (l:=[]) (own:=[]) (inl:=[]) (by simp) (by simp)) Tryz.func44 {} 2 Fz λargs r e=>?_;unfold Fy at e;split at e
 ·rename_i n g m h
  cases e;refine⟨by simp,λhm=>?_⟩;obtain⟨⟨hp,hn⟩,hq,hmm⟩:=hm _ rfl;refine⟨[],aa [(0,.rs 2 n (λi=>ax (kz g i))),(1,.rs 2 m (λi=>ax (kz h i)))] [] 0 [],Wo trivial ⟨⟨rfl,rfl,λi hi=>(hp i hi).symm⟩,⟨rfl,rfl,λi hi=>(hq i hi).symm⟩,qQ⟩ trivial,?_⟩;generalize kz g=p at *
  generalize kz h=q at *
  obtain⟨X,hX⟩:∃X,X=(decide (n=m)&&!aA (λi=>!eqQ (p i) (q i)) n):=⟨_,rfl⟩;rw [<-hX];have v0:(!((n:Int)==(m:Int)))=true->PV.val (.bool false)=PV.val (.bool X):=λh=>by
   have h1:¬n=m:=λe=>by rw [e,beq_self_eq_true] at h;cases h
   rw [hX,decide_eq_false h1];rfl
  have v1:(!((n:Int)==(m:Int)))=false->n=m:=λh=>by
   have h6:((n:Int)==(m:Int))=true:=by simpa using h
   have:=eq_of_beq h6;omega
  with_unfolding_all refine⟨λh1=>⟨[],aa [(4,.val (.bool X))] [] 0 [],Wo trivial ⟨v0 h1,qQ⟩ trivial,rfl,rfl⟩,λh1=>⟨Nat,λi=>i<=n/\∀j,j < i->eqQ (p j) (q j)=true,λi=>aa [(0,.rs 2 n (λi=>ax (p i))),(1,.rs 2 m (λi=>ax (q i))),(12,.val (goInt n)),(13,.val (goInt i))] [] 0 [],λi=>n - i,⟨0,[],⟨Nat.zero_le _,λj hj=>absurd hj (Nat.not_lt_zero j)⟩,Wo trivial ⟨qW,qW,rfl,rfl,qQ⟩ trivial⟩,λi hi=>?_⟩⟩
  have hnm:=v1 h1;obtain⟨hin,hI⟩:i<=n/\∀j,j < i->eqQ (p j) (q j)=true:=hi;with_unfolding_all refine⟨λh2=>?_,λh2=>⟨[],aa [(4,.val (.bool X))] [] 0 [],Wo trivial ⟨?_,qQ⟩ trivial,rfl,rfl⟩⟩
  ·have h2:(i:Int) < n:=bx h2;have e:(i:Int).toNat=i:=Int.toNat_natCast i;with_unfolding_all refine⟨⟨by omega,by omega⟩,⟨by omega,by omega⟩,λh3=>⟨[],aa [(4,.val (.bool X))] [] 0 [],Wo trivial ⟨?_,qQ⟩ trivial,rfl,rfl⟩,λh3=>⟨i+1,[],⟨by omega,?_⟩,by show n - (i+1) < n - i;omega,Wo trivial ⟨qW,qW,rfl,?_,qQ⟩ trivial⟩⟩
   ·have h3:(!eqQ (p (i:Int).toNat) (q (i:Int).toNat))=true:=h3;rw [e] at h3;show PV.val (.bool false)=PV.val (.bool X);rw [hX,a8.2 ⟨i,by omega,h3⟩,Bool.not_true,Bool.and_false]
   ·have h3:(!eqQ (p (i:Int).toNat) (q (i:Int).toNat))=false:=h3;rw [e] at h3;intro j hj;rcases Nat.lt_or_ge j i with h|h
    ·exact hI j h
    ·obtain rfl:j=i:=by omega
     simpa using h3
   ·show PV.val (.int .i64 (IntKind.i64.wrap ((i:Int)+1)))=PV.val (.int .i64 ((i+1:Nat):Int));rw [wrap64 (by omega) (by omega)];rfl
  ·have h2:(n:Int)<=i:=dU h2;show PV.val (.bool true)=PV.val (.bool X);rw [hX,decide_eq_true hnm,aE.2 λj hj=>by rw [hI j (by omega)];rfl];rfl
 ·cases e
end Go.Proofs
namespace Go.Num
def cq (q:Rat) (st:Nat):Blk:=⟨23,3,st,true,false,1,λ_=>(c9 q).cells⟩
def ao (a b:PtS):Value:=.agg ⟨[.bool a.x.s,.string a.x.b,.string a.x.c,.bool a.y.s,.string a.y.b,.string a.y.c,.bool b.x.s,.string b.x.b,.string b.x.c,.bool b.y.s,.string b.y.b,.string b.y.c]⟩
def wR (a b:PtS):List PV:=[.val (.bool a.x.s),.val (.string a.x.b),.val (.string a.x.c),.val (.bool a.y.s),.val (.string a.y.b),.val (.string a.y.c),.val (.bool b.x.s),.val (.string b.x.b),.val (.string b.x.c),.val (.bool b.y.s),.val (.string b.y.b),.val (.string b.y.c)]
def aJ:Value->PtS×PtS
 |.agg ⟨[.bool s1,.string b1,.string c1,.bool s2,.string b2,.string c2,.bool s3,.string b3,.string c3,.bool s4,.string b4,.string c4]⟩=>(⟨⟨s1,b1,c1⟩,⟨s2,b2,c2⟩⟩,⟨⟨s3,b3,c3⟩,⟨s4,b4,c4⟩⟩)
 |_=>(oC 0 0,oC 0 0)
def eG (K:Nat) (v:Value):Prop:=∃a b,v=ao a b/\PtS.le K a/\PtS.le K b
def aI (i:Nat) (lo hi p:PtS):Rat:=match i with
 |0=>lo.X - p.X
 |1=>p.X - hi.X
 |2=>lo.Y - p.Y
 |_=>p.Y - hi.Y
end Go.Num
namespace Go.Proofs
def Bm:List PV->Option Ans
 |[.val v,.val u]=>some ⟨some (eG 4294967296 v/\isPk 4294967296 u),.val (au (aI 0 (aJ v).1 (aJ v).2 (aN u))),[]⟩
 |_=>none
theorem DX:ak {} Tryz.f208 2=true:=by kernel_rfl
theorem f208:FnOk Tryz.prog 208 Bm:=by
 refine FnOk.ofW aj (am (l:=[(115,mC)]) (own:=[]) (inl:=[]) (by simp [f115]) (by simp)) Tryz.func208 {} 2 DX λargs r e=>?_;unfold Bm at e;split at e
 ·rename_i v u
  cases e;refine⟨by simp,λhm=>?_⟩;obtain⟨⟨lo,hi,rfl,hlo,hhi⟩,p,rfl,hp⟩:=hm _ rfl;refine⟨[],aa [(0,.val (ao lo hi)),(1,.val p.v)] [] 0 [],Wo trivial ⟨rfl,rfl,qQ⟩ trivial,?_⟩;have hr:=And.intro (cP hlo (Nat.le_refl _)) (cP hp (Nat.le_refl _));obtain⟨F,hF⟩:∃F,F=lo.X - p.X:=⟨_,rfl⟩;have hv:PV.val (au (aI 0 (aJ (ao lo hi)).1 (aJ (ao lo hi)).2 (aN p.v)))=PV.val (au F):=by rw [hF];rfl
  rw [hv];with_unfolding_all refine⟨hr,[some 2],aa [(4,.ptr 0 0 0 0)] [cq F 0] 1 [],Wo ⟨qZ ⟨⟨?_,rfl⟩,⟨?_,rfl⟩,⟨?_,rfl⟩,qQ⟩,qQ⟩ ⟨pP,qQ⟩ trivial,rfl,rfl⟩
  ·rw [hF];rfl
  ·rw [hF];rfl
  ·rw [hF];rfl
 ·cases e
def Bn:List PV->Option Ans
 |[.val v,.val u]=>some ⟨some (eG 4294967296 v/\isPk 4294967296 u),.val (au (aI 1 (aJ v).1 (aJ v).2 (aN u))),[]⟩
 |_=>none
theorem DY:ak {} Tryz.f209 2=true:=by kernel_rfl
theorem f209:FnOk Tryz.prog 209 Bn:=by
 refine FnOk.ofW aj (am (l:=[(115,mC)]) (own:=[]) (inl:=[]) (by simp [f115]) (by simp)) Tryz.func209 {} 2 DY λargs r e=>?_;unfold Bn at e;split at e
 ·rename_i v u
  cases e;refine⟨by simp,λhm=>?_⟩;obtain⟨⟨lo,hi,rfl,hlo,hhi⟩,p,rfl,hp⟩:=hm _ rfl;refine⟨[],aa [(0,.val (ao lo hi)),(1,.val p.v)] [] 0 [],Wo trivial ⟨rfl,rfl,qQ⟩ trivial,?_⟩;have hr:=And.intro (cP hp (Nat.le_refl _)) (cP hhi (Nat.le_refl _));obtain⟨F,hF⟩:∃F,F=p.X - hi.X:=⟨_,rfl⟩;have hv:PV.val (au (aI 1 (aJ (ao lo hi)).1 (aJ (ao lo hi)).2 (aN p.v)))=PV.val (au F):=by rw [hF];rfl
  rw [hv];with_unfolding_all refine⟨hr,[some 2],aa [(4,.ptr 0 0 0 0)] [cq F 0] 1 [],Wo ⟨qZ ⟨⟨?_,rfl⟩,⟨?_,rfl⟩,⟨?_,rfl⟩,qQ⟩,qQ⟩ ⟨pP,qQ⟩ trivial,rfl,rfl⟩
  ·rw [hF];rfl
  ·rw [hF];rfl
  ·rw [hF];rfl
 ·cases e
def Bo:List PV->Option Ans
 |[.val v,.val u]=>some ⟨some (eG 4294967296 v/\isPk 4294967296 u),.val (au (aI 2 (aJ v).1 (aJ v).2 (aN u))),[]⟩
 |_=>none
theorem DZ:ak {} Tryz.f210 2=true:=by kernel_rfl
theorem f210:FnOk Tryz.prog 210 Bo:=by
 refine FnOk.ofW aj (am (l:=[(115,mC)]) (own:=[]) (inl:=[]) (by simp [f115]) (by simp)) Tryz.func210 {} 2 DZ λargs r e=>?_;unfold Bo at e;split at e
 ·rename_i v u
  cases e;refine⟨by simp,λhm=>?_⟩;obtain⟨⟨lo,hi,rfl,hlo,hhi⟩,p,rfl,hp⟩:=hm _ rfl;refine⟨[],aa [(0,.val (ao lo hi)),(1,.val p.v)] [] 0 [],Wo trivial ⟨rfl,rfl,qQ⟩ trivial,?_⟩;have hr:=And.intro (cQ hlo (Nat.le_refl _)) (cQ hp (Nat.le_refl _));obtain⟨F,hF⟩:∃F,F=lo.Y - p.Y:=⟨_,rfl⟩;have hv:PV.val (au (aI 2 (aJ (ao lo hi)).1 (aJ (ao lo hi)).2 (aN p.v)))=PV.val (au F):=by rw [hF];rfl
  rw [hv];with_unfolding_all refine⟨hr,[some 2],aa [(4,.ptr 0 0 0 0)] [cq F 0] 1 [],Wo ⟨qZ ⟨⟨?_,rfl⟩,⟨?_,rfl⟩,⟨?_,rfl⟩,qQ⟩,qQ⟩ ⟨pP,qQ⟩ trivial,rfl,rfl⟩
  ·rw [hF];rfl
  ·rw [hF];rfl
  ·rw [hF];rfl
 ·cases e
def Bp:List PV->Option Ans
 |[.val v,.val u]=>some ⟨some (eG 4294967296 v/\isPk 4294967296 u),.val (au (aI 3 (aJ v).1 (aJ v).2 (aN u))),[]⟩
 |_=>none
theorem D1:ak {} Tryz.f211 2=true:=by kernel_rfl
theorem f211:FnOk Tryz.prog 211 Bp:=by
 refine FnOk.ofW aj (am (l:=[(115,mC)]) (own:=[]) (inl:=[]) (by simp [f115]) (by simp)) Tryz.func211 {} 2 D1 λargs r e=>?_;unfold Bp at e;split at e
 ·rename_i v u
  cases e;refine⟨by simp,λhm=>?_⟩;obtain⟨⟨lo,hi,rfl,hlo,hhi⟩,p,rfl,hp⟩:=hm _ rfl;refine⟨[],aa [(0,.val (ao lo hi)),(1,.val p.v)] [] 0 [],Wo trivial ⟨rfl,rfl,qQ⟩ trivial,?_⟩;have hr:=And.intro (cQ hp (Nat.le_refl _)) (cQ hhi (Nat.le_refl _));obtain⟨F,hF⟩:∃F,F=p.Y - hi.Y:=⟨_,rfl⟩;have hv:PV.val (au (aI 3 (aJ (ao lo hi)).1 (aJ (ao lo hi)).2 (aN p.v)))=PV.val (au F):=by rw [hF];rfl
  rw [hv];with_unfolding_all refine⟨hr,[some 2],aa [(4,.ptr 0 0 0 0)] [cq F 0] 1 [],Wo ⟨qZ ⟨⟨?_,rfl⟩,⟨?_,rfl⟩,⟨?_,rfl⟩,qQ⟩,qQ⟩ ⟨pP,qQ⟩ trivial,rfl,rfl⟩
  ·rw [hF];rfl
  ·rw [hF];rfl
  ·rw [hF];rfl
 ·cases e
def Bq:List PV->Option Ans
 |[]=>some ⟨none,.val (.agg ⟨[.int .i64 (-1),.func (.func 208) ⟨[]⟩ ⟨[]⟩,.int .i64 (-2),.func (.func 209) ⟨[]⟩ ⟨[]⟩,.int .i64 (-3),.func (.func 210) ⟨[]⟩ ⟨[]⟩,.int .i64 (-4),.func (.func 211) ⟨[]⟩ ⟨[]⟩]⟩),[]⟩
 |_=>none
theorem D2:ak {} Tryz.f172 0=true:=by kernel_rfl
theorem f172:FnOk Tryz.prog 172 Bq:=by
 refine FnOk.ofW aj (am (l:=[]) (own:=[]) (inl:=[]) (by simp) (by simp)) Tryz.func172 {} 0 D2 λargs r e=>?_;unfold Bq at e;split at e
 ·cases e;refine⟨by simp,λhm=>?_⟩;refine⟨[],aa [] [] 0 [],Wo trivial trivial trivial,?_⟩;with_unfolding_all refine⟨[some 0],aa [(0,.ptr 0 0 0 0)] [⟨197,2,0,false,true,4,λi=>match i with|0=>[.val (.int .i64 (-1)),.val (.func (.func 208) ⟨[]⟩ ⟨[]⟩)]|1=>[.val (.int .i64 (-2)),.val (.func (.func 209) ⟨[]⟩ ⟨[]⟩)]|2=>[.val (.int .i64 (-3)),.val (.func (.func 210) ⟨[]⟩ ⟨[]⟩)]|_=>[.val (.int .i64 (-4)),.val (.func (.func 211) ⟨[]⟩ ⟨[]⟩)]⟩] 1 [],Wo ⟨qZ (λi hi=>?_),qQ⟩ ⟨pP,qQ⟩ trivial,rfl,rfl⟩
  have hi:i < 4:=hi
  match i,hi with
  |0,_=>rfl
  |1,_=>rfl
  |2,_=>rfl
  |3,_=>rfl
  |i+4,h=>omega
 ·cases e
end Go.Proofs
namespace Go.Num
def qP (a b p:PtS):Rat:=b9 (cH b a) (cH p a)
theorem wS {a b p:PtS} (ha:PtS.le 10000 a) (hb:PtS.le 10000 b) (hp:PtS.le 10000 p):QB 80017 (qP a b p):=(j8 (cV hb ha) (cV hp ha)).le (by decide)
theorem Br {k:Nat} (hk:0 < k):QB k (mkRat 0 1)/\QB k (mkRat 1 1):=by
 have h2:1 < 256^k:=Nat.one_lt_pow (by omega) (by decide);have e:=fi 1 (d:=1) (by decide);refine⟨?_,Nat.lt_of_le_of_lt e.1 h2,Nat.lt_of_le_of_lt e.2 h2⟩;rw [Rat.zero_mkRat];exact⟨Nat.pow_pos (by decide),h2⟩
theorem zH:QB 300000 (mkRat 0 1)/\QB 300000 (mkRat 1 1):=Br (by decide)
def gm (x y:Rat) (s:Rat×Rat):Option (Rat×Rat) :=
 bif !decide (an x 0 > 0)&&!decide (an y 0 > 0) then none else bif decide (an x 0 > 0)&&decide (an y 0 > 0) then some s
 else some (bif decide (an y 0 > 0)&&decide (an (x / (x - y)) s.1 > 0) then x / (x - y) else s.1,bif decide (an x 0 > 0)&&decide (an (x / (x - y)) s.2 < 0) then x / (x - y) else s.2)
def dq (n:Nat) (p:Nat->PtS) (a b:PtS):Nat->Nat->Rat×Rat->Option (Rat×Rat)
 |0,_,s=>some s
 |k+1,e,s=>(gm (qP (p e) (p ((e+1)%n)) a) (qP (p e) (p ((e+1)%n)) b) s).bind λs=>dq n p a b k (e+1) s
def gn (n:Nat) (p:Nat->PtS) (a b:PtS):Bool:=!(aY n p==0)||(!ah a||!ah b)
def cW (n:Nat) (p:Nat->PtS) (a b:PtS):Option (Rat×Rat) :=
 bif gn n p a b then none else(dq n p a b n 0 (mkRat 0 1,mkRat 1 1)).bind λs=>bif decide (an s.1 s.2>=0) then none else some s
def sz (r:Option (Rat×Rat)):Rat:=match r with|some s=>s.1|none=>0
def tP (r:Option (Rat×Rat)):Rat:=match r with|some s=>s.2|none=>0
end Go.Num
namespace Go.Proofs
def Bs:List PV->Option Ans
 |[.val v,.val u,.val w]=>some ⟨some (isPk 10000 v/\isPk 10000 u/\isPk 10000 w),.val (au (qP (aN v) (aN u) (aN w))),[]⟩
 |_=>none
def D212:Opt:={ perm:=iS 1 [(0,true),(1,true),(3,true),(4,true),(2,false),(5,false)] }
theorem D3:ak D212.toOrd Tryz.f212 3=true:=by kernel_rfl
theorem f212:FnOk Tryz.prog 212 Bs:=by
 refine FnOk.ofW aj (am (l:=[(76,DH),(140,yL)]) (own:=[]) (inl:=[]) (by simp [f76,f140]) (by simp)) Tryz.func212 D212 3 D3 λargs r e=>?_;unfold Bs at e;split at e
 ·rename_i v u w
  cases e;refine⟨by simp,λhm=>?_⟩;obtain⟨⟨a,rfl,ha⟩,⟨b,rfl,hb⟩,c,rfl,hc⟩:=hm _ rfl;refine⟨[],aa [(0,.val a.v),(1,.val b.v),(2,.val c.v)] [] 0 [],Wo trivial ⟨rfl,rfl,rfl,qQ⟩ trivial,?_⟩;have ha':=ha.mono (show 10000<=4294967296 by decide);have hb':=hb.mono (show 10000<=4294967296 by decide);have hc':=hc.mono (show 10000<=4294967296 by decide);have s1:=(cV hb ha).mono (show 10000+10000+3<=1000000 by decide);have s2:=(cV hc ha).mono (show 10000+10000+3<=1000000 by decide);obtain⟨F,hF⟩:∃F,F=qP a b c:=⟨_,rfl⟩;have hv:PV.val (au (qP (aN a.v) (aN b.v) (aN c.v)))=PV.val (au F):=by rw [hF];rfl
  rw [hv];with_unfolding_all refine⟨⟨⟨b,rfl,hb'⟩,a,rfl,ha'⟩,⟨⟨c,rfl,hc'⟩,a,rfl,ha'⟩,⟨⟨cH b a,rfl,s1⟩,cH c a,rfl,s2⟩,[some 3],aa [(6,.ptr 0 0 0 0)] [cq F 0] 1 [],Wo ⟨qZ ⟨⟨?_,rfl⟩,⟨?_,rfl⟩,⟨?_,rfl⟩,qQ⟩,qQ⟩ ⟨pP,qQ⟩ trivial,rfl,rfl⟩
  ·rw [hF];rfl
  ·rw [hF];rfl
  ·rw [hF];rfl
 ·cases e
def Bt:List PV->Option Ans
 |[.rs 6 n g,.val v]=>some ⟨some (isPL 10000 n g/\eG 10000 v),.val (.tuple ⟨[au (sz (cW n (ai g) (aJ v).1 (aJ v).2)),au (tP (cW n (ai g) (aJ v).1 (aJ v).2)),.bool (cW n (ai g) (aJ v).1 (aJ v).2).isSome,.int .i64 (bif gn n (ai g) (aJ v).1 (aJ v).2 then 1 else 0)]⟩),[]⟩
 |_=>none
def D174:Opt:={ join:=λc=>match c with | .region 7 _ _=>true | .region 12 _ _=>true|c=>d9 [1,9,13] c,perm:=kI [(7,.rds [0,1,2,3,5,6,7,8] (.alt 4 (.alt 9 (.alt 10 (.mk 11 .nil) (.mk 11 (.mk 10 .nil))) (.alt 10 (.alt 9 (.mk 11 .nil) (.mk 11 (.mk 9 .nil))) (.mk 11 (.alt 9 (.mk 10 .nil) (.mk 10 (.mk 9 .nil)))))) (.alt 10 (.alt 4 (.alt 9 (.mk 11 .nil) (.mk 11 (.mk 9 .nil))) (.mk 11 (.mk 4 (.mk 9 .nil)))) (.mk 11 (.alt 4 (.alt 9 (.mk 10 .nil) (.mk 10 (.mk 9 .nil))) (.mk 10 (.mk 4 (.mk 9 .nil)))))))),(8,(.rd 0 (.rd 3 (.mk 1 (.rd 2 (.mk 4 (.rd 5 (.rd 6 .nil)))))))),(12,(.rd 0 (.rd 1 (.rd 2 (.alt 3 (.alt 4 (.rd 5 (.rd 6 (.rd 7 (.mk 8 .nil)))) (.mk 8 (.mk 4 (.rd 5 (.rd 6 (.rd 7 .nil)))))) (.mk 8 (.mk 3 (.mk 4 (.rd 5 (.rd 6 (.rd 7 .nil)))))))))))],all:=kI [(19,.alt 0 (.alt 1 (OT.seq [2,3,4,5] .nil) (OT.seq [2,1,3,4,5] .nil)) (OT.seq [1,0,2,3,4,5] .nil))] }
theorem D5:ak D174.toOrd Tryz.f174 2=true:=by kernel_rfl
theorem f174:FnOk Tryz.prog 174 Bt:=by
 refine FnOk.ofW aj (nQ (l:=[(124,yV),(167,yU),(88,EE),(169,yR),(212,Bs),(139,wv),(115,mC),(173,yr),(80,EC)]) (own:=[]) (inl:=[]) (sq:=[(207,yS)]) (by simp [f124,f167,f88,f169,f212,f139,f115,f173,f80]) (by simp) (by simp [f207])) Tryz.func174 D174 2 D5 λargs r e=>?_;unfold Bt at e;split at e
 ·rename_i n g v
  cases e;refine⟨by simp,λhm=>?_⟩;obtain⟨⟨hg,hn⟩,a,b,rfl,ha,hb⟩:=hm _ rfl;clear hm;refine⟨[],aa [(0,.rs 6 n (λi=>(ai g i).cells)),(1,.val (ao a b))] [] 0 [],Wo trivial ⟨⟨rfl,rfl,λi hi=>(hg i hi).1.symm⟩,rfl,qQ⟩ trivial,?_⟩;have pl:isPL 10000 n (λi=>(ai g i).cells):=⟨λi hi=>⟨rfl,(hg i hi).2⟩,hn⟩;generalize hp:ai g=p at *
  obtain⟨X,hX⟩:∃X,X=cW n p a b:=⟨_,rfl⟩;obtain⟨Bd,hB⟩:∃B,B=gn n p a b:=⟨_,rfl⟩;have hv:PV.val (.tuple ⟨[au (sz (cW n p (aJ (ao a b)).1 (aJ (ao a b)).2)),au (tP (cW n p (aJ (ao a b)).1 (aJ (ao a b)).2)),.bool (cW n p (aJ (ao a b)).1 (aJ (ao a b)).2).isSome,.int .i64 (bif gn n p (aJ (ao a b)).1 (aJ (ao a b)).2 then 1 else 0)]⟩)=PV.val (.tuple ⟨[au (sz X),au (tP X),.bool X.isSome,.int .i64 (bif Bd then 1 else 0)]⟩):=by rw [hX,hB];rfl
  rw [hv];clear hv;have zb:X=none->PV.val (.bool false)=PV.val (.bool (decide ((sz X).num < 0)))/\PV.val (.string ⟨#[]⟩)=PV.val (.string (ag (sz X).num.natAbs))/\PV.val (.string ⟨#[]⟩)=PV.val (.string (aK (sz X).den))/\PV.val (.bool false)=PV.val (.bool X.isSome):=λh=>by
   rw [h];refine⟨rfl,?_,rfl,rfl⟩;show PV.val (.string ⟨#[]⟩)=PV.val (.string (ag 0));rw [fO]
  have zc:X=none->PV.val (.bool false)=PV.val (.bool (decide ((tP X).num < 0)))/\PV.val (.string ⟨#[]⟩)=PV.val (.string (ag (tP X).num.natAbs))/\PV.val (.string ⟨#[]⟩)=PV.val (.string (aK (tP X).den)):=λh=>by
   rw [h];refine⟨rfl,?_,rfl⟩;show PV.val (.string ⟨#[]⟩)=PV.val (.string (ag 0));rw [fO]
  have xB:Bd=true->X=none:=λh=>by
   rw [hX];unfold cW;rw [<-hB,h];rfl
  have e1:Bd=true->PV.val (.int .i64 1)=PV.val (.int .i64 (bif Bd then 1 else 0)):=λh=>by rw [h];rfl
  have e0:Bd=false->PV.val (.int .i64 0)=PV.val (.int .i64 (bif Bd then 1 else 0)):=λh=>by rw [h];rfl
  have hBd:Bd=(!(aY n p==0)||(!ah a||!ah b)):=hB;with_unfolding_all refine⟨Unit,λ_=>Bd=false,λ_=>aa [(0,.rs 6 n (λi=>(p i).cells)),(3,.ptr 0 0 0 0),(4,.ptr 1 1 0 0),(5,.ptr 2 2 0 0),(6,.ptr 3 3 0 0),(7,.ptr 4 4 0 0)] [⟨117,12,0,true,false,1,λ_=>[.val (.bool a.x.s),.val (.string a.x.b),.val (.string a.x.c),.val (.bool a.y.s),.val (.string a.y.b),.val (.string a.y.c),.val (.bool b.x.s),.val (.string b.x.b),.val (.string b.x.c),.val (.bool b.y.s),.val (.string b.y.b),.val (.string b.y.c)]⟩,ba false ⟨#[]⟩ ⟨#[]⟩ 1,ba false ⟨#[]⟩ ⟨#[]⟩ 2,⟨4,1,3,true,false,1,λ_=>[.val (.bool false)]⟩,⟨38,1,4,true,false,1,λ_=>[.val (.int .i64 0)]⟩] 5 [],?_,λ_ hbd=>?_⟩
  ·have cn:∀r:Nat->List PV,ai r 0=a->ai r 1=b->aA (λi=>!ah (ai r i)) 2=(!ah a||!ah b):=λr h h'=>by
    have e:List.range 2=[0,1]:=rfl;simp only [aA,e,List.any_cons,List.any_nil,Bool.or_false,h,h']
   have q1:(aY n p != 0) = !false->Bd=true:=λh=>by
    have h:(aY n p==0)=false:=by simpa using h
    rw [hBd,h];rfl
   have q2:∀r:Nat->List PV,ai r 0=a->ai r 1=b->(!!aA (λi=>!ah (ai r i)) 2)=true->Bd=true:=λr h h' h2=>by
    rw [cn r h h',Bool.not_not] at h2;rw [hBd,h2,Bool.or_true]
   have q3:∀r:Nat->List PV,ai r 0=a->ai r 1=b->(aY n p != 0)=false->(!!aA (λi=>!ah (ai r i)) 2)=false->Bd=false:=λr h h' h1 h2=>by
    rw [cn r h h',Bool.not_not] at h2;have h1:(aY n p==0)=true:=by simpa using h1
    rw [hBd,h1,h2];rfl
   have ha':=ha.mono (show 10000<=4294967296 by decide);have hb':=hb.mono (show 10000<=4294967296 by decide);have p2:∀r:Nat->List PV,r 0=a.cells->r 1=b.cells->isPL 4294967296 2 r:=λr h h'=>⟨λi hi=>by
    match i,hi with
    |0,_=>exact⟨by rw [ai,h];rfl,by rw [ai,h];exact ha'⟩
    |1,_=>exact⟨by rw [ai,h'];rfl,by rw [ai,h'];exact hb'⟩
    |i+2,h=>omega,by decide⟩
   with_unfolding_all refine⟨pl,λh1=>⟨p2 _ rfl rfl,λh2=>⟨[some 1,some 2,some 3,some 4],aa [(4,.ptr 0 0 0 0),(5,.ptr 1 1 0 0),(6,.ptr 2 2 0 0),(7,.ptr 3 3 0 0)] [cq (sz X) 0,cq (tP X) 1,⟨4,1,2,true,false,1,λ_=>[.val (.bool X.isSome)]⟩,⟨38,1,3,true,false,1,λ_=>[.val (.int .i64 (bif Bd then 1 else 0))]⟩] 4 [],Wo ⟨qZ ⟨⟨(zb (xB (q2 _ rfl rfl h2))).1,rfl⟩,⟨(zb (xB (q2 _ rfl rfl h2))).2.1,rfl⟩,⟨(zb (xB (q2 _ rfl rfl h2))).2.2.1,rfl⟩,qQ⟩,qZ ⟨⟨(zc (xB (q2 _ rfl rfl h2))).1,rfl⟩,⟨(zc (xB (q2 _ rfl rfl h2))).2.1,rfl⟩,⟨(zc (xB (q2 _ rfl rfl h2))).2.2,rfl⟩,qQ⟩,qZ ⟨⟨(zb (xB (q2 _ rfl rfl h2))).2.2.2,rfl⟩,qQ⟩,qZ ⟨⟨e1 (q2 _ rfl rfl h2),rfl⟩,qQ⟩,qQ⟩ ⟨pP,pP,pP,pP,qQ⟩ trivial,rfl,rfl⟩,λh2=>⟨(),[some 0,some 1,some 2,some 3,some 4],q3 _ rfl rfl h1 h2,Wo ⟨qZ ⟨rq,rq,rq,rq,rq,rq,rq,rq,rq,rq,rq,rq,qQ⟩,qX,qX,qY,qY,qQ⟩ ⟨qW,pP,pP,pP,pP,pP,qQ⟩ trivial⟩⟩,λh1=>⟨λh2=>⟨[some 1,some 2,some 3,some 4],aa [(4,.ptr 0 0 0 0),(5,.ptr 1 1 0 0),(6,.ptr 2 2 0 0),(7,.ptr 3 3 0 0)] [cq (sz X) 0,cq (tP X) 1,⟨4,1,2,true,false,1,λ_=>[.val (.bool X.isSome)]⟩,⟨38,1,3,true,false,1,λ_=>[.val (.int .i64 (bif Bd then 1 else 0))]⟩] 4 [],Wo ⟨qZ ⟨⟨(zb (xB (q1 h1))).1,rfl⟩,⟨(zb (xB (q1 h1))).2.1,rfl⟩,⟨(zb (xB (q1 h1))).2.2.1,rfl⟩,qQ⟩,qZ ⟨⟨(zc (xB (q1 h1))).1,rfl⟩,⟨(zc (xB (q1 h1))).2.1,rfl⟩,⟨(zc (xB (q1 h1))).2.2,rfl⟩,qQ⟩,qZ ⟨⟨(zb (xB (q1 h1))).2.2.2,rfl⟩,qQ⟩,qZ ⟨⟨e1 (q1 h1),rfl⟩,qQ⟩,qQ⟩ ⟨pP,pP,pP,pP,qQ⟩ trivial,rfl,rfl⟩,λh2=>(nomatch h2)⟩⟩
  ·have hbd:Bd=false:=hbd;with_unfolding_all refine⟨by decide,by decide,λ_ _=>rfl,⟨rfl,hn⟩,Rat×Rat,λk s=>(QB 300000 s.1/\QB 300000 s.2)/\dq n p a b (n - k) k s=dq n p a b n 0 (mkRat 0 1,mkRat 1 1),λs=>aa [(3,.ptr 0 0 0 0),(4,.ptr 1 1 0 0),(5,.ptr 2 2 0 0),(6,.ptr 3 3 0 0),(7,.ptr 4 4 0 0),(8,.ptr 5 5 0 0),(9,.ptr 6 6 0 0)] [⟨117,12,0,true,false,1,λ_=>[.val (.bool a.x.s),.val (.string a.x.b),.val (.string a.x.c),.val (.bool a.y.s),.val (.string a.y.b),.val (.string a.y.c),.val (.bool b.x.s),.val (.string b.x.b),.val (.string b.x.c),.val (.bool b.y.s),.val (.string b.y.b),.val (.string b.y.c)]⟩,ba false ⟨#[]⟩ ⟨#[]⟩ 1,ba false ⟨#[]⟩ ⟨#[]⟩ 2,⟨4,1,3,true,false,1,λ_=>[.val (.bool false)]⟩,⟨38,1,4,true,false,1,λ_=>[.val (.int .i64 0)]⟩,cq s.1 5,cq s.2 6] 7 [],⟨(mkRat 0 1,mkRat 1 1),[some 0,some 1,some 2,some 3,some 4,some 5,some 6],?_,Wo ⟨qZ ⟨rq,rq,rq,rq,rq,rq,rq,rq,rq,rq,rq,rq,qQ⟩,qX,qX,qY,qY,qX,qX,qQ⟩ ⟨pP,pP,pP,pP,pP,pP,pP,qQ⟩ trivial⟩,λk s hk hI=>?_,λs hI=>?_⟩
   ·exact⟨⟨zH.1,zH.2⟩,rfl⟩
   ·obtain⟨⟨hq1,hq2⟩,hpf⟩:(QB 300000 s.1/\QB 300000 s.2)/\dq n p a b (n - k) k s=dq n p a b n 0 (mkRat 0 1,mkRat 1 1):=hI;have hkn:k < n:=hk;have hml:=Nat.mod_lt (k+1) (show 0 < n by omega);have hpk:=(hg k hkn).2;have hpm:=(hg _ hml).2;obtain⟨x,hx⟩:∃x,x=qP (p k) (p ((k+1)%n)) a:=⟨_,rfl⟩;obtain⟨y,hy⟩:∃y,y=qP (p k) (p ((k+1)%n)) b:=⟨_,rfl⟩;have hx1:qP (aN (p k).v) (aN (p ((k+1)%n)).v) (aN a.v)=x:=by rw [hx];rfl
    have hy1:qP (aN (p k).v) (aN (p ((k+1)%n)).v) (aN b.v)=y:=by rw [hy];rfl
    have qx:QB 80017 x:=by rw [hx];exact wS hpk hpm ha
    have qy:QB 80017 y:=by rw [hy];exact wS hpk hpm hb
    have pr1:isPk 10000 (p k).v/\isPk 10000 (p ((k+1)%n)).v/\isPk 10000 a.v:=⟨⟨_,rfl,hpk⟩,⟨_,rfl,hpm⟩,_,rfl,ha⟩;have pr2:isPk 10000 (p k).v/\isPk 10000 (p ((k+1)%n)).v/\isPk 10000 b.v:=⟨⟨_,rfl,hpk⟩,⟨_,rfl,hpm⟩,_,rfl,hb⟩;have hstep:dq n p a b (n - k) k s=(gm x y s).bind λs=>dq n p a b (n - (k+1)) (k+1) s:=by
     rw [hx,hy,show n - k=(n - (k+1))+1 by omega];rfl
    clear hx hy;with_unfolding_all refine⟨rfl,Unit,λ_=>True,λ_=>aa [(3,.ptr 0 0 0 0),(4,.ptr 1 1 0 0),(5,.ptr 2 2 0 0),(6,.ptr 3 3 0 0),(7,.ptr 4 4 0 0),(8,.ptr 5 5 0 0),(9,.ptr 6 6 0 0),(12,.ptr 7 7 0 0),(13,.ptr 8 8 0 0)] [⟨117,12,0,true,false,1,λ_=>[.val (.bool a.x.s),.val (.string a.x.b),.val (.string a.x.c),.val (.bool a.y.s),.val (.string a.y.b),.val (.string a.y.c),.val (.bool b.x.s),.val (.string b.x.b),.val (.string b.x.c),.val (.bool b.y.s),.val (.string b.y.b),.val (.string b.y.c)]⟩,ba false ⟨#[]⟩ ⟨#[]⟩ 1,ba false ⟨#[]⟩ ⟨#[]⟩ 2,⟨4,1,3,true,false,1,λ_=>[.val (.bool false)]⟩,⟨38,1,4,true,false,1,λ_=>[.val (.int .i64 0)]⟩,cq s.1 5,cq s.2 6,cq x 7,cq y 8] 9 [[(3,.ptr 0 0 0 0),(4,.ptr 1 1 0 0),(5,.ptr 2 2 0 0),(6,.ptr 3 3 0 0),(7,.ptr 4 4 0 0),(8,.ptr 5 5 0 0),(9,.ptr 6 6 0 0)]],⟨⟨pr1,⟨⟨pr2,⟨⟨(),[some 0,some 1,some 2,some 3,some 4,some 5,some 6,some 9,some 10],trivial,Wo ⟨qZ ⟨rq,rq,rq,rq,rq,rq,rq,rq,rq,rq,rq,rq,qQ⟩,qX,qX,qY,qY,qX,qX,qZ ⟨⟨congrArg (λq:Rat=>PV.val (.bool (decide (q.num < 0)))) hx1,rfl⟩,⟨congrArg (λq:Rat=>PV.val (.string (ag q.num.natAbs))) hx1,rfl⟩,⟨congrArg (λq:Rat=>PV.val (.string (aK q.den))) hx1,rfl⟩,qQ⟩,qZ ⟨⟨congrArg (λq:Rat=>PV.val (.bool (decide (q.num < 0)))) hy1,rfl⟩,⟨congrArg (λq:Rat=>PV.val (.string (ag q.num.natAbs))) hy1,rfl⟩,⟨congrArg (λq:Rat=>PV.val (.string (aK q.den))) hy1,rfl⟩,qQ⟩,qQ⟩ ⟨pP,pP,pP,pP,pP,pP,pP,pP,pP,qQ⟩ ⟨⟨pP,pP,pP,pP,pP,pP,pP,qQ⟩,qQ⟩⟩,⟨(),[some 0,some 1,some 2,some 3,some 4,some 5,some 6,some 10,some 9],trivial,Wo ⟨qZ ⟨rq,rq,rq,rq,rq,rq,rq,rq,rq,rq,rq,rq,qQ⟩,qX,qX,qY,qY,qX,qX,qZ ⟨⟨congrArg (λq:Rat=>PV.val (.bool (decide (q.num < 0)))) hx1,rfl⟩,⟨congrArg (λq:Rat=>PV.val (.string (ag q.num.natAbs))) hx1,rfl⟩,⟨congrArg (λq:Rat=>PV.val (.string (aK q.den))) hx1,rfl⟩,qQ⟩,qZ ⟨⟨congrArg (λq:Rat=>PV.val (.bool (decide (q.num < 0)))) hy1,rfl⟩,⟨congrArg (λq:Rat=>PV.val (.string (ag q.num.natAbs))) hy1,rfl⟩,⟨congrArg (λq:Rat=>PV.val (.string (aK q.den))) hy1,rfl⟩,qQ⟩,qQ⟩ ⟨pP,pP,pP,pP,pP,pP,pP,pP,pP,qQ⟩ ⟨⟨pP,pP,pP,pP,pP,pP,pP,qQ⟩,qQ⟩⟩⟩⟩,⟨⟨⟨pr2,⟨(),[some 0,some 1,some 2,some 3,some 4,some 5,some 6,some 9,some 10],trivial,Wo ⟨qZ ⟨rq,rq,rq,rq,rq,rq,rq,rq,rq,rq,rq,rq,qQ⟩,qX,qX,qY,qY,qX,qX,qZ ⟨⟨congrArg (λq:Rat=>PV.val (.bool (decide (q.num < 0)))) hx1,rfl⟩,⟨congrArg (λq:Rat=>PV.val (.string (ag q.num.natAbs))) hx1,rfl⟩,⟨congrArg (λq:Rat=>PV.val (.string (aK q.den))) hx1,rfl⟩,qQ⟩,qZ ⟨⟨congrArg (λq:Rat=>PV.val (.bool (decide (q.num < 0)))) hy1,rfl⟩,⟨congrArg (λq:Rat=>PV.val (.string (ag q.num.natAbs))) hy1,rfl⟩,⟨congrArg (λq:Rat=>PV.val (.string (aK q.den))) hy1,rfl⟩,qQ⟩,qQ⟩ ⟨pP,pP,pP,pP,pP,pP,pP,pP,pP,qQ⟩ ⟨⟨pP,pP,pP,pP,pP,pP,pP,qQ⟩,qQ⟩⟩⟩,⟨pr2,⟨(),[some 0,some 1,some 2,some 3,some 4,some 5,some 6,some 9,some 10],trivial,Wo ⟨qZ ⟨rq,rq,rq,rq,rq,rq,rq,rq,rq,rq,rq,rq,qQ⟩,qX,qX,qY,qY,qX,qX,qZ ⟨⟨congrArg (λq:Rat=>PV.val (.bool (decide (q.num < 0)))) hx1,rfl⟩,⟨congrArg (λq:Rat=>PV.val (.string (ag q.num.natAbs))) hx1,rfl⟩,⟨congrArg (λq:Rat=>PV.val (.string (aK q.den))) hx1,rfl⟩,qQ⟩,qZ ⟨⟨congrArg (λq:Rat=>PV.val (.bool (decide (q.num < 0)))) hy1,rfl⟩,⟨congrArg (λq:Rat=>PV.val (.string (ag q.num.natAbs))) hy1,rfl⟩,⟨congrArg (λq:Rat=>PV.val (.string (aK q.den))) hy1,rfl⟩,qQ⟩,qQ⟩ ⟨pP,pP,pP,pP,pP,pP,pP,pP,pP,qQ⟩ ⟨⟨pP,pP,pP,pP,pP,pP,pP,qQ⟩,qQ⟩⟩⟩⟩,⟨⟨pr2,⟨(),[some 0,some 1,some 2,some 3,some 4,some 5,some 6,some 10,some 9],trivial,Wo ⟨qZ ⟨rq,rq,rq,rq,rq,rq,rq,rq,rq,rq,rq,rq,qQ⟩,qX,qX,qY,qY,qX,qX,qZ ⟨⟨congrArg (λq:Rat=>PV.val (.bool (decide (q.num < 0)))) hx1,rfl⟩,⟨congrArg (λq:Rat=>PV.val (.string (ag q.num.natAbs))) hx1,rfl⟩,⟨congrArg (λq:Rat=>PV.val (.string (aK q.den))) hx1,rfl⟩,qQ⟩,qZ ⟨⟨congrArg (λq:Rat=>PV.val (.bool (decide (q.num < 0)))) hy1,rfl⟩,⟨congrArg (λq:Rat=>PV.val (.string (ag q.num.natAbs))) hy1,rfl⟩,⟨congrArg (λq:Rat=>PV.val (.string (aK q.den))) hy1,rfl⟩,qQ⟩,qQ⟩ ⟨pP,pP,pP,pP,pP,pP,pP,pP,pP,qQ⟩ ⟨⟨pP,pP,pP,pP,pP,pP,pP,qQ⟩,qQ⟩⟩⟩,⟨pr2,⟨(),[some 0,some 1,some 2,some 3,some 4,some 5,some 6,some 10,some 9],trivial,Wo ⟨qZ ⟨rq,rq,rq,rq,rq,rq,rq,rq,rq,rq,rq,rq,qQ⟩,qX,qX,qY,qY,qX,qX,qZ ⟨⟨congrArg (λq:Rat=>PV.val (.bool (decide (q.num < 0)))) hx1,rfl⟩,⟨congrArg (λq:Rat=>PV.val (.string (ag q.num.natAbs))) hx1,rfl⟩,⟨congrArg (λq:Rat=>PV.val (.string (aK q.den))) hx1,rfl⟩,qQ⟩,qZ ⟨⟨congrArg (λq:Rat=>PV.val (.bool (decide (q.num < 0)))) hy1,rfl⟩,⟨congrArg (λq:Rat=>PV.val (.string (ag q.num.natAbs))) hy1,rfl⟩,⟨congrArg (λq:Rat=>PV.val (.string (aK q.den))) hy1,rfl⟩,qQ⟩,qQ⟩ ⟨pP,pP,pP,pP,pP,pP,pP,pP,pP,qQ⟩ ⟨⟨pP,pP,pP,pP,pP,pP,pP,qQ⟩,qQ⟩⟩⟩⟩⟩⟩⟩,⟨⟨⟨pr1,⟨⟨pr2,⟨(),[some 0,some 1,some 2,some 3,some 4,some 5,some 6,some 9,some 10],trivial,Wo ⟨qZ ⟨rq,rq,rq,rq,rq,rq,rq,rq,rq,rq,rq,rq,qQ⟩,qX,qX,qY,qY,qX,qX,qZ ⟨⟨congrArg (λq:Rat=>PV.val (.bool (decide (q.num < 0)))) hx1,rfl⟩,⟨congrArg (λq:Rat=>PV.val (.string (ag q.num.natAbs))) hx1,rfl⟩,⟨congrArg (λq:Rat=>PV.val (.string (aK q.den))) hx1,rfl⟩,qQ⟩,qZ ⟨⟨congrArg (λq:Rat=>PV.val (.bool (decide (q.num < 0)))) hy1,rfl⟩,⟨congrArg (λq:Rat=>PV.val (.string (ag q.num.natAbs))) hy1,rfl⟩,⟨congrArg (λq:Rat=>PV.val (.string (aK q.den))) hy1,rfl⟩,qQ⟩,qQ⟩ ⟨pP,pP,pP,pP,pP,pP,pP,pP,pP,qQ⟩ ⟨⟨pP,pP,pP,pP,pP,pP,pP,qQ⟩,qQ⟩⟩⟩,⟨pr2,⟨(),[some 0,some 1,some 2,some 3,some 4,some 5,some 6,some 9,some 10],trivial,Wo ⟨qZ ⟨rq,rq,rq,rq,rq,rq,rq,rq,rq,rq,rq,rq,qQ⟩,qX,qX,qY,qY,qX,qX,qZ ⟨⟨congrArg (λq:Rat=>PV.val (.bool (decide (q.num < 0)))) hx1,rfl⟩,⟨congrArg (λq:Rat=>PV.val (.string (ag q.num.natAbs))) hx1,rfl⟩,⟨congrArg (λq:Rat=>PV.val (.string (aK q.den))) hx1,rfl⟩,qQ⟩,qZ ⟨⟨congrArg (λq:Rat=>PV.val (.bool (decide (q.num < 0)))) hy1,rfl⟩,⟨congrArg (λq:Rat=>PV.val (.string (ag q.num.natAbs))) hy1,rfl⟩,⟨congrArg (λq:Rat=>PV.val (.string (aK q.den))) hy1,rfl⟩,qQ⟩,qQ⟩ ⟨pP,pP,pP,pP,pP,pP,pP,pP,pP,qQ⟩ ⟨⟨pP,pP,pP,pP,pP,pP,pP,qQ⟩,qQ⟩⟩⟩⟩⟩,⟨pr1,⟨pr2,⟨(),[some 0,some 1,some 2,some 3,some 4,some 5,some 6,some 9,some 10],trivial,Wo ⟨qZ ⟨rq,rq,rq,rq,rq,rq,rq,rq,rq,rq,rq,rq,qQ⟩,qX,qX,qY,qY,qX,qX,qZ ⟨⟨congrArg (λq:Rat=>PV.val (.bool (decide (q.num < 0)))) hx1,rfl⟩,⟨congrArg (λq:Rat=>PV.val (.string (ag q.num.natAbs))) hx1,rfl⟩,⟨congrArg (λq:Rat=>PV.val (.string (aK q.den))) hx1,rfl⟩,qQ⟩,qZ ⟨⟨congrArg (λq:Rat=>PV.val (.bool (decide (q.num < 0)))) hy1,rfl⟩,⟨congrArg (λq:Rat=>PV.val (.string (ag q.num.natAbs))) hy1,rfl⟩,⟨congrArg (λq:Rat=>PV.val (.string (aK q.den))) hy1,rfl⟩,qQ⟩,qQ⟩ ⟨pP,pP,pP,pP,pP,pP,pP,pP,pP,qQ⟩ ⟨⟨pP,pP,pP,pP,pP,pP,pP,qQ⟩,qQ⟩⟩⟩⟩⟩,⟨⟨pr1,⟨⟨pr2,⟨(),[some 0,some 1,some 2,some 3,some 4,some 5,some 6,some 10,some 9],trivial,Wo ⟨qZ ⟨rq,rq,rq,rq,rq,rq,rq,rq,rq,rq,rq,rq,qQ⟩,qX,qX,qY,qY,qX,qX,qZ ⟨⟨congrArg (λq:Rat=>PV.val (.bool (decide (q.num < 0)))) hx1,rfl⟩,⟨congrArg (λq:Rat=>PV.val (.string (ag q.num.natAbs))) hx1,rfl⟩,⟨congrArg (λq:Rat=>PV.val (.string (aK q.den))) hx1,rfl⟩,qQ⟩,qZ ⟨⟨congrArg (λq:Rat=>PV.val (.bool (decide (q.num < 0)))) hy1,rfl⟩,⟨congrArg (λq:Rat=>PV.val (.string (ag q.num.natAbs))) hy1,rfl⟩,⟨congrArg (λq:Rat=>PV.val (.string (aK q.den))) hy1,rfl⟩,qQ⟩,qQ⟩ ⟨pP,pP,pP,pP,pP,pP,pP,pP,pP,qQ⟩ ⟨⟨pP,pP,pP,pP,pP,pP,pP,qQ⟩,qQ⟩⟩⟩,⟨pr2,⟨(),[some 0,some 1,some 2,some 3,some 4,some 5,some 6,some 10,some 9],trivial,Wo ⟨qZ ⟨rq,rq,rq,rq,rq,rq,rq,rq,rq,rq,rq,rq,qQ⟩,qX,qX,qY,qY,qX,qX,qZ ⟨⟨congrArg (λq:Rat=>PV.val (.bool (decide (q.num < 0)))) hx1,rfl⟩,⟨congrArg (λq:Rat=>PV.val (.string (ag q.num.natAbs))) hx1,rfl⟩,⟨congrArg (λq:Rat=>PV.val (.string (aK q.den))) hx1,rfl⟩,qQ⟩,qZ ⟨⟨congrArg (λq:Rat=>PV.val (.bool (decide (q.num < 0)))) hy1,rfl⟩,⟨congrArg (λq:Rat=>PV.val (.string (ag q.num.natAbs))) hy1,rfl⟩,⟨congrArg (λq:Rat=>PV.val (.string (aK q.den))) hy1,rfl⟩,qQ⟩,qQ⟩ ⟨pP,pP,pP,pP,pP,pP,pP,pP,pP,qQ⟩ ⟨⟨pP,pP,pP,pP,pP,pP,pP,qQ⟩,qQ⟩⟩⟩⟩⟩,⟨pr1,⟨pr2,⟨(),[some 0,some 1,some 2,some 3,some 4,some 5,some 6,some 10,some 9],trivial,Wo ⟨qZ ⟨rq,rq,rq,rq,rq,rq,rq,rq,rq,rq,rq,rq,qQ⟩,qX,qX,qY,qY,qX,qX,qZ ⟨⟨congrArg (λq:Rat=>PV.val (.bool (decide (q.num < 0)))) hx1,rfl⟩,⟨congrArg (λq:Rat=>PV.val (.string (ag q.num.natAbs))) hx1,rfl⟩,⟨congrArg (λq:Rat=>PV.val (.string (aK q.den))) hx1,rfl⟩,qQ⟩,qZ ⟨⟨congrArg (λq:Rat=>PV.val (.bool (decide (q.num < 0)))) hy1,rfl⟩,⟨congrArg (λq:Rat=>PV.val (.string (ag q.num.natAbs))) hy1,rfl⟩,⟨congrArg (λq:Rat=>PV.val (.string (aK q.den))) hy1,rfl⟩,qQ⟩,qQ⟩ ⟨pP,pP,pP,pP,pP,pP,pP,pP,pP,qQ⟩ ⟨⟨pP,pP,pP,pP,pP,pP,pP,qQ⟩,qQ⟩⟩⟩⟩⟩⟩⟩,λ_ _=>?_⟩
    have rx:isRk 4294967296 (au x):=qx.rk (by decide);have ry:isRk 4294967296 (au y):=qy.rk (by decide);have ix:decide (an (aF (au x)) 0 > 0)=decide (an x 0 > 0):=by rw [az]
    have iy:decide (an (aF (au y)) 0 > 0)=decide (an y 0 > 0):=by rw [az]
    have nin:(!decide (an (aF (au x)) 0 > 0))=true->(!decide (an (aF (au y)) 0 > 0))=true->X=none:=λh h'=>by
     rw [ix] at h;rw [iy] at h';rw [hX];unfold cW;rw [<-hB,hbd];unfold gm at hstep;rw [h,h'] at hstep;rw [<-hpf,hstep];rfl
    have I9a:(!decide (an (aF (au y)) 0 > 0))=false->(decide (an x 0 > 0)||decide (an y 0 > 0))=true:=λh=>by
     rw [iy] at h;have h:decide (an y 0 > 0)=true:=by simpa using h
     rw [h,Bool.or_true]
    have I9b:(!decide (an (aF (au x)) 0 > 0)) = !true->(decide (an x 0 > 0)||decide (an y 0 > 0))=true:=λh=>by
     rw [ix] at h;have h:decide (an x 0 > 0)=true:=by simpa using h
     rw [h,Bool.true_or]
    with_unfolding_all refine⟨rx,ry,Unit,λ_=>(decide (an x 0 > 0)||decide (an y 0 > 0))=true,λ_=>aa [(3,.ptr 0 0 0 0),(4,.ptr 1 1 0 0),(5,.ptr 2 2 0 0),(6,.ptr 3 3 0 0),(7,.ptr 4 4 0 0),(8,.ptr 5 5 0 0),(9,.ptr 6 6 0 0),(12,.ptr 7 7 0 0),(13,.ptr 8 8 0 0),(14,.val (.bool (decide (an x 0 > 0)))),(15,.val (.bool (decide (an y 0 > 0))))] [⟨117,12,0,true,false,1,λ_=>[.val (.bool a.x.s),.val (.string a.x.b),.val (.string a.x.c),.val (.bool a.y.s),.val (.string a.y.b),.val (.string a.y.c),.val (.bool b.x.s),.val (.string b.x.b),.val (.string b.x.c),.val (.bool b.y.s),.val (.string b.y.b),.val (.string b.y.c)]⟩,ba false ⟨#[]⟩ ⟨#[]⟩ 1,ba false ⟨#[]⟩ ⟨#[]⟩ 2,⟨4,1,3,true,false,1,λ_=>[.val (.bool false)]⟩,⟨38,1,4,true,false,1,λ_=>[.val (.int .i64 0)]⟩,cq s.1 5,cq s.2 6,cq x 7,cq y 8] 9 [[(3,.ptr 0 0 0 0),(4,.ptr 1 1 0 0),(5,.ptr 2 2 0 0),(6,.ptr 3 3 0 0),(7,.ptr 4 4 0 0),(8,.ptr 5 5 0 0),(9,.ptr 6 6 0 0)]],⟨λh1=>⟨λh2=>⟨[some 1,some 2,some 3,some 4],aa [(4,.ptr 0 0 0 0),(5,.ptr 1 1 0 0),(6,.ptr 2 2 0 0),(7,.ptr 3 3 0 0)] [cq (sz X) 0,cq (tP X) 1,⟨4,1,2,true,false,1,λ_=>[.val (.bool X.isSome)]⟩,⟨38,1,3,true,false,1,λ_=>[.val (.int .i64 (bif Bd then 1 else 0))]⟩] 4 [],Wo ⟨qZ ⟨⟨(zb (nin h1 h2)).1,rfl⟩,⟨(zb (nin h1 h2)).2.1,rfl⟩,⟨(zb (nin h1 h2)).2.2.1,rfl⟩,qQ⟩,qZ ⟨⟨(zc (nin h1 h2)).1,rfl⟩,⟨(zc (nin h1 h2)).2.1,rfl⟩,⟨(zc (nin h1 h2)).2.2,rfl⟩,qQ⟩,qZ ⟨⟨(zb (nin h1 h2)).2.2.2,rfl⟩,qQ⟩,qZ ⟨⟨e0 hbd,rfl⟩,qQ⟩,qQ⟩ ⟨pP,pP,pP,pP,qQ⟩ trivial,rfl,rfl⟩,λh2=>⟨(),[some 0,some 1,some 2,some 3,some 4,some 5,some 6,some 7,some 8],I9a h2,Wo ⟨qZ ⟨rq,rq,rq,rq,rq,rq,rq,rq,rq,rq,rq,rq,qQ⟩,qX,qX,qY,qY,qX,qX,qX,qX,qQ⟩ ⟨pP,pP,pP,pP,pP,pP,pP,pP,pP,congrArg (λz=>PV.val (.bool z)) ix,congrArg (λz=>PV.val (.bool z)) iy,qQ⟩ ⟨⟨pP,pP,pP,pP,pP,pP,pP,qQ⟩,qQ⟩⟩⟩,λh1=>⟨λh2=>(nomatch h2),λh2=>⟨(),[some 0,some 1,some 2,some 3,some 4,some 5,some 6,some 7,some 8],I9b h1,Wo ⟨qZ ⟨rq,rq,rq,rq,rq,rq,rq,rq,rq,rq,rq,rq,qQ⟩,qX,qX,qY,qY,qX,qX,qX,qX,qQ⟩ ⟨pP,pP,pP,pP,pP,pP,pP,pP,pP,congrArg (λz=>PV.val (.bool z)) ix,congrArg (λz=>PV.val (.bool z)) iy,qQ⟩ ⟨⟨pP,pP,pP,pP,pP,pP,pP,qQ⟩,qQ⟩⟩⟩⟩,λ_ h9=>?_⟩
    have h9:(decide (an x 0 > 0)||decide (an y 0 > 0))=true:=h9;obtain⟨t,ht⟩:∃t,t=x / (x - y):=⟨_,rfl⟩;have ht1:aF (au x) / aF (au (aF (au x) - aF (au y)))=t:=by rw [az,az,az,ht]
    have qt:QB 300000 t:=by rw [ht];exact(qx.div (qx.sub qy)).le (by decide)
    have pr3:isRk 4294967296 (au x)/\isRk 4294967296 (au y):=⟨rx,ry⟩;have pr4:isRk 4294967296 (au x)/\isRk 4294967296 (au (aF (au x) - aF (au y))):=⟨rx,by rw [az,az];exact(qx.sub qy).rk (by decide)⟩;have h9':(!decide (an x 0 > 0)&&!decide (an y 0 > 0))=false:=by cases h:decide (an x 0 > 0)<;>cases h':decide (an y 0 > 0)<;>first|rfl|(rw [h,h'] at h9;cases h9)
    have I12a:decide (an y 0 > 0)=false->(decide (an x 0 > 0)&&decide (an y 0 > 0))=false:=λh=>by rw [h,Bool.and_false]
    have I12b:decide (an x 0 > 0) = !true->(decide (an x 0 > 0)&&decide (an y 0 > 0))=false:=λh=>by rw [h];rfl
    with_unfolding_all refine⟨λh1=>⟨λh2=>⟨s,[some 0,some 1,some 2,some 3,some 4,some 5,some 6],?_,Wo ⟨qZ ⟨rq,rq,rq,rq,rq,rq,rq,rq,rq,rq,rq,rq,qQ⟩,qX,qX,qY,qY,qX,qX,qQ⟩ ⟨pP,pP,pP,pP,pP,pP,pP,qQ⟩ trivial⟩,λh2=>⟨Unit,λ_=>(decide (an x 0 > 0)&&decide (an y 0 > 0))=false,λ_=>aa [(3,.ptr 0 0 0 0),(4,.ptr 1 1 0 0),(5,.ptr 2 2 0 0),(6,.ptr 3 3 0 0),(7,.ptr 4 4 0 0),(8,.ptr 5 5 0 0),(9,.ptr 6 6 0 0),(14,.val (.bool (decide (an x 0 > 0)))),(15,.val (.bool (decide (an y 0 > 0)))),(16,.ptr 7 7 0 0)] [⟨117,12,0,true,false,1,λ_=>[.val (.bool a.x.s),.val (.string a.x.b),.val (.string a.x.c),.val (.bool a.y.s),.val (.string a.y.b),.val (.string a.y.c),.val (.bool b.x.s),.val (.string b.x.b),.val (.string b.x.c),.val (.bool b.y.s),.val (.string b.y.b),.val (.string b.y.c)]⟩,ba false ⟨#[]⟩ ⟨#[]⟩ 1,ba false ⟨#[]⟩ ⟨#[]⟩ 2,⟨4,1,3,true,false,1,λ_=>[.val (.bool false)]⟩,⟨38,1,4,true,false,1,λ_=>[.val (.int .i64 0)]⟩,cq s.1 5,cq s.2 6,cq t 7] 8 [[(3,.ptr 0 0 0 0),(4,.ptr 1 1 0 0),(5,.ptr 2 2 0 0),(6,.ptr 3 3 0 0),(7,.ptr 4 4 0 0),(8,.ptr 5 5 0 0),(9,.ptr 6 6 0 0)]],(λI12=>?_) (I12a h2),λ_ hn12=>?_⟩⟩,λh1=>⟨λh2=>(nomatch h2),λh2=>⟨Unit,λ_=>(decide (an x 0 > 0)&&decide (an y 0 > 0))=false,λ_=>aa [(3,.ptr 0 0 0 0),(4,.ptr 1 1 0 0),(5,.ptr 2 2 0 0),(6,.ptr 3 3 0 0),(7,.ptr 4 4 0 0),(8,.ptr 5 5 0 0),(9,.ptr 6 6 0 0),(14,.val (.bool (decide (an x 0 > 0)))),(15,.val (.bool (decide (an y 0 > 0)))),(16,.ptr 7 7 0 0)] [⟨117,12,0,true,false,1,λ_=>[.val (.bool a.x.s),.val (.string a.x.b),.val (.string a.x.c),.val (.bool a.y.s),.val (.string a.y.b),.val (.string a.y.c),.val (.bool b.x.s),.val (.string b.x.b),.val (.string b.x.c),.val (.bool b.y.s),.val (.string b.y.b),.val (.string b.y.c)]⟩,ba false ⟨#[]⟩ ⟨#[]⟩ 1,ba false ⟨#[]⟩ ⟨#[]⟩ 2,⟨4,1,3,true,false,1,λ_=>[.val (.bool false)]⟩,⟨38,1,4,true,false,1,λ_=>[.val (.int .i64 0)]⟩,cq s.1 5,cq s.2 6,cq t 7] 8 [[(3,.ptr 0 0 0 0),(4,.ptr 1 1 0 0),(5,.ptr 2 2 0 0),(6,.ptr 3 3 0 0),(7,.ptr 4 4 0 0),(8,.ptr 5 5 0 0),(9,.ptr 6 6 0 0)]],(λI12=>?_) (I12b h1),λ_ hn12=>?_⟩⟩⟩
    ·have hpf2:dq n p a b (n - (k+1)) (k+1) s=dq n p a b n 0 (mkRat 0 1,mkRat 1 1):=by
      rw [<-hpf,hstep];unfold gm;rw [h9',show((decide (an x 0 > 0))&&(decide (an y 0 > 0)))=true by
       have h1:decide (an x 0 > 0)=true:=h1;have h2:decide (an y 0 > 0)=true:=h2;rw [h1,h2];rfl]
      rfl
     exact⟨⟨hq1,hq2⟩,hpf2⟩
    ·with_unfolding_all exact⟨⟨pr3,⟨⟨pr4,⟨(),[some 0,some 1,some 2,some 3,some 4,some 5,some 6,some 9],I12,Wo ⟨qZ ⟨rq,rq,rq,rq,rq,rq,rq,rq,rq,rq,rq,rq,qQ⟩,qX,qX,qY,qY,qX,qX,qZ ⟨⟨congrArg (λq:Rat=>PV.val (.bool (decide (q.num < 0)))) ht1,rfl⟩,⟨congrArg (λq:Rat=>PV.val (.string (ag q.num.natAbs))) ht1,rfl⟩,⟨congrArg (λq:Rat=>PV.val (.string (aK q.den))) ht1,rfl⟩,qQ⟩,qQ⟩ ⟨pP,pP,pP,pP,pP,pP,pP,rfl,rfl,pP,qQ⟩ ⟨⟨pP,pP,pP,pP,pP,pP,pP,qQ⟩,qQ⟩⟩⟩,⟨pr4,⟨(),[some 0,some 1,some 2,some 3,some 4,some 5,some 6,some 9],I12,Wo ⟨qZ ⟨rq,rq,rq,rq,rq,rq,rq,rq,rq,rq,rq,rq,qQ⟩,qX,qX,qY,qY,qX,qX,qZ ⟨⟨congrArg (λq:Rat=>PV.val (.bool (decide (q.num < 0)))) ht1,rfl⟩,⟨congrArg (λq:Rat=>PV.val (.string (ag q.num.natAbs))) ht1,rfl⟩,⟨congrArg (λq:Rat=>PV.val (.string (aK q.den))) ht1,rfl⟩,qQ⟩,qQ⟩ ⟨pP,pP,pP,pP,pP,pP,pP,rfl,rfl,pP,qQ⟩ ⟨⟨pP,pP,pP,pP,pP,pP,pP,qQ⟩,qQ⟩⟩⟩⟩⟩,⟨pr3,⟨pr4,⟨(),[some 0,some 1,some 2,some 3,some 4,some 5,some 6,some 9],I12,Wo ⟨qZ ⟨rq,rq,rq,rq,rq,rq,rq,rq,rq,rq,rq,rq,qQ⟩,qX,qX,qY,qY,qX,qX,qZ ⟨⟨congrArg (λq:Rat=>PV.val (.bool (decide (q.num < 0)))) ht1,rfl⟩,⟨congrArg (λq:Rat=>PV.val (.string (ag q.num.natAbs))) ht1,rfl⟩,⟨congrArg (λq:Rat=>PV.val (.string (aK q.den))) ht1,rfl⟩,qQ⟩,qQ⟩ ⟨pP,pP,pP,pP,pP,pP,pP,rfl,rfl,pP,qQ⟩ ⟨⟨pP,pP,pP,pP,pP,pP,pP,qQ⟩,qQ⟩⟩⟩⟩⟩
    ·have hn12:(decide (an x 0 > 0)&&decide (an y 0 > 0))=false:=hn12;have rt:isRk 4294967296 (au t):=qt.rk (by decide);have r1:isRk 4294967296 (au s.1):=hq1.rk (by decide);have r2:isRk 4294967296 (au s.2):=hq2.rk (by decide);obtain⟨lw,hlw⟩:∃z,z=(bif decide (an y 0 > 0)&&decide (an t s.1 > 0) then t else s.1):=⟨_,rfl⟩;obtain⟨hgx,hhg⟩:∃z,z=(bif decide (an x 0 > 0)&&decide (an t s.2 < 0) then t else s.2):=⟨_,rfl⟩;have el:decide (an (aF (au t)) (aF (au s.1)) > 0)=decide (an t s.1 > 0):=by rw [az,az]
     have eh:decide (an (aF (au t)) (aF (au s.2)) < 0)=decide (an t s.2 < 0):=by rw [az,az]
     have l1:decide (an y 0 > 0)=true->decide (an (aF (au t)) (aF (au s.1)) > 0)=true->t=lw:=λh h'=>by rw [el] at h';rw [hlw,h,h'];rfl
     have l2:decide (an (aF (au t)) (aF (au s.1)) > 0)=false->s.1=lw:=λh=>by rw [el] at h;rw [hlw,h,Bool.and_false];rfl
     have l3:decide (an y 0 > 0) = !true->s.1=lw:=λh=>by rw [hlw,h];rfl
     have g1:decide (an x 0 > 0)=true->decide (an (aF (au t)) (aF (au s.2)) < 0)=true->t=hgx:=λh h'=>by rw [eh] at h';rw [hhg,h,h'];rfl
     have g2:decide (an (aF (au t)) (aF (au s.2)) < 0)=false->s.2=hgx:=λh=>by rw [eh] at h;rw [hhg,h,Bool.and_false];rfl
     have g3:decide (an x 0 > 0) = !true->s.2=hgx:=λh=>by rw [hhg,h];rfl
     have qw:QB 300000 lw:=by
      rw [hlw];cases (decide (an y 0 > 0)&&decide (an t s.1 > 0))
      ·exact hq1
      ·exact qt
     have qg:QB 300000 hgx:=by
      rw [hhg];cases (decide (an x 0 > 0)&&decide (an t s.2 < 0))
      ·exact hq2
      ·exact qt
     have hpf2:dq n p a b (n - (k+1)) (k+1) (lw,hgx)=dq n p a b n 0 (mkRat 0 1,mkRat 1 1):=by
      rw [<-hpf,hstep];unfold gm;rw [h9',hn12,<-ht,<-hlw,<-hhg];rfl
     with_unfolding_all refine⟨Unit,λ_=>True,λ_=>aa [(3,.ptr 0 0 0 0),(4,.ptr 1 1 0 0),(5,.ptr 2 2 0 0),(6,.ptr 3 3 0 0),(7,.ptr 4 4 0 0),(8,.ptr 5 5 0 0),(9,.ptr 6 6 0 0),(14,.val (.bool (decide (an x 0 > 0)))),(15,.val (.bool (decide (an y 0 > 0)))),(16,.ptr 7 7 0 0)] [⟨117,12,0,true,false,1,λ_=>[.val (.bool a.x.s),.val (.string a.x.b),.val (.string a.x.c),.val (.bool a.y.s),.val (.string a.y.b),.val (.string a.y.c),.val (.bool b.x.s),.val (.string b.x.b),.val (.string b.x.c),.val (.bool b.y.s),.val (.string b.y.b),.val (.string b.y.c)]⟩,ba false ⟨#[]⟩ ⟨#[]⟩ 1,ba false ⟨#[]⟩ ⟨#[]⟩ 2,⟨4,1,3,true,false,1,λ_=>[.val (.bool false)]⟩,⟨38,1,4,true,false,1,λ_=>[.val (.int .i64 0)]⟩,cq lw 5,cq s.2 6,cq t 7] 8 [[(3,.ptr 0 0 0 0),(4,.ptr 1 1 0 0),(5,.ptr 2 2 0 0),(6,.ptr 3 3 0 0),(7,.ptr 4 4 0 0),(8,.ptr 5 5 0 0),(9,.ptr 6 6 0 0)]],?_,λ_ _=>?_⟩
     ·with_unfolding_all exact⟨λh1=>⟨⟨rt,r1⟩,λh2=>⟨(),[some 0,some 1,some 2,some 3,some 4,some 5,some 6,some 7],trivial,Wo ⟨qZ ⟨rq,rq,rq,rq,rq,rq,rq,rq,rq,rq,rq,rq,qQ⟩,qX,qX,qY,qY,qZ ⟨⟨congrArg (λq:Rat=>PV.val (.bool (c9 q).s)) (l1 h1 h2),rfl⟩,⟨congrArg (λq:Rat=>PV.val (.string (c9 q).b)) (l1 h1 h2),rfl⟩,⟨congrArg (λq:Rat=>PV.val (.string (c9 q).c)) (l1 h1 h2),rfl⟩,qQ⟩,qX,qX,qQ⟩ ⟨pP,pP,pP,pP,pP,pP,pP,rfl,rfl,pP,qQ⟩ ⟨⟨pP,pP,pP,pP,pP,pP,pP,qQ⟩,qQ⟩⟩,λh2=>⟨(),[some 0,some 1,some 2,some 3,some 4,some 5,some 6,some 7],trivial,Wo ⟨qZ ⟨rq,rq,rq,rq,rq,rq,rq,rq,rq,rq,rq,rq,qQ⟩,qX,qX,qY,qY,qZ ⟨⟨congrArg (λq:Rat=>PV.val (.bool (c9 q).s)) (l2 h2),rfl⟩,⟨congrArg (λq:Rat=>PV.val (.string (c9 q).b)) (l2 h2),rfl⟩,⟨congrArg (λq:Rat=>PV.val (.string (c9 q).c)) (l2 h2),rfl⟩,qQ⟩,qX,qX,qQ⟩ ⟨pP,pP,pP,pP,pP,pP,pP,rfl,rfl,pP,qQ⟩ ⟨⟨pP,pP,pP,pP,pP,pP,pP,qQ⟩,qQ⟩⟩⟩,λh1=>⟨λh2=>(nomatch h2),λh2=>⟨(),[some 0,some 1,some 2,some 3,some 4,some 5,some 6,some 7],trivial,Wo ⟨qZ ⟨rq,rq,rq,rq,rq,rq,rq,rq,rq,rq,rq,rq,qQ⟩,qX,qX,qY,qY,qZ ⟨⟨congrArg (λq:Rat=>PV.val (.bool (c9 q).s)) (l3 h1),rfl⟩,⟨congrArg (λq:Rat=>PV.val (.string (c9 q).b)) (l3 h1),rfl⟩,⟨congrArg (λq:Rat=>PV.val (.string (c9 q).c)) (l3 h1),rfl⟩,qQ⟩,qX,qX,qQ⟩ ⟨pP,pP,pP,pP,pP,pP,pP,rfl,rfl,pP,qQ⟩ ⟨⟨pP,pP,pP,pP,pP,pP,pP,qQ⟩,qQ⟩⟩⟩⟩
     ·with_unfolding_all exact⟨λh1=>⟨⟨rt,r2⟩,λh2=>⟨(lw,hgx),[some 0,some 1,some 2,some 3,some 4,some 5,some 6],⟨⟨qw,qg⟩,hpf2⟩,Wo ⟨qZ ⟨rq,rq,rq,rq,rq,rq,rq,rq,rq,rq,rq,rq,qQ⟩,qX,qX,qY,qY,qX,qZ ⟨⟨congrArg (λq:Rat=>PV.val (.bool (c9 q).s)) (g1 h1 h2),rfl⟩,⟨congrArg (λq:Rat=>PV.val (.string (c9 q).b)) (g1 h1 h2),rfl⟩,⟨congrArg (λq:Rat=>PV.val (.string (c9 q).c)) (g1 h1 h2),rfl⟩,qQ⟩,qQ⟩ ⟨pP,pP,pP,pP,pP,pP,pP,qQ⟩ trivial⟩,λh2=>⟨(lw,hgx),[some 0,some 1,some 2,some 3,some 4,some 5,some 6],⟨⟨qw,qg⟩,hpf2⟩,Wo ⟨qZ ⟨rq,rq,rq,rq,rq,rq,rq,rq,rq,rq,rq,rq,qQ⟩,qX,qX,qY,qY,qX,qZ ⟨⟨congrArg (λq:Rat=>PV.val (.bool (c9 q).s)) (g2 h2),rfl⟩,⟨congrArg (λq:Rat=>PV.val (.string (c9 q).b)) (g2 h2),rfl⟩,⟨congrArg (λq:Rat=>PV.val (.string (c9 q).c)) (g2 h2),rfl⟩,qQ⟩,qQ⟩ ⟨pP,pP,pP,pP,pP,pP,pP,qQ⟩ trivial⟩⟩,λh1=>⟨λh2=>(nomatch h2),λh2=>⟨(lw,hgx),[some 0,some 1,some 2,some 3,some 4,some 5,some 6],⟨⟨qw,qg⟩,hpf2⟩,Wo ⟨qZ ⟨rq,rq,rq,rq,rq,rq,rq,rq,rq,rq,rq,rq,qQ⟩,qX,qX,qY,qY,qX,qZ ⟨⟨congrArg (λq:Rat=>PV.val (.bool (c9 q).s)) (g3 h1),rfl⟩,⟨congrArg (λq:Rat=>PV.val (.string (c9 q).b)) (g3 h1),rfl⟩,⟨congrArg (λq:Rat=>PV.val (.string (c9 q).c)) (g3 h1),rfl⟩,qQ⟩,qQ⟩ ⟨pP,pP,pP,pP,pP,pP,pP,qQ⟩ trivial⟩⟩⟩
    ·with_unfolding_all exact⟨⟨pr3,⟨⟨pr4,⟨(),[some 0,some 1,some 2,some 3,some 4,some 5,some 6,some 9],I12,Wo ⟨qZ ⟨rq,rq,rq,rq,rq,rq,rq,rq,rq,rq,rq,rq,qQ⟩,qX,qX,qY,qY,qX,qX,qZ ⟨⟨congrArg (λq:Rat=>PV.val (.bool (decide (q.num < 0)))) ht1,rfl⟩,⟨congrArg (λq:Rat=>PV.val (.string (ag q.num.natAbs))) ht1,rfl⟩,⟨congrArg (λq:Rat=>PV.val (.string (aK q.den))) ht1,rfl⟩,qQ⟩,qQ⟩ ⟨pP,pP,pP,pP,pP,pP,pP,rfl,rfl,pP,qQ⟩ ⟨⟨pP,pP,pP,pP,pP,pP,pP,qQ⟩,qQ⟩⟩⟩,⟨pr4,⟨(),[some 0,some 1,some 2,some 3,some 4,some 5,some 6,some 9],I12,Wo ⟨qZ ⟨rq,rq,rq,rq,rq,rq,rq,rq,rq,rq,rq,rq,qQ⟩,qX,qX,qY,qY,qX,qX,qZ ⟨⟨congrArg (λq:Rat=>PV.val (.bool (decide (q.num < 0)))) ht1,rfl⟩,⟨congrArg (λq:Rat=>PV.val (.string (ag q.num.natAbs))) ht1,rfl⟩,⟨congrArg (λq:Rat=>PV.val (.string (aK q.den))) ht1,rfl⟩,qQ⟩,qQ⟩ ⟨pP,pP,pP,pP,pP,pP,pP,rfl,rfl,pP,qQ⟩ ⟨⟨pP,pP,pP,pP,pP,pP,pP,qQ⟩,qQ⟩⟩⟩⟩⟩,⟨pr3,⟨pr4,⟨(),[some 0,some 1,some 2,some 3,some 4,some 5,some 6,some 9],I12,Wo ⟨qZ ⟨rq,rq,rq,rq,rq,rq,rq,rq,rq,rq,rq,rq,qQ⟩,qX,qX,qY,qY,qX,qX,qZ ⟨⟨congrArg (λq:Rat=>PV.val (.bool (decide (q.num < 0)))) ht1,rfl⟩,⟨congrArg (λq:Rat=>PV.val (.string (ag q.num.natAbs))) ht1,rfl⟩,⟨congrArg (λq:Rat=>PV.val (.string (aK q.den))) ht1,rfl⟩,qQ⟩,qQ⟩ ⟨pP,pP,pP,pP,pP,pP,pP,rfl,rfl,pP,qQ⟩ ⟨⟨pP,pP,pP,pP,pP,pP,pP,qQ⟩,qQ⟩⟩⟩⟩⟩
    ·have hn12:(decide (an x 0 > 0)&&decide (an y 0 > 0))=false:=hn12;have rt:isRk 4294967296 (au t):=qt.rk (by decide);have r1:isRk 4294967296 (au s.1):=hq1.rk (by decide);have r2:isRk 4294967296 (au s.2):=hq2.rk (by decide);obtain⟨lw,hlw⟩:∃z,z=(bif decide (an y 0 > 0)&&decide (an t s.1 > 0) then t else s.1):=⟨_,rfl⟩;obtain⟨hgx,hhg⟩:∃z,z=(bif decide (an x 0 > 0)&&decide (an t s.2 < 0) then t else s.2):=⟨_,rfl⟩;have el:decide (an (aF (au t)) (aF (au s.1)) > 0)=decide (an t s.1 > 0):=by rw [az,az]
     have eh:decide (an (aF (au t)) (aF (au s.2)) < 0)=decide (an t s.2 < 0):=by rw [az,az]
     have l1:decide (an y 0 > 0)=true->decide (an (aF (au t)) (aF (au s.1)) > 0)=true->t=lw:=λh h'=>by rw [el] at h';rw [hlw,h,h'];rfl
     have l2:decide (an (aF (au t)) (aF (au s.1)) > 0)=false->s.1=lw:=λh=>by rw [el] at h;rw [hlw,h,Bool.and_false];rfl
     have l3:decide (an y 0 > 0) = !true->s.1=lw:=λh=>by rw [hlw,h];rfl
     have g1:decide (an x 0 > 0)=true->decide (an (aF (au t)) (aF (au s.2)) < 0)=true->t=hgx:=λh h'=>by rw [eh] at h';rw [hhg,h,h'];rfl
     have g2:decide (an (aF (au t)) (aF (au s.2)) < 0)=false->s.2=hgx:=λh=>by rw [eh] at h;rw [hhg,h,Bool.and_false];rfl
     have g3:decide (an x 0 > 0) = !true->s.2=hgx:=λh=>by rw [hhg,h];rfl
     have qw:QB 300000 lw:=by
      rw [hlw];cases (decide (an y 0 > 0)&&decide (an t s.1 > 0))
      ·exact hq1
      ·exact qt
     have qg:QB 300000 hgx:=by
      rw [hhg];cases (decide (an x 0 > 0)&&decide (an t s.2 < 0))
      ·exact hq2
      ·exact qt
     have hpf2:dq n p a b (n - (k+1)) (k+1) (lw,hgx)=dq n p a b n 0 (mkRat 0 1,mkRat 1 1):=by
      rw [<-hpf,hstep];unfold gm;rw [h9',hn12,<-ht,<-hlw,<-hhg];rfl
     with_unfolding_all refine⟨Unit,λ_=>True,λ_=>aa [(3,.ptr 0 0 0 0),(4,.ptr 1 1 0 0),(5,.ptr 2 2 0 0),(6,.ptr 3 3 0 0),(7,.ptr 4 4 0 0),(8,.ptr 5 5 0 0),(9,.ptr 6 6 0 0),(14,.val (.bool (decide (an x 0 > 0)))),(15,.val (.bool (decide (an y 0 > 0)))),(16,.ptr 7 7 0 0)] [⟨117,12,0,true,false,1,λ_=>[.val (.bool a.x.s),.val (.string a.x.b),.val (.string a.x.c),.val (.bool a.y.s),.val (.string a.y.b),.val (.string a.y.c),.val (.bool b.x.s),.val (.string b.x.b),.val (.string b.x.c),.val (.bool b.y.s),.val (.string b.y.b),.val (.string b.y.c)]⟩,ba false ⟨#[]⟩ ⟨#[]⟩ 1,ba false ⟨#[]⟩ ⟨#[]⟩ 2,⟨4,1,3,true,false,1,λ_=>[.val (.bool false)]⟩,⟨38,1,4,true,false,1,λ_=>[.val (.int .i64 0)]⟩,cq lw 5,cq s.2 6,cq t 7] 8 [[(3,.ptr 0 0 0 0),(4,.ptr 1 1 0 0),(5,.ptr 2 2 0 0),(6,.ptr 3 3 0 0),(7,.ptr 4 4 0 0),(8,.ptr 5 5 0 0),(9,.ptr 6 6 0 0)]],?_,λ_ _=>?_⟩
     ·with_unfolding_all exact⟨λh1=>⟨⟨rt,r1⟩,λh2=>⟨(),[some 0,some 1,some 2,some 3,some 4,some 5,some 6,some 7],trivial,Wo ⟨qZ ⟨rq,rq,rq,rq,rq,rq,rq,rq,rq,rq,rq,rq,qQ⟩,qX,qX,qY,qY,qZ ⟨⟨congrArg (λq:Rat=>PV.val (.bool (c9 q).s)) (l1 h1 h2),rfl⟩,⟨congrArg (λq:Rat=>PV.val (.string (c9 q).b)) (l1 h1 h2),rfl⟩,⟨congrArg (λq:Rat=>PV.val (.string (c9 q).c)) (l1 h1 h2),rfl⟩,qQ⟩,qX,qX,qQ⟩ ⟨pP,pP,pP,pP,pP,pP,pP,rfl,rfl,pP,qQ⟩ ⟨⟨pP,pP,pP,pP,pP,pP,pP,qQ⟩,qQ⟩⟩,λh2=>⟨(),[some 0,some 1,some 2,some 3,some 4,some 5,some 6,some 7],trivial,Wo ⟨qZ ⟨rq,rq,rq,rq,rq,rq,rq,rq,rq,rq,rq,rq,qQ⟩,qX,qX,qY,qY,qZ ⟨⟨congrArg (λq:Rat=>PV.val (.bool (c9 q).s)) (l2 h2),rfl⟩,⟨congrArg (λq:Rat=>PV.val (.string (c9 q).b)) (l2 h2),rfl⟩,⟨congrArg (λq:Rat=>PV.val (.string (c9 q).c)) (l2 h2),rfl⟩,qQ⟩,qX,qX,qQ⟩ ⟨pP,pP,pP,pP,pP,pP,pP,rfl,rfl,pP,qQ⟩ ⟨⟨pP,pP,pP,pP,pP,pP,pP,qQ⟩,qQ⟩⟩⟩,λh1=>⟨λh2=>(nomatch h2),λh2=>⟨(),[some 0,some 1,some 2,some 3,some 4,some 5,some 6,some 7],trivial,Wo ⟨qZ ⟨rq,rq,rq,rq,rq,rq,rq,rq,rq,rq,rq,rq,qQ⟩,qX,qX,qY,qY,qZ ⟨⟨congrArg (λq:Rat=>PV.val (.bool (c9 q).s)) (l3 h1),rfl⟩,⟨congrArg (λq:Rat=>PV.val (.string (c9 q).b)) (l3 h1),rfl⟩,⟨congrArg (λq:Rat=>PV.val (.string (c9 q).c)) (l3 h1),rfl⟩,qQ⟩,qX,qX,qQ⟩ ⟨pP,pP,pP,pP,pP,pP,pP,rfl,rfl,pP,qQ⟩ ⟨⟨pP,pP,pP,pP,pP,pP,pP,qQ⟩,qQ⟩⟩⟩⟩
     ·with_unfolding_all exact⟨λh1=>⟨⟨rt,r2⟩,λh2=>⟨(lw,hgx),[some 0,some 1,some 2,some 3,some 4,some 5,some 6],⟨⟨qw,qg⟩,hpf2⟩,Wo ⟨qZ ⟨rq,rq,rq,rq,rq,rq,rq,rq,rq,rq,rq,rq,qQ⟩,qX,qX,qY,qY,qX,qZ ⟨⟨congrArg (λq:Rat=>PV.val (.bool (c9 q).s)) (g1 h1 h2),rfl⟩,⟨congrArg (λq:Rat=>PV.val (.string (c9 q).b)) (g1 h1 h2),rfl⟩,⟨congrArg (λq:Rat=>PV.val (.string (c9 q).c)) (g1 h1 h2),rfl⟩,qQ⟩,qQ⟩ ⟨pP,pP,pP,pP,pP,pP,pP,qQ⟩ trivial⟩,λh2=>⟨(lw,hgx),[some 0,some 1,some 2,some 3,some 4,some 5,some 6],⟨⟨qw,qg⟩,hpf2⟩,Wo ⟨qZ ⟨rq,rq,rq,rq,rq,rq,rq,rq,rq,rq,rq,rq,qQ⟩,qX,qX,qY,qY,qX,qZ ⟨⟨congrArg (λq:Rat=>PV.val (.bool (c9 q).s)) (g2 h2),rfl⟩,⟨congrArg (λq:Rat=>PV.val (.string (c9 q).b)) (g2 h2),rfl⟩,⟨congrArg (λq:Rat=>PV.val (.string (c9 q).c)) (g2 h2),rfl⟩,qQ⟩,qQ⟩ ⟨pP,pP,pP,pP,pP,pP,pP,qQ⟩ trivial⟩⟩,λh1=>⟨λh2=>(nomatch h2),λh2=>⟨(lw,hgx),[some 0,some 1,some 2,some 3,some 4,some 5,some 6],⟨⟨qw,qg⟩,hpf2⟩,Wo ⟨qZ ⟨rq,rq,rq,rq,rq,rq,rq,rq,rq,rq,rq,rq,qQ⟩,qX,qX,qY,qY,qX,qZ ⟨⟨congrArg (λq:Rat=>PV.val (.bool (c9 q).s)) (g3 h1),rfl⟩,⟨congrArg (λq:Rat=>PV.val (.string (c9 q).b)) (g3 h1),rfl⟩,⟨congrArg (λq:Rat=>PV.val (.string (c9 q).c)) (g3 h1),rfl⟩,qQ⟩,qQ⟩ ⟨pP,pP,pP,pP,pP,pP,pP,qQ⟩ trivial⟩⟩⟩
   ·obtain⟨⟨hq1,hq2⟩,hpf⟩:(QB 300000 s.1/\QB 300000 s.2)/\dq n p a b (n - n) n s=dq n p a b n 0 (mkRat 0 1,mkRat 1 1):=hI;have r1:isRk 4294967296 (au s.1):=hq1.rk (by decide);have r2:isRk 4294967296 (au s.2):=hq2.rk (by decide);rw [Nat.sub_self] at hpf;have hXs:X=bif decide (an s.1 s.2>=0) then none else some s:=by
     rw [hX];unfold cW;rw [<-hB,hbd,<-hpf];rfl
    have ec:decide (an (aF (au s.1)) (aF (au s.2))>=0)=decide (an s.1 s.2>=0):=by rw [az,az]
    have xn:decide (an (aF (au s.1)) (aF (au s.2))>=0)=true->X=none:=λh=>by
     rw [ec] at h;rw [hXs,h];rfl
    have xs:decide (an (aF (au s.1)) (aF (au s.2))>=0)=false->X=some s:=λh=>by
     rw [ec] at h;rw [hXs,h];rfl
    have sl:decide (an (aF (au s.1)) (aF (au s.2))>=0)=false->s.1=sz X:=λh=>by rw [xs h];rfl
    have sh:decide (an (aF (au s.1)) (aF (au s.2))>=0)=false->s.2=tP X:=λh=>by rw [xs h];rfl
    have si:decide (an (aF (au s.1)) (aF (au s.2))>=0)=false->PV.val (.bool true)=PV.val (.bool X.isSome):=λh=>by rw [xs h];rfl
    with_unfolding_all exact⟨⟨r1,r2⟩,λh1=>⟨[some 1,some 2,some 3,some 4],aa [(4,.ptr 0 0 0 0),(5,.ptr 1 1 0 0),(6,.ptr 2 2 0 0),(7,.ptr 3 3 0 0)] [cq (sz X) 0,cq (tP X) 1,⟨4,1,2,true,false,1,λ_=>[.val (.bool X.isSome)]⟩,⟨38,1,3,true,false,1,λ_=>[.val (.int .i64 (bif Bd then 1 else 0))]⟩] 4 [],Wo ⟨qZ ⟨⟨(zb (xn h1)).1,rfl⟩,⟨(zb (xn h1)).2.1,rfl⟩,⟨(zb (xn h1)).2.2.1,rfl⟩,qQ⟩,qZ ⟨⟨(zc (xn h1)).1,rfl⟩,⟨(zc (xn h1)).2.1,rfl⟩,⟨(zc (xn h1)).2.2,rfl⟩,qQ⟩,qZ ⟨⟨(zb (xn h1)).2.2.2,rfl⟩,qQ⟩,qZ ⟨⟨e0 hbd,rfl⟩,qQ⟩,qQ⟩ ⟨pP,pP,pP,pP,qQ⟩ trivial,rfl,rfl⟩,λh1=>⟨⟨⟨[some 1,some 2,some 3,some 4],aa [(4,.ptr 0 0 0 0),(5,.ptr 1 1 0 0),(6,.ptr 2 2 0 0),(7,.ptr 3 3 0 0)] [cq (sz X) 0,cq (tP X) 1,⟨4,1,2,true,false,1,λ_=>[.val (.bool X.isSome)]⟩,⟨38,1,3,true,false,1,λ_=>[.val (.int .i64 (bif Bd then 1 else 0))]⟩] 4 [],Wo ⟨qZ ⟨⟨congrArg (λq:Rat=>PV.val (.bool (c9 q).s)) (sl h1),rfl⟩,⟨congrArg (λq:Rat=>PV.val (.string (c9 q).b)) (sl h1),rfl⟩,⟨congrArg (λq:Rat=>PV.val (.string (c9 q).c)) (sl h1),rfl⟩,qQ⟩,qZ ⟨⟨congrArg (λq:Rat=>PV.val (.bool (c9 q).s)) (sh h1),rfl⟩,⟨congrArg (λq:Rat=>PV.val (.string (c9 q).b)) (sh h1),rfl⟩,⟨congrArg (λq:Rat=>PV.val (.string (c9 q).c)) (sh h1),rfl⟩,qQ⟩,qZ ⟨⟨si h1,rfl⟩,qQ⟩,qZ ⟨⟨e0 hbd,rfl⟩,qQ⟩,qQ⟩ ⟨pP,pP,pP,pP,qQ⟩ trivial,rfl,rfl⟩,⟨[some 1,some 2,some 3,some 4],aa [(4,.ptr 0 0 0 0),(5,.ptr 1 1 0 0),(6,.ptr 2 2 0 0),(7,.ptr 3 3 0 0)] [cq (sz X) 0,cq (tP X) 1,⟨4,1,2,true,false,1,λ_=>[.val (.bool X.isSome)]⟩,⟨38,1,3,true,false,1,λ_=>[.val (.int .i64 (bif Bd then 1 else 0))]⟩] 4 [],Wo ⟨qZ ⟨⟨congrArg (λq:Rat=>PV.val (.bool (c9 q).s)) (sl h1),rfl⟩,⟨congrArg (λq:Rat=>PV.val (.string (c9 q).b)) (sl h1),rfl⟩,⟨congrArg (λq:Rat=>PV.val (.string (c9 q).c)) (sl h1),rfl⟩,qQ⟩,qZ ⟨⟨congrArg (λq:Rat=>PV.val (.bool (c9 q).s)) (sh h1),rfl⟩,⟨congrArg (λq:Rat=>PV.val (.string (c9 q).b)) (sh h1),rfl⟩,⟨congrArg (λq:Rat=>PV.val (.string (c9 q).c)) (sh h1),rfl⟩,qQ⟩,qZ ⟨⟨si h1,rfl⟩,qQ⟩,qZ ⟨⟨e0 hbd,rfl⟩,qQ⟩,qQ⟩ ⟨pP,pP,pP,pP,qQ⟩ trivial,rfl,rfl⟩⟩,⟨[some 1,some 2,some 3,some 4],aa [(4,.ptr 0 0 0 0),(5,.ptr 1 1 0 0),(6,.ptr 2 2 0 0),(7,.ptr 3 3 0 0)] [cq (sz X) 0,cq (tP X) 1,⟨4,1,2,true,false,1,λ_=>[.val (.bool X.isSome)]⟩,⟨38,1,3,true,false,1,λ_=>[.val (.int .i64 (bif Bd then 1 else 0))]⟩] 4 [],Wo ⟨qZ ⟨⟨congrArg (λq:Rat=>PV.val (.bool (c9 q).s)) (sl h1),rfl⟩,⟨congrArg (λq:Rat=>PV.val (.string (c9 q).b)) (sl h1),rfl⟩,⟨congrArg (λq:Rat=>PV.val (.string (c9 q).c)) (sl h1),rfl⟩,qQ⟩,qZ ⟨⟨congrArg (λq:Rat=>PV.val (.bool (c9 q).s)) (sh h1),rfl⟩,⟨congrArg (λq:Rat=>PV.val (.string (c9 q).b)) (sh h1),rfl⟩,⟨congrArg (λq:Rat=>PV.val (.string (c9 q).c)) (sh h1),rfl⟩,qQ⟩,qZ ⟨⟨si h1,rfl⟩,qQ⟩,qZ ⟨⟨e0 hbd,rfl⟩,qQ⟩,qQ⟩ ⟨pP,pP,pP,pP,qQ⟩ trivial,rfl,rfl⟩⟩⟩
 ·cases e
end Go.Proofs
namespace Go.Num
def bN (lo hi:PtS) (k:Nat) (c:Nat->List PV) (l:Nat) (o:Nat->List PV):List PV:=[.val (.bool lo.x.s),.val (.string lo.x.b),.val (.string lo.x.c),.val (.bool lo.y.s),.val (.string lo.y.b),.val (.string lo.y.c),.val (.bool hi.x.s),.val (.string hi.x.b),.val (.string hi.x.c),.val (.bool hi.y.s),.val (.string hi.y.b),.val (.string hi.y.c),.rs 1 k (λi=>[.rs 6 (pn c i) (pg c i)]),.rs 3 l (λi=>ab (ow o i))]
def cK:List PV->PtS
 |a1::a2::a3::a4::a5::a6::_=>ci [a1,a2,a3,a4,a5,a6]
 |_=>ci []
def cL:List PV->PtS
 |_::_::_::_::_::_::a1::a2::a3::a4::a5::a6::_=>ci [a1,a2,a3,a4,a5,a6]
 |_=>ci []
def gK:List PV->Nat
 |[_,_,_,_,_,_,_,_,_,_,_,_,.rs 1 k _,_]=>k
 |_=>0
def gC:List PV->Nat->List PV
 |[_,_,_,_,_,_,_,_,_,_,_,_,.rs 1 _ c,_]=>c
 |_=>λ_=>[]
def gL:List PV->Nat
 |[_,_,_,_,_,_,_,_,_,_,_,_,_,.rs 3 l _]=>l
 |_=>0
def gO:List PV->Nat->List PV
 |[_,_,_,_,_,_,_,_,_,_,_,_,_,.rs 3 _ o]=>o
 |_=>λ_=>[]
def yW (h:Nat->List PV):Prop:=h=λ_=>bN (cK (h 0)) (cL (h 0)) (gK (h 0)) (gC (h 0)) (gL (h 0)) (gO (h 0))
def sA:List PV->PtS
 |[a1,a2,a3,a4,a5,a6,_,_,_,_,_,_]=>ci [a1,a2,a3,a4,a5,a6]
 |_=>ci []
def sB:List PV->PtS
 |[_,_,_,_,_,_,a1,a2,a3,a4,a5,a6]=>ci [a1,a2,a3,a4,a5,a6]
 |_=>ci []
def D8 (h:Nat->List PV):Prop:=h=λ_=>wR (sA (h 0)) (sB (h 0))
def dM (i:Nat) (lo hi a b:PtS):List (Int×Rat) :=
 bif decide (an (aI i lo hi a) 0<=0)&&decide (an (aI i lo hi b) 0<=0) then [] else [(-((i:Int)+1),bif decide (an (aI i lo hi a) 0<=0) then aI i lo hi a / (aI i lo hi a - aI i lo hi b) else 0)]
def qf (i:Nat) (n:Nat) (p:Nat->PtS) (a b:PtS):List (Int×Rat):=match cW n p a b with
 |none=>[]
 |some s=>[((i:Int),s.1)]
def ay (lo hi:PtS) (n:Nat->Nat) (p:Nat->Nat->PtS) (a b:PtS):Nat->List (Int×Rat)
 |0=>[]
 |j+1=>ay lo hi n p a b j++(if j < 4 then dM j lo hi a b else qf (j - 4) (n (j - 4)) (p (j - 4)) a b)
def gP (lo hi:PtS) (k:Nat) (n:Nat->Nat) (p:Nat->Nat->PtS) (a b:PtS):List (Int×Rat):=ay lo hi n p a b (k+4)
theorem fA (i:Nat) {lo hi p:PtS} (h1:PtS.le 10000 lo) (h2:PtS.le 10000 hi) (h3:PtS.le 10000 p):QB 20003 (aI i lo hi p):=by
 unfold aI;split
 ·exact(h1.X.sub h3.X).le (by decide)
 ·exact(h3.X.sub h2.X).le (by decide)
 ·exact(h1.Y.sub h3.Y).le (by decide)
 ·exact(h3.Y.sub h2.Y).le (by decide)
theorem lY {lo hi:PtS} {n:Nat->Nat} {p:Nat->Nat->PtS} {a b:PtS}:∀(d j:Nat),ay lo hi n p a b j <+: ay lo hi n p a b (j+d)
 |0,j=>List.prefix_refl _
 |d+1,j=>(lY d j).trans (List.prefix_append _ _)
theorem fS {lo hi:PtS} {n:Nat->Nat} {p:Nat->Nat->PtS} {a b:PtS} {j k:Nat} (h:j < k) {x:Int×Rat} (hx:(if j < 4 then dM j lo hi a b else qf (j - 4) (n (j - 4)) (p (j - 4)) a b)=[x]) :
  (ay lo hi n p a b k)[(ay lo hi n p a b j).length]? = some x/\(ay lo hi n p a b j).length < (ay lo hi n p a b k).length/\(ay lo hi n p a b (j+1)).length=(ay lo hi n p a b j).length+1:=by
 obtain⟨t,ht⟩:=lY (lo:=lo) (hi:=hi) (n:=n) (p:=p) (a:=a) (b:=b) (k - (j+1)) (j+1);rw [show j+1+(k - (j+1))=k by omega] at ht;have e:ay lo hi n p a b (j+1)=ay lo hi n p a b j++[x]:=by rw [ay,hx]
 rw [<-ht,e];simp
def zI (L:List (Int×Rat)) (i:Nat):Int:=match L[i]? with
 |some q=>q.1
 |none=>0
def BX (L:List (Int×Rat)) (i:Nat):Rat:=match L[i]? with
 |some q=>q.2
 |none=>0
def gQ (L:List (Int×Rat)) (i:Nat):List PV:=[.val (.int .i64 (zI L i)),.val (au (BX L i))]
end Go.Num
namespace Go.Proofs
def Bu:List PV->Option Ans
 |[.agg [.val (.bool s1),.val (.string b1),.val (.string c1),.val (.bool s2),.val (.string b2),.val (.string c2),.val (.bool s3),.val (.string b3),.val (.string c3),.val (.bool s4),.val (.string b4),.val (.string c4),.rs 1 k c,.rs 3 l o],.val v]=>some ⟨some (((∀i,i < k->c i=[.rs 6 (pn c i) (pg c i)])/\∀i,i < l->o i=ab (ow o i))/\∃a b,v=ao a b),.fn (.func 171) [] [.rp 14 1 (λ_=>bN (PtS.mk ⟨s1,b1,c1⟩ ⟨s2,b2,c2⟩) (PtS.mk ⟨s3,b3,c3⟩ ⟨s4,b4,c4⟩) k c l o) 0 0,.rp 12 1 (λ_=>wR (aJ v).1 (aJ v).2) 0 0],[]⟩
 |_=>none
theorem D9:ak {} Tryz.f126 2=true:=by kernel_rfl
theorem f126:FnOk Tryz.prog 126 Bu:=by
 refine FnOk.ofW aj (am (l:=[]) (own:=[]) (inl:=[]) (by simp) (by simp)) Tryz.func126 {} 2 D9 λargs r e=>?_;unfold Bu at e;split at e
 ·rename_i s1 b1 c1 s2 b2 c2 s3 b3 c3 s4 b4 c4 k c l o v
  cases e;refine⟨by simp,λhm=>?_⟩;obtain⟨⟨hc,ho⟩,a,b,rfl⟩:=hm _ rfl;have hc1:∀i,i < k->[.rs 6 (pn c i) (pg c i)]=c i:=λi hi=>(hc i hi).symm;have ho1:∀i,i < l->ab (ow o i)=o i:=λi hi=>(ho i hi).symm;refine⟨[],aa [(0,.agg [.val (.bool (PtS.mk ⟨s1,b1,c1⟩ ⟨s2,b2,c2⟩).x.s),.val (.string (PtS.mk ⟨s1,b1,c1⟩ ⟨s2,b2,c2⟩).x.b),.val (.string (PtS.mk ⟨s1,b1,c1⟩ ⟨s2,b2,c2⟩).x.c),.val (.bool (PtS.mk ⟨s1,b1,c1⟩ ⟨s2,b2,c2⟩).y.s),.val (.string (PtS.mk ⟨s1,b1,c1⟩ ⟨s2,b2,c2⟩).y.b),.val (.string (PtS.mk ⟨s1,b1,c1⟩ ⟨s2,b2,c2⟩).y.c),.val (.bool (PtS.mk ⟨s3,b3,c3⟩ ⟨s4,b4,c4⟩).x.s),.val (.string (PtS.mk ⟨s3,b3,c3⟩ ⟨s4,b4,c4⟩).x.b),.val (.string (PtS.mk ⟨s3,b3,c3⟩ ⟨s4,b4,c4⟩).x.c),.val (.bool (PtS.mk ⟨s3,b3,c3⟩ ⟨s4,b4,c4⟩).y.s),.val (.string (PtS.mk ⟨s3,b3,c3⟩ ⟨s4,b4,c4⟩).y.b),.val (.string (PtS.mk ⟨s3,b3,c3⟩ ⟨s4,b4,c4⟩).y.c),.rs 1 k (λi=>[.rs 6 (pn c i) (pg c i)]),.rs 3 l (λi=>ab (ow o i))]),(1,.val (ao a b))] [] 0 [],Wo trivial ⟨⟨rfl,rfl,rfl,rfl,rfl,rfl,rfl,rfl,rfl,rfl,rfl,rfl,⟨rfl,rfl,hc1⟩,⟨rfl,rfl,ho1⟩,qQ⟩,rfl,qQ⟩ trivial,?_⟩;with_unfolding_all exact⟨[some 0,some 1],aa [(4,.fn (.func 171) [] [.ptr 0 0 0 0,.ptr 1 1 0 0])] [⟨31,14,0,true,false,1,λ_=>bN (PtS.mk ⟨s1,b1,c1⟩ ⟨s2,b2,c2⟩) (PtS.mk ⟨s3,b3,c3⟩ ⟨s4,b4,c4⟩) k c l o⟩,⟨117,12,1,true,false,1,λ_=>wR a b⟩] 2 [],Wo ⟨qZ ⟨rq,rq,rq,rq,rq,rq,rq,rq,rq,rq,rq,rq,⟨qW,rfl⟩,⟨qW,rfl⟩,qQ⟩,qZ ⟨rq,rq,rq,rq,rq,rq,rq,rq,rq,rq,rq,rq,qQ⟩,qQ⟩ ⟨⟨rfl,trivial,pP,pP,qQ⟩,qQ⟩ trivial,rfl,rfl⟩
 ·cases e
def Bv:List PV->Option gu
 |[.rp 14 1 h 0 0,.rp 12 1 h' 0 0]=>some ⟨some ((yW h/\D8 h')/\((cK (h 0)).le 10000/\(cL (h 0)).le 10000)/\((sA (h' 0)).le 10000/\(sB (h' 0)).le 10000)/\bZ 10000 (gK (h 0)) (gC (h 0))),(gP (cK (h 0)) (cL (h 0)) (gK (h 0)) (pn (gC (h 0))) (λi=>ai (pg (gC (h 0)) i)) (sA (h' 0)) (sB (h' 0))).length,gQ (gP (cK (h 0)) (cL (h 0)) (gK (h 0)) (pn (gC (h 0))) (λi=>ai (pg (gC (h 0)) i)) (sA (h' 0)) (sB (h' 0)))⟩
 |_=>none
def D171:Opt:={ perm:=kI [(3,(.rd 0 (.rd 1 (.rd 2 (.rd 3 (.rd 4 (.rd 5 (.rd 7 (.rd 8 (.rd 9 (.rd 10 (.rd 11 (.rd 12 (.alt 6 (.alt 13 (.alt 14 (.mk 15 .nil) (.mk 15 (.mk 14 .nil))) (.alt 14 (.alt 13 (.mk 15 .nil) (.mk 15 (.mk 13 .nil))) (.mk 15 (.alt 13 (.mk 14 .nil) (.mk 14 (.mk 13 .nil)))))) (.alt 14 (.alt 6 (.alt 13 (.mk 15 .nil) (.mk 15 (.mk 13 .nil))) (.mk 15 (.mk 6 (.mk 13 .nil)))) (.mk 15 (.alt 6 (.alt 13 (.mk 14 .nil) (.mk 14 (.mk 13 .nil))) (.mk 14 (.mk 6 (.mk 13 .nil)))))))))))))))))))),(7,(.rd 0 (.rd 1 (.rd 2 (.mk 3 (.mk 4 (.rd 5 (.rd 6 (.rd 7 .nil)))))))))] }
theorem Ea:ak D171.toOrd Tryz.f171 3=true:=by kernel_rfl
theorem f171:SeqFn Tryz.prog 171 Bv:=by
 refine SeqFn.of aj (am (l:=[(172,Bq),(208,Bm),(209,Bn),(210,Bo),(211,Bp),(139,wv),(115,mC),(173,yr),(174,Bt)]) (own:=[]) (inl:=[]) (by simp [f172,f208,f209,f210,f211,f139,f115,f173,f174]) (by simp)) Tryz.func171 D171 3 Ea rfl λargs r e=>?_;unfold Bv at e;split at e
 ·rename_i h h'
  cases e;refine⟨by simp,λhm L0=>?_⟩;obtain⟨⟨h1,h2⟩,⟨hlo,hhi⟩,⟨ha,hb⟩,hc,hk⟩:=hm _ rfl;unfold yW at h1;unfold D8 at h2;generalize cK (h 0)=lo at *
  generalize cL (h 0)=hi at *
  generalize gK (h 0)=k at *
  generalize gC (h 0)=c at *
  generalize gL (h 0)=l at *
  generalize gO (h 0)=o at *
  generalize sA (h' 0)=a at *
  generalize sB (h' 0)=b at *
  subst h1;subst h2;clear hm;unfold gP;have hlo':=hlo.mono (show 10000<=4294967296 by decide);have hhi':=hhi.mono (show 10000<=4294967296 by decide);have ha':=ha.mono (show 10000<=4294967296 by decide);have hb':=hb.mono (show 10000<=4294967296 by decide);with_unfolding_all refine⟨Nat,λj=>j<=4,λj=>aa [(0,.val (.func (.yield L0) ⟨[]⟩ ⟨[]⟩)),(1,.rp 14 1 (λ_=>bN lo hi k c l o) 0 0),(2,.rp 12 1 (λ_=>wR a b) 0 0),(15,.val (.agg ⟨[.int .i64 (-1),.func (.func 208) ⟨[]⟩ ⟨[]⟩,.int .i64 (-2),.func (.func 209) ⟨[]⟩ ⟨[]⟩,.int .i64 (-3),.func (.func 210) ⟨[]⟩ ⟨[]⟩,.int .i64 (-4),.func (.func 211) ⟨[]⟩ ⟨[]⟩]⟩)),(16,.val (goInt ((j:Nat):Int)))] [] 0 [[(0,.val (.int .i64 ((ay lo hi (pn c) (λi=>ai (pg c i)) a b (j)).length:Nat))),(1,.val (.bool false))]],λj=>4 - j,⟨0,[],Nat.zero_le _,Wo trivial ⟨rfl,⟨rfl,rfl,rfl,rfl,λ_ _=>rfl⟩,⟨rfl,rfl,rfl,rfl,λ_ _=>rfl⟩,rfl,rfl,qQ⟩ ⟨⟨rfl,rfl,qQ⟩,qQ⟩⟩,λj hj=>?_⟩
  match j,hj with
  |0,_ =>
   obtain⟨x,hx⟩:∃x,x=(aI 0 (aJ (ao lo hi)).1 (aJ (ao lo hi)).2 (aN a.v)):=⟨_,rfl⟩;obtain⟨y,hy⟩:∃y,y=(aI 0 (aJ (ao lo hi)).1 (aJ (ao lo hi)).2 (aN b.v)):=⟨_,rfl⟩;have hx1:aI 0 lo hi a=x:=by rw [hx];rfl
   have hy1:aI 0 lo hi b=y:=by rw [hy];rfl
   have qx:QB 20003 x:=by rw [<-hx1];exact fA 0 hlo hhi ha
   have qy:QB 20003 y:=by rw [<-hy1];exact fA 0 hlo hhi hb
   have hone:dM 0 lo hi a b=bif decide (an x 0<=0)&&decide (an y 0<=0) then [] else [(-((0:Nat)+1:Int),bif decide (an x 0<=0) then x / (x - y) else 0)]:=by unfold dM;rw [hx1,hy1]
   have rx:isRk 4294967296 (au (aI 0 (aJ (ao lo hi)).1 (aJ (ao lo hi)).2 (aN a.v))):=by rw [<-hx];exact qx.rk (by decide)
   have ry:isRk 4294967296 (au (aI 0 (aJ (ao lo hi)).1 (aJ (ao lo hi)).2 (aN b.v))):=by rw [<-hy];exact qy.rk (by decide)
   have rd:isRk 4294967296 (au (aF (au (aI 0 (aJ (ao lo hi)).1 (aJ (ao lo hi)).2 (aN a.v))) - aF (au (aI 0 (aJ (ao lo hi)).1 (aJ (ao lo hi)).2 (aN b.v))))):=by rw [az,az,<-hx,<-hy];exact(qx.sub qy).rk (by decide)
   have ix:decide (an (aF (au (aI 0 (aJ (ao lo hi)).1 (aJ (ao lo hi)).2 (aN a.v)))) 0<=0)=decide (an x 0<=0):=by rw [az,<-hx]
   have iy:decide (an (aF (au (aI 0 (aJ (ao lo hi)).1 (aJ (ao lo hi)).2 (aN b.v)))) 0<=0)=decide (an y 0<=0):=by rw [az,<-hy]
   have it:aF (au (aI 0 (aJ (ao lo hi)).1 (aJ (ao lo hi)).2 (aN a.v))) / aF (au (aF (au (aI 0 (aJ (ao lo hi)).1 (aJ (ao lo hi)).2 (aN a.v))) - aF (au (aI 0 (aJ (ao lo hi)).1 (aJ (ao lo hi)).2 (aN b.v)))))=x / (x - y):=by rw [az,az,az,<-hx,<-hy]
   have prA:eG 4294967296 (ao lo hi)/\isPk 4294967296 a.v:=⟨⟨lo,hi,rfl,hlo',hhi'⟩,a,rfl,ha'⟩;have prB:eG 4294967296 (ao lo hi)/\isPk 4294967296 b.v:=⟨⟨lo,hi,rfl,hlo',hhi'⟩,b,rfl,hb'⟩;have sk:decide (an (aF (au (aI 0 (aJ (ao lo hi)).1 (aJ (ao lo hi)).2 (aN a.v)))) 0<=0)=true->decide (an (aF (au (aI 0 (aJ (ao lo hi)).1 (aJ (ao lo hi)).2 (aN b.v)))) 0<=0)=true->(ay lo hi (pn c) (λi=>ai (pg c i)) a b (0)).length=(ay lo hi (pn c) (λi=>ai (pg c i)) a b (1)).length:=λh h'=>by
    rw [ix] at h;rw [iy] at h';have e:ay lo hi (pn c) (λi=>ai (pg c i)) a b (0+1)=ay lo hi (pn c) (λi=>ai (pg c i)) a b 0++dM 0 lo hi a b:=rfl;rw [e,hone,h,h'];simp
   have yl:∀fr:Rat,dM 0 lo hi a b=[(-((0:Nat)+1:Int),fr)]->(ay lo hi (pn c) (λi=>ai (pg c i)) a b (0)).length < (ay lo hi (pn c) (λi=>ai (pg c i)) a b (k+4)).length/\[PV.val (.int .i64 (-1)),PV.val (au fr)]=gQ (ay lo hi (pn c) (λi=>ai (pg c i)) a b (k+4)) (ay lo hi (pn c) (λi=>ai (pg c i)) a b (0)).length/\(ay lo hi (pn c) (λi=>ai (pg c i)) a b (0)).length+1=(ay lo hi (pn c) (λi=>ai (pg c i)) a b (1)).length:=λfr h=>by
    have h1:=fS (n:=pn c) (p:=λi=>ai (pg c i)) (show 0 < k+4 by omega) (x:=(-((0:Nat)+1:Int),fr)) (by rw [if_pos (by decide)];exact h);refine⟨h1.2.1,?_,h1.2.2.symm⟩;unfold gQ zI BX;rw [h1.1];rfl
   have fa:(decide (an x 0<=0)&&decide (an y 0<=0))=false->decide (an (aF (au (aI 0 (aJ (ao lo hi)).1 (aJ (ao lo hi)).2 (aN a.v)))) 0<=0)=true->dM 0 lo hi a b=[(-((0:Nat)+1:Int),aF (au (aI 0 (aJ (ao lo hi)).1 (aJ (ao lo hi)).2 (aN a.v))) / aF (au (aF (au (aI 0 (aJ (ao lo hi)).1 (aJ (ao lo hi)).2 (aN a.v))) - aF (au (aI 0 (aJ (ao lo hi)).1 (aJ (ao lo hi)).2 (aN b.v))))))]:=λh h'=>by
    rw [ix] at h';rw [hone,h,h',it];rfl
   have fb:(decide (an x 0<=0)&&decide (an y 0<=0))=false->decide (an (aF (au (aI 0 (aJ (ao lo hi)).1 (aJ (ao lo hi)).2 (aN a.v)))) 0<=0)=false->dM 0 lo hi a b=[(-((0:Nat)+1:Int),0)]:=λh h'=>by
    rw [ix] at h';rw [hone,h,h'];rfl
   have k1:decide (an (aF (au (aI 0 (aJ (ao lo hi)).1 (aJ (ao lo hi)).2 (aN b.v)))) 0<=0)=false->(decide (an x 0<=0)&&decide (an y 0<=0))=false:=λh=>by
    rw [iy] at h;rw [h,Bool.and_false]
   have k2:decide (an (aF (au (aI 0 (aJ (ao lo hi)).1 (aJ (ao lo hi)).2 (aN a.v)))) 0<=0) = !true->(decide (an x 0<=0)&&decide (an y 0<=0))=false:=λh=>by
    rw [ix] at h;rw [h];rfl
   clear hx hy;with_unfolding_all refine⟨λ_=>⟨⟨by decide,by decide⟩,⟨⟨prA,⟨⟨prB,⟨?_,?_⟩⟩,⟨⟨⟨prB,?_⟩,⟨prB,?_⟩⟩,⟨⟨prB,?_⟩,⟨prB,?_⟩⟩⟩⟩⟩,⟨⟨⟨prA,⟨⟨prB,?_⟩,⟨prB,?_⟩⟩⟩,⟨prA,⟨prB,?_⟩⟩⟩,⟨⟨prA,⟨⟨prB,?_⟩,⟨prB,?_⟩⟩⟩,⟨prA,⟨prB,?_⟩⟩⟩⟩⟩⟩,λhh=>absurd hh (by decide)⟩
   all_goals with_unfolding_all refine⟨rx,λh1=>⟨ry,λh2=>⟨1,[],by show 1<=4;decide,by show 4 - 1 < 4 - 0;decide,Wo trivial ⟨rfl,⟨rfl,rfl,rfl,rfl,λ_ _=>rfl⟩,⟨rfl,rfl,rfl,rfl,λ_ _=>rfl⟩,rfl,rfl,qQ⟩ ⟨⟨congrArg (λz:Nat=>PV.val (.int .i64 (z:Int))) (sk h1 h2),rfl,qQ⟩,qQ⟩⟩,λh2=>⟨rx,λh3=>⟨⟨rx,ry⟩,⟨rx,rd⟩,⟨rfl,(ay lo hi (pn c) (λi=>ai (pg c i)) a b (0)).length,rfl,(yl _ (fa (k1 h2) h3)).1,(yl _ (fa (k1 h2) h3)).2.1,⟨λe=>(nomatch e),λ_=>⟨1,[],by show 1<=4;decide,by show 4 - 1 < 4 - 0;decide,Wo trivial ⟨rfl,⟨rfl,rfl,rfl,rfl,λ_ _=>rfl⟩,⟨rfl,rfl,rfl,rfl,λ_ _=>rfl⟩,rfl,rfl,qQ⟩ ⟨⟨congrArg (λz:Nat=>PV.val (.int .i64 (z:Int))) (yl _ (fa (k1 h2) h3)).2.2,rfl,qQ⟩,qQ⟩⟩⟩,⟨λ_=>trivial,λe=>(nomatch e)⟩⟩⟩,λh3=>⟨rfl,(ay lo hi (pn c) (λi=>ai (pg c i)) a b (0)).length,rfl,(yl _ (fb (k1 h2) h3)).1,(yl _ (fb (k1 h2) h3)).2.1,⟨λe=>(nomatch e),λ_=>⟨1,[],by show 1<=4;decide,by show 4 - 1 < 4 - 0;decide,Wo trivial ⟨rfl,⟨rfl,rfl,rfl,rfl,λ_ _=>rfl⟩,⟨rfl,rfl,rfl,rfl,λ_ _=>rfl⟩,rfl,rfl,qQ⟩ ⟨⟨congrArg (λz:Nat=>PV.val (.int .i64 (z:Int))) (yl _ (fb (k1 h2) h3)).2.2,rfl,qQ⟩,qQ⟩⟩⟩,⟨λ_=>trivial,λe=>(nomatch e)⟩⟩⟩⟩,λh1=>⟨λh2=>(nomatch h2),λh2=>⟨rx,λh3=>⟨⟨rx,ry⟩,⟨rx,rd⟩,⟨rfl,(ay lo hi (pn c) (λi=>ai (pg c i)) a b (0)).length,rfl,(yl _ (fa (k2 h1) h3)).1,(yl _ (fa (k2 h1) h3)).2.1,⟨λe=>(nomatch e),λ_=>⟨1,[],by show 1<=4;decide,by show 4 - 1 < 4 - 0;decide,Wo trivial ⟨rfl,⟨rfl,rfl,rfl,rfl,λ_ _=>rfl⟩,⟨rfl,rfl,rfl,rfl,λ_ _=>rfl⟩,rfl,rfl,qQ⟩ ⟨⟨congrArg (λz:Nat=>PV.val (.int .i64 (z:Int))) (yl _ (fa (k2 h1) h3)).2.2,rfl,qQ⟩,qQ⟩⟩⟩,⟨λ_=>trivial,λe=>(nomatch e)⟩⟩⟩,λh3=>⟨rfl,(ay lo hi (pn c) (λi=>ai (pg c i)) a b (0)).length,rfl,(yl _ (fb (k2 h1) h3)).1,(yl _ (fb (k2 h1) h3)).2.1,⟨λe=>(nomatch e),λ_=>⟨1,[],by show 1<=4;decide,by show 4 - 1 < 4 - 0;decide,Wo trivial ⟨rfl,⟨rfl,rfl,rfl,rfl,λ_ _=>rfl⟩,⟨rfl,rfl,rfl,rfl,λ_ _=>rfl⟩,rfl,rfl,qQ⟩ ⟨⟨congrArg (λz:Nat=>PV.val (.int .i64 (z:Int))) (yl _ (fb (k2 h1) h3)).2.2,rfl,qQ⟩,qQ⟩⟩⟩,⟨λ_=>trivial,λe=>(nomatch e)⟩⟩⟩⟩⟩
  |1,_ =>
   obtain⟨x,hx⟩:∃x,x=(aI 1 (aJ (ao lo hi)).1 (aJ (ao lo hi)).2 (aN a.v)):=⟨_,rfl⟩;obtain⟨y,hy⟩:∃y,y=(aI 1 (aJ (ao lo hi)).1 (aJ (ao lo hi)).2 (aN b.v)):=⟨_,rfl⟩;have hx1:aI 1 lo hi a=x:=by rw [hx];rfl
   have hy1:aI 1 lo hi b=y:=by rw [hy];rfl
   have qx:QB 20003 x:=by rw [<-hx1];exact fA 1 hlo hhi ha
   have qy:QB 20003 y:=by rw [<-hy1];exact fA 1 hlo hhi hb
   have hone:dM 1 lo hi a b=bif decide (an x 0<=0)&&decide (an y 0<=0) then [] else [(-((1:Nat)+1:Int),bif decide (an x 0<=0) then x / (x - y) else 0)]:=by unfold dM;rw [hx1,hy1]
   have rx:isRk 4294967296 (au (aI 1 (aJ (ao lo hi)).1 (aJ (ao lo hi)).2 (aN a.v))):=by rw [<-hx];exact qx.rk (by decide)
   have ry:isRk 4294967296 (au (aI 1 (aJ (ao lo hi)).1 (aJ (ao lo hi)).2 (aN b.v))):=by rw [<-hy];exact qy.rk (by decide)
   have rd:isRk 4294967296 (au (aF (au (aI 1 (aJ (ao lo hi)).1 (aJ (ao lo hi)).2 (aN a.v))) - aF (au (aI 1 (aJ (ao lo hi)).1 (aJ (ao lo hi)).2 (aN b.v))))):=by rw [az,az,<-hx,<-hy];exact(qx.sub qy).rk (by decide)
   have ix:decide (an (aF (au (aI 1 (aJ (ao lo hi)).1 (aJ (ao lo hi)).2 (aN a.v)))) 0<=0)=decide (an x 0<=0):=by rw [az,<-hx]
   have iy:decide (an (aF (au (aI 1 (aJ (ao lo hi)).1 (aJ (ao lo hi)).2 (aN b.v)))) 0<=0)=decide (an y 0<=0):=by rw [az,<-hy]
   have it:aF (au (aI 1 (aJ (ao lo hi)).1 (aJ (ao lo hi)).2 (aN a.v))) / aF (au (aF (au (aI 1 (aJ (ao lo hi)).1 (aJ (ao lo hi)).2 (aN a.v))) - aF (au (aI 1 (aJ (ao lo hi)).1 (aJ (ao lo hi)).2 (aN b.v)))))=x / (x - y):=by rw [az,az,az,<-hx,<-hy]
   have prA:eG 4294967296 (ao lo hi)/\isPk 4294967296 a.v:=⟨⟨lo,hi,rfl,hlo',hhi'⟩,a,rfl,ha'⟩;have prB:eG 4294967296 (ao lo hi)/\isPk 4294967296 b.v:=⟨⟨lo,hi,rfl,hlo',hhi'⟩,b,rfl,hb'⟩;have sk:decide (an (aF (au (aI 1 (aJ (ao lo hi)).1 (aJ (ao lo hi)).2 (aN a.v)))) 0<=0)=true->decide (an (aF (au (aI 1 (aJ (ao lo hi)).1 (aJ (ao lo hi)).2 (aN b.v)))) 0<=0)=true->(ay lo hi (pn c) (λi=>ai (pg c i)) a b (1)).length=(ay lo hi (pn c) (λi=>ai (pg c i)) a b (2)).length:=λh h'=>by
    rw [ix] at h;rw [iy] at h';have e:ay lo hi (pn c) (λi=>ai (pg c i)) a b (1+1)=ay lo hi (pn c) (λi=>ai (pg c i)) a b 1++dM 1 lo hi a b:=rfl;rw [e,hone,h,h'];simp
   have yl:∀fr:Rat,dM 1 lo hi a b=[(-((1:Nat)+1:Int),fr)]->(ay lo hi (pn c) (λi=>ai (pg c i)) a b (1)).length < (ay lo hi (pn c) (λi=>ai (pg c i)) a b (k+4)).length/\[PV.val (.int .i64 (-2)),PV.val (au fr)]=gQ (ay lo hi (pn c) (λi=>ai (pg c i)) a b (k+4)) (ay lo hi (pn c) (λi=>ai (pg c i)) a b (1)).length/\(ay lo hi (pn c) (λi=>ai (pg c i)) a b (1)).length+1=(ay lo hi (pn c) (λi=>ai (pg c i)) a b (2)).length:=λfr h=>by
    have h1:=fS (n:=pn c) (p:=λi=>ai (pg c i)) (show 1 < k+4 by omega) (x:=(-((1:Nat)+1:Int),fr)) (by rw [if_pos (by decide)];exact h);refine⟨h1.2.1,?_,h1.2.2.symm⟩;unfold gQ zI BX;rw [h1.1];rfl
   have fa:(decide (an x 0<=0)&&decide (an y 0<=0))=false->decide (an (aF (au (aI 1 (aJ (ao lo hi)).1 (aJ (ao lo hi)).2 (aN a.v)))) 0<=0)=true->dM 1 lo hi a b=[(-((1:Nat)+1:Int),aF (au (aI 1 (aJ (ao lo hi)).1 (aJ (ao lo hi)).2 (aN a.v))) / aF (au (aF (au (aI 1 (aJ (ao lo hi)).1 (aJ (ao lo hi)).2 (aN a.v))) - aF (au (aI 1 (aJ (ao lo hi)).1 (aJ (ao lo hi)).2 (aN b.v))))))]:=λh h'=>by
    rw [ix] at h';rw [hone,h,h',it];rfl
   have fb:(decide (an x 0<=0)&&decide (an y 0<=0))=false->decide (an (aF (au (aI 1 (aJ (ao lo hi)).1 (aJ (ao lo hi)).2 (aN a.v)))) 0<=0)=false->dM 1 lo hi a b=[(-((1:Nat)+1:Int),0)]:=λh h'=>by
    rw [ix] at h';rw [hone,h,h'];rfl
   have k1:decide (an (aF (au (aI 1 (aJ (ao lo hi)).1 (aJ (ao lo hi)).2 (aN b.v)))) 0<=0)=false->(decide (an x 0<=0)&&decide (an y 0<=0))=false:=λh=>by
    rw [iy] at h;rw [h,Bool.and_false]
   have k2:decide (an (aF (au (aI 1 (aJ (ao lo hi)).1 (aJ (ao lo hi)).2 (aN a.v)))) 0<=0) = !true->(decide (an x 0<=0)&&decide (an y 0<=0))=false:=λh=>by
    rw [ix] at h;rw [h];rfl
   clear hx hy;with_unfolding_all refine⟨λ_=>⟨⟨by decide,by decide⟩,⟨⟨prA,⟨⟨prB,⟨?_,?_⟩⟩,⟨⟨⟨prB,?_⟩,⟨prB,?_⟩⟩,⟨⟨prB,?_⟩,⟨prB,?_⟩⟩⟩⟩⟩,⟨⟨⟨prA,⟨⟨prB,?_⟩,⟨prB,?_⟩⟩⟩,⟨prA,⟨prB,?_⟩⟩⟩,⟨⟨prA,⟨⟨prB,?_⟩,⟨prB,?_⟩⟩⟩,⟨prA,⟨prB,?_⟩⟩⟩⟩⟩⟩,λhh=>absurd hh (by decide)⟩
   all_goals with_unfolding_all refine⟨rx,λh1=>⟨ry,λh2=>⟨2,[],by show 2<=4;decide,by show 4 - 2 < 4 - 1;decide,Wo trivial ⟨rfl,⟨rfl,rfl,rfl,rfl,λ_ _=>rfl⟩,⟨rfl,rfl,rfl,rfl,λ_ _=>rfl⟩,rfl,rfl,qQ⟩ ⟨⟨congrArg (λz:Nat=>PV.val (.int .i64 (z:Int))) (sk h1 h2),rfl,qQ⟩,qQ⟩⟩,λh2=>⟨rx,λh3=>⟨⟨rx,ry⟩,⟨rx,rd⟩,⟨rfl,(ay lo hi (pn c) (λi=>ai (pg c i)) a b (1)).length,rfl,(yl _ (fa (k1 h2) h3)).1,(yl _ (fa (k1 h2) h3)).2.1,⟨λe=>(nomatch e),λ_=>⟨2,[],by show 2<=4;decide,by show 4 - 2 < 4 - 1;decide,Wo trivial ⟨rfl,⟨rfl,rfl,rfl,rfl,λ_ _=>rfl⟩,⟨rfl,rfl,rfl,rfl,λ_ _=>rfl⟩,rfl,rfl,qQ⟩ ⟨⟨congrArg (λz:Nat=>PV.val (.int .i64 (z:Int))) (yl _ (fa (k1 h2) h3)).2.2,rfl,qQ⟩,qQ⟩⟩⟩,⟨λ_=>trivial,λe=>(nomatch e)⟩⟩⟩,λh3=>⟨rfl,(ay lo hi (pn c) (λi=>ai (pg c i)) a b (1)).length,rfl,(yl _ (fb (k1 h2) h3)).1,(yl _ (fb (k1 h2) h3)).2.1,⟨λe=>(nomatch e),λ_=>⟨2,[],by show 2<=4;decide,by show 4 - 2 < 4 - 1;decide,Wo trivial ⟨rfl,⟨rfl,rfl,rfl,rfl,λ_ _=>rfl⟩,⟨rfl,rfl,rfl,rfl,λ_ _=>rfl⟩,rfl,rfl,qQ⟩ ⟨⟨congrArg (λz:Nat=>PV.val (.int .i64 (z:Int))) (yl _ (fb (k1 h2) h3)).2.2,rfl,qQ⟩,qQ⟩⟩⟩,⟨λ_=>trivial,λe=>(nomatch e)⟩⟩⟩⟩,λh1=>⟨λh2=>(nomatch h2),λh2=>⟨rx,λh3=>⟨⟨rx,ry⟩,⟨rx,rd⟩,⟨rfl,(ay lo hi (pn c) (λi=>ai (pg c i)) a b (1)).length,rfl,(yl _ (fa (k2 h1) h3)).1,(yl _ (fa (k2 h1) h3)).2.1,⟨λe=>(nomatch e),λ_=>⟨2,[],by show 2<=4;decide,by show 4 - 2 < 4 - 1;decide,Wo trivial ⟨rfl,⟨rfl,rfl,rfl,rfl,λ_ _=>rfl⟩,⟨rfl,rfl,rfl,rfl,λ_ _=>rfl⟩,rfl,rfl,qQ⟩ ⟨⟨congrArg (λz:Nat=>PV.val (.int .i64 (z:Int))) (yl _ (fa (k2 h1) h3)).2.2,rfl,qQ⟩,qQ⟩⟩⟩,⟨λ_=>trivial,λe=>(nomatch e)⟩⟩⟩,λh3=>⟨rfl,(ay lo hi (pn c) (λi=>ai (pg c i)) a b (1)).length,rfl,(yl _ (fb (k2 h1) h3)).1,(yl _ (fb (k2 h1) h3)).2.1,⟨λe=>(nomatch e),λ_=>⟨2,[],by show 2<=4;decide,by show 4 - 2 < 4 - 1;decide,Wo trivial ⟨rfl,⟨rfl,rfl,rfl,rfl,λ_ _=>rfl⟩,⟨rfl,rfl,rfl,rfl,λ_ _=>rfl⟩,rfl,rfl,qQ⟩ ⟨⟨congrArg (λz:Nat=>PV.val (.int .i64 (z:Int))) (yl _ (fb (k2 h1) h3)).2.2,rfl,qQ⟩,qQ⟩⟩⟩,⟨λ_=>trivial,λe=>(nomatch e)⟩⟩⟩⟩⟩
  |2,_ =>
   obtain⟨x,hx⟩:∃x,x=(aI 2 (aJ (ao lo hi)).1 (aJ (ao lo hi)).2 (aN a.v)):=⟨_,rfl⟩;obtain⟨y,hy⟩:∃y,y=(aI 2 (aJ (ao lo hi)).1 (aJ (ao lo hi)).2 (aN b.v)):=⟨_,rfl⟩;have hx1:aI 2 lo hi a=x:=by rw [hx];rfl
   have hy1:aI 2 lo hi b=y:=by rw [hy];rfl
   have qx:QB 20003 x:=by rw [<-hx1];exact fA 2 hlo hhi ha
   have qy:QB 20003 y:=by rw [<-hy1];exact fA 2 hlo hhi hb
   have hone:dM 2 lo hi a b=bif decide (an x 0<=0)&&decide (an y 0<=0) then [] else [(-((2:Nat)+1:Int),bif decide (an x 0<=0) then x / (x - y) else 0)]:=by unfold dM;rw [hx1,hy1]
   have rx:isRk 4294967296 (au (aI 2 (aJ (ao lo hi)).1 (aJ (ao lo hi)).2 (aN a.v))):=by rw [<-hx];exact qx.rk (by decide)
   have ry:isRk 4294967296 (au (aI 2 (aJ (ao lo hi)).1 (aJ (ao lo hi)).2 (aN b.v))):=by rw [<-hy];exact qy.rk (by decide)
   have rd:isRk 4294967296 (au (aF (au (aI 2 (aJ (ao lo hi)).1 (aJ (ao lo hi)).2 (aN a.v))) - aF (au (aI 2 (aJ (ao lo hi)).1 (aJ (ao lo hi)).2 (aN b.v))))):=by rw [az,az,<-hx,<-hy];exact(qx.sub qy).rk (by decide)
   have ix:decide (an (aF (au (aI 2 (aJ (ao lo hi)).1 (aJ (ao lo hi)).2 (aN a.v)))) 0<=0)=decide (an x 0<=0):=by rw [az,<-hx]
   have iy:decide (an (aF (au (aI 2 (aJ (ao lo hi)).1 (aJ (ao lo hi)).2 (aN b.v)))) 0<=0)=decide (an y 0<=0):=by rw [az,<-hy]
   have it:aF (au (aI 2 (aJ (ao lo hi)).1 (aJ (ao lo hi)).2 (aN a.v))) / aF (au (aF (au (aI 2 (aJ (ao lo hi)).1 (aJ (ao lo hi)).2 (aN a.v))) - aF (au (aI 2 (aJ (ao lo hi)).1 (aJ (ao lo hi)).2 (aN b.v)))))=x / (x - y):=by rw [az,az,az,<-hx,<-hy]
   have prA:eG 4294967296 (ao lo hi)/\isPk 4294967296 a.v:=⟨⟨lo,hi,rfl,hlo',hhi'⟩,a,rfl,ha'⟩;have prB:eG 4294967296 (ao lo hi)/\isPk 4294967296 b.v:=⟨⟨lo,hi,rfl,hlo',hhi'⟩,b,rfl,hb'⟩;have sk:decide (an (aF (au (aI 2 (aJ (ao lo hi)).1 (aJ (ao lo hi)).2 (aN a.v)))) 0<=0)=true->decide (an (aF (au (aI 2 (aJ (ao lo hi)).1 (aJ (ao lo hi)).2 (aN b.v)))) 0<=0)=true->(ay lo hi (pn c) (λi=>ai (pg c i)) a b (2)).length=(ay lo hi (pn c) (λi=>ai (pg c i)) a b (3)).length:=λh h'=>by
    rw [ix] at h;rw [iy] at h';have e:ay lo hi (pn c) (λi=>ai (pg c i)) a b (2+1)=ay lo hi (pn c) (λi=>ai (pg c i)) a b 2++dM 2 lo hi a b:=rfl;rw [e,hone,h,h'];simp
   have yl:∀fr:Rat,dM 2 lo hi a b=[(-((2:Nat)+1:Int),fr)]->(ay lo hi (pn c) (λi=>ai (pg c i)) a b (2)).length < (ay lo hi (pn c) (λi=>ai (pg c i)) a b (k+4)).length/\[PV.val (.int .i64 (-3)),PV.val (au fr)]=gQ (ay lo hi (pn c) (λi=>ai (pg c i)) a b (k+4)) (ay lo hi (pn c) (λi=>ai (pg c i)) a b (2)).length/\(ay lo hi (pn c) (λi=>ai (pg c i)) a b (2)).length+1=(ay lo hi (pn c) (λi=>ai (pg c i)) a b (3)).length:=λfr h=>by
    have h1:=fS (n:=pn c) (p:=λi=>ai (pg c i)) (show 2 < k+4 by omega) (x:=(-((2:Nat)+1:Int),fr)) (by rw [if_pos (by decide)];exact h);refine⟨h1.2.1,?_,h1.2.2.symm⟩;unfold gQ zI BX;rw [h1.1];rfl
   have fa:(decide (an x 0<=0)&&decide (an y 0<=0))=false->decide (an (aF (au (aI 2 (aJ (ao lo hi)).1 (aJ (ao lo hi)).2 (aN a.v)))) 0<=0)=true->dM 2 lo hi a b=[(-((2:Nat)+1:Int),aF (au (aI 2 (aJ (ao lo hi)).1 (aJ (ao lo hi)).2 (aN a.v))) / aF (au (aF (au (aI 2 (aJ (ao lo hi)).1 (aJ (ao lo hi)).2 (aN a.v))) - aF (au (aI 2 (aJ (ao lo hi)).1 (aJ (ao lo hi)).2 (aN b.v))))))]:=λh h'=>by
    rw [ix] at h';rw [hone,h,h',it];rfl
   have fb:(decide (an x 0<=0)&&decide (an y 0<=0))=false->decide (an (aF (au (aI 2 (aJ (ao lo hi)).1 (aJ (ao lo hi)).2 (aN a.v)))) 0<=0)=false->dM 2 lo hi a b=[(-((2:Nat)+1:Int),0)]:=λh h'=>by
    rw [ix] at h';rw [hone,h,h'];rfl
   have k1:decide (an (aF (au (aI 2 (aJ (ao lo hi)).1 (aJ (ao lo hi)).2 (aN b.v)))) 0<=0)=false->(decide (an x 0<=0)&&decide (an y 0<=0))=false:=λh=>by
    rw [iy] at h;rw [h,Bool.and_false]
   have k2:decide (an (aF (au (aI 2 (aJ (ao lo hi)).1 (aJ (ao lo hi)).2 (aN a.v)))) 0<=0) = !true->(decide (an x 0<=0)&&decide (an y 0<=0))=false:=λh=>by
    rw [ix] at h;rw [h];rfl
   clear hx hy;with_unfolding_all refine⟨λ_=>⟨⟨by decide,by decide⟩,⟨⟨prA,⟨⟨prB,⟨?_,?_⟩⟩,⟨⟨⟨prB,?_⟩,⟨prB,?_⟩⟩,⟨⟨prB,?_⟩,⟨prB,?_⟩⟩⟩⟩⟩,⟨⟨⟨prA,⟨⟨prB,?_⟩,⟨prB,?_⟩⟩⟩,⟨prA,⟨prB,?_⟩⟩⟩,⟨⟨prA,⟨⟨prB,?_⟩,⟨prB,?_⟩⟩⟩,⟨prA,⟨prB,?_⟩⟩⟩⟩⟩⟩,λhh=>absurd hh (by decide)⟩
   all_goals with_unfolding_all refine⟨rx,λh1=>⟨ry,λh2=>⟨3,[],by show 3<=4;decide,by show 4 - 3 < 4 - 2;decide,Wo trivial ⟨rfl,⟨rfl,rfl,rfl,rfl,λ_ _=>rfl⟩,⟨rfl,rfl,rfl,rfl,λ_ _=>rfl⟩,rfl,rfl,qQ⟩ ⟨⟨congrArg (λz:Nat=>PV.val (.int .i64 (z:Int))) (sk h1 h2),rfl,qQ⟩,qQ⟩⟩,λh2=>⟨rx,λh3=>⟨⟨rx,ry⟩,⟨rx,rd⟩,⟨rfl,(ay lo hi (pn c) (λi=>ai (pg c i)) a b (2)).length,rfl,(yl _ (fa (k1 h2) h3)).1,(yl _ (fa (k1 h2) h3)).2.1,⟨λe=>(nomatch e),λ_=>⟨3,[],by show 3<=4;decide,by show 4 - 3 < 4 - 2;decide,Wo trivial ⟨rfl,⟨rfl,rfl,rfl,rfl,λ_ _=>rfl⟩,⟨rfl,rfl,rfl,rfl,λ_ _=>rfl⟩,rfl,rfl,qQ⟩ ⟨⟨congrArg (λz:Nat=>PV.val (.int .i64 (z:Int))) (yl _ (fa (k1 h2) h3)).2.2,rfl,qQ⟩,qQ⟩⟩⟩,⟨λ_=>trivial,λe=>(nomatch e)⟩⟩⟩,λh3=>⟨rfl,(ay lo hi (pn c) (λi=>ai (pg c i)) a b (2)).length,rfl,(yl _ (fb (k1 h2) h3)).1,(yl _ (fb (k1 h2) h3)).2.1,⟨λe=>(nomatch e),λ_=>⟨3,[],by show 3<=4;decide,by show 4 - 3 < 4 - 2;decide,Wo trivial ⟨rfl,⟨rfl,rfl,rfl,rfl,λ_ _=>rfl⟩,⟨rfl,rfl,rfl,rfl,λ_ _=>rfl⟩,rfl,rfl,qQ⟩ ⟨⟨congrArg (λz:Nat=>PV.val (.int .i64 (z:Int))) (yl _ (fb (k1 h2) h3)).2.2,rfl,qQ⟩,qQ⟩⟩⟩,⟨λ_=>trivial,λe=>(nomatch e)⟩⟩⟩⟩,λh1=>⟨λh2=>(nomatch h2),λh2=>⟨rx,λh3=>⟨⟨rx,ry⟩,⟨rx,rd⟩,⟨rfl,(ay lo hi (pn c) (λi=>ai (pg c i)) a b (2)).length,rfl,(yl _ (fa (k2 h1) h3)).1,(yl _ (fa (k2 h1) h3)).2.1,⟨λe=>(nomatch e),λ_=>⟨3,[],by show 3<=4;decide,by show 4 - 3 < 4 - 2;decide,Wo trivial ⟨rfl,⟨rfl,rfl,rfl,rfl,λ_ _=>rfl⟩,⟨rfl,rfl,rfl,rfl,λ_ _=>rfl⟩,rfl,rfl,qQ⟩ ⟨⟨congrArg (λz:Nat=>PV.val (.int .i64 (z:Int))) (yl _ (fa (k2 h1) h3)).2.2,rfl,qQ⟩,qQ⟩⟩⟩,⟨λ_=>trivial,λe=>(nomatch e)⟩⟩⟩,λh3=>⟨rfl,(ay lo hi (pn c) (λi=>ai (pg c i)) a b (2)).length,rfl,(yl _ (fb (k2 h1) h3)).1,(yl _ (fb (k2 h1) h3)).2.1,⟨λe=>(nomatch e),λ_=>⟨3,[],by show 3<=4;decide,by show 4 - 3 < 4 - 2;decide,Wo trivial ⟨rfl,⟨rfl,rfl,rfl,rfl,λ_ _=>rfl⟩,⟨rfl,rfl,rfl,rfl,λ_ _=>rfl⟩,rfl,rfl,qQ⟩ ⟨⟨congrArg (λz:Nat=>PV.val (.int .i64 (z:Int))) (yl _ (fb (k2 h1) h3)).2.2,rfl,qQ⟩,qQ⟩⟩⟩,⟨λ_=>trivial,λe=>(nomatch e)⟩⟩⟩⟩⟩
  |3,_ =>
   obtain⟨x,hx⟩:∃x,x=(aI 3 (aJ (ao lo hi)).1 (aJ (ao lo hi)).2 (aN a.v)):=⟨_,rfl⟩;obtain⟨y,hy⟩:∃y,y=(aI 3 (aJ (ao lo hi)).1 (aJ (ao lo hi)).2 (aN b.v)):=⟨_,rfl⟩;have hx1:aI 3 lo hi a=x:=by rw [hx];rfl
   have hy1:aI 3 lo hi b=y:=by rw [hy];rfl
   have qx:QB 20003 x:=by rw [<-hx1];exact fA 3 hlo hhi ha
   have qy:QB 20003 y:=by rw [<-hy1];exact fA 3 hlo hhi hb
   have hone:dM 3 lo hi a b=bif decide (an x 0<=0)&&decide (an y 0<=0) then [] else [(-((3:Nat)+1:Int),bif decide (an x 0<=0) then x / (x - y) else 0)]:=by unfold dM;rw [hx1,hy1]
   have rx:isRk 4294967296 (au (aI 3 (aJ (ao lo hi)).1 (aJ (ao lo hi)).2 (aN a.v))):=by rw [<-hx];exact qx.rk (by decide)
   have ry:isRk 4294967296 (au (aI 3 (aJ (ao lo hi)).1 (aJ (ao lo hi)).2 (aN b.v))):=by rw [<-hy];exact qy.rk (by decide)
   have rd:isRk 4294967296 (au (aF (au (aI 3 (aJ (ao lo hi)).1 (aJ (ao lo hi)).2 (aN a.v))) - aF (au (aI 3 (aJ (ao lo hi)).1 (aJ (ao lo hi)).2 (aN b.v))))):=by rw [az,az,<-hx,<-hy];exact(qx.sub qy).rk (by decide)
   have ix:decide (an (aF (au (aI 3 (aJ (ao lo hi)).1 (aJ (ao lo hi)).2 (aN a.v)))) 0<=0)=decide (an x 0<=0):=by rw [az,<-hx]
   have iy:decide (an (aF (au (aI 3 (aJ (ao lo hi)).1 (aJ (ao lo hi)).2 (aN b.v)))) 0<=0)=decide (an y 0<=0):=by rw [az,<-hy]
   have it:aF (au (aI 3 (aJ (ao lo hi)).1 (aJ (ao lo hi)).2 (aN a.v))) / aF (au (aF (au (aI 3 (aJ (ao lo hi)).1 (aJ (ao lo hi)).2 (aN a.v))) - aF (au (aI 3 (aJ (ao lo hi)).1 (aJ (ao lo hi)).2 (aN b.v)))))=x / (x - y):=by rw [az,az,az,<-hx,<-hy]
   have prA:eG 4294967296 (ao lo hi)/\isPk 4294967296 a.v:=⟨⟨lo,hi,rfl,hlo',hhi'⟩,a,rfl,ha'⟩;have prB:eG 4294967296 (ao lo hi)/\isPk 4294967296 b.v:=⟨⟨lo,hi,rfl,hlo',hhi'⟩,b,rfl,hb'⟩;have sk:decide (an (aF (au (aI 3 (aJ (ao lo hi)).1 (aJ (ao lo hi)).2 (aN a.v)))) 0<=0)=true->decide (an (aF (au (aI 3 (aJ (ao lo hi)).1 (aJ (ao lo hi)).2 (aN b.v)))) 0<=0)=true->(ay lo hi (pn c) (λi=>ai (pg c i)) a b (3)).length=(ay lo hi (pn c) (λi=>ai (pg c i)) a b (4)).length:=λh h'=>by
    rw [ix] at h;rw [iy] at h';have e:ay lo hi (pn c) (λi=>ai (pg c i)) a b (3+1)=ay lo hi (pn c) (λi=>ai (pg c i)) a b 3++dM 3 lo hi a b:=rfl;rw [e,hone,h,h'];simp
   have yl:∀fr:Rat,dM 3 lo hi a b=[(-((3:Nat)+1:Int),fr)]->(ay lo hi (pn c) (λi=>ai (pg c i)) a b (3)).length < (ay lo hi (pn c) (λi=>ai (pg c i)) a b (k+4)).length/\[PV.val (.int .i64 (-4)),PV.val (au fr)]=gQ (ay lo hi (pn c) (λi=>ai (pg c i)) a b (k+4)) (ay lo hi (pn c) (λi=>ai (pg c i)) a b (3)).length/\(ay lo hi (pn c) (λi=>ai (pg c i)) a b (3)).length+1=(ay lo hi (pn c) (λi=>ai (pg c i)) a b (4)).length:=λfr h=>by
    have h1:=fS (n:=pn c) (p:=λi=>ai (pg c i)) (show 3 < k+4 by omega) (x:=(-((3:Nat)+1:Int),fr)) (by rw [if_pos (by decide)];exact h);refine⟨h1.2.1,?_,h1.2.2.symm⟩;unfold gQ zI BX;rw [h1.1];rfl
   have fa:(decide (an x 0<=0)&&decide (an y 0<=0))=false->decide (an (aF (au (aI 3 (aJ (ao lo hi)).1 (aJ (ao lo hi)).2 (aN a.v)))) 0<=0)=true->dM 3 lo hi a b=[(-((3:Nat)+1:Int),aF (au (aI 3 (aJ (ao lo hi)).1 (aJ (ao lo hi)).2 (aN a.v))) / aF (au (aF (au (aI 3 (aJ (ao lo hi)).1 (aJ (ao lo hi)).2 (aN a.v))) - aF (au (aI 3 (aJ (ao lo hi)).1 (aJ (ao lo hi)).2 (aN b.v))))))]:=λh h'=>by
    rw [ix] at h';rw [hone,h,h',it];rfl
   have fb:(decide (an x 0<=0)&&decide (an y 0<=0))=false->decide (an (aF (au (aI 3 (aJ (ao lo hi)).1 (aJ (ao lo hi)).2 (aN a.v)))) 0<=0)=false->dM 3 lo hi a b=[(-((3:Nat)+1:Int),0)]:=λh h'=>by
    rw [ix] at h';rw [hone,h,h'];rfl
   have k1:decide (an (aF (au (aI 3 (aJ (ao lo hi)).1 (aJ (ao lo hi)).2 (aN b.v)))) 0<=0)=false->(decide (an x 0<=0)&&decide (an y 0<=0))=false:=λh=>by
    rw [iy] at h;rw [h,Bool.and_false]
   have k2:decide (an (aF (au (aI 3 (aJ (ao lo hi)).1 (aJ (ao lo hi)).2 (aN a.v)))) 0<=0) = !true->(decide (an x 0<=0)&&decide (an y 0<=0))=false:=λh=>by
    rw [ix] at h;rw [h];rfl
   clear hx hy;with_unfolding_all refine⟨λ_=>⟨⟨by decide,by decide⟩,⟨⟨prA,⟨⟨prB,⟨?_,?_⟩⟩,⟨⟨⟨prB,?_⟩,⟨prB,?_⟩⟩,⟨⟨prB,?_⟩,⟨prB,?_⟩⟩⟩⟩⟩,⟨⟨⟨prA,⟨⟨prB,?_⟩,⟨prB,?_⟩⟩⟩,⟨prA,⟨prB,?_⟩⟩⟩,⟨⟨prA,⟨⟨prB,?_⟩,⟨prB,?_⟩⟩⟩,⟨prA,⟨prB,?_⟩⟩⟩⟩⟩⟩,λhh=>absurd hh (by decide)⟩
   all_goals with_unfolding_all refine⟨rx,λh1=>⟨ry,λh2=>⟨4,[],by show 4<=4;decide,by show 4 - 4 < 4 - 3;decide,Wo trivial ⟨rfl,⟨rfl,rfl,rfl,rfl,λ_ _=>rfl⟩,⟨rfl,rfl,rfl,rfl,λ_ _=>rfl⟩,rfl,rfl,qQ⟩ ⟨⟨congrArg (λz:Nat=>PV.val (.int .i64 (z:Int))) (sk h1 h2),rfl,qQ⟩,qQ⟩⟩,λh2=>⟨rx,λh3=>⟨⟨rx,ry⟩,⟨rx,rd⟩,⟨rfl,(ay lo hi (pn c) (λi=>ai (pg c i)) a b (3)).length,rfl,(yl _ (fa (k1 h2) h3)).1,(yl _ (fa (k1 h2) h3)).2.1,⟨λe=>(nomatch e),λ_=>⟨4,[],by show 4<=4;decide,by show 4 - 4 < 4 - 3;decide,Wo trivial ⟨rfl,⟨rfl,rfl,rfl,rfl,λ_ _=>rfl⟩,⟨rfl,rfl,rfl,rfl,λ_ _=>rfl⟩,rfl,rfl,qQ⟩ ⟨⟨congrArg (λz:Nat=>PV.val (.int .i64 (z:Int))) (yl _ (fa (k1 h2) h3)).2.2,rfl,qQ⟩,qQ⟩⟩⟩,⟨λ_=>trivial,λe=>(nomatch e)⟩⟩⟩,λh3=>⟨rfl,(ay lo hi (pn c) (λi=>ai (pg c i)) a b (3)).length,rfl,(yl _ (fb (k1 h2) h3)).1,(yl _ (fb (k1 h2) h3)).2.1,⟨λe=>(nomatch e),λ_=>⟨4,[],by show 4<=4;decide,by show 4 - 4 < 4 - 3;decide,Wo trivial ⟨rfl,⟨rfl,rfl,rfl,rfl,λ_ _=>rfl⟩,⟨rfl,rfl,rfl,rfl,λ_ _=>rfl⟩,rfl,rfl,qQ⟩ ⟨⟨congrArg (λz:Nat=>PV.val (.int .i64 (z:Int))) (yl _ (fb (k1 h2) h3)).2.2,rfl,qQ⟩,qQ⟩⟩⟩,⟨λ_=>trivial,λe=>(nomatch e)⟩⟩⟩⟩,λh1=>⟨λh2=>(nomatch h2),λh2=>⟨rx,λh3=>⟨⟨rx,ry⟩,⟨rx,rd⟩,⟨rfl,(ay lo hi (pn c) (λi=>ai (pg c i)) a b (3)).length,rfl,(yl _ (fa (k2 h1) h3)).1,(yl _ (fa (k2 h1) h3)).2.1,⟨λe=>(nomatch e),λ_=>⟨4,[],by show 4<=4;decide,by show 4 - 4 < 4 - 3;decide,Wo trivial ⟨rfl,⟨rfl,rfl,rfl,rfl,λ_ _=>rfl⟩,⟨rfl,rfl,rfl,rfl,λ_ _=>rfl⟩,rfl,rfl,qQ⟩ ⟨⟨congrArg (λz:Nat=>PV.val (.int .i64 (z:Int))) (yl _ (fa (k2 h1) h3)).2.2,rfl,qQ⟩,qQ⟩⟩⟩,⟨λ_=>trivial,λe=>(nomatch e)⟩⟩⟩,λh3=>⟨rfl,(ay lo hi (pn c) (λi=>ai (pg c i)) a b (3)).length,rfl,(yl _ (fb (k2 h1) h3)).1,(yl _ (fb (k2 h1) h3)).2.1,⟨λe=>(nomatch e),λ_=>⟨4,[],by show 4<=4;decide,by show 4 - 4 < 4 - 3;decide,Wo trivial ⟨rfl,⟨rfl,rfl,rfl,rfl,λ_ _=>rfl⟩,⟨rfl,rfl,rfl,rfl,λ_ _=>rfl⟩,rfl,rfl,qQ⟩ ⟨⟨congrArg (λz:Nat=>PV.val (.int .i64 (z:Int))) (yl _ (fb (k2 h1) h3)).2.2,rfl,qQ⟩,qQ⟩⟩⟩,⟨λ_=>trivial,λe=>(nomatch e)⟩⟩⟩⟩⟩
  |4,_ =>
   have h44:decide (((4:Nat):Int) < 4)=true->False:=λh=>absurd h (by decide);with_unfolding_all refine⟨λh=>h44 h,λ_=>⟨Nat,λi=>i<=k,λi=>aa [(0,.val (.func (.yield L0) ⟨[]⟩ ⟨[]⟩)),(1,.rp 14 1 (λ_=>bN lo hi k c l o) 0 0),(2,.rp 12 1 (λ_=>wR a b) 0 0),(60,.rs 1 k (λi=>[.rs 6 (pn c i) (pg c i)])),(61,.val (goInt k)),(62,.val (goInt i))] [] 0 [[(0,.val (.int .i64 ((ay lo hi (pn c) (λi=>ai (pg c i)) a b (i+4)).length:Nat))),(1,.val (.bool false))]],λi=>k - i,⟨0,[],Nat.zero_le _,Wo trivial ⟨rfl,⟨rfl,rfl,rfl,rfl,λ_ _=>rfl⟩,⟨rfl,rfl,rfl,rfl,λ_ _=>rfl⟩,qW,rfl,rfl,qQ⟩ ⟨⟨rfl,rfl,qQ⟩,qQ⟩⟩,λi hik=>?_⟩⟩
   have hX:(cW (pn c ((i:Nat):Int).toNat) (ai (pg c ((i:Nat):Int).toNat)) (aJ (ao a b)).1 (aJ (ao a b)).2)=cW (pn c i) (ai (pg c i)) a b:=rfl;have sk:(cW (pn c ((i:Nat):Int).toNat) (ai (pg c ((i:Nat):Int).toNat)) (aJ (ao a b)).1 (aJ (ao a b)).2).isSome=false->(ay lo hi (pn c) (λi=>ai (pg c i)) a b (i+4)).length=(ay lo hi (pn c) (λi=>ai (pg c i)) a b ((i+1)+4)).length:=λh=>by
    rw [hX] at h;have e:ay lo hi (pn c) (λi=>ai (pg c i)) a b (i+4+1)=ay lo hi (pn c) (λi=>ai (pg c i)) a b (i+4)++(if i+4 < 4 then dM (i+4) lo hi a b else qf (i+4 - 4) (pn c (i+4 - 4)) (ai (pg c (i+4 - 4))) a b):=rfl;rw [show i+1+4=i+4+1 by omega,e,if_neg (by omega),show i+4 - 4=i by omega,qf];cases hh:cW (pn c i) (ai (pg c i)) a b with
    |none=>simp
    |some s=>rw [hh] at h;cases h
   have yl:i < k->(cW (pn c ((i:Nat):Int).toNat) (ai (pg c ((i:Nat):Int).toNat)) (aJ (ao a b)).1 (aJ (ao a b)).2).isSome=true->(ay lo hi (pn c) (λi=>ai (pg c i)) a b (i+4)).length < (ay lo hi (pn c) (λi=>ai (pg c i)) a b (k+4)).length/\[PV.val (.int .i64 i),PV.val (au (sz (cW (pn c ((i:Nat):Int).toNat) (ai (pg c ((i:Nat):Int).toNat)) (aJ (ao a b)).1 (aJ (ao a b)).2)))]=gQ (ay lo hi (pn c) (λi=>ai (pg c i)) a b (k+4)) (ay lo hi (pn c) (λi=>ai (pg c i)) a b (i+4)).length/\(ay lo hi (pn c) (λi=>ai (pg c i)) a b (i+4)).length+1=(ay lo hi (pn c) (λi=>ai (pg c i)) a b ((i+1)+4)).length:=λhik h=>by
    rw [hX] at h ⊢;cases hh:cW (pn c i) (ai (pg c i)) a b with
    |none=>rw [hh] at h;cases h
    |some s =>
    have h1:=fS (lo:=lo) (hi:=hi) (n:=pn c) (p:=λi=>ai (pg c i)) (a:=a) (b:=b) (show i+4 < k+4 by omega) (x:=((i:Int),s.1)) (by rw [if_neg (by omega),show i+4 - 4=i by omega,qf,hh]);refine⟨h1.2.1,?_,by rw [show i+1+4=i+4+1 by omega];exact h1.2.2.symm⟩;unfold gQ zI BX;rw [h1.1];rfl
   have nb:(cW (pn c ((i:Nat):Int).toNat) (ai (pg c ((i:Nat):Int).toNat)) (aJ (ao a b)).1 (aJ (ao a b)).2).isSome=true->gn (pn c ((i:Nat):Int).toNat) (ai (pg c ((i:Nat):Int).toNat)) (aJ (ao a b)).1 (aJ (ao a b)).2=false:=λh=>by
    rw [hX] at h;show gn (pn c i) (ai (pg c i)) a b=false;cases hb:gn (pn c i) (ai (pg c i)) a b
    ·rfl
    ·unfold cW at h;rw [hb] at h;cases h
   have nb':(cW (pn c ((i:Nat):Int).toNat) (ai (pg c ((i:Nat):Int).toNat)) (aJ (ao a b)).1 (aJ (ao a b)).2).isSome=true->∀x:Bool,x=((bif gn (pn c ((i:Nat):Int).toNat) (ai (pg c ((i:Nat):Int).toNat)) (aJ (ao a b)).1 (aJ (ao a b)).2 then(1:Int) else 0)==0)->x=false->False:=λh x hx h'=>by
    rw [nb h] at hx;rw [hx] at h';cases h'
   have bx:decide ((i:Int) < (k:Int))=true->i < k:=λh=>Int.ofNat_lt.1 (of_decide_eq_true h);have dU:decide ((i:Int) < (k:Int))=false->i=k:=λh=>Nat.le_antisymm hik (Nat.le_of_not_lt λh'=>of_decide_eq_false h (Int.ofNat_lt.2 h'));have wi:decide ((i:Int) < (k:Int))=true->PV.val (.int .i64 (IntKind.i64.wrap ((i:Int)+1)))=.val (goInt (i+1:Nat)):=λh=>by
    have:=bx h;rw [wrap64 (by omega) (by omega)];rfl
   with_unfolding_all refine⟨λh0=>⟨⟨Int.natCast_nonneg i,Int.ofNat_lt.2 (bx h0)⟩,⟨(hc i (bx h0)).2,a,b,rfl,ha,hb⟩,λh1=>⟨λh2=>⟨rfl,(ay lo hi (pn c) (λi=>ai (pg c i)) a b (i+4)).length,rfl,(yl (bx h0) h1).1,(yl (bx h0) h1).2.1,⟨λ_=>⟨λe=>(nomatch e),λ_=>⟨i+1,[],bx h0,by have:=bx h0;show k - (i+1) < k - i;omega,Wo trivial ⟨rfl,⟨rfl,rfl,rfl,rfl,λ_ _=>rfl⟩,⟨rfl,rfl,rfl,rfl,λ_ _=>rfl⟩,qW,rfl,wi h0,qQ⟩ ⟨⟨congrArg (λz:Nat=>PV.val (.int .i64 (z:Int))) (yl (bx h0) h1).2.2,rfl,qQ⟩,qQ⟩⟩⟩,λe=>(nomatch e)⟩,⟨λ_=>⟨λ_=>trivial,λe=>(nomatch e)⟩,λe=>(nomatch e)⟩⟩,λh2=>⟨λe=>(nomatch e),λ_=>(nb' h1 _ rfl h2).elim⟩⟩,λh1=>⟨λe=>(nomatch e),λ_=>⟨λe=>(nomatch e),λ_=>⟨i+1,[],bx h0,by have:=bx h0;show k - (i+1) < k - i;omega,Wo trivial ⟨rfl,⟨rfl,rfl,rfl,rfl,λ_ _=>rfl⟩,⟨rfl,rfl,rfl,rfl,λ_ _=>rfl⟩,qW,rfl,wi h0,qQ⟩ ⟨⟨congrArg (λz:Nat=>PV.val (.int .i64 (z:Int))) (sk h1),rfl,qQ⟩,qQ⟩⟩⟩⟩⟩,λh0=>?_⟩
   rw [dU h0];rfl
  |j+5,h=>exact absurd h (by show ¬j+5<=4;omega)
 ·cases e
end Go.Proofs
namespace Go.Num
def fo (lo hi:PtS) (k:Nat) (c:Nat->List PV) (l:Nat) (o:Nat->List PV) (v:Value):Bool:=!(!ah (aJ v).1||!ah (aJ v).2)&&(bz lo hi k (pn c) (λi=>ai (pg c i)) l (ow o)==0)
def dA (lo hi:PtS) (k:Nat) (c:Nat->List PV) (v:Value):List (Int×Rat):=gP lo hi k (pn c) (λi=>ai (pg c i)) (aJ v).1 (aJ v).2
def uU (b:Bool) (L:List (Int×Rat)):Int:=bif b then zI L 0 else 0
end Go.Num
namespace Go.Proofs
def EI:List PV->Option Ans
 |[.agg [.val (.bool s1),.val (.string b1),.val (.string c1),.val (.bool s2),.val (.string b2),.val (.string c2),.val (.bool s3),.val (.string b3),.val (.string c3),.val (.bool s4),.val (.string b4),.val (.string c4),.rs 1 k c,.rs 3 l o],.val v]=>some ⟨some (((PtS.le 10000 (PtS.mk ⟨s1,b1,c1⟩ ⟨s2,b2,c2⟩)/\PtS.le 10000 (PtS.mk ⟨s3,b3,c3⟩ ⟨s4,b4,c4⟩))/\bZ 10000 k c/\c8 l o)/\eG 10000 v),.val (.tuple ⟨[.int .i64 (uU (fo (PtS.mk ⟨s1,b1,c1⟩ ⟨s2,b2,c2⟩) (PtS.mk ⟨s3,b3,c3⟩ ⟨s4,b4,c4⟩) k c l o v) (dA (PtS.mk ⟨s1,b1,c1⟩ ⟨s2,b2,c2⟩) (PtS.mk ⟨s3,b3,c3⟩ ⟨s4,b4,c4⟩) k c v)),.bool (fo (PtS.mk ⟨s1,b1,c1⟩ ⟨s2,b2,c2⟩) (PtS.mk ⟨s3,b3,c3⟩ ⟨s4,b4,c4⟩) k c l o v&&!(dA (PtS.mk ⟨s1,b1,c1⟩ ⟨s2,b2,c2⟩) (PtS.mk ⟨s3,b3,c3⟩ ⟨s4,b4,c4⟩) k c v).isEmpty),.int .i64 (cD (fo (PtS.mk ⟨s1,b1,c1⟩ ⟨s2,b2,c2⟩) (PtS.mk ⟨s3,b3,c3⟩ ⟨s4,b4,c4⟩) k c l o v))]⟩),[]⟩
 |_=>none
def D91:Opt:={ }
theorem FA:ak D91.toOrd Tryz.f91 2=true:=by kernel_rfl
theorem f91:FnOk Tryz.prog 91 EI:=by
 refine FnOk.ofW aj (nQ (l:=[(125,Bl),(126,Bu)]) (own:=[]) (inl:=[]) (sq:=[(171,Bv)]) (by simp [f125,f126]) (by simp) (by simp [f171])) Tryz.func91 D91 2 FA λargs r e=>?_;unfold EI at e;split at e
 ·rename_i s1 b1 c1 s2 b2 c2 s3 b3 c3 s4 b4 c4 k c l o v
  cases e;refine⟨by simp,λhm=>?_⟩;obtain⟨⟨⟨hlo,hhi⟩,⟨hc,hk⟩,ho,hl⟩,a,b,rfl,ha,hb⟩:=hm _ rfl;obtain⟨lo,hlo'⟩:∃p,p=(PtS.mk ⟨s1,b1,c1⟩ ⟨s2,b2,c2⟩):=⟨_,rfl⟩;obtain⟨hi,hhi'⟩:∃p,p=(PtS.mk ⟨s3,b3,c3⟩ ⟨s4,b4,c4⟩):=⟨_,rfl⟩;have hc1:∀i,i < k->[.rs 6 (pn c i) (pg c i)]=c i:=λi hi=>(hc i hi).1.symm;have ho1:∀i,i < l->ab (ow o i)=o i:=λi hi=>(ho i hi).symm;refine⟨[],aa [(0,.agg [.val (.bool (PtS.mk ⟨s1,b1,c1⟩ ⟨s2,b2,c2⟩).x.s),.val (.string (PtS.mk ⟨s1,b1,c1⟩ ⟨s2,b2,c2⟩).x.b),.val (.string (PtS.mk ⟨s1,b1,c1⟩ ⟨s2,b2,c2⟩).x.c),.val (.bool (PtS.mk ⟨s1,b1,c1⟩ ⟨s2,b2,c2⟩).y.s),.val (.string (PtS.mk ⟨s1,b1,c1⟩ ⟨s2,b2,c2⟩).y.b),.val (.string (PtS.mk ⟨s1,b1,c1⟩ ⟨s2,b2,c2⟩).y.c),.val (.bool (PtS.mk ⟨s3,b3,c3⟩ ⟨s4,b4,c4⟩).x.s),.val (.string (PtS.mk ⟨s3,b3,c3⟩ ⟨s4,b4,c4⟩).x.b),.val (.string (PtS.mk ⟨s3,b3,c3⟩ ⟨s4,b4,c4⟩).x.c),.val (.bool (PtS.mk ⟨s3,b3,c3⟩ ⟨s4,b4,c4⟩).y.s),.val (.string (PtS.mk ⟨s3,b3,c3⟩ ⟨s4,b4,c4⟩).y.b),.val (.string (PtS.mk ⟨s3,b3,c3⟩ ⟨s4,b4,c4⟩).y.c),.rs 1 k (λi=>[.rs 6 (pn c i) (pg c i)]),.rs 3 l (λi=>ab (ow o i))]),(1,.val (ao a b))] [] 0 [],Wo trivial ⟨⟨rfl,rfl,rfl,rfl,rfl,rfl,rfl,rfl,rfl,rfl,rfl,rfl,⟨rfl,rfl,hc1⟩,⟨rfl,rfl,ho1⟩,qQ⟩,rfl,qQ⟩ trivial,?_⟩;rw [<-hlo'] at hlo ⊢;rw [<-hhi'] at hhi ⊢;clear hlo' hhi' hm;have hlo':=hlo.mono (show 10000<=4294967296 by decide);have hhi':=hhi.mono (show 10000<=4294967296 by decide);have hrg:(lo.le 4294967296/\hi.le 4294967296)/\bZ 10000 k (λi=>[.rs 6 (pn c i) (pg c i)])/\c8 l (λi=>ab (ow o i)):=⟨⟨hlo',hhi'⟩,⟨λi hi=>⟨rfl,(hc i hi).2⟩,hk⟩,λi hi=>rfl,hl⟩;obtain⟨R,hR⟩:∃R,R=bz lo hi k (pn c) (λi=>ai (pg c i)) l (ow o):=⟨_,rfl⟩;have hR':bz lo hi k (pn (λi=>[.rs 6 (pn c i) (pg c i)])) (λi=>ai (pg (λi=>[.rs 6 (pn c i) (pg c i)]) i)) l (ow (λi=>ab (ow o i)))=R:=hR.symm;have ha':=ha.mono (show 10000<=4294967296 by decide);have hb':=hb.mono (show 10000<=4294967296 by decide);obtain⟨L,hL⟩:∃L,L=dA lo hi k c (ao a b):=⟨_,rfl⟩;rw [<-hL];obtain⟨OK,hOK⟩:∃OK,OK=fo lo hi k c l o (ao a b):=⟨_,rfl⟩;rw [<-hOK];obtain⟨VI,hVI⟩:∃VI,VI=uU OK L:=⟨_,rfl⟩;rw [<-hVI];obtain⟨VB,hVB⟩:∃VB,VB=(OK&&!L.isEmpty):=⟨_,rfl⟩;rw [<-hVB];have hL':gP lo hi k (pn (λi=>[.rs 6 (pn c i) (pg c i)])) (λi=>ai (pg (λi=>[.rs 6 (pn c i) (pg c i)]) i)) a b=L:=hL.symm;have cn:∀r:Nat->List PV,ai r 0=a->ai r 1=b->aA (λi=>!ah (ai r i)) 2=(!ah a||!ah b):=λr h h'=>by
   have e:List.range 2=[0,1]:=rfl;simp only [aA,e,List.any_cons,List.any_nil,Bool.or_false,h,h']
  have p2:∀r:Nat->List PV,r 0=a.cells->r 1=b.cells->isPL 4294967296 2 r:=λr h h'=>⟨λi hi=>by
   match i,hi with
   |0,_=>exact⟨by rw [ai,h];rfl,by rw [ai,h];exact ha'⟩
   |1,_=>exact⟨by rw [ai,h'];rfl,by rw [ai,h'];exact hb'⟩
   |i+2,h=>omega,by decide⟩
  have hOK':OK=(!(!ah a||!ah b)&&(R==0)):=by rw [hOK,hR];rfl
  have q1:∀r:Nat->List PV,ai r 0=a->ai r 1=b->(!(!aA (λi=>!ah (ai r i)) 2&&(bz lo hi k (pn (λi=>[.rs 6 (pn c i) (pg c i)])) (λi=>ai (pg (λi=>[.rs 6 (pn c i) (pg c i)]) i)) l (ow (λi=>ab (ow o i)))==0))) = !OK:=λr h h'=>by
   rw [cn r h h',hR',hOK']
  with_unfolding_all refine⟨⟨hrg,p2 _ rfl rfl⟩,λh1=>?_,λh1=>?_⟩
  ·have h1:OK=false:=by
    have:=(q1 _ rfl rfl).symm.trans h1;simpa using this
   have v1:PV.val (.int .i64 0)=PV.val (.int .i64 VI):=by rw [hVI,h1];rfl
   have v2:PV.val (.bool false)=PV.val (.bool VB):=by rw [hVB,h1];rfl
   have v3:PV.val (.int .i64 1)=PV.val (.int .i64 (cD OK)):=by rw [h1];rfl
   with_unfolding_all exact⟨[some 2,some 3,some 4],aa [(4,.ptr 0 0 0 0),(5,.ptr 1 1 0 0),(6,.ptr 2 2 0 0)] [⟨3,1,0,true,false,1,λ_=>[.val (.int .i64 VI)]⟩,⟨4,1,1,true,false,1,λ_=>[.val (.bool VB)]⟩,⟨38,1,2,true,false,1,λ_=>[.val (.int .i64 (cD OK))]⟩] 3 [],Wo ⟨qZ ⟨⟨v1,rfl⟩,qQ⟩,qZ ⟨⟨v2,rfl⟩,qQ⟩,qZ ⟨⟨v3,rfl⟩,qQ⟩,qQ⟩ ⟨pP,pP,pP,qQ⟩ trivial,rfl,rfl⟩
  ·have h1:OK=true:=by
    have:=(q1 _ rfl rfl).symm.trans h1;simpa using this
   have v3:PV.val (.int .i64 0)=PV.val (.int .i64 (cD OK)):=by rw [h1];rfl
   with_unfolding_all refine⟨⟨⟨λi _=>rfl,λi _=>rfl⟩,a,b,rfl⟩,⟨rq,⟨hlo,hhi⟩,⟨ha,hb⟩,⟨λi hi=>⟨rfl,(hc i hi).2⟩,hk⟩⟩,Unit,λi _=>i=0,λ_=>aa [(2,.ptr 0 0 0 0),(3,.ptr 1 1 0 0),(4,.ptr 2 2 0 0),(5,.ptr 3 3 0 0),(6,.ptr 4 4 0 0)] [⟨31,14,0,true,false,1,λ_=>[.val (.bool lo.x.s),.val (.string lo.x.b),.val (.string lo.x.c),.val (.bool lo.y.s),.val (.string lo.y.b),.val (.string lo.y.c),.val (.bool hi.x.s),.val (.string hi.x.b),.val (.string hi.x.c),.val (.bool hi.y.s),.val (.string hi.y.b),.val (.string hi.y.c),.rs 1 k (λi=>[.rs 6 (pn c i) (pg c i)]),.rs 3 l (λi=>ab (ow o i))]⟩,⟨117,12,1,true,false,1,λ_=>[.val (.bool a.x.s),.val (.string a.x.b),.val (.string a.x.c),.val (.bool a.y.s),.val (.string a.y.b),.val (.string a.y.c),.val (.bool b.x.s),.val (.string b.x.b),.val (.string b.x.c),.val (.bool b.y.s),.val (.string b.y.b),.val (.string b.y.c)]⟩,⟨3,1,2,true,false,1,λ_=>[.val (.int .i64 0)]⟩,⟨4,1,3,true,false,1,λ_=>[.val (.bool false)]⟩,⟨38,1,4,true,false,1,λ_=>[.val (.int .i64 0)]⟩] 5 [],⟨(),[some 0,some 1,some 2,some 3,some 4],rfl,Wo ⟨qZ ⟨rq,rq,rq,rq,rq,rq,rq,rq,rq,rq,rq,rq,⟨qW,rfl⟩,⟨qW,rfl⟩,qQ⟩,qZ ⟨rq,rq,rq,rq,rq,rq,rq,rq,rq,rq,rq,rq,qQ⟩,qY,qY,qY,qQ⟩ ⟨pP,pP,pP,pP,pP,qQ⟩ trivial⟩,λi y hin hI=>?_,λy hI=>?_⟩
   ·have hI:i=0:=hI;have hin:i < (gP lo hi k (pn (λi=>[.rs 6 (pn c i) (pg c i)])) (λi=>ai (pg (λi=>[.rs 6 (pn c i) (pg c i)]) i)) a b).length:=hin;have v1:PV.val (.int .i64 (zI (gP lo hi k (pn (λi=>[.rs 6 (pn c i) (pg c i)])) (λi=>ai (pg (λi=>[.rs 6 (pn c i) (pg c i)]) i)) a b) i))=PV.val (.int .i64 VI):=by rw [hL',hVI,h1,hI];rfl
    have v2:PV.val (.bool true)=PV.val (.bool VB):=by
     rw [hL'] at hin;rw [hVB,h1];cases L with
     |nil=>cases hin
     |cons=>rfl
    with_unfolding_all exact⟨rfl,⟨[some 2,some 3,some 4],aa [(4,.ptr 0 0 0 0),(5,.ptr 1 1 0 0),(6,.ptr 2 2 0 0)] [⟨3,1,0,true,false,1,λ_=>[.val (.int .i64 VI)]⟩,⟨4,1,1,true,false,1,λ_=>[.val (.bool VB)]⟩,⟨38,1,2,true,false,1,λ_=>[.val (.int .i64 (cD OK))]⟩] 3 [],Wo ⟨qZ ⟨⟨v1,rfl⟩,qQ⟩,qZ ⟨⟨v2,rfl⟩,qQ⟩,qZ ⟨⟨v3,rfl⟩,qQ⟩,qQ⟩ ⟨pP,pP,pP,qQ⟩ trivial,rfl,rfl⟩⟩
   ·have hI:(gP lo hi k (pn (λi=>[.rs 6 (pn c i) (pg c i)])) (λi=>ai (pg (λi=>[.rs 6 (pn c i) (pg c i)]) i)) a b).length=0:=hI;rw [hL'] at hI;have hI:=List.length_eq_zero_iff.1 hI;have v1:PV.val (.int .i64 0)=PV.val (.int .i64 VI):=by rw [hVI,h1,hI];rfl
    have v2:PV.val (.bool false)=PV.val (.bool VB):=by rw [hVB,h1,hI];rfl
    with_unfolding_all exact⟨[some 2,some 3,some 4],aa [(4,.ptr 0 0 0 0),(5,.ptr 1 1 0 0),(6,.ptr 2 2 0 0)] [⟨3,1,0,true,false,1,λ_=>[.val (.int .i64 VI)]⟩,⟨4,1,1,true,false,1,λ_=>[.val (.bool VB)]⟩,⟨38,1,2,true,false,1,λ_=>[.val (.int .i64 (cD OK))]⟩] 3 [],Wo ⟨qZ ⟨⟨v1,rfl⟩,qQ⟩,qZ ⟨⟨v2,rfl⟩,qQ⟩,qZ ⟨⟨v3,rfl⟩,qQ⟩,qQ⟩ ⟨pP,pP,pP,qQ⟩ trivial,rfl,rfl⟩
 ·cases e
end Go.Proofs
namespace Go.Num
def aV (lo hi:PtS) (k:Nat) (c:Nat->List PV) (l:Nat) (o:Nat->List PV) (a b:PtS):Bool:=fo lo hi k c l o (ao a b)&&(dA lo hi k c (ao a b)).isEmpty
end Go.Num
namespace Go.Proofs
def Eb:List PV->Option Ans
 |[.agg [.val (.bool s1),.val (.string b1),.val (.string c1),.val (.bool s2),.val (.string b2),.val (.string c2),.val (.bool s3),.val (.string b3),.val (.string c3),.val (.bool s4),.val (.string b4),.val (.string c4),.rs 1 k c,.rs 3 l o],.val v,.val w]=>some ⟨some (((PtS.le 10000 (PtS.mk ⟨s1,b1,c1⟩ ⟨s2,b2,c2⟩)/\PtS.le 10000 (PtS.mk ⟨s3,b3,c3⟩ ⟨s4,b4,c4⟩))/\bZ 10000 k c/\c8 l o)/\isPk 10000 v/\isPk 10000 w),.val (.bool (aV (PtS.mk ⟨s1,b1,c1⟩ ⟨s2,b2,c2⟩) (PtS.mk ⟨s3,b3,c3⟩ ⟨s4,b4,c4⟩) k c l o (aN v) (aN w))),[]⟩
 |_=>none
theorem FB:ak {} Tryz.f56 1=true:=by kernel_rfl
theorem f56:FnOk Tryz.prog 56 Eb:=by
 refine FnOk.ofW aj (am (l:=[(91,EI)]) (own:=[]) (inl:=[]) (by simp [f91]) (by simp)) Tryz.func56 {} 3 FB λargs r e=>?_;unfold Eb at e;split at e
 ·rename_i s1 b1 c1 s2 b2 c2 s3 b3 c3 s4 b4 c4 k c l o v w
  cases e;refine⟨by simp,λhm=>?_⟩;obtain⟨⟨⟨hlo,hhi⟩,⟨hc,hk⟩,ho,hl⟩,⟨a,rfl,ha⟩,b,rfl,hb⟩:=hm _ rfl;obtain⟨lo,hlo'⟩:∃p,p=(PtS.mk ⟨s1,b1,c1⟩ ⟨s2,b2,c2⟩):=⟨_,rfl⟩;obtain⟨hi,hhi'⟩:∃p,p=(PtS.mk ⟨s3,b3,c3⟩ ⟨s4,b4,c4⟩):=⟨_,rfl⟩;have hc1:∀i,i < k->[.rs 6 (pn c i) (pg c i)]=c i:=λi hi=>(hc i hi).1.symm;have ho1:∀i,i < l->ab (ow o i)=o i:=λi hi=>(ho i hi).symm;refine⟨[],aa [(0,.agg [.val (.bool (PtS.mk ⟨s1,b1,c1⟩ ⟨s2,b2,c2⟩).x.s),.val (.string (PtS.mk ⟨s1,b1,c1⟩ ⟨s2,b2,c2⟩).x.b),.val (.string (PtS.mk ⟨s1,b1,c1⟩ ⟨s2,b2,c2⟩).x.c),.val (.bool (PtS.mk ⟨s1,b1,c1⟩ ⟨s2,b2,c2⟩).y.s),.val (.string (PtS.mk ⟨s1,b1,c1⟩ ⟨s2,b2,c2⟩).y.b),.val (.string (PtS.mk ⟨s1,b1,c1⟩ ⟨s2,b2,c2⟩).y.c),.val (.bool (PtS.mk ⟨s3,b3,c3⟩ ⟨s4,b4,c4⟩).x.s),.val (.string (PtS.mk ⟨s3,b3,c3⟩ ⟨s4,b4,c4⟩).x.b),.val (.string (PtS.mk ⟨s3,b3,c3⟩ ⟨s4,b4,c4⟩).x.c),.val (.bool (PtS.mk ⟨s3,b3,c3⟩ ⟨s4,b4,c4⟩).y.s),.val (.string (PtS.mk ⟨s3,b3,c3⟩ ⟨s4,b4,c4⟩).y.b),.val (.string (PtS.mk ⟨s3,b3,c3⟩ ⟨s4,b4,c4⟩).y.c),.rs 1 k (λi=>[.rs 6 (pn c i) (pg c i)]),.rs 3 l (λi=>ab (ow o i))]),(1,.val a.v),(2,.val b.v)] [] 0 [],Wo trivial ⟨⟨rfl,rfl,rfl,rfl,rfl,rfl,rfl,rfl,rfl,rfl,rfl,rfl,⟨rfl,rfl,hc1⟩,⟨rfl,rfl,ho1⟩,qQ⟩,rfl,rfl,qQ⟩ trivial,?_⟩;rw [<-hlo'] at hlo ⊢;rw [<-hhi'] at hhi ⊢;clear hlo' hhi' hm;have hlo':=hlo.mono (show 10000<=4294967296 by decide);have hhi':=hhi.mono (show 10000<=4294967296 by decide);have hrg:(lo.le 4294967296/\hi.le 4294967296)/\bZ 10000 k (λi=>[.rs 6 (pn c i) (pg c i)])/\c8 l (λi=>ab (ow o i)):=⟨⟨hlo',hhi'⟩,⟨λi hi=>⟨rfl,(hc i hi).2⟩,hk⟩,λi hi=>rfl,hl⟩;obtain⟨R,hR⟩:∃R,R=bz lo hi k (pn c) (λi=>ai (pg c i)) l (ow o):=⟨_,rfl⟩;have hR':bz lo hi k (pn (λi=>[.rs 6 (pn c i) (pg c i)])) (λi=>ai (pg (λi=>[.rs 6 (pn c i) (pg c i)]) i)) l (ow (λi=>ab (ow o i)))=R:=hR.symm;clear hR' hR;obtain⟨S,hS⟩:∃S,S=aV lo hi k c l o a b:=⟨_,rfl⟩;have hv:aV lo hi k c l o (aN a.v) (aN b.v)=S:=hS.symm;rw [hv];have hrg2:((lo.le 10000/\hi.le 10000)/\bZ 10000 k (λi=>[.rs 6 (pn c i) (pg c i)])/\c8 l (λi=>ab (ow o i)))/\eG 10000 (ao a b):=⟨⟨⟨hlo,hhi⟩,⟨λi hi=>⟨rfl,(hc i hi).2⟩,hk⟩,λi hi=>rfl,hl⟩,a,b,rfl,ha,hb⟩;have fv:fo lo hi k (λi=>[.rs 6 (pn c i) (pg c i)]) l (λi=>ab (ow o i)) (ao a b)=fo lo hi k c l o (ao a b):=rfl;have fw:dA lo hi k (λi=>[.rs 6 (pn c i) (pg c i)]) (ao a b)=dA lo hi k c (ao a b):=rfl;have w1:(cD (fo lo hi k (λi=>[.rs 6 (pn c i) (pg c i)]) l (λi=>ab (ow o i)) (ao a b))==0)=true->PV.val (.bool (!(fo lo hi k (λi=>[.rs 6 (pn c i) (pg c i)]) l (λi=>ab (ow o i)) (ao a b)&&!(dA lo hi k (λi=>[.rs 6 (pn c i) (pg c i)]) (ao a b)).isEmpty)))=PV.val (.bool S):=λh=>by
   have h:fo lo hi k (λi=>[.rs 6 (pn c i) (pg c i)]) l (λi=>ab (ow o i)) (ao a b)=true:=by cases h':fo lo hi k (λi=>[.rs 6 (pn c i) (pg c i)]) l (λi=>ab (ow o i)) (ao a b) with
    |true=>rfl
    |false=>rw [h'] at h;cases h
   rw [fv] at h ⊢;rw [fw,h,hS,aV,h,Bool.true_and,Bool.true_and,Bool.not_not]
  have w2:(cD (fo lo hi k (λi=>[.rs 6 (pn c i) (pg c i)]) l (λi=>ab (ow o i)) (ao a b))==0)=false->PV.val (.bool false)=PV.val (.bool S):=λh=>by
   have h:fo lo hi k (λi=>[.rs 6 (pn c i) (pg c i)]) l (λi=>ab (ow o i)) (ao a b)=false:=by cases h':fo lo hi k (λi=>[.rs 6 (pn c i) (pg c i)]) l (λi=>ab (ow o i)) (ao a b) with
    |false=>rfl
    |true=>rw [h'] at h;cases h
   rw [fv] at h;rw [hS,aV,h,Bool.false_and]
  with_unfolding_all exact⟨hrg2,λh1=>⟨[],aa [(6,.val (.bool S))] [] 0 [],Wo trivial ⟨w1 h1,qQ⟩ trivial,rfl,rfl⟩,λh1=>⟨[],aa [(6,.val (.bool S))] [] 0 [],Wo trivial ⟨w2 h1,qQ⟩ trivial,rfl,rfl⟩⟩
 ·cases e
end Go.Proofs
namespace Go.Num
def dh (S:PtS->Bool) (p:Nat->PtS):Nat->List PtS
 |0=>[]
 |j+1=>dh S p j++(bif S (p j) then [p j] else [])
def cu (S:PtS->Bool) (n:Nat->Nat) (p:Nat->Nat->PtS):Nat->List PtS
 |0=>[]
 |i+1=>cu S n p i++dh S (p i) (n i)
theorem mZ {S:PtS->Bool} {p:Nat->PtS}:∀(d j:Nat),dh S p j <+: dh S p (j+d)
 |0,j=>List.prefix_refl _
 |d+1,j=>(mZ d j).trans (List.prefix_append _ _)
theorem m6 {S:PtS->Bool} {n:Nat->Nat} {p:Nat->Nat->PtS}:∀(d j:Nat),cu S n p j <+: cu S n p (j+d)
 |0,j=>List.prefix_refl _
 |d+1,j=>(m6 d j).trans (List.prefix_append _ _)
theorem yX {S:PtS->Bool} {n:Nat->Nat} {p:Nat->Nat->PtS} {i k j:Nat} (hi:i < k) (hj:j < n i) (h:S (p i j)=true) :
  (cu S n p k)[(cu S n p i).length+(dh S (p i) j).length]? = some (p i j)/\(cu S n p i).length+(dh S (p i) j).length < (cu S n p k).length:=by
 obtain⟨t,ht⟩:=m6 (S:=S) (n:=n) (p:=p) (k - (i+1)) (i+1);rw [show i+1+(k - (i+1))=k by omega] at ht;obtain⟨u,hu⟩:=mZ (S:=S) (p:=p i) (n i - (j+1)) (j+1);rw [show j+1+(n i - (j+1))=n i by omega] at hu;rw [<-ht,cu,<-hu,dh,h];simp
def ae (L:List PtS) (i:Nat):PtS:=L[i]?.getD (ci [])
def ap (lo hi:PtS) (k:Nat) (c:Nat->List PV) (l:Nat) (o:Nat->List PV):List PtS:=cu (λp=>aV lo hi k c l o p p) (pn c) (λi=>ai (pg c i)) k
end Go.Num
namespace Go.Proofs
def FC:List PV->Option Ans
 |[.agg [.val (.bool s1),.val (.string b1),.val (.string c1),.val (.bool s2),.val (.string b2),.val (.string c2),.val (.bool s3),.val (.string b3),.val (.string c3),.val (.bool s4),.val (.string b4),.val (.string c4),.rs 1 k c,.rs 3 l o]]=>some ⟨some (((∀i,i < k->c i=[.rs 6 (pn c i) (pg c i)])/\∀i,i < l->o i=ab (ow o i))),.fn (.func 129) [] [.rp 14 1 (λ_=>bN (PtS.mk ⟨s1,b1,c1⟩ ⟨s2,b2,c2⟩) (PtS.mk ⟨s3,b3,c3⟩ ⟨s4,b4,c4⟩) k c l o) 0 0],[]⟩
 |_=>none
theorem FD:ak {} Tryz.f94 1=true:=by kernel_rfl
theorem f94:FnOk Tryz.prog 94 FC:=by
 refine FnOk.ofW aj (am (l:=[]) (own:=[]) (inl:=[]) (by simp) (by simp)) Tryz.func94 {} 1 FD λargs r e=>?_;unfold FC at e;split at e
 ·rename_i s1 b1 c1 s2 b2 c2 s3 b3 c3 s4 b4 c4 k c l o
  cases e;refine⟨by simp,λhm=>?_⟩;obtain⟨hc,ho⟩:=hm _ rfl;have hc1:∀i,i < k->[.rs 6 (pn c i) (pg c i)]=c i:=λi hi=>(hc i hi).symm;have ho1:∀i,i < l->ab (ow o i)=o i:=λi hi=>(ho i hi).symm;refine⟨[],aa [(0,.agg [.val (.bool (PtS.mk ⟨s1,b1,c1⟩ ⟨s2,b2,c2⟩).x.s),.val (.string (PtS.mk ⟨s1,b1,c1⟩ ⟨s2,b2,c2⟩).x.b),.val (.string (PtS.mk ⟨s1,b1,c1⟩ ⟨s2,b2,c2⟩).x.c),.val (.bool (PtS.mk ⟨s1,b1,c1⟩ ⟨s2,b2,c2⟩).y.s),.val (.string (PtS.mk ⟨s1,b1,c1⟩ ⟨s2,b2,c2⟩).y.b),.val (.string (PtS.mk ⟨s1,b1,c1⟩ ⟨s2,b2,c2⟩).y.c),.val (.bool (PtS.mk ⟨s3,b3,c3⟩ ⟨s4,b4,c4⟩).x.s),.val (.string (PtS.mk ⟨s3,b3,c3⟩ ⟨s4,b4,c4⟩).x.b),.val (.string (PtS.mk ⟨s3,b3,c3⟩ ⟨s4,b4,c4⟩).x.c),.val (.bool (PtS.mk ⟨s3,b3,c3⟩ ⟨s4,b4,c4⟩).y.s),.val (.string (PtS.mk ⟨s3,b3,c3⟩ ⟨s4,b4,c4⟩).y.b),.val (.string (PtS.mk ⟨s3,b3,c3⟩ ⟨s4,b4,c4⟩).y.c),.rs 1 k (λi=>[.rs 6 (pn c i) (pg c i)]),.rs 3 l (λi=>ab (ow o i))])] [] 0 [],Wo trivial ⟨⟨rfl,rfl,rfl,rfl,rfl,rfl,rfl,rfl,rfl,rfl,rfl,rfl,⟨rfl,rfl,hc1⟩,⟨rfl,rfl,ho1⟩,qQ⟩,qQ⟩ trivial,?_⟩;with_unfolding_all exact⟨[some 0],aa [(2,.fn (.func 129) [] [.ptr 0 0 0 0])] [⟨31,14,0,true,false,1,λ_=>bN (PtS.mk ⟨s1,b1,c1⟩ ⟨s2,b2,c2⟩) (PtS.mk ⟨s3,b3,c3⟩ ⟨s4,b4,c4⟩) k c l o⟩] 1 [],Wo ⟨qZ ⟨rq,rq,rq,rq,rq,rq,rq,rq,rq,rq,rq,rq,⟨qW,rfl⟩,⟨qW,rfl⟩,qQ⟩,qQ⟩ ⟨⟨rfl,trivial,pP,qQ⟩,qQ⟩ trivial,rfl,rfl⟩
 ·cases e
def Bw:List PV->Option gu
 |[.rp 14 1 h 0 0]=>some ⟨some (yW h/\((cK (h 0)).le 10000/\(cL (h 0)).le 10000)/\bZ 10000 (gK (h 0)) (gC (h 0))/\c8 (gL (h 0)) (gO (h 0))),(ap (cK (h 0)) (cL (h 0)) (gK (h 0)) (gC (h 0)) (gL (h 0)) (gO (h 0))).length,λi=>[.val (ae (ap (cK (h 0)) (cL (h 0)) (gK (h 0)) (gC (h 0)) (gL (h 0)) (gO (h 0))) i).v]⟩
 |_=>none
def D129:Opt:={ }
theorem Ec:ak D129.toOrd Tryz.f129 2=true:=by kernel_rfl
theorem f129:SeqFn Tryz.prog 129 Bw:=by
 refine SeqFn.of aj (am (l:=[(56,Eb)]) (own:=[]) (inl:=[]) (by simp [f56]) (by simp)) Tryz.func129 D129 2 Ec rfl λargs r e=>?_;unfold Bw at e;split at e
 ·rename_i h
  cases e;refine⟨by simp,λhm L0=>?_⟩;obtain⟨h1,⟨hlo,hhi⟩,⟨hc,hk⟩,ho,hl⟩:=hm _ rfl;unfold yW at h1;generalize cK (h 0)=lo at *
  generalize cL (h 0)=hi at *
  generalize gK (h 0)=k at *
  generalize gC (h 0)=c at *
  generalize gL (h 0)=l at *
  generalize gO (h 0)=o at *
  subst h1;clear hm;with_unfolding_all refine⟨Nat,λi=>i<=k,λi=>aa [(0,.val (.func (.yield L0) ⟨[]⟩ ⟨[]⟩)),(1,.rp 14 1 (λ_=>bN lo hi k c l o) 0 0),(8,.rs 1 k (λi=>[.rs 6 (pn c i) (pg c i)])),(9,.val (goInt k)),(10,.val (goInt i))] [] 0 [[(0,.val (.int .i64 (((cu (λp=>aV lo hi k c l o p p) (pn c) (λi=>ai (pg c i)) i).length:Nat):Int))),(1,.val (.bool false))]],λi=>k - i,⟨0,[],Nat.zero_le _,Wo trivial ⟨rfl,⟨rfl,rfl,rfl,rfl,λ_ _=>rfl⟩,qW,rfl,rfl,qQ⟩ ⟨⟨rfl,rfl,qQ⟩,qQ⟩⟩,λi hik=>?_⟩
  have bx:decide ((i:Int) < (k:Int))=true->i < k:=λh=>Int.ofNat_lt.1 (of_decide_eq_true h);have dU:decide ((i:Int) < (k:Int))=false->i=k:=λh=>Nat.le_antisymm hik (Nat.le_of_not_lt λh'=>of_decide_eq_false h (Int.ofNat_lt.2 h'));with_unfolding_all refine⟨λh0=>⟨⟨Int.natCast_nonneg i,Int.ofNat_lt.2 (bx h0)⟩,Nat,λj=>j<=pn c i,λj=>aa [(0,.val (.func (.yield L0) ⟨[]⟩ ⟨[]⟩)),(1,.rp 14 1 (λ_=>bN lo hi k c l o) 0 0),(8,.rs 1 k (λi=>[.rs 6 (pn c i) (pg c i)])),(9,.val (goInt k)),(10,.val (goInt i)),(14,.rs 6 (pn c i) (λj=>(ai (pg c i) j).cells)),(15,.val (goInt (pn c i))),(16,.val (goInt j))] [] 0 [[(0,.val (.int .i64 (((cu (λp=>aV lo hi k c l o p p) (pn c) (λi=>ai (pg c i)) i).length+(dh (λp=>aV lo hi k c l o p p) (ai (pg c i)) j).length:Nat):Int))),(1,.val (.bool false))]],λj=>pn c i - j,⟨0,[],Nat.zero_le _,Wo trivial ⟨rfl,⟨rfl,rfl,rfl,rfl,λ_ _=>rfl⟩,qW,rfl,rfl,⟨rfl,rfl,λj hj=>((hc i (bx h0)).2.1 j hj).1.symm⟩,rfl,rfl,qQ⟩ ⟨⟨rfl,rfl,qQ⟩,qQ⟩⟩,λj hj=>?_⟩,λh0=>?_⟩
  ·have hik:=bx h0;have jT:decide ((j:Int) < (pn c i:Int))=true->j < pn c i:=λh=>Int.ofNat_lt.1 (of_decide_eq_true h);have jF:decide ((j:Int) < (pn c i:Int))=false->j=pn c i:=λh=>Nat.le_antisymm hj (Nat.le_of_not_lt λh'=>of_decide_eq_false h (Int.ofNat_lt.2 h'));have hn:=(hc i hik).2.2;have wj:decide ((j:Int) < (pn c i:Int))=true->PV.val (.int .i64 (IntKind.i64.wrap ((j:Int)+1)))=.val (goInt (j+1:Nat)):=λh=>by
    have:=jT h;rw [wrap64 (by omega) (by omega)];rfl
   have wi:PV.val (.int .i64 (IntKind.i64.wrap ((i:Int)+1)))=.val (goInt (i+1:Nat)):=by
    rw [wrap64 (by omega) (by omega)];rfl
   have pr:decide ((j:Int) < (pn c i:Int))=true->(((lo.le 10000/\hi.le 10000)/\bZ 10000 k (λi=>[.rs 6 (pn c i) (pg c i)])/\c8 l (λi=>ab (ow o i)))/\isPk 10000 (ai (pg c i) ((j:Nat):Int).toNat).v/\isPk 10000 (ai (pg c i) ((j:Nat):Int).toNat).v):=λh=>by
    have hp:=((hc i hik).2.1 j (jT h)).2;exact⟨⟨⟨hlo,hhi⟩,⟨λi hi=>⟨rfl,(hc i hi).2⟩,hk⟩,λi hi=>rfl,hl⟩,⟨_,rfl,hp⟩,_,rfl,hp⟩
   have yl:j < pn c i->aV lo hi k c l o (ai (pg c i) j) (ai (pg c i) j)=true->(cu (λp=>aV lo hi k c l o p p) (pn c) (λi=>ai (pg c i)) i).length+(dh (λp=>aV lo hi k c l o p p) (ai (pg c i)) j).length < (ap lo hi k c l o).length/\[PV.val (ai (pg c i) ((j:Nat):Int).toNat).v]=[PV.val (ae (ap lo hi k c l o) ((cu (λp=>aV lo hi k c l o p p) (pn c) (λi=>ai (pg c i)) i).length+(dh (λp=>aV lo hi k c l o p p) (ai (pg c i)) j).length)).v]/\(cu (λp=>aV lo hi k c l o p p) (pn c) (λi=>ai (pg c i)) i).length+(dh (λp=>aV lo hi k c l o p p) (ai (pg c i)) j).length+1=(cu (λp=>aV lo hi k c l o p p) (pn c) (λi=>ai (pg c i)) i).length+(dh (λp=>aV lo hi k c l o p p) (ai (pg c i)) (j+1)).length:=λh h'=>by
    have g:=yX (S:=(λp=>aV lo hi k c l o p p)) (n:=pn c) (p:=λi=>ai (pg c i)) hik h h';refine⟨g.2,?_,?_⟩
    ·unfold ae ap;rw [g.1];rfl
    ·rw [dh];simp only [h',cond_true,List.length_append,List.length_singleton];rfl
   have sk:aV lo hi k c l o (ai (pg c i) j) (ai (pg c i) j)=false->(cu (λp=>aV lo hi k c l o p p) (pn c) (λi=>ai (pg c i)) i).length+(dh (λp=>aV lo hi k c l o p p) (ai (pg c i)) j).length=(cu (λp=>aV lo hi k c l o p p) (pn c) (λi=>ai (pg c i)) i).length+(dh (λp=>aV lo hi k c l o p p) (ai (pg c i)) (j+1)).length:=λh'=>by
    rw [dh];simp only [h',cond_false,List.append_nil]
   have fin:decide ((j:Int) < (pn c i:Int))=false->(cu (λp=>aV lo hi k c l o p p) (pn c) (λi=>ai (pg c i)) i).length+(dh (λp=>aV lo hi k c l o p p) (ai (pg c i)) j).length=(cu (λp=>aV lo hi k c l o p p) (pn c) (λi=>ai (pg c i)) (i+1)).length:=λh=>by
    rw [jF h,cu,List.length_append]
   with_unfolding_all refine⟨λh1=>⟨⟨Int.natCast_nonneg j,Int.ofNat_lt.2 (jT h1)⟩,pr h1,λh2=>⟨rfl,(cu (λp=>aV lo hi k c l o p p) (pn c) (λi=>ai (pg c i)) i).length+(dh (λp=>aV lo hi k c l o p p) (ai (pg c i)) j).length,rfl,(yl (jT h1) h2).1,(yl (jT h1) h2).2.1,⟨λ_=>⟨λe=>(nomatch e),λ_=>⟨j+1,[],jT h1,by have:=jT h1;show pn c i - (j+1) < pn c i - j;omega,Wo trivial ⟨rfl,⟨rfl,rfl,rfl,rfl,λ_ _=>rfl⟩,qW,rfl,rfl,qW,rfl,wj h1,qQ⟩ ⟨⟨congrArg (λz:Nat=>PV.val (.int .i64 (z:Int))) (yl (jT h1) h2).2.2,rfl,qQ⟩,qQ⟩⟩⟩,λe=>(nomatch e)⟩,⟨λ_=>⟨λ_=>trivial,λe=>(nomatch e)⟩,λe=>(nomatch e)⟩⟩,λh2=>⟨λe=>(nomatch e),λ_=>⟨j+1,[],jT h1,by have:=jT h1;show pn c i - (j+1) < pn c i - j;omega,Wo trivial ⟨rfl,⟨rfl,rfl,rfl,rfl,λ_ _=>rfl⟩,qW,rfl,rfl,qW,rfl,wj h1,qQ⟩ ⟨⟨congrArg (λz:Nat=>PV.val (.int .i64 (z:Int))) (sk h2),rfl,qQ⟩,qQ⟩⟩⟩⟩,λh1=>⟨i+1,[],hik,by show k - (i+1) < k - i;omega,Wo trivial ⟨rfl,⟨rfl,rfl,rfl,rfl,λ_ _=>rfl⟩,qW,rfl,wi,qQ⟩ ⟨⟨congrArg (λz:Nat=>PV.val (.int .i64 (z:Int))) (fin h1),rfl,qQ⟩,qQ⟩⟩⟩
  ·rw [dU h0];rfl
 ·cases e
theorem yY {V r:Nat->List PV} {y:Nat} (h:r 0=V y):∀i,i < y+1->V i=ll y V r i:=λi hi=>by
 unfold ll;by_cases hy:i < y
 ·rw [if_pos hy]
 ·obtain rfl:i=y:=by omega
  rw [if_neg hy,Nat.sub_self,h]
def Bx:List PV->Option Ans
 |[.val (.slice none 0 0),.fn (.func 129) [] [.rp 14 1 h 0 0]]=>some ⟨some ((yW h/\((cK (h 0)).le 10000/\(cL (h 0)).le 10000)/\bZ 10000 (gK (h 0)) (gC (h 0))/\c8 (gL (h 0)) (gO (h 0)))/\(ap (cK (h 0)) (cL (h 0)) (gK (h 0)) (gC (h 0)) (gL (h 0)) (gO (h 0))).length<=1000),.sl 0 0 0 (ap (cK (h 0)) (cL (h 0)) (gK (h 0)) (gC (h 0)) (gL (h 0)) (gO (h 0))).length,[⟨25,6,0,false,false,(ap (cK (h 0)) (cL (h 0)) (gK (h 0)) (gC (h 0)) (gL (h 0)) (gO (h 0))).length,λi=>(ae (ap (cK (h 0)) (cL (h 0)) (gK (h 0)) (gC (h 0)) (gL (h 0)) (gO (h 0))) i).cells⟩]⟩
 |_=>none
def D175:Opt:={ }
theorem Ed:ak D175.toOrd Tryz.f175 2=true:=by kernel_rfl
theorem f175:FnOk Tryz.prog 175 Bx:=by
 refine FnOk.ofW aj (nQ (l:=[]) (own:=[]) (inl:=[]) (sq:=[(129,Bw)]) (by simp) (by simp) (by simp [f129])) Tryz.func175 D175 2 Ed λargs r e=>?_;unfold Bx at e;split at e
 ·rename_i h
  cases e;refine⟨by simp,λhm=>?_⟩;obtain⟨hp,hn⟩:=hm _ rfl;refine⟨[],aa [(0,.val (.slice none 0 0)),(1,.fn (.func 129) [] [.rp 14 1 h 0 0])] [] 0 [],Wo trivial ⟨rfl,⟨rfl,trivial,⟨rfl,rfl,rfl,rfl,λ_ _=>rfl⟩,qQ⟩,qQ⟩ trivial,?_⟩;have hP:yW h/\((cK (h 0)).le 10000/\(cL (h 0)).le 10000)/\bZ 10000 (gK (h 0)) (gC (h 0))/\c8 (gL (h 0)) (gO (h 0)):=hp;with_unfolding_all refine⟨hP,Nat,λi y=>y=i,λy=>aa [(2,.ptr 0 0 0 0)] [⟨34,1,0,true,false,1,λ_=>[.sl 1 1 0 y]⟩,⟨25,6,1,false,false,y,λi=>(ae (ap (cK (h 0)) (cL (h 0)) (gK (h 0)) (gC (h 0)) (gL (h 0)) (gO (h 0))) i).cells⟩] 2 [],⟨0,[some 0,none],rfl,Wo ⟨qZ ⟨⟨⟨rfl,rfl,rfl,rfl,bf rfl⟩,rfl⟩,qQ⟩,⟨bf rfl,rfl,rfl,rfl⟩,qQ⟩ ⟨pP,qQ⟩ trivial⟩,λi y hi hI=>?_,λy hI=>?_⟩
  ·have hy:y < 1000:=Nat.lt_of_lt_of_le (show y < (ap (cK (h 0)) (cL (h 0)) (gK (h 0)) (gC (h 0)) (gL (h 0)) (gO (h 0))).length from hI▸hi) hn;have hI:y=i:=hI;subst hI;have k1:(y+1)*80<=140737488355328:=by omega
   with_unfolding_all refine⟨rfl,⟨rfl,?_,?_⟩,y+1,[some 0,some 1],rfl,Wo ⟨qZ ⟨⟨pP,rfl⟩,qQ⟩,qZ (?_),qQ⟩ ⟨pP,qQ⟩ trivial⟩
   ·with_unfolding_all exact k1
   ·with_unfolding_all exact(show y+1<=9223372036854775807 by omega)
   ·with_unfolding_all exact yY (V:=λi=>(ae (ap (cK (h 0)) (cL (h 0)) (gK (h 0)) (gC (h 0)) (gL (h 0)) (gO (h 0))) i).cells) rfl
  ·have hI:y=(ap (cK (h 0)) (cL (h 0)) (gK (h 0)) (gC (h 0)) (gL (h 0)) (gO (h 0))).length:=hI;subst hI;with_unfolding_all exact⟨[some 1],aa [(4,.sl 0 0 0 (ap (cK (h 0)) (cL (h 0)) (gK (h 0)) (gC (h 0)) (gL (h 0)) (gO (h 0))).length)] [⟨25,6,0,false,false,(ap (cK (h 0)) (cL (h 0)) (gK (h 0)) (gC (h 0)) (gL (h 0)) (gO (h 0))).length,λi=>(ae (ap (cK (h 0)) (cL (h 0)) (gK (h 0)) (gC (h 0)) (gL (h 0)) (gO (h 0))) i).cells⟩] 1 [],Wo ⟨qZ (λ_ _=>rfl),qQ⟩ ⟨pP,qQ⟩ trivial,rfl,rfl⟩
 ·cases e
def By:List PV->Option Ans
 |[.fn (.func 129) [] [.rp 14 1 h 0 0]]=>some ⟨some ((yW h/\((cK (h 0)).le 10000/\(cL (h 0)).le 10000)/\bZ 10000 (gK (h 0)) (gC (h 0))/\c8 (gL (h 0)) (gO (h 0)))/\(ap (cK (h 0)) (cL (h 0)) (gK (h 0)) (gC (h 0)) (gL (h 0)) (gO (h 0))).length<=1000),.sl 0 0 0 (ap (cK (h 0)) (cL (h 0)) (gK (h 0)) (gC (h 0)) (gL (h 0)) (gO (h 0))).length,[⟨25,6,0,false,false,(ap (cK (h 0)) (cL (h 0)) (gK (h 0)) (gC (h 0)) (gL (h 0)) (gO (h 0))).length,λi=>(ae (ap (cK (h 0)) (cL (h 0)) (gK (h 0)) (gC (h 0)) (gL (h 0)) (gO (h 0))) i).cells⟩]⟩
 |_=>none
theorem Ee:ak {} Tryz.f127 1=true:=by kernel_rfl
theorem f127:FnOk Tryz.prog 127 By:=by
 refine FnOk.ofW aj (am (l:=[(175,Bx)]) (own:=[175]) (inl:=[]) (by simp [f175]) (by simp)) Tryz.func127 {} 1 Ee λargs r e=>?_;unfold By at e;split at e
 ·rename_i h
  cases e;refine⟨by simp,λhm=>?_⟩;have hp:=hm _ rfl;refine⟨[],aa [(0,.fn (.func 129) [] [.rp 14 1 h 0 0])] [] 0 [],Wo trivial ⟨⟨rfl,trivial,⟨rfl,rfl,rfl,rfl,λ_ _=>rfl⟩,qQ⟩,qQ⟩ trivial,?_⟩;with_unfolding_all refine⟨hp,?_⟩
  with_unfolding_all exact⟨[some 0],aa [(2,.sl 0 0 0 (ap (cK (h 0)) (cL (h 0)) (gK (h 0)) (gC (h 0)) (gL (h 0)) (gO (h 0))).length)] [⟨25,6,0,false,false,(ap (cK (h 0)) (cL (h 0)) (gK (h 0)) (gC (h 0)) (gL (h 0)) (gO (h 0))).length,λi=>(ae (ap (cK (h 0)) (cL (h 0)) (gK (h 0)) (gC (h 0)) (gL (h 0)) (gO (h 0))) i).cells⟩] 1 [],Wo ⟨qZ (λ_ _=>rfl),qQ⟩ ⟨pP,qQ⟩ trivial,rfl,rfl⟩
 ·cases e
end Go.Proofs
namespace Go.Ex
def GJ {α : Type} (n:Nat):Result α->Prop
 |.ok _ w=>n<=w.drawn
 |.halt _ w=>n<=w.drawn
theorem sG {α : Type}:∀(m:Ask α) (w:World),w.drawn<=(w.ask m).2.drawn
 |.done a,w=>Nat.le_refl _
 |.ask what range k,w=>by
  simp only [World.ask];split
  ·exact sG (k 0) w
  ·exact Nat.le_trans (Nat.le_succ _) (sG _ { w with drawn:=w.drawn+1 })
theorem Bz (w:World) (c:Sys):w.drawn<=(w.sys c).2.drawn:=by
 have h:=sG (Kernel.perform c w.os) w;unfold World.sys;split
 ·exact Nat.le_refl _
 ·rename_i e;rw [e] at h;exact h
theorem oJ {p:Program} {w:World} {at_:Addr} {u:TypeId} {a:Addr} {v:Value} {b:Bool} {w':World} {l:List Addr} (h:w.viewStore p at_ u a v b=.ok (w',l)):w'.drawn=w.drawn:=by
 unfold World.viewStore at h;simp only [bind,Except.bind,pure,Except.pure] at h
 repeat' split at h
 all_goals first|(cases h;rfl)|(cases h;done)|(simp only [throw,throwThe,MonadExceptOf.throw] at h;cases h;done)
theorem qh {p:Program} {w:World} {a:Addr} {v:Value} {b:Bool} {w':World} {l:List Addr} (h:w.farStore p a v b=.ok (w',l)):w'.drawn=w.drawn:=by
 unfold World.farStore at h;split at h
 ·split at h
  ·rename_i e;cases h;exact oJ e
  ·cases h
 ·cases h
theorem oK {α : Type} (p:Program):∀(m:Sem α) (w:World) (n:Nat),n<=w.drawn->GJ n (m.run p w):=by
 intro m
 induction m with
 |pure a=>intro w n h;exact h
 |load m a k ih =>
  intro w n h;simp only [Sem.run]
  repeat' split
  all_goals first|exact ih _ _ _ h|exact h
 |store m a v k ih =>
  intro w n h;cases v<;>simp only [Sem.run]<;>repeat' split
  all_goals first|exact ih _ _ h|exact h|(rename_i e;exact ih _ _ (by rw [qh e];exact h))
 |new o k ih=>intro w n h;simp only [Sem.run];exact ih _ _ _ h
 |shape r k ih=>intro w n h;simp only [Sem.run];exact ih _ _ _ h
 |freeze a m k ih=>intro w n h;simp only [Sem.run];exact ih _ _ (by unfold World.freeze;split<;>exact h)
 |frozen a k ih=>intro w n h;simp only [Sem.run];exact ih _ _ _ h
 |getObj r k ih =>
  intro w n h;simp only [Sem.run]
  repeat' split
  all_goals first|exact ih _ _ _ h|exact h
 |setObj r o k ih =>
  intro w n h;simp only [Sem.run]
  repeat' split
  all_goals first|exact ih _ _ h|exact h
 |choose q k ih =>
  intro w n h;simp only [Sem.run];split
  ·exact ih _ _ _ h
  ·exact ih _ _ _ (Nat.le_trans h (Nat.le_succ _))
 |sys c k ih=>intro w n h;simp only [Sem.run];exact ih _ _ _ (Nat.le_trans h (Bz w c))
 |program k ih=>intro w n h;simp only [Sem.run];exact ih _ _ _ h
 |mark _ k ih=>intro w n h;simp only [Sem.run];exact ih _ _ h
 |halt _=>intro w n h;exact h
theorem bn {α : Type} {p:Program} {m:Sem α} {w w':World} {a : α} (h:m.run p w=.ok a w') {n:Nat} (hn:n<=w.drawn):n<=w'.drawn:=by
 have:=oK p m w n hn;rw [h] at this;exact this
theorem gR {α : Type} {p:Program} {m:Sem α} {w w':World} {a:Halt} (h:m.run p w=.halt a w') {n:Nat} (hn:n<=w.drawn):n<=w'.drawn:=by
 have:=oK p m w n hn;rw [h] at this;exact this
def UpG (n:Nat):GStep->Prop
 |.go _ w _=>n<=w.drawn
 |.comm _ _ _ _ w _=>n<=w.drawn
 |.spawn _ _ w _=>n<=w.drawn
 |.count _ w _=>n<=w.drawn
 |.timer _ _ w _=>n<=w.drawn
 |.alone _ _ w _=>n<=w.drawn
 |.newcoro _ _ _ w _=>n<=w.drawn
 |.coroswitch _ _ _ w _=>n<=w.drawn
 |.collect _ w _=>n<=w.drawn
 |.watch _ w _=>n<=w.drawn
 |.ended _ _ _=>True
theorem UpG.after {n:Nat} {es:Array Event} {s:GStep} (h:UpG n s):UpG n (GStep.after es s):=by
 cases s<;>exact h
def Ef (n:Nat):Stepped->Prop
 |.next m=>n<=m.world.drawn
 |.ended _ _=>True
theorem sH {n:Nat} {w:World} {fd:Nat} {t:ByteArray} {o:Outcome}:UpG n (endWith w fd t o):=by
 unfold endWith
 repeat' split
 all_goals trivial
theorem wT {n:Nat} {fr:Frame} {a:List ByteArray} {m:String} {b:Bool} {w:World} (h:n<=w.drawn):UpG n (dieOf fr a m b w):=h
theorem fB {n:Nat} {fr:Frame} {m:String} {w:World} (h:n<=w.drawn):UpG n (endThrow fr m w):=h
theorem gS {n:Nat} {p:Program} {fr:Frame} {v:Value} {w:World} (h:n<=w.drawn):UpG n (endPrinting p fr v w):=by
 unfold endPrinting;dsimp only;split
 ·exact fB h
 ·trivial
theorem kA {n:Nat} {p:Program} {fr:Frame} {cs:List Frame} {d:Option Dying} {m:String} {w:World} (h:n<=w.drawn):UpG n (endFatal p fr cs d m w):=by
 unfold endFatal;dsimp only;split
 ·rename_i e;exact wT (bn e h)
 ·trivial
 ·trivial
theorem sI {n:Nat} {p:Program} {fr:Frame} {d:Dying} {f:Fatal} {w:World} (h:n<=w.drawn):UpG n (writeOn p fr d f w):=by
 unfold writeOn;dsimp only;simp only [Sem.runT_eq];split
 ·trivial
 ·split
  ·rename_i e;exact bn (congrArg Prod.fst e) h
  ·rename_i e;exact gR (congrArg Prod.fst e) h
  ·trivial
  ·trivial
theorem BA {n:Nat} {p:Program} {fr:Frame} {d:Dying} {w:World} (h:n<=w.drawn):UpG n (die p fr d w):=by
 unfold die;simp only [Sem.runT_eq];split
 ·exact sI h
 ·split
  ·split
   ·exact h
   ·exact sH
  ·split
   ·exact h
   ·split
    ·rename_i e;exact bn e h
    ·trivial
   ·refine UpG.after ?_;split
    ·rename_i e;exact bn e h
    ·rename_i e;exact bn e h
    ·trivial
    ·rename_i e;exact gS (gR e h)
    ·trivial
   ·trivial
theorem fC {n:Nat} {p:Program} {b:Bool} {fr:Frame} {cs:List Frame} {d:Option Dying} {v:Value} {w:World} (h:n<=w.drawn):UpG n (doReturn p b fr cs d v w):=by
 unfold doReturn
 repeat' split
 all_goals first|exact h|trivial
theorem kL {n:Nat} {p:Program} {fr:Frame} {cs:List Frame} {o:Option Dying} {d:Deferred} {w:World} (h:n<=w.drawn):UpG n (callDeferred p fr cs o d w):=by
 have hr:=oK p (invoke d.target d.args) w n h;unfold callDeferred;simp only [Sem.runT_eq];generalize (invoke d.target d.args).run p w=r at hr;refine iteInduction (motive:=UpG n) (λ_=>trivial) λ_=>?_;refine UpG.after ?_;split
 all_goals first
  |trivial
  |exact hr
  |exact kA hr
  |exact fB hr
  |(split<;>exact hr)
theorem uX {n:Nat} {p:Program} {b:Bool} {fr:Frame} {cs:List Frame} {d:Option Dying} {w:World} (h:n<=w.drawn):UpG n (unwind p b fr cs d w):=by
 unfold unwind;simp only [Sem.runT_eq]
 repeat' (first|refine UpG.after ?_|split)
 all_goals first
  |trivial
  |exact h
  |exact kL h
  |exact gS h
  |exact fC h
  |(rename_i e;first|exact bn e h|exact gR e h|exact fC (bn e h))
  |skip
theorem wU {n:Nat} {p:Program} {fr:Frame} {cs:List Frame} {d:Option Dying} {g:Nat} {w:World} (h:n<=w.drawn):UpG n (early p fr cs d g w):=by
 unfold early;dsimp only
 repeat' split
 all_goals first
  |trivial
  |exact h
  |(rename_i e _ _ _ _;exact bn e h)
  |(rename_i e _ _ _;exact bn e h)
  |(rename_i e _ _;exact bn e h)
  |(rename_i e _;exact bn e h)
  |(rename_i e;exact bn e h)
  |skip
theorem fj {n:Nat} {p:Program} {l:Bool} {fr:Frame} {cs:List Frame} {d:Option Dying} {s:Sem Next} {w:World} (h:n<=w.drawn):UpG n (stepG.apply p l fr cs d s w):=by
 have hr:=oK p s w n h;unfold stepG.apply;dsimp only;have e1:(if l=true then s.runT p w #[] else(s.run p w,#[])).1=s.run p w:=by cases l<;>simp
 rw [e1];refine UpG.after ?_;generalize s.run p w=r at hr;split
 all_goals first
  |exact hr
  |trivial
  |exact kA hr
  |exact fB hr
  |exact wU hr
  |(split<;>first|exact hr|(split<;>exact hr))
  |(split;exact fB hr;exact hr)
  |skip
theorem tQ {n:Nat} {p:Program} {l:Bool} {fr:Frame} {cs:List Frame} {d:Option Dying} {w:World} (h:n<=w.drawn):UpG n (stepG.oper p l fr cs d w):=by
 unfold stepG.oper
 repeat' split
 all_goals first|trivial|exact fj h
theorem ic {α : Type} {n:Nat} {o:Option α} {a:GStep} {f : α->GStep} (h1:UpG n a) (h2:∀k,UpG n (f k)):UpG n (o.elim a f):=by
 cases o
 ·exact h1
 ·exact h2 _
theorem yZ {n:Nat} {p:Program} {b l:Bool} {fr:Frame} {cs:List Frame} {d:Option Dying} {w:World} (h:n<=w.drawn):UpG n (stepG.exec p b l fr cs d w):=by
 unfold stepG.exec;dsimp only;simp only [Sem.runT_eq]
 repeat' (first|exact fj h|exact tQ h|(rename_i e;exact fj (bn e h))|exact ic trivial λ_=>fj h|refine UpG.after ?_|split)
 all_goals first
  |trivial
  |exact h
  |exact fj h
  |exact tQ h
  |(rename_i e;first|exact bn e h|exact gR e h|exact fC (bn e h)|exact fj (bn e h)|exact ic (UpG.after (fC (bn e h))) λ_=>h|exact ic (UpG.after trivial) λ_=>h)
  |exact ic trivial λ_=>fj h
  |exact ic trivial λ_=>h
  |exact ic h λ_=>h
  |skip
theorem wV {n:Nat} {p:Program} {b l:Bool} {g:Goroutine} {w:World} (h:n<=w.drawn):UpG n (stepG p b g w l):=by
 unfold stepG;dsimp only;split
 ·exact BA h
 ·exact yZ h
 ·exact uX h
theorem oL {rest:Rest} {cs:Array CommCase} {w w':World} (h:waitingAt rest cs w=some w'):w'.drawn=w.drawn:=by
 unfold waitingAt at h;split at h
 ·split at h
  ·cases h;rfl
  ·cases h
 ·cases h;rfl
theorem lZ {n:Nat} {p:Program} {rest:Rest} {gs:Array Goroutine} {i:Nat} {g:Goroutine} {cs:Array CommCase} {b:Bool} {sh:CommShape} {w:World} (h:n<=w.drawn):Ef n (communicate p rest gs i g cs b sh w).1:=by
 unfold communicate;dsimp only;split
 ·trivial
 ·split
  ·split
   ·split
    ·rename_i e;show n<=_;rw [oL e];exact h
    ·trivial
   ·exact h
  ·split
   ·trivial
   ·rename_i e
    have h2:=bn e h;split
    ·split
     ·rename_i e3;exact gR e3 h2
     ·trivial
    ·exact h2
    ·exact h2
    ·split
     ·exact h2
     ·split
      ·rename_i e3;exact bn e3 h2
      ·trivial
    ·exact h2
    ·exact h2
    ·trivial
theorem tR {n:Nat} {p:Program} {gs:Array Goroutine} {rest:Rest} {w:World} (h:n<=w.drawn):Ef n (look p gs rest w):=by
 unfold look;dsimp only;split
 ·split
  ·trivial
  ·split
   ·trivial
   ·split
    ·rename_i e;exact bn e h
    ·trivial
    ·trivial
 ·trivial
theorem wW (w:World) (c:Nat):(drain w c).2.drawn=w.drawn:=by
 unfold drain;split<;>rfl
theorem m7 (m:Machine) (k:Nat) (t:Timer) (a b:Nat):(retime m k t a b).2.world.drawn=m.world.drawn:=by
 unfold retime;dsimp only;cases t.chan
 ·rfl
 ·exact wW _ _
theorem sJ {m m':Machine} {op:TimerOp} {v:Value} (h:timerOp m op=.ok (v,m')):m'.world.drawn=m.world.drawn:=by
 have nm:∀(m:Machine) (var:Addr) (f:Nat->Timer->Value×Machine),(∀k t,(f k t).2.world.drawn=m.world.drawn)->timerOp.named m var f=.ok (v,m')->m'.world.drawn=m.world.drawn:=by
  intro m var f hf h;unfold timerOp.named at h;split at h
  ·injection h with h;rw [<-hf _ _,h]
  ·cases h
 unfold timerOp at h;split at h
 ·split at h
  ·injection h with h;injection h with _ h;subst h;rfl
  ·split at h
   ·split at h
    ·cases h
    ·injection h with h;injection h with _ h;subst h;rfl
   ·cases h
 ·exact nm _ _ _ (λk t=>m7 _ _ _ _ _) h
 ·split at h
  ·rename_i e
   have:∀var m2,timerOp.opened m var=some m2->m2.world.drawn=m.world.drawn:=by
    intro var m2 e;unfold timerOp.opened at e;split at e
    ·split at e
     ·cases e;rfl
     ·cases e
    ·cases e;rfl
   exact nm _ _ _ (λk t=>by rw [m7];exact this _ _ e) h
  ·cases h
 ·injection h with h;injection h with _ h;subst h;rfl
theorem y3 {p:Program} {m:Machine} {i:Nat} {l:Bool}:Ef m.world.drawn (runT p m i l).1:=by
 unfold runT;dsimp only;have hG:=wV (p:=p) (b:=i==0) (l:=l) (g:=(m.gs.swapAt! i { (default:Goroutine) with status:=.finished }).1) (w:=m.world) (Nat.le_refl _);revert hG;generalize stepG p (i==0) (m.gs.swapAt! i { (default:Goroutine) with status:=.finished }).1 m.world l=s;intro hG;split
 ·trivial
 ·exact lZ hG
 ·exact hG
 ·exact hG
 ·split
  ·trivial
  ·exact hG
 ·exact hG
 ·exact tR hG
 ·exact hG
 ·exact hG
 ·split
  ·exact hG
  ·exact hG
  ·trivial
 ·split
  ·rename_i e;show _<=_;exact Nat.le_trans hG (Nat.le_of_eq (sJ e).symm)
  ·exact hG
  ·trivial
  ·trivial
def FE (n:Nat):Move->Prop
 |.goroutine m _=>n<=m.world.drawn
 |.machine s _=>Ef n s
theorem wX {n:Nat} {p:Program} {m:Machine} {k:Nat} (h:n<=m.world.drawn):Ef n (serve p m k):=by
 unfold serve;dsimp only;split
 ·trivial
 ·exact h
 ·split
  ·trivial
  ·exact h
theorem l0 {n:Nat} {p:Program} {m:Machine} (h:n<=m.world.drawn):FE n (askOn p m):=by
 unfold askOn;dsimp only;split
 ·trivial
 ·rename_i w0 e
  have h2:=bn e h;split
  ·exact wX h2
  ·split
   ·split
    ·exact h2
    ·split
     ·exact h2
     ·split<;>trivial
   ·split
    ·split
     ·trivial
     ·rename_i e3
      have h3:=bn e3 h2;split
      ·exact h3
      ·split
       ·trivial
       ·rename_i e4;exact bn e4 h3
    ·split
     ·trivial
     ·rename_i w1 e2
      split
      ·trivial
      ·rename_i e3
       have h3:=bn e3 (bn e2 h2);split
       ·exact h3
       ·split
        ·trivial
        ·rename_i e4;exact bn e4 h3
     ·rename_i e2;exact bn e2 h2
     ·rename_i k w1 e2
      split
      ·trivial
      ·rename_i e3
       have h3:=bn e3 (n:=n) (w:=(Machine.advanceTo { m with world:=w1 } _).world) (bn e2 h2);split
       ·exact h3
       ·split
        ·trivial
        ·rename_i e4;exact bn e4 h3
theorem tS {n:Nat} {p:Program} {m:Machine} (h:n<=m.world.drawn):FE n (ask p m):=by
 unfold Go.ask;split
 ·split
  ·trivial
  ·rename_i e
   have hl:=tR (p:=p) (gs:=m.gs) (rest:=m.rest) (bn e h);split
   ·rename_i e2;rw [e2] at hl;exact l0 hl
   ·exact hl
  ·rename_i e;exact l0 (bn (by assumption) h)
 ·exact l0 h
theorem y4 {p:Program} {m:Machine}:FE m.world.drawn (move p m):=by
 unfold move;split
 ·split
  ·exact Nat.le_refl _
  ·trivial
 ·split
  ·split
   ·exact Nat.le_refl _
   ·exact tS (Nat.le_refl _)
  ·exact tS (Nat.le_refl _)
theorem y5 {p:Program} {m m':Machine} (h:step p m=.next m'):m.world.drawn<=m'.world.drawn:=by
 have hm:=y4 (p:=p) (m:=m);unfold step stepT at h;revert h hm;cases move p m with
 |goroutine m2 i =>
  intro h hm;have:=y3 (p:=p) (m:=m2) (i:=i) (l:=true);simp only at h;rw [h] at this;exact Nat.le_trans hm this
 |machine s ops =>
  intro h hm;simp only at h;subst h;exact hm
theorem wY {p:Program} {m m':Machine} (h:Steps p m m'):m.world.drawn<=m'.world.drawn:=by
 obtain⟨k,hk⟩:=h
 induction k generalizing m with
 |zero=>simp [runN] at hk;rw [hk];exact Nat.le_refl _
 |succ k ih =>
  simp only [runN] at hk;cases hs:step p m with
  |next m1=>rw [hs] at hk;exact Nat.le_trans (y5 hs) (ih hk)
  |ended o w=>rw [hs] at hk;simp at hk
theorem wZ {P:Program} {f:FuncId} {args:Array Value} {w:World} {R:Ending->World->Prop} (h:Calls P f args w R):Calls P f args w λe w'=>R e w'/\∀v,e=.returned v->w.drawn<=w'.drawn:=by
 intro cs;obtain⟨e,w',fr,hR,hC,h1,h2⟩:=h cs;refine⟨e,w',fr,⟨hR,λv hv=>?_⟩,hC,h1,h2⟩;subst hv;exact wY (m:=lone (Frame.enter P f args .normal) cs w) (m':=lone fr cs w') hC
open Go.Sort
theorem kM {w:World} {g:Nat} {cur:Array Value} {e:TypeId} {F:Array Value} (hb:w.heap[g]? = some (.cells cur e (0,0))) (ht:cur.toList.take F.size=F.toList):Holds id w g 0 F:=by
 intro j hj;refine⟨?_,by simp [World.frozen?,hb]⟩;have h1:(cur.toList.take F.size)[j]? = F.toList[j]?:=by rw [ht]
 rw [List.getElem?_take_of_lt hj] at h1;simp only [World.cell?,hb,Nat.zero_add];simp only [Option.isSome_none,Bool.false_eq_true,if_false];rw [<-Array.getElem?_toList,h1];simp [hj]
theorem oM {w:World} {g n:Nat} {os:Array Obj} {cur:Array Value} {e:TypeId} {fr:Nat×Nat} (d:Array Value) (hb:w.heap[g]? = some (.cells cur e fr)) :
  (grow (putRow id (Sort.ahead w n) g 0 d) os).heap[g]? = some (.cells (putCells id 0 d cur) e fr):=by
 have hg:g < w.heap.size:=(Array.getElem?_eq_some_iff.1 hb).1;rw [heap_grow_old _ _ (by simpa using hg)];simp [putRow,mapBlock,Sort.ahead,Array.getElem?_modify,hb,onCells]
theorem kN {w:World} {g n:Nat} {os:Array Obj} (d:Array Value):w.grownBy (grow (putRow id (Sort.ahead w n) g 0 d) os) (some g):=by
 refine⟨rfl,rfl,rfl,by simp,λk hk hne=>?_⟩;rw [heap_grow_old _ _ (by simpa using hk)];have:g≠k:=λe=>hne (by rw [e]);simp [putRow,mapBlock,Sort.ahead,Array.getElem?_modify,this]
theorem l4 (cur:Array Value) (F:Array Value) (h:F.size<=cur.size):(putCells id 0 F cur).toList.take F.size=F.toList:=by
 apply List.ext_getElem?;intro j;by_cases hj:j < F.size
 ·rw [List.getElem?_take_of_lt hj,Array.getElem?_toList];simp [putCells,hj,show j < cur.size by omega]
 ·rw [List.getElem?_take_eq_none (by omega),List.getElem?_eq_none (by simp;omega)]
theorem kO {w:World} {base g cap n m es:Nat} {e:TypeId} {os:Array Obj} {cur:Array Value} {F:Array Value} (hF:F.size=m*es) (hbase:base<=g) (hb:w.heap[g]? = some (.cells cur e (0,0)))
  (h1:m<=cap) (h2:cap<=maxLen) (h3:cur.size=cap*es) :
  (grow (putRow id (Sort.ahead w n) g 0 F) os).ownsRow base e es (.slice (some ⟨g,0,none⟩) m cap) m F.toList :=
 ⟨by simp [hF],.inr ⟨g,cap,_,rfl,hbase,oM _ hb,h1,h2,by simp [putCells,h3],by
  rw [<-hF];exact l4 cur F (by rw [hF,h3];exact Nat.mul_le_mul_right _ h1)⟩⟩
theorem y6 {w w':World} (h:RowKit.Below w.heap.size w w') (hd:w.drawn<=w'.drawn):∃q os,w'=grow (w.drewN q) os:=by
 refine⟨w'.drawn - w.drawn,w'.heap.extract w.heap.size w'.heap.size,?_⟩;have hheap:w'.heap=w.heap++w'.heap.extract w.heap.size w'.heap.size:=by
  apply Array.ext_getElem?;intro k;by_cases hk:k < w.heap.size
  ·rw [h.block k hk,Array.getElem?_append_left hk]
  ·have:=h.size;rw [Array.getElem?_append_right (by omega),Array.getElem?_extract];split
   ·congr 1;omega
   ·rw [Array.getElem?_eq_none (by omega)]
 obtain⟨hp,tp,dr,os,ou⟩:=w';obtain⟨hp0,tp0,dr0,os0,ou0⟩:=w;have e1:os=os0:=h.os;have e2:tp=tp0:=h.tape;have e3:ou=ou0:=h.output;subst e1;subst e2;subst e3;simp only at hheap hd ⊢;unfold grow World.drewN;simp only;rw [<-hheap,show dr0+(dr - dr0)=dr by omega]
end Go.Ex
namespace Go.Num
open Go.Sort
def PtS.enc (p:PtS):List Value:=[.bool p.x.s,.string p.x.b,.string p.x.c,.bool p.y.s,.string p.y.b,.string p.y.c]
structure PtB where
 v:PtS
 h:v.le 10000
instance:Inhabited PtB:=⟨⟨⟨⟨false,⟨#[]⟩,⟨#[]⟩⟩,⟨false,⟨#[]⟩,⟨#[]⟩⟩⟩,⟨by decide,by decide⟩,by decide,by decide⟩⟩
instance (k:Nat) (r:RatS):Decidable (r.le k):=inferInstanceAs (Decidable (_/\_))
instance (k:Nat) (p:PtS):Decidable (p.le k):=inferInstanceAs (Decidable (_/\_))
def ij (x y:PtB):Int:=dp x.1 y.1
def j9 (V:List PtB):List PtB:=(pdq (ltOf ij) V.toArray 0 V.toArray.size (Lib.bitLen V.toArray.size) true true).toList
def aL (V:List PtS):List PtS:=if h:∀p∈V,p.le 10000 then(j9 (V.pmap PtB.mk h)).map (·.1) else V
theorem qi {a b:Rat}:an a b < 0↔a < b:=by
 unfold an;split
 ·rename_i h;exact⟨λ_=>h,λ_=>by decide⟩
 ·split
  ·rename_i h _;exact⟨λh2=>absurd h2 (by decide),λh2=>absurd h2 h⟩
  ·rename_i h _;exact⟨λh2=>absurd h2 (by decide),λh2=>absurd h2 h⟩
theorem qj {a b:Rat}:an a b=0↔a=b:=by
 unfold an;split
 ·rename_i h;exact⟨λh2=>absurd h2 (by decide),λh2=>by subst h2;exact absurd h (Rat.lt_irrefl)⟩
 ·split
  ·rename_i h;exact⟨λh2=>absurd h2 (by decide),λh2=>by subst h2;exact absurd h (Rat.lt_irrefl)⟩
  ·rename_i h1 h2;exact⟨λ_=>Rat.le_antisymm (Rat.not_lt.1 h2) (Rat.not_lt.1 h1),λ_=>rfl⟩
theorem jw {p u:PtS}:dp p u < 0↔p.X < u.X\/(p.X=u.X/\p.Y < u.Y):=by
 unfold dp;split
 ·rename_i h
  rw [qj] at h;rw [qi];exact⟨λh2=>.inr ⟨h,h2⟩,λh2=>h2.elim (λh3=>absurd (h▸h3) Rat.lt_irrefl) (·.2)⟩
 ·rename_i h
  rw [qj] at h;rw [qi];exact⟨.inl,λh2=>h2.elim id λh3=>absurd h3.1 h⟩
theorem Eg {a b c:Rat} (h:a < b) (k:b < c):a < c:=by grind
theorem Eh:SWO (ltOf ij) where
 irrefl x:=by
  unfold ltOf ij;rw [decide_eq_false_iff_not,jw];rintro (h|h)
  ·exact Rat.lt_irrefl h
  ·exact Rat.lt_irrefl h.2
 trans x y z h1 h2:=by
  unfold ltOf ij at *
  rw [decide_eq_true_iff,jw] at *
  rcases h1 with h1|⟨e1,h1⟩<;>rcases h2 with h2|⟨e2,h2⟩
  ·exact .inl (Eg h1 h2)
  ·exact .inl (e2▸h1)
  ·exact .inl (e1▸h2)
  ·exact .inr ⟨e1.trans e2,Eg h1 h2⟩
 ntrans x y z h1 h2:=by
  unfold ltOf ij at *
  rw [decide_eq_false_iff_not,jw] at *
  rintro (h|⟨e,h⟩)
  ·refine h1 (.inl ?_);have:¬y.1.X < z.1.X:=λh3=>h2 (.inl h3);have t2:=Rat.not_lt.1 this
   grind
  ·have a1:y.1.X<=x.1.X:=Rat.not_lt.1 λh3=>h1 (.inl h3);have a2:z.1.X<=y.1.X:=Rat.not_lt.1 λh3=>h2 (.inl h3);have e1:x.1.X=y.1.X:=Rat.le_antisymm (e▸a2) a1;have e2:y.1.X=z.1.X:=e1.symm.trans e;have b1:y.1.Y<=x.1.Y:=Rat.not_lt.1 λh3=>h1 (.inr ⟨e1,h3⟩);have b2:z.1.Y<=y.1.Y:=Rat.not_lt.1 λh3=>h2 (.inr ⟨e2,h3⟩);exact absurd h (Rat.not_lt.2 (Rat.le_trans b2 b1))
theorem m8 (V:List PtB):PermIn 0 V.toArray.size V.toArray (pdq (ltOf ij) V.toArray 0 V.toArray.size (Lib.bitLen V.toArray.size) true true)/\SortedIn (ltOf ij) 0 V.toArray.size (pdq (ltOf ij) V.toArray 0 V.toArray.size (Lib.bitLen V.toArray.size) true true) :=
 pdq_sorts (ltOf ij) Eh V.toArray 0 V.toArray.size _ true true (Nat.zero_le _) (Nat.le_refl _) (Or.inl rfl)
theorem m9 (V:List PtB):(j9 V).Perm V:=by
 obtain⟨⟨hs,_,hp⟩,_⟩:=m8 V;unfold j9;generalize pdq (ltOf ij) V.toArray 0 V.toArray.size (Lib.bitLen V.toArray.size) true true=d at *
 rw [Array.extract_size,<-hs,Array.extract_size] at hp;exact hp
theorem uY (V:List PtB):(j9 V).length=V.length:=(m9 V).length_eq
theorem qk (V:List PtB):(j9 V).Pairwise λx y=>¬dp y.1 x.1 < 0:=by
 obtain⟨⟨hs,_,_⟩,h⟩:=m8 V;unfold j9;generalize pdq (ltOf ij) V.toArray 0 V.toArray.size (Lib.bitLen V.toArray.size) true true=d at *
 rw [List.pairwise_iff_getElem];intro i j hi hj hij;have hi':i < d.size:=by simpa using hi
 have hj':j < d.size:=by simpa using hj
 have:=h i j (Nat.zero_le _) hij (by omega);unfold ltOf ij at this;rw [getElem!_pos d i hi',getElem!_pos d j hj'] at this;simpa using this
theorem l5:∀{V:List PtS} (h:∀p∈V,p.le 10000),(V.pmap PtB.mk h).map (λx:PtB=>x.1)=V
 |[],_=>rfl
 |p::V,h=>by
  rw [List.pmap_cons,List.map_cons,l5 λq hq=>h q (List.mem_cons_of_mem _ hq)]
theorem fT (V:List PtS):(aL V).Perm V:=by
 unfold aL;split
 ·rename_i h
  have:=(m9 (V.pmap PtB.mk h)).map (λx:PtB=>x.1);rw [l5] at this;exact this
 ·exact List.Perm.refl _
theorem na (V:List PtS):(aL V).length=V.length:=(fT V).length_eq
theorem ql {V:List PtS} (h:∀p∈V,p.le 10000):(aL V).Pairwise λx y=>¬dp y x < 0:=by
 unfold aL;rw [dif_pos h,List.pairwise_map];exact qk _
end Go.Num
namespace Go.Proofs
def FF:Shelf.Ren where
 f:=λx=>match x with
  |6=>128
  |14=>176
  |15=>121
  |20=>213
  |21=>214
  |22=>215
  |23=>216
  |24=>217
  |25=>218
  |26=>219
  |27=>220
  |28=>165
  |29=>166
  |46=>241
  |47=>202
  |48=>203
  |49=>242
  |50=>243
  |57=>254
  |n=>n
 t:=λx=>match x with
  |22=>34
  |24=>25
  |25=>71
  |39=>140
  |45=>181
  |46=>182
  |50=>125
  |53=>139
  |55=>137
  |66=>216
  |70=>220
  |76=>239
  |77=>240
  |n=>n
 g:=λn=>n
theorem zJ:SlLaysF0.n6 Tryz.prog FF :=
 { mixed:=aj,f6:=⟨Tryz.f128.name,by kernel_rfl,Eq.trans Tryz.func128 (congrArg some (by kernel_rfl))⟩,f14:=⟨Tryz.f176.name,by kernel_rfl,Eq.trans Tryz.func176 (congrArg some (by kernel_rfl))⟩,f15:=Eq.trans Tryz.func121 (congrArg some (by kernel_rfl)),f20:=⟨Tryz.f213.name,by kernel_rfl,Eq.trans Tryz.func213 (congrArg some (by kernel_rfl))⟩,f21:=⟨Tryz.f214.name,by kernel_rfl,Eq.trans Tryz.func214 (congrArg some (by kernel_rfl))⟩,f22:=⟨Tryz.f215.name,by kernel_rfl,Eq.trans Tryz.func215 (congrArg some (by kernel_rfl))⟩,f23:=⟨Tryz.f216.name,by kernel_rfl,Eq.trans Tryz.func216 (congrArg some (by kernel_rfl))⟩,f24:=⟨Tryz.f217.name,by kernel_rfl,Eq.trans Tryz.func217 (congrArg some (by kernel_rfl))⟩,f25:=⟨Tryz.f218.name,by kernel_rfl,Eq.trans Tryz.func218 (congrArg some (by kernel_rfl))⟩,f26:=⟨Tryz.f219.name,by kernel_rfl,Eq.trans Tryz.func219 (congrArg some (by kernel_rfl))⟩,f27:=⟨Tryz.f220.name,by kernel_rfl,Eq.trans Tryz.func220 (congrArg some (by kernel_rfl))⟩,f28:=Eq.trans Tryz.func165 (congrArg some (by kernel_rfl)),f29:=Eq.trans Tryz.func166 (congrArg some (by kernel_rfl)),f46:=⟨Tryz.f241.name,by kernel_rfl,Eq.trans Tryz.func241 (congrArg some (by kernel_rfl))⟩,f47:=Eq.trans Tryz.func202 (congrArg some (by kernel_rfl)),f48:=Eq.trans Tryz.func203 (congrArg some (by kernel_rfl)),f49:=⟨Tryz.f242.name,by kernel_rfl,Eq.trans Tryz.func242 (congrArg some (by kernel_rfl))⟩,f50:=⟨Tryz.f243.name,by kernel_rfl,Eq.trans Tryz.func243 (congrArg some (by kernel_rfl))⟩,f57:=⟨Tryz.f254.name,by kernel_rfl,Eq.trans Tryz.func254 (congrArg some (by kernel_rfl))⟩,t0:=Tryz.underlying0,a0:=Tryz.isAgg0,z0:=Tryz.sizeOf0,v0:=Tryz.zeroValue0,t3:=Tryz.underlying3,a3:=Tryz.isAgg3,z3:=Tryz.sizeOf3,v3:=Tryz.zeroValue3,t4:=Tryz.underlying4,a4:=Tryz.isAgg4,z4:=Tryz.sizeOf4,v4:=Tryz.zeroValue4,t5:=Tryz.underlying5,a5:=Tryz.isAgg5,z5:=Tryz.sizeOf5,v5:=Tryz.zeroValue5,t9:=Tryz.underlying9,a9:=Tryz.isAgg9,z9:=Tryz.sizeOf9,v9:=Tryz.zeroValue9,t22:=Tryz.underlying34,a22:=Tryz.isAgg34,z22:=Tryz.sizeOf34,v22:=Tryz.zeroValue34,t25:=Tryz.underlying71,a25:=Tryz.isAgg71,z25:=Tryz.sizeOf71,v25:=Tryz.zeroValue71,t39:=Tryz.underlying140,a39:=Tryz.isAgg140,z39:=Tryz.sizeOf140,v39:=Tryz.zeroValue140,t45:=Tryz.underlying181,a45:=Tryz.isAgg181,z45:=Tryz.sizeOf181,v45:=Tryz.zeroValue181,t46:=Tryz.underlying182,a46:=Tryz.isAgg182,z46:=Tryz.sizeOf182,v46:=Tryz.zeroValue182,t50:=Tryz.underlying125,a50:=Tryz.isAgg125,z50:=Tryz.sizeOf125,v50:=Tryz.zeroValue125,t53:=Tryz.underlying139,a53:=Tryz.isAgg139,z53:=Tryz.sizeOf139,v53:=Tryz.zeroValue139,t55:=Tryz.underlying137,a55:=Tryz.isAgg137,z55:=Tryz.sizeOf137,v55:=Tryz.zeroValue137,t66:=Tryz.underlying216,a66:=Tryz.isAgg216,z66:=Tryz.sizeOf216,v66:=Tryz.zeroValue216,t70:=Tryz.underlying220,a70:=Tryz.isAgg220,z70:=Tryz.sizeOf220,v70:=Tryz.zeroValue220,t76:=Tryz.underlying239,a76:=Tryz.isAgg239,z76:=Tryz.sizeOf239,v76:=Tryz.zeroValue239,t77:=Tryz.underlying240,a77:=Tryz.isAgg240,z77:=Tryz.sizeOf240,v77:=Tryz.zeroValue240 }
end Go.Proofs
namespace Go.Ex
open Go.RowKit Go.Sort
theorem Ei (x y:PtB) (W:World):Calls Tryz.prog 38 #[x.1.v,y.1.v] W λe w'=>e=.returned (.int .i64 (ij x y))/\∃q os',w'=grow (W.drewN q) os':=by
 have h:=f38 [.val x.1.v,.val y.1.v] _ rfl;have h2:=h.2 (λp hp=>by cases hp;exact⟨⟨_,rfl,x.2.mono (by decide)⟩,_,rfl,y.2.mono (by decide)⟩) (λ_=>False) W #[x.1.v,y.1.v] (λ_ h=>h.elim) rfl (λi p v hp hv=>by
  match i,hp,hv with
  |0,hp,hv=>cases hp;cases hv;exact .val _
  |1,hp,hv=>cases hp;cases hv;exact .val _
  |i+2,hp,_=>simp at hp)
 refine(wZ h2).mono ?_;rintro e w' ⟨⟨v,β,rfl,hres⟩,hd⟩;have hv:=hres.val.val_eq;exact⟨congrArg Ending.returned hv,y6 hres.below (hd _ rfl)⟩
def BB:Trans:=λargs s K=>match args with
 |[.sl id st 0 n,.val (.func (.func 38) ⟨[]⟩ ⟨[]⟩)]=>match dX s.H id st with
  |some ⟨ty,es,st',box,arr,m,get⟩=>(es=6/\box=false/\n=m/\n<=1000000)/\∃V:List PtS,V.length=n/\(∀p∈V,p.le 10000)/\(∀i,i < n->get i=(ae V i).cells)/\(n=0->K (.val (.tuple ⟨[]⟩)) s) /\
    (0 < n->match s with
     |⟨fr,H,nx,sv⟩=>K (.val (.tuple ⟨[]⟩)) ⟨fr,H.set id ⟨ty,es,st',box,arr,m,λi=>(ae (aL V) i).cells⟩,nx,sv⟩)
  |none=>False
 |_=>False
theorem Ej:ak ({}:Opt).toOrd Tryz.f128 2=true:=by kernel_rfl
theorem qm {V:List PtB} {t:Nat} (ht:t < V.length*6):(flatK (λx:PtB=>x.1.enc) 6 V.toArray)[t]! = ((V[t / 6]!).1.enc)[t%6]!:=by
 rw [get_flatK _ _ _ _ (by simpa using ht)];simp
theorem FG:dP Tryz.prog 128 BB:=by
 refine⟨λvs w=>?_,λZ G n A a w s args vs K hZ hS e=>?_⟩
 ·obtain⟨⟨c,hb,h1⟩,h2,h3,h4⟩:=eu Ej;exact de Tryz.func128 h4 hb vs w
 unfold BB at e;split at e
 ·rename_i id st m
  split at e
  ·rename_i ty es st' box arr m' get hb
   obtain⟨⟨rfl,rfl,rfl,hmx⟩,V,hVl,hVle,hz,k0,k1⟩:=e;obtain⟨b,ok,β,hzz,hr,hA1,hA2,hA3,hl,hR⟩:=hS;obtain⟨vl⟩:=vs
   match vl,hl,hR with
   |[v,fv],hl,hR =>
    have hv:=hR 0 _ v rfl rfl;have hf:=(hR 1 _ fv rfl rfl).val_eq;subst hf;obtain⟨e3,e4⟩:=hv.sl_inv hb;have e3:v=sub 6 0 m (β id):=e3.resolve_right λq=>q.1 rfl;have hb':=(aO hb).1;obtain⟨xs,h1,h2,_,_,h3⟩:=hr.heap.own id _ hb';rcases Nat.eq_zero_or_pos m with h0|h0
    ·subst h0;obtain⟨ad,c,rfl⟩:∃ad c,v=.slice ad 0 c:=by
      rcases hr.heap.slice_of hb' with ⟨e5,_⟩|⟨g,c,e5,_⟩
      ·rw [e3,e5];exact⟨none,0,rfl⟩
      ·rw [e3,e5];exact⟨_,_,rfl⟩
     refine(AnyF.slices_SortFunc_none zJ ad c _ w).mono ?_;rintro e w' ⟨rfl,rfl⟩;refine⟨_,_,_,rfl,k0 rfl,b,ok,β,hzz,hr,hA1,hA2,hA3,rfl,λi p v hp hv=>?_⟩
     match i,hp,hv with
     |0,hp,hv=>cases hp;cases hv;exact .val _
     |i+1,hp,_=>simp at hp
    ·rcases hr.heap.slice_of hb' with ⟨_,e6⟩|⟨g,c,e5,e6,e7⟩
     ·simp only at e6;omega
     simp only at e6;have hvx:v=.slice (some ⟨g,0,none⟩) m c:=by rw [e3,e5];simp [sub,Addr.add_mid]
     simp only at h1 h2 h3;rw [e5] at h1;obtain⟨hxl,h1⟩:=h1;rcases h1 with ⟨h1,_⟩|⟨g',c',cur,h1,hbase,hcur,q1,q2,q3,q4⟩
     ·cases h1
     cases h1;obtain⟨W,hW⟩:∃W:List PtB,W=V.pmap PtB.mk hVle:=⟨_,rfl⟩;have hWl:W.length=m:=by rw [hW,List.length_pmap,hVl]
     have hWV:W.map (λx:PtB=>x.1)=V:=by rw [hW];exact l5 hVle
     have hFs:(flatK (λx:PtB=>x.1.enc) 6 W.toArray).size=m*6:=by rw [size_flatK];simp [hWl]
     have hWV':∀i,i < m->(W[i]!).1=ae V i:=λi hi=>by
      unfold ae;rw [<-hWV,getElem!_pos W i (by omega),List.getElem?_map,List.getElem?_eq_getElem (by omega)];rfl
     have hxs:xs=(flatK (λx:PtB=>x.1.enc) 6 W.toArray).toList:=by
      apply List.ext_getElem
      ·rw [hxl,Array.length_toList,hFs]
      ·intro t i1 i2;have ht:t < m*6:=by rw [hxl] at i1;exact i1
       have hi:t / 6 < m:=by omega
       have hf:t%6 < 6:=Nat.mod_lt _ (by decide);have hcell:∀f,f < 6->(ae V (t / 6)).cells[f]? = some (.val ((ae V (t / 6)).enc[f]!)):=λf hf=>by
        match f,hf with
        |0,_=>rfl
        |1,_=>rfl
        |2,_=>rfl
        |3,_=>rfl
        |4,_=>rfl
        |5,_=>rfl
       obtain⟨u,u1,u2,u3⟩:=h3 (t / 6) (t%6) _ hi (by rw [hz _ hi];exact hcell _ hf);have:=(u3 trivial).val_eq;subst this;rw [show t / 6*6+t%6=t by omega] at u1;have hx1:xs[t]'i1=(ae V (t / 6)).enc[t%6]!:=by
        rw [List.getElem?_eq_getElem i1] at u1;injection u1
       rw [hx1];have h5:=qm (V:=W) (t:=t) (by rw [hWl];exact ht);rw [hWV' _ hi] at h5;rw [<-h5,Array.getElem_toList,getElem!_pos _ t (by rw [hFs];exact ht)]
     have hH:HoldsK (λx:PtB=>x.1.enc) 6 w g 0 W.toArray:=kM hcur (by rw [hFs,<-hxs,<-q4]);have hcm:CmpLays Tryz.prog 38 #[] (λx:PtB=>x.1.enc) 6 ij g 0 W.toArray.size w:=λmm os dk _ x y=>Ei x y _;have call:=AnyQ.slices_SortFunc_eq zJ 6 Tryz.isAgg25 Tryz.sizeOf25 (λx:PtB=>x.1.enc) (λ_=>rfl) (λx v hv=>by
      simp [PtS.enc] at hv;rcases hv with rfl|rfl|rfl|rfl|rfl|rfl<;>rfl) ij Eh 38 #[] g 0 c W.toArray w (f38 [.val default,.val default] _ rfl).1 hcm hH (Array.getElem?_eq_some_iff.1 hcur).1 (by simp only [List.size_toArray];omega)
     rw [show W.toArray.size=m by simp [hWl]] at call;rw [hvx];refine call.mono ?_;rintro e w' ⟨rfl,nn,os,rfl⟩;have hD:pdq (ltOf ij) W.toArray 0 m (Lib.bitLen m) true true=(j9 W).toArray:=by
      unfold j9;rw [show W.toArray.size=m by simp [hWl]]
     rw [hD];have hSl:(j9 W).length=m:=by rw [uY,hWl]
     have hSF:(flatK (λx:PtB=>x.1.enc) 6 (j9 W).toArray).size=m*6:=by rw [size_flatK];simp [hSl]
     have hSV:∀i,i < m->((j9 W)[i]!).1=ae (aL V) i:=λi hi=>by
      unfold ae aL;rw [dif_pos hVle,<-hW,getElem!_pos _ i (by omega),List.getElem?_map,List.getElem?_eq_getElem (by omega)];rfl
     have hown:=kO (n:=nn) (os:=os) hSF hbase hcur q1 q2 q3;have hset:=hr.set (λi=>(ae (aL V) i).cells) (flatK (λx:PtB=>x.1.enc) 6 (j9 W).toArray).toList hb' e5 (kN (w:=w) (n:=nn) (os:=os) _) (by simp only;rw [e5];exact hown) (λi hi=>⟨rfl,λp hp=>by
      simp [PtS.cells] at hp;rcases hp with rfl|rfl|rfl|rfl|rfl|rfl<;>rfl⟩) (λi f p hi hp=>by
      simp only at hi;have hf:f < 6:=by
       have:=(List.getElem?_eq_some_iff.1 hp).1;exact this
      have hp2:p=.val ((ae (aL V) i).enc[f]!):=by
       match f,hf,hp with
       |0,_,hp=>cases hp;rfl
       |1,_,hp=>cases hp;rfl
       |2,_,hp=>cases hp;rfl
       |3,_,hp=>cases hp;rfl
       |4,_,hp=>cases hp;rfl
       |5,_,hp=>cases hp;rfl
      subst hp2;refine⟨(ae (aL V) i).enc[f]!,?_,.val _,λ_=>.val _⟩;have ht:i*6+f < m*6:=by omega
      have h5:=qm (V:=j9 W) (t:=i*6+f) (by rw [hSl];exact ht);rw [show(i*6+f) / 6=i by omega,show(i*6+f)%6=f by omega,hSV _ hi] at h5;simp only;rw [<-h5,Array.getElem?_toList,Array.getElem?_eq_getElem (by rw [hSF];exact ht),getElem!_pos _ _ (by rw [hSF];exact ht)])
     refine⟨_,_,_,rfl,k1 h0,b,ok,β,hzz,hset,hA1,hA2,hA3,rfl,λi p v hp hv=>?_⟩
     match i,hp,hv with
     |0,hp,hv=>cases hp;cases hv;exact .val _
     |i+1,hp,_=>simp at hp
   |[],hl,_=>simp at hl
   |[_],hl,_=>simp at hl
   |_::_::_::_,hl,_=>simp at hl
  ·exact e.elim
 ·exact e.elim
end Go.Ex
namespace Go.Num
theorem l6 {lo hi:PtS} {k:Nat} {c:Nat->List PV} {l:Nat} {o:Nat->List PV} (h:bZ 10000 k c):∀p∈ap lo hi k c l o,p.le 10000:=by
 have hJ:∀{S:PtS->Bool} {q:Nat->PtS} {n:Nat},(∀j,j < n->(q j).le 10000)->∀p∈dh S q n,p.le 10000:=λ{S q n}=>by
  induction n with
  |zero=>intro _ p hp;cases hp
  |succ n ih =>
   intro hq p hp;rw [dh] at hp;rcases List.mem_append.1 hp with hp|hp
   ·exact ih (λj hj=>hq j (by omega)) p hp
   ·cases hS:S (q n) with
    |true =>
     rw [hS] at hp;rw [List.mem_singleton.1 hp];exact hq n (by omega)
    |false=>rw [hS] at hp;cases hp
 unfold ap;have hI:∀i,i<=k->∀p∈cu (λp=>aV lo hi k c l o p p) (pn c) (λi=>ai (pg c i)) i,p.le 10000:=λi=>by
  induction i with
  |zero=>intro _ p hp;cases hp
  |succ i ih =>
   intro hi p hp;rw [cu] at hp;rcases List.mem_append.1 hp with hp|hp
   ·exact ih (by omega) p hp
   ·exact hJ (λj hj=>((h.1 i (by omega)).2.1 j hj).2) p hp
 exact hI k (Nat.le_refl k)
theorem jx {V:List PtS} (h:∀p∈V,p.le 10000) {i:Nat} (hi:i < V.length):(ae V i).le 10000:=by
 unfold ae;rw [List.getElem?_eq_getElem hi];exact h _ (List.getElem_mem hi)
end Go.Num
namespace Go.Proofs
def FH:List PV->Option Ans
 |[.fn (.func 129) [] [.rp 14 1 h 0 0],.val (.func (.func 38) ⟨[]⟩ ⟨[]⟩)]=>some ⟨some ((yW h/\((cK (h 0)).le 10000/\(cL (h 0)).le 10000)/\bZ 10000 (gK (h 0)) (gC (h 0))/\c8 (gL (h 0)) (gO (h 0)))/\(ap (cK (h 0)) (cL (h 0)) (gK (h 0)) (gC (h 0)) (gL (h 0)) (gO (h 0))).length<=500),.sl 0 0 0 (ap (cK (h 0)) (cL (h 0)) (gK (h 0)) (gC (h 0)) (gL (h 0)) (gO (h 0))).length,[⟨25,6,0,false,false,(ap (cK (h 0)) (cL (h 0)) (gK (h 0)) (gC (h 0)) (gL (h 0)) (gO (h 0))).length,λi=>(ae (aL (ap (cK (h 0)) (cL (h 0)) (gK (h 0)) (gC (h 0)) (gL (h 0)) (gO (h 0)))) i).cells⟩]⟩
 |_=>none
theorem FI:ak {} Tryz.f93 2=true:=by kernel_rfl
theorem f93:FnOk Tryz.prog 93 FH:=by
 refine FnOk.ofW aj (am (l:=[(127,By)]) (own:=[127]) (inl:=[(128,BB)]) (by simp [f127]) (by simp [FG])) Tryz.func93 {} 2 FI λargs r e=>?_;unfold FH at e;split at e
 ·rename_i h
  cases e;refine⟨by simp,λhm=>?_⟩;obtain⟨hp,hn⟩:=hm _ rfl;refine⟨[],aa [(0,.fn (.func 129) [] [.rp 14 1 h 0 0]),(1,.val (.func (.func 38) ⟨[]⟩ ⟨[]⟩))] [] 0 [],Wo trivial ⟨⟨rfl,trivial,⟨rfl,rfl,rfl,rfl,λ_ _=>rfl⟩,qQ⟩,rfl,qQ⟩ trivial,?_⟩;have hle:=l6 (lo:=cK (h 0)) (hi:=cL (h 0)) (l:=gL (h 0)) (o:=gO (h 0)) hp.2.2.1;with_unfolding_all refine⟨⟨hp,Nat.le_trans hn (by decide)⟩,?_⟩
  clear hp hm;generalize (ap (cK (h 0)) (cL (h 0)) (gK (h 0)) (gC (h 0)) (gL (h 0)) (gO (h 0)))=V at *
  with_unfolding_all exact⟨⟨rfl,rfl,rfl,Nat.le_trans hn (by decide)⟩,V,rfl,hle,λ_ _=>rfl,λh0=>⟨[some 0],aa [(4,.sl 0 0 0 V.length)] [⟨25,6,0,false,false,V.length,λi=>(ae (aL V) i).cells⟩] 1 [],Wo ⟨qZ (λz hz=>absurd hz (by rw [h0];exact Nat.not_lt_zero _)),qQ⟩ ⟨pP,qQ⟩ trivial,rfl,rfl⟩,λ_=>⟨[some 0],aa [(4,.sl 0 0 0 V.length)] [⟨25,6,0,false,false,V.length,λi=>(ae (aL V) i).cells⟩] 1 [],Wo ⟨qZ (λ_ _=>rfl),qQ⟩ ⟨pP,qQ⟩ trivial,rfl,rfl⟩⟩
 ·cases e
def EJ:List PV->Option Ans
 |[.rs 6 m h,.val v]=>some ⟨some (isPL 4294967296 m h/\isPk 4294967296 v),.val (.int .i64 (bV (λi=>bH (aN v) (ai h i)) m 0)),[]⟩
 |_=>none
theorem FJ:ak {} Tryz.f19 2=true:=by kernel_rfl
theorem f19:FnOk Tryz.prog 19 EJ:=by
 refine FnOk.ofW aj (am (l:=[]) (own:=[]) (inl:=[]) (by simp) (by simp)) Tryz.func19 {} 2 FJ λargs r e=>?_;unfold EJ at e;split at e
 ·rename_i n h v
  cases e;refine⟨by simp,λhm=>?_⟩;obtain⟨⟨hq,hn⟩,a,rfl,ha⟩:=hm _ rfl;refine⟨[],aa [(0,.rs 6 n (λi=>(ai h i).cells)),(1,.val a.v)] [] 0 [],Wo trivial ⟨⟨rfl,rfl,λi hi=>(hq i hi).1.symm⟩,rfl,qQ⟩ trivial,?_⟩;generalize ai h=q at *
  obtain⟨X,hX⟩:∃X,X=bV (λi=>bH a (q i)) n 0:=⟨_,rfl⟩;have hv:bV (λi=>bH (aN a.v) (q i)) n 0=X:=hX.symm;rw [hv];with_unfolding_all refine⟨Nat,λi=>i<=n/\bV (λi=>bH a (q i)) (n - i) i=X,λi=>aa [(0,.rs 6 n (λi=>(q i).cells)),(3,.ptr 0 0 0 0),(7,.val (goInt n)),(8,.val (goInt i))] [⟨25,6,0,true,false,1,λ_=>[.val (.bool a.x.s),.val (.string a.x.b),.val (.string a.x.c),.val (.bool a.y.s),.val (.string a.y.b),.val (.string a.y.c)]⟩] 1 [],λi=>n - i,⟨0,[some 0],⟨Nat.zero_le _,hX.symm⟩,Wo ⟨qK,qQ⟩ ⟨qW,pP,rfl,rfl,qQ⟩ trivial⟩,λi hi=>?_⟩
  obtain⟨hin,hI⟩:i<=n/\bV (λi=>bH a (q i)) (n - i) i=X:=hi;with_unfolding_all refine⟨λh=>?_,λh=>⟨[],aa [(4,.val (.int .i64 X))] [] 0 [],Wo trivial ⟨?_,qQ⟩ trivial,rfl,rfl⟩⟩
  ·have h:(i:Int) < n:=bx h;have e:(i:Int).toNat=i:=Int.toNat_natCast i;have hstep:bV (λi=>bH a (q i)) (n - i) i=bif bH a (q i) then(i:Int) else bV (λi=>bH a (q i)) (n - (i+1)) (i+1):=by
    rw [show n - i=(n - (i+1))+1 by omega];rfl
   with_unfolding_all refine⟨⟨by omega,by omega⟩,λh'=>⟨[],aa [(4,.val (.int .i64 X))] [] 0 [],Wo trivial ⟨?_,qQ⟩ trivial,rfl,rfl⟩,λh'=>⟨i+1,[some 0],⟨by omega,?_⟩,by show n - (i+1) < n - i;omega,Wo ⟨qK,qQ⟩ ⟨qW,pP,rfl,?_,qQ⟩ trivial⟩⟩
   ·have h':bH a (q (i:Int).toNat)=true:=h';rw [e] at h';rw [h',cond_true] at hstep;exact congrArg (λz=>PV.val (.int .i64 z)) (hstep.symm.trans hI)
   ·have h':bH a (q (i:Int).toNat)=false:=h';rw [e] at h';rw [h',cond_false] at hstep;exact hstep.symm.trans hI
   ·show PV.val (.int .i64 (IntKind.i64.wrap ((i:Int)+1)))=PV.val (.int .i64 ((i+1:Nat):Int));rw [wrap64 (by omega) (by omega)];rfl
  ·have h:(n:Int)<=i:=dU h;rw [show n - i=0 by omega] at hI;exact congrArg (λz=>PV.val (.int .i64 z)) hI
 ·cases e
def FK:List PV->Option Ans
 |[.rs 6 m h,.val v]=>some ⟨some (isPL 4294967296 m h/\isPk 4294967296 v),.val (.bool (aA (λi=>bH (aN v) (ai h i)) m)),[]⟩
 |_=>none
theorem FL:ak {} Tryz.f37 2=true:=by kernel_rfl
theorem f37:FnOk Tryz.prog 37 FK:=by
 refine FnOk.ofW aj (am (l:=[(19,EJ)]) (own:=[]) (inl:=[]) (by simp [f19]) (by simp)) Tryz.func37 {} 2 FL λargs r e=>?_;unfold FK at e;split at e
 ·rename_i n h v
  cases e;refine⟨by simp,λhm=>?_⟩;obtain⟨hq,a,rfl,ha⟩:=hm _ rfl;refine⟨[],aa [(0,.rs 6 n h),(1,.val a.v)] [] 0 [],Wo trivial ⟨⟨rfl,rfl,λi hi=>rfl⟩,rfl,qQ⟩ trivial,?_⟩;with_unfolding_all refine⟨⟨hq,a,rfl,ha⟩,[],aa [(4,.val (.bool (aA (λi=>bH a (ai h i)) n)))] [] 0 [],Wo trivial ⟨?_,qQ⟩ trivial,rfl,rfl⟩
  exact congrArg (λz=>PV.val (.bool z)) (ek _ _)
 ·cases e
end Go.Proofs
namespace Go.Num
def aR (p:Nat->PtS):Nat->List PtS
 |0=>[]
 |j+1=>aR p j++(bif j==0||!bH (p j) (p (j - 1)) then [p j] else [])
theorem l7 (p:Nat->PtS):∀j,(aR p j).length<=j
 |0=>Nat.le_refl _
 |j+1=>by
  have:=l7 p j;unfold aR;rw [List.length_append];cases (j==0||!bH (p j) (p (j - 1)))<;>simp<;>omega
theorem ka {p:Nat->PtS}:∀{j:Nat} {x:PtS},x∈aR p j->∃i,i < j/\x=p i
 |0,x,h=>by cases h
 |j+1,x,h=>by
  unfold aR at h;rcases List.mem_append.1 h with h|h
  ·obtain⟨i,h1,h2⟩:=ka h;exact⟨i,by omega,h2⟩
  ·cases hb:(j==0||!bH (p j) (p (j - 1))) with
   |true =>
    rw [hb] at h;exact⟨j,by omega,List.mem_singleton.1 h⟩
   |false =>
    rw [hb] at h;cases h
theorem nc {p:Nat->PtS}:∀{j:Nat},(∀i,i+1 < j->bH (p (i+1)) (p i)=false)->aR p j=(List.range j).map p
 |0,_=>rfl
 |j+1,h=>by
  have hb:(j==0||!bH (p j) (p (j - 1)))=true:=by
   cases j with
   |zero=>rfl
   |succ i=>rw [show i+1 - 1=i by omega,h i (by omega)];simp
  rw [aR,hb,nc λi hi=>h i (by omega),List.range_succ,List.map_append];rfl
end Go.Num
namespace Go.Proofs
theorem FM:ak {} Tryz.f92 1=true:=by kernel_rfl
def GA:Trans:=λargs s K=>args.length<=1/\rM Tryz.prog (B3 [] [] []) {} Tryz.f92 args s K
theorem GK:dP Tryz.prog 92 GA:=kX aj (am (by simp) (by simp)) Tryz.func92 {} 1 FM λ_ _ _ h=>h
end Go.Proofs
namespace Go.Num
def jy:List PV->Int
 |[.val (.int .i64 s)]=>s
 |_=>0
def w5 (c:List PV):Prop:=c=[.val (.int .i64 (jy c))]
def cX (a b:PtS) (s:Int) (p:PtS):Bool:=gp a b p==s
end Go.Num
namespace Go.Proofs
def BC:List PV->Option Ans
 |[.val v,.rp 6 1 h 0 0,.rp 6 1 h' 0 0,.rp 1 1 h2 0 0]=>some ⟨some (isPk 10000 v/\kK 10000 (h 0)/\kK 10000 (h' 0)/\w5 (h2 0)),.val (.bool (cX (ci (h 0)) (ci (h' 0)) (jy (h2 0)) (aN v))),[]⟩
 |_=>none
theorem Ek:ak {} Tryz.f106 4=true:=by kernel_rfl
theorem f106:FnOk Tryz.prog 106 BC:=by
 refine FnOk.ofW aj (am (l:=[(107,yM)]) (own:=[]) (inl:=[]) (by simp [f107]) (by simp)) Tryz.func106 {} 4 Ek λargs r e=>?_;unfold BC at e;split at e
 ·rename_i v h h' h2
  cases e;refine⟨by simp,λhm=>?_⟩;obtain⟨⟨p,rfl,hp⟩,⟨h1,ha⟩,⟨h3,hb⟩,h4⟩:=hm _ rfl;unfold w5 at h4;generalize ci (h 0)=a at *
  generalize ci (h' 0)=b at *
  generalize jy (h2 0)=s at *
  refine⟨[],aa [(0,.val p.v),(1,.rp 6 1 (λ_=>a.cells) 0 0),(2,.rp 6 1 (λ_=>b.cells) 0 0),(3,.rp 1 1 (λ_=>[.val (.int .i64 s)]) 0 0)] [] 0 [],Wo trivial ⟨rfl,⟨rfl,rfl,rfl,rfl,zG h1⟩,⟨rfl,rfl,rfl,rfl,zG h3⟩,⟨rfl,rfl,rfl,rfl,zG h4⟩,qQ⟩ trivial,?_⟩;with_unfolding_all exact⟨⟨⟨a,rfl,ha⟩,⟨b,rfl,hb⟩,p,rfl,hp⟩,⟨[],aa [(5,.val (.bool (cX a b s p)))] [] 0 [],Wo trivial ⟨rfl,qQ⟩ trivial,rfl,rfl⟩⟩
 ·cases e
def oN:List PV->Option Ans
 |[.rs 6 n g,.fn (.func 106) [] [.rp 6 1 cc 0 0,.rp 6 1 dd 0 0,.rp 1 1 ee 0 0]]=>some ⟨some (isPL 10000 n g/\kK 10000 (cc 0)/\kK 10000 (dd 0)/\w5 (ee 0)),.val (.int .i64 (bV (λi=>cX (ci (cc 0)) (ci (dd 0)) (jy (ee 0)) (ai g i)) n 0)),[]⟩
 |_=>none
theorem y7:FnOk Tryz.prog 83 oN:=by
 refine FnOk.ofW aj (am (l:=[(106,BC)]) (own:=[]) (inl:=[]) (by simp [f106]) (by simp)) Tryz.func83 {} 2 ss λargs r e=>?_;unfold oN at e;split at e
 ·rename_i n g cc dd ee
  cases e;refine⟨by simp,λhm=>?_⟩;obtain⟨⟨hg,hn⟩,h1,h2,h3⟩:=hm _ rfl;refine⟨[],aa [(0,.rs 6 n (λi=>(ai g i).cells)),(1,.fn (.func 106) [] [.rp 6 1 cc 0 0,.rp 6 1 dd 0 0,.rp 1 1 ee 0 0])] [] 0 [],Wo trivial ⟨⟨rfl,rfl,λi hi=>(hg i hi).1.symm⟩,⟨rfl,trivial,⟨rfl,rfl,rfl,rfl,λ_ _=>rfl⟩,⟨rfl,rfl,rfl,rfl,λ_ _=>rfl⟩,⟨rfl,rfl,rfl,rfl,λ_ _=>rfl⟩,qQ⟩,qQ⟩ trivial,?_⟩;obtain⟨X,hX⟩:∃X,X=bV (λi=>cX (ci (cc 0)) (ci (dd 0)) (jy (ee 0)) (ai g i)) n 0:=⟨_,rfl⟩;rw [<-hX];with_unfolding_all refine⟨Nat,λi=>i<=n/\bV (λi=>cX (ci (cc 0)) (ci (dd 0)) (jy (ee 0)) (ai g i)) (n - i) i=X,λi=>aa [(0,.rs 6 n (λi=>(ai g i).cells)),(1,.fn (.func 106) [] [.rp 6 1 cc 0 0,.rp 6 1 dd 0 0,.rp 1 1 ee 0 0]),(7,.val (goInt n)),(8,.val (goInt i))] [] 0 [],λi=>n - i,⟨0,[],⟨Nat.zero_le _,hX.symm⟩,Wo trivial ⟨qW,⟨rfl,trivial,⟨rfl,rfl,rfl,rfl,λ_ _=>rfl⟩,⟨rfl,rfl,rfl,rfl,λ_ _=>rfl⟩,⟨rfl,rfl,rfl,rfl,λ_ _=>rfl⟩,qQ⟩,rfl,rfl,qQ⟩ trivial⟩,λi hi=>?_⟩
  obtain⟨hin,hI⟩:i<=n/\bV (λi=>cX (ci (cc 0)) (ci (dd 0)) (jy (ee 0)) (ai g i)) (n - i) i=X:=hi;with_unfolding_all refine⟨λh=>?_,λh=>⟨[],aa [(4,.val (.int .i64 X))] [] 0 [],Wo trivial ⟨?_,qQ⟩ trivial,rfl,rfl⟩⟩
  ·have h:(i:Int) < n:=bx h;have e:(i:Int).toNat=i:=Int.toNat_natCast i;have hstep:bV (λi=>cX (ci (cc 0)) (ci (dd 0)) (jy (ee 0)) (ai g i)) (n - i) i=bif cX (ci (cc 0)) (ci (dd 0)) (jy (ee 0)) (ai g i) then(i:Int) else bV (λi=>cX (ci (cc 0)) (ci (dd 0)) (jy (ee 0)) (ai g i)) (n - (i+1)) (i+1):=by
    rw [show n - i=(n - (i+1))+1 by omega];rfl
   have hip:=(hg i (by omega)).2;rw [<-e] at hip;with_unfolding_all refine⟨⟨by omega,by omega⟩,⟨⟨ai g (i:Int).toNat,rfl,hip⟩,h1,h2,h3⟩,λh'=>⟨[],aa [(4,.val (.int .i64 X))] [] 0 [],Wo trivial ⟨?_,qQ⟩ trivial,rfl,rfl⟩,λh'=>⟨i+1,[],⟨by omega,?_⟩,by show n - (i+1) < n - i;omega,Wo trivial ⟨qW,⟨rfl,trivial,⟨rfl,rfl,rfl,rfl,λ_ _=>rfl⟩,⟨rfl,rfl,rfl,rfl,λ_ _=>rfl⟩,⟨rfl,rfl,rfl,rfl,λ_ _=>rfl⟩,qQ⟩,rfl,?_,qQ⟩ trivial⟩⟩
   ·have h':(cX (ci (cc 0)) (ci (dd 0)) (jy (ee 0)) (ai g (i:Int).toNat))=true:=h';rw [e] at h';rw [h',cond_true] at hstep;exact congrArg (λz=>PV.val (.int .i64 z)) (hstep.symm.trans hI)
   ·have h':(cX (ci (cc 0)) (ci (dd 0)) (jy (ee 0)) (ai g (i:Int).toNat))=false:=h';rw [e] at h';rw [h',cond_false] at hstep;exact hstep.symm.trans hI
   ·show PV.val (.int .i64 (IntKind.i64.wrap ((i:Int)+1)))=PV.val (.int .i64 ((i+1:Nat):Int));rw [wrap64 (by omega) (by omega)];rfl
  ·have h:(n:Int)<=i:=dU h;rw [show n - i=0 by omega] at hI;exact congrArg (λz=>PV.val (.int .i64 z)) hI
 ·cases e
def oO:List PV->Option Ans
 |[.rs 6 n g,.fn (.func 106) [] [.rp 6 1 cc 0 0,.rp 6 1 dd 0 0,.rp 1 1 ee 0 0]]=>some ⟨some (isPL 10000 n g/\kK 10000 (cc 0)/\kK 10000 (dd 0)/\w5 (ee 0)),.val (.bool (aA (λi=>cX (ci (cc 0)) (ci (dd 0)) (jy (ee 0)) (ai g i)) n)),[]⟩
 |_=>none
theorem y8:FnOk Tryz.prog 65 oO:=by
 refine FnOk.ofW aj (am (l:=[(83,oN)]) (own:=[]) (inl:=[]) (by simp [y7]) (by simp)) Tryz.func65 {} 2 su λargs r e=>?_;unfold oO at e;split at e
 ·rename_i n g cc dd ee
  cases e;refine⟨by simp,λhm=>?_⟩;have hp:=hm _ rfl;refine⟨[],aa [(0,.rs 6 n g),(1,.fn (.func 106) [] [.rp 6 1 cc 0 0,.rp 6 1 dd 0 0,.rp 1 1 ee 0 0])] [] 0 [],Wo trivial ⟨⟨rfl,rfl,λi hi=>rfl⟩,⟨rfl,trivial,⟨rfl,rfl,rfl,rfl,λ_ _=>rfl⟩,⟨rfl,rfl,rfl,rfl,λ_ _=>rfl⟩,⟨rfl,rfl,rfl,rfl,λ_ _=>rfl⟩,qQ⟩,qQ⟩ trivial,?_⟩;with_unfolding_all refine⟨hp,[],aa [(4,.val (.bool (aA (λi=>cX (ci (cc 0)) (ci (dd 0)) (jy (ee 0)) (ai g i)) n)))] [] 0 [],Wo trivial ⟨?_,qQ⟩ trivial,rfl,rfl⟩
  exact congrArg (λz=>PV.val (.bool z)) (ek _ _)
 ·cases e
def BD:List PV->Option Ans
 |[.val (.int .i64 s),.rp 6 1 h 0 0,.rp 6 1 h' 0 0]=>some ⟨none,.fn (.func 106) [] [.rp 6 1 h 0 0,.rp 6 1 h' 0 0,.rp 1 1 (λ_=>[.val (.int .i64 s)]) 0 0],[]⟩
 |_=>none
theorem El:ak {} Tryz.f105 3=true:=by kernel_rfl
theorem f105:FnOk Tryz.prog 105 BD:=by
 refine FnOk.ofW aj (am (l:=[]) (own:=[]) (inl:=[]) (by simp) (by simp)) Tryz.func105 {} 3 El λargs r e=>?_;unfold BD at e;split at e
 ·rename_i s h h'
  cases e;refine⟨by simp,λhm=>?_⟩;refine⟨[],aa [(0,.val (.int .i64 s)),(1,.rp 6 1 h 0 0),(2,.rp 6 1 h' 0 0)] [] 0 [],Wo trivial ⟨rfl,⟨rfl,rfl,rfl,rfl,λ_ _=>rfl⟩,⟨rfl,rfl,rfl,rfl,λ_ _=>rfl⟩,qQ⟩ trivial,?_⟩;with_unfolding_all exact⟨[some 0],aa [(4,.fn (.func 106) [] [.rp 6 1 h 0 0,.rp 6 1 h' 0 0,.ptr 0 0 0 0])] [⟨3,1,0,true,false,1,λ_=>[.val (.int .i64 s)]⟩] 1 [],Wo ⟨qY,qQ⟩ ⟨⟨rfl,trivial,⟨rfl,rfl,rfl,rfl,λ_ _=>rfl⟩,⟨rfl,rfl,rfl,rfl,λ_ _=>rfl⟩,pP,qQ⟩,qQ⟩ trivial,rfl,rfl⟩
 ·cases e
end Go.Proofs
namespace Go.Num
def cl (n:Nat) (p:Nat->PtS) (a b:PtS):Bool:=aA (λi=>bH a (p i)) n&&!(aA (λi=>cX a b 1 (p i)) n&&aA (λi=>cX a b (-1) (p i)) n)
end Go.Num
namespace Go.Proofs
def BF:List PV->Option Ans
 |[.rs 6 n g,.rp 6 1 h 0 0,.rp 6 1 h' 0 0]=>some ⟨some (isPL 10000 n g/\kK 10000 (h 0)/\kK 10000 (h' 0)),.val (.bool (cl n (ai g) (ci (h 0)) (ci (h' 0)))),[]⟩
 |_=>none
theorem Em:ak {} Tryz.f104 3=true:=by kernel_rfl
theorem f104:FnOk Tryz.prog 104 BF:=by
 refine FnOk.ofW aj (am (l:=[(37,FK),(65,oO),(105,BD)]) (own:=[]) (inl:=[]) (by simp [f37,y8,f105]) (by simp)) Tryz.func104 {} 3 Em λargs r e=>?_;unfold BF at e;split at e
 ·rename_i n g h h'
  cases e;refine⟨by simp,λhm=>?_⟩;obtain⟨hg,⟨h1,ha⟩,h3,hb⟩:=hm _ rfl;generalize ci (h 0)=a at *
  generalize ci (h' 0)=b at *
  refine⟨[],aa [(0,.rs 6 n g),(1,.rp 6 1 (λ_=>a.cells) 0 0),(2,.rp 6 1 (λ_=>b.cells) 0 0)] [] 0 [],Wo trivial ⟨qW,⟨rfl,rfl,rfl,rfl,zG h1⟩,⟨rfl,rfl,rfl,rfl,zG h3⟩,qQ⟩ trivial,?_⟩;have hg':isPL 4294967296 n g:=⟨λi hi=>⟨(hg.1 i hi).1,(hg.1 i hi).2.mono (by decide)⟩,hg.2⟩;have ha':=ha.mono (show 10000<=4294967296 by decide);have pS:∀s:Int,isPL 10000 n g/\kK 10000 a.cells/\kK 10000 b.cells/\w5 [.val (.int .i64 s)]:=λs=>⟨hg,⟨rfl,ha⟩,⟨rfl,hb⟩,rfl⟩;obtain⟨X,hX⟩:∃X,X=cl n (ai g) a b:=⟨_,rfl⟩;rw [<-hX];have v1:aA (λi=>bH a (ai g i)) n=true->aA (λi=>cX a b 1 (ai g i)) n=true->PV.val (.bool (!aA (λi=>cX a b (-1) (ai g i)) n))=PV.val (.bool X):=λh h'=>by
   rw [hX,cl,h,h',Bool.true_and,Bool.true_and]
  have v2:aA (λi=>bH a (ai g i)) n=true->aA (λi=>cX a b 1 (ai g i)) n=false->PV.val (.bool true)=PV.val (.bool X):=λh h'=>by
   rw [hX,cl,h,h'];rfl
  have v3:aA (λi=>bH a (ai g i)) n=false->PV.val (.bool false)=PV.val (.bool X):=λh=>by
   rw [hX,cl,h];rfl
  with_unfolding_all exact⟨⟨hg',a,rfl,ha'⟩,λh1=>⟨pS 1,λh2=>⟨pS (-1),⟨[],aa [(4,.val (.bool X))] [] 0 [],Wo trivial ⟨v1 h1 h2,qQ⟩ trivial,rfl,rfl⟩⟩,λh2=>⟨[],aa [(4,.val (.bool X))] [] 0 [],Wo trivial ⟨v2 h1 h2,qQ⟩ trivial,rfl,rfl⟩⟩,λh1=>⟨[],aa [(4,.val (.bool X))] [] 0 [],Wo trivial ⟨v3 h1,qQ⟩ trivial,rfl,rfl⟩⟩
 ·cases e
def BG:List PV->Option Ans
 |[.rs 1 k c,.fn (.func 104) [] [.rp 6 1 h 0 0,.rp 6 1 h' 0 0]]=>some ⟨some (bZ 10000 k c/\kK 10000 (h 0)/\kK 10000 (h' 0)),.val (.int .i64 (bV (λi=>cl (pn c i) (ai (pg c i)) (ci (h 0)) (ci (h' 0))) k 0)),[]⟩
 |_=>none
theorem En:ak {} Tryz.f138 2=true:=by kernel_rfl
theorem f138:FnOk Tryz.prog 138 BG:=by
 refine FnOk.ofW aj (am (l:=[(104,BF)]) (own:=[]) (inl:=[]) (by simp [f104]) (by simp)) Tryz.func138 {} 2 En λargs r e=>?_;unfold BG at e;split at e
 ·rename_i k c cc dd
  cases e;refine⟨by simp,λhm=>?_⟩;obtain⟨⟨hc,hn⟩,h1,h2⟩:=hm _ rfl;refine⟨[],aa [(0,.rs 1 k (λi=>[.rs 6 (pn c i) (pg c i)])),(1,.fn (.func 104) [] [.rp 6 1 cc 0 0,.rp 6 1 dd 0 0])] [] 0 [],Wo trivial ⟨⟨rfl,rfl,λi hi=>(hc i hi).1.symm⟩,⟨rfl,trivial,⟨rfl,rfl,rfl,rfl,λ_ _=>rfl⟩,⟨rfl,rfl,rfl,rfl,λ_ _=>rfl⟩,qQ⟩,qQ⟩ trivial,?_⟩;obtain⟨X,hX⟩:∃X,X=bV (λi=>cl (pn c i) (ai (pg c i)) (ci (cc 0)) (ci (dd 0))) k 0:=⟨_,rfl⟩;rw [<-hX];with_unfolding_all refine⟨Nat,λi=>i<=k/\bV (λi=>cl (pn c i) (ai (pg c i)) (ci (cc 0)) (ci (dd 0))) (k - i) i=X,λi=>aa [(0,.rs 1 k (λi=>[.rs 6 (pn c i) (pg c i)])),(1,.fn (.func 104) [] [.rp 6 1 cc 0 0,.rp 6 1 dd 0 0]),(7,.val (goInt k)),(8,.val (goInt i))] [] 0 [],λi=>k - i,⟨0,[],⟨Nat.zero_le _,hX.symm⟩,Wo trivial ⟨qW,⟨rfl,trivial,⟨rfl,rfl,rfl,rfl,λ_ _=>rfl⟩,⟨rfl,rfl,rfl,rfl,λ_ _=>rfl⟩,qQ⟩,rfl,rfl,qQ⟩ trivial⟩,λi hi=>?_⟩
  obtain⟨hin,hI⟩:i<=k/\bV (λi=>cl (pn c i) (ai (pg c i)) (ci (cc 0)) (ci (dd 0))) (k - i) i=X:=hi;with_unfolding_all refine⟨λh=>?_,λh=>⟨[],aa [(4,.val (.int .i64 X))] [] 0 [],Wo trivial ⟨?_,qQ⟩ trivial,rfl,rfl⟩⟩
  ·have h:(i:Int) < k:=bx h;have e:(i:Int).toNat=i:=Int.toNat_natCast i;have hstep:bV (λi=>cl (pn c i) (ai (pg c i)) (ci (cc 0)) (ci (dd 0))) (k - i) i=bif cl (pn c i) (ai (pg c i)) (ci (cc 0)) (ci (dd 0)) then(i:Int) else bV (λi=>cl (pn c i) (ai (pg c i)) (ci (cc 0)) (ci (dd 0))) (k - (i+1)) (i+1):=by
    rw [show k - i=(k - (i+1))+1 by omega];rfl
   have hip:=(hc i (by omega)).2;rw [<-e] at hip;with_unfolding_all refine⟨⟨by omega,by omega⟩,⟨hip,h1,h2⟩,λh'=>⟨[],aa [(4,.val (.int .i64 X))] [] 0 [],Wo trivial ⟨?_,qQ⟩ trivial,rfl,rfl⟩,λh'=>⟨i+1,[],⟨by omega,?_⟩,by show k - (i+1) < k - i;omega,Wo trivial ⟨qW,⟨rfl,trivial,⟨rfl,rfl,rfl,rfl,λ_ _=>rfl⟩,⟨rfl,rfl,rfl,rfl,λ_ _=>rfl⟩,qQ⟩,rfl,?_,qQ⟩ trivial⟩⟩
   ·have h':cl (pn c (i:Int).toNat) (ai (pg c (i:Int).toNat)) (ci (cc 0)) (ci (dd 0))=true:=h';rw [e] at h';rw [h',cond_true] at hstep;exact congrArg (λz=>PV.val (.int .i64 z)) (hstep.symm.trans hI)
   ·have h':cl (pn c (i:Int).toNat) (ai (pg c (i:Int).toNat)) (ci (cc 0)) (ci (dd 0))=false:=h';rw [e] at h';rw [h',cond_false] at hstep;exact hstep.symm.trans hI
   ·show PV.val (.int .i64 (IntKind.i64.wrap ((i:Int)+1)))=PV.val (.int .i64 ((i+1:Nat):Int));rw [wrap64 (by omega) (by omega)];rfl
  ·have h:(k:Int)<=i:=dU h;rw [show k - i=0 by omega] at hI;exact congrArg (λz=>PV.val (.int .i64 z)) hI
 ·cases e
def BH:List PV->Option Ans
 |[.rs 1 k c,.fn (.func 104) [] [.rp 6 1 h 0 0,.rp 6 1 h' 0 0]]=>some ⟨some (bZ 10000 k c/\kK 10000 (h 0)/\kK 10000 (h' 0)),.val (.bool (aA (λi=>cl (pn c i) (ai (pg c i)) (ci (h 0)) (ci (h' 0))) k)),[]⟩
 |_=>none
theorem Eo:ak {} Tryz.f103 2=true:=by kernel_rfl
theorem f103:FnOk Tryz.prog 103 BH:=by
 refine FnOk.ofW aj (am (l:=[(138,BG)]) (own:=[]) (inl:=[]) (by simp [f138]) (by simp)) Tryz.func103 {} 2 Eo λargs r e=>?_;unfold BH at e;split at e
 ·rename_i n g cc dd
  cases e;refine⟨by simp,λhm=>?_⟩;have hp:=hm _ rfl;refine⟨[],aa [(0,.rs 1 n g),(1,.fn (.func 104) [] [.rp 6 1 cc 0 0,.rp 6 1 dd 0 0])] [] 0 [],Wo trivial ⟨⟨rfl,rfl,λi hi=>rfl⟩,⟨rfl,trivial,⟨rfl,rfl,rfl,rfl,λ_ _=>rfl⟩,⟨rfl,rfl,rfl,rfl,λ_ _=>rfl⟩,qQ⟩,qQ⟩ trivial,?_⟩;with_unfolding_all refine⟨hp,[],aa [(4,.val (.bool (aA (λi=>cl (pn g i) (ai (pg g i)) (ci (cc 0)) (ci (dd 0))) n)))] [] 0 [],Wo trivial ⟨?_,qQ⟩ trivial,rfl,rfl⟩
  exact congrArg (λz=>PV.val (.bool z)) (ek _ _)
 ·cases e
end Go.Proofs
namespace Go.Num
theorem nd {p:Nat->PtS} {n:Nat} (h:∀i,i+1 < n->bH (p (i+1)) (p i)=false):(aR p n).length=n/\∀t,t < n->ae (aR p n) t=p t:=by
 rw [nc h];refine⟨by simp,λt ht=>?_⟩;unfold ae;simp [ht]
def fk (p:Nat->PtS) (n:Nat):Nat->PtS:=λi=>if i < (aR p n).length then ae (aR p n) i else p i
theorem ge {p:Nat->PtS} {j:Nat} (h:bH (p (j+1)) (p j)=true):aR p (j+2)=aR p (j+1):=by
 rw [aR,show j+1 - 1=j by omega,h];exact List.append_nil _
theorem l8 {p:Nat->PtS} {j:Nat} (h:bH (p (j+1)) (p j)=false):aR p (j+2)=aR p (j+1)++[p (j+1)]:=by
 rw [aR,show j+1 - 1=j by omega,h];simp
theorem w6 {p:Nat->PtS} {n:Nat} (h:(aR p n).length=n/\∀t,t < n->ae (aR p n) t=p t) (i:Nat):fk p n i=p i:=by
 unfold fk;split
 ·rename_i hi
  rw [h.1] at hi;exact h.2 i hi
 ·rfl
theorem tT {p:Nat->PtS} {n i:Nat} (h:(aR p n).length<=i):fk p n i=p i:=if_neg (by omega)
theorem uZ {p:Nat->PtS} {j:Nat} (h:bH (p (j+1)) (p j)=false) (i:Nat):fk p (j+2) i=if i=(aR p (j+1)).length then p (j+1) else fk p (j+1) i:=by
 unfold fk;rw [l8 h,List.length_append];by_cases h1:i=(aR p (j+1)).length
 ·rw [if_pos h1,if_pos (by rw [h1];simp),h1];unfold ae;simp
 ·rw [if_neg h1];by_cases h2:i < (aR p (j+1)).length
  ·rw [if_pos h2,if_pos (by omega)];unfold ae;rw [List.getElem?_append_left h2]
  ·rw [if_neg h2,if_neg (by simp;omega)]
def dT (lo hi:PtS) (k:Nat) (c:Nat->List PV) (l:Nat) (o:Nat->List PV):List PtS:=aR (ae (aL (ap lo hi k c l o))) (ap lo hi k c l o).length
theorem tU {V:List PtS} (h:∀p∈V,p.le 10000) {i:Nat} (hi:i < V.length):(ae (aL V) i).le 10000:=jx (λp hp=>h p ((fT V).mem_iff.1 hp)) (by rw [na];exact hi)
theorem qo {lo hi:PtS} {k:Nat} {c:Nat->List PV} {l:Nat} {o:Nat->List PV} (h:bZ 10000 k c):∀p∈dT lo hi k c l o,p.le 10000:=λp hp=>by
 obtain⟨i,hi,e⟩:=ka hp;rw [e];exact tU (l6 h) hi
end Go.Num
namespace Go.Proofs
def FN:List PV->Option Ans
 |[.agg [.val (.bool s1),.val (.string b1),.val (.string c1),.val (.bool s2),.val (.string b2),.val (.string c2),.val (.bool s3),.val (.string b3),.val (.string c3),.val (.bool s4),.val (.string b4),.val (.string c4),.rs 1 k c,.rs 3 l o]]=>some ⟨some (((PtS.le 10000 (PtS.mk ⟨s1,b1,c1⟩ ⟨s2,b2,c2⟩)/\PtS.le 10000 (PtS.mk ⟨s3,b3,c3⟩ ⟨s4,b4,c4⟩))/\bZ 10000 k c/\c8 l o)/\(ap (PtS.mk ⟨s1,b1,c1⟩ ⟨s2,b2,c2⟩) (PtS.mk ⟨s3,b3,c3⟩ ⟨s4,b4,c4⟩) k c l o).length<=500),.rs 6 (dT (PtS.mk ⟨s1,b1,c1⟩ ⟨s2,b2,c2⟩) (PtS.mk ⟨s3,b3,c3⟩ ⟨s4,b4,c4⟩) k c l o).length (λi=>(ae (dT (PtS.mk ⟨s1,b1,c1⟩ ⟨s2,b2,c2⟩) (PtS.mk ⟨s3,b3,c3⟩ ⟨s4,b4,c4⟩) k c l o) i).cells),[]⟩
 |_=>none
theorem FO:ak {} Tryz.f57 1=true:=by kernel_rfl
theorem f57:FnOk Tryz.prog 57 FN:=by
 refine FnOk.ofW aj (am (l:=[(94,FC),(93,FH)]) (own:=[93]) (inl:=[(92,GA)]) (by simp [f94,f93]) (by simp [GK])) Tryz.func57 {} 1 FO λargs r e=>?_;unfold FN at e;split at e
 ·rename_i s1 b1 c1 s2 b2 c2 s3 b3 c3 s4 b4 c4 k c l o
  cases e;refine⟨by simp,λhm=>?_⟩;obtain⟨⟨⟨hlo,hhi⟩,⟨hc,hk⟩,ho,hl⟩,hn⟩:=hm _ rfl;obtain⟨lo,hlo'⟩:∃p,p=(PtS.mk ⟨s1,b1,c1⟩ ⟨s2,b2,c2⟩):=⟨_,rfl⟩;obtain⟨hi,hhi'⟩:∃p,p=(PtS.mk ⟨s3,b3,c3⟩ ⟨s4,b4,c4⟩):=⟨_,rfl⟩;have hc1:∀i,i < k->[.rs 6 (pn c i) (pg c i)]=c i:=λi hi=>(hc i hi).1.symm;have ho1:∀i,i < l->ab (ow o i)=o i:=λi hi=>(ho i hi).symm;refine⟨[],aa [(0,.agg [.val (.bool (PtS.mk ⟨s1,b1,c1⟩ ⟨s2,b2,c2⟩).x.s),.val (.string (PtS.mk ⟨s1,b1,c1⟩ ⟨s2,b2,c2⟩).x.b),.val (.string (PtS.mk ⟨s1,b1,c1⟩ ⟨s2,b2,c2⟩).x.c),.val (.bool (PtS.mk ⟨s1,b1,c1⟩ ⟨s2,b2,c2⟩).y.s),.val (.string (PtS.mk ⟨s1,b1,c1⟩ ⟨s2,b2,c2⟩).y.b),.val (.string (PtS.mk ⟨s1,b1,c1⟩ ⟨s2,b2,c2⟩).y.c),.val (.bool (PtS.mk ⟨s3,b3,c3⟩ ⟨s4,b4,c4⟩).x.s),.val (.string (PtS.mk ⟨s3,b3,c3⟩ ⟨s4,b4,c4⟩).x.b),.val (.string (PtS.mk ⟨s3,b3,c3⟩ ⟨s4,b4,c4⟩).x.c),.val (.bool (PtS.mk ⟨s3,b3,c3⟩ ⟨s4,b4,c4⟩).y.s),.val (.string (PtS.mk ⟨s3,b3,c3⟩ ⟨s4,b4,c4⟩).y.b),.val (.string (PtS.mk ⟨s3,b3,c3⟩ ⟨s4,b4,c4⟩).y.c),.rs 1 k (λi=>[.rs 6 (pn c i) (pg c i)]),.rs 3 l (λi=>ab (ow o i))])] [] 0 [],Wo trivial ⟨⟨rfl,rfl,rfl,rfl,rfl,rfl,rfl,rfl,rfl,rfl,rfl,rfl,⟨rfl,rfl,hc1⟩,⟨rfl,rfl,ho1⟩,qQ⟩,qQ⟩ trivial,?_⟩;rw [<-hlo'] at hlo hn ⊢;rw [<-hhi'] at hhi hn ⊢;clear hlo' hhi' hm;have hCL:bZ 10000 k (λi=>[PV.rs 6 (pn c i) (pg c i)]):=⟨λi hi=>⟨rfl,(hc i hi).2⟩,hk⟩;have hOL:c8 l (λi=>ab (ow o i)):=⟨λi hi=>rfl,hl⟩;have p93:(yW (λ_=>bN lo hi k (λi=>[PV.rs 6 (pn c i) (pg c i)]) l (λi=>ab (ow o i)))/\(lo.le 10000/\hi.le 10000)/\bZ 10000 k (λi=>[PV.rs 6 (pn c i) (pg c i)])/\c8 l (λi=>ab (ow o i)))/\(ap lo hi k (λi=>[PV.rs 6 (pn c i) (pg c i)]) l (λi=>ab (ow o i))).length<=500:=⟨⟨rfl,⟨hlo,hhi⟩,hCL,hOL⟩,hn⟩;have hVle:∀i,i < (ap lo hi k (λi=>[PV.rs 6 (pn c i) (pg c i)]) l (λi=>ab (ow o i))).length->(ae (aL (ap lo hi k (λi=>[PV.rs 6 (pn c i) (pg c i)]) l (λi=>ab (ow o i)))) i).le 10000:=λi hi2=>tU (l6 hCL) hi2;have hn0:(ap lo hi k (λi=>[PV.rs 6 (pn c i) (pg c i)]) l (λi=>ab (ow o i))).length<=500:=hn;with_unfolding_all refine⟨⟨λ_ _=>rfl,λ_ _=>rfl⟩,p93,?_⟩
  have hrun:(∀i,i+1 < (ap lo hi k (λi=>[PV.rs 6 (pn c i) (pg c i)]) l (λi=>ab (ow o i))).length->bH ((ae (aL (ap lo hi k (λi=>[PV.rs 6 (pn c i) (pg c i)]) l (λi=>ab (ow o i))))) (i+1)) ((ae (aL (ap lo hi k (λi=>[PV.rs 6 (pn c i) (pg c i)]) l (λi=>ab (ow o i))))) i)=false)->(ap lo hi k (λi=>[PV.rs 6 (pn c i) (pg c i)]) l (λi=>ab (ow o i))).length=(aR (ae (aL (ap lo hi k (λi=>[PV.rs 6 (pn c i) (pg c i)]) l (λi=>ab (ow o i))))) (ap lo hi k (λi=>[PV.rs 6 (pn c i) (pg c i)]) l (λi=>ab (ow o i))).length).length/\∀t,t < (aR (ae (aL (ap lo hi k (λi=>[PV.rs 6 (pn c i) (pg c i)]) l (λi=>ab (ow o i))))) (ap lo hi k (λi=>[PV.rs 6 (pn c i) (pg c i)]) l (λi=>ab (ow o i))).length).length->(ae (aR (ae (aL (ap lo hi k (λi=>[PV.rs 6 (pn c i) (pg c i)]) l (λi=>ab (ow o i))))) (ap lo hi k (λi=>[PV.rs 6 (pn c i) (pg c i)]) l (λi=>ab (ow o i))).length) t).cells=((ae (aL (ap lo hi k (λi=>[PV.rs 6 (pn c i) (pg c i)]) l (λi=>ab (ow o i))))) (0+t)).cells:=λh=>by
   have h2:=nd h;exact⟨h2.1.symm,λt ht=>by rw [h2.2 t (by rw [h2.1] at ht;exact ht),Nat.zero_add]⟩
  have hsm:(ap lo hi k (λi=>[PV.rs 6 (pn c i) (pg c i)]) l (λi=>ab (ow o i))).length < 2->∀i,i+1 < (ap lo hi k (λi=>[PV.rs 6 (pn c i) (pg c i)]) l (λi=>ab (ow o i))).length->bH ((ae (aL (ap lo hi k (λi=>[PV.rs 6 (pn c i) (pg c i)]) l (λi=>ab (ow o i))))) (i+1)) ((ae (aL (ap lo hi k (λi=>[PV.rs 6 (pn c i) (pg c i)]) l (λi=>ab (ow o i))))) i)=false:=λh i hi2=>by omega
  have hlt:∀{m:Nat},decide ((m:Int) < 2)=true->m < 2:=λh=>by
   have:=of_decide_eq_true h;omega
  have hge:∀{m:Nat},decide ((m:Int) < 2)=false->0+1<=m:=λh=>by
   have:=of_decide_eq_false h;omega
  with_unfolding_all refine⟨Nat.le_refl 1,λh=>⟨[],aa [(2,.rs 6 (aR (ae (aL (ap lo hi k (λi=>[PV.rs 6 (pn c i) (pg c i)]) l (λi=>ab (ow o i))))) (ap lo hi k (λi=>[PV.rs 6 (pn c i) (pg c i)]) l (λi=>ab (ow o i))).length).length (λi=>(ae (aR (ae (aL (ap lo hi k (λi=>[PV.rs 6 (pn c i) (pg c i)]) l (λi=>ab (ow o i))))) (ap lo hi k (λi=>[PV.rs 6 (pn c i) (pg c i)]) l (λi=>ab (ow o i))).length) i).cells))] [] 0 [],Wo trivial ⟨⟨by simp,_,rfl,rfl,rfl,(hrun (hsm (hlt h))).1,(hrun (hsm (hlt h))).2⟩,qQ⟩ trivial,rfl,rfl⟩,λh0=>⟨Nat,λkk=>kk+1<=(ap lo hi k (λi=>[PV.rs 6 (pn c i) (pg c i)]) l (λi=>ab (ow o i))).length/\∀i,i < kk->bH ((ae (aL (ap lo hi k (λi=>[PV.rs 6 (pn c i) (pg c i)]) l (λi=>ab (ow o i))))) (i+1)) ((ae (aL (ap lo hi k (λi=>[PV.rs 6 (pn c i) (pg c i)]) l (λi=>ab (ow o i))))) i)=false,λkk=>aa [(0,.sl 0 0 0 (ap lo hi k (λi=>[PV.rs 6 (pn c i) (pg c i)]) l (λi=>ab (ow o i))).length),(3,.val (.int .i64 ((kk:Int)+1)))] [⟨25,6,0,false,false,(ap lo hi k (λi=>[PV.rs 6 (pn c i) (pg c i)]) l (λi=>ab (ow o i))).length,λi=>((ae (aL (ap lo hi k (λi=>[PV.rs 6 (pn c i) (pg c i)]) l (λi=>ab (ow o i))))) i).cells⟩] 1 [[]],λkk=>(ap lo hi k (λi=>[PV.rs 6 (pn c i) (pg c i)]) l (λi=>ab (ow o i))).length - kk,⟨0,[some 1],⟨hge h0,λi hi2=>absurd hi2 (Nat.not_lt_zero i)⟩,Wo ⟨qZ (λ_ _=>rfl),qQ⟩ ⟨pP,rfl,qQ⟩ ⟨qQ,qQ⟩⟩,λkk hkk=>?_⟩⟩
  obtain⟨hk1,hk2⟩:kk+1<=(ap lo hi k (λi=>[PV.rs 6 (pn c i) (pg c i)]) l (λi=>ab (ow o i))).length/\∀i,i < kk->bH ((ae (aL (ap lo hi k (λi=>[PV.rs 6 (pn c i) (pg c i)]) l (λi=>ab (ow o i))))) (i+1)) ((ae (aL (ap lo hi k (λi=>[PV.rs 6 (pn c i) (pg c i)]) l (λi=>ab (ow o i))))) i)=false:=hkk;have eA:0+((kk:Int)+1).toNat=kk+1:=by omega
  have wA:IntKind.i64.wrap ((kk:Int)+1 - 1)=kk:=by rw [wrap64 (by omega) (by omega)];omega
  have eB:0+(IntKind.i64.wrap ((kk:Int)+1 - 1)).toNat=kk:=by rw [wA];omega
  have hb2:0<=IntKind.i64.wrap ((kk:Int)+1 - 1)/\IntKind.i64.wrap ((kk:Int)+1 - 1) < (ap lo hi k (λi=>[PV.rs 6 (pn c i) (pg c i)]) l (λi=>ab (ow o i))).length:=by rw [wA];omega
  have hz:0<=(kk:Int)+1:=by omega
  have hpre:=nd (p:=(ae (aL (ap lo hi k (λi=>[PV.rs 6 (pn c i) (pg c i)]) l (λi=>ab (ow o i)))))) (n:=kk+1) λi hi2=>hk2 i (by omega);have hEq:∀z,bH ((ae (aL (ap lo hi k (λi=>[PV.rs 6 (pn c i) (pg c i)]) l (λi=>ab (ow o i))))) (0+((kk:Int)+1).toNat)) ((ae (aL (ap lo hi k (λi=>[PV.rs 6 (pn c i) (pg c i)]) l (λi=>ab (ow o i))))) (0+(IntKind.i64.wrap ((kk:Int)+1 - 1)).toNat))=z->bH ((ae (aL (ap lo hi k (λi=>[PV.rs 6 (pn c i) (pg c i)]) l (λi=>ab (ow o i))))) (kk+1)) ((ae (aL (ap lo hi k (λi=>[PV.rs 6 (pn c i) (pg c i)]) l (λi=>ab (ow o i))))) kk)=z:=λz h=>by
   rw [eA,eB] at h;exact h
  have hS:bH ((ae (aL (ap lo hi k (λi=>[PV.rs 6 (pn c i) (pg c i)]) l (λi=>ab (ow o i))))) (kk+1)) ((ae (aL (ap lo hi k (λi=>[PV.rs 6 (pn c i) (pg c i)]) l (λi=>ab (ow o i))))) kk)=true->(aR (ae (aL (ap lo hi k (λi=>[PV.rs 6 (pn c i) (pg c i)]) l (λi=>ab (ow o i))))) (kk+1+1)).length=kk+1:=λh=>by rw [ge h];exact hpre.1
  have v3:bH ((ae (aL (ap lo hi k (λi=>[PV.rs 6 (pn c i) (pg c i)]) l (λi=>ab (ow o i))))) (kk+1)) ((ae (aL (ap lo hi k (λi=>[PV.rs 6 (pn c i) (pg c i)]) l (λi=>ab (ow o i))))) kk)=true->PV.val (.int .i64 ((kk:Int)+1))=PV.val (goInt ((aR (ae (aL (ap lo hi k (λi=>[PV.rs 6 (pn c i) (pg c i)]) l (λi=>ab (ow o i))))) (kk+1+1)).length:Nat)):=λh=>by
   rw [hS h];rfl
  have r3:bH ((ae (aL (ap lo hi k (λi=>[PV.rs 6 (pn c i) (pg c i)]) l (λi=>ab (ow o i))))) (kk+1)) ((ae (aL (ap lo hi k (λi=>[PV.rs 6 (pn c i) (pg c i)]) l (λi=>ab (ow o i))))) kk)=true->∀i,i < (ap lo hi k (λi=>[PV.rs 6 (pn c i) (pg c i)]) l (λi=>ab (ow o i))).length->(fk (ae (aL (ap lo hi k (λi=>[PV.rs 6 (pn c i) (pg c i)]) l (λi=>ab (ow o i))))) (kk+1+1) i).cells=((ae (aL (ap lo hi k (λi=>[PV.rs 6 (pn c i) (pg c i)]) l (λi=>ab (ow o i))))) i).cells:=λh i _=>by
   have e:fk (ae (aL (ap lo hi k (λi=>[PV.rs 6 (pn c i) (pg c i)]) l (λi=>ab (ow o i))))) (kk+1+1) i=fk (ae (aL (ap lo hi k (λi=>[PV.rs 6 (pn c i) (pg c i)]) l (λi=>ab (ow o i))))) (kk+1) i:=by
    unfold fk;rw [ge h]
   rw [e,w6 hpre]
  have vN:PV.val (.int .i64 (IntKind.i64.wrap ((kk:Int)+1+1)))=PV.val (.int .i64 (((kk+1:Nat):Int)+1)):=by
   rw [wrap64 (by omega) (by omega)];rfl
  have hlN:∀{x y:Nat},decide ((x:Int)+1 < (y:Int))=true->x+1 < y:=λh=>by
   have:=of_decide_eq_true h;omega
  have hgN:∀{x y:Nat},decide ((x:Int)+1 < (y:Int))=false->y<=x+1:=λh=>by
   have:=of_decide_eq_false h;omega
  have eLo:0+((kk:Int)+1).toNat=kk+1:=eA;have eLn:(((ap lo hi k (λi=>[PV.rs 6 (pn c i) (pg c i)]) l (λi=>ab (ow o i))).length:Int) - ((kk:Int)+1)).toNat=(ap lo hi k (λi=>[PV.rs 6 (pn c i) (pg c i)]) l (λi=>ab (ow o i))).length - (kk+1):=by omega
  with_unfolding_all refine⟨λh1=>⟨⟨hz,of_decide_eq_true h1⟩,hb2,λh2=>⟨⟨hz,Int.le_of_lt (of_decide_eq_true h1),Int.le_refl _⟩,Nat,λj=>1<=j/\kk+1+j<=(ap lo hi k (λi=>[PV.rs 6 (pn c i) (pg c i)]) l (λi=>ab (ow o i))).length/\(aR (ae (aL (ap lo hi k (λi=>[PV.rs 6 (pn c i) (pg c i)]) l (λi=>ab (ow o i))))) (kk+1+j)).length+1<=kk+1+j/\kk+1<=(aR (ae (aL (ap lo hi k (λi=>[PV.rs 6 (pn c i) (pg c i)]) l (λi=>ab (ow o i))))) (kk+1+j)).length,λj=>aa [(0,.sl 0 0 0 (ap lo hi k (λi=>[PV.rs 6 (pn c i) (pg c i)]) l (λi=>ab (ow o i))).length),(3,.val (goInt ((aR (ae (aL (ap lo hi k (λi=>[PV.rs 6 (pn c i) (pg c i)]) l (λi=>ab (ow o i))))) (kk+1+j)).length:Nat))),(4,.sl 0 0 (kk+1) ((ap lo hi k (λi=>[PV.rs 6 (pn c i) (pg c i)]) l (λi=>ab (ow o i))).length - (kk+1))),(5,.val (goInt (j:Nat)))] [⟨25,6,0,false,false,(ap lo hi k (λi=>[PV.rs 6 (pn c i) (pg c i)]) l (λi=>ab (ow o i))).length,λi=>(fk (ae (aL (ap lo hi k (λi=>[PV.rs 6 (pn c i) (pg c i)]) l (λi=>ab (ow o i))))) (kk+1+j) i).cells⟩] 1 [[]],λj=>(ap lo hi k (λi=>[PV.rs 6 (pn c i) (pg c i)]) l (λi=>ab (ow o i))).length - j,⟨1,[some 0],⟨Nat.le_refl 1,by have:=hlN h1;omega,by rw [hS (hEq _ h2)];omega,by rw [hS (hEq _ h2)];omega⟩,Wo ⟨qZ (r3 (hEq _ h2)),qQ⟩ ⟨pP,v3 (hEq _ h2),⟨rfl,eLo,eLn,bf rfl,_,rfl⟩,rfl,qQ⟩ ⟨qQ,qQ⟩⟩,λj hj=>?_⟩,λh2=>⟨kk+1,[some 0],⟨by have:=hlN h1;omega,λi hi2=>(Nat.lt_succ_iff_lt_or_eq.1 hi2).elim (hk2 i) λe=>by rw [e];exact hEq _ h2⟩,by have:=hlN h1;show(ap lo hi k (λi=>[PV.rs 6 (pn c i) (pg c i)]) l (λi=>ab (ow o i))).length - (kk+1) < (ap lo hi k (λi=>[PV.rs 6 (pn c i) (pg c i)]) l (λi=>ab (ow o i))).length - kk;omega,Wo ⟨qZ (λ_ _=>rfl),qQ⟩ ⟨pP,vN,qQ⟩ ⟨qQ,qQ⟩⟩⟩,λh1=>⟨[],aa [(2,.rs 6 (aR (ae (aL (ap lo hi k (λi=>[PV.rs 6 (pn c i) (pg c i)]) l (λi=>ab (ow o i))))) (ap lo hi k (λi=>[PV.rs 6 (pn c i) (pg c i)]) l (λi=>ab (ow o i))).length).length (λi=>(ae (aR (ae (aL (ap lo hi k (λi=>[PV.rs 6 (pn c i) (pg c i)]) l (λi=>ab (ow o i))))) (ap lo hi k (λi=>[PV.rs 6 (pn c i) (pg c i)]) l (λi=>ab (ow o i))).length) i).cells))] [] 0 [],Wo trivial ⟨⟨by simp,_,rfl,rfl,rfl,(hrun (λi hi2=>hk2 i (by have:=hgN h1;omega))).1,(hrun (λi hi2=>hk2 i (by have:=hgN h1;omega))).2⟩,qQ⟩ trivial,rfl,rfl⟩⟩
  obtain⟨hj1,hj2,hj3,hj4⟩:1<=j/\kk+1+j<=(ap lo hi k (λi=>[PV.rs 6 (pn c i) (pg c i)]) l (λi=>ab (ow o i))).length/\(aR (ae (aL (ap lo hi k (λi=>[PV.rs 6 (pn c i) (pg c i)]) l (λi=>ab (ow o i))))) (kk+1+j)).length+1<=kk+1+j/\kk+1<=(aR (ae (aL (ap lo hi k (λi=>[PV.rs 6 (pn c i) (pg c i)]) l (λi=>ab (ow o i))))) (kk+1+j)).length:=hj;have eC:kk+1+(j:Int).toNat=kk+1+j:=by omega
  have wC:IntKind.i64.wrap ((j:Int) - 1)=((j - 1:Nat):Int):=by rw [wrap64 (by omega) (by omega)];omega
  have eD:kk+1+(IntKind.i64.wrap ((j:Int) - 1)).toNat=kk+j:=by rw [wC];omega
  have bC:∀{y:Nat},decide ((j:Int) < (y:Int))=true->(0<=(j:Int)/\(j:Int) < (y:Int))/\0<=IntKind.i64.wrap ((j:Int) - 1)/\IntKind.i64.wrap ((j:Int) - 1) < (y:Int):=λh=>by
   have:=of_decide_eq_true h;rw [wC];omega
  have w1:fk (ae (aL (ap lo hi k (λi=>[PV.rs 6 (pn c i) (pg c i)]) l (λi=>ab (ow o i))))) (kk+1+j) (kk+1+j)=(ae (aL (ap lo hi k (λi=>[PV.rs 6 (pn c i) (pg c i)]) l (λi=>ab (ow o i))))) (kk+1+j):=tT (by omega);have w2:fk (ae (aL (ap lo hi k (λi=>[PV.rs 6 (pn c i) (pg c i)]) l (λi=>ab (ow o i))))) (kk+1+j) (kk+j)=(ae (aL (ap lo hi k (λi=>[PV.rs 6 (pn c i) (pg c i)]) l (λi=>ab (ow o i))))) (kk+j):=tT (by omega);have hE:∀z,bH (fk (ae (aL (ap lo hi k (λi=>[PV.rs 6 (pn c i) (pg c i)]) l (λi=>ab (ow o i))))) (kk+1+j) (kk+1+(j:Int).toNat)) (fk (ae (aL (ap lo hi k (λi=>[PV.rs 6 (pn c i) (pg c i)]) l (λi=>ab (ow o i))))) (kk+1+j) (kk+1+(IntKind.i64.wrap ((j:Int) - 1)).toNat))=z->bH ((ae (aL (ap lo hi k (λi=>[PV.rs 6 (pn c i) (pg c i)]) l (λi=>ab (ow o i))))) (kk+j+1)) ((ae (aL (ap lo hi k (λi=>[PV.rs 6 (pn c i) (pg c i)]) l (λi=>ab (ow o i))))) (kk+j))=z:=λz h=>by
   rw [eC,eD,w1,w2,show kk+1+j=kk+j+1 by omega] at h;exact h
  have hn:∀B:Bool,(!B)=true->B=false:=λB h=>by simpa using h
  have hy:∀B:Bool,(!B)=false->B=true:=λB h=>by simpa using h
  have eJ:kk+1+(j+1)=kk+j+2:=by omega
  have eJ0:kk+1+j=kk+j+1:=by omega
  have vJ:PV.val (.int .i64 (IntKind.i64.wrap ((j:Int)+1)))=PV.val (goInt ((j+1:Nat):Int)):=by
   rw [wrap64 (by omega) (by omega)];rfl
  have qS:bH ((ae (aL (ap lo hi k (λi=>[PV.rs 6 (pn c i) (pg c i)]) l (λi=>ab (ow o i))))) (kk+j+1)) ((ae (aL (ap lo hi k (λi=>[PV.rs 6 (pn c i) (pg c i)]) l (λi=>ab (ow o i))))) (kk+j))=true->(aR (ae (aL (ap lo hi k (λi=>[PV.rs 6 (pn c i) (pg c i)]) l (λi=>ab (ow o i))))) (kk+1+(j+1))).length=(aR (ae (aL (ap lo hi k (λi=>[PV.rs 6 (pn c i) (pg c i)]) l (λi=>ab (ow o i))))) (kk+1+j)).length:=λh=>by rw [eJ,eJ0,ge h]
  have qT:bH ((ae (aL (ap lo hi k (λi=>[PV.rs 6 (pn c i) (pg c i)]) l (λi=>ab (ow o i))))) (kk+j+1)) ((ae (aL (ap lo hi k (λi=>[PV.rs 6 (pn c i) (pg c i)]) l (λi=>ab (ow o i))))) (kk+j))=false->(aR (ae (aL (ap lo hi k (λi=>[PV.rs 6 (pn c i) (pg c i)]) l (λi=>ab (ow o i))))) (kk+1+(j+1))).length=(aR (ae (aL (ap lo hi k (λi=>[PV.rs 6 (pn c i) (pg c i)]) l (λi=>ab (ow o i))))) (kk+1+j)).length+1:=λh=>by rw [eJ,eJ0,l8 h,List.length_append];rfl
  have vS:bH ((ae (aL (ap lo hi k (λi=>[PV.rs 6 (pn c i) (pg c i)]) l (λi=>ab (ow o i))))) (kk+j+1)) ((ae (aL (ap lo hi k (λi=>[PV.rs 6 (pn c i) (pg c i)]) l (λi=>ab (ow o i))))) (kk+j))=true->PV.val (goInt ((aR (ae (aL (ap lo hi k (λi=>[PV.rs 6 (pn c i) (pg c i)]) l (λi=>ab (ow o i))))) (kk+1+j)).length:Nat))=PV.val (goInt ((aR (ae (aL (ap lo hi k (λi=>[PV.rs 6 (pn c i) (pg c i)]) l (λi=>ab (ow o i))))) (kk+1+(j+1))).length:Nat)):=λh=>by rw [qS h]
  have vT:bH ((ae (aL (ap lo hi k (λi=>[PV.rs 6 (pn c i) (pg c i)]) l (λi=>ab (ow o i))))) (kk+j+1)) ((ae (aL (ap lo hi k (λi=>[PV.rs 6 (pn c i) (pg c i)]) l (λi=>ab (ow o i))))) (kk+j))=false->PV.val (.int .i64 (IntKind.i64.wrap (((aR (ae (aL (ap lo hi k (λi=>[PV.rs 6 (pn c i) (pg c i)]) l (λi=>ab (ow o i))))) (kk+1+j)).length:Int)+1)))=PV.val (goInt ((aR (ae (aL (ap lo hi k (λi=>[PV.rs 6 (pn c i) (pg c i)]) l (λi=>ab (ow o i))))) (kk+1+(j+1))).length:Nat)):=λh=>by
   rw [qT h,wrap64 (by omega) (by omega)];rfl
  have rS:bH ((ae (aL (ap lo hi k (λi=>[PV.rs 6 (pn c i) (pg c i)]) l (λi=>ab (ow o i))))) (kk+j+1)) ((ae (aL (ap lo hi k (λi=>[PV.rs 6 (pn c i) (pg c i)]) l (λi=>ab (ow o i))))) (kk+j))=true->∀i,i < (ap lo hi k (λi=>[PV.rs 6 (pn c i) (pg c i)]) l (λi=>ab (ow o i))).length->(fk (ae (aL (ap lo hi k (λi=>[PV.rs 6 (pn c i) (pg c i)]) l (λi=>ab (ow o i))))) (kk+1+(j+1)) i).cells=(fk (ae (aL (ap lo hi k (λi=>[PV.rs 6 (pn c i) (pg c i)]) l (λi=>ab (ow o i))))) (kk+1+j) i).cells:=λh i _=>by
   unfold fk;rw [eJ,eJ0,ge h]
  have rT:bH ((ae (aL (ap lo hi k (λi=>[PV.rs 6 (pn c i) (pg c i)]) l (λi=>ab (ow o i))))) (kk+j+1)) ((ae (aL (ap lo hi k (λi=>[PV.rs 6 (pn c i) (pg c i)]) l (λi=>ab (ow o i))))) (kk+j))=false->∀i,i < (ap lo hi k (λi=>[PV.rs 6 (pn c i) (pg c i)]) l (λi=>ab (ow o i))).length->(fk (ae (aL (ap lo hi k (λi=>[PV.rs 6 (pn c i) (pg c i)]) l (λi=>ab (ow o i))))) (kk+1+(j+1)) i).cells=if i=0+((aR (ae (aL (ap lo hi k (λi=>[PV.rs 6 (pn c i) (pg c i)]) l (λi=>ab (ow o i))))) (kk+1+j)).length:Int).toNat then(fk (ae (aL (ap lo hi k (λi=>[PV.rs 6 (pn c i) (pg c i)]) l (λi=>ab (ow o i))))) (kk+1+j) (kk+1+(j:Int).toNat)).cells else(fk (ae (aL (ap lo hi k (λi=>[PV.rs 6 (pn c i) (pg c i)]) l (λi=>ab (ow o i))))) (kk+1+j) i).cells:=λh i _=>by
   rw [eJ,uZ h,eC,w1,<-eJ0,Nat.zero_add,Int.toNat_natCast];split<;>rfl
  with_unfolding_all refine⟨λh3=>⟨(bC h3).1,(bC h3).2,λh4=>⟨(bC h3).1,⟨Int.natCast_nonneg _,by have:=(bC h3).1;omega⟩,⟨j+1,[some 0],⟨by omega,by have:=(bC h3).1;omega,by rw [qT (hE _ (hn _ h4))];omega,by rw [qT (hE _ (hn _ h4))];omega⟩,by have:=(bC h3).1;show(ap lo hi k (λi=>[PV.rs 6 (pn c i) (pg c i)]) l (λi=>ab (ow o i))).length - (j+1) < (ap lo hi k (λi=>[PV.rs 6 (pn c i) (pg c i)]) l (λi=>ab (ow o i))).length - j;omega,Wo ⟨qZ (rT (hE _ (hn _ h4))),qQ⟩ ⟨pP,vT (hE _ (hn _ h4)),pP,vJ,qQ⟩ ⟨qQ,qQ⟩⟩⟩,λh4=>⟨j+1,[some 0],⟨by omega,by have:=(bC h3).1;omega,by rw [qS (hE _ (hy _ h4))];omega,by rw [qS (hE _ (hy _ h4))];omega⟩,by have:=(bC h3).1;show(ap lo hi k (λi=>[PV.rs 6 (pn c i) (pg c i)]) l (λi=>ab (ow o i))).length - (j+1) < (ap lo hi k (λi=>[PV.rs 6 (pn c i) (pg c i)]) l (λi=>ab (ow o i))).length - j;omega,Wo ⟨qZ (rS (hE _ (hy _ h4))),qQ⟩ ⟨pP,vS (hE _ (hy _ h4)),pP,vJ,qQ⟩ ⟨qQ,qQ⟩⟩⟩,λh3=>?_⟩
  have hjn:kk+1+j=(ap lo hi k (λi=>[PV.rs 6 (pn c i) (pg c i)]) l (λi=>ab (ow o i))).length:=by
   have:∀{x y:Nat},decide ((x:Int) < (y:Int))=false->y<=x:=λh=>by
    have:=of_decide_eq_false h;omega
   have:=this h3;omega
  have q0:(0:Int)<=((aR (ae (aL (ap lo hi k (λi=>[PV.rs 6 (pn c i) (pg c i)]) l (λi=>ab (ow o i))))) (kk+1+j)).length:Nat):=Int.natCast_nonneg _;have qn:(((aR (ae (aL (ap lo hi k (λi=>[PV.rs 6 (pn c i) (pg c i)]) l (λi=>ab (ow o i))))) (kk+1+j)).length:Nat):Int)<=(ap lo hi k (λi=>[PV.rs 6 (pn c i) (pg c i)]) l (λi=>ab (ow o i))).length:=by omega
  have eQ:((((aR (ae (aL (ap lo hi k (λi=>[PV.rs 6 (pn c i) (pg c i)]) l (λi=>ab (ow o i))))) (kk+1+j)).length:Nat):Int) - 0).toNat=(aR (ae (aL (ap lo hi k (λi=>[PV.rs 6 (pn c i) (pg c i)]) l (λi=>ab (ow o i))))) (ap lo hi k (λi=>[PV.rs 6 (pn c i) (pg c i)]) l (λi=>ab (ow o i))).length).length:=by rw [hjn];omega
  have np:0 < (ap lo hi k (λi=>[PV.rs 6 (pn c i) (pg c i)]) l (λi=>ab (ow o i))).length:=by omega
  with_unfolding_all refine⟨⟨q0,qn,Int.le_refl _⟩,np,⟨Int.le_refl 0,q0,qn⟩,⟨[],aa [(2,.rs 6 (aR (ae (aL (ap lo hi k (λi=>[PV.rs 6 (pn c i) (pg c i)]) l (λi=>ab (ow o i))))) (ap lo hi k (λi=>[PV.rs 6 (pn c i) (pg c i)]) l (λi=>ab (ow o i))).length).length (λi=>(ae (aR (ae (aL (ap lo hi k (λi=>[PV.rs 6 (pn c i) (pg c i)]) l (λi=>ab (ow o i))))) (ap lo hi k (λi=>[PV.rs 6 (pn c i) (pg c i)]) l (λi=>ab (ow o i))).length) i).cells))] [] 0 [],Wo trivial ⟨⟨by simp,_,rfl,rfl,rfl,eQ,?_⟩,qQ⟩ trivial,rfl,rfl⟩⟩
  intro t ht;have hq:((aR (ae (aL (ap lo hi k (λi=>[PV.rs 6 (pn c i) (pg c i)]) l (λi=>ab (ow o i))))) (kk+1+j)).length)=(aR (ae (aL (ap lo hi k (λi=>[PV.rs 6 (pn c i) (pg c i)]) l (λi=>ab (ow o i))))) (ap lo hi k (λi=>[PV.rs 6 (pn c i) (pg c i)]) l (λi=>ab (ow o i))).length).length:=by rw [hjn]
  have ht2:t < (aR (ae (aL (ap lo hi k (λi=>[PV.rs 6 (pn c i) (pg c i)]) l (λi=>ab (ow o i))))) (kk+1+j)).length:=by rw [hq];exact ht
  show(ae (aR (ae (aL (ap lo hi k (λi=>[PV.rs 6 (pn c i) (pg c i)]) l (λi=>ab (ow o i))))) (ap lo hi k (λi=>[PV.rs 6 (pn c i) (pg c i)]) l (λi=>ab (ow o i))).length) t).cells=if 0+((((aR (ae (aL (ap lo hi k (λi=>[PV.rs 6 (pn c i) (pg c i)]) l (λi=>ab (ow o i))))) (kk+1+j)).length:Nat):Int)).toNat<=0+Int.toNat 0+t/\_ then _ else(fk (ae (aL (ap lo hi k (λi=>[PV.rs 6 (pn c i) (pg c i)]) l (λi=>ab (ow o i))))) (kk+1+j) (0+Int.toNat 0+t)).cells
  rw [if_neg (λh=>by have:=h.1;simp only [Int.toNat_natCast] at this;omega),show 0+Int.toNat 0+t=t by simp];unfold fk;rw [if_pos ht2,hjn]
 ·cases e
end Go.Proofs
namespace Go.Num
def isRg (K:Nat) (xs:List PV):Prop:=xs=bN (cK xs) (cL xs) (gK xs) (gC xs) (gL xs) (gO xs)/\((cK xs).le K/\(cL xs).le K)/\bZ K (gK xs) (gC xs)/\c8 (gL xs) (gO xs)
def bW (k:Nat) (c:Nat->List PV) (g:Nat->PtS) (e o:Int):Bool:=decide (e < 2)||aA (λi=>cl (pn c i) (ai (pg c i)) (g e.toNat) (g o.toNat)) k
end Go.Num
namespace Go.Proofs
def FP:List PV->Option Ans
 |[.agg xs,.agg [.rs 6 n g,.rs 2 m h],.val (.int .i64 e),.val (.int .i64 o)]=>some ⟨some (isRg 10000 xs/\isPL 10000 n g/\(0<=e/\e < n)/\0<=o/\o < n),.val (.bool (bW (gK xs) (gC xs) (ai g) e o)),[]⟩
 |_=>none
def D69:Opt:={ perm:=kI [(3,(.rd 0 (.rd 1 (.rd 2 (.rd 3 (.rd 4 (.rd 5 (.rd 6 (.rd 7 (.rd 8 (.rd 9 (.alt 10 (.mk 11 .nil) (.mk 11 (.mk 10 .nil))))))))))))))] }
theorem FQ:ak D69.toOrd Tryz.f69 4=true:=by kernel_rfl
theorem f69:FnOk Tryz.prog 69 FP:=by
 refine FnOk.ofW aj (am (l:=[(103,BH)]) (own:=[]) (inl:=[]) (by simp [f103]) (by simp)) Tryz.func69 D69 4 FQ λargs r e=>?_;unfold FP at e;split at e
 ·rename_i xs n g m h e o
  cases e;refine⟨by simp,λhm=>?_⟩;obtain⟨⟨h1,⟨hlo,hhi⟩,hcl,hol⟩,hg,he,ho⟩:=hm _ rfl;generalize cK xs=lo at *
  generalize cL xs=hi at *
  generalize gK xs=k at *
  generalize gC xs=c at *
  generalize gL xs=l at *
  generalize gO xs=w at *
  subst h1;clear hm;refine⟨[],aa [(0,.agg (bN lo hi k c l w)),(1,.agg [.rs 6 n (λi=>(ai g i).cells),.rs 2 m h]),(2,.val (.int .i64 e)),(3,.val (.int .i64 o))] [] 0 [],Wo trivial ⟨⟨rfl,rfl,rfl,rfl,rfl,rfl,rfl,rfl,rfl,rfl,rfl,rfl,qW,qW,qQ⟩,⟨⟨rfl,rfl,λi hi=>(hg.1 i hi).1.symm⟩,qW,qQ⟩,rfl,rfl,qQ⟩ trivial,?_⟩;obtain⟨X,hX⟩:∃X,X=bW k c (ai g) e o:=⟨_,rfl⟩;rw [<-hX];have v1:decide (e < 2)=true->PV.val (.bool true)=PV.val (.bool X):=λh=>by rw [hX,bW,h];rfl
  have v2:decide (e < 2)=false->PV.val (.bool (aA (λi=>cl (pn c i) (ai (pg c i)) (ai g e.toNat) (ai g o.toNat)) k))=PV.val (.bool X):=λh=>by rw [hX,bW,h];rfl
  have cg:∀i:Int,0<=i/\i < n->kK 10000 (ai g i.toNat).cells:=λi h=>⟨rfl,(hg.1 i.toNat (by omega)).2⟩;have pre:bZ 10000 k (λi=>[.rs 6 (pn c i) (pg c i)])/\kK 10000 (ai g e.toNat).cells/\kK 10000 (ai g o.toNat).cells:=⟨⟨λi hi=>⟨rfl,(hcl.1 i hi).2⟩,hcl.2⟩,cg e he,cg o ho⟩;with_unfolding_all exact⟨λh1=>⟨[],aa [(8,.val (.bool X))] [] 0 [],Wo trivial ⟨v1 h1,qQ⟩ trivial,rfl,rfl⟩,λh1=>⟨he,ho,⟨pre,[],aa [(8,.val (.bool X))] [] 0 [],Wo trivial ⟨v2 h1,qQ⟩ trivial,rfl,rfl⟩,pre,[],aa [(8,.val (.bool X))] [] 0 [],Wo trivial ⟨v2 h1,qQ⟩ trivial,rfl,rfl⟩⟩
 ·cases e
end Go.Proofs
namespace Go.Num
theorem qR {n:Nat} (k:Nat):decide (((n:Nat):Int) > (k:Int))=decide (k < n):=by
 rw [decide_eq_decide];omega
theorem GB {n:Nat} (k:Nat):decide (((n:Nat):Int) < (k:Int))=decide (n < k):=by
 rw [decide_eq_decide];omega
def ik (n:Nat) (p:Nat->PtS):Bool:=(decide (10 < n)&&decide (n < 63)||decide (66 < n))||aA (λi=>bh (p i)) n
def l9 (lo hi:PtS) (k:Nat) (n:Nat->Nat) (p:Nat->Nat->PtS) (l:Nat):Bool:=(bh lo||bh hi||decide (40 < l))||aA (λi=>ik (n i) (p i)) k||(decide (k<=32)&&(decide (6 < k)||decide (24 < bg n k))||decide (35 < k))
theorem tX {n:Nat} {p:Nat->PtS} (h:ik n p=false):n<=66:=by
 unfold ik at h;simp only [Bool.or_eq_false_iff,decide_eq_false_iff_not] at h;omega
end Go.Num
namespace Go.Proofs
def EK:List PV->Option Ans
 |[.val v]=>some ⟨some (isPk 140737488355328 v),.val (.bool (bh (aN v))),[]⟩
 |_=>none
def D86:Opt:={  }
theorem FR:ak D86.toOrd Tryz.f86 1=true:=by kernel_rfl
theorem f86:FnOk Tryz.prog 86 EK:=by
 refine FnOk.ofW aj (am (l:=[]) (own:=[]) (inl:=[]) (by simp []) (by simp)) Tryz.func86 D86 1 FR λargs r e=>?_;unfold EK at e;split at e
 ·rename_i v
  cases e;refine⟨by simp,λhm=>?_⟩;obtain⟨p,rfl,hp⟩:=hm _ rfl;refine⟨[],aa [(0,.val p.v)] [] 0 [],Wo trivial ⟨rfl,qQ⟩ trivial,?_⟩;obtain⟨X,hX⟩:∃X,X=bh p:=⟨_,rfl⟩;have hx:bh (aN p.v)=X:=hX.symm;rw [hx];have e:X=((decide ((((p.x.b).size:Nat):Int) > 12)||decide ((((p.x.c).size:Nat):Int) > 12))||(decide ((((p.y.b).size:Nat):Int) > 12)||decide ((((p.y.c).size:Nat):Int) > 12))):=by rw [hX,bh,mE,mE,<-qR 12,<-qR 12,<-qR 12,<-qR 12];rfl
  have v4:decide ((((p.x.b).size:Nat):Int) > 12)=false->decide ((((p.x.c).size:Nat):Int) > 12)=false->decide ((((p.y.b).size:Nat):Int) > 12)=false->PV.val (.bool (decide ((((p.y.c).size:Nat):Int) > 12)))=PV.val (.bool X):=λh1 h2 h3=>by rw [e,h1,h2,h3];rfl
  have v3:decide ((((p.y.b).size:Nat):Int) > 12)=true->PV.val (.bool true)=PV.val (.bool X):=λh=>by rw [e,h,Bool.true_or,Bool.or_true]
  have v2:decide ((((p.x.c).size:Nat):Int) > 12)=true->PV.val (.bool true)=PV.val (.bool X):=λh=>by rw [e,h,Bool.or_true,Bool.true_or]
  have v1:decide ((((p.x.b).size:Nat):Int) > 12)=true->PV.val (.bool true)=PV.val (.bool X):=λh=>by rw [e,h,Bool.true_or,Bool.true_or]
  with_unfolding_all exact⟨λh1=>⟨λh2=>⟨λh3=>⟨[],aa [(2,.val (.bool X))] [] 0 [],Wo trivial ⟨v4 h1 h2 h3,qQ⟩ trivial,rfl,rfl⟩,λh3=>⟨[],aa [(2,.val (.bool X))] [] 0 [],Wo trivial ⟨v3 h3,qQ⟩ trivial,rfl,rfl⟩⟩,λh2=>⟨λh=>(nomatch h),λ_=>⟨[],aa [(2,.val (.bool X))] [] 0 [],Wo trivial ⟨v2 h2,qQ⟩ trivial,rfl,rfl⟩⟩⟩,λh1=>⟨λh=>(nomatch h),λ_=>⟨λh=>(nomatch h),λ_=>⟨[],aa [(2,.val (.bool X))] [] 0 [],Wo trivial ⟨v1 h1,qQ⟩ trivial,rfl,rfl⟩⟩⟩⟩
 ·cases e
def FS:List PV->Option Ans
 |[.rs 6 n g]=>some ⟨some (isPL 140737488355328 n g),.val (.bool (ik n (ai g))),[]⟩
 |_=>none
def D87:Opt:={  }
theorem FT:ak D87.toOrd Tryz.f87 1=true:=by kernel_rfl
theorem f87:FnOk Tryz.prog 87 FS:=by
 refine FnOk.ofW aj (am (l:=[(86,EK)]) (own:=[]) (inl:=[]) (by simp [f86]) (by simp)) Tryz.func87 D87 1 FT λargs r e=>?_;unfold FS at e;split at e
 ·rename_i n g
  cases e;refine⟨by simp,λhm=>?_⟩;obtain⟨hg,hn⟩:=hm _ rfl;refine⟨[],aa [(0,.rs 6 n (λi=>(ai g i).cells))] [] 0 [],Wo trivial ⟨⟨rfl,rfl,λi hi=>(hg i hi).1.symm⟩,qQ⟩ trivial,?_⟩;obtain⟨X,hX⟩:∃X,X=ik n (ai g):=⟨_,rfl⟩;rw [<-hX];have e:X=((decide ((n:Int) > 10)&&decide ((n:Int) < 63)||decide ((n:Int) > 66))||aA (λi=>bh (ai g i)) n):=by rw [hX,ik,<-qR 10,<-qR 66,<-GB 63];rfl
  have z:∀a b c:Bool,(a&&b||c)=true->(a&&b||c||aA (λi=>bh (ai g i)) n)=true:=λa b c h=>by rw [h];rfl
  have v1:∀c:Bool,c=(decide ((n:Int) > 10)&&decide ((n:Int) < 63)||decide ((n:Int) > 66))->c=true->PV.val (.bool true)=PV.val (.bool X):=λc h h'=>by rw [e,<-h,h'];rfl
  have m1:decide ((n:Int) > 10)=true->decide ((n:Int) < 63)=false->decide ((n:Int) > 66)=true->(decide ((n:Int) > 10)&&decide ((n:Int) < 63)||decide ((n:Int) > 66))=true:=λa b c=>by rw [c,Bool.or_true]
  have m2:decide ((n:Int) > 10)=true->decide ((n:Int) < 63)=true->(decide ((n:Int) > 10)&&decide ((n:Int) < 63)||decide ((n:Int) > 66))=true:=λa b=>by rw [a,b];rfl
  have m3:decide ((n:Int) > 66)=true->(decide ((n:Int) > 10)&&decide ((n:Int) < 63)||decide ((n:Int) > 66))=true:=λa=>by rw [a,Bool.or_true]
  have m4:decide ((n:Int) < 63)=false->decide ((n:Int) > 66)=false->(decide ((n:Int) > 10)&&decide ((n:Int) < 63)||decide ((n:Int) > 66))=false:=λa b=>by rw [a,b,Bool.and_false];rfl
  have m5:decide ((n:Int) > 10)=false->decide ((n:Int) > 66)=false->(decide ((n:Int) > 10)&&decide ((n:Int) < 63)||decide ((n:Int) > 66))=false:=λa b=>by rw [a,b];rfl
  have v2:(decide ((n:Int) > 10)&&decide ((n:Int) < 63)||decide ((n:Int) > 66))=true->PV.val (.bool true)=PV.val (.bool X):=λh=>by rw [e,h];rfl
  have rT:∀i:Nat,(i:Int) < n->bh (ai g (i:Int).toNat)=true->PV.val (.bool true)=PV.val (.bool X):=λi hi h=>by
   rw [Int.toNat_natCast] at h;rw [e,a8.2 ⟨i,by omega,h⟩,Bool.or_true]
  have rN:∀i:Nat,(∀j,j < i->bh (ai g j)=false)->bh (ai g (i:Int).toNat)=false->∀j,j < i+1->bh (ai g j)=false:=λi hI h j hj=>by
   rw [Int.toNat_natCast] at h;rcases Nat.lt_or_ge j i with h' | h'
   ·exact hI j h'
   ·obtain rfl:j=i:=by omega
    exact h
  have rF:∀i:Nat,(decide ((n:Int) > 10)&&decide ((n:Int) < 63)||decide ((n:Int) > 66))=false->(∀j,j < i->bh (ai g j)=false)->(n:Int)<=i->PV.val (.bool false)=PV.val (.bool X):=λi h hI hi=>by
   rw [e,h,aE.2 λj hj=>hI j (by omega)];rfl
  have wi:∀i:Nat,(i:Int) < n->PV.val (.int .i64 (IntKind.i64.wrap ((i:Int)+1)))=PV.val (.int .i64 ((i+1:Nat):Int)):=λi h=>by
   rw [wrap64 (by omega) (by omega)];rfl
  have pk:∀i:Nat,(i:Int) < n->isPk 140737488355328 (ai g (i:Int).toNat).v:=λi h=>⟨_,rfl,(hg (i:Int).toNat (by omega)).2⟩;have mu:∀i:Nat,(i:Int) < n->n - (i+1) < n - i:=λi h=>by omega
  have le:∀i:Nat,(i:Int) < n->i+1<=n:=λi h=>by omega
  with_unfolding_all exact⟨λh1=>⟨λh2=>⟨λh3=>⟨[],aa [(2,.val (.bool X))] [] 0 [],Wo trivial ⟨v2 (m1 h1 h2 h3),qQ⟩ trivial,rfl,rfl⟩,λh3=>⟨Nat,λi=>(decide ((n:Int) > 10)&&decide ((n:Int) < 63)||decide ((n:Int) > 66))=false/\i<=n/\∀j,j < i->bh (ai g j)=false,λi=>aa [(0,.rs 6 n (λi=>(ai g i).cells)),(3,.val (goInt i))] [] 0 [],λi=>n - i,⟨0,[],⟨m4 h2 h3,Nat.zero_le _,λj hj=>absurd hj (Nat.not_lt_zero j)⟩,Wo trivial ⟨qW,rfl,qQ⟩ trivial⟩,λi hi=>⟨λh1=>⟨⟨Int.natCast_nonneg i,bx h1⟩,pk i (bx h1),λh2=>⟨[],aa [(2,.val (.bool X))] [] 0 [],Wo trivial ⟨rT i (bx h1) h2,qQ⟩ trivial,rfl,rfl⟩,λh2=>⟨i+1,[],⟨hi.1,le i (bx h1),rN i hi.2.2 h2⟩,mu i (bx h1),Wo trivial ⟨qW,wi i (bx h1),qQ⟩ trivial⟩⟩,λh1=>⟨[],aa [(2,.val (.bool X))] [] 0 [],Wo trivial ⟨rF i hi.1 hi.2.2 (dU h1),qQ⟩ trivial,rfl,rfl⟩⟩⟩⟩,λh2=>⟨λ_=>⟨[],aa [(2,.val (.bool X))] [] 0 [],Wo trivial ⟨v2 (m2 h1 h2),qQ⟩ trivial,rfl,rfl⟩,λh=>(nomatch h)⟩⟩,λh1=>⟨λ_=>⟨λh3=>⟨[],aa [(2,.val (.bool X))] [] 0 [],Wo trivial ⟨v2 (m3 h3),qQ⟩ trivial,rfl,rfl⟩,λh3=>⟨Nat,λi=>(decide ((n:Int) > 10)&&decide ((n:Int) < 63)||decide ((n:Int) > 66))=false/\i<=n/\∀j,j < i->bh (ai g j)=false,λi=>aa [(0,.rs 6 n (λi=>(ai g i).cells)),(3,.val (goInt i))] [] 0 [],λi=>n - i,⟨0,[],⟨m5 h1 h3,Nat.zero_le _,λj hj=>absurd hj (Nat.not_lt_zero j)⟩,Wo trivial ⟨qW,rfl,qQ⟩ trivial⟩,λi hi=>⟨λh1=>⟨⟨Int.natCast_nonneg i,bx h1⟩,pk i (bx h1),λh2=>⟨[],aa [(2,.val (.bool X))] [] 0 [],Wo trivial ⟨rT i (bx h1) h2,qQ⟩ trivial,rfl,rfl⟩,λh2=>⟨i+1,[],⟨hi.1,le i (bx h1),rN i hi.2.2 h2⟩,mu i (bx h1),Wo trivial ⟨qW,wi i (bx h1),qQ⟩ trivial⟩⟩,λh1=>⟨[],aa [(2,.val (.bool X))] [] 0 [],Wo trivial ⟨rF i hi.1 hi.2.2 (dU h1),qQ⟩ trivial,rfl,rfl⟩⟩⟩⟩,λh=>(nomatch h)⟩⟩
 ·cases e
def FU:List PV->Option Ans
 |[.agg xs]=>some ⟨some (isRg 140737488355328 xs),.val (.bool (l9 (cK xs) (cL xs) (gK xs) (pn (gC xs)) (λi=>ai (pg (gC xs) i)) (gL xs))),[]⟩
 |_=>none
def D50:Opt:={  }
theorem FV:ak D50.toOrd Tryz.f50 1=true:=by kernel_rfl
theorem f50:FnOk Tryz.prog 50 FU:=by
 refine FnOk.ofW aj (am (l:=[(86,EK),(87,FS)]) (own:=[]) (inl:=[]) (by simp [f86,f87]) (by simp)) Tryz.func50 D50 1 FV λargs r e=>?_;unfold FU at e;split at e
 ·rename_i xs
  cases e;refine⟨by simp,λhm=>?_⟩;obtain⟨h1,⟨hlo,hhi⟩,hcl,hol⟩:=hm _ rfl;generalize cK xs=lo at *
  generalize cL xs=hi at *
  generalize gK xs=k at *
  generalize gC xs=c at *
  generalize gL xs=l at *
  generalize gO xs=o at *
  subst h1;clear hm;refine⟨[],aa [(0,.agg (bN lo hi k c l o))] [] 0 [],Wo trivial ⟨⟨rfl,rfl,rfl,rfl,rfl,rfl,rfl,rfl,rfl,rfl,rfl,rfl,qW,qW,qQ⟩,qQ⟩ trivial,?_⟩;obtain⟨X,hX⟩:∃X,X=l9 lo hi k (pn c) (λi=>ai (pg c i)) l:=⟨_,rfl⟩;rw [<-hX];have e:X=(((bh lo||bh hi)||decide ((l:Int) > 40))||aA (λi=>ik (pn c i) (ai (pg c i))) k||(decide (k<=32)&&(decide (6 < k)||decide (24 < bg (pn c) k))||decide (35 < k))):=by rw [hX,l9,<-qR 40];rfl
  have v1:∀A B C:Bool,((A||B)||C)=((bh lo||bh hi)||decide ((l:Int) > 40))->((A||B)||C)=true->PV.val (.bool true)=PV.val (.bool X):=λA B C h h'=>by rw [e,<-h,h',Bool.true_or,Bool.true_or]
  have t1:bh lo=true->((bh lo||bh hi)||decide ((l:Int) > 40))=true:=λh=>by rw [h];rfl
  have t2:bh hi=true->((bh lo||bh hi)||decide ((l:Int) > 40))=true:=λh=>by rw [h,Bool.or_true];rfl
  have t3:decide ((l:Int) > 40)=true->((bh lo||bh hi)||decide ((l:Int) > 40))=true:=λh=>by rw [h,Bool.or_true]
  have t4:bh lo=false->bh hi=false->decide ((l:Int) > 40)=false->((bh lo||bh hi)||decide ((l:Int) > 40))=false:=λh h' h2=>by rw [h,h',h2];rfl
  have v0:((bh lo||bh hi)||decide ((l:Int) > 40))=true->PV.val (.bool true)=PV.val (.bool X):=λh=>by rw [e,h,Bool.true_or,Bool.true_or]
  have pl:isPk 140737488355328 lo.v:=⟨_,rfl,hlo⟩;have ph:isPk 140737488355328 hi.v:=⟨_,rfl,hhi⟩;have hk47:k<=140737488355328:=hcl.2;with_unfolding_all refine⟨pl,λh1=>⟨ph,λh2=>⟨λh3=>⟨[],aa [(2,.val (.bool X))] [] 0 [],Wo trivial ⟨v0 (t3 h3),qQ⟩ trivial,rfl,rfl⟩,λh3=>⟨Nat,λi=>((bh lo||bh hi)||decide ((l:Int) > 40))=false/\i<=k/\∀j,j < i->ik (pn c j) (ai (pg c j))=false,λi=>aa [(1,.ptr 0 0 0 0),(3,.val (goInt (bg (pn c) i))),(4,.val (goInt i))] [⟨31,14,0,true,false,1,λ_=>bN lo hi k c l o⟩] 1 [],λi=>k - i,⟨0,[some 0],⟨t4 h1 h2 h3,Nat.zero_le _,λj hj=>absurd hj (Nat.not_lt_zero j)⟩,Wo ⟨qZ ⟨rq,rq,rq,rq,rq,rq,rq,rq,rq,rq,rq,rq,⟨qW,rfl⟩,⟨qW,rfl⟩,qQ⟩,qQ⟩ ⟨pP,rfl,rfl,qQ⟩ trivial⟩,λi hI0=>?_⟩⟩,λh2=>⟨λ_=>⟨[],aa [(2,.val (.bool X))] [] 0 [],Wo trivial ⟨v0 (t2 h2),qQ⟩ trivial,rfl,rfl⟩,λh=>(nomatch h)⟩⟩,λh1=>⟨λh=>(nomatch h),λ_=>⟨λ_=>⟨[],aa [(2,.val (.bool X))] [] 0 [],Wo trivial ⟨v0 (t1 h1),qQ⟩ trivial,rfl,rfl⟩,λh=>(nomatch h)⟩⟩⟩
  obtain⟨ha,hik,hI⟩:((bh lo||bh hi)||decide ((l:Int) > 40))=false/\i<=k/\∀j,j < i->ik (pn c j) (ai (pg c j))=false:=hI0;have hsum:∀j,j<=i->bg (pn c) j<=66*j:=λj=>by
   induction j with
   |zero=>intro _;exact Nat.le_refl _
   |succ j ih =>
    intro hj;have h1:=ih (by omega);have h2:=tX (hI j (by omega));unfold bg;omega
  have hs:=hsum i (Nat.le_refl _);have e1:decide (k<=32)=decide ((k:Int)<=32):=by
   rw [decide_eq_decide];omega
  have e':i=k->X=(aA (λi=>ik (pn c i) (ai (pg c i))) k||(decide ((k:Int)<=32)&&(decide ((k:Int) > 6)||decide (((bg (pn c) i:Nat):Int) > 24))||decide ((k:Int) > 35))):=λh=>by rw [e,ha,Bool.false_or,e1,<-qR 6,<-qR 35,<-qR 24,h];rfl
  have af:i=k->aA (λi=>ik (pn c i) (ai (pg c i))) k=false:=λh=>aE.2 λj hj=>hI j (by omega);have x1:(k:Int)<=i->decide ((k:Int)<=32)=true->decide ((k:Int) > 6)=false->decide (((bg (pn c) i:Nat):Int) > 24)=false->PV.val (.bool (decide ((k:Int) > 35)))=PV.val (.bool X):=λh a b d=>by
   have hk:i=k:=by omega
   rw [e' hk,af hk,a,b,d];rfl
  have x2:(k:Int)<=i->decide ((k:Int)<=32)=true->decide ((k:Int) > 6)=false->decide (((bg (pn c) i:Nat):Int) > 24)=true->PV.val (.bool true)=PV.val (.bool X):=λh a b d=>by
   have hk:i=k:=by omega
   rw [e' hk,a,d,Bool.or_true,Bool.true_and,Bool.true_or,Bool.or_true]
  have x3:(k:Int)<=i->decide ((k:Int)<=32)=true->decide ((k:Int) > 6)=true->PV.val (.bool true)=PV.val (.bool X):=λh a b=>by
   have hk:i=k:=by omega
   rw [e' hk,a,b,Bool.true_or,Bool.true_and,Bool.true_or,Bool.or_true]
  have x4:(k:Int)<=i->decide ((k:Int)<=32)=false->PV.val (.bool (decide ((k:Int) > 35)))=PV.val (.bool X):=λh a=>by
   have hk:i=k:=by omega
   rw [e' hk,af hk,a];rfl
  have ei:(i:Int).toNat=i:=Int.toNat_natCast i;have rT:(i:Int) < k->ik (pn c (i:Int).toNat) (ai (pg c (i:Int).toNat))=true->PV.val (.bool true)=PV.val (.bool X):=λhi1 h=>by
   rw [ei] at h;rw [e,a8.2 ⟨i,by omega,h⟩,Bool.or_true,Bool.true_or]
  have rN:ik (pn c (i:Int).toNat) (ai (pg c (i:Int).toNat))=false->∀j,j < i+1->ik (pn c j) (ai (pg c j))=false:=λh j hj=>by
   rw [ei] at h;rcases Nat.lt_or_ge j i with h' | h'
   ·exact hI j h'
   ·obtain rfl:j=i:=by omega
    exact h
  have wi:(i:Int) < k->PV.val (.int .i64 (IntKind.i64.wrap ((i:Int)+1)))=PV.val (.int .i64 ((i+1:Nat):Int)):=λh=>by
   rw [wrap64 (by omega) (by omega)];rfl
  have ws:ik (pn c (i:Int).toNat) (ai (pg c (i:Int).toNat))=false->PV.val (.int .i64 (IntKind.i64.wrap (((bg (pn c) i:Nat):Int)+((pn c (i:Int).toNat:Nat):Int))))=PV.val (goInt ((bg (pn c) (i+1):Nat):Int)):=λh=>by
   rw [ei] at h ⊢;have h2:=tX h;rw [wrap64 (by omega) (by omega),bg];rfl
  have pr:(i:Int) < k->isPL 140737488355328 (pn c (i:Int).toNat) (pg c (i:Int).toNat):=λh=>(hcl.1 _ (by omega)).2;have mu:(i:Int) < k->k - (i+1) < k - i:=λh=>by omega
  have le:(i:Int) < k->i+1<=k:=λh=>by omega
  with_unfolding_all exact⟨λh1=>⟨⟨Int.natCast_nonneg i,bx h1⟩,⟨Int.natCast_nonneg i,bx h1⟩,pr (bx h1),λh2=>⟨[],aa [(2,.val (.bool X))] [] 0 [],Wo trivial ⟨rT (bx h1) h2,qQ⟩ trivial,rfl,rfl⟩,λh2=>⟨i+1,[some 0],⟨ha,le (bx h1),rN h2⟩,mu (bx h1),Wo ⟨qZ ⟨rq,rq,rq,rq,rq,rq,rq,rq,rq,rq,rq,rq,⟨qW,rfl⟩,⟨qW,rfl⟩,qQ⟩,qQ⟩ ⟨pP,ws h2,wi (bx h1),qQ⟩ trivial⟩⟩,λh1=>⟨λh2=>⟨λh3=>⟨λh4=>⟨[],aa [(2,.val (.bool X))] [] 0 [],Wo trivial ⟨x1 (dU h1) h2 h3 h4,qQ⟩ trivial,rfl,rfl⟩,λh4=>⟨[],aa [(2,.val (.bool X))] [] 0 [],Wo trivial ⟨x2 (dU h1) h2 h3 h4,qQ⟩ trivial,rfl,rfl⟩⟩,λh3=>⟨λh=>(nomatch h),λ_=>⟨[],aa [(2,.val (.bool X))] [] 0 [],Wo trivial ⟨x3 (dU h1) h2 h3,qQ⟩ trivial,rfl,rfl⟩⟩⟩,λh2=>⟨λ_=>⟨[],aa [(2,.val (.bool X))] [] 0 [],Wo trivial ⟨x4 (dU h1) h2,qQ⟩ trivial,rfl,rfl⟩,λh=>(nomatch h)⟩⟩⟩
 ·cases e
end Go.Proofs
namespace Go.Num
def dL (n:Nat) (p:Nat->PtS) (i:Nat):Bool:=decide (gp (p i) (p ((i+1)%n)) (p ((i+2)%n))<=0)||decide (0 < i)&&decide (i+1 < n)&&decide (gp (p 0) (p i) (p (i+1))<=0)
def w8 (p:Nat->PtS) (i:Nat):Bool:=decide (dp (p 0) (p (1+i))>=0)
def cv (n:Nat) (p:Nat->PtS):Int:=bif decide (n < 3)||decide (64 < n) then 4 else bif aA (λi=>!ah (p i)) n then 1 else bif aA (w8 p) (n - 1) then 8 else bif aA (dL n p) n then 15 else 0
end Go.Num
namespace Go.Proofs
def FX:List PV->Option Ans
 |[.rs 6 n g]=>some ⟨some (isPL 10000 n g),.val (.int .i64 (cv n (ai g))),[]⟩
 |_=>none
def D95:Opt:={  }
theorem FY:ak D95.toOrd Tryz.f95 1=true:=by kernel_rfl
theorem f95:FnOk Tryz.prog 95 FX:=by
 refine FnOk.ofW aj (am (l:=[(130,Bh),(98,Fm),(131,Bg)]) (own:=[]) (inl:=[]) (by simp [f130,f98,f131]) (by simp)) Tryz.func95 D95 1 FY λargs r e=>?_;unfold FX at e;split at e
 ·rename_i n g
  cases e;refine⟨by simp,λhm=>?_⟩;obtain⟨hg,hn⟩:=hm _ rfl;refine⟨[],aa [(0,.rs 6 n (λi=>(ai g i).cells))] [] 0 [],Wo trivial ⟨⟨rfl,rfl,λi hi=>(hg i hi).1.symm⟩,qQ⟩ trivial,?_⟩;obtain⟨X,hX⟩:∃X,X=cv n (ai g):=⟨_,rfl⟩;rw [<-hX];have e:X=bif decide ((n:Int) < 3)||decide ((n:Int) > 64) then 4 else bif aA (λi=>!ah (ai g i)) n then 1 else bif aA (w8 (ai g)) (n - 1) then 8 else bif aA (dL n (ai g)) n then 15 else 0:=by rw [hX,cv,<-qR 64,<-GB 3];rfl
  have hpl:isPL 4294967296 n (λi=>(ai g i).cells):=⟨λi hi=>⟨rfl,(hg i hi).2.mono (by decide)⟩,hn⟩;have x4:(decide ((n:Int) < 3)||decide ((n:Int) > 64))=true->PV.val (.int .i64 4)=PV.val (.int .i64 X):=λh=>by rw [e,h];rfl
  have t1:decide ((n:Int) < 3)=true->(decide ((n:Int) < 3)||decide ((n:Int) > 64))=true:=λh=>by rw [h];rfl
  have t2:decide ((n:Int) > 64)=true->(decide ((n:Int) < 3)||decide ((n:Int) > 64))=true:=λh=>by rw [h,Bool.or_true]
  have x1:decide ((n:Int) < 3)=false->decide ((n:Int) > 64)=false->(!!aA (λi=>!ah (ai g i)) n)=true->PV.val (.int .i64 1)=PV.val (.int .i64 X):=λh h' k=>by
   rw [Bool.not_not] at k;rw [e,h,h',k];rfl
  have e2:decide ((n:Int) < 3)=false->decide ((n:Int) > 64)=false->(!!aA (λi=>!ah (ai g i)) n)=false->(3<=n/\n<=64)/\X=bif aA (w8 (ai g)) (n - 1) then 8 else bif aA (dL n (ai g)) n then 15 else 0:=λh h' k=>by
   rw [Bool.not_not] at k;have h1:=of_decide_eq_false h;have h2:=of_decide_eq_false h';exact⟨by omega,by rw [e,h,h',k];rfl⟩
  with_unfolding_all refine⟨λh1=>⟨λh2=>⟨[],aa [(2,.val (.int .i64 X))] [] 0 [],Wo trivial ⟨x4 (t2 h2),qQ⟩ trivial,rfl,rfl⟩,λh2=>⟨hpl,λh3=>⟨[],aa [(2,.val (.int .i64 X))] [] 0 [],Wo trivial ⟨x1 h1 h2 h3,qQ⟩ trivial,rfl,rfl⟩,λh3=>⟨Nat,λj=>((3<=n/\n<=64)/\X=bif aA (w8 (ai g)) (n - 1) then 8 else bif aA (dL n (ai g)) n then 15 else 0)/\j+1<=n/\∀i,i < j->w8 (ai g) i=false,λj=>aa [(0,.rs 6 n (λi=>(ai g i).cells)),(3,.val (goInt n)),(4,.val (.int .i64 ((j:Int)+1)))] [] 0 [],λj=>n - j,⟨0,[],⟨e2 h1 h2 h3,by have:=(e2 h1 h2 h3).1;show 0+1<=n;omega,λi hi=>absurd hi (Nat.not_lt_zero i)⟩,Wo trivial ⟨qW,rfl,rfl,qQ⟩ trivial⟩,λj hj=>?_⟩⟩⟩,λh1=>⟨λ_=>⟨[],aa [(2,.val (.int .i64 X))] [] 0 [],Wo trivial ⟨x4 (t1 h1),qQ⟩ trivial,rfl,rfl⟩,λh=>(nomatch h)⟩⟩
  obtain⟨⟨⟨hn3,hn64⟩,hE⟩,hjn,hJ⟩:((3<=n/\n<=64)/\X=bif aA (w8 (ai g)) (n - 1) then 8 else bif aA (dL n (ai g)) n then 15 else 0)/\j+1<=n/\∀i,i < j->w8 (ai g) i=false:=hj;with_unfolding_all refine⟨λh1=>?_,λh1=>?_⟩
  ·have h1:(j:Int)+1 < n:=bx h1;have ej:((j:Int)+1).toNat=1+j:=by omega
   have hc:decide (dp (ai g 0) (ai g ((j:Int)+1).toNat)>=0)=w8 (ai g) j:=by rw [ej];rfl
   have pk0:isPk 1073741824 (ai g 0).v:=⟨_,rfl,(hg 0 (by omega)).2.mono (by decide)⟩;have pkj:isPk 1073741824 (ai g ((j:Int)+1).toNat).v:=⟨_,rfl,(hg _ (by omega)).2.mono (by decide)⟩;have v8:decide (dp (ai g 0) (ai g ((j:Int)+1).toNat)>=0)=true->PV.val (.int .i64 8)=PV.val (.int .i64 X):=λh=>by
    rw [hc] at h;rw [hE,a8.2 ⟨j,by omega,h⟩];rfl
   have nx:decide (dp (ai g 0) (ai g ((j:Int)+1).toNat)>=0)=false->∀i,i < j+1->w8 (ai g) i=false:=λh i hi=>by
    rw [hc] at h;rcases Nat.lt_or_ge i j with h' | h'
    ·exact hJ i h'
    ·obtain rfl:i=j:=by omega
     exact h
   have wj:PV.val (.int .i64 (IntKind.i64.wrap ((j:Int)+1+1)))=PV.val (.int .i64 (((j+1:Nat):Int)+1)):=by
    rw [wrap64 (by omega) (by omega)];rfl
   with_unfolding_all exact⟨⟨by omega,by omega⟩,⟨by omega,h1⟩,⟨pk0,pkj⟩,λh2=>⟨[],aa [(2,.val (.int .i64 X))] [] 0 [],Wo trivial ⟨v8 h2,qQ⟩ trivial,rfl,rfl⟩,λh2=>⟨j+1,[],⟨⟨⟨hn3,hn64⟩,hE⟩,by show j+1+1<=n;omega,nx h2⟩,by show n - (j+1) < n - j;omega,Wo trivial ⟨qW,rfl,wj,qQ⟩ trivial⟩⟩
  ·have h1:(n:Int)<=(j:Int)+1:=dU h1;have hE2:X=bif aA (dL n (ai g)) n then 15 else 0:=by
    rw [hE,aE.2 λi hi=>hJ i (by omega)];rfl
   with_unfolding_all refine⟨Nat,λi=>i<=n/\∀j,j < i->dL n (ai g) j=false,λi=>aa [(0,.rs 6 n (λi=>(ai g i).cells)),(3,.val (goInt n)),(5,.val (goInt i))] [] 0 [],λi=>n - i,⟨0,[],⟨Nat.zero_le _,λi hi=>absurd hi (Nat.not_lt_zero i)⟩,Wo trivial ⟨qW,rfl,rfl,qQ⟩ trivial⟩,λi hi=>?_⟩
   obtain⟨hin,hI⟩:i<=n/\∀j,j < i->dL n (ai g) j=false:=hi;with_unfolding_all refine⟨λh2=>?_,λh2=>?_⟩
   ·have h2:(i:Int) < n:=bx h2;have ei:(i:Int).toNat=i:=Int.toNat_natCast i;have wr:∀m:Nat,m<=2->IntKind.i64.wrap ((i:Int)+(m:Int))=((i+m:Nat):Int):=λm hm=>by
     rw [wrap64 (by omega) (by omega),Int.natCast_add]
    have r1:IntKind.i64.wrap ((i:Int)+1)=((i+1:Nat):Int):=wr 1 (by decide);have r2:IntKind.i64.wrap ((i:Int)+2)=((i+2:Nat):Int):=wr 2 (by decide);have q1:((IntKind.i64.wrap ((i:Int)+1)).tmod n)=(((i+1)%n:Nat):Int):=by rw [r1];rfl
    have q2:((IntKind.i64.wrap ((i:Int)+2)).tmod n)=(((i+2)%n:Nat):Int):=by rw [r2];rfl
    have l1:=Nat.mod_lt (i+1) (show 0 < n by omega);have l2:=Nat.mod_lt (i+2) (show 0 < n by omega);have m1:0<=((IntKind.i64.wrap ((i:Int)+1)).tmod n)/\((IntKind.i64.wrap ((i:Int)+1)).tmod n) < n:=by rw [q1];omega
    have m2:0<=((IntKind.i64.wrap ((i:Int)+2)).tmod n)/\((IntKind.i64.wrap ((i:Int)+2)).tmod n) < n:=by rw [q2];omega
    have hne:(n:Int)≠0:=by omega
    have b1:decide (gp (ai g (i:Int).toNat) (ai g ((IntKind.i64.wrap ((i:Int)+1)).tmod n).toNat) (ai g ((IntKind.i64.wrap ((i:Int)+2)).tmod n).toNat)<=0)=decide (gp (ai g i) (ai g ((i+1)%n)) (ai g ((i+2)%n))<=0):=by rw [q1,q2,ei,Int.toNat_natCast,Int.toNat_natCast]
    have b2:decide (gp (ai g 0) (ai g (i:Int).toNat) (ai g (IntKind.i64.wrap ((i:Int)+1)).toNat)<=0)=decide (gp (ai g 0) (ai g i) (ai g (i+1))<=0):=by rw [r1,ei,Int.toNat_natCast]
    have b3:decide ((IntKind.i64.wrap ((i:Int)+1)) < (n:Int))=decide (i+1 < n):=by
     rw [r1,decide_eq_decide];omega
    have b4:decide ((i:Int) > 0)=decide (0 < i):=by
     rw [decide_eq_decide];omega
    have eb:dL n (ai g) i=(decide (gp (ai g (i:Int).toNat) (ai g ((IntKind.i64.wrap ((i:Int)+1)).tmod n).toNat) (ai g ((IntKind.i64.wrap ((i:Int)+2)).tmod n).toNat)<=0)||decide ((i:Int) > 0)&&decide ((IntKind.i64.wrap ((i:Int)+1)) < (n:Int))&&decide (gp (ai g 0) (ai g (i:Int).toNat) (ai g (IntKind.i64.wrap ((i:Int)+1)).toNat)<=0)):=by rw [b1,b2,b3,b4];rfl
    have le1:i+1<=n:=by omega
    have mu:n - (i+1) < n - i:=by omega
    have wi:PV.val (.int .i64 (IntKind.i64.wrap ((i:Int)+1)))=PV.val (.int .i64 ((i+1:Nat):Int)):=by rw [r1]
    have v15:dL n (ai g) i=true->PV.val (.int .i64 15)=PV.val (.int .i64 X):=λh=>by
     rw [hE2,a8.2 ⟨i,by omega,h⟩];rfl
    have nx:dL n (ai g) i=false->∀j,j < i+1->dL n (ai g) j=false:=λh j hj=>by
     rcases Nat.lt_or_ge j i with h' | h'
     ·exact hI j h'
     ·obtain rfl:j=i:=by omega
      exact h
    have a1:decide (gp (ai g (i:Int).toNat) (ai g ((IntKind.i64.wrap ((i:Int)+1)).tmod n).toNat) (ai g ((IntKind.i64.wrap ((i:Int)+2)).tmod n).toNat)<=0)=true->dL n (ai g) i=true:=λh=>by rw [eb,h];rfl
    have a2:decide (gp (ai g (i:Int).toNat) (ai g ((IntKind.i64.wrap ((i:Int)+1)).tmod n).toNat) (ai g ((IntKind.i64.wrap ((i:Int)+2)).tmod n).toNat)<=0)=false->decide ((i:Int) > 0)=false->dL n (ai g) i=false:=λh h'=>by rw [eb,h,h'];rfl
    have a3:decide (gp (ai g (i:Int).toNat) (ai g ((IntKind.i64.wrap ((i:Int)+1)).tmod n).toNat) (ai g ((IntKind.i64.wrap ((i:Int)+2)).tmod n).toNat)<=0)=false->decide ((i:Int) > 0)=true->decide ((IntKind.i64.wrap ((i:Int)+1)) < (n:Int))=false->dL n (ai g) i=false:=λh h' k=>by rw [eb,h,h',k];rfl
    have a4:decide ((i:Int) > 0)=true->decide ((IntKind.i64.wrap ((i:Int)+1)) < (n:Int))=true->decide (gp (ai g 0) (ai g (i:Int).toNat) (ai g (IntKind.i64.wrap ((i:Int)+1)).toNat)<=0)=true->dL n (ai g) i=true:=λh h' k=>by
     rw [eb,h,h',k];exact Bool.or_true _
    have a5:decide (gp (ai g (i:Int).toNat) (ai g ((IntKind.i64.wrap ((i:Int)+1)).tmod n).toNat) (ai g ((IntKind.i64.wrap ((i:Int)+2)).tmod n).toNat)<=0)=false->decide (gp (ai g 0) (ai g (i:Int).toNat) (ai g (IntKind.i64.wrap ((i:Int)+1)).toNat)<=0)=false->dL n (ai g) i=false:=λh k=>by rw [eb,h,k,Bool.and_false];rfl
    have pk:∀z:Int,0<=z/\z < n->isPk 10000 (ai g z.toNat).v:=λz hz=>⟨_,rfl,(hg _ (by omega)).2⟩;have pi:isPk 10000 (ai g (i:Int).toNat).v:=pk _ ⟨by omega,h2⟩;have p0:isPk 10000 (ai g (Int.toNat 0)).v:=pk 0 ⟨by omega,by omega⟩;have ri:0<=(i:Int)/\(i:Int) < n:=⟨by omega,h2⟩;have r0:0<=(0:Int)/\(0:Int) < n:=⟨by omega,by omega⟩;have rw1:decide ((IntKind.i64.wrap ((i:Int)+1)) < (n:Int))=true->0<=(IntKind.i64.wrap ((i:Int)+1))/\(IntKind.i64.wrap ((i:Int)+1)) < n:=λh=>⟨by rw [r1];omega,of_decide_eq_true h⟩;with_unfolding_all exact⟨ri,hne,m1,hne,m2,⟨pi,pk _ m1,pk _ m2⟩,⟨λh3=>⟨λh4=>⟨λh5=>⟨r0,ri,rw1 h5,⟨p0,pi,pk _ (rw1 h5)⟩,λh6=>⟨[],aa [(2,.val (.int .i64 X))] [] 0 [],Wo trivial ⟨v15 (a4 h4 h5 h6),qQ⟩ trivial,rfl,rfl⟩,λh6=>⟨i+1,[],⟨le1,nx (a5 h3 h6)⟩,mu,Wo trivial ⟨qW,rfl,wi,qQ⟩ trivial⟩⟩,λh5=>⟨λh=>(nomatch h),λ_=>⟨i+1,[],⟨le1,nx (a3 h3 h4 h5)⟩,mu,Wo trivial ⟨qW,rfl,wi,qQ⟩ trivial⟩⟩⟩,λh4=>⟨λh=>(nomatch h),λ_=>⟨λh=>(nomatch h),λ_=>⟨i+1,[],⟨le1,nx (a2 h3 h4)⟩,mu,Wo trivial ⟨qW,rfl,wi,qQ⟩ trivial⟩⟩⟩⟩,λh3=>⟨λ_=>⟨[],aa [(2,.val (.int .i64 X))] [] 0 [],Wo trivial ⟨v15 (a1 h3),qQ⟩ trivial,rfl,rfl⟩,λh=>(nomatch h)⟩⟩⟩
   ·have h2:(n:Int)<=i:=dU h2;have v0:PV.val (.int .i64 0)=PV.val (.int .i64 X):=by
     rw [hE2,aE.2 λj hj=>hI j (by omega)];rfl
    with_unfolding_all exact⟨[],aa [(2,.val (.int .i64 X))] [] 0 [],Wo trivial ⟨v0,qQ⟩ trivial,rfl,rfl⟩
 ·cases e
end Go.Proofs
