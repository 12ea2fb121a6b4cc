/- RoadmapConnects: for every roadmap and all numbers the law returns true, and leaves its arguments as they are. No conditions. -/
import Derived.Deep.Slices
import Derived.SizedLaws
import Derived.Carry
import Derived.WideShapes
import Derived.ProofKit
import Derived.Test.YtpfdckeipckldaaGreatRows
import Derived.Test.YtpfdckeipckldaaGreatD
set_option maxHeartbeats 8000000
set_option linter.all false
set_option linter.unusedVariables false
set_option linter.unusedSimpArgs false
set_option linter.unnecessarySimpa false
namespace Go.Num
open Go Go.Ex Go.Proofs
def regC (lo hi:PtS) (k:Nat) (c:Nat→List PV) (l:Nat) (o:Nat→List PV):List PV:=[.val (.bool lo.x.s),.val (.string lo.x.b),.val (.string lo.x.c),.val (.bool lo.y.s),.val (.string lo.y.b),.val (.string lo.y.c),.val (.bool hi.x.s),.val (.string hi.x.b),.val (.string hi.x.c),.val (.bool hi.y.s),.val (.string hi.y.b),.val (.string hi.y.c),.rs 1 k (fun i=>[.rs 6 (pn c i) (pg c i)]),.rs 3 l (fun i=>cellsO (ow o i))]
def gLo:List PV→PtS
 |a1::a2::a3::a4::a5::a6::_=>rdP [a1,a2,a3,a4,a5,a6]
 |_=>rdP []
def gHi:List PV→PtS
 |_::_::_::_::_::_::a1::a2::a3::a4::a5::a6::_=>rdP [a1,a2,a3,a4,a5,a6]
 |_=>rdP []
def gK:List PV→Nat
 |[_,_,_,_,_,_,_,_,_,_,_,_,.rs 1 k _,_]=>k
 |_=>0
def gC:List PV→Nat→List PV
 |[_,_,_,_,_,_,_,_,_,_,_,_,.rs 1 _ c,_]=>c
 |_=>fun _=>[]
def gL:List PV→Nat
 |[_,_,_,_,_,_,_,_,_,_,_,_,_,.rs 3 l _]=>l
 |_=>0
def gO:List PV→Nat→List PV
 |[_,_,_,_,_,_,_,_,_,_,_,_,_,.rs 3 _ o]=>o
 |_=>fun _=>[]
def isG (h:Nat→List PV):Prop:=h=fun _=>regC (gLo (h 0)) (gHi (h 0)) (gK (h 0)) (gC (h 0)) (gL (h 0)) (gO (h 0))
def sA:List PV→PtS
 |[a1,a2,a3,a4,a5,a6,_,_,_,_,_,_]=>rdP [a1,a2,a3,a4,a5,a6]
 |_=>rdP []
def sB:List PV→PtS
 |[_,_,_,_,_,_,a1,a2,a3,a4,a5,a6]=>rdP [a1,a2,a3,a4,a5,a6]
 |_=>rdP []
def isS2 (h:Nat→List PV):Prop:=h=fun _=>segC (sA (h 0)) (sB (h 0))
def oneS (i:Nat) (lo hi a b:PtS):List (Int×Rat) :=
 bif decide (cmpQ (farQ i lo hi a) 0≤0)&&decide (cmpQ (farQ i lo hi b) 0≤0) then [] else [(-((i:Int)+1),bif decide (cmpQ (farQ i lo hi a) 0≤0) then farQ i lo hi a / (farQ i lo hi a - farQ i lo hi b) else 0)]
def oneC (i:Nat) (n:Nat) (p:Nat→PtS) (a b:PtS):List (Int×Rat):=match partO n p a b with
 |none=>[]
 |some s=>[((i:Int),s.1)]
def partsP (lo hi:PtS) (n:Nat→Nat) (p:Nat→Nat→PtS) (a b:PtS):Nat→List (Int×Rat)
 |0=>[]
 |j+1=>partsP lo hi n p a b j++(if j < 4 then oneS j lo hi a b else oneC (j - 4) (n (j - 4)) (p (j - 4)) a b)
def partsL (lo hi:PtS) (k:Nat) (n:Nat→Nat) (p:Nat→Nat→PtS) (a b:PtS):List (Int×Rat):=partsP lo hi n p a b (k+4)
theorem farQ_le (i:Nat) {lo hi p:PtS} (h1:PtS.le 10000 lo) (h2:PtS.le 10000 hi) (h3:PtS.le 10000 p):QB 20003 (farQ i lo hi p):=by
 unfold farQ
 split
 ·exact(h1.X.sub h3.X).le (by decide)
 ·exact(h3.X.sub h2.X).le (by decide)
 ·exact(h1.Y.sub h3.Y).le (by decide)
 ·exact(h3.Y.sub h2.Y).le (by decide)
theorem partsP_pre {lo hi:PtS} {n:Nat→Nat} {p:Nat→Nat→PtS} {a b:PtS}:∀(d j:Nat),partsP lo hi n p a b j <+: partsP lo hi n p a b (j+d)
 |0,j=>List.prefix_refl _
 |d+1,j=>(partsP_pre d j).trans (List.prefix_append _ _)
theorem partsP_at {lo hi:PtS} {n:Nat→Nat} {p:Nat→Nat→PtS} {a b:PtS} {j k:Nat} (h:j < k) {x:Int×Rat} (hx:(if j < 4 then oneS j lo hi a b else oneC (j - 4) (n (j - 4)) (p (j - 4)) a b)=[x]) :
  (partsP lo hi n p a b k)[(partsP lo hi n p a b j).length]? = some x∧(partsP lo hi n p a b j).length < (partsP lo hi n p a b k).length∧(partsP lo hi n p a b (j+1)).length=(partsP lo hi n p a b j).length+1:=by
 obtain⟨t,ht⟩:=partsP_pre (lo:=lo) (hi:=hi) (n:=n) (p:=p) (a:=a) (b:=b) (k - (j+1)) (j+1)
 rw [show j+1+(k - (j+1))=k by omega] at ht
 have e:partsP lo hi n p a b (j+1)=partsP lo hi n p a b j++[x]:=by rw [partsP,hx]
 rw [←ht,e]
 simp
def ixL (L:List (Int×Rat)) (i:Nat):Int:=match L[i]? with
 |some q=>q.1
 |none=>0
def frL (L:List (Int×Rat)) (i:Nat):Rat:=match L[i]? with
 |some q=>q.2
 |none=>0
def pairV (L:List (Int×Rat)) (i:Nat):List PV:=[.val (.int .i64 (ixL L i)),.val (ratV (frL L i))]
end Go.Num
namespace Go.Proofs
open Go Go.Ex Go.Num
set_option maxRecDepth 100000
def c126:List PV→Option Ans
 |[.agg [.val (.bool s1),.val (.string b1),.val (.string c1),.val (.bool s2),.val (.string b2),.val (.string c2),.val (.bool s3),.val (.string b3),.val (.string c3),.val (.bool s4),.val (.string b4),.val (.string c4),.rs 1 k c,.rs 3 l o],.val v]=>some ⟨some (((∀i,i < k→c i=[.rs 6 (pn c i) (pg c i)])∧∀i,i < l→o i=cellsO (ow o i))∧∃a b,v=segV a b),.fn (.func 171) [] [.rp 14 1 (fun _=>regC (PtS.mk ⟨s1,b1,c1⟩ ⟨s2,b2,c2⟩) (PtS.mk ⟨s3,b3,c3⟩ ⟨s4,b4,c4⟩) k c l o) 0 0,.rp 12 1 (fun _=>segC (rdS v).1 (rdS v).2) 0 0],[]⟩
 |_=>none
theorem ok126:funcOk {} Tryz.f126 2=true:=by kernel_rfl
theorem f126:FnOk Tryz.prog 126 c126:=by
 refine FnOk.ofW orders (mkE_ok (l:=[]) (own:=[]) (inl:=[]) (by simp) (by simp)) Tryz.func126 {} 2 ok126 fun args r e=>?_
 unfold c126 at e
 split at e
 ·rename_i s1 b1 c1 s2 b2 c2 s3 b3 c3 s4 b4 c4 k c l o v
  cases e
  refine⟨by simp,fun hm=>?_⟩
  obtain⟨⟨hc,ho⟩,a,b,rfl⟩:=hm _ rfl
  have hc1:∀i,i < k→[.rs 6 (pn c i) (pg c i)]=c i:=fun i hi=>(hc i hi).symm
  have ho1:∀i,i < l→cellsO (ow o i)=o i:=fun i hi=>(ho i hi).symm
  refine⟨[],stOf [(0,.agg [.val (.bool (PtS.mk ⟨s1,b1,c1⟩ ⟨s2,b2,c2⟩).x.s),.val (.string (PtS.mk ⟨s1,b1,c1⟩ ⟨s2,b2,c2⟩).x.b),.val (.string (PtS.mk ⟨s1,b1,c1⟩ ⟨s2,b2,c2⟩).x.c),.val (.bool (PtS.mk ⟨s1,b1,c1⟩ ⟨s2,b2,c2⟩).y.s),.val (.string (PtS.mk ⟨s1,b1,c1⟩ ⟨s2,b2,c2⟩).y.b),.val (.string (PtS.mk ⟨s1,b1,c1⟩ ⟨s2,b2,c2⟩).y.c),.val (.bool (PtS.mk ⟨s3,b3,c3⟩ ⟨s4,b4,c4⟩).x.s),.val (.string (PtS.mk ⟨s3,b3,c3⟩ ⟨s4,b4,c4⟩).x.b),.val (.string (PtS.mk ⟨s3,b3,c3⟩ ⟨s4,b4,c4⟩).x.c),.val (.bool (PtS.mk ⟨s3,b3,c3⟩ ⟨s4,b4,c4⟩).y.s),.val (.string (PtS.mk ⟨s3,b3,c3⟩ ⟨s4,b4,c4⟩).y.b),.val (.string (PtS.mk ⟨s3,b3,c3⟩ ⟨s4,b4,c4⟩).y.c),.rs 1 k (fun i=>[.rs 6 (pn c i) (pg c i)]),.rs 3 l (fun i=>cellsO (ow o i))]),(1,.val (segV a b))] [] 0 [],Weak.of (by simp) trivial ⟨⟨rfl,rfl,rfl,rfl,rfl,rfl,rfl,rfl,rfl,rfl,rfl,rfl,⟨rfl,rfl,hc1⟩,⟨rfl,rfl,ho1⟩,trivial⟩,rfl,trivial⟩ trivial,?_⟩
  with_unfolding_all exact⟨[some 0,some 1],stOf [(4,.fn (.func 171) [] [.ptr 0 0 0 0,.ptr 1 1 0 0])] [⟨31,14,0,true,false,1,fun _=>regC (PtS.mk ⟨s1,b1,c1⟩ ⟨s2,b2,c2⟩) (PtS.mk ⟨s3,b3,c3⟩ ⟨s4,b4,c4⟩) k c l o⟩,⟨117,12,1,true,false,1,fun _=>segC a b⟩] 2 [],Weak.of (by simp) ⟨⟨lt_ok rfl,rfl,rfl,rfl,rfl,rfl,⟨rfl,rfl⟩,⟨rfl,rfl⟩,⟨rfl,rfl⟩,⟨rfl,rfl⟩,⟨rfl,rfl⟩,⟨rfl,rfl⟩,⟨rfl,rfl⟩,⟨rfl,rfl⟩,⟨rfl,rfl⟩,⟨rfl,rfl⟩,⟨rfl,rfl⟩,⟨rfl,rfl⟩,⟨⟨rfl,rfl,fun _ _=>rfl⟩,rfl⟩,⟨⟨rfl,rfl,fun _ _=>rfl⟩,rfl⟩,trivial⟩,⟨lt_ok rfl,rfl,rfl,rfl,rfl,rfl,⟨rfl,rfl⟩,⟨rfl,rfl⟩,⟨rfl,rfl⟩,⟨rfl,rfl⟩,⟨rfl,rfl⟩,⟨rfl,rfl⟩,⟨rfl,rfl⟩,⟨rfl,rfl⟩,⟨rfl,rfl⟩,⟨rfl,rfl⟩,⟨rfl,rfl⟩,⟨rfl,rfl⟩,trivial⟩,trivial⟩ ⟨⟨rfl,trivial,⟨rfl,rfl,rfl,lt_ok rfl,_,rfl⟩,⟨rfl,rfl,rfl,lt_ok rfl,_,rfl⟩,trivial⟩,trivial⟩ trivial,rfl,rfl⟩
 ·cases e
def c171:List PV→Option SeqA
 |[.rp 14 1 h 0 0,.rp 12 1 h' 0 0]=>some ⟨some ((isG h∧isS2 h')∧((gLo (h 0)).le 10000∧(gHi (h 0)).le 10000)∧((sA (h' 0)).le 10000∧(sB (h' 0)).le 10000)∧isCL 10000 (gK (h 0)) (gC (h 0))),(partsL (gLo (h 0)) (gHi (h 0)) (gK (h 0)) (pn (gC (h 0))) (fun i=>pts (pg (gC (h 0)) i)) (sA (h' 0)) (sB (h' 0))).length,pairV (partsL (gLo (h 0)) (gHi (h 0)) (gK (h 0)) (pn (gC (h 0))) (fun i=>pts (pg (gC (h 0)) i)) (sA (h' 0)) (sB (h' 0)))⟩
 |_=>none
def D171:Opt:={ perm:=atTs [(3,(.rd 0 (.rd 1 (.rd 2 (.rd 3 (.rd 4 (.rd 5 (.rd 7 (.rd 8 (.rd 9 (.rd 10 (.rd 11 (.rd 12 (.alt 6 (.alt 13 (.alt 14 (.mk 15 .nil) (.mk 15 (.mk 14 .nil))) (.alt 14 (.alt 13 (.mk 15 .nil) (.mk 15 (.mk 13 .nil))) (.mk 15 (.alt 13 (.mk 14 .nil) (.mk 14 (.mk 13 .nil)))))) (.alt 14 (.alt 6 (.alt 13 (.mk 15 .nil) (.mk 15 (.mk 13 .nil))) (.mk 15 (.mk 6 (.mk 13 .nil)))) (.mk 15 (.alt 6 (.alt 13 (.mk 14 .nil) (.mk 14 (.mk 13 .nil))) (.mk 14 (.mk 6 (.mk 13 .nil)))))))))))))))))))),(7,(.rd 0 (.rd 1 (.rd 2 (.mk 3 (.mk 4 (.rd 5 (.rd 6 (.rd 7 .nil)))))))))] }
theorem ok171:funcOk D171.toOrd Tryz.f171 3=true:=by kernel_rfl
theorem f171:SeqFn Tryz.prog 171 c171:=by
 refine SeqFn.of orders (mkE_ok (l:=[(172,c172),(208,c208),(209,c209),(210,c210),(211,c211),(139,c139),(115,c115),(173,c173),(174,c174)]) (own:=[]) (inl:=[]) (by simp [f172,f208,f209,f210,f211,f139,f115,f173,f174]) (by simp)) Tryz.func171 D171 3 ok171 rfl fun args r e=>?_
 unfold c171 at e
 split at e
 ·rename_i h h'
  cases e
  refine⟨by simp,fun hm L0=>?_⟩
  obtain⟨⟨h1,h2⟩,⟨hlo,hhi⟩,⟨ha,hb⟩,hc,hk⟩:=hm _ rfl
  unfold isG at h1
  unfold isS2 at h2
  generalize gLo (h 0)=lo at *
  generalize gHi (h 0)=hi at *
  generalize gK (h 0)=k at *
  generalize gC (h 0)=c at *
  generalize gL (h 0)=l at *
  generalize gO (h 0)=o at *
  generalize sA (h' 0)=a at *
  generalize sB (h' 0)=b at *
  subst h1
  subst h2
  clear hm
  unfold partsL
  have hlo':=hlo.mono (show 10000≤4294967296 by decide)
  have hhi':=hhi.mono (show 10000≤4294967296 by decide)
  have ha':=ha.mono (show 10000≤4294967296 by decide)
  have hb':=hb.mono (show 10000≤4294967296 by decide)
  with_unfolding_all refine⟨Nat,fun j=>j≤4,fun j=>stOf [(0,.val (.func (.yield L0) ⟨[]⟩ ⟨[]⟩)),(1,.rp 14 1 (fun _=>regC lo hi k c l o) 0 0),(2,.rp 12 1 (fun _=>segC a b) 0 0),(15,.val (.agg ⟨[.int .i64 (-1),.func (.func 208) ⟨[]⟩ ⟨[]⟩,.int .i64 (-2),.func (.func 209) ⟨[]⟩ ⟨[]⟩,.int .i64 (-3),.func (.func 210) ⟨[]⟩ ⟨[]⟩,.int .i64 (-4),.func (.func 211) ⟨[]⟩ ⟨[]⟩]⟩)),(16,.val (goInt ((j:Nat):Int)))] [] 0 [[(0,.val (.int .i64 ((partsP lo hi (pn c) (fun i=>pts (pg c i)) a b (j)).length:Nat))),(1,.val (.bool false))]],fun j=>4 - j,⟨0,[],Nat.zero_le _,Weak.of (by simp) trivial ⟨rfl,⟨rfl,rfl,rfl,rfl,fun _ _=>rfl⟩,⟨rfl,rfl,rfl,rfl,fun _ _=>rfl⟩,rfl,rfl,trivial⟩ ⟨⟨rfl,rfl,trivial⟩,trivial⟩⟩,fun j hj=>?_⟩
  match j,hj with
  |0,_ =>
   obtain⟨x,hx⟩:∃x,x=(farQ 0 (rdS (segV lo hi)).1 (rdS (segV lo hi)).2 (rdV a.v)):=⟨_,rfl⟩
   obtain⟨y,hy⟩:∃y,y=(farQ 0 (rdS (segV lo hi)).1 (rdS (segV lo hi)).2 (rdV b.v)):=⟨_,rfl⟩
   have hx1:farQ 0 lo hi a=x:=by rw [hx];rfl
   have hy1:farQ 0 lo hi b=y:=by rw [hy];rfl
   have qx:QB 20003 x:=by rw [←hx1];exact farQ_le 0 hlo hhi ha
   have qy:QB 20003 y:=by rw [←hy1];exact farQ_le 0 hlo hhi hb
   have hone:oneS 0 lo hi a b=bif decide (cmpQ x 0≤0)&&decide (cmpQ y 0≤0) then [] else [(-((0:Nat)+1:Int),bif decide (cmpQ x 0≤0) then x / (x - y) else 0)]:=by unfold oneS;rw [hx1,hy1]
   have rx:isRk 4294967296 (ratV (farQ 0 (rdS (segV lo hi)).1 (rdS (segV lo hi)).2 (rdV a.v))):=by rw [←hx];exact qx.rk (by decide)
   have ry:isRk 4294967296 (ratV (farQ 0 (rdS (segV lo hi)).1 (rdS (segV lo hi)).2 (rdV b.v))):=by rw [←hy];exact qy.rk (by decide)
   have rd:isRk 4294967296 (ratV (rdR (ratV (farQ 0 (rdS (segV lo hi)).1 (rdS (segV lo hi)).2 (rdV a.v))) - rdR (ratV (farQ 0 (rdS (segV lo hi)).1 (rdS (segV lo hi)).2 (rdV b.v))))):=by rw [rdR_ratV,rdR_ratV,←hx,←hy];exact(qx.sub qy).rk (by decide)
   have ix:decide (cmpQ (rdR (ratV (farQ 0 (rdS (segV lo hi)).1 (rdS (segV lo hi)).2 (rdV a.v)))) 0≤0)=decide (cmpQ x 0≤0):=by rw [rdR_ratV,←hx]
   have iy:decide (cmpQ (rdR (ratV (farQ 0 (rdS (segV lo hi)).1 (rdS (segV lo hi)).2 (rdV b.v)))) 0≤0)=decide (cmpQ y 0≤0):=by rw [rdR_ratV,←hy]
   have it:rdR (ratV (farQ 0 (rdS (segV lo hi)).1 (rdS (segV lo hi)).2 (rdV a.v))) / rdR (ratV (rdR (ratV (farQ 0 (rdS (segV lo hi)).1 (rdS (segV lo hi)).2 (rdV a.v))) - rdR (ratV (farQ 0 (rdS (segV lo hi)).1 (rdS (segV lo hi)).2 (rdV b.v)))))=x / (x - y):=by rw [rdR_ratV,rdR_ratV,rdR_ratV,←hx,←hy]
   have prA:isSeg 4294967296 (segV lo hi)∧isPk 4294967296 a.v:=⟨⟨lo,hi,rfl,hlo',hhi'⟩,a,rfl,ha'⟩
   have prB:isSeg 4294967296 (segV lo hi)∧isPk 4294967296 b.v:=⟨⟨lo,hi,rfl,hlo',hhi'⟩,b,rfl,hb'⟩
   have sk:decide (cmpQ (rdR (ratV (farQ 0 (rdS (segV lo hi)).1 (rdS (segV lo hi)).2 (rdV a.v)))) 0≤0)=true→decide (cmpQ (rdR (ratV (farQ 0 (rdS (segV lo hi)).1 (rdS (segV lo hi)).2 (rdV b.v)))) 0≤0)=true→(partsP lo hi (pn c) (fun i=>pts (pg c i)) a b (0)).length=(partsP lo hi (pn c) (fun i=>pts (pg c i)) a b (1)).length:=fun h h'=>by
    rw [ix] at h
    rw [iy] at h'
    have e:partsP lo hi (pn c) (fun i=>pts (pg c i)) a b (0+1)=partsP lo hi (pn c) (fun i=>pts (pg c i)) a b 0++oneS 0 lo hi a b:=rfl
    rw [e,hone,h,h']
    simp
   have yl:∀fr:Rat,oneS 0 lo hi a b=[(-((0:Nat)+1:Int),fr)]→(partsP lo hi (pn c) (fun i=>pts (pg c i)) a b (0)).length < (partsP lo hi (pn c) (fun i=>pts (pg c i)) a b (k+4)).length∧[PV.val (.int .i64 (-1)),PV.val (ratV fr)]=pairV (partsP lo hi (pn c) (fun i=>pts (pg c i)) a b (k+4)) (partsP lo hi (pn c) (fun i=>pts (pg c i)) a b (0)).length∧(partsP lo hi (pn c) (fun i=>pts (pg c i)) a b (0)).length+1=(partsP lo hi (pn c) (fun i=>pts (pg c i)) a b (1)).length:=fun fr h=>by
    have h1:=partsP_at (n:=pn c) (p:=fun i=>pts (pg c i)) (show 0 < k+4 by omega) (x:=(-((0:Nat)+1:Int),fr)) (by rw [if_pos (by decide)];exact h)
    refine⟨h1.2.1,?_,h1.2.2.symm⟩
    unfold pairV ixL frL
    rw [h1.1]
    rfl
   have fa:(decide (cmpQ x 0≤0)&&decide (cmpQ y 0≤0))=false→decide (cmpQ (rdR (ratV (farQ 0 (rdS (segV lo hi)).1 (rdS (segV lo hi)).2 (rdV a.v)))) 0≤0)=true→oneS 0 lo hi a b=[(-((0:Nat)+1:Int),rdR (ratV (farQ 0 (rdS (segV lo hi)).1 (rdS (segV lo hi)).2 (rdV a.v))) / rdR (ratV (rdR (ratV (farQ 0 (rdS (segV lo hi)).1 (rdS (segV lo hi)).2 (rdV a.v))) - rdR (ratV (farQ 0 (rdS (segV lo hi)).1 (rdS (segV lo hi)).2 (rdV b.v))))))]:=fun h h'=>by
    rw [ix] at h'
    rw [hone,h,h',it]
    rfl
   have fb:(decide (cmpQ x 0≤0)&&decide (cmpQ y 0≤0))=false→decide (cmpQ (rdR (ratV (farQ 0 (rdS (segV lo hi)).1 (rdS (segV lo hi)).2 (rdV a.v)))) 0≤0)=false→oneS 0 lo hi a b=[(-((0:Nat)+1:Int),0)]:=fun h h'=>by
    rw [ix] at h'
    rw [hone,h,h']
    rfl
   have k1:decide (cmpQ (rdR (ratV (farQ 0 (rdS (segV lo hi)).1 (rdS (segV lo hi)).2 (rdV b.v)))) 0≤0)=false→(decide (cmpQ x 0≤0)&&decide (cmpQ y 0≤0))=false:=fun h=>by
    rw [iy] at h
    rw [h,Bool.and_false]
   have k2:decide (cmpQ (rdR (ratV (farQ 0 (rdS (segV lo hi)).1 (rdS (segV lo hi)).2 (rdV a.v)))) 0≤0) = !true→(decide (cmpQ x 0≤0)&&decide (cmpQ y 0≤0))=false:=fun h=>by
    rw [ix] at h
    rw [h]
    rfl
   clear hx hy
   with_unfolding_all refine⟨fun _=>⟨⟨by decide,by decide⟩,⟨⟨prA,⟨⟨prB,⟨?_,?_⟩⟩,⟨⟨⟨prB,?_⟩,⟨prB,?_⟩⟩,⟨⟨prB,?_⟩,⟨prB,?_⟩⟩⟩⟩⟩,⟨⟨⟨prA,⟨⟨prB,?_⟩,⟨prB,?_⟩⟩⟩,⟨prA,⟨prB,?_⟩⟩⟩,⟨⟨prA,⟨⟨prB,?_⟩,⟨prB,?_⟩⟩⟩,⟨prA,⟨prB,?_⟩⟩⟩⟩⟩⟩,fun hh=>absurd hh (by decide)⟩
   all_goals with_unfolding_all refine⟨rx,fun h1=>⟨ry,fun h2=>⟨1,[],by show 1≤4;decide,by show 4 - 1 < 4 - 0;decide,Weak.of (by simp) trivial ⟨rfl,⟨rfl,rfl,rfl,rfl,fun _ _=>rfl⟩,⟨rfl,rfl,rfl,rfl,fun _ _=>rfl⟩,rfl,rfl,trivial⟩ ⟨⟨congrArg (fun z:Nat=>PV.val (.int .i64 (z:Int))) (sk h1 h2),rfl,trivial⟩,trivial⟩⟩,fun h2=>⟨rx,fun h3=>⟨⟨rx,ry⟩,⟨rx,rd⟩,⟨rfl,(partsP lo hi (pn c) (fun i=>pts (pg c i)) a b (0)).length,rfl,(yl _ (fa (k1 h2) h3)).1,(yl _ (fa (k1 h2) h3)).2.1,⟨fun e=>(nomatch e),fun _=>⟨1,[],by show 1≤4;decide,by show 4 - 1 < 4 - 0;decide,Weak.of (by simp) trivial ⟨rfl,⟨rfl,rfl,rfl,rfl,fun _ _=>rfl⟩,⟨rfl,rfl,rfl,rfl,fun _ _=>rfl⟩,rfl,rfl,trivial⟩ ⟨⟨congrArg (fun z:Nat=>PV.val (.int .i64 (z:Int))) (yl _ (fa (k1 h2) h3)).2.2,rfl,trivial⟩,trivial⟩⟩⟩,⟨fun _=>trivial,fun e=>(nomatch e)⟩⟩⟩,fun h3=>⟨rfl,(partsP lo hi (pn c) (fun i=>pts (pg c i)) a b (0)).length,rfl,(yl _ (fb (k1 h2) h3)).1,(yl _ (fb (k1 h2) h3)).2.1,⟨fun e=>(nomatch e),fun _=>⟨1,[],by show 1≤4;decide,by show 4 - 1 < 4 - 0;decide,Weak.of (by simp) trivial ⟨rfl,⟨rfl,rfl,rfl,rfl,fun _ _=>rfl⟩,⟨rfl,rfl,rfl,rfl,fun _ _=>rfl⟩,rfl,rfl,trivial⟩ ⟨⟨congrArg (fun z:Nat=>PV.val (.int .i64 (z:Int))) (yl _ (fb (k1 h2) h3)).2.2,rfl,trivial⟩,trivial⟩⟩⟩,⟨fun _=>trivial,fun e=>(nomatch e)⟩⟩⟩⟩,fun h1=>⟨fun h2=>(nomatch h2),fun h2=>⟨rx,fun h3=>⟨⟨rx,ry⟩,⟨rx,rd⟩,⟨rfl,(partsP lo hi (pn c) (fun i=>pts (pg c i)) a b (0)).length,rfl,(yl _ (fa (k2 h1) h3)).1,(yl _ (fa (k2 h1) h3)).2.1,⟨fun e=>(nomatch e),fun _=>⟨1,[],by show 1≤4;decide,by show 4 - 1 < 4 - 0;decide,Weak.of (by simp) trivial ⟨rfl,⟨rfl,rfl,rfl,rfl,fun _ _=>rfl⟩,⟨rfl,rfl,rfl,rfl,fun _ _=>rfl⟩,rfl,rfl,trivial⟩ ⟨⟨congrArg (fun z:Nat=>PV.val (.int .i64 (z:Int))) (yl _ (fa (k2 h1) h3)).2.2,rfl,trivial⟩,trivial⟩⟩⟩,⟨fun _=>trivial,fun e=>(nomatch e)⟩⟩⟩,fun h3=>⟨rfl,(partsP lo hi (pn c) (fun i=>pts (pg c i)) a b (0)).length,rfl,(yl _ (fb (k2 h1) h3)).1,(yl _ (fb (k2 h1) h3)).2.1,⟨fun e=>(nomatch e),fun _=>⟨1,[],by show 1≤4;decide,by show 4 - 1 < 4 - 0;decide,Weak.of (by simp) trivial ⟨rfl,⟨rfl,rfl,rfl,rfl,fun _ _=>rfl⟩,⟨rfl,rfl,rfl,rfl,fun _ _=>rfl⟩,rfl,rfl,trivial⟩ ⟨⟨congrArg (fun z:Nat=>PV.val (.int .i64 (z:Int))) (yl _ (fb (k2 h1) h3)).2.2,rfl,trivial⟩,trivial⟩⟩⟩,⟨fun _=>trivial,fun e=>(nomatch e)⟩⟩⟩⟩⟩
  |1,_ =>
   obtain⟨x,hx⟩:∃x,x=(farQ 1 (rdS (segV lo hi)).1 (rdS (segV lo hi)).2 (rdV a.v)):=⟨_,rfl⟩
   obtain⟨y,hy⟩:∃y,y=(farQ 1 (rdS (segV lo hi)).1 (rdS (segV lo hi)).2 (rdV b.v)):=⟨_,rfl⟩
   have hx1:farQ 1 lo hi a=x:=by rw [hx];rfl
   have hy1:farQ 1 lo hi b=y:=by rw [hy];rfl
   have qx:QB 20003 x:=by rw [←hx1];exact farQ_le 1 hlo hhi ha
   have qy:QB 20003 y:=by rw [←hy1];exact farQ_le 1 hlo hhi hb
   have hone:oneS 1 lo hi a b=bif decide (cmpQ x 0≤0)&&decide (cmpQ y 0≤0) then [] else [(-((1:Nat)+1:Int),bif decide (cmpQ x 0≤0) then x / (x - y) else 0)]:=by unfold oneS;rw [hx1,hy1]
   have rx:isRk 4294967296 (ratV (farQ 1 (rdS (segV lo hi)).1 (rdS (segV lo hi)).2 (rdV a.v))):=by rw [←hx];exact qx.rk (by decide)
   have ry:isRk 4294967296 (ratV (farQ 1 (rdS (segV lo hi)).1 (rdS (segV lo hi)).2 (rdV b.v))):=by rw [←hy];exact qy.rk (by decide)
   have rd:isRk 4294967296 (ratV (rdR (ratV (farQ 1 (rdS (segV lo hi)).1 (rdS (segV lo hi)).2 (rdV a.v))) - rdR (ratV (farQ 1 (rdS (segV lo hi)).1 (rdS (segV lo hi)).2 (rdV b.v))))):=by rw [rdR_ratV,rdR_ratV,←hx,←hy];exact(qx.sub qy).rk (by decide)
   have ix:decide (cmpQ (rdR (ratV (farQ 1 (rdS (segV lo hi)).1 (rdS (segV lo hi)).2 (rdV a.v)))) 0≤0)=decide (cmpQ x 0≤0):=by rw [rdR_ratV,←hx]
   have iy:decide (cmpQ (rdR (ratV (farQ 1 (rdS (segV lo hi)).1 (rdS (segV lo hi)).2 (rdV b.v)))) 0≤0)=decide (cmpQ y 0≤0):=by rw [rdR_ratV,←hy]
   have it:rdR (ratV (farQ 1 (rdS (segV lo hi)).1 (rdS (segV lo hi)).2 (rdV a.v))) / rdR (ratV (rdR (ratV (farQ 1 (rdS (segV lo hi)).1 (rdS (segV lo hi)).2 (rdV a.v))) - rdR (ratV (farQ 1 (rdS (segV lo hi)).1 (rdS (segV lo hi)).2 (rdV b.v)))))=x / (x - y):=by rw [rdR_ratV,rdR_ratV,rdR_ratV,←hx,←hy]
   have prA:isSeg 4294967296 (segV lo hi)∧isPk 4294967296 a.v:=⟨⟨lo,hi,rfl,hlo',hhi'⟩,a,rfl,ha'⟩
   have prB:isSeg 4294967296 (segV lo hi)∧isPk 4294967296 b.v:=⟨⟨lo,hi,rfl,hlo',hhi'⟩,b,rfl,hb'⟩
   have sk:decide (cmpQ (rdR (ratV (farQ 1 (rdS (segV lo hi)).1 (rdS (segV lo hi)).2 (rdV a.v)))) 0≤0)=true→decide (cmpQ (rdR (ratV (farQ 1 (rdS (segV lo hi)).1 (rdS (segV lo hi)).2 (rdV b.v)))) 0≤0)=true→(partsP lo hi (pn c) (fun i=>pts (pg c i)) a b (1)).length=(partsP lo hi (pn c) (fun i=>pts (pg c i)) a b (2)).length:=fun h h'=>by
    rw [ix] at h
    rw [iy] at h'
    have e:partsP lo hi (pn c) (fun i=>pts (pg c i)) a b (1+1)=partsP lo hi (pn c) (fun i=>pts (pg c i)) a b 1++oneS 1 lo hi a b:=rfl
    rw [e,hone,h,h']
    simp
   have yl:∀fr:Rat,oneS 1 lo hi a b=[(-((1:Nat)+1:Int),fr)]→(partsP lo hi (pn c) (fun i=>pts (pg c i)) a b (1)).length < (partsP lo hi (pn c) (fun i=>pts (pg c i)) a b (k+4)).length∧[PV.val (.int .i64 (-2)),PV.val (ratV fr)]=pairV (partsP lo hi (pn c) (fun i=>pts (pg c i)) a b (k+4)) (partsP lo hi (pn c) (fun i=>pts (pg c i)) a b (1)).length∧(partsP lo hi (pn c) (fun i=>pts (pg c i)) a b (1)).length+1=(partsP lo hi (pn c) (fun i=>pts (pg c i)) a b (2)).length:=fun fr h=>by
    have h1:=partsP_at (n:=pn c) (p:=fun i=>pts (pg c i)) (show 1 < k+4 by omega) (x:=(-((1:Nat)+1:Int),fr)) (by rw [if_pos (by decide)];exact h)
    refine⟨h1.2.1,?_,h1.2.2.symm⟩
    unfold pairV ixL frL
    rw [h1.1]
    rfl
   have fa:(decide (cmpQ x 0≤0)&&decide (cmpQ y 0≤0))=false→decide (cmpQ (rdR (ratV (farQ 1 (rdS (segV lo hi)).1 (rdS (segV lo hi)).2 (rdV a.v)))) 0≤0)=true→oneS 1 lo hi a b=[(-((1:Nat)+1:Int),rdR (ratV (farQ 1 (rdS (segV lo hi)).1 (rdS (segV lo hi)).2 (rdV a.v))) / rdR (ratV (rdR (ratV (farQ 1 (rdS (segV lo hi)).1 (rdS (segV lo hi)).2 (rdV a.v))) - rdR (ratV (farQ 1 (rdS (segV lo hi)).1 (rdS (segV lo hi)).2 (rdV b.v))))))]:=fun h h'=>by
    rw [ix] at h'
    rw [hone,h,h',it]
    rfl
   have fb:(decide (cmpQ x 0≤0)&&decide (cmpQ y 0≤0))=false→decide (cmpQ (rdR (ratV (farQ 1 (rdS (segV lo hi)).1 (rdS (segV lo hi)).2 (rdV a.v)))) 0≤0)=false→oneS 1 lo hi a b=[(-((1:Nat)+1:Int),0)]:=fun h h'=>by
    rw [ix] at h'
    rw [hone,h,h']
    rfl
   have k1:decide (cmpQ (rdR (ratV (farQ 1 (rdS (segV lo hi)).1 (rdS (segV lo hi)).2 (rdV b.v)))) 0≤0)=false→(decide (cmpQ x 0≤0)&&decide (cmpQ y 0≤0))=false:=fun h=>by
    rw [iy] at h
    rw [h,Bool.and_false]
   have k2:decide (cmpQ (rdR (ratV (farQ 1 (rdS (segV lo hi)).1 (rdS (segV lo hi)).2 (rdV a.v)))) 0≤0) = !true→(decide (cmpQ x 0≤0)&&decide (cmpQ y 0≤0))=false:=fun h=>by
    rw [ix] at h
    rw [h]
    rfl
   clear hx hy
   with_unfolding_all refine⟨fun _=>⟨⟨by decide,by decide⟩,⟨⟨prA,⟨⟨prB,⟨?_,?_⟩⟩,⟨⟨⟨prB,?_⟩,⟨prB,?_⟩⟩,⟨⟨prB,?_⟩,⟨prB,?_⟩⟩⟩⟩⟩,⟨⟨⟨prA,⟨⟨prB,?_⟩,⟨prB,?_⟩⟩⟩,⟨prA,⟨prB,?_⟩⟩⟩,⟨⟨prA,⟨⟨prB,?_⟩,⟨prB,?_⟩⟩⟩,⟨prA,⟨prB,?_⟩⟩⟩⟩⟩⟩,fun hh=>absurd hh (by decide)⟩
   all_goals with_unfolding_all refine⟨rx,fun h1=>⟨ry,fun h2=>⟨2,[],by show 2≤4;decide,by show 4 - 2 < 4 - 1;decide,Weak.of (by simp) trivial ⟨rfl,⟨rfl,rfl,rfl,rfl,fun _ _=>rfl⟩,⟨rfl,rfl,rfl,rfl,fun _ _=>rfl⟩,rfl,rfl,trivial⟩ ⟨⟨congrArg (fun z:Nat=>PV.val (.int .i64 (z:Int))) (sk h1 h2),rfl,trivial⟩,trivial⟩⟩,fun h2=>⟨rx,fun h3=>⟨⟨rx,ry⟩,⟨rx,rd⟩,⟨rfl,(partsP lo hi (pn c) (fun i=>pts (pg c i)) a b (1)).length,rfl,(yl _ (fa (k1 h2) h3)).1,(yl _ (fa (k1 h2) h3)).2.1,⟨fun e=>(nomatch e),fun _=>⟨2,[],by show 2≤4;decide,by show 4 - 2 < 4 - 1;decide,Weak.of (by simp) trivial ⟨rfl,⟨rfl,rfl,rfl,rfl,fun _ _=>rfl⟩,⟨rfl,rfl,rfl,rfl,fun _ _=>rfl⟩,rfl,rfl,trivial⟩ ⟨⟨congrArg (fun z:Nat=>PV.val (.int .i64 (z:Int))) (yl _ (fa (k1 h2) h3)).2.2,rfl,trivial⟩,trivial⟩⟩⟩,⟨fun _=>trivial,fun e=>(nomatch e)⟩⟩⟩,fun h3=>⟨rfl,(partsP lo hi (pn c) (fun i=>pts (pg c i)) a b (1)).length,rfl,(yl _ (fb (k1 h2) h3)).1,(yl _ (fb (k1 h2) h3)).2.1,⟨fun e=>(nomatch e),fun _=>⟨2,[],by show 2≤4;decide,by show 4 - 2 < 4 - 1;decide,Weak.of (by simp) trivial ⟨rfl,⟨rfl,rfl,rfl,rfl,fun _ _=>rfl⟩,⟨rfl,rfl,rfl,rfl,fun _ _=>rfl⟩,rfl,rfl,trivial⟩ ⟨⟨congrArg (fun z:Nat=>PV.val (.int .i64 (z:Int))) (yl _ (fb (k1 h2) h3)).2.2,rfl,trivial⟩,trivial⟩⟩⟩,⟨fun _=>trivial,fun e=>(nomatch e)⟩⟩⟩⟩,fun h1=>⟨fun h2=>(nomatch h2),fun h2=>⟨rx,fun h3=>⟨⟨rx,ry⟩,⟨rx,rd⟩,⟨rfl,(partsP lo hi (pn c) (fun i=>pts (pg c i)) a b (1)).length,rfl,(yl _ (fa (k2 h1) h3)).1,(yl _ (fa (k2 h1) h3)).2.1,⟨fun e=>(nomatch e),fun _=>⟨2,[],by show 2≤4;decide,by show 4 - 2 < 4 - 1;decide,Weak.of (by simp) trivial ⟨rfl,⟨rfl,rfl,rfl,rfl,fun _ _=>rfl⟩,⟨rfl,rfl,rfl,rfl,fun _ _=>rfl⟩,rfl,rfl,trivial⟩ ⟨⟨congrArg (fun z:Nat=>PV.val (.int .i64 (z:Int))) (yl _ (fa (k2 h1) h3)).2.2,rfl,trivial⟩,trivial⟩⟩⟩,⟨fun _=>trivial,fun e=>(nomatch e)⟩⟩⟩,fun h3=>⟨rfl,(partsP lo hi (pn c) (fun i=>pts (pg c i)) a b (1)).length,rfl,(yl _ (fb (k2 h1) h3)).1,(yl _ (fb (k2 h1) h3)).2.1,⟨fun e=>(nomatch e),fun _=>⟨2,[],by show 2≤4;decide,by show 4 - 2 < 4 - 1;decide,Weak.of (by simp) trivial ⟨rfl,⟨rfl,rfl,rfl,rfl,fun _ _=>rfl⟩,⟨rfl,rfl,rfl,rfl,fun _ _=>rfl⟩,rfl,rfl,trivial⟩ ⟨⟨congrArg (fun z:Nat=>PV.val (.int .i64 (z:Int))) (yl _ (fb (k2 h1) h3)).2.2,rfl,trivial⟩,trivial⟩⟩⟩,⟨fun _=>trivial,fun e=>(nomatch e)⟩⟩⟩⟩⟩
  |2,_ =>
   obtain⟨x,hx⟩:∃x,x=(farQ 2 (rdS (segV lo hi)).1 (rdS (segV lo hi)).2 (rdV a.v)):=⟨_,rfl⟩
   obtain⟨y,hy⟩:∃y,y=(farQ 2 (rdS (segV lo hi)).1 (rdS (segV lo hi)).2 (rdV b.v)):=⟨_,rfl⟩
   have hx1:farQ 2 lo hi a=x:=by rw [hx];rfl
   have hy1:farQ 2 lo hi b=y:=by rw [hy];rfl
   have qx:QB 20003 x:=by rw [←hx1];exact farQ_le 2 hlo hhi ha
   have qy:QB 20003 y:=by rw [←hy1];exact farQ_le 2 hlo hhi hb
   have hone:oneS 2 lo hi a b=bif decide (cmpQ x 0≤0)&&decide (cmpQ y 0≤0) then [] else [(-((2:Nat)+1:Int),bif decide (cmpQ x 0≤0) then x / (x - y) else 0)]:=by unfold oneS;rw [hx1,hy1]
   have rx:isRk 4294967296 (ratV (farQ 2 (rdS (segV lo hi)).1 (rdS (segV lo hi)).2 (rdV a.v))):=by rw [←hx];exact qx.rk (by decide)
   have ry:isRk 4294967296 (ratV (farQ 2 (rdS (segV lo hi)).1 (rdS (segV lo hi)).2 (rdV b.v))):=by rw [←hy];exact qy.rk (by decide)
   have rd:isRk 4294967296 (ratV (rdR (ratV (farQ 2 (rdS (segV lo hi)).1 (rdS (segV lo hi)).2 (rdV a.v))) - rdR (ratV (farQ 2 (rdS (segV lo hi)).1 (rdS (segV lo hi)).2 (rdV b.v))))):=by rw [rdR_ratV,rdR_ratV,←hx,←hy];exact(qx.sub qy).rk (by decide)
   have ix:decide (cmpQ (rdR (ratV (farQ 2 (rdS (segV lo hi)).1 (rdS (segV lo hi)).2 (rdV a.v)))) 0≤0)=decide (cmpQ x 0≤0):=by rw [rdR_ratV,←hx]
   have iy:decide (cmpQ (rdR (ratV (farQ 2 (rdS (segV lo hi)).1 (rdS (segV lo hi)).2 (rdV b.v)))) 0≤0)=decide (cmpQ y 0≤0):=by rw [rdR_ratV,←hy]
   have it:rdR (ratV (farQ 2 (rdS (segV lo hi)).1 (rdS (segV lo hi)).2 (rdV a.v))) / rdR (ratV (rdR (ratV (farQ 2 (rdS (segV lo hi)).1 (rdS (segV lo hi)).2 (rdV a.v))) - rdR (ratV (farQ 2 (rdS (segV lo hi)).1 (rdS (segV lo hi)).2 (rdV b.v)))))=x / (x - y):=by rw [rdR_ratV,rdR_ratV,rdR_ratV,←hx,←hy]
   have prA:isSeg 4294967296 (segV lo hi)∧isPk 4294967296 a.v:=⟨⟨lo,hi,rfl,hlo',hhi'⟩,a,rfl,ha'⟩
   have prB:isSeg 4294967296 (segV lo hi)∧isPk 4294967296 b.v:=⟨⟨lo,hi,rfl,hlo',hhi'⟩,b,rfl,hb'⟩
   have sk:decide (cmpQ (rdR (ratV (farQ 2 (rdS (segV lo hi)).1 (rdS (segV lo hi)).2 (rdV a.v)))) 0≤0)=true→decide (cmpQ (rdR (ratV (farQ 2 (rdS (segV lo hi)).1 (rdS (segV lo hi)).2 (rdV b.v)))) 0≤0)=true→(partsP lo hi (pn c) (fun i=>pts (pg c i)) a b (2)).length=(partsP lo hi (pn c) (fun i=>pts (pg c i)) a b (3)).length:=fun h h'=>by
    rw [ix] at h
    rw [iy] at h'
    have e:partsP lo hi (pn c) (fun i=>pts (pg c i)) a b (2+1)=partsP lo hi (pn c) (fun i=>pts (pg c i)) a b 2++oneS 2 lo hi a b:=rfl
    rw [e,hone,h,h']
    simp
   have yl:∀fr:Rat,oneS 2 lo hi a b=[(-((2:Nat)+1:Int),fr)]→(partsP lo hi (pn c) (fun i=>pts (pg c i)) a b (2)).length < (partsP lo hi (pn c) (fun i=>pts (pg c i)) a b (k+4)).length∧[PV.val (.int .i64 (-3)),PV.val (ratV fr)]=pairV (partsP lo hi (pn c) (fun i=>pts (pg c i)) a b (k+4)) (partsP lo hi (pn c) (fun i=>pts (pg c i)) a b (2)).length∧(partsP lo hi (pn c) (fun i=>pts (pg c i)) a b (2)).length+1=(partsP lo hi (pn c) (fun i=>pts (pg c i)) a b (3)).length:=fun fr h=>by
    have h1:=partsP_at (n:=pn c) (p:=fun i=>pts (pg c i)) (show 2 < k+4 by omega) (x:=(-((2:Nat)+1:Int),fr)) (by rw [if_pos (by decide)];exact h)
    refine⟨h1.2.1,?_,h1.2.2.symm⟩
    unfold pairV ixL frL
    rw [h1.1]
    rfl
   have fa:(decide (cmpQ x 0≤0)&&decide (cmpQ y 0≤0))=false→decide (cmpQ (rdR (ratV (farQ 2 (rdS (segV lo hi)).1 (rdS (segV lo hi)).2 (rdV a.v)))) 0≤0)=true→oneS 2 lo hi a b=[(-((2:Nat)+1:Int),rdR (ratV (farQ 2 (rdS (segV lo hi)).1 (rdS (segV lo hi)).2 (rdV a.v))) / rdR (ratV (rdR (ratV (farQ 2 (rdS (segV lo hi)).1 (rdS (segV lo hi)).2 (rdV a.v))) - rdR (ratV (farQ 2 (rdS (segV lo hi)).1 (rdS (segV lo hi)).2 (rdV b.v))))))]:=fun h h'=>by
    rw [ix] at h'
    rw [hone,h,h',it]
    rfl
   have fb:(decide (cmpQ x 0≤0)&&decide (cmpQ y 0≤0))=false→decide (cmpQ (rdR (ratV (farQ 2 (rdS (segV lo hi)).1 (rdS (segV lo hi)).2 (rdV a.v)))) 0≤0)=false→oneS 2 lo hi a b=[(-((2:Nat)+1:Int),0)]:=fun h h'=>by
    rw [ix] at h'
    rw [hone,h,h']
    rfl
   have k1:decide (cmpQ (rdR (ratV (farQ 2 (rdS (segV lo hi)).1 (rdS (segV lo hi)).2 (rdV b.v)))) 0≤0)=false→(decide (cmpQ x 0≤0)&&decide (cmpQ y 0≤0))=false:=fun h=>by
    rw [iy] at h
    rw [h,Bool.and_false]
   have k2:decide (cmpQ (rdR (ratV (farQ 2 (rdS (segV lo hi)).1 (rdS (segV lo hi)).2 (rdV a.v)))) 0≤0) = !true→(decide (cmpQ x 0≤0)&&decide (cmpQ y 0≤0))=false:=fun h=>by
    rw [ix] at h
    rw [h]
    rfl
   clear hx hy
   with_unfolding_all refine⟨fun _=>⟨⟨by decide,by decide⟩,⟨⟨prA,⟨⟨prB,⟨?_,?_⟩⟩,⟨⟨⟨prB,?_⟩,⟨prB,?_⟩⟩,⟨⟨prB,?_⟩,⟨prB,?_⟩⟩⟩⟩⟩,⟨⟨⟨prA,⟨⟨prB,?_⟩,⟨prB,?_⟩⟩⟩,⟨prA,⟨prB,?_⟩⟩⟩,⟨⟨prA,⟨⟨prB,?_⟩,⟨prB,?_⟩⟩⟩,⟨prA,⟨prB,?_⟩⟩⟩⟩⟩⟩,fun hh=>absurd hh (by decide)⟩
   all_goals with_unfolding_all refine⟨rx,fun h1=>⟨ry,fun h2=>⟨3,[],by show 3≤4;decide,by show 4 - 3 < 4 - 2;decide,Weak.of (by simp) trivial ⟨rfl,⟨rfl,rfl,rfl,rfl,fun _ _=>rfl⟩,⟨rfl,rfl,rfl,rfl,fun _ _=>rfl⟩,rfl,rfl,trivial⟩ ⟨⟨congrArg (fun z:Nat=>PV.val (.int .i64 (z:Int))) (sk h1 h2),rfl,trivial⟩,trivial⟩⟩,fun h2=>⟨rx,fun h3=>⟨⟨rx,ry⟩,⟨rx,rd⟩,⟨rfl,(partsP lo hi (pn c) (fun i=>pts (pg c i)) a b (2)).length,rfl,(yl _ (fa (k1 h2) h3)).1,(yl _ (fa (k1 h2) h3)).2.1,⟨fun e=>(nomatch e),fun _=>⟨3,[],by show 3≤4;decide,by show 4 - 3 < 4 - 2;decide,Weak.of (by simp) trivial ⟨rfl,⟨rfl,rfl,rfl,rfl,fun _ _=>rfl⟩,⟨rfl,rfl,rfl,rfl,fun _ _=>rfl⟩,rfl,rfl,trivial⟩ ⟨⟨congrArg (fun z:Nat=>PV.val (.int .i64 (z:Int))) (yl _ (fa (k1 h2) h3)).2.2,rfl,trivial⟩,trivial⟩⟩⟩,⟨fun _=>trivial,fun e=>(nomatch e)⟩⟩⟩,fun h3=>⟨rfl,(partsP lo hi (pn c) (fun i=>pts (pg c i)) a b (2)).length,rfl,(yl _ (fb (k1 h2) h3)).1,(yl _ (fb (k1 h2) h3)).2.1,⟨fun e=>(nomatch e),fun _=>⟨3,[],by show 3≤4;decide,by show 4 - 3 < 4 - 2;decide,Weak.of (by simp) trivial ⟨rfl,⟨rfl,rfl,rfl,rfl,fun _ _=>rfl⟩,⟨rfl,rfl,rfl,rfl,fun _ _=>rfl⟩,rfl,rfl,trivial⟩ ⟨⟨congrArg (fun z:Nat=>PV.val (.int .i64 (z:Int))) (yl _ (fb (k1 h2) h3)).2.2,rfl,trivial⟩,trivial⟩⟩⟩,⟨fun _=>trivial,fun e=>(nomatch e)⟩⟩⟩⟩,fun h1=>⟨fun h2=>(nomatch h2),fun h2=>⟨rx,fun h3=>⟨⟨rx,ry⟩,⟨rx,rd⟩,⟨rfl,(partsP lo hi (pn c) (fun i=>pts (pg c i)) a b (2)).length,rfl,(yl _ (fa (k2 h1) h3)).1,(yl _ (fa (k2 h1) h3)).2.1,⟨fun e=>(nomatch e),fun _=>⟨3,[],by show 3≤4;decide,by show 4 - 3 < 4 - 2;decide,Weak.of (by simp) trivial ⟨rfl,⟨rfl,rfl,rfl,rfl,fun _ _=>rfl⟩,⟨rfl,rfl,rfl,rfl,fun _ _=>rfl⟩,rfl,rfl,trivial⟩ ⟨⟨congrArg (fun z:Nat=>PV.val (.int .i64 (z:Int))) (yl _ (fa (k2 h1) h3)).2.2,rfl,trivial⟩,trivial⟩⟩⟩,⟨fun _=>trivial,fun e=>(nomatch e)⟩⟩⟩,fun h3=>⟨rfl,(partsP lo hi (pn c) (fun i=>pts (pg c i)) a b (2)).length,rfl,(yl _ (fb (k2 h1) h3)).1,(yl _ (fb (k2 h1) h3)).2.1,⟨fun e=>(nomatch e),fun _=>⟨3,[],by show 3≤4;decide,by show 4 - 3 < 4 - 2;decide,Weak.of (by simp) trivial ⟨rfl,⟨rfl,rfl,rfl,rfl,fun _ _=>rfl⟩,⟨rfl,rfl,rfl,rfl,fun _ _=>rfl⟩,rfl,rfl,trivial⟩ ⟨⟨congrArg (fun z:Nat=>PV.val (.int .i64 (z:Int))) (yl _ (fb (k2 h1) h3)).2.2,rfl,trivial⟩,trivial⟩⟩⟩,⟨fun _=>trivial,fun e=>(nomatch e)⟩⟩⟩⟩⟩
  |3,_ =>
   obtain⟨x,hx⟩:∃x,x=(farQ 3 (rdS (segV lo hi)).1 (rdS (segV lo hi)).2 (rdV a.v)):=⟨_,rfl⟩
   obtain⟨y,hy⟩:∃y,y=(farQ 3 (rdS (segV lo hi)).1 (rdS (segV lo hi)).2 (rdV b.v)):=⟨_,rfl⟩
   have hx1:farQ 3 lo hi a=x:=by rw [hx];rfl
   have hy1:farQ 3 lo hi b=y:=by rw [hy];rfl
   have qx:QB 20003 x:=by rw [←hx1];exact farQ_le 3 hlo hhi ha
   have qy:QB 20003 y:=by rw [←hy1];exact farQ_le 3 hlo hhi hb
   have hone:oneS 3 lo hi a b=bif decide (cmpQ x 0≤0)&&decide (cmpQ y 0≤0) then [] else [(-((3:Nat)+1:Int),bif decide (cmpQ x 0≤0) then x / (x - y) else 0)]:=by unfold oneS;rw [hx1,hy1]
   have rx:isRk 4294967296 (ratV (farQ 3 (rdS (segV lo hi)).1 (rdS (segV lo hi)).2 (rdV a.v))):=by rw [←hx];exact qx.rk (by decide)
   have ry:isRk 4294967296 (ratV (farQ 3 (rdS (segV lo hi)).1 (rdS (segV lo hi)).2 (rdV b.v))):=by rw [←hy];exact qy.rk (by decide)
   have rd:isRk 4294967296 (ratV (rdR (ratV (farQ 3 (rdS (segV lo hi)).1 (rdS (segV lo hi)).2 (rdV a.v))) - rdR (ratV (farQ 3 (rdS (segV lo hi)).1 (rdS (segV lo hi)).2 (rdV b.v))))):=by rw [rdR_ratV,rdR_ratV,←hx,←hy];exact(qx.sub qy).rk (by decide)
   have ix:decide (cmpQ (rdR (ratV (farQ 3 (rdS (segV lo hi)).1 (rdS (segV lo hi)).2 (rdV a.v)))) 0≤0)=decide (cmpQ x 0≤0):=by rw [rdR_ratV,←hx]
   have iy:decide (cmpQ (rdR (ratV (farQ 3 (rdS (segV lo hi)).1 (rdS (segV lo hi)).2 (rdV b.v)))) 0≤0)=decide (cmpQ y 0≤0):=by rw [rdR_ratV,←hy]
   have it:rdR (ratV (farQ 3 (rdS (segV lo hi)).1 (rdS (segV lo hi)).2 (rdV a.v))) / rdR (ratV (rdR (ratV (farQ 3 (rdS (segV lo hi)).1 (rdS (segV lo hi)).2 (rdV a.v))) - rdR (ratV (farQ 3 (rdS (segV lo hi)).1 (rdS (segV lo hi)).2 (rdV b.v)))))=x / (x - y):=by rw [rdR_ratV,rdR_ratV,rdR_ratV,←hx,←hy]
   have prA:isSeg 4294967296 (segV lo hi)∧isPk 4294967296 a.v:=⟨⟨lo,hi,rfl,hlo',hhi'⟩,a,rfl,ha'⟩
   have prB:isSeg 4294967296 (segV lo hi)∧isPk 4294967296 b.v:=⟨⟨lo,hi,rfl,hlo',hhi'⟩,b,rfl,hb'⟩
   have sk:decide (cmpQ (rdR (ratV (farQ 3 (rdS (segV lo hi)).1 (rdS (segV lo hi)).2 (rdV a.v)))) 0≤0)=true→decide (cmpQ (rdR (ratV (farQ 3 (rdS (segV lo hi)).1 (rdS (segV lo hi)).2 (rdV b.v)))) 0≤0)=true→(partsP lo hi (pn c) (fun i=>pts (pg c i)) a b (3)).length=(partsP lo hi (pn c) (fun i=>pts (pg c i)) a b (4)).length:=fun h h'=>by
    rw [ix] at h
    rw [iy] at h'
    have e:partsP lo hi (pn c) (fun i=>pts (pg c i)) a b (3+1)=partsP lo hi (pn c) (fun i=>pts (pg c i)) a b 3++oneS 3 lo hi a b:=rfl
    rw [e,hone,h,h']
    simp
   have yl:∀fr:Rat,oneS 3 lo hi a b=[(-((3:Nat)+1:Int),fr)]→(partsP lo hi (pn c) (fun i=>pts (pg c i)) a b (3)).length < (partsP lo hi (pn c) (fun i=>pts (pg c i)) a b (k+4)).length∧[PV.val (.int .i64 (-4)),PV.val (ratV fr)]=pairV (partsP lo hi (pn c) (fun i=>pts (pg c i)) a b (k+4)) (partsP lo hi (pn c) (fun i=>pts (pg c i)) a b (3)).length∧(partsP lo hi (pn c) (fun i=>pts (pg c i)) a b (3)).length+1=(partsP lo hi (pn c) (fun i=>pts (pg c i)) a b (4)).length:=fun fr h=>by
    have h1:=partsP_at (n:=pn c) (p:=fun i=>pts (pg c i)) (show 3 < k+4 by omega) (x:=(-((3:Nat)+1:Int),fr)) (by rw [if_pos (by decide)];exact h)
    refine⟨h1.2.1,?_,h1.2.2.symm⟩
    unfold pairV ixL frL
    rw [h1.1]
    rfl
   have fa:(decide (cmpQ x 0≤0)&&decide (cmpQ y 0≤0))=false→decide (cmpQ (rdR (ratV (farQ 3 (rdS (segV lo hi)).1 (rdS (segV lo hi)).2 (rdV a.v)))) 0≤0)=true→oneS 3 lo hi a b=[(-((3:Nat)+1:Int),rdR (ratV (farQ 3 (rdS (segV lo hi)).1 (rdS (segV lo hi)).2 (rdV a.v))) / rdR (ratV (rdR (ratV (farQ 3 (rdS (segV lo hi)).1 (rdS (segV lo hi)).2 (rdV a.v))) - rdR (ratV (farQ 3 (rdS (segV lo hi)).1 (rdS (segV lo hi)).2 (rdV b.v))))))]:=fun h h'=>by
    rw [ix] at h'
    rw [hone,h,h',it]
    rfl
   have fb:(decide (cmpQ x 0≤0)&&decide (cmpQ y 0≤0))=false→decide (cmpQ (rdR (ratV (farQ 3 (rdS (segV lo hi)).1 (rdS (segV lo hi)).2 (rdV a.v)))) 0≤0)=false→oneS 3 lo hi a b=[(-((3:Nat)+1:Int),0)]:=fun h h'=>by
    rw [ix] at h'
    rw [hone,h,h']
    rfl
   have k1:decide (cmpQ (rdR (ratV (farQ 3 (rdS (segV lo hi)).1 (rdS (segV lo hi)).2 (rdV b.v)))) 0≤0)=false→(decide (cmpQ x 0≤0)&&decide (cmpQ y 0≤0))=false:=fun h=>by
    rw [iy] at h
    rw [h,Bool.and_false]
   have k2:decide (cmpQ (rdR (ratV (farQ 3 (rdS (segV lo hi)).1 (rdS (segV lo hi)).2 (rdV a.v)))) 0≤0) = !true→(decide (cmpQ x 0≤0)&&decide (cmpQ y 0≤0))=false:=fun h=>by
    rw [ix] at h
    rw [h]
    rfl
   clear hx hy
   with_unfolding_all refine⟨fun _=>⟨⟨by decide,by decide⟩,⟨⟨prA,⟨⟨prB,⟨?_,?_⟩⟩,⟨⟨⟨prB,?_⟩,⟨prB,?_⟩⟩,⟨⟨prB,?_⟩,⟨prB,?_⟩⟩⟩⟩⟩,⟨⟨⟨prA,⟨⟨prB,?_⟩,⟨prB,?_⟩⟩⟩,⟨prA,⟨prB,?_⟩⟩⟩,⟨⟨prA,⟨⟨prB,?_⟩,⟨prB,?_⟩⟩⟩,⟨prA,⟨prB,?_⟩⟩⟩⟩⟩⟩,fun hh=>absurd hh (by decide)⟩
   all_goals with_unfolding_all refine⟨rx,fun h1=>⟨ry,fun h2=>⟨4,[],by show 4≤4;decide,by show 4 - 4 < 4 - 3;decide,Weak.of (by simp) trivial ⟨rfl,⟨rfl,rfl,rfl,rfl,fun _ _=>rfl⟩,⟨rfl,rfl,rfl,rfl,fun _ _=>rfl⟩,rfl,rfl,trivial⟩ ⟨⟨congrArg (fun z:Nat=>PV.val (.int .i64 (z:Int))) (sk h1 h2),rfl,trivial⟩,trivial⟩⟩,fun h2=>⟨rx,fun h3=>⟨⟨rx,ry⟩,⟨rx,rd⟩,⟨rfl,(partsP lo hi (pn c) (fun i=>pts (pg c i)) a b (3)).length,rfl,(yl _ (fa (k1 h2) h3)).1,(yl _ (fa (k1 h2) h3)).2.1,⟨fun e=>(nomatch e),fun _=>⟨4,[],by show 4≤4;decide,by show 4 - 4 < 4 - 3;decide,Weak.of (by simp) trivial ⟨rfl,⟨rfl,rfl,rfl,rfl,fun _ _=>rfl⟩,⟨rfl,rfl,rfl,rfl,fun _ _=>rfl⟩,rfl,rfl,trivial⟩ ⟨⟨congrArg (fun z:Nat=>PV.val (.int .i64 (z:Int))) (yl _ (fa (k1 h2) h3)).2.2,rfl,trivial⟩,trivial⟩⟩⟩,⟨fun _=>trivial,fun e=>(nomatch e)⟩⟩⟩,fun h3=>⟨rfl,(partsP lo hi (pn c) (fun i=>pts (pg c i)) a b (3)).length,rfl,(yl _ (fb (k1 h2) h3)).1,(yl _ (fb (k1 h2) h3)).2.1,⟨fun e=>(nomatch e),fun _=>⟨4,[],by show 4≤4;decide,by show 4 - 4 < 4 - 3;decide,Weak.of (by simp) trivial ⟨rfl,⟨rfl,rfl,rfl,rfl,fun _ _=>rfl⟩,⟨rfl,rfl,rfl,rfl,fun _ _=>rfl⟩,rfl,rfl,trivial⟩ ⟨⟨congrArg (fun z:Nat=>PV.val (.int .i64 (z:Int))) (yl _ (fb (k1 h2) h3)).2.2,rfl,trivial⟩,trivial⟩⟩⟩,⟨fun _=>trivial,fun e=>(nomatch e)⟩⟩⟩⟩,fun h1=>⟨fun h2=>(nomatch h2),fun h2=>⟨rx,fun h3=>⟨⟨rx,ry⟩,⟨rx,rd⟩,⟨rfl,(partsP lo hi (pn c) (fun i=>pts (pg c i)) a b (3)).length,rfl,(yl _ (fa (k2 h1) h3)).1,(yl _ (fa (k2 h1) h3)).2.1,⟨fun e=>(nomatch e),fun _=>⟨4,[],by show 4≤4;decide,by show 4 - 4 < 4 - 3;decide,Weak.of (by simp) trivial ⟨rfl,⟨rfl,rfl,rfl,rfl,fun _ _=>rfl⟩,⟨rfl,rfl,rfl,rfl,fun _ _=>rfl⟩,rfl,rfl,trivial⟩ ⟨⟨congrArg (fun z:Nat=>PV.val (.int .i64 (z:Int))) (yl _ (fa (k2 h1) h3)).2.2,rfl,trivial⟩,trivial⟩⟩⟩,⟨fun _=>trivial,fun e=>(nomatch e)⟩⟩⟩,fun h3=>⟨rfl,(partsP lo hi (pn c) (fun i=>pts (pg c i)) a b (3)).length,rfl,(yl _ (fb (k2 h1) h3)).1,(yl _ (fb (k2 h1) h3)).2.1,⟨fun e=>(nomatch e),fun _=>⟨4,[],by show 4≤4;decide,by show 4 - 4 < 4 - 3;decide,Weak.of (by simp) trivial ⟨rfl,⟨rfl,rfl,rfl,rfl,fun _ _=>rfl⟩,⟨rfl,rfl,rfl,rfl,fun _ _=>rfl⟩,rfl,rfl,trivial⟩ ⟨⟨congrArg (fun z:Nat=>PV.val (.int .i64 (z:Int))) (yl _ (fb (k2 h1) h3)).2.2,rfl,trivial⟩,trivial⟩⟩⟩,⟨fun _=>trivial,fun e=>(nomatch e)⟩⟩⟩⟩⟩
  |4,_ =>
   have h44:decide (((4:Nat):Int) < 4)=true→False:=fun h=>absurd h (by decide)
   with_unfolding_all refine⟨fun h=>h44 h,fun _=>⟨Nat,fun i=>i≤k,fun i=>stOf [(0,.val (.func (.yield L0) ⟨[]⟩ ⟨[]⟩)),(1,.rp 14 1 (fun _=>regC lo hi k c l o) 0 0),(2,.rp 12 1 (fun _=>segC a b) 0 0),(60,.rs 1 k (fun i=>[.rs 6 (pn c i) (pg c i)])),(61,.val (goInt k)),(62,.val (goInt i))] [] 0 [[(0,.val (.int .i64 ((partsP lo hi (pn c) (fun i=>pts (pg c i)) a b (i+4)).length:Nat))),(1,.val (.bool false))]],fun i=>k - i,⟨0,[],Nat.zero_le _,Weak.of (by simp) trivial ⟨rfl,⟨rfl,rfl,rfl,rfl,fun _ _=>rfl⟩,⟨rfl,rfl,rfl,rfl,fun _ _=>rfl⟩,⟨rfl,rfl,fun _ _=>rfl⟩,rfl,rfl,trivial⟩ ⟨⟨rfl,rfl,trivial⟩,trivial⟩⟩,fun i hik=>?_⟩⟩
   have hX:(partO (pn c ((i:Nat):Int).toNat) (pts (pg c ((i:Nat):Int).toNat)) (rdS (segV a b)).1 (rdS (segV a b)).2)=partO (pn c i) (pts (pg c i)) a b:=rfl
   have sk:(partO (pn c ((i:Nat):Int).toNat) (pts (pg c ((i:Nat):Int).toNat)) (rdS (segV a b)).1 (rdS (segV a b)).2).isSome=false→(partsP lo hi (pn c) (fun i=>pts (pg c i)) a b (i+4)).length=(partsP lo hi (pn c) (fun i=>pts (pg c i)) a b ((i+1)+4)).length:=fun h=>by
    rw [hX] at h
    have e:partsP lo hi (pn c) (fun i=>pts (pg c i)) a b (i+4+1)=partsP lo hi (pn c) (fun i=>pts (pg c i)) a b (i+4)++(if i+4 < 4 then oneS (i+4) lo hi a b else oneC (i+4 - 4) (pn c (i+4 - 4)) (pts (pg c (i+4 - 4))) a b):=rfl
    rw [show i+1+4=i+4+1 by omega,e,if_neg (by omega),show i+4 - 4=i by omega,oneC]
    cases hh:partO (pn c i) (pts (pg c i)) a b with
    |none=>simp
    |some s=>rw [hh] at h;cases h
   have yl:i < k→(partO (pn c ((i:Nat):Int).toNat) (pts (pg c ((i:Nat):Int).toNat)) (rdS (segV a b)).1 (rdS (segV a b)).2).isSome=true→(partsP lo hi (pn c) (fun i=>pts (pg c i)) a b (i+4)).length < (partsP lo hi (pn c) (fun i=>pts (pg c i)) a b (k+4)).length∧[PV.val (.int .i64 i),PV.val (ratV (loO (partO (pn c ((i:Nat):Int).toNat) (pts (pg c ((i:Nat):Int).toNat)) (rdS (segV a b)).1 (rdS (segV a b)).2)))]=pairV (partsP lo hi (pn c) (fun i=>pts (pg c i)) a b (k+4)) (partsP lo hi (pn c) (fun i=>pts (pg c i)) a b (i+4)).length∧(partsP lo hi (pn c) (fun i=>pts (pg c i)) a b (i+4)).length+1=(partsP lo hi (pn c) (fun i=>pts (pg c i)) a b ((i+1)+4)).length:=fun hik h=>by
    rw [hX] at h ⊢
    cases hh:partO (pn c i) (pts (pg c i)) a b with
    |none=>rw [hh] at h;cases h
    |some s =>
    have h1:=partsP_at (lo:=lo) (hi:=hi) (n:=pn c) (p:=fun i=>pts (pg c i)) (a:=a) (b:=b) (show i+4 < k+4 by omega) (x:=((i:Int),s.1)) (by rw [if_neg (by omega),show i+4 - 4=i by omega,oneC,hh])
    refine⟨h1.2.1,?_,by rw [show i+1+4=i+4+1 by omega];exact h1.2.2.symm⟩
    unfold pairV ixL frL
    rw [h1.1]
    rfl
   have nb:(partO (pn c ((i:Nat):Int).toNat) (pts (pg c ((i:Nat):Int).toNat)) (rdS (segV a b)).1 (rdS (segV a b)).2).isSome=true→partB (pn c ((i:Nat):Int).toNat) (pts (pg c ((i:Nat):Int).toNat)) (rdS (segV a b)).1 (rdS (segV a b)).2=false:=fun h=>by
    rw [hX] at h
    show partB (pn c i) (pts (pg c i)) a b=false
    cases hb:partB (pn c i) (pts (pg c i)) a b
    ·rfl
    ·unfold partO at h
     rw [hb] at h
     cases h
   have nb':(partO (pn c ((i:Nat):Int).toNat) (pts (pg c ((i:Nat):Int).toNat)) (rdS (segV a b)).1 (rdS (segV a b)).2).isSome=true→∀x:Bool,x=((bif partB (pn c ((i:Nat):Int).toNat) (pts (pg c ((i:Nat):Int).toNat)) (rdS (segV a b)).1 (rdS (segV a b)).2 then(1:Int) else 0)==0)→x=false→False:=fun h x hx h'=>by
    rw [nb h] at hx
    rw [hx] at h'
    cases h'
   have ltT:decide ((i:Int) < (k:Int))=true→i < k:=fun h=>Int.ofNat_lt.1 (of_decide_eq_true h)
   have ltF:decide ((i:Int) < (k:Int))=false→i=k:=fun h=>Nat.le_antisymm hik (Nat.le_of_not_lt fun h'=>of_decide_eq_false h (Int.ofNat_lt.2 h'))
   have wi:decide ((i:Int) < (k:Int))=true→PV.val (.int .i64 (IntKind.i64.wrap ((i:Int)+1)))=.val (goInt (i+1:Nat)):=fun h=>by
    have:=ltT h
    rw [wrap64 (by omega) (by omega)]
    rfl
   with_unfolding_all refine⟨fun h0=>⟨⟨Int.natCast_nonneg i,Int.ofNat_lt.2 (ltT h0)⟩,⟨(hc i (ltT h0)).2,a,b,rfl,ha,hb⟩,fun h1=>⟨fun h2=>⟨rfl,(partsP lo hi (pn c) (fun i=>pts (pg c i)) a b (i+4)).length,rfl,(yl (ltT h0) h1).1,(yl (ltT h0) h1).2.1,⟨fun _=>⟨fun e=>(nomatch e),fun _=>⟨i+1,[],ltT h0,by have:=ltT h0;show k - (i+1) < k - i;omega,Weak.of (by simp) trivial ⟨rfl,⟨rfl,rfl,rfl,rfl,fun _ _=>rfl⟩,⟨rfl,rfl,rfl,rfl,fun _ _=>rfl⟩,⟨rfl,rfl,fun _ _=>rfl⟩,rfl,wi h0,trivial⟩ ⟨⟨congrArg (fun z:Nat=>PV.val (.int .i64 (z:Int))) (yl (ltT h0) h1).2.2,rfl,trivial⟩,trivial⟩⟩⟩,fun e=>(nomatch e)⟩,⟨fun _=>⟨fun _=>trivial,fun e=>(nomatch e)⟩,fun e=>(nomatch e)⟩⟩,fun h2=>⟨fun e=>(nomatch e),fun _=>(nb' h1 _ rfl h2).elim⟩⟩,fun h1=>⟨fun e=>(nomatch e),fun _=>⟨fun e=>(nomatch e),fun _=>⟨i+1,[],ltT h0,by have:=ltT h0;show k - (i+1) < k - i;omega,Weak.of (by simp) trivial ⟨rfl,⟨rfl,rfl,rfl,rfl,fun _ _=>rfl⟩,⟨rfl,rfl,rfl,rfl,fun _ _=>rfl⟩,⟨rfl,rfl,fun _ _=>rfl⟩,rfl,wi h0,trivial⟩ ⟨⟨congrArg (fun z:Nat=>PV.val (.int .i64 (z:Int))) (sk h1),rfl,trivial⟩,trivial⟩⟩⟩⟩⟩,fun h0=>?_⟩
   rw [ltF h0]
   rfl
  |j+5,h=>exact absurd h (by show ¬j+5≤4;omega)
 ·cases e
end Go.Proofs
namespace Go.Num
open Go Go.Ex Go.Proofs
def okB (lo hi:PtS) (k:Nat) (c:Nat→List PV) (l:Nat) (o:Nat→List PV) (v:Value):Bool:=!(!canonP (rdS v).1||!canonP (rdS v).2)&&(regE lo hi k (pn c) (fun i=>pts (pg c i)) l (ow o)==0)
def partsC (lo hi:PtS) (k:Nat) (c:Nat→List PV) (v:Value):List (Int×Rat):=partsL lo hi k (pn c) (fun i=>pts (pg c i)) (rdS v).1 (rdS v).2
def blkI (b:Bool) (L:List (Int×Rat)):Int:=bif b then ixL L 0 else 0
end Go.Num
namespace Go.Proofs
open Go Go.Ex Go.Num
set_option maxRecDepth 100000
def c91:List PV→Option Ans
 |[.agg [.val (.bool s1),.val (.string b1),.val (.string c1),.val (.bool s2),.val (.string b2),.val (.string c2),.val (.bool s3),.val (.string b3),.val (.string c3),.val (.bool s4),.val (.string b4),.val (.string c4),.rs 1 k c,.rs 3 l o],.val v]=>some ⟨some (((PtS.le 10000 (PtS.mk ⟨s1,b1,c1⟩ ⟨s2,b2,c2⟩)∧PtS.le 10000 (PtS.mk ⟨s3,b3,c3⟩ ⟨s4,b4,c4⟩))∧isCL 10000 k c∧isOL l o)∧isSeg 10000 v),.val (.tuple ⟨[.int .i64 (blkI (okB (PtS.mk ⟨s1,b1,c1⟩ ⟨s2,b2,c2⟩) (PtS.mk ⟨s3,b3,c3⟩ ⟨s4,b4,c4⟩) k c l o v) (partsC (PtS.mk ⟨s1,b1,c1⟩ ⟨s2,b2,c2⟩) (PtS.mk ⟨s3,b3,c3⟩ ⟨s4,b4,c4⟩) k c v)),.bool (okB (PtS.mk ⟨s1,b1,c1⟩ ⟨s2,b2,c2⟩) (PtS.mk ⟨s3,b3,c3⟩ ⟨s4,b4,c4⟩) k c l o v&&!(partsC (PtS.mk ⟨s1,b1,c1⟩ ⟨s2,b2,c2⟩) (PtS.mk ⟨s3,b3,c3⟩ ⟨s4,b4,c4⟩) k c v).isEmpty),.int .i64 (okW (okB (PtS.mk ⟨s1,b1,c1⟩ ⟨s2,b2,c2⟩) (PtS.mk ⟨s3,b3,c3⟩ ⟨s4,b4,c4⟩) k c l o v))]⟩),[]⟩
 |_=>none
def D91:Opt:={ }
theorem ok91:funcOk D91.toOrd Tryz.f91 2=true:=by kernel_rfl
theorem f91:FnOk Tryz.prog 91 c91:=by
 refine FnOk.ofW orders (mkS_ok (l:=[(125,c125),(126,c126)]) (own:=[]) (inl:=[]) (sq:=[(171,c171)]) (by simp [f125,f126]) (by simp) (by simp [f171])) Tryz.func91 D91 2 ok91 fun args r e=>?_
 unfold c91 at e
 split at e
 ·rename_i s1 b1 c1 s2 b2 c2 s3 b3 c3 s4 b4 c4 k c l o v
  cases e
  refine⟨by simp,fun hm=>?_⟩
  obtain⟨⟨⟨hlo,hhi⟩,⟨hc,hk⟩,ho,hl⟩,a,b,rfl,ha,hb⟩:=hm _ rfl
  obtain⟨lo,hlo'⟩:∃p,p=(PtS.mk ⟨s1,b1,c1⟩ ⟨s2,b2,c2⟩):=⟨_,rfl⟩
  obtain⟨hi,hhi'⟩:∃p,p=(PtS.mk ⟨s3,b3,c3⟩ ⟨s4,b4,c4⟩):=⟨_,rfl⟩
  have hc1:∀i,i < k→[.rs 6 (pn c i) (pg c i)]=c i:=fun i hi=>(hc i hi).1.symm
  have ho1:∀i,i < l→cellsO (ow o i)=o i:=fun i hi=>(ho i hi).symm
  refine⟨[],stOf [(0,.agg [.val (.bool (PtS.mk ⟨s1,b1,c1⟩ ⟨s2,b2,c2⟩).x.s),.val (.string (PtS.mk ⟨s1,b1,c1⟩ ⟨s2,b2,c2⟩).x.b),.val (.string (PtS.mk ⟨s1,b1,c1⟩ ⟨s2,b2,c2⟩).x.c),.val (.bool (PtS.mk ⟨s1,b1,c1⟩ ⟨s2,b2,c2⟩).y.s),.val (.string (PtS.mk ⟨s1,b1,c1⟩ ⟨s2,b2,c2⟩).y.b),.val (.string (PtS.mk ⟨s1,b1,c1⟩ ⟨s2,b2,c2⟩).y.c),.val (.bool (PtS.mk ⟨s3,b3,c3⟩ ⟨s4,b4,c4⟩).x.s),.val (.string (PtS.mk ⟨s3,b3,c3⟩ ⟨s4,b4,c4⟩).x.b),.val (.string (PtS.mk ⟨s3,b3,c3⟩ ⟨s4,b4,c4⟩).x.c),.val (.bool (PtS.mk ⟨s3,b3,c3⟩ ⟨s4,b4,c4⟩).y.s),.val (.string (PtS.mk ⟨s3,b3,c3⟩ ⟨s4,b4,c4⟩).y.b),.val (.string (PtS.mk ⟨s3,b3,c3⟩ ⟨s4,b4,c4⟩).y.c),.rs 1 k (fun i=>[.rs 6 (pn c i) (pg c i)]),.rs 3 l (fun i=>cellsO (ow o i))]),(1,.val (segV a b))] [] 0 [],Weak.of (by simp) trivial ⟨⟨rfl,rfl,rfl,rfl,rfl,rfl,rfl,rfl,rfl,rfl,rfl,rfl,⟨rfl,rfl,hc1⟩,⟨rfl,rfl,ho1⟩,trivial⟩,rfl,trivial⟩ trivial,?_⟩
  rw [←hlo'] at hlo ⊢
  rw [←hhi'] at hhi ⊢
  clear hlo' hhi' hm
  have hlo':=hlo.mono (show 10000≤4294967296 by decide)
  have hhi':=hhi.mono (show 10000≤4294967296 by decide)
  have hrg:(lo.le 4294967296∧hi.le 4294967296)∧isCL 10000 k (fun i=>[.rs 6 (pn c i) (pg c i)])∧isOL l (fun i=>cellsO (ow o i)):=⟨⟨hlo',hhi'⟩,⟨fun i hi=>⟨rfl,(hc i hi).2⟩,hk⟩,fun i hi=>rfl,hl⟩
  obtain⟨R,hR⟩:∃R,R=regE lo hi k (pn c) (fun i=>pts (pg c i)) l (ow o):=⟨_,rfl⟩
  have hR':regE lo hi k (pn (fun i=>[.rs 6 (pn c i) (pg c i)])) (fun i=>pts (pg (fun i=>[.rs 6 (pn c i) (pg c i)]) i)) l (ow (fun i=>cellsO (ow o i)))=R:=hR.symm
  have ha':=ha.mono (show 10000≤4294967296 by decide)
  have hb':=hb.mono (show 10000≤4294967296 by decide)
  obtain⟨L,hL⟩:∃L,L=partsC lo hi k c (segV a b):=⟨_,rfl⟩
  rw [←hL]
  obtain⟨OK,hOK⟩:∃OK,OK=okB lo hi k c l o (segV a b):=⟨_,rfl⟩
  rw [←hOK]
  obtain⟨VI,hVI⟩:∃VI,VI=blkI OK L:=⟨_,rfl⟩
  rw [←hVI]
  obtain⟨VB,hVB⟩:∃VB,VB=(OK&&!L.isEmpty):=⟨_,rfl⟩
  rw [←hVB]
  have hL':partsL lo hi k (pn (fun i=>[.rs 6 (pn c i) (pg c i)])) (fun i=>pts (pg (fun i=>[.rs 6 (pn c i) (pg c i)]) i)) a b=L:=hL.symm
  have cn:∀r:Nat→List PV,pts r 0=a→pts r 1=b→anyP (fun i=>!canonP (pts r i)) 2=(!canonP a||!canonP b):=fun r h h'=>by
   have e:List.range 2=[0,1]:=rfl
   simp only [anyP,e,List.any_cons,List.any_nil,Bool.or_false,h,h']
  have p2:∀r:Nat→List PV,r 0=a.cells→r 1=b.cells→isPL 4294967296 2 r:=fun r h h'=>⟨fun i hi=>by
   match i,hi with
   |0,_=>exact⟨by rw [pts,h];rfl,by rw [pts,h];exact ha'⟩
   |1,_=>exact⟨by rw [pts,h'];rfl,by rw [pts,h'];exact hb'⟩
   |i+2,h=>omega,by decide⟩
  have hOK':OK=(!(!canonP a||!canonP b)&&(R==0)):=by rw [hOK,hR];rfl
  have q1:∀r:Nat→List PV,pts r 0=a→pts r 1=b→(!(!anyP (fun i=>!canonP (pts r i)) 2&&(regE lo hi k (pn (fun i=>[.rs 6 (pn c i) (pg c i)])) (fun i=>pts (pg (fun i=>[.rs 6 (pn c i) (pg c i)]) i)) l (ow (fun i=>cellsO (ow o i)))==0))) = !OK:=fun r h h'=>by
   rw [cn r h h',hR',hOK']
  with_unfolding_all refine⟨⟨hrg,p2 _ rfl rfl⟩,fun h1=>?_,fun h1=>?_⟩
  ·have h1:OK=false:=by
    have:=(q1 _ rfl rfl).symm.trans h1
    simpa using this
   have v1:PV.val (.int .i64 0)=PV.val (.int .i64 VI):=by rw [hVI,h1];rfl
   have v2:PV.val (.bool false)=PV.val (.bool VB):=by rw [hVB,h1];rfl
   have v3:PV.val (.int .i64 1)=PV.val (.int .i64 (okW OK)):=by rw [h1];rfl
   with_unfolding_all exact⟨[some 2,some 3,some 4],stOf [(4,.ptr 0 0 0 0),(5,.ptr 1 1 0 0),(6,.ptr 2 2 0 0)] [⟨3,1,0,true,false,1,fun _=>[.val (.int .i64 VI)]⟩,⟨4,1,1,true,false,1,fun _=>[.val (.bool VB)]⟩,⟨38,1,2,true,false,1,fun _=>[.val (.int .i64 (okW OK))]⟩] 3 [],Weak.of (by simp) ⟨⟨lt_ok rfl,rfl,rfl,rfl,rfl,rfl,⟨v1,rfl⟩,trivial⟩,⟨lt_ok rfl,rfl,rfl,rfl,rfl,rfl,⟨v2,rfl⟩,trivial⟩,⟨lt_ok rfl,rfl,rfl,rfl,rfl,rfl,⟨v3,rfl⟩,trivial⟩,trivial⟩ ⟨⟨rfl,rfl,rfl,lt_ok rfl,_,rfl⟩,⟨rfl,rfl,rfl,lt_ok rfl,_,rfl⟩,⟨rfl,rfl,rfl,lt_ok rfl,_,rfl⟩,trivial⟩ trivial,rfl,rfl⟩
  ·have h1:OK=true:=by
    have:=(q1 _ rfl rfl).symm.trans h1
    simpa using this
   have v3:PV.val (.int .i64 0)=PV.val (.int .i64 (okW OK)):=by rw [h1];rfl
   with_unfolding_all refine⟨⟨⟨fun i _=>rfl,fun i _=>rfl⟩,a,b,rfl⟩,⟨⟨rfl,rfl⟩,⟨hlo,hhi⟩,⟨ha,hb⟩,⟨fun i hi=>⟨rfl,(hc i hi).2⟩,hk⟩⟩,Unit,fun i _=>i=0,fun _=>stOf [(2,.ptr 0 0 0 0),(3,.ptr 1 1 0 0),(4,.ptr 2 2 0 0),(5,.ptr 3 3 0 0),(6,.ptr 4 4 0 0)] [⟨31,14,0,true,false,1,fun _=>[.val (.bool lo.x.s),.val (.string lo.x.b),.val (.string lo.x.c),.val (.bool lo.y.s),.val (.string lo.y.b),.val (.string lo.y.c),.val (.bool hi.x.s),.val (.string hi.x.b),.val (.string hi.x.c),.val (.bool hi.y.s),.val (.string hi.y.b),.val (.string hi.y.c),.rs 1 k (fun i=>[.rs 6 (pn c i) (pg c i)]),.rs 3 l (fun i=>cellsO (ow o i))]⟩,⟨117,12,1,true,false,1,fun _=>[.val (.bool a.x.s),.val (.string a.x.b),.val (.string a.x.c),.val (.bool a.y.s),.val (.string a.y.b),.val (.string a.y.c),.val (.bool b.x.s),.val (.string b.x.b),.val (.string b.x.c),.val (.bool b.y.s),.val (.string b.y.b),.val (.string b.y.c)]⟩,⟨3,1,2,true,false,1,fun _=>[.val (.int .i64 0)]⟩,⟨4,1,3,true,false,1,fun _=>[.val (.bool false)]⟩,⟨38,1,4,true,false,1,fun _=>[.val (.int .i64 0)]⟩] 5 [],⟨(),[some 0,some 1,some 2,some 3,some 4],rfl,Weak.of (by simp) ⟨⟨lt_ok rfl,rfl,rfl,rfl,rfl,rfl,⟨rfl,rfl⟩,⟨rfl,rfl⟩,⟨rfl,rfl⟩,⟨rfl,rfl⟩,⟨rfl,rfl⟩,⟨rfl,rfl⟩,⟨rfl,rfl⟩,⟨rfl,rfl⟩,⟨rfl,rfl⟩,⟨rfl,rfl⟩,⟨rfl,rfl⟩,⟨rfl,rfl⟩,⟨⟨rfl,rfl,fun _ _=>rfl⟩,rfl⟩,⟨⟨rfl,rfl,fun _ _=>rfl⟩,rfl⟩,trivial⟩,⟨lt_ok rfl,rfl,rfl,rfl,rfl,rfl,⟨rfl,rfl⟩,⟨rfl,rfl⟩,⟨rfl,rfl⟩,⟨rfl,rfl⟩,⟨rfl,rfl⟩,⟨rfl,rfl⟩,⟨rfl,rfl⟩,⟨rfl,rfl⟩,⟨rfl,rfl⟩,⟨rfl,rfl⟩,⟨rfl,rfl⟩,⟨rfl,rfl⟩,trivial⟩,⟨lt_ok rfl,rfl,rfl,rfl,rfl,rfl,⟨rfl,rfl⟩,trivial⟩,⟨lt_ok rfl,rfl,rfl,rfl,rfl,rfl,⟨rfl,rfl⟩,trivial⟩,⟨lt_ok rfl,rfl,rfl,rfl,rfl,rfl,⟨rfl,rfl⟩,trivial⟩,trivial⟩ ⟨⟨rfl,rfl,rfl,lt_ok rfl,_,rfl⟩,⟨rfl,rfl,rfl,lt_ok rfl,_,rfl⟩,⟨rfl,rfl,rfl,lt_ok rfl,_,rfl⟩,⟨rfl,rfl,rfl,lt_ok rfl,_,rfl⟩,⟨rfl,rfl,rfl,lt_ok rfl,_,rfl⟩,trivial⟩ trivial⟩,fun i y hin hI=>?_,fun y hI=>?_⟩
   ·have hI:i=0:=hI
    have hin:i < (partsL lo hi k (pn (fun i=>[.rs 6 (pn c i) (pg c i)])) (fun i=>pts (pg (fun i=>[.rs 6 (pn c i) (pg c i)]) i)) a b).length:=hin
    have v1:PV.val (.int .i64 (ixL (partsL lo hi k (pn (fun i=>[.rs 6 (pn c i) (pg c i)])) (fun i=>pts (pg (fun i=>[.rs 6 (pn c i) (pg c i)]) i)) a b) i))=PV.val (.int .i64 VI):=by rw [hL',hVI,h1,hI];rfl
    have v2:PV.val (.bool true)=PV.val (.bool VB):=by
     rw [hL'] at hin
     rw [hVB,h1]
     cases L with
     |nil=>cases hin
     |cons=>rfl
    with_unfolding_all exact⟨rfl,⟨[some 2,some 3,some 4],stOf [(4,.ptr 0 0 0 0),(5,.ptr 1 1 0 0),(6,.ptr 2 2 0 0)] [⟨3,1,0,true,false,1,fun _=>[.val (.int .i64 VI)]⟩,⟨4,1,1,true,false,1,fun _=>[.val (.bool VB)]⟩,⟨38,1,2,true,false,1,fun _=>[.val (.int .i64 (okW OK))]⟩] 3 [],Weak.of (by simp) ⟨⟨lt_ok rfl,rfl,rfl,rfl,rfl,rfl,⟨v1,rfl⟩,trivial⟩,⟨lt_ok rfl,rfl,rfl,rfl,rfl,rfl,⟨v2,rfl⟩,trivial⟩,⟨lt_ok rfl,rfl,rfl,rfl,rfl,rfl,⟨v3,rfl⟩,trivial⟩,trivial⟩ ⟨⟨rfl,rfl,rfl,lt_ok rfl,_,rfl⟩,⟨rfl,rfl,rfl,lt_ok rfl,_,rfl⟩,⟨rfl,rfl,rfl,lt_ok rfl,_,rfl⟩,trivial⟩ trivial,rfl,rfl⟩⟩
   ·have hI:(partsL lo hi k (pn (fun i=>[.rs 6 (pn c i) (pg c i)])) (fun i=>pts (pg (fun i=>[.rs 6 (pn c i) (pg c i)]) i)) a b).length=0:=hI
    rw [hL'] at hI
    have hI:=List.length_eq_zero_iff.1 hI
    have v1:PV.val (.int .i64 0)=PV.val (.int .i64 VI):=by rw [hVI,h1,hI];rfl
    have v2:PV.val (.bool false)=PV.val (.bool VB):=by rw [hVB,h1,hI];rfl
    with_unfolding_all exact⟨[some 2,some 3,some 4],stOf [(4,.ptr 0 0 0 0),(5,.ptr 1 1 0 0),(6,.ptr 2 2 0 0)] [⟨3,1,0,true,false,1,fun _=>[.val (.int .i64 VI)]⟩,⟨4,1,1,true,false,1,fun _=>[.val (.bool VB)]⟩,⟨38,1,2,true,false,1,fun _=>[.val (.int .i64 (okW OK))]⟩] 3 [],Weak.of (by simp) ⟨⟨lt_ok rfl,rfl,rfl,rfl,rfl,rfl,⟨v1,rfl⟩,trivial⟩,⟨lt_ok rfl,rfl,rfl,rfl,rfl,rfl,⟨v2,rfl⟩,trivial⟩,⟨lt_ok rfl,rfl,rfl,rfl,rfl,rfl,⟨v3,rfl⟩,trivial⟩,trivial⟩ ⟨⟨rfl,rfl,rfl,lt_ok rfl,_,rfl⟩,⟨rfl,rfl,rfl,lt_ok rfl,_,rfl⟩,⟨rfl,rfl,rfl,lt_ok rfl,_,rfl⟩,trivial⟩ trivial,rfl,rfl⟩
 ·cases e
end Go.Proofs
namespace Go.Num
open Go Go.Ex Go.Proofs
def seeB (lo hi:PtS) (k:Nat) (c:Nat→List PV) (l:Nat) (o:Nat→List PV) (a b:PtS):Bool:=okB lo hi k c l o (segV a b)&&(partsC lo hi k c (segV a b)).isEmpty
end Go.Num
namespace Go.Proofs
open Go Go.Ex Go.Num
set_option maxRecDepth 100000
def c56:List PV→Option Ans
 |[.agg [.val (.bool s1),.val (.string b1),.val (.string c1),.val (.bool s2),.val (.string b2),.val (.string c2),.val (.bool s3),.val (.string b3),.val (.string c3),.val (.bool s4),.val (.string b4),.val (.string c4),.rs 1 k c,.rs 3 l o],.val v,.val w]=>some ⟨some (((PtS.le 10000 (PtS.mk ⟨s1,b1,c1⟩ ⟨s2,b2,c2⟩)∧PtS.le 10000 (PtS.mk ⟨s3,b3,c3⟩ ⟨s4,b4,c4⟩))∧isCL 10000 k c∧isOL l o)∧isPk 10000 v∧isPk 10000 w),.val (.bool (seeB (PtS.mk ⟨s1,b1,c1⟩ ⟨s2,b2,c2⟩) (PtS.mk ⟨s3,b3,c3⟩ ⟨s4,b4,c4⟩) k c l o (rdV v) (rdV w))),[]⟩
 |_=>none
theorem ok56:funcOk {} Tryz.f56 1=true:=by kernel_rfl
theorem f56:FnOk Tryz.prog 56 c56:=by
 refine FnOk.ofW orders (mkE_ok (l:=[(91,c91)]) (own:=[]) (inl:=[]) (by simp [f91]) (by simp)) Tryz.func56 {} 3 ok56 fun args r e=>?_
 unfold c56 at e
 split at e
 ·rename_i s1 b1 c1 s2 b2 c2 s3 b3 c3 s4 b4 c4 k c l o v w
  cases e
  refine⟨by simp,fun hm=>?_⟩
  obtain⟨⟨⟨hlo,hhi⟩,⟨hc,hk⟩,ho,hl⟩,⟨a,rfl,ha⟩,b,rfl,hb⟩:=hm _ rfl
  obtain⟨lo,hlo'⟩:∃p,p=(PtS.mk ⟨s1,b1,c1⟩ ⟨s2,b2,c2⟩):=⟨_,rfl⟩
  obtain⟨hi,hhi'⟩:∃p,p=(PtS.mk ⟨s3,b3,c3⟩ ⟨s4,b4,c4⟩):=⟨_,rfl⟩
  have hc1:∀i,i < k→[.rs 6 (pn c i) (pg c i)]=c i:=fun i hi=>(hc i hi).1.symm
  have ho1:∀i,i < l→cellsO (ow o i)=o i:=fun i hi=>(ho i hi).symm
  refine⟨[],stOf [(0,.agg [.val (.bool (PtS.mk ⟨s1,b1,c1⟩ ⟨s2,b2,c2⟩).x.s),.val (.string (PtS.mk ⟨s1,b1,c1⟩ ⟨s2,b2,c2⟩).x.b),.val (.string (PtS.mk ⟨s1,b1,c1⟩ ⟨s2,b2,c2⟩).x.c),.val (.bool (PtS.mk ⟨s1,b1,c1⟩ ⟨s2,b2,c2⟩).y.s),.val (.string (PtS.mk ⟨s1,b1,c1⟩ ⟨s2,b2,c2⟩).y.b),.val (.string (PtS.mk ⟨s1,b1,c1⟩ ⟨s2,b2,c2⟩).y.c),.val (.bool (PtS.mk ⟨s3,b3,c3⟩ ⟨s4,b4,c4⟩).x.s),.val (.string (PtS.mk ⟨s3,b3,c3⟩ ⟨s4,b4,c4⟩).x.b),.val (.string (PtS.mk ⟨s3,b3,c3⟩ ⟨s4,b4,c4⟩).x.c),.val (.bool (PtS.mk ⟨s3,b3,c3⟩ ⟨s4,b4,c4⟩).y.s),.val (.string (PtS.mk ⟨s3,b3,c3⟩ ⟨s4,b4,c4⟩).y.b),.val (.string (PtS.mk ⟨s3,b3,c3⟩ ⟨s4,b4,c4⟩).y.c),.rs 1 k (fun i=>[.rs 6 (pn c i) (pg c i)]),.rs 3 l (fun i=>cellsO (ow o i))]),(1,.val a.v),(2,.val b.v)] [] 0 [],Weak.of (by simp) trivial ⟨⟨rfl,rfl,rfl,rfl,rfl,rfl,rfl,rfl,rfl,rfl,rfl,rfl,⟨rfl,rfl,hc1⟩,⟨rfl,rfl,ho1⟩,trivial⟩,rfl,rfl,trivial⟩ trivial,?_⟩
  rw [←hlo'] at hlo ⊢
  rw [←hhi'] at hhi ⊢
  clear hlo' hhi' hm
  have hlo':=hlo.mono (show 10000≤4294967296 by decide)
  have hhi':=hhi.mono (show 10000≤4294967296 by decide)
  have hrg:(lo.le 4294967296∧hi.le 4294967296)∧isCL 10000 k (fun i=>[.rs 6 (pn c i) (pg c i)])∧isOL l (fun i=>cellsO (ow o i)):=⟨⟨hlo',hhi'⟩,⟨fun i hi=>⟨rfl,(hc i hi).2⟩,hk⟩,fun i hi=>rfl,hl⟩
  obtain⟨R,hR⟩:∃R,R=regE lo hi k (pn c) (fun i=>pts (pg c i)) l (ow o):=⟨_,rfl⟩
  have hR':regE lo hi k (pn (fun i=>[.rs 6 (pn c i) (pg c i)])) (fun i=>pts (pg (fun i=>[.rs 6 (pn c i) (pg c i)]) i)) l (ow (fun i=>cellsO (ow o i)))=R:=hR.symm
  clear hR' hR
  obtain⟨S,hS⟩:∃S,S=seeB lo hi k c l o a b:=⟨_,rfl⟩
  have hv:seeB lo hi k c l o (rdV a.v) (rdV b.v)=S:=hS.symm
  rw [hv]
  have hrg2:((lo.le 10000∧hi.le 10000)∧isCL 10000 k (fun i=>[.rs 6 (pn c i) (pg c i)])∧isOL l (fun i=>cellsO (ow o i)))∧isSeg 10000 (segV a b):=⟨⟨⟨hlo,hhi⟩,⟨fun i hi=>⟨rfl,(hc i hi).2⟩,hk⟩,fun i hi=>rfl,hl⟩,a,b,rfl,ha,hb⟩
  have fv:okB lo hi k (fun i=>[.rs 6 (pn c i) (pg c i)]) l (fun i=>cellsO (ow o i)) (segV a b)=okB lo hi k c l o (segV a b):=rfl
  have fw:partsC lo hi k (fun i=>[.rs 6 (pn c i) (pg c i)]) (segV a b)=partsC lo hi k c (segV a b):=rfl
  have w1:(okW (okB lo hi k (fun i=>[.rs 6 (pn c i) (pg c i)]) l (fun i=>cellsO (ow o i)) (segV a b))==0)=true→PV.val (.bool (!(okB lo hi k (fun i=>[.rs 6 (pn c i) (pg c i)]) l (fun i=>cellsO (ow o i)) (segV a b)&&!(partsC lo hi k (fun i=>[.rs 6 (pn c i) (pg c i)]) (segV a b)).isEmpty)))=PV.val (.bool S):=fun h=>by
   have h:okB lo hi k (fun i=>[.rs 6 (pn c i) (pg c i)]) l (fun i=>cellsO (ow o i)) (segV a b)=true:=by cases h':okB lo hi k (fun i=>[.rs 6 (pn c i) (pg c i)]) l (fun i=>cellsO (ow o i)) (segV a b) with
    |true=>rfl
    |false=>rw [h'] at h;cases h
   rw [fv] at h ⊢
   rw [fw,h,hS,seeB,h,Bool.true_and,Bool.true_and,Bool.not_not]
  have w2:(okW (okB lo hi k (fun i=>[.rs 6 (pn c i) (pg c i)]) l (fun i=>cellsO (ow o i)) (segV a b))==0)=false→PV.val (.bool false)=PV.val (.bool S):=fun h=>by
   have h:okB lo hi k (fun i=>[.rs 6 (pn c i) (pg c i)]) l (fun i=>cellsO (ow o i)) (segV a b)=false:=by cases h':okB lo hi k (fun i=>[.rs 6 (pn c i) (pg c i)]) l (fun i=>cellsO (ow o i)) (segV a b) with
    |false=>rfl
    |true=>rw [h'] at h;cases h
   rw [fv] at h
   rw [hS,seeB,h,Bool.false_and]
  with_unfolding_all exact⟨hrg2,fun h1=>⟨[],stOf [(6,.val (.bool S))] [] 0 [],Weak.of (by simp) trivial ⟨w1 h1,trivial⟩ trivial,rfl,rfl⟩,fun h1=>⟨[],stOf [(6,.val (.bool S))] [] 0 [],Weak.of (by simp) trivial ⟨w2 h1,trivial⟩ trivial,rfl,rfl⟩⟩
 ·cases e
end Go.Proofs
namespace Go.Num
open Go Go.Ex Go.Proofs
def vertJ (S:PtS→Bool) (p:Nat→PtS):Nat→List PtS
 |0=>[]
 |j+1=>vertJ S p j++(bif S (p j) then [p j] else [])
def vertI (S:PtS→Bool) (n:Nat→Nat) (p:Nat→Nat→PtS):Nat→List PtS
 |0=>[]
 |i+1=>vertI S n p i++vertJ S (p i) (n i)
theorem vertJ_pre {S:PtS→Bool} {p:Nat→PtS}:∀(d j:Nat),vertJ S p j <+: vertJ S p (j+d)
 |0,j=>List.prefix_refl _
 |d+1,j=>(vertJ_pre d j).trans (List.prefix_append _ _)
theorem vertI_pre {S:PtS→Bool} {n:Nat→Nat} {p:Nat→Nat→PtS}:∀(d j:Nat),vertI S n p j <+: vertI S n p (j+d)
 |0,j=>List.prefix_refl _
 |d+1,j=>(vertI_pre d j).trans (List.prefix_append _ _)
theorem vert_at {S:PtS→Bool} {n:Nat→Nat} {p:Nat→Nat→PtS} {i k j:Nat} (hi:i < k) (hj:j < n i) (h:S (p i j)=true) :
  (vertI S n p k)[(vertI S n p i).length+(vertJ S (p i) j).length]? = some (p i j)∧(vertI S n p i).length+(vertJ S (p i) j).length < (vertI S n p k).length:=by
 obtain⟨t,ht⟩:=vertI_pre (S:=S) (n:=n) (p:=p) (k - (i+1)) (i+1)
 rw [show i+1+(k - (i+1))=k by omega] at ht
 obtain⟨u,hu⟩:=vertJ_pre (S:=S) (p:=p i) (n i - (j+1)) (j+1)
 rw [show j+1+(n i - (j+1))=n i by omega] at hu
 rw [←ht,vertI,←hu,vertJ,h]
 simp
def vertP (L:List PtS) (i:Nat):PtS:=L[i]?.getD (rdP [])
def vertC (lo hi:PtS) (k:Nat) (c:Nat→List PV) (l:Nat) (o:Nat→List PV):List PtS:=vertI (fun p=>seeB lo hi k c l o p p) (pn c) (fun i=>pts (pg c i)) k
end Go.Num
namespace Go.Proofs
open Go Go.Ex Go.Num
set_option maxRecDepth 100000
def c94:List PV→Option Ans
 |[.agg [.val (.bool s1),.val (.string b1),.val (.string c1),.val (.bool s2),.val (.string b2),.val (.string c2),.val (.bool s3),.val (.string b3),.val (.string c3),.val (.bool s4),.val (.string b4),.val (.string c4),.rs 1 k c,.rs 3 l o]]=>some ⟨some (((∀i,i < k→c i=[.rs 6 (pn c i) (pg c i)])∧∀i,i < l→o i=cellsO (ow o i))),.fn (.func 129) [] [.rp 14 1 (fun _=>regC (PtS.mk ⟨s1,b1,c1⟩ ⟨s2,b2,c2⟩) (PtS.mk ⟨s3,b3,c3⟩ ⟨s4,b4,c4⟩) k c l o) 0 0],[]⟩
 |_=>none
theorem ok94:funcOk {} Tryz.f94 1=true:=by kernel_rfl
theorem f94:FnOk Tryz.prog 94 c94:=by
 refine FnOk.ofW orders (mkE_ok (l:=[]) (own:=[]) (inl:=[]) (by simp) (by simp)) Tryz.func94 {} 1 ok94 fun args r e=>?_
 unfold c94 at e
 split at e
 ·rename_i s1 b1 c1 s2 b2 c2 s3 b3 c3 s4 b4 c4 k c l o
  cases e
  refine⟨by simp,fun hm=>?_⟩
  obtain⟨hc,ho⟩:=hm _ rfl
  have hc1:∀i,i < k→[.rs 6 (pn c i) (pg c i)]=c i:=fun i hi=>(hc i hi).symm
  have ho1:∀i,i < l→cellsO (ow o i)=o i:=fun i hi=>(ho i hi).symm
  refine⟨[],stOf [(0,.agg [.val (.bool (PtS.mk ⟨s1,b1,c1⟩ ⟨s2,b2,c2⟩).x.s),.val (.string (PtS.mk ⟨s1,b1,c1⟩ ⟨s2,b2,c2⟩).x.b),.val (.string (PtS.mk ⟨s1,b1,c1⟩ ⟨s2,b2,c2⟩).x.c),.val (.bool (PtS.mk ⟨s1,b1,c1⟩ ⟨s2,b2,c2⟩).y.s),.val (.string (PtS.mk ⟨s1,b1,c1⟩ ⟨s2,b2,c2⟩).y.b),.val (.string (PtS.mk ⟨s1,b1,c1⟩ ⟨s2,b2,c2⟩).y.c),.val (.bool (PtS.mk ⟨s3,b3,c3⟩ ⟨s4,b4,c4⟩).x.s),.val (.string (PtS.mk ⟨s3,b3,c3⟩ ⟨s4,b4,c4⟩).x.b),.val (.string (PtS.mk ⟨s3,b3,c3⟩ ⟨s4,b4,c4⟩).x.c),.val (.bool (PtS.mk ⟨s3,b3,c3⟩ ⟨s4,b4,c4⟩).y.s),.val (.string (PtS.mk ⟨s3,b3,c3⟩ ⟨s4,b4,c4⟩).y.b),.val (.string (PtS.mk ⟨s3,b3,c3⟩ ⟨s4,b4,c4⟩).y.c),.rs 1 k (fun i=>[.rs 6 (pn c i) (pg c i)]),.rs 3 l (fun i=>cellsO (ow o i))])] [] 0 [],Weak.of (by simp) trivial ⟨⟨rfl,rfl,rfl,rfl,rfl,rfl,rfl,rfl,rfl,rfl,rfl,rfl,⟨rfl,rfl,hc1⟩,⟨rfl,rfl,ho1⟩,trivial⟩,trivial⟩ trivial,?_⟩
  with_unfolding_all exact⟨[some 0],stOf [(2,.fn (.func 129) [] [.ptr 0 0 0 0])] [⟨31,14,0,true,false,1,fun _=>regC (PtS.mk ⟨s1,b1,c1⟩ ⟨s2,b2,c2⟩) (PtS.mk ⟨s3,b3,c3⟩ ⟨s4,b4,c4⟩) k c l o⟩] 1 [],Weak.of (by simp) ⟨⟨lt_ok rfl,rfl,rfl,rfl,rfl,rfl,⟨rfl,rfl⟩,⟨rfl,rfl⟩,⟨rfl,rfl⟩,⟨rfl,rfl⟩,⟨rfl,rfl⟩,⟨rfl,rfl⟩,⟨rfl,rfl⟩,⟨rfl,rfl⟩,⟨rfl,rfl⟩,⟨rfl,rfl⟩,⟨rfl,rfl⟩,⟨rfl,rfl⟩,⟨⟨rfl,rfl,fun _ _=>rfl⟩,rfl⟩,⟨⟨rfl,rfl,fun _ _=>rfl⟩,rfl⟩,trivial⟩,trivial⟩ ⟨⟨rfl,trivial,⟨rfl,rfl,rfl,lt_ok rfl,_,rfl⟩,trivial⟩,trivial⟩ trivial,rfl,rfl⟩
 ·cases e
def c129:List PV→Option SeqA
 |[.rp 14 1 h 0 0]=>some ⟨some (isG h∧((gLo (h 0)).le 10000∧(gHi (h 0)).le 10000)∧isCL 10000 (gK (h 0)) (gC (h 0))∧isOL (gL (h 0)) (gO (h 0))),(vertC (gLo (h 0)) (gHi (h 0)) (gK (h 0)) (gC (h 0)) (gL (h 0)) (gO (h 0))).length,fun i=>[.val (vertP (vertC (gLo (h 0)) (gHi (h 0)) (gK (h 0)) (gC (h 0)) (gL (h 0)) (gO (h 0))) i).v]⟩
 |_=>none
def D129:Opt:={ }
theorem ok129:funcOk D129.toOrd Tryz.f129 2=true:=by kernel_rfl
theorem f129:SeqFn Tryz.prog 129 c129:=by
 refine SeqFn.of orders (mkE_ok (l:=[(56,c56)]) (own:=[]) (inl:=[]) (by simp [f56]) (by simp)) Tryz.func129 D129 2 ok129 rfl fun args r e=>?_
 unfold c129 at e
 split at e
 ·rename_i h
  cases e
  refine⟨by simp,fun hm L0=>?_⟩
  obtain⟨h1,⟨hlo,hhi⟩,⟨hc,hk⟩,ho,hl⟩:=hm _ rfl
  unfold isG at h1
  generalize gLo (h 0)=lo at *
  generalize gHi (h 0)=hi at *
  generalize gK (h 0)=k at *
  generalize gC (h 0)=c at *
  generalize gL (h 0)=l at *
  generalize gO (h 0)=o at *
  subst h1
  clear hm
  with_unfolding_all refine⟨Nat,fun i=>i≤k,fun i=>stOf [(0,.val (.func (.yield L0) ⟨[]⟩ ⟨[]⟩)),(1,.rp 14 1 (fun _=>regC lo hi k c l o) 0 0),(8,.rs 1 k (fun i=>[.rs 6 (pn c i) (pg c i)])),(9,.val (goInt k)),(10,.val (goInt i))] [] 0 [[(0,.val (.int .i64 (((vertI (fun p=>seeB lo hi k c l o p p) (pn c) (fun i=>pts (pg c i)) i).length:Nat):Int))),(1,.val (.bool false))]],fun i=>k - i,⟨0,[],Nat.zero_le _,Weak.of (by simp) trivial ⟨rfl,⟨rfl,rfl,rfl,rfl,fun _ _=>rfl⟩,⟨rfl,rfl,fun _ _=>rfl⟩,rfl,rfl,trivial⟩ ⟨⟨rfl,rfl,trivial⟩,trivial⟩⟩,fun i hik=>?_⟩
  have ltT:decide ((i:Int) < (k:Int))=true→i < k:=fun h=>Int.ofNat_lt.1 (of_decide_eq_true h)
  have ltF:decide ((i:Int) < (k:Int))=false→i=k:=fun h=>Nat.le_antisymm hik (Nat.le_of_not_lt fun h'=>of_decide_eq_false h (Int.ofNat_lt.2 h'))
  with_unfolding_all refine⟨fun h0=>⟨⟨Int.natCast_nonneg i,Int.ofNat_lt.2 (ltT h0)⟩,Nat,fun j=>j≤pn c i,fun j=>stOf [(0,.val (.func (.yield L0) ⟨[]⟩ ⟨[]⟩)),(1,.rp 14 1 (fun _=>regC lo hi k c l o) 0 0),(8,.rs 1 k (fun i=>[.rs 6 (pn c i) (pg c i)])),(9,.val (goInt k)),(10,.val (goInt i)),(14,.rs 6 (pn c i) (fun j=>(pts (pg c i) j).cells)),(15,.val (goInt (pn c i))),(16,.val (goInt j))] [] 0 [[(0,.val (.int .i64 (((vertI (fun p=>seeB lo hi k c l o p p) (pn c) (fun i=>pts (pg c i)) i).length+(vertJ (fun p=>seeB lo hi k c l o p p) (pts (pg c i)) j).length:Nat):Int))),(1,.val (.bool false))]],fun j=>pn c i - j,⟨0,[],Nat.zero_le _,Weak.of (by simp) trivial ⟨rfl,⟨rfl,rfl,rfl,rfl,fun _ _=>rfl⟩,⟨rfl,rfl,fun _ _=>rfl⟩,rfl,rfl,⟨rfl,rfl,fun j hj=>((hc i (ltT h0)).2.1 j hj).1.symm⟩,rfl,rfl,trivial⟩ ⟨⟨rfl,rfl,trivial⟩,trivial⟩⟩,fun j hj=>?_⟩,fun h0=>?_⟩
  ·have hik:=ltT h0
   have jT:decide ((j:Int) < (pn c i:Int))=true→j < pn c i:=fun h=>Int.ofNat_lt.1 (of_decide_eq_true h)
   have jF:decide ((j:Int) < (pn c i:Int))=false→j=pn c i:=fun h=>Nat.le_antisymm hj (Nat.le_of_not_lt fun h'=>of_decide_eq_false h (Int.ofNat_lt.2 h'))
   have hn:=(hc i hik).2.2
   have wj:decide ((j:Int) < (pn c i:Int))=true→PV.val (.int .i64 (IntKind.i64.wrap ((j:Int)+1)))=.val (goInt (j+1:Nat)):=fun h=>by
    have:=jT h
    rw [wrap64 (by omega) (by omega)]
    rfl
   have wi:PV.val (.int .i64 (IntKind.i64.wrap ((i:Int)+1)))=.val (goInt (i+1:Nat)):=by
    rw [wrap64 (by omega) (by omega)]
    rfl
   have pr:decide ((j:Int) < (pn c i:Int))=true→(((lo.le 10000∧hi.le 10000)∧isCL 10000 k (fun i=>[.rs 6 (pn c i) (pg c i)])∧isOL l (fun i=>cellsO (ow o i)))∧isPk 10000 (pts (pg c i) ((j:Nat):Int).toNat).v∧isPk 10000 (pts (pg c i) ((j:Nat):Int).toNat).v):=fun h=>by
    have hp:=((hc i hik).2.1 j (jT h)).2
    exact⟨⟨⟨hlo,hhi⟩,⟨fun i hi=>⟨rfl,(hc i hi).2⟩,hk⟩,fun i hi=>rfl,hl⟩,⟨_,rfl,hp⟩,_,rfl,hp⟩
   have yl:j < pn c i→seeB lo hi k c l o (pts (pg c i) j) (pts (pg c i) j)=true→(vertI (fun p=>seeB lo hi k c l o p p) (pn c) (fun i=>pts (pg c i)) i).length+(vertJ (fun p=>seeB lo hi k c l o p p) (pts (pg c i)) j).length < (vertC lo hi k c l o).length∧[PV.val (pts (pg c i) ((j:Nat):Int).toNat).v]=[PV.val (vertP (vertC lo hi k c l o) ((vertI (fun p=>seeB lo hi k c l o p p) (pn c) (fun i=>pts (pg c i)) i).length+(vertJ (fun p=>seeB lo hi k c l o p p) (pts (pg c i)) j).length)).v]∧(vertI (fun p=>seeB lo hi k c l o p p) (pn c) (fun i=>pts (pg c i)) i).length+(vertJ (fun p=>seeB lo hi k c l o p p) (pts (pg c i)) j).length+1=(vertI (fun p=>seeB lo hi k c l o p p) (pn c) (fun i=>pts (pg c i)) i).length+(vertJ (fun p=>seeB lo hi k c l o p p) (pts (pg c i)) (j+1)).length:=fun h h'=>by
    have g:=vert_at (S:=(fun p=>seeB lo hi k c l o p p)) (n:=pn c) (p:=fun i=>pts (pg c i)) hik h h'
    refine⟨g.2,?_,?_⟩
    ·unfold vertP vertC
     rw [g.1]
     rfl
    ·rw [vertJ]
     simp only [h',cond_true,List.length_append,List.length_singleton]
     rfl
   have sk:seeB lo hi k c l o (pts (pg c i) j) (pts (pg c i) j)=false→(vertI (fun p=>seeB lo hi k c l o p p) (pn c) (fun i=>pts (pg c i)) i).length+(vertJ (fun p=>seeB lo hi k c l o p p) (pts (pg c i)) j).length=(vertI (fun p=>seeB lo hi k c l o p p) (pn c) (fun i=>pts (pg c i)) i).length+(vertJ (fun p=>seeB lo hi k c l o p p) (pts (pg c i)) (j+1)).length:=fun h'=>by
    rw [vertJ]
    simp only [h',cond_false,List.append_nil]
   have fin:decide ((j:Int) < (pn c i:Int))=false→(vertI (fun p=>seeB lo hi k c l o p p) (pn c) (fun i=>pts (pg c i)) i).length+(vertJ (fun p=>seeB lo hi k c l o p p) (pts (pg c i)) j).length=(vertI (fun p=>seeB lo hi k c l o p p) (pn c) (fun i=>pts (pg c i)) (i+1)).length:=fun h=>by
    rw [jF h,vertI,List.length_append]
   with_unfolding_all refine⟨fun h1=>⟨⟨Int.natCast_nonneg j,Int.ofNat_lt.2 (jT h1)⟩,pr h1,fun h2=>⟨rfl,(vertI (fun p=>seeB lo hi k c l o p p) (pn c) (fun i=>pts (pg c i)) i).length+(vertJ (fun p=>seeB lo hi k c l o p p) (pts (pg c i)) j).length,rfl,(yl (jT h1) h2).1,(yl (jT h1) h2).2.1,⟨fun _=>⟨fun e=>(nomatch e),fun _=>⟨j+1,[],jT h1,by have:=jT h1;show pn c i - (j+1) < pn c i - j;omega,Weak.of (by simp) trivial ⟨rfl,⟨rfl,rfl,rfl,rfl,fun _ _=>rfl⟩,⟨rfl,rfl,fun _ _=>rfl⟩,rfl,rfl,⟨rfl,rfl,fun _ _=>rfl⟩,rfl,wj h1,trivial⟩ ⟨⟨congrArg (fun z:Nat=>PV.val (.int .i64 (z:Int))) (yl (jT h1) h2).2.2,rfl,trivial⟩,trivial⟩⟩⟩,fun e=>(nomatch e)⟩,⟨fun _=>⟨fun _=>trivial,fun e=>(nomatch e)⟩,fun e=>(nomatch e)⟩⟩,fun h2=>⟨fun e=>(nomatch e),fun _=>⟨j+1,[],jT h1,by have:=jT h1;show pn c i - (j+1) < pn c i - j;omega,Weak.of (by simp) trivial ⟨rfl,⟨rfl,rfl,rfl,rfl,fun _ _=>rfl⟩,⟨rfl,rfl,fun _ _=>rfl⟩,rfl,rfl,⟨rfl,rfl,fun _ _=>rfl⟩,rfl,wj h1,trivial⟩ ⟨⟨congrArg (fun z:Nat=>PV.val (.int .i64 (z:Int))) (sk h2),rfl,trivial⟩,trivial⟩⟩⟩⟩,fun h1=>⟨i+1,[],hik,by show k - (i+1) < k - i;omega,Weak.of (by simp) trivial ⟨rfl,⟨rfl,rfl,rfl,rfl,fun _ _=>rfl⟩,⟨rfl,rfl,fun _ _=>rfl⟩,rfl,wi,trivial⟩ ⟨⟨congrArg (fun z:Nat=>PV.val (.int .i64 (z:Int))) (fin h1),rfl,trivial⟩,trivial⟩⟩⟩
  ·rw [ltF h0]
   rfl
 ·cases e
end Go.Proofs
namespace Go.Proofs
open Go Go.Ex Go.Num
set_option maxRecDepth 100000
theorem apd_one {V r:Nat→List PV} {y:Nat} (h:r 0=V y):∀i,i < y+1→V i=apd y V r i:=fun i hi=>by
 unfold apd
 by_cases hy:i < y
 ·rw [if_pos hy]
 ·obtain rfl:i=y:=by omega
  rw [if_neg hy,Nat.sub_self,h]
def c175:List PV→Option Ans
 |[.val (.slice none 0 0),.fn (.func 129) [] [.rp 14 1 h 0 0]]=>some ⟨some ((isG h∧((gLo (h 0)).le 10000∧(gHi (h 0)).le 10000)∧isCL 10000 (gK (h 0)) (gC (h 0))∧isOL (gL (h 0)) (gO (h 0)))∧(vertC (gLo (h 0)) (gHi (h 0)) (gK (h 0)) (gC (h 0)) (gL (h 0)) (gO (h 0))).length≤1000),.sl 0 0 0 (vertC (gLo (h 0)) (gHi (h 0)) (gK (h 0)) (gC (h 0)) (gL (h 0)) (gO (h 0))).length,[⟨25,6,0,false,false,(vertC (gLo (h 0)) (gHi (h 0)) (gK (h 0)) (gC (h 0)) (gL (h 0)) (gO (h 0))).length,fun i=>(vertP (vertC (gLo (h 0)) (gHi (h 0)) (gK (h 0)) (gC (h 0)) (gL (h 0)) (gO (h 0))) i).cells⟩]⟩
 |_=>none
def D175:Opt:={ }
theorem ok175:funcOk D175.toOrd Tryz.f175 2=true:=by kernel_rfl
theorem f175:FnOk Tryz.prog 175 c175:=by
 refine FnOk.ofW orders (mkS_ok (l:=[]) (own:=[]) (inl:=[]) (sq:=[(129,c129)]) (by simp) (by simp) (by simp [f129])) Tryz.func175 D175 2 ok175 fun args r e=>?_
 unfold c175 at e
 split at e
 ·rename_i h
  cases e
  refine⟨by simp,fun hm=>?_⟩
  obtain⟨hp,hn⟩:=hm _ rfl
  refine⟨[],stOf [(0,.val (.slice none 0 0)),(1,.fn (.func 129) [] [.rp 14 1 h 0 0])] [] 0 [],Weak.of (by simp) trivial ⟨rfl,⟨rfl,trivial,⟨rfl,rfl,rfl,rfl,fun _ _=>rfl⟩,trivial⟩,trivial⟩ trivial,?_⟩
  have hP:isG h∧((gLo (h 0)).le 10000∧(gHi (h 0)).le 10000)∧isCL 10000 (gK (h 0)) (gC (h 0))∧isOL (gL (h 0)) (gO (h 0)):=hp
  with_unfolding_all refine⟨hP,Nat,fun i y=>y=i,fun y=>stOf [(2,.ptr 0 0 0 0)] [⟨34,1,0,true,false,1,fun _=>[.sl 1 1 0 y]⟩,⟨25,6,1,false,false,y,fun i=>(vertP (vertC (gLo (h 0)) (gHi (h 0)) (gK (h 0)) (gC (h 0)) (gL (h 0)) (gO (h 0))) i).cells⟩] 2 [],⟨0,[some 0,none],rfl,Weak.of (by simp) ⟨⟨lt_ok rfl,rfl,rfl,rfl,rfl,rfl,⟨⟨rfl,rfl,rfl,rfl,lt_ok rfl⟩,rfl⟩,trivial⟩,⟨lt_ok rfl,rfl,rfl,rfl⟩,trivial⟩ ⟨⟨rfl,rfl,rfl,lt_ok rfl,_,rfl⟩,trivial⟩ trivial⟩,fun i y hi hI=>?_,fun y hI=>?_⟩
  ·have hy:y < 1000:=Nat.lt_of_lt_of_le (show y < (vertC (gLo (h 0)) (gHi (h 0)) (gK (h 0)) (gC (h 0)) (gL (h 0)) (gO (h 0))).length from hI▸hi) hn
   have hI:y=i:=hI
   subst hI
   have k1:(y+1)*80≤140737488355328:=by omega
   with_unfolding_all refine⟨rfl,⟨rfl,?_,?_⟩,y+1,[some 0,some 1],rfl,Weak.of (by simp) ⟨⟨lt_ok rfl,rfl,rfl,rfl,rfl,rfl,⟨⟨rfl,rfl,rfl,lt_ok rfl,_,rfl⟩,rfl⟩,trivial⟩,⟨lt_ok rfl,rfl,rfl,rfl,rfl,rfl,?_⟩,trivial⟩ ⟨⟨rfl,rfl,rfl,lt_ok rfl,_,rfl⟩,trivial⟩ trivial⟩
   ·with_unfolding_all exact k1
   ·with_unfolding_all exact(show y+1≤9223372036854775807 by omega)
   ·with_unfolding_all exact apd_one (V:=fun i=>(vertP (vertC (gLo (h 0)) (gHi (h 0)) (gK (h 0)) (gC (h 0)) (gL (h 0)) (gO (h 0))) i).cells) rfl
  ·have hI:y=(vertC (gLo (h 0)) (gHi (h 0)) (gK (h 0)) (gC (h 0)) (gL (h 0)) (gO (h 0))).length:=hI
   subst hI
   with_unfolding_all exact⟨[some 1],stOf [(4,.sl 0 0 0 (vertC (gLo (h 0)) (gHi (h 0)) (gK (h 0)) (gC (h 0)) (gL (h 0)) (gO (h 0))).length)] [⟨25,6,0,false,false,(vertC (gLo (h 0)) (gHi (h 0)) (gK (h 0)) (gC (h 0)) (gL (h 0)) (gO (h 0))).length,fun i=>(vertP (vertC (gLo (h 0)) (gHi (h 0)) (gK (h 0)) (gC (h 0)) (gL (h 0)) (gO (h 0))) i).cells⟩] 1 [],Weak.of (by simp) ⟨⟨lt_ok rfl,rfl,rfl,rfl,rfl,rfl,fun _ _=>rfl⟩,trivial⟩ ⟨⟨rfl,rfl,rfl,lt_ok rfl,_,rfl⟩,trivial⟩ trivial,rfl,rfl⟩
 ·cases e
def c127:List PV→Option Ans
 |[.fn (.func 129) [] [.rp 14 1 h 0 0]]=>some ⟨some ((isG h∧((gLo (h 0)).le 10000∧(gHi (h 0)).le 10000)∧isCL 10000 (gK (h 0)) (gC (h 0))∧isOL (gL (h 0)) (gO (h 0)))∧(vertC (gLo (h 0)) (gHi (h 0)) (gK (h 0)) (gC (h 0)) (gL (h 0)) (gO (h 0))).length≤1000),.sl 0 0 0 (vertC (gLo (h 0)) (gHi (h 0)) (gK (h 0)) (gC (h 0)) (gL (h 0)) (gO (h 0))).length,[⟨25,6,0,false,false,(vertC (gLo (h 0)) (gHi (h 0)) (gK (h 0)) (gC (h 0)) (gL (h 0)) (gO (h 0))).length,fun i=>(vertP (vertC (gLo (h 0)) (gHi (h 0)) (gK (h 0)) (gC (h 0)) (gL (h 0)) (gO (h 0))) i).cells⟩]⟩
 |_=>none
theorem ok127:funcOk {} Tryz.f127 1=true:=by kernel_rfl
theorem f127:FnOk Tryz.prog 127 c127:=by
 refine FnOk.ofW orders (mkE_ok (l:=[(175,c175)]) (own:=[175]) (inl:=[]) (by simp [f175]) (by simp)) Tryz.func127 {} 1 ok127 fun args r e=>?_
 unfold c127 at e
 split at e
 ·rename_i h
  cases e
  refine⟨by simp,fun hm=>?_⟩
  have hp:=hm _ rfl
  refine⟨[],stOf [(0,.fn (.func 129) [] [.rp 14 1 h 0 0])] [] 0 [],Weak.of (by simp) trivial ⟨⟨rfl,trivial,⟨rfl,rfl,rfl,rfl,fun _ _=>rfl⟩,trivial⟩,trivial⟩ trivial,?_⟩
  with_unfolding_all refine⟨hp,?_⟩
  with_unfolding_all exact⟨[some 0],stOf [(2,.sl 0 0 0 (vertC (gLo (h 0)) (gHi (h 0)) (gK (h 0)) (gC (h 0)) (gL (h 0)) (gO (h 0))).length)] [⟨25,6,0,false,false,(vertC (gLo (h 0)) (gHi (h 0)) (gK (h 0)) (gC (h 0)) (gL (h 0)) (gO (h 0))).length,fun i=>(vertP (vertC (gLo (h 0)) (gHi (h 0)) (gK (h 0)) (gC (h 0)) (gL (h 0)) (gO (h 0))) i).cells⟩] 1 [],Weak.of (by simp) ⟨⟨lt_ok rfl,rfl,rfl,rfl,rfl,rfl,fun _ _=>rfl⟩,trivial⟩ ⟨⟨rfl,rfl,rfl,lt_ok rfl,_,rfl⟩,trivial⟩ trivial,rfl,rfl⟩
 ·cases e
end Go.Proofs
namespace Go.Proofs
open Go Go.Ex Go.Num
set_option maxRecDepth 100000
def c166:List PV→Option Ans
 |[.val (.int .u64 x)]=>some ⟨some (0≤x∧x < 256),.val (.int .i64 (blen x.toNat:Nat)),[]⟩
 |_=>none
theorem ok166:funcOk {} Tryz.f166 1=true:=by kernel_rfl
theorem f166:FnOk Tryz.prog 166 c166:=by
 refine FnOk.of orders (mkE_ok (l:=[]) (own:=[]) (inl:=[]) (by simp) (by simp)) Tryz.func166 {} 1 ok166 fun args r e=>?_
 unfold c166 at e
 split at e
 ·rename_i x
  cases e
  refine⟨by simp,fun hm=>?_⟩
  obtain⟨h0,h1⟩:=hm _ rfl
  obtain⟨x,rfl⟩:=Int.eq_ofNat_of_zero_le h0
  with_unfolding_all refine⟨fun h2=>?_,fun h2=>⟨fun h3=>?_,fun h3=>⟨fun h4=>?_,fun h4=>?_⟩⟩⟩
  ·have h2:=of_decide_eq_true h2
   exact absurd h2 (by show ¬((4294967296:Int)≤x);omega)
  ·have h2:=of_decide_eq_true h3
   exact absurd h2 (by show ¬((65536:Int)≤x);omega)
  ·have h2:=of_decide_eq_true h4
   exact absurd h2 (by show ¬((256:Int)≤x);omega)
  ·with_unfolding_all refine⟨?_,?_,rfl⟩
   ·rw [wrapU8]
    show _∧_ < ((256:Nat):Int)
    omega
   ·exact tab_at (m:=x) (by decide +kernel) (by rw [wrapU8];omega) (by omega) (by omega) (by decide) (by decide)
 ·cases e
def c121:List PV→Option Ans
 |[.val (.int .u64 x)]=>some ⟨some (0≤x∧x < 256),.val (.int .i64 (blen x.toNat:Nat)),[]⟩
 |_=>none
theorem ok121:funcOk {} Tryz.f121 1=true:=by kernel_rfl
theorem f121:FnOk Tryz.prog 121 c121:=by
 refine FnOk.of orders (mkE_ok (l:=[(166,c166)]) (own:=[]) (inl:=[]) (by simp [f166]) (by simp)) Tryz.func121 {} 1 ok121 fun args r e=>?_
 unfold c121 at e
 split at e
 ·rename_i x
  cases e
  refine⟨by simp,fun hm=>?_⟩
  have hp:=hm _ rfl
  with_unfolding_all exact⟨fun h=>(nomatch h),fun _=>⟨hp,rfl,rfl⟩⟩
 ·cases e
end Go.Proofs
namespace Go.Num
open Go Go.Ex Go.Proofs
def swpP (q:Nat→PtS) (j:Nat):Nat→PtS:=fun k=>if k=j then q (j - 1) else if k=j - 1 then q j else q k
def insJ (q:Nat→PtS):Nat→(Nat→PtS)
 |0=>q
 |j+1=>if cmpP (q (j+1)) (q j) < 0 then insJ (swpP q (j+1)) j else q
def srtI (p:Nat→PtS):Nat→(Nat→PtS)
 |0=>p
 |i+1=>insJ (srtI p i) i
theorem insJ_le {n:Nat}:∀(j:Nat) {q:Nat→PtS},j < n→(∀k,k < n→(q k).le 10000)→∀k,k < n→(insJ q j k).le 10000
 |0,_,_,h=>h
 |j+1,q,hj,h=>by
  rw [insJ]
  split
  ·refine insJ_le j (by omega) fun k hk=>?_
   unfold swpP
   split
   ·exact h _ (by omega)
   ·split
    ·exact h _ (by omega)
    ·exact h _ hk
  ·exact h
theorem srtI_le {n:Nat} {p:Nat→PtS}:∀{i:Nat},i≤n→(∀k,k < n→(p k).le 10000)→∀k,k < n→(srtI p i k).le 10000
 |0,_,h=>h
 |i+1,hi,h=>insJ_le i (by omega) (srtI_le (by omega) h)
theorem vertC_le {lo hi:PtS} {k:Nat} {c:Nat→List PV} {l:Nat} {o:Nat→List PV} (h:isCL 10000 k c):∀p∈vertC lo hi k c l o,p.le 10000:=by
 have hJ:∀{S:PtS→Bool} {q:Nat→PtS} {n:Nat},(∀j,j < n→(q j).le 10000)→∀p∈vertJ S q n,p.le 10000:=fun {S q n}=>by
  induction n with
  |zero=>intro _ p hp;cases hp
  |succ n ih =>
   intro hq p hp
   rw [vertJ] at hp
   rcases List.mem_append.1 hp with hp|hp
   ·exact ih (fun j hj=>hq j (by omega)) p hp
   ·cases hS:S (q n) with
    |true =>
     rw [hS] at hp
     rw [List.mem_singleton.1 hp]
     exact hq n (by omega)
    |false=>rw [hS] at hp;cases hp
 unfold vertC
 have hI:∀i,i≤k→∀p∈vertI (fun p=>seeB lo hi k c l o p p) (pn c) (fun i=>pts (pg c i)) i,p.le 10000:=fun i=>by
  induction i with
  |zero=>intro _ p hp;cases hp
  |succ i ih =>
   intro hi p hp
   rw [vertI] at hp
   rcases List.mem_append.1 hp with hp|hp
   ·exact ih (by omega) p hp
   ·exact hJ (fun j hj=>((h.1 i (by omega)).2.1 j hj).2) p hp
 exact hI k (Nat.le_refl k)
theorem vertP_le {V:List PtS} (h:∀p∈V,p.le 10000) {i:Nat} (hi:i < V.length):(vertP V i).le 10000:=by
 unfold vertP
 rw [List.getElem?_eq_getElem hi]
 exact h _ (List.getElem_mem hi)
end Go.Num
namespace Go.Proofs
open Go Go.Ex Go.Num
set_option maxRecDepth 100000
def D213:Opt:={ perm:=atTs [(6,.rds [0,1,2,3,4,5,6,7,8,9,10,11,12,13,14] .nil)] }
theorem ok213:funcOk D213.toOrd Tryz.f213 4=true:=by kernel_rfl
def T213:Trans:=fun args s K=>args.length≤4∧walk Tryz.prog (mkE [(38,c38)] [] []) D213 Tryz.f213 args s K
theorem t213:TransOk Tryz.prog 213 T213:=walk_ok orders (mkE_ok (by simp [f38]) (by simp)) Tryz.func213 D213 4 ok213 fun _ _ _ h=>h
theorem ok176:funcOk {} Tryz.f176 5=true:=by kernel_rfl
def T176:Trans:=fun args s K=>args.length≤5∧walk Tryz.prog (mkE [] [] [(213,T213)]) {} Tryz.f176 args s K
theorem t176:TransOk Tryz.prog 176 T176:=walk_ok orders (mkE_ok (by simp) (by simp [t213])) Tryz.func176 {} 5 ok176 fun _ _ _ h=>h
theorem ok128:funcOk {} Tryz.f128 2=true:=by kernel_rfl
def T128:Trans:=fun args s K=>args.length≤2∧walk Tryz.prog (mkE [(121,c121)] [] [(176,T176)]) {} Tryz.f128 args s K
theorem t128:TransOk Tryz.prog 128 T128:=walk_ok orders (mkE_ok (by simp [f121]) (by simp [t176])) Tryz.func128 {} 2 ok128 fun _ _ _ h=>h
def c93:List PV→Option Ans
 |[.fn (.func 129) [] [.rp 14 1 h 0 0],.val (.func (.func 38) ⟨[]⟩ ⟨[]⟩)]=>some ⟨some ((isG h∧((gLo (h 0)).le 10000∧(gHi (h 0)).le 10000)∧isCL 10000 (gK (h 0)) (gC (h 0))∧isOL (gL (h 0)) (gO (h 0)))∧(vertC (gLo (h 0)) (gHi (h 0)) (gK (h 0)) (gC (h 0)) (gL (h 0)) (gO (h 0))).length≤12),.sl 0 0 0 (vertC (gLo (h 0)) (gHi (h 0)) (gK (h 0)) (gC (h 0)) (gL (h 0)) (gO (h 0))).length,[⟨25,6,0,false,false,(vertC (gLo (h 0)) (gHi (h 0)) (gK (h 0)) (gC (h 0)) (gL (h 0)) (gO (h 0))).length,fun i=>(srtI (vertP (vertC (gLo (h 0)) (gHi (h 0)) (gK (h 0)) (gC (h 0)) (gL (h 0)) (gO (h 0)))) (vertC (gLo (h 0)) (gHi (h 0)) (gK (h 0)) (gC (h 0)) (gL (h 0)) (gO (h 0))).length i).cells⟩]⟩
 |_=>none
theorem ok93:funcOk {} Tryz.f93 2=true:=by kernel_rfl
theorem f93:FnOk Tryz.prog 93 c93:=by
 refine FnOk.ofW orders (mkE_ok (l:=[(127,c127)]) (own:=[127]) (inl:=[(128,T128)]) (by simp [f127]) (by simp [t128])) Tryz.func93 {} 2 ok93 fun args r e=>?_
 unfold c93 at e
 split at e
 ·rename_i h
  cases e
  refine⟨by simp,fun hm=>?_⟩
  obtain⟨hp,hn⟩:=hm _ rfl
  refine⟨[],stOf [(0,.fn (.func 129) [] [.rp 14 1 h 0 0]),(1,.val (.func (.func 38) ⟨[]⟩ ⟨[]⟩))] [] 0 [],Weak.of (by simp) trivial ⟨⟨rfl,trivial,⟨rfl,rfl,rfl,rfl,fun _ _=>rfl⟩,trivial⟩,rfl,trivial⟩ trivial,?_⟩
  have hle:=vertC_le (lo:=gLo (h 0)) (hi:=gHi (h 0)) (l:=gL (h 0)) (o:=gO (h 0)) hp.2.2.1
  with_unfolding_all refine⟨⟨hp,Nat.le_trans hn (by decide)⟩,?_⟩
  clear hp hm
  generalize (vertC (gLo (h 0)) (gHi (h 0)) (gK (h 0)) (gC (h 0)) (gL (h 0)) (gO (h 0)))=V at *
  have hw:IntKind.u64.wrap (V.length:Int)=V.length:=by
   show(V.length:Int)%2^64=V.length
   omega
  have hb:0≤IntKind.u64.wrap (V.length:Int)∧IntKind.u64.wrap (V.length:Int) < 256:=by rw [hw];omega
  with_unfolding_all refine⟨Nat.le_refl 2,hb,Nat.le_refl 5,Unit,fun _=>True,fun _=>stOf [(0,.sl 0 0 0 V.length),(1,.val (.int .i64 0)),(2,.val (goInt V.length)),(4,.val (.func (.func 38) ⟨[]⟩ ⟨[]⟩))] [⟨25,6,0,false,false,V.length,fun z=>(vertP V z).cells⟩] 1 [[],[(5,.sl 0 0 0 V.length)]],fun _=>0,⟨(),[some 0],trivial,Weak.of (by simp) ⟨⟨lt_ok rfl,rfl,rfl,rfl,rfl,rfl,fun _ _=>rfl⟩,trivial⟩ ⟨⟨rfl,rfl,rfl,lt_ok rfl,_,rfl⟩,rfl,rfl,rfl,trivial⟩ ⟨trivial,⟨⟨rfl,rfl,rfl,lt_ok rfl,_,rfl⟩,trivial⟩,trivial⟩⟩,fun _ _=>⟨fun h0=>?_,fun h0=>?_⟩⟩
  ·with_unfolding_all refine⟨Nat.le_refl 4,Nat,fun i=>1≤i∧(i≤V.length∨i=1),fun i=>stOf [(0,.sl 0 0 0 V.length),(1,.val (.int .i64 0)),(2,.val (goInt V.length)),(3,.val (.func (.func 38) ⟨[]⟩ ⟨[]⟩)),(8,.val (goInt i))] [⟨25,6,0,false,false,V.length,fun z=>((srtI (vertP V) i) z).cells⟩] 1 [[],[],[(5,.sl 0 0 0 V.length)]],fun i=>V.length - i,⟨1,[some 0],⟨Nat.le_refl 1,Or.inr rfl⟩,Weak.of (by simp) ⟨⟨lt_ok rfl,rfl,rfl,rfl,rfl,rfl,fun _ _=>rfl⟩,trivial⟩ ⟨⟨rfl,rfl,rfl,lt_ok rfl,_,rfl⟩,rfl,rfl,rfl,rfl,trivial⟩ ⟨trivial,trivial,⟨⟨rfl,rfl,rfl,lt_ok rfl,_,rfl⟩,trivial⟩,trivial⟩⟩,fun i hi=>⟨fun h1=>?_,fun h1=>?_⟩⟩
   ·obtain⟨hi1,hi2⟩:1≤i∧(i≤V.length∨i=1):=hi
    have h1:(i:Int) < V.length:=of_decide_eq_true h1
    with_unfolding_all refine⟨Nat×(Nat→PtS),fun x=>x.1≤i∧insJ x.2 x.1=srtI (vertP V) (i+1)∧∀k,k < V.length→(x.2 k).le 10000,fun x=>stOf [(0,.sl 0 0 0 V.length),(1,.val (.int .i64 0)),(2,.val (goInt V.length)),(3,.val (.func (.func 38) ⟨[]⟩ ⟨[]⟩)),(8,.val (goInt i)),(9,.val (goInt x.1))] [⟨25,6,0,false,false,V.length,fun z=>(x.2 z).cells⟩] 1 [[],[],[(5,.sl 0 0 0 V.length)]],fun x=>x.1,⟨(i,srtI (vertP V) i),[some 0],⟨Nat.le_refl i,rfl,?_⟩,Weak.of (by simp) ⟨⟨lt_ok rfl,rfl,rfl,rfl,rfl,rfl,fun _ _=>rfl⟩,trivial⟩ ⟨⟨rfl,rfl,rfl,lt_ok rfl,_,rfl⟩,rfl,rfl,rfl,rfl,rfl,trivial⟩ ⟨trivial,trivial,⟨⟨rfl,rfl,rfl,lt_ok rfl,_,rfl⟩,trivial⟩,trivial⟩⟩,fun x hx=>?_⟩
    ·exact srtI_le (by omega) fun k hk=>vertP_le hle hk
    ·obtain⟨j,q⟩:=x
     obtain⟨hj,hq,hl⟩:j≤i∧insJ q j=srtI (vertP V) (i+1)∧∀k,k < V.length→(q k).le 10000:=hx
     have wi:PV.val (.int .i64 (IntKind.i64.wrap ((i:Int)+1)))=.val (goInt (i+1:Nat)):=by
      rw [wrap64 (by omega) (by omega)]
      rfl
     match j,hj,hq with
     |0,_,hq =>
      have hq':srtI (vertP V) (i+1)=q:=hq.symm
      with_unfolding_all exact⟨fun h=>absurd h (by show ¬decide (((0:Nat):Int) > 0)=true;decide),fun _=>⟨fun e=>(nomatch e),fun _=>⟨i+1,[some 0],⟨by omega,Or.inl (by omega)⟩,by show V.length - (i+1) < V.length - i;omega,Weak.of (by simp) ⟨⟨lt_ok rfl,rfl,rfl,rfl,rfl,rfl,fun z _=>congrArg (fun f:Nat→PtS=>(f z).cells) hq'⟩,trivial⟩ ⟨⟨rfl,rfl,rfl,lt_ok rfl,_,rfl⟩,rfl,rfl,rfl,wi,trivial⟩ ⟨trivial,trivial,⟨⟨rfl,rfl,rfl,lt_ok rfl,_,rfl⟩,trivial⟩,trivial⟩⟩⟩⟩
     |m+1,hj,hq =>
      have w1:IntKind.i64.wrap (((m+1:Nat):Int) - 1)=m:=by rw [wrap64 (by omega) (by omega)];omega
      have e1:(0+((m+1:Nat):Int).toNat)=m+1:=by omega
      have e2:(0+(IntKind.i64.wrap (((m+1:Nat):Int) - 1)).toNat)=m:=by rw [w1];omega
      have bA:0≤((m+1:Nat):Int)∧((m+1:Nat):Int) < V.length:=by omega
      have bB:0≤IntKind.i64.wrap (((m+1:Nat):Int) - 1)∧IntKind.i64.wrap (((m+1:Nat):Int) - 1) < V.length:=by rw [w1];omega
      have pr:isPk 4294967296 (q (0+((m+1:Nat):Int).toNat)).v∧isPk 4294967296 (q (0+(IntKind.i64.wrap (((m+1:Nat):Int) - 1)).toNat)).v:=by
       rw [e1,e2]
       exact⟨⟨_,rfl,(hl _ (by omega)).mono (by decide)⟩,_,rfl,(hl _ (by omega)).mono (by decide)⟩
      have hC:decide (cmpP (rdV (q (0+((m+1:Nat):Int).toNat)).v) (rdV (q (0+(IntKind.i64.wrap (((m+1:Nat):Int) - 1)).toNat)).v) < 0)=decide (cmpP (q (m+1)) (q m) < 0):=by
       rw [e1,e2]
       rfl
      have hT:decide (cmpP (rdV (q (0+((m+1:Nat):Int).toNat)).v) (rdV (q (0+(IntKind.i64.wrap (((m+1:Nat):Int) - 1)).toNat)).v) < 0)=true→insJ (swpP q (m+1)) m=srtI (vertP V) (i+1):=fun h=>by
       rw [hC] at h
       rw [insJ,if_pos (of_decide_eq_true h)] at hq
       exact hq
      have hF:decide (cmpP (rdV (q (0+((m+1:Nat):Int).toNat)).v) (rdV (q (0+(IntKind.i64.wrap (((m+1:Nat):Int) - 1)).toNat)).v) < 0)=false→srtI (vertP V) (i+1)=q:=fun h=>by
       rw [hC] at h
       rw [insJ,if_neg (of_decide_eq_false h)] at hq
       exact hq.symm
      have hS:∀k,k < V.length→(swpP q (m+1) k).le 10000:=fun k hk=>by
       unfold swpP
       split
       ·exact hl _ (by omega)
       ·split
        ·exact hl _ (by omega)
        ·exact hl _ hk
      with_unfolding_all refine⟨fun _=>⟨bA,bB,pr,fun h=>⟨bB,bA,bA,bB,⟨(m,swpP q (m+1)),[some 0],⟨by show m≤i;omega,hT h,hS⟩,Nat.lt_succ_self m,Weak.of (by simp) ⟨⟨lt_ok rfl,rfl,rfl,rfl,rfl,rfl,?_⟩,trivial⟩ ⟨⟨rfl,rfl,rfl,lt_ok rfl,_,rfl⟩,rfl,rfl,rfl,rfl,congrArg (fun z=>PV.val (.int .i64 z)) w1,trivial⟩ ⟨trivial,trivial,⟨⟨rfl,rfl,rfl,lt_ok rfl,_,rfl⟩,trivial⟩,trivial⟩⟩⟩,fun h=>⟨i+1,[some 0],⟨by omega,Or.inl (by omega)⟩,by show V.length - (i+1) < V.length - i;omega,Weak.of (by simp) ⟨⟨lt_ok rfl,rfl,rfl,rfl,rfl,rfl,fun z _=>congrArg (fun f:Nat→PtS=>(f z).cells) (hF h)⟩,trivial⟩ ⟨⟨rfl,rfl,rfl,lt_ok rfl,_,rfl⟩,rfl,rfl,rfl,wi,trivial⟩ ⟨trivial,trivial,⟨⟨rfl,rfl,rfl,lt_ok rfl,_,rfl⟩,trivial⟩,trivial⟩⟩⟩,fun h=>absurd h (by show ¬decide (((m+1:Nat):Int) > 0) = !true;rw [decide_eq_true (by omega)];decide)⟩
      intro z hz
      show(swpP q (m+1) z).cells=if z=(0+(IntKind.i64.wrap (((m+1:Nat):Int) - 1)).toNat) then(q (0+((m+1:Nat):Int).toNat)).cells else if z=(0+((m+1:Nat):Int).toNat) then(q (0+(IntKind.i64.wrap (((m+1:Nat):Int) - 1)).toNat)).cells else(q z).cells
      rw [e1,e2]
      unfold swpP
      by_cases h1:z=m+1
      ·rw [if_pos h1,if_neg (show ¬z=m by omega),if_pos h1]
       rfl
      ·rw [if_neg h1,if_neg h1]
       by_cases h2:z=m
       ·rw [if_pos (show z=m+1 - 1 by omega),if_pos h2]
       ·rw [if_neg (show ¬z=m+1 - 1 by omega),if_neg h2]
   ·obtain⟨hi1,hi2⟩:1≤i∧(i≤V.length∨i=1):=hi
    have h1:¬(i:Int) < V.length:=of_decide_eq_false h1
    have hfin:∀z,z < V.length→(srtI (vertP V) V.length z).cells=(srtI (vertP V) i z).cells:=fun z hz=>by
     rw [show i=V.length by omega]
    with_unfolding_all exact⟨[some 0],stOf [(4,.sl 0 0 0 V.length)] [⟨25,6,0,false,false,V.length,fun i=>(srtI (vertP V) V.length i).cells⟩] 1 [],Weak.of (by simp) ⟨⟨lt_ok rfl,rfl,rfl,rfl,rfl,rfl,hfin⟩,trivial⟩ ⟨⟨rfl,rfl,rfl,lt_ok rfl,_,rfl⟩,trivial⟩ trivial,rfl,rfl⟩
  ·have h0:¬IntKind.i64.wrap ((V.length:Int) - 0)≤12:=of_decide_eq_false h0
   rw [wrap64 (by omega) (by omega)] at h0
   omega
 ·cases e
end Go.Proofs
namespace Go.Proofs
open Go Go.Ex Go.Num
set_option maxRecDepth 100000
def c19:List PV→Option Ans
 |[.rs 6 m h,.val v]=>some ⟨some (isPL 4294967296 m h∧isPk 4294967296 v),.val (.int .i64 (ixP (fun i=>eqP (rdV v) (pts h i)) m 0)),[]⟩
 |_=>none
theorem ok19:funcOk {} Tryz.f19 2=true:=by kernel_rfl
theorem f19:FnOk Tryz.prog 19 c19:=by
 refine FnOk.ofW orders (mkE_ok (l:=[]) (own:=[]) (inl:=[]) (by simp) (by simp)) Tryz.func19 {} 2 ok19 fun args r e=>?_
 unfold c19 at e
 split at e
 ·rename_i n h v
  cases e
  refine⟨by simp,fun hm=>?_⟩
  obtain⟨⟨hq,hn⟩,a,rfl,ha⟩:=hm _ rfl
  refine⟨[],stOf [(0,.rs 6 n (fun i=>(pts h i).cells)),(1,.val a.v)] [] 0 [],Weak.of (by simp) trivial ⟨⟨rfl,rfl,fun i hi=>(hq i hi).1.symm⟩,rfl,trivial⟩ trivial,?_⟩
  generalize pts h=q at *
  obtain⟨X,hX⟩:∃X,X=ixP (fun i=>eqP a (q i)) n 0:=⟨_,rfl⟩
  have hv:ixP (fun i=>eqP (rdV a.v) (q i)) n 0=X:=hX.symm
  rw [hv]
  with_unfolding_all refine⟨Nat,fun i=>i≤n∧ixP (fun i=>eqP a (q i)) (n - i) i=X,fun i=>stOf [(0,.rs 6 n (fun i=>(q i).cells)),(3,.ptr 0 0 0 0),(7,.val (goInt n)),(8,.val (goInt i))] [⟨25,6,0,true,false,1,fun _=>[.val (.bool a.x.s),.val (.string a.x.b),.val (.string a.x.c),.val (.bool a.y.s),.val (.string a.y.b),.val (.string a.y.c)]⟩] 1 [],fun i=>n - i,⟨0,[some 0],⟨Nat.zero_le _,hX.symm⟩,Weak.of (by simp) ⟨⟨lt_ok rfl,rfl,rfl,rfl,rfl,rfl,⟨rfl,rfl⟩,⟨rfl,rfl⟩,⟨rfl,rfl⟩,⟨rfl,rfl⟩,⟨rfl,rfl⟩,⟨rfl,rfl⟩,trivial⟩,trivial⟩ ⟨⟨rfl,rfl,fun _ _=>rfl⟩,⟨rfl,rfl,rfl,lt_ok rfl,_,rfl⟩,rfl,rfl,trivial⟩ trivial⟩,fun i hi=>?_⟩
  obtain⟨hin,hI⟩:i≤n∧ixP (fun i=>eqP a (q i)) (n - i) i=X:=hi
  with_unfolding_all refine⟨fun h=>?_,fun h=>⟨[],stOf [(4,.val (.int .i64 X))] [] 0 [],Weak.of (by simp) trivial ⟨?_,trivial⟩ trivial,rfl,rfl⟩⟩
  ·have h:(i:Int) < n:=ltT h
   have e:(i:Int).toNat=i:=Int.toNat_natCast i
   have hstep:ixP (fun i=>eqP a (q i)) (n - i) i=bif eqP a (q i) then(i:Int) else ixP (fun i=>eqP a (q i)) (n - (i+1)) (i+1):=by
    rw [show n - i=(n - (i+1))+1 by omega]
    rfl
   with_unfolding_all refine⟨⟨by omega,by omega⟩,fun h'=>⟨[],stOf [(4,.val (.int .i64 X))] [] 0 [],Weak.of (by simp) trivial ⟨?_,trivial⟩ trivial,rfl,rfl⟩,fun h'=>⟨i+1,[some 0],⟨by omega,?_⟩,by show n - (i+1) < n - i;omega,Weak.of (by simp) ⟨⟨lt_ok rfl,rfl,rfl,rfl,rfl,rfl,⟨rfl,rfl⟩,⟨rfl,rfl⟩,⟨rfl,rfl⟩,⟨rfl,rfl⟩,⟨rfl,rfl⟩,⟨rfl,rfl⟩,trivial⟩,trivial⟩ ⟨⟨rfl,rfl,fun _ _=>rfl⟩,⟨rfl,rfl,rfl,lt_ok rfl,_,rfl⟩,rfl,?_,trivial⟩ trivial⟩⟩
   ·have h':eqP a (q (i:Int).toNat)=true:=h'
    rw [e] at h'
    rw [h',cond_true] at hstep
    exact congrArg (fun z=>PV.val (.int .i64 z)) (hstep.symm.trans hI)
   ·have h':eqP a (q (i:Int).toNat)=false:=h'
    rw [e] at h'
    rw [h',cond_false] at hstep
    exact hstep.symm.trans hI
   ·show PV.val (.int .i64 (IntKind.i64.wrap ((i:Int)+1)))=PV.val (.int .i64 ((i+1:Nat):Int))
    rw [wrap64 (by omega) (by omega)]
    rfl
  ·have h:(n:Int)≤i:=ltF h
   rw [show n - i=0 by omega] at hI
   exact congrArg (fun z=>PV.val (.int .i64 z)) hI
 ·cases e
def c37:List PV→Option Ans
 |[.rs 6 m h,.val v]=>some ⟨some (isPL 4294967296 m h∧isPk 4294967296 v),.val (.bool (anyP (fun i=>eqP (rdV v) (pts h i)) m)),[]⟩
 |_=>none
theorem ok37:funcOk {} Tryz.f37 2=true:=by kernel_rfl
theorem f37:FnOk Tryz.prog 37 c37:=by
 refine FnOk.ofW orders (mkE_ok (l:=[(19,c19)]) (own:=[]) (inl:=[]) (by simp [f19]) (by simp)) Tryz.func37 {} 2 ok37 fun args r e=>?_
 unfold c37 at e
 split at e
 ·rename_i n h v
  cases e
  refine⟨by simp,fun hm=>?_⟩
  obtain⟨hq,a,rfl,ha⟩:=hm _ rfl
  refine⟨[],stOf [(0,.rs 6 n h),(1,.val a.v)] [] 0 [],Weak.of (by simp) trivial ⟨⟨rfl,rfl,fun i hi=>rfl⟩,rfl,trivial⟩ trivial,?_⟩
  with_unfolding_all refine⟨⟨hq,a,rfl,ha⟩,[],stOf [(4,.val (.bool (anyP (fun i=>eqP a (pts h i)) n)))] [] 0 [],Weak.of (by simp) trivial ⟨?_,trivial⟩ trivial,rfl,rfl⟩
  exact congrArg (fun z=>PV.val (.bool z)) (ixP_any _ _)
 ·cases e
end Go.Proofs
namespace Go.Proofs
open Go Go.Ex Go.Num
set_option maxRecDepth 100000
def c92:List PV→Option Ans
 |[.rs 6 n g]=>some ⟨some (isPL 4294967296 n g∧∀i,i+1 < n→eqP (pts g (i+1)) (pts g i)=false),.rs 6 n (fun i=>(pts g i).cells),[]⟩
 |_=>none
theorem ok92:funcOk {} Tryz.f92 1=true:=by kernel_rfl
theorem f92:FnOk Tryz.prog 92 c92:=by
 refine FnOk.ofW orders (mkE_ok (l:=[]) (own:=[]) (inl:=[]) (by simp) (by simp)) Tryz.func92 {} 1 ok92 fun args r e=>?_
 unfold c92 at e
 split at e
 ·rename_i n g
  cases e
  refine⟨by simp,fun hm=>?_⟩
  obtain⟨⟨hg,hn⟩,hne⟩:=hm _ rfl
  refine⟨[],stOf [(0,.rs 6 n (fun i=>(pts g i).cells))] [] 0 [],Weak.of (by simp) trivial ⟨⟨rfl,rfl,fun i hi=>(hg i hi).1.symm⟩,trivial⟩ trivial,?_⟩
  generalize pts g=p at *
  with_unfolding_all refine⟨fun h=>⟨[],stOf [(2,.rs 6 n (fun i=>(p i).cells))] [] 0 [],Weak.of (by simp) trivial ⟨⟨rfl,rfl,fun _ _=>rfl⟩,trivial⟩ trivial,rfl,rfl⟩,fun h0=>⟨Nat,fun k=>k+1≤n,fun k=>stOf [(0,.rs 6 n (fun i=>(p i).cells)),(3,.val (.int .i64 ((k:Int)+1)))] [] 0 [],fun k=>n - k,⟨0,[],?_,Weak.of (by simp) trivial ⟨⟨rfl,rfl,fun _ _=>rfl⟩,rfl,trivial⟩ trivial⟩,fun k hk=>⟨fun h1=>?_,fun h1=>⟨[],stOf [(2,.rs 6 n (fun i=>(p i).cells))] [] 0 [],Weak.of (by simp) trivial ⟨⟨rfl,rfl,fun _ _=>rfl⟩,trivial⟩ trivial,rfl,rfl⟩⟩⟩⟩
  ·have h:=of_decide_eq_false h0
   have h:¬(n:Int) < 2:=h
   show 0+1≤n
   omega
  ·have hk:k+1≤n:=hk
   have h1:(k:Int)+1 < n:=of_decide_eq_true h1
   have w1:IntKind.i64.wrap ((k:Int)+1 - 1)=k:=by rw [wrap64 (by omega) (by omega)];omega
   have w2:PV.val (.int .i64 (IntKind.i64.wrap ((k:Int)+1+1)))=PV.val (.int .i64 (((k+1:Nat):Int)+1)):=by
    rw [wrap64 (by omega) (by omega)]
    rfl
   have ne:eqP (p ((k:Int)+1).toNat) (p (IntKind.i64.wrap ((k:Int)+1 - 1)).toNat)=false:=by
    rw [w1,show((k:Int)+1).toNat=k+1 by omega,Int.toNat_natCast]
    exact hne k (by omega)
   have b1:0≤IntKind.i64.wrap ((k:Int)+1 - 1)∧IntKind.i64.wrap ((k:Int)+1 - 1) < n:=by rw [w1];omega
   with_unfolding_all refine⟨⟨by omega,h1⟩,b1,fun h2=>absurd (h2.symm.trans ne) (by decide),fun h2=>⟨k+1,[],?_,?_,Weak.of (by simp) trivial ⟨⟨rfl,rfl,fun _ _=>rfl⟩,w2,trivial⟩ trivial⟩⟩
   ·show k+1+1≤n
    omega
   ·show n - (k+1) < n - k
    omega
 ·cases e
end Go.Proofs
namespace Go.Num
open Go Go.Ex Go.Proofs
def rdI1:List PV→Int
 |[.val (.int .i64 s)]=>s
 |_=>0
def isI1 (c:List PV):Prop:=c=[.val (.int .i64 (rdI1 c))]
def sideB (a b:PtS) (s:Int) (p:PtS):Bool:=orP a b p==s
end Go.Num
namespace Go.Proofs
open Go Go.Ex Go.Num
set_option maxRecDepth 100000
def c106:List PV→Option Ans
 |[.val v,.rp 6 1 h 0 0,.rp 6 1 h' 0 0,.rp 1 1 h2 0 0]=>some ⟨some (isPk 10000 v∧isC 10000 (h 0)∧isC 10000 (h' 0)∧isI1 (h2 0)),.val (.bool (sideB (rdP (h 0)) (rdP (h' 0)) (rdI1 (h2 0)) (rdV v))),[]⟩
 |_=>none
theorem ok106:funcOk {} Tryz.f106 4=true:=by kernel_rfl
theorem f106:FnOk Tryz.prog 106 c106:=by
 refine FnOk.ofW orders (mkE_ok (l:=[(107,c107)]) (own:=[]) (inl:=[]) (by simp [f107]) (by simp)) Tryz.func106 {} 4 ok106 fun args r e=>?_
 unfold c106 at e
 split at e
 ·rename_i v h h' h2
  cases e
  refine⟨by simp,fun hm=>?_⟩
  obtain⟨⟨p,rfl,hp⟩,⟨h1,ha⟩,⟨h3,hb⟩,h4⟩:=hm _ rfl
  unfold isI1 at h4
  generalize rdP (h 0)=a at *
  generalize rdP (h' 0)=b at *
  generalize rdI1 (h2 0)=s at *
  refine⟨[],stOf [(0,.val p.v),(1,.rp 6 1 (fun _=>a.cells) 0 0),(2,.rp 6 1 (fun _=>b.cells) 0 0),(3,.rp 1 1 (fun _=>[.val (.int .i64 s)]) 0 0)] [] 0 [],Weak.of (by simp) trivial ⟨rfl,⟨rfl,rfl,rfl,rfl,at0 h1⟩,⟨rfl,rfl,rfl,rfl,at0 h3⟩,⟨rfl,rfl,rfl,rfl,at0 h4⟩,trivial⟩ trivial,?_⟩
  with_unfolding_all exact⟨⟨⟨a,rfl,ha⟩,⟨b,rfl,hb⟩,p,rfl,hp⟩,⟨[],stOf [(5,.val (.bool (sideB a b s p)))] [] 0 [],Weak.of (by simp) trivial ⟨rfl,trivial⟩ trivial,rfl,rfl⟩⟩
 ·cases e
def c83_106:List PV→Option Ans
 |[.rs 6 n g,.fn (.func 106) [] [.rp 6 1 cc 0 0,.rp 6 1 dd 0 0,.rp 1 1 ee 0 0]]=>some ⟨some (isPL 10000 n g∧isC 10000 (cc 0)∧isC 10000 (dd 0)∧isI1 (ee 0)),.val (.int .i64 (ixP (fun i=>sideB (rdP (cc 0)) (rdP (dd 0)) (rdI1 (ee 0)) (pts g i)) n 0)),[]⟩
 |_=>none
theorem f83_106:FnOk Tryz.prog 83 c83_106:=by
 refine FnOk.ofW orders (mkE_ok (l:=[(106,c106)]) (own:=[]) (inl:=[]) (by simp [f106]) (by simp)) Tryz.func83 {} 2 ok83 fun args r e=>?_
 unfold c83_106 at e
 split at e
 ·rename_i n g cc dd ee
  cases e
  refine⟨by simp,fun hm=>?_⟩
  obtain⟨⟨hg,hn⟩,h1,h2,h3⟩:=hm _ rfl
  refine⟨[],stOf [(0,.rs 6 n (fun i=>(pts g i).cells)),(1,.fn (.func 106) [] [.rp 6 1 cc 0 0,.rp 6 1 dd 0 0,.rp 1 1 ee 0 0])] [] 0 [],Weak.of (by simp) trivial ⟨⟨rfl,rfl,fun i hi=>(hg i hi).1.symm⟩,⟨rfl,trivial,⟨rfl,rfl,rfl,rfl,fun _ _=>rfl⟩,⟨rfl,rfl,rfl,rfl,fun _ _=>rfl⟩,⟨rfl,rfl,rfl,rfl,fun _ _=>rfl⟩,trivial⟩,trivial⟩ trivial,?_⟩
  obtain⟨X,hX⟩:∃X,X=ixP (fun i=>sideB (rdP (cc 0)) (rdP (dd 0)) (rdI1 (ee 0)) (pts g i)) n 0:=⟨_,rfl⟩
  rw [←hX]
  with_unfolding_all refine⟨Nat,fun i=>i≤n∧ixP (fun i=>sideB (rdP (cc 0)) (rdP (dd 0)) (rdI1 (ee 0)) (pts g i)) (n - i) i=X,fun i=>stOf [(0,.rs 6 n (fun i=>(pts g i).cells)),(1,.fn (.func 106) [] [.rp 6 1 cc 0 0,.rp 6 1 dd 0 0,.rp 1 1 ee 0 0]),(7,.val (goInt n)),(8,.val (goInt i))] [] 0 [],fun i=>n - i,⟨0,[],⟨Nat.zero_le _,hX.symm⟩,Weak.of (by simp) trivial ⟨⟨rfl,rfl,fun _ _=>rfl⟩,⟨rfl,trivial,⟨rfl,rfl,rfl,rfl,fun _ _=>rfl⟩,⟨rfl,rfl,rfl,rfl,fun _ _=>rfl⟩,⟨rfl,rfl,rfl,rfl,fun _ _=>rfl⟩,trivial⟩,rfl,rfl,trivial⟩ trivial⟩,fun i hi=>?_⟩
  obtain⟨hin,hI⟩:i≤n∧ixP (fun i=>sideB (rdP (cc 0)) (rdP (dd 0)) (rdI1 (ee 0)) (pts g i)) (n - i) i=X:=hi
  with_unfolding_all refine⟨fun h=>?_,fun h=>⟨[],stOf [(4,.val (.int .i64 X))] [] 0 [],Weak.of (by simp) trivial ⟨?_,trivial⟩ trivial,rfl,rfl⟩⟩
  ·have h:(i:Int) < n:=ltT h
   have e:(i:Int).toNat=i:=Int.toNat_natCast i
   have hstep:ixP (fun i=>sideB (rdP (cc 0)) (rdP (dd 0)) (rdI1 (ee 0)) (pts g i)) (n - i) i=bif sideB (rdP (cc 0)) (rdP (dd 0)) (rdI1 (ee 0)) (pts g i) then(i:Int) else ixP (fun i=>sideB (rdP (cc 0)) (rdP (dd 0)) (rdI1 (ee 0)) (pts g i)) (n - (i+1)) (i+1):=by
    rw [show n - i=(n - (i+1))+1 by omega]
    rfl
   have hip:=(hg i (by omega)).2
   rw [←e] at hip
   with_unfolding_all refine⟨⟨by omega,by omega⟩,⟨⟨pts g (i:Int).toNat,rfl,hip⟩,h1,h2,h3⟩,fun h'=>⟨[],stOf [(4,.val (.int .i64 X))] [] 0 [],Weak.of (by simp) trivial ⟨?_,trivial⟩ trivial,rfl,rfl⟩,fun h'=>⟨i+1,[],⟨by omega,?_⟩,by show n - (i+1) < n - i;omega,Weak.of (by simp) trivial ⟨⟨rfl,rfl,fun _ _=>rfl⟩,⟨rfl,trivial,⟨rfl,rfl,rfl,rfl,fun _ _=>rfl⟩,⟨rfl,rfl,rfl,rfl,fun _ _=>rfl⟩,⟨rfl,rfl,rfl,rfl,fun _ _=>rfl⟩,trivial⟩,rfl,?_,trivial⟩ trivial⟩⟩
   ·have h':(sideB (rdP (cc 0)) (rdP (dd 0)) (rdI1 (ee 0)) (pts g (i:Int).toNat))=true:=h'
    rw [e] at h'
    rw [h',cond_true] at hstep
    exact congrArg (fun z=>PV.val (.int .i64 z)) (hstep.symm.trans hI)
   ·have h':(sideB (rdP (cc 0)) (rdP (dd 0)) (rdI1 (ee 0)) (pts g (i:Int).toNat))=false:=h'
    rw [e] at h'
    rw [h',cond_false] at hstep
    exact hstep.symm.trans hI
   ·show PV.val (.int .i64 (IntKind.i64.wrap ((i:Int)+1)))=PV.val (.int .i64 ((i+1:Nat):Int))
    rw [wrap64 (by omega) (by omega)]
    rfl
  ·have h:(n:Int)≤i:=ltF h
   rw [show n - i=0 by omega] at hI
   exact congrArg (fun z=>PV.val (.int .i64 z)) hI
 ·cases e
def c65_106:List PV→Option Ans
 |[.rs 6 n g,.fn (.func 106) [] [.rp 6 1 cc 0 0,.rp 6 1 dd 0 0,.rp 1 1 ee 0 0]]=>some ⟨some (isPL 10000 n g∧isC 10000 (cc 0)∧isC 10000 (dd 0)∧isI1 (ee 0)),.val (.bool (anyP (fun i=>sideB (rdP (cc 0)) (rdP (dd 0)) (rdI1 (ee 0)) (pts g i)) n)),[]⟩
 |_=>none
theorem f65_106:FnOk Tryz.prog 65 c65_106:=by
 refine FnOk.ofW orders (mkE_ok (l:=[(83,c83_106)]) (own:=[]) (inl:=[]) (by simp [f83_106]) (by simp)) Tryz.func65 {} 2 ok65 fun args r e=>?_
 unfold c65_106 at e
 split at e
 ·rename_i n g cc dd ee
  cases e
  refine⟨by simp,fun hm=>?_⟩
  have hp:=hm _ rfl
  refine⟨[],stOf [(0,.rs 6 n g),(1,.fn (.func 106) [] [.rp 6 1 cc 0 0,.rp 6 1 dd 0 0,.rp 1 1 ee 0 0])] [] 0 [],Weak.of (by simp) trivial ⟨⟨rfl,rfl,fun i hi=>rfl⟩,⟨rfl,trivial,⟨rfl,rfl,rfl,rfl,fun _ _=>rfl⟩,⟨rfl,rfl,rfl,rfl,fun _ _=>rfl⟩,⟨rfl,rfl,rfl,rfl,fun _ _=>rfl⟩,trivial⟩,trivial⟩ trivial,?_⟩
  with_unfolding_all refine⟨hp,[],stOf [(4,.val (.bool (anyP (fun i=>sideB (rdP (cc 0)) (rdP (dd 0)) (rdI1 (ee 0)) (pts g i)) n)))] [] 0 [],Weak.of (by simp) trivial ⟨?_,trivial⟩ trivial,rfl,rfl⟩
  exact congrArg (fun z=>PV.val (.bool z)) (ixP_any _ _)
 ·cases e
def c105:List PV→Option Ans
 |[.val (.int .i64 s),.rp 6 1 h 0 0,.rp 6 1 h' 0 0]=>some ⟨none,.fn (.func 106) [] [.rp 6 1 h 0 0,.rp 6 1 h' 0 0,.rp 1 1 (fun _=>[.val (.int .i64 s)]) 0 0],[]⟩
 |_=>none
theorem ok105:funcOk {} Tryz.f105 3=true:=by kernel_rfl
theorem f105:FnOk Tryz.prog 105 c105:=by
 refine FnOk.ofW orders (mkE_ok (l:=[]) (own:=[]) (inl:=[]) (by simp) (by simp)) Tryz.func105 {} 3 ok105 fun args r e=>?_
 unfold c105 at e
 split at e
 ·rename_i s h h'
  cases e
  refine⟨by simp,fun hm=>?_⟩
  refine⟨[],stOf [(0,.val (.int .i64 s)),(1,.rp 6 1 h 0 0),(2,.rp 6 1 h' 0 0)] [] 0 [],Weak.of (by simp) trivial ⟨rfl,⟨rfl,rfl,rfl,rfl,fun _ _=>rfl⟩,⟨rfl,rfl,rfl,rfl,fun _ _=>rfl⟩,trivial⟩ trivial,?_⟩
  with_unfolding_all exact⟨[some 0],stOf [(4,.fn (.func 106) [] [.rp 6 1 h 0 0,.rp 6 1 h' 0 0,.ptr 0 0 0 0])] [⟨3,1,0,true,false,1,fun _=>[.val (.int .i64 s)]⟩] 1 [],Weak.of (by simp) ⟨⟨lt_ok rfl,rfl,rfl,rfl,rfl,rfl,⟨rfl,rfl⟩,trivial⟩,trivial⟩ ⟨⟨rfl,trivial,⟨rfl,rfl,rfl,rfl,fun _ _=>rfl⟩,⟨rfl,rfl,rfl,rfl,fun _ _=>rfl⟩,⟨rfl,rfl,rfl,lt_ok rfl,_,rfl⟩,trivial⟩,trivial⟩ trivial,rfl,rfl⟩
 ·cases e
end Go.Proofs
namespace Go.Num
open Go Go.Ex Go.Proofs
def tightP (n:Nat) (p:Nat→PtS) (a b:PtS):Bool:=anyP (fun i=>eqP a (p i)) n&&!(anyP (fun i=>sideB a b 1 (p i)) n&&anyP (fun i=>sideB a b (-1) (p i)) n)
end Go.Num
namespace Go.Proofs
open Go Go.Ex Go.Num
set_option maxRecDepth 100000
def c104:List PV→Option Ans
 |[.rs 6 n g,.rp 6 1 h 0 0,.rp 6 1 h' 0 0]=>some ⟨some (isPL 10000 n g∧isC 10000 (h 0)∧isC 10000 (h' 0)),.val (.bool (tightP n (pts g) (rdP (h 0)) (rdP (h' 0)))),[]⟩
 |_=>none
theorem ok104:funcOk {} Tryz.f104 3=true:=by kernel_rfl
theorem f104:FnOk Tryz.prog 104 c104:=by
 refine FnOk.ofW orders (mkE_ok (l:=[(37,c37),(65,c65_106),(105,c105)]) (own:=[]) (inl:=[]) (by simp [f37,f65_106,f105]) (by simp)) Tryz.func104 {} 3 ok104 fun args r e=>?_
 unfold c104 at e
 split at e
 ·rename_i n g h h'
  cases e
  refine⟨by simp,fun hm=>?_⟩
  obtain⟨hg,⟨h1,ha⟩,h3,hb⟩:=hm _ rfl
  generalize rdP (h 0)=a at *
  generalize rdP (h' 0)=b at *
  refine⟨[],stOf [(0,.rs 6 n g),(1,.rp 6 1 (fun _=>a.cells) 0 0),(2,.rp 6 1 (fun _=>b.cells) 0 0)] [] 0 [],Weak.of (by simp) trivial ⟨⟨rfl,rfl,fun _ _=>rfl⟩,⟨rfl,rfl,rfl,rfl,at0 h1⟩,⟨rfl,rfl,rfl,rfl,at0 h3⟩,trivial⟩ trivial,?_⟩
  have hg':isPL 4294967296 n g:=⟨fun i hi=>⟨(hg.1 i hi).1,(hg.1 i hi).2.mono (by decide)⟩,hg.2⟩
  have ha':=ha.mono (show 10000≤4294967296 by decide)
  have pS:∀s:Int,isPL 10000 n g∧isC 10000 a.cells∧isC 10000 b.cells∧isI1 [.val (.int .i64 s)]:=fun s=>⟨hg,⟨rfl,ha⟩,⟨rfl,hb⟩,rfl⟩
  obtain⟨X,hX⟩:∃X,X=tightP n (pts g) a b:=⟨_,rfl⟩
  rw [←hX]
  have v1:anyP (fun i=>eqP a (pts g i)) n=true→anyP (fun i=>sideB a b 1 (pts g i)) n=true→PV.val (.bool (!anyP (fun i=>sideB a b (-1) (pts g i)) n))=PV.val (.bool X):=fun h h'=>by
   rw [hX,tightP,h,h',Bool.true_and,Bool.true_and]
  have v2:anyP (fun i=>eqP a (pts g i)) n=true→anyP (fun i=>sideB a b 1 (pts g i)) n=false→PV.val (.bool true)=PV.val (.bool X):=fun h h'=>by
   rw [hX,tightP,h,h']
   rfl
  have v3:anyP (fun i=>eqP a (pts g i)) n=false→PV.val (.bool false)=PV.val (.bool X):=fun h=>by
   rw [hX,tightP,h]
   rfl
  with_unfolding_all exact⟨⟨hg',a,rfl,ha'⟩,fun h1=>⟨pS 1,fun h2=>⟨pS (-1),⟨[],stOf [(4,.val (.bool X))] [] 0 [],Weak.of (by simp) trivial ⟨v1 h1 h2,trivial⟩ trivial,rfl,rfl⟩⟩,fun h2=>⟨[],stOf [(4,.val (.bool X))] [] 0 [],Weak.of (by simp) trivial ⟨v2 h1 h2,trivial⟩ trivial,rfl,rfl⟩⟩,fun h1=>⟨[],stOf [(4,.val (.bool X))] [] 0 [],Weak.of (by simp) trivial ⟨v3 h1,trivial⟩ trivial,rfl,rfl⟩⟩
 ·cases e
def c138:List PV→Option Ans
 |[.rs 1 k c,.fn (.func 104) [] [.rp 6 1 h 0 0,.rp 6 1 h' 0 0]]=>some ⟨some (isCL 10000 k c∧isC 10000 (h 0)∧isC 10000 (h' 0)),.val (.int .i64 (ixP (fun i=>tightP (pn c i) (pts (pg c i)) (rdP (h 0)) (rdP (h' 0))) k 0)),[]⟩
 |_=>none
theorem ok138:funcOk {} Tryz.f138 2=true:=by kernel_rfl
theorem f138:FnOk Tryz.prog 138 c138:=by
 refine FnOk.ofW orders (mkE_ok (l:=[(104,c104)]) (own:=[]) (inl:=[]) (by simp [f104]) (by simp)) Tryz.func138 {} 2 ok138 fun args r e=>?_
 unfold c138 at e
 split at e
 ·rename_i k c cc dd
  cases e
  refine⟨by simp,fun hm=>?_⟩
  obtain⟨⟨hc,hn⟩,h1,h2⟩:=hm _ rfl
  refine⟨[],stOf [(0,.rs 1 k (fun i=>[.rs 6 (pn c i) (pg c i)])),(1,.fn (.func 104) [] [.rp 6 1 cc 0 0,.rp 6 1 dd 0 0])] [] 0 [],Weak.of (by simp) trivial ⟨⟨rfl,rfl,fun i hi=>(hc i hi).1.symm⟩,⟨rfl,trivial,⟨rfl,rfl,rfl,rfl,fun _ _=>rfl⟩,⟨rfl,rfl,rfl,rfl,fun _ _=>rfl⟩,trivial⟩,trivial⟩ trivial,?_⟩
  obtain⟨X,hX⟩:∃X,X=ixP (fun i=>tightP (pn c i) (pts (pg c i)) (rdP (cc 0)) (rdP (dd 0))) k 0:=⟨_,rfl⟩
  rw [←hX]
  with_unfolding_all refine⟨Nat,fun i=>i≤k∧ixP (fun i=>tightP (pn c i) (pts (pg c i)) (rdP (cc 0)) (rdP (dd 0))) (k - i) i=X,fun i=>stOf [(0,.rs 1 k (fun i=>[.rs 6 (pn c i) (pg c i)])),(1,.fn (.func 104) [] [.rp 6 1 cc 0 0,.rp 6 1 dd 0 0]),(7,.val (goInt k)),(8,.val (goInt i))] [] 0 [],fun i=>k - i,⟨0,[],⟨Nat.zero_le _,hX.symm⟩,Weak.of (by simp) trivial ⟨⟨rfl,rfl,fun _ _=>rfl⟩,⟨rfl,trivial,⟨rfl,rfl,rfl,rfl,fun _ _=>rfl⟩,⟨rfl,rfl,rfl,rfl,fun _ _=>rfl⟩,trivial⟩,rfl,rfl,trivial⟩ trivial⟩,fun i hi=>?_⟩
  obtain⟨hin,hI⟩:i≤k∧ixP (fun i=>tightP (pn c i) (pts (pg c i)) (rdP (cc 0)) (rdP (dd 0))) (k - i) i=X:=hi
  with_unfolding_all refine⟨fun h=>?_,fun h=>⟨[],stOf [(4,.val (.int .i64 X))] [] 0 [],Weak.of (by simp) trivial ⟨?_,trivial⟩ trivial,rfl,rfl⟩⟩
  ·have h:(i:Int) < k:=ltT h
   have e:(i:Int).toNat=i:=Int.toNat_natCast i
   have hstep:ixP (fun i=>tightP (pn c i) (pts (pg c i)) (rdP (cc 0)) (rdP (dd 0))) (k - i) i=bif tightP (pn c i) (pts (pg c i)) (rdP (cc 0)) (rdP (dd 0)) then(i:Int) else ixP (fun i=>tightP (pn c i) (pts (pg c i)) (rdP (cc 0)) (rdP (dd 0))) (k - (i+1)) (i+1):=by
    rw [show k - i=(k - (i+1))+1 by omega]
    rfl
   have hip:=(hc i (by omega)).2
   rw [←e] at hip
   with_unfolding_all refine⟨⟨by omega,by omega⟩,⟨hip,h1,h2⟩,fun h'=>⟨[],stOf [(4,.val (.int .i64 X))] [] 0 [],Weak.of (by simp) trivial ⟨?_,trivial⟩ trivial,rfl,rfl⟩,fun h'=>⟨i+1,[],⟨by omega,?_⟩,by show k - (i+1) < k - i;omega,Weak.of (by simp) trivial ⟨⟨rfl,rfl,fun _ _=>rfl⟩,⟨rfl,trivial,⟨rfl,rfl,rfl,rfl,fun _ _=>rfl⟩,⟨rfl,rfl,rfl,rfl,fun _ _=>rfl⟩,trivial⟩,rfl,?_,trivial⟩ trivial⟩⟩
   ·have h':tightP (pn c (i:Int).toNat) (pts (pg c (i:Int).toNat)) (rdP (cc 0)) (rdP (dd 0))=true:=h'
    rw [e] at h'
    rw [h',cond_true] at hstep
    exact congrArg (fun z=>PV.val (.int .i64 z)) (hstep.symm.trans hI)
   ·have h':tightP (pn c (i:Int).toNat) (pts (pg c (i:Int).toNat)) (rdP (cc 0)) (rdP (dd 0))=false:=h'
    rw [e] at h'
    rw [h',cond_false] at hstep
    exact hstep.symm.trans hI
   ·show PV.val (.int .i64 (IntKind.i64.wrap ((i:Int)+1)))=PV.val (.int .i64 ((i+1:Nat):Int))
    rw [wrap64 (by omega) (by omega)]
    rfl
  ·have h:(k:Int)≤i:=ltF h
   rw [show k - i=0 by omega] at hI
   exact congrArg (fun z=>PV.val (.int .i64 z)) hI
 ·cases e
def c103:List PV→Option Ans
 |[.rs 1 k c,.fn (.func 104) [] [.rp 6 1 h 0 0,.rp 6 1 h' 0 0]]=>some ⟨some (isCL 10000 k c∧isC 10000 (h 0)∧isC 10000 (h' 0)),.val (.bool (anyP (fun i=>tightP (pn c i) (pts (pg c i)) (rdP (h 0)) (rdP (h' 0))) k)),[]⟩
 |_=>none
theorem ok103:funcOk {} Tryz.f103 2=true:=by kernel_rfl
theorem f103:FnOk Tryz.prog 103 c103:=by
 refine FnOk.ofW orders (mkE_ok (l:=[(138,c138)]) (own:=[]) (inl:=[]) (by simp [f138]) (by simp)) Tryz.func103 {} 2 ok103 fun args r e=>?_
 unfold c103 at e
 split at e
 ·rename_i n g cc dd
  cases e
  refine⟨by simp,fun hm=>?_⟩
  have hp:=hm _ rfl
  refine⟨[],stOf [(0,.rs 1 n g),(1,.fn (.func 104) [] [.rp 6 1 cc 0 0,.rp 6 1 dd 0 0])] [] 0 [],Weak.of (by simp) trivial ⟨⟨rfl,rfl,fun i hi=>rfl⟩,⟨rfl,trivial,⟨rfl,rfl,rfl,rfl,fun _ _=>rfl⟩,⟨rfl,rfl,rfl,rfl,fun _ _=>rfl⟩,trivial⟩,trivial⟩ trivial,?_⟩
  with_unfolding_all refine⟨hp,[],stOf [(4,.val (.bool (anyP (fun i=>tightP (pn g i) (pts (pg g i)) (rdP (cc 0)) (rdP (dd 0))) n)))] [] 0 [],Weak.of (by simp) trivial ⟨?_,trivial⟩ trivial,rfl,rfl⟩
  exact congrArg (fun z=>PV.val (.bool z)) (ixP_any _ _)
 ·cases e
end Go.Proofs
namespace Go.Num
open Go Go.Ex Go.Proofs
def cornP (lo hi:PtS) (k:Nat) (c:Nat→List PV) (l:Nat) (o:Nat→List PV):Nat→PtS:=srtI (vertP (vertC lo hi k c l o)) (vertC lo hi k c l o).length
theorem cornP_le {lo hi:PtS} {k:Nat} {c:Nat→List PV} {l:Nat} {o:Nat→List PV} (h:isCL 10000 k c):∀i,i < (vertC lo hi k c l o).length→(cornP lo hi k c l o i).le 10000:=srtI_le (Nat.le_refl _) fun _ hi=>vertP_le (vertC_le h) hi
end Go.Num
namespace Go.Proofs
open Go Go.Ex Go.Num
set_option maxRecDepth 100000
def c57:List PV→Option Ans
 |[.agg [.val (.bool s1),.val (.string b1),.val (.string c1),.val (.bool s2),.val (.string b2),.val (.string c2),.val (.bool s3),.val (.string b3),.val (.string c3),.val (.bool s4),.val (.string b4),.val (.string c4),.rs 1 k c,.rs 3 l o]]=>some ⟨some ((((PtS.le 10000 (PtS.mk ⟨s1,b1,c1⟩ ⟨s2,b2,c2⟩)∧PtS.le 10000 (PtS.mk ⟨s3,b3,c3⟩ ⟨s4,b4,c4⟩))∧isCL 10000 k c∧isOL l o)∧(vertC (PtS.mk ⟨s1,b1,c1⟩ ⟨s2,b2,c2⟩) (PtS.mk ⟨s3,b3,c3⟩ ⟨s4,b4,c4⟩) k c l o).length≤12)∧∀i,i+1 < (vertC (PtS.mk ⟨s1,b1,c1⟩ ⟨s2,b2,c2⟩) (PtS.mk ⟨s3,b3,c3⟩ ⟨s4,b4,c4⟩) k c l o).length→eqP (cornP (PtS.mk ⟨s1,b1,c1⟩ ⟨s2,b2,c2⟩) (PtS.mk ⟨s3,b3,c3⟩ ⟨s4,b4,c4⟩) k c l o (i+1)) (cornP (PtS.mk ⟨s1,b1,c1⟩ ⟨s2,b2,c2⟩) (PtS.mk ⟨s3,b3,c3⟩ ⟨s4,b4,c4⟩) k c l o i)=false),.rs 6 (vertC (PtS.mk ⟨s1,b1,c1⟩ ⟨s2,b2,c2⟩) (PtS.mk ⟨s3,b3,c3⟩ ⟨s4,b4,c4⟩) k c l o).length (fun i=>(cornP (PtS.mk ⟨s1,b1,c1⟩ ⟨s2,b2,c2⟩) (PtS.mk ⟨s3,b3,c3⟩ ⟨s4,b4,c4⟩) k c l o i).cells),[]⟩
 |_=>none
theorem ok57:funcOk {} Tryz.f57 1=true:=by kernel_rfl
theorem f57:FnOk Tryz.prog 57 c57:=by
 refine FnOk.ofW orders (mkE_ok (l:=[(94,c94),(93,c93),(92,c92)]) (own:=[]) (inl:=[]) (by simp [f94,f93,f92]) (by simp)) Tryz.func57 {} 1 ok57 fun args r e=>?_
 unfold c57 at e
 split at e
 ·rename_i s1 b1 c1 s2 b2 c2 s3 b3 c3 s4 b4 c4 k c l o
  cases e
  refine⟨by simp,fun hm=>?_⟩
  obtain⟨⟨⟨⟨hlo,hhi⟩,⟨hc,hk⟩,ho,hl⟩,hn⟩,hne⟩:=hm _ rfl
  obtain⟨lo,hlo'⟩:∃p,p=(PtS.mk ⟨s1,b1,c1⟩ ⟨s2,b2,c2⟩):=⟨_,rfl⟩
  obtain⟨hi,hhi'⟩:∃p,p=(PtS.mk ⟨s3,b3,c3⟩ ⟨s4,b4,c4⟩):=⟨_,rfl⟩
  have hc1:∀i,i < k→[.rs 6 (pn c i) (pg c i)]=c i:=fun i hi=>(hc i hi).1.symm
  have ho1:∀i,i < l→cellsO (ow o i)=o i:=fun i hi=>(ho i hi).symm
  refine⟨[],stOf [(0,.agg [.val (.bool (PtS.mk ⟨s1,b1,c1⟩ ⟨s2,b2,c2⟩).x.s),.val (.string (PtS.mk ⟨s1,b1,c1⟩ ⟨s2,b2,c2⟩).x.b),.val (.string (PtS.mk ⟨s1,b1,c1⟩ ⟨s2,b2,c2⟩).x.c),.val (.bool (PtS.mk ⟨s1,b1,c1⟩ ⟨s2,b2,c2⟩).y.s),.val (.string (PtS.mk ⟨s1,b1,c1⟩ ⟨s2,b2,c2⟩).y.b),.val (.string (PtS.mk ⟨s1,b1,c1⟩ ⟨s2,b2,c2⟩).y.c),.val (.bool (PtS.mk ⟨s3,b3,c3⟩ ⟨s4,b4,c4⟩).x.s),.val (.string (PtS.mk ⟨s3,b3,c3⟩ ⟨s4,b4,c4⟩).x.b),.val (.string (PtS.mk ⟨s3,b3,c3⟩ ⟨s4,b4,c4⟩).x.c),.val (.bool (PtS.mk ⟨s3,b3,c3⟩ ⟨s4,b4,c4⟩).y.s),.val (.string (PtS.mk ⟨s3,b3,c3⟩ ⟨s4,b4,c4⟩).y.b),.val (.string (PtS.mk ⟨s3,b3,c3⟩ ⟨s4,b4,c4⟩).y.c),.rs 1 k (fun i=>[.rs 6 (pn c i) (pg c i)]),.rs 3 l (fun i=>cellsO (ow o i))])] [] 0 [],Weak.of (by simp) trivial ⟨⟨rfl,rfl,rfl,rfl,rfl,rfl,rfl,rfl,rfl,rfl,rfl,rfl,⟨rfl,rfl,hc1⟩,⟨rfl,rfl,ho1⟩,trivial⟩,trivial⟩ trivial,?_⟩
  rw [←hlo'] at hlo hn hne ⊢
  rw [←hhi'] at hhi hn hne ⊢
  clear hlo' hhi' hm
  have hCL:isCL 10000 k (fun i=>[PV.rs 6 (pn c i) (pg c i)]):=⟨fun i hi=>⟨rfl,(hc i hi).2⟩,hk⟩
  have hOL:isOL l (fun i=>cellsO (ow o i)):=⟨fun i hi=>rfl,hl⟩
  have p93:(isG (fun _=>regC lo hi k (fun i=>[PV.rs 6 (pn c i) (pg c i)]) l (fun i=>cellsO (ow o i)))∧(lo.le 10000∧hi.le 10000)∧isCL 10000 k (fun i=>[PV.rs 6 (pn c i) (pg c i)])∧isOL l (fun i=>cellsO (ow o i)))∧(vertC lo hi k (fun i=>[PV.rs 6 (pn c i) (pg c i)]) l (fun i=>cellsO (ow o i))).length≤12:=⟨⟨rfl,⟨hlo,hhi⟩,hCL,hOL⟩,hn⟩
  have p92:isPL 4294967296 (vertC lo hi k (fun i=>[PV.rs 6 (pn c i) (pg c i)]) l (fun i=>cellsO (ow o i))).length (fun i=>(srtI (vertP (vertC lo hi k (fun i=>[PV.rs 6 (pn c i) (pg c i)]) l (fun i=>cellsO (ow o i)))) (vertC lo hi k (fun i=>[PV.rs 6 (pn c i) (pg c i)]) l (fun i=>cellsO (ow o i))).length i).cells)∧∀i,i+1 < (vertC lo hi k (fun i=>[PV.rs 6 (pn c i) (pg c i)]) l (fun i=>cellsO (ow o i))).length→eqP (pts (fun i=>(srtI (vertP (vertC lo hi k (fun i=>[PV.rs 6 (pn c i) (pg c i)]) l (fun i=>cellsO (ow o i)))) (vertC lo hi k (fun i=>[PV.rs 6 (pn c i) (pg c i)]) l (fun i=>cellsO (ow o i))).length i).cells) (i+1)) (pts (fun i=>(srtI (vertP (vertC lo hi k (fun i=>[PV.rs 6 (pn c i) (pg c i)]) l (fun i=>cellsO (ow o i)))) (vertC lo hi k (fun i=>[PV.rs 6 (pn c i) (pg c i)]) l (fun i=>cellsO (ow o i))).length i).cells) i)=false :=
   ⟨⟨fun i hi=>⟨rfl,(cornP_le hCL i hi).mono (by decide)⟩,Nat.le_trans hn (by decide)⟩,hne⟩
  have eg:(fun i=>(srtI (vertP (vertC lo hi k (fun i=>[PV.rs 6 (pn c i) (pg c i)]) l (fun i=>cellsO (ow o i)))) (vertC lo hi k (fun i=>[PV.rs 6 (pn c i) (pg c i)]) l (fun i=>cellsO (ow o i))).length i).cells)=(fun i=>(srtI (vertP (vertC lo hi k (fun i=>[PV.rs 6 (pn c i) (pg c i)]) l (fun i=>cellsO (ow o i)))) (vertC lo hi k (fun i=>[PV.rs 6 (pn c i) (pg c i)]) l (fun i=>cellsO (ow o i))).length (0+i)).cells):=funext fun i=>by rw [Nat.zero_add]
  have hrow:∀i,(cornP lo hi k c l o i).cells=(pts (fun i=>(srtI (vertP (vertC lo hi k (fun i=>[PV.rs 6 (pn c i) (pg c i)]) l (fun i=>cellsO (ow o i)))) (vertC lo hi k (fun i=>[PV.rs 6 (pn c i) (pg c i)]) l (fun i=>cellsO (ow o i))).length (0+i)).cells) i).cells:=fun i=>by
   rw [←eg]
   rfl
  rw [eg] at p92
  with_unfolding_all exact⟨⟨fun _ _=>rfl,fun _ _=>rfl⟩,p93,p92,[],stOf [(2,.rs 6 (vertC lo hi k c l o).length (fun i=>(cornP lo hi k c l o i).cells))] [] 0 [],Weak.of (by simp) trivial ⟨⟨rfl,rfl,fun i _=>hrow i⟩,trivial⟩ trivial,rfl,rfl⟩
 ·cases e
end Go.Proofs
namespace Go.Num
open Go Go.Ex Go.Proofs
def isRg (K:Nat) (xs:List PV):Prop:=xs=regC (gLo xs) (gHi xs) (gK xs) (gC xs) (gL xs) (gO xs)∧((gLo xs).le K∧(gHi xs).le K)∧isCL K (gK xs) (gC xs)∧isOL (gL xs) (gO xs)
def tightE (k:Nat) (c:Nat→List PV) (g:Nat→PtS) (e o:Int):Bool:=decide (e < 2)||anyP (fun i=>tightP (pn c i) (pts (pg c i)) (g e.toNat) (g o.toNat)) k
end Go.Num
namespace Go.Proofs
open Go Go.Ex Go.Num
set_option maxRecDepth 100000
def c69:List PV→Option Ans
 |[.agg xs,.agg [.rs 6 n g,.rs 2 m h],.val (.int .i64 e),.val (.int .i64 o)]=>some ⟨some (isRg 10000 xs∧isPL 10000 n g∧(0≤e∧e < n)∧0≤o∧o < n),.val (.bool (tightE (gK xs) (gC xs) (pts g) e o)),[]⟩
 |_=>none
def D69:Opt:={ perm:=atTs [(3,(.rd 0 (.rd 1 (.rd 2 (.rd 3 (.rd 4 (.rd 5 (.rd 6 (.rd 7 (.rd 8 (.rd 9 (.alt 10 (.mk 11 .nil) (.mk 11 (.mk 10 .nil))))))))))))))] }
theorem ok69:funcOk D69.toOrd Tryz.f69 4=true:=by kernel_rfl
theorem f69:FnOk Tryz.prog 69 c69:=by
 refine FnOk.ofW orders (mkE_ok (l:=[(103,c103)]) (own:=[]) (inl:=[]) (by simp [f103]) (by simp)) Tryz.func69 D69 4 ok69 fun args r e=>?_
 unfold c69 at e
 split at e
 ·rename_i xs n g m h e o
  cases e
  refine⟨by simp,fun hm=>?_⟩
  obtain⟨⟨h1,⟨hlo,hhi⟩,hcl,hol⟩,hg,he,ho⟩:=hm _ rfl
  generalize gLo xs=lo at *
  generalize gHi xs=hi at *
  generalize gK xs=k at *
  generalize gC xs=c at *
  generalize gL xs=l at *
  generalize gO xs=w at *
  subst h1
  clear hm
  refine⟨[],stOf [(0,.agg (regC lo hi k c l w)),(1,.agg [.rs 6 n (fun i=>(pts g i).cells),.rs 2 m h]),(2,.val (.int .i64 e)),(3,.val (.int .i64 o))] [] 0 [],Weak.of (by simp) trivial ⟨⟨rfl,rfl,rfl,rfl,rfl,rfl,rfl,rfl,rfl,rfl,rfl,rfl,⟨rfl,rfl,fun _ _=>rfl⟩,⟨rfl,rfl,fun _ _=>rfl⟩,trivial⟩,⟨⟨rfl,rfl,fun i hi=>(hg.1 i hi).1.symm⟩,⟨rfl,rfl,fun _ _=>rfl⟩,trivial⟩,rfl,rfl,trivial⟩ trivial,?_⟩
  obtain⟨X,hX⟩:∃X,X=tightE k c (pts g) e o:=⟨_,rfl⟩
  rw [←hX]
  have v1:decide (e < 2)=true→PV.val (.bool true)=PV.val (.bool X):=fun h=>by rw [hX,tightE,h];rfl
  have v2:decide (e < 2)=false→PV.val (.bool (anyP (fun i=>tightP (pn c i) (pts (pg c i)) (pts g e.toNat) (pts g o.toNat)) k))=PV.val (.bool X):=fun h=>by rw [hX,tightE,h];rfl
  have cg:∀i:Int,0≤i∧i < n→isC 10000 (pts g i.toNat).cells:=fun i h=>⟨rfl,(hg.1 i.toNat (by omega)).2⟩
  have pre:isCL 10000 k (fun i=>[.rs 6 (pn c i) (pg c i)])∧isC 10000 (pts g e.toNat).cells∧isC 10000 (pts g o.toNat).cells:=⟨⟨fun i hi=>⟨rfl,(hcl.1 i hi).2⟩,hcl.2⟩,cg e he,cg o ho⟩
  with_unfolding_all exact⟨fun h1=>⟨[],stOf [(8,.val (.bool X))] [] 0 [],Weak.of (by simp) trivial ⟨v1 h1,trivial⟩ trivial,rfl,rfl⟩,fun h1=>⟨he,ho,⟨pre,[],stOf [(8,.val (.bool X))] [] 0 [],Weak.of (by simp) trivial ⟨v2 h1,trivial⟩ trivial,rfl,rfl⟩,pre,[],stOf [(8,.val (.bool X))] [] 0 [],Weak.of (by simp) trivial ⟨v2 h1,trivial⟩ trivial,rfl,rfl⟩⟩
 ·cases e
end Go.Proofs
namespace Go.Proofs
open Go Go.Ex Go.Num
set_option maxRecDepth 100000
def c21:List PV→Option Ans
 |[.agg xs,.val v,.val u]=>some ⟨some (isRg 10000 xs∧isPk 10000 v∧isPk 10000 u),.val (.tuple ⟨[.bool (seeB (gLo xs) (gHi xs) (gK xs) (gC xs) (gL xs) (gO xs) (rdV v) (rdV u)),.int .i64 (okW (okB (gLo xs) (gHi xs) (gK xs) (gC xs) (gL xs) (gO xs) (segV (rdV v) (rdV u))))]⟩),[]⟩
 |_=>none
theorem ok21:funcOk {} Tryz.f21 3=true:=by kernel_rfl
theorem f21:FnOk Tryz.prog 21 c21:=by
 refine FnOk.ofW orders (mkE_ok (l:=[(55,c55),(56,c56)]) (own:=[]) (inl:=[]) (by simp [f55,f56]) (by simp)) Tryz.func21 {} 3 ok21 fun args r e=>?_
 unfold c21 at e
 split at e
 ·rename_i xs v u
  cases e
  refine⟨by simp,fun hm=>?_⟩
  obtain⟨⟨h1,⟨hlo,hhi⟩,hcl,hol⟩,⟨a,rfl,ha⟩,b,rfl,hb⟩:=hm _ rfl
  generalize gLo xs=lo at *
  generalize gHi xs=hi at *
  generalize gK xs=k at *
  generalize gC xs=c at *
  generalize gL xs=l at *
  generalize gO xs=o at *
  subst h1
  clear hm
  refine⟨[],stOf [(0,.agg (regC lo hi k c l o)),(1,.val a.v),(2,.val b.v)] [] 0 [],Weak.of (by simp) trivial ⟨⟨rfl,rfl,rfl,rfl,rfl,rfl,rfl,rfl,rfl,rfl,rfl,rfl,⟨rfl,rfl,fun _ _=>rfl⟩,⟨rfl,rfl,fun _ _=>rfl⟩,trivial⟩,rfl,rfl,trivial⟩ trivial,?_⟩
  have hrg:((lo.le 4294967296∧hi.le 4294967296)∧isCL 10000 k c∧isOL l o):=⟨⟨hlo.mono (by decide),hhi.mono (by decide)⟩,hcl,hol⟩
  have hrg2:((lo.le 10000∧hi.le 10000)∧isCL 10000 k c∧isOL l o):=⟨⟨hlo,hhi⟩,hcl,hol⟩
  have ha':=ha.mono (show 10000≤4294967296 by decide)
  have hb':=hb.mono (show 10000≤4294967296 by decide)
  obtain⟨S,hS⟩:∃S,S=seeB lo hi k c l o a b:=⟨_,rfl⟩
  have hv:seeB lo hi k c l o (rdV a.v) (rdV b.v)=S:=hS.symm
  rw [hv]
  obtain⟨OK,hOK⟩:∃OK,OK=okB lo hi k c l o (segV a b):=⟨_,rfl⟩
  have hw:okB lo hi k c l o (segV (rdV a.v) (rdV b.v))=OK:=hOK.symm
  rw [hw]
  have cn:∀r:Nat→List PV,pts r 0=a→pts r 1=b→anyP (fun i=>!canonP (pts r i)) 2=(!canonP a||!canonP b):=fun r h h'=>by
   have e:List.range 2=[0,1]:=rfl
   simp only [anyP,e,List.any_cons,List.any_nil,Bool.or_false,h,h']
  have p2:∀r:Nat→List PV,r 0=a.cells→r 1=b.cells→isPL 4294967296 2 r:=fun r h h'=>⟨fun i hi=>by
   match i,hi with
   |0,_=>exact⟨by rw [pts,h];rfl,by rw [pts,h];exact ha'⟩
   |1,_=>exact⟨by rw [pts,h'];rfl,by rw [pts,h'];exact hb'⟩
   |i+2,h=>omega,by decide⟩
  have q1:∀r:Nat→List PV,pts r 0=a→pts r 1=b→((regE lo hi k (pn (fun i=>[.rs 6 (pn c i) (pg c i)])) (fun i=>pts (pg (fun i=>[.rs 6 (pn c i) (pg c i)]) i)) l (ow (fun i=>cellsO (ow o i)))==0)&&!anyP (fun i=>!canonP (pts r i)) 2)=OK:=fun r h h'=>by
   rw [cn r h h',hOK,Bool.and_comm]
   rfl
  have z:∀B:Bool,(okW B != 0)=true→B=false:=fun B h=>by cases B<;>first|rfl|cases h
  have z':∀B:Bool,(okW B != 0)=false→B=true:=fun B h=>by cases B<;>first|rfl|cases h
  have s0:OK=false→S=false:=fun h=>by
   rw [hS,seeB,←hOK,h]
   rfl
  have hrg':((lo.le 4294967296∧hi.le 4294967296)∧isCL 10000 k (fun i=>[.rs 6 (pn c i) (pg c i)])∧isOL l (fun i=>cellsO (ow o i))):=⟨hrg.1,⟨fun i hi=>⟨rfl,(hcl.1 i hi).2⟩,hcl.2⟩,fun _ _=>rfl,hol.2⟩
  have hrg3:((lo.le 10000∧hi.le 10000)∧isCL 10000 k (fun i=>[.rs 6 (pn c i) (pg c i)])∧isOL l (fun i=>cellsO (ow o i))):=⟨hrg2.1,hrg'.2⟩
  have v5:PV.val (.bool (seeB lo hi k (fun i=>[.rs 6 (pn c i) (pg c i)]) l (fun i=>cellsO (ow o i)) (rdV a.v) (rdV b.v)))=PV.val (.bool S):=by
   rw [hS]
   rfl
  with_unfolding_all refine⟨⟨hrg',p2 _ rfl rfl⟩,fun h1=>?_,fun h1=>?_⟩
  ·have h2:OK=false:=(q1 _ rfl rfl).symm.trans (z _ h1)
   have v1:PV.val (.bool false)=PV.val (.bool S):=by rw [s0 h2]
   have v2:∀B,B=OK→PV.val (.int .i64 (okW B))=PV.val (.int .i64 (okW OK)):=fun B h=>by rw [h]
   with_unfolding_all exact⟨[],stOf [(6,.val (.bool S)),(7,.val (.int .i64 (okW OK)))] [] 0 [],Weak.of (by simp) trivial ⟨v1,v2 _ (q1 _ rfl rfl),trivial⟩ trivial,rfl,rfl⟩
  ·have h2:OK=true:=(q1 _ rfl rfl).symm.trans (z' _ h1)
   have v3:PV.val (.int .i64 0)=PV.val (.int .i64 (okW OK)):=by rw [h2];rfl
   with_unfolding_all exact⟨⟨hrg3,⟨a,rfl,ha⟩,b,rfl,hb⟩,[],stOf [(6,.val (.bool S)),(7,.val (.int .i64 (okW OK)))] [] 0 [],Weak.of (by simp) trivial ⟨v5,v3,trivial⟩ trivial,rfl,rfl⟩
 ·cases e
end Go.Proofs
namespace Go.Num
open Go Go.Ex Go.Proofs
def qL (L:List (Int×Int)) (i:Nat):Int×Int:=(L[i]?).getD (0,0)
theorem apd_q {L:List (Int×Int)} {x:Int×Int} {r:Nat→List PV} (h:r 0=cellsQ x):∀i,i < L.length+1→cellsQ (qL (L++[x]) i)=apd L.length (fun i=>cellsQ (qL L i)) r i:=fun i hi=>by
 unfold apd qL
 by_cases hl:i < L.length
 ·rw [if_pos hl,List.getElem?_append_left hl]
 ·obtain rfl:i=L.length:=by omega
  rw [if_neg hl,Nat.sub_self,h]
  simp
def tgtL (T:Int→Int→Bool) (q:Nat→Int×Int):Nat→List (Int×Int)
 |0=>[]
 |j+1=>tgtL T q j++(bif T (q j).1 (q j).2&&T (q j).2 (q j).1 then [q j] else [])
theorem tgtL_le (T:Int→Int→Bool) (q:Nat→Int×Int):∀j,(tgtL T q j).length≤j
 |0=>Nat.le_refl _
 |j+1=>by
  have:=tgtL_le T q j
  unfold tgtL
  rw [List.length_append]
  cases (T (q j).1 (q j).2&&T (q j).2 (q j).1)<;>simp<;>omega
def okT (lo hi:PtS) (k:Nat) (c:Nat→List PV) (l:Nat) (o:Nat→List PV) (n:Nat) (g:Nat→List PV) (m:Nat) (h:Nat→List PV):Bool:=(regE lo hi k (pn c) (fun i=>pts (pg c i)) l (ow o)==0)&&okMap n (pts g) m (prs h)
def tgtR (lo hi:PtS) (k:Nat) (c:Nat→List PV) (l:Nat) (o:Nat→List PV) (n:Nat) (g:Nat→List PV) (m:Nat) (h:Nat→List PV):List (Int×Int):=bif okT lo hi k c l o n g m h then tgtL (tightE k c (pts g)) (prs h) m else []
theorem links_at {n m:Nat} {q:Nat→Int×Int} (h:okLinks n q m=true) {i:Nat} (hi:i < m):0≤(q i).1∧(q i).1 < (q i).2∧(q i).2 < (n:Int)∧(0 < i→lessQ (q (i - 1)) (q i)=true):=by
 unfold okLinks at h
 have h0:anyP (badL n q) m=false:=by simpa using h
 have h1:=(anyP_false.1 h0) i hi
 unfold badL at h1
 simp only [Bool.or_eq_false_iff,decide_eq_false_iff_not,Bool.and_eq_false_iff,Bool.not_eq_false'] at h1
 exact⟨by omega,by omega,by omega,fun hi=>by
  rcases h1.2 with h|h
  ·omega
  ·exact h⟩
theorem links_le {n m:Nat} {q:Nat→Int×Int} (h:okLinks n q m=true):m≤n*n:=by
 have key:∀i,i < m→(i:Int)≤(q i).1*n+(q i).2:=fun i=>by
  induction i with
  |zero =>
   intro hi
   have:=links_at h hi
   have h2:=Int.mul_nonneg this.1 (Int.natCast_nonneg n)
   omega
  |succ i ih =>
   intro hi
   have h1:=links_at h hi
   have h2:=links_at h (show i < m by omega)
   have h3:=ih (by omega)
   have h4:=h1.2.2.2 (by omega)
   rw [Nat.add_sub_cancel] at h4
   unfold lessQ at h4
   simp only [Bool.or_eq_true,Bool.and_eq_true,decide_eq_true_eq] at h4
   rcases h4 with h4|⟨h4,h5⟩
   ·have h6:=Int.mul_le_mul_of_nonneg_right (show(q i).1+1≤(q (i+1)).1 by omega) (Int.natCast_nonneg n)
    rw [Int.add_mul,Int.one_mul] at h6
    omega
   ·rw [←h4]
    omega
 rcases Nat.eq_zero_or_pos m with h0|h0
 ·omega
 ·have h1:=links_at h (show m - 1 < m by omega)
  have h2:=key (m - 1) (by omega)
  have h3:=Int.mul_le_mul_of_nonneg_right (show(q (m - 1)).1≤(n:Int) - 1 by omega) (Int.natCast_nonneg n)
  rw [Int.sub_mul,Int.one_mul] at h3
  have h4:(m:Int)≤(n:Int)*n:=by omega
  exact_mod_cast h4
end Go.Num
namespace Go.Proofs
open Go Go.Ex Go.Num
set_option maxRecDepth 100000
theorem nil_ans {f:FuncId} {p:PV} {r:Ans} (h:Answers Tryz.prog f [p,.rs 6 0 fun _=>[]] r):Answers Tryz.prog f [p,.val (.slice none 0 0)] r:=by
 refine⟨h.1,fun hm A w vs hA hl hR=>h.2 hm A w vs hA hl fun i q v e1 e2=>?_⟩
 match i with
 |0=>exact hR 0 q v e1 e2
 |1 =>
  cases e1
  have:=hR 1 _ v rfl e2
  cases this
  exact .rs _ _ _ _ _ (fun _ _=>undef) (fun i hi=>absurd hi (Nat.not_lt_zero i)) (Nat.le_refl _) (Nat.zero_le _) (fun i f p hi=>absurd hi (Nat.not_lt_zero i)) (fun i f p hi=>absurd hi (Nat.not_lt_zero i))
 |i+2=>simp at e1
def c55n:List PV→Option Ans
 |[p,.val (.slice none 0 0)]=>c55 [p,.rs 6 0 fun _=>[]]
 |_=>none
theorem f55n:FnOk Tryz.prog 55 c55n:=fun args r e=>by
 unfold c55n at e
 split at e
 ·exact nil_ans (f55 _ r e)
 ·cases e
def c18:List PV→Option Ans
 |[.agg xs,.agg [.rs 6 n g,.rs 2 m h]]=>some ⟨some (isRg 10000 xs∧isPL 10000 n g∧isQL m h),.tup [.rs 2 (tgtR (gLo xs) (gHi xs) (gK xs) (gC xs) (gL xs) (gO xs) n g m h).length (fun i=>cellsQ (qL (tgtR (gLo xs) (gHi xs) (gK xs) (gC xs) (gL xs) (gO xs) n g m h) i)),.val (.int .i64 (okW (okT (gLo xs) (gHi xs) (gK xs) (gC xs) (gL xs) (gO xs) n g m h)))],[]⟩
 |_=>none
theorem ok18:funcOk {} Tryz.f18 2=true:=by kernel_rfl
theorem f18:FnOk Tryz.prog 18 c18:=by
 refine FnOk.ofW orders (mkE_ok (l:=[(55,c55n),(68,c68),(69,c69)]) (own:=[]) (inl:=[]) (by simp [f55n,f68,f69]) (by simp)) Tryz.func18 {} 2 ok18 fun args r e=>?_
 unfold c18 at e
 split at e
 ·rename_i xs n g m h
  cases e
  refine⟨by simp,fun hm=>?_⟩
  obtain⟨⟨h1,⟨hlo,hhi⟩,hcl,hol⟩,hg,hq⟩:=hm _ rfl
  generalize gLo xs=lo at *
  generalize gHi xs=hi at *
  generalize gK xs=k at *
  generalize gC xs=c at *
  generalize gL xs=l at *
  generalize gO xs=o at *
  subst h1
  clear hm
  refine⟨[],stOf [(0,.agg (regC lo hi k c l o)),(1,.agg [.rs 6 n g,.rs 2 m (fun i=>cellsQ (prs h i))])] [] 0 [],Weak.of (by simp) trivial ⟨⟨rfl,rfl,rfl,rfl,rfl,rfl,rfl,rfl,rfl,rfl,rfl,rfl,⟨rfl,rfl,fun _ _=>rfl⟩,⟨rfl,rfl,fun _ _=>rfl⟩,trivial⟩,⟨⟨rfl,rfl,fun _ _=>rfl⟩,⟨rfl,rfl,fun i hi=>(hq.1 i hi).symm⟩,trivial⟩,trivial⟩ trivial,?_⟩
  have hrg:((lo.le 4294967296∧hi.le 4294967296)∧isCL 10000 k c∧isOL l o):=⟨⟨hlo.mono (by decide),hhi.mono (by decide)⟩,hcl,hol⟩
  have hg':isPL 4294967296 n g:=⟨fun i hi=>⟨(hg.1 i hi).1,(hg.1 i hi).2.mono (by decide)⟩,hg.2⟩
  have hqm:=hq.2
  generalize hqq:prs h=q at *
  have hql:isQL m (fun i=>cellsQ (q i)):=⟨fun _ _=>rfl,hqm⟩
  obtain⟨T,hT⟩:∃T,T=tightE k c (pts g):=⟨_,rfl⟩
  obtain⟨OK,hOK⟩:∃OK,OK=okT lo hi k c l o n g m h:=⟨_,rfl⟩
  obtain⟨TR,hTR⟩:∃TR,TR=tgtR lo hi k c l o n g m h:=⟨_,rfl⟩
  rw [←hTR,←hOK]
  have e1:TR=bif OK then tgtL T q m else []:=by rw [hTR,tgtR,←hOK,←hT,hqq]
  have e2:OK=((regE lo hi k (pn c) (fun i=>pts (pg c i)) l (ow o)==0)&&okMap n (pts g) m q):=by rw [hOK,okT,hqq]
  have b0:OK=false→TR.length=0:=fun h=>by rw [e1,h];rfl
  have b1:OK=false→PV.val (.int .i64 1)=PV.val (.int .i64 (okW OK)):=fun h=>by rw [h];rfl
  have q1:((regE lo hi k (pn (fun i=>[.rs 6 (pn c i) (pg c i)])) (fun i=>pts (pg (fun i=>[.rs 6 (pn c i) (pg c i)]) i)) l (ow (fun i=>cellsO (ow o i)))==0)&&!anyP (fun i=>!canonP (pts (fun _=>[]) i)) 0)=(regE lo hi k (pn c) (fun i=>pts (pg c i)) l (ow o)==0):=Bool.and_true _
  have z:∀B:Bool,(okW B != 0)=true→B=false:=fun B h=>by cases B<;>first|rfl|cases h
  have z':∀B:Bool,(okW B != 0)=false→B=true:=fun B h=>by cases B<;>first|rfl|cases h
  have f1:(okW ((regE lo hi k (pn (fun i=>[.rs 6 (pn c i) (pg c i)])) (fun i=>pts (pg (fun i=>[.rs 6 (pn c i) (pg c i)]) i)) l (ow (fun i=>cellsO (ow o i)))==0)&&!anyP (fun i=>!canonP (pts (fun _=>[]) i)) 0) != 0)=true→OK=false:=fun h=>by
   have:=q1.symm.trans (z _ h)
   rw [e2,this]
   rfl
  have f2:(!okMap n (pts g) m (prs fun i=>cellsQ (q i)))=true→OK=false:=fun h=>by
   have h:okMap n (pts g) m q=false:=by
    have h:(!okMap n (pts g) m q)=true:=h
    simpa using h
   rw [e2,h,Bool.and_false]
  have f3:(okW ((regE lo hi k (pn (fun i=>[.rs 6 (pn c i) (pg c i)])) (fun i=>pts (pg (fun i=>[.rs 6 (pn c i) (pg c i)]) i)) l (ow (fun i=>cellsO (ow o i)))==0)&&!anyP (fun i=>!canonP (pts (fun _=>[]) i)) 0) != 0)=false→(!okMap n (pts g) m (prs fun i=>cellsQ (q i)))=false→OK=true∧okMap n (pts g) m q=true:=fun h h'=>by
   have h1:=q1.symm.trans (z' _ h)
   have h2:okMap n (pts g) m q=true:=by
    have h:(!okMap n (pts g) m q)=false:=h'
    simpa using h
   exact⟨by rw [e2,h1,h2];rfl,h2⟩
  have hcl':isCL 10000 k (fun i=>[.rs 6 (pn c i) (pg c i)]):=⟨fun i hi=>⟨rfl,(hcl.1 i hi).2⟩,hcl.2⟩
  have hol':isOL l (fun i=>cellsO (ow o i)):=⟨fun _ _=>rfl,hol.2⟩
  have hrg':((lo.le 4294967296∧hi.le 4294967296)∧isCL 10000 k (fun i=>[.rs 6 (pn c i) (pg c i)])∧isOL l (fun i=>cellsO (ow o i))):=⟨hrg.1,hcl',hol'⟩
  have p0:isPL 4294967296 0 fun _=>[]:=⟨fun i hi=>absurd hi (Nat.not_lt_zero i),Nat.zero_le _⟩
  with_unfolding_all refine⟨⟨hrg',p0⟩,fun h1=>⟨⟨hg',hql⟩,fun h2=>⟨[],stOf [(4,.rs 2 TR.length (fun i=>cellsQ (qL TR i))),(5,.val (.int .i64 (okW OK)))] [] 0 [],Weak.of (by simp) trivial ⟨⟨rfl,b0 (f2 h2)⟩,b1 (f2 h2),trivial⟩ trivial,rfl,rfl⟩,fun h2=>⟨Nat,fun i=>(OK=true∧okMap n (pts g) m q=true)∧i≤m,fun i=>stOf [(2,.ptr 0 0 0 0),(3,.ptr 1 1 0 0),(6,.sl 2 2 0 (tgtL T q i).length),(18,.rs 2 m (fun i=>cellsQ (q i))),(19,.val (goInt m)),(20,.val (goInt i))] [⟨31,14,0,true,false,1,fun _=>regC lo hi k c l o⟩,⟨37,2,1,true,false,1,fun _=>[.rs 6 n g,.rs 2 m (fun i=>cellsQ (q i))]⟩,⟨46,2,2,false,false,(tgtL T q i).length,fun j=>cellsQ (qL (tgtL T q i) j)⟩] 3 [],fun i=>m - i,⟨0,[some 0,some 1,none],⟨f3 h1 h2,Nat.zero_le _⟩,Weak.of (by simp) ⟨⟨lt_ok rfl,rfl,rfl,rfl,rfl,rfl,⟨rfl,rfl⟩,⟨rfl,rfl⟩,⟨rfl,rfl⟩,⟨rfl,rfl⟩,⟨rfl,rfl⟩,⟨rfl,rfl⟩,⟨rfl,rfl⟩,⟨rfl,rfl⟩,⟨rfl,rfl⟩,⟨rfl,rfl⟩,⟨rfl,rfl⟩,⟨rfl,rfl⟩,⟨⟨rfl,rfl,fun _ _=>rfl⟩,rfl⟩,⟨⟨rfl,rfl,fun _ _=>rfl⟩,rfl⟩,trivial⟩,⟨lt_ok rfl,rfl,rfl,rfl,rfl,rfl,⟨⟨rfl,rfl,fun _ _=>rfl⟩,rfl⟩,⟨⟨rfl,rfl,fun _ _=>rfl⟩,rfl⟩,trivial⟩,⟨lt_ok rfl,rfl,rfl,rfl⟩,trivial⟩ ⟨⟨rfl,rfl,rfl,lt_ok rfl,_,rfl⟩,⟨rfl,rfl,rfl,lt_ok rfl,_,rfl⟩,⟨rfl,rfl,rfl,rfl,lt_ok rfl⟩,⟨rfl,rfl,fun _ _=>rfl⟩,rfl,rfl,trivial⟩ trivial⟩,fun i hi=>?_⟩⟩,fun h1=>⟨fun _=>⟨[],stOf [(4,.rs 2 TR.length (fun i=>cellsQ (qL TR i))),(5,.val (.int .i64 (okW OK)))] [] 0 [],Weak.of (by simp) trivial ⟨⟨rfl,b0 (f1 h1)⟩,b1 (f1 h1),trivial⟩ trivial,rfl,rfl⟩,fun h=>nomatch h⟩⟩
  obtain⟨⟨hk1,hk2⟩,him⟩:(OK=true∧okMap n (pts g) m q=true)∧i≤m:=hi
  with_unfolding_all refine⟨fun h1=>?_,fun h1=>?_⟩
  ·have h1:(i:Int) < m:=ltT h1
   have ei:(i:Int).toNat=i:=Int.toNat_natCast i
   have him:i+1≤m:=by omega
   have hμ : m - (i+1) < m - i:=by omega
   have hok:=hk2
   unfold okMap at hok
   rw [Bool.and_eq_true,Bool.and_eq_true] at hok
   have hn1:n≤1000:=of_decide_eq_true hok.1.1
   have hmm:=links_le hok.2
   have hnn:n*n≤1000*1000:=Nat.mul_le_mul hn1 hn1
   have hl:=links_at hok.2 (show i < m by omega)
   have hl1:0≤(q (i:Int).toNat).1∧(q (i:Int).toNat).1 < n:=by rw [ei];omega
   have hl2:0≤(q (i:Int).toNat).2∧(q (i:Int).toNat).2 < n:=by rw [ei];omega
   have htl:=tgtL_le T q i
   have wi:PV.val (.int .i64 (IntKind.i64.wrap ((i:Int)+1)))=PV.val (.int .i64 ((i+1:Nat):Int)):=by
    rw [wrap64 (by omega) (by omega)]
    rfl
   have pR:isRg 10000 (regC lo hi k c l o):=⟨rfl,⟨hlo,hhi⟩,hcl',hol'⟩
   have hT':∀x y,tightE k c (pts g) x y=T x y:=fun x y=>by rw [hT]
   have tt:∀x y b,tightE k (fun i=>[.rs 6 (pn c i) (pg c i)]) (pts g) x y=b→T x y=b:=fun x y b h=>(hT' x y).symm.trans h
   have e3:T (q i).1 (q i).2=true→T (q i).2 (q i).1=true→tgtL T q (i+1)=tgtL T q i++[q i]:=fun h h'=>by rw [tgtL,h,h'];rfl
   have e4:(T (q i).1 (q i).2&&T (q i).2 (q i).1)=false→tgtL T q (i+1)=tgtL T q i:=fun h=>by rw [tgtL,h];exact List.append_nil _
   have hn0:(T (q (i:Int).toNat).1 (q (i:Int).toNat).2&&T (q (i:Int).toNat).2 (q (i:Int).toNat).1)=false→(tgtL T q (i+1)).length=(tgtL T q i).length:=fun h=>by
    rw [ei] at h
    rw [e4 h]
   have hr0:(T (q (i:Int).toNat).1 (q (i:Int).toNat).2&&T (q (i:Int).toNat).2 (q (i:Int).toNat).1)=false→∀j,j < (tgtL T q i).length→cellsQ (qL (tgtL T q (i+1)) j)=cellsQ (qL (tgtL T q i) j):=fun h=>by
    rw [ei] at h
    rw [e4 h]
    exact fun _ _=>rfl
   have hnA:T (q (i:Int).toNat).1 (q (i:Int).toNat).2=true→T (q (i:Int).toNat).2 (q (i:Int).toNat).1=true→(tgtL T q (i+1)).length=(tgtL T q i).length+1:=fun h h'=>by
    rw [ei] at h h'
    rw [e3 h h',List.length_append]
    rfl
   have hr1:T (q (i:Int).toNat).1 (q (i:Int).toNat).2=true→T (q (i:Int).toNat).2 (q (i:Int).toNat).1=true→∀r:Nat→List PV,r 0=cellsQ (q (i:Int).toNat)→∀j,j < (tgtL T q i).length+1→cellsQ (qL (tgtL T q (i+1)) j)=apd (tgtL T q i).length (fun j=>cellsQ (qL (tgtL T q i) j)) r j:=fun h h' r hr=>by
    rw [ei] at h h' hr
    rw [e3 h h']
    exact apd_q hr
   have k1:((tgtL T q i).length+1)*16≤140737488355328:=by omega
   have k2:(tgtL T q i).length+1≤9223372036854775807:=by omega
   have n1:∀x y:Bool,y=false→(x&&y)=false:=fun x y h=>by rw [h,Bool.and_false]
   have n2:∀x y:Bool,x=false→(x&&y)=false:=fun x y h=>by rw [h];rfl
   with_unfolding_all exact⟨⟨Int.natCast_nonneg i,h1⟩,⟨pR,hg,hl1,hl2⟩,fun h2=>⟨⟨pR,hg,hl2,hl1⟩,fun h3=>⟨⟨rfl,k1,k2⟩,⟨i+1,[some 0,some 1,some 2],⟨⟨hk1,hk2⟩,him⟩,hμ,Weak.of (by simp) ⟨⟨lt_ok rfl,rfl,rfl,rfl,rfl,rfl,⟨rfl,rfl⟩,⟨rfl,rfl⟩,⟨rfl,rfl⟩,⟨rfl,rfl⟩,⟨rfl,rfl⟩,⟨rfl,rfl⟩,⟨rfl,rfl⟩,⟨rfl,rfl⟩,⟨rfl,rfl⟩,⟨rfl,rfl⟩,⟨rfl,rfl⟩,⟨rfl,rfl⟩,⟨⟨rfl,rfl,fun _ _=>rfl⟩,rfl⟩,⟨⟨rfl,rfl,fun _ _=>rfl⟩,rfl⟩,trivial⟩,⟨lt_ok rfl,rfl,rfl,rfl,rfl,rfl,⟨⟨rfl,rfl,fun _ _=>rfl⟩,rfl⟩,⟨⟨rfl,rfl,fun _ _=>rfl⟩,rfl⟩,trivial⟩,⟨lt_ok rfl,rfl,rfl,rfl,rfl,(hnA (tt _ _ _ h2) (tt _ _ _ h3)),hr1 (tt _ _ _ h2) (tt _ _ _ h3) _ rfl⟩,trivial⟩ ⟨⟨rfl,rfl,rfl,lt_ok rfl,_,rfl⟩,⟨rfl,rfl,rfl,lt_ok rfl,_,rfl⟩,⟨rfl,rfl,(hnA (tt _ _ _ h2) (tt _ _ _ h3)).symm,lt_ok rfl,_,rfl⟩,⟨rfl,rfl,fun _ _=>rfl⟩,rfl,wi,trivial⟩ trivial⟩⟩,fun h3=>⟨i+1,[some 0,some 1,some 2],⟨⟨hk1,hk2⟩,him⟩,hμ,Weak.of (by simp) ⟨⟨lt_ok rfl,rfl,rfl,rfl,rfl,rfl,⟨rfl,rfl⟩,⟨rfl,rfl⟩,⟨rfl,rfl⟩,⟨rfl,rfl⟩,⟨rfl,rfl⟩,⟨rfl,rfl⟩,⟨rfl,rfl⟩,⟨rfl,rfl⟩,⟨rfl,rfl⟩,⟨rfl,rfl⟩,⟨rfl,rfl⟩,⟨rfl,rfl⟩,⟨⟨rfl,rfl,fun _ _=>rfl⟩,rfl⟩,⟨⟨rfl,rfl,fun _ _=>rfl⟩,rfl⟩,trivial⟩,⟨lt_ok rfl,rfl,rfl,rfl,rfl,rfl,⟨⟨rfl,rfl,fun _ _=>rfl⟩,rfl⟩,⟨⟨rfl,rfl,fun _ _=>rfl⟩,rfl⟩,trivial⟩,⟨lt_ok rfl,rfl,rfl,rfl,rfl,(hn0 (n1 _ _ (tt _ _ _ h3))),hr0 (n1 _ _ (tt _ _ _ h3))⟩,trivial⟩ ⟨⟨rfl,rfl,rfl,lt_ok rfl,_,rfl⟩,⟨rfl,rfl,rfl,lt_ok rfl,_,rfl⟩,⟨rfl,rfl,(hn0 (n1 _ _ (tt _ _ _ h3))).symm,lt_ok rfl,_,rfl⟩,⟨rfl,rfl,fun _ _=>rfl⟩,rfl,wi,trivial⟩ trivial⟩⟩,fun h2=>⟨fun h=>(nomatch h),fun _=>⟨i+1,[some 0,some 1,some 2],⟨⟨hk1,hk2⟩,him⟩,hμ,Weak.of (by simp) ⟨⟨lt_ok rfl,rfl,rfl,rfl,rfl,rfl,⟨rfl,rfl⟩,⟨rfl,rfl⟩,⟨rfl,rfl⟩,⟨rfl,rfl⟩,⟨rfl,rfl⟩,⟨rfl,rfl⟩,⟨rfl,rfl⟩,⟨rfl,rfl⟩,⟨rfl,rfl⟩,⟨rfl,rfl⟩,⟨rfl,rfl⟩,⟨rfl,rfl⟩,⟨⟨rfl,rfl,fun _ _=>rfl⟩,rfl⟩,⟨⟨rfl,rfl,fun _ _=>rfl⟩,rfl⟩,trivial⟩,⟨lt_ok rfl,rfl,rfl,rfl,rfl,rfl,⟨⟨rfl,rfl,fun _ _=>rfl⟩,rfl⟩,⟨⟨rfl,rfl,fun _ _=>rfl⟩,rfl⟩,trivial⟩,⟨lt_ok rfl,rfl,rfl,rfl,rfl,(hn0 (n2 _ _ (tt _ _ _ h2))),hr0 (n2 _ _ (tt _ _ _ h2))⟩,trivial⟩ ⟨⟨rfl,rfl,rfl,lt_ok rfl,_,rfl⟩,⟨rfl,rfl,rfl,lt_ok rfl,_,rfl⟩,⟨rfl,rfl,(hn0 (n2 _ _ (tt _ _ _ h2))).symm,lt_ok rfl,_,rfl⟩,⟨rfl,rfl,fun _ _=>rfl⟩,rfl,wi,trivial⟩ trivial⟩⟩⟩
  ·have h1:(m:Int)≤i:=ltF h1
   have h3:tgtL T q i=TR:=by
    rw [show i=m by omega,e1,hk1]
    rfl
   have v2:PV.val (.int .i64 0)=PV.val (.int .i64 (okW OK)):=by rw [hk1];rfl
   have v3:∀j,j < TR.length→cellsQ (qL TR j)=cellsQ (qL (tgtL T q i) (0+j)):=fun j _=>by rw [h3,Nat.zero_add]
   with_unfolding_all exact⟨[],stOf [(4,.rs 2 TR.length (fun i=>cellsQ (qL TR i))),(5,.val (.int .i64 (okW OK)))] [] 0 [],Weak.of (by simp) trivial ⟨⟨by simp,_,rfl,rfl,rfl,congrArg List.length h3,v3⟩,v2,trivial⟩ trivial,rfl,rfl⟩
 ·cases e
end Go.Proofs
namespace Go.Num
open Go Go.Ex Go.Proofs
def keepL (p q:PtS) (C:Nat→PtS):Nat→List PtS
 |0=>[p,q]
 |j+1=>keepL p q C j++(bif !eqP (C j) p&&!eqP (C j) q then [C j] else [])
def lnkJ (S:PtS→PtS→Bool) (P:Nat→PtS) (i:Nat):Nat→List (Int×Int)
 |0=>[]
 |d+1=>lnkJ S P i d++(bif S (P i) (P (i+1+d)) then [((i:Int),((i+1+d:Nat):Int))] else [])
def lnkI (S:PtS→PtS→Bool) (P:Nat→PtS) (n:Nat):Nat→List (Int×Int)
 |0=>[]
 |i+1=>lnkI S P n i++lnkJ S P i (n - (i+1))
theorem apd_p {L:List PtS} {x:PtS} {r:Nat→List PV} (h:r 0=x.cells):∀i,i < L.length+1→(vertP (L++[x]) i).cells=apd L.length (fun i=>(vertP L i).cells) r i:=fun i hi=>by
 unfold apd vertP
 by_cases hl:i < L.length
 ·rw [if_pos hl,List.getElem?_append_left hl]
 ·obtain rfl:i=L.length:=by omega
  rw [if_neg hl,Nat.sub_self,h]
  simp
theorem keepL_le (p q:PtS) (C:Nat→PtS):∀j,2≤(keepL p q C j).length∧(keepL p q C j).length≤j+2
 |0=>⟨Nat.le_refl _,Nat.le_refl _⟩
 |j+1=>by
  have:=keepL_le p q C j
  unfold keepL
  rw [List.length_append]
  cases (!eqP (C j) p&&!eqP (C j) q)<;>simp<;>omega
theorem keepL_all {p q:PtS} {C:Nat→PtS} (hp:p.le 10000) (hq:q.le 10000):∀{j:Nat},(∀i,i < j→(C i).le 10000)→∀x∈keepL p q C j,x.le 10000
 |0,_,x,hx=>by
  rcases List.mem_cons.1 hx with rfl|hx
  ·exact hp
  ·rw [List.mem_singleton.1 hx]
   exact hq
 |j+1,hC,x,hx=>by
  unfold keepL at hx
  rcases List.mem_append.1 hx with hx|hx
  ·exact keepL_all hp hq (fun i hi=>hC i (by omega)) x hx
  ·cases hb:(!eqP (C j) p&&!eqP (C j) q) with
   |true =>
    rw [hb] at hx
    rw [List.mem_singleton.1 hx]
    exact hC j (by omega)
   |false=>rw [hb] at hx;cases hx
theorem lnkJ_le (S:PtS→PtS→Bool) (P:Nat→PtS) (i:Nat):∀d,(lnkJ S P i d).length≤d
 |0=>Nat.le_refl _
 |d+1=>by
  have:=lnkJ_le S P i d
  unfold lnkJ
  rw [List.length_append]
  cases S (P i) (P (i+1+d))<;>simp<;>omega
theorem lnkI_le (S:PtS→PtS→Bool) (P:Nat→PtS) (n:Nat):∀i,(lnkI S P n i).length≤i*n
 |0=>Nat.zero_le _
 |i+1=>by
  have:=lnkI_le S P n i
  have h2:=lnkJ_le S P i (n - (i+1))
  unfold lnkI
  rw [List.length_append,Nat.succ_mul]
  omega
def bErr (lo hi:PtS) (k:Nat) (c:Nat→List PV) (l:Nat) (o:Nat→List PV) (p q:PtS):Int:=bif okB lo hi k c l o (segV p q) then bif seeB lo hi k c l o p p&&seeB lo hi k c l o q q then bif eqP p q then 12 else 0 else 16 else 1
def bPts (lo hi:PtS) (k:Nat) (c:Nat→List PV) (l:Nat) (o:Nat→List PV) (p q:PtS):List PtS:=bif bErr lo hi k c l o p q==0 then keepL p q (cornP lo hi k c l o) (vertC lo hi k c l o).length else []
def bLks (lo hi:PtS) (k:Nat) (c:Nat→List PV) (l:Nat) (o:Nat→List PV) (p q:PtS):List (Int×Int):=lnkI (seeB lo hi k c l o) (vertP (bPts lo hi k c l o p q)) (bPts lo hi k c l o p q).length (bPts lo hi k c l o p q).length
end Go.Num
namespace Go.Proofs
open Go Go.Ex Go.Num
set_option maxRecDepth 100000
def c14:List PV→Option Ans
 |[.agg xs,.val v,.val u]=>some ⟨some ((isRg 10000 xs∧isPk 10000 v∧isPk 10000 u)∧(vertC (gLo xs) (gHi xs) (gK xs) (gC xs) (gL xs) (gO xs)).length≤12∧∀i,i+1 < (vertC (gLo xs) (gHi xs) (gK xs) (gC xs) (gL xs) (gO xs)).length→eqP (cornP (gLo xs) (gHi xs) (gK xs) (gC xs) (gL xs) (gO xs) (i+1)) (cornP (gLo xs) (gHi xs) (gK xs) (gC xs) (gL xs) (gO xs) i)=false),
  .tup [.agg [.rs 6 (bPts (gLo xs) (gHi xs) (gK xs) (gC xs) (gL xs) (gO xs) (rdV v) (rdV u)).length (fun i=>(vertP (bPts (gLo xs) (gHi xs) (gK xs) (gC xs) (gL xs) (gO xs) (rdV v) (rdV u)) i).cells),.rs 2 (bLks (gLo xs) (gHi xs) (gK xs) (gC xs) (gL xs) (gO xs) (rdV v) (rdV u)).length (fun i=>cellsQ (qL (bLks (gLo xs) (gHi xs) (gK xs) (gC xs) (gL xs) (gO xs) (rdV v) (rdV u)) i))],.val (.int .i64 (bErr (gLo xs) (gHi xs) (gK xs) (gC xs) (gL xs) (gO xs) (rdV v) (rdV u)))],[]⟩
 |_=>none
def D14:Opt:={ perm:=atR 21 (rds 7) }
theorem ok14:funcOk D14.toOrd Tryz.f14 3=true:=by kernel_rfl
theorem f14:FnOk Tryz.prog 14 c14:=by
 refine FnOk.ofW orders (mkE_ok (l:=[(55,c55),(56,c56),(57,c57)]) (own:=[]) (inl:=[]) (by simp [f55,f56,f57]) (by simp)) Tryz.func14 D14 3 ok14 fun args r e=>?_
 unfold c14 at e
 split at e
 ·rename_i xs v u
  cases e
  refine⟨by simp,fun hm=>?_⟩
  obtain⟨⟨⟨h1,⟨hlo,hhi⟩,hcl,hol⟩,⟨a,rfl,ha⟩,b,rfl,hb⟩,hN,hne⟩:=hm _ rfl
  generalize gLo xs=lo at *
  generalize gHi xs=hi at *
  generalize gK xs=k at *
  generalize gC xs=c at *
  generalize gL xs=l at *
  generalize gO xs=o at *
  subst h1
  clear hm
  refine⟨[],stOf [(0,.agg (regC lo hi k c l o)),(1,.val a.v),(2,.val b.v)] [] 0 [],Weak.of (by simp) trivial ⟨⟨rfl,rfl,rfl,rfl,rfl,rfl,rfl,rfl,rfl,rfl,rfl,rfl,⟨rfl,rfl,fun _ _=>rfl⟩,⟨rfl,rfl,fun _ _=>rfl⟩,trivial⟩,rfl,rfl,trivial⟩ trivial,?_⟩
  have ha':=ha.mono (show 10000≤4294967296 by decide)
  have hb':=hb.mono (show 10000≤4294967296 by decide)
  have hcl':isCL 10000 k (fun i=>[.rs 6 (pn c i) (pg c i)]):=⟨fun i hi=>⟨rfl,(hcl.1 i hi).2⟩,hcl.2⟩
  have hol':isOL l (fun i=>cellsO (ow o i)):=⟨fun _ _=>rfl,hol.2⟩
  have hrg':((lo.le 4294967296∧hi.le 4294967296)∧isCL 10000 k (fun i=>[.rs 6 (pn c i) (pg c i)])∧isOL l (fun i=>cellsO (ow o i))):=⟨⟨hlo.mono (by decide),hhi.mono (by decide)⟩,hcl',hol'⟩
  have hrg3:((lo.le 10000∧hi.le 10000)∧isCL 10000 k (fun i=>[.rs 6 (pn c i) (pg c i)])∧isOL l (fun i=>cellsO (ow o i))):=⟨⟨hlo,hhi⟩,hcl',hol'⟩
  obtain⟨OK,hOK⟩:∃OK,OK=okB lo hi k c l o (segV a b):=⟨_,rfl⟩
  obtain⟨S,hS⟩:∃S,S=seeB lo hi k c l o:=⟨_,rfl⟩
  have hSN:seeB lo hi k (fun i=>[.rs 6 (pn c i) (pg c i)]) l (fun i=>cellsO (ow o i))=S:=by
   rw [hS]
   rfl
  obtain⟨C,hC⟩:∃C,C=cornP lo hi k c l o:=⟨_,rfl⟩
  have hCN:cornP lo hi k (fun i=>[.rs 6 (pn c i) (pg c i)]) l (fun i=>cellsO (ow o i))=C:=by
   rw [hC]
   rfl
  obtain⟨N,hNN⟩:∃N,N=(vertC lo hi k c l o).length:=⟨_,rfl⟩
  have hNNN:(vertC lo hi k (fun i=>[.rs 6 (pn c i) (pg c i)]) l (fun i=>cellsO (ow o i))).length=N:=by
   rw [hNN]
   rfl
  obtain⟨BE,hBE⟩:∃BE,BE=bErr lo hi k c l o a b:=⟨_,rfl⟩
  obtain⟨BP,hBP⟩:∃BP,BP=bPts lo hi k c l o a b:=⟨_,rfl⟩
  obtain⟨BL,hBL⟩:∃BL,BL=bLks lo hi k c l o a b:=⟨_,rfl⟩
  show vcW _ _ _ _ _ ⟨_,.tup [.agg [.rs 6 (bPts lo hi k c l o a b).length (fun i=>(vertP (bPts lo hi k c l o a b) i).cells),.rs 2 (bLks lo hi k c l o a b).length (fun i=>cellsQ (qL (bLks lo hi k c l o a b) i))],.val (.int .i64 (bErr lo hi k c l o a b))],[]⟩
  rw [←hBE,←hBP,←hBL]
  have e0:BE=bif OK then bif S a a&&S b b then bif eqP a b then 12 else 0 else 16 else 1:=by rw [hBE,bErr,←hOK,←hS]
  have e1:BP=bif BE==0 then keepL a b C N else []:=by rw [hBP,bPts,←hBE,←hC,←hNN]
  have e2:BL=lnkI S (vertP BP) BP.length BP.length:=by rw [hBL,bLks,←hBP,←hS]
  rw [←hNN] at hN
  rw [←hNN,←hC] at hne
  have cn:∀r:Nat→List PV,pts r 0=a→pts r 1=b→anyP (fun i=>!canonP (pts r i)) 2=(!canonP a||!canonP b):=fun r h h'=>by
   have e:List.range 2=[0,1]:=rfl
   simp only [anyP,e,List.any_cons,List.any_nil,Bool.or_false,h,h']
  have p2:∀r:Nat→List PV,r 0=a.cells→r 1=b.cells→isPL 4294967296 2 r:=fun r h h'=>⟨fun i hi=>by
   match i,hi with
   |0,_=>exact⟨by rw [pts,h];rfl,by rw [pts,h];exact ha'⟩
   |1,_=>exact⟨by rw [pts,h'];rfl,by rw [pts,h'];exact hb'⟩
   |i+2,h=>omega,by decide⟩
  have q1:∀r:Nat→List PV,pts r 0=a→pts r 1=b→((regE lo hi k (pn (fun i=>[.rs 6 (pn c i) (pg c i)])) (fun i=>pts (pg (fun i=>[.rs 6 (pn c i) (pg c i)]) i)) l (ow (fun i=>cellsO (ow o i)))==0)&&!anyP (fun i=>!canonP (pts r i)) 2)=OK:=fun r h h'=>by
   rw [cn r h h',hOK,Bool.and_comm]
   rfl
  have z:∀B:Bool,(okW B != 0)=true→B=false:=fun B h=>by cases B<;>first|rfl|cases h
  have z':∀B:Bool,(okW B != 0)=false→B=true:=fun B h=>by cases B<;>first|rfl|cases h
  have bad:BE≠0→BP.length=0∧BL.length=0:=fun h=>by
   have h0:(BE==0)=false:=by simpa using h
   have h1:BP=[]:=by rw [e1,h0];rfl
   exact⟨by rw [h1];rfl,by rw [e2,h1];rfl⟩
  have sA:∀B,B=S→∀x y,B x y=S x y:=fun B h x y=>by rw [h]
  have neq:∀B:Bool,(!B)=true→B=false:=fun B h=>by simpa using h
  have neq':∀B:Bool,(!B)=false→B=true:=fun B h=>by simpa using h
  have h57:(((lo.le 10000∧hi.le 10000)∧isCL 10000 k (fun i=>[.rs 6 (pn c i) (pg c i)])∧isOL l (fun i=>cellsO (ow o i)))∧(vertC lo hi k (fun i=>[.rs 6 (pn c i) (pg c i)]) l (fun i=>cellsO (ow o i))).length≤12)∧∀i,i+1 < (vertC lo hi k (fun i=>[.rs 6 (pn c i) (pg c i)]) l (fun i=>cellsO (ow o i))).length→eqP (cornP lo hi k (fun i=>[.rs 6 (pn c i) (pg c i)]) l (fun i=>cellsO (ow o i)) (i+1)) (cornP lo hi k (fun i=>[.rs 6 (pn c i) (pg c i)]) l (fun i=>cellsO (ow o i)) i)=false:=by
   rw [hNNN,hCN]
   exact⟨⟨hrg3,hN⟩,hne⟩
  have hrow:∀i,i < N→(C i).cells=(cornP lo hi k (fun i=>[.rs 6 (pn c i) (pg c i)]) l (fun i=>cellsO (ow o i)) i).cells:=fun i _=>by rw [hCN]
  have hlen:PV.val (.int .i64 ((vertC lo hi k (fun i=>[.rs 6 (pn c i) (pg c i)]) l (fun i=>cellsO (ow o i))).length:Int))=PV.val (goInt N):=by
   rw [hNNN]
   rfl
  have r0:∀r:Nat→List PV,r 0=a.cells→r 1=b.cells→∀i,i < 2→(vertP (keepL a b C 0) i).cells=r i:=fun r h h' i hi=>by
   match i,hi with
   |0,_=>exact h.symm
   |1,_=>exact h'.symm
  have hCle:∀i,i < N→(C i).le 10000:=by
   rw [hNN,hC]
   exact cornP_le hcl
  with_unfolding_all refine⟨⟨hrg',p2 _ rfl rfl⟩,fun h1=>?_,fun h1=>?_⟩
  ·have h2:OK=false:=(q1 _ rfl rfl).symm.trans (z _ h1)
   have hb1:BE=1:=by rw [e0,h2];rfl
   have hb0:BE≠0:=by rw [hb1];decide
   have v2:∀B,B=OK→PV.val (.int .i64 (okW B))=PV.val (.int .i64 BE):=fun B h=>by rw [h,h2,hb1];rfl
   with_unfolding_all exact⟨[some 3],stOf [(6,.ptr 0 0 0 0),(7,.val (.int .i64 BE))] [⟨37,2,0,true,false,1,fun _=>[.rs 6 BP.length (fun i=>(vertP BP i).cells),.rs 2 BL.length (fun i=>cellsQ (qL BL i))]⟩] 1 [],Weak.of (by simp) ⟨⟨lt_ok rfl,rfl,rfl,rfl,rfl,rfl,⟨⟨rfl,(bad hb0).1⟩,rfl⟩,⟨⟨rfl,(bad hb0).2⟩,rfl⟩,trivial⟩,trivial⟩ ⟨⟨rfl,rfl,rfl,lt_ok rfl,_,rfl⟩,v2 _ (q1 _ rfl rfl),trivial⟩ trivial,rfl,rfl⟩
  ·have hk:OK=true:=(q1 _ rfl rfl).symm.trans (z' _ h1)
   have b16:S a a=false∨S b b=false→BE=16:=fun h=>by
    rw [e0,hk]
    rcases h with h|h
    ·rw [h];rfl
    ·rw [h,Bool.and_false];rfl
   have b12:S a a=true→S b b=true→eqP a b=true→BE=12:=fun h h' h2=>by rw [e0,hk,h,h',h2];rfl
   have n16:BE=16→BE≠0:=fun h=>by rw [h];decide
   have n12:BE=12→BE≠0:=fun h=>by rw [h];decide
   have v16:BE=16→PV.val (.int .i64 16)=PV.val (.int .i64 BE):=fun h=>by rw [h]
   have v12:BE=12→PV.val (.int .i64 12)=PV.val (.int .i64 BE):=fun h=>by rw [h]
   have fs:∀x,(!seeB lo hi k (fun i=>[.rs 6 (pn c i) (pg c i)]) l (fun i=>cellsO (ow o i)) x x)=true→S x x=false:=fun x h=>by rw [←hSN];exact neq _ h
   have ft:∀x,(!seeB lo hi k (fun i=>[.rs 6 (pn c i) (pg c i)]) l (fun i=>cellsO (ow o i)) x x)=false→S x x=true:=fun x h=>by rw [←hSN];exact neq' _ h
   with_unfolding_all refine⟨⟨hrg3,⟨a,rfl,ha⟩,a,rfl,ha⟩,fun h2=>⟨⟨hrg3,⟨b,rfl,hb⟩,b,rfl,hb⟩,fun h3=>⟨[some 3],stOf [(6,.ptr 0 0 0 0),(7,.val (.int .i64 BE))] [⟨37,2,0,true,false,1,fun _=>[.rs 6 BP.length (fun i=>(vertP BP i).cells),.rs 2 BL.length (fun i=>cellsQ (qL BL i))]⟩] 1 [],Weak.of (by simp) ⟨⟨lt_ok rfl,rfl,rfl,rfl,rfl,rfl,⟨⟨rfl,(bad (n16 (b16 (.inr (fs b h3))))).1⟩,rfl⟩,⟨⟨rfl,(bad (n16 (b16 (.inr (fs b h3))))).2⟩,rfl⟩,trivial⟩,trivial⟩ ⟨⟨rfl,rfl,rfl,lt_ok rfl,_,rfl⟩,v16 (b16 (.inr (fs b h3))),trivial⟩ trivial,rfl,rfl⟩,fun h3=>⟨fun h4=>⟨[some 3],stOf [(6,.ptr 0 0 0 0),(7,.val (.int .i64 BE))] [⟨37,2,0,true,false,1,fun _=>[.rs 6 BP.length (fun i=>(vertP BP i).cells),.rs 2 BL.length (fun i=>cellsQ (qL BL i))]⟩] 1 [],Weak.of (by simp) ⟨⟨lt_ok rfl,rfl,rfl,rfl,rfl,rfl,⟨⟨rfl,(bad (n12 (b12 (ft a h2) (ft b h3) h4))).1⟩,rfl⟩,⟨⟨rfl,(bad (n12 (b12 (ft a h2) (ft b h3) h4))).2⟩,rfl⟩,trivial⟩,trivial⟩ ⟨⟨rfl,rfl,rfl,lt_ok rfl,_,rfl⟩,v12 (b12 (ft a h2) (ft b h3) h4),trivial⟩ trivial,rfl,rfl⟩,fun h4=>⟨h57,Nat,fun j=>(OK=true∧S a a=true∧S b b=true∧eqP a b=false)∧j≤N,fun j=>stOf [(3,.ptr 0 0 0 0),(4,.ptr 1 1 0 0),(5,.ptr 2 2 0 0),(6,.ptr 3 3 0 0),(9,.ptr 4 4 0 0),(46,.rs 6 N (fun i=>(C i).cells)),(47,.val (goInt N)),(48,.val (goInt j))] [⟨31,14,0,true,false,1,fun _=>regC lo hi k c l o⟩,⟨25,6,1,true,false,1,fun _=>a.cells⟩,⟨25,6,2,true,false,1,fun _=>b.cells⟩,⟨37,2,3,true,false,1,fun _=>[.val (.slice none 0 0),.val (.slice none 0 0)]⟩,⟨37,2,4,true,false,1,fun _=>[.sl 5 5 0 (keepL a b C j).length,.val (.slice none 0 0)]⟩,⟨25,6,5,false,false,(keepL a b C j).length,fun i=>(vertP (keepL a b C j) i).cells⟩] 6 [],fun j=>N - j,⟨0,[some 0,some 1,some 2,some 3,some 6,some 5],⟨⟨hk,ft a h2,ft b h3,h4⟩,Nat.zero_le _⟩,Weak.of (by simp) ⟨⟨lt_ok rfl,rfl,rfl,rfl,rfl,rfl,⟨rfl,rfl⟩,⟨rfl,rfl⟩,⟨rfl,rfl⟩,⟨rfl,rfl⟩,⟨rfl,rfl⟩,⟨rfl,rfl⟩,⟨rfl,rfl⟩,⟨rfl,rfl⟩,⟨rfl,rfl⟩,⟨rfl,rfl⟩,⟨rfl,rfl⟩,⟨rfl,rfl⟩,⟨⟨rfl,rfl,fun _ _=>rfl⟩,rfl⟩,⟨⟨rfl,rfl,fun _ _=>rfl⟩,rfl⟩,trivial⟩,⟨lt_ok rfl,rfl,rfl,rfl,rfl,rfl,⟨rfl,rfl⟩,⟨rfl,rfl⟩,⟨rfl,rfl⟩,⟨rfl,rfl⟩,⟨rfl,rfl⟩,⟨rfl,rfl⟩,trivial⟩,⟨lt_ok rfl,rfl,rfl,rfl,rfl,rfl,⟨rfl,rfl⟩,⟨rfl,rfl⟩,⟨rfl,rfl⟩,⟨rfl,rfl⟩,⟨rfl,rfl⟩,⟨rfl,rfl⟩,trivial⟩,⟨lt_ok rfl,rfl,rfl,rfl,rfl,rfl,⟨rfl,rfl⟩,⟨rfl,rfl⟩,trivial⟩,⟨lt_ok rfl,rfl,rfl,rfl,rfl,rfl,⟨⟨rfl,rfl,rfl,lt_ok rfl,_,rfl⟩,rfl⟩,⟨rfl,rfl⟩,trivial⟩,⟨lt_ok rfl,rfl,rfl,rfl,rfl,rfl,r0 _ rfl rfl⟩,trivial⟩ ⟨⟨rfl,rfl,rfl,lt_ok rfl,_,rfl⟩,⟨rfl,rfl,rfl,lt_ok rfl,_,rfl⟩,⟨rfl,rfl,rfl,lt_ok rfl,_,rfl⟩,⟨rfl,rfl,rfl,lt_ok rfl,_,rfl⟩,⟨rfl,rfl,rfl,lt_ok rfl,_,rfl⟩,⟨rfl,hNNN,hrow⟩,hlen,rfl,trivial⟩ trivial⟩,fun j hj=>?_⟩⟩⟩,fun h2=>⟨fun _=>⟨[some 3],stOf [(6,.ptr 0 0 0 0),(7,.val (.int .i64 BE))] [⟨37,2,0,true,false,1,fun _=>[.rs 6 BP.length (fun i=>(vertP BP i).cells),.rs 2 BL.length (fun i=>cellsQ (qL BL i))]⟩] 1 [],Weak.of (by simp) ⟨⟨lt_ok rfl,rfl,rfl,rfl,rfl,rfl,⟨⟨rfl,(bad (n16 (b16 (.inl (fs a h2))))).1⟩,rfl⟩,⟨⟨rfl,(bad (n16 (b16 (.inl (fs a h2))))).2⟩,rfl⟩,trivial⟩,trivial⟩ ⟨⟨rfl,rfl,rfl,lt_ok rfl,_,rfl⟩,v16 (b16 (.inl (fs a h2))),trivial⟩ trivial,rfl,rfl⟩,fun h=>(nomatch h)⟩⟩
   obtain⟨⟨g1,g2,g3,g4⟩,hjN⟩:(OK=true∧S a a=true∧S b b=true∧eqP a b=false)∧j≤N:=hj
   with_unfolding_all refine⟨fun h1=>?_,fun h1=>?_⟩
   ·have h1:(j:Int) < N:=ltT h1
    have ej:(j:Int).toNat=j:=Int.toNat_natCast j
    have hjN1:j+1≤N:=by omega
    have hμ : N - (j+1) < N - j:=by omega
    have hkl:=keepL_le a b C j
    have wj:PV.val (.int .i64 (IntKind.i64.wrap ((j:Int)+1)))=PV.val (.int .i64 ((j+1:Nat):Int)):=by
     rw [wrap64 (by omega) (by omega)]
     rfl
    have e3:eqP (C j) a=false→eqP (C j) b=false→keepL a b C (j+1)=keepL a b C j++[C j]:=fun h h'=>by rw [keepL,h,h'];rfl
    have e4:(!eqP (C j) a&&!eqP (C j) b)=false→keepL a b C (j+1)=keepL a b C j:=fun h=>by rw [keepL,h];exact List.append_nil _
    have hn0:(!eqP (C (j:Int).toNat) a&&!eqP (C (j:Int).toNat) b)=false→(keepL a b C (j+1)).length=(keepL a b C j).length:=fun h=>by
     rw [ej] at h
     rw [e4 h]
    have hr0:(!eqP (C (j:Int).toNat) a&&!eqP (C (j:Int).toNat) b)=false→∀i,i < (keepL a b C j).length→(vertP (keepL a b C (j+1)) i).cells=(vertP (keepL a b C j) i).cells:=fun h=>by
     rw [ej] at h
     rw [e4 h]
     exact fun _ _=>rfl
    have hnA:eqP (C (j:Int).toNat) a=false→eqP (C (j:Int).toNat) b=false→(keepL a b C (j+1)).length=(keepL a b C j).length+1:=fun h h'=>by
     rw [ej] at h h'
     rw [e3 h h',List.length_append]
     rfl
    have hr1:eqP (C (j:Int).toNat) a=false→eqP (C (j:Int).toNat) b=false→∀r:Nat→List PV,r 0=(C (j:Int).toNat).cells→∀i,i < (keepL a b C j).length+1→(vertP (keepL a b C (j+1)) i).cells=apd (keepL a b C j).length (fun i=>(vertP (keepL a b C j) i).cells) r i:=fun h h' r hr=>by
     rw [ej] at h h' hr
     rw [e3 h h']
     exact apd_p hr
    have k1:((keepL a b C j).length+1)*80≤140737488355328:=by omega
    have k2:(keepL a b C j).length+1≤9223372036854775807:=by omega
    have n1:∀x y:Bool,(!y)=false→(!x&&!y)=false:=fun x y h=>by rw [h,Bool.and_false]
    have n2:∀x y:Bool,(!x)=false→(!x&&!y)=false:=fun x y h=>by rw [h];rfl
    with_unfolding_all exact⟨⟨Int.natCast_nonneg j,h1⟩,fun h2=>⟨fun h3=>⟨⟨rfl,k1,k2⟩,⟨j+1,[some 0,some 1,some 2,some 3,some 4,some 5],⟨⟨g1,g2,g3,g4⟩,hjN1⟩,hμ,Weak.of (by simp) ⟨⟨lt_ok rfl,rfl,rfl,rfl,rfl,rfl,⟨rfl,rfl⟩,⟨rfl,rfl⟩,⟨rfl,rfl⟩,⟨rfl,rfl⟩,⟨rfl,rfl⟩,⟨rfl,rfl⟩,⟨rfl,rfl⟩,⟨rfl,rfl⟩,⟨rfl,rfl⟩,⟨rfl,rfl⟩,⟨rfl,rfl⟩,⟨rfl,rfl⟩,⟨⟨rfl,rfl,fun _ _=>rfl⟩,rfl⟩,⟨⟨rfl,rfl,fun _ _=>rfl⟩,rfl⟩,trivial⟩,⟨lt_ok rfl,rfl,rfl,rfl,rfl,rfl,⟨rfl,rfl⟩,⟨rfl,rfl⟩,⟨rfl,rfl⟩,⟨rfl,rfl⟩,⟨rfl,rfl⟩,⟨rfl,rfl⟩,trivial⟩,⟨lt_ok rfl,rfl,rfl,rfl,rfl,rfl,⟨rfl,rfl⟩,⟨rfl,rfl⟩,⟨rfl,rfl⟩,⟨rfl,rfl⟩,⟨rfl,rfl⟩,⟨rfl,rfl⟩,trivial⟩,⟨lt_ok rfl,rfl,rfl,rfl,rfl,rfl,⟨rfl,rfl⟩,⟨rfl,rfl⟩,trivial⟩,⟨lt_ok rfl,rfl,rfl,rfl,rfl,rfl,⟨⟨rfl,rfl,(hnA (neq _ h2) (neq _ h3)).symm,lt_ok rfl,_,rfl⟩,rfl⟩,⟨rfl,rfl⟩,trivial⟩,⟨lt_ok rfl,rfl,rfl,rfl,rfl,(hnA (neq _ h2) (neq _ h3)),hr1 (neq _ h2) (neq _ h3) _ rfl⟩,trivial⟩ ⟨⟨rfl,rfl,rfl,lt_ok rfl,_,rfl⟩,⟨rfl,rfl,rfl,lt_ok rfl,_,rfl⟩,⟨rfl,rfl,rfl,lt_ok rfl,_,rfl⟩,⟨rfl,rfl,rfl,lt_ok rfl,_,rfl⟩,⟨rfl,rfl,rfl,lt_ok rfl,_,rfl⟩,⟨rfl,rfl,fun _ _=>rfl⟩,rfl,wj,trivial⟩ trivial⟩⟩,fun h3=>⟨j+1,[some 0,some 1,some 2,some 3,some 4,some 5],⟨⟨g1,g2,g3,g4⟩,hjN1⟩,hμ,Weak.of (by simp) ⟨⟨lt_ok rfl,rfl,rfl,rfl,rfl,rfl,⟨rfl,rfl⟩,⟨rfl,rfl⟩,⟨rfl,rfl⟩,⟨rfl,rfl⟩,⟨rfl,rfl⟩,⟨rfl,rfl⟩,⟨rfl,rfl⟩,⟨rfl,rfl⟩,⟨rfl,rfl⟩,⟨rfl,rfl⟩,⟨rfl,rfl⟩,⟨rfl,rfl⟩,⟨⟨rfl,rfl,fun _ _=>rfl⟩,rfl⟩,⟨⟨rfl,rfl,fun _ _=>rfl⟩,rfl⟩,trivial⟩,⟨lt_ok rfl,rfl,rfl,rfl,rfl,rfl,⟨rfl,rfl⟩,⟨rfl,rfl⟩,⟨rfl,rfl⟩,⟨rfl,rfl⟩,⟨rfl,rfl⟩,⟨rfl,rfl⟩,trivial⟩,⟨lt_ok rfl,rfl,rfl,rfl,rfl,rfl,⟨rfl,rfl⟩,⟨rfl,rfl⟩,⟨rfl,rfl⟩,⟨rfl,rfl⟩,⟨rfl,rfl⟩,⟨rfl,rfl⟩,trivial⟩,⟨lt_ok rfl,rfl,rfl,rfl,rfl,rfl,⟨rfl,rfl⟩,⟨rfl,rfl⟩,trivial⟩,⟨lt_ok rfl,rfl,rfl,rfl,rfl,rfl,⟨⟨rfl,rfl,(hn0 (n1 _ _ h3)).symm,lt_ok rfl,_,rfl⟩,rfl⟩,⟨rfl,rfl⟩,trivial⟩,⟨lt_ok rfl,rfl,rfl,rfl,rfl,(hn0 (n1 _ _ h3)),hr0 (n1 _ _ h3)⟩,trivial⟩ ⟨⟨rfl,rfl,rfl,lt_ok rfl,_,rfl⟩,⟨rfl,rfl,rfl,lt_ok rfl,_,rfl⟩,⟨rfl,rfl,rfl,lt_ok rfl,_,rfl⟩,⟨rfl,rfl,rfl,lt_ok rfl,_,rfl⟩,⟨rfl,rfl,rfl,lt_ok rfl,_,rfl⟩,⟨rfl,rfl,fun _ _=>rfl⟩,rfl,wj,trivial⟩ trivial⟩⟩,fun h2=>⟨fun h=>(nomatch h),fun _=>⟨j+1,[some 0,some 1,some 2,some 3,some 4,some 5],⟨⟨g1,g2,g3,g4⟩,hjN1⟩,hμ,Weak.of (by simp) ⟨⟨lt_ok rfl,rfl,rfl,rfl,rfl,rfl,⟨rfl,rfl⟩,⟨rfl,rfl⟩,⟨rfl,rfl⟩,⟨rfl,rfl⟩,⟨rfl,rfl⟩,⟨rfl,rfl⟩,⟨rfl,rfl⟩,⟨rfl,rfl⟩,⟨rfl,rfl⟩,⟨rfl,rfl⟩,⟨rfl,rfl⟩,⟨rfl,rfl⟩,⟨⟨rfl,rfl,fun _ _=>rfl⟩,rfl⟩,⟨⟨rfl,rfl,fun _ _=>rfl⟩,rfl⟩,trivial⟩,⟨lt_ok rfl,rfl,rfl,rfl,rfl,rfl,⟨rfl,rfl⟩,⟨rfl,rfl⟩,⟨rfl,rfl⟩,⟨rfl,rfl⟩,⟨rfl,rfl⟩,⟨rfl,rfl⟩,trivial⟩,⟨lt_ok rfl,rfl,rfl,rfl,rfl,rfl,⟨rfl,rfl⟩,⟨rfl,rfl⟩,⟨rfl,rfl⟩,⟨rfl,rfl⟩,⟨rfl,rfl⟩,⟨rfl,rfl⟩,trivial⟩,⟨lt_ok rfl,rfl,rfl,rfl,rfl,rfl,⟨rfl,rfl⟩,⟨rfl,rfl⟩,trivial⟩,⟨lt_ok rfl,rfl,rfl,rfl,rfl,rfl,⟨⟨rfl,rfl,(hn0 (n2 _ _ h2)).symm,lt_ok rfl,_,rfl⟩,rfl⟩,⟨rfl,rfl⟩,trivial⟩,⟨lt_ok rfl,rfl,rfl,rfl,rfl,(hn0 (n2 _ _ h2)),hr0 (n2 _ _ h2)⟩,trivial⟩ ⟨⟨rfl,rfl,rfl,lt_ok rfl,_,rfl⟩,⟨rfl,rfl,rfl,lt_ok rfl,_,rfl⟩,⟨rfl,rfl,rfl,lt_ok rfl,_,rfl⟩,⟨rfl,rfl,rfl,lt_ok rfl,_,rfl⟩,⟨rfl,rfl,rfl,lt_ok rfl,_,rfl⟩,⟨rfl,rfl,fun _ _=>rfl⟩,rfl,wj,trivial⟩ trivial⟩⟩⟩
   ·have h1:(N:Int)≤j:=ltF h1
    have hb0:BE=0:=by rw [e0,g1,g2,g3,g4];rfl
    have hBPk:keepL a b C j=BP:=by
     rw [show j=N by omega,e1,hb0]
     rfl
    have hl3:(keepL a b C j).length=BP.length:=by rw [hBPk]
    have hr3:∀i,i < (keepL a b C j).length→(vertP BP i).cells=(vertP (keepL a b C j) i).cells:=fun i _=>by rw [hBPk]
    have v69:PV.val (.int .i64 (((keepL a b C j).length:Nat):Int))=PV.val (goInt BP.length):=by
     rw [hBPk]
     rfl
    have hBl:BP.length≤14:=by
     have:=keepL_le a b C j
     rw [←hBPk]
     omega
    have hBall:∀i,i < BP.length→(vertP BP i).le 10000:=fun i hi=>by
     unfold vertP
     rw [List.getElem?_eq_getElem hi]
     exact keepL_all (j:=j) ha hb (fun i hi=>hCle i (by omega)) _ (by rw [hBPk];exact List.getElem_mem hi)
    clear hBPk
    with_unfolding_all refine⟨Nat,fun i=>i≤BP.length,fun i=>stOf [(3,.ptr 0 0 0 0),(6,.ptr 1 1 0 0),(9,.ptr 2 2 0 0),(68,.sl 3 3 0 BP.length),(69,.val (goInt BP.length)),(70,.val (goInt i))] [⟨31,14,0,true,false,1,fun _=>regC lo hi k c l o⟩,⟨37,2,1,true,false,1,fun _=>[.val (.slice none 0 0),.val (.slice none 0 0)]⟩,⟨37,2,2,true,false,1,fun _=>[.sl 3 3 0 BP.length,.sl 4 4 0 (lnkI S (vertP BP) BP.length i).length]⟩,⟨25,6,3,false,false,BP.length,fun t=>(vertP BP t).cells⟩,⟨46,2,4,false,false,(lnkI S (vertP BP) BP.length i).length,fun t=>cellsQ (qL (lnkI S (vertP BP) BP.length i) t)⟩] 5 [],fun i=>BP.length - i,⟨0,[some 0,some 3,some 4,some 5,none],Nat.zero_le _,Weak.of (by simp) ⟨⟨lt_ok rfl,rfl,rfl,rfl,rfl,rfl,⟨rfl,rfl⟩,⟨rfl,rfl⟩,⟨rfl,rfl⟩,⟨rfl,rfl⟩,⟨rfl,rfl⟩,⟨rfl,rfl⟩,⟨rfl,rfl⟩,⟨rfl,rfl⟩,⟨rfl,rfl⟩,⟨rfl,rfl⟩,⟨rfl,rfl⟩,⟨rfl,rfl⟩,⟨⟨rfl,rfl,fun _ _=>rfl⟩,rfl⟩,⟨⟨rfl,rfl,fun _ _=>rfl⟩,rfl⟩,trivial⟩,⟨lt_ok rfl,rfl,rfl,rfl,rfl,rfl,⟨rfl,rfl⟩,⟨rfl,rfl⟩,trivial⟩,⟨lt_ok rfl,rfl,rfl,rfl,rfl,rfl,⟨⟨rfl,rfl,hl3,lt_ok rfl,_,rfl⟩,rfl⟩,⟨⟨rfl,rfl,rfl,rfl,lt_ok rfl⟩,rfl⟩,trivial⟩,⟨lt_ok rfl,rfl,rfl,rfl,rfl,hl3.symm,hr3⟩,⟨lt_ok rfl,rfl,rfl,rfl⟩,trivial⟩ ⟨⟨rfl,rfl,rfl,lt_ok rfl,_,rfl⟩,⟨rfl,rfl,rfl,lt_ok rfl,_,rfl⟩,⟨rfl,rfl,rfl,lt_ok rfl,_,rfl⟩,⟨rfl,rfl,hl3,lt_ok rfl,_,rfl⟩,v69,rfl,trivial⟩ trivial⟩,fun i hiB=>?_⟩
    replace hiB:i≤BP.length:=hiB
    with_unfolding_all refine⟨fun h1=>?_,fun h1=>?_⟩
    ·have h1:(i:Int) < BP.length:=ltT h1
     have ei:(i:Int).toNat=i:=Int.toNat_natCast i
     have hj0:(lnkI S (vertP BP) BP.length i++lnkJ S (vertP BP) i 0).length=(lnkI S (vertP BP) BP.length i).length:=by rw [lnkJ,List.append_nil]
     have hr0:∀t,t < (lnkI S (vertP BP) BP.length i).length→cellsQ (qL (lnkI S (vertP BP) BP.length i++lnkJ S (vertP BP) i 0) t)=cellsQ (qL (lnkI S (vertP BP) BP.length i) t):=fun t _=>by rw [lnkJ,List.append_nil]
     have w14:PV.val (.int .i64 (IntKind.i64.wrap ((i:Int)+1)))=PV.val (goInt (i+1+0)):=by
      rw [wrap64 (by omega) (by omega)]
      rfl
     have cx:∀x y:PtS,x=y→PV.val (.bool x.x.s)=PV.val (.bool y.x.s)∧PV.val (.string x.x.b)=PV.val (.string y.x.b)∧PV.val (.string x.x.c)=PV.val (.string y.x.c)∧PV.val (.bool x.y.s)=PV.val (.bool y.y.s)∧PV.val (.string x.y.b)=PV.val (.string y.y.b)∧PV.val (.string x.y.c)=PV.val (.string y.y.c):=fun x y h=>by rw [h];exact⟨rfl,rfl,rfl,rfl,rfl,rfl⟩
     have c6:=cx (vertP BP (0+(i:Int).toNat)) (vertP BP i) (by rw [Nat.zero_add,ei])
     with_unfolding_all refine⟨⟨Int.natCast_nonneg i,h1⟩,Nat,fun d=>i+1+d≤BP.length,fun d=>stOf [(3,.ptr 0 0 0 0),(6,.ptr 1 1 0 0),(9,.ptr 2 2 0 0),(12,.val (goInt i)),(13,.ptr 5 5 0 0),(14,.val (goInt (i+1+d))),(68,.sl 3 3 0 BP.length),(69,.val (goInt BP.length)),(70,.val (goInt i))] [⟨31,14,0,true,false,1,fun _=>regC lo hi k c l o⟩,⟨37,2,1,true,false,1,fun _=>[.val (.slice none 0 0),.val (.slice none 0 0)]⟩,⟨37,2,2,true,false,1,fun _=>[.sl 3 3 0 BP.length,.sl 4 4 0 (lnkI S (vertP BP) BP.length i++lnkJ S (vertP BP) i d).length]⟩,⟨25,6,3,false,false,BP.length,fun t=>(vertP BP t).cells⟩,⟨46,2,4,false,false,(lnkI S (vertP BP) BP.length i++lnkJ S (vertP BP) i d).length,fun t=>cellsQ (qL (lnkI S (vertP BP) BP.length i++lnkJ S (vertP BP) i d) t)⟩,⟨25,6,5,true,false,1,fun _=>(vertP BP i).cells⟩] 6 [],fun d=>BP.length - d,⟨0,[some 0,some 1,some 2,some 3,some 4,some 5],by show i+1+0≤BP.length;omega,Weak.of (by simp) ⟨⟨lt_ok rfl,rfl,rfl,rfl,rfl,rfl,⟨rfl,rfl⟩,⟨rfl,rfl⟩,⟨rfl,rfl⟩,⟨rfl,rfl⟩,⟨rfl,rfl⟩,⟨rfl,rfl⟩,⟨rfl,rfl⟩,⟨rfl,rfl⟩,⟨rfl,rfl⟩,⟨rfl,rfl⟩,⟨rfl,rfl⟩,⟨rfl,rfl⟩,⟨⟨rfl,rfl,fun _ _=>rfl⟩,rfl⟩,⟨⟨rfl,rfl,fun _ _=>rfl⟩,rfl⟩,trivial⟩,⟨lt_ok rfl,rfl,rfl,rfl,rfl,rfl,⟨rfl,rfl⟩,⟨rfl,rfl⟩,trivial⟩,⟨lt_ok rfl,rfl,rfl,rfl,rfl,rfl,⟨⟨rfl,rfl,rfl,lt_ok rfl,_,rfl⟩,rfl⟩,⟨⟨rfl,rfl,hj0.symm,lt_ok rfl,_,rfl⟩,rfl⟩,trivial⟩,⟨lt_ok rfl,rfl,rfl,rfl,rfl,rfl,fun _ _=>rfl⟩,⟨lt_ok rfl,rfl,rfl,rfl,rfl,hj0,hr0⟩,⟨lt_ok rfl,rfl,rfl,rfl,rfl,rfl,⟨c6.1,rfl⟩,⟨c6.2.1,rfl⟩,⟨c6.2.2.1,rfl⟩,⟨c6.2.2.2.1,rfl⟩,⟨c6.2.2.2.2.1,rfl⟩,⟨c6.2.2.2.2.2,rfl⟩,trivial⟩,trivial⟩ ⟨⟨rfl,rfl,rfl,lt_ok rfl,_,rfl⟩,⟨rfl,rfl,rfl,lt_ok rfl,_,rfl⟩,⟨rfl,rfl,rfl,lt_ok rfl,_,rfl⟩,rfl,⟨rfl,rfl,rfl,lt_ok rfl,_,rfl⟩,w14,⟨rfl,rfl,rfl,lt_ok rfl,_,rfl⟩,rfl,rfl,trivial⟩ trivial⟩,fun d hd=>?_⟩
     have hdB:i+1+d≤BP.length:=hd
     with_unfolding_all refine⟨fun h2=>?_,fun h2=>?_⟩
     ·have h2:(i:Int)+1+d < BP.length:=ltT h2
      have eT:0+((i:Int)+1+d).toNat=i+1+d:=by omega
      have hdB1:i+1+(d+1)≤BP.length:=by omega
      have hμd:BP.length - (d+1) < BP.length - d:=by omega
      have hbI:=lnkI_le S (vertP BP) BP.length i
      have hbJ:=lnkJ_le S (vertP BP) i d
      have hii:i*BP.length≤14*14:=Nat.mul_le_mul (by omega) hBl
      have hlj:(lnkI S (vertP BP) BP.length i++lnkJ S (vertP BP) i d).length≤14*14+14:=by
       rw [List.length_append]
       omega
      have wd:PV.val (.int .i64 (IntKind.i64.wrap ((i:Int)+1+d+1)))=PV.val (goInt ((i:Int)+1+((d+1:Nat):Int))):=by
       rw [wrap64 (by omega) (by omega)]
       exact congrArg (fun z=>PV.val (.int .i64 z)) (by omega)
      have hs:∀t b,t=i+1+d→seeB lo hi k (fun i=>[.rs 6 (pn c i) (pg c i)]) l (fun i=>cellsO (ow o i)) (vertP BP i) (vertP BP t)=b→S (vertP BP i) (vertP BP (i+1+d))=b:=fun t b h h'=>by rw [←h,←hSN];exact h'
      have e3:S (vertP BP i) (vertP BP (i+1+d))=true→lnkI S (vertP BP) BP.length i++lnkJ S (vertP BP) i (d+1)=lnkI S (vertP BP) BP.length i++lnkJ S (vertP BP) i d++[((i:Int),((i+1+d:Nat):Int))]:=fun h=>by rw [lnkJ,h,List.append_assoc];rfl
      have e4:S (vertP BP i) (vertP BP (i+1+d))=false→lnkI S (vertP BP) BP.length i++lnkJ S (vertP BP) i (d+1)=lnkI S (vertP BP) BP.length i++lnkJ S (vertP BP) i d:=fun h=>by
       rw [lnkJ,h]
       exact congrArg _ (List.append_nil _)
      have hn0:S (vertP BP i) (vertP BP (i+1+d))=false→(lnkI S (vertP BP) BP.length i++lnkJ S (vertP BP) i (d+1)).length=(lnkI S (vertP BP) BP.length i++lnkJ S (vertP BP) i d).length:=fun h=>by rw [e4 h]
      have hr0:S (vertP BP i) (vertP BP (i+1+d))=false→∀t,t < (lnkI S (vertP BP) BP.length i++lnkJ S (vertP BP) i d).length→cellsQ (qL (lnkI S (vertP BP) BP.length i++lnkJ S (vertP BP) i (d+1)) t)=cellsQ (qL (lnkI S (vertP BP) BP.length i++lnkJ S (vertP BP) i d) t):=fun h=>by
       rw [e4 h]
       exact fun _ _=>rfl
      have hnA:S (vertP BP i) (vertP BP (i+1+d))=true→(lnkI S (vertP BP) BP.length i++lnkJ S (vertP BP) i (d+1)).length=(lnkI S (vertP BP) BP.length i++lnkJ S (vertP BP) i d).length+1:=fun h=>by
       rw [e3 h,List.length_append]
       rfl
      have hr1:S (vertP BP i) (vertP BP (i+1+d))=true→∀r:Nat→List PV,r 0=[.val (.int .i64 (i:Int)),.val (.int .i64 ((i:Int)+1+d))]→∀t,t < (lnkI S (vertP BP) BP.length i++lnkJ S (vertP BP) i d).length+1→cellsQ (qL (lnkI S (vertP BP) BP.length i++lnkJ S (vertP BP) i (d+1)) t)=apd (lnkI S (vertP BP) BP.length i++lnkJ S (vertP BP) i d).length (fun t=>cellsQ (qL (lnkI S (vertP BP) BP.length i++lnkJ S (vertP BP) i d) t)) r t:=fun h r hr=>by
       rw [e3 h]
       refine apd_q (hr.trans ?_)
       rw [cellsQ,show(i:Int)+1+d=((i+1+d:Nat):Int) by omega]
      have k1:((lnkI S (vertP BP) BP.length i++lnkJ S (vertP BP) i d).length+1)*16≤140737488355328:=by omega
      have k2:(lnkI S (vertP BP) BP.length i++lnkJ S (vertP BP) i d).length+1≤9223372036854775807:=by omega
      have pk1:isPk 10000 (vertP BP i).v:=⟨_,rfl,hBall i (by omega)⟩
      have pk2:isPk 10000 (vertP BP (0+((i:Int)+1+d).toNat)).v:=⟨_,rfl,hBall _ (by omega)⟩
      with_unfolding_all exact⟨⟨by omega,h2⟩,⟨hrg3,pk1,pk2⟩,fun h3=>⟨⟨rfl,k1,k2⟩,⟨d+1,[some 0,some 1,some 2,some 3,some 4,some 5],hdB1,hμd,Weak.of (by simp) ⟨⟨lt_ok rfl,rfl,rfl,rfl,rfl,rfl,⟨rfl,rfl⟩,⟨rfl,rfl⟩,⟨rfl,rfl⟩,⟨rfl,rfl⟩,⟨rfl,rfl⟩,⟨rfl,rfl⟩,⟨rfl,rfl⟩,⟨rfl,rfl⟩,⟨rfl,rfl⟩,⟨rfl,rfl⟩,⟨rfl,rfl⟩,⟨rfl,rfl⟩,⟨⟨rfl,rfl,fun _ _=>rfl⟩,rfl⟩,⟨⟨rfl,rfl,fun _ _=>rfl⟩,rfl⟩,trivial⟩,⟨lt_ok rfl,rfl,rfl,rfl,rfl,rfl,⟨rfl,rfl⟩,⟨rfl,rfl⟩,trivial⟩,⟨lt_ok rfl,rfl,rfl,rfl,rfl,rfl,⟨⟨rfl,rfl,rfl,lt_ok rfl,_,rfl⟩,rfl⟩,⟨⟨rfl,rfl,(hnA (hs (0+((i:Int)+1+d).toNat) _ eT h3)).symm,lt_ok rfl,_,rfl⟩,rfl⟩,trivial⟩,⟨lt_ok rfl,rfl,rfl,rfl,rfl,rfl,fun _ _=>rfl⟩,⟨lt_ok rfl,rfl,rfl,rfl,rfl,(hnA (hs (0+((i:Int)+1+d).toNat) _ eT h3)),hr1 (hs (0+((i:Int)+1+d).toNat) _ eT h3) _ rfl⟩,⟨lt_ok rfl,rfl,rfl,rfl,rfl,rfl,⟨rfl,rfl⟩,⟨rfl,rfl⟩,⟨rfl,rfl⟩,⟨rfl,rfl⟩,⟨rfl,rfl⟩,⟨rfl,rfl⟩,trivial⟩,trivial⟩ ⟨⟨rfl,rfl,rfl,lt_ok rfl,_,rfl⟩,⟨rfl,rfl,rfl,lt_ok rfl,_,rfl⟩,⟨rfl,rfl,rfl,lt_ok rfl,_,rfl⟩,rfl,⟨rfl,rfl,rfl,lt_ok rfl,_,rfl⟩,wd,⟨rfl,rfl,rfl,lt_ok rfl,_,rfl⟩,rfl,rfl,trivial⟩ trivial⟩⟩,fun h3=>⟨d+1,[some 0,some 1,some 2,some 3,some 4,some 5],hdB1,hμd,Weak.of (by simp) ⟨⟨lt_ok rfl,rfl,rfl,rfl,rfl,rfl,⟨rfl,rfl⟩,⟨rfl,rfl⟩,⟨rfl,rfl⟩,⟨rfl,rfl⟩,⟨rfl,rfl⟩,⟨rfl,rfl⟩,⟨rfl,rfl⟩,⟨rfl,rfl⟩,⟨rfl,rfl⟩,⟨rfl,rfl⟩,⟨rfl,rfl⟩,⟨rfl,rfl⟩,⟨⟨rfl,rfl,fun _ _=>rfl⟩,rfl⟩,⟨⟨rfl,rfl,fun _ _=>rfl⟩,rfl⟩,trivial⟩,⟨lt_ok rfl,rfl,rfl,rfl,rfl,rfl,⟨rfl,rfl⟩,⟨rfl,rfl⟩,trivial⟩,⟨lt_ok rfl,rfl,rfl,rfl,rfl,rfl,⟨⟨rfl,rfl,rfl,lt_ok rfl,_,rfl⟩,rfl⟩,⟨⟨rfl,rfl,(hn0 (hs (0+((i:Int)+1+d).toNat) _ eT h3)).symm,lt_ok rfl,_,rfl⟩,rfl⟩,trivial⟩,⟨lt_ok rfl,rfl,rfl,rfl,rfl,rfl,fun _ _=>rfl⟩,⟨lt_ok rfl,rfl,rfl,rfl,rfl,(hn0 (hs (0+((i:Int)+1+d).toNat) _ eT h3)),hr0 (hs (0+((i:Int)+1+d).toNat) _ eT h3)⟩,⟨lt_ok rfl,rfl,rfl,rfl,rfl,rfl,⟨rfl,rfl⟩,⟨rfl,rfl⟩,⟨rfl,rfl⟩,⟨rfl,rfl⟩,⟨rfl,rfl⟩,⟨rfl,rfl⟩,trivial⟩,trivial⟩ ⟨⟨rfl,rfl,rfl,lt_ok rfl,_,rfl⟩,⟨rfl,rfl,rfl,lt_ok rfl,_,rfl⟩,⟨rfl,rfl,rfl,lt_ok rfl,_,rfl⟩,rfl,⟨rfl,rfl,rfl,lt_ok rfl,_,rfl⟩,wd,⟨rfl,rfl,rfl,lt_ok rfl,_,rfl⟩,rfl,rfl,trivial⟩ trivial⟩⟩
     ·have h2:(BP.length:Int)≤(i:Int)+1+d:=ltF h2
      have hd:d=BP.length - (i+1):=by omega
      have hiB1:i+1≤BP.length:=by omega
      have hμi:BP.length - (i+1) < BP.length - i:=by omega
      have wi:PV.val (.int .i64 (IntKind.i64.wrap ((i:Int)+1)))=PV.val (goInt ((i+1:Nat):Int)):=by
       rw [wrap64 (by omega) (by omega)]
       rfl
      have e3:lnkI S (vertP BP) BP.length (i+1)=lnkI S (vertP BP) BP.length i++lnkJ S (vertP BP) i d:=by rw [hd,lnkI]
      have hn0:(lnkI S (vertP BP) BP.length (i+1)).length=(lnkI S (vertP BP) BP.length i++lnkJ S (vertP BP) i d).length:=by rw [e3]
      have hr0:∀t,t < (lnkI S (vertP BP) BP.length i++lnkJ S (vertP BP) i d).length→cellsQ (qL (lnkI S (vertP BP) BP.length (i+1)) t)=cellsQ (qL (lnkI S (vertP BP) BP.length i++lnkJ S (vertP BP) i d) t):=fun t _=>by rw [e3]
      with_unfolding_all exact⟨i+1,[some 0,some 1,some 2,some 3,some 4],hiB1,hμi,Weak.of (by simp) ⟨⟨lt_ok rfl,rfl,rfl,rfl,rfl,rfl,⟨rfl,rfl⟩,⟨rfl,rfl⟩,⟨rfl,rfl⟩,⟨rfl,rfl⟩,⟨rfl,rfl⟩,⟨rfl,rfl⟩,⟨rfl,rfl⟩,⟨rfl,rfl⟩,⟨rfl,rfl⟩,⟨rfl,rfl⟩,⟨rfl,rfl⟩,⟨rfl,rfl⟩,⟨⟨rfl,rfl,fun _ _=>rfl⟩,rfl⟩,⟨⟨rfl,rfl,fun _ _=>rfl⟩,rfl⟩,trivial⟩,⟨lt_ok rfl,rfl,rfl,rfl,rfl,rfl,⟨rfl,rfl⟩,⟨rfl,rfl⟩,trivial⟩,⟨lt_ok rfl,rfl,rfl,rfl,rfl,rfl,⟨⟨rfl,rfl,rfl,lt_ok rfl,_,rfl⟩,rfl⟩,⟨⟨rfl,rfl,hn0.symm,lt_ok rfl,_,rfl⟩,rfl⟩,trivial⟩,⟨lt_ok rfl,rfl,rfl,rfl,rfl,rfl,fun _ _=>rfl⟩,⟨lt_ok rfl,rfl,rfl,rfl,rfl,hn0,hr0⟩,trivial⟩ ⟨⟨rfl,rfl,rfl,lt_ok rfl,_,rfl⟩,⟨rfl,rfl,rfl,lt_ok rfl,_,rfl⟩,⟨rfl,rfl,rfl,lt_ok rfl,_,rfl⟩,⟨rfl,rfl,rfl,lt_ok rfl,_,rfl⟩,rfl,wi,trivial⟩ trivial⟩
    ·have h1:(BP.length:Int)≤i:=ltF h1
     have hi2:i=BP.length:=by omega
     have e5:lnkI S (vertP BP) BP.length i=BL:=by rw [e2,hi2]
     have v7:PV.val (.int .i64 0)=PV.val (.int .i64 BE):=by rw [hb0]
     have rp:∀t,t < BP.length→(vertP BP t).cells=(vertP BP (0+t)).cells:=fun t _=>by rw [Nat.zero_add]
     have rl:∀t,t < BL.length→cellsQ (qL BL t)=cellsQ (qL (lnkI S (vertP BP) BP.length i) (0+t)):=fun t _=>by rw [e5,Nat.zero_add]
     with_unfolding_all exact⟨[some 1],stOf [(6,.ptr 0 0 0 0),(7,.val (.int .i64 BE))] [⟨37,2,0,true,false,1,fun _=>[.rs 6 BP.length (fun i=>(vertP BP i).cells),.rs 2 BL.length (fun i=>cellsQ (qL BL i))]⟩] 1 [],Weak.of (by simp) ⟨⟨lt_ok rfl,rfl,rfl,rfl,rfl,rfl,⟨⟨by simp,_,rfl,rfl,rfl,rfl,rp⟩,rfl⟩,⟨⟨by simp,_,rfl,rfl,rfl,congrArg List.length e5,rl⟩,rfl⟩,trivial⟩,trivial⟩ ⟨⟨rfl,rfl,rfl,lt_ok rfl,_,rfl⟩,v7,trivial⟩ trivial,rfl,rfl⟩
 ·cases e
end Go.Proofs
namespace Go.Proofs
open Go Go.Ex Go.Num
set_option maxRecDepth 100000
def exLo:PtS:=⟨⟨false,⟨#[]⟩,⟨#[]⟩⟩,⟨false,⟨#[]⟩,⟨#[]⟩⟩⟩
def exPt (x y:Int):PtS:=ptQ (mkRat x 1) (mkRat y 1)
def exHi:PtS:=exPt 10 10
def exLs:List PV:=(exPt 4 4).cells++((exPt 6 4).cells++((exPt 6 6).cells++(exPt 4 6).cells))
def exC:Nat→List PV:=fun _=>[.rs 6 4 (fun i=>chunk 6 exLs (0+i))]
def exO:Nat→List PV:=fun _=>cellsO (0,0,0)
def exBP:List PtS:=[exPt 0 5,exPt 10 5,exPt 4 4,exPt 4 6,exPt 6 4,exPt 6 6]
def exQ:List (Int×Int):=[(0,2),(0,3),(1,4),(1,5),(2,3),(2,4),(3,5),(4,5)]
def exG:Nat→List PV:=fun i=>(vertP exBP i).cells
def exH:Nat→List PV:=fun i=>cellsQ (qL exQ i)
theorem x1:okB exLo exHi 1 exC 1 exO (segV (exPt 0 5) (exPt 10 5))=true:=by kernel_rfl
theorem x2:seeB exLo exHi 1 exC 1 exO (exPt 0 5) (exPt 10 5)=false:=by kernel_rfl
theorem x3:(vertC exLo exHi 1 exC 1 exO).length=4:=by kernel_rfl
theorem x4:(List.range 3).all (fun i=>!eqP (cornP exLo exHi 1 exC 1 exO (i+1)) (cornP exLo exHi 1 exC 1 exO i))=true:=by kernel_rfl
theorem x5:bErr exLo exHi 1 exC 1 exO (exPt 0 5) (exPt 10 5)=0:=by kernel_rfl
theorem x6:bPts exLo exHi 1 exC 1 exO (exPt 0 5) (exPt 10 5)=exBP:=by kernel_rfl
theorem x7:bLks exLo exHi 1 exC 1 exO (exPt 0 5) (exPt 10 5)=exQ:=by kernel_rfl
theorem x8:okT exLo exHi 1 exC 1 exO 6 exG 8 exH=true:=by kernel_rfl
theorem x9:tgtR exLo exHi 1 exC 1 exO 6 exG 8 exH=exQ:=by kernel_rfl
end Go.Proofs
namespace Go.Proofs
open Go Go.Ex Go.Num
set_option maxRecDepth 100000
theorem exP (x y:Int) (hx:x.natAbs < 256) (hy:y.natAbs < 256):(exPt x y).le 10000:=by
 have q:∀z:Int,z.natAbs < 256→QB 1 (mkRat z 1):=fun z hz=>by
  have e:mkRat z 1=(z:Rat):=by simp [Rat.mkRat_one]
  rw [e]
  exact⟨hz,show(1:Nat) < 256^1 by decide⟩
 exact⟨(q x hx).rs.mono (by decide),(q y hy).rs.mono (by decide)⟩
theorem exPk (x y:Int) (hx:x.natAbs < 256) (hy:y.natAbs < 256):isPk 10000 (exPt x y).v:=⟨_,rfl,exP x y hx hy⟩
theorem exCL:isCL 10000 1 exC:=⟨fun i _=>⟨rfl,fun i hi=>by
  match i,hi with
  |0,_=>exact⟨rfl,exP 4 4 (by decide) (by decide)⟩
  |1,_=>exact⟨rfl,exP 6 4 (by decide) (by decide)⟩
  |2,_=>exact⟨rfl,exP 6 6 (by decide) (by decide)⟩
  |3,_=>exact⟨rfl,exP 4 6 (by decide) (by decide)⟩
  |i+4,h=>exact absurd h (show ¬i+4 < 4 by omega),show(4:Nat)≤140737488355328 by decide⟩,by decide⟩
def exR:List PV:=regC exLo exHi 1 exC 1 exO
theorem exRg:isRg 10000 exR:=⟨rfl,⟨⟨⟨by decide,by decide⟩,by decide,by decide⟩,exP 10 10 (by decide) (by decide)⟩,exCL,fun i _=>rfl,by decide⟩
def c53:List PV→Option Ans
 |[]=>some ⟨none,.agg exR,[]⟩
 |_=>none
theorem ok53:funcOk {} Tryz.f53 0=true:=by kernel_rfl
theorem f53:FnOk Tryz.prog 53 c53:=by
 refine FnOk.ofW orders (mkE_ok (l:=[(52,c52)]) (own:=[]) (inl:=[]) (by simp [f52]) (by simp)) Tryz.func53 {} 0 ok53 fun args r e=>?_
 unfold c53 at e
 split at e
 ·cases e
  refine⟨by simp,fun hm=>?_⟩
  refine⟨[],stOf [] [] 0 [],Weak.of (by simp) trivial trivial trivial,?_⟩
  have b:∀x:Int,0≤x∧x < 100→(-9223372036854775808≤x∧x < 9223372036854775808):=fun x h=>by omega
  have z1:∀(g h:Nat→List PV),g 0=h 0→∀i,i < 1→g i=h (0+i):=fun g h e i hi=>by
   obtain rfl:i=0:=by omega
   exact e
  with_unfolding_all exact⟨⟨b 10 (by decide),b 10 (by decide)⟩,⟨b 4 (by decide),b 4 (by decide)⟩,⟨b 6 (by decide),b 4 (by decide)⟩,⟨b 6 (by decide),b 6 (by decide)⟩,⟨b 4 (by decide),b 6 (by decide)⟩,[some 0],stOf [(0,.ptr 0 0 0 0)] [⟨31,14,0,true,false,1,fun _=>exR⟩] 1 [],Weak.of (by simp) ⟨⟨lt_ok rfl,rfl,rfl,rfl,rfl,rfl,⟨rfl,rfl⟩,⟨rfl,rfl⟩,⟨rfl,rfl⟩,⟨rfl,rfl⟩,⟨rfl,rfl⟩,⟨rfl,rfl⟩,⟨rfl,rfl⟩,⟨rfl,rfl⟩,⟨rfl,rfl⟩,⟨rfl,rfl⟩,⟨rfl,rfl⟩,⟨rfl,rfl⟩,⟨⟨by simp,_,rfl,rfl,rfl,rfl,z1 _ _ rfl⟩,rfl⟩,⟨⟨by simp,_,rfl,rfl,rfl,rfl,z1 _ _ rfl⟩,rfl⟩,trivial⟩,trivial⟩ ⟨⟨rfl,rfl,rfl,lt_ok rfl,_,rfl⟩,trivial⟩ trivial,rfl,rfl⟩
 ·cases e
theorem exIsPL:isPL 10000 6 exG:=⟨fun i hi=>by
 match i,hi with
 |0,_=>exact⟨rfl,exP 0 5 (by decide) (by decide)⟩
 |1,_=>exact⟨rfl,exP 10 5 (by decide) (by decide)⟩
 |2,_=>exact⟨rfl,exP 4 4 (by decide) (by decide)⟩
 |3,_=>exact⟨rfl,exP 4 6 (by decide) (by decide)⟩
 |4,_=>exact⟨rfl,exP 6 4 (by decide) (by decide)⟩
 |5,_=>exact⟨rfl,exP 6 6 (by decide) (by decide)⟩
 |i+6,h=>exact absurd h (show ¬i+6 < 6 by omega),by decide⟩
theorem exIsQL:isQL 8 exH:=⟨fun _ _=>rfl,by decide⟩
theorem rowQ {r:Nat→List PV} (h0:r 0=exH 0) (h1:r 1=exH 1) (h2:r 2=exH 2) (h3:r 3=exH 3) (h4:r 4=exH 4) (h5:r 5=exH 5) (h6:r 6=exH 6) (h7:r 7=exH 7):∀i,i < 8→r i=exH i:=fun i hi=>by
 match i,hi with
 |0,_=>exact h0
 |1,_=>exact h1
 |2,_=>exact h2
 |3,_=>exact h3
 |4,_=>exact h4
 |5,_=>exact h5
 |6,_=>exact h6
 |7,_=>exact h7
 |i+8,h=>exact absurd h (show ¬i+8 < 8 by omega)
theorem rowQ1 {r:Nat→List PV} (h:∀i,i < 8→r i=exH i):isQL 8 r:=⟨fun i hi=>by
 have e:=h i hi
 rw [prs,e]
 rfl,by decide⟩
theorem eqQ_refl (x:Int×Int):Num.eqQ x x=true:=by
 unfold Num.eqQ
 rw [beq_self_eq_true,beq_self_eq_true]
 rfl
theorem rowQ2 {g r:Nat→List PV} {n:Nat} (hn:n=8) (hg:∀i,i < 8→g i=exH i) (h:∀i,i < 8→r i=exH i):(decide (n=8)&&!anyP (fun i=>!Num.eqQ (prs g i) (prs r i)) n)=true:=by
 subst hn
 rw [anyP_false.2 fun i hi=>by rw [prs,prs,hg i hi,h i hi,eqQ_refl];rfl]
 rfl
def c13:List PV→Option Ans
 |[]=>some ⟨none,.val (.bool true),[]⟩
 |_=>none
def D13:Opt:={ perm:=atTs [(2,(.rd 1 (.rd 2 (.mk 0 (.mk 3 (.rd 4 (.rd 5 (.rd 6 .nil)))))))),(3,(.rd 1 (.rd 2 (.alt 0 (.alt 3 (.rd 4 (.rd 5 (.rd 6 (.mk 7 .nil)))) (.mk 7 (.mk 3 (.rd 4 (.rd 5 (.rd 6 .nil)))))) (.mk 7 (.mk 0 (.mk 3 (.rd 4 (.rd 5 (.rd 6 .nil)))))))))),(4,(.rd 1 (.mk 0 (.mk 2 (.rd 3 (.rd 4 (.rd 5 .nil)))))))],join:=fun c=>match c with | .region 3 _ _=>true|_=>false }
theorem ok13:funcOk D13.toOrd Tryz.f13 0=true:=by kernel_rfl
theorem f13:FnOk Tryz.prog 13 c13:=by
 refine FnOk.ofW orders (mkE_ok (l:=[(52,c52),(53,c53),(21,c21),(14,c14),(18,c18),(54,c54),(44,c44)]) (own:=[]) (inl:=[]) (by simp [f52,f53,f21,f14,f18,f54,f44]) (by simp)) Tryz.func13 D13 0 ok13 fun args r e=>?_
 unfold c13 at e
 split at e
 ·cases e
  refine⟨by simp,fun hm=>?_⟩
  refine⟨[],stOf [] [] 0 [],Weak.of (by simp) trivial trivial trivial,?_⟩
  have b:∀x:Int,0≤x∧x < 100→(-9223372036854775808≤x∧x < 9223372036854775808):=fun x h=>by omega
  have pa:isPk 10000 (exPt 0 5).v:=exPk 0 5 (by decide) (by decide)
  have pb:isPk 10000 (exPt 10 5).v:=exPk 10 5 (by decide) (by decide)
  have pd:∀i,i+1 < (vertC exLo exHi 1 exC 1 exO).length→eqP (cornP exLo exHi 1 exC 1 exO (i+1)) (cornP exLo exHi 1 exC 1 exO i)=false:=fun i hi=>by
   rw [x3] at hi
   have:=List.all_eq_true.1 x4 i (List.mem_range.2 (by omega))
   simpa using this
  have pc:(vertC exLo exHi 1 exC 1 exO).length≤12:=by rw [x3];decide
  with_unfolding_all refine⟨⟨b 0 (by decide),b 5 (by decide)⟩,⟨b 10 (by decide),b 5 (by decide)⟩,⟨exRg,pa,pb⟩,?_⟩
  have v3:PV.val (.bool (seeB exLo exHi 1 exC 1 exO (exPt 0 5) (exPt 10 5)))=PV.val (.bool false):=by rw [x2]
  have v4:PV.val (.int .i64 (okW (okB exLo exHi 1 exC 1 exO (segV (exPt 0 5) (exPt 10 5)))))=PV.val (.int .i64 0):=by
   rw [x1]
   rfl
  have v6:PV.val (.int .i64 (bErr exLo exHi 1 exC 1 exO (exPt 0 5) (exPt 10 5)))=PV.val (.int .i64 0):=by rw [x5]
  have w1:(bPts exLo exHi 1 exC 1 exO (exPt 0 5) (exPt 10 5)).length=6:=by
   rw [x6]
   rfl
  have w2:∀i,i < 6→exG i=(vertP (bPts exLo exHi 1 exC 1 exO (exPt 0 5) (exPt 10 5)) i).cells:=fun i _=>by
   rw [x6]
   rfl
  have w3:(bLks exLo exHi 1 exC 1 exO (exPt 0 5) (exPt 10 5)).length=8:=by
   rw [x7]
   rfl
  have w4:∀i,i < 8→exH i=cellsQ (qL (bLks exLo exHi 1 exC 1 exO (exPt 0 5) (exPt 10 5)) i):=fun i _=>by
   rw [x7]
   rfl
  with_unfolding_all refine⟨Unit,fun _=>True,fun _=>stOf [(0,.val (.bool false)),(3,.val (.bool false)),(4,.val (.int .i64 0)),(5,.ptr 0 0 0 0),(6,.val (.int .i64 0))] [⟨37,2,0,true,false,1,fun _=>[.rs 6 6 exG,.rs 2 8 exH]⟩] 1 [],⟨⟨⟨⟨⟨exRg,pa,pb⟩,pc,pd⟩,⟨(),[some 2],trivial,Weak.of (by simp) ⟨⟨lt_ok rfl,rfl,rfl,rfl,rfl,rfl,⟨⟨rfl,w1,w2⟩,rfl⟩,⟨⟨rfl,w3,w4⟩,rfl⟩,trivial⟩,trivial⟩ ⟨rfl,v3,v4,⟨rfl,rfl,rfl,lt_ok rfl,_,rfl⟩,v6,trivial⟩ trivial⟩⟩,⟨⟨⟨exRg,pa,pb⟩,pc,pd⟩,⟨(),[some 2],trivial,Weak.of (by simp) ⟨⟨lt_ok rfl,rfl,rfl,rfl,rfl,rfl,⟨⟨rfl,w1,w2⟩,rfl⟩,⟨⟨rfl,w3,w4⟩,rfl⟩,trivial⟩,trivial⟩ ⟨rfl,v3,v4,⟨rfl,rfl,rfl,lt_ok rfl,_,rfl⟩,v6,trivial⟩ trivial⟩⟩⟩,⟨⟨⟨exRg,pa,pb⟩,pc,pd⟩,⟨(),[some 2],trivial,Weak.of (by simp) ⟨⟨lt_ok rfl,rfl,rfl,rfl,rfl,rfl,⟨⟨rfl,w1,w2⟩,rfl⟩,⟨⟨rfl,w3,w4⟩,rfl⟩,trivial⟩,trivial⟩ ⟨rfl,v3,v4,⟨rfl,rfl,rfl,lt_ok rfl,_,rfl⟩,v6,trivial⟩ trivial⟩⟩⟩,fun _ _=>?_⟩
  have F3:(okW (okT exLo exHi 1 exC 1 exO 6 exG 8 exH)==0)=true:=by
   rw [x8]
   rfl
  have F6:eqP (vertP exBP 2) (exPt 4 4)=true:=by kernel_rfl
  have ht:(tgtR exLo exHi 1 exC 1 exO 6 exG 8 exH).length=8:=by
   rw [x9]
   rfl
  have hg:∀i,i < 8→cellsQ (qL (tgtR exLo exHi 1 exC 1 exO 6 exG 8 exH) i)=exH i:=fun i _=>by
   rw [x9]
   rfl
  have qt:isQL (tgtR exLo exHi 1 exC 1 exO 6 exG 8 exH).length (fun i=>cellsQ (qL (tgtR exLo exHi 1 exC 1 exO 6 exG 8 exH) i)):=by
   rw [ht]
   exact rowQ1 hg
  have v0:∀B,B=true→PV.val (.bool B)=PV.val (.bool true):=fun B h=>by rw [h]
  have one:(0==(0:Int))=true:=rfl
  with_unfolding_all exact⟨⟨exRg,exIsPL,exIsQL⟩,⟨fun h1=>⟨fun h2=>⟨fun h3=>⟨fun h4=>⟨fun h5=>⟨⟨by decide,by decide⟩,⟨b 4 (by decide),b 4 (by decide)⟩,⟨fun h6=>⟨⟨exIsQL,rowQ1 (rowQ rfl rfl rfl rfl rfl rfl rfl rfl)⟩,⟨fun h7=>⟨⟨qt,rowQ1 (rowQ rfl rfl rfl rfl rfl rfl rfl rfl)⟩,[],stOf [(0,.val (.bool true))] [] 0 [],Weak.of (by simp) trivial ⟨v0 _ (rowQ2 ht hg (rowQ rfl rfl rfl rfl rfl rfl rfl rfl)),trivial⟩ trivial,rfl,rfl⟩,fun h=>absurd (h.symm.trans (rowQ2 rfl (fun _ _=>rfl) (rowQ rfl rfl rfl rfl rfl rfl rfl rfl))) (by decide)⟩⟩,fun h=>absurd (h.symm.trans F6) (by decide)⟩⟩,fun h=>absurd (h.symm.trans rfl) (by decide)⟩,fun h=>absurd (h.symm.trans rfl) (by decide)⟩,fun h=>absurd (h.symm.trans F3) (by decide)⟩,fun h=>absurd (h.symm.trans one) (by decide)⟩,fun h=>absurd (h.symm.trans one) (by decide)⟩⟩
 ·cases e
end Go.Proofs
namespace Go.Ex
open Go Go.RowKit
section
variable {H:Type} {enc:TypeId×Value→H} {P:Program} {w:World}
def TypFs (T:TypeId→List PV→Prop):List Field→List PV→Prop
 |[],ps=>ps=[]
 |f::fs,ps=>∃qs rs,ps=qs++rs∧T f.type qs∧TypFs T fs rs
def Typ (P:Program):Nat→TypeId→List PV→Prop
 |0,_,_=>False
 |d+1,t,ps=>match P.underlying t with
  |some .bool=>∃b,ps=[.val (.bool b)]
  |some (.int k)=>∃z,ps=[.val (.int k z)]∧(Lit.int k z).wf=true
  |some .string=>∃s:ByteArray,ps=[.val (.string s)]∧s.size≤140737488355328
  |some (.slice e)=>∃m g,ps=[.rs (P.cellsOf e) m g]∧m≤140737488355328∧∀i,i < m→Typ P d e (g i)
  |some (.struct fs)=>TypFs (Typ P d) fs.toList ps
  |_=>False
def tile (P:Program):Nat→List Field→Option Nat
 |o,[]=>some o
 |o,f::fs=>if f.offset=o then tile P (o+P.cellsOf f.type) fs else none
def plainT (P:Program):Nat→TypeId→Bool
 |0,_=>false
 |d+1,t=>match P.underlying t with
  |some .bool|some (.int _)|some .string=>true
  |some (.slice e)=>plainT P d e&&decide (0 < P.cellsOf e)&&decide (0 < P.bytesOf e)
  |some (.struct fs)=>fs.toList.all (fun f=>plainT P d f.type)&&decide (tile P 0 fs.toList=some (P.cellsOf t))
  |_=>false
def Pt (A:Nat→Prop) (w:World) (ps:List PV) (cs:List Value):Prop:=ps.length=cs.length∧∀(i:Nat) p u,ps[i]? = some p→cs[i]? = some u→R0 A w p u∧cellOk p=true
theorem Pt.append {A:Nat→Prop} {ps qs:List PV} {cs ds:List Value} (h:Pt A w ps cs) (k:Pt A w qs ds):Pt A w (ps++qs) (cs++ds):=by
 refine⟨by rw [List.length_append,List.length_append,h.1,k.1],fun i p u hp hu=>?_⟩
 rw [List.getElem?_append] at hp hu
 rw [←h.1] at hu
 split at hp
 ·rename_i hi
  rw [if_pos hi] at hu
  exact h.2 i p u hp hu
 ·rename_i hi
  rw [if_neg hi] at hu
  exact k.2 _ p u hp hu
theorem fields_typ {A:Nat→Prop} {d n:Nat} {cs:List Value} (hn:cs.length=n):∀{fs:List Field} {o:Nat},tile P o fs=some n →
  (∀f∈fs,∃ps,Typ P d f.type ps∧Pt A w ps ((cs.drop f.offset).take (P.cellsOf f.type)))→∃ps,TypFs (Typ P d) fs ps∧Pt A w ps (cs.drop o)
 |[],o,h,_=>by
  cases h
  refine⟨[],rfl,?_,fun i p u hp=>by simp at hp⟩
  rw [List.length_drop]
  simp only [List.length_nil]
  omega
 |f::fs,o,h,hf=>by
  unfold tile at h
  split at h
  ·rename_i e
   obtain⟨rs,h1,h2⟩:=fields_typ hn h fun f hf'=>hf f (List.mem_cons_of_mem _ hf')
   obtain⟨qs,h3,h4⟩:=hf f List.mem_cons_self
   refine⟨qs++rs,⟨qs,rs,rfl,h3,h1⟩,?_⟩
   rw [e] at h4
   have:=h4.append h2
   rw [←List.drop_drop,List.take_append_drop] at this
   exact this
  ·cases h
theorem trod_typ {A:Nat→Prop} (hA:∀k,k < w.heap.size→A k) {base:Nat} {spare:Nat→Bool} {held:Bool}:∀(d fuel:Nat) {t:TypeId} {cs:List Value} {x:DataW H×List MemPlace},plainT P d t=true →
  DataW.trod enc P w base spare held fuel t cs=some x→(∀n∈x.1.weights P t,n≤reachBytes)→∃ps,Typ P d t ps∧Pt A w ps cs
 |0,_,_,_,_,hp,_,_=>by simp [plainT] at hp
 |d+1,fuel,t,cs,x,hp,h,hw=>by
  have one:∀v:Value,v.oneCell'=true→Pt A w [.val v] [v]:=fun v hv=>⟨rfl,fun i p u h1 h2=>by
   match i with
   |0=>cases h1;cases h2;exact⟨.val v,hv⟩
   |i+1=>simp at h1⟩
  unfold plainT at hp
  unfold Typ
  split at hp
  ·rename_i ht
   obtain⟨b,rfl,rfl⟩:=DataW.trod_bool ht h
   exact⟨_,⟨b,rfl⟩,one _ rfl⟩
  ·rename_i k ht
   obtain⟨b,rfl,rfl,hb⟩:=DataW.trod_int ht h
   exact⟨_,⟨b,rfl,hb⟩,one _ rfl⟩
  ·rename_i ht
   obtain⟨b,rfl,rfl,hb⟩:=DataW.trod_string ht h
   have:=hw b.data.toList.length (by simp [DataW.weights])
   have e:b.data.toList.length=b.size:=Array.length_toList
   refine⟨_,⟨b,rfl,?_⟩,one _ rfl⟩
   rw [e] at this
   unfold reachBytes at this
   omega
  ·rename_i e ht
   simp only [Bool.and_eq_true,decide_eq_true_eq] at hp
   obtain⟨⟨hpe,hce⟩,hbe⟩:=hp
   rcases Deep.open_slice ht h with ⟨rfl,rfl⟩|⟨a,len,cap,m,n,D,Pl,rfl,hb,hl,hm,hme,rfl,hel⟩
   ·refine⟨[.rs (P.cellsOf e) 0 fun _=>[]],⟨0,_,rfl,Nat.zero_le _,fun i hi=>absurd hi (Nat.not_lt_zero i)⟩,rfl,fun i p u h1 h2=>?_⟩
    match i with
    |0=>cases h1;cases h2;exact⟨.rs _ _ _ _ _ (fun _ _=>undef) (fun i hi=>absurd hi (Nat.not_lt_zero i)) (Nat.le_refl _) (Nat.zero_le _) (fun i f p hi=>absurd hi (Nat.not_lt_zero i)) (fun i f p hi=>absurd hi (Nat.not_lt_zero i)),rfl⟩
    |i+1=>simp at h1
   ·have hlm:len≤m:=by rw [hme];split<;>omega
    have hsz:((List.range len).map D).length*P.bytesOf e≤reachBytes:=by
     refine Nat.le_trans (Nat.mul_le_mul_right _ (Nat.le_add_right _ ((List.range (m - len)).map fun j=>D (len+j)).length)) (hw _ ?_)
     simp [DataW.weights,ht]
    rw [List.length_map,List.length_range] at hsz
    have hlen:len≤140737488355328:=by
     have:=Nat.le_mul_of_pos_right len hbe
     unfold reachBytes at hsz
     omega
    have hall:∀ds:List (DataW H),∀y∈ds,∀k∈y.weights P e,k∈DataW.weightsAll P e ds:=fun ds=>by
     induction ds with
     |nil=>intro y hy;simp at hy
     |cons z r ih =>
      intro y hy k hk
      rw [DataW.weightsAll,List.mem_append]
      rcases List.mem_cons.1 hy with rfl|hy
      ·exact .inl hk
      ·exact .inr (ih y hy k hk)
    have key:∀i,i < len→∃z:List PV×List Value,Typ P d e z.1∧Pt A w z.1 z.2∧z.2.length=P.cellsOf e∧∀f,f < P.cellsOf e→w.cell? ((a.add (i*P.cellsOf e)).add f)=z.2[f]?:=fun i hi=>by
     obtain⟨cs',h1,h2⟩:=hel i (by omega)
     obtain⟨ps,k1,k2⟩:=trod_typ hA d n hpe h2 (fun k hk=>hw k (by
      simp only [DataW.weights,ht,List.mem_cons,List.mem_append]
      exact .inr (.inl (hall _ (D i) (List.mem_map.2 ⟨i,List.mem_range.2 hi,rfl⟩) k hk))))
     obtain⟨_,c2,c3⟩:=World.cells?_some h1
     exact⟨(ps,cs'),k1,k2,c2,c3⟩
    obtain⟨z,hz⟩:=Deep.choose_lt key
    have hspot:0 < len→a.spot=none:=fun h0=>by
     obtain⟨_,_,c1,c2⟩:=hz 0 h0
     have:=c2 0 hce
     rw [List.getElem?_eq_getElem (by omega),Nat.zero_mul] at this
     unfold Addr.add at this
     rw [if_pos rfl,if_pos rfl] at this
     unfold World.cell? at this
     split at this
     ·split at this
      ·cases this
      ·rename_i hs
       cases hsp:a.spot with
       |none=>rfl
       |some _=>rw [hsp] at hs;exact absurd rfl hs
     ·cases this
    have hadd:∀i f,0 < len→(a.add (i*P.cellsOf e)).add f=⟨a.block,a.off+(i*P.cellsOf e+f),none⟩:=fun i f h0=>by
     have hs:=hspot h0
     obtain⟨b,o,s⟩:=a
     cases hs
     rw [WideShapes.add_plain,WideShapes.add_plain,Nat.add_assoc]
    have hcell:∀i f p,i < len→(z i).1[f]? = some p→∃u,(z i).2[f]? = some u∧w.cell? ⟨a.block,a.off+(i*P.cellsOf e+f),none⟩=some u:=fun i f p hi hp=>by
     obtain⟨_,⟨k1,_⟩,k3,k4⟩:=hz i hi
     obtain⟨hf,_⟩:=List.getElem?_eq_some_iff.1 hp
     have:=k4 f (by omega)
     rw [hadd i f (by omega)] at this
     rw [this]
     exact⟨(z i).2[f]'(by omega),List.getElem?_eq_getElem _,List.getElem?_eq_getElem _⟩
    refine⟨[.rs (P.cellsOf e) len fun i=>(z i).1],⟨len,_,rfl,hlen,fun i hi=>(hz i hi).1⟩,rfl,fun i p u h1 h2=>?_⟩
    match i with
    |i+1=>simp at h1
    |0 =>
     cases h1
     cases h2
     refine⟨.rs _ _ _ _ _ (fun i f=>((z i).2[f]?).getD undef) (fun i hi=>?_) hl hm (fun i f p hi hp=>?_) (fun i f p hi hp=>?_),rfl⟩
     ·obtain⟨_,⟨k1,k2⟩,k3,_⟩:=hz i hi
      refine⟨k1.trans k3,fun p hp=>?_⟩
      obtain⟨f,hf⟩:=List.getElem?_of_mem hp
      obtain⟨hf',_⟩:=List.getElem?_eq_some_iff.1 hf
      exact(k2 f p _ hf (List.getElem?_eq_getElem (show f < (z i).2.length by omega))).2
     ·obtain⟨u,e1,e2⟩:=hcell i f p hi hp
      obtain⟨b,o,s⟩:=a
      have hs:s=none:=hspot (show 0 < len by omega)
      subst hs
      refine⟨b,o,rfl,hA _ ?_,?_⟩
      ·exact Nat.lt_of_not_le fun hge=>by
        unfold World.cell? at e2
        rw [show w.heap[(⟨b,o+(i*P.cellsOf e+f),none⟩:Addr).block]? = none from Array.getElem?_eq_none hge] at e2
        cases e2
      ·rw [e2,e1]
       rfl
     ·obtain⟨u,e1,e2⟩:=hcell i f p hi hp
      rw [e1]
      exact((hz i hi).2.1.2 f p u hp e1).1
  ·rename_i fs ht
   simp only [Bool.and_eq_true,decide_eq_true_eq,List.all_eq_true] at hp
   obtain⟨xs,n,rfl,rfl,hl,hlen,hf⟩:=DataW.trod_struct ht h
   obtain⟨ps,h1,h2⟩:=fields_typ (P:=P) (A:=A) (w:=w) (d:=d) hl hp.2 fun f hm=>by
    obtain⟨i,hi⟩:=List.getElem?_of_mem hm
    have hi':fs[i]? = some f:=by rw [←hi,Array.getElem?_toList]
    have h1:=hf i f hi'
    obtain⟨hil,_⟩:=List.getElem?_eq_some_iff.1 hi
    have hil':i < xs.length:=by rw [hlen];simpa using hil
    rw [List.getElem?_eq_getElem hil'] at h1
    refine trod_typ hA d n (hp.1 f hm) h1 fun k hk=>hw k ?_
    have e2:DataW.weights P t (.agg (xs.map (·.1)))=DataW.weightsEach P (fs.toList.map (·.type)) (xs.map (·.1)):=by simp only [DataW.weights,ht]
    show k∈DataW.weights P t (.agg (xs.map (·.1)))
    rw [e2]
    exact DataW.weights_mem_each (j:=i) (t:=f.type) (d:=xs[i].1) (by rw [List.getElem?_map,hi];rfl) (by rw [List.getElem?_map,List.getElem?_eq_getElem hil'];rfl) k hk
   exact⟨ps,h1,h2⟩
  ·cases hp
def TypV (P:Program) (d:Nat) (t:TypeId) (p:PV):Prop:=match P.underlying t with
 |some (.struct _)=>∃xs,p=.agg xs∧Typ P d t xs
 |_=>Typ P d t [p]
def TypAll (P:Program) (d:Nat):List TypeId→List PV→Prop
 |[],ps=>ps=[]
 |t::ts,ps=>∃p qs,ps=p::qs∧TypV P d t p∧TypAll P d ts qs
theorem trod_typV {A:Nat→Prop} (hA:∀k,k < w.heap.size→A k) {base base':Nat} {spare:Nat→Bool} {held:Bool} {r:Reach} {d:Nat} {t:TypeId} {v:Value} {y:DataW H} {q:List MemPlace} (hp:plainT P d t=true)
  (h:DataW.Trod enc P w base spare held t v y q) (hv:Value.okWide P w r base' t v) (hw:∀n∈y.weights P t,n≤reachBytes):∃p,TypV P d t p∧R0 A w p v:=by
 obtain⟨fuel,h⟩:=h
 obtain⟨ps,h1,h2⟩:=trod_typ hA d fuel hp h hw
 have one:v.cells.toList=[v]→∃p,ps=[p]∧R0 A w p v:=fun e=>by
  rw [e] at h2
  match ps,h2 with
  |[p],h2=>exact⟨p,rfl,(h2.2 0 p v rfl rfl).1⟩
  |[],h2=>exact absurd h2.1 (by simp)
  |_::_::_,h2=>exact absurd h2.1 (by simp)
 unfold TypV
 match d,hp with
 |d+1,hp =>
  unfold plainT at hp
  split at hp
  ·rename_i ht
   obtain⟨b,rfl⟩:=WideShapes.okWide_bool ht hv
   obtain⟨p,rfl,hr⟩:=one rfl
   rw [ht]
   exact⟨p,h1,hr⟩
  ·rename_i k ht
   obtain⟨b,rfl⟩:=WideShapes.okWide_int ht hv
   obtain⟨p,rfl,hr⟩:=one rfl
   rw [ht]
   exact⟨p,h1,hr⟩
  ·rename_i ht
   obtain⟨b,rfl⟩:=WideShapes.okWide_string ht hv
   obtain⟨p,rfl,hr⟩:=one rfl
   rw [ht]
   exact⟨p,h1,hr⟩
  ·rename_i e ht
   obtain⟨a,len,cap,rfl⟩:=WideShapes.okWide_slice ht hv
   obtain⟨p,rfl,hr⟩:=one rfl
   rw [ht]
   exact⟨p,h1,hr⟩
  ·rename_i fs ht
   obtain⟨cs,rfl,_⟩:=WideShapes.okWide_struct ht hv
   rw [ht]
   have h2':Pt A w ps cs.toList:=h2
   exact⟨.agg ps,⟨ps,rfl,h1⟩,.agg ps cs (by simpa using h2'.1) fun i p u hp hu=>(h2'.2 i p u hp (by rw [Array.getElem?_toList];exact hu)).1⟩
  ·cases hp
theorem trodAll_typ {A:Nat→Prop} (hA:∀k,k < w.heap.size→A k) {base base':Nat} {spare:Nat→Bool} {held:Bool} {r:Reach} {d:Nat}:∀{ts:List TypeId} {vs:List Value} {ds:List (DataW H)} {q:List MemPlace},(∀t∈ts,plainT P d t=true) →
  DataW.TrodAll enc P w base spare held ts vs ds q→(∀(j:Nat) t v,ts[j]? = some t→vs[j]? = some v→Value.okWide P w r base' t v)→(∀n∈DataW.weightsEach P ts ds,n≤reachBytes) →
  ∃ps,TypAll P d ts ps∧ps.length=vs.length∧∀(i:Nat) p v,ps[i]? = some p→vs[i]? = some v→R0 A w p v
 |[],[],_,_,_,_,_,_=>⟨[],rfl,rfl,fun i p v h=>by simp at h⟩
 |[],_::_,_,_,_,h,_,_=>h.elim
 |_::_,[],_,_,_,h,_,_=>h.elim
 |_::_,_::_,[],_,_,h,_,_=>h.elim
 |t::ts,v::vs,y::ds,q,hp,h,hv,hw=>by
  obtain⟨q1,q2,h1,h2,_⟩:=h
  obtain⟨p,k1,k2⟩:=trod_typV (A:=A) hA (hp t List.mem_cons_self) h1 (hv 0 t v rfl rfl) fun n hn=>hw n (by rw [DataW.weightsEach,List.mem_append];exact .inl hn)
  obtain⟨ps,k3,k4,k5⟩:=trodAll_typ hA (fun t ht=>hp t (List.mem_cons_of_mem _ ht)) h2 (fun j t' v' a b=>hv (j+1) t' v' (by simpa using a) (by simpa using b)) fun n hn=>hw n (by rw [DataW.weightsEach,List.mem_append];exact .inr hn)
  refine⟨p::ps,⟨p,ps,rfl,k1,k3⟩,by simp [k4],fun i p' v' a b=>?_⟩
  match i with
  |0=>cases a;cases b;exact k2
  |i+1=>exact k5 i p' v' (by simpa using a) (by simpa using b)
theorem trodAll_below (hl:laidOutB P=true) {w':World} (hb:Below w.heap.size w w'):∀{ts:List TypeId} {vs:List Value} {ds:List (DataW H)} {q:List MemPlace},(∀t∈ts,P.readableRec t=true∧t < P.types.size) →
  DataW.TrodAll enc P w 0 (fun _=>true) true ts vs ds q→(∀x∈q,x.block < w.heap.size)→DataW.TrodAll enc P w' 0 (fun b=>decide (b < w.heap.size)) true ts vs ds q
 |[],[],[],_,_,h,_=>h
 |[],[],_::_,_,_,h,_=>h.elim
 |[],_::_,_,_,_,h,_=>h.elim
 |_::_,[],_,_,_,h,_=>h.elim
 |_::_,_::_,[],_,_,h,_=>h.elim
 |t::ts,v::vs,y::ds,q,hp,h,hq=>by
  obtain⟨q1,q2,h1,h2,rfl⟩:=h
  exact⟨q1,q2,Below.trod hl (hp t List.mem_cons_self).1 (hp t List.mem_cons_self).2 h1 hb fun x hx=>hq x (List.mem_append.2 (.inl hx)),
   trodAll_below hl hb (fun t ht=>hp t (List.mem_cons_of_mem _ ht)) h2 fun x hx=>hq x (List.mem_append.2 (.inr hx)),rfl⟩
theorem law_contract (hl:laidOutB P=true) {f:FuncId} {fn:Func} {s:ChangeSpec} {d tb:Nat} {c:List PV→Option Ans} (hv:s.vars=[]) (hs:∀ds:List (DataW H),ds.length=fn.params.size→s.fn H ds={ results:=[.lit (.bool true)],args:=ds })
  (hr:fn.resultTypes = #[tb]) (ht:P.underlying tb=some .bool) (hp:(fn.params.toList.all fun t=>plainT P d t&&P.readableRec t&&decide (t < P.types.size))=true) (hc:FnOk P f c)
  (hd:∀ps,TypAll P d fn.params.toList ps→∃pre,c ps=some ⟨pre,.val (.bool true),[]⟩∧Met pre)
  (W:World) (base:Nat) (args:Array Value) (ds gs:List (DataW H)) (before:List MemPlace)
  (hval:∀(j:Nat) t v,fn.params[j]? = some t→args[j]? = some v→Value.okWide P W .any base t v)
  (hW:DataW.Whole enc P fn.params.toList s.vars false W args.toList ds gs before)
  (hsz:(DataW.weightsEach P (fn.params.toList++s.plain.varTypes P) (ds++gs)).all (·≤reachBytes)=true) :
  Calls P f args W fun e W'=>∃v,e=.returned v∧s.post enc P fn false true false false W args v W':=by
 have hW':=hW
 obtain⟨p,q,hA,hV,rfl,hfz,hnd⟩:=hW
 rw [hv] at hV
 obtain⟨rfl,rfl⟩:=ChangeShapes.trodVars_none hV
 have hp':∀t∈fn.params.toList,plainT P d t=true∧P.readableRec t=true∧t < P.types.size:=fun t h=>by
  have:=List.all_eq_true.1 hp t h
  simp only [Bool.and_eq_true,decide_eq_true_eq] at this
  exact⟨this.1.1,this.1.2,this.2⟩
 have hvt:s.plain.varTypes P=[]:=by
  unfold DataSpec.varTypes ChangeSpec.plain
  rw [hv]
  rfl
 rw [hvt,List.append_nil,List.append_nil] at hsz
 obtain⟨ps,h1,h2,h3⟩:=trodAll_typ (A:=fun k=>k < W.heap.size) (fun k h=>h) (fun t h=>(hp' t h).1) hA (fun j t v a b=>hval j t v (by rw [←Array.getElem?_toList];exact a) (by rw [←Array.getElem?_toList];exact b)) fun n hn=>by simpa using List.all_eq_true.1 hsz n hn
 obtain⟨pre,h4,h5⟩:=hd ps h1
 have hlt:=hW'.lt
 rw [List.append_nil] at hlt
 refine((hc ps _ h4).2 h5 (fun k=>k < W.heap.size) W args (fun k h=>h) (by simpa using h2) fun i p v a b=>h3 i p v a (by rw [Array.getElem?_toList];exact b)).mono fun e W' ⟨v,β,he,hres⟩=>?_
 refine⟨v,he,?_⟩
 have hv':v=.bool true:=hres.val.val_eq
 subst hv'
 have hdl:ds.length=fn.params.size:=by
  have:∀{ts:List TypeId} {vs:List Value} {ds:List (DataW H)} {q:List MemPlace},DataW.TrodAll enc P W 0 (fun _=>true) true ts vs ds q→ds.length=ts.length:=fun {ts}=>by
   induction ts with
   |nil =>
    intro vs ds q h
    match vs,ds,h with
    |[],[],_=>rfl
   |cons t ts ih =>
    intro vs ds q h
    match vs,ds,h with
    |v::vs,y::ds,h =>
     obtain⟨_,_,_,h2,_⟩:=h
     rw [List.length_cons,List.length_cons,ih h2]
  rw [this hA]
  simp
 have hb:=hres.below
 refine⟨ds,[],p++[],[],p,[],hW',?_,?_,?_,hb.frame _,fun h=>by cases h⟩
 ·rw [hs (ds++[]) (by rw [List.append_nil];exact hdl),hr]
  exact⟨[],[],⟨1,by simp [DataW.trod,Value.cells,ht]⟩,rfl,rfl⟩
 ·rw [hs (ds++[]) (by rw [List.append_nil];exact hdl),List.append_nil]
  exact trodAll_below hl hb (fun t h=>(hp' t h).2) hA hlt
 ·rw [hv,hs (ds++[]) (by rw [List.append_nil];exact hdl)]
  rfl
end
end Go.Ex
namespace Go.Num
open Go Go.Ex Go.Proofs
theorem RchQ.trans {q:Nat→Int×Int} {m:Nat} {a b c:Int} (h:RchQ q m a b) (k:RchQ q m b c):RchQ q m a c:=by
 induction k with
 |refl=>exact h
 |fwd i hi _ ih=>exact .fwd i hi ih
 |bwd i hi _ ih=>exact .bwd i hi ih
theorem RchQ.symm {q:Nat→Int×Int} {m:Nat} {a b:Int} (h:RchQ q m a b):RchQ q m b a:=by
 induction h with
 |refl=>exact .refl
 |fwd i hi _ ih=>exact(RchQ.bwd i hi .refl).trans ih
 |bwd i hi _ ih=>exact(RchQ.fwd i hi .refl).trans ih
theorem conB_iff {q:Nat→Int×Int} {m:Nat} {a b:Int}:conB q m a b=true↔RchQ q m a b:=by
 unfold conB
 exact @decide_eq_true_iff _ (Classical.propDecidable _)
theorem conB_refl (q:Nat→Int×Int) (m:Nat) (a:Int):conB q m a a=true:=conB_iff.2 .refl
theorem conB_symm (q:Nat→Int×Int) (m:Nat) (a b:Int):conB q m a b=conB q m b a:=by
 cases h:conB q m b a with
 |true=>exact conB_iff.2 (conB_iff.1 h).symm
 |false =>
  cases k:conB q m a b with
  |false=>rfl
  |true =>
   rw [conB_iff.2 (conB_iff.1 k).symm] at h
   cases h
theorem conB_trans {q:Nat→Int×Int} {m:Nat} {a b c:Int} (h:conB q m a b=true) (k:conB q m b c=true):conB q m a c=true:=conB_iff.2 ((conB_iff.1 h).trans (conB_iff.1 k))
theorem conB_link {q:Nat→Int×Int} {m:Nat} {a b:Int} (h:anyP (fun i=>eqQ (min a b,max a b) (q i)) m=true):conB q m a b=true:=by
 obtain⟨i,hi,e⟩:=anyP_true.1 h
 unfold eqQ at e
 simp only [Bool.and_true,Bool.and_eq_true,beq_iff_eq] at e
 have hf:RchQ q m (min a b) (max a b):=by
  rw [e.1,e.2]
  exact .fwd i hi .refl
 refine conB_iff.2 ?_
 rcases Int.le_total a b with k|k
 ·rw [Int.min_eq_left k,Int.max_eq_right k] at hf
  exact hf
 ·rw [Int.min_eq_right k,Int.max_eq_left k] at hf
  exact hf.symm
end Go.Num
namespace Go.Proofs
open Go Go.Ex Go.Num
set_option maxRecDepth 100000
noncomputable def c8:List PV→Option Ans
 |[.agg [.rs 6 n g,.rs 2 m h],.val (.int .u8 i),.val (.int .u8 k),.val (.int .u8 l)]=>some ⟨some (isPL 140737488355328 n g∧isQL m h∧(0≤i∧i < 256)∧(0≤k∧k < 256)∧0≤l∧l < 256),.val (.bool true),[]⟩
 |_=>none
def D8:Opt:={ join:=fun c=>match c with | .region 12 _ _=>true|_=>false }
theorem ok8:funcOk D8.toOrd Tryz.f8 4=true:=by kernel_rfl
theorem f8:FnOk Tryz.prog 8 c8:=by
 refine FnOk.ofW orders (mkE_ok (l:=[(33,c33),(34,c34),(13,c13),(35,c35),(20,c20)]) (own:=[]) (inl:=[]) (by simp [f33,f34,f13,f35,f20]) (by simp)) Tryz.func8 D8 4 ok8 fun args r e=>?_
 unfold c8 at e
 split at e
 ·rename_i n g m h i k l
  cases e
  refine⟨by simp,fun hm=>?_⟩
  obtain⟨hg,hq,hi,hk,hl⟩:=hm _ rfl
  clear hm
  refine⟨[],stOf [(0,.agg [.rs 6 n g,.rs 2 m h]),(1,.val (.int .u8 i)),(2,.val (.int .u8 k)),(3,.val (.int .u8 l))] [] 0 [],Weak.of (by simp) trivial ⟨⟨⟨rfl,rfl,fun _ _=>rfl⟩,⟨rfl,rfl,fun _ _=>rfl⟩,trivial⟩,rfl,rfl,rfl,trivial⟩ trivial,?_⟩
  have plOf:(decide (30 < n)||decide (440 < m)||anyP (fun i=>bigP (pts g i)) n)=false→isPL 4294967296 n g:=fun hb=>by
   simp only [Bool.or_eq_false_iff,decide_eq_false_iff_not] at hb
   refine⟨fun j hj=>⟨(hg.1 j hj).1,?_⟩,hg.2⟩
   have h1:=(anyP_false.1 hb.2) j hj
   unfold bigP bigR at h1
   simp only [Bool.or_eq_false_iff,decide_eq_false_iff_not] at h1
   unfold PtS.le RatS.le
   omega
  with_unfolding_all refine⟨hg,fun h1=>⟨⟨plOf h1,hq⟩,fun h2=>⟨fun h3=>⟨[],stOf [(8,.val (.bool true))] [] 0 [],Weak.of (by simp) trivial ⟨rfl,trivial⟩ trivial,rfl,rfl⟩,fun h3=>?_⟩,fun h2=>⟨fun _=>⟨[],stOf [(8,.val (.bool true))] [] 0 [],Weak.of (by simp) trivial ⟨rfl,trivial⟩ trivial,rfl,rfl⟩,fun h=>(nomatch h)⟩⟩,fun h1=>⟨fun h=>(nomatch h),fun _=>⟨fun _=>⟨[],stOf [(8,.val (.bool true))] [] 0 [],Weak.of (by simp) trivial ⟨rfl,trivial⟩ trivial,rfl,rfl⟩,fun h=>(nomatch h)⟩⟩⟩
  have pl:=plOf h1
  have hok:okMap n (pts g) m (prs h)=true:=by
   have h2:(okW (okMap n (pts g) m (prs h)) != 0)=false:=h2
   cases hb:okMap n (pts g) m (prs h) with
   |true=>rfl
   |false =>
    rw [hb] at h2
    cases h2
  have hne:(n:Int)≠0:=by
   have h3:((n:Int)==0)=false:=h3
   simpa using h3
  have hins:∀z:Int,0≤z∧z < 256→insB n ((IntKind.i64.wrap z).tmod n)=true:=fun z hz=>by
   rw [wrap64 (by omega) (by omega)]
   have h1:=Int.tmod_nonneg (n:Int) hz.1
   have h2:=Int.tmod_lt_of_pos z (show(0:Int) < n by omega)
   unfold insB
   rw [decide_eq_true h1,decide_eq_true h2]
   rfl
  have hE:∀x y,insB n x=true→insB n y=true→((bif okMap n (pts g) m (prs h) then bif insB n x&&insB n y then(0:Int) else 2 else 1) != 0)=false:=fun x y h1 h2=>by
   rw [hok,h1,h2]
   rfl
  have hV:∀x y,insB n x=true→insB n y=true→PV.val (.bool ((okMap n (pts g) m (prs h)&&(insB n x&&insB n y))&&conB (prs h) m x y))=PV.val (.bool (conB (prs h) m x y)):=fun x y h1 h2=>by
   rw [hok,h1,h2]
   rfl
  have iA:=hins i hi
  have iB:=hins k hk
  have iC:=hins l hl
  clear h1 h2 h3
  with_unfolding_all refine⟨hne,hne,hne,⟨pl,hq⟩,⟨pl,hq⟩,⟨pl,hq⟩,⟨pl,hq⟩,⟨pl,hq⟩,⟨fun _=>⟨fun _=>⟨fun _=>⟨fun _=>⟨fun h=>absurd (h.symm.trans (hE _ _ iA iA)) (by decide),fun _=>⟨Bool×Bool×Bool×Bool,fun x=>(x.1=true→x.2.1=true→x.2.2.1=true)∧(x.2.2.2=true→x.1=true),fun x=>stOf [(8,.val (.bool false)),(13,.val (.bool x.1)),(15,.val (.bool x.1)),(17,.val (.bool x.2.1)),(19,.val (.bool x.2.2.1)),(21,.val (.bool true)),(23,.val (.bool x.2.2.2))] [] 0 [],?_,fun x hx=>?_⟩⟩,fun h=>absurd (h.symm.trans (hE _ _ iA iC)) (by decide)⟩,fun h=>absurd (h.symm.trans (hE _ _ iB iC)) (by decide)⟩,fun h=>absurd (h.symm.trans (hE _ _ iB iA)) (by decide)⟩,fun h=>absurd (h.symm.trans (hE _ _ iA iB)) (by decide)⟩⟩
  ·have w15:PV.val (.bool ((okMap n (pts g) m (prs h)&&(insB n ((IntKind.i64.wrap k).tmod n)&&insB n ((IntKind.i64.wrap i).tmod n)))&&conB (prs h) m ((IntKind.i64.wrap k).tmod n) ((IntKind.i64.wrap i).tmod n)))=PV.val (.bool (conB (prs h) m ((IntKind.i64.wrap i).tmod n) ((IntKind.i64.wrap k).tmod n))):=(hV _ _ iB iA).trans (by rw [conB_symm])
   have w21:PV.val (.bool ((okMap n (pts g) m (prs h)&&(insB n ((IntKind.i64.wrap i).tmod n)&&insB n ((IntKind.i64.wrap i).tmod n)))&&conB (prs h) m ((IntKind.i64.wrap i).tmod n) ((IntKind.i64.wrap i).tmod n)))=PV.val (.bool true):=(hV _ _ iA iA).trans (by rw [conB_refl])
   with_unfolding_all refine⟨hq,(conB (prs h) m ((IntKind.i64.wrap i).tmod n) ((IntKind.i64.wrap k).tmod n),conB (prs h) m ((IntKind.i64.wrap k).tmod n) ((IntKind.i64.wrap l).tmod n),conB (prs h) m ((IntKind.i64.wrap i).tmod n) ((IntKind.i64.wrap l).tmod n),_),[],⟨conB_trans,fun hl=>?_⟩,Weak.of (by simp) trivial ⟨rfl,hV _ _ iA iB,w15,hV _ _ iB iC,hV _ _ iA iC,w21,rfl,trivial⟩ trivial⟩
   refine conB_link (q:=prs h) (m:=m) ?_
   have e1:(if ((IntKind.i64.wrap k).tmod n) < ((IntKind.i64.wrap i).tmod n) then((IntKind.i64.wrap k).tmod n) else((IntKind.i64.wrap i).tmod n))=min ((IntKind.i64.wrap i).tmod n) ((IntKind.i64.wrap k).tmod n):=by
    rw [Int.min_def]
    split<;>split<;>omega
   have e2:(if ((IntKind.i64.wrap k).tmod n) > ((IntKind.i64.wrap i).tmod n) then((IntKind.i64.wrap k).tmod n) else((IntKind.i64.wrap i).tmod n))=max ((IntKind.i64.wrap i).tmod n) ((IntKind.i64.wrap k).tmod n):=by
    rw [Int.max_def]
    split<;>split<;>omega
   have hl:anyP (fun j=>Num.eqQ (if ((IntKind.i64.wrap k).tmod n) < ((IntKind.i64.wrap i).tmod n) then((IntKind.i64.wrap k).tmod n) else((IntKind.i64.wrap i).tmod n),if ((IntKind.i64.wrap k).tmod n) > ((IntKind.i64.wrap i).tmod n) then((IntKind.i64.wrap k).tmod n) else((IntKind.i64.wrap i).tmod n)) (prs h j)) m=true:=hl
   rw [e1,e2] at hl
   exact hl
  ·obtain⟨X,Z,W,J⟩:=x
   obtain⟨h1,h2⟩:(X=true→Z=true→W=true)∧(J=true→X=true):=hx
   match X,Z,W,J,h1,h2 with
   |true,true,true,true,_,_=>with_unfolding_all exact⟨fun _=>⟨fun _=>⟨fun _=>⟨fun _=>⟨fun _=>⟨fun _=>⟨fun _=>⟨[],stOf [(8,.val (.bool true))] [] 0 [],Weak.of (by simp) trivial ⟨rfl,trivial⟩ trivial,rfl,rfl⟩,fun h=>absurd h (by decide)⟩,fun h=>absurd h (by decide)⟩,fun h=>absurd h (by decide)⟩,fun h=>absurd h (by decide)⟩,fun h=>absurd h (by decide)⟩,fun h=>absurd h (by decide)⟩,fun h=>absurd h (by decide)⟩
   |true,true,true,false,_,_=>with_unfolding_all exact⟨fun _=>⟨fun _=>⟨fun _=>⟨fun _=>⟨fun _=>⟨fun h=>absurd h (by decide),fun _=>⟨fun _=>⟨[],stOf [(8,.val (.bool true))] [] 0 [],Weak.of (by simp) trivial ⟨rfl,trivial⟩ trivial,rfl,rfl⟩,fun h=>absurd h (by decide)⟩⟩,fun h=>absurd h (by decide)⟩,fun h=>absurd h (by decide)⟩,fun h=>absurd h (by decide)⟩,fun h=>absurd h (by decide)⟩,fun h=>absurd h (by decide)⟩
   |true,true,false,true,h,_=>exact absurd (h rfl rfl) (by decide)
   |true,true,false,false,h,_=>exact absurd (h rfl rfl) (by decide)
   |true,false,true,true,_,_=>with_unfolding_all exact⟨fun _=>⟨fun _=>⟨fun _=>⟨fun h=>absurd h (by decide),fun _=>⟨fun _=>⟨fun _=>⟨fun _=>⟨[],stOf [(8,.val (.bool true))] [] 0 [],Weak.of (by simp) trivial ⟨rfl,trivial⟩ trivial,rfl,rfl⟩,fun h=>absurd h (by decide)⟩,fun h=>absurd h (by decide)⟩,fun h=>absurd h (by decide)⟩⟩,fun h=>absurd h (by decide)⟩,fun h=>absurd h (by decide)⟩,fun h=>absurd h (by decide)⟩
   |true,false,true,false,_,_=>with_unfolding_all exact⟨fun _=>⟨fun _=>⟨fun _=>⟨fun h=>absurd h (by decide),fun _=>⟨fun _=>⟨fun h=>absurd h (by decide),fun _=>⟨fun _=>⟨[],stOf [(8,.val (.bool true))] [] 0 [],Weak.of (by simp) trivial ⟨rfl,trivial⟩ trivial,rfl,rfl⟩,fun h=>absurd h (by decide)⟩⟩,fun h=>absurd h (by decide)⟩⟩,fun h=>absurd h (by decide)⟩,fun h=>absurd h (by decide)⟩,fun h=>absurd h (by decide)⟩
   |true,false,false,true,_,_=>with_unfolding_all exact⟨fun _=>⟨fun _=>⟨fun _=>⟨fun h=>absurd h (by decide),fun _=>⟨fun _=>⟨fun _=>⟨fun _=>⟨[],stOf [(8,.val (.bool true))] [] 0 [],Weak.of (by simp) trivial ⟨rfl,trivial⟩ trivial,rfl,rfl⟩,fun h=>absurd h (by decide)⟩,fun h=>absurd h (by decide)⟩,fun h=>absurd h (by decide)⟩⟩,fun h=>absurd h (by decide)⟩,fun h=>absurd h (by decide)⟩,fun h=>absurd h (by decide)⟩
   |true,false,false,false,_,_=>with_unfolding_all exact⟨fun _=>⟨fun _=>⟨fun _=>⟨fun h=>absurd h (by decide),fun _=>⟨fun _=>⟨fun h=>absurd h (by decide),fun _=>⟨fun _=>⟨[],stOf [(8,.val (.bool true))] [] 0 [],Weak.of (by simp) trivial ⟨rfl,trivial⟩ trivial,rfl,rfl⟩,fun h=>absurd h (by decide)⟩⟩,fun h=>absurd h (by decide)⟩⟩,fun h=>absurd h (by decide)⟩,fun h=>absurd h (by decide)⟩,fun h=>absurd h (by decide)⟩
   |false,true,true,true,_,h=>exact absurd (h rfl) (by decide)
   |false,true,true,false,_,_=>with_unfolding_all exact⟨fun _=>⟨fun _=>⟨fun h=>absurd h (by decide),fun _=>⟨fun h=>absurd h (by decide),fun _=>⟨fun _=>⟨fun h=>absurd h (by decide),fun _=>⟨fun _=>⟨[],stOf [(8,.val (.bool true))] [] 0 [],Weak.of (by simp) trivial ⟨rfl,trivial⟩ trivial,rfl,rfl⟩,fun h=>absurd h (by decide)⟩⟩,fun h=>absurd h (by decide)⟩⟩⟩,fun h=>absurd h (by decide)⟩,fun h=>absurd h (by decide)⟩
   |false,true,false,true,_,h=>exact absurd (h rfl) (by decide)
   |false,true,false,false,_,_=>with_unfolding_all exact⟨fun _=>⟨fun _=>⟨fun h=>absurd h (by decide),fun _=>⟨fun h=>absurd h (by decide),fun _=>⟨fun _=>⟨fun h=>absurd h (by decide),fun _=>⟨fun _=>⟨[],stOf [(8,.val (.bool true))] [] 0 [],Weak.of (by simp) trivial ⟨rfl,trivial⟩ trivial,rfl,rfl⟩,fun h=>absurd h (by decide)⟩⟩,fun h=>absurd h (by decide)⟩⟩⟩,fun h=>absurd h (by decide)⟩,fun h=>absurd h (by decide)⟩
   |false,false,true,true,_,h=>exact absurd (h rfl) (by decide)
   |false,false,true,false,_,_=>with_unfolding_all exact⟨fun _=>⟨fun _=>⟨fun h=>absurd h (by decide),fun _=>⟨fun h=>absurd h (by decide),fun _=>⟨fun _=>⟨fun h=>absurd h (by decide),fun _=>⟨fun _=>⟨[],stOf [(8,.val (.bool true))] [] 0 [],Weak.of (by simp) trivial ⟨rfl,trivial⟩ trivial,rfl,rfl⟩,fun h=>absurd h (by decide)⟩⟩,fun h=>absurd h (by decide)⟩⟩⟩,fun h=>absurd h (by decide)⟩,fun h=>absurd h (by decide)⟩
   |false,false,false,true,_,h=>exact absurd (h rfl) (by decide)
   |false,false,false,false,_,_=>with_unfolding_all exact⟨fun _=>⟨fun _=>⟨fun h=>absurd h (by decide),fun _=>⟨fun h=>absurd h (by decide),fun _=>⟨fun _=>⟨fun h=>absurd h (by decide),fun _=>⟨fun _=>⟨[],stOf [(8,.val (.bool true))] [] 0 [],Weak.of (by simp) trivial ⟨rfl,trivial⟩ trivial,rfl,rfl⟩,fun h=>absurd h (by decide)⟩⟩,fun h=>absurd h (by decide)⟩⟩⟩,fun h=>absurd h (by decide)⟩,fun h=>absurd h (by decide)⟩
 ·cases e
end Go.Proofs
namespace Go.Proofs
open Go Go.Ex Go.Num
set_option maxRecDepth 100000
theorem cells25:Tryz.prog.cellsOf 25=6:=by kernel_rfl
theorem cells46:Tryz.prog.cellsOf 46=2:=by kernel_rfl
theorem typ_int {d t:Nat} {k:IntKind} {ps:List PV} (ht:Tryz.prog.underlying t=some (.int k)) (h:Typ Tryz.prog d t ps):∃z,ps=[.val (.int k z)]∧k.min≤z∧z≤k.max:=by
 match d,h with
 |d+1,h =>
  unfold Typ at h
  rw [ht] at h
  obtain⟨z,rfl,hz⟩:=h
  unfold Lit.wf at hz
  simp only [Bool.and_eq_true,decide_eq_true_eq] at hz
  exact⟨z,rfl,hz⟩
theorem typ_string {d t:Nat} {ps:List PV} (ht:Tryz.prog.underlying t=some .string) (h:Typ Tryz.prog d t ps):∃s:ByteArray,ps=[.val (.string s)]∧s.size≤140737488355328:=by
 match d,h with
 |d+1,h =>
  unfold Typ at h
  rw [ht] at h
  exact h
theorem typ_bool {d t:Nat} {ps:List PV} (ht:Tryz.prog.underlying t=some .bool) (h:Typ Tryz.prog d t ps):∃b,ps=[.val (.bool b)]:=by
 match d,h with
 |d+1,h =>
  unfold Typ at h
  rw [ht] at h
  exact h
theorem typ_struct {d t:Nat} {fs:Array Field} {ps:List PV} (ht:Tryz.prog.underlying t=some (.struct fs)) (h:Typ Tryz.prog d t ps):TypFs (Typ Tryz.prog (d - 1)) fs.toList ps:=by
 match d,h with
 |d+1,h =>
  unfold Typ at h
  rw [ht] at h
  exact h
theorem typ_slice {d t e:Nat} {ps:List PV} (ht:Tryz.prog.underlying t=some (.slice e)) (h:Typ Tryz.prog d t ps):∃m g,ps=[.rs (Tryz.prog.cellsOf e) m g]∧m≤140737488355328∧∀i,i < m→Typ Tryz.prog (d - 1) e (g i):=by
 match d,h with
 |d+1,h =>
  unfold Typ at h
  rw [ht] at h
  exact h
theorem typ_rat {d:Nat} {ps:List PV} (h:Typ Tryz.prog d 23 ps):∃r:RatS,ps=r.cells∧r.le 140737488355328:=by
 obtain⟨q1,r1,rfl,h1,q2,r2,rfl,h2,q3,r3,rfl,h3,rfl⟩:=typ_struct Tryz.underlying23 h
 obtain⟨s,rfl⟩:=typ_bool Tryz.underlying4 h1
 obtain⟨b,rfl,hb⟩:=typ_string Tryz.underlying9 h2
 obtain⟨c,rfl,hc⟩:=typ_string Tryz.underlying9 h3
 exact⟨⟨s,b,c⟩,rfl,hb,hc⟩
theorem typ_pt {d:Nat} {ps:List PV} (h:Typ Tryz.prog d 25 ps):∃p:PtS,ps=p.cells∧p.le 140737488355328:=by
 obtain⟨q1,r1,rfl,h1,q2,r2,rfl,h2,rfl⟩:=typ_struct Tryz.underlying25 h
 obtain⟨x,rfl,hx⟩:=typ_rat h1
 obtain⟨y,rfl,hy⟩:=typ_rat h2
 exact⟨⟨x,y⟩,rfl,hx,hy⟩
theorem typ_pts {d:Nat} {ps:List PV} (h:Typ Tryz.prog d 34 ps):∃n g,ps=[.rs 6 n g]∧isPL 140737488355328 n g:=by
 obtain⟨n,g,rfl,hn,hg⟩:=typ_slice Tryz.underlying34 h
 rw [cells25]
 refine⟨n,g,rfl,fun i hi=>?_,hn⟩
 obtain⟨p,hp,hl⟩:=typ_pt (hg i hi)
 unfold pts
 rw [hp]
 exact⟨rfl,hl⟩
theorem typ_pairs {d:Nat} {ps:List PV} (h:Typ Tryz.prog d 35 ps):∃m h',ps=[.rs 2 m h']∧isQL m h':=by
 obtain⟨n,g,rfl,hn,hg⟩:=typ_slice Tryz.underlying35 h
 rw [cells46]
 refine⟨n,g,rfl,fun i hi=>?_,hn⟩
 obtain⟨q1,r1,e,h1,q2,r2,rfl,h2,rfl⟩:=typ_struct Tryz.underlying46 (hg i hi)
 obtain⟨x,rfl,_⟩:=typ_int Tryz.underlying3 h1
 obtain⟨y,rfl,_⟩:=typ_int Tryz.underlying3 h2
 unfold prs
 rw [e]
 rfl
theorem typ_map {d:Nat} {p:PV} (h:TypV Tryz.prog d 37 p):∃n g m h',p=.agg [.rs 6 n g,.rs 2 m h']∧isPL 140737488355328 n g∧isQL m h':=by
 unfold TypV at h
 rw [Tryz.underlying37] at h
 obtain⟨xs,rfl,h⟩:=h
 obtain⟨q1,r1,rfl,h1,q2,r2,rfl,h2,rfl⟩:=typ_struct Tryz.underlying37 h
 obtain⟨n,g,rfl,hg⟩:=typ_pts h1
 obtain⟨m,h',rfl,hh⟩:=typ_pairs h2
 exact⟨n,g,m,h',rfl,hg,hh⟩
theorem typ_u8 {d:Nat} {p:PV} (h:TypV Tryz.prog d 5 p):∃z,p=.val (.int .u8 z)∧0≤z∧z < 256:=by
 unfold TypV at h
 rw [Tryz.underlying5] at h
 obtain⟨z,e,h1,h2⟩:=typ_int Tryz.underlying5 h
 cases e
 have h1:(0:Int)≤z:=h1
 have h2:z≤255:=h2
 exact⟨z,rfl,h1,by omega⟩
end Go.Proofs
namespace Go.Proofs.YtpfdckeipckldaaGreat
open Go Go.Ex Go.Num Go.RowKit Go.Proofs
set_option maxRecDepth 100000
theorem own:ownKnob Tryz.prog.godebug=none:=by kernel_rfl
theorem laidOut:laidOutB Tryz.prog=true:=by kernel_rfl
theorem connects_met (ps:List PV) (h:TypAll Tryz.prog 8 [37,5,5,5] ps):∃pre,c8 ps=some ⟨pre,.val (.bool true),[]⟩∧Met pre:=by
 obtain⟨p1,q1,rfl,h1,p2,q2,rfl,h2,p3,q3,rfl,h3,p4,q4,rfl,h4,rfl⟩:=h
 obtain⟨n,g,m,h',rfl,hg,hq⟩:=typ_map h1
 obtain⟨i,rfl,hi⟩:=typ_u8 h2
 obtain⟨k,rfl,hk⟩:=typ_u8 h3
 obtain⟨l,rfl,hl⟩:=typ_u8 h4
 exact⟨_,rfl,fun q e=>by cases e;exact⟨hg,hq,hi,hk,hl⟩⟩
theorem connects_lifted (os:Os) (started:os.Started) (H:Type) (enc:TypeId×Value→H) :
  ReturnsInHanded {} Tryz.checked os 8 .any (Rows.roadmapConnectsSpec.pre6 enc Tryz.prog Tryz.f8 Rows.roadmapConnectsRow.domain false) (Rows.roadmapConnectsSpec.post enc Tryz.prog Tryz.f8 false true false false):=by
 refine returnsInHanded_of_change_sized (C:=Tryz.checked) own started (by kernel_rfl) Tryz.func8
  (ChangeSpec.witness6 (enc:=enc) (C:=Tryz.checked) false ⟨#[],#[.agg #[.slice none 0 0,.slice none 0 0],.int .u8 0,.int .u8 0,.int .u8 0],[]⟩ 8 (by kernel_rfl) (by kernel_rfl) (by kernel_rfl) (by kernel_rfl)) ?_
 intro W base args ds gs before hval hW _ hsz _
 exact law_contract (P:=Tryz.prog) (fn:=Tryz.f8) (d:=8) (tb:=4) (s:=Rows.roadmapConnectsSpec) laidOut rfl (fun ds hd=>by
  match ds,hd with
  |[d1,d2,d3,d4],_=>rfl) rfl Tryz.underlying4 (by kernel_rfl) f8 (fun ps h=>connects_met ps h) W base args ds gs before hval hW hsz
theorem connects_holds:Rows.RoadmapConnectsSaid :=
 OpenClaim.holds_of_wide 8 Tryz.f8 rfl rfl rfl rfl rfl rfl rfl ⟨rfl,rfl,rfl,rfl,rfl⟩ rfl rfl rfl rfl rfl (by kernel_rfl) Tryz.func8 (by kernel_rfl)
  (of_decide_eq_true (by kernel_rfl)) (by unfold Func.isWrapper;rw [if_neg (of_decide_eq_false (by kernel_rfl))];exact⟨rfl,rfl⟩)
  (fun os started H enc _=>connects_lifted os started H enc)
end Go.Proofs.YtpfdckeipckldaaGreat
