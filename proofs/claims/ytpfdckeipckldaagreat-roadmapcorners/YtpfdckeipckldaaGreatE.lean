import Derived.Calls
import Derived.StepT
import Derived.Shelf.SlSortCmp.NoneTotal
import Derived.Sort.OwnSorted
import Derived.Below
import Derived.Shelf.SlLaysF0
import Derived.Test.YtpfdckeipckldaaGreatD
set_option maxHeartbeats 8000000
set_option linter.all false
set_option linter.unusedVariables false
set_option linter.unusedSimpArgs false
set_option linter.unnecessarySimpa false
namespace Go.Num
open Go Go.Ex Go.Proofs
def regC (lo hi:PtS) (k:Nat) (c:Nat→List PV) (l:Nat) (o:Nat→List PV):List PV:=[.val (.bool lo.x.s),.val (.string lo.x.b),.val (.string lo.x.c),.val (.bool lo.y.s),.val (.string lo.y.b),.val (.string lo.y.c),.val (.bool hi.x.s),.val (.string hi.x.b),.val (.string hi.x.c),.val (.bool hi.y.s),.val (.string hi.y.b),.val (.string hi.y.c),.rs 1 k (fun i=>[.rs 6 (pn c i) (pg c i)]),.rs 3 l (fun i=>cellsO (ow o i))]
def gLo:List PV→PtS
 |a1::a2::a3::a4::a5::a6::_=>rdP [a1,a2,a3,a4,a5,a6]
 |_=>rdP []
def gHi:List PV→PtS
 |_::_::_::_::_::_::a1::a2::a3::a4::a5::a6::_=>rdP [a1,a2,a3,a4,a5,a6]
 |_=>rdP []
def gK:List PV→Nat
 |[_,_,_,_,_,_,_,_,_,_,_,_,.rs 1 k _,_]=>k
 |_=>0
def gC:List PV→Nat→List PV
 |[_,_,_,_,_,_,_,_,_,_,_,_,.rs 1 _ c,_]=>c
 |_=>fun _=>[]
def gL:List PV→Nat
 |[_,_,_,_,_,_,_,_,_,_,_,_,_,.rs 3 l _]=>l
 |_=>0
def gO:List PV→Nat→List PV
 |[_,_,_,_,_,_,_,_,_,_,_,_,_,.rs 3 _ o]=>o
 |_=>fun _=>[]
def isG (h:Nat→List PV):Prop:=h=fun _=>regC (gLo (h 0)) (gHi (h 0)) (gK (h 0)) (gC (h 0)) (gL (h 0)) (gO (h 0))
def sA:List PV→PtS
 |[a1,a2,a3,a4,a5,a6,_,_,_,_,_,_]=>rdP [a1,a2,a3,a4,a5,a6]
 |_=>rdP []
def sB:List PV→PtS
 |[_,_,_,_,_,_,a1,a2,a3,a4,a5,a6]=>rdP [a1,a2,a3,a4,a5,a6]
 |_=>rdP []
def isS2 (h:Nat→List PV):Prop:=h=fun _=>segC (sA (h 0)) (sB (h 0))
def oneS (i:Nat) (lo hi a b:PtS):List (Int×Rat) :=
 bif decide (cmpQ (farQ i lo hi a) 0≤0)&&decide (cmpQ (farQ i lo hi b) 0≤0) then [] else [(-((i:Int)+1),bif decide (cmpQ (farQ i lo hi a) 0≤0) then farQ i lo hi a / (farQ i lo hi a - farQ i lo hi b) else 0)]
def oneC (i:Nat) (n:Nat) (p:Nat→PtS) (a b:PtS):List (Int×Rat):=match partO n p a b with
 |none=>[]
 |some s=>[((i:Int),s.1)]
def partsP (lo hi:PtS) (n:Nat→Nat) (p:Nat→Nat→PtS) (a b:PtS):Nat→List (Int×Rat)
 |0=>[]
 |j+1=>partsP lo hi n p a b j++(if j < 4 then oneS j lo hi a b else oneC (j - 4) (n (j - 4)) (p (j - 4)) a b)
def partsL (lo hi:PtS) (k:Nat) (n:Nat→Nat) (p:Nat→Nat→PtS) (a b:PtS):List (Int×Rat):=partsP lo hi n p a b (k+4)
theorem farQ_le (i:Nat) {lo hi p:PtS} (h1:PtS.le 10000 lo) (h2:PtS.le 10000 hi) (h3:PtS.le 10000 p):QB 20003 (farQ i lo hi p):=by
 unfold farQ
 split
 ·exact(h1.X.sub h3.X).le (by decide)
 ·exact(h3.X.sub h2.X).le (by decide)
 ·exact(h1.Y.sub h3.Y).le (by decide)
 ·exact(h3.Y.sub h2.Y).le (by decide)
theorem partsP_pre {lo hi:PtS} {n:Nat→Nat} {p:Nat→Nat→PtS} {a b:PtS}:∀(d j:Nat),partsP lo hi n p a b j <+: partsP lo hi n p a b (j+d)
 |0,j=>List.prefix_refl _
 |d+1,j=>(partsP_pre d j).trans (List.prefix_append _ _)
theorem partsP_at {lo hi:PtS} {n:Nat→Nat} {p:Nat→Nat→PtS} {a b:PtS} {j k:Nat} (h:j < k) {x:Int×Rat} (hx:(if j < 4 then oneS j lo hi a b else oneC (j - 4) (n (j - 4)) (p (j - 4)) a b)=[x]) :
  (partsP lo hi n p a b k)[(partsP lo hi n p a b j).length]? = some x∧(partsP lo hi n p a b j).length < (partsP lo hi n p a b k).length∧(partsP lo hi n p a b (j+1)).length=(partsP lo hi n p a b j).length+1:=by
 obtain⟨t,ht⟩:=partsP_pre (lo:=lo) (hi:=hi) (n:=n) (p:=p) (a:=a) (b:=b) (k - (j+1)) (j+1)
 rw [show j+1+(k - (j+1))=k by omega] at ht
 have e:partsP lo hi n p a b (j+1)=partsP lo hi n p a b j++[x]:=by rw [partsP,hx]
 rw [←ht,e]
 simp
def ixL (L:List (Int×Rat)) (i:Nat):Int:=match L[i]? with
 |some q=>q.1
 |none=>0
def frL (L:List (Int×Rat)) (i:Nat):Rat:=match L[i]? with
 |some q=>q.2
 |none=>0
def pairV (L:List (Int×Rat)) (i:Nat):List PV:=[.val (.int .i64 (ixL L i)),.val (ratV (frL L i))]
end Go.Num
namespace Go.Proofs
open Go Go.Ex Go.Num
set_option maxRecDepth 100000
def c126:List PV→Option Ans
 |[.agg [.val (.bool s1),.val (.string b1),.val (.string c1),.val (.bool s2),.val (.string b2),.val (.string c2),.val (.bool s3),.val (.string b3),.val (.string c3),.val (.bool s4),.val (.string b4),.val (.string c4),.rs 1 k c,.rs 3 l o],.val v]=>some ⟨some (((∀i,i < k→c i=[.rs 6 (pn c i) (pg c i)])∧∀i,i < l→o i=cellsO (ow o i))∧∃a b,v=segV a b),.fn (.func 171) [] [.rp 14 1 (fun _=>regC (PtS.mk ⟨s1,b1,c1⟩ ⟨s2,b2,c2⟩) (PtS.mk ⟨s3,b3,c3⟩ ⟨s4,b4,c4⟩) k c l o) 0 0,.rp 12 1 (fun _=>segC (rdS v).1 (rdS v).2) 0 0],[]⟩
 |_=>none
theorem ok126:funcOk {} Tryz.f126 2=true:=by kernel_rfl
theorem f126:FnOk Tryz.prog 126 c126:=by
 refine FnOk.ofW orders (mkE_ok (l:=[]) (own:=[]) (inl:=[]) (by simp) (by simp)) Tryz.func126 {} 2 ok126 fun args r e=>?_
 unfold c126 at e
 split at e
 ·rename_i s1 b1 c1 s2 b2 c2 s3 b3 c3 s4 b4 c4 k c l o v
  cases e
  refine⟨by simp,fun hm=>?_⟩
  obtain⟨⟨hc,ho⟩,a,b,rfl⟩:=hm _ rfl
  have hc1:∀i,i < k→[.rs 6 (pn c i) (pg c i)]=c i:=fun i hi=>(hc i hi).symm
  have ho1:∀i,i < l→cellsO (ow o i)=o i:=fun i hi=>(ho i hi).symm
  refine⟨[],stOf [(0,.agg [.val (.bool (PtS.mk ⟨s1,b1,c1⟩ ⟨s2,b2,c2⟩).x.s),.val (.string (PtS.mk ⟨s1,b1,c1⟩ ⟨s2,b2,c2⟩).x.b),.val (.string (PtS.mk ⟨s1,b1,c1⟩ ⟨s2,b2,c2⟩).x.c),.val (.bool (PtS.mk ⟨s1,b1,c1⟩ ⟨s2,b2,c2⟩).y.s),.val (.string (PtS.mk ⟨s1,b1,c1⟩ ⟨s2,b2,c2⟩).y.b),.val (.string (PtS.mk ⟨s1,b1,c1⟩ ⟨s2,b2,c2⟩).y.c),.val (.bool (PtS.mk ⟨s3,b3,c3⟩ ⟨s4,b4,c4⟩).x.s),.val (.string (PtS.mk ⟨s3,b3,c3⟩ ⟨s4,b4,c4⟩).x.b),.val (.string (PtS.mk ⟨s3,b3,c3⟩ ⟨s4,b4,c4⟩).x.c),.val (.bool (PtS.mk ⟨s3,b3,c3⟩ ⟨s4,b4,c4⟩).y.s),.val (.string (PtS.mk ⟨s3,b3,c3⟩ ⟨s4,b4,c4⟩).y.b),.val (.string (PtS.mk ⟨s3,b3,c3⟩ ⟨s4,b4,c4⟩).y.c),.rs 1 k (fun i=>[.rs 6 (pn c i) (pg c i)]),.rs 3 l (fun i=>cellsO (ow o i))]),(1,.val (segV a b))] [] 0 [],Wo trivial ⟨⟨rfl,rfl,rfl,rfl,rfl,rfl,rfl,rfl,rfl,rfl,rfl,rfl,⟨rfl,rfl,hc1⟩,⟨rfl,rfl,ho1⟩,qQ⟩,rfl,qQ⟩ trivial,?_⟩
  with_unfolding_all exact⟨[some 0,some 1],stOf [(4,.fn (.func 171) [] [.ptr 0 0 0 0,.ptr 1 1 0 0])] [⟨31,14,0,true,false,1,fun _=>regC (PtS.mk ⟨s1,b1,c1⟩ ⟨s2,b2,c2⟩) (PtS.mk ⟨s3,b3,c3⟩ ⟨s4,b4,c4⟩) k c l o⟩,⟨117,12,1,true,false,1,fun _=>segC a b⟩] 2 [],Wo ⟨qZ ⟨rq,rq,rq,rq,rq,rq,rq,rq,rq,rq,rq,rq,⟨qW,rfl⟩,⟨qW,rfl⟩,qQ⟩,qZ ⟨rq,rq,rq,rq,rq,rq,rq,rq,rq,rq,rq,rq,qQ⟩,qQ⟩ ⟨⟨rfl,trivial,pP,pP,qQ⟩,qQ⟩ trivial,rfl,rfl⟩
 ·cases e
def c171:List PV→Option SeqA
 |[.rp 14 1 h 0 0,.rp 12 1 h' 0 0]=>some ⟨some ((isG h∧isS2 h')∧((gLo (h 0)).le 10000∧(gHi (h 0)).le 10000)∧((sA (h' 0)).le 10000∧(sB (h' 0)).le 10000)∧isCL 10000 (gK (h 0)) (gC (h 0))),(partsL (gLo (h 0)) (gHi (h 0)) (gK (h 0)) (pn (gC (h 0))) (fun i=>pts (pg (gC (h 0)) i)) (sA (h' 0)) (sB (h' 0))).length,pairV (partsL (gLo (h 0)) (gHi (h 0)) (gK (h 0)) (pn (gC (h 0))) (fun i=>pts (pg (gC (h 0)) i)) (sA (h' 0)) (sB (h' 0)))⟩
 |_=>none
def D171:Opt:={ perm:=atTs [(3,(.rd 0 (.rd 1 (.rd 2 (.rd 3 (.rd 4 (.rd 5 (.rd 7 (.rd 8 (.rd 9 (.rd 10 (.rd 11 (.rd 12 (.alt 6 (.alt 13 (.alt 14 (.mk 15 .nil) (.mk 15 (.mk 14 .nil))) (.alt 14 (.alt 13 (.mk 15 .nil) (.mk 15 (.mk 13 .nil))) (.mk 15 (.alt 13 (.mk 14 .nil) (.mk 14 (.mk 13 .nil)))))) (.alt 14 (.alt 6 (.alt 13 (.mk 15 .nil) (.mk 15 (.mk 13 .nil))) (.mk 15 (.mk 6 (.mk 13 .nil)))) (.mk 15 (.alt 6 (.alt 13 (.mk 14 .nil) (.mk 14 (.mk 13 .nil))) (.mk 14 (.mk 6 (.mk 13 .nil)))))))))))))))))))),(7,(.rd 0 (.rd 1 (.rd 2 (.mk 3 (.mk 4 (.rd 5 (.rd 6 (.rd 7 .nil)))))))))] }
theorem ok171:funcOk D171.toOrd Tryz.f171 3=true:=by kernel_rfl
theorem f171:SeqFn Tryz.prog 171 c171:=by
 refine SeqFn.of orders (mkE_ok (l:=[(172,c172),(208,c208),(209,c209),(210,c210),(211,c211),(139,c139),(115,c115),(173,c173),(174,c174)]) (own:=[]) (inl:=[]) (by simp [f172,f208,f209,f210,f211,f139,f115,f173,f174]) (by simp)) Tryz.func171 D171 3 ok171 rfl fun args r e=>?_
 unfold c171 at e
 split at e
 ·rename_i h h'
  cases e
  refine⟨by simp,fun hm L0=>?_⟩
  obtain⟨⟨h1,h2⟩,⟨hlo,hhi⟩,⟨ha,hb⟩,hc,hk⟩:=hm _ rfl
  unfold isG at h1
  unfold isS2 at h2
  generalize gLo (h 0)=lo at *
  generalize gHi (h 0)=hi at *
  generalize gK (h 0)=k at *
  generalize gC (h 0)=c at *
  generalize gL (h 0)=l at *
  generalize gO (h 0)=o at *
  generalize sA (h' 0)=a at *
  generalize sB (h' 0)=b at *
  subst h1
  subst h2
  clear hm
  unfold partsL
  have hlo':=hlo.mono (show 10000≤4294967296 by decide)
  have hhi':=hhi.mono (show 10000≤4294967296 by decide)
  have ha':=ha.mono (show 10000≤4294967296 by decide)
  have hb':=hb.mono (show 10000≤4294967296 by decide)
  with_unfolding_all refine⟨Nat,fun j=>j≤4,fun j=>stOf [(0,.val (.func (.yield L0) ⟨[]⟩ ⟨[]⟩)),(1,.rp 14 1 (fun _=>regC lo hi k c l o) 0 0),(2,.rp 12 1 (fun _=>segC a b) 0 0),(15,.val (.agg ⟨[.int .i64 (-1),.func (.func 208) ⟨[]⟩ ⟨[]⟩,.int .i64 (-2),.func (.func 209) ⟨[]⟩ ⟨[]⟩,.int .i64 (-3),.func (.func 210) ⟨[]⟩ ⟨[]⟩,.int .i64 (-4),.func (.func 211) ⟨[]⟩ ⟨[]⟩]⟩)),(16,.val (goInt ((j:Nat):Int)))] [] 0 [[(0,.val (.int .i64 ((partsP lo hi (pn c) (fun i=>pts (pg c i)) a b (j)).length:Nat))),(1,.val (.bool false))]],fun j=>4 - j,⟨0,[],Nat.zero_le _,Wo trivial ⟨rfl,⟨rfl,rfl,rfl,rfl,fun _ _=>rfl⟩,⟨rfl,rfl,rfl,rfl,fun _ _=>rfl⟩,rfl,rfl,qQ⟩ ⟨⟨rfl,rfl,qQ⟩,qQ⟩⟩,fun j hj=>?_⟩
  match j,hj with
  |0,_ =>
   obtain⟨x,hx⟩:∃x,x=(farQ 0 (rdS (segV lo hi)).1 (rdS (segV lo hi)).2 (rdV a.v)):=⟨_,rfl⟩
   obtain⟨y,hy⟩:∃y,y=(farQ 0 (rdS (segV lo hi)).1 (rdS (segV lo hi)).2 (rdV b.v)):=⟨_,rfl⟩
   have hx1:farQ 0 lo hi a=x:=by rw [hx];rfl
   have hy1:farQ 0 lo hi b=y:=by rw [hy];rfl
   have qx:QB 20003 x:=by rw [←hx1];exact farQ_le 0 hlo hhi ha
   have qy:QB 20003 y:=by rw [←hy1];exact farQ_le 0 hlo hhi hb
   have hone:oneS 0 lo hi a b=bif decide (cmpQ x 0≤0)&&decide (cmpQ y 0≤0) then [] else [(-((0:Nat)+1:Int),bif decide (cmpQ x 0≤0) then x / (x - y) else 0)]:=by unfold oneS;rw [hx1,hy1]
   have rx:isRk 4294967296 (ratV (farQ 0 (rdS (segV lo hi)).1 (rdS (segV lo hi)).2 (rdV a.v))):=by rw [←hx];exact qx.rk (by decide)
   have ry:isRk 4294967296 (ratV (farQ 0 (rdS (segV lo hi)).1 (rdS (segV lo hi)).2 (rdV b.v))):=by rw [←hy];exact qy.rk (by decide)
   have rd:isRk 4294967296 (ratV (rdR (ratV (farQ 0 (rdS (segV lo hi)).1 (rdS (segV lo hi)).2 (rdV a.v))) - rdR (ratV (farQ 0 (rdS (segV lo hi)).1 (rdS (segV lo hi)).2 (rdV b.v))))):=by rw [rdR_ratV,rdR_ratV,←hx,←hy];exact(qx.sub qy).rk (by decide)
   have ix:decide (cmpQ (rdR (ratV (farQ 0 (rdS (segV lo hi)).1 (rdS (segV lo hi)).2 (rdV a.v)))) 0≤0)=decide (cmpQ x 0≤0):=by rw [rdR_ratV,←hx]
   have iy:decide (cmpQ (rdR (ratV (farQ 0 (rdS (segV lo hi)).1 (rdS (segV lo hi)).2 (rdV b.v)))) 0≤0)=decide (cmpQ y 0≤0):=by rw [rdR_ratV,←hy]
   have it:rdR (ratV (farQ 0 (rdS (segV lo hi)).1 (rdS (segV lo hi)).2 (rdV a.v))) / rdR (ratV (rdR (ratV (farQ 0 (rdS (segV lo hi)).1 (rdS (segV lo hi)).2 (rdV a.v))) - rdR (ratV (farQ 0 (rdS (segV lo hi)).1 (rdS (segV lo hi)).2 (rdV b.v)))))=x / (x - y):=by rw [rdR_ratV,rdR_ratV,rdR_ratV,←hx,←hy]
   have prA:isSeg 4294967296 (segV lo hi)∧isPk 4294967296 a.v:=⟨⟨lo,hi,rfl,hlo',hhi'⟩,a,rfl,ha'⟩
   have prB:isSeg 4294967296 (segV lo hi)∧isPk 4294967296 b.v:=⟨⟨lo,hi,rfl,hlo',hhi'⟩,b,rfl,hb'⟩
   have sk:decide (cmpQ (rdR (ratV (farQ 0 (rdS (segV lo hi)).1 (rdS (segV lo hi)).2 (rdV a.v)))) 0≤0)=true→decide (cmpQ (rdR (ratV (farQ 0 (rdS (segV lo hi)).1 (rdS (segV lo hi)).2 (rdV b.v)))) 0≤0)=true→(partsP lo hi (pn c) (fun i=>pts (pg c i)) a b (0)).length=(partsP lo hi (pn c) (fun i=>pts (pg c i)) a b (1)).length:=fun h h'=>by
    rw [ix] at h
    rw [iy] at h'
    have e:partsP lo hi (pn c) (fun i=>pts (pg c i)) a b (0+1)=partsP lo hi (pn c) (fun i=>pts (pg c i)) a b 0++oneS 0 lo hi a b:=rfl
    rw [e,hone,h,h']
    simp
   have yl:∀fr:Rat,oneS 0 lo hi a b=[(-((0:Nat)+1:Int),fr)]→(partsP lo hi (pn c) (fun i=>pts (pg c i)) a b (0)).length < (partsP lo hi (pn c) (fun i=>pts (pg c i)) a b (k+4)).length∧[PV.val (.int .i64 (-1)),PV.val (ratV fr)]=pairV (partsP lo hi (pn c) (fun i=>pts (pg c i)) a b (k+4)) (partsP lo hi (pn c) (fun i=>pts (pg c i)) a b (0)).length∧(partsP lo hi (pn c) (fun i=>pts (pg c i)) a b (0)).length+1=(partsP lo hi (pn c) (fun i=>pts (pg c i)) a b (1)).length:=fun fr h=>by
    have h1:=partsP_at (n:=pn c) (p:=fun i=>pts (pg c i)) (show 0 < k+4 by omega) (x:=(-((0:Nat)+1:Int),fr)) (by rw [if_pos (by decide)];exact h)
    refine⟨h1.2.1,?_,h1.2.2.symm⟩
    unfold pairV ixL frL
    rw [h1.1]
    rfl
   have fa:(decide (cmpQ x 0≤0)&&decide (cmpQ y 0≤0))=false→decide (cmpQ (rdR (ratV (farQ 0 (rdS (segV lo hi)).1 (rdS (segV lo hi)).2 (rdV a.v)))) 0≤0)=true→oneS 0 lo hi a b=[(-((0:Nat)+1:Int),rdR (ratV (farQ 0 (rdS (segV lo hi)).1 (rdS (segV lo hi)).2 (rdV a.v))) / rdR (ratV (rdR (ratV (farQ 0 (rdS (segV lo hi)).1 (rdS (segV lo hi)).2 (rdV a.v))) - rdR (ratV (farQ 0 (rdS (segV lo hi)).1 (rdS (segV lo hi)).2 (rdV b.v))))))]:=fun h h'=>by
    rw [ix] at h'
    rw [hone,h,h',it]
    rfl
   have fb:(decide (cmpQ x 0≤0)&&decide (cmpQ y 0≤0))=false→decide (cmpQ (rdR (ratV (farQ 0 (rdS (segV lo hi)).1 (rdS (segV lo hi)).2 (rdV a.v)))) 0≤0)=false→oneS 0 lo hi a b=[(-((0:Nat)+1:Int),0)]:=fun h h'=>by
    rw [ix] at h'
    rw [hone,h,h']
    rfl
   have k1:decide (cmpQ (rdR (ratV (farQ 0 (rdS (segV lo hi)).1 (rdS (segV lo hi)).2 (rdV b.v)))) 0≤0)=false→(decide (cmpQ x 0≤0)&&decide (cmpQ y 0≤0))=false:=fun h=>by
    rw [iy] at h
    rw [h,Bool.and_false]
   have k2:decide (cmpQ (rdR (ratV (farQ 0 (rdS (segV lo hi)).1 (rdS (segV lo hi)).2 (rdV a.v)))) 0≤0) = !true→(decide (cmpQ x 0≤0)&&decide (cmpQ y 0≤0))=false:=fun h=>by
    rw [ix] at h
    rw [h]
    rfl
   clear hx hy
   with_unfolding_all refine⟨fun _=>⟨⟨by decide,by decide⟩,⟨⟨prA,⟨⟨prB,⟨?_,?_⟩⟩,⟨⟨⟨prB,?_⟩,⟨prB,?_⟩⟩,⟨⟨prB,?_⟩,⟨prB,?_⟩⟩⟩⟩⟩,⟨⟨⟨prA,⟨⟨prB,?_⟩,⟨prB,?_⟩⟩⟩,⟨prA,⟨prB,?_⟩⟩⟩,⟨⟨prA,⟨⟨prB,?_⟩,⟨prB,?_⟩⟩⟩,⟨prA,⟨prB,?_⟩⟩⟩⟩⟩⟩,fun hh=>absurd hh (by decide)⟩
   all_goals with_unfolding_all refine⟨rx,fun h1=>⟨ry,fun h2=>⟨1,[],by show 1≤4;decide,by show 4 - 1 < 4 - 0;decide,Wo trivial ⟨rfl,⟨rfl,rfl,rfl,rfl,fun _ _=>rfl⟩,⟨rfl,rfl,rfl,rfl,fun _ _=>rfl⟩,rfl,rfl,qQ⟩ ⟨⟨congrArg (fun z:Nat=>PV.val (.int .i64 (z:Int))) (sk h1 h2),rfl,qQ⟩,qQ⟩⟩,fun h2=>⟨rx,fun h3=>⟨⟨rx,ry⟩,⟨rx,rd⟩,⟨rfl,(partsP lo hi (pn c) (fun i=>pts (pg c i)) a b (0)).length,rfl,(yl _ (fa (k1 h2) h3)).1,(yl _ (fa (k1 h2) h3)).2.1,⟨fun e=>(nomatch e),fun _=>⟨1,[],by show 1≤4;decide,by show 4 - 1 < 4 - 0;decide,Wo trivial ⟨rfl,⟨rfl,rfl,rfl,rfl,fun _ _=>rfl⟩,⟨rfl,rfl,rfl,rfl,fun _ _=>rfl⟩,rfl,rfl,qQ⟩ ⟨⟨congrArg (fun z:Nat=>PV.val (.int .i64 (z:Int))) (yl _ (fa (k1 h2) h3)).2.2,rfl,qQ⟩,qQ⟩⟩⟩,⟨fun _=>trivial,fun e=>(nomatch e)⟩⟩⟩,fun h3=>⟨rfl,(partsP lo hi (pn c) (fun i=>pts (pg c i)) a b (0)).length,rfl,(yl _ (fb (k1 h2) h3)).1,(yl _ (fb (k1 h2) h3)).2.1,⟨fun e=>(nomatch e),fun _=>⟨1,[],by show 1≤4;decide,by show 4 - 1 < 4 - 0;decide,Wo trivial ⟨rfl,⟨rfl,rfl,rfl,rfl,fun _ _=>rfl⟩,⟨rfl,rfl,rfl,rfl,fun _ _=>rfl⟩,rfl,rfl,qQ⟩ ⟨⟨congrArg (fun z:Nat=>PV.val (.int .i64 (z:Int))) (yl _ (fb (k1 h2) h3)).2.2,rfl,qQ⟩,qQ⟩⟩⟩,⟨fun _=>trivial,fun e=>(nomatch e)⟩⟩⟩⟩,fun h1=>⟨fun h2=>(nomatch h2),fun h2=>⟨rx,fun h3=>⟨⟨rx,ry⟩,⟨rx,rd⟩,⟨rfl,(partsP lo hi (pn c) (fun i=>pts (pg c i)) a b (0)).length,rfl,(yl _ (fa (k2 h1) h3)).1,(yl _ (fa (k2 h1) h3)).2.1,⟨fun e=>(nomatch e),fun _=>⟨1,[],by show 1≤4;decide,by show 4 - 1 < 4 - 0;decide,Wo trivial ⟨rfl,⟨rfl,rfl,rfl,rfl,fun _ _=>rfl⟩,⟨rfl,rfl,rfl,rfl,fun _ _=>rfl⟩,rfl,rfl,qQ⟩ ⟨⟨congrArg (fun z:Nat=>PV.val (.int .i64 (z:Int))) (yl _ (fa (k2 h1) h3)).2.2,rfl,qQ⟩,qQ⟩⟩⟩,⟨fun _=>trivial,fun e=>(nomatch e)⟩⟩⟩,fun h3=>⟨rfl,(partsP lo hi (pn c) (fun i=>pts (pg c i)) a b (0)).length,rfl,(yl _ (fb (k2 h1) h3)).1,(yl _ (fb (k2 h1) h3)).2.1,⟨fun e=>(nomatch e),fun _=>⟨1,[],by show 1≤4;decide,by show 4 - 1 < 4 - 0;decide,Wo trivial ⟨rfl,⟨rfl,rfl,rfl,rfl,fun _ _=>rfl⟩,⟨rfl,rfl,rfl,rfl,fun _ _=>rfl⟩,rfl,rfl,qQ⟩ ⟨⟨congrArg (fun z:Nat=>PV.val (.int .i64 (z:Int))) (yl _ (fb (k2 h1) h3)).2.2,rfl,qQ⟩,qQ⟩⟩⟩,⟨fun _=>trivial,fun e=>(nomatch e)⟩⟩⟩⟩⟩
  |1,_ =>
   obtain⟨x,hx⟩:∃x,x=(farQ 1 (rdS (segV lo hi)).1 (rdS (segV lo hi)).2 (rdV a.v)):=⟨_,rfl⟩
   obtain⟨y,hy⟩:∃y,y=(farQ 1 (rdS (segV lo hi)).1 (rdS (segV lo hi)).2 (rdV b.v)):=⟨_,rfl⟩
   have hx1:farQ 1 lo hi a=x:=by rw [hx];rfl
   have hy1:farQ 1 lo hi b=y:=by rw [hy];rfl
   have qx:QB 20003 x:=by rw [←hx1];exact farQ_le 1 hlo hhi ha
   have qy:QB 20003 y:=by rw [←hy1];exact farQ_le 1 hlo hhi hb
   have hone:oneS 1 lo hi a b=bif decide (cmpQ x 0≤0)&&decide (cmpQ y 0≤0) then [] else [(-((1:Nat)+1:Int),bif decide (cmpQ x 0≤0) then x / (x - y) else 0)]:=by unfold oneS;rw [hx1,hy1]
   have rx:isRk 4294967296 (ratV (farQ 1 (rdS (segV lo hi)).1 (rdS (segV lo hi)).2 (rdV a.v))):=by rw [←hx];exact qx.rk (by decide)
   have ry:isRk 4294967296 (ratV (farQ 1 (rdS (segV lo hi)).1 (rdS (segV lo hi)).2 (rdV b.v))):=by rw [←hy];exact qy.rk (by decide)
   have rd:isRk 4294967296 (ratV (rdR (ratV (farQ 1 (rdS (segV lo hi)).1 (rdS (segV lo hi)).2 (rdV a.v))) - rdR (ratV (farQ 1 (rdS (segV lo hi)).1 (rdS (segV lo hi)).2 (rdV b.v))))):=by rw [rdR_ratV,rdR_ratV,←hx,←hy];exact(qx.sub qy).rk (by decide)
   have ix:decide (cmpQ (rdR (ratV (farQ 1 (rdS (segV lo hi)).1 (rdS (segV lo hi)).2 (rdV a.v)))) 0≤0)=decide (cmpQ x 0≤0):=by rw [rdR_ratV,←hx]
   have iy:decide (cmpQ (rdR (ratV (farQ 1 (rdS (segV lo hi)).1 (rdS (segV lo hi)).2 (rdV b.v)))) 0≤0)=decide (cmpQ y 0≤0):=by rw [rdR_ratV,←hy]
   have it:rdR (ratV (farQ 1 (rdS (segV lo hi)).1 (rdS (segV lo hi)).2 (rdV a.v))) / rdR (ratV (rdR (ratV (farQ 1 (rdS (segV lo hi)).1 (rdS (segV lo hi)).2 (rdV a.v))) - rdR (ratV (farQ 1 (rdS (segV lo hi)).1 (rdS (segV lo hi)).2 (rdV b.v)))))=x / (x - y):=by rw [rdR_ratV,rdR_ratV,rdR_ratV,←hx,←hy]
   have prA:isSeg 4294967296 (segV lo hi)∧isPk 4294967296 a.v:=⟨⟨lo,hi,rfl,hlo',hhi'⟩,a,rfl,ha'⟩
   have prB:isSeg 4294967296 (segV lo hi)∧isPk 4294967296 b.v:=⟨⟨lo,hi,rfl,hlo',hhi'⟩,b,rfl,hb'⟩
   have sk:decide (cmpQ (rdR (ratV (farQ 1 (rdS (segV lo hi)).1 (rdS (segV lo hi)).2 (rdV a.v)))) 0≤0)=true→decide (cmpQ (rdR (ratV (farQ 1 (rdS (segV lo hi)).1 (rdS (segV lo hi)).2 (rdV b.v)))) 0≤0)=true→(partsP lo hi (pn c) (fun i=>pts (pg c i)) a b (1)).length=(partsP lo hi (pn c) (fun i=>pts (pg c i)) a b (2)).length:=fun h h'=>by
    rw [ix] at h
    rw [iy] at h'
    have e:partsP lo hi (pn c) (fun i=>pts (pg c i)) a b (1+1)=partsP lo hi (pn c) (fun i=>pts (pg c i)) a b 1++oneS 1 lo hi a b:=rfl
    rw [e,hone,h,h']
    simp
   have yl:∀fr:Rat,oneS 1 lo hi a b=[(-((1:Nat)+1:Int),fr)]→(partsP lo hi (pn c) (fun i=>pts (pg c i)) a b (1)).length < (partsP lo hi (pn c) (fun i=>pts (pg c i)) a b (k+4)).length∧[PV.val (.int .i64 (-2)),PV.val (ratV fr)]=pairV (partsP lo hi (pn c) (fun i=>pts (pg c i)) a b (k+4)) (partsP lo hi (pn c) (fun i=>pts (pg c i)) a b (1)).length∧(partsP lo hi (pn c) (fun i=>pts (pg c i)) a b (1)).length+1=(partsP lo hi (pn c) (fun i=>pts (pg c i)) a b (2)).length:=fun fr h=>by
    have h1:=partsP_at (n:=pn c) (p:=fun i=>pts (pg c i)) (show 1 < k+4 by omega) (x:=(-((1:Nat)+1:Int),fr)) (by rw [if_pos (by decide)];exact h)
    refine⟨h1.2.1,?_,h1.2.2.symm⟩
    unfold pairV ixL frL
    rw [h1.1]
    rfl
   have fa:(decide (cmpQ x 0≤0)&&decide (cmpQ y 0≤0))=false→decide (cmpQ (rdR (ratV (farQ 1 (rdS (segV lo hi)).1 (rdS (segV lo hi)).2 (rdV a.v)))) 0≤0)=true→oneS 1 lo hi a b=[(-((1:Nat)+1:Int),rdR (ratV (farQ 1 (rdS (segV lo hi)).1 (rdS (segV lo hi)).2 (rdV a.v))) / rdR (ratV (rdR (ratV (farQ 1 (rdS (segV lo hi)).1 (rdS (segV lo hi)).2 (rdV a.v))) - rdR (ratV (farQ 1 (rdS (segV lo hi)).1 (rdS (segV lo hi)).2 (rdV b.v))))))]:=fun h h'=>by
    rw [ix] at h'
    rw [hone,h,h',it]
    rfl
   have fb:(decide (cmpQ x 0≤0)&&decide (cmpQ y 0≤0))=false→decide (cmpQ (rdR (ratV (farQ 1 (rdS (segV lo hi)).1 (rdS (segV lo hi)).2 (rdV a.v)))) 0≤0)=false→oneS 1 lo hi a b=[(-((1:Nat)+1:Int),0)]:=fun h h'=>by
    rw [ix] at h'
    rw [hone,h,h']
    rfl
   have k1:decide (cmpQ (rdR (ratV (farQ 1 (rdS (segV lo hi)).1 (rdS (segV lo hi)).2 (rdV b.v)))) 0≤0)=false→(decide (cmpQ x 0≤0)&&decide (cmpQ y 0≤0))=false:=fun h=>by
    rw [iy] at h
    rw [h,Bool.and_false]
   have k2:decide (cmpQ (rdR (ratV (farQ 1 (rdS (segV lo hi)).1 (rdS (segV lo hi)).2 (rdV a.v)))) 0≤0) = !true→(decide (cmpQ x 0≤0)&&decide (cmpQ y 0≤0))=false:=fun h=>by
    rw [ix] at h
    rw [h]
    rfl
   clear hx hy
   with_unfolding_all refine⟨fun _=>⟨⟨by decide,by decide⟩,⟨⟨prA,⟨⟨prB,⟨?_,?_⟩⟩,⟨⟨⟨prB,?_⟩,⟨prB,?_⟩⟩,⟨⟨prB,?_⟩,⟨prB,?_⟩⟩⟩⟩⟩,⟨⟨⟨prA,⟨⟨prB,?_⟩,⟨prB,?_⟩⟩⟩,⟨prA,⟨prB,?_⟩⟩⟩,⟨⟨prA,⟨⟨prB,?_⟩,⟨prB,?_⟩⟩⟩,⟨prA,⟨prB,?_⟩⟩⟩⟩⟩⟩,fun hh=>absurd hh (by decide)⟩
   all_goals with_unfolding_all refine⟨rx,fun h1=>⟨ry,fun h2=>⟨2,[],by show 2≤4;decide,by show 4 - 2 < 4 - 1;decide,Wo trivial ⟨rfl,⟨rfl,rfl,rfl,rfl,fun _ _=>rfl⟩,⟨rfl,rfl,rfl,rfl,fun _ _=>rfl⟩,rfl,rfl,qQ⟩ ⟨⟨congrArg (fun z:Nat=>PV.val (.int .i64 (z:Int))) (sk h1 h2),rfl,qQ⟩,qQ⟩⟩,fun h2=>⟨rx,fun h3=>⟨⟨rx,ry⟩,⟨rx,rd⟩,⟨rfl,(partsP lo hi (pn c) (fun i=>pts (pg c i)) a b (1)).length,rfl,(yl _ (fa (k1 h2) h3)).1,(yl _ (fa (k1 h2) h3)).2.1,⟨fun e=>(nomatch e),fun _=>⟨2,[],by show 2≤4;decide,by show 4 - 2 < 4 - 1;decide,Wo trivial ⟨rfl,⟨rfl,rfl,rfl,rfl,fun _ _=>rfl⟩,⟨rfl,rfl,rfl,rfl,fun _ _=>rfl⟩,rfl,rfl,qQ⟩ ⟨⟨congrArg (fun z:Nat=>PV.val (.int .i64 (z:Int))) (yl _ (fa (k1 h2) h3)).2.2,rfl,qQ⟩,qQ⟩⟩⟩,⟨fun _=>trivial,fun e=>(nomatch e)⟩⟩⟩,fun h3=>⟨rfl,(partsP lo hi (pn c) (fun i=>pts (pg c i)) a b (1)).length,rfl,(yl _ (fb (k1 h2) h3)).1,(yl _ (fb (k1 h2) h3)).2.1,⟨fun e=>(nomatch e),fun _=>⟨2,[],by show 2≤4;decide,by show 4 - 2 < 4 - 1;decide,Wo trivial ⟨rfl,⟨rfl,rfl,rfl,rfl,fun _ _=>rfl⟩,⟨rfl,rfl,rfl,rfl,fun _ _=>rfl⟩,rfl,rfl,qQ⟩ ⟨⟨congrArg (fun z:Nat=>PV.val (.int .i64 (z:Int))) (yl _ (fb (k1 h2) h3)).2.2,rfl,qQ⟩,qQ⟩⟩⟩,⟨fun _=>trivial,fun e=>(nomatch e)⟩⟩⟩⟩,fun h1=>⟨fun h2=>(nomatch h2),fun h2=>⟨rx,fun h3=>⟨⟨rx,ry⟩,⟨rx,rd⟩,⟨rfl,(partsP lo hi (pn c) (fun i=>pts (pg c i)) a b (1)).length,rfl,(yl _ (fa (k2 h1) h3)).1,(yl _ (fa (k2 h1) h3)).2.1,⟨fun e=>(nomatch e),fun _=>⟨2,[],by show 2≤4;decide,by show 4 - 2 < 4 - 1;decide,Wo trivial ⟨rfl,⟨rfl,rfl,rfl,rfl,fun _ _=>rfl⟩,⟨rfl,rfl,rfl,rfl,fun _ _=>rfl⟩,rfl,rfl,qQ⟩ ⟨⟨congrArg (fun z:Nat=>PV.val (.int .i64 (z:Int))) (yl _ (fa (k2 h1) h3)).2.2,rfl,qQ⟩,qQ⟩⟩⟩,⟨fun _=>trivial,fun e=>(nomatch e)⟩⟩⟩,fun h3=>⟨rfl,(partsP lo hi (pn c) (fun i=>pts (pg c i)) a b (1)).length,rfl,(yl _ (fb (k2 h1) h3)).1,(yl _ (fb (k2 h1) h3)).2.1,⟨fun e=>(nomatch e),fun _=>⟨2,[],by show 2≤4;decide,by show 4 - 2 < 4 - 1;decide,Wo trivial ⟨rfl,⟨rfl,rfl,rfl,rfl,fun _ _=>rfl⟩,⟨rfl,rfl,rfl,rfl,fun _ _=>rfl⟩,rfl,rfl,qQ⟩ ⟨⟨congrArg (fun z:Nat=>PV.val (.int .i64 (z:Int))) (yl _ (fb (k2 h1) h3)).2.2,rfl,qQ⟩,qQ⟩⟩⟩,⟨fun _=>trivial,fun e=>(nomatch e)⟩⟩⟩⟩⟩
  |2,_ =>
   obtain⟨x,hx⟩:∃x,x=(farQ 2 (rdS (segV lo hi)).1 (rdS (segV lo hi)).2 (rdV a.v)):=⟨_,rfl⟩
   obtain⟨y,hy⟩:∃y,y=(farQ 2 (rdS (segV lo hi)).1 (rdS (segV lo hi)).2 (rdV b.v)):=⟨_,rfl⟩
   have hx1:farQ 2 lo hi a=x:=by rw [hx];rfl
   have hy1:farQ 2 lo hi b=y:=by rw [hy];rfl
   have qx:QB 20003 x:=by rw [←hx1];exact farQ_le 2 hlo hhi ha
   have qy:QB 20003 y:=by rw [←hy1];exact farQ_le 2 hlo hhi hb
   have hone:oneS 2 lo hi a b=bif decide (cmpQ x 0≤0)&&decide (cmpQ y 0≤0) then [] else [(-((2:Nat)+1:Int),bif decide (cmpQ x 0≤0) then x / (x - y) else 0)]:=by unfold oneS;rw [hx1,hy1]
   have rx:isRk 4294967296 (ratV (farQ 2 (rdS (segV lo hi)).1 (rdS (segV lo hi)).2 (rdV a.v))):=by rw [←hx];exact qx.rk (by decide)
   have ry:isRk 4294967296 (ratV (farQ 2 (rdS (segV lo hi)).1 (rdS (segV lo hi)).2 (rdV b.v))):=by rw [←hy];exact qy.rk (by decide)
   have rd:isRk 4294967296 (ratV (rdR (ratV (farQ 2 (rdS (segV lo hi)).1 (rdS (segV lo hi)).2 (rdV a.v))) - rdR (ratV (farQ 2 (rdS (segV lo hi)).1 (rdS (segV lo hi)).2 (rdV b.v))))):=by rw [rdR_ratV,rdR_ratV,←hx,←hy];exact(qx.sub qy).rk (by decide)
   have ix:decide (cmpQ (rdR (ratV (farQ 2 (rdS (segV lo hi)).1 (rdS (segV lo hi)).2 (rdV a.v)))) 0≤0)=decide (cmpQ x 0≤0):=by rw [rdR_ratV,←hx]
   have iy:decide (cmpQ (rdR (ratV (farQ 2 (rdS (segV lo hi)).1 (rdS (segV lo hi)).2 (rdV b.v)))) 0≤0)=decide (cmpQ y 0≤0):=by rw [rdR_ratV,←hy]
   have it:rdR (ratV (farQ 2 (rdS (segV lo hi)).1 (rdS (segV lo hi)).2 (rdV a.v))) / rdR (ratV (rdR (ratV (farQ 2 (rdS (segV lo hi)).1 (rdS (segV lo hi)).2 (rdV a.v))) - rdR (ratV (farQ 2 (rdS (segV lo hi)).1 (rdS (segV lo hi)).2 (rdV b.v)))))=x / (x - y):=by rw [rdR_ratV,rdR_ratV,rdR_ratV,←hx,←hy]
   have prA:isSeg 4294967296 (segV lo hi)∧isPk 4294967296 a.v:=⟨⟨lo,hi,rfl,hlo',hhi'⟩,a,rfl,ha'⟩
   have prB:isSeg 4294967296 (segV lo hi)∧isPk 4294967296 b.v:=⟨⟨lo,hi,rfl,hlo',hhi'⟩,b,rfl,hb'⟩
   have sk:decide (cmpQ (rdR (ratV (farQ 2 (rdS (segV lo hi)).1 (rdS (segV lo hi)).2 (rdV a.v)))) 0≤0)=true→decide (cmpQ (rdR (ratV (farQ 2 (rdS (segV lo hi)).1 (rdS (segV lo hi)).2 (rdV b.v)))) 0≤0)=true→(partsP lo hi (pn c) (fun i=>pts (pg c i)) a b (2)).length=(partsP lo hi (pn c) (fun i=>pts (pg c i)) a b (3)).length:=fun h h'=>by
    rw [ix] at h
    rw [iy] at h'
    have e:partsP lo hi (pn c) (fun i=>pts (pg c i)) a b (2+1)=partsP lo hi (pn c) (fun i=>pts (pg c i)) a b 2++oneS 2 lo hi a b:=rfl
    rw [e,hone,h,h']
    simp
   have yl:∀fr:Rat,oneS 2 lo hi a b=[(-((2:Nat)+1:Int),fr)]→(partsP lo hi (pn c) (fun i=>pts (pg c i)) a b (2)).length < (partsP lo hi (pn c) (fun i=>pts (pg c i)) a b (k+4)).length∧[PV.val (.int .i64 (-3)),PV.val (ratV fr)]=pairV (partsP lo hi (pn c) (fun i=>pts (pg c i)) a b (k+4)) (partsP lo hi (pn c) (fun i=>pts (pg c i)) a b (2)).length∧(partsP lo hi (pn c) (fun i=>pts (pg c i)) a b (2)).length+1=(partsP lo hi (pn c) (fun i=>pts (pg c i)) a b (3)).length:=fun fr h=>by
    have h1:=partsP_at (n:=pn c) (p:=fun i=>pts (pg c i)) (show 2 < k+4 by omega) (x:=(-((2:Nat)+1:Int),fr)) (by rw [if_pos (by decide)];exact h)
    refine⟨h1.2.1,?_,h1.2.2.symm⟩
    unfold pairV ixL frL
    rw [h1.1]
    rfl
   have fa:(decide (cmpQ x 0≤0)&&decide (cmpQ y 0≤0))=false→decide (cmpQ (rdR (ratV (farQ 2 (rdS (segV lo hi)).1 (rdS (segV lo hi)).2 (rdV a.v)))) 0≤0)=true→oneS 2 lo hi a b=[(-((2:Nat)+1:Int),rdR (ratV (farQ 2 (rdS (segV lo hi)).1 (rdS (segV lo hi)).2 (rdV a.v))) / rdR (ratV (rdR (ratV (farQ 2 (rdS (segV lo hi)).1 (rdS (segV lo hi)).2 (rdV a.v))) - rdR (ratV (farQ 2 (rdS (segV lo hi)).1 (rdS (segV lo hi)).2 (rdV b.v))))))]:=fun h h'=>by
    rw [ix] at h'
    rw [hone,h,h',it]
    rfl
   have fb:(decide (cmpQ x 0≤0)&&decide (cmpQ y 0≤0))=false→decide (cmpQ (rdR (ratV (farQ 2 (rdS (segV lo hi)).1 (rdS (segV lo hi)).2 (rdV a.v)))) 0≤0)=false→oneS 2 lo hi a b=[(-((2:Nat)+1:Int),0)]:=fun h h'=>by
    rw [ix] at h'
    rw [hone,h,h']
    rfl
   have k1:decide (cmpQ (rdR (ratV (farQ 2 (rdS (segV lo hi)).1 (rdS (segV lo hi)).2 (rdV b.v)))) 0≤0)=false→(decide (cmpQ x 0≤0)&&decide (cmpQ y 0≤0))=false:=fun h=>by
    rw [iy] at h
    rw [h,Bool.and_false]
   have k2:decide (cmpQ (rdR (ratV (farQ 2 (rdS (segV lo hi)).1 (rdS (segV lo hi)).2 (rdV a.v)))) 0≤0) = !true→(decide (cmpQ x 0≤0)&&decide (cmpQ y 0≤0))=false:=fun h=>by
    rw [ix] at h
    rw [h]
    rfl
   clear hx hy
   with_unfolding_all refine⟨fun _=>⟨⟨by decide,by decide⟩,⟨⟨prA,⟨⟨prB,⟨?_,?_⟩⟩,⟨⟨⟨prB,?_⟩,⟨prB,?_⟩⟩,⟨⟨prB,?_⟩,⟨prB,?_⟩⟩⟩⟩⟩,⟨⟨⟨prA,⟨⟨prB,?_⟩,⟨prB,?_⟩⟩⟩,⟨prA,⟨prB,?_⟩⟩⟩,⟨⟨prA,⟨⟨prB,?_⟩,⟨prB,?_⟩⟩⟩,⟨prA,⟨prB,?_⟩⟩⟩⟩⟩⟩,fun hh=>absurd hh (by decide)⟩
   all_goals with_unfolding_all refine⟨rx,fun h1=>⟨ry,fun h2=>⟨3,[],by show 3≤4;decide,by show 4 - 3 < 4 - 2;decide,Wo trivial ⟨rfl,⟨rfl,rfl,rfl,rfl,fun _ _=>rfl⟩,⟨rfl,rfl,rfl,rfl,fun _ _=>rfl⟩,rfl,rfl,qQ⟩ ⟨⟨congrArg (fun z:Nat=>PV.val (.int .i64 (z:Int))) (sk h1 h2),rfl,qQ⟩,qQ⟩⟩,fun h2=>⟨rx,fun h3=>⟨⟨rx,ry⟩,⟨rx,rd⟩,⟨rfl,(partsP lo hi (pn c) (fun i=>pts (pg c i)) a b (2)).length,rfl,(yl _ (fa (k1 h2) h3)).1,(yl _ (fa (k1 h2) h3)).2.1,⟨fun e=>(nomatch e),fun _=>⟨3,[],by show 3≤4;decide,by show 4 - 3 < 4 - 2;decide,Wo trivial ⟨rfl,⟨rfl,rfl,rfl,rfl,fun _ _=>rfl⟩,⟨rfl,rfl,rfl,rfl,fun _ _=>rfl⟩,rfl,rfl,qQ⟩ ⟨⟨congrArg (fun z:Nat=>PV.val (.int .i64 (z:Int))) (yl _ (fa (k1 h2) h3)).2.2,rfl,qQ⟩,qQ⟩⟩⟩,⟨fun _=>trivial,fun e=>(nomatch e)⟩⟩⟩,fun h3=>⟨rfl,(partsP lo hi (pn c) (fun i=>pts (pg c i)) a b (2)).length,rfl,(yl _ (fb (k1 h2) h3)).1,(yl _ (fb (k1 h2) h3)).2.1,⟨fun e=>(nomatch e),fun _=>⟨3,[],by show 3≤4;decide,by show 4 - 3 < 4 - 2;decide,Wo trivial ⟨rfl,⟨rfl,rfl,rfl,rfl,fun _ _=>rfl⟩,⟨rfl,rfl,rfl,rfl,fun _ _=>rfl⟩,rfl,rfl,qQ⟩ ⟨⟨congrArg (fun z:Nat=>PV.val (.int .i64 (z:Int))) (yl _ (fb (k1 h2) h3)).2.2,rfl,qQ⟩,qQ⟩⟩⟩,⟨fun _=>trivial,fun e=>(nomatch e)⟩⟩⟩⟩,fun h1=>⟨fun h2=>(nomatch h2),fun h2=>⟨rx,fun h3=>⟨⟨rx,ry⟩,⟨rx,rd⟩,⟨rfl,(partsP lo hi (pn c) (fun i=>pts (pg c i)) a b (2)).length,rfl,(yl _ (fa (k2 h1) h3)).1,(yl _ (fa (k2 h1) h3)).2.1,⟨fun e=>(nomatch e),fun _=>⟨3,[],by show 3≤4;decide,by show 4 - 3 < 4 - 2;decide,Wo trivial ⟨rfl,⟨rfl,rfl,rfl,rfl,fun _ _=>rfl⟩,⟨rfl,rfl,rfl,rfl,fun _ _=>rfl⟩,rfl,rfl,qQ⟩ ⟨⟨congrArg (fun z:Nat=>PV.val (.int .i64 (z:Int))) (yl _ (fa (k2 h1) h3)).2.2,rfl,qQ⟩,qQ⟩⟩⟩,⟨fun _=>trivial,fun e=>(nomatch e)⟩⟩⟩,fun h3=>⟨rfl,(partsP lo hi (pn c) (fun i=>pts (pg c i)) a b (2)).length,rfl,(yl _ (fb (k2 h1) h3)).1,(yl _ (fb (k2 h1) h3)).2.1,⟨fun e=>(nomatch e),fun _=>⟨3,[],by show 3≤4;decide,by show 4 - 3 < 4 - 2;decide,Wo trivial ⟨rfl,⟨rfl,rfl,rfl,rfl,fun _ _=>rfl⟩,⟨rfl,rfl,rfl,rfl,fun _ _=>rfl⟩,rfl,rfl,qQ⟩ ⟨⟨congrArg (fun z:Nat=>PV.val (.int .i64 (z:Int))) (yl _ (fb (k2 h1) h3)).2.2,rfl,qQ⟩,qQ⟩⟩⟩,⟨fun _=>trivial,fun e=>(nomatch e)⟩⟩⟩⟩⟩
  |3,_ =>
   obtain⟨x,hx⟩:∃x,x=(farQ 3 (rdS (segV lo hi)).1 (rdS (segV lo hi)).2 (rdV a.v)):=⟨_,rfl⟩
   obtain⟨y,hy⟩:∃y,y=(farQ 3 (rdS (segV lo hi)).1 (rdS (segV lo hi)).2 (rdV b.v)):=⟨_,rfl⟩
   have hx1:farQ 3 lo hi a=x:=by rw [hx];rfl
   have hy1:farQ 3 lo hi b=y:=by rw [hy];rfl
   have qx:QB 20003 x:=by rw [←hx1];exact farQ_le 3 hlo hhi ha
   have qy:QB 20003 y:=by rw [←hy1];exact farQ_le 3 hlo hhi hb
   have hone:oneS 3 lo hi a b=bif decide (cmpQ x 0≤0)&&decide (cmpQ y 0≤0) then [] else [(-((3:Nat)+1:Int),bif decide (cmpQ x 0≤0) then x / (x - y) else 0)]:=by unfold oneS;rw [hx1,hy1]
   have rx:isRk 4294967296 (ratV (farQ 3 (rdS (segV lo hi)).1 (rdS (segV lo hi)).2 (rdV a.v))):=by rw [←hx];exact qx.rk (by decide)
   have ry:isRk 4294967296 (ratV (farQ 3 (rdS (segV lo hi)).1 (rdS (segV lo hi)).2 (rdV b.v))):=by rw [←hy];exact qy.rk (by decide)
   have rd:isRk 4294967296 (ratV (rdR (ratV (farQ 3 (rdS (segV lo hi)).1 (rdS (segV lo hi)).2 (rdV a.v))) - rdR (ratV (farQ 3 (rdS (segV lo hi)).1 (rdS (segV lo hi)).2 (rdV b.v))))):=by rw [rdR_ratV,rdR_ratV,←hx,←hy];exact(qx.sub qy).rk (by decide)
   have ix:decide (cmpQ (rdR (ratV (farQ 3 (rdS (segV lo hi)).1 (rdS (segV lo hi)).2 (rdV a.v)))) 0≤0)=decide (cmpQ x 0≤0):=by rw [rdR_ratV,←hx]
   have iy:decide (cmpQ (rdR (ratV (farQ 3 (rdS (segV lo hi)).1 (rdS (segV lo hi)).2 (rdV b.v)))) 0≤0)=decide (cmpQ y 0≤0):=by rw [rdR_ratV,←hy]
   have it:rdR (ratV (farQ 3 (rdS (segV lo hi)).1 (rdS (segV lo hi)).2 (rdV a.v))) / rdR (ratV (rdR (ratV (farQ 3 (rdS (segV lo hi)).1 (rdS (segV lo hi)).2 (rdV a.v))) - rdR (ratV (farQ 3 (rdS (segV lo hi)).1 (rdS (segV lo hi)).2 (rdV b.v)))))=x / (x - y):=by rw [rdR_ratV,rdR_ratV,rdR_ratV,←hx,←hy]
   have prA:isSeg 4294967296 (segV lo hi)∧isPk 4294967296 a.v:=⟨⟨lo,hi,rfl,hlo',hhi'⟩,a,rfl,ha'⟩
   have prB:isSeg 4294967296 (segV lo hi)∧isPk 4294967296 b.v:=⟨⟨lo,hi,rfl,hlo',hhi'⟩,b,rfl,hb'⟩
   have sk:decide (cmpQ (rdR (ratV (farQ 3 (rdS (segV lo hi)).1 (rdS (segV lo hi)).2 (rdV a.v)))) 0≤0)=true→decide (cmpQ (rdR (ratV (farQ 3 (rdS (segV lo hi)).1 (rdS (segV lo hi)).2 (rdV b.v)))) 0≤0)=true→(partsP lo hi (pn c) (fun i=>pts (pg c i)) a b (3)).length=(partsP lo hi (pn c) (fun i=>pts (pg c i)) a b (4)).length:=fun h h'=>by
    rw [ix] at h
    rw [iy] at h'
    have e:partsP lo hi (pn c) (fun i=>pts (pg c i)) a b (3+1)=partsP lo hi (pn c) (fun i=>pts (pg c i)) a b 3++oneS 3 lo hi a b:=rfl
    rw [e,hone,h,h']
    simp
   have yl:∀fr:Rat,oneS 3 lo hi a b=[(-((3:Nat)+1:Int),fr)]→(partsP lo hi (pn c) (fun i=>pts (pg c i)) a b (3)).length < (partsP lo hi (pn c) (fun i=>pts (pg c i)) a b (k+4)).length∧[PV.val (.int .i64 (-4)),PV.val (ratV fr)]=pairV (partsP lo hi (pn c) (fun i=>pts (pg c i)) a b (k+4)) (partsP lo hi (pn c) (fun i=>pts (pg c i)) a b (3)).length∧(partsP lo hi (pn c) (fun i=>pts (pg c i)) a b (3)).length+1=(partsP lo hi (pn c) (fun i=>pts (pg c i)) a b (4)).length:=fun fr h=>by
    have h1:=partsP_at (n:=pn c) (p:=fun i=>pts (pg c i)) (show 3 < k+4 by omega) (x:=(-((3:Nat)+1:Int),fr)) (by rw [if_pos (by decide)];exact h)
    refine⟨h1.2.1,?_,h1.2.2.symm⟩
    unfold pairV ixL frL
    rw [h1.1]
    rfl
   have fa:(decide (cmpQ x 0≤0)&&decide (cmpQ y 0≤0))=false→decide (cmpQ (rdR (ratV (farQ 3 (rdS (segV lo hi)).1 (rdS (segV lo hi)).2 (rdV a.v)))) 0≤0)=true→oneS 3 lo hi a b=[(-((3:Nat)+1:Int),rdR (ratV (farQ 3 (rdS (segV lo hi)).1 (rdS (segV lo hi)).2 (rdV a.v))) / rdR (ratV (rdR (ratV (farQ 3 (rdS (segV lo hi)).1 (rdS (segV lo hi)).2 (rdV a.v))) - rdR (ratV (farQ 3 (rdS (segV lo hi)).1 (rdS (segV lo hi)).2 (rdV b.v))))))]:=fun h h'=>by
    rw [ix] at h'
    rw [hone,h,h',it]
    rfl
   have fb:(decide (cmpQ x 0≤0)&&decide (cmpQ y 0≤0))=false→decide (cmpQ (rdR (ratV (farQ 3 (rdS (segV lo hi)).1 (rdS (segV lo hi)).2 (rdV a.v)))) 0≤0)=false→oneS 3 lo hi a b=[(-((3:Nat)+1:Int),0)]:=fun h h'=>by
    rw [ix] at h'
    rw [hone,h,h']
    rfl
   have k1:decide (cmpQ (rdR (ratV (farQ 3 (rdS (segV lo hi)).1 (rdS (segV lo hi)).2 (rdV b.v)))) 0≤0)=false→(decide (cmpQ x 0≤0)&&decide (cmpQ y 0≤0))=false:=fun h=>by
    rw [iy] at h
    rw [h,Bool.and_false]
   have k2:decide (cmpQ (rdR (ratV (farQ 3 (rdS (segV lo hi)).1 (rdS (segV lo hi)).2 (rdV a.v)))) 0≤0) = !true→(decide (cmpQ x 0≤0)&&decide (cmpQ y 0≤0))=false:=fun h=>by
    rw [ix] at h
    rw [h]
    rfl
   clear hx hy
   with_unfolding_all refine⟨fun _=>⟨⟨by decide,by decide⟩,⟨⟨prA,⟨⟨prB,⟨?_,?_⟩⟩,⟨⟨⟨prB,?_⟩,⟨prB,?_⟩⟩,⟨⟨prB,?_⟩,⟨prB,?_⟩⟩⟩⟩⟩,⟨⟨⟨prA,⟨⟨prB,?_⟩,⟨prB,?_⟩⟩⟩,⟨prA,⟨prB,?_⟩⟩⟩,⟨⟨prA,⟨⟨prB,?_⟩,⟨prB,?_⟩⟩⟩,⟨prA,⟨prB,?_⟩⟩⟩⟩⟩⟩,fun hh=>absurd hh (by decide)⟩
   all_goals with_unfolding_all refine⟨rx,fun h1=>⟨ry,fun h2=>⟨4,[],by show 4≤4;decide,by show 4 - 4 < 4 - 3;decide,Wo trivial ⟨rfl,⟨rfl,rfl,rfl,rfl,fun _ _=>rfl⟩,⟨rfl,rfl,rfl,rfl,fun _ _=>rfl⟩,rfl,rfl,qQ⟩ ⟨⟨congrArg (fun z:Nat=>PV.val (.int .i64 (z:Int))) (sk h1 h2),rfl,qQ⟩,qQ⟩⟩,fun h2=>⟨rx,fun h3=>⟨⟨rx,ry⟩,⟨rx,rd⟩,⟨rfl,(partsP lo hi (pn c) (fun i=>pts (pg c i)) a b (3)).length,rfl,(yl _ (fa (k1 h2) h3)).1,(yl _ (fa (k1 h2) h3)).2.1,⟨fun e=>(nomatch e),fun _=>⟨4,[],by show 4≤4;decide,by show 4 - 4 < 4 - 3;decide,Wo trivial ⟨rfl,⟨rfl,rfl,rfl,rfl,fun _ _=>rfl⟩,⟨rfl,rfl,rfl,rfl,fun _ _=>rfl⟩,rfl,rfl,qQ⟩ ⟨⟨congrArg (fun z:Nat=>PV.val (.int .i64 (z:Int))) (yl _ (fa (k1 h2) h3)).2.2,rfl,qQ⟩,qQ⟩⟩⟩,⟨fun _=>trivial,fun e=>(nomatch e)⟩⟩⟩,fun h3=>⟨rfl,(partsP lo hi (pn c) (fun i=>pts (pg c i)) a b (3)).length,rfl,(yl _ (fb (k1 h2) h3)).1,(yl _ (fb (k1 h2) h3)).2.1,⟨fun e=>(nomatch e),fun _=>⟨4,[],by show 4≤4;decide,by show 4 - 4 < 4 - 3;decide,Wo trivial ⟨rfl,⟨rfl,rfl,rfl,rfl,fun _ _=>rfl⟩,⟨rfl,rfl,rfl,rfl,fun _ _=>rfl⟩,rfl,rfl,qQ⟩ ⟨⟨congrArg (fun z:Nat=>PV.val (.int .i64 (z:Int))) (yl _ (fb (k1 h2) h3)).2.2,rfl,qQ⟩,qQ⟩⟩⟩,⟨fun _=>trivial,fun e=>(nomatch e)⟩⟩⟩⟩,fun h1=>⟨fun h2=>(nomatch h2),fun h2=>⟨rx,fun h3=>⟨⟨rx,ry⟩,⟨rx,rd⟩,⟨rfl,(partsP lo hi (pn c) (fun i=>pts (pg c i)) a b (3)).length,rfl,(yl _ (fa (k2 h1) h3)).1,(yl _ (fa (k2 h1) h3)).2.1,⟨fun e=>(nomatch e),fun _=>⟨4,[],by show 4≤4;decide,by show 4 - 4 < 4 - 3;decide,Wo trivial ⟨rfl,⟨rfl,rfl,rfl,rfl,fun _ _=>rfl⟩,⟨rfl,rfl,rfl,rfl,fun _ _=>rfl⟩,rfl,rfl,qQ⟩ ⟨⟨congrArg (fun z:Nat=>PV.val (.int .i64 (z:Int))) (yl _ (fa (k2 h1) h3)).2.2,rfl,qQ⟩,qQ⟩⟩⟩,⟨fun _=>trivial,fun e=>(nomatch e)⟩⟩⟩,fun h3=>⟨rfl,(partsP lo hi (pn c) (fun i=>pts (pg c i)) a b (3)).length,rfl,(yl _ (fb (k2 h1) h3)).1,(yl _ (fb (k2 h1) h3)).2.1,⟨fun e=>(nomatch e),fun _=>⟨4,[],by show 4≤4;decide,by show 4 - 4 < 4 - 3;decide,Wo trivial ⟨rfl,⟨rfl,rfl,rfl,rfl,fun _ _=>rfl⟩,⟨rfl,rfl,rfl,rfl,fun _ _=>rfl⟩,rfl,rfl,qQ⟩ ⟨⟨congrArg (fun z:Nat=>PV.val (.int .i64 (z:Int))) (yl _ (fb (k2 h1) h3)).2.2,rfl,qQ⟩,qQ⟩⟩⟩,⟨fun _=>trivial,fun e=>(nomatch e)⟩⟩⟩⟩⟩
  |4,_ =>
   have h44:decide (((4:Nat):Int) < 4)=true→False:=fun h=>absurd h (by decide)
   with_unfolding_all refine⟨fun h=>h44 h,fun _=>⟨Nat,fun i=>i≤k,fun i=>stOf [(0,.val (.func (.yield L0) ⟨[]⟩ ⟨[]⟩)),(1,.rp 14 1 (fun _=>regC lo hi k c l o) 0 0),(2,.rp 12 1 (fun _=>segC a b) 0 0),(60,.rs 1 k (fun i=>[.rs 6 (pn c i) (pg c i)])),(61,.val (goInt k)),(62,.val (goInt i))] [] 0 [[(0,.val (.int .i64 ((partsP lo hi (pn c) (fun i=>pts (pg c i)) a b (i+4)).length:Nat))),(1,.val (.bool false))]],fun i=>k - i,⟨0,[],Nat.zero_le _,Wo trivial ⟨rfl,⟨rfl,rfl,rfl,rfl,fun _ _=>rfl⟩,⟨rfl,rfl,rfl,rfl,fun _ _=>rfl⟩,qW,rfl,rfl,qQ⟩ ⟨⟨rfl,rfl,qQ⟩,qQ⟩⟩,fun i hik=>?_⟩⟩
   have hX:(partO (pn c ((i:Nat):Int).toNat) (pts (pg c ((i:Nat):Int).toNat)) (rdS (segV a b)).1 (rdS (segV a b)).2)=partO (pn c i) (pts (pg c i)) a b:=rfl
   have sk:(partO (pn c ((i:Nat):Int).toNat) (pts (pg c ((i:Nat):Int).toNat)) (rdS (segV a b)).1 (rdS (segV a b)).2).isSome=false→(partsP lo hi (pn c) (fun i=>pts (pg c i)) a b (i+4)).length=(partsP lo hi (pn c) (fun i=>pts (pg c i)) a b ((i+1)+4)).length:=fun h=>by
    rw [hX] at h
    have e:partsP lo hi (pn c) (fun i=>pts (pg c i)) a b (i+4+1)=partsP lo hi (pn c) (fun i=>pts (pg c i)) a b (i+4)++(if i+4 < 4 then oneS (i+4) lo hi a b else oneC (i+4 - 4) (pn c (i+4 - 4)) (pts (pg c (i+4 - 4))) a b):=rfl
    rw [show i+1+4=i+4+1 by omega,e,if_neg (by omega),show i+4 - 4=i by omega,oneC]
    cases hh:partO (pn c i) (pts (pg c i)) a b with
    |none=>simp
    |some s=>rw [hh] at h;cases h
   have yl:i < k→(partO (pn c ((i:Nat):Int).toNat) (pts (pg c ((i:Nat):Int).toNat)) (rdS (segV a b)).1 (rdS (segV a b)).2).isSome=true→(partsP lo hi (pn c) (fun i=>pts (pg c i)) a b (i+4)).length < (partsP lo hi (pn c) (fun i=>pts (pg c i)) a b (k+4)).length∧[PV.val (.int .i64 i),PV.val (ratV (loO (partO (pn c ((i:Nat):Int).toNat) (pts (pg c ((i:Nat):Int).toNat)) (rdS (segV a b)).1 (rdS (segV a b)).2)))]=pairV (partsP lo hi (pn c) (fun i=>pts (pg c i)) a b (k+4)) (partsP lo hi (pn c) (fun i=>pts (pg c i)) a b (i+4)).length∧(partsP lo hi (pn c) (fun i=>pts (pg c i)) a b (i+4)).length+1=(partsP lo hi (pn c) (fun i=>pts (pg c i)) a b ((i+1)+4)).length:=fun hik h=>by
    rw [hX] at h ⊢
    cases hh:partO (pn c i) (pts (pg c i)) a b with
    |none=>rw [hh] at h;cases h
    |some s =>
    have h1:=partsP_at (lo:=lo) (hi:=hi) (n:=pn c) (p:=fun i=>pts (pg c i)) (a:=a) (b:=b) (show i+4 < k+4 by omega) (x:=((i:Int),s.1)) (by rw [if_neg (by omega),show i+4 - 4=i by omega,oneC,hh])
    refine⟨h1.2.1,?_,by rw [show i+1+4=i+4+1 by omega];exact h1.2.2.symm⟩
    unfold pairV ixL frL
    rw [h1.1]
    rfl
   have nb:(partO (pn c ((i:Nat):Int).toNat) (pts (pg c ((i:Nat):Int).toNat)) (rdS (segV a b)).1 (rdS (segV a b)).2).isSome=true→partB (pn c ((i:Nat):Int).toNat) (pts (pg c ((i:Nat):Int).toNat)) (rdS (segV a b)).1 (rdS (segV a b)).2=false:=fun h=>by
    rw [hX] at h
    show partB (pn c i) (pts (pg c i)) a b=false
    cases hb:partB (pn c i) (pts (pg c i)) a b
    ·rfl
    ·unfold partO at h
     rw [hb] at h
     cases h
   have nb':(partO (pn c ((i:Nat):Int).toNat) (pts (pg c ((i:Nat):Int).toNat)) (rdS (segV a b)).1 (rdS (segV a b)).2).isSome=true→∀x:Bool,x=((bif partB (pn c ((i:Nat):Int).toNat) (pts (pg c ((i:Nat):Int).toNat)) (rdS (segV a b)).1 (rdS (segV a b)).2 then(1:Int) else 0)==0)→x=false→False:=fun h x hx h'=>by
    rw [nb h] at hx
    rw [hx] at h'
    cases h'
   have ltT:decide ((i:Int) < (k:Int))=true→i < k:=fun h=>Int.ofNat_lt.1 (of_decide_eq_true h)
   have ltF:decide ((i:Int) < (k:Int))=false→i=k:=fun h=>Nat.le_antisymm hik (Nat.le_of_not_lt fun h'=>of_decide_eq_false h (Int.ofNat_lt.2 h'))
   have wi:decide ((i:Int) < (k:Int))=true→PV.val (.int .i64 (IntKind.i64.wrap ((i:Int)+1)))=.val (goInt (i+1:Nat)):=fun h=>by
    have:=ltT h
    rw [wrap64 (by omega) (by omega)]
    rfl
   with_unfolding_all refine⟨fun h0=>⟨⟨Int.natCast_nonneg i,Int.ofNat_lt.2 (ltT h0)⟩,⟨(hc i (ltT h0)).2,a,b,rfl,ha,hb⟩,fun h1=>⟨fun h2=>⟨rfl,(partsP lo hi (pn c) (fun i=>pts (pg c i)) a b (i+4)).length,rfl,(yl (ltT h0) h1).1,(yl (ltT h0) h1).2.1,⟨fun _=>⟨fun e=>(nomatch e),fun _=>⟨i+1,[],ltT h0,by have:=ltT h0;show k - (i+1) < k - i;omega,Wo trivial ⟨rfl,⟨rfl,rfl,rfl,rfl,fun _ _=>rfl⟩,⟨rfl,rfl,rfl,rfl,fun _ _=>rfl⟩,qW,rfl,wi h0,qQ⟩ ⟨⟨congrArg (fun z:Nat=>PV.val (.int .i64 (z:Int))) (yl (ltT h0) h1).2.2,rfl,qQ⟩,qQ⟩⟩⟩,fun e=>(nomatch e)⟩,⟨fun _=>⟨fun _=>trivial,fun e=>(nomatch e)⟩,fun e=>(nomatch e)⟩⟩,fun h2=>⟨fun e=>(nomatch e),fun _=>(nb' h1 _ rfl h2).elim⟩⟩,fun h1=>⟨fun e=>(nomatch e),fun _=>⟨fun e=>(nomatch e),fun _=>⟨i+1,[],ltT h0,by have:=ltT h0;show k - (i+1) < k - i;omega,Wo trivial ⟨rfl,⟨rfl,rfl,rfl,rfl,fun _ _=>rfl⟩,⟨rfl,rfl,rfl,rfl,fun _ _=>rfl⟩,qW,rfl,wi h0,qQ⟩ ⟨⟨congrArg (fun z:Nat=>PV.val (.int .i64 (z:Int))) (sk h1),rfl,qQ⟩,qQ⟩⟩⟩⟩⟩,fun h0=>?_⟩
   rw [ltF h0]
   rfl
  |j+5,h=>exact absurd h (by show ¬j+5≤4;omega)
 ·cases e
end Go.Proofs
namespace Go.Num
open Go Go.Ex Go.Proofs
def okB (lo hi:PtS) (k:Nat) (c:Nat→List PV) (l:Nat) (o:Nat→List PV) (v:Value):Bool:=!(!canonP (rdS v).1||!canonP (rdS v).2)&&(regE lo hi k (pn c) (fun i=>pts (pg c i)) l (ow o)==0)
def partsC (lo hi:PtS) (k:Nat) (c:Nat→List PV) (v:Value):List (Int×Rat):=partsL lo hi k (pn c) (fun i=>pts (pg c i)) (rdS v).1 (rdS v).2
def blkI (b:Bool) (L:List (Int×Rat)):Int:=bif b then ixL L 0 else 0
end Go.Num
namespace Go.Proofs
open Go Go.Ex Go.Num
set_option maxRecDepth 100000
def c91:List PV→Option Ans
 |[.agg [.val (.bool s1),.val (.string b1),.val (.string c1),.val (.bool s2),.val (.string b2),.val (.string c2),.val (.bool s3),.val (.string b3),.val (.string c3),.val (.bool s4),.val (.string b4),.val (.string c4),.rs 1 k c,.rs 3 l o],.val v]=>some ⟨some (((PtS.le 10000 (PtS.mk ⟨s1,b1,c1⟩ ⟨s2,b2,c2⟩)∧PtS.le 10000 (PtS.mk ⟨s3,b3,c3⟩ ⟨s4,b4,c4⟩))∧isCL 10000 k c∧isOL l o)∧isSeg 10000 v),.val (.tuple ⟨[.int .i64 (blkI (okB (PtS.mk ⟨s1,b1,c1⟩ ⟨s2,b2,c2⟩) (PtS.mk ⟨s3,b3,c3⟩ ⟨s4,b4,c4⟩) k c l o v) (partsC (PtS.mk ⟨s1,b1,c1⟩ ⟨s2,b2,c2⟩) (PtS.mk ⟨s3,b3,c3⟩ ⟨s4,b4,c4⟩) k c v)),.bool (okB (PtS.mk ⟨s1,b1,c1⟩ ⟨s2,b2,c2⟩) (PtS.mk ⟨s3,b3,c3⟩ ⟨s4,b4,c4⟩) k c l o v&&!(partsC (PtS.mk ⟨s1,b1,c1⟩ ⟨s2,b2,c2⟩) (PtS.mk ⟨s3,b3,c3⟩ ⟨s4,b4,c4⟩) k c v).isEmpty),.int .i64 (okW (okB (PtS.mk ⟨s1,b1,c1⟩ ⟨s2,b2,c2⟩) (PtS.mk ⟨s3,b3,c3⟩ ⟨s4,b4,c4⟩) k c l o v))]⟩),[]⟩
 |_=>none
def D91:Opt:={ }
theorem ok91:funcOk D91.toOrd Tryz.f91 2=true:=by kernel_rfl
theorem f91:FnOk Tryz.prog 91 c91:=by
 refine FnOk.ofW orders (mkS_ok (l:=[(125,c125),(126,c126)]) (own:=[]) (inl:=[]) (sq:=[(171,c171)]) (by simp [f125,f126]) (by simp) (by simp [f171])) Tryz.func91 D91 2 ok91 fun args r e=>?_
 unfold c91 at e
 split at e
 ·rename_i s1 b1 c1 s2 b2 c2 s3 b3 c3 s4 b4 c4 k c l o v
  cases e
  refine⟨by simp,fun hm=>?_⟩
  obtain⟨⟨⟨hlo,hhi⟩,⟨hc,hk⟩,ho,hl⟩,a,b,rfl,ha,hb⟩:=hm _ rfl
  obtain⟨lo,hlo'⟩:∃p,p=(PtS.mk ⟨s1,b1,c1⟩ ⟨s2,b2,c2⟩):=⟨_,rfl⟩
  obtain⟨hi,hhi'⟩:∃p,p=(PtS.mk ⟨s3,b3,c3⟩ ⟨s4,b4,c4⟩):=⟨_,rfl⟩
  have hc1:∀i,i < k→[.rs 6 (pn c i) (pg c i)]=c i:=fun i hi=>(hc i hi).1.symm
  have ho1:∀i,i < l→cellsO (ow o i)=o i:=fun i hi=>(ho i hi).symm
  refine⟨[],stOf [(0,.agg [.val (.bool (PtS.mk ⟨s1,b1,c1⟩ ⟨s2,b2,c2⟩).x.s),.val (.string (PtS.mk ⟨s1,b1,c1⟩ ⟨s2,b2,c2⟩).x.b),.val (.string (PtS.mk ⟨s1,b1,c1⟩ ⟨s2,b2,c2⟩).x.c),.val (.bool (PtS.mk ⟨s1,b1,c1⟩ ⟨s2,b2,c2⟩).y.s),.val (.string (PtS.mk ⟨s1,b1,c1⟩ ⟨s2,b2,c2⟩).y.b),.val (.string (PtS.mk ⟨s1,b1,c1⟩ ⟨s2,b2,c2⟩).y.c),.val (.bool (PtS.mk ⟨s3,b3,c3⟩ ⟨s4,b4,c4⟩).x.s),.val (.string (PtS.mk ⟨s3,b3,c3⟩ ⟨s4,b4,c4⟩).x.b),.val (.string (PtS.mk ⟨s3,b3,c3⟩ ⟨s4,b4,c4⟩).x.c),.val (.bool (PtS.mk ⟨s3,b3,c3⟩ ⟨s4,b4,c4⟩).y.s),.val (.string (PtS.mk ⟨s3,b3,c3⟩ ⟨s4,b4,c4⟩).y.b),.val (.string (PtS.mk ⟨s3,b3,c3⟩ ⟨s4,b4,c4⟩).y.c),.rs 1 k (fun i=>[.rs 6 (pn c i) (pg c i)]),.rs 3 l (fun i=>cellsO (ow o i))]),(1,.val (segV a b))] [] 0 [],Wo trivial ⟨⟨rfl,rfl,rfl,rfl,rfl,rfl,rfl,rfl,rfl,rfl,rfl,rfl,⟨rfl,rfl,hc1⟩,⟨rfl,rfl,ho1⟩,qQ⟩,rfl,qQ⟩ trivial,?_⟩
  rw [←hlo'] at hlo ⊢
  rw [←hhi'] at hhi ⊢
  clear hlo' hhi' hm
  have hlo':=hlo.mono (show 10000≤4294967296 by decide)
  have hhi':=hhi.mono (show 10000≤4294967296 by decide)
  have hrg:(lo.le 4294967296∧hi.le 4294967296)∧isCL 10000 k (fun i=>[.rs 6 (pn c i) (pg c i)])∧isOL l (fun i=>cellsO (ow o i)):=⟨⟨hlo',hhi'⟩,⟨fun i hi=>⟨rfl,(hc i hi).2⟩,hk⟩,fun i hi=>rfl,hl⟩
  obtain⟨R,hR⟩:∃R,R=regE lo hi k (pn c) (fun i=>pts (pg c i)) l (ow o):=⟨_,rfl⟩
  have hR':regE lo hi k (pn (fun i=>[.rs 6 (pn c i) (pg c i)])) (fun i=>pts (pg (fun i=>[.rs 6 (pn c i) (pg c i)]) i)) l (ow (fun i=>cellsO (ow o i)))=R:=hR.symm
  have ha':=ha.mono (show 10000≤4294967296 by decide)
  have hb':=hb.mono (show 10000≤4294967296 by decide)
  obtain⟨L,hL⟩:∃L,L=partsC lo hi k c (segV a b):=⟨_,rfl⟩
  rw [←hL]
  obtain⟨OK,hOK⟩:∃OK,OK=okB lo hi k c l o (segV a b):=⟨_,rfl⟩
  rw [←hOK]
  obtain⟨VI,hVI⟩:∃VI,VI=blkI OK L:=⟨_,rfl⟩
  rw [←hVI]
  obtain⟨VB,hVB⟩:∃VB,VB=(OK&&!L.isEmpty):=⟨_,rfl⟩
  rw [←hVB]
  have hL':partsL lo hi k (pn (fun i=>[.rs 6 (pn c i) (pg c i)])) (fun i=>pts (pg (fun i=>[.rs 6 (pn c i) (pg c i)]) i)) a b=L:=hL.symm
  have cn:∀r:Nat→List PV,pts r 0=a→pts r 1=b→anyP (fun i=>!canonP (pts r i)) 2=(!canonP a||!canonP b):=fun r h h'=>by
   have e:List.range 2=[0,1]:=rfl
   simp only [anyP,e,List.any_cons,List.any_nil,Bool.or_false,h,h']
  have p2:∀r:Nat→List PV,r 0=a.cells→r 1=b.cells→isPL 4294967296 2 r:=fun r h h'=>⟨fun i hi=>by
   match i,hi with
   |0,_=>exact⟨by rw [pts,h];rfl,by rw [pts,h];exact ha'⟩
   |1,_=>exact⟨by rw [pts,h'];rfl,by rw [pts,h'];exact hb'⟩
   |i+2,h=>omega,by decide⟩
  have hOK':OK=(!(!canonP a||!canonP b)&&(R==0)):=by rw [hOK,hR];rfl
  have q1:∀r:Nat→List PV,pts r 0=a→pts r 1=b→(!(!anyP (fun i=>!canonP (pts r i)) 2&&(regE lo hi k (pn (fun i=>[.rs 6 (pn c i) (pg c i)])) (fun i=>pts (pg (fun i=>[.rs 6 (pn c i) (pg c i)]) i)) l (ow (fun i=>cellsO (ow o i)))==0))) = !OK:=fun r h h'=>by
   rw [cn r h h',hR',hOK']
  with_unfolding_all refine⟨⟨hrg,p2 _ rfl rfl⟩,fun h1=>?_,fun h1=>?_⟩
  ·have h1:OK=false:=by
    have:=(q1 _ rfl rfl).symm.trans h1
    simpa using this
   have v1:PV.val (.int .i64 0)=PV.val (.int .i64 VI):=by rw [hVI,h1];rfl
   have v2:PV.val (.bool false)=PV.val (.bool VB):=by rw [hVB,h1];rfl
   have v3:PV.val (.int .i64 1)=PV.val (.int .i64 (okW OK)):=by rw [h1];rfl
   with_unfolding_all exact⟨[some 2,some 3,some 4],stOf [(4,.ptr 0 0 0 0),(5,.ptr 1 1 0 0),(6,.ptr 2 2 0 0)] [⟨3,1,0,true,false,1,fun _=>[.val (.int .i64 VI)]⟩,⟨4,1,1,true,false,1,fun _=>[.val (.bool VB)]⟩,⟨38,1,2,true,false,1,fun _=>[.val (.int .i64 (okW OK))]⟩] 3 [],Wo ⟨qZ ⟨⟨v1,rfl⟩,qQ⟩,qZ ⟨⟨v2,rfl⟩,qQ⟩,qZ ⟨⟨v3,rfl⟩,qQ⟩,qQ⟩ ⟨pP,pP,pP,qQ⟩ trivial,rfl,rfl⟩
  ·have h1:OK=true:=by
    have:=(q1 _ rfl rfl).symm.trans h1
    simpa using this
   have v3:PV.val (.int .i64 0)=PV.val (.int .i64 (okW OK)):=by rw [h1];rfl
   with_unfolding_all refine⟨⟨⟨fun i _=>rfl,fun i _=>rfl⟩,a,b,rfl⟩,⟨rq,⟨hlo,hhi⟩,⟨ha,hb⟩,⟨fun i hi=>⟨rfl,(hc i hi).2⟩,hk⟩⟩,Unit,fun i _=>i=0,fun _=>stOf [(2,.ptr 0 0 0 0),(3,.ptr 1 1 0 0),(4,.ptr 2 2 0 0),(5,.ptr 3 3 0 0),(6,.ptr 4 4 0 0)] [⟨31,14,0,true,false,1,fun _=>[.val (.bool lo.x.s),.val (.string lo.x.b),.val (.string lo.x.c),.val (.bool lo.y.s),.val (.string lo.y.b),.val (.string lo.y.c),.val (.bool hi.x.s),.val (.string hi.x.b),.val (.string hi.x.c),.val (.bool hi.y.s),.val (.string hi.y.b),.val (.string hi.y.c),.rs 1 k (fun i=>[.rs 6 (pn c i) (pg c i)]),.rs 3 l (fun i=>cellsO (ow o i))]⟩,⟨117,12,1,true,false,1,fun _=>[.val (.bool a.x.s),.val (.string a.x.b),.val (.string a.x.c),.val (.bool a.y.s),.val (.string a.y.b),.val (.string a.y.c),.val (.bool b.x.s),.val (.string b.x.b),.val (.string b.x.c),.val (.bool b.y.s),.val (.string b.y.b),.val (.string b.y.c)]⟩,⟨3,1,2,true,false,1,fun _=>[.val (.int .i64 0)]⟩,⟨4,1,3,true,false,1,fun _=>[.val (.bool false)]⟩,⟨38,1,4,true,false,1,fun _=>[.val (.int .i64 0)]⟩] 5 [],⟨(),[some 0,some 1,some 2,some 3,some 4],rfl,Wo ⟨qZ ⟨rq,rq,rq,rq,rq,rq,rq,rq,rq,rq,rq,rq,⟨qW,rfl⟩,⟨qW,rfl⟩,qQ⟩,qZ ⟨rq,rq,rq,rq,rq,rq,rq,rq,rq,rq,rq,rq,qQ⟩,qY,qY,qY,qQ⟩ ⟨pP,pP,pP,pP,pP,qQ⟩ trivial⟩,fun i y hin hI=>?_,fun y hI=>?_⟩
   ·have hI:i=0:=hI
    have hin:i < (partsL lo hi k (pn (fun i=>[.rs 6 (pn c i) (pg c i)])) (fun i=>pts (pg (fun i=>[.rs 6 (pn c i) (pg c i)]) i)) a b).length:=hin
    have v1:PV.val (.int .i64 (ixL (partsL lo hi k (pn (fun i=>[.rs 6 (pn c i) (pg c i)])) (fun i=>pts (pg (fun i=>[.rs 6 (pn c i) (pg c i)]) i)) a b) i))=PV.val (.int .i64 VI):=by rw [hL',hVI,h1,hI];rfl
    have v2:PV.val (.bool true)=PV.val (.bool VB):=by
     rw [hL'] at hin
     rw [hVB,h1]
     cases L with
     |nil=>cases hin
     |cons=>rfl
    with_unfolding_all exact⟨rfl,⟨[some 2,some 3,some 4],stOf [(4,.ptr 0 0 0 0),(5,.ptr 1 1 0 0),(6,.ptr 2 2 0 0)] [⟨3,1,0,true,false,1,fun _=>[.val (.int .i64 VI)]⟩,⟨4,1,1,true,false,1,fun _=>[.val (.bool VB)]⟩,⟨38,1,2,true,false,1,fun _=>[.val (.int .i64 (okW OK))]⟩] 3 [],Wo ⟨qZ ⟨⟨v1,rfl⟩,qQ⟩,qZ ⟨⟨v2,rfl⟩,qQ⟩,qZ ⟨⟨v3,rfl⟩,qQ⟩,qQ⟩ ⟨pP,pP,pP,qQ⟩ trivial,rfl,rfl⟩⟩
   ·have hI:(partsL lo hi k (pn (fun i=>[.rs 6 (pn c i) (pg c i)])) (fun i=>pts (pg (fun i=>[.rs 6 (pn c i) (pg c i)]) i)) a b).length=0:=hI
    rw [hL'] at hI
    have hI:=List.length_eq_zero_iff.1 hI
    have v1:PV.val (.int .i64 0)=PV.val (.int .i64 VI):=by rw [hVI,h1,hI];rfl
    have v2:PV.val (.bool false)=PV.val (.bool VB):=by rw [hVB,h1,hI];rfl
    with_unfolding_all exact⟨[some 2,some 3,some 4],stOf [(4,.ptr 0 0 0 0),(5,.ptr 1 1 0 0),(6,.ptr 2 2 0 0)] [⟨3,1,0,true,false,1,fun _=>[.val (.int .i64 VI)]⟩,⟨4,1,1,true,false,1,fun _=>[.val (.bool VB)]⟩,⟨38,1,2,true,false,1,fun _=>[.val (.int .i64 (okW OK))]⟩] 3 [],Wo ⟨qZ ⟨⟨v1,rfl⟩,qQ⟩,qZ ⟨⟨v2,rfl⟩,qQ⟩,qZ ⟨⟨v3,rfl⟩,qQ⟩,qQ⟩ ⟨pP,pP,pP,qQ⟩ trivial,rfl,rfl⟩
 ·cases e
end Go.Proofs
namespace Go.Num
open Go Go.Ex Go.Proofs
def seeB (lo hi:PtS) (k:Nat) (c:Nat→List PV) (l:Nat) (o:Nat→List PV) (a b:PtS):Bool:=okB lo hi k c l o (segV a b)&&(partsC lo hi k c (segV a b)).isEmpty
end Go.Num
namespace Go.Proofs
open Go Go.Ex Go.Num
set_option maxRecDepth 100000
def c56:List PV→Option Ans
 |[.agg [.val (.bool s1),.val (.string b1),.val (.string c1),.val (.bool s2),.val (.string b2),.val (.string c2),.val (.bool s3),.val (.string b3),.val (.string c3),.val (.bool s4),.val (.string b4),.val (.string c4),.rs 1 k c,.rs 3 l o],.val v,.val w]=>some ⟨some (((PtS.le 10000 (PtS.mk ⟨s1,b1,c1⟩ ⟨s2,b2,c2⟩)∧PtS.le 10000 (PtS.mk ⟨s3,b3,c3⟩ ⟨s4,b4,c4⟩))∧isCL 10000 k c∧isOL l o)∧isPk 10000 v∧isPk 10000 w),.val (.bool (seeB (PtS.mk ⟨s1,b1,c1⟩ ⟨s2,b2,c2⟩) (PtS.mk ⟨s3,b3,c3⟩ ⟨s4,b4,c4⟩) k c l o (rdV v) (rdV w))),[]⟩
 |_=>none
theorem ok56:funcOk {} Tryz.f56 1=true:=by kernel_rfl
theorem f56:FnOk Tryz.prog 56 c56:=by
 refine FnOk.ofW orders (mkE_ok (l:=[(91,c91)]) (own:=[]) (inl:=[]) (by simp [f91]) (by simp)) Tryz.func56 {} 3 ok56 fun args r e=>?_
 unfold c56 at e
 split at e
 ·rename_i s1 b1 c1 s2 b2 c2 s3 b3 c3 s4 b4 c4 k c l o v w
  cases e
  refine⟨by simp,fun hm=>?_⟩
  obtain⟨⟨⟨hlo,hhi⟩,⟨hc,hk⟩,ho,hl⟩,⟨a,rfl,ha⟩,b,rfl,hb⟩:=hm _ rfl
  obtain⟨lo,hlo'⟩:∃p,p=(PtS.mk ⟨s1,b1,c1⟩ ⟨s2,b2,c2⟩):=⟨_,rfl⟩
  obtain⟨hi,hhi'⟩:∃p,p=(PtS.mk ⟨s3,b3,c3⟩ ⟨s4,b4,c4⟩):=⟨_,rfl⟩
  have hc1:∀i,i < k→[.rs 6 (pn c i) (pg c i)]=c i:=fun i hi=>(hc i hi).1.symm
  have ho1:∀i,i < l→cellsO (ow o i)=o i:=fun i hi=>(ho i hi).symm
  refine⟨[],stOf [(0,.agg [.val (.bool (PtS.mk ⟨s1,b1,c1⟩ ⟨s2,b2,c2⟩).x.s),.val (.string (PtS.mk ⟨s1,b1,c1⟩ ⟨s2,b2,c2⟩).x.b),.val (.string (PtS.mk ⟨s1,b1,c1⟩ ⟨s2,b2,c2⟩).x.c),.val (.bool (PtS.mk ⟨s1,b1,c1⟩ ⟨s2,b2,c2⟩).y.s),.val (.string (PtS.mk ⟨s1,b1,c1⟩ ⟨s2,b2,c2⟩).y.b),.val (.string (PtS.mk ⟨s1,b1,c1⟩ ⟨s2,b2,c2⟩).y.c),.val (.bool (PtS.mk ⟨s3,b3,c3⟩ ⟨s4,b4,c4⟩).x.s),.val (.string (PtS.mk ⟨s3,b3,c3⟩ ⟨s4,b4,c4⟩).x.b),.val (.string (PtS.mk ⟨s3,b3,c3⟩ ⟨s4,b4,c4⟩).x.c),.val (.bool (PtS.mk ⟨s3,b3,c3⟩ ⟨s4,b4,c4⟩).y.s),.val (.string (PtS.mk ⟨s3,b3,c3⟩ ⟨s4,b4,c4⟩).y.b),.val (.string (PtS.mk ⟨s3,b3,c3⟩ ⟨s4,b4,c4⟩).y.c),.rs 1 k (fun i=>[.rs 6 (pn c i) (pg c i)]),.rs 3 l (fun i=>cellsO (ow o i))]),(1,.val a.v),(2,.val b.v)] [] 0 [],Wo trivial ⟨⟨rfl,rfl,rfl,rfl,rfl,rfl,rfl,rfl,rfl,rfl,rfl,rfl,⟨rfl,rfl,hc1⟩,⟨rfl,rfl,ho1⟩,qQ⟩,rfl,rfl,qQ⟩ trivial,?_⟩
  rw [←hlo'] at hlo ⊢
  rw [←hhi'] at hhi ⊢
  clear hlo' hhi' hm
  have hlo':=hlo.mono (show 10000≤4294967296 by decide)
  have hhi':=hhi.mono (show 10000≤4294967296 by decide)
  have hrg:(lo.le 4294967296∧hi.le 4294967296)∧isCL 10000 k (fun i=>[.rs 6 (pn c i) (pg c i)])∧isOL l (fun i=>cellsO (ow o i)):=⟨⟨hlo',hhi'⟩,⟨fun i hi=>⟨rfl,(hc i hi).2⟩,hk⟩,fun i hi=>rfl,hl⟩
  obtain⟨R,hR⟩:∃R,R=regE lo hi k (pn c) (fun i=>pts (pg c i)) l (ow o):=⟨_,rfl⟩
  have hR':regE lo hi k (pn (fun i=>[.rs 6 (pn c i) (pg c i)])) (fun i=>pts (pg (fun i=>[.rs 6 (pn c i) (pg c i)]) i)) l (ow (fun i=>cellsO (ow o i)))=R:=hR.symm
  clear hR' hR
  obtain⟨S,hS⟩:∃S,S=seeB lo hi k c l o a b:=⟨_,rfl⟩
  have hv:seeB lo hi k c l o (rdV a.v) (rdV b.v)=S:=hS.symm
  rw [hv]
  have hrg2:((lo.le 10000∧hi.le 10000)∧isCL 10000 k (fun i=>[.rs 6 (pn c i) (pg c i)])∧isOL l (fun i=>cellsO (ow o i)))∧isSeg 10000 (segV a b):=⟨⟨⟨hlo,hhi⟩,⟨fun i hi=>⟨rfl,(hc i hi).2⟩,hk⟩,fun i hi=>rfl,hl⟩,a,b,rfl,ha,hb⟩
  have fv:okB lo hi k (fun i=>[.rs 6 (pn c i) (pg c i)]) l (fun i=>cellsO (ow o i)) (segV a b)=okB lo hi k c l o (segV a b):=rfl
  have fw:partsC lo hi k (fun i=>[.rs 6 (pn c i) (pg c i)]) (segV a b)=partsC lo hi k c (segV a b):=rfl
  have w1:(okW (okB lo hi k (fun i=>[.rs 6 (pn c i) (pg c i)]) l (fun i=>cellsO (ow o i)) (segV a b))==0)=true→PV.val (.bool (!(okB lo hi k (fun i=>[.rs 6 (pn c i) (pg c i)]) l (fun i=>cellsO (ow o i)) (segV a b)&&!(partsC lo hi k (fun i=>[.rs 6 (pn c i) (pg c i)]) (segV a b)).isEmpty)))=PV.val (.bool S):=fun h=>by
   have h:okB lo hi k (fun i=>[.rs 6 (pn c i) (pg c i)]) l (fun i=>cellsO (ow o i)) (segV a b)=true:=by cases h':okB lo hi k (fun i=>[.rs 6 (pn c i) (pg c i)]) l (fun i=>cellsO (ow o i)) (segV a b) with
    |true=>rfl
    |false=>rw [h'] at h;cases h
   rw [fv] at h ⊢
   rw [fw,h,hS,seeB,h,Bool.true_and,Bool.true_and,Bool.not_not]
  have w2:(okW (okB lo hi k (fun i=>[.rs 6 (pn c i) (pg c i)]) l (fun i=>cellsO (ow o i)) (segV a b))==0)=false→PV.val (.bool false)=PV.val (.bool S):=fun h=>by
   have h:okB lo hi k (fun i=>[.rs 6 (pn c i) (pg c i)]) l (fun i=>cellsO (ow o i)) (segV a b)=false:=by cases h':okB lo hi k (fun i=>[.rs 6 (pn c i) (pg c i)]) l (fun i=>cellsO (ow o i)) (segV a b) with
    |false=>rfl
    |true=>rw [h'] at h;cases h
   rw [fv] at h
   rw [hS,seeB,h,Bool.false_and]
  with_unfolding_all exact⟨hrg2,fun h1=>⟨[],stOf [(6,.val (.bool S))] [] 0 [],Wo trivial ⟨w1 h1,qQ⟩ trivial,rfl,rfl⟩,fun h1=>⟨[],stOf [(6,.val (.bool S))] [] 0 [],Wo trivial ⟨w2 h1,qQ⟩ trivial,rfl,rfl⟩⟩
 ·cases e
end Go.Proofs
namespace Go.Num
open Go Go.Ex Go.Proofs
def vertJ (S:PtS→Bool) (p:Nat→PtS):Nat→List PtS
 |0=>[]
 |j+1=>vertJ S p j++(bif S (p j) then [p j] else [])
def vertI (S:PtS→Bool) (n:Nat→Nat) (p:Nat→Nat→PtS):Nat→List PtS
 |0=>[]
 |i+1=>vertI S n p i++vertJ S (p i) (n i)
theorem vertJ_pre {S:PtS→Bool} {p:Nat→PtS}:∀(d j:Nat),vertJ S p j <+: vertJ S p (j+d)
 |0,j=>List.prefix_refl _
 |d+1,j=>(vertJ_pre d j).trans (List.prefix_append _ _)
theorem vertI_pre {S:PtS→Bool} {n:Nat→Nat} {p:Nat→Nat→PtS}:∀(d j:Nat),vertI S n p j <+: vertI S n p (j+d)
 |0,j=>List.prefix_refl _
 |d+1,j=>(vertI_pre d j).trans (List.prefix_append _ _)
theorem vert_at {S:PtS→Bool} {n:Nat→Nat} {p:Nat→Nat→PtS} {i k j:Nat} (hi:i < k) (hj:j < n i) (h:S (p i j)=true) :
  (vertI S n p k)[(vertI S n p i).length+(vertJ S (p i) j).length]? = some (p i j)∧(vertI S n p i).length+(vertJ S (p i) j).length < (vertI S n p k).length:=by
 obtain⟨t,ht⟩:=vertI_pre (S:=S) (n:=n) (p:=p) (k - (i+1)) (i+1)
 rw [show i+1+(k - (i+1))=k by omega] at ht
 obtain⟨u,hu⟩:=vertJ_pre (S:=S) (p:=p i) (n i - (j+1)) (j+1)
 rw [show j+1+(n i - (j+1))=n i by omega] at hu
 rw [←ht,vertI,←hu,vertJ,h]
 simp
def vertP (L:List PtS) (i:Nat):PtS:=L[i]?.getD (rdP [])
def vertC (lo hi:PtS) (k:Nat) (c:Nat→List PV) (l:Nat) (o:Nat→List PV):List PtS:=vertI (fun p=>seeB lo hi k c l o p p) (pn c) (fun i=>pts (pg c i)) k
end Go.Num
namespace Go.Proofs
open Go Go.Ex Go.Num
set_option maxRecDepth 100000
def c94:List PV→Option Ans
 |[.agg [.val (.bool s1),.val (.string b1),.val (.string c1),.val (.bool s2),.val (.string b2),.val (.string c2),.val (.bool s3),.val (.string b3),.val (.string c3),.val (.bool s4),.val (.string b4),.val (.string c4),.rs 1 k c,.rs 3 l o]]=>some ⟨some (((∀i,i < k→c i=[.rs 6 (pn c i) (pg c i)])∧∀i,i < l→o i=cellsO (ow o i))),.fn (.func 129) [] [.rp 14 1 (fun _=>regC (PtS.mk ⟨s1,b1,c1⟩ ⟨s2,b2,c2⟩) (PtS.mk ⟨s3,b3,c3⟩ ⟨s4,b4,c4⟩) k c l o) 0 0],[]⟩
 |_=>none
theorem ok94:funcOk {} Tryz.f94 1=true:=by kernel_rfl
theorem f94:FnOk Tryz.prog 94 c94:=by
 refine FnOk.ofW orders (mkE_ok (l:=[]) (own:=[]) (inl:=[]) (by simp) (by simp)) Tryz.func94 {} 1 ok94 fun args r e=>?_
 unfold c94 at e
 split at e
 ·rename_i s1 b1 c1 s2 b2 c2 s3 b3 c3 s4 b4 c4 k c l o
  cases e
  refine⟨by simp,fun hm=>?_⟩
  obtain⟨hc,ho⟩:=hm _ rfl
  have hc1:∀i,i < k→[.rs 6 (pn c i) (pg c i)]=c i:=fun i hi=>(hc i hi).symm
  have ho1:∀i,i < l→cellsO (ow o i)=o i:=fun i hi=>(ho i hi).symm
  refine⟨[],stOf [(0,.agg [.val (.bool (PtS.mk ⟨s1,b1,c1⟩ ⟨s2,b2,c2⟩).x.s),.val (.string (PtS.mk ⟨s1,b1,c1⟩ ⟨s2,b2,c2⟩).x.b),.val (.string (PtS.mk ⟨s1,b1,c1⟩ ⟨s2,b2,c2⟩).x.c),.val (.bool (PtS.mk ⟨s1,b1,c1⟩ ⟨s2,b2,c2⟩).y.s),.val (.string (PtS.mk ⟨s1,b1,c1⟩ ⟨s2,b2,c2⟩).y.b),.val (.string (PtS.mk ⟨s1,b1,c1⟩ ⟨s2,b2,c2⟩).y.c),.val (.bool (PtS.mk ⟨s3,b3,c3⟩ ⟨s4,b4,c4⟩).x.s),.val (.string (PtS.mk ⟨s3,b3,c3⟩ ⟨s4,b4,c4⟩).x.b),.val (.string (PtS.mk ⟨s3,b3,c3⟩ ⟨s4,b4,c4⟩).x.c),.val (.bool (PtS.mk ⟨s3,b3,c3⟩ ⟨s4,b4,c4⟩).y.s),.val (.string (PtS.mk ⟨s3,b3,c3⟩ ⟨s4,b4,c4⟩).y.b),.val (.string (PtS.mk ⟨s3,b3,c3⟩ ⟨s4,b4,c4⟩).y.c),.rs 1 k (fun i=>[.rs 6 (pn c i) (pg c i)]),.rs 3 l (fun i=>cellsO (ow o i))])] [] 0 [],Wo trivial ⟨⟨rfl,rfl,rfl,rfl,rfl,rfl,rfl,rfl,rfl,rfl,rfl,rfl,⟨rfl,rfl,hc1⟩,⟨rfl,rfl,ho1⟩,qQ⟩,qQ⟩ trivial,?_⟩
  with_unfolding_all exact⟨[some 0],stOf [(2,.fn (.func 129) [] [.ptr 0 0 0 0])] [⟨31,14,0,true,false,1,fun _=>regC (PtS.mk ⟨s1,b1,c1⟩ ⟨s2,b2,c2⟩) (PtS.mk ⟨s3,b3,c3⟩ ⟨s4,b4,c4⟩) k c l o⟩] 1 [],Wo ⟨qZ ⟨rq,rq,rq,rq,rq,rq,rq,rq,rq,rq,rq,rq,⟨qW,rfl⟩,⟨qW,rfl⟩,qQ⟩,qQ⟩ ⟨⟨rfl,trivial,pP,qQ⟩,qQ⟩ trivial,rfl,rfl⟩
 ·cases e
def c129:List PV→Option SeqA
 |[.rp 14 1 h 0 0]=>some ⟨some (isG h∧((gLo (h 0)).le 10000∧(gHi (h 0)).le 10000)∧isCL 10000 (gK (h 0)) (gC (h 0))∧isOL (gL (h 0)) (gO (h 0))),(vertC (gLo (h 0)) (gHi (h 0)) (gK (h 0)) (gC (h 0)) (gL (h 0)) (gO (h 0))).length,fun i=>[.val (vertP (vertC (gLo (h 0)) (gHi (h 0)) (gK (h 0)) (gC (h 0)) (gL (h 0)) (gO (h 0))) i).v]⟩
 |_=>none
def D129:Opt:={ }
theorem ok129:funcOk D129.toOrd Tryz.f129 2=true:=by kernel_rfl
theorem f129:SeqFn Tryz.prog 129 c129:=by
 refine SeqFn.of orders (mkE_ok (l:=[(56,c56)]) (own:=[]) (inl:=[]) (by simp [f56]) (by simp)) Tryz.func129 D129 2 ok129 rfl fun args r e=>?_
 unfold c129 at e
 split at e
 ·rename_i h
  cases e
  refine⟨by simp,fun hm L0=>?_⟩
  obtain⟨h1,⟨hlo,hhi⟩,⟨hc,hk⟩,ho,hl⟩:=hm _ rfl
  unfold isG at h1
  generalize gLo (h 0)=lo at *
  generalize gHi (h 0)=hi at *
  generalize gK (h 0)=k at *
  generalize gC (h 0)=c at *
  generalize gL (h 0)=l at *
  generalize gO (h 0)=o at *
  subst h1
  clear hm
  with_unfolding_all refine⟨Nat,fun i=>i≤k,fun i=>stOf [(0,.val (.func (.yield L0) ⟨[]⟩ ⟨[]⟩)),(1,.rp 14 1 (fun _=>regC lo hi k c l o) 0 0),(8,.rs 1 k (fun i=>[.rs 6 (pn c i) (pg c i)])),(9,.val (goInt k)),(10,.val (goInt i))] [] 0 [[(0,.val (.int .i64 (((vertI (fun p=>seeB lo hi k c l o p p) (pn c) (fun i=>pts (pg c i)) i).length:Nat):Int))),(1,.val (.bool false))]],fun i=>k - i,⟨0,[],Nat.zero_le _,Wo trivial ⟨rfl,⟨rfl,rfl,rfl,rfl,fun _ _=>rfl⟩,qW,rfl,rfl,qQ⟩ ⟨⟨rfl,rfl,qQ⟩,qQ⟩⟩,fun i hik=>?_⟩
  have ltT:decide ((i:Int) < (k:Int))=true→i < k:=fun h=>Int.ofNat_lt.1 (of_decide_eq_true h)
  have ltF:decide ((i:Int) < (k:Int))=false→i=k:=fun h=>Nat.le_antisymm hik (Nat.le_of_not_lt fun h'=>of_decide_eq_false h (Int.ofNat_lt.2 h'))
  with_unfolding_all refine⟨fun h0=>⟨⟨Int.natCast_nonneg i,Int.ofNat_lt.2 (ltT h0)⟩,Nat,fun j=>j≤pn c i,fun j=>stOf [(0,.val (.func (.yield L0) ⟨[]⟩ ⟨[]⟩)),(1,.rp 14 1 (fun _=>regC lo hi k c l o) 0 0),(8,.rs 1 k (fun i=>[.rs 6 (pn c i) (pg c i)])),(9,.val (goInt k)),(10,.val (goInt i)),(14,.rs 6 (pn c i) (fun j=>(pts (pg c i) j).cells)),(15,.val (goInt (pn c i))),(16,.val (goInt j))] [] 0 [[(0,.val (.int .i64 (((vertI (fun p=>seeB lo hi k c l o p p) (pn c) (fun i=>pts (pg c i)) i).length+(vertJ (fun p=>seeB lo hi k c l o p p) (pts (pg c i)) j).length:Nat):Int))),(1,.val (.bool false))]],fun j=>pn c i - j,⟨0,[],Nat.zero_le _,Wo trivial ⟨rfl,⟨rfl,rfl,rfl,rfl,fun _ _=>rfl⟩,qW,rfl,rfl,⟨rfl,rfl,fun j hj=>((hc i (ltT h0)).2.1 j hj).1.symm⟩,rfl,rfl,qQ⟩ ⟨⟨rfl,rfl,qQ⟩,qQ⟩⟩,fun j hj=>?_⟩,fun h0=>?_⟩
  ·have hik:=ltT h0
   have jT:decide ((j:Int) < (pn c i:Int))=true→j < pn c i:=fun h=>Int.ofNat_lt.1 (of_decide_eq_true h)
   have jF:decide ((j:Int) < (pn c i:Int))=false→j=pn c i:=fun h=>Nat.le_antisymm hj (Nat.le_of_not_lt fun h'=>of_decide_eq_false h (Int.ofNat_lt.2 h'))
   have hn:=(hc i hik).2.2
   have wj:decide ((j:Int) < (pn c i:Int))=true→PV.val (.int .i64 (IntKind.i64.wrap ((j:Int)+1)))=.val (goInt (j+1:Nat)):=fun h=>by
    have:=jT h
    rw [wrap64 (by omega) (by omega)]
    rfl
   have wi:PV.val (.int .i64 (IntKind.i64.wrap ((i:Int)+1)))=.val (goInt (i+1:Nat)):=by
    rw [wrap64 (by omega) (by omega)]
    rfl
   have pr:decide ((j:Int) < (pn c i:Int))=true→(((lo.le 10000∧hi.le 10000)∧isCL 10000 k (fun i=>[.rs 6 (pn c i) (pg c i)])∧isOL l (fun i=>cellsO (ow o i)))∧isPk 10000 (pts (pg c i) ((j:Nat):Int).toNat).v∧isPk 10000 (pts (pg c i) ((j:Nat):Int).toNat).v):=fun h=>by
    have hp:=((hc i hik).2.1 j (jT h)).2
    exact⟨⟨⟨hlo,hhi⟩,⟨fun i hi=>⟨rfl,(hc i hi).2⟩,hk⟩,fun i hi=>rfl,hl⟩,⟨_,rfl,hp⟩,_,rfl,hp⟩
   have yl:j < pn c i→seeB lo hi k c l o (pts (pg c i) j) (pts (pg c i) j)=true→(vertI (fun p=>seeB lo hi k c l o p p) (pn c) (fun i=>pts (pg c i)) i).length+(vertJ (fun p=>seeB lo hi k c l o p p) (pts (pg c i)) j).length < (vertC lo hi k c l o).length∧[PV.val (pts (pg c i) ((j:Nat):Int).toNat).v]=[PV.val (vertP (vertC lo hi k c l o) ((vertI (fun p=>seeB lo hi k c l o p p) (pn c) (fun i=>pts (pg c i)) i).length+(vertJ (fun p=>seeB lo hi k c l o p p) (pts (pg c i)) j).length)).v]∧(vertI (fun p=>seeB lo hi k c l o p p) (pn c) (fun i=>pts (pg c i)) i).length+(vertJ (fun p=>seeB lo hi k c l o p p) (pts (pg c i)) j).length+1=(vertI (fun p=>seeB lo hi k c l o p p) (pn c) (fun i=>pts (pg c i)) i).length+(vertJ (fun p=>seeB lo hi k c l o p p) (pts (pg c i)) (j+1)).length:=fun h h'=>by
    have g:=vert_at (S:=(fun p=>seeB lo hi k c l o p p)) (n:=pn c) (p:=fun i=>pts (pg c i)) hik h h'
    refine⟨g.2,?_,?_⟩
    ·unfold vertP vertC
     rw [g.1]
     rfl
    ·rw [vertJ]
     simp only [h',cond_true,List.length_append,List.length_singleton]
     rfl
   have sk:seeB lo hi k c l o (pts (pg c i) j) (pts (pg c i) j)=false→(vertI (fun p=>seeB lo hi k c l o p p) (pn c) (fun i=>pts (pg c i)) i).length+(vertJ (fun p=>seeB lo hi k c l o p p) (pts (pg c i)) j).length=(vertI (fun p=>seeB lo hi k c l o p p) (pn c) (fun i=>pts (pg c i)) i).length+(vertJ (fun p=>seeB lo hi k c l o p p) (pts (pg c i)) (j+1)).length:=fun h'=>by
    rw [vertJ]
    simp only [h',cond_false,List.append_nil]
   have fin:decide ((j:Int) < (pn c i:Int))=false→(vertI (fun p=>seeB lo hi k c l o p p) (pn c) (fun i=>pts (pg c i)) i).length+(vertJ (fun p=>seeB lo hi k c l o p p) (pts (pg c i)) j).length=(vertI (fun p=>seeB lo hi k c l o p p) (pn c) (fun i=>pts (pg c i)) (i+1)).length:=fun h=>by
    rw [jF h,vertI,List.length_append]
   with_unfolding_all refine⟨fun h1=>⟨⟨Int.natCast_nonneg j,Int.ofNat_lt.2 (jT h1)⟩,pr h1,fun h2=>⟨rfl,(vertI (fun p=>seeB lo hi k c l o p p) (pn c) (fun i=>pts (pg c i)) i).length+(vertJ (fun p=>seeB lo hi k c l o p p) (pts (pg c i)) j).length,rfl,(yl (jT h1) h2).1,(yl (jT h1) h2).2.1,⟨fun _=>⟨fun e=>(nomatch e),fun _=>⟨j+1,[],jT h1,by have:=jT h1;show pn c i - (j+1) < pn c i - j;omega,Wo trivial ⟨rfl,⟨rfl,rfl,rfl,rfl,fun _ _=>rfl⟩,qW,rfl,rfl,qW,rfl,wj h1,qQ⟩ ⟨⟨congrArg (fun z:Nat=>PV.val (.int .i64 (z:Int))) (yl (jT h1) h2).2.2,rfl,qQ⟩,qQ⟩⟩⟩,fun e=>(nomatch e)⟩,⟨fun _=>⟨fun _=>trivial,fun e=>(nomatch e)⟩,fun e=>(nomatch e)⟩⟩,fun h2=>⟨fun e=>(nomatch e),fun _=>⟨j+1,[],jT h1,by have:=jT h1;show pn c i - (j+1) < pn c i - j;omega,Wo trivial ⟨rfl,⟨rfl,rfl,rfl,rfl,fun _ _=>rfl⟩,qW,rfl,rfl,qW,rfl,wj h1,qQ⟩ ⟨⟨congrArg (fun z:Nat=>PV.val (.int .i64 (z:Int))) (sk h2),rfl,qQ⟩,qQ⟩⟩⟩⟩,fun h1=>⟨i+1,[],hik,by show k - (i+1) < k - i;omega,Wo trivial ⟨rfl,⟨rfl,rfl,rfl,rfl,fun _ _=>rfl⟩,qW,rfl,wi,qQ⟩ ⟨⟨congrArg (fun z:Nat=>PV.val (.int .i64 (z:Int))) (fin h1),rfl,qQ⟩,qQ⟩⟩⟩
  ·rw [ltF h0]
   rfl
 ·cases e
end Go.Proofs
namespace Go.Proofs
open Go Go.Ex Go.Num
set_option maxRecDepth 100000
theorem apd_one {V r:Nat→List PV} {y:Nat} (h:r 0=V y):∀i,i < y+1→V i=apd y V r i:=fun i hi=>by
 unfold apd
 by_cases hy:i < y
 ·rw [if_pos hy]
 ·obtain rfl:i=y:=by omega
  rw [if_neg hy,Nat.sub_self,h]
def c175:List PV→Option Ans
 |[.val (.slice none 0 0),.fn (.func 129) [] [.rp 14 1 h 0 0]]=>some ⟨some ((isG h∧((gLo (h 0)).le 10000∧(gHi (h 0)).le 10000)∧isCL 10000 (gK (h 0)) (gC (h 0))∧isOL (gL (h 0)) (gO (h 0)))∧(vertC (gLo (h 0)) (gHi (h 0)) (gK (h 0)) (gC (h 0)) (gL (h 0)) (gO (h 0))).length≤1000),.sl 0 0 0 (vertC (gLo (h 0)) (gHi (h 0)) (gK (h 0)) (gC (h 0)) (gL (h 0)) (gO (h 0))).length,[⟨25,6,0,false,false,(vertC (gLo (h 0)) (gHi (h 0)) (gK (h 0)) (gC (h 0)) (gL (h 0)) (gO (h 0))).length,fun i=>(vertP (vertC (gLo (h 0)) (gHi (h 0)) (gK (h 0)) (gC (h 0)) (gL (h 0)) (gO (h 0))) i).cells⟩]⟩
 |_=>none
def D175:Opt:={ }
theorem ok175:funcOk D175.toOrd Tryz.f175 2=true:=by kernel_rfl
theorem f175:FnOk Tryz.prog 175 c175:=by
 refine FnOk.ofW orders (mkS_ok (l:=[]) (own:=[]) (inl:=[]) (sq:=[(129,c129)]) (by simp) (by simp) (by simp [f129])) Tryz.func175 D175 2 ok175 fun args r e=>?_
 unfold c175 at e
 split at e
 ·rename_i h
  cases e
  refine⟨by simp,fun hm=>?_⟩
  obtain⟨hp,hn⟩:=hm _ rfl
  refine⟨[],stOf [(0,.val (.slice none 0 0)),(1,.fn (.func 129) [] [.rp 14 1 h 0 0])] [] 0 [],Wo trivial ⟨rfl,⟨rfl,trivial,⟨rfl,rfl,rfl,rfl,fun _ _=>rfl⟩,qQ⟩,qQ⟩ trivial,?_⟩
  have hP:isG h∧((gLo (h 0)).le 10000∧(gHi (h 0)).le 10000)∧isCL 10000 (gK (h 0)) (gC (h 0))∧isOL (gL (h 0)) (gO (h 0)):=hp
  with_unfolding_all refine⟨hP,Nat,fun i y=>y=i,fun y=>stOf [(2,.ptr 0 0 0 0)] [⟨34,1,0,true,false,1,fun _=>[.sl 1 1 0 y]⟩,⟨25,6,1,false,false,y,fun i=>(vertP (vertC (gLo (h 0)) (gHi (h 0)) (gK (h 0)) (gC (h 0)) (gL (h 0)) (gO (h 0))) i).cells⟩] 2 [],⟨0,[some 0,none],rfl,Wo ⟨qZ ⟨⟨⟨rfl,rfl,rfl,rfl,lt_ok rfl⟩,rfl⟩,qQ⟩,⟨lt_ok rfl,rfl,rfl,rfl⟩,qQ⟩ ⟨pP,qQ⟩ trivial⟩,fun i y hi hI=>?_,fun y hI=>?_⟩
  ·have hy:y < 1000:=Nat.lt_of_lt_of_le (show y < (vertC (gLo (h 0)) (gHi (h 0)) (gK (h 0)) (gC (h 0)) (gL (h 0)) (gO (h 0))).length from hI▸hi) hn
   have hI:y=i:=hI
   subst hI
   have k1:(y+1)*80≤140737488355328:=by omega
   with_unfolding_all refine⟨rfl,⟨rfl,?_,?_⟩,y+1,[some 0,some 1],rfl,Wo ⟨qZ ⟨⟨pP,rfl⟩,qQ⟩,qZ (?_),qQ⟩ ⟨pP,qQ⟩ trivial⟩
   ·with_unfolding_all exact k1
   ·with_unfolding_all exact(show y+1≤9223372036854775807 by omega)
   ·with_unfolding_all exact apd_one (V:=fun i=>(vertP (vertC (gLo (h 0)) (gHi (h 0)) (gK (h 0)) (gC (h 0)) (gL (h 0)) (gO (h 0))) i).cells) rfl
  ·have hI:y=(vertC (gLo (h 0)) (gHi (h 0)) (gK (h 0)) (gC (h 0)) (gL (h 0)) (gO (h 0))).length:=hI
   subst hI
   with_unfolding_all exact⟨[some 1],stOf [(4,.sl 0 0 0 (vertC (gLo (h 0)) (gHi (h 0)) (gK (h 0)) (gC (h 0)) (gL (h 0)) (gO (h 0))).length)] [⟨25,6,0,false,false,(vertC (gLo (h 0)) (gHi (h 0)) (gK (h 0)) (gC (h 0)) (gL (h 0)) (gO (h 0))).length,fun i=>(vertP (vertC (gLo (h 0)) (gHi (h 0)) (gK (h 0)) (gC (h 0)) (gL (h 0)) (gO (h 0))) i).cells⟩] 1 [],Wo ⟨qZ (fun _ _=>rfl),qQ⟩ ⟨pP,qQ⟩ trivial,rfl,rfl⟩
 ·cases e
def c127:List PV→Option Ans
 |[.fn (.func 129) [] [.rp 14 1 h 0 0]]=>some ⟨some ((isG h∧((gLo (h 0)).le 10000∧(gHi (h 0)).le 10000)∧isCL 10000 (gK (h 0)) (gC (h 0))∧isOL (gL (h 0)) (gO (h 0)))∧(vertC (gLo (h 0)) (gHi (h 0)) (gK (h 0)) (gC (h 0)) (gL (h 0)) (gO (h 0))).length≤1000),.sl 0 0 0 (vertC (gLo (h 0)) (gHi (h 0)) (gK (h 0)) (gC (h 0)) (gL (h 0)) (gO (h 0))).length,[⟨25,6,0,false,false,(vertC (gLo (h 0)) (gHi (h 0)) (gK (h 0)) (gC (h 0)) (gL (h 0)) (gO (h 0))).length,fun i=>(vertP (vertC (gLo (h 0)) (gHi (h 0)) (gK (h 0)) (gC (h 0)) (gL (h 0)) (gO (h 0))) i).cells⟩]⟩
 |_=>none
theorem ok127:funcOk {} Tryz.f127 1=true:=by kernel_rfl
theorem f127:FnOk Tryz.prog 127 c127:=by
 refine FnOk.ofW orders (mkE_ok (l:=[(175,c175)]) (own:=[175]) (inl:=[]) (by simp [f175]) (by simp)) Tryz.func127 {} 1 ok127 fun args r e=>?_
 unfold c127 at e
 split at e
 ·rename_i h
  cases e
  refine⟨by simp,fun hm=>?_⟩
  have hp:=hm _ rfl
  refine⟨[],stOf [(0,.fn (.func 129) [] [.rp 14 1 h 0 0])] [] 0 [],Wo trivial ⟨⟨rfl,trivial,⟨rfl,rfl,rfl,rfl,fun _ _=>rfl⟩,qQ⟩,qQ⟩ trivial,?_⟩
  with_unfolding_all refine⟨hp,?_⟩
  with_unfolding_all exact⟨[some 0],stOf [(2,.sl 0 0 0 (vertC (gLo (h 0)) (gHi (h 0)) (gK (h 0)) (gC (h 0)) (gL (h 0)) (gO (h 0))).length)] [⟨25,6,0,false,false,(vertC (gLo (h 0)) (gHi (h 0)) (gK (h 0)) (gC (h 0)) (gL (h 0)) (gO (h 0))).length,fun i=>(vertP (vertC (gLo (h 0)) (gHi (h 0)) (gK (h 0)) (gC (h 0)) (gL (h 0)) (gO (h 0))) i).cells⟩] 1 [],Wo ⟨qZ (fun _ _=>rfl),qQ⟩ ⟨pP,qQ⟩ trivial,rfl,rfl⟩
 ·cases e
end Go.Proofs
namespace Go.Ex
open Go
def UpR {α : Type} (n:Nat):Result α→Prop
 |.ok _ w=>n≤w.drawn
 |.halt _ w=>n≤w.drawn
theorem ask_up {α : Type}:∀(m:Ask α) (w:World),w.drawn≤(w.ask m).2.drawn
 |.done a,w=>Nat.le_refl _
 |.ask what range k,w=>by
  simp only [World.ask]
  split
  ·exact ask_up (k 0) w
  ·exact Nat.le_trans (Nat.le_succ _) (ask_up _ { w with drawn:=w.drawn+1 })
theorem sys_up (w:World) (c:Sys):w.drawn≤(w.sys c).2.drawn:=by
 have h:=ask_up (Kernel.perform c w.os) w
 unfold World.sys
 split
 ·exact Nat.le_refl _
 ·rename_i e;rw [e] at h;exact h
theorem viewStore_up {p:Program} {w:World} {at_:Addr} {u:TypeId} {a:Addr} {v:Value} {b:Bool} {w':World} {l:List Addr} (h:w.viewStore p at_ u a v b=.ok (w',l)):w'.drawn=w.drawn:=by
 unfold World.viewStore at h
 simp only [bind,Except.bind,pure,Except.pure] at h
 repeat' split at h
 all_goals first|(cases h;rfl)|(cases h;done)|(simp only [throw,throwThe,MonadExceptOf.throw] at h;cases h;done)
theorem farStore_up {p:Program} {w:World} {a:Addr} {v:Value} {b:Bool} {w':World} {l:List Addr} (h:w.farStore p a v b=.ok (w',l)):w'.drawn=w.drawn:=by
 unfold World.farStore at h
 split at h
 ·split at h
  ·rename_i e;cases h;exact viewStore_up e
  ·cases h
 ·cases h
theorem run_up {α : Type} (p:Program):∀(m:Sem α) (w:World) (n:Nat),n≤w.drawn→UpR n (m.run p w):=by
 intro m
 induction m with
 |pure a=>intro w n h;exact h
 |load m a k ih =>
  intro w n h
  simp only [Sem.run]
  repeat' split
  all_goals first|exact ih _ _ _ h|exact h
 |store m a v k ih =>
  intro w n h
  cases v<;>simp only [Sem.run]<;>repeat' split
  all_goals first|exact ih _ _ h|exact h|(rename_i e;exact ih _ _ (by rw [farStore_up e];exact h))
 |new o k ih=>intro w n h;simp only [Sem.run];exact ih _ _ _ h
 |shape r k ih=>intro w n h;simp only [Sem.run];exact ih _ _ _ h
 |freeze a m k ih=>intro w n h;simp only [Sem.run];exact ih _ _ (by unfold World.freeze;split<;>exact h)
 |frozen a k ih=>intro w n h;simp only [Sem.run];exact ih _ _ _ h
 |getObj r k ih =>
  intro w n h
  simp only [Sem.run]
  repeat' split
  all_goals first|exact ih _ _ _ h|exact h
 |setObj r o k ih =>
  intro w n h
  simp only [Sem.run]
  repeat' split
  all_goals first|exact ih _ _ h|exact h
 |choose q k ih =>
  intro w n h
  simp only [Sem.run]
  split
  ·exact ih _ _ _ h
  ·exact ih _ _ _ (Nat.le_trans h (Nat.le_succ _))
 |sys c k ih=>intro w n h;simp only [Sem.run];exact ih _ _ _ (Nat.le_trans h (sys_up w c))
 |program k ih=>intro w n h;simp only [Sem.run];exact ih _ _ _ h
 |mark _ k ih=>intro w n h;simp only [Sem.run];exact ih _ _ h
 |halt _=>intro w n h;exact h
theorem run_ok {α : Type} {p:Program} {m:Sem α} {w w':World} {a : α} (h:m.run p w=.ok a w') {n:Nat} (hn:n≤w.drawn):n≤w'.drawn:=by
 have:=run_up p m w n hn;rw [h] at this;exact this
theorem run_halt {α : Type} {p:Program} {m:Sem α} {w w':World} {a:Halt} (h:m.run p w=.halt a w') {n:Nat} (hn:n≤w.drawn):n≤w'.drawn:=by
 have:=run_up p m w n hn;rw [h] at this;exact this
def UpG (n:Nat):GStep→Prop
 |.go _ w _=>n≤w.drawn
 |.comm _ _ _ _ w _=>n≤w.drawn
 |.spawn _ _ w _=>n≤w.drawn
 |.count _ w _=>n≤w.drawn
 |.timer _ _ w _=>n≤w.drawn
 |.alone _ _ w _=>n≤w.drawn
 |.newcoro _ _ _ w _=>n≤w.drawn
 |.coroswitch _ _ _ w _=>n≤w.drawn
 |.collect _ w _=>n≤w.drawn
 |.watch _ w _=>n≤w.drawn
 |.ended _ _ _=>True
theorem UpG.after {n:Nat} {es:Array Event} {s:GStep} (h:UpG n s):UpG n (GStep.after es s):=by
 cases s<;>exact h
def UpS (n:Nat):Stepped→Prop
 |.next m=>n≤m.world.drawn
 |.ended _ _=>True
theorem endWith_up {n:Nat} {w:World} {fd:Nat} {t:ByteArray} {o:Outcome}:UpG n (endWith w fd t o):=by
 unfold endWith
 repeat' split
 all_goals trivial
theorem dieOf_up {n:Nat} {fr:Frame} {a:List ByteArray} {m:String} {b:Bool} {w:World} (h:n≤w.drawn):UpG n (dieOf fr a m b w):=h
theorem endThrow_up {n:Nat} {fr:Frame} {m:String} {w:World} (h:n≤w.drawn):UpG n (endThrow fr m w):=h
theorem endPrinting_up {n:Nat} {p:Program} {fr:Frame} {v:Value} {w:World} (h:n≤w.drawn):UpG n (endPrinting p fr v w):=by
 unfold endPrinting
 dsimp only
 split
 ·exact endThrow_up h
 ·trivial
theorem endFatal_up {n:Nat} {p:Program} {fr:Frame} {cs:List Frame} {d:Option Dying} {m:String} {w:World} (h:n≤w.drawn):UpG n (endFatal p fr cs d m w):=by
 unfold endFatal
 dsimp only
 split
 ·rename_i e;exact dieOf_up (run_ok e h)
 ·trivial
 ·trivial
theorem writeOn_up {n:Nat} {p:Program} {fr:Frame} {d:Dying} {f:Fatal} {w:World} (h:n≤w.drawn):UpG n (writeOn p fr d f w):=by
 unfold writeOn
 dsimp only
 simp only [Sem.runT_eq]
 split
 ·trivial
 ·split
  ·rename_i e;exact run_ok (congrArg Prod.fst e) h
  ·rename_i e;exact run_halt (congrArg Prod.fst e) h
  ·trivial
  ·trivial
theorem die_up {n:Nat} {p:Program} {fr:Frame} {d:Dying} {w:World} (h:n≤w.drawn):UpG n (die p fr d w):=by
 unfold die
 simp only [Sem.runT_eq]
 split
 ·exact writeOn_up h
 ·split
  ·split
   ·exact h
   ·exact endWith_up
  ·split
   ·exact h
   ·split
    ·rename_i e;exact run_ok e h
    ·trivial
   ·refine UpG.after ?_
    split
    ·rename_i e;exact run_ok e h
    ·rename_i e;exact run_ok e h
    ·trivial
    ·rename_i e;exact endPrinting_up (run_halt e h)
    ·trivial
   ·trivial
theorem doReturn_up {n:Nat} {p:Program} {b:Bool} {fr:Frame} {cs:List Frame} {d:Option Dying} {v:Value} {w:World} (h:n≤w.drawn):UpG n (doReturn p b fr cs d v w):=by
 unfold doReturn
 repeat' split
 all_goals first|exact h|trivial
theorem callDeferred_up {n:Nat} {p:Program} {fr:Frame} {cs:List Frame} {o:Option Dying} {d:Deferred} {w:World} (h:n≤w.drawn):UpG n (callDeferred p fr cs o d w):=by
 have hr:=run_up p (invoke d.target d.args) w n h
 unfold callDeferred
 simp only [Sem.runT_eq]
 generalize (invoke d.target d.args).run p w=r at hr
 refine iteInduction (motive:=UpG n) (fun _=>trivial) fun _=>?_
 refine UpG.after ?_
 split
 all_goals first
  |trivial
  |exact hr
  |exact endFatal_up hr
  |exact endThrow_up hr
  |(split<;>exact hr)
theorem unwind_up {n:Nat} {p:Program} {b:Bool} {fr:Frame} {cs:List Frame} {d:Option Dying} {w:World} (h:n≤w.drawn):UpG n (unwind p b fr cs d w):=by
 unfold unwind
 simp only [Sem.runT_eq]
 repeat' (first|refine UpG.after ?_|split)
 all_goals first
  |trivial
  |exact h
  |exact callDeferred_up h
  |exact endPrinting_up h
  |exact doReturn_up h
  |(rename_i e;first|exact run_ok e h|exact run_halt e h|exact doReturn_up (run_ok e h))
  |skip
theorem early_up {n:Nat} {p:Program} {fr:Frame} {cs:List Frame} {d:Option Dying} {g:Nat} {w:World} (h:n≤w.drawn):UpG n (early p fr cs d g w):=by
 unfold early
 dsimp only
 repeat' split
 all_goals first
  |trivial
  |exact h
  |(rename_i e _ _ _ _;exact run_ok e h)
  |(rename_i e _ _ _;exact run_ok e h)
  |(rename_i e _ _;exact run_ok e h)
  |(rename_i e _;exact run_ok e h)
  |(rename_i e;exact run_ok e h)
  |skip
end Go.Ex
namespace Go.Ex
open Go
theorem apply_up {n:Nat} {p:Program} {l:Bool} {fr:Frame} {cs:List Frame} {d:Option Dying} {s:Sem Next} {w:World} (h:n≤w.drawn):UpG n (stepG.apply p l fr cs d s w):=by
 have hr:=run_up p s w n h
 unfold stepG.apply
 dsimp only
 have e1:(if l=true then s.runT p w #[] else(s.run p w,#[])).1=s.run p w:=by cases l<;>simp
 rw [e1]
 refine UpG.after ?_
 generalize s.run p w=r at hr
 split
 all_goals first
  |exact hr
  |trivial
  |exact endFatal_up hr
  |exact endThrow_up hr
  |exact early_up hr
  |(split<;>first|exact hr|(split<;>exact hr))
  |(split;exact endThrow_up hr;exact hr)
  |skip
theorem oper_up {n:Nat} {p:Program} {l:Bool} {fr:Frame} {cs:List Frame} {d:Option Dying} {w:World} (h:n≤w.drawn):UpG n (stepG.oper p l fr cs d w):=by
 unfold stepG.oper
 repeat' split
 all_goals first|trivial|exact apply_up h
theorem elim_up {α : Type} {n:Nat} {o:Option α} {a:GStep} {f : α→GStep} (h1:UpG n a) (h2:∀k,UpG n (f k)):UpG n (o.elim a f):=by
 cases o
 ·exact h1
 ·exact h2 _
theorem exec_up {n:Nat} {p:Program} {b l:Bool} {fr:Frame} {cs:List Frame} {d:Option Dying} {w:World} (h:n≤w.drawn):UpG n (stepG.exec p b l fr cs d w):=by
 unfold stepG.exec
 dsimp only
 simp only [Sem.runT_eq]
 repeat' (first|exact apply_up h|exact oper_up h|(rename_i e;exact apply_up (run_ok e h))|exact elim_up trivial fun _=>apply_up h|refine UpG.after ?_|split)
 all_goals first
  |trivial
  |exact h
  |exact apply_up h
  |exact oper_up h
  |(rename_i e;first|exact run_ok e h|exact run_halt e h|exact doReturn_up (run_ok e h)|exact apply_up (run_ok e h)|exact elim_up (UpG.after (doReturn_up (run_ok e h))) fun _=>h|exact elim_up (UpG.after trivial) fun _=>h)
  |exact elim_up trivial fun _=>apply_up h
  |exact elim_up trivial fun _=>h
  |exact elim_up h fun _=>h
  |skip
theorem stepG_up {n:Nat} {p:Program} {b l:Bool} {g:Goroutine} {w:World} (h:n≤w.drawn):UpG n (stepG p b g w l):=by
 unfold stepG
 dsimp only
 split
 ·exact die_up h
 ·exact exec_up h
 ·exact unwind_up h
theorem waitingAt_up {rest:Rest} {cs:Array CommCase} {w w':World} (h:waitingAt rest cs w=some w'):w'.drawn=w.drawn:=by
 unfold waitingAt at h
 split at h
 ·split at h
  ·cases h;rfl
  ·cases h
 ·cases h;rfl
theorem communicate_up {n:Nat} {p:Program} {rest:Rest} {gs:Array Goroutine} {i:Nat} {g:Goroutine} {cs:Array CommCase} {b:Bool} {sh:CommShape} {w:World} (h:n≤w.drawn):UpS n (communicate p rest gs i g cs b sh w).1:=by
 unfold communicate
 dsimp only
 split
 ·trivial
 ·split
  ·split
   ·split
    ·rename_i e;show n≤_;rw [waitingAt_up e];exact h
    ·trivial
   ·exact h
  ·split
   ·trivial
   ·rename_i e
    have h2:=run_ok e h
    split
    ·split
     ·rename_i e3;exact run_halt e3 h2
     ·trivial
    ·exact h2
    ·exact h2
    ·split
     ·exact h2
     ·split
      ·rename_i e3;exact run_ok e3 h2
      ·trivial
    ·exact h2
    ·exact h2
    ·trivial
theorem look_up {n:Nat} {p:Program} {gs:Array Goroutine} {rest:Rest} {w:World} (h:n≤w.drawn):UpS n (look p gs rest w):=by
 unfold look
 dsimp only
 split
 ·split
  ·trivial
  ·split
   ·trivial
   ·split
    ·rename_i e;exact run_ok e h
    ·trivial
    ·trivial
 ·trivial
theorem drain_up (w:World) (c:Nat):(drain w c).2.drawn=w.drawn:=by
 unfold drain
 split<;>rfl
theorem retime_up (m:Machine) (k:Nat) (t:Timer) (a b:Nat):(retime m k t a b).2.world.drawn=m.world.drawn:=by
 unfold retime
 dsimp only
 cases t.chan
 ·rfl
 ·exact drain_up _ _
theorem timerOp_up {m m':Machine} {op:TimerOp} {v:Value} (h:timerOp m op=.ok (v,m')):m'.world.drawn=m.world.drawn:=by
 have nm:∀(m:Machine) (var:Addr) (f:Nat→Timer→Value×Machine),(∀k t,(f k t).2.world.drawn=m.world.drawn)→timerOp.named m var f=.ok (v,m')→m'.world.drawn=m.world.drawn:=by
  intro m var f hf h
  unfold timerOp.named at h
  split at h
  ·injection h with h;rw [←hf _ _,h]
  ·cases h
 unfold timerOp at h
 split at h
 ·split at h
  ·injection h with h;injection h with _ h;subst h;rfl
  ·split at h
   ·split at h
    ·cases h
    ·injection h with h;injection h with _ h;subst h;rfl
   ·cases h
 ·exact nm _ _ _ (fun k t=>retime_up _ _ _ _ _) h
 ·split at h
  ·rename_i e
   have:∀var m2,timerOp.opened m var=some m2→m2.world.drawn=m.world.drawn:=by
    intro var m2 e
    unfold timerOp.opened at e
    split at e
    ·split at e
     ·cases e;rfl
     ·cases e
    ·cases e;rfl
   exact nm _ _ _ (fun k t=>by rw [retime_up];exact this _ _ e) h
  ·cases h
 ·injection h with h;injection h with _ h;subst h;rfl
theorem runT_up {p:Program} {m:Machine} {i:Nat} {l:Bool}:UpS m.world.drawn (runT p m i l).1:=by
 unfold runT
 dsimp only
 have hG:=stepG_up (p:=p) (b:=i==0) (l:=l) (g:=(m.gs.swapAt! i { (default:Goroutine) with status:=.finished }).1) (w:=m.world) (Nat.le_refl _)
 revert hG
 generalize stepG p (i==0) (m.gs.swapAt! i { (default:Goroutine) with status:=.finished }).1 m.world l=s
 intro hG
 split
 ·trivial
 ·exact communicate_up hG
 ·exact hG
 ·exact hG
 ·split
  ·trivial
  ·exact hG
 ·exact hG
 ·exact look_up hG
 ·exact hG
 ·exact hG
 ·split
  ·exact hG
  ·exact hG
  ·trivial
 ·split
  ·rename_i e;show _≤_;exact Nat.le_trans hG (Nat.le_of_eq (timerOp_up e).symm)
  ·exact hG
  ·trivial
  ·trivial
def UpM (n:Nat):Move→Prop
 |.goroutine m _=>n≤m.world.drawn
 |.machine s _=>UpS n s
theorem serve_up {n:Nat} {p:Program} {m:Machine} {k:Nat} (h:n≤m.world.drawn):UpS n (serve p m k):=by
 unfold serve
 dsimp only
 split
 ·trivial
 ·exact h
 ·split
  ·trivial
  ·exact h
theorem askOn_up {n:Nat} {p:Program} {m:Machine} (h:n≤m.world.drawn):UpM n (askOn p m):=by
 unfold askOn
 dsimp only
 split
 ·trivial
 ·rename_i w0 e
  have h2:=run_ok e h
  split
  ·exact serve_up h2
  ·split
   ·split
    ·exact h2
    ·split
     ·exact h2
     ·split<;>trivial
   ·split
    ·split
     ·trivial
     ·rename_i e3
      have h3:=run_ok e3 h2
      split
      ·exact h3
      ·split
       ·trivial
       ·rename_i e4;exact run_ok e4 h3
    ·split
     ·trivial
     ·rename_i w1 e2
      split
      ·trivial
      ·rename_i e3
       have h3:=run_ok e3 (run_ok e2 h2)
       split
       ·exact h3
       ·split
        ·trivial
        ·rename_i e4;exact run_ok e4 h3
     ·rename_i e2;exact run_ok e2 h2
     ·rename_i k w1 e2
      split
      ·trivial
      ·rename_i e3
       have h3:=run_ok e3 (n:=n) (w:=(Machine.advanceTo { m with world:=w1 } _).world) (run_ok e2 h2)
       split
       ·exact h3
       ·split
        ·trivial
        ·rename_i e4;exact run_ok e4 h3
theorem ask_up' {n:Nat} {p:Program} {m:Machine} (h:n≤m.world.drawn):UpM n (ask p m):=by
 unfold Go.ask
 split
 ·split
  ·trivial
  ·rename_i e
   have hl:=look_up (p:=p) (gs:=m.gs) (rest:=m.rest) (run_ok e h)
   split
   ·rename_i e2;rw [e2] at hl;exact askOn_up hl
   ·exact hl
  ·rename_i e;exact askOn_up (run_ok (by assumption) h)
 ·exact askOn_up h
theorem move_up {p:Program} {m:Machine}:UpM m.world.drawn (move p m):=by
 unfold move
 split
 ·split
  ·exact Nat.le_refl _
  ·trivial
 ·split
  ·split
   ·exact Nat.le_refl _
   ·exact ask_up' (Nat.le_refl _)
  ·exact ask_up' (Nat.le_refl _)
theorem step_up {p:Program} {m m':Machine} (h:step p m=.next m'):m.world.drawn≤m'.world.drawn:=by
 have hm:=move_up (p:=p) (m:=m)
 unfold step stepT at h
 revert h hm
 cases move p m with
 |goroutine m2 i =>
  intro h hm
  have:=runT_up (p:=p) (m:=m2) (i:=i) (l:=true)
  simp only at h
  rw [h] at this
  exact Nat.le_trans hm this
 |machine s ops =>
  intro h hm
  simp only at h
  subst h
  exact hm
theorem steps_up {p:Program} {m m':Machine} (h:Steps p m m'):m.world.drawn≤m'.world.drawn:=by
 obtain⟨k,hk⟩:=h
 induction k generalizing m with
 |zero=>simp [runN] at hk;rw [hk];exact Nat.le_refl _
 |succ k ih =>
  simp only [runN] at hk
  cases hs:step p m with
  |next m1=>rw [hs] at hk;exact Nat.le_trans (step_up hs) (ih hk)
  |ended o w=>rw [hs] at hk;simp at hk
theorem calls_up {P:Program} {f:FuncId} {args:Array Value} {w:World} {R:Ending→World→Prop} (h:Calls P f args w R):Calls P f args w fun e w'=>R e w'∧∀v,e=.returned v→w.drawn≤w'.drawn:=by
 intro cs
 obtain⟨e,w',fr,hR,hC,h1,h2⟩:=h cs
 refine⟨e,w',fr,⟨hR,fun v hv=>?_⟩,hC,h1,h2⟩
 subst hv
 exact steps_up (m:=lone (Frame.enter P f args .normal) cs w) (m':=lone fr cs w') hC
end Go.Ex
namespace Go.Ex
open Go Go.Sort Go.Proofs
theorem holds_of_blockV {w:World} {g:Nat} {cur:Array Value} {e:TypeId} {F:Array Value} (hb:w.heap[g]? = some (.cells cur e (0,0))) (ht:cur.toList.take F.size=F.toList):Holds id w g 0 F:=by
 intro j hj
 refine⟨?_,by simp [World.frozen?,hb]⟩
 have h1:(cur.toList.take F.size)[j]? = F.toList[j]?:=by rw [ht]
 rw [List.getElem?_take_of_lt hj] at h1
 simp only [World.cell?,hb,Nat.zero_add]
 simp only [Option.isSome_none,Bool.false_eq_true,if_false]
 rw [←Array.getElem?_toList,h1]
 simp [hj]
theorem heap_sortedV {w:World} {g n:Nat} {os:Array Obj} {cur:Array Value} {e:TypeId} {fr:Nat×Nat} (d:Array Value) (hb:w.heap[g]? = some (.cells cur e fr)) :
  (grow (putRow id (Sort.ahead w n) g 0 d) os).heap[g]? = some (.cells (putCells id 0 d cur) e fr):=by
 have hg:g < w.heap.size:=(Array.getElem?_eq_some_iff.1 hb).1
 rw [heap_grow_old _ _ (by simpa using hg)]
 simp [putRow,mapBlock,Sort.ahead,Array.getElem?_modify,hb,onCells]
theorem grownBy_sortedV {w:World} {g n:Nat} {os:Array Obj} (d:Array Value):w.grownBy (grow (putRow id (Sort.ahead w n) g 0 d) os) (some g):=by
 refine⟨rfl,rfl,rfl,by simp,fun k hk hne=>?_⟩
 rw [heap_grow_old _ _ (by simpa using hk)]
 have:g≠k:=fun e=>hne (by rw [e])
 simp [putRow,mapBlock,Sort.ahead,Array.getElem?_modify,this]
theorem take_putCellsV (cur:Array Value) (F:Array Value) (h:F.size≤cur.size):(putCells id 0 F cur).toList.take F.size=F.toList:=by
 apply List.ext_getElem?
 intro j
 by_cases hj:j < F.size
 ·rw [List.getElem?_take_of_lt hj,Array.getElem?_toList]
  simp [putCells,hj,show j < cur.size by omega]
 ·rw [List.getElem?_take_eq_none (by omega),List.getElem?_eq_none (by simp;omega)]
theorem ownsRow_sortedV {w:World} {base g cap n m es:Nat} {e:TypeId} {os:Array Obj} {cur:Array Value} {F:Array Value} (hF:F.size=m*es) (hbase:base≤g) (hb:w.heap[g]? = some (.cells cur e (0,0)))
  (h1:m≤cap) (h2:cap≤maxLen) (h3:cur.size=cap*es) :
  (grow (putRow id (Sort.ahead w n) g 0 F) os).ownsRow base e es (.slice (some ⟨g,0,none⟩) m cap) m F.toList :=
 ⟨by simp [hF],.inr ⟨g,cap,_,rfl,hbase,heap_sortedV _ hb,h1,h2,by simp [putCells,h3],by
  rw [←hF]
  exact take_putCellsV cur F (by rw [hF,h3];exact Nat.mul_le_mul_right _ h1)⟩⟩
theorem grow_of {w w':World} (h:RowKit.Below w.heap.size w w') (hd:w.drawn≤w'.drawn):∃q os,w'=grow (w.drewN q) os:=by
 refine⟨w'.drawn - w.drawn,w'.heap.extract w.heap.size w'.heap.size,?_⟩
 have hheap:w'.heap=w.heap++w'.heap.extract w.heap.size w'.heap.size:=by
  apply Array.ext_getElem?
  intro k
  by_cases hk:k < w.heap.size
  ·rw [h.block k hk,Array.getElem?_append_left hk]
  ·have:=h.size
   rw [Array.getElem?_append_right (by omega),Array.getElem?_extract]
   split
   ·congr 1;omega
   ·rw [Array.getElem?_eq_none (by omega)]
 obtain⟨hp,tp,dr,os,ou⟩:=w'
 obtain⟨hp0,tp0,dr0,os0,ou0⟩:=w
 have e1:os=os0:=h.os
 have e2:tp=tp0:=h.tape
 have e3:ou=ou0:=h.output
 subst e1;subst e2;subst e3
 simp only at hheap hd ⊢
 unfold grow World.drewN
 simp only
 rw [←hheap,show dr0+(dr - dr0)=dr by omega]
end Go.Ex
namespace Go.Num
open Go Go.Ex Go.Proofs Go.Sort
def PtS.enc (p:PtS):List Value:=[.bool p.x.s,.string p.x.b,.string p.x.c,.bool p.y.s,.string p.y.b,.string p.y.c]
structure PtB where
 v:PtS
 h:v.le 10000
instance:Inhabited PtB:=⟨⟨⟨⟨false,⟨#[]⟩,⟨#[]⟩⟩,⟨false,⟨#[]⟩,⟨#[]⟩⟩⟩,⟨by decide,by decide⟩,by decide,by decide⟩⟩
instance (k:Nat) (r:RatS):Decidable (r.le k):=inferInstanceAs (Decidable (_∧_))
instance (k:Nat) (p:PtS):Decidable (p.le k):=inferInstanceAs (Decidable (_∧_))
def cmpB (x y:PtB):Int:=cmpP x.1 y.1
def srtB (V:List PtB):List PtB:=(pdq (ltOf cmpB) V.toArray 0 V.toArray.size (Lib.bitLen V.toArray.size) true true).toList
def srtP (V:List PtS):List PtS:=if h:∀p∈V,p.le 10000 then(srtB (V.pmap PtB.mk h)).map (·.1) else V
theorem cmpQ_lt0 {a b:Rat}:cmpQ a b < 0↔a < b:=by
 unfold cmpQ
 split
 ·rename_i h;exact⟨fun _=>h,fun _=>by decide⟩
 ·split
  ·rename_i h _;exact⟨fun h2=>absurd h2 (by decide),fun h2=>absurd h2 h⟩
  ·rename_i h _;exact⟨fun h2=>absurd h2 (by decide),fun h2=>absurd h2 h⟩
theorem cmpQ_eq0 {a b:Rat}:cmpQ a b=0↔a=b:=by
 unfold cmpQ
 split
 ·rename_i h;exact⟨fun h2=>absurd h2 (by decide),fun h2=>by subst h2;exact absurd h (Rat.lt_irrefl)⟩
 ·split
  ·rename_i h;exact⟨fun h2=>absurd h2 (by decide),fun h2=>by subst h2;exact absurd h (Rat.lt_irrefl)⟩
  ·rename_i h1 h2;exact⟨fun _=>Rat.le_antisymm (Rat.not_lt.1 h2) (Rat.not_lt.1 h1),fun _=>rfl⟩
theorem cmpP_lt0 {p u:PtS}:cmpP p u < 0↔p.X < u.X∨(p.X=u.X∧p.Y < u.Y):=by
 unfold cmpP
 split
 ·rename_i h
  rw [cmpQ_eq0] at h
  rw [cmpQ_lt0]
  exact⟨fun h2=>.inr ⟨h,h2⟩,fun h2=>h2.elim (fun h3=>absurd (h▸h3) Rat.lt_irrefl) (·.2)⟩
 ·rename_i h
  rw [cmpQ_eq0] at h
  rw [cmpQ_lt0]
  exact⟨.inl,fun h2=>h2.elim id fun h3=>absurd h3.1 h⟩
theorem ratT {a b c:Rat} (h:a < b) (k:b < c):a < c:=by grind
theorem swoB:SWO (ltOf cmpB) where
 irrefl x:=by
  unfold ltOf cmpB
  rw [decide_eq_false_iff_not,cmpP_lt0]
  rintro (h|h)
  ·exact Rat.lt_irrefl h
  ·exact Rat.lt_irrefl h.2
 trans x y z h1 h2:=by
  unfold ltOf cmpB at *
  rw [decide_eq_true_iff,cmpP_lt0] at *
  rcases h1 with h1|⟨e1,h1⟩<;>rcases h2 with h2|⟨e2,h2⟩
  ·exact .inl (ratT h1 h2)
  ·exact .inl (e2▸h1)
  ·exact .inl (e1▸h2)
  ·exact .inr ⟨e1.trans e2,ratT h1 h2⟩
 ntrans x y z h1 h2:=by
  unfold ltOf cmpB at *
  rw [decide_eq_false_iff_not,cmpP_lt0] at *
  rintro (h|⟨e,h⟩)
  ·refine h1 (.inl ?_)
   have:¬y.1.X < z.1.X:=fun h3=>h2 (.inl h3)
   have t2:=Rat.not_lt.1 this
   grind
  ·have a1:y.1.X≤x.1.X:=Rat.not_lt.1 fun h3=>h1 (.inl h3)
   have a2:z.1.X≤y.1.X:=Rat.not_lt.1 fun h3=>h2 (.inl h3)
   have e1:x.1.X=y.1.X:=Rat.le_antisymm (e▸a2) a1
   have e2:y.1.X=z.1.X:=e1.symm.trans e
   have b1:y.1.Y≤x.1.Y:=Rat.not_lt.1 fun h3=>h1 (.inr ⟨e1,h3⟩)
   have b2:z.1.Y≤y.1.Y:=Rat.not_lt.1 fun h3=>h2 (.inr ⟨e2,h3⟩)
   exact absurd h (Rat.not_lt.2 (Rat.le_trans b2 b1))
theorem srtB_both (V:List PtB):PermIn 0 V.toArray.size V.toArray (pdq (ltOf cmpB) V.toArray 0 V.toArray.size (Lib.bitLen V.toArray.size) true true)∧SortedIn (ltOf cmpB) 0 V.toArray.size (pdq (ltOf cmpB) V.toArray 0 V.toArray.size (Lib.bitLen V.toArray.size) true true) :=
 pdq_sorts (ltOf cmpB) swoB V.toArray 0 V.toArray.size _ true true (Nat.zero_le _) (Nat.le_refl _) (Or.inl rfl)
theorem srtB_perm (V:List PtB):(srtB V).Perm V:=by
 obtain⟨⟨hs,_,hp⟩,_⟩:=srtB_both V
 unfold srtB
 generalize pdq (ltOf cmpB) V.toArray 0 V.toArray.size (Lib.bitLen V.toArray.size) true true=d at *
 rw [Array.extract_size,←hs,Array.extract_size] at hp
 exact hp
theorem srtB_size (V:List PtB):(srtB V).length=V.length:=(srtB_perm V).length_eq
theorem srtB_sorted (V:List PtB):(srtB V).Pairwise fun x y=>¬cmpP y.1 x.1 < 0:=by
 obtain⟨⟨hs,_,_⟩,h⟩:=srtB_both V
 unfold srtB
 generalize pdq (ltOf cmpB) V.toArray 0 V.toArray.size (Lib.bitLen V.toArray.size) true true=d at *
 rw [List.pairwise_iff_getElem]
 intro i j hi hj hij
 have hi':i < d.size:=by simpa using hi
 have hj':j < d.size:=by simpa using hj
 have:=h i j (Nat.zero_le _) hij (by omega)
 unfold ltOf cmpB at this
 rw [getElem!_pos d i hi',getElem!_pos d j hj'] at this
 simpa using this
theorem map_pmap:∀{V:List PtS} (h:∀p∈V,p.le 10000),(V.pmap PtB.mk h).map (fun x:PtB=>x.1)=V
 |[],_=>rfl
 |p::V,h=>by
  rw [List.pmap_cons,List.map_cons,map_pmap fun q hq=>h q (List.mem_cons_of_mem _ hq)]
theorem srtP_perm (V:List PtS):(srtP V).Perm V:=by
 unfold srtP
 split
 ·rename_i h
  have:=(srtB_perm (V.pmap PtB.mk h)).map (fun x:PtB=>x.1)
  rw [map_pmap] at this
  exact this
 ·exact List.Perm.refl _
theorem srtP_size (V:List PtS):(srtP V).length=V.length:=(srtP_perm V).length_eq
theorem srtP_sorted {V:List PtS} (h:∀p∈V,p.le 10000):(srtP V).Pairwise fun x y=>¬cmpP y x < 0:=by
 unfold srtP
 rw [dif_pos h,List.pairwise_map]
 exact srtB_sorted _
end Go.Num
namespace Go.Proofs
open Go Go.Ex
def renF:Shelf.Ren where
 f:=fun x=>match x with
  |6=>128
  |14=>176
  |15=>121
  |20=>213
  |21=>214
  |22=>215
  |23=>216
  |24=>217
  |25=>218
  |26=>219
  |27=>220
  |28=>165
  |29=>166
  |46=>241
  |47=>202
  |48=>203
  |49=>242
  |50=>243
  |57=>254
  |n=>n
 t:=fun x=>match x with
  |22=>34
  |24=>25
  |25=>71
  |39=>140
  |45=>181
  |46=>182
  |50=>125
  |53=>139
  |55=>137
  |66=>216
  |70=>220
  |76=>239
  |77=>240
  |n=>n
 g:=fun n=>n
theorem laysF:SlLaysF0.n6 Tryz.prog renF :=
 { mixed:=orders,f6:=⟨Tryz.f128.name,by kernel_rfl,Eq.trans Tryz.func128 (congrArg some (by kernel_rfl))⟩,f14:=⟨Tryz.f176.name,by kernel_rfl,Eq.trans Tryz.func176 (congrArg some (by kernel_rfl))⟩,f15:=Eq.trans Tryz.func121 (congrArg some (by kernel_rfl)),f20:=⟨Tryz.f213.name,by kernel_rfl,Eq.trans Tryz.func213 (congrArg some (by kernel_rfl))⟩,f21:=⟨Tryz.f214.name,by kernel_rfl,Eq.trans Tryz.func214 (congrArg some (by kernel_rfl))⟩,f22:=⟨Tryz.f215.name,by kernel_rfl,Eq.trans Tryz.func215 (congrArg some (by kernel_rfl))⟩,f23:=⟨Tryz.f216.name,by kernel_rfl,Eq.trans Tryz.func216 (congrArg some (by kernel_rfl))⟩,f24:=⟨Tryz.f217.name,by kernel_rfl,Eq.trans Tryz.func217 (congrArg some (by kernel_rfl))⟩,f25:=⟨Tryz.f218.name,by kernel_rfl,Eq.trans Tryz.func218 (congrArg some (by kernel_rfl))⟩,f26:=⟨Tryz.f219.name,by kernel_rfl,Eq.trans Tryz.func219 (congrArg some (by kernel_rfl))⟩,f27:=⟨Tryz.f220.name,by kernel_rfl,Eq.trans Tryz.func220 (congrArg some (by kernel_rfl))⟩,f28:=Eq.trans Tryz.func165 (congrArg some (by kernel_rfl)),f29:=Eq.trans Tryz.func166 (congrArg some (by kernel_rfl)),f46:=⟨Tryz.f241.name,by kernel_rfl,Eq.trans Tryz.func241 (congrArg some (by kernel_rfl))⟩,f47:=Eq.trans Tryz.func202 (congrArg some (by kernel_rfl)),f48:=Eq.trans Tryz.func203 (congrArg some (by kernel_rfl)),f49:=⟨Tryz.f242.name,by kernel_rfl,Eq.trans Tryz.func242 (congrArg some (by kernel_rfl))⟩,f50:=⟨Tryz.f243.name,by kernel_rfl,Eq.trans Tryz.func243 (congrArg some (by kernel_rfl))⟩,f57:=⟨Tryz.f254.name,by kernel_rfl,Eq.trans Tryz.func254 (congrArg some (by kernel_rfl))⟩,t0:=Tryz.underlying0,a0:=Tryz.isAgg0,z0:=Tryz.sizeOf0,v0:=Tryz.zeroValue0,t3:=Tryz.underlying3,a3:=Tryz.isAgg3,z3:=Tryz.sizeOf3,v3:=Tryz.zeroValue3,t4:=Tryz.underlying4,a4:=Tryz.isAgg4,z4:=Tryz.sizeOf4,v4:=Tryz.zeroValue4,t5:=Tryz.underlying5,a5:=Tryz.isAgg5,z5:=Tryz.sizeOf5,v5:=Tryz.zeroValue5,t9:=Tryz.underlying9,a9:=Tryz.isAgg9,z9:=Tryz.sizeOf9,v9:=Tryz.zeroValue9,t22:=Tryz.underlying34,a22:=Tryz.isAgg34,z22:=Tryz.sizeOf34,v22:=Tryz.zeroValue34,t25:=Tryz.underlying71,a25:=Tryz.isAgg71,z25:=Tryz.sizeOf71,v25:=Tryz.zeroValue71,t39:=Tryz.underlying140,a39:=Tryz.isAgg140,z39:=Tryz.sizeOf140,v39:=Tryz.zeroValue140,t45:=Tryz.underlying181,a45:=Tryz.isAgg181,z45:=Tryz.sizeOf181,v45:=Tryz.zeroValue181,t46:=Tryz.underlying182,a46:=Tryz.isAgg182,z46:=Tryz.sizeOf182,v46:=Tryz.zeroValue182,t50:=Tryz.underlying125,a50:=Tryz.isAgg125,z50:=Tryz.sizeOf125,v50:=Tryz.zeroValue125,t53:=Tryz.underlying139,a53:=Tryz.isAgg139,z53:=Tryz.sizeOf139,v53:=Tryz.zeroValue139,t55:=Tryz.underlying137,a55:=Tryz.isAgg137,z55:=Tryz.sizeOf137,v55:=Tryz.zeroValue137,t66:=Tryz.underlying216,a66:=Tryz.isAgg216,z66:=Tryz.sizeOf216,v66:=Tryz.zeroValue216,t70:=Tryz.underlying220,a70:=Tryz.isAgg220,z70:=Tryz.sizeOf220,v70:=Tryz.zeroValue220,t76:=Tryz.underlying239,a76:=Tryz.isAgg239,z76:=Tryz.sizeOf239,v76:=Tryz.zeroValue239,t77:=Tryz.underlying240,a77:=Tryz.isAgg240,z77:=Tryz.sizeOf240,v77:=Tryz.zeroValue240 }
end Go.Proofs
namespace Go.Ex
open Go Go.RowKit Go.Proofs Go.Sort Go.Num
theorem cmp38 (x y:PtB) (W:World):Calls Tryz.prog 38 #[x.1.v,y.1.v] W fun e w'=>e=.returned (.int .i64 (cmpB x y))∧∃q os',w'=grow (W.drewN q) os':=by
 have h:=f38 [.val x.1.v,.val y.1.v] _ rfl
 have h2:=h.2 (fun p hp=>by cases hp;exact⟨⟨_,rfl,x.2.mono (by decide)⟩,_,rfl,y.2.mono (by decide)⟩) (fun _=>False) W #[x.1.v,y.1.v] (fun _ h=>h.elim) rfl (fun i p v hp hv=>by
  match i,hp,hv with
  |0,hp,hv=>cases hp;cases hv;exact .val _
  |1,hp,hv=>cases hp;cases hv;exact .val _
  |i+2,hp,_=>simp at hp)
 refine(calls_up h2).mono ?_
 rintro e w' ⟨⟨v,β,rfl,hres⟩,hd⟩
 have hv:=hres.val.val_eq
 exact⟨congrArg Ending.returned hv,grow_of hres.below (hd _ rfl)⟩
def T128:Trans:=fun args s K=>match args with
 |[.sl id st 0 n,.val (.func (.func 38) ⟨[]⟩ ⟨[]⟩)]=>match blk s.H id st with
  |some ⟨ty,es,st',box,arr,m,get⟩=>(es=6∧box=false∧n=m∧n≤1000000)∧∃V:List PtS,V.length=n∧(∀p∈V,p.le 10000)∧(∀i,i < n→get i=(vertP V i).cells)∧(n=0→K (.val (.tuple ⟨[]⟩)) s) ∧
    (0 < n→match s with
     |⟨fr,H,nx,sv⟩=>K (.val (.tuple ⟨[]⟩)) ⟨fr,H.set id ⟨ty,es,st',box,arr,m,fun i=>(vertP (srtP V) i).cells⟩,nx,sv⟩)
  |none=>False
 |_=>False
theorem ok128:funcOk ({}:Opt).toOrd Tryz.f128 2=true:=by kernel_rfl
theorem flat_get {V:List PtB} {t:Nat} (ht:t < V.length*6):(flatK (fun x:PtB=>x.1.enc) 6 V.toArray)[t]! = ((V[t / 6]!).1.enc)[t%6]!:=by
 rw [get_flatK _ _ _ _ (by simpa using ht)]
 simp
theorem t128:TransOk Tryz.prog 128 T128:=by
 refine⟨fun vs w=>?_,fun Z G n A a w s args vs K hZ hS e=>?_⟩
 ·obtain⟨⟨c,hb,h1⟩,h2,h3,h4⟩:=funcOk_spec ok128
  exact callFunc_enter Tryz.func128 h4 hb vs w
 unfold T128 at e
 split at e
 ·rename_i id st m
  split at e
  ·rename_i ty es st' box arr m' get hb
   obtain⟨⟨rfl,rfl,rfl,hmx⟩,V,hVl,hVle,hz,k0,k1⟩:=e
   obtain⟨b,ok,β,hzz,hr,hA1,hA2,hA3,hl,hR⟩:=hS
   obtain⟨vl⟩:=vs
   match vl,hl,hR with
   |[v,fv],hl,hR =>
    have hv:=hR 0 _ v rfl rfl
    have hf:=(hR 1 _ fv rfl rfl).val_eq
    subst hf
    obtain⟨e3,e4⟩:=hv.sl_inv hb
    have e3:v=sub 6 0 m (β id):=e3.resolve_right fun q=>q.1 rfl
    have hb':=(blk_some hb).1
    obtain⟨xs,h1,h2,_,_,h3⟩:=hr.heap.own id _ hb'
    rcases Nat.eq_zero_or_pos m with h0|h0
    ·subst h0
     obtain⟨ad,c,rfl⟩:∃ad c,v=.slice ad 0 c:=by
      rcases hr.heap.slice_of hb' with ⟨e5,_⟩|⟨g,c,e5,_⟩
      ·rw [e3,e5]
       exact⟨none,0,rfl⟩
      ·rw [e3,e5]
       exact⟨_,_,rfl⟩
     refine(AnyF.slices_SortFunc_none laysF ad c _ w).mono ?_
     rintro e w' ⟨rfl,rfl⟩
     refine⟨_,_,_,rfl,k0 rfl,b,ok,β,hzz,hr,hA1,hA2,hA3,rfl,fun i p v hp hv=>?_⟩
     match i,hp,hv with
     |0,hp,hv=>cases hp;cases hv;exact .val _
     |i+1,hp,_=>simp at hp
    ·rcases hr.heap.slice_of hb' with ⟨_,e6⟩|⟨g,c,e5,e6,e7⟩
     ·simp only at e6
      omega
     simp only at e6
     have hvx:v=.slice (some ⟨g,0,none⟩) m c:=by rw [e3,e5];simp [sub,Addr.add_mid]
     simp only at h1 h2 h3
     rw [e5] at h1
     obtain⟨hxl,h1⟩:=h1
     rcases h1 with ⟨h1,_⟩|⟨g',c',cur,h1,hbase,hcur,q1,q2,q3,q4⟩
     ·cases h1
     cases h1
     obtain⟨W,hW⟩:∃W:List PtB,W=V.pmap PtB.mk hVle:=⟨_,rfl⟩
     have hWl:W.length=m:=by rw [hW,List.length_pmap,hVl]
     have hWV:W.map (fun x:PtB=>x.1)=V:=by rw [hW];exact map_pmap hVle
     have hFs:(flatK (fun x:PtB=>x.1.enc) 6 W.toArray).size=m*6:=by rw [size_flatK];simp [hWl]
     have hWV':∀i,i < m→(W[i]!).1=vertP V i:=fun i hi=>by
      unfold vertP
      rw [←hWV,getElem!_pos W i (by omega),List.getElem?_map,List.getElem?_eq_getElem (by omega)]
      rfl
     have hxs:xs=(flatK (fun x:PtB=>x.1.enc) 6 W.toArray).toList:=by
      apply List.ext_getElem
      ·rw [hxl,Array.length_toList,hFs]
      ·intro t i1 i2
       have ht:t < m*6:=by rw [hxl] at i1;exact i1
       have hi:t / 6 < m:=by omega
       have hf:t%6 < 6:=Nat.mod_lt _ (by decide)
       have hcell:∀f,f < 6→(vertP V (t / 6)).cells[f]? = some (.val ((vertP V (t / 6)).enc[f]!)):=fun f hf=>by
        match f,hf with
        |0,_=>rfl
        |1,_=>rfl
        |2,_=>rfl
        |3,_=>rfl
        |4,_=>rfl
        |5,_=>rfl
       obtain⟨u,u1,u2,u3⟩:=h3 (t / 6) (t%6) _ hi (by rw [hz _ hi];exact hcell _ hf)
       have:=(u3 trivial).val_eq
       subst this
       rw [show t / 6*6+t%6=t by omega] at u1
       have hx1:xs[t]'i1=(vertP V (t / 6)).enc[t%6]!:=by
        rw [List.getElem?_eq_getElem i1] at u1
        injection u1
       rw [hx1]
       have h5:=flat_get (V:=W) (t:=t) (by rw [hWl];exact ht)
       rw [hWV' _ hi] at h5
       rw [←h5,Array.getElem_toList,getElem!_pos _ t (by rw [hFs];exact ht)]
     have hH:HoldsK (fun x:PtB=>x.1.enc) 6 w g 0 W.toArray:=holds_of_blockV hcur (by rw [hFs,←hxs,←q4])
     have hcm:CmpLays Tryz.prog 38 #[] (fun x:PtB=>x.1.enc) 6 cmpB g 0 W.toArray.size w:=fun mm os dk _ x y=>cmp38 x y _
     have call:=AnyQ.slices_SortFunc_eq laysF 6 Tryz.isAgg25 Tryz.sizeOf25 (fun x:PtB=>x.1.enc) (fun _=>rfl) (fun x v hv=>by
      simp [PtS.enc] at hv
      rcases hv with rfl|rfl|rfl|rfl|rfl|rfl<;>rfl) cmpB swoB 38 #[] g 0 c W.toArray w (f38 [.val default,.val default] _ rfl).1 hcm hH (Array.getElem?_eq_some_iff.1 hcur).1 (by simp only [List.size_toArray];omega)
     rw [show W.toArray.size=m by simp [hWl]] at call
     rw [hvx]
     refine call.mono ?_
     rintro e w' ⟨rfl,nn,os,rfl⟩
     have hD:pdq (ltOf cmpB) W.toArray 0 m (Lib.bitLen m) true true=(srtB W).toArray:=by
      unfold srtB
      rw [show W.toArray.size=m by simp [hWl]]
     rw [hD]
     have hSl:(srtB W).length=m:=by rw [srtB_size,hWl]
     have hSF:(flatK (fun x:PtB=>x.1.enc) 6 (srtB W).toArray).size=m*6:=by rw [size_flatK];simp [hSl]
     have hSV:∀i,i < m→((srtB W)[i]!).1=vertP (srtP V) i:=fun i hi=>by
      unfold vertP srtP
      rw [dif_pos hVle,←hW,getElem!_pos _ i (by omega),List.getElem?_map,List.getElem?_eq_getElem (by omega)]
      rfl
     have hown:=ownsRow_sortedV (n:=nn) (os:=os) hSF hbase hcur q1 q2 q3
     have hset:=hr.set (fun i=>(vertP (srtP V) i).cells) (flatK (fun x:PtB=>x.1.enc) 6 (srtB W).toArray).toList hb' e5 (grownBy_sortedV (w:=w) (n:=nn) (os:=os) _) (by simp only;rw [e5];exact hown) (fun i hi=>⟨rfl,fun p hp=>by
      simp [PtS.cells] at hp
      rcases hp with rfl|rfl|rfl|rfl|rfl|rfl<;>rfl⟩) (fun i f p hi hp=>by
      simp only at hi
      have hf:f < 6:=by
       have:=(List.getElem?_eq_some_iff.1 hp).1
       exact this
      have hp2:p=.val ((vertP (srtP V) i).enc[f]!):=by
       match f,hf,hp with
       |0,_,hp=>cases hp;rfl
       |1,_,hp=>cases hp;rfl
       |2,_,hp=>cases hp;rfl
       |3,_,hp=>cases hp;rfl
       |4,_,hp=>cases hp;rfl
       |5,_,hp=>cases hp;rfl
      subst hp2
      refine⟨(vertP (srtP V) i).enc[f]!,?_,.val _,fun _=>.val _⟩
      have ht:i*6+f < m*6:=by omega
      have h5:=flat_get (V:=srtB W) (t:=i*6+f) (by rw [hSl];exact ht)
      rw [show(i*6+f) / 6=i by omega,show(i*6+f)%6=f by omega,hSV _ hi] at h5
      simp only
      rw [←h5,Array.getElem?_toList,Array.getElem?_eq_getElem (by rw [hSF];exact ht),getElem!_pos _ _ (by rw [hSF];exact ht)])
     refine⟨_,_,_,rfl,k1 h0,b,ok,β,hzz,hset,hA1,hA2,hA3,rfl,fun i p v hp hv=>?_⟩
     match i,hp,hv with
     |0,hp,hv=>cases hp;cases hv;exact .val _
     |i+1,hp,_=>simp at hp
   |[],hl,_=>simp at hl
   |[_],hl,_=>simp at hl
   |_::_::_::_,hl,_=>simp at hl
  ·exact e.elim
 ·exact e.elim
end Go.Ex
namespace Go.Num
open Go Go.Ex Go.Proofs
theorem vertC_le {lo hi:PtS} {k:Nat} {c:Nat→List PV} {l:Nat} {o:Nat→List PV} (h:isCL 10000 k c):∀p∈vertC lo hi k c l o,p.le 10000:=by
 have hJ:∀{S:PtS→Bool} {q:Nat→PtS} {n:Nat},(∀j,j < n→(q j).le 10000)→∀p∈vertJ S q n,p.le 10000:=fun {S q n}=>by
  induction n with
  |zero=>intro _ p hp;cases hp
  |succ n ih =>
   intro hq p hp
   rw [vertJ] at hp
   rcases List.mem_append.1 hp with hp|hp
   ·exact ih (fun j hj=>hq j (by omega)) p hp
   ·cases hS:S (q n) with
    |true =>
     rw [hS] at hp
     rw [List.mem_singleton.1 hp]
     exact hq n (by omega)
    |false=>rw [hS] at hp;cases hp
 unfold vertC
 have hI:∀i,i≤k→∀p∈vertI (fun p=>seeB lo hi k c l o p p) (pn c) (fun i=>pts (pg c i)) i,p.le 10000:=fun i=>by
  induction i with
  |zero=>intro _ p hp;cases hp
  |succ i ih =>
   intro hi p hp
   rw [vertI] at hp
   rcases List.mem_append.1 hp with hp|hp
   ·exact ih (by omega) p hp
   ·exact hJ (fun j hj=>((h.1 i (by omega)).2.1 j hj).2) p hp
 exact hI k (Nat.le_refl k)
theorem vertP_le {V:List PtS} (h:∀p∈V,p.le 10000) {i:Nat} (hi:i < V.length):(vertP V i).le 10000:=by
 unfold vertP
 rw [List.getElem?_eq_getElem hi]
 exact h _ (List.getElem_mem hi)
end Go.Num
namespace Go.Proofs
open Go Go.Ex Go.Num
set_option maxRecDepth 100000
def c93:List PV→Option Ans
 |[.fn (.func 129) [] [.rp 14 1 h 0 0],.val (.func (.func 38) ⟨[]⟩ ⟨[]⟩)]=>some ⟨some ((isG h∧((gLo (h 0)).le 10000∧(gHi (h 0)).le 10000)∧isCL 10000 (gK (h 0)) (gC (h 0))∧isOL (gL (h 0)) (gO (h 0)))∧(vertC (gLo (h 0)) (gHi (h 0)) (gK (h 0)) (gC (h 0)) (gL (h 0)) (gO (h 0))).length≤500),.sl 0 0 0 (vertC (gLo (h 0)) (gHi (h 0)) (gK (h 0)) (gC (h 0)) (gL (h 0)) (gO (h 0))).length,[⟨25,6,0,false,false,(vertC (gLo (h 0)) (gHi (h 0)) (gK (h 0)) (gC (h 0)) (gL (h 0)) (gO (h 0))).length,fun i=>(vertP (srtP (vertC (gLo (h 0)) (gHi (h 0)) (gK (h 0)) (gC (h 0)) (gL (h 0)) (gO (h 0)))) i).cells⟩]⟩
 |_=>none
theorem ok93:funcOk {} Tryz.f93 2=true:=by kernel_rfl
theorem f93:FnOk Tryz.prog 93 c93:=by
 refine FnOk.ofW orders (mkE_ok (l:=[(127,c127)]) (own:=[127]) (inl:=[(128,T128)]) (by simp [f127]) (by simp [t128])) Tryz.func93 {} 2 ok93 fun args r e=>?_
 unfold c93 at e
 split at e
 ·rename_i h
  cases e
  refine⟨by simp,fun hm=>?_⟩
  obtain⟨hp,hn⟩:=hm _ rfl
  refine⟨[],stOf [(0,.fn (.func 129) [] [.rp 14 1 h 0 0]),(1,.val (.func (.func 38) ⟨[]⟩ ⟨[]⟩))] [] 0 [],Wo trivial ⟨⟨rfl,trivial,⟨rfl,rfl,rfl,rfl,fun _ _=>rfl⟩,qQ⟩,rfl,qQ⟩ trivial,?_⟩
  have hle:=vertC_le (lo:=gLo (h 0)) (hi:=gHi (h 0)) (l:=gL (h 0)) (o:=gO (h 0)) hp.2.2.1
  with_unfolding_all refine⟨⟨hp,Nat.le_trans hn (by decide)⟩,?_⟩
  clear hp hm
  generalize (vertC (gLo (h 0)) (gHi (h 0)) (gK (h 0)) (gC (h 0)) (gL (h 0)) (gO (h 0)))=V at *
  with_unfolding_all exact⟨⟨rfl,rfl,rfl,Nat.le_trans hn (by decide)⟩,V,rfl,hle,fun _ _=>rfl,fun h0=>⟨[some 0],stOf [(4,.sl 0 0 0 V.length)] [⟨25,6,0,false,false,V.length,fun i=>(vertP (srtP V) i).cells⟩] 1 [],Wo ⟨qZ (fun z hz=>absurd hz (by rw [h0];exact Nat.not_lt_zero _)),qQ⟩ ⟨pP,qQ⟩ trivial,rfl,rfl⟩,fun _=>⟨[some 0],stOf [(4,.sl 0 0 0 V.length)] [⟨25,6,0,false,false,V.length,fun i=>(vertP (srtP V) i).cells⟩] 1 [],Wo ⟨qZ (fun _ _=>rfl),qQ⟩ ⟨pP,qQ⟩ trivial,rfl,rfl⟩⟩
 ·cases e
end Go.Proofs
namespace Go.Proofs
open Go Go.Ex Go.Num
set_option maxRecDepth 100000
def c19:List PV→Option Ans
 |[.rs 6 m h,.val v]=>some ⟨some (isPL 4294967296 m h∧isPk 4294967296 v),.val (.int .i64 (ixP (fun i=>eqP (rdV v) (pts h i)) m 0)),[]⟩
 |_=>none
theorem ok19:funcOk {} Tryz.f19 2=true:=by kernel_rfl
theorem f19:FnOk Tryz.prog 19 c19:=by
 refine FnOk.ofW orders (mkE_ok (l:=[]) (own:=[]) (inl:=[]) (by simp) (by simp)) Tryz.func19 {} 2 ok19 fun args r e=>?_
 unfold c19 at e
 split at e
 ·rename_i n h v
  cases e
  refine⟨by simp,fun hm=>?_⟩
  obtain⟨⟨hq,hn⟩,a,rfl,ha⟩:=hm _ rfl
  refine⟨[],stOf [(0,.rs 6 n (fun i=>(pts h i).cells)),(1,.val a.v)] [] 0 [],Wo trivial ⟨⟨rfl,rfl,fun i hi=>(hq i hi).1.symm⟩,rfl,qQ⟩ trivial,?_⟩
  generalize pts h=q at *
  obtain⟨X,hX⟩:∃X,X=ixP (fun i=>eqP a (q i)) n 0:=⟨_,rfl⟩
  have hv:ixP (fun i=>eqP (rdV a.v) (q i)) n 0=X:=hX.symm
  rw [hv]
  with_unfolding_all refine⟨Nat,fun i=>i≤n∧ixP (fun i=>eqP a (q i)) (n - i) i=X,fun i=>stOf [(0,.rs 6 n (fun i=>(q i).cells)),(3,.ptr 0 0 0 0),(7,.val (goInt n)),(8,.val (goInt i))] [⟨25,6,0,true,false,1,fun _=>[.val (.bool a.x.s),.val (.string a.x.b),.val (.string a.x.c),.val (.bool a.y.s),.val (.string a.y.b),.val (.string a.y.c)]⟩] 1 [],fun i=>n - i,⟨0,[some 0],⟨Nat.zero_le _,hX.symm⟩,Wo ⟨qK,qQ⟩ ⟨qW,pP,rfl,rfl,qQ⟩ trivial⟩,fun i hi=>?_⟩
  obtain⟨hin,hI⟩:i≤n∧ixP (fun i=>eqP a (q i)) (n - i) i=X:=hi
  with_unfolding_all refine⟨fun h=>?_,fun h=>⟨[],stOf [(4,.val (.int .i64 X))] [] 0 [],Wo trivial ⟨?_,qQ⟩ trivial,rfl,rfl⟩⟩
  ·have h:(i:Int) < n:=ltT h
   have e:(i:Int).toNat=i:=Int.toNat_natCast i
   have hstep:ixP (fun i=>eqP a (q i)) (n - i) i=bif eqP a (q i) then(i:Int) else ixP (fun i=>eqP a (q i)) (n - (i+1)) (i+1):=by
    rw [show n - i=(n - (i+1))+1 by omega]
    rfl
   with_unfolding_all refine⟨⟨by omega,by omega⟩,fun h'=>⟨[],stOf [(4,.val (.int .i64 X))] [] 0 [],Wo trivial ⟨?_,qQ⟩ trivial,rfl,rfl⟩,fun h'=>⟨i+1,[some 0],⟨by omega,?_⟩,by show n - (i+1) < n - i;omega,Wo ⟨qK,qQ⟩ ⟨qW,pP,rfl,?_,qQ⟩ trivial⟩⟩
   ·have h':eqP a (q (i:Int).toNat)=true:=h'
    rw [e] at h'
    rw [h',cond_true] at hstep
    exact congrArg (fun z=>PV.val (.int .i64 z)) (hstep.symm.trans hI)
   ·have h':eqP a (q (i:Int).toNat)=false:=h'
    rw [e] at h'
    rw [h',cond_false] at hstep
    exact hstep.symm.trans hI
   ·show PV.val (.int .i64 (IntKind.i64.wrap ((i:Int)+1)))=PV.val (.int .i64 ((i+1:Nat):Int))
    rw [wrap64 (by omega) (by omega)]
    rfl
  ·have h:(n:Int)≤i:=ltF h
   rw [show n - i=0 by omega] at hI
   exact congrArg (fun z=>PV.val (.int .i64 z)) hI
 ·cases e
def c37:List PV→Option Ans
 |[.rs 6 m h,.val v]=>some ⟨some (isPL 4294967296 m h∧isPk 4294967296 v),.val (.bool (anyP (fun i=>eqP (rdV v) (pts h i)) m)),[]⟩
 |_=>none
theorem ok37:funcOk {} Tryz.f37 2=true:=by kernel_rfl
theorem f37:FnOk Tryz.prog 37 c37:=by
 refine FnOk.ofW orders (mkE_ok (l:=[(19,c19)]) (own:=[]) (inl:=[]) (by simp [f19]) (by simp)) Tryz.func37 {} 2 ok37 fun args r e=>?_
 unfold c37 at e
 split at e
 ·rename_i n h v
  cases e
  refine⟨by simp,fun hm=>?_⟩
  obtain⟨hq,a,rfl,ha⟩:=hm _ rfl
  refine⟨[],stOf [(0,.rs 6 n h),(1,.val a.v)] [] 0 [],Wo trivial ⟨⟨rfl,rfl,fun i hi=>rfl⟩,rfl,qQ⟩ trivial,?_⟩
  with_unfolding_all refine⟨⟨hq,a,rfl,ha⟩,[],stOf [(4,.val (.bool (anyP (fun i=>eqP a (pts h i)) n)))] [] 0 [],Wo trivial ⟨?_,qQ⟩ trivial,rfl,rfl⟩
  exact congrArg (fun z=>PV.val (.bool z)) (ixP_any _ _)
 ·cases e
end Go.Proofs
namespace Go.Num
open Go Go.Ex Go.Proofs
def cmpct (p:Nat→PtS):Nat→List PtS
 |0=>[]
 |j+1=>cmpct p j++(bif j==0||!eqP (p j) (p (j - 1)) then [p j] else [])
theorem cmpct_le (p:Nat→PtS):∀j,(cmpct p j).length≤j
 |0=>Nat.le_refl _
 |j+1=>by
  have:=cmpct_le p j
  unfold cmpct
  rw [List.length_append]
  cases (j==0||!eqP (p j) (p (j - 1)))<;>simp<;>omega
theorem cmpct_mem {p:Nat→PtS}:∀{j:Nat} {x:PtS},x∈cmpct p j→∃i,i < j∧x=p i
 |0,x,h=>by cases h
 |j+1,x,h=>by
  unfold cmpct at h
  rcases List.mem_append.1 h with h|h
  ·obtain⟨i,h1,h2⟩:=cmpct_mem h
   exact⟨i,by omega,h2⟩
  ·cases hb:(j==0||!eqP (p j) (p (j - 1))) with
   |true =>
    rw [hb] at h
    exact⟨j,by omega,List.mem_singleton.1 h⟩
   |false =>
    rw [hb] at h
    cases h
theorem cmpct_run {p:Nat→PtS}:∀{j:Nat},(∀i,i+1 < j→eqP (p (i+1)) (p i)=false)→cmpct p j=(List.range j).map p
 |0,_=>rfl
 |j+1,h=>by
  have hb:(j==0||!eqP (p j) (p (j - 1)))=true:=by
   cases j with
   |zero=>rfl
   |succ i=>rw [show i+1 - 1=i by omega,h i (by omega)];simp
  rw [cmpct,hb,cmpct_run fun i hi=>h i (by omega),List.range_succ,List.map_append]
  rfl
end Go.Num
namespace Go.Proofs
open Go Go.Ex Go.Num
set_option maxRecDepth 100000
theorem ok92:funcOk {} Tryz.f92 1=true:=by kernel_rfl
def T92:Trans:=fun args s K=>args.length≤1∧walk Tryz.prog (mkE [] [] []) {} Tryz.f92 args s K
theorem t92:TransOk Tryz.prog 92 T92:=walk_ok orders (mkE_ok (by simp) (by simp)) Tryz.func92 {} 1 ok92 fun _ _ _ h=>h
end Go.Proofs
namespace Go.Num
open Go Go.Ex Go.Proofs
def rdI1:List PV→Int
 |[.val (.int .i64 s)]=>s
 |_=>0
def isI1 (c:List PV):Prop:=c=[.val (.int .i64 (rdI1 c))]
def sideB (a b:PtS) (s:Int) (p:PtS):Bool:=orP a b p==s
end Go.Num
namespace Go.Proofs
open Go Go.Ex Go.Num
set_option maxRecDepth 100000
def c106:List PV→Option Ans
 |[.val v,.rp 6 1 h 0 0,.rp 6 1 h' 0 0,.rp 1 1 h2 0 0]=>some ⟨some (isPk 10000 v∧isC 10000 (h 0)∧isC 10000 (h' 0)∧isI1 (h2 0)),.val (.bool (sideB (rdP (h 0)) (rdP (h' 0)) (rdI1 (h2 0)) (rdV v))),[]⟩
 |_=>none
theorem ok106:funcOk {} Tryz.f106 4=true:=by kernel_rfl
theorem f106:FnOk Tryz.prog 106 c106:=by
 refine FnOk.ofW orders (mkE_ok (l:=[(107,c107)]) (own:=[]) (inl:=[]) (by simp [f107]) (by simp)) Tryz.func106 {} 4 ok106 fun args r e=>?_
 unfold c106 at e
 split at e
 ·rename_i v h h' h2
  cases e
  refine⟨by simp,fun hm=>?_⟩
  obtain⟨⟨p,rfl,hp⟩,⟨h1,ha⟩,⟨h3,hb⟩,h4⟩:=hm _ rfl
  unfold isI1 at h4
  generalize rdP (h 0)=a at *
  generalize rdP (h' 0)=b at *
  generalize rdI1 (h2 0)=s at *
  refine⟨[],stOf [(0,.val p.v),(1,.rp 6 1 (fun _=>a.cells) 0 0),(2,.rp 6 1 (fun _=>b.cells) 0 0),(3,.rp 1 1 (fun _=>[.val (.int .i64 s)]) 0 0)] [] 0 [],Wo trivial ⟨rfl,⟨rfl,rfl,rfl,rfl,at0 h1⟩,⟨rfl,rfl,rfl,rfl,at0 h3⟩,⟨rfl,rfl,rfl,rfl,at0 h4⟩,qQ⟩ trivial,?_⟩
  with_unfolding_all exact⟨⟨⟨a,rfl,ha⟩,⟨b,rfl,hb⟩,p,rfl,hp⟩,⟨[],stOf [(5,.val (.bool (sideB a b s p)))] [] 0 [],Wo trivial ⟨rfl,qQ⟩ trivial,rfl,rfl⟩⟩
 ·cases e
def c83_106:List PV→Option Ans
 |[.rs 6 n g,.fn (.func 106) [] [.rp 6 1 cc 0 0,.rp 6 1 dd 0 0,.rp 1 1 ee 0 0]]=>some ⟨some (isPL 10000 n g∧isC 10000 (cc 0)∧isC 10000 (dd 0)∧isI1 (ee 0)),.val (.int .i64 (ixP (fun i=>sideB (rdP (cc 0)) (rdP (dd 0)) (rdI1 (ee 0)) (pts g i)) n 0)),[]⟩
 |_=>none
theorem f83_106:FnOk Tryz.prog 83 c83_106:=by
 refine FnOk.ofW orders (mkE_ok (l:=[(106,c106)]) (own:=[]) (inl:=[]) (by simp [f106]) (by simp)) Tryz.func83 {} 2 ok83 fun args r e=>?_
 unfold c83_106 at e
 split at e
 ·rename_i n g cc dd ee
  cases e
  refine⟨by simp,fun hm=>?_⟩
  obtain⟨⟨hg,hn⟩,h1,h2,h3⟩:=hm _ rfl
  refine⟨[],stOf [(0,.rs 6 n (fun i=>(pts g i).cells)),(1,.fn (.func 106) [] [.rp 6 1 cc 0 0,.rp 6 1 dd 0 0,.rp 1 1 ee 0 0])] [] 0 [],Wo trivial ⟨⟨rfl,rfl,fun i hi=>(hg i hi).1.symm⟩,⟨rfl,trivial,⟨rfl,rfl,rfl,rfl,fun _ _=>rfl⟩,⟨rfl,rfl,rfl,rfl,fun _ _=>rfl⟩,⟨rfl,rfl,rfl,rfl,fun _ _=>rfl⟩,qQ⟩,qQ⟩ trivial,?_⟩
  obtain⟨X,hX⟩:∃X,X=ixP (fun i=>sideB (rdP (cc 0)) (rdP (dd 0)) (rdI1 (ee 0)) (pts g i)) n 0:=⟨_,rfl⟩
  rw [←hX]
  with_unfolding_all refine⟨Nat,fun i=>i≤n∧ixP (fun i=>sideB (rdP (cc 0)) (rdP (dd 0)) (rdI1 (ee 0)) (pts g i)) (n - i) i=X,fun i=>stOf [(0,.rs 6 n (fun i=>(pts g i).cells)),(1,.fn (.func 106) [] [.rp 6 1 cc 0 0,.rp 6 1 dd 0 0,.rp 1 1 ee 0 0]),(7,.val (goInt n)),(8,.val (goInt i))] [] 0 [],fun i=>n - i,⟨0,[],⟨Nat.zero_le _,hX.symm⟩,Wo trivial ⟨qW,⟨rfl,trivial,⟨rfl,rfl,rfl,rfl,fun _ _=>rfl⟩,⟨rfl,rfl,rfl,rfl,fun _ _=>rfl⟩,⟨rfl,rfl,rfl,rfl,fun _ _=>rfl⟩,qQ⟩,rfl,rfl,qQ⟩ trivial⟩,fun i hi=>?_⟩
  obtain⟨hin,hI⟩:i≤n∧ixP (fun i=>sideB (rdP (cc 0)) (rdP (dd 0)) (rdI1 (ee 0)) (pts g i)) (n - i) i=X:=hi
  with_unfolding_all refine⟨fun h=>?_,fun h=>⟨[],stOf [(4,.val (.int .i64 X))] [] 0 [],Wo trivial ⟨?_,qQ⟩ trivial,rfl,rfl⟩⟩
  ·have h:(i:Int) < n:=ltT h
   have e:(i:Int).toNat=i:=Int.toNat_natCast i
   have hstep:ixP (fun i=>sideB (rdP (cc 0)) (rdP (dd 0)) (rdI1 (ee 0)) (pts g i)) (n - i) i=bif sideB (rdP (cc 0)) (rdP (dd 0)) (rdI1 (ee 0)) (pts g i) then(i:Int) else ixP (fun i=>sideB (rdP (cc 0)) (rdP (dd 0)) (rdI1 (ee 0)) (pts g i)) (n - (i+1)) (i+1):=by
    rw [show n - i=(n - (i+1))+1 by omega]
    rfl
   have hip:=(hg i (by omega)).2
   rw [←e] at hip
   with_unfolding_all refine⟨⟨by omega,by omega⟩,⟨⟨pts g (i:Int).toNat,rfl,hip⟩,h1,h2,h3⟩,fun h'=>⟨[],stOf [(4,.val (.int .i64 X))] [] 0 [],Wo trivial ⟨?_,qQ⟩ trivial,rfl,rfl⟩,fun h'=>⟨i+1,[],⟨by omega,?_⟩,by show n - (i+1) < n - i;omega,Wo trivial ⟨qW,⟨rfl,trivial,⟨rfl,rfl,rfl,rfl,fun _ _=>rfl⟩,⟨rfl,rfl,rfl,rfl,fun _ _=>rfl⟩,⟨rfl,rfl,rfl,rfl,fun _ _=>rfl⟩,qQ⟩,rfl,?_,qQ⟩ trivial⟩⟩
   ·have h':(sideB (rdP (cc 0)) (rdP (dd 0)) (rdI1 (ee 0)) (pts g (i:Int).toNat))=true:=h'
    rw [e] at h'
    rw [h',cond_true] at hstep
    exact congrArg (fun z=>PV.val (.int .i64 z)) (hstep.symm.trans hI)
   ·have h':(sideB (rdP (cc 0)) (rdP (dd 0)) (rdI1 (ee 0)) (pts g (i:Int).toNat))=false:=h'
    rw [e] at h'
    rw [h',cond_false] at hstep
    exact hstep.symm.trans hI
   ·show PV.val (.int .i64 (IntKind.i64.wrap ((i:Int)+1)))=PV.val (.int .i64 ((i+1:Nat):Int))
    rw [wrap64 (by omega) (by omega)]
    rfl
  ·have h:(n:Int)≤i:=ltF h
   rw [show n - i=0 by omega] at hI
   exact congrArg (fun z=>PV.val (.int .i64 z)) hI
 ·cases e
def c65_106:List PV→Option Ans
 |[.rs 6 n g,.fn (.func 106) [] [.rp 6 1 cc 0 0,.rp 6 1 dd 0 0,.rp 1 1 ee 0 0]]=>some ⟨some (isPL 10000 n g∧isC 10000 (cc 0)∧isC 10000 (dd 0)∧isI1 (ee 0)),.val (.bool (anyP (fun i=>sideB (rdP (cc 0)) (rdP (dd 0)) (rdI1 (ee 0)) (pts g i)) n)),[]⟩
 |_=>none
theorem f65_106:FnOk Tryz.prog 65 c65_106:=by
 refine FnOk.ofW orders (mkE_ok (l:=[(83,c83_106)]) (own:=[]) (inl:=[]) (by simp [f83_106]) (by simp)) Tryz.func65 {} 2 ok65 fun args r e=>?_
 unfold c65_106 at e
 split at e
 ·rename_i n g cc dd ee
  cases e
  refine⟨by simp,fun hm=>?_⟩
  have hp:=hm _ rfl
  refine⟨[],stOf [(0,.rs 6 n g),(1,.fn (.func 106) [] [.rp 6 1 cc 0 0,.rp 6 1 dd 0 0,.rp 1 1 ee 0 0])] [] 0 [],Wo trivial ⟨⟨rfl,rfl,fun i hi=>rfl⟩,⟨rfl,trivial,⟨rfl,rfl,rfl,rfl,fun _ _=>rfl⟩,⟨rfl,rfl,rfl,rfl,fun _ _=>rfl⟩,⟨rfl,rfl,rfl,rfl,fun _ _=>rfl⟩,qQ⟩,qQ⟩ trivial,?_⟩
  with_unfolding_all refine⟨hp,[],stOf [(4,.val (.bool (anyP (fun i=>sideB (rdP (cc 0)) (rdP (dd 0)) (rdI1 (ee 0)) (pts g i)) n)))] [] 0 [],Wo trivial ⟨?_,qQ⟩ trivial,rfl,rfl⟩
  exact congrArg (fun z=>PV.val (.bool z)) (ixP_any _ _)
 ·cases e
def c105:List PV→Option Ans
 |[.val (.int .i64 s),.rp 6 1 h 0 0,.rp 6 1 h' 0 0]=>some ⟨none,.fn (.func 106) [] [.rp 6 1 h 0 0,.rp 6 1 h' 0 0,.rp 1 1 (fun _=>[.val (.int .i64 s)]) 0 0],[]⟩
 |_=>none
theorem ok105:funcOk {} Tryz.f105 3=true:=by kernel_rfl
theorem f105:FnOk Tryz.prog 105 c105:=by
 refine FnOk.ofW orders (mkE_ok (l:=[]) (own:=[]) (inl:=[]) (by simp) (by simp)) Tryz.func105 {} 3 ok105 fun args r e=>?_
 unfold c105 at e
 split at e
 ·rename_i s h h'
  cases e
  refine⟨by simp,fun hm=>?_⟩
  refine⟨[],stOf [(0,.val (.int .i64 s)),(1,.rp 6 1 h 0 0),(2,.rp 6 1 h' 0 0)] [] 0 [],Wo trivial ⟨rfl,⟨rfl,rfl,rfl,rfl,fun _ _=>rfl⟩,⟨rfl,rfl,rfl,rfl,fun _ _=>rfl⟩,qQ⟩ trivial,?_⟩
  with_unfolding_all exact⟨[some 0],stOf [(4,.fn (.func 106) [] [.rp 6 1 h 0 0,.rp 6 1 h' 0 0,.ptr 0 0 0 0])] [⟨3,1,0,true,false,1,fun _=>[.val (.int .i64 s)]⟩] 1 [],Wo ⟨qY,qQ⟩ ⟨⟨rfl,trivial,⟨rfl,rfl,rfl,rfl,fun _ _=>rfl⟩,⟨rfl,rfl,rfl,rfl,fun _ _=>rfl⟩,pP,qQ⟩,qQ⟩ trivial,rfl,rfl⟩
 ·cases e
end Go.Proofs
namespace Go.Num
open Go Go.Ex Go.Proofs
def tightP (n:Nat) (p:Nat→PtS) (a b:PtS):Bool:=anyP (fun i=>eqP a (p i)) n&&!(anyP (fun i=>sideB a b 1 (p i)) n&&anyP (fun i=>sideB a b (-1) (p i)) n)
end Go.Num
namespace Go.Proofs
open Go Go.Ex Go.Num
set_option maxRecDepth 100000
def c104:List PV→Option Ans
 |[.rs 6 n g,.rp 6 1 h 0 0,.rp 6 1 h' 0 0]=>some ⟨some (isPL 10000 n g∧isC 10000 (h 0)∧isC 10000 (h' 0)),.val (.bool (tightP n (pts g) (rdP (h 0)) (rdP (h' 0)))),[]⟩
 |_=>none
theorem ok104:funcOk {} Tryz.f104 3=true:=by kernel_rfl
theorem f104:FnOk Tryz.prog 104 c104:=by
 refine FnOk.ofW orders (mkE_ok (l:=[(37,c37),(65,c65_106),(105,c105)]) (own:=[]) (inl:=[]) (by simp [f37,f65_106,f105]) (by simp)) Tryz.func104 {} 3 ok104 fun args r e=>?_
 unfold c104 at e
 split at e
 ·rename_i n g h h'
  cases e
  refine⟨by simp,fun hm=>?_⟩
  obtain⟨hg,⟨h1,ha⟩,h3,hb⟩:=hm _ rfl
  generalize rdP (h 0)=a at *
  generalize rdP (h' 0)=b at *
  refine⟨[],stOf [(0,.rs 6 n g),(1,.rp 6 1 (fun _=>a.cells) 0 0),(2,.rp 6 1 (fun _=>b.cells) 0 0)] [] 0 [],Wo trivial ⟨qW,⟨rfl,rfl,rfl,rfl,at0 h1⟩,⟨rfl,rfl,rfl,rfl,at0 h3⟩,qQ⟩ trivial,?_⟩
  have hg':isPL 4294967296 n g:=⟨fun i hi=>⟨(hg.1 i hi).1,(hg.1 i hi).2.mono (by decide)⟩,hg.2⟩
  have ha':=ha.mono (show 10000≤4294967296 by decide)
  have pS:∀s:Int,isPL 10000 n g∧isC 10000 a.cells∧isC 10000 b.cells∧isI1 [.val (.int .i64 s)]:=fun s=>⟨hg,⟨rfl,ha⟩,⟨rfl,hb⟩,rfl⟩
  obtain⟨X,hX⟩:∃X,X=tightP n (pts g) a b:=⟨_,rfl⟩
  rw [←hX]
  have v1:anyP (fun i=>eqP a (pts g i)) n=true→anyP (fun i=>sideB a b 1 (pts g i)) n=true→PV.val (.bool (!anyP (fun i=>sideB a b (-1) (pts g i)) n))=PV.val (.bool X):=fun h h'=>by
   rw [hX,tightP,h,h',Bool.true_and,Bool.true_and]
  have v2:anyP (fun i=>eqP a (pts g i)) n=true→anyP (fun i=>sideB a b 1 (pts g i)) n=false→PV.val (.bool true)=PV.val (.bool X):=fun h h'=>by
   rw [hX,tightP,h,h']
   rfl
  have v3:anyP (fun i=>eqP a (pts g i)) n=false→PV.val (.bool false)=PV.val (.bool X):=fun h=>by
   rw [hX,tightP,h]
   rfl
  with_unfolding_all exact⟨⟨hg',a,rfl,ha'⟩,fun h1=>⟨pS 1,fun h2=>⟨pS (-1),⟨[],stOf [(4,.val (.bool X))] [] 0 [],Wo trivial ⟨v1 h1 h2,qQ⟩ trivial,rfl,rfl⟩⟩,fun h2=>⟨[],stOf [(4,.val (.bool X))] [] 0 [],Wo trivial ⟨v2 h1 h2,qQ⟩ trivial,rfl,rfl⟩⟩,fun h1=>⟨[],stOf [(4,.val (.bool X))] [] 0 [],Wo trivial ⟨v3 h1,qQ⟩ trivial,rfl,rfl⟩⟩
 ·cases e
def c138:List PV→Option Ans
 |[.rs 1 k c,.fn (.func 104) [] [.rp 6 1 h 0 0,.rp 6 1 h' 0 0]]=>some ⟨some (isCL 10000 k c∧isC 10000 (h 0)∧isC 10000 (h' 0)),.val (.int .i64 (ixP (fun i=>tightP (pn c i) (pts (pg c i)) (rdP (h 0)) (rdP (h' 0))) k 0)),[]⟩
 |_=>none
theorem ok138:funcOk {} Tryz.f138 2=true:=by kernel_rfl
theorem f138:FnOk Tryz.prog 138 c138:=by
 refine FnOk.ofW orders (mkE_ok (l:=[(104,c104)]) (own:=[]) (inl:=[]) (by simp [f104]) (by simp)) Tryz.func138 {} 2 ok138 fun args r e=>?_
 unfold c138 at e
 split at e
 ·rename_i k c cc dd
  cases e
  refine⟨by simp,fun hm=>?_⟩
  obtain⟨⟨hc,hn⟩,h1,h2⟩:=hm _ rfl
  refine⟨[],stOf [(0,.rs 1 k (fun i=>[.rs 6 (pn c i) (pg c i)])),(1,.fn (.func 104) [] [.rp 6 1 cc 0 0,.rp 6 1 dd 0 0])] [] 0 [],Wo trivial ⟨⟨rfl,rfl,fun i hi=>(hc i hi).1.symm⟩,⟨rfl,trivial,⟨rfl,rfl,rfl,rfl,fun _ _=>rfl⟩,⟨rfl,rfl,rfl,rfl,fun _ _=>rfl⟩,qQ⟩,qQ⟩ trivial,?_⟩
  obtain⟨X,hX⟩:∃X,X=ixP (fun i=>tightP (pn c i) (pts (pg c i)) (rdP (cc 0)) (rdP (dd 0))) k 0:=⟨_,rfl⟩
  rw [←hX]
  with_unfolding_all refine⟨Nat,fun i=>i≤k∧ixP (fun i=>tightP (pn c i) (pts (pg c i)) (rdP (cc 0)) (rdP (dd 0))) (k - i) i=X,fun i=>stOf [(0,.rs 1 k (fun i=>[.rs 6 (pn c i) (pg c i)])),(1,.fn (.func 104) [] [.rp 6 1 cc 0 0,.rp 6 1 dd 0 0]),(7,.val (goInt k)),(8,.val (goInt i))] [] 0 [],fun i=>k - i,⟨0,[],⟨Nat.zero_le _,hX.symm⟩,Wo trivial ⟨qW,⟨rfl,trivial,⟨rfl,rfl,rfl,rfl,fun _ _=>rfl⟩,⟨rfl,rfl,rfl,rfl,fun _ _=>rfl⟩,qQ⟩,rfl,rfl,qQ⟩ trivial⟩,fun i hi=>?_⟩
  obtain⟨hin,hI⟩:i≤k∧ixP (fun i=>tightP (pn c i) (pts (pg c i)) (rdP (cc 0)) (rdP (dd 0))) (k - i) i=X:=hi
  with_unfolding_all refine⟨fun h=>?_,fun h=>⟨[],stOf [(4,.val (.int .i64 X))] [] 0 [],Wo trivial ⟨?_,qQ⟩ trivial,rfl,rfl⟩⟩
  ·have h:(i:Int) < k:=ltT h
   have e:(i:Int).toNat=i:=Int.toNat_natCast i
   have hstep:ixP (fun i=>tightP (pn c i) (pts (pg c i)) (rdP (cc 0)) (rdP (dd 0))) (k - i) i=bif tightP (pn c i) (pts (pg c i)) (rdP (cc 0)) (rdP (dd 0)) then(i:Int) else ixP (fun i=>tightP (pn c i) (pts (pg c i)) (rdP (cc 0)) (rdP (dd 0))) (k - (i+1)) (i+1):=by
    rw [show k - i=(k - (i+1))+1 by omega]
    rfl
   have hip:=(hc i (by omega)).2
   rw [←e] at hip
   with_unfolding_all refine⟨⟨by omega,by omega⟩,⟨hip,h1,h2⟩,fun h'=>⟨[],stOf [(4,.val (.int .i64 X))] [] 0 [],Wo trivial ⟨?_,qQ⟩ trivial,rfl,rfl⟩,fun h'=>⟨i+1,[],⟨by omega,?_⟩,by show k - (i+1) < k - i;omega,Wo trivial ⟨qW,⟨rfl,trivial,⟨rfl,rfl,rfl,rfl,fun _ _=>rfl⟩,⟨rfl,rfl,rfl,rfl,fun _ _=>rfl⟩,qQ⟩,rfl,?_,qQ⟩ trivial⟩⟩
   ·have h':tightP (pn c (i:Int).toNat) (pts (pg c (i:Int).toNat)) (rdP (cc 0)) (rdP (dd 0))=true:=h'
    rw [e] at h'
    rw [h',cond_true] at hstep
    exact congrArg (fun z=>PV.val (.int .i64 z)) (hstep.symm.trans hI)
   ·have h':tightP (pn c (i:Int).toNat) (pts (pg c (i:Int).toNat)) (rdP (cc 0)) (rdP (dd 0))=false:=h'
    rw [e] at h'
    rw [h',cond_false] at hstep
    exact hstep.symm.trans hI
   ·show PV.val (.int .i64 (IntKind.i64.wrap ((i:Int)+1)))=PV.val (.int .i64 ((i+1:Nat):Int))
    rw [wrap64 (by omega) (by omega)]
    rfl
  ·have h:(k:Int)≤i:=ltF h
   rw [show k - i=0 by omega] at hI
   exact congrArg (fun z=>PV.val (.int .i64 z)) hI
 ·cases e
def c103:List PV→Option Ans
 |[.rs 1 k c,.fn (.func 104) [] [.rp 6 1 h 0 0,.rp 6 1 h' 0 0]]=>some ⟨some (isCL 10000 k c∧isC 10000 (h 0)∧isC 10000 (h' 0)),.val (.bool (anyP (fun i=>tightP (pn c i) (pts (pg c i)) (rdP (h 0)) (rdP (h' 0))) k)),[]⟩
 |_=>none
theorem ok103:funcOk {} Tryz.f103 2=true:=by kernel_rfl
theorem f103:FnOk Tryz.prog 103 c103:=by
 refine FnOk.ofW orders (mkE_ok (l:=[(138,c138)]) (own:=[]) (inl:=[]) (by simp [f138]) (by simp)) Tryz.func103 {} 2 ok103 fun args r e=>?_
 unfold c103 at e
 split at e
 ·rename_i n g cc dd
  cases e
  refine⟨by simp,fun hm=>?_⟩
  have hp:=hm _ rfl
  refine⟨[],stOf [(0,.rs 1 n g),(1,.fn (.func 104) [] [.rp 6 1 cc 0 0,.rp 6 1 dd 0 0])] [] 0 [],Wo trivial ⟨⟨rfl,rfl,fun i hi=>rfl⟩,⟨rfl,trivial,⟨rfl,rfl,rfl,rfl,fun _ _=>rfl⟩,⟨rfl,rfl,rfl,rfl,fun _ _=>rfl⟩,qQ⟩,qQ⟩ trivial,?_⟩
  with_unfolding_all refine⟨hp,[],stOf [(4,.val (.bool (anyP (fun i=>tightP (pn g i) (pts (pg g i)) (rdP (cc 0)) (rdP (dd 0))) n)))] [] 0 [],Wo trivial ⟨?_,qQ⟩ trivial,rfl,rfl⟩
  exact congrArg (fun z=>PV.val (.bool z)) (ixP_any _ _)
 ·cases e
end Go.Proofs
namespace Go.Num
open Go Go.Ex Go.Proofs
theorem cmpct_all {p:Nat→PtS} {n:Nat} (h:∀i,i+1 < n→eqP (p (i+1)) (p i)=false):(cmpct p n).length=n∧∀t,t < n→vertP (cmpct p n) t=p t:=by
 rw [cmpct_run h]
 refine⟨by simp,fun t ht=>?_⟩
 unfold vertP
 simp [ht]
def cmpW (p:Nat→PtS) (n:Nat):Nat→PtS:=fun i=>if i < (cmpct p n).length then vertP (cmpct p n) i else p i
theorem cmpct_skip {p:Nat→PtS} {j:Nat} (h:eqP (p (j+1)) (p j)=true):cmpct p (j+2)=cmpct p (j+1):=by
 rw [cmpct,show j+1 - 1=j by omega,h]
 exact List.append_nil _
theorem cmpct_take {p:Nat→PtS} {j:Nat} (h:eqP (p (j+1)) (p j)=false):cmpct p (j+2)=cmpct p (j+1)++[p (j+1)]:=by
 rw [cmpct,show j+1 - 1=j by omega,h]
 simp
theorem cmpW_run {p:Nat→PtS} {n:Nat} (h:(cmpct p n).length=n∧∀t,t < n→vertP (cmpct p n) t=p t) (i:Nat):cmpW p n i=p i:=by
 unfold cmpW
 split
 ·rename_i hi
  rw [h.1] at hi
  exact h.2 i hi
 ·rfl
theorem cmpW_ge {p:Nat→PtS} {n i:Nat} (h:(cmpct p n).length≤i):cmpW p n i=p i:=if_neg (by omega)
theorem cmpW_take {p:Nat→PtS} {j:Nat} (h:eqP (p (j+1)) (p j)=false) (i:Nat):cmpW p (j+2) i=if i=(cmpct p (j+1)).length then p (j+1) else cmpW p (j+1) i:=by
 unfold cmpW
 rw [cmpct_take h,List.length_append]
 by_cases h1:i=(cmpct p (j+1)).length
 ·rw [if_pos h1,if_pos (by rw [h1];simp),h1]
  unfold vertP
  simp
 ·rw [if_neg h1]
  by_cases h2:i < (cmpct p (j+1)).length
  ·rw [if_pos h2,if_pos (by omega)]
   unfold vertP
   rw [List.getElem?_append_left h2]
  ·rw [if_neg h2,if_neg (by simp;omega)]
def cornL (lo hi:PtS) (k:Nat) (c:Nat→List PV) (l:Nat) (o:Nat→List PV):List PtS:=cmpct (vertP (srtP (vertC lo hi k c l o))) (vertC lo hi k c l o).length
theorem srtP_le {V:List PtS} (h:∀p∈V,p.le 10000) {i:Nat} (hi:i < V.length):(vertP (srtP V) i).le 10000:=vertP_le (fun p hp=>h p ((srtP_perm V).mem_iff.1 hp)) (by rw [srtP_size];exact hi)
theorem cornL_le {lo hi:PtS} {k:Nat} {c:Nat→List PV} {l:Nat} {o:Nat→List PV} (h:isCL 10000 k c):∀p∈cornL lo hi k c l o,p.le 10000:=fun p hp=>by
 obtain⟨i,hi,e⟩:=cmpct_mem hp
 rw [e]
 exact srtP_le (vertC_le h) hi
end Go.Num
namespace Go.Proofs
open Go Go.Ex Go.Num
set_option maxRecDepth 100000
def c57:List PV→Option Ans
 |[.agg [.val (.bool s1),.val (.string b1),.val (.string c1),.val (.bool s2),.val (.string b2),.val (.string c2),.val (.bool s3),.val (.string b3),.val (.string c3),.val (.bool s4),.val (.string b4),.val (.string c4),.rs 1 k c,.rs 3 l o]]=>some ⟨some (((PtS.le 10000 (PtS.mk ⟨s1,b1,c1⟩ ⟨s2,b2,c2⟩)∧PtS.le 10000 (PtS.mk ⟨s3,b3,c3⟩ ⟨s4,b4,c4⟩))∧isCL 10000 k c∧isOL l o)∧(vertC (PtS.mk ⟨s1,b1,c1⟩ ⟨s2,b2,c2⟩) (PtS.mk ⟨s3,b3,c3⟩ ⟨s4,b4,c4⟩) k c l o).length≤500),.rs 6 (cornL (PtS.mk ⟨s1,b1,c1⟩ ⟨s2,b2,c2⟩) (PtS.mk ⟨s3,b3,c3⟩ ⟨s4,b4,c4⟩) k c l o).length (fun i=>(vertP (cornL (PtS.mk ⟨s1,b1,c1⟩ ⟨s2,b2,c2⟩) (PtS.mk ⟨s3,b3,c3⟩ ⟨s4,b4,c4⟩) k c l o) i).cells),[]⟩
 |_=>none
theorem ok57:funcOk {} Tryz.f57 1=true:=by kernel_rfl
theorem f57:FnOk Tryz.prog 57 c57:=by
 refine FnOk.ofW orders (mkE_ok (l:=[(94,c94),(93,c93)]) (own:=[93]) (inl:=[(92,T92)]) (by simp [f94,f93]) (by simp [t92])) Tryz.func57 {} 1 ok57 fun args r e=>?_
 unfold c57 at e
 split at e
 ·rename_i s1 b1 c1 s2 b2 c2 s3 b3 c3 s4 b4 c4 k c l o
  cases e
  refine⟨by simp,fun hm=>?_⟩
  obtain⟨⟨⟨hlo,hhi⟩,⟨hc,hk⟩,ho,hl⟩,hn⟩:=hm _ rfl
  obtain⟨lo,hlo'⟩:∃p,p=(PtS.mk ⟨s1,b1,c1⟩ ⟨s2,b2,c2⟩):=⟨_,rfl⟩
  obtain⟨hi,hhi'⟩:∃p,p=(PtS.mk ⟨s3,b3,c3⟩ ⟨s4,b4,c4⟩):=⟨_,rfl⟩
  have hc1:∀i,i < k→[.rs 6 (pn c i) (pg c i)]=c i:=fun i hi=>(hc i hi).1.symm
  have ho1:∀i,i < l→cellsO (ow o i)=o i:=fun i hi=>(ho i hi).symm
  refine⟨[],stOf [(0,.agg [.val (.bool (PtS.mk ⟨s1,b1,c1⟩ ⟨s2,b2,c2⟩).x.s),.val (.string (PtS.mk ⟨s1,b1,c1⟩ ⟨s2,b2,c2⟩).x.b),.val (.string (PtS.mk ⟨s1,b1,c1⟩ ⟨s2,b2,c2⟩).x.c),.val (.bool (PtS.mk ⟨s1,b1,c1⟩ ⟨s2,b2,c2⟩).y.s),.val (.string (PtS.mk ⟨s1,b1,c1⟩ ⟨s2,b2,c2⟩).y.b),.val (.string (PtS.mk ⟨s1,b1,c1⟩ ⟨s2,b2,c2⟩).y.c),.val (.bool (PtS.mk ⟨s3,b3,c3⟩ ⟨s4,b4,c4⟩).x.s),.val (.string (PtS.mk ⟨s3,b3,c3⟩ ⟨s4,b4,c4⟩).x.b),.val (.string (PtS.mk ⟨s3,b3,c3⟩ ⟨s4,b4,c4⟩).x.c),.val (.bool (PtS.mk ⟨s3,b3,c3⟩ ⟨s4,b4,c4⟩).y.s),.val (.string (PtS.mk ⟨s3,b3,c3⟩ ⟨s4,b4,c4⟩).y.b),.val (.string (PtS.mk ⟨s3,b3,c3⟩ ⟨s4,b4,c4⟩).y.c),.rs 1 k (fun i=>[.rs 6 (pn c i) (pg c i)]),.rs 3 l (fun i=>cellsO (ow o i))])] [] 0 [],Wo trivial ⟨⟨rfl,rfl,rfl,rfl,rfl,rfl,rfl,rfl,rfl,rfl,rfl,rfl,⟨rfl,rfl,hc1⟩,⟨rfl,rfl,ho1⟩,qQ⟩,qQ⟩ trivial,?_⟩
  rw [←hlo'] at hlo hn ⊢
  rw [←hhi'] at hhi hn ⊢
  clear hlo' hhi' hm
  have hCL:isCL 10000 k (fun i=>[PV.rs 6 (pn c i) (pg c i)]):=⟨fun i hi=>⟨rfl,(hc i hi).2⟩,hk⟩
  have hOL:isOL l (fun i=>cellsO (ow o i)):=⟨fun i hi=>rfl,hl⟩
  have p93:(isG (fun _=>regC lo hi k (fun i=>[PV.rs 6 (pn c i) (pg c i)]) l (fun i=>cellsO (ow o i)))∧(lo.le 10000∧hi.le 10000)∧isCL 10000 k (fun i=>[PV.rs 6 (pn c i) (pg c i)])∧isOL l (fun i=>cellsO (ow o i)))∧(vertC lo hi k (fun i=>[PV.rs 6 (pn c i) (pg c i)]) l (fun i=>cellsO (ow o i))).length≤500:=⟨⟨rfl,⟨hlo,hhi⟩,hCL,hOL⟩,hn⟩
  have hVle:∀i,i < (vertC lo hi k (fun i=>[PV.rs 6 (pn c i) (pg c i)]) l (fun i=>cellsO (ow o i))).length→(vertP (srtP (vertC lo hi k (fun i=>[PV.rs 6 (pn c i) (pg c i)]) l (fun i=>cellsO (ow o i)))) i).le 10000:=fun i hi2=>srtP_le (vertC_le hCL) hi2
  have hn0:(vertC lo hi k (fun i=>[PV.rs 6 (pn c i) (pg c i)]) l (fun i=>cellsO (ow o i))).length≤500:=hn
  with_unfolding_all refine⟨⟨fun _ _=>rfl,fun _ _=>rfl⟩,p93,?_⟩
  have hrun:(∀i,i+1 < (vertC lo hi k (fun i=>[PV.rs 6 (pn c i) (pg c i)]) l (fun i=>cellsO (ow o i))).length→eqP ((vertP (srtP (vertC lo hi k (fun i=>[PV.rs 6 (pn c i) (pg c i)]) l (fun i=>cellsO (ow o i))))) (i+1)) ((vertP (srtP (vertC lo hi k (fun i=>[PV.rs 6 (pn c i) (pg c i)]) l (fun i=>cellsO (ow o i))))) i)=false)→(vertC lo hi k (fun i=>[PV.rs 6 (pn c i) (pg c i)]) l (fun i=>cellsO (ow o i))).length=(cmpct (vertP (srtP (vertC lo hi k (fun i=>[PV.rs 6 (pn c i) (pg c i)]) l (fun i=>cellsO (ow o i))))) (vertC lo hi k (fun i=>[PV.rs 6 (pn c i) (pg c i)]) l (fun i=>cellsO (ow o i))).length).length∧∀t,t < (cmpct (vertP (srtP (vertC lo hi k (fun i=>[PV.rs 6 (pn c i) (pg c i)]) l (fun i=>cellsO (ow o i))))) (vertC lo hi k (fun i=>[PV.rs 6 (pn c i) (pg c i)]) l (fun i=>cellsO (ow o i))).length).length→(vertP (cmpct (vertP (srtP (vertC lo hi k (fun i=>[PV.rs 6 (pn c i) (pg c i)]) l (fun i=>cellsO (ow o i))))) (vertC lo hi k (fun i=>[PV.rs 6 (pn c i) (pg c i)]) l (fun i=>cellsO (ow o i))).length) t).cells=((vertP (srtP (vertC lo hi k (fun i=>[PV.rs 6 (pn c i) (pg c i)]) l (fun i=>cellsO (ow o i))))) (0+t)).cells:=fun h=>by
   have h2:=cmpct_all h
   exact⟨h2.1.symm,fun t ht=>by rw [h2.2 t (by rw [h2.1] at ht;exact ht),Nat.zero_add]⟩
  have hsm:(vertC lo hi k (fun i=>[PV.rs 6 (pn c i) (pg c i)]) l (fun i=>cellsO (ow o i))).length < 2→∀i,i+1 < (vertC lo hi k (fun i=>[PV.rs 6 (pn c i) (pg c i)]) l (fun i=>cellsO (ow o i))).length→eqP ((vertP (srtP (vertC lo hi k (fun i=>[PV.rs 6 (pn c i) (pg c i)]) l (fun i=>cellsO (ow o i))))) (i+1)) ((vertP (srtP (vertC lo hi k (fun i=>[PV.rs 6 (pn c i) (pg c i)]) l (fun i=>cellsO (ow o i))))) i)=false:=fun h i hi2=>by omega
  have hlt:∀{m:Nat},decide ((m:Int) < 2)=true→m < 2:=fun h=>by
   have:=of_decide_eq_true h
   omega
  have hge:∀{m:Nat},decide ((m:Int) < 2)=false→0+1≤m:=fun h=>by
   have:=of_decide_eq_false h
   omega
  with_unfolding_all refine⟨Nat.le_refl 1,fun h=>⟨[],stOf [(2,.rs 6 (cmpct (vertP (srtP (vertC lo hi k (fun i=>[PV.rs 6 (pn c i) (pg c i)]) l (fun i=>cellsO (ow o i))))) (vertC lo hi k (fun i=>[PV.rs 6 (pn c i) (pg c i)]) l (fun i=>cellsO (ow o i))).length).length (fun i=>(vertP (cmpct (vertP (srtP (vertC lo hi k (fun i=>[PV.rs 6 (pn c i) (pg c i)]) l (fun i=>cellsO (ow o i))))) (vertC lo hi k (fun i=>[PV.rs 6 (pn c i) (pg c i)]) l (fun i=>cellsO (ow o i))).length) i).cells))] [] 0 [],Wo trivial ⟨⟨by simp,_,rfl,rfl,rfl,(hrun (hsm (hlt h))).1,(hrun (hsm (hlt h))).2⟩,qQ⟩ trivial,rfl,rfl⟩,fun h0=>⟨Nat,fun kk=>kk+1≤(vertC lo hi k (fun i=>[PV.rs 6 (pn c i) (pg c i)]) l (fun i=>cellsO (ow o i))).length∧∀i,i < kk→eqP ((vertP (srtP (vertC lo hi k (fun i=>[PV.rs 6 (pn c i) (pg c i)]) l (fun i=>cellsO (ow o i))))) (i+1)) ((vertP (srtP (vertC lo hi k (fun i=>[PV.rs 6 (pn c i) (pg c i)]) l (fun i=>cellsO (ow o i))))) i)=false,fun kk=>stOf [(0,.sl 0 0 0 (vertC lo hi k (fun i=>[PV.rs 6 (pn c i) (pg c i)]) l (fun i=>cellsO (ow o i))).length),(3,.val (.int .i64 ((kk:Int)+1)))] [⟨25,6,0,false,false,(vertC lo hi k (fun i=>[PV.rs 6 (pn c i) (pg c i)]) l (fun i=>cellsO (ow o i))).length,fun i=>((vertP (srtP (vertC lo hi k (fun i=>[PV.rs 6 (pn c i) (pg c i)]) l (fun i=>cellsO (ow o i))))) i).cells⟩] 1 [[]],fun kk=>(vertC lo hi k (fun i=>[PV.rs 6 (pn c i) (pg c i)]) l (fun i=>cellsO (ow o i))).length - kk,⟨0,[some 1],⟨hge h0,fun i hi2=>absurd hi2 (Nat.not_lt_zero i)⟩,Wo ⟨qZ (fun _ _=>rfl),qQ⟩ ⟨pP,rfl,qQ⟩ ⟨qQ,qQ⟩⟩,fun kk hkk=>?_⟩⟩
  obtain⟨hk1,hk2⟩:kk+1≤(vertC lo hi k (fun i=>[PV.rs 6 (pn c i) (pg c i)]) l (fun i=>cellsO (ow o i))).length∧∀i,i < kk→eqP ((vertP (srtP (vertC lo hi k (fun i=>[PV.rs 6 (pn c i) (pg c i)]) l (fun i=>cellsO (ow o i))))) (i+1)) ((vertP (srtP (vertC lo hi k (fun i=>[PV.rs 6 (pn c i) (pg c i)]) l (fun i=>cellsO (ow o i))))) i)=false:=hkk
  have eA:0+((kk:Int)+1).toNat=kk+1:=by omega
  have wA:IntKind.i64.wrap ((kk:Int)+1 - 1)=kk:=by rw [wrap64 (by omega) (by omega)];omega
  have eB:0+(IntKind.i64.wrap ((kk:Int)+1 - 1)).toNat=kk:=by rw [wA];omega
  have hb2:0≤IntKind.i64.wrap ((kk:Int)+1 - 1)∧IntKind.i64.wrap ((kk:Int)+1 - 1) < (vertC lo hi k (fun i=>[PV.rs 6 (pn c i) (pg c i)]) l (fun i=>cellsO (ow o i))).length:=by rw [wA];omega
  have hz:0≤(kk:Int)+1:=by omega
  have hpre:=cmpct_all (p:=(vertP (srtP (vertC lo hi k (fun i=>[PV.rs 6 (pn c i) (pg c i)]) l (fun i=>cellsO (ow o i)))))) (n:=kk+1) fun i hi2=>hk2 i (by omega)
  have hEq:∀z,eqP ((vertP (srtP (vertC lo hi k (fun i=>[PV.rs 6 (pn c i) (pg c i)]) l (fun i=>cellsO (ow o i))))) (0+((kk:Int)+1).toNat)) ((vertP (srtP (vertC lo hi k (fun i=>[PV.rs 6 (pn c i) (pg c i)]) l (fun i=>cellsO (ow o i))))) (0+(IntKind.i64.wrap ((kk:Int)+1 - 1)).toNat))=z→eqP ((vertP (srtP (vertC lo hi k (fun i=>[PV.rs 6 (pn c i) (pg c i)]) l (fun i=>cellsO (ow o i))))) (kk+1)) ((vertP (srtP (vertC lo hi k (fun i=>[PV.rs 6 (pn c i) (pg c i)]) l (fun i=>cellsO (ow o i))))) kk)=z:=fun z h=>by
   rw [eA,eB] at h
   exact h
  have hS:eqP ((vertP (srtP (vertC lo hi k (fun i=>[PV.rs 6 (pn c i) (pg c i)]) l (fun i=>cellsO (ow o i))))) (kk+1)) ((vertP (srtP (vertC lo hi k (fun i=>[PV.rs 6 (pn c i) (pg c i)]) l (fun i=>cellsO (ow o i))))) kk)=true→(cmpct (vertP (srtP (vertC lo hi k (fun i=>[PV.rs 6 (pn c i) (pg c i)]) l (fun i=>cellsO (ow o i))))) (kk+1+1)).length=kk+1:=fun h=>by rw [cmpct_skip h];exact hpre.1
  have v3:eqP ((vertP (srtP (vertC lo hi k (fun i=>[PV.rs 6 (pn c i) (pg c i)]) l (fun i=>cellsO (ow o i))))) (kk+1)) ((vertP (srtP (vertC lo hi k (fun i=>[PV.rs 6 (pn c i) (pg c i)]) l (fun i=>cellsO (ow o i))))) kk)=true→PV.val (.int .i64 ((kk:Int)+1))=PV.val (goInt ((cmpct (vertP (srtP (vertC lo hi k (fun i=>[PV.rs 6 (pn c i) (pg c i)]) l (fun i=>cellsO (ow o i))))) (kk+1+1)).length:Nat)):=fun h=>by
   rw [hS h]
   rfl
  have r3:eqP ((vertP (srtP (vertC lo hi k (fun i=>[PV.rs 6 (pn c i) (pg c i)]) l (fun i=>cellsO (ow o i))))) (kk+1)) ((vertP (srtP (vertC lo hi k (fun i=>[PV.rs 6 (pn c i) (pg c i)]) l (fun i=>cellsO (ow o i))))) kk)=true→∀i,i < (vertC lo hi k (fun i=>[PV.rs 6 (pn c i) (pg c i)]) l (fun i=>cellsO (ow o i))).length→(cmpW (vertP (srtP (vertC lo hi k (fun i=>[PV.rs 6 (pn c i) (pg c i)]) l (fun i=>cellsO (ow o i))))) (kk+1+1) i).cells=((vertP (srtP (vertC lo hi k (fun i=>[PV.rs 6 (pn c i) (pg c i)]) l (fun i=>cellsO (ow o i))))) i).cells:=fun h i _=>by
   have e:cmpW (vertP (srtP (vertC lo hi k (fun i=>[PV.rs 6 (pn c i) (pg c i)]) l (fun i=>cellsO (ow o i))))) (kk+1+1) i=cmpW (vertP (srtP (vertC lo hi k (fun i=>[PV.rs 6 (pn c i) (pg c i)]) l (fun i=>cellsO (ow o i))))) (kk+1) i:=by
    unfold cmpW
    rw [cmpct_skip h]
   rw [e,cmpW_run hpre]
  have vN:PV.val (.int .i64 (IntKind.i64.wrap ((kk:Int)+1+1)))=PV.val (.int .i64 (((kk+1:Nat):Int)+1)):=by
   rw [wrap64 (by omega) (by omega)]
   rfl
  have hlN:∀{x y:Nat},decide ((x:Int)+1 < (y:Int))=true→x+1 < y:=fun h=>by
   have:=of_decide_eq_true h
   omega
  have hgN:∀{x y:Nat},decide ((x:Int)+1 < (y:Int))=false→y≤x+1:=fun h=>by
   have:=of_decide_eq_false h
   omega
  have eLo:0+((kk:Int)+1).toNat=kk+1:=eA
  have eLn:(((vertC lo hi k (fun i=>[PV.rs 6 (pn c i) (pg c i)]) l (fun i=>cellsO (ow o i))).length:Int) - ((kk:Int)+1)).toNat=(vertC lo hi k (fun i=>[PV.rs 6 (pn c i) (pg c i)]) l (fun i=>cellsO (ow o i))).length - (kk+1):=by omega
  with_unfolding_all refine⟨fun h1=>⟨⟨hz,of_decide_eq_true h1⟩,hb2,fun h2=>⟨⟨hz,Int.le_of_lt (of_decide_eq_true h1),Int.le_refl _⟩,Nat,fun j=>1≤j∧kk+1+j≤(vertC lo hi k (fun i=>[PV.rs 6 (pn c i) (pg c i)]) l (fun i=>cellsO (ow o i))).length∧(cmpct (vertP (srtP (vertC lo hi k (fun i=>[PV.rs 6 (pn c i) (pg c i)]) l (fun i=>cellsO (ow o i))))) (kk+1+j)).length+1≤kk+1+j∧kk+1≤(cmpct (vertP (srtP (vertC lo hi k (fun i=>[PV.rs 6 (pn c i) (pg c i)]) l (fun i=>cellsO (ow o i))))) (kk+1+j)).length,fun j=>stOf [(0,.sl 0 0 0 (vertC lo hi k (fun i=>[PV.rs 6 (pn c i) (pg c i)]) l (fun i=>cellsO (ow o i))).length),(3,.val (goInt ((cmpct (vertP (srtP (vertC lo hi k (fun i=>[PV.rs 6 (pn c i) (pg c i)]) l (fun i=>cellsO (ow o i))))) (kk+1+j)).length:Nat))),(4,.sl 0 0 (kk+1) ((vertC lo hi k (fun i=>[PV.rs 6 (pn c i) (pg c i)]) l (fun i=>cellsO (ow o i))).length - (kk+1))),(5,.val (goInt (j:Nat)))] [⟨25,6,0,false,false,(vertC lo hi k (fun i=>[PV.rs 6 (pn c i) (pg c i)]) l (fun i=>cellsO (ow o i))).length,fun i=>(cmpW (vertP (srtP (vertC lo hi k (fun i=>[PV.rs 6 (pn c i) (pg c i)]) l (fun i=>cellsO (ow o i))))) (kk+1+j) i).cells⟩] 1 [[]],fun j=>(vertC lo hi k (fun i=>[PV.rs 6 (pn c i) (pg c i)]) l (fun i=>cellsO (ow o i))).length - j,⟨1,[some 0],⟨Nat.le_refl 1,by have:=hlN h1;omega,by rw [hS (hEq _ h2)];omega,by rw [hS (hEq _ h2)];omega⟩,Wo ⟨qZ (r3 (hEq _ h2)),qQ⟩ ⟨pP,v3 (hEq _ h2),⟨rfl,eLo,eLn,lt_ok rfl,_,rfl⟩,rfl,qQ⟩ ⟨qQ,qQ⟩⟩,fun j hj=>?_⟩,fun h2=>⟨kk+1,[some 0],⟨by have:=hlN h1;omega,fun i hi2=>(Nat.lt_succ_iff_lt_or_eq.1 hi2).elim (hk2 i) fun e=>by rw [e];exact hEq _ h2⟩,by have:=hlN h1;show(vertC lo hi k (fun i=>[PV.rs 6 (pn c i) (pg c i)]) l (fun i=>cellsO (ow o i))).length - (kk+1) < (vertC lo hi k (fun i=>[PV.rs 6 (pn c i) (pg c i)]) l (fun i=>cellsO (ow o i))).length - kk;omega,Wo ⟨qZ (fun _ _=>rfl),qQ⟩ ⟨pP,vN,qQ⟩ ⟨qQ,qQ⟩⟩⟩,fun h1=>⟨[],stOf [(2,.rs 6 (cmpct (vertP (srtP (vertC lo hi k (fun i=>[PV.rs 6 (pn c i) (pg c i)]) l (fun i=>cellsO (ow o i))))) (vertC lo hi k (fun i=>[PV.rs 6 (pn c i) (pg c i)]) l (fun i=>cellsO (ow o i))).length).length (fun i=>(vertP (cmpct (vertP (srtP (vertC lo hi k (fun i=>[PV.rs 6 (pn c i) (pg c i)]) l (fun i=>cellsO (ow o i))))) (vertC lo hi k (fun i=>[PV.rs 6 (pn c i) (pg c i)]) l (fun i=>cellsO (ow o i))).length) i).cells))] [] 0 [],Wo trivial ⟨⟨by simp,_,rfl,rfl,rfl,(hrun (fun i hi2=>hk2 i (by have:=hgN h1;omega))).1,(hrun (fun i hi2=>hk2 i (by have:=hgN h1;omega))).2⟩,qQ⟩ trivial,rfl,rfl⟩⟩
  obtain⟨hj1,hj2,hj3,hj4⟩:1≤j∧kk+1+j≤(vertC lo hi k (fun i=>[PV.rs 6 (pn c i) (pg c i)]) l (fun i=>cellsO (ow o i))).length∧(cmpct (vertP (srtP (vertC lo hi k (fun i=>[PV.rs 6 (pn c i) (pg c i)]) l (fun i=>cellsO (ow o i))))) (kk+1+j)).length+1≤kk+1+j∧kk+1≤(cmpct (vertP (srtP (vertC lo hi k (fun i=>[PV.rs 6 (pn c i) (pg c i)]) l (fun i=>cellsO (ow o i))))) (kk+1+j)).length:=hj
  have eC:kk+1+(j:Int).toNat=kk+1+j:=by omega
  have wC:IntKind.i64.wrap ((j:Int) - 1)=((j - 1:Nat):Int):=by rw [wrap64 (by omega) (by omega)];omega
  have eD:kk+1+(IntKind.i64.wrap ((j:Int) - 1)).toNat=kk+j:=by rw [wC];omega
  have bC:∀{y:Nat},decide ((j:Int) < (y:Int))=true→(0≤(j:Int)∧(j:Int) < (y:Int))∧0≤IntKind.i64.wrap ((j:Int) - 1)∧IntKind.i64.wrap ((j:Int) - 1) < (y:Int):=fun h=>by
   have:=of_decide_eq_true h
   rw [wC]
   omega
  have w1:cmpW (vertP (srtP (vertC lo hi k (fun i=>[PV.rs 6 (pn c i) (pg c i)]) l (fun i=>cellsO (ow o i))))) (kk+1+j) (kk+1+j)=(vertP (srtP (vertC lo hi k (fun i=>[PV.rs 6 (pn c i) (pg c i)]) l (fun i=>cellsO (ow o i))))) (kk+1+j):=cmpW_ge (by omega)
  have w2:cmpW (vertP (srtP (vertC lo hi k (fun i=>[PV.rs 6 (pn c i) (pg c i)]) l (fun i=>cellsO (ow o i))))) (kk+1+j) (kk+j)=(vertP (srtP (vertC lo hi k (fun i=>[PV.rs 6 (pn c i) (pg c i)]) l (fun i=>cellsO (ow o i))))) (kk+j):=cmpW_ge (by omega)
  have hE:∀z,eqP (cmpW (vertP (srtP (vertC lo hi k (fun i=>[PV.rs 6 (pn c i) (pg c i)]) l (fun i=>cellsO (ow o i))))) (kk+1+j) (kk+1+(j:Int).toNat)) (cmpW (vertP (srtP (vertC lo hi k (fun i=>[PV.rs 6 (pn c i) (pg c i)]) l (fun i=>cellsO (ow o i))))) (kk+1+j) (kk+1+(IntKind.i64.wrap ((j:Int) - 1)).toNat))=z→eqP ((vertP (srtP (vertC lo hi k (fun i=>[PV.rs 6 (pn c i) (pg c i)]) l (fun i=>cellsO (ow o i))))) (kk+j+1)) ((vertP (srtP (vertC lo hi k (fun i=>[PV.rs 6 (pn c i) (pg c i)]) l (fun i=>cellsO (ow o i))))) (kk+j))=z:=fun z h=>by
   rw [eC,eD,w1,w2,show kk+1+j=kk+j+1 by omega] at h
   exact h
  have hn:∀B:Bool,(!B)=true→B=false:=fun B h=>by simpa using h
  have hy:∀B:Bool,(!B)=false→B=true:=fun B h=>by simpa using h
  have eJ:kk+1+(j+1)=kk+j+2:=by omega
  have eJ0:kk+1+j=kk+j+1:=by omega
  have vJ:PV.val (.int .i64 (IntKind.i64.wrap ((j:Int)+1)))=PV.val (goInt ((j+1:Nat):Int)):=by
   rw [wrap64 (by omega) (by omega)]
   rfl
  have qS:eqP ((vertP (srtP (vertC lo hi k (fun i=>[PV.rs 6 (pn c i) (pg c i)]) l (fun i=>cellsO (ow o i))))) (kk+j+1)) ((vertP (srtP (vertC lo hi k (fun i=>[PV.rs 6 (pn c i) (pg c i)]) l (fun i=>cellsO (ow o i))))) (kk+j))=true→(cmpct (vertP (srtP (vertC lo hi k (fun i=>[PV.rs 6 (pn c i) (pg c i)]) l (fun i=>cellsO (ow o i))))) (kk+1+(j+1))).length=(cmpct (vertP (srtP (vertC lo hi k (fun i=>[PV.rs 6 (pn c i) (pg c i)]) l (fun i=>cellsO (ow o i))))) (kk+1+j)).length:=fun h=>by rw [eJ,eJ0,cmpct_skip h]
  have qT:eqP ((vertP (srtP (vertC lo hi k (fun i=>[PV.rs 6 (pn c i) (pg c i)]) l (fun i=>cellsO (ow o i))))) (kk+j+1)) ((vertP (srtP (vertC lo hi k (fun i=>[PV.rs 6 (pn c i) (pg c i)]) l (fun i=>cellsO (ow o i))))) (kk+j))=false→(cmpct (vertP (srtP (vertC lo hi k (fun i=>[PV.rs 6 (pn c i) (pg c i)]) l (fun i=>cellsO (ow o i))))) (kk+1+(j+1))).length=(cmpct (vertP (srtP (vertC lo hi k (fun i=>[PV.rs 6 (pn c i) (pg c i)]) l (fun i=>cellsO (ow o i))))) (kk+1+j)).length+1:=fun h=>by rw [eJ,eJ0,cmpct_take h,List.length_append];rfl
  have vS:eqP ((vertP (srtP (vertC lo hi k (fun i=>[PV.rs 6 (pn c i) (pg c i)]) l (fun i=>cellsO (ow o i))))) (kk+j+1)) ((vertP (srtP (vertC lo hi k (fun i=>[PV.rs 6 (pn c i) (pg c i)]) l (fun i=>cellsO (ow o i))))) (kk+j))=true→PV.val (goInt ((cmpct (vertP (srtP (vertC lo hi k (fun i=>[PV.rs 6 (pn c i) (pg c i)]) l (fun i=>cellsO (ow o i))))) (kk+1+j)).length:Nat))=PV.val (goInt ((cmpct (vertP (srtP (vertC lo hi k (fun i=>[PV.rs 6 (pn c i) (pg c i)]) l (fun i=>cellsO (ow o i))))) (kk+1+(j+1))).length:Nat)):=fun h=>by rw [qS h]
  have vT:eqP ((vertP (srtP (vertC lo hi k (fun i=>[PV.rs 6 (pn c i) (pg c i)]) l (fun i=>cellsO (ow o i))))) (kk+j+1)) ((vertP (srtP (vertC lo hi k (fun i=>[PV.rs 6 (pn c i) (pg c i)]) l (fun i=>cellsO (ow o i))))) (kk+j))=false→PV.val (.int .i64 (IntKind.i64.wrap (((cmpct (vertP (srtP (vertC lo hi k (fun i=>[PV.rs 6 (pn c i) (pg c i)]) l (fun i=>cellsO (ow o i))))) (kk+1+j)).length:Int)+1)))=PV.val (goInt ((cmpct (vertP (srtP (vertC lo hi k (fun i=>[PV.rs 6 (pn c i) (pg c i)]) l (fun i=>cellsO (ow o i))))) (kk+1+(j+1))).length:Nat)):=fun h=>by
   rw [qT h,wrap64 (by omega) (by omega)]
   rfl
  have rS:eqP ((vertP (srtP (vertC lo hi k (fun i=>[PV.rs 6 (pn c i) (pg c i)]) l (fun i=>cellsO (ow o i))))) (kk+j+1)) ((vertP (srtP (vertC lo hi k (fun i=>[PV.rs 6 (pn c i) (pg c i)]) l (fun i=>cellsO (ow o i))))) (kk+j))=true→∀i,i < (vertC lo hi k (fun i=>[PV.rs 6 (pn c i) (pg c i)]) l (fun i=>cellsO (ow o i))).length→(cmpW (vertP (srtP (vertC lo hi k (fun i=>[PV.rs 6 (pn c i) (pg c i)]) l (fun i=>cellsO (ow o i))))) (kk+1+(j+1)) i).cells=(cmpW (vertP (srtP (vertC lo hi k (fun i=>[PV.rs 6 (pn c i) (pg c i)]) l (fun i=>cellsO (ow o i))))) (kk+1+j) i).cells:=fun h i _=>by
   unfold cmpW
   rw [eJ,eJ0,cmpct_skip h]
  have rT:eqP ((vertP (srtP (vertC lo hi k (fun i=>[PV.rs 6 (pn c i) (pg c i)]) l (fun i=>cellsO (ow o i))))) (kk+j+1)) ((vertP (srtP (vertC lo hi k (fun i=>[PV.rs 6 (pn c i) (pg c i)]) l (fun i=>cellsO (ow o i))))) (kk+j))=false→∀i,i < (vertC lo hi k (fun i=>[PV.rs 6 (pn c i) (pg c i)]) l (fun i=>cellsO (ow o i))).length→(cmpW (vertP (srtP (vertC lo hi k (fun i=>[PV.rs 6 (pn c i) (pg c i)]) l (fun i=>cellsO (ow o i))))) (kk+1+(j+1)) i).cells=if i=0+((cmpct (vertP (srtP (vertC lo hi k (fun i=>[PV.rs 6 (pn c i) (pg c i)]) l (fun i=>cellsO (ow o i))))) (kk+1+j)).length:Int).toNat then(cmpW (vertP (srtP (vertC lo hi k (fun i=>[PV.rs 6 (pn c i) (pg c i)]) l (fun i=>cellsO (ow o i))))) (kk+1+j) (kk+1+(j:Int).toNat)).cells else(cmpW (vertP (srtP (vertC lo hi k (fun i=>[PV.rs 6 (pn c i) (pg c i)]) l (fun i=>cellsO (ow o i))))) (kk+1+j) i).cells:=fun h i _=>by
   rw [eJ,cmpW_take h,eC,w1,←eJ0,Nat.zero_add,Int.toNat_natCast]
   split<;>rfl
  with_unfolding_all refine⟨fun h3=>⟨(bC h3).1,(bC h3).2,fun h4=>⟨(bC h3).1,⟨Int.natCast_nonneg _,by have:=(bC h3).1;omega⟩,⟨j+1,[some 0],⟨by omega,by have:=(bC h3).1;omega,by rw [qT (hE _ (hn _ h4))];omega,by rw [qT (hE _ (hn _ h4))];omega⟩,by have:=(bC h3).1;show(vertC lo hi k (fun i=>[PV.rs 6 (pn c i) (pg c i)]) l (fun i=>cellsO (ow o i))).length - (j+1) < (vertC lo hi k (fun i=>[PV.rs 6 (pn c i) (pg c i)]) l (fun i=>cellsO (ow o i))).length - j;omega,Wo ⟨qZ (rT (hE _ (hn _ h4))),qQ⟩ ⟨pP,vT (hE _ (hn _ h4)),pP,vJ,qQ⟩ ⟨qQ,qQ⟩⟩⟩,fun h4=>⟨j+1,[some 0],⟨by omega,by have:=(bC h3).1;omega,by rw [qS (hE _ (hy _ h4))];omega,by rw [qS (hE _ (hy _ h4))];omega⟩,by have:=(bC h3).1;show(vertC lo hi k (fun i=>[PV.rs 6 (pn c i) (pg c i)]) l (fun i=>cellsO (ow o i))).length - (j+1) < (vertC lo hi k (fun i=>[PV.rs 6 (pn c i) (pg c i)]) l (fun i=>cellsO (ow o i))).length - j;omega,Wo ⟨qZ (rS (hE _ (hy _ h4))),qQ⟩ ⟨pP,vS (hE _ (hy _ h4)),pP,vJ,qQ⟩ ⟨qQ,qQ⟩⟩⟩,fun h3=>?_⟩
  have hjn:kk+1+j=(vertC lo hi k (fun i=>[PV.rs 6 (pn c i) (pg c i)]) l (fun i=>cellsO (ow o i))).length:=by
   have:∀{x y:Nat},decide ((x:Int) < (y:Int))=false→y≤x:=fun h=>by
    have:=of_decide_eq_false h
    omega
   have:=this h3
   omega
  have q0:(0:Int)≤((cmpct (vertP (srtP (vertC lo hi k (fun i=>[PV.rs 6 (pn c i) (pg c i)]) l (fun i=>cellsO (ow o i))))) (kk+1+j)).length:Nat):=Int.natCast_nonneg _
  have qn:(((cmpct (vertP (srtP (vertC lo hi k (fun i=>[PV.rs 6 (pn c i) (pg c i)]) l (fun i=>cellsO (ow o i))))) (kk+1+j)).length:Nat):Int)≤(vertC lo hi k (fun i=>[PV.rs 6 (pn c i) (pg c i)]) l (fun i=>cellsO (ow o i))).length:=by omega
  have eQ:((((cmpct (vertP (srtP (vertC lo hi k (fun i=>[PV.rs 6 (pn c i) (pg c i)]) l (fun i=>cellsO (ow o i))))) (kk+1+j)).length:Nat):Int) - 0).toNat=(cmpct (vertP (srtP (vertC lo hi k (fun i=>[PV.rs 6 (pn c i) (pg c i)]) l (fun i=>cellsO (ow o i))))) (vertC lo hi k (fun i=>[PV.rs 6 (pn c i) (pg c i)]) l (fun i=>cellsO (ow o i))).length).length:=by rw [hjn];omega
  have np:0 < (vertC lo hi k (fun i=>[PV.rs 6 (pn c i) (pg c i)]) l (fun i=>cellsO (ow o i))).length:=by omega
  with_unfolding_all refine⟨⟨q0,qn,Int.le_refl _⟩,np,⟨Int.le_refl 0,q0,qn⟩,⟨[],stOf [(2,.rs 6 (cmpct (vertP (srtP (vertC lo hi k (fun i=>[PV.rs 6 (pn c i) (pg c i)]) l (fun i=>cellsO (ow o i))))) (vertC lo hi k (fun i=>[PV.rs 6 (pn c i) (pg c i)]) l (fun i=>cellsO (ow o i))).length).length (fun i=>(vertP (cmpct (vertP (srtP (vertC lo hi k (fun i=>[PV.rs 6 (pn c i) (pg c i)]) l (fun i=>cellsO (ow o i))))) (vertC lo hi k (fun i=>[PV.rs 6 (pn c i) (pg c i)]) l (fun i=>cellsO (ow o i))).length) i).cells))] [] 0 [],Wo trivial ⟨⟨by simp,_,rfl,rfl,rfl,eQ,?_⟩,qQ⟩ trivial,rfl,rfl⟩⟩
  intro t ht
  have hq:((cmpct (vertP (srtP (vertC lo hi k (fun i=>[PV.rs 6 (pn c i) (pg c i)]) l (fun i=>cellsO (ow o i))))) (kk+1+j)).length)=(cmpct (vertP (srtP (vertC lo hi k (fun i=>[PV.rs 6 (pn c i) (pg c i)]) l (fun i=>cellsO (ow o i))))) (vertC lo hi k (fun i=>[PV.rs 6 (pn c i) (pg c i)]) l (fun i=>cellsO (ow o i))).length).length:=by rw [hjn]
  have ht2:t < (cmpct (vertP (srtP (vertC lo hi k (fun i=>[PV.rs 6 (pn c i) (pg c i)]) l (fun i=>cellsO (ow o i))))) (kk+1+j)).length:=by rw [hq];exact ht
  show(vertP (cmpct (vertP (srtP (vertC lo hi k (fun i=>[PV.rs 6 (pn c i) (pg c i)]) l (fun i=>cellsO (ow o i))))) (vertC lo hi k (fun i=>[PV.rs 6 (pn c i) (pg c i)]) l (fun i=>cellsO (ow o i))).length) t).cells=if 0+((((cmpct (vertP (srtP (vertC lo hi k (fun i=>[PV.rs 6 (pn c i) (pg c i)]) l (fun i=>cellsO (ow o i))))) (kk+1+j)).length:Nat):Int)).toNat≤0+Int.toNat 0+t∧_ then _ else(cmpW (vertP (srtP (vertC lo hi k (fun i=>[PV.rs 6 (pn c i) (pg c i)]) l (fun i=>cellsO (ow o i))))) (kk+1+j) (0+Int.toNat 0+t)).cells
  rw [if_neg (fun h=>by have:=h.1;simp only [Int.toNat_natCast] at this;omega),show 0+Int.toNat 0+t=t by simp]
  unfold cmpW
  rw [if_pos ht2,hjn]
 ·cases e
end Go.Proofs
namespace Go.Num
open Go Go.Ex Go.Proofs
def isRg (K:Nat) (xs:List PV):Prop:=xs=regC (gLo xs) (gHi xs) (gK xs) (gC xs) (gL xs) (gO xs)∧((gLo xs).le K∧(gHi xs).le K)∧isCL K (gK xs) (gC xs)∧isOL (gL xs) (gO xs)
def tightE (k:Nat) (c:Nat→List PV) (g:Nat→PtS) (e o:Int):Bool:=decide (e < 2)||anyP (fun i=>tightP (pn c i) (pts (pg c i)) (g e.toNat) (g o.toNat)) k
end Go.Num
namespace Go.Proofs
open Go Go.Ex Go.Num
set_option maxRecDepth 100000
def c69:List PV→Option Ans
 |[.agg xs,.agg [.rs 6 n g,.rs 2 m h],.val (.int .i64 e),.val (.int .i64 o)]=>some ⟨some (isRg 10000 xs∧isPL 10000 n g∧(0≤e∧e < n)∧0≤o∧o < n),.val (.bool (tightE (gK xs) (gC xs) (pts g) e o)),[]⟩
 |_=>none
def D69:Opt:={ perm:=atTs [(3,(.rd 0 (.rd 1 (.rd 2 (.rd 3 (.rd 4 (.rd 5 (.rd 6 (.rd 7 (.rd 8 (.rd 9 (.alt 10 (.mk 11 .nil) (.mk 11 (.mk 10 .nil))))))))))))))] }
theorem ok69:funcOk D69.toOrd Tryz.f69 4=true:=by kernel_rfl
theorem f69:FnOk Tryz.prog 69 c69:=by
 refine FnOk.ofW orders (mkE_ok (l:=[(103,c103)]) (own:=[]) (inl:=[]) (by simp [f103]) (by simp)) Tryz.func69 D69 4 ok69 fun args r e=>?_
 unfold c69 at e
 split at e
 ·rename_i xs n g m h e o
  cases e
  refine⟨by simp,fun hm=>?_⟩
  obtain⟨⟨h1,⟨hlo,hhi⟩,hcl,hol⟩,hg,he,ho⟩:=hm _ rfl
  generalize gLo xs=lo at *
  generalize gHi xs=hi at *
  generalize gK xs=k at *
  generalize gC xs=c at *
  generalize gL xs=l at *
  generalize gO xs=w at *
  subst h1
  clear hm
  refine⟨[],stOf [(0,.agg (regC lo hi k c l w)),(1,.agg [.rs 6 n (fun i=>(pts g i).cells),.rs 2 m h]),(2,.val (.int .i64 e)),(3,.val (.int .i64 o))] [] 0 [],Wo trivial ⟨⟨rfl,rfl,rfl,rfl,rfl,rfl,rfl,rfl,rfl,rfl,rfl,rfl,qW,qW,qQ⟩,⟨⟨rfl,rfl,fun i hi=>(hg.1 i hi).1.symm⟩,qW,qQ⟩,rfl,rfl,qQ⟩ trivial,?_⟩
  obtain⟨X,hX⟩:∃X,X=tightE k c (pts g) e o:=⟨_,rfl⟩
  rw [←hX]
  have v1:decide (e < 2)=true→PV.val (.bool true)=PV.val (.bool X):=fun h=>by rw [hX,tightE,h];rfl
  have v2:decide (e < 2)=false→PV.val (.bool (anyP (fun i=>tightP (pn c i) (pts (pg c i)) (pts g e.toNat) (pts g o.toNat)) k))=PV.val (.bool X):=fun h=>by rw [hX,tightE,h];rfl
  have cg:∀i:Int,0≤i∧i < n→isC 10000 (pts g i.toNat).cells:=fun i h=>⟨rfl,(hg.1 i.toNat (by omega)).2⟩
  have pre:isCL 10000 k (fun i=>[.rs 6 (pn c i) (pg c i)])∧isC 10000 (pts g e.toNat).cells∧isC 10000 (pts g o.toNat).cells:=⟨⟨fun i hi=>⟨rfl,(hcl.1 i hi).2⟩,hcl.2⟩,cg e he,cg o ho⟩
  with_unfolding_all exact⟨fun h1=>⟨[],stOf [(8,.val (.bool X))] [] 0 [],Wo trivial ⟨v1 h1,qQ⟩ trivial,rfl,rfl⟩,fun h1=>⟨he,ho,⟨pre,[],stOf [(8,.val (.bool X))] [] 0 [],Wo trivial ⟨v2 h1,qQ⟩ trivial,rfl,rfl⟩,pre,[],stOf [(8,.val (.bool X))] [] 0 [],Wo trivial ⟨v2 h1,qQ⟩ trivial,rfl,rfl⟩⟩
 ·cases e
end Go.Proofs
namespace Go.Num
open Go Go.Ex Go.Proofs
theorem dgt {n:Nat} (k:Nat):decide (((n:Nat):Int) > (k:Int))=decide (k < n):=by
 rw [decide_eq_decide]
 omega
theorem dlt {n:Nat} (k:Nat):decide (((n:Nat):Int) < (k:Int))=decide (n < k):=by
 rw [decide_eq_decide]
 omega
def grtR (n:Nat) (p:Nat→PtS):Bool:=(decide (10 < n)&&decide (n < 63)||decide (66 < n))||anyP (fun i=>bigP (p i)) n
def grtF (lo hi:PtS) (k:Nat) (n:Nat→Nat) (p:Nat→Nat→PtS) (l:Nat):Bool:=(bigP lo||bigP hi||decide (40 < l))||anyP (fun i=>grtR (n i) (p i)) k||(decide (k≤32)&&(decide (6 < k)||decide (24 < sumN n k))||decide (35 < k))
theorem grtR_le {n:Nat} {p:Nat→PtS} (h:grtR n p=false):n≤66:=by
 unfold grtR at h
 simp only [Bool.or_eq_false_iff,decide_eq_false_iff_not] at h
 omega
end Go.Num
namespace Go.Proofs
open Go Go.Ex Go.Num
set_option maxRecDepth 100000
def c86:List PV→Option Ans
 |[.val v]=>some ⟨some (isPk 140737488355328 v),.val (.bool (bigP (rdV v))),[]⟩
 |_=>none
def D86:Opt:={  }
theorem ok86:funcOk D86.toOrd Tryz.f86 1=true:=by kernel_rfl
theorem f86:FnOk Tryz.prog 86 c86:=by
 refine FnOk.ofW orders (mkE_ok (l:=[]) (own:=[]) (inl:=[]) (by simp []) (by simp)) Tryz.func86 D86 1 ok86 fun args r e=>?_
 unfold c86 at e
 split at e
 ·rename_i v
  cases e
  refine⟨by simp,fun hm=>?_⟩
  obtain⟨p,rfl,hp⟩:=hm _ rfl
  refine⟨[],stOf [(0,.val p.v)] [] 0 [],Wo trivial ⟨rfl,qQ⟩ trivial,?_⟩
  obtain⟨X,hX⟩:∃X,X=bigP p:=⟨_,rfl⟩
  have hx:bigP (rdV p.v)=X:=hX.symm
  rw [hx]
  have e:X=((decide ((((p.x.b).size:Nat):Int) > 12)||decide ((((p.x.c).size:Nat):Int) > 12))||(decide ((((p.y.b).size:Nat):Int) > 12)||decide ((((p.y.c).size:Nat):Int) > 12))):=by rw [hX,bigP,bigR,bigR,←dgt 12,←dgt 12,←dgt 12,←dgt 12];rfl
  have v4:decide ((((p.x.b).size:Nat):Int) > 12)=false→decide ((((p.x.c).size:Nat):Int) > 12)=false→decide ((((p.y.b).size:Nat):Int) > 12)=false→PV.val (.bool (decide ((((p.y.c).size:Nat):Int) > 12)))=PV.val (.bool X):=fun h1 h2 h3=>by rw [e,h1,h2,h3];rfl
  have v3:decide ((((p.y.b).size:Nat):Int) > 12)=true→PV.val (.bool true)=PV.val (.bool X):=fun h=>by rw [e,h,Bool.true_or,Bool.or_true]
  have v2:decide ((((p.x.c).size:Nat):Int) > 12)=true→PV.val (.bool true)=PV.val (.bool X):=fun h=>by rw [e,h,Bool.or_true,Bool.true_or]
  have v1:decide ((((p.x.b).size:Nat):Int) > 12)=true→PV.val (.bool true)=PV.val (.bool X):=fun h=>by rw [e,h,Bool.true_or,Bool.true_or]
  with_unfolding_all exact⟨fun h1=>⟨fun h2=>⟨fun h3=>⟨[],stOf [(2,.val (.bool X))] [] 0 [],Wo trivial ⟨v4 h1 h2 h3,qQ⟩ trivial,rfl,rfl⟩,fun h3=>⟨[],stOf [(2,.val (.bool X))] [] 0 [],Wo trivial ⟨v3 h3,qQ⟩ trivial,rfl,rfl⟩⟩,fun h2=>⟨fun h=>(nomatch h),fun _=>⟨[],stOf [(2,.val (.bool X))] [] 0 [],Wo trivial ⟨v2 h2,qQ⟩ trivial,rfl,rfl⟩⟩⟩,fun h1=>⟨fun h=>(nomatch h),fun _=>⟨fun h=>(nomatch h),fun _=>⟨[],stOf [(2,.val (.bool X))] [] 0 [],Wo trivial ⟨v1 h1,qQ⟩ trivial,rfl,rfl⟩⟩⟩⟩
 ·cases e
def c87:List PV→Option Ans
 |[.rs 6 n g]=>some ⟨some (isPL 140737488355328 n g),.val (.bool (grtR n (pts g))),[]⟩
 |_=>none
def D87:Opt:={  }
theorem ok87:funcOk D87.toOrd Tryz.f87 1=true:=by kernel_rfl
theorem f87:FnOk Tryz.prog 87 c87:=by
 refine FnOk.ofW orders (mkE_ok (l:=[(86,c86)]) (own:=[]) (inl:=[]) (by simp [f86]) (by simp)) Tryz.func87 D87 1 ok87 fun args r e=>?_
 unfold c87 at e
 split at e
 ·rename_i n g
  cases e
  refine⟨by simp,fun hm=>?_⟩
  obtain⟨hg,hn⟩:=hm _ rfl
  refine⟨[],stOf [(0,.rs 6 n (fun i=>(pts g i).cells))] [] 0 [],Wo trivial ⟨⟨rfl,rfl,fun i hi=>(hg i hi).1.symm⟩,qQ⟩ trivial,?_⟩
  obtain⟨X,hX⟩:∃X,X=grtR n (pts g):=⟨_,rfl⟩
  rw [←hX]
  have e:X=((decide ((n:Int) > 10)&&decide ((n:Int) < 63)||decide ((n:Int) > 66))||anyP (fun i=>bigP (pts g i)) n):=by rw [hX,grtR,←dgt 10,←dgt 66,←dlt 63];rfl
  have z:∀a b c:Bool,(a&&b||c)=true→(a&&b||c||anyP (fun i=>bigP (pts g i)) n)=true:=fun a b c h=>by rw [h];rfl
  have v1:∀c:Bool,c=(decide ((n:Int) > 10)&&decide ((n:Int) < 63)||decide ((n:Int) > 66))→c=true→PV.val (.bool true)=PV.val (.bool X):=fun c h h'=>by rw [e,←h,h'];rfl
  have m1:decide ((n:Int) > 10)=true→decide ((n:Int) < 63)=false→decide ((n:Int) > 66)=true→(decide ((n:Int) > 10)&&decide ((n:Int) < 63)||decide ((n:Int) > 66))=true:=fun a b c=>by rw [c,Bool.or_true]
  have m2:decide ((n:Int) > 10)=true→decide ((n:Int) < 63)=true→(decide ((n:Int) > 10)&&decide ((n:Int) < 63)||decide ((n:Int) > 66))=true:=fun a b=>by rw [a,b];rfl
  have m3:decide ((n:Int) > 66)=true→(decide ((n:Int) > 10)&&decide ((n:Int) < 63)||decide ((n:Int) > 66))=true:=fun a=>by rw [a,Bool.or_true]
  have m4:decide ((n:Int) < 63)=false→decide ((n:Int) > 66)=false→(decide ((n:Int) > 10)&&decide ((n:Int) < 63)||decide ((n:Int) > 66))=false:=fun a b=>by rw [a,b,Bool.and_false];rfl
  have m5:decide ((n:Int) > 10)=false→decide ((n:Int) > 66)=false→(decide ((n:Int) > 10)&&decide ((n:Int) < 63)||decide ((n:Int) > 66))=false:=fun a b=>by rw [a,b];rfl
  have v2:(decide ((n:Int) > 10)&&decide ((n:Int) < 63)||decide ((n:Int) > 66))=true→PV.val (.bool true)=PV.val (.bool X):=fun h=>by rw [e,h];rfl
  have rT:∀i:Nat,(i:Int) < n→bigP (pts g (i:Int).toNat)=true→PV.val (.bool true)=PV.val (.bool X):=fun i hi h=>by
   rw [Int.toNat_natCast] at h
   rw [e,anyP_true.2 ⟨i,by omega,h⟩,Bool.or_true]
  have rN:∀i:Nat,(∀j,j < i→bigP (pts g j)=false)→bigP (pts g (i:Int).toNat)=false→∀j,j < i+1→bigP (pts g j)=false:=fun i hI h j hj=>by
   rw [Int.toNat_natCast] at h
   rcases Nat.lt_or_ge j i with h' | h'
   ·exact hI j h'
   ·obtain rfl:j=i:=by omega
    exact h
  have rF:∀i:Nat,(decide ((n:Int) > 10)&&decide ((n:Int) < 63)||decide ((n:Int) > 66))=false→(∀j,j < i→bigP (pts g j)=false)→(n:Int)≤i→PV.val (.bool false)=PV.val (.bool X):=fun i h hI hi=>by
   rw [e,h,anyP_false.2 fun j hj=>hI j (by omega)]
   rfl
  have wi:∀i:Nat,(i:Int) < n→PV.val (.int .i64 (IntKind.i64.wrap ((i:Int)+1)))=PV.val (.int .i64 ((i+1:Nat):Int)):=fun i h=>by
   rw [wrap64 (by omega) (by omega)]
   rfl
  have pk:∀i:Nat,(i:Int) < n→isPk 140737488355328 (pts g (i:Int).toNat).v:=fun i h=>⟨_,rfl,(hg (i:Int).toNat (by omega)).2⟩
  have mu:∀i:Nat,(i:Int) < n→n - (i+1) < n - i:=fun i h=>by omega
  have le:∀i:Nat,(i:Int) < n→i+1≤n:=fun i h=>by omega
  with_unfolding_all exact⟨fun h1=>⟨fun h2=>⟨fun h3=>⟨[],stOf [(2,.val (.bool X))] [] 0 [],Wo trivial ⟨v2 (m1 h1 h2 h3),qQ⟩ trivial,rfl,rfl⟩,fun h3=>⟨Nat,fun i=>(decide ((n:Int) > 10)&&decide ((n:Int) < 63)||decide ((n:Int) > 66))=false∧i≤n∧∀j,j < i→bigP (pts g j)=false,fun i=>stOf [(0,.rs 6 n (fun i=>(pts g i).cells)),(3,.val (goInt i))] [] 0 [],fun i=>n - i,⟨0,[],⟨m4 h2 h3,Nat.zero_le _,fun j hj=>absurd hj (Nat.not_lt_zero j)⟩,Wo trivial ⟨qW,rfl,qQ⟩ trivial⟩,fun i hi=>⟨fun h1=>⟨⟨Int.natCast_nonneg i,ltT h1⟩,pk i (ltT h1),fun h2=>⟨[],stOf [(2,.val (.bool X))] [] 0 [],Wo trivial ⟨rT i (ltT h1) h2,qQ⟩ trivial,rfl,rfl⟩,fun h2=>⟨i+1,[],⟨hi.1,le i (ltT h1),rN i hi.2.2 h2⟩,mu i (ltT h1),Wo trivial ⟨qW,wi i (ltT h1),qQ⟩ trivial⟩⟩,fun h1=>⟨[],stOf [(2,.val (.bool X))] [] 0 [],Wo trivial ⟨rF i hi.1 hi.2.2 (ltF h1),qQ⟩ trivial,rfl,rfl⟩⟩⟩⟩,fun h2=>⟨fun _=>⟨[],stOf [(2,.val (.bool X))] [] 0 [],Wo trivial ⟨v2 (m2 h1 h2),qQ⟩ trivial,rfl,rfl⟩,fun h=>(nomatch h)⟩⟩,fun h1=>⟨fun _=>⟨fun h3=>⟨[],stOf [(2,.val (.bool X))] [] 0 [],Wo trivial ⟨v2 (m3 h3),qQ⟩ trivial,rfl,rfl⟩,fun h3=>⟨Nat,fun i=>(decide ((n:Int) > 10)&&decide ((n:Int) < 63)||decide ((n:Int) > 66))=false∧i≤n∧∀j,j < i→bigP (pts g j)=false,fun i=>stOf [(0,.rs 6 n (fun i=>(pts g i).cells)),(3,.val (goInt i))] [] 0 [],fun i=>n - i,⟨0,[],⟨m5 h1 h3,Nat.zero_le _,fun j hj=>absurd hj (Nat.not_lt_zero j)⟩,Wo trivial ⟨qW,rfl,qQ⟩ trivial⟩,fun i hi=>⟨fun h1=>⟨⟨Int.natCast_nonneg i,ltT h1⟩,pk i (ltT h1),fun h2=>⟨[],stOf [(2,.val (.bool X))] [] 0 [],Wo trivial ⟨rT i (ltT h1) h2,qQ⟩ trivial,rfl,rfl⟩,fun h2=>⟨i+1,[],⟨hi.1,le i (ltT h1),rN i hi.2.2 h2⟩,mu i (ltT h1),Wo trivial ⟨qW,wi i (ltT h1),qQ⟩ trivial⟩⟩,fun h1=>⟨[],stOf [(2,.val (.bool X))] [] 0 [],Wo trivial ⟨rF i hi.1 hi.2.2 (ltF h1),qQ⟩ trivial,rfl,rfl⟩⟩⟩⟩,fun h=>(nomatch h)⟩⟩
 ·cases e
def c50:List PV→Option Ans
 |[.agg xs]=>some ⟨some (isRg 140737488355328 xs),.val (.bool (grtF (gLo xs) (gHi xs) (gK xs) (pn (gC xs)) (fun i=>pts (pg (gC xs) i)) (gL xs))),[]⟩
 |_=>none
def D50:Opt:={  }
theorem ok50:funcOk D50.toOrd Tryz.f50 1=true:=by kernel_rfl
theorem f50:FnOk Tryz.prog 50 c50:=by
 refine FnOk.ofW orders (mkE_ok (l:=[(86,c86),(87,c87)]) (own:=[]) (inl:=[]) (by simp [f86,f87]) (by simp)) Tryz.func50 D50 1 ok50 fun args r e=>?_
 unfold c50 at e
 split at e
 ·rename_i xs
  cases e
  refine⟨by simp,fun hm=>?_⟩
  obtain⟨h1,⟨hlo,hhi⟩,hcl,hol⟩:=hm _ rfl
  generalize gLo xs=lo at *
  generalize gHi xs=hi at *
  generalize gK xs=k at *
  generalize gC xs=c at *
  generalize gL xs=l at *
  generalize gO xs=o at *
  subst h1
  clear hm
  refine⟨[],stOf [(0,.agg (regC lo hi k c l o))] [] 0 [],Wo trivial ⟨⟨rfl,rfl,rfl,rfl,rfl,rfl,rfl,rfl,rfl,rfl,rfl,rfl,qW,qW,qQ⟩,qQ⟩ trivial,?_⟩
  obtain⟨X,hX⟩:∃X,X=grtF lo hi k (pn c) (fun i=>pts (pg c i)) l:=⟨_,rfl⟩
  rw [←hX]
  have e:X=(((bigP lo||bigP hi)||decide ((l:Int) > 40))||anyP (fun i=>grtR (pn c i) (pts (pg c i))) k||(decide (k≤32)&&(decide (6 < k)||decide (24 < sumN (pn c) k))||decide (35 < k))):=by rw [hX,grtF,←dgt 40];rfl
  have v1:∀A B C:Bool,((A||B)||C)=((bigP lo||bigP hi)||decide ((l:Int) > 40))→((A||B)||C)=true→PV.val (.bool true)=PV.val (.bool X):=fun A B C h h'=>by rw [e,←h,h',Bool.true_or,Bool.true_or]
  have t1:bigP lo=true→((bigP lo||bigP hi)||decide ((l:Int) > 40))=true:=fun h=>by rw [h];rfl
  have t2:bigP hi=true→((bigP lo||bigP hi)||decide ((l:Int) > 40))=true:=fun h=>by rw [h,Bool.or_true];rfl
  have t3:decide ((l:Int) > 40)=true→((bigP lo||bigP hi)||decide ((l:Int) > 40))=true:=fun h=>by rw [h,Bool.or_true]
  have t4:bigP lo=false→bigP hi=false→decide ((l:Int) > 40)=false→((bigP lo||bigP hi)||decide ((l:Int) > 40))=false:=fun h h' h2=>by rw [h,h',h2];rfl
  have v0:((bigP lo||bigP hi)||decide ((l:Int) > 40))=true→PV.val (.bool true)=PV.val (.bool X):=fun h=>by rw [e,h,Bool.true_or,Bool.true_or]
  have pl:isPk 140737488355328 lo.v:=⟨_,rfl,hlo⟩
  have ph:isPk 140737488355328 hi.v:=⟨_,rfl,hhi⟩
  have hk47:k≤140737488355328:=hcl.2
  with_unfolding_all refine⟨pl,fun h1=>⟨ph,fun h2=>⟨fun h3=>⟨[],stOf [(2,.val (.bool X))] [] 0 [],Wo trivial ⟨v0 (t3 h3),qQ⟩ trivial,rfl,rfl⟩,fun h3=>⟨Nat,fun i=>((bigP lo||bigP hi)||decide ((l:Int) > 40))=false∧i≤k∧∀j,j < i→grtR (pn c j) (pts (pg c j))=false,fun i=>stOf [(1,.ptr 0 0 0 0),(3,.val (goInt (sumN (pn c) i))),(4,.val (goInt i))] [⟨31,14,0,true,false,1,fun _=>regC lo hi k c l o⟩] 1 [],fun i=>k - i,⟨0,[some 0],⟨t4 h1 h2 h3,Nat.zero_le _,fun j hj=>absurd hj (Nat.not_lt_zero j)⟩,Wo ⟨qZ ⟨rq,rq,rq,rq,rq,rq,rq,rq,rq,rq,rq,rq,⟨qW,rfl⟩,⟨qW,rfl⟩,qQ⟩,qQ⟩ ⟨pP,rfl,rfl,qQ⟩ trivial⟩,fun i hI0=>?_⟩⟩,fun h2=>⟨fun _=>⟨[],stOf [(2,.val (.bool X))] [] 0 [],Wo trivial ⟨v0 (t2 h2),qQ⟩ trivial,rfl,rfl⟩,fun h=>(nomatch h)⟩⟩,fun h1=>⟨fun h=>(nomatch h),fun _=>⟨fun _=>⟨[],stOf [(2,.val (.bool X))] [] 0 [],Wo trivial ⟨v0 (t1 h1),qQ⟩ trivial,rfl,rfl⟩,fun h=>(nomatch h)⟩⟩⟩
  obtain⟨ha,hik,hI⟩:((bigP lo||bigP hi)||decide ((l:Int) > 40))=false∧i≤k∧∀j,j < i→grtR (pn c j) (pts (pg c j))=false:=hI0
  have hsum:∀j,j≤i→sumN (pn c) j≤66*j:=fun j=>by
   induction j with
   |zero=>intro _;exact Nat.le_refl _
   |succ j ih =>
    intro hj
    have h1:=ih (by omega)
    have h2:=grtR_le (hI j (by omega))
    unfold sumN
    omega
  have hs:=hsum i (Nat.le_refl _)
  have e1:decide (k≤32)=decide ((k:Int)≤32):=by
   rw [decide_eq_decide]
   omega
  have e':i=k→X=(anyP (fun i=>grtR (pn c i) (pts (pg c i))) k||(decide ((k:Int)≤32)&&(decide ((k:Int) > 6)||decide (((sumN (pn c) i:Nat):Int) > 24))||decide ((k:Int) > 35))):=fun h=>by rw [e,ha,Bool.false_or,e1,←dgt 6,←dgt 35,←dgt 24,h];rfl
  have af:i=k→anyP (fun i=>grtR (pn c i) (pts (pg c i))) k=false:=fun h=>anyP_false.2 fun j hj=>hI j (by omega)
  have x1:(k:Int)≤i→decide ((k:Int)≤32)=true→decide ((k:Int) > 6)=false→decide (((sumN (pn c) i:Nat):Int) > 24)=false→PV.val (.bool (decide ((k:Int) > 35)))=PV.val (.bool X):=fun h a b d=>by
   have hk:i=k:=by omega
   rw [e' hk,af hk,a,b,d]
   rfl
  have x2:(k:Int)≤i→decide ((k:Int)≤32)=true→decide ((k:Int) > 6)=false→decide (((sumN (pn c) i:Nat):Int) > 24)=true→PV.val (.bool true)=PV.val (.bool X):=fun h a b d=>by
   have hk:i=k:=by omega
   rw [e' hk,a,d,Bool.or_true,Bool.true_and,Bool.true_or,Bool.or_true]
  have x3:(k:Int)≤i→decide ((k:Int)≤32)=true→decide ((k:Int) > 6)=true→PV.val (.bool true)=PV.val (.bool X):=fun h a b=>by
   have hk:i=k:=by omega
   rw [e' hk,a,b,Bool.true_or,Bool.true_and,Bool.true_or,Bool.or_true]
  have x4:(k:Int)≤i→decide ((k:Int)≤32)=false→PV.val (.bool (decide ((k:Int) > 35)))=PV.val (.bool X):=fun h a=>by
   have hk:i=k:=by omega
   rw [e' hk,af hk,a]
   rfl
  have ei:(i:Int).toNat=i:=Int.toNat_natCast i
  have rT:(i:Int) < k→grtR (pn c (i:Int).toNat) (pts (pg c (i:Int).toNat))=true→PV.val (.bool true)=PV.val (.bool X):=fun hi1 h=>by
   rw [ei] at h
   rw [e,anyP_true.2 ⟨i,by omega,h⟩,Bool.or_true,Bool.true_or]
  have rN:grtR (pn c (i:Int).toNat) (pts (pg c (i:Int).toNat))=false→∀j,j < i+1→grtR (pn c j) (pts (pg c j))=false:=fun h j hj=>by
   rw [ei] at h
   rcases Nat.lt_or_ge j i with h' | h'
   ·exact hI j h'
   ·obtain rfl:j=i:=by omega
    exact h
  have wi:(i:Int) < k→PV.val (.int .i64 (IntKind.i64.wrap ((i:Int)+1)))=PV.val (.int .i64 ((i+1:Nat):Int)):=fun h=>by
   rw [wrap64 (by omega) (by omega)]
   rfl
  have ws:grtR (pn c (i:Int).toNat) (pts (pg c (i:Int).toNat))=false→PV.val (.int .i64 (IntKind.i64.wrap (((sumN (pn c) i:Nat):Int)+((pn c (i:Int).toNat:Nat):Int))))=PV.val (goInt ((sumN (pn c) (i+1):Nat):Int)):=fun h=>by
   rw [ei] at h ⊢
   have h2:=grtR_le h
   rw [wrap64 (by omega) (by omega),sumN]
   rfl
  have pr:(i:Int) < k→isPL 140737488355328 (pn c (i:Int).toNat) (pg c (i:Int).toNat):=fun h=>(hcl.1 _ (by omega)).2
  have mu:(i:Int) < k→k - (i+1) < k - i:=fun h=>by omega
  have le:(i:Int) < k→i+1≤k:=fun h=>by omega
  with_unfolding_all exact⟨fun h1=>⟨⟨Int.natCast_nonneg i,ltT h1⟩,⟨Int.natCast_nonneg i,ltT h1⟩,pr (ltT h1),fun h2=>⟨[],stOf [(2,.val (.bool X))] [] 0 [],Wo trivial ⟨rT (ltT h1) h2,qQ⟩ trivial,rfl,rfl⟩,fun h2=>⟨i+1,[some 0],⟨ha,le (ltT h1),rN h2⟩,mu (ltT h1),Wo ⟨qZ ⟨rq,rq,rq,rq,rq,rq,rq,rq,rq,rq,rq,rq,⟨qW,rfl⟩,⟨qW,rfl⟩,qQ⟩,qQ⟩ ⟨pP,ws h2,wi (ltT h1),qQ⟩ trivial⟩⟩,fun h1=>⟨fun h2=>⟨fun h3=>⟨fun h4=>⟨[],stOf [(2,.val (.bool X))] [] 0 [],Wo trivial ⟨x1 (ltF h1) h2 h3 h4,qQ⟩ trivial,rfl,rfl⟩,fun h4=>⟨[],stOf [(2,.val (.bool X))] [] 0 [],Wo trivial ⟨x2 (ltF h1) h2 h3 h4,qQ⟩ trivial,rfl,rfl⟩⟩,fun h3=>⟨fun h=>(nomatch h),fun _=>⟨[],stOf [(2,.val (.bool X))] [] 0 [],Wo trivial ⟨x3 (ltF h1) h2 h3,qQ⟩ trivial,rfl,rfl⟩⟩⟩,fun h2=>⟨fun _=>⟨[],stOf [(2,.val (.bool X))] [] 0 [],Wo trivial ⟨x4 (ltF h1) h2,qQ⟩ trivial,rfl,rfl⟩,fun h=>(nomatch h)⟩⟩⟩
 ·cases e
end Go.Proofs
namespace Go.Num
open Go Go.Ex Go.Proofs
def bad13 (n:Nat) (p:Nat→PtS) (i:Nat):Bool:=decide (orP (p i) (p ((i+1)%n)) (p ((i+2)%n))≤0)||decide (0 < i)&&decide (i+1 < n)&&decide (orP (p 0) (p i) (p (i+1))≤0)
def ge0 (p:Nat→PtS) (i:Nat):Bool:=decide (cmpP (p 0) (p (1+i))≥0)
def chk13 (n:Nat) (p:Nat→PtS):Int:=bif decide (n < 3)||decide (64 < n) then 4 else bif anyP (fun i=>!canonP (p i)) n then 1 else bif anyP (ge0 p) (n - 1) then 8 else bif anyP (bad13 n p) n then 15 else 0
end Go.Num
namespace Go.Proofs
open Go Go.Ex Go.Num
set_option maxRecDepth 100000
def c95:List PV→Option Ans
 |[.rs 6 n g]=>some ⟨some (isPL 10000 n g),.val (.int .i64 (chk13 n (pts g))),[]⟩
 |_=>none
def D95:Opt:={  }
theorem ok95:funcOk D95.toOrd Tryz.f95 1=true:=by kernel_rfl
theorem f95:FnOk Tryz.prog 95 c95:=by
 refine FnOk.ofW orders (mkE_ok (l:=[(130,c130),(98,c98),(131,c131)]) (own:=[]) (inl:=[]) (by simp [f130,f98,f131]) (by simp)) Tryz.func95 D95 1 ok95 fun args r e=>?_
 unfold c95 at e
 split at e
 ·rename_i n g
  cases e
  refine⟨by simp,fun hm=>?_⟩
  obtain⟨hg,hn⟩:=hm _ rfl
  refine⟨[],stOf [(0,.rs 6 n (fun i=>(pts g i).cells))] [] 0 [],Wo trivial ⟨⟨rfl,rfl,fun i hi=>(hg i hi).1.symm⟩,qQ⟩ trivial,?_⟩
  obtain⟨X,hX⟩:∃X,X=chk13 n (pts g):=⟨_,rfl⟩
  rw [←hX]
  have e:X=bif decide ((n:Int) < 3)||decide ((n:Int) > 64) then 4 else bif anyP (fun i=>!canonP (pts g i)) n then 1 else bif anyP (ge0 (pts g)) (n - 1) then 8 else bif anyP (bad13 n (pts g)) n then 15 else 0:=by rw [hX,chk13,←dgt 64,←dlt 3];rfl
  have hpl:isPL 4294967296 n (fun i=>(pts g i).cells):=⟨fun i hi=>⟨rfl,(hg i hi).2.mono (by decide)⟩,hn⟩
  have x4:(decide ((n:Int) < 3)||decide ((n:Int) > 64))=true→PV.val (.int .i64 4)=PV.val (.int .i64 X):=fun h=>by rw [e,h];rfl
  have t1:decide ((n:Int) < 3)=true→(decide ((n:Int) < 3)||decide ((n:Int) > 64))=true:=fun h=>by rw [h];rfl
  have t2:decide ((n:Int) > 64)=true→(decide ((n:Int) < 3)||decide ((n:Int) > 64))=true:=fun h=>by rw [h,Bool.or_true]
  have x1:decide ((n:Int) < 3)=false→decide ((n:Int) > 64)=false→(!!anyP (fun i=>!canonP (pts g i)) n)=true→PV.val (.int .i64 1)=PV.val (.int .i64 X):=fun h h' k=>by
   rw [Bool.not_not] at k
   rw [e,h,h',k]
   rfl
  have e2:decide ((n:Int) < 3)=false→decide ((n:Int) > 64)=false→(!!anyP (fun i=>!canonP (pts g i)) n)=false→(3≤n∧n≤64)∧X=bif anyP (ge0 (pts g)) (n - 1) then 8 else bif anyP (bad13 n (pts g)) n then 15 else 0:=fun h h' k=>by
   rw [Bool.not_not] at k
   have h1:=of_decide_eq_false h
   have h2:=of_decide_eq_false h'
   exact⟨by omega,by rw [e,h,h',k];rfl⟩
  with_unfolding_all refine⟨fun h1=>⟨fun h2=>⟨[],stOf [(2,.val (.int .i64 X))] [] 0 [],Wo trivial ⟨x4 (t2 h2),qQ⟩ trivial,rfl,rfl⟩,fun h2=>⟨hpl,fun h3=>⟨[],stOf [(2,.val (.int .i64 X))] [] 0 [],Wo trivial ⟨x1 h1 h2 h3,qQ⟩ trivial,rfl,rfl⟩,fun h3=>⟨Nat,fun j=>((3≤n∧n≤64)∧X=bif anyP (ge0 (pts g)) (n - 1) then 8 else bif anyP (bad13 n (pts g)) n then 15 else 0)∧j+1≤n∧∀i,i < j→ge0 (pts g) i=false,fun j=>stOf [(0,.rs 6 n (fun i=>(pts g i).cells)),(3,.val (goInt n)),(4,.val (.int .i64 ((j:Int)+1)))] [] 0 [],fun j=>n - j,⟨0,[],⟨e2 h1 h2 h3,by have:=(e2 h1 h2 h3).1;show 0+1≤n;omega,fun i hi=>absurd hi (Nat.not_lt_zero i)⟩,Wo trivial ⟨qW,rfl,rfl,qQ⟩ trivial⟩,fun j hj=>?_⟩⟩⟩,fun h1=>⟨fun _=>⟨[],stOf [(2,.val (.int .i64 X))] [] 0 [],Wo trivial ⟨x4 (t1 h1),qQ⟩ trivial,rfl,rfl⟩,fun h=>(nomatch h)⟩⟩
  obtain⟨⟨⟨hn3,hn64⟩,hE⟩,hjn,hJ⟩:((3≤n∧n≤64)∧X=bif anyP (ge0 (pts g)) (n - 1) then 8 else bif anyP (bad13 n (pts g)) n then 15 else 0)∧j+1≤n∧∀i,i < j→ge0 (pts g) i=false:=hj
  with_unfolding_all refine⟨fun h1=>?_,fun h1=>?_⟩
  ·have h1:(j:Int)+1 < n:=ltT h1
   have ej:((j:Int)+1).toNat=1+j:=by omega
   have hc:decide (cmpP (pts g 0) (pts g ((j:Int)+1).toNat)≥0)=ge0 (pts g) j:=by rw [ej];rfl
   have pk0:isPk 1073741824 (pts g 0).v:=⟨_,rfl,(hg 0 (by omega)).2.mono (by decide)⟩
   have pkj:isPk 1073741824 (pts g ((j:Int)+1).toNat).v:=⟨_,rfl,(hg _ (by omega)).2.mono (by decide)⟩
   have v8:decide (cmpP (pts g 0) (pts g ((j:Int)+1).toNat)≥0)=true→PV.val (.int .i64 8)=PV.val (.int .i64 X):=fun h=>by
    rw [hc] at h
    rw [hE,anyP_true.2 ⟨j,by omega,h⟩]
    rfl
   have nx:decide (cmpP (pts g 0) (pts g ((j:Int)+1).toNat)≥0)=false→∀i,i < j+1→ge0 (pts g) i=false:=fun h i hi=>by
    rw [hc] at h
    rcases Nat.lt_or_ge i j with h' | h'
    ·exact hJ i h'
    ·obtain rfl:i=j:=by omega
     exact h
   have wj:PV.val (.int .i64 (IntKind.i64.wrap ((j:Int)+1+1)))=PV.val (.int .i64 (((j+1:Nat):Int)+1)):=by
    rw [wrap64 (by omega) (by omega)]
    rfl
   with_unfolding_all exact⟨⟨by omega,by omega⟩,⟨by omega,h1⟩,⟨pk0,pkj⟩,fun h2=>⟨[],stOf [(2,.val (.int .i64 X))] [] 0 [],Wo trivial ⟨v8 h2,qQ⟩ trivial,rfl,rfl⟩,fun h2=>⟨j+1,[],⟨⟨⟨hn3,hn64⟩,hE⟩,by show j+1+1≤n;omega,nx h2⟩,by show n - (j+1) < n - j;omega,Wo trivial ⟨qW,rfl,wj,qQ⟩ trivial⟩⟩
  ·have h1:(n:Int)≤(j:Int)+1:=ltF h1
   have hE2:X=bif anyP (bad13 n (pts g)) n then 15 else 0:=by
    rw [hE,anyP_false.2 fun i hi=>hJ i (by omega)]
    rfl
   with_unfolding_all refine⟨Nat,fun i=>i≤n∧∀j,j < i→bad13 n (pts g) j=false,fun i=>stOf [(0,.rs 6 n (fun i=>(pts g i).cells)),(3,.val (goInt n)),(5,.val (goInt i))] [] 0 [],fun i=>n - i,⟨0,[],⟨Nat.zero_le _,fun i hi=>absurd hi (Nat.not_lt_zero i)⟩,Wo trivial ⟨qW,rfl,rfl,qQ⟩ trivial⟩,fun i hi=>?_⟩
   obtain⟨hin,hI⟩:i≤n∧∀j,j < i→bad13 n (pts g) j=false:=hi
   with_unfolding_all refine⟨fun h2=>?_,fun h2=>?_⟩
   ·have h2:(i:Int) < n:=ltT h2
    have ei:(i:Int).toNat=i:=Int.toNat_natCast i
    have wr:∀m:Nat,m≤2→IntKind.i64.wrap ((i:Int)+(m:Int))=((i+m:Nat):Int):=fun m hm=>by
     rw [wrap64 (by omega) (by omega),Int.natCast_add]
    have r1:IntKind.i64.wrap ((i:Int)+1)=((i+1:Nat):Int):=wr 1 (by decide)
    have r2:IntKind.i64.wrap ((i:Int)+2)=((i+2:Nat):Int):=wr 2 (by decide)
    have q1:((IntKind.i64.wrap ((i:Int)+1)).tmod n)=(((i+1)%n:Nat):Int):=by rw [r1];rfl
    have q2:((IntKind.i64.wrap ((i:Int)+2)).tmod n)=(((i+2)%n:Nat):Int):=by rw [r2];rfl
    have l1:=Nat.mod_lt (i+1) (show 0 < n by omega)
    have l2:=Nat.mod_lt (i+2) (show 0 < n by omega)
    have m1:0≤((IntKind.i64.wrap ((i:Int)+1)).tmod n)∧((IntKind.i64.wrap ((i:Int)+1)).tmod n) < n:=by rw [q1];omega
    have m2:0≤((IntKind.i64.wrap ((i:Int)+2)).tmod n)∧((IntKind.i64.wrap ((i:Int)+2)).tmod n) < n:=by rw [q2];omega
    have hne:(n:Int)≠0:=by omega
    have b1:decide (orP (pts g (i:Int).toNat) (pts g ((IntKind.i64.wrap ((i:Int)+1)).tmod n).toNat) (pts g ((IntKind.i64.wrap ((i:Int)+2)).tmod n).toNat)≤0)=decide (orP (pts g i) (pts g ((i+1)%n)) (pts g ((i+2)%n))≤0):=by rw [q1,q2,ei,Int.toNat_natCast,Int.toNat_natCast]
    have b2:decide (orP (pts g 0) (pts g (i:Int).toNat) (pts g (IntKind.i64.wrap ((i:Int)+1)).toNat)≤0)=decide (orP (pts g 0) (pts g i) (pts g (i+1))≤0):=by rw [r1,ei,Int.toNat_natCast]
    have b3:decide ((IntKind.i64.wrap ((i:Int)+1)) < (n:Int))=decide (i+1 < n):=by
     rw [r1,decide_eq_decide]
     omega
    have b4:decide ((i:Int) > 0)=decide (0 < i):=by
     rw [decide_eq_decide]
     omega
    have eb:bad13 n (pts g) i=(decide (orP (pts g (i:Int).toNat) (pts g ((IntKind.i64.wrap ((i:Int)+1)).tmod n).toNat) (pts g ((IntKind.i64.wrap ((i:Int)+2)).tmod n).toNat)≤0)||decide ((i:Int) > 0)&&decide ((IntKind.i64.wrap ((i:Int)+1)) < (n:Int))&&decide (orP (pts g 0) (pts g (i:Int).toNat) (pts g (IntKind.i64.wrap ((i:Int)+1)).toNat)≤0)):=by rw [b1,b2,b3,b4];rfl
    have le1:i+1≤n:=by omega
    have mu:n - (i+1) < n - i:=by omega
    have wi:PV.val (.int .i64 (IntKind.i64.wrap ((i:Int)+1)))=PV.val (.int .i64 ((i+1:Nat):Int)):=by rw [r1]
    have v15:bad13 n (pts g) i=true→PV.val (.int .i64 15)=PV.val (.int .i64 X):=fun h=>by
     rw [hE2,anyP_true.2 ⟨i,by omega,h⟩]
     rfl
    have nx:bad13 n (pts g) i=false→∀j,j < i+1→bad13 n (pts g) j=false:=fun h j hj=>by
     rcases Nat.lt_or_ge j i with h' | h'
     ·exact hI j h'
     ·obtain rfl:j=i:=by omega
      exact h
    have a1:decide (orP (pts g (i:Int).toNat) (pts g ((IntKind.i64.wrap ((i:Int)+1)).tmod n).toNat) (pts g ((IntKind.i64.wrap ((i:Int)+2)).tmod n).toNat)≤0)=true→bad13 n (pts g) i=true:=fun h=>by rw [eb,h];rfl
    have a2:decide (orP (pts g (i:Int).toNat) (pts g ((IntKind.i64.wrap ((i:Int)+1)).tmod n).toNat) (pts g ((IntKind.i64.wrap ((i:Int)+2)).tmod n).toNat)≤0)=false→decide ((i:Int) > 0)=false→bad13 n (pts g) i=false:=fun h h'=>by rw [eb,h,h'];rfl
    have a3:decide (orP (pts g (i:Int).toNat) (pts g ((IntKind.i64.wrap ((i:Int)+1)).tmod n).toNat) (pts g ((IntKind.i64.wrap ((i:Int)+2)).tmod n).toNat)≤0)=false→decide ((i:Int) > 0)=true→decide ((IntKind.i64.wrap ((i:Int)+1)) < (n:Int))=false→bad13 n (pts g) i=false:=fun h h' k=>by rw [eb,h,h',k];rfl
    have a4:decide ((i:Int) > 0)=true→decide ((IntKind.i64.wrap ((i:Int)+1)) < (n:Int))=true→decide (orP (pts g 0) (pts g (i:Int).toNat) (pts g (IntKind.i64.wrap ((i:Int)+1)).toNat)≤0)=true→bad13 n (pts g) i=true:=fun h h' k=>by
     rw [eb,h,h',k]
     exact Bool.or_true _
    have a5:decide (orP (pts g (i:Int).toNat) (pts g ((IntKind.i64.wrap ((i:Int)+1)).tmod n).toNat) (pts g ((IntKind.i64.wrap ((i:Int)+2)).tmod n).toNat)≤0)=false→decide (orP (pts g 0) (pts g (i:Int).toNat) (pts g (IntKind.i64.wrap ((i:Int)+1)).toNat)≤0)=false→bad13 n (pts g) i=false:=fun h k=>by rw [eb,h,k,Bool.and_false];rfl
    have pk:∀z:Int,0≤z∧z < n→isPk 10000 (pts g z.toNat).v:=fun z hz=>⟨_,rfl,(hg _ (by omega)).2⟩
    have pi:isPk 10000 (pts g (i:Int).toNat).v:=pk _ ⟨by omega,h2⟩
    have p0:isPk 10000 (pts g (Int.toNat 0)).v:=pk 0 ⟨by omega,by omega⟩
    have ri:0≤(i:Int)∧(i:Int) < n:=⟨by omega,h2⟩
    have r0:0≤(0:Int)∧(0:Int) < n:=⟨by omega,by omega⟩
    have rw1:decide ((IntKind.i64.wrap ((i:Int)+1)) < (n:Int))=true→0≤(IntKind.i64.wrap ((i:Int)+1))∧(IntKind.i64.wrap ((i:Int)+1)) < n:=fun h=>⟨by rw [r1];omega,of_decide_eq_true h⟩
    with_unfolding_all exact⟨ri,hne,m1,hne,m2,⟨pi,pk _ m1,pk _ m2⟩,⟨fun h3=>⟨fun h4=>⟨fun h5=>⟨r0,ri,rw1 h5,⟨p0,pi,pk _ (rw1 h5)⟩,fun h6=>⟨[],stOf [(2,.val (.int .i64 X))] [] 0 [],Wo trivial ⟨v15 (a4 h4 h5 h6),qQ⟩ trivial,rfl,rfl⟩,fun h6=>⟨i+1,[],⟨le1,nx (a5 h3 h6)⟩,mu,Wo trivial ⟨qW,rfl,wi,qQ⟩ trivial⟩⟩,fun h5=>⟨fun h=>(nomatch h),fun _=>⟨i+1,[],⟨le1,nx (a3 h3 h4 h5)⟩,mu,Wo trivial ⟨qW,rfl,wi,qQ⟩ trivial⟩⟩⟩,fun h4=>⟨fun h=>(nomatch h),fun _=>⟨fun h=>(nomatch h),fun _=>⟨i+1,[],⟨le1,nx (a2 h3 h4)⟩,mu,Wo trivial ⟨qW,rfl,wi,qQ⟩ trivial⟩⟩⟩⟩,fun h3=>⟨fun _=>⟨[],stOf [(2,.val (.int .i64 X))] [] 0 [],Wo trivial ⟨v15 (a1 h3),qQ⟩ trivial,rfl,rfl⟩,fun h=>(nomatch h)⟩⟩⟩
   ·have h2:(n:Int)≤i:=ltF h2
    have v0:PV.val (.int .i64 0)=PV.val (.int .i64 X):=by
     rw [hE2,anyP_false.2 fun j hj=>hI j (by omega)]
     rfl
    with_unfolding_all exact⟨[],stOf [(2,.val (.int .i64 X))] [] 0 [],Wo trivial ⟨v0,qQ⟩ trivial,rfl,rfl⟩
 ·cases e
end Go.Proofs
namespace Go.Num
open Go Go.Ex Go.Proofs
def regR (lo hi:PtS) (k:Nat) (n:Nat→Nat) (r:Nat→Int) (l:Nat) (q:Nat→Int×Int×Int):Int :=
 bif !canonP lo||!canonP hi then 1 else bif decide (32 < k) then 4 else bif !(firstE r k 0==0) then firstE r k 0
 else bif decide (396 < sumN n k) then 4 else bif !decide (l=k) then 9 else bif anyP (fun i=>negO (q i)) l then 2 else 0
theorem regE_R (lo hi:PtS) (k:Nat) (n:Nat→Nat) (p:Nat→Nat→PtS) (l:Nat) (q:Nat→Int×Int×Int):regE lo hi k n p l q=regR lo hi k n (fun i=>ringE (n i) (p i)) l q:=rfl
theorem chk13_le {n:Nat} {p:Nat→PtS} (h:chk13 n p=0):n≤64:=by
 unfold chk13 at h
 cases hc:(decide (n < 3)||decide (64 < n)) with
 |true=>rw [hc] at h;cases h
 |false =>
  simp only [Bool.or_eq_false_iff,decide_eq_false_iff_not] at hc
  omega
end Go.Num
namespace Go.Proofs
open Go Go.Ex Go.Num
set_option maxRecDepth 100000
def c58:List PV→Option Ans
 |[.agg xs]=>some ⟨some (isRg 10000 xs),.val (.int .i64 (regR (gLo xs) (gHi xs) (gK xs) (pn (gC xs)) (fun i=>chk13 (pn (gC xs) i) (pts (pg (gC xs) i))) (gL xs) (ow (gO xs)))),[]⟩
 |_=>none
def D58:Opt:={  }
theorem ok58:funcOk D58.toOrd Tryz.f58 1=true:=by kernel_rfl
theorem f58:FnOk Tryz.prog 58 c58:=by
 refine FnOk.ofW orders (mkE_ok (l:=[(59,c59),(95,c95)]) (own:=[]) (inl:=[]) (by simp [f59,f95]) (by simp)) Tryz.func58 D58 1 ok58 fun args r e=>?_
 unfold c58 at e
 split at e
 ·rename_i xs
  cases e
  refine⟨by simp,fun hm=>?_⟩
  obtain⟨h1,⟨hlo,hhi⟩,hcl,hol⟩:=hm _ rfl
  generalize gLo xs=lo at *
  generalize gHi xs=hi at *
  generalize gK xs=k at *
  generalize gC xs=c at *
  generalize gL xs=l at *
  generalize gO xs=o at *
  subst h1
  clear hm
  refine⟨[],stOf [(0,.agg (regC lo hi k c l o))] [] 0 [],Wo trivial ⟨⟨rfl,rfl,rfl,rfl,rfl,rfl,rfl,rfl,rfl,rfl,rfl,rfl,qW,qW,qQ⟩,qQ⟩ trivial,?_⟩
  obtain⟨X,hX⟩:∃X,X=regR lo hi k (pn c) (fun i=>chk13 (pn c i) (pts (pg c i))) l (ow o):=⟨_,rfl⟩
  rw [←hX]
  obtain⟨Fe,hFe⟩:∃Fe,Fe=firstE (fun i=>chk13 (pn c i) (pts (pg c i))) k 0:=⟨_,rfl⟩
  have e:X=bif !canonP lo||!canonP hi then 1 else bif decide (32 < k) then 4 else bif !(Fe==0) then Fe else bif decide (396 < sumN (pn c) k) then 4 else bif !decide (l=k) then 9 else bif anyP (fun i=>negO (ow o i)) l then 2 else 0:=by rw [hX,regR,←hFe]
  clear hX
  have hno:∀b:Bool,(okW b != 0)=true→b=false:=fun b h=>by cases b<;>first|rfl|cases h
  have hyes:∀b:Bool,(okW b != 0)=false→b=true:=fun b h=>by cases b<;>first|rfl|cases h
  have pl:isPk 4294967296 lo.v:=⟨_,rfl,hlo.mono (by decide)⟩
  have ph:isPk 4294967296 hi.v:=⟨_,rfl,hhi.mono (by decide)⟩
  have x1:canonP lo=false→PV.val (.int .i64 1)=PV.val (.int .i64 X):=fun h=>by rw [e,h];rfl
  have x2:canonP hi=false→PV.val (.int .i64 1)=PV.val (.int .i64 X):=fun h=>by rw [e,h,Bool.not_false,Bool.or_true];rfl
  have x3:canonP lo=true→canonP hi=true→decide ((k:Int) > 32)=true→PV.val (.int .i64 4)=PV.val (.int .i64 X):=fun h h' k'=>by
   replace k':=(dgt 32).symm.trans k'
   rw [e,h,h',k']
   rfl
  have x4:canonP lo=true→canonP hi=true→decide ((k:Int) > 32)=false→(X=bif !(Fe==0) then Fe else bif decide (396 < sumN (pn c) k) then 4 else bif !decide (l=k) then 9 else bif anyP (fun i=>negO (ow o i)) l then 2 else 0)∧k≤32:=fun h h' k'=>by
   replace k':=(dgt 32).symm.trans k'
   refine⟨by rw [e,h,h',k'];rfl,?_⟩
   have:=of_decide_eq_false k'
   omega
  with_unfolding_all refine⟨pl,fun h1=>⟨ph,fun h2=>⟨[],stOf [(2,.val (.int .i64 X))] [] 0 [],Wo trivial ⟨x2 (hno _ h2),qQ⟩ trivial,rfl,rfl⟩,fun h2=>⟨fun h3=>⟨[],stOf [(2,.val (.int .i64 X))] [] 0 [],Wo trivial ⟨x3 (hyes _ h1) (hyes _ h2) h3,qQ⟩ trivial,rfl,rfl⟩,fun h3=>⟨Nat,fun i=>(X=bif !(Fe==0) then Fe else bif decide (396 < sumN (pn c) k) then 4 else bif !decide (l=k) then 9 else bif anyP (fun i=>negO (ow o i)) l then 2 else 0)∧k≤32∧i≤k∧firstE (fun i=>chk13 (pn c i) (pts (pg c i))) (k - i) i=Fe∧sumN (pn c) i≤64*i,fun i=>stOf [(1,.ptr 0 0 0 0),(3,.val (goInt (sumN (pn c) i))),(4,.val (goInt i))] [⟨31,14,0,true,false,1,fun _=>regC lo hi k c l o⟩] 1 [],fun i=>k - i,⟨0,[some 0],⟨(x4 (hyes _ h1) (hyes _ h2) h3).1,(x4 (hyes _ h1) (hyes _ h2) h3).2,Nat.zero_le _,hFe.symm,Nat.le_refl _⟩,Wo ⟨qZ ⟨rq,rq,rq,rq,rq,rq,rq,rq,rq,rq,rq,rq,⟨qW,rfl⟩,⟨qW,rfl⟩,qQ⟩,qQ⟩ ⟨pP,rfl,rfl,qQ⟩ trivial⟩,fun i hI0=>?_⟩⟩⟩,fun h1=>⟨fun _=>⟨[],stOf [(2,.val (.int .i64 X))] [] 0 [],Wo trivial ⟨x1 (hno _ h1),qQ⟩ trivial,rfl,rfl⟩,fun h=>(nomatch h)⟩⟩
  obtain⟨hX,hk32,hik,hFi,hsum⟩:(X=bif !(Fe==0) then Fe else bif decide (396 < sumN (pn c) k) then 4 else bif !decide (l=k) then 9 else bif anyP (fun i=>negO (ow o i)) l then 2 else 0)∧k≤32∧i≤k∧firstE (fun i=>chk13 (pn c i) (pts (pg c i))) (k - i) i=Fe∧sumN (pn c) i≤64*i:=hI0
  with_unfolding_all refine⟨fun h1=>?_,fun h1=>?_⟩
  ·have h1:(i:Int) < k:=ltT h1
   have ei:(i:Int).toNat=i:=Int.toNat_natCast i
   have hst:firstE (fun i=>chk13 (pn c i) (pts (pg c i))) (k - i) i=bif chk13 (pn c i) (pts (pg c i))==0 then firstE (fun i=>chk13 (pn c i) (pts (pg c i))) (k - (i+1)) (i+1) else chk13 (pn c i) (pts (pg c i)):=by
    rw [show k - i=(k - (i+1))+1 by omega]
    rfl
   have hpl:isPL 10000 (pn c (i:Int).toNat) (pg c (i:Int).toNat):=(hcl.1 _ (by omega)).2
   have xr:(chk13 (pn c (i:Int).toNat) (pts (pg c (i:Int).toNat)) != 0)=true→PV.val (.int .i64 (chk13 (pn c (i:Int).toNat) (pts (pg c (i:Int).toNat))))=PV.val (.int .i64 X):=fun h=>by
    rw [ei] at h ⊢
    have h':(chk13 (pn c i) (pts (pg c i))==0)=false:=by simpa using h
    rw [h',cond_false] at hst
    rw [hX,←hFi,hst,h']
    rfl
   have z0:(chk13 (pn c (i:Int).toNat) (pts (pg c (i:Int).toNat)) != 0)=false→chk13 (pn c i) (pts (pg c i))=0:=fun h=>by
    rw [ei] at h
    simpa using h
   have nf:(chk13 (pn c (i:Int).toNat) (pts (pg c (i:Int).toNat)) != 0)=false→firstE (fun i=>chk13 (pn c i) (pts (pg c i))) (k - (i+1)) (i+1)=Fe:=fun h=>by
    have h':=z0 h
    rw [←hFi,hst,h']
    rfl
   have ns:(chk13 (pn c (i:Int).toNat) (pts (pg c (i:Int).toNat)) != 0)=false→sumN (pn c) (i+1)≤64*(i+1):=fun h=>by
    have h':=chk13_le (z0 h)
    unfold sumN
    omega
   have wi:PV.val (.int .i64 (IntKind.i64.wrap ((i:Int)+1)))=PV.val (.int .i64 ((i+1:Nat):Int)):=by
    rw [wrap64 (by omega) (by omega)]
    rfl
   have ws:(chk13 (pn c (i:Int).toNat) (pts (pg c (i:Int).toNat)) != 0)=false→PV.val (.int .i64 (IntKind.i64.wrap (((sumN (pn c) i:Nat):Int)+((pn c (i:Int).toNat:Nat):Int))))=PV.val (goInt ((sumN (pn c) (i+1):Nat):Int)):=fun h=>by
    have h':=chk13_le (z0 h)
    rw [ei,wrap64 (by omega) (by omega),sumN]
    rfl
   have ri:0≤(i:Int)∧(i:Int) < k:=⟨by omega,h1⟩
   have mu:k - (i+1) < k - i:=by omega
   have le:i+1≤k:=by omega
   with_unfolding_all exact⟨ri,hpl,fun h2=>⟨[],stOf [(2,.val (.int .i64 X))] [] 0 [],Wo trivial ⟨xr h2,qQ⟩ trivial,rfl,rfl⟩,fun h2=>⟨ri,i+1,[some 0],⟨hX,hk32,le,nf h2,ns h2⟩,mu,Wo ⟨qZ ⟨rq,rq,rq,rq,rq,rq,rq,rq,rq,rq,rq,rq,⟨qW,rfl⟩,⟨qW,rfl⟩,qQ⟩,qQ⟩ ⟨pP,ws h2,wi,qQ⟩ trivial⟩⟩
  ·have h1:(k:Int)≤i:=ltF h1
   have hki:i=k:=by omega
   have hF0:Fe=0:=by
    rw [←hFi,show k - i=0 by omega]
    rfl
   have hX2:X=bif decide (396 < sumN (pn c) k) then 4 else bif !decide (l=k) then 9 else bif anyP (fun i=>negO (ow o i)) l then 2 else 0:=by rw [hX,hF0];rfl
   have hl47:=hol.2
   have y1:decide (((sumN (pn c) i:Nat):Int) > 396)=true→PV.val (.int .i64 4)=PV.val (.int .i64 X):=fun h=>by
    replace h:=(dgt 396).symm.trans h
    rw [hki] at h
    rw [hX2,h]
    rfl
   have y2:decide (((sumN (pn c) i:Nat):Int) > 396)=false→(!((l:Int)==(k:Int)))=true→PV.val (.int .i64 9)=PV.val (.int .i64 X):=fun h h'=>by
    replace h:=(dgt 396).symm.trans h
    rw [hki] at h
    have h2:¬l=k:=fun e=>by
     rw [e,beq_self_eq_true] at h'
     cases h'
    rw [hX2,h,decide_eq_false h2]
    rfl
   have x9:decide (((sumN (pn c) i:Nat):Int) > 396)=false→(!((l:Int)==(k:Int)))=false→X=bif anyP (fun i=>negO (ow o i)) l then 2 else 0:=fun h h'=>by
    replace h:=(dgt 396).symm.trans h
    rw [hki] at h
    have h2:l=k:=by
     have:((l:Int)==(k:Int))=true:=by simpa using h'
     have:=eq_of_beq this
     omega
    rw [hX2,h,decide_eq_true h2]
    rfl
   with_unfolding_all refine⟨fun h2=>⟨[],stOf [(2,.val (.int .i64 X))] [] 0 [],Wo trivial ⟨y1 h2,qQ⟩ trivial,rfl,rfl⟩,fun h2=>⟨fun h3=>⟨[],stOf [(2,.val (.int .i64 X))] [] 0 [],Wo trivial ⟨y2 h2 h3,qQ⟩ trivial,rfl,rfl⟩,fun h3=>⟨Nat,fun j=>(X=bif anyP (fun i=>negO (ow o i)) l then 2 else 0)∧j≤l∧∀i,i < j→negO (ow o i)=false,fun j=>stOf [(1,.ptr 0 0 0 0),(6,.val (goInt j))] [⟨31,14,0,true,false,1,fun _=>regC lo hi k c l o⟩] 1 [],fun j=>l - j,⟨0,[some 0],⟨x9 h2 h3,Nat.zero_le _,fun i hi=>absurd hi (Nat.not_lt_zero i)⟩,Wo ⟨qZ ⟨rq,rq,rq,rq,rq,rq,rq,rq,rq,rq,rq,rq,⟨qW,rfl⟩,⟨qW,rfl⟩,qQ⟩,qQ⟩ ⟨pP,rfl,qQ⟩ trivial⟩,fun j hJ0=>?_⟩⟩⟩
   obtain⟨hX3,hjl,hJ⟩:(X=bif anyP (fun i=>negO (ow o i)) l then 2 else 0)∧j≤l∧∀i,i < j→negO (ow o i)=false:=hJ0
   with_unfolding_all refine⟨fun h2=>?_,fun h2=>?_⟩
   ·have h2:(j:Int) < l:=ltT h2
    have ej:(j:Int).toNat=j:=Int.toNat_natCast j
    have rj:0≤(j:Int)∧(j:Int) < l:=⟨by omega,h2⟩
    have v2:negO (ow o (j:Int).toNat)=true→PV.val (.int .i64 2)=PV.val (.int .i64 X):=fun h=>by
     rw [ej] at h
     rw [hX3,anyP_true.2 ⟨j,by omega,h⟩]
     rfl
    have nx:negO (ow o (j:Int).toNat)=false→∀i,i < j+1→negO (ow o i)=false:=fun h i hi=>by
     rw [ej] at h
     rcases Nat.lt_or_ge i j with h' | h'
     ·exact hJ i h'
     ·obtain rfl:i=j:=by omega
      exact h
    have n1:decide ((ow o (j:Int).toNat).1 < 0)=true→negO (ow o (j:Int).toNat)=true:=fun h=>by unfold negO;rw [h];rfl
    have n2:decide ((ow o (j:Int).toNat).2.1 < 0)=true→negO (ow o (j:Int).toNat)=true:=fun h=>by unfold negO;rw [h,Bool.or_true];rfl
    have n3:decide ((ow o (j:Int).toNat).2.2 < 0)=true→negO (ow o (j:Int).toNat)=true:=fun h=>by unfold negO;rw [h,Bool.or_true]
    have n4:decide ((ow o (j:Int).toNat).1 < 0)=false→decide ((ow o (j:Int).toNat).2.1 < 0)=false→decide ((ow o (j:Int).toNat).2.2 < 0)=false→negO (ow o (j:Int).toNat)=false:=fun h h' k=>by unfold negO;rw [h,h',k];rfl
    have wj:PV.val (.int .i64 (IntKind.i64.wrap ((j:Int)+1)))=PV.val (.int .i64 ((j+1:Nat):Int)):=by
     rw [wrap64 (by omega) (by omega)]
     rfl
    have mu:l - (j+1) < l - j:=by omega
    have le:j+1≤l:=by omega
    with_unfolding_all exact⟨rj,fun h3=>⟨rj,fun h4=>⟨rj,fun h5=>⟨[],stOf [(2,.val (.int .i64 X))] [] 0 [],Wo trivial ⟨v2 (n3 h5),qQ⟩ trivial,rfl,rfl⟩,fun h5=>⟨j+1,[some 0],⟨hX3,le,nx (n4 h3 h4 h5)⟩,mu,Wo ⟨qZ ⟨rq,rq,rq,rq,rq,rq,rq,rq,rq,rq,rq,rq,⟨qW,rfl⟩,⟨qW,rfl⟩,qQ⟩,qQ⟩ ⟨pP,wj,qQ⟩ trivial⟩⟩,fun h4=>⟨fun _=>⟨[],stOf [(2,.val (.int .i64 X))] [] 0 [],Wo trivial ⟨v2 (n2 h4),qQ⟩ trivial,rfl,rfl⟩,fun h=>(nomatch h)⟩⟩,fun h3=>⟨fun h=>(nomatch h),fun _=>⟨fun _=>⟨[],stOf [(2,.val (.int .i64 X))] [] 0 [],Wo trivial ⟨v2 (n1 h3),qQ⟩ trivial,rfl,rfl⟩,fun h=>(nomatch h)⟩⟩⟩
   ·have h2:(l:Int)≤j:=ltF h2
    have v0:PV.val (.int .i64 0)=PV.val (.int .i64 X):=by
     rw [hX3,anyP_false.2 fun i hi=>hJ i (by omega)]
     rfl
    with_unfolding_all exact⟨[],stOf [(2,.val (.int .i64 X))] [] 0 [],Wo trivial ⟨v0,qQ⟩ trivial,rfl,rfl⟩
 ·cases e
end Go.Proofs
namespace Go.Num
open Go Go.Ex Go.Proofs
def addP (p u:PtS):PtS:=ptQ (p.X+u.X) (p.Y+u.Y)
def sclP (p:PtS) (r:RatS):PtS:=ptQ (p.X*r.q) (p.Y*r.q)
def atP (p u:PtS) (r:RatS):PtS:=addP p (sclP (subP u p) r)
theorem addP_le {a b:Nat} {p u:PtS} (h1:PtS.le a p) (h2:PtS.le b u):(addP p u).le (a+b+3):=ptQ_le ((h1.X.add h2.X).le (by omega)) ((h1.Y.add h2.Y).le (by omega))
theorem sclP_le {a b:Nat} {p:PtS} {r:RatS} (h1:PtS.le a p) (h2:RatS.le b r):(sclP p r).le (a+b+3):=ptQ_le ((h1.X.mul h2.qb).le (by omega)) ((h1.Y.mul h2.qb).le (by omega))
theorem bigP_le {p:PtS} (h:bigP p=false):p.le 12:=by
 unfold bigP bigR at h
 simp only [Bool.or_eq_false_iff,decide_eq_false_iff_not] at h
 unfold PtS.le RatS.le
 omega
theorem grtF_rg {K:Nat} {xs:List PV} (h:grtF (gLo xs) (gHi xs) (gK xs) (pn (gC xs)) (fun i=>pts (pg (gC xs) i)) (gL xs)=false) (hx:isRg K xs):isRg 12 xs:=by
 obtain⟨h1,_,hc,ho⟩:=hx
 unfold grtF at h
 simp only [Bool.or_eq_false_iff] at h
 refine⟨h1,⟨bigP_le h.1.1.1.1,bigP_le h.1.1.1.2⟩,⟨fun i hi=>⟨(hc.1 i hi).1,⟨fun j hj=>⟨((hc.1 i hi).2.1 j hj).1,?_⟩,(hc.1 i hi).2.2⟩⟩,hc.2⟩,ho⟩
 have h2:=(anyP_false.1 h.1.2) i hi
 unfold grtR at h2
 rw [Bool.or_eq_false_iff] at h2
 exact bigP_le ((anyP_false.1 h2.2) j hj)
theorem isRg.mono {a b:Nat} {xs:List PV} (h:isRg a xs) (hab:a≤b):isRg b xs :=
 ⟨h.1,⟨h.2.1.1.mono hab,h.2.1.2.mono hab⟩,⟨fun i hi=>⟨(h.2.2.1.1 i hi).1,⟨fun j hj=>⟨((h.2.2.1.1 i hi).2.1 j hj).1,((h.2.2.1.1 i hi).2.1 j hj).2.mono hab⟩,(h.2.2.1.1 i hi).2.2⟩⟩,h.2.2.1.2⟩,h.2.2.2⟩
theorem bigL_pl {K n:Nat} {g:Nat→List PV} (h:anyP (fun i=>bigP (pts g i)) n=false) (hg:isPL K n g):isPL 12 n g :=
 ⟨fun i hi=>⟨(hg.1 i hi).1,bigP_le ((anyP_false.1 h) i hi)⟩,hg.2⟩
theorem isPL.mono {a b n:Nat} {g:Nat→List PV} (h:isPL a n g) (hab:a≤b):isPL b n g:=⟨fun i hi=>⟨(h.1 i hi).1,(h.1 i hi).2.mono hab⟩,h.2⟩
def grtA (xs:List PV) (n:Nat) (g:Nat→List PV):Bool:=grtF (gLo xs) (gHi xs) (gK xs) (pn (gC xs)) (fun i=>pts (pg (gC xs) i)) (gL xs)||anyP (fun i=>bigP (pts g i)) n
def reg13 (xs:List PV):Int:=regR (gLo xs) (gHi xs) (gK xs) (pn (gC xs)) (fun i=>chk13 (pn (gC xs) i) (pts (pg (gC xs) i))) (gL xs) (ow (gO xs))
def fineA (xs:List PV) (n:Nat) (g:Nat→List PV):Bool:=!grtA xs n g&&(reg13 xs==0)&&!anyP (fun i=>!canonP (pts g i)) n
end Go.Num
namespace Go.Proofs
open Go Go.Ex Go.Num
set_option maxRecDepth 100000
theorem cell6 {x y:PtS} (h:x=y):PV.val (.bool x.x.s)=PV.val (.bool y.x.s)∧PV.val (.string x.x.b)=PV.val (.string y.x.b)∧PV.val (.string x.x.c)=PV.val (.string y.x.c)∧PV.val (.bool x.y.s)=PV.val (.bool y.y.s)∧PV.val (.string x.y.b)=PV.val (.string y.y.b)∧PV.val (.string x.y.c)=PV.val (.string y.y.c):=by
 rw [h]
 exact⟨rfl,rfl,rfl,rfl,rfl,rfl⟩
def c74:List PV→Option Ans
 |[.val v,.val u]=>some ⟨some (isPk 4294967296 v∧isPk 4294967296 u),.val (addP (rdV v) (rdV u)).v,[]⟩
 |_=>none
def D74:Opt:={  }
theorem ok74:funcOk D74.toOrd Tryz.f74 2=true:=by kernel_rfl
theorem f74:FnOk Tryz.prog 74 c74:=by
 refine FnOk.ofW orders (mkE_ok (l:=[(112,c112_113)]) (own:=[]) (inl:=[]) (by simp [f112_113]) (by simp)) Tryz.func74 D74 2 ok74 fun args r e=>?_
 unfold c74 at e
 split at e
 ·rename_i v u
  cases e
  refine⟨by simp,fun hm=>?_⟩
  obtain⟨⟨p,rfl,hp⟩,u,rfl,hu⟩:=hm _ rfl
  refine⟨[],stOf [(0,.val p.v),(1,.val u.v)] [] 0 [],Wo trivial ⟨rfl,rfl,qQ⟩ trivial,?_⟩
  with_unfolding_all exact⟨⟨⟨p,rfl,hp⟩,u,rfl,hu⟩,[some 2],stOf [(4,.ptr 0 0 0 0)] [boxP (addP p u) 0] 1 [],Wo ⟨qK,qQ⟩ ⟨pP,qQ⟩ trivial,rfl,rfl⟩
 ·cases e
def rdRS:Value→RatS
 |.agg ⟨[.bool s,.string b,.string c]⟩=>⟨s,b,c⟩
 |_=>⟨false,⟨#[]⟩,⟨#[]⟩⟩
def c75:List PV→Option Ans
 |[.val v,.val u]=>some ⟨some (isPk 4294967296 v∧isRk 4294967296 u),.val (sclP (rdV v) (rdRS u)).v,[]⟩
 |_=>none
def D75:Opt:={  }
theorem ok75:funcOk D75.toOrd Tryz.f75 2=true:=by kernel_rfl
theorem f75:FnOk Tryz.prog 75 c75:=by
 refine FnOk.ofW orders (mkE_ok (l:=[(112,c112_114)]) (own:=[]) (inl:=[]) (by simp [f112_114]) (by simp)) Tryz.func75 D75 2 ok75 fun args r e=>?_
 unfold c75 at e
 split at e
 ·rename_i v u
  cases e
  refine⟨by simp,fun hm=>?_⟩
  obtain⟨⟨p,rfl,hp⟩,s,b,c,rfl,hb,hc⟩:=hm _ rfl
  refine⟨[],stOf [(0,.val p.v),(1,.val (.agg ⟨[.bool s,.string b,.string c]⟩))] [] 0 [],Wo trivial ⟨rfl,rfl,qQ⟩ trivial,?_⟩
  have hr:PtS.le 4294967296 ⟨⟨s,b,c⟩,⟨s,b,c⟩⟩:=⟨⟨hb,hc⟩,hb,hc⟩
  with_unfolding_all exact⟨⟨⟨p,rfl,hp⟩,⟨⟨s,b,c⟩,⟨s,b,c⟩⟩,rfl,hr⟩,[some 2],stOf [(4,.ptr 0 0 0 0)] [boxP (sclP p ⟨s,b,c⟩) 0] 1 [],Wo ⟨qK,qQ⟩ ⟨pP,qQ⟩ trivial,rfl,rfl⟩
 ·cases e
def c28:List PV→Option Ans
 |[.val v,.val u,.val w]=>some ⟨some (isPk 1000 v∧isPk 1000 u∧isRk 1000 w),.val (atP (rdV v) (rdV u) (rdRS w)).v,[]⟩
 |_=>none
def D28:Opt:={ perm:=atR 1 [(0,true),(1,true),(2,true),(4,true),(3,false),(5,false),(6,false)] }
theorem ok28:funcOk D28.toOrd Tryz.f28 3=true:=by kernel_rfl
theorem f28:FnOk Tryz.prog 28 c28:=by
 refine FnOk.ofW orders (mkE_ok (l:=[(76,c76),(75,c75),(74,c74)]) (own:=[]) (inl:=[]) (by simp [f76,f75,f74]) (by simp)) Tryz.func28 D28 3 ok28 fun args r e=>?_
 unfold c28 at e
 split at e
 ·rename_i v u w
  cases e
  refine⟨by simp,fun hm=>?_⟩
  obtain⟨⟨p,rfl,hp⟩,⟨u,rfl,hu⟩,s,b,c,rfl,hb,hc⟩:=hm _ rfl
  refine⟨[],stOf [(0,.val p.v),(1,.val u.v),(2,.val (.agg ⟨[.bool s,.string b,.string c]⟩))] [] 0 [],Wo trivial ⟨rfl,rfl,rfl,qQ⟩ trivial,?_⟩
  have hr:RatS.le 1000 ⟨s,b,c⟩:=⟨hb,hc⟩
  have s1:=subP_le hu hp
  have s2:=sclP_le s1 hr
  have i1:isPk 4294967296 u.v∧isPk 4294967296 p.v:=⟨⟨_,rfl,hu.mono (by decide)⟩,_,rfl,hp.mono (by decide)⟩
  have i2:isPk 4294967296 (subP u p).v∧isRk 4294967296 (.agg ⟨[.bool s,.string b,.string c]⟩):=⟨⟨_,rfl,s1.mono (by decide)⟩,s,b,c,rfl,Nat.le_trans hb (by decide),Nat.le_trans hc (by decide)⟩
  have i3:isPk 4294967296 p.v∧isPk 4294967296 (sclP (subP u p) ⟨s,b,c⟩).v:=⟨⟨_,rfl,hp.mono (by decide)⟩,_,rfl,s2.mono (by decide)⟩
  have rv:∀p:PtS,rdV p.v=p:=fun _=>rfl
  obtain⟨Q,hQ⟩:∃Q,Q=atP p u ⟨s,b,c⟩:=⟨_,rfl⟩
  have hq:atP (rdV p.v) (rdV u.v) (rdRS (.agg ⟨[.bool s,.string b,.string c]⟩))=Q:=hQ.symm
  rw [hq]
  have e:addP (rdV p.v) (rdV (sclP (rdV (subP (rdV u.v) (rdV p.v)).v) (rdRS (.agg ⟨[.bool s,.string b,.string c]⟩))).v)=Q:=by
   rw [rv,rv,rv,rv]
   exact hq
  have c6:=cell6 e
  clear hq hQ e
  with_unfolding_all refine⟨?_,?_,?_,[some 3],stOf [(6,.ptr 0 0 0 0)] [boxP Q 0] 1 [],Wo ⟨qZ ⟨⟨c6.1,rfl⟩,⟨c6.2.1,rfl⟩,⟨c6.2.2.1,rfl⟩,⟨c6.2.2.2.1,rfl⟩,⟨c6.2.2.2.2.1,rfl⟩,⟨c6.2.2.2.2.2,rfl⟩,qQ⟩,qQ⟩ ⟨pP,qQ⟩ trivial,rfl,rfl⟩
  ·exact i1
  ·exact i2
  ·exact i3
 ·cases e
def c66:List PV→Option Ans
 |[.val v]=>some ⟨some (isPk 4294967296 v),.val (.bool (!canonP (rdV v))),[]⟩
 |_=>none
theorem ok66:funcOk {} Tryz.f66 1=true:=by kernel_rfl
theorem f66:FnOk Tryz.prog 66 c66:=by
 refine FnOk.ofW orders (mkE_ok (l:=[(67,c67)]) (own:=[]) (inl:=[]) (by simp [f67]) (by simp)) Tryz.func66 {} 1 ok66 fun args r e=>?_
 unfold c66 at e
 split at e
 ·rename_i v
  cases e
  refine⟨by simp,fun hm=>?_⟩
  obtain⟨p,rfl,hp⟩:=hm _ rfl
  refine⟨[],stOf [(0,.val p.v)] [] 0 [],Wo trivial ⟨rfl,qQ⟩ trivial,?_⟩
  with_unfolding_all exact⟨⟨p,rfl,hp⟩,[],stOf [(2,.val (.bool (!canonP p)))] [] 0 [],Wo trivial ⟨congrArg (fun z=>PV.val (.bool z)) (okW_bad _),qQ⟩ trivial,rfl,rfl⟩
 ·cases e
def c83_66:List PV→Option Ans
 |[.rs 6 n g,.val (.func (.func 66) ⟨[]⟩ ⟨[]⟩)]=>some ⟨some (isPL 4294967296 n g),.val (.int .i64 (ixP (fun i=>!canonP (pts g i)) n 0)),[]⟩
 |_=>none
theorem f83_66:FnOk Tryz.prog 83 c83_66:=by
 refine FnOk.ofW orders (mkE_ok (l:=[(66,c66)]) (own:=[]) (inl:=[]) (by simp [f66]) (by simp)) Tryz.func83 {} 2 ok83 fun args r e=>?_
 unfold c83_66 at e
 split at e
 ·rename_i n g
  cases e
  refine⟨by simp,fun hm=>?_⟩
  obtain⟨hg,hn⟩:=hm _ rfl
  refine⟨[],stOf [(0,.rs 6 n (fun i=>(pts g i).cells)),(1,.val (.func (.func 66) ⟨[]⟩ ⟨[]⟩))] [] 0 [],Wo trivial ⟨⟨rfl,rfl,fun i hi=>(hg i hi).1.symm⟩,rfl,qQ⟩ trivial,?_⟩
  obtain⟨X,hX⟩:∃X,X=ixP (fun i=>!canonP (pts g i)) n 0:=⟨_,rfl⟩
  rw [←hX]
  with_unfolding_all refine⟨Nat,fun i=>i≤n∧ixP (fun i=>!canonP (pts g i)) (n - i) i=X,fun i=>stOf [(0,.rs 6 n (fun i=>(pts g i).cells)),(1,.val (.func (.func 66) ⟨[]⟩ ⟨[]⟩)),(7,.val (goInt n)),(8,.val (goInt i))] [] 0 [],fun i=>n - i,⟨0,[],⟨Nat.zero_le _,hX.symm⟩,Wo trivial ⟨qW,rfl,rfl,rfl,qQ⟩ trivial⟩,fun i hi=>?_⟩
  obtain⟨hin,hI⟩:i≤n∧ixP (fun i=>!canonP (pts g i)) (n - i) i=X:=hi
  with_unfolding_all refine⟨fun h=>?_,fun h=>⟨[],stOf [(4,.val (.int .i64 X))] [] 0 [],Wo trivial ⟨?_,qQ⟩ trivial,rfl,rfl⟩⟩
  ·have h:=ltT h
   have e:(i:Int).toNat=i:=Int.toNat_natCast i
   have hstep:ixP (fun i=>!canonP (pts g i)) (n - i) i=bif !canonP (pts g i) then(i:Int) else ixP (fun i=>!canonP (pts g i)) (n - (i+1)) (i+1):=by
    rw [show n - i=(n - (i+1))+1 by omega]
    rfl
   with_unfolding_all refine⟨⟨by omega,by omega⟩,⟨pts g (i:Int).toNat,rfl,by rw [e];exact(hg i (by omega)).2⟩,fun h'=>⟨[],stOf [(4,.val (.int .i64 X))] [] 0 [],Wo trivial ⟨?_,qQ⟩ trivial,rfl,rfl⟩,fun h'=>⟨i+1,[],⟨by omega,?_⟩,by show n - (i+1) < n - i;omega,Wo trivial ⟨qW,rfl,rfl,?_,qQ⟩ trivial⟩⟩
   ·have h':(!canonP (pts g (i:Int).toNat))=true:=h'
    rw [e] at h'
    rw [h',cond_true] at hstep
    exact congrArg (fun z=>PV.val (.int .i64 z)) (hstep.symm.trans hI)
   ·have h':(!canonP (pts g (i:Int).toNat))=false:=h'
    rw [e] at h'
    rw [h',cond_false] at hstep
    exact hstep.symm.trans hI
   ·show PV.val (.int .i64 (IntKind.i64.wrap ((i:Int)+1)))=PV.val (.int .i64 ((i+1:Nat):Int))
    rw [wrap64 (by omega) (by omega)]
    rfl
  ·have h:=ltF h
   rw [show n - i=0 by omega] at hI
   exact congrArg (fun z=>PV.val (.int .i64 z)) hI
 ·cases e
def c65_66:List PV→Option Ans
 |[.rs 6 n g,.val (.func (.func 66) ⟨[]⟩ ⟨[]⟩)]=>some ⟨some (isPL 4294967296 n g),.val (.bool (anyP (fun i=>!canonP (pts g i)) n)),[]⟩
 |_=>none
theorem f65_66:FnOk Tryz.prog 65 c65_66:=by
 refine FnOk.ofW orders (mkE_ok (l:=[(83,c83_66)]) (own:=[]) (inl:=[]) (by simp [f83_66]) (by simp)) Tryz.func65 {} 2 ok65 fun args r e=>?_
 unfold c65_66 at e
 split at e
 ·rename_i n g
  cases e
  refine⟨by simp,fun hm=>?_⟩
  have hp:=hm _ rfl
  refine⟨[],stOf [(0,.rs 6 n g),(1,.val (.func (.func 66) ⟨[]⟩ ⟨[]⟩))] [] 0 [],Wo trivial ⟨⟨rfl,rfl,fun i hi=>rfl⟩,rfl,qQ⟩ trivial,?_⟩
  with_unfolding_all exact⟨hp,[],stOf [(4,.val (.bool (anyP (fun i=>!canonP (pts g i)) n)))] [] 0 [],Wo trivial ⟨congrArg (fun z=>PV.val (.bool z)) (ixP_any _ _),qQ⟩ trivial,rfl,rfl⟩
 ·cases e
def c12:List PV→Option Ans
 |[.agg xs,.rs 6 n g]=>some ⟨some (isRg 140737488355328 xs∧isPL 140737488355328 n g),.val (.bool (grtA xs n g)),[]⟩
 |_=>none
def D12:Opt:={  }
theorem ok12:funcOk D12.toOrd Tryz.f12 2=true:=by kernel_rfl
theorem f12:FnOk Tryz.prog 12 c12:=by
 refine FnOk.ofW orders (mkE_ok (l:=[(50,c50),(51,c51)]) (own:=[]) (inl:=[]) (by simp [f50,f51]) (by simp)) Tryz.func12 D12 2 ok12 fun args r e=>?_
 unfold c12 at e
 split at e
 ·rename_i xs n g
  cases e
  refine⟨by simp,fun hm=>?_⟩
  obtain⟨⟨h1,hrest⟩,hg⟩:=hm _ rfl
  have hx:isRg 140737488355328 xs:=⟨h1,hrest⟩
  obtain⟨X,hX⟩:∃X,X=grtA xs n g:=⟨_,rfl⟩
  rw [←hX]
  have e:X=(grtF (gLo xs) (gHi xs) (gK xs) (pn (gC xs)) (fun i=>pts (pg (gC xs) i)) (gL xs)||anyP (fun i=>bigP (pts g i)) n):=hX
  clear hX
  obtain⟨A,hA⟩:∃A,A=grtF (gLo xs) (gHi xs) (gK xs) (pn (gC xs)) (fun i=>pts (pg (gC xs) i)) (gL xs):=⟨_,rfl⟩
  rw [←hA] at e
  generalize gLo xs=lo at *
  generalize gHi xs=hi at *
  generalize gK xs=k at *
  generalize gC xs=c at *
  generalize gL xs=l at *
  generalize gO xs=o at *
  subst h1
  clear hm
  refine⟨[],stOf [(0,.agg (regC lo hi k c l o)),(1,.rs 6 n g)] [] 0 [],Wo trivial ⟨⟨rfl,rfl,rfl,rfl,rfl,rfl,rfl,rfl,rfl,rfl,rfl,rfl,qW,qW,qQ⟩,qW,qQ⟩ trivial,?_⟩
  have v1:grtF lo hi k (pn c) (fun i=>pts (pg c i)) l=false→PV.val (.bool (anyP (fun i=>bigP (pts g i)) n))=PV.val (.bool X):=fun h=>by rw [e,hA,h];rfl
  have v2:grtF lo hi k (pn c) (fun i=>pts (pg c i)) l=true→PV.val (.bool true)=PV.val (.bool X):=fun h=>by rw [e,hA,h];rfl
  with_unfolding_all exact⟨hx,fun h1=>⟨hg,⟨[],stOf [(4,.val (.bool X))] [] 0 [],Wo trivial ⟨v1 h1,qQ⟩ trivial,rfl,rfl⟩⟩,fun h1=>⟨[],stOf [(4,.val (.bool X))] [] 0 [],Wo trivial ⟨v2 h1,qQ⟩ trivial,rfl,rfl⟩⟩
 ·cases e
def c17:List PV→Option Ans
 |[.agg xs,.rs 6 n g]=>some ⟨some (isRg 140737488355328 xs∧isPL 140737488355328 n g),.val (.bool (fineA xs n g)),[]⟩
 |_=>none
def D17:Opt:={  }
theorem ok17:funcOk D17.toOrd Tryz.f17 2=true:=by kernel_rfl
theorem f17:FnOk Tryz.prog 17 c17:=by
 refine FnOk.ofW orders (mkE_ok (l:=[(12,c12),(58,c58),(65,c65_66)]) (own:=[]) (inl:=[]) (by simp [f12,f58,f65_66]) (by simp)) Tryz.func17 D17 2 ok17 fun args r e=>?_
 unfold c17 at e
 split at e
 ·rename_i xs n g
  cases e
  refine⟨by simp,fun hm=>?_⟩
  obtain⟨⟨h1,hrest⟩,hg⟩:=hm _ rfl
  have hx:isRg 140737488355328 xs:=⟨h1,hrest⟩
  obtain⟨X,hX⟩:∃X,X=fineA xs n g:=⟨_,rfl⟩
  rw [←hX]
  have e:X=((!grtA xs n g&&(reg13 xs==0))&&!anyP (fun i=>!canonP (pts g i)) n):=hX
  clear hX
  have p1:(!grtA xs n g)=true→isRg 10000 xs:=fun h=>by
   have h:grtA xs n g=false:=by simpa using h
   unfold grtA at h
   rw [Bool.or_eq_false_iff] at h
   exact(grtF_rg h.1 hx).mono (by decide)
  have p2:(!grtA xs n g)=true→isPL 4294967296 n g:=fun h=>by
   have h:grtA xs n g=false:=by simpa using h
   unfold grtA at h
   rw [Bool.or_eq_false_iff] at h
   exact(bigL_pl h.2 hg).mono (by decide)
  have v1:(!grtA xs n g)=true→(reg13 xs==0)=true→PV.val (.bool (!anyP (fun i=>!canonP (pts g i)) n))=PV.val (.bool X):=fun h h'=>by rw [e,h,h'];rfl
  have v2:(!grtA xs n g)=true→(reg13 xs==0)=false→PV.val (.bool false)=PV.val (.bool X):=fun h h'=>by rw [e,h,h'];rfl
  have v3:(!grtA xs n g)=false→PV.val (.bool false)=PV.val (.bool X):=fun h=>by rw [e,h];rfl
  clear e
  generalize gLo xs=lo at *
  generalize gHi xs=hi at *
  generalize gK xs=k at *
  generalize gC xs=c at *
  generalize gL xs=l at *
  generalize gO xs=o at *
  subst h1
  clear hm
  refine⟨[],stOf [(0,.agg (regC lo hi k c l o)),(1,.rs 6 n g)] [] 0 [],Wo trivial ⟨⟨rfl,rfl,rfl,rfl,rfl,rfl,rfl,rfl,rfl,rfl,rfl,rfl,qW,qW,qQ⟩,qW,qQ⟩ trivial,?_⟩
  with_unfolding_all exact⟨⟨hx,hg⟩,fun h1=>⟨p1 h1,fun h2=>⟨p2 h1,⟨[],stOf [(4,.val (.bool X))] [] 0 [],Wo trivial ⟨v1 h1 h2,qQ⟩ trivial,rfl,rfl⟩⟩,fun h2=>⟨[],stOf [(4,.val (.bool X))] [] 0 [],Wo trivial ⟨v2 h1 h2,qQ⟩ trivial,rfl,rfl⟩⟩,fun h1=>⟨fun h=>(nomatch h),fun _=>⟨[],stOf [(4,.val (.bool X))] [] 0 [],Wo trivial ⟨v3 h1,qQ⟩ trivial,rfl,rfl⟩⟩⟩
 ·cases e
def c71:List PV→Option Ans
 |[.agg xs,.val v]=>some ⟨some (isRg 10000 xs∧isPk 10000 v),.val (.tuple ⟨[.int .i64 (blkI (okB (gLo xs) (gHi xs) (gK xs) (gC xs) (gL xs) (gO xs) (segV (rdV v) (rdV v))) (partsC (gLo xs) (gHi xs) (gK xs) (gC xs) (segV (rdV v) (rdV v)))),.bool (okB (gLo xs) (gHi xs) (gK xs) (gC xs) (gL xs) (gO xs) (segV (rdV v) (rdV v))&&!(partsC (gLo xs) (gHi xs) (gK xs) (gC xs) (segV (rdV v) (rdV v))).isEmpty),.int .i64 (okW (okB (gLo xs) (gHi xs) (gK xs) (gC xs) (gL xs) (gO xs) (segV (rdV v) (rdV v))))]⟩),[]⟩
 |_=>none
def D71:Opt:={  }
theorem ok71:funcOk D71.toOrd Tryz.f71 2=true:=by kernel_rfl
theorem f71:FnOk Tryz.prog 71 c71:=by
 refine FnOk.ofW orders (mkE_ok (l:=[(91,c91)]) (own:=[]) (inl:=[]) (by simp [f91]) (by simp)) Tryz.func71 D71 2 ok71 fun args r e=>?_
 unfold c71 at e
 split at e
 ·rename_i xs v
  cases e
  refine⟨by simp,fun hm=>?_⟩
  obtain⟨⟨h1,⟨hlo,hhi⟩,hcl,hol⟩,a,rfl,ha⟩:=hm _ rfl
  generalize gLo xs=lo at *
  generalize gHi xs=hi at *
  generalize gK xs=k at *
  generalize gC xs=c at *
  generalize gL xs=l at *
  generalize gO xs=o at *
  subst h1
  clear hm
  refine⟨[],stOf [(0,.agg (regC lo hi k c l o)),(1,.val a.v)] [] 0 [],Wo trivial ⟨⟨rfl,rfl,rfl,rfl,rfl,rfl,rfl,rfl,rfl,rfl,rfl,rfl,qW,qW,qQ⟩,rfl,qQ⟩ trivial,?_⟩
  have pre:((lo.le 10000∧hi.le 10000)∧isCL 10000 k (fun i=>[.rs 6 (pn c i) (pg c i)])∧isOL l (fun i=>cellsO (ow o i)))∧isSeg 10000 (segV a a):=⟨⟨⟨hlo,hhi⟩,⟨fun i hi=>⟨rfl,(hcl.1 i hi).2⟩,hcl.2⟩,fun _ _=>rfl,hol.2⟩,a,a,rfl,ha,ha⟩
  obtain⟨OK,hOK⟩:∃OK,OK=okB lo hi k c l o (segV a a):=⟨_,rfl⟩
  obtain⟨PC,hPC⟩:∃PC,PC=partsC lo hi k c (segV a a):=⟨_,rfl⟩
  have e1:okB lo hi k c l o (segV (rdV a.v) (rdV a.v))=OK:=hOK.symm
  have e2:partsC lo hi k c (segV (rdV a.v) (rdV a.v))=PC:=hPC.symm
  rw [e1,e2]
  have e3:okB lo hi k (fun i=>[.rs 6 (pn c i) (pg c i)]) l (fun i=>cellsO (ow o i)) (segV a a)=OK:=hOK.symm
  have e4:partsC lo hi k (fun i=>[.rs 6 (pn c i) (pg c i)]) (segV a a)=PC:=hPC.symm
  have w1:PV.val (.int .i64 (blkI (okB lo hi k (fun i=>[.rs 6 (pn c i) (pg c i)]) l (fun i=>cellsO (ow o i)) (segV a a)) (partsC lo hi k (fun i=>[.rs 6 (pn c i) (pg c i)]) (segV a a))))=PV.val (.int .i64 (blkI OK PC)):=by rw [e3,e4]
  have w2:PV.val (.bool (okB lo hi k (fun i=>[.rs 6 (pn c i) (pg c i)]) l (fun i=>cellsO (ow o i)) (segV a a)&&!(partsC lo hi k (fun i=>[.rs 6 (pn c i) (pg c i)]) (segV a a)).isEmpty))=PV.val (.bool (OK&&!PC.isEmpty)):=by rw [e3,e4]
  have w3:PV.val (.int .i64 (okW (okB lo hi k (fun i=>[.rs 6 (pn c i) (pg c i)]) l (fun i=>cellsO (ow o i)) (segV a a))))=PV.val (.int .i64 (okW OK)):=by rw [e3]
  clear hOK hPC e1 e2 e3 e4
  with_unfolding_all exact⟨pre,[],stOf [(4,.val (.int .i64 (blkI OK PC))),(5,.val (.bool (OK&&!PC.isEmpty))),(6,.val (.int .i64 (okW OK)))] [] 0 [],Wo trivial ⟨w1,w2,w3,qQ⟩ trivial,rfl,rfl⟩
 ·cases e
def c26:List PV→Option Ans
 |[.agg xs,.val v]=>some ⟨some (isRg 10000 xs∧isPk 10000 v),.val (.bool (seeB (gLo xs) (gHi xs) (gK xs) (gC xs) (gL xs) (gO xs) (rdV v) (rdV v))),[]⟩
 |_=>none
def D26:Opt:={  }
theorem ok26:funcOk D26.toOrd Tryz.f26 2=true:=by kernel_rfl
theorem f26:FnOk Tryz.prog 26 c26:=by
 refine FnOk.ofW orders (mkE_ok (l:=[(71,c71)]) (own:=[]) (inl:=[]) (by simp [f71]) (by simp)) Tryz.func26 D26 2 ok26 fun args r e=>?_
 unfold c26 at e
 split at e
 ·rename_i xs v
  cases e
  refine⟨by simp,fun hm=>?_⟩
  obtain⟨⟨h1,hrest⟩,a,rfl,ha⟩:=hm _ rfl
  have hx:isRg 10000 xs:=⟨h1,hrest⟩
  have pa:isPk 10000 a.v:=⟨a,rfl,ha⟩
  generalize gLo xs=lo at *
  generalize gHi xs=hi at *
  generalize gK xs=k at *
  generalize gC xs=c at *
  generalize gL xs=l at *
  generalize gO xs=o at *
  subst h1
  clear hm
  refine⟨[],stOf [(0,.agg (regC lo hi k c l o)),(1,.val a.v)] [] 0 [],Wo trivial ⟨⟨rfl,rfl,rfl,rfl,rfl,rfl,rfl,rfl,rfl,rfl,rfl,rfl,qW,qW,qQ⟩,rfl,qQ⟩ trivial,?_⟩
  obtain⟨X,hX⟩:∃X,X=seeB lo hi k c l o a a:=⟨_,rfl⟩
  have hx2:seeB lo hi k c l o (rdV a.v) (rdV a.v)=X:=hX.symm
  rw [hx2]
  have v1:(okW (okB lo hi k c l o (segV a a))==0)=true→PV.val (.bool (!(okB lo hi k c l o (segV a a)&&!(partsC lo hi k c (segV a a)).isEmpty)))=PV.val (.bool X):=fun h=>by
   have h:okB lo hi k c l o (segV a a)=true:=by
    cases hb:okB lo hi k c l o (segV a a) with
    |true=>rfl
    |false =>
     rw [hb] at h
     cases h
   rw [hX,seeB,h,Bool.true_and,Bool.true_and,Bool.not_not]
  have v2:(okW (okB lo hi k c l o (segV a a))==0)=false→PV.val (.bool false)=PV.val (.bool X):=fun h=>by
   have h:okB lo hi k c l o (segV a a)=false:=by
    cases hb:okB lo hi k c l o (segV a a) with
    |false=>rfl
    |true =>
     rw [hb] at h
     cases h
   rw [hX,seeB,h,Bool.false_and]
  with_unfolding_all exact⟨⟨hx,pa⟩,fun h1=>⟨[],stOf [(4,.val (.bool X))] [] 0 [],Wo trivial ⟨v1 h1,qQ⟩ trivial,rfl,rfl⟩,fun h1=>⟨[],stOf [(4,.val (.bool X))] [] 0 [],Wo trivial ⟨v2 h1,qQ⟩ trivial,rfl,rfl⟩⟩
 ·cases e
end Go.Proofs
namespace Go.Num
open Go Go.Ex Go.Proofs
theorem rat_pos_of {c v:Rat} (h:0 < c*v) (hv:0 < v):0 < c:=by
 rcases Rat.le_total (a:=c) (b:=0) with h1|h1
 ·have:=Rat.mul_nonneg (show 0 ≤ -c by grind) (show 0≤v by grind)
  grind
 ·by_cases e:c=0
  ·subst e;grind
  ·grind
def tri (a b c x y z:Rat):Rat:=(b - a)*(z - x) - (y - x)*(c - a)
def dt (X Y:Nat→Rat) (i j k:Nat):Rat:=tri (X i) (X j) (X k) (Y i) (Y j) (Y k)
theorem half_trans {u1 u2 v1 v2 w1 w2:Rat} (hu:0 < u1∨(u1=0∧0 < u2)) (hv:0 < v1∨(v1=0∧0 < v2)) (hw:0 < w1∨(w1=0∧0 < w2)) (h1:0 < u1*v2 - u2*v1) (h2:0 < v1*w2 - v2*w1):0 < u1*w2 - u2*w1:=by
 have hv1:0 < v1:=by
  rcases hv with h|⟨h,k⟩
  ·exact h
  ·subst h
   rcases hw with h3|⟨h3,_⟩
   ·have:=Rat.mul_pos k h3
    grind
   ·subst h3;grind
 have hu1:0 < u1:=by
  rcases hu with h|⟨h,k⟩
  ·exact h
  ·subst h
   have:=Rat.mul_pos k hv1
   grind
 have hw1:0≤w1:=by
  rcases hw with h|⟨h,_⟩
  ·grind
  ·grind
 have k1:=Rat.mul_nonneg (Rat.le_of_lt h1) hw1
 have k2:=Rat.mul_pos h2 hu1
 refine rat_pos_of (v:=v1) ?_ hv1
 have e:(u1*w2 - u2*w1)*v1=(u1*v2 - u2*v1)*w1+(v1*w2 - v2*w1)*u1:=by grind
 rw [e]
 grind
theorem four1 (X Y:Nat→Rat) (a b c d:Nat):dt X Y a b d*dt X Y 0 b c=dt X Y a b c*dt X Y 0 b d+dt X Y 0 a b*dt X Y b c d:=by
 unfold dt tri
 generalize X 0=x0,X a=xa,X b=xb,X c=xc,X d=xd,Y 0=y0,Y a=ya,Y b=yb,Y c=yc,Y d=yd
 grind
theorem four2 (X Y:Nat→Rat) (a b c d:Nat):dt X Y a c d*dt X Y 0 b c=dt X Y a b c*dt X Y 0 c d+dt X Y 0 a c*dt X Y b c d:=by
 unfold dt tri
 generalize X 0=x0,X a=xa,X b=xb,X c=xc,X d=xd,Y 0=y0,Y a=ya,Y b=yb,Y c=yc,Y d=yd
 grind
theorem dt_rot (X Y:Nat→Rat) (i j k:Nat):dt X Y j k i=dt X Y i j k:=by
 unfold dt tri
 generalize X i=xa,X j=xb,X k=xc,Y i=ya,Y j=yb,Y k=yc
 grind
theorem convex_all {X Y:Nat→Rat} {n:Nat} (h0:∀i,0 < i→i < n→X 0 < X i∨(X i=X 0∧Y 0 < Y i)) (h1:∀i,i+2 < n→0 < dt X Y i (i+1) (i+2)) (h2:∀i,0 < i→i+1 < n→0 < dt X Y 0 i (i+1)) :
  ∀i j k,i < j→j < k→k < n→0 < dt X Y i j k:=by
 have hH:∀i,0 < i→i < n→0 < X i - X 0∨(X i - X 0=0∧0 < Y i - Y 0):=fun i a b=>by
  rcases h0 i a b with h|⟨h,k⟩
  ·exact .inl (by grind)
  ·exact .inr ⟨by grind,by grind⟩
 have fan:∀d i,0 < i→i+1+d < n→0 < dt X Y 0 i (i+1+d):=fun d=>by
  induction d with
  |zero=>exact fun i a b=>h2 i a b
  |succ d ih =>
   intro i a b
   have k1:=ih i a (by omega)
   have k2:=h2 (i+1+d) (by omega) (by omega)
   exact half_trans (hH i a (by omega)) (hH (i+1+d) (by omega) (by omega)) (hH (i+1+d+1) (by omega) (by omega)) k1 k2
 have fan':∀i j,0 < i→i < j→j < n→0 < dt X Y 0 i j:=fun i j a b c=>by
  have:=fan (j - (i+1)) i a (by omega)
  rwa [show i+1+(j - (i+1))=j by omega] at this
 have span:∀m i j k,0 < i→i < j→j < k→k < n→k - i≤m→0 < dt X Y i j k:=fun m=>by
  induction m with
  |zero=>intro i j k _ a b _ d;omega
  |succ m ih =>
   intro i j k hi a b c d
   by_cases e1:j+1=k
   ·subst e1
    by_cases e2:i+1=j
    ·subst e2
     exact h1 i (by omega)
    ·have t1:=ih i (i+1) j hi (by omega) (by omega) (by omega) (by omega)
     have t2:=ih (i+1) j (j+1) (by omega) (by omega) (by omega) (by omega) (by omega)
     refine rat_pos_of (v:=dt X Y 0 (i+1) j) ?_ (fan' (i+1) j (by omega) (by omega) (by omega))
     rw [four2]
     have s1:=Rat.mul_pos t1 (fan' j (j+1) (by omega) (by omega) (by omega))
     have s2:=Rat.mul_pos (fan' i j hi a (by omega)) t2
     grind
   ·have t1:=ih i j (k - 1) hi a (by omega) (by omega) (by omega)
    have t2:=ih j (k - 1) k (by omega) (by omega) (by omega) (by omega) (by omega)
    refine rat_pos_of (v:=dt X Y 0 j (k - 1)) ?_ (fan' j (k - 1) (by omega) (by omega) (by omega))
    rw [four1]
    have s1:=Rat.mul_pos t1 (fan' j k (by omega) b c)
    have s2:=Rat.mul_pos (fan' i j hi a (by omega)) t2
    grind
 intro i j k a b c
 rcases Nat.eq_zero_or_pos i with rfl|hi
 ·exact fan' j k a b c
 ·exact span (k - i) i j k hi a b c (Nat.le_refl _)
theorem convex_edge {X Y:Nat→Rat} {n:Nat} (hn:3≤n) (h:∀i j k,i < j→j < k→k < n→0 < dt X Y i j k) {e i:Nat} (he:e < n) (hi:i < n) (h1:i≠e) (h2:i≠(e+1)%n):0 < dt X Y e ((e+1)%n) i:=by
 by_cases hl:e+1 < n
 ·rw [Nat.mod_eq_of_lt hl] at h2 ⊢
  rcases Nat.lt_or_ge i e with h3|h3
  ·rw [dt_rot]
   exact h i e (e+1) h3 (by omega) hl
  ·exact h e (e+1) i (by omega) (by omega) hi
 ·have e1:e+1=n:=by omega
  rw [e1,Nat.mod_self] at h2 ⊢
  rw [←dt_rot]
  exact h 0 i e (by omega) (by omega) he
end Go.Num
namespace Go.Num
open Go Go.Ex Go.Proofs
theorem cmpQ_le {a:Rat}:decide (cmpQ a 0≤0)=false↔0 < a:=by
 rw [decide_eq_false_iff_not]
 unfold cmpQ
 split
 ·rename_i h
  exact⟨fun k=>absurd (show(-1:Int)≤0 by decide) k,fun k=>by grind⟩
 ·split
  ·rename_i h
   exact⟨fun _=>h,fun _=>by decide⟩
  ·rename_i h
   exact⟨fun k=>absurd (show(0:Int)≤0 by decide) k,fun k=>absurd k h⟩
theorem cmpQ_gt {a:Rat}:decide (cmpQ a 0 > 0)=true↔0 < a:=by
 rw [decide_eq_true_iff]
 unfold cmpQ
 split
 ·rename_i h
  exact⟨fun k=>absurd k (by decide),fun k=>by grind⟩
 ·split
  ·rename_i h
   exact⟨fun _=>h,fun _=>by decide⟩
  ·rename_i h
   exact⟨fun k=>absurd k (by decide),fun k=>absurd k h⟩
theorem orP_dt (p:Nat→PtS) (i j k:Nat):orP (p i) (p j) (p k)=cmpQ (dt (fun i=>(p i).X) (fun i=>(p i).Y) i j k) 0:=by
 unfold orP crossP subP
 rw [ptQ_X,ptQ_Y,ptQ_X,ptQ_Y]
 rfl
theorem eqR_refl (p:RatS):eqR p p=true:=by
 have h:∀x:ByteArray,(x==x)=true:=fun⟨x⟩=>by
  show(x==x)=true
  exact beq_self_eq_true x
 unfold eqR
 rw [beq_self_eq_true,h,h]
 rfl
theorem eqP_refl (p:PtS):eqP p p=true:=by
 unfold eqP
 rw [eqR_refl,eqR_refl]
 rfl
theorem cmpP_lt {p u:PtS} (h:cmpP p u < 0):p.X < u.X∨(u.X=p.X∧p.Y < u.Y):=by
 unfold cmpP at h
 split at h
 ·rename_i h0
  unfold cmpQ at h h0
  right
  split at h
  ·rename_i h1
   refine⟨?_,h1⟩
   split at h0
   ·cases h0
   ·split at h0
    ·cases h0
    ·grind
  ·split at h
   ·exact absurd h (by decide)
   ·exact absurd h (by decide)
 ·unfold cmpQ at h
  split at h
  ·rename_i h1
   exact .inl h1
  ·split at h
   ·exact absurd h (by decide)
   ·exact absurd h (by decide)
theorem cmpP_gt {p u:PtS} (h:p.X < u.X∨(u.X=p.X∧p.Y < u.Y)):¬cmpP u p≤0:=by
 unfold cmpP cmpQ
 rcases h with h|⟨h,k⟩
 ·have h1:¬u.X < p.X:=by grind
  rw [if_neg h1,if_pos h,if_neg (show ¬(1:Int)=0 by decide)]
  decide
 ·have h1:¬u.Y < p.Y:=by grind
  rw [h,if_neg Rat.lt_irrefl,if_neg Rat.lt_irrefl,if_pos rfl,if_neg h1,if_pos k]
  decide
theorem chk13_ring {n:Nat} {p:Nat→PtS} (h:chk13 n p=0):ringE n p=0:=by
 unfold chk13 at h
 unfold ringE
 cases h1:(decide (n < 3)||decide (64 < n)) with
 |true=>rw [h1] at h;cases h
 |false =>
  rw [h1,cond_false] at h
  rw [cond_false]
  cases h2:anyP (fun i=>!canonP (p i)) n with
  |true=>rw [h2] at h;cases h
  |false =>
   rw [h2,cond_false] at h
   rw [cond_false]
   cases h3:anyP (ge0 p) (n - 1) with
   |true=>rw [h3] at h;cases h
   |false =>
    rw [h3,cond_false] at h
    cases h4:anyP (bad13 n p) n with
    |true=>rw [h4] at h;cases h
    |false =>
     have hn:3≤n:=by
      rw [Bool.or_eq_false_iff,decide_eq_false_iff_not] at h1
      omega
     have k0:∀i,0 < i→i < n→(p 0).X < (p i).X∨((p i).X=(p 0).X∧(p 0).Y < (p i).Y):=fun i a b=>by
      have:=(anyP_false.1 h3) (i - 1) (by omega)
      unfold ge0 at this
      rw [decide_eq_false_iff_not,show 1+(i - 1)=i by omega] at this
      exact cmpP_lt (by omega)
     have k1:∀i,i+2 < n→0 < dt (fun i=>(p i).X) (fun i=>(p i).Y) i (i+1) (i+2):=fun i a=>by
      have:=(anyP_false.1 h4) i (by omega)
      unfold bad13 at this
      rw [Bool.or_eq_false_iff,Nat.mod_eq_of_lt (by omega),Nat.mod_eq_of_lt (by omega),orP_dt] at this
      exact cmpQ_le.1 this.1
     have k2:∀i,0 < i→i+1 < n→0 < dt (fun i=>(p i).X) (fun i=>(p i).Y) 0 i (i+1):=fun i a b=>by
      have:=(anyP_false.1 h4) i (by omega)
      unfold bad13 at this
      rw [Bool.or_eq_false_iff,decide_eq_true a,decide_eq_true b,Bool.true_and,Bool.true_and,orP_dt p 0 i (i+1)] at this
      exact cmpQ_le.1 this.2
     have hall:=convex_all (X:=fun i=>(p i).X) (Y:=fun i=>(p i).Y) (n:=n) k0 k1 k2
     rw [anyP_false.2 fun i hi=>?_,cond_false,anyP_false.2 fun e he=>anyP_false.2 fun i hi=>?_]
     ·rfl
     ·unfold badV
      by_cases e1:i=e
      ·rw [e1,eqP_refl]
       rfl
      ·by_cases e2:i=(e+1)%n
       ·rw [←e2,eqP_refl,Bool.not_true,Bool.and_false]
        rfl
       ·rw [orP_dt p e ((e+1)%n) i,cmpQ_le.2 (convex_edge hn hall he hi e1 e2),Bool.and_false]
     ·unfold le0
      exact decide_eq_false (cmpP_gt (k0 (1+i) (by omega) (by omega)))
theorem firstE_zero {r r':Nat→Int}:∀{k i:Nat},(∀j,i≤j→j < i+k→r j=0→r' j=0)→firstE r k i=0→firstE r' k i=0
 |0,_,_,_=>rfl
 |k+1,i,h,e=>by
  unfold firstE at e ⊢
  cases h0:(r i==0) with
  |true =>
   rw [h0,cond_true] at e
   rw [h i (Nat.le_refl _) (by omega) (eq_of_beq h0)]
   exact firstE_zero (fun j a b=>h j (by omega) (by omega)) e
  |false =>
   rw [h0,cond_false] at e
   rw [e] at h0
   cases h0
theorem regR_zero {lo hi:PtS} {k:Nat} {n:Nat→Nat} {r r':Nat→Int} {l:Nat} {q:Nat→Int×Int×Int} (h:∀j,j < k→r j=0→r' j=0) (e:regR lo hi k n r l q=0):regR lo hi k n r' l q=0:=by
 unfold regR at e ⊢
 cases h1:(!canonP lo||!canonP hi) with
 |true=>rw [h1] at e;cases e
 |false =>
  rw [h1,cond_false] at e
  cases h2:decide (32 < k) with
  |true=>rw [h2] at e;cases e
  |false =>
   rw [h2,cond_false] at e
   have hz:firstE r k 0=0:=by
    cases h3:(firstE r k 0==0) with
    |true=>exact eq_of_beq h3
    |false=>rw [h3] at e;exact e
   rw [hz] at e
   rw [firstE_zero (fun j _ b=>h j (by omega)) hz]
   exact e
theorem reg13_E {xs:List PV} (h:reg13 xs=0):regE (gLo xs) (gHi xs) (gK xs) (pn (gC xs)) (fun i=>pts (pg (gC xs) i)) (gL xs) (ow (gO xs))=0:=by
 rw [regE_R]
 exact regR_zero (fun j _ hj=>chk13_ring hj) h
end Go.Num
namespace Go.Num
open Go Go.Ex Go.Proofs
def Hit (n:Nat) (A B:Nat→Rat):Prop:=∃t:Rat,0 < t∧t < 1∧∀e,e < n→0 < A e+(B e - A e)*t
theorem Hit.symm {n:Nat} {A B:Nat→Rat} (h:Hit n A B):Hit n B A:=by
 obtain⟨t,h1,h2,h3⟩:=h
 refine⟨1 - t,by grind,by grind,fun e he=>?_⟩
 have:=h3 e he
 grind
theorem near_one {A B:Rat} (h:0 < A):∃t:Rat,0 < t∧t < 1∧∀s:Rat,0 < s→s≤t→0 < A+(B - A)*s:=by
 by_cases hB:0≤B
 ·refine⟨1 / 2,by grind,by grind,fun s h1 h2=>?_⟩
  have k1:=Rat.mul_nonneg hB (Rat.le_of_lt h1)
  have k2:=Rat.mul_pos h (show 0 < 1 - s by grind)
  grind
 ·have hd:0 < A - B:=by grind
  have hi:0 < (A - B)⁻¹:=Rat.inv_pos.2 hd
  have e:(A - B)*(A - B)⁻¹ = 1:=Rat.mul_inv_cancel _ (by grind)
  have k0:=Rat.mul_pos h hi
  have k1:A*(A - B)⁻¹ < 1:=by
   have:=Rat.mul_pos (show 0 < -B by grind) hi
   grind
  refine⟨A*(A - B)⁻¹*(1 / 2),by grind,by grind,fun s h1 h2=>?_⟩
  have k2:=Rat.mul_nonneg (Rat.le_of_lt hd) (show 0≤A*(A - B)⁻¹*(1 / 2) - s by grind)
  have k3:(A - B)*(A*(A - B)⁻¹*(1 / 2) - s)=A*(1 / 2) - (A - B)*s:=by
   have:(A - B)*(A*(A - B)⁻¹*(1 / 2))=A*(1 / 2)*((A - B)*(A - B)⁻¹):=by grind
   grind
  grind
theorem near_all {A B:Nat→Rat}:∀{n:Nat},(∀e,e < n→0 < A e)→∃t:Rat,0 < t∧t < 1∧∀e,e < n→∀s:Rat,0 < s→s≤t→0 < A e+(B e - A e)*s
 |0,_=>⟨1 / 2,by grind,by grind,fun e he=>absurd he (Nat.not_lt_zero e)⟩
 |n+1,h=>by
  obtain⟨t,h1,h2,h3⟩:=near_all (A:=A) (B:=B) (n:=n) fun e he=>h e (by omega)
  obtain⟨u,k1,k2,k3⟩:=near_one (B:=B n) (h n (by omega))
  refine⟨if t≤u then t else u,by split<;>assumption,by split<;>assumption,fun e he s hs hst=>?_⟩
  by_cases hen:e=n
  ·subst hen
   exact k3 s hs (by split at hst<;>grind)
  ·exact h3 e (by omega) s hs (by split at hst<;>grind)
theorem Hit.near {n:Nat} {A B:Nat→Rat} (h:∀e,e < n→0 < A e):Hit n A B:=by
 obtain⟨t,h1,h2,h3⟩:=near_all (A:=A) (B:=B) h
 exact⟨t,h1,h2,fun e he=>h3 e he t h1 Rat.le_refl⟩
theorem Hit.part {n:Nat} {A B C:Nat→Rat} {q:Rat} (h:¬Hit n A B) (h0:0≤q) (h1:q≤1) (hC:∀e,e < n→C e=A e+(B e - A e)*q):¬Hit n A C:=by
 rintro ⟨t,k0,k1,k2⟩
 refine h ?_
 by_cases hq:q=0
 ·refine Hit.near fun e he=>?_
  have:=k2 e he
  rw [hC e he,hq] at this
  grind
 ·have hq':0 < q:=by grind
  refine⟨q*t,Rat.mul_pos hq' k0,?_,fun e he=>?_⟩
  ·have:=Rat.mul_pos hq' (show 0 < 1 - t by grind)
   grind
  ·have:=k2 e he
   rw [hC e he] at this
   grind
theorem stepQ_none {x y:Rat} {s:Rat×Rat} (h:stepQ x y s=none) {t:Rat} (h0:0 < t) (h1:t < 1):¬0 < x+(y - x)*t:=by
 unfold stepQ at h
 cases c1:decide (cmpQ x 0 > 0) with
 |true =>
  rw [c1] at h
  cases c2:decide (cmpQ y 0 > 0) with
  |true=>rw [c2] at h;cases h
  |false=>rw [c2] at h;cases h
 |false =>
  cases c2:decide (cmpQ y 0 > 0) with
  |true=>rw [c1,c2] at h;cases h
  |false =>
   have e1:¬0 < x:=fun k=>by rw [cmpQ_gt.2 k] at c1;cases c1
   have e2:¬0 < y:=fun k=>by rw [cmpQ_gt.2 k] at c2;cases c2
   have k1:=Rat.mul_nonneg (show 0 ≤ -x by grind) (show 0≤1 - t by grind)
   have k2:=Rat.mul_nonneg (show 0 ≤ -y by grind) (Rat.le_of_lt h0)
   grind
theorem cmpQ_gt2 {a b:Rat}:decide (cmpQ a b > 0)=true↔b < a:=by
 rw [decide_eq_true_iff]
 unfold cmpQ
 split
 ·rename_i h
  exact⟨fun k=>absurd k (by decide),fun k=>by grind⟩
 ·split
  ·rename_i h
   exact⟨fun _=>h,fun _=>by decide⟩
  ·rename_i h
   exact⟨fun k=>absurd k (by decide),fun k=>absurd k h⟩
theorem cmpQ_lt2 {a b:Rat}:decide (cmpQ a b < 0)=true↔a < b:=by
 rw [decide_eq_true_iff]
 unfold cmpQ
 split
 ·rename_i h
  exact⟨fun _=>h,fun _=>by decide⟩
 ·split
  ·rename_i h h2
   exact⟨fun k=>absurd k (by decide),fun k=>absurd k h⟩
  ·rename_i h h2
   exact⟨fun k=>absurd k (by decide),fun k=>absurd k h⟩
theorem div_lt_iff' {x y t:Rat} (h:0 < x - y):t < x / (x - y)↔0 < x+(y - x)*t:=by
 have hi:0 < (x - y)⁻¹:=Rat.inv_pos.2 h
 have e:(x - y)*(x - y)⁻¹ = 1:=Rat.mul_inv_cancel _ (by grind)
 rw [Rat.div_def]
 constructor
 ·intro k
  have:=Rat.mul_pos (show 0 < x*(x - y)⁻¹ - t by grind) h
  have e2:(x*(x - y)⁻¹ - t)*(x - y)=x*((x - y)*(x - y)⁻¹) - t*(x - y):=by grind
  rw [e2,e] at this
  grind
 ·intro k
  have:=Rat.mul_pos k hi
  have e2:(x+(y - x)*t)*(x - y)⁻¹ = x*(x - y)⁻¹ - t*((x - y)*(x - y)⁻¹):=by grind
  rw [e2,e] at this
  grind
theorem lt_div_iff' {x y t:Rat} (h:x - y < 0):x / (x - y) < t↔0 < x+(y - x)*t:=by
 have hd:0 < y - x:=by grind
 have hi:0 < (y - x)⁻¹:=Rat.inv_pos.2 hd
 have e:(y - x)*(y - x)⁻¹ = 1:=Rat.mul_inv_cancel _ (by grind)
 have e0:x / (x - y) = -x*(y - x)⁻¹:=by
  rw [Rat.div_def]
  have n1:(x - y)*(x - y)⁻¹ = 1:=Rat.mul_inv_cancel _ (by grind)
  have:(x - y)⁻¹ = -(y - x)⁻¹:=by
   have k:(x - y)⁻¹*((y - x)*(y - x)⁻¹)=(x - y)⁻¹:=by rw [e,Rat.mul_one]
   have k2:(x - y)⁻¹*((y - x)*(y - x)⁻¹) = -((x - y)*(x - y)⁻¹)*(y - x)⁻¹:=by grind
   rw [n1] at k2
   grind
  rw [this]
  grind
 rw [e0]
 constructor
 ·intro k
  have:=Rat.mul_pos (show 0 < t - -x*(y - x)⁻¹ by grind) hd
  have e2:(t - -x*(y - x)⁻¹)*(y - x)=t*(y - x)+x*((y - x)*(y - x)⁻¹):=by grind
  rw [e2,e] at this
  grind
 ·intro k
  have:=Rat.mul_pos k hi
  have e2:(x+(y - x)*t)*(y - x)⁻¹ = x*(y - x)⁻¹+t*((y - x)*(y - x)⁻¹):=by grind
  rw [e2,e] at this
  grind
theorem stepQ_some {x y:Rat} {s s':Rat×Rat} (h:stepQ x y s=some s'):(s.1≤s'.1∧s'.2≤s.2)∧∀t:Rat,0 < t→t < 1→(s'.1 < t∧t < s'.2↔(s.1 < t∧t < s.2)∧0 < x+(y - x)*t):=by
 unfold stepQ at h
 cases c1:decide (cmpQ x 0 > 0) with
 |true =>
  have e1:=cmpQ_gt.1 c1
  rw [c1] at h
  cases c2:decide (cmpQ y 0 > 0) with
  |true =>
   have e2:=cmpQ_gt.1 c2
   rw [c2] at h
   cases h
   refine⟨⟨Rat.le_refl,Rat.le_refl⟩,fun t h0 h1=>⟨fun k=>⟨k,?_⟩,fun k=>k.1⟩⟩
   have k1:=Rat.mul_pos e1 (show 0 < 1 - t by grind)
   have k2:=Rat.mul_pos e2 h0
   grind
  |false =>
   have e2:¬0 < y:=fun k=>by rw [cmpQ_gt.2 k] at c2;cases c2
   rw [c2] at h
   have hl:=fun t=>div_lt_iff' (x:=x) (y:=y) (t:=t) (by grind)
   cases c3:decide (cmpQ (x / (x - y)) s.2 < 0) with
   |true =>
    have e3:=cmpQ_lt2.1 c3
    rw [c3] at h
    cases h
    refine⟨⟨Rat.le_refl,Rat.le_of_lt e3⟩,fun t h0 h1=>⟨fun k=>⟨⟨k.1,?_⟩,(hl t).1 k.2⟩,fun k=>⟨k.1.1,(hl t).2 k.2⟩⟩⟩
    have:t < x / (x - y):=k.2
    grind
   |false =>
    have e3:¬x / (x - y) < s.2:=fun k=>by rw [cmpQ_lt2.2 k] at c3;cases c3
    rw [c3] at h
    cases h
    refine⟨⟨Rat.le_refl,Rat.le_refl⟩,fun t h0 h1=>⟨fun k=>⟨k,(hl t).1 ?_⟩,fun k=>k.1⟩⟩
    have:t < s.2:=k.2
    grind
 |false =>
  have e1:¬0 < x:=fun k=>by rw [cmpQ_gt.2 k] at c1;cases c1
  rw [c1] at h
  cases c2:decide (cmpQ y 0 > 0) with
  |false=>rw [c2] at h;cases h
  |true =>
   have e2:=cmpQ_gt.1 c2
   rw [c2] at h
   have hl:=fun t=>lt_div_iff' (x:=x) (y:=y) (t:=t) (by grind)
   cases c3:decide (cmpQ (x / (x - y)) s.1 > 0) with
   |true =>
    have e3:=cmpQ_gt2.1 c3
    rw [c3] at h
    cases h
    refine⟨⟨Rat.le_of_lt e3,Rat.le_refl⟩,fun t h0 h1=>⟨fun k=>⟨⟨?_,k.2⟩,(hl t).1 k.1⟩,fun k=>⟨(hl t).2 k.2,k.1.2⟩⟩⟩
    have:x / (x - y) < t:=k.1
    grind
   |false =>
    have e3:¬s.1 < x / (x - y):=fun k=>by rw [cmpQ_gt2.2 k] at c3;cases c3
    rw [c3] at h
    cases h
    refine⟨⟨Rat.le_refl,Rat.le_refl⟩,fun t h0 h1=>⟨fun k=>⟨k,(hl t).1 ?_⟩,fun k=>k.1⟩⟩
    have:s.1 < t:=k.1
    grind
end Go.Num
namespace Go.Num
open Go Go.Ex Go.Proofs
def hts (n:Nat) (p:Nat→PtS) (a:PtS) (e:Nat):Rat:=hgt (p e) (p ((e+1)%n)) a
theorem partF_none {n:Nat} {p:Nat→PtS} {a b:PtS}:∀{k e:Nat} {s:Rat×Rat},partF n p a b k e s=none→∀t:Rat,0 < t→t < 1→¬((s.1 < t∧t < s.2)∧∀i,e≤i→i < e+k→0 < hts n p a i+(hts n p b i - hts n p a i)*t)
 |0,_,_,h=>by cases h
 |k+1,e,s,h=>by
  intro t h0 h1 ⟨hs,hg⟩
  unfold partF at h
  cases hst:stepQ (hgt (p e) (p ((e+1)%n)) a) (hgt (p e) (p ((e+1)%n)) b) s with
  |none=>exact stepQ_none hst h0 h1 (hg e (Nat.le_refl _) (by omega))
  |some s' =>
   rw [hst] at h
   exact partF_none h t h0 h1 ⟨((stepQ_some hst).2 t h0 h1).2 ⟨hs,hg e (Nat.le_refl _) (by omega)⟩,fun i a b=>hg i (by omega) (by omega)⟩
theorem partF_some {n:Nat} {p:Nat→PtS} {a b:PtS}:∀{k e:Nat} {s s':Rat×Rat},partF n p a b k e s=some s'→(s.1≤s'.1∧s'.2≤s.2)∧∀t:Rat,0 < t→t < 1→(s'.1 < t∧t < s'.2↔(s.1 < t∧t < s.2)∧∀i,e≤i→i < e+k→0 < hts n p a i+(hts n p b i - hts n p a i)*t)
 |0,_,_,_,h=>by
  cases h
  exact⟨⟨Rat.le_refl,Rat.le_refl⟩,fun t _ _=>⟨fun k=>⟨k,fun i a b=>by omega⟩,fun k=>k.1⟩⟩
 |k+1,e,s,s',h=>by
  unfold partF at h
  cases hst:stepQ (hgt (p e) (p ((e+1)%n)) a) (hgt (p e) (p ((e+1)%n)) b) s with
  |none=>rw [hst] at h;cases h
  |some s1 =>
   rw [hst] at h
   obtain⟨k1,k2⟩:=stepQ_some hst
   obtain⟨k3,k4⟩:=partF_some h
   refine⟨⟨Rat.le_trans k1.1 k3.1,Rat.le_trans k3.2 k1.2⟩,fun t h0 h1=>?_⟩
   rw [k4 t h0 h1,k2 t h0 h1]
   constructor
   ·rintro ⟨⟨u,v⟩,w⟩
    refine⟨u,fun i x y=>?_⟩
    by_cases hi:i=e
    ·subst hi
     exact v
    ·exact w i (by omega) (by omega)
   ·rintro ⟨u,w⟩
    exact⟨⟨u,w e (Nat.le_refl _) (by omega)⟩,fun i x y=>w i (by omega) (by omega)⟩
theorem partO_hit {n:Nat} {p:Nat→PtS} {a b:PtS} (hB:partB n p a b=false):partO n p a b=none↔¬Hit n (hts n p a) (hts n p b):=by
 unfold partO
 rw [hB,cond_false,Rat.zero_mkRat,show mkRat 1 1=(1:Rat) by rfl]
 cases hF:partF n p a b n 0 (0,1) with
 |none =>
  refine⟨fun _=>?_,fun _=>rfl⟩
  rintro ⟨t,h0,h1,h2⟩
  exact partF_none hF t h0 h1 ⟨⟨h0,h1⟩,fun i _ hi=>h2 i (by omega)⟩
 |some s =>
  obtain⟨⟨k1,k2⟩,k3⟩:=partF_some hF
  have k1:0≤s.1:=k1
  have k2:s.2≤1:=k2
  cases hc:decide (cmpQ s.1 s.2≥0) with
  |true =>
   refine⟨fun _=>?_,fun _=>by simp only [Option.bind_some,hc,cond_true]⟩
   rintro ⟨t,h0,h1,h2⟩
   have:=(k3 t h0 h1).2 ⟨⟨h0,h1⟩,fun i _ hi=>h2 i (by omega)⟩
   have hlt:s.1 < s.2:=by grind
   have hc:cmpQ s.1 s.2≥0:=of_decide_eq_true hc
   unfold cmpQ at hc
   rw [if_pos hlt] at hc
   exact absurd hc (by decide)
  |false =>
   have hlt:s.1 < s.2:=by
    have hc:¬cmpQ s.1 s.2≥0:=of_decide_eq_false hc
    unfold cmpQ at hc
    split at hc
    ·rename_i h
     exact h
    ·split at hc
     ·exact absurd (show(1:Int)≥0 by decide) hc
     ·exact absurd (show(0:Int)≥0 by decide) hc
   constructor
   ·intro h
    simp only [Option.bind_some,hc,cond_false] at h
    cases h
   ·intro h
    refine absurd ?_ h
    have m0:0 < (s.1+s.2)*(1 / 2):=by grind
    have m1:(s.1+s.2)*(1 / 2) < 1:=by grind
    exact⟨(s.1+s.2)*(1 / 2),m0,m1,fun e he=>((k3 _ m0 m1).1 ⟨by grind,by grind⟩).2 e (Nat.zero_le _) (by omega)⟩
theorem hts_at {n:Nat} {p:Nat→PtS} {a b c:PtS} {q:Rat} (hx:c.X=a.X+(b.X - a.X)*q) (hy:c.Y=a.Y+(b.Y - a.Y)*q) (e:Nat):hts n p c e=hts n p a e+(hts n p b e - hts n p a e)*q:=by
 unfold hts hgt crossP subP
 simp only [ptQ_X,ptQ_Y]
 rw [hx,hy]
 grind
theorem farQ_at {i:Nat} {lo hi a b c:PtS} {q:Rat} (hx:c.X=a.X+(b.X - a.X)*q) (hy:c.Y=a.Y+(b.Y - a.Y)*q):farQ i lo hi c=farQ i lo hi a+(farQ i lo hi b - farQ i lo hi a)*q:=by
 unfold farQ
 split
 ·rw [hx];grind
 ·rw [hx];grind
 ·rw [hy];grind
 ·rw [hy];grind
structure SeeM (lo hi:PtS) (k:Nat) (c:Nat→List PV) (a b:PtS):Prop where
 inA:∀i,i < 4→farQ i lo hi a≤0
 inB:∀i,i < 4→farQ i lo hi b≤0
 clear:∀i,i < k→¬Hit (pn c i) (hts (pn c i) (pts (pg c i)) a) (hts (pn c i) (pts (pg c i)) b)
theorem SeeM.symm {lo hi:PtS} {k:Nat} {c:Nat→List PV} {a b:PtS} (h:SeeM lo hi k c a b):SeeM lo hi k c b a :=
 ⟨h.inB,h.inA,fun i hi k=>h.clear i hi k.symm⟩
theorem SeeM.part {lo hi:PtS} {k:Nat} {c:Nat→List PV} {a b d:PtS} (h:SeeM lo hi k c a b) {q:Rat} (h0:0≤q) (h1:q≤1) (hx:d.X=a.X+(b.X - a.X)*q) (hy:d.Y=a.Y+(b.Y - a.Y)*q):SeeM lo hi k c a d:=by
 refine⟨h.inA,fun i h4=>?_,fun i hi=>Hit.part (h.clear i hi) h0 h1 fun e _=>hts_at hx hy e⟩
 rw [farQ_at hx hy]
 have k1:=h.inA i h4
 have k2:=h.inB i h4
 have k3:=Rat.mul_nonneg (show 0 ≤ -farQ i lo hi a by grind) (show 0≤1 - q by grind)
 have k4:=Rat.mul_nonneg (show 0 ≤ -farQ i lo hi b by grind) h0
 grind
theorem SeeM.self {lo hi:PtS} {k:Nat} {c:Nat→List PV} {a b:PtS} (h:SeeM lo hi k c a b):SeeM lo hi k c a a :=
 h.part (q:=0) Rat.le_refl (by grind) (by grind) (by grind)
theorem partsP_nil {lo hi:PtS} {n:Nat→Nat} {p:Nat→Nat→PtS} {a b:PtS}:∀{j:Nat},partsP lo hi n p a b j=[]↔∀i,i < j→(if i < 4 then oneS i lo hi a b else oneC (i - 4) (n (i - 4)) (p (i - 4)) a b)=[]
 |0=>⟨fun _ i hi=>absurd hi (Nat.not_lt_zero i),fun _=>rfl⟩
 |j+1=>by
  rw [partsP,List.append_eq_nil_iff,partsP_nil]
  constructor
  ·rintro ⟨h1,h2⟩ i hi
   by_cases e:i=j
   ·rw [e]
    exact h2
   ·exact h1 i (by omega)
  ·intro h
   exact⟨fun i hi=>h i (by omega),h j (by omega)⟩
theorem oneS_nil {i:Nat} {lo hi a b:PtS}:oneS i lo hi a b=[]↔farQ i lo hi a≤0∧farQ i lo hi b≤0:=by
 have hq:∀x:Rat,decide (cmpQ x 0≤0)=true↔x≤0:=fun x=>by
  cases h:decide (cmpQ x 0≤0) with
  |false =>
   have:=cmpQ_le.1 h
   exact⟨fun k=>(by cases k),fun k=>by grind⟩
  |true =>
   refine⟨fun _=>?_,fun _=>rfl⟩
   by_cases hx:0 < x
   ·rw [cmpQ_le.2 hx] at h
    cases h
   ·grind
 unfold oneS
 cases h:(decide (cmpQ (farQ i lo hi a) 0≤0)&&decide (cmpQ (farQ i lo hi b) 0≤0)) with
 |true =>
  rw [Bool.and_eq_true,hq,hq] at h
  exact⟨fun _=>h,fun _=>rfl⟩
 |false =>
  refine⟨fun k=>(by cases k),fun k=>?_⟩
  rw [(hq _).2 k.1,(hq _).2 k.2] at h
  cases h
theorem oneC_nil {i n:Nat} {p:Nat→PtS} {a b:PtS} (hB:partB n p a b=false):oneC i n p a b=[]↔¬Hit n (hts n p a) (hts n p b):=by
 rw [←partO_hit hB]
 unfold oneC
 cases partO n p a b with
 |none=>exact⟨fun _=>rfl,fun _=>rfl⟩
 |some s=>exact⟨fun k=>(by cases k),fun k=>by cases k⟩
theorem regE_ring {lo hi:PtS} {k:Nat} {n:Nat→Nat} {p:Nat→Nat→PtS} {l:Nat} {q:Nat→Int×Int×Int} (h:regE lo hi k n p l q=0):∀i,i < k→ringE (n i) (p i)=0:=by
 have hf:∀{r:Nat→Int} {k i:Nat},firstE r k i=0→∀j,i≤j→j < i+k→r j=0:=fun {r k}=>by
  induction k with
  |zero=>intro i _ j a b;omega
  |succ k ih =>
   intro i h j a b
   unfold firstE at h
   cases h0:(r i==0) with
   |true =>
    rw [h0,cond_true] at h
    by_cases e:j=i
    ·rw [e]
     exact eq_of_beq h0
    ·exact ih h j (by omega) (by omega)
   |false =>
    rw [h0,cond_false] at h
    rw [h] at h0
    cases h0
 intro i hik
 unfold regE at h
 cases h1:(!canonP lo||!canonP hi) with
 |true=>rw [h1] at h;cases h
 |false =>
  rw [h1,cond_false] at h
  cases h2:decide (32 < k) with
  |true=>rw [h2] at h;cases h
  |false =>
   rw [h2,cond_false] at h
   have hz:firstE (fun i=>ringE (n i) (p i)) k 0=0:=by
    cases h3:(firstE (fun i=>ringE (n i) (p i)) k 0==0) with
    |true=>exact eq_of_beq h3
    |false=>rw [h3] at h;exact h
   exact hf hz i (Nat.zero_le _) (by omega)
theorem seeB_iff {lo hi:PtS} {k:Nat} {c:Nat→List PV} {l:Nat} {o:Nat→List PV} {a b:PtS} (hr:regE lo hi k (pn c) (fun i=>pts (pg c i)) l (ow o)=0) (ha:canonP a=true) (hb:canonP b=true):seeB lo hi k c l o a b=true↔SeeM lo hi k c a b:=by
 have ok:okB lo hi k c l o (segV a b)=true:=by
  show(!(!canonP a||!canonP b)&&(regE lo hi k (pn c) (fun i=>pts (pg c i)) l (ow o)==0))=true
  rw [ha,hb,hr]
  rfl
 have hB:∀i,i < k→partB (pn c i) (pts (pg c i)) a b=false:=fun i hi=>by
  unfold partB
  rw [regE_ring hr i hi,ha,hb]
  rfl
 unfold seeB
 rw [ok,Bool.true_and,List.isEmpty_iff]
 show partsP lo hi (pn c) (fun i=>pts (pg c i)) a b (k+4)=[]↔_
 rw [partsP_nil]
 constructor
 ·intro h
  have h4:∀i,i < 4→farQ i lo hi a≤0∧farQ i lo hi b≤0:=fun i hi=>by
   have:=h i (by omega)
   rw [if_pos hi] at this
   exact oneS_nil.1 this
  refine⟨fun i hi=>(h4 i hi).1,fun i hi=>(h4 i hi).2,fun i hi=>?_⟩
  have:=h (i+4) (by omega)
  rw [if_neg (by omega),Nat.add_sub_cancel] at this
  exact(oneC_nil (hB i hi)).1 this
 ·intro h i hi
  split
  ·rename_i h4
   exact oneS_nil.2 ⟨h.inA i h4,h.inB i h4⟩
  ·rename_i h4
   exact(oneC_nil (hB (i - 4) (by omega))).2 (h.clear (i - 4) (by omega))
end Go.Num
namespace Go.Proofs
open Go Go.Ex Go.Num
set_option maxRecDepth 100000
def c21:List PV→Option Ans
 |[.agg xs,.val v,.val u]=>some ⟨some (isRg 10000 xs∧isPk 10000 v∧isPk 10000 u),.val (.tuple ⟨[.bool (seeB (gLo xs) (gHi xs) (gK xs) (gC xs) (gL xs) (gO xs) (rdV v) (rdV u)),.int .i64 (okW (okB (gLo xs) (gHi xs) (gK xs) (gC xs) (gL xs) (gO xs) (segV (rdV v) (rdV u))))]⟩),[]⟩
 |_=>none
theorem ok21:funcOk {} Tryz.f21 3=true:=by kernel_rfl
theorem f21:FnOk Tryz.prog 21 c21:=by
 refine FnOk.ofW orders (mkE_ok (l:=[(55,c55),(56,c56)]) (own:=[]) (inl:=[]) (by simp [f55,f56]) (by simp)) Tryz.func21 {} 3 ok21 fun args r e=>?_
 unfold c21 at e
 split at e
 ·rename_i xs v u
  cases e
  refine⟨by simp,fun hm=>?_⟩
  obtain⟨⟨h1,⟨hlo,hhi⟩,hcl,hol⟩,⟨a,rfl,ha⟩,b,rfl,hb⟩:=hm _ rfl
  generalize gLo xs=lo at *
  generalize gHi xs=hi at *
  generalize gK xs=k at *
  generalize gC xs=c at *
  generalize gL xs=l at *
  generalize gO xs=o at *
  subst h1
  clear hm
  refine⟨[],stOf [(0,.agg (regC lo hi k c l o)),(1,.val a.v),(2,.val b.v)] [] 0 [],Wo trivial ⟨⟨rfl,rfl,rfl,rfl,rfl,rfl,rfl,rfl,rfl,rfl,rfl,rfl,qW,qW,qQ⟩,rfl,rfl,qQ⟩ trivial,?_⟩
  have hrg:((lo.le 4294967296∧hi.le 4294967296)∧isCL 10000 k c∧isOL l o):=⟨⟨hlo.mono (by decide),hhi.mono (by decide)⟩,hcl,hol⟩
  have hrg2:((lo.le 10000∧hi.le 10000)∧isCL 10000 k c∧isOL l o):=⟨⟨hlo,hhi⟩,hcl,hol⟩
  have ha':=ha.mono (show 10000≤4294967296 by decide)
  have hb':=hb.mono (show 10000≤4294967296 by decide)
  obtain⟨S,hS⟩:∃S,S=seeB lo hi k c l o a b:=⟨_,rfl⟩
  have hv:seeB lo hi k c l o (rdV a.v) (rdV b.v)=S:=hS.symm
  rw [hv]
  obtain⟨OK,hOK⟩:∃OK,OK=okB lo hi k c l o (segV a b):=⟨_,rfl⟩
  have hw:okB lo hi k c l o (segV (rdV a.v) (rdV b.v))=OK:=hOK.symm
  rw [hw]
  have cn:∀r:Nat→List PV,pts r 0=a→pts r 1=b→anyP (fun i=>!canonP (pts r i)) 2=(!canonP a||!canonP b):=fun r h h'=>by
   have e:List.range 2=[0,1]:=rfl
   simp only [anyP,e,List.any_cons,List.any_nil,Bool.or_false,h,h']
  have p2:∀r:Nat→List PV,r 0=a.cells→r 1=b.cells→isPL 4294967296 2 r:=fun r h h'=>⟨fun i hi=>by
   match i,hi with
   |0,_=>exact⟨by rw [pts,h];rfl,by rw [pts,h];exact ha'⟩
   |1,_=>exact⟨by rw [pts,h'];rfl,by rw [pts,h'];exact hb'⟩
   |i+2,h=>omega,by decide⟩
  have q1:∀r:Nat→List PV,pts r 0=a→pts r 1=b→((regE lo hi k (pn (fun i=>[.rs 6 (pn c i) (pg c i)])) (fun i=>pts (pg (fun i=>[.rs 6 (pn c i) (pg c i)]) i)) l (ow (fun i=>cellsO (ow o i)))==0)&&!anyP (fun i=>!canonP (pts r i)) 2)=OK:=fun r h h'=>by
   rw [cn r h h',hOK,Bool.and_comm]
   rfl
  have z:∀B:Bool,(okW B != 0)=true→B=false:=fun B h=>by cases B<;>first|rfl|cases h
  have z':∀B:Bool,(okW B != 0)=false→B=true:=fun B h=>by cases B<;>first|rfl|cases h
  have s0:OK=false→S=false:=fun h=>by
   rw [hS,seeB,←hOK,h]
   rfl
  have hrg':((lo.le 4294967296∧hi.le 4294967296)∧isCL 10000 k (fun i=>[.rs 6 (pn c i) (pg c i)])∧isOL l (fun i=>cellsO (ow o i))):=⟨hrg.1,⟨fun i hi=>⟨rfl,(hcl.1 i hi).2⟩,hcl.2⟩,fun _ _=>rfl,hol.2⟩
  have hrg3:((lo.le 10000∧hi.le 10000)∧isCL 10000 k (fun i=>[.rs 6 (pn c i) (pg c i)])∧isOL l (fun i=>cellsO (ow o i))):=⟨hrg2.1,hrg'.2⟩
  have v5:PV.val (.bool (seeB lo hi k (fun i=>[.rs 6 (pn c i) (pg c i)]) l (fun i=>cellsO (ow o i)) (rdV a.v) (rdV b.v)))=PV.val (.bool S):=by
   rw [hS]
   rfl
  with_unfolding_all refine⟨⟨hrg',p2 _ rfl rfl⟩,fun h1=>?_,fun h1=>?_⟩
  ·have h2:OK=false:=(q1 _ rfl rfl).symm.trans (z _ h1)
   have v1:PV.val (.bool false)=PV.val (.bool S):=by rw [s0 h2]
   have v2:∀B,B=OK→PV.val (.int .i64 (okW B))=PV.val (.int .i64 (okW OK)):=fun B h=>by rw [h]
   with_unfolding_all exact⟨[],stOf [(6,.val (.bool S)),(7,.val (.int .i64 (okW OK)))] [] 0 [],Wo trivial ⟨v1,v2 _ (q1 _ rfl rfl),qQ⟩ trivial,rfl,rfl⟩
  ·have h2:OK=true:=(q1 _ rfl rfl).symm.trans (z' _ h1)
   have v3:PV.val (.int .i64 0)=PV.val (.int .i64 (okW OK)):=by rw [h2];rfl
   with_unfolding_all exact⟨⟨hrg3,⟨a,rfl,ha⟩,b,rfl,hb⟩,[],stOf [(6,.val (.bool S)),(7,.val (.int .i64 (okW OK)))] [] 0 [],Wo trivial ⟨v5,v3,qQ⟩ trivial,rfl,rfl⟩
 ·cases e
end Go.Proofs
namespace Go.Num
open Go Go.Ex Go.Proofs
def qL (L:List (Int×Int)) (i:Nat):Int×Int:=(L[i]?).getD (0,0)
theorem apd_q {L:List (Int×Int)} {x:Int×Int} {r:Nat→List PV} (h:r 0=cellsQ x):∀i,i < L.length+1→cellsQ (qL (L++[x]) i)=apd L.length (fun i=>cellsQ (qL L i)) r i:=fun i hi=>by
 unfold apd qL
 by_cases hl:i < L.length
 ·rw [if_pos hl,List.getElem?_append_left hl]
 ·obtain rfl:i=L.length:=by omega
  rw [if_neg hl,Nat.sub_self,h]
  simp
def tgtL (T:Int→Int→Bool) (q:Nat→Int×Int):Nat→List (Int×Int)
 |0=>[]
 |j+1=>tgtL T q j++(bif T (q j).1 (q j).2&&T (q j).2 (q j).1 then [q j] else [])
theorem tgtL_le (T:Int→Int→Bool) (q:Nat→Int×Int):∀j,(tgtL T q j).length≤j
 |0=>Nat.le_refl _
 |j+1=>by
  have:=tgtL_le T q j
  unfold tgtL
  rw [List.length_append]
  cases (T (q j).1 (q j).2&&T (q j).2 (q j).1)<;>simp<;>omega
def okT (lo hi:PtS) (k:Nat) (c:Nat→List PV) (l:Nat) (o:Nat→List PV) (n:Nat) (g:Nat→List PV) (m:Nat) (h:Nat→List PV):Bool:=(regE lo hi k (pn c) (fun i=>pts (pg c i)) l (ow o)==0)&&okMap n (pts g) m (prs h)
def tgtR (lo hi:PtS) (k:Nat) (c:Nat→List PV) (l:Nat) (o:Nat→List PV) (n:Nat) (g:Nat→List PV) (m:Nat) (h:Nat→List PV):List (Int×Int):=bif okT lo hi k c l o n g m h then tgtL (tightE k c (pts g)) (prs h) m else []
theorem links_at {n m:Nat} {q:Nat→Int×Int} (h:okLinks n q m=true) {i:Nat} (hi:i < m):0≤(q i).1∧(q i).1 < (q i).2∧(q i).2 < (n:Int)∧(0 < i→lessQ (q (i - 1)) (q i)=true):=by
 unfold okLinks at h
 have h0:anyP (badL n q) m=false:=by simpa using h
 have h1:=(anyP_false.1 h0) i hi
 unfold badL at h1
 simp only [Bool.or_eq_false_iff,decide_eq_false_iff_not,Bool.and_eq_false_iff,Bool.not_eq_false'] at h1
 exact⟨by omega,by omega,by omega,fun hi=>by
  rcases h1.2 with h|h
  ·omega
  ·exact h⟩
theorem links_le {n m:Nat} {q:Nat→Int×Int} (h:okLinks n q m=true):m≤n*n:=by
 have key:∀i,i < m→(i:Int)≤(q i).1*n+(q i).2:=fun i=>by
  induction i with
  |zero =>
   intro hi
   have:=links_at h hi
   have h2:=Int.mul_nonneg this.1 (Int.natCast_nonneg n)
   omega
  |succ i ih =>
   intro hi
   have h1:=links_at h hi
   have h2:=links_at h (show i < m by omega)
   have h3:=ih (by omega)
   have h4:=h1.2.2.2 (by omega)
   rw [Nat.add_sub_cancel] at h4
   unfold lessQ at h4
   simp only [Bool.or_eq_true,Bool.and_eq_true,decide_eq_true_eq] at h4
   rcases h4 with h4|⟨h4,h5⟩
   ·have h6:=Int.mul_le_mul_of_nonneg_right (show(q i).1+1≤(q (i+1)).1 by omega) (Int.natCast_nonneg n)
    rw [Int.add_mul,Int.one_mul] at h6
    omega
   ·rw [←h4]
    omega
 rcases Nat.eq_zero_or_pos m with h0|h0
 ·omega
 ·have h1:=links_at h (show m - 1 < m by omega)
  have h2:=key (m - 1) (by omega)
  have h3:=Int.mul_le_mul_of_nonneg_right (show(q (m - 1)).1≤(n:Int) - 1 by omega) (Int.natCast_nonneg n)
  rw [Int.sub_mul,Int.one_mul] at h3
  have h4:(m:Int)≤(n:Int)*n:=by omega
  exact_mod_cast h4
end Go.Num
namespace Go.Proofs
open Go Go.Ex Go.Num
set_option maxRecDepth 100000
theorem nil_ans {f:FuncId} {p:PV} {r:Ans} (h:Answers Tryz.prog f [p,.rs 6 0 fun _=>[]] r):Answers Tryz.prog f [p,.val (.slice none 0 0)] r:=by
 refine⟨h.1,fun hm A w vs hA hl hR=>h.2 hm A w vs hA hl fun i q v e1 e2=>?_⟩
 match i with
 |0=>exact hR 0 q v e1 e2
 |1 =>
  cases e1
  have:=hR 1 _ v rfl e2
  cases this
  exact .rs _ _ _ _ _ (fun _ _=>undef) (fun i hi=>absurd hi (Nat.not_lt_zero i)) (Nat.le_refl _) (Nat.zero_le _) (fun i f p hi=>absurd hi (Nat.not_lt_zero i)) (fun i f p hi=>absurd hi (Nat.not_lt_zero i))
 |i+2=>simp at e1
def c55n:List PV→Option Ans
 |[p,.val (.slice none 0 0)]=>c55 [p,.rs 6 0 fun _=>[]]
 |_=>none
theorem f55n:FnOk Tryz.prog 55 c55n:=fun args r e=>by
 unfold c55n at e
 split at e
 ·exact nil_ans (f55 _ r e)
 ·cases e
def c18:List PV→Option Ans
 |[.agg xs,.agg [.rs 6 n g,.rs 2 m h]]=>some ⟨some (isRg 10000 xs∧isPL 10000 n g∧isQL m h),.tup [.rs 2 (tgtR (gLo xs) (gHi xs) (gK xs) (gC xs) (gL xs) (gO xs) n g m h).length (fun i=>cellsQ (qL (tgtR (gLo xs) (gHi xs) (gK xs) (gC xs) (gL xs) (gO xs) n g m h) i)),.val (.int .i64 (okW (okT (gLo xs) (gHi xs) (gK xs) (gC xs) (gL xs) (gO xs) n g m h)))],[]⟩
 |_=>none
theorem ok18:funcOk {} Tryz.f18 2=true:=by kernel_rfl
theorem f18:FnOk Tryz.prog 18 c18:=by
 refine FnOk.ofW orders (mkE_ok (l:=[(55,c55n),(68,c68),(69,c69)]) (own:=[]) (inl:=[]) (by simp [f55n,f68,f69]) (by simp)) Tryz.func18 {} 2 ok18 fun args r e=>?_
 unfold c18 at e
 split at e
 ·rename_i xs n g m h
  cases e
  refine⟨by simp,fun hm=>?_⟩
  obtain⟨⟨h1,⟨hlo,hhi⟩,hcl,hol⟩,hg,hq⟩:=hm _ rfl
  generalize gLo xs=lo at *
  generalize gHi xs=hi at *
  generalize gK xs=k at *
  generalize gC xs=c at *
  generalize gL xs=l at *
  generalize gO xs=o at *
  subst h1
  clear hm
  refine⟨[],stOf [(0,.agg (regC lo hi k c l o)),(1,.agg [.rs 6 n g,.rs 2 m (fun i=>cellsQ (prs h i))])] [] 0 [],Wo trivial ⟨⟨rfl,rfl,rfl,rfl,rfl,rfl,rfl,rfl,rfl,rfl,rfl,rfl,qW,qW,qQ⟩,⟨qW,⟨rfl,rfl,fun i hi=>(hq.1 i hi).symm⟩,qQ⟩,qQ⟩ trivial,?_⟩
  have hrg:((lo.le 4294967296∧hi.le 4294967296)∧isCL 10000 k c∧isOL l o):=⟨⟨hlo.mono (by decide),hhi.mono (by decide)⟩,hcl,hol⟩
  have hg':isPL 4294967296 n g:=⟨fun i hi=>⟨(hg.1 i hi).1,(hg.1 i hi).2.mono (by decide)⟩,hg.2⟩
  have hqm:=hq.2
  generalize hqq:prs h=q at *
  have hql:isQL m (fun i=>cellsQ (q i)):=⟨fun _ _=>rfl,hqm⟩
  obtain⟨T,hT⟩:∃T,T=tightE k c (pts g):=⟨_,rfl⟩
  obtain⟨OK,hOK⟩:∃OK,OK=okT lo hi k c l o n g m h:=⟨_,rfl⟩
  obtain⟨TR,hTR⟩:∃TR,TR=tgtR lo hi k c l o n g m h:=⟨_,rfl⟩
  rw [←hTR,←hOK]
  have e1:TR=bif OK then tgtL T q m else []:=by rw [hTR,tgtR,←hOK,←hT,hqq]
  have e2:OK=((regE lo hi k (pn c) (fun i=>pts (pg c i)) l (ow o)==0)&&okMap n (pts g) m q):=by rw [hOK,okT,hqq]
  have b0:OK=false→TR.length=0:=fun h=>by rw [e1,h];rfl
  have b1:OK=false→PV.val (.int .i64 1)=PV.val (.int .i64 (okW OK)):=fun h=>by rw [h];rfl
  have q1:((regE lo hi k (pn (fun i=>[.rs 6 (pn c i) (pg c i)])) (fun i=>pts (pg (fun i=>[.rs 6 (pn c i) (pg c i)]) i)) l (ow (fun i=>cellsO (ow o i)))==0)&&!anyP (fun i=>!canonP (pts (fun _=>[]) i)) 0)=(regE lo hi k (pn c) (fun i=>pts (pg c i)) l (ow o)==0):=Bool.and_true _
  have z:∀B:Bool,(okW B != 0)=true→B=false:=fun B h=>by cases B<;>first|rfl|cases h
  have z':∀B:Bool,(okW B != 0)=false→B=true:=fun B h=>by cases B<;>first|rfl|cases h
  have f1:(okW ((regE lo hi k (pn (fun i=>[.rs 6 (pn c i) (pg c i)])) (fun i=>pts (pg (fun i=>[.rs 6 (pn c i) (pg c i)]) i)) l (ow (fun i=>cellsO (ow o i)))==0)&&!anyP (fun i=>!canonP (pts (fun _=>[]) i)) 0) != 0)=true→OK=false:=fun h=>by
   have:=q1.symm.trans (z _ h)
   rw [e2,this]
   rfl
  have f2:(!okMap n (pts g) m (prs fun i=>cellsQ (q i)))=true→OK=false:=fun h=>by
   have h:okMap n (pts g) m q=false:=by
    have h:(!okMap n (pts g) m q)=true:=h
    simpa using h
   rw [e2,h,Bool.and_false]
  have f3:(okW ((regE lo hi k (pn (fun i=>[.rs 6 (pn c i) (pg c i)])) (fun i=>pts (pg (fun i=>[.rs 6 (pn c i) (pg c i)]) i)) l (ow (fun i=>cellsO (ow o i)))==0)&&!anyP (fun i=>!canonP (pts (fun _=>[]) i)) 0) != 0)=false→(!okMap n (pts g) m (prs fun i=>cellsQ (q i)))=false→OK=true∧okMap n (pts g) m q=true:=fun h h'=>by
   have h1:=q1.symm.trans (z' _ h)
   have h2:okMap n (pts g) m q=true:=by
    have h:(!okMap n (pts g) m q)=false:=h'
    simpa using h
   exact⟨by rw [e2,h1,h2];rfl,h2⟩
  have hcl':isCL 10000 k (fun i=>[.rs 6 (pn c i) (pg c i)]):=⟨fun i hi=>⟨rfl,(hcl.1 i hi).2⟩,hcl.2⟩
  have hol':isOL l (fun i=>cellsO (ow o i)):=⟨fun _ _=>rfl,hol.2⟩
  have hrg':((lo.le 4294967296∧hi.le 4294967296)∧isCL 10000 k (fun i=>[.rs 6 (pn c i) (pg c i)])∧isOL l (fun i=>cellsO (ow o i))):=⟨hrg.1,hcl',hol'⟩
  have p0:isPL 4294967296 0 fun _=>[]:=⟨fun i hi=>absurd hi (Nat.not_lt_zero i),Nat.zero_le _⟩
  with_unfolding_all refine⟨⟨hrg',p0⟩,fun h1=>⟨⟨hg',hql⟩,fun h2=>⟨[],stOf [(4,.rs 2 TR.length (fun i=>cellsQ (qL TR i))),(5,.val (.int .i64 (okW OK)))] [] 0 [],Wo trivial ⟨⟨rfl,b0 (f2 h2)⟩,b1 (f2 h2),qQ⟩ trivial,rfl,rfl⟩,fun h2=>⟨Nat,fun i=>(OK=true∧okMap n (pts g) m q=true)∧i≤m,fun i=>stOf [(2,.ptr 0 0 0 0),(3,.ptr 1 1 0 0),(6,.sl 2 2 0 (tgtL T q i).length),(18,.rs 2 m (fun i=>cellsQ (q i))),(19,.val (goInt m)),(20,.val (goInt i))] [⟨31,14,0,true,false,1,fun _=>regC lo hi k c l o⟩,⟨37,2,1,true,false,1,fun _=>[.rs 6 n g,.rs 2 m (fun i=>cellsQ (q i))]⟩,⟨46,2,2,false,false,(tgtL T q i).length,fun j=>cellsQ (qL (tgtL T q i) j)⟩] 3 [],fun i=>m - i,⟨0,[some 0,some 1,none],⟨f3 h1 h2,Nat.zero_le _⟩,Wo ⟨qZ ⟨rq,rq,rq,rq,rq,rq,rq,rq,rq,rq,rq,rq,⟨qW,rfl⟩,⟨qW,rfl⟩,qQ⟩,qZ ⟨⟨qW,rfl⟩,⟨qW,rfl⟩,qQ⟩,⟨lt_ok rfl,rfl,rfl,rfl⟩,qQ⟩ ⟨pP,pP,⟨rfl,rfl,rfl,rfl,lt_ok rfl⟩,qW,rfl,rfl,qQ⟩ trivial⟩,fun i hi=>?_⟩⟩,fun h1=>⟨fun _=>⟨[],stOf [(4,.rs 2 TR.length (fun i=>cellsQ (qL TR i))),(5,.val (.int .i64 (okW OK)))] [] 0 [],Wo trivial ⟨⟨rfl,b0 (f1 h1)⟩,b1 (f1 h1),qQ⟩ trivial,rfl,rfl⟩,fun h=>nomatch h⟩⟩
  obtain⟨⟨hk1,hk2⟩,him⟩:(OK=true∧okMap n (pts g) m q=true)∧i≤m:=hi
  with_unfolding_all refine⟨fun h1=>?_,fun h1=>?_⟩
  ·have h1:(i:Int) < m:=ltT h1
   have ei:(i:Int).toNat=i:=Int.toNat_natCast i
   have him:i+1≤m:=by omega
   have hμ : m - (i+1) < m - i:=by omega
   have hok:=hk2
   unfold okMap at hok
   rw [Bool.and_eq_true,Bool.and_eq_true] at hok
   have hn1:n≤1000:=of_decide_eq_true hok.1.1
   have hmm:=links_le hok.2
   have hnn:n*n≤1000*1000:=Nat.mul_le_mul hn1 hn1
   have hl:=links_at hok.2 (show i < m by omega)
   have hl1:0≤(q (i:Int).toNat).1∧(q (i:Int).toNat).1 < n:=by rw [ei];omega
   have hl2:0≤(q (i:Int).toNat).2∧(q (i:Int).toNat).2 < n:=by rw [ei];omega
   have htl:=tgtL_le T q i
   have wi:PV.val (.int .i64 (IntKind.i64.wrap ((i:Int)+1)))=PV.val (.int .i64 ((i+1:Nat):Int)):=by
    rw [wrap64 (by omega) (by omega)]
    rfl
   have pR:isRg 10000 (regC lo hi k c l o):=⟨rfl,⟨hlo,hhi⟩,hcl',hol'⟩
   have hT':∀x y,tightE k c (pts g) x y=T x y:=fun x y=>by rw [hT]
   have tt:∀x y b,tightE k (fun i=>[.rs 6 (pn c i) (pg c i)]) (pts g) x y=b→T x y=b:=fun x y b h=>(hT' x y).symm.trans h
   have e3:T (q i).1 (q i).2=true→T (q i).2 (q i).1=true→tgtL T q (i+1)=tgtL T q i++[q i]:=fun h h'=>by rw [tgtL,h,h'];rfl
   have e4:(T (q i).1 (q i).2&&T (q i).2 (q i).1)=false→tgtL T q (i+1)=tgtL T q i:=fun h=>by rw [tgtL,h];exact List.append_nil _
   have hn0:(T (q (i:Int).toNat).1 (q (i:Int).toNat).2&&T (q (i:Int).toNat).2 (q (i:Int).toNat).1)=false→(tgtL T q (i+1)).length=(tgtL T q i).length:=fun h=>by
    rw [ei] at h
    rw [e4 h]
   have hr0:(T (q (i:Int).toNat).1 (q (i:Int).toNat).2&&T (q (i:Int).toNat).2 (q (i:Int).toNat).1)=false→∀j,j < (tgtL T q i).length→cellsQ (qL (tgtL T q (i+1)) j)=cellsQ (qL (tgtL T q i) j):=fun h=>by
    rw [ei] at h
    rw [e4 h]
    exact fun _ _=>rfl
   have hnA:T (q (i:Int).toNat).1 (q (i:Int).toNat).2=true→T (q (i:Int).toNat).2 (q (i:Int).toNat).1=true→(tgtL T q (i+1)).length=(tgtL T q i).length+1:=fun h h'=>by
    rw [ei] at h h'
    rw [e3 h h',List.length_append]
    rfl
   have hr1:T (q (i:Int).toNat).1 (q (i:Int).toNat).2=true→T (q (i:Int).toNat).2 (q (i:Int).toNat).1=true→∀r:Nat→List PV,r 0=cellsQ (q (i:Int).toNat)→∀j,j < (tgtL T q i).length+1→cellsQ (qL (tgtL T q (i+1)) j)=apd (tgtL T q i).length (fun j=>cellsQ (qL (tgtL T q i) j)) r j:=fun h h' r hr=>by
    rw [ei] at h h' hr
    rw [e3 h h']
    exact apd_q hr
   have k1:((tgtL T q i).length+1)*16≤140737488355328:=by omega
   have k2:(tgtL T q i).length+1≤9223372036854775807:=by omega
   have n1:∀x y:Bool,y=false→(x&&y)=false:=fun x y h=>by rw [h,Bool.and_false]
   have n2:∀x y:Bool,x=false→(x&&y)=false:=fun x y h=>by rw [h];rfl
   with_unfolding_all exact⟨⟨Int.natCast_nonneg i,h1⟩,⟨pR,hg,hl1,hl2⟩,fun h2=>⟨⟨pR,hg,hl2,hl1⟩,fun h3=>⟨⟨rfl,k1,k2⟩,⟨i+1,[some 0,some 1,some 2],⟨⟨hk1,hk2⟩,him⟩,hμ,Wo ⟨qZ ⟨rq,rq,rq,rq,rq,rq,rq,rq,rq,rq,rq,rq,⟨qW,rfl⟩,⟨qW,rfl⟩,qQ⟩,qZ ⟨⟨qW,rfl⟩,⟨qW,rfl⟩,qQ⟩,⟨lt_ok rfl,rfl,rfl,rfl,rfl,(hnA (tt _ _ _ h2) (tt _ _ _ h3)),hr1 (tt _ _ _ h2) (tt _ _ _ h3) _ rfl⟩,qQ⟩ ⟨pP,pP,⟨rfl,rfl,(hnA (tt _ _ _ h2) (tt _ _ _ h3)).symm,lt_ok rfl,_,rfl⟩,qW,rfl,wi,qQ⟩ trivial⟩⟩,fun h3=>⟨i+1,[some 0,some 1,some 2],⟨⟨hk1,hk2⟩,him⟩,hμ,Wo ⟨qZ ⟨rq,rq,rq,rq,rq,rq,rq,rq,rq,rq,rq,rq,⟨qW,rfl⟩,⟨qW,rfl⟩,qQ⟩,qZ ⟨⟨qW,rfl⟩,⟨qW,rfl⟩,qQ⟩,⟨lt_ok rfl,rfl,rfl,rfl,rfl,(hn0 (n1 _ _ (tt _ _ _ h3))),hr0 (n1 _ _ (tt _ _ _ h3))⟩,qQ⟩ ⟨pP,pP,⟨rfl,rfl,(hn0 (n1 _ _ (tt _ _ _ h3))).symm,lt_ok rfl,_,rfl⟩,qW,rfl,wi,qQ⟩ trivial⟩⟩,fun h2=>⟨fun h=>(nomatch h),fun _=>⟨i+1,[some 0,some 1,some 2],⟨⟨hk1,hk2⟩,him⟩,hμ,Wo ⟨qZ ⟨rq,rq,rq,rq,rq,rq,rq,rq,rq,rq,rq,rq,⟨qW,rfl⟩,⟨qW,rfl⟩,qQ⟩,qZ ⟨⟨qW,rfl⟩,⟨qW,rfl⟩,qQ⟩,⟨lt_ok rfl,rfl,rfl,rfl,rfl,(hn0 (n2 _ _ (tt _ _ _ h2))),hr0 (n2 _ _ (tt _ _ _ h2))⟩,qQ⟩ ⟨pP,pP,⟨rfl,rfl,(hn0 (n2 _ _ (tt _ _ _ h2))).symm,lt_ok rfl,_,rfl⟩,qW,rfl,wi,qQ⟩ trivial⟩⟩⟩
  ·have h1:(m:Int)≤i:=ltF h1
   have h3:tgtL T q i=TR:=by
    rw [show i=m by omega,e1,hk1]
    rfl
   have v2:PV.val (.int .i64 0)=PV.val (.int .i64 (okW OK)):=by rw [hk1];rfl
   have v3:∀j,j < TR.length→cellsQ (qL TR j)=cellsQ (qL (tgtL T q i) (0+j)):=fun j _=>by rw [h3,Nat.zero_add]
   with_unfolding_all exact⟨[],stOf [(4,.rs 2 TR.length (fun i=>cellsQ (qL TR i))),(5,.val (.int .i64 (okW OK)))] [] 0 [],Wo trivial ⟨⟨by simp,_,rfl,rfl,rfl,congrArg List.length h3,v3⟩,v2,qQ⟩ trivial,rfl,rfl⟩
 ·cases e
end Go.Proofs
