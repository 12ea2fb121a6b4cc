import Derived.Shelf.Sort.Plain
import Derived.Shelf.Slices.In.SortNone
import Derived.Sort.OwnSortedInts
import Derived.Test.YtpfdckeipckldaaGreatD
set_option maxHeartbeats 8000000
set_option linter.all false
set_option linter.unusedVariables false
set_option linter.unusedSimpArgs false
set_option linter.unnecessarySimpa false
namespace Go.Num
open Go Go.Ex Go.Proofs
def regC (lo hi:PtS) (k:Nat) (c:Nat→List PV) (l:Nat) (o:Nat→List PV):List PV:=[.val (.bool lo.x.s),.val (.string lo.x.b),.val (.string lo.x.c),.val (.bool lo.y.s),.val (.string lo.y.b),.val (.string lo.y.c),.val (.bool hi.x.s),.val (.string hi.x.b),.val (.string hi.x.c),.val (.bool hi.y.s),.val (.string hi.y.b),.val (.string hi.y.c),.rs 1 k (fun i=>[.rs 6 (pn c i) (pg c i)]),.rs 3 l (fun i=>cellsO (ow o i))]
def gLo:List PV→PtS
 |a1::a2::a3::a4::a5::a6::_=>rdP [a1,a2,a3,a4,a5,a6]
 |_=>rdP []
def gHi:List PV→PtS
 |_::_::_::_::_::_::a1::a2::a3::a4::a5::a6::_=>rdP [a1,a2,a3,a4,a5,a6]
 |_=>rdP []
def gK:List PV→Nat
 |[_,_,_,_,_,_,_,_,_,_,_,_,.rs 1 k _,_]=>k
 |_=>0
def gC:List PV→Nat→List PV
 |[_,_,_,_,_,_,_,_,_,_,_,_,.rs 1 _ c,_]=>c
 |_=>fun _=>[]
def gL:List PV→Nat
 |[_,_,_,_,_,_,_,_,_,_,_,_,_,.rs 3 l _]=>l
 |_=>0
def gO:List PV→Nat→List PV
 |[_,_,_,_,_,_,_,_,_,_,_,_,_,.rs 3 _ o]=>o
 |_=>fun _=>[]
def isG (h:Nat→List PV):Prop:=h=fun _=>regC (gLo (h 0)) (gHi (h 0)) (gK (h 0)) (gC (h 0)) (gL (h 0)) (gO (h 0))
def sA:List PV→PtS
 |[a1,a2,a3,a4,a5,a6,_,_,_,_,_,_]=>rdP [a1,a2,a3,a4,a5,a6]
 |_=>rdP []
def sB:List PV→PtS
 |[_,_,_,_,_,_,a1,a2,a3,a4,a5,a6]=>rdP [a1,a2,a3,a4,a5,a6]
 |_=>rdP []
def isS2 (h:Nat→List PV):Prop:=h=fun _=>segC (sA (h 0)) (sB (h 0))
def oneS (i:Nat) (lo hi a b:PtS):List (Int×Rat) :=
 bif decide (cmpQ (farQ i lo hi a) 0≤0)&&decide (cmpQ (farQ i lo hi b) 0≤0) then [] else [(-((i:Int)+1),bif decide (cmpQ (farQ i lo hi a) 0≤0) then farQ i lo hi a / (farQ i lo hi a - farQ i lo hi b) else 0)]
def oneC (i:Nat) (n:Nat) (p:Nat→PtS) (a b:PtS):List (Int×Rat):=match partO n p a b with
 |none=>[]
 |some s=>[((i:Int),s.1)]
def partsP (lo hi:PtS) (n:Nat→Nat) (p:Nat→Nat→PtS) (a b:PtS):Nat→List (Int×Rat)
 |0=>[]
 |j+1=>partsP lo hi n p a b j++(if j < 4 then oneS j lo hi a b else oneC (j - 4) (n (j - 4)) (p (j - 4)) a b)
def partsL (lo hi:PtS) (k:Nat) (n:Nat→Nat) (p:Nat→Nat→PtS) (a b:PtS):List (Int×Rat):=partsP lo hi n p a b (k+4)
theorem farQ_le (i:Nat) {lo hi p:PtS} (h1:PtS.le 10000 lo) (h2:PtS.le 10000 hi) (h3:PtS.le 10000 p):QB 20003 (farQ i lo hi p):=by
 unfold farQ
 split
 ·exact(h1.X.sub h3.X).le (by decide)
 ·exact(h3.X.sub h2.X).le (by decide)
 ·exact(h1.Y.sub h3.Y).le (by decide)
 ·exact(h3.Y.sub h2.Y).le (by decide)
theorem partsP_pre {lo hi:PtS} {n:Nat→Nat} {p:Nat→Nat→PtS} {a b:PtS}:∀(d j:Nat),partsP lo hi n p a b j <+: partsP lo hi n p a b (j+d)
 |0,j=>List.prefix_refl _
 |d+1,j=>(partsP_pre d j).trans (List.prefix_append _ _)
theorem partsP_at {lo hi:PtS} {n:Nat→Nat} {p:Nat→Nat→PtS} {a b:PtS} {j k:Nat} (h:j < k) {x:Int×Rat} (hx:(if j < 4 then oneS j lo hi a b else oneC (j - 4) (n (j - 4)) (p (j - 4)) a b)=[x]) :
  (partsP lo hi n p a b k)[(partsP lo hi n p a b j).length]? = some x∧(partsP lo hi n p a b j).length < (partsP lo hi n p a b k).length∧(partsP lo hi n p a b (j+1)).length=(partsP lo hi n p a b j).length+1:=by
 obtain⟨t,ht⟩:=partsP_pre (lo:=lo) (hi:=hi) (n:=n) (p:=p) (a:=a) (b:=b) (k - (j+1)) (j+1)
 rw [show j+1+(k - (j+1))=k by omega] at ht
 have e:partsP lo hi n p a b (j+1)=partsP lo hi n p a b j++[x]:=by rw [partsP,hx]
 rw [←ht,e]
 simp
def ixL (L:List (Int×Rat)) (i:Nat):Int:=match L[i]? with
 |some q=>q.1
 |none=>0
def frL (L:List (Int×Rat)) (i:Nat):Rat:=match L[i]? with
 |some q=>q.2
 |none=>0
def pairV (L:List (Int×Rat)) (i:Nat):List PV:=[.val (.int .i64 (ixL L i)),.val (ratV (frL L i))]
end Go.Num
namespace Go.Proofs
open Go Go.Ex Go.Num
set_option maxRecDepth 100000
def c126:List PV→Option Ans
 |[.agg [.val (.bool s1),.val (.string b1),.val (.string c1),.val (.bool s2),.val (.string b2),.val (.string c2),.val (.bool s3),.val (.string b3),.val (.string c3),.val (.bool s4),.val (.string b4),.val (.string c4),.rs 1 k c,.rs 3 l o],.val v]=>some ⟨some (((∀i,i < k→c i=[.rs 6 (pn c i) (pg c i)])∧∀i,i < l→o i=cellsO (ow o i))∧∃a b,v=segV a b),.fn (.func 171) [] [.rp 14 1 (fun _=>regC (PtS.mk ⟨s1,b1,c1⟩ ⟨s2,b2,c2⟩) (PtS.mk ⟨s3,b3,c3⟩ ⟨s4,b4,c4⟩) k c l o) 0 0,.rp 12 1 (fun _=>segC (rdS v).1 (rdS v).2) 0 0],[]⟩
 |_=>none
theorem ok126:funcOk {} Tryz.f126 2=true:=by kernel_rfl
theorem f126:FnOk Tryz.prog 126 c126:=by
 refine FnOk.ofW orders (mkE_ok (l:=[]) (own:=[]) (inl:=[]) (by simp) (by simp)) Tryz.func126 {} 2 ok126 fun args r e=>?_
 unfold c126 at e
 split at e
 ·rename_i s1 b1 c1 s2 b2 c2 s3 b3 c3 s4 b4 c4 k c l o v
  cases e
  refine⟨by simp,fun hm=>?_⟩
  obtain⟨⟨hc,ho⟩,a,b,rfl⟩:=hm _ rfl
  have hc1:∀i,i < k→[.rs 6 (pn c i) (pg c i)]=c i:=fun i hi=>(hc i hi).symm
  have ho1:∀i,i < l→cellsO (ow o i)=o i:=fun i hi=>(ho i hi).symm
  refine⟨[],stOf [(0,.agg [.val (.bool (PtS.mk ⟨s1,b1,c1⟩ ⟨s2,b2,c2⟩).x.s),.val (.string (PtS.mk ⟨s1,b1,c1⟩ ⟨s2,b2,c2⟩).x.b),.val (.string (PtS.mk ⟨s1,b1,c1⟩ ⟨s2,b2,c2⟩).x.c),.val (.bool (PtS.mk ⟨s1,b1,c1⟩ ⟨s2,b2,c2⟩).y.s),.val (.string (PtS.mk ⟨s1,b1,c1⟩ ⟨s2,b2,c2⟩).y.b),.val (.string (PtS.mk ⟨s1,b1,c1⟩ ⟨s2,b2,c2⟩).y.c),.val (.bool (PtS.mk ⟨s3,b3,c3⟩ ⟨s4,b4,c4⟩).x.s),.val (.string (PtS.mk ⟨s3,b3,c3⟩ ⟨s4,b4,c4⟩).x.b),.val (.string (PtS.mk ⟨s3,b3,c3⟩ ⟨s4,b4,c4⟩).x.c),.val (.bool (PtS.mk ⟨s3,b3,c3⟩ ⟨s4,b4,c4⟩).y.s),.val (.string (PtS.mk ⟨s3,b3,c3⟩ ⟨s4,b4,c4⟩).y.b),.val (.string (PtS.mk ⟨s3,b3,c3⟩ ⟨s4,b4,c4⟩).y.c),.rs 1 k (fun i=>[.rs 6 (pn c i) (pg c i)]),.rs 3 l (fun i=>cellsO (ow o i))]),(1,.val (segV a b))] [] 0 [],Wo trivial ⟨⟨rfl,rfl,rfl,rfl,rfl,rfl,rfl,rfl,rfl,rfl,rfl,rfl,⟨rfl,rfl,hc1⟩,⟨rfl,rfl,ho1⟩,trivial⟩,rfl,trivial⟩ trivial,?_⟩
  with_unfolding_all exact⟨[some 0,some 1],stOf [(4,.fn (.func 171) [] [.ptr 0 0 0 0,.ptr 1 1 0 0])] [⟨31,14,0,true,false,1,fun _=>regC (PtS.mk ⟨s1,b1,c1⟩ ⟨s2,b2,c2⟩) (PtS.mk ⟨s3,b3,c3⟩ ⟨s4,b4,c4⟩) k c l o⟩,⟨117,12,1,true,false,1,fun _=>segC a b⟩] 2 [],Wo ⟨⟨lt_ok rfl,rfl,rfl,rfl,rfl,rfl,rq,rq,rq,rq,rq,rq,rq,rq,rq,rq,rq,rq,⟨⟨rfl,rfl,fun _ _=>rfl⟩,rfl⟩,⟨⟨rfl,rfl,fun _ _=>rfl⟩,rfl⟩,trivial⟩,⟨lt_ok rfl,rfl,rfl,rfl,rfl,rfl,rq,rq,rq,rq,rq,rq,rq,rq,rq,rq,rq,rq,trivial⟩,trivial⟩ ⟨⟨rfl,trivial,pP,pP,trivial⟩,trivial⟩ trivial,rfl,rfl⟩
 ·cases e
def c171:List PV→Option SeqA
 |[.rp 14 1 h 0 0,.rp 12 1 h' 0 0]=>some ⟨some ((isG h∧isS2 h')∧((gLo (h 0)).le 10000∧(gHi (h 0)).le 10000)∧((sA (h' 0)).le 10000∧(sB (h' 0)).le 10000)∧isCL 10000 (gK (h 0)) (gC (h 0))),(partsL (gLo (h 0)) (gHi (h 0)) (gK (h 0)) (pn (gC (h 0))) (fun i=>pts (pg (gC (h 0)) i)) (sA (h' 0)) (sB (h' 0))).length,pairV (partsL (gLo (h 0)) (gHi (h 0)) (gK (h 0)) (pn (gC (h 0))) (fun i=>pts (pg (gC (h 0)) i)) (sA (h' 0)) (sB (h' 0)))⟩
 |_=>none
def D171:Opt:={ perm:=atTs [(3,(.rd 0 (.rd 1 (.rd 2 (.rd 3 (.rd 4 (.rd 5 (.rd 7 (.rd 8 (.rd 9 (.rd 10 (.rd 11 (.rd 12 (.alt 6 (.alt 13 (.alt 14 (.mk 15 .nil) (.mk 15 (.mk 14 .nil))) (.alt 14 (.alt 13 (.mk 15 .nil) (.mk 15 (.mk 13 .nil))) (.mk 15 (.alt 13 (.mk 14 .nil) (.mk 14 (.mk 13 .nil)))))) (.alt 14 (.alt 6 (.alt 13 (.mk 15 .nil) (.mk 15 (.mk 13 .nil))) (.mk 15 (.mk 6 (.mk 13 .nil)))) (.mk 15 (.alt 6 (.alt 13 (.mk 14 .nil) (.mk 14 (.mk 13 .nil))) (.mk 14 (.mk 6 (.mk 13 .nil)))))))))))))))))))),(7,(.rd 0 (.rd 1 (.rd 2 (.mk 3 (.mk 4 (.rd 5 (.rd 6 (.rd 7 .nil)))))))))] }
theorem ok171:funcOk D171.toOrd Tryz.f171 3=true:=by kernel_rfl
theorem f171:SeqFn Tryz.prog 171 c171:=by
 refine SeqFn.of orders (mkE_ok (l:=[(172,c172),(208,c208),(209,c209),(210,c210),(211,c211),(139,c139),(115,c115),(173,c173),(174,c174)]) (own:=[]) (inl:=[]) (by simp [f172,f208,f209,f210,f211,f139,f115,f173,f174]) (by simp)) Tryz.func171 D171 3 ok171 rfl fun args r e=>?_
 unfold c171 at e
 split at e
 ·rename_i h h'
  cases e
  refine⟨by simp,fun hm L0=>?_⟩
  obtain⟨⟨h1,h2⟩,⟨hlo,hhi⟩,⟨ha,hb⟩,hc,hk⟩:=hm _ rfl
  unfold isG at h1
  unfold isS2 at h2
  generalize gLo (h 0)=lo at *
  generalize gHi (h 0)=hi at *
  generalize gK (h 0)=k at *
  generalize gC (h 0)=c at *
  generalize gL (h 0)=l at *
  generalize gO (h 0)=o at *
  generalize sA (h' 0)=a at *
  generalize sB (h' 0)=b at *
  subst h1
  subst h2
  clear hm
  unfold partsL
  have hlo':=hlo.mono (show 10000≤4294967296 by decide)
  have hhi':=hhi.mono (show 10000≤4294967296 by decide)
  have ha':=ha.mono (show 10000≤4294967296 by decide)
  have hb':=hb.mono (show 10000≤4294967296 by decide)
  with_unfolding_all refine⟨Nat,fun j=>j≤4,fun j=>stOf [(0,.val (.func (.yield L0) ⟨[]⟩ ⟨[]⟩)),(1,.rp 14 1 (fun _=>regC lo hi k c l o) 0 0),(2,.rp 12 1 (fun _=>segC a b) 0 0),(15,.val (.agg ⟨[.int .i64 (-1),.func (.func 208) ⟨[]⟩ ⟨[]⟩,.int .i64 (-2),.func (.func 209) ⟨[]⟩ ⟨[]⟩,.int .i64 (-3),.func (.func 210) ⟨[]⟩ ⟨[]⟩,.int .i64 (-4),.func (.func 211) ⟨[]⟩ ⟨[]⟩]⟩)),(16,.val (goInt ((j:Nat):Int)))] [] 0 [[(0,.val (.int .i64 ((partsP lo hi (pn c) (fun i=>pts (pg c i)) a b (j)).length:Nat))),(1,.val (.bool false))]],fun j=>4 - j,⟨0,[],Nat.zero_le _,Wo trivial ⟨rfl,⟨rfl,rfl,rfl,rfl,fun _ _=>rfl⟩,⟨rfl,rfl,rfl,rfl,fun _ _=>rfl⟩,rfl,rfl,trivial⟩ ⟨⟨rfl,rfl,trivial⟩,trivial⟩⟩,fun j hj=>?_⟩
  match j,hj with
  |0,_ =>
   obtain⟨x,hx⟩:∃x,x=(farQ 0 (rdS (segV lo hi)).1 (rdS (segV lo hi)).2 (rdV a.v)):=⟨_,rfl⟩
   obtain⟨y,hy⟩:∃y,y=(farQ 0 (rdS (segV lo hi)).1 (rdS (segV lo hi)).2 (rdV b.v)):=⟨_,rfl⟩
   have hx1:farQ 0 lo hi a=x:=by rw [hx];rfl
   have hy1:farQ 0 lo hi b=y:=by rw [hy];rfl
   have qx:QB 20003 x:=by rw [←hx1];exact farQ_le 0 hlo hhi ha
   have qy:QB 20003 y:=by rw [←hy1];exact farQ_le 0 hlo hhi hb
   have hone:oneS 0 lo hi a b=bif decide (cmpQ x 0≤0)&&decide (cmpQ y 0≤0) then [] else [(-((0:Nat)+1:Int),bif decide (cmpQ x 0≤0) then x / (x - y) else 0)]:=by unfold oneS;rw [hx1,hy1]
   have rx:isRk 4294967296 (ratV (farQ 0 (rdS (segV lo hi)).1 (rdS (segV lo hi)).2 (rdV a.v))):=by rw [←hx];exact qx.rk (by decide)
   have ry:isRk 4294967296 (ratV (farQ 0 (rdS (segV lo hi)).1 (rdS (segV lo hi)).2 (rdV b.v))):=by rw [←hy];exact qy.rk (by decide)
   have rd:isRk 4294967296 (ratV (rdR (ratV (farQ 0 (rdS (segV lo hi)).1 (rdS (segV lo hi)).2 (rdV a.v))) - rdR (ratV (farQ 0 (rdS (segV lo hi)).1 (rdS (segV lo hi)).2 (rdV b.v))))):=by rw [rdR_ratV,rdR_ratV,←hx,←hy];exact(qx.sub qy).rk (by decide)
   have ix:decide (cmpQ (rdR (ratV (farQ 0 (rdS (segV lo hi)).1 (rdS (segV lo hi)).2 (rdV a.v)))) 0≤0)=decide (cmpQ x 0≤0):=by rw [rdR_ratV,←hx]
   have iy:decide (cmpQ (rdR (ratV (farQ 0 (rdS (segV lo hi)).1 (rdS (segV lo hi)).2 (rdV b.v)))) 0≤0)=decide (cmpQ y 0≤0):=by rw [rdR_ratV,←hy]
   have it:rdR (ratV (farQ 0 (rdS (segV lo hi)).1 (rdS (segV lo hi)).2 (rdV a.v))) / rdR (ratV (rdR (ratV (farQ 0 (rdS (segV lo hi)).1 (rdS (segV lo hi)).2 (rdV a.v))) - rdR (ratV (farQ 0 (rdS (segV lo hi)).1 (rdS (segV lo hi)).2 (rdV b.v)))))=x / (x - y):=by rw [rdR_ratV,rdR_ratV,rdR_ratV,←hx,←hy]
   have prA:isSeg 4294967296 (segV lo hi)∧isPk 4294967296 a.v:=⟨⟨lo,hi,rfl,hlo',hhi'⟩,a,rfl,ha'⟩
   have prB:isSeg 4294967296 (segV lo hi)∧isPk 4294967296 b.v:=⟨⟨lo,hi,rfl,hlo',hhi'⟩,b,rfl,hb'⟩
   have sk:decide (cmpQ (rdR (ratV (farQ 0 (rdS (segV lo hi)).1 (rdS (segV lo hi)).2 (rdV a.v)))) 0≤0)=true→decide (cmpQ (rdR (ratV (farQ 0 (rdS (segV lo hi)).1 (rdS (segV lo hi)).2 (rdV b.v)))) 0≤0)=true→(partsP lo hi (pn c) (fun i=>pts (pg c i)) a b (0)).length=(partsP lo hi (pn c) (fun i=>pts (pg c i)) a b (1)).length:=fun h h'=>by
    rw [ix] at h
    rw [iy] at h'
    have e:partsP lo hi (pn c) (fun i=>pts (pg c i)) a b (0+1)=partsP lo hi (pn c) (fun i=>pts (pg c i)) a b 0++oneS 0 lo hi a b:=rfl
    rw [e,hone,h,h']
    simp
   have yl:∀fr:Rat,oneS 0 lo hi a b=[(-((0:Nat)+1:Int),fr)]→(partsP lo hi (pn c) (fun i=>pts (pg c i)) a b (0)).length < (partsP lo hi (pn c) (fun i=>pts (pg c i)) a b (k+4)).length∧[PV.val (.int .i64 (-1)),PV.val (ratV fr)]=pairV (partsP lo hi (pn c) (fun i=>pts (pg c i)) a b (k+4)) (partsP lo hi (pn c) (fun i=>pts (pg c i)) a b (0)).length∧(partsP lo hi (pn c) (fun i=>pts (pg c i)) a b (0)).length+1=(partsP lo hi (pn c) (fun i=>pts (pg c i)) a b (1)).length:=fun fr h=>by
    have h1:=partsP_at (n:=pn c) (p:=fun i=>pts (pg c i)) (show 0 < k+4 by omega) (x:=(-((0:Nat)+1:Int),fr)) (by rw [if_pos (by decide)];exact h)
    refine⟨h1.2.1,?_,h1.2.2.symm⟩
    unfold pairV ixL frL
    rw [h1.1]
    rfl
   have fa:(decide (cmpQ x 0≤0)&&decide (cmpQ y 0≤0))=false→decide (cmpQ (rdR (ratV (farQ 0 (rdS (segV lo hi)).1 (rdS (segV lo hi)).2 (rdV a.v)))) 0≤0)=true→oneS 0 lo hi a b=[(-((0:Nat)+1:Int),rdR (ratV (farQ 0 (rdS (segV lo hi)).1 (rdS (segV lo hi)).2 (rdV a.v))) / rdR (ratV (rdR (ratV (farQ 0 (rdS (segV lo hi)).1 (rdS (segV lo hi)).2 (rdV a.v))) - rdR (ratV (farQ 0 (rdS (segV lo hi)).1 (rdS (segV lo hi)).2 (rdV b.v))))))]:=fun h h'=>by
    rw [ix] at h'
    rw [hone,h,h',it]
    rfl
   have fb:(decide (cmpQ x 0≤0)&&decide (cmpQ y 0≤0))=false→decide (cmpQ (rdR (ratV (farQ 0 (rdS (segV lo hi)).1 (rdS (segV lo hi)).2 (rdV a.v)))) 0≤0)=false→oneS 0 lo hi a b=[(-((0:Nat)+1:Int),0)]:=fun h h'=>by
    rw [ix] at h'
    rw [hone,h,h']
    rfl
   have k1:decide (cmpQ (rdR (ratV (farQ 0 (rdS (segV lo hi)).1 (rdS (segV lo hi)).2 (rdV b.v)))) 0≤0)=false→(decide (cmpQ x 0≤0)&&decide (cmpQ y 0≤0))=false:=fun h=>by
    rw [iy] at h
    rw [h,Bool.and_false]
   have k2:decide (cmpQ (rdR (ratV (farQ 0 (rdS (segV lo hi)).1 (rdS (segV lo hi)).2 (rdV a.v)))) 0≤0) = !true→(decide (cmpQ x 0≤0)&&decide (cmpQ y 0≤0))=false:=fun h=>by
    rw [ix] at h
    rw [h]
    rfl
   clear hx hy
   with_unfolding_all refine⟨fun _=>⟨⟨by decide,by decide⟩,⟨⟨prA,⟨⟨prB,⟨?_,?_⟩⟩,⟨⟨⟨prB,?_⟩,⟨prB,?_⟩⟩,⟨⟨prB,?_⟩,⟨prB,?_⟩⟩⟩⟩⟩,⟨⟨⟨prA,⟨⟨prB,?_⟩,⟨prB,?_⟩⟩⟩,⟨prA,⟨prB,?_⟩⟩⟩,⟨⟨prA,⟨⟨prB,?_⟩,⟨prB,?_⟩⟩⟩,⟨prA,⟨prB,?_⟩⟩⟩⟩⟩⟩,fun hh=>absurd hh (by decide)⟩
   all_goals with_unfolding_all refine⟨rx,fun h1=>⟨ry,fun h2=>⟨1,[],by show 1≤4;decide,by show 4 - 1 < 4 - 0;decide,Wo trivial ⟨rfl,⟨rfl,rfl,rfl,rfl,fun _ _=>rfl⟩,⟨rfl,rfl,rfl,rfl,fun _ _=>rfl⟩,rfl,rfl,trivial⟩ ⟨⟨congrArg (fun z:Nat=>PV.val (.int .i64 (z:Int))) (sk h1 h2),rfl,trivial⟩,trivial⟩⟩,fun h2=>⟨rx,fun h3=>⟨⟨rx,ry⟩,⟨rx,rd⟩,⟨rfl,(partsP lo hi (pn c) (fun i=>pts (pg c i)) a b (0)).length,rfl,(yl _ (fa (k1 h2) h3)).1,(yl _ (fa (k1 h2) h3)).2.1,⟨fun e=>(nomatch e),fun _=>⟨1,[],by show 1≤4;decide,by show 4 - 1 < 4 - 0;decide,Wo trivial ⟨rfl,⟨rfl,rfl,rfl,rfl,fun _ _=>rfl⟩,⟨rfl,rfl,rfl,rfl,fun _ _=>rfl⟩,rfl,rfl,trivial⟩ ⟨⟨congrArg (fun z:Nat=>PV.val (.int .i64 (z:Int))) (yl _ (fa (k1 h2) h3)).2.2,rfl,trivial⟩,trivial⟩⟩⟩,⟨fun _=>trivial,fun e=>(nomatch e)⟩⟩⟩,fun h3=>⟨rfl,(partsP lo hi (pn c) (fun i=>pts (pg c i)) a b (0)).length,rfl,(yl _ (fb (k1 h2) h3)).1,(yl _ (fb (k1 h2) h3)).2.1,⟨fun e=>(nomatch e),fun _=>⟨1,[],by show 1≤4;decide,by show 4 - 1 < 4 - 0;decide,Wo trivial ⟨rfl,⟨rfl,rfl,rfl,rfl,fun _ _=>rfl⟩,⟨rfl,rfl,rfl,rfl,fun _ _=>rfl⟩,rfl,rfl,trivial⟩ ⟨⟨congrArg (fun z:Nat=>PV.val (.int .i64 (z:Int))) (yl _ (fb (k1 h2) h3)).2.2,rfl,trivial⟩,trivial⟩⟩⟩,⟨fun _=>trivial,fun e=>(nomatch e)⟩⟩⟩⟩,fun h1=>⟨fun h2=>(nomatch h2),fun h2=>⟨rx,fun h3=>⟨⟨rx,ry⟩,⟨rx,rd⟩,⟨rfl,(partsP lo hi (pn c) (fun i=>pts (pg c i)) a b (0)).length,rfl,(yl _ (fa (k2 h1) h3)).1,(yl _ (fa (k2 h1) h3)).2.1,⟨fun e=>(nomatch e),fun _=>⟨1,[],by show 1≤4;decide,by show 4 - 1 < 4 - 0;decide,Wo trivial ⟨rfl,⟨rfl,rfl,rfl,rfl,fun _ _=>rfl⟩,⟨rfl,rfl,rfl,rfl,fun _ _=>rfl⟩,rfl,rfl,trivial⟩ ⟨⟨congrArg (fun z:Nat=>PV.val (.int .i64 (z:Int))) (yl _ (fa (k2 h1) h3)).2.2,rfl,trivial⟩,trivial⟩⟩⟩,⟨fun _=>trivial,fun e=>(nomatch e)⟩⟩⟩,fun h3=>⟨rfl,(partsP lo hi (pn c) (fun i=>pts (pg c i)) a b (0)).length,rfl,(yl _ (fb (k2 h1) h3)).1,(yl _ (fb (k2 h1) h3)).2.1,⟨fun e=>(nomatch e),fun _=>⟨1,[],by show 1≤4;decide,by show 4 - 1 < 4 - 0;decide,Wo trivial ⟨rfl,⟨rfl,rfl,rfl,rfl,fun _ _=>rfl⟩,⟨rfl,rfl,rfl,rfl,fun _ _=>rfl⟩,rfl,rfl,trivial⟩ ⟨⟨congrArg (fun z:Nat=>PV.val (.int .i64 (z:Int))) (yl _ (fb (k2 h1) h3)).2.2,rfl,trivial⟩,trivial⟩⟩⟩,⟨fun _=>trivial,fun e=>(nomatch e)⟩⟩⟩⟩⟩
  |1,_ =>
   obtain⟨x,hx⟩:∃x,x=(farQ 1 (rdS (segV lo hi)).1 (rdS (segV lo hi)).2 (rdV a.v)):=⟨_,rfl⟩
   obtain⟨y,hy⟩:∃y,y=(farQ 1 (rdS (segV lo hi)).1 (rdS (segV lo hi)).2 (rdV b.v)):=⟨_,rfl⟩
   have hx1:farQ 1 lo hi a=x:=by rw [hx];rfl
   have hy1:farQ 1 lo hi b=y:=by rw [hy];rfl
   have qx:QB 20003 x:=by rw [←hx1];exact farQ_le 1 hlo hhi ha
   have qy:QB 20003 y:=by rw [←hy1];exact farQ_le 1 hlo hhi hb
   have hone:oneS 1 lo hi a b=bif decide (cmpQ x 0≤0)&&decide (cmpQ y 0≤0) then [] else [(-((1:Nat)+1:Int),bif decide (cmpQ x 0≤0) then x / (x - y) else 0)]:=by unfold oneS;rw [hx1,hy1]
   have rx:isRk 4294967296 (ratV (farQ 1 (rdS (segV lo hi)).1 (rdS (segV lo hi)).2 (rdV a.v))):=by rw [←hx];exact qx.rk (by decide)
   have ry:isRk 4294967296 (ratV (farQ 1 (rdS (segV lo hi)).1 (rdS (segV lo hi)).2 (rdV b.v))):=by rw [←hy];exact qy.rk (by decide)
   have rd:isRk 4294967296 (ratV (rdR (ratV (farQ 1 (rdS (segV lo hi)).1 (rdS (segV lo hi)).2 (rdV a.v))) - rdR (ratV (farQ 1 (rdS (segV lo hi)).1 (rdS (segV lo hi)).2 (rdV b.v))))):=by rw [rdR_ratV,rdR_ratV,←hx,←hy];exact(qx.sub qy).rk (by decide)
   have ix:decide (cmpQ (rdR (ratV (farQ 1 (rdS (segV lo hi)).1 (rdS (segV lo hi)).2 (rdV a.v)))) 0≤0)=decide (cmpQ x 0≤0):=by rw [rdR_ratV,←hx]
   have iy:decide (cmpQ (rdR (ratV (farQ 1 (rdS (segV lo hi)).1 (rdS (segV lo hi)).2 (rdV b.v)))) 0≤0)=decide (cmpQ y 0≤0):=by rw [rdR_ratV,←hy]
   have it:rdR (ratV (farQ 1 (rdS (segV lo hi)).1 (rdS (segV lo hi)).2 (rdV a.v))) / rdR (ratV (rdR (ratV (farQ 1 (rdS (segV lo hi)).1 (rdS (segV lo hi)).2 (rdV a.v))) - rdR (ratV (farQ 1 (rdS (segV lo hi)).1 (rdS (segV lo hi)).2 (rdV b.v)))))=x / (x - y):=by rw [rdR_ratV,rdR_ratV,rdR_ratV,←hx,←hy]
   have prA:isSeg 4294967296 (segV lo hi)∧isPk 4294967296 a.v:=⟨⟨lo,hi,rfl,hlo',hhi'⟩,a,rfl,ha'⟩
   have prB:isSeg 4294967296 (segV lo hi)∧isPk 4294967296 b.v:=⟨⟨lo,hi,rfl,hlo',hhi'⟩,b,rfl,hb'⟩
   have sk:decide (cmpQ (rdR (ratV (farQ 1 (rdS (segV lo hi)).1 (rdS (segV lo hi)).2 (rdV a.v)))) 0≤0)=true→decide (cmpQ (rdR (ratV (farQ 1 (rdS (segV lo hi)).1 (rdS (segV lo hi)).2 (rdV b.v)))) 0≤0)=true→(partsP lo hi (pn c) (fun i=>pts (pg c i)) a b (1)).length=(partsP lo hi (pn c) (fun i=>pts (pg c i)) a b (2)).length:=fun h h'=>by
    rw [ix] at h
    rw [iy] at h'
    have e:partsP lo hi (pn c) (fun i=>pts (pg c i)) a b (1+1)=partsP lo hi (pn c) (fun i=>pts (pg c i)) a b 1++oneS 1 lo hi a b:=rfl
    rw [e,hone,h,h']
    simp
   have yl:∀fr:Rat,oneS 1 lo hi a b=[(-((1:Nat)+1:Int),fr)]→(partsP lo hi (pn c) (fun i=>pts (pg c i)) a b (1)).length < (partsP lo hi (pn c) (fun i=>pts (pg c i)) a b (k+4)).length∧[PV.val (.int .i64 (-2)),PV.val (ratV fr)]=pairV (partsP lo hi (pn c) (fun i=>pts (pg c i)) a b (k+4)) (partsP lo hi (pn c) (fun i=>pts (pg c i)) a b (1)).length∧(partsP lo hi (pn c) (fun i=>pts (pg c i)) a b (1)).length+1=(partsP lo hi (pn c) (fun i=>pts (pg c i)) a b (2)).length:=fun fr h=>by
    have h1:=partsP_at (n:=pn c) (p:=fun i=>pts (pg c i)) (show 1 < k+4 by omega) (x:=(-((1:Nat)+1:Int),fr)) (by rw [if_pos (by decide)];exact h)
    refine⟨h1.2.1,?_,h1.2.2.symm⟩
    unfold pairV ixL frL
    rw [h1.1]
    rfl
   have fa:(decide (cmpQ x 0≤0)&&decide (cmpQ y 0≤0))=false→decide (cmpQ (rdR (ratV (farQ 1 (rdS (segV lo hi)).1 (rdS (segV lo hi)).2 (rdV a.v)))) 0≤0)=true→oneS 1 lo hi a b=[(-((1:Nat)+1:Int),rdR (ratV (farQ 1 (rdS (segV lo hi)).1 (rdS (segV lo hi)).2 (rdV a.v))) / rdR (ratV (rdR (ratV (farQ 1 (rdS (segV lo hi)).1 (rdS (segV lo hi)).2 (rdV a.v))) - rdR (ratV (farQ 1 (rdS (segV lo hi)).1 (rdS (segV lo hi)).2 (rdV b.v))))))]:=fun h h'=>by
    rw [ix] at h'
    rw [hone,h,h',it]
    rfl
   have fb:(decide (cmpQ x 0≤0)&&decide (cmpQ y 0≤0))=false→decide (cmpQ (rdR (ratV (farQ 1 (rdS (segV lo hi)).1 (rdS (segV lo hi)).2 (rdV a.v)))) 0≤0)=false→oneS 1 lo hi a b=[(-((1:Nat)+1:Int),0)]:=fun h h'=>by
    rw [ix] at h'
    rw [hone,h,h']
    rfl
   have k1:decide (cmpQ (rdR (ratV (farQ 1 (rdS (segV lo hi)).1 (rdS (segV lo hi)).2 (rdV b.v)))) 0≤0)=false→(decide (cmpQ x 0≤0)&&decide (cmpQ y 0≤0))=false:=fun h=>by
    rw [iy] at h
    rw [h,Bool.and_false]
   have k2:decide (cmpQ (rdR (ratV (farQ 1 (rdS (segV lo hi)).1 (rdS (segV lo hi)).2 (rdV a.v)))) 0≤0) = !true→(decide (cmpQ x 0≤0)&&decide (cmpQ y 0≤0))=false:=fun h=>by
    rw [ix] at h
    rw [h]
    rfl
   clear hx hy
   with_unfolding_all refine⟨fun _=>⟨⟨by decide,by decide⟩,⟨⟨prA,⟨⟨prB,⟨?_,?_⟩⟩,⟨⟨⟨prB,?_⟩,⟨prB,?_⟩⟩,⟨⟨prB,?_⟩,⟨prB,?_⟩⟩⟩⟩⟩,⟨⟨⟨prA,⟨⟨prB,?_⟩,⟨prB,?_⟩⟩⟩,⟨prA,⟨prB,?_⟩⟩⟩,⟨⟨prA,⟨⟨prB,?_⟩,⟨prB,?_⟩⟩⟩,⟨prA,⟨prB,?_⟩⟩⟩⟩⟩⟩,fun hh=>absurd hh (by decide)⟩
   all_goals with_unfolding_all refine⟨rx,fun h1=>⟨ry,fun h2=>⟨2,[],by show 2≤4;decide,by show 4 - 2 < 4 - 1;decide,Wo trivial ⟨rfl,⟨rfl,rfl,rfl,rfl,fun _ _=>rfl⟩,⟨rfl,rfl,rfl,rfl,fun _ _=>rfl⟩,rfl,rfl,trivial⟩ ⟨⟨congrArg (fun z:Nat=>PV.val (.int .i64 (z:Int))) (sk h1 h2),rfl,trivial⟩,trivial⟩⟩,fun h2=>⟨rx,fun h3=>⟨⟨rx,ry⟩,⟨rx,rd⟩,⟨rfl,(partsP lo hi (pn c) (fun i=>pts (pg c i)) a b (1)).length,rfl,(yl _ (fa (k1 h2) h3)).1,(yl _ (fa (k1 h2) h3)).2.1,⟨fun e=>(nomatch e),fun _=>⟨2,[],by show 2≤4;decide,by show 4 - 2 < 4 - 1;decide,Wo trivial ⟨rfl,⟨rfl,rfl,rfl,rfl,fun _ _=>rfl⟩,⟨rfl,rfl,rfl,rfl,fun _ _=>rfl⟩,rfl,rfl,trivial⟩ ⟨⟨congrArg (fun z:Nat=>PV.val (.int .i64 (z:Int))) (yl _ (fa (k1 h2) h3)).2.2,rfl,trivial⟩,trivial⟩⟩⟩,⟨fun _=>trivial,fun e=>(nomatch e)⟩⟩⟩,fun h3=>⟨rfl,(partsP lo hi (pn c) (fun i=>pts (pg c i)) a b (1)).length,rfl,(yl _ (fb (k1 h2) h3)).1,(yl _ (fb (k1 h2) h3)).2.1,⟨fun e=>(nomatch e),fun _=>⟨2,[],by show 2≤4;decide,by show 4 - 2 < 4 - 1;decide,Wo trivial ⟨rfl,⟨rfl,rfl,rfl,rfl,fun _ _=>rfl⟩,⟨rfl,rfl,rfl,rfl,fun _ _=>rfl⟩,rfl,rfl,trivial⟩ ⟨⟨congrArg (fun z:Nat=>PV.val (.int .i64 (z:Int))) (yl _ (fb (k1 h2) h3)).2.2,rfl,trivial⟩,trivial⟩⟩⟩,⟨fun _=>trivial,fun e=>(nomatch e)⟩⟩⟩⟩,fun h1=>⟨fun h2=>(nomatch h2),fun h2=>⟨rx,fun h3=>⟨⟨rx,ry⟩,⟨rx,rd⟩,⟨rfl,(partsP lo hi (pn c) (fun i=>pts (pg c i)) a b (1)).length,rfl,(yl _ (fa (k2 h1) h3)).1,(yl _ (fa (k2 h1) h3)).2.1,⟨fun e=>(nomatch e),fun _=>⟨2,[],by show 2≤4;decide,by show 4 - 2 < 4 - 1;decide,Wo trivial ⟨rfl,⟨rfl,rfl,rfl,rfl,fun _ _=>rfl⟩,⟨rfl,rfl,rfl,rfl,fun _ _=>rfl⟩,rfl,rfl,trivial⟩ ⟨⟨congrArg (fun z:Nat=>PV.val (.int .i64 (z:Int))) (yl _ (fa (k2 h1) h3)).2.2,rfl,trivial⟩,trivial⟩⟩⟩,⟨fun _=>trivial,fun e=>(nomatch e)⟩⟩⟩,fun h3=>⟨rfl,(partsP lo hi (pn c) (fun i=>pts (pg c i)) a b (1)).length,rfl,(yl _ (fb (k2 h1) h3)).1,(yl _ (fb (k2 h1) h3)).2.1,⟨fun e=>(nomatch e),fun _=>⟨2,[],by show 2≤4;decide,by show 4 - 2 < 4 - 1;decide,Wo trivial ⟨rfl,⟨rfl,rfl,rfl,rfl,fun _ _=>rfl⟩,⟨rfl,rfl,rfl,rfl,fun _ _=>rfl⟩,rfl,rfl,trivial⟩ ⟨⟨congrArg (fun z:Nat=>PV.val (.int .i64 (z:Int))) (yl _ (fb (k2 h1) h3)).2.2,rfl,trivial⟩,trivial⟩⟩⟩,⟨fun _=>trivial,fun e=>(nomatch e)⟩⟩⟩⟩⟩
  |2,_ =>
   obtain⟨x,hx⟩:∃x,x=(farQ 2 (rdS (segV lo hi)).1 (rdS (segV lo hi)).2 (rdV a.v)):=⟨_,rfl⟩
   obtain⟨y,hy⟩:∃y,y=(farQ 2 (rdS (segV lo hi)).1 (rdS (segV lo hi)).2 (rdV b.v)):=⟨_,rfl⟩
   have hx1:farQ 2 lo hi a=x:=by rw [hx];rfl
   have hy1:farQ 2 lo hi b=y:=by rw [hy];rfl
   have qx:QB 20003 x:=by rw [←hx1];exact farQ_le 2 hlo hhi ha
   have qy:QB 20003 y:=by rw [←hy1];exact farQ_le 2 hlo hhi hb
   have hone:oneS 2 lo hi a b=bif decide (cmpQ x 0≤0)&&decide (cmpQ y 0≤0) then [] else [(-((2:Nat)+1:Int),bif decide (cmpQ x 0≤0) then x / (x - y) else 0)]:=by unfold oneS;rw [hx1,hy1]
   have rx:isRk 4294967296 (ratV (farQ 2 (rdS (segV lo hi)).1 (rdS (segV lo hi)).2 (rdV a.v))):=by rw [←hx];exact qx.rk (by decide)
   have ry:isRk 4294967296 (ratV (farQ 2 (rdS (segV lo hi)).1 (rdS (segV lo hi)).2 (rdV b.v))):=by rw [←hy];exact qy.rk (by decide)
   have rd:isRk 4294967296 (ratV (rdR (ratV (farQ 2 (rdS (segV lo hi)).1 (rdS (segV lo hi)).2 (rdV a.v))) - rdR (ratV (farQ 2 (rdS (segV lo hi)).1 (rdS (segV lo hi)).2 (rdV b.v))))):=by rw [rdR_ratV,rdR_ratV,←hx,←hy];exact(qx.sub qy).rk (by decide)
   have ix:decide (cmpQ (rdR (ratV (farQ 2 (rdS (segV lo hi)).1 (rdS (segV lo hi)).2 (rdV a.v)))) 0≤0)=decide (cmpQ x 0≤0):=by rw [rdR_ratV,←hx]
   have iy:decide (cmpQ (rdR (ratV (farQ 2 (rdS (segV lo hi)).1 (rdS (segV lo hi)).2 (rdV b.v)))) 0≤0)=decide (cmpQ y 0≤0):=by rw [rdR_ratV,←hy]
   have it:rdR (ratV (farQ 2 (rdS (segV lo hi)).1 (rdS (segV lo hi)).2 (rdV a.v))) / rdR (ratV (rdR (ratV (farQ 2 (rdS (segV lo hi)).1 (rdS (segV lo hi)).2 (rdV a.v))) - rdR (ratV (farQ 2 (rdS (segV lo hi)).1 (rdS (segV lo hi)).2 (rdV b.v)))))=x / (x - y):=by rw [rdR_ratV,rdR_ratV,rdR_ratV,←hx,←hy]
   have prA:isSeg 4294967296 (segV lo hi)∧isPk 4294967296 a.v:=⟨⟨lo,hi,rfl,hlo',hhi'⟩,a,rfl,ha'⟩
   have prB:isSeg 4294967296 (segV lo hi)∧isPk 4294967296 b.v:=⟨⟨lo,hi,rfl,hlo',hhi'⟩,b,rfl,hb'⟩
   have sk:decide (cmpQ (rdR (ratV (farQ 2 (rdS (segV lo hi)).1 (rdS (segV lo hi)).2 (rdV a.v)))) 0≤0)=true→decide (cmpQ (rdR (ratV (farQ 2 (rdS (segV lo hi)).1 (rdS (segV lo hi)).2 (rdV b.v)))) 0≤0)=true→(partsP lo hi (pn c) (fun i=>pts (pg c i)) a b (2)).length=(partsP lo hi (pn c) (fun i=>pts (pg c i)) a b (3)).length:=fun h h'=>by
    rw [ix] at h
    rw [iy] at h'
    have e:partsP lo hi (pn c) (fun i=>pts (pg c i)) a b (2+1)=partsP lo hi (pn c) (fun i=>pts (pg c i)) a b 2++oneS 2 lo hi a b:=rfl
    rw [e,hone,h,h']
    simp
   have yl:∀fr:Rat,oneS 2 lo hi a b=[(-((2:Nat)+1:Int),fr)]→(partsP lo hi (pn c) (fun i=>pts (pg c i)) a b (2)).length < (partsP lo hi (pn c) (fun i=>pts (pg c i)) a b (k+4)).length∧[PV.val (.int .i64 (-3)),PV.val (ratV fr)]=pairV (partsP lo hi (pn c) (fun i=>pts (pg c i)) a b (k+4)) (partsP lo hi (pn c) (fun i=>pts (pg c i)) a b (2)).length∧(partsP lo hi (pn c) (fun i=>pts (pg c i)) a b (2)).length+1=(partsP lo hi (pn c) (fun i=>pts (pg c i)) a b (3)).length:=fun fr h=>by
    have h1:=partsP_at (n:=pn c) (p:=fun i=>pts (pg c i)) (show 2 < k+4 by omega) (x:=(-((2:Nat)+1:Int),fr)) (by rw [if_pos (by decide)];exact h)
    refine⟨h1.2.1,?_,h1.2.2.symm⟩
    unfold pairV ixL frL
    rw [h1.1]
    rfl
   have fa:(decide (cmpQ x 0≤0)&&decide (cmpQ y 0≤0))=false→decide (cmpQ (rdR (ratV (farQ 2 (rdS (segV lo hi)).1 (rdS (segV lo hi)).2 (rdV a.v)))) 0≤0)=true→oneS 2 lo hi a b=[(-((2:Nat)+1:Int),rdR (ratV (farQ 2 (rdS (segV lo hi)).1 (rdS (segV lo hi)).2 (rdV a.v))) / rdR (ratV (rdR (ratV (farQ 2 (rdS (segV lo hi)).1 (rdS (segV lo hi)).2 (rdV a.v))) - rdR (ratV (farQ 2 (rdS (segV lo hi)).1 (rdS (segV lo hi)).2 (rdV b.v))))))]:=fun h h'=>by
    rw [ix] at h'
    rw [hone,h,h',it]
    rfl
   have fb:(decide (cmpQ x 0≤0)&&decide (cmpQ y 0≤0))=false→decide (cmpQ (rdR (ratV (farQ 2 (rdS (segV lo hi)).1 (rdS (segV lo hi)).2 (rdV a.v)))) 0≤0)=false→oneS 2 lo hi a b=[(-((2:Nat)+1:Int),0)]:=fun h h'=>by
    rw [ix] at h'
    rw [hone,h,h']
    rfl
   have k1:decide (cmpQ (rdR (ratV (farQ 2 (rdS (segV lo hi)).1 (rdS (segV lo hi)).2 (rdV b.v)))) 0≤0)=false→(decide (cmpQ x 0≤0)&&decide (cmpQ y 0≤0))=false:=fun h=>by
    rw [iy] at h
    rw [h,Bool.and_false]
   have k2:decide (cmpQ (rdR (ratV (farQ 2 (rdS (segV lo hi)).1 (rdS (segV lo hi)).2 (rdV a.v)))) 0≤0) = !true→(decide (cmpQ x 0≤0)&&decide (cmpQ y 0≤0))=false:=fun h=>by
    rw [ix] at h
    rw [h]
    rfl
   clear hx hy
   with_unfolding_all refine⟨fun _=>⟨⟨by decide,by decide⟩,⟨⟨prA,⟨⟨prB,⟨?_,?_⟩⟩,⟨⟨⟨prB,?_⟩,⟨prB,?_⟩⟩,⟨⟨prB,?_⟩,⟨prB,?_⟩⟩⟩⟩⟩,⟨⟨⟨prA,⟨⟨prB,?_⟩,⟨prB,?_⟩⟩⟩,⟨prA,⟨prB,?_⟩⟩⟩,⟨⟨prA,⟨⟨prB,?_⟩,⟨prB,?_⟩⟩⟩,⟨prA,⟨prB,?_⟩⟩⟩⟩⟩⟩,fun hh=>absurd hh (by decide)⟩
   all_goals with_unfolding_all refine⟨rx,fun h1=>⟨ry,fun h2=>⟨3,[],by show 3≤4;decide,by show 4 - 3 < 4 - 2;decide,Wo trivial ⟨rfl,⟨rfl,rfl,rfl,rfl,fun _ _=>rfl⟩,⟨rfl,rfl,rfl,rfl,fun _ _=>rfl⟩,rfl,rfl,trivial⟩ ⟨⟨congrArg (fun z:Nat=>PV.val (.int .i64 (z:Int))) (sk h1 h2),rfl,trivial⟩,trivial⟩⟩,fun h2=>⟨rx,fun h3=>⟨⟨rx,ry⟩,⟨rx,rd⟩,⟨rfl,(partsP lo hi (pn c) (fun i=>pts (pg c i)) a b (2)).length,rfl,(yl _ (fa (k1 h2) h3)).1,(yl _ (fa (k1 h2) h3)).2.1,⟨fun e=>(nomatch e),fun _=>⟨3,[],by show 3≤4;decide,by show 4 - 3 < 4 - 2;decide,Wo trivial ⟨rfl,⟨rfl,rfl,rfl,rfl,fun _ _=>rfl⟩,⟨rfl,rfl,rfl,rfl,fun _ _=>rfl⟩,rfl,rfl,trivial⟩ ⟨⟨congrArg (fun z:Nat=>PV.val (.int .i64 (z:Int))) (yl _ (fa (k1 h2) h3)).2.2,rfl,trivial⟩,trivial⟩⟩⟩,⟨fun _=>trivial,fun e=>(nomatch e)⟩⟩⟩,fun h3=>⟨rfl,(partsP lo hi (pn c) (fun i=>pts (pg c i)) a b (2)).length,rfl,(yl _ (fb (k1 h2) h3)).1,(yl _ (fb (k1 h2) h3)).2.1,⟨fun e=>(nomatch e),fun _=>⟨3,[],by show 3≤4;decide,by show 4 - 3 < 4 - 2;decide,Wo trivial ⟨rfl,⟨rfl,rfl,rfl,rfl,fun _ _=>rfl⟩,⟨rfl,rfl,rfl,rfl,fun _ _=>rfl⟩,rfl,rfl,trivial⟩ ⟨⟨congrArg (fun z:Nat=>PV.val (.int .i64 (z:Int))) (yl _ (fb (k1 h2) h3)).2.2,rfl,trivial⟩,trivial⟩⟩⟩,⟨fun _=>trivial,fun e=>(nomatch e)⟩⟩⟩⟩,fun h1=>⟨fun h2=>(nomatch h2),fun h2=>⟨rx,fun h3=>⟨⟨rx,ry⟩,⟨rx,rd⟩,⟨rfl,(partsP lo hi (pn c) (fun i=>pts (pg c i)) a b (2)).length,rfl,(yl _ (fa (k2 h1) h3)).1,(yl _ (fa (k2 h1) h3)).2.1,⟨fun e=>(nomatch e),fun _=>⟨3,[],by show 3≤4;decide,by show 4 - 3 < 4 - 2;decide,Wo trivial ⟨rfl,⟨rfl,rfl,rfl,rfl,fun _ _=>rfl⟩,⟨rfl,rfl,rfl,rfl,fun _ _=>rfl⟩,rfl,rfl,trivial⟩ ⟨⟨congrArg (fun z:Nat=>PV.val (.int .i64 (z:Int))) (yl _ (fa (k2 h1) h3)).2.2,rfl,trivial⟩,trivial⟩⟩⟩,⟨fun _=>trivial,fun e=>(nomatch e)⟩⟩⟩,fun h3=>⟨rfl,(partsP lo hi (pn c) (fun i=>pts (pg c i)) a b (2)).length,rfl,(yl _ (fb (k2 h1) h3)).1,(yl _ (fb (k2 h1) h3)).2.1,⟨fun e=>(nomatch e),fun _=>⟨3,[],by show 3≤4;decide,by show 4 - 3 < 4 - 2;decide,Wo trivial ⟨rfl,⟨rfl,rfl,rfl,rfl,fun _ _=>rfl⟩,⟨rfl,rfl,rfl,rfl,fun _ _=>rfl⟩,rfl,rfl,trivial⟩ ⟨⟨congrArg (fun z:Nat=>PV.val (.int .i64 (z:Int))) (yl _ (fb (k2 h1) h3)).2.2,rfl,trivial⟩,trivial⟩⟩⟩,⟨fun _=>trivial,fun e=>(nomatch e)⟩⟩⟩⟩⟩
  |3,_ =>
   obtain⟨x,hx⟩:∃x,x=(farQ 3 (rdS (segV lo hi)).1 (rdS (segV lo hi)).2 (rdV a.v)):=⟨_,rfl⟩
   obtain⟨y,hy⟩:∃y,y=(farQ 3 (rdS (segV lo hi)).1 (rdS (segV lo hi)).2 (rdV b.v)):=⟨_,rfl⟩
   have hx1:farQ 3 lo hi a=x:=by rw [hx];rfl
   have hy1:farQ 3 lo hi b=y:=by rw [hy];rfl
   have qx:QB 20003 x:=by rw [←hx1];exact farQ_le 3 hlo hhi ha
   have qy:QB 20003 y:=by rw [←hy1];exact farQ_le 3 hlo hhi hb
   have hone:oneS 3 lo hi a b=bif decide (cmpQ x 0≤0)&&decide (cmpQ y 0≤0) then [] else [(-((3:Nat)+1:Int),bif decide (cmpQ x 0≤0) then x / (x - y) else 0)]:=by unfold oneS;rw [hx1,hy1]
   have rx:isRk 4294967296 (ratV (farQ 3 (rdS (segV lo hi)).1 (rdS (segV lo hi)).2 (rdV a.v))):=by rw [←hx];exact qx.rk (by decide)
   have ry:isRk 4294967296 (ratV (farQ 3 (rdS (segV lo hi)).1 (rdS (segV lo hi)).2 (rdV b.v))):=by rw [←hy];exact qy.rk (by decide)
   have rd:isRk 4294967296 (ratV (rdR (ratV (farQ 3 (rdS (segV lo hi)).1 (rdS (segV lo hi)).2 (rdV a.v))) - rdR (ratV (farQ 3 (rdS (segV lo hi)).1 (rdS (segV lo hi)).2 (rdV b.v))))):=by rw [rdR_ratV,rdR_ratV,←hx,←hy];exact(qx.sub qy).rk (by decide)
   have ix:decide (cmpQ (rdR (ratV (farQ 3 (rdS (segV lo hi)).1 (rdS (segV lo hi)).2 (rdV a.v)))) 0≤0)=decide (cmpQ x 0≤0):=by rw [rdR_ratV,←hx]
   have iy:decide (cmpQ (rdR (ratV (farQ 3 (rdS (segV lo hi)).1 (rdS (segV lo hi)).2 (rdV b.v)))) 0≤0)=decide (cmpQ y 0≤0):=by rw [rdR_ratV,←hy]
   have it:rdR (ratV (farQ 3 (rdS (segV lo hi)).1 (rdS (segV lo hi)).2 (rdV a.v))) / rdR (ratV (rdR (ratV (farQ 3 (rdS (segV lo hi)).1 (rdS (segV lo hi)).2 (rdV a.v))) - rdR (ratV (farQ 3 (rdS (segV lo hi)).1 (rdS (segV lo hi)).2 (rdV b.v)))))=x / (x - y):=by rw [rdR_ratV,rdR_ratV,rdR_ratV,←hx,←hy]
   have prA:isSeg 4294967296 (segV lo hi)∧isPk 4294967296 a.v:=⟨⟨lo,hi,rfl,hlo',hhi'⟩,a,rfl,ha'⟩
   have prB:isSeg 4294967296 (segV lo hi)∧isPk 4294967296 b.v:=⟨⟨lo,hi,rfl,hlo',hhi'⟩,b,rfl,hb'⟩
   have sk:decide (cmpQ (rdR (ratV (farQ 3 (rdS (segV lo hi)).1 (rdS (segV lo hi)).2 (rdV a.v)))) 0≤0)=true→decide (cmpQ (rdR (ratV (farQ 3 (rdS (segV lo hi)).1 (rdS (segV lo hi)).2 (rdV b.v)))) 0≤0)=true→(partsP lo hi (pn c) (fun i=>pts (pg c i)) a b (3)).length=(partsP lo hi (pn c) (fun i=>pts (pg c i)) a b (4)).length:=fun h h'=>by
    rw [ix] at h
    rw [iy] at h'
    have e:partsP lo hi (pn c) (fun i=>pts (pg c i)) a b (3+1)=partsP lo hi (pn c) (fun i=>pts (pg c i)) a b 3++oneS 3 lo hi a b:=rfl
    rw [e,hone,h,h']
    simp
   have yl:∀fr:Rat,oneS 3 lo hi a b=[(-((3:Nat)+1:Int),fr)]→(partsP lo hi (pn c) (fun i=>pts (pg c i)) a b (3)).length < (partsP lo hi (pn c) (fun i=>pts (pg c i)) a b (k+4)).length∧[PV.val (.int .i64 (-4)),PV.val (ratV fr)]=pairV (partsP lo hi (pn c) (fun i=>pts (pg c i)) a b (k+4)) (partsP lo hi (pn c) (fun i=>pts (pg c i)) a b (3)).length∧(partsP lo hi (pn c) (fun i=>pts (pg c i)) a b (3)).length+1=(partsP lo hi (pn c) (fun i=>pts (pg c i)) a b (4)).length:=fun fr h=>by
    have h1:=partsP_at (n:=pn c) (p:=fun i=>pts (pg c i)) (show 3 < k+4 by omega) (x:=(-((3:Nat)+1:Int),fr)) (by rw [if_pos (by decide)];exact h)
    refine⟨h1.2.1,?_,h1.2.2.symm⟩
    unfold pairV ixL frL
    rw [h1.1]
    rfl
   have fa:(decide (cmpQ x 0≤0)&&decide (cmpQ y 0≤0))=false→decide (cmpQ (rdR (ratV (farQ 3 (rdS (segV lo hi)).1 (rdS (segV lo hi)).2 (rdV a.v)))) 0≤0)=true→oneS 3 lo hi a b=[(-((3:Nat)+1:Int),rdR (ratV (farQ 3 (rdS (segV lo hi)).1 (rdS (segV lo hi)).2 (rdV a.v))) / rdR (ratV (rdR (ratV (farQ 3 (rdS (segV lo hi)).1 (rdS (segV lo hi)).2 (rdV a.v))) - rdR (ratV (farQ 3 (rdS (segV lo hi)).1 (rdS (segV lo hi)).2 (rdV b.v))))))]:=fun h h'=>by
    rw [ix] at h'
    rw [hone,h,h',it]
    rfl
   have fb:(decide (cmpQ x 0≤0)&&decide (cmpQ y 0≤0))=false→decide (cmpQ (rdR (ratV (farQ 3 (rdS (segV lo hi)).1 (rdS (segV lo hi)).2 (rdV a.v)))) 0≤0)=false→oneS 3 lo hi a b=[(-((3:Nat)+1:Int),0)]:=fun h h'=>by
    rw [ix] at h'
    rw [hone,h,h']
    rfl
   have k1:decide (cmpQ (rdR (ratV (farQ 3 (rdS (segV lo hi)).1 (rdS (segV lo hi)).2 (rdV b.v)))) 0≤0)=false→(decide (cmpQ x 0≤0)&&decide (cmpQ y 0≤0))=false:=fun h=>by
    rw [iy] at h
    rw [h,Bool.and_false]
   have k2:decide (cmpQ (rdR (ratV (farQ 3 (rdS (segV lo hi)).1 (rdS (segV lo hi)).2 (rdV a.v)))) 0≤0) = !true→(decide (cmpQ x 0≤0)&&decide (cmpQ y 0≤0))=false:=fun h=>by
    rw [ix] at h
    rw [h]
    rfl
   clear hx hy
   with_unfolding_all refine⟨fun _=>⟨⟨by decide,by decide⟩,⟨⟨prA,⟨⟨prB,⟨?_,?_⟩⟩,⟨⟨⟨prB,?_⟩,⟨prB,?_⟩⟩,⟨⟨prB,?_⟩,⟨prB,?_⟩⟩⟩⟩⟩,⟨⟨⟨prA,⟨⟨prB,?_⟩,⟨prB,?_⟩⟩⟩,⟨prA,⟨prB,?_⟩⟩⟩,⟨⟨prA,⟨⟨prB,?_⟩,⟨prB,?_⟩⟩⟩,⟨prA,⟨prB,?_⟩⟩⟩⟩⟩⟩,fun hh=>absurd hh (by decide)⟩
   all_goals with_unfolding_all refine⟨rx,fun h1=>⟨ry,fun h2=>⟨4,[],by show 4≤4;decide,by show 4 - 4 < 4 - 3;decide,Wo trivial ⟨rfl,⟨rfl,rfl,rfl,rfl,fun _ _=>rfl⟩,⟨rfl,rfl,rfl,rfl,fun _ _=>rfl⟩,rfl,rfl,trivial⟩ ⟨⟨congrArg (fun z:Nat=>PV.val (.int .i64 (z:Int))) (sk h1 h2),rfl,trivial⟩,trivial⟩⟩,fun h2=>⟨rx,fun h3=>⟨⟨rx,ry⟩,⟨rx,rd⟩,⟨rfl,(partsP lo hi (pn c) (fun i=>pts (pg c i)) a b (3)).length,rfl,(yl _ (fa (k1 h2) h3)).1,(yl _ (fa (k1 h2) h3)).2.1,⟨fun e=>(nomatch e),fun _=>⟨4,[],by show 4≤4;decide,by show 4 - 4 < 4 - 3;decide,Wo trivial ⟨rfl,⟨rfl,rfl,rfl,rfl,fun _ _=>rfl⟩,⟨rfl,rfl,rfl,rfl,fun _ _=>rfl⟩,rfl,rfl,trivial⟩ ⟨⟨congrArg (fun z:Nat=>PV.val (.int .i64 (z:Int))) (yl _ (fa (k1 h2) h3)).2.2,rfl,trivial⟩,trivial⟩⟩⟩,⟨fun _=>trivial,fun e=>(nomatch e)⟩⟩⟩,fun h3=>⟨rfl,(partsP lo hi (pn c) (fun i=>pts (pg c i)) a b (3)).length,rfl,(yl _ (fb (k1 h2) h3)).1,(yl _ (fb (k1 h2) h3)).2.1,⟨fun e=>(nomatch e),fun _=>⟨4,[],by show 4≤4;decide,by show 4 - 4 < 4 - 3;decide,Wo trivial ⟨rfl,⟨rfl,rfl,rfl,rfl,fun _ _=>rfl⟩,⟨rfl,rfl,rfl,rfl,fun _ _=>rfl⟩,rfl,rfl,trivial⟩ ⟨⟨congrArg (fun z:Nat=>PV.val (.int .i64 (z:Int))) (yl _ (fb (k1 h2) h3)).2.2,rfl,trivial⟩,trivial⟩⟩⟩,⟨fun _=>trivial,fun e=>(nomatch e)⟩⟩⟩⟩,fun h1=>⟨fun h2=>(nomatch h2),fun h2=>⟨rx,fun h3=>⟨⟨rx,ry⟩,⟨rx,rd⟩,⟨rfl,(partsP lo hi (pn c) (fun i=>pts (pg c i)) a b (3)).length,rfl,(yl _ (fa (k2 h1) h3)).1,(yl _ (fa (k2 h1) h3)).2.1,⟨fun e=>(nomatch e),fun _=>⟨4,[],by show 4≤4;decide,by show 4 - 4 < 4 - 3;decide,Wo trivial ⟨rfl,⟨rfl,rfl,rfl,rfl,fun _ _=>rfl⟩,⟨rfl,rfl,rfl,rfl,fun _ _=>rfl⟩,rfl,rfl,trivial⟩ ⟨⟨congrArg (fun z:Nat=>PV.val (.int .i64 (z:Int))) (yl _ (fa (k2 h1) h3)).2.2,rfl,trivial⟩,trivial⟩⟩⟩,⟨fun _=>trivial,fun e=>(nomatch e)⟩⟩⟩,fun h3=>⟨rfl,(partsP lo hi (pn c) (fun i=>pts (pg c i)) a b (3)).length,rfl,(yl _ (fb (k2 h1) h3)).1,(yl _ (fb (k2 h1) h3)).2.1,⟨fun e=>(nomatch e),fun _=>⟨4,[],by show 4≤4;decide,by show 4 - 4 < 4 - 3;decide,Wo trivial ⟨rfl,⟨rfl,rfl,rfl,rfl,fun _ _=>rfl⟩,⟨rfl,rfl,rfl,rfl,fun _ _=>rfl⟩,rfl,rfl,trivial⟩ ⟨⟨congrArg (fun z:Nat=>PV.val (.int .i64 (z:Int))) (yl _ (fb (k2 h1) h3)).2.2,rfl,trivial⟩,trivial⟩⟩⟩,⟨fun _=>trivial,fun e=>(nomatch e)⟩⟩⟩⟩⟩
  |4,_ =>
   have h44:decide (((4:Nat):Int) < 4)=true→False:=fun h=>absurd h (by decide)
   with_unfolding_all refine⟨fun h=>h44 h,fun _=>⟨Nat,fun i=>i≤k,fun i=>stOf [(0,.val (.func (.yield L0) ⟨[]⟩ ⟨[]⟩)),(1,.rp 14 1 (fun _=>regC lo hi k c l o) 0 0),(2,.rp 12 1 (fun _=>segC a b) 0 0),(60,.rs 1 k (fun i=>[.rs 6 (pn c i) (pg c i)])),(61,.val (goInt k)),(62,.val (goInt i))] [] 0 [[(0,.val (.int .i64 ((partsP lo hi (pn c) (fun i=>pts (pg c i)) a b (i+4)).length:Nat))),(1,.val (.bool false))]],fun i=>k - i,⟨0,[],Nat.zero_le _,Wo trivial ⟨rfl,⟨rfl,rfl,rfl,rfl,fun _ _=>rfl⟩,⟨rfl,rfl,rfl,rfl,fun _ _=>rfl⟩,⟨rfl,rfl,fun _ _=>rfl⟩,rfl,rfl,trivial⟩ ⟨⟨rfl,rfl,trivial⟩,trivial⟩⟩,fun i hik=>?_⟩⟩
   have hX:(partO (pn c ((i:Nat):Int).toNat) (pts (pg c ((i:Nat):Int).toNat)) (rdS (segV a b)).1 (rdS (segV a b)).2)=partO (pn c i) (pts (pg c i)) a b:=rfl
   have sk:(partO (pn c ((i:Nat):Int).toNat) (pts (pg c ((i:Nat):Int).toNat)) (rdS (segV a b)).1 (rdS (segV a b)).2).isSome=false→(partsP lo hi (pn c) (fun i=>pts (pg c i)) a b (i+4)).length=(partsP lo hi (pn c) (fun i=>pts (pg c i)) a b ((i+1)+4)).length:=fun h=>by
    rw [hX] at h
    have e:partsP lo hi (pn c) (fun i=>pts (pg c i)) a b (i+4+1)=partsP lo hi (pn c) (fun i=>pts (pg c i)) a b (i+4)++(if i+4 < 4 then oneS (i+4) lo hi a b else oneC (i+4 - 4) (pn c (i+4 - 4)) (pts (pg c (i+4 - 4))) a b):=rfl
    rw [show i+1+4=i+4+1 by omega,e,if_neg (by omega),show i+4 - 4=i by omega,oneC]
    cases hh:partO (pn c i) (pts (pg c i)) a b with
    |none=>simp
    |some s=>rw [hh] at h;cases h
   have yl:i < k→(partO (pn c ((i:Nat):Int).toNat) (pts (pg c ((i:Nat):Int).toNat)) (rdS (segV a b)).1 (rdS (segV a b)).2).isSome=true→(partsP lo hi (pn c) (fun i=>pts (pg c i)) a b (i+4)).length < (partsP lo hi (pn c) (fun i=>pts (pg c i)) a b (k+4)).length∧[PV.val (.int .i64 i),PV.val (ratV (loO (partO (pn c ((i:Nat):Int).toNat) (pts (pg c ((i:Nat):Int).toNat)) (rdS (segV a b)).1 (rdS (segV a b)).2)))]=pairV (partsP lo hi (pn c) (fun i=>pts (pg c i)) a b (k+4)) (partsP lo hi (pn c) (fun i=>pts (pg c i)) a b (i+4)).length∧(partsP lo hi (pn c) (fun i=>pts (pg c i)) a b (i+4)).length+1=(partsP lo hi (pn c) (fun i=>pts (pg c i)) a b ((i+1)+4)).length:=fun hik h=>by
    rw [hX] at h ⊢
    cases hh:partO (pn c i) (pts (pg c i)) a b with
    |none=>rw [hh] at h;cases h
    |some s =>
    have h1:=partsP_at (lo:=lo) (hi:=hi) (n:=pn c) (p:=fun i=>pts (pg c i)) (a:=a) (b:=b) (show i+4 < k+4 by omega) (x:=((i:Int),s.1)) (by rw [if_neg (by omega),show i+4 - 4=i by omega,oneC,hh])
    refine⟨h1.2.1,?_,by rw [show i+1+4=i+4+1 by omega];exact h1.2.2.symm⟩
    unfold pairV ixL frL
    rw [h1.1]
    rfl
   have nb:(partO (pn c ((i:Nat):Int).toNat) (pts (pg c ((i:Nat):Int).toNat)) (rdS (segV a b)).1 (rdS (segV a b)).2).isSome=true→partB (pn c ((i:Nat):Int).toNat) (pts (pg c ((i:Nat):Int).toNat)) (rdS (segV a b)).1 (rdS (segV a b)).2=false:=fun h=>by
    rw [hX] at h
    show partB (pn c i) (pts (pg c i)) a b=false
    cases hb:partB (pn c i) (pts (pg c i)) a b
    ·rfl
    ·unfold partO at h
     rw [hb] at h
     cases h
   have nb':(partO (pn c ((i:Nat):Int).toNat) (pts (pg c ((i:Nat):Int).toNat)) (rdS (segV a b)).1 (rdS (segV a b)).2).isSome=true→∀x:Bool,x=((bif partB (pn c ((i:Nat):Int).toNat) (pts (pg c ((i:Nat):Int).toNat)) (rdS (segV a b)).1 (rdS (segV a b)).2 then(1:Int) else 0)==0)→x=false→False:=fun h x hx h'=>by
    rw [nb h] at hx
    rw [hx] at h'
    cases h'
   have ltT:decide ((i:Int) < (k:Int))=true→i < k:=fun h=>Int.ofNat_lt.1 (of_decide_eq_true h)
   have ltF:decide ((i:Int) < (k:Int))=false→i=k:=fun h=>Nat.le_antisymm hik (Nat.le_of_not_lt fun h'=>of_decide_eq_false h (Int.ofNat_lt.2 h'))
   have wi:decide ((i:Int) < (k:Int))=true→PV.val (.int .i64 (IntKind.i64.wrap ((i:Int)+1)))=.val (goInt (i+1:Nat)):=fun h=>by
    have:=ltT h
    rw [wrap64 (by omega) (by omega)]
    rfl
   with_unfolding_all refine⟨fun h0=>⟨⟨Int.natCast_nonneg i,Int.ofNat_lt.2 (ltT h0)⟩,⟨(hc i (ltT h0)).2,a,b,rfl,ha,hb⟩,fun h1=>⟨fun h2=>⟨rfl,(partsP lo hi (pn c) (fun i=>pts (pg c i)) a b (i+4)).length,rfl,(yl (ltT h0) h1).1,(yl (ltT h0) h1).2.1,⟨fun _=>⟨fun e=>(nomatch e),fun _=>⟨i+1,[],ltT h0,by have:=ltT h0;show k - (i+1) < k - i;omega,Wo trivial ⟨rfl,⟨rfl,rfl,rfl,rfl,fun _ _=>rfl⟩,⟨rfl,rfl,rfl,rfl,fun _ _=>rfl⟩,⟨rfl,rfl,fun _ _=>rfl⟩,rfl,wi h0,trivial⟩ ⟨⟨congrArg (fun z:Nat=>PV.val (.int .i64 (z:Int))) (yl (ltT h0) h1).2.2,rfl,trivial⟩,trivial⟩⟩⟩,fun e=>(nomatch e)⟩,⟨fun _=>⟨fun _=>trivial,fun e=>(nomatch e)⟩,fun e=>(nomatch e)⟩⟩,fun h2=>⟨fun e=>(nomatch e),fun _=>(nb' h1 _ rfl h2).elim⟩⟩,fun h1=>⟨fun e=>(nomatch e),fun _=>⟨fun e=>(nomatch e),fun _=>⟨i+1,[],ltT h0,by have:=ltT h0;show k - (i+1) < k - i;omega,Wo trivial ⟨rfl,⟨rfl,rfl,rfl,rfl,fun _ _=>rfl⟩,⟨rfl,rfl,rfl,rfl,fun _ _=>rfl⟩,⟨rfl,rfl,fun _ _=>rfl⟩,rfl,wi h0,trivial⟩ ⟨⟨congrArg (fun z:Nat=>PV.val (.int .i64 (z:Int))) (sk h1),rfl,trivial⟩,trivial⟩⟩⟩⟩⟩,fun h0=>?_⟩
   rw [ltF h0]
   rfl
  |j+5,h=>exact absurd h (by show ¬j+5≤4;omega)
 ·cases e
end Go.Proofs
namespace Go.Num
open Go Go.Ex Go.Proofs
def okB (lo hi:PtS) (k:Nat) (c:Nat→List PV) (l:Nat) (o:Nat→List PV) (v:Value):Bool:=!(!canonP (rdS v).1||!canonP (rdS v).2)&&(regE lo hi k (pn c) (fun i=>pts (pg c i)) l (ow o)==0)
def partsC (lo hi:PtS) (k:Nat) (c:Nat→List PV) (v:Value):List (Int×Rat):=partsL lo hi k (pn c) (fun i=>pts (pg c i)) (rdS v).1 (rdS v).2
def blkI (b:Bool) (L:List (Int×Rat)):Int:=bif b then ixL L 0 else 0
end Go.Num
namespace Go.Proofs
open Go Go.Ex Go.Num
set_option maxRecDepth 100000
def c91:List PV→Option Ans
 |[.agg [.val (.bool s1),.val (.string b1),.val (.string c1),.val (.bool s2),.val (.string b2),.val (.string c2),.val (.bool s3),.val (.string b3),.val (.string c3),.val (.bool s4),.val (.string b4),.val (.string c4),.rs 1 k c,.rs 3 l o],.val v]=>some ⟨some (((PtS.le 10000 (PtS.mk ⟨s1,b1,c1⟩ ⟨s2,b2,c2⟩)∧PtS.le 10000 (PtS.mk ⟨s3,b3,c3⟩ ⟨s4,b4,c4⟩))∧isCL 10000 k c∧isOL l o)∧isSeg 10000 v),.val (.tuple ⟨[.int .i64 (blkI (okB (PtS.mk ⟨s1,b1,c1⟩ ⟨s2,b2,c2⟩) (PtS.mk ⟨s3,b3,c3⟩ ⟨s4,b4,c4⟩) k c l o v) (partsC (PtS.mk ⟨s1,b1,c1⟩ ⟨s2,b2,c2⟩) (PtS.mk ⟨s3,b3,c3⟩ ⟨s4,b4,c4⟩) k c v)),.bool (okB (PtS.mk ⟨s1,b1,c1⟩ ⟨s2,b2,c2⟩) (PtS.mk ⟨s3,b3,c3⟩ ⟨s4,b4,c4⟩) k c l o v&&!(partsC (PtS.mk ⟨s1,b1,c1⟩ ⟨s2,b2,c2⟩) (PtS.mk ⟨s3,b3,c3⟩ ⟨s4,b4,c4⟩) k c v).isEmpty),.int .i64 (okW (okB (PtS.mk ⟨s1,b1,c1⟩ ⟨s2,b2,c2⟩) (PtS.mk ⟨s3,b3,c3⟩ ⟨s4,b4,c4⟩) k c l o v))]⟩),[]⟩
 |_=>none
def D91:Opt:={ }
theorem ok91:funcOk D91.toOrd Tryz.f91 2=true:=by kernel_rfl
theorem f91:FnOk Tryz.prog 91 c91:=by
 refine FnOk.ofW orders (mkS_ok (l:=[(125,c125),(126,c126)]) (own:=[]) (inl:=[]) (sq:=[(171,c171)]) (by simp [f125,f126]) (by simp) (by simp [f171])) Tryz.func91 D91 2 ok91 fun args r e=>?_
 unfold c91 at e
 split at e
 ·rename_i s1 b1 c1 s2 b2 c2 s3 b3 c3 s4 b4 c4 k c l o v
  cases e
  refine⟨by simp,fun hm=>?_⟩
  obtain⟨⟨⟨hlo,hhi⟩,⟨hc,hk⟩,ho,hl⟩,a,b,rfl,ha,hb⟩:=hm _ rfl
  obtain⟨lo,hlo'⟩:∃p,p=(PtS.mk ⟨s1,b1,c1⟩ ⟨s2,b2,c2⟩):=⟨_,rfl⟩
  obtain⟨hi,hhi'⟩:∃p,p=(PtS.mk ⟨s3,b3,c3⟩ ⟨s4,b4,c4⟩):=⟨_,rfl⟩
  have hc1:∀i,i < k→[.rs 6 (pn c i) (pg c i)]=c i:=fun i hi=>(hc i hi).1.symm
  have ho1:∀i,i < l→cellsO (ow o i)=o i:=fun i hi=>(ho i hi).symm
  refine⟨[],stOf [(0,.agg [.val (.bool (PtS.mk ⟨s1,b1,c1⟩ ⟨s2,b2,c2⟩).x.s),.val (.string (PtS.mk ⟨s1,b1,c1⟩ ⟨s2,b2,c2⟩).x.b),.val (.string (PtS.mk ⟨s1,b1,c1⟩ ⟨s2,b2,c2⟩).x.c),.val (.bool (PtS.mk ⟨s1,b1,c1⟩ ⟨s2,b2,c2⟩).y.s),.val (.string (PtS.mk ⟨s1,b1,c1⟩ ⟨s2,b2,c2⟩).y.b),.val (.string (PtS.mk ⟨s1,b1,c1⟩ ⟨s2,b2,c2⟩).y.c),.val (.bool (PtS.mk ⟨s3,b3,c3⟩ ⟨s4,b4,c4⟩).x.s),.val (.string (PtS.mk ⟨s3,b3,c3⟩ ⟨s4,b4,c4⟩).x.b),.val (.string (PtS.mk ⟨s3,b3,c3⟩ ⟨s4,b4,c4⟩).x.c),.val (.bool (PtS.mk ⟨s3,b3,c3⟩ ⟨s4,b4,c4⟩).y.s),.val (.string (PtS.mk ⟨s3,b3,c3⟩ ⟨s4,b4,c4⟩).y.b),.val (.string (PtS.mk ⟨s3,b3,c3⟩ ⟨s4,b4,c4⟩).y.c),.rs 1 k (fun i=>[.rs 6 (pn c i) (pg c i)]),.rs 3 l (fun i=>cellsO (ow o i))]),(1,.val (segV a b))] [] 0 [],Wo trivial ⟨⟨rfl,rfl,rfl,rfl,rfl,rfl,rfl,rfl,rfl,rfl,rfl,rfl,⟨rfl,rfl,hc1⟩,⟨rfl,rfl,ho1⟩,trivial⟩,rfl,trivial⟩ trivial,?_⟩
  rw [←hlo'] at hlo ⊢
  rw [←hhi'] at hhi ⊢
  clear hlo' hhi' hm
  have hlo':=hlo.mono (show 10000≤4294967296 by decide)
  have hhi':=hhi.mono (show 10000≤4294967296 by decide)
  have hrg:(lo.le 4294967296∧hi.le 4294967296)∧isCL 10000 k (fun i=>[.rs 6 (pn c i) (pg c i)])∧isOL l (fun i=>cellsO (ow o i)):=⟨⟨hlo',hhi'⟩,⟨fun i hi=>⟨rfl,(hc i hi).2⟩,hk⟩,fun i hi=>rfl,hl⟩
  obtain⟨R,hR⟩:∃R,R=regE lo hi k (pn c) (fun i=>pts (pg c i)) l (ow o):=⟨_,rfl⟩
  have hR':regE lo hi k (pn (fun i=>[.rs 6 (pn c i) (pg c i)])) (fun i=>pts (pg (fun i=>[.rs 6 (pn c i) (pg c i)]) i)) l (ow (fun i=>cellsO (ow o i)))=R:=hR.symm
  have ha':=ha.mono (show 10000≤4294967296 by decide)
  have hb':=hb.mono (show 10000≤4294967296 by decide)
  obtain⟨L,hL⟩:∃L,L=partsC lo hi k c (segV a b):=⟨_,rfl⟩
  rw [←hL]
  obtain⟨OK,hOK⟩:∃OK,OK=okB lo hi k c l o (segV a b):=⟨_,rfl⟩
  rw [←hOK]
  obtain⟨VI,hVI⟩:∃VI,VI=blkI OK L:=⟨_,rfl⟩
  rw [←hVI]
  obtain⟨VB,hVB⟩:∃VB,VB=(OK&&!L.isEmpty):=⟨_,rfl⟩
  rw [←hVB]
  have hL':partsL lo hi k (pn (fun i=>[.rs 6 (pn c i) (pg c i)])) (fun i=>pts (pg (fun i=>[.rs 6 (pn c i) (pg c i)]) i)) a b=L:=hL.symm
  have cn:∀r:Nat→List PV,pts r 0=a→pts r 1=b→anyP (fun i=>!canonP (pts r i)) 2=(!canonP a||!canonP b):=fun r h h'=>by
   have e:List.range 2=[0,1]:=rfl
   simp only [anyP,e,List.any_cons,List.any_nil,Bool.or_false,h,h']
  have p2:∀r:Nat→List PV,r 0=a.cells→r 1=b.cells→isPL 4294967296 2 r:=fun r h h'=>⟨fun i hi=>by
   match i,hi with
   |0,_=>exact⟨by rw [pts,h];rfl,by rw [pts,h];exact ha'⟩
   |1,_=>exact⟨by rw [pts,h'];rfl,by rw [pts,h'];exact hb'⟩
   |i+2,h=>omega,by decide⟩
  have hOK':OK=(!(!canonP a||!canonP b)&&(R==0)):=by rw [hOK,hR];rfl
  have q1:∀r:Nat→List PV,pts r 0=a→pts r 1=b→(!(!anyP (fun i=>!canonP (pts r i)) 2&&(regE lo hi k (pn (fun i=>[.rs 6 (pn c i) (pg c i)])) (fun i=>pts (pg (fun i=>[.rs 6 (pn c i) (pg c i)]) i)) l (ow (fun i=>cellsO (ow o i)))==0))) = !OK:=fun r h h'=>by
   rw [cn r h h',hR',hOK']
  with_unfolding_all refine⟨⟨hrg,p2 _ rfl rfl⟩,fun h1=>?_,fun h1=>?_⟩
  ·have h1:OK=false:=by
    have:=(q1 _ rfl rfl).symm.trans h1
    simpa using this
   have v1:PV.val (.int .i64 0)=PV.val (.int .i64 VI):=by rw [hVI,h1];rfl
   have v2:PV.val (.bool false)=PV.val (.bool VB):=by rw [hVB,h1];rfl
   have v3:PV.val (.int .i64 1)=PV.val (.int .i64 (okW OK)):=by rw [h1];rfl
   with_unfolding_all exact⟨[some 2,some 3,some 4],stOf [(4,.ptr 0 0 0 0),(5,.ptr 1 1 0 0),(6,.ptr 2 2 0 0)] [⟨3,1,0,true,false,1,fun _=>[.val (.int .i64 VI)]⟩,⟨4,1,1,true,false,1,fun _=>[.val (.bool VB)]⟩,⟨38,1,2,true,false,1,fun _=>[.val (.int .i64 (okW OK))]⟩] 3 [],Wo ⟨⟨lt_ok rfl,rfl,rfl,rfl,rfl,rfl,⟨v1,rfl⟩,trivial⟩,⟨lt_ok rfl,rfl,rfl,rfl,rfl,rfl,⟨v2,rfl⟩,trivial⟩,⟨lt_ok rfl,rfl,rfl,rfl,rfl,rfl,⟨v3,rfl⟩,trivial⟩,trivial⟩ ⟨pP,pP,pP,trivial⟩ trivial,rfl,rfl⟩
  ·have h1:OK=true:=by
    have:=(q1 _ rfl rfl).symm.trans h1
    simpa using this
   have v3:PV.val (.int .i64 0)=PV.val (.int .i64 (okW OK)):=by rw [h1];rfl
   with_unfolding_all refine⟨⟨⟨fun i _=>rfl,fun i _=>rfl⟩,a,b,rfl⟩,⟨rq,⟨hlo,hhi⟩,⟨ha,hb⟩,⟨fun i hi=>⟨rfl,(hc i hi).2⟩,hk⟩⟩,Unit,fun i _=>i=0,fun _=>stOf [(2,.ptr 0 0 0 0),(3,.ptr 1 1 0 0),(4,.ptr 2 2 0 0),(5,.ptr 3 3 0 0),(6,.ptr 4 4 0 0)] [⟨31,14,0,true,false,1,fun _=>[.val (.bool lo.x.s),.val (.string lo.x.b),.val (.string lo.x.c),.val (.bool lo.y.s),.val (.string lo.y.b),.val (.string lo.y.c),.val (.bool hi.x.s),.val (.string hi.x.b),.val (.string hi.x.c),.val (.bool hi.y.s),.val (.string hi.y.b),.val (.string hi.y.c),.rs 1 k (fun i=>[.rs 6 (pn c i) (pg c i)]),.rs 3 l (fun i=>cellsO (ow o i))]⟩,⟨117,12,1,true,false,1,fun _=>[.val (.bool a.x.s),.val (.string a.x.b),.val (.string a.x.c),.val (.bool a.y.s),.val (.string a.y.b),.val (.string a.y.c),.val (.bool b.x.s),.val (.string b.x.b),.val (.string b.x.c),.val (.bool b.y.s),.val (.string b.y.b),.val (.string b.y.c)]⟩,⟨3,1,2,true,false,1,fun _=>[.val (.int .i64 0)]⟩,⟨4,1,3,true,false,1,fun _=>[.val (.bool false)]⟩,⟨38,1,4,true,false,1,fun _=>[.val (.int .i64 0)]⟩] 5 [],⟨(),[some 0,some 1,some 2,some 3,some 4],rfl,Wo ⟨⟨lt_ok rfl,rfl,rfl,rfl,rfl,rfl,rq,rq,rq,rq,rq,rq,rq,rq,rq,rq,rq,rq,⟨⟨rfl,rfl,fun _ _=>rfl⟩,rfl⟩,⟨⟨rfl,rfl,fun _ _=>rfl⟩,rfl⟩,trivial⟩,⟨lt_ok rfl,rfl,rfl,rfl,rfl,rfl,rq,rq,rq,rq,rq,rq,rq,rq,rq,rq,rq,rq,trivial⟩,⟨lt_ok rfl,rfl,rfl,rfl,rfl,rfl,rq,trivial⟩,⟨lt_ok rfl,rfl,rfl,rfl,rfl,rfl,rq,trivial⟩,⟨lt_ok rfl,rfl,rfl,rfl,rfl,rfl,rq,trivial⟩,trivial⟩ ⟨pP,pP,pP,pP,pP,trivial⟩ trivial⟩,fun i y hin hI=>?_,fun y hI=>?_⟩
   ·have hI:i=0:=hI
    have hin:i < (partsL lo hi k (pn (fun i=>[.rs 6 (pn c i) (pg c i)])) (fun i=>pts (pg (fun i=>[.rs 6 (pn c i) (pg c i)]) i)) a b).length:=hin
    have v1:PV.val (.int .i64 (ixL (partsL lo hi k (pn (fun i=>[.rs 6 (pn c i) (pg c i)])) (fun i=>pts (pg (fun i=>[.rs 6 (pn c i) (pg c i)]) i)) a b) i))=PV.val (.int .i64 VI):=by rw [hL',hVI,h1,hI];rfl
    have v2:PV.val (.bool true)=PV.val (.bool VB):=by
     rw [hL'] at hin
     rw [hVB,h1]
     cases L with
     |nil=>cases hin
     |cons=>rfl
    with_unfolding_all exact⟨rfl,⟨[some 2,some 3,some 4],stOf [(4,.ptr 0 0 0 0),(5,.ptr 1 1 0 0),(6,.ptr 2 2 0 0)] [⟨3,1,0,true,false,1,fun _=>[.val (.int .i64 VI)]⟩,⟨4,1,1,true,false,1,fun _=>[.val (.bool VB)]⟩,⟨38,1,2,true,false,1,fun _=>[.val (.int .i64 (okW OK))]⟩] 3 [],Wo ⟨⟨lt_ok rfl,rfl,rfl,rfl,rfl,rfl,⟨v1,rfl⟩,trivial⟩,⟨lt_ok rfl,rfl,rfl,rfl,rfl,rfl,⟨v2,rfl⟩,trivial⟩,⟨lt_ok rfl,rfl,rfl,rfl,rfl,rfl,⟨v3,rfl⟩,trivial⟩,trivial⟩ ⟨pP,pP,pP,trivial⟩ trivial,rfl,rfl⟩⟩
   ·have hI:(partsL lo hi k (pn (fun i=>[.rs 6 (pn c i) (pg c i)])) (fun i=>pts (pg (fun i=>[.rs 6 (pn c i) (pg c i)]) i)) a b).length=0:=hI
    rw [hL'] at hI
    have hI:=List.length_eq_zero_iff.1 hI
    have v1:PV.val (.int .i64 0)=PV.val (.int .i64 VI):=by rw [hVI,h1,hI];rfl
    have v2:PV.val (.bool false)=PV.val (.bool VB):=by rw [hVB,h1,hI];rfl
    with_unfolding_all exact⟨[some 2,some 3,some 4],stOf [(4,.ptr 0 0 0 0),(5,.ptr 1 1 0 0),(6,.ptr 2 2 0 0)] [⟨3,1,0,true,false,1,fun _=>[.val (.int .i64 VI)]⟩,⟨4,1,1,true,false,1,fun _=>[.val (.bool VB)]⟩,⟨38,1,2,true,false,1,fun _=>[.val (.int .i64 (okW OK))]⟩] 3 [],Wo ⟨⟨lt_ok rfl,rfl,rfl,rfl,rfl,rfl,⟨v1,rfl⟩,trivial⟩,⟨lt_ok rfl,rfl,rfl,rfl,rfl,rfl,⟨v2,rfl⟩,trivial⟩,⟨lt_ok rfl,rfl,rfl,rfl,rfl,rfl,⟨v3,rfl⟩,trivial⟩,trivial⟩ ⟨pP,pP,pP,trivial⟩ trivial,rfl,rfl⟩
 ·cases e
end Go.Proofs
namespace Go.Num
open Go Go.Ex Go.Proofs
def seeB (lo hi:PtS) (k:Nat) (c:Nat→List PV) (l:Nat) (o:Nat→List PV) (a b:PtS):Bool:=okB lo hi k c l o (segV a b)&&(partsC lo hi k c (segV a b)).isEmpty
end Go.Num
namespace Go.Proofs
open Go Go.Ex Go.Num
set_option maxRecDepth 100000
def c56:List PV→Option Ans
 |[.agg [.val (.bool s1),.val (.string b1),.val (.string c1),.val (.bool s2),.val (.string b2),.val (.string c2),.val (.bool s3),.val (.string b3),.val (.string c3),.val (.bool s4),.val (.string b4),.val (.string c4),.rs 1 k c,.rs 3 l o],.val v,.val w]=>some ⟨some (((PtS.le 10000 (PtS.mk ⟨s1,b1,c1⟩ ⟨s2,b2,c2⟩)∧PtS.le 10000 (PtS.mk ⟨s3,b3,c3⟩ ⟨s4,b4,c4⟩))∧isCL 10000 k c∧isOL l o)∧isPk 10000 v∧isPk 10000 w),.val (.bool (seeB (PtS.mk ⟨s1,b1,c1⟩ ⟨s2,b2,c2⟩) (PtS.mk ⟨s3,b3,c3⟩ ⟨s4,b4,c4⟩) k c l o (rdV v) (rdV w))),[]⟩
 |_=>none
theorem ok56:funcOk {} Tryz.f56 1=true:=by kernel_rfl
theorem f56:FnOk Tryz.prog 56 c56:=by
 refine FnOk.ofW orders (mkE_ok (l:=[(91,c91)]) (own:=[]) (inl:=[]) (by simp [f91]) (by simp)) Tryz.func56 {} 3 ok56 fun args r e=>?_
 unfold c56 at e
 split at e
 ·rename_i s1 b1 c1 s2 b2 c2 s3 b3 c3 s4 b4 c4 k c l o v w
  cases e
  refine⟨by simp,fun hm=>?_⟩
  obtain⟨⟨⟨hlo,hhi⟩,⟨hc,hk⟩,ho,hl⟩,⟨a,rfl,ha⟩,b,rfl,hb⟩:=hm _ rfl
  obtain⟨lo,hlo'⟩:∃p,p=(PtS.mk ⟨s1,b1,c1⟩ ⟨s2,b2,c2⟩):=⟨_,rfl⟩
  obtain⟨hi,hhi'⟩:∃p,p=(PtS.mk ⟨s3,b3,c3⟩ ⟨s4,b4,c4⟩):=⟨_,rfl⟩
  have hc1:∀i,i < k→[.rs 6 (pn c i) (pg c i)]=c i:=fun i hi=>(hc i hi).1.symm
  have ho1:∀i,i < l→cellsO (ow o i)=o i:=fun i hi=>(ho i hi).symm
  refine⟨[],stOf [(0,.agg [.val (.bool (PtS.mk ⟨s1,b1,c1⟩ ⟨s2,b2,c2⟩).x.s),.val (.string (PtS.mk ⟨s1,b1,c1⟩ ⟨s2,b2,c2⟩).x.b),.val (.string (PtS.mk ⟨s1,b1,c1⟩ ⟨s2,b2,c2⟩).x.c),.val (.bool (PtS.mk ⟨s1,b1,c1⟩ ⟨s2,b2,c2⟩).y.s),.val (.string (PtS.mk ⟨s1,b1,c1⟩ ⟨s2,b2,c2⟩).y.b),.val (.string (PtS.mk ⟨s1,b1,c1⟩ ⟨s2,b2,c2⟩).y.c),.val (.bool (PtS.mk ⟨s3,b3,c3⟩ ⟨s4,b4,c4⟩).x.s),.val (.string (PtS.mk ⟨s3,b3,c3⟩ ⟨s4,b4,c4⟩).x.b),.val (.string (PtS.mk ⟨s3,b3,c3⟩ ⟨s4,b4,c4⟩).x.c),.val (.bool (PtS.mk ⟨s3,b3,c3⟩ ⟨s4,b4,c4⟩).y.s),.val (.string (PtS.mk ⟨s3,b3,c3⟩ ⟨s4,b4,c4⟩).y.b),.val (.string (PtS.mk ⟨s3,b3,c3⟩ ⟨s4,b4,c4⟩).y.c),.rs 1 k (fun i=>[.rs 6 (pn c i) (pg c i)]),.rs 3 l (fun i=>cellsO (ow o i))]),(1,.val a.v),(2,.val b.v)] [] 0 [],Wo trivial ⟨⟨rfl,rfl,rfl,rfl,rfl,rfl,rfl,rfl,rfl,rfl,rfl,rfl,⟨rfl,rfl,hc1⟩,⟨rfl,rfl,ho1⟩,trivial⟩,rfl,rfl,trivial⟩ trivial,?_⟩
  rw [←hlo'] at hlo ⊢
  rw [←hhi'] at hhi ⊢
  clear hlo' hhi' hm
  have hlo':=hlo.mono (show 10000≤4294967296 by decide)
  have hhi':=hhi.mono (show 10000≤4294967296 by decide)
  have hrg:(lo.le 4294967296∧hi.le 4294967296)∧isCL 10000 k (fun i=>[.rs 6 (pn c i) (pg c i)])∧isOL l (fun i=>cellsO (ow o i)):=⟨⟨hlo',hhi'⟩,⟨fun i hi=>⟨rfl,(hc i hi).2⟩,hk⟩,fun i hi=>rfl,hl⟩
  obtain⟨R,hR⟩:∃R,R=regE lo hi k (pn c) (fun i=>pts (pg c i)) l (ow o):=⟨_,rfl⟩
  have hR':regE lo hi k (pn (fun i=>[.rs 6 (pn c i) (pg c i)])) (fun i=>pts (pg (fun i=>[.rs 6 (pn c i) (pg c i)]) i)) l (ow (fun i=>cellsO (ow o i)))=R:=hR.symm
  clear hR' hR
  obtain⟨S,hS⟩:∃S,S=seeB lo hi k c l o a b:=⟨_,rfl⟩
  have hv:seeB lo hi k c l o (rdV a.v) (rdV b.v)=S:=hS.symm
  rw [hv]
  have hrg2:((lo.le 10000∧hi.le 10000)∧isCL 10000 k (fun i=>[.rs 6 (pn c i) (pg c i)])∧isOL l (fun i=>cellsO (ow o i)))∧isSeg 10000 (segV a b):=⟨⟨⟨hlo,hhi⟩,⟨fun i hi=>⟨rfl,(hc i hi).2⟩,hk⟩,fun i hi=>rfl,hl⟩,a,b,rfl,ha,hb⟩
  have fv:okB lo hi k (fun i=>[.rs 6 (pn c i) (pg c i)]) l (fun i=>cellsO (ow o i)) (segV a b)=okB lo hi k c l o (segV a b):=rfl
  have fw:partsC lo hi k (fun i=>[.rs 6 (pn c i) (pg c i)]) (segV a b)=partsC lo hi k c (segV a b):=rfl
  have w1:(okW (okB lo hi k (fun i=>[.rs 6 (pn c i) (pg c i)]) l (fun i=>cellsO (ow o i)) (segV a b))==0)=true→PV.val (.bool (!(okB lo hi k (fun i=>[.rs 6 (pn c i) (pg c i)]) l (fun i=>cellsO (ow o i)) (segV a b)&&!(partsC lo hi k (fun i=>[.rs 6 (pn c i) (pg c i)]) (segV a b)).isEmpty)))=PV.val (.bool S):=fun h=>by
   have h:okB lo hi k (fun i=>[.rs 6 (pn c i) (pg c i)]) l (fun i=>cellsO (ow o i)) (segV a b)=true:=by cases h':okB lo hi k (fun i=>[.rs 6 (pn c i) (pg c i)]) l (fun i=>cellsO (ow o i)) (segV a b) with
    |true=>rfl
    |false=>rw [h'] at h;cases h
   rw [fv] at h ⊢
   rw [fw,h,hS,seeB,h,Bool.true_and,Bool.true_and,Bool.not_not]
  have w2:(okW (okB lo hi k (fun i=>[.rs 6 (pn c i) (pg c i)]) l (fun i=>cellsO (ow o i)) (segV a b))==0)=false→PV.val (.bool false)=PV.val (.bool S):=fun h=>by
   have h:okB lo hi k (fun i=>[.rs 6 (pn c i) (pg c i)]) l (fun i=>cellsO (ow o i)) (segV a b)=false:=by cases h':okB lo hi k (fun i=>[.rs 6 (pn c i) (pg c i)]) l (fun i=>cellsO (ow o i)) (segV a b) with
    |false=>rfl
    |true=>rw [h'] at h;cases h
   rw [fv] at h
   rw [hS,seeB,h,Bool.false_and]
  with_unfolding_all exact⟨hrg2,fun h1=>⟨[],stOf [(6,.val (.bool S))] [] 0 [],Wo trivial ⟨w1 h1,trivial⟩ trivial,rfl,rfl⟩,fun h1=>⟨[],stOf [(6,.val (.bool S))] [] 0 [],Wo trivial ⟨w2 h1,trivial⟩ trivial,rfl,rfl⟩⟩
 ·cases e
end Go.Proofs
namespace Go.Num
open Go Go.Ex Go.Proofs
def vertJ (S:PtS→Bool) (p:Nat→PtS):Nat→List PtS
 |0=>[]
 |j+1=>vertJ S p j++(bif S (p j) then [p j] else [])
def vertI (S:PtS→Bool) (n:Nat→Nat) (p:Nat→Nat→PtS):Nat→List PtS
 |0=>[]
 |i+1=>vertI S n p i++vertJ S (p i) (n i)
theorem vertJ_pre {S:PtS→Bool} {p:Nat→PtS}:∀(d j:Nat),vertJ S p j <+: vertJ S p (j+d)
 |0,j=>List.prefix_refl _
 |d+1,j=>(vertJ_pre d j).trans (List.prefix_append _ _)
theorem vertI_pre {S:PtS→Bool} {n:Nat→Nat} {p:Nat→Nat→PtS}:∀(d j:Nat),vertI S n p j <+: vertI S n p (j+d)
 |0,j=>List.prefix_refl _
 |d+1,j=>(vertI_pre d j).trans (List.prefix_append _ _)
theorem vert_at {S:PtS→Bool} {n:Nat→Nat} {p:Nat→Nat→PtS} {i k j:Nat} (hi:i < k) (hj:j < n i) (h:S (p i j)=true) :
  (vertI S n p k)[(vertI S n p i).length+(vertJ S (p i) j).length]? = some (p i j)∧(vertI S n p i).length+(vertJ S (p i) j).length < (vertI S n p k).length:=by
 obtain⟨t,ht⟩:=vertI_pre (S:=S) (n:=n) (p:=p) (k - (i+1)) (i+1)
 rw [show i+1+(k - (i+1))=k by omega] at ht
 obtain⟨u,hu⟩:=vertJ_pre (S:=S) (p:=p i) (n i - (j+1)) (j+1)
 rw [show j+1+(n i - (j+1))=n i by omega] at hu
 rw [←ht,vertI,←hu,vertJ,h]
 simp
def vertP (L:List PtS) (i:Nat):PtS:=L[i]?.getD (rdP [])
def vertC (lo hi:PtS) (k:Nat) (c:Nat→List PV) (l:Nat) (o:Nat→List PV):List PtS:=vertI (fun p=>seeB lo hi k c l o p p) (pn c) (fun i=>pts (pg c i)) k
end Go.Num
namespace Go.Proofs
open Go Go.Ex Go.Num
set_option maxRecDepth 100000
def c94:List PV→Option Ans
 |[.agg [.val (.bool s1),.val (.string b1),.val (.string c1),.val (.bool s2),.val (.string b2),.val (.string c2),.val (.bool s3),.val (.string b3),.val (.string c3),.val (.bool s4),.val (.string b4),.val (.string c4),.rs 1 k c,.rs 3 l o]]=>some ⟨some (((∀i,i < k→c i=[.rs 6 (pn c i) (pg c i)])∧∀i,i < l→o i=cellsO (ow o i))),.fn (.func 129) [] [.rp 14 1 (fun _=>regC (PtS.mk ⟨s1,b1,c1⟩ ⟨s2,b2,c2⟩) (PtS.mk ⟨s3,b3,c3⟩ ⟨s4,b4,c4⟩) k c l o) 0 0],[]⟩
 |_=>none
theorem ok94:funcOk {} Tryz.f94 1=true:=by kernel_rfl
theorem f94:FnOk Tryz.prog 94 c94:=by
 refine FnOk.ofW orders (mkE_ok (l:=[]) (own:=[]) (inl:=[]) (by simp) (by simp)) Tryz.func94 {} 1 ok94 fun args r e=>?_
 unfold c94 at e
 split at e
 ·rename_i s1 b1 c1 s2 b2 c2 s3 b3 c3 s4 b4 c4 k c l o
  cases e
  refine⟨by simp,fun hm=>?_⟩
  obtain⟨hc,ho⟩:=hm _ rfl
  have hc1:∀i,i < k→[.rs 6 (pn c i) (pg c i)]=c i:=fun i hi=>(hc i hi).symm
  have ho1:∀i,i < l→cellsO (ow o i)=o i:=fun i hi=>(ho i hi).symm
  refine⟨[],stOf [(0,.agg [.val (.bool (PtS.mk ⟨s1,b1,c1⟩ ⟨s2,b2,c2⟩).x.s),.val (.string (PtS.mk ⟨s1,b1,c1⟩ ⟨s2,b2,c2⟩).x.b),.val (.string (PtS.mk ⟨s1,b1,c1⟩ ⟨s2,b2,c2⟩).x.c),.val (.bool (PtS.mk ⟨s1,b1,c1⟩ ⟨s2,b2,c2⟩).y.s),.val (.string (PtS.mk ⟨s1,b1,c1⟩ ⟨s2,b2,c2⟩).y.b),.val (.string (PtS.mk ⟨s1,b1,c1⟩ ⟨s2,b2,c2⟩).y.c),.val (.bool (PtS.mk ⟨s3,b3,c3⟩ ⟨s4,b4,c4⟩).x.s),.val (.string (PtS.mk ⟨s3,b3,c3⟩ ⟨s4,b4,c4⟩).x.b),.val (.string (PtS.mk ⟨s3,b3,c3⟩ ⟨s4,b4,c4⟩).x.c),.val (.bool (PtS.mk ⟨s3,b3,c3⟩ ⟨s4,b4,c4⟩).y.s),.val (.string (PtS.mk ⟨s3,b3,c3⟩ ⟨s4,b4,c4⟩).y.b),.val (.string (PtS.mk ⟨s3,b3,c3⟩ ⟨s4,b4,c4⟩).y.c),.rs 1 k (fun i=>[.rs 6 (pn c i) (pg c i)]),.rs 3 l (fun i=>cellsO (ow o i))])] [] 0 [],Wo trivial ⟨⟨rfl,rfl,rfl,rfl,rfl,rfl,rfl,rfl,rfl,rfl,rfl,rfl,⟨rfl,rfl,hc1⟩,⟨rfl,rfl,ho1⟩,trivial⟩,trivial⟩ trivial,?_⟩
  with_unfolding_all exact⟨[some 0],stOf [(2,.fn (.func 129) [] [.ptr 0 0 0 0])] [⟨31,14,0,true,false,1,fun _=>regC (PtS.mk ⟨s1,b1,c1⟩ ⟨s2,b2,c2⟩) (PtS.mk ⟨s3,b3,c3⟩ ⟨s4,b4,c4⟩) k c l o⟩] 1 [],Wo ⟨⟨lt_ok rfl,rfl,rfl,rfl,rfl,rfl,rq,rq,rq,rq,rq,rq,rq,rq,rq,rq,rq,rq,⟨⟨rfl,rfl,fun _ _=>rfl⟩,rfl⟩,⟨⟨rfl,rfl,fun _ _=>rfl⟩,rfl⟩,trivial⟩,trivial⟩ ⟨⟨rfl,trivial,pP,trivial⟩,trivial⟩ trivial,rfl,rfl⟩
 ·cases e
def c129:List PV→Option SeqA
 |[.rp 14 1 h 0 0]=>some ⟨some (isG h∧((gLo (h 0)).le 10000∧(gHi (h 0)).le 10000)∧isCL 10000 (gK (h 0)) (gC (h 0))∧isOL (gL (h 0)) (gO (h 0))),(vertC (gLo (h 0)) (gHi (h 0)) (gK (h 0)) (gC (h 0)) (gL (h 0)) (gO (h 0))).length,fun i=>[.val (vertP (vertC (gLo (h 0)) (gHi (h 0)) (gK (h 0)) (gC (h 0)) (gL (h 0)) (gO (h 0))) i).v]⟩
 |_=>none
def D129:Opt:={ }
theorem ok129:funcOk D129.toOrd Tryz.f129 2=true:=by kernel_rfl
theorem f129:SeqFn Tryz.prog 129 c129:=by
 refine SeqFn.of orders (mkE_ok (l:=[(56,c56)]) (own:=[]) (inl:=[]) (by simp [f56]) (by simp)) Tryz.func129 D129 2 ok129 rfl fun args r e=>?_
 unfold c129 at e
 split at e
 ·rename_i h
  cases e
  refine⟨by simp,fun hm L0=>?_⟩
  obtain⟨h1,⟨hlo,hhi⟩,⟨hc,hk⟩,ho,hl⟩:=hm _ rfl
  unfold isG at h1
  generalize gLo (h 0)=lo at *
  generalize gHi (h 0)=hi at *
  generalize gK (h 0)=k at *
  generalize gC (h 0)=c at *
  generalize gL (h 0)=l at *
  generalize gO (h 0)=o at *
  subst h1
  clear hm
  with_unfolding_all refine⟨Nat,fun i=>i≤k,fun i=>stOf [(0,.val (.func (.yield L0) ⟨[]⟩ ⟨[]⟩)),(1,.rp 14 1 (fun _=>regC lo hi k c l o) 0 0),(8,.rs 1 k (fun i=>[.rs 6 (pn c i) (pg c i)])),(9,.val (goInt k)),(10,.val (goInt i))] [] 0 [[(0,.val (.int .i64 (((vertI (fun p=>seeB lo hi k c l o p p) (pn c) (fun i=>pts (pg c i)) i).length:Nat):Int))),(1,.val (.bool false))]],fun i=>k - i,⟨0,[],Nat.zero_le _,Wo trivial ⟨rfl,⟨rfl,rfl,rfl,rfl,fun _ _=>rfl⟩,⟨rfl,rfl,fun _ _=>rfl⟩,rfl,rfl,trivial⟩ ⟨⟨rfl,rfl,trivial⟩,trivial⟩⟩,fun i hik=>?_⟩
  have ltT:decide ((i:Int) < (k:Int))=true→i < k:=fun h=>Int.ofNat_lt.1 (of_decide_eq_true h)
  have ltF:decide ((i:Int) < (k:Int))=false→i=k:=fun h=>Nat.le_antisymm hik (Nat.le_of_not_lt fun h'=>of_decide_eq_false h (Int.ofNat_lt.2 h'))
  with_unfolding_all refine⟨fun h0=>⟨⟨Int.natCast_nonneg i,Int.ofNat_lt.2 (ltT h0)⟩,Nat,fun j=>j≤pn c i,fun j=>stOf [(0,.val (.func (.yield L0) ⟨[]⟩ ⟨[]⟩)),(1,.rp 14 1 (fun _=>regC lo hi k c l o) 0 0),(8,.rs 1 k (fun i=>[.rs 6 (pn c i) (pg c i)])),(9,.val (goInt k)),(10,.val (goInt i)),(14,.rs 6 (pn c i) (fun j=>(pts (pg c i) j).cells)),(15,.val (goInt (pn c i))),(16,.val (goInt j))] [] 0 [[(0,.val (.int .i64 (((vertI (fun p=>seeB lo hi k c l o p p) (pn c) (fun i=>pts (pg c i)) i).length+(vertJ (fun p=>seeB lo hi k c l o p p) (pts (pg c i)) j).length:Nat):Int))),(1,.val (.bool false))]],fun j=>pn c i - j,⟨0,[],Nat.zero_le _,Wo trivial ⟨rfl,⟨rfl,rfl,rfl,rfl,fun _ _=>rfl⟩,⟨rfl,rfl,fun _ _=>rfl⟩,rfl,rfl,⟨rfl,rfl,fun j hj=>((hc i (ltT h0)).2.1 j hj).1.symm⟩,rfl,rfl,trivial⟩ ⟨⟨rfl,rfl,trivial⟩,trivial⟩⟩,fun j hj=>?_⟩,fun h0=>?_⟩
  ·have hik:=ltT h0
   have jT:decide ((j:Int) < (pn c i:Int))=true→j < pn c i:=fun h=>Int.ofNat_lt.1 (of_decide_eq_true h)
   have jF:decide ((j:Int) < (pn c i:Int))=false→j=pn c i:=fun h=>Nat.le_antisymm hj (Nat.le_of_not_lt fun h'=>of_decide_eq_false h (Int.ofNat_lt.2 h'))
   have hn:=(hc i hik).2.2
   have wj:decide ((j:Int) < (pn c i:Int))=true→PV.val (.int .i64 (IntKind.i64.wrap ((j:Int)+1)))=.val (goInt (j+1:Nat)):=fun h=>by
    have:=jT h
    rw [wrap64 (by omega) (by omega)]
    rfl
   have wi:PV.val (.int .i64 (IntKind.i64.wrap ((i:Int)+1)))=.val (goInt (i+1:Nat)):=by
    rw [wrap64 (by omega) (by omega)]
    rfl
   have pr:decide ((j:Int) < (pn c i:Int))=true→(((lo.le 10000∧hi.le 10000)∧isCL 10000 k (fun i=>[.rs 6 (pn c i) (pg c i)])∧isOL l (fun i=>cellsO (ow o i)))∧isPk 10000 (pts (pg c i) ((j:Nat):Int).toNat).v∧isPk 10000 (pts (pg c i) ((j:Nat):Int).toNat).v):=fun h=>by
    have hp:=((hc i hik).2.1 j (jT h)).2
    exact⟨⟨⟨hlo,hhi⟩,⟨fun i hi=>⟨rfl,(hc i hi).2⟩,hk⟩,fun i hi=>rfl,hl⟩,⟨_,rfl,hp⟩,_,rfl,hp⟩
   have yl:j < pn c i→seeB lo hi k c l o (pts (pg c i) j) (pts (pg c i) j)=true→(vertI (fun p=>seeB lo hi k c l o p p) (pn c) (fun i=>pts (pg c i)) i).length+(vertJ (fun p=>seeB lo hi k c l o p p) (pts (pg c i)) j).length < (vertC lo hi k c l o).length∧[PV.val (pts (pg c i) ((j:Nat):Int).toNat).v]=[PV.val (vertP (vertC lo hi k c l o) ((vertI (fun p=>seeB lo hi k c l o p p) (pn c) (fun i=>pts (pg c i)) i).length+(vertJ (fun p=>seeB lo hi k c l o p p) (pts (pg c i)) j).length)).v]∧(vertI (fun p=>seeB lo hi k c l o p p) (pn c) (fun i=>pts (pg c i)) i).length+(vertJ (fun p=>seeB lo hi k c l o p p) (pts (pg c i)) j).length+1=(vertI (fun p=>seeB lo hi k c l o p p) (pn c) (fun i=>pts (pg c i)) i).length+(vertJ (fun p=>seeB lo hi k c l o p p) (pts (pg c i)) (j+1)).length:=fun h h'=>by
    have g:=vert_at (S:=(fun p=>seeB lo hi k c l o p p)) (n:=pn c) (p:=fun i=>pts (pg c i)) hik h h'
    refine⟨g.2,?_,?_⟩
    ·unfold vertP vertC
     rw [g.1]
     rfl
    ·rw [vertJ]
     simp only [h',cond_true,List.length_append,List.length_singleton]
     rfl
   have sk:seeB lo hi k c l o (pts (pg c i) j) (pts (pg c i) j)=false→(vertI (fun p=>seeB lo hi k c l o p p) (pn c) (fun i=>pts (pg c i)) i).length+(vertJ (fun p=>seeB lo hi k c l o p p) (pts (pg c i)) j).length=(vertI (fun p=>seeB lo hi k c l o p p) (pn c) (fun i=>pts (pg c i)) i).length+(vertJ (fun p=>seeB lo hi k c l o p p) (pts (pg c i)) (j+1)).length:=fun h'=>by
    rw [vertJ]
    simp only [h',cond_false,List.append_nil]
   have fin:decide ((j:Int) < (pn c i:Int))=false→(vertI (fun p=>seeB lo hi k c l o p p) (pn c) (fun i=>pts (pg c i)) i).length+(vertJ (fun p=>seeB lo hi k c l o p p) (pts (pg c i)) j).length=(vertI (fun p=>seeB lo hi k c l o p p) (pn c) (fun i=>pts (pg c i)) (i+1)).length:=fun h=>by
    rw [jF h,vertI,List.length_append]
   with_unfolding_all refine⟨fun h1=>⟨⟨Int.natCast_nonneg j,Int.ofNat_lt.2 (jT h1)⟩,pr h1,fun h2=>⟨rfl,(vertI (fun p=>seeB lo hi k c l o p p) (pn c) (fun i=>pts (pg c i)) i).length+(vertJ (fun p=>seeB lo hi k c l o p p) (pts (pg c i)) j).length,rfl,(yl (jT h1) h2).1,(yl (jT h1) h2).2.1,⟨fun _=>⟨fun e=>(nomatch e),fun _=>⟨j+1,[],jT h1,by have:=jT h1;show pn c i - (j+1) < pn c i - j;omega,Wo trivial ⟨rfl,⟨rfl,rfl,rfl,rfl,fun _ _=>rfl⟩,⟨rfl,rfl,fun _ _=>rfl⟩,rfl,rfl,⟨rfl,rfl,fun _ _=>rfl⟩,rfl,wj h1,trivial⟩ ⟨⟨congrArg (fun z:Nat=>PV.val (.int .i64 (z:Int))) (yl (jT h1) h2).2.2,rfl,trivial⟩,trivial⟩⟩⟩,fun e=>(nomatch e)⟩,⟨fun _=>⟨fun _=>trivial,fun e=>(nomatch e)⟩,fun e=>(nomatch e)⟩⟩,fun h2=>⟨fun e=>(nomatch e),fun _=>⟨j+1,[],jT h1,by have:=jT h1;show pn c i - (j+1) < pn c i - j;omega,Wo trivial ⟨rfl,⟨rfl,rfl,rfl,rfl,fun _ _=>rfl⟩,⟨rfl,rfl,fun _ _=>rfl⟩,rfl,rfl,⟨rfl,rfl,fun _ _=>rfl⟩,rfl,wj h1,trivial⟩ ⟨⟨congrArg (fun z:Nat=>PV.val (.int .i64 (z:Int))) (sk h2),rfl,trivial⟩,trivial⟩⟩⟩⟩,fun h1=>⟨i+1,[],hik,by show k - (i+1) < k - i;omega,Wo trivial ⟨rfl,⟨rfl,rfl,rfl,rfl,fun _ _=>rfl⟩,⟨rfl,rfl,fun _ _=>rfl⟩,rfl,wi,trivial⟩ ⟨⟨congrArg (fun z:Nat=>PV.val (.int .i64 (z:Int))) (fin h1),rfl,trivial⟩,trivial⟩⟩⟩
  ·rw [ltF h0]
   rfl
 ·cases e
end Go.Proofs
namespace Go.Proofs
open Go Go.Ex Go.Num
set_option maxRecDepth 100000
theorem apd_one {V r:Nat→List PV} {y:Nat} (h:r 0=V y):∀i,i < y+1→V i=apd y V r i:=fun i hi=>by
 unfold apd
 by_cases hy:i < y
 ·rw [if_pos hy]
 ·obtain rfl:i=y:=by omega
  rw [if_neg hy,Nat.sub_self,h]
def c175:List PV→Option Ans
 |[.val (.slice none 0 0),.fn (.func 129) [] [.rp 14 1 h 0 0]]=>some ⟨some ((isG h∧((gLo (h 0)).le 10000∧(gHi (h 0)).le 10000)∧isCL 10000 (gK (h 0)) (gC (h 0))∧isOL (gL (h 0)) (gO (h 0)))∧(vertC (gLo (h 0)) (gHi (h 0)) (gK (h 0)) (gC (h 0)) (gL (h 0)) (gO (h 0))).length≤1000),.sl 0 0 0 (vertC (gLo (h 0)) (gHi (h 0)) (gK (h 0)) (gC (h 0)) (gL (h 0)) (gO (h 0))).length,[⟨25,6,0,false,false,(vertC (gLo (h 0)) (gHi (h 0)) (gK (h 0)) (gC (h 0)) (gL (h 0)) (gO (h 0))).length,fun i=>(vertP (vertC (gLo (h 0)) (gHi (h 0)) (gK (h 0)) (gC (h 0)) (gL (h 0)) (gO (h 0))) i).cells⟩]⟩
 |_=>none
def D175:Opt:={ }
theorem ok175:funcOk D175.toOrd Tryz.f175 2=true:=by kernel_rfl
theorem f175:FnOk Tryz.prog 175 c175:=by
 refine FnOk.ofW orders (mkS_ok (l:=[]) (own:=[]) (inl:=[]) (sq:=[(129,c129)]) (by simp) (by simp) (by simp [f129])) Tryz.func175 D175 2 ok175 fun args r e=>?_
 unfold c175 at e
 split at e
 ·rename_i h
  cases e
  refine⟨by simp,fun hm=>?_⟩
  obtain⟨hp,hn⟩:=hm _ rfl
  refine⟨[],stOf [(0,.val (.slice none 0 0)),(1,.fn (.func 129) [] [.rp 14 1 h 0 0])] [] 0 [],Wo trivial ⟨rfl,⟨rfl,trivial,⟨rfl,rfl,rfl,rfl,fun _ _=>rfl⟩,trivial⟩,trivial⟩ trivial,?_⟩
  have hP:isG h∧((gLo (h 0)).le 10000∧(gHi (h 0)).le 10000)∧isCL 10000 (gK (h 0)) (gC (h 0))∧isOL (gL (h 0)) (gO (h 0)):=hp
  with_unfolding_all refine⟨hP,Nat,fun i y=>y=i,fun y=>stOf [(2,.ptr 0 0 0 0)] [⟨34,1,0,true,false,1,fun _=>[.sl 1 1 0 y]⟩,⟨25,6,1,false,false,y,fun i=>(vertP (vertC (gLo (h 0)) (gHi (h 0)) (gK (h 0)) (gC (h 0)) (gL (h 0)) (gO (h 0))) i).cells⟩] 2 [],⟨0,[some 0,none],rfl,Wo ⟨⟨lt_ok rfl,rfl,rfl,rfl,rfl,rfl,⟨⟨rfl,rfl,rfl,rfl,lt_ok rfl⟩,rfl⟩,trivial⟩,⟨lt_ok rfl,rfl,rfl,rfl⟩,trivial⟩ ⟨pP,trivial⟩ trivial⟩,fun i y hi hI=>?_,fun y hI=>?_⟩
  ·have hy:y < 1000:=Nat.lt_of_lt_of_le (show y < (vertC (gLo (h 0)) (gHi (h 0)) (gK (h 0)) (gC (h 0)) (gL (h 0)) (gO (h 0))).length from hI▸hi) hn
   have hI:y=i:=hI
   subst hI
   have k1:(y+1)*80≤140737488355328:=by omega
   with_unfolding_all refine⟨rfl,⟨rfl,?_,?_⟩,y+1,[some 0,some 1],rfl,Wo ⟨⟨lt_ok rfl,rfl,rfl,rfl,rfl,rfl,⟨pP,rfl⟩,trivial⟩,⟨lt_ok rfl,rfl,rfl,rfl,rfl,rfl,?_⟩,trivial⟩ ⟨pP,trivial⟩ trivial⟩
   ·with_unfolding_all exact k1
   ·with_unfolding_all exact(show y+1≤9223372036854775807 by omega)
   ·with_unfolding_all exact apd_one (V:=fun i=>(vertP (vertC (gLo (h 0)) (gHi (h 0)) (gK (h 0)) (gC (h 0)) (gL (h 0)) (gO (h 0))) i).cells) rfl
  ·have hI:y=(vertC (gLo (h 0)) (gHi (h 0)) (gK (h 0)) (gC (h 0)) (gL (h 0)) (gO (h 0))).length:=hI
   subst hI
   with_unfolding_all exact⟨[some 1],stOf [(4,.sl 0 0 0 (vertC (gLo (h 0)) (gHi (h 0)) (gK (h 0)) (gC (h 0)) (gL (h 0)) (gO (h 0))).length)] [⟨25,6,0,false,false,(vertC (gLo (h 0)) (gHi (h 0)) (gK (h 0)) (gC (h 0)) (gL (h 0)) (gO (h 0))).length,fun i=>(vertP (vertC (gLo (h 0)) (gHi (h 0)) (gK (h 0)) (gC (h 0)) (gL (h 0)) (gO (h 0))) i).cells⟩] 1 [],Wo ⟨⟨lt_ok rfl,rfl,rfl,rfl,rfl,rfl,fun _ _=>rfl⟩,trivial⟩ ⟨pP,trivial⟩ trivial,rfl,rfl⟩
 ·cases e
def c127:List PV→Option Ans
 |[.fn (.func 129) [] [.rp 14 1 h 0 0]]=>some ⟨some ((isG h∧((gLo (h 0)).le 10000∧(gHi (h 0)).le 10000)∧isCL 10000 (gK (h 0)) (gC (h 0))∧isOL (gL (h 0)) (gO (h 0)))∧(vertC (gLo (h 0)) (gHi (h 0)) (gK (h 0)) (gC (h 0)) (gL (h 0)) (gO (h 0))).length≤1000),.sl 0 0 0 (vertC (gLo (h 0)) (gHi (h 0)) (gK (h 0)) (gC (h 0)) (gL (h 0)) (gO (h 0))).length,[⟨25,6,0,false,false,(vertC (gLo (h 0)) (gHi (h 0)) (gK (h 0)) (gC (h 0)) (gL (h 0)) (gO (h 0))).length,fun i=>(vertP (vertC (gLo (h 0)) (gHi (h 0)) (gK (h 0)) (gC (h 0)) (gL (h 0)) (gO (h 0))) i).cells⟩]⟩
 |_=>none
theorem ok127:funcOk {} Tryz.f127 1=true:=by kernel_rfl
theorem f127:FnOk Tryz.prog 127 c127:=by
 refine FnOk.ofW orders (mkE_ok (l:=[(175,c175)]) (own:=[175]) (inl:=[]) (by simp [f175]) (by simp)) Tryz.func127 {} 1 ok127 fun args r e=>?_
 unfold c127 at e
 split at e
 ·rename_i h
  cases e
  refine⟨by simp,fun hm=>?_⟩
  have hp:=hm _ rfl
  refine⟨[],stOf [(0,.fn (.func 129) [] [.rp 14 1 h 0 0])] [] 0 [],Wo trivial ⟨⟨rfl,trivial,⟨rfl,rfl,rfl,rfl,fun _ _=>rfl⟩,trivial⟩,trivial⟩ trivial,?_⟩
  with_unfolding_all refine⟨hp,?_⟩
  with_unfolding_all exact⟨[some 0],stOf [(2,.sl 0 0 0 (vertC (gLo (h 0)) (gHi (h 0)) (gK (h 0)) (gC (h 0)) (gL (h 0)) (gO (h 0))).length)] [⟨25,6,0,false,false,(vertC (gLo (h 0)) (gHi (h 0)) (gK (h 0)) (gC (h 0)) (gL (h 0)) (gO (h 0))).length,fun i=>(vertP (vertC (gLo (h 0)) (gHi (h 0)) (gK (h 0)) (gC (h 0)) (gL (h 0)) (gO (h 0))) i).cells⟩] 1 [],Wo ⟨⟨lt_ok rfl,rfl,rfl,rfl,rfl,rfl,fun _ _=>rfl⟩,trivial⟩ ⟨pP,trivial⟩ trivial,rfl,rfl⟩
 ·cases e
end Go.Proofs
namespace Go.Proofs
open Go Go.Ex Go.Num
set_option maxRecDepth 100000
def c166:List PV→Option Ans
 |[.val (.int .u64 x)]=>some ⟨some (0≤x∧x < 256),.val (.int .i64 (blen x.toNat:Nat)),[]⟩
 |_=>none
theorem ok166:funcOk {} Tryz.f166 1=true:=by kernel_rfl
theorem f166:FnOk Tryz.prog 166 c166:=by
 refine FnOk.of orders (mkE_ok (l:=[]) (own:=[]) (inl:=[]) (by simp) (by simp)) Tryz.func166 {} 1 ok166 fun args r e=>?_
 unfold c166 at e
 split at e
 ·rename_i x
  cases e
  refine⟨by simp,fun hm=>?_⟩
  obtain⟨h0,h1⟩:=hm _ rfl
  obtain⟨x,rfl⟩:=Int.eq_ofNat_of_zero_le h0
  with_unfolding_all refine⟨fun h2=>?_,fun h2=>⟨fun h3=>?_,fun h3=>⟨fun h4=>?_,fun h4=>?_⟩⟩⟩
  ·have h2:=of_decide_eq_true h2
   exact absurd h2 (by show ¬((4294967296:Int)≤x);omega)
  ·have h2:=of_decide_eq_true h3
   exact absurd h2 (by show ¬((65536:Int)≤x);omega)
  ·have h2:=of_decide_eq_true h4
   exact absurd h2 (by show ¬((256:Int)≤x);omega)
  ·with_unfolding_all refine⟨?_,?_,rfl⟩
   ·rw [wrapU8]
    show _∧_ < ((256:Nat):Int)
    omega
   ·exact tab_at (m:=x) (by decide +kernel) (by rw [wrapU8];omega) (by omega) (by omega) (by decide) (by decide)
 ·cases e
def c121:List PV→Option Ans
 |[.val (.int .u64 x)]=>some ⟨some (0≤x∧x < 256),.val (.int .i64 (blen x.toNat:Nat)),[]⟩
 |_=>none
theorem ok121:funcOk {} Tryz.f121 1=true:=by kernel_rfl
theorem f121:FnOk Tryz.prog 121 c121:=by
 refine FnOk.of orders (mkE_ok (l:=[(166,c166)]) (own:=[]) (inl:=[]) (by simp [f166]) (by simp)) Tryz.func121 {} 1 ok121 fun args r e=>?_
 unfold c121 at e
 split at e
 ·rename_i x
  cases e
  refine⟨by simp,fun hm=>?_⟩
  have hp:=hm _ rfl
  with_unfolding_all exact⟨fun h=>(nomatch h),fun _=>⟨hp,rfl,rfl⟩⟩
 ·cases e
end Go.Proofs
namespace Go.Num
open Go Go.Ex Go.Proofs
def swpP (q:Nat→PtS) (j:Nat):Nat→PtS:=fun k=>if k=j then q (j - 1) else if k=j - 1 then q j else q k
def insJ (q:Nat→PtS):Nat→(Nat→PtS)
 |0=>q
 |j+1=>if cmpP (q (j+1)) (q j) < 0 then insJ (swpP q (j+1)) j else q
def srtI (p:Nat→PtS):Nat→(Nat→PtS)
 |0=>p
 |i+1=>insJ (srtI p i) i
theorem insJ_le {n:Nat}:∀(j:Nat) {q:Nat→PtS},j < n→(∀k,k < n→(q k).le 10000)→∀k,k < n→(insJ q j k).le 10000
 |0,_,_,h=>h
 |j+1,q,hj,h=>by
  rw [insJ]
  split
  ·refine insJ_le j (by omega) fun k hk=>?_
   unfold swpP
   split
   ·exact h _ (by omega)
   ·split
    ·exact h _ (by omega)
    ·exact h _ hk
  ·exact h
theorem srtI_le {n:Nat} {p:Nat→PtS}:∀{i:Nat},i≤n→(∀k,k < n→(p k).le 10000)→∀k,k < n→(srtI p i k).le 10000
 |0,_,h=>h
 |i+1,hi,h=>insJ_le i (by omega) (srtI_le (by omega) h)
theorem vertC_le {lo hi:PtS} {k:Nat} {c:Nat→List PV} {l:Nat} {o:Nat→List PV} (h:isCL 10000 k c):∀p∈vertC lo hi k c l o,p.le 10000:=by
 have hJ:∀{S:PtS→Bool} {q:Nat→PtS} {n:Nat},(∀j,j < n→(q j).le 10000)→∀p∈vertJ S q n,p.le 10000:=fun {S q n}=>by
  induction n with
  |zero=>intro _ p hp;cases hp
  |succ n ih =>
   intro hq p hp
   rw [vertJ] at hp
   rcases List.mem_append.1 hp with hp|hp
   ·exact ih (fun j hj=>hq j (by omega)) p hp
   ·cases hS:S (q n) with
    |true =>
     rw [hS] at hp
     rw [List.mem_singleton.1 hp]
     exact hq n (by omega)
    |false=>rw [hS] at hp;cases hp
 unfold vertC
 have hI:∀i,i≤k→∀p∈vertI (fun p=>seeB lo hi k c l o p p) (pn c) (fun i=>pts (pg c i)) i,p.le 10000:=fun i=>by
  induction i with
  |zero=>intro _ p hp;cases hp
  |succ i ih =>
   intro hi p hp
   rw [vertI] at hp
   rcases List.mem_append.1 hp with hp|hp
   ·exact ih (by omega) p hp
   ·exact hJ (fun j hj=>((h.1 i (by omega)).2.1 j hj).2) p hp
 exact hI k (Nat.le_refl k)
theorem vertP_le {V:List PtS} (h:∀p∈V,p.le 10000) {i:Nat} (hi:i < V.length):(vertP V i).le 10000:=by
 unfold vertP
 rw [List.getElem?_eq_getElem hi]
 exact h _ (List.getElem_mem hi)
end Go.Num
namespace Go.Proofs
open Go Go.Ex Go.Num
set_option maxRecDepth 100000
def D213:Opt:={ perm:=atTs [(6,.rds [0,1,2,3,4,5,6,7,8,9,10,11,12,13,14] .nil)] }
theorem ok213:funcOk D213.toOrd Tryz.f213 4=true:=by kernel_rfl
def T213:Trans:=fun args s K=>args.length≤4∧walk Tryz.prog (mkE [(38,c38)] [] []) D213 Tryz.f213 args s K
theorem t213:TransOk Tryz.prog 213 T213:=walk_ok orders (mkE_ok (by simp [f38]) (by simp)) Tryz.func213 D213 4 ok213 fun _ _ _ h=>h
theorem ok176:funcOk {} Tryz.f176 5=true:=by kernel_rfl
def T176:Trans:=fun args s K=>args.length≤5∧walk Tryz.prog (mkE [] [] [(213,T213)]) {} Tryz.f176 args s K
theorem t176:TransOk Tryz.prog 176 T176:=walk_ok orders (mkE_ok (by simp) (by simp [t213])) Tryz.func176 {} 5 ok176 fun _ _ _ h=>h
theorem ok128:funcOk {} Tryz.f128 2=true:=by kernel_rfl
def T128:Trans:=fun args s K=>args.length≤2∧walk Tryz.prog (mkE [(121,c121)] [] [(176,T176)]) {} Tryz.f128 args s K
theorem t128:TransOk Tryz.prog 128 T128:=walk_ok orders (mkE_ok (by simp [f121]) (by simp [t176])) Tryz.func128 {} 2 ok128 fun _ _ _ h=>h
def c93:List PV→Option Ans
 |[.fn (.func 129) [] [.rp 14 1 h 0 0],.val (.func (.func 38) ⟨[]⟩ ⟨[]⟩)]=>some ⟨some ((isG h∧((gLo (h 0)).le 10000∧(gHi (h 0)).le 10000)∧isCL 10000 (gK (h 0)) (gC (h 0))∧isOL (gL (h 0)) (gO (h 0)))∧(vertC (gLo (h 0)) (gHi (h 0)) (gK (h 0)) (gC (h 0)) (gL (h 0)) (gO (h 0))).length≤12),.sl 0 0 0 (vertC (gLo (h 0)) (gHi (h 0)) (gK (h 0)) (gC (h 0)) (gL (h 0)) (gO (h 0))).length,[⟨25,6,0,false,false,(vertC (gLo (h 0)) (gHi (h 0)) (gK (h 0)) (gC (h 0)) (gL (h 0)) (gO (h 0))).length,fun i=>(srtI (vertP (vertC (gLo (h 0)) (gHi (h 0)) (gK (h 0)) (gC (h 0)) (gL (h 0)) (gO (h 0)))) (vertC (gLo (h 0)) (gHi (h 0)) (gK (h 0)) (gC (h 0)) (gL (h 0)) (gO (h 0))).length i).cells⟩]⟩
 |_=>none
theorem ok93:funcOk {} Tryz.f93 2=true:=by kernel_rfl
theorem f93:FnOk Tryz.prog 93 c93:=by
 refine FnOk.ofW orders (mkE_ok (l:=[(127,c127)]) (own:=[127]) (inl:=[(128,T128)]) (by simp [f127]) (by simp [t128])) Tryz.func93 {} 2 ok93 fun args r e=>?_
 unfold c93 at e
 split at e
 ·rename_i h
  cases e
  refine⟨by simp,fun hm=>?_⟩
  obtain⟨hp,hn⟩:=hm _ rfl
  refine⟨[],stOf [(0,.fn (.func 129) [] [.rp 14 1 h 0 0]),(1,.val (.func (.func 38) ⟨[]⟩ ⟨[]⟩))] [] 0 [],Wo trivial ⟨⟨rfl,trivial,⟨rfl,rfl,rfl,rfl,fun _ _=>rfl⟩,trivial⟩,rfl,trivial⟩ trivial,?_⟩
  have hle:=vertC_le (lo:=gLo (h 0)) (hi:=gHi (h 0)) (l:=gL (h 0)) (o:=gO (h 0)) hp.2.2.1
  with_unfolding_all refine⟨⟨hp,Nat.le_trans hn (by decide)⟩,?_⟩
  clear hp hm
  generalize (vertC (gLo (h 0)) (gHi (h 0)) (gK (h 0)) (gC (h 0)) (gL (h 0)) (gO (h 0)))=V at *
  have hw:IntKind.u64.wrap (V.length:Int)=V.length:=by
   show(V.length:Int)%2^64=V.length
   omega
  have hb:0≤IntKind.u64.wrap (V.length:Int)∧IntKind.u64.wrap (V.length:Int) < 256:=by rw [hw];omega
  with_unfolding_all refine⟨Nat.le_refl 2,hb,Nat.le_refl 5,Unit,fun _=>True,fun _=>stOf [(0,.sl 0 0 0 V.length),(1,.val (.int .i64 0)),(2,.val (goInt V.length)),(4,.val (.func (.func 38) ⟨[]⟩ ⟨[]⟩))] [⟨25,6,0,false,false,V.length,fun z=>(vertP V z).cells⟩] 1 [[],[(5,.sl 0 0 0 V.length)]],fun _=>0,⟨(),[some 0],trivial,Wo ⟨⟨lt_ok rfl,rfl,rfl,rfl,rfl,rfl,fun _ _=>rfl⟩,trivial⟩ ⟨pP,rfl,rfl,rfl,trivial⟩ ⟨trivial,⟨pP,trivial⟩,trivial⟩⟩,fun _ _=>⟨fun h0=>?_,fun h0=>?_⟩⟩
  ·with_unfolding_all refine⟨Nat.le_refl 4,Nat,fun i=>1≤i∧(i≤V.length∨i=1),fun i=>stOf [(0,.sl 0 0 0 V.length),(1,.val (.int .i64 0)),(2,.val (goInt V.length)),(3,.val (.func (.func 38) ⟨[]⟩ ⟨[]⟩)),(8,.val (goInt i))] [⟨25,6,0,false,false,V.length,fun z=>((srtI (vertP V) i) z).cells⟩] 1 [[],[],[(5,.sl 0 0 0 V.length)]],fun i=>V.length - i,⟨1,[some 0],⟨Nat.le_refl 1,Or.inr rfl⟩,Wo ⟨⟨lt_ok rfl,rfl,rfl,rfl,rfl,rfl,fun _ _=>rfl⟩,trivial⟩ ⟨pP,rfl,rfl,rfl,rfl,trivial⟩ ⟨trivial,trivial,⟨pP,trivial⟩,trivial⟩⟩,fun i hi=>⟨fun h1=>?_,fun h1=>?_⟩⟩
   ·obtain⟨hi1,hi2⟩:1≤i∧(i≤V.length∨i=1):=hi
    have h1:(i:Int) < V.length:=of_decide_eq_true h1
    with_unfolding_all refine⟨Nat×(Nat→PtS),fun x=>x.1≤i∧insJ x.2 x.1=srtI (vertP V) (i+1)∧∀k,k < V.length→(x.2 k).le 10000,fun x=>stOf [(0,.sl 0 0 0 V.length),(1,.val (.int .i64 0)),(2,.val (goInt V.length)),(3,.val (.func (.func 38) ⟨[]⟩ ⟨[]⟩)),(8,.val (goInt i)),(9,.val (goInt x.1))] [⟨25,6,0,false,false,V.length,fun z=>(x.2 z).cells⟩] 1 [[],[],[(5,.sl 0 0 0 V.length)]],fun x=>x.1,⟨(i,srtI (vertP V) i),[some 0],⟨Nat.le_refl i,rfl,?_⟩,Wo ⟨⟨lt_ok rfl,rfl,rfl,rfl,rfl,rfl,fun _ _=>rfl⟩,trivial⟩ ⟨pP,rfl,rfl,rfl,rfl,rfl,trivial⟩ ⟨trivial,trivial,⟨pP,trivial⟩,trivial⟩⟩,fun x hx=>?_⟩
    ·exact srtI_le (by omega) fun k hk=>vertP_le hle hk
    ·obtain⟨j,q⟩:=x
     obtain⟨hj,hq,hl⟩:j≤i∧insJ q j=srtI (vertP V) (i+1)∧∀k,k < V.length→(q k).le 10000:=hx
     have wi:PV.val (.int .i64 (IntKind.i64.wrap ((i:Int)+1)))=.val (goInt (i+1:Nat)):=by
      rw [wrap64 (by omega) (by omega)]
      rfl
     match j,hj,hq with
     |0,_,hq =>
      have hq':srtI (vertP V) (i+1)=q:=hq.symm
      with_unfolding_all exact⟨fun h=>absurd h (by show ¬decide (((0:Nat):Int) > 0)=true;decide),fun _=>⟨fun e=>(nomatch e),fun _=>⟨i+1,[some 0],⟨by omega,Or.inl (by omega)⟩,by show V.length - (i+1) < V.length - i;omega,Wo ⟨⟨lt_ok rfl,rfl,rfl,rfl,rfl,rfl,fun z _=>congrArg (fun f:Nat→PtS=>(f z).cells) hq'⟩,trivial⟩ ⟨pP,rfl,rfl,rfl,wi,trivial⟩ ⟨trivial,trivial,⟨pP,trivial⟩,trivial⟩⟩⟩⟩
     |m+1,hj,hq =>
      have w1:IntKind.i64.wrap (((m+1:Nat):Int) - 1)=m:=by rw [wrap64 (by omega) (by omega)];omega
      have e1:(0+((m+1:Nat):Int).toNat)=m+1:=by omega
      have e2:(0+(IntKind.i64.wrap (((m+1:Nat):Int) - 1)).toNat)=m:=by rw [w1];omega
      have bA:0≤((m+1:Nat):Int)∧((m+1:Nat):Int) < V.length:=by omega
      have bB:0≤IntKind.i64.wrap (((m+1:Nat):Int) - 1)∧IntKind.i64.wrap (((m+1:Nat):Int) - 1) < V.length:=by rw [w1];omega
      have pr:isPk 4294967296 (q (0+((m+1:Nat):Int).toNat)).v∧isPk 4294967296 (q (0+(IntKind.i64.wrap (((m+1:Nat):Int) - 1)).toNat)).v:=by
       rw [e1,e2]
       exact⟨⟨_,rfl,(hl _ (by omega)).mono (by decide)⟩,_,rfl,(hl _ (by omega)).mono (by decide)⟩
      have hC:decide (cmpP (rdV (q (0+((m+1:Nat):Int).toNat)).v) (rdV (q (0+(IntKind.i64.wrap (((m+1:Nat):Int) - 1)).toNat)).v) < 0)=decide (cmpP (q (m+1)) (q m) < 0):=by
       rw [e1,e2]
       rfl
      have hT:decide (cmpP (rdV (q (0+((m+1:Nat):Int).toNat)).v) (rdV (q (0+(IntKind.i64.wrap (((m+1:Nat):Int) - 1)).toNat)).v) < 0)=true→insJ (swpP q (m+1)) m=srtI (vertP V) (i+1):=fun h=>by
       rw [hC] at h
       rw [insJ,if_pos (of_decide_eq_true h)] at hq
       exact hq
      have hF:decide (cmpP (rdV (q (0+((m+1:Nat):Int).toNat)).v) (rdV (q (0+(IntKind.i64.wrap (((m+1:Nat):Int) - 1)).toNat)).v) < 0)=false→srtI (vertP V) (i+1)=q:=fun h=>by
       rw [hC] at h
       rw [insJ,if_neg (of_decide_eq_false h)] at hq
       exact hq.symm
      have hS:∀k,k < V.length→(swpP q (m+1) k).le 10000:=fun k hk=>by
       unfold swpP
       split
       ·exact hl _ (by omega)
       ·split
        ·exact hl _ (by omega)
        ·exact hl _ hk
      with_unfolding_all refine⟨fun _=>⟨bA,bB,pr,fun h=>⟨bB,bA,bA,bB,⟨(m,swpP q (m+1)),[some 0],⟨by show m≤i;omega,hT h,hS⟩,Nat.lt_succ_self m,Wo ⟨⟨lt_ok rfl,rfl,rfl,rfl,rfl,rfl,?_⟩,trivial⟩ ⟨pP,rfl,rfl,rfl,rfl,congrArg (fun z=>PV.val (.int .i64 z)) w1,trivial⟩ ⟨trivial,trivial,⟨pP,trivial⟩,trivial⟩⟩⟩,fun h=>⟨i+1,[some 0],⟨by omega,Or.inl (by omega)⟩,by show V.length - (i+1) < V.length - i;omega,Wo ⟨⟨lt_ok rfl,rfl,rfl,rfl,rfl,rfl,fun z _=>congrArg (fun f:Nat→PtS=>(f z).cells) (hF h)⟩,trivial⟩ ⟨pP,rfl,rfl,rfl,wi,trivial⟩ ⟨trivial,trivial,⟨pP,trivial⟩,trivial⟩⟩⟩,fun h=>absurd h (by show ¬decide (((m+1:Nat):Int) > 0) = !true;rw [decide_eq_true (by omega)];decide)⟩
      intro z hz
      show(swpP q (m+1) z).cells=if z=(0+(IntKind.i64.wrap (((m+1:Nat):Int) - 1)).toNat) then(q (0+((m+1:Nat):Int).toNat)).cells else if z=(0+((m+1:Nat):Int).toNat) then(q (0+(IntKind.i64.wrap (((m+1:Nat):Int) - 1)).toNat)).cells else(q z).cells
      rw [e1,e2]
      unfold swpP
      by_cases h1:z=m+1
      ·rw [if_pos h1,if_neg (show ¬z=m by omega),if_pos h1]
       rfl
      ·rw [if_neg h1,if_neg h1]
       by_cases h2:z=m
       ·rw [if_pos (show z=m+1 - 1 by omega),if_pos h2]
       ·rw [if_neg (show ¬z=m+1 - 1 by omega),if_neg h2]
   ·obtain⟨hi1,hi2⟩:1≤i∧(i≤V.length∨i=1):=hi
    have h1:¬(i:Int) < V.length:=of_decide_eq_false h1
    have hfin:∀z,z < V.length→(srtI (vertP V) V.length z).cells=(srtI (vertP V) i z).cells:=fun z hz=>by
     rw [show i=V.length by omega]
    with_unfolding_all exact⟨[some 0],stOf [(4,.sl 0 0 0 V.length)] [⟨25,6,0,false,false,V.length,fun i=>(srtI (vertP V) V.length i).cells⟩] 1 [],Wo ⟨⟨lt_ok rfl,rfl,rfl,rfl,rfl,rfl,hfin⟩,trivial⟩ ⟨pP,trivial⟩ trivial,rfl,rfl⟩
  ·have h0:¬IntKind.i64.wrap ((V.length:Int) - 0)≤12:=of_decide_eq_false h0
   rw [wrap64 (by omega) (by omega)] at h0
   omega
 ·cases e
end Go.Proofs
namespace Go.Proofs
open Go Go.Ex Go.Num
set_option maxRecDepth 100000
def c19:List PV→Option Ans
 |[.rs 6 m h,.val v]=>some ⟨some (isPL 4294967296 m h∧isPk 4294967296 v),.val (.int .i64 (ixP (fun i=>eqP (rdV v) (pts h i)) m 0)),[]⟩
 |_=>none
theorem ok19:funcOk {} Tryz.f19 2=true:=by kernel_rfl
theorem f19:FnOk Tryz.prog 19 c19:=by
 refine FnOk.ofW orders (mkE_ok (l:=[]) (own:=[]) (inl:=[]) (by simp) (by simp)) Tryz.func19 {} 2 ok19 fun args r e=>?_
 unfold c19 at e
 split at e
 ·rename_i n h v
  cases e
  refine⟨by simp,fun hm=>?_⟩
  obtain⟨⟨hq,hn⟩,a,rfl,ha⟩:=hm _ rfl
  refine⟨[],stOf [(0,.rs 6 n (fun i=>(pts h i).cells)),(1,.val a.v)] [] 0 [],Wo trivial ⟨⟨rfl,rfl,fun i hi=>(hq i hi).1.symm⟩,rfl,trivial⟩ trivial,?_⟩
  generalize pts h=q at *
  obtain⟨X,hX⟩:∃X,X=ixP (fun i=>eqP a (q i)) n 0:=⟨_,rfl⟩
  have hv:ixP (fun i=>eqP (rdV a.v) (q i)) n 0=X:=hX.symm
  rw [hv]
  with_unfolding_all refine⟨Nat,fun i=>i≤n∧ixP (fun i=>eqP a (q i)) (n - i) i=X,fun i=>stOf [(0,.rs 6 n (fun i=>(q i).cells)),(3,.ptr 0 0 0 0),(7,.val (goInt n)),(8,.val (goInt i))] [⟨25,6,0,true,false,1,fun _=>[.val (.bool a.x.s),.val (.string a.x.b),.val (.string a.x.c),.val (.bool a.y.s),.val (.string a.y.b),.val (.string a.y.c)]⟩] 1 [],fun i=>n - i,⟨0,[some 0],⟨Nat.zero_le _,hX.symm⟩,Wo ⟨⟨lt_ok rfl,rfl,rfl,rfl,rfl,rfl,rq,rq,rq,rq,rq,rq,trivial⟩,trivial⟩ ⟨⟨rfl,rfl,fun _ _=>rfl⟩,pP,rfl,rfl,trivial⟩ trivial⟩,fun i hi=>?_⟩
  obtain⟨hin,hI⟩:i≤n∧ixP (fun i=>eqP a (q i)) (n - i) i=X:=hi
  with_unfolding_all refine⟨fun h=>?_,fun h=>⟨[],stOf [(4,.val (.int .i64 X))] [] 0 [],Wo trivial ⟨?_,trivial⟩ trivial,rfl,rfl⟩⟩
  ·have h:(i:Int) < n:=ltT h
   have e:(i:Int).toNat=i:=Int.toNat_natCast i
   have hstep:ixP (fun i=>eqP a (q i)) (n - i) i=bif eqP a (q i) then(i:Int) else ixP (fun i=>eqP a (q i)) (n - (i+1)) (i+1):=by
    rw [show n - i=(n - (i+1))+1 by omega]
    rfl
   with_unfolding_all refine⟨⟨by omega,by omega⟩,fun h'=>⟨[],stOf [(4,.val (.int .i64 X))] [] 0 [],Wo trivial ⟨?_,trivial⟩ trivial,rfl,rfl⟩,fun h'=>⟨i+1,[some 0],⟨by omega,?_⟩,by show n - (i+1) < n - i;omega,Wo ⟨⟨lt_ok rfl,rfl,rfl,rfl,rfl,rfl,rq,rq,rq,rq,rq,rq,trivial⟩,trivial⟩ ⟨⟨rfl,rfl,fun _ _=>rfl⟩,pP,rfl,?_,trivial⟩ trivial⟩⟩
   ·have h':eqP a (q (i:Int).toNat)=true:=h'
    rw [e] at h'
    rw [h',cond_true] at hstep
    exact congrArg (fun z=>PV.val (.int .i64 z)) (hstep.symm.trans hI)
   ·have h':eqP a (q (i:Int).toNat)=false:=h'
    rw [e] at h'
    rw [h',cond_false] at hstep
    exact hstep.symm.trans hI
   ·show PV.val (.int .i64 (IntKind.i64.wrap ((i:Int)+1)))=PV.val (.int .i64 ((i+1:Nat):Int))
    rw [wrap64 (by omega) (by omega)]
    rfl
  ·have h:(n:Int)≤i:=ltF h
   rw [show n - i=0 by omega] at hI
   exact congrArg (fun z=>PV.val (.int .i64 z)) hI
 ·cases e
def c37:List PV→Option Ans
 |[.rs 6 m h,.val v]=>some ⟨some (isPL 4294967296 m h∧isPk 4294967296 v),.val (.bool (anyP (fun i=>eqP (rdV v) (pts h i)) m)),[]⟩
 |_=>none
theorem ok37:funcOk {} Tryz.f37 2=true:=by kernel_rfl
theorem f37:FnOk Tryz.prog 37 c37:=by
 refine FnOk.ofW orders (mkE_ok (l:=[(19,c19)]) (own:=[]) (inl:=[]) (by simp [f19]) (by simp)) Tryz.func37 {} 2 ok37 fun args r e=>?_
 unfold c37 at e
 split at e
 ·rename_i n h v
  cases e
  refine⟨by simp,fun hm=>?_⟩
  obtain⟨hq,a,rfl,ha⟩:=hm _ rfl
  refine⟨[],stOf [(0,.rs 6 n h),(1,.val a.v)] [] 0 [],Wo trivial ⟨⟨rfl,rfl,fun i hi=>rfl⟩,rfl,trivial⟩ trivial,?_⟩
  with_unfolding_all refine⟨⟨hq,a,rfl,ha⟩,[],stOf [(4,.val (.bool (anyP (fun i=>eqP a (pts h i)) n)))] [] 0 [],Wo trivial ⟨?_,trivial⟩ trivial,rfl,rfl⟩
  exact congrArg (fun z=>PV.val (.bool z)) (ixP_any _ _)
 ·cases e
end Go.Proofs
namespace Go.Proofs
open Go Go.Ex Go.Num
set_option maxRecDepth 100000
def c92:List PV→Option Ans
 |[.rs 6 n g]=>some ⟨some (isPL 4294967296 n g∧∀i,i+1 < n→eqP (pts g (i+1)) (pts g i)=false),.rs 6 n (fun i=>(pts g i).cells),[]⟩
 |_=>none
theorem ok92:funcOk {} Tryz.f92 1=true:=by kernel_rfl
theorem f92:FnOk Tryz.prog 92 c92:=by
 refine FnOk.ofW orders (mkE_ok (l:=[]) (own:=[]) (inl:=[]) (by simp) (by simp)) Tryz.func92 {} 1 ok92 fun args r e=>?_
 unfold c92 at e
 split at e
 ·rename_i n g
  cases e
  refine⟨by simp,fun hm=>?_⟩
  obtain⟨⟨hg,hn⟩,hne⟩:=hm _ rfl
  refine⟨[],stOf [(0,.rs 6 n (fun i=>(pts g i).cells))] [] 0 [],Wo trivial ⟨⟨rfl,rfl,fun i hi=>(hg i hi).1.symm⟩,trivial⟩ trivial,?_⟩
  generalize pts g=p at *
  with_unfolding_all refine⟨fun h=>⟨[],stOf [(2,.rs 6 n (fun i=>(p i).cells))] [] 0 [],Wo trivial ⟨⟨rfl,rfl,fun _ _=>rfl⟩,trivial⟩ trivial,rfl,rfl⟩,fun h0=>⟨Nat,fun k=>k+1≤n,fun k=>stOf [(0,.rs 6 n (fun i=>(p i).cells)),(3,.val (.int .i64 ((k:Int)+1)))] [] 0 [],fun k=>n - k,⟨0,[],?_,Wo trivial ⟨⟨rfl,rfl,fun _ _=>rfl⟩,rfl,trivial⟩ trivial⟩,fun k hk=>⟨fun h1=>?_,fun h1=>⟨[],stOf [(2,.rs 6 n (fun i=>(p i).cells))] [] 0 [],Wo trivial ⟨⟨rfl,rfl,fun _ _=>rfl⟩,trivial⟩ trivial,rfl,rfl⟩⟩⟩⟩
  ·have h:=of_decide_eq_false h0
   have h:¬(n:Int) < 2:=h
   show 0+1≤n
   omega
  ·have hk:k+1≤n:=hk
   have h1:(k:Int)+1 < n:=of_decide_eq_true h1
   have w1:IntKind.i64.wrap ((k:Int)+1 - 1)=k:=by rw [wrap64 (by omega) (by omega)];omega
   have w2:PV.val (.int .i64 (IntKind.i64.wrap ((k:Int)+1+1)))=PV.val (.int .i64 (((k+1:Nat):Int)+1)):=by
    rw [wrap64 (by omega) (by omega)]
    rfl
   have ne:eqP (p ((k:Int)+1).toNat) (p (IntKind.i64.wrap ((k:Int)+1 - 1)).toNat)=false:=by
    rw [w1,show((k:Int)+1).toNat=k+1 by omega,Int.toNat_natCast]
    exact hne k (by omega)
   have b1:0≤IntKind.i64.wrap ((k:Int)+1 - 1)∧IntKind.i64.wrap ((k:Int)+1 - 1) < n:=by rw [w1];omega
   with_unfolding_all refine⟨⟨by omega,h1⟩,b1,fun h2=>absurd (h2.symm.trans ne) (by decide),fun h2=>⟨k+1,[],?_,?_,Wo trivial ⟨⟨rfl,rfl,fun _ _=>rfl⟩,w2,trivial⟩ trivial⟩⟩
   ·show k+1+1≤n
    omega
   ·show n - (k+1) < n - k
    omega
 ·cases e
end Go.Proofs
namespace Go.Num
open Go Go.Ex Go.Proofs
def rdI1:List PV→Int
 |[.val (.int .i64 s)]=>s
 |_=>0
def isI1 (c:List PV):Prop:=c=[.val (.int .i64 (rdI1 c))]
def sideB (a b:PtS) (s:Int) (p:PtS):Bool:=orP a b p==s
end Go.Num
namespace Go.Proofs
open Go Go.Ex Go.Num
set_option maxRecDepth 100000
def c106:List PV→Option Ans
 |[.val v,.rp 6 1 h 0 0,.rp 6 1 h' 0 0,.rp 1 1 h2 0 0]=>some ⟨some (isPk 10000 v∧isC 10000 (h 0)∧isC 10000 (h' 0)∧isI1 (h2 0)),.val (.bool (sideB (rdP (h 0)) (rdP (h' 0)) (rdI1 (h2 0)) (rdV v))),[]⟩
 |_=>none
theorem ok106:funcOk {} Tryz.f106 4=true:=by kernel_rfl
theorem f106:FnOk Tryz.prog 106 c106:=by
 refine FnOk.ofW orders (mkE_ok (l:=[(107,c107)]) (own:=[]) (inl:=[]) (by simp [f107]) (by simp)) Tryz.func106 {} 4 ok106 fun args r e=>?_
 unfold c106 at e
 split at e
 ·rename_i v h h' h2
  cases e
  refine⟨by simp,fun hm=>?_⟩
  obtain⟨⟨p,rfl,hp⟩,⟨h1,ha⟩,⟨h3,hb⟩,h4⟩:=hm _ rfl
  unfold isI1 at h4
  generalize rdP (h 0)=a at *
  generalize rdP (h' 0)=b at *
  generalize rdI1 (h2 0)=s at *
  refine⟨[],stOf [(0,.val p.v),(1,.rp 6 1 (fun _=>a.cells) 0 0),(2,.rp 6 1 (fun _=>b.cells) 0 0),(3,.rp 1 1 (fun _=>[.val (.int .i64 s)]) 0 0)] [] 0 [],Wo trivial ⟨rfl,⟨rfl,rfl,rfl,rfl,at0 h1⟩,⟨rfl,rfl,rfl,rfl,at0 h3⟩,⟨rfl,rfl,rfl,rfl,at0 h4⟩,trivial⟩ trivial,?_⟩
  with_unfolding_all exact⟨⟨⟨a,rfl,ha⟩,⟨b,rfl,hb⟩,p,rfl,hp⟩,⟨[],stOf [(5,.val (.bool (sideB a b s p)))] [] 0 [],Wo trivial ⟨rfl,trivial⟩ trivial,rfl,rfl⟩⟩
 ·cases e
def c83_106:List PV→Option Ans
 |[.rs 6 n g,.fn (.func 106) [] [.rp 6 1 cc 0 0,.rp 6 1 dd 0 0,.rp 1 1 ee 0 0]]=>some ⟨some (isPL 10000 n g∧isC 10000 (cc 0)∧isC 10000 (dd 0)∧isI1 (ee 0)),.val (.int .i64 (ixP (fun i=>sideB (rdP (cc 0)) (rdP (dd 0)) (rdI1 (ee 0)) (pts g i)) n 0)),[]⟩
 |_=>none
theorem f83_106:FnOk Tryz.prog 83 c83_106:=by
 refine FnOk.ofW orders (mkE_ok (l:=[(106,c106)]) (own:=[]) (inl:=[]) (by simp [f106]) (by simp)) Tryz.func83 {} 2 ok83 fun args r e=>?_
 unfold c83_106 at e
 split at e
 ·rename_i n g cc dd ee
  cases e
  refine⟨by simp,fun hm=>?_⟩
  obtain⟨⟨hg,hn⟩,h1,h2,h3⟩:=hm _ rfl
  refine⟨[],stOf [(0,.rs 6 n (fun i=>(pts g i).cells)),(1,.fn (.func 106) [] [.rp 6 1 cc 0 0,.rp 6 1 dd 0 0,.rp 1 1 ee 0 0])] [] 0 [],Wo trivial ⟨⟨rfl,rfl,fun i hi=>(hg i hi).1.symm⟩,⟨rfl,trivial,⟨rfl,rfl,rfl,rfl,fun _ _=>rfl⟩,⟨rfl,rfl,rfl,rfl,fun _ _=>rfl⟩,⟨rfl,rfl,rfl,rfl,fun _ _=>rfl⟩,trivial⟩,trivial⟩ trivial,?_⟩
  obtain⟨X,hX⟩:∃X,X=ixP (fun i=>sideB (rdP (cc 0)) (rdP (dd 0)) (rdI1 (ee 0)) (pts g i)) n 0:=⟨_,rfl⟩
  rw [←hX]
  with_unfolding_all refine⟨Nat,fun i=>i≤n∧ixP (fun i=>sideB (rdP (cc 0)) (rdP (dd 0)) (rdI1 (ee 0)) (pts g i)) (n - i) i=X,fun i=>stOf [(0,.rs 6 n (fun i=>(pts g i).cells)),(1,.fn (.func 106) [] [.rp 6 1 cc 0 0,.rp 6 1 dd 0 0,.rp 1 1 ee 0 0]),(7,.val (goInt n)),(8,.val (goInt i))] [] 0 [],fun i=>n - i,⟨0,[],⟨Nat.zero_le _,hX.symm⟩,Wo trivial ⟨⟨rfl,rfl,fun _ _=>rfl⟩,⟨rfl,trivial,⟨rfl,rfl,rfl,rfl,fun _ _=>rfl⟩,⟨rfl,rfl,rfl,rfl,fun _ _=>rfl⟩,⟨rfl,rfl,rfl,rfl,fun _ _=>rfl⟩,trivial⟩,rfl,rfl,trivial⟩ trivial⟩,fun i hi=>?_⟩
  obtain⟨hin,hI⟩:i≤n∧ixP (fun i=>sideB (rdP (cc 0)) (rdP (dd 0)) (rdI1 (ee 0)) (pts g i)) (n - i) i=X:=hi
  with_unfolding_all refine⟨fun h=>?_,fun h=>⟨[],stOf [(4,.val (.int .i64 X))] [] 0 [],Wo trivial ⟨?_,trivial⟩ trivial,rfl,rfl⟩⟩
  ·have h:(i:Int) < n:=ltT h
   have e:(i:Int).toNat=i:=Int.toNat_natCast i
   have hstep:ixP (fun i=>sideB (rdP (cc 0)) (rdP (dd 0)) (rdI1 (ee 0)) (pts g i)) (n - i) i=bif sideB (rdP (cc 0)) (rdP (dd 0)) (rdI1 (ee 0)) (pts g i) then(i:Int) else ixP (fun i=>sideB (rdP (cc 0)) (rdP (dd 0)) (rdI1 (ee 0)) (pts g i)) (n - (i+1)) (i+1):=by
    rw [show n - i=(n - (i+1))+1 by omega]
    rfl
   have hip:=(hg i (by omega)).2
   rw [←e] at hip
   with_unfolding_all refine⟨⟨by omega,by omega⟩,⟨⟨pts g (i:Int).toNat,rfl,hip⟩,h1,h2,h3⟩,fun h'=>⟨[],stOf [(4,.val (.int .i64 X))] [] 0 [],Wo trivial ⟨?_,trivial⟩ trivial,rfl,rfl⟩,fun h'=>⟨i+1,[],⟨by omega,?_⟩,by show n - (i+1) < n - i;omega,Wo trivial ⟨⟨rfl,rfl,fun _ _=>rfl⟩,⟨rfl,trivial,⟨rfl,rfl,rfl,rfl,fun _ _=>rfl⟩,⟨rfl,rfl,rfl,rfl,fun _ _=>rfl⟩,⟨rfl,rfl,rfl,rfl,fun _ _=>rfl⟩,trivial⟩,rfl,?_,trivial⟩ trivial⟩⟩
   ·have h':(sideB (rdP (cc 0)) (rdP (dd 0)) (rdI1 (ee 0)) (pts g (i:Int).toNat))=true:=h'
    rw [e] at h'
    rw [h',cond_true] at hstep
    exact congrArg (fun z=>PV.val (.int .i64 z)) (hstep.symm.trans hI)
   ·have h':(sideB (rdP (cc 0)) (rdP (dd 0)) (rdI1 (ee 0)) (pts g (i:Int).toNat))=false:=h'
    rw [e] at h'
    rw [h',cond_false] at hstep
    exact hstep.symm.trans hI
   ·show PV.val (.int .i64 (IntKind.i64.wrap ((i:Int)+1)))=PV.val (.int .i64 ((i+1:Nat):Int))
    rw [wrap64 (by omega) (by omega)]
    rfl
  ·have h:(n:Int)≤i:=ltF h
   rw [show n - i=0 by omega] at hI
   exact congrArg (fun z=>PV.val (.int .i64 z)) hI
 ·cases e
def c65_106:List PV→Option Ans
 |[.rs 6 n g,.fn (.func 106) [] [.rp 6 1 cc 0 0,.rp 6 1 dd 0 0,.rp 1 1 ee 0 0]]=>some ⟨some (isPL 10000 n g∧isC 10000 (cc 0)∧isC 10000 (dd 0)∧isI1 (ee 0)),.val (.bool (anyP (fun i=>sideB (rdP (cc 0)) (rdP (dd 0)) (rdI1 (ee 0)) (pts g i)) n)),[]⟩
 |_=>none
theorem f65_106:FnOk Tryz.prog 65 c65_106:=by
 refine FnOk.ofW orders (mkE_ok (l:=[(83,c83_106)]) (own:=[]) (inl:=[]) (by simp [f83_106]) (by simp)) Tryz.func65 {} 2 ok65 fun args r e=>?_
 unfold c65_106 at e
 split at e
 ·rename_i n g cc dd ee
  cases e
  refine⟨by simp,fun hm=>?_⟩
  have hp:=hm _ rfl
  refine⟨[],stOf [(0,.rs 6 n g),(1,.fn (.func 106) [] [.rp 6 1 cc 0 0,.rp 6 1 dd 0 0,.rp 1 1 ee 0 0])] [] 0 [],Wo trivial ⟨⟨rfl,rfl,fun i hi=>rfl⟩,⟨rfl,trivial,⟨rfl,rfl,rfl,rfl,fun _ _=>rfl⟩,⟨rfl,rfl,rfl,rfl,fun _ _=>rfl⟩,⟨rfl,rfl,rfl,rfl,fun _ _=>rfl⟩,trivial⟩,trivial⟩ trivial,?_⟩
  with_unfolding_all refine⟨hp,[],stOf [(4,.val (.bool (anyP (fun i=>sideB (rdP (cc 0)) (rdP (dd 0)) (rdI1 (ee 0)) (pts g i)) n)))] [] 0 [],Wo trivial ⟨?_,trivial⟩ trivial,rfl,rfl⟩
  exact congrArg (fun z=>PV.val (.bool z)) (ixP_any _ _)
 ·cases e
def c105:List PV→Option Ans
 |[.val (.int .i64 s),.rp 6 1 h 0 0,.rp 6 1 h' 0 0]=>some ⟨none,.fn (.func 106) [] [.rp 6 1 h 0 0,.rp 6 1 h' 0 0,.rp 1 1 (fun _=>[.val (.int .i64 s)]) 0 0],[]⟩
 |_=>none
theorem ok105:funcOk {} Tryz.f105 3=true:=by kernel_rfl
theorem f105:FnOk Tryz.prog 105 c105:=by
 refine FnOk.ofW orders (mkE_ok (l:=[]) (own:=[]) (inl:=[]) (by simp) (by simp)) Tryz.func105 {} 3 ok105 fun args r e=>?_
 unfold c105 at e
 split at e
 ·rename_i s h h'
  cases e
  refine⟨by simp,fun hm=>?_⟩
  refine⟨[],stOf [(0,.val (.int .i64 s)),(1,.rp 6 1 h 0 0),(2,.rp 6 1 h' 0 0)] [] 0 [],Wo trivial ⟨rfl,⟨rfl,rfl,rfl,rfl,fun _ _=>rfl⟩,⟨rfl,rfl,rfl,rfl,fun _ _=>rfl⟩,trivial⟩ trivial,?_⟩
  with_unfolding_all exact⟨[some 0],stOf [(4,.fn (.func 106) [] [.rp 6 1 h 0 0,.rp 6 1 h' 0 0,.ptr 0 0 0 0])] [⟨3,1,0,true,false,1,fun _=>[.val (.int .i64 s)]⟩] 1 [],Wo ⟨⟨lt_ok rfl,rfl,rfl,rfl,rfl,rfl,rq,trivial⟩,trivial⟩ ⟨⟨rfl,trivial,⟨rfl,rfl,rfl,rfl,fun _ _=>rfl⟩,⟨rfl,rfl,rfl,rfl,fun _ _=>rfl⟩,pP,trivial⟩,trivial⟩ trivial,rfl,rfl⟩
 ·cases e
end Go.Proofs
namespace Go.Num
open Go Go.Ex Go.Proofs
def tightP (n:Nat) (p:Nat→PtS) (a b:PtS):Bool:=anyP (fun i=>eqP a (p i)) n&&!(anyP (fun i=>sideB a b 1 (p i)) n&&anyP (fun i=>sideB a b (-1) (p i)) n)
end Go.Num
namespace Go.Proofs
open Go Go.Ex Go.Num
set_option maxRecDepth 100000
def c104:List PV→Option Ans
 |[.rs 6 n g,.rp 6 1 h 0 0,.rp 6 1 h' 0 0]=>some ⟨some (isPL 10000 n g∧isC 10000 (h 0)∧isC 10000 (h' 0)),.val (.bool (tightP n (pts g) (rdP (h 0)) (rdP (h' 0)))),[]⟩
 |_=>none
theorem ok104:funcOk {} Tryz.f104 3=true:=by kernel_rfl
theorem f104:FnOk Tryz.prog 104 c104:=by
 refine FnOk.ofW orders (mkE_ok (l:=[(37,c37),(65,c65_106),(105,c105)]) (own:=[]) (inl:=[]) (by simp [f37,f65_106,f105]) (by simp)) Tryz.func104 {} 3 ok104 fun args r e=>?_
 unfold c104 at e
 split at e
 ·rename_i n g h h'
  cases e
  refine⟨by simp,fun hm=>?_⟩
  obtain⟨hg,⟨h1,ha⟩,h3,hb⟩:=hm _ rfl
  generalize rdP (h 0)=a at *
  generalize rdP (h' 0)=b at *
  refine⟨[],stOf [(0,.rs 6 n g),(1,.rp 6 1 (fun _=>a.cells) 0 0),(2,.rp 6 1 (fun _=>b.cells) 0 0)] [] 0 [],Wo trivial ⟨⟨rfl,rfl,fun _ _=>rfl⟩,⟨rfl,rfl,rfl,rfl,at0 h1⟩,⟨rfl,rfl,rfl,rfl,at0 h3⟩,trivial⟩ trivial,?_⟩
  have hg':isPL 4294967296 n g:=⟨fun i hi=>⟨(hg.1 i hi).1,(hg.1 i hi).2.mono (by decide)⟩,hg.2⟩
  have ha':=ha.mono (show 10000≤4294967296 by decide)
  have pS:∀s:Int,isPL 10000 n g∧isC 10000 a.cells∧isC 10000 b.cells∧isI1 [.val (.int .i64 s)]:=fun s=>⟨hg,⟨rfl,ha⟩,⟨rfl,hb⟩,rfl⟩
  obtain⟨X,hX⟩:∃X,X=tightP n (pts g) a b:=⟨_,rfl⟩
  rw [←hX]
  have v1:anyP (fun i=>eqP a (pts g i)) n=true→anyP (fun i=>sideB a b 1 (pts g i)) n=true→PV.val (.bool (!anyP (fun i=>sideB a b (-1) (pts g i)) n))=PV.val (.bool X):=fun h h'=>by
   rw [hX,tightP,h,h',Bool.true_and,Bool.true_and]
  have v2:anyP (fun i=>eqP a (pts g i)) n=true→anyP (fun i=>sideB a b 1 (pts g i)) n=false→PV.val (.bool true)=PV.val (.bool X):=fun h h'=>by
   rw [hX,tightP,h,h']
   rfl
  have v3:anyP (fun i=>eqP a (pts g i)) n=false→PV.val (.bool false)=PV.val (.bool X):=fun h=>by
   rw [hX,tightP,h]
   rfl
  with_unfolding_all exact⟨⟨hg',a,rfl,ha'⟩,fun h1=>⟨pS 1,fun h2=>⟨pS (-1),⟨[],stOf [(4,.val (.bool X))] [] 0 [],Wo trivial ⟨v1 h1 h2,trivial⟩ trivial,rfl,rfl⟩⟩,fun h2=>⟨[],stOf [(4,.val (.bool X))] [] 0 [],Wo trivial ⟨v2 h1 h2,trivial⟩ trivial,rfl,rfl⟩⟩,fun h1=>⟨[],stOf [(4,.val (.bool X))] [] 0 [],Wo trivial ⟨v3 h1,trivial⟩ trivial,rfl,rfl⟩⟩
 ·cases e
def c138:List PV→Option Ans
 |[.rs 1 k c,.fn (.func 104) [] [.rp 6 1 h 0 0,.rp 6 1 h' 0 0]]=>some ⟨some (isCL 10000 k c∧isC 10000 (h 0)∧isC 10000 (h' 0)),.val (.int .i64 (ixP (fun i=>tightP (pn c i) (pts (pg c i)) (rdP (h 0)) (rdP (h' 0))) k 0)),[]⟩
 |_=>none
theorem ok138:funcOk {} Tryz.f138 2=true:=by kernel_rfl
theorem f138:FnOk Tryz.prog 138 c138:=by
 refine FnOk.ofW orders (mkE_ok (l:=[(104,c104)]) (own:=[]) (inl:=[]) (by simp [f104]) (by simp)) Tryz.func138 {} 2 ok138 fun args r e=>?_
 unfold c138 at e
 split at e
 ·rename_i k c cc dd
  cases e
  refine⟨by simp,fun hm=>?_⟩
  obtain⟨⟨hc,hn⟩,h1,h2⟩:=hm _ rfl
  refine⟨[],stOf [(0,.rs 1 k (fun i=>[.rs 6 (pn c i) (pg c i)])),(1,.fn (.func 104) [] [.rp 6 1 cc 0 0,.rp 6 1 dd 0 0])] [] 0 [],Wo trivial ⟨⟨rfl,rfl,fun i hi=>(hc i hi).1.symm⟩,⟨rfl,trivial,⟨rfl,rfl,rfl,rfl,fun _ _=>rfl⟩,⟨rfl,rfl,rfl,rfl,fun _ _=>rfl⟩,trivial⟩,trivial⟩ trivial,?_⟩
  obtain⟨X,hX⟩:∃X,X=ixP (fun i=>tightP (pn c i) (pts (pg c i)) (rdP (cc 0)) (rdP (dd 0))) k 0:=⟨_,rfl⟩
  rw [←hX]
  with_unfolding_all refine⟨Nat,fun i=>i≤k∧ixP (fun i=>tightP (pn c i) (pts (pg c i)) (rdP (cc 0)) (rdP (dd 0))) (k - i) i=X,fun i=>stOf [(0,.rs 1 k (fun i=>[.rs 6 (pn c i) (pg c i)])),(1,.fn (.func 104) [] [.rp 6 1 cc 0 0,.rp 6 1 dd 0 0]),(7,.val (goInt k)),(8,.val (goInt i))] [] 0 [],fun i=>k - i,⟨0,[],⟨Nat.zero_le _,hX.symm⟩,Wo trivial ⟨⟨rfl,rfl,fun _ _=>rfl⟩,⟨rfl,trivial,⟨rfl,rfl,rfl,rfl,fun _ _=>rfl⟩,⟨rfl,rfl,rfl,rfl,fun _ _=>rfl⟩,trivial⟩,rfl,rfl,trivial⟩ trivial⟩,fun i hi=>?_⟩
  obtain⟨hin,hI⟩:i≤k∧ixP (fun i=>tightP (pn c i) (pts (pg c i)) (rdP (cc 0)) (rdP (dd 0))) (k - i) i=X:=hi
  with_unfolding_all refine⟨fun h=>?_,fun h=>⟨[],stOf [(4,.val (.int .i64 X))] [] 0 [],Wo trivial ⟨?_,trivial⟩ trivial,rfl,rfl⟩⟩
  ·have h:(i:Int) < k:=ltT h
   have e:(i:Int).toNat=i:=Int.toNat_natCast i
   have hstep:ixP (fun i=>tightP (pn c i) (pts (pg c i)) (rdP (cc 0)) (rdP (dd 0))) (k - i) i=bif tightP (pn c i) (pts (pg c i)) (rdP (cc 0)) (rdP (dd 0)) then(i:Int) else ixP (fun i=>tightP (pn c i) (pts (pg c i)) (rdP (cc 0)) (rdP (dd 0))) (k - (i+1)) (i+1):=by
    rw [show k - i=(k - (i+1))+1 by omega]
    rfl
   have hip:=(hc i (by omega)).2
   rw [←e] at hip
   with_unfolding_all refine⟨⟨by omega,by omega⟩,⟨hip,h1,h2⟩,fun h'=>⟨[],stOf [(4,.val (.int .i64 X))] [] 0 [],Wo trivial ⟨?_,trivial⟩ trivial,rfl,rfl⟩,fun h'=>⟨i+1,[],⟨by omega,?_⟩,by show k - (i+1) < k - i;omega,Wo trivial ⟨⟨rfl,rfl,fun _ _=>rfl⟩,⟨rfl,trivial,⟨rfl,rfl,rfl,rfl,fun _ _=>rfl⟩,⟨rfl,rfl,rfl,rfl,fun _ _=>rfl⟩,trivial⟩,rfl,?_,trivial⟩ trivial⟩⟩
   ·have h':tightP (pn c (i:Int).toNat) (pts (pg c (i:Int).toNat)) (rdP (cc 0)) (rdP (dd 0))=true:=h'
    rw [e] at h'
    rw [h',cond_true] at hstep
    exact congrArg (fun z=>PV.val (.int .i64 z)) (hstep.symm.trans hI)
   ·have h':tightP (pn c (i:Int).toNat) (pts (pg c (i:Int).toNat)) (rdP (cc 0)) (rdP (dd 0))=false:=h'
    rw [e] at h'
    rw [h',cond_false] at hstep
    exact hstep.symm.trans hI
   ·show PV.val (.int .i64 (IntKind.i64.wrap ((i:Int)+1)))=PV.val (.int .i64 ((i+1:Nat):Int))
    rw [wrap64 (by omega) (by omega)]
    rfl
  ·have h:(k:Int)≤i:=ltF h
   rw [show k - i=0 by omega] at hI
   exact congrArg (fun z=>PV.val (.int .i64 z)) hI
 ·cases e
def c103:List PV→Option Ans
 |[.rs 1 k c,.fn (.func 104) [] [.rp 6 1 h 0 0,.rp 6 1 h' 0 0]]=>some ⟨some (isCL 10000 k c∧isC 10000 (h 0)∧isC 10000 (h' 0)),.val (.bool (anyP (fun i=>tightP (pn c i) (pts (pg c i)) (rdP (h 0)) (rdP (h' 0))) k)),[]⟩
 |_=>none
theorem ok103:funcOk {} Tryz.f103 2=true:=by kernel_rfl
theorem f103:FnOk Tryz.prog 103 c103:=by
 refine FnOk.ofW orders (mkE_ok (l:=[(138,c138)]) (own:=[]) (inl:=[]) (by simp [f138]) (by simp)) Tryz.func103 {} 2 ok103 fun args r e=>?_
 unfold c103 at e
 split at e
 ·rename_i n g cc dd
  cases e
  refine⟨by simp,fun hm=>?_⟩
  have hp:=hm _ rfl
  refine⟨[],stOf [(0,.rs 1 n g),(1,.fn (.func 104) [] [.rp 6 1 cc 0 0,.rp 6 1 dd 0 0])] [] 0 [],Wo trivial ⟨⟨rfl,rfl,fun i hi=>rfl⟩,⟨rfl,trivial,⟨rfl,rfl,rfl,rfl,fun _ _=>rfl⟩,⟨rfl,rfl,rfl,rfl,fun _ _=>rfl⟩,trivial⟩,trivial⟩ trivial,?_⟩
  with_unfolding_all refine⟨hp,[],stOf [(4,.val (.bool (anyP (fun i=>tightP (pn g i) (pts (pg g i)) (rdP (cc 0)) (rdP (dd 0))) n)))] [] 0 [],Wo trivial ⟨?_,trivial⟩ trivial,rfl,rfl⟩
  exact congrArg (fun z=>PV.val (.bool z)) (ixP_any _ _)
 ·cases e
end Go.Proofs
namespace Go.Num
open Go Go.Ex Go.Proofs
def cornP (lo hi:PtS) (k:Nat) (c:Nat→List PV) (l:Nat) (o:Nat→List PV):Nat→PtS:=srtI (vertP (vertC lo hi k c l o)) (vertC lo hi k c l o).length
theorem cornP_le {lo hi:PtS} {k:Nat} {c:Nat→List PV} {l:Nat} {o:Nat→List PV} (h:isCL 10000 k c):∀i,i < (vertC lo hi k c l o).length→(cornP lo hi k c l o i).le 10000:=srtI_le (Nat.le_refl _) fun _ hi=>vertP_le (vertC_le h) hi
end Go.Num
namespace Go.Proofs
open Go Go.Ex Go.Num
set_option maxRecDepth 100000
def c57:List PV→Option Ans
 |[.agg [.val (.bool s1),.val (.string b1),.val (.string c1),.val (.bool s2),.val (.string b2),.val (.string c2),.val (.bool s3),.val (.string b3),.val (.string c3),.val (.bool s4),.val (.string b4),.val (.string c4),.rs 1 k c,.rs 3 l o]]=>some ⟨some ((((PtS.le 10000 (PtS.mk ⟨s1,b1,c1⟩ ⟨s2,b2,c2⟩)∧PtS.le 10000 (PtS.mk ⟨s3,b3,c3⟩ ⟨s4,b4,c4⟩))∧isCL 10000 k c∧isOL l o)∧(vertC (PtS.mk ⟨s1,b1,c1⟩ ⟨s2,b2,c2⟩) (PtS.mk ⟨s3,b3,c3⟩ ⟨s4,b4,c4⟩) k c l o).length≤12)∧∀i,i+1 < (vertC (PtS.mk ⟨s1,b1,c1⟩ ⟨s2,b2,c2⟩) (PtS.mk ⟨s3,b3,c3⟩ ⟨s4,b4,c4⟩) k c l o).length→eqP (cornP (PtS.mk ⟨s1,b1,c1⟩ ⟨s2,b2,c2⟩) (PtS.mk ⟨s3,b3,c3⟩ ⟨s4,b4,c4⟩) k c l o (i+1)) (cornP (PtS.mk ⟨s1,b1,c1⟩ ⟨s2,b2,c2⟩) (PtS.mk ⟨s3,b3,c3⟩ ⟨s4,b4,c4⟩) k c l o i)=false),.rs 6 (vertC (PtS.mk ⟨s1,b1,c1⟩ ⟨s2,b2,c2⟩) (PtS.mk ⟨s3,b3,c3⟩ ⟨s4,b4,c4⟩) k c l o).length (fun i=>(cornP (PtS.mk ⟨s1,b1,c1⟩ ⟨s2,b2,c2⟩) (PtS.mk ⟨s3,b3,c3⟩ ⟨s4,b4,c4⟩) k c l o i).cells),[]⟩
 |_=>none
theorem ok57:funcOk {} Tryz.f57 1=true:=by kernel_rfl
theorem f57:FnOk Tryz.prog 57 c57:=by
 refine FnOk.ofW orders (mkE_ok (l:=[(94,c94),(93,c93),(92,c92)]) (own:=[]) (inl:=[]) (by simp [f94,f93,f92]) (by simp)) Tryz.func57 {} 1 ok57 fun args r e=>?_
 unfold c57 at e
 split at e
 ·rename_i s1 b1 c1 s2 b2 c2 s3 b3 c3 s4 b4 c4 k c l o
  cases e
  refine⟨by simp,fun hm=>?_⟩
  obtain⟨⟨⟨⟨hlo,hhi⟩,⟨hc,hk⟩,ho,hl⟩,hn⟩,hne⟩:=hm _ rfl
  obtain⟨lo,hlo'⟩:∃p,p=(PtS.mk ⟨s1,b1,c1⟩ ⟨s2,b2,c2⟩):=⟨_,rfl⟩
  obtain⟨hi,hhi'⟩:∃p,p=(PtS.mk ⟨s3,b3,c3⟩ ⟨s4,b4,c4⟩):=⟨_,rfl⟩
  have hc1:∀i,i < k→[.rs 6 (pn c i) (pg c i)]=c i:=fun i hi=>(hc i hi).1.symm
  have ho1:∀i,i < l→cellsO (ow o i)=o i:=fun i hi=>(ho i hi).symm
  refine⟨[],stOf [(0,.agg [.val (.bool (PtS.mk ⟨s1,b1,c1⟩ ⟨s2,b2,c2⟩).x.s),.val (.string (PtS.mk ⟨s1,b1,c1⟩ ⟨s2,b2,c2⟩).x.b),.val (.string (PtS.mk ⟨s1,b1,c1⟩ ⟨s2,b2,c2⟩).x.c),.val (.bool (PtS.mk ⟨s1,b1,c1⟩ ⟨s2,b2,c2⟩).y.s),.val (.string (PtS.mk ⟨s1,b1,c1⟩ ⟨s2,b2,c2⟩).y.b),.val (.string (PtS.mk ⟨s1,b1,c1⟩ ⟨s2,b2,c2⟩).y.c),.val (.bool (PtS.mk ⟨s3,b3,c3⟩ ⟨s4,b4,c4⟩).x.s),.val (.string (PtS.mk ⟨s3,b3,c3⟩ ⟨s4,b4,c4⟩).x.b),.val (.string (PtS.mk ⟨s3,b3,c3⟩ ⟨s4,b4,c4⟩).x.c),.val (.bool (PtS.mk ⟨s3,b3,c3⟩ ⟨s4,b4,c4⟩).y.s),.val (.string (PtS.mk ⟨s3,b3,c3⟩ ⟨s4,b4,c4⟩).y.b),.val (.string (PtS.mk ⟨s3,b3,c3⟩ ⟨s4,b4,c4⟩).y.c),.rs 1 k (fun i=>[.rs 6 (pn c i) (pg c i)]),.rs 3 l (fun i=>cellsO (ow o i))])] [] 0 [],Wo trivial ⟨⟨rfl,rfl,rfl,rfl,rfl,rfl,rfl,rfl,rfl,rfl,rfl,rfl,⟨rfl,rfl,hc1⟩,⟨rfl,rfl,ho1⟩,trivial⟩,trivial⟩ trivial,?_⟩
  rw [←hlo'] at hlo hn hne ⊢
  rw [←hhi'] at hhi hn hne ⊢
  clear hlo' hhi' hm
  have hCL:isCL 10000 k (fun i=>[PV.rs 6 (pn c i) (pg c i)]):=⟨fun i hi=>⟨rfl,(hc i hi).2⟩,hk⟩
  have hOL:isOL l (fun i=>cellsO (ow o i)):=⟨fun i hi=>rfl,hl⟩
  have p93:(isG (fun _=>regC lo hi k (fun i=>[PV.rs 6 (pn c i) (pg c i)]) l (fun i=>cellsO (ow o i)))∧(lo.le 10000∧hi.le 10000)∧isCL 10000 k (fun i=>[PV.rs 6 (pn c i) (pg c i)])∧isOL l (fun i=>cellsO (ow o i)))∧(vertC lo hi k (fun i=>[PV.rs 6 (pn c i) (pg c i)]) l (fun i=>cellsO (ow o i))).length≤12:=⟨⟨rfl,⟨hlo,hhi⟩,hCL,hOL⟩,hn⟩
  have p92:isPL 4294967296 (vertC lo hi k (fun i=>[PV.rs 6 (pn c i) (pg c i)]) l (fun i=>cellsO (ow o i))).length (fun i=>(srtI (vertP (vertC lo hi k (fun i=>[PV.rs 6 (pn c i) (pg c i)]) l (fun i=>cellsO (ow o i)))) (vertC lo hi k (fun i=>[PV.rs 6 (pn c i) (pg c i)]) l (fun i=>cellsO (ow o i))).length i).cells)∧∀i,i+1 < (vertC lo hi k (fun i=>[PV.rs 6 (pn c i) (pg c i)]) l (fun i=>cellsO (ow o i))).length→eqP (pts (fun i=>(srtI (vertP (vertC lo hi k (fun i=>[PV.rs 6 (pn c i) (pg c i)]) l (fun i=>cellsO (ow o i)))) (vertC lo hi k (fun i=>[PV.rs 6 (pn c i) (pg c i)]) l (fun i=>cellsO (ow o i))).length i).cells) (i+1)) (pts (fun i=>(srtI (vertP (vertC lo hi k (fun i=>[PV.rs 6 (pn c i) (pg c i)]) l (fun i=>cellsO (ow o i)))) (vertC lo hi k (fun i=>[PV.rs 6 (pn c i) (pg c i)]) l (fun i=>cellsO (ow o i))).length i).cells) i)=false :=
   ⟨⟨fun i hi=>⟨rfl,(cornP_le hCL i hi).mono (by decide)⟩,Nat.le_trans hn (by decide)⟩,hne⟩
  have eg:(fun i=>(srtI (vertP (vertC lo hi k (fun i=>[PV.rs 6 (pn c i) (pg c i)]) l (fun i=>cellsO (ow o i)))) (vertC lo hi k (fun i=>[PV.rs 6 (pn c i) (pg c i)]) l (fun i=>cellsO (ow o i))).length i).cells)=(fun i=>(srtI (vertP (vertC lo hi k (fun i=>[PV.rs 6 (pn c i) (pg c i)]) l (fun i=>cellsO (ow o i)))) (vertC lo hi k (fun i=>[PV.rs 6 (pn c i) (pg c i)]) l (fun i=>cellsO (ow o i))).length (0+i)).cells):=funext fun i=>by rw [Nat.zero_add]
  have hrow:∀i,(cornP lo hi k c l o i).cells=(pts (fun i=>(srtI (vertP (vertC lo hi k (fun i=>[PV.rs 6 (pn c i) (pg c i)]) l (fun i=>cellsO (ow o i)))) (vertC lo hi k (fun i=>[PV.rs 6 (pn c i) (pg c i)]) l (fun i=>cellsO (ow o i))).length (0+i)).cells) i).cells:=fun i=>by
   rw [←eg]
   rfl
  rw [eg] at p92
  with_unfolding_all exact⟨⟨fun _ _=>rfl,fun _ _=>rfl⟩,p93,p92,[],stOf [(2,.rs 6 (vertC lo hi k c l o).length (fun i=>(cornP lo hi k c l o i).cells))] [] 0 [],Wo trivial ⟨⟨rfl,rfl,fun i _=>hrow i⟩,trivial⟩ trivial,rfl,rfl⟩
 ·cases e
end Go.Proofs
namespace Go.Num
open Go Go.Ex Go.Proofs
def isRg (K:Nat) (xs:List PV):Prop:=xs=regC (gLo xs) (gHi xs) (gK xs) (gC xs) (gL xs) (gO xs)∧((gLo xs).le K∧(gHi xs).le K)∧isCL K (gK xs) (gC xs)∧isOL (gL xs) (gO xs)
def tightE (k:Nat) (c:Nat→List PV) (g:Nat→PtS) (e o:Int):Bool:=decide (e < 2)||anyP (fun i=>tightP (pn c i) (pts (pg c i)) (g e.toNat) (g o.toNat)) k
end Go.Num
namespace Go.Proofs
open Go Go.Ex Go.Num
set_option maxRecDepth 100000
def c69:List PV→Option Ans
 |[.agg xs,.agg [.rs 6 n g,.rs 2 m h],.val (.int .i64 e),.val (.int .i64 o)]=>some ⟨some (isRg 10000 xs∧isPL 10000 n g∧(0≤e∧e < n)∧0≤o∧o < n),.val (.bool (tightE (gK xs) (gC xs) (pts g) e o)),[]⟩
 |_=>none
def D69:Opt:={ perm:=atTs [(3,(.rd 0 (.rd 1 (.rd 2 (.rd 3 (.rd 4 (.rd 5 (.rd 6 (.rd 7 (.rd 8 (.rd 9 (.alt 10 (.mk 11 .nil) (.mk 11 (.mk 10 .nil))))))))))))))] }
theorem ok69:funcOk D69.toOrd Tryz.f69 4=true:=by kernel_rfl
theorem f69:FnOk Tryz.prog 69 c69:=by
 refine FnOk.ofW orders (mkE_ok (l:=[(103,c103)]) (own:=[]) (inl:=[]) (by simp [f103]) (by simp)) Tryz.func69 D69 4 ok69 fun args r e=>?_
 unfold c69 at e
 split at e
 ·rename_i xs n g m h e o
  cases e
  refine⟨by simp,fun hm=>?_⟩
  obtain⟨⟨h1,⟨hlo,hhi⟩,hcl,hol⟩,hg,he,ho⟩:=hm _ rfl
  generalize gLo xs=lo at *
  generalize gHi xs=hi at *
  generalize gK xs=k at *
  generalize gC xs=c at *
  generalize gL xs=l at *
  generalize gO xs=w at *
  subst h1
  clear hm
  refine⟨[],stOf [(0,.agg (regC lo hi k c l w)),(1,.agg [.rs 6 n (fun i=>(pts g i).cells),.rs 2 m h]),(2,.val (.int .i64 e)),(3,.val (.int .i64 o))] [] 0 [],Wo trivial ⟨⟨rfl,rfl,rfl,rfl,rfl,rfl,rfl,rfl,rfl,rfl,rfl,rfl,⟨rfl,rfl,fun _ _=>rfl⟩,⟨rfl,rfl,fun _ _=>rfl⟩,trivial⟩,⟨⟨rfl,rfl,fun i hi=>(hg.1 i hi).1.symm⟩,⟨rfl,rfl,fun _ _=>rfl⟩,trivial⟩,rfl,rfl,trivial⟩ trivial,?_⟩
  obtain⟨X,hX⟩:∃X,X=tightE k c (pts g) e o:=⟨_,rfl⟩
  rw [←hX]
  have v1:decide (e < 2)=true→PV.val (.bool true)=PV.val (.bool X):=fun h=>by rw [hX,tightE,h];rfl
  have v2:decide (e < 2)=false→PV.val (.bool (anyP (fun i=>tightP (pn c i) (pts (pg c i)) (pts g e.toNat) (pts g o.toNat)) k))=PV.val (.bool X):=fun h=>by rw [hX,tightE,h];rfl
  have cg:∀i:Int,0≤i∧i < n→isC 10000 (pts g i.toNat).cells:=fun i h=>⟨rfl,(hg.1 i.toNat (by omega)).2⟩
  have pre:isCL 10000 k (fun i=>[.rs 6 (pn c i) (pg c i)])∧isC 10000 (pts g e.toNat).cells∧isC 10000 (pts g o.toNat).cells:=⟨⟨fun i hi=>⟨rfl,(hcl.1 i hi).2⟩,hcl.2⟩,cg e he,cg o ho⟩
  with_unfolding_all exact⟨fun h1=>⟨[],stOf [(8,.val (.bool X))] [] 0 [],Wo trivial ⟨v1 h1,trivial⟩ trivial,rfl,rfl⟩,fun h1=>⟨he,ho,⟨pre,[],stOf [(8,.val (.bool X))] [] 0 [],Wo trivial ⟨v2 h1,trivial⟩ trivial,rfl,rfl⟩,pre,[],stOf [(8,.val (.bool X))] [] 0 [],Wo trivial ⟨v2 h1,trivial⟩ trivial,rfl,rfl⟩⟩
 ·cases e
end Go.Proofs
namespace Go.Proofs
open Go Go.Ex Go.Num
set_option maxRecDepth 100000
def c21:List PV→Option Ans
 |[.agg xs,.val v,.val u]=>some ⟨some (isRg 10000 xs∧isPk 10000 v∧isPk 10000 u),.val (.tuple ⟨[.bool (seeB (gLo xs) (gHi xs) (gK xs) (gC xs) (gL xs) (gO xs) (rdV v) (rdV u)),.int .i64 (okW (okB (gLo xs) (gHi xs) (gK xs) (gC xs) (gL xs) (gO xs) (segV (rdV v) (rdV u))))]⟩),[]⟩
 |_=>none
theorem ok21:funcOk {} Tryz.f21 3=true:=by kernel_rfl
theorem f21:FnOk Tryz.prog 21 c21:=by
 refine FnOk.ofW orders (mkE_ok (l:=[(55,c55),(56,c56)]) (own:=[]) (inl:=[]) (by simp [f55,f56]) (by simp)) Tryz.func21 {} 3 ok21 fun args r e=>?_
 unfold c21 at e
 split at e
 ·rename_i xs v u
  cases e
  refine⟨by simp,fun hm=>?_⟩
  obtain⟨⟨h1,⟨hlo,hhi⟩,hcl,hol⟩,⟨a,rfl,ha⟩,b,rfl,hb⟩:=hm _ rfl
  generalize gLo xs=lo at *
  generalize gHi xs=hi at *
  generalize gK xs=k at *
  generalize gC xs=c at *
  generalize gL xs=l at *
  generalize gO xs=o at *
  subst h1
  clear hm
  refine⟨[],stOf [(0,.agg (regC lo hi k c l o)),(1,.val a.v),(2,.val b.v)] [] 0 [],Wo trivial ⟨⟨rfl,rfl,rfl,rfl,rfl,rfl,rfl,rfl,rfl,rfl,rfl,rfl,⟨rfl,rfl,fun _ _=>rfl⟩,⟨rfl,rfl,fun _ _=>rfl⟩,trivial⟩,rfl,rfl,trivial⟩ trivial,?_⟩
  have hrg:((lo.le 4294967296∧hi.le 4294967296)∧isCL 10000 k c∧isOL l o):=⟨⟨hlo.mono (by decide),hhi.mono (by decide)⟩,hcl,hol⟩
  have hrg2:((lo.le 10000∧hi.le 10000)∧isCL 10000 k c∧isOL l o):=⟨⟨hlo,hhi⟩,hcl,hol⟩
  have ha':=ha.mono (show 10000≤4294967296 by decide)
  have hb':=hb.mono (show 10000≤4294967296 by decide)
  obtain⟨S,hS⟩:∃S,S=seeB lo hi k c l o a b:=⟨_,rfl⟩
  have hv:seeB lo hi k c l o (rdV a.v) (rdV b.v)=S:=hS.symm
  rw [hv]
  obtain⟨OK,hOK⟩:∃OK,OK=okB lo hi k c l o (segV a b):=⟨_,rfl⟩
  have hw:okB lo hi k c l o (segV (rdV a.v) (rdV b.v))=OK:=hOK.symm
  rw [hw]
  have cn:∀r:Nat→List PV,pts r 0=a→pts r 1=b→anyP (fun i=>!canonP (pts r i)) 2=(!canonP a||!canonP b):=fun r h h'=>by
   have e:List.range 2=[0,1]:=rfl
   simp only [anyP,e,List.any_cons,List.any_nil,Bool.or_false,h,h']
  have p2:∀r:Nat→List PV,r 0=a.cells→r 1=b.cells→isPL 4294967296 2 r:=fun r h h'=>⟨fun i hi=>by
   match i,hi with
   |0,_=>exact⟨by rw [pts,h];rfl,by rw [pts,h];exact ha'⟩
   |1,_=>exact⟨by rw [pts,h'];rfl,by rw [pts,h'];exact hb'⟩
   |i+2,h=>omega,by decide⟩
  have q1:∀r:Nat→List PV,pts r 0=a→pts r 1=b→((regE lo hi k (pn (fun i=>[.rs 6 (pn c i) (pg c i)])) (fun i=>pts (pg (fun i=>[.rs 6 (pn c i) (pg c i)]) i)) l (ow (fun i=>cellsO (ow o i)))==0)&&!anyP (fun i=>!canonP (pts r i)) 2)=OK:=fun r h h'=>by
   rw [cn r h h',hOK,Bool.and_comm]
   rfl
  have z:∀B:Bool,(okW B != 0)=true→B=false:=fun B h=>by cases B<;>first|rfl|cases h
  have z':∀B:Bool,(okW B != 0)=false→B=true:=fun B h=>by cases B<;>first|rfl|cases h
  have s0:OK=false→S=false:=fun h=>by
   rw [hS,seeB,←hOK,h]
   rfl
  have hrg':((lo.le 4294967296∧hi.le 4294967296)∧isCL 10000 k (fun i=>[.rs 6 (pn c i) (pg c i)])∧isOL l (fun i=>cellsO (ow o i))):=⟨hrg.1,⟨fun i hi=>⟨rfl,(hcl.1 i hi).2⟩,hcl.2⟩,fun _ _=>rfl,hol.2⟩
  have hrg3:((lo.le 10000∧hi.le 10000)∧isCL 10000 k (fun i=>[.rs 6 (pn c i) (pg c i)])∧isOL l (fun i=>cellsO (ow o i))):=⟨hrg2.1,hrg'.2⟩
  have v5:PV.val (.bool (seeB lo hi k (fun i=>[.rs 6 (pn c i) (pg c i)]) l (fun i=>cellsO (ow o i)) (rdV a.v) (rdV b.v)))=PV.val (.bool S):=by
   rw [hS]
   rfl
  with_unfolding_all refine⟨⟨hrg',p2 _ rfl rfl⟩,fun h1=>?_,fun h1=>?_⟩
  ·have h2:OK=false:=(q1 _ rfl rfl).symm.trans (z _ h1)
   have v1:PV.val (.bool false)=PV.val (.bool S):=by rw [s0 h2]
   have v2:∀B,B=OK→PV.val (.int .i64 (okW B))=PV.val (.int .i64 (okW OK)):=fun B h=>by rw [h]
   with_unfolding_all exact⟨[],stOf [(6,.val (.bool S)),(7,.val (.int .i64 (okW OK)))] [] 0 [],Wo trivial ⟨v1,v2 _ (q1 _ rfl rfl),trivial⟩ trivial,rfl,rfl⟩
  ·have h2:OK=true:=(q1 _ rfl rfl).symm.trans (z' _ h1)
   have v3:PV.val (.int .i64 0)=PV.val (.int .i64 (okW OK)):=by rw [h2];rfl
   with_unfolding_all exact⟨⟨hrg3,⟨a,rfl,ha⟩,b,rfl,hb⟩,[],stOf [(6,.val (.bool S)),(7,.val (.int .i64 (okW OK)))] [] 0 [],Wo trivial ⟨v5,v3,trivial⟩ trivial,rfl,rfl⟩
 ·cases e
end Go.Proofs
namespace Go.Num
open Go Go.Ex Go.Proofs
def qL (L:List (Int×Int)) (i:Nat):Int×Int:=(L[i]?).getD (0,0)
theorem apd_q {L:List (Int×Int)} {x:Int×Int} {r:Nat→List PV} (h:r 0=cellsQ x):∀i,i < L.length+1→cellsQ (qL (L++[x]) i)=apd L.length (fun i=>cellsQ (qL L i)) r i:=fun i hi=>by
 unfold apd qL
 by_cases hl:i < L.length
 ·rw [if_pos hl,List.getElem?_append_left hl]
 ·obtain rfl:i=L.length:=by omega
  rw [if_neg hl,Nat.sub_self,h]
  simp
def tgtL (T:Int→Int→Bool) (q:Nat→Int×Int):Nat→List (Int×Int)
 |0=>[]
 |j+1=>tgtL T q j++(bif T (q j).1 (q j).2&&T (q j).2 (q j).1 then [q j] else [])
theorem tgtL_le (T:Int→Int→Bool) (q:Nat→Int×Int):∀j,(tgtL T q j).length≤j
 |0=>Nat.le_refl _
 |j+1=>by
  have:=tgtL_le T q j
  unfold tgtL
  rw [List.length_append]
  cases (T (q j).1 (q j).2&&T (q j).2 (q j).1)<;>simp<;>omega
def okT (lo hi:PtS) (k:Nat) (c:Nat→List PV) (l:Nat) (o:Nat→List PV) (n:Nat) (g:Nat→List PV) (m:Nat) (h:Nat→List PV):Bool:=(regE lo hi k (pn c) (fun i=>pts (pg c i)) l (ow o)==0)&&okMap n (pts g) m (prs h)
def tgtR (lo hi:PtS) (k:Nat) (c:Nat→List PV) (l:Nat) (o:Nat→List PV) (n:Nat) (g:Nat→List PV) (m:Nat) (h:Nat→List PV):List (Int×Int):=bif okT lo hi k c l o n g m h then tgtL (tightE k c (pts g)) (prs h) m else []
theorem links_at {n m:Nat} {q:Nat→Int×Int} (h:okLinks n q m=true) {i:Nat} (hi:i < m):0≤(q i).1∧(q i).1 < (q i).2∧(q i).2 < (n:Int)∧(0 < i→lessQ (q (i - 1)) (q i)=true):=by
 unfold okLinks at h
 have h0:anyP (badL n q) m=false:=by simpa using h
 have h1:=(anyP_false.1 h0) i hi
 unfold badL at h1
 simp only [Bool.or_eq_false_iff,decide_eq_false_iff_not,Bool.and_eq_false_iff,Bool.not_eq_false'] at h1
 exact⟨by omega,by omega,by omega,fun hi=>by
  rcases h1.2 with h|h
  ·omega
  ·exact h⟩
theorem links_le {n m:Nat} {q:Nat→Int×Int} (h:okLinks n q m=true):m≤n*n:=by
 have key:∀i,i < m→(i:Int)≤(q i).1*n+(q i).2:=fun i=>by
  induction i with
  |zero =>
   intro hi
   have:=links_at h hi
   have h2:=Int.mul_nonneg this.1 (Int.natCast_nonneg n)
   omega
  |succ i ih =>
   intro hi
   have h1:=links_at h hi
   have h2:=links_at h (show i < m by omega)
   have h3:=ih (by omega)
   have h4:=h1.2.2.2 (by omega)
   rw [Nat.add_sub_cancel] at h4
   unfold lessQ at h4
   simp only [Bool.or_eq_true,Bool.and_eq_true,decide_eq_true_eq] at h4
   rcases h4 with h4|⟨h4,h5⟩
   ·have h6:=Int.mul_le_mul_of_nonneg_right (show(q i).1+1≤(q (i+1)).1 by omega) (Int.natCast_nonneg n)
    rw [Int.add_mul,Int.one_mul] at h6
    omega
   ·rw [←h4]
    omega
 rcases Nat.eq_zero_or_pos m with h0|h0
 ·omega
 ·have h1:=links_at h (show m - 1 < m by omega)
  have h2:=key (m - 1) (by omega)
  have h3:=Int.mul_le_mul_of_nonneg_right (show(q (m - 1)).1≤(n:Int) - 1 by omega) (Int.natCast_nonneg n)
  rw [Int.sub_mul,Int.one_mul] at h3
  have h4:(m:Int)≤(n:Int)*n:=by omega
  exact_mod_cast h4
end Go.Num
namespace Go.Proofs
open Go Go.Ex Go.Num
set_option maxRecDepth 100000
theorem nil_ans {f:FuncId} {p:PV} {r:Ans} (h:Answers Tryz.prog f [p,.rs 6 0 fun _=>[]] r):Answers Tryz.prog f [p,.val (.slice none 0 0)] r:=by
 refine⟨h.1,fun hm A w vs hA hl hR=>h.2 hm A w vs hA hl fun i q v e1 e2=>?_⟩
 match i with
 |0=>exact hR 0 q v e1 e2
 |1 =>
  cases e1
  have:=hR 1 _ v rfl e2
  cases this
  exact .rs _ _ _ _ _ (fun _ _=>undef) (fun i hi=>absurd hi (Nat.not_lt_zero i)) (Nat.le_refl _) (Nat.zero_le _) (fun i f p hi=>absurd hi (Nat.not_lt_zero i)) (fun i f p hi=>absurd hi (Nat.not_lt_zero i))
 |i+2=>simp at e1
def c55n:List PV→Option Ans
 |[p,.val (.slice none 0 0)]=>c55 [p,.rs 6 0 fun _=>[]]
 |_=>none
theorem f55n:FnOk Tryz.prog 55 c55n:=fun args r e=>by
 unfold c55n at e
 split at e
 ·exact nil_ans (f55 _ r e)
 ·cases e
def c18:List PV→Option Ans
 |[.agg xs,.agg [.rs 6 n g,.rs 2 m h]]=>some ⟨some (isRg 10000 xs∧isPL 10000 n g∧isQL m h),.tup [.rs 2 (tgtR (gLo xs) (gHi xs) (gK xs) (gC xs) (gL xs) (gO xs) n g m h).length (fun i=>cellsQ (qL (tgtR (gLo xs) (gHi xs) (gK xs) (gC xs) (gL xs) (gO xs) n g m h) i)),.val (.int .i64 (okW (okT (gLo xs) (gHi xs) (gK xs) (gC xs) (gL xs) (gO xs) n g m h)))],[]⟩
 |_=>none
theorem ok18:funcOk {} Tryz.f18 2=true:=by kernel_rfl
theorem f18:FnOk Tryz.prog 18 c18:=by
 refine FnOk.ofW orders (mkE_ok (l:=[(55,c55n),(68,c68),(69,c69)]) (own:=[]) (inl:=[]) (by simp [f55n,f68,f69]) (by simp)) Tryz.func18 {} 2 ok18 fun args r e=>?_
 unfold c18 at e
 split at e
 ·rename_i xs n g m h
  cases e
  refine⟨by simp,fun hm=>?_⟩
  obtain⟨⟨h1,⟨hlo,hhi⟩,hcl,hol⟩,hg,hq⟩:=hm _ rfl
  generalize gLo xs=lo at *
  generalize gHi xs=hi at *
  generalize gK xs=k at *
  generalize gC xs=c at *
  generalize gL xs=l at *
  generalize gO xs=o at *
  subst h1
  clear hm
  refine⟨[],stOf [(0,.agg (regC lo hi k c l o)),(1,.agg [.rs 6 n g,.rs 2 m (fun i=>cellsQ (prs h i))])] [] 0 [],Wo trivial ⟨⟨rfl,rfl,rfl,rfl,rfl,rfl,rfl,rfl,rfl,rfl,rfl,rfl,⟨rfl,rfl,fun _ _=>rfl⟩,⟨rfl,rfl,fun _ _=>rfl⟩,trivial⟩,⟨⟨rfl,rfl,fun _ _=>rfl⟩,⟨rfl,rfl,fun i hi=>(hq.1 i hi).symm⟩,trivial⟩,trivial⟩ trivial,?_⟩
  have hrg:((lo.le 4294967296∧hi.le 4294967296)∧isCL 10000 k c∧isOL l o):=⟨⟨hlo.mono (by decide),hhi.mono (by decide)⟩,hcl,hol⟩
  have hg':isPL 4294967296 n g:=⟨fun i hi=>⟨(hg.1 i hi).1,(hg.1 i hi).2.mono (by decide)⟩,hg.2⟩
  have hqm:=hq.2
  generalize hqq:prs h=q at *
  have hql:isQL m (fun i=>cellsQ (q i)):=⟨fun _ _=>rfl,hqm⟩
  obtain⟨T,hT⟩:∃T,T=tightE k c (pts g):=⟨_,rfl⟩
  obtain⟨OK,hOK⟩:∃OK,OK=okT lo hi k c l o n g m h:=⟨_,rfl⟩
  obtain⟨TR,hTR⟩:∃TR,TR=tgtR lo hi k c l o n g m h:=⟨_,rfl⟩
  rw [←hTR,←hOK]
  have e1:TR=bif OK then tgtL T q m else []:=by rw [hTR,tgtR,←hOK,←hT,hqq]
  have e2:OK=((regE lo hi k (pn c) (fun i=>pts (pg c i)) l (ow o)==0)&&okMap n (pts g) m q):=by rw [hOK,okT,hqq]
  have b0:OK=false→TR.length=0:=fun h=>by rw [e1,h];rfl
  have b1:OK=false→PV.val (.int .i64 1)=PV.val (.int .i64 (okW OK)):=fun h=>by rw [h];rfl
  have q1:((regE lo hi k (pn (fun i=>[.rs 6 (pn c i) (pg c i)])) (fun i=>pts (pg (fun i=>[.rs 6 (pn c i) (pg c i)]) i)) l (ow (fun i=>cellsO (ow o i)))==0)&&!anyP (fun i=>!canonP (pts (fun _=>[]) i)) 0)=(regE lo hi k (pn c) (fun i=>pts (pg c i)) l (ow o)==0):=Bool.and_true _
  have z:∀B:Bool,(okW B != 0)=true→B=false:=fun B h=>by cases B<;>first|rfl|cases h
  have z':∀B:Bool,(okW B != 0)=false→B=true:=fun B h=>by cases B<;>first|rfl|cases h
  have f1:(okW ((regE lo hi k (pn (fun i=>[.rs 6 (pn c i) (pg c i)])) (fun i=>pts (pg (fun i=>[.rs 6 (pn c i) (pg c i)]) i)) l (ow (fun i=>cellsO (ow o i)))==0)&&!anyP (fun i=>!canonP (pts (fun _=>[]) i)) 0) != 0)=true→OK=false:=fun h=>by
   have:=q1.symm.trans (z _ h)
   rw [e2,this]
   rfl
  have f2:(!okMap n (pts g) m (prs fun i=>cellsQ (q i)))=true→OK=false:=fun h=>by
   have h:okMap n (pts g) m q=false:=by
    have h:(!okMap n (pts g) m q)=true:=h
    simpa using h
   rw [e2,h,Bool.and_false]
  have f3:(okW ((regE lo hi k (pn (fun i=>[.rs 6 (pn c i) (pg c i)])) (fun i=>pts (pg (fun i=>[.rs 6 (pn c i) (pg c i)]) i)) l (ow (fun i=>cellsO (ow o i)))==0)&&!anyP (fun i=>!canonP (pts (fun _=>[]) i)) 0) != 0)=false→(!okMap n (pts g) m (prs fun i=>cellsQ (q i)))=false→OK=true∧okMap n (pts g) m q=true:=fun h h'=>by
   have h1:=q1.symm.trans (z' _ h)
   have h2:okMap n (pts g) m q=true:=by
    have h:(!okMap n (pts g) m q)=false:=h'
    simpa using h
   exact⟨by rw [e2,h1,h2];rfl,h2⟩
  have hcl':isCL 10000 k (fun i=>[.rs 6 (pn c i) (pg c i)]):=⟨fun i hi=>⟨rfl,(hcl.1 i hi).2⟩,hcl.2⟩
  have hol':isOL l (fun i=>cellsO (ow o i)):=⟨fun _ _=>rfl,hol.2⟩
  have hrg':((lo.le 4294967296∧hi.le 4294967296)∧isCL 10000 k (fun i=>[.rs 6 (pn c i) (pg c i)])∧isOL l (fun i=>cellsO (ow o i))):=⟨hrg.1,hcl',hol'⟩
  have p0:isPL 4294967296 0 fun _=>[]:=⟨fun i hi=>absurd hi (Nat.not_lt_zero i),Nat.zero_le _⟩
  with_unfolding_all refine⟨⟨hrg',p0⟩,fun h1=>⟨⟨hg',hql⟩,fun h2=>⟨[],stOf [(4,.rs 2 TR.length (fun i=>cellsQ (qL TR i))),(5,.val (.int .i64 (okW OK)))] [] 0 [],Wo trivial ⟨⟨rfl,b0 (f2 h2)⟩,b1 (f2 h2),trivial⟩ trivial,rfl,rfl⟩,fun h2=>⟨Nat,fun i=>(OK=true∧okMap n (pts g) m q=true)∧i≤m,fun i=>stOf [(2,.ptr 0 0 0 0),(3,.ptr 1 1 0 0),(6,.sl 2 2 0 (tgtL T q i).length),(18,.rs 2 m (fun i=>cellsQ (q i))),(19,.val (goInt m)),(20,.val (goInt i))] [⟨31,14,0,true,false,1,fun _=>regC lo hi k c l o⟩,⟨37,2,1,true,false,1,fun _=>[.rs 6 n g,.rs 2 m (fun i=>cellsQ (q i))]⟩,⟨46,2,2,false,false,(tgtL T q i).length,fun j=>cellsQ (qL (tgtL T q i) j)⟩] 3 [],fun i=>m - i,⟨0,[some 0,some 1,none],⟨f3 h1 h2,Nat.zero_le _⟩,Wo ⟨⟨lt_ok rfl,rfl,rfl,rfl,rfl,rfl,rq,rq,rq,rq,rq,rq,rq,rq,rq,rq,rq,rq,⟨⟨rfl,rfl,fun _ _=>rfl⟩,rfl⟩,⟨⟨rfl,rfl,fun _ _=>rfl⟩,rfl⟩,trivial⟩,⟨lt_ok rfl,rfl,rfl,rfl,rfl,rfl,⟨⟨rfl,rfl,fun _ _=>rfl⟩,rfl⟩,⟨⟨rfl,rfl,fun _ _=>rfl⟩,rfl⟩,trivial⟩,⟨lt_ok rfl,rfl,rfl,rfl⟩,trivial⟩ ⟨pP,pP,⟨rfl,rfl,rfl,rfl,lt_ok rfl⟩,⟨rfl,rfl,fun _ _=>rfl⟩,rfl,rfl,trivial⟩ trivial⟩,fun i hi=>?_⟩⟩,fun h1=>⟨fun _=>⟨[],stOf [(4,.rs 2 TR.length (fun i=>cellsQ (qL TR i))),(5,.val (.int .i64 (okW OK)))] [] 0 [],Wo trivial ⟨⟨rfl,b0 (f1 h1)⟩,b1 (f1 h1),trivial⟩ trivial,rfl,rfl⟩,fun h=>nomatch h⟩⟩
  obtain⟨⟨hk1,hk2⟩,him⟩:(OK=true∧okMap n (pts g) m q=true)∧i≤m:=hi
  with_unfolding_all refine⟨fun h1=>?_,fun h1=>?_⟩
  ·have h1:(i:Int) < m:=ltT h1
   have ei:(i:Int).toNat=i:=Int.toNat_natCast i
   have him:i+1≤m:=by omega
   have hμ : m - (i+1) < m - i:=by omega
   have hok:=hk2
   unfold okMap at hok
   rw [Bool.and_eq_true,Bool.and_eq_true] at hok
   have hn1:n≤1000:=of_decide_eq_true hok.1.1
   have hmm:=links_le hok.2
   have hnn:n*n≤1000*1000:=Nat.mul_le_mul hn1 hn1
   have hl:=links_at hok.2 (show i < m by omega)
   have hl1:0≤(q (i:Int).toNat).1∧(q (i:Int).toNat).1 < n:=by rw [ei];omega
   have hl2:0≤(q (i:Int).toNat).2∧(q (i:Int).toNat).2 < n:=by rw [ei];omega
   have htl:=tgtL_le T q i
   have wi:PV.val (.int .i64 (IntKind.i64.wrap ((i:Int)+1)))=PV.val (.int .i64 ((i+1:Nat):Int)):=by
    rw [wrap64 (by omega) (by omega)]
    rfl
   have pR:isRg 10000 (regC lo hi k c l o):=⟨rfl,⟨hlo,hhi⟩,hcl',hol'⟩
   have hT':∀x y,tightE k c (pts g) x y=T x y:=fun x y=>by rw [hT]
   have tt:∀x y b,tightE k (fun i=>[.rs 6 (pn c i) (pg c i)]) (pts g) x y=b→T x y=b:=fun x y b h=>(hT' x y).symm.trans h
   have e3:T (q i).1 (q i).2=true→T (q i).2 (q i).1=true→tgtL T q (i+1)=tgtL T q i++[q i]:=fun h h'=>by rw [tgtL,h,h'];rfl
   have e4:(T (q i).1 (q i).2&&T (q i).2 (q i).1)=false→tgtL T q (i+1)=tgtL T q i:=fun h=>by rw [tgtL,h];exact List.append_nil _
   have hn0:(T (q (i:Int).toNat).1 (q (i:Int).toNat).2&&T (q (i:Int).toNat).2 (q (i:Int).toNat).1)=false→(tgtL T q (i+1)).length=(tgtL T q i).length:=fun h=>by
    rw [ei] at h
    rw [e4 h]
   have hr0:(T (q (i:Int).toNat).1 (q (i:Int).toNat).2&&T (q (i:Int).toNat).2 (q (i:Int).toNat).1)=false→∀j,j < (tgtL T q i).length→cellsQ (qL (tgtL T q (i+1)) j)=cellsQ (qL (tgtL T q i) j):=fun h=>by
    rw [ei] at h
    rw [e4 h]
    exact fun _ _=>rfl
   have hnA:T (q (i:Int).toNat).1 (q (i:Int).toNat).2=true→T (q (i:Int).toNat).2 (q (i:Int).toNat).1=true→(tgtL T q (i+1)).length=(tgtL T q i).length+1:=fun h h'=>by
    rw [ei] at h h'
    rw [e3 h h',List.length_append]
    rfl
   have hr1:T (q (i:Int).toNat).1 (q (i:Int).toNat).2=true→T (q (i:Int).toNat).2 (q (i:Int).toNat).1=true→∀r:Nat→List PV,r 0=cellsQ (q (i:Int).toNat)→∀j,j < (tgtL T q i).length+1→cellsQ (qL (tgtL T q (i+1)) j)=apd (tgtL T q i).length (fun j=>cellsQ (qL (tgtL T q i) j)) r j:=fun h h' r hr=>by
    rw [ei] at h h' hr
    rw [e3 h h']
    exact apd_q hr
   have k1:((tgtL T q i).length+1)*16≤140737488355328:=by omega
   have k2:(tgtL T q i).length+1≤9223372036854775807:=by omega
   have n1:∀x y:Bool,y=false→(x&&y)=false:=fun x y h=>by rw [h,Bool.and_false]
   have n2:∀x y:Bool,x=false→(x&&y)=false:=fun x y h=>by rw [h];rfl
   with_unfolding_all exact⟨⟨Int.natCast_nonneg i,h1⟩,⟨pR,hg,hl1,hl2⟩,fun h2=>⟨⟨pR,hg,hl2,hl1⟩,fun h3=>⟨⟨rfl,k1,k2⟩,⟨i+1,[some 0,some 1,some 2],⟨⟨hk1,hk2⟩,him⟩,hμ,Wo ⟨⟨lt_ok rfl,rfl,rfl,rfl,rfl,rfl,rq,rq,rq,rq,rq,rq,rq,rq,rq,rq,rq,rq,⟨⟨rfl,rfl,fun _ _=>rfl⟩,rfl⟩,⟨⟨rfl,rfl,fun _ _=>rfl⟩,rfl⟩,trivial⟩,⟨lt_ok rfl,rfl,rfl,rfl,rfl,rfl,⟨⟨rfl,rfl,fun _ _=>rfl⟩,rfl⟩,⟨⟨rfl,rfl,fun _ _=>rfl⟩,rfl⟩,trivial⟩,⟨lt_ok rfl,rfl,rfl,rfl,rfl,(hnA (tt _ _ _ h2) (tt _ _ _ h3)),hr1 (tt _ _ _ h2) (tt _ _ _ h3) _ rfl⟩,trivial⟩ ⟨pP,pP,⟨rfl,rfl,(hnA (tt _ _ _ h2) (tt _ _ _ h3)).symm,lt_ok rfl,_,rfl⟩,⟨rfl,rfl,fun _ _=>rfl⟩,rfl,wi,trivial⟩ trivial⟩⟩,fun h3=>⟨i+1,[some 0,some 1,some 2],⟨⟨hk1,hk2⟩,him⟩,hμ,Wo ⟨⟨lt_ok rfl,rfl,rfl,rfl,rfl,rfl,rq,rq,rq,rq,rq,rq,rq,rq,rq,rq,rq,rq,⟨⟨rfl,rfl,fun _ _=>rfl⟩,rfl⟩,⟨⟨rfl,rfl,fun _ _=>rfl⟩,rfl⟩,trivial⟩,⟨lt_ok rfl,rfl,rfl,rfl,rfl,rfl,⟨⟨rfl,rfl,fun _ _=>rfl⟩,rfl⟩,⟨⟨rfl,rfl,fun _ _=>rfl⟩,rfl⟩,trivial⟩,⟨lt_ok rfl,rfl,rfl,rfl,rfl,(hn0 (n1 _ _ (tt _ _ _ h3))),hr0 (n1 _ _ (tt _ _ _ h3))⟩,trivial⟩ ⟨pP,pP,⟨rfl,rfl,(hn0 (n1 _ _ (tt _ _ _ h3))).symm,lt_ok rfl,_,rfl⟩,⟨rfl,rfl,fun _ _=>rfl⟩,rfl,wi,trivial⟩ trivial⟩⟩,fun h2=>⟨fun h=>(nomatch h),fun _=>⟨i+1,[some 0,some 1,some 2],⟨⟨hk1,hk2⟩,him⟩,hμ,Wo ⟨⟨lt_ok rfl,rfl,rfl,rfl,rfl,rfl,rq,rq,rq,rq,rq,rq,rq,rq,rq,rq,rq,rq,⟨⟨rfl,rfl,fun _ _=>rfl⟩,rfl⟩,⟨⟨rfl,rfl,fun _ _=>rfl⟩,rfl⟩,trivial⟩,⟨lt_ok rfl,rfl,rfl,rfl,rfl,rfl,⟨⟨rfl,rfl,fun _ _=>rfl⟩,rfl⟩,⟨⟨rfl,rfl,fun _ _=>rfl⟩,rfl⟩,trivial⟩,⟨lt_ok rfl,rfl,rfl,rfl,rfl,(hn0 (n2 _ _ (tt _ _ _ h2))),hr0 (n2 _ _ (tt _ _ _ h2))⟩,trivial⟩ ⟨pP,pP,⟨rfl,rfl,(hn0 (n2 _ _ (tt _ _ _ h2))).symm,lt_ok rfl,_,rfl⟩,⟨rfl,rfl,fun _ _=>rfl⟩,rfl,wi,trivial⟩ trivial⟩⟩⟩
  ·have h1:(m:Int)≤i:=ltF h1
   have h3:tgtL T q i=TR:=by
    rw [show i=m by omega,e1,hk1]
    rfl
   have v2:PV.val (.int .i64 0)=PV.val (.int .i64 (okW OK)):=by rw [hk1];rfl
   have v3:∀j,j < TR.length→cellsQ (qL TR j)=cellsQ (qL (tgtL T q i) (0+j)):=fun j _=>by rw [h3,Nat.zero_add]
   with_unfolding_all exact⟨[],stOf [(4,.rs 2 TR.length (fun i=>cellsQ (qL TR i))),(5,.val (.int .i64 (okW OK)))] [] 0 [],Wo trivial ⟨⟨by simp,_,rfl,rfl,rfl,congrArg List.length h3,v3⟩,v2,trivial⟩ trivial,rfl,rfl⟩
 ·cases e
end Go.Proofs
namespace Go.Proofs
open Go Go.Ex
def ren189:Shelf.Ren where
 f:=fun x=>match x with
  |189=>81
  |125=>121
  |257=>120
  |128=>165
  |129=>166
  |294=>157
  |295=>158
  |296=>159
  |297=>160
  |298=>161
  |299=>162
  |216=>85
  |300=>163
  |301=>164
  |328=>201
  |329=>202
  |330=>203
  |331=>204
  |332=>205
  |215=>123
  |343=>240
  |n=>n
 t:=fun x=>match x with
  |28=>73
  |46=>140
  |51=>139
  |53=>137
  |183=>182
  |182=>181
  |131=>125
  |218=>216
  |222=>220
  |228=>239
  |229=>240
  |n=>n
 g:=fun n=>n
theorem lays189:Lays.n189 Tryz.prog ren189 :=
 { mixed:=orders,f125:=Eq.trans Tryz.func121 (congrArg some (by kernel_rfl)),f128:=Eq.trans Tryz.func165 (congrArg some (by kernel_rfl)),f129:=Eq.trans Tryz.func166 (congrArg some (by kernel_rfl)),f189:=Eq.trans Tryz.func81 (congrArg some (by kernel_rfl)),f215:=Eq.trans Tryz.func123 (congrArg some (by kernel_rfl)),f216:=Eq.trans Tryz.func85 (congrArg some (by kernel_rfl)),f257:=Eq.trans Tryz.func120 (congrArg some (by kernel_rfl)),f294:=Eq.trans Tryz.func157 (congrArg some (by kernel_rfl)),f295:=Eq.trans Tryz.func158 (congrArg some (by kernel_rfl)),f296:=Eq.trans Tryz.func159 (congrArg some (by kernel_rfl)),f297:=Eq.trans Tryz.func160 (congrArg some (by kernel_rfl)),f298:=Eq.trans Tryz.func161 (congrArg some (by kernel_rfl)),f299:=Eq.trans Tryz.func162 (congrArg some (by kernel_rfl)),f300:=Eq.trans Tryz.func163 (congrArg some (by kernel_rfl)),f301:=Eq.trans Tryz.func164 (congrArg some (by kernel_rfl)),f328:=Eq.trans Tryz.func201 (congrArg some (by kernel_rfl)),f329:=Eq.trans Tryz.func202 (congrArg some (by kernel_rfl)),f330:=Eq.trans Tryz.func203 (congrArg some (by kernel_rfl)),f331:=Eq.trans Tryz.func204 (congrArg some (by kernel_rfl)),f332:=Eq.trans Tryz.func205 (congrArg some (by kernel_rfl)),f343:=Eq.trans Tryz.func240 (congrArg some (by kernel_rfl)),t0:=Tryz.underlying0,a0:=Tryz.isAgg0,z0:=Tryz.sizeOf0,v0:=Tryz.zeroValue0,t3:=Tryz.underlying3,a3:=Tryz.isAgg3,z3:=Tryz.sizeOf3,v3:=Tryz.zeroValue3,t4:=Tryz.underlying4,a4:=Tryz.isAgg4,z4:=Tryz.sizeOf4,v4:=Tryz.zeroValue4,t5:=Tryz.underlying5,a5:=Tryz.isAgg5,z5:=Tryz.sizeOf5,v5:=Tryz.zeroValue5,t9:=Tryz.underlying9,a9:=Tryz.isAgg9,z9:=Tryz.sizeOf9,v9:=Tryz.zeroValue9,t28:=Tryz.underlying73,a28:=Tryz.isAgg73,z28:=Tryz.sizeOf73,v28:=Tryz.zeroValue73,t46:=Tryz.underlying140,a46:=Tryz.isAgg140,z46:=Tryz.sizeOf140,v46:=Tryz.zeroValue140,t51:=Tryz.underlying139,a51:=Tryz.isAgg139,z51:=Tryz.sizeOf139,v51:=Tryz.zeroValue139,t53:=Tryz.underlying137,a53:=Tryz.isAgg137,z53:=Tryz.sizeOf137,v53:=Tryz.zeroValue137,t131:=Tryz.underlying125,a131:=Tryz.isAgg125,z131:=Tryz.sizeOf125,v131:=Tryz.zeroValue125,t182:=Tryz.underlying181,a182:=Tryz.isAgg181,z182:=Tryz.sizeOf181,v182:=Tryz.zeroValue181,t183:=Tryz.underlying182,a183:=Tryz.isAgg182,z183:=Tryz.sizeOf182,v183:=Tryz.zeroValue182,t218:=Tryz.underlying216,a218:=Tryz.isAgg216,z218:=Tryz.sizeOf216,v218:=Tryz.zeroValue216,t222:=Tryz.underlying220,a222:=Tryz.isAgg220,z222:=Tryz.sizeOf220,v222:=Tryz.zeroValue220,t228:=Tryz.underlying239,a228:=Tryz.isAgg239,z228:=Tryz.sizeOf239,v228:=Tryz.zeroValue239,t229:=Tryz.underlying240,a229:=Tryz.isAgg240,z229:=Tryz.sizeOf240,v229:=Tryz.zeroValue240 }
end Go.Proofs
namespace Go.Ex
open Go Go.RowKit Go.Proofs Go.Sort
def srtZ (n:Nat) (z:Nat→Int):List Int:=((List.range n).map z).mergeSort fun x y=>decide (x≤y)
theorem srtZ_length (n:Nat) (z:Nat→Int):(srtZ n z).length=n:=by
 unfold srtZ
 rw [List.length_mergeSort]
 simp
def T81:Trans:=fun args s K=>match args with
 |[.sl id st 0 n]=>match blk s.H id st with
  |some ⟨ty,es,st',box,arr,m,get⟩=>(es=1∧box=false∧n=m∧n≤1000000)∧∃z:Nat→Int,(∀i,i < n→get i=[.val (.int .i64 (z i))])∧(n=0→K (.val (.tuple ⟨[]⟩)) s) ∧
    (0 < n→match s with
     |⟨fr,H,nx,sv⟩=>K (.val (.tuple ⟨[]⟩)) ⟨fr,H.set id ⟨ty,es,st',box,arr,m,fun i=>[.val (.int .i64 ((srtZ n z).getD i 0))]⟩,nx,sv⟩)
  |none=>False
 |_=>False
theorem ok81:funcOk ({}:Opt).toOrd Tryz.f81 1=true:=by kernel_rfl
theorem t81:TransOk Tryz.prog 81 T81:=by
 refine⟨fun vs w=>?_,fun Z G n A a w s args vs K hZ hS e=>?_⟩
 ·obtain⟨⟨c,hb,h1⟩,h2,h3,h4⟩:=funcOk_spec ok81
  exact callFunc_enter Tryz.func81 h4 hb vs w
 unfold T81 at e
 split at e
 ·rename_i id st m
  split at e
  ·rename_i ty es st' box arr m' get hb
   obtain⟨⟨rfl,rfl,rfl,hmx⟩,z,hz,k0,k1⟩:=e
   obtain⟨b,ok,β,hzz,hr,hA1,hA2,hA3,hl,hR⟩:=hS
   obtain⟨vl⟩:=vs
   match vl,hl,hR with
   |[v],hl,hR =>
    have hv:=hR 0 _ v rfl rfl
    obtain⟨e3,e4⟩:=hv.sl_inv hb
    have e3:v=sub 1 0 m (β id):=e3.resolve_right fun q=>q.1 rfl
    have hb':=(blk_some hb).1
    obtain⟨xs,h1,h2,_,_,h3⟩:=hr.heap.own id _ hb'
    rcases Nat.eq_zero_or_pos m with h0|h0
    ·subst h0
     obtain⟨ad,c,rfl⟩:∃ad c,v=.slice ad 0 c:=by
      rcases hr.heap.slice_of hb' with ⟨e5,_⟩|⟨g,c,e5,_⟩
      ·rw [e3,e5]
       exact⟨none,0,rfl⟩
      ·rw [e3,e5]
       exact⟨_,_,rfl⟩
     refine(Any.slices_Sort_int_none lays189 ad c w).mono ?_
     rintro e w' ⟨rfl,rfl⟩
     refine⟨_,_,_,rfl,k0 rfl,b,ok,β,hzz,hr,hA1,hA2,hA3,rfl,fun i p v hp hv=>?_⟩
     match i,hp,hv with
     |0,hp,hv=>cases hp;cases hv;exact .val _
     |i+1,hp,_=>simp at hp
    ·rcases hr.heap.slice_of hb' with ⟨_,e6⟩|⟨g,c,e5,e6,e7⟩
     ·simp only at e6
      omega
     simp only at e6
     have hvx:v=.slice (some ⟨g,0,none⟩) m c:=by rw [e3,e5];simp [sub,Addr.add_mid]
     simp only at h1 h2 h3
     rw [e5] at h1
     obtain⟨hxl,h1⟩:=h1
     rcases h1 with ⟨h1,_⟩|⟨g',c',cur,h1,hbase,hcur,q1,q2,q3,q4⟩
     ·cases h1
     cases h1
     have hxs:xs=((List.range m).map z).map (Value.int .i64):=by
      apply List.ext_getElem
      ·simp [hxl]
      ·intro i i1 i2
       have hi:i < m:=by simpa [hxl] using i1
       obtain⟨u,u1,u2,u3⟩:=h3 i 0 (.val (.int .i64 (z i))) hi (by rw [hz i hi];rfl)
       have:=(u3 trivial).val_eq
       subst this
       have hx1:xs[i]? = some (.int .i64 (z i)):=by simpa using u1
       rw [List.getElem?_eq_getElem i1] at hx1
       simpa using hx1
     have hH:Holds (Value.int .i64) w g 0 ((List.range m).map z).toArray:=holds_of_blockI hcur (by rw [←hxs,←q4];simp)
     have hlen:((List.range m).map z).length=m:=by simp
     have call:=Any.slices_Sort_int lays189 g 0 c ((List.range m).map z) w hH (Array.getElem?_eq_some_iff.1 hcur).1 (by rw [hlen];omega)
     rw [hlen] at call
     rw [hvx]
     refine call.mono ?_
     rintro e w' ⟨rfl,nn,os,rfl⟩
     have hown:=ownsRow_sortedI (n:=nn) (os:=os) (ss:=(List.range m).map z) (ts:=srtZ m z) (by rw [srtZ_length,hlen]) hbase hcur (by rw [hlen];exact q1) q2 (by simpa using q3)
     rw [hlen] at hown
     have hset:=hr.set (fun i=>[.val (.int .i64 ((srtZ m z).getD i 0))]) ((srtZ m z).map (Value.int .i64)) hb' e5 (grownBy_sortedI (w:=w) (n:=nn) (os:=os) (srtZ m z).toArray) (by simp only;rw [e5];exact hown) (fun i hi=>⟨rfl,fun p hp=>by simp at hp;subst hp;rfl⟩) (fun i f p hi hp=>by
      match f,hp with
      |0,hp =>
       cases hp
       refine⟨.int .i64 ((srtZ m z).getD i 0),?_,.val _,fun _=>.val _⟩
       have:i < (srtZ m z).length:=by rw [srtZ_length];exact hi
       simp [List.getD,this]
      |f+1,hp=>simp at hp)
     refine⟨_,_,_,rfl,k1 h0,b,ok,β,hzz,hset,hA1,hA2,hA3,rfl,fun i p v hp hv=>?_⟩
     match i,hp,hv with
     |0,hp,hv=>cases hp;cases hv;exact .val _
     |i+1,hp,_=>simp at hp
   |[],hl,_=>simp at hl
   |_::_::_,hl,_=>simp at hl
  ·exact e.elim
 ·exact e.elim
end Go.Ex
namespace Go.Num
open Go Go.Ex Go.Proofs
def zL (L:List Int) (i:Nat):Int:=L.getD i 0
def cZ (L:List Int) (i:Nat):List PV:=[.val (.int .i64 (zL L i))]
theorem apd_z {L:List Int} {x:Int} {r:Nat→List PV} (h:r 0=[.val (.int .i64 x)]):∀i,i < L.length+1→cZ (L++[x]) i=apd L.length (cZ L) r i:=fun i hi=>by
 unfold apd cZ zL
 by_cases hl:i < L.length
 ·rw [if_pos hl,List.getD_eq_getElem?_getD,List.getElem?_append_left hl,List.getD_eq_getElem?_getD]
 ·obtain rfl:i=L.length:=by omega
  rw [if_neg hl,Nat.sub_self,h]
  simp
def nbL (z:Int) (q:Nat→Int×Int):Nat→List Int
 |0=>[]
 |j+1=>nbL z q j++(bif z==(q j).1 then [(q j).2] else bif z==(q j).2 then [(q j).1] else [])
theorem nbL_le (z:Int) (q:Nat→Int×Int):∀j,(nbL z q j).length≤j
 |0=>Nat.le_refl _
 |j+1=>by
  have:=nbL_le z q j
  rw [nbL,List.length_append]
  have h:(bif z==(q j).1 then [(q j).2] else bif z==(q j).2 then [(q j).1] else []).length≤1:=by
   cases z==(q j).1
   ·cases z==(q j).2
    ·exact Nat.zero_le _
    ·exact Nat.le_refl _
   ·exact Nat.le_refl _
  omega
theorem nbL_A {z:Int} {q:Nat→Int×Int} {j:Nat} (h:(z==(q j).1)=true):nbL z q (j+1)=nbL z q j++[(q j).2]:=by rw [nbL,h];rfl
theorem nbL_B {z:Int} {q:Nat→Int×Int} {j:Nat} (h:(z==(q j).1)=false) (h2:(z==(q j).2)=true):nbL z q (j+1)=nbL z q j++[(q j).1]:=by rw [nbL,h,h2];rfl
theorem nbL_N {z:Int} {q:Nat→Int×Int} {j:Nat} (h:(z==(q j).1)=false) (h2:(z==(q j).2)=false):nbL z q (j+1)=nbL z q j:=by rw [nbL,h,h2];exact List.append_nil _
def nbS (z:Int) (q:Nat→Int×Int) (m:Nat):List Int:=srtZ (nbL z q m).length (zL (nbL z q m))
def errI (ok:Bool) (n:Nat) (z:Int):Int:=bif ok then bif insB n z then 0 else 2 else 1
def nbr (n:Nat) (p:Nat→PtS) (m:Nat) (q:Nat→Int×Int) (z:Int):List Int:=bif okMap n p m q&&insB n z then nbS z q m else []
theorem nbr_ok {n:Nat} {p:Nat→PtS} {m:Nat} {q:Nat→Int×Int} {z:Int} (h:okMap n p m q=true) (h2:insB n z=true):nbr n p m q z=nbS z q m:=by rw [nbr,h,h2];rfl
end Go.Num
namespace Go.Proofs
open Go Go.Ex Go.Num
set_option maxRecDepth 100000
def c39:List PV→Option Ans
 |[.agg [.rs 6 n g,.rs 2 m h],.val (.int .i64 z)]=>some ⟨some (isPL 4294967296 n g∧isQL m h),.tup [.rs 1 (nbr n (pts g) m (prs h) z).length (fun i=>cZ (nbr n (pts g) m (prs h) z) i),.val (.int .i64 (errI (okMap n (pts g) m (prs h)) n z))],[]⟩
 |_=>none
def D39:Opt:={  }
theorem ok39:funcOk D39.toOrd Tryz.f39 2=true:=by kernel_rfl
theorem f39:FnOk Tryz.prog 39 c39:=by
 refine FnOk.ofW orders (mkE_ok (l:=[(68,c68),(77,c77)]) (own:=[]) (inl:=[(81,T81)]) (by simp [f68,f77]) (by simp [t81])) Tryz.func39 D39 2 ok39 fun args r e=>?_
 unfold c39 at e
 split at e
 ·rename_i n g m h z
  cases e
  refine⟨by simp,fun hm=>?_⟩
  obtain⟨hg,hq⟩:=hm _ rfl
  clear hm
  have hqm:=hq.2
  refine⟨[],stOf [(0,.agg [.rs 6 n g,.rs 2 m (fun i=>cellsQ (prs h i))]),(1,.val (.int .i64 z))] [] 0 [],Wo trivial ⟨⟨⟨rfl,rfl,fun _ _=>rfl⟩,⟨rfl,rfl,fun i hi=>(hq.1 i hi).symm⟩,trivial⟩,rfl,trivial⟩ trivial,?_⟩
  generalize hqq:prs h=q at *
  have hql:isQL m (fun i=>cellsQ (q i)):=⟨fun _ _=>rfl,hqm⟩
  obtain⟨NB,hNB⟩:∃L,L=nbr n (pts g) m q z:=⟨_,rfl⟩
  obtain⟨ER,hER⟩:∃e,e=errI (okMap n (pts g) m q) n z:=⟨_,rfl⟩
  rw [←hNB,←hER]
  have f1:(!okMap n (pts g) m (prs fun i=>cellsQ (q i)))=true→NB.length=0∧PV.val (.int .i64 1)=PV.val (.int .i64 ER):=fun h=>by
   have h:(!okMap n (pts g) m q)=true:=h
   rw [Bool.not_eq_true'] at h
   rw [hNB,hER,nbr,errI,h]
   exact⟨rfl,rfl⟩
  have f2:(!okMap n (pts g) m (prs fun i=>cellsQ (q i)))=false→okMap n (pts g) m q=true:=fun h=>by
   have h:(!okMap n (pts g) m q)=false:=h
   simpa using h
  have f3:okMap n (pts g) m q=true→(!(decide (0≤z)&&decide (z < (n:Int))))=true→NB.length=0∧PV.val (.int .i64 2)=PV.val (.int .i64 ER):=fun h h'=>by
   have h':insB n z=false:=by
    have h':(!insB n z)=true:=h'
    simpa using h'
   rw [hNB,hER,nbr,errI,h,h']
   exact⟨rfl,rfl⟩
  have f4:(!(decide (0≤z)&&decide (z < (n:Int))))=false→insB n z=true:=fun h=>by
   have h:(!insB n z)=false:=h
   simpa using h
  with_unfolding_all refine⟨⟨hg,hql⟩,fun h1=>⟨[],stOf [(4,.rs 1 NB.length (fun i=>cZ NB i)),(5,.val (.int .i64 ER))] [] 0 [],Wo trivial ⟨⟨rfl,(f1 h1).1⟩,(f1 h1).2,trivial⟩ trivial,rfl,rfl⟩,fun h1=>⟨hg.2,fun h2=>⟨[],stOf [(4,.rs 1 NB.length (fun i=>cZ NB i)),(5,.val (.int .i64 ER))] [] 0 [],Wo trivial ⟨⟨rfl,(f3 (f2 h1) h2).1⟩,(f3 (f2 h1) h2).2,trivial⟩ trivial,rfl,rfl⟩,fun h2=>⟨Nat,fun i=>(okMap n (pts g) m q=true∧insB n z=true)∧i≤m,fun i=>stOf [(1,.val (.int .i64 z)),(2,.ptr 0 0 0 0),(6,.sl 1 1 0 (nbL z q i).length),(17,.rs 2 m (fun i=>cellsQ (q i))),(18,.val (goInt m)),(19,.val (goInt i))] [⟨37,2,0,true,false,1,fun _=>[.rs 6 n g,.rs 2 m (fun i=>cellsQ (q i))]⟩,⟨3,1,1,false,false,(nbL z q i).length,fun j=>cZ (nbL z q i) j⟩] 2 [],fun i=>m - i,⟨0,[some 0,none],⟨⟨f2 h1,f4 h2⟩,Nat.zero_le _⟩,Wo ⟨⟨lt_ok rfl,rfl,rfl,rfl,rfl,rfl,⟨⟨rfl,rfl,fun _ _=>rfl⟩,rfl⟩,⟨⟨rfl,rfl,fun _ _=>rfl⟩,rfl⟩,trivial⟩,⟨lt_ok rfl,rfl,rfl,rfl⟩,trivial⟩ ⟨rfl,pP,⟨rfl,rfl,rfl,rfl,lt_ok rfl⟩,⟨rfl,rfl,fun _ _=>rfl⟩,rfl,rfl,trivial⟩ trivial⟩,fun i hi=>?_⟩⟩⟩
  obtain⟨⟨hk1,hk2⟩,him⟩:(okMap n (pts g) m q=true∧insB n z=true)∧i≤m:=hi
  with_unfolding_all refine⟨fun h1=>?_,fun h1=>?_⟩
  ·have h1:(i:Int) < m:=ltT h1
   have ei:(i:Int).toNat=i:=Int.toNat_natCast i
   have him:i+1≤m:=by omega
   have hμ : m - (i+1) < m - i:=by omega
   have hok:=hk1
   unfold okMap at hok
   rw [Bool.and_eq_true,Bool.and_eq_true] at hok
   have hn1:n≤1000:=of_decide_eq_true hok.1.1
   have hmm:=links_le hok.2
   have hnn:n*n≤1000*1000:=Nat.mul_le_mul hn1 hn1
   have hnl:=nbL_le z q i
   have wi:PV.val (.int .i64 (IntKind.i64.wrap ((i:Int)+1)))=PV.val (.int .i64 ((i+1:Nat):Int)):=by
    rw [wrap64 (by omega) (by omega)]
    rfl
   have k1:((nbL z q i).length+1)*8≤140737488355328:=by omega
   have k2:(nbL z q i).length+1≤9223372036854775807:=by omega
   have lA:∀x,nbL z q (i+1)=nbL z q i++[x]→(nbL z q (i+1)).length=(nbL z q i).length+1:=fun x h=>by
    rw [h,List.length_append]
    rfl
   have rA:∀x,nbL z q (i+1)=nbL z q i++[x]→∀r:Nat→List PV,r 0=[.val (.int .i64 x)]→∀j,j < (nbL z q i).length+1→cZ (nbL z q (i+1)) j=apd (nbL z q i).length (fun j=>cZ (nbL z q i) j) r j:=fun x h r hr=>by
    rw [h]
    exact apd_z hr
   have eA:(z==(q (i:Int).toNat).1)=true→nbL z q (i+1)=nbL z q i++[(q (i:Int).toNat).2]:=fun h=>by
    rw [ei] at h ⊢
    exact nbL_A h
   have eB:(z==(q (i:Int).toNat).1)=false→(z==(q (i:Int).toNat).2)=true→nbL z q (i+1)=nbL z q i++[(q (i:Int).toNat).1]:=fun h h'=>by
    rw [ei] at h h' ⊢
    exact nbL_B h h'
   have eN:(z==(q (i:Int).toNat).1)=false→(z==(q (i:Int).toNat).2)=false→nbL z q (i+1)=nbL z q i:=fun h h'=>by
    rw [ei] at h h'
    exact nbL_N h h'
   have rN:nbL z q (i+1)=nbL z q i→∀j,j < (nbL z q i).length→cZ (nbL z q (i+1)) j=cZ (nbL z q i) j:=fun h j _=>by rw [h]
   with_unfolding_all exact⟨⟨Int.natCast_nonneg i,h1⟩,fun h2=>⟨⟨rfl,k1,k2⟩,⟨i+1,[some 0,some 1],⟨⟨hk1,hk2⟩,him⟩,hμ,Wo ⟨⟨lt_ok rfl,rfl,rfl,rfl,rfl,rfl,⟨⟨rfl,rfl,fun _ _=>rfl⟩,rfl⟩,⟨⟨rfl,rfl,fun _ _=>rfl⟩,rfl⟩,trivial⟩,⟨lt_ok rfl,rfl,rfl,rfl,rfl,(lA _ (eA h2)),rA _ (eA h2) _ rfl⟩,trivial⟩ ⟨rfl,pP,⟨rfl,rfl,(lA _ (eA h2)).symm,lt_ok rfl,_,rfl⟩,⟨rfl,rfl,fun _ _=>rfl⟩,rfl,wi,trivial⟩ trivial⟩⟩,fun h2=>⟨fun h3=>⟨⟨rfl,k1,k2⟩,⟨i+1,[some 0,some 1],⟨⟨hk1,hk2⟩,him⟩,hμ,Wo ⟨⟨lt_ok rfl,rfl,rfl,rfl,rfl,rfl,⟨⟨rfl,rfl,fun _ _=>rfl⟩,rfl⟩,⟨⟨rfl,rfl,fun _ _=>rfl⟩,rfl⟩,trivial⟩,⟨lt_ok rfl,rfl,rfl,rfl,rfl,(lA _ (eB h2 h3)),rA _ (eB h2 h3) _ rfl⟩,trivial⟩ ⟨rfl,pP,⟨rfl,rfl,(lA _ (eB h2 h3)).symm,lt_ok rfl,_,rfl⟩,⟨rfl,rfl,fun _ _=>rfl⟩,rfl,wi,trivial⟩ trivial⟩⟩,fun h3=>⟨i+1,[some 0,some 1],⟨⟨hk1,hk2⟩,him⟩,hμ,Wo ⟨⟨lt_ok rfl,rfl,rfl,rfl,rfl,rfl,⟨⟨rfl,rfl,fun _ _=>rfl⟩,rfl⟩,⟨⟨rfl,rfl,fun _ _=>rfl⟩,rfl⟩,trivial⟩,⟨lt_ok rfl,rfl,rfl,rfl,rfl,(congrArg List.length (eN h2 h3)),rN (eN h2 h3)⟩,trivial⟩ ⟨rfl,pP,⟨rfl,rfl,(congrArg List.length (eN h2 h3)).symm,lt_ok rfl,_,rfl⟩,⟨rfl,rfl,fun _ _=>rfl⟩,rfl,wi,trivial⟩ trivial⟩⟩⟩
  ·have h1:(m:Int)≤i:=ltF h1
   have h3:NB=srtZ (nbL z q i).length (zL (nbL z q i)):=by
    rw [hNB,nbr_ok hk1 hk2,nbS,show i=m by omega]
   have hl:(nbL z q i).length=NB.length:=by rw [h3,srtZ_length]
   have v2:PV.val (.int .i64 0)=PV.val (.int .i64 ER):=by
    rw [hER,errI,hk1,hk2]
    rfl
   have hok:=hk1
   unfold okMap at hok
   rw [Bool.and_eq_true,Bool.and_eq_true] at hok
   have hn1:n≤1000:=of_decide_eq_true hok.1.1
   have hmm:=links_le hok.2
   have hnn:n*n≤1000*1000:=Nat.mul_le_mul hn1 hn1
   have hnl:=nbL_le z q i
   have hle:(nbL z q i).length≤1000000:=by omega
   have v0:(nbL z q i).length=0→∀j,j < NB.length→cZ NB j=cZ (nbL z q i) (0+j):=fun h j hj=>by omega
   have v1:∀j,j < NB.length→cZ NB j=cZ (srtZ (nbL z q i).length (zL (nbL z q i))) (0+j):=fun j _=>by rw [h3,Nat.zero_add]
   with_unfolding_all exact⟨⟨rfl,rfl,rfl,hle⟩,zL (nbL z q i),fun _ _=>rfl,fun h0=>⟨[],stOf [(4,.rs 1 NB.length (fun i=>cZ NB i)),(5,.val (.int .i64 ER))] [] 0 [],Wo trivial ⟨⟨by simp,_,rfl,rfl,rfl,hl,v0 h0⟩,v2,trivial⟩ trivial,rfl,rfl⟩,fun _=>⟨[],stOf [(4,.rs 1 NB.length (fun i=>cZ NB i)),(5,.val (.int .i64 ER))] [] 0 [],Wo trivial ⟨⟨by simp,_,rfl,rfl,rfl,hl,v1⟩,v2,trivial⟩ trivial,rfl,rfl⟩⟩
 ·cases e
end Go.Proofs
namespace Go.Num
open Go Go.Ex Go.Proofs
def selL (f:Int×Int→Option Int) (q:Nat→Int×Int):Nat→List Int
 |0=>[]
 |j+1=>selL f q j++(f (q j)).toList
theorem selL_le (f:Int×Int→Option Int) (q:Nat→Int×Int):∀j,(selL f q j).length≤j
 |0=>Nat.le_refl _
 |j+1=>by
  have:=selL_le f q j
  rw [selL,List.length_append]
  cases f (q j)
  ·simp
   omega
  ·simp
   omega
def fA (z:Int) (x:Int×Int):Option Int:=bif x.1==z then some x.2 else none
def fB (z:Int) (x:Int×Int):Option Int:=bif x.2==z then some x.1 else none
theorem selL_A {z:Int} {q:Nat→Int×Int} {j:Nat} (h:((q j).1==z)=true):selL (fA z) q (j+1)=selL (fA z) q j++[(q j).2]:=by rw [selL,fA,h];rfl
theorem selL_A0 {z:Int} {q:Nat→Int×Int} {j:Nat} (h:((q j).1==z)=false):selL (fA z) q (j+1)=selL (fA z) q j:=by rw [selL,fA,h];exact List.append_nil _
theorem selL_B {z:Int} {q:Nat→Int×Int} {j:Nat} (h:((q j).2==z)=true):selL (fB z) q (j+1)=selL (fB z) q j++[(q j).1]:=by rw [selL,fB,h];rfl
theorem selL_B0 {z:Int} {q:Nat→Int×Int} {j:Nat} (h:((q j).2==z)=false):selL (fB z) q (j+1)=selL (fB z) q j:=by rw [selL,fB,h];exact List.append_nil _
def nbrR (n:Nat) (p:Nat→PtS) (m:Nat) (q:Nat→Int×Int) (z:Int):List Int:=bif okMap n p m q&&insB n z then selL (fB z) q m++selL (fA z) q m else []
theorem nbrR_ok {n:Nat} {p:Nat→PtS} {m:Nat} {q:Nat→Int×Int} {z:Int} (h:okMap n p m q=true) (h2:insB n z=true):nbrR n p m q z=selL (fB z) q m++selL (fA z) q m:=by rw [nbrR,h,h2];rfl
end Go.Num
namespace Go.Proofs
open Go Go.Ex Go.Num
set_option maxRecDepth 100000
def c40:List PV→Option Ans
 |[.agg [.rs 6 n g,.rs 2 m h],.val (.int .i64 z)]=>some ⟨some (isPL 4294967296 n g∧isQL m h),.tup [.rs 1 (nbrR n (pts g) m (prs h) z).length (fun i=>cZ (nbrR n (pts g) m (prs h) z) i),.val (.int .i64 (errI (okMap n (pts g) m (prs h)) n z))],[]⟩
 |_=>none
def D40:Opt:={  }
theorem ok40:funcOk D40.toOrd Tryz.f40 2=true:=by kernel_rfl
theorem f40:FnOk Tryz.prog 40 c40:=by
 refine FnOk.ofW orders (mkE_ok (l:=[(34,c34)]) (own:=[]) (inl:=[]) (by simp [f34]) (by simp)) Tryz.func40 D40 2 ok40 fun args r e=>?_
 unfold c40 at e
 split at e
 ·rename_i n g m h z
  cases e
  refine⟨by simp,fun hm=>?_⟩
  obtain⟨hg,hq⟩:=hm _ rfl
  clear hm
  have hqm:=hq.2
  refine⟨[],stOf [(0,.agg [.rs 6 n g,.rs 2 m (fun i=>cellsQ (prs h i))]),(1,.val (.int .i64 z))] [] 0 [],Wo trivial ⟨⟨⟨rfl,rfl,fun _ _=>rfl⟩,⟨rfl,rfl,fun i hi=>(hq.1 i hi).symm⟩,trivial⟩,rfl,trivial⟩ trivial,?_⟩
  generalize hqq:prs h=q at *
  have hql:isQL m (fun i=>cellsQ (q i)):=⟨fun _ _=>rfl,hqm⟩
  obtain⟨NB,hNB⟩:∃L,L=nbrR n (pts g) m q z:=⟨_,rfl⟩
  obtain⟨ER,hER⟩:∃e,e=errI (okMap n (pts g) m q) n z:=⟨_,rfl⟩
  rw [←hNB,←hER]
  have lv:NB.length=0→∀{f:Nat→List PV} (j:Nat),j < NB.length→cZ NB j=f (0+j):=fun h _ j hj=>by omega
  have z0:∀B:Bool,(okW B != 0)=true→B=false:=fun B h=>by cases B<;>first|rfl|cases h
  have z1:∀B:Bool,(okW B != 0)=false→B=true:=fun B h=>by cases B<;>first|rfl|cases h
  have f1:(okW (okMap n (pts g) m (prs fun i=>cellsQ (q i))) != 0)=true→NB.length=0∧PV.val (.int .i64 1)=PV.val (.int .i64 ER):=fun h=>by
   have h:okMap n (pts g) m q=false:=z0 _ h
   rw [hNB,hER,nbrR,errI,h]
   exact⟨rfl,rfl⟩
  have f2:(okW (okMap n (pts g) m (prs fun i=>cellsQ (q i))) != 0)=false→okMap n (pts g) m q=true:=fun h=>z1 _ h
  have f3:okMap n (pts g) m q=true→insB n z=false→NB.length=0∧PV.val (.int .i64 2)=PV.val (.int .i64 ER):=fun h h'=>by
   rw [hNB,hER,nbrR,errI,h,h']
   exact⟨rfl,rfl⟩
  have g1:decide (z < 0)=true→insB n z=false:=fun h=>by
   have h:z < 0:=of_decide_eq_true h
   rw [insB,decide_eq_false (by omega)]
   rfl
  have g2:decide ((n:Int)≤z)=true→insB n z=false:=fun h=>by
   have h:(n:Int)≤z:=of_decide_eq_true h
   rw [insB,decide_eq_false (show ¬z < (n:Int) by omega),Bool.and_false]
  have g3:decide (z < 0)=false→decide ((n:Int)≤z)=false→insB n z=true:=fun h h'=>by
   have h:¬z < 0:=of_decide_eq_false h
   have h':¬(n:Int)≤z:=of_decide_eq_false h'
   rw [insB,decide_eq_true (by omega),decide_eq_true (by omega)]
   rfl
  with_unfolding_all refine⟨⟨hg,hql⟩,fun h1=>⟨[],stOf [(4,.rs 1 NB.length (fun i=>cZ NB i)),(5,.val (.int .i64 ER))] [] 0 [],Wo trivial ⟨⟨by simp,_,rfl,rfl,rfl,((f1 h1).1).symm,(lv (f1 h1).1)⟩,(f1 h1).2,trivial⟩ trivial,rfl,rfl⟩,fun h1=>⟨fun h2=>⟨fun h3=>⟨[],stOf [(4,.rs 1 NB.length (fun i=>cZ NB i)),(5,.val (.int .i64 ER))] [] 0 [],Wo trivial ⟨⟨by simp,_,rfl,rfl,rfl,((f3 (f2 h1) (g2 h3)).1).symm,(lv (f3 (f2 h1) (g2 h3)).1)⟩,(f3 (f2 h1) (g2 h3)).2,trivial⟩ trivial,rfl,rfl⟩,fun h3=>⟨Nat,fun i=>(okMap n (pts g) m q=true∧insB n z=true)∧i≤m,fun i=>stOf [(1,.val (.int .i64 z)),(2,.ptr 0 0 0 0),(6,.sl 1 1 0 (selL (fB z) q i).length),(7,.val (goInt i))] [⟨37,2,0,true,false,1,fun _=>[.rs 6 n g,.rs 2 m (fun i=>cellsQ (q i))]⟩,⟨3,1,1,false,false,(selL (fB z) q i).length,fun j=>cZ (selL (fB z) q i) j⟩] 2 [],fun i=>m - i,⟨0,[some 0,some 1],⟨⟨f2 h1,g3 h2 h3⟩,Nat.zero_le _⟩,Wo ⟨⟨lt_ok rfl,rfl,rfl,rfl,rfl,rfl,⟨⟨rfl,rfl,fun _ _=>rfl⟩,rfl⟩,⟨⟨rfl,rfl,fun _ _=>rfl⟩,rfl⟩,trivial⟩,⟨lt_ok rfl,rfl,rfl,rfl,rfl,rfl,fun i hi=>absurd hi (Nat.not_lt_zero i)⟩,trivial⟩ ⟨rfl,pP,pP,rfl,trivial⟩ trivial⟩,fun i hi=>?_⟩⟩,fun h2=>⟨fun _=>⟨[],stOf [(4,.rs 1 NB.length (fun i=>cZ NB i)),(5,.val (.int .i64 ER))] [] 0 [],Wo trivial ⟨⟨by simp,_,rfl,rfl,rfl,((f3 (f2 h1) (g1 h2)).1).symm,(lv (f3 (f2 h1) (g1 h2)).1)⟩,(f3 (f2 h1) (g1 h2)).2,trivial⟩ trivial,rfl,rfl⟩,fun h=>(nomatch h)⟩⟩⟩
  obtain⟨⟨hk1,hk2⟩,him⟩:(okMap n (pts g) m q=true∧insB n z=true)∧i≤m:=hi
  have hok:=hk1
  unfold okMap at hok
  rw [Bool.and_eq_true,Bool.and_eq_true] at hok
  have hn1:n≤1000:=of_decide_eq_true hok.1.1
  have hmm:=links_le hok.2
  have hnn:n*n≤1000*1000:=Nat.mul_le_mul hn1 hn1
  have hsB:=selL_le (fB z) q
  have hsA:=selL_le (fA z) q
  with_unfolding_all refine⟨fun h1=>?_,fun h1=>?_⟩
  ·have h1:(i:Int) < m:=ltT h1
   have ei:(i:Int).toNat=i:=Int.toNat_natCast i
   have him:i+1≤m:=by omega
   have hμ : m - (i+1) < m - i:=by omega
   have hnl:(selL (fB z) q i).length≤m+m:=by
    have h1:=hsB i
    have h2:=hsA i
    have h3:=hsB m
    try simp only [List.length_append]
    omega
   have wi:PV.val (.int .i64 (IntKind.i64.wrap ((i:Int)+1)))=PV.val (.int .i64 ((i+1:Nat):Int)):=by
    rw [wrap64 (by omega) (by omega)]
    rfl
   have k1:((selL (fB z) q i).length+1)*8≤140737488355328:=by omega
   have k2:(selL (fB z) q i).length+1≤9223372036854775807:=by omega
   have eA:((q (i:Int).toNat).2==z)=true→selL (fB z) q (i+1)=selL (fB z) q i++[(q (i:Int).toNat).1]:=fun h=>by
    rw [ei] at h ⊢
    exact selL_B h
   have eN:((q (i:Int).toNat).2==z)=false→selL (fB z) q (i+1)=selL (fB z) q i:=fun h=>by
    rw [ei] at h
    exact selL_B0 h
   have lA:((q (i:Int).toNat).2==z)=true→(selL (fB z) q (i+1)).length=(selL (fB z) q i).length+1:=fun h=>by
    rw [eA h,List.length_append]
    rfl
   have rA:((q (i:Int).toNat).2==z)=true→∀r:Nat→List PV,r 0=[.val (.int .i64 (q (i:Int).toNat).1)]→∀j,j < (selL (fB z) q i).length+1→cZ (selL (fB z) q (i+1)) j=apd (selL (fB z) q i).length (fun j=>cZ (selL (fB z) q i) j) r j:=fun h r hr=>by
    rw [eA h]
    exact apd_z hr
   have rN:((q (i:Int).toNat).2==z)=false→∀j,j < (selL (fB z) q i).length→cZ (selL (fB z) q (i+1)) j=cZ (selL (fB z) q i) j:=fun h j _=>by rw [eN h]
   with_unfolding_all exact⟨⟨Int.natCast_nonneg i,h1⟩,fun h2=>⟨⟨Int.natCast_nonneg i,h1⟩,⟨rfl,k1,k2⟩,⟨i+1,[some 0,some 1],⟨⟨hk1,hk2⟩,him⟩,hμ,Wo ⟨⟨lt_ok rfl,rfl,rfl,rfl,rfl,rfl,⟨⟨rfl,rfl,fun _ _=>rfl⟩,rfl⟩,⟨⟨rfl,rfl,fun _ _=>rfl⟩,rfl⟩,trivial⟩,⟨lt_ok rfl,rfl,rfl,rfl,rfl,(lA h2),rA h2 _ rfl⟩,trivial⟩ ⟨rfl,pP,⟨rfl,rfl,(lA h2).symm,lt_ok rfl,_,rfl⟩,wi,trivial⟩ trivial⟩⟩,fun h2=>⟨i+1,[some 0,some 1],⟨⟨hk1,hk2⟩,him⟩,hμ,Wo ⟨⟨lt_ok rfl,rfl,rfl,rfl,rfl,rfl,⟨⟨rfl,rfl,fun _ _=>rfl⟩,rfl⟩,⟨⟨rfl,rfl,fun _ _=>rfl⟩,rfl⟩,trivial⟩,⟨lt_ok rfl,rfl,rfl,rfl,rfl,(congrArg List.length (eN h2)),rN h2⟩,trivial⟩ ⟨rfl,pP,⟨rfl,rfl,(congrArg List.length (eN h2)).symm,lt_ok rfl,_,rfl⟩,wi,trivial⟩ trivial⟩⟩
  ·have h1:(m:Int)≤i:=ltF h1
   have e0:selL (fB z) q m++selL (fA z) q 0=selL (fB z) q i:=by
    rw [show i=m by omega,selL,List.append_nil]
   have l0:(selL (fB z) q m++selL (fA z) q 0).length=(selL (fB z) q i).length:=by rw [e0]
   have r0:∀j,j < (selL (fB z) q i).length→cZ (selL (fB z) q m++selL (fA z) q 0) j=cZ (selL (fB z) q i) j:=fun j _=>by rw [e0]
   clear h1 e0
   with_unfolding_all refine⟨Nat,fun i=>(okMap n (pts g) m q=true∧insB n z=true)∧i≤m,fun i=>stOf [(1,.val (.int .i64 z)),(2,.ptr 0 0 0 0),(6,.sl 1 1 0 (selL (fB z) q m++selL (fA z) q i).length),(8,.val (goInt i))] [⟨37,2,0,true,false,1,fun _=>[.rs 6 n g,.rs 2 m (fun i=>cellsQ (q i))]⟩,⟨3,1,1,false,false,(selL (fB z) q m++selL (fA z) q i).length,fun j=>cZ (selL (fB z) q m++selL (fA z) q i) j⟩] 2 [],fun i=>m - i,⟨0,[some 0,some 1],⟨⟨hk1,hk2⟩,Nat.zero_le _⟩,Wo ⟨⟨lt_ok rfl,rfl,rfl,rfl,rfl,rfl,⟨⟨rfl,rfl,fun _ _=>rfl⟩,rfl⟩,⟨⟨rfl,rfl,fun _ _=>rfl⟩,rfl⟩,trivial⟩,⟨lt_ok rfl,rfl,rfl,rfl,rfl,l0,r0⟩,trivial⟩ ⟨rfl,pP,⟨rfl,rfl,l0.symm,lt_ok rfl,_,rfl⟩,rfl,trivial⟩ trivial⟩,fun i hi=>?_⟩
   clear l0 r0 him
   obtain⟨_,him⟩:(okMap n (pts g) m q=true∧insB n z=true)∧i≤m:=hi
   with_unfolding_all refine⟨fun h1=>?_,fun h1=>?_⟩
   ·have h1:(i:Int) < m:=ltT h1
    have ei:(i:Int).toNat=i:=Int.toNat_natCast i
    have him:i+1≤m:=by omega
    have hμ : m - (i+1) < m - i:=by omega
    have hnl:(selL (fB z) q m++selL (fA z) q i).length≤m+m:=by
     have h1:=hsB i
     have h2:=hsA i
     have h3:=hsB m
     try simp only [List.length_append]
     omega
    have wi:PV.val (.int .i64 (IntKind.i64.wrap ((i:Int)+1)))=PV.val (.int .i64 ((i+1:Nat):Int)):=by
     rw [wrap64 (by omega) (by omega)]
     rfl
    have k1:((selL (fB z) q m++selL (fA z) q i).length+1)*8≤140737488355328:=by omega
    have k2:(selL (fB z) q m++selL (fA z) q i).length+1≤9223372036854775807:=by omega
    have eA:((q (i:Int).toNat).1==z)=true→selL (fB z) q m++selL (fA z) q (i+1)=selL (fB z) q m++selL (fA z) q i++[(q (i:Int).toNat).2]:=fun h=>by
     rw [ei] at h ⊢
     rw [selL_A h,List.append_assoc]
    have eN:((q (i:Int).toNat).1==z)=false→selL (fB z) q m++selL (fA z) q (i+1)=selL (fB z) q m++selL (fA z) q i:=fun h=>by
     rw [ei] at h
     rw [selL_A0 h]
    have lA:((q (i:Int).toNat).1==z)=true→(selL (fB z) q m++selL (fA z) q (i+1)).length=(selL (fB z) q m++selL (fA z) q i).length+1:=fun h=>by
     rw [eA h,List.length_append]
     rfl
    have rA:((q (i:Int).toNat).1==z)=true→∀r:Nat→List PV,r 0=[.val (.int .i64 (q (i:Int).toNat).2)]→∀j,j < (selL (fB z) q m++selL (fA z) q i).length+1→cZ (selL (fB z) q m++selL (fA z) q (i+1)) j=apd (selL (fB z) q m++selL (fA z) q i).length (fun j=>cZ (selL (fB z) q m++selL (fA z) q i) j) r j:=fun h r hr=>by
     rw [eA h]
     exact apd_z hr
    have rN:((q (i:Int).toNat).1==z)=false→∀j,j < (selL (fB z) q m++selL (fA z) q i).length→cZ (selL (fB z) q m++selL (fA z) q (i+1)) j=cZ (selL (fB z) q m++selL (fA z) q i) j:=fun h j _=>by rw [eN h]
    with_unfolding_all exact⟨⟨Int.natCast_nonneg i,h1⟩,fun h2=>⟨⟨Int.natCast_nonneg i,h1⟩,⟨rfl,k1,k2⟩,⟨i+1,[some 0,some 1],⟨⟨hk1,hk2⟩,him⟩,hμ,Wo ⟨⟨lt_ok rfl,rfl,rfl,rfl,rfl,rfl,⟨⟨rfl,rfl,fun _ _=>rfl⟩,rfl⟩,⟨⟨rfl,rfl,fun _ _=>rfl⟩,rfl⟩,trivial⟩,⟨lt_ok rfl,rfl,rfl,rfl,rfl,(lA h2),rA h2 _ rfl⟩,trivial⟩ ⟨rfl,pP,⟨rfl,rfl,(lA h2).symm,lt_ok rfl,_,rfl⟩,wi,trivial⟩ trivial⟩⟩,fun h2=>⟨i+1,[some 0,some 1],⟨⟨hk1,hk2⟩,him⟩,hμ,Wo ⟨⟨lt_ok rfl,rfl,rfl,rfl,rfl,rfl,⟨⟨rfl,rfl,fun _ _=>rfl⟩,rfl⟩,⟨⟨rfl,rfl,fun _ _=>rfl⟩,rfl⟩,trivial⟩,⟨lt_ok rfl,rfl,rfl,rfl,rfl,(congrArg List.length (eN h2)),rN h2⟩,trivial⟩ ⟨rfl,pP,⟨rfl,rfl,(congrArg List.length (eN h2)).symm,lt_ok rfl,_,rfl⟩,wi,trivial⟩ trivial⟩⟩
   ·have h1:(m:Int)≤i:=ltF h1
    have h3:NB=selL (fB z) q m++selL (fA z) q i:=by
     rw [hNB,nbrR_ok hk1 hk2,show i=m by omega]
    have hl:(selL (fB z) q m++selL (fA z) q i).length=NB.length:=by rw [h3]
    have v2:PV.val (.int .i64 0)=PV.val (.int .i64 ER):=by
     rw [hER,errI,hk1,hk2]
     rfl
    have v1:∀j,j < NB.length→cZ NB j=cZ (selL (fB z) q m++selL (fA z) q i) (0+j):=fun j _=>by rw [h3,Nat.zero_add]
    with_unfolding_all exact⟨[],stOf [(4,.rs 1 NB.length (fun i=>cZ NB i)),(5,.val (.int .i64 ER))] [] 0 [],Wo trivial ⟨⟨by simp,_,rfl,rfl,rfl,hl,v1⟩,v2,trivial⟩ trivial,rfl,rfl⟩
 ·cases e
end Go.Proofs
namespace Go.Num
open Go Go.Ex Go.Proofs
def rdZ:List PV→Int
 |[.val (.int .i64 x)]=>x
 |_=>0
def zz (g:Nat→List PV) (i:Nat):Int:=rdZ (g i)
def cellZ (x:Int):List PV:=[.val (.int .i64 x)]
def isZL (n:Nat) (g:Nat→List PV):Prop:=(∀i,i < n→g i=cellZ (zz g i))∧n≤140737488355328
end Go.Num
namespace Go.Proofs
open Go Go.Ex Go.Num
set_option maxRecDepth 100000
def c43:List PV→Option Ans
 |[.rs 1 n g,.rs 1 m h]=>some ⟨some (isZL n g∧isZL m h),.val (.bool (decide (n=m)&&!anyP (fun i=>!(zz g i==zz h i)) n)),[]⟩
 |_=>none
theorem ok43:funcOk {} Tryz.f43 2=true:=by kernel_rfl
theorem f43:FnOk Tryz.prog 43 c43:=by
 refine FnOk.ofW orders (mkE_ok (l:=[]) (own:=[]) (inl:=[]) (by simp) (by simp)) Tryz.func43 {} 2 ok43 fun args r e=>?_
 unfold c43 at e
 split at e
 ·rename_i n g m h
  cases e
  refine⟨by simp,fun hm=>?_⟩
  obtain⟨⟨hp,hn⟩,hq,hmm⟩:=hm _ rfl
  refine⟨[],stOf [(0,.rs 1 n (fun i=>cellZ (zz g i))),(1,.rs 1 m (fun i=>cellZ (zz h i)))] [] 0 [],Wo trivial ⟨⟨rfl,rfl,fun i hi=>(hp i hi).symm⟩,⟨rfl,rfl,fun i hi=>(hq i hi).symm⟩,trivial⟩ trivial,?_⟩
  generalize zz g=p at *
  generalize zz h=q at *
  obtain⟨X,hX⟩:∃X,X=(decide (n=m)&&!anyP (fun i=>!(p i==q i)) n):=⟨_,rfl⟩
  rw [←hX]
  have v0:(!((n:Int)==(m:Int)))=true→PV.val (.bool false)=PV.val (.bool X):=fun h=>by
   have h1:¬n=m:=fun e=>by rw [e,beq_self_eq_true] at h;cases h
   rw [hX,decide_eq_false h1]
   rfl
  have v1:(!((n:Int)==(m:Int)))=false→n=m:=fun h=>by
   have h6:((n:Int)==(m:Int))=true:=by simpa using h
   have:=eq_of_beq h6
   omega
  with_unfolding_all refine⟨fun h1=>⟨[],stOf [(4,.val (.bool X))] [] 0 [],Wo trivial ⟨v0 h1,trivial⟩ trivial,rfl,rfl⟩,fun h1=>⟨Nat,fun i=>i≤n∧∀j,j < i→(p j==q j)=true,fun i=>stOf [(0,.rs 1 n (fun i=>cellZ (p i))),(1,.rs 1 m (fun i=>cellZ (q i))),(12,.val (goInt n)),(13,.val (goInt i))] [] 0 [],fun i=>n - i,⟨0,[],⟨Nat.zero_le _,fun j hj=>absurd hj (Nat.not_lt_zero j)⟩,Wo trivial ⟨⟨rfl,rfl,fun _ _=>rfl⟩,⟨rfl,rfl,fun _ _=>rfl⟩,rfl,rfl,trivial⟩ trivial⟩,fun i hi=>?_⟩⟩
  have hnm:=v1 h1
  obtain⟨hin,hI⟩:i≤n∧∀j,j < i→(p j==q j)=true:=hi
  with_unfolding_all refine⟨fun h2=>?_,fun h2=>⟨[],stOf [(4,.val (.bool X))] [] 0 [],Wo trivial ⟨?_,trivial⟩ trivial,rfl,rfl⟩⟩
  ·have h2:(i:Int) < n:=ltT h2
   have e:(i:Int).toNat=i:=Int.toNat_natCast i
   with_unfolding_all refine⟨⟨by omega,by omega⟩,⟨by omega,by omega⟩,fun h3=>⟨[],stOf [(4,.val (.bool X))] [] 0 [],Wo trivial ⟨?_,trivial⟩ trivial,rfl,rfl⟩,fun h3=>⟨i+1,[],⟨by omega,?_⟩,by show n - (i+1) < n - i;omega,Wo trivial ⟨⟨rfl,rfl,fun _ _=>rfl⟩,⟨rfl,rfl,fun _ _=>rfl⟩,rfl,?_,trivial⟩ trivial⟩⟩
   ·have h3:(!(p (i:Int).toNat==q (i:Int).toNat))=true:=h3
    rw [e] at h3
    show PV.val (.bool false)=PV.val (.bool X)
    rw [hX,anyP_true.2 ⟨i,by omega,h3⟩,Bool.not_true,Bool.and_false]
   ·have h3:(!(p (i:Int).toNat==q (i:Int).toNat))=false:=h3
    rw [e] at h3
    intro j hj
    rcases Nat.lt_or_ge j i with h|h
    ·exact hI j h
    ·obtain rfl:j=i:=by omega
     simpa using h3
   ·show PV.val (.int .i64 (IntKind.i64.wrap ((i:Int)+1)))=PV.val (.int .i64 ((i+1:Nat):Int))
    rw [wrap64 (by omega) (by omega)]
    rfl
  ·have h2:(n:Int)≤i:=ltF h2
   show PV.val (.bool true)=PV.val (.bool X)
   rw [hX,decide_eq_true hnm,anyP_false.2 fun j hj=>by rw [hI j (by omega)];rfl]
   rfl
 ·cases e
end Go.Proofs
namespace Go.Num
open Go Go.Ex Go.Proofs
theorem sm3_b {v:Value} (h:sm3 v=true):(rdN v).natAbs < 16777216∧0 < rdD v∧rdD v < 16777216:=by
 unfold sm3 at h
 split at h
 ·rename_i s b c
  rw [Bool.and_eq_true] at h
  refine⟨?_,den1_pos _,den1_lt (small_lt (of_decide_eq_true h.2))⟩
  show(sgn s (bv b)).natAbs < 16777216
  rw [sgn_natAbs]
  exact small_lt (of_decide_eq_true h.1)
 ·cases h
theorem isRk.mono {k n:Nat} {v:Value} (h:isRk k v) (hk:k≤n):isRk n v:=by
 obtain⟨s,b,c,rfl,hb,hc⟩:=h
 exact⟨s,b,c,rfl,Nat.le_trans hb hk,Nat.le_trans hc hk⟩
theorem mulN {x y:Int} {k l:Nat} (h1:x.natAbs < 256^k) (h2:y.natAbs < 256^l):(x*y).natAbs < 256^(k+l):=by
 rw [Int.natAbs_mul,Nat.pow_add]
 exact Nat.mul_lt_mul'' h1 h2
theorem mulII {x y:Int} {k l K:Nat} (h1:x.natAbs < 256^k) (h2:y.natAbs < 256^l) (hK:k+l≤K):isIk K (intV (rdI (intV x)*rdI (intV y))):=by
 rw [rdI_intV,rdI_intV]
 exact isIk_intV (mulN h1 h2) hK
theorem mulIJ {x y:Int} {k l:Nat} (h1:x.natAbs < 256^k) (h2:y.natAbs < 256^l) (hK:k+l≤34359738368):isI (intV (rdI (intV x)*rdI (intV y))):=by
 rw [rdI_intV,rdI_intV]
 exact isI_intV (mulN h1 h2) hK
theorem natN {n k:Nat} (h:n < 256^k):((n:Nat):Int).natAbs < 256^k:=by simpa using h
theorem isRk.b {k:Nat} {v:Value} (h:isRk k v):(rdN v).natAbs < 256^k∧0 < rdD v∧rdD v < 256^(k+1):=by
 obtain⟨s,b,c,rfl,hb,hc⟩:=h
 have h1:=bv_lt b
 have h2:=bv_lt c
 have h3:256^b.size≤256^k:=Nat.pow_le_pow_right (by decide) hb
 have h4:256^c.size≤256^k:=Nat.pow_le_pow_right (by decide) hc
 have h5:=Nat.pow_pos (n:=k) (show 0 < 256 by decide)
 refine⟨?_,den1_pos _,?_⟩
 ·show(sgn s (bv b)).natAbs < 256^k
  rw [sgn_natAbs]
  omega
 ·show den1 (bv c) < 256^(k+1)
  rw [Nat.pow_succ]
  unfold den1
  split<;>omega
theorem rdR_eq (v:Value):rdR v=mkRat (rdN v) (rdD v):=rfl
end Go.Num
namespace Go.Proofs
open Go Go.Ex Go.Num
set_option maxRecDepth 100000
def c135:List PV→Option Ans
 |[.val v,.val u]=>some ⟨some (isRk 1073741824 v∧isRk 1073741824 u),.val (goInt (cmpQ (rdR v) (rdR u))),[]⟩
 |_=>none
def D135:Opt:={ perm:=atR 11 [(0,true),(1,true),(3,true),(4,true),(2,false),(5,false),(6,false)] }
theorem ok135:funcOk D135.toOrd Tryz.f135 2=true:=by kernel_rfl
theorem f135:FnOk Tryz.prog 135 c135:=by
 refine FnOk.ofW orders (mkE_ok (l:=[(180,c180),(182,c182),(185,c185),(186,c186)]) (own:=[]) (inl:=[]) (by simp [f180,f182,f185,f186]) (by simp)) Tryz.func135 D135 2 ok135 fun args r e=>?_
 unfold c135 at e
 split at e
 ·rename_i v u
  cases e
  refine⟨by simp,fun hm=>?_⟩
  obtain⟨hv,hu⟩:=hm _ rfl
  have r1:=hv.R (by decide)
  have r2:=hu.R (by decide)
  have p1:isRk 17179869184 v:=hv.mono (by decide)
  have p2:isRk 17179869184 u:=hu.mono (by decide)
  have b1:=hv.b
  have b2:=hu.b
  obtain⟨s,b,c,rfl,hb,hc⟩:=hv
  obtain⟨s',b',c',rfl,hb',hc'⟩:=hu
  refine⟨[],stOf [(0,.val (.agg ⟨[.bool s,.string b,.string c]⟩)),(1,.val (.agg ⟨[.bool s',.string b',.string c']⟩))] [] 0 [],Wo trivial ⟨rfl,rfl,trivial⟩ trivial,?_⟩
  obtain⟨K,hK⟩:∃K,K=1073741824:=⟨_,rfl⟩
  rw [←hK] at b1 b2
  obtain⟨b3,b4,b5⟩:=b1
  obtain⟨b6,b7,b8⟩:=b2
  have iN:isIk 17179869184 (intV (rdN (.agg ⟨[.bool s,.string b,.string c]⟩))):=isIk_intV b3 (by omega)
  have iD:isIk 17179869184 (intV ((rdD (.agg ⟨[.bool s,.string b,.string c]⟩):Nat):Int)):=isIk_intV (natN b5) (by omega)
  have iM:isIk 17179869184 (intV (rdN (.agg ⟨[.bool s',.string b',.string c']⟩))):=isIk_intV b6 (by omega)
  have iE:isIk 17179869184 (intV ((rdD (.agg ⟨[.bool s',.string b',.string c']⟩):Nat):Int)):=isIk_intV (natN b8) (by omega)
  have sm:sm3 (.agg ⟨[.bool s,.string b,.string c]⟩)=true→sm3 (.agg ⟨[.bool s',.string b',.string c']⟩)=true→((rdN (.agg ⟨[.bool s,.string b,.string c]⟩)).natAbs < 16777216∧(((rdD (.agg ⟨[.bool s,.string b,.string c]⟩):Nat):Int)).natAbs < 16777216)∧(rdN (.agg ⟨[.bool s',.string b',.string c']⟩)).natAbs < 16777216∧(((rdD (.agg ⟨[.bool s',.string b',.string c']⟩):Nat):Int)).natAbs < 16777216:=fun h h'=>by
   have k1:=sm3_b h
   have k2:=sm3_b h'
   exact⟨⟨k1.1,by simpa using k1.2.2⟩,k2.1,by simpa using k2.2.2⟩
  obtain⟨Q,hQ⟩:∃Q,Q=cmpQ (rdR (.agg ⟨[.bool s,.string b,.string c]⟩)) (rdR (.agg ⟨[.bool s',.string b',.string c']⟩)):=⟨_,rfl⟩
  have hQ2:Q=cmpI (rdN (.agg ⟨[.bool s,.string b,.string c]⟩)*((rdD (.agg ⟨[.bool s',.string b',.string c']⟩):Nat):Int)) (rdN (.agg ⟨[.bool s',.string b',.string c']⟩)*((rdD (.agg ⟨[.bool s,.string b,.string c]⟩):Nat):Int)):=by rw [hQ,rdR_eq,rdR_eq,cmp_mk _ _ (by omega) (by omega)]
  rw [←hQ]
  have ws:sm3 (.agg ⟨[.bool s,.string b,.string c]⟩)=true→sm3 (.agg ⟨[.bool s',.string b',.string c']⟩)=true→IntKind.i64.wrap ((bif sm3 (.agg ⟨[.bool s,.string b,.string c]⟩) then rdN (.agg ⟨[.bool s,.string b,.string c]⟩) else 0)*(bif sm3 (.agg ⟨[.bool s',.string b',.string c']⟩) then((rdD (.agg ⟨[.bool s',.string b',.string c']⟩):Nat):Int) else 0))=rdN (.agg ⟨[.bool s,.string b,.string c]⟩)*((rdD (.agg ⟨[.bool s',.string b',.string c']⟩):Nat):Int)∧IntKind.i64.wrap ((bif sm3 (.agg ⟨[.bool s',.string b',.string c']⟩) then rdN (.agg ⟨[.bool s',.string b',.string c']⟩) else 0)*(bif sm3 (.agg ⟨[.bool s,.string b,.string c]⟩) then((rdD (.agg ⟨[.bool s,.string b,.string c]⟩):Nat):Int) else 0))=rdN (.agg ⟨[.bool s',.string b',.string c']⟩)*((rdD (.agg ⟨[.bool s,.string b,.string c]⟩):Nat):Int):=fun h h'=>by
   have k:=sm h h'
   rw [h,h',cond_true,cond_true,cond_true,cond_true,wmul k.1.1 k.2.2,wmul k.2.1 k.1.2]
   exact⟨rfl,rfl⟩
  have v1:sm3 (.agg ⟨[.bool s,.string b,.string c]⟩)=true→sm3 (.agg ⟨[.bool s',.string b',.string c']⟩)=true→decide (IntKind.i64.wrap ((bif sm3 (.agg ⟨[.bool s,.string b,.string c]⟩) then rdN (.agg ⟨[.bool s,.string b,.string c]⟩) else 0)*(bif sm3 (.agg ⟨[.bool s',.string b',.string c']⟩) then((rdD (.agg ⟨[.bool s',.string b',.string c']⟩):Nat):Int) else 0)) < IntKind.i64.wrap ((bif sm3 (.agg ⟨[.bool s',.string b',.string c']⟩) then rdN (.agg ⟨[.bool s',.string b',.string c']⟩) else 0)*(bif sm3 (.agg ⟨[.bool s,.string b,.string c]⟩) then((rdD (.agg ⟨[.bool s,.string b,.string c]⟩):Nat):Int) else 0)))=true→PV.val (.int .i64 (-1))=PV.val (goInt Q):=fun h h' k=>by
   rw [(ws h h').1,(ws h h').2] at k
   rw [hQ2,cmpI,if_pos (of_decide_eq_true k)]
   rfl
  have v2:sm3 (.agg ⟨[.bool s,.string b,.string c]⟩)=true→sm3 (.agg ⟨[.bool s',.string b',.string c']⟩)=true→decide (IntKind.i64.wrap ((bif sm3 (.agg ⟨[.bool s,.string b,.string c]⟩) then rdN (.agg ⟨[.bool s,.string b,.string c]⟩) else 0)*(bif sm3 (.agg ⟨[.bool s',.string b',.string c']⟩) then((rdD (.agg ⟨[.bool s',.string b',.string c']⟩):Nat):Int) else 0)) < IntKind.i64.wrap ((bif sm3 (.agg ⟨[.bool s',.string b',.string c']⟩) then rdN (.agg ⟨[.bool s',.string b',.string c']⟩) else 0)*(bif sm3 (.agg ⟨[.bool s,.string b,.string c]⟩) then((rdD (.agg ⟨[.bool s,.string b,.string c]⟩):Nat):Int) else 0)))=false→decide (IntKind.i64.wrap ((bif sm3 (.agg ⟨[.bool s,.string b,.string c]⟩) then rdN (.agg ⟨[.bool s,.string b,.string c]⟩) else 0)*(bif sm3 (.agg ⟨[.bool s',.string b',.string c']⟩) then((rdD (.agg ⟨[.bool s',.string b',.string c']⟩):Nat):Int) else 0)) > IntKind.i64.wrap ((bif sm3 (.agg ⟨[.bool s',.string b',.string c']⟩) then rdN (.agg ⟨[.bool s',.string b',.string c']⟩) else 0)*(bif sm3 (.agg ⟨[.bool s,.string b,.string c]⟩) then((rdD (.agg ⟨[.bool s,.string b,.string c]⟩):Nat):Int) else 0)))=true→PV.val (.int .i64 1)=PV.val (goInt Q):=fun h h' k l=>by
   rw [(ws h h').1,(ws h h').2] at k l
   rw [hQ2,cmpI,if_neg (of_decide_eq_false k),if_pos (of_decide_eq_true l)]
   rfl
  have v3:sm3 (.agg ⟨[.bool s,.string b,.string c]⟩)=true→sm3 (.agg ⟨[.bool s',.string b',.string c']⟩)=true→decide (IntKind.i64.wrap ((bif sm3 (.agg ⟨[.bool s,.string b,.string c]⟩) then rdN (.agg ⟨[.bool s,.string b,.string c]⟩) else 0)*(bif sm3 (.agg ⟨[.bool s',.string b',.string c']⟩) then((rdD (.agg ⟨[.bool s',.string b',.string c']⟩):Nat):Int) else 0)) < IntKind.i64.wrap ((bif sm3 (.agg ⟨[.bool s',.string b',.string c']⟩) then rdN (.agg ⟨[.bool s',.string b',.string c']⟩) else 0)*(bif sm3 (.agg ⟨[.bool s,.string b,.string c]⟩) then((rdD (.agg ⟨[.bool s,.string b,.string c]⟩):Nat):Int) else 0)))=false→decide (IntKind.i64.wrap ((bif sm3 (.agg ⟨[.bool s,.string b,.string c]⟩) then rdN (.agg ⟨[.bool s,.string b,.string c]⟩) else 0)*(bif sm3 (.agg ⟨[.bool s',.string b',.string c']⟩) then((rdD (.agg ⟨[.bool s',.string b',.string c']⟩):Nat):Int) else 0)) > IntKind.i64.wrap ((bif sm3 (.agg ⟨[.bool s',.string b',.string c']⟩) then rdN (.agg ⟨[.bool s',.string b',.string c']⟩) else 0)*(bif sm3 (.agg ⟨[.bool s,.string b,.string c]⟩) then((rdD (.agg ⟨[.bool s,.string b,.string c]⟩):Nat):Int) else 0)))=false→PV.val (.int .i64 0)=PV.val (goInt Q):=fun h h' k l=>by
   rw [(ws h h').1,(ws h h').2] at k l
   rw [hQ2,cmpI,if_neg (of_decide_eq_false k),if_neg (of_decide_eq_false l)]
   rfl
  have v4:PV.val (goInt (cmpI (rdI (intV (rdI (intV (rdN (.agg ⟨[.bool s,.string b,.string c]⟩)))*rdI (intV (((rdD (.agg ⟨[.bool s',.string b',.string c']⟩):Nat):Int)))))) (rdI (intV (rdI (intV (rdN (.agg ⟨[.bool s',.string b',.string c']⟩)))*rdI (intV (((rdD (.agg ⟨[.bool s,.string b,.string c]⟩):Nat):Int))))))))=PV.val (goInt Q):=by rw [rdI_intV,rdI_intV,rdI_intV,rdI_intV,rdI_intV,rdI_intV,hQ2]
  have i1:isI (intV (rdI (intV (rdN (.agg ⟨[.bool s,.string b,.string c]⟩)))*rdI (intV (((rdD (.agg ⟨[.bool s',.string b',.string c']⟩):Nat):Int))))):=mulIJ b3 (natN b8) (by omega)
  have i2:isI (intV (rdI (intV (rdN (.agg ⟨[.bool s',.string b',.string c']⟩)))*rdI (intV (((rdD (.agg ⟨[.bool s,.string b,.string c]⟩):Nat):Int))))):=mulIJ b6 (natN b5) (by omega)
  with_unfolding_all exact⟨r1,r2,⟨fun h1=>⟨fun h2=>⟨fun h3=>⟨[],stOf [(4,.val (goInt Q))] [] 0 [],Wo trivial ⟨v1 h1 h2 h3,trivial⟩ trivial,rfl,rfl⟩,fun h3=>⟨fun h4=>⟨[],stOf [(4,.val (goInt Q))] [] 0 [],Wo trivial ⟨v2 h1 h2 h3 h4,trivial⟩ trivial,rfl,rfl⟩,fun h4=>⟨[],stOf [(4,.val (goInt Q))] [] 0 [],Wo trivial ⟨v3 h1 h2 h3 h4,trivial⟩ trivial,rfl,rfl⟩⟩⟩,fun h2=>⟨p1,p2,⟨iN,iE⟩,⟨iM,iD⟩,⟨i1,i2⟩,⟨[],stOf [(4,.val (goInt Q))] [] 0 [],Wo trivial ⟨v4,trivial⟩ trivial,rfl,rfl⟩⟩⟩,fun h1=>⟨fun h=>(nomatch h),fun _=>⟨p1,p2,⟨iN,iE⟩,⟨iM,iD⟩,⟨i1,i2⟩,⟨[],stOf [(4,.val (goInt Q))] [] 0 [],Wo trivial ⟨v4,trivial⟩ trivial,rfl,rfl⟩⟩⟩⟩⟩
 ·cases e
def c222:List PV→Option Ans
 |[.val v,.val u]=>some ⟨some (isRk 1073741824 v∧isRk 1073741824 u),.val (ratV (rdR v*rdR u)),[]⟩
 |_=>none
def D222:Opt:={ perm:=atR 7 [(0,true),(1,true),(3,true),(4,true),(2,false),(5,false),(6,false)] }
theorem ok222:funcOk D222.toOrd Tryz.f222 2=true:=by kernel_rfl
theorem f222:FnOk Tryz.prog 222 c222:=by
 refine FnOk.ofW orders (mkE_ok (l:=[(180,c180),(181,c181),(182,c182),(183,c183),(186,c186)]) (own:=[]) (inl:=[]) (by simp [f180,f181,f182,f183,f186]) (by simp)) Tryz.func222 D222 2 ok222 fun args r e=>?_
 unfold c222 at e
 split at e
 ·rename_i v u
  cases e
  refine⟨by simp,fun hm=>?_⟩
  obtain⟨hv,hu⟩:=hm _ rfl
  have r1:=hv.R (by decide)
  have r2:=hu.R (by decide)
  have p1:isRk 17179869184 v:=hv.mono (by decide)
  have p2:isRk 17179869184 u:=hu.mono (by decide)
  have b1:=hv.b
  have b2:=hu.b
  obtain⟨s,b,c,rfl,hb,hc⟩:=hv
  obtain⟨s',b',c',rfl,hb',hc'⟩:=hu
  refine⟨[],stOf [(0,.val (.agg ⟨[.bool s,.string b,.string c]⟩)),(1,.val (.agg ⟨[.bool s',.string b',.string c']⟩))] [] 0 [],Wo trivial ⟨rfl,rfl,trivial⟩ trivial,?_⟩
  obtain⟨K,hK⟩:∃K,K=1073741824:=⟨_,rfl⟩
  rw [←hK] at b1 b2
  obtain⟨b3,b4,b5⟩:=b1
  obtain⟨b6,b7,b8⟩:=b2
  have iN:isIk 17179869184 (intV (rdN (.agg ⟨[.bool s,.string b,.string c]⟩))):=isIk_intV b3 (by omega)
  have iD:isIk 17179869184 (intV ((rdD (.agg ⟨[.bool s,.string b,.string c]⟩):Nat):Int)):=isIk_intV (natN b5) (by omega)
  have iM:isIk 17179869184 (intV (rdN (.agg ⟨[.bool s',.string b',.string c']⟩))):=isIk_intV b6 (by omega)
  have iE:isIk 17179869184 (intV ((rdD (.agg ⟨[.bool s',.string b',.string c']⟩):Nat):Int)):=isIk_intV (natN b8) (by omega)
  have sm:sm3 (.agg ⟨[.bool s,.string b,.string c]⟩)=true→sm3 (.agg ⟨[.bool s',.string b',.string c']⟩)=true→((rdN (.agg ⟨[.bool s,.string b,.string c]⟩)).natAbs < 16777216∧(((rdD (.agg ⟨[.bool s,.string b,.string c]⟩):Nat):Int)).natAbs < 16777216)∧(rdN (.agg ⟨[.bool s',.string b',.string c']⟩)).natAbs < 16777216∧(((rdD (.agg ⟨[.bool s',.string b',.string c']⟩):Nat):Int)).natAbs < 16777216:=fun h h'=>by
   have k1:=sm3_b h
   have k2:=sm3_b h'
   exact⟨⟨k1.1,by simpa using k1.2.2⟩,k2.1,by simpa using k2.2.2⟩
  obtain⟨Q,hQ⟩:∃Q,Q=rdR (.agg ⟨[.bool s,.string b,.string c]⟩)*rdR (.agg ⟨[.bool s',.string b',.string c']⟩):=⟨_,rfl⟩
  rw [←hQ]
  have hQ2:Q=mkRat (rdN (.agg ⟨[.bool s,.string b,.string c]⟩)*rdN (.agg ⟨[.bool s',.string b',.string c']⟩)) (rdD (.agg ⟨[.bool s,.string b,.string c]⟩)*rdD (.agg ⟨[.bool s',.string b',.string c']⟩)):=by rw [hQ,rdR_eq,rdR_eq,Rat.mkRat_mul_mkRat]
  have dd:((rdD (.agg ⟨[.bool s,.string b,.string c]⟩):Nat):Int)*((rdD (.agg ⟨[.bool s',.string b',.string c']⟩):Nat):Int)=((rdD (.agg ⟨[.bool s,.string b,.string c]⟩)*rdD (.agg ⟨[.bool s',.string b',.string c']⟩):Nat):Int):=by rw [Int.natCast_mul]
  have dpos:0 < rdD (.agg ⟨[.bool s,.string b,.string c]⟩)*rdD (.agg ⟨[.bool s',.string b',.string c']⟩):=Nat.mul_pos b4 b7
  have w:sm3 (.agg ⟨[.bool s,.string b,.string c]⟩)=true→sm3 (.agg ⟨[.bool s',.string b',.string c']⟩)=true→((IntKind.i64.wrap ((bif sm3 (.agg ⟨[.bool s,.string b,.string c]⟩) then rdN (.agg ⟨[.bool s,.string b,.string c]⟩) else 0)*(bif sm3 (.agg ⟨[.bool s',.string b',.string c']⟩) then rdN (.agg ⟨[.bool s',.string b',.string c']⟩) else 0))).natAbs < 72057594037927936∧0 < IntKind.i64.wrap ((bif sm3 (.agg ⟨[.bool s,.string b,.string c]⟩) then((rdD (.agg ⟨[.bool s,.string b,.string c]⟩):Nat):Int) else 0)*(bif sm3 (.agg ⟨[.bool s',.string b',.string c']⟩) then((rdD (.agg ⟨[.bool s',.string b',.string c']⟩):Nat):Int) else 0))∧IntKind.i64.wrap ((bif sm3 (.agg ⟨[.bool s,.string b,.string c]⟩) then((rdD (.agg ⟨[.bool s,.string b,.string c]⟩):Nat):Int) else 0)*(bif sm3 (.agg ⟨[.bool s',.string b',.string c']⟩) then((rdD (.agg ⟨[.bool s',.string b',.string c']⟩):Nat):Int) else 0)) < 72057594037927936)∧mkRat (IntKind.i64.wrap ((bif sm3 (.agg ⟨[.bool s,.string b,.string c]⟩) then rdN (.agg ⟨[.bool s,.string b,.string c]⟩) else 0)*(bif sm3 (.agg ⟨[.bool s',.string b',.string c']⟩) then rdN (.agg ⟨[.bool s',.string b',.string c']⟩) else 0))) (IntKind.i64.wrap ((bif sm3 (.agg ⟨[.bool s,.string b,.string c]⟩) then((rdD (.agg ⟨[.bool s,.string b,.string c]⟩):Nat):Int) else 0)*(bif sm3 (.agg ⟨[.bool s',.string b',.string c']⟩) then((rdD (.agg ⟨[.bool s',.string b',.string c']⟩):Nat):Int) else 0))).toNat=Q:=fun h h'=>by
   have k:=sm h h'
   have m1:=mul24 k.1.1 k.2.1
   have m2:=mul24 k.1.2 k.2.2
   rw [h,h',cond_true,cond_true,cond_true,cond_true,wmul k.1.1 k.2.1,wmul k.1.2 k.2.2]
   rw [dd] at m2 ⊢
   rw [hQ2,Int.toNat_natCast]
   exact⟨⟨by omega,by omega,by omega⟩,rfl⟩
  have e2:Rat.divInt (rdI (intV (rdI (intV (rdN (.agg ⟨[.bool s,.string b,.string c]⟩)))*rdI (intV (rdN (.agg ⟨[.bool s',.string b',.string c']⟩)))))) (rdI (intV (rdI (intV (((rdD (.agg ⟨[.bool s,.string b,.string c]⟩):Nat):Int)))*rdI (intV (((rdD (.agg ⟨[.bool s',.string b',.string c']⟩):Nat):Int))))))=Q:=by
   simp only [rdI_intV]
   rw [dd,Rat.divInt_ofNat,hQ2]
  have i2:isIk 8589934592 (intV (rdI (intV (((rdD (.agg ⟨[.bool s,.string b,.string c]⟩):Nat):Int)))*rdI (intV (((rdD (.agg ⟨[.bool s',.string b',.string c']⟩):Nat):Int))))):=mulII (natN b5) (natN b8) (by omega)
  have i3:rdI (intV (rdI (intV (((rdD (.agg ⟨[.bool s,.string b,.string c]⟩):Nat):Int)))*rdI (intV (((rdD (.agg ⟨[.bool s',.string b',.string c']⟩):Nat):Int)))))≠0:=by
   rw [rdI_intV,rdI_intV,rdI_intV,dd]
   omega
  have i1:isIk 8589934592 (intV (rdI (intV (rdN (.agg ⟨[.bool s,.string b,.string c]⟩)))*rdI (intV (rdN (.agg ⟨[.bool s',.string b',.string c']⟩))))):=mulII b3 b6 (by omega)
  with_unfolding_all exact⟨r1,r2,⟨fun h1=>⟨fun h2=>⟨(w h1 h2).1,⟨[some 2],stOf [(4,.ptr 0 0 0 0)] [boxR (decide (Q.num < 0)) (numB Q.num.natAbs) (denT Q.den) 0] 1 [],Wo ⟨⟨lt_ok rfl,rfl,rfl,rfl,rfl,rfl,⟨cbq (w h1 h2).2,rfl⟩,⟨csq (w h1 h2).2,rfl⟩,⟨cdq (w h1 h2).2,rfl⟩,trivial⟩,trivial⟩ ⟨pP,trivial⟩ trivial,rfl,rfl⟩⟩,fun h2=>⟨p1,p2,⟨iN,iM⟩,⟨iD,iE⟩,⟨⟨i1,i2⟩,i3⟩,⟨[some 2],stOf [(4,.ptr 0 0 0 0)] [boxR (decide (Q.num < 0)) (numB Q.num.natAbs) (denT Q.den) 0] 1 [],Wo ⟨⟨lt_ok rfl,rfl,rfl,rfl,rfl,rfl,⟨cbq e2,rfl⟩,⟨csq e2,rfl⟩,⟨cdq e2,rfl⟩,trivial⟩,trivial⟩ ⟨pP,trivial⟩ trivial,rfl,rfl⟩⟩⟩,fun h1=>⟨fun h=>(nomatch h),fun _=>⟨p1,p2,⟨iN,iM⟩,⟨iD,iE⟩,⟨⟨i1,i2⟩,i3⟩,⟨[some 2],stOf [(4,.ptr 0 0 0 0)] [boxR (decide (Q.num < 0)) (numB Q.num.natAbs) (denT Q.den) 0] 1 [],Wo ⟨⟨lt_ok rfl,rfl,rfl,rfl,rfl,rfl,⟨cbq e2,rfl⟩,⟨csq e2,rfl⟩,⟨cdq e2,rfl⟩,trivial⟩,trivial⟩ ⟨pP,trivial⟩ trivial,rfl,rfl⟩⟩⟩⟩⟩
 ·cases e
def c244:List PV→Option Ans
 |[.val v,.val u]=>some ⟨some (isRk 1073741824 v∧isRk 1073741824 u),.val (ratV (rdR v+rdR u)),[]⟩
 |_=>none
def D244:Opt:={ perm:=atR 7 [(0,true),(1,true),(3,true),(4,true),(7,true),(8,true),(2,false),(5,false),(6,false),(9,false),(10,false)] }
theorem ok244:funcOk D244.toOrd Tryz.f244 2=true:=by kernel_rfl
theorem f244:FnOk Tryz.prog 244 c244:=by
 refine FnOk.ofW orders (mkE_ok (l:=[(180,c180),(181,c181),(182,c182),(183,c183),(186,c186),(225,c225)]) (own:=[]) (inl:=[]) (by simp [f180,f181,f182,f183,f186,f225]) (by simp)) Tryz.func244 D244 2 ok244 fun args r e=>?_
 unfold c244 at e
 split at e
 ·rename_i v u
  cases e
  refine⟨by simp,fun hm=>?_⟩
  obtain⟨hv,hu⟩:=hm _ rfl
  have r1:=hv.R (by decide)
  have r2:=hu.R (by decide)
  have p1:isRk 17179869184 v:=hv.mono (by decide)
  have p2:isRk 17179869184 u:=hu.mono (by decide)
  have b1:=hv.b
  have b2:=hu.b
  obtain⟨s,b,c,rfl,hb,hc⟩:=hv
  obtain⟨s',b',c',rfl,hb',hc'⟩:=hu
  refine⟨[],stOf [(0,.val (.agg ⟨[.bool s,.string b,.string c]⟩)),(1,.val (.agg ⟨[.bool s',.string b',.string c']⟩))] [] 0 [],Wo trivial ⟨rfl,rfl,trivial⟩ trivial,?_⟩
  obtain⟨K,hK⟩:∃K,K=1073741824:=⟨_,rfl⟩
  rw [←hK] at b1 b2
  obtain⟨b3,b4,b5⟩:=b1
  obtain⟨b6,b7,b8⟩:=b2
  have iN:isIk 17179869184 (intV (rdN (.agg ⟨[.bool s,.string b,.string c]⟩))):=isIk_intV b3 (by omega)
  have iD:isIk 17179869184 (intV ((rdD (.agg ⟨[.bool s,.string b,.string c]⟩):Nat):Int)):=isIk_intV (natN b5) (by omega)
  have iM:isIk 17179869184 (intV (rdN (.agg ⟨[.bool s',.string b',.string c']⟩))):=isIk_intV b6 (by omega)
  have iE:isIk 17179869184 (intV ((rdD (.agg ⟨[.bool s',.string b',.string c']⟩):Nat):Int)):=isIk_intV (natN b8) (by omega)
  have sm:sm3 (.agg ⟨[.bool s,.string b,.string c]⟩)=true→sm3 (.agg ⟨[.bool s',.string b',.string c']⟩)=true→((rdN (.agg ⟨[.bool s,.string b,.string c]⟩)).natAbs < 16777216∧(((rdD (.agg ⟨[.bool s,.string b,.string c]⟩):Nat):Int)).natAbs < 16777216)∧(rdN (.agg ⟨[.bool s',.string b',.string c']⟩)).natAbs < 16777216∧(((rdD (.agg ⟨[.bool s',.string b',.string c']⟩):Nat):Int)).natAbs < 16777216:=fun h h'=>by
   have k1:=sm3_b h
   have k2:=sm3_b h'
   exact⟨⟨k1.1,by simpa using k1.2.2⟩,k2.1,by simpa using k2.2.2⟩
  obtain⟨Q,hQ⟩:∃Q,Q=rdR (.agg ⟨[.bool s,.string b,.string c]⟩)+rdR (.agg ⟨[.bool s',.string b',.string c']⟩):=⟨_,rfl⟩
  rw [←hQ]
  have hQ2:Q=mkRat (rdN (.agg ⟨[.bool s,.string b,.string c]⟩)*((rdD (.agg ⟨[.bool s',.string b',.string c']⟩):Nat):Int)+rdN (.agg ⟨[.bool s',.string b',.string c']⟩)*((rdD (.agg ⟨[.bool s,.string b,.string c]⟩):Nat):Int)) (rdD (.agg ⟨[.bool s,.string b,.string c]⟩)*rdD (.agg ⟨[.bool s',.string b',.string c']⟩)):=by rw [hQ,rdR_eq,rdR_eq,Rat.mkRat_add_mkRat _ _ (by omega) (by omega)]
  have dd:((rdD (.agg ⟨[.bool s,.string b,.string c]⟩):Nat):Int)*((rdD (.agg ⟨[.bool s',.string b',.string c']⟩):Nat):Int)=((rdD (.agg ⟨[.bool s,.string b,.string c]⟩)*rdD (.agg ⟨[.bool s',.string b',.string c']⟩):Nat):Int):=by rw [Int.natCast_mul]
  have dpos:0 < rdD (.agg ⟨[.bool s,.string b,.string c]⟩)*rdD (.agg ⟨[.bool s',.string b',.string c']⟩):=Nat.mul_pos b4 b7
  have w:sm3 (.agg ⟨[.bool s,.string b,.string c]⟩)=true→sm3 (.agg ⟨[.bool s',.string b',.string c']⟩)=true→((IntKind.i64.wrap (IntKind.i64.wrap ((bif sm3 (.agg ⟨[.bool s,.string b,.string c]⟩) then rdN (.agg ⟨[.bool s,.string b,.string c]⟩) else 0)*(bif sm3 (.agg ⟨[.bool s',.string b',.string c']⟩) then((rdD (.agg ⟨[.bool s',.string b',.string c']⟩):Nat):Int) else 0))+IntKind.i64.wrap ((bif sm3 (.agg ⟨[.bool s',.string b',.string c']⟩) then rdN (.agg ⟨[.bool s',.string b',.string c']⟩) else 0)*(bif sm3 (.agg ⟨[.bool s,.string b,.string c]⟩) then((rdD (.agg ⟨[.bool s,.string b,.string c]⟩):Nat):Int) else 0)))).natAbs < 72057594037927936∧0 < IntKind.i64.wrap ((bif sm3 (.agg ⟨[.bool s,.string b,.string c]⟩) then((rdD (.agg ⟨[.bool s,.string b,.string c]⟩):Nat):Int) else 0)*(bif sm3 (.agg ⟨[.bool s',.string b',.string c']⟩) then((rdD (.agg ⟨[.bool s',.string b',.string c']⟩):Nat):Int) else 0))∧IntKind.i64.wrap ((bif sm3 (.agg ⟨[.bool s,.string b,.string c]⟩) then((rdD (.agg ⟨[.bool s,.string b,.string c]⟩):Nat):Int) else 0)*(bif sm3 (.agg ⟨[.bool s',.string b',.string c']⟩) then((rdD (.agg ⟨[.bool s',.string b',.string c']⟩):Nat):Int) else 0)) < 72057594037927936)∧mkRat (IntKind.i64.wrap (IntKind.i64.wrap ((bif sm3 (.agg ⟨[.bool s,.string b,.string c]⟩) then rdN (.agg ⟨[.bool s,.string b,.string c]⟩) else 0)*(bif sm3 (.agg ⟨[.bool s',.string b',.string c']⟩) then((rdD (.agg ⟨[.bool s',.string b',.string c']⟩):Nat):Int) else 0))+IntKind.i64.wrap ((bif sm3 (.agg ⟨[.bool s',.string b',.string c']⟩) then rdN (.agg ⟨[.bool s',.string b',.string c']⟩) else 0)*(bif sm3 (.agg ⟨[.bool s,.string b,.string c]⟩) then((rdD (.agg ⟨[.bool s,.string b,.string c]⟩):Nat):Int) else 0)))) (IntKind.i64.wrap ((bif sm3 (.agg ⟨[.bool s,.string b,.string c]⟩) then((rdD (.agg ⟨[.bool s,.string b,.string c]⟩):Nat):Int) else 0)*(bif sm3 (.agg ⟨[.bool s',.string b',.string c']⟩) then((rdD (.agg ⟨[.bool s',.string b',.string c']⟩):Nat):Int) else 0))).toNat=Q:=fun h h'=>by
   have k:=sm h h'
   have m0:=mul24 k.1.1 k.2.2
   have m1:=mul24 k.2.1 k.1.2
   have m2:=mul24 k.1.2 k.2.2
   rw [h,h',cond_true,cond_true,cond_true,cond_true,wmul k.1.1 k.2.2,wmul k.2.1 k.1.2,wmul k.1.2 k.2.2,wrap64 (by omega) (by omega)]
   rw [dd] at m2 ⊢
   rw [hQ2,Int.toNat_natCast]
   exact⟨⟨by omega,by omega,by omega⟩,rfl⟩
  have e2:Rat.divInt (rdI (intV (rdI (intV (rdI (intV (rdN (.agg ⟨[.bool s,.string b,.string c]⟩)))*rdI (intV (((rdD (.agg ⟨[.bool s',.string b',.string c']⟩):Nat):Int)))))+rdI (intV (rdI (intV (rdN (.agg ⟨[.bool s',.string b',.string c']⟩)))*rdI (intV (((rdD (.agg ⟨[.bool s,.string b,.string c]⟩):Nat):Int)))))))) (rdI (intV (rdI (intV (((rdD (.agg ⟨[.bool s,.string b,.string c]⟩):Nat):Int)))*rdI (intV (((rdD (.agg ⟨[.bool s',.string b',.string c']⟩):Nat):Int))))))=Q:=by
   simp only [rdI_intV]
   rw [dd,Rat.divInt_ofNat,hQ2]
  have i2:isIk 8589934592 (intV (rdI (intV (((rdD (.agg ⟨[.bool s,.string b,.string c]⟩):Nat):Int)))*rdI (intV (((rdD (.agg ⟨[.bool s',.string b',.string c']⟩):Nat):Int))))):=mulII (natN b5) (natN b8) (by omega)
  have i3:rdI (intV (rdI (intV (((rdD (.agg ⟨[.bool s,.string b,.string c]⟩):Nat):Int)))*rdI (intV (((rdD (.agg ⟨[.bool s',.string b',.string c']⟩):Nat):Int)))))≠0:=by
   rw [rdI_intV,rdI_intV,rdI_intV,dd]
   omega
  have i0:isIk 17179869184 (intV (rdI (intV (rdN (.agg ⟨[.bool s,.string b,.string c]⟩)))*rdI (intV (((rdD (.agg ⟨[.bool s',.string b',.string c']⟩):Nat):Int))))):=mulII b3 (natN b8) (by omega)
  have i1:isIk 17179869184 (intV (rdI (intV (rdN (.agg ⟨[.bool s',.string b',.string c']⟩)))*rdI (intV (((rdD (.agg ⟨[.bool s,.string b,.string c]⟩):Nat):Int))))):=mulII b6 (natN b5) (by omega)
  have i4:isIk 8589934592 (intV (rdI (intV (rdI (intV (rdN (.agg ⟨[.bool s,.string b,.string c]⟩)))*rdI (intV (((rdD (.agg ⟨[.bool s',.string b',.string c']⟩):Nat):Int)))))+rdI (intV (rdI (intV (rdN (.agg ⟨[.bool s',.string b',.string c']⟩)))*rdI (intV (((rdD (.agg ⟨[.bool s,.string b,.string c]⟩):Nat):Int))))))):=by
   rw [rdI_intV,rdI_intV,rdI_intV,rdI_intV,rdI_intV,rdI_intV]
   exact isIk_intV (addI (mulN b3 (natN b8)) (mulN b6 (natN b5))) (by omega)
  with_unfolding_all exact⟨r1,r2,⟨fun h1=>⟨fun h2=>⟨(w h1 h2).1,⟨[some 2],stOf [(4,.ptr 0 0 0 0)] [boxR (decide (Q.num < 0)) (numB Q.num.natAbs) (denT Q.den) 0] 1 [],Wo ⟨⟨lt_ok rfl,rfl,rfl,rfl,rfl,rfl,⟨cbq (w h1 h2).2,rfl⟩,⟨csq (w h1 h2).2,rfl⟩,⟨cdq (w h1 h2).2,rfl⟩,trivial⟩,trivial⟩ ⟨pP,trivial⟩ trivial,rfl,rfl⟩⟩,fun h2=>⟨p1,p2,⟨iN,iE⟩,⟨iM,iD⟩,⟨i0,i1⟩,⟨iD,iE⟩,⟨⟨i4,i2⟩,i3⟩,⟨[some 2],stOf [(4,.ptr 0 0 0 0)] [boxR (decide (Q.num < 0)) (numB Q.num.natAbs) (denT Q.den) 0] 1 [],Wo ⟨⟨lt_ok rfl,rfl,rfl,rfl,rfl,rfl,⟨cbq e2,rfl⟩,⟨csq e2,rfl⟩,⟨cdq e2,rfl⟩,trivial⟩,trivial⟩ ⟨pP,trivial⟩ trivial,rfl,rfl⟩⟩⟩,fun h1=>⟨fun h=>(nomatch h),fun _=>⟨p1,p2,⟨iN,iE⟩,⟨iM,iD⟩,⟨i0,i1⟩,⟨iD,iE⟩,⟨⟨i4,i2⟩,i3⟩,⟨[some 2],stOf [(4,.ptr 0 0 0 0)] [boxR (decide (Q.num < 0)) (numB Q.num.natAbs) (denT Q.den) 0] 1 [],Wo ⟨⟨lt_ok rfl,rfl,rfl,rfl,rfl,rfl,⟨cbq e2,rfl⟩,⟨csq e2,rfl⟩,⟨cdq e2,rfl⟩,trivial⟩,trivial⟩ ⟨pP,trivial⟩ trivial,rfl,rfl⟩⟩⟩⟩⟩
 ·cases e
def c221:List PV→Option Ans
 |[.val v,.val u]=>some ⟨some (isRk 1073741824 v∧isRk 1073741824 u),.val (ratV (rdR v - rdR u)),[]⟩
 |_=>none
theorem ok221:funcOk {} Tryz.f221 2=true:=by kernel_rfl
theorem f221:FnOk Tryz.prog 221 c221:=by
 refine FnOk.ofW orders (mkE_ok (l:=[(244,c244)]) (own:=[]) (inl:=[]) (by simp [f244]) (by simp)) Tryz.func221 {} 2 ok221 fun args r e=>?_
 unfold c221 at e
 split at e
 ·rename_i v u
  cases e
  refine⟨by simp,fun hm=>?_⟩
  obtain⟨hv,hu⟩:=hm _ rfl
  obtain⟨s,b,c,rfl,hb,hc⟩:=hv
  obtain⟨s',b',c',rfl,hb',hc'⟩:=hu
  refine⟨[],stOf [(0,.val (.agg ⟨[.bool s,.string b,.string c]⟩)),(1,.val (.agg ⟨[.bool s',.string b',.string c']⟩))] [] 0 [],Wo trivial ⟨rfl,rfl,trivial⟩ trivial,?_⟩
  obtain⟨Q,hQ⟩:∃Q,Q=rdR (.agg ⟨[.bool s,.string b,.string c]⟩) - rdR (.agg ⟨[.bool s',.string b',.string c']⟩):=⟨_,rfl⟩
  rw [←hQ]
  have e2:rdR (.agg ⟨[.bool s,.string b,.string c]⟩)+rdR (.agg ⟨[.bool (!s'),.string b',.string c']⟩)=Q:=by rw [hQ,rdR_neg,Rat.sub_eq_add_neg]
  with_unfolding_all exact⟨⟨⟨_,_,_,rfl,hb,hc⟩,_,_,_,rfl,hb',hc'⟩,⟨[some 2],stOf [(4,.ptr 0 0 0 0)] [boxR (decide (Q.num < 0)) (numB Q.num.natAbs) (denT Q.den) 0] 1 [],Wo ⟨⟨lt_ok rfl,rfl,rfl,rfl,rfl,rfl,⟨cbq e2,rfl⟩,⟨csq e2,rfl⟩,⟨cdq e2,rfl⟩,trivial⟩,trivial⟩ ⟨pP,trivial⟩ trivial,rfl,rfl⟩⟩
 ·cases e
end Go.Proofs
namespace Go.Proofs
open Go Go.Ex Go.Num
set_option maxRecDepth 100000
def c177:List PV→Option Ans
 |[.val v]=>some ⟨some (isRk 1073741824 v),.val (goInt (cmpQ (rdR v) 0)),[]⟩
 |_=>none
def D177:Opt:={  }
theorem ok177:funcOk D177.toOrd Tryz.f177 1=true:=by kernel_rfl
theorem f177:FnOk Tryz.prog 177 c177:=by
 refine FnOk.ofW orders (mkE_ok (l:=[(135,c135)]) (own:=[]) (inl:=[]) (by simp [f135]) (by simp)) Tryz.func177 D177 1 ok177 fun args r e=>?_
 unfold c177 at e
 split at e
 ·rename_i v
  cases e
  refine⟨by simp,fun hm=>?_⟩
  have hv:=hm _ rfl
  obtain⟨s,b,c,rfl,hb,hc⟩:=hv
  refine⟨[],stOf [(0,.val (.agg ⟨[.bool s,.string b,.string c]⟩))] [] 0 [],Wo trivial ⟨rfl,trivial⟩ trivial,?_⟩
  have e0:rdR (.agg ⟨[.bool false,.string ⟨#[]⟩,.string ⟨#[]⟩]⟩)=0:=by rw [←ratV_zero,rdR_ratV]
  have z:isRk 1073741824 (.agg ⟨[.bool false,.string ⟨#[]⟩,.string ⟨#[]⟩]⟩):=⟨_,_,_,rfl,by decide,by decide⟩
  have v:PV.val (goInt (cmpQ (rdR (.agg ⟨[.bool s,.string b,.string c]⟩)) (rdR (.agg ⟨[.bool false,.string ⟨#[]⟩,.string ⟨#[]⟩]⟩))))=PV.val (goInt (cmpQ (rdR (.agg ⟨[.bool s,.string b,.string c]⟩)) 0)):=by rw [e0]
  with_unfolding_all exact⟨⟨⟨_,_,_,rfl,hb,hc⟩,z⟩,⟨[],stOf [(2,.val (goInt (cmpQ (rdR (.agg ⟨[.bool s,.string b,.string c]⟩)) 0)))] [] 0 [],Wo trivial ⟨v,trivial⟩ trivial,rfl,rfl⟩⟩
 ·cases e
def c98:List PV→Option Ans
 |[.val v,.val u]=>some ⟨some (isPk 1073741824 v∧isPk 1073741824 u),.val (goInt (cmpP (rdV v) (rdV u))),[]⟩
 |_=>none
def D98:Opt:={  }
theorem ok98:funcOk D98.toOrd Tryz.f98 2=true:=by kernel_rfl
theorem f98:FnOk Tryz.prog 98 c98:=by
 refine FnOk.ofW orders (mkE_ok (l:=[(135,c135)]) (own:=[]) (inl:=[]) (by simp [f135]) (by simp)) Tryz.func98 D98 2 ok98 fun args r e=>?_
 unfold c98 at e
 split at e
 ·rename_i v u
  cases e
  refine⟨by simp,fun hm=>?_⟩
  obtain⟨⟨p,rfl,hp⟩,u,rfl,hu⟩:=hm _ rfl
  refine⟨[],stOf [(0,.val p.v),(1,.val u.v)] [] 0 [],Wo trivial ⟨rfl,rfl,trivial⟩ trivial,?_⟩
  have hx:=And.intro (isRk_x hp (Nat.le_refl _)) (isRk_x hu (Nat.le_refl _))
  have hy:=And.intro (isRk_y hp (Nat.le_refl _)) (isRk_y hu (Nat.le_refl _))
  have t1:(!(cmpQ p.X u.X==0))=true→PV.val (goInt (cmpQ p.X u.X))=PV.val (goInt (cmpP p u)):=fun h=>by
   have h:¬cmpQ p.X u.X=0:=by simpa using h
   rw [cmpP,if_neg h]
  have t2:(!(cmpQ p.X u.X==0))=false→PV.val (goInt (cmpQ p.Y u.Y))=PV.val (goInt (cmpP p u)):=fun h=>by
   have h:cmpQ p.X u.X=0:=by simpa using h
   rw [cmpP,if_pos h]
  with_unfolding_all exact⟨hx,fun h=>⟨[],stOf [(4,.val (goInt (cmpP p u)))] [] 0 [],Wo trivial ⟨t1 h,trivial⟩ trivial,rfl,rfl⟩,fun h=>⟨hy,⟨[],stOf [(4,.val (goInt (cmpP p u)))] [] 0 [],Wo trivial ⟨t2 h,trivial⟩ trivial,rfl,rfl⟩⟩⟩
 ·cases e
def c179:List PV→Option Ans
 |[.val v,.val u]=>some ⟨some (isPk 1000000 v∧isPk 1000000 u),.val (subP (rdV v) (rdV u)).v,[]⟩
 |_=>none
def D179:Opt:={ perm:=atR 1 [(0,true),(1,true),(2,true),(3,true),(5,true),(6,true),(7,true),(8,true),(4,false),(9,false),(10,true)] }
theorem ok179:funcOk D179.toOrd Tryz.f179 2=true:=by kernel_rfl
theorem f179:FnOk Tryz.prog 179 c179:=by
 refine FnOk.ofW orders (mkE_ok (l:=[(221,c221)]) (own:=[]) (inl:=[]) (by simp [f221]) (by simp)) Tryz.func179 D179 2 ok179 fun args r e=>?_
 unfold c179 at e
 split at e
 ·rename_i v u
  cases e
  refine⟨by simp,fun hm=>?_⟩
  obtain⟨⟨p,rfl,hp⟩,u,rfl,hu⟩:=hm _ rfl
  refine⟨[],stOf [(0,.val p.v),(1,.val u.v)] [] 0 [],Wo trivial ⟨rfl,rfl,trivial⟩ trivial,?_⟩
  have hx:=And.intro (isRk_x hp (show 1000000≤1073741824 by decide)) (isRk_x hu (show 1000000≤1073741824 by decide))
  have hy:=And.intro (isRk_y hp (show 1000000≤1073741824 by decide)) (isRk_y hu (show 1000000≤1073741824 by decide))
  with_unfolding_all exact⟨hx,hy,[some 2],stOf [(4,.ptr 0 0 0 0)] [boxP (subP p u) 0] 1 [],Wo ⟨⟨lt_ok rfl,rfl,rfl,rfl,rfl,rfl,rq,rq,rq,rq,rq,rq,trivial⟩,trivial⟩ ⟨pP,trivial⟩ trivial,rfl,rfl⟩
 ·cases e
def c178:List PV→Option Ans
 |[.val v,.val u]=>some ⟨some (isPk 1000000 v∧isPk 1000000 u),.val (ratV (crossP (rdV v) (rdV u))),[]⟩
 |_=>none
def D178:Opt:={ perm:=atR 1 [(0,true),(1,true),(2,true),(3,true),(5,true),(6,true),(7,true),(8,true),(4,false),(9,false),(10,false)] }
theorem ok178:funcOk D178.toOrd Tryz.f178 2=true:=by kernel_rfl
theorem f178:FnOk Tryz.prog 178 c178:=by
 refine FnOk.ofW orders (mkE_ok (l:=[(222,c222),(221,c221)]) (own:=[]) (inl:=[]) (by simp [f222,f221]) (by simp)) Tryz.func178 D178 2 ok178 fun args r e=>?_
 unfold c178 at e
 split at e
 ·rename_i v u
  cases e
  refine⟨by simp,fun hm=>?_⟩
  obtain⟨⟨p,rfl,hp⟩,u,rfl,hu⟩:=hm _ rfl
  refine⟨[],stOf [(0,.val p.v),(1,.val u.v)] [] 0 [],Wo trivial ⟨rfl,rfl,trivial⟩ trivial,?_⟩
  have hx:=And.intro (isRk_x hp (show 1000000≤1073741824 by decide)) (isRk_y hu (show 1000000≤1073741824 by decide))
  have hy:=And.intro (isRk_y hp (show 1000000≤1073741824 by decide)) (isRk_x hu (show 1000000≤1073741824 by decide))
  have r1:isRk 1073741824 (ratV (p.X*u.Y)):=(hp.X.mul hu.Y).rk (by decide)
  have r2:isRk 1073741824 (ratV (p.Y*u.X)):=(hp.Y.mul hu.X).rk (by decide)
  obtain⟨Q,hQ⟩:∃Q,Q=crossP p u:=⟨_,rfl⟩
  have e:rdR (ratV (p.X*u.Y)) - rdR (ratV (p.Y*u.X))=Q:=by rw [rdR_ratV,rdR_ratV,hQ];rfl
  have hq:crossP (rdV p.v) (rdV u.v)=Q:=hQ.symm
  rw [hq]
  with_unfolding_all exact⟨hx,hy,⟨r1,r2⟩,[some 2],stOf [(4,.ptr 0 0 0 0)] [boxR (decide (Q.num < 0)) (numB Q.num.natAbs) (denT Q.den) 0] 1 [],Wo ⟨⟨lt_ok rfl,rfl,rfl,rfl,rfl,rfl,⟨cbq e,rfl⟩,⟨csq e,rfl⟩,⟨cdq e,rfl⟩,trivial⟩,trivial⟩ ⟨pP,trivial⟩ trivial,rfl,rfl⟩
 ·cases e
def c131:List PV→Option Ans
 |[.val v,.val u,.val w]=>some ⟨some (isPk 10000 v∧isPk 10000 u∧isPk 10000 w),.val (goInt (orP (rdV v) (rdV u) (rdV w))),[]⟩
 |_=>none
def D131:Opt:={ perm:=atR 1 [(0,true),(1,true),(3,true),(4,true),(2,false),(5,false),(6,false),(7,false)] }
theorem ok131:funcOk D131.toOrd Tryz.f131 3=true:=by kernel_rfl
theorem f131:FnOk Tryz.prog 131 c131:=by
 refine FnOk.ofW orders (mkE_ok (l:=[(179,c179),(178,c178),(177,c177)]) (own:=[]) (inl:=[]) (by simp [f179,f178,f177]) (by simp)) Tryz.func131 D131 3 ok131 fun args r e=>?_
 unfold c131 at e
 split at e
 ·rename_i v u w
  cases e
  refine⟨by simp,fun hm=>?_⟩
  obtain⟨⟨a,rfl,ha⟩,⟨b,rfl,hb⟩,c,rfl,hc⟩:=hm _ rfl
  refine⟨[],stOf [(0,.val a.v),(1,.val b.v),(2,.val c.v)] [] 0 [],Wo trivial ⟨rfl,rfl,rfl,trivial⟩ trivial,?_⟩
  have ha':=ha.mono (show 10000≤1000000 by decide)
  have hb':=hb.mono (show 10000≤1000000 by decide)
  have hc':=hc.mono (show 10000≤1000000 by decide)
  have s1:=(subP_le hb ha).mono (show 10000+10000+3≤1000000 by decide)
  have s2:=(subP_le hc ha).mono (show 10000+10000+3≤1000000 by decide)
  have r1:isRk 1073741824 (ratV (crossP (subP b a) (subP c a))):=(crossP_le (subP_le hb ha) (subP_le hc ha)).rk (by decide)
  have e:cmpQ (rdR (ratV (crossP (subP b a) (subP c a)))) 0=orP a b c:=by rw [rdR_ratV];rfl
  with_unfolding_all refine⟨⟨⟨b,rfl,hb'⟩,a,rfl,ha'⟩,⟨⟨c,rfl,hc'⟩,a,rfl,ha'⟩,⟨⟨subP b a,rfl,s1⟩,subP c a,rfl,s2⟩,?_,[],stOf [(6,.val (goInt (orP a b c)))] [] 0 [],Wo trivial ⟨?_,trivial⟩ trivial,rfl,rfl⟩
  ·exact r1
  ·exact congrArg (fun z=>PV.val (goInt z)) e
 ·cases e
def c130:List PV→Option Ans
 |[.rs 6 n g]=>some ⟨some (isPL 4294967296 n g),.val (.bool (!anyP (fun i=>!canonP (pts g i)) n)),[]⟩
 |_=>none
def D130:Opt:={  }
theorem ok130:funcOk D130.toOrd Tryz.f130 1=true:=by kernel_rfl
theorem f130:FnOk Tryz.prog 130 c130:=by
 refine FnOk.ofW orders (mkE_ok (l:=[(59,c59)]) (own:=[]) (inl:=[]) (by simp [f59]) (by simp)) Tryz.func130 D130 1 ok130 fun args r e=>?_
 unfold c130 at e
 split at e
 ·rename_i n g
  cases e
  refine⟨by simp,fun hm=>?_⟩
  obtain⟨hg,hn⟩:=hm _ rfl
  refine⟨[],stOf [(0,.rs 6 n (fun i=>(pts g i).cells))] [] 0 [],Wo trivial ⟨⟨rfl,rfl,fun i hi=>(hg i hi).1.symm⟩,trivial⟩ trivial,?_⟩
  obtain⟨V,hV⟩:∃V,V = !anyP (fun i=>!canonP (pts g i)) n:=⟨_,rfl⟩
  rw [←hV]
  have hno:∀b:Bool,(okW b != 0)=true→b=false:=fun b h=>by cases b<;>first|rfl|cases h
  have hyes:∀b:Bool,(okW b != 0)=false→b=true:=fun b h=>by cases b<;>first|rfl|cases h
  with_unfolding_all refine⟨Nat,fun i=>i≤n∧∀j,j < i→canonP (pts g j)=true,fun i=>stOf [(0,.rs 6 n (fun i=>(pts g i).cells)),(3,.val (goInt i))] [] 0 [],fun i=>n - i,⟨0,[],⟨Nat.zero_le _,fun j hj=>absurd hj (Nat.not_lt_zero j)⟩,Wo trivial ⟨⟨rfl,rfl,fun _ _=>rfl⟩,rfl,trivial⟩ trivial⟩,fun i hi=>?_⟩
  obtain⟨hin,hI⟩:i≤n∧∀j,j < i→canonP (pts g j)=true:=hi
  with_unfolding_all refine⟨fun h1=>?_,fun h1=>⟨[],stOf [(2,.val (.bool V))] [] 0 [],Wo trivial ⟨?_,trivial⟩ trivial,rfl,rfl⟩⟩
  ·have h1:(i:Int) < n:=ltT h1
   have ei:(i:Int).toNat=i:=Int.toNat_natCast i
   have hp:=(hg i (by omega)).2
   rw [←ei] at hp
   with_unfolding_all refine⟨⟨by omega,by omega⟩,⟨pts g (i:Int).toNat,rfl,hp⟩,fun h2=>⟨[],stOf [(2,.val (.bool V))] [] 0 [],Wo trivial ⟨?_,trivial⟩ trivial,rfl,rfl⟩,fun h2=>⟨i+1,[],⟨by omega,?_⟩,by show n - (i+1) < n - i;omega,Wo trivial ⟨⟨rfl,rfl,fun _ _=>rfl⟩,?_,trivial⟩ trivial⟩⟩
   ·have h2:canonP (pts g (i:Int).toNat)=false:=hno _ h2
    rw [ei] at h2
    rw [hV,anyP_true.2 ⟨i,by omega,by rw [h2];rfl⟩]
    rfl
   ·have h2:canonP (pts g (i:Int).toNat)=true:=hyes _ h2
    rw [ei] at h2
    intro j hj
    rcases Nat.lt_or_ge j i with h|h
    ·exact hI j h
    ·obtain rfl:j=i:=by omega
     exact h2
   ·show PV.val (.int .i64 (IntKind.i64.wrap ((i:Int)+1)))=PV.val (.int .i64 ((i+1:Nat):Int))
    rw [wrap64 (by omega) (by omega)]
    rfl
  ·have h1:(n:Int)≤i:=ltF h1
   rw [hV,anyP_false.2 fun j hj=>by rw [hI j (by omega)];rfl]
   rfl
 ·cases e
end Go.Proofs
namespace Go.Num
open Go Go.Ex Go.Proofs
theorem anyP_s (f:Nat→Bool) (k:Nat):anyP f (k+1)=(anyP f k||f k):=by
 unfold anyP
 rw [List.range_succ,List.any_append]
 simp
def sup1 (p:Nat→PtS) (v:PtS) (i:Nat):Bool:=eqP (p i) v
def sup2 (p:Nat→PtS) (a b:PtS) (i:Nat):Bool:=decide (0 < orP a b (p i))
def sup3 (p:Nat→PtS) (a b:PtS) (i:Nat):Bool:=decide (orP a b (p i) < 0)
def supR (n:Nat) (p:Nat→PtS) (v a b:PtS):Bool:=anyP (sup1 p v) n&&!(anyP (sup2 p a b) n&&anyP (sup3 p a b) n)
end Go.Num
namespace Go.Proofs
open Go Go.Ex Go.Num
set_option maxRecDepth 100000
def c122:List PV→Option Ans
 |[.rs 6 n g,.val v,.val a,.val b]=>some ⟨some (isPL 10000 n g∧isPk 10000 v∧isPk 10000 a∧isPk 10000 b),.val (.bool (supR n (pts g) (rdV v) (rdV a) (rdV b))),[]⟩
 |_=>none
def D122:Opt:={ join:=fun c=>match c with | .region 5 _ _=>true|_=>false }
theorem ok122:funcOk D122.toOrd Tryz.f122 4=true:=by kernel_rfl
theorem f122:FnOk Tryz.prog 122 c122:=by
 refine FnOk.ofW orders (mkE_ok (l:=[(131,c131)]) (own:=[]) (inl:=[]) (by simp [f131]) (by simp)) Tryz.func122 D122 4 ok122 fun args r e=>?_
 unfold c122 at e
 split at e
 ·rename_i n g v a b
  cases e
  refine⟨by simp,fun hm=>?_⟩
  obtain⟨⟨hg,hn⟩,⟨v,rfl,hv⟩,⟨a,rfl,ha⟩,b,rfl,hb⟩:=hm _ rfl
  clear hm
  refine⟨[],stOf [(0,.rs 6 n (fun i=>(pts g i).cells)),(1,.val v.v),(2,.val a.v),(3,.val b.v)] [] 0 [],Wo trivial ⟨⟨rfl,rfl,fun i hi=>(hg i hi).1.symm⟩,rfl,rfl,rfl,trivial⟩ trivial,?_⟩
  have hp:=fun i hi=>(hg i hi).2
  generalize pts g=p at *
  obtain⟨X,hX⟩:∃X,X=supR n p v a b:=⟨_,rfl⟩
  have hX':supR n p (rdV v.v) (rdV a.v) (rdV b.v)=X:=hX.symm
  rw [hX']
  with_unfolding_all refine⟨Nat,fun i=>i≤n,fun i=>stOf [(0,.rs 6 n (fun i=>(p i).cells)),(5,.ptr 0 0 0 0),(6,.ptr 1 1 0 0),(7,.ptr 2 2 0 0),(9,.val (.bool (anyP (sup1 p v) i))),(10,.val (.bool (anyP (sup2 p a b) i))),(11,.val (.bool (anyP (sup3 p a b) i))),(12,.val (goInt i))] [⟨25,6,0,true,false,1,fun _=>v.cells⟩,⟨25,6,1,true,false,1,fun _=>a.cells⟩,⟨25,6,2,true,false,1,fun _=>b.cells⟩] 3 [],fun i=>n - i,⟨0,[some 0,some 1,some 2],Nat.zero_le _,Wo ⟨⟨lt_ok rfl,rfl,rfl,rfl,rfl,rfl,rq,rq,rq,rq,rq,rq,trivial⟩,⟨lt_ok rfl,rfl,rfl,rfl,rfl,rfl,rq,rq,rq,rq,rq,rq,trivial⟩,⟨lt_ok rfl,rfl,rfl,rfl,rfl,rfl,rq,rq,rq,rq,rq,rq,trivial⟩,trivial⟩ ⟨⟨rfl,rfl,fun _ _=>rfl⟩,pP,pP,pP,rfl,rfl,rfl,rfl,trivial⟩ trivial⟩,fun i hi=>?_⟩
  have hin:i≤n:=hi
  with_unfolding_all refine⟨fun h1=>?_,fun h1=>?_⟩
  ·have h1:(i:Int) < n:=ltT h1
   have ei:(i:Int).toNat=i:=Int.toNat_natCast i
   have b1:(0:Int)≤(i:Int)∧(i:Int) < n:=⟨Int.natCast_nonneg i,h1⟩
   with_unfolding_all refine⟨Unit,fun _=>True,fun _=>stOf [(0,.rs 6 n (fun i=>(p i).cells)),(5,.ptr 0 0 0 0),(6,.ptr 1 1 0 0),(7,.ptr 2 2 0 0),(9,.val (.bool (anyP (sup1 p v) (i+1)))),(10,.val (.bool (anyP (sup2 p a b) i))),(11,.val (.bool (anyP (sup3 p a b) i))),(12,.val (goInt i))] [⟨25,6,0,true,false,1,fun _=>v.cells⟩,⟨25,6,1,true,false,1,fun _=>a.cells⟩,⟨25,6,2,true,false,1,fun _=>b.cells⟩] 3 [],?_,fun _ _=>?_⟩
   ·have e1:anyP (sup1 p v) i=false→PV.val (.bool (eqP (p (i:Int).toNat) v))=PV.val (.bool (anyP (sup1 p v) (i+1))):=fun h=>by
     rw [anyP_s,h,ei]
     rfl
    have e2:anyP (sup1 p v) i = !false→PV.val (.bool true)=PV.val (.bool (anyP (sup1 p v) (i+1))):=fun h=>by
     rw [anyP_s,h]
     rfl
    with_unfolding_all exact⟨fun h2=>⟨b1,(),[some 0,some 1,some 2],trivial,Wo ⟨⟨lt_ok rfl,rfl,rfl,rfl,rfl,rfl,rq,rq,rq,rq,rq,rq,trivial⟩,⟨lt_ok rfl,rfl,rfl,rfl,rfl,rfl,rq,rq,rq,rq,rq,rq,trivial⟩,⟨lt_ok rfl,rfl,rfl,rfl,rfl,rfl,rq,rq,rq,rq,rq,rq,trivial⟩,trivial⟩ ⟨⟨rfl,rfl,fun _ _=>rfl⟩,pP,pP,pP,e1 h2,rfl,rfl,rfl,trivial⟩ trivial⟩,fun h2=>⟨(),[some 0,some 1,some 2],trivial,Wo ⟨⟨lt_ok rfl,rfl,rfl,rfl,rfl,rfl,rq,rq,rq,rq,rq,rq,trivial⟩,⟨lt_ok rfl,rfl,rfl,rfl,rfl,rfl,rq,rq,rq,rq,rq,rq,trivial⟩,⟨lt_ok rfl,rfl,rfl,rfl,rfl,rfl,rq,rq,rq,rq,rq,rq,trivial⟩,trivial⟩ ⟨⟨rfl,rfl,fun _ _=>rfl⟩,pP,pP,pP,e2 h2,rfl,rfl,rfl,trivial⟩ trivial⟩⟩
   ·have him:i+1≤n:=by omega
    have hμ : n - (i+1) < n - i:=by omega
    have wi:PV.val (.int .i64 (IntKind.i64.wrap ((i:Int)+1)))=PV.val (.int .i64 ((i+1:Nat):Int)):=by
     rw [wrap64 (by omega) (by omega)]
     rfl
    have pi:isPk 10000 (p (i:Int).toNat).v:=⟨_,rfl,hp _ (by rw [ei];omega)⟩
    have e2:anyP (sup2 p a b) i=false→PV.val (.bool (decide (orP a b (p (i:Int).toNat) > 0)))=PV.val (.bool (anyP (sup2 p a b) (i+1))):=fun h=>by
     rw [anyP_s,h,ei]
     rfl
    have e2t:anyP (sup2 p a b) i = !false→PV.val (.bool true)=PV.val (.bool (anyP (sup2 p a b) (i+1))):=fun h=>by
     rw [anyP_s,h]
     rfl
    have e3:anyP (sup3 p a b) i=false→PV.val (.bool (decide (orP a b (p (i:Int).toNat) < 0)))=PV.val (.bool (anyP (sup3 p a b) (i+1))):=fun h=>by
     rw [anyP_s,h,ei]
     rfl
    have e3t:anyP (sup3 p a b) i = !false→PV.val (.bool true)=PV.val (.bool (anyP (sup3 p a b) (i+1))):=fun h=>by
     rw [anyP_s,h]
     rfl
    with_unfolding_all exact⟨b1,⟨⟨a,rfl,ha⟩,⟨b,rfl,hb⟩,pi⟩,fun h2=>⟨fun h3=>⟨i+1,[some 0,some 1,some 2],him,hμ,Wo ⟨⟨lt_ok rfl,rfl,rfl,rfl,rfl,rfl,rq,rq,rq,rq,rq,rq,trivial⟩,⟨lt_ok rfl,rfl,rfl,rfl,rfl,rfl,rq,rq,rq,rq,rq,rq,trivial⟩,⟨lt_ok rfl,rfl,rfl,rfl,rfl,rfl,rq,rq,rq,rq,rq,rq,trivial⟩,trivial⟩ ⟨⟨rfl,rfl,fun _ _=>rfl⟩,pP,pP,pP,rfl,e2 h2,e3 h3,wi,trivial⟩ trivial⟩,fun h3=>⟨i+1,[some 0,some 1,some 2],him,hμ,Wo ⟨⟨lt_ok rfl,rfl,rfl,rfl,rfl,rfl,rq,rq,rq,rq,rq,rq,trivial⟩,⟨lt_ok rfl,rfl,rfl,rfl,rfl,rfl,rq,rq,rq,rq,rq,rq,trivial⟩,⟨lt_ok rfl,rfl,rfl,rfl,rfl,rfl,rq,rq,rq,rq,rq,rq,trivial⟩,trivial⟩ ⟨⟨rfl,rfl,fun _ _=>rfl⟩,pP,pP,pP,rfl,e2 h2,e3t h3,wi,trivial⟩ trivial⟩⟩,fun h2=>⟨fun h3=>⟨i+1,[some 0,some 1,some 2],him,hμ,Wo ⟨⟨lt_ok rfl,rfl,rfl,rfl,rfl,rfl,rq,rq,rq,rq,rq,rq,trivial⟩,⟨lt_ok rfl,rfl,rfl,rfl,rfl,rfl,rq,rq,rq,rq,rq,rq,trivial⟩,⟨lt_ok rfl,rfl,rfl,rfl,rfl,rfl,rq,rq,rq,rq,rq,rq,trivial⟩,trivial⟩ ⟨⟨rfl,rfl,fun _ _=>rfl⟩,pP,pP,pP,rfl,e2t h2,e3 h3,wi,trivial⟩ trivial⟩,fun h3=>⟨i+1,[some 0,some 1,some 2],him,hμ,Wo ⟨⟨lt_ok rfl,rfl,rfl,rfl,rfl,rfl,rq,rq,rq,rq,rq,rq,trivial⟩,⟨lt_ok rfl,rfl,rfl,rfl,rfl,rfl,rq,rq,rq,rq,rq,rq,trivial⟩,⟨lt_ok rfl,rfl,rfl,rfl,rfl,rfl,rq,rq,rq,rq,rq,rq,trivial⟩,trivial⟩ ⟨⟨rfl,rfl,fun _ _=>rfl⟩,pP,pP,pP,rfl,e2t h2,e3t h3,wi,trivial⟩ trivial⟩⟩⟩
  ·have h1:(n:Int)≤i:=ltF h1
   obtain rfl:i=n:=by omega
   have x1:anyP (sup1 p v) i=true→anyP (sup2 p a b) i=true→PV.val (.bool (!anyP (sup3 p a b) i))=PV.val (.bool X):=fun h h'=>by
    rw [hX,supR,h,h']
    rfl
   have x2:anyP (sup1 p v) i=true→anyP (sup2 p a b) i = !true→PV.val (.bool true)=PV.val (.bool X):=fun h h'=>by
    rw [hX,supR,h,h']
    rfl
   have x3:anyP (sup1 p v) i = !true→PV.val (.bool false)=PV.val (.bool X):=fun h=>by
    rw [hX,supR,h]
    rfl
   with_unfolding_all exact⟨fun h2=>⟨fun h3=>⟨[],stOf [(8,.val (.bool X))] [] 0 [],Wo trivial ⟨x1 h2 h3,trivial⟩ trivial,rfl,rfl⟩,fun h3=>⟨[],stOf [(8,.val (.bool X))] [] 0 [],Wo trivial ⟨x2 h2 h3,trivial⟩ trivial,rfl,rfl⟩⟩,fun h2=>⟨[],stOf [(8,.val (.bool X))] [] 0 [],Wo trivial ⟨x3 h2,trivial⟩ trivial,rfl,rfl⟩⟩
 ·cases e
end Go.Proofs
namespace Go.Num
open Go Go.Ex Go.Proofs
def tgt1 (c:Nat→List PV) (v a b:PtS) (i:Nat):Bool:=supR (pn c i) (pts (pg c i)) v a b
def tightR (k:Nat) (c:Nat→List PV) (g:Nat→PtS) (A B e:Int):Bool:=decide (e < 2)||anyP (tgt1 c (g e.toNat) (g A.toNat) (g B.toNat)) k
end Go.Num
namespace Go.Proofs
open Go Go.Ex Go.Num
set_option maxRecDepth 100000
def c82:List PV→Option Ans
 |[.agg xs,.agg [.rs 6 n g,.rs 2 m h],.val (.agg ⟨[.int .i64 A,.int .i64 B]⟩),.val (.int .i64 e)]=>some ⟨some (isRg 10000 xs∧isPL 10000 n g∧(0≤A∧A < n)∧(0≤B∧B < n)∧0≤e∧e < n),.val (.bool (tightR (gK xs) (gC xs) (pts g) A B e)),[]⟩
 |_=>none
def D82:Opt:={  }
theorem ok82:funcOk D82.toOrd Tryz.f82 4=true:=by kernel_rfl
theorem f82:FnOk Tryz.prog 82 c82:=by
 refine FnOk.ofW orders (mkE_ok (l:=[(122,c122)]) (own:=[]) (inl:=[]) (by simp [f122]) (by simp)) Tryz.func82 D82 4 ok82 fun args r e=>?_
 unfold c82 at e
 split at e
 ·rename_i xs n g m h A B e
  cases e
  refine⟨by simp,fun hm=>?_⟩
  obtain⟨⟨h1,⟨hlo,hhi⟩,hcl,hol⟩,hg,hA,hB,he⟩:=hm _ rfl
  generalize gLo xs=lo at *
  generalize gHi xs=hi at *
  generalize gK xs=k at *
  generalize gC xs=c at *
  generalize gL xs=l at *
  generalize gO xs=o at *
  subst h1
  clear hm
  refine⟨[],stOf [(0,.agg (regC lo hi k c l o)),(1,.agg [.rs 6 n (fun i=>(pts g i).cells),.rs 2 m h]),(2,.val (.agg ⟨[.int .i64 A,.int .i64 B]⟩)),(3,.val (.int .i64 e))] [] 0 [],Wo trivial ⟨⟨rfl,rfl,rfl,rfl,rfl,rfl,rfl,rfl,rfl,rfl,rfl,rfl,⟨rfl,rfl,fun _ _=>rfl⟩,⟨rfl,rfl,fun _ _=>rfl⟩,trivial⟩,⟨⟨rfl,rfl,fun i hi=>(hg.1 i hi).1.symm⟩,⟨rfl,rfl,fun _ _=>rfl⟩,trivial⟩,rfl,rfl,trivial⟩ trivial,?_⟩
  obtain⟨X,hX⟩:∃X,X=tightR k c (pts g) A B e:=⟨_,rfl⟩
  rw [←hX]
  have hkk:=hcl.2
  have x1:decide (e < 2)=true→PV.val (.bool true)=PV.val (.bool X):=fun h=>by
   rw [hX,tightR,h]
   rfl
  have x2:decide (e < 2)=false→X=anyP (tgt1 c (pts g e.toNat) (pts g A.toNat) (pts g B.toNat)) k:=fun h=>by
   rw [hX,tightR,h]
   rfl
  with_unfolding_all refine⟨fun h1=>⟨[],stOf [(8,.val (.bool X))] [] 0 [],Wo trivial ⟨x1 h1,trivial⟩ trivial,rfl,rfl⟩,fun h1=>⟨Nat,fun i=>i≤k∧anyP (tgt1 c (pts g e.toNat) (pts g A.toNat) (pts g B.toNat)) i=false,fun i=>stOf [(3,.val (.int .i64 e)),(4,.ptr 0 0 0 0),(5,.ptr 1 1 0 0),(6,.ptr 2 2 0 0),(9,.val (goInt i))] [⟨31,14,0,true,false,1,fun _=>regC lo hi k c l o⟩,⟨37,2,1,true,false,1,fun _=>[.rs 6 n (fun i=>(pts g i).cells),.rs 2 m h]⟩,⟨46,2,2,true,false,1,fun _=>[.val (.int .i64 A),.val (.int .i64 B)]⟩] 3 [],fun i=>k - i,⟨0,[some 0,some 1,some 2],⟨Nat.zero_le _,rfl⟩,Wo ⟨⟨lt_ok rfl,rfl,rfl,rfl,rfl,rfl,rq,rq,rq,rq,rq,rq,rq,rq,rq,rq,rq,rq,⟨⟨rfl,rfl,fun _ _=>rfl⟩,rfl⟩,⟨⟨rfl,rfl,fun _ _=>rfl⟩,rfl⟩,trivial⟩,⟨lt_ok rfl,rfl,rfl,rfl,rfl,rfl,⟨⟨rfl,rfl,fun _ _=>rfl⟩,rfl⟩,⟨⟨rfl,rfl,fun _ _=>rfl⟩,rfl⟩,trivial⟩,⟨lt_ok rfl,rfl,rfl,rfl,rfl,rfl,rq,rq,trivial⟩,trivial⟩ ⟨rfl,pP,pP,pP,rfl,trivial⟩ trivial⟩,fun i hi=>?_⟩⟩
  have h1:=x2 h1
  obtain⟨hik,hI⟩:i≤k∧anyP (tgt1 c (pts g e.toNat) (pts g A.toNat) (pts g B.toNat)) i=false:=hi
  with_unfolding_all refine⟨fun h2=>?_,fun h2=>?_⟩
  ·have h2:(i:Int) < k:=ltT h2
   have ei:(i:Int).toNat=i:=Int.toNat_natCast i
   have b1:(0:Int)≤(i:Int)∧(i:Int) < k:=⟨Int.natCast_nonneg i,h2⟩
   have hik:i+1≤k:=by omega
   have hμ : k - (i+1) < k - i:=by omega
   have wi:PV.val (.int .i64 (IntKind.i64.wrap ((i:Int)+1)))=PV.val (.int .i64 ((i+1:Nat):Int)):=by
    rw [wrap64 (by omega) (by omega)]
    rfl
   have hr:isPL 10000 (pn c (i:Int).toNat) (pg c (i:Int).toNat):=(hcl.1 _ (by rw [ei];omega)).2
   have pk:∀z:Int,0≤z∧z < n→isPk 10000 (pts g z.toNat).v:=fun z hz=>⟨_,rfl,(hg.1 _ (by omega)).2⟩
   have tt:∀b:Bool,supR (pn c (i:Int).toNat) (pts (pg c (i:Int).toNat)) (pts g e.toNat) (pts g A.toNat) (pts g B.toNat)=b→tgt1 c (pts g e.toNat) (pts g A.toNat) (pts g B.toNat) i=b:=fun b h=>by
    rw [ei] at h
    exact h
   have x3:tgt1 c (pts g e.toNat) (pts g A.toNat) (pts g B.toNat) i=true→PV.val (.bool true)=PV.val (.bool X):=fun h=>by rw [h1,anyP_true.2 ⟨i,by omega,h⟩]
   have x4:tgt1 c (pts g e.toNat) (pts g A.toNat) (pts g B.toNat) i = !true→anyP (tgt1 c (pts g e.toNat) (pts g A.toNat) (pts g B.toNat)) (i+1)=false:=fun h=>by
    rw [anyP_s,hI,h]
    rfl
   with_unfolding_all exact⟨b1,he,hA,hB,⟨hr,pk e he,pk A hA,pk B hB⟩,fun h3=>⟨[],stOf [(8,.val (.bool X))] [] 0 [],Wo trivial ⟨x3 (tt _ h3),trivial⟩ trivial,rfl,rfl⟩,fun h3=>⟨i+1,[some 0,some 1,some 2],⟨hik,x4 (tt _ h3)⟩,hμ,Wo ⟨⟨lt_ok rfl,rfl,rfl,rfl,rfl,rfl,rq,rq,rq,rq,rq,rq,rq,rq,rq,rq,rq,rq,⟨⟨rfl,rfl,fun _ _=>rfl⟩,rfl⟩,⟨⟨rfl,rfl,fun _ _=>rfl⟩,rfl⟩,trivial⟩,⟨lt_ok rfl,rfl,rfl,rfl,rfl,rfl,⟨⟨rfl,rfl,fun _ _=>rfl⟩,rfl⟩,⟨⟨rfl,rfl,fun _ _=>rfl⟩,rfl⟩,trivial⟩,⟨lt_ok rfl,rfl,rfl,rfl,rfl,rfl,rq,rq,trivial⟩,trivial⟩ ⟨rfl,pP,pP,pP,wi,trivial⟩ trivial⟩⟩
  ·have h2:(k:Int)≤i:=ltF h2
   have x5:PV.val (.bool false)=PV.val (.bool X):=by
    rw [h1,←hI,show i=k by omega]
   with_unfolding_all exact⟨[],stOf [(8,.val (.bool X))] [] 0 [],Wo trivial ⟨x5,trivial⟩ trivial,rfl,rfl⟩
 ·cases e
end Go.Proofs
namespace Go.Num
open Go Go.Ex Go.Proofs
def pasM (q:Nat→Int×Int) (M:Nat→Bool):Nat→(Nat→Bool)
 |0=>M
 |j+1=>mk2 (pasM q M j) (q j).1.toNat (q j).2.toNat
def rndM (q:Nat→Int×Int) (m:Nat) (M:Nat→Bool):Nat→(Nat→Bool)
 |0=>M
 |r+1=>pasM q (rndM q m M r) m
def atM (a:Int) (j:Nat):Bool:=decide (j=a.toNat)
theorem mk2_none {M:Nat→Bool} {A B:Nat} (h:(M A||M B)=false):mk2 M A B=M:=by
 rw [Bool.or_eq_false_iff] at h
 funext j
 exact mk2_same (by rw [h.1,h.2];rfl) j
theorem mk2_some {M:Nat→Bool} {A B:Nat} (h:(M A||M B)=true) (j:Nat):mk2 M A B j=if j=B then true else if j=A then true else M j:=by
 rw [mk2_at,h]
 by_cases h1:j=B
 ·rw [if_pos (.inr h1),if_pos h1]
 ·rw [if_neg h1]
  by_cases h2:j=A
  ·rw [if_pos (.inl h2),if_pos h2]
  ·rw [if_neg h2,if_neg (by omega)]
theorem pas_step {q:Nat→Int×Int} {M:Nat→Bool} {n:Nat}:∀{k:Nat},(∀i,i < k→(q i).1.toNat < n∧(q i).2.toNat < n)→((∀i,i < k→M (q i).1.toNat=M (q i).2.toNat)∧pasM q M k=M)∨unm (pasM q M k) n < unm M n
 |0,_=>.inl ⟨fun i hi=>absurd hi (Nat.not_lt_zero i),rfl⟩
 |k+1,h=>by
  have hk:=h k (by omega)
  rcases pas_step (k:=k) fun i hi=>h i (by omega) with ⟨h1,h2⟩|h1
  ·rw [pasM,h2]
   cases e:M (q k).1.toNat==M (q k).2.toNat with
   |true =>
    refine .inl ⟨fun i hi=>?_,funext (mk2_same e)⟩
    by_cases hik:i=k
    ·rw [hik]
     exact eq_of_beq e
    ·exact h1 i (by omega)
   |false=>exact .inr (mk2_lt hk.1 hk.2 e)
  ·refine .inr (Nat.lt_of_le_of_lt ?_ h1)
   rw [pasM]
   exact unm_le fun j _=>mk2_up _ _ _ j
theorem rnd_step {q:Nat→Int×Int} {m n:Nat} {M:Nat→Bool} (h:∀i,i < m→(q i).1.toNat < n∧(q i).2.toNat < n):∀r,(∀i,i < m→rndM q m M r (q i).1.toNat=rndM q m M r (q i).2.toNat)∨unm (rndM q m M r) n+r≤unm M n
 |0=>.inr (Nat.le_refl _)
 |r+1=>by
  rw [rndM]
  rcases pas_step (M:=rndM q m M r) h with ⟨h1,h2⟩|h1
  ·rw [h2]
   exact .inl h1
  ·rcases rnd_step (M:=M) h r with h2|h2
   ·left
    have e:∀k,k≤m→pasM q (rndM q m M r) k=rndM q m M r:=fun k=>by
     induction k with
     |zero=>exact fun _=>rfl
     |succ k ih =>
      intro hk
      rw [pasM,ih (by omega)]
      exact funext (mk2_same (by rw [h2 k (by omega)];exact beq_self_eq_true _))
    rw [e m (Nat.le_refl m)]
    exact h2
   ·exact .inr (by omega)
theorem unm_full:∀n,unm (fun _=>false) n=n
 |0=>rfl
 |n+1=>by rw [unm,unm_full n,cond_false];omega
theorem pas_rch {q:Nat→Int×Int} {m:Nat} {a:Int} (hA:∀i,i < m→(0≤(q i).1∧(q i).1 < 1000)∧0≤(q i).2∧(q i).2 < 1000) {M:Nat→Bool} (h:∀j,j < 1000→M j=true→RchQ q m a (j:Nat)):∀k,k≤m→∀j,j < 1000→pasM q M k j=true→RchQ q m a (j:Nat)
 |0,_=>h
 |k+1,hk=>RchQ_mk (pas_rch hA h k (by omega)) (by omega) (hA k (by omega)).1 (hA k (by omega)).2
theorem rnd_rch {q:Nat→Int×Int} {m:Nat} {a:Int} (hA:∀i,i < m→(0≤(q i).1∧(q i).1 < 1000)∧0≤(q i).2∧(q i).2 < 1000) {M:Nat→Bool} (h:∀j,j < 1000→M j=true→RchQ q m a (j:Nat)):∀r,∀j,j < 1000→rndM q m M r j=true→RchQ q m a (j:Nat)
 |0=>h
 |r+1=>pas_rch hA (rnd_rch hA h r) m (Nat.le_refl m)
theorem pas_up {q:Nat→Int×Int} {M:Nat→Bool} {j:Nat} (h:M j=true):∀k,pasM q M k j=true
 |0=>h
 |k+1=>mk2_up _ _ _ _ (pas_up h k)
theorem rnd_up {q:Nat→Int×Int} {m:Nat} {M:Nat→Bool} {j:Nat} (h:M j=true):∀r,rndM q m M r j=true
 |0=>h
 |r+1=>pas_up (rnd_up h r) m
theorem rnd_con {q:Nat→Int×Int} {m n:Nat} {a b:Int} (hl:okLinks n q m=true) (hn:n≤1000) (ha:0≤a∧a < n) (hb:0≤b∧b < n):rndM q m (atM a) n b.toNat=conB q m a b:=by
 have hA:∀i,i < m→(0≤(q i).1∧(q i).1 < 1000)∧0≤(q i).2∧(q i).2 < 1000:=fun i hi=>by
  have:=links_at hl hi
  omega
 have hN:∀i,i < m→(q i).1.toNat < n∧(q i).2.toNat < n:=fun i hi=>by
  have:=links_at hl hi
  omega
 have h0:atM a a.toNat=true:=decide_eq_true rfl
 refine RchQ_fin (rnd_up h0 n) (rnd_rch hA (fun j _ hj=>?_) n) ?_ ⟨hb.1,by omega⟩
 ·have:j=a.toNat:=of_decide_eq_true hj
  rw [this,show((a.toNat:Nat):Int)=a by omega]
  exact .refl
 ·rcases rnd_step (M:=atM a) hN n with h|h
  ·exact h
  ·have h1:=unm_lt (M:=fun _=>false) (M2:=atM a) (n:=n) (k:=a.toNat) (fun _ _ h=>by cases h) (by omega) rfl h0
   rw [unm_full] at h1
   omega
def conR (n:Nat) (p:Nat→PtS) (m:Nat) (q:Nat→Int×Int) (a b:Int):Bool:=okMap n p m q&&(insB n a&&insB n b)&&rndM q m (atM a) n b.toNat
def errC (ok:Bool) (n:Nat) (a b:Int):Int:=bif ok then bif insB n a&&insB n b then 0 else 2 else 1
end Go.Num
namespace Go.Proofs
open Go Go.Ex Go.Num
set_option maxRecDepth 100000
def c41:List PV→Option Ans
 |[.agg [.rs 6 n g,.rs 2 m h],.val (.int .i64 a),.val (.int .i64 b)]=>some ⟨some (isPL 4294967296 n g∧isQL m h),.val (.tuple ⟨[.bool (conR n (pts g) m (prs h) a b),.int .i64 (errC (okMap n (pts g) m (prs h)) n a b)]⟩),[]⟩
 |_=>none
def D41:Opt:={ join:=fun c=>match c with | .region 7 _ _=>true|_=>false,perm:=atR 15 (rds 15) }
theorem ok41:funcOk D41.toOrd Tryz.f41 3=true:=by kernel_rfl
theorem f41:FnOk Tryz.prog 41 c41:=by
 refine FnOk.ofW orders (mkE_ok (l:=[(34,c34)]) (own:=[]) (inl:=[]) (by simp [f34]) (by simp)) Tryz.func41 D41 3 ok41 fun args r e=>?_
 unfold c41 at e
 split at e
 ·rename_i n g m h a b
  cases e
  refine⟨by simp,fun hm=>?_⟩
  obtain⟨hg,hq⟩:=hm _ rfl
  clear hm
  have hqm:=hq.2
  refine⟨[],stOf [(0,.agg [.rs 6 n g,.rs 2 m (fun i=>cellsQ (prs h i))]),(1,.val (.int .i64 a)),(2,.val (.int .i64 b))] [] 0 [],Wo trivial ⟨⟨⟨rfl,rfl,fun _ _=>rfl⟩,⟨rfl,rfl,fun i hi=>(hq.1 i hi).symm⟩,trivial⟩,rfl,rfl,trivial⟩ trivial,?_⟩
  generalize hqq:prs h=q at *
  have hql:isQL m (fun i=>cellsQ (q i)):=⟨fun _ _=>rfl,hqm⟩
  obtain⟨CR,hCR⟩:∃c,c=conR n (pts g) m q a b:=⟨_,rfl⟩
  obtain⟨ER,hER⟩:∃e,e=errC (okMap n (pts g) m q) n a b:=⟨_,rfl⟩
  rw [←hCR,←hER]
  have z0:∀B:Bool,(okW B != 0)=true→B=false:=fun B h=>by cases B<;>first|rfl|cases h
  have z1:∀B:Bool,(okW B != 0)=false→B=true:=fun B h=>by cases B<;>first|rfl|cases h
  have f1:(okW (okMap n (pts g) m (prs fun i=>cellsQ (q i))) != 0)=true→PV.val (.bool false)=PV.val (.bool CR)∧PV.val (.int .i64 1)=PV.val (.int .i64 ER):=fun h=>by
   have h:okMap n (pts g) m q=false:=z0 _ h
   rw [hCR,hER,conR,errC,h]
   exact⟨rfl,rfl⟩
  have f2:(okW (okMap n (pts g) m (prs fun i=>cellsQ (q i))) != 0)=false→okMap n (pts g) m q=true:=fun h=>z1 _ h
  have f3:okMap n (pts g) m q=true→(insB n a&&insB n b)=false→PV.val (.bool false)=PV.val (.bool CR)∧PV.val (.int .i64 2)=PV.val (.int .i64 ER):=fun h h'=>by
   rw [hCR,hER,conR,errC,h,h']
   exact⟨rfl,rfl⟩
  have g1:∀z:Int,decide (z < 0)=true→insB n z=false:=fun z h=>by
   have h:z < 0:=of_decide_eq_true h
   rw [insB,decide_eq_false (by omega)]
   rfl
  have g2:∀z:Int,decide ((n:Int)≤z)=true→insB n z=false:=fun z h=>by
   have h:(n:Int)≤z:=of_decide_eq_true h
   rw [insB,decide_eq_false (show ¬z < (n:Int) by omega),Bool.and_false]
  have g3:∀z:Int,decide (z < 0)=false→decide ((n:Int)≤z)=false→0≤z∧z < n:=fun z h h'=>by
   have h:¬z < 0:=of_decide_eq_false h
   have h':¬(n:Int)≤z:=of_decide_eq_false h'
   omega
  have n1:∀x y:Bool,x=false→(x&&y)=false:=fun x y h=>by rw [h];rfl
  have n2:∀x y:Bool,y=false→(x&&y)=false:=fun x y h=>by rw [h,Bool.and_false]
  have hk0:(okW (okMap n (pts g) m (prs fun i=>cellsQ (q i))) != 0)=false→n≤1000:=fun h=>by
   have h1:=f2 h
   unfold okMap at h1
   rw [Bool.and_eq_true,Bool.and_eq_true] at h1
   exact of_decide_eq_true h1.1.1
  have kk:∀x:Nat,x≤1000→((x:Int)≤9223372036854775807∧((0+1:Nat):Int)*(x:Int)≤281474976710656):=fun x h=>by omega
  have row0:∀j,[PV.val (.bool (atM a j))]=if j=0+a.toNat then [PV.val (.bool true)] else [PV.val (.bool false)]:=fun j=>by
   rw [Nat.zero_add]
   by_cases e:j=a.toNat
   ·rw [if_pos e,atM,decide_eq_true e]
   ·rw [if_neg e,atM,decide_eq_false e]
  with_unfolding_all refine⟨⟨hg,hql⟩,fun h1=>⟨[],stOf [(6,.val (.bool CR)),(7,.val (.int .i64 ER))] [] 0 [],Wo trivial ⟨(f1 h1).1,(f1 h1).2,trivial⟩ trivial,rfl,rfl⟩,fun h1=>⟨fun ha0=>⟨fun ha1=>⟨fun hb0=>⟨fun hb1=>⟨[],stOf [(6,.val (.bool CR)),(7,.val (.int .i64 ER))] [] 0 [],Wo trivial ⟨(f3 (f2 h1) (n2 _ _ (g2 b hb1))).1,(f3 (f2 h1) (n2 _ _ (g2 b hb1))).2,trivial⟩ trivial,rfl,rfl⟩,fun hb1=>⟨⟨Int.natCast_nonneg n,Int.le_refl _,(kk n (hk0 h1)).1,(kk n (hk0 h1)).2⟩,Unit,fun _=>True,fun _=>stOf [(2,.val (.int .i64 b)),(3,.ptr 0 0 0 0),(8,.val (goInt n)),(9,.sl 1 1 0 n)] [⟨37,2,0,true,false,1,fun _=>[.rs 6 n g,.rs 2 m (fun i=>cellsQ (q i))]⟩,⟨4,1,1,false,false,n,fun j=>[.val (.bool (atM a j))]⟩] 2 [],⟨g3 a ha0 ha1,(),[some 0,some 1],trivial,Wo ⟨⟨lt_ok rfl,rfl,rfl,rfl,rfl,rfl,⟨⟨rfl,rfl,fun _ _=>rfl⟩,rfl⟩,⟨⟨rfl,rfl,fun _ _=>rfl⟩,rfl⟩,trivial⟩,⟨lt_ok rfl,rfl,rfl,rfl,rfl,rfl,fun j _=>row0 j⟩,trivial⟩ ⟨rfl,pP,rfl,pP,trivial⟩ trivial⟩,fun _ _=>?_⟩⟩,fun hb0=>⟨fun _=>⟨[],stOf [(6,.val (.bool CR)),(7,.val (.int .i64 ER))] [] 0 [],Wo trivial ⟨(f3 (f2 h1) (n2 _ _ (g1 b hb0))).1,(f3 (f2 h1) (n2 _ _ (g1 b hb0))).2,trivial⟩ trivial,rfl,rfl⟩,fun h=>(nomatch h)⟩⟩,fun ha1=>⟨fun h=>(nomatch h),fun _=>⟨fun _=>⟨[],stOf [(6,.val (.bool CR)),(7,.val (.int .i64 ER))] [] 0 [],Wo trivial ⟨(f3 (f2 h1) (n1 _ _ (g2 a ha1))).1,(f3 (f2 h1) (n1 _ _ (g2 a ha1))).2,trivial⟩ trivial,rfl,rfl⟩,fun h=>(nomatch h)⟩⟩⟩,fun ha0=>⟨fun h=>(nomatch h),fun _=>⟨fun h=>(nomatch h),fun _=>⟨fun _=>⟨[],stOf [(6,.val (.bool CR)),(7,.val (.int .i64 ER))] [] 0 [],Wo trivial ⟨(f3 (f2 h1) (n1 _ _ (g1 a ha0))).1,(f3 (f2 h1) (n1 _ _ (g1 a ha0))).2,trivial⟩ trivial,rfl,rfl⟩,fun h=>(nomatch h)⟩⟩⟩⟩⟩
  have ha:=g3 a ha0 ha1
  have hb:=g3 b hb0 hb1
  have hk1:=f2 h1
  have hn1:=hk0 h1
  have hok:=hk1
  unfold okMap at hok
  rw [Bool.and_eq_true,Bool.and_eq_true] at hok
  have hmm:=links_le hok.2
  have hnn:n*n≤1000*1000:=Nat.mul_le_mul hn1 hn1
  have hlk:=fun i hi=>links_at hok.2 (i:=i) hi
  clear f1 f3 g1 g2 g3 n1 n2 z0 z1 row0 kk hk0 ha0 ha1 hb0 hb1 f2 h1
  with_unfolding_all refine⟨Nat,fun r=>r≤n,fun r=>stOf [(2,.val (.int .i64 b)),(3,.ptr 0 0 0 0),(8,.val (goInt n)),(9,.sl 1 1 0 n),(10,.val (goInt r))] [⟨37,2,0,true,false,1,fun _=>[.rs 6 n g,.rs 2 m (fun i=>cellsQ (q i))]⟩,⟨4,1,1,false,false,n,fun j=>[.val (.bool (rndM q m (atM a) r j))]⟩] 2 [],fun r=>n - r,⟨0,[some 0,some 1],Nat.zero_le _,Wo ⟨⟨lt_ok rfl,rfl,rfl,rfl,rfl,rfl,⟨⟨rfl,rfl,fun _ _=>rfl⟩,rfl⟩,⟨⟨rfl,rfl,fun _ _=>rfl⟩,rfl⟩,trivial⟩,⟨lt_ok rfl,rfl,rfl,rfl,rfl,rfl,fun _ _=>rfl⟩,trivial⟩ ⟨rfl,pP,rfl,pP,rfl,trivial⟩ trivial⟩,fun r hr=>?_⟩
  have hr:r≤n:=hr
  with_unfolding_all refine⟨fun h1=>?_,fun h1=>?_⟩
  ·have hr1:(r:Int) < n:=ltT h1
   with_unfolding_all refine⟨Nat,fun i=>i≤m,fun i=>stOf [(2,.val (.int .i64 b)),(3,.ptr 0 0 0 0),(8,.val (goInt n)),(9,.sl 1 1 0 n),(10,.val (goInt r)),(11,.val (goInt i))] [⟨37,2,0,true,false,1,fun _=>[.rs 6 n g,.rs 2 m (fun i=>cellsQ (q i))]⟩,⟨4,1,1,false,false,n,fun j=>[.val (.bool (pasM q (rndM q m (atM a) r) i j))]⟩] 2 [],fun i=>m - i,⟨0,[some 0,some 1],Nat.zero_le _,Wo ⟨⟨lt_ok rfl,rfl,rfl,rfl,rfl,rfl,⟨⟨rfl,rfl,fun _ _=>rfl⟩,rfl⟩,⟨⟨rfl,rfl,fun _ _=>rfl⟩,rfl⟩,trivial⟩,⟨lt_ok rfl,rfl,rfl,rfl,rfl,rfl,fun _ _=>rfl⟩,trivial⟩ ⟨rfl,pP,rfl,pP,rfl,rfl,trivial⟩ trivial⟩,fun i hi=>?_⟩
   have him:i≤m:=hi
   with_unfolding_all refine⟨fun h1=>?_,fun h1=>?_⟩
   ·have h1:(i:Int) < m:=ltT h1
    have ei:(i:Int).toNat=i:=Int.toNat_natCast i
    have him1:i+1≤m:=by omega
    have hμ : m - (i+1) < m - i:=by omega
    have wi:PV.val (.int .i64 (IntKind.i64.wrap ((i:Int)+1)))=PV.val (.int .i64 ((i+1:Nat):Int)):=by
     rw [wrap64 (by omega) (by omega)]
     rfl
    have b1:(0:Int)≤(i:Int)∧(i:Int) < m:=⟨Int.natCast_nonneg i,h1⟩
    have hl:=hlk i (by omega)
    have hA:0≤(q (i:Int).toNat).1∧(q (i:Int).toNat).1 < n:=by rw [ei];omega
    have hB:0≤(q (i:Int).toNat).2∧(q (i:Int).toNat).2 < n:=by rw [ei];omega
    generalize rndM q m (atM a) r=M
    have rT:(pasM q M i (0+(q (i:Int).toNat).1.toNat)||pasM q M i (0+(q (i:Int).toNat).2.toNat))=true→∀j,[PV.val (.bool (pasM q M (i+1) j))]=if j=0+(q (i:Int).toNat).2.toNat then [PV.val (.bool true)] else if j=0+(q (i:Int).toNat).1.toNat then [PV.val (.bool true)] else [PV.val (.bool (pasM q M i j))]:=fun h j=>by
     rw [ei,Nat.zero_add,Nat.zero_add] at h ⊢
     rw [pasM,mk2_some h]
     split
     ·rfl
     ·split
      ·rfl
      ·rfl
    have rF:pasM q M i (0+(q (i:Int).toNat).1.toNat)=false→pasM q M i (0+(q (i:Int).toNat).2.toNat)=false→∀j,[PV.val (.bool (pasM q M (i+1) j))]=[PV.val (.bool (pasM q M i j))]:=fun h h' j=>by
     rw [ei,Nat.zero_add] at h h'
     rw [pasM,mk2_none (by rw [h,h'];rfl)]
    have o1:∀x y:Bool,y=true→(x||y)=true:=fun x y h=>by rw [h,Bool.or_true]
    have o2:∀x y:Bool,x = !false→(x||y)=true:=fun x y h=>by rw [h];rfl
    with_unfolding_all exact⟨b1,hA,fun h2=>⟨b1,hB,fun h3=>⟨b1,b1,hA,hB,⟨i+1,[some 0,some 1],him1,hμ,Wo ⟨⟨lt_ok rfl,rfl,rfl,rfl,rfl,rfl,⟨⟨rfl,rfl,fun _ _=>rfl⟩,rfl⟩,⟨⟨rfl,rfl,fun _ _=>rfl⟩,rfl⟩,trivial⟩,⟨lt_ok rfl,rfl,rfl,rfl,rfl,rfl,fun j _=>rT (o1 _ _ h3) j⟩,trivial⟩ ⟨rfl,pP,rfl,pP,rfl,wi,trivial⟩ trivial⟩⟩,fun h3=>⟨i+1,[some 0,some 1],him1,hμ,Wo ⟨⟨lt_ok rfl,rfl,rfl,rfl,rfl,rfl,⟨⟨rfl,rfl,fun _ _=>rfl⟩,rfl⟩,⟨⟨rfl,rfl,fun _ _=>rfl⟩,rfl⟩,trivial⟩,⟨lt_ok rfl,rfl,rfl,rfl,rfl,rfl,fun j _=>rF h2 h3 j⟩,trivial⟩ ⟨rfl,pP,rfl,pP,rfl,wi,trivial⟩ trivial⟩⟩,fun h2=>⟨fun _=>⟨b1,b1,hA,hB,⟨i+1,[some 0,some 1],him1,hμ,Wo ⟨⟨lt_ok rfl,rfl,rfl,rfl,rfl,rfl,⟨⟨rfl,rfl,fun _ _=>rfl⟩,rfl⟩,⟨⟨rfl,rfl,fun _ _=>rfl⟩,rfl⟩,trivial⟩,⟨lt_ok rfl,rfl,rfl,rfl,rfl,rfl,fun j _=>rT (o2 _ _ h2) j⟩,trivial⟩ ⟨rfl,pP,rfl,pP,rfl,wi,trivial⟩ trivial⟩⟩,fun h=>(nomatch h)⟩⟩
   ·have h1:(m:Int)≤i:=ltF h1
    have hr2:r+1≤n:=by omega
    have hμ : n - (r+1) < n - r:=by omega
    have wi:PV.val (.int .i64 (IntKind.i64.wrap ((r:Int)+1)))=PV.val (.int .i64 ((r+1:Nat):Int)):=by
     rw [wrap64 (by omega) (by omega)]
     rfl
    have row:∀j,[PV.val (.bool (rndM q m (atM a) (r+1) j))]=[PV.val (.bool (pasM q (rndM q m (atM a) r) i j))]:=fun j=>by rw [rndM,show i=m by omega]
    with_unfolding_all exact⟨r+1,[some 0,some 1],hr2,hμ,Wo ⟨⟨lt_ok rfl,rfl,rfl,rfl,rfl,rfl,⟨⟨rfl,rfl,fun _ _=>rfl⟩,rfl⟩,⟨⟨rfl,rfl,fun _ _=>rfl⟩,rfl⟩,trivial⟩,⟨lt_ok rfl,rfl,rfl,rfl,rfl,rfl,fun j _=>row j⟩,trivial⟩ ⟨rfl,pP,rfl,pP,wi,trivial⟩ trivial⟩
  ·have h1:(n:Int)≤r:=ltF h1
   have v1:PV.val (.bool (rndM q m (atM a) r (0+b.toNat)))=PV.val (.bool CR):=by
    rw [hCR,conR,hk1,insB,insB,decide_eq_true ha.1,decide_eq_true ha.2,decide_eq_true hb.1,decide_eq_true hb.2,Nat.zero_add,show r=n by omega]
    rfl
   have v2:PV.val (.int .i64 0)=PV.val (.int .i64 ER):=by
    rw [hER,errC,hk1,insB,insB,decide_eq_true ha.1,decide_eq_true ha.2,decide_eq_true hb.1,decide_eq_true hb.2]
    rfl
   with_unfolding_all exact⟨hb,⟨[],stOf [(6,.val (.bool CR)),(7,.val (.int .i64 ER))] [] 0 [],Wo trivial ⟨v1,v2,trivial⟩ trivial,rfl,rfl⟩⟩
 ·cases e
end Go.Proofs
namespace Go.Num
open Go Go.Ex Go.Proofs
theorem dgt {n:Nat} (k:Nat):decide (((n:Nat):Int) > (k:Int))=decide (k < n):=by
 rw [decide_eq_decide]
 omega
theorem dlt {n:Nat} (k:Nat):decide (((n:Nat):Int) < (k:Int))=decide (n < k):=by
 rw [decide_eq_decide]
 omega
def grtR (n:Nat) (p:Nat→PtS):Bool:=(decide (10 < n)&&decide (n < 63)||decide (66 < n))||anyP (fun i=>bigP (p i)) n
def grtF (lo hi:PtS) (k:Nat) (n:Nat→Nat) (p:Nat→Nat→PtS) (l:Nat):Bool:=(bigP lo||bigP hi||decide (40 < l))||anyP (fun i=>grtR (n i) (p i)) k||(decide (k≤32)&&(decide (6 < k)||decide (24 < sumN n k))||decide (35 < k))
theorem grtR_le {n:Nat} {p:Nat→PtS} (h:grtR n p=false):n≤66:=by
 unfold grtR at h
 simp only [Bool.or_eq_false_iff,decide_eq_false_iff_not] at h
 omega
end Go.Num
namespace Go.Proofs
open Go Go.Ex Go.Num
set_option maxRecDepth 100000
def c86:List PV→Option Ans
 |[.val v]=>some ⟨some (isPk 140737488355328 v),.val (.bool (bigP (rdV v))),[]⟩
 |_=>none
def D86:Opt:={  }
theorem ok86:funcOk D86.toOrd Tryz.f86 1=true:=by kernel_rfl
theorem f86:FnOk Tryz.prog 86 c86:=by
 refine FnOk.ofW orders (mkE_ok (l:=[]) (own:=[]) (inl:=[]) (by simp []) (by simp)) Tryz.func86 D86 1 ok86 fun args r e=>?_
 unfold c86 at e
 split at e
 ·rename_i v
  cases e
  refine⟨by simp,fun hm=>?_⟩
  obtain⟨p,rfl,hp⟩:=hm _ rfl
  refine⟨[],stOf [(0,.val p.v)] [] 0 [],Wo trivial ⟨rfl,trivial⟩ trivial,?_⟩
  obtain⟨X,hX⟩:∃X,X=bigP p:=⟨_,rfl⟩
  have hx:bigP (rdV p.v)=X:=hX.symm
  rw [hx]
  have e:X=((decide ((((p.x.b).size:Nat):Int) > 12)||decide ((((p.x.c).size:Nat):Int) > 12))||(decide ((((p.y.b).size:Nat):Int) > 12)||decide ((((p.y.c).size:Nat):Int) > 12))):=by rw [hX,bigP,bigR,bigR,←dgt 12,←dgt 12,←dgt 12,←dgt 12];rfl
  have v4:decide ((((p.x.b).size:Nat):Int) > 12)=false→decide ((((p.x.c).size:Nat):Int) > 12)=false→decide ((((p.y.b).size:Nat):Int) > 12)=false→PV.val (.bool (decide ((((p.y.c).size:Nat):Int) > 12)))=PV.val (.bool X):=fun h1 h2 h3=>by rw [e,h1,h2,h3];rfl
  have v3:decide ((((p.y.b).size:Nat):Int) > 12)=true→PV.val (.bool true)=PV.val (.bool X):=fun h=>by rw [e,h,Bool.true_or,Bool.or_true]
  have v2:decide ((((p.x.c).size:Nat):Int) > 12)=true→PV.val (.bool true)=PV.val (.bool X):=fun h=>by rw [e,h,Bool.or_true,Bool.true_or]
  have v1:decide ((((p.x.b).size:Nat):Int) > 12)=true→PV.val (.bool true)=PV.val (.bool X):=fun h=>by rw [e,h,Bool.true_or,Bool.true_or]
  with_unfolding_all exact⟨fun h1=>⟨fun h2=>⟨fun h3=>⟨[],stOf [(2,.val (.bool X))] [] 0 [],Wo trivial ⟨v4 h1 h2 h3,trivial⟩ trivial,rfl,rfl⟩,fun h3=>⟨[],stOf [(2,.val (.bool X))] [] 0 [],Wo trivial ⟨v3 h3,trivial⟩ trivial,rfl,rfl⟩⟩,fun h2=>⟨fun h=>(nomatch h),fun _=>⟨[],stOf [(2,.val (.bool X))] [] 0 [],Wo trivial ⟨v2 h2,trivial⟩ trivial,rfl,rfl⟩⟩⟩,fun h1=>⟨fun h=>(nomatch h),fun _=>⟨fun h=>(nomatch h),fun _=>⟨[],stOf [(2,.val (.bool X))] [] 0 [],Wo trivial ⟨v1 h1,trivial⟩ trivial,rfl,rfl⟩⟩⟩⟩
 ·cases e
def c87:List PV→Option Ans
 |[.rs 6 n g]=>some ⟨some (isPL 140737488355328 n g),.val (.bool (grtR n (pts g))),[]⟩
 |_=>none
def D87:Opt:={  }
theorem ok87:funcOk D87.toOrd Tryz.f87 1=true:=by kernel_rfl
theorem f87:FnOk Tryz.prog 87 c87:=by
 refine FnOk.ofW orders (mkE_ok (l:=[(86,c86)]) (own:=[]) (inl:=[]) (by simp [f86]) (by simp)) Tryz.func87 D87 1 ok87 fun args r e=>?_
 unfold c87 at e
 split at e
 ·rename_i n g
  cases e
  refine⟨by simp,fun hm=>?_⟩
  obtain⟨hg,hn⟩:=hm _ rfl
  refine⟨[],stOf [(0,.rs 6 n (fun i=>(pts g i).cells))] [] 0 [],Wo trivial ⟨⟨rfl,rfl,fun i hi=>(hg i hi).1.symm⟩,trivial⟩ trivial,?_⟩
  obtain⟨X,hX⟩:∃X,X=grtR n (pts g):=⟨_,rfl⟩
  rw [←hX]
  have e:X=((decide ((n:Int) > 10)&&decide ((n:Int) < 63)||decide ((n:Int) > 66))||anyP (fun i=>bigP (pts g i)) n):=by rw [hX,grtR,←dgt 10,←dgt 66,←dlt 63];rfl
  have z:∀a b c:Bool,(a&&b||c)=true→(a&&b||c||anyP (fun i=>bigP (pts g i)) n)=true:=fun a b c h=>by rw [h];rfl
  have v1:∀c:Bool,c=(decide ((n:Int) > 10)&&decide ((n:Int) < 63)||decide ((n:Int) > 66))→c=true→PV.val (.bool true)=PV.val (.bool X):=fun c h h'=>by rw [e,←h,h'];rfl
  have m1:decide ((n:Int) > 10)=true→decide ((n:Int) < 63)=false→decide ((n:Int) > 66)=true→(decide ((n:Int) > 10)&&decide ((n:Int) < 63)||decide ((n:Int) > 66))=true:=fun a b c=>by rw [c,Bool.or_true]
  have m2:decide ((n:Int) > 10)=true→decide ((n:Int) < 63)=true→(decide ((n:Int) > 10)&&decide ((n:Int) < 63)||decide ((n:Int) > 66))=true:=fun a b=>by rw [a,b];rfl
  have m3:decide ((n:Int) > 66)=true→(decide ((n:Int) > 10)&&decide ((n:Int) < 63)||decide ((n:Int) > 66))=true:=fun a=>by rw [a,Bool.or_true]
  have m4:decide ((n:Int) < 63)=false→decide ((n:Int) > 66)=false→(decide ((n:Int) > 10)&&decide ((n:Int) < 63)||decide ((n:Int) > 66))=false:=fun a b=>by rw [a,b,Bool.and_false];rfl
  have m5:decide ((n:Int) > 10)=false→decide ((n:Int) > 66)=false→(decide ((n:Int) > 10)&&decide ((n:Int) < 63)||decide ((n:Int) > 66))=false:=fun a b=>by rw [a,b];rfl
  have v2:(decide ((n:Int) > 10)&&decide ((n:Int) < 63)||decide ((n:Int) > 66))=true→PV.val (.bool true)=PV.val (.bool X):=fun h=>by rw [e,h];rfl
  have rT:∀i:Nat,(i:Int) < n→bigP (pts g (i:Int).toNat)=true→PV.val (.bool true)=PV.val (.bool X):=fun i hi h=>by
   rw [Int.toNat_natCast] at h
   rw [e,anyP_true.2 ⟨i,by omega,h⟩,Bool.or_true]
  have rN:∀i:Nat,(∀j,j < i→bigP (pts g j)=false)→bigP (pts g (i:Int).toNat)=false→∀j,j < i+1→bigP (pts g j)=false:=fun i hI h j hj=>by
   rw [Int.toNat_natCast] at h
   rcases Nat.lt_or_ge j i with h' | h'
   ·exact hI j h'
   ·obtain rfl:j=i:=by omega
    exact h
  have rF:∀i:Nat,(decide ((n:Int) > 10)&&decide ((n:Int) < 63)||decide ((n:Int) > 66))=false→(∀j,j < i→bigP (pts g j)=false)→(n:Int)≤i→PV.val (.bool false)=PV.val (.bool X):=fun i h hI hi=>by
   rw [e,h,anyP_false.2 fun j hj=>hI j (by omega)]
   rfl
  have wi:∀i:Nat,(i:Int) < n→PV.val (.int .i64 (IntKind.i64.wrap ((i:Int)+1)))=PV.val (.int .i64 ((i+1:Nat):Int)):=fun i h=>by
   rw [wrap64 (by omega) (by omega)]
   rfl
  have pk:∀i:Nat,(i:Int) < n→isPk 140737488355328 (pts g (i:Int).toNat).v:=fun i h=>⟨_,rfl,(hg (i:Int).toNat (by omega)).2⟩
  have mu:∀i:Nat,(i:Int) < n→n - (i+1) < n - i:=fun i h=>by omega
  have le:∀i:Nat,(i:Int) < n→i+1≤n:=fun i h=>by omega
  with_unfolding_all exact⟨fun h1=>⟨fun h2=>⟨fun h3=>⟨[],stOf [(2,.val (.bool X))] [] 0 [],Wo trivial ⟨v2 (m1 h1 h2 h3),trivial⟩ trivial,rfl,rfl⟩,fun h3=>⟨Nat,fun i=>(decide ((n:Int) > 10)&&decide ((n:Int) < 63)||decide ((n:Int) > 66))=false∧i≤n∧∀j,j < i→bigP (pts g j)=false,fun i=>stOf [(0,.rs 6 n (fun i=>(pts g i).cells)),(3,.val (goInt i))] [] 0 [],fun i=>n - i,⟨0,[],⟨m4 h2 h3,Nat.zero_le _,fun j hj=>absurd hj (Nat.not_lt_zero j)⟩,Wo trivial ⟨⟨rfl,rfl,fun _ _=>rfl⟩,rfl,trivial⟩ trivial⟩,fun i hi=>⟨fun h1=>⟨⟨Int.natCast_nonneg i,ltT h1⟩,pk i (ltT h1),fun h2=>⟨[],stOf [(2,.val (.bool X))] [] 0 [],Wo trivial ⟨rT i (ltT h1) h2,trivial⟩ trivial,rfl,rfl⟩,fun h2=>⟨i+1,[],⟨hi.1,le i (ltT h1),rN i hi.2.2 h2⟩,mu i (ltT h1),Wo trivial ⟨⟨rfl,rfl,fun _ _=>rfl⟩,wi i (ltT h1),trivial⟩ trivial⟩⟩,fun h1=>⟨[],stOf [(2,.val (.bool X))] [] 0 [],Wo trivial ⟨rF i hi.1 hi.2.2 (ltF h1),trivial⟩ trivial,rfl,rfl⟩⟩⟩⟩,fun h2=>⟨fun _=>⟨[],stOf [(2,.val (.bool X))] [] 0 [],Wo trivial ⟨v2 (m2 h1 h2),trivial⟩ trivial,rfl,rfl⟩,fun h=>(nomatch h)⟩⟩,fun h1=>⟨fun _=>⟨fun h3=>⟨[],stOf [(2,.val (.bool X))] [] 0 [],Wo trivial ⟨v2 (m3 h3),trivial⟩ trivial,rfl,rfl⟩,fun h3=>⟨Nat,fun i=>(decide ((n:Int) > 10)&&decide ((n:Int) < 63)||decide ((n:Int) > 66))=false∧i≤n∧∀j,j < i→bigP (pts g j)=false,fun i=>stOf [(0,.rs 6 n (fun i=>(pts g i).cells)),(3,.val (goInt i))] [] 0 [],fun i=>n - i,⟨0,[],⟨m5 h1 h3,Nat.zero_le _,fun j hj=>absurd hj (Nat.not_lt_zero j)⟩,Wo trivial ⟨⟨rfl,rfl,fun _ _=>rfl⟩,rfl,trivial⟩ trivial⟩,fun i hi=>⟨fun h1=>⟨⟨Int.natCast_nonneg i,ltT h1⟩,pk i (ltT h1),fun h2=>⟨[],stOf [(2,.val (.bool X))] [] 0 [],Wo trivial ⟨rT i (ltT h1) h2,trivial⟩ trivial,rfl,rfl⟩,fun h2=>⟨i+1,[],⟨hi.1,le i (ltT h1),rN i hi.2.2 h2⟩,mu i (ltT h1),Wo trivial ⟨⟨rfl,rfl,fun _ _=>rfl⟩,wi i (ltT h1),trivial⟩ trivial⟩⟩,fun h1=>⟨[],stOf [(2,.val (.bool X))] [] 0 [],Wo trivial ⟨rF i hi.1 hi.2.2 (ltF h1),trivial⟩ trivial,rfl,rfl⟩⟩⟩⟩,fun h=>(nomatch h)⟩⟩
 ·cases e
def c50:List PV→Option Ans
 |[.agg xs]=>some ⟨some (isRg 140737488355328 xs),.val (.bool (grtF (gLo xs) (gHi xs) (gK xs) (pn (gC xs)) (fun i=>pts (pg (gC xs) i)) (gL xs))),[]⟩
 |_=>none
def D50:Opt:={  }
theorem ok50:funcOk D50.toOrd Tryz.f50 1=true:=by kernel_rfl
theorem f50:FnOk Tryz.prog 50 c50:=by
 refine FnOk.ofW orders (mkE_ok (l:=[(86,c86),(87,c87)]) (own:=[]) (inl:=[]) (by simp [f86,f87]) (by simp)) Tryz.func50 D50 1 ok50 fun args r e=>?_
 unfold c50 at e
 split at e
 ·rename_i xs
  cases e
  refine⟨by simp,fun hm=>?_⟩
  obtain⟨h1,⟨hlo,hhi⟩,hcl,hol⟩:=hm _ rfl
  generalize gLo xs=lo at *
  generalize gHi xs=hi at *
  generalize gK xs=k at *
  generalize gC xs=c at *
  generalize gL xs=l at *
  generalize gO xs=o at *
  subst h1
  clear hm
  refine⟨[],stOf [(0,.agg (regC lo hi k c l o))] [] 0 [],Wo trivial ⟨⟨rfl,rfl,rfl,rfl,rfl,rfl,rfl,rfl,rfl,rfl,rfl,rfl,⟨rfl,rfl,fun _ _=>rfl⟩,⟨rfl,rfl,fun _ _=>rfl⟩,trivial⟩,trivial⟩ trivial,?_⟩
  obtain⟨X,hX⟩:∃X,X=grtF lo hi k (pn c) (fun i=>pts (pg c i)) l:=⟨_,rfl⟩
  rw [←hX]
  have e:X=(((bigP lo||bigP hi)||decide ((l:Int) > 40))||anyP (fun i=>grtR (pn c i) (pts (pg c i))) k||(decide (k≤32)&&(decide (6 < k)||decide (24 < sumN (pn c) k))||decide (35 < k))):=by rw [hX,grtF,←dgt 40];rfl
  have v1:∀A B C:Bool,((A||B)||C)=((bigP lo||bigP hi)||decide ((l:Int) > 40))→((A||B)||C)=true→PV.val (.bool true)=PV.val (.bool X):=fun A B C h h'=>by rw [e,←h,h',Bool.true_or,Bool.true_or]
  have t1:bigP lo=true→((bigP lo||bigP hi)||decide ((l:Int) > 40))=true:=fun h=>by rw [h];rfl
  have t2:bigP hi=true→((bigP lo||bigP hi)||decide ((l:Int) > 40))=true:=fun h=>by rw [h,Bool.or_true];rfl
  have t3:decide ((l:Int) > 40)=true→((bigP lo||bigP hi)||decide ((l:Int) > 40))=true:=fun h=>by rw [h,Bool.or_true]
  have t4:bigP lo=false→bigP hi=false→decide ((l:Int) > 40)=false→((bigP lo||bigP hi)||decide ((l:Int) > 40))=false:=fun h h' h2=>by rw [h,h',h2];rfl
  have v0:((bigP lo||bigP hi)||decide ((l:Int) > 40))=true→PV.val (.bool true)=PV.val (.bool X):=fun h=>by rw [e,h,Bool.true_or,Bool.true_or]
  have pl:isPk 140737488355328 lo.v:=⟨_,rfl,hlo⟩
  have ph:isPk 140737488355328 hi.v:=⟨_,rfl,hhi⟩
  have hk47:k≤140737488355328:=hcl.2
  with_unfolding_all refine⟨pl,fun h1=>⟨ph,fun h2=>⟨fun h3=>⟨[],stOf [(2,.val (.bool X))] [] 0 [],Wo trivial ⟨v0 (t3 h3),trivial⟩ trivial,rfl,rfl⟩,fun h3=>⟨Nat,fun i=>((bigP lo||bigP hi)||decide ((l:Int) > 40))=false∧i≤k∧∀j,j < i→grtR (pn c j) (pts (pg c j))=false,fun i=>stOf [(1,.ptr 0 0 0 0),(3,.val (goInt (sumN (pn c) i))),(4,.val (goInt i))] [⟨31,14,0,true,false,1,fun _=>regC lo hi k c l o⟩] 1 [],fun i=>k - i,⟨0,[some 0],⟨t4 h1 h2 h3,Nat.zero_le _,fun j hj=>absurd hj (Nat.not_lt_zero j)⟩,Wo ⟨⟨lt_ok rfl,rfl,rfl,rfl,rfl,rfl,rq,rq,rq,rq,rq,rq,rq,rq,rq,rq,rq,rq,⟨⟨rfl,rfl,fun _ _=>rfl⟩,rfl⟩,⟨⟨rfl,rfl,fun _ _=>rfl⟩,rfl⟩,trivial⟩,trivial⟩ ⟨pP,rfl,rfl,trivial⟩ trivial⟩,fun i hI0=>?_⟩⟩,fun h2=>⟨fun _=>⟨[],stOf [(2,.val (.bool X))] [] 0 [],Wo trivial ⟨v0 (t2 h2),trivial⟩ trivial,rfl,rfl⟩,fun h=>(nomatch h)⟩⟩,fun h1=>⟨fun h=>(nomatch h),fun _=>⟨fun _=>⟨[],stOf [(2,.val (.bool X))] [] 0 [],Wo trivial ⟨v0 (t1 h1),trivial⟩ trivial,rfl,rfl⟩,fun h=>(nomatch h)⟩⟩⟩
  obtain⟨ha,hik,hI⟩:((bigP lo||bigP hi)||decide ((l:Int) > 40))=false∧i≤k∧∀j,j < i→grtR (pn c j) (pts (pg c j))=false:=hI0
  have hsum:∀j,j≤i→sumN (pn c) j≤66*j:=fun j=>by
   induction j with
   |zero=>intro _;exact Nat.le_refl _
   |succ j ih =>
    intro hj
    have h1:=ih (by omega)
    have h2:=grtR_le (hI j (by omega))
    unfold sumN
    omega
  have hs:=hsum i (Nat.le_refl _)
  have e1:decide (k≤32)=decide ((k:Int)≤32):=by
   rw [decide_eq_decide]
   omega
  have e':i=k→X=(anyP (fun i=>grtR (pn c i) (pts (pg c i))) k||(decide ((k:Int)≤32)&&(decide ((k:Int) > 6)||decide (((sumN (pn c) i:Nat):Int) > 24))||decide ((k:Int) > 35))):=fun h=>by rw [e,ha,Bool.false_or,e1,←dgt 6,←dgt 35,←dgt 24,h];rfl
  have af:i=k→anyP (fun i=>grtR (pn c i) (pts (pg c i))) k=false:=fun h=>anyP_false.2 fun j hj=>hI j (by omega)
  have x1:(k:Int)≤i→decide ((k:Int)≤32)=true→decide ((k:Int) > 6)=false→decide (((sumN (pn c) i:Nat):Int) > 24)=false→PV.val (.bool (decide ((k:Int) > 35)))=PV.val (.bool X):=fun h a b d=>by
   have hk:i=k:=by omega
   rw [e' hk,af hk,a,b,d]
   rfl
  have x2:(k:Int)≤i→decide ((k:Int)≤32)=true→decide ((k:Int) > 6)=false→decide (((sumN (pn c) i:Nat):Int) > 24)=true→PV.val (.bool true)=PV.val (.bool X):=fun h a b d=>by
   have hk:i=k:=by omega
   rw [e' hk,a,d,Bool.or_true,Bool.true_and,Bool.true_or,Bool.or_true]
  have x3:(k:Int)≤i→decide ((k:Int)≤32)=true→decide ((k:Int) > 6)=true→PV.val (.bool true)=PV.val (.bool X):=fun h a b=>by
   have hk:i=k:=by omega
   rw [e' hk,a,b,Bool.true_or,Bool.true_and,Bool.true_or,Bool.or_true]
  have x4:(k:Int)≤i→decide ((k:Int)≤32)=false→PV.val (.bool (decide ((k:Int) > 35)))=PV.val (.bool X):=fun h a=>by
   have hk:i=k:=by omega
   rw [e' hk,af hk,a]
   rfl
  have ei:(i:Int).toNat=i:=Int.toNat_natCast i
  have rT:(i:Int) < k→grtR (pn c (i:Int).toNat) (pts (pg c (i:Int).toNat))=true→PV.val (.bool true)=PV.val (.bool X):=fun hi1 h=>by
   rw [ei] at h
   rw [e,anyP_true.2 ⟨i,by omega,h⟩,Bool.or_true,Bool.true_or]
  have rN:grtR (pn c (i:Int).toNat) (pts (pg c (i:Int).toNat))=false→∀j,j < i+1→grtR (pn c j) (pts (pg c j))=false:=fun h j hj=>by
   rw [ei] at h
   rcases Nat.lt_or_ge j i with h' | h'
   ·exact hI j h'
   ·obtain rfl:j=i:=by omega
    exact h
  have wi:(i:Int) < k→PV.val (.int .i64 (IntKind.i64.wrap ((i:Int)+1)))=PV.val (.int .i64 ((i+1:Nat):Int)):=fun h=>by
   rw [wrap64 (by omega) (by omega)]
   rfl
  have ws:grtR (pn c (i:Int).toNat) (pts (pg c (i:Int).toNat))=false→PV.val (.int .i64 (IntKind.i64.wrap (((sumN (pn c) i:Nat):Int)+((pn c (i:Int).toNat:Nat):Int))))=PV.val (goInt ((sumN (pn c) (i+1):Nat):Int)):=fun h=>by
   rw [ei] at h ⊢
   have h2:=grtR_le h
   rw [wrap64 (by omega) (by omega),sumN]
   rfl
  have pr:(i:Int) < k→isPL 140737488355328 (pn c (i:Int).toNat) (pg c (i:Int).toNat):=fun h=>(hcl.1 _ (by omega)).2
  have mu:(i:Int) < k→k - (i+1) < k - i:=fun h=>by omega
  have le:(i:Int) < k→i+1≤k:=fun h=>by omega
  with_unfolding_all exact⟨fun h1=>⟨⟨Int.natCast_nonneg i,ltT h1⟩,⟨Int.natCast_nonneg i,ltT h1⟩,pr (ltT h1),fun h2=>⟨[],stOf [(2,.val (.bool X))] [] 0 [],Wo trivial ⟨rT (ltT h1) h2,trivial⟩ trivial,rfl,rfl⟩,fun h2=>⟨i+1,[some 0],⟨ha,le (ltT h1),rN h2⟩,mu (ltT h1),Wo ⟨⟨lt_ok rfl,rfl,rfl,rfl,rfl,rfl,rq,rq,rq,rq,rq,rq,rq,rq,rq,rq,rq,rq,⟨⟨rfl,rfl,fun _ _=>rfl⟩,rfl⟩,⟨⟨rfl,rfl,fun _ _=>rfl⟩,rfl⟩,trivial⟩,trivial⟩ ⟨pP,ws h2,wi (ltT h1),trivial⟩ trivial⟩⟩,fun h1=>⟨fun h2=>⟨fun h3=>⟨fun h4=>⟨[],stOf [(2,.val (.bool X))] [] 0 [],Wo trivial ⟨x1 (ltF h1) h2 h3 h4,trivial⟩ trivial,rfl,rfl⟩,fun h4=>⟨[],stOf [(2,.val (.bool X))] [] 0 [],Wo trivial ⟨x2 (ltF h1) h2 h3 h4,trivial⟩ trivial,rfl,rfl⟩⟩,fun h3=>⟨fun h=>(nomatch h),fun _=>⟨[],stOf [(2,.val (.bool X))] [] 0 [],Wo trivial ⟨x3 (ltF h1) h2 h3,trivial⟩ trivial,rfl,rfl⟩⟩⟩,fun h2=>⟨fun _=>⟨[],stOf [(2,.val (.bool X))] [] 0 [],Wo trivial ⟨x4 (ltF h1) h2,trivial⟩ trivial,rfl,rfl⟩,fun h=>(nomatch h)⟩⟩⟩
 ·cases e
end Go.Proofs
namespace Go.Num
open Go Go.Ex Go.Proofs
def bad13 (n:Nat) (p:Nat→PtS) (i:Nat):Bool:=decide (orP (p i) (p ((i+1)%n)) (p ((i+2)%n))≤0)||decide (0 < i)&&decide (i+1 < n)&&decide (orP (p 0) (p i) (p (i+1))≤0)
def ge0 (p:Nat→PtS) (i:Nat):Bool:=decide (cmpP (p 0) (p (1+i))≥0)
def chk13 (n:Nat) (p:Nat→PtS):Int:=bif decide (n < 3)||decide (64 < n) then 4 else bif anyP (fun i=>!canonP (p i)) n then 1 else bif anyP (ge0 p) (n - 1) then 8 else bif anyP (bad13 n p) n then 15 else 0
end Go.Num
namespace Go.Proofs
open Go Go.Ex Go.Num
set_option maxRecDepth 100000
def c95:List PV→Option Ans
 |[.rs 6 n g]=>some ⟨some (isPL 10000 n g),.val (.int .i64 (chk13 n (pts g))),[]⟩
 |_=>none
def D95:Opt:={  }
theorem ok95:funcOk D95.toOrd Tryz.f95 1=true:=by kernel_rfl
theorem f95:FnOk Tryz.prog 95 c95:=by
 refine FnOk.ofW orders (mkE_ok (l:=[(130,c130),(98,c98),(131,c131)]) (own:=[]) (inl:=[]) (by simp [f130,f98,f131]) (by simp)) Tryz.func95 D95 1 ok95 fun args r e=>?_
 unfold c95 at e
 split at e
 ·rename_i n g
  cases e
  refine⟨by simp,fun hm=>?_⟩
  obtain⟨hg,hn⟩:=hm _ rfl
  refine⟨[],stOf [(0,.rs 6 n (fun i=>(pts g i).cells))] [] 0 [],Wo trivial ⟨⟨rfl,rfl,fun i hi=>(hg i hi).1.symm⟩,trivial⟩ trivial,?_⟩
  obtain⟨X,hX⟩:∃X,X=chk13 n (pts g):=⟨_,rfl⟩
  rw [←hX]
  have e:X=bif decide ((n:Int) < 3)||decide ((n:Int) > 64) then 4 else bif anyP (fun i=>!canonP (pts g i)) n then 1 else bif anyP (ge0 (pts g)) (n - 1) then 8 else bif anyP (bad13 n (pts g)) n then 15 else 0:=by rw [hX,chk13,←dgt 64,←dlt 3];rfl
  have hpl:isPL 4294967296 n (fun i=>(pts g i).cells):=⟨fun i hi=>⟨rfl,(hg i hi).2.mono (by decide)⟩,hn⟩
  have x4:(decide ((n:Int) < 3)||decide ((n:Int) > 64))=true→PV.val (.int .i64 4)=PV.val (.int .i64 X):=fun h=>by rw [e,h];rfl
  have t1:decide ((n:Int) < 3)=true→(decide ((n:Int) < 3)||decide ((n:Int) > 64))=true:=fun h=>by rw [h];rfl
  have t2:decide ((n:Int) > 64)=true→(decide ((n:Int) < 3)||decide ((n:Int) > 64))=true:=fun h=>by rw [h,Bool.or_true]
  have x1:decide ((n:Int) < 3)=false→decide ((n:Int) > 64)=false→(!!anyP (fun i=>!canonP (pts g i)) n)=true→PV.val (.int .i64 1)=PV.val (.int .i64 X):=fun h h' k=>by
   rw [Bool.not_not] at k
   rw [e,h,h',k]
   rfl
  have e2:decide ((n:Int) < 3)=false→decide ((n:Int) > 64)=false→(!!anyP (fun i=>!canonP (pts g i)) n)=false→(3≤n∧n≤64)∧X=bif anyP (ge0 (pts g)) (n - 1) then 8 else bif anyP (bad13 n (pts g)) n then 15 else 0:=fun h h' k=>by
   rw [Bool.not_not] at k
   have h1:=of_decide_eq_false h
   have h2:=of_decide_eq_false h'
   exact⟨by omega,by rw [e,h,h',k];rfl⟩
  with_unfolding_all refine⟨fun h1=>⟨fun h2=>⟨[],stOf [(2,.val (.int .i64 X))] [] 0 [],Wo trivial ⟨x4 (t2 h2),trivial⟩ trivial,rfl,rfl⟩,fun h2=>⟨hpl,fun h3=>⟨[],stOf [(2,.val (.int .i64 X))] [] 0 [],Wo trivial ⟨x1 h1 h2 h3,trivial⟩ trivial,rfl,rfl⟩,fun h3=>⟨Nat,fun j=>((3≤n∧n≤64)∧X=bif anyP (ge0 (pts g)) (n - 1) then 8 else bif anyP (bad13 n (pts g)) n then 15 else 0)∧j+1≤n∧∀i,i < j→ge0 (pts g) i=false,fun j=>stOf [(0,.rs 6 n (fun i=>(pts g i).cells)),(3,.val (goInt n)),(4,.val (.int .i64 ((j:Int)+1)))] [] 0 [],fun j=>n - j,⟨0,[],⟨e2 h1 h2 h3,by have:=(e2 h1 h2 h3).1;show 0+1≤n;omega,fun i hi=>absurd hi (Nat.not_lt_zero i)⟩,Wo trivial ⟨⟨rfl,rfl,fun _ _=>rfl⟩,rfl,rfl,trivial⟩ trivial⟩,fun j hj=>?_⟩⟩⟩,fun h1=>⟨fun _=>⟨[],stOf [(2,.val (.int .i64 X))] [] 0 [],Wo trivial ⟨x4 (t1 h1),trivial⟩ trivial,rfl,rfl⟩,fun h=>(nomatch h)⟩⟩
  obtain⟨⟨⟨hn3,hn64⟩,hE⟩,hjn,hJ⟩:((3≤n∧n≤64)∧X=bif anyP (ge0 (pts g)) (n - 1) then 8 else bif anyP (bad13 n (pts g)) n then 15 else 0)∧j+1≤n∧∀i,i < j→ge0 (pts g) i=false:=hj
  with_unfolding_all refine⟨fun h1=>?_,fun h1=>?_⟩
  ·have h1:(j:Int)+1 < n:=ltT h1
   have ej:((j:Int)+1).toNat=1+j:=by omega
   have hc:decide (cmpP (pts g 0) (pts g ((j:Int)+1).toNat)≥0)=ge0 (pts g) j:=by rw [ej];rfl
   have pk0:isPk 1073741824 (pts g 0).v:=⟨_,rfl,(hg 0 (by omega)).2.mono (by decide)⟩
   have pkj:isPk 1073741824 (pts g ((j:Int)+1).toNat).v:=⟨_,rfl,(hg _ (by omega)).2.mono (by decide)⟩
   have v8:decide (cmpP (pts g 0) (pts g ((j:Int)+1).toNat)≥0)=true→PV.val (.int .i64 8)=PV.val (.int .i64 X):=fun h=>by
    rw [hc] at h
    rw [hE,anyP_true.2 ⟨j,by omega,h⟩]
    rfl
   have nx:decide (cmpP (pts g 0) (pts g ((j:Int)+1).toNat)≥0)=false→∀i,i < j+1→ge0 (pts g) i=false:=fun h i hi=>by
    rw [hc] at h
    rcases Nat.lt_or_ge i j with h' | h'
    ·exact hJ i h'
    ·obtain rfl:i=j:=by omega
     exact h
   have wj:PV.val (.int .i64 (IntKind.i64.wrap ((j:Int)+1+1)))=PV.val (.int .i64 (((j+1:Nat):Int)+1)):=by
    rw [wrap64 (by omega) (by omega)]
    rfl
   with_unfolding_all exact⟨⟨by omega,by omega⟩,⟨by omega,h1⟩,⟨pk0,pkj⟩,fun h2=>⟨[],stOf [(2,.val (.int .i64 X))] [] 0 [],Wo trivial ⟨v8 h2,trivial⟩ trivial,rfl,rfl⟩,fun h2=>⟨j+1,[],⟨⟨⟨hn3,hn64⟩,hE⟩,by show j+1+1≤n;omega,nx h2⟩,by show n - (j+1) < n - j;omega,Wo trivial ⟨⟨rfl,rfl,fun _ _=>rfl⟩,rfl,wj,trivial⟩ trivial⟩⟩
  ·have h1:(n:Int)≤(j:Int)+1:=ltF h1
   have hE2:X=bif anyP (bad13 n (pts g)) n then 15 else 0:=by
    rw [hE,anyP_false.2 fun i hi=>hJ i (by omega)]
    rfl
   with_unfolding_all refine⟨Nat,fun i=>i≤n∧∀j,j < i→bad13 n (pts g) j=false,fun i=>stOf [(0,.rs 6 n (fun i=>(pts g i).cells)),(3,.val (goInt n)),(5,.val (goInt i))] [] 0 [],fun i=>n - i,⟨0,[],⟨Nat.zero_le _,fun i hi=>absurd hi (Nat.not_lt_zero i)⟩,Wo trivial ⟨⟨rfl,rfl,fun _ _=>rfl⟩,rfl,rfl,trivial⟩ trivial⟩,fun i hi=>?_⟩
   obtain⟨hin,hI⟩:i≤n∧∀j,j < i→bad13 n (pts g) j=false:=hi
   with_unfolding_all refine⟨fun h2=>?_,fun h2=>?_⟩
   ·have h2:(i:Int) < n:=ltT h2
    have ei:(i:Int).toNat=i:=Int.toNat_natCast i
    have wr:∀m:Nat,m≤2→IntKind.i64.wrap ((i:Int)+(m:Int))=((i+m:Nat):Int):=fun m hm=>by
     rw [wrap64 (by omega) (by omega),Int.natCast_add]
    have r1:IntKind.i64.wrap ((i:Int)+1)=((i+1:Nat):Int):=wr 1 (by decide)
    have r2:IntKind.i64.wrap ((i:Int)+2)=((i+2:Nat):Int):=wr 2 (by decide)
    have q1:((IntKind.i64.wrap ((i:Int)+1)).tmod n)=(((i+1)%n:Nat):Int):=by rw [r1];rfl
    have q2:((IntKind.i64.wrap ((i:Int)+2)).tmod n)=(((i+2)%n:Nat):Int):=by rw [r2];rfl
    have l1:=Nat.mod_lt (i+1) (show 0 < n by omega)
    have l2:=Nat.mod_lt (i+2) (show 0 < n by omega)
    have m1:0≤((IntKind.i64.wrap ((i:Int)+1)).tmod n)∧((IntKind.i64.wrap ((i:Int)+1)).tmod n) < n:=by rw [q1];omega
    have m2:0≤((IntKind.i64.wrap ((i:Int)+2)).tmod n)∧((IntKind.i64.wrap ((i:Int)+2)).tmod n) < n:=by rw [q2];omega
    have hne:(n:Int)≠0:=by omega
    have b1:decide (orP (pts g (i:Int).toNat) (pts g ((IntKind.i64.wrap ((i:Int)+1)).tmod n).toNat) (pts g ((IntKind.i64.wrap ((i:Int)+2)).tmod n).toNat)≤0)=decide (orP (pts g i) (pts g ((i+1)%n)) (pts g ((i+2)%n))≤0):=by rw [q1,q2,ei,Int.toNat_natCast,Int.toNat_natCast]
    have b2:decide (orP (pts g 0) (pts g (i:Int).toNat) (pts g (IntKind.i64.wrap ((i:Int)+1)).toNat)≤0)=decide (orP (pts g 0) (pts g i) (pts g (i+1))≤0):=by rw [r1,ei,Int.toNat_natCast]
    have b3:decide ((IntKind.i64.wrap ((i:Int)+1)) < (n:Int))=decide (i+1 < n):=by
     rw [r1,decide_eq_decide]
     omega
    have b4:decide ((i:Int) > 0)=decide (0 < i):=by
     rw [decide_eq_decide]
     omega
    have eb:bad13 n (pts g) i=(decide (orP (pts g (i:Int).toNat) (pts g ((IntKind.i64.wrap ((i:Int)+1)).tmod n).toNat) (pts g ((IntKind.i64.wrap ((i:Int)+2)).tmod n).toNat)≤0)||decide ((i:Int) > 0)&&decide ((IntKind.i64.wrap ((i:Int)+1)) < (n:Int))&&decide (orP (pts g 0) (pts g (i:Int).toNat) (pts g (IntKind.i64.wrap ((i:Int)+1)).toNat)≤0)):=by rw [b1,b2,b3,b4];rfl
    have le1:i+1≤n:=by omega
    have mu:n - (i+1) < n - i:=by omega
    have wi:PV.val (.int .i64 (IntKind.i64.wrap ((i:Int)+1)))=PV.val (.int .i64 ((i+1:Nat):Int)):=by rw [r1]
    have v15:bad13 n (pts g) i=true→PV.val (.int .i64 15)=PV.val (.int .i64 X):=fun h=>by
     rw [hE2,anyP_true.2 ⟨i,by omega,h⟩]
     rfl
    have nx:bad13 n (pts g) i=false→∀j,j < i+1→bad13 n (pts g) j=false:=fun h j hj=>by
     rcases Nat.lt_or_ge j i with h' | h'
     ·exact hI j h'
     ·obtain rfl:j=i:=by omega
      exact h
    have a1:decide (orP (pts g (i:Int).toNat) (pts g ((IntKind.i64.wrap ((i:Int)+1)).tmod n).toNat) (pts g ((IntKind.i64.wrap ((i:Int)+2)).tmod n).toNat)≤0)=true→bad13 n (pts g) i=true:=fun h=>by rw [eb,h];rfl
    have a2:decide (orP (pts g (i:Int).toNat) (pts g ((IntKind.i64.wrap ((i:Int)+1)).tmod n).toNat) (pts g ((IntKind.i64.wrap ((i:Int)+2)).tmod n).toNat)≤0)=false→decide ((i:Int) > 0)=false→bad13 n (pts g) i=false:=fun h h'=>by rw [eb,h,h'];rfl
    have a3:decide (orP (pts g (i:Int).toNat) (pts g ((IntKind.i64.wrap ((i:Int)+1)).tmod n).toNat) (pts g ((IntKind.i64.wrap ((i:Int)+2)).tmod n).toNat)≤0)=false→decide ((i:Int) > 0)=true→decide ((IntKind.i64.wrap ((i:Int)+1)) < (n:Int))=false→bad13 n (pts g) i=false:=fun h h' k=>by rw [eb,h,h',k];rfl
    have a4:decide ((i:Int) > 0)=true→decide ((IntKind.i64.wrap ((i:Int)+1)) < (n:Int))=true→decide (orP (pts g 0) (pts g (i:Int).toNat) (pts g (IntKind.i64.wrap ((i:Int)+1)).toNat)≤0)=true→bad13 n (pts g) i=true:=fun h h' k=>by
     rw [eb,h,h',k]
     exact Bool.or_true _
    have a5:decide (orP (pts g (i:Int).toNat) (pts g ((IntKind.i64.wrap ((i:Int)+1)).tmod n).toNat) (pts g ((IntKind.i64.wrap ((i:Int)+2)).tmod n).toNat)≤0)=false→decide (orP (pts g 0) (pts g (i:Int).toNat) (pts g (IntKind.i64.wrap ((i:Int)+1)).toNat)≤0)=false→bad13 n (pts g) i=false:=fun h k=>by rw [eb,h,k,Bool.and_false];rfl
    have pk:∀z:Int,0≤z∧z < n→isPk 10000 (pts g z.toNat).v:=fun z hz=>⟨_,rfl,(hg _ (by omega)).2⟩
    have pi:isPk 10000 (pts g (i:Int).toNat).v:=pk _ ⟨by omega,h2⟩
    have p0:isPk 10000 (pts g (Int.toNat 0)).v:=pk 0 ⟨by omega,by omega⟩
    have ri:0≤(i:Int)∧(i:Int) < n:=⟨by omega,h2⟩
    have r0:0≤(0:Int)∧(0:Int) < n:=⟨by omega,by omega⟩
    have rw1:decide ((IntKind.i64.wrap ((i:Int)+1)) < (n:Int))=true→0≤(IntKind.i64.wrap ((i:Int)+1))∧(IntKind.i64.wrap ((i:Int)+1)) < n:=fun h=>⟨by rw [r1];omega,of_decide_eq_true h⟩
    with_unfolding_all exact⟨ri,hne,m1,hne,m2,⟨pi,pk _ m1,pk _ m2⟩,⟨fun h3=>⟨fun h4=>⟨fun h5=>⟨r0,ri,rw1 h5,⟨p0,pi,pk _ (rw1 h5)⟩,fun h6=>⟨[],stOf [(2,.val (.int .i64 X))] [] 0 [],Wo trivial ⟨v15 (a4 h4 h5 h6),trivial⟩ trivial,rfl,rfl⟩,fun h6=>⟨i+1,[],⟨le1,nx (a5 h3 h6)⟩,mu,Wo trivial ⟨⟨rfl,rfl,fun _ _=>rfl⟩,rfl,wi,trivial⟩ trivial⟩⟩,fun h5=>⟨fun h=>(nomatch h),fun _=>⟨i+1,[],⟨le1,nx (a3 h3 h4 h5)⟩,mu,Wo trivial ⟨⟨rfl,rfl,fun _ _=>rfl⟩,rfl,wi,trivial⟩ trivial⟩⟩⟩,fun h4=>⟨fun h=>(nomatch h),fun _=>⟨fun h=>(nomatch h),fun _=>⟨i+1,[],⟨le1,nx (a2 h3 h4)⟩,mu,Wo trivial ⟨⟨rfl,rfl,fun _ _=>rfl⟩,rfl,wi,trivial⟩ trivial⟩⟩⟩⟩,fun h3=>⟨fun _=>⟨[],stOf [(2,.val (.int .i64 X))] [] 0 [],Wo trivial ⟨v15 (a1 h3),trivial⟩ trivial,rfl,rfl⟩,fun h=>(nomatch h)⟩⟩⟩
   ·have h2:(n:Int)≤i:=ltF h2
    have v0:PV.val (.int .i64 0)=PV.val (.int .i64 X):=by
     rw [hE2,anyP_false.2 fun j hj=>hI j (by omega)]
     rfl
    with_unfolding_all exact⟨[],stOf [(2,.val (.int .i64 X))] [] 0 [],Wo trivial ⟨v0,trivial⟩ trivial,rfl,rfl⟩
 ·cases e
end Go.Proofs
namespace Go.Num
open Go Go.Ex Go.Proofs
def regR (lo hi:PtS) (k:Nat) (n:Nat→Nat) (r:Nat→Int) (l:Nat) (q:Nat→Int×Int×Int):Int :=
 bif !canonP lo||!canonP hi then 1 else bif decide (32 < k) then 4 else bif !(firstE r k 0==0) then firstE r k 0
 else bif decide (396 < sumN n k) then 4 else bif !decide (l=k) then 9 else bif anyP (fun i=>negO (q i)) l then 2 else 0
theorem regE_R (lo hi:PtS) (k:Nat) (n:Nat→Nat) (p:Nat→Nat→PtS) (l:Nat) (q:Nat→Int×Int×Int):regE lo hi k n p l q=regR lo hi k n (fun i=>ringE (n i) (p i)) l q:=rfl
theorem chk13_le {n:Nat} {p:Nat→PtS} (h:chk13 n p=0):n≤64:=by
 unfold chk13 at h
 cases hc:(decide (n < 3)||decide (64 < n)) with
 |true=>rw [hc] at h;cases h
 |false =>
  simp only [Bool.or_eq_false_iff,decide_eq_false_iff_not] at hc
  omega
end Go.Num
namespace Go.Proofs
open Go Go.Ex Go.Num
set_option maxRecDepth 100000
def c58:List PV→Option Ans
 |[.agg xs]=>some ⟨some (isRg 10000 xs),.val (.int .i64 (regR (gLo xs) (gHi xs) (gK xs) (pn (gC xs)) (fun i=>chk13 (pn (gC xs) i) (pts (pg (gC xs) i))) (gL xs) (ow (gO xs)))),[]⟩
 |_=>none
def D58:Opt:={  }
theorem ok58:funcOk D58.toOrd Tryz.f58 1=true:=by kernel_rfl
theorem f58:FnOk Tryz.prog 58 c58:=by
 refine FnOk.ofW orders (mkE_ok (l:=[(59,c59),(95,c95)]) (own:=[]) (inl:=[]) (by simp [f59,f95]) (by simp)) Tryz.func58 D58 1 ok58 fun args r e=>?_
 unfold c58 at e
 split at e
 ·rename_i xs
  cases e
  refine⟨by simp,fun hm=>?_⟩
  obtain⟨h1,⟨hlo,hhi⟩,hcl,hol⟩:=hm _ rfl
  generalize gLo xs=lo at *
  generalize gHi xs=hi at *
  generalize gK xs=k at *
  generalize gC xs=c at *
  generalize gL xs=l at *
  generalize gO xs=o at *
  subst h1
  clear hm
  refine⟨[],stOf [(0,.agg (regC lo hi k c l o))] [] 0 [],Wo trivial ⟨⟨rfl,rfl,rfl,rfl,rfl,rfl,rfl,rfl,rfl,rfl,rfl,rfl,⟨rfl,rfl,fun _ _=>rfl⟩,⟨rfl,rfl,fun _ _=>rfl⟩,trivial⟩,trivial⟩ trivial,?_⟩
  obtain⟨X,hX⟩:∃X,X=regR lo hi k (pn c) (fun i=>chk13 (pn c i) (pts (pg c i))) l (ow o):=⟨_,rfl⟩
  rw [←hX]
  obtain⟨Fe,hFe⟩:∃Fe,Fe=firstE (fun i=>chk13 (pn c i) (pts (pg c i))) k 0:=⟨_,rfl⟩
  have e:X=bif !canonP lo||!canonP hi then 1 else bif decide (32 < k) then 4 else bif !(Fe==0) then Fe else bif decide (396 < sumN (pn c) k) then 4 else bif !decide (l=k) then 9 else bif anyP (fun i=>negO (ow o i)) l then 2 else 0:=by rw [hX,regR,←hFe]
  clear hX
  have hno:∀b:Bool,(okW b != 0)=true→b=false:=fun b h=>by cases b<;>first|rfl|cases h
  have hyes:∀b:Bool,(okW b != 0)=false→b=true:=fun b h=>by cases b<;>first|rfl|cases h
  have pl:isPk 4294967296 lo.v:=⟨_,rfl,hlo.mono (by decide)⟩
  have ph:isPk 4294967296 hi.v:=⟨_,rfl,hhi.mono (by decide)⟩
  have x1:canonP lo=false→PV.val (.int .i64 1)=PV.val (.int .i64 X):=fun h=>by rw [e,h];rfl
  have x2:canonP hi=false→PV.val (.int .i64 1)=PV.val (.int .i64 X):=fun h=>by rw [e,h,Bool.not_false,Bool.or_true];rfl
  have x3:canonP lo=true→canonP hi=true→decide ((k:Int) > 32)=true→PV.val (.int .i64 4)=PV.val (.int .i64 X):=fun h h' k'=>by
   replace k':=(dgt 32).symm.trans k'
   rw [e,h,h',k']
   rfl
  have x4:canonP lo=true→canonP hi=true→decide ((k:Int) > 32)=false→(X=bif !(Fe==0) then Fe else bif decide (396 < sumN (pn c) k) then 4 else bif !decide (l=k) then 9 else bif anyP (fun i=>negO (ow o i)) l then 2 else 0)∧k≤32:=fun h h' k'=>by
   replace k':=(dgt 32).symm.trans k'
   refine⟨by rw [e,h,h',k'];rfl,?_⟩
   have:=of_decide_eq_false k'
   omega
  with_unfolding_all refine⟨pl,fun h1=>⟨ph,fun h2=>⟨[],stOf [(2,.val (.int .i64 X))] [] 0 [],Wo trivial ⟨x2 (hno _ h2),trivial⟩ trivial,rfl,rfl⟩,fun h2=>⟨fun h3=>⟨[],stOf [(2,.val (.int .i64 X))] [] 0 [],Wo trivial ⟨x3 (hyes _ h1) (hyes _ h2) h3,trivial⟩ trivial,rfl,rfl⟩,fun h3=>⟨Nat,fun i=>(X=bif !(Fe==0) then Fe else bif decide (396 < sumN (pn c) k) then 4 else bif !decide (l=k) then 9 else bif anyP (fun i=>negO (ow o i)) l then 2 else 0)∧k≤32∧i≤k∧firstE (fun i=>chk13 (pn c i) (pts (pg c i))) (k - i) i=Fe∧sumN (pn c) i≤64*i,fun i=>stOf [(1,.ptr 0 0 0 0),(3,.val (goInt (sumN (pn c) i))),(4,.val (goInt i))] [⟨31,14,0,true,false,1,fun _=>regC lo hi k c l o⟩] 1 [],fun i=>k - i,⟨0,[some 0],⟨(x4 (hyes _ h1) (hyes _ h2) h3).1,(x4 (hyes _ h1) (hyes _ h2) h3).2,Nat.zero_le _,hFe.symm,Nat.le_refl _⟩,Wo ⟨⟨lt_ok rfl,rfl,rfl,rfl,rfl,rfl,rq,rq,rq,rq,rq,rq,rq,rq,rq,rq,rq,rq,⟨⟨rfl,rfl,fun _ _=>rfl⟩,rfl⟩,⟨⟨rfl,rfl,fun _ _=>rfl⟩,rfl⟩,trivial⟩,trivial⟩ ⟨pP,rfl,rfl,trivial⟩ trivial⟩,fun i hI0=>?_⟩⟩⟩,fun h1=>⟨fun _=>⟨[],stOf [(2,.val (.int .i64 X))] [] 0 [],Wo trivial ⟨x1 (hno _ h1),trivial⟩ trivial,rfl,rfl⟩,fun h=>(nomatch h)⟩⟩
  obtain⟨hX,hk32,hik,hFi,hsum⟩:(X=bif !(Fe==0) then Fe else bif decide (396 < sumN (pn c) k) then 4 else bif !decide (l=k) then 9 else bif anyP (fun i=>negO (ow o i)) l then 2 else 0)∧k≤32∧i≤k∧firstE (fun i=>chk13 (pn c i) (pts (pg c i))) (k - i) i=Fe∧sumN (pn c) i≤64*i:=hI0
  with_unfolding_all refine⟨fun h1=>?_,fun h1=>?_⟩
  ·have h1:(i:Int) < k:=ltT h1
   have ei:(i:Int).toNat=i:=Int.toNat_natCast i
   have hst:firstE (fun i=>chk13 (pn c i) (pts (pg c i))) (k - i) i=bif chk13 (pn c i) (pts (pg c i))==0 then firstE (fun i=>chk13 (pn c i) (pts (pg c i))) (k - (i+1)) (i+1) else chk13 (pn c i) (pts (pg c i)):=by
    rw [show k - i=(k - (i+1))+1 by omega]
    rfl
   have hpl:isPL 10000 (pn c (i:Int).toNat) (pg c (i:Int).toNat):=(hcl.1 _ (by omega)).2
   have xr:(chk13 (pn c (i:Int).toNat) (pts (pg c (i:Int).toNat)) != 0)=true→PV.val (.int .i64 (chk13 (pn c (i:Int).toNat) (pts (pg c (i:Int).toNat))))=PV.val (.int .i64 X):=fun h=>by
    rw [ei] at h ⊢
    have h':(chk13 (pn c i) (pts (pg c i))==0)=false:=by simpa using h
    rw [h',cond_false] at hst
    rw [hX,←hFi,hst,h']
    rfl
   have z0:(chk13 (pn c (i:Int).toNat) (pts (pg c (i:Int).toNat)) != 0)=false→chk13 (pn c i) (pts (pg c i))=0:=fun h=>by
    rw [ei] at h
    simpa using h
   have nf:(chk13 (pn c (i:Int).toNat) (pts (pg c (i:Int).toNat)) != 0)=false→firstE (fun i=>chk13 (pn c i) (pts (pg c i))) (k - (i+1)) (i+1)=Fe:=fun h=>by
    have h':=z0 h
    rw [←hFi,hst,h']
    rfl
   have ns:(chk13 (pn c (i:Int).toNat) (pts (pg c (i:Int).toNat)) != 0)=false→sumN (pn c) (i+1)≤64*(i+1):=fun h=>by
    have h':=chk13_le (z0 h)
    unfold sumN
    omega
   have wi:PV.val (.int .i64 (IntKind.i64.wrap ((i:Int)+1)))=PV.val (.int .i64 ((i+1:Nat):Int)):=by
    rw [wrap64 (by omega) (by omega)]
    rfl
   have ws:(chk13 (pn c (i:Int).toNat) (pts (pg c (i:Int).toNat)) != 0)=false→PV.val (.int .i64 (IntKind.i64.wrap (((sumN (pn c) i:Nat):Int)+((pn c (i:Int).toNat:Nat):Int))))=PV.val (goInt ((sumN (pn c) (i+1):Nat):Int)):=fun h=>by
    have h':=chk13_le (z0 h)
    rw [ei,wrap64 (by omega) (by omega),sumN]
    rfl
   have ri:0≤(i:Int)∧(i:Int) < k:=⟨by omega,h1⟩
   have mu:k - (i+1) < k - i:=by omega
   have le:i+1≤k:=by omega
   with_unfolding_all exact⟨ri,hpl,fun h2=>⟨[],stOf [(2,.val (.int .i64 X))] [] 0 [],Wo trivial ⟨xr h2,trivial⟩ trivial,rfl,rfl⟩,fun h2=>⟨ri,i+1,[some 0],⟨hX,hk32,le,nf h2,ns h2⟩,mu,Wo ⟨⟨lt_ok rfl,rfl,rfl,rfl,rfl,rfl,rq,rq,rq,rq,rq,rq,rq,rq,rq,rq,rq,rq,⟨⟨rfl,rfl,fun _ _=>rfl⟩,rfl⟩,⟨⟨rfl,rfl,fun _ _=>rfl⟩,rfl⟩,trivial⟩,trivial⟩ ⟨pP,ws h2,wi,trivial⟩ trivial⟩⟩
  ·have h1:(k:Int)≤i:=ltF h1
   have hki:i=k:=by omega
   have hF0:Fe=0:=by
    rw [←hFi,show k - i=0 by omega]
    rfl
   have hX2:X=bif decide (396 < sumN (pn c) k) then 4 else bif !decide (l=k) then 9 else bif anyP (fun i=>negO (ow o i)) l then 2 else 0:=by rw [hX,hF0];rfl
   have hl47:=hol.2
   have y1:decide (((sumN (pn c) i:Nat):Int) > 396)=true→PV.val (.int .i64 4)=PV.val (.int .i64 X):=fun h=>by
    replace h:=(dgt 396).symm.trans h
    rw [hki] at h
    rw [hX2,h]
    rfl
   have y2:decide (((sumN (pn c) i:Nat):Int) > 396)=false→(!((l:Int)==(k:Int)))=true→PV.val (.int .i64 9)=PV.val (.int .i64 X):=fun h h'=>by
    replace h:=(dgt 396).symm.trans h
    rw [hki] at h
    have h2:¬l=k:=fun e=>by
     rw [e,beq_self_eq_true] at h'
     cases h'
    rw [hX2,h,decide_eq_false h2]
    rfl
   have x9:decide (((sumN (pn c) i:Nat):Int) > 396)=false→(!((l:Int)==(k:Int)))=false→X=bif anyP (fun i=>negO (ow o i)) l then 2 else 0:=fun h h'=>by
    replace h:=(dgt 396).symm.trans h
    rw [hki] at h
    have h2:l=k:=by
     have:((l:Int)==(k:Int))=true:=by simpa using h'
     have:=eq_of_beq this
     omega
    rw [hX2,h,decide_eq_true h2]
    rfl
   with_unfolding_all refine⟨fun h2=>⟨[],stOf [(2,.val (.int .i64 X))] [] 0 [],Wo trivial ⟨y1 h2,trivial⟩ trivial,rfl,rfl⟩,fun h2=>⟨fun h3=>⟨[],stOf [(2,.val (.int .i64 X))] [] 0 [],Wo trivial ⟨y2 h2 h3,trivial⟩ trivial,rfl,rfl⟩,fun h3=>⟨Nat,fun j=>(X=bif anyP (fun i=>negO (ow o i)) l then 2 else 0)∧j≤l∧∀i,i < j→negO (ow o i)=false,fun j=>stOf [(1,.ptr 0 0 0 0),(6,.val (goInt j))] [⟨31,14,0,true,false,1,fun _=>regC lo hi k c l o⟩] 1 [],fun j=>l - j,⟨0,[some 0],⟨x9 h2 h3,Nat.zero_le _,fun i hi=>absurd hi (Nat.not_lt_zero i)⟩,Wo ⟨⟨lt_ok rfl,rfl,rfl,rfl,rfl,rfl,rq,rq,rq,rq,rq,rq,rq,rq,rq,rq,rq,rq,⟨⟨rfl,rfl,fun _ _=>rfl⟩,rfl⟩,⟨⟨rfl,rfl,fun _ _=>rfl⟩,rfl⟩,trivial⟩,trivial⟩ ⟨pP,rfl,trivial⟩ trivial⟩,fun j hJ0=>?_⟩⟩⟩
   obtain⟨hX3,hjl,hJ⟩:(X=bif anyP (fun i=>negO (ow o i)) l then 2 else 0)∧j≤l∧∀i,i < j→negO (ow o i)=false:=hJ0
   with_unfolding_all refine⟨fun h2=>?_,fun h2=>?_⟩
   ·have h2:(j:Int) < l:=ltT h2
    have ej:(j:Int).toNat=j:=Int.toNat_natCast j
    have rj:0≤(j:Int)∧(j:Int) < l:=⟨by omega,h2⟩
    have v2:negO (ow o (j:Int).toNat)=true→PV.val (.int .i64 2)=PV.val (.int .i64 X):=fun h=>by
     rw [ej] at h
     rw [hX3,anyP_true.2 ⟨j,by omega,h⟩]
     rfl
    have nx:negO (ow o (j:Int).toNat)=false→∀i,i < j+1→negO (ow o i)=false:=fun h i hi=>by
     rw [ej] at h
     rcases Nat.lt_or_ge i j with h' | h'
     ·exact hJ i h'
     ·obtain rfl:i=j:=by omega
      exact h
    have n1:decide ((ow o (j:Int).toNat).1 < 0)=true→negO (ow o (j:Int).toNat)=true:=fun h=>by unfold negO;rw [h];rfl
    have n2:decide ((ow o (j:Int).toNat).2.1 < 0)=true→negO (ow o (j:Int).toNat)=true:=fun h=>by unfold negO;rw [h,Bool.or_true];rfl
    have n3:decide ((ow o (j:Int).toNat).2.2 < 0)=true→negO (ow o (j:Int).toNat)=true:=fun h=>by unfold negO;rw [h,Bool.or_true]
    have n4:decide ((ow o (j:Int).toNat).1 < 0)=false→decide ((ow o (j:Int).toNat).2.1 < 0)=false→decide ((ow o (j:Int).toNat).2.2 < 0)=false→negO (ow o (j:Int).toNat)=false:=fun h h' k=>by unfold negO;rw [h,h',k];rfl
    have wj:PV.val (.int .i64 (IntKind.i64.wrap ((j:Int)+1)))=PV.val (.int .i64 ((j+1:Nat):Int)):=by
     rw [wrap64 (by omega) (by omega)]
     rfl
    have mu:l - (j+1) < l - j:=by omega
    have le:j+1≤l:=by omega
    with_unfolding_all exact⟨rj,fun h3=>⟨rj,fun h4=>⟨rj,fun h5=>⟨[],stOf [(2,.val (.int .i64 X))] [] 0 [],Wo trivial ⟨v2 (n3 h5),trivial⟩ trivial,rfl,rfl⟩,fun h5=>⟨j+1,[some 0],⟨hX3,le,nx (n4 h3 h4 h5)⟩,mu,Wo ⟨⟨lt_ok rfl,rfl,rfl,rfl,rfl,rfl,rq,rq,rq,rq,rq,rq,rq,rq,rq,rq,rq,rq,⟨⟨rfl,rfl,fun _ _=>rfl⟩,rfl⟩,⟨⟨rfl,rfl,fun _ _=>rfl⟩,rfl⟩,trivial⟩,trivial⟩ ⟨pP,wj,trivial⟩ trivial⟩⟩,fun h4=>⟨fun _=>⟨[],stOf [(2,.val (.int .i64 X))] [] 0 [],Wo trivial ⟨v2 (n2 h4),trivial⟩ trivial,rfl,rfl⟩,fun h=>(nomatch h)⟩⟩,fun h3=>⟨fun h=>(nomatch h),fun _=>⟨fun _=>⟨[],stOf [(2,.val (.int .i64 X))] [] 0 [],Wo trivial ⟨v2 (n1 h3),trivial⟩ trivial,rfl,rfl⟩,fun h=>(nomatch h)⟩⟩⟩
   ·have h2:(l:Int)≤j:=ltF h2
    have v0:PV.val (.int .i64 0)=PV.val (.int .i64 X):=by
     rw [hX3,anyP_false.2 fun i hi=>hJ i (by omega)]
     rfl
    with_unfolding_all exact⟨[],stOf [(2,.val (.int .i64 X))] [] 0 [],Wo trivial ⟨v0,trivial⟩ trivial,rfl,rfl⟩
 ·cases e
end Go.Proofs
