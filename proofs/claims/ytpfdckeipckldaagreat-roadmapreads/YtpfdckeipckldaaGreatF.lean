/- RoadmapReads: for every region, roadmap and numbers the law returns true, and leaves its arguments as they are. No conditions. -/
import Derived.Deep.Slices
import Derived.SizedLaws
import Derived.Carry
import Derived.WideShapes
import Derived.ProofKit
import Derived.Test.YtpfdckeipckldaaGreatRows
import Derived.Test.YtpfdckeipckldaaGreatE
set_option maxHeartbeats 8000000
set_option linter.all false
set_option linter.unusedVariables false
set_option linter.unusedSimpArgs false
set_option linter.unnecessarySimpa false
namespace Go.Num
open Go Go.Ex Go.Proofs
def selQ (f:Int×Int→Bool) (q:Nat→Int×Int):Nat→List (Int×Int)
 |0=>[]
 |j+1=>selQ f q j++(bif f (q j) then [q j] else [])
theorem selQ_le (f:Int×Int→Bool) (q:Nat→Int×Int):∀j,(selQ f q j).length≤j
 |0=>Nat.le_refl _
 |j+1=>by
  have:=selQ_le f q j
  rw [selQ,List.length_append]
  cases f (q j)
  ·exact Nat.le_trans (by simp) (Nat.le_succ_of_le this)
  ·simp
   omega
theorem selQ_T {f:Int×Int→Bool} {q:Nat→Int×Int} {j:Nat} (h:f (q j)=true):selQ f q (j+1)=selQ f q j++[q j]:=by rw [selQ,h];rfl
theorem selQ_F {f:Int×Int→Bool} {q:Nat→Int×Int} {j:Nat} (h:f (q j)=false):selQ f q (j+1)=selQ f q j:=by rw [selQ,h];exact List.append_nil _
def bothT (k:Nat) (c:Nat→List PV) (g:Nat→PtS) (x:Int×Int):Bool:=tightR k c g x.1 x.2 x.1&&tightR k c g x.1 x.2 x.2
def chkT (lo hi:PtS) (k:Nat) (c:Nat→List PV) (l:Nat) (o:Nat→List PV):Int:=regR lo hi k (pn c) (fun i=>chk13 (pn c i) (pts (pg c i))) l (ow o)
def okTR (lo hi:PtS) (k:Nat) (c:Nat→List PV) (l:Nat) (o:Nat→List PV) (n:Nat) (g:Nat→PtS) (m:Nat) (q:Nat→Int×Int):Bool:=(chkT lo hi k c l o==0)&&okMap n g m q
def tgtRR (lo hi:PtS) (k:Nat) (c:Nat→List PV) (l:Nat) (o:Nat→List PV) (n:Nat) (g:Nat→PtS) (m:Nat) (q:Nat→Int×Int):List (Int×Int):=bif okTR lo hi k c l o n g m q then selQ (bothT k c g) q m else []
end Go.Num
namespace Go.Proofs
open Go Go.Ex Go.Num
set_option maxRecDepth 100000
def c42:List PV→Option Ans
 |[.agg xs,.agg [.rs 6 n g,.rs 2 m h]]=>some ⟨some (isRg 10000 xs∧isPL 10000 n g∧isQL m h),.tup [.rs 2 (tgtRR (gLo xs) (gHi xs) (gK xs) (gC xs) (gL xs) (gO xs) n (pts g) m (prs h)).length (fun i=>cellsQ (qL (tgtRR (gLo xs) (gHi xs) (gK xs) (gC xs) (gL xs) (gO xs) n (pts g) m (prs h)) i)),.val (.int .i64 (okW (okTR (gLo xs) (gHi xs) (gK xs) (gC xs) (gL xs) (gO xs) n (pts g) m (prs h))))],[]⟩
 |_=>none
def D42:Opt:={  }
theorem ok42:funcOk D42.toOrd Tryz.f42 2=true:=by kernel_rfl
theorem f42:FnOk Tryz.prog 42 c42:=by
 refine FnOk.ofW orders (mkE_ok (l:=[(58,c58),(34,c34),(82,c82)]) (own:=[]) (inl:=[]) (by simp [f58,f34,f82]) (by simp)) Tryz.func42 D42 2 ok42 fun args r e=>?_
 unfold c42 at e
 split at e
 ·rename_i xs n g m h
  cases e
  refine⟨by simp,fun hm=>?_⟩
  obtain⟨⟨h1,⟨hlo,hhi⟩,hcl,hol⟩,hg,hq⟩:=hm _ rfl
  generalize gLo xs=lo at *
  generalize gHi xs=hi at *
  generalize gK xs=k at *
  generalize gC xs=c at *
  generalize gL xs=l at *
  generalize gO xs=o at *
  subst h1
  clear hm
  have hqm:=hq.2
  refine⟨[],stOf [(0,.agg (regC lo hi k c l o)),(1,.agg [.rs 6 n (fun i=>(pts g i).cells),.rs 2 m (fun i=>cellsQ (prs h i))])] [] 0 [],Wo trivial ⟨⟨rfl,rfl,rfl,rfl,rfl,rfl,rfl,rfl,rfl,rfl,rfl,rfl,⟨rfl,rfl,fun _ _=>rfl⟩,⟨rfl,rfl,fun _ _=>rfl⟩,trivial⟩,⟨⟨rfl,rfl,fun i hi=>(hg.1 i hi).1.symm⟩,⟨rfl,rfl,fun i hi=>(hq.1 i hi).symm⟩,trivial⟩,trivial⟩ trivial,?_⟩
  generalize hqq:prs h=q at *
  have hql:isQL m (fun i=>cellsQ (q i)):=⟨fun _ _=>rfl,hqm⟩
  obtain⟨F,hF⟩:∃F,F=bothT k c (pts g):=⟨_,rfl⟩
  obtain⟨OK,hOK⟩:∃OK,OK=okTR lo hi k c l o n (pts g) m q:=⟨_,rfl⟩
  obtain⟨TR,hTR⟩:∃TR,TR=tgtRR lo hi k c l o n (pts g) m q:=⟨_,rfl⟩
  rw [←hTR,←hOK]
  have hcl':isCL 10000 k (fun i=>[.rs 6 (pn c i) (pg c i)]):=⟨fun i hi=>⟨rfl,(hcl.1 i hi).2⟩,hcl.2⟩
  have hol':isOL l (fun i=>cellsO (ow o i)):=⟨fun _ _=>rfl,hol.2⟩
  have pR:isRg 10000 (regC lo hi k c l o):=⟨rfl,⟨hlo,hhi⟩,hcl',hol'⟩
  have pL:isPL 10000 n (fun i=>(pts g i).cells):=⟨fun i hi=>⟨rfl,(hg.1 i hi).2⟩,hg.2⟩
  have pL4:isPL 4294967296 n (fun i=>(pts g i).cells):=⟨fun i hi=>⟨rfl,((hg.1 i hi).2).mono (by decide)⟩,hg.2⟩
  have lv:TR.length=0→∀{f:Nat→List PV} (j:Nat),j < TR.length→cellsQ (qL TR j)=f (0+j):=fun h _ j hj=>by omega
  have b0:OK=false→TR.length=0∧PV.val (.int .i64 1)=PV.val (.int .i64 (okW OK)):=fun h=>by
   rw [hTR,tgtRR,←hOK,h]
   exact⟨rfl,rfl⟩
  have z:∀B:Bool,(okW B != 0)=true→B=false:=fun B h=>by cases B<;>first|rfl|cases h
  have z':∀B:Bool,(okW B != 0)=false→B=true:=fun B h=>by cases B<;>first|rfl|cases h
  have f1:(regR lo hi k (pn (fun i=>[.rs 6 (pn c i) (pg c i)])) (fun i=>chk13 (pn (fun i=>[.rs 6 (pn c i) (pg c i)]) i) (pts (pg (fun i=>[.rs 6 (pn c i) (pg c i)]) i))) l (ow (fun i=>cellsO (ow o i))) != 0) = !false→OK=false:=fun h=>by
   have h:(chkT lo hi k c l o != 0)=true:=h
   rw [hOK,okTR]
   cases e:(chkT lo hi k c l o==0) with
   |false=>rfl
   |true =>
    rw [bne,e] at h
    cases h
  have f2:(okW (okMap n (pts fun i=>(pts g i).cells) m (prs fun i=>cellsQ (q i))) != 0)=true→OK=false:=fun h=>by
   have h:okMap n (pts g) m q=false:=z _ h
   rw [hOK,okTR,h,Bool.and_false]
  have f3:(regR lo hi k (pn (fun i=>[.rs 6 (pn c i) (pg c i)])) (fun i=>chk13 (pn (fun i=>[.rs 6 (pn c i) (pg c i)]) i) (pts (pg (fun i=>[.rs 6 (pn c i) (pg c i)]) i))) l (ow (fun i=>cellsO (ow o i))) != 0)=false→(okW (okMap n (pts fun i=>(pts g i).cells) m (prs fun i=>cellsQ (q i))) != 0)=false→OK=true∧okMap n (pts g) m q=true:=fun h h'=>by
   have h:(chkT lo hi k c l o != 0)=false:=h
   have h':okMap n (pts g) m q=true:=z' _ h'
   refine⟨?_,h'⟩
   rw [hOK,okTR,h']
   cases e:(chkT lo hi k c l o==0) with
   |true=>rfl
   |false =>
    rw [bne,e] at h
    cases h
  with_unfolding_all refine⟨pR,fun h1=>⟨⟨pL4,hql⟩,fun h2=>⟨[],stOf [(4,.rs 2 TR.length (fun i=>cellsQ (qL TR i))),(5,.val (.int .i64 (okW OK)))] [] 0 [],Wo trivial ⟨⟨by simp,_,rfl,rfl,rfl,((b0 (f2 h2)).1).symm,(lv (b0 (f2 h2)).1)⟩,(b0 (f2 h2)).2,trivial⟩ trivial,rfl,rfl⟩,fun h2=>⟨Nat,fun i=>(OK=true∧okMap n (pts g) m q=true)∧i≤m,fun i=>stOf [(2,.ptr 0 0 0 0),(3,.ptr 1 1 0 0),(6,.sl 2 2 0 (selQ F q i).length),(7,.val (goInt i))] [⟨31,14,0,true,false,1,fun _=>regC lo hi k c l o⟩,⟨37,2,1,true,false,1,fun _=>[.rs 6 n (fun i=>(pts g i).cells),.rs 2 m (fun i=>cellsQ (q i))]⟩,⟨46,2,2,false,false,(selQ F q i).length,fun j=>cellsQ (qL (selQ F q i) j)⟩] 3 [],fun i=>m - i,⟨0,[some 0,some 1,some 2],⟨f3 h1 h2,Nat.zero_le _⟩,Wo ⟨⟨lt_ok rfl,rfl,rfl,rfl,rfl,rfl,rq,rq,rq,rq,rq,rq,rq,rq,rq,rq,rq,rq,⟨⟨rfl,rfl,fun _ _=>rfl⟩,rfl⟩,⟨⟨rfl,rfl,fun _ _=>rfl⟩,rfl⟩,trivial⟩,⟨lt_ok rfl,rfl,rfl,rfl,rfl,rfl,⟨⟨rfl,rfl,fun _ _=>rfl⟩,rfl⟩,⟨⟨rfl,rfl,fun _ _=>rfl⟩,rfl⟩,trivial⟩,⟨lt_ok rfl,rfl,rfl,rfl,rfl,rfl,fun i hi=>absurd hi (Nat.not_lt_zero i)⟩,trivial⟩ ⟨pP,pP,pP,rfl,trivial⟩ trivial⟩,fun i hi=>?_⟩⟩,fun h1=>⟨fun _=>⟨[],stOf [(4,.rs 2 TR.length (fun i=>cellsQ (qL TR i))),(5,.val (.int .i64 (okW OK)))] [] 0 [],Wo trivial ⟨⟨by simp,_,rfl,rfl,rfl,((b0 (f1 h1)).1).symm,(lv (b0 (f1 h1)).1)⟩,(b0 (f1 h1)).2,trivial⟩ trivial,rfl,rfl⟩,fun h=>(nomatch h)⟩⟩
  obtain⟨⟨hk1,hk2⟩,him⟩:(OK=true∧okMap n (pts g) m q=true)∧i≤m:=hi
  with_unfolding_all refine⟨fun h1=>?_,fun h1=>?_⟩
  ·have h1:(i:Int) < m:=ltT h1
   have ei:(i:Int).toNat=i:=Int.toNat_natCast i
   have him:i+1≤m:=by omega
   have hμ : m - (i+1) < m - i:=by omega
   have hok:=hk2
   unfold okMap at hok
   rw [Bool.and_eq_true,Bool.and_eq_true] at hok
   have hn1:n≤1000:=of_decide_eq_true hok.1.1
   have hmm:=links_le hok.2
   have hnn:n*n≤1000*1000:=Nat.mul_le_mul hn1 hn1
   have hl:=links_at hok.2 (show i < m by omega)
   have b1:(0:Int)≤(i:Int)∧(i:Int) < m:=⟨Int.natCast_nonneg i,h1⟩
   have hA:0≤(q (i:Int).toNat).1∧(q (i:Int).toNat).1 < n:=by rw [ei];omega
   have hB:0≤(q (i:Int).toNat).2∧(q (i:Int).toNat).2 < n:=by rw [ei];omega
   have htl:=selQ_le F q i
   have wi:PV.val (.int .i64 (IntKind.i64.wrap ((i:Int)+1)))=PV.val (.int .i64 ((i+1:Nat):Int)):=by
    rw [wrap64 (by omega) (by omega)]
    rfl
   have k1:((selQ F q i).length+1)*16≤140737488355328:=by omega
   have k2:(selQ F q i).length+1≤9223372036854775807:=by omega
   have t1:∀b,tightR k (fun i=>[.rs 6 (pn c i) (pg c i)]) (pts fun i=>(pts g i).cells) (q (i:Int).toNat).1 (q (i:Int).toNat).2 (q (i:Int).toNat).1=b→tightR k c (pts g) (q (i:Int).toNat).1 (q (i:Int).toNat).2 (q (i:Int).toNat).1=b:=fun _ h=>h
   have t2:∀b,tightR k (fun i=>[.rs 6 (pn c i) (pg c i)]) (pts fun i=>(pts g i).cells) (q (i:Int).toNat).1 (q (i:Int).toNat).2 (q (i:Int).toNat).2=b→tightR k c (pts g) (q (i:Int).toNat).1 (q (i:Int).toNat).2 (q (i:Int).toNat).2=b:=fun _ h=>h
   have eT:tightR k c (pts g) (q (i:Int).toNat).1 (q (i:Int).toNat).2 (q (i:Int).toNat).1=true→tightR k c (pts g) (q (i:Int).toNat).1 (q (i:Int).toNat).2 (q (i:Int).toNat).2=true→selQ F q (i+1)=selQ F q i++[q (i:Int).toNat]:=fun h h'=>by
    rw [ei] at h h' ⊢
    exact selQ_T (by rw [hF,bothT,h,h'];rfl)
   have eF:∀x y:Bool,tightR k c (pts g) (q (i:Int).toNat).1 (q (i:Int).toNat).2 (q (i:Int).toNat).1=x→tightR k c (pts g) (q (i:Int).toNat).1 (q (i:Int).toNat).2 (q (i:Int).toNat).2=y→(x&&y)=false→selQ F q (i+1)=selQ F q i:=fun x y h h' e=>by
    rw [ei] at h h'
    exact selQ_F (by rw [hF,bothT,h,h'];exact e)
   have eF1:tightR k c (pts g) (q (i:Int).toNat).1 (q (i:Int).toNat).2 (q (i:Int).toNat).1=false→selQ F q (i+1)=selQ F q i:=fun h=>eF _ _ h rfl rfl
   have eF2:tightR k c (pts g) (q (i:Int).toNat).1 (q (i:Int).toNat).2 (q (i:Int).toNat).2=false→selQ F q (i+1)=selQ F q i:=fun h=>eF _ _ rfl h (Bool.and_false _)
   have lA:selQ F q (i+1)=selQ F q i++[q (i:Int).toNat]→(selQ F q (i+1)).length=(selQ F q i).length+1:=fun h=>by
    rw [h,List.length_append]
    rfl
   have rA:selQ F q (i+1)=selQ F q i++[q (i:Int).toNat]→∀r:Nat→List PV,r 0=cellsQ (q (i:Int).toNat)→∀j,j < (selQ F q i).length+1→cellsQ (qL (selQ F q (i+1)) j)=apd (selQ F q i).length (fun j=>cellsQ (qL (selQ F q i) j)) r j:=fun h r hr=>by
    rw [h]
    exact apd_q hr
   have rN:selQ F q (i+1)=selQ F q i→∀j,j < (selQ F q i).length→cellsQ (qL (selQ F q (i+1)) j)=cellsQ (qL (selQ F q i) j):=fun h j _=>by rw [h]
   with_unfolding_all exact⟨b1,⟨pR,pL,hA,hB,hA⟩,fun h2=>⟨⟨pR,pL,hA,hB,hB⟩,fun h3=>⟨⟨rfl,k1,k2⟩,⟨i+1,[some 0,some 1,some 2],⟨⟨hk1,hk2⟩,him⟩,hμ,Wo ⟨⟨lt_ok rfl,rfl,rfl,rfl,rfl,rfl,rq,rq,rq,rq,rq,rq,rq,rq,rq,rq,rq,rq,⟨⟨rfl,rfl,fun _ _=>rfl⟩,rfl⟩,⟨⟨rfl,rfl,fun _ _=>rfl⟩,rfl⟩,trivial⟩,⟨lt_ok rfl,rfl,rfl,rfl,rfl,rfl,⟨⟨rfl,rfl,fun _ _=>rfl⟩,rfl⟩,⟨⟨rfl,rfl,fun _ _=>rfl⟩,rfl⟩,trivial⟩,⟨lt_ok rfl,rfl,rfl,rfl,rfl,(lA (eT (t1 _ h2) (t2 _ h3))),rA (eT (t1 _ h2) (t2 _ h3)) _ rfl⟩,trivial⟩ ⟨pP,pP,⟨rfl,rfl,(lA (eT (t1 _ h2) (t2 _ h3))).symm,lt_ok rfl,_,rfl⟩,wi,trivial⟩ trivial⟩⟩,fun h3=>⟨i+1,[some 0,some 1,some 2],⟨⟨hk1,hk2⟩,him⟩,hμ,Wo ⟨⟨lt_ok rfl,rfl,rfl,rfl,rfl,rfl,rq,rq,rq,rq,rq,rq,rq,rq,rq,rq,rq,rq,⟨⟨rfl,rfl,fun _ _=>rfl⟩,rfl⟩,⟨⟨rfl,rfl,fun _ _=>rfl⟩,rfl⟩,trivial⟩,⟨lt_ok rfl,rfl,rfl,rfl,rfl,rfl,⟨⟨rfl,rfl,fun _ _=>rfl⟩,rfl⟩,⟨⟨rfl,rfl,fun _ _=>rfl⟩,rfl⟩,trivial⟩,⟨lt_ok rfl,rfl,rfl,rfl,rfl,(congrArg List.length (eF2 (t2 _ h3))),rN (eF2 (t2 _ h3))⟩,trivial⟩ ⟨pP,pP,⟨rfl,rfl,(congrArg List.length (eF2 (t2 _ h3))).symm,lt_ok rfl,_,rfl⟩,wi,trivial⟩ trivial⟩⟩,fun h2=>⟨fun h=>(nomatch h),fun _=>⟨i+1,[some 0,some 1,some 2],⟨⟨hk1,hk2⟩,him⟩,hμ,Wo ⟨⟨lt_ok rfl,rfl,rfl,rfl,rfl,rfl,rq,rq,rq,rq,rq,rq,rq,rq,rq,rq,rq,rq,⟨⟨rfl,rfl,fun _ _=>rfl⟩,rfl⟩,⟨⟨rfl,rfl,fun _ _=>rfl⟩,rfl⟩,trivial⟩,⟨lt_ok rfl,rfl,rfl,rfl,rfl,rfl,⟨⟨rfl,rfl,fun _ _=>rfl⟩,rfl⟩,⟨⟨rfl,rfl,fun _ _=>rfl⟩,rfl⟩,trivial⟩,⟨lt_ok rfl,rfl,rfl,rfl,rfl,(congrArg List.length (eF1 (t1 _ h2))),rN (eF1 (t1 _ h2))⟩,trivial⟩ ⟨pP,pP,⟨rfl,rfl,(congrArg List.length (eF1 (t1 _ h2))).symm,lt_ok rfl,_,rfl⟩,wi,trivial⟩ trivial⟩⟩⟩
  ·have h1:(m:Int)≤i:=ltF h1
   have h3:selQ F q i=TR:=by
    rw [hTR,tgtRR,←hOK,hk1,←hF,show i=m by omega]
    rfl
   have v2:PV.val (.int .i64 0)=PV.val (.int .i64 (okW OK)):=by
    rw [hk1]
    rfl
   have v3:∀j,j < TR.length→cellsQ (qL TR j)=cellsQ (qL (selQ F q i) (0+j)):=fun j _=>by rw [h3,Nat.zero_add]
   with_unfolding_all exact⟨[],stOf [(4,.rs 2 TR.length (fun i=>cellsQ (qL TR i))),(5,.val (.int .i64 (okW OK)))] [] 0 [],Wo trivial ⟨⟨by simp,_,rfl,rfl,rfl,congrArg List.length h3,v3⟩,v2,trivial⟩ trivial,rfl,rfl⟩
 ·cases e
end Go.Proofs
namespace Go.Num
open Go Go.Ex Go.Proofs
theorem bigP_le {p:PtS} (h:bigP p=false):p.le 12:=by
 unfold bigP bigR at h
 simp only [Bool.or_eq_false_iff,decide_eq_false_iff_not] at h
 unfold PtS.le RatS.le
 omega
theorem grtF_rg {K:Nat} {xs:List PV} (h:grtF (gLo xs) (gHi xs) (gK xs) (pn (gC xs)) (fun i=>pts (pg (gC xs) i)) (gL xs)=false) (hx:isRg K xs):isRg 12 xs:=by
 obtain⟨h1,_,hc,ho⟩:=hx
 unfold grtF at h
 simp only [Bool.or_eq_false_iff] at h
 refine⟨h1,⟨bigP_le h.1.1.1.1,bigP_le h.1.1.1.2⟩,⟨fun i hi=>⟨(hc.1 i hi).1,⟨fun j hj=>⟨((hc.1 i hi).2.1 j hj).1,?_⟩,(hc.1 i hi).2.2⟩⟩,hc.2⟩,ho⟩
 have h2:=(anyP_false.1 h.1.2) i hi
 unfold grtR at h2
 rw [Bool.or_eq_false_iff] at h2
 exact bigP_le ((anyP_false.1 h2.2) j hj)
theorem isRg.mono {a b:Nat} {xs:List PV} (h:isRg a xs) (hab:a≤b):isRg b xs :=
 ⟨h.1,⟨h.2.1.1.mono hab,h.2.1.2.mono hab⟩,⟨fun i hi=>⟨(h.2.2.1.1 i hi).1,⟨fun j hj=>⟨((h.2.2.1.1 i hi).2.1 j hj).1,((h.2.2.1.1 i hi).2.1 j hj).2.mono hab⟩,(h.2.2.1.1 i hi).2.2⟩⟩,h.2.2.1.2⟩,h.2.2.2⟩
theorem bigL_pl {K n:Nat} {g:Nat→List PV} (h:anyP (fun i=>bigP (pts g i)) n=false) (hg:isPL K n g):isPL 12 n g :=
 ⟨fun i hi=>⟨(hg.1 i hi).1,bigP_le ((anyP_false.1 h) i hi)⟩,hg.2⟩
theorem isPL.mono {a b n:Nat} {g:Nat→List PV} (h:isPL a n g) (hab:a≤b):isPL b n g:=⟨fun i hi=>⟨(h.1 i hi).1,(h.1 i hi).2.mono hab⟩,h.2⟩
def grtA (xs:List PV) (n:Nat) (g:Nat→List PV):Bool:=grtF (gLo xs) (gHi xs) (gK xs) (pn (gC xs)) (fun i=>pts (pg (gC xs) i)) (gL xs)||anyP (fun i=>bigP (pts g i)) n
end Go.Num
namespace Go.Proofs
open Go Go.Ex Go.Num
set_option maxRecDepth 100000
def c12:List PV→Option Ans
 |[.agg xs,.rs 6 n g]=>some ⟨some (isRg 140737488355328 xs∧isPL 140737488355328 n g),.val (.bool (grtA xs n g)),[]⟩
 |_=>none
def D12:Opt:={  }
theorem ok12:funcOk D12.toOrd Tryz.f12 2=true:=by kernel_rfl
theorem f12:FnOk Tryz.prog 12 c12:=by
 refine FnOk.ofW orders (mkE_ok (l:=[(50,c50),(51,c51)]) (own:=[]) (inl:=[]) (by simp [f50,f51]) (by simp)) Tryz.func12 D12 2 ok12 fun args r e=>?_
 unfold c12 at e
 split at e
 ·rename_i xs n g
  cases e
  refine⟨by simp,fun hm=>?_⟩
  obtain⟨⟨h1,hrest⟩,hg⟩:=hm _ rfl
  have hx:isRg 140737488355328 xs:=⟨h1,hrest⟩
  obtain⟨X,hX⟩:∃X,X=grtA xs n g:=⟨_,rfl⟩
  rw [←hX]
  have e:X=(grtF (gLo xs) (gHi xs) (gK xs) (pn (gC xs)) (fun i=>pts (pg (gC xs) i)) (gL xs)||anyP (fun i=>bigP (pts g i)) n):=hX
  clear hX
  obtain⟨A,hA⟩:∃A,A=grtF (gLo xs) (gHi xs) (gK xs) (pn (gC xs)) (fun i=>pts (pg (gC xs) i)) (gL xs):=⟨_,rfl⟩
  rw [←hA] at e
  generalize gLo xs=lo at *
  generalize gHi xs=hi at *
  generalize gK xs=k at *
  generalize gC xs=c at *
  generalize gL xs=l at *
  generalize gO xs=o at *
  subst h1
  clear hm
  refine⟨[],stOf [(0,.agg (regC lo hi k c l o)),(1,.rs 6 n g)] [] 0 [],Wo trivial ⟨⟨rfl,rfl,rfl,rfl,rfl,rfl,rfl,rfl,rfl,rfl,rfl,rfl,⟨rfl,rfl,fun _ _=>rfl⟩,⟨rfl,rfl,fun _ _=>rfl⟩,trivial⟩,⟨rfl,rfl,fun _ _=>rfl⟩,trivial⟩ trivial,?_⟩
  have v1:grtF lo hi k (pn c) (fun i=>pts (pg c i)) l=false→PV.val (.bool (anyP (fun i=>bigP (pts g i)) n))=PV.val (.bool X):=fun h=>by rw [e,hA,h];rfl
  have v2:grtF lo hi k (pn c) (fun i=>pts (pg c i)) l=true→PV.val (.bool true)=PV.val (.bool X):=fun h=>by rw [e,hA,h];rfl
  with_unfolding_all exact⟨hx,fun h1=>⟨hg,⟨[],stOf [(4,.val (.bool X))] [] 0 [],Wo trivial ⟨v1 h1,trivial⟩ trivial,rfl,rfl⟩⟩,fun h1=>⟨[],stOf [(4,.val (.bool X))] [] 0 [],Wo trivial ⟨v2 h1,trivial⟩ trivial,rfl,rfl⟩⟩
 ·cases e
end Go.Proofs
namespace Go.Num
open Go Go.Ex Go.Proofs
theorem rat_pos_of {c v:Rat} (h:0 < c*v) (hv:0 < v):0 < c:=by
 rcases Rat.le_total (a:=c) (b:=0) with h1|h1
 ·have:=Rat.mul_nonneg (show 0 ≤ -c by grind) (show 0≤v by grind)
  grind
 ·by_cases e:c=0
  ·subst e;grind
  ·grind
def tri (a b c x y z:Rat):Rat:=(b - a)*(z - x) - (y - x)*(c - a)
def dt (X Y:Nat→Rat) (i j k:Nat):Rat:=tri (X i) (X j) (X k) (Y i) (Y j) (Y k)
theorem half_trans {u1 u2 v1 v2 w1 w2:Rat} (hu:0 < u1∨(u1=0∧0 < u2)) (hv:0 < v1∨(v1=0∧0 < v2)) (hw:0 < w1∨(w1=0∧0 < w2)) (h1:0 < u1*v2 - u2*v1) (h2:0 < v1*w2 - v2*w1):0 < u1*w2 - u2*w1:=by
 have hv1:0 < v1:=by
  rcases hv with h|⟨h,k⟩
  ·exact h
  ·subst h
   rcases hw with h3|⟨h3,_⟩
   ·have:=Rat.mul_pos k h3
    grind
   ·subst h3;grind
 have hu1:0 < u1:=by
  rcases hu with h|⟨h,k⟩
  ·exact h
  ·subst h
   have:=Rat.mul_pos k hv1
   grind
 have hw1:0≤w1:=by
  rcases hw with h|⟨h,_⟩
  ·grind
  ·grind
 have k1:=Rat.mul_nonneg (Rat.le_of_lt h1) hw1
 have k2:=Rat.mul_pos h2 hu1
 refine rat_pos_of (v:=v1) ?_ hv1
 have e:(u1*w2 - u2*w1)*v1=(u1*v2 - u2*v1)*w1+(v1*w2 - v2*w1)*u1:=by grind
 rw [e]
 grind
theorem four1 (X Y:Nat→Rat) (a b c d:Nat):dt X Y a b d*dt X Y 0 b c=dt X Y a b c*dt X Y 0 b d+dt X Y 0 a b*dt X Y b c d:=by
 unfold dt tri
 generalize X 0=x0,X a=xa,X b=xb,X c=xc,X d=xd,Y 0=y0,Y a=ya,Y b=yb,Y c=yc,Y d=yd
 grind
theorem four2 (X Y:Nat→Rat) (a b c d:Nat):dt X Y a c d*dt X Y 0 b c=dt X Y a b c*dt X Y 0 c d+dt X Y 0 a c*dt X Y b c d:=by
 unfold dt tri
 generalize X 0=x0,X a=xa,X b=xb,X c=xc,X d=xd,Y 0=y0,Y a=ya,Y b=yb,Y c=yc,Y d=yd
 grind
theorem dt_rot (X Y:Nat→Rat) (i j k:Nat):dt X Y j k i=dt X Y i j k:=by
 unfold dt tri
 generalize X i=xa,X j=xb,X k=xc,Y i=ya,Y j=yb,Y k=yc
 grind
theorem convex_all {X Y:Nat→Rat} {n:Nat} (h0:∀i,0 < i→i < n→X 0 < X i∨(X i=X 0∧Y 0 < Y i)) (h1:∀i,i+2 < n→0 < dt X Y i (i+1) (i+2)) (h2:∀i,0 < i→i+1 < n→0 < dt X Y 0 i (i+1)) :
  ∀i j k,i < j→j < k→k < n→0 < dt X Y i j k:=by
 have hH:∀i,0 < i→i < n→0 < X i - X 0∨(X i - X 0=0∧0 < Y i - Y 0):=fun i a b=>by
  rcases h0 i a b with h|⟨h,k⟩
  ·exact .inl (by grind)
  ·exact .inr ⟨by grind,by grind⟩
 have fan:∀d i,0 < i→i+1+d < n→0 < dt X Y 0 i (i+1+d):=fun d=>by
  induction d with
  |zero=>exact fun i a b=>h2 i a b
  |succ d ih =>
   intro i a b
   have k1:=ih i a (by omega)
   have k2:=h2 (i+1+d) (by omega) (by omega)
   exact half_trans (hH i a (by omega)) (hH (i+1+d) (by omega) (by omega)) (hH (i+1+d+1) (by omega) (by omega)) k1 k2
 have fan':∀i j,0 < i→i < j→j < n→0 < dt X Y 0 i j:=fun i j a b c=>by
  have:=fan (j - (i+1)) i a (by omega)
  rwa [show i+1+(j - (i+1))=j by omega] at this
 have span:∀m i j k,0 < i→i < j→j < k→k < n→k - i≤m→0 < dt X Y i j k:=fun m=>by
  induction m with
  |zero=>intro i j k _ a b _ d;omega
  |succ m ih =>
   intro i j k hi a b c d
   by_cases e1:j+1=k
   ·subst e1
    by_cases e2:i+1=j
    ·subst e2
     exact h1 i (by omega)
    ·have t1:=ih i (i+1) j hi (by omega) (by omega) (by omega) (by omega)
     have t2:=ih (i+1) j (j+1) (by omega) (by omega) (by omega) (by omega) (by omega)
     refine rat_pos_of (v:=dt X Y 0 (i+1) j) ?_ (fan' (i+1) j (by omega) (by omega) (by omega))
     rw [four2]
     have s1:=Rat.mul_pos t1 (fan' j (j+1) (by omega) (by omega) (by omega))
     have s2:=Rat.mul_pos (fan' i j hi a (by omega)) t2
     grind
   ·have t1:=ih i j (k - 1) hi a (by omega) (by omega) (by omega)
    have t2:=ih j (k - 1) k (by omega) (by omega) (by omega) (by omega) (by omega)
    refine rat_pos_of (v:=dt X Y 0 j (k - 1)) ?_ (fan' j (k - 1) (by omega) (by omega) (by omega))
    rw [four1]
    have s1:=Rat.mul_pos t1 (fan' j k (by omega) b c)
    have s2:=Rat.mul_pos (fan' i j hi a (by omega)) t2
    grind
 intro i j k a b c
 rcases Nat.eq_zero_or_pos i with rfl|hi
 ·exact fan' j k a b c
 ·exact span (k - i) i j k hi a b c (Nat.le_refl _)
theorem convex_edge {X Y:Nat→Rat} {n:Nat} (hn:3≤n) (h:∀i j k,i < j→j < k→k < n→0 < dt X Y i j k) {e i:Nat} (he:e < n) (hi:i < n) (h1:i≠e) (h2:i≠(e+1)%n):0 < dt X Y e ((e+1)%n) i:=by
 by_cases hl:e+1 < n
 ·rw [Nat.mod_eq_of_lt hl] at h2 ⊢
  rcases Nat.lt_or_ge i e with h3|h3
  ·rw [dt_rot]
   exact h i e (e+1) h3 (by omega) hl
  ·exact h e (e+1) i (by omega) (by omega) hi
 ·have e1:e+1=n:=by omega
  rw [e1,Nat.mod_self] at h2 ⊢
  rw [←dt_rot]
  exact h 0 i e (by omega) (by omega) he
end Go.Num
namespace Go.Num
open Go Go.Ex Go.Proofs
theorem cmpQ_le {a:Rat}:decide (cmpQ a 0≤0)=false↔0 < a:=by
 rw [decide_eq_false_iff_not]
 unfold cmpQ
 split
 ·rename_i h
  exact⟨fun k=>absurd (show(-1:Int)≤0 by decide) k,fun k=>by grind⟩
 ·split
  ·rename_i h
   exact⟨fun _=>h,fun _=>by decide⟩
  ·rename_i h
   exact⟨fun k=>absurd (show(0:Int)≤0 by decide) k,fun k=>absurd k h⟩
theorem orP_dt (p:Nat→PtS) (i j k:Nat):orP (p i) (p j) (p k)=cmpQ (dt (fun i=>(p i).X) (fun i=>(p i).Y) i j k) 0:=by
 unfold orP crossP subP
 rw [ptQ_X,ptQ_Y,ptQ_X,ptQ_Y]
 rfl
theorem eqR_refl (p:RatS):eqR p p=true:=by
 have h:∀x:ByteArray,(x==x)=true:=fun⟨x⟩=>by
  show(x==x)=true
  exact beq_self_eq_true x
 unfold eqR
 rw [beq_self_eq_true,h,h]
 rfl
theorem eqP_refl (p:PtS):eqP p p=true:=by
 unfold eqP
 rw [eqR_refl,eqR_refl]
 rfl
theorem cmpP_lt {p u:PtS} (h:cmpP p u < 0):p.X < u.X∨(u.X=p.X∧p.Y < u.Y):=by
 unfold cmpP at h
 split at h
 ·rename_i h0
  unfold cmpQ at h h0
  right
  split at h
  ·rename_i h1
   refine⟨?_,h1⟩
   split at h0
   ·cases h0
   ·split at h0
    ·cases h0
    ·grind
  ·split at h
   ·exact absurd h (by decide)
   ·exact absurd h (by decide)
 ·unfold cmpQ at h
  split at h
  ·rename_i h1
   exact .inl h1
  ·split at h
   ·exact absurd h (by decide)
   ·exact absurd h (by decide)
theorem cmpP_gt {p u:PtS} (h:p.X < u.X∨(u.X=p.X∧p.Y < u.Y)):¬cmpP u p≤0:=by
 unfold cmpP cmpQ
 rcases h with h|⟨h,k⟩
 ·have h1:¬u.X < p.X:=by grind
  rw [if_neg h1,if_pos h,if_neg (show ¬(1:Int)=0 by decide)]
  decide
 ·have h1:¬u.Y < p.Y:=by grind
  rw [h,if_neg Rat.lt_irrefl,if_neg Rat.lt_irrefl,if_pos rfl,if_neg h1,if_pos k]
  decide
theorem chk13_ring {n:Nat} {p:Nat→PtS} (h:chk13 n p=0):ringE n p=0:=by
 unfold chk13 at h
 unfold ringE
 cases h1:(decide (n < 3)||decide (64 < n)) with
 |true=>rw [h1] at h;cases h
 |false =>
  rw [h1,cond_false] at h
  rw [cond_false]
  cases h2:anyP (fun i=>!canonP (p i)) n with
  |true=>rw [h2] at h;cases h
  |false =>
   rw [h2,cond_false] at h
   rw [cond_false]
   cases h3:anyP (ge0 p) (n - 1) with
   |true=>rw [h3] at h;cases h
   |false =>
    rw [h3,cond_false] at h
    cases h4:anyP (bad13 n p) n with
    |true=>rw [h4] at h;cases h
    |false =>
     have hn:3≤n:=by
      rw [Bool.or_eq_false_iff,decide_eq_false_iff_not] at h1
      omega
     have k0:∀i,0 < i→i < n→(p 0).X < (p i).X∨((p i).X=(p 0).X∧(p 0).Y < (p i).Y):=fun i a b=>by
      have:=(anyP_false.1 h3) (i - 1) (by omega)
      unfold ge0 at this
      rw [decide_eq_false_iff_not,show 1+(i - 1)=i by omega] at this
      exact cmpP_lt (by omega)
     have k1:∀i,i+2 < n→0 < dt (fun i=>(p i).X) (fun i=>(p i).Y) i (i+1) (i+2):=fun i a=>by
      have:=(anyP_false.1 h4) i (by omega)
      unfold bad13 at this
      rw [Bool.or_eq_false_iff,Nat.mod_eq_of_lt (by omega),Nat.mod_eq_of_lt (by omega),orP_dt] at this
      exact cmpQ_le.1 this.1
     have k2:∀i,0 < i→i+1 < n→0 < dt (fun i=>(p i).X) (fun i=>(p i).Y) 0 i (i+1):=fun i a b=>by
      have:=(anyP_false.1 h4) i (by omega)
      unfold bad13 at this
      rw [Bool.or_eq_false_iff,decide_eq_true a,decide_eq_true b,Bool.true_and,Bool.true_and,orP_dt p 0 i (i+1)] at this
      exact cmpQ_le.1 this.2
     have hall:=convex_all (X:=fun i=>(p i).X) (Y:=fun i=>(p i).Y) (n:=n) k0 k1 k2
     rw [anyP_false.2 fun i hi=>?_,cond_false,anyP_false.2 fun e he=>anyP_false.2 fun i hi=>?_]
     ·rfl
     ·unfold badV
      by_cases e1:i=e
      ·rw [e1,eqP_refl]
       rfl
      ·by_cases e2:i=(e+1)%n
       ·rw [←e2,eqP_refl,Bool.not_true,Bool.and_false]
        rfl
       ·rw [orP_dt p e ((e+1)%n) i,cmpQ_le.2 (convex_edge hn hall he hi e1 e2),Bool.and_false]
     ·unfold le0
      exact decide_eq_false (cmpP_gt (k0 (1+i) (by omega) (by omega)))
theorem firstE_zero {r r':Nat→Int}:∀{k i:Nat},(∀j,i≤j→j < i+k→r j=0→r' j=0)→firstE r k i=0→firstE r' k i=0
 |0,_,_,_=>rfl
 |k+1,i,h,e=>by
  unfold firstE at e ⊢
  cases h0:(r i==0) with
  |true =>
   rw [h0,cond_true] at e
   rw [h i (Nat.le_refl _) (by omega) (eq_of_beq h0)]
   exact firstE_zero (fun j a b=>h j (by omega) (by omega)) e
  |false =>
   rw [h0,cond_false] at e
   rw [e] at h0
   cases h0
theorem regR_zero {lo hi:PtS} {k:Nat} {n:Nat→Nat} {r r':Nat→Int} {l:Nat} {q:Nat→Int×Int×Int} (h:∀j,j < k→r j=0→r' j=0) (e:regR lo hi k n r l q=0):regR lo hi k n r' l q=0:=by
 unfold regR at e ⊢
 cases h1:(!canonP lo||!canonP hi) with
 |true=>rw [h1] at e;cases e
 |false =>
  rw [h1,cond_false] at e
  cases h2:decide (32 < k) with
  |true=>rw [h2] at e;cases e
  |false =>
   rw [h2,cond_false] at e
   have hz:firstE r k 0=0:=by
    cases h3:(firstE r k 0==0) with
    |true=>exact eq_of_beq h3
    |false=>rw [h3] at e;exact e
   rw [hz] at e
   rw [firstE_zero (fun j _ b=>h j (by omega)) hz]
   exact e
end Go.Num
namespace Go.Num
open Go Go.Ex Go.Proofs
theorem cmpQ_cases (a:Rat):(a < 0∧cmpQ a 0 = -1)∨(0 < a∧cmpQ a 0=1)∨(a=0∧cmpQ a 0=0):=by
 unfold cmpQ
 split
 ·rename_i h
  exact .inl ⟨h,rfl⟩
 ·rename_i h
  split
  ·rename_i h2
   exact .inr (.inl ⟨h2,rfl⟩)
  ·rename_i h2
   exact .inr (.inr ⟨by grind,rfl⟩)
theorem orP_swap (a b p:PtS):orP b a p = -orP a b p:=by
 unfold orP crossP subP
 rw [ptQ_X,ptQ_Y,ptQ_X,ptQ_Y,ptQ_X,ptQ_Y,ptQ_X,ptQ_Y]
 have e:(a.X - b.X)*(p.Y - b.Y) - (a.Y - b.Y)*(p.X - b.X) = -((b.X - a.X)*(p.Y - a.Y) - (b.Y - a.Y)*(p.X - a.X)):=by grind
 rw [e]
 generalize (b.X - a.X)*(p.Y - a.Y) - (b.Y - a.Y)*(p.X - a.X)=t
 rcases cmpQ_cases t with ⟨h,k⟩|⟨h,k⟩|⟨h,k⟩
 ·rcases cmpQ_cases (-t) with ⟨h',_⟩|⟨_,k'⟩|⟨h',_⟩
  ·exfalso;grind
  ·rw [k,k'];rfl
  ·exfalso;grind
 ·rcases cmpQ_cases (-t) with ⟨_,k'⟩|⟨h',_⟩|⟨h',_⟩
  ·rw [k,k']
  ·exfalso;grind
  ·exfalso;grind
 ·rcases cmpQ_cases (-t) with ⟨h',_⟩|⟨h',_⟩|⟨_,k'⟩
  ·exfalso;grind
  ·exfalso;grind
  ·rw [k,k'];rfl
theorem side_pos (a b p:PtS):sideB a b 1 p=decide (0 < orP a b p):=by
 unfold sideB orP
 rcases cmpQ_cases (crossP (subP b a) (subP p a)) with ⟨_,k⟩|⟨_,k⟩|⟨_,k⟩<;>rw [k]<;>rfl
theorem side_neg (a b p:PtS):sideB a b (-1) p=decide (orP a b p < 0):=by
 unfold sideB orP
 rcases cmpQ_cases (crossP (subP b a) (subP p a)) with ⟨_,k⟩|⟨_,k⟩|⟨_,k⟩<;>rw [k]<;>rfl
theorem eqR_comm (p u:RatS):eqR p u=eqR u p:=by
 have bc:∀x y:ByteArray,(x==y)=(y==x):=fun⟨x⟩ ⟨y⟩=>by
  show(x==y)=(y==x)
  exact Bool.beq_comm
 unfold eqR
 rw [Bool.beq_comm,bc p.b,bc p.c]
theorem eqP_comm (p u:PtS):eqP p u=eqP u p:=by
 unfold eqP
 rw [eqR_comm p.x,eqR_comm p.y]
theorem sup_A (n:Nat) (p:Nat→PtS) (a b:PtS):supR n p a a b=tightP n p a b:=by
 unfold supR tightP
 have e1:sup1 p a=fun i=>eqP a (p i):=funext fun i=>eqP_comm _ _
 have e2:sup2 p a b=fun i=>sideB a b 1 (p i):=funext fun i=>(side_pos a b (p i)).symm
 have e3:sup3 p a b=fun i=>sideB a b (-1) (p i):=funext fun i=>(side_neg a b (p i)).symm
 rw [e1,e2,e3]
theorem sup_B (n:Nat) (p:Nat→PtS) (a b:PtS):supR n p b a b=tightP n p b a:=by
 unfold supR tightP
 have e1:sup1 p b=fun i=>eqP b (p i):=funext fun i=>eqP_comm _ _
 have e2:sup2 p a b=fun i=>sideB b a (-1) (p i):=funext fun i=>by
  rw [side_neg,orP_swap]
  exact decide_eq_decide.2 (by omega)
 have e3:sup3 p a b=fun i=>sideB b a 1 (p i):=funext fun i=>by
  rw [side_pos,orP_swap]
  exact decide_eq_decide.2 (by omega)
 rw [e1,e2,e3,Bool.and_comm (anyP _ _) (anyP _ _)]
theorem both_T (k:Nat) (c:Nat→List PV) (g:Nat→PtS) (x:Int×Int):bothT k c g x=(tightE k c g x.1 x.2&&tightE k c g x.2 x.1):=by
 unfold bothT tightR tightE
 have e1:tgt1 c (g x.1.toNat) (g x.1.toNat) (g x.2.toNat)=fun i=>tightP (pn c i) (pts (pg c i)) (g x.1.toNat) (g x.2.toNat):=funext fun i=>sup_A _ _ _ _
 have e2:tgt1 c (g x.2.toNat) (g x.1.toNat) (g x.2.toNat)=fun i=>tightP (pn c i) (pts (pg c i)) (g x.2.toNat) (g x.1.toNat):=funext fun i=>sup_B _ _ _ _
 rw [e1,e2]
theorem selQ_tgt (k:Nat) (c:Nat→List PV) (g:Nat→PtS) (q:Nat→Int×Int):∀m,selQ (bothT k c g) q m=tgtL (tightE k c g) q m
 |0=>rfl
 |m+1=>by rw [selQ,tgtL,selQ_tgt k c g q m,both_T]
theorem selL_mem {f:Int×Int→Option Int} {q:Nat→Int×Int} {y:Int}:∀{m:Nat},y∈selL f q m→∃i,i < m∧f (q i)=some y
 |0,h=>by cases h
 |m+1,h=>by
  rw [selL,List.mem_append] at h
  rcases h with h|h
  ·obtain⟨i,hi,e⟩:=selL_mem h
   exact⟨i,by omega,e⟩
  ·exact⟨m,by omega,by simpa using h⟩
theorem links_lt {n m:Nat} {q:Nat→Int×Int} (h:okLinks n q m=true) {i j:Nat} (hij:i < j) (hj:j < m):(q i).1 < (q j).1∨(q i).1=(q j).1∧(q i).2 < (q j).2:=by
 induction j with
 |zero=>omega
 |succ j ih =>
  have h1:=(links_at h hj).2.2.2 (by omega)
  rw [Nat.add_sub_cancel] at h1
  unfold lessQ at h1
  simp only [Bool.or_eq_true,Bool.and_eq_true,decide_eq_true_eq] at h1
  by_cases e:i=j
  ·rw [e]
   exact h1
  ·have h2:=ih (by omega) (by omega)
   omega
theorem selL_sorted {n m:Nat} {q:Nat→Int×Int} (h:okLinks n q m=true) {f:Int×Int→Option Int} (hf:∀i j x y,i < j→j < m→f (q i)=some x→f (q j)=some y→x≤y):∀k,k≤m→(selL f q k).Pairwise (·≤·)
 |0,_=>List.Pairwise.nil
 |k+1,hk=>by
  rw [selL,List.pairwise_append]
  refine⟨selL_sorted h hf k (by omega),?_,fun x hx y hy=>?_⟩
  ·cases f (q k)
   ·exact List.Pairwise.nil
   ·exact List.pairwise_singleton _ _
  ·obtain⟨i,hi,e⟩:=selL_mem hx
   exact hf i k x y hi (by omega) e (by simpa using hy)
theorem bif_some {b:Bool} {x y:Int} (h:(bif b then some x else none)=some y):b=true∧x=y:=by
 cases b
 ·cases h
 ·exact⟨rfl,Option.some.inj h⟩
theorem nbL_eq {n m:Nat} {q:Nat→Int×Int} (h:okLinks n q m=true) (z:Int):nbS z q m=selL (fB z) q m++selL (fA z) q m:=by
 have hB:∀{x y},fB z x=some y→x.2=z∧x.1=y:=fun e=>by
  have:=bif_some e
  exact⟨eq_of_beq this.1,this.2⟩
 have hA:∀{x y},fA z x=some y→x.1=z∧x.2=y:=fun e=>by
  have:=bif_some e
  exact⟨eq_of_beq this.1,this.2⟩
 have pm:∀k,k≤m→(nbL z q k).Perm (selL (fB z) q k++selL (fA z) q k):=fun k=>by
  induction k with
  |zero=>exact fun _=>List.Perm.refl _
  |succ k ih =>
   intro hk
   have hl:=links_at h (show k < m by omega)
   rw [nbL]
   cases e1:z==(q k).1 with
   |true =>
    have e1:=eq_of_beq e1
    rw [selL_A (by rw [e1];exact beq_self_eq_true _),selL_B0 (by rw [beq_eq_false_iff_ne];omega),←List.append_assoc]
    exact(ih (by omega)).append_right _
   |false =>
    have e1:z≠(q k).1:=by simpa using e1
    cases e2:z==(q k).2 with
    |true =>
     have e2:=eq_of_beq e2
     rw [selL_A0 (by rw [beq_eq_false_iff_ne];omega),selL_B (by rw [e2];exact beq_self_eq_true _)]
     refine((ih (by omega)).append_right _).trans ?_
     rw [List.append_assoc,List.append_assoc]
     exact List.Perm.append_left _ List.perm_append_comm
    |false =>
     have e2:z≠(q k).2:=by simpa using e2
     rw [selL_A0 (by rw [beq_eq_false_iff_ne];omega),selL_B0 (by rw [beq_eq_false_iff_ne];omega)]
     show(nbL z q k++[]).Perm _
     rw [List.append_nil]
     exact ih (by omega)
 have so:(selL (fB z) q m++selL (fA z) q m).Pairwise (·≤·):=by
  rw [List.pairwise_append]
  refine⟨selL_sorted h (fun i j x y hij hj e e'=>?_) m (Nat.le_refl m),selL_sorted h (fun i j x y hij hj e e'=>?_) m (Nat.le_refl m),fun x hx y hy=>?_⟩
  ·have:=hB e
   have:=hB e'
   have:=links_lt h hij hj
   omega
  ·have:=hA e
   have:=hA e'
   have:=links_lt h hij hj
   omega
  ·obtain⟨i,hi,e⟩:=selL_mem hx
   obtain⟨j,hj,e'⟩:=selL_mem hy
   have:=hB e
   have:=hA e'
   have:=links_at h hi
   have:=links_at h hj
   omega
 have em:∀L:List Int,(List.range L.length).map (zL L)=L:=fun L=>by
  apply List.ext_getElem
  ·simp
  ·intro i h1 h2
   simp [zL,h2]
 unfold nbS srtZ
 rw [em]
 refine List.Perm.eq_of_pairwise (le:=fun x y=>x≤y) (fun a b _ _=>Int.le_antisymm) ?_ so ((List.mergeSort_perm _ _).trans (pm m (Nat.le_refl m)))
 have:=List.pairwise_mergeSort (le:=fun x y:Int=>decide (x≤y)) (fun a b c h h'=>by simp at h h' ⊢;omega) (fun a b=>by simp;omega) (nbL z q m)
 exact this.imp fun h=>by simpa using h
end Go.Num
namespace Go.Num
open Go Go.Ex Go.Proofs
def sameP (p:Nat→PtS) (i j:Nat):Prop:=(p i).X=(p j).X∧(p i).Y=(p j).Y
theorem eqR_q {p u:RatS} (h:eqR p u=true):p.q=u.q:=by
 have be:∀x y:ByteArray,(x==y)=true→x=y:=fun⟨x⟩ ⟨y⟩ h=>by
  have h:(x==y)=true:=h
  rw [eq_of_beq h]
 unfold eqR at h
 simp only [Bool.and_true,Bool.and_eq_true] at h
 obtain⟨h1,h2,h3⟩:=h
 have e:p=u:=by
  obtain⟨s,b,c⟩:=p
  obtain⟨s',b',c'⟩:=u
  have h1:=eq_of_beq h1
  have h2:=be _ _ h2
  have h3:=be _ _ h3
  simp only at h1 h2 h3
  rw [h1,h2,h3]
 rw [e]
theorem eqP_same {p u:PtS} (h:eqP p u=true):p.X=u.X∧p.Y=u.Y:=by
 unfold eqP at h
 simp only [Bool.and_true,Bool.and_eq_true] at h
 exact⟨eqR_q h.1,eqR_q h.2⟩
theorem cmpQ_anti (a b:Rat):cmpQ a b = -cmpQ b a:=by
 unfold cmpQ
 by_cases h:a < b
 ·have h2:¬b < a:=by grind
  rw [if_pos h,if_neg h2,if_pos h]
 ·rw [if_neg h]
  by_cases h2:b < a
  ·rw [if_pos h2,if_pos h2]
   rfl
  ·rw [if_neg h2,if_neg h2,if_neg h]
   rfl
theorem cmpP_anti (p u:PtS):cmpP p u = -cmpP u p:=by
 unfold cmpP
 rw [cmpQ_anti p.X u.X,cmpQ_anti p.Y u.Y]
 by_cases h:cmpQ u.X p.X=0
 ·rw [if_pos (by omega),if_pos h]
 ·rw [if_neg (by omega),if_neg h]
theorem tri_deg {x y a b:Rat} (h:0 < tri x x a y y b):False:=by
 unfold tri at h
 grind
theorem tri_anti {x y a b c d:Rat} (h:0 < tri x a b y c d) (k:0 < tri x b a y d c):False:=by
 unfold tri at h k
 grind
theorem tri_cyc {a b c x y z:Rat} (h:0 < tri a b c x y z):0 < tri c a b z x y:=by
 unfold tri at h ⊢
 grind
theorem ring_chk {n:Nat} {p:Nat→PtS} (h:ringE n p=0):chk13 n p=0:=by
 unfold ringE at h
 unfold chk13
 cases h1:(decide (n < 3)||decide (64 < n)) with
 |true=>rw [h1] at h;cases h
 |false =>
  rw [h1,cond_false] at h
  rw [cond_false]
  cases h2:anyP (fun i=>!canonP (p i)) n with
  |true=>rw [h2] at h;cases h
  |false =>
   rw [h2,cond_false] at h
   rw [cond_false]
   cases h3:anyP (fun i=>le0 (p 0) (p (1+i))) (n - 1) with
   |true=>rw [h3] at h;cases h
   |false =>
    rw [h3,cond_false] at h
    cases h4:anyP (fun e=>anyP (fun i=>badV (p e) (p ((e+1)%n)) (p i)) n) n with
    |true=>rw [h4] at h;cases h
    |false =>
     have hn:3≤n:=by
      rw [Bool.or_eq_false_iff,decide_eq_false_iff_not] at h1
      omega
     have c0:∀i,0 < i→i < n→cmpP (p 0) (p i) < 0:=fun i a b=>by
      have:=(anyP_false.1 h3) (i - 1) (by omega)
      unfold le0 at this
      rw [decide_eq_false_iff_not,show 1+(i - 1)=i by omega] at this
      rw [cmpP_anti]
      omega
     have k0:∀i,0 < i→i < n→¬sameP p i 0:=fun i a b e=>by
      rcases cmpP_lt (c0 i a b) with h|⟨_,h⟩
      ·rw [e.1] at h
       exact absurd h Rat.lt_irrefl
      ·rw [e.2] at h
       exact absurd h Rat.lt_irrefl
     have B:∀e i,e < n→i < n→sameP p i e∨sameP p i ((e+1)%n)∨0 < dt (fun i=>(p i).X) (fun i=>(p i).Y) e ((e+1)%n) i:=fun e i he hi=>by
      have:=(anyP_false.1 ((anyP_false.1 h4) e he)) i hi
      unfold badV at this
      rw [orP_dt p e ((e+1)%n) i] at this
      cases e1:eqP (p i) (p e) with
      |true=>exact .inl (eqP_same e1)
      |false =>
       cases e2:eqP (p i) (p ((e+1)%n)) with
       |true=>exact .inr (.inl (eqP_same e2))
       |false =>
        rw [e1,e2] at this
        exact .inr (.inr (cmpQ_le.1 (by simpa using this)))
     have nd:∀e,e < n→¬sameP p e ((e+1)%n):=fun e he s=>by
      have al:∀v,v < n→sameP p v e:=fun v hv=>by
       rcases B e v he hv with h|h|h
       ·exact h
       ·exact⟨h.1.trans s.1.symm,h.2.trans s.2.symm⟩
       ·exfalso
        obtain⟨s1,s2⟩:=s
        unfold dt at h
        simp only [←s1,←s2] at h
        exact tri_deg h
      have a0:=al 0 (by omega)
      have a1:=al 1 (by omega)
      exact k0 1 (by omega) (by omega) ⟨a1.1.trans a0.1.symm,a1.2.trans a0.2.symm⟩
     have ds:∀d i j,n - j=d→i < j→j < n→¬sameP p i j:=fun d=>by
      induction d with
      |zero=>intro i j h1 _ h2;omega
      |succ d ih =>
       intro i j hd hij hj s
       have hi1:(i+1)%n=i+1:=Nat.mod_eq_of_lt (by omega)
       have ni:=nd i (by omega)
       have nj:=nd j hj
       rw [hi1] at ni
       have hj':(j+1)%n < n:=Nat.mod_lt _ (by omega)
       have key:sameP p (i+1) ((j+1)%n):=by
        have b1:=B i ((j+1)%n) (by omega) hj'
        have b2:=B j (i+1) hj (by omega)
        rw [hi1] at b1
        obtain⟨s1,s2⟩:=s
        rcases b1 with b1|b1|b1
        ·exact absurd ⟨s1.symm.trans b1.1.symm,s2.symm.trans b1.2.symm⟩ nj
        ·exact⟨b1.1.symm,b1.2.symm⟩
        ·rcases b2 with b2|b2|b2
         ·exact absurd ⟨s1.trans b2.1.symm,s2.trans b2.2.symm⟩ ni
         ·exact b2
         ·exfalso
          unfold dt at b1 b2
          simp only [←s1,←s2] at b2
          exact tri_anti b1 b2
       by_cases hjn:j+1=n
       ·rw [hjn,Nat.mod_self] at key
        exact k0 (i+1) (by omega) (by omega) key
       ·rw [Nat.mod_eq_of_lt (by omega)] at key
        exact ih (i+1) (j+1) (by omega) (by omega) (by omega) key
     have dd:∀i j,i≠j→i < n→j < n→¬sameP p i j:=fun i j hne hi hj s=>by
      rcases Nat.lt_or_gt_of_ne hne with h|h
      ·exact ds _ i j rfl h hj s
      ·exact ds _ j i rfl h hi ⟨s.1.symm,s.2.symm⟩
     have pos:∀e i,e < n→i < n→i≠e→i≠(e+1)%n→0 < dt (fun i=>(p i).X) (fun i=>(p i).Y) e ((e+1)%n) i:=fun e i he hi h1 h2=>by
      rcases B e i he hi with h|h|h
      ·exact absurd h (dd _ _ h1 hi he)
      ·exact absurd h (dd _ _ h2 hi (Nat.mod_lt _ (by omega)))
      ·exact h
     have m2:∀i,i < n→(i+2)%n≠i∧(i+2)%n≠(i+1)%n:=fun i hi=>by
      rcases Nat.lt_or_ge (i+2) n with h|h
      ·rw [Nat.mod_eq_of_lt h,Nat.mod_eq_of_lt (by omega)]
       omega
      ·rw [Nat.mod_eq_sub_mod h,Nat.mod_eq_of_lt (by omega)]
       rcases Nat.lt_or_ge (i+1) n with h' | h'
       ·rw [Nat.mod_eq_of_lt h']
        omega
       ·rw [Nat.mod_eq_sub_mod h',Nat.mod_eq_of_lt (by omega)]
        omega
     rw [anyP_false.2 fun i hi=>?_,cond_false,anyP_false.2 fun i hi=>?_]
     ·rfl
     ·unfold bad13
      have q1:=pos i ((i+2)%n) hi (Nat.mod_lt _ (by omega)) (m2 i hi).1 (m2 i hi).2
      rw [orP_dt,cmpQ_le.2 q1,Bool.false_or]
      cases e1:decide (0 < i) with
      |false=>rfl
      |true =>
       cases e2:decide (i+1 < n) with
       |false=>rfl
       |true =>
        have e1:=of_decide_eq_true e1
        have e2:=of_decide_eq_true e2
        have q2:=pos i 0 hi (by omega) (by omega) (by rw [Nat.mod_eq_of_lt e2];omega)
        rw [Nat.mod_eq_of_lt e2] at q2
        have q3:0 < dt (fun i=>(p i).X) (fun i=>(p i).Y) 0 i (i+1):=by
         exact tri_cyc q2
        rw [orP_dt,cmpQ_le.2 q3]
        rfl
     ·unfold ge0
      have:=c0 (1+i) (by omega) (by omega)
      exact decide_eq_false (by omega)
theorem reg_iff (lo hi:PtS) (k:Nat) (c:Nat→List PV) (l:Nat) (o:Nat→List PV):(chkT lo hi k c l o==0)=(regE lo hi k (pn c) (fun i=>pts (pg c i)) l (ow o)==0):=by
 rw [Bool.eq_iff_iff,beq_iff_eq,beq_iff_eq]
 constructor
 ·intro h
  rw [regE_R]
  exact regR_zero (fun j _=>chk13_ring) h
 ·intro h
  rw [regE_R] at h
  exact regR_zero (fun j _=>ring_chk) h
end Go.Num
namespace Go.Num
open Go Go.Ex Go.Proofs
def keepL (p q:PtS) (C:Nat→PtS):Nat→List PtS
 |0=>[p,q]
 |j+1=>keepL p q C j++(bif !eqP (C j) p&&!eqP (C j) q then [C j] else [])
def lnkJ (S:PtS→PtS→Bool) (P:Nat→PtS) (i:Nat):Nat→List (Int×Int)
 |0=>[]
 |d+1=>lnkJ S P i d++(bif S (P i) (P (i+1+d)) then [((i:Int),((i+1+d:Nat):Int))] else [])
def lnkI (S:PtS→PtS→Bool) (P:Nat→PtS) (n:Nat):Nat→List (Int×Int)
 |0=>[]
 |i+1=>lnkI S P n i++lnkJ S P i (n - (i+1))
theorem apd_p {L:List PtS} {x:PtS} {r:Nat→List PV} (h:r 0=x.cells):∀i,i < L.length+1→(vertP (L++[x]) i).cells=apd L.length (fun i=>(vertP L i).cells) r i:=fun i hi=>by
 unfold apd vertP
 by_cases hl:i < L.length
 ·rw [if_pos hl,List.getElem?_append_left hl]
 ·obtain rfl:i=L.length:=by omega
  rw [if_neg hl,Nat.sub_self,h]
  simp
theorem keepL_le (p q:PtS) (C:Nat→PtS):∀j,2≤(keepL p q C j).length∧(keepL p q C j).length≤j+2
 |0=>⟨Nat.le_refl _,Nat.le_refl _⟩
 |j+1=>by
  have:=keepL_le p q C j
  unfold keepL
  rw [List.length_append]
  cases (!eqP (C j) p&&!eqP (C j) q)<;>simp<;>omega
theorem keepL_all {p q:PtS} {C:Nat→PtS} (hp:p.le 10000) (hq:q.le 10000):∀{j:Nat},(∀i,i < j→(C i).le 10000)→∀x∈keepL p q C j,x.le 10000
 |0,_,x,hx=>by
  rcases List.mem_cons.1 hx with rfl|hx
  ·exact hp
  ·rw [List.mem_singleton.1 hx]
   exact hq
 |j+1,hC,x,hx=>by
  unfold keepL at hx
  rcases List.mem_append.1 hx with hx|hx
  ·exact keepL_all hp hq (fun i hi=>hC i (by omega)) x hx
  ·cases hb:(!eqP (C j) p&&!eqP (C j) q) with
   |true =>
    rw [hb] at hx
    rw [List.mem_singleton.1 hx]
    exact hC j (by omega)
   |false=>rw [hb] at hx;cases hx
theorem lnkJ_le (S:PtS→PtS→Bool) (P:Nat→PtS) (i:Nat):∀d,(lnkJ S P i d).length≤d
 |0=>Nat.le_refl _
 |d+1=>by
  have:=lnkJ_le S P i d
  unfold lnkJ
  rw [List.length_append]
  cases S (P i) (P (i+1+d))<;>simp<;>omega
theorem lnkI_le (S:PtS→PtS→Bool) (P:Nat→PtS) (n:Nat):∀i,(lnkI S P n i).length≤i*n
 |0=>Nat.zero_le _
 |i+1=>by
  have:=lnkI_le S P n i
  have h2:=lnkJ_le S P i (n - (i+1))
  unfold lnkI
  rw [List.length_append,Nat.succ_mul]
  omega
def bErr (lo hi:PtS) (k:Nat) (c:Nat→List PV) (l:Nat) (o:Nat→List PV) (p q:PtS):Int:=bif okB lo hi k c l o (segV p q) then bif seeB lo hi k c l o p p&&seeB lo hi k c l o q q then bif eqP p q then 12 else 0 else 16 else 1
def bPts (lo hi:PtS) (k:Nat) (c:Nat→List PV) (l:Nat) (o:Nat→List PV) (p q:PtS):List PtS:=bif bErr lo hi k c l o p q==0 then keepL p q (cornP lo hi k c l o) (vertC lo hi k c l o).length else []
def bLks (lo hi:PtS) (k:Nat) (c:Nat→List PV) (l:Nat) (o:Nat→List PV) (p q:PtS):List (Int×Int):=lnkI (seeB lo hi k c l o) (vertP (bPts lo hi k c l o p q)) (bPts lo hi k c l o p q).length (bPts lo hi k c l o p q).length
end Go.Num
namespace Go.Proofs
open Go Go.Ex Go.Num
set_option maxRecDepth 100000
def c14:List PV→Option Ans
 |[.agg xs,.val v,.val u]=>some ⟨some ((isRg 10000 xs∧isPk 10000 v∧isPk 10000 u)∧(vertC (gLo xs) (gHi xs) (gK xs) (gC xs) (gL xs) (gO xs)).length≤12∧∀i,i+1 < (vertC (gLo xs) (gHi xs) (gK xs) (gC xs) (gL xs) (gO xs)).length→eqP (cornP (gLo xs) (gHi xs) (gK xs) (gC xs) (gL xs) (gO xs) (i+1)) (cornP (gLo xs) (gHi xs) (gK xs) (gC xs) (gL xs) (gO xs) i)=false),
  .tup [.agg [.rs 6 (bPts (gLo xs) (gHi xs) (gK xs) (gC xs) (gL xs) (gO xs) (rdV v) (rdV u)).length (fun i=>(vertP (bPts (gLo xs) (gHi xs) (gK xs) (gC xs) (gL xs) (gO xs) (rdV v) (rdV u)) i).cells),.rs 2 (bLks (gLo xs) (gHi xs) (gK xs) (gC xs) (gL xs) (gO xs) (rdV v) (rdV u)).length (fun i=>cellsQ (qL (bLks (gLo xs) (gHi xs) (gK xs) (gC xs) (gL xs) (gO xs) (rdV v) (rdV u)) i))],.val (.int .i64 (bErr (gLo xs) (gHi xs) (gK xs) (gC xs) (gL xs) (gO xs) (rdV v) (rdV u)))],[]⟩
 |_=>none
def D14:Opt:={ perm:=atR 21 (rds 7) }
theorem ok14:funcOk D14.toOrd Tryz.f14 3=true:=by kernel_rfl
theorem f14:FnOk Tryz.prog 14 c14:=by
 refine FnOk.ofW orders (mkE_ok (l:=[(55,c55),(56,c56),(57,c57)]) (own:=[]) (inl:=[]) (by simp [f55,f56,f57]) (by simp)) Tryz.func14 D14 3 ok14 fun args r e=>?_
 unfold c14 at e
 split at e
 ·rename_i xs v u
  cases e
  refine⟨by simp,fun hm=>?_⟩
  obtain⟨⟨⟨h1,⟨hlo,hhi⟩,hcl,hol⟩,⟨a,rfl,ha⟩,b,rfl,hb⟩,hN,hne⟩:=hm _ rfl
  generalize gLo xs=lo at *
  generalize gHi xs=hi at *
  generalize gK xs=k at *
  generalize gC xs=c at *
  generalize gL xs=l at *
  generalize gO xs=o at *
  subst h1
  clear hm
  refine⟨[],stOf [(0,.agg (regC lo hi k c l o)),(1,.val a.v),(2,.val b.v)] [] 0 [],Wo trivial ⟨⟨rfl,rfl,rfl,rfl,rfl,rfl,rfl,rfl,rfl,rfl,rfl,rfl,⟨rfl,rfl,fun _ _=>rfl⟩,⟨rfl,rfl,fun _ _=>rfl⟩,trivial⟩,rfl,rfl,trivial⟩ trivial,?_⟩
  have ha':=ha.mono (show 10000≤4294967296 by decide)
  have hb':=hb.mono (show 10000≤4294967296 by decide)
  have hcl':isCL 10000 k (fun i=>[.rs 6 (pn c i) (pg c i)]):=⟨fun i hi=>⟨rfl,(hcl.1 i hi).2⟩,hcl.2⟩
  have hol':isOL l (fun i=>cellsO (ow o i)):=⟨fun _ _=>rfl,hol.2⟩
  have hrg':((lo.le 4294967296∧hi.le 4294967296)∧isCL 10000 k (fun i=>[.rs 6 (pn c i) (pg c i)])∧isOL l (fun i=>cellsO (ow o i))):=⟨⟨hlo.mono (by decide),hhi.mono (by decide)⟩,hcl',hol'⟩
  have hrg3:((lo.le 10000∧hi.le 10000)∧isCL 10000 k (fun i=>[.rs 6 (pn c i) (pg c i)])∧isOL l (fun i=>cellsO (ow o i))):=⟨⟨hlo,hhi⟩,hcl',hol'⟩
  obtain⟨OK,hOK⟩:∃OK,OK=okB lo hi k c l o (segV a b):=⟨_,rfl⟩
  obtain⟨S,hS⟩:∃S,S=seeB lo hi k c l o:=⟨_,rfl⟩
  have hSN:seeB lo hi k (fun i=>[.rs 6 (pn c i) (pg c i)]) l (fun i=>cellsO (ow o i))=S:=by
   rw [hS]
   rfl
  obtain⟨C,hC⟩:∃C,C=cornP lo hi k c l o:=⟨_,rfl⟩
  have hCN:cornP lo hi k (fun i=>[.rs 6 (pn c i) (pg c i)]) l (fun i=>cellsO (ow o i))=C:=by
   rw [hC]
   rfl
  obtain⟨N,hNN⟩:∃N,N=(vertC lo hi k c l o).length:=⟨_,rfl⟩
  have hNNN:(vertC lo hi k (fun i=>[.rs 6 (pn c i) (pg c i)]) l (fun i=>cellsO (ow o i))).length=N:=by
   rw [hNN]
   rfl
  obtain⟨BE,hBE⟩:∃BE,BE=bErr lo hi k c l o a b:=⟨_,rfl⟩
  obtain⟨BP,hBP⟩:∃BP,BP=bPts lo hi k c l o a b:=⟨_,rfl⟩
  obtain⟨BL,hBL⟩:∃BL,BL=bLks lo hi k c l o a b:=⟨_,rfl⟩
  show vcW _ _ _ _ _ ⟨_,.tup [.agg [.rs 6 (bPts lo hi k c l o a b).length (fun i=>(vertP (bPts lo hi k c l o a b) i).cells),.rs 2 (bLks lo hi k c l o a b).length (fun i=>cellsQ (qL (bLks lo hi k c l o a b) i))],.val (.int .i64 (bErr lo hi k c l o a b))],[]⟩
  rw [←hBE,←hBP,←hBL]
  have e0:BE=bif OK then bif S a a&&S b b then bif eqP a b then 12 else 0 else 16 else 1:=by rw [hBE,bErr,←hOK,←hS]
  have e1:BP=bif BE==0 then keepL a b C N else []:=by rw [hBP,bPts,←hBE,←hC,←hNN]
  have e2:BL=lnkI S (vertP BP) BP.length BP.length:=by rw [hBL,bLks,←hBP,←hS]
  rw [←hNN] at hN
  rw [←hNN,←hC] at hne
  have cn:∀r:Nat→List PV,pts r 0=a→pts r 1=b→anyP (fun i=>!canonP (pts r i)) 2=(!canonP a||!canonP b):=fun r h h'=>by
   have e:List.range 2=[0,1]:=rfl
   simp only [anyP,e,List.any_cons,List.any_nil,Bool.or_false,h,h']
  have p2:∀r:Nat→List PV,r 0=a.cells→r 1=b.cells→isPL 4294967296 2 r:=fun r h h'=>⟨fun i hi=>by
   match i,hi with
   |0,_=>exact⟨by rw [pts,h];rfl,by rw [pts,h];exact ha'⟩
   |1,_=>exact⟨by rw [pts,h'];rfl,by rw [pts,h'];exact hb'⟩
   |i+2,h=>omega,by decide⟩
  have q1:∀r:Nat→List PV,pts r 0=a→pts r 1=b→((regE lo hi k (pn (fun i=>[.rs 6 (pn c i) (pg c i)])) (fun i=>pts (pg (fun i=>[.rs 6 (pn c i) (pg c i)]) i)) l (ow (fun i=>cellsO (ow o i)))==0)&&!anyP (fun i=>!canonP (pts r i)) 2)=OK:=fun r h h'=>by
   rw [cn r h h',hOK,Bool.and_comm]
   rfl
  have z:∀B:Bool,(okW B != 0)=true→B=false:=fun B h=>by cases B<;>first|rfl|cases h
  have z':∀B:Bool,(okW B != 0)=false→B=true:=fun B h=>by cases B<;>first|rfl|cases h
  have bad:BE≠0→BP.length=0∧BL.length=0:=fun h=>by
   have h0:(BE==0)=false:=by simpa using h
   have h1:BP=[]:=by rw [e1,h0];rfl
   exact⟨by rw [h1];rfl,by rw [e2,h1];rfl⟩
  have sA:∀B,B=S→∀x y,B x y=S x y:=fun B h x y=>by rw [h]
  have neq:∀B:Bool,(!B)=true→B=false:=fun B h=>by simpa using h
  have neq':∀B:Bool,(!B)=false→B=true:=fun B h=>by simpa using h
  have h57:(((lo.le 10000∧hi.le 10000)∧isCL 10000 k (fun i=>[.rs 6 (pn c i) (pg c i)])∧isOL l (fun i=>cellsO (ow o i)))∧(vertC lo hi k (fun i=>[.rs 6 (pn c i) (pg c i)]) l (fun i=>cellsO (ow o i))).length≤12)∧∀i,i+1 < (vertC lo hi k (fun i=>[.rs 6 (pn c i) (pg c i)]) l (fun i=>cellsO (ow o i))).length→eqP (cornP lo hi k (fun i=>[.rs 6 (pn c i) (pg c i)]) l (fun i=>cellsO (ow o i)) (i+1)) (cornP lo hi k (fun i=>[.rs 6 (pn c i) (pg c i)]) l (fun i=>cellsO (ow o i)) i)=false:=by
   rw [hNNN,hCN]
   exact⟨⟨hrg3,hN⟩,hne⟩
  have hrow:∀i,i < N→(C i).cells=(cornP lo hi k (fun i=>[.rs 6 (pn c i) (pg c i)]) l (fun i=>cellsO (ow o i)) i).cells:=fun i _=>by rw [hCN]
  have hlen:PV.val (.int .i64 ((vertC lo hi k (fun i=>[.rs 6 (pn c i) (pg c i)]) l (fun i=>cellsO (ow o i))).length:Int))=PV.val (goInt N):=by
   rw [hNNN]
   rfl
  have r0:∀r:Nat→List PV,r 0=a.cells→r 1=b.cells→∀i,i < 2→(vertP (keepL a b C 0) i).cells=r i:=fun r h h' i hi=>by
   match i,hi with
   |0,_=>exact h.symm
   |1,_=>exact h'.symm
  have hCle:∀i,i < N→(C i).le 10000:=by
   rw [hNN,hC]
   exact cornP_le hcl
  with_unfolding_all refine⟨⟨hrg',p2 _ rfl rfl⟩,fun h1=>?_,fun h1=>?_⟩
  ·have h2:OK=false:=(q1 _ rfl rfl).symm.trans (z _ h1)
   have hb1:BE=1:=by rw [e0,h2];rfl
   have hb0:BE≠0:=by rw [hb1];decide
   have v2:∀B,B=OK→PV.val (.int .i64 (okW B))=PV.val (.int .i64 BE):=fun B h=>by rw [h,h2,hb1];rfl
   with_unfolding_all exact⟨[some 3],stOf [(6,.ptr 0 0 0 0),(7,.val (.int .i64 BE))] [⟨37,2,0,true,false,1,fun _=>[.rs 6 BP.length (fun i=>(vertP BP i).cells),.rs 2 BL.length (fun i=>cellsQ (qL BL i))]⟩] 1 [],Wo ⟨⟨lt_ok rfl,rfl,rfl,rfl,rfl,rfl,⟨⟨rfl,(bad hb0).1⟩,rfl⟩,⟨⟨rfl,(bad hb0).2⟩,rfl⟩,trivial⟩,trivial⟩ ⟨pP,v2 _ (q1 _ rfl rfl),trivial⟩ trivial,rfl,rfl⟩
  ·have hk:OK=true:=(q1 _ rfl rfl).symm.trans (z' _ h1)
   have b16:S a a=false∨S b b=false→BE=16:=fun h=>by
    rw [e0,hk]
    rcases h with h|h
    ·rw [h];rfl
    ·rw [h,Bool.and_false];rfl
   have b12:S a a=true→S b b=true→eqP a b=true→BE=12:=fun h h' h2=>by rw [e0,hk,h,h',h2];rfl
   have n16:BE=16→BE≠0:=fun h=>by rw [h];decide
   have n12:BE=12→BE≠0:=fun h=>by rw [h];decide
   have v16:BE=16→PV.val (.int .i64 16)=PV.val (.int .i64 BE):=fun h=>by rw [h]
   have v12:BE=12→PV.val (.int .i64 12)=PV.val (.int .i64 BE):=fun h=>by rw [h]
   have fs:∀x,(!seeB lo hi k (fun i=>[.rs 6 (pn c i) (pg c i)]) l (fun i=>cellsO (ow o i)) x x)=true→S x x=false:=fun x h=>by rw [←hSN];exact neq _ h
   have ft:∀x,(!seeB lo hi k (fun i=>[.rs 6 (pn c i) (pg c i)]) l (fun i=>cellsO (ow o i)) x x)=false→S x x=true:=fun x h=>by rw [←hSN];exact neq' _ h
   with_unfolding_all refine⟨⟨hrg3,⟨a,rfl,ha⟩,a,rfl,ha⟩,fun h2=>⟨⟨hrg3,⟨b,rfl,hb⟩,b,rfl,hb⟩,fun h3=>⟨[some 3],stOf [(6,.ptr 0 0 0 0),(7,.val (.int .i64 BE))] [⟨37,2,0,true,false,1,fun _=>[.rs 6 BP.length (fun i=>(vertP BP i).cells),.rs 2 BL.length (fun i=>cellsQ (qL BL i))]⟩] 1 [],Wo ⟨⟨lt_ok rfl,rfl,rfl,rfl,rfl,rfl,⟨⟨rfl,(bad (n16 (b16 (.inr (fs b h3))))).1⟩,rfl⟩,⟨⟨rfl,(bad (n16 (b16 (.inr (fs b h3))))).2⟩,rfl⟩,trivial⟩,trivial⟩ ⟨pP,v16 (b16 (.inr (fs b h3))),trivial⟩ trivial,rfl,rfl⟩,fun h3=>⟨fun h4=>⟨[some 3],stOf [(6,.ptr 0 0 0 0),(7,.val (.int .i64 BE))] [⟨37,2,0,true,false,1,fun _=>[.rs 6 BP.length (fun i=>(vertP BP i).cells),.rs 2 BL.length (fun i=>cellsQ (qL BL i))]⟩] 1 [],Wo ⟨⟨lt_ok rfl,rfl,rfl,rfl,rfl,rfl,⟨⟨rfl,(bad (n12 (b12 (ft a h2) (ft b h3) h4))).1⟩,rfl⟩,⟨⟨rfl,(bad (n12 (b12 (ft a h2) (ft b h3) h4))).2⟩,rfl⟩,trivial⟩,trivial⟩ ⟨pP,v12 (b12 (ft a h2) (ft b h3) h4),trivial⟩ trivial,rfl,rfl⟩,fun h4=>⟨h57,Nat,fun j=>(OK=true∧S a a=true∧S b b=true∧eqP a b=false)∧j≤N,fun j=>stOf [(3,.ptr 0 0 0 0),(4,.ptr 1 1 0 0),(5,.ptr 2 2 0 0),(6,.ptr 3 3 0 0),(9,.ptr 4 4 0 0),(46,.rs 6 N (fun i=>(C i).cells)),(47,.val (goInt N)),(48,.val (goInt j))] [⟨31,14,0,true,false,1,fun _=>regC lo hi k c l o⟩,⟨25,6,1,true,false,1,fun _=>a.cells⟩,⟨25,6,2,true,false,1,fun _=>b.cells⟩,⟨37,2,3,true,false,1,fun _=>[.val (.slice none 0 0),.val (.slice none 0 0)]⟩,⟨37,2,4,true,false,1,fun _=>[.sl 5 5 0 (keepL a b C j).length,.val (.slice none 0 0)]⟩,⟨25,6,5,false,false,(keepL a b C j).length,fun i=>(vertP (keepL a b C j) i).cells⟩] 6 [],fun j=>N - j,⟨0,[some 0,some 1,some 2,some 3,some 6,some 5],⟨⟨hk,ft a h2,ft b h3,h4⟩,Nat.zero_le _⟩,Wo ⟨⟨lt_ok rfl,rfl,rfl,rfl,rfl,rfl,rq,rq,rq,rq,rq,rq,rq,rq,rq,rq,rq,rq,⟨⟨rfl,rfl,fun _ _=>rfl⟩,rfl⟩,⟨⟨rfl,rfl,fun _ _=>rfl⟩,rfl⟩,trivial⟩,⟨lt_ok rfl,rfl,rfl,rfl,rfl,rfl,rq,rq,rq,rq,rq,rq,trivial⟩,⟨lt_ok rfl,rfl,rfl,rfl,rfl,rfl,rq,rq,rq,rq,rq,rq,trivial⟩,⟨lt_ok rfl,rfl,rfl,rfl,rfl,rfl,rq,rq,trivial⟩,⟨lt_ok rfl,rfl,rfl,rfl,rfl,rfl,⟨pP,rfl⟩,rq,trivial⟩,⟨lt_ok rfl,rfl,rfl,rfl,rfl,rfl,r0 _ rfl rfl⟩,trivial⟩ ⟨pP,pP,pP,pP,pP,⟨rfl,hNNN,hrow⟩,hlen,rfl,trivial⟩ trivial⟩,fun j hj=>?_⟩⟩⟩,fun h2=>⟨fun _=>⟨[some 3],stOf [(6,.ptr 0 0 0 0),(7,.val (.int .i64 BE))] [⟨37,2,0,true,false,1,fun _=>[.rs 6 BP.length (fun i=>(vertP BP i).cells),.rs 2 BL.length (fun i=>cellsQ (qL BL i))]⟩] 1 [],Wo ⟨⟨lt_ok rfl,rfl,rfl,rfl,rfl,rfl,⟨⟨rfl,(bad (n16 (b16 (.inl (fs a h2))))).1⟩,rfl⟩,⟨⟨rfl,(bad (n16 (b16 (.inl (fs a h2))))).2⟩,rfl⟩,trivial⟩,trivial⟩ ⟨pP,v16 (b16 (.inl (fs a h2))),trivial⟩ trivial,rfl,rfl⟩,fun h=>(nomatch h)⟩⟩
   obtain⟨⟨g1,g2,g3,g4⟩,hjN⟩:(OK=true∧S a a=true∧S b b=true∧eqP a b=false)∧j≤N:=hj
   with_unfolding_all refine⟨fun h1=>?_,fun h1=>?_⟩
   ·have h1:(j:Int) < N:=ltT h1
    have ej:(j:Int).toNat=j:=Int.toNat_natCast j
    have hjN1:j+1≤N:=by omega
    have hμ : N - (j+1) < N - j:=by omega
    have hkl:=keepL_le a b C j
    have wj:PV.val (.int .i64 (IntKind.i64.wrap ((j:Int)+1)))=PV.val (.int .i64 ((j+1:Nat):Int)):=by
     rw [wrap64 (by omega) (by omega)]
     rfl
    have e3:eqP (C j) a=false→eqP (C j) b=false→keepL a b C (j+1)=keepL a b C j++[C j]:=fun h h'=>by rw [keepL,h,h'];rfl
    have e4:(!eqP (C j) a&&!eqP (C j) b)=false→keepL a b C (j+1)=keepL a b C j:=fun h=>by rw [keepL,h];exact List.append_nil _
    have hn0:(!eqP (C (j:Int).toNat) a&&!eqP (C (j:Int).toNat) b)=false→(keepL a b C (j+1)).length=(keepL a b C j).length:=fun h=>by
     rw [ej] at h
     rw [e4 h]
    have hr0:(!eqP (C (j:Int).toNat) a&&!eqP (C (j:Int).toNat) b)=false→∀i,i < (keepL a b C j).length→(vertP (keepL a b C (j+1)) i).cells=(vertP (keepL a b C j) i).cells:=fun h=>by
     rw [ej] at h
     rw [e4 h]
     exact fun _ _=>rfl
    have hnA:eqP (C (j:Int).toNat) a=false→eqP (C (j:Int).toNat) b=false→(keepL a b C (j+1)).length=(keepL a b C j).length+1:=fun h h'=>by
     rw [ej] at h h'
     rw [e3 h h',List.length_append]
     rfl
    have hr1:eqP (C (j:Int).toNat) a=false→eqP (C (j:Int).toNat) b=false→∀r:Nat→List PV,r 0=(C (j:Int).toNat).cells→∀i,i < (keepL a b C j).length+1→(vertP (keepL a b C (j+1)) i).cells=apd (keepL a b C j).length (fun i=>(vertP (keepL a b C j) i).cells) r i:=fun h h' r hr=>by
     rw [ej] at h h' hr
     rw [e3 h h']
     exact apd_p hr
    have k1:((keepL a b C j).length+1)*80≤140737488355328:=by omega
    have k2:(keepL a b C j).length+1≤9223372036854775807:=by omega
    have n1:∀x y:Bool,(!y)=false→(!x&&!y)=false:=fun x y h=>by rw [h,Bool.and_false]
    have n2:∀x y:Bool,(!x)=false→(!x&&!y)=false:=fun x y h=>by rw [h];rfl
    with_unfolding_all exact⟨⟨Int.natCast_nonneg j,h1⟩,fun h2=>⟨fun h3=>⟨⟨rfl,k1,k2⟩,⟨j+1,[some 0,some 1,some 2,some 3,some 4,some 5],⟨⟨g1,g2,g3,g4⟩,hjN1⟩,hμ,Wo ⟨⟨lt_ok rfl,rfl,rfl,rfl,rfl,rfl,rq,rq,rq,rq,rq,rq,rq,rq,rq,rq,rq,rq,⟨⟨rfl,rfl,fun _ _=>rfl⟩,rfl⟩,⟨⟨rfl,rfl,fun _ _=>rfl⟩,rfl⟩,trivial⟩,⟨lt_ok rfl,rfl,rfl,rfl,rfl,rfl,rq,rq,rq,rq,rq,rq,trivial⟩,⟨lt_ok rfl,rfl,rfl,rfl,rfl,rfl,rq,rq,rq,rq,rq,rq,trivial⟩,⟨lt_ok rfl,rfl,rfl,rfl,rfl,rfl,rq,rq,trivial⟩,⟨lt_ok rfl,rfl,rfl,rfl,rfl,rfl,⟨⟨rfl,rfl,(hnA (neq _ h2) (neq _ h3)).symm,lt_ok rfl,_,rfl⟩,rfl⟩,rq,trivial⟩,⟨lt_ok rfl,rfl,rfl,rfl,rfl,(hnA (neq _ h2) (neq _ h3)),hr1 (neq _ h2) (neq _ h3) _ rfl⟩,trivial⟩ ⟨pP,pP,pP,pP,pP,⟨rfl,rfl,fun _ _=>rfl⟩,rfl,wj,trivial⟩ trivial⟩⟩,fun h3=>⟨j+1,[some 0,some 1,some 2,some 3,some 4,some 5],⟨⟨g1,g2,g3,g4⟩,hjN1⟩,hμ,Wo ⟨⟨lt_ok rfl,rfl,rfl,rfl,rfl,rfl,rq,rq,rq,rq,rq,rq,rq,rq,rq,rq,rq,rq,⟨⟨rfl,rfl,fun _ _=>rfl⟩,rfl⟩,⟨⟨rfl,rfl,fun _ _=>rfl⟩,rfl⟩,trivial⟩,⟨lt_ok rfl,rfl,rfl,rfl,rfl,rfl,rq,rq,rq,rq,rq,rq,trivial⟩,⟨lt_ok rfl,rfl,rfl,rfl,rfl,rfl,rq,rq,rq,rq,rq,rq,trivial⟩,⟨lt_ok rfl,rfl,rfl,rfl,rfl,rfl,rq,rq,trivial⟩,⟨lt_ok rfl,rfl,rfl,rfl,rfl,rfl,⟨⟨rfl,rfl,(hn0 (n1 _ _ h3)).symm,lt_ok rfl,_,rfl⟩,rfl⟩,rq,trivial⟩,⟨lt_ok rfl,rfl,rfl,rfl,rfl,(hn0 (n1 _ _ h3)),hr0 (n1 _ _ h3)⟩,trivial⟩ ⟨pP,pP,pP,pP,pP,⟨rfl,rfl,fun _ _=>rfl⟩,rfl,wj,trivial⟩ trivial⟩⟩,fun h2=>⟨fun h=>(nomatch h),fun _=>⟨j+1,[some 0,some 1,some 2,some 3,some 4,some 5],⟨⟨g1,g2,g3,g4⟩,hjN1⟩,hμ,Wo ⟨⟨lt_ok rfl,rfl,rfl,rfl,rfl,rfl,rq,rq,rq,rq,rq,rq,rq,rq,rq,rq,rq,rq,⟨⟨rfl,rfl,fun _ _=>rfl⟩,rfl⟩,⟨⟨rfl,rfl,fun _ _=>rfl⟩,rfl⟩,trivial⟩,⟨lt_ok rfl,rfl,rfl,rfl,rfl,rfl,rq,rq,rq,rq,rq,rq,trivial⟩,⟨lt_ok rfl,rfl,rfl,rfl,rfl,rfl,rq,rq,rq,rq,rq,rq,trivial⟩,⟨lt_ok rfl,rfl,rfl,rfl,rfl,rfl,rq,rq,trivial⟩,⟨lt_ok rfl,rfl,rfl,rfl,rfl,rfl,⟨⟨rfl,rfl,(hn0 (n2 _ _ h2)).symm,lt_ok rfl,_,rfl⟩,rfl⟩,rq,trivial⟩,⟨lt_ok rfl,rfl,rfl,rfl,rfl,(hn0 (n2 _ _ h2)),hr0 (n2 _ _ h2)⟩,trivial⟩ ⟨pP,pP,pP,pP,pP,⟨rfl,rfl,fun _ _=>rfl⟩,rfl,wj,trivial⟩ trivial⟩⟩⟩
   ·have h1:(N:Int)≤j:=ltF h1
    have hb0:BE=0:=by rw [e0,g1,g2,g3,g4];rfl
    have hBPk:keepL a b C j=BP:=by
     rw [show j=N by omega,e1,hb0]
     rfl
    have hl3:(keepL a b C j).length=BP.length:=by rw [hBPk]
    have hr3:∀i,i < (keepL a b C j).length→(vertP BP i).cells=(vertP (keepL a b C j) i).cells:=fun i _=>by rw [hBPk]
    have v69:PV.val (.int .i64 (((keepL a b C j).length:Nat):Int))=PV.val (goInt BP.length):=by
     rw [hBPk]
     rfl
    have hBl:BP.length≤14:=by
     have:=keepL_le a b C j
     rw [←hBPk]
     omega
    have hBall:∀i,i < BP.length→(vertP BP i).le 10000:=fun i hi=>by
     unfold vertP
     rw [List.getElem?_eq_getElem hi]
     exact keepL_all (j:=j) ha hb (fun i hi=>hCle i (by omega)) _ (by rw [hBPk];exact List.getElem_mem hi)
    clear hBPk
    with_unfolding_all refine⟨Nat,fun i=>i≤BP.length,fun i=>stOf [(3,.ptr 0 0 0 0),(6,.ptr 1 1 0 0),(9,.ptr 2 2 0 0),(68,.sl 3 3 0 BP.length),(69,.val (goInt BP.length)),(70,.val (goInt i))] [⟨31,14,0,true,false,1,fun _=>regC lo hi k c l o⟩,⟨37,2,1,true,false,1,fun _=>[.val (.slice none 0 0),.val (.slice none 0 0)]⟩,⟨37,2,2,true,false,1,fun _=>[.sl 3 3 0 BP.length,.sl 4 4 0 (lnkI S (vertP BP) BP.length i).length]⟩,⟨25,6,3,false,false,BP.length,fun t=>(vertP BP t).cells⟩,⟨46,2,4,false,false,(lnkI S (vertP BP) BP.length i).length,fun t=>cellsQ (qL (lnkI S (vertP BP) BP.length i) t)⟩] 5 [],fun i=>BP.length - i,⟨0,[some 0,some 3,some 4,some 5,none],Nat.zero_le _,Wo ⟨⟨lt_ok rfl,rfl,rfl,rfl,rfl,rfl,rq,rq,rq,rq,rq,rq,rq,rq,rq,rq,rq,rq,⟨⟨rfl,rfl,fun _ _=>rfl⟩,rfl⟩,⟨⟨rfl,rfl,fun _ _=>rfl⟩,rfl⟩,trivial⟩,⟨lt_ok rfl,rfl,rfl,rfl,rfl,rfl,rq,rq,trivial⟩,⟨lt_ok rfl,rfl,rfl,rfl,rfl,rfl,⟨⟨rfl,rfl,hl3,lt_ok rfl,_,rfl⟩,rfl⟩,⟨⟨rfl,rfl,rfl,rfl,lt_ok rfl⟩,rfl⟩,trivial⟩,⟨lt_ok rfl,rfl,rfl,rfl,rfl,hl3.symm,hr3⟩,⟨lt_ok rfl,rfl,rfl,rfl⟩,trivial⟩ ⟨pP,pP,pP,⟨rfl,rfl,hl3,lt_ok rfl,_,rfl⟩,v69,rfl,trivial⟩ trivial⟩,fun i hiB=>?_⟩
    replace hiB:i≤BP.length:=hiB
    with_unfolding_all refine⟨fun h1=>?_,fun h1=>?_⟩
    ·have h1:(i:Int) < BP.length:=ltT h1
     have ei:(i:Int).toNat=i:=Int.toNat_natCast i
     have hj0:(lnkI S (vertP BP) BP.length i++lnkJ S (vertP BP) i 0).length=(lnkI S (vertP BP) BP.length i).length:=by rw [lnkJ,List.append_nil]
     have hr0:∀t,t < (lnkI S (vertP BP) BP.length i).length→cellsQ (qL (lnkI S (vertP BP) BP.length i++lnkJ S (vertP BP) i 0) t)=cellsQ (qL (lnkI S (vertP BP) BP.length i) t):=fun t _=>by rw [lnkJ,List.append_nil]
     have w14:PV.val (.int .i64 (IntKind.i64.wrap ((i:Int)+1)))=PV.val (goInt (i+1+0)):=by
      rw [wrap64 (by omega) (by omega)]
      rfl
     have cx:∀x y:PtS,x=y→PV.val (.bool x.x.s)=PV.val (.bool y.x.s)∧PV.val (.string x.x.b)=PV.val (.string y.x.b)∧PV.val (.string x.x.c)=PV.val (.string y.x.c)∧PV.val (.bool x.y.s)=PV.val (.bool y.y.s)∧PV.val (.string x.y.b)=PV.val (.string y.y.b)∧PV.val (.string x.y.c)=PV.val (.string y.y.c):=fun x y h=>by rw [h];exact⟨rfl,rfl,rfl,rfl,rfl,rfl⟩
     have c6:=cx (vertP BP (0+(i:Int).toNat)) (vertP BP i) (by rw [Nat.zero_add,ei])
     with_unfolding_all refine⟨⟨Int.natCast_nonneg i,h1⟩,Nat,fun d=>i+1+d≤BP.length,fun d=>stOf [(3,.ptr 0 0 0 0),(6,.ptr 1 1 0 0),(9,.ptr 2 2 0 0),(12,.val (goInt i)),(13,.ptr 5 5 0 0),(14,.val (goInt (i+1+d))),(68,.sl 3 3 0 BP.length),(69,.val (goInt BP.length)),(70,.val (goInt i))] [⟨31,14,0,true,false,1,fun _=>regC lo hi k c l o⟩,⟨37,2,1,true,false,1,fun _=>[.val (.slice none 0 0),.val (.slice none 0 0)]⟩,⟨37,2,2,true,false,1,fun _=>[.sl 3 3 0 BP.length,.sl 4 4 0 (lnkI S (vertP BP) BP.length i++lnkJ S (vertP BP) i d).length]⟩,⟨25,6,3,false,false,BP.length,fun t=>(vertP BP t).cells⟩,⟨46,2,4,false,false,(lnkI S (vertP BP) BP.length i++lnkJ S (vertP BP) i d).length,fun t=>cellsQ (qL (lnkI S (vertP BP) BP.length i++lnkJ S (vertP BP) i d) t)⟩,⟨25,6,5,true,false,1,fun _=>(vertP BP i).cells⟩] 6 [],fun d=>BP.length - d,⟨0,[some 0,some 1,some 2,some 3,some 4,some 5],by show i+1+0≤BP.length;omega,Wo ⟨⟨lt_ok rfl,rfl,rfl,rfl,rfl,rfl,rq,rq,rq,rq,rq,rq,rq,rq,rq,rq,rq,rq,⟨⟨rfl,rfl,fun _ _=>rfl⟩,rfl⟩,⟨⟨rfl,rfl,fun _ _=>rfl⟩,rfl⟩,trivial⟩,⟨lt_ok rfl,rfl,rfl,rfl,rfl,rfl,rq,rq,trivial⟩,⟨lt_ok rfl,rfl,rfl,rfl,rfl,rfl,⟨pP,rfl⟩,⟨⟨rfl,rfl,hj0.symm,lt_ok rfl,_,rfl⟩,rfl⟩,trivial⟩,⟨lt_ok rfl,rfl,rfl,rfl,rfl,rfl,fun _ _=>rfl⟩,⟨lt_ok rfl,rfl,rfl,rfl,rfl,hj0,hr0⟩,⟨lt_ok rfl,rfl,rfl,rfl,rfl,rfl,⟨c6.1,rfl⟩,⟨c6.2.1,rfl⟩,⟨c6.2.2.1,rfl⟩,⟨c6.2.2.2.1,rfl⟩,⟨c6.2.2.2.2.1,rfl⟩,⟨c6.2.2.2.2.2,rfl⟩,trivial⟩,trivial⟩ ⟨pP,pP,pP,rfl,pP,w14,pP,rfl,rfl,trivial⟩ trivial⟩,fun d hd=>?_⟩
     have hdB:i+1+d≤BP.length:=hd
     with_unfolding_all refine⟨fun h2=>?_,fun h2=>?_⟩
     ·have h2:(i:Int)+1+d < BP.length:=ltT h2
      have eT:0+((i:Int)+1+d).toNat=i+1+d:=by omega
      have hdB1:i+1+(d+1)≤BP.length:=by omega
      have hμd:BP.length - (d+1) < BP.length - d:=by omega
      have hbI:=lnkI_le S (vertP BP) BP.length i
      have hbJ:=lnkJ_le S (vertP BP) i d
      have hii:i*BP.length≤14*14:=Nat.mul_le_mul (by omega) hBl
      have hlj:(lnkI S (vertP BP) BP.length i++lnkJ S (vertP BP) i d).length≤14*14+14:=by
       rw [List.length_append]
       omega
      have wd:PV.val (.int .i64 (IntKind.i64.wrap ((i:Int)+1+d+1)))=PV.val (goInt ((i:Int)+1+((d+1:Nat):Int))):=by
       rw [wrap64 (by omega) (by omega)]
       exact congrArg (fun z=>PV.val (.int .i64 z)) (by omega)
      have hs:∀t b,t=i+1+d→seeB lo hi k (fun i=>[.rs 6 (pn c i) (pg c i)]) l (fun i=>cellsO (ow o i)) (vertP BP i) (vertP BP t)=b→S (vertP BP i) (vertP BP (i+1+d))=b:=fun t b h h'=>by rw [←h,←hSN];exact h'
      have e3:S (vertP BP i) (vertP BP (i+1+d))=true→lnkI S (vertP BP) BP.length i++lnkJ S (vertP BP) i (d+1)=lnkI S (vertP BP) BP.length i++lnkJ S (vertP BP) i d++[((i:Int),((i+1+d:Nat):Int))]:=fun h=>by rw [lnkJ,h,List.append_assoc];rfl
      have e4:S (vertP BP i) (vertP BP (i+1+d))=false→lnkI S (vertP BP) BP.length i++lnkJ S (vertP BP) i (d+1)=lnkI S (vertP BP) BP.length i++lnkJ S (vertP BP) i d:=fun h=>by
       rw [lnkJ,h]
       exact congrArg _ (List.append_nil _)
      have hn0:S (vertP BP i) (vertP BP (i+1+d))=false→(lnkI S (vertP BP) BP.length i++lnkJ S (vertP BP) i (d+1)).length=(lnkI S (vertP BP) BP.length i++lnkJ S (vertP BP) i d).length:=fun h=>by rw [e4 h]
      have hr0:S (vertP BP i) (vertP BP (i+1+d))=false→∀t,t < (lnkI S (vertP BP) BP.length i++lnkJ S (vertP BP) i d).length→cellsQ (qL (lnkI S (vertP BP) BP.length i++lnkJ S (vertP BP) i (d+1)) t)=cellsQ (qL (lnkI S (vertP BP) BP.length i++lnkJ S (vertP BP) i d) t):=fun h=>by
       rw [e4 h]
       exact fun _ _=>rfl
      have hnA:S (vertP BP i) (vertP BP (i+1+d))=true→(lnkI S (vertP BP) BP.length i++lnkJ S (vertP BP) i (d+1)).length=(lnkI S (vertP BP) BP.length i++lnkJ S (vertP BP) i d).length+1:=fun h=>by
       rw [e3 h,List.length_append]
       rfl
      have hr1:S (vertP BP i) (vertP BP (i+1+d))=true→∀r:Nat→List PV,r 0=[.val (.int .i64 (i:Int)),.val (.int .i64 ((i:Int)+1+d))]→∀t,t < (lnkI S (vertP BP) BP.length i++lnkJ S (vertP BP) i d).length+1→cellsQ (qL (lnkI S (vertP BP) BP.length i++lnkJ S (vertP BP) i (d+1)) t)=apd (lnkI S (vertP BP) BP.length i++lnkJ S (vertP BP) i d).length (fun t=>cellsQ (qL (lnkI S (vertP BP) BP.length i++lnkJ S (vertP BP) i d) t)) r t:=fun h r hr=>by
       rw [e3 h]
       refine apd_q (hr.trans ?_)
       rw [cellsQ,show(i:Int)+1+d=((i+1+d:Nat):Int) by omega]
      have k1:((lnkI S (vertP BP) BP.length i++lnkJ S (vertP BP) i d).length+1)*16≤140737488355328:=by omega
      have k2:(lnkI S (vertP BP) BP.length i++lnkJ S (vertP BP) i d).length+1≤9223372036854775807:=by omega
      have pk1:isPk 10000 (vertP BP i).v:=⟨_,rfl,hBall i (by omega)⟩
      have pk2:isPk 10000 (vertP BP (0+((i:Int)+1+d).toNat)).v:=⟨_,rfl,hBall _ (by omega)⟩
      with_unfolding_all exact⟨⟨by omega,h2⟩,⟨hrg3,pk1,pk2⟩,fun h3=>⟨⟨rfl,k1,k2⟩,⟨d+1,[some 0,some 1,some 2,some 3,some 4,some 5],hdB1,hμd,Wo ⟨⟨lt_ok rfl,rfl,rfl,rfl,rfl,rfl,rq,rq,rq,rq,rq,rq,rq,rq,rq,rq,rq,rq,⟨⟨rfl,rfl,fun _ _=>rfl⟩,rfl⟩,⟨⟨rfl,rfl,fun _ _=>rfl⟩,rfl⟩,trivial⟩,⟨lt_ok rfl,rfl,rfl,rfl,rfl,rfl,rq,rq,trivial⟩,⟨lt_ok rfl,rfl,rfl,rfl,rfl,rfl,⟨pP,rfl⟩,⟨⟨rfl,rfl,(hnA (hs (0+((i:Int)+1+d).toNat) _ eT h3)).symm,lt_ok rfl,_,rfl⟩,rfl⟩,trivial⟩,⟨lt_ok rfl,rfl,rfl,rfl,rfl,rfl,fun _ _=>rfl⟩,⟨lt_ok rfl,rfl,rfl,rfl,rfl,(hnA (hs (0+((i:Int)+1+d).toNat) _ eT h3)),hr1 (hs (0+((i:Int)+1+d).toNat) _ eT h3) _ rfl⟩,⟨lt_ok rfl,rfl,rfl,rfl,rfl,rfl,rq,rq,rq,rq,rq,rq,trivial⟩,trivial⟩ ⟨pP,pP,pP,rfl,pP,wd,pP,rfl,rfl,trivial⟩ trivial⟩⟩,fun h3=>⟨d+1,[some 0,some 1,some 2,some 3,some 4,some 5],hdB1,hμd,Wo ⟨⟨lt_ok rfl,rfl,rfl,rfl,rfl,rfl,rq,rq,rq,rq,rq,rq,rq,rq,rq,rq,rq,rq,⟨⟨rfl,rfl,fun _ _=>rfl⟩,rfl⟩,⟨⟨rfl,rfl,fun _ _=>rfl⟩,rfl⟩,trivial⟩,⟨lt_ok rfl,rfl,rfl,rfl,rfl,rfl,rq,rq,trivial⟩,⟨lt_ok rfl,rfl,rfl,rfl,rfl,rfl,⟨pP,rfl⟩,⟨⟨rfl,rfl,(hn0 (hs (0+((i:Int)+1+d).toNat) _ eT h3)).symm,lt_ok rfl,_,rfl⟩,rfl⟩,trivial⟩,⟨lt_ok rfl,rfl,rfl,rfl,rfl,rfl,fun _ _=>rfl⟩,⟨lt_ok rfl,rfl,rfl,rfl,rfl,(hn0 (hs (0+((i:Int)+1+d).toNat) _ eT h3)),hr0 (hs (0+((i:Int)+1+d).toNat) _ eT h3)⟩,⟨lt_ok rfl,rfl,rfl,rfl,rfl,rfl,rq,rq,rq,rq,rq,rq,trivial⟩,trivial⟩ ⟨pP,pP,pP,rfl,pP,wd,pP,rfl,rfl,trivial⟩ trivial⟩⟩
     ·have h2:(BP.length:Int)≤(i:Int)+1+d:=ltF h2
      have hd:d=BP.length - (i+1):=by omega
      have hiB1:i+1≤BP.length:=by omega
      have hμi:BP.length - (i+1) < BP.length - i:=by omega
      have wi:PV.val (.int .i64 (IntKind.i64.wrap ((i:Int)+1)))=PV.val (goInt ((i+1:Nat):Int)):=by
       rw [wrap64 (by omega) (by omega)]
       rfl
      have e3:lnkI S (vertP BP) BP.length (i+1)=lnkI S (vertP BP) BP.length i++lnkJ S (vertP BP) i d:=by rw [hd,lnkI]
      have hn0:(lnkI S (vertP BP) BP.length (i+1)).length=(lnkI S (vertP BP) BP.length i++lnkJ S (vertP BP) i d).length:=by rw [e3]
      have hr0:∀t,t < (lnkI S (vertP BP) BP.length i++lnkJ S (vertP BP) i d).length→cellsQ (qL (lnkI S (vertP BP) BP.length (i+1)) t)=cellsQ (qL (lnkI S (vertP BP) BP.length i++lnkJ S (vertP BP) i d) t):=fun t _=>by rw [e3]
      with_unfolding_all exact⟨i+1,[some 0,some 1,some 2,some 3,some 4],hiB1,hμi,Wo ⟨⟨lt_ok rfl,rfl,rfl,rfl,rfl,rfl,rq,rq,rq,rq,rq,rq,rq,rq,rq,rq,rq,rq,⟨⟨rfl,rfl,fun _ _=>rfl⟩,rfl⟩,⟨⟨rfl,rfl,fun _ _=>rfl⟩,rfl⟩,trivial⟩,⟨lt_ok rfl,rfl,rfl,rfl,rfl,rfl,rq,rq,trivial⟩,⟨lt_ok rfl,rfl,rfl,rfl,rfl,rfl,⟨pP,rfl⟩,⟨⟨rfl,rfl,hn0.symm,lt_ok rfl,_,rfl⟩,rfl⟩,trivial⟩,⟨lt_ok rfl,rfl,rfl,rfl,rfl,rfl,fun _ _=>rfl⟩,⟨lt_ok rfl,rfl,rfl,rfl,rfl,hn0,hr0⟩,trivial⟩ ⟨pP,pP,pP,pP,rfl,wi,trivial⟩ trivial⟩
    ·have h1:(BP.length:Int)≤i:=ltF h1
     have hi2:i=BP.length:=by omega
     have e5:lnkI S (vertP BP) BP.length i=BL:=by rw [e2,hi2]
     have v7:PV.val (.int .i64 0)=PV.val (.int .i64 BE):=by rw [hb0]
     have rp:∀t,t < BP.length→(vertP BP t).cells=(vertP BP (0+t)).cells:=fun t _=>by rw [Nat.zero_add]
     have rl:∀t,t < BL.length→cellsQ (qL BL t)=cellsQ (qL (lnkI S (vertP BP) BP.length i) (0+t)):=fun t _=>by rw [e5,Nat.zero_add]
     with_unfolding_all exact⟨[some 1],stOf [(6,.ptr 0 0 0 0),(7,.val (.int .i64 BE))] [⟨37,2,0,true,false,1,fun _=>[.rs 6 BP.length (fun i=>(vertP BP i).cells),.rs 2 BL.length (fun i=>cellsQ (qL BL i))]⟩] 1 [],Wo ⟨⟨lt_ok rfl,rfl,rfl,rfl,rfl,rfl,⟨⟨by simp,_,rfl,rfl,rfl,rfl,rp⟩,rfl⟩,⟨⟨by simp,_,rfl,rfl,rfl,congrArg List.length e5,rl⟩,rfl⟩,trivial⟩,trivial⟩ ⟨pP,v7,trivial⟩ trivial,rfl,rfl⟩
 ·cases e
end Go.Proofs
namespace Go.Proofs
open Go Go.Ex Go.Num
set_option maxRecDepth 100000
def exLo:PtS:=⟨⟨false,⟨#[]⟩,⟨#[]⟩⟩,⟨false,⟨#[]⟩,⟨#[]⟩⟩⟩
def exPt (x y:Int):PtS:=ptQ (mkRat x 1) (mkRat y 1)
def exHi:PtS:=exPt 10 10
def exLs:List PV:=(exPt 4 4).cells++((exPt 6 4).cells++((exPt 6 6).cells++(exPt 4 6).cells))
def exC:Nat→List PV:=fun _=>[.rs 6 4 (fun i=>chunk 6 exLs (0+i))]
def exO:Nat→List PV:=fun _=>cellsO (0,0,0)
def exBP:List PtS:=[exPt 0 5,exPt 10 5,exPt 4 4,exPt 4 6,exPt 6 4,exPt 6 6]
def exQ:List (Int×Int):=[(0,2),(0,3),(1,4),(1,5),(2,3),(2,4),(3,5),(4,5)]
def exG:Nat→List PV:=fun i=>(vertP exBP i).cells
def exH:Nat→List PV:=fun i=>cellsQ (qL exQ i)
theorem x1:okB exLo exHi 1 exC 1 exO (segV (exPt 0 5) (exPt 10 5))=true:=by kernel_rfl
theorem x2:seeB exLo exHi 1 exC 1 exO (exPt 0 5) (exPt 10 5)=false:=by kernel_rfl
theorem x3:(vertC exLo exHi 1 exC 1 exO).length=4:=by kernel_rfl
theorem x4:(List.range 3).all (fun i=>!eqP (cornP exLo exHi 1 exC 1 exO (i+1)) (cornP exLo exHi 1 exC 1 exO i))=true:=by kernel_rfl
theorem x5:bErr exLo exHi 1 exC 1 exO (exPt 0 5) (exPt 10 5)=0:=by kernel_rfl
theorem x6:bPts exLo exHi 1 exC 1 exO (exPt 0 5) (exPt 10 5)=exBP:=by kernel_rfl
theorem x7:bLks exLo exHi 1 exC 1 exO (exPt 0 5) (exPt 10 5)=exQ:=by kernel_rfl
theorem x8:okT exLo exHi 1 exC 1 exO 6 exG 8 exH=true:=by kernel_rfl
theorem x9:tgtR exLo exHi 1 exC 1 exO 6 exG 8 exH=exQ:=by kernel_rfl
end Go.Proofs
namespace Go.Proofs
open Go Go.Ex Go.Num
set_option maxRecDepth 100000
theorem exP (x y:Int) (hx:x.natAbs < 256) (hy:y.natAbs < 256):(exPt x y).le 10000:=by
 have q:∀z:Int,z.natAbs < 256→QB 1 (mkRat z 1):=fun z hz=>by
  have e:mkRat z 1=(z:Rat):=by simp [Rat.mkRat_one]
  rw [e]
  exact⟨hz,show(1:Nat) < 256^1 by decide⟩
 exact⟨(q x hx).rs.mono (by decide),(q y hy).rs.mono (by decide)⟩
theorem exPk (x y:Int) (hx:x.natAbs < 256) (hy:y.natAbs < 256):isPk 10000 (exPt x y).v:=⟨_,rfl,exP x y hx hy⟩
theorem exCL:isCL 10000 1 exC:=⟨fun i _=>⟨rfl,fun i hi=>by
  match i,hi with
  |0,_=>exact⟨rfl,exP 4 4 (by decide) (by decide)⟩
  |1,_=>exact⟨rfl,exP 6 4 (by decide) (by decide)⟩
  |2,_=>exact⟨rfl,exP 6 6 (by decide) (by decide)⟩
  |3,_=>exact⟨rfl,exP 4 6 (by decide) (by decide)⟩
  |i+4,h=>exact absurd h (show ¬i+4 < 4 by omega),show(4:Nat)≤140737488355328 by decide⟩,by decide⟩
def exR:List PV:=regC exLo exHi 1 exC 1 exO
theorem exRg:isRg 10000 exR:=⟨rfl,⟨⟨⟨by decide,by decide⟩,by decide,by decide⟩,exP 10 10 (by decide) (by decide)⟩,exCL,fun i _=>rfl,by decide⟩
def c53:List PV→Option Ans
 |[]=>some ⟨none,.agg exR,[]⟩
 |_=>none
theorem ok53:funcOk {} Tryz.f53 0=true:=by kernel_rfl
theorem f53:FnOk Tryz.prog 53 c53:=by
 refine FnOk.ofW orders (mkE_ok (l:=[(52,c52)]) (own:=[]) (inl:=[]) (by simp [f52]) (by simp)) Tryz.func53 {} 0 ok53 fun args r e=>?_
 unfold c53 at e
 split at e
 ·cases e
  refine⟨by simp,fun hm=>?_⟩
  refine⟨[],stOf [] [] 0 [],Wo trivial trivial trivial,?_⟩
  have b:∀x:Int,0≤x∧x < 100→(-9223372036854775808≤x∧x < 9223372036854775808):=fun x h=>by omega
  have z1:∀(g h:Nat→List PV),g 0=h 0→∀i,i < 1→g i=h (0+i):=fun g h e i hi=>by
   obtain rfl:i=0:=by omega
   exact e
  with_unfolding_all exact⟨⟨b 10 (by decide),b 10 (by decide)⟩,⟨b 4 (by decide),b 4 (by decide)⟩,⟨b 6 (by decide),b 4 (by decide)⟩,⟨b 6 (by decide),b 6 (by decide)⟩,⟨b 4 (by decide),b 6 (by decide)⟩,[some 0],stOf [(0,.ptr 0 0 0 0)] [⟨31,14,0,true,false,1,fun _=>exR⟩] 1 [],Wo ⟨⟨lt_ok rfl,rfl,rfl,rfl,rfl,rfl,rq,rq,rq,rq,rq,rq,rq,rq,rq,rq,rq,rq,⟨⟨by simp,_,rfl,rfl,rfl,rfl,z1 _ _ rfl⟩,rfl⟩,⟨⟨by simp,_,rfl,rfl,rfl,rfl,z1 _ _ rfl⟩,rfl⟩,trivial⟩,trivial⟩ ⟨pP,trivial⟩ trivial,rfl,rfl⟩
 ·cases e
theorem exIsPL:isPL 10000 6 exG:=⟨fun i hi=>by
 match i,hi with
 |0,_=>exact⟨rfl,exP 0 5 (by decide) (by decide)⟩
 |1,_=>exact⟨rfl,exP 10 5 (by decide) (by decide)⟩
 |2,_=>exact⟨rfl,exP 4 4 (by decide) (by decide)⟩
 |3,_=>exact⟨rfl,exP 4 6 (by decide) (by decide)⟩
 |4,_=>exact⟨rfl,exP 6 4 (by decide) (by decide)⟩
 |5,_=>exact⟨rfl,exP 6 6 (by decide) (by decide)⟩
 |i+6,h=>exact absurd h (show ¬i+6 < 6 by omega),by decide⟩
theorem exIsQL:isQL 8 exH:=⟨fun _ _=>rfl,by decide⟩
theorem rowQ {r:Nat→List PV} (h0:r 0=exH 0) (h1:r 1=exH 1) (h2:r 2=exH 2) (h3:r 3=exH 3) (h4:r 4=exH 4) (h5:r 5=exH 5) (h6:r 6=exH 6) (h7:r 7=exH 7):∀i,i < 8→r i=exH i:=fun i hi=>by
 match i,hi with
 |0,_=>exact h0
 |1,_=>exact h1
 |2,_=>exact h2
 |3,_=>exact h3
 |4,_=>exact h4
 |5,_=>exact h5
 |6,_=>exact h6
 |7,_=>exact h7
 |i+8,h=>exact absurd h (show ¬i+8 < 8 by omega)
theorem rowQ1 {r:Nat→List PV} (h:∀i,i < 8→r i=exH i):isQL 8 r:=⟨fun i hi=>by
 have e:=h i hi
 rw [prs,e]
 rfl,by decide⟩
theorem eqQ_refl (x:Int×Int):Num.eqQ x x=true:=by
 unfold Num.eqQ
 rw [beq_self_eq_true,beq_self_eq_true]
 rfl
theorem rowQ2 {g r:Nat→List PV} {n:Nat} (hn:n=8) (hg:∀i,i < 8→g i=exH i) (h:∀i,i < 8→r i=exH i):(decide (n=8)&&!anyP (fun i=>!Num.eqQ (prs g i) (prs r i)) n)=true:=by
 subst hn
 rw [anyP_false.2 fun i hi=>by rw [prs,prs,hg i hi,h i hi,eqQ_refl];rfl]
 rfl
def c13:List PV→Option Ans
 |[]=>some ⟨none,.val (.bool true),[]⟩
 |_=>none
def D13:Opt:={ perm:=atTs [(2,(.rd 1 (.rd 2 (.mk 0 (.mk 3 (.rd 4 (.rd 5 (.rd 6 .nil)))))))),(3,(.rd 1 (.rd 2 (.alt 0 (.alt 3 (.rd 4 (.rd 5 (.rd 6 (.mk 7 .nil)))) (.mk 7 (.mk 3 (.rd 4 (.rd 5 (.rd 6 .nil)))))) (.mk 7 (.mk 0 (.mk 3 (.rd 4 (.rd 5 (.rd 6 .nil)))))))))),(4,(.rd 1 (.mk 0 (.mk 2 (.rd 3 (.rd 4 (.rd 5 .nil)))))))],join:=fun c=>match c with | .region 3 _ _=>true|_=>false }
theorem ok13:funcOk D13.toOrd Tryz.f13 0=true:=by kernel_rfl
theorem f13:FnOk Tryz.prog 13 c13:=by
 refine FnOk.ofW orders (mkE_ok (l:=[(52,c52),(53,c53),(21,c21),(14,c14),(18,c18),(54,c54),(44,c44)]) (own:=[]) (inl:=[]) (by simp [f52,f53,f21,f14,f18,f54,f44]) (by simp)) Tryz.func13 D13 0 ok13 fun args r e=>?_
 unfold c13 at e
 split at e
 ·cases e
  refine⟨by simp,fun hm=>?_⟩
  refine⟨[],stOf [] [] 0 [],Wo trivial trivial trivial,?_⟩
  have b:∀x:Int,0≤x∧x < 100→(-9223372036854775808≤x∧x < 9223372036854775808):=fun x h=>by omega
  have pa:isPk 10000 (exPt 0 5).v:=exPk 0 5 (by decide) (by decide)
  have pb:isPk 10000 (exPt 10 5).v:=exPk 10 5 (by decide) (by decide)
  have pd:∀i,i+1 < (vertC exLo exHi 1 exC 1 exO).length→eqP (cornP exLo exHi 1 exC 1 exO (i+1)) (cornP exLo exHi 1 exC 1 exO i)=false:=fun i hi=>by
   rw [x3] at hi
   have:=List.all_eq_true.1 x4 i (List.mem_range.2 (by omega))
   simpa using this
  have pc:(vertC exLo exHi 1 exC 1 exO).length≤12:=by rw [x3];decide
  with_unfolding_all refine⟨⟨b 0 (by decide),b 5 (by decide)⟩,⟨b 10 (by decide),b 5 (by decide)⟩,⟨exRg,pa,pb⟩,?_⟩
  have v3:PV.val (.bool (seeB exLo exHi 1 exC 1 exO (exPt 0 5) (exPt 10 5)))=PV.val (.bool false):=by rw [x2]
  have v4:PV.val (.int .i64 (okW (okB exLo exHi 1 exC 1 exO (segV (exPt 0 5) (exPt 10 5)))))=PV.val (.int .i64 0):=by
   rw [x1]
   rfl
  have v6:PV.val (.int .i64 (bErr exLo exHi 1 exC 1 exO (exPt 0 5) (exPt 10 5)))=PV.val (.int .i64 0):=by rw [x5]
  have w1:(bPts exLo exHi 1 exC 1 exO (exPt 0 5) (exPt 10 5)).length=6:=by
   rw [x6]
   rfl
  have w2:∀i,i < 6→exG i=(vertP (bPts exLo exHi 1 exC 1 exO (exPt 0 5) (exPt 10 5)) i).cells:=fun i _=>by
   rw [x6]
   rfl
  have w3:(bLks exLo exHi 1 exC 1 exO (exPt 0 5) (exPt 10 5)).length=8:=by
   rw [x7]
   rfl
  have w4:∀i,i < 8→exH i=cellsQ (qL (bLks exLo exHi 1 exC 1 exO (exPt 0 5) (exPt 10 5)) i):=fun i _=>by
   rw [x7]
   rfl
  with_unfolding_all refine⟨Unit,fun _=>True,fun _=>stOf [(0,.val (.bool false)),(3,.val (.bool false)),(4,.val (.int .i64 0)),(5,.ptr 0 0 0 0),(6,.val (.int .i64 0))] [⟨37,2,0,true,false,1,fun _=>[.rs 6 6 exG,.rs 2 8 exH]⟩] 1 [],⟨⟨⟨⟨⟨exRg,pa,pb⟩,pc,pd⟩,⟨(),[some 2],trivial,Wo ⟨⟨lt_ok rfl,rfl,rfl,rfl,rfl,rfl,⟨⟨rfl,w1,w2⟩,rfl⟩,⟨⟨rfl,w3,w4⟩,rfl⟩,trivial⟩,trivial⟩ ⟨rfl,v3,v4,pP,v6,trivial⟩ trivial⟩⟩,⟨⟨⟨exRg,pa,pb⟩,pc,pd⟩,⟨(),[some 2],trivial,Wo ⟨⟨lt_ok rfl,rfl,rfl,rfl,rfl,rfl,⟨⟨rfl,w1,w2⟩,rfl⟩,⟨⟨rfl,w3,w4⟩,rfl⟩,trivial⟩,trivial⟩ ⟨rfl,v3,v4,pP,v6,trivial⟩ trivial⟩⟩⟩,⟨⟨⟨exRg,pa,pb⟩,pc,pd⟩,⟨(),[some 2],trivial,Wo ⟨⟨lt_ok rfl,rfl,rfl,rfl,rfl,rfl,⟨⟨rfl,w1,w2⟩,rfl⟩,⟨⟨rfl,w3,w4⟩,rfl⟩,trivial⟩,trivial⟩ ⟨rfl,v3,v4,pP,v6,trivial⟩ trivial⟩⟩⟩,fun _ _=>?_⟩
  have F3:(okW (okT exLo exHi 1 exC 1 exO 6 exG 8 exH)==0)=true:=by
   rw [x8]
   rfl
  have F6:eqP (vertP exBP 2) (exPt 4 4)=true:=by kernel_rfl
  have ht:(tgtR exLo exHi 1 exC 1 exO 6 exG 8 exH).length=8:=by
   rw [x9]
   rfl
  have hg:∀i,i < 8→cellsQ (qL (tgtR exLo exHi 1 exC 1 exO 6 exG 8 exH) i)=exH i:=fun i _=>by
   rw [x9]
   rfl
  have qt:isQL (tgtR exLo exHi 1 exC 1 exO 6 exG 8 exH).length (fun i=>cellsQ (qL (tgtR exLo exHi 1 exC 1 exO 6 exG 8 exH) i)):=by
   rw [ht]
   exact rowQ1 hg
  have v0:∀B,B=true→PV.val (.bool B)=PV.val (.bool true):=fun B h=>by rw [h]
  have one:(0==(0:Int))=true:=rfl
  with_unfolding_all exact⟨⟨exRg,exIsPL,exIsQL⟩,⟨fun h1=>⟨fun h2=>⟨fun h3=>⟨fun h4=>⟨fun h5=>⟨⟨by decide,by decide⟩,⟨b 4 (by decide),b 4 (by decide)⟩,⟨fun h6=>⟨⟨exIsQL,rowQ1 (rowQ rfl rfl rfl rfl rfl rfl rfl rfl)⟩,⟨fun h7=>⟨⟨qt,rowQ1 (rowQ rfl rfl rfl rfl rfl rfl rfl rfl)⟩,[],stOf [(0,.val (.bool true))] [] 0 [],Wo trivial ⟨v0 _ (rowQ2 ht hg (rowQ rfl rfl rfl rfl rfl rfl rfl rfl)),trivial⟩ trivial,rfl,rfl⟩,fun h=>absurd (h.symm.trans (rowQ2 rfl (fun _ _=>rfl) (rowQ rfl rfl rfl rfl rfl rfl rfl rfl))) (by decide)⟩⟩,fun h=>absurd (h.symm.trans F6) (by decide)⟩⟩,fun h=>absurd (h.symm.trans rfl) (by decide)⟩,fun h=>absurd (h.symm.trans rfl) (by decide)⟩,fun h=>absurd (h.symm.trans F3) (by decide)⟩,fun h=>absurd (h.symm.trans one) (by decide)⟩,fun h=>absurd (h.symm.trans one) (by decide)⟩⟩
 ·cases e
end Go.Proofs
namespace Go.Num
open Go Go.Ex Go.Proofs
theorem nbr_eq (n:Nat) (p:Nat→PtS) (m:Nat) (q:Nat→Int×Int) (z:Int):nbrR n p m q z=nbr n p m q z:=by
 unfold nbr nbrR
 cases h:okMap n p m q with
 |false=>rfl
 |true =>
  have hl:=h
  unfold okMap at hl
  rw [Bool.and_eq_true] at hl
  rw [nbL_eq hl.2]
theorem con_eq (n:Nat) (p:Nat→PtS) (m:Nat) (q:Nat→Int×Int) (a b:Int):conR n p m q a b=(okMap n p m q&&(insB n a&&insB n b)&&conB q m a b):=by
 unfold conR
 cases h:okMap n p m q with
 |false=>rfl
 |true =>
  have hl:=h
  unfold okMap at hl
  rw [Bool.and_eq_true,Bool.and_eq_true] at hl
  have hn:n≤1000:=of_decide_eq_true hl.1.1
  cases ha:insB n a with
  |false=>rfl
  |true =>
   cases hb:insB n b with
   |false=>rfl
   |true =>
    have in2:∀z,insB n z=true→0≤z∧z < n:=fun z h=>by
     unfold insB at h
     rw [Bool.and_eq_true] at h
     exact⟨of_decide_eq_true h.1,of_decide_eq_true h.2⟩
    rw [rnd_con hl.2 hn (in2 _ ha) (in2 _ hb)]
theorem okT_eq (lo hi:PtS) (k:Nat) (c:Nat→List PV) (l:Nat) (o:Nat→List PV) (n:Nat) (g:Nat→List PV) (m:Nat) (h:Nat→List PV):okTR lo hi k c l o n (pts g) m (prs h)=okT lo hi k c l o n g m h:=by
 unfold okTR okT
 rw [reg_iff]
theorem tgt_eq (lo hi:PtS) (k:Nat) (c:Nat→List PV) (l:Nat) (o:Nat→List PV) (n:Nat) (g:Nat→List PV) (m:Nat) (h:Nat→List PV):tgtRR lo hi k c l o n (pts g) m (prs h)=tgtR lo hi k c l o n g m h:=by
 unfold tgtRR tgtR
 rw [okT_eq,selQ_tgt]
theorem same_Z (L:List Int):(decide (L.length=L.length)&&!anyP (fun i=>!(zz (fun i=>cZ L i) i==zz (fun i=>cZ L i) i)) L.length)=true:=by
 rw [decide_eq_true rfl,anyP_false.2 fun i _=>by rw [beq_self_eq_true];rfl]
 rfl
theorem same_Q (L:List (Int×Int)):(decide (L.length=L.length)&&!anyP (fun i=>!eqQ (prs (fun i=>cellsQ (qL L i)) i) (prs (fun i=>cellsQ (qL L i)) i)) L.length)=true:=by
 rw [decide_eq_true rfl,anyP_false.2 fun i _=>by
  unfold eqQ
  rw [beq_self_eq_true,beq_self_eq_true]
  rfl]
 rfl
end Go.Num
namespace Go.Proofs
open Go Go.Ex Go.Num
set_option maxRecDepth 100000
def c12n:List PV→Option Ans
 |[p,.val (.slice none 0 0)]=>c12 [p,.rs 6 0 fun _=>[]]
 |_=>none
theorem f12n:FnOk Tryz.prog 12 c12n:=fun args r e=>by
 unfold c12n at e
 split at e
 ·exact nil_ans (f12 _ r e)
 ·cases e
def c10:List PV→Option Ans
 |[.agg [.val (.bool s1),.val (.string b1),.val (.string c1),.val (.bool s2),.val (.string b2),.val (.string c2),.val (.bool s3),.val (.string b3),.val (.string c3),.val (.bool s4),.val (.string b4),.val (.string c4),.rs 1 k c,.rs 3 l o],.agg [.rs 6 n g,.rs 2 m h],.val (.int .i64 a),.val (.int .i64 b)]=>some ⟨some ((PtS.le 140737488355328 (PtS.mk ⟨s1,b1,c1⟩ ⟨s2,b2,c2⟩)∧PtS.le 140737488355328 (PtS.mk ⟨s3,b3,c3⟩ ⟨s4,b4,c4⟩))∧isCL 140737488355328 k c∧isOL l o∧isPL 140737488355328 n g∧isQL m h),.val (.bool true),[]⟩
 |_=>none
def D10:Opt:={ join:=fun c=>match c with | .region 8 _ _=>true|_=>false }
theorem ok10:funcOk D10.toOrd Tryz.f10 4=true:=by kernel_rfl
theorem f10:FnOk Tryz.prog 10 c10:=by
 refine FnOk.ofW orders (mkE_ok (l:=[(12,c12n),(33,c33),(13,c13),(39,c39),(40,c40),(35,c35),(41,c41),(18,c18),(42,c42),(43,c43),(44,c44)]) (own:=[]) (inl:=[]) (by simp [f12n,f33,f13,f39,f40,f35,f41,f18,f42,f43,f44]) (by simp)) Tryz.func10 D10 4 ok10 fun args r e=>?_
 unfold c10 at e
 split at e
 ·rename_i s1 b1 c1 s2 b2 c2 s3 b3 c3 s4 b4 c4 k c l o n g m h a b
  cases e
  refine⟨by simp,fun hm=>?_⟩
  obtain⟨⟨hlo,hhi⟩,⟨hc,hk⟩,⟨ho,hl⟩,hg,hq⟩:=hm _ rfl
  clear hm
  obtain⟨lo,hlo'⟩:∃p,p=(PtS.mk ⟨s1,b1,c1⟩ ⟨s2,b2,c2⟩):=⟨_,rfl⟩
  obtain⟨hi,hhi'⟩:∃p,p=(PtS.mk ⟨s3,b3,c3⟩ ⟨s4,b4,c4⟩):=⟨_,rfl⟩
  have hc1:∀i,i < k→[.rs 6 (pn c i) (pg c i)]=c i:=fun i hi=>(hc i hi).1.symm
  have ho1:∀i,i < l→cellsO (ow o i)=o i:=fun i hi=>(ho i hi).symm
  refine⟨[],stOf [(0,.agg (regC (PtS.mk ⟨s1,b1,c1⟩ ⟨s2,b2,c2⟩) (PtS.mk ⟨s3,b3,c3⟩ ⟨s4,b4,c4⟩) k c l o)),(1,.agg [.rs 6 n (fun i=>(pts g i).cells),.rs 2 m (fun i=>cellsQ (prs h i))]),(2,.val (.int .i64 a)),(3,.val (.int .i64 b))] [] 0 [],Wo trivial ⟨⟨rfl,rfl,rfl,rfl,rfl,rfl,rfl,rfl,rfl,rfl,rfl,rfl,⟨rfl,rfl,hc1⟩,⟨rfl,rfl,ho1⟩,trivial⟩,⟨⟨rfl,rfl,fun i hi=>(hg.1 i hi).1.symm⟩,⟨rfl,rfl,fun i hi=>(hq.1 i hi).symm⟩,trivial⟩,rfl,rfl,trivial⟩ trivial,?_⟩
  rw [←hlo'] at hlo ⊢
  rw [←hhi'] at hhi ⊢
  clear hlo' hhi'
  have hX:isRg 140737488355328 (regC lo hi k c l o):=⟨rfl,⟨hlo,hhi⟩,⟨fun i hi=>⟨rfl,(hc i hi).2⟩,hk⟩,fun _ _=>rfl,hl⟩
  have p0:isPL 140737488355328 0 fun _=>[]:=⟨fun i hi=>absurd hi (Nat.not_lt_zero i),Nat.zero_le _⟩
  have pL:isPL 140737488355328 n (fun i=>(pts g i).cells):=⟨fun i hi=>⟨rfl,(hg.1 i hi).2⟩,hg.2⟩
  have hqm:=hq.2
  generalize hqq:prs h=q at *
  have hql:isQL m (fun i=>cellsQ (q i)):=⟨fun _ _=>rfl,hqm⟩
  have lim:(decide (30 < n)||decide (440 < m)||anyP (fun i=>bigP (pts (fun i=>(pts g i).cells) i)) n)=false→isPL 12 n (fun i=>(pts g i).cells):=fun h=>by
   simp only [Bool.or_eq_false_iff] at h
   exact bigL_pl h.2 pL
  have lim2:grtA (regC lo hi k c l o) 0 (fun _=>[])=false→isRg 12 (regC lo hi k c l o):=fun h=>by
   unfold grtA at h
   rw [Bool.or_eq_false_iff] at h
   exact grtF_rg h.1 hX
  obtain⟨NB,hNB⟩:∃L,L=nbr n (pts (fun i=>(pts g i).cells)) m (prs (fun i=>cellsQ (q i))) a:=⟨_,rfl⟩
  obtain⟨ER,hER⟩:∃e,e=errI (okMap n (pts (fun i=>(pts g i).cells)) m (prs (fun i=>cellsQ (q i)))) n a:=⟨_,rfl⟩
  obtain⟨CB,hCB⟩:∃e,e=(okMap n (pts (fun i=>(pts g i).cells)) m (prs (fun i=>cellsQ (q i)))&&(insB n a&&insB n b)&&conB (prs (fun i=>cellsQ (q i))) m a b):=⟨_,rfl⟩
  obtain⟨EC,hEC⟩:∃e,e=errC (okMap n (pts (fun i=>(pts g i).cells)) m (prs (fun i=>cellsQ (q i)))) n a b:=⟨_,rfl⟩
  obtain⟨TR,hTR⟩:∃e,e=tgtR lo hi k (fun i=>[.rs 6 (pn c i) (pg c i)]) l (fun i=>cellsO (ow o i)) n (fun i=>(pts g i).cells) m (fun i=>cellsQ (q i)):=⟨_,rfl⟩
  obtain⟨OE,hOE⟩:∃e,e=okW (okT lo hi k (fun i=>[.rs 6 (pn c i) (pg c i)]) l (fun i=>cellsO (ow o i)) n (fun i=>(pts g i).cells) m (fun i=>cellsQ (q i))):=⟨_,rfl⟩
  have e11:nbrR n (pts (fun i=>(pts g i).cells)) m (prs (fun i=>cellsQ (q i))) a=NB:=by rw [hNB,nbr_eq]
  have e15:PV.val (.bool (conR n (pts (fun i=>(pts g i).cells)) m (prs (fun i=>cellsQ (q i))) a b))=PV.val (.bool CB):=by rw [hCB,con_eq]
  have e19:tgtRR lo hi k (fun i=>[.rs 6 (pn c i) (pg c i)]) l (fun i=>cellsO (ow o i)) n (pts (fun i=>(pts g i).cells)) m (prs (fun i=>cellsQ (q i)))=TR:=by rw [hTR,tgt_eq]
  have e20:PV.val (.int .i64 (okW (okTR lo hi k (fun i=>[.rs 6 (pn c i) (pg c i)]) l (fun i=>cellsO (ow o i)) n (pts (fun i=>(pts g i).cells)) m (prs (fun i=>cellsQ (q i))))))=PV.val (.int .i64 OE):=by rw [hOE,okT_eq]
  have e10:PV.val (.int .i64 (errI (okMap n (pts (fun i=>(pts g i).cells)) m (prs (fun i=>cellsQ (q i)))) n a))=PV.val (.int .i64 ER):=by rw [hER]
  have e13:PV.val (.bool (okMap n (pts (fun i=>(pts g i).cells)) m (prs (fun i=>cellsQ (q i)))&&(insB n a&&insB n b)&&conB (prs (fun i=>cellsQ (q i))) m a b))=PV.val (.bool CB):=by rw [hCB]
  have e14:PV.val (.int .i64 (errC (okMap n (pts (fun i=>(pts g i).cells)) m (prs (fun i=>cellsQ (q i)))) n a b))=PV.val (.int .i64 EC):=by rw [hEC]
  have e18:PV.val (.int .i64 (okW (okT lo hi k (fun i=>[.rs 6 (pn c i) (pg c i)]) l (fun i=>cellsO (ow o i)) n (fun i=>(pts g i).cells) m (fun i=>cellsQ (q i)))))=PV.val (.int .i64 OE):=by rw [hOE]
  have e9:=hNB.symm
  have e17:=hTR.symm
  have lN:NB.length≤140737488355328:=by
   rw [hNB,nbr]
   cases (okMap n (pts (fun i=>(pts g i).cells)) m (prs (fun i=>cellsQ (q i)))&&insB n a) with
   |false=>exact Nat.zero_le _
   |true =>
    show(nbS a (prs (fun i=>cellsQ (q i))) m).length≤_
    rw [nbS,srtZ_length]
    exact Nat.le_trans (nbL_le _ _ _) hqm
  have lT:TR.length≤140737488355328:=by
   rw [hTR,tgtR]
   cases okT lo hi k (fun i=>[.rs 6 (pn c i) (pg c i)]) l (fun i=>cellsO (ow o i)) n (fun i=>(pts g i).cells) m (fun i=>cellsQ (q i)) with
   |false=>exact Nat.zero_le _
   |true=>exact Nat.le_trans (tgtL_le _ _ _) hqm
  clear hNB hER hCB hEC hTR hOE
  with_unfolding_all refine⟨⟨hX,p0⟩,fun h1=>⟨pL,fun h2=>⟨[],stOf [(8,.val (.bool true))] [] 0 [],Wo trivial ⟨rfl,trivial⟩ trivial,rfl,rfl⟩,fun h2=>?_⟩,fun h1=>⟨fun _=>⟨[],stOf [(8,.val (.bool true))] [] 0 [],Wo trivial ⟨rfl,trivial⟩ trivial,rfl,rfl⟩,fun h=>(nomatch h)⟩⟩
  have pM:=(lim h2).mono (show 12≤10000 by decide)
  have pM4:=(lim h2).mono (show 12≤4294967296 by decide)
  have pX:=(lim2 h1).mono (show 12≤10000 by decide)
  clear lim lim2 h1 h2
  with_unfolding_all refine⟨⟨pM4,hql⟩,⟨pM4,hql⟩,⟨pM4,hql⟩,⟨pM4,hql⟩,⟨pX,pM,hql⟩,Unit,fun _=>True,fun _=>stOf [(8,.val (.bool false)),(9,.rs 1 NB.length (fun i=>cZ NB i)),(10,.val (.int .i64 ER)),(11,.rs 1 NB.length (fun i=>cZ NB i)),(12,.val (.int .i64 ER)),(13,.val (.bool CB)),(14,.val (.int .i64 EC)),(15,.val (.bool CB)),(16,.val (.int .i64 EC)),(17,.rs 2 TR.length (fun i=>cellsQ (qL TR i))),(18,.val (.int .i64 OE)),(19,.rs 2 TR.length (fun i=>cellsQ (qL TR i))),(20,.val (.int .i64 OE))] [] 0 [],?_,fun _ _=>?_⟩
  ·with_unfolding_all refine⟨⟨pX,pM,hql⟩,(),[],trivial,Wo trivial ⟨rfl,⟨rfl,congrArg List.length e9,fun i _=>congrArg (fun L=>cZ L i) e9.symm⟩,e10,⟨rfl,congrArg List.length e11,fun i _=>congrArg (fun L=>cZ L i) e11.symm⟩,e10,e13,e14,e15,e14,⟨rfl,congrArg List.length e17,fun i _=>congrArg (fun L=>cellsQ (qL L i)) e17.symm⟩,e18,⟨rfl,congrArg List.length e19,fun i _=>congrArg (fun L=>cellsQ (qL L i)) e19.symm⟩,e20,trivial⟩ trivial⟩
  ·have zN:isZL NB.length (fun i=>cZ NB i):=⟨fun _ _=>rfl,lN⟩
   have zT:isQL TR.length (fun i=>cellsQ (qL TR i)):=⟨fun _ _=>rfl,lT⟩
   have nI:∀x:Int,(x==x) = !true→False:=fun x h=>by
    rw [beq_self_eq_true] at h
    cases h
   have nB:∀x:Bool,(x==x) = !true→False:=fun x h=>by
    rw [beq_self_eq_true] at h
    cases h
   have nS:∀x:Bool,x=true→x = !true→False:=fun x h h'=>by
    rw [h] at h'
    cases h'
   with_unfolding_all exact⟨⟨zN,zN⟩,fun _=>⟨fun _=>⟨fun _=>⟨fun _=>⟨⟨zT,zT⟩,fun _=>⟨fun _=>⟨[],stOf [(8,.val (.bool true))] [] 0 [],Wo trivial ⟨rfl,trivial⟩ trivial,rfl,rfl⟩,fun h=>(nI _ h).elim⟩,fun h=>(nS _ (same_Q TR) h).elim⟩,fun h=>(nI _ h).elim⟩,fun h=>(nB _ h).elim⟩,fun h=>(nI _ h).elim⟩,fun h=>(nS _ (same_Z NB) h).elim⟩
 ·cases e
end Go.Proofs
namespace Go.Ex
open Go Go.RowKit
section
variable {H:Type} {enc:TypeId×Value→H} {P:Program} {w:World}
def TypFs (T:TypeId→List PV→Prop):List Field→List PV→Prop
 |[],ps=>ps=[]
 |f::fs,ps=>∃qs rs,ps=qs++rs∧T f.type qs∧TypFs T fs rs
def Typ (P:Program):Nat→TypeId→List PV→Prop
 |0,_,_=>False
 |d+1,t,ps=>match P.underlying t with
  |some .bool=>∃b,ps=[.val (.bool b)]
  |some (.int k)=>∃z,ps=[.val (.int k z)]∧(Lit.int k z).wf=true
  |some .string=>∃s:ByteArray,ps=[.val (.string s)]∧s.size≤140737488355328
  |some (.slice e)=>∃m g,ps=[.rs (P.cellsOf e) m g]∧m≤140737488355328∧∀i,i < m→Typ P d e (g i)
  |some (.struct fs)=>TypFs (Typ P d) fs.toList ps
  |_=>False
def tile (P:Program):Nat→List Field→Option Nat
 |o,[]=>some o
 |o,f::fs=>if f.offset=o then tile P (o+P.cellsOf f.type) fs else none
def plainT (P:Program):Nat→TypeId→Bool
 |0,_=>false
 |d+1,t=>match P.underlying t with
  |some .bool|some (.int _)|some .string=>true
  |some (.slice e)=>plainT P d e&&decide (0 < P.cellsOf e)&&decide (0 < P.bytesOf e)
  |some (.struct fs)=>fs.toList.all (fun f=>plainT P d f.type)&&decide (tile P 0 fs.toList=some (P.cellsOf t))
  |_=>false
def Pt (A:Nat→Prop) (w:World) (ps:List PV) (cs:List Value):Prop:=ps.length=cs.length∧∀(i:Nat) p u,ps[i]? = some p→cs[i]? = some u→R0 A w p u∧cellOk p=true
theorem Pt.append {A:Nat→Prop} {ps qs:List PV} {cs ds:List Value} (h:Pt A w ps cs) (k:Pt A w qs ds):Pt A w (ps++qs) (cs++ds):=by
 refine⟨by rw [List.length_append,List.length_append,h.1,k.1],fun i p u hp hu=>?_⟩
 rw [List.getElem?_append] at hp hu
 rw [←h.1] at hu
 split at hp
 ·rename_i hi
  rw [if_pos hi] at hu
  exact h.2 i p u hp hu
 ·rename_i hi
  rw [if_neg hi] at hu
  exact k.2 _ p u hp hu
theorem fields_typ {A:Nat→Prop} {d n:Nat} {cs:List Value} (hn:cs.length=n):∀{fs:List Field} {o:Nat},tile P o fs=some n →
  (∀f∈fs,∃ps,Typ P d f.type ps∧Pt A w ps ((cs.drop f.offset).take (P.cellsOf f.type)))→∃ps,TypFs (Typ P d) fs ps∧Pt A w ps (cs.drop o)
 |[],o,h,_=>by
  cases h
  refine⟨[],rfl,?_,fun i p u hp=>by simp at hp⟩
  rw [List.length_drop]
  simp only [List.length_nil]
  omega
 |f::fs,o,h,hf=>by
  unfold tile at h
  split at h
  ·rename_i e
   obtain⟨rs,h1,h2⟩:=fields_typ hn h fun f hf'=>hf f (List.mem_cons_of_mem _ hf')
   obtain⟨qs,h3,h4⟩:=hf f List.mem_cons_self
   refine⟨qs++rs,⟨qs,rs,rfl,h3,h1⟩,?_⟩
   rw [e] at h4
   have:=h4.append h2
   rw [←List.drop_drop,List.take_append_drop] at this
   exact this
  ·cases h
theorem trod_typ {A:Nat→Prop} (hA:∀k,k < w.heap.size→A k) {base:Nat} {spare:Nat→Bool} {held:Bool}:∀(d fuel:Nat) {t:TypeId} {cs:List Value} {x:DataW H×List MemPlace},plainT P d t=true →
  DataW.trod enc P w base spare held fuel t cs=some x→(∀n∈x.1.weights P t,n≤reachBytes)→∃ps,Typ P d t ps∧Pt A w ps cs
 |0,_,_,_,_,hp,_,_=>by simp [plainT] at hp
 |d+1,fuel,t,cs,x,hp,h,hw=>by
  have one:∀v:Value,v.oneCell'=true→Pt A w [.val v] [v]:=fun v hv=>⟨rfl,fun i p u h1 h2=>by
   match i with
   |0=>cases h1;cases h2;exact⟨.val v,hv⟩
   |i+1=>simp at h1⟩
  unfold plainT at hp
  unfold Typ
  split at hp
  ·rename_i ht
   obtain⟨b,rfl,rfl⟩:=DataW.trod_bool ht h
   exact⟨_,⟨b,rfl⟩,one _ rfl⟩
  ·rename_i k ht
   obtain⟨b,rfl,rfl,hb⟩:=DataW.trod_int ht h
   exact⟨_,⟨b,rfl,hb⟩,one _ rfl⟩
  ·rename_i ht
   obtain⟨b,rfl,rfl,hb⟩:=DataW.trod_string ht h
   have:=hw b.data.toList.length (by simp [DataW.weights])
   have e:b.data.toList.length=b.size:=Array.length_toList
   refine⟨_,⟨b,rfl,?_⟩,one _ rfl⟩
   rw [e] at this
   unfold reachBytes at this
   omega
  ·rename_i e ht
   simp only [Bool.and_eq_true,decide_eq_true_eq] at hp
   obtain⟨⟨hpe,hce⟩,hbe⟩:=hp
   rcases Deep.open_slice ht h with ⟨rfl,rfl⟩|⟨a,len,cap,m,n,D,Pl,rfl,hb,hl,hm,hme,rfl,hel⟩
   ·refine⟨[.rs (P.cellsOf e) 0 fun _=>[]],⟨0,_,rfl,Nat.zero_le _,fun i hi=>absurd hi (Nat.not_lt_zero i)⟩,rfl,fun i p u h1 h2=>?_⟩
    match i with
    |0=>cases h1;cases h2;exact⟨.rs _ _ _ _ _ (fun _ _=>undef) (fun i hi=>absurd hi (Nat.not_lt_zero i)) (Nat.le_refl _) (Nat.zero_le _) (fun i f p hi=>absurd hi (Nat.not_lt_zero i)) (fun i f p hi=>absurd hi (Nat.not_lt_zero i)),rfl⟩
    |i+1=>simp at h1
   ·have hlm:len≤m:=by rw [hme];split<;>omega
    have hsz:((List.range len).map D).length*P.bytesOf e≤reachBytes:=by
     refine Nat.le_trans (Nat.mul_le_mul_right _ (Nat.le_add_right _ ((List.range (m - len)).map fun j=>D (len+j)).length)) (hw _ ?_)
     simp [DataW.weights,ht]
    rw [List.length_map,List.length_range] at hsz
    have hlen:len≤140737488355328:=by
     have:=Nat.le_mul_of_pos_right len hbe
     unfold reachBytes at hsz
     omega
    have hall:∀ds:List (DataW H),∀y∈ds,∀k∈y.weights P e,k∈DataW.weightsAll P e ds:=fun ds=>by
     induction ds with
     |nil=>intro y hy;simp at hy
     |cons z r ih =>
      intro y hy k hk
      rw [DataW.weightsAll,List.mem_append]
      rcases List.mem_cons.1 hy with rfl|hy
      ·exact .inl hk
      ·exact .inr (ih y hy k hk)
    have key:∀i,i < len→∃z:List PV×List Value,Typ P d e z.1∧Pt A w z.1 z.2∧z.2.length=P.cellsOf e∧∀f,f < P.cellsOf e→w.cell? ((a.add (i*P.cellsOf e)).add f)=z.2[f]?:=fun i hi=>by
     obtain⟨cs',h1,h2⟩:=hel i (by omega)
     obtain⟨ps,k1,k2⟩:=trod_typ hA d n hpe h2 (fun k hk=>hw k (by
      simp only [DataW.weights,ht,List.mem_cons,List.mem_append]
      exact .inr (.inl (hall _ (D i) (List.mem_map.2 ⟨i,List.mem_range.2 hi,rfl⟩) k hk))))
     obtain⟨_,c2,c3⟩:=World.cells?_some h1
     exact⟨(ps,cs'),k1,k2,c2,c3⟩
    obtain⟨z,hz⟩:=Deep.choose_lt key
    have hspot:0 < len→a.spot=none:=fun h0=>by
     obtain⟨_,_,c1,c2⟩:=hz 0 h0
     have:=c2 0 hce
     rw [List.getElem?_eq_getElem (by omega),Nat.zero_mul] at this
     unfold Addr.add at this
     rw [if_pos rfl,if_pos rfl] at this
     unfold World.cell? at this
     split at this
     ·split at this
      ·cases this
      ·rename_i hs
       cases hsp:a.spot with
       |none=>rfl
       |some _=>rw [hsp] at hs;exact absurd rfl hs
     ·cases this
    have hadd:∀i f,0 < len→(a.add (i*P.cellsOf e)).add f=⟨a.block,a.off+(i*P.cellsOf e+f),none⟩:=fun i f h0=>by
     have hs:=hspot h0
     obtain⟨b,o,s⟩:=a
     cases hs
     rw [WideShapes.add_plain,WideShapes.add_plain,Nat.add_assoc]
    have hcell:∀i f p,i < len→(z i).1[f]? = some p→∃u,(z i).2[f]? = some u∧w.cell? ⟨a.block,a.off+(i*P.cellsOf e+f),none⟩=some u:=fun i f p hi hp=>by
     obtain⟨_,⟨k1,_⟩,k3,k4⟩:=hz i hi
     obtain⟨hf,_⟩:=List.getElem?_eq_some_iff.1 hp
     have:=k4 f (by omega)
     rw [hadd i f (by omega)] at this
     rw [this]
     exact⟨(z i).2[f]'(by omega),List.getElem?_eq_getElem _,List.getElem?_eq_getElem _⟩
    refine⟨[.rs (P.cellsOf e) len fun i=>(z i).1],⟨len,_,rfl,hlen,fun i hi=>(hz i hi).1⟩,rfl,fun i p u h1 h2=>?_⟩
    match i with
    |i+1=>simp at h1
    |0 =>
     cases h1
     cases h2
     refine⟨.rs _ _ _ _ _ (fun i f=>((z i).2[f]?).getD undef) (fun i hi=>?_) hl hm (fun i f p hi hp=>?_) (fun i f p hi hp=>?_),rfl⟩
     ·obtain⟨_,⟨k1,k2⟩,k3,_⟩:=hz i hi
      refine⟨k1.trans k3,fun p hp=>?_⟩
      obtain⟨f,hf⟩:=List.getElem?_of_mem hp
      obtain⟨hf',_⟩:=List.getElem?_eq_some_iff.1 hf
      exact(k2 f p _ hf (List.getElem?_eq_getElem (show f < (z i).2.length by omega))).2
     ·obtain⟨u,e1,e2⟩:=hcell i f p hi hp
      obtain⟨b,o,s⟩:=a
      have hs:s=none:=hspot (show 0 < len by omega)
      subst hs
      refine⟨b,o,rfl,hA _ ?_,?_⟩
      ·exact Nat.lt_of_not_le fun hge=>by
        unfold World.cell? at e2
        rw [show w.heap[(⟨b,o+(i*P.cellsOf e+f),none⟩:Addr).block]? = none from Array.getElem?_eq_none hge] at e2
        cases e2
      ·rw [e2,e1]
       rfl
     ·obtain⟨u,e1,e2⟩:=hcell i f p hi hp
      rw [e1]
      exact((hz i hi).2.1.2 f p u hp e1).1
  ·rename_i fs ht
   simp only [Bool.and_eq_true,decide_eq_true_eq,List.all_eq_true] at hp
   obtain⟨xs,n,rfl,rfl,hl,hlen,hf⟩:=DataW.trod_struct ht h
   obtain⟨ps,h1,h2⟩:=fields_typ (P:=P) (A:=A) (w:=w) (d:=d) hl hp.2 fun f hm=>by
    obtain⟨i,hi⟩:=List.getElem?_of_mem hm
    have hi':fs[i]? = some f:=by rw [←hi,Array.getElem?_toList]
    have h1:=hf i f hi'
    obtain⟨hil,_⟩:=List.getElem?_eq_some_iff.1 hi
    have hil':i < xs.length:=by rw [hlen];simpa using hil
    rw [List.getElem?_eq_getElem hil'] at h1
    refine trod_typ hA d n (hp.1 f hm) h1 fun k hk=>hw k ?_
    have e2:DataW.weights P t (.agg (xs.map (·.1)))=DataW.weightsEach P (fs.toList.map (·.type)) (xs.map (·.1)):=by simp only [DataW.weights,ht]
    show k∈DataW.weights P t (.agg (xs.map (·.1)))
    rw [e2]
    exact DataW.weights_mem_each (j:=i) (t:=f.type) (d:=xs[i].1) (by rw [List.getElem?_map,hi];rfl) (by rw [List.getElem?_map,List.getElem?_eq_getElem hil'];rfl) k hk
   exact⟨ps,h1,h2⟩
  ·cases hp
def TypV (P:Program) (d:Nat) (t:TypeId) (p:PV):Prop:=match P.underlying t with
 |some (.struct _)=>∃xs,p=mkAgg xs∧Typ P d t xs
 |_=>Typ P d t [p]
def TypAll (P:Program) (d:Nat):List TypeId→List PV→Prop
 |[],ps=>ps=[]
 |t::ts,ps=>∃p qs,ps=p::qs∧TypV P d t p∧TypAll P d ts qs
theorem trod_typV {A:Nat→Prop} (hA:∀k,k < w.heap.size→A k) {base base':Nat} {spare:Nat→Bool} {held:Bool} {r:Reach} {d:Nat} {t:TypeId} {v:Value} {y:DataW H} {q:List MemPlace} (hp:plainT P d t=true)
  (h:DataW.Trod enc P w base spare held t v y q) (hv:Value.okWide P w r base' t v) (hw:∀n∈y.weights P t,n≤reachBytes):∃p,TypV P d t p∧R0 A w p v:=by
 obtain⟨fuel,h⟩:=h
 obtain⟨ps,h1,h2⟩:=trod_typ hA d fuel hp h hw
 have one:v.cells.toList=[v]→∃p,ps=[p]∧R0 A w p v:=fun e=>by
  rw [e] at h2
  match ps,h2 with
  |[p],h2=>exact⟨p,rfl,(h2.2 0 p v rfl rfl).1⟩
  |[],h2=>exact absurd h2.1 (by simp)
  |_::_::_,h2=>exact absurd h2.1 (by simp)
 unfold TypV
 match d,hp with
 |d+1,hp =>
  unfold plainT at hp
  split at hp
  ·rename_i ht
   obtain⟨b,rfl⟩:=WideShapes.okWide_bool ht hv
   obtain⟨p,rfl,hr⟩:=one rfl
   rw [ht]
   exact⟨p,h1,hr⟩
  ·rename_i k ht
   obtain⟨b,rfl⟩:=WideShapes.okWide_int ht hv
   obtain⟨p,rfl,hr⟩:=one rfl
   rw [ht]
   exact⟨p,h1,hr⟩
  ·rename_i ht
   obtain⟨b,rfl⟩:=WideShapes.okWide_string ht hv
   obtain⟨p,rfl,hr⟩:=one rfl
   rw [ht]
   exact⟨p,h1,hr⟩
  ·rename_i e ht
   obtain⟨a,len,cap,rfl⟩:=WideShapes.okWide_slice ht hv
   obtain⟨p,rfl,hr⟩:=one rfl
   rw [ht]
   exact⟨p,h1,hr⟩
  ·rename_i fs ht
   obtain⟨cs,rfl,_⟩:=WideShapes.okWide_struct ht hv
   rw [ht]
   have h2':Pt A w ps cs.toList:=h2
   exact⟨Ex.mkAgg ps,⟨ps,rfl,h1⟩,R0.mkAgg (by simpa using h2'.1) fun i p u hp hu=>(h2'.2 i p u hp (by rw [Array.getElem?_toList];exact hu)).1⟩
  ·cases hp
theorem trodAll_typ {A:Nat→Prop} (hA:∀k,k < w.heap.size→A k) {base base':Nat} {spare:Nat→Bool} {held:Bool} {r:Reach} {d:Nat}:∀{ts:List TypeId} {vs:List Value} {ds:List (DataW H)} {q:List MemPlace},(∀t∈ts,plainT P d t=true) →
  DataW.TrodAll enc P w base spare held ts vs ds q→(∀(j:Nat) t v,ts[j]? = some t→vs[j]? = some v→Value.okWide P w r base' t v)→(∀n∈DataW.weightsEach P ts ds,n≤reachBytes) →
  ∃ps,TypAll P d ts ps∧ps.length=vs.length∧∀(i:Nat) p v,ps[i]? = some p→vs[i]? = some v→R0 A w p v
 |[],[],_,_,_,_,_,_=>⟨[],rfl,rfl,fun i p v h=>by simp at h⟩
 |[],_::_,_,_,_,h,_,_=>h.elim
 |_::_,[],_,_,_,h,_,_=>h.elim
 |_::_,_::_,[],_,_,h,_,_=>h.elim
 |t::ts,v::vs,y::ds,q,hp,h,hv,hw=>by
  obtain⟨q1,q2,h1,h2,_⟩:=h
  obtain⟨p,k1,k2⟩:=trod_typV (A:=A) hA (hp t List.mem_cons_self) h1 (hv 0 t v rfl rfl) fun n hn=>hw n (by rw [DataW.weightsEach,List.mem_append];exact .inl hn)
  obtain⟨ps,k3,k4,k5⟩:=trodAll_typ hA (fun t ht=>hp t (List.mem_cons_of_mem _ ht)) h2 (fun j t' v' a b=>hv (j+1) t' v' (by simpa using a) (by simpa using b)) fun n hn=>hw n (by rw [DataW.weightsEach,List.mem_append];exact .inr hn)
  refine⟨p::ps,⟨p,ps,rfl,k1,k3⟩,by simp [k4],fun i p' v' a b=>?_⟩
  match i with
  |0=>cases a;cases b;exact k2
  |i+1=>exact k5 i p' v' (by simpa using a) (by simpa using b)
theorem trodAll_below (hl:laidOutB P=true) {w':World} (hb:Below w.heap.size w w'):∀{ts:List TypeId} {vs:List Value} {ds:List (DataW H)} {q:List MemPlace},(∀t∈ts,P.readableRec t=true∧t < P.types.size) →
  DataW.TrodAll enc P w 0 (fun _=>true) true ts vs ds q→(∀x∈q,x.block < w.heap.size)→DataW.TrodAll enc P w' 0 (fun b=>decide (b < w.heap.size)) true ts vs ds q
 |[],[],[],_,_,h,_=>h
 |[],[],_::_,_,_,h,_=>h.elim
 |[],_::_,_,_,_,h,_=>h.elim
 |_::_,[],_,_,_,h,_=>h.elim
 |_::_,_::_,[],_,_,h,_=>h.elim
 |t::ts,v::vs,y::ds,q,hp,h,hq=>by
  obtain⟨q1,q2,h1,h2,rfl⟩:=h
  exact⟨q1,q2,Below.trod hl (hp t List.mem_cons_self).1 (hp t List.mem_cons_self).2 h1 hb fun x hx=>hq x (List.mem_append.2 (.inl hx)),
   trodAll_below hl hb (fun t ht=>hp t (List.mem_cons_of_mem _ ht)) h2 fun x hx=>hq x (List.mem_append.2 (.inr hx)),rfl⟩
theorem law_contract (hl:laidOutB P=true) {f:FuncId} {fn:Func} {s:ChangeSpec} {d tb:Nat} {c:List PV→Option Ans} (hv:s.vars=[]) (hs:∀ds:List (DataW H),ds.length=fn.params.size→s.fn H ds={ results:=[.lit (.bool true)],args:=ds })
  (hr:fn.resultTypes = #[tb]) (ht:P.underlying tb=some .bool) (hp:(fn.params.toList.all fun t=>plainT P d t&&P.readableRec t&&decide (t < P.types.size))=true) (hc:FnOk P f c)
  (hd:∀ps,TypAll P d fn.params.toList ps→∃pre,c ps=some ⟨pre,.val (.bool true),[]⟩∧Met pre)
  (W:World) (base:Nat) (args:Array Value) (ds gs:List (DataW H)) (before:List MemPlace)
  (hval:∀(j:Nat) t v,fn.params[j]? = some t→args[j]? = some v→Value.okWide P W .any base t v)
  (hW:DataW.Whole enc P fn.params.toList s.vars false W args.toList ds gs before)
  (hsz:(DataW.weightsEach P (fn.params.toList++s.plain.varTypes P) (ds++gs)).all (·≤reachBytes)=true) :
  Calls P f args W fun e W'=>∃v,e=.returned v∧s.post enc P fn false true false false W args v W':=by
 have hW':=hW
 obtain⟨p,q,hA,hV,rfl,hfz,hnd⟩:=hW
 rw [hv] at hV
 obtain⟨rfl,rfl⟩:=ChangeShapes.trodVars_none hV
 have hp':∀t∈fn.params.toList,plainT P d t=true∧P.readableRec t=true∧t < P.types.size:=fun t h=>by
  have:=List.all_eq_true.1 hp t h
  simp only [Bool.and_eq_true,decide_eq_true_eq] at this
  exact⟨this.1.1,this.1.2,this.2⟩
 have hvt:s.plain.varTypes P=[]:=by
  unfold DataSpec.varTypes ChangeSpec.plain
  rw [hv]
  rfl
 rw [hvt,List.append_nil,List.append_nil] at hsz
 obtain⟨ps,h1,h2,h3⟩:=trodAll_typ (A:=fun k=>k < W.heap.size) (fun k h=>h) (fun t h=>(hp' t h).1) hA (fun j t v a b=>hval j t v (by rw [←Array.getElem?_toList];exact a) (by rw [←Array.getElem?_toList];exact b)) fun n hn=>by simpa using List.all_eq_true.1 hsz n hn
 obtain⟨pre,h4,h5⟩:=hd ps h1
 have hlt:=hW'.lt
 rw [List.append_nil] at hlt
 refine((hc ps _ h4).2 h5 (fun k=>k < W.heap.size) W args (fun k h=>h) (by simpa using h2) fun i p v a b=>h3 i p v a (by rw [Array.getElem?_toList];exact b)).mono fun e W' ⟨v,β,he,hres⟩=>?_
 refine⟨v,he,?_⟩
 have hv':v=.bool true:=hres.val.val_eq
 subst hv'
 have hdl:ds.length=fn.params.size:=by
  have:∀{ts:List TypeId} {vs:List Value} {ds:List (DataW H)} {q:List MemPlace},DataW.TrodAll enc P W 0 (fun _=>true) true ts vs ds q→ds.length=ts.length:=fun {ts}=>by
   induction ts with
   |nil =>
    intro vs ds q h
    match vs,ds,h with
    |[],[],_=>rfl
   |cons t ts ih =>
    intro vs ds q h
    match vs,ds,h with
    |v::vs,y::ds,h =>
     obtain⟨_,_,_,h2,_⟩:=h
     rw [List.length_cons,List.length_cons,ih h2]
  rw [this hA]
  simp
 have hb:=hres.below
 refine⟨ds,[],p++[],[],p,[],hW',?_,?_,?_,hb.frame _,fun h=>by cases h⟩
 ·rw [hs (ds++[]) (by rw [List.append_nil];exact hdl),hr]
  exact⟨[],[],⟨1,by simp [DataW.trod,Value.cells,ht]⟩,rfl,rfl⟩
 ·rw [hs (ds++[]) (by rw [List.append_nil];exact hdl),List.append_nil]
  exact trodAll_below hl hb (fun t h=>(hp' t h).2) hA hlt
 ·rw [hv,hs (ds++[]) (by rw [List.append_nil];exact hdl)]
  rfl
end
end Go.Ex
namespace Go.Proofs
open Go Go.Ex Go.Num
set_option maxRecDepth 100000
theorem cells25:Tryz.prog.cellsOf 25=6:=by kernel_rfl
theorem cells46:Tryz.prog.cellsOf 46=2:=by kernel_rfl
theorem typ_int {d t:Nat} {k:IntKind} {ps:List PV} (ht:Tryz.prog.underlying t=some (.int k)) (h:Typ Tryz.prog d t ps):∃z,ps=[.val (.int k z)]∧k.min≤z∧z≤k.max:=by
 match d,h with
 |d+1,h =>
  unfold Typ at h
  rw [ht] at h
  obtain⟨z,rfl,hz⟩:=h
  unfold Lit.wf at hz
  simp only [Bool.and_eq_true,decide_eq_true_eq] at hz
  exact⟨z,rfl,hz⟩
theorem typ_string {d t:Nat} {ps:List PV} (ht:Tryz.prog.underlying t=some .string) (h:Typ Tryz.prog d t ps):∃s:ByteArray,ps=[.val (.string s)]∧s.size≤140737488355328:=by
 match d,h with
 |d+1,h =>
  unfold Typ at h
  rw [ht] at h
  exact h
theorem typ_bool {d t:Nat} {ps:List PV} (ht:Tryz.prog.underlying t=some .bool) (h:Typ Tryz.prog d t ps):∃b,ps=[.val (.bool b)]:=by
 match d,h with
 |d+1,h =>
  unfold Typ at h
  rw [ht] at h
  exact h
theorem typ_struct {d t:Nat} {fs:Array Field} {ps:List PV} (ht:Tryz.prog.underlying t=some (.struct fs)) (h:Typ Tryz.prog d t ps):TypFs (Typ Tryz.prog (d - 1)) fs.toList ps:=by
 match d,h with
 |d+1,h =>
  unfold Typ at h
  rw [ht] at h
  exact h
theorem typ_slice {d t e:Nat} {ps:List PV} (ht:Tryz.prog.underlying t=some (.slice e)) (h:Typ Tryz.prog d t ps):∃m g,ps=[.rs (Tryz.prog.cellsOf e) m g]∧m≤140737488355328∧∀i,i < m→Typ Tryz.prog (d - 1) e (g i):=by
 match d,h with
 |d+1,h =>
  unfold Typ at h
  rw [ht] at h
  exact h
theorem typ_rat {d:Nat} {ps:List PV} (h:Typ Tryz.prog d 23 ps):∃r:RatS,ps=r.cells∧r.le 140737488355328:=by
 obtain⟨q1,r1,rfl,h1,q2,r2,rfl,h2,q3,r3,rfl,h3,rfl⟩:=typ_struct Tryz.underlying23 h
 obtain⟨s,rfl⟩:=typ_bool Tryz.underlying4 h1
 obtain⟨b,rfl,hb⟩:=typ_string Tryz.underlying9 h2
 obtain⟨c,rfl,hc⟩:=typ_string Tryz.underlying9 h3
 exact⟨⟨s,b,c⟩,rfl,hb,hc⟩
theorem typ_pt {d:Nat} {ps:List PV} (h:Typ Tryz.prog d 25 ps):∃p:PtS,ps=p.cells∧p.le 140737488355328:=by
 obtain⟨q1,r1,rfl,h1,q2,r2,rfl,h2,rfl⟩:=typ_struct Tryz.underlying25 h
 obtain⟨x,rfl,hx⟩:=typ_rat h1
 obtain⟨y,rfl,hy⟩:=typ_rat h2
 exact⟨⟨x,y⟩,rfl,hx,hy⟩
theorem typ_pts {d:Nat} {ps:List PV} (h:Typ Tryz.prog d 34 ps):∃n g,ps=[.rs 6 n g]∧isPL 140737488355328 n g:=by
 obtain⟨n,g,rfl,hn,hg⟩:=typ_slice Tryz.underlying34 h
 rw [cells25]
 refine⟨n,g,rfl,fun i hi=>?_,hn⟩
 obtain⟨p,hp,hl⟩:=typ_pt (hg i hi)
 unfold pts
 rw [hp]
 exact⟨rfl,hl⟩
theorem typ_pairs {d:Nat} {ps:List PV} (h:Typ Tryz.prog d 35 ps):∃m h',ps=[.rs 2 m h']∧isQL m h':=by
 obtain⟨n,g,rfl,hn,hg⟩:=typ_slice Tryz.underlying35 h
 rw [cells46]
 refine⟨n,g,rfl,fun i hi=>?_,hn⟩
 obtain⟨q1,r1,e,h1,q2,r2,rfl,h2,rfl⟩:=typ_struct Tryz.underlying46 (hg i hi)
 obtain⟨x,rfl,_⟩:=typ_int Tryz.underlying3 h1
 obtain⟨y,rfl,_⟩:=typ_int Tryz.underlying3 h2
 unfold prs
 rw [e]
 rfl
theorem typ_map {d:Nat} {p:PV} (h:TypV Tryz.prog d 37 p):∃n g m h',p=.agg [.rs 6 n g,.rs 2 m h']∧isPL 140737488355328 n g∧isQL m h':=by
 unfold TypV at h
 rw [Tryz.underlying37] at h
 obtain⟨xs,rfl,h⟩:=h
 obtain⟨q1,r1,rfl,h1,q2,r2,rfl,h2,rfl⟩:=typ_struct Tryz.underlying37 h
 obtain⟨n,g,rfl,hg⟩:=typ_pts h1
 obtain⟨m,h',rfl,hh⟩:=typ_pairs h2
 exact⟨n,g,m,h',rfl,hg,hh⟩
theorem cells34:Tryz.prog.cellsOf 34=1:=by kernel_rfl
theorem cells63:Tryz.prog.cellsOf 63=3:=by kernel_rfl
theorem typ_region {d:Nat} {p:PV} (h:TypV Tryz.prog d 31 p):∃(lo hi:PtS) (k:Nat) (c:Nat→List PV) (l:Nat) (o:Nat→List PV),p=.agg [.val (.bool lo.x.s),.val (.string lo.x.b),.val (.string lo.x.c),.val (.bool lo.y.s),.val (.string lo.y.b),.val (.string lo.y.c),.val (.bool hi.x.s),.val (.string hi.x.b),.val (.string hi.x.c),.val (.bool hi.y.s),.val (.string hi.y.b),.val (.string hi.y.c),.rs 1 k c,.rs 3 l o] ∧
  (lo.le 140737488355328∧hi.le 140737488355328)∧isCL 140737488355328 k c∧isOL l o:=by
 unfold TypV at h
 rw [Tryz.underlying31] at h
 obtain⟨xs,rfl,h⟩:=h
 obtain⟨q1,r1,rfl,h1,q2,r2,rfl,h2,q3,r3,rfl,h3,rfl⟩:=typ_struct Tryz.underlying31 h
 obtain⟨s1,u1,rfl,g1,s2,u2,rfl,g2,rfl⟩:=typ_struct Tryz.underlying27 h1
 obtain⟨lo,rfl,hlo⟩:=typ_pt g1
 obtain⟨hi,rfl,hhi⟩:=typ_pt g2
 obtain⟨k,c,rfl,hk,hc⟩:=typ_slice Tryz.underlying28 h2
 obtain⟨l,o,rfl,hl,ho⟩:=typ_slice Tryz.underlying29 h3
 rw [cells34,cells63]
 refine⟨lo,hi,k,c,l,o,rfl,⟨hlo,hhi⟩,⟨fun i hi=>?_,hk⟩,fun i hi=>?_,hl⟩
 ·obtain⟨n,g,e,hg⟩:=typ_pts (hc i hi)
  unfold pn pg
  rw [e]
  exact⟨rfl,hg⟩
 ·obtain⟨q1,r1,e,h1,q2,r2,rfl,h2,q3,r3,rfl,h3,rfl⟩:=typ_struct Tryz.underlying63 (ho i hi)
  obtain⟨x,rfl,_⟩:=typ_int Tryz.underlying3 h1
  obtain⟨y,rfl,_⟩:=typ_int Tryz.underlying3 h2
  obtain⟨z,rfl,_⟩:=typ_int Tryz.underlying3 h3
  unfold ow
  rw [e]
  rfl
end Go.Proofs
namespace Go.Proofs.YtpfdckeipckldaaGreat
open Go Go.Ex Go.Num Go.RowKit Go.Proofs
set_option maxRecDepth 100000
theorem own:ownKnob Tryz.prog.godebug=none:=by kernel_rfl
theorem laidOut:laidOutB Tryz.prog=true:=by kernel_rfl
theorem typ_i64 {d:Nat} {p:PV} (h:TypV Tryz.prog d 3 p):∃z,p=.val (.int .i64 z):=by
 unfold TypV at h
 rw [Tryz.underlying3] at h
 obtain⟨z,e,_⟩:=typ_int Tryz.underlying3 h
 exact⟨z,by simpa using e⟩
theorem reads_met (ps:List PV) (h:TypAll Tryz.prog 8 [31,37,3,3] ps):∃pre,c10 ps=some ⟨pre,.val (.bool true),[]⟩∧Go.Ex.Met pre:=by
 obtain⟨p1,q1,rfl,h1,p2,q2,rfl,h2,p3,q3,rfl,h3,p4,q4,rfl,h4,rfl⟩:=h
 obtain⟨lo,hi,k,c,l,o,rfl,hb,hc,ho⟩:=typ_region h1
 obtain⟨n,g,m,h',rfl,hg,hq⟩:=typ_map h2
 obtain⟨a,rfl⟩:=typ_i64 h3
 obtain⟨b,rfl⟩:=typ_i64 h4
 exact⟨_,rfl,fun q e=>by cases e;exact⟨hb,hc,ho,hg,hq⟩⟩
theorem reads_lifted (os:Os) (started:os.Started) (H:Type) (enc:TypeId×Value→H) :
  ReturnsInHanded {} Tryz.checked os 10 .any (Rows.roadmapReadsSpec.pre6 enc Tryz.prog Tryz.f10 Rows.roadmapReadsRow.domain false) (Rows.roadmapReadsSpec.post enc Tryz.prog Tryz.f10 false true false false):=by
 refine returnsInHanded_of_change_sized (C:=Tryz.checked) own started (by kernel_rfl) Tryz.func10
  (ChangeSpec.witness6 (enc:=enc) (C:=Tryz.checked) false ⟨#[],#[.agg #[.bool false,.string ⟨#[]⟩,.string ⟨#[]⟩,.bool false,.string ⟨#[]⟩,.string ⟨#[]⟩,.bool false,.string ⟨#[]⟩,.string ⟨#[]⟩,.bool false,.string ⟨#[]⟩,.string ⟨#[]⟩,.slice none 0 0,.slice none 0 0],.agg #[.slice none 0 0,.slice none 0 0],.int .i64 0,.int .i64 0],[]⟩ 8 (by kernel_rfl) (by kernel_rfl) (by kernel_rfl) (by kernel_rfl)) ?_
 intro W base args ds gs before hval hW _ hsz _
 exact law_contract (P:=Tryz.prog) (fn:=Tryz.f10) (d:=8) (tb:=4) (s:=Rows.roadmapReadsSpec) laidOut rfl (fun ds hd=>by
  match ds,hd with
  |[d1,d2,d3,d4],_=>rfl) rfl Tryz.underlying4 (by kernel_rfl) f10 (fun ps h=>reads_met ps h) W base args ds gs before hval hW hsz
theorem reads_holds:Rows.RoadmapReadsSaid :=
 OpenClaim.holds_of_wide 10 Tryz.f10 rfl rfl rfl rfl rfl rfl rfl ⟨rfl,rfl,rfl,rfl,rfl⟩ rfl rfl rfl rfl rfl (by kernel_rfl) Tryz.func10 (by kernel_rfl)
  (of_decide_eq_true (by kernel_rfl)) (by unfold Func.isWrapper;rw [if_neg (of_decide_eq_false (by kernel_rfl))];exact⟨rfl,rfl⟩)
  (fun os started H enc _=>reads_lifted os started H enc)
end Go.Proofs.YtpfdckeipckldaaGreat
