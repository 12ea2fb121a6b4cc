/- RoadmapCorners: for every region the law returns true, and leaves its arguments as they are. No conditions. -/
import Derived.Shelf.Lays8
import Derived.Shelf.Spec.SlicesGrow
import Derived.Deep.Slices
import Derived.SizedLaws
import Derived.Carry
import Derived.WideShapes
import Derived.ProofKit
import Derived.Test.YtpfdckeipckldaaGreatRows
import Derived.Test.YtpfdckeipckldaaGreatE
set_option maxHeartbeats 8000000
set_option linter.all false
set_option linter.unusedVariables false
set_option linter.unusedSimpArgs false
set_option linter.unnecessarySimpa false
namespace Go.Num
open Go Go.Ex Go.Proofs
def keepL (p q:PtS) (C:Nat→PtS):Nat→List PtS
 |0=>[p,q]
 |j+1=>keepL p q C j++(bif !eqP (C j) p&&!eqP (C j) q then [C j] else [])
def lnkJ (S:PtS→PtS→Bool) (P:Nat→PtS) (i:Nat):Nat→List (Int×Int)
 |0=>[]
 |d+1=>lnkJ S P i d++(bif S (P i) (P (i+1+d)) then [((i:Int),((i+1+d:Nat):Int))] else [])
def lnkI (S:PtS→PtS→Bool) (P:Nat→PtS) (n:Nat):Nat→List (Int×Int)
 |0=>[]
 |i+1=>lnkI S P n i++lnkJ S P i (n - (i+1))
theorem apd_p {L:List PtS} {x:PtS} {r:Nat→List PV} (h:r 0=x.cells):∀i,i < L.length+1→(vertP (L++[x]) i).cells=apd L.length (fun i=>(vertP L i).cells) r i:=fun i hi=>by
 unfold apd vertP
 by_cases hl:i < L.length
 ·rw [if_pos hl,List.getElem?_append_left hl]
 ·obtain rfl:i=L.length:=by omega
  rw [if_neg hl,Nat.sub_self,h]
  simp
theorem keepL_le (p q:PtS) (C:Nat→PtS):∀j,2≤(keepL p q C j).length∧(keepL p q C j).length≤j+2
 |0=>⟨Nat.le_refl _,Nat.le_refl _⟩
 |j+1=>by
  have:=keepL_le p q C j
  unfold keepL
  rw [List.length_append]
  cases (!eqP (C j) p&&!eqP (C j) q)<;>simp<;>omega
theorem keepL_all {p q:PtS} {C:Nat→PtS} (hp:p.le 10000) (hq:q.le 10000):∀{j:Nat},(∀i,i < j→(C i).le 10000)→∀x∈keepL p q C j,x.le 10000
 |0,_,x,hx=>by
  rcases List.mem_cons.1 hx with rfl|hx
  ·exact hp
  ·rw [List.mem_singleton.1 hx]
   exact hq
 |j+1,hC,x,hx=>by
  unfold keepL at hx
  rcases List.mem_append.1 hx with hx|hx
  ·exact keepL_all hp hq (fun i hi=>hC i (by omega)) x hx
  ·cases hb:(!eqP (C j) p&&!eqP (C j) q) with
   |true =>
    rw [hb] at hx
    rw [List.mem_singleton.1 hx]
    exact hC j (by omega)
   |false=>rw [hb] at hx;cases hx
theorem lnkJ_le (S:PtS→PtS→Bool) (P:Nat→PtS) (i:Nat):∀d,(lnkJ S P i d).length≤d
 |0=>Nat.le_refl _
 |d+1=>by
  have:=lnkJ_le S P i d
  unfold lnkJ
  rw [List.length_append]
  cases S (P i) (P (i+1+d))<;>simp<;>omega
theorem lnkI_le (S:PtS→PtS→Bool) (P:Nat→PtS) (n:Nat):∀i,(lnkI S P n i).length≤i*n
 |0=>Nat.zero_le _
 |i+1=>by
  have:=lnkI_le S P n i
  have h2:=lnkJ_le S P i (n - (i+1))
  unfold lnkI
  rw [List.length_append,Nat.succ_mul]
  omega
def bErr (lo hi:PtS) (k:Nat) (c:Nat→List PV) (l:Nat) (o:Nat→List PV) (p q:PtS):Int:=bif okB lo hi k c l o (segV p q) then bif seeB lo hi k c l o p p&&seeB lo hi k c l o q q then bif eqP p q then 12 else 0 else 16 else 1
def bPts (lo hi:PtS) (k:Nat) (c:Nat→List PV) (l:Nat) (o:Nat→List PV) (p q:PtS):List PtS:=bif bErr lo hi k c l o p q==0 then keepL p q (vertP (cornL lo hi k c l o)) (cornL lo hi k c l o).length else []
def bLks (lo hi:PtS) (k:Nat) (c:Nat→List PV) (l:Nat) (o:Nat→List PV) (p q:PtS):List (Int×Int):=lnkI (seeB lo hi k c l o) (vertP (bPts lo hi k c l o p q)) (bPts lo hi k c l o p q).length (bPts lo hi k c l o p q).length
end Go.Num
namespace Go.Proofs
open Go Go.Ex Go.Num
set_option maxRecDepth 100000
def c14:List PV→Option Ans
 |[.agg xs,.val v,.val u]=>some ⟨some ((isRg 10000 xs∧isPk 10000 v∧isPk 10000 u)∧(vertC (gLo xs) (gHi xs) (gK xs) (gC xs) (gL xs) (gO xs)).length≤500),
  .tup [.agg [.rs 6 (bPts (gLo xs) (gHi xs) (gK xs) (gC xs) (gL xs) (gO xs) (rdV v) (rdV u)).length (fun i=>(vertP (bPts (gLo xs) (gHi xs) (gK xs) (gC xs) (gL xs) (gO xs) (rdV v) (rdV u)) i).cells),.rs 2 (bLks (gLo xs) (gHi xs) (gK xs) (gC xs) (gL xs) (gO xs) (rdV v) (rdV u)).length (fun i=>cellsQ (qL (bLks (gLo xs) (gHi xs) (gK xs) (gC xs) (gL xs) (gO xs) (rdV v) (rdV u)) i))],.val (.int .i64 (bErr (gLo xs) (gHi xs) (gK xs) (gC xs) (gL xs) (gO xs) (rdV v) (rdV u)))],[]⟩
 |_=>none
def D14:Opt:={ perm:=atR 21 (rds 7) }
theorem ok14:funcOk D14.toOrd Tryz.f14 3=true:=by kernel_rfl
theorem f14:FnOk Tryz.prog 14 c14:=by
 refine FnOk.ofW orders (mkE_ok (l:=[(55,c55),(56,c56),(57,c57)]) (own:=[]) (inl:=[]) (by simp [f55,f56,f57]) (by simp)) Tryz.func14 D14 3 ok14 fun args r e=>?_
 unfold c14 at e
 split at e
 ·rename_i xs v u
  cases e
  refine⟨by simp,fun hm=>?_⟩
  obtain⟨⟨⟨h1,⟨hlo,hhi⟩,hcl,hol⟩,⟨a,rfl,ha⟩,b,rfl,hb⟩,hN0⟩:=hm _ rfl
  generalize gLo xs=lo at *
  generalize gHi xs=hi at *
  generalize gK xs=k at *
  generalize gC xs=c at *
  generalize gL xs=l at *
  generalize gO xs=o at *
  subst h1
  clear hm
  refine⟨[],stOf [(0,.agg (regC lo hi k c l o)),(1,.val a.v),(2,.val b.v)] [] 0 [],Wo trivial ⟨⟨rfl,rfl,rfl,rfl,rfl,rfl,rfl,rfl,rfl,rfl,rfl,rfl,qW,qW,qQ⟩,rfl,rfl,qQ⟩ trivial,?_⟩
  have ha':=ha.mono (show 10000≤4294967296 by decide)
  have hb':=hb.mono (show 10000≤4294967296 by decide)
  have hcl':isCL 10000 k (fun i=>[.rs 6 (pn c i) (pg c i)]):=⟨fun i hi=>⟨rfl,(hcl.1 i hi).2⟩,hcl.2⟩
  have hol':isOL l (fun i=>cellsO (ow o i)):=⟨fun _ _=>rfl,hol.2⟩
  have hrg':((lo.le 4294967296∧hi.le 4294967296)∧isCL 10000 k (fun i=>[.rs 6 (pn c i) (pg c i)])∧isOL l (fun i=>cellsO (ow o i))):=⟨⟨hlo.mono (by decide),hhi.mono (by decide)⟩,hcl',hol'⟩
  have hrg3:((lo.le 10000∧hi.le 10000)∧isCL 10000 k (fun i=>[.rs 6 (pn c i) (pg c i)])∧isOL l (fun i=>cellsO (ow o i))):=⟨⟨hlo,hhi⟩,hcl',hol'⟩
  obtain⟨OK,hOK⟩:∃OK,OK=okB lo hi k c l o (segV a b):=⟨_,rfl⟩
  obtain⟨S,hS⟩:∃S,S=seeB lo hi k c l o:=⟨_,rfl⟩
  have hSN:seeB lo hi k (fun i=>[.rs 6 (pn c i) (pg c i)]) l (fun i=>cellsO (ow o i))=S:=by
   rw [hS]
   rfl
  obtain⟨C,hC⟩:∃C,C=vertP (cornL lo hi k c l o):=⟨_,rfl⟩
  have hCN:vertP (cornL lo hi k (fun i=>[.rs 6 (pn c i) (pg c i)]) l (fun i=>cellsO (ow o i)))=C:=by
   rw [hC]
   rfl
  obtain⟨N,hNN⟩:∃N,N=(cornL lo hi k c l o).length:=⟨_,rfl⟩
  have hNNN:(cornL lo hi k (fun i=>[.rs 6 (pn c i) (pg c i)]) l (fun i=>cellsO (ow o i))).length=N:=by
   rw [hNN]
   rfl
  obtain⟨BE,hBE⟩:∃BE,BE=bErr lo hi k c l o a b:=⟨_,rfl⟩
  obtain⟨BP,hBP⟩:∃BP,BP=bPts lo hi k c l o a b:=⟨_,rfl⟩
  obtain⟨BL,hBL⟩:∃BL,BL=bLks lo hi k c l o a b:=⟨_,rfl⟩
  show vcW _ _ _ _ _ ⟨_,.tup [.agg [.rs 6 (bPts lo hi k c l o a b).length (fun i=>(vertP (bPts lo hi k c l o a b) i).cells),.rs 2 (bLks lo hi k c l o a b).length (fun i=>cellsQ (qL (bLks lo hi k c l o a b) i))],.val (.int .i64 (bErr lo hi k c l o a b))],[]⟩
  rw [←hBE,←hBP,←hBL]
  have e0:BE=bif OK then bif S a a&&S b b then bif eqP a b then 12 else 0 else 16 else 1:=by rw [hBE,bErr,←hOK,←hS]
  have e1:BP=bif BE==0 then keepL a b C N else []:=by rw [hBP,bPts,←hBE,←hC,←hNN]
  have e2:BL=lnkI S (vertP BP) BP.length BP.length:=by rw [hBL,bLks,←hBP,←hS]
  have hN:N≤500:=by
   rw [hNN]
   exact Nat.le_trans (cmpct_le _ _) hN0
  have cn:∀r:Nat→List PV,pts r 0=a→pts r 1=b→anyP (fun i=>!canonP (pts r i)) 2=(!canonP a||!canonP b):=fun r h h'=>by
   have e:List.range 2=[0,1]:=rfl
   simp only [anyP,e,List.any_cons,List.any_nil,Bool.or_false,h,h']
  have p2:∀r:Nat→List PV,r 0=a.cells→r 1=b.cells→isPL 4294967296 2 r:=fun r h h'=>⟨fun i hi=>by
   match i,hi with
   |0,_=>exact⟨by rw [pts,h];rfl,by rw [pts,h];exact ha'⟩
   |1,_=>exact⟨by rw [pts,h'];rfl,by rw [pts,h'];exact hb'⟩
   |i+2,h=>omega,by decide⟩
  have q1:∀r:Nat→List PV,pts r 0=a→pts r 1=b→((regE lo hi k (pn (fun i=>[.rs 6 (pn c i) (pg c i)])) (fun i=>pts (pg (fun i=>[.rs 6 (pn c i) (pg c i)]) i)) l (ow (fun i=>cellsO (ow o i)))==0)&&!anyP (fun i=>!canonP (pts r i)) 2)=OK:=fun r h h'=>by
   rw [cn r h h',hOK,Bool.and_comm]
   rfl
  have z:∀B:Bool,(okW B != 0)=true→B=false:=fun B h=>by cases B<;>first|rfl|cases h
  have z':∀B:Bool,(okW B != 0)=false→B=true:=fun B h=>by cases B<;>first|rfl|cases h
  have bad:BE≠0→BP.length=0∧BL.length=0:=fun h=>by
   have h0:(BE==0)=false:=by simpa using h
   have h1:BP=[]:=by rw [e1,h0];rfl
   exact⟨by rw [h1];rfl,by rw [e2,h1];rfl⟩
  have sA:∀B,B=S→∀x y,B x y=S x y:=fun B h x y=>by rw [h]
  have neq:∀B:Bool,(!B)=true→B=false:=fun B h=>by simpa using h
  have neq':∀B:Bool,(!B)=false→B=true:=fun B h=>by simpa using h
  have h57:((lo.le 10000∧hi.le 10000)∧isCL 10000 k (fun i=>[.rs 6 (pn c i) (pg c i)])∧isOL l (fun i=>cellsO (ow o i)))∧(vertC lo hi k (fun i=>[.rs 6 (pn c i) (pg c i)]) l (fun i=>cellsO (ow o i))).length≤500:=⟨hrg3,hN0⟩
  have hrow:∀i,i < N→(C i).cells=(vertP (cornL lo hi k (fun i=>[.rs 6 (pn c i) (pg c i)]) l (fun i=>cellsO (ow o i))) i).cells:=fun i _=>by rw [hCN]
  have hlen:PV.val (.int .i64 ((cornL lo hi k (fun i=>[.rs 6 (pn c i) (pg c i)]) l (fun i=>cellsO (ow o i))).length:Int))=PV.val (goInt N):=by
   rw [hNNN]
   rfl
  have r0:∀r:Nat→List PV,r 0=a.cells→r 1=b.cells→∀i,i < 2→(vertP (keepL a b C 0) i).cells=r i:=fun r h h' i hi=>by
   match i,hi with
   |0,_=>exact h.symm
   |1,_=>exact h'.symm
  have hCle:∀i,i < N→(C i).le 10000:=by
   rw [hNN,hC]
   exact fun i hi=>vertP_le (cornL_le hcl) hi
  with_unfolding_all refine⟨⟨hrg',p2 _ rfl rfl⟩,fun h1=>?_,fun h1=>?_⟩
  ·have h2:OK=false:=(q1 _ rfl rfl).symm.trans (z _ h1)
   have hb1:BE=1:=by rw [e0,h2];rfl
   have hb0:BE≠0:=by rw [hb1];decide
   have v2:∀B,B=OK→PV.val (.int .i64 (okW B))=PV.val (.int .i64 BE):=fun B h=>by rw [h,h2,hb1];rfl
   with_unfolding_all exact⟨[some 3],stOf [(6,.ptr 0 0 0 0),(7,.val (.int .i64 BE))] [⟨37,2,0,true,false,1,fun _=>[.rs 6 BP.length (fun i=>(vertP BP i).cells),.rs 2 BL.length (fun i=>cellsQ (qL BL i))]⟩] 1 [],Wo ⟨qZ ⟨⟨⟨rfl,(bad hb0).1⟩,rfl⟩,⟨⟨rfl,(bad hb0).2⟩,rfl⟩,qQ⟩,qQ⟩ ⟨pP,v2 _ (q1 _ rfl rfl),qQ⟩ trivial,rfl,rfl⟩
  ·have hk:OK=true:=(q1 _ rfl rfl).symm.trans (z' _ h1)
   have b16:S a a=false∨S b b=false→BE=16:=fun h=>by
    rw [e0,hk]
    rcases h with h|h
    ·rw [h];rfl
    ·rw [h,Bool.and_false];rfl
   have b12:S a a=true→S b b=true→eqP a b=true→BE=12:=fun h h' h2=>by rw [e0,hk,h,h',h2];rfl
   have n16:BE=16→BE≠0:=fun h=>by rw [h];decide
   have n12:BE=12→BE≠0:=fun h=>by rw [h];decide
   have v16:BE=16→PV.val (.int .i64 16)=PV.val (.int .i64 BE):=fun h=>by rw [h]
   have v12:BE=12→PV.val (.int .i64 12)=PV.val (.int .i64 BE):=fun h=>by rw [h]
   have fs:∀x,(!seeB lo hi k (fun i=>[.rs 6 (pn c i) (pg c i)]) l (fun i=>cellsO (ow o i)) x x)=true→S x x=false:=fun x h=>by rw [←hSN];exact neq _ h
   have ft:∀x,(!seeB lo hi k (fun i=>[.rs 6 (pn c i) (pg c i)]) l (fun i=>cellsO (ow o i)) x x)=false→S x x=true:=fun x h=>by rw [←hSN];exact neq' _ h
   with_unfolding_all refine⟨⟨hrg3,⟨a,rfl,ha⟩,a,rfl,ha⟩,fun h2=>⟨⟨hrg3,⟨b,rfl,hb⟩,b,rfl,hb⟩,fun h3=>⟨[some 3],stOf [(6,.ptr 0 0 0 0),(7,.val (.int .i64 BE))] [⟨37,2,0,true,false,1,fun _=>[.rs 6 BP.length (fun i=>(vertP BP i).cells),.rs 2 BL.length (fun i=>cellsQ (qL BL i))]⟩] 1 [],Wo ⟨qZ ⟨⟨⟨rfl,(bad (n16 (b16 (.inr (fs b h3))))).1⟩,rfl⟩,⟨⟨rfl,(bad (n16 (b16 (.inr (fs b h3))))).2⟩,rfl⟩,qQ⟩,qQ⟩ ⟨pP,v16 (b16 (.inr (fs b h3))),qQ⟩ trivial,rfl,rfl⟩,fun h3=>⟨fun h4=>⟨[some 3],stOf [(6,.ptr 0 0 0 0),(7,.val (.int .i64 BE))] [⟨37,2,0,true,false,1,fun _=>[.rs 6 BP.length (fun i=>(vertP BP i).cells),.rs 2 BL.length (fun i=>cellsQ (qL BL i))]⟩] 1 [],Wo ⟨qZ ⟨⟨⟨rfl,(bad (n12 (b12 (ft a h2) (ft b h3) h4))).1⟩,rfl⟩,⟨⟨rfl,(bad (n12 (b12 (ft a h2) (ft b h3) h4))).2⟩,rfl⟩,qQ⟩,qQ⟩ ⟨pP,v12 (b12 (ft a h2) (ft b h3) h4),qQ⟩ trivial,rfl,rfl⟩,fun h4=>⟨h57,Nat,fun j=>(OK=true∧S a a=true∧S b b=true∧eqP a b=false)∧j≤N,fun j=>stOf [(3,.ptr 0 0 0 0),(4,.ptr 1 1 0 0),(5,.ptr 2 2 0 0),(6,.ptr 3 3 0 0),(9,.ptr 4 4 0 0),(46,.rs 6 N (fun i=>(C i).cells)),(47,.val (goInt N)),(48,.val (goInt j))] [⟨31,14,0,true,false,1,fun _=>regC lo hi k c l o⟩,⟨25,6,1,true,false,1,fun _=>a.cells⟩,⟨25,6,2,true,false,1,fun _=>b.cells⟩,⟨37,2,3,true,false,1,fun _=>[.val (.slice none 0 0),.val (.slice none 0 0)]⟩,⟨37,2,4,true,false,1,fun _=>[.sl 5 5 0 (keepL a b C j).length,.val (.slice none 0 0)]⟩,⟨25,6,5,false,false,(keepL a b C j).length,fun i=>(vertP (keepL a b C j) i).cells⟩] 6 [],fun j=>N - j,⟨0,[some 0,some 1,some 2,some 3,some 6,some 5],⟨⟨hk,ft a h2,ft b h3,h4⟩,Nat.zero_le _⟩,Wo ⟨qZ ⟨rq,rq,rq,rq,rq,rq,rq,rq,rq,rq,rq,rq,⟨qW,rfl⟩,⟨qW,rfl⟩,qQ⟩,qK,qK,qJ,qZ ⟨⟨pP,rfl⟩,rq,qQ⟩,qZ (r0 _ rfl rfl),qQ⟩ ⟨pP,pP,pP,pP,pP,⟨rfl,hNNN,hrow⟩,hlen,rfl,qQ⟩ trivial⟩,fun j hj=>?_⟩⟩⟩,fun h2=>⟨fun _=>⟨[some 3],stOf [(6,.ptr 0 0 0 0),(7,.val (.int .i64 BE))] [⟨37,2,0,true,false,1,fun _=>[.rs 6 BP.length (fun i=>(vertP BP i).cells),.rs 2 BL.length (fun i=>cellsQ (qL BL i))]⟩] 1 [],Wo ⟨qZ ⟨⟨⟨rfl,(bad (n16 (b16 (.inl (fs a h2))))).1⟩,rfl⟩,⟨⟨rfl,(bad (n16 (b16 (.inl (fs a h2))))).2⟩,rfl⟩,qQ⟩,qQ⟩ ⟨pP,v16 (b16 (.inl (fs a h2))),qQ⟩ trivial,rfl,rfl⟩,fun h=>(nomatch h)⟩⟩
   obtain⟨⟨g1,g2,g3,g4⟩,hjN⟩:(OK=true∧S a a=true∧S b b=true∧eqP a b=false)∧j≤N:=hj
   with_unfolding_all refine⟨fun h1=>?_,fun h1=>?_⟩
   ·have h1:(j:Int) < N:=ltT h1
    have ej:(j:Int).toNat=j:=Int.toNat_natCast j
    have hjN1:j+1≤N:=by omega
    have hμ : N - (j+1) < N - j:=by omega
    have hkl:=keepL_le a b C j
    have wj:PV.val (.int .i64 (IntKind.i64.wrap ((j:Int)+1)))=PV.val (.int .i64 ((j+1:Nat):Int)):=by
     rw [wrap64 (by omega) (by omega)]
     rfl
    have e3:eqP (C j) a=false→eqP (C j) b=false→keepL a b C (j+1)=keepL a b C j++[C j]:=fun h h'=>by rw [keepL,h,h'];rfl
    have e4:(!eqP (C j) a&&!eqP (C j) b)=false→keepL a b C (j+1)=keepL a b C j:=fun h=>by rw [keepL,h];exact List.append_nil _
    have hn0:(!eqP (C (j:Int).toNat) a&&!eqP (C (j:Int).toNat) b)=false→(keepL a b C (j+1)).length=(keepL a b C j).length:=fun h=>by
     rw [ej] at h
     rw [e4 h]
    have hr0:(!eqP (C (j:Int).toNat) a&&!eqP (C (j:Int).toNat) b)=false→∀i,i < (keepL a b C j).length→(vertP (keepL a b C (j+1)) i).cells=(vertP (keepL a b C j) i).cells:=fun h=>by
     rw [ej] at h
     rw [e4 h]
     exact fun _ _=>rfl
    have hnA:eqP (C (j:Int).toNat) a=false→eqP (C (j:Int).toNat) b=false→(keepL a b C (j+1)).length=(keepL a b C j).length+1:=fun h h'=>by
     rw [ej] at h h'
     rw [e3 h h',List.length_append]
     rfl
    have hr1:eqP (C (j:Int).toNat) a=false→eqP (C (j:Int).toNat) b=false→∀r:Nat→List PV,r 0=(C (j:Int).toNat).cells→∀i,i < (keepL a b C j).length+1→(vertP (keepL a b C (j+1)) i).cells=apd (keepL a b C j).length (fun i=>(vertP (keepL a b C j) i).cells) r i:=fun h h' r hr=>by
     rw [ej] at h h' hr
     rw [e3 h h']
     exact apd_p hr
    have k1:((keepL a b C j).length+1)*80≤140737488355328:=by omega
    have k2:(keepL a b C j).length+1≤9223372036854775807:=by omega
    have n1:∀x y:Bool,(!y)=false→(!x&&!y)=false:=fun x y h=>by rw [h,Bool.and_false]
    have n2:∀x y:Bool,(!x)=false→(!x&&!y)=false:=fun x y h=>by rw [h];rfl
    with_unfolding_all exact⟨⟨Int.natCast_nonneg j,h1⟩,fun h2=>⟨fun h3=>⟨⟨rfl,k1,k2⟩,⟨j+1,[some 0,some 1,some 2,some 3,some 4,some 5],⟨⟨g1,g2,g3,g4⟩,hjN1⟩,hμ,Wo ⟨qZ ⟨rq,rq,rq,rq,rq,rq,rq,rq,rq,rq,rq,rq,⟨qW,rfl⟩,⟨qW,rfl⟩,qQ⟩,qK,qK,qJ,qZ ⟨⟨⟨rfl,rfl,(hnA (neq _ h2) (neq _ h3)).symm,lt_ok rfl,_,rfl⟩,rfl⟩,rq,qQ⟩,⟨lt_ok rfl,rfl,rfl,rfl,rfl,(hnA (neq _ h2) (neq _ h3)),hr1 (neq _ h2) (neq _ h3) _ rfl⟩,qQ⟩ ⟨pP,pP,pP,pP,pP,qW,rfl,wj,qQ⟩ trivial⟩⟩,fun h3=>⟨j+1,[some 0,some 1,some 2,some 3,some 4,some 5],⟨⟨g1,g2,g3,g4⟩,hjN1⟩,hμ,Wo ⟨qZ ⟨rq,rq,rq,rq,rq,rq,rq,rq,rq,rq,rq,rq,⟨qW,rfl⟩,⟨qW,rfl⟩,qQ⟩,qK,qK,qJ,qZ ⟨⟨⟨rfl,rfl,(hn0 (n1 _ _ h3)).symm,lt_ok rfl,_,rfl⟩,rfl⟩,rq,qQ⟩,⟨lt_ok rfl,rfl,rfl,rfl,rfl,(hn0 (n1 _ _ h3)),hr0 (n1 _ _ h3)⟩,qQ⟩ ⟨pP,pP,pP,pP,pP,qW,rfl,wj,qQ⟩ trivial⟩⟩,fun h2=>⟨fun h=>(nomatch h),fun _=>⟨j+1,[some 0,some 1,some 2,some 3,some 4,some 5],⟨⟨g1,g2,g3,g4⟩,hjN1⟩,hμ,Wo ⟨qZ ⟨rq,rq,rq,rq,rq,rq,rq,rq,rq,rq,rq,rq,⟨qW,rfl⟩,⟨qW,rfl⟩,qQ⟩,qK,qK,qJ,qZ ⟨⟨⟨rfl,rfl,(hn0 (n2 _ _ h2)).symm,lt_ok rfl,_,rfl⟩,rfl⟩,rq,qQ⟩,⟨lt_ok rfl,rfl,rfl,rfl,rfl,(hn0 (n2 _ _ h2)),hr0 (n2 _ _ h2)⟩,qQ⟩ ⟨pP,pP,pP,pP,pP,qW,rfl,wj,qQ⟩ trivial⟩⟩⟩
   ·have h1:(N:Int)≤j:=ltF h1
    have hb0:BE=0:=by rw [e0,g1,g2,g3,g4];rfl
    have hBPk:keepL a b C j=BP:=by
     rw [show j=N by omega,e1,hb0]
     rfl
    have hl3:(keepL a b C j).length=BP.length:=by rw [hBPk]
    have hr3:∀i,i < (keepL a b C j).length→(vertP BP i).cells=(vertP (keepL a b C j) i).cells:=fun i _=>by rw [hBPk]
    have v69:PV.val (.int .i64 (((keepL a b C j).length:Nat):Int))=PV.val (goInt BP.length):=by
     rw [hBPk]
     rfl
    have hBl:BP.length≤502:=by
     have:=keepL_le a b C j
     rw [←hBPk]
     omega
    have hBall:∀i,i < BP.length→(vertP BP i).le 10000:=fun i hi=>by
     unfold vertP
     rw [List.getElem?_eq_getElem hi]
     exact keepL_all (j:=j) ha hb (fun i hi=>hCle i (by omega)) _ (by rw [hBPk];exact List.getElem_mem hi)
    clear hBPk
    with_unfolding_all refine⟨Nat,fun i=>i≤BP.length,fun i=>stOf [(3,.ptr 0 0 0 0),(6,.ptr 1 1 0 0),(9,.ptr 2 2 0 0),(68,.sl 3 3 0 BP.length),(69,.val (goInt BP.length)),(70,.val (goInt i))] [⟨31,14,0,true,false,1,fun _=>regC lo hi k c l o⟩,⟨37,2,1,true,false,1,fun _=>[.val (.slice none 0 0),.val (.slice none 0 0)]⟩,⟨37,2,2,true,false,1,fun _=>[.sl 3 3 0 BP.length,.sl 4 4 0 (lnkI S (vertP BP) BP.length i).length]⟩,⟨25,6,3,false,false,BP.length,fun t=>(vertP BP t).cells⟩,⟨46,2,4,false,false,(lnkI S (vertP BP) BP.length i).length,fun t=>cellsQ (qL (lnkI S (vertP BP) BP.length i) t)⟩] 5 [],fun i=>BP.length - i,⟨0,[some 0,some 3,some 4,some 5,none],Nat.zero_le _,Wo ⟨qZ ⟨rq,rq,rq,rq,rq,rq,rq,rq,rq,rq,rq,rq,⟨qW,rfl⟩,⟨qW,rfl⟩,qQ⟩,qJ,qZ ⟨⟨⟨rfl,rfl,hl3,lt_ok rfl,_,rfl⟩,rfl⟩,⟨⟨rfl,rfl,rfl,rfl,lt_ok rfl⟩,rfl⟩,qQ⟩,⟨lt_ok rfl,rfl,rfl,rfl,rfl,hl3.symm,hr3⟩,⟨lt_ok rfl,rfl,rfl,rfl⟩,qQ⟩ ⟨pP,pP,pP,⟨rfl,rfl,hl3,lt_ok rfl,_,rfl⟩,v69,rfl,qQ⟩ trivial⟩,fun i hiB=>?_⟩
    replace hiB:i≤BP.length:=hiB
    with_unfolding_all refine⟨fun h1=>?_,fun h1=>?_⟩
    ·have h1:(i:Int) < BP.length:=ltT h1
     have ei:(i:Int).toNat=i:=Int.toNat_natCast i
     have hj0:(lnkI S (vertP BP) BP.length i++lnkJ S (vertP BP) i 0).length=(lnkI S (vertP BP) BP.length i).length:=by rw [lnkJ,List.append_nil]
     have hr0:∀t,t < (lnkI S (vertP BP) BP.length i).length→cellsQ (qL (lnkI S (vertP BP) BP.length i++lnkJ S (vertP BP) i 0) t)=cellsQ (qL (lnkI S (vertP BP) BP.length i) t):=fun t _=>by rw [lnkJ,List.append_nil]
     have w14:PV.val (.int .i64 (IntKind.i64.wrap ((i:Int)+1)))=PV.val (goInt (i+1+0)):=by
      rw [wrap64 (by omega) (by omega)]
      rfl
     have cx:∀x y:PtS,x=y→PV.val (.bool x.x.s)=PV.val (.bool y.x.s)∧PV.val (.string x.x.b)=PV.val (.string y.x.b)∧PV.val (.string x.x.c)=PV.val (.string y.x.c)∧PV.val (.bool x.y.s)=PV.val (.bool y.y.s)∧PV.val (.string x.y.b)=PV.val (.string y.y.b)∧PV.val (.string x.y.c)=PV.val (.string y.y.c):=fun x y h=>by rw [h];exact⟨rfl,rfl,rfl,rfl,rfl,rfl⟩
     have c6:=cx (vertP BP (0+(i:Int).toNat)) (vertP BP i) (by rw [Nat.zero_add,ei])
     with_unfolding_all refine⟨⟨Int.natCast_nonneg i,h1⟩,Nat,fun d=>i+1+d≤BP.length,fun d=>stOf [(3,.ptr 0 0 0 0),(6,.ptr 1 1 0 0),(9,.ptr 2 2 0 0),(12,.val (goInt i)),(13,.ptr 5 5 0 0),(14,.val (goInt (i+1+d))),(68,.sl 3 3 0 BP.length),(69,.val (goInt BP.length)),(70,.val (goInt i))] [⟨31,14,0,true,false,1,fun _=>regC lo hi k c l o⟩,⟨37,2,1,true,false,1,fun _=>[.val (.slice none 0 0),.val (.slice none 0 0)]⟩,⟨37,2,2,true,false,1,fun _=>[.sl 3 3 0 BP.length,.sl 4 4 0 (lnkI S (vertP BP) BP.length i++lnkJ S (vertP BP) i d).length]⟩,⟨25,6,3,false,false,BP.length,fun t=>(vertP BP t).cells⟩,⟨46,2,4,false,false,(lnkI S (vertP BP) BP.length i++lnkJ S (vertP BP) i d).length,fun t=>cellsQ (qL (lnkI S (vertP BP) BP.length i++lnkJ S (vertP BP) i d) t)⟩,⟨25,6,5,true,false,1,fun _=>(vertP BP i).cells⟩] 6 [],fun d=>BP.length - d,⟨0,[some 0,some 1,some 2,some 3,some 4,some 5],by show i+1+0≤BP.length;omega,Wo ⟨qZ ⟨rq,rq,rq,rq,rq,rq,rq,rq,rq,rq,rq,rq,⟨qW,rfl⟩,⟨qW,rfl⟩,qQ⟩,qJ,qZ ⟨⟨pP,rfl⟩,⟨⟨rfl,rfl,hj0.symm,lt_ok rfl,_,rfl⟩,rfl⟩,qQ⟩,qZ (fun _ _=>rfl),⟨lt_ok rfl,rfl,rfl,rfl,rfl,hj0,hr0⟩,qZ ⟨⟨c6.1,rfl⟩,⟨c6.2.1,rfl⟩,⟨c6.2.2.1,rfl⟩,⟨c6.2.2.2.1,rfl⟩,⟨c6.2.2.2.2.1,rfl⟩,⟨c6.2.2.2.2.2,rfl⟩,qQ⟩,qQ⟩ ⟨pP,pP,pP,rfl,pP,w14,pP,rfl,rfl,qQ⟩ trivial⟩,fun d hd=>?_⟩
     have hdB:i+1+d≤BP.length:=hd
     with_unfolding_all refine⟨fun h2=>?_,fun h2=>?_⟩
     ·have h2:(i:Int)+1+d < BP.length:=ltT h2
      have eT:0+((i:Int)+1+d).toNat=i+1+d:=by omega
      have hdB1:i+1+(d+1)≤BP.length:=by omega
      have hμd:BP.length - (d+1) < BP.length - d:=by omega
      have hbI:=lnkI_le S (vertP BP) BP.length i
      have hbJ:=lnkJ_le S (vertP BP) i d
      have hii:i*BP.length≤502*502:=Nat.mul_le_mul (by omega) hBl
      have hlj:(lnkI S (vertP BP) BP.length i++lnkJ S (vertP BP) i d).length≤502*502+502:=by
       rw [List.length_append]
       omega
      have wd:PV.val (.int .i64 (IntKind.i64.wrap ((i:Int)+1+d+1)))=PV.val (goInt ((i:Int)+1+((d+1:Nat):Int))):=by
       rw [wrap64 (by omega) (by omega)]
       exact congrArg (fun z=>PV.val (.int .i64 z)) (by omega)
      have hs:∀t b,t=i+1+d→seeB lo hi k (fun i=>[.rs 6 (pn c i) (pg c i)]) l (fun i=>cellsO (ow o i)) (vertP BP i) (vertP BP t)=b→S (vertP BP i) (vertP BP (i+1+d))=b:=fun t b h h'=>by rw [←h,←hSN];exact h'
      have e3:S (vertP BP i) (vertP BP (i+1+d))=true→lnkI S (vertP BP) BP.length i++lnkJ S (vertP BP) i (d+1)=lnkI S (vertP BP) BP.length i++lnkJ S (vertP BP) i d++[((i:Int),((i+1+d:Nat):Int))]:=fun h=>by rw [lnkJ,h,List.append_assoc];rfl
      have e4:S (vertP BP i) (vertP BP (i+1+d))=false→lnkI S (vertP BP) BP.length i++lnkJ S (vertP BP) i (d+1)=lnkI S (vertP BP) BP.length i++lnkJ S (vertP BP) i d:=fun h=>by
       rw [lnkJ,h]
       exact congrArg _ (List.append_nil _)
      have hn0:S (vertP BP i) (vertP BP (i+1+d))=false→(lnkI S (vertP BP) BP.length i++lnkJ S (vertP BP) i (d+1)).length=(lnkI S (vertP BP) BP.length i++lnkJ S (vertP BP) i d).length:=fun h=>by rw [e4 h]
      have hr0:S (vertP BP i) (vertP BP (i+1+d))=false→∀t,t < (lnkI S (vertP BP) BP.length i++lnkJ S (vertP BP) i d).length→cellsQ (qL (lnkI S (vertP BP) BP.length i++lnkJ S (vertP BP) i (d+1)) t)=cellsQ (qL (lnkI S (vertP BP) BP.length i++lnkJ S (vertP BP) i d) t):=fun h=>by
       rw [e4 h]
       exact fun _ _=>rfl
      have hnA:S (vertP BP i) (vertP BP (i+1+d))=true→(lnkI S (vertP BP) BP.length i++lnkJ S (vertP BP) i (d+1)).length=(lnkI S (vertP BP) BP.length i++lnkJ S (vertP BP) i d).length+1:=fun h=>by
       rw [e3 h,List.length_append]
       rfl
      have hr1:S (vertP BP i) (vertP BP (i+1+d))=true→∀r:Nat→List PV,r 0=[.val (.int .i64 (i:Int)),.val (.int .i64 ((i:Int)+1+d))]→∀t,t < (lnkI S (vertP BP) BP.length i++lnkJ S (vertP BP) i d).length+1→cellsQ (qL (lnkI S (vertP BP) BP.length i++lnkJ S (vertP BP) i (d+1)) t)=apd (lnkI S (vertP BP) BP.length i++lnkJ S (vertP BP) i d).length (fun t=>cellsQ (qL (lnkI S (vertP BP) BP.length i++lnkJ S (vertP BP) i d) t)) r t:=fun h r hr=>by
       rw [e3 h]
       refine apd_q (hr.trans ?_)
       rw [cellsQ,show(i:Int)+1+d=((i+1+d:Nat):Int) by omega]
      have k1:((lnkI S (vertP BP) BP.length i++lnkJ S (vertP BP) i d).length+1)*16≤140737488355328:=by omega
      have k2:(lnkI S (vertP BP) BP.length i++lnkJ S (vertP BP) i d).length+1≤9223372036854775807:=by omega
      have pk1:isPk 10000 (vertP BP i).v:=⟨_,rfl,hBall i (by omega)⟩
      have pk2:isPk 10000 (vertP BP (0+((i:Int)+1+d).toNat)).v:=⟨_,rfl,hBall _ (by omega)⟩
      with_unfolding_all exact⟨⟨by omega,h2⟩,⟨hrg3,pk1,pk2⟩,fun h3=>⟨⟨rfl,k1,k2⟩,⟨d+1,[some 0,some 1,some 2,some 3,some 4,some 5],hdB1,hμd,Wo ⟨qZ ⟨rq,rq,rq,rq,rq,rq,rq,rq,rq,rq,rq,rq,⟨qW,rfl⟩,⟨qW,rfl⟩,qQ⟩,qJ,qZ ⟨⟨pP,rfl⟩,⟨⟨rfl,rfl,(hnA (hs (0+((i:Int)+1+d).toNat) _ eT h3)).symm,lt_ok rfl,_,rfl⟩,rfl⟩,qQ⟩,qZ (fun _ _=>rfl),⟨lt_ok rfl,rfl,rfl,rfl,rfl,(hnA (hs (0+((i:Int)+1+d).toNat) _ eT h3)),hr1 (hs (0+((i:Int)+1+d).toNat) _ eT h3) _ rfl⟩,qK,qQ⟩ ⟨pP,pP,pP,rfl,pP,wd,pP,rfl,rfl,qQ⟩ trivial⟩⟩,fun h3=>⟨d+1,[some 0,some 1,some 2,some 3,some 4,some 5],hdB1,hμd,Wo ⟨qZ ⟨rq,rq,rq,rq,rq,rq,rq,rq,rq,rq,rq,rq,⟨qW,rfl⟩,⟨qW,rfl⟩,qQ⟩,qJ,qZ ⟨⟨pP,rfl⟩,⟨⟨rfl,rfl,(hn0 (hs (0+((i:Int)+1+d).toNat) _ eT h3)).symm,lt_ok rfl,_,rfl⟩,rfl⟩,qQ⟩,qZ (fun _ _=>rfl),⟨lt_ok rfl,rfl,rfl,rfl,rfl,(hn0 (hs (0+((i:Int)+1+d).toNat) _ eT h3)),hr0 (hs (0+((i:Int)+1+d).toNat) _ eT h3)⟩,qK,qQ⟩ ⟨pP,pP,pP,rfl,pP,wd,pP,rfl,rfl,qQ⟩ trivial⟩⟩
     ·have h2:(BP.length:Int)≤(i:Int)+1+d:=ltF h2
      have hd:d=BP.length - (i+1):=by omega
      have hiB1:i+1≤BP.length:=by omega
      have hμi:BP.length - (i+1) < BP.length - i:=by omega
      have wi:PV.val (.int .i64 (IntKind.i64.wrap ((i:Int)+1)))=PV.val (goInt ((i+1:Nat):Int)):=by
       rw [wrap64 (by omega) (by omega)]
       rfl
      have e3:lnkI S (vertP BP) BP.length (i+1)=lnkI S (vertP BP) BP.length i++lnkJ S (vertP BP) i d:=by rw [hd,lnkI]
      have hn0:(lnkI S (vertP BP) BP.length (i+1)).length=(lnkI S (vertP BP) BP.length i++lnkJ S (vertP BP) i d).length:=by rw [e3]
      have hr0:∀t,t < (lnkI S (vertP BP) BP.length i++lnkJ S (vertP BP) i d).length→cellsQ (qL (lnkI S (vertP BP) BP.length (i+1)) t)=cellsQ (qL (lnkI S (vertP BP) BP.length i++lnkJ S (vertP BP) i d) t):=fun t _=>by rw [e3]
      with_unfolding_all exact⟨i+1,[some 0,some 1,some 2,some 3,some 4],hiB1,hμi,Wo ⟨qZ ⟨rq,rq,rq,rq,rq,rq,rq,rq,rq,rq,rq,rq,⟨qW,rfl⟩,⟨qW,rfl⟩,qQ⟩,qJ,qZ ⟨⟨pP,rfl⟩,⟨⟨rfl,rfl,hn0.symm,lt_ok rfl,_,rfl⟩,rfl⟩,qQ⟩,qZ (fun _ _=>rfl),⟨lt_ok rfl,rfl,rfl,rfl,rfl,hn0,hr0⟩,qQ⟩ ⟨pP,pP,pP,pP,rfl,wi,qQ⟩ trivial⟩
    ·have h1:(BP.length:Int)≤i:=ltF h1
     have hi2:i=BP.length:=by omega
     have e5:lnkI S (vertP BP) BP.length i=BL:=by rw [e2,hi2]
     have v7:PV.val (.int .i64 0)=PV.val (.int .i64 BE):=by rw [hb0]
     have rp:∀t,t < BP.length→(vertP BP t).cells=(vertP BP (0+t)).cells:=fun t _=>by rw [Nat.zero_add]
     have rl:∀t,t < BL.length→cellsQ (qL BL t)=cellsQ (qL (lnkI S (vertP BP) BP.length i) (0+t)):=fun t _=>by rw [e5,Nat.zero_add]
     with_unfolding_all exact⟨[some 1],stOf [(6,.ptr 0 0 0 0),(7,.val (.int .i64 BE))] [⟨37,2,0,true,false,1,fun _=>[.rs 6 BP.length (fun i=>(vertP BP i).cells),.rs 2 BL.length (fun i=>cellsQ (qL BL i))]⟩] 1 [],Wo ⟨qZ ⟨⟨⟨by simp,_,rfl,rfl,rfl,rfl,rp⟩,rfl⟩,⟨⟨by simp,_,rfl,rfl,rfl,congrArg List.length e5,rl⟩,rfl⟩,qQ⟩,qQ⟩ ⟨pP,v7,qQ⟩ trivial,rfl,rfl⟩
 ·cases e
end Go.Proofs
namespace Go.Num
open Go Go.Ex Go.Proofs
theorem cmpP_asymm {p u:PtS} (h:cmpP p u < 0):¬cmpP u p < 0:=by
 rw [cmpP_lt0] at *
 rintro (k|⟨e,k⟩)<;>rcases h with h|⟨e2,h⟩<;>grind
theorem srtP_uniq {V L:List PtS} (hp:L.Perm V) (hV:∀p∈V,p.le 10000) (hL:L.Pairwise fun x y=>cmpP x y < 0):srtP V=L:=by
 refine List.Perm.eq_of_pairwise (le:=fun x y=>¬cmpP y x < 0) (fun a b ha hb h1 h2=>?_) (srtP_sorted hV) (hL.imp fun h=>cmpP_asymm h) ((srtP_perm V).trans hp.symm)
 have ha:a∈L:=hp.mem_iff.2 ((srtP_perm V).mem_iff.1 ha)
 obtain⟨i,hi,rfl⟩:=List.mem_iff_getElem.1 ha
 obtain⟨j,hj,rfl⟩:=List.mem_iff_getElem.1 hb
 rw [List.pairwise_iff_getElem] at hL
 rcases Nat.lt_trichotomy i j with h|h|h
 ·exact absurd (hL i j hi hj h) h2
 ·subst h
  rfl
 ·exact absurd (hL j i hj hi h) h1
end Go.Num
namespace Go.Proofs
open Go Go.Ex Go.Num
set_option maxRecDepth 100000
def exLo:PtS:=⟨⟨false,⟨#[]⟩,⟨#[]⟩⟩,⟨false,⟨#[]⟩,⟨#[]⟩⟩⟩
def exPt (x y:Int):PtS:=ptQ (mkRat x 1) (mkRat y 1)
def exHi:PtS:=exPt 10 10
def exLs:List PV:=(exPt 4 4).cells++((exPt 6 4).cells++((exPt 6 6).cells++(exPt 4 6).cells))
def exC:Nat→List PV:=fun _=>[.rs 6 4 (fun i=>chunk 6 exLs (0+i))]
def exO:Nat→List PV:=fun _=>cellsO (0,0,0)
def exBP:List PtS:=[exPt 0 5,exPt 10 5,exPt 4 4,exPt 4 6,exPt 6 4,exPt 6 6]
def exQ:List (Int×Int):=[(0,2),(0,3),(1,4),(1,5),(2,3),(2,4),(3,5),(4,5)]
def exG:Nat→List PV:=fun i=>(vertP exBP i).cells
def exH:Nat→List PV:=fun i=>cellsQ (qL exQ i)
theorem x1:okB exLo exHi 1 exC 1 exO (segV (exPt 0 5) (exPt 10 5))=true:=by kernel_rfl
theorem x2:seeB exLo exHi 1 exC 1 exO (exPt 0 5) (exPt 10 5)=false:=by kernel_rfl
theorem x3:vertC exLo exHi 1 exC 1 exO=[exPt 4 4,exPt 6 4,exPt 6 6,exPt 4 6]:=by kernel_rfl
theorem x4:cornL exLo exHi 1 exC 1 exO=[exPt 4 4,exPt 4 6,exPt 6 4,exPt 6 6]:=by
 have h:srtP [exPt 4 4,exPt 6 4,exPt 6 6,exPt 4 6]=[exPt 4 4,exPt 4 6,exPt 6 4,exPt 6 6] :=
  srtP_uniq (.cons _ (List.perm_append_comm (l₁:=[exPt 4 6]) (l₂:=[exPt 6 4,exPt 6 6]))) (of_decide_eq_true (by kernel_rfl)) (of_decide_eq_true (by kernel_rfl))
 have h2:cmpct (vertP [exPt 4 4,exPt 4 6,exPt 6 4,exPt 6 6]) 4=[exPt 4 4,exPt 4 6,exPt 6 4,exPt 6 6]:=by kernel_rfl
 unfold cornL
 rw [x3,h]
 exact h2
theorem x5:bErr exLo exHi 1 exC 1 exO (exPt 0 5) (exPt 10 5)=0:=by kernel_rfl
theorem x6:bPts exLo exHi 1 exC 1 exO (exPt 0 5) (exPt 10 5)=exBP:=by
 have h2:keepL (exPt 0 5) (exPt 10 5) (vertP [exPt 4 4,exPt 4 6,exPt 6 4,exPt 6 6]) 4=exBP:=by kernel_rfl
 unfold bPts
 rw [x5,x4]
 exact h2
theorem x7:bLks exLo exHi 1 exC 1 exO (exPt 0 5) (exPt 10 5)=exQ:=by
 have h2:lnkI (seeB exLo exHi 1 exC 1 exO) (vertP exBP) 6 6=exQ:=by kernel_rfl
 unfold bLks
 rw [x6]
 exact h2
theorem x8:okT exLo exHi 1 exC 1 exO 6 exG 8 exH=true:=by kernel_rfl
theorem x9:tgtR exLo exHi 1 exC 1 exO 6 exG 8 exH=exQ:=by kernel_rfl
end Go.Proofs
namespace Go.Proofs
open Go Go.Ex Go.Num
set_option maxRecDepth 100000
theorem exP (x y:Int) (hx:x.natAbs < 256) (hy:y.natAbs < 256):(exPt x y).le 10000:=by
 have q:∀z:Int,z.natAbs < 256→QB 1 (mkRat z 1):=fun z hz=>by
  have e:mkRat z 1=(z:Rat):=by simp [Rat.mkRat_one]
  rw [e]
  exact⟨hz,show(1:Nat) < 256^1 by decide⟩
 exact⟨(q x hx).rs.mono (by decide),(q y hy).rs.mono (by decide)⟩
theorem exPk (x y:Int) (hx:x.natAbs < 256) (hy:y.natAbs < 256):isPk 10000 (exPt x y).v:=⟨_,rfl,exP x y hx hy⟩
theorem exCL:isCL 10000 1 exC:=⟨fun i _=>⟨rfl,fun i hi=>by
  match i,hi with
  |0,_=>exact⟨rfl,exP 4 4 (by decide) (by decide)⟩
  |1,_=>exact⟨rfl,exP 6 4 (by decide) (by decide)⟩
  |2,_=>exact⟨rfl,exP 6 6 (by decide) (by decide)⟩
  |3,_=>exact⟨rfl,exP 4 6 (by decide) (by decide)⟩
  |i+4,h=>exact absurd h (show ¬i+4 < 4 by omega),show(4:Nat)≤140737488355328 by decide⟩,by decide⟩
def exR:List PV:=regC exLo exHi 1 exC 1 exO
theorem exRg:isRg 10000 exR:=⟨rfl,⟨⟨⟨by decide,by decide⟩,by decide,by decide⟩,exP 10 10 (by decide) (by decide)⟩,exCL,fun i _=>rfl,by decide⟩
def c53:List PV→Option Ans
 |[]=>some ⟨none,.agg exR,[]⟩
 |_=>none
theorem ok53:funcOk {} Tryz.f53 0=true:=by kernel_rfl
theorem f53:FnOk Tryz.prog 53 c53:=by
 refine FnOk.ofW orders (mkE_ok (l:=[(52,c52)]) (own:=[]) (inl:=[]) (by simp [f52]) (by simp)) Tryz.func53 {} 0 ok53 fun args r e=>?_
 unfold c53 at e
 split at e
 ·cases e
  refine⟨by simp,fun hm=>?_⟩
  refine⟨[],stOf [] [] 0 [],Wo trivial trivial trivial,?_⟩
  have b:∀x:Int,0≤x∧x < 100→(-9223372036854775808≤x∧x < 9223372036854775808):=fun x h=>by omega
  have z1:∀(g h:Nat→List PV),g 0=h 0→∀i,i < 1→g i=h (0+i):=fun g h e i hi=>by
   obtain rfl:i=0:=by omega
   exact e
  with_unfolding_all exact⟨⟨b 10 (by decide),b 10 (by decide)⟩,⟨b 4 (by decide),b 4 (by decide)⟩,⟨b 6 (by decide),b 4 (by decide)⟩,⟨b 6 (by decide),b 6 (by decide)⟩,⟨b 4 (by decide),b 6 (by decide)⟩,[some 0],stOf [(0,.ptr 0 0 0 0)] [⟨31,14,0,true,false,1,fun _=>exR⟩] 1 [],Wo ⟨qZ ⟨rq,rq,rq,rq,rq,rq,rq,rq,rq,rq,rq,rq,⟨⟨by simp,_,rfl,rfl,rfl,rfl,z1 _ _ rfl⟩,rfl⟩,⟨⟨by simp,_,rfl,rfl,rfl,rfl,z1 _ _ rfl⟩,rfl⟩,qQ⟩,qQ⟩ ⟨pP,qQ⟩ trivial,rfl,rfl⟩
 ·cases e
theorem exIsPL:isPL 10000 6 exG:=⟨fun i hi=>by
 match i,hi with
 |0,_=>exact⟨rfl,exP 0 5 (by decide) (by decide)⟩
 |1,_=>exact⟨rfl,exP 10 5 (by decide) (by decide)⟩
 |2,_=>exact⟨rfl,exP 4 4 (by decide) (by decide)⟩
 |3,_=>exact⟨rfl,exP 4 6 (by decide) (by decide)⟩
 |4,_=>exact⟨rfl,exP 6 4 (by decide) (by decide)⟩
 |5,_=>exact⟨rfl,exP 6 6 (by decide) (by decide)⟩
 |i+6,h=>exact absurd h (show ¬i+6 < 6 by omega),by decide⟩
theorem exIsQL:isQL 8 exH:=⟨fun _ _=>rfl,by decide⟩
theorem rowQ {r:Nat→List PV} (h0:r 0=exH 0) (h1:r 1=exH 1) (h2:r 2=exH 2) (h3:r 3=exH 3) (h4:r 4=exH 4) (h5:r 5=exH 5) (h6:r 6=exH 6) (h7:r 7=exH 7):∀i,i < 8→r i=exH i:=fun i hi=>by
 match i,hi with
 |0,_=>exact h0
 |1,_=>exact h1
 |2,_=>exact h2
 |3,_=>exact h3
 |4,_=>exact h4
 |5,_=>exact h5
 |6,_=>exact h6
 |7,_=>exact h7
 |i+8,h=>exact absurd h (show ¬i+8 < 8 by omega)
theorem rowQ1 {r:Nat→List PV} (h:∀i,i < 8→r i=exH i):isQL 8 r:=⟨fun i hi=>by
 have e:=h i hi
 rw [prs,e]
 rfl,by decide⟩
theorem eqQ_refl (x:Int×Int):Num.eqQ x x=true:=by
 unfold Num.eqQ
 rw [beq_self_eq_true,beq_self_eq_true]
 rfl
theorem rowQ2 {g r:Nat→List PV} {n:Nat} (hn:n=8) (hg:∀i,i < 8→g i=exH i) (h:∀i,i < 8→r i=exH i):(decide (n=8)&&!anyP (fun i=>!Num.eqQ (prs g i) (prs r i)) n)=true:=by
 subst hn
 rw [anyP_false.2 fun i hi=>by rw [prs,prs,hg i hi,h i hi,eqQ_refl];rfl]
 rfl
def c13:List PV→Option Ans
 |[]=>some ⟨none,.val (.bool true),[]⟩
 |_=>none
def D13:Opt:={ perm:=atTs [(2,(.rd 1 (.rd 2 (.mk 0 (.mk 3 (.rd 4 (.rd 5 (.rd 6 .nil)))))))),(3,(.rd 1 (.rd 2 (.alt 0 (.alt 3 (.rd 4 (.rd 5 (.rd 6 (.mk 7 .nil)))) (.mk 7 (.mk 3 (.rd 4 (.rd 5 (.rd 6 .nil)))))) (.mk 7 (.mk 0 (.mk 3 (.rd 4 (.rd 5 (.rd 6 .nil)))))))))),(4,(.rd 1 (.mk 0 (.mk 2 (.rd 3 (.rd 4 (.rd 5 .nil)))))))],join:=fun c=>match c with | .region 3 _ _=>true|_=>false }
theorem ok13:funcOk D13.toOrd Tryz.f13 0=true:=by kernel_rfl
theorem f13:FnOk Tryz.prog 13 c13:=by
 refine FnOk.ofW orders (mkE_ok (l:=[(52,c52),(53,c53),(21,c21),(14,c14),(18,c18),(54,c54),(44,c44)]) (own:=[]) (inl:=[]) (by simp [f52,f53,f21,f14,f18,f54,f44]) (by simp)) Tryz.func13 D13 0 ok13 fun args r e=>?_
 unfold c13 at e
 split at e
 ·cases e
  refine⟨by simp,fun hm=>?_⟩
  refine⟨[],stOf [] [] 0 [],Wo trivial trivial trivial,?_⟩
  have b:∀x:Int,0≤x∧x < 100→(-9223372036854775808≤x∧x < 9223372036854775808):=fun x h=>by omega
  have pa:isPk 10000 (exPt 0 5).v:=exPk 0 5 (by decide) (by decide)
  have pb:isPk 10000 (exPt 10 5).v:=exPk 10 5 (by decide) (by decide)
  have pc:(vertC exLo exHi 1 exC 1 exO).length≤500:=by rw [x3];decide
  with_unfolding_all refine⟨⟨b 0 (by decide),b 5 (by decide)⟩,⟨b 10 (by decide),b 5 (by decide)⟩,⟨exRg,pa,pb⟩,?_⟩
  have v3:PV.val (.bool (seeB exLo exHi 1 exC 1 exO (exPt 0 5) (exPt 10 5)))=PV.val (.bool false):=by rw [x2]
  have v4:PV.val (.int .i64 (okW (okB exLo exHi 1 exC 1 exO (segV (exPt 0 5) (exPt 10 5)))))=PV.val (.int .i64 0):=by
   rw [x1]
   rfl
  have v6:PV.val (.int .i64 (bErr exLo exHi 1 exC 1 exO (exPt 0 5) (exPt 10 5)))=PV.val (.int .i64 0):=by rw [x5]
  have w1:(bPts exLo exHi 1 exC 1 exO (exPt 0 5) (exPt 10 5)).length=6:=by
   rw [x6]
   rfl
  have w2:∀i,i < 6→exG i=(vertP (bPts exLo exHi 1 exC 1 exO (exPt 0 5) (exPt 10 5)) i).cells:=fun i _=>by
   rw [x6]
   rfl
  have w3:(bLks exLo exHi 1 exC 1 exO (exPt 0 5) (exPt 10 5)).length=8:=by
   rw [x7]
   rfl
  have w4:∀i,i < 8→exH i=cellsQ (qL (bLks exLo exHi 1 exC 1 exO (exPt 0 5) (exPt 10 5)) i):=fun i _=>by
   rw [x7]
   rfl
  with_unfolding_all refine⟨Unit,fun _=>True,fun _=>stOf [(0,.val (.bool false)),(3,.val (.bool false)),(4,.val (.int .i64 0)),(5,.ptr 0 0 0 0),(6,.val (.int .i64 0))] [⟨37,2,0,true,false,1,fun _=>[.rs 6 6 exG,.rs 2 8 exH]⟩] 1 [],⟨⟨⟨⟨⟨exRg,pa,pb⟩,pc⟩,⟨(),[some 2],trivial,Wo ⟨qZ ⟨⟨⟨rfl,w1,w2⟩,rfl⟩,⟨⟨rfl,w3,w4⟩,rfl⟩,qQ⟩,qQ⟩ ⟨rfl,v3,v4,pP,v6,qQ⟩ trivial⟩⟩,⟨⟨⟨exRg,pa,pb⟩,pc⟩,⟨(),[some 2],trivial,Wo ⟨qZ ⟨⟨⟨rfl,w1,w2⟩,rfl⟩,⟨⟨rfl,w3,w4⟩,rfl⟩,qQ⟩,qQ⟩ ⟨rfl,v3,v4,pP,v6,qQ⟩ trivial⟩⟩⟩,⟨⟨⟨exRg,pa,pb⟩,pc⟩,⟨(),[some 2],trivial,Wo ⟨qZ ⟨⟨⟨rfl,w1,w2⟩,rfl⟩,⟨⟨rfl,w3,w4⟩,rfl⟩,qQ⟩,qQ⟩ ⟨rfl,v3,v4,pP,v6,qQ⟩ trivial⟩⟩⟩,fun _ _=>?_⟩
  have F3:(okW (okT exLo exHi 1 exC 1 exO 6 exG 8 exH)==0)=true:=by
   rw [x8]
   rfl
  have F6:eqP (vertP exBP 2) (exPt 4 4)=true:=by kernel_rfl
  have ht:(tgtR exLo exHi 1 exC 1 exO 6 exG 8 exH).length=8:=by
   rw [x9]
   rfl
  have hg:∀i,i < 8→cellsQ (qL (tgtR exLo exHi 1 exC 1 exO 6 exG 8 exH) i)=exH i:=fun i _=>by
   rw [x9]
   rfl
  have qt:isQL (tgtR exLo exHi 1 exC 1 exO 6 exG 8 exH).length (fun i=>cellsQ (qL (tgtR exLo exHi 1 exC 1 exO 6 exG 8 exH) i)):=by
   rw [ht]
   exact rowQ1 hg
  have v0:∀B,B=true→PV.val (.bool B)=PV.val (.bool true):=fun B h=>by rw [h]
  have one:(0==(0:Int))=true:=rfl
  with_unfolding_all exact⟨⟨exRg,exIsPL,exIsQL⟩,⟨fun h1=>⟨fun h2=>⟨fun h3=>⟨fun h4=>⟨fun h5=>⟨⟨by decide,by decide⟩,⟨b 4 (by decide),b 4 (by decide)⟩,⟨fun h6=>⟨⟨exIsQL,rowQ1 (rowQ rfl rfl rfl rfl rfl rfl rfl rfl)⟩,⟨fun h7=>⟨⟨qt,rowQ1 (rowQ rfl rfl rfl rfl rfl rfl rfl rfl)⟩,[],stOf [(0,.val (.bool true))] [] 0 [],Wo trivial ⟨v0 _ (rowQ2 ht hg (rowQ rfl rfl rfl rfl rfl rfl rfl rfl)),qQ⟩ trivial,rfl,rfl⟩,fun h=>absurd (h.symm.trans (rowQ2 rfl (fun _ _=>rfl) (rowQ rfl rfl rfl rfl rfl rfl rfl rfl))) (by decide)⟩⟩,fun h=>absurd (h.symm.trans F6) (by decide)⟩⟩,fun h=>absurd (h.symm.trans rfl) (by decide)⟩,fun h=>absurd (h.symm.trans rfl) (by decide)⟩,fun h=>absurd (h.symm.trans F3) (by decide)⟩,fun h=>absurd (h.symm.trans one) (by decide)⟩,fun h=>absurd (h.symm.trans one) (by decide)⟩⟩
 ·cases e
end Go.Proofs
namespace Go.Num
open Go Go.Ex Go.Proofs
theorem canonP_ptQ (x y:Rat):canonP (ptQ x y)=true:=by
 have h:∀q:Rat,canonB (rsQ q).v=true:=fun q=>by
  show canonQ (decide (q.num < 0)) (numB q.num.natAbs) (denT q.den) (rdR (ratV q))=true
  have hb:∀x:ByteArray,(x==x)=true:=fun⟨x⟩=>by
   show(x==x)=true
   exact beq_self_eq_true x
  rw [rdR_ratV,canonQ,beq_self_eq_true,hb,hb]
  rfl
 unfold canonP ptQ
 show(canonB (rsQ x).v&&canonB (rsQ y).v)=true
 rw [h,h]
 rfl
theorem part_q {m:Int} (h0:0≤m) (h1:m < 256):0≤Rat.divInt m 255∧Rat.divInt m 255≤1:=by
 have e:Rat.divInt m 255*255=(m:Rat):=by
  rw [Rat.divInt_eq_div]
  exact Rat.div_mul_cancel (by decide)
 have k0:(0:Rat)≤(m:Rat):=by exact_mod_cast h0
 have k1:(m:Rat)≤((255:Int):Rat):=Rat.intCast_le_intCast.2 (by omega)
 have k2:((255:Int):Rat)=255:=rfl
 rw [k2] at k1
 constructor<;>grind
theorem part_qb:∀m:Nat,m < 256→(Rat.divInt (m:Int) 255).num.natAbs < 256^2∧(Rat.divInt (m:Int) 255).den < 256^2:=by
 decide +kernel
theorem part_le {m:Int} (h0:0≤m) (h1:m < 256):QB 2 (Rat.divInt m 255):=by
 obtain⟨n,rfl⟩:=Int.eq_ofNat_of_zero_le h0
 exact part_qb n (by omega)
theorem atP_X (a b:PtS) (r:RatS):(atP a b r).X=a.X+(b.X - a.X)*r.q:=by
 unfold atP addP sclP subP
 rw [ptQ_X,ptQ_X,ptQ_X]
theorem atP_Y (a b:PtS) (r:RatS):(atP a b r).Y=a.Y+(b.Y - a.Y)*r.q:=by
 unfold atP addP sclP subP
 rw [ptQ_Y,ptQ_Y,ptQ_Y]
theorem atP_le {i j k:Nat} {a b:PtS} {r:RatS} (h1:PtS.le i a) (h2:PtS.le j b) (h3:RatS.le k r):(atP a b r).le (i+(j+i+3+k+3)+3):=addP_le h1 (sclP_le (subP_le h2 h1) h3)
theorem canonP_atP (a b:PtS) (r:RatS):canonP (atP a b r)=true:=canonP_ptQ _ _
theorem see_sym {lo hi:PtS} {k:Nat} {c:Nat→List PV} {l:Nat} {o:Nat→List PV} {a b:PtS} (hr:regE lo hi k (pn c) (fun i=>pts (pg c i)) l (ow o)=0) (ha:canonP a=true) (hb:canonP b=true):seeB lo hi k c l o b a=seeB lo hi k c l o a b:=by
 rw [Bool.eq_iff_iff,seeB_iff hr hb ha,seeB_iff hr ha hb]
 exact⟨SeeM.symm,SeeM.symm⟩
theorem see_part {lo hi:PtS} {k:Nat} {c:Nat→List PV} {l:Nat} {o:Nat→List PV} {a b d:PtS} {q:Rat} (hr:regE lo hi k (pn c) (fun i=>pts (pg c i)) l (ow o)=0) (ha:canonP a=true) (hb:canonP b=true) (hd:canonP d=true) (hx:d.X=a.X+(b.X - a.X)*q) (hy:d.Y=a.Y+(b.Y - a.Y)*q) (h0:0≤q) (h1:q≤1) (h:seeB lo hi k c l o a b=true):(seeB lo hi k c l o a d=true∧seeB lo hi k c l o d b=true)∧seeB lo hi k c l o a a=true∧seeB lo hi k c l o b b=true∧seeB lo hi k c l o d d=true:=by
 have m:=(seeB_iff hr ha hb).1 h
 have m2:SeeM lo hi k c b d:=m.symm.part (q:=1 - q) (by grind) (by grind) (by grind) (by grind)
 exact⟨⟨(seeB_iff hr ha hd).2 (m.part h0 h1 hx hy),(seeB_iff hr hd hb).2 m2.symm⟩,(seeB_iff hr ha ha).2 m.self,(seeB_iff hr hb hb).2 m.symm.self,(seeB_iff hr hd hd).2 m2.symm.self⟩
theorem fine_get {xs:List PV} {r:Nat→List PV} {a b:PtS} (h0:r 0=a.cells) (h1:r 1=b.cells) (h:fineA xs 2 r=true) (hx:isRg 140737488355328 xs):isRg 12 xs∧(a.le 12∧b.le 12)∧(canonP a=true∧canonP b=true)∧regE (gLo xs) (gHi xs) (gK xs) (pn (gC xs)) (fun i=>pts (pg (gC xs) i)) (gL xs) (ow (gO xs))=0:=by
 have p0:pts r 0=a:=by
  rw [pts,h0]
  rfl
 have p1:pts r 1=b:=by
  rw [pts,h1]
  rfl
 unfold fineA grtA at h
 rw [Bool.and_eq_true,Bool.and_eq_true,Bool.not_eq_true',Bool.not_eq_true',Bool.or_eq_false_iff] at h
 obtain⟨⟨⟨g1,g2⟩,g3⟩,g4⟩:=h
 have b0:=(anyP_false.1 g2) 0 (by decide)
 have b1:=(anyP_false.1 g2) 1 (by decide)
 have c0:=(anyP_false.1 g4) 0 (by decide)
 have c1:=(anyP_false.1 g4) 1 (by decide)
 simp only [p0,p1] at b0 b1 c0 c1
 exact⟨grtF_rg g1 hx,⟨bigP_le b0,bigP_le b1⟩,⟨by simpa using c0,by simpa using c1⟩,reg13_E (eq_of_beq g3)⟩
theorem fine_not {xs:List PV} {r:Nat→List PV} {a b:PtS} (h:(!fineA xs 2 r)=false) (h0:r 0=a.cells) (h1:r 1=b.cells) (hx:isRg 140737488355328 xs):isRg 12 xs∧(a.le 12∧b.le 12)∧(canonP a=true∧canonP b=true)∧regE (gLo xs) (gHi xs) (gK xs) (pn (gC xs)) (fun i=>pts (pg (gC xs) i)) (gL xs) (ow (gO xs))=0 :=
 fine_get h0 h1 (by simpa using h) hx
end Go.Num
namespace Go.Proofs
open Go Go.Ex Go.Num
set_option maxRecDepth 100000
def c6:List PV→Option Ans
 |[.agg [.val (.bool s1),.val (.string b1),.val (.string c1),.val (.bool s2),.val (.string b2),.val (.string c2),.val (.bool s3),.val (.string b3),.val (.string c3),.val (.bool s4),.val (.string b4),.val (.string c4),.rs 1 k c,.rs 3 l o],.val v,.val u,.val (.int .u8 m)]=>some ⟨some ((PtS.le 140737488355328 (PtS.mk ⟨s1,b1,c1⟩ ⟨s2,b2,c2⟩)∧PtS.le 140737488355328 (PtS.mk ⟨s3,b3,c3⟩ ⟨s4,b4,c4⟩))∧isCL 140737488355328 k c∧isOL l o∧isPk 140737488355328 v∧isPk 140737488355328 u∧0≤m∧m < 256),.val (.bool true),[]⟩
 |_=>none
def D6:Opt:={ join:=fun c=>match c with | .region 5 _ _=>true | .region 10 _ _=>true | .region 11 _ _=>true | .region 13 _ _=>true|_=>false }
theorem ok6:funcOk D6.toOrd Tryz.f6 4=true:=by kernel_rfl
theorem f6:FnOk Tryz.prog 6 c6:=by
 refine FnOk.ofW orders (mkE_ok (l:=[(17,c17),(13,c13),(21,c21),(26,c26),(27,c27),(28,c28)]) (own:=[]) (inl:=[]) (by simp [f17,f13,f21,f26,f27,f28]) (by simp)) Tryz.func6 D6 4 ok6 fun args r e=>?_
 unfold c6 at e
 split at e
 ·rename_i s1 b1 c1 s2 b2 c2 s3 b3 c3 s4 b4 c4 k c l o v u m
  cases e
  refine⟨by simp,fun hm=>?_⟩
  obtain⟨⟨hlo,hhi⟩,⟨hc,hk⟩,⟨ho,hl⟩,⟨a,rfl,ha⟩,⟨b,rfl,hb⟩,hm0⟩:=hm _ rfl
  clear hm
  obtain⟨lo,hlo'⟩:∃p,p=(PtS.mk ⟨s1,b1,c1⟩ ⟨s2,b2,c2⟩):=⟨_,rfl⟩
  obtain⟨hi,hhi'⟩:∃p,p=(PtS.mk ⟨s3,b3,c3⟩ ⟨s4,b4,c4⟩):=⟨_,rfl⟩
  have hc1:∀i,i < k→[.rs 6 (pn c i) (pg c i)]=c i:=fun i hi=>(hc i hi).1.symm
  have ho1:∀i,i < l→cellsO (ow o i)=o i:=fun i hi=>(ho i hi).symm
  refine⟨[],stOf [(0,.agg (regC (PtS.mk ⟨s1,b1,c1⟩ ⟨s2,b2,c2⟩) (PtS.mk ⟨s3,b3,c3⟩ ⟨s4,b4,c4⟩) k c l o)),(1,.val a.v),(2,.val b.v),(3,.val (.int .u8 m))] [] 0 [],Wo trivial ⟨⟨rfl,rfl,rfl,rfl,rfl,rfl,rfl,rfl,rfl,rfl,rfl,rfl,⟨rfl,rfl,hc1⟩,⟨rfl,rfl,ho1⟩,qQ⟩,rfl,rfl,rfl,qQ⟩ trivial,?_⟩
  rw [←hlo'] at hlo ⊢
  rw [←hhi'] at hhi ⊢
  clear hlo' hhi'
  have hX:isRg 140737488355328 (regC lo hi k c l o):=⟨rfl,⟨hlo,hhi⟩,⟨fun i hi=>⟨rfl,(hc i hi).2⟩,hk⟩,fun _ _=>rfl,hl⟩
  have p2:∀r:Nat→List PV,r 0=a.cells→r 1=b.cells→isPL 140737488355328 2 r:=fun r h h'=>⟨fun i hi=>by
   match i,hi with
   |0,_=>exact⟨by rw [pts,h];rfl,by rw [pts,h];exact ha⟩
   |1,_=>exact⟨by rw [pts,h'];rfl,by rw [pts,h'];exact hb⟩
   |i+2,h=>omega,by decide⟩
  with_unfolding_all refine⟨⟨hX,p2 _ rfl rfl⟩,fun h1=>⟨[],stOf [(8,.val (.bool true))] [] 0 [],Wo trivial ⟨rfl,qQ⟩ trivial,rfl,rfl⟩,fun h1=>?_⟩
  obtain⟨hX12,⟨ha12,hb12⟩,⟨ca,cb⟩,hreg0⟩:=fine_not (a:=a) (b:=b) h1 rfl rfl hX
  clear h1 p2
  have hreg:regE lo hi k (pn c) (fun i=>pts (pg c i)) l (ow o)=0:=hreg0
  have hX4:isRg 10000 (regC lo hi k c l o):=hX12.mono (by decide)
  have pa:isPk 10000 a.v:=⟨a,rfl,ha12.mono (by decide)⟩
  have pb:isPk 10000 b.v:=⟨b,rfl,hb12.mono (by decide)⟩
  have hok:∀x y:PtS,canonP x=true→canonP y=true→okB lo hi k c l o (segV x y)=true:=fun x y h h'=>by
   show(!(!canonP x||!canonP y)&&(regE lo hi k (pn c) (fun i=>pts (pg c i)) l (ow o)==0))=true
   rw [h,h',hreg]
   rfl
  have hE:∀x y:PtS,canonP x=true→canonP y=true→PV.val (.int .i64 (okW (okB lo hi k (fun i=>[.rs 6 (pn c i) (pg c i)]) l (fun i=>cellsO (ow o i)) (segV x y))))=PV.val (.int .i64 0):=fun x y h h'=>by
   show PV.val (.int .i64 (okW (okB lo hi k c l o (segV x y))))=PV.val (.int .i64 0)
   rw [hok x y h h']
   rfl
  have hV:∀x y:PtS,∀z:Bool,seeB lo hi k c l o x y=z→PV.val (.bool (seeB lo hi k (fun i=>[.rs 6 (pn c i) (pg c i)]) l (fun i=>cellsO (ow o i)) x y))=PV.val (.bool z):=fun x y z h=>by
   show PV.val (.bool (seeB lo hi k c l o x y))=_
   rw [h]
  have hS:=see_sym (a:=a) (b:=b) hreg ca cb
  with_unfolding_all refine⟨⟨hX4,pa,pb⟩,⟨hX4,pb,pa⟩,⟨Bool×Bool,fun x=>x.1=seeB lo hi k c l o a b∧x.2=seeB lo hi k c l o a a,fun x=>stOf [(3,.val (.int .u8 m)),(4,.ptr 0 0 0 0),(5,.ptr 1 1 0 0),(6,.ptr 2 2 0 0),(8,.val (.bool false)),(9,.val (.bool x.1)),(10,.val (.int .i64 0)),(11,.val (.bool x.1)),(12,.val (.int .i64 0)),(13,.val (.bool x.2)),(14,.val (.int .i64 0))] [⟨31,14,0,true,false,1,fun _=>regC lo hi k c l o⟩,⟨25,6,1,true,false,1,fun _=>a.cells⟩,⟨25,6,2,true,false,1,fun _=>b.cells⟩] 3 [],?_,fun x hx=>?_⟩⟩
  ·with_unfolding_all refine⟨⟨hX4,pa,pa⟩,(seeB lo hi k c l o a b,seeB lo hi k c l o a a),[some 0,some 1,some 2],rq,Wo ⟨qZ ⟨rq,rq,rq,rq,rq,rq,rq,rq,rq,rq,rq,rq,⟨qW,rfl⟩,⟨qW,rfl⟩,qQ⟩,qK,qK,qQ⟩ ⟨rfl,pP,pP,pP,rfl,hV _ _ _ rfl,hE _ _ ca cb,hV _ _ _ hS,hE _ _ cb ca,hV _ _ _ rfl,hE _ _ ca ca,qQ⟩ trivial⟩
  ·obtain⟨x,y⟩:=x
   obtain⟨e1,e2⟩:=hx
   obtain⟨q,hq⟩:∃q,q=Rat.divInt (IntKind.i64.wrap m) 255:=⟨_,rfl⟩
   have hw:IntKind.i64.wrap m=m:=wrap64 (by omega) (by omega)
   have hq':q=Rat.divInt m 255:=by rw [hq,hw]
   have hqb:RatS.le 2 (rsQ q):=by
    rw [hq']
    exact(part_le hm0.1 hm0.2).rs
   have hq01:=part_q hm0.1 hm0.2
   rw [←hq'] at hq01
   obtain⟨d,hd⟩:∃d,d=atP a b (rsQ q):=⟨_,rfl⟩
   have cd:canonP d=true:=by
    rw [hd]
    exact canonP_atP _ _ _
   have pd:isPk 10000 d.v:=by
    rw [hd]
    exact⟨_,rfl,(atP_le ha12 hb12 hqb).mono (by decide)⟩
   have hdX:d.X=a.X+(b.X - a.X)*q:=by rw [hd,atP_X,rsQ_q]
   have hdY:d.Y=a.Y+(b.Y - a.Y)*q:=by rw [hd,atP_Y,rsQ_q]
   have pa1:isPk 1000 a.v:=⟨a,rfl,ha12.mono (by decide)⟩
   have pb1:isPk 1000 b.v:=⟨b,rfl,hb12.mono (by decide)⟩
   have pr1:isRk 1000 (rsQ q).v:=⟨_,_,_,rfl,Nat.le_trans hqb.1 (by decide),Nat.le_trans hqb.2 (by decide)⟩
   have hB:∀z:Bool,seeB lo hi k c l o a a=z→(!(z==seeB lo hi k (fun i=>[.rs 6 (pn c i) (pg c i)]) l (fun i=>cellsO (ow o i)) a a))=true→False:=fun z h kk=>by
    have e:seeB lo hi k (fun i=>[.rs 6 (pn c i) (pg c i)]) l (fun i=>cellsO (ow o i)) a a=z:=h
    rw [e] at kk
    simp at kk
   have hF:∀z:PtS,seeB lo hi k c l o z z=true→(seeB lo hi k (fun i=>[.rs 6 (pn c i) (pg c i)]) l (fun i=>cellsO (ow o i)) z z = !true)→False:=fun z h kk=>by
    have e:seeB lo hi k (fun i=>[.rs 6 (pn c i) (pg c i)]) l (fun i=>cellsO (ow o i)) z z=true:=h
    rw [e] at kk
    cases kk
   have hR:PV.val (.bool (rsQ (Rat.divInt (IntKind.i64.wrap m) 255)).s)=PV.val (.bool (rsQ q).s)∧PV.val (.string (rsQ (Rat.divInt (IntKind.i64.wrap m) 255)).b)=PV.val (.string (rsQ q).b)∧PV.val (.string (rsQ (Rat.divInt (IntKind.i64.wrap m) 255)).c)=PV.val (.string (rsQ q).c):=by
    rw [hq]
    exact⟨rfl,rfl,rfl⟩
   have hD:=cell6 hd.symm
   have nw:IntKind.i64.wrap m < 256∧0≤IntKind.i64.wrap m:=by omega
   cases x with
   |false=>with_unfolding_all refine⟨fun _=>⟨fun _=>⟨fun _=>⟨fun _=>⟨⟨hX4,pa⟩,fun h=>(hB y e2.symm h).elim,fun _=>⟨fun _=>⟨[],stOf [(8,.val (.bool true))] [] 0 [],Wo trivial ⟨rfl,qQ⟩ trivial,rfl,rfl⟩,fun h=>(nomatch h)⟩⟩,fun h=>(nomatch h)⟩,fun h=>(nomatch h)⟩,fun h=>(nomatch h)⟩,fun h=>(nomatch h)⟩
   |true =>
    obtain⟨⟨s1,s2⟩,s3,s4,s5⟩:=see_part hreg ca cb cd hdX hdY hq01.1 hq01.2 e1.symm
    with_unfolding_all refine⟨fun _=>⟨fun _=>⟨fun _=>⟨fun _=>⟨⟨hX4,pa⟩,fun h=>(hB y e2.symm h).elim,fun _=>⟨fun h=>(nomatch h),fun _=>⟨Unit,fun _=>True,fun _=>stOf [(4,.ptr 0 0 0 0),(5,.ptr 1 1 0 0),(6,.ptr 2 2 0 0),(8,.val (.bool false)),(15,.ptr 3 3 0 0)] [⟨31,14,0,true,false,1,fun _=>regC lo hi k c l o⟩,⟨25,6,1,true,false,1,fun _=>a.cells⟩,⟨25,6,2,true,false,1,fun _=>b.cells⟩,⟨23,3,3,true,false,1,fun _=>(rsQ q).cells⟩] 4 [],?_,fun _ _=>?_⟩⟩⟩,fun h=>(nomatch h)⟩,fun h=>(nomatch h)⟩,fun h=>(nomatch h)⟩,fun h=>(nomatch h)⟩
    ·with_unfolding_all refine⟨⟨⟨by omega,by omega⟩,by decide,by decide⟩,(),[some 0,some 1,some 2,some 3],trivial,Wo ⟨qZ ⟨rq,rq,rq,rq,rq,rq,rq,rq,rq,rq,rq,rq,⟨qW,rfl⟩,⟨qW,rfl⟩,qQ⟩,qK,qK,qZ ⟨⟨hR.1,rfl⟩,⟨hR.2.1,rfl⟩,⟨hR.2.2,rfl⟩,qQ⟩,qQ⟩ ⟨pP,pP,pP,rfl,pP,qQ⟩ trivial⟩
    ·with_unfolding_all refine⟨Unit,fun _=>True,fun _=>stOf [(4,.ptr 0 0 0 0),(5,.ptr 1 1 0 0),(6,.ptr 2 2 0 0),(8,.val (.bool false)),(17,.ptr 3 3 0 0)] [⟨31,14,0,true,false,1,fun _=>regC lo hi k c l o⟩,⟨25,6,1,true,false,1,fun _=>a.cells⟩,⟨25,6,2,true,false,1,fun _=>b.cells⟩,⟨25,6,3,true,false,1,fun _=>d.cells⟩] 4 [],?_,fun _ _=>?_⟩
     ·with_unfolding_all refine⟨⟨pa1,pb1,pr1⟩,(),[some 0,some 1,some 2,some 4],trivial,Wo ⟨qZ ⟨rq,rq,rq,rq,rq,rq,rq,rq,rq,rq,rq,rq,⟨qW,rfl⟩,⟨qW,rfl⟩,qQ⟩,qK,qK,qZ ⟨⟨hD.1,rfl⟩,⟨hD.2.1,rfl⟩,⟨hD.2.2.1,rfl⟩,⟨hD.2.2.2.1,rfl⟩,⟨hD.2.2.2.2.1,rfl⟩,⟨hD.2.2.2.2.2,rfl⟩,qQ⟩,qQ⟩ ⟨pP,pP,pP,rfl,pP,qQ⟩ trivial⟩
     ·with_unfolding_all refine⟨⟨hX4,pa,pd⟩,⟨Unit,fun _=>True,fun _=>stOf [(4,.ptr 0 0 0 0),(5,.ptr 1 1 0 0),(6,.ptr 2 2 0 0),(8,.val (.bool false)),(17,.ptr 3 3 0 0),(18,.val (.bool true)),(19,.val (.int .i64 0)),(20,.val (.bool true)),(21,.val (.int .i64 0))] [⟨31,14,0,true,false,1,fun _=>regC lo hi k c l o⟩,⟨25,6,1,true,false,1,fun _=>a.cells⟩,⟨25,6,2,true,false,1,fun _=>b.cells⟩,⟨25,6,3,true,false,1,fun _=>d.cells⟩] 4 [],?_,fun _ _=>?_⟩⟩
      ·with_unfolding_all refine⟨⟨hX4,pd,pb⟩,(),[some 0,some 1,some 2,some 3],trivial,Wo ⟨qZ ⟨rq,rq,rq,rq,rq,rq,rq,rq,rq,rq,rq,rq,⟨qW,rfl⟩,⟨qW,rfl⟩,qQ⟩,qK,qK,qK,qQ⟩ ⟨pP,pP,pP,rfl,pP,hV _ _ _ s1,hE _ _ ca cd,hV _ _ _ s2,hE _ _ cd cb,qQ⟩ trivial⟩
      ·with_unfolding_all exact⟨fun _=>⟨fun _=>⟨fun _=>⟨fun _=>⟨⟨hX4,pa⟩,fun _=>⟨⟨hX4,pb⟩,fun _=>⟨⟨hX4,pd⟩,fun _=>⟨[],stOf [(8,.val (.bool true))] [] 0 [],Wo trivial ⟨rfl,qQ⟩ trivial,rfl,rfl⟩,fun h=>(hF _ s5 h).elim⟩,fun h=>(hF _ s4 h).elim⟩,fun h=>(hF _ s3 h).elim⟩,fun h=>(nomatch h)⟩,fun h=>(nomatch h)⟩,fun h=>(nomatch h)⟩,fun h=>(nomatch h)⟩
 ·cases e
end Go.Proofs
namespace Go.Num
open Go Go.Ex Go.Proofs
theorem eqR_eq {p u:RatS} (h:eqR p u=true):p=u:=by
 have be:∀x y:ByteArray,(x==y)=true→x=y:=fun⟨x⟩ ⟨y⟩ h=>by
  have h:(x==y)=true:=h
  rw [eq_of_beq h]
 unfold eqR at h
 simp only [Bool.and_true,Bool.and_eq_true] at h
 obtain⟨h1,h2,h3⟩:=h
 obtain⟨s,b,c⟩:=p
 obtain⟨s',b',c'⟩:=u
 have h1:=eq_of_beq h1
 have h2:=be _ _ h2
 have h3:=be _ _ h3
 simp only at h1 h2 h3
 rw [h1,h2,h3]
theorem eqP_eq {p u:PtS} (h:eqP p u=true):p=u:=by
 unfold eqP at h
 simp only [Bool.and_true,Bool.and_eq_true] at h
 obtain⟨x,y⟩:=p
 obtain⟨x',y'⟩:=u
 have h1:=eqR_eq h.1
 have h2:=eqR_eq h.2
 simp only at h1 h2
 rw [h1,h2]
end Go.Num
namespace Go.Num
open Go Go.Ex Go.Proofs
theorem ring_get {n:Nat} {p:Nat→PtS} (h:ringE n p=0):(3≤n∧n≤64)∧(∀i,i < n→canonP (p i)=true)∧∀e,e < n→∀i,i < n→badV (p e) (p ((e+1)%n)) (p i)=false:=by
 unfold ringE at h
 cases h1:(decide (n < 3)||decide (64 < n)) with
 |true=>rw [h1] at h;cases h
 |false =>
  rw [h1,cond_false] at h
  cases h2:anyP (fun i=>!canonP (p i)) n with
  |true=>rw [h2] at h;cases h
  |false =>
   rw [h2,cond_false] at h
   cases h3:anyP (fun i=>le0 (p 0) (p (1+i))) (n - 1) with
   |true=>rw [h3] at h;cases h
   |false =>
    rw [h3,cond_false] at h
    cases h4:anyP (fun e=>anyP (fun i=>badV (p e) (p ((e+1)%n)) (p i)) n) n with
    |true=>rw [h4] at h;cases h
    |false =>
     simp only [Bool.or_eq_false_iff,decide_eq_false_iff_not] at h1
     exact⟨by omega,fun i hi=>by simpa using (anyP_false.1 h2) i hi,fun e he i hi=>(anyP_false.1 ((anyP_false.1 h4) e he)) i hi⟩
theorem vertJ_mem {S:PtS→Bool} {p:Nat→PtS} {x:PtS}:∀{j:Nat},x∈vertJ S p j→∃t,t < j∧x=p t∧S x=true
 |0,h=>by cases h
 |j+1,h=>by
  rcases List.mem_append.1 h with h|h
  ·obtain⟨t,h1,h2⟩:=vertJ_mem h
   exact⟨t,by omega,h2⟩
  ·cases hs:S (p j) with
   |true =>
    rw [hs] at h
    have:=List.mem_singleton.1 h
    exact⟨j,by omega,this,by rw [this];exact hs⟩
   |false=>rw [hs] at h;cases h
theorem vertI_mem {S:PtS→Bool} {n:Nat→Nat} {p:Nat→Nat→PtS} {x:PtS}:∀{i:Nat},x∈vertI S n p i→∃s,s < i∧∃t,t < n s∧x=p s t∧S x=true
 |0,h=>by cases h
 |i+1,h=>by
  rcases List.mem_append.1 h with h|h
  ·obtain⟨s,h1,h2⟩:=vertI_mem h
   exact⟨s,by omega,h2⟩
  ·obtain⟨t,h1,h2⟩:=vertJ_mem h
   exact⟨i,by omega,t,h1,h2⟩
theorem vertJ_len (S:PtS→Bool) (p:Nat→PtS):∀j,(vertJ S p j).length≤j
 |0=>Nat.le_refl _
 |j+1=>by
  have:=vertJ_len S p j
  rw [vertJ,List.length_append]
  cases S (p j)<;>simp<;>omega
theorem vertI_len (S:PtS→Bool) (n:Nat→Nat) (p:Nat→Nat→PtS):∀i,(vertI S n p i).length≤sumN n i
 |0=>Nat.le_refl _
 |i+1=>by
  have:=vertI_len S n p i
  have:=vertJ_len S (p i) (n i)
  rw [vertI,List.length_append,sumN]
  omega
theorem cornL_mem {lo hi:PtS} {k:Nat} {c:Nat→List PV} {l:Nat} {o:Nat→List PV} {x:PtS} (h:x∈cornL lo hi k c l o):x∈vertC lo hi k c l o:=by
 obtain⟨i,hi2,e⟩:=cmpct_mem h
 refine(srtP_perm _).mem_iff.1 ?_
 rw [e]
 unfold vertP
 rw [List.getElem?_eq_getElem (by rw [srtP_size];exact hi2)]
 exact List.getElem_mem _
theorem vertC_canon {lo hi:PtS} {k:Nat} {c:Nat→List PV} {l:Nat} {o:Nat→List PV} (hr:regE lo hi k (pn c) (fun i=>pts (pg c i)) l (ow o)=0) {x:PtS} (h:x∈vertC lo hi k c l o):canonP x=true:=by
 obtain⟨s,hs,t,ht,e,_⟩:=vertI_mem h
 rw [e]
 exact(ring_get (regE_ring hr s hs)).2.1 t ht
theorem regE_k {lo hi:PtS} {k:Nat} {n:Nat→Nat} {p:Nat→Nat→PtS} {l:Nat} {q:Nat→Int×Int×Int} (hr:regE lo hi k n p l q=0):k≤32:=by
 unfold regE at hr
 cases h1:(!canonP lo||!canonP hi) with
 |true=>rw [h1] at hr;cases hr
 |false =>
  rw [h1,cond_false] at hr
  cases h2:decide (32 < k) with
  |true=>rw [h2] at hr;cases hr
  |false=>have:=of_decide_eq_false h2;omega
theorem fine_sum {xs:List PV} {n:Nat} {r:Nat→List PV} (h:fineA xs n r=true):sumN (pn (gC xs)) (gK xs)≤24:=by
 unfold fineA grtA at h
 rw [Bool.and_eq_true,Bool.and_eq_true,Bool.not_eq_true',Bool.or_eq_false_iff] at h
 obtain⟨⟨⟨g1,_⟩,g3⟩,_⟩:=h
 have hr:=reg13_E (eq_of_beq g3)
 have hk:gK xs≤32:=regE_k hr
 unfold grtF at g1
 simp only [Bool.or_eq_false_iff,Bool.and_eq_false_iff,decide_eq_false_iff_not] at g1
 omega
theorem sumN_le {n:Nat→Nat}:∀{i k:Nat},i≤k→sumN n i≤sumN n k
 |i,0,h=>by rw [Nat.le_zero.1 h];exact Nat.le_refl _
 |i,k+1,h=>by
  by_cases e:i=k+1
  ·rw [e];exact Nat.le_refl _
  ·exact Nat.le_trans (sumN_le (k:=k) (by omega)) (Nat.le_add_right _ _)
theorem fine_sumN {xs:List PV} {n:Nat} {r:Nat→List PV} (h:(!fineA xs n r)=false):sumN (pn (gC xs)) (gK xs)≤24:=fine_sum (by simpa using h)
end Go.Num
namespace Go.Num
open Go Go.Ex Go.Proofs
theorem canon_rs {r:RatS} (h:canonB r.v=true):r=rsQ r.q:=by
 have be:∀x y:ByteArray,(x==y)=true→x=y:=fun⟨x⟩ ⟨y⟩ h=>by
  have h:(x==y)=true:=h
  rw [eq_of_beq h]
 obtain⟨s,b,c⟩:=r
 have h:canonQ s b c (rdR (RatS.v ⟨s,b,c⟩))=true:=h
 unfold canonQ at h
 simp only [Bool.and_true,Bool.and_eq_true] at h
 obtain⟨h1,h2,h3⟩:=h
 have h1:=eq_of_beq h1
 have h2:=be _ _ h2
 have h3:=be _ _ h3
 unfold RatS.q rsQ
 generalize rdR (RatS.v ⟨s,b,c⟩)=q at *
 rw [h1,h2,h3]
theorem canon_eq {p u:PtS} (hp:canonP p=true) (hu:canonP u=true) (hx:p.X=u.X) (hy:p.Y=u.Y):p=u:=by
 unfold canonP at hp hu
 rw [Bool.and_eq_true] at hp hu
 obtain⟨x,y⟩:=p
 obtain⟨x',y'⟩:=u
 have a1:=canon_rs hp.1
 have a2:=canon_rs hp.2
 have a3:=canon_rs hu.1
 have a4:=canon_rs hu.2
 simp only at a1 a2 a3 a4
 have hx:x.q=x'.q:=hx
 have hy:y.q=y'.q:=hy
 rw [a1,a2,a3,a4,hx,hy]
theorem cmpP_eq0 {p u:PtS} (h1:¬cmpP p u < 0) (h2:¬cmpP u p < 0):p.X=u.X∧p.Y=u.Y:=by
 rw [cmpP_lt0] at h1 h2
 grind
theorem cmpP_le_lt {p u v:PtS} (h1:¬cmpP u p < 0) (h2:cmpP u v < 0):cmpP p v < 0:=by
 rw [cmpP_lt0] at *
 grind
theorem cmpct_strict {p:Nat→PtS} {n:Nat} (hs:∀i j,i < j→j < n→¬cmpP (p j) (p i) < 0) (hc:∀i,i < n→canonP (p i)=true):∀j,j≤n→(cmpct p j).Pairwise fun x y=>cmpP x y < 0
 |0,_=>List.Pairwise.nil
 |j+1,hj=>by
  rw [cmpct,List.pairwise_append]
  refine⟨cmpct_strict hs hc j (by omega),?_,fun x hx y hy=>?_⟩
  ·cases (j==0||!eqP (p j) (p (j - 1)))<;>simp
  ·obtain⟨i,hi,e⟩:=cmpct_mem hx
   cases hb:(j==0||!eqP (p j) (p (j - 1))) with
   |false=>rw [hb] at hy;cases hy
   |true =>
    rw [hb] at hy
    rw [List.mem_singleton.1 hy,e]
    have hne:eqP (p j) (p (j - 1))=false:=by
     have:(j==0)=false:=by simp;omega
     rw [this] at hb
     simpa using hb
    have h1:cmpP (p (j - 1)) (p j) < 0:=by
     by_cases h:cmpP (p (j - 1)) (p j) < 0
     ·exact h
     ·have h2:=cmpP_eq0 h (hs (j - 1) j (by omega) (by omega))
      have h3:=canon_eq (hc (j - 1) (by omega)) (hc j (by omega)) h2.1 h2.2
      rw [h3,eqP_refl] at hne
      cases hne
    by_cases hij:i=j - 1
    ·rw [hij]
     exact h1
    ·exact cmpP_le_lt (hs i (j - 1) (by omega) (by omega)) h1
theorem cmpct_has {p:Nat→PtS} {i:Nat}:∀{n:Nat},i < n→p i∈cmpct p n
 |0,h=>by omega
 |n+1,h=>by
  rw [cmpct]
  by_cases e:i=n
  ·subst e
   cases hb:(i==0||!eqP (p i) (p (i - 1))) with
   |true=>exact List.mem_append_right _ (List.mem_singleton.2 rfl)
   |false =>
    have h2:i≠0∧eqP (p i) (p (i - 1))=true:=by simpa using hb
    refine List.mem_append_left _ ?_
    rw [eqP_eq h2.2]
    exact cmpct_has (by omega)
  ·exact List.mem_append_left _ (cmpct_has (by omega))
theorem vertJ_has {S:PtS→Bool} {p:Nat→PtS} {t:Nat} (hS:S (p t)=true):∀{j:Nat},t < j→p t∈vertJ S p j
 |0,h=>by omega
 |j+1,h=>by
  rw [vertJ]
  by_cases e:t=j
  ·subst e
   rw [hS]
   exact List.mem_append_right _ (List.mem_singleton.2 rfl)
  ·exact List.mem_append_left _ (vertJ_has hS (by omega))
theorem vertI_has {S:PtS→Bool} {n:Nat→Nat} {p:Nat→Nat→PtS} {s t:Nat} (ht:t < n s) (hS:S (p s t)=true):∀{i:Nat},s < i→p s t∈vertI S n p i
 |0,h=>by omega
 |i+1,h=>by
  rw [vertI]
  by_cases e:s=i
  ·subst e
   exact List.mem_append_right _ (vertJ_has hS ht)
  ·exact List.mem_append_left _ (vertI_has ht hS (by omega))
theorem vertP_mem {L:List PtS} {i:Nat} (hi:i < L.length):vertP L i∈L:=by
 unfold vertP
 rw [List.getElem?_eq_getElem hi]
 exact List.getElem_mem hi
theorem mem_vertP {L:List PtS} {x:PtS} (h:x∈L):∃i,i < L.length∧x=vertP L i:=by
 obtain⟨i,hi,e⟩:=List.mem_iff_getElem.1 h
 exact⟨i,hi,by rw [←e,vertP,List.getElem?_eq_getElem hi];rfl⟩
theorem any_mem {L:List PtS} {x:PtS}:anyP (fun i=>eqP x (vertP L i)) L.length=true↔x∈L:=by
 rw [anyP_true]
 constructor
 ·rintro ⟨i,hi,e⟩
  rw [eqP_eq e]
  exact vertP_mem hi
 ·intro h
  obtain⟨i,hi,e⟩:=mem_vertP h
  exact⟨i,hi,by rw [←e];exact eqP_refl x⟩
def catL (n:Nat→Nat) (p:Nat→Nat→PtS) (k:Nat):List PtS:=vertI (fun _=>true) n p k
theorem cornL_iff {lo hi:PtS} {k:Nat} {c:Nat→List PV} {l:Nat} {o:Nat→List PV} {x:PtS}:x∈cornL lo hi k c l o↔x∈catL (pn c) (fun i=>pts (pg c i)) k∧seeB lo hi k c l o x x=true:=by
 constructor
 ·intro h
  obtain⟨s,hs,t,ht,e,hS⟩:=vertI_mem (cornL_mem h)
  refine⟨?_,hS⟩
  rw [e]
  exact vertI_has (S:=fun _=>true) (p:=fun i=>pts (pg c i)) ht rfl hs
 ·rintro ⟨h,hS⟩
  obtain⟨s,hs,t,ht,e,_⟩:=vertI_mem h
  have hv:x∈vertC lo hi k c l o:=by
   rw [e] at hS ⊢
   exact vertI_has (S:=fun p=>seeB lo hi k c l o p p) (p:=fun i=>pts (pg c i)) ht hS hs
  obtain⟨i,hi2,e2⟩:=mem_vertP ((srtP_perm _).mem_iff.2 hv)
  rw [e2]
  exact cmpct_has (by rw [srtP_size] at hi2;exact hi2)
theorem cornL_strict {lo hi:PtS} {k:Nat} {c:Nat→List PV} {l:Nat} {o:Nat→List PV} (hr:regE lo hi k (pn c) (fun i=>pts (pg c i)) l (ow o)=0) (hc:isCL 10000 k c):(cornL lo hi k c l o).Pairwise fun x y=>cmpP x y < 0:=by
 have hv:=vertC_le (lo:=lo) (hi:=hi) (l:=l) (o:=o) hc
 have hp:=List.pairwise_iff_getElem.1 (srtP_sorted hv)
 refine cmpct_strict (fun i j h1 h2=>?_) (fun i hi2=>?_) _ (Nat.le_refl _)
 ·have hj:j < (srtP (vertC lo hi k c l o)).length:=by rw [srtP_size];exact h2
  unfold vertP
  rw [List.getElem?_eq_getElem hj,List.getElem?_eq_getElem (by omega)]
  exact hp i j (by omega) hj h1
 ·exact vertC_canon hr ((srtP_perm _).mem_iff.1 (vertP_mem (by rw [srtP_size];exact hi2)))
end Go.Num
namespace Go.Proofs
open Go Go.Ex
def renG:Shelf.Ren where
 f:=fun x=>match x with
  |4=>79
  |n=>n
 t:=fun x=>match x with
  |22=>34
  |n=>n
 g:=fun n=>n
theorem laysG:Lays8.n4 Tryz.prog renG :=
 { mixed:=orders,f4:=⟨Tryz.f79.name,by kernel_rfl,Eq.trans Tryz.func79 (congrArg some (by kernel_rfl))⟩,t0:=Tryz.underlying0,a0:=Tryz.isAgg0,z0:=Tryz.sizeOf0,v0:=Tryz.zeroValue0,t3:=Tryz.underlying3,a3:=Tryz.isAgg3,z3:=Tryz.sizeOf3,v3:=Tryz.zeroValue3,t4:=Tryz.underlying4,a4:=Tryz.isAgg4,z4:=Tryz.sizeOf4,v4:=Tryz.zeroValue4,t9:=Tryz.underlying9,a9:=Tryz.isAgg9,z9:=Tryz.sizeOf9,v9:=Tryz.zeroValue9,t20:=Tryz.underlying20,a20:=Tryz.isAgg20,z20:=Tryz.sizeOf20,v20:=Tryz.zeroValue20,t22:=Tryz.underlying34,a22:=Tryz.isAgg34,z22:=Tryz.sizeOf34,v22:=Tryz.zeroValue34 }
end Go.Proofs
namespace Go.Ex
open Go Go.RowKit Go.Proofs
def c79:List PV→Option Ans
 |[.val (.slice none 0 0),.val (.int .i64 n)]=>some ⟨some (0≤n∧n≤1000000),.sl 0 0 0 0,[⟨25,6,0,false,false,0,fun _=>[]⟩]⟩
 |_=>none
theorem zero25:∃z,Tryz.t25.zero=some z∧z.cells.size=6:=⟨_,rfl,by kernel_rfl⟩
theorem ok79:funcOk ({}:Opt).toOrd Tryz.f79 2=true:=by kernel_rfl
theorem f79:FnOk Tryz.prog 79 c79:=by
 intro args r e
 refine⟨fun vs w=>?_,fun hm A w vs hA hl hR=>?_⟩
 ·obtain⟨⟨c,hb,h1⟩,h2,h3,h4⟩:=funcOk_spec ok79
  exact callFunc_enter Tryz.func79 h4 hb vs w
 unfold c79 at e
 split at e
 ·rename_i n
  cases e
  obtain⟨h0,h1⟩:=hm _ rfl
  obtain⟨m,rfl⟩:=Int.eq_ofNat_of_zero_le h0
  obtain⟨vl⟩:=vs
  match vl,hl,hR with
  |[u,v],hl,hR =>
   have e1:=(hR 0 _ u rfl rfl).val_eq
   have e2:=(hR 1 _ v rfl rfl).val_eq
   subst e1
   subst e2
   have done:∀(z:Value) (w':World),Below w.heap.size w w'→z.oneCell'=true→sub 6 0 0 z=z→w'.ownsRow w.heap.size 25 6 z 0 []→Res A w w' (.sl 0 0 0 0) [⟨25,6,0,false,false,0,fun _=>[]⟩] (fun _=>z) z:=fun z w' hb hz hs ho=>by
    refine⟨hb,fun id b e=>?_,fun id b e=>?_,fun id id' h a b=>?_,?_⟩
    ·match id,e with
     |0,e=>cases e;exact⟨rfl,rfl,rfl⟩
     |id+1,e=>cases e
    ·match id,e with
     |0,e =>
      cases e
      exact⟨[],ho,fun i hi=>absurd hi (Nat.not_lt_zero i),fun i f p hi=>absurd hi (Nat.not_lt_zero i)⟩
     |id+1,e=>cases e
    ·simp only [List.length_cons,List.length_nil] at a b
     omega
    ·refine .sl 0 0 0 0 z hz Nat.zero_lt_one fun b e=>?_
     cases e
     exact⟨.inl hs.symm,Nat.le_refl _⟩
   rcases Nat.eq_zero_or_pos m with h2|h2
   ·subst h2
    refine(Any8.slices_Grow_room laysG none 0 0 0 w (Nat.le_refl _) (by decide) (by decide) (Nat.le_refl _)).mono ?_
    rintro e w' ⟨rfl,rfl⟩
    exact⟨_,_,rfl,done _ _ (Below.refl _ _) rfl rfl ⟨rfl,.inl ⟨rfl,rfl⟩⟩⟩
   ·obtain⟨z,hz1,hz⟩:=zero25
    refine(Any8.slices_Grow_grow laysG Tryz.t25 z (by kernel_rfl) hz1 (by decide) none 0 0 m [] w (Nat.le_refl _) (by omega) ?_ (by omega) rfl (fun _=>rfl) (fun a h=>by cases h)).mono ?_
    ·have:Tryz.t25.bytes=80:=by kernel_rfl
     rw [this]
     omega
    ·rintro e w' ⟨rfl,rfl⟩
     have hG:=grownCap_ge w (0+m) 0 25
     have hG2:=grownCap_le_maxLen w (0+m) 0 25 (by unfold maxLen;omega)
     refine⟨_,_,rfl,done _ _ ((Below.refl _ _).drew.alloc (Nat.le_refl _) _) rfl ?_ ⟨rfl,.inr ⟨_,_,_,rfl,Nat.le_refl _,World.alloc_heap_new w.drew _,Nat.zero_le _,hG2,?_,rfl⟩⟩⟩
     ·simp [sub,Addr.add_mid]
     ·simp only [Array.size_append,size_zeroCells,hz]
      show 0+(0+m - 0)*6+(grownCap w (0+m) 0 25 - (0+m))*6=grownCap w (0+m) 0 25*6
      omega
  |[],hl,_=>simp at hl
  |[_],hl,_=>simp at hl
  |_::_::_::_,hl,_=>simp at hl
 ·cases e
end Go.Ex
namespace Go.Num
open Go Go.Ex Go.Proofs
theorem catL_len (n:Nat→Nat) (p:Nat→Nat→PtS):∀k,(catL n p k).length=sumN n k
 |0=>rfl
 |k+1=>by
  have h:∀j,(vertJ (fun _=>true) (p k) j).length=j:=fun j=>by
   induction j with
   |zero=>rfl
   |succ j ih=>rw [vertJ,List.length_append,ih];rfl
  unfold catL
  rw [vertI,List.length_append,h,sumN]
  exact congrArg (·+n k) (catL_len n p k)
theorem catL_get (n:Nat→Nat) (p:Nat→Nat→PtS) (k t:Nat) (ht:t < sumN n (k+1)):vertP (catL n p (k+1)) t=if t < sumN n k then vertP (catL n p k) t else p k (t - sumN n k):=by
 have h:∀j t,t < j→(vertJ (fun _=>true) (p k) j)[t]? = some (p k t)∧(vertJ (fun _=>true) (p k) j).length=j:=fun j=>by
  induction j with
  |zero=>intro t h;omega
  |succ j ih =>
   intro t h
   have hl:(vertJ (fun _=>true) (p k) j).length=j:=by
    rcases Nat.eq_zero_or_pos j with e|e
    ·subst e;rfl
    ·exact(ih 0 e).2
   rw [vertJ]
   refine⟨?_,by rw [List.length_append,hl];rfl⟩
   by_cases e:t=j
   ·subst e
    rw [List.getElem?_append_right (by omega),hl,Nat.sub_self]
    rfl
   ·rw [List.getElem?_append_left (by omega)]
    exact(ih t (by omega)).1
 have hl:=catL_len n p k
 unfold vertP
 show((catL n p k++vertJ (fun _=>true) (p k) (n k))[t]?).getD _=_
 rw [sumN] at ht
 by_cases e:t < sumN n k
 ·rw [if_pos e,List.getElem?_append_left (by omega)]
 ·rw [if_neg e,List.getElem?_append_right (by omega),hl,(h (n k) (t - sumN n k) (by omega)).1]
  rfl
end Go.Num
namespace Go.Proofs
open Go Go.Ex Go.Num
set_option maxRecDepth 100000
def c36:List PV→Option Ans
 |[.rs 1 k c]=>some ⟨some (isCL 10000 k c∧sumN (pn c) k≤1000),.rs 6 (catL (pn c) (fun i=>pts (pg c i)) k).length (fun t=>(vertP (catL (pn c) (fun i=>pts (pg c i)) k) t).cells),[]⟩
 |_=>none
theorem ok36:funcOk {} Tryz.f36 1=true:=by kernel_rfl
theorem f36:FnOk Tryz.prog 36 c36:=by
 refine FnOk.ofW orders (mkE_ok (l:=[(79,c79)]) (own:=[79]) (inl:=[]) (by simp [f79]) (by simp)) Tryz.func36 {} 1 ok36 fun args r e=>?_
 unfold c36 at e
 split at e
 ·rename_i k c
  cases e
  refine⟨by simp,fun hm=>?_⟩
  obtain⟨⟨hc,hk⟩,hs⟩:=hm _ rfl
  refine⟨[],stOf [(0,.rs 1 k (fun i=>[.rs 6 (pn c i) (pg c i)]))] [] 0 [],Wo trivial ⟨⟨rfl,rfl,fun i hi=>(hc i hi).1.symm⟩,qQ⟩ trivial,?_⟩
  with_unfolding_all refine⟨Nat,fun i=>i≤k,fun i=>stOf [(0,.rs 1 k (fun i=>[.rs 6 (pn c i) (pg c i)])),(3,.val (goInt (sumN (pn c) i:Nat))),(9,.rs 1 k (fun i=>[.rs 6 (pn c i) (pg c i)])),(10,.val (goInt k)),(11,.val (goInt (i:Nat)))] [] 0 [],fun i=>k - i,⟨0,[],Nat.zero_le _,Wo trivial ⟨qW,rfl,qW,rfl,rfl,qQ⟩ trivial⟩,fun i hi1=>?_⟩
  replace hi1:i≤k:=hi1
  with_unfolding_all refine⟨fun h1=>?_,fun h1=>?_⟩
  ·have hik:i < k:=by
    have:=of_decide_eq_true h1
    exact Int.ofNat_lt.1 this
   have hsi:sumN (pn c) (i+1)≤sumN (pn c) k:=sumN_le hik
   have hs2:sumN (pn c) (i+1)=sumN (pn c) i+pn c i:=rfl
   have hw:IntKind.i64.wrap ((sumN (pn c) i:Int)+(pn c (i:Int).toNat:Int))=((sumN (pn c) (i+1):Nat):Int):=by
    rw [Int.toNat_natCast,wrap64 (by omega) (by omega),hs2]
    rfl
   have v3:PV.val (.int .i64 (IntKind.i64.wrap ((sumN (pn c) i:Int)+(pn c (i:Int).toNat:Int))))=PV.val (goInt (sumN (pn c) (i+1):Nat)):=by rw [hw];rfl
   have no:decide (IntKind.i64.wrap ((sumN (pn c) i:Int)+(pn c (i:Int).toNat:Int)) < 0)=true→False:=fun h=>by
    rw [hw] at h
    have:=of_decide_eq_true h
    omega
   have vi:PV.val (.int .i64 (IntKind.i64.wrap ((i:Int)+1)))=PV.val (goInt ((i+1:Nat):Int)):=by
    rw [wrap64 (by omega) (by omega)]
    rfl
   have hμ : k - (i+1) < k - i:=by omega
   with_unfolding_all exact⟨⟨Int.natCast_nonneg i,of_decide_eq_true h1⟩,fun h=>no h,fun _=>⟨i+1,[],hik,hμ,Wo trivial ⟨qW,v3,qW,rfl,vi,qQ⟩ trivial⟩⟩
  ·have hik:i=k:=by
    have:¬(i:Int) < k:=of_decide_eq_false h1
    omega
   subst hik
   with_unfolding_all refine⟨⟨Int.natCast_nonneg _,by omega⟩,Nat,fun j=>j≤i,fun j=>stOf [(6,.sl 0 0 0 (sumN (pn c) j)),(25,.rs 1 i (fun i=>[.rs 6 (pn c i) (pg c i)])),(26,.val (goInt i)),(27,.val (goInt (j:Nat)))] [⟨25,6,0,false,false,sumN (pn c) j,fun t=>(vertP (catL (pn c) (fun i=>pts (pg c i)) j) t).cells⟩] 1 [],fun j=>i - j,⟨0,[some 0],Nat.zero_le _,Wo ⟨qZ (fun t ht=>absurd ht (Nat.not_lt_zero t)),qQ⟩ ⟨pP,qW,rfl,rfl,qQ⟩ trivial⟩,fun j hj=>?_⟩
   replace hj:j≤i:=hj
   with_unfolding_all refine⟨fun h2=>?_,fun h2=>?_⟩
   ·have hji:j < i:=by
     have:=of_decide_eq_true h2
     exact Int.ofNat_lt.1 this
    have hsi:sumN (pn c) (j+1)≤sumN (pn c) i:=sumN_le hji
    have hs2:sumN (pn c) (j+1)=sumN (pn c) j+pn c j:=rfl
    have k1:(sumN (pn c) j+pn c (j:Int).toNat)*(79+1)≤140737488355328:=by rw [Int.toNat_natCast];omega
    have k2:sumN (pn c) j+pn c (j:Int).toNat≤9223372036854775807:=by rw [Int.toNat_natCast];omega
    have row:∀t,t < sumN (pn c) j+pn c (j:Int).toNat→(vertP (catL (pn c) (fun i=>pts (pg c i)) (j+1)) t).cells=apd (sumN (pn c) j) (fun t=>(vertP (catL (pn c) (fun i=>pts (pg c i)) j) t).cells) (pg c (j:Int).toNat) t:=fun t ht=>by
     rw [Int.toNat_natCast] at ht ⊢
     rw [catL_get _ _ _ _ (by rw [hs2];exact ht)]
     unfold apd
     split
     ·rfl
     ·exact(((hc j hji).2.1 _ (by omega)).1).symm
    have vi:PV.val (.int .i64 (IntKind.i64.wrap ((j:Int)+1)))=PV.val (goInt ((j+1:Nat):Int)):=by
     rw [wrap64 (by omega) (by omega)]
     rfl
    have hμ : i - (j+1) < i - j:=by omega
    with_unfolding_all exact⟨⟨Int.natCast_nonneg j,of_decide_eq_true h2⟩,⟨rfl,k1,k2⟩,⟨j+1,[some 0],hji,hμ,Wo ⟨qZ (row),qQ⟩ ⟨pP,qW,rfl,vi,qQ⟩ trivial⟩⟩
   ·have hji:j=i:=by
     have:¬(j:Int) < i:=of_decide_eq_false h2
     omega
    have el:(sumN (pn c) j)=(catL (pn c) (fun i=>pts (pg c i)) i).length:=by rw [catL_len,hji]
    have er:∀t,t < (catL (pn c) (fun i=>pts (pg c i)) i).length→(vertP (catL (pn c) (fun i=>pts (pg c i)) i) t).cells=(vertP (catL (pn c) (fun i=>pts (pg c i)) j) (0+t)).cells:=fun t _=>by rw [Nat.zero_add,hji]
    with_unfolding_all exact⟨[],stOf [(2,.rs 6 (catL (pn c) (fun i=>pts (pg c i)) i).length (fun t=>(vertP (catL (pn c) (fun i=>pts (pg c i)) i) t).cells))] [] 0 [],Wo trivial ⟨⟨by simp,_,rfl,rfl,rfl,el,er⟩,qQ⟩ trivial,rfl,rfl⟩
 ·cases e
end Go.Proofs
namespace Go.Num
open Go Go.Ex Go.Proofs
def okRg (lo hi:PtS) (k:Nat) (c:Nat→List PV) (l:Nat) (o:Nat→List PV):Bool:=regE lo hi k (pn c) (fun i=>pts (pg c i)) l (ow o)==0
def cornR (lo hi:PtS) (k:Nat) (c:Nat→List PV) (l:Nat) (o:Nat→List PV):List PtS:=bif okRg lo hi k c l o then cornL lo hi k c l o else []
theorem fine_nil {xs:List PV} {n:Nat} {r:Nat→List PV} (h:(!fineA xs n r)=false) (hx:isRg 140737488355328 xs):isRg 12 xs∧regE (gLo xs) (gHi xs) (gK xs) (pn (gC xs)) (fun i=>pts (pg (gC xs) i)) (gL xs) (ow (gO xs))=0:=by
 have h:fineA xs n r=true:=by simpa using h
 unfold fineA grtA at h
 rw [Bool.and_eq_true,Bool.and_eq_true,Bool.not_eq_true',Bool.or_eq_false_iff] at h
 obtain⟨⟨⟨g1,_⟩,g3⟩,_⟩:=h
 exact⟨grtF_rg g1 hx,reg13_E (eq_of_beq g3)⟩
end Go.Num
namespace Go.Proofs
open Go Go.Ex Go.Num
set_option maxRecDepth 100000
def c17n:List PV→Option Ans
 |[p,.val (.slice none 0 0)]=>c17 [p,.rs 6 0 fun _=>[]]
 |_=>none
theorem f17n:FnOk Tryz.prog 17 c17n:=fun args r e=>by
 unfold c17n at e
 split at e
 ·exact nil_ans (f17 _ r e)
 ·cases e
def c23:List PV→Option Ans
 |[.agg xs]=>some ⟨some (isRg 10000 xs∧(vertC (gLo xs) (gHi xs) (gK xs) (gC xs) (gL xs) (gO xs)).length≤500),.tup [.rs 6 (cornR (gLo xs) (gHi xs) (gK xs) (gC xs) (gL xs) (gO xs)).length (fun i=>(vertP (cornR (gLo xs) (gHi xs) (gK xs) (gC xs) (gL xs) (gO xs)) i).cells),.val (.int .i64 (okW (okRg (gLo xs) (gHi xs) (gK xs) (gC xs) (gL xs) (gO xs))))],[]⟩
 |_=>none
theorem ok23:funcOk {} Tryz.f23 1=true:=by kernel_rfl
theorem f23:FnOk Tryz.prog 23 c23:=by
 refine FnOk.ofW orders (mkE_ok (l:=[(55,c55n),(57,c57)]) (own:=[]) (inl:=[]) (by simp [f55n,f57]) (by simp)) Tryz.func23 {} 1 ok23 fun args r e=>?_
 unfold c23 at e
 split at e
 ·rename_i xs
  cases e
  refine⟨by simp,fun hm=>?_⟩
  obtain⟨⟨h1,⟨hlo,hhi⟩,hcl,hol⟩,hN⟩:=hm _ rfl
  generalize gLo xs=lo at *
  generalize gHi xs=hi at *
  generalize gK xs=k at *
  generalize gC xs=c at *
  generalize gL xs=l at *
  generalize gO xs=o at *
  subst h1
  clear hm
  refine⟨[],stOf [(0,.agg (regC lo hi k c l o))] [] 0 [],Wo trivial ⟨⟨rfl,rfl,rfl,rfl,rfl,rfl,rfl,rfl,rfl,rfl,rfl,rfl,qW,qW,qQ⟩,qQ⟩ trivial,?_⟩
  have hcl':isCL 10000 k (fun i=>[.rs 6 (pn c i) (pg c i)]):=⟨fun i hi=>⟨rfl,(hcl.1 i hi).2⟩,hcl.2⟩
  have hol':isOL l (fun i=>cellsO (ow o i)):=⟨fun _ _=>rfl,hol.2⟩
  have hrg:((lo.le 4294967296∧hi.le 4294967296)∧isCL 10000 k (fun i=>[.rs 6 (pn c i) (pg c i)])∧isOL l (fun i=>cellsO (ow o i))):=⟨⟨hlo.mono (by decide),hhi.mono (by decide)⟩,hcl',hol'⟩
  have hrg3:((lo.le 10000∧hi.le 10000)∧isCL 10000 k (fun i=>[.rs 6 (pn c i) (pg c i)])∧isOL l (fun i=>cellsO (ow o i))):=⟨⟨hlo,hhi⟩,hcl',hol'⟩
  have p0:isPL 4294967296 0 (fun _=>[]):=⟨fun i hi=>absurd hi (Nat.not_lt_zero i),Nat.zero_le _⟩
  obtain⟨E,hE⟩:∃E,E=okRg lo hi k c l o:=⟨_,rfl⟩
  obtain⟨R,hR⟩:∃R,R=cornR lo hi k c l o:=⟨_,rfl⟩
  have eR:R=bif E then cornL lo hi k c l o else []:=by rw [hR,cornR,←hE]
  show vcW _ _ _ _ _ ⟨_,.tup [.rs 6 (cornR lo hi k c l o).length (fun i=>(vertP (cornR lo hi k c l o) i).cells),.val (.int .i64 (okW (okRg lo hi k c l o)))],[]⟩
  rw [←hR,←hE]
  have q1:((regE lo hi k (pn (fun i=>[.rs 6 (pn c i) (pg c i)])) (fun i=>pts (pg (fun i=>[.rs 6 (pn c i) (pg c i)]) i)) l (ow (fun i=>cellsO (ow o i)))==0)&&!anyP (fun i=>!canonP (pts (fun _=>[]) i)) 0)=E:=by
   rw [hE]
   exact Bool.and_true _
  have z:∀B:Bool,(okW B != 0)=true→B=false:=fun B h=>by cases B<;>first|rfl|cases h
  have z':∀B:Bool,(okW B != 0)=false→B=true:=fun B h=>by cases B<;>first|rfl|cases h
  have b0:E=false→R.length=0:=fun h=>by rw [eR,h];rfl
  have v0:PV.val (.int .i64 (okW ((regE lo hi k (pn (fun i=>[.rs 6 (pn c i) (pg c i)])) (fun i=>pts (pg (fun i=>[.rs 6 (pn c i) (pg c i)]) i)) l (ow (fun i=>cellsO (ow o i)))==0)&&!anyP (fun i=>!canonP (pts (fun _=>[]) i)) 0)))=PV.val (.int .i64 (okW E)):=by rw [q1]
  have v1:E=true→PV.val (.int .i64 0)=PV.val (.int .i64 (okW E)):=fun h=>by rw [h];rfl
  have n1:E=true→(cornL lo hi k (fun i=>[.rs 6 (pn c i) (pg c i)]) l (fun i=>cellsO (ow o i))).length=R.length:=fun h=>by rw [eR,h];rfl
  have n2:E=true→∀i,i < R.length→(vertP R i).cells=(vertP (cornL lo hi k (fun i=>[.rs 6 (pn c i) (pg c i)]) l (fun i=>cellsO (ow o i))) i).cells:=fun h=>by rw [eR,h];exact fun _ _=>rfl
  with_unfolding_all exact⟨⟨hrg,p0⟩,fun h1=>⟨[],stOf [(2,.rs 6 R.length (fun i=>(vertP R i).cells)),(3,.val (.int .i64 (okW E)))] [] 0 [],Wo trivial ⟨⟨rfl,b0 (q1.symm.trans (z _ h1))⟩,v0,qQ⟩ trivial,rfl,rfl⟩,fun h1=>⟨⟨hrg3,hN⟩,⟨[],stOf [(2,.rs 6 R.length (fun i=>(vertP R i).cells)),(3,.val (.int .i64 (okW E)))] [] 0 [],Wo trivial ⟨⟨rfl,n1 (q1.symm.trans (z' _ h1)),n2 (q1.symm.trans (z' _ h1))⟩,v1 (q1.symm.trans (z' _ h1)),qQ⟩ trivial,rfl,rfl⟩⟩⟩
 ·cases e
end Go.Proofs
namespace Go.Proofs
open Go Go.Ex Go.Num
set_option maxRecDepth 100000
def c9:List PV→Option Ans
 |[.agg [.val (.bool s1),.val (.string b1),.val (.string c1),.val (.bool s2),.val (.string b2),.val (.string c2),.val (.bool s3),.val (.string b3),.val (.string c3),.val (.bool s4),.val (.string b4),.val (.string c4),.rs 1 k c,.rs 3 l o]]=>some ⟨some ((PtS.le 140737488355328 (PtS.mk ⟨s1,b1,c1⟩ ⟨s2,b2,c2⟩)∧PtS.le 140737488355328 (PtS.mk ⟨s3,b3,c3⟩ ⟨s4,b4,c4⟩))∧isCL 140737488355328 k c∧isOL l o),.val (.bool true),[]⟩
 |_=>none
def D9:Opt:={}
theorem ok9:funcOk D9.toOrd Tryz.f9 1=true:=by kernel_rfl
theorem f9:FnOk Tryz.prog 9 c9:=by
 refine FnOk.ofW orders (mkE_ok (l:=[(17,c17n),(13,c13),(23,c23),(36,c36),(37,c37),(26,c26),(38,c38)]) (own:=[]) (inl:=[]) (by simp [f17n,f13,f23,f36,f37,f26,f38]) (by simp)) Tryz.func9 D9 1 ok9 fun args r e=>?_
 unfold c9 at e
 split at e
 ·rename_i s1 b1 c1 s2 b2 c2 s3 b3 c3 s4 b4 c4 k c l o
  cases e
  refine⟨by simp,fun hm=>?_⟩
  obtain⟨⟨hlo,hhi⟩,⟨hc,hk⟩,ho,hl⟩:=hm _ rfl
  clear hm
  obtain⟨lo,hlo'⟩:∃p,p=(PtS.mk ⟨s1,b1,c1⟩ ⟨s2,b2,c2⟩):=⟨_,rfl⟩
  obtain⟨hi,hhi'⟩:∃p,p=(PtS.mk ⟨s3,b3,c3⟩ ⟨s4,b4,c4⟩):=⟨_,rfl⟩
  have hc1:∀i,i < k→[.rs 6 (pn c i) (pg c i)]=c i:=fun i hi=>(hc i hi).1.symm
  have ho1:∀i,i < l→cellsO (ow o i)=o i:=fun i hi=>(ho i hi).symm
  refine⟨[],stOf [(0,.agg (regC (PtS.mk ⟨s1,b1,c1⟩ ⟨s2,b2,c2⟩) (PtS.mk ⟨s3,b3,c3⟩ ⟨s4,b4,c4⟩) k c l o))] [] 0 [],Wo trivial ⟨⟨rfl,rfl,rfl,rfl,rfl,rfl,rfl,rfl,rfl,rfl,rfl,rfl,⟨rfl,rfl,hc1⟩,⟨rfl,rfl,ho1⟩,qQ⟩,qQ⟩ trivial,?_⟩
  rw [←hlo'] at hlo ⊢
  rw [←hhi'] at hhi ⊢
  clear hlo' hhi'
  have hX:isRg 140737488355328 (regC lo hi k c l o):=⟨rfl,⟨hlo,hhi⟩,⟨fun i hi=>⟨rfl,(hc i hi).2⟩,hk⟩,fun _ _=>rfl,hl⟩
  have p0:isPL 140737488355328 0 (fun _=>[]):=⟨fun i hi=>absurd hi (Nat.not_lt_zero i),Nat.zero_le _⟩
  with_unfolding_all refine⟨⟨hX,p0⟩,fun h1=>⟨[],stOf [(2,.val (.bool true))] [] 0 [],Wo trivial ⟨rfl,qQ⟩ trivial,rfl,rfl⟩,fun h1=>?_⟩
  obtain⟨hX12,hreg0⟩:=fine_nil h1 hX
  have hsum0:=fine_sumN h1
  clear h1
  have hsum:sumN (pn c) k≤24:=hsum0
  have hreg:regE lo hi k (pn c) (fun i=>pts (pg c i)) l (ow o)=0:=hreg0
  have hX4:isRg 10000 (regC lo hi k c l o):=hX12.mono (by decide)
  have hlen:(vertC lo hi k c l o).length≤500:=Nat.le_trans (vertI_len _ _ _ _) (by omega)
  obtain⟨L,hL⟩:∃L,L=cornL lo hi k c l o:=⟨_,rfl⟩
  obtain⟨V,hV⟩:∃V,V=catL (pn c) (fun i=>pts (pg c i)) k:=⟨_,rfl⟩
  have hE:okRg lo hi k (fun i=>[.rs 6 (pn c i) (pg c i)]) l (fun i=>cellsO (ow o i))=true:=by
   show(regE lo hi k (pn c) (fun i=>pts (pg c i)) l (ow o)==0)=true
   rw [hreg]
   rfl
  have hLN:cornR lo hi k (fun i=>[.rs 6 (pn c i) (pg c i)]) l (fun i=>cellsO (ow o i))=L:=by
   unfold cornR
   rw [hE,hL]
   rfl
  have hVN:catL (pn (fun i=>[.rs 6 (pn c i) (pg c i)])) (fun i=>pts (pg (fun i=>[.rs 6 (pn c i) (pg c i)]) i)) k=V:=by
   rw [hV]
   rfl
  have hcl:isCL 10000 k (fun i=>[.rs 6 (pn c i) (pg c i)]):=hX4.2.2.1
  have hLall:∀i,i < L.length→(vertP L i).le 10000:=fun i hi2=>vertP_le (by rw [hL];exact cornL_le (lo:=lo) (hi:=hi) (k:=k) (c:=(fun i=>[.rs 6 (pn c i) (pg c i)])) (l:=l) (o:=(fun i=>cellsO (ow o i))) hcl) hi2
  have n1:(cornR lo hi k (fun i=>[.rs 6 (pn c i) (pg c i)]) l (fun i=>cellsO (ow o i))).length=L.length:=by rw [hLN]
  have n2:∀t,t < L.length→(vertP L t).cells=(vertP (cornR lo hi k (fun i=>[.rs 6 (pn c i) (pg c i)]) l (fun i=>cellsO (ow o i))) t).cells:=fun t _=>by rw [hLN]
  have n3:(catL (pn (fun i=>[.rs 6 (pn c i) (pg c i)])) (fun i=>pts (pg (fun i=>[.rs 6 (pn c i) (pg c i)]) i)) k).length=V.length:=by rw [hVN]
  have n4:∀t,t < V.length→(vertP V t).cells=(vertP (catL (pn (fun i=>[.rs 6 (pn c i) (pg c i)])) (fun i=>pts (pg (fun i=>[.rs 6 (pn c i) (pg c i)]) i)) k) t).cells:=fun t _=>by rw [hVN]
  have n5:PV.val (.int .i64 ((cornR lo hi k (fun i=>[.rs 6 (pn c i) (pg c i)]) l (fun i=>cellsO (ow o i))).length:Int))=PV.val (goInt L.length):=by
   rw [hLN]
   rfl
  have hs36:sumN (pn (fun i=>[.rs 6 (pn c i) (pg c i)])) k≤1000:=Nat.le_trans hsum (by decide)
  have noE:(okW (okRg lo hi k (fun i=>[.rs 6 (pn c i) (pg c i)]) l (fun i=>cellsO (ow o i))) != 0)=true→False:=fun h=>by
   rw [hE] at h
   cases h
  have hVl:V.length≤24:=by
   rw [hV,catL_len]
   exact hsum
  have hLl:L.length≤24:=by
   rw [hL]
   exact Nat.le_trans (cmpct_le _ _) (Nat.le_trans (vertI_len _ _ _ _) hsum)
  have hVall:∀i,i < V.length→(vertP V i).le 10000:=fun i hi2=>by
   obtain⟨s,hs,t,ht,e,_⟩:=vertI_mem (show vertP V i∈catL (pn c) (fun i=>pts (pg c i)) k by rw [←hV];exact vertP_mem hi2)
   rw [e]
   exact(hcl.1 s hs).2.1 t ht |>.2
  have pL:isPL 4294967296 L.length (fun t=>(vertP L t).cells):=⟨fun i hi2=>⟨rfl,(hLall i hi2).mono (by decide)⟩,by omega⟩
  have pV:isPL 4294967296 V.length (fun t=>(vertP V t).cells):=⟨fun i hi2=>⟨rfl,(hVall i hi2).mono (by decide)⟩,by omega⟩
  with_unfolding_all refine⟨⟨hX4,hlen⟩,fun h=>(noE h).elim,fun _=>⟨⟨hcl,hs36⟩,Nat,fun i=>i≤L.length,fun i=>stOf [(1,.ptr 0 0 0 0),(3,.rs 6 L.length (fun t=>(vertP L t).cells)),(5,.rs 6 V.length (fun t=>(vertP V t).cells)),(24,.rs 6 L.length (fun t=>(vertP L t).cells)),(25,.val (goInt L.length)),(26,.val (goInt (i:Nat)))] [⟨31,14,0,true,false,1,fun _=>regC lo hi k c l o⟩] 1 [],fun i=>L.length - i,⟨0,[some 0],Nat.zero_le _,Wo ⟨qZ ⟨rq,rq,rq,rq,rq,rq,rq,rq,rq,rq,rq,rq,⟨qW,rfl⟩,⟨qW,rfl⟩,qQ⟩,qQ⟩ ⟨pP,⟨rfl,n1,n2⟩,⟨rfl,n3,n4⟩,⟨rfl,n1,n2⟩,n5,rfl,qQ⟩ trivial⟩,fun i hi1=>?_⟩⟩
  replace hi1:i≤L.length:=hi1
  with_unfolding_all refine⟨fun h1=>?_,fun h1=>?_⟩
  ·have hiL:i < L.length:=by
    have:=of_decide_eq_true h1
    exact Int.ofNat_lt.1 this
   have hxL:(vertP L (i:Int).toNat)∈L:=by
    rw [Int.toNat_natCast]
    exact vertP_mem hiL
   have hx2:=cornL_iff.1 (show(vertP L (i:Int).toNat)∈cornL lo hi k c l o by rw [←hL];exact hxL)
   have pk:isPk 10000 (vertP L (i:Int).toNat).v:=⟨_,rfl,by rw [Int.toNat_natCast];exact hLall i hiL⟩
   have pk4:isPk 4294967296 (vertP L (i:Int).toNat).v:=⟨_,rfl,by rw [Int.toNat_natCast];exact(hLall i hiL).mono (by decide)⟩
   have aV:anyP (fun t=>eqP (vertP L (i:Int).toNat) (vertP V t)) V.length=true:=any_mem.2 (by rw [hV];exact hx2.1)
   have noA:(!anyP (fun t=>eqP (vertP L (i:Int).toNat) (vertP V t)) V.length) = !false→False:=fun h=>by
    rw [aV] at h
    cases h
   have noB:(!seeB lo hi k (fun i=>[.rs 6 (pn c i) (pg c i)]) l (fun i=>cellsO (ow o i)) (vertP L (i:Int).toNat) (vertP L (i:Int).toNat)) = !false→False:=fun h=>by
    have h:(!seeB lo hi k c l o (vertP L (i:Int).toNat) (vertP L (i:Int).toNat)) = !false:=h
    rw [hx2.2] at h
    cases h
   have wi:0 < i→IntKind.i64.wrap ((i:Int) - 1)=((i - 1:Nat):Int):=fun h=>by rw [wrap64 (by omega) (by omega)];omega
   have i0:decide ((i:Int) > 0)=true→0 < i:=fun h=>by
    have:=of_decide_eq_true h
    omega
   have b2:0 < i→0≤IntKind.i64.wrap ((i:Int) - 1)∧IntKind.i64.wrap ((i:Int) - 1) < L.length:=fun h=>by rw [wi h];omega
   have pk2:0 < i→isPk 4294967296 (vertP L (IntKind.i64.wrap ((i:Int) - 1)).toNat).v:=fun h=>⟨_,rfl,by rw [wi h,Int.toNat_natCast];exact(hLall (i - 1) (by omega)).mono (by decide)⟩
   have noD:0 < i→decide (cmpP (vertP L (IntKind.i64.wrap ((i:Int) - 1)).toNat) (vertP L (i:Int).toNat)≥0)=true→False:=fun h0 h=>by
    have hp:=List.pairwise_iff_getElem.1 (cornL_strict (lo:=lo) (hi:=hi) (k:=k) (c:=(fun i=>[.rs 6 (pn c i) (pg c i)])) (l:=l) (o:=(fun i=>cellsO (ow o i))) hreg hcl) (i - 1) i
    have hL2:cornL lo hi k (fun i=>[.rs 6 (pn c i) (pg c i)]) l (fun i=>cellsO (ow o i))=L:=by
     rw [hL]
     rfl
    simp only [hL2] at hp
    have h3:=hp (by omega) hiL (by omega)
    rw [wi h0,Int.toNat_natCast,Int.toNat_natCast] at h
    unfold vertP at h
    rw [List.getElem?_eq_getElem hiL,List.getElem?_eq_getElem (show i - 1 < L.length by omega)] at h
    have:=of_decide_eq_true h
    simp only [Option.getD_some] at this
    omega
   have vi:PV.val (.int .i64 (IntKind.i64.wrap ((i:Int)+1)))=PV.val (goInt ((i+1:Nat):Int)):=by
    rw [wrap64 (by omega) (by omega)]
    rfl
   have hμ : L.length - (i+1) < L.length - i:=by omega
   with_unfolding_all exact⟨⟨Int.natCast_nonneg i,of_decide_eq_true h1⟩,⟨pV,pk4⟩,fun _=>⟨⟨hX4,pk⟩,fun _=>⟨fun h3=>⟨b2 (i0 h3),⟨pk2 (i0 h3),pk4⟩,fun h4=>(noD (i0 h3) h4).elim,fun _=>⟨i+1,[some 0],hiL,hμ,Wo ⟨qZ ⟨rq,rq,rq,rq,rq,rq,rq,rq,rq,rq,rq,rq,⟨qW,rfl⟩,⟨qW,rfl⟩,qQ⟩,qQ⟩ ⟨pP,qW,qW,qW,rfl,vi,qQ⟩ trivial⟩⟩,fun _=>⟨fun h=>(nomatch h),fun _=>⟨i+1,[some 0],hiL,hμ,Wo ⟨qZ ⟨rq,rq,rq,rq,rq,rq,rq,rq,rq,rq,rq,rq,⟨qW,rfl⟩,⟨qW,rfl⟩,qQ⟩,qQ⟩ ⟨pP,qW,qW,qW,rfl,vi,qQ⟩ trivial⟩⟩⟩,fun h3=>(noB h3).elim⟩,fun h2=>(noA h2).elim⟩
  ·with_unfolding_all refine⟨Nat,fun t=>t≤V.length,fun t=>stOf [(1,.ptr 0 0 0 0),(3,.rs 6 L.length (fun t=>(vertP L t).cells)),(56,.rs 6 V.length (fun t=>(vertP V t).cells)),(57,.val (goInt V.length)),(58,.val (goInt (t:Nat)))] [⟨31,14,0,true,false,1,fun _=>regC lo hi k c l o⟩] 1 [],fun t=>V.length - t,⟨0,[some 0],Nat.zero_le _,Wo ⟨qZ ⟨rq,rq,rq,rq,rq,rq,rq,rq,rq,rq,rq,rq,⟨qW,rfl⟩,⟨qW,rfl⟩,qQ⟩,qQ⟩ ⟨pP,qW,qW,rfl,rfl,qQ⟩ trivial⟩,fun t ht=>?_⟩
   replace ht:t≤V.length:=ht
   with_unfolding_all refine⟨fun h2=>?_,fun h2=>?_⟩
   ·have htV:t < V.length:=by
     have:=of_decide_eq_true h2
     exact Int.ofNat_lt.1 this
    have hxV:(vertP V (t:Int).toNat)∈catL (pn c) (fun i=>pts (pg c i)) k:=by
     rw [Int.toNat_natCast,←hV]
     exact vertP_mem htV
    have pk:isPk 10000 (vertP V (t:Int).toNat).v:=⟨_,rfl,by rw [Int.toNat_natCast];exact hVall t htV⟩
    have pk4:isPk 4294967296 (vertP V (t:Int).toNat).v:=⟨_,rfl,by rw [Int.toNat_natCast];exact(hVall t htV).mono (by decide)⟩
    have same:anyP (fun i=>eqP (vertP V (t:Int).toNat) (vertP L i)) L.length=seeB lo hi k c l o (vertP V (t:Int).toNat) (vertP V (t:Int).toNat):=by
     rw [Bool.eq_iff_iff,any_mem,hL,cornL_iff]
     exact⟨(·.2),fun h=>⟨hxV,h⟩⟩
    have noE2:(!(anyP (fun i=>eqP (vertP V (t:Int).toNat) (vertP L i)) L.length==seeB lo hi k (fun i=>[.rs 6 (pn c i) (pg c i)]) l (fun i=>cellsO (ow o i)) (vertP V (t:Int).toNat) (vertP V (t:Int).toNat)))=true→False:=fun h=>by
     have h:(!(anyP (fun i=>eqP (vertP V (t:Int).toNat) (vertP L i)) L.length==seeB lo hi k c l o (vertP V (t:Int).toNat) (vertP V (t:Int).toNat)))=true:=h
     rw [same,beq_self_eq_true] at h
     cases h
    have vt:PV.val (.int .i64 (IntKind.i64.wrap ((t:Int)+1)))=PV.val (goInt ((t+1:Nat):Int)):=by
     rw [wrap64 (by omega) (by omega)]
     rfl
    have hμ : V.length - (t+1) < V.length - t:=by omega
    with_unfolding_all exact⟨⟨Int.natCast_nonneg t,of_decide_eq_true h2⟩,⟨pL,pk4⟩,⟨hX4,pk⟩,fun h3=>(noE2 h3).elim,fun _=>⟨t+1,[some 0],htV,hμ,Wo ⟨qZ ⟨rq,rq,rq,rq,rq,rq,rq,rq,rq,rq,rq,rq,⟨qW,rfl⟩,⟨qW,rfl⟩,qQ⟩,qQ⟩ ⟨pP,qW,qW,rfl,vt,qQ⟩ trivial⟩⟩
   ·with_unfolding_all exact⟨[],stOf [(2,.val (.bool true))] [] 0 [],Wo trivial ⟨rfl,qQ⟩ trivial,rfl,rfl⟩
 ·cases e
end Go.Proofs
namespace Go.Ex
open Go Go.RowKit
section
variable {H:Type} {enc:TypeId×Value→H} {P:Program} {w:World}
def TypFs (T:TypeId→List PV→Prop):List Field→List PV→Prop
 |[],ps=>ps=[]
 |f::fs,ps=>∃qs rs,ps=qs++rs∧T f.type qs∧TypFs T fs rs
def Typ (P:Program):Nat→TypeId→List PV→Prop
 |0,_,_=>False
 |d+1,t,ps=>match P.underlying t with
  |some .bool=>∃b,ps=[.val (.bool b)]
  |some (.int k)=>∃z,ps=[.val (.int k z)]∧(Lit.int k z).wf=true
  |some .string=>∃s:ByteArray,ps=[.val (.string s)]∧s.size≤140737488355328
  |some (.slice e)=>∃m g,ps=[.rs (P.cellsOf e) m g]∧m≤140737488355328∧∀i,i < m→Typ P d e (g i)
  |some (.struct fs)=>TypFs (Typ P d) fs.toList ps
  |_=>False
def tile (P:Program):Nat→List Field→Option Nat
 |o,[]=>some o
 |o,f::fs=>if f.offset=o then tile P (o+P.cellsOf f.type) fs else none
def plainT (P:Program):Nat→TypeId→Bool
 |0,_=>false
 |d+1,t=>match P.underlying t with
  |some .bool|some (.int _)|some .string=>true
  |some (.slice e)=>plainT P d e&&decide (0 < P.cellsOf e)&&decide (0 < P.bytesOf e)
  |some (.struct fs)=>fs.toList.all (fun f=>plainT P d f.type)&&decide (tile P 0 fs.toList=some (P.cellsOf t))
  |_=>false
def Pt (A:Nat→Prop) (w:World) (ps:List PV) (cs:List Value):Prop:=ps.length=cs.length∧∀(i:Nat) p u,ps[i]? = some p→cs[i]? = some u→R0 A w p u∧cellOk p=true
theorem Pt.append {A:Nat→Prop} {ps qs:List PV} {cs ds:List Value} (h:Pt A w ps cs) (k:Pt A w qs ds):Pt A w (ps++qs) (cs++ds):=by
 refine⟨by rw [List.length_append,List.length_append,h.1,k.1],fun i p u hp hu=>?_⟩
 rw [List.getElem?_append] at hp hu
 rw [←h.1] at hu
 split at hp
 ·rename_i hi
  rw [if_pos hi] at hu
  exact h.2 i p u hp hu
 ·rename_i hi
  rw [if_neg hi] at hu
  exact k.2 _ p u hp hu
theorem fields_typ {A:Nat→Prop} {d n:Nat} {cs:List Value} (hn:cs.length=n):∀{fs:List Field} {o:Nat},tile P o fs=some n →
  (∀f∈fs,∃ps,Typ P d f.type ps∧Pt A w ps ((cs.drop f.offset).take (P.cellsOf f.type)))→∃ps,TypFs (Typ P d) fs ps∧Pt A w ps (cs.drop o)
 |[],o,h,_=>by
  cases h
  refine⟨[],rfl,?_,fun i p u hp=>by simp at hp⟩
  rw [List.length_drop]
  simp only [List.length_nil]
  omega
 |f::fs,o,h,hf=>by
  unfold tile at h
  split at h
  ·rename_i e
   obtain⟨rs,h1,h2⟩:=fields_typ hn h fun f hf'=>hf f (List.mem_cons_of_mem _ hf')
   obtain⟨qs,h3,h4⟩:=hf f List.mem_cons_self
   refine⟨qs++rs,⟨qs,rs,rfl,h3,h1⟩,?_⟩
   rw [e] at h4
   have:=h4.append h2
   rw [←List.drop_drop,List.take_append_drop] at this
   exact this
  ·cases h
theorem trod_typ {A:Nat→Prop} (hA:∀k,k < w.heap.size→A k) {base:Nat} {spare:Nat→Bool} {held:Bool}:∀(d fuel:Nat) {t:TypeId} {cs:List Value} {x:DataW H×List MemPlace},plainT P d t=true →
  DataW.trod enc P w base spare held fuel t cs=some x→(∀n∈x.1.weights P t,n≤reachBytes)→∃ps,Typ P d t ps∧Pt A w ps cs
 |0,_,_,_,_,hp,_,_=>by simp [plainT] at hp
 |d+1,fuel,t,cs,x,hp,h,hw=>by
  have one:∀v:Value,v.oneCell'=true→Pt A w [.val v] [v]:=fun v hv=>⟨rfl,fun i p u h1 h2=>by
   match i with
   |0=>cases h1;cases h2;exact⟨.val v,hv⟩
   |i+1=>simp at h1⟩
  unfold plainT at hp
  unfold Typ
  split at hp
  ·rename_i ht
   obtain⟨b,rfl,rfl⟩:=DataW.trod_bool ht h
   exact⟨_,⟨b,rfl⟩,one _ rfl⟩
  ·rename_i k ht
   obtain⟨b,rfl,rfl,hb⟩:=DataW.trod_int ht h
   exact⟨_,⟨b,rfl,hb⟩,one _ rfl⟩
  ·rename_i ht
   obtain⟨b,rfl,rfl,hb⟩:=DataW.trod_string ht h
   have:=hw b.data.toList.length (by simp [DataW.weights])
   have e:b.data.toList.length=b.size:=Array.length_toList
   refine⟨_,⟨b,rfl,?_⟩,one _ rfl⟩
   rw [e] at this
   unfold reachBytes at this
   omega
  ·rename_i e ht
   simp only [Bool.and_eq_true,decide_eq_true_eq] at hp
   obtain⟨⟨hpe,hce⟩,hbe⟩:=hp
   rcases Deep.open_slice ht h with ⟨rfl,rfl⟩|⟨a,len,cap,m,n,D,Pl,rfl,hb,hl,hm,hme,rfl,hel⟩
   ·refine⟨[.rs (P.cellsOf e) 0 fun _=>[]],⟨0,_,rfl,Nat.zero_le _,fun i hi=>absurd hi (Nat.not_lt_zero i)⟩,rfl,fun i p u h1 h2=>?_⟩
    match i with
    |0=>cases h1;cases h2;exact⟨.rs _ _ _ _ _ (fun _ _=>undef) (fun i hi=>absurd hi (Nat.not_lt_zero i)) (Nat.le_refl _) (Nat.zero_le _) (fun i f p hi=>absurd hi (Nat.not_lt_zero i)) (fun i f p hi=>absurd hi (Nat.not_lt_zero i)),rfl⟩
    |i+1=>simp at h1
   ·have hlm:len≤m:=by rw [hme];split<;>omega
    have hsz:((List.range len).map D).length*P.bytesOf e≤reachBytes:=by
     refine Nat.le_trans (Nat.mul_le_mul_right _ (Nat.le_add_right _ ((List.range (m - len)).map fun j=>D (len+j)).length)) (hw _ ?_)
     simp [DataW.weights,ht]
    rw [List.length_map,List.length_range] at hsz
    have hlen:len≤140737488355328:=by
     have:=Nat.le_mul_of_pos_right len hbe
     unfold reachBytes at hsz
     omega
    have hall:∀ds:List (DataW H),∀y∈ds,∀k∈y.weights P e,k∈DataW.weightsAll P e ds:=fun ds=>by
     induction ds with
     |nil=>intro y hy;simp at hy
     |cons z r ih =>
      intro y hy k hk
      rw [DataW.weightsAll,List.mem_append]
      rcases List.mem_cons.1 hy with rfl|hy
      ·exact .inl hk
      ·exact .inr (ih y hy k hk)
    have key:∀i,i < len→∃z:List PV×List Value,Typ P d e z.1∧Pt A w z.1 z.2∧z.2.length=P.cellsOf e∧∀f,f < P.cellsOf e→w.cell? ((a.add (i*P.cellsOf e)).add f)=z.2[f]?:=fun i hi=>by
     obtain⟨cs',h1,h2⟩:=hel i (by omega)
     obtain⟨ps,k1,k2⟩:=trod_typ hA d n hpe h2 (fun k hk=>hw k (by
      simp only [DataW.weights,ht,List.mem_cons,List.mem_append]
      exact .inr (.inl (hall _ (D i) (List.mem_map.2 ⟨i,List.mem_range.2 hi,rfl⟩) k hk))))
     obtain⟨_,c2,c3⟩:=World.cells?_some h1
     exact⟨(ps,cs'),k1,k2,c2,c3⟩
    obtain⟨z,hz⟩:=Deep.choose_lt key
    have hspot:0 < len→a.spot=none:=fun h0=>by
     obtain⟨_,_,c1,c2⟩:=hz 0 h0
     have:=c2 0 hce
     rw [List.getElem?_eq_getElem (by omega),Nat.zero_mul] at this
     unfold Addr.add at this
     rw [if_pos rfl,if_pos rfl] at this
     unfold World.cell? at this
     split at this
     ·split at this
      ·cases this
      ·rename_i hs
       cases hsp:a.spot with
       |none=>rfl
       |some _=>rw [hsp] at hs;exact absurd rfl hs
     ·cases this
    have hadd:∀i f,0 < len→(a.add (i*P.cellsOf e)).add f=⟨a.block,a.off+(i*P.cellsOf e+f),none⟩:=fun i f h0=>by
     have hs:=hspot h0
     obtain⟨b,o,s⟩:=a
     cases hs
     rw [WideShapes.add_plain,WideShapes.add_plain,Nat.add_assoc]
    have hcell:∀i f p,i < len→(z i).1[f]? = some p→∃u,(z i).2[f]? = some u∧w.cell? ⟨a.block,a.off+(i*P.cellsOf e+f),none⟩=some u:=fun i f p hi hp=>by
     obtain⟨_,⟨k1,_⟩,k3,k4⟩:=hz i hi
     obtain⟨hf,_⟩:=List.getElem?_eq_some_iff.1 hp
     have:=k4 f (by omega)
     rw [hadd i f (by omega)] at this
     rw [this]
     exact⟨(z i).2[f]'(by omega),List.getElem?_eq_getElem _,List.getElem?_eq_getElem _⟩
    refine⟨[.rs (P.cellsOf e) len fun i=>(z i).1],⟨len,_,rfl,hlen,fun i hi=>(hz i hi).1⟩,rfl,fun i p u h1 h2=>?_⟩
    match i with
    |i+1=>simp at h1
    |0 =>
     cases h1
     cases h2
     refine⟨.rs _ _ _ _ _ (fun i f=>((z i).2[f]?).getD undef) (fun i hi=>?_) hl hm (fun i f p hi hp=>?_) (fun i f p hi hp=>?_),rfl⟩
     ·obtain⟨_,⟨k1,k2⟩,k3,_⟩:=hz i hi
      refine⟨k1.trans k3,fun p hp=>?_⟩
      obtain⟨f,hf⟩:=List.getElem?_of_mem hp
      obtain⟨hf',_⟩:=List.getElem?_eq_some_iff.1 hf
      exact(k2 f p _ hf (List.getElem?_eq_getElem (show f < (z i).2.length by omega))).2
     ·obtain⟨u,e1,e2⟩:=hcell i f p hi hp
      obtain⟨b,o,s⟩:=a
      have hs:s=none:=hspot (show 0 < len by omega)
      subst hs
      refine⟨b,o,rfl,hA _ ?_,?_⟩
      ·exact Nat.lt_of_not_le fun hge=>by
        unfold World.cell? at e2
        rw [show w.heap[(⟨b,o+(i*P.cellsOf e+f),none⟩:Addr).block]? = none from Array.getElem?_eq_none hge] at e2
        cases e2
      ·rw [e2,e1]
       rfl
     ·obtain⟨u,e1,e2⟩:=hcell i f p hi hp
      rw [e1]
      exact((hz i hi).2.1.2 f p u hp e1).1
  ·rename_i fs ht
   simp only [Bool.and_eq_true,decide_eq_true_eq,List.all_eq_true] at hp
   obtain⟨xs,n,rfl,rfl,hl,hlen,hf⟩:=DataW.trod_struct ht h
   obtain⟨ps,h1,h2⟩:=fields_typ (P:=P) (A:=A) (w:=w) (d:=d) hl hp.2 fun f hm=>by
    obtain⟨i,hi⟩:=List.getElem?_of_mem hm
    have hi':fs[i]? = some f:=by rw [←hi,Array.getElem?_toList]
    have h1:=hf i f hi'
    obtain⟨hil,_⟩:=List.getElem?_eq_some_iff.1 hi
    have hil':i < xs.length:=by rw [hlen];simpa using hil
    rw [List.getElem?_eq_getElem hil'] at h1
    refine trod_typ hA d n (hp.1 f hm) h1 fun k hk=>hw k ?_
    have e2:DataW.weights P t (.agg (xs.map (·.1)))=DataW.weightsEach P (fs.toList.map (·.type)) (xs.map (·.1)):=by simp only [DataW.weights,ht]
    show k∈DataW.weights P t (.agg (xs.map (·.1)))
    rw [e2]
    exact DataW.weights_mem_each (j:=i) (t:=f.type) (d:=xs[i].1) (by rw [List.getElem?_map,hi];rfl) (by rw [List.getElem?_map,List.getElem?_eq_getElem hil'];rfl) k hk
   exact⟨ps,h1,h2⟩
  ·cases hp
def TypV (P:Program) (d:Nat) (t:TypeId) (p:PV):Prop:=match P.underlying t with
 |some (.struct _)=>∃xs,p=mkAgg xs∧Typ P d t xs
 |_=>Typ P d t [p]
def TypAll (P:Program) (d:Nat):List TypeId→List PV→Prop
 |[],ps=>ps=[]
 |t::ts,ps=>∃p qs,ps=p::qs∧TypV P d t p∧TypAll P d ts qs
theorem trod_typV {A:Nat→Prop} (hA:∀k,k < w.heap.size→A k) {base base':Nat} {spare:Nat→Bool} {held:Bool} {r:Reach} {d:Nat} {t:TypeId} {v:Value} {y:DataW H} {q:List MemPlace} (hp:plainT P d t=true)
  (h:DataW.Trod enc P w base spare held t v y q) (hv:Value.okWide P w r base' t v) (hw:∀n∈y.weights P t,n≤reachBytes):∃p,TypV P d t p∧R0 A w p v:=by
 obtain⟨fuel,h⟩:=h
 obtain⟨ps,h1,h2⟩:=trod_typ hA d fuel hp h hw
 have one:v.cells.toList=[v]→∃p,ps=[p]∧R0 A w p v:=fun e=>by
  rw [e] at h2
  match ps,h2 with
  |[p],h2=>exact⟨p,rfl,(h2.2 0 p v rfl rfl).1⟩
  |[],h2=>exact absurd h2.1 (by simp)
  |_::_::_,h2=>exact absurd h2.1 (by simp)
 unfold TypV
 match d,hp with
 |d+1,hp =>
  unfold plainT at hp
  split at hp
  ·rename_i ht
   obtain⟨b,rfl⟩:=WideShapes.okWide_bool ht hv
   obtain⟨p,rfl,hr⟩:=one rfl
   rw [ht]
   exact⟨p,h1,hr⟩
  ·rename_i k ht
   obtain⟨b,rfl⟩:=WideShapes.okWide_int ht hv
   obtain⟨p,rfl,hr⟩:=one rfl
   rw [ht]
   exact⟨p,h1,hr⟩
  ·rename_i ht
   obtain⟨b,rfl⟩:=WideShapes.okWide_string ht hv
   obtain⟨p,rfl,hr⟩:=one rfl
   rw [ht]
   exact⟨p,h1,hr⟩
  ·rename_i e ht
   obtain⟨a,len,cap,rfl⟩:=WideShapes.okWide_slice ht hv
   obtain⟨p,rfl,hr⟩:=one rfl
   rw [ht]
   exact⟨p,h1,hr⟩
  ·rename_i fs ht
   obtain⟨cs,rfl,_⟩:=WideShapes.okWide_struct ht hv
   rw [ht]
   have h2':Pt A w ps cs.toList:=h2
   exact⟨Ex.mkAgg ps,⟨ps,rfl,h1⟩,R0.mkAgg (by simpa using h2'.1) fun i p u hp hu=>(h2'.2 i p u hp (by rw [Array.getElem?_toList];exact hu)).1⟩
  ·cases hp
theorem trodAll_typ {A:Nat→Prop} (hA:∀k,k < w.heap.size→A k) {base base':Nat} {spare:Nat→Bool} {held:Bool} {r:Reach} {d:Nat}:∀{ts:List TypeId} {vs:List Value} {ds:List (DataW H)} {q:List MemPlace},(∀t∈ts,plainT P d t=true) →
  DataW.TrodAll enc P w base spare held ts vs ds q→(∀(j:Nat) t v,ts[j]? = some t→vs[j]? = some v→Value.okWide P w r base' t v)→(∀n∈DataW.weightsEach P ts ds,n≤reachBytes) →
  ∃ps,TypAll P d ts ps∧ps.length=vs.length∧∀(i:Nat) p v,ps[i]? = some p→vs[i]? = some v→R0 A w p v
 |[],[],_,_,_,_,_,_=>⟨[],rfl,rfl,fun i p v h=>by simp at h⟩
 |[],_::_,_,_,_,h,_,_=>h.elim
 |_::_,[],_,_,_,h,_,_=>h.elim
 |_::_,_::_,[],_,_,h,_,_=>h.elim
 |t::ts,v::vs,y::ds,q,hp,h,hv,hw=>by
  obtain⟨q1,q2,h1,h2,_⟩:=h
  obtain⟨p,k1,k2⟩:=trod_typV (A:=A) hA (hp t List.mem_cons_self) h1 (hv 0 t v rfl rfl) fun n hn=>hw n (by rw [DataW.weightsEach,List.mem_append];exact .inl hn)
  obtain⟨ps,k3,k4,k5⟩:=trodAll_typ hA (fun t ht=>hp t (List.mem_cons_of_mem _ ht)) h2 (fun j t' v' a b=>hv (j+1) t' v' (by simpa using a) (by simpa using b)) fun n hn=>hw n (by rw [DataW.weightsEach,List.mem_append];exact .inr hn)
  refine⟨p::ps,⟨p,ps,rfl,k1,k3⟩,by simp [k4],fun i p' v' a b=>?_⟩
  match i with
  |0=>cases a;cases b;exact k2
  |i+1=>exact k5 i p' v' (by simpa using a) (by simpa using b)
theorem trodAll_below (hl:laidOutB P=true) {w':World} (hb:Below w.heap.size w w'):∀{ts:List TypeId} {vs:List Value} {ds:List (DataW H)} {q:List MemPlace},(∀t∈ts,P.readableRec t=true∧t < P.types.size) →
  DataW.TrodAll enc P w 0 (fun _=>true) true ts vs ds q→(∀x∈q,x.block < w.heap.size)→DataW.TrodAll enc P w' 0 (fun b=>decide (b < w.heap.size)) true ts vs ds q
 |[],[],[],_,_,h,_=>h
 |[],[],_::_,_,_,h,_=>h.elim
 |[],_::_,_,_,_,h,_=>h.elim
 |_::_,[],_,_,_,h,_=>h.elim
 |_::_,_::_,[],_,_,h,_=>h.elim
 |t::ts,v::vs,y::ds,q,hp,h,hq=>by
  obtain⟨q1,q2,h1,h2,rfl⟩:=h
  exact⟨q1,q2,Below.trod hl (hp t List.mem_cons_self).1 (hp t List.mem_cons_self).2 h1 hb fun x hx=>hq x (List.mem_append.2 (.inl hx)),
   trodAll_below hl hb (fun t ht=>hp t (List.mem_cons_of_mem _ ht)) h2 fun x hx=>hq x (List.mem_append.2 (.inr hx)),rfl⟩
theorem law_contract (hl:laidOutB P=true) {f:FuncId} {fn:Func} {s:ChangeSpec} {d tb:Nat} {c:List PV→Option Ans} (hv:s.vars=[]) (hs:∀ds:List (DataW H),ds.length=fn.params.size→s.fn H ds={ results:=[.lit (.bool true)],args:=ds })
  (hr:fn.resultTypes = #[tb]) (ht:P.underlying tb=some .bool) (hp:(fn.params.toList.all fun t=>plainT P d t&&P.readableRec t&&decide (t < P.types.size))=true) (hc:FnOk P f c)
  (hd:∀ps,TypAll P d fn.params.toList ps→∃pre,c ps=some ⟨pre,.val (.bool true),[]⟩∧Met pre)
  (W:World) (base:Nat) (args:Array Value) (ds gs:List (DataW H)) (before:List MemPlace)
  (hval:∀(j:Nat) t v,fn.params[j]? = some t→args[j]? = some v→Value.okWide P W .any base t v)
  (hW:DataW.Whole enc P fn.params.toList s.vars false W args.toList ds gs before)
  (hsz:(DataW.weightsEach P (fn.params.toList++s.plain.varTypes P) (ds++gs)).all (·≤reachBytes)=true) :
  Calls P f args W fun e W'=>∃v,e=.returned v∧s.post enc P fn false true false false W args v W':=by
 have hW':=hW
 obtain⟨p,q,hA,hV,rfl,hfz,hnd⟩:=hW
 rw [hv] at hV
 obtain⟨rfl,rfl⟩:=ChangeShapes.trodVars_none hV
 have hp':∀t∈fn.params.toList,plainT P d t=true∧P.readableRec t=true∧t < P.types.size:=fun t h=>by
  have:=List.all_eq_true.1 hp t h
  simp only [Bool.and_eq_true,decide_eq_true_eq] at this
  exact⟨this.1.1,this.1.2,this.2⟩
 have hvt:s.plain.varTypes P=[]:=by
  unfold DataSpec.varTypes ChangeSpec.plain
  rw [hv]
  rfl
 rw [hvt,List.append_nil,List.append_nil] at hsz
 obtain⟨ps,h1,h2,h3⟩:=trodAll_typ (A:=fun k=>k < W.heap.size) (fun k h=>h) (fun t h=>(hp' t h).1) hA (fun j t v a b=>hval j t v (by rw [←Array.getElem?_toList];exact a) (by rw [←Array.getElem?_toList];exact b)) fun n hn=>by simpa using List.all_eq_true.1 hsz n hn
 obtain⟨pre,h4,h5⟩:=hd ps h1
 have hlt:=hW'.lt
 rw [List.append_nil] at hlt
 refine((hc ps _ h4).2 h5 (fun k=>k < W.heap.size) W args (fun k h=>h) (by simpa using h2) fun i p v a b=>h3 i p v a (by rw [Array.getElem?_toList];exact b)).mono fun e W' ⟨v,β,he,hres⟩=>?_
 refine⟨v,he,?_⟩
 have hv':v=.bool true:=hres.val.val_eq
 subst hv'
 have hdl:ds.length=fn.params.size:=by
  have:∀{ts:List TypeId} {vs:List Value} {ds:List (DataW H)} {q:List MemPlace},DataW.TrodAll enc P W 0 (fun _=>true) true ts vs ds q→ds.length=ts.length:=fun {ts}=>by
   induction ts with
   |nil =>
    intro vs ds q h
    match vs,ds,h with
    |[],[],_=>rfl
   |cons t ts ih =>
    intro vs ds q h
    match vs,ds,h with
    |v::vs,y::ds,h =>
     obtain⟨_,_,_,h2,_⟩:=h
     rw [List.length_cons,List.length_cons,ih h2]
  rw [this hA]
  simp
 have hb:=hres.below
 refine⟨ds,[],p++[],[],p,[],hW',?_,?_,?_,hb.frame _,fun h=>by cases h⟩
 ·rw [hs (ds++[]) (by rw [List.append_nil];exact hdl),hr]
  exact⟨[],[],⟨1,by simp [DataW.trod,Value.cells,ht]⟩,rfl,rfl⟩
 ·rw [hs (ds++[]) (by rw [List.append_nil];exact hdl),List.append_nil]
  exact trodAll_below hl hb (fun t h=>(hp' t h).2) hA hlt
 ·rw [hv,hs (ds++[]) (by rw [List.append_nil];exact hdl)]
  rfl
end
end Go.Ex
namespace Go.Proofs
open Go Go.Ex Go.Num
set_option maxRecDepth 100000
theorem cells25:Tryz.prog.cellsOf 25=6:=by kernel_rfl
theorem typ_int {d t:Nat} {k:IntKind} {ps:List PV} (ht:Tryz.prog.underlying t=some (.int k)) (h:Typ Tryz.prog d t ps):∃z,ps=[.val (.int k z)]∧k.min≤z∧z≤k.max:=by
 match d,h with
 |d+1,h =>
  unfold Typ at h
  rw [ht] at h
  obtain⟨z,rfl,hz⟩:=h
  unfold Lit.wf at hz
  simp only [Bool.and_eq_true,decide_eq_true_eq] at hz
  exact⟨z,rfl,hz⟩
theorem typ_string {d t:Nat} {ps:List PV} (ht:Tryz.prog.underlying t=some .string) (h:Typ Tryz.prog d t ps):∃s:ByteArray,ps=[.val (.string s)]∧s.size≤140737488355328:=by
 match d,h with
 |d+1,h =>
  unfold Typ at h
  rw [ht] at h
  exact h
theorem typ_bool {d t:Nat} {ps:List PV} (ht:Tryz.prog.underlying t=some .bool) (h:Typ Tryz.prog d t ps):∃b,ps=[.val (.bool b)]:=by
 match d,h with
 |d+1,h =>
  unfold Typ at h
  rw [ht] at h
  exact h
theorem typ_struct {d t:Nat} {fs:Array Field} {ps:List PV} (ht:Tryz.prog.underlying t=some (.struct fs)) (h:Typ Tryz.prog d t ps):TypFs (Typ Tryz.prog (d - 1)) fs.toList ps:=by
 match d,h with
 |d+1,h =>
  unfold Typ at h
  rw [ht] at h
  exact h
theorem typ_slice {d t e:Nat} {ps:List PV} (ht:Tryz.prog.underlying t=some (.slice e)) (h:Typ Tryz.prog d t ps):∃m g,ps=[.rs (Tryz.prog.cellsOf e) m g]∧m≤140737488355328∧∀i,i < m→Typ Tryz.prog (d - 1) e (g i):=by
 match d,h with
 |d+1,h =>
  unfold Typ at h
  rw [ht] at h
  exact h
theorem typ_rat {d:Nat} {ps:List PV} (h:Typ Tryz.prog d 23 ps):∃r:RatS,ps=r.cells∧r.le 140737488355328:=by
 obtain⟨q1,r1,rfl,h1,q2,r2,rfl,h2,q3,r3,rfl,h3,rfl⟩:=typ_struct Tryz.underlying23 h
 obtain⟨s,rfl⟩:=typ_bool Tryz.underlying4 h1
 obtain⟨b,rfl,hb⟩:=typ_string Tryz.underlying9 h2
 obtain⟨c,rfl,hc⟩:=typ_string Tryz.underlying9 h3
 exact⟨⟨s,b,c⟩,rfl,hb,hc⟩
theorem typ_pt {d:Nat} {ps:List PV} (h:Typ Tryz.prog d 25 ps):∃p:PtS,ps=p.cells∧p.le 140737488355328:=by
 obtain⟨q1,r1,rfl,h1,q2,r2,rfl,h2,rfl⟩:=typ_struct Tryz.underlying25 h
 obtain⟨x,rfl,hx⟩:=typ_rat h1
 obtain⟨y,rfl,hy⟩:=typ_rat h2
 exact⟨⟨x,y⟩,rfl,hx,hy⟩
theorem typ_pts {d:Nat} {ps:List PV} (h:Typ Tryz.prog d 34 ps):∃n g,ps=[.rs 6 n g]∧isPL 140737488355328 n g:=by
 obtain⟨n,g,rfl,hn,hg⟩:=typ_slice Tryz.underlying34 h
 rw [cells25]
 refine⟨n,g,rfl,fun i hi=>?_,hn⟩
 obtain⟨p,hp,hl⟩:=typ_pt (hg i hi)
 unfold pts
 rw [hp]
 exact⟨rfl,hl⟩
theorem cells34:Tryz.prog.cellsOf 34=1:=by kernel_rfl
theorem cells63:Tryz.prog.cellsOf 63=3:=by kernel_rfl
theorem typ_region {d:Nat} {p:PV} (h:TypV Tryz.prog d 31 p):∃(lo hi:PtS) (k:Nat) (c:Nat→List PV) (l:Nat) (o:Nat→List PV),p=.agg [.val (.bool lo.x.s),.val (.string lo.x.b),.val (.string lo.x.c),.val (.bool lo.y.s),.val (.string lo.y.b),.val (.string lo.y.c),.val (.bool hi.x.s),.val (.string hi.x.b),.val (.string hi.x.c),.val (.bool hi.y.s),.val (.string hi.y.b),.val (.string hi.y.c),.rs 1 k c,.rs 3 l o] ∧
  (lo.le 140737488355328∧hi.le 140737488355328)∧isCL 140737488355328 k c∧isOL l o:=by
 unfold TypV at h
 rw [Tryz.underlying31] at h
 obtain⟨xs,rfl,h⟩:=h
 obtain⟨q1,r1,rfl,h1,q2,r2,rfl,h2,q3,r3,rfl,h3,rfl⟩:=typ_struct Tryz.underlying31 h
 obtain⟨s1,u1,rfl,g1,s2,u2,rfl,g2,rfl⟩:=typ_struct Tryz.underlying27 h1
 obtain⟨lo,rfl,hlo⟩:=typ_pt g1
 obtain⟨hi,rfl,hhi⟩:=typ_pt g2
 obtain⟨k,c,rfl,hk,hc⟩:=typ_slice Tryz.underlying28 h2
 obtain⟨l,o,rfl,hl,ho⟩:=typ_slice Tryz.underlying29 h3
 rw [cells34,cells63]
 refine⟨lo,hi,k,c,l,o,rfl,⟨hlo,hhi⟩,⟨fun i hi=>?_,hk⟩,fun i hi=>?_,hl⟩
 ·obtain⟨n,g,e,hg⟩:=typ_pts (hc i hi)
  unfold pn pg
  rw [e]
  exact⟨rfl,hg⟩
 ·obtain⟨q1,r1,e,h1,q2,r2,rfl,h2,q3,r3,rfl,h3,rfl⟩:=typ_struct Tryz.underlying63 (ho i hi)
  obtain⟨x,rfl,_⟩:=typ_int Tryz.underlying3 h1
  obtain⟨y,rfl,_⟩:=typ_int Tryz.underlying3 h2
  obtain⟨z,rfl,_⟩:=typ_int Tryz.underlying3 h3
  unfold ow
  rw [e]
  rfl
end Go.Proofs
namespace Go.Proofs.YtpfdckeipckldaaGreat
open Go Go.Ex Go.Num Go.RowKit Go.Proofs
set_option maxRecDepth 100000
theorem own:ownKnob Tryz.prog.godebug=none:=by kernel_rfl
theorem laidOut:laidOutB Tryz.prog=true:=by kernel_rfl
theorem corners_met (ps:List PV) (h:TypAll Tryz.prog 8 [31] ps):∃pre,c9 ps=some ⟨pre,.val (.bool true),[]⟩∧Go.Ex.Met pre:=by
 obtain⟨p1,q1,rfl,h1,rfl⟩:=h
 obtain⟨lo,hi,k,c,l,o,rfl,hb,hc,ho⟩:=typ_region h1
 exact⟨_,rfl,fun q e=>by cases e;exact⟨hb,hc,ho⟩⟩
theorem corners_lifted (os:Os) (started:os.Started) (H:Type) (enc:TypeId×Value→H) :
  ReturnsInHanded {} Tryz.checked os 9 .any (Rows.roadmapCornersSpec.pre6 enc Tryz.prog Tryz.f9 Rows.roadmapCornersRow.domain false) (Rows.roadmapCornersSpec.post enc Tryz.prog Tryz.f9 false true false false):=by
 refine returnsInHanded_of_change_sized (C:=Tryz.checked) own started (by kernel_rfl) Tryz.func9
  (ChangeSpec.witness6 (enc:=enc) (C:=Tryz.checked) false ⟨#[],#[.agg #[.bool false,.string ⟨#[]⟩,.string ⟨#[]⟩,.bool false,.string ⟨#[]⟩,.string ⟨#[]⟩,.bool false,.string ⟨#[]⟩,.string ⟨#[]⟩,.bool false,.string ⟨#[]⟩,.string ⟨#[]⟩,.slice none 0 0,.slice none 0 0]],[]⟩ 8 (by kernel_rfl) (by kernel_rfl) (by kernel_rfl) (by kernel_rfl)) ?_
 intro W base args ds gs before hval hW _ hsz _
 exact law_contract (P:=Tryz.prog) (fn:=Tryz.f9) (d:=8) (tb:=4) (s:=Rows.roadmapCornersSpec) laidOut rfl (fun ds hd=>by
  match ds,hd with
  |[d1],_=>rfl) rfl Tryz.underlying4 (by kernel_rfl) f9 (fun ps h=>corners_met ps h) W base args ds gs before hval hW hsz
theorem corners_holds:Rows.RoadmapCornersSaid :=
 OpenClaim.holds_of_wide 9 Tryz.f9 rfl rfl rfl rfl rfl rfl rfl ⟨rfl,rfl,rfl,rfl,rfl⟩ rfl rfl rfl rfl rfl (by kernel_rfl) Tryz.func9 (by kernel_rfl)
  (of_decide_eq_true (by kernel_rfl)) (by unfold Func.isWrapper;rw [if_neg (of_decide_eq_false (by kernel_rfl))];exact⟨rfl,rfl⟩)
  (fun os started H enc _=>corners_lifted os started H enc)
end Go.Proofs.YtpfdckeipckldaaGreat
