import Derived.Test.YtpfdckeipckldaaGreatB
set_option maxHeartbeats 8000000
set_option linter.all false
open Go Go.Ex Go.Num Go.Proofs
set_option maxRecDepth 100000
namespace Go.Num
def CK (v:Value):Prop:=∃s b c,v=.agg ⟨[.bool s,.string b,.string c]⟩/\b.size<=34359738368/\c.size<=34359738368
def cU:Value->Int
 |.agg ⟨[.bool s,.string b,.string _]⟩=>aw s (bv b)
 |_=>0
def bj (n:Nat):Nat:=if n=0 then 1 else n
def bK:Value->Nat
 |.agg ⟨[.bool _,.string _,.string c]⟩=>bj (bv c)
 |_=>1
def aF (v:Value):Rat:=mkRat (cU v) (bK v)
def ex (c:ByteArray):ByteArray:=if bv c=0 then ag 1 else c
def n9:Value->Value
 |.agg ⟨[.bool s,.string b,.string c]⟩=>.agg ⟨[.bool s,.string b,.bool false,.string (ex c)]⟩
 |v=>v
def Gz (v:Value):Prop:=∃s b q c,v=.agg ⟨[.bool s,.string b,.bool q,.string c]⟩/\b.size<=34359738368/\c.size<=34359738368
def j4:Value->Int
 |.agg ⟨[.bool s,.string b,.bool _,.string _]⟩=>aw s (bv b)
 |_=>0
def fN:Value->Int
 |.agg ⟨[.bool _,.string _,.bool q,.string c]⟩=>aw q (bv c)
 |_=>0
def aK (d:Nat):ByteArray:=if d=1 then⟨#[]⟩ else ag d
def au (q:Rat):Value:=.agg ⟨[.bool (decide (q.num < 0)),.string (ag q.num.natAbs),.string (aK q.den)]⟩
theorem bt (b:ByteArray):bv b < 256^b.size:=by
 have h:=d5 b.data.toList;exact h
theorem jp (c:ByteArray):bv (ex c)=bj (bv c):=by
 unfold ex bj;split
 ·exact aC 1
 ·rfl
theorem uM {c:ByteArray} (h:c.size<=34359738368):(ex c).size<=34359738368:=by
 unfold ex;split
 ·exact Nat.le_trans (aX (k:=1) (by decide)) (by decide)
 ·exact h
theorem bL (n:Nat):0 < bj n:=by unfold bj;split<;>omega
theorem oa {n:Nat} (h:n≠0):bj n=n:=if_neg h
theorem k9 {v:Value} (h:CK v):Gz (n9 v)/\j4 (n9 v)=cU v/\fN (n9 v)=bK v/\0 < fN (n9 v):=by
 obtain⟨s,b,c,rfl,hb,hc⟩:=h;have e:fN (n9 (.agg ⟨[.bool s,.string b,.string c]⟩))=((bj (bv c):Nat):Int):=by
  show aw false (bv (ex c))=_;rw [jp];rfl
 refine⟨⟨s,b,false,ex c,rfl,hb,uM hc⟩,rfl,e,?_⟩;rw [e];have:=bL (bv c);omega
theorem fO:ag 0=⟨#[]⟩:=by simp [ag,cJ]
theorem ib:au 0=.agg ⟨[.bool false,.string ⟨#[]⟩,.string ⟨#[]⟩]⟩:=by
 show Value.agg ⟨[.bool (decide ((0:Int) < 0)),.string (ag 0),.string (aK 1)]⟩=_;rw [fO];rfl
theorem az (q:Rat):aF (au q)=q:=by
 have h:bj (bv (aK q.den))=q.den:=by
  unfold aK;split
  ·rename_i h;rw [h];rfl
  ·rw [aC,oa q.den_nz]
 show mkRat (aw (decide (q.num < 0)) (bv (ag q.num.natAbs))) (bj (bv (aK q.den)))=q;rw [h];have e:=aq q.num;rw [show aw (decide (q.num < 0)) (bv (ag q.num.natAbs))=q.num from e];exact Rat.mkRat_self q
theorem uN {a b:Int}:decide (bq a b=0)=decide (a=b):=by
 rw [decide_eq_decide];unfold bq;split
 ·omega
 ·split<;>omega
end Go.Num
namespace Go.Proofs
def AC:List PV->Option Ans
 |[.val (.bool s),.val (.string b)]=>some ⟨none,.val (.agg ⟨[.bool s,.string b]⟩),[]⟩
 |_=>none
theorem CL:ak {} Tryz.f192 2=true:=by kernel_rfl
theorem f192:FnOk Tryz.prog 192 AC:=by
 refine FnOk.ofW aj (am (l:=[]) (own:=[]) (inl:=[]) (by simp) (by simp)) Tryz.func192 {} 2 CL λargs r e=>?_;unfold AC at e;split at e
 ·rename_i s b
  cases e;refine⟨by simp,λhm=>?_⟩;refine⟨[],aa [(0,.val (.bool s)),(1,.val (.string b))] [] 0 [],Wo trivial ⟨rfl,rfl,qQ⟩ trivial,?_⟩;with_unfolding_all refine⟨[some 0],aa [(4,.ptr 0 0 0 0)] [n8 s b 0] 1 [],Wo ⟨qJ,qQ⟩ ⟨pP,qQ⟩ trivial,rfl,rfl⟩
 ·cases e
def yj:List PV->Option Ans
 |[.val v,.val (.int .i64 z)]=>some ⟨some (ef v /\ -9223372036854775808<=z/\z < 9223372036854775808),.val (.bool (decide (aG v=z))),[]⟩
 |_=>none
def D143:Opt:={ perm:=iS 1 [(0,true),(1,true),(2,false),(3,false)] }
theorem CM:ak D143.toOrd Tryz.f143 2=true:=by kernel_rfl
theorem f143:FnOk Tryz.prog 143 yj:=by
 refine FnOk.ofW aj (am (l:=[(73,zC),(108,uL)]) (own:=[]) (inl:=[]) (by simp [f73,f108]) (by simp)) Tryz.func143 D143 2 CM λargs r e=>?_;unfold yj at e;split at e
 ·rename_i v z
  cases e;refine⟨by simp,λhm=>?_⟩;obtain⟨⟨s,b,rfl,hb⟩,h1,h2⟩:=hm _ rfl;refine⟨[],aa [(0,.val (.agg ⟨[.bool s,.string b]⟩)),(1,.val (.int .i64 z))] [] 0 [],Wo trivial ⟨rfl,rfl,qQ⟩ trivial,?_⟩;with_unfolding_all refine⟨⟨h1,h2⟩,⟨⟨_,_,rfl,hb⟩,cF (k:=8) (by show z.natAbs < 18446744073709551616;omega) (by decide)⟩,[],aa [(4,.val (.bool (decide (aw s (bv b)=z))))] [] 0 [],Wo trivial ⟨?_,qQ⟩ trivial,rfl,rfl⟩
  rw [aq];show PV.val (.bool (decide (bq (aw s (bv b)) z=0)))=_;rw [uN]
 ·cases e
def sa:List PV->Option Ans
 |[.val v]=>some ⟨some (CK v),.val (n9 v),[]⟩
 |_=>none
def D137:Opt:={ perm:=kI [(1,.rds [0,1,2,3,5,6] (.alt 4 (.alt 7 (.rds [8] (.mk 9 .nil)) (.mk 9 (.mk 7 (.rds [8] .nil)))) (.mk 9 (.mk 4 (.mk 7 (.rds [8] .nil))))))],join:=λc=>match c with | .region 1 _ _=>true | .seq (.region 2 _ _) _=>true|_=>false }
theorem CN:ak D137.toOrd Tryz.f137 1=true:=by kernel_rfl
def ob (s:Bool) (b:ByteArray) (q:Bool) (c:ByteArray) (st:Nat):Blk:=⟨135,4,st,true,false,1,λ_=>[.val (.bool s),.val (.string b),.val (.bool q),.val (.string c)]⟩
def ba (s:Bool) (b c:ByteArray) (st:Nat):Blk:=⟨23,3,st,true,false,1,λ_=>[.val (.bool s),.val (.string b),.val (.string c)]⟩
theorem f137:FnOk Tryz.prog 137 sa:=by
 refine FnOk.ofW aj (am (l:=[(192,AC),(143,yj),(73,zC)]) (own:=[]) (inl:=[]) (by simp [f192,f143,f73]) (by simp)) Tryz.func137 D137 1 CN λargs r e=>?_;unfold sa at e;split at e
 ·rename_i v
  cases e;refine⟨by simp,λhm=>?_⟩;obtain⟨s,b,c,rfl,hb,hc⟩:=hm _ rfl;refine⟨[],aa [(0,.val (.agg ⟨[.bool s,.string b,.string c]⟩))] [] 0 [],Wo trivial ⟨rfl,qQ⟩ trivial,?_⟩;with_unfolding_all refine⟨Unit,λ_=>True,λ_=>aa [(1,.ptr 0 0 0 0),(2,.ptr 1 1 0 0),(3,.ptr 2 2 0 0)] [ba s b c 0,ob false ⟨#[]⟩ false ⟨#[]⟩ 1,ob s b false c 2] 3 [],⟨⟨⟨(),[some 0,some 1,some 2],trivial,Wo ⟨qX,qZ ⟨rq,rq,rq,rq,qQ⟩,qZ ⟨rq,rq,rq,rq,qQ⟩,qQ⟩ ⟨pP,pP,pP,qQ⟩ trivial⟩,⟨(),[some 0,some 1,some 2],trivial,Wo ⟨qX,qZ ⟨rq,rq,rq,rq,qQ⟩,qZ ⟨rq,rq,rq,rq,qQ⟩,qQ⟩ ⟨pP,pP,pP,qQ⟩ trivial⟩⟩,⟨(),[some 0,some 1,some 2],trivial,Wo ⟨qX,qZ ⟨rq,rq,rq,rq,qQ⟩,qZ ⟨rq,rq,rq,rq,qQ⟩,qQ⟩ ⟨pP,pP,pP,qQ⟩ trivial⟩⟩,λ_ _=>?_⟩
  have e1:decide (((bv c:Nat):Int)=0)=true->PV.val (.string (ag 1))=PV.val (.string (ex c)):=λh=>by
   have h:bv c=0:=by have:=of_decide_eq_true h;omega
   rw [ex,if_pos h]
  have e2:decide (((bv c:Nat):Int)=0)=false->PV.val (.string c)=PV.val (.string (ex c)):=λh=>by
   have h:¬bv c=0:=by have:=of_decide_eq_false h;omega
   rw [ex,if_neg h]
  with_unfolding_all refine⟨Unit,λ_=>True,λ_=>aa [(2,.ptr 0 0 0 0),(3,.ptr 1 1 0 0)] [ob false ⟨#[]⟩ false ⟨#[]⟩ 0,ob s b false (ex c) 1] 2 [],?_,λ_ _=>?_⟩
  ·with_unfolding_all refine⟨⟨⟨_,_,rfl,hc⟩,by decide,by decide⟩,λh=>⟨⟨by decide,by decide⟩,⟨(),[some 1,some 2],trivial,Wo ⟨qZ ⟨rq,rq,rq,rq,qQ⟩,qZ ⟨rq,rq,rq,⟨e1 h,rfl⟩,qQ⟩,qQ⟩ ⟨pP,pP,qQ⟩ trivial⟩⟩,λh=>⟨(),[some 1,some 2],trivial,Wo ⟨qZ ⟨rq,rq,rq,rq,qQ⟩,qZ ⟨rq,rq,rq,⟨e2 h,rfl⟩,qQ⟩,qQ⟩ ⟨pP,pP,qQ⟩ trivial⟩⟩
  ·with_unfolding_all refine⟨[some 0],aa [(2,.ptr 0 0 0 0)] [ob s b false (ex c) 0] 1 [],Wo ⟨qZ ⟨rq,rq,rq,rq,qQ⟩,qQ⟩ ⟨pP,qQ⟩ trivial,rfl,rfl⟩
 ·cases e
def se:List PV->Option Ans
 |[.val v]=>some ⟨some (Gz v/\0 < fN v),.val (au (mkRat (j4 v) (fN v).toNat)),[]⟩
 |_=>none
def D110:Opt:={ join:=λc=>match c with | .region 3 _ _=>true | .region 4 _ _=>true | .region 5 _ _=>true|_=>false }
theorem CO:ak D110.toOrd Tryz.f110 1=true:=by kernel_rfl
theorem f110:FnOk Tryz.prog 110 se:=by
 refine FnOk.ofW aj (am (l:=[(143,yj),(144,AA),(145,AB)]) (own:=[]) (inl:=[]) (by simp [f143,f144,f145]) (by simp)) Tryz.func110 D110 1 CO λargs r e=>?_;unfold se at e;split at e
 ·rename_i v
  cases e;refine⟨by simp,λhm=>?_⟩;obtain⟨⟨s,b,q,c,rfl,hb,hc⟩,hpos⟩:=hm _ rfl;obtain rfl:q=false:=by
   cases q
   ·rfl
   ·exfalso;have:(0:Int) < -(bv c:Int):=hpos;omega
  have hM:bv c≠0:=by
   rintro h;have:(0:Int) < (bv c:Int):=hpos;omega
  refine⟨[],aa [(0,.val (.agg ⟨[.bool s,.string b,.bool false,.string c]⟩))] [] 0 [],Wo trivial ⟨rfl,qQ⟩ trivial,?_⟩;have hb1:bv c < 256^c.size:=bt c;obtain⟨G,hG⟩:∃G,G=Nat.gcd (bv b) (bv c):=⟨_,rfl⟩;have hGe:((Nat.gcd (aG (.agg ⟨[.bool s,.string b]⟩)).natAbs (aG (.agg ⟨[.bool false,.string c]⟩)).natAbs:Nat):Int)=(G:Int):=by
   show((Nat.gcd (aw s (bv b)).natAbs (aw false (bv c)).natAbs:Nat):Int)=_;rw [aD,aD,hG]
  have hGpos:0 < G:=by rw [hG];exact Nat.gcd_pos_of_pos_right _ (by omega)
  have hGle:G<=bv c:=by rw [hG];exact Nat.gcd_le_right _ (by omega)
  have hGI:ef (av (G:Int)):=cF (k:=c.size) (by show G < _;omega) hc;have hGb:G∣bv b:=by rw [hG];exact Nat.gcd_dvd_left _ _
  have hGc:G∣bv c:=by rw [hG];exact Nat.gcd_dvd_right _ _
  obtain⟨q,hq⟩:∃q,q=mkRat (aw s (bv b)) (bv c):=⟨_,rfl⟩;have hqn:aw s (bv b) / (G:Int)=q.num:=by
   rw [hq,Rat.num_mkRat,if_neg hM,aD,Nat.gcd_comm,hG]
  have hqd:((bv c:Nat):Int) / (G:Int)=(q.den:Int):=by
   rw [hq,Rat.den_mkRat,if_neg hM,aD,Nat.gcd_comm,hG,Int.natCast_ediv]
  have hqdle:q.den<=bv c:=by
   have:((q.den:Nat):Int)<=(bv c:Nat):=by rw [<-hqd];exact Int.ediv_le_self _ (by omega)
   omega
  have hdI:ef (av (q.den:Int)):=cF (k:=c.size) (by show q.den < _;omega) hc;have hpG:0 < aG (av (G:Int)):=by rw [aq];omega
  have d1:aG (av (G:Int))∣aw s (bv b):=by
   rw [aq];exact Int.natAbs_dvd_natAbs.1 (by rw [aD];exact hGb)
  have d2:aG (av (G:Int))∣aw false (bv c):=by
   rw [aq];exact Int.natAbs_dvd_natAbs.1 (by rw [aD];exact hGc)
  have e1:aw s (bv b) / aG (av (G:Int))=q.num:=by rw [aq,hqn]
  have e2:aw false (bv c) / aG (av (G:Int))=(q.den:Int):=by rw [aq];exact hqd
  have hR:au (mkRat (j4 (.agg ⟨[.bool s,.string b,.bool false,.string c]⟩)) (fN (.agg ⟨[.bool s,.string b,.bool false,.string c]⟩)).toNat)=au q:=by
   rw [hq];rfl
  have cb:∀{x y:Int},x=y->PV.val (.bool (decide (x < 0)))=PV.val (.bool (decide (y < 0))):=λh=>by rw [h]
  have cs:∀{x y:Int},x=y->PV.val (.string (ag x.natAbs))=PV.val (.string (ag y.natAbs)):=λh=>by rw [h]
  have t1:(!decide (aG (av (q.den:Int))=1))=true->PV.val (.string (ag ((q.den:Nat):Int).natAbs))=PV.val (.string (aK q.den)):=λh=>by
   rw [aq] at h;have h:q.den≠1:=by
    rintro h';rw [h'] at h;exact absurd h (by decide)
   rw [aK,if_neg h];rfl
  have t2:(!decide (aG (av (q.den:Int))=1))=false->PV.val (.string ⟨#[]⟩)=PV.val (.string (aK q.den)):=λh=>by
   rw [aq] at h;have h:q.den=1:=by
    have h:(!decide (((q.den:Nat):Int)=1))=false:=h;simp at h;omega
   rw [aK,if_pos h]
  have h0:decide (aG (.agg ⟨[.bool s,.string b]⟩)=0)=true->Value.agg ⟨[.bool false,.string ⟨#[]⟩,.string ⟨#[]⟩]⟩=au q:=λh=>by
   have h:aw s (bv b)=0:=of_decide_eq_true h;rw [<-ib,hq,h,Rat.zero_mkRat]
  with_unfolding_all refine⟨⟨⟨_,_,rfl,hb⟩,by decide,by decide⟩,λh=>⟨[some 1],aa [(2,.ptr 0 0 0 0)] [ba false ⟨#[]⟩ ⟨#[]⟩ 0] 1 [],Wo ⟨qX,qQ⟩ ⟨pP,qQ⟩ trivial,(by rw [hR];exact congrArg PV.val (h0 h)),rfl⟩,λh=>⟨Unit,λ_=>True,λ_=>aa [(1,.ptr 0 0 0 0),(2,.ptr 1 1 0 0),(3,.ptr 2 2 0 0)] [ob s b false c 0,ba false ⟨#[]⟩ ⟨#[]⟩ 1,aU (G:Int) 2] 3 [],?_,λ_ _=>⟨Unit,λ_=>True,λ_=>aa [(1,.ptr 0 0 0 0),(2,.ptr 1 1 0 0),(3,.ptr 2 2 0 0),(4,.ptr 3 3 0 0)] [ob s b false c 0,ba false ⟨#[]⟩ ⟨#[]⟩ 1,aU (G:Int) 2,aU q.num 3] 4 [],?_,λ_ _=>⟨Unit,λ_=>True,λ_=>aa [(2,.ptr 0 0 0 0),(4,.ptr 1 1 0 0),(7,.ptr 2 2 0 0)] [ba false ⟨#[]⟩ ⟨#[]⟩ 0,aU q.num 1,aU (q.den:Int) 2] 3 [],?_,λ_ _=>?_⟩⟩⟩⟩
  ·with_unfolding_all refine⟨⟨⟨_,_,rfl,hb⟩,_,_,rfl,hc⟩,⟨(),[some 0,some 1,some 2],trivial,Wo ⟨qZ ⟨rq,rq,rq,rq,qQ⟩,qX,qZ ⟨⟨cb hGe,rfl⟩,⟨cs hGe,rfl⟩,qQ⟩,qQ⟩ ⟨pP,pP,pP,qQ⟩ trivial⟩⟩
  ·with_unfolding_all refine⟨⟨⟨_,_,rfl,hb⟩,hGI,hpG,d1⟩,⟨(),[some 0,some 1,some 2,some 3],trivial,Wo ⟨qZ ⟨rq,rq,rq,rq,qQ⟩,qX,qJ,qZ ⟨⟨cb e1,rfl⟩,⟨cs e1,rfl⟩,qQ⟩,qQ⟩ ⟨pP,pP,pP,pP,qQ⟩ trivial⟩⟩
  ·with_unfolding_all refine⟨⟨⟨_,_,rfl,hc⟩,hGI,hpG,d2⟩,⟨(),[some 1,some 3,some 4],trivial,Wo ⟨qX,qJ,qZ ⟨⟨cb e2,rfl⟩,⟨cs e2,rfl⟩,qQ⟩,qQ⟩ ⟨pP,pP,pP,qQ⟩ trivial⟩⟩
  ·with_unfolding_all refine⟨⟨hdI,by decide,by decide⟩,λh=>⟨[some 0],aa [(2,.ptr 0 0 0 0)] [ba (decide (q.num < 0)) (ag q.num.natAbs) (aK q.den) 0] 1 [],Wo ⟨qZ ⟨rq,rq,⟨t1 h,rfl⟩,qQ⟩,qQ⟩ ⟨pP,qQ⟩ trivial,by rw [hR];rfl,rfl⟩,λh=>⟨[some 0],aa [(2,.ptr 0 0 0 0)] [ba (decide (q.num < 0)) (ag q.num.natAbs) (aK q.den) 0] 1 [],Wo ⟨qZ ⟨rq,rq,⟨t2 h,rfl⟩,qQ⟩,qQ⟩ ⟨pP,qQ⟩ trivial,by rw [hR];rfl,rfl⟩⟩
 ·cases e
def AD:List PV->Option Ans
 |[.val (.string b)]=>some ⟨some (b.size<=7),.val (.int .i64 (bv b:Nat)),[]⟩
 |_=>none
theorem CP:ak {} Tryz.f200 1=true:=by kernel_rfl
theorem f200:FnOk Tryz.prog 200 AD:=by
 refine FnOk.ofW aj (am (l:=[]) (own:=[]) (inl:=[]) (by simp) (by simp)) Tryz.func200 {} 1 CP λargs r e=>?_;unfold AD at e;split at e
 ·rename_i b
  cases e;refine⟨by simp,λhm=>?_⟩;have h:b.size<=7:=hm _ rfl;refine⟨[],aa [(0,.val (.string b))] [] 0 [],Wo trivial ⟨rfl,qQ⟩ trivial,?_⟩;with_unfolding_all refine⟨Nat,λi=>i<=b.size,λi=>aa [(0,.val (.string b)),(3,.val (.int .i64 (cO (b.data.toList.take i):Nat))),(6,.val (goInt b.size)),(7,.val (goInt i))] [] 0 [],λi=>b.size - i,⟨0,[],Nat.zero_le _,Wo trivial ⟨rfl,rfl,rfl,rfl,qQ⟩ trivial⟩,λi hi=>?_⟩
  replace hi:i<=b.size:=hi;have hlt:=bJ b i h;with_unfolding_all refine⟨λh1=>?_,λh1=>?_⟩
  ·have h1:i < b.size:=by have:=bx h1;omega
   have hx:(b.data.toList[i]?.getD 0).toNat < 256:=UInt8.toNat_lt _;with_unfolding_all refine⟨by decide,⟨by omega,by omega⟩,i+1,[],h1,by show b.size - (i+1) < b.size - i;omega,Wo trivial ⟨rfl,?_,rfl,?_,qQ⟩ trivial⟩
   ·refine congrArg (λx=>PV.val (.int .i64 x)) (?_:IntKind.i64.wrap ((BitVec.ofInt IntKind.i64.bits (IntKind.i64.wrap (((cO (b.data.toList.take i):Nat):Int)*2^min (Int.toNat 8) IntKind.i64.bits)) ||| BitVec.ofInt IntKind.i64.bits (IntKind.i64.wrap (((b.data.toList[i]?.getD 0).toNat:Nat):Int))).toNat:Int)=((cO (b.data.toList.take (i+1)):Nat):Int));rw [nY hx (by have:=bJ b (i+1) h;rw [fh b h1] at this;omega),fh b h1]
   ·refine congrArg (λx=>PV.val (.int .i64 x)) (?_:IntKind.i64.wrap ((i:Int)+1)=((i+1:Nat):Int));rw [wrap64 (by omega) (by omega)];rfl
  ·have h1:i=b.size:=by have:=dU h1;omega
   have he:b.data.toList.take i=b.data.toList:=by rw [h1,List.take_of_length_le (by rw [<-a7];omega)]
   rw [he] at hlt ⊢;with_unfolding_all exact⟨[],aa [(2,.val (.int .i64 (bv b:Nat)))] [] 0 [],Wo trivial ⟨rfl,qQ⟩ trivial,rfl,rfl⟩
 ·cases e
theorem pX (n:Nat):(if (1:Int) > (n:Int) then(1:Int) else(n:Int))=((bj n:Nat):Int):=by
 unfold bj;split<;>split<;>omega
def smallB (b c:ByteArray):Bool:=decide (b.size<=3)&&decide (c.size<=3)
def yk:List PV->Option Ans
 |[.val (.agg ⟨[.bool s,.string b,.string c]⟩)]=>some ⟨none,.val (.tuple ⟨[.int .i64 (bif smallB b c then aw s (bv b) else 0),.int .i64 (bif smallB b c then(bj (bv c):Nat) else 0),.bool (smallB b c)]⟩),[]⟩
 |_=>none
def D155:Opt:={ perm:=iS 3 [(0,true),(1,true),(3,true),(4,true),(2,false),(5,false)] }
theorem CQ:ak D155.toOrd Tryz.f155 1=true:=by kernel_rfl
theorem f155:FnOk Tryz.prog 155 yk:=by
 refine FnOk.ofW aj (am (l:=[(200,AD)]) (own:=[]) (inl:=[]) (by simp [f200]) (by simp)) Tryz.func155 D155 1 CQ λargs r e=>?_;unfold yk at e;split at e
 ·rename_i s b c
  cases e;refine⟨by simp,λhm=>?_⟩;refine⟨[],aa [(0,.val (.agg ⟨[.bool s,.string b,.string c]⟩))] [] 0 [],Wo trivial ⟨rfl,qQ⟩ trivial,?_⟩;have f1:decide ((b.size:Int) > 3) = !false->smallB b c=false:=λh=>by
   have h:¬b.size<=3:=by have:=of_decide_eq_true h;omega
   simp [smallB,h]
  have f2:decide ((c.size:Int) > 3)=true->smallB b c=false:=λh=>by
   have h:¬c.size<=3:=by have:=of_decide_eq_true h;omega
   simp [smallB,h]
  have g3:decide ((b.size:Int) > 3)=false->b.size<=3:=λh=>by have:=of_decide_eq_false h;omega
  have g4:decide ((c.size:Int) > 3)=false->c.size<=3:=λh=>by have:=of_decide_eq_false h;omega
  have z0:smallB b c=false->PV.val (.int .i64 0)=PV.val (.int .i64 (bif smallB b c then aw s (bv b) else 0)):=λh=>by rw [h];rfl
  have z1:smallB b c=false->PV.val (.int .i64 0)=PV.val (.int .i64 (bif smallB b c then(bj (bv c):Nat) else 0)):=λh=>by rw [h];rfl
  have z2:smallB b c=false->PV.val (.bool false)=PV.val (.bool (smallB b c)):=λh=>by rw [h]
  with_unfolding_all refine⟨λh0=>⟨λh=>⟨[],aa [(2,.val (.int .i64 (bif smallB b c then aw s (bv b) else 0))),(3,.val (.int .i64 (bif smallB b c then(bj (bv c):Nat) else 0))),(4,.val (.bool (smallB b c)))] [] 0 [],Wo trivial ⟨z0 (f2 h),z1 (f2 h),z2 (f2 h),qQ⟩ trivial,rfl,rfl⟩,λh1=>?_⟩,λh=>⟨λ_=>⟨[],aa [(2,.val (.int .i64 (bif smallB b c then aw s (bv b) else 0))),(3,.val (.int .i64 (bif smallB b c then(bj (bv c):Nat) else 0))),(4,.val (.bool (smallB b c)))] [] 0 [],Wo trivial ⟨z0 (f1 h),z1 (f1 h),z2 (f1 h),qQ⟩ trivial,rfl,rfl⟩,λh'=>(nomatch h')⟩⟩
  have hs:smallB b c=true:=by simp [smallB,g3 h0,g4 h1]
  have hb:=g3 h0;have hc:=g4 h1;rw [hs];have lb:bv b < 72057594037927936:=by
   have:=bJ b b.size (by omega);rw [show b.data.toList.take b.size=b.data.toList by rw [List.take_of_length_le (by rw [<-a7];omega)]] at this;exact this
  with_unfolding_all refine⟨by omega,by omega,λh=>⟨[],aa [(2,.val (.int .i64 (aw s (bv b)))),(3,.val (.int .i64 (bj (bv c):Nat))),(4,.val (.bool true))] [] 0 [],Wo trivial ⟨?_,?_,rfl,qQ⟩ trivial,rfl,rfl⟩,λh=>⟨[],aa [(2,.val (.int .i64 (aw s (bv b)))),(3,.val (.int .i64 (bj (bv c):Nat))),(4,.val (.bool true))] [] 0 [],Wo trivial ⟨?_,?_,rfl,qQ⟩ trivial,rfl,rfl⟩⟩
  ·refine congrArg (λx=>PV.val (.int .i64 x)) (?_:IntKind.i64.wrap (0 - ((bv b:Nat):Int))=aw s (bv b));rw [wrap64 (by omega) (by omega),h];show _ = -((bv b:Nat):Int);omega
  ·exact congrArg (λx=>PV.val (.int .i64 x)) (pX (bv c))
  ·show PV.val (.int .i64 ((bv b:Nat):Int))=_;rw [h];rfl
  ·exact congrArg (λx=>PV.val (.int .i64 x)) (pX (bv c))
 ·cases e
theorem ym {l:List UInt8} (h:0 < l.length->256^(l.length - 1)<=cO l):eE l=true:=by
 cases l with
 |nil=>rfl
 |cons x l =>
  have h:=h (by simp);simp only [List.length_cons,Nat.add_sub_cancel] at h;rw [cE] at h;have h2:=d5 l;have:x≠0:=by
   rintro rfl;simp at h;omega
  simpa [eE] using this
theorem jq {N k:Nat} (h:N < 256^k) (h2:0 < k->256^(k - 1)<=N):cT k (aZ N k)=ag N:=by
 have hv:bv (cT k (aZ N k))=N:=by rw [d8 (λ_ _=>rfl),Nat.mod_eq_of_lt h]
 have hl:(cT k (aZ N k)).data.toList.length=k:=by simp [cT]
 have:eE (cT k (aZ N k)).data.toList=true:=ym (by
  rw [hl];intro h0;have e:cO (cT k (aZ N k)).data.toList=N:=hv;rw [e];exact h2 h0)
 rw [<-ks this,hv]
def AE:List PV->Option Ans
 |[.val (.int .i64 z)]=>some ⟨some (0<=z/\z < 72057594037927936),.val (.string (ag z.toNat)),[]⟩
 |_=>none
theorem CR:ak {} Tryz.f196 1=true:=by kernel_rfl
theorem f196:FnOk Tryz.prog 196 AE:=by
 refine FnOk.ofW aj (am (l:=[]) (own:=[]) (inl:=[]) (by simp) (by simp)) Tryz.func196 {} 1 CR λargs r e=>?_;unfold AE at e;split at e
 ·rename_i z
  cases e;refine⟨by simp,λhm=>?_⟩;obtain⟨hz,hz2⟩:=hm _ rfl;obtain⟨N,rfl⟩:∃N:Nat,z=(N:Int):=⟨z.toNat,by omega⟩;rw [Int.toNat_natCast];refine⟨[],aa [(0,.val (.int .i64 (N:Nat)))] [] 0 [],Wo trivial ⟨rfl,qQ⟩ trivial,?_⟩;with_unfolding_all refine⟨Nat,λk=>k<=7/\(0 < k->256^(k - 1)<=N),λk=>aa [(0,.val (.int .i64 ((N / 256^k:Nat):Int))),(3,.ptr 0 0 0 0),(4,.val (.int .i64 ((8 - k:Nat):Int)))] [⟨236,1,0,false,true,8,λj=>if j < 8 - k then [.val (.int .u8 0)] else aZ N k (j - (8 - k))⟩] 1 [],λk=>8 - k,?_,λk hk=>?_⟩
  ·with_unfolding_all refine⟨0,[some 0],⟨by omega,λh=>absurd h (by omega)⟩,Wo ⟨qZ (λi hi=>?_),qQ⟩ ⟨?_,pP,rfl,qQ⟩ trivial⟩
   ·have hi:i < 8:=hi;rcases i with _|_|_|_|_|_|_|_|i
    all_goals first
     |rfl
     |exact absurd hi (by omega)
   ·show PV.val (.int .i64 (N:Int))=PV.val (.int .i64 ((N / 256^0:Nat):Int));rw [Nat.pow_zero,Nat.div_one]
  ·obtain⟨hk,hk2⟩:=hk;have hw:IntKind.i64.wrap (((8 - k:Nat):Int) - 1)=((7 - k:Nat):Int):=by
    rw [wrap64 (by omega) (by omega)];omega
   have hN:N < 256^7:=by show N < 72057594037927936;omega
   with_unfolding_all refine⟨λh=>?_,λh=>?_⟩
   ·have h:0 < N / 256^k:=by
     have h:((N / 256^k:Nat):Int) > 0:=of_decide_eq_true h;generalize N / 256^k=X at h ⊢;omega
    have hkN:256^k<=N:=by
     rcases Nat.lt_or_ge N (256^k) with h' | h'
     ·rw [Nat.div_eq_of_lt h'] at h;omega
     ·exact h'
    have hk7:k < 7:=by
     rcases Nat.lt_or_ge k 7 with h' | h'
     ·exact h'
     ·have:=Nat.pow_le_pow_right (show 0 < 256 by decide) h';omega
    with_unfolding_all refine⟨⟨by rw [hw];omega,by rw [hw];omega⟩,by decide,?_⟩
    rw [hw];with_unfolding_all refine⟨k+1,[some 0],⟨by omega,λ_=>hkN⟩,by show 8 - (k+1) < 8 - k;omega,Wo ⟨qZ (λi hi=>?_),qQ⟩ ⟨?_,pP,?_,qQ⟩ trivial⟩
    ·have hi:i < 8:=hi;show(if i < 8 - (k+1) then [PV.val (.int .u8 0)] else aZ N (k+1) (i - (8 - (k+1))))=if i=((7 - k:Nat):Int).toNat then [PV.val (.int .u8 (IntKind.u8.wrap ((N / 256^k:Nat):Int)))] else if i < 8 - k then [PV.val (.int .u8 0)] else aZ N k (i - (8 - k))
     rw [Int.toNat_natCast];rcases Nat.lt_trichotomy i (7 - k) with h1|h1|h1
     ·rw [if_pos (by omega),if_neg (by omega),if_pos (by omega)]
     ·rw [if_neg (by omega),if_pos h1,ck];simp only [aZ];rw [show k+1 - 1 - (i - (8 - (k+1)))=k by omega];rfl
     ·rw [if_neg (by omega),if_neg (by omega),if_neg (by omega)];simp only [aZ];rw [show k+1 - 1 - (i - (8 - (k+1)))=k - 1 - (i - (8 - k)) by omega]
    ·show PV.val (.int .i64 (((N / 256^k:Nat):Int) / 2^8))=PV.val (.int .i64 ((N / 256^(k+1):Nat):Int));rw [Nat.pow_succ,<-Nat.div_div_eq_div_mul];rfl
    ·show PV.val (.int .i64 ((7 - k:Nat):Int))=PV.val (.int .i64 ((8 - (k+1):Nat):Int));rw [show 8 - (k+1)=7 - k by omega]
   ·have h:N / 256^k=0:=by
     have h:¬((N / 256^k:Nat):Int) > 0:=of_decide_eq_false h;generalize N / 256^k=X at h ⊢;omega
    have hNk:N < 256^k:=by
     rcases Nat.lt_or_ge N (256^k) with h' | h'
     ·exact h'
     ·have:=Nat.div_pos h' (Nat.pow_pos (by decide));omega
    have h8:((8 - k:Nat):Int).toNat=8 - k:=Int.toNat_natCast _;have hn:((8:Nat) - ((8 - k:Nat):Int)).toNat=k:=by omega
    have hfin:=jq (N:=N) (k:=k) hNk hk2;with_unfolding_all refine⟨⟨by omega,by omega,by omega⟩,λi hi=>?_,[],aa [(2,.val (.string (ag N)))] [] 0 [],Wo trivial ⟨?_,qQ⟩ trivial,rfl,rfl⟩
    ·show ∃q:Int,(if ((8 - k:Nat):Int).toNat+i < 8 - k then [PV.val (.int .u8 0)] else aZ N k (((8 - k:Nat):Int).toNat+i - (8 - k)))=[PV.val (.int .u8 q)];split
     ·exact⟨_,rfl⟩
     ·exact⟨_,rfl⟩
    ·show PV.val (.string (cT ((8:Nat) - ((8 - k:Nat):Int)).toNat (λi=>if ((8 - k:Nat):Int).toNat+i < 8 - k then [PV.val (.int .u8 0)] else aZ N k (((8 - k:Nat):Int).toNat+i - (8 - k)))))=_;rw [hn,h8];have e:(λi=>if 8 - k+i < 8 - k then [PV.val (.int .u8 0)] else aZ N k (8 - k+i - (8 - k)))=aZ N k:=by
      funext i;rw [if_neg (by omega),Nat.add_sub_cancel_left]
     rw [e,hfin]
 ·cases e
def yn:List PV->Option Ans
 |[.val (.int .i64 n),.val (.int .i64 d)]=>some ⟨some (0 < d/\d < 72057594037927936/\n.natAbs < 72057594037927936),.val (au (mkRat n d.toNat)),[]⟩
 |_=>none
def D150:Opt:={}
theorem CS:ak D150.toOrd Tryz.f150 2=true:=by kernel_rfl
theorem f150:FnOk Tryz.prog 150 yn:=by
 refine FnOk.ofW aj (am (l:=[(196,AE)]) (own:=[]) (inl:=[]) (by simp [f196]) (by simp)) Tryz.func150 D150 2 CS λargs r e=>?_;unfold yn at e;split at e
 ·rename_i n d
  cases e;refine⟨by simp,λhm=>?_⟩;obtain⟨hd,hd2,hn⟩:=hm _ rfl;obtain⟨D,rfl⟩:∃D:Nat,d=(D:Int):=⟨d.toNat,by omega⟩;rw [Int.toNat_natCast];refine⟨[],aa [(0,.val (.int .i64 n)),(1,.val (.int .i64 (D:Nat)))] [] 0 [],Wo trivial ⟨rfl,rfl,qQ⟩ trivial,?_⟩;with_unfolding_all refine⟨Int×Int,λx=>(x.1.natAbs < 72057594037927936/\x.2.natAbs < 72057594037927936)/\Nat.gcd x.1.natAbs x.2.natAbs=Nat.gcd n.natAbs D,λx=>aa [(0,.val (.int .i64 n)),(1,.val (.int .i64 (D:Nat))),(4,.ptr 0 0 0 0),(5,.val (.int .i64 x.1)),(6,.val (.int .i64 x.2))] [ba false ⟨#[]⟩ ⟨#[]⟩ 0] 1 [],λx=>x.2.natAbs,?_,λx hx=>?_⟩
  ·with_unfolding_all refine⟨(n,(D:Int)),[some 0],⟨⟨hn,by omega⟩,by rw [Int.natAbs_natCast]⟩,Wo ⟨qX,qQ⟩ ⟨rfl,rfl,pP,rfl,rfl,qQ⟩ trivial⟩
  ·obtain⟨x,y⟩:=x;obtain⟨⟨hx,hy⟩,hg⟩:=hx;simp only at hx hy hg;with_unfolding_all refine⟨λh=>?_,λh=>?_⟩
   ·have h:y≠0:=by simpa using h
    have ht:(x.tmod y).natAbs=x.natAbs%y.natAbs:=Int.natAbs_tmod x y;have hlt:=Nat.mod_lt x.natAbs (show 0 < y.natAbs by omega);with_unfolding_all refine⟨h,(y,x.tmod y),[some 0],⟨⟨hy,by show(x.tmod y).natAbs < _;omega⟩,?_⟩,by show(x.tmod y).natAbs < y.natAbs;omega,Wo ⟨qX,qQ⟩ ⟨rfl,rfl,pP,rfl,?_,qQ⟩ trivial⟩
    ·show Nat.gcd y.natAbs (x.tmod y).natAbs=_;rw [ht,<-hg,Nat.gcd_comm y.natAbs,<-Nat.gcd_rec,Nat.gcd_comm]
    ·show PV.val (.int .i64 _)=PV.val (.int .i64 (x.tmod y));rfl
   ·have h:y=0:=by simpa using h
    subst h;have hxG:x.natAbs=Nat.gcd n.natAbs D:=by rw [<-hg];simp
    obtain⟨G,hG⟩:∃G,G=Nat.gcd n.natAbs D:=⟨_,rfl⟩;rw [<-hG] at hxG;obtain⟨q,hq⟩:∃q,q=mkRat n D:=⟨_,rfl⟩;have hGp:0 < G:=by rw [hG];exact Nat.gcd_pos_of_pos_right _ (by omega)
    have hG1:G∣n.natAbs:=by rw [hG];exact Nat.gcd_dvd_left _ _
    have hG2:G∣D:=by rw [hG];exact Nat.gcd_dvd_right _ _
    have hqn:q.num=n / (G:Int):=by rw [hq,Rat.num_mkRat,if_neg (by omega),Nat.gcd_comm,hG]
    have hqd:q.den=D / G:=by rw [hq,Rat.den_mkRat,if_neg (by omega),Nat.gcd_comm,hG]
    have hmul:q.num*(G:Int)=n:=by rw [hqn];exact Int.ediv_mul_cancel (Int.natAbs_dvd_natAbs.1 hG1)
    have hsg:decide (n < 0)=decide (q.num < 0):=by
     rw [decide_eq_decide];constructor
     ·intro h;rcases Int.lt_or_le q.num 0 with h' | h'
      ·exact h'
      ·have:=Int.mul_nonneg h' (show(0:Int)<=G by omega);omega
     ·intro h;have:=Int.mul_neg_of_neg_of_pos h (show(0:Int) < G by omega);omega
    have hab:n.natAbs / G=q.num.natAbs:=by
     have:n.natAbs=q.num.natAbs*G:=by rw [<-hmul,Int.natAbs_mul,Int.natAbs_natCast]
     rw [this,Nat.mul_div_cancel _ hGp]
    have m1:(if IntKind.i64.wrap (0 - x) > x then IntKind.i64.wrap (0 - x) else x)=(G:Int):=by
     rw [wrap64 (by omega) (by omega)];split<;>omega
    have m2:(if IntKind.i64.wrap (0 - n) > n then IntKind.i64.wrap (0 - n) else n)=(n.natAbs:Int):=by
     rw [wrap64 (by omega) (by omega)];split<;>omega
    have l1:n.natAbs / G<=n.natAbs:=Nat.div_le_self _ _;have l2:D / G<=D:=Nat.div_le_self _ _;have q1:IntKind.i64.wrap ((if IntKind.i64.wrap (0 - n) > n then IntKind.i64.wrap (0 - n) else n).tdiv (if IntKind.i64.wrap (0 - x) > x then IntKind.i64.wrap (0 - x) else x))=((q.num.natAbs:Nat):Int):=by
     rw [m1,m2,<-Int.ofNat_tdiv,hab,wrap64 (by omega) (by omega)]
    have q2:IntKind.i64.wrap ((D:Int).tdiv (if IntKind.i64.wrap (0 - x) > x then IntKind.i64.wrap (0 - x) else x))=((q.den:Nat):Int):=by
     rw [m1,<-Int.ofNat_tdiv,<-hqd,wrap64 (by omega) (by omega)]
    have s1:PV.val (.string (ag (IntKind.i64.wrap ((if IntKind.i64.wrap (0 - n) > n then IntKind.i64.wrap (0 - n) else n).tdiv (if IntKind.i64.wrap (0 - x) > x then IntKind.i64.wrap (0 - x) else x))).toNat))=PV.val (.string (ag q.num.natAbs)):=by rw [q1,Int.toNat_natCast]
    have s2:PV.val (.bool (decide (n < 0)))=PV.val (.bool (decide (q.num < 0))):=by rw [hsg]
    have s3:(((D:Nat):Int) != (if IntKind.i64.wrap (0 - x) > x then IntKind.i64.wrap (0 - x) else x))=true->PV.val (.string (ag (IntKind.i64.wrap ((D:Int).tdiv (if IntKind.i64.wrap (0 - x) > x then IntKind.i64.wrap (0 - x) else x))).toNat))=PV.val (.string (aK q.den)):=λh=>by
     rw [m1] at h;have h:¬D=G:=by
      intro e;rw [e] at h;simp at h
     have:q.den≠1:=by
      rw [hqd];intro e;have:=Nat.div_mul_cancel hG2;rw [e] at this;omega
     rw [q2,Int.toNat_natCast,aK,if_neg this]
    have s4:(((D:Nat):Int) != (if IntKind.i64.wrap (0 - x) > x then IntKind.i64.wrap (0 - x) else x))=false->PV.val (.string ⟨#[]⟩)=PV.val (.string (aK q.den)):=λh=>by
     rw [m1] at h;have h:D=G:=by
      simp at h;omega
     have:q.den=1:=by rw [hqd,h,Nat.div_self hGp]
     rw [aK,if_pos this]
    have hz:(n==0)=true->Value.agg ⟨[.bool false,.string ⟨#[]⟩,.string ⟨#[]⟩]⟩=au q:=λh=>by
     have h:n=0:=by simpa using h
     rw [<-ib,hq,h,Rat.zero_mkRat]
    have hne:(if IntKind.i64.wrap (0 - x) > x then IntKind.i64.wrap (0 - x) else x)≠0:=by rw [m1];omega
    with_unfolding_all refine⟨λh=>⟨[some 0],aa [(4,.ptr 0 0 0 0)] [ba false ⟨#[]⟩ ⟨#[]⟩ 0] 1 [],Wo ⟨qX,qQ⟩ ⟨pP,qQ⟩ trivial,by rw [<-hq];exact congrArg PV.val (hz h),rfl⟩,λh=>⟨hne,⟨by rw [q1];omega,by rw [q1];omega⟩,λh=>⟨hne,⟨by rw [q2];omega,by rw [q2];omega⟩,⟨[some 0],aa [(4,.ptr 0 0 0 0)] [ba (decide (q.num < 0)) (ag q.num.natAbs) (aK q.den) 0] 1 [],Wo ⟨qZ ⟨⟨s2,rfl⟩,⟨s1,rfl⟩,⟨s3 h,rfl⟩,qQ⟩,qQ⟩ ⟨pP,qQ⟩ trivial,by rw [<-hq];rfl,rfl⟩⟩,λh=>⟨[some 0],aa [(4,.ptr 0 0 0 0)] [ba (decide (q.num < 0)) (ag q.num.natAbs) (aK q.den) 0] 1 [],Wo ⟨qZ ⟨⟨s2,rfl⟩,⟨s1,rfl⟩,⟨s4 h,rfl⟩,qQ⟩,qQ⟩ ⟨pP,qQ⟩ trivial,by rw [<-hq];rfl,rfl⟩⟩⟩
 ·cases e
end Go.Proofs
namespace Go.Num
def sf (k:Nat) (v:Value):Prop:=∃s b c,v=.agg ⟨[.bool s,.string b,.bool false,.string c]⟩/\b.size<=k/\c.size<=k/\bv c≠0
def jr (v:Value):Rat:=mkRat (j4 v) (fN v).toNat
theorem EZ (b c:ByteArray):bv b*bv c < 256^(b.size+c.size):=by
 rw [Nat.pow_add];exact Nat.mul_lt_mul'' (bt b) (bt c)
theorem od (s q:Bool) (b c:ByteArray):(aw s (bv b)*aw q (bv c)).natAbs < 256^(b.size+c.size):=by
 rw [Int.natAbs_mul,aD,aD];exact EZ b c
theorem CT {x y:Int} {k l:Nat} (h1:x.natAbs < 256^k) (h2:y.natAbs < 256^l):(x+y).natAbs < 256^(k+l+1):=by
 have e1:256^k<=256^(k+l):=Nat.pow_le_pow_right (by decide) (by omega);have e2:256^l<=256^(k+l):=Nat.pow_le_pow_right (by decide) (by omega);have e3:256^(k+l)*256=256^(k+l+1):=(Nat.pow_succ ..).symm;omega
def fy (Z W:Int):Value:=.agg ⟨[.bool (decide (Z < 0)),.string (ag Z.natAbs),.bool (decide (W < 0)),.string (ag W.natAbs)]⟩
theorem js (Z W:Int):mkRat (j4 (fy Z W)) (fN (fy Z W)).toNat=mkRat Z W.toNat:=by
 show mkRat (aG (av Z)) (aG (av W)).toNat=_;rw [aq,aq]
theorem mV (a b:Nat):(aw false a*aw false b).toNat=a*b:=by
 show((a:Int)*(b:Int)).toNat=_;rw [<-Int.natCast_mul,Int.toNat_natCast]
theorem pY {a b:Nat} (ha:a≠0) (hb:b≠0):0 < aw false a*aw false b:=Int.mul_pos (show(0:Int) < a by omega) (show(0:Int) < b by omega)
theorem kw {p q:Rat} (h:p=q):PV.val (.bool (decide (p.num < 0)))=PV.val (.bool (decide (q.num < 0))):=by rw [h]
theorem kx {p q:Rat} (h:p=q):PV.val (.string (ag p.num.natAbs))=PV.val (.string (ag q.num.natAbs)):=by rw [h]
theorem ky {p q:Rat} (h:p=q):PV.val (.string (aK p.den))=PV.val (.string (aK q.den)):=by rw [h]
end Go.Num
namespace Go.Proofs
def AF:List PV->Option Ans
 |[.val v,.val u]=>some ⟨some (sf 4294967296 v/\sf 4294967296 u),.val (au (jr v+jr u)),[]⟩
 |_=>none
def D151:Opt:={ perm:=iS 1 [(0,true),(1,true),(2,true),(3,true),(5,true),(6,true),(7,true),(8,true),(11,true),(12,true),(13,true),(14,true),(4,false),(9,false),(10,false),(15,false),(16,true),(17,false)] }
theorem CU:ak D151.toOrd Tryz.f151 2=true:=by kernel_rfl
theorem f151:FnOk Tryz.prog 151 AF:=by
 refine FnOk.ofW aj (am (l:=[(119,uK),(152,wq),(110,se)]) (own:=[]) (inl:=[]) (by simp [f119,f152,f110]) (by simp)) Tryz.func151 D151 2 CU λargs r e=>?_;unfold AF at e;split at e
 ·rename_i v u
  cases e;refine⟨by simp,λhm=>?_⟩;obtain⟨⟨s,b,c,rfl,hb,hc,hc0⟩,s',b',c',rfl,hb',hc',hc0'⟩:=hm _ rfl;refine⟨[],aa [(0,.val (.agg ⟨[.bool s,.string b,.bool false,.string c]⟩)),(1,.val (.agg ⟨[.bool s',.string b',.bool false,.string c']⟩))] [] 0 [],Wo trivial ⟨rfl,rfl,qQ⟩ trivial,?_⟩;have I1:ef (.agg ⟨[.bool s,.string b]⟩):=⟨_,_,rfl,by omega⟩;have I2:ef (.agg ⟨[.bool false,.string c]⟩):=⟨_,_,rfl,by omega⟩;have I3:ef (.agg ⟨[.bool s',.string b']⟩):=⟨_,_,rfl,by omega⟩;have I4:ef (.agg ⟨[.bool false,.string c']⟩):=⟨_,_,rfl,by omega⟩;have X1:=od s false b c';have X2:=od s' false b' c;have X3:=od false false c c';have J1:ef (av (aw s (bv b)*aw false (bv c'))):=cF X1 (by omega);have J2:ef (av (aw s' (bv b')*aw false (bv c))):=cF X2 (by omega);have Z1:=CT X1 X2;have hQ:mkRat (j4 (fy (aG (av (aw s (bv b)*aw false (bv c')))+aG (av (aw s' (bv b')*aw false (bv c)))) (aw false (bv c)*aw false (bv c')))) (fN (fy (aG (av (aw s (bv b)*aw false (bv c')))+aG (av (aw s' (bv b')*aw false (bv c)))) (aw false (bv c)*aw false (bv c')))).toNat=jr (.agg ⟨[.bool s,.string b,.bool false,.string c]⟩)+jr (.agg ⟨[.bool s',.string b',.bool false,.string c']⟩):=by
   rw [js,aq,aq,mV];show _=mkRat (aw s (bv b)) (bv c)+mkRat (aw s' (bv b')) (bv c');rw [Rat.mkRat_add_mkRat _ _ hc0 hc0'];rfl
  have S1:(ag (aG (av (aw s (bv b)*aw false (bv c')))+aG (av (aw s' (bv b')*aw false (bv c)))).natAbs).size<=34359738368:=by
   rw [aq,aq];exact Nat.le_trans (aX Z1) (by omega)
  have S2:(ag (aw false (bv c)*aw false (bv c')).natAbs).size<=34359738368:=Nat.le_trans (aX X3) (by omega);have hp:0 < fN (fy (aG (av (aw s (bv b)*aw false (bv c')))+aG (av (aw s' (bv b')*aw false (bv c)))) (aw false (bv c)*aw false (bv c'))):=by
   show 0 < aG (av (aw false (bv c)*aw false (bv c')));rw [aq];exact pY hc0 hc0'
  with_unfolding_all refine⟨⟨I1,I4⟩,⟨I3,I2⟩,⟨J1,J2⟩,⟨I2,I4⟩,⟨⟨_,_,_,_,rfl,S1,S2⟩,hp⟩,[some 2],aa [(4,.ptr 0 0 0 0)] [ba (decide ((jr (.agg ⟨[.bool s,.string b,.bool false,.string c]⟩)+jr (.agg ⟨[.bool s',.string b',.bool false,.string c']⟩)).num < 0)) (ag (jr (.agg ⟨[.bool s,.string b,.bool false,.string c]⟩)+jr (.agg ⟨[.bool s',.string b',.bool false,.string c']⟩)).num.natAbs) (aK (jr (.agg ⟨[.bool s,.string b,.bool false,.string c]⟩)+jr (.agg ⟨[.bool s',.string b',.bool false,.string c']⟩)).den) 0] 1 [],Wo ⟨qZ ⟨⟨kw hQ,rfl⟩,⟨kx hQ,rfl⟩,⟨ky hQ,rfl⟩,qQ⟩,qQ⟩ ⟨pP,qQ⟩ trivial,rfl,rfl⟩
 ·cases e
def AG:List PV->Option Ans
 |[.val v,.val u]=>some ⟨some (sf 4294967296 v/\sf 4294967296 u),.val (au (jr v*jr u)),[]⟩
 |_=>none
def D154:Opt:={ perm:=iS 1 [(0,true),(1,true),(2,true),(3,true),(5,true),(6,true),(7,true),(8,true),(4,false),(9,false),(10,true),(11,false)] }
theorem CV:ak D154.toOrd Tryz.f154 2=true:=by kernel_rfl
theorem f154:FnOk Tryz.prog 154 AG:=by
 refine FnOk.ofW aj (am (l:=[(119,uK),(110,se)]) (own:=[]) (inl:=[]) (by simp [f119,f110]) (by simp)) Tryz.func154 D154 2 CV λargs r e=>?_;unfold AG at e;split at e
 ·rename_i v u
  cases e;refine⟨by simp,λhm=>?_⟩;obtain⟨⟨s,b,c,rfl,hb,hc,hc0⟩,s',b',c',rfl,hb',hc',hc0'⟩:=hm _ rfl;refine⟨[],aa [(0,.val (.agg ⟨[.bool s,.string b,.bool false,.string c]⟩)),(1,.val (.agg ⟨[.bool s',.string b',.bool false,.string c']⟩))] [] 0 [],Wo trivial ⟨rfl,rfl,qQ⟩ trivial,?_⟩;have I1:ef (.agg ⟨[.bool s,.string b]⟩):=⟨_,_,rfl,by omega⟩;have I2:ef (.agg ⟨[.bool false,.string c]⟩):=⟨_,_,rfl,by omega⟩;have I3:ef (.agg ⟨[.bool s',.string b']⟩):=⟨_,_,rfl,by omega⟩;have I4:ef (.agg ⟨[.bool false,.string c']⟩):=⟨_,_,rfl,by omega⟩;have X1:=od s s' b b';have X3:=od false false c c';have hQ:mkRat (j4 (fy (aw s (bv b)*aw s' (bv b')) (aw false (bv c)*aw false (bv c')))) (fN (fy (aw s (bv b)*aw s' (bv b')) (aw false (bv c)*aw false (bv c')))).toNat=jr (.agg ⟨[.bool s,.string b,.bool false,.string c]⟩)*jr (.agg ⟨[.bool s',.string b',.bool false,.string c']⟩):=by
   rw [js,mV];show _=mkRat (aw s (bv b)) (bv c)*mkRat (aw s' (bv b')) (bv c');rw [Rat.mkRat_mul_mkRat]
  have S1:(ag (aw s (bv b)*aw s' (bv b')).natAbs).size<=34359738368:=Nat.le_trans (aX X1) (by omega);have S2:(ag (aw false (bv c)*aw false (bv c')).natAbs).size<=34359738368:=Nat.le_trans (aX X3) (by omega);have hp:0 < fN (fy (aw s (bv b)*aw s' (bv b')) (aw false (bv c)*aw false (bv c'))):=by
   show 0 < aG (av (aw false (bv c)*aw false (bv c')));rw [aq];exact pY hc0 hc0'
  with_unfolding_all refine⟨⟨I1,I3⟩,⟨I2,I4⟩,⟨⟨_,_,_,_,rfl,S1,S2⟩,hp⟩,[some 2],aa [(4,.ptr 0 0 0 0)] [ba (decide ((jr (.agg ⟨[.bool s,.string b,.bool false,.string c]⟩)*jr (.agg ⟨[.bool s',.string b',.bool false,.string c']⟩)).num < 0)) (ag (jr (.agg ⟨[.bool s,.string b,.bool false,.string c]⟩)*jr (.agg ⟨[.bool s',.string b',.bool false,.string c']⟩)).num.natAbs) (aK (jr (.agg ⟨[.bool s,.string b,.bool false,.string c]⟩)*jr (.agg ⟨[.bool s',.string b',.bool false,.string c']⟩)).den) 0] 1 [],Wo ⟨qZ ⟨⟨kw hQ,rfl⟩,⟨kx hQ,rfl⟩,⟨ky hQ,rfl⟩,qQ⟩,qQ⟩ ⟨pP,qQ⟩ trivial,rfl,rfl⟩
 ·cases e
def AH:List PV->Option Ans
 |[.val v,.val u]=>some ⟨some (sf 4294967296 v/\sf 4294967296 u),.val (goInt (bq (j4 v*fN u) (j4 u*fN v))),[]⟩
 |_=>none
def D118:Opt:={ perm:=iS 1 [(0,true),(1,true),(2,true),(3,true),(5,true),(6,true),(7,true),(8,true),(4,false),(9,false),(10,false)] }
theorem CW:ak D118.toOrd Tryz.f118 2=true:=by kernel_rfl
theorem f118:FnOk Tryz.prog 118 AH:=by
 refine FnOk.ofW aj (am (l:=[(119,uK),(108,uL)]) (own:=[]) (inl:=[]) (by simp [f119,f108]) (by simp)) Tryz.func118 D118 2 CW λargs r e=>?_;unfold AH at e;split at e
 ·rename_i v u
  cases e;refine⟨by simp,λhm=>?_⟩;obtain⟨⟨s,b,c,rfl,hb,hc,hc0⟩,s',b',c',rfl,hb',hc',hc0'⟩:=hm _ rfl;refine⟨[],aa [(0,.val (.agg ⟨[.bool s,.string b,.bool false,.string c]⟩)),(1,.val (.agg ⟨[.bool s',.string b',.bool false,.string c']⟩))] [] 0 [],Wo trivial ⟨rfl,rfl,qQ⟩ trivial,?_⟩;have I1:ef (.agg ⟨[.bool s,.string b]⟩):=⟨_,_,rfl,by omega⟩;have I2:ef (.agg ⟨[.bool false,.string c]⟩):=⟨_,_,rfl,by omega⟩;have I3:ef (.agg ⟨[.bool s',.string b']⟩):=⟨_,_,rfl,by omega⟩;have I4:ef (.agg ⟨[.bool false,.string c']⟩):=⟨_,_,rfl,by omega⟩;have J1:ef (av (aw s (bv b)*aw false (bv c'))):=cF (od s false b c') (by omega);have J2:ef (av (aw s' (bv b')*aw false (bv c))):=cF (od s' false b' c) (by omega);have hC:PV.val (goInt (bq (aG (av (aw s (bv b)*aw false (bv c')))) (aG (av (aw s' (bv b')*aw false (bv c))))))=PV.val (goInt (bq (aw s (bv b)*aw false (bv c')) (aw s' (bv b')*aw false (bv c)))):=by rw [aq,aq]
  with_unfolding_all refine⟨⟨I1,I4⟩,⟨I3,I2⟩,⟨J1,J2⟩,[],aa [(4,.val (goInt (bq (aw s (bv b)*aw false (bv c')) (aw s' (bv b')*aw false (bv c)))))] [] 0 [],Wo trivial ⟨hC,qQ⟩ trivial,rfl,rfl⟩
 ·cases e
end Go.Proofs
namespace Go.Num
def AI (n d m e:Int):Prop:=n.natAbs < 16777216/\(0 < d/\d < 16777216)/\m.natAbs < 16777216/\0 < e/\e < 16777216
theorem gI {x y:Int} (h1:x.natAbs < 16777216) (h2:y.natAbs < 16777216):(x*y).natAbs < 281474976710656:=by
 rw [Int.natAbs_mul];exact Nat.mul_lt_mul'' h1 h2
theorem jt {x y:Int} (h1:x.natAbs < 16777216) (h2:y.natAbs < 16777216):IntKind.i64.wrap (x*y)=x*y:=by
 have:=gI h1 h2;exact wrap64 (by omega) (by omega)
end Go.Num
namespace Go.Proofs
def AJ:List PV->Option Ans
 |[.val (.int .i64 n),.val (.int .i64 d),.val (.int .i64 m),.val (.int .i64 e)]=>some ⟨some (AI n d m e),.val (au (mkRat (n*e+m*d) (d*e).toNat)),[]⟩
 |_=>none
theorem CX:ak {} Tryz.f149 4=true:=by kernel_rfl
theorem f149:FnOk Tryz.prog 149 AJ:=by
 refine FnOk.ofW aj (am (l:=[(150,yn)]) (own:=[]) (inl:=[]) (by simp [f150]) (by simp)) Tryz.func149 {} 4 CX λargs r e=>?_;unfold AJ at e;split at e
 ·rename_i n d m e'
  cases e;refine⟨by simp,λhm=>?_⟩;obtain⟨hn,⟨hd1,hd2⟩,hm',he1,he2⟩:=hm _ rfl;have hd:d.natAbs < 16777216:=by omega
  have he:e'.natAbs < 16777216:=by omega
  refine⟨[],aa [(0,.val (.int .i64 n)),(1,.val (.int .i64 d)),(2,.val (.int .i64 m)),(3,.val (.int .i64 e'))] [] 0 [],Wo trivial ⟨rfl,rfl,rfl,rfl,qQ⟩ trivial,?_⟩;have b1:=gI hn he;have b2:=gI hm' hd;have b3:=gI hd he;have b4:0 < d*e':=Int.mul_pos hd1 he1;have w1:IntKind.i64.wrap (IntKind.i64.wrap (n*e')+IntKind.i64.wrap (m*d))=n*e'+m*d:=by
   rw [jt hn he,jt hm' hd,wrap64 (by omega) (by omega)]
  have w2:IntKind.i64.wrap (d*e')=d*e':=jt hd he;have hQ:mkRat (IntKind.i64.wrap (IntKind.i64.wrap (n*e')+IntKind.i64.wrap (m*d))) (IntKind.i64.wrap (d*e')).toNat=mkRat (n*e'+m*d) (d*e').toNat:=by rw [w1,w2]
  with_unfolding_all refine⟨⟨by rw [w2];exact b4,by rw [w2];omega,by rw [w1];omega⟩,[some 0],aa [(8,.ptr 0 0 0 0)] [ba (decide ((mkRat (n*e'+m*d) (d*e').toNat).num < 0)) (ag (mkRat (n*e'+m*d) (d*e').toNat).num.natAbs) (aK (mkRat (n*e'+m*d) (d*e').toNat).den) 0] 1 [],Wo ⟨qZ ⟨⟨kw hQ,rfl⟩,⟨kx hQ,rfl⟩,⟨ky hQ,rfl⟩,qQ⟩,qQ⟩ ⟨pP,qQ⟩ trivial,rfl,rfl⟩
 ·cases e
def AK:List PV->Option Ans
 |[.val (.int .i64 n),.val (.int .i64 d),.val (.int .i64 m),.val (.int .i64 e)]=>some ⟨some (AI n d m e),.val (au (mkRat (n*m) (d*e).toNat)),[]⟩
 |_=>none
theorem CY:ak {} Tryz.f153 4=true:=by kernel_rfl
theorem f153:FnOk Tryz.prog 153 AK:=by
 refine FnOk.ofW aj (am (l:=[(150,yn)]) (own:=[]) (inl:=[]) (by simp [f150]) (by simp)) Tryz.func153 {} 4 CY λargs r e=>?_;unfold AK at e;split at e
 ·rename_i n d m e'
  cases e;refine⟨by simp,λhm=>?_⟩;obtain⟨hn,⟨hd1,hd2⟩,hm',he1,he2⟩:=hm _ rfl;have hd:d.natAbs < 16777216:=by omega
  have he:e'.natAbs < 16777216:=by omega
  refine⟨[],aa [(0,.val (.int .i64 n)),(1,.val (.int .i64 d)),(2,.val (.int .i64 m)),(3,.val (.int .i64 e'))] [] 0 [],Wo trivial ⟨rfl,rfl,rfl,rfl,qQ⟩ trivial,?_⟩;have b1:=gI hn hm';have b3:=gI hd he;have b4:0 < d*e':=Int.mul_pos hd1 he1;have w1:IntKind.i64.wrap (n*m)=n*m:=jt hn hm';have w2:IntKind.i64.wrap (d*e')=d*e':=jt hd he;have hQ:mkRat (IntKind.i64.wrap (n*m)) (IntKind.i64.wrap (d*e')).toNat=mkRat (n*m) (d*e').toNat:=by rw [w1,w2]
  with_unfolding_all refine⟨⟨by rw [w2];exact b4,by rw [w2];omega,by rw [w1];omega⟩,[some 0],aa [(8,.ptr 0 0 0 0)] [ba (decide ((mkRat (n*m) (d*e').toNat).num < 0)) (ag (mkRat (n*m) (d*e').toNat).num.natAbs) (aK (mkRat (n*m) (d*e').toNat).den) 0] 1 [],Wo ⟨qZ ⟨⟨kw hQ,rfl⟩,⟨kx hQ,rfl⟩,⟨ky hQ,rfl⟩,qQ⟩,qQ⟩ ⟨pP,qQ⟩ trivial,rfl,rfl⟩
 ·cases e
def AL:List PV->Option Ans
 |[.val (.int .i64 n),.val (.int .i64 d),.val (.int .i64 m),.val (.int .i64 e)]=>some ⟨some (AI n d m e),.val (goInt (bq (n*e) (m*d))),[]⟩
 |_=>none
theorem CZ:ak {} Tryz.f117 4=true:=by kernel_rfl
theorem f117:FnOk Tryz.prog 117 AL:=by
 refine FnOk.ofW aj (am (l:=[]) (own:=[]) (inl:=[]) (by simp) (by simp)) Tryz.func117 {} 4 CZ λargs r e=>?_;unfold AL at e;split at e
 ·rename_i n d m e'
  cases e;refine⟨by simp,λhm=>?_⟩;obtain⟨hn,⟨hd1,hd2⟩,hm',he1,he2⟩:=hm _ rfl;have hd:d.natAbs < 16777216:=by omega
  have he:e'.natAbs < 16777216:=by omega
  refine⟨[],aa [(0,.val (.int .i64 n)),(1,.val (.int .i64 d)),(2,.val (.int .i64 m)),(3,.val (.int .i64 e'))] [] 0 [],Wo trivial ⟨rfl,rfl,rfl,rfl,qQ⟩ trivial,?_⟩;have w1:IntKind.i64.wrap (n*e')=n*e':=jt hn he;have w2:IntKind.i64.wrap (m*d)=m*d:=jt hm' hd;have t1:decide (IntKind.i64.wrap (n*e') < IntKind.i64.wrap (m*d))=true->PV.val (goInt (-1))=PV.val (goInt (bq (n*e') (m*d))):=λh=>by
   rw [w1,w2] at h;rw [bq,if_pos (of_decide_eq_true h)]
  have t2:decide (IntKind.i64.wrap (n*e') < IntKind.i64.wrap (m*d))=false->decide (IntKind.i64.wrap (n*e') > IntKind.i64.wrap (m*d))=true->PV.val (goInt 1)=PV.val (goInt (bq (n*e') (m*d))):=λh h'=>by
   rw [w1,w2] at h h';rw [bq,if_neg (of_decide_eq_false h),if_pos (of_decide_eq_true h')]
  have t3:decide (IntKind.i64.wrap (n*e') < IntKind.i64.wrap (m*d))=false->decide (IntKind.i64.wrap (n*e') > IntKind.i64.wrap (m*d))=false->PV.val (goInt 0)=PV.val (goInt (bq (n*e') (m*d))):=λh h'=>by
   rw [w1,w2] at h h';rw [bq,if_neg (of_decide_eq_false h),if_neg (of_decide_eq_false h')]
  with_unfolding_all refine⟨λh=>⟨[],aa [(8,.val (goInt (bq (n*e') (m*d))))] [] 0 [],Wo trivial ⟨t1 h,qQ⟩ trivial,rfl,rfl⟩,λh=>⟨λh'=>⟨[],aa [(8,.val (goInt (bq (n*e') (m*d))))] [] 0 [],Wo trivial ⟨t2 h h',qQ⟩ trivial,rfl,rfl⟩,λh'=>⟨[],aa [(8,.val (goInt (bq (n*e') (m*d))))] [] 0 [],Wo trivial ⟨t3 h h',qQ⟩ trivial,rfl,rfl⟩⟩⟩
 ·cases e
end Go.Proofs
namespace Go.Num
def isRk (k:Nat) (v:Value):Prop:=∃s b c,v=.agg ⟨[.bool s,.string b,.string c]⟩/\b.size<=k/\c.size<=k
theorem isRk.R {k:Nat} {v:Value} (h:isRk k v) (hk:k<=34359738368):CK v:=by
 obtain⟨s,b,c,rfl,hb,hc⟩:=h;exact⟨_,_,_,rfl,by omega,by omega⟩
theorem ey {k:Nat} {v:Value} (h:isRk k v) (hk:1<=k):sf k (n9 v):=by
 obtain⟨s,b,c,rfl,hb,hc⟩:=h;refine⟨s,b,ex c,rfl,hb,?_,?_⟩
 ·unfold ex;split
  ·exact Nat.le_trans (aX (k:=1) (by decide)) hk
  ·exact hc
 ·rw [jp];have:=bL (bv c);omega
theorem ju {v:Value} (h:CK v):jr (n9 v)=aF v:=by
 obtain⟨_,h2,h3,_⟩:=k9 h;rw [jr,h2,h3,Int.toNat_natCast];rfl
theorem dJ {b c:ByteArray} (h:Go.Proofs.smallB b c=true):b.size<=3/\c.size<=3:=by
 simpa [Go.Proofs.smallB] using h
theorem fP {b:ByteArray} (h:b.size<=3):bv b < 16777216:=by
 have h1:=bt b;have h2:256^b.size<=256^3:=Nat.pow_le_pow_right (by decide) h;omega
theorem oe {n:Nat} (h:n < 16777216):bj n < 16777216:=by unfold bj;split<;>omega
theorem sg {b c b' c':ByteArray} (s s':Bool) (h:b.size<=3) (hc:c.size<=3) (h':b'.size<=3) (hc':c'.size<=3):AI (aw s (bv b)) (bj (bv c):Nat) (aw s' (bv b')) (bj (bv c'):Nat):=by
 have h1:=fP h;have h2:=oe (fP hc);have h3:=fP h';have h4:=oe (fP hc');have h5:=bL (bv c);have h6:=bL (bv c');refine⟨by rw [aD];exact h1,⟨by omega,by omega⟩,by rw [aD];exact h3,by omega,by omega⟩
end Go.Num
namespace Go.Proofs
def yo:List PV->Option Ans
 |[.val v,.val u,.val (.func (.func 149) ⟨[]⟩ ⟨[]⟩),.val (.func (.func 151) ⟨[]⟩ ⟨[]⟩)]=>some ⟨some (isRk 4294967296 v/\isRk 4294967296 u),.val (au (aF v+aF u)),[]⟩
 |[.val v,.val u,.val (.func (.func 153) ⟨[]⟩ ⟨[]⟩),.val (.func (.func 154) ⟨[]⟩ ⟨[]⟩)]=>some ⟨some (isRk 4294967296 v/\isRk 4294967296 u),.val (au (aF v*aF u)),[]⟩
 |_=>none
def D148:Opt:={ perm:=iS 5 [(0,true),(1,true),(3,true),(2,false),(4,false),(5,false)] }
theorem C0:ak D148.toOrd Tryz.f148 4=true:=by kernel_rfl
theorem f148:FnOk Tryz.prog 148 yo:=by
 refine FnOk.ofW aj (am (l:=[(155,yk),(137,sa),(149,AJ),(151,AF),(153,AK),(154,AG)]) (own:=[]) (inl:=[]) (by simp [f155,f137,f149,f151,f153,f154]) (by simp)) Tryz.func148 D148 4 C0 λargs r e=>?_;unfold yo at e;split at e
 ·rename_i v u
  cases e;refine⟨by simp,λhm=>?_⟩;obtain⟨hv,hu⟩:=hm _ rfl;have f1:=ey hv (by decide);have f2:=ey hu (by decide);have g1:=ju (hv.R (by decide));have g2:=ju (hu.R (by decide));have r1:=hv.R (by decide);have r2:=hu.R (by decide);obtain⟨s,b,c,rfl,hb,hc⟩:=hv;obtain⟨s',b',c',rfl,hb',hc'⟩:=hu;refine⟨[],aa [(0,.val (.agg ⟨[.bool s,.string b,.string c]⟩)),(1,.val (.agg ⟨[.bool s',.string b',.string c']⟩)),(2,.val (.func (.func 149) ⟨[]⟩ ⟨[]⟩)),(3,.val (.func (.func 151) ⟨[]⟩ ⟨[]⟩))] [] 0 [],Wo trivial ⟨rfl,rfl,rfl,rfl,qQ⟩ trivial,?_⟩;have hbig:jr (n9 (.agg ⟨[.bool s,.string b,.string c]⟩))+jr (n9 (.agg ⟨[.bool s',.string b',.string c']⟩))=aF (.agg ⟨[.bool s,.string b,.string c]⟩)+aF (.agg ⟨[.bool s',.string b',.string c']⟩):=by rw [g1,g2]
  have h4:smallB b c=true->smallB b' c'=true->AI (bif smallB b c then aw s (bv b) else 0) (bif smallB b c then((bj (bv c):Nat):Int) else 0) (bif smallB b' c' then aw s' (bv b') else 0) (bif smallB b' c' then((bj (bv c'):Nat):Int) else 0):=λh h'=>by
   rw [h,h'];obtain⟨h1,h2⟩:=dJ h;obtain⟨h3,h4⟩:=dJ h';exact sg s s' h1 h2 h3 h4
  have hsm:smallB b c=true->smallB b' c'=true->mkRat ((bif smallB b c then aw s (bv b) else 0)*(bif smallB b' c' then((bj (bv c'):Nat):Int) else 0)+(bif smallB b' c' then aw s' (bv b') else 0)*(bif smallB b c then((bj (bv c):Nat):Int) else 0)) ((bif smallB b c then((bj (bv c):Nat):Int) else 0)*(bif smallB b' c' then((bj (bv c'):Nat):Int) else 0)).toNat=aF (.agg ⟨[.bool s,.string b,.string c]⟩)+aF (.agg ⟨[.bool s',.string b',.string c']⟩):=λh h'=>by
   rw [h,h'];show mkRat (aw s (bv b)*((bj (bv c'):Nat):Int)+aw s' (bv b')*((bj (bv c):Nat):Int)) (((bj (bv c):Nat):Int)*((bj (bv c'):Nat):Int)).toNat=mkRat (aw s (bv b)) (bj (bv c))+mkRat (aw s' (bv b')) (bj (bv c'));rw [Rat.mkRat_add_mkRat _ _ (Nat.ne_of_gt (bL _)) (Nat.ne_of_gt (bL _)),<-Int.natCast_mul,Int.toNat_natCast]
  with_unfolding_all refine⟨λh=>⟨λh'=>⟨h4 h h',[some 2],aa [(8,.ptr 0 0 0 0)] [ba (decide ((aF (.agg ⟨[.bool s,.string b,.string c]⟩)+aF (.agg ⟨[.bool s',.string b',.string c']⟩)).num < 0)) (ag (aF (.agg ⟨[.bool s,.string b,.string c]⟩)+aF (.agg ⟨[.bool s',.string b',.string c']⟩)).num.natAbs) (aK (aF (.agg ⟨[.bool s,.string b,.string c]⟩)+aF (.agg ⟨[.bool s',.string b',.string c']⟩)).den) 0] 1 [],Wo ⟨qZ ⟨⟨kw (hsm h h'),rfl⟩,⟨kx (hsm h h'),rfl⟩,⟨ky (hsm h h'),rfl⟩,qQ⟩,qQ⟩ ⟨pP,qQ⟩ trivial,rfl,rfl⟩,λh'=>⟨r1,r2,⟨f1,f2⟩,[some 2],aa [(8,.ptr 0 0 0 0)] [ba (decide ((aF (.agg ⟨[.bool s,.string b,.string c]⟩)+aF (.agg ⟨[.bool s',.string b',.string c']⟩)).num < 0)) (ag (aF (.agg ⟨[.bool s,.string b,.string c]⟩)+aF (.agg ⟨[.bool s',.string b',.string c']⟩)).num.natAbs) (aK (aF (.agg ⟨[.bool s,.string b,.string c]⟩)+aF (.agg ⟨[.bool s',.string b',.string c']⟩)).den) 0] 1 [],Wo ⟨qZ ⟨⟨kw hbig,rfl⟩,⟨kx hbig,rfl⟩,⟨ky hbig,rfl⟩,qQ⟩,qQ⟩ ⟨pP,qQ⟩ trivial,rfl,rfl⟩⟩,λh=>⟨λh'=>(nomatch h'),λ_=>⟨r1,r2,⟨f1,f2⟩,[some 2],aa [(8,.ptr 0 0 0 0)] [ba (decide ((aF (.agg ⟨[.bool s,.string b,.string c]⟩)+aF (.agg ⟨[.bool s',.string b',.string c']⟩)).num < 0)) (ag (aF (.agg ⟨[.bool s,.string b,.string c]⟩)+aF (.agg ⟨[.bool s',.string b',.string c']⟩)).num.natAbs) (aK (aF (.agg ⟨[.bool s,.string b,.string c]⟩)+aF (.agg ⟨[.bool s',.string b',.string c']⟩)).den) 0] 1 [],Wo ⟨qZ ⟨⟨kw hbig,rfl⟩,⟨kx hbig,rfl⟩,⟨ky hbig,rfl⟩,qQ⟩,qQ⟩ ⟨pP,qQ⟩ trivial,rfl,rfl⟩⟩⟩
 ·rename_i v u
  cases e;refine⟨by simp,λhm=>?_⟩;obtain⟨hv,hu⟩:=hm _ rfl;have f1:=ey hv (by decide);have f2:=ey hu (by decide);have g1:=ju (hv.R (by decide));have g2:=ju (hu.R (by decide));have r1:=hv.R (by decide);have r2:=hu.R (by decide);obtain⟨s,b,c,rfl,hb,hc⟩:=hv;obtain⟨s',b',c',rfl,hb',hc'⟩:=hu;refine⟨[],aa [(0,.val (.agg ⟨[.bool s,.string b,.string c]⟩)),(1,.val (.agg ⟨[.bool s',.string b',.string c']⟩)),(2,.val (.func (.func 153) ⟨[]⟩ ⟨[]⟩)),(3,.val (.func (.func 154) ⟨[]⟩ ⟨[]⟩))] [] 0 [],Wo trivial ⟨rfl,rfl,rfl,rfl,qQ⟩ trivial,?_⟩;have hbig:jr (n9 (.agg ⟨[.bool s,.string b,.string c]⟩))*jr (n9 (.agg ⟨[.bool s',.string b',.string c']⟩))=aF (.agg ⟨[.bool s,.string b,.string c]⟩)*aF (.agg ⟨[.bool s',.string b',.string c']⟩):=by rw [g1,g2]
  have h4:smallB b c=true->smallB b' c'=true->AI (bif smallB b c then aw s (bv b) else 0) (bif smallB b c then((bj (bv c):Nat):Int) else 0) (bif smallB b' c' then aw s' (bv b') else 0) (bif smallB b' c' then((bj (bv c'):Nat):Int) else 0):=λh h'=>by
   rw [h,h'];obtain⟨h1,h2⟩:=dJ h;obtain⟨h3,h4⟩:=dJ h';exact sg s s' h1 h2 h3 h4
  have hsm:smallB b c=true->smallB b' c'=true->mkRat ((bif smallB b c then aw s (bv b) else 0)*(bif smallB b' c' then aw s' (bv b') else 0)) ((bif smallB b c then((bj (bv c):Nat):Int) else 0)*(bif smallB b' c' then((bj (bv c'):Nat):Int) else 0)).toNat=aF (.agg ⟨[.bool s,.string b,.string c]⟩)*aF (.agg ⟨[.bool s',.string b',.string c']⟩):=λh h'=>by
   rw [h,h'];show mkRat (aw s (bv b)*aw s' (bv b')) (((bj (bv c):Nat):Int)*((bj (bv c'):Nat):Int)).toNat=mkRat (aw s (bv b)) (bj (bv c))*mkRat (aw s' (bv b')) (bj (bv c'));rw [Rat.mkRat_mul_mkRat,<-Int.natCast_mul,Int.toNat_natCast]
  with_unfolding_all refine⟨λh=>⟨λh'=>⟨h4 h h',[some 2],aa [(8,.ptr 0 0 0 0)] [ba (decide ((aF (.agg ⟨[.bool s,.string b,.string c]⟩)*aF (.agg ⟨[.bool s',.string b',.string c']⟩)).num < 0)) (ag (aF (.agg ⟨[.bool s,.string b,.string c]⟩)*aF (.agg ⟨[.bool s',.string b',.string c']⟩)).num.natAbs) (aK (aF (.agg ⟨[.bool s,.string b,.string c]⟩)*aF (.agg ⟨[.bool s',.string b',.string c']⟩)).den) 0] 1 [],Wo ⟨qZ ⟨⟨kw (hsm h h'),rfl⟩,⟨kx (hsm h h'),rfl⟩,⟨ky (hsm h h'),rfl⟩,qQ⟩,qQ⟩ ⟨pP,qQ⟩ trivial,rfl,rfl⟩,λh'=>⟨r1,r2,⟨f1,f2⟩,[some 2],aa [(8,.ptr 0 0 0 0)] [ba (decide ((aF (.agg ⟨[.bool s,.string b,.string c]⟩)*aF (.agg ⟨[.bool s',.string b',.string c']⟩)).num < 0)) (ag (aF (.agg ⟨[.bool s,.string b,.string c]⟩)*aF (.agg ⟨[.bool s',.string b',.string c']⟩)).num.natAbs) (aK (aF (.agg ⟨[.bool s,.string b,.string c]⟩)*aF (.agg ⟨[.bool s',.string b',.string c']⟩)).den) 0] 1 [],Wo ⟨qZ ⟨⟨kw hbig,rfl⟩,⟨kx hbig,rfl⟩,⟨ky hbig,rfl⟩,qQ⟩,qQ⟩ ⟨pP,qQ⟩ trivial,rfl,rfl⟩⟩,λh=>⟨λh'=>(nomatch h'),λ_=>⟨r1,r2,⟨f1,f2⟩,[some 2],aa [(8,.ptr 0 0 0 0)] [ba (decide ((aF (.agg ⟨[.bool s,.string b,.string c]⟩)*aF (.agg ⟨[.bool s',.string b',.string c']⟩)).num < 0)) (ag (aF (.agg ⟨[.bool s,.string b,.string c]⟩)*aF (.agg ⟨[.bool s',.string b',.string c']⟩)).num.natAbs) (aK (aF (.agg ⟨[.bool s,.string b,.string c]⟩)*aF (.agg ⟨[.bool s',.string b',.string c']⟩)).den) 0] 1 [],Wo ⟨qZ ⟨⟨kw hbig,rfl⟩,⟨kx hbig,rfl⟩,⟨ky hbig,rfl⟩,qQ⟩,qQ⟩ ⟨pP,qQ⟩ trivial,rfl,rfl⟩⟩⟩
 ·cases e
end Go.Proofs
namespace Go.Num
def an (a b:Rat):Int:=if a < b then -1 else if b < a then 1 else 0
theorem gJ (n:Int) {d:Nat} (h:d≠0):∃g:Nat,0 < g/\n=(mkRat n d).num*(g:Int)/\d=(mkRat n d).den*g:=by
 have hg:0 < Nat.gcd d n.natAbs:=Nat.gcd_pos_of_pos_left _ (by omega);refine⟨Nat.gcd d n.natAbs,hg,?_,?_⟩
 ·rw [Rat.num_mkRat,if_neg h];exact(Int.ediv_mul_cancel (Int.natAbs_dvd_natAbs.1 (Nat.gcd_dvd_right d n.natAbs))).symm
 ·rw [Rat.den_mkRat,if_neg h];exact(Nat.div_mul_cancel (Nat.gcd_dvd_left d n.natAbs)).symm
theorem pZ (n m:Int) {d e:Nat} (hd:d≠0) (he:e≠0):mkRat n d < mkRat m e↔n*(e:Int) < m*(d:Int):=by
 obtain⟨g,hg,h1,h2⟩:=gJ n hd;obtain⟨k,hk,h3,h4⟩:=gJ m he;rw [Rat.lt_iff];generalize mkRat n d=p at *
 generalize mkRat m e=q at *
 rw [h1,h2,h3,h4];have e1:p.num*(g:Int)*((q.den*k:Nat):Int)=p.num*(q.den:Int)*((g*k:Nat):Int):=by
  rw [Int.natCast_mul,Int.natCast_mul];simp only [Int.mul_assoc,Int.mul_comm,Int.mul_left_comm]
 have e2:q.num*(k:Int)*((p.den*g:Nat):Int)=q.num*(p.den:Int)*((g*k:Nat):Int):=by
  rw [Int.natCast_mul,Int.natCast_mul];simp only [Int.mul_assoc,Int.mul_comm,Int.mul_left_comm]
 rw [e1,e2];have hpos:(0:Int) < ((g*k:Nat):Int):=by
  have:=Nat.mul_pos hg hk;omega
 exact⟨λh=>Int.mul_lt_mul_of_pos_right h hpos,λh=>Int.lt_of_mul_lt_mul_right h (Int.le_of_lt hpos)⟩
theorem sj (n m:Int) {d e:Nat} (hd:d≠0) (he:e≠0):bq (n*(e:Int)) (m*(d:Int))=an (mkRat n d) (mkRat m e):=by
 unfold bq an;simp only [pZ n m hd he,pZ m n he hd]
theorem tI (s:Bool) (b c:ByteArray):aF (.agg ⟨[.bool (!s),.string b,.string c]⟩) = -aF (.agg ⟨[.bool s,.string b,.string c]⟩):=by
 show mkRat (aw (!s) (bv b)) (bj (bv c)) = -mkRat (aw s (bv b)) (bj (bv c));rw [Rat.neg_mkRat];cases s
 ·rfl
 ·show mkRat ((bv b:Nat):Int) _=mkRat (- -((bv b:Nat):Int)) _;rw [Int.neg_neg]
end Go.Num
namespace Go.Proofs
def yp:List PV->Option Ans
 |[.val v,.val u]=>some ⟨some (isRk 4294967296 v/\isRk 4294967296 u),.val (au (aF v+aF u)),[]⟩
 |_=>none
theorem C1:ak {} Tryz.f113 2=true:=by kernel_rfl
theorem f113:FnOk Tryz.prog 113 yp:=by
 refine FnOk.ofW aj (am (l:=[(148,yo)]) (own:=[]) (inl:=[]) (by simp [f148]) (by simp)) Tryz.func113 {} 2 C1 λargs r e=>?_;unfold yp at e;split at e
 ·rename_i v u
  cases e;refine⟨by simp,λhm=>?_⟩;obtain⟨⟨s,b,c,rfl,hb,hc⟩,s',b',c',rfl,hb',hc'⟩:=hm _ rfl;refine⟨[],aa [(0,.val (.agg ⟨[.bool s,.string b,.string c]⟩)),(1,.val (.agg ⟨[.bool s',.string b',.string c']⟩))] [] 0 [],Wo trivial ⟨rfl,rfl,qQ⟩ trivial,?_⟩;have hq:aF (.agg ⟨[.bool s,.string b,.string c]⟩)+aF (.agg ⟨[.bool s',.string b',.string c']⟩)=aF (.agg ⟨[.bool s,.string b,.string c]⟩)+aF (.agg ⟨[.bool s',.string b',.string c']⟩):=rfl;with_unfolding_all refine⟨⟨⟨_,_,_,rfl,hb,hc⟩,_,_,_,rfl,hb',hc'⟩,[some 2],aa [(4,.ptr 0 0 0 0)] [ba (decide ((aF (.agg ⟨[.bool s,.string b,.string c]⟩)+aF (.agg ⟨[.bool s',.string b',.string c']⟩)).num < 0)) (ag (aF (.agg ⟨[.bool s,.string b,.string c]⟩)+aF (.agg ⟨[.bool s',.string b',.string c']⟩)).num.natAbs) (aK (aF (.agg ⟨[.bool s,.string b,.string c]⟩)+aF (.agg ⟨[.bool s',.string b',.string c']⟩)).den) 0] 1 [],Wo ⟨qZ ⟨⟨kw hq,rfl⟩,⟨kx hq,rfl⟩,⟨ky hq,rfl⟩,qQ⟩,qQ⟩ ⟨pP,qQ⟩ trivial,rfl,rfl⟩
 ·cases e
def AM:List PV->Option Ans
 |[.val v,.val u]=>some ⟨some (isRk 4294967296 v/\isRk 4294967296 u),.val (au (aF v*aF u)),[]⟩
 |_=>none
theorem C2:ak {} Tryz.f114 2=true:=by kernel_rfl
theorem f114:FnOk Tryz.prog 114 AM:=by
 refine FnOk.ofW aj (am (l:=[(148,yo)]) (own:=[]) (inl:=[]) (by simp [f148]) (by simp)) Tryz.func114 {} 2 C2 λargs r e=>?_;unfold AM at e;split at e
 ·rename_i v u
  cases e;refine⟨by simp,λhm=>?_⟩;obtain⟨⟨s,b,c,rfl,hb,hc⟩,s',b',c',rfl,hb',hc'⟩:=hm _ rfl;refine⟨[],aa [(0,.val (.agg ⟨[.bool s,.string b,.string c]⟩)),(1,.val (.agg ⟨[.bool s',.string b',.string c']⟩))] [] 0 [],Wo trivial ⟨rfl,rfl,qQ⟩ trivial,?_⟩;have hq:aF (.agg ⟨[.bool s,.string b,.string c]⟩)*aF (.agg ⟨[.bool s',.string b',.string c']⟩)=aF (.agg ⟨[.bool s,.string b,.string c]⟩)*aF (.agg ⟨[.bool s',.string b',.string c']⟩):=rfl;with_unfolding_all refine⟨⟨⟨_,_,_,rfl,hb,hc⟩,_,_,_,rfl,hb',hc'⟩,[some 2],aa [(4,.ptr 0 0 0 0)] [ba (decide ((aF (.agg ⟨[.bool s,.string b,.string c]⟩)*aF (.agg ⟨[.bool s',.string b',.string c']⟩)).num < 0)) (ag (aF (.agg ⟨[.bool s,.string b,.string c]⟩)*aF (.agg ⟨[.bool s',.string b',.string c']⟩)).num.natAbs) (aK (aF (.agg ⟨[.bool s,.string b,.string c]⟩)*aF (.agg ⟨[.bool s',.string b',.string c']⟩)).den) 0] 1 [],Wo ⟨qZ ⟨⟨kw hq,rfl⟩,⟨kx hq,rfl⟩,⟨ky hq,rfl⟩,qQ⟩,qQ⟩ ⟨pP,qQ⟩ trivial,rfl,rfl⟩
 ·cases e
def mC:List PV->Option Ans
 |[.val v,.val u]=>some ⟨some (isRk 4294967296 v/\isRk 4294967296 u),.val (au (aF v - aF u)),[]⟩
 |_=>none
theorem C3:ak {} Tryz.f115 2=true:=by kernel_rfl
theorem f115:FnOk Tryz.prog 115 mC:=by
 refine FnOk.ofW aj (am (l:=[(113,yp)]) (own:=[]) (inl:=[]) (by simp [f113]) (by simp)) Tryz.func115 {} 2 C3 λargs r e=>?_;unfold mC at e;split at e
 ·rename_i v u
  cases e;refine⟨by simp,λhm=>?_⟩;obtain⟨⟨s,b,c,rfl,hb,hc⟩,s',b',c',rfl,hb',hc'⟩:=hm _ rfl;refine⟨[],aa [(0,.val (.agg ⟨[.bool s,.string b,.string c]⟩)),(1,.val (.agg ⟨[.bool s',.string b',.string c']⟩))] [] 0 [],Wo trivial ⟨rfl,rfl,qQ⟩ trivial,?_⟩;have hq:aF (.agg ⟨[.bool s,.string b,.string c]⟩)+aF (.agg ⟨[.bool (!s'),.string b',.string c']⟩)=aF (.agg ⟨[.bool s,.string b,.string c]⟩) - aF (.agg ⟨[.bool s',.string b',.string c']⟩):=by rw [tI,Rat.sub_eq_add_neg]
  with_unfolding_all refine⟨⟨⟨_,_,_,rfl,hb,hc⟩,_,_,_,rfl,hb',hc'⟩,[some 2],aa [(4,.ptr 0 0 0 0)] [ba (decide ((aF (.agg ⟨[.bool s,.string b,.string c]⟩) - aF (.agg ⟨[.bool s',.string b',.string c']⟩)).num < 0)) (ag (aF (.agg ⟨[.bool s,.string b,.string c]⟩) - aF (.agg ⟨[.bool s',.string b',.string c']⟩)).num.natAbs) (aK (aF (.agg ⟨[.bool s,.string b,.string c]⟩) - aF (.agg ⟨[.bool s',.string b',.string c']⟩)).den) 0] 1 [],Wo ⟨qZ ⟨⟨kw hq,rfl⟩,⟨kx hq,rfl⟩,⟨ky hq,rfl⟩,qQ⟩,qQ⟩ ⟨pP,qQ⟩ trivial,rfl,rfl⟩
 ·cases e
def AN:List PV->Option Ans
 |[.val v,.val u,.val (.func (.func 117) ⟨[]⟩ ⟨[]⟩),.val (.func (.func 118) ⟨[]⟩ ⟨[]⟩)]=>some ⟨some (isRk 4294967296 v/\isRk 4294967296 u),.val (goInt (an (aF v) (aF u))),[]⟩
 |_=>none
def D116:Opt:={ perm:=iS 5 [(0,true),(1,true),(3,true),(2,false),(4,false),(5,false)] }
theorem C4:ak D116.toOrd Tryz.f116 4=true:=by kernel_rfl
theorem f116:FnOk Tryz.prog 116 AN:=by
 refine FnOk.ofW aj (am (l:=[(155,yk),(137,sa),(117,AL),(118,AH)]) (own:=[]) (inl:=[]) (by simp [f155,f137,f117,f118]) (by simp)) Tryz.func116 D116 4 C4 λargs r e=>?_;unfold AN at e;split at e
 ·rename_i v u
  cases e;refine⟨by simp,λhm=>?_⟩;obtain⟨hv,hu⟩:=hm _ rfl;have f1:=ey hv (by decide);have f2:=ey hu (by decide);have r1:=hv.R (by decide);have r2:=hu.R (by decide);obtain⟨_,i1,i2,_⟩:=k9 r1;obtain⟨_,j1,j2,_⟩:=k9 r2;obtain⟨s,b,c,rfl,hb,hc⟩:=hv;obtain⟨s',b',c',rfl,hb',hc'⟩:=hu;refine⟨[],aa [(0,.val (.agg ⟨[.bool s,.string b,.string c]⟩)),(1,.val (.agg ⟨[.bool s',.string b',.string c']⟩)),(2,.val (.func (.func 117) ⟨[]⟩ ⟨[]⟩)),(3,.val (.func (.func 118) ⟨[]⟩ ⟨[]⟩))] [] 0 [],Wo trivial ⟨rfl,rfl,rfl,rfl,qQ⟩ trivial,?_⟩;have key:=sj (aw s (bv b)) (aw s' (bv b')) (Nat.ne_of_gt (bL (bv c))) (Nat.ne_of_gt (bL (bv c')));have hbig:PV.val (goInt (bq (j4 (n9 (.agg ⟨[.bool s,.string b,.string c]⟩))*fN (n9 (.agg ⟨[.bool s',.string b',.string c']⟩))) (j4 (n9 (.agg ⟨[.bool s',.string b',.string c']⟩))*fN (n9 (.agg ⟨[.bool s,.string b,.string c]⟩)))))=PV.val (goInt (an (aF (.agg ⟨[.bool s,.string b,.string c]⟩)) (aF (.agg ⟨[.bool s',.string b',.string c']⟩)))):=by
   rw [i1,i2,j1,j2];exact congrArg (λx=>PV.val (goInt x)) key
  have h4:smallB b c=true->smallB b' c'=true->AI (bif smallB b c then aw s (bv b) else 0) (bif smallB b c then((bj (bv c):Nat):Int) else 0) (bif smallB b' c' then aw s' (bv b') else 0) (bif smallB b' c' then((bj (bv c'):Nat):Int) else 0):=λh h'=>by
   rw [h,h'];obtain⟨h1,h2⟩:=dJ h;obtain⟨h3,h4⟩:=dJ h';exact sg s s' h1 h2 h3 h4
  have hsm:smallB b c=true->smallB b' c'=true->PV.val (goInt (bq ((bif smallB b c then aw s (bv b) else 0)*(bif smallB b' c' then((bj (bv c'):Nat):Int) else 0)) ((bif smallB b' c' then aw s' (bv b') else 0)*(bif smallB b c then((bj (bv c):Nat):Int) else 0))))=PV.val (goInt (an (aF (.agg ⟨[.bool s,.string b,.string c]⟩)) (aF (.agg ⟨[.bool s',.string b',.string c']⟩)))):=λh h'=>by
   rw [h,h'];exact congrArg (λx=>PV.val (goInt x)) key
  with_unfolding_all refine⟨λh=>⟨λh'=>⟨h4 h h',[],aa [(8,.val (goInt (an (aF (.agg ⟨[.bool s,.string b,.string c]⟩)) (aF (.agg ⟨[.bool s',.string b',.string c']⟩)))))] [] 0 [],Wo trivial ⟨hsm h h',qQ⟩ trivial,rfl,rfl⟩,λh'=>⟨r1,r2,⟨f1,f2⟩,[],aa [(8,.val (goInt (an (aF (.agg ⟨[.bool s,.string b,.string c]⟩)) (aF (.agg ⟨[.bool s',.string b',.string c']⟩)))))] [] 0 [],Wo trivial ⟨hbig,qQ⟩ trivial,rfl,rfl⟩⟩,λh=>⟨λh'=>(nomatch h'),λ_=>⟨r1,r2,⟨f1,f2⟩,[],aa [(8,.val (goInt (an (aF (.agg ⟨[.bool s,.string b,.string c]⟩)) (aF (.agg ⟨[.bool s',.string b',.string c']⟩)))))] [] 0 [],Wo trivial ⟨hbig,qQ⟩ trivial,rfl,rfl⟩⟩⟩
 ·cases e
def EC:List PV->Option Ans
 |[.val v,.val u]=>some ⟨some (isRk 4294967296 v/\isRk 4294967296 u),.val (goInt (an (aF v) (aF u))),[]⟩
 |_=>none
theorem E0:ak {} Tryz.f80 2=true:=by kernel_rfl
theorem f80:FnOk Tryz.prog 80 EC:=by
 refine FnOk.ofW aj (am (l:=[(116,AN)]) (own:=[]) (inl:=[]) (by simp [f116]) (by simp)) Tryz.func80 {} 2 E0 λargs r e=>?_;unfold EC at e;split at e
 ·rename_i v u
  cases e;refine⟨by simp,λhm=>?_⟩;obtain⟨⟨s,b,c,rfl,hb,hc⟩,s',b',c',rfl,hb',hc'⟩:=hm _ rfl;refine⟨[],aa [(0,.val (.agg ⟨[.bool s,.string b,.string c]⟩)),(1,.val (.agg ⟨[.bool s',.string b',.string c']⟩))] [] 0 [],Wo trivial ⟨rfl,rfl,qQ⟩ trivial,?_⟩;with_unfolding_all refine⟨⟨⟨_,_,_,rfl,hb,hc⟩,_,_,_,rfl,hb',hc'⟩,[],aa [(4,.val (goInt (an (aF (.agg ⟨[.bool s,.string b,.string c]⟩)) (aF (.agg ⟨[.bool s',.string b',.string c']⟩)))))] [] 0 [],Wo trivial ⟨rfl,qQ⟩ trivial,rfl,rfl⟩
 ·cases e
end Go.Proofs
namespace Go.Num
theorem wt (n:Int) {d:Nat} (hd:d≠0):bq n 0=an (mkRat n d) 0:=by
 have:=sj n 0 hd (show(1:Nat)≠0 by decide);rw [Int.zero_mul,Int.natCast_one,Int.mul_one,Rat.zero_mkRat] at this;exact this
end Go.Num
namespace Go.Proofs
def gM (s:Bool) (b c:ByteArray) (q:Rat):Bool:=s==decide (q.num < 0)&&(b==ag q.num.natAbs&&(c==aK q.den&&true))
def bc (v:Value):Bool:=match v with
 |.agg ⟨[.bool s,.string b,.string c]⟩=>gM s b c (aF v)
 |_=>false
def wv:List PV->Option Ans
 |[.val v]=>some ⟨some (isRk 4294967296 v),.val (goInt (an (aF v) 0)),[]⟩
 |_=>none
theorem C5:ak {} Tryz.f139 1=true:=by kernel_rfl
theorem f139:FnOk Tryz.prog 139 wv:=by
 refine FnOk.ofW aj (am (l:=[(137,sa),(108,uL)]) (own:=[]) (inl:=[]) (by simp [f137,f108]) (by simp)) Tryz.func139 {} 1 C5 λargs r e=>?_;unfold wv at e;split at e
 ·rename_i v
  cases e;refine⟨by simp,λhm=>?_⟩;obtain hv:=hm _ rfl;have r1:=hv.R (by decide);obtain⟨s,b,c,rfl,hb,hc⟩:=hv;refine⟨[],aa [(0,.val (.agg ⟨[.bool s,.string b,.string c]⟩))] [] 0 [],Wo trivial ⟨rfl,qQ⟩ trivial,?_⟩;have key:=wt (aw s (bv b)) (Nat.ne_of_gt (bL (bv c)));with_unfolding_all refine⟨r1,⟨⟨_,_,rfl,by omega⟩,_,_,rfl,by decide⟩,[],aa [(2,.val (goInt (an (aF (.agg ⟨[.bool s,.string b,.string c]⟩)) 0)))] [] 0 [],Wo trivial ⟨congrArg (λx=>PV.val (goInt x)) key,qQ⟩ trivial,rfl,rfl⟩
 ·cases e
def AO:List PV->Option Ans
 |[.val v]=>some ⟨some (isRk 4294967296 v),.val (.int .i64 (bif bc v then 0 else 1)),[]⟩
 |_=>none
def D100:Opt:={ perm:=iS 1 [(0,true),(1,true),(2,false),(3,false)] }
theorem C6:ak D100.toOrd Tryz.f100 1=true:=by kernel_rfl
theorem f100:FnOk Tryz.prog 100 AO:=by
 refine FnOk.ofW aj (am (l:=[(137,sa),(110,se)]) (own:=[]) (inl:=[]) (by simp [f137,f110]) (by simp)) Tryz.func100 D100 1 C6 λargs r e=>?_;unfold AO at e;split at e
 ·rename_i v
  cases e;refine⟨by simp,λhm=>?_⟩;obtain hv:=hm _ rfl;have r1:=hv.R (by decide);obtain⟨s,b,c,rfl,hb,hc⟩:=hv;refine⟨[],aa [(0,.val (.agg ⟨[.bool s,.string b,.string c]⟩))] [] 0 [],Wo trivial ⟨rfl,qQ⟩ trivial,?_⟩;have E:gM s b c (jr (n9 (.agg ⟨[.bool s,.string b,.string c]⟩)))=bc (.agg ⟨[.bool s,.string b,.string c]⟩):=by rw [ju r1];rfl
  have t1:(!gM s b c (jr (n9 (.agg ⟨[.bool s,.string b,.string c]⟩))))=true->PV.val (.int .i64 1)=PV.val (.int .i64 (bif bc (.agg ⟨[.bool s,.string b,.string c]⟩) then 0 else 1)):=λh=>by
   rw [E] at h;cases hc:bc (.agg ⟨[.bool s,.string b,.string c]⟩) with
   |true=>rw [hc] at h;cases h
   |false=>rfl
  have t2:(!gM s b c (jr (n9 (.agg ⟨[.bool s,.string b,.string c]⟩))))=false->PV.val (.int .i64 0)=PV.val (.int .i64 (bif bc (.agg ⟨[.bool s,.string b,.string c]⟩) then 0 else 1)):=λh=>by
   rw [E] at h;cases hc:bc (.agg ⟨[.bool s,.string b,.string c]⟩) with
   |true=>rfl
   |false=>rw [hc] at h;cases h
  obtain⟨iF,_,_,ip⟩:=k9 r1;with_unfolding_all refine⟨r1,⟨iF,ip⟩,λh=>⟨[],aa [(2,.val (.int .i64 (bif bc (.agg ⟨[.bool s,.string b,.string c]⟩) then 0 else 1)))] [] 0 [],Wo trivial ⟨t1 h,qQ⟩ trivial,rfl,rfl⟩,λh=>⟨[],aa [(2,.val (.int .i64 (bif bc (.agg ⟨[.bool s,.string b,.string c]⟩) then 0 else 1)))] [] 0 [],Wo trivial ⟨t2 h,qQ⟩ trivial,rfl,rfl⟩⟩
 ·cases e
def ED:List PV->Option Ans
 |[.val v,.val u]=>some ⟨some (ef v/\ef u),.val (.tuple ⟨[au (Rat.divInt (aG v) (aG u)),.int .i64 (bif decide (aG u=0) then 10 else 0)]⟩),[]⟩
 |_=>none
def D72:Opt:={ perm:=iS 5 [(0,true),(2,true),(1,false),(3,false)] }
theorem E1:ak D72.toOrd Tryz.f72 2=true:=by kernel_rfl
theorem f72:FnOk Tryz.prog 72 ED:=by
 refine FnOk.ofW aj (am (l:=[(108,uL),(109,Ax),(110,se)]) (own:=[]) (inl:=[]) (by simp [f108,f109,f110]) (by simp)) Tryz.func72 D72 2 E1 λargs r e=>?_;unfold ED at e;split at e
 ·rename_i v u
  cases e;refine⟨by simp,λhm=>?_⟩;obtain⟨⟨s,b,rfl,hb⟩,q,c,rfl,hc⟩:=hm _ rfl;refine⟨[],aa [(0,.val (.agg ⟨[.bool s,.string b]⟩)),(1,.val (.agg ⟨[.bool q,.string c]⟩))] [] 0 [],Wo trivial ⟨rfl,rfl,qQ⟩ trivial,?_⟩;have z1:(bq (aw q (bv c)) 0==0)=true->aw q (bv c)=0:=λh=>by
   have h:bq (aw q (bv c)) 0=0:=by simpa using h
   unfold bq at h;split at h
   ·omega
   ·split at h<;>omega
  have z2:(bq (aw q (bv c)) 0==0)=false->aw q (bv c)≠0:=λh e=>by
   rw [e] at h;exact absurd h (by decide)
  have z3:(bq (aw q (bv c)) 0 == -1)=true->aw q (bv c) < 0:=λh=>by
   have h:bq (aw q (bv c)) 0 = -1:=by simpa using h
   unfold bq at h;split at h
   ·assumption
   ·split at h<;>omega
  have z4:(bq (aw q (bv c)) 0 == -1)=false->¬aw q (bv c) < 0:=λh e=>by
   have:bq (aw q (bv c)) 0 = -1:=by rw [bq,if_pos e]
   rw [this] at h;exact absurd h (by decide)
  have v0:aw q (bv c)=0->Value.tuple ⟨[.agg ⟨[.bool false,.string ⟨#[]⟩,.string ⟨#[]⟩]⟩,.int .i64 10]⟩=Value.tuple ⟨[au (Rat.divInt (aw s (bv b)) (aw q (bv c))),.int .i64 (bif decide (aw q (bv c)=0) then 10 else 0)]⟩:=λh=>by
   rw [h,Rat.divInt_zero,ib];rfl
  have v1:aw q (bv c)≠0->Value.tuple ⟨[au (Rat.divInt (aw s (bv b)) (aw q (bv c))),.int .i64 0]⟩=Value.tuple ⟨[au (Rat.divInt (aw s (bv b)) (aw q (bv c))),.int .i64 (bif decide (aw q (bv c)=0) then 10 else 0)]⟩:=λh=>by
   rw [decide_eq_false h];rfl
  have q1:aw q (bv c) < 0->mkRat (j4 (fy (-(aw s (bv b))) (-(aw q (bv c))))) (fN (fy (-(aw s (bv b))) (-(aw q (bv c))))).toNat=Rat.divInt (aw s (bv b)) (aw q (bv c)):=λh=>by
   rw [js,<-Rat.divInt_ofNat,Int.toNat_of_nonneg (by omega),Rat.neg_divInt_neg]
  have p1:aw q (bv c) < 0->0 < fN (fy (-(aw s (bv b))) (-(aw q (bv c)))):=λh=>by
   show 0 < aG (av (-(aw q (bv c))));rw [aq];omega
  have q2:¬aw q (bv c) < 0->mkRat (aw s (bv b)) (aw q (bv c)).toNat=Rat.divInt (aw s (bv b)) (aw q (bv c)):=λh=>by
   rw [<-Rat.divInt_ofNat,Int.toNat_of_nonneg (by omega)]
  have S1:(ag (-(aw s (bv b))).natAbs).size<=34359738368:=Nat.le_trans (aX (k:=b.size) (by rw [Int.natAbs_neg,aD];exact bt b)) hb;have S2:(ag (-(aw q (bv c))).natAbs).size<=34359738368:=Nat.le_trans (aX (k:=c.size) (by rw [Int.natAbs_neg,aD];exact bt c)) hc;with_unfolding_all refine⟨⟨⟨_,_,rfl,hc⟩,_,_,rfl,by decide⟩,λh=>⟨[some 2],aa [(4,.ptr 0 0 0 0),(5,.val (.int .i64 10))] [ba false ⟨#[]⟩ ⟨#[]⟩ 0] 1 [],Wo ⟨qX,qQ⟩ ⟨pP,rfl,qQ⟩ trivial,congrArg PV.val (v0 (z1 h)),rfl⟩,λh=>⟨λh'=>⟨⟨_,_,rfl,hb⟩,⟨_,_,rfl,hc⟩,⟨⟨_,_,_,_,rfl,S1,S2⟩,p1 (z3 h')⟩,[some 2],aa [(4,.ptr 0 0 0 0),(5,.val (.int .i64 0))] [ba (decide ((Rat.divInt (aw s (bv b)) (aw q (bv c))).num < 0)) (ag (Rat.divInt (aw s (bv b)) (aw q (bv c))).num.natAbs) (aK (Rat.divInt (aw s (bv b)) (aw q (bv c))).den) 0] 1 [],Wo ⟨qZ ⟨⟨kw (q1 (z3 h')),rfl⟩,⟨kx (q1 (z3 h')),rfl⟩,⟨ky (q1 (z3 h')),rfl⟩,qQ⟩,qQ⟩ ⟨pP,rfl,qQ⟩ trivial,congrArg PV.val (v1 (z2 h)),rfl⟩,λh'=>⟨⟨⟨_,_,_,_,rfl,hb,hc⟩,(by have:=z2 h;have:=z4 h';show 0 < aw q (bv c);omega)⟩,[some 2],aa [(4,.ptr 0 0 0 0),(5,.val (.int .i64 0))] [ba (decide ((Rat.divInt (aw s (bv b)) (aw q (bv c))).num < 0)) (ag (Rat.divInt (aw s (bv b)) (aw q (bv c))).num.natAbs) (aK (Rat.divInt (aw s (bv b)) (aw q (bv c))).den) 0] 1 [],Wo ⟨qZ ⟨⟨kw (q2 (z4 h')),rfl⟩,⟨kx (q2 (z4 h')),rfl⟩,⟨ky (q2 (z4 h')),rfl⟩,qQ⟩,qQ⟩ ⟨pP,rfl,qQ⟩ trivial,congrArg PV.val (v1 (z2 h)),rfl⟩⟩⟩
 ·cases e
def EE:List PV->Option Ans
 |[.val (.int .i64 z)]=>some ⟨some (-9223372036854775808<=z/\z < 9223372036854775808),.val (au (mkRat z 1)),[]⟩
 |_=>none
theorem E2:ak {} Tryz.f88 1=true:=by kernel_rfl
theorem f88:FnOk Tryz.prog 88 EE:=by
 refine FnOk.ofW aj (am (l:=[(73,zC),(110,se)]) (own:=[]) (inl:=[]) (by simp [f73,f110]) (by simp)) Tryz.func88 {} 1 E2 λargs r e=>?_;unfold EE at e;split at e
 ·rename_i z
  cases e;refine⟨by simp,λhm=>?_⟩;obtain⟨h1,h2⟩:=hm _ rfl;refine⟨[],aa [(0,.val (.int .i64 z))] [] 0 [],Wo trivial ⟨rfl,qQ⟩ trivial,?_⟩;have S1:(ag z.natAbs).size<=34359738368:=Nat.le_trans (aX (k:=8) (by show z.natAbs < 18446744073709551616;omega)) (by decide);have S2:(ag (1:Int).natAbs).size<=34359738368:=Nat.le_trans (aX (k:=1) (by decide)) (by decide);have hp:0 < fN (fy z 1):=by
   show 0 < aG (av 1);rw [aq];decide
  have hQ:mkRat (j4 (fy z 1)) (fN (fy z 1)).toNat=mkRat z 1:=js z 1;with_unfolding_all refine⟨⟨h1,h2⟩,⟨by decide,by decide⟩,⟨⟨_,_,_,_,rfl,S1,S2⟩,hp⟩,[some 0],aa [(2,.ptr 0 0 0 0)] [ba (decide ((mkRat z 1).num < 0)) (ag (mkRat z 1).num.natAbs) (aK (mkRat z 1).den) 0] 1 [],Wo ⟨qZ ⟨⟨kw (hQ),rfl⟩,⟨kx (hQ),rfl⟩,⟨ky (hQ),rfl⟩,qQ⟩,qQ⟩ ⟨pP,qQ⟩ trivial,rfl,rfl⟩
 ·cases e
def E3:List PV->Option Ans
 |[.val (.int .i64 n),.val (.int .i64 d)]=>some ⟨some ((-9223372036854775808<=n/\n < 9223372036854775808) /\ -9223372036854775808<=d/\d < 9223372036854775808),.val (.tuple ⟨[au (Rat.divInt n d),.int .i64 (bif decide (d=0) then 10 else 0)]⟩),[]⟩
 |_=>none
theorem E4:ak {} Tryz.f27 2=true:=by kernel_rfl
theorem f27:FnOk Tryz.prog 27 E3:=by
 refine FnOk.ofW aj (am (l:=[(73,zC),(72,ED)]) (own:=[]) (inl:=[]) (by simp [f73,f72]) (by simp)) Tryz.func27 {} 2 E4 λargs r e=>?_;unfold E3 at e;split at e
 ·rename_i n d
  cases e;refine⟨by simp,λhm=>?_⟩;obtain⟨⟨h1,h2⟩,h3,h4⟩:=hm _ rfl;refine⟨[],aa [(0,.val (.int .i64 n)),(1,.val (.int .i64 d))] [] 0 [],Wo trivial ⟨rfl,rfl,qQ⟩ trivial,?_⟩;have I1:ef (av n):=cF (k:=8) (by show n.natAbs < 18446744073709551616;omega) (by decide);have I2:ef (av d):=cF (k:=8) (by show d.natAbs < 18446744073709551616;omega) (by decide);have hQ:Rat.divInt (aG (av n)) (aG (av d))=Rat.divInt n d:=by rw [aq,aq]
  have hE:PV.val (.int .i64 (bif decide (aG (av d)=0) then 10 else 0))=PV.val (.int .i64 (bif decide (d=0) then 10 else 0)):=by rw [aq]
  with_unfolding_all refine⟨⟨h1,h2⟩,⟨h3,h4⟩,⟨I1,I2⟩,[some 0],aa [(4,.ptr 0 0 0 0),(5,.val (.int .i64 (bif decide (d=0) then 10 else 0)))] [ba (decide ((Rat.divInt n d).num < 0)) (ag (Rat.divInt n d).num.natAbs) (aK (Rat.divInt n d).den) 0] 1 [],Wo ⟨qZ ⟨⟨kw (hQ),rfl⟩,⟨kx (hQ),rfl⟩,⟨ky (hQ),rfl⟩,qQ⟩,qQ⟩ ⟨pP,hE,qQ⟩ trivial,rfl,rfl⟩
 ·cases e
end Go.Proofs
namespace Go.Num
theorem yq (n m:Int) {d e:Nat} (_:d≠0) (_:e≠0):Rat.divInt (n*(e:Int)) ((d:Int)*m)=mkRat n d / mkRat m e:=by
 rw [Rat.div_def,<-Rat.divInt_ofNat,<-Rat.divInt_ofNat,Rat.inv_divInt,Rat.divInt_mul_divInt]
theorem wy (m:Int) {d e:Nat} (hd:d≠0) (he:e≠0):decide ((d:Int)*m=0)=decide (mkRat m e=0):=by
 rw [decide_eq_decide,Rat.mkRat_eq_zero he,Int.mul_eq_zero];omega
end Go.Num
namespace Go.Proofs
theorem wz {c:ByteArray} {k:Nat} (h:c.size<=k) (hk:1<=k):(ex c).size<=k:=by
 unfold ex;split
 ·exact Nat.le_trans (aX (k:=1) (by decide)) hk
 ·exact h
def yr:List PV->Option Ans
 |[.val v,.val u]=>some ⟨some (isRk 4294967296 v/\isRk 4294967296 u),.val (.tuple ⟨[au (aF v / aF u),.int .i64 (bif decide (aF u=0) then 10 else 0)]⟩),[]⟩
 |_=>none
def D173:Opt:={ perm:=kI [(1,.rds [0,2] (.alt 1 (.alt 3 (.alt 4 (.mk 5 .nil) (.mk 5 (.mk 4 .nil))) (.alt 4 (.alt 3 (.mk 5 .nil) (.mk 5 (.mk 3 .nil))) (.mk 5 (.alt 3 (.mk 4 .nil) (.mk 4 (.mk 3 .nil)))))) (.alt 4 (.alt 1 (.alt 3 (.mk 5 .nil) (.mk 5 (.mk 3 .nil))) (.mk 5 (.mk 1 (.mk 3 .nil)))) (.mk 5 (.alt 1 (.alt 3 (.mk 4 .nil) (.mk 4 (.mk 3 .nil))) (.mk 4 (.mk 1 (.mk 3 .nil)))))))),(2,.ofL [(0,true),(1,true),(2,true),(3,true),(5,true),(6,true),(7,true),(8,true),(4,false),(9,false),(10,false),(11,true),(12,true)])],join:=λc=>match c with | .region 1 _ _=>true|_=>false }
theorem C7:ak D173.toOrd Tryz.f173 2=true:=by kernel_rfl
theorem f173:FnOk Tryz.prog 173 yr:=by
 refine FnOk.ofW aj (am (l:=[(137,sa),(119,uK),(72,ED)]) (own:=[]) (inl:=[]) (by simp [f137,f119,f72]) (by simp)) Tryz.func173 D173 2 C7 λargs r e=>?_;unfold yr at e;split at e
 ·rename_i v u
  cases e;refine⟨by simp,λhm=>?_⟩;obtain⟨hv,hu⟩:=hm _ rfl;have f1:=ey hv (by decide);have f2:=ey hu (by decide);have r1:=hv.R (by decide);have r2:=hu.R (by decide);obtain⟨s,b,c,rfl,hb,hc⟩:=hv;obtain⟨s',b',c',rfl,hb',hc'⟩:=hu;refine⟨[],aa [(0,.val (.agg ⟨[.bool s,.string b,.string c]⟩)),(1,.val (.agg ⟨[.bool s',.string b',.string c']⟩))] [] 0 [],Wo trivial ⟨rfl,rfl,qQ⟩ trivial,?_⟩;with_unfolding_all refine⟨Unit,λ_=>True,λ_=>aa [(4,.ptr 0 0 0 0),(6,.ptr 1 1 0 0),(7,.ptr 2 2 0 0)] [ba false ⟨#[]⟩ ⟨#[]⟩ 0,ob s b false (ex c) 1,ob s' b' false (ex c') 2] 3 [],⟨⟨r1,⟨⟨r2,⟨⟨(),[some 2,some 3,some 4],trivial,Wo ⟨qX,qZ ⟨rq,rq,rq,rq,qQ⟩,qZ ⟨rq,rq,rq,rq,qQ⟩,qQ⟩ ⟨pP,pP,pP,qQ⟩ trivial⟩,⟨(),[some 2,some 4,some 3],trivial,Wo ⟨qX,qZ ⟨rq,rq,rq,rq,qQ⟩,qZ ⟨rq,rq,rq,rq,qQ⟩,qQ⟩ ⟨pP,pP,pP,qQ⟩ trivial⟩⟩⟩,⟨⟨⟨r2,⟨(),[some 2,some 3,some 4],trivial,Wo ⟨qX,qZ ⟨rq,rq,rq,rq,qQ⟩,qZ ⟨rq,rq,rq,rq,qQ⟩,qQ⟩ ⟨pP,pP,pP,qQ⟩ trivial⟩⟩,⟨r2,⟨(),[some 2,some 3,some 4],trivial,Wo ⟨qX,qZ ⟨rq,rq,rq,rq,qQ⟩,qZ ⟨rq,rq,rq,rq,qQ⟩,qQ⟩ ⟨pP,pP,pP,qQ⟩ trivial⟩⟩⟩,⟨⟨r2,⟨(),[some 2,some 4,some 3],trivial,Wo ⟨qX,qZ ⟨rq,rq,rq,rq,qQ⟩,qZ ⟨rq,rq,rq,rq,qQ⟩,qQ⟩ ⟨pP,pP,pP,qQ⟩ trivial⟩⟩,⟨r2,⟨(),[some 2,some 4,some 3],trivial,Wo ⟨qX,qZ ⟨rq,rq,rq,rq,qQ⟩,qZ ⟨rq,rq,rq,rq,qQ⟩,qQ⟩ ⟨pP,pP,pP,qQ⟩ trivial⟩⟩⟩⟩⟩⟩,⟨⟨⟨r1,⟨⟨r2,⟨(),[some 2,some 3,some 4],trivial,Wo ⟨qX,qZ ⟨rq,rq,rq,rq,qQ⟩,qZ ⟨rq,rq,rq,rq,qQ⟩,qQ⟩ ⟨pP,pP,pP,qQ⟩ trivial⟩⟩,⟨r2,⟨(),[some 2,some 3,some 4],trivial,Wo ⟨qX,qZ ⟨rq,rq,rq,rq,qQ⟩,qZ ⟨rq,rq,rq,rq,qQ⟩,qQ⟩ ⟨pP,pP,pP,qQ⟩ trivial⟩⟩⟩⟩,⟨r1,⟨r2,⟨(),[some 2,some 3,some 4],trivial,Wo ⟨qX,qZ ⟨rq,rq,rq,rq,qQ⟩,qZ ⟨rq,rq,rq,rq,qQ⟩,qQ⟩ ⟨pP,pP,pP,qQ⟩ trivial⟩⟩⟩⟩,⟨⟨r1,⟨⟨r2,⟨(),[some 2,some 4,some 3],trivial,Wo ⟨qX,qZ ⟨rq,rq,rq,rq,qQ⟩,qZ ⟨rq,rq,rq,rq,qQ⟩,qQ⟩ ⟨pP,pP,pP,qQ⟩ trivial⟩⟩,⟨r2,⟨(),[some 2,some 4,some 3],trivial,Wo ⟨qX,qZ ⟨rq,rq,rq,rq,qQ⟩,qZ ⟨rq,rq,rq,rq,qQ⟩,qQ⟩ ⟨pP,pP,pP,qQ⟩ trivial⟩⟩⟩⟩,⟨r1,⟨r2,⟨(),[some 2,some 4,some 3],trivial,Wo ⟨qX,qZ ⟨rq,rq,rq,rq,qQ⟩,qZ ⟨rq,rq,rq,rq,qQ⟩,qQ⟩ ⟨pP,pP,pP,qQ⟩ trivial⟩⟩⟩⟩⟩⟩,λ_ _=>?_⟩
  have d1:=wz hc (by decide);have d2:=wz hc' (by decide);have J1:ef (av (aw s (bv b)*aw false (bv (ex c')))):=cF (od s false b (ex c')) (by omega);have J2:ef (av (aw false (bv (ex c))*aw s' (bv b'))):=cF (od false s' (ex c) b') (by omega);have hQ:Rat.divInt (aG (av (aw s (bv b)*aw false (bv (ex c'))))) (aG (av (aw false (bv (ex c))*aw s' (bv b'))))=aF (.agg ⟨[.bool s,.string b,.string c]⟩) / aF (.agg ⟨[.bool s',.string b',.string c']⟩):=by
   rw [aq,aq,jp,jp];exact yq (aw s (bv b)) (aw s' (bv b')) (Nat.ne_of_gt (bL (bv c))) (Nat.ne_of_gt (bL (bv c')))
  have hE:PV.val (.int .i64 (bif decide (aG (av (aw false (bv (ex c))*aw s' (bv b')))=0) then 10 else 0))=PV.val (.int .i64 (bif decide (aF (.agg ⟨[.bool s',.string b',.string c']⟩)=0) then 10 else 0)):=by
   rw [aq,jp,show decide (aw false (bj (bv c))*aw s' (bv b')=0)=_ from wy (aw s' (bv b')) (Nat.ne_of_gt (bL (bv c))) (Nat.ne_of_gt (bL (bv c')))];rfl
  with_unfolding_all refine⟨⟨⟨_,_,rfl,by omega⟩,_,_,rfl,by omega⟩,⟨⟨_,_,rfl,by omega⟩,_,_,rfl,by omega⟩,⟨J1,J2⟩,[some 0],aa [(4,.ptr 0 0 0 0),(5,.val (.int .i64 (bif decide (aF (.agg ⟨[.bool s',.string b',.string c']⟩)=0) then 10 else 0)))] [ba (decide ((aF (.agg ⟨[.bool s,.string b,.string c]⟩) / aF (.agg ⟨[.bool s',.string b',.string c']⟩)).num < 0)) (ag (aF (.agg ⟨[.bool s,.string b,.string c]⟩) / aF (.agg ⟨[.bool s',.string b',.string c']⟩)).num.natAbs) (aK (aF (.agg ⟨[.bool s,.string b,.string c]⟩) / aF (.agg ⟨[.bool s',.string b',.string c']⟩)).den) 0] 1 [],Wo ⟨qZ ⟨⟨kw hQ,rfl⟩,⟨kx hQ,rfl⟩,⟨ky hQ,rfl⟩,qQ⟩,qQ⟩ ⟨pP,hE,qQ⟩ trivial,rfl,rfl⟩
 ·cases e
def p5:List PV->Option Ans
 |[.val (.string b)]=>some ⟨none,.val (.string (ag (bv b))),[]⟩
 |_=>none
theorem C8:ak {} Tryz.f248 1=true:=by kernel_rfl
theorem f248:FnOk Tryz.prog 248 p5:=by
 refine FnOk.of aj (am (l:=[]) (own:=[]) (inl:=[]) (by simp) (by simp)) Tryz.func248 {} 1 C8 λargs r e=>?_;unfold p5 at e;split at e
 ·rename_i b
  cases e;refine⟨by simp,λ_=>?_⟩;with_unfolding_all refine⟨ByteArray,λx=>bv x=bv b,λx=>aa [(0,.val (.string x))] [] 0 [],λx=>x.size,⟨b,[],rfl,Wo trivial ⟨rfl,qQ⟩ trivial⟩,λx (hx:bv x=bv b)=>?_⟩
  have hl:=a7 x;with_unfolding_all refine⟨λh1=>⟨?_,?_⟩,λh1=>?_⟩
  ·have h1:0 < x.size:=by have:=of_decide_eq_true h1;omega
   omega
  ·have h1:0 < x.size:=by have:=of_decide_eq_true h1;omega
   cases hd:x.data.toList with
   |nil=>rw [hd,List.length_nil] at hl;omega
   |cons y r =>
    rw [hd,List.length_cons] at hl;with_unfolding_all refine⟨λh2=>⟨?_,?_⟩,λh2=>?_⟩
    ·omega
    ·with_unfolding_all refine⟨_,[],?_,?_,Wo trivial ⟨rfl,qQ⟩ trivial⟩
     ·have hy:y=0:=by rw [hd] at h2;simp at h2;exact UInt8.toNat_inj.1 (by simpa using h2)
      show bv _=bv b;rw [<-hx,bv,d6,bv,hd,hl,hy];simp [cE]
     ·show ByteArray.size _ < x.size;rw [a7,d6,hd];simp;omega
    ·with_unfolding_all refine⟨?_,rfl⟩
     rw [<-hx,ks];rw [hd] at h2 ⊢;simp only [eE,bne_iff_ne,ne_eq];rintro rfl;simp at h2
  ·have h1:x.size=0:=by
    have h:decide ((x.size:Int) > 0)=false:=by
     cases hd:decide ((x.size:Int) > 0) with
     |false=>rfl
     |true=>exact absurd (h1.symm.trans hd) (by decide)
    have:=of_decide_eq_false h;omega
   have h2:x.data.toList=[]:=List.eq_nil_of_length_eq_zero (by omega);with_unfolding_all refine⟨nofun,λ_=>⟨?_,rfl⟩⟩
   rw [<-hx,ks];rw [h2];rfl
 ·cases e
def sn:List PV->Option Ans
 |[.val v]=>some ⟨some (ef v),.val (av (aG v)),[]⟩
 |_=>none
theorem C9:ak {} Tryz.f230 1=true:=by kernel_rfl
theorem f230:FnOk Tryz.prog 230 sn:=by
 refine FnOk.ofW aj (am (l:=[(248,p5)]) (own:=[]) (inl:=[]) (by simp [f248]) (by simp)) Tryz.func230 {} 1 C9 λargs r e=>?_;unfold sn at e;split at e
 ·rename_i v
  cases e;refine⟨by simp,λhm=>?_⟩;obtain⟨s,b,rfl,hb⟩:=hm _ rfl;refine⟨[],aa [(0,.val (.agg ⟨[.bool s,.string b]⟩))] [] 0 [],Wo trivial ⟨rfl,qQ⟩ trivial,?_⟩;have sd:PV.val (.string (ag (bv b)))=PV.val (.string (ag (aw s (bv b)).natAbs)):=by rw [aD]
  have cB:s=true->PV.val (.bool (!((ag (bv b)).toList==(⟨#[]⟩:ByteArray).toList)))=PV.val (.bool (decide (aw s (bv b) < 0))):=λh=>by
   rw [numB_nil,gc,h,Bool.true_and]
  have cC:s = !true->PV.val (.bool false)=PV.val (.bool (decide (aw s (bv b) < 0))):=λh=>by
   rw [gc,h];rfl
  have lb:decide ((b.size:Int) > 0)=true->(((b.data.toList[Int.toNat 0]?.getD 0).toNat:Int) != 0)=true->bv b≠0/\ag (bv b)=b:=λh h'=>by
   have h:0 < b.size:=by have:=of_decide_eq_true h;omega
   have hl:=a7 b;cases hd:b.data.toList with
   |nil=>rw [hd,List.length_nil] at hl;omega
   |cons y r =>
    have hy:y≠0:=by
     rintro rfl;rw [hd] at h';exact absurd h' Bool.false_ne_true
    have hld:eE b.data.toList=true:=by
     rw [hd];simpa [eE] using hy
    refine⟨?_,ks hld⟩;rw [hd] at hld;have:=kY hld;have e:bv b=cO (y::r):=by rw [bv,hd]
    have:0 < 256^r.length:=Nat.pow_pos (by decide);omega
  have aB:bv b≠0->PV.val (.bool s)=PV.val (.bool (decide (aw s (bv b) < 0))):=λh=>by
   rw [gc,decide_eq_true h,Bool.and_true]
  have aS:ag (bv b)=b->PV.val (.string b)=PV.val (.string (ag (aw s (bv b)).natAbs)):=λh=>by
   rw [aD,h]
  with_unfolding_all refine⟨λh=>⟨⟨by omega,by have:=of_decide_eq_true h;omega⟩,λh'=>⟨[some 1],aa [(2,.ptr 0 0 0 0)] [aU (aw s (bv b)) 0] 1 [],Wo ⟨qZ ⟨⟨aB (lb h h').1,rfl⟩,⟨aS (lb h h').2,rfl⟩,qQ⟩,qQ⟩ ⟨pP,qQ⟩ trivial,rfl,rfl⟩,λ_=>⟨λh=>⟨[some 1],aa [(2,.ptr 0 0 0 0)] [aU (aw s (bv b)) 0] 1 [],Wo ⟨qZ ⟨⟨cB h,rfl⟩,⟨sd,rfl⟩,qQ⟩,qQ⟩ ⟨pP,qQ⟩ trivial,rfl,rfl⟩,λh=>⟨[some 1],aa [(2,.ptr 0 0 0 0)] [aU (aw s (bv b)) 0] 1 [],Wo ⟨qZ ⟨⟨cC h,rfl⟩,⟨sd,rfl⟩,qQ⟩,qQ⟩ ⟨pP,qQ⟩ trivial,rfl,rfl⟩⟩⟩,λ_=>⟨λh=>(nomatch h),λ_=>⟨λh=>⟨[some 1],aa [(2,.ptr 0 0 0 0)] [aU (aw s (bv b)) 0] 1 [],Wo ⟨qZ ⟨⟨cB h,rfl⟩,⟨sd,rfl⟩,qQ⟩,qQ⟩ ⟨pP,qQ⟩ trivial,rfl,rfl⟩,λh=>⟨[some 1],aa [(2,.ptr 0 0 0 0)] [aU (aw s (bv b)) 0] 1 [],Wo ⟨qZ ⟨⟨cC h,rfl⟩,⟨sd,rfl⟩,qQ⟩,qQ⟩ ⟨pP,qQ⟩ trivial,rfl,rfl⟩⟩⟩⟩
 ·cases e
def wB:List PV->Option Ans
 |[.val (.string b)]=>some ⟨some (b.size<=7),.val (.int .i64 (bv b:Nat)),[]⟩
 |_=>none
theorem Da:ak {} Tryz.f250 1=true:=by kernel_rfl
theorem f250:FnOk Tryz.prog 250 wB:=by
 refine FnOk.ofW aj (am (l:=[]) (own:=[]) (inl:=[]) (by simp) (by simp)) Tryz.func250 {} 1 Da λargs r e=>?_;unfold wB at e;split at e
 ·rename_i b
  cases e;refine⟨by simp,λhm=>?_⟩;have h:b.size<=7:=hm _ rfl;refine⟨[],aa [(0,.val (.string b))] [] 0 [],Wo trivial ⟨rfl,qQ⟩ trivial,?_⟩;with_unfolding_all refine⟨Nat,λi=>i<=b.size,λi=>aa [(0,.val (.string b)),(3,.val (.int .i64 (cO (b.data.toList.take i):Nat))),(4,.val (goInt i))] [] 0 [],λi=>b.size - i,⟨0,[],Nat.zero_le _,Wo trivial ⟨rfl,rfl,rfl,qQ⟩ trivial⟩,λi hi=>?_⟩
  replace hi:i<=b.size:=hi;have hlt:=bJ b i h;with_unfolding_all refine⟨λh1=>?_,λh1=>?_⟩
  ·have h1:i < b.size:=by have:=bx h1;omega
   have hx:(b.data.toList[i]?.getD 0).toNat < 256:=UInt8.toNat_lt _;with_unfolding_all refine⟨by decide,⟨by omega,by omega⟩,i+1,[],h1,by show b.size - (i+1) < b.size - i;omega,Wo trivial ⟨rfl,?_,?_,qQ⟩ trivial⟩
   ·refine congrArg (λx=>PV.val (.int .i64 x)) (?_:IntKind.i64.wrap ((BitVec.ofInt IntKind.i64.bits (IntKind.i64.wrap (((cO (b.data.toList.take i):Nat):Int)*2^min (Int.toNat 8) IntKind.i64.bits)) ||| BitVec.ofInt IntKind.i64.bits (IntKind.i64.wrap (((b.data.toList[i]?.getD 0).toNat:Nat):Int))).toNat:Int)=((cO (b.data.toList.take (i+1)):Nat):Int));rw [nY hx (by have:=bJ b (i+1) h;rw [fh b h1] at this;omega),fh b h1]
   ·refine congrArg (λx=>PV.val (.int .i64 x)) (?_:IntKind.i64.wrap ((i:Int)+1)=((i+1:Nat):Int));rw [wrap64 (by omega) (by omega)];rfl
  ·have h1:i=b.size:=by have:=dU h1;omega
   have he:b.data.toList.take i=b.data.toList:=by rw [h1,List.take_of_length_le (by rw [<-a7];omega)]
   rw [he] at hlt ⊢;with_unfolding_all exact⟨[],aa [(2,.val (.int .i64 (bv b:Nat)))] [] 0 [],Wo trivial ⟨rfl,qQ⟩ trivial,rfl,rfl⟩
 ·cases e
theorem tJ:∀{l m:List UInt8},l.length=m.length->Op.bytesLess l m=decide (cO l < cO m)
 |[],[],_=>by simp [Op.bytesLess,cO]
 |x::l,y::m,h=>by
  have h:l.length=m.length:=by simpa using h
  have h1:=d5 l;have h2:=d5 m;rw [h] at h1;have hxy:(x=y)↔x.toNat=y.toNat:=UInt8.toNat_inj.symm;have hlt:(x < y)↔x.toNat < y.toNat:=UInt8.lt_iff_toNat_lt;rw [Op.bytesLess,tJ h,cE,cE,h];rcases Nat.lt_trichotomy x.toNat y.toNat with h3|h3|h3
  ·have:(x.toNat+1)*256^m.length<=y.toNat*256^m.length:=Nat.mul_le_mul_right _ h3;rw [Nat.add_mul,Nat.one_mul] at this;rw [decide_eq_true (hlt.2 h3),decide_eq_true (show x.toNat*256^m.length+cO l < y.toNat*256^m.length+cO m by omega)];rfl
  ·have e:x=y:=hxy.2 h3;subst e;rw [decide_eq_false (λh=>absurd (hlt.1 h) (by omega)),beq_self_eq_true,Bool.false_or,Bool.true_and,decide_eq_decide];omega
  ·have:(y.toNat+1)*256^m.length<=x.toNat*256^m.length:=Nat.mul_le_mul_right _ h3;rw [Nat.add_mul,Nat.one_mul] at this;have e:(x==y)=false:=beq_eq_false_iff_ne.2 λe=>by rw [e] at h3;omega
   rw [decide_eq_false (λh=>absurd (hlt.1 h) (by omega)),e,Bool.false_and,Bool.false_or,decide_eq_false (by omega)]
 |[],_::_,h=>by simp at h
 |_::_,[],h=>by simp at h
theorem p6 {l m:List UInt8} (hm:eE m=true) (h:l.length < m.length):cO l < cO m:=by
 cases m with
 |nil=>simp at h
 |cons x m =>
  have h1:=kY hm;have h2:=d5 l;have h3:=Nat.pow_le_pow_right (show 0 < 256 by decide) (show l.length<=m.length by simp at h;omega);omega
def wD:List PV->Option Ans
 |[.val (.string b),.val (.string c)]=>some ⟨some (eE b.data.toList=true/\eE c.data.toList=true),.val (goInt (bU (bv b) (bv c))),[]⟩
 |_=>none
theorem Db:ak {} Tryz.f231 2=true:=by kernel_rfl
theorem f231:FnOk Tryz.prog 231 wD:=by
 refine FnOk.ofW aj (am (l:=[]) (own:=[]) (inl:=[]) (by simp) (by simp)) Tryz.func231 {} 2 Db λargs r e=>?_;unfold wD at e;split at e
 ·rename_i b c
  cases e;refine⟨by simp,λhm=>?_⟩;obtain⟨hb,hc⟩:=hm _ rfl;refine⟨[],aa [(0,.val (.string b)),(1,.val (.string c))] [] 0 [],Wo trivial ⟨rfl,rfl,qQ⟩ trivial,?_⟩;have sb:=a7 b;have sc:=a7 c;have a1:(((b.size:Nat):Int) != (c.size:Nat))=true->decide (((b.size:Nat):Int) < (c.size:Nat))=true->PV.val (goInt (-1))=PV.val (goInt (bU (bv b) (bv c))):=λ_ h=>by
   have h:=of_decide_eq_true h;have:bv b < bv c:=p6 hc (by omega);rw [bU,if_pos this]
  have a2:(((b.size:Nat):Int) != (c.size:Nat))=true->decide (((b.size:Nat):Int) < (c.size:Nat))=false->PV.val (goInt 1)=PV.val (goInt (bU (bv b) (bv c))):=λh0 h=>by
   have h:=of_decide_eq_false h;have h0:((b.size:Nat):Int)≠(c.size:Nat):=by simpa using h0
   have:bv c < bv b:=p6 hb (by omega);rw [bU,if_neg (by omega),if_pos this]
  have eL:(((b.size:Nat):Int) != (c.size:Nat))=false->Op.bytesLess b.toList c.toList=decide (bv b < bv c):=λh0=>by
   have h0:((b.size:Nat):Int)=(c.size:Nat):=by simpa using h0
   rw [ce,ce];exact tJ (by omega)
  have a3:(((b.size:Nat):Int) != (c.size:Nat))=false->Op.bytesLess b.toList c.toList=true->PV.val (goInt (-1))=PV.val (goInt (bU (bv b) (bv c))):=λh0 h=>by
   rw [eL h0] at h;rw [bU,if_pos (of_decide_eq_true h)]
  have a4:(((b.size:Nat):Int) != (c.size:Nat))=false->Op.bytesLess b.toList c.toList=false->(!(Op.bytesLess b.toList c.toList||b.toList==c.toList))=true->PV.val (goInt 1)=PV.val (goInt (bU (bv b) (bv c))):=λh0 h h'=>by
   rw [h,Bool.false_or] at h';rw [eL h0] at h;have h:=of_decide_eq_false h;have h0:((b.size:Nat):Int)=(c.size:Nat):=by simpa using h0
   have hne:b.toList≠c.toList:=by simpa using h'
   have:bv b≠bv c:=λe=>hne (by rw [ce,ce];exact nR (by omega) e);rw [bU,if_neg h,if_pos (by omega)]
  have a5:(((b.size:Nat):Int) != (c.size:Nat))=false->Op.bytesLess b.toList c.toList=false->(!(Op.bytesLess b.toList c.toList||b.toList==c.toList))=false->PV.val (goInt 0)=PV.val (goInt (bU (bv b) (bv c))):=λh0 h h'=>by
   rw [h,Bool.false_or] at h';have he:b.toList=c.toList:=by simpa using h'
   rw [ce,ce] at he;have:bv b=bv c:=congrArg cO he;rw [bU,this,if_neg (by omega),if_neg (by omega)]
  with_unfolding_all refine⟨λh=>⟨λh'=>⟨[],aa [(4,.val (goInt (bU (bv b) (bv c))))] [] 0 [],Wo trivial ⟨a1 h h',qQ⟩ trivial,rfl,rfl⟩,λh'=>⟨[],aa [(4,.val (goInt (bU (bv b) (bv c))))] [] 0 [],Wo trivial ⟨a2 h h',qQ⟩ trivial,rfl,rfl⟩⟩,λh=>⟨λh'=>⟨[],aa [(4,.val (goInt (bU (bv b) (bv c))))] [] 0 [],Wo trivial ⟨a3 h h',qQ⟩ trivial,rfl,rfl⟩,λh'=>⟨λh2=>⟨[],aa [(4,.val (goInt (bU (bv b) (bv c))))] [] 0 [],Wo trivial ⟨a4 h h' h2,qQ⟩ trivial,rfl,rfl⟩,λh2=>⟨[],aa [(4,.val (goInt (bU (bv b) (bv c))))] [] 0 [],Wo trivial ⟨a5 h h' h2,qQ⟩ trivial,rfl,rfl⟩⟩⟩⟩
 ·cases e
theorem AP {b:ByteArray} (h:b.size<=7):bv b < 72057594037927936:=by
 have h1:=bt b;have h2:256^b.size<=256^7:=Nat.pow_le_pow_right (by decide) h;omega
def E5 (v:Value):Prop:=∃s b,v=.agg ⟨[.bool s,.string b]⟩/\b.size<=7
def yt:List PV->Option Ans
 |[.val v]=>some ⟨some (E5 v),.val (.int .i64 (aG v)),[]⟩
 |_=>none
theorem Dc:ak {} Tryz.f232 1=true:=by kernel_rfl
theorem f232:FnOk Tryz.prog 232 yt:=by
 refine FnOk.ofW aj (am (l:=[(250,wB)]) (own:=[]) (inl:=[]) (by simp [f250]) (by simp)) Tryz.func232 {} 1 Dc λargs r e=>?_;unfold yt at e;split at e
 ·rename_i v
  cases e;refine⟨by simp,λhm=>?_⟩;obtain⟨s,b,rfl,hb⟩:=hm _ rfl;have hlt:=AP hb;refine⟨[],aa [(0,.val (.agg ⟨[.bool s,.string b]⟩))] [] 0 [],Wo trivial ⟨rfl,qQ⟩ trivial,?_⟩;have t1:s=true->PV.val (.int .i64 (IntKind.i64.wrap (0 - ((bv b:Nat):Int))))=PV.val (.int .i64 (aw s (bv b))):=λh=>by
   rw [wrap64 (by omega) (by omega),h];show PV.val (.int .i64 (0 - ((bv b:Nat):Int)))=PV.val (.int .i64 (-((bv b:Nat):Int)));rw [Int.zero_sub]
  have t2:s=false->PV.val (.int .i64 ((bv b:Nat):Int))=PV.val (.int .i64 (aw s (bv b))):=λh=>by
   rw [h];rfl
  with_unfolding_all refine⟨λh=>⟨hb,[],aa [(2,.val (.int .i64 (aw s (bv b))))] [] 0 [],Wo trivial ⟨t1 h,qQ⟩ trivial,rfl,rfl⟩,λh=>⟨hb,[],aa [(2,.val (.int .i64 (aw s (bv b))))] [] 0 [],Wo trivial ⟨t2 h,qQ⟩ trivial,rfl,rfl⟩⟩
 ·cases e
def wE:List PV->Option Ans
 |[.val v]=>some ⟨some (ef v),.val (av (-aG v)),[]⟩
 |_=>none
theorem Dd:ak {} Tryz.f227 1=true:=by kernel_rfl
theorem f227:FnOk Tryz.prog 227 wE:=by
 refine FnOk.ofW aj (am (l:=[(230,sn)]) (own:=[]) (inl:=[]) (by simp [f230]) (by simp)) Tryz.func227 {} 1 Dd λargs r e=>?_;unfold wE at e;split at e
 ·rename_i v
  cases e;refine⟨by simp,λhm=>?_⟩;obtain⟨s,b,rfl,hb⟩:=hm _ rfl;refine⟨[],aa [(0,.val (.agg ⟨[.bool s,.string b]⟩))] [] 0 [],Wo trivial ⟨rfl,qQ⟩ trivial,?_⟩;have sd:PV.val (.string (ag (aw s (bv b)).natAbs))=PV.val (.string (ag (-(aw s (bv b))).natAbs)):=by rw [Int.natAbs_neg]
  have t1:(!decide ((aw s (bv b)) < 0))=true->PV.val (.bool (!((ag (aw s (bv b)).natAbs).toList==(⟨#[]⟩:ByteArray).toList)))=PV.val (.bool (decide (-(aw s (bv b)) < 0))):=λh=>by
   have h:¬(aw s (bv b)) < 0:=by simpa using h
   rw [numB_nil,show decide ((aw s (bv b)).natAbs≠0)=decide (-(aw s (bv b)) < 0) by rw [decide_eq_decide];omega]
  have t2:(!decide ((aw s (bv b)) < 0))=false->PV.val (.bool false)=PV.val (.bool (decide (-(aw s (bv b)) < 0))):=λh=>by
   have h:(aw s (bv b)) < 0:=by simpa using h
   rw [decide_eq_false (by omega)]
  with_unfolding_all refine⟨⟨_,_,rfl,hb⟩,λh=>⟨[some 1],aa [(2,.ptr 0 0 0 0)] [aU (-(aw s (bv b))) 0] 1 [],Wo ⟨qZ ⟨⟨t1 h,rfl⟩,⟨sd,rfl⟩,qQ⟩,qQ⟩ ⟨pP,qQ⟩ trivial,rfl,rfl⟩,λh=>⟨[some 1],aa [(2,.ptr 0 0 0 0)] [aU (-(aw s (bv b))) 0] 1 [],Wo ⟨qZ ⟨⟨t2 h,rfl⟩,⟨sd,rfl⟩,qQ⟩,qQ⟩ ⟨pP,qQ⟩ trivial,rfl,rfl⟩⟩
 ·cases e
def AQ:List PV->Option Ans
 |[.val (.int .i64 z)]=>some ⟨some (0<=z/\z < 4611686018427387904),.val (.string (ag z.toNat)),[]⟩
 |_=>none
theorem De:ak {} Tryz.f247 1=true:=by kernel_rfl
theorem wF {N:Nat} (h0:N≠0) (h:N < 256) {g:Nat->List PV} (hg:g 0=[.val (.int .u8 (IntKind.u8.wrap (N:Int)))]):cT 1 g=ag N:=by
 rw [<-jq (N:=N) (k:=1) (by simpa using h) (λ_=>by simp;omega)];unfold cT;congr 2;apply List.map_congr_left;intro i hi;have:i=0:=by have:=List.mem_range.1 hi;omega
 subst this;rw [hg];simp [aZ,ck]
theorem f247:FnOk Tryz.prog 247 AQ:=by
 refine FnOk.ofW aj (am (l:=[]) (own:=[]) (inl:=[]) (by simp) (by simp)) Tryz.func247 {} 1 De λargs r e=>?_;unfold AQ at e;split at e
 ·rename_i z
  cases e;refine⟨by simp,λhm=>?_⟩;obtain⟨hz,hz2⟩:=hm _ rfl;obtain⟨N,rfl⟩:∃N:Nat,z=(N:Int):=⟨z.toNat,by omega⟩;rw [Int.toNat_natCast];refine⟨[],aa [(0,.val (.int .i64 (N:Nat)))] [] 0 [],Wo trivial ⟨rfl,qQ⟩ trivial,?_⟩;with_unfolding_all refine⟨λh=>?_,λh=>?_⟩
  ·have hN:N < 256:=by have:=of_decide_eq_true h;omega
   have e0:(((N:Nat):Int)==0)=true->PV.val (.string ⟨#[]⟩)=PV.val (.string (ag N)):=λh=>by
    have h:N=0:=by simpa using h
    rw [h,fO]
   have e1:(((N:Nat):Int)==0)=false->N≠0:=λh=>by simpa using h
   with_unfolding_all refine⟨λh=>⟨[],aa [(2,.val (.string (ag N)))] [] 0 [],Wo trivial ⟨e0 h,qQ⟩ trivial,rfl,rfl⟩,λh=>⟨λi hi=>?_,[],aa [(2,.val (.string (ag N)))] [] 0 [],Wo trivial ⟨?_,qQ⟩ trivial,rfl,rfl⟩⟩
   ·cases i with
    |zero=>exact⟨_,rfl⟩
    |succ i=>exact absurd hi (by show ¬i+1 < 1;omega)
   ·exact congrArg (λx=>PV.val (.string x)) (wF (e1 h) hN rfl)
  ·with_unfolding_all refine⟨Nat,λk=>k<=8/\(0 < k->256^(k - 1)<=N),λk=>aa [(0,.val (.int .i64 ((N / 256^k:Nat):Int))),(3,.ptr 0 0 0 0),(4,.val (.int .i64 ((8 - k:Nat):Int)))] [⟨236,1,0,false,true,8,λj=>if j < 8 - k then [.val (.int .u8 0)] else aZ N k (j - (8 - k))⟩] 1 [],λk=>8 - k,?_,λk hk=>?_⟩
   ·with_unfolding_all refine⟨0,[some 0],⟨by omega,λh=>absurd h (by omega)⟩,Wo ⟨qZ (λi hi=>?_),qQ⟩ ⟨?_,pP,rfl,qQ⟩ trivial⟩
    ·have hi:i < 8:=hi;rcases i with _|_|_|_|_|_|_|_|i
     all_goals first
      |rfl
      |exact absurd hi (by omega)
    ·show PV.val (.int .i64 (N:Int))=PV.val (.int .i64 ((N / 256^0:Nat):Int));rw [Nat.pow_zero,Nat.div_one]
   ·obtain⟨hk,hk2⟩:=hk;have hN:N < 256^8:=by show N < 18446744073709551616;omega
    with_unfolding_all refine⟨λh=>?_,λh=>?_⟩
    ·have h:0 < N / 256^k:=by
      have h:((N / 256^k:Nat):Int) > 0:=of_decide_eq_true h;generalize N / 256^k=X at h ⊢;omega
     have hkN:256^k<=N:=by
      rcases Nat.lt_or_ge N (256^k) with h' | h'
      ·rw [Nat.div_eq_of_lt h'] at h;omega
      ·exact h'
     have hk7:k < 8:=by
      rcases Nat.lt_or_ge k 8 with h' | h'
      ·exact h'
      ·have:=Nat.pow_le_pow_right (show 0 < 256 by decide) h';omega
     have hw:IntKind.i64.wrap (((8 - k:Nat):Int) - 1)=((7 - k:Nat):Int):=by
      rw [wrap64 (by omega) (by omega)];omega
     with_unfolding_all refine⟨⟨by rw [hw];omega,by rw [hw];omega⟩,by decide,?_⟩
     rw [hw];with_unfolding_all refine⟨k+1,[some 0],⟨by omega,λ_=>hkN⟩,by show 8 - (k+1) < 8 - k;omega,Wo ⟨qZ (λi hi=>?_),qQ⟩ ⟨?_,pP,?_,qQ⟩ trivial⟩
     ·have hi:i < 8:=hi;show(if i < 8 - (k+1) then [PV.val (.int .u8 0)] else aZ N (k+1) (i - (8 - (k+1))))=if i=((7 - k:Nat):Int).toNat then [PV.val (.int .u8 (IntKind.u8.wrap ((N / 256^k:Nat):Int)))] else if i < 8 - k then [PV.val (.int .u8 0)] else aZ N k (i - (8 - k))
      rw [Int.toNat_natCast];rcases Nat.lt_trichotomy i (7 - k) with h1|h1|h1
      ·rw [if_pos (by omega),if_neg (by omega),if_pos (by omega)]
      ·rw [if_neg (by omega),if_pos h1,ck];simp only [aZ];rw [show k+1 - 1 - (i - (8 - (k+1)))=k by omega];rfl
      ·rw [if_neg (by omega),if_neg (by omega),if_neg (by omega)];simp only [aZ];rw [show k+1 - 1 - (i - (8 - (k+1)))=k - 1 - (i - (8 - k)) by omega]
     ·show PV.val (.int .i64 (((N / 256^k:Nat):Int) / 2^8))=PV.val (.int .i64 ((N / 256^(k+1):Nat):Int));rw [Nat.pow_succ,<-Nat.div_div_eq_div_mul];rfl
     ·show PV.val (.int .i64 ((7 - k:Nat):Int))=PV.val (.int .i64 ((8 - (k+1):Nat):Int));rw [show 8 - (k+1)=7 - k by omega]
    ·have h:N / 256^k=0:=by
      have h:¬((N / 256^k:Nat):Int) > 0:=of_decide_eq_false h;generalize N / 256^k=X at h ⊢;omega
     have hNk:N < 256^k:=by
      rcases Nat.lt_or_ge N (256^k) with h' | h'
      ·exact h'
      ·have:=Nat.div_pos h' (Nat.pow_pos (by decide));omega
     have h8:((8 - k:Nat):Int).toNat=8 - k:=Int.toNat_natCast _;have hn:((8:Nat) - ((8 - k:Nat):Int)).toNat=k:=by omega
     have hfin:=jq (N:=N) (k:=k) hNk hk2;with_unfolding_all refine⟨⟨by omega,by omega,by omega⟩,λi hi=>?_,[],aa [(2,.val (.string (ag N)))] [] 0 [],Wo trivial ⟨?_,qQ⟩ trivial,rfl,rfl⟩
     ·show ∃q:Int,(if ((8 - k:Nat):Int).toNat+i < 8 - k then [PV.val (.int .u8 0)] else aZ N k (((8 - k:Nat):Int).toNat+i - (8 - k)))=[PV.val (.int .u8 q)];split
      ·exact⟨_,rfl⟩
      ·exact⟨_,rfl⟩
     ·show PV.val (.string (cT ((8:Nat) - ((8 - k:Nat):Int)).toNat (λi=>if ((8 - k:Nat):Int).toNat+i < 8 - k then [PV.val (.int .u8 0)] else aZ N k (((8 - k:Nat):Int).toNat+i - (8 - k)))))=_;rw [hn,h8];have e:(λi=>if 8 - k+i < 8 - k then [PV.val (.int .u8 0)] else aZ N k (8 - k+i - (8 - k)))=aZ N k:=by
       funext i;rw [if_neg (by omega),Nat.add_sub_cancel_left]
      rw [e,hfin]
 ·cases e
def so:List PV->Option Ans
 |[.val (.int .i64 z)]=>some ⟨some (z.natAbs < 4611686018427387904),.val (av z),[]⟩
 |_=>none
theorem Df:ak {} Tryz.f226 1=true:=by kernel_rfl
theorem f226:FnOk Tryz.prog 226 so:=by
 refine FnOk.ofW aj (am (l:=[(247,AQ)]) (own:=[]) (inl:=[]) (by simp [f247]) (by simp)) Tryz.func226 {} 1 Df λargs r e=>?_;unfold so at e;split at e
 ·rename_i z
  cases e;refine⟨by simp,λhm=>?_⟩;have hz:z.natAbs < 4611686018427387904:=hm _ rfl;refine⟨[],aa [(0,.val (.int .i64 z))] [] 0 [],Wo trivial ⟨rfl,qQ⟩ trivial,?_⟩;have w:IntKind.i64.wrap (0 - z) = -z:=by rw [wrap64 (by omega) (by omega),Int.zero_sub]
  have g1:decide (z>=0)=true->0<=z:=λh=>of_decide_eq_true h;have g2:decide (z>=0)=false->z < 0:=λh=>by have:=of_decide_eq_false h;omega
  have c1:decide (z>=0)=true->PV.val (.bool false)=PV.val (.bool (decide (z < 0))):=λh=>by
   have:=g1 h;rw [decide_eq_false (show ¬z < 0 by omega)]
  have c2:decide (z>=0)=true->PV.val (.string (ag z.toNat))=PV.val (.string (ag z.natAbs)):=λh=>by
   have:=g1 h;rw [show z.toNat=z.natAbs by omega]
  have c3:decide (z>=0)=false->PV.val (.bool true)=PV.val (.bool (decide (z < 0))):=λh=>by
   rw [decide_eq_true (g2 h)]
  have c4:decide (z>=0)=false->PV.val (.string (ag (IntKind.i64.wrap (0 - z)).toNat))=PV.val (.string (ag z.natAbs)):=λh=>by
   have:=g2 h;rw [w,show(-z).toNat=z.natAbs by omega]
  have c5:decide (z>=0)=false->¬(z==IntKind.i64.wrap (0 - z))=true:=λh h'=>by
   have:=g2 h;rw [w] at h';have:z = -z:=by simpa using h'
   omega
  with_unfolding_all refine⟨λh=>⟨⟨g1 h,by omega⟩,[some 0],aa [(2,.ptr 0 0 0 0)] [aU z 0] 1 [],Wo ⟨qZ ⟨⟨c1 h,rfl⟩,⟨c2 h,rfl⟩,qQ⟩,qQ⟩ ⟨pP,qQ⟩ trivial,rfl,rfl⟩,λh=>⟨λh'=>absurd h' (c5 h),λ_=>⟨⟨by rw [w];have:=g2 h;omega,by rw [w];omega⟩,[some 0],aa [(2,.ptr 0 0 0 0)] [aU z 0] 1 [],Wo ⟨qZ ⟨⟨c3 h,rfl⟩,⟨c4 h,rfl⟩,qQ⟩,qQ⟩ ⟨pP,qQ⟩ trivial,rfl,rfl⟩⟩⟩
 ·cases e
theorem cf (n:Nat):eE (ag n).data.toList=true:=by
 have:=jW n;simpa [ag] using this
def AR:List PV->Option Ans
 |[.val v,.val u]=>some ⟨some (ef v/\ef u),.val (goInt (bq (aG v) (aG u))),[]⟩
 |_=>none
def D185:Opt:={ perm:=iS 1 [(0,true),(2,true),(1,false),(3,false)] }
theorem Dg:ak D185.toOrd Tryz.f185 2=true:=by kernel_rfl
theorem f185:FnOk Tryz.prog 185 AR:=by
 refine FnOk.ofW aj (am (l:=[(230,sn),(231,wD)]) (own:=[]) (inl:=[]) (by simp [f230,f231]) (by simp)) Tryz.func185 D185 2 Dg λargs r e=>?_;unfold AR at e;split at e
 ·rename_i v u
  cases e;refine⟨by simp,λhm=>?_⟩;obtain⟨⟨s,b,rfl,hb⟩,q,c,rfl,hc⟩:=hm _ rfl;refine⟨[],aa [(0,.val (.agg ⟨[.bool s,.string b]⟩)),(1,.val (.agg ⟨[.bool q,.string c]⟩))] [] 0 [],Wo trivial ⟨rfl,rfl,qQ⟩ trivial,?_⟩;have i1:ef (.agg ⟨[.bool s,.string b]⟩):=⟨_,_,rfl,hb⟩;have i2:ef (.agg ⟨[.bool q,.string c]⟩):=⟨_,_,rfl,hc⟩;generalize hX:aw s (bv b)=X;generalize hY:aw q (bv c)=Y;have a1:(!(decide (X < 0)==decide (Y < 0)))=true->decide (X < 0)=true->PV.val (goInt (-1))=PV.val (goInt (bq X Y)):=λh h'=>by
   rw [h'] at h;have h':=of_decide_eq_true h';have h:¬Y < 0:=by simpa using h
   rw [bq,if_pos (by omega)]
  have a2:(!(decide (X < 0)==decide (Y < 0)))=true->decide (X < 0)=false->PV.val (goInt 1)=PV.val (goInt (bq X Y)):=λh h'=>by
   rw [h'] at h;have h':=of_decide_eq_false h';have h:Y < 0:=by simpa using h
   rw [bq,if_neg (by omega),if_pos (by omega)]
  have a3:(!(decide (X < 0)==decide (Y < 0)))=false->decide (X < 0)=true->PV.val (goInt (bU (bv (ag Y.natAbs)) (bv (ag X.natAbs))))=PV.val (goInt (bq X Y)):=λh h'=>by
   rw [h'] at h;have h':=of_decide_eq_true h';have h:Y < 0:=by simpa using h
   rw [aC,aC,bU,bq];congr 2;split<;>split<;>first|rfl|omega|(split<;>split<;>first|rfl|omega)|(split<;>first|rfl|omega)
  have a4:(!(decide (X < 0)==decide (Y < 0)))=false->decide (X < 0)=false->PV.val (goInt (bU (bv (ag X.natAbs)) (bv (ag Y.natAbs))))=PV.val (goInt (bq X Y)):=λh h'=>by
   rw [h'] at h;have h':=of_decide_eq_false h';have h:¬Y < 0:=by simpa using h
   rw [aC,aC,bU,bq];congr 2;split<;>split<;>first|rfl|omega|(split<;>split<;>first|rfl|omega)|(split<;>first|rfl|omega)
  subst hX hY;with_unfolding_all refine⟨i1,i2,λh=>⟨λh'=>⟨[],aa [(4,.val (goInt (bq (aw s (bv b)) (aw q (bv c)))))] [] 0 [],Wo trivial ⟨a1 h h',qQ⟩ trivial,rfl,rfl⟩,λh'=>⟨[],aa [(4,.val (goInt (bq (aw s (bv b)) (aw q (bv c)))))] [] 0 [],Wo trivial ⟨a2 h h',qQ⟩ trivial,rfl,rfl⟩⟩,λh=>⟨λh'=>⟨⟨cf _,cf _⟩,[],aa [(4,.val (goInt (bq (aw s (bv b)) (aw q (bv c)))))] [] 0 [],Wo trivial ⟨a3 h h',qQ⟩ trivial,rfl,rfl⟩,λh'=>⟨⟨cf _,cf _⟩,[],aa [(4,.val (goInt (bq (aw s (bv b)) (aw q (bv c)))))] [] 0 [],Wo trivial ⟨a4 h h',qQ⟩ trivial,rfl,rfl⟩⟩⟩
 ·cases e
end Go.Proofs
namespace Go.Num
def bS (A M k:Nat):Nat:=(A%256^k+M%256^k) / 256^k
theorem p7 (A M:Nat):bS A M 0=0:=by simp [bS,Nat.mod_one]
theorem p9 (A M k:Nat):(bS A M k+A / 256^k%256+M / 256^k%256) / 256=bS A M (k+1):=by
 unfold bS;have hP:0 < 256^k:=Nat.pow_pos (by decide);rw [Nat.pow_succ,Nat.mod_mul,Nat.mod_mul,<-Nat.div_div_eq_div_mul];generalize 256^k=P at *
 rw [show A%P+P*(A / P%256)+(M%P+P*(M / P%256))=(A%P+M%P)+P*(A / P%256+M / P%256) by rw [Nat.mul_add];omega,Nat.add_mul_div_left _ _ hP,Nat.add_assoc]
theorem og (A M k:Nat):(bS A M k+A / 256^k%256+M / 256^k%256)%256=(A+M) / 256^k%256:=by
 unfold bS;have hP:0 < 256^k:=Nat.pow_pos (by decide);generalize 256^k=P at *
 have h1:=Nat.div_add_mod A P;have h2:=Nat.div_add_mod M P;have h3:A+M=(A%P+M%P)+P*(A / P+M / P):=by rw [Nat.mul_add];omega
 rw [h3,Nat.add_mul_div_left _ _ hP];generalize (A%P+M%P) / P=c;generalize A / P=x;generalize M / P=y;omega
theorem uO (A M k:Nat):bS A M k<=1:=by
 unfold bS;have hP:0 < 256^k:=Nat.pow_pos (by decide);have h1:=Nat.mod_lt A hP;have h2:=Nat.mod_lt M hP;have:(A%256^k+M%256^k) / 256^k < 2:=by rw [Nat.div_lt_iff_lt_mul hP];omega
 omega
theorem gd {l:List UInt8} {k:Nat} (h:k < l.length):(l[l.length - 1 - k]?.getD 0).toNat=cO l / 256^k%256:=by
 have hi:l.length - 1 - k < l.length:=by omega
 have hs:l=l.take (l.length - 1 - k)++(l[l.length - 1 - k]::l.drop (l.length - 1 - k+1)):=by
  rw [<-List.drop_eq_getElem_cons hi,List.take_append_drop]
 have hx:l[l.length - 1 - k]?.getD 0=l[l.length - 1 - k]:=by rw [List.getElem?_eq_getElem hi];rfl
 have hd:(l.drop (l.length - 1 - k+1)).length=k:=by rw [List.length_drop];omega
 have e:cO l=cO (l.take (l.length - 1 - k))*256^(k+1)+((l[l.length - 1 - k]).toNat*256^k+cO (l.drop (l.length - 1 - k+1))):=by
  have:=congrArg cO hs;rw [f9,cE,List.length_cons,hd] at this;exact this
 have hl:=d5 (l.drop (l.length - 1 - k+1));rw [hd] at hl;rw [hx,e,Nat.pow_succ];have hb:=UInt8.toNat_lt l[l.length - 1 - k];generalize l[l.length - 1 - k]=x at *
 generalize cO (l.drop (l.length - 1 - k+1))=r at *
 generalize cO (l.take (l.length - 1 - k))=q;have hP:0 < 256^k:=Nat.pow_pos (by decide);generalize 256^k=P at *
 rw [show q*(P*256)+(x.toNat*P+r)=r+P*(q*256+x.toNat) by rw [Nat.mul_add,Nat.mul_comm x.toNat P,<-Nat.mul_assoc q P 256,Nat.mul_comm q P,Nat.mul_assoc];omega,Nat.add_mul_div_left _ _ hP,Nat.div_eq_of_lt hl];omega
theorem oh {l:List UInt8} {k:Nat} (h:l.length<=k):cO l / 256^k%256=0:=by
 have h1:=d5 l;have h2:256^l.length<=256^k:=Nat.pow_le_pow_right (by decide) h;rw [Nat.div_eq_of_lt (by omega)]
end Go.Num
namespace Go.Proofs
def yu:List PV->Option Ans
 |[.val (.string b),.val (.string c)]=>some ⟨some (b.size<=17179869184/\c.size<=17179869184),.val (.string (ag (bv b+bv c))),[]⟩
 |_=>none
def D245:Opt:={ join:=λc=>match c with | .seq (.region 7 _ _) _=>true | .seq (.region 9 _ _) _=>true|_=>false }
theorem Dh:ak D245.toOrd Tryz.f245 2=true:=by kernel_rfl
theorem f245:FnOk Tryz.prog 245 yu:=by
 refine FnOk.ofW aj (am (l:=[(248,p5)]) (own:=[]) (inl:=[]) (by simp [f248]) (by simp)) Tryz.func245 D245 2 Dh λargs r e=>?_;unfold yu at e;split at e
 ·rename_i b c
  cases e;refine⟨by simp,λhm=>?_⟩;obtain⟨hb,hc⟩:=hm _ rfl;refine⟨[],aa [(0,.val (.string b)),(1,.val (.string c))] [] 0 [],Wo trivial ⟨rfl,rfl,qQ⟩ trivial,?_⟩;obtain⟨n,hn⟩:∃n:Nat,n=max b.size c.size+1:=⟨_,rfl⟩;have hmx:(if ((c.size:Nat):Int) > (b.size:Nat) then((c.size:Nat):Int) else(b.size:Nat))=((max b.size c.size:Nat):Int):=by
   split<;>omega
  have w:IntKind.i64.wrap ((if ((c.size:Nat):Int) > (b.size:Nat) then((c.size:Nat):Int) else(b.size:Nat))+1)=((n:Nat):Int):=by
   rw [hmx,hn,wrap64 (by omega) (by omega)];omega
  have hn2:n<=17179869185:=by omega
  with_unfolding_all refine⟨⟨by rw [w];omega,by omega,by rw [w];omega,by rw [w];show(1:Int)*(n:Nat)<=_;omega⟩,?_⟩
  rw [w];with_unfolding_all refine⟨Nat,λk=>k<=n,λk=>aa [(0,.val (.string b)),(1,.val (.string c)),(5,.val (.int .i64 (n:Nat))),(6,.sl 0 0 0 n),(7,.val (.int .i64 (bS (bv b) (bv c) k:Nat))),(8,.val (.int .i64 ((k:Int)+1)))] [⟨5,1,0,false,false,n,λj=>if j < n - k then [.val (.int .u8 0)] else aZ (bv b+bv c) n j⟩] 1 [],λk=>n - k,?_,λk hk=>?_⟩
  ·with_unfolding_all refine⟨0,[some 0],Nat.zero_le _,Wo ⟨qZ (λi hi=>?_),qQ⟩ ⟨rfl,rfl,rfl,pP,?_,rfl,qQ⟩ trivial⟩
   ·have hi:i < n:=hi;show(if i < n - 0 then [PV.val (.int .u8 0)] else aZ (bv b+bv c) n i)=[PV.val (.int .u8 0)];rw [if_pos (by omega)]
   ·show PV.val (.int .i64 0)=PV.val (.int .i64 ((bS (bv b) (bv c) 0:Nat):Int));rw [p7];rfl
  ·replace hk:k<=n:=hk;have hcr:=uO (bv b) (bv c) k;have hlb:=Nat.mod_lt (bv b / 256^k) (show 0 < 256 by decide);with_unfolding_all refine⟨λh=>⟨Unit,λ_=>True,λ_=>aa [(0,.val (.string b)),(1,.val (.string c)),(5,.val (.int .i64 (n:Nat))),(6,.sl 0 0 0 n),(7,.val (.int .i64 ((bS (bv b) (bv c) k+bv b / 256^k%256:Nat):Int))),(8,.val (.int .i64 ((k:Int)+1)))] [⟨5,1,0,false,false,n,λj=>if j < n - k then [.val (.int .u8 0)] else aZ (bv b+bv c) n j⟩] 1 [],?_,λ_ _=>⟨Unit,λ_=>True,λ_=>aa [(0,.val (.string b)),(1,.val (.string c)),(5,.val (.int .i64 (n:Nat))),(6,.sl 0 0 0 n),(7,.val (.int .i64 ((bS (bv b) (bv c) k+bv b / 256^k%256+bv c / 256^k%256:Nat):Int))),(8,.val (.int .i64 ((k:Int)+1)))] [⟨5,1,0,false,false,n,λj=>if j < n - k then [.val (.int .u8 0)] else aZ (bv b+bv c) n j⟩] 1 [],?_,λ_ _=>?_⟩⟩,λh=>?_⟩
   ·have hs:=a7 b;have wb:decide ((k:Int)+1<=(b.size:Nat))=true->IntKind.i64.wrap (((b.size:Nat):Int) - ((k:Int)+1))=((b.size - 1 - k:Nat):Int):=λh=>by
     have:=of_decide_eq_true h;rw [wrap64 (by omega) (by omega)];omega
    with_unfolding_all refine⟨λh=>⟨⟨by rw [wb h];omega,by rw [wb h];have:=of_decide_eq_true h;omega⟩,(),[some 0],trivial,Wo ⟨qZ (λ_ _=>rfl),qQ⟩ ⟨rfl,rfl,rfl,pP,?_,rfl,qQ⟩ trivial⟩,λh=>⟨(),[some 0],trivial,Wo ⟨qZ (λ_ _=>rfl),qQ⟩ ⟨rfl,rfl,rfl,pP,?_,rfl,qQ⟩ trivial⟩⟩
    ·have h':=of_decide_eq_true h;have hx:(b.data.toList[b.size - 1 - k]?.getD 0).toNat=bv b / 256^k%256:=by
      rw [hs];exact gd (by omega)
     show PV.val (.int .i64 (IntKind.i64.wrap (((bS (bv b) (bv c) k:Nat):Int)+IntKind.i64.wrap (((b.data.toList[(IntKind.i64.wrap (((b.size:Nat):Int) - ((k:Int)+1))).toNat]?.getD 0).toNat:Nat):Int))))=PV.val (.int .i64 ((bS (bv b) (bv c) k+bv b / 256^k%256:Nat):Int));rw [wb h,Int.toNat_natCast,hx];have:=Nat.mod_lt (bv b / 256^k) (show 0 < 256 by decide);rw [show IntKind.i64.wrap ((bv b / 256^k%256:Nat):Int)=((bv b / 256^k%256:Nat):Int) from wrap64 (by omega) (by omega),wrap64 (by omega) (by omega)];rfl
    ·have h':=of_decide_eq_false h;show PV.val (.int .i64 ((bS (bv b) (bv c) k:Nat):Int))=PV.val (.int .i64 ((bS (bv b) (bv c) k+bv b / 256^k%256:Nat):Int));rw [show bv b / 256^k%256=0 from oh (by omega),Nat.add_zero]
   ·have hs:=a7 c;have wb:decide ((k:Int)+1<=(c.size:Nat))=true->IntKind.i64.wrap (((c.size:Nat):Int) - ((k:Int)+1))=((c.size - 1 - k:Nat):Int):=λh=>by
     have:=of_decide_eq_true h;rw [wrap64 (by omega) (by omega)];omega
    with_unfolding_all refine⟨λh=>⟨⟨by rw [wb h];omega,by rw [wb h];have:=of_decide_eq_true h;omega⟩,(),[some 0],trivial,Wo ⟨qZ (λ_ _=>rfl),qQ⟩ ⟨rfl,rfl,rfl,pP,?_,rfl,qQ⟩ trivial⟩,λh=>⟨(),[some 0],trivial,Wo ⟨qZ (λ_ _=>rfl),qQ⟩ ⟨rfl,rfl,rfl,pP,?_,rfl,qQ⟩ trivial⟩⟩
    ·have h':=of_decide_eq_true h;have hx:(c.data.toList[c.size - 1 - k]?.getD 0).toNat=bv c / 256^k%256:=by
      rw [hs];exact gd (by omega)
     show PV.val (.int .i64 (IntKind.i64.wrap (((bS (bv b) (bv c) k+bv b / 256^k%256:Nat):Int)+IntKind.i64.wrap (((c.data.toList[(IntKind.i64.wrap (((c.size:Nat):Int) - ((k:Int)+1))).toNat]?.getD 0).toNat:Nat):Int))))=PV.val (.int .i64 ((bS (bv b) (bv c) k+bv b / 256^k%256+bv c / 256^k%256:Nat):Int));rw [wb h,Int.toNat_natCast,hx];have:=Nat.mod_lt (bv c / 256^k) (show 0 < 256 by decide);rw [show IntKind.i64.wrap ((bv c / 256^k%256:Nat):Int)=((bv c / 256^k%256:Nat):Int) from wrap64 (by omega) (by omega),wrap64 (by omega) (by omega)];rfl
    ·have h':=of_decide_eq_false h;show PV.val (.int .i64 ((bS (bv b) (bv c) k+bv b / 256^k%256:Nat):Int))=PV.val (.int .i64 ((bS (bv b) (bv c) k+bv b / 256^k%256+bv c / 256^k%256:Nat):Int));rw [show bv c / 256^k%256=0 from oh (by omega),Nat.add_zero]
   ·have h:=of_decide_eq_true h;have hlc:=Nat.mod_lt (bv c / 256^k) (show 0 < 256 by decide);have wn:IntKind.i64.wrap (((n:Nat):Int) - ((k:Int)+1))=((n - 1 - k:Nat):Int):=by
     rw [wrap64 (by omega) (by omega)];omega
    with_unfolding_all refine⟨⟨by rw [wn];omega,by rw [wn];omega⟩,by decide,k+1,[some 0],by show k+1<=n;omega,by show n - (k+1) < n - k;omega,Wo ⟨qZ (λi hi=>?_),qQ⟩ ⟨rfl,rfl,rfl,pP,?_,?_,qQ⟩ trivial⟩
    ·have hi:i < n:=hi;show(if i < n - (k+1) then [PV.val (.int .u8 0)] else aZ (bv b+bv c) n i)=if i=0+(IntKind.i64.wrap (((n:Nat):Int) - ((k:Int)+1))).toNat then [PV.val (.int .u8 (IntKind.u8.wrap ((bS (bv b) (bv c) k+bv b / 256^k%256+bv c / 256^k%256:Nat):Int)))] else if i < n - k then [PV.val (.int .u8 0)] else aZ (bv b+bv c) n i
     rw [wn,Int.toNat_natCast,Nat.zero_add];rcases Nat.lt_trichotomy i (n - 1 - k) with h1|h1|h1
     ·rw [if_pos (by omega),if_neg (by omega),if_pos (by omega)]
     ·rw [if_neg (by omega),if_pos h1,ck];simp only [aZ];rw [show n - 1 - i=k by omega,<-og];rfl
     ·rw [if_neg (by omega),if_neg (by omega),if_neg (by omega)]
    ·show PV.val (.int .i64 (((bS (bv b) (bv c) k+bv b / 256^k%256+bv c / 256^k%256:Nat):Int) / 2^8))=PV.val (.int .i64 ((bS (bv b) (bv c) (k+1):Nat):Int));rw [<-p9];rfl
    ·show PV.val (.int .i64 (IntKind.i64.wrap ((k:Int)+1+1)))=PV.val (.int .i64 (((k+1:Nat):Int)+1));rw [wrap64 (by omega) (by omega)];rfl
   ·have h:=of_decide_eq_false h;obtain rfl:k=n:=by omega
    have hA:bv b+bv c < 256^k:=by
     have h1:=bt b;have h2:=bt c;have h3:256^b.size<=256^max b.size c.size:=Nat.pow_le_pow_right (by decide) (by omega);have h4:256^c.size<=256^max b.size c.size:=Nat.pow_le_pow_right (by decide) (by omega);rw [hn,Nat.pow_succ];omega
    have hv:bv (cT k (λi=>if 0+i < k - k then [PV.val (.int .u8 0)] else aZ (bv b+bv c) k (0+i)))=bv b+bv c:=by
     rw [d8 (λi _=>by rw [if_neg (by omega),Nat.zero_add]),Nat.mod_eq_of_lt hA]
    with_unfolding_all refine⟨λi hi=>?_,[],aa [(4,.val (.string (ag (bv b+bv c))))] [] 0 [],Wo trivial ⟨congrArg (λx=>PV.val (.string (ag x))) hv,qQ⟩ trivial,rfl,rfl⟩
    show ∃q:Int,(if 0+i < k - k then [PV.val (.int .u8 0)] else aZ (bv b+bv c) k (0+i))=[PV.val (.int .u8 q)];split
    ·exact⟨_,rfl⟩
    ·exact⟨_,rfl⟩
 ·cases e
end Go.Proofs
namespace Go.Num
def bi (A M k:Nat):Nat:=if A%256^k < M%256^k then 1 else 0
theorem ol (A M:Nat):bi A M 0=0:=by simp [bi,Nat.mod_one]
theorem om (A M k:Nat):(A / 256^k%256 < bi A M k+M / 256^k%256)↔A%256^(k+1) < M%256^(k+1):=by
 unfold bi;have hP:0 < 256^k:=Nat.pow_pos (by decide);rw [Nat.pow_succ,Nat.mod_mul,Nat.mod_mul];generalize 256^k=P at *
 have h1:=Nat.mod_lt A hP;have h2:=Nat.mod_lt M hP;generalize A%P=x at *
 generalize M%P=y at *
 generalize A / P%256=a;generalize M / P%256=b;rcases Nat.lt_trichotomy a b with h|h|h
 ·have:=Nat.mul_le_mul_left P (show a+1<=b from h);rw [Nat.mul_add,Nat.mul_one] at this;split<;>omega
 ·subst h;split<;>omega
 ·have:=Nat.mul_le_mul_left P (show b+1<=a from h);rw [Nat.mul_add,Nat.mul_one] at this;split<;>omega
theorem mD {A M:Nat} (h:M<=A) (k:Nat):(A / 256^k%256+256 - bi A M k - M / 256^k%256)%256=(A - M) / 256^k%256:=by
 unfold bi;have hP:0 < 256^k:=Nat.pow_pos (by decide);generalize 256^k=P at *
 have h1:=Nat.mod_lt A hP;have h2:=Nat.mod_lt M hP;have e1:=Nat.div_add_mod A P;have e2:=Nat.div_add_mod M P;generalize A%P=x at *
 generalize M%P=y at *
 have hqr:M / P<=A / P:=Nat.div_le_div_right h;generalize A / P=q at *
 generalize M / P=r at *
 obtain⟨d,rfl⟩:=Nat.exists_eq_add_of_le hqr;rw [Nat.mul_add] at e1;by_cases hxy:x < y
 ·rw [if_pos hxy];cases d with
  |zero=>rw [Nat.mul_zero] at e1;omega
  |succ d =>
   rw [Nat.mul_add,Nat.mul_one] at e1;rw [show A - M=(P+x - y)+P*d by omega,Nat.add_mul_div_left _ _ hP,Nat.div_eq_of_lt (by omega)];omega
 ·rw [if_neg hxy,show A - M=(x - y)+P*d by omega,Nat.add_mul_div_left _ _ hP,Nat.div_eq_of_lt (by omega)];omega
theorem p8 (n:Nat):0 < 256^n:=Nat.pow_pos (by decide)
theorem wG (N i:Nat):N%256^(i+1)=N%256^i+256^i*(N / 256^i%256):=by rw [Nat.pow_succ,Nat.mod_mul]
theorem AS {M m i:Nat} (h:M < 256^m) (hi:m<=i):M / 256^i%256=0:=by
 rw [Nat.div_eq_of_lt (Nat.lt_of_lt_of_le h (Nat.pow_le_pow_right (by decide) hi)),Nat.zero_mod]
theorem Di (D i j:Nat):D%256^i / 256^j%256=if j < i then D / 256^j%256 else 0:=by
 split
 ·rename_i h
  obtain⟨d,rfl⟩:∃d,i=j+1+d:=⟨i - j - 1,by omega⟩;rw [Nat.pow_add,Nat.pow_succ,Nat.mul_assoc,Nat.mod_mul_right_div_self,Nat.mod_mul_right_mod]
 ·rename_i h
  have h1:D%256^i < 256^i:=Nat.mod_lt _ (p8 i);have h2:256^i<=256^j:=Nat.pow_le_pow_right (by decide) (by omega);rw [Nat.div_eq_of_lt (by omega),Nat.zero_mod]
def uV (A x M i k:Nat):Nat:=A+x*(M%256^k)*256^i
def uW (A x M i k:Nat):Nat:=uV A x M i k%256^(i+k)+A / 256^(i+k)*256^(i+k)
def uC (A x M i k:Nat):Nat:=uV A x M i k / 256^(i+k) - A / 256^(i+k)
theorem tK (A x M i:Nat):uV A x M i 0=A:=by simp [uV,Nat.mod_one]
theorem oo (A x M i k:Nat):uV A x M i (k+1)=uV A x M i k+x*(M / 256^k%256)*256^(i+k):=by
 unfold uV;rw [wG,Nat.mul_add,Nat.add_mul,Nat.pow_add,<-Nat.add_assoc];congr 1;rw [Nat.mul_comm (256^k) (M / 256^k%256),<-Nat.mul_assoc,Nat.mul_assoc (x*(M / 256^k%256)),Nat.mul_comm (256^k)]
theorem Dj (A x M i k:Nat):A<=uV A x M i k:=Nat.le_add_right _ _
theorem oq (A x M i k:Nat):uV A x M i k / 256^(i+k)=uC A x M i k+A / 256^(i+k):=by
 unfold uC;have:=Nat.div_le_div_right (c:=256^(i+k)) (Dj A x M i k);omega
theorem zD {A x M i k:Nat} (hx:x < 256):uC A x M i k < 256:=by
 have h1:x*(M%256^k)*256^i < (256 - 1)*256^(i+k)+1:=by
  have h2:M%256^k<=256^k:=Nat.le_of_lt (Nat.mod_lt _ (p8 k));have h3:x*(M%256^k)<=(256 - 1)*256^k:=Nat.mul_le_mul (by omega) h2;have h4:=Nat.mul_le_mul_right (256^i) h3;rw [Nat.mul_assoc (256 - 1),<-Nat.pow_add,Nat.add_comm k i] at h4;omega
 have h5:uV A x M i k / 256^(i+k)<=A / 256^(i+k)+(256 - 1):=by
  have:uV A x M i k<=A+256^(i+k)*(256 - 1):=by unfold uV;rw [Nat.mul_comm (256^(i+k))];omega
  have:=Nat.div_le_div_right (c:=256^(i+k)) this
  rwa [Nat.add_mul_div_left _ _ (p8 _)] at this
 unfold uC;have:0 < 256:=by decide
 omega
theorem yv (A x M i:Nat):uC A x M i 0=0:=by simp [uC,tK]
theorem yw (A x M i:Nat):uW A x M i 0=A:=by rw [uW,tK,Nat.mul_comm];exact Nat.mod_add_div A _
theorem ot (A x M i k j:Nat):uW A x M i k / 256^j%256=if j < i+k then uV A x M i k / 256^j%256 else A / 256^j%256:=by
 have hmod:uW A x M i k%256^(i+k)=uV A x M i k%256^(i+k):=by
  unfold uW;rw [Nat.add_mul_mod_self_right,Nat.mod_mod]
 have hdiv:uW A x M i k / 256^(i+k)=A / 256^(i+k):=by
  unfold uW;rw [Nat.add_mul_div_right _ _ (p8 _),Nat.div_eq_of_lt (Nat.mod_lt _ (p8 _)),Nat.zero_add]
 split
 ·rename_i h
  have h1:=Di (uW A x M i k) (i+k) j;have h2:=Di (uV A x M i k) (i+k) j;rw [if_pos h] at h1 h2;rw [<-h1,hmod,h2]
 ·rename_i h
  obtain⟨d,rfl⟩:∃d,j=i+k+d:=⟨j - (i+k),by omega⟩;rw [Nat.pow_add,<-Nat.div_div_eq_div_mul,hdiv,<-Nat.div_div_eq_div_mul]
theorem AT (A x M i k:Nat):(uC A x M i k+x*(M / 256^k%256)+A / 256^(i+k)%256)%256=uV A x M i (k+1) / 256^(i+k)%256:=by
 rw [oo,Nat.add_mul_div_right _ _ (p8 _),oq];generalize x*(M / 256^k%256)=p;generalize uC A x M i k=c;generalize A / 256^(i+k)=q;omega
theorem yx (A x M i k:Nat):(uC A x M i k+x*(M / 256^k%256)+A / 256^(i+k)%256) / 256=uC A x M i (k+1):=by
 have h1:uV A x M i (k+1) / 256^(i+k)=uC A x M i k+A / 256^(i+k)+x*(M / 256^k%256):=by rw [oo,Nat.add_mul_div_right _ _ (p8 _),oq]
 have h2:=oq A x M i (k+1);rw [<-Nat.add_assoc,Nat.pow_succ,<-Nat.div_div_eq_div_mul,<-Nat.div_div_eq_div_mul,h1] at h2;generalize x*(M / 256^k%256)=p at *
 generalize uC A x M i k=c at *
 generalize A / 256^(i+k)=q at *
 generalize uC A x M i (k+1)=r at *
 omega
theorem yy (A x M i k j:Nat):uW A x M i (k+1) / 256^j%256=if j=i+k then(uC A x M i k+x*(M / 256^k%256)+A / 256^(i+k)%256)%256 else uW A x M i k / 256^j%256:=by
 rw [AT];simp only [ot];split
 ·rename_i h
  split
  ·rename_i h3
   subst h3;rfl
  ·rename_i h3
   rw [if_pos (by omega),oo];obtain⟨d,hd⟩:∃d,i+k=j+1+d:=⟨i+k - j - 1,by omega⟩;rw [hd,Nat.pow_add,Nat.pow_succ];have:x*(M / 256^k%256)*(256^j*256*256^d)=256^j*(256*(x*(M / 256^k%256)*256^d)):=by
    generalize x*(M / 256^k%256)=p;rw [<-Nat.mul_assoc,Nat.mul_comm p,Nat.mul_assoc (256^j*256),Nat.mul_assoc]
   rw [this,Nat.add_mul_div_left _ _ (p8 j),Nat.add_mul_mod_self_left]
 ·rename_i h
  rw [if_neg (by omega),if_neg (by omega)]
theorem Dk (N M i m:Nat) (hM:M < 256^m):uV (N%256^i*M) (N / 256^i%256) M i m=N%256^(i+1)*M:=by
 unfold uV;rw [Nat.mod_eq_of_lt hM,wG,Nat.add_mul];congr 1;rw [Nat.mul_comm (256^i),Nat.mul_assoc,Nat.mul_assoc,Nat.mul_comm M]
theorem yz (A x M i m j:Nat) (hA:A < 256^(i+m)) (hV:uV A x M i m < 256^(i+m+1)) :
  uV A x M i m / 256^j%256=if j=i+m then uC A x M i m else uW A x M i m / 256^j%256:=by
 have h0:A / 256^(i+m)=0:=Nat.div_eq_of_lt hA;have h1:=oq A x M i m;rw [h0,Nat.add_zero] at h1;have h2:uC A x M i m < 256:=by
  rw [<-h1,Nat.div_lt_iff_lt_mul (p8 _),Nat.mul_comm,<-Nat.pow_succ];exact hV
 simp only [ot];split
 ·rename_i h
  subst h;rw [h1,Nat.mod_eq_of_lt h2]
 ·rename_i h
  split
  ·rfl
  ·rename_i h3
   have e1:A / 256^j%256=0:=AS hA (by omega);have e2:uV A x M i m / 256^j%256=0:=AS hV (by omega);rw [e1,e2]
def iO (N n:Nat):Nat->List PV:=λj=>[.val (.int .i64 ((N / 256^(n - 1 - j)%256:Nat):Int))]
theorem uP (A x M i k n j:Nat) (hj:j < n) (hik:i+k < n) {v:Int} (hv:v=(((uC A x M i k+x*(M / 256^k%256)+A / 256^(i+k)%256)%256:Nat):Int)) :
  (if j=n - 1 - (i+k) then [PV.val (.int .i64 v)] else iO (uW A x M i k) n j)=iO (uW A x M i (k+1)) n j:=by
 subst hv;simp only [iO];rw [yy];split
 ·rename_i h
  rw [if_pos (by omega)]
 ·rename_i h
  rw [if_neg (by omega)]
theorem uQ (A x M i m n j:Nat) (hj:j < n) (him:i+m < n) (hA:A < 256^(i+m)) (hV:uV A x M i m < 256^(i+m+1)) {v:Int} (hv:v=((uC A x M i m:Nat):Int)) :
  (if j=n - 1 - (i+m) then [PV.val (.int .i64 v)] else iO (uW A x M i m) n j)=iO (uV A x M i m) n j:=by
 subst hv;simp only [iO];rw [yz A x M i m _ hA hV];split
 ·rename_i h
  rw [if_pos (by omega)]
 ·rename_i h
  rw [if_neg (by omega)]
end Go.Num
namespace Go.Proofs
def yA:List PV->Option Ans
 |[.val (.string b),.val (.string c)]=>some ⟨some (bv c<=bv b/\b.size<=17179869184/\c.size<=17179869184),.val (.string (ag (bv b - bv c))),[]⟩
 |_=>none
def d9 (l:List Nat):Code->Bool
 |.seq (.region n _ _) _=>l.contains n
 |_=>false
def D246:Opt:={ join:=d9 [7,10] }
theorem Dl:ak D246.toOrd Tryz.f246 2=true:=by kernel_rfl
theorem f246:FnOk Tryz.prog 246 yA:=by
 refine FnOk.ofW aj (am (l:=[(248,p5)]) (own:=[]) (inl:=[]) (by simp [f248]) (by simp)) Tryz.func246 D246 2 Dl λargs r e=>?_;unfold yA at e;split at e
 ·rename_i b c
  cases e;refine⟨by simp,λhm=>?_⟩;obtain⟨hle,hb,hc⟩:=hm _ rfl;refine⟨[],aa [(0,.val (.string b)),(1,.val (.string c))] [] 0 [],Wo trivial ⟨rfl,rfl,qQ⟩ trivial,?_⟩;have hsb:=a7 b;have hsc:=a7 c;obtain⟨n,hn⟩:∃n:Nat,n=b.size:=⟨_,rfl⟩;rw [<-hn] at hb hsb;with_unfolding_all refine⟨⟨by omega,by omega,by omega,by show(1:Int)*(b.size:Nat)<=_;omega⟩,?_⟩
  rw [<-hn];with_unfolding_all refine⟨Nat,λk=>k<=n,λk=>aa [(0,.val (.string b)),(1,.val (.string c)),(5,.sl 0 0 0 n),(6,.val (.int .i64 (bi (bv b) (bv c) k:Nat))),(7,.val (.int .i64 ((k:Int)+1)))] [⟨5,1,0,false,false,n,λj=>if j < n - k then [.val (.int .u8 0)] else aZ (bv b - bv c) n j⟩] 1 [],λk=>n - k,?_,λk hk=>?_⟩
  ·with_unfolding_all refine⟨0,[some 0],Nat.zero_le _,Wo ⟨qZ (λi hi=>?_),qQ⟩ ⟨rfl,rfl,pP,?_,rfl,qQ⟩ trivial⟩
   ·have hi:i < n:=hi;show(if i < n - 0 then [PV.val (.int .u8 0)] else aZ (bv b - bv c) n i)=[PV.val (.int .u8 0)];rw [if_pos (by omega)]
   ·show PV.val (.int .i64 0)=PV.val (.int .i64 ((bi (bv b) (bv c) 0:Nat):Int));rw [ol];rfl
  ·replace hk:k<=n:=hk;have hbl:bi (bv b) (bv c) k<=1:=by unfold bi;split<;>omega
   have hlb:=Nat.mod_lt (bv b / 256^k) (show 0 < 256 by decide);have hlc:=Nat.mod_lt (bv c / 256^k) (show 0 < 256 by decide);have hst:=om (bv b) (bv c) k;have hdg:=mD hle k;with_unfolding_all refine⟨λh=>?_,λh=>?_⟩
   ·have h:=of_decide_eq_true h;have hkn:k < n:=by omega
    have wn:IntKind.i64.wrap (((b.size:Nat):Int) - ((k:Int)+1))=((n - 1 - k:Nat):Int):=by
     rw [wrap64 (by omega) (by omega)];omega
    have hx:(b.data.toList[n - 1 - k]?.getD 0).toNat=bv b / 256^k%256:=by
     rw [hsb];exact gd (by omega)
    have hd:IntKind.i64.wrap (IntKind.i64.wrap (((b.data.toList[(IntKind.i64.wrap (((b.size:Nat):Int) - ((k:Int)+1))).toNat]?.getD 0).toNat:Nat):Int) - ((bi (bv b) (bv c) k:Nat):Int))=((bv b / 256^k%256:Nat):Int) - ((bi (bv b) (bv c) k:Nat):Int):=by
     rw [wn,Int.toNat_natCast,hx];rw [show IntKind.i64.wrap ((bv b / 256^k%256:Nat):Int)=((bv b / 256^k%256:Nat):Int) from wrap64 (by omega) (by omega),wrap64 (by omega) (by omega)]
    with_unfolding_all refine⟨⟨by rw [wn];omega,by rw [wn];omega⟩,Unit,λ_=>True,λ_=>aa [(0,.val (.string b)),(1,.val (.string c)),(5,.sl 0 0 0 n),(7,.val (.int .i64 ((k:Int)+1))),(8,.val (.int .i64 (((bv b / 256^k%256:Nat):Int) - ((bi (bv b) (bv c) k:Nat):Int) - ((bv c / 256^k%256:Nat):Int))))] [⟨5,1,0,false,false,n,λj=>if j < n - k then [.val (.int .u8 0)] else aZ (bv b - bv c) n j⟩] 1 [],?_,λ_ _=>⟨Unit,λ_=>True,λ_=>aa [(0,.val (.string b)),(1,.val (.string c)),(5,.sl 0 0 0 n),(6,.val (.int .i64 (bi (bv b) (bv c) (k+1):Nat))),(7,.val (.int .i64 ((k:Int)+1))),(8,.val (.int .i64 (((bv b - bv c) / 256^k%256:Nat):Int)))] [⟨5,1,0,false,false,n,λj=>if j < n - k then [.val (.int .u8 0)] else aZ (bv b - bv c) n j⟩] 1 [],?_,λ_ _=>?_⟩⟩
    ·have wb:decide ((k:Int)+1<=(c.size:Nat))=true->IntKind.i64.wrap (((c.size:Nat):Int) - ((k:Int)+1))=((c.size - 1 - k:Nat):Int):=λh=>by
      have:=of_decide_eq_true h;rw [wrap64 (by omega) (by omega)];omega
     with_unfolding_all refine⟨λh=>⟨⟨by rw [wb h];omega,by rw [wb h];have:=of_decide_eq_true h;omega⟩,(),[some 0],trivial,Wo ⟨qZ (λ_ _=>rfl),qQ⟩ ⟨rfl,rfl,pP,rfl,?_,qQ⟩ trivial⟩,λh=>⟨(),[some 0],trivial,Wo ⟨qZ (λ_ _=>rfl),qQ⟩ ⟨rfl,rfl,pP,rfl,?_,qQ⟩ trivial⟩⟩
     ·have h':=of_decide_eq_true h;have hx:(c.data.toList[c.size - 1 - k]?.getD 0).toNat=bv c / 256^k%256:=by
       rw [hsc];exact gd (by omega)
      show PV.val (.int .i64 (IntKind.i64.wrap (IntKind.i64.wrap (IntKind.i64.wrap (((b.data.toList[(IntKind.i64.wrap (((b.size:Nat):Int) - ((k:Int)+1))).toNat]?.getD 0).toNat:Nat):Int) - ((bi (bv b) (bv c) k:Nat):Int)) - IntKind.i64.wrap (((c.data.toList[(IntKind.i64.wrap (((c.size:Nat):Int) - ((k:Int)+1))).toNat]?.getD 0).toNat:Nat):Int))))=PV.val (.int .i64 (((bv b / 256^k%256:Nat):Int) - ((bi (bv b) (bv c) k:Nat):Int) - ((bv c / 256^k%256:Nat):Int)));rw [hd,wb h,Int.toNat_natCast,hx];rw [show IntKind.i64.wrap ((bv c / 256^k%256:Nat):Int)=((bv c / 256^k%256:Nat):Int) from wrap64 (by omega) (by omega),wrap64 (by omega) (by omega)]
     ·have h':=of_decide_eq_false h;show PV.val (.int .i64 (IntKind.i64.wrap (IntKind.i64.wrap (((b.data.toList[(IntKind.i64.wrap (((b.size:Nat):Int) - ((k:Int)+1))).toNat]?.getD 0).toNat:Nat):Int) - ((bi (bv b) (bv c) k:Nat):Int))))=PV.val (.int .i64 (((bv b / 256^k%256:Nat):Int) - ((bi (bv b) (bv c) k:Nat):Int) - ((bv c / 256^k%256:Nat):Int)));rw [hd,show bv c / 256^k%256=0 from oh (by omega)];simp
    ·with_unfolding_all refine⟨λh=>⟨(),[some 0],trivial,Wo ⟨qZ (λ_ _=>rfl),qQ⟩ ⟨rfl,rfl,pP,?_,rfl,?_,qQ⟩ trivial⟩,λh=>⟨(),[some 0],trivial,Wo ⟨qZ (λ_ _=>rfl),qQ⟩ ⟨rfl,rfl,pP,?_,rfl,?_,qQ⟩ trivial⟩⟩
     ·have h':=of_decide_eq_true h;show PV.val (.int .i64 1)=PV.val (.int .i64 ((bi (bv b) (bv c) (k+1):Nat):Int));rw [show bi (bv b) (bv c) (k+1)=1 by unfold bi;exact if_pos (hst.1 (by omega))];rfl
     ·have h':=of_decide_eq_true h;show PV.val (.int .i64 (IntKind.i64.wrap (((bv b / 256^k%256:Nat):Int) - ((bi (bv b) (bv c) k:Nat):Int) - ((bv c / 256^k%256:Nat):Int)+256)))=PV.val (.int .i64 (((bv b - bv c) / 256^k%256:Nat):Int));rw [<-hdg,wrap64 (by omega) (by omega)];exact congrArg (λx=>PV.val (.int .i64 x)) (by omega)
     ·have h':=of_decide_eq_false h;show PV.val (.int .i64 0)=PV.val (.int .i64 ((bi (bv b) (bv c) (k+1):Nat):Int));rw [show bi (bv b) (bv c) (k+1)=0 by unfold bi;exact if_neg (λh=>by have:=hst.2 h;omega)];rfl
     ·have h':=of_decide_eq_false h;show PV.val (.int .i64 (((bv b / 256^k%256:Nat):Int) - ((bi (bv b) (bv c) k:Nat):Int) - ((bv c / 256^k%256:Nat):Int)))=PV.val (.int .i64 (((bv b - bv c) / 256^k%256:Nat):Int));rw [<-hdg];exact congrArg (λx=>PV.val (.int .i64 x)) (by omega)
    ·with_unfolding_all refine⟨⟨by rw [wn];omega,by rw [wn];omega⟩,k+1,[some 0],by show k+1<=n;omega,by show n - (k+1) < n - k;omega,Wo ⟨qZ (λi hi=>?_),qQ⟩ ⟨rfl,rfl,pP,rfl,?_,qQ⟩ trivial⟩
     ·have hi:i < n:=hi;show(if i < n - (k+1) then [PV.val (.int .u8 0)] else aZ (bv b - bv c) n i)=if i=0+(IntKind.i64.wrap (((b.size:Nat):Int) - ((k:Int)+1))).toNat then [PV.val (.int .u8 (IntKind.u8.wrap (((bv b - bv c) / 256^k%256:Nat):Int)))] else if i < n - k then [PV.val (.int .u8 0)] else aZ (bv b - bv c) n i
      rw [wn,Int.toNat_natCast,Nat.zero_add];rcases Nat.lt_trichotomy i (n - 1 - k) with h1|h1|h1
      ·rw [if_pos (by omega),if_neg (by omega),if_pos (by omega)]
      ·rw [if_neg (by omega),if_pos h1,ck];simp only [aZ];rw [show n - 1 - i=k by omega];exact congrArg (λx=>[PV.val (.int .u8 x)]) (by omega)
      ·rw [if_neg (by omega),if_neg (by omega),if_neg (by omega)]
     ·show PV.val (.int .i64 (IntKind.i64.wrap ((k:Int)+1+1)))=PV.val (.int .i64 (((k+1:Nat):Int)+1));rw [wrap64 (by omega) (by omega)];rfl
   ·have h:=of_decide_eq_false h;obtain rfl:k=n:=by omega
    have hA:bv b - bv c < 256^k:=by
     have h1:=bt b;rw [hn];omega
    have hv:bv (cT k (λi=>if 0+i < k - k then [PV.val (.int .u8 0)] else aZ (bv b - bv c) k (0+i)))=bv b - bv c:=by
     rw [d8 (λi _=>by rw [if_neg (by omega),Nat.zero_add]),Nat.mod_eq_of_lt hA]
    with_unfolding_all refine⟨λi hi=>?_,[],aa [(4,.val (.string (ag (bv b - bv c))))] [] 0 [],Wo trivial ⟨congrArg (λx=>PV.val (.string (ag x))) hv,qQ⟩ trivial,rfl,rfl⟩
    show ∃q:Int,(if 0+i < k - k then [PV.val (.int .u8 0)] else aZ (bv b - bv c) k (0+i))=[PV.val (.int .u8 q)];split
    ·exact⟨_,rfl⟩
    ·exact⟨_,rfl⟩
 ·cases e
theorem AU {t:Nat} (h:t < 2^63):IntKind.i64.wrap ((BitVec.ofInt IntKind.i64.bits (t:Int) &&& BitVec.ofInt IntKind.i64.bits 255).toNat:Int)=((t%256:Nat):Int):=by
 have e:(BitVec.ofInt IntKind.i64.bits (t:Int) &&& BitVec.ofInt IntKind.i64.bits 255).toNat=t%256:=by
  show(BitVec.ofInt 64 (t:Int) &&& BitVec.ofInt 64 ((255:Nat):Int)).toNat=t%256;rw [BitVec.toNat_and,dn (show t < 2^64 by omega),dn (by decide)];exact Nat.and_two_pow_sub_one_eq_mod t 8
 rw [e,wrap64 (by omega) (by omega)]
def AV:List PV->Option Ans
 |[.val (.string b),.val (.string c)]=>some ⟨some (b.size<=17179869184/\c.size<=17179869184),.val (.string (ag (bv b*bv c))),[]⟩
 |_=>none
theorem Dm:ak {} Tryz.f233 2=true:=by kernel_rfl
theorem f233:FnOk Tryz.prog 233 AV:=by
 refine FnOk.ofW aj (am (l:=[(248,p5)]) (own:=[]) (inl:=[]) (by simp [f248]) (by simp)) Tryz.func233 {} 2 Dm λargs r e=>?_;unfold AV at e;split at e
 ·rename_i b c
  cases e;refine⟨by simp,λhm=>?_⟩;obtain⟨hb,hc⟩:=hm _ rfl;refine⟨[],aa [(0,.val (.string b)),(1,.val (.string c))] [] 0 [],Wo trivial ⟨rfl,rfl,qQ⟩ trivial,?_⟩;have hsb:=a7 b;have hsc:=a7 c;have hN:=bt b;have hM:=bt c;obtain⟨la,hla⟩:∃n:Nat,n=b.size:=⟨_,rfl⟩;obtain⟨lb,hlb⟩:∃n:Nat,n=c.size:=⟨_,rfl⟩;obtain⟨n,hn⟩:∃n:Nat,n=la+lb:=⟨_,rfl⟩;have hnm:IntKind.i64.wrap (((b.size:Nat):Int)+((c.size:Nat):Int))=((n:Nat):Int):=by rw [wrap64 (by omega) (by omega)];omega
  with_unfolding_all refine⟨⟨by rw [hnm];omega,by omega,by rw [hnm];omega,by rw [hnm];show(8:Int)*(n:Nat)<=_;omega⟩,?_⟩
  rw [hnm];obtain⟨N,hNe⟩:∃N,N=bv b:=⟨_,rfl⟩;obtain⟨M,hMe⟩:∃M,M=bv c:=⟨_,rfl⟩;rw [<-hNe,<-hla] at hN;rw [<-hMe,<-hlb] at hM;have hbx:∀i:Nat,i < la->(b.data.toList[la - 1 - i]?.getD 0).toNat=N / 256^i%256:=λi hi=>by
   rw [hla,hsb,hNe];exact gd (by omega)
  have hcx:∀i:Nat,i < lb->(c.data.toList[lb - 1 - i]?.getD 0).toNat=M / 256^i%256:=λi hi=>by
   rw [hlb,hsc,hMe];exact gd (by omega)
  have hdn:bv b*bv c=N*M:=by rw [hNe,hMe]
  rw [hdn];have hlt:N*M < 256^n:=by rw [hn,Nat.pow_add];exact Nat.mul_lt_mul'' hN hM
  with_unfolding_all refine⟨Nat,λi=>i<=la,λi=>aa [(0,.val (.string b)),(1,.val (.string c)),(5,.sl 0 0 0 n),(6,.val (.int .i64 ((la:Int) - 1 - i)))] [⟨3,1,0,false,false,n,iO (N%256^i*M) n⟩] 1 [],λi=>la - i,
   ⟨0,[some 0],Nat.zero_le _,Wo ⟨qZ (λi hi=>?_),qQ⟩ ⟨rfl,rfl,pP,?_,qQ⟩ trivial⟩,λi hi=>⟨λh1=>?_,λh1=>?_⟩⟩
  ·show iO _ n i=[PV.val (.int .i64 0)];simp [iO,Nat.mod_one]
  ·show PV.val (.int .i64 (IntKind.i64.wrap (((b.size:Nat):Int) - 1)))=PV.val (.int .i64 ((la:Int) - 1 - ((0:Nat):Int)));rw [wrap64 (by omega) (by omega)];exact congrArg (λx=>PV.val (.int .i64 x)) (by omega)
  ·replace hi:i<=la:=hi;have h1:=of_decide_eq_true h1;have hil:i < la:=by omega
   have hx:=Nat.mod_lt (N / 256^i) (show 0 < 256 by decide);have hA:N%256^i*M < 256^(i+lb):=by
    rw [Nat.pow_add];exact Nat.mul_lt_mul'' (Nat.mod_lt _ (p8 i)) hM
   have hend:=Dk N M i lb hM;have hV:N%256^(i+1)*M < 256^(i+lb+1):=by
    rw [show i+lb+1=(i+1)+lb by omega,Nat.pow_add _ (i+1) lb];exact Nat.mul_lt_mul'' (Nat.mod_lt _ (p8 _)) hM
   have hbi:(b.data.toList[((la:Int) - 1 - i).toNat]?.getD 0).toNat=N / 256^i%256:=by
    rw [show((la:Int) - 1 - i).toNat=la - 1 - i by omega];exact hbx i hil
   generalize hAe:N%256^i*M=A at *
   with_unfolding_all refine⟨Nat,λk=>k<=lb,λk=>aa [(0,.val (.string b)),(1,.val (.string c)),(5,.sl 0 0 0 n),(6,.val (.int .i64 ((la:Int) - 1 - i))),(7,.val (.int .i64 (uC A (N / 256^i%256) M i k:Nat))),(8,.val (.int .i64 ((lb:Int) - 1 - k)))] [⟨3,1,0,false,false,n,iO (uW A (N / 256^i%256) M i k) n⟩] 1 [],λk=>lb - k,
    ⟨0,[some 0],Nat.zero_le _,Wo ⟨qZ (λj hj=>?_),qQ⟩ ⟨rfl,rfl,pP,rfl,?_,?_,qQ⟩ trivial⟩,λk hk=>⟨λh2=>?_,λh2=>?_⟩⟩
   ·rw [yw]
   ·rw [yv];rfl
   ·show PV.val (.int .i64 (IntKind.i64.wrap (((c.size:Nat):Int) - 1)))=PV.val (.int .i64 ((lb:Int) - 1 - ((0:Nat):Int)));rw [wrap64 (by omega) (by omega)];exact congrArg (λx=>PV.val (.int .i64 x)) (by omega)
   ·replace hk:k<=lb:=hk;have h2:=of_decide_eq_true h2;have hkl:k < lb:=by omega
    have hci:(c.data.toList[((lb:Int) - 1 - k).toNat]?.getD 0).toNat=M / 256^k%256:=by
     rw [show((lb:Int) - 1 - k).toNat=lb - 1 - k by omega];exact hcx k hkl
    have hy:=Nat.mod_lt (M / 256^k) (show 0 < 256 by decide);have ha:=Nat.mod_lt (A / 256^(i+k)) (show 0 < 256 by decide);have hcl:=zD (A:=A) (M:=M) (i:=i) (k:=k) hx;have hxy:N / 256^i%256*(M / 256^k%256)<=255*255:=Nat.mul_le_mul (by omega) (by omega);have hix:IntKind.i64.wrap (IntKind.i64.wrap ((la:Int) - 1 - i+((lb:Int) - 1 - k))+1)=((n - 1 - (i+k):Nat):Int):=by
     rw [wrap64 (x:=(la:Int) - 1 - i+((lb:Int) - 1 - k)) (by omega) (by omega),wrap64 (by omega) (by omega)];omega
    have hlimb:uW A (N / 256^i%256) M i k / 256^(i+k)%256=A / 256^(i+k)%256:=by rw [ot,if_neg (by omega)]
    have hcar:=yx A (N / 256^i%256) M i k;have hset:=λj (hj:j < n)=>uP A (N / 256^i%256) M i k n j hj (by omega) (v:=IntKind.i64.wrap ((BitVec.ofInt IntKind.i64.bits ((uC A (N / 256^i%256) M i k+N / 256^i%256*(M / 256^k%256)+A / 256^(i+k)%256:Nat):Int) &&& BitVec.ofInt IntKind.i64.bits 255).toNat:Int)) (AU (by omega));have hword:IntKind.i64.wrap (((uC A (N / 256^i%256) M i k:Nat):Int)+IntKind.i64.wrap (((uW A (N / 256^i%256) M i k / 256^(n - 1 - (0+(IntKind.i64.wrap (IntKind.i64.wrap ((la:Int) - 1 - i+((lb:Int) - 1 - k))+1)).toNat))%256:Nat):Int)+IntKind.i64.wrap (IntKind.i64.wrap (((b.data.toList[((la:Int) - 1 - i).toNat]?.getD 0).toNat:Nat):Int)*IntKind.i64.wrap (((c.data.toList[((lb:Int) - 1 - k).toNat]?.getD 0).toNat:Nat):Int))))
      = ((uC A (N / 256^i%256) M i k+N / 256^i%256*(M / 256^k%256)+A / 256^(i+k)%256:Nat):Int):=by
     rw [hix,Nat.zero_add,Int.toNat_natCast,show n - 1 - (n - 1 - (i+k))=i+k by omega,hlimb,hbi,hci];rw [wrap64 (x:=((N / 256^i%256:Nat):Int)) (by omega) (by omega),wrap64 (x:=((M / 256^k%256:Nat):Int)) (by omega) (by omega),<-Int.natCast_mul];generalize N / 256^i%256*(M / 256^k%256)=p at *
     rw [wrap64 (x:=(p:Int)) (by omega) (by omega),wrap64 (x:=((A / 256^(i+k)%256:Nat):Int)+(p:Int)) (by omega) (by omega),wrap64 (by omega) (by omega)];omega
    generalize hte:uC A (N / 256^i%256) M i k+N / 256^i%256*(M / 256^k%256)+A / 256^(i+k)%256=t at *
    with_unfolding_all refine⟨⟨by rw [hix];omega,by rw [hix];omega⟩,⟨by omega,by omega⟩,⟨by omega,by omega⟩,⟨by rw [hix];omega,by rw [hix];omega⟩,by decide,k+1,[some 0],?_,?_,Wo ⟨qZ (λj hj=>?_),qQ⟩ ⟨rfl,rfl,pP,rfl,?_,?_,qQ⟩ trivial⟩
    ·exact hkl
    ·show lb - (k+1) < lb - k;omega
    ·have hj:j < n:=hj;have key:∀word idx:Int,word=(t:Nat)->idx=((n - 1 - (i+k):Nat):Int)->iO (uW A (N / 256^i%256) M i (k+1)) n j=if j=0+idx.toNat then [PV.val (.int .i64 (IntKind.i64.wrap ((BitVec.ofInt IntKind.i64.bits word &&& BitVec.ofInt IntKind.i64.bits 255).toNat:Int)))] else iO (uW A (N / 256^i%256) M i k) n j:=λword idx h3 h4=>by
      rw [h3,h4,Int.toNat_natCast,Nat.zero_add,hset j hj]
     exact key _ _ hword hix
    ·have key:∀word:Int,word=(t:Nat)->PV.val (.int .i64 (word / 2^8))=PV.val (.int .i64 (uC A (N / 256^i%256) M i (k+1):Nat)):=λword h3=>by
      rw [h3,<-hcar];rfl
     exact key _ hword
    ·show PV.val (.int .i64 (IntKind.i64.wrap ((lb:Int) - 1 - k - 1)))=PV.val (.int .i64 ((lb:Int) - 1 - ((k+1:Nat):Int)));rw [wrap64 (by omega) (by omega)];exact congrArg (λx=>PV.val (.int .i64 x)) (by omega)
   ·replace hk:k<=lb:=hk;have h2:=of_decide_eq_false h2;obtain rfl:k=lb:=by omega
    have hcl:=zD (A:=A) (M:=M) (i:=i) (k:=k) hx;have h0:uW A (N / 256^i%256) M i k / 256^(i+k)%256=0:=by rw [ot,if_neg (by omega),AS hA (Nat.le_refl _)]
    have hlast:=λj (hj:j < n)=>uQ A (N / 256^i%256) M i k n j hj (by omega) hA (by rw [hend];exact hV) (v:=((uC A (N / 256^i%256) M i k:Nat):Int)) rfl;with_unfolding_all refine⟨⟨by omega,by omega⟩,⟨by omega,by omega⟩,i+1,[some 0],?_,?_,Wo ⟨qZ (λj hj=>?_),qQ⟩ ⟨rfl,rfl,pP,?_,qQ⟩ trivial⟩
    ·exact hil
    ·show la - (i+1) < la - i;omega
    ·have hj:j < n:=hj;have key:∀word idx:Int,word=(uC A (N / 256^i%256) M i k:Nat)->idx=((n - 1 - (i+k):Nat):Int)->iO (N%256^(i+1)*M) n j=if j=0+idx.toNat then [PV.val (.int .i64 word)] else iO (uW A (N / 256^i%256) M i k) n j:=λword idx h3 h4=>by
      rw [h3,h4,Int.toNat_natCast,Nat.zero_add,<-hend,hlast j hj]
     refine key (IntKind.i64.wrap (((uW A (N / 256^i%256) M i k / 256^(n - 1 - (0+((la:Int) - 1 - i).toNat))%256:Nat):Int)+((uC A (N / 256^i%256) M i k:Nat):Int))) ((la:Int) - 1 - i) ?_ (by omega);rw [show n - 1 - (0+((la:Int) - 1 - i).toNat)=i+k by omega,h0,wrap64 (by omega) (by omega)];omega
    ·show PV.val (.int .i64 (IntKind.i64.wrap ((la:Int) - 1 - i - 1)))=PV.val (.int .i64 ((la:Int) - 1 - ((i+1:Nat):Int)));rw [wrap64 (by omega) (by omega)];exact congrArg (λx=>PV.val (.int .i64 x)) (by omega)
  ·replace hi:i<=la:=hi;have h1:=of_decide_eq_false h1;obtain rfl:i=la:=by omega
   rw [Nat.mod_eq_of_lt hN];with_unfolding_all refine⟨⟨by omega,by omega,by omega,by show(1:Int)*(n:Nat)<=_;omega⟩,Nat,λk=>k<=n,λk=>aa [(5,.sl 0 0 0 n),(9,.sl 1 1 0 n),(10,.val (.int .i64 k))] [⟨3,1,0,false,false,n,iO (N*M) n⟩,⟨5,1,1,false,false,n,λj=>if j < k then aZ (N*M) n j else [.val (.int .u8 0)]⟩] 2 [],λk=>n - k,
    ⟨0,[some 0,some 1],Nat.zero_le _,Wo ⟨qZ (λj hj=>rfl),qZ (λj hj=>?_),qQ⟩ ⟨pP,pP,rfl,qQ⟩ trivial⟩,λk hk=>⟨λh2=>?_,λh2=>?_⟩⟩
   ·show(if j < 0 then aZ (N*M) n j else [PV.val (.int .u8 0)])=[PV.val (.int .u8 0)];rw [if_neg (by omega)]
   ·have h2:=of_decide_eq_true h2;have hkn:k < n:=by omega
    with_unfolding_all refine⟨⟨by omega,by omega⟩,⟨by omega,by omega⟩,k+1,[some 0,some 1],?_,?_,Wo ⟨qZ (λj hj=>rfl),qZ (λj hj=>?_),qQ⟩ ⟨pP,pP,?_,qQ⟩ trivial⟩
    ·exact hkn
    ·show n - (k+1) < n - k;omega
    ·have hd:=Nat.mod_lt (N*M / 256^(n - 1 - (0+(k:Int).toNat))) (show 0 < 256 by decide);show(if j < k+1 then aZ (N*M) n j else [PV.val (.int .u8 0)])=if j=0+(k:Int).toNat then [PV.val (.int .u8 (IntKind.u8.wrap ((N*M / 256^(n - 1 - (0+(k:Int).toNat))%256:Nat):Int)))] else if j < k then aZ (N*M) n j else [PV.val (.int .u8 0)]
     rw [Int.toNat_natCast,Nat.zero_add] at *
     rcases Nat.lt_trichotomy j k with h3|h3|h3
     ·rw [if_pos (by omega),if_neg (by omega),if_pos h3]
     ·rw [if_pos (by omega),if_pos h3,ck,h3];simp only [aZ];exact congrArg (λx=>[PV.val (.int .u8 x)]) (by omega)
     ·rw [if_neg (by omega),if_neg (by omega),if_neg (by omega)]
    ·show PV.val (.int .i64 (IntKind.i64.wrap ((k:Int)+1)))=PV.val (.int .i64 ((k+1:Nat):Int));rw [wrap64 (by omega) (by omega)];rfl
   ·have h2:=of_decide_eq_false h2;replace hk:k<=n:=hk;obtain rfl:k=n:=by omega
    have hv:bv (cT k (λj=>if 0+j < k then aZ (N*M) k (0+j) else [PV.val (.int .u8 0)]))=N*M:=by
     rw [d8 (λi _=>by rw [if_pos (by omega),Nat.zero_add]),Nat.mod_eq_of_lt hlt]
    with_unfolding_all refine⟨λi hi=>?_,[],aa [(4,.val (.string (ag (N*M))))] [] 0 [],Wo trivial ⟨congrArg (λx=>PV.val (.string (ag x))) hv,qQ⟩ trivial,rfl,rfl⟩
    show ∃q:Int,(if 0+i < k then aZ (N*M) k (0+i) else [PV.val (.int .u8 0)])=[PV.val (.int .u8 q)];split
    ·exact⟨_,rfl⟩
    ·exact⟨_,rfl⟩
 ·cases e
theorem yB {p x M:Nat} (hM:0 < M) (hx:x < 256):(p*256+x)%M=(p%M*256+x)%M/\(p*256+x) / M%256=(p%M*256+x) / M/\p%M*256+x < M*256:=by
 have h1:=Nat.div_add_mod p M;have h2:=Nat.mod_lt p hM;generalize p / M=q at *
 generalize p%M=r at *
 have e:p*256+x=(r*256+x)+M*(q*256):=by rw [<-h1,Nat.add_mul,Nat.mul_assoc];omega
 have hl:r*256+x < M*256:=by omega
 have hd:(r*256+x) / M < 256:=by rw [Nat.div_lt_iff_lt_mul hM];omega
 rw [e,Nat.add_mul_mod_self_left,Nat.add_mul_div_left _ _ hM];refine⟨rfl,?_,hl⟩;generalize (r*256+x) / M=f at *
 omega
theorem wH (R:Nat) {P:Nat} (hP:0 < P):(P<=R%(P*2)->R%(P*2) - P=R%P/\R / (P*2)*2+1=R / P)/\(R%(P*2) < P->R%(P*2)=R%P/\R / (P*2)*2=R / P):=by
 have h1:R%(P*2)=R%P+P*(R / P%2):=Nat.mod_mul;have h2:R / (P*2)=R / P / 2:=(Nat.div_div_eq_div_mul R P 2).symm;have h3:=Nat.mod_lt R hP;rcases Nat.mod_two_eq_zero_or_one (R / P) with h|h
 ·rw [h,Nat.mul_zero,Nat.add_zero] at h1;rw [h1,h2];exact⟨λh4=>by omega,λ_=>⟨rfl,by omega⟩⟩
 ·rw [h,Nat.mul_one] at h1;rw [h1,h2];exact⟨λ_=>⟨by omega,by omega⟩,λh4=>by omega⟩
theorem yC {b:ByteArray} {i:Nat} (h:i < b.size) (r:ByteArray):bv (r++b.extract i (i+1))=bv r*256+bv b / 256^(b.size - 1 - i)%256:=by
 have hs:=a7 b;have hx:(b.extract i (i+1)).data.toList=[b.data.toList[i]?.getD 0]:=by
  rw [d6,List.take_add_one,List.drop_append_of_le_length (by rw [List.length_take];omega)];rw [List.drop_eq_nil_of_le (by rw [List.length_take];omega),List.getElem?_eq_getElem (by omega)];rfl
 have hb:=gd (l:=b.data.toList) (k:=b.size - 1 - i) (by omega);rw [show b.data.toList.length - 1 - (b.size - 1 - i)=i by omega] at hb;have e:(r++b.extract i (i+1)).data.toList=r.data.toList++[b.data.toList[i]?.getD 0]:=by
  rw [ByteArray.data_append,Array.toList_append,hx]
 unfold bv;rw [e,f9,<-hb];simp [cO]
theorem di:ag 0=(⟨#[]⟩:ByteArray):=by simp [ag,cJ]
def yD:List PV->Option Ans
 |[.val (.string b),.val (.string c)]=>some ⟨some ((eE c.data.toList=true/\bv c≠0)/\b.size<=8589934592/\c.size<=8589934592),.val (.tuple ⟨[.string (ag (bv b / bv c)),.string (ag (bv b%bv c))]⟩),[]⟩
 |_=>none
def D249:Opt:={ perm:=iS 6 (rds 9++[(9,false)]),join:=d9 [17] }
theorem Dn:ak D249.toOrd Tryz.f249 2=true:=by kernel_rfl
theorem f249:FnOk Tryz.prog 249 yD:=by
 refine FnOk.ofW aj (am (l:=[(245,yu),(248,p5),(231,wD),(246,yA)]) (own:=[]) (inl:=[]) (by simp [f245,f248,f231,f246]) (by simp)) Tryz.func249 D249 2 Dn λargs r e=>?_;unfold yD at e;split at e
 ·rename_i b c
  cases e;refine⟨by simp,λhm=>?_⟩;obtain⟨⟨hl,hz⟩,hb,hc⟩:=hm _ rfl;refine⟨[],aa [(0,.val (.string b)),(1,.val (.string c))] [] 0 [],Wo trivial ⟨rfl,rfl,qQ⟩ trivial,?_⟩;have hsb:=a7 b;have hsc:=a7 c;have hN:=bt b;have hM:=bt c;have hcc:ag (bv c)=c:=ks hl;obtain⟨N,hNe⟩:∃N,N=bv b:=⟨_,rfl⟩;obtain⟨M,hMe⟩:∃M,M=bv c:=⟨_,rfl⟩;rw [<-hNe] at hN ⊢;rw [<-hMe] at hM hz hcc ⊢;have hsz:∀k:Nat,k<=8->(ag (M*2^k)).size<=c.size+1:=λk hk=>by
   refine aX ?_;have:(2:Nat)^k<=2^8:=Nat.pow_le_pow_right (by decide) hk;rw [Nat.pow_succ];exact Nat.lt_of_le_of_lt (Nat.mul_le_mul_left M this) (by omega)
  have hmod:∀k:Nat,k<=8->∀x:Nat,(ag (x%(M*2^k))).size<=c.size+1:=λk hk x=>by
   refine aX ?_;have:(2:Nat)^k<=2^8:=Nat.pow_le_pow_right (by decide) hk;have h2:=Nat.mul_le_mul_left M this;have h3:=Nat.mod_lt x (show 0 < M*2^k from Nat.mul_pos (by omega) (Nat.pow_pos (by decide)));rw [Nat.pow_succ];omega
  with_unfolding_all refine⟨⟨by omega,by omega⟩,Nat,λi=>1<=i/\i<=8,λi=>aa [(0,.val (.string b)),(1,.val (.string c)),(6,.ptr 0 0 0 0),(7,.val (goInt i))] [⟨247,1,0,false,true,8,λj=>[.val (.string (if j < i then ag (M*2^j) else⟨#[]⟩))]⟩] 1 [],λi=>8 - i,⟨1,[some 0],⟨Nat.le_refl _,by decide⟩,Wo ⟨qZ (λj hj=>?_),qQ⟩ ⟨rfl,rfl,pP,rfl,qQ⟩ trivial⟩,λi hi=>⟨λh1=>?_,λh1=>?_⟩⟩
  ·have hj:j < 8:=hj
   match j,hj with
   |0,_=>exact(congrArg (λx=>[PV.val (.string x)]) (show ag (M*2^0)=c by rw [Nat.pow_zero,Nat.mul_one,hcc]))
   |1,_=>rfl
   |2,_=>rfl
   |3,_=>rfl
   |4,_=>rfl
   |5,_=>rfl
   |6,_=>rfl
   |7,_=>rfl
   |j+8,h=>omega
  ·obtain⟨hi1,hi2⟩:1<=i/\i<=8:=hi;have h1:=of_decide_eq_true h1;have hi8:i < 8:=by omega
   have wi:(IntKind.i64.wrap ((i:Int) - 1))=((i - 1:Nat):Int):=by rw [wrap64 (by omega) (by omega)];omega
   have hsi:=hsz (i - 1) (by omega);have e:(if (IntKind.i64.wrap ((i:Int) - 1)).toNat < i then ag (M*2^(IntKind.i64.wrap ((i:Int) - 1)).toNat) else(⟨#[]⟩:ByteArray))=ag (M*2^(i - 1)):=by
    rw [wi,Int.toNat_natCast,if_pos (by omega)]
   with_unfolding_all refine⟨⟨by rw [wi];omega,by rw [wi];omega⟩,⟨by rw [wi];omega,by rw [wi];omega⟩,⟨by rw [e];omega,by rw [e];omega⟩,⟨by omega,by omega⟩,i+1,[some 0],⟨by omega,hi8⟩,by show 8 - (i+1) < 8 - i;omega,Wo ⟨qZ (λj hj=>?_),qQ⟩ ⟨rfl,rfl,pP,?_,qQ⟩ trivial⟩
   ·have key:∀s:ByteArray,s=ag (M*2^(i - 1))->[PV.val (.string (if j < i+1 then ag (M*2^j) else⟨#[]⟩))]=if j=(i:Int).toNat then [PV.val (.string (ag (bv s+bv s)))] else [PV.val (.string (if j < i then ag (M*2^j) else⟨#[]⟩))]:=λs hs=>by
     rw [hs,aC,Int.toNat_natCast];rcases Nat.lt_trichotomy j i with h3|h3|h3
     ·rw [if_pos (by omega),if_neg (by omega),if_pos h3]
     ·obtain⟨d,rfl⟩:∃d,i=d+1:=⟨i - 1,by omega⟩;rw [if_pos (by omega),if_pos h3,h3,Nat.add_sub_cancel,Nat.pow_succ,<-Nat.two_mul,Nat.mul_comm 2,Nat.mul_assoc]
     ·rw [if_neg (by omega),if_neg (by omega),if_neg (by omega)]
    exact key _ e
   ·show PV.val (.int .i64 (IntKind.i64.wrap ((i:Int)+1)))=PV.val (.int .i64 ((i+1:Nat):Int));rw [wrap64 (by omega) (by omega)];rfl
  ·obtain⟨hi1,hi2⟩:1<=i/\i<=8:=hi;have h1:=of_decide_eq_false h1;obtain rfl:i=8:=by omega
   obtain⟨n,hn⟩:∃n:Nat,n=b.size:=⟨_,rfl⟩;with_unfolding_all refine⟨⟨by omega,by omega,by omega,by show(1:Int)*(b.size:Nat)<=_;omega⟩,Nat,λi=>i<=n,λi=>aa [(0,.val (.string b)),(6,.ptr 0 0 0 0),(8,.sl 1 1 0 n),(9,.val (.string (ag (N / 256^(n - i)%M)))),(10,.val (goInt i))] [⟨247,1,0,false,true,8,λj=>[.val (.string (ag (M*2^j)))]⟩,⟨5,1,1,false,false,n,λj=>if j < i then aZ (N / M) n j else [.val (.int .u8 0)]⟩] 2 [],λi=>n - i,
    ⟨0,[some 0,some 1],Nat.zero_le _,Wo ⟨qZ (λj hj=>?_),⟨bf rfl,rfl,rfl,rfl,rfl,hn,λj hj=>?_⟩,qQ⟩ ⟨rfl,pP,⟨rfl,rfl,?_,bf rfl,_,rfl⟩,?_,rfl,qQ⟩ trivial⟩,λi hi=>⟨λh2=>?_,λh2=>?_⟩⟩
   ·have hj:j < 8:=hj;show [PV.val (.string (ag (M*2^j)))]=[PV.val (.string (if j < 8 then ag (M*2^j) else⟨#[]⟩))];rw [if_pos hj]
   ·show(if j < 0 then aZ (N / M) n j else [PV.val (.int .u8 0)])=[PV.val (.int .u8 0)];rw [if_neg (by omega)]
   ·exact hn.symm
   ·show PV.val (.string ⟨#[]⟩)=PV.val (.string (ag (N / 256^(n - 0)%M)));rw [Nat.sub_zero,Nat.div_eq_of_lt (by rw [hn];exact hN),Nat.zero_mod,di]
   ·replace hi:i<=n:=hi;have h2:=bx h2;have hin:i < n:=by omega
    have hM0:0 < M:=by omega
    have wi:IntKind.i64.wrap ((i:Int)+1)=((i+1:Nat):Int):=by rw [wrap64 (by omega) (by omega)];rfl
    have hnx:=yC (b:=b) (i:=i) (by omega) (ag (N / 256^(n - i)%M));rw [aC,<-hNe,<-hn] at hnx;have hpx:N / 256^(n - (i+1))=N / 256^(n - i)*256+N / 256^(n - 1 - i)%256:=by
     obtain⟨k,rfl⟩:∃k,n=k+i+1:=⟨n - i - 1,by omega⟩;rw [show k+i+1 - (i+1)=k by omega,show k+i+1 - i=k+1 by omega,show k+i+1 - 1 - i=k by omega,Nat.pow_succ,<-Nat.div_div_eq_div_mul];omega
    have hdd:N / M / 256^(n - 1 - i)=N / 256^(n - (i+1)) / M:=by
     rw [Nat.div_div_eq_div_mul,Nat.div_div_eq_div_mul,Nat.mul_comm,show n - 1 - i=n - (i+1) by omega]
    have hx:=Nat.mod_lt (N / 256^(n - 1 - i)) (show 0 < 256 by decide);have hrs:=hmod 0 (by omega) (N / 256^(n - i));have hes:(b.extract i (i+1)).size<=1:=by
     rw [a7,d6,List.length_drop,List.length_take];omega
    rw [Nat.pow_zero,Nat.mul_one] at hrs;obtain⟨st1,st2,st3⟩:=yB (p:=N / 256^(n - i)) hM0 hx;rw [<-hpx] at st1 st2;generalize N / 256^(n - i)%M*256+N / 256^(n - 1 - i)%256=R at *
    with_unfolding_all refine⟨⟨by omega,by rw [wi];omega,by rw [wi];omega⟩,?_,Nat,λj=>j<=8,λj=>aa [(0,.val (.string b)),(6,.ptr 0 0 0 0),(8,.sl 1 1 0 n),(9,.val (.string (ag (R%(M*2^(8 - j)))))),(10,.val (goInt i)),(11,.val (.int .i64 (R / (M*2^(8 - j))*2^(8 - j):Nat))),(12,.val (.int .i64 (7 - (j:Int))))] [⟨247,1,0,false,true,8,λj=>[.val (.string (ag (M*2^j)))]⟩,⟨5,1,1,false,false,n,λj=>if j < i then aZ (N / M) n j else [.val (.int .u8 0)]⟩] 2 [],λj=>8 - j,
     ⟨0,[some 0,some 1],Nat.zero_le _,Wo ⟨qZ (λj hj=>rfl),qZ (λj hj=>rfl),qQ⟩ ⟨rfl,pP,pP,?_,rfl,?_,rfl,qQ⟩ trivial⟩,λj hj=>⟨λh3=>?_,λh3=>?_⟩⟩
    ·rw [wi];show(ag (N / 256^(n - i)%M)).size+(b.extract (i:Int).toNat (((i+1:Nat):Int)).toNat).size<=9223372036854775807;rw [Int.toNat_natCast,Int.toNat_natCast];omega
    ·have key:∀z:Int,z=((i+1:Nat):Int)->PV.val (.string (ag (bv (ag (N / 256^(n - i)%M)++b.extract (i:Int).toNat z.toNat))))=PV.val (.string (ag (R%(M*2^(8 - 0))))):=λz hz=>by
      rw [hz,Int.toNat_natCast,Int.toNat_natCast,hnx,Nat.mod_eq_of_lt (show R < M*2^(8 - 0) from st3)]
     exact key _ wi
    ·show PV.val (.int .i64 0)=PV.val (.int .i64 ((R / (M*2^(8 - 0))*2^(8 - 0):Nat):Int));rw [Nat.div_eq_of_lt (show R < M*2^(8 - 0) from st3),Nat.zero_mul];rfl
    ·replace hj:j<=8:=hj;have h3:0<=7 - (j:Int):=by have:=of_decide_eq_true h3;omega
     have hk:(7 - (j:Int)).toNat=7 - j:=by omega
     have hP:0 < M*2^(7 - j):=Nat.mul_pos hM0 (Nat.pow_pos (by decide));have hP2:M*2^(8 - j)=M*2^(7 - j)*2:=by rw [show 8 - j=7 - j+1 by omega,Nat.pow_succ,<-Nat.mul_assoc]
     have hbs:=wH R hP;rw [<-hP2] at hbs;have hd1:R / (M*2^(8 - j))*2^(8 - j)=R / (M*2^(8 - j))*2*2^(7 - j):=by rw [show 8 - j=7 - j+1 by omega,Nat.pow_succ,Nat.mul_assoc,Nat.mul_comm 2]
     have hdl:R / (M*2^(7 - j))*2^(7 - j) < 256:=by
      have h4:R / (M*2^(7 - j))*2^(7 - j)<=R / M:=by
       rw [<-Nat.div_div_eq_div_mul];exact Nat.div_mul_le_self _ _
      have h5:R / M < 256:=by rw [Nat.div_lt_iff_lt_mul hM0];omega
      omega
     have hp7:(2:Nat)^(7 - j)<=2^7:=Nat.pow_le_pow_right (by decide) (by omega);have hz1:=hsz (7 - j) (by omega);have hz2:=hmod (8 - j) (by omega) R;have w7:IntKind.i64.wrap (7 - (j:Int) - 1)=7 - ((j+1:Nat):Int):=by rw [wrap64 (by omega) (by omega)];omega
     have wu:(IntKind.u64.wrap (7 - (j:Int)))=((7 - j:Nat):Int):=by rw [show 7 - (j:Int)=((7 - j:Nat):Int) by omega,aP (by omega)]
     have h87:8 - (j+1)=7 - j:=by omega
     with_unfolding_all refine⟨⟨h3,by omega⟩,⟨cf _,cf _⟩,λh4=>⟨⟨h3,by omega⟩,⟨?_,by omega,by rw [hk];omega⟩,by rw [wu];omega,j+1,[some 0,some 1],by show j+1<=8;omega,by show 8 - (j+1) < 8 - j;omega,Wo ⟨qZ (λj hj=>rfl),qZ (λj hj=>rfl),qQ⟩ ⟨rfl,pP,pP,?_,rfl,?_,congrArg (λx=>PV.val (.int .i64 x)) w7,qQ⟩ trivial⟩,λh4=>⟨j+1,[some 0,some 1],by show j+1<=8;omega,by show 8 - (j+1) < 8 - j;omega,Wo ⟨qZ (λj hj=>rfl),qZ (λj hj=>rfl),qQ⟩ ⟨rfl,pP,pP,?_,rfl,?_,congrArg (λx=>PV.val (.int .i64 x)) w7,qQ⟩ trivial⟩⟩
     ·have h5:=of_decide_eq_true h4;rw [aC,aC,hk] at h5 ⊢;have:=mt iL.2 (show ¬bU (R%(M*2^(8 - j))) (M*2^(7 - j)) < 0 by omega);omega
     ·have h5:=of_decide_eq_true h4;rw [aC,aC,hk] at h5;have h6:M*2^(7 - j)<=R%(M*2^(8 - j)):=by
       have:=mt iL.2 (show ¬bU (R%(M*2^(8 - j))) (M*2^(7 - j)) < 0 by omega);omega
      have key:∀k:Nat,k=7 - j->PV.val (.string (ag (bv (ag (R%(M*2^(8 - j)))) - bv (ag (M*2^k)))))=PV.val (.string (ag (R%(M*2^(8 - (j+1)))))):=λk hk=>by
       rw [hk,aC,aC,(hbs.1 h6).1,h87]
      exact key _ hk
     ·have h5:=of_decide_eq_true h4;rw [aC,aC,hk] at h5;have h6:M*2^(7 - j)<=R%(M*2^(8 - j)):=by
       have:=mt iL.2 (show ¬bU (R%(M*2^(8 - j))) (M*2^(7 - j)) < 0 by omega);omega
      have key:∀w:Int,w=((7 - j:Nat):Int)->PV.val (.int .i64 (IntKind.i64.wrap (((R / (M*2^(8 - j))*2^(8 - j):Nat):Int)+IntKind.i64.wrap (1*2^min w.toNat IntKind.i64.bits))))=PV.val (.int .i64 ((R / (M*2^(8 - (j+1)))*2^(8 - (j+1)):Nat):Int)):=λw hw=>by
       have e2:(1:Int)*2^min w.toNat IntKind.i64.bits=((2^(7 - j):Nat):Int):=by
        rw [hw,Int.toNat_natCast,show min (7 - j) IntKind.i64.bits=7 - j from Nat.min_eq_left (by show 7 - j<=64;omega),Int.one_mul];simp
       have e3:R / (M*2^(8 - j))*2^(8 - j)+2^(7 - j)=R / (M*2^(7 - j))*2^(7 - j):=by
        rw [hd1,<-(hbs.1 h6).2,Nat.add_mul (R / (M*2^(8 - j))*2) 1,Nat.one_mul]
       rw [e2,h87,<-e3];rw [<-e3] at hdl;clear hd1 e2 e3 hbs;generalize R / (M*2^(8 - j))*2^(8 - j)=D at *
       generalize 2^(7 - j)=T at *
       rw [wrap64 (x:=(T:Int)) (by omega) (by omega),wrap64 (by omega) (by omega)];rfl
      exact key _ wu
     ·have h5:=of_decide_eq_false h4;rw [aC,aC,hk] at h5;have h6:R%(M*2^(8 - j)) < M*2^(7 - j):=iL.1 (by omega);show PV.val (.string (ag (R%(M*2^(8 - j)))))=PV.val (.string (ag (R%(M*2^(8 - (j+1))))));rw [(hbs.2 h6).1,h87]
     ·have h5:=of_decide_eq_false h4;rw [aC,aC,hk] at h5;have h6:R%(M*2^(8 - j)) < M*2^(7 - j):=iL.1 (by omega);show PV.val (.int .i64 ((R / (M*2^(8 - j))*2^(8 - j):Nat):Int))=PV.val (.int .i64 ((R / (M*2^(8 - (j+1)))*2^(8 - (j+1)):Nat):Int));rw [h87,hd1,(hbs.2 h6).2]
    ·replace hj:j<=8:=hj;have h3:=of_decide_eq_false h3;obtain rfl:j=8:=by omega
     have hq:R / (M*2^(8 - 8))*2^(8 - 8)=R / M:=by simp
     have hql:R / M < 256:=by rw [Nat.div_lt_iff_lt_mul hM0];omega
     with_unfolding_all refine⟨⟨by omega,by omega⟩,i+1,[some 0,some 1],by show i+1<=n;omega,by show n - (i+1) < n - i;omega,Wo ⟨qZ (λj hj=>rfl),qZ (λj hj=>?_),qQ⟩ ⟨rfl,pP,pP,?_,congrArg (λx=>PV.val (.int .i64 x)) wi,qQ⟩ trivial⟩
     ·show(if j < i+1 then aZ (N / M) n j else [PV.val (.int .u8 0)])=if j=0+(i:Int).toNat then [PV.val (.int .u8 (IntKind.u8.wrap ((R / (M*2^(8 - 8))*2^(8 - 8):Nat):Int)))] else if j < i then aZ (N / M) n j else [PV.val (.int .u8 0)]
      rw [hq,Nat.zero_add,Int.toNat_natCast];rcases Nat.lt_trichotomy j i with h4|h4|h4
      ·rw [if_pos (by omega),if_neg (by omega),if_pos h4]
      ·rw [if_pos (by omega),if_pos h4,h4,ck];simp only [aZ];rw [hdd,st2];exact congrArg (λx=>[PV.val (.int .u8 x)]) (by omega)
      ·rw [if_neg (by omega),if_neg (by omega),if_neg (by omega)]
     ·show PV.val (.string (ag (R%(M*2^(8 - 8)))))=PV.val (.string (ag (N / 256^(n - (i+1))%M)));rw [st1];simp
   ·have h2:=dU h2;replace hi:i<=n:=hi;obtain rfl:i=n:=by omega
    have hQ:N / M < 256^i:=by
     have:=Nat.div_le_self N M;rw [hn];omega
    have hv:bv (cT i (λj=>if 0+j < i then aZ (N / M) i (0+j) else [PV.val (.int .u8 0)]))=N / M:=by
     rw [d8 (λk _=>by rw [if_pos (by omega),Nat.zero_add]),Nat.mod_eq_of_lt hQ]
    have hr:N / 256^(i - i)%M=N%M:=by simp
    with_unfolding_all refine⟨λk hk=>?_,[],aa [(4,.val (.string (ag (N / M)))),(5,.val (.string (ag (N%M))))] [] 0 [],Wo trivial ⟨congrArg (λx=>PV.val (.string (ag x))) hv,congrArg (λx=>PV.val (.string (ag x))) hr,qQ⟩ trivial,rfl,rfl⟩
    show ∃q:Int,(if 0+k < i then aZ (N / M) i (0+k) else [PV.val (.int .u8 0)])=[PV.val (.int .u8 q)];split
    ·exact⟨_,rfl⟩
    ·exact⟨_,rfl⟩
 ·cases e
end Go.Proofs
namespace Go.Num
def cZ (k:Nat) (v:Value):Prop:=∃s b,v=.agg ⟨[.bool s,.string b]⟩/\b.size<=k
theorem tL {a b:Nat} (h:(bU a b==0)=true):a=b:=by
 have h:=eq_of_beq h;unfold bU at h;split at h
 ·omega
 ·split at h<;>omega
theorem sp {a b:Nat} (h:decide (bU a b > 0)=true):b < a:=by
 have h:=of_decide_eq_true h;unfold bU at h;split at h
 ·omega
 ·split at h<;>omega
theorem ov {a b:Nat} (h:decide (bU a b > 0)=false):a<=b:=by
 have h:=of_decide_eq_false h;unfold bU at h;split at h
 ·omega
 ·split at h<;>omega
theorem tM {X Y:Int} (h:(decide (X < 0)==decide (Y < 0))=true):decide (X < 0)=decide (X+Y < 0)/\X.natAbs+Y.natAbs=(X+Y).natAbs:=by
 have h:=eq_of_beq h;rw [decide_eq_decide] at h;rw [decide_eq_decide];omega
theorem j5 {X Y:Int} (h:(decide (X < 0)==decide (Y < 0))=false):¬(X < 0↔Y < 0):=λe=>by
 rw [decide_eq_decide.2 e,beq_self_eq_true] at h;cases h
end Go.Num
namespace Go.Proofs
def uR:List PV->Option Ans
 |[.val v,.val u]=>some ⟨some (cZ 17179869184 v/\cZ 17179869184 u),.val (av (aG v+aG u)),[]⟩
 |_=>none
def D225:Opt:={ join:=d9 [2],perm:=nP [(1,[(0,true),(2,true),(1,false),(3,false)]),(3,[(0,true),(2,true),(1,false),(3,false)]),(5,rds 6++[(6,false)]),(10,rds 6++[(6,false)]),(11,rds 6++[(6,false)])] }
theorem Do:ak D225.toOrd Tryz.f225 2=true:=by kernel_rfl
theorem f225:FnOk Tryz.prog 225 uR:=by
 refine FnOk.ofW aj (am (l:=[(230,sn),(232,yt),(226,so),(245,yu),(231,wD),(246,yA)]) (own:=[]) (inl:=[]) (by simp [f230,f232,f226,f245,f231,f246]) (by simp)) Tryz.func225 D225 2 Do λargs r e=>?_;unfold uR at e;split at e
 ·rename_i v u
  cases e;refine⟨by simp,λhm=>?_⟩;obtain⟨⟨s,b,rfl,hb⟩,q,c,rfl,hc⟩:=hm _ rfl;refine⟨[],aa [(0,.val (.agg ⟨[.bool s,.string b]⟩)),(1,.val (.agg ⟨[.bool q,.string c]⟩))] [] 0 [],Wo trivial ⟨rfl,rfl,qQ⟩ trivial,?_⟩;have hXb:=bt b;have hYb:=bt c;have hX:(aw s (bv b)).natAbs=bv b:=aD _ _;have hY:(aw q (bv c)).natAbs=bv c:=aD _ _;have i1:ef (.agg ⟨[.bool s,.string b]⟩):=⟨_,_,rfl,by omega⟩;have i2:ef (.agg ⟨[.bool q,.string c]⟩):=⟨_,_,rfl,by omega⟩;have hxs:(ag (aw s (bv b)).natAbs).size<=b.size:=aX (by rw [hX];exact hXb);have hys:(ag (aw q (bv c)).natAbs).size<=c.size:=aX (by rw [hY];exact hYb);obtain⟨X,hXe⟩:∃X,X=aw s (bv b):=⟨_,rfl⟩;obtain⟨Y,hYe⟩:∃Y,Y=aw q (bv c):=⟨_,rfl⟩;have hrv:aG (.agg ⟨[.bool s,.string b]⟩)=X:=hXe.symm;have hru:aG (.agg ⟨[.bool q,.string c]⟩)=Y:=hYe.symm;rw [<-hXe] at hxs;rw [<-hYe] at hys;have z1:PV.val (.bool false)=PV.val (.bool (decide ((0:Int) < 0))):=rfl;have z2:PV.val (.string ⟨#[]⟩)=PV.val (.string (ag (0:Int).natAbs)):=by rw [show(0:Int).natAbs=0 from rfl,di]
  rw [hrv,hru];clear hX hY;with_unfolding_all refine⟨i1,i2,?_⟩
  rw [hrv,hru];clear hrv hru hXe hYe i1 i2 hXb hYb;have hrx:aG (.agg ⟨[.bool (decide (X < 0)),.string (ag X.natAbs)]⟩)=X:=aq X;have hry:aG (.agg ⟨[.bool (decide (Y < 0)),.string (ag Y.natAbs)]⟩)=Y:=aq Y;have hn7:∀Z:Int,(ag Z.natAbs).size < 8->Z.natAbs < 72057594037927936:=λZ hz=>by
   have h1:=bt (ag Z.natAbs);rw [aC] at h1;have h2:256^(ag Z.natAbs).size<=256^7:=Nat.pow_le_pow_right (by decide) (by omega);omega
  with_unfolding_all refine⟨Unit,λ_=>True,λ_=>aa [(2,.ptr 0 0 0 0),(3,.ptr 1 1 0 0),(4,.ptr 2 2 0 0)] [aU X 0,aU Y 1,aU 0 2] 3 [],⟨λh1=>⟨λh2=>⟨?_,?_,?_,?_⟩,λh2=>⟨(),[some 0,some 1,some 2],trivial,Wo ⟨qJ,qJ,qZ ⟨⟨z1,rfl⟩,⟨z2,rfl⟩,qQ⟩,qQ⟩ ⟨pP,pP,pP,qQ⟩ trivial⟩⟩,λh1=>⟨λh2=>(nomatch h2),λh2=>⟨(),[some 0,some 1,some 2],trivial,Wo ⟨qJ,qJ,qZ ⟨⟨z1,rfl⟩,⟨z2,rfl⟩,qQ⟩,qQ⟩ ⟨pP,pP,pP,qQ⟩ trivial⟩⟩⟩,λ_ _=>?_⟩
  ·have h1:=of_decide_eq_true h1;exact⟨_,_,rfl,by omega⟩
  ·have h2:=of_decide_eq_true h2;exact⟨_,_,rfl,by omega⟩
  ·have h1:=hn7 X (by have:=of_decide_eq_true h1;omega);have h2:=hn7 Y (by have:=of_decide_eq_true h2;omega);have key:∀x y:Int,x=X->y=Y->(IntKind.i64.wrap (x+y)).natAbs < 4611686018427387904:=λx y hx hy=>by
    rw [hx,hy,wrap64 (by omega) (by omega)];omega
   exact key _ _ hrx hry
  ·have h1:=hn7 X (by have:=of_decide_eq_true h1;omega);have h2:=hn7 Y (by have:=of_decide_eq_true h2;omega);have key:∀x y:Int,x=X->y=Y->IntKind.i64.wrap (x+y)=X+Y:=λx y hx hy=>by
    rw [hx,hy,wrap64 (by omega) (by omega)]
   have hw:=key _ _ hrx hry;with_unfolding_all refine⟨[some 2],aa [(4,.ptr 0 0 0 0)] [aU (X+Y) 0] 1 [],Wo ⟨qZ ⟨⟨congrArg (λz:Int=>PV.val (.bool (decide (z < 0)))) hw,rfl⟩,⟨congrArg (λz:Int=>PV.val (.string (ag z.natAbs))) hw,rfl⟩,qQ⟩,qQ⟩ ⟨pP,qQ⟩ trivial,rfl,rfl⟩
  ·with_unfolding_all refine⟨λh1=>⟨⟨by omega,by omega⟩,⟨[some 2],aa [(4,.ptr 0 0 0 0)] [aU (X+Y) 0] 1 [],Wo ⟨qZ ⟨⟨congrArg (λz=>PV.val (.bool z)) (tM h1).1,rfl⟩,⟨?_,rfl⟩,qQ⟩,qQ⟩ ⟨pP,qQ⟩ trivial,rfl,rfl⟩⟩,λh1=>⟨⟨cf _,cf _⟩,λh2=>⟨[some 2],aa [(4,.ptr 0 0 0 0)] [aU (X+Y) 0] 1 [],Wo ⟨qZ ⟨⟨?_,rfl⟩,⟨?_,rfl⟩,qQ⟩,qQ⟩ ⟨pP,qQ⟩ trivial,rfl,rfl⟩,λh2=>⟨λh3=>⟨⟨?_,by omega,by omega⟩,⟨[some 2],aa [(4,.ptr 0 0 0 0)] [aU (X+Y) 0] 1 [],Wo ⟨qZ ⟨⟨?_,rfl⟩,⟨?_,rfl⟩,qQ⟩,qQ⟩ ⟨pP,qQ⟩ trivial,rfl,rfl⟩⟩,λh3=>⟨⟨?_,by omega,by omega⟩,⟨[some 2],aa [(4,.ptr 0 0 0 0)] [aU (X+Y) 0] 1 [],Wo ⟨qZ ⟨⟨?_,rfl⟩,⟨?_,rfl⟩,qQ⟩,qQ⟩ ⟨pP,qQ⟩ trivial,rfl,rfl⟩⟩⟩⟩⟩
   ·show PV.val (.string (ag (bv (ag X.natAbs)+bv (ag Y.natAbs))))=PV.val (.string (ag (X+Y).natAbs));rw [aC,aC,(tM h1).2]
   ·have h4:=tL h2;have h5:=j5 h1;rw [aC,aC] at h4;show PV.val (.bool false)=PV.val (.bool (decide (X+Y < 0)));rw [decide_eq_false (by omega)]
   ·have h4:=tL h2;have h5:=j5 h1;rw [aC,aC] at h4;show PV.val (.string ⟨#[]⟩)=PV.val (.string (ag (X+Y).natAbs));rw [show(X+Y).natAbs=0 by omega,di]
   ·have h4:=sp h3;omega
   ·have h4:=sp h3;have h5:=j5 h1;rw [aC,aC] at h4;exact congrArg (λz=>PV.val (.bool z)) (decide_eq_decide.2 (by omega))
   ·have h4:=sp h3;have h5:=j5 h1;show PV.val (.string (ag (bv (ag X.natAbs) - bv (ag Y.natAbs))))=PV.val (.string (ag (X+Y).natAbs));rw [aC,aC] at *
    exact congrArg (λz=>PV.val (.string (ag z))) (by omega)
   ·exact ov h3
   ·have h4:=ov h3;have h5:=j5 h1;have h6:¬bv (ag X.natAbs)=bv (ag Y.natAbs):=λe=>by rw [e] at h2;simp [bU] at h2
    rw [aC,aC] at h4 h6;exact congrArg (λz=>PV.val (.bool z)) (decide_eq_decide.2 (by omega))
   ·have h4:=ov h3;have h5:=j5 h1;show PV.val (.string (ag (bv (ag Y.natAbs) - bv (ag X.natAbs))))=PV.val (.string (ag (X+Y).natAbs));rw [aC,aC] at *
    exact congrArg (λz=>PV.val (.string (ag z))) (by omega)
 ·cases e
end Go.Proofs
namespace Go.Num
theorem dg {n:Nat}:((ag n).toList==(⟨#[]⟩:ByteArray).toList)=decide (n=0):=by
 have h:=@numB_nil n;cases hc:((ag n).toList==(⟨#[]⟩:ByteArray).toList)
 ·rw [hc] at h;exact(decide_eq_false (of_decide_eq_true h.symm)).symm
 ·rw [hc] at h;have:=of_decide_eq_false h.symm;exact(decide_eq_true (by omega)).symm
theorem wI {Z:Int} (hz:(ag Z.natAbs).size < 8):Z.natAbs < 72057594037927936:=by
 have h1:=bt (ag Z.natAbs);rw [aC] at h1;have h2:256^(ag Z.natAbs).size<=256^7:=Nat.pow_le_pow_right (by decide) (by omega);omega
theorem br {z:Int} {k n:Nat} (h:z.natAbs < 256^k) (hk:k<=n):cZ n (av z):=⟨_,_,rfl,Nat.le_trans (aX h) hk⟩
end Go.Num
namespace Go.Proofs
def AW:List PV->Option Ans
 |[.val v,.val u]=>some ⟨some (cZ 17179869184 v/\cZ 17179869184 u),.val (av (aG v - aG u)),[]⟩
 |_=>none
def D251:Opt:={ perm:=iS 1 (rds 2++[(2,false)]) }
theorem Dp:ak D251.toOrd Tryz.f251 2=true:=by kernel_rfl
theorem f251:FnOk Tryz.prog 251 AW:=by
 refine FnOk.ofW aj (am (l:=[(227,wE),(225,uR)]) (own:=[]) (inl:=[]) (by simp [f227,f225]) (by simp)) Tryz.func251 D251 2 Dp λargs r e=>?_;unfold AW at e;split at e
 ·rename_i v u
  cases e;refine⟨by simp,λhm=>?_⟩;obtain⟨⟨s,b,rfl,hb⟩,q,c,rfl,hc⟩:=hm _ rfl;refine⟨[],aa [(0,.val (.agg ⟨[.bool s,.string b]⟩)),(1,.val (.agg ⟨[.bool q,.string c]⟩))] [] 0 [],Wo trivial ⟨rfl,rfl,qQ⟩ trivial,?_⟩;have hYb:=bt c;have hz:(-(aw q (bv c))).natAbs < 256^c.size:=by rw [Int.natAbs_neg,aD];exact hYb
  have hw:aw s (bv b)+aG (av (-(aw q (bv c))))=aw s (bv b) - aw q (bv c):=by rw [aq];omega
  with_unfolding_all refine⟨⟨_,_,rfl,by omega⟩,⟨⟨_,_,rfl,hb⟩,br hz hc⟩,[some 2],aa [(4,.ptr 0 0 0 0)] [aU (aw s (bv b) - aw q (bv c)) 0] 1 [],Wo ⟨qZ ⟨⟨congrArg (λz:Int=>PV.val (.bool (decide (z < 0)))) hw,rfl⟩,⟨congrArg (λz:Int=>PV.val (.string (ag z.natAbs))) hw,rfl⟩,qQ⟩,qQ⟩ ⟨pP,qQ⟩ trivial,rfl,rfl⟩
 ·cases e
def wJ:List PV->Option Ans
 |[.val v,.val u]=>some ⟨some (cZ 17179869184 v/\cZ 17179869184 u),.val (av (aG v*aG u)),[]⟩
 |_=>none
def D186:Opt:={ join:=d9 [2],perm:=nP [(1,[(0,true),(2,true),(1,false),(3,false)]),(5,[(0,true),(2,true),(1,false),(3,false)]),(6,rds 9++[(9,false)])] }
theorem Dq:ak D186.toOrd Tryz.f186 2=true:=by kernel_rfl
theorem f186:FnOk Tryz.prog 186 wJ:=by
 refine FnOk.ofW aj (am (l:=[(230,sn),(232,yt),(226,so),(233,AV)]) (own:=[]) (inl:=[]) (by simp [f230,f232,f226,f233]) (by simp)) Tryz.func186 D186 2 Dq λargs r e=>?_;unfold wJ at e;split at e
 ·rename_i v u
  cases e;refine⟨by simp,λhm=>?_⟩;obtain⟨⟨s,b,rfl,hb⟩,q,c,rfl,hc⟩:=hm _ rfl;refine⟨[],aa [(0,.val (.agg ⟨[.bool s,.string b]⟩)),(1,.val (.agg ⟨[.bool q,.string c]⟩))] [] 0 [],Wo trivial ⟨rfl,rfl,qQ⟩ trivial,?_⟩;have hXb:=bt b;have hYb:=bt c;have hX:(aw s (bv b)).natAbs=bv b:=aD _ _;have hY:(aw q (bv c)).natAbs=bv c:=aD _ _;have i1:ef (.agg ⟨[.bool s,.string b]⟩):=⟨_,_,rfl,by omega⟩;have i2:ef (.agg ⟨[.bool q,.string c]⟩):=⟨_,_,rfl,by omega⟩;have hxs:(ag (aw s (bv b)).natAbs).size<=b.size:=aX (by rw [hX];exact hXb);have hys:(ag (aw q (bv c)).natAbs).size<=c.size:=aX (by rw [hY];exact hYb);obtain⟨X,hXe⟩:∃X,X=aw s (bv b):=⟨_,rfl⟩;obtain⟨Y,hYe⟩:∃Y,Y=aw q (bv c):=⟨_,rfl⟩;have hrv:aG (.agg ⟨[.bool s,.string b]⟩)=X:=hXe.symm;have hru:aG (.agg ⟨[.bool q,.string c]⟩)=Y:=hYe.symm;rw [<-hXe] at hxs;rw [<-hYe] at hys;have z1:PV.val (.bool false)=PV.val (.bool (decide ((0:Int) < 0))):=rfl;have z2:PV.val (.string ⟨#[]⟩)=PV.val (.string (ag (0:Int).natAbs)):=by rw [show(0:Int).natAbs=0 from rfl,di]
  rw [hrv,hru];clear hX hY;with_unfolding_all refine⟨i1,i2,?_⟩
  rw [hrv,hru];clear hrv hru hXe hYe i1 i2 hXb hYb;have hrx:aG (.agg ⟨[.bool (decide (X < 0)),.string (ag X.natAbs)]⟩)=X:=aq X;have hry:aG (.agg ⟨[.bool (decide (Y < 0)),.string (ag Y.natAbs)]⟩)=Y:=aq Y;with_unfolding_all refine⟨Unit,λ_=>X≠0/\Y≠0,λ_=>aa [(2,.ptr 0 0 0 0),(3,.ptr 1 1 0 0),(4,.ptr 2 2 0 0)] [aU X 0,aU Y 1,aU 0 2] 3 [],?_,λ_ hxy=>?_⟩
  ·with_unfolding_all refine⟨λh1=>⟨λh2=>⟨[some 2],aa [(4,.ptr 0 0 0 0)] [aU (X*Y) 0] 1 [],Wo ⟨qZ ⟨⟨?_,rfl⟩,⟨?_,rfl⟩,qQ⟩,qQ⟩ ⟨pP,qQ⟩ trivial,rfl,rfl⟩,λh2=>⟨(),[some 0,some 1,some 2],?_,Wo ⟨qJ,qJ,qZ ⟨⟨z1,rfl⟩,⟨z2,rfl⟩,qQ⟩,qQ⟩ ⟨pP,pP,pP,qQ⟩ trivial⟩⟩,λh1=>⟨λh2=>⟨[some 2],aa [(4,.ptr 0 0 0 0)] [aU (X*Y) 0] 1 [],Wo ⟨qZ ⟨⟨?_,rfl⟩,⟨?_,rfl⟩,qQ⟩,qQ⟩ ⟨pP,qQ⟩ trivial,rfl,rfl⟩,λh2=>(nomatch h2)⟩⟩
   ·rw [dg] at h2;have h2:=of_decide_eq_true h2;have e:X*Y=0:=by rw [Int.natAbs_eq_zero.1 h2,Int.mul_zero]
    rw [e];rfl
   ·rw [dg] at h2;have h2:=of_decide_eq_true h2;have e:X*Y=0:=by rw [Int.natAbs_eq_zero.1 h2,Int.mul_zero]
    rw [e];exact z2
   ·rw [dg] at h1 h2;have h1:=of_decide_eq_false h1;have h2:=of_decide_eq_false h2;exact⟨by omega,by omega⟩
   ·have h1:((ag X.natAbs).toList==(⟨#[]⟩:ByteArray).toList)=true:=h1;rw [dg] at h1;have h1:=of_decide_eq_true h1;have e:X*Y=0:=by rw [Int.natAbs_eq_zero.1 h1,Int.zero_mul]
    rw [e];rfl
   ·have h1:((ag X.natAbs).toList==(⟨#[]⟩:ByteArray).toList)=true:=h1;rw [dg] at h1;have h1:=of_decide_eq_true h1;have e:X*Y=0:=by rw [Int.natAbs_eq_zero.1 h1,Int.zero_mul]
    rw [e];exact z2
  ·obtain⟨hx0,hy0⟩:X≠0/\Y≠0:=hxy;have wl:IntKind.i64.wrap (((ag X.natAbs).size:Int)+((ag Y.natAbs).size:Int))=(((ag X.natAbs).size+(ag Y.natAbs).size:Nat):Int):=by rw [wrap64 (by omega) (by omega)];rfl
   have hb1:=bt (ag X.natAbs);have hb2:=bt (ag Y.natAbs);rw [aC] at hb1 hb2;have hsm:(ag X.natAbs).size+(ag Y.natAbs).size < 8->(X*Y).natAbs < 72057594037927936:=λh=>by
    rw [Int.natAbs_mul];have h2:256^((ag X.natAbs).size+(ag Y.natAbs).size)<=256^7:=Nat.pow_le_pow_right (by decide) (by omega);have h3:=Nat.mul_lt_mul'' hb1 hb2;rw [<-Nat.pow_add] at h3;omega
   have key:(ag X.natAbs).size+(ag Y.natAbs).size < 8->∀x y:Int,x=X->y=Y->IntKind.i64.wrap (x*y)=X*Y:=λh x y hx hy=>by
    have:=hsm h;rw [hx,hy,wrap64 (by omega) (by omega)]
   have hlt:decide (IntKind.i64.wrap (((ag X.natAbs).size:Int)+((ag Y.natAbs).size:Int)) < 8)=true->(ag X.natAbs).size+(ag Y.natAbs).size < 8:=λh=>by
    have:=of_decide_eq_true h;omega
   with_unfolding_all refine⟨λh1=>⟨⟨_,_,rfl,?_⟩,⟨_,_,rfl,?_⟩,?_,[some 2],aa [(4,.ptr 0 0 0 0)] [aU (X*Y) 0] 1 [],Wo ⟨qZ ⟨⟨?_,rfl⟩,⟨?_,rfl⟩,qQ⟩,qQ⟩ ⟨pP,qQ⟩ trivial,rfl,rfl⟩,λh1=>⟨⟨by omega,by omega⟩,[some 2],aa [(4,.ptr 0 0 0 0)] [aU (X*Y) 0] 1 [],Wo ⟨qZ ⟨⟨?_,rfl⟩,⟨?_,rfl⟩,qQ⟩,qQ⟩ ⟨pP,qQ⟩ trivial,rfl,rfl⟩⟩
   ·have:=hlt h1;omega
   ·have:=hlt h1;omega
   ·have e:=key (hlt h1) _ _ hrx hry;have h2:=hsm (hlt h1);have k2:∀z:Int,z=X*Y->z.natAbs < 4611686018427387904:=λz hz=>by rw [hz];omega
    exact k2 _ e
   ·exact congrArg (λz:Int=>PV.val (.bool (decide (z < 0)))) (key (hlt h1) _ _ hrx hry)
   ·exact congrArg (λz:Int=>PV.val (.string (ag z.natAbs))) (key (hlt h1) _ _ hrx hry)
   ·show PV.val (.bool (!(decide (X < 0)==decide (Y < 0))))=PV.val (.bool (decide (X*Y < 0)));refine congrArg (λz=>PV.val (.bool z)) ?_;rcases Int.lt_or_gt_of_ne hx0 with hx|hx<;>rcases Int.lt_or_gt_of_ne hy0 with hy|hy
    ·have:=Int.mul_pos_of_neg_of_neg hx hy;rw [decide_eq_true hx,decide_eq_true hy,decide_eq_false (by omega)];rfl
    ·have:=Int.mul_neg_of_neg_of_pos hx hy;rw [decide_eq_true hx,decide_eq_false (by omega),decide_eq_true this];rfl
    ·have:=Int.mul_neg_of_pos_of_neg hx hy;rw [decide_eq_false (by omega),decide_eq_true hy,decide_eq_true this];rfl
    ·have:=Int.mul_pos hx hy;rw [decide_eq_false (by omega),decide_eq_false (by omega),decide_eq_false (by omega)];rfl
   ·show PV.val (.string (ag (bv (ag X.natAbs)*bv (ag Y.natAbs))))=PV.val (.string (ag (X*Y).natAbs));rw [aC,aC,Int.natAbs_mul]
 ·cases e
def AX:List PV->Option Ans
 |[.val v,.val u]=>some ⟨some ((cZ 8589934592 v/\cZ 8589934592 u)/\0 < aG u/\aG u∣aG v),.val (.tuple ⟨[av (aG v / aG u),av 0,.int .i64 0]⟩),[]⟩
 |_=>none
def D229:Opt:={ join:=d9 [5,10],all:=kI [(17,.alt 0 (.alt 1 (OT.seq [2,3,4] .nil) (OT.seq [2,1,3,4] .nil)) (OT.seq [1,0,2,3,4] .nil))],perm:=nP [(1,[(0,true),(2,true),(1,false),(3,false)]),(6,[(0,true),(1,true),(3,true),(4,true),(2,false),(5,false)]),(7,[(0,true),(1,true),(2,true),(4,true),(5,true),(6,true),(3,false),(7,false)]),(13,[(0,true),(1,false),(2,false)])] }
theorem Dr:ak D229.toOrd Tryz.f229 2=true:=by kernel_rfl
theorem f229:FnOk Tryz.prog 229 AX:=by
 refine FnOk.ofW aj (am (l:=[(230,sn),(250,wB),(226,so),(249,yD),(227,wE),(251,AW)]) (own:=[]) (inl:=[]) (by simp [f230,f250,f226,f249,f227,f251]) (by simp)) Tryz.func229 D229 2 Dr λargs r e=>?_;unfold AX at e;split at e
 ·rename_i v u
  cases e;refine⟨by simp,λhm=>?_⟩;obtain⟨⟨⟨s,b,rfl,hb⟩,q,c,rfl,hc⟩,hpos,hdvd⟩:=hm _ rfl;refine⟨[],aa [(0,.val (.agg ⟨[.bool s,.string b]⟩)),(1,.val (.agg ⟨[.bool q,.string c]⟩))] [] 0 [],Wo trivial ⟨rfl,rfl,qQ⟩ trivial,?_⟩;have hXb:=bt b;have hYb:=bt c;have hX:(aw s (bv b)).natAbs=bv b:=aD _ _;have hY:(aw q (bv c)).natAbs=bv c:=aD _ _;have i1:ef (.agg ⟨[.bool s,.string b]⟩):=⟨_,_,rfl,by omega⟩;have i2:ef (.agg ⟨[.bool q,.string c]⟩):=⟨_,_,rfl,by omega⟩;have hxs:(ag (aw s (bv b)).natAbs).size<=b.size:=aX (by rw [hX];exact hXb);have hys:(ag (aw q (bv c)).natAbs).size<=c.size:=aX (by rw [hY];exact hYb);obtain⟨X,hXe⟩:∃X,X=aw s (bv b):=⟨_,rfl⟩;obtain⟨Y,hYe⟩:∃Y,Y=aw q (bv c):=⟨_,rfl⟩;have hrv:aG (.agg ⟨[.bool s,.string b]⟩)=X:=hXe.symm;have hru:aG (.agg ⟨[.bool q,.string c]⟩)=Y:=hYe.symm;rw [<-hXe] at hxs;rw [<-hYe] at hys;have z1:PV.val (.bool false)=PV.val (.bool (decide ((0:Int) < 0))):=rfl;have z2:PV.val (.string ⟨#[]⟩)=PV.val (.string (ag (0:Int).natAbs)):=by rw [show(0:Int).natAbs=0 from rfl,di]
  rw [hru] at hpos;rw [hrv,hru] at hdvd;rw [hrv,hru];clear hX hY;with_unfolding_all refine⟨i1,i2,?_⟩
  rw [hrv,hru];clear hrv hru hXe hYe i1 i2 hXb hYb;have hrx:aG (.agg ⟨[.bool (decide (X < 0)),.string (ag X.natAbs)]⟩)=X:=aq X;have hry:aG (.agg ⟨[.bool (decide (Y < 0)),.string (ag Y.natAbs)]⟩)=Y:=aq Y;have hq:X / Y=if X < 0 then -((X.natAbs / Y.natAbs:Nat):Int) else((X.natAbs / Y.natAbs:Nat):Int):=by
   obtain⟨k,rfl⟩:=hdvd;have hk:(Y*k).natAbs / Y.natAbs=k.natAbs:=by rw [Int.natAbs_mul,Nat.mul_div_cancel_left _ (by omega)]
   rw [hk,Int.mul_ediv_cancel_left _ (by omega)];split
   ·rename_i h
    have:k < 0:=by
     rcases(by omega:k < 0\/0<=k) with h2|h2
     ·exact h2
     ·have:=Int.mul_nonneg (show 0<=Y by omega) h2;omega
    omega
   ·rename_i h
    have:0<=k:=by
     rcases(by omega:k < 0\/0<=k) with h2|h2
     ·have:=Int.mul_neg_of_pos_of_neg hpos h2;omega
     ·exact h2
    omega
  have hr:X.natAbs%Y.natAbs=0:=Nat.mod_eq_zero_of_dvd (Int.natAbs_dvd_natAbs.2 hdvd);have hbx:=bt (ag X.natAbs);have hby:=bt (ag Y.natAbs);have hY0:Y.natAbs≠0:=by omega
  have hqs:=Nat.div_le_self X.natAbs Y.natAbs;generalize hQe:X.natAbs / Y.natAbs=Q at *
  with_unfolding_all refine⟨λh1=>?_,λh1=>⟨Unit,λ_=>True,λ_=>aa [(2,.ptr 0 0 0 0),(3,.ptr 1 1 0 0),(4,.ptr 2 2 0 0),(5,.ptr 3 3 0 0),(7,.ptr 4 4 0 0),(8,.ptr 5 5 0 0)] [aU X 0,aU Y 1,aU 0 2,aU 0 3,aU (((Q:Nat):Int)) 4,aU 0 5] 6 [],?_,λ_ _=>⟨Unit,λ_=>True,λ_=>aa [(2,.ptr 0 0 0 0),(3,.ptr 1 1 0 0),(4,.ptr 2 2 0 0),(5,.ptr 3 3 0 0),(7,.ptr 4 4 0 0),(8,.ptr 5 5 0 0)] [aU X 0,aU Y 1,aU 0 2,aU 0 3,aU (X / Y) 4,aU 0 5] 6 [],?_,λ_ _=>?_⟩⟩⟩
  ·rw [dg] at h1;have h1:=of_decide_eq_true h1;omega
  ·have hn1:((bv (ag Y.natAbs):Nat):Int)≠0:=by rw [aC];omega
   have ht1:(((bv (ag X.natAbs):Nat):Int).tdiv ((bv (ag Y.natAbs):Nat):Int))=((Q:Nat):Int):=by rw [aC,aC,<-hQe];rfl
   have ht2:(((bv (ag X.natAbs):Nat):Int).tmod ((bv (ag Y.natAbs):Nat):Int))=0:=by
    rw [aC,aC];show((X.natAbs%Y.natAbs:Nat):Int)=0;rw [hr];rfl
   have hw1:(ag X.natAbs).size < 8->IntKind.i64.wrap (((bv (ag X.natAbs):Nat):Int).tdiv ((bv (ag Y.natAbs):Nat):Int))=((Q:Nat):Int):=λh=>by
    have:=wI h;rw [ht1,wrap64 (by omega) (by omega)]
   have hw2:=ht2;have hn2:(ag X.natAbs).size < 8->(IntKind.i64.wrap (((bv (ag X.natAbs):Nat):Int).tdiv ((bv (ag Y.natAbs):Nat):Int))).natAbs < 4611686018427387904:=λh=>by
    have:=wI h;rw [hw1 h];omega
   have hn3:((((bv (ag X.natAbs):Nat):Int).tmod ((bv (ag Y.natAbs):Nat):Int))).natAbs < 4611686018427387904:=by rw [ht2];decide
   have hz1:PV.val (.bool false)=PV.val (.bool (decide (((Q:Nat):Int) < 0))):=by rw [decide_eq_false (by omega)]
   have hz2:PV.val (.string (ag (bv (ag X.natAbs) / bv (ag Y.natAbs))))=PV.val (.string (ag (((Q:Nat):Int)).natAbs)):=by rw [aC,aC,hQe];rfl
   have hz3:PV.val (.string (ag (bv (ag X.natAbs)%bv (ag Y.natAbs))))=PV.val (.string (ag (0:Int).natAbs)):=by rw [aC,aC,hr];rfl
   with_unfolding_all refine⟨λh1=>⟨λh2=>?_,λh2=>⟨⟨⟨cf _,by rw [aC];exact hY0⟩,by omega,by omega⟩,⟨(),[some 0,some 1,some 2,some 3,some 4,some 5],trivial,Wo ⟨qJ,qJ,qZ ⟨⟨z1,rfl⟩,⟨z2,rfl⟩,qQ⟩,qZ ⟨⟨z1,rfl⟩,⟨z2,rfl⟩,qQ⟩,qZ ⟨⟨hz1,rfl⟩,⟨hz2,rfl⟩,qQ⟩,qZ ⟨⟨z1,rfl⟩,⟨hz3,rfl⟩,qQ⟩,qQ⟩ ⟨pP,pP,pP,pP,pP,pP,qQ⟩ trivial⟩⟩⟩,λh1=>⟨λh2=>(nomatch h2),λh2=>⟨⟨⟨cf _,by rw [aC];exact hY0⟩,by omega,by omega⟩,⟨(),[some 0,some 1,some 2,some 3,some 4,some 5],trivial,Wo ⟨qJ,qJ,qZ ⟨⟨z1,rfl⟩,⟨z2,rfl⟩,qQ⟩,qZ ⟨⟨z1,rfl⟩,⟨z2,rfl⟩,qQ⟩,qZ ⟨⟨hz1,rfl⟩,⟨hz2,rfl⟩,qQ⟩,qZ ⟨⟨z1,rfl⟩,⟨hz3,rfl⟩,qQ⟩,qQ⟩ ⟨pP,pP,pP,pP,pP,pP,qQ⟩ trivial⟩⟩⟩⟩
   have h1:(ag X.natAbs).size < 8:=by have:=of_decide_eq_true h1;omega
   have h2:(ag Y.natAbs).size < 8:=by have:=of_decide_eq_true h2;omega
   have hw1:=hw1 h1;have hn2:=hn2 h1;with_unfolding_all exact⟨by omega,by omega,hn1,hn1,hn2,hn3,⟨(),[some 0,some 1,some 2,some 3,some 4,some 5],trivial,Wo ⟨qJ,qJ,qZ ⟨⟨z1,rfl⟩,⟨z2,rfl⟩,qQ⟩,qZ ⟨⟨z1,rfl⟩,⟨z2,rfl⟩,qQ⟩,qZ ⟨⟨congrArg (λz:Int=>PV.val (.bool (decide (z < 0)))) hw1,rfl⟩,⟨congrArg (λz:Int=>PV.val (.string (ag z.natAbs))) hw1,rfl⟩,qQ⟩,qZ ⟨⟨congrArg (λz:Int=>PV.val (.bool (decide (z < 0)))) hw2,rfl⟩,⟨congrArg (λz:Int=>PV.val (.string (ag z.natAbs))) hw2,rfl⟩,qQ⟩,qQ⟩ ⟨pP,pP,pP,pP,pP,pP,qQ⟩ trivial⟩⟩
  ·have hY1:decide (Y < 0)=false:=decide_eq_false (by omega);with_unfolding_all refine⟨λh1=>⟨?_,⟨λh2=>?_,λh2=>⟨(),[some 0,some 1,some 2,some 3,some 4,some 5],trivial,Wo ⟨qJ,qJ,qZ ⟨⟨z1,rfl⟩,⟨z2,rfl⟩,qQ⟩,qZ ⟨⟨z1,rfl⟩,⟨z2,rfl⟩,qQ⟩,qZ ⟨⟨?_,rfl⟩,⟨?_,rfl⟩,qQ⟩,qZ ⟨⟨z1,rfl⟩,⟨z2,rfl⟩,qQ⟩,qQ⟩ ⟨pP,pP,pP,pP,pP,pP,qQ⟩ trivial⟩⟩⟩,λh1=>⟨(),[some 0,some 1,some 2,some 3,some 4,some 5],trivial,Wo ⟨qJ,qJ,qZ ⟨⟨z1,rfl⟩,⟨z2,rfl⟩,qQ⟩,qZ ⟨⟨z1,rfl⟩,⟨z2,rfl⟩,qQ⟩,qZ ⟨⟨?_,rfl⟩,⟨?_,rfl⟩,qQ⟩,qZ ⟨⟨z1,rfl⟩,⟨z2,rfl⟩,qQ⟩,qQ⟩ ⟨pP,pP,pP,pP,pP,pP,qQ⟩ trivial⟩⟩
   ·exact⟨_,_,rfl,by show(ag Q).size<=_;exact Nat.le_trans (aX (k:=(ag X.natAbs).size) (by rw [aC] at hbx;omega)) (by omega)⟩
   ·exact absurd h2 (by rw [show((!((ag (Int.natAbs 0)).toList==(⟨#[]⟩:ByteArray).toList))=decide ((0:Nat)≠0)) from numB_nil];decide)
   ·show PV.val (.bool (decide (-(aG (av ((Q:Nat):Int))) < 0)))=PV.val (.bool (decide (X / Y < 0)));rw [hY1] at h1;have h3:X < 0:=by simpa using h1
    rw [aq,hq,if_pos h3]
   ·show PV.val (.string (ag (-(aG (av ((Q:Nat):Int)))).natAbs))=PV.val (.string (ag (X / Y).natAbs));rw [hY1] at h1;have h3:X < 0:=by simpa using h1
    rw [aq,hq,if_pos h3]
   ·show PV.val (.bool (decide (((Q:Nat):Int) < 0)))=PV.val (.bool (decide (X / Y < 0)));rw [hY1] at h1;have h3:¬X < 0:=by simpa using h1
    rw [hq,if_neg h3]
   ·show PV.val (.string (ag (((Q:Nat):Int)).natAbs))=PV.val (.string (ag (X / Y).natAbs));rw [hY1] at h1;have h3:¬X < 0:=by simpa using h1
    rw [hq,if_neg h3]
  ·have hY1:decide (Y < 0)=false:=decide_eq_false (by omega);with_unfolding_all refine⟨λh1=>?_,λh1=>⟨⟨⟨[some 2,some 3],aa [(4,.ptr 0 0 0 0),(5,.ptr 1 1 0 0),(6,.val (.int .i64 0))] [aU (X / Y) 0,aU 0 1] 2 [],Wo ⟨qJ,qZ ⟨⟨z1,rfl⟩,⟨z2,rfl⟩,qQ⟩,qQ⟩ ⟨pP,pP,rfl,qQ⟩ trivial,rfl,rfl⟩,[some 2,some 3],aa [(4,.ptr 0 0 0 0),(5,.ptr 1 1 0 0),(6,.val (.int .i64 0))] [aU (X / Y) 0,aU 0 1] 2 [],Wo ⟨qJ,qZ ⟨⟨z1,rfl⟩,⟨z2,rfl⟩,qQ⟩,qQ⟩ ⟨pP,pP,rfl,qQ⟩ trivial,rfl,rfl⟩,[some 2,some 3],aa [(4,.ptr 0 0 0 0),(5,.ptr 1 1 0 0),(6,.val (.int .i64 0))] [aU (X / Y) 0,aU 0 1] 2 [],Wo ⟨qJ,qZ ⟨⟨z1,rfl⟩,⟨z2,rfl⟩,qQ⟩,qQ⟩ ⟨pP,pP,rfl,qQ⟩ trivial,rfl,rfl⟩⟩
   rw [hY1] at h1;cases h1
 ·cases e
def AY:List PV->Option Ans
 |[.val v,.val u]=>some ⟨some (cZ 8589934592 v/\cZ 8589934592 u),.val (av (Nat.gcd (aG v).natAbs (aG u).natAbs)),[]⟩
 |_=>none
def D228:Opt:={ join:=λc=>match c with | .block 0 _=>true|_=>false,perm:=nP [(1,[(0,true),(1,true),(3,true),(4,true),(2,false),(5,false)])] }
theorem Ds:ak D228.toOrd Tryz.f228 2=true:=by kernel_rfl
theorem f228:FnOk Tryz.prog 228 AY:=by
 refine FnOk.ofW aj (am (l:=[(248,p5),(250,wB),(226,so),(249,yD)]) (own:=[]) (inl:=[]) (by simp [f248,f250,f226,f249]) (by simp)) Tryz.func228 D228 2 Ds λargs r e=>?_;unfold AY at e;split at e
 ·rename_i v u
  cases e;refine⟨by simp,λhm=>?_⟩;obtain⟨⟨s,b,rfl,hb⟩,q,c,rfl,hc⟩:=hm _ rfl;refine⟨[],aa [(0,.val (.agg ⟨[.bool s,.string b]⟩)),(1,.val (.agg ⟨[.bool q,.string c]⟩))] [] 0 [],Wo trivial ⟨rfl,rfl,qQ⟩ trivial,?_⟩;have hXb:=bt b;have hYb:=bt c;have hX:(aw s (bv b)).natAbs=bv b:=aD _ _;have hY:(aw q (bv c)).natAbs=bv c:=aD _ _;have hxs:(ag (bv b)).size<=b.size:=aX hXb;have hys:(ag (bv c)).size<=c.size:=aX hYb;have hG:((Nat.gcd (aG (.agg ⟨[.bool s,.string b]⟩)).natAbs (aG (.agg ⟨[.bool q,.string c]⟩)).natAbs:Nat):Int)=((Nat.gcd (bv b) (bv c):Nat):Int):=by
   show((Nat.gcd (aw s (bv b)).natAbs (aw q (bv c)).natAbs:Nat):Int)=_;rw [hX,hY]
  rw [hG];generalize hGe:Nat.gcd (bv b) (bv c)=G;have z2:PV.val (.string ⟨#[]⟩)=PV.val (.string (ag (0:Int).natAbs)):=by rw [show(0:Int).natAbs=0 from rfl,di]
  have hs7:∀x:Nat,(ag x).size<=7->x < 72057594037927936:=λx h=>by
   have:=@wI (x:Int) (by show(ag x).size < 8;omega);omega
  with_unfolding_all refine⟨Nat×Nat,λp=>Nat.gcd p.1 p.2=G/\(ag p.1).size<=8589934592/\(ag p.2).size<=8589934592/\(p.2=0\/(ag p.1).size<=7/\(ag p.2).size<=7),λp=>aa [(4,.ptr 0 0 0 0),(5,.val (.string (ag p.1))),(6,.val (.string (ag p.2)))] [aU 0 0] 1 [],⟨Nat×Nat,λp=>Nat.gcd p.1 p.2=G/\(ag p.1).size<=8589934592/\(ag p.2).size<=8589934592,λp=>aa [(4,.ptr 0 0 0 0),(5,.val (.string (ag p.1))),(6,.val (.string (ag p.2)))] [aU 0 0] 1 [],λp=>p.2,⟨(bv b,bv c),[some 2],⟨hGe,by show(ag (bv b)).size<=_;omega,by show(ag (bv c)).size<=_;omega⟩,Wo ⟨qZ ⟨rq,⟨z2,rfl⟩,qQ⟩,qQ⟩ ⟨pP,rfl,rfl,qQ⟩ trivial⟩,λp hp=>?_⟩,λp hp=>?_⟩
  ·obtain⟨x,y⟩:=p;obtain⟨h1,h2,h3⟩:Nat.gcd x y=G/\(ag x).size<=8589934592/\(ag y).size<=8589934592:=hp;have hne:(!((ag y).toList==(⟨#[]⟩:ByteArray).toList))=true->y≠0:=λh=>by
    rw [numB_nil] at h;exact of_decide_eq_true h
   have hm:y≠0->x%y < y:=λh=>Nat.mod_lt _ (by omega);have hgcd:Nat.gcd y (x%y)=G:=by rw [<-h1,Nat.gcd_comm x y,Nat.gcd_rec y x,Nat.gcd_comm]
   have hsz:y≠0->(ag (x%y)).size<=8589934592:=λh=>by
    refine Nat.le_trans (aX (k:=(ag y).size) ?_) h3;have:=bt (ag y);rw [aC] at this;have:=hm h;omega
   have hv:PV.val (.string (ag (bv (ag x)%bv (ag y))))=PV.val (.string (ag (x%y))):=by rw [aC,aC]
   with_unfolding_all refine⟨λe1=>⟨λe2=>⟨λe3=>⟨⟨⟨cf _,by rw [aC];exact hne e1⟩,h2,h3⟩,(y,x%y),[some 0],⟨hgcd,h3,hsz (hne e1)⟩,hm (hne e1),Wo ⟨qJ,qQ⟩ ⟨pP,rfl,hv,qQ⟩ trivial⟩,λe3=>⟨(x,y),[some 0],⟨h1,h2,h3,?_⟩,Wo ⟨qJ,qQ⟩ ⟨pP,rfl,rfl,qQ⟩ trivial⟩⟩,λe2=>⟨λe3=>⟨⟨⟨cf _,by rw [aC];exact hne e1⟩,h2,h3⟩,(y,x%y),[some 0],⟨hgcd,h3,hsz (hne e1)⟩,hm (hne e1),Wo ⟨qJ,qQ⟩ ⟨pP,rfl,hv,qQ⟩ trivial⟩,λe3=>(nomatch e3)⟩⟩,λe1=>⟨λe2=>(nomatch e2),λe2=>⟨(x,y),[some 0],⟨h1,h2,h3,?_⟩,Wo ⟨qJ,qQ⟩ ⟨pP,rfl,rfl,qQ⟩ trivial⟩⟩⟩
   ·have e2:=of_decide_eq_false e2;have e3:=of_decide_eq_false e3;have e2:¬((ag x).size:Int) > 7:=e2;have e3:¬((ag y).size:Int) > 7:=e3;exact Or.inr ⟨by show(ag x).size<=7;omega,by show(ag y).size<=7;omega⟩
   ·have e1:(!((ag y).toList==(⟨#[]⟩:ByteArray).toList))=false:=e1;rw [numB_nil] at e1;have:=of_decide_eq_false e1;exact Or.inl (by show y=0;omega)
  ·obtain⟨x,y⟩:=p;obtain⟨h1,h2,h3,h4⟩:Nat.gcd x y=G/\(ag x).size<=8589934592/\(ag y).size<=8589934592/\(y=0\/(ag x).size<=7/\(ag y).size<=7):=hp;have hne:((ag y).toList==(⟨#[]⟩:ByteArray).toList)=false->y≠0:=λh=>by
    rw [dg] at h;exact of_decide_eq_false h
   have h7:((ag y).toList==(⟨#[]⟩:ByteArray).toList)=false->(ag x).size<=7/\(ag y).size<=7:=λh=>h4.resolve_left (hne h);with_unfolding_all refine⟨λe1=>⟨[some 0],aa [(4,.ptr 0 0 0 0)] [aU ((G:Nat):Int) 0] 1 [],Wo ⟨qZ ⟨⟨?_,rfl⟩,⟨?_,rfl⟩,qQ⟩,qQ⟩ ⟨pP,qQ⟩ trivial,rfl,rfl⟩,λe1=>⟨(h7 e1).1,(h7 e1).2,Nat×Nat,λp=>Nat.gcd p.1 p.2=G/\p.1 < 72057594037927936/\p.2 < 72057594037927936,λp=>aa [(4,.ptr 0 0 0 0),(9,.val (.int .i64 (p.1:Nat))),(10,.val (.int .i64 (p.2:Nat)))] [aU 0 0] 1 [],λp=>p.2,⟨(x,y),[some 0],⟨h1,hs7 _ (h7 e1).1,hs7 _ (h7 e1).2⟩,Wo ⟨qJ,qQ⟩ ⟨pP,?_,?_,qQ⟩ trivial⟩,λp hp=>?_⟩⟩
   ·show PV.val (.bool false)=PV.val (.bool (decide (((G:Nat):Int) < 0)));rw [decide_eq_false (by omega)]
   ·show PV.val (.string (ag x))=PV.val (.string (ag G));rw [dg] at e1;have e1:y=0:=of_decide_eq_true e1;rw [<-h1,e1,Nat.gcd_zero_right]
   ·exact congrArg (λn:Nat=>PV.val (.int .i64 n)) (aC x)
   ·exact congrArg (λn:Nat=>PV.val (.int .i64 n)) (aC y)
   ·obtain⟨m,n⟩:=p;obtain⟨g1,g2,g3⟩:Nat.gcd m n=G/\m < 72057594037927936/\n < 72057594037927936:=hp;with_unfolding_all refine⟨λe2=>?_,λe2=>⟨by show m < 4611686018427387904;omega,[some 0],aa [(4,.ptr 0 0 0 0)] [aU ((G:Nat):Int) 0] 1 [],Wo ⟨qZ ⟨⟨?_,rfl⟩,⟨?_,rfl⟩,qQ⟩,qQ⟩ ⟨pP,qQ⟩ trivial,rfl,rfl⟩⟩
    ·have e2:=of_decide_eq_true e2;have e3:0 < n:=by omega
     with_unfolding_all refine⟨by omega,(n,m%n),[some 0],⟨?_,g3,?_⟩,Nat.mod_lt _ e3,Wo ⟨qJ,qQ⟩ ⟨pP,rfl,rfl,qQ⟩ trivial⟩
     ·show Nat.gcd n (m%n)=G;rw [<-g1,Nat.gcd_comm m n,Nat.gcd_rec n m,Nat.gcd_comm]
     ·have:=Nat.mod_lt m e3;show m%n < _;omega
    ·show PV.val (.bool (decide (((m:Nat):Int) < 0)))=PV.val (.bool (decide (((G:Nat):Int) < 0)));rw [decide_eq_false (by omega),decide_eq_false (by omega)]
    ·show PV.val (.string (ag m))=PV.val (.string (ag G));have e2:=of_decide_eq_false e2;have e3:n=0:=by omega
     rw [<-g1,e3,Nat.gcd_zero_right]
 ·cases e
def AZ:List PV->Option Ans
 |[.val (.string b)]=>some ⟨some (b.size<=7),.val (.int .i64 (bv b:Nat)),[]⟩
 |_=>none
theorem Dt:ak {} Tryz.f223 1=true:=by kernel_rfl
theorem f223:FnOk Tryz.prog 223 AZ:=by
 refine FnOk.ofW aj (am (l:=[]) (own:=[]) (inl:=[]) (by simp) (by simp)) Tryz.func223 {} 1 Dt λargs r e=>?_;unfold AZ at e;split at e
 ·rename_i b
  cases e;refine⟨by simp,λhm=>?_⟩;have h:b.size<=7:=hm _ rfl;refine⟨[],aa [(0,.val (.string b))] [] 0 [],Wo trivial ⟨rfl,qQ⟩ trivial,?_⟩;with_unfolding_all refine⟨Nat,λi=>i<=b.size,λi=>aa [(0,.val (.string b)),(3,.val (.int .i64 (cO (b.data.toList.take i):Nat))),(4,.val (goInt i))] [] 0 [],λi=>b.size - i,⟨0,[],Nat.zero_le _,Wo trivial ⟨rfl,rfl,rfl,qQ⟩ trivial⟩,λi hi=>?_⟩
  replace hi:i<=b.size:=hi;have hlt:=bJ b i h;with_unfolding_all refine⟨λh1=>?_,λh1=>?_⟩
  ·have h1:i < b.size:=by have:=bx h1;omega
   have hx:(b.data.toList[i]?.getD 0).toNat < 256:=UInt8.toNat_lt _;have hn:=fh b h1;have hn7:=bJ b (i+1) h;with_unfolding_all refine⟨⟨by omega,by omega⟩,i+1,[],h1,by show b.size - (i+1) < b.size - i;omega,Wo trivial ⟨rfl,?_,?_,qQ⟩ trivial⟩
   ·have key:∀k:Nat,k=i->PV.val (.int .i64 (IntKind.i64.wrap (IntKind.i64.wrap (256*((cO (b.data.toList.take i):Nat):Int))+IntKind.i64.wrap (((b.data.toList[k]?.getD 0).toNat:Nat):Int))))=PV.val (.int .i64 (cO (b.data.toList.take (i+1)):Nat)):=λk hk=>by
     rw [hk,wrap64 (x:=256*((cO (b.data.toList.take i):Nat):Int)) (by omega) (by omega),wrap64 (x:=(((b.data.toList[i]?.getD 0).toNat:Nat):Int)) (by omega) (by omega),wrap64 (by omega) (by omega),hn];exact congrArg (λx=>PV.val (.int .i64 x)) (by omega)
    exact key _ (Int.toNat_natCast i)
   ·refine congrArg (λx=>PV.val (.int .i64 x)) (?_:IntKind.i64.wrap ((i:Int)+1)=((i+1:Nat):Int));rw [wrap64 (by omega) (by omega)];rfl
  ·have h1:i=b.size:=by have:=dU h1;omega
   have he:b.data.toList.take i=b.data.toList:=by rw [h1,List.take_of_length_le (by rw [<-a7];omega)]
   rw [he] at hlt ⊢;with_unfolding_all exact⟨[],aa [(2,.val (.int .i64 (bv b:Nat)))] [] 0 [],Wo trivial ⟨rfl,qQ⟩ trivial,rfl,rfl⟩
 ·cases e
def A0:List PV->Option Ans
 |[.val (.int .i64 z)]=>some ⟨some (0<=z/\z < 72057594037927936),.val (.string (ag z.toNat)),[]⟩
 |_=>none
theorem Du:ak {} Tryz.f224 1=true:=by kernel_rfl
theorem f224:FnOk Tryz.prog 224 A0:=by
 refine FnOk.ofW aj (am (l:=[]) (own:=[]) (inl:=[]) (by simp) (by simp)) Tryz.func224 {} 1 Du λargs r e=>?_;unfold A0 at e;split at e
 ·rename_i z
  cases e;refine⟨by simp,λhm=>?_⟩;obtain⟨hz,hz2⟩:=hm _ rfl;obtain⟨N,rfl⟩:∃N:Nat,z=(N:Int):=⟨z.toNat,by omega⟩;rw [Int.toNat_natCast];refine⟨[],aa [(0,.val (.int .i64 (N:Nat)))] [] 0 [],Wo trivial ⟨rfl,qQ⟩ trivial,?_⟩;with_unfolding_all refine⟨Nat ⊕ (Nat×Nat),λ| .inl j=>j<=7/\N / 256^(7 - j)=0 | .inr (j,k)=>j<=7/\0 < k/\k<=8/\256^(k - 1)<=N / 256^(7 - j)/\N / 256^(7 - j) < 256^k,
   λ| .inl j=>aa [(0,.val (.int .i64 (N:Nat))),(3,.val (.slice none 0 0)),(4,.val (.int .i64 (48 - 8*(j:Int))))] [] 0 [] | .inr (j,k)=>aa [(0,.val (.int .i64 (N:Nat))),(3,.sl 0 0 0 k),(4,.val (.int .i64 (48 - 8*(j:Int))))] [⟨5,1,0,false,false,k,aZ (N / 256^(7 - j)) k⟩] 1 [],
   λ| .inl j=>7 - j | .inr (j,k)=>7 - j,⟨.inl 0,[],⟨Nat.zero_le _,?_⟩,Wo trivial ⟨rfl,rfl,rfl,qQ⟩ trivial⟩,λx hx=>?_⟩
  ·exact Nat.div_eq_of_lt (show N < 72057594037927936 by omega)
  ·have hsh:∀j:Nat,j<=6->(N:Int) / 2^min (48 - 8*(j:Int)).toNat IntKind.i64.bits=((N / 256^(6 - j):Nat):Int):=λj hj=>by
    rw [show min (48 - 8*(j:Int)).toNat IntKind.i64.bits=8*(6 - j) by show min (48 - 8*(j:Int)).toNat 64=_;omega];have e:(2:Int)^(8*(6 - j))=((256^(6 - j):Nat):Int):=by rw [show(256:Nat)=2^8 from rfl,<-Nat.pow_mul];simp
    rw [e];rfl
   rcases x with j|⟨j,k⟩
   ·obtain⟨hj,hz0⟩:j<=7/\N / 256^(7 - j)=0:=hx;with_unfolding_all refine⟨λh1=>?_,λh1=>?_⟩
    ·have h1:=of_decide_eq_true h1;have hj6:j<=6:=by omega
     have hw:(N:Int) / 2^min (48 - 8*(j:Int)).toNat IntKind.i64.bits=((N / 256^(6 - j):Nat):Int):=hsh j hj6;have hZ:N / 256^(7 - j)=N / 256^(6 - j) / 256:=by rw [show 7 - j=6 - j+1 by omega,Nat.pow_succ,Nat.div_div_eq_div_mul]
     have hZe:N / 256^(7 - (j+1))=N / 256^(6 - j):=by rw [show 7 - (j+1)=6 - j by omega]
     have wj:IntKind.i64.wrap (48 - 8*(j:Int) - 8)=48 - 8*((j+1:Nat):Int):=by rw [wrap64 (by omega) (by omega)];omega
     have hd:decide (((N:Int) / 2^min (48 - 8*(j:Int)).toNat IntKind.i64.bits).tmod 256 > 0)=decide (0 < N / 256^(6 - j)%256):=by
      rw [hw];show decide (((N / 256^(6 - j)%256:Nat):Int) > 0)=_;rw [decide_eq_decide];generalize N / 256^(6 - j)%256=d;omega
     rw [hZ] at hz0;have hj7:j+1<=7:=by omega
     have kb:aZ (N / 256^(7 - (j+1))) 1 0=[PV.val (.int .u8 (IntKind.u8.wrap ((N:Int) / 2^min (48 - 8*(j:Int)).toNat IntKind.i64.bits)))]:=by
      rw [hZe,hw,ck];simp [aZ]
     have hl:N / 256^(6 - j) < 256^1:=by generalize N / 256^(6 - j)=Z at *;omega
     with_unfolding_all refine⟨by omega,by decide,λh2=>⟨λh3=>(nomatch h3),λh3=>⟨.inl (j+1),[],⟨?_,?_⟩,?_,Wo trivial ⟨rfl,rfl,congrArg (λx=>PV.val (.int .i64 x)) wj,qQ⟩ trivial⟩⟩,λh2=>⟨λh3=>⟨by omega,⟨by show 1*1<=140737488355328;decide,by show 1<=9223372036854775807;decide⟩,⟨.inr (j+1,1),[some 1],⟨?_,?_,?_,?_,?_⟩,?_,Wo ⟨qZ (λi hi=>?_),qQ⟩ ⟨rfl,pP,congrArg (λx=>PV.val (.int .i64 x)) wj,qQ⟩ trivial⟩⟩,λh3=>(nomatch h3)⟩⟩
     ·exact hj7
     ·rw [hd] at h2;have h2:=of_decide_eq_false h2;rw [hZe];generalize N / 256^(6 - j)=Z at *
      omega
     ·show 7 - (j+1) < 7 - j;omega
     ·exact hj7
     ·decide
     ·decide
     ·rw [hd] at h2;have h2:=of_decide_eq_true h2;rw [hZe];generalize N / 256^(6 - j)=Z at *
      show 256^0<=Z;omega
     ·rw [hZe];exact hl
     ·show 7 - (j+1) < 7 - j;omega
     ·have hi:i < 1:=hi;obtain rfl:i=0:=by omega
      exact kb
    ·have h1:=of_decide_eq_false h1;obtain rfl:j=7:=by omega
     have hN0:N=0:=by simpa using hz0
     subst hN0;with_unfolding_all refine⟨λi hi=>absurd hi (Nat.not_lt_zero _),[],aa [(2,.val (.string (ag 0)))] [] 0 [],Wo trivial ⟨?_,qQ⟩ trivial,rfl,rfl⟩
     rw [di];rfl
   ·obtain⟨hj,hk0,hk8,hlo,hhi⟩:j<=7/\0 < k/\k<=8/\256^(k - 1)<=N / 256^(7 - j)/\N / 256^(7 - j) < 256^k:=hx;with_unfolding_all refine⟨λh1=>?_,λh1=>?_⟩
    ·have h1:=of_decide_eq_true h1;have hj6:j<=6:=by omega
     have hw:(N:Int) / 2^min (48 - 8*(j:Int)).toNat IntKind.i64.bits=((N / 256^(6 - j):Nat):Int):=hsh j hj6;have hZ:N / 256^(7 - j)=N / 256^(6 - j) / 256:=by rw [show 7 - j=6 - j+1 by omega,Nat.pow_succ,Nat.div_div_eq_div_mul]
     have hZe:N / 256^(7 - (j+1))=N / 256^(6 - j):=by rw [show 7 - (j+1)=6 - j by omega]
     have wj:IntKind.i64.wrap (48 - 8*(j:Int) - 8)=48 - 8*((j+1:Nat):Int):=by rw [wrap64 (by omega) (by omega)];omega
     have hj7:j+1<=7:=by omega
     have hlo':256^(k+1 - 1)<=N / 256^(6 - j):=by
      rw [hZ] at hlo;have:=(Nat.le_div_iff_mul_le (show 0 < 256 by decide)).1 hlo
      rwa [<-Nat.pow_succ,show(k - 1).succ=k+1 - 1 by omega] at this
     have hhi':N / 256^(6 - j) < 256^(k+1):=by
      rw [hZ] at hhi;rw [Nat.pow_succ];exact(Nat.div_lt_iff_lt_mul (by decide)).1 hhi
     have hk7:k+1<=8:=by
      rcases Nat.lt_or_ge k 8 with h|h
      ·exact h
      ·obtain rfl:k=8:=by omega
       have h4:N / 256^(6 - j)<=N:=Nat.div_le_self _ _;have:(256:Nat)^(8+1 - 1)=18446744073709551616:=by decide
       omega
     have kb:∀i,i < k+1->aZ (N / 256^(7 - (j+1))) (k+1) i=if i < k then aZ (N / 256^(7 - j)) k i else [PV.val (.int .u8 (IntKind.u8.wrap ((N:Int) / 2^min (48 - 8*(j:Int)).toNat IntKind.i64.bits)))]:=λi hi=>by
      rw [hZe,hw,ck,hZ];simp only [aZ];split
      ·rename_i h
       rw [Nat.div_div_eq_div_mul _ 256,<-Nat.pow_succ',show(k - 1 - i).succ=k+1 - 1 - i by omega]
      ·rename_i h
       rw [show k+1 - 1 - i=0 by omega,Nat.pow_zero,Nat.div_one];rfl
     have kc:∀i,i < k+1->∀h:Nat->List PV,h 0=[PV.val (.int .u8 (IntKind.u8.wrap ((N:Int) / 2^min (48 - 8*(j:Int)).toNat IntKind.i64.bits)))]->aZ (N / 256^(7 - (j+1))) (k+1) i=ll k (aZ (N / 256^(7 - j)) k) h i:=λi hi h hh=>by
      rw [kb i hi,ll];split
      ·rfl
      ·rw [show i - k=0 by omega,hh]
     have hk0':decide (((k:Nat):Int) > 0)=true:=decide_eq_true (by omega);have X1:∀p:Prop,decide (((k:Nat):Int) > 0)=false->p:=λp h=>by rw [hk0'] at h;cases h
     with_unfolding_all refine⟨by omega,by decide,λh2=>⟨λh3=>⟨by omega,⟨rfl,?_,?_⟩,⟨.inr (j+1,k+1),[some 0],⟨?_,?_,?_,?_,?_⟩,?_,Wo ⟨qZ (λi hi=>?_),qQ⟩ ⟨rfl,pP,congrArg (λx=>PV.val (.int .i64 x)) wj,qQ⟩ trivial⟩⟩,λh3=>X1 _ h3⟩,λh2=>⟨λh3=>⟨by omega,⟨rfl,?_,?_⟩,⟨.inr (j+1,k+1),[some 0],⟨?_,?_,?_,?_,?_⟩,?_,Wo ⟨qZ (λi hi=>?_),qQ⟩ ⟨rfl,pP,congrArg (λx=>PV.val (.int .i64 x)) wj,qQ⟩ trivial⟩⟩,λh3=>(nomatch h3)⟩⟩
     ·show(k+1)*1<=_;omega
     ·show k+1<=_;omega
     ·exact hj7
     ·exact Nat.succ_pos k
     ·exact hk7
     ·rw [hZe];exact hlo'
     ·rw [hZe];exact hhi'
     ·show 7 - (j+1) < 7 - j;omega
     ·exact kc i hi _ rfl
     ·show(k+1)*1<=_;omega
     ·show k+1<=_;omega
     ·exact hj7
     ·exact Nat.succ_pos k
     ·exact hk7
     ·rw [hZe];exact hlo'
     ·rw [hZe];exact hhi'
     ·show 7 - (j+1) < 7 - j;omega
     ·exact kc i hi _ rfl
    ·have h1:=of_decide_eq_false h1;obtain rfl:j=7:=by omega
     rw [show 7 - 7=0 from rfl,Nat.pow_zero,Nat.div_one] at hlo hhi;have hfin:=jq (N:=N) (k:=k) hhi (λ_=>hlo);have hv:cT k (λi=>aZ (N / 256^(7 - 7)) k (0+i))=ag N:=by
      rw [<-hfin];congr 1;funext i;rw [Nat.zero_add,show 7 - 7=0 from rfl,Nat.pow_zero,Nat.div_one]
     with_unfolding_all refine⟨λi hi=>⟨_,rfl⟩,[],aa [(2,.val (.string (ag N)))] [] 0 [],Wo trivial ⟨congrArg (λx=>PV.val (.string x)) hv,qQ⟩ trivial,rfl,rfl⟩
 ·cases e
end Go.Proofs
namespace Go.Num
def bP:Value->Bool
 |.agg ⟨[.bool _,.string b,.string c]⟩=>decide (b.size<=3)&&decide (c.size<=3)
 |_=>false
end Go.Num
namespace Go.Proofs
def uS:List PV->Option Ans
 |[.val v]=>some ⟨some (CK v),.val (.tuple ⟨[.int .i64 (bif bP v then cU v else 0),.int .i64 (bif bP v then(bK v:Nat) else 0),.bool (bP v)]⟩),[]⟩
 |_=>none
def D180:Opt:={ join:=d9 [4],perm:=iS 3 [(0,true),(1,true),(3,true),(4,true),(2,false),(5,false)] }
theorem Dv:ak D180.toOrd Tryz.f180 1=true:=by kernel_rfl
theorem f180:FnOk Tryz.prog 180 uS:=by
 refine FnOk.ofW aj (am (l:=[(223,AZ)]) (own:=[]) (inl:=[]) (by simp [f223]) (by simp)) Tryz.func180 D180 1 Dv λargs r e=>?_;unfold uS at e;split at e
 ·rename_i v
  cases e;refine⟨by simp,λhm=>?_⟩;obtain⟨s,b,c,rfl,hb,hc⟩:=hm _ rfl;refine⟨[],aa [(0,.val (.agg ⟨[.bool s,.string b,.string c]⟩))] [] 0 [],Wo trivial ⟨rfl,qQ⟩ trivial,?_⟩;have d1:(((bv c:Nat):Int)==0)=true->PV.val (.int .i64 1)=PV.val (.int .i64 (bj (bv c):Nat)):=λh=>by
   have h:bv c=0:=by simpa using h
   rw [h];rfl
  have d2:(((bv c:Nat):Int)==0)=false->PV.val (.int .i64 (bv c:Nat))=PV.val (.int .i64 (bj (bv c):Nat)):=λh=>by
   have h:bv c≠0:=by simpa using h
   rw [oa h]
  have no1:¬(b.size<=3/\c.size<=3)->PV.val (.int .i64 0)=PV.val (.int .i64 (bif bP (.agg ⟨[.bool s,.string b,.string c]⟩) then cU (.agg ⟨[.bool s,.string b,.string c]⟩) else 0))/\PV.val (.int .i64 0)=PV.val (.int .i64 (bif bP (.agg ⟨[.bool s,.string b,.string c]⟩) then(bK (.agg ⟨[.bool s,.string b,.string c]⟩):Nat) else 0))/\PV.val (.bool false)=PV.val (.bool (bP (.agg ⟨[.bool s,.string b,.string c]⟩))):=λh=>by
   have e:bP (.agg ⟨[.bool s,.string b,.string c]⟩)=false:=by
    show(decide (b.size<=3)&&decide (c.size<=3))=false;rw [Bool.and_eq_false_iff,decide_eq_false_iff_not,decide_eq_false_iff_not];omega
   rw [e];exact⟨rfl,rfl,rfl⟩
  have em:b.size<=3/\c.size<=3->bP (.agg ⟨[.bool s,.string b,.string c]⟩)=true:=λh=>by
   show(decide (b.size<=3)&&decide (c.size<=3))=true;rw [decide_eq_true h.1,decide_eq_true h.2];rfl
  have ys1:b.size<=3/\c.size<=3->(s=true->PV.val (.int .i64 (IntKind.i64.wrap (0 - ((bv b:Nat):Int))))=PV.val (.int .i64 (bif bP (.agg ⟨[.bool s,.string b,.string c]⟩) then cU (.agg ⟨[.bool s,.string b,.string c]⟩) else 0)))/\(s=false->PV.val (.int .i64 (bv b:Nat))=PV.val (.int .i64 (bif bP (.agg ⟨[.bool s,.string b,.string c]⟩) then cU (.agg ⟨[.bool s,.string b,.string c]⟩) else 0))):=λh=>by
   have hbl:=bt b;have h3:256^b.size<=256^3:=Nat.pow_le_pow_right (by decide) h.1;rw [em h];refine⟨λhs=>?_,λhs=>?_⟩
   ·rw [hs,wrap64 (by omega) (by omega)];show _=PV.val (.int .i64 (aw true (bv b)));rw [Int.zero_sub];rfl
   ·rw [hs];rfl
  have ys2:b.size<=3/\c.size<=3->PV.val (.int .i64 (bj (bv c):Nat))=PV.val (.int .i64 (bif bP (.agg ⟨[.bool s,.string b,.string c]⟩) then(bK (.agg ⟨[.bool s,.string b,.string c]⟩):Nat) else 0))/\PV.val (.bool true)=PV.val (.bool (bP (.agg ⟨[.bool s,.string b,.string c]⟩))):=λh=>by
   rw [em h];exact⟨rfl,rfl⟩
  have hbt:decide (((b.size:Nat):Int) > 3)=false->decide (((c.size:Nat):Int) > 3)=false->b.size<=3/\c.size<=3:=λh1 h2=>by
   have h1:=of_decide_eq_false h1;have h2:=of_decide_eq_false h2;omega
  have hbf:decide (((b.size:Nat):Int) > 3)=true->¬(b.size<=3/\c.size<=3):=λh1=>by
   have h1:=of_decide_eq_true h1;omega
  have hcf:decide (((c.size:Nat):Int) > 3)=true->¬(b.size<=3/\c.size<=3):=λh1=>by
   have h1:=of_decide_eq_true h1;omega
  with_unfolding_all refine⟨λh1=>⟨λh2=>⟨[],aa [(2,.val (.int .i64 (bif bP (.agg ⟨[.bool s,.string b,.string c]⟩) then cU (.agg ⟨[.bool s,.string b,.string c]⟩) else 0))),(3,.val (.int .i64 (bif bP (.agg ⟨[.bool s,.string b,.string c]⟩) then(bK (.agg ⟨[.bool s,.string b,.string c]⟩):Nat) else 0))),(4,.val (.bool (bP (.agg ⟨[.bool s,.string b,.string c]⟩))))] [] 0 [],Wo trivial ⟨(no1 (hcf h2)).1,(no1 (hcf h2)).2.1,(no1 (hcf h2)).2.2,qQ⟩ trivial,rfl,rfl⟩,λh2=>⟨by have:=hbt h1 h2;omega,by have:=hbt h1 h2;omega,Unit,λ_=>True,λ_=>aa [(1,.ptr 0 0 0 0),(5,.val (.int .i64 (bv b:Nat))),(6,.val (.int .i64 (bj (bv c):Nat)))] [ba s b c 0] 1 [],⟨λh3=>⟨(),[some 0],trivial,Wo ⟨qX,qQ⟩ ⟨pP,rfl,d1 h3,qQ⟩ trivial⟩,λh3=>⟨(),[some 0],trivial,Wo ⟨qX,qQ⟩ ⟨pP,rfl,d2 h3,qQ⟩ trivial⟩⟩,λ_ _=>⟨λh3=>⟨[],aa [(2,.val (.int .i64 (bif bP (.agg ⟨[.bool s,.string b,.string c]⟩) then cU (.agg ⟨[.bool s,.string b,.string c]⟩) else 0))),(3,.val (.int .i64 (bif bP (.agg ⟨[.bool s,.string b,.string c]⟩) then(bK (.agg ⟨[.bool s,.string b,.string c]⟩):Nat) else 0))),(4,.val (.bool (bP (.agg ⟨[.bool s,.string b,.string c]⟩))))] [] 0 [],Wo trivial ⟨(ys1 (hbt h1 h2)).1 h3,(ys2 (hbt h1 h2)).1,(ys2 (hbt h1 h2)).2,qQ⟩ trivial,rfl,rfl⟩,λh3=>⟨[],aa [(2,.val (.int .i64 (bif bP (.agg ⟨[.bool s,.string b,.string c]⟩) then cU (.agg ⟨[.bool s,.string b,.string c]⟩) else 0))),(3,.val (.int .i64 (bif bP (.agg ⟨[.bool s,.string b,.string c]⟩) then(bK (.agg ⟨[.bool s,.string b,.string c]⟩):Nat) else 0))),(4,.val (.bool (bP (.agg ⟨[.bool s,.string b,.string c]⟩))))] [] 0 [],Wo trivial ⟨(ys1 (hbt h1 h2)).2 h3,(ys2 (hbt h1 h2)).1,(ys2 (hbt h1 h2)).2,qQ⟩ trivial,rfl,rfl⟩⟩⟩⟩,λh1=>⟨λh2=>⟨[],aa [(2,.val (.int .i64 (bif bP (.agg ⟨[.bool s,.string b,.string c]⟩) then cU (.agg ⟨[.bool s,.string b,.string c]⟩) else 0))),(3,.val (.int .i64 (bif bP (.agg ⟨[.bool s,.string b,.string c]⟩) then(bK (.agg ⟨[.bool s,.string b,.string c]⟩):Nat) else 0))),(4,.val (.bool (bP (.agg ⟨[.bool s,.string b,.string c]⟩))))] [] 0 [],Wo trivial ⟨(no1 (hbf h1)).1,(no1 (hbf h1)).2.1,(no1 (hbf h1)).2.2,qQ⟩ trivial,rfl,rfl⟩,λh2=>(nomatch h2)⟩⟩
 ·cases e
def wK:List PV->Option Ans
 |[.val (.int .i64 z),.val (.int .i64 d)]=>some ⟨some (z.natAbs < 72057594037927936/\0 < d/\d < 72057594037927936),.val (au (mkRat z d.toNat)),[]⟩
 |_=>none
def D181:Opt:={ join:=λc=>match c with | .block 0 _=>true|c=>d9 [2,10] c }
theorem Dw:ak D181.toOrd Tryz.f181 2=true:=by kernel_rfl
theorem f181:FnOk Tryz.prog 181 wK:=by
 refine FnOk.ofW aj (am (l:=[(224,A0)]) (own:=[]) (inl:=[]) (by simp [f224]) (by simp)) Tryz.func181 D181 2 Dw λargs r e=>?_;unfold wK at e;split at e
 ·rename_i z d
  cases e;refine⟨by simp,λhm=>?_⟩;obtain⟨hz,hd,hd2⟩:=hm _ rfl;obtain⟨D,rfl⟩:∃D:Nat,d=(D:Int):=⟨d.toNat,by omega⟩;rw [Int.toNat_natCast];refine⟨[],aa [(0,.val (.int .i64 z)),(1,.val (.int .i64 (D:Nat)))] [] 0 [],Wo trivial ⟨rfl,rfl,qQ⟩ trivial,?_⟩;obtain⟨N,hN⟩:∃N,N=z.natAbs:=⟨_,rfl⟩;obtain⟨G,hG⟩:∃G,G=Nat.gcd N D:=⟨_,rfl⟩;have hG0:0 < G:=by rw [hG];exact Nat.gcd_pos_of_pos_right _ (by omega)
  have hNz:N < 72057594037927936:=by omega
  have hq1:(mkRat z D).num.natAbs=N / G:=by
   rw [Rat.num_mkRat,if_neg (by omega),<-hN,Nat.gcd_comm,<-hG];obtain⟨k,hk⟩:G∣N:=by rw [hG];exact Nat.gcd_dvd_left _ _
   rw [hk,Nat.mul_div_cancel_left _ hG0];rcases(by omega:z=N\/z = -N) with h|h
   ·rw [h,hk,Int.natCast_mul,Int.mul_ediv_cancel_left _ (by omega)];rfl
   ·rw [h,hk,Int.natCast_mul,<-Int.mul_neg,Int.mul_ediv_cancel_left _ (by omega),Int.natAbs_neg];rfl
  have hq2:(mkRat z D).den=D / G:=by rw [Rat.den_mkRat,if_neg (by omega),<-hN,Nat.gcd_comm,<-hG]
  have hq3:decide (z < 0)=decide ((mkRat z D).num < 0):=by
   rw [decide_eq_decide];have e:=Rat.mkRat_num_den (n:=z) (d:=D) (by omega) (show mkRat z D=⟨(mkRat z D).num,(mkRat z D).den,(mkRat z D).den_nz,(mkRat z D).reduced⟩ from rfl);obtain⟨m,hm0,hm1,_⟩:=e;constructor
   ·intro h;rcases(by omega:(mkRat z D).num < 0\/0<=(mkRat z D).num) with h2|h2
    ·exact h2
    ·have:=Int.mul_nonneg h2 (show 0<=(m:Int) by omega);omega
   ·intro h;rw [hm1];exact Int.mul_neg_of_neg_of_pos h (by omega)
  have hDG:D / G<=D:=Nat.div_le_self _ _;have hNG:N / G<=N:=Nat.div_le_self _ _;have hDG0:0 < D / G:=Nat.div_pos (Nat.le_of_dvd (by omega) (by rw [hG];exact Nat.gcd_dvd_right _ _)) hG0;have hwz:decide (z < 0)=true->IntKind.i64.wrap (0 - z)=((N:Nat):Int):=λh=>by
   have:=of_decide_eq_true h;rw [wrap64 (by omega) (by omega)];omega
  have hwz2:decide (z < 0)=false->z=((N:Nat):Int):=λh=>by
   have:=of_decide_eq_false h;omega
  with_unfolding_all refine⟨Unit,λ_=>True,λ_=>aa [(0,.val (.int .i64 (N:Nat))),(1,.val (.int .i64 (D:Nat))),(4,.ptr 0 0 0 0),(5,.ptr 1 1 0 0)] [ba false ⟨#[]⟩ ⟨#[]⟩ 0,ba (decide (z < 0)) ⟨#[]⟩ ⟨#[]⟩ 1] 2 [],⟨λh1=>⟨(),[some 0,some 1],trivial,Wo ⟨qX,qX,qQ⟩ ⟨congrArg (λx=>PV.val (.int .i64 x)) (hwz h1),rfl,pP,pP,qQ⟩ trivial⟩,λh1=>⟨(),[some 0,some 1],trivial,Wo ⟨qX,qX,qQ⟩ ⟨congrArg (λx=>PV.val (.int .i64 x)) (hwz2 h1),rfl,pP,pP,qQ⟩ trivial⟩⟩,λ_ _=>⟨λh1=>⟨[some 0],aa [(4,.ptr 0 0 0 0)] [ba (decide ((mkRat z D).num < 0)) (ag (mkRat z D).num.natAbs) (aK (mkRat z D).den) 0] 1 [],Wo ⟨qZ ⟨⟨?_,rfl⟩,⟨?_,rfl⟩,⟨?_,rfl⟩,qQ⟩,qQ⟩ ⟨pP,qQ⟩ trivial,rfl,rfl⟩,λh1=>?_⟩⟩
  ·have h1:N=0:=by simpa using h1
   have hz0:z=0:=by omega
   rw [hz0,Rat.zero_mkRat];rfl
  ·have h1:N=0:=by simpa using h1
   have hz0:z=0:=by omega
   rw [hz0,Rat.zero_mkRat];show PV.val (.string ⟨#[]⟩)=PV.val (.string (ag 0));rw [fO]
  ·have h1:N=0:=by simpa using h1
   have hz0:z=0:=by omega
   rw [hz0,Rat.zero_mkRat];rfl
  ·have h1:N≠0:=by simpa using h1
   with_unfolding_all refine⟨Unit,λ_=>True,λ_=>aa [(0,.val (.int .i64 (N:Nat))),(1,.val (.int .i64 (D:Nat))),(4,.ptr 0 0 0 0),(5,.ptr 1 1 0 0),(6,.val (.int .i64 (G:Nat)))] [ba false ⟨#[]⟩ ⟨#[]⟩ 0,ba (decide (z < 0)) ⟨#[]⟩ ⟨#[]⟩ 1] 2 [],⟨Nat×Nat,λp=>Nat.gcd p.1 p.2=G,λp=>aa [(0,.val (.int .i64 (N:Nat))),(1,.val (.int .i64 (D:Nat))),(4,.ptr 0 0 0 0),(5,.ptr 1 1 0 0),(6,.val (.int .i64 (p.1:Nat))),(7,.val (.int .i64 (p.2:Nat)))] [ba false ⟨#[]⟩ ⟨#[]⟩ 0,ba (decide (z < 0)) ⟨#[]⟩ ⟨#[]⟩ 1] 2 [],λp=>p.2,⟨(N,D),[some 0,some 1],hG.symm,Wo ⟨qX,qX,qQ⟩ ⟨rfl,rfl,pP,pP,rfl,rfl,qQ⟩ trivial⟩,λp hp=>?_⟩,λ_ _=>?_⟩
   ·obtain⟨x,y⟩:=p;replace hp:Nat.gcd x y=G:=hp;with_unfolding_all refine⟨λh2=>?_,λh2=>⟨(),[some 0,some 1],trivial,Wo ⟨qX,qX,qQ⟩ ⟨rfl,rfl,pP,pP,?_,qQ⟩ trivial⟩⟩
    ·have h2:=of_decide_eq_true h2;have h3:0 < y:=by omega
     with_unfolding_all refine⟨by omega,(y,x%y),[some 0,some 1],?_,Nat.mod_lt _ h3,Wo ⟨qX,qX,qQ⟩ ⟨rfl,rfl,pP,pP,rfl,rfl,qQ⟩ trivial⟩
     show Nat.gcd y (x%y)=G;rw [<-hp,Nat.gcd_comm x y,Nat.gcd_rec y x,Nat.gcd_comm]
    ·have h2:=of_decide_eq_false h2;have h3:y=0:=by omega
     have h4:x=G:=by rw [<-hp,h3,Nat.gcd_zero_right]
     exact congrArg (λn:Nat=>PV.val (.int .i64 n)) h4
   ·have hG1:((G:Nat):Int)≠0:=by omega
    have hw1:IntKind.i64.wrap (((N:Nat):Int).tdiv ((G:Nat):Int))=((N / G:Nat):Int):=by
     show IntKind.i64.wrap ((N / G:Nat):Int)=_;generalize N / G=x at *
     rw [wrap64 (by omega) (by omega)]
    have hw2:IntKind.i64.wrap (((D:Nat):Int).tdiv ((G:Nat):Int))=((D / G:Nat):Int):=by
     show IntKind.i64.wrap ((D / G:Nat):Int)=_;generalize D / G=x at *
     rw [wrap64 (by omega) (by omega)]
    have b1:∀w:Int,w=((N / G:Nat):Int)->0<=w/\w < 72057594037927936:=λw h=>by
     rw [h];generalize N / G=x at *
     omega
    have b2:∀w:Int,w=((D / G:Nat):Int)->0<=w/\w < 72057594037927936:=λw h=>by
     rw [h];generalize D / G=x at *
     omega
    have v1:PV.val (.string (ag (IntKind.i64.wrap (((N:Nat):Int).tdiv ((G:Nat):Int))).toNat))=PV.val (.string (ag (mkRat z D).num.natAbs)):=by rw [hw1,Int.toNat_natCast,hq1]
    have v2:decide (IntKind.i64.wrap (((D:Nat):Int).tdiv ((G:Nat):Int)) > 1)=true->PV.val (.string (ag (IntKind.i64.wrap (((D:Nat):Int).tdiv ((G:Nat):Int))).toNat))=PV.val (.string (aK (mkRat z D).den)):=λh=>by
     have h:=of_decide_eq_true h;rw [hw2] at h;rw [hw2,Int.toNat_natCast,hq2,aK,if_neg];generalize D / G=x at *
     omega
    have v3:decide (IntKind.i64.wrap (((D:Nat):Int).tdiv ((G:Nat):Int)) > 1)=false->PV.val (.string ⟨#[]⟩)=PV.val (.string (aK (mkRat z D).den)):=λh=>by
     have h:=of_decide_eq_false h;rw [hw2] at h;rw [hq2,aK,if_pos];generalize D / G=x at *
     omega
    with_unfolding_all refine⟨hG1,b1 _ hw1,Unit,λ_=>True,λ_=>aa [(4,.ptr 0 0 0 0),(5,.ptr 1 1 0 0)] [ba false ⟨#[]⟩ ⟨#[]⟩ 0,ba (decide ((mkRat z D).num < 0)) (ag (mkRat z D).num.natAbs) (aK (mkRat z D).den) 1] 2 [],⟨hG1,λh2=>⟨hG1,b2 _ hw2,(),[some 0,some 1],trivial,Wo ⟨qX,qZ ⟨⟨congrArg (λx=>PV.val (.bool x)) hq3,rfl⟩,⟨v1,rfl⟩,⟨v2 h2,rfl⟩,qQ⟩,qQ⟩ ⟨pP,pP,qQ⟩ trivial⟩,λh2=>⟨(),[some 0,some 1],trivial,Wo ⟨qX,qZ ⟨⟨congrArg (λx=>PV.val (.bool x)) hq3,rfl⟩,⟨v1,rfl⟩,⟨v3 h2,rfl⟩,qQ⟩,qQ⟩ ⟨pP,pP,qQ⟩ trivial⟩⟩,λ_ _=>⟨[some 0],aa [(4,.ptr 0 0 0 0)] [ba (decide ((mkRat z D).num < 0)) (ag (mkRat z D).num.natAbs) (aK (mkRat z D).den) 0] 1 [],Wo ⟨qX,qQ⟩ ⟨pP,qQ⟩ trivial,rfl,rfl⟩⟩
 ·cases e
end Go.Proofs
namespace Go.Num
theorem wL:ag 1=(⟨#[1]⟩:ByteArray):=by
 have h:fL 1=[1]:=by rw [jl (by decide)];simp [cJ]
 simp [ag,h]
theorem qa {n:Nat}:((ag n).toList==(⟨#[1]⟩:ByteArray).toList)=decide (n=1):=by
 by_cases h:n=1
 ·rw [h,wL,beq_self_eq_true];rfl
 ·rw [decide_eq_false h];refine Bool.eq_false_iff.2 λe=>h ?_;have e:=eq_of_beq e;rw [ce,ce] at e;have:=congrArg cO e;have hb:=aC n;unfold bv at hb;rw [hb] at this;rw [this];rfl
end Go.Num
namespace Go.Proofs
def uT:List PV->Option Ans
 |[.val v]=>some ⟨some (isRk 17179869184 v),.val (.tuple ⟨[av (cU v),av (bK v:Nat)]⟩),[]⟩
 |_=>none
def D182:Opt:={ join:=d9 [3],all:=kI [(5,.alt 0 (.alt 1 (OT.seq [2,3] .nil) (OT.seq [2,1,3] .nil)) (OT.seq [1,0,2,3] .nil))] }
theorem Dx:ak D182.toOrd Tryz.f182 1=true:=by kernel_rfl
theorem f182:FnOk Tryz.prog 182 uT:=by
 refine FnOk.ofW aj (am (l:=[(225,uR),(226,so)]) (own:=[]) (inl:=[]) (by simp [f225,f226]) (by simp)) Tryz.func182 D182 1 Dx λargs r e=>?_;unfold uT at e;split at e
 ·rename_i v
  cases e;refine⟨by simp,λhm=>?_⟩;obtain⟨s,b,c,rfl,hb,hc⟩:=hm _ rfl;refine⟨[],aa [(0,.val (.agg ⟨[.bool s,.string b,.string c]⟩))] [] 0 [],Wo trivial ⟨rfl,qQ⟩ trivial,?_⟩;have z2:PV.val (.string ⟨#[]⟩)=PV.val (.string (ag (0:Int).natAbs)):=by rw [show(0:Int).natAbs=0 from rfl,di]
  have hw1:aG (.agg ⟨[.bool s,.string b]⟩)+aG (.agg ⟨[.bool false,.string ⟨#[]⟩]⟩)=aw s (bv b):=Int.add_zero _;have hw2:aG (.agg ⟨[.bool false,.string c]⟩)+aG (.agg ⟨[.bool false,.string ⟨#[]⟩]⟩)=((bv c:Nat):Int):=Int.add_zero _;have d1:((ag (aG (.agg ⟨[.bool false,.string c]⟩)+aG (.agg ⟨[.bool false,.string ⟨#[]⟩]⟩)).natAbs).toList==(⟨#[]⟩:ByteArray).toList)=true->(1:Int)=(bj (bv c):Nat):=λh=>by
   rw [hw2,dg] at h;have h:bv c=0:=of_decide_eq_true h;rw [h];rfl
  have d2:((ag (aG (.agg ⟨[.bool false,.string c]⟩)+aG (.agg ⟨[.bool false,.string ⟨#[]⟩]⟩)).natAbs).toList==(⟨#[]⟩:ByteArray).toList)=false->aG (.agg ⟨[.bool false,.string c]⟩)+aG (.agg ⟨[.bool false,.string ⟨#[]⟩]⟩)=(bj (bv c):Nat):=λh=>by
   rw [hw2,dg] at h;have h:bv c≠0:=of_decide_eq_false h;rw [hw2,oa h]
  with_unfolding_all refine⟨⟨⟨_,_,rfl,hb⟩,_,_,rfl,by decide⟩,⟨⟨_,_,rfl,hc⟩,_,_,rfl,by decide⟩,Unit,λ_=>True,λ_=>aa [(2,.ptr 0 0 0 0),(3,.ptr 1 1 0 0),(4,.ptr 2 2 0 0),(5,.ptr 3 3 0 0)] [aU 0 0,aU 0 1,aU (aw s (bv b)) 2,aU (bj (bv c):Nat) 3] 4 [],⟨λh=>⟨by decide,⟨(),[some 1,some 2,some 3,some 4],trivial,Wo ⟨qZ ⟨rq,⟨z2,rfl⟩,qQ⟩,qZ ⟨rq,⟨z2,rfl⟩,qQ⟩,qZ ⟨⟨congrArg (λz:Int=>PV.val (.bool (decide (z < 0)))) hw1,rfl⟩,⟨congrArg (λz:Int=>PV.val (.string (ag z.natAbs))) hw1,rfl⟩,qQ⟩,qZ ⟨⟨congrArg (λz:Int=>PV.val (.bool (decide (z < 0)))) (d1 h),rfl⟩,⟨congrArg (λz:Int=>PV.val (.string (ag z.natAbs))) (d1 h),rfl⟩,qQ⟩,qQ⟩ ⟨pP,pP,pP,pP,qQ⟩ trivial⟩⟩,λh=>⟨(),[some 1,some 2,some 3,some 4],trivial,Wo ⟨qZ ⟨rq,⟨z2,rfl⟩,qQ⟩,qZ ⟨rq,⟨z2,rfl⟩,qQ⟩,qZ ⟨⟨congrArg (λz:Int=>PV.val (.bool (decide (z < 0)))) hw1,rfl⟩,⟨congrArg (λz:Int=>PV.val (.string (ag z.natAbs))) hw1,rfl⟩,qQ⟩,qZ ⟨⟨congrArg (λz:Int=>PV.val (.bool (decide (z < 0)))) (d2 h),rfl⟩,⟨congrArg (λz:Int=>PV.val (.string (ag z.natAbs))) (d2 h),rfl⟩,qQ⟩,qQ⟩ ⟨pP,pP,pP,pP,qQ⟩ trivial⟩⟩,λ_ _=>⟨⟨⟨[some 0,some 1],aa [(2,.ptr 0 0 0 0),(3,.ptr 1 1 0 0)] [aU (aw s (bv b)) 0,aU (bj (bv c):Nat) 1] 2 [],Wo ⟨qJ,qJ,qQ⟩ ⟨pP,pP,qQ⟩ trivial,rfl,rfl⟩,⟨[some 0,some 1],aa [(2,.ptr 0 0 0 0),(3,.ptr 1 1 0 0)] [aU (aw s (bv b)) 0,aU (bj (bv c):Nat) 1] 2 [],Wo ⟨qJ,qJ,qQ⟩ ⟨pP,pP,qQ⟩ trivial,rfl,rfl⟩⟩,⟨[some 0,some 1],aa [(2,.ptr 0 0 0 0),(3,.ptr 1 1 0 0)] [aU (aw s (bv b)) 0,aU (bj (bv c):Nat) 1] 2 [],Wo ⟨qJ,qJ,qQ⟩ ⟨pP,pP,qQ⟩ trivial,rfl,rfl⟩⟩⟩
 ·cases e
def wM:List PV->Option Ans
 |[.val v,.val u]=>some ⟨some ((cZ 8589934592 v/\cZ 8589934592 u)/\aG u≠0),.val (au (Rat.divInt (aG v) (aG u))),[]⟩
 |_=>none
def D183:Opt:={ join:=d9 [4,10],perm:=nP [(1,[(0,true),(1,true),(3,true),(4,true),(2,false),(5,false)]),(5,[(0,true),(2,true),(1,false),(3,false)])] }
theorem Dy:ak D183.toOrd Tryz.f183 2=true:=by kernel_rfl
theorem f183:FnOk Tryz.prog 183 wM:=by
 refine FnOk.ofW aj (am (l:=[(225,uR),(227,wE),(228,AY),(229,AX)]) (own:=[]) (inl:=[]) (by simp [f225,f227,f228,f229]) (by simp)) Tryz.func183 D183 2 Dy λargs r e=>?_;unfold wM at e;split at e
 ·rename_i v u
  cases e;refine⟨by simp,λhm=>?_⟩;obtain⟨⟨⟨s,b,rfl,hb⟩,q,c,rfl,hc⟩,hne⟩:=hm _ rfl;refine⟨[],aa [(0,.val (.agg ⟨[.bool s,.string b]⟩)),(1,.val (.agg ⟨[.bool q,.string c]⟩))] [] 0 [],Wo trivial ⟨rfl,rfl,qQ⟩ trivial,?_⟩;have hw1:aG (.agg ⟨[.bool s,.string b]⟩)+aG (.agg ⟨[.bool false,.string ⟨#[]⟩]⟩)=aG (.agg ⟨[.bool s,.string b]⟩):=Int.add_zero _;have hw2:aG (.agg ⟨[.bool q,.string c]⟩)+aG (.agg ⟨[.bool false,.string ⟨#[]⟩]⟩)=aG (.agg ⟨[.bool q,.string c]⟩):=Int.add_zero _;have i1:cZ 17179869184 (.agg ⟨[.bool s,.string b]⟩):=⟨_,_,rfl,by omega⟩;have i2:cZ 17179869184 (.agg ⟨[.bool q,.string c]⟩):=⟨_,_,rfl,by omega⟩;have hXb:=bt b;have hYb:=bt c;have hX:(aG (.agg ⟨[.bool s,.string b]⟩)).natAbs=bv b:=aD _ _;have hY:(aG (.agg ⟨[.bool q,.string c]⟩)).natAbs=bv c:=aD _ _;rw [<-hX] at hXb;rw [<-hY] at hYb;have hxs:=aX hXb;have hys:=aX hYb;obtain⟨X,hXe⟩:∃X,X=aG (.agg ⟨[.bool s,.string b]⟩):=⟨_,rfl⟩;obtain⟨Y,hYe⟩:∃Y,Y=aG (.agg ⟨[.bool q,.string c]⟩):=⟨_,rfl⟩;rw [<-hXe] at hw1 hX hXb hxs;rw [<-hYe] at hw2 hY hYb hys hne;have hv:PV.val (au (Rat.divInt (aG (.agg ⟨[.bool s,.string b]⟩)) (aG (.agg ⟨[.bool q,.string c]⟩))))=PV.val (au (Rat.divInt X Y)):=by rw [hXe,hYe]
  rw [hv];clear hv;have hr:∀Z:Int,aG (.agg ⟨[.bool (decide (Z < 0)),.string (ag Z.natAbs)]⟩)=Z:=aq;obtain⟨X',hX'⟩:∃X',X'=if Y < 0 then -X else X:=⟨_,rfl⟩
  obtain⟨D,hD⟩:∃D,D=Y.natAbs:=⟨_,rfl⟩;have hXa:X'.natAbs=X.natAbs:=by rw [hX'];split<;>omega
  have hQ:Rat.divInt X Y=mkRat X' D:=by
   rw [hX'];split
   ·rename_i h
    rw [<-Rat.divInt_ofNat,<-Rat.neg_divInt_neg,show((D:Nat):Int) = -Y by omega]
   ·rename_i h
    rw [<-Rat.divInt_ofNat,show((D:Nat):Int)=Y by omega]
  obtain⟨G,hG⟩:∃G,G=Nat.gcd X'.natAbs D:=⟨_,rfl⟩;have hG0:0 < G:=by rw [hG];exact Nat.gcd_pos_of_pos_right _ (by omega)
  have hGX:((G:Nat):Int)∣X':=Int.natAbs_dvd_natAbs.1 (by rw [hG];exact Nat.gcd_dvd_left _ _);have hGD:((G:Nat):Int)∣((D:Nat):Int):=Int.natAbs_dvd_natAbs.1 (by rw [hG];exact Nat.gcd_dvd_right _ _);have hq1:(mkRat X' D).num=X' / G:=by rw [Rat.num_mkRat,if_neg (by omega),Nat.gcd_comm,<-hG]
  have hq2:(mkRat X' D).den=D / G:=by rw [Rat.den_mkRat,if_neg (by omega),Nat.gcd_comm,<-hG]
  have hxs':(ag X'.natAbs).size<=8589934592:=by rw [hXa];omega
  have hds:(ag D).size<=8589934592:=by rw [hD];omega
  have hGs:(ag G).size<=8589934592:=by
   refine Nat.le_trans (aX (k:=(ag D).size) ?_) hds;have h1:=bt (ag D);rw [aC] at h1;have:=Nat.le_of_dvd (show 0 < D by omega) (show G∣D by rw [hG];exact Nat.gcd_dvd_right _ _);omega
  have hwx:(aG (.agg ⟨[.bool s,.string b]⟩)+aG (.agg ⟨[.bool false,.string ⟨#[]⟩]⟩))=X:=by rw [hXe];exact Int.add_zero _
  have hwy:(aG (.agg ⟨[.bool q,.string c]⟩)+aG (.agg ⟨[.bool false,.string ⟨#[]⟩]⟩))=Y:=by rw [hYe];exact Int.add_zero _
  have s1:(ag (aG (.agg ⟨[.bool s,.string b]⟩)+aG (.agg ⟨[.bool false,.string ⟨#[]⟩]⟩)).natAbs).size<=34359738368:=by rw [hwx];omega
  have s2:(ag (aG (.agg ⟨[.bool q,.string c]⟩)+aG (.agg ⟨[.bool false,.string ⟨#[]⟩]⟩)).natAbs).size<=34359738368:=by rw [hwy];omega
  with_unfolding_all refine⟨⟨i1,_,_,rfl,by decide⟩,⟨i2,_,_,rfl,by decide⟩,λh1=>?_,λh1=>⟨Unit,λ_=>True,λ_=>aa [(2,.ptr 0 0 0 0),(3,.ptr 1 1 0 0),(4,.ptr 2 2 0 0)] [aU X' 0,aU (D:Nat) 1,ba false ⟨#[]⟩ ⟨#[]⟩ 2] 3 [],⟨λh2=>⟨⟨_,_,rfl,s1⟩,⟨_,_,rfl,s2⟩,⟨(),[some 0,some 1,some 2],trivial,Wo ⟨qZ ⟨⟨?_,rfl⟩,⟨?_,rfl⟩,qQ⟩,qZ ⟨⟨?_,rfl⟩,⟨?_,rfl⟩,qQ⟩,qX,qQ⟩ ⟨pP,pP,pP,qQ⟩ trivial⟩⟩,λh2=>⟨(),[some 0,some 1,some 2],trivial,Wo ⟨qZ ⟨⟨?_,rfl⟩,⟨?_,rfl⟩,qQ⟩,qZ ⟨⟨?_,rfl⟩,⟨?_,rfl⟩,qQ⟩,qX,qQ⟩ ⟨pP,pP,pP,qQ⟩ trivial⟩⟩,λ_ _=>?_⟩⟩
  ·have h1:((ag (aG (.agg ⟨[.bool s,.string b]⟩)+aG (.agg ⟨[.bool false,.string ⟨#[]⟩]⟩)).natAbs).toList==(⟨#[]⟩:ByteArray).toList)=true:=h1;rw [hwx,dg] at h1;have h1:=of_decide_eq_true h1;have hX0:X=0:=by omega
   have hz:Rat.divInt X Y=0:=by rw [hX0,Rat.zero_divInt]
   rw [hz];have z2:PV.val (.string ⟨#[]⟩)=PV.val (.string (ag 0)):=by rw [di]
   with_unfolding_all exact⟨[some 2],aa [(4,.ptr 0 0 0 0)] [ba false (ag 0) ⟨#[]⟩ 0] 1 [],Wo ⟨qZ ⟨rq,⟨z2,rfl⟩,rq,qQ⟩,qQ⟩ ⟨pP,qQ⟩ trivial,rfl,rfl⟩
  ·have h2:(aG (.agg ⟨[.bool q,.string c]⟩)+aG (.agg ⟨[.bool false,.string ⟨#[]⟩]⟩)) < 0:=of_decide_eq_true h2;rw [hwy] at h2;show PV.val (.bool (decide (-(aG (av (aG (.agg ⟨[.bool s,.string b]⟩)+aG (.agg ⟨[.bool false,.string ⟨#[]⟩]⟩)))) < 0)))=PV.val (.bool (decide (X' < 0)));rw [aq,hwx,hX',if_pos h2]
  ·have h2:(aG (.agg ⟨[.bool q,.string c]⟩)+aG (.agg ⟨[.bool false,.string ⟨#[]⟩]⟩)) < 0:=of_decide_eq_true h2;rw [hwy] at h2;show PV.val (.string (ag (-(aG (av (aG (.agg ⟨[.bool s,.string b]⟩)+aG (.agg ⟨[.bool false,.string ⟨#[]⟩]⟩))))).natAbs))=PV.val (.string (ag X'.natAbs));rw [aq,hwx,hX',if_pos h2]
  ·have h2:(aG (.agg ⟨[.bool q,.string c]⟩)+aG (.agg ⟨[.bool false,.string ⟨#[]⟩]⟩)) < 0:=of_decide_eq_true h2;rw [hwy] at h2;show PV.val (.bool (decide (-(aG (av (aG (.agg ⟨[.bool q,.string c]⟩)+aG (.agg ⟨[.bool false,.string ⟨#[]⟩]⟩)))) < 0)))=PV.val (.bool (decide (((D:Nat):Int) < 0)));rw [aq,hwy,show -Y=((D:Nat):Int) by omega]
  ·have h2:(aG (.agg ⟨[.bool q,.string c]⟩)+aG (.agg ⟨[.bool false,.string ⟨#[]⟩]⟩)) < 0:=of_decide_eq_true h2;rw [hwy] at h2;show PV.val (.string (ag (-(aG (av (aG (.agg ⟨[.bool q,.string c]⟩)+aG (.agg ⟨[.bool false,.string ⟨#[]⟩]⟩))))).natAbs))=PV.val (.string (ag (((D:Nat):Int)).natAbs));rw [aq,hwy,show -Y=((D:Nat):Int) by omega]
  ·have h2:¬(aG (.agg ⟨[.bool q,.string c]⟩)+aG (.agg ⟨[.bool false,.string ⟨#[]⟩]⟩)) < 0:=of_decide_eq_false h2;rw [hwy] at h2;show PV.val (.bool (decide ((aG (.agg ⟨[.bool s,.string b]⟩)+aG (.agg ⟨[.bool false,.string ⟨#[]⟩]⟩)) < 0)))=PV.val (.bool (decide (X' < 0)));rw [hwx,hX',if_neg h2]
  ·have h2:¬(aG (.agg ⟨[.bool q,.string c]⟩)+aG (.agg ⟨[.bool false,.string ⟨#[]⟩]⟩)) < 0:=of_decide_eq_false h2;rw [hwy] at h2;show PV.val (.string (ag (aG (.agg ⟨[.bool s,.string b]⟩)+aG (.agg ⟨[.bool false,.string ⟨#[]⟩]⟩)).natAbs))=PV.val (.string (ag X'.natAbs));rw [hwx,hX',if_neg h2]
  ·have h2:¬(aG (.agg ⟨[.bool q,.string c]⟩)+aG (.agg ⟨[.bool false,.string ⟨#[]⟩]⟩)) < 0:=of_decide_eq_false h2;rw [hwy] at h2;show PV.val (.bool (decide ((aG (.agg ⟨[.bool q,.string c]⟩)+aG (.agg ⟨[.bool false,.string ⟨#[]⟩]⟩)) < 0)))=PV.val (.bool (decide (((D:Nat):Int) < 0)));rw [hwy,show Y=((D:Nat):Int) by omega]
  ·have h2:¬(aG (.agg ⟨[.bool q,.string c]⟩)+aG (.agg ⟨[.bool false,.string ⟨#[]⟩]⟩)) < 0:=of_decide_eq_false h2;rw [hwy] at h2;show PV.val (.string (ag (aG (.agg ⟨[.bool q,.string c]⟩)+aG (.agg ⟨[.bool false,.string ⟨#[]⟩]⟩)).natAbs))=PV.val (.string (ag (((D:Nat):Int)).natAbs));rw [hwy,<-hD];rfl
  ·rw [hQ];have hgx:aG (av (((aG (av X')).natAbs.gcd (aG (av ((D:Nat):Int))).natAbs:Nat):Int))=((G:Nat):Int):=by rw [aq,aq,aq,hG];rfl
   have hgs:(ag ((((aG (av X')).natAbs.gcd (aG (av ((D:Nat):Int))).natAbs:Nat):Int)).natAbs).size<=8589934592:=by rw [aq,aq];show(ag (Nat.gcd X'.natAbs D)).size<=_;rw [<-hG];exact hGs
   have p1:0 < aG (av (((aG (av X')).natAbs.gcd (aG (av ((D:Nat):Int))).natAbs:Nat):Int)):=by rw [hgx];omega
   have p2:aG (av (((aG (av X')).natAbs.gcd (aG (av ((D:Nat):Int))).natAbs:Nat):Int))∣aG (av X'):=by rw [hgx,aq];exact hGX
   have p3:aG (av (((aG (av X')).natAbs.gcd (aG (av ((D:Nat):Int))).natAbs:Nat):Int))∣aG (av ((D:Nat):Int)):=by rw [hgx,aq];exact hGD
   have hqx:(aG (av X') / aG (av (((aG (av X')).natAbs.gcd (aG (av ((D:Nat):Int))).natAbs:Nat):Int)))=(mkRat X' D).num:=by rw [hgx,aq,hq1]
   have hqd:(aG (av ((D:Nat):Int)) / aG (av (((aG (av X')).natAbs.gcd (aG (av ((D:Nat):Int))).natAbs:Nat):Int)))=(((mkRat X' D).den:Nat):Int):=by rw [hgx,aq,hq2];rfl
   have v1:PV.val (.bool (decide ((aG (av X') / aG (av (((aG (av X')).natAbs.gcd (aG (av ((D:Nat):Int))).natAbs:Nat):Int))) < 0)))=PV.val (.bool (decide ((mkRat X' D).num < 0))):=by rw [hqx]
   have v2:PV.val (.string (ag (aG (av X') / aG (av (((aG (av X')).natAbs.gcd (aG (av ((D:Nat):Int))).natAbs:Nat):Int))).natAbs))=PV.val (.string (ag (mkRat X' D).num.natAbs)):=by rw [hqx]
   have v3:(!((ag (aG (av ((D:Nat):Int)) / aG (av (((aG (av X')).natAbs.gcd (aG (av ((D:Nat):Int))).natAbs:Nat):Int))).natAbs).toList==(⟨#[1]⟩:ByteArray).toList))=true->PV.val (.string (ag (aG (av ((D:Nat):Int)) / aG (av (((aG (av X')).natAbs.gcd (aG (av ((D:Nat):Int))).natAbs:Nat):Int))).natAbs))=PV.val (.string (aK (mkRat X' D).den)):=λh=>by
    rw [qa,hqd] at h;have h:(mkRat X' D).den≠1:=by simpa using h
    rw [hqd,aK,if_neg h];rfl
   have v4:(!((ag (aG (av ((D:Nat):Int)) / aG (av (((aG (av X')).natAbs.gcd (aG (av ((D:Nat):Int))).natAbs:Nat):Int))).natAbs).toList==(⟨#[1]⟩:ByteArray).toList))=false->PV.val (.string ⟨#[]⟩)=PV.val (.string (aK (mkRat X' D).den)):=λh=>by
    rw [qa,hqd] at h;have h:(mkRat X' D).den=1:=by simpa using h
    rw [aK,if_pos h]
   with_unfolding_all refine⟨⟨⟨_,_,rfl,hxs'⟩,_,_,rfl,hds⟩,⟨⟨⟨_,_,rfl,hxs'⟩,_,_,rfl,hgs⟩,p1,p2⟩,⟨⟨⟨_,_,rfl,hds⟩,_,_,rfl,hgs⟩,p1,p3⟩,Unit,λ_=>True,λ_=>aa [(4,.ptr 0 0 0 0),(6,.ptr 1 1 0 0)] [ba false ⟨#[]⟩ ⟨#[]⟩ 0,ba (decide ((mkRat X' D).num < 0)) (ag (mkRat X' D).num.natAbs) (aK (mkRat X' D).den) 1] 2 [],⟨λh2=>⟨(),[some 2,some 4],trivial,Wo ⟨qX,qZ ⟨⟨v1,rfl⟩,⟨v2,rfl⟩,⟨v3 h2,rfl⟩,qQ⟩,qQ⟩ ⟨pP,pP,qQ⟩ trivial⟩,λh2=>⟨(),[some 2,some 4],trivial,Wo ⟨qX,qZ ⟨⟨v1,rfl⟩,⟨v2,rfl⟩,⟨v4 h2,rfl⟩,qQ⟩,qQ⟩ ⟨pP,pP,qQ⟩ trivial⟩⟩,λ_ _=>⟨[some 0],aa [(4,.ptr 0 0 0 0)] [ba (decide ((mkRat X' D).num < 0)) (ag (mkRat X' D).num.natAbs) (aK (mkRat X' D).den) 0] 1 [],Wo ⟨qX,qQ⟩ ⟨pP,qQ⟩ trivial,rfl,rfl⟩⟩
 ·cases e
theorem qc (s:Bool) (b c:ByteArray) (q:Rat):(decide (q.num < 0)==s&&(ag q.num.natAbs==b&&(aK q.den==c&&true)))=gM s b c q:=by
 unfold gM;have hb:∀x y:ByteArray,(x==y)=(y==x):=λ⟨x⟩ ⟨y⟩=>by
  show(x==y)=(y==x);exact BEq.comm
 rw [BEq.comm (a:=decide (q.num < 0)),hb (ag _),hb (aK _)]
def A4:List PV->Option Ans
 |[.val v]=>some ⟨some (isRk 4294967296 v),.val (au (aF v)),[]⟩
 |_=>none
theorem Dz:ak {} Tryz.f132 1=true:=by kernel_rfl
theorem f132:FnOk Tryz.prog 132 A4:=by
 refine FnOk.ofW aj (am (l:=[(180,uS),(181,wK),(182,uT),(183,wM)]) (own:=[]) (inl:=[]) (by simp [f180,f181,f182,f183]) (by simp)) Tryz.func132 {} 1 Dz λargs r e=>?_;unfold A4 at e;split at e
 ·rename_i v
  cases e;refine⟨by simp,λhm=>?_⟩;have hv:=hm _ rfl;have r1:=hv.R (by decide);obtain⟨s,b,c,rfl,hb,hc⟩:=hv;refine⟨[],aa [(0,.val (.agg ⟨[.bool s,.string b,.string c]⟩))] [] 0 [],Wo trivial ⟨rfl,qQ⟩ trivial,?_⟩;have hbl:=bt b;have hcl:=bt c;have hcd:bj (bv c) < 256^(c.size+1):=by
   rw [Nat.pow_succ];unfold bj;have:=Nat.pow_pos (n:=c.size) (show 0 < 256 by decide);split<;>omega
  have hd0:=bL (bv c);have e0:aF (.agg ⟨[.bool s,.string b,.string c]⟩)=mkRat (cU (.agg ⟨[.bool s,.string b,.string c]⟩)) (bK (.agg ⟨[.bool s,.string b,.string c]⟩)):=rfl;have sN:(cU (.agg ⟨[.bool s,.string b,.string c]⟩)).natAbs=bv b:=aD _ _;have sD:bK (.agg ⟨[.bool s,.string b,.string c]⟩)=bj (bv c):=rfl;have hsm:bP (.agg ⟨[.bool s,.string b,.string c]⟩)=true->b.size<=3/\c.size<=3:=λh=>by
   have h:(decide (b.size<=3)&&decide (c.size<=3))=true:=h;rw [Bool.and_eq_true] at h;exact⟨of_decide_eq_true h.1,of_decide_eq_true h.2⟩
  have k1:bP (.agg ⟨[.bool s,.string b,.string c]⟩)=true->(bif bP (.agg ⟨[.bool s,.string b,.string c]⟩) then cU (.agg ⟨[.bool s,.string b,.string c]⟩) else 0).natAbs < 72057594037927936:=λh=>by
   have h3:256^b.size<=256^3:=Nat.pow_le_pow_right (by decide) (hsm h).1;rw [h,cond_true,sN];omega
  have k2:bP (.agg ⟨[.bool s,.string b,.string c]⟩)=true->0 < (bif bP (.agg ⟨[.bool s,.string b,.string c]⟩) then((bK (.agg ⟨[.bool s,.string b,.string c]⟩):Nat):Int) else 0):=λh=>by
   rw [h,cond_true,sD];omega
  have k3:bP (.agg ⟨[.bool s,.string b,.string c]⟩)=true->(bif bP (.agg ⟨[.bool s,.string b,.string c]⟩) then((bK (.agg ⟨[.bool s,.string b,.string c]⟩):Nat):Int) else 0) < 72057594037927936:=λh=>by
   have h3:256^(c.size+1)<=256^4:=Nat.pow_le_pow_right (by decide) (by have:=(hsm h).2;omega);rw [h,cond_true,sD];omega
  have k4:bP (.agg ⟨[.bool s,.string b,.string c]⟩)=true->mkRat (bif bP (.agg ⟨[.bool s,.string b,.string c]⟩) then cU (.agg ⟨[.bool s,.string b,.string c]⟩) else 0) (bif bP (.agg ⟨[.bool s,.string b,.string c]⟩) then((bK (.agg ⟨[.bool s,.string b,.string c]⟩):Nat):Int) else 0).toNat=aF (.agg ⟨[.bool s,.string b,.string c]⟩):=λh=>by
   rw [h,cond_true,cond_true,Int.toNat_natCast];rfl
  have k5:Rat.divInt (aG (av (cU (.agg ⟨[.bool s,.string b,.string c]⟩)))) (aG (av ((bK (.agg ⟨[.bool s,.string b,.string c]⟩):Nat):Int)))=aF (.agg ⟨[.bool s,.string b,.string c]⟩):=by
   rw [aq,aq,Rat.divInt_ofNat];rfl
  have j1:cZ 8589934592 (av (cU (.agg ⟨[.bool s,.string b,.string c]⟩))):=br (k:=b.size) (by rw [sN];exact hbl) (by omega);have j2:cZ 8589934592 (av ((bK (.agg ⟨[.bool s,.string b,.string c]⟩):Nat):Int)):=br (k:=c.size+1) (by rw [sD];exact hcd) (by omega);have j3:aG (av ((bK (.agg ⟨[.bool s,.string b,.string c]⟩):Nat):Int))≠0:=by rw [aq,sD];omega
  with_unfolding_all refine⟨r1,λh=>⟨⟨k1 h,k2 h,k3 h⟩,[some 1],aa [(2,.ptr 0 0 0 0)] [ba (decide ((aF (.agg ⟨[.bool s,.string b,.string c]⟩)).num < 0)) (ag (aF (.agg ⟨[.bool s,.string b,.string c]⟩)).num.natAbs) (aK (aF (.agg ⟨[.bool s,.string b,.string c]⟩)).den) 0] 1 [],Wo ⟨qZ ⟨⟨congrArg (λq:Rat=>PV.val (.bool (decide (q.num < 0)))) (k4 h),rfl⟩,⟨congrArg (λq:Rat=>PV.val (.string (ag q.num.natAbs))) (k4 h),rfl⟩,⟨congrArg (λq:Rat=>PV.val (.string (aK q.den))) (k4 h),rfl⟩,qQ⟩,qQ⟩ ⟨pP,qQ⟩ trivial,rfl,rfl⟩,λh=>⟨⟨_,_,_,rfl,by omega,by omega⟩,⟨⟨j1,j2⟩,j3⟩,[some 1],aa [(2,.ptr 0 0 0 0)] [ba (decide ((aF (.agg ⟨[.bool s,.string b,.string c]⟩)).num < 0)) (ag (aF (.agg ⟨[.bool s,.string b,.string c]⟩)).num.natAbs) (aK (aF (.agg ⟨[.bool s,.string b,.string c]⟩)).den) 0] 1 [],Wo ⟨qZ ⟨⟨congrArg (λq:Rat=>PV.val (.bool (decide (q.num < 0)))) k5,rfl⟩,⟨congrArg (λq:Rat=>PV.val (.string (ag q.num.natAbs))) k5,rfl⟩,⟨congrArg (λq:Rat=>PV.val (.string (aK q.den))) k5,rfl⟩,qQ⟩,qQ⟩ ⟨pP,qQ⟩ trivial,rfl,rfl⟩⟩
 ·cases e
def E6:List PV->Option Ans
 |[.val v]=>some ⟨some (isRk 4294967296 v),.val (.int .i64 (bif bc v then 0 else 1)),[]⟩
 |_=>none
def D96:Opt:={ perm:=iS 1 [(0,true),(2,true),(1,false)] }
theorem E7:ak D96.toOrd Tryz.f96 1=true:=by kernel_rfl
theorem f96:FnOk Tryz.prog 96 E6:=by
 refine FnOk.ofW aj (am (l:=[(132,A4)]) (own:=[]) (inl:=[]) (by simp [f132]) (by simp)) Tryz.func96 D96 1 E7 λargs r e=>?_;unfold E6 at e;split at e
 ·rename_i v
  cases e;refine⟨by simp,λhm=>?_⟩;have hv:=hm _ rfl;obtain⟨s,b,c,rfl,hb,hc⟩:=hv;refine⟨[],aa [(0,.val (.agg ⟨[.bool s,.string b,.string c]⟩))] [] 0 [],Wo trivial ⟨rfl,qQ⟩ trivial,?_⟩;have E:(decide ((aF (.agg ⟨[.bool s,.string b,.string c]⟩)).num < 0)==s&&(ag (aF (.agg ⟨[.bool s,.string b,.string c]⟩)).num.natAbs==b&&(aK (aF (.agg ⟨[.bool s,.string b,.string c]⟩)).den==c&&true)))=bc (.agg ⟨[.bool s,.string b,.string c]⟩):=qc s b c (aF (.agg ⟨[.bool s,.string b,.string c]⟩));have t1:(!(decide ((aF (.agg ⟨[.bool s,.string b,.string c]⟩)).num < 0)==s&&(ag (aF (.agg ⟨[.bool s,.string b,.string c]⟩)).num.natAbs==b&&(aK (aF (.agg ⟨[.bool s,.string b,.string c]⟩)).den==c&&true))))=true->PV.val (.int .i64 1)=PV.val (.int .i64 (bif bc (.agg ⟨[.bool s,.string b,.string c]⟩) then 0 else 1)):=λh=>by
   rw [E] at h;cases hc:bc (.agg ⟨[.bool s,.string b,.string c]⟩) with
   |true=>rw [hc] at h;cases h
   |false=>rfl
  have t2:(!(decide ((aF (.agg ⟨[.bool s,.string b,.string c]⟩)).num < 0)==s&&(ag (aF (.agg ⟨[.bool s,.string b,.string c]⟩)).num.natAbs==b&&(aK (aF (.agg ⟨[.bool s,.string b,.string c]⟩)).den==c&&true))))=false->PV.val (.int .i64 0)=PV.val (.int .i64 (bif bc (.agg ⟨[.bool s,.string b,.string c]⟩) then 0 else 1)):=λh=>by
   rw [E] at h;cases hc:bc (.agg ⟨[.bool s,.string b,.string c]⟩) with
   |true=>rfl
   |false=>rw [hc] at h;cases h
  with_unfolding_all refine⟨⟨_,_,_,rfl,hb,hc⟩,λh=>⟨[],aa [(2,.val (.int .i64 (bif bc (.agg ⟨[.bool s,.string b,.string c]⟩) then 0 else 1)))] [] 0 [],Wo trivial ⟨t1 h,qQ⟩ trivial,rfl,rfl⟩,λh=>⟨[],aa [(2,.val (.int .i64 (bif bc (.agg ⟨[.bool s,.string b,.string c]⟩) then 0 else 1)))] [] 0 [],Wo trivial ⟨t2 h,qQ⟩ trivial,rfl,rfl⟩⟩
 ·cases e
end Go.Proofs
namespace Go.Num
theorem mW {v:Value} (h:bP v=true):(cU v).natAbs < 16777216/\0 < bK v/\bK v < 16777216:=by
 unfold bP at h;split at h
 ·rename_i s b c
  rw [Bool.and_eq_true] at h;refine⟨?_,bL _,oe (fP (of_decide_eq_true h.2))⟩;show(aw s (bv b)).natAbs < 16777216;rw [aD];exact fP (of_decide_eq_true h.1)
 ·cases h
theorem isRk.mono {k n:Nat} {v:Value} (h:isRk k v) (hk:k<=n):isRk n v:=by
 obtain⟨s,b,c,rfl,hb,hc⟩:=h;exact⟨s,b,c,rfl,Nat.le_trans hb hk,Nat.le_trans hc hk⟩
theorem yE {x y:Int} {k l:Nat} (h1:x.natAbs < 256^k) (h2:y.natAbs < 256^l):(x*y).natAbs < 256^(k+l):=by
 rw [Int.natAbs_mul,Nat.pow_add];exact Nat.mul_lt_mul'' h1 h2
theorem qd {x y:Int} {k l K:Nat} (h1:x.natAbs < 256^k) (h2:y.natAbs < 256^l) (hK:k+l<=K):cZ K (av (aG (av x)*aG (av y))):=by
 rw [aq,aq];exact br (yE h1 h2) hK
theorem zE {x y:Int} {k l:Nat} (h1:x.natAbs < 256^k) (h2:y.natAbs < 256^l) (hK:k+l<=34359738368):ef (av (aG (av x)*aG (av y))):=by
 rw [aq,aq];exact cF (yE h1 h2) hK
theorem ii {n k:Nat} (h:n < 256^k):((n:Nat):Int).natAbs < 256^k:=by simpa using h
theorem isRk.b {k:Nat} {v:Value} (h:isRk k v):(cU v).natAbs < 256^k/\0 < bK v/\bK v < 256^(k+1):=by
 obtain⟨s,b,c,rfl,hb,hc⟩:=h;have h1:=bt b;have h2:=bt c;have h3:256^b.size<=256^k:=Nat.pow_le_pow_right (by decide) hb;have h4:256^c.size<=256^k:=Nat.pow_le_pow_right (by decide) hc;have h5:=Nat.pow_pos (n:=k) (show 0 < 256 by decide);refine⟨?_,bL _,?_⟩
 ·show(aw s (bv b)).natAbs < 256^k;rw [aD];omega
 ·show bj (bv c) < 256^(k+1);rw [Nat.pow_succ];unfold bj;split<;>omega
theorem j6 (v:Value):aF v=mkRat (cU v) (bK v):=rfl
end Go.Num
namespace Go.Proofs
def yF:List PV->Option Ans
 |[.val v,.val u]=>some ⟨some (isRk 1073741824 v/\isRk 1073741824 u),.val (goInt (an (aF v) (aF u))),[]⟩
 |_=>none
def D135:Opt:={ perm:=iS 11 [(0,true),(1,true),(3,true),(4,true),(2,false),(5,false),(6,false)] }
theorem DA:ak D135.toOrd Tryz.f135 2=true:=by kernel_rfl
theorem f135:FnOk Tryz.prog 135 yF:=by
 refine FnOk.ofW aj (am (l:=[(180,uS),(182,uT),(185,AR),(186,wJ)]) (own:=[]) (inl:=[]) (by simp [f180,f182,f185,f186]) (by simp)) Tryz.func135 D135 2 DA λargs r e=>?_;unfold yF at e;split at e
 ·rename_i v u
  cases e;refine⟨by simp,λhm=>?_⟩;obtain⟨hv,hu⟩:=hm _ rfl;have r1:=hv.R (by decide);have r2:=hu.R (by decide);have p1:isRk 17179869184 v:=hv.mono (by decide);have p2:isRk 17179869184 u:=hu.mono (by decide);have b1:=hv.b;have b2:=hu.b;obtain⟨s,b,c,rfl,hb,hc⟩:=hv;obtain⟨s',b',c',rfl,hb',hc'⟩:=hu;refine⟨[],aa [(0,.val (.agg ⟨[.bool s,.string b,.string c]⟩)),(1,.val (.agg ⟨[.bool s',.string b',.string c']⟩))] [] 0 [],Wo trivial ⟨rfl,rfl,qQ⟩ trivial,?_⟩;obtain⟨K,hK⟩:∃K,K=1073741824:=⟨_,rfl⟩;rw [<-hK] at b1 b2;obtain⟨b3,b4,b5⟩:=b1;obtain⟨b6,b7,b8⟩:=b2;have iN:cZ 17179869184 (av (cU (.agg ⟨[.bool s,.string b,.string c]⟩))):=br b3 (by omega);have iD:cZ 17179869184 (av ((bK (.agg ⟨[.bool s,.string b,.string c]⟩):Nat):Int)):=br (ii b5) (by omega);have iM:cZ 17179869184 (av (cU (.agg ⟨[.bool s',.string b',.string c']⟩))):=br b6 (by omega);have iE:cZ 17179869184 (av ((bK (.agg ⟨[.bool s',.string b',.string c']⟩):Nat):Int)):=br (ii b8) (by omega);have sm:bP (.agg ⟨[.bool s,.string b,.string c]⟩)=true->bP (.agg ⟨[.bool s',.string b',.string c']⟩)=true->((cU (.agg ⟨[.bool s,.string b,.string c]⟩)).natAbs < 16777216/\(((bK (.agg ⟨[.bool s,.string b,.string c]⟩):Nat):Int)).natAbs < 16777216)/\(cU (.agg ⟨[.bool s',.string b',.string c']⟩)).natAbs < 16777216/\(((bK (.agg ⟨[.bool s',.string b',.string c']⟩):Nat):Int)).natAbs < 16777216:=λh h'=>by
   have k1:=mW h;have k2:=mW h';exact⟨⟨k1.1,by simpa using k1.2.2⟩,k2.1,by simpa using k2.2.2⟩
  obtain⟨Q,hQ⟩:∃Q,Q=an (aF (.agg ⟨[.bool s,.string b,.string c]⟩)) (aF (.agg ⟨[.bool s',.string b',.string c']⟩)):=⟨_,rfl⟩;have hQ2:Q=bq (cU (.agg ⟨[.bool s,.string b,.string c]⟩)*((bK (.agg ⟨[.bool s',.string b',.string c']⟩):Nat):Int)) (cU (.agg ⟨[.bool s',.string b',.string c']⟩)*((bK (.agg ⟨[.bool s,.string b,.string c]⟩):Nat):Int)):=by rw [hQ,j6,j6,sj _ _ (by omega) (by omega)]
  rw [<-hQ];have ws:bP (.agg ⟨[.bool s,.string b,.string c]⟩)=true->bP (.agg ⟨[.bool s',.string b',.string c']⟩)=true->IntKind.i64.wrap ((bif bP (.agg ⟨[.bool s,.string b,.string c]⟩) then cU (.agg ⟨[.bool s,.string b,.string c]⟩) else 0)*(bif bP (.agg ⟨[.bool s',.string b',.string c']⟩) then((bK (.agg ⟨[.bool s',.string b',.string c']⟩):Nat):Int) else 0))=cU (.agg ⟨[.bool s,.string b,.string c]⟩)*((bK (.agg ⟨[.bool s',.string b',.string c']⟩):Nat):Int)/\IntKind.i64.wrap ((bif bP (.agg ⟨[.bool s',.string b',.string c']⟩) then cU (.agg ⟨[.bool s',.string b',.string c']⟩) else 0)*(bif bP (.agg ⟨[.bool s,.string b,.string c]⟩) then((bK (.agg ⟨[.bool s,.string b,.string c]⟩):Nat):Int) else 0))=cU (.agg ⟨[.bool s',.string b',.string c']⟩)*((bK (.agg ⟨[.bool s,.string b,.string c]⟩):Nat):Int):=λh h'=>by
   have k:=sm h h';rw [h,h',cond_true,cond_true,cond_true,cond_true,jt k.1.1 k.2.2,jt k.2.1 k.1.2];exact⟨rfl,rfl⟩
  have v1:bP (.agg ⟨[.bool s,.string b,.string c]⟩)=true->bP (.agg ⟨[.bool s',.string b',.string c']⟩)=true->decide (IntKind.i64.wrap ((bif bP (.agg ⟨[.bool s,.string b,.string c]⟩) then cU (.agg ⟨[.bool s,.string b,.string c]⟩) else 0)*(bif bP (.agg ⟨[.bool s',.string b',.string c']⟩) then((bK (.agg ⟨[.bool s',.string b',.string c']⟩):Nat):Int) else 0)) < IntKind.i64.wrap ((bif bP (.agg ⟨[.bool s',.string b',.string c']⟩) then cU (.agg ⟨[.bool s',.string b',.string c']⟩) else 0)*(bif bP (.agg ⟨[.bool s,.string b,.string c]⟩) then((bK (.agg ⟨[.bool s,.string b,.string c]⟩):Nat):Int) else 0)))=true->PV.val (.int .i64 (-1))=PV.val (goInt Q):=λh h' k=>by
   rw [(ws h h').1,(ws h h').2] at k;rw [hQ2,bq,if_pos (of_decide_eq_true k)];rfl
  have v2:bP (.agg ⟨[.bool s,.string b,.string c]⟩)=true->bP (.agg ⟨[.bool s',.string b',.string c']⟩)=true->decide (IntKind.i64.wrap ((bif bP (.agg ⟨[.bool s,.string b,.string c]⟩) then cU (.agg ⟨[.bool s,.string b,.string c]⟩) else 0)*(bif bP (.agg ⟨[.bool s',.string b',.string c']⟩) then((bK (.agg ⟨[.bool s',.string b',.string c']⟩):Nat):Int) else 0)) < IntKind.i64.wrap ((bif bP (.agg ⟨[.bool s',.string b',.string c']⟩) then cU (.agg ⟨[.bool s',.string b',.string c']⟩) else 0)*(bif bP (.agg ⟨[.bool s,.string b,.string c]⟩) then((bK (.agg ⟨[.bool s,.string b,.string c]⟩):Nat):Int) else 0)))=false->decide (IntKind.i64.wrap ((bif bP (.agg ⟨[.bool s,.string b,.string c]⟩) then cU (.agg ⟨[.bool s,.string b,.string c]⟩) else 0)*(bif bP (.agg ⟨[.bool s',.string b',.string c']⟩) then((bK (.agg ⟨[.bool s',.string b',.string c']⟩):Nat):Int) else 0)) > IntKind.i64.wrap ((bif bP (.agg ⟨[.bool s',.string b',.string c']⟩) then cU (.agg ⟨[.bool s',.string b',.string c']⟩) else 0)*(bif bP (.agg ⟨[.bool s,.string b,.string c]⟩) then((bK (.agg ⟨[.bool s,.string b,.string c]⟩):Nat):Int) else 0)))=true->PV.val (.int .i64 1)=PV.val (goInt Q):=λh h' k l=>by
   rw [(ws h h').1,(ws h h').2] at k l;rw [hQ2,bq,if_neg (of_decide_eq_false k),if_pos (of_decide_eq_true l)];rfl
  have v3:bP (.agg ⟨[.bool s,.string b,.string c]⟩)=true->bP (.agg ⟨[.bool s',.string b',.string c']⟩)=true->decide (IntKind.i64.wrap ((bif bP (.agg ⟨[.bool s,.string b,.string c]⟩) then cU (.agg ⟨[.bool s,.string b,.string c]⟩) else 0)*(bif bP (.agg ⟨[.bool s',.string b',.string c']⟩) then((bK (.agg ⟨[.bool s',.string b',.string c']⟩):Nat):Int) else 0)) < IntKind.i64.wrap ((bif bP (.agg ⟨[.bool s',.string b',.string c']⟩) then cU (.agg ⟨[.bool s',.string b',.string c']⟩) else 0)*(bif bP (.agg ⟨[.bool s,.string b,.string c]⟩) then((bK (.agg ⟨[.bool s,.string b,.string c]⟩):Nat):Int) else 0)))=false->decide (IntKind.i64.wrap ((bif bP (.agg ⟨[.bool s,.string b,.string c]⟩) then cU (.agg ⟨[.bool s,.string b,.string c]⟩) else 0)*(bif bP (.agg ⟨[.bool s',.string b',.string c']⟩) then((bK (.agg ⟨[.bool s',.string b',.string c']⟩):Nat):Int) else 0)) > IntKind.i64.wrap ((bif bP (.agg ⟨[.bool s',.string b',.string c']⟩) then cU (.agg ⟨[.bool s',.string b',.string c']⟩) else 0)*(bif bP (.agg ⟨[.bool s,.string b,.string c]⟩) then((bK (.agg ⟨[.bool s,.string b,.string c]⟩):Nat):Int) else 0)))=false->PV.val (.int .i64 0)=PV.val (goInt Q):=λh h' k l=>by
   rw [(ws h h').1,(ws h h').2] at k l;rw [hQ2,bq,if_neg (of_decide_eq_false k),if_neg (of_decide_eq_false l)];rfl
  have v4:PV.val (goInt (bq (aG (av (aG (av (cU (.agg ⟨[.bool s,.string b,.string c]⟩)))*aG (av (((bK (.agg ⟨[.bool s',.string b',.string c']⟩):Nat):Int)))))) (aG (av (aG (av (cU (.agg ⟨[.bool s',.string b',.string c']⟩)))*aG (av (((bK (.agg ⟨[.bool s,.string b,.string c]⟩):Nat):Int))))))))=PV.val (goInt Q):=by rw [aq,aq,aq,aq,aq,aq,hQ2]
  have i1:ef (av (aG (av (cU (.agg ⟨[.bool s,.string b,.string c]⟩)))*aG (av (((bK (.agg ⟨[.bool s',.string b',.string c']⟩):Nat):Int))))):=zE b3 (ii b8) (by omega);have i2:ef (av (aG (av (cU (.agg ⟨[.bool s',.string b',.string c']⟩)))*aG (av (((bK (.agg ⟨[.bool s,.string b,.string c]⟩):Nat):Int))))):=zE b6 (ii b5) (by omega);with_unfolding_all exact⟨r1,r2,⟨λh1=>⟨λh2=>⟨λh3=>⟨[],aa [(4,.val (goInt Q))] [] 0 [],Wo trivial ⟨v1 h1 h2 h3,qQ⟩ trivial,rfl,rfl⟩,λh3=>⟨λh4=>⟨[],aa [(4,.val (goInt Q))] [] 0 [],Wo trivial ⟨v2 h1 h2 h3 h4,qQ⟩ trivial,rfl,rfl⟩,λh4=>⟨[],aa [(4,.val (goInt Q))] [] 0 [],Wo trivial ⟨v3 h1 h2 h3 h4,qQ⟩ trivial,rfl,rfl⟩⟩⟩,λh2=>⟨p1,p2,⟨iN,iE⟩,⟨iM,iD⟩,⟨i1,i2⟩,⟨[],aa [(4,.val (goInt Q))] [] 0 [],Wo trivial ⟨v4,qQ⟩ trivial,rfl,rfl⟩⟩⟩,λh1=>⟨λh=>(nomatch h),λ_=>⟨p1,p2,⟨iN,iE⟩,⟨iM,iD⟩,⟨i1,i2⟩,⟨[],aa [(4,.val (goInt Q))] [] 0 [],Wo trivial ⟨v4,qQ⟩ trivial,rfl,rfl⟩⟩⟩⟩⟩
 ·cases e
def A5:List PV->Option Ans
 |[.val v,.val u]=>some ⟨some (isRk 1073741824 v/\isRk 1073741824 u),.val (au (aF v*aF u)),[]⟩
 |_=>none
def D222:Opt:={ perm:=iS 7 [(0,true),(1,true),(3,true),(4,true),(2,false),(5,false),(6,false)] }
theorem DB:ak D222.toOrd Tryz.f222 2=true:=by kernel_rfl
theorem f222:FnOk Tryz.prog 222 A5:=by
 refine FnOk.ofW aj (am (l:=[(180,uS),(181,wK),(182,uT),(183,wM),(186,wJ)]) (own:=[]) (inl:=[]) (by simp [f180,f181,f182,f183,f186]) (by simp)) Tryz.func222 D222 2 DB λargs r e=>?_;unfold A5 at e;split at e
 ·rename_i v u
  cases e;refine⟨by simp,λhm=>?_⟩;obtain⟨hv,hu⟩:=hm _ rfl;have r1:=hv.R (by decide);have r2:=hu.R (by decide);have p1:isRk 17179869184 v:=hv.mono (by decide);have p2:isRk 17179869184 u:=hu.mono (by decide);have b1:=hv.b;have b2:=hu.b;obtain⟨s,b,c,rfl,hb,hc⟩:=hv;obtain⟨s',b',c',rfl,hb',hc'⟩:=hu;refine⟨[],aa [(0,.val (.agg ⟨[.bool s,.string b,.string c]⟩)),(1,.val (.agg ⟨[.bool s',.string b',.string c']⟩))] [] 0 [],Wo trivial ⟨rfl,rfl,qQ⟩ trivial,?_⟩;obtain⟨K,hK⟩:∃K,K=1073741824:=⟨_,rfl⟩;rw [<-hK] at b1 b2;obtain⟨b3,b4,b5⟩:=b1;obtain⟨b6,b7,b8⟩:=b2;have iN:cZ 17179869184 (av (cU (.agg ⟨[.bool s,.string b,.string c]⟩))):=br b3 (by omega);have iD:cZ 17179869184 (av ((bK (.agg ⟨[.bool s,.string b,.string c]⟩):Nat):Int)):=br (ii b5) (by omega);have iM:cZ 17179869184 (av (cU (.agg ⟨[.bool s',.string b',.string c']⟩))):=br b6 (by omega);have iE:cZ 17179869184 (av ((bK (.agg ⟨[.bool s',.string b',.string c']⟩):Nat):Int)):=br (ii b8) (by omega);have sm:bP (.agg ⟨[.bool s,.string b,.string c]⟩)=true->bP (.agg ⟨[.bool s',.string b',.string c']⟩)=true->((cU (.agg ⟨[.bool s,.string b,.string c]⟩)).natAbs < 16777216/\(((bK (.agg ⟨[.bool s,.string b,.string c]⟩):Nat):Int)).natAbs < 16777216)/\(cU (.agg ⟨[.bool s',.string b',.string c']⟩)).natAbs < 16777216/\(((bK (.agg ⟨[.bool s',.string b',.string c']⟩):Nat):Int)).natAbs < 16777216:=λh h'=>by
   have k1:=mW h;have k2:=mW h';exact⟨⟨k1.1,by simpa using k1.2.2⟩,k2.1,by simpa using k2.2.2⟩
  obtain⟨Q,hQ⟩:∃Q,Q=aF (.agg ⟨[.bool s,.string b,.string c]⟩)*aF (.agg ⟨[.bool s',.string b',.string c']⟩):=⟨_,rfl⟩;rw [<-hQ];have hQ2:Q=mkRat (cU (.agg ⟨[.bool s,.string b,.string c]⟩)*cU (.agg ⟨[.bool s',.string b',.string c']⟩)) (bK (.agg ⟨[.bool s,.string b,.string c]⟩)*bK (.agg ⟨[.bool s',.string b',.string c']⟩)):=by rw [hQ,j6,j6,Rat.mkRat_mul_mkRat]
  have dd:((bK (.agg ⟨[.bool s,.string b,.string c]⟩):Nat):Int)*((bK (.agg ⟨[.bool s',.string b',.string c']⟩):Nat):Int)=((bK (.agg ⟨[.bool s,.string b,.string c]⟩)*bK (.agg ⟨[.bool s',.string b',.string c']⟩):Nat):Int):=by rw [Int.natCast_mul]
  have dpos:0 < bK (.agg ⟨[.bool s,.string b,.string c]⟩)*bK (.agg ⟨[.bool s',.string b',.string c']⟩):=Nat.mul_pos b4 b7;have w:bP (.agg ⟨[.bool s,.string b,.string c]⟩)=true->bP (.agg ⟨[.bool s',.string b',.string c']⟩)=true->((IntKind.i64.wrap ((bif bP (.agg ⟨[.bool s,.string b,.string c]⟩) then cU (.agg ⟨[.bool s,.string b,.string c]⟩) else 0)*(bif bP (.agg ⟨[.bool s',.string b',.string c']⟩) then cU (.agg ⟨[.bool s',.string b',.string c']⟩) else 0))).natAbs < 72057594037927936/\0 < IntKind.i64.wrap ((bif bP (.agg ⟨[.bool s,.string b,.string c]⟩) then((bK (.agg ⟨[.bool s,.string b,.string c]⟩):Nat):Int) else 0)*(bif bP (.agg ⟨[.bool s',.string b',.string c']⟩) then((bK (.agg ⟨[.bool s',.string b',.string c']⟩):Nat):Int) else 0))/\IntKind.i64.wrap ((bif bP (.agg ⟨[.bool s,.string b,.string c]⟩) then((bK (.agg ⟨[.bool s,.string b,.string c]⟩):Nat):Int) else 0)*(bif bP (.agg ⟨[.bool s',.string b',.string c']⟩) then((bK (.agg ⟨[.bool s',.string b',.string c']⟩):Nat):Int) else 0)) < 72057594037927936)/\mkRat (IntKind.i64.wrap ((bif bP (.agg ⟨[.bool s,.string b,.string c]⟩) then cU (.agg ⟨[.bool s,.string b,.string c]⟩) else 0)*(bif bP (.agg ⟨[.bool s',.string b',.string c']⟩) then cU (.agg ⟨[.bool s',.string b',.string c']⟩) else 0))) (IntKind.i64.wrap ((bif bP (.agg ⟨[.bool s,.string b,.string c]⟩) then((bK (.agg ⟨[.bool s,.string b,.string c]⟩):Nat):Int) else 0)*(bif bP (.agg ⟨[.bool s',.string b',.string c']⟩) then((bK (.agg ⟨[.bool s',.string b',.string c']⟩):Nat):Int) else 0))).toNat=Q:=λh h'=>by
   have k:=sm h h';have m1:=gI k.1.1 k.2.1;have m2:=gI k.1.2 k.2.2;rw [h,h',cond_true,cond_true,cond_true,cond_true,jt k.1.1 k.2.1,jt k.1.2 k.2.2];rw [dd] at m2 ⊢;rw [hQ2,Int.toNat_natCast];exact⟨⟨by omega,by omega,by omega⟩,rfl⟩
  have e2:Rat.divInt (aG (av (aG (av (cU (.agg ⟨[.bool s,.string b,.string c]⟩)))*aG (av (cU (.agg ⟨[.bool s',.string b',.string c']⟩)))))) (aG (av (aG (av (((bK (.agg ⟨[.bool s,.string b,.string c]⟩):Nat):Int)))*aG (av (((bK (.agg ⟨[.bool s',.string b',.string c']⟩):Nat):Int))))))=Q:=by
   simp only [aq];rw [dd,Rat.divInt_ofNat,hQ2]
  have i2:cZ 8589934592 (av (aG (av (((bK (.agg ⟨[.bool s,.string b,.string c]⟩):Nat):Int)))*aG (av (((bK (.agg ⟨[.bool s',.string b',.string c']⟩):Nat):Int))))):=qd (ii b5) (ii b8) (by omega);have i3:aG (av (aG (av (((bK (.agg ⟨[.bool s,.string b,.string c]⟩):Nat):Int)))*aG (av (((bK (.agg ⟨[.bool s',.string b',.string c']⟩):Nat):Int)))))≠0:=by
   rw [aq,aq,aq,dd];omega
  have i1:cZ 8589934592 (av (aG (av (cU (.agg ⟨[.bool s,.string b,.string c]⟩)))*aG (av (cU (.agg ⟨[.bool s',.string b',.string c']⟩))))):=qd b3 b6 (by omega);with_unfolding_all exact⟨r1,r2,⟨λh1=>⟨λh2=>⟨(w h1 h2).1,⟨[some 2],aa [(4,.ptr 0 0 0 0)] [ba (decide (Q.num < 0)) (ag Q.num.natAbs) (aK Q.den) 0] 1 [],Wo ⟨qZ ⟨⟨kw (w h1 h2).2,rfl⟩,⟨kx (w h1 h2).2,rfl⟩,⟨ky (w h1 h2).2,rfl⟩,qQ⟩,qQ⟩ ⟨pP,qQ⟩ trivial,rfl,rfl⟩⟩,λh2=>⟨p1,p2,⟨iN,iM⟩,⟨iD,iE⟩,⟨⟨i1,i2⟩,i3⟩,⟨[some 2],aa [(4,.ptr 0 0 0 0)] [ba (decide (Q.num < 0)) (ag Q.num.natAbs) (aK Q.den) 0] 1 [],Wo ⟨qZ ⟨⟨kw e2,rfl⟩,⟨kx e2,rfl⟩,⟨ky e2,rfl⟩,qQ⟩,qQ⟩ ⟨pP,qQ⟩ trivial,rfl,rfl⟩⟩⟩,λh1=>⟨λh=>(nomatch h),λ_=>⟨p1,p2,⟨iN,iM⟩,⟨iD,iE⟩,⟨⟨i1,i2⟩,i3⟩,⟨[some 2],aa [(4,.ptr 0 0 0 0)] [ba (decide (Q.num < 0)) (ag Q.num.natAbs) (aK Q.den) 0] 1 [],Wo ⟨qZ ⟨⟨kw e2,rfl⟩,⟨kx e2,rfl⟩,⟨ky e2,rfl⟩,qQ⟩,qQ⟩ ⟨pP,qQ⟩ trivial,rfl,rfl⟩⟩⟩⟩⟩
 ·cases e
def A6:List PV->Option Ans
 |[.val v,.val u]=>some ⟨some (isRk 1073741824 v/\isRk 1073741824 u),.val (au (aF v+aF u)),[]⟩
 |_=>none
def D244:Opt:={ perm:=iS 7 [(0,true),(1,true),(3,true),(4,true),(7,true),(8,true),(2,false),(5,false),(6,false),(9,false),(10,false)] }
theorem DC:ak D244.toOrd Tryz.f244 2=true:=by kernel_rfl
theorem f244:FnOk Tryz.prog 244 A6:=by
 refine FnOk.ofW aj (am (l:=[(180,uS),(181,wK),(182,uT),(183,wM),(186,wJ),(225,uR)]) (own:=[]) (inl:=[]) (by simp [f180,f181,f182,f183,f186,f225]) (by simp)) Tryz.func244 D244 2 DC λargs r e=>?_;unfold A6 at e;split at e
 ·rename_i v u
  cases e;refine⟨by simp,λhm=>?_⟩;obtain⟨hv,hu⟩:=hm _ rfl;have r1:=hv.R (by decide);have r2:=hu.R (by decide);have p1:isRk 17179869184 v:=hv.mono (by decide);have p2:isRk 17179869184 u:=hu.mono (by decide);have b1:=hv.b;have b2:=hu.b;obtain⟨s,b,c,rfl,hb,hc⟩:=hv;obtain⟨s',b',c',rfl,hb',hc'⟩:=hu;refine⟨[],aa [(0,.val (.agg ⟨[.bool s,.string b,.string c]⟩)),(1,.val (.agg ⟨[.bool s',.string b',.string c']⟩))] [] 0 [],Wo trivial ⟨rfl,rfl,qQ⟩ trivial,?_⟩;obtain⟨K,hK⟩:∃K,K=1073741824:=⟨_,rfl⟩;rw [<-hK] at b1 b2;obtain⟨b3,b4,b5⟩:=b1;obtain⟨b6,b7,b8⟩:=b2;have iN:cZ 17179869184 (av (cU (.agg ⟨[.bool s,.string b,.string c]⟩))):=br b3 (by omega);have iD:cZ 17179869184 (av ((bK (.agg ⟨[.bool s,.string b,.string c]⟩):Nat):Int)):=br (ii b5) (by omega);have iM:cZ 17179869184 (av (cU (.agg ⟨[.bool s',.string b',.string c']⟩))):=br b6 (by omega);have iE:cZ 17179869184 (av ((bK (.agg ⟨[.bool s',.string b',.string c']⟩):Nat):Int)):=br (ii b8) (by omega);have sm:bP (.agg ⟨[.bool s,.string b,.string c]⟩)=true->bP (.agg ⟨[.bool s',.string b',.string c']⟩)=true->((cU (.agg ⟨[.bool s,.string b,.string c]⟩)).natAbs < 16777216/\(((bK (.agg ⟨[.bool s,.string b,.string c]⟩):Nat):Int)).natAbs < 16777216)/\(cU (.agg ⟨[.bool s',.string b',.string c']⟩)).natAbs < 16777216/\(((bK (.agg ⟨[.bool s',.string b',.string c']⟩):Nat):Int)).natAbs < 16777216:=λh h'=>by
   have k1:=mW h;have k2:=mW h';exact⟨⟨k1.1,by simpa using k1.2.2⟩,k2.1,by simpa using k2.2.2⟩
  obtain⟨Q,hQ⟩:∃Q,Q=aF (.agg ⟨[.bool s,.string b,.string c]⟩)+aF (.agg ⟨[.bool s',.string b',.string c']⟩):=⟨_,rfl⟩;rw [<-hQ];have hQ2:Q=mkRat (cU (.agg ⟨[.bool s,.string b,.string c]⟩)*((bK (.agg ⟨[.bool s',.string b',.string c']⟩):Nat):Int)+cU (.agg ⟨[.bool s',.string b',.string c']⟩)*((bK (.agg ⟨[.bool s,.string b,.string c]⟩):Nat):Int)) (bK (.agg ⟨[.bool s,.string b,.string c]⟩)*bK (.agg ⟨[.bool s',.string b',.string c']⟩)):=by rw [hQ,j6,j6,Rat.mkRat_add_mkRat _ _ (by omega) (by omega)]
  have dd:((bK (.agg ⟨[.bool s,.string b,.string c]⟩):Nat):Int)*((bK (.agg ⟨[.bool s',.string b',.string c']⟩):Nat):Int)=((bK (.agg ⟨[.bool s,.string b,.string c]⟩)*bK (.agg ⟨[.bool s',.string b',.string c']⟩):Nat):Int):=by rw [Int.natCast_mul]
  have dpos:0 < bK (.agg ⟨[.bool s,.string b,.string c]⟩)*bK (.agg ⟨[.bool s',.string b',.string c']⟩):=Nat.mul_pos b4 b7;have w:bP (.agg ⟨[.bool s,.string b,.string c]⟩)=true->bP (.agg ⟨[.bool s',.string b',.string c']⟩)=true->((IntKind.i64.wrap (IntKind.i64.wrap ((bif bP (.agg ⟨[.bool s,.string b,.string c]⟩) then cU (.agg ⟨[.bool s,.string b,.string c]⟩) else 0)*(bif bP (.agg ⟨[.bool s',.string b',.string c']⟩) then((bK (.agg ⟨[.bool s',.string b',.string c']⟩):Nat):Int) else 0))+IntKind.i64.wrap ((bif bP (.agg ⟨[.bool s',.string b',.string c']⟩) then cU (.agg ⟨[.bool s',.string b',.string c']⟩) else 0)*(bif bP (.agg ⟨[.bool s,.string b,.string c]⟩) then((bK (.agg ⟨[.bool s,.string b,.string c]⟩):Nat):Int) else 0)))).natAbs < 72057594037927936/\0 < IntKind.i64.wrap ((bif bP (.agg ⟨[.bool s,.string b,.string c]⟩) then((bK (.agg ⟨[.bool s,.string b,.string c]⟩):Nat):Int) else 0)*(bif bP (.agg ⟨[.bool s',.string b',.string c']⟩) then((bK (.agg ⟨[.bool s',.string b',.string c']⟩):Nat):Int) else 0))/\IntKind.i64.wrap ((bif bP (.agg ⟨[.bool s,.string b,.string c]⟩) then((bK (.agg ⟨[.bool s,.string b,.string c]⟩):Nat):Int) else 0)*(bif bP (.agg ⟨[.bool s',.string b',.string c']⟩) then((bK (.agg ⟨[.bool s',.string b',.string c']⟩):Nat):Int) else 0)) < 72057594037927936)/\mkRat (IntKind.i64.wrap (IntKind.i64.wrap ((bif bP (.agg ⟨[.bool s,.string b,.string c]⟩) then cU (.agg ⟨[.bool s,.string b,.string c]⟩) else 0)*(bif bP (.agg ⟨[.bool s',.string b',.string c']⟩) then((bK (.agg ⟨[.bool s',.string b',.string c']⟩):Nat):Int) else 0))+IntKind.i64.wrap ((bif bP (.agg ⟨[.bool s',.string b',.string c']⟩) then cU (.agg ⟨[.bool s',.string b',.string c']⟩) else 0)*(bif bP (.agg ⟨[.bool s,.string b,.string c]⟩) then((bK (.agg ⟨[.bool s,.string b,.string c]⟩):Nat):Int) else 0)))) (IntKind.i64.wrap ((bif bP (.agg ⟨[.bool s,.string b,.string c]⟩) then((bK (.agg ⟨[.bool s,.string b,.string c]⟩):Nat):Int) else 0)*(bif bP (.agg ⟨[.bool s',.string b',.string c']⟩) then((bK (.agg ⟨[.bool s',.string b',.string c']⟩):Nat):Int) else 0))).toNat=Q:=λh h'=>by
   have k:=sm h h';have m0:=gI k.1.1 k.2.2;have m1:=gI k.2.1 k.1.2;have m2:=gI k.1.2 k.2.2;rw [h,h',cond_true,cond_true,cond_true,cond_true,jt k.1.1 k.2.2,jt k.2.1 k.1.2,jt k.1.2 k.2.2,wrap64 (by omega) (by omega)];rw [dd] at m2 ⊢;rw [hQ2,Int.toNat_natCast];exact⟨⟨by omega,by omega,by omega⟩,rfl⟩
  have e2:Rat.divInt (aG (av (aG (av (aG (av (cU (.agg ⟨[.bool s,.string b,.string c]⟩)))*aG (av (((bK (.agg ⟨[.bool s',.string b',.string c']⟩):Nat):Int)))))+aG (av (aG (av (cU (.agg ⟨[.bool s',.string b',.string c']⟩)))*aG (av (((bK (.agg ⟨[.bool s,.string b,.string c]⟩):Nat):Int)))))))) (aG (av (aG (av (((bK (.agg ⟨[.bool s,.string b,.string c]⟩):Nat):Int)))*aG (av (((bK (.agg ⟨[.bool s',.string b',.string c']⟩):Nat):Int))))))=Q:=by
   simp only [aq];rw [dd,Rat.divInt_ofNat,hQ2]
  have i2:cZ 8589934592 (av (aG (av (((bK (.agg ⟨[.bool s,.string b,.string c]⟩):Nat):Int)))*aG (av (((bK (.agg ⟨[.bool s',.string b',.string c']⟩):Nat):Int))))):=qd (ii b5) (ii b8) (by omega);have i3:aG (av (aG (av (((bK (.agg ⟨[.bool s,.string b,.string c]⟩):Nat):Int)))*aG (av (((bK (.agg ⟨[.bool s',.string b',.string c']⟩):Nat):Int)))))≠0:=by
   rw [aq,aq,aq,dd];omega
  have i0:cZ 17179869184 (av (aG (av (cU (.agg ⟨[.bool s,.string b,.string c]⟩)))*aG (av (((bK (.agg ⟨[.bool s',.string b',.string c']⟩):Nat):Int))))):=qd b3 (ii b8) (by omega);have i1:cZ 17179869184 (av (aG (av (cU (.agg ⟨[.bool s',.string b',.string c']⟩)))*aG (av (((bK (.agg ⟨[.bool s,.string b,.string c]⟩):Nat):Int))))):=qd b6 (ii b5) (by omega);have i4:cZ 8589934592 (av (aG (av (aG (av (cU (.agg ⟨[.bool s,.string b,.string c]⟩)))*aG (av (((bK (.agg ⟨[.bool s',.string b',.string c']⟩):Nat):Int)))))+aG (av (aG (av (cU (.agg ⟨[.bool s',.string b',.string c']⟩)))*aG (av (((bK (.agg ⟨[.bool s,.string b,.string c]⟩):Nat):Int))))))):=by
   rw [aq,aq,aq,aq,aq,aq];exact br (CT (yE b3 (ii b8)) (yE b6 (ii b5))) (by omega)
  with_unfolding_all exact⟨r1,r2,⟨λh1=>⟨λh2=>⟨(w h1 h2).1,⟨[some 2],aa [(4,.ptr 0 0 0 0)] [ba (decide (Q.num < 0)) (ag Q.num.natAbs) (aK Q.den) 0] 1 [],Wo ⟨qZ ⟨⟨kw (w h1 h2).2,rfl⟩,⟨kx (w h1 h2).2,rfl⟩,⟨ky (w h1 h2).2,rfl⟩,qQ⟩,qQ⟩ ⟨pP,qQ⟩ trivial,rfl,rfl⟩⟩,λh2=>⟨p1,p2,⟨iN,iE⟩,⟨iM,iD⟩,⟨i0,i1⟩,⟨iD,iE⟩,⟨⟨i4,i2⟩,i3⟩,⟨[some 2],aa [(4,.ptr 0 0 0 0)] [ba (decide (Q.num < 0)) (ag Q.num.natAbs) (aK Q.den) 0] 1 [],Wo ⟨qZ ⟨⟨kw e2,rfl⟩,⟨kx e2,rfl⟩,⟨ky e2,rfl⟩,qQ⟩,qQ⟩ ⟨pP,qQ⟩ trivial,rfl,rfl⟩⟩⟩,λh1=>⟨λh=>(nomatch h),λ_=>⟨p1,p2,⟨iN,iE⟩,⟨iM,iD⟩,⟨i0,i1⟩,⟨iD,iE⟩,⟨⟨i4,i2⟩,i3⟩,⟨[some 2],aa [(4,.ptr 0 0 0 0)] [ba (decide (Q.num < 0)) (ag Q.num.natAbs) (aK Q.den) 0] 1 [],Wo ⟨qZ ⟨⟨kw e2,rfl⟩,⟨kx e2,rfl⟩,⟨ky e2,rfl⟩,qQ⟩,qQ⟩ ⟨pP,qQ⟩ trivial,rfl,rfl⟩⟩⟩⟩⟩
 ·cases e
def yG:List PV->Option Ans
 |[.val v,.val u]=>some ⟨some (isRk 1073741824 v/\isRk 1073741824 u),.val (au (aF v - aF u)),[]⟩
 |_=>none
theorem DD:ak {} Tryz.f221 2=true:=by kernel_rfl
theorem f221:FnOk Tryz.prog 221 yG:=by
 refine FnOk.ofW aj (am (l:=[(244,A6)]) (own:=[]) (inl:=[]) (by simp [f244]) (by simp)) Tryz.func221 {} 2 DD λargs r e=>?_;unfold yG at e;split at e
 ·rename_i v u
  cases e;refine⟨by simp,λhm=>?_⟩;obtain⟨hv,hu⟩:=hm _ rfl;obtain⟨s,b,c,rfl,hb,hc⟩:=hv;obtain⟨s',b',c',rfl,hb',hc'⟩:=hu;refine⟨[],aa [(0,.val (.agg ⟨[.bool s,.string b,.string c]⟩)),(1,.val (.agg ⟨[.bool s',.string b',.string c']⟩))] [] 0 [],Wo trivial ⟨rfl,rfl,qQ⟩ trivial,?_⟩;obtain⟨Q,hQ⟩:∃Q,Q=aF (.agg ⟨[.bool s,.string b,.string c]⟩) - aF (.agg ⟨[.bool s',.string b',.string c']⟩):=⟨_,rfl⟩;rw [<-hQ];have e2:aF (.agg ⟨[.bool s,.string b,.string c]⟩)+aF (.agg ⟨[.bool (!s'),.string b',.string c']⟩)=Q:=by rw [hQ,tI,Rat.sub_eq_add_neg]
  with_unfolding_all exact⟨⟨⟨_,_,_,rfl,hb,hc⟩,_,_,_,rfl,hb',hc'⟩,⟨[some 2],aa [(4,.ptr 0 0 0 0)] [ba (decide (Q.num < 0)) (ag Q.num.natAbs) (aK Q.den) 0] 1 [],Wo ⟨qZ ⟨⟨kw e2,rfl⟩,⟨kx e2,rfl⟩,⟨ky e2,rfl⟩,qQ⟩,qQ⟩ ⟨pP,qQ⟩ trivial,rfl,rfl⟩⟩
 ·cases e
end Go.Proofs
namespace Go.Num
structure RatS where
 s:Bool
 b:ByteArray
 c:ByteArray
structure PtS where
 x:RatS
 y:RatS
def RatS.v (r:RatS):Value:=.agg ⟨[.bool r.s,.string r.b,.string r.c]⟩
def RatS.cells (r:RatS):List PV:=[.val (.bool r.s),.val (.string r.b),.val (.string r.c)]
def PtS.v (p:PtS):Value:=.agg ⟨[.bool p.x.s,.string p.x.b,.string p.x.c,.bool p.y.s,.string p.y.b,.string p.y.c]⟩
def PtS.cells (p:PtS):List PV:=[.val (.bool p.x.s),.val (.string p.x.b),.val (.string p.x.c),.val (.bool p.y.s),.val (.string p.y.b),.val (.string p.y.c)]
def ci:List PV->PtS
 |[.val (.bool s),.val (.string b),.val (.string c),.val (.bool t),.val (.string d),.val (.string e)]=>⟨⟨s,b,c⟩,⟨t,d,e⟩⟩
 |_=>⟨⟨false,⟨#[]⟩,⟨#[]⟩⟩,⟨false,⟨#[]⟩,⟨#[]⟩⟩⟩
def aN:Value->PtS
 |.agg ⟨[.bool s,.string b,.string c,.bool t,.string d,.string e]⟩=>⟨⟨s,b,c⟩,⟨t,d,e⟩⟩
 |_=>⟨⟨false,⟨#[]⟩,⟨#[]⟩⟩,⟨false,⟨#[]⟩,⟨#[]⟩⟩⟩
def RatS.le (k:Nat) (r:RatS):Prop:=r.b.size<=k/\r.c.size<=k
def PtS.le (k:Nat) (p:PtS):Prop:=p.x.le k/\p.y.le k
def isPk (k:Nat) (v:Value):Prop:=∃p:PtS,v=p.v/\p.le k
theorem RatS.k {r:RatS} {k:Nat} (h:r.le k):isRk k r.v:=⟨_,_,_,rfl,h.1,h.2⟩
end Go.Num
namespace Go.Proofs
def ah (p:PtS):Bool:=bc p.x.v&&bc p.y.v
def cD (b:Bool):Int:=bif b then 0 else 1
def EF:List PV->Option Ans
 |[.val v]=>some ⟨some (isPk 4294967296 v),.val (.int .i64 (cD (ah (aN v)))),[]⟩
 |_=>none
theorem E8:ak {} Tryz.f59 1=true:=by kernel_rfl
theorem f59:FnOk Tryz.prog 59 EF:=by
 refine FnOk.ofW aj (am (l:=[(96,E6)]) (own:=[]) (inl:=[]) (by simp [f96]) (by simp)) Tryz.func59 {} 1 E8 λargs r e=>?_;unfold EF at e;split at e
 ·rename_i v
  cases e;refine⟨by simp,λhm=>?_⟩;obtain⟨p,rfl,hx,hy⟩:=hm _ rfl;refine⟨[],aa [(0,.val p.v)] [] 0 [],Wo trivial ⟨rfl,qQ⟩ trivial,?_⟩;have hno:∀b:Bool,((bif b then(0:Int) else 1) != 0)=true->b=false:=λb h=>by cases b<;>first|rfl|cases h
  have hyes:∀b:Bool,((bif b then(0:Int) else 1) != 0)=false->b=true:=λb h=>by cases b<;>first|rfl|cases h
  have r1:bc p.x.v=false->PV.val (.int .i64 1)=PV.val (.int .i64 (cD (ah p))):=λh=>by unfold ah;rw [h];rfl
  have r2:bc p.y.v=false->PV.val (.int .i64 1)=PV.val (.int .i64 (cD (ah p))):=λh=>by unfold ah;rw [h,Bool.and_false];rfl
  have r3:bc p.x.v=true->bc p.y.v=true->PV.val (.int .i64 0)=PV.val (.int .i64 (cD (ah p))):=λh h'=>by unfold ah;rw [h,h'];rfl
  with_unfolding_all refine⟨RatS.k hx,λh=>⟨RatS.k hy,λh2=>⟨[],aa [(2,.val (.int .i64 (cD (ah p))))] [] 0 [],Wo trivial ⟨r2 (hno _ h2),qQ⟩ trivial,rfl,rfl⟩,λh2=>⟨[],aa [(2,.val (.int .i64 (cD (ah p))))] [] 0 [],Wo trivial ⟨r3 (hyes _ h) (hyes _ h2),qQ⟩ trivial,rfl,rfl⟩⟩,λh=>⟨λh'=>⟨[],aa [(2,.val (.int .i64 (cD (ah p))))] [] 0 [],Wo trivial ⟨r1 (hno _ h),qQ⟩ trivial,rfl,rfl⟩,λh'=>(nomatch h')⟩⟩
 ·cases e
def zF:List PV->Option Ans
 |[.val v]=>some ⟨some (isPk 4294967296 v),.val (.int .i64 (cD (ah (aN v)))),[]⟩
 |_=>none
theorem E9:ak {} Tryz.f67 1=true:=by kernel_rfl
theorem f67:FnOk Tryz.prog 67 zF:=by
 refine FnOk.ofW aj (am (l:=[(100,AO)]) (own:=[]) (inl:=[]) (by simp [f100]) (by simp)) Tryz.func67 {} 1 E9 λargs r e=>?_;unfold zF at e;split at e
 ·rename_i v
  cases e;refine⟨by simp,λhm=>?_⟩;obtain⟨p,rfl,hx,hy⟩:=hm _ rfl;refine⟨[],aa [(0,.val p.v)] [] 0 [],Wo trivial ⟨rfl,qQ⟩ trivial,?_⟩;have hno:∀b:Bool,((bif b then(0:Int) else 1) != 0)=true->b=false:=λb h=>by cases b<;>first|rfl|cases h
  have hyes:∀b:Bool,((bif b then(0:Int) else 1) != 0)=false->b=true:=λb h=>by cases b<;>first|rfl|cases h
  have r1:bc p.x.v=false->PV.val (.int .i64 1)=PV.val (.int .i64 (cD (ah p))):=λh=>by unfold ah;rw [h];rfl
  have r2:bc p.y.v=false->PV.val (.int .i64 1)=PV.val (.int .i64 (cD (ah p))):=λh=>by unfold ah;rw [h,Bool.and_false];rfl
  have r3:bc p.x.v=true->bc p.y.v=true->PV.val (.int .i64 0)=PV.val (.int .i64 (cD (ah p))):=λh h'=>by unfold ah;rw [h,h'];rfl
  with_unfolding_all refine⟨Nat,λi=>i<=2/\(0 < i->bc p.x.v=true)/\(1 < i->bc p.y.v=true),λi=>aa [(9,.sl 0 0 0 2),(10,.val (goInt 2)),(11,.val (goInt i))] [⟨23,3,0,false,false,2,λj=>(bif Nat.beq j 0 then p.x else p.y).cells⟩] 1 [],λi=>2 - i,⟨0,[some 1],⟨by decide,λh=>absurd h (by decide),λh=>absurd h (by decide)⟩,Wo ⟨qZ (λj hj=>?_),qQ⟩ ⟨pP,rfl,rfl,qQ⟩ trivial⟩,λi hi=>?_⟩
  ·have hj:j < 2:=hj
   match j,hj with
   |0,_=>rfl
   |1,_=>rfl
   |j+2,h=>omega
  ·obtain⟨h2,ha,hb⟩:i<=2/\(0 < i->bc p.x.v=true)/\(1 < i->bc p.y.v=true):=hi;with_unfolding_all refine⟨λh=>?_,λh=>⟨[],aa [(2,.val (.int .i64 (cD (ah p))))] [] 0 [],Wo trivial ⟨r3 (ha (by have:=dU h;omega)) (hb (by have:=dU h;omega)),qQ⟩ trivial,rfl,rfl⟩⟩
   have h:=bx h;have e:(i:Int).toNat=i:=Int.toNat_natCast i;have hk:(bif Nat.beq (0+(i:Int).toNat) 0 then p.x else p.y).le 4294967296:=by
    cases Nat.beq (0+(i:Int).toNat) 0
    ·exact hy
    ·exact hx
   with_unfolding_all refine⟨⟨by omega,by omega⟩,RatS.k hk,λh'=>⟨[],aa [(2,.val (.int .i64 (cD (ah p))))] [] 0 [],Wo trivial ⟨?_,qQ⟩ trivial,rfl,rfl⟩,λh'=>⟨i+1,[some 0],⟨by omega,?_,?_⟩,by show 2 - (i+1) < 2 - i;omega,Wo ⟨qZ (λ_ _=>rfl),qQ⟩ ⟨pP,rfl,?_,qQ⟩ trivial⟩⟩
   ·have h':bc (bif Nat.beq (0+(i:Int).toNat) 0 then p.x else p.y).v=false:=hno _ h';rw [e,Nat.zero_add] at h'
    match i,h2,h with
    |0,_,_=>exact r1 h'
    |1,_,_=>exact r2 h'
    |i+2,_,h=>omega
   ·intro _;have h':bc (bif Nat.beq (0+(i:Int).toNat) 0 then p.x else p.y).v=true:=hyes _ h';rw [e,Nat.zero_add] at h'
    match i,h2,h,ha with
    |0,_,_,_=>exact h'
    |1,_,_,ha=>exact ha (by decide)
    |i+2,_,h,_=>omega
   ·intro hi1;have h':bc (bif Nat.beq (0+(i:Int).toNat) 0 then p.x else p.y).v=true:=hyes _ h';rw [e,Nat.zero_add] at h'
    match i,h2,h,hi1 with
    |0,_,_,hi1=>omega
    |1,_,_,_=>exact h'
    |i+2,_,h,_=>omega
   ·show PV.val (.int .i64 (IntKind.i64.wrap ((i:Int)+1)))=PV.val (.int .i64 ((i+1:Nat):Int));rw [wrap64 (by omega) (by omega)];rfl
 ·cases e
end Go.Proofs
namespace Go.Num
def ai (g:Nat->List PV) (i:Nat):PtS:=ci (g i)
def isPL (k n:Nat) (g:Nat->List PV):Prop:=(∀i,i < n->g i=(ai g i).cells/\(ai g i).le k)/\n<=140737488355328
def bV (p:Nat->Bool):Nat->Nat->Int
 |0,_ => -1
 |k+1,i=>bif p i then(i:Int) else bV p k (i+1)
def aA (p:Nat->Bool) (n:Nat):Bool:=(List.range n).any p
theorem a8 {p:Nat->Bool} {n:Nat}:aA p n=true↔∃i,i < n/\p i=true:=by
 simp [aA]
theorem aE {p:Nat->Bool} {n:Nat}:aA p n=false↔∀i,i < n->p i=false:=by
 simp [aA]
theorem sr {p:Nat->Bool}:∀(k i:Nat),(∀j,i<=j->j < i+k->p j=false)/\bV p k i = -1\/∃j,i<=j/\j < i+k/\p j=true/\(∀l,i<=l->l < j->p l=false)/\bV p k i=j
 |0,i=>.inl ⟨λj h1 h2=>by omega,rfl⟩
 |k+1,i=>by
  unfold bV;cases h:p i with
  |true=>exact .inr ⟨i,Nat.le_refl _,by omega,h,λl h1 h2=>by omega,rfl⟩
  |false =>
   rcases sr (p:=p) k (i+1) with ⟨h1,h2⟩|⟨j,h1,h2,h3,h4,h5⟩
   ·refine .inl ⟨λj h3 h4=>?_,h2⟩;rcases Nat.eq_or_lt_of_le h3 with h5|h5
    ·rw [<-h5];exact h
    ·exact h1 j h5 (by omega)
   ·refine .inr ⟨j,by omega,by omega,h3,λl h6 h7=>?_,h5⟩;rcases Nat.eq_or_lt_of_le h6 with h8|h8
    ·rw [<-h8];exact h
    ·exact h4 l h8 h7
theorem ek (p:Nat->Bool) (n:Nat):decide (bV p n 0>=0)=aA p n:=by
 rcases sr (p:=p) n 0 with ⟨h1,h2⟩|⟨j,h1,h2,h3,_,h5⟩
 ·rw [h2,(aE (p:=p) (n:=n)).2 λi hi=>h1 i (Nat.zero_le _) (by omega)];rfl
 ·rw [h5,(a8 (p:=p) (n:=n)).2 ⟨j,by omega,h3⟩];exact decide_eq_true (by omega)
end Go.Num
namespace Go.Proofs
theorem ss:ak {} Tryz.f83 2=true:=by kernel_rfl
theorem su:ak {} Tryz.f65 2=true:=by kernel_rfl
theorem lc (b:Bool):((bif b then(0:Int) else 1) != 0) = !b:=by cases b<;>rfl
def A7:List PV->Option Ans
 |[.val v]=>some ⟨some (isPk 4294967296 v),.val (.bool (!ah (aN v))),[]⟩
 |_=>none
theorem DE:ak {} Tryz.f101 1=true:=by kernel_rfl
theorem f101:FnOk Tryz.prog 101 A7:=by
 refine FnOk.ofW aj (am (l:=[(67,zF)]) (own:=[]) (inl:=[]) (by simp [f67]) (by simp)) Tryz.func101 {} 1 DE λargs r e=>?_;unfold A7 at e;split at e
 ·rename_i v
  cases e;refine⟨by simp,λhm=>?_⟩;obtain⟨p,rfl,hp⟩:=hm _ rfl;refine⟨[],aa [(0,.val p.v)] [] 0 [],Wo trivial ⟨rfl,qQ⟩ trivial,?_⟩;with_unfolding_all exact⟨⟨p,rfl,hp⟩,[],aa [(2,.val (.bool (!ah p)))] [] 0 [],Wo trivial ⟨congrArg (λz=>PV.val (.bool z)) (lc _),qQ⟩ trivial,rfl,rfl⟩
 ·cases e
def oy:List PV->Option Ans
 |[.rs 6 n g,.val (.func (.func 101) ⟨[]⟩ ⟨[]⟩)]=>some ⟨some (isPL 4294967296 n g),.val (.int .i64 (bV (λi=>!ah (ai g i)) n 0)),[]⟩
 |_=>none
theorem yH:FnOk Tryz.prog 83 oy:=by
 refine FnOk.ofW aj (am (l:=[(101,A7)]) (own:=[]) (inl:=[]) (by simp [f101]) (by simp)) Tryz.func83 {} 2 ss λargs r e=>?_;unfold oy at e;split at e
 ·rename_i n g
  cases e;refine⟨by simp,λhm=>?_⟩;obtain⟨hg,hn⟩:=hm _ rfl;refine⟨[],aa [(0,.rs 6 n (λi=>(ai g i).cells)),(1,.val (.func (.func 101) ⟨[]⟩ ⟨[]⟩))] [] 0 [],Wo trivial ⟨⟨rfl,rfl,λi hi=>(hg i hi).1.symm⟩,rfl,qQ⟩ trivial,?_⟩;obtain⟨X,hX⟩:∃X,X=bV (λi=>!ah (ai g i)) n 0:=⟨_,rfl⟩;rw [<-hX];with_unfolding_all refine⟨Nat,λi=>i<=n/\bV (λi=>!ah (ai g i)) (n - i) i=X,λi=>aa [(0,.rs 6 n (λi=>(ai g i).cells)),(1,.val (.func (.func 101) ⟨[]⟩ ⟨[]⟩)),(7,.val (goInt n)),(8,.val (goInt i))] [] 0 [],λi=>n - i,⟨0,[],⟨Nat.zero_le _,hX.symm⟩,Wo trivial ⟨qW,rfl,rfl,rfl,qQ⟩ trivial⟩,λi hi=>?_⟩
  obtain⟨hin,hI⟩:i<=n/\bV (λi=>!ah (ai g i)) (n - i) i=X:=hi;with_unfolding_all refine⟨λh=>?_,λh=>⟨[],aa [(4,.val (.int .i64 X))] [] 0 [],Wo trivial ⟨?_,qQ⟩ trivial,rfl,rfl⟩⟩
  ·have h:=bx h;have e:(i:Int).toNat=i:=Int.toNat_natCast i;have hstep:bV (λi=>!ah (ai g i)) (n - i) i=bif !ah (ai g i) then(i:Int) else bV (λi=>!ah (ai g i)) (n - (i+1)) (i+1):=by
    rw [show n - i=(n - (i+1))+1 by omega];rfl
   with_unfolding_all refine⟨⟨by omega,by omega⟩,⟨ai g (i:Int).toNat,rfl,by rw [e];exact(hg i (by omega)).2⟩,λh'=>⟨[],aa [(4,.val (.int .i64 X))] [] 0 [],Wo trivial ⟨?_,qQ⟩ trivial,rfl,rfl⟩,λh'=>⟨i+1,[],⟨by omega,?_⟩,by show n - (i+1) < n - i;omega,Wo trivial ⟨qW,rfl,rfl,?_,qQ⟩ trivial⟩⟩
   ·have h':(!ah (ai g (i:Int).toNat))=true:=h';rw [e] at h';rw [h',cond_true] at hstep;exact congrArg (λz=>PV.val (.int .i64 z)) (hstep.symm.trans hI)
   ·have h':(!ah (ai g (i:Int).toNat))=false:=h';rw [e] at h';rw [h',cond_false] at hstep;exact hstep.symm.trans hI
   ·show PV.val (.int .i64 (IntKind.i64.wrap ((i:Int)+1)))=PV.val (.int .i64 ((i+1:Nat):Int));rw [wrap64 (by omega) (by omega)];rfl
  ·have h:=dU h;rw [show n - i=0 by omega] at hI;exact congrArg (λz=>PV.val (.int .i64 z)) hI
 ·cases e
def oz:List PV->Option Ans
 |[.rs 6 n g,.val (.func (.func 101) ⟨[]⟩ ⟨[]⟩)]=>some ⟨some (isPL 4294967296 n g),.val (.bool (aA (λi=>!ah (ai g i)) n)),[]⟩
 |_=>none
theorem yI:FnOk Tryz.prog 65 oz:=by
 refine FnOk.ofW aj (am (l:=[(83,oy)]) (own:=[]) (inl:=[]) (by simp [yH]) (by simp)) Tryz.func65 {} 2 su λargs r e=>?_;unfold oz at e;split at e
 ·rename_i n g
  cases e;refine⟨by simp,λhm=>?_⟩;have hp:=hm _ rfl;refine⟨[],aa [(0,.rs 6 n g),(1,.val (.func (.func 101) ⟨[]⟩ ⟨[]⟩))] [] 0 [],Wo trivial ⟨⟨rfl,rfl,λi hi=>rfl⟩,rfl,qQ⟩ trivial,?_⟩;with_unfolding_all exact⟨hp,[],aa [(4,.val (.bool (aA (λi=>!ah (ai g i)) n)))] [] 0 [],Wo trivial ⟨congrArg (λz=>PV.val (.bool z)) (ek _ _),qQ⟩ trivial,rfl,rfl⟩
 ·cases e
def Fa:List PV->Option Ans
 |[.val v]=>some ⟨some (isPk 4294967296 v),.val (.bool (!ah (aN v))),[]⟩
 |_=>none
theorem Fb:ak {} Tryz.f90 1=true:=by kernel_rfl
theorem f90:FnOk Tryz.prog 90 Fa:=by
 refine FnOk.ofW aj (am (l:=[(67,zF)]) (own:=[]) (inl:=[]) (by simp [f67]) (by simp)) Tryz.func90 {} 1 Fb λargs r e=>?_;unfold Fa at e;split at e
 ·rename_i v
  cases e;refine⟨by simp,λhm=>?_⟩;obtain⟨p,rfl,hp⟩:=hm _ rfl;refine⟨[],aa [(0,.val p.v)] [] 0 [],Wo trivial ⟨rfl,qQ⟩ trivial,?_⟩;with_unfolding_all exact⟨⟨p,rfl,hp⟩,[],aa [(2,.val (.bool (!ah p)))] [] 0 [],Wo trivial ⟨congrArg (λz=>PV.val (.bool z)) (lc _),qQ⟩ trivial,rfl,rfl⟩
 ·cases e
def sw:List PV->Option Ans
 |[.rs 6 n g,.val (.func (.func 90) ⟨[]⟩ ⟨[]⟩)]=>some ⟨some (isPL 4294967296 n g),.val (.int .i64 (bV (λi=>!ah (ai g i)) n 0)),[]⟩
 |_=>none
theorem A8:FnOk Tryz.prog 83 sw:=by
 refine FnOk.ofW aj (am (l:=[(90,Fa)]) (own:=[]) (inl:=[]) (by simp [f90]) (by simp)) Tryz.func83 {} 2 ss λargs r e=>?_;unfold sw at e;split at e
 ·rename_i n g
  cases e;refine⟨by simp,λhm=>?_⟩;obtain⟨hg,hn⟩:=hm _ rfl;refine⟨[],aa [(0,.rs 6 n (λi=>(ai g i).cells)),(1,.val (.func (.func 90) ⟨[]⟩ ⟨[]⟩))] [] 0 [],Wo trivial ⟨⟨rfl,rfl,λi hi=>(hg i hi).1.symm⟩,rfl,qQ⟩ trivial,?_⟩;obtain⟨X,hX⟩:∃X,X=bV (λi=>!ah (ai g i)) n 0:=⟨_,rfl⟩;rw [<-hX];with_unfolding_all refine⟨Nat,λi=>i<=n/\bV (λi=>!ah (ai g i)) (n - i) i=X,λi=>aa [(0,.rs 6 n (λi=>(ai g i).cells)),(1,.val (.func (.func 90) ⟨[]⟩ ⟨[]⟩)),(7,.val (goInt n)),(8,.val (goInt i))] [] 0 [],λi=>n - i,⟨0,[],⟨Nat.zero_le _,hX.symm⟩,Wo trivial ⟨qW,rfl,rfl,rfl,qQ⟩ trivial⟩,λi hi=>?_⟩
  obtain⟨hin,hI⟩:i<=n/\bV (λi=>!ah (ai g i)) (n - i) i=X:=hi;with_unfolding_all refine⟨λh=>?_,λh=>⟨[],aa [(4,.val (.int .i64 X))] [] 0 [],Wo trivial ⟨?_,qQ⟩ trivial,rfl,rfl⟩⟩
  ·have h:=bx h;have e:(i:Int).toNat=i:=Int.toNat_natCast i;have hstep:bV (λi=>!ah (ai g i)) (n - i) i=bif !ah (ai g i) then(i:Int) else bV (λi=>!ah (ai g i)) (n - (i+1)) (i+1):=by
    rw [show n - i=(n - (i+1))+1 by omega];rfl
   with_unfolding_all refine⟨⟨by omega,by omega⟩,⟨ai g (i:Int).toNat,rfl,by rw [e];exact(hg i (by omega)).2⟩,λh'=>⟨[],aa [(4,.val (.int .i64 X))] [] 0 [],Wo trivial ⟨?_,qQ⟩ trivial,rfl,rfl⟩,λh'=>⟨i+1,[],⟨by omega,?_⟩,by show n - (i+1) < n - i;omega,Wo trivial ⟨qW,rfl,rfl,?_,qQ⟩ trivial⟩⟩
   ·have h':(!ah (ai g (i:Int).toNat))=true:=h';rw [e] at h';rw [h',cond_true] at hstep;exact congrArg (λz=>PV.val (.int .i64 z)) (hstep.symm.trans hI)
   ·have h':(!ah (ai g (i:Int).toNat))=false:=h';rw [e] at h';rw [h',cond_false] at hstep;exact hstep.symm.trans hI
   ·show PV.val (.int .i64 (IntKind.i64.wrap ((i:Int)+1)))=PV.val (.int .i64 ((i+1:Nat):Int));rw [wrap64 (by omega) (by omega)];rfl
  ·have h:=dU h;rw [show n - i=0 by omega] at hI;exact congrArg (λz=>PV.val (.int .i64 z)) hI
 ·cases e
def sx:List PV->Option Ans
 |[.rs 6 n g,.val (.func (.func 90) ⟨[]⟩ ⟨[]⟩)]=>some ⟨some (isPL 4294967296 n g),.val (.bool (aA (λi=>!ah (ai g i)) n)),[]⟩
 |_=>none
theorem A9:FnOk Tryz.prog 65 sx:=by
 refine FnOk.ofW aj (am (l:=[(83,sw)]) (own:=[]) (inl:=[]) (by simp [A8]) (by simp)) Tryz.func65 {} 2 su λargs r e=>?_;unfold sx at e;split at e
 ·rename_i n g
  cases e;refine⟨by simp,λhm=>?_⟩;have hp:=hm _ rfl;refine⟨[],aa [(0,.rs 6 n g),(1,.val (.func (.func 90) ⟨[]⟩ ⟨[]⟩))] [] 0 [],Wo trivial ⟨⟨rfl,rfl,λi hi=>rfl⟩,rfl,qQ⟩ trivial,?_⟩;with_unfolding_all exact⟨hp,[],aa [(4,.val (.bool (aA (λi=>!ah (ai g i)) n)))] [] 0 [],Wo trivial ⟨congrArg (λz=>PV.val (.bool z)) (ek _ _),qQ⟩ trivial,rfl,rfl⟩
 ·cases e
def Ba:List PV->Option Ans
 |[.val v]=>some ⟨some (isPk 4294967296 v),.val (.bool (!ah (aN v))),[]⟩
 |_=>none
theorem DF:ak {} Tryz.f206 1=true:=by kernel_rfl
theorem f206:FnOk Tryz.prog 206 Ba:=by
 refine FnOk.ofW aj (am (l:=[(67,zF)]) (own:=[]) (inl:=[]) (by simp [f67]) (by simp)) Tryz.func206 {} 1 DF λargs r e=>?_;unfold Ba at e;split at e
 ·rename_i v
  cases e;refine⟨by simp,λhm=>?_⟩;obtain⟨p,rfl,hp⟩:=hm _ rfl;refine⟨[],aa [(0,.val p.v)] [] 0 [],Wo trivial ⟨rfl,qQ⟩ trivial,?_⟩;with_unfolding_all exact⟨⟨p,rfl,hp⟩,[],aa [(2,.val (.bool (!ah p)))] [] 0 [],Wo trivial ⟨congrArg (λz=>PV.val (.bool z)) (lc _),qQ⟩ trivial,rfl,rfl⟩
 ·cases e
def oA:List PV->Option Ans
 |[.rs 6 n g,.val (.func (.func 206) ⟨[]⟩ ⟨[]⟩)]=>some ⟨some (isPL 4294967296 n g),.val (.int .i64 (bV (λi=>!ah (ai g i)) n 0)),[]⟩
 |_=>none
theorem yJ:FnOk Tryz.prog 83 oA:=by
 refine FnOk.ofW aj (am (l:=[(206,Ba)]) (own:=[]) (inl:=[]) (by simp [f206]) (by simp)) Tryz.func83 {} 2 ss λargs r e=>?_;unfold oA at e;split at e
 ·rename_i n g
  cases e;refine⟨by simp,λhm=>?_⟩;obtain⟨hg,hn⟩:=hm _ rfl;refine⟨[],aa [(0,.rs 6 n (λi=>(ai g i).cells)),(1,.val (.func (.func 206) ⟨[]⟩ ⟨[]⟩))] [] 0 [],Wo trivial ⟨⟨rfl,rfl,λi hi=>(hg i hi).1.symm⟩,rfl,qQ⟩ trivial,?_⟩;obtain⟨X,hX⟩:∃X,X=bV (λi=>!ah (ai g i)) n 0:=⟨_,rfl⟩;rw [<-hX];with_unfolding_all refine⟨Nat,λi=>i<=n/\bV (λi=>!ah (ai g i)) (n - i) i=X,λi=>aa [(0,.rs 6 n (λi=>(ai g i).cells)),(1,.val (.func (.func 206) ⟨[]⟩ ⟨[]⟩)),(7,.val (goInt n)),(8,.val (goInt i))] [] 0 [],λi=>n - i,⟨0,[],⟨Nat.zero_le _,hX.symm⟩,Wo trivial ⟨qW,rfl,rfl,rfl,qQ⟩ trivial⟩,λi hi=>?_⟩
  obtain⟨hin,hI⟩:i<=n/\bV (λi=>!ah (ai g i)) (n - i) i=X:=hi;with_unfolding_all refine⟨λh=>?_,λh=>⟨[],aa [(4,.val (.int .i64 X))] [] 0 [],Wo trivial ⟨?_,qQ⟩ trivial,rfl,rfl⟩⟩
  ·have h:=bx h;have e:(i:Int).toNat=i:=Int.toNat_natCast i;have hstep:bV (λi=>!ah (ai g i)) (n - i) i=bif !ah (ai g i) then(i:Int) else bV (λi=>!ah (ai g i)) (n - (i+1)) (i+1):=by
    rw [show n - i=(n - (i+1))+1 by omega];rfl
   with_unfolding_all refine⟨⟨by omega,by omega⟩,⟨ai g (i:Int).toNat,rfl,by rw [e];exact(hg i (by omega)).2⟩,λh'=>⟨[],aa [(4,.val (.int .i64 X))] [] 0 [],Wo trivial ⟨?_,qQ⟩ trivial,rfl,rfl⟩,λh'=>⟨i+1,[],⟨by omega,?_⟩,by show n - (i+1) < n - i;omega,Wo trivial ⟨qW,rfl,rfl,?_,qQ⟩ trivial⟩⟩
   ·have h':(!ah (ai g (i:Int).toNat))=true:=h';rw [e] at h';rw [h',cond_true] at hstep;exact congrArg (λz=>PV.val (.int .i64 z)) (hstep.symm.trans hI)
   ·have h':(!ah (ai g (i:Int).toNat))=false:=h';rw [e] at h';rw [h',cond_false] at hstep;exact hstep.symm.trans hI
   ·show PV.val (.int .i64 (IntKind.i64.wrap ((i:Int)+1)))=PV.val (.int .i64 ((i+1:Nat):Int));rw [wrap64 (by omega) (by omega)];rfl
  ·have h:=dU h;rw [show n - i=0 by omega] at hI;exact congrArg (λz=>PV.val (.int .i64 z)) hI
 ·cases e
def oB:List PV->Option Ans
 |[.rs 6 n g,.val (.func (.func 206) ⟨[]⟩ ⟨[]⟩)]=>some ⟨some (isPL 4294967296 n g),.val (.bool (aA (λi=>!ah (ai g i)) n)),[]⟩
 |_=>none
theorem yK:FnOk Tryz.prog 65 oB:=by
 refine FnOk.ofW aj (am (l:=[(83,oA)]) (own:=[]) (inl:=[]) (by simp [yJ]) (by simp)) Tryz.func65 {} 2 su λargs r e=>?_;unfold oB at e;split at e
 ·rename_i n g
  cases e;refine⟨by simp,λhm=>?_⟩;have hp:=hm _ rfl;refine⟨[],aa [(0,.rs 6 n g),(1,.val (.func (.func 206) ⟨[]⟩ ⟨[]⟩))] [] 0 [],Wo trivial ⟨⟨rfl,rfl,λi hi=>rfl⟩,rfl,qQ⟩ trivial,?_⟩;with_unfolding_all exact⟨hp,[],aa [(4,.val (.bool (aA (λi=>!ah (ai g i)) n)))] [] 0 [],Wo trivial ⟨congrArg (λz=>PV.val (.bool z)) (ek _ _),qQ⟩ trivial,rfl,rfl⟩
 ·cases e
end Go.Proofs
namespace Go.Num
def GH:List PV->Int×Int
 |[.val (.int .i64 a),.val (.int .i64 b)]=>(a,b)
 |_=>(0,0)
def ax (q:Int×Int):List PV:=[.val (.int .i64 q.1),.val (.int .i64 q.2)]
def kz (h:Nat->List PV) (i:Nat):Int×Int:=GH (h i)
def j7 (m:Nat) (h:Nat->List PV):Prop:=(∀i,i < m->h i=ax (kz h i))/\m<=140737488355328
def mE (r:RatS):Bool:=decide (12 < r.b.size)||decide (12 < r.c.size)
def bh (p:PtS):Bool:=mE p.x||mE p.y
def dK (x y:Int×Int):Bool:=decide (x.1 < y.1)||decide (x.1=y.1)&&decide (x.2 < y.2)
def gN (n:Nat) (q:Nat->Int×Int) (i:Nat):Bool:=decide ((q i).1 < 0)||decide ((q i).2<=(q i).1)||decide ((n:Int)<=(q i).2)||decide (0 < i)&&!dK (q (i - 1)) (q i)
end Go.Num
namespace Go.Proofs
def bX (n:Nat) (q:Nat->Int×Int) (m:Nat):Bool:=!aA (gN n q) m
def cG (n:Nat) (p:Nat->PtS) (m:Nat) (q:Nat->Int×Int):Bool:=decide (n<=1000)&&!aA (λi=>!ah (p i)) n&&bX n q m
def Fc:List PV->Option Ans
 |[.rs 6 n g]=>some ⟨some (isPL 140737488355328 n g),.val (.bool (aA (λi=>bh (ai g i)) n)),[]⟩
 |_=>none
theorem Ff:ak {} Tryz.f51 1=true:=by kernel_rfl
theorem f51:FnOk Tryz.prog 51 Fc:=by
 refine FnOk.ofW aj (am (l:=[]) (own:=[]) (inl:=[]) (by simp) (by simp)) Tryz.func51 {} 1 Ff λargs r e=>?_;unfold Fc at e;split at e
 ·rename_i n g
  cases e;refine⟨by simp,λhm=>?_⟩;obtain⟨hg,hn⟩:=hm _ rfl;refine⟨[],aa [(0,.rs 6 n (λi=>(ai g i).cells))] [] 0 [],Wo trivial ⟨⟨rfl,rfl,λi hi=>(hg i hi).1.symm⟩,qQ⟩ trivial,?_⟩;with_unfolding_all refine⟨Nat,λi=>i<=n/\∀j,j < i->bh (ai g j)=false,λi=>aa [(0,.rs 6 n (λi=>(ai g i).cells)),(3,.val (goInt i))] [] 0 [],λi=>n - i,⟨0,[],⟨Nat.zero_le _,λj hj=>by omega⟩,Wo trivial ⟨qW,rfl,qQ⟩ trivial⟩,λi hi=>?_⟩
  obtain⟨hin,hI⟩:i<=n/\∀j,j < i->bh (ai g j)=false:=hi;have rTxb:(i:Int) < n->decide ((((ai g (i:Int).toNat).x.b.size:Nat):Int) > 12)=true->PV.val (.bool true)=PV.val (.bool (aA (λi=>bh (ai g i)) n)):=λhi h=>by
   have h:(((ai g i).x.b.size:Nat):Int) > 12:=of_decide_eq_true h;have e:bh (ai g i)=true:=by simp only [bh,mE,Bool.or_eq_true,decide_eq_true_eq];omega
   rw [a8.2 ⟨i,by omega,e⟩]
  have rTxc:(i:Int) < n->decide ((((ai g (i:Int).toNat).x.c.size:Nat):Int) > 12)=true->PV.val (.bool true)=PV.val (.bool (aA (λi=>bh (ai g i)) n)):=λhi h=>by
   have h:(((ai g i).x.c.size:Nat):Int) > 12:=of_decide_eq_true h;have e:bh (ai g i)=true:=by simp only [bh,mE,Bool.or_eq_true,decide_eq_true_eq];omega
   rw [a8.2 ⟨i,by omega,e⟩]
  have rTyb:(i:Int) < n->decide ((((ai g (i:Int).toNat).y.b.size:Nat):Int) > 12)=true->PV.val (.bool true)=PV.val (.bool (aA (λi=>bh (ai g i)) n)):=λhi h=>by
   have h:(((ai g i).y.b.size:Nat):Int) > 12:=of_decide_eq_true h;have e:bh (ai g i)=true:=by simp only [bh,mE,Bool.or_eq_true,decide_eq_true_eq];omega
   rw [a8.2 ⟨i,by omega,e⟩]
  have rTyc:(i:Int) < n->decide ((((ai g (i:Int).toNat).y.c.size:Nat):Int) > 12)=true->PV.val (.bool true)=PV.val (.bool (aA (λi=>bh (ai g i)) n)):=λhi h=>by
   have h:(((ai g i).y.c.size:Nat):Int) > 12:=of_decide_eq_true h;have e:bh (ai g i)=true:=by simp only [bh,mE,Bool.or_eq_true,decide_eq_true_eq];omega
   rw [a8.2 ⟨i,by omega,e⟩]
  have nx:(i:Int) < n->decide ((((ai g (i:Int).toNat).x.b.size:Nat):Int) > 12)=false->decide ((((ai g (i:Int).toNat).x.c.size:Nat):Int) > 12)=false->decide ((((ai g (i:Int).toNat).y.b.size:Nat):Int) > 12)=false->decide ((((ai g (i:Int).toNat).y.c.size:Nat):Int) > 12)=false->∀j,j < i+1->bh (ai g j)=false:=λhi h1 h2 h3 h4 j hj=>by
   have h1:¬(((ai g i).x.b.size:Nat):Int) > 12:=of_decide_eq_false h1;have h2:¬(((ai g i).x.c.size:Nat):Int) > 12:=of_decide_eq_false h2;have h3:¬(((ai g i).y.b.size:Nat):Int) > 12:=of_decide_eq_false h3;have h4:¬(((ai g i).y.c.size:Nat):Int) > 12:=of_decide_eq_false h4;rcases Nat.lt_or_ge j i with h|h
   ·exact hI j h
   ·obtain rfl:j=i:=by omega
    simp only [bh,mE,Bool.or_eq_false_iff,decide_eq_false_iff_not];omega
  have rF:(n:Int)<=i->PV.val (.bool false)=PV.val (.bool (aA (λi=>bh (ai g i)) n)):=λh=>by
   rw [aE.2 λj hj=>hI j (by omega)]
  have wi:(i:Int) < n->PV.val (.int .i64 (IntKind.i64.wrap ((i:Int)+1)))=PV.val (.int .i64 ((i+1:Nat):Int)):=λh=>by
   rw [wrap64 (by omega) (by omega)];rfl
  with_unfolding_all exact⟨(λh1=>⟨⟨Int.natCast_nonneg i,(bx h1)⟩,(λh2=>⟨⟨Int.natCast_nonneg i,(bx h1)⟩,(λh3=>⟨⟨Int.natCast_nonneg i,(bx h1)⟩,(λh4=>⟨⟨Int.natCast_nonneg i,(bx h1)⟩,(λh5=>⟨[],aa [(2,.val (.bool (aA (λi=>bh (ai g i)) n)))] [] 0 [],Wo trivial ⟨rTyc (bx h1) h5,qQ⟩ trivial,rfl,rfl⟩),(λh5=>⟨i+1,[],⟨Int.ofNat_lt.1 (bx h1),nx (bx h1) h2 h3 h4 h5⟩,by have:=bx h1;show n - (i+1) < n - i;omega,Wo trivial ⟨qW,wi (bx h1),qQ⟩ trivial⟩)⟩),(λh4=>⟨(λh5=>⟨[],aa [(2,.val (.bool (aA (λi=>bh (ai g i)) n)))] [] 0 [],Wo trivial ⟨rTyb (bx h1) h4,qQ⟩ trivial,rfl,rfl⟩),(λh5=>nomatch h5)⟩)⟩),(λh3=>⟨(λh4=>nomatch h4),(λh4=>⟨(λh5=>⟨[],aa [(2,.val (.bool (aA (λi=>bh (ai g i)) n)))] [] 0 [],Wo trivial ⟨rTxc (bx h1) h3,qQ⟩ trivial,rfl,rfl⟩),(λh5=>nomatch h5)⟩)⟩)⟩),(λh2=>⟨(λh3=>nomatch h3),(λh3=>⟨(λh4=>nomatch h4),(λh4=>⟨(λh5=>⟨[],aa [(2,.val (.bool (aA (λi=>bh (ai g i)) n)))] [] 0 [],Wo trivial ⟨rTxb (bx h1) h2,qQ⟩ trivial,rfl,rfl⟩),(λh5=>nomatch h5)⟩)⟩)⟩)⟩),(λh1=>⟨[],aa [(2,.val (.bool (aA (λi=>bh (ai g i)) n)))] [] 0 [],Wo trivial ⟨rF (dU h1),qQ⟩ trivial,rfl,rfl⟩)⟩
 ·cases e
def Bb:List PV->Option Ans
 |[.val (.agg ⟨[.int .i64 a,.int .i64 b]⟩),.val (.agg ⟨[.int .i64 c,.int .i64 d]⟩)]=>some ⟨none,.val (.bool (dK (a,b) (c,d))),[]⟩
 |_=>none
theorem DG:ak {} Tryz.f102 2=true:=by kernel_rfl
theorem f102:FnOk Tryz.prog 102 Bb:=by
 refine FnOk.ofW aj (am (l:=[]) (own:=[]) (inl:=[]) (by simp) (by simp)) Tryz.func102 {} 2 DG λargs r e=>?_;unfold Bb at e;split at e
 ·rename_i a b c d
  cases e;refine⟨by simp,λhm=>?_⟩;refine⟨[],aa [(0,.val (.agg ⟨[.int .i64 a,.int .i64 b]⟩)),(1,.val (.agg ⟨[.int .i64 c,.int .i64 d]⟩))] [] 0 [],Wo trivial ⟨rfl,rfl,qQ⟩ trivial,?_⟩;have k1:decide (a < c)=false->(a==c)=true->PV.val (.bool (decide (b < d)))=PV.val (.bool (dK (a,b) (c,d))):=λh1 h2=>by
   have h2:a=c:=eq_of_beq h2;show _=PV.val (.bool (decide (a < c)||decide (a=c)&&decide (b < d)));rw [h1,decide_eq_true h2,Bool.false_or,Bool.true_and]
  have k2:decide (a < c)=false->(a==c) = !true->PV.val (.bool false)=PV.val (.bool (dK (a,b) (c,d))):=λh1 h2=>by
   have h2:¬a=c:=λe=>by rw [e,beq_self_eq_true] at h2;cases h2
   show _=PV.val (.bool (decide (a < c)||decide (a=c)&&decide (b < d)));rw [h1,decide_eq_false h2,Bool.false_or,Bool.false_and]
  have k3:decide (a < c) = !false->PV.val (.bool true)=PV.val (.bool (dK (a,b) (c,d))):=λh1=>by
   show _=PV.val (.bool (decide (a < c)||decide (a=c)&&decide (b < d)));rw [h1];rfl
  with_unfolding_all exact⟨λh1=>⟨λh2=>⟨[],aa [(4,.val (.bool (dK (a,b) (c,d))))] [] 0 [],Wo trivial ⟨k1 h1 h2,qQ⟩ trivial,rfl,rfl⟩,λh2=>⟨[],aa [(4,.val (.bool (dK (a,b) (c,d))))] [] 0 [],Wo trivial ⟨k2 h1 h2,qQ⟩ trivial,rfl,rfl⟩⟩,λh1=>⟨[],aa [(4,.val (.bool (dK (a,b) (c,d))))] [] 0 [],Wo trivial ⟨k3 h1,qQ⟩ trivial,rfl,rfl⟩⟩
 ·cases e
def Fg:List PV->Option Ans
 |[.agg [.rs 6 n g,.rs 2 m h]]=>some ⟨some (isPL 4294967296 n g/\j7 m h),.val (.bool (cG n (ai g) m (kz h))),[]⟩
 |_=>none
def D68:Opt:={ join:=d9 [1] }
theorem Fh:ak D68.toOrd Tryz.f68 1=true:=by kernel_rfl
theorem f68:FnOk Tryz.prog 68 Fg:=by
 refine FnOk.ofW aj (am (l:=[(65,oz),(102,Bb)]) (own:=[]) (inl:=[]) (by simp [yI,f102]) (by simp)) Tryz.func68 D68 1 Fh λargs r e=>?_;unfold Fg at e;split at e
 ·rename_i n g m h
  cases e;refine⟨by simp,λhm=>?_⟩;obtain⟨hp,hq,hmm⟩:=hm _ rfl;refine⟨[],aa [(0,.agg [.rs 6 n g,.rs 2 m (λi=>ax (kz h i))])] [] 0 [],Wo trivial ⟨⟨⟨rfl,rfl,λi hi=>rfl⟩,⟨rfl,rfl,λi hi=>(hq i hi).symm⟩,qQ⟩,qQ⟩ trivial,?_⟩;generalize kz h=q at *
  have vF1:decide ((n:Int) > 1000)=true->cG n (ai g) m q=false:=λh=>by
   have h:(n:Int) > 1000:=of_decide_eq_true h;unfold cG;rw [decide_eq_false (by omega)];rfl
  have vF2:aA (λi=>!ah (ai g i)) n=true->cG n (ai g) m q=false:=λh=>by
   unfold cG;rw [h,Bool.not_true,Bool.and_false,Bool.false_and]
  have vL:decide ((n:Int) > 1000)=false->aA (λi=>!ah (ai g i)) n=false->cG n (ai g) m q=bX n q m:=λh h'=>by
   have h:¬(n:Int) > 1000:=of_decide_eq_false h;unfold cG;rw [h',decide_eq_true (by omega)];rfl
  with_unfolding_all refine⟨Unit,λ_=>decide ((n:Int) > 1000)=false/\aA (λi=>!ah (ai g i)) n=false,λ_=>aa [(1,.ptr 0 0 0 0)] [⟨37,2,0,true,false,1,λ_=>[.rs 6 n g,.rs 2 m (λi=>ax (q i))]⟩] 1 [],⟨λh1=>⟨hp,λh2=>⟨[],aa [(2,.val (.bool (cG n (ai g) m q)))] [] 0 [],Wo trivial ⟨congrArg (λz=>PV.val (.bool z)) (vF2 h2).symm,qQ⟩ trivial,rfl,rfl⟩,λh2=>⟨(),[some 0],⟨?_,?_⟩,Wo ⟨qZ ⟨⟨qW,rfl⟩,⟨qW,rfl⟩,qQ⟩,qQ⟩ ⟨pP,qQ⟩ trivial⟩⟩,λh1=>⟨λh2=>⟨[],aa [(2,.val (.bool (cG n (ai g) m q)))] [] 0 [],Wo trivial ⟨congrArg (λz=>PV.val (.bool z)) (vF1 h1).symm,qQ⟩ trivial,rfl,rfl⟩,λh2=>(nomatch h2)⟩⟩,λ_ hI=>?_⟩
  ·exact h1
  ·exact h2
  ·obtain⟨hI1,hI2⟩:decide ((n:Int) > 1000)=false/\aA (λi=>!ah (ai g i)) n=false:=hI;rw [vL hI1 hI2];with_unfolding_all refine⟨Nat,λi=>i<=m/\∀j,j < i->gN n q j=false,λi=>aa [(1,.ptr 0 0 0 0),(15,.rs 2 m (λi=>ax (q i))),(16,.val (goInt m)),(17,.val (goInt i))] [⟨37,2,0,true,false,1,λ_=>[.rs 6 n g,.rs 2 m (λi=>ax (q i))]⟩] 1 [],λi=>m - i,⟨0,[some 0],⟨Nat.zero_le _,λj hj=>by omega⟩,Wo ⟨qZ ⟨⟨qW,rfl⟩,⟨qW,rfl⟩,qQ⟩,qQ⟩ ⟨pP,qW,rfl,rfl,qQ⟩ trivial⟩,λi hi=>?_⟩
   obtain⟨him,hB⟩:i<=m/\∀j,j < i->gN n q j=false:=hi;have pb:decide ((i:Int) > 0)=true->(i:Int) < m->0<=IntKind.i64.wrap ((i:Int) - 1)/\IntKind.i64.wrap ((i:Int) - 1) < m:=λh h'=>by
    have h:(i:Int) > 0:=of_decide_eq_true h;rw [wrap64 (by omega) (by omega)];omega
   have wp:decide ((i:Int) > 0)=true->(i:Int) < m->(IntKind.i64.wrap ((i:Int) - 1)).toNat=i - 1:=λh h'=>by
    have h:(i:Int) > 0:=of_decide_eq_true h;rw [wrap64 (by omega) (by omega)];omega
   have eb:gN n q i=(decide ((q i).1 < 0)||decide ((q i).2<=(q i).1)||decide ((n:Int)<=(q i).2)||decide (0 < i)&&!dK (q (i - 1)) (q i)):=rfl;have T1:decide ((q (i:Int).toNat).1 < 0) = !false->gN n q i=true:=λh=>by
    have h:decide ((q i).1 < 0)=true:=h;rw [eb,h,Bool.true_or,Bool.true_or,Bool.true_or]
   have T2:decide ((q (i:Int).toNat).1>=(q (i:Int).toNat).2) = !false->gN n q i=true:=λh=>by
    have h:decide ((q i).2<=(q i).1)=true:=h;rw [eb,h,Bool.or_true,Bool.true_or,Bool.true_or]
   have wi:(i:Int) < m->PV.val (.int .i64 (IntKind.i64.wrap ((i:Int)+1)))=PV.val (.int .i64 ((i+1:Nat):Int)):=λh=>by
    rw [wrap64 (by omega) (by omega)];rfl
   have nx:(i:Int) < m->gN n q i=false->∀j,j < i+1->gN n q j=false:=λh hb j hj=>by
    rcases Nat.lt_or_ge j i with h|h
    ·exact hB j h
    ·obtain rfl:j=i:=by omega
     exact hb
   have nA:decide ((q (i:Int).toNat).1 < 0)=false->decide ((q (i:Int).toNat).1>=(q (i:Int).toNat).2)=false->decide ((q (i:Int).toNat).2>=(n:Int))=false->(decide (0 < i)&&!dK (q (i - 1)) (q i))=false->gN n q i=false:=λh1 h2 h3 h4=>by
    have h1:decide ((q i).1 < 0)=false:=h1;have h2:decide ((q i).2<=(q i).1)=false:=h2;have h3:decide ((n:Int)<=(q i).2)=false:=h3;rw [eb,h1,h2,h3,h4];rfl
   have N1:decide ((q (i:Int).toNat).1 < 0)=false->decide ((q (i:Int).toNat).1>=(q (i:Int).toNat).2)=false->decide ((q (i:Int).toNat).2>=(n:Int))=false->decide ((i:Int) > 0) = !true->gN n q i=false:=λh1 h2 h3 h4=>nA h1 h2 h3 (by
    have h4:¬(i:Int) > 0:=of_decide_eq_false h4;rw [decide_eq_false (by omega),Bool.false_and])
   have T3:decide ((q (i:Int).toNat).2>=(n:Int)) = !false->gN n q i=true:=λh=>by
    have h:decide ((n:Int)<=(q i).2)=true:=h;rw [eb,h,Bool.or_true,Bool.true_or]
   have rT:(i:Int) < m->gN n q i=true->PV.val (.bool false)=PV.val (.bool (bX n q m)):=λh hb=>by
    unfold bX;rw [a8.2 ⟨i,by omega,hb⟩];rfl
   have rF:(m:Int)<=i->PV.val (.bool true)=PV.val (.bool (bX n q m)):=λh=>by
    unfold bX;rw [aE.2 λj hj=>hB j (by omega)];rfl
   have T4:(i:Int) < m->decide ((i:Int) > 0)=true->(!dK ((q (IntKind.i64.wrap ((i:Int) - 1)).toNat).1,(q (IntKind.i64.wrap ((i:Int) - 1)).toNat).2) ((q (i:Int).toNat).1,(q (i:Int).toNat).2))=true->gN n q i=true:=λhim' h h'=>by
    rw [Int.toNat_natCast] at h';rw [wp h him'] at h';have h':(!dK (q (i - 1)) (q i))=true:=h';have h:(i:Int) > 0:=of_decide_eq_true h;rw [eb,h',decide_eq_true (show 0 < i by omega),Bool.and_self,Bool.or_true]
   have N2:(i:Int) < m->decide ((q (i:Int).toNat).1 < 0)=false->decide ((q (i:Int).toNat).1>=(q (i:Int).toNat).2)=false->decide ((q (i:Int).toNat).2>=(n:Int))=false->(!dK ((q (IntKind.i64.wrap ((i:Int) - 1)).toNat).1,(q (IntKind.i64.wrap ((i:Int) - 1)).toNat).2) ((q (i:Int).toNat).1,(q (i:Int).toNat).2))=false->gN n q i=false:=λhim' h1 h2 h3 h4=>nA h1 h2 h3 (by
    by_cases hz:0 < i
    ·rw [Int.toNat_natCast,wp (decide_eq_true (by omega)) him'] at h4;have h4:(!dK (q (i - 1)) (q i))=false:=h4;rw [h4,Bool.and_false]
    ·rw [decide_eq_false hz,Bool.false_and])
   with_unfolding_all exact⟨(λh1=>⟨⟨Int.natCast_nonneg i,(bx h1)⟩,(λh2=>⟨(λh3=>⟨(λh4=>⟨(λh5=>⟨⟨(pb h5 (bx h1)).1,(pb h5 (bx h1)).2⟩,(λh6=>⟨[],aa [(2,.val (.bool (bX n q m)))] [] 0 [],Wo trivial ⟨rT (bx h1) (T4 (bx h1) h5 h6),qQ⟩ trivial,rfl,rfl⟩),(λh6=>⟨i+1,[some 0],⟨Int.ofNat_lt.1 (bx h1),nx (bx h1) (N2 (bx h1) h2 h3 h4 h6)⟩,by have:=bx h1;show m - (i+1) < m - i;omega,Wo ⟨qZ ⟨⟨qW,rfl⟩,⟨qW,rfl⟩,qQ⟩,qQ⟩ ⟨pP,qW,rfl,wi (bx h1),qQ⟩ trivial⟩)⟩),(λh5=>⟨(λh6=>nomatch h6),(λh6=>⟨i+1,[some 0],⟨Int.ofNat_lt.1 (bx h1),nx (bx h1) (N1 h2 h3 h4 h5)⟩,by have:=bx h1;show m - (i+1) < m - i;omega,Wo ⟨qZ ⟨⟨qW,rfl⟩,⟨qW,rfl⟩,qQ⟩,qQ⟩ ⟨pP,qW,rfl,wi (bx h1),qQ⟩ trivial⟩)⟩)⟩),(λh4=>⟨(λh5=>⟨[],aa [(2,.val (.bool (bX n q m)))] [] 0 [],Wo trivial ⟨rT (bx h1) (T3 h4),qQ⟩ trivial,rfl,rfl⟩),(λh5=>nomatch h5)⟩)⟩),(λh3=>⟨(λh4=>nomatch h4),(λh4=>⟨(λh5=>⟨[],aa [(2,.val (.bool (bX n q m)))] [] 0 [],Wo trivial ⟨rT (bx h1) (T2 h3),qQ⟩ trivial,rfl,rfl⟩),(λh5=>nomatch h5)⟩)⟩)⟩),(λh2=>⟨(λh3=>nomatch h3),(λh3=>⟨(λh4=>nomatch h4),(λh4=>⟨(λh5=>⟨[],aa [(2,.val (.bool (bX n q m)))] [] 0 [],Wo trivial ⟨rT (bx h1) (T1 h2),qQ⟩ trivial,rfl,rfl⟩),(λh5=>nomatch h5)⟩)⟩)⟩)⟩),(λh1=>⟨[],aa [(2,.val (.bool (bX n q m)))] [] 0 [],Wo trivial ⟨rF (dU h1),qQ⟩ trivial,rfl,rfl⟩)⟩
 ·cases e
end Go.Proofs
namespace Go.Num
inductive wN (q:Nat->Int×Int) (m:Nat) (a:Int):Int->Prop
 |refl:wN q m a a
 |fwd (i:Nat) (h:i < m) (r:wN q m a (q i).1):wN q m a (q i).2
 |bwd (i:Nat) (h:i < m) (r:wN q m a (q i).2):wN q m a (q i).1
end Go.Num
namespace Go.Proofs
end Go.Proofs
namespace Go.Num
def QB (k:Nat) (q:Rat):Prop:=q.num.natAbs < 256^k/\q.den < 256^k
theorem fi (n:Int) {d:Nat} (hd:d≠0):(mkRat n d).num.natAbs<=n.natAbs/\(mkRat n d).den<=d:=by
 obtain⟨g,hg,h1,h2⟩:=gJ n hd;refine⟨?_,?_⟩
 ·have h3:n.natAbs=(mkRat n d).num.natAbs*g:=by
   have:=congrArg Int.natAbs h1;rw [Int.natAbs_mul] at this;exact this
  rw [h3];exact Nat.le_mul_of_pos_right _ hg
 ·have h3:=Nat.le_mul_of_pos_right (mkRat n d).den hg;omega
theorem QB.mul {a b:Nat} {x y:Rat} (h1:QB a x) (h2:QB b y):QB (a+b) (x*y):=by
 have hd:x.den*y.den≠0:=Nat.mul_ne_zero x.den_nz y.den_nz;have h:=fi (x.num*y.num) hd;rw [<-Rat.mul_def'] at h;rw [Int.natAbs_mul] at h;have e1:=Nat.mul_lt_mul'' h1.1 h2.1;have e2:=Nat.mul_lt_mul'' h1.2 h2.2;rw [<-Nat.pow_add] at e1 e2;exact⟨by omega,by omega⟩
theorem tN (k:Nat) {a b:Nat} (h1:a < 256^k) (h2:b < 256^k):a+b < 256^(k+1):=by
 rw [Nat.pow_succ];omega
theorem QB.add {a b:Nat} {x y:Rat} (h1:QB a x) (h2:QB b y):QB (a+b+1) (x+y):=by
 have hd:x.den*y.den≠0:=Nat.mul_ne_zero x.den_nz y.den_nz;have h:=fi (x.num*y.den+y.num*x.den) hd;rw [<-Rat.add_def'] at h;have e1:=Nat.mul_lt_mul'' h1.1 h2.2;have e2:=Nat.mul_lt_mul'' h2.1 h1.2;have e3:=Nat.mul_lt_mul'' h1.2 h2.2;have e4:=Int.natAbs_add_le (x.num*y.den) (y.num*x.den);rw [Int.natAbs_mul,Int.natAbs_mul,Int.natAbs_natCast,Int.natAbs_natCast] at e4;rw [<-Nat.pow_add] at e1 e2 e3;rw [Nat.add_comm b a] at e2;have:=tN (a+b) e1 e2;exact⟨by omega,by rw [Nat.pow_succ];omega⟩
theorem QB.sub {a b:Nat} {x y:Rat} (h1:QB a x) (h2:QB b y):QB (a+b+1) (x - y):=by
 have hd:x.den*y.den≠0:=Nat.mul_ne_zero x.den_nz y.den_nz;have h:=fi (x.num*y.den - y.num*x.den) hd;rw [<-Rat.sub_def'] at h;have e1:=Nat.mul_lt_mul'' h1.1 h2.2;have e2:=Nat.mul_lt_mul'' h2.1 h1.2;have e3:=Nat.mul_lt_mul'' h1.2 h2.2;have e4:=Int.natAbs_add_le (x.num*y.den) (-(y.num*x.den));rw [Int.natAbs_neg,Int.natAbs_mul,Int.natAbs_mul,Int.natAbs_natCast,Int.natAbs_natCast,<-Int.sub_eq_add_neg] at e4;rw [<-Nat.pow_add] at e1 e2 e3;rw [Nat.add_comm b a] at e2;have:=tN (a+b) e1 e2;exact⟨by omega,by rw [Nat.pow_succ];omega⟩
theorem QB.inv {b:Nat} {y:Rat} (h:QB b y):QB b y⁻¹:=by
 rw [Rat.inv_def];have hp:0 < 256^b:=Nat.pow_pos (by decide);rcases(by omega:y.num=0\/0 < y.num\/y.num < 0) with e|e|e
 ·rw [e,Rat.divInt_zero];exact⟨by show 0 < _;exact hp,Nat.lt_of_le_of_lt (show(0:Rat).den<=y.den from y.den_pos) h.2⟩
 ·have e2:Rat.divInt (y.den:Int) y.num=mkRat (y.den:Int) y.num.natAbs:=by rw [<-Rat.divInt_ofNat];congr 1;omega
  have h3:=fi (y.den:Int) (d:=y.num.natAbs) (by omega);rw [e2];exact⟨Nat.lt_of_le_of_lt h3.1 h.2,Nat.lt_of_le_of_lt h3.2 h.1⟩
 ·have e2:Rat.divInt (y.den:Int) y.num=mkRat (-(y.den:Int)) y.num.natAbs:=by rw [<-Rat.divInt_ofNat,<-Rat.neg_divInt_neg];congr 1;omega
  have h3:=fi (-(y.den:Int)) (d:=y.num.natAbs) (by omega);rw [e2];rw [Int.natAbs_neg] at h3;exact⟨Nat.lt_of_le_of_lt h3.1 h.2,Nat.lt_of_le_of_lt h3.2 h.1⟩
theorem QB.div {a b:Nat} {x y:Rat} (h1:QB a x) (h2:QB b y):QB (a+b) (x / y):=by
 rw [Rat.div_def];exact h1.mul h2.inv
theorem QB.le {a b:Nat} {x:Rat} (h:QB a x) (hab:a<=b):QB b x:=by
 have:=Nat.pow_le_pow_right (show 0 < 256 by decide) hab;exact⟨Nat.lt_of_lt_of_le h.1 this,Nat.lt_of_lt_of_le h.2 this⟩
theorem mX {k d:Nat} (h:d < 256^k):(aK d).size<=k:=by
 unfold aK;split
 ·exact Nat.zero_le _
 ·exact aX h
def c9 (q:Rat):RatS:=⟨decide (q.num < 0),ag q.num.natAbs,aK q.den⟩
def oC (x y:Rat):PtS:=⟨c9 x,c9 y⟩
def RatS.q (r:RatS):Rat:=aF r.v
theorem tO (q:Rat):(c9 q).q=q:=az q
theorem QB.rs {k:Nat} {q:Rat} (h:QB k q):(c9 q).le k:=⟨aX h.1,mX h.2⟩
theorem QB.rk {k n:Nat} {q:Rat} (h:QB k q) (hk:k<=n):isRk n (au q):=⟨_,_,_,rfl,Nat.le_trans (aX h.1) hk,Nat.le_trans (mX h.2) hk⟩
theorem RatS.le.qb {k:Nat} {r:RatS} (h:RatS.le k r):QB (k+1) r.q:=by
 have hb:=bt r.b;have hc:=bt r.c;have h1:256^r.b.size<=256^k:=Nat.pow_le_pow_right (by decide) h.1;have h2:256^r.c.size<=256^k:=Nat.pow_le_pow_right (by decide) h.2;have hd:bj (bv r.c) < 256^(k+1):=by
  rw [Nat.pow_succ];unfold bj;have:=Nat.pow_pos (n:=k) (show 0 < 256 by decide);split<;>omega
 have h3:=fi (aw r.s (bv r.b)) (d:=bj (bv r.c)) (by have:=bL (bv r.c);omega);rw [aD] at h3;exact⟨Nat.lt_of_le_of_lt h3.1 (by rw [Nat.pow_succ];omega),Nat.lt_of_le_of_lt h3.2 hd⟩
theorem RatS.le.mono {a b:Nat} {r:RatS} (h:RatS.le a r) (hab:a<=b):RatS.le b r:=⟨Nat.le_trans h.1 hab,Nat.le_trans h.2 hab⟩
theorem PtS.le.mono {a b:Nat} {p:PtS} (h:PtS.le a p) (hab:a<=b):PtS.le b p:=⟨RatS.le.mono h.1 hab,RatS.le.mono h.2 hab⟩
theorem isPk.mono {a b:Nat} {v:Value} (h:isPk a v) (hab:a<=b):isPk b v:=by
 obtain⟨p,rfl,hp⟩:=h;exact⟨p,rfl,hp.mono hab⟩
theorem sy {k:Nat} {x y:Rat} (h1:QB k x) (h2:QB k y):(oC x y).le k:=⟨h1.rs,h2.rs⟩
end Go.Num
