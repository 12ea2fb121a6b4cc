import Derived.Test.YtpfdckeipckldaaGreatB
set_option maxHeartbeats 8000000
set_option linter.all false
open Go Go.Ex Go.Num Go.Proofs
set_option maxRecDepth 100000
namespace Go.Proofs
def Cj:List PV->Option Ans
 |[.val (.bool s),.val (.string b)]=>some ⟨none,.val (.agg ⟨[.bool s,.string b]⟩),[]⟩
 |_=>none
theorem Ez:am {} Tryz.f192 2=true:=by kernel_rfl
theorem f192:FnOk Tryz.prog 192 Cj:=by
 refine FnOk.ofW aj (an (l:=[]) (own:=[]) (inl:=[]) (by simp) (by simp)) Tryz.func192 {} 2 Ez λargs r e=>?_;unfold Cj at e;split at e
 ·rename_i s b
  cases e;refine⟨by simp,λhm=>?_⟩;refine⟨[],aa [(0,.val (.bool s)),(1,.val (.string b))] [] 0 [],Wo trivial ⟨rfl,rfl,qQ⟩ trivial,?_⟩;with_unfolding_all refine⟨[some 0],aa [(4,.ptr 0 0 0 0)] [oY s b 0] 1 [],Wo ⟨qJ,qQ⟩ ⟨pP,qQ⟩ trivial,rfl,rfl⟩
 ·cases e
def zW:List PV->Option Ans
 |[.val v,.val (.int .i64 z)]=>some ⟨some (eG v /\ -9223372036854775808<=z/\z < 9223372036854775808),.val (.bool (decide (aJ v=z))),[]⟩
 |_=>none
def D143:Opt:={ perm:=jm 1 [(0,true),(1,true),(2,false),(3,false)] }
theorem EA:am D143.toOrd Tryz.f143 2=true:=by kernel_rfl
theorem f143:FnOk Tryz.prog 143 zW:=by
 refine FnOk.ofW aj (an (l:=[(73,Bl),(108,wO)]) (own:=[]) (inl:=[]) (by simp [f73,f108]) (by simp)) Tryz.func143 D143 2 EA λargs r e=>?_;unfold zW at e;split at e
 ·rename_i v z
  cases e;refine⟨by simp,λhm=>?_⟩;obtain⟨⟨s,b,rfl,hb⟩,h1,h2⟩:=hm _ rfl;refine⟨[],aa [(0,.val (.agg ⟨[.bool s,.string b]⟩)),(1,.val (.int .i64 z))] [] 0 [],Wo trivial ⟨rfl,rfl,qQ⟩ trivial,?_⟩;with_unfolding_all refine⟨⟨h1,h2⟩,⟨⟨_,_,rfl,hb⟩,cU (k:=8) (by show z.natAbs < 18446744073709551616;omega) (by decide)⟩,[],aa [(4,.val (.bool (decide (az s (bv b)=z))))] [] 0 [],Wo trivial ⟨?_,qQ⟩ trivial,rfl,rfl⟩
  rw [av];show PV.val (.bool (decide (bI (az s (bv b)) z=0)))=_;rw [wQ]
 ·cases e
def tI:List PV->Option Ans
 |[.val v]=>some ⟨some (Ey v),.val (oZ v),[]⟩
 |_=>none
def D137:Opt:={ perm:=jh [(1,.rds [0,1,2,3,5,6] (.alt 4 (.alt 7 (.rds [8] (.mk 9 .nil)) (.mk 9 (.mk 7 (.rds [8] .nil)))) (.mk 9 (.mk 4 (.mk 7 (.rds [8] .nil))))))],join:=λc=>match c with | .region 1 _ _=>true | .seq (.region 2 _ _) _=>true|_=>false }
theorem EB:am D137.toOrd Tryz.f137 1=true:=by kernel_rfl
def o3 (s:Bool) (b:ByteArray) (q:Bool) (c:ByteArray) (st:Nat):Blk:=⟨135,4,st,true,false,1,λ_=>[.val (.bool s),.val (.string b),.val (.bool q),.val (.string c)]⟩
def aZ (s:Bool) (b c:ByteArray) (st:Nat):Blk:=⟨23,3,st,true,false,1,λ_=>[.val (.bool s),.val (.string b),.val (.string c)]⟩
theorem f137:FnOk Tryz.prog 137 tI:=by
 refine FnOk.ofW aj (an (l:=[(192,Cj),(143,zW),(73,Bl)]) (own:=[]) (inl:=[]) (by simp [f192,f143,f73]) (by simp)) Tryz.func137 D137 1 EB λargs r e=>?_;unfold tI at e;split at e
 ·rename_i v
  cases e;refine⟨by simp,λhm=>?_⟩;obtain⟨s,b,c,rfl,hb,hc⟩:=hm _ rfl;refine⟨[],aa [(0,.val (.agg ⟨[.bool s,.string b,.string c]⟩))] [] 0 [],Wo trivial ⟨rfl,qQ⟩ trivial,?_⟩;with_unfolding_all refine⟨Unit,λ_=>True,λ_=>aa [(1,.ptr 0 0 0 0),(2,.ptr 1 1 0 0),(3,.ptr 2 2 0 0)] [aZ s b c 0,o3 false ⟨#[]⟩ false ⟨#[]⟩ 1,o3 s b false c 2] 3 [],⟨⟨⟨(),[some 0,some 1,some 2],trivial,Wo ⟨qX,qZ ⟨rq,rq,rq,rq,qQ⟩,qZ ⟨rq,rq,rq,rq,qQ⟩,qQ⟩ ⟨pP,pP,pP,qQ⟩ trivial⟩,⟨(),[some 0,some 1,some 2],trivial,Wo ⟨qX,qZ ⟨rq,rq,rq,rq,qQ⟩,qZ ⟨rq,rq,rq,rq,qQ⟩,qQ⟩ ⟨pP,pP,pP,qQ⟩ trivial⟩⟩,⟨(),[some 0,some 1,some 2],trivial,Wo ⟨qX,qZ ⟨rq,rq,rq,rq,qQ⟩,qZ ⟨rq,rq,rq,rq,qQ⟩,qQ⟩ ⟨pP,pP,pP,qQ⟩ trivial⟩⟩,λ_ _=>?_⟩
  have e1:decide (((bv c:Nat):Int)=0)=true->PV.val (.string (ah 1))=PV.val (.string (eX c)):=λh=>by
   have h:bv c=0:=by have:=of_decide_eq_true h;omega
   rw [eX,if_pos h]
  have e2:decide (((bv c:Nat):Int)=0)=false->PV.val (.string c)=PV.val (.string (eX c)):=λh=>by
   have h:¬bv c=0:=by have:=of_decide_eq_false h;omega
   rw [eX,if_neg h]
  with_unfolding_all refine⟨Unit,λ_=>True,λ_=>aa [(2,.ptr 0 0 0 0),(3,.ptr 1 1 0 0)] [o3 false ⟨#[]⟩ false ⟨#[]⟩ 0,o3 s b false (eX c) 1] 2 [],?_,λ_ _=>?_⟩
  ·with_unfolding_all refine⟨⟨⟨_,_,rfl,hc⟩,by decide,by decide⟩,λh=>⟨⟨by decide,by decide⟩,⟨(),[some 1,some 2],trivial,Wo ⟨qZ ⟨rq,rq,rq,rq,qQ⟩,qZ ⟨rq,rq,rq,⟨e1 h,rfl⟩,qQ⟩,qQ⟩ ⟨pP,pP,qQ⟩ trivial⟩⟩,λh=>⟨(),[some 1,some 2],trivial,Wo ⟨qZ ⟨rq,rq,rq,rq,qQ⟩,qZ ⟨rq,rq,rq,⟨e2 h,rfl⟩,qQ⟩,qQ⟩ ⟨pP,pP,qQ⟩ trivial⟩⟩
  ·with_unfolding_all refine⟨[some 0],aa [(2,.ptr 0 0 0 0)] [o3 s b false (eX c) 0] 1 [],Wo ⟨qZ ⟨rq,rq,rq,rq,qQ⟩,qQ⟩ ⟨pP,qQ⟩ trivial,rfl,rfl⟩
 ·cases e
def tJ:List PV->Option Ans
 |[.val v]=>some ⟨some (Je v/\0 < f7 v),.val (aw (mkRat (kt v) (f7 v).toNat)),[]⟩
 |_=>none
def D110:Opt:={ join:=λc=>match c with | .region 3 _ _=>true | .region 4 _ _=>true | .region 5 _ _=>true|_=>false }
theorem EC:am D110.toOrd Tryz.f110 1=true:=by kernel_rfl
theorem f110:FnOk Tryz.prog 110 tJ:=by
 refine FnOk.ofW aj (an (l:=[(143,zW),(144,Ch),(145,Ci)]) (own:=[]) (inl:=[]) (by simp [f143,f144,f145]) (by simp)) Tryz.func110 D110 1 EC λargs r e=>?_;unfold tJ at e;split at e
 ·rename_i v
  cases e;refine⟨by simp,λhm=>?_⟩;obtain⟨⟨s,b,q,c,rfl,hb,hc⟩,hpos⟩:=hm _ rfl;obtain rfl:q=false:=by
   cases q
   ·rfl
   ·exfalso;have:(0:Int) < -(bv c:Int):=hpos;omega
  have hM:bv c≠0:=by
   rintro h;have:(0:Int) < (bv c:Int):=hpos;omega
  refine⟨[],aa [(0,.val (.agg ⟨[.bool s,.string b,.bool false,.string c]⟩))] [] 0 [],Wo trivial ⟨rfl,qQ⟩ trivial,?_⟩;have hb1:bv c < 256^c.size:=bK c;obtain⟨G,hG⟩:∃G,G=Nat.gcd (bv b) (bv c):=⟨_,rfl⟩;have hGe:((Nat.gcd (aJ (.agg ⟨[.bool s,.string b]⟩)).natAbs (aJ (.agg ⟨[.bool false,.string c]⟩)).natAbs:Nat):Int)=(G:Int):=by
   show((Nat.gcd (az s (bv b)).natAbs (az false (bv c)).natAbs:Nat):Int)=_;rw [aI,aI,hG]
  have hGpos:0 < G:=by rw [hG];exact Nat.gcd_pos_of_pos_right _ (by omega)
  have hGle:G<=bv c:=by rw [hG];exact Nat.gcd_le_right _ (by omega)
  have hGI:eG (ay (G:Int)):=cU (k:=c.size) (by show G < _;omega) hc;have hGb:G∣bv b:=by rw [hG];exact Nat.gcd_dvd_left _ _
  have hGc:G∣bv c:=by rw [hG];exact Nat.gcd_dvd_right _ _
  obtain⟨q,hq⟩:∃q,q=mkRat (az s (bv b)) (bv c):=⟨_,rfl⟩;have hqn:az s (bv b) / (G:Int)=q.num:=by
   rw [hq,Rat.num_mkRat,if_neg hM,aI,Nat.gcd_comm,hG]
  have hqd:((bv c:Nat):Int) / (G:Int)=(q.den:Int):=by
   rw [hq,Rat.den_mkRat,if_neg hM,aI,Nat.gcd_comm,hG,Int.natCast_ediv]
  have hqdle:q.den<=bv c:=by
   have:((q.den:Nat):Int)<=(bv c:Nat):=by rw [<-hqd];exact Int.ediv_le_self _ (by omega)
   omega
  have hdI:eG (ay (q.den:Int)):=cU (k:=c.size) (by show q.den < _;omega) hc;have hpG:0 < aJ (ay (G:Int)):=by rw [av];omega
  have d1:aJ (ay (G:Int))∣az s (bv b):=by
   rw [av];exact Int.natAbs_dvd_natAbs.1 (by rw [aI];exact hGb)
  have d2:aJ (ay (G:Int))∣az false (bv c):=by
   rw [av];exact Int.natAbs_dvd_natAbs.1 (by rw [aI];exact hGc)
  have e1:az s (bv b) / aJ (ay (G:Int))=q.num:=by rw [av,hqn]
  have e2:az false (bv c) / aJ (ay (G:Int))=(q.den:Int):=by rw [av];exact hqd
  have hR:aw (mkRat (kt (.agg ⟨[.bool s,.string b,.bool false,.string c]⟩)) (f7 (.agg ⟨[.bool s,.string b,.bool false,.string c]⟩)).toNat)=aw q:=by
   rw [hq];rfl
  have cb:∀{x y:Int},x=y->PV.val (.bool (decide (x < 0)))=PV.val (.bool (decide (y < 0))):=λh=>by rw [h]
  have cs:∀{x y:Int},x=y->PV.val (.string (ah x.natAbs))=PV.val (.string (ah y.natAbs)):=λh=>by rw [h]
  have t1:(!decide (aJ (ay (q.den:Int))=1))=true->PV.val (.string (ah ((q.den:Nat):Int).natAbs))=PV.val (.string (aO q.den)):=λh=>by
   rw [av] at h;have h:q.den≠1:=by
    rintro h';rw [h'] at h;exact absurd h (by decide)
   rw [aO,if_neg h];rfl
  have t2:(!decide (aJ (ay (q.den:Int))=1))=false->PV.val (.string ⟨#[]⟩)=PV.val (.string (aO q.den)):=λh=>by
   rw [av] at h;have h:q.den=1:=by
    have h:(!decide (((q.den:Nat):Int)=1))=false:=h;simp at h;omega
   rw [aO,if_pos h]
  have h0:decide (aJ (.agg ⟨[.bool s,.string b]⟩)=0)=true->Value.agg ⟨[.bool false,.string ⟨#[]⟩,.string ⟨#[]⟩]⟩=aw q:=λh=>by
   have h:az s (bv b)=0:=of_decide_eq_true h;rw [<-iI,hq,h,Rat.zero_mkRat]
  with_unfolding_all refine⟨⟨⟨_,_,rfl,hb⟩,by decide,by decide⟩,λh=>⟨[some 1],aa [(2,.ptr 0 0 0 0)] [aZ false ⟨#[]⟩ ⟨#[]⟩ 0] 1 [],Wo ⟨qX,qQ⟩ ⟨pP,qQ⟩ trivial,(by rw [hR];exact congrArg PV.val (h0 h)),rfl⟩,λh=>⟨Unit,λ_=>True,λ_=>aa [(1,.ptr 0 0 0 0),(2,.ptr 1 1 0 0),(3,.ptr 2 2 0 0)] [o3 s b false c 0,aZ false ⟨#[]⟩ ⟨#[]⟩ 1,a8 (G:Int) 2] 3 [],?_,λ_ _=>⟨Unit,λ_=>True,λ_=>aa [(1,.ptr 0 0 0 0),(2,.ptr 1 1 0 0),(3,.ptr 2 2 0 0),(4,.ptr 3 3 0 0)] [o3 s b false c 0,aZ false ⟨#[]⟩ ⟨#[]⟩ 1,a8 (G:Int) 2,a8 q.num 3] 4 [],?_,λ_ _=>⟨Unit,λ_=>True,λ_=>aa [(2,.ptr 0 0 0 0),(4,.ptr 1 1 0 0),(7,.ptr 2 2 0 0)] [aZ false ⟨#[]⟩ ⟨#[]⟩ 0,a8 q.num 1,a8 (q.den:Int) 2] 3 [],?_,λ_ _=>?_⟩⟩⟩⟩
  ·with_unfolding_all refine⟨⟨⟨_,_,rfl,hb⟩,_,_,rfl,hc⟩,⟨(),[some 0,some 1,some 2],trivial,Wo ⟨qZ ⟨rq,rq,rq,rq,qQ⟩,qX,qZ ⟨⟨cb hGe,rfl⟩,⟨cs hGe,rfl⟩,qQ⟩,qQ⟩ ⟨pP,pP,pP,qQ⟩ trivial⟩⟩
  ·with_unfolding_all refine⟨⟨⟨_,_,rfl,hb⟩,hGI,hpG,d1⟩,⟨(),[some 0,some 1,some 2,some 3],trivial,Wo ⟨qZ ⟨rq,rq,rq,rq,qQ⟩,qX,qJ,qZ ⟨⟨cb e1,rfl⟩,⟨cs e1,rfl⟩,qQ⟩,qQ⟩ ⟨pP,pP,pP,pP,qQ⟩ trivial⟩⟩
  ·with_unfolding_all refine⟨⟨⟨_,_,rfl,hc⟩,hGI,hpG,d2⟩,⟨(),[some 1,some 3,some 4],trivial,Wo ⟨qX,qJ,qZ ⟨⟨cb e2,rfl⟩,⟨cs e2,rfl⟩,qQ⟩,qQ⟩ ⟨pP,pP,pP,qQ⟩ trivial⟩⟩
  ·with_unfolding_all refine⟨⟨hdI,by decide,by decide⟩,λh=>⟨[some 0],aa [(2,.ptr 0 0 0 0)] [aZ (decide (q.num < 0)) (ah q.num.natAbs) (aO q.den) 0] 1 [],Wo ⟨qZ ⟨rq,rq,⟨t1 h,rfl⟩,qQ⟩,qQ⟩ ⟨pP,qQ⟩ trivial,by rw [hR];rfl,rfl⟩,λh=>⟨[some 0],aa [(2,.ptr 0 0 0 0)] [aZ (decide (q.num < 0)) (ah q.num.natAbs) (aO q.den) 0] 1 [],Wo ⟨qZ ⟨rq,rq,⟨t2 h,rfl⟩,qQ⟩,qQ⟩ ⟨pP,qQ⟩ trivial,by rw [hR];rfl,rfl⟩⟩
 ·cases e
def Ck:List PV->Option Ans
 |[.val (.string b)]=>some ⟨some (b.size<=7),.val (.int .i64 (bv b:Nat)),[]⟩
 |_=>none
theorem ED:am {} Tryz.f200 1=true:=by kernel_rfl
theorem f200:FnOk Tryz.prog 200 Ck:=by
 refine FnOk.ofW aj (an (l:=[]) (own:=[]) (inl:=[]) (by simp) (by simp)) Tryz.func200 {} 1 ED λargs r e=>?_;unfold Ck at e;split at e
 ·rename_i b
  cases e;refine⟨by simp,λhm=>?_⟩;have h:b.size<=7:=hm _ rfl;refine⟨[],aa [(0,.val (.string b))] [] 0 [],Wo trivial ⟨rfl,qQ⟩ trivial,?_⟩;with_unfolding_all refine⟨Nat,λi=>i<=b.size,λi=>aa [(0,.val (.string b)),(3,.val (.int .i64 (c8 (b.data.toList.take i):Nat))),(6,.val (goInt b.size)),(7,.val (goInt i))] [] 0 [],λi=>b.size - i,⟨0,[],Nat.zero_le _,Wo trivial ⟨rfl,rfl,rfl,rfl,qQ⟩ trivial⟩,λi hi=>?_⟩
  replace hi:i<=b.size:=hi;have hlt:=bS b i h;with_unfolding_all refine⟨λh1=>?_,λh1=>?_⟩
  ·have h1:i < b.size:=by have:=bL h1;omega
   have hx:(b.data.toList[i]?.getD 0).toNat < 256:=UInt8.toNat_lt _;with_unfolding_all refine⟨by decide,⟨by omega,by omega⟩,i+1,[],h1,by show b.size - (i+1) < b.size - i;omega,Wo trivial ⟨rfl,?_,rfl,?_,qQ⟩ trivial⟩
   ·refine congrArg (λx=>PV.val (.int .i64 x)) (?_:IntKind.i64.wrap ((BitVec.ofInt IntKind.i64.bits (IntKind.i64.wrap (((c8 (b.data.toList.take i):Nat):Int)*2^min (Int.toNat 8) IntKind.i64.bits)) ||| BitVec.ofInt IntKind.i64.bits (IntKind.i64.wrap (((b.data.toList[i]?.getD 0).toNat:Nat):Int))).toNat:Int)=((c8 (b.data.toList.take (i+1)):Nat):Int));rw [oV hx (by have:=bS b (i+1) h;rw [fC b h1] at this;omega),fC b h1]
   ·refine congrArg (λx=>PV.val (.int .i64 x)) (?_:IntKind.i64.wrap ((i:Int)+1)=((i+1:Nat):Int));rw [wrap64 (by omega) (by omega)];rfl
  ·have h1:i=b.size:=by have:=dI h1;omega
   have he:b.data.toList.take i=b.data.toList:=by rw [h1,List.take_of_length_le (by rw [<-bg];omega)]
   rw [he] at hlt ⊢;with_unfolding_all exact⟨[],aa [(2,.val (.int .i64 (bv b:Nat)))] [] 0 [],Wo trivial ⟨rfl,qQ⟩ trivial,rfl,rfl⟩
 ·cases e
theorem ro (n:Nat):(if (1:Int) > (n:Int) then(1:Int) else(n:Int))=((bq n:Nat):Int):=by
 unfold bq;split<;>split<;>omega
def smallB (b c:ByteArray):Bool:=decide (b.size<=3)&&decide (c.size<=3)
def zX:List PV->Option Ans
 |[.val (.agg ⟨[.bool s,.string b,.string c]⟩)]=>some ⟨none,.val (.tuple ⟨[.int .i64 (bif smallB b c then az s (bv b) else 0),.int .i64 (bif smallB b c then(bq (bv c):Nat) else 0),.bool (smallB b c)]⟩),[]⟩
 |_=>none
def D155:Opt:={ perm:=jm 3 [(0,true),(1,true),(3,true),(4,true),(2,false),(5,false)] }
theorem EE:am D155.toOrd Tryz.f155 1=true:=by kernel_rfl
theorem f155:FnOk Tryz.prog 155 zX:=by
 refine FnOk.ofW aj (an (l:=[(200,Ck)]) (own:=[]) (inl:=[]) (by simp [f200]) (by simp)) Tryz.func155 D155 1 EE λargs r e=>?_;unfold zX at e;split at e
 ·rename_i s b c
  cases e;refine⟨by simp,λhm=>?_⟩;refine⟨[],aa [(0,.val (.agg ⟨[.bool s,.string b,.string c]⟩))] [] 0 [],Wo trivial ⟨rfl,qQ⟩ trivial,?_⟩;have f1:decide ((b.size:Int) > 3) = !false->smallB b c=false:=λh=>by
   have h:¬b.size<=3:=by have:=of_decide_eq_true h;omega
   simp [smallB,h]
  have f2:decide ((c.size:Int) > 3)=true->smallB b c=false:=λh=>by
   have h:¬c.size<=3:=by have:=of_decide_eq_true h;omega
   simp [smallB,h]
  have g3:decide ((b.size:Int) > 3)=false->b.size<=3:=λh=>by have:=of_decide_eq_false h;omega
  have g4:decide ((c.size:Int) > 3)=false->c.size<=3:=λh=>by have:=of_decide_eq_false h;omega
  have z0:smallB b c=false->PV.val (.int .i64 0)=PV.val (.int .i64 (bif smallB b c then az s (bv b) else 0)):=λh=>by rw [h];rfl
  have z1:smallB b c=false->PV.val (.int .i64 0)=PV.val (.int .i64 (bif smallB b c then(bq (bv c):Nat) else 0)):=λh=>by rw [h];rfl
  have z2:smallB b c=false->PV.val (.bool false)=PV.val (.bool (smallB b c)):=λh=>by rw [h]
  with_unfolding_all refine⟨λh0=>⟨λh=>⟨[],aa [(2,.val (.int .i64 (bif smallB b c then az s (bv b) else 0))),(3,.val (.int .i64 (bif smallB b c then(bq (bv c):Nat) else 0))),(4,.val (.bool (smallB b c)))] [] 0 [],Wo trivial ⟨z0 (f2 h),z1 (f2 h),z2 (f2 h),qQ⟩ trivial,rfl,rfl⟩,λh1=>?_⟩,λh=>⟨λ_=>⟨[],aa [(2,.val (.int .i64 (bif smallB b c then az s (bv b) else 0))),(3,.val (.int .i64 (bif smallB b c then(bq (bv c):Nat) else 0))),(4,.val (.bool (smallB b c)))] [] 0 [],Wo trivial ⟨z0 (f1 h),z1 (f1 h),z2 (f1 h),qQ⟩ trivial,rfl,rfl⟩,λh'=>(nomatch h')⟩⟩
  have hs:smallB b c=true:=by simp [smallB,g3 h0,g4 h1]
  have hb:=g3 h0;have hc:=g4 h1;rw [hs];have lb:bv b < 72057594037927936:=by
   have:=bS b b.size (by omega);rw [show b.data.toList.take b.size=b.data.toList by rw [List.take_of_length_le (by rw [<-bg];omega)]] at this;exact this
  with_unfolding_all refine⟨by omega,by omega,λh=>⟨[],aa [(2,.val (.int .i64 (az s (bv b)))),(3,.val (.int .i64 (bq (bv c):Nat))),(4,.val (.bool true))] [] 0 [],Wo trivial ⟨?_,?_,rfl,qQ⟩ trivial,rfl,rfl⟩,λh=>⟨[],aa [(2,.val (.int .i64 (az s (bv b)))),(3,.val (.int .i64 (bq (bv c):Nat))),(4,.val (.bool true))] [] 0 [],Wo trivial ⟨?_,?_,rfl,qQ⟩ trivial,rfl,rfl⟩⟩
  ·refine congrArg (λx=>PV.val (.int .i64 x)) (?_:IntKind.i64.wrap (0 - ((bv b:Nat):Int))=az s (bv b));rw [wrap64 (by omega) (by omega),h];show _ = -((bv b:Nat):Int);omega
  ·exact congrArg (λx=>PV.val (.int .i64 x)) (ro (bv c))
  ·show PV.val (.int .i64 ((bv b:Nat):Int))=_;rw [h];rfl
  ·exact congrArg (λx=>PV.val (.int .i64 x)) (ro (bv c))
 ·cases e
theorem zY {l:List UInt8} (h:0 < l.length->256^(l.length - 1)<=c8 l):fe l=true:=by
 cases l with
 |nil=>rfl
 |cons x l =>
  have h:=h (by simp);simp only [List.length_cons,Nat.add_sub_cancel] at h;rw [cT] at h;have h2:=eu l;have:x≠0:=by
   rintro rfl;simp at h;omega
  simpa [fe] using this
theorem jM {N k:Nat} (h:N < 256^k) (h2:0 < k->256^(k - 1)<=N):dg k (bd N k)=ah N:=by
 have hv:bv (dg k (bd N k))=N:=by rw [ey (λ_ _=>rfl),Nat.mod_eq_of_lt h]
 have hl:(dg k (bd N k)).data.toList.length=k:=by simp [dg]
 have:fe (dg k (bd N k)).data.toList=true:=zY (by
  rw [hl];intro h0;have e:c8 (dg k (bd N k)).data.toList=N:=hv;rw [e];exact h2 h0)
 rw [<-kR this,hv]
def Cl:List PV->Option Ans
 |[.val (.int .i64 z)]=>some ⟨some (0<=z/\z < 72057594037927936),.val (.string (ah z.toNat)),[]⟩
 |_=>none
theorem EF:am {} Tryz.f196 1=true:=by kernel_rfl
theorem f196:FnOk Tryz.prog 196 Cl:=by
 refine FnOk.ofW aj (an (l:=[]) (own:=[]) (inl:=[]) (by simp) (by simp)) Tryz.func196 {} 1 EF λargs r e=>?_;unfold Cl at e;split at e
 ·rename_i z
  cases e;refine⟨by simp,λhm=>?_⟩;obtain⟨hz,hz2⟩:=hm _ rfl;obtain⟨N,rfl⟩:∃N:Nat,z=(N:Int):=⟨z.toNat,by omega⟩;rw [Int.toNat_natCast];refine⟨[],aa [(0,.val (.int .i64 (N:Nat)))] [] 0 [],Wo trivial ⟨rfl,qQ⟩ trivial,?_⟩;with_unfolding_all refine⟨Nat,λk=>k<=7/\(0 < k->256^(k - 1)<=N),λk=>aa [(0,.val (.int .i64 ((N / 256^k:Nat):Int))),(3,.ptr 0 0 0 0),(4,.val (.int .i64 ((8 - k:Nat):Int)))] [⟨236,1,0,false,true,8,λj=>if j < 8 - k then [.val (.int .u8 0)] else bd N k (j - (8 - k))⟩] 1 [],λk=>8 - k,?_,λk hk=>?_⟩
  ·with_unfolding_all refine⟨0,[some 0],⟨by omega,λh=>absurd h (by omega)⟩,Wo ⟨qZ (λi hi=>?_),qQ⟩ ⟨?_,pP,rfl,qQ⟩ trivial⟩
   ·have hi:i < 8:=hi;rcases i with _|_|_|_|_|_|_|_|i
    all_goals first
     |rfl
     |exact absurd hi (by omega)
   ·show PV.val (.int .i64 (N:Int))=PV.val (.int .i64 ((N / 256^0:Nat):Int));rw [Nat.pow_zero,Nat.div_one]
  ·obtain⟨hk,hk2⟩:=hk;have hw:IntKind.i64.wrap (((8 - k:Nat):Int) - 1)=((7 - k:Nat):Int):=by
    rw [wrap64 (by omega) (by omega)];omega
   have hN:N < 256^7:=by show N < 72057594037927936;omega
   with_unfolding_all refine⟨λh=>?_,λh=>?_⟩
   ·have h:0 < N / 256^k:=by
     have h:((N / 256^k:Nat):Int) > 0:=of_decide_eq_true h;generalize N / 256^k=X at h ⊢;omega
    have hkN:256^k<=N:=by
     rcases Nat.lt_or_ge N (256^k) with h' | h'
     ·rw [Nat.div_eq_of_lt h'] at h;omega
     ·exact h'
    have hk7:k < 7:=by
     rcases Nat.lt_or_ge k 7 with h' | h'
     ·exact h'
     ·have:=Nat.pow_le_pow_right (show 0 < 256 by decide) h';omega
    with_unfolding_all refine⟨⟨by rw [hw];omega,by rw [hw];omega⟩,by decide,?_⟩
    rw [hw];with_unfolding_all refine⟨k+1,[some 0],⟨by omega,λ_=>hkN⟩,by show 8 - (k+1) < 8 - k;omega,Wo ⟨qZ (λi hi=>?_),qQ⟩ ⟨?_,pP,?_,qQ⟩ trivial⟩
    ·have hi:i < 8:=hi;show(if i < 8 - (k+1) then [PV.val (.int .u8 0)] else bd N (k+1) (i - (8 - (k+1))))=if i=((7 - k:Nat):Int).toNat then [PV.val (.int .u8 (IntKind.u8.wrap ((N / 256^k:Nat):Int)))] else if i < 8 - k then [PV.val (.int .u8 0)] else bd N k (i - (8 - k))
     rw [Int.toNat_natCast];rcases Nat.lt_trichotomy i (7 - k) with h1|h1|h1
     ·rw [if_pos (by omega),if_neg (by omega),if_pos (by omega)]
     ·rw [if_neg (by omega),if_pos h1,cE];simp only [bd];rw [show k+1 - 1 - (i - (8 - (k+1)))=k by omega];rfl
     ·rw [if_neg (by omega),if_neg (by omega),if_neg (by omega)];simp only [bd];rw [show k+1 - 1 - (i - (8 - (k+1)))=k - 1 - (i - (8 - k)) by omega]
    ·show PV.val (.int .i64 (((N / 256^k:Nat):Int) / 2^8))=PV.val (.int .i64 ((N / 256^(k+1):Nat):Int));rw [Nat.pow_succ,<-Nat.div_div_eq_div_mul];rfl
    ·show PV.val (.int .i64 ((7 - k:Nat):Int))=PV.val (.int .i64 ((8 - (k+1):Nat):Int));rw [show 8 - (k+1)=7 - k by omega]
   ·have h:N / 256^k=0:=by
     have h:¬((N / 256^k:Nat):Int) > 0:=of_decide_eq_false h;generalize N / 256^k=X at h ⊢;omega
    have hNk:N < 256^k:=by
     rcases Nat.lt_or_ge N (256^k) with h' | h'
     ·exact h'
     ·have:=Nat.div_pos h' (Nat.pow_pos (by decide));omega
    have h8:((8 - k:Nat):Int).toNat=8 - k:=Int.toNat_natCast _;have hn:((8:Nat) - ((8 - k:Nat):Int)).toNat=k:=by omega
    have hfin:=jM (N:=N) (k:=k) hNk hk2;with_unfolding_all refine⟨⟨by omega,by omega,by omega⟩,λi hi=>?_,[],aa [(2,.val (.string (ah N)))] [] 0 [],Wo trivial ⟨?_,qQ⟩ trivial,rfl,rfl⟩
    ·show ∃q:Int,(if ((8 - k:Nat):Int).toNat+i < 8 - k then [PV.val (.int .u8 0)] else bd N k (((8 - k:Nat):Int).toNat+i - (8 - k)))=[PV.val (.int .u8 q)];split
     ·exact⟨_,rfl⟩
     ·exact⟨_,rfl⟩
    ·show PV.val (.string (dg ((8:Nat) - ((8 - k:Nat):Int)).toNat (λi=>if ((8 - k:Nat):Int).toNat+i < 8 - k then [PV.val (.int .u8 0)] else bd N k (((8 - k:Nat):Int).toNat+i - (8 - k)))))=_;rw [hn,h8];have e:(λi=>if 8 - k+i < 8 - k then [PV.val (.int .u8 0)] else bd N k (8 - k+i - (8 - k)))=bd N k:=by
      funext i;rw [if_neg (by omega),Nat.add_sub_cancel_left]
     rw [e,hfin]
 ·cases e
def zZ:List PV->Option Ans
 |[.val (.int .i64 n),.val (.int .i64 d)]=>some ⟨some (0 < d/\d < 72057594037927936/\n.natAbs < 72057594037927936),.val (aw (mkRat n d.toNat)),[]⟩
 |_=>none
def D150:Opt:={}
theorem EG:am D150.toOrd Tryz.f150 2=true:=by kernel_rfl
theorem f150:FnOk Tryz.prog 150 zZ:=by
 refine FnOk.ofW aj (an (l:=[(196,Cl)]) (own:=[]) (inl:=[]) (by simp [f196]) (by simp)) Tryz.func150 D150 2 EG λargs r e=>?_;unfold zZ at e;split at e
 ·rename_i n d
  cases e;refine⟨by simp,λhm=>?_⟩;obtain⟨hd,hd2,hn⟩:=hm _ rfl;obtain⟨D,rfl⟩:∃D:Nat,d=(D:Int):=⟨d.toNat,by omega⟩;rw [Int.toNat_natCast];refine⟨[],aa [(0,.val (.int .i64 n)),(1,.val (.int .i64 (D:Nat)))] [] 0 [],Wo trivial ⟨rfl,rfl,qQ⟩ trivial,?_⟩;with_unfolding_all refine⟨Int×Int,λx=>(x.1.natAbs < 72057594037927936/\x.2.natAbs < 72057594037927936)/\Nat.gcd x.1.natAbs x.2.natAbs=Nat.gcd n.natAbs D,λx=>aa [(0,.val (.int .i64 n)),(1,.val (.int .i64 (D:Nat))),(4,.ptr 0 0 0 0),(5,.val (.int .i64 x.1)),(6,.val (.int .i64 x.2))] [aZ false ⟨#[]⟩ ⟨#[]⟩ 0] 1 [],λx=>x.2.natAbs,?_,λx hx=>?_⟩
  ·with_unfolding_all refine⟨(n,(D:Int)),[some 0],⟨⟨hn,by omega⟩,by rw [Int.natAbs_natCast]⟩,Wo ⟨qX,qQ⟩ ⟨rfl,rfl,pP,rfl,rfl,qQ⟩ trivial⟩
  ·obtain⟨x,y⟩:=x;obtain⟨⟨hx,hy⟩,hg⟩:=hx;simp only at hx hy hg;with_unfolding_all refine⟨λh=>?_,λh=>?_⟩
   ·have h:y≠0:=by simpa using h
    have ht:(x.tmod y).natAbs=x.natAbs%y.natAbs:=Int.natAbs_tmod x y;have hlt:=Nat.mod_lt x.natAbs (show 0 < y.natAbs by omega);with_unfolding_all refine⟨h,(y,x.tmod y),[some 0],⟨⟨hy,by show(x.tmod y).natAbs < _;omega⟩,?_⟩,by show(x.tmod y).natAbs < y.natAbs;omega,Wo ⟨qX,qQ⟩ ⟨rfl,rfl,pP,rfl,?_,qQ⟩ trivial⟩
    ·show Nat.gcd y.natAbs (x.tmod y).natAbs=_;rw [ht,<-hg,Nat.gcd_comm y.natAbs,<-Nat.gcd_rec,Nat.gcd_comm]
    ·show PV.val (.int .i64 _)=PV.val (.int .i64 (x.tmod y));rfl
   ·have h:y=0:=by simpa using h
    subst h;have hxG:x.natAbs=Nat.gcd n.natAbs D:=by rw [<-hg];simp
    obtain⟨G,hG⟩:∃G,G=Nat.gcd n.natAbs D:=⟨_,rfl⟩;rw [<-hG] at hxG;obtain⟨q,hq⟩:∃q,q=mkRat n D:=⟨_,rfl⟩;have hGp:0 < G:=by rw [hG];exact Nat.gcd_pos_of_pos_right _ (by omega)
    have hG1:G∣n.natAbs:=by rw [hG];exact Nat.gcd_dvd_left _ _
    have hG2:G∣D:=by rw [hG];exact Nat.gcd_dvd_right _ _
    have hqn:q.num=n / (G:Int):=by rw [hq,Rat.num_mkRat,if_neg (by omega),Nat.gcd_comm,hG]
    have hqd:q.den=D / G:=by rw [hq,Rat.den_mkRat,if_neg (by omega),Nat.gcd_comm,hG]
    have hmul:q.num*(G:Int)=n:=by rw [hqn];exact Int.ediv_mul_cancel (Int.natAbs_dvd_natAbs.1 hG1)
    have hsg:decide (n < 0)=decide (q.num < 0):=by
     rw [decide_eq_decide];constructor
     ·intro h;rcases Int.lt_or_le q.num 0 with h' | h'
      ·exact h'
      ·have:=Int.mul_nonneg h' (show(0:Int)<=G by omega);omega
     ·intro h;have:=Int.mul_neg_of_neg_of_pos h (show(0:Int) < G by omega);omega
    have hab:n.natAbs / G=q.num.natAbs:=by
     have:n.natAbs=q.num.natAbs*G:=by rw [<-hmul,Int.natAbs_mul,Int.natAbs_natCast]
     rw [this,Nat.mul_div_cancel _ hGp]
    have m1:(if IntKind.i64.wrap (0 - x) > x then IntKind.i64.wrap (0 - x) else x)=(G:Int):=by
     rw [wrap64 (by omega) (by omega)];split<;>omega
    have m2:(if IntKind.i64.wrap (0 - n) > n then IntKind.i64.wrap (0 - n) else n)=(n.natAbs:Int):=by
     rw [wrap64 (by omega) (by omega)];split<;>omega
    have l1:n.natAbs / G<=n.natAbs:=Nat.div_le_self _ _;have l2:D / G<=D:=Nat.div_le_self _ _;have q1:IntKind.i64.wrap ((if IntKind.i64.wrap (0 - n) > n then IntKind.i64.wrap (0 - n) else n).tdiv (if IntKind.i64.wrap (0 - x) > x then IntKind.i64.wrap (0 - x) else x))=((q.num.natAbs:Nat):Int):=by
     rw [m1,m2,<-Int.ofNat_tdiv,hab,wrap64 (by omega) (by omega)]
    have q2:IntKind.i64.wrap ((D:Int).tdiv (if IntKind.i64.wrap (0 - x) > x then IntKind.i64.wrap (0 - x) else x))=((q.den:Nat):Int):=by
     rw [m1,<-Int.ofNat_tdiv,<-hqd,wrap64 (by omega) (by omega)]
    have s1:PV.val (.string (ah (IntKind.i64.wrap ((if IntKind.i64.wrap (0 - n) > n then IntKind.i64.wrap (0 - n) else n).tdiv (if IntKind.i64.wrap (0 - x) > x then IntKind.i64.wrap (0 - x) else x))).toNat))=PV.val (.string (ah q.num.natAbs)):=by rw [q1,Int.toNat_natCast]
    have s2:PV.val (.bool (decide (n < 0)))=PV.val (.bool (decide (q.num < 0))):=by rw [hsg]
    have s3:(((D:Nat):Int) != (if IntKind.i64.wrap (0 - x) > x then IntKind.i64.wrap (0 - x) else x))=true->PV.val (.string (ah (IntKind.i64.wrap ((D:Int).tdiv (if IntKind.i64.wrap (0 - x) > x then IntKind.i64.wrap (0 - x) else x))).toNat))=PV.val (.string (aO q.den)):=λh=>by
     rw [m1] at h;have h:¬D=G:=by
      intro e;rw [e] at h;simp at h
     have:q.den≠1:=by
      rw [hqd];intro e;have:=Nat.div_mul_cancel hG2;rw [e] at this;omega
     rw [q2,Int.toNat_natCast,aO,if_neg this]
    have s4:(((D:Nat):Int) != (if IntKind.i64.wrap (0 - x) > x then IntKind.i64.wrap (0 - x) else x))=false->PV.val (.string ⟨#[]⟩)=PV.val (.string (aO q.den)):=λh=>by
     rw [m1] at h;have h:D=G:=by
      simp at h;omega
     have:q.den=1:=by rw [hqd,h,Nat.div_self hGp]
     rw [aO,if_pos this]
    have hz:(n==0)=true->Value.agg ⟨[.bool false,.string ⟨#[]⟩,.string ⟨#[]⟩]⟩=aw q:=λh=>by
     have h:n=0:=by simpa using h
     rw [<-iI,hq,h,Rat.zero_mkRat]
    have hne:(if IntKind.i64.wrap (0 - x) > x then IntKind.i64.wrap (0 - x) else x)≠0:=by rw [m1];omega
    with_unfolding_all refine⟨λh=>⟨[some 0],aa [(4,.ptr 0 0 0 0)] [aZ false ⟨#[]⟩ ⟨#[]⟩ 0] 1 [],Wo ⟨qX,qQ⟩ ⟨pP,qQ⟩ trivial,by rw [<-hq];exact congrArg PV.val (hz h),rfl⟩,λh=>⟨hne,⟨by rw [q1];omega,by rw [q1];omega⟩,λh=>⟨hne,⟨by rw [q2];omega,by rw [q2];omega⟩,⟨[some 0],aa [(4,.ptr 0 0 0 0)] [aZ (decide (q.num < 0)) (ah q.num.natAbs) (aO q.den) 0] 1 [],Wo ⟨qZ ⟨⟨s2,rfl⟩,⟨s1,rfl⟩,⟨s3 h,rfl⟩,qQ⟩,qQ⟩ ⟨pP,qQ⟩ trivial,by rw [<-hq];rfl,rfl⟩⟩,λh=>⟨[some 0],aa [(4,.ptr 0 0 0 0)] [aZ (decide (q.num < 0)) (ah q.num.natAbs) (aO q.den) 0] 1 [],Wo ⟨qZ ⟨⟨s2,rfl⟩,⟨s1,rfl⟩,⟨s4 h,rfl⟩,qQ⟩,qQ⟩ ⟨pP,qQ⟩ trivial,by rw [<-hq];rfl,rfl⟩⟩⟩
 ·cases e
end Go.Proofs
namespace Go.Num
def tK (k:Nat) (v:Value):Prop:=∃s b c,v=.agg ⟨[.bool s,.string b,.bool false,.string c]⟩/\b.size<=k/\c.size<=k/\bv c≠0
def jN (v:Value):Rat:=mkRat (kt v) (f7 v).toNat
theorem He (b c:ByteArray):bv b*bv c < 256^(b.size+c.size):=by
 rw [Nat.pow_add];exact Nat.mul_lt_mul'' (bK b) (bK c)
theorem o4 (s q:Bool) (b c:ByteArray):(az s (bv b)*az q (bv c)).natAbs < 256^(b.size+c.size):=by
 rw [Int.natAbs_mul,aI,aI];exact He b c
theorem EH {x y:Int} {k l:Nat} (h1:x.natAbs < 256^k) (h2:y.natAbs < 256^l):(x+y).natAbs < 256^(k+l+1):=by
 have e1:256^k<=256^(k+l):=Nat.pow_le_pow_right (by decide) (by omega);have e2:256^l<=256^(k+l):=Nat.pow_le_pow_right (by decide) (by omega);have e3:256^(k+l)*256=256^(k+l+1):=(Nat.pow_succ ..).symm;omega
def fN (Z W:Int):Value:=.agg ⟨[.bool (decide (Z < 0)),.string (ah Z.natAbs),.bool (decide (W < 0)),.string (ah W.natAbs)]⟩
theorem jO (Z W:Int):mkRat (kt (fN Z W)) (f7 (fN Z W)).toNat=mkRat Z W.toNat:=by
 show mkRat (aJ (ay Z)) (aJ (ay W)).toNat=_;rw [av,av]
theorem nL (a b:Nat):(az false a*az false b).toNat=a*b:=by
 show((a:Int)*(b:Int)).toNat=_;rw [<-Int.natCast_mul,Int.toNat_natCast]
theorem rr {a b:Nat} (ha:a≠0) (hb:b≠0):0 < az false a*az false b:=Int.mul_pos (show(0:Int) < a by omega) (show(0:Int) < b by omega)
theorem gt {p q:Rat} (h:p=q):PV.val (.bool (decide (p.num < 0)))=PV.val (.bool (decide (q.num < 0))):=by rw [h]
theorem gu {p q:Rat} (h:p=q):PV.val (.string (ah p.num.natAbs))=PV.val (.string (ah q.num.natAbs)):=by rw [h]
theorem gv {p q:Rat} (h:p=q):PV.val (.string (aO p.den))=PV.val (.string (aO q.den)):=by rw [h]
end Go.Num
namespace Go.Proofs
def Cm:List PV->Option Ans
 |[.val v,.val u]=>some ⟨some (tK 4294967296 v/\tK 4294967296 u),.val (aw (jN v+jN u)),[]⟩
 |_=>none
def D151:Opt:={ perm:=jm 1 [(0,true),(1,true),(2,true),(3,true),(5,true),(6,true),(7,true),(8,true),(11,true),(12,true),(13,true),(14,true),(4,false),(9,false),(10,false),(15,false),(16,true),(17,false)] }
theorem EI:am D151.toOrd Tryz.f151 2=true:=by kernel_rfl
theorem f151:FnOk Tryz.prog 151 Cm:=by
 refine FnOk.ofW aj (an (l:=[(119,wN),(152,yp),(110,tJ)]) (own:=[]) (inl:=[]) (by simp [f119,f152,f110]) (by simp)) Tryz.func151 D151 2 EI λargs r e=>?_;unfold Cm at e;split at e
 ·rename_i v u
  cases e;refine⟨by simp,λhm=>?_⟩;obtain⟨⟨s,b,c,rfl,hb,hc,hc0⟩,s',b',c',rfl,hb',hc',hc0'⟩:=hm _ rfl;refine⟨[],aa [(0,.val (.agg ⟨[.bool s,.string b,.bool false,.string c]⟩)),(1,.val (.agg ⟨[.bool s',.string b',.bool false,.string c']⟩))] [] 0 [],Wo trivial ⟨rfl,rfl,qQ⟩ trivial,?_⟩;have I1:eG (.agg ⟨[.bool s,.string b]⟩):=⟨_,_,rfl,by omega⟩;have I2:eG (.agg ⟨[.bool false,.string c]⟩):=⟨_,_,rfl,by omega⟩;have I3:eG (.agg ⟨[.bool s',.string b']⟩):=⟨_,_,rfl,by omega⟩;have I4:eG (.agg ⟨[.bool false,.string c']⟩):=⟨_,_,rfl,by omega⟩;have X1:=o4 s false b c';have X2:=o4 s' false b' c;have X3:=o4 false false c c';have J1:eG (ay (az s (bv b)*az false (bv c'))):=cU X1 (by omega);have J2:eG (ay (az s' (bv b')*az false (bv c))):=cU X2 (by omega);have Z1:=EH X1 X2;have hQ:mkRat (kt (fN (aJ (ay (az s (bv b)*az false (bv c')))+aJ (ay (az s' (bv b')*az false (bv c)))) (az false (bv c)*az false (bv c')))) (f7 (fN (aJ (ay (az s (bv b)*az false (bv c')))+aJ (ay (az s' (bv b')*az false (bv c)))) (az false (bv c)*az false (bv c')))).toNat=jN (.agg ⟨[.bool s,.string b,.bool false,.string c]⟩)+jN (.agg ⟨[.bool s',.string b',.bool false,.string c']⟩):=by
   rw [jO,av,av,nL];show _=mkRat (az s (bv b)) (bv c)+mkRat (az s' (bv b')) (bv c');rw [Rat.mkRat_add_mkRat _ _ hc0 hc0'];rfl
  have S1:(ah (aJ (ay (az s (bv b)*az false (bv c')))+aJ (ay (az s' (bv b')*az false (bv c)))).natAbs).size<=34359738368:=by
   rw [av,av];exact Nat.le_trans (aY Z1) (by omega)
  have S2:(ah (az false (bv c)*az false (bv c')).natAbs).size<=34359738368:=Nat.le_trans (aY X3) (by omega);have hp:0 < f7 (fN (aJ (ay (az s (bv b)*az false (bv c')))+aJ (ay (az s' (bv b')*az false (bv c)))) (az false (bv c)*az false (bv c'))):=by
   show 0 < aJ (ay (az false (bv c)*az false (bv c')));rw [av];exact rr hc0 hc0'
  with_unfolding_all refine⟨⟨I1,I4⟩,⟨I3,I2⟩,⟨J1,J2⟩,⟨I2,I4⟩,⟨⟨_,_,_,_,rfl,S1,S2⟩,hp⟩,[some 2],aa [(4,.ptr 0 0 0 0)] [aZ (decide ((jN (.agg ⟨[.bool s,.string b,.bool false,.string c]⟩)+jN (.agg ⟨[.bool s',.string b',.bool false,.string c']⟩)).num < 0)) (ah (jN (.agg ⟨[.bool s,.string b,.bool false,.string c]⟩)+jN (.agg ⟨[.bool s',.string b',.bool false,.string c']⟩)).num.natAbs) (aO (jN (.agg ⟨[.bool s,.string b,.bool false,.string c]⟩)+jN (.agg ⟨[.bool s',.string b',.bool false,.string c']⟩)).den) 0] 1 [],Wo ⟨qZ ⟨⟨gt hQ,rfl⟩,⟨gu hQ,rfl⟩,⟨gv hQ,rfl⟩,qQ⟩,qQ⟩ ⟨pP,qQ⟩ trivial,rfl,rfl⟩
 ·cases e
def Cn:List PV->Option Ans
 |[.val v,.val u]=>some ⟨some (tK 4294967296 v/\tK 4294967296 u),.val (aw (jN v*jN u)),[]⟩
 |_=>none
def D154:Opt:={ perm:=jm 1 [(0,true),(1,true),(2,true),(3,true),(5,true),(6,true),(7,true),(8,true),(4,false),(9,false),(10,true),(11,false)] }
theorem EJ:am D154.toOrd Tryz.f154 2=true:=by kernel_rfl
theorem f154:FnOk Tryz.prog 154 Cn:=by
 refine FnOk.ofW aj (an (l:=[(119,wN),(110,tJ)]) (own:=[]) (inl:=[]) (by simp [f119,f110]) (by simp)) Tryz.func154 D154 2 EJ λargs r e=>?_;unfold Cn at e;split at e
 ·rename_i v u
  cases e;refine⟨by simp,λhm=>?_⟩;obtain⟨⟨s,b,c,rfl,hb,hc,hc0⟩,s',b',c',rfl,hb',hc',hc0'⟩:=hm _ rfl;refine⟨[],aa [(0,.val (.agg ⟨[.bool s,.string b,.bool false,.string c]⟩)),(1,.val (.agg ⟨[.bool s',.string b',.bool false,.string c']⟩))] [] 0 [],Wo trivial ⟨rfl,rfl,qQ⟩ trivial,?_⟩;have I1:eG (.agg ⟨[.bool s,.string b]⟩):=⟨_,_,rfl,by omega⟩;have I2:eG (.agg ⟨[.bool false,.string c]⟩):=⟨_,_,rfl,by omega⟩;have I3:eG (.agg ⟨[.bool s',.string b']⟩):=⟨_,_,rfl,by omega⟩;have I4:eG (.agg ⟨[.bool false,.string c']⟩):=⟨_,_,rfl,by omega⟩;have X1:=o4 s s' b b';have X3:=o4 false false c c';have hQ:mkRat (kt (fN (az s (bv b)*az s' (bv b')) (az false (bv c)*az false (bv c')))) (f7 (fN (az s (bv b)*az s' (bv b')) (az false (bv c)*az false (bv c')))).toNat=jN (.agg ⟨[.bool s,.string b,.bool false,.string c]⟩)*jN (.agg ⟨[.bool s',.string b',.bool false,.string c']⟩):=by
   rw [jO,nL];show _=mkRat (az s (bv b)) (bv c)*mkRat (az s' (bv b')) (bv c');rw [Rat.mkRat_mul_mkRat]
  have S1:(ah (az s (bv b)*az s' (bv b')).natAbs).size<=34359738368:=Nat.le_trans (aY X1) (by omega);have S2:(ah (az false (bv c)*az false (bv c')).natAbs).size<=34359738368:=Nat.le_trans (aY X3) (by omega);have hp:0 < f7 (fN (az s (bv b)*az s' (bv b')) (az false (bv c)*az false (bv c'))):=by
   show 0 < aJ (ay (az false (bv c)*az false (bv c')));rw [av];exact rr hc0 hc0'
  with_unfolding_all refine⟨⟨I1,I3⟩,⟨I2,I4⟩,⟨⟨_,_,_,_,rfl,S1,S2⟩,hp⟩,[some 2],aa [(4,.ptr 0 0 0 0)] [aZ (decide ((jN (.agg ⟨[.bool s,.string b,.bool false,.string c]⟩)*jN (.agg ⟨[.bool s',.string b',.bool false,.string c']⟩)).num < 0)) (ah (jN (.agg ⟨[.bool s,.string b,.bool false,.string c]⟩)*jN (.agg ⟨[.bool s',.string b',.bool false,.string c']⟩)).num.natAbs) (aO (jN (.agg ⟨[.bool s,.string b,.bool false,.string c]⟩)*jN (.agg ⟨[.bool s',.string b',.bool false,.string c']⟩)).den) 0] 1 [],Wo ⟨qZ ⟨⟨gt hQ,rfl⟩,⟨gu hQ,rfl⟩,⟨gv hQ,rfl⟩,qQ⟩,qQ⟩ ⟨pP,qQ⟩ trivial,rfl,rfl⟩
 ·cases e
def Co:List PV->Option Ans
 |[.val v,.val u]=>some ⟨some (tK 4294967296 v/\tK 4294967296 u),.val (goInt (bI (kt v*f7 u) (kt u*f7 v))),[]⟩
 |_=>none
def D118:Opt:={ perm:=jm 1 [(0,true),(1,true),(2,true),(3,true),(5,true),(6,true),(7,true),(8,true),(4,false),(9,false),(10,false)] }
theorem EK:am D118.toOrd Tryz.f118 2=true:=by kernel_rfl
theorem f118:FnOk Tryz.prog 118 Co:=by
 refine FnOk.ofW aj (an (l:=[(119,wN),(108,wO)]) (own:=[]) (inl:=[]) (by simp [f119,f108]) (by simp)) Tryz.func118 D118 2 EK λargs r e=>?_;unfold Co at e;split at e
 ·rename_i v u
  cases e;refine⟨by simp,λhm=>?_⟩;obtain⟨⟨s,b,c,rfl,hb,hc,hc0⟩,s',b',c',rfl,hb',hc',hc0'⟩:=hm _ rfl;refine⟨[],aa [(0,.val (.agg ⟨[.bool s,.string b,.bool false,.string c]⟩)),(1,.val (.agg ⟨[.bool s',.string b',.bool false,.string c']⟩))] [] 0 [],Wo trivial ⟨rfl,rfl,qQ⟩ trivial,?_⟩;have I1:eG (.agg ⟨[.bool s,.string b]⟩):=⟨_,_,rfl,by omega⟩;have I2:eG (.agg ⟨[.bool false,.string c]⟩):=⟨_,_,rfl,by omega⟩;have I3:eG (.agg ⟨[.bool s',.string b']⟩):=⟨_,_,rfl,by omega⟩;have I4:eG (.agg ⟨[.bool false,.string c']⟩):=⟨_,_,rfl,by omega⟩;have J1:eG (ay (az s (bv b)*az false (bv c'))):=cU (o4 s false b c') (by omega);have J2:eG (ay (az s' (bv b')*az false (bv c))):=cU (o4 s' false b' c) (by omega);have hC:PV.val (goInt (bI (aJ (ay (az s (bv b)*az false (bv c')))) (aJ (ay (az s' (bv b')*az false (bv c))))))=PV.val (goInt (bI (az s (bv b)*az false (bv c')) (az s' (bv b')*az false (bv c)))):=by rw [av,av]
  with_unfolding_all refine⟨⟨I1,I4⟩,⟨I3,I2⟩,⟨J1,J2⟩,[],aa [(4,.val (goInt (bI (az s (bv b)*az false (bv c')) (az s' (bv b')*az false (bv c)))))] [] 0 [],Wo trivial ⟨hC,qQ⟩ trivial,rfl,rfl⟩
 ·cases e
end Go.Proofs
namespace Go.Num
def Cp (n d m e:Int):Prop:=n.natAbs < 16777216/\(0 < d/\d < 16777216)/\m.natAbs < 16777216/\0 < e/\e < 16777216
theorem g8 {x y:Int} (h1:x.natAbs < 16777216) (h2:y.natAbs < 16777216):(x*y).natAbs < 281474976710656:=by
 rw [Int.natAbs_mul];exact Nat.mul_lt_mul'' h1 h2
theorem jP {x y:Int} (h1:x.natAbs < 16777216) (h2:y.natAbs < 16777216):IntKind.i64.wrap (x*y)=x*y:=by
 have:=g8 h1 h2;exact wrap64 (by omega) (by omega)
end Go.Num
namespace Go.Proofs
def Cq:List PV->Option Ans
 |[.val (.int .i64 n),.val (.int .i64 d),.val (.int .i64 m),.val (.int .i64 e)]=>some ⟨some (Cp n d m e),.val (aw (mkRat (n*e+m*d) (d*e).toNat)),[]⟩
 |_=>none
theorem EL:am {} Tryz.f149 4=true:=by kernel_rfl
theorem f149:FnOk Tryz.prog 149 Cq:=by
 refine FnOk.ofW aj (an (l:=[(150,zZ)]) (own:=[]) (inl:=[]) (by simp [f150]) (by simp)) Tryz.func149 {} 4 EL λargs r e=>?_;unfold Cq at e;split at e
 ·rename_i n d m e'
  cases e;refine⟨by simp,λhm=>?_⟩;obtain⟨hn,⟨hd1,hd2⟩,hm',he1,he2⟩:=hm _ rfl;have hd:d.natAbs < 16777216:=by omega
  have he:e'.natAbs < 16777216:=by omega
  refine⟨[],aa [(0,.val (.int .i64 n)),(1,.val (.int .i64 d)),(2,.val (.int .i64 m)),(3,.val (.int .i64 e'))] [] 0 [],Wo trivial ⟨rfl,rfl,rfl,rfl,qQ⟩ trivial,?_⟩;have b1:=g8 hn he;have b2:=g8 hm' hd;have b3:=g8 hd he;have b4:0 < d*e':=Int.mul_pos hd1 he1;have w1:IntKind.i64.wrap (IntKind.i64.wrap (n*e')+IntKind.i64.wrap (m*d))=n*e'+m*d:=by
   rw [jP hn he,jP hm' hd,wrap64 (by omega) (by omega)]
  have w2:IntKind.i64.wrap (d*e')=d*e':=jP hd he;have hQ:mkRat (IntKind.i64.wrap (IntKind.i64.wrap (n*e')+IntKind.i64.wrap (m*d))) (IntKind.i64.wrap (d*e')).toNat=mkRat (n*e'+m*d) (d*e').toNat:=by rw [w1,w2]
  with_unfolding_all refine⟨⟨by rw [w2];exact b4,by rw [w2];omega,by rw [w1];omega⟩,[some 0],aa [(8,.ptr 0 0 0 0)] [aZ (decide ((mkRat (n*e'+m*d) (d*e').toNat).num < 0)) (ah (mkRat (n*e'+m*d) (d*e').toNat).num.natAbs) (aO (mkRat (n*e'+m*d) (d*e').toNat).den) 0] 1 [],Wo ⟨qZ ⟨⟨gt hQ,rfl⟩,⟨gu hQ,rfl⟩,⟨gv hQ,rfl⟩,qQ⟩,qQ⟩ ⟨pP,qQ⟩ trivial,rfl,rfl⟩
 ·cases e
def Cr:List PV->Option Ans
 |[.val (.int .i64 n),.val (.int .i64 d),.val (.int .i64 m),.val (.int .i64 e)]=>some ⟨some (Cp n d m e),.val (aw (mkRat (n*m) (d*e).toNat)),[]⟩
 |_=>none
theorem EM:am {} Tryz.f153 4=true:=by kernel_rfl
theorem f153:FnOk Tryz.prog 153 Cr:=by
 refine FnOk.ofW aj (an (l:=[(150,zZ)]) (own:=[]) (inl:=[]) (by simp [f150]) (by simp)) Tryz.func153 {} 4 EM λargs r e=>?_;unfold Cr at e;split at e
 ·rename_i n d m e'
  cases e;refine⟨by simp,λhm=>?_⟩;obtain⟨hn,⟨hd1,hd2⟩,hm',he1,he2⟩:=hm _ rfl;have hd:d.natAbs < 16777216:=by omega
  have he:e'.natAbs < 16777216:=by omega
  refine⟨[],aa [(0,.val (.int .i64 n)),(1,.val (.int .i64 d)),(2,.val (.int .i64 m)),(3,.val (.int .i64 e'))] [] 0 [],Wo trivial ⟨rfl,rfl,rfl,rfl,qQ⟩ trivial,?_⟩;have b1:=g8 hn hm';have b3:=g8 hd he;have b4:0 < d*e':=Int.mul_pos hd1 he1;have w1:IntKind.i64.wrap (n*m)=n*m:=jP hn hm';have w2:IntKind.i64.wrap (d*e')=d*e':=jP hd he;have hQ:mkRat (IntKind.i64.wrap (n*m)) (IntKind.i64.wrap (d*e')).toNat=mkRat (n*m) (d*e').toNat:=by rw [w1,w2]
  with_unfolding_all refine⟨⟨by rw [w2];exact b4,by rw [w2];omega,by rw [w1];omega⟩,[some 0],aa [(8,.ptr 0 0 0 0)] [aZ (decide ((mkRat (n*m) (d*e').toNat).num < 0)) (ah (mkRat (n*m) (d*e').toNat).num.natAbs) (aO (mkRat (n*m) (d*e').toNat).den) 0] 1 [],Wo ⟨qZ ⟨⟨gt hQ,rfl⟩,⟨gu hQ,rfl⟩,⟨gv hQ,rfl⟩,qQ⟩,qQ⟩ ⟨pP,qQ⟩ trivial,rfl,rfl⟩
 ·cases e
def Cs:List PV->Option Ans
 |[.val (.int .i64 n),.val (.int .i64 d),.val (.int .i64 m),.val (.int .i64 e)]=>some ⟨some (Cp n d m e),.val (goInt (bI (n*e) (m*d))),[]⟩
 |_=>none
theorem EN:am {} Tryz.f117 4=true:=by kernel_rfl
theorem f117:FnOk Tryz.prog 117 Cs:=by
 refine FnOk.ofW aj (an (l:=[]) (own:=[]) (inl:=[]) (by simp) (by simp)) Tryz.func117 {} 4 EN λargs r e=>?_;unfold Cs at e;split at e
 ·rename_i n d m e'
  cases e;refine⟨by simp,λhm=>?_⟩;obtain⟨hn,⟨hd1,hd2⟩,hm',he1,he2⟩:=hm _ rfl;have hd:d.natAbs < 16777216:=by omega
  have he:e'.natAbs < 16777216:=by omega
  refine⟨[],aa [(0,.val (.int .i64 n)),(1,.val (.int .i64 d)),(2,.val (.int .i64 m)),(3,.val (.int .i64 e'))] [] 0 [],Wo trivial ⟨rfl,rfl,rfl,rfl,qQ⟩ trivial,?_⟩;have w1:IntKind.i64.wrap (n*e')=n*e':=jP hn he;have w2:IntKind.i64.wrap (m*d)=m*d:=jP hm' hd;have t1:decide (IntKind.i64.wrap (n*e') < IntKind.i64.wrap (m*d))=true->PV.val (goInt (-1))=PV.val (goInt (bI (n*e') (m*d))):=λh=>by
   rw [w1,w2] at h;rw [bI,if_pos (of_decide_eq_true h)]
  have t2:decide (IntKind.i64.wrap (n*e') < IntKind.i64.wrap (m*d))=false->decide (IntKind.i64.wrap (n*e') > IntKind.i64.wrap (m*d))=true->PV.val (goInt 1)=PV.val (goInt (bI (n*e') (m*d))):=λh h'=>by
   rw [w1,w2] at h h';rw [bI,if_neg (of_decide_eq_false h),if_pos (of_decide_eq_true h')]
  have t3:decide (IntKind.i64.wrap (n*e') < IntKind.i64.wrap (m*d))=false->decide (IntKind.i64.wrap (n*e') > IntKind.i64.wrap (m*d))=false->PV.val (goInt 0)=PV.val (goInt (bI (n*e') (m*d))):=λh h'=>by
   rw [w1,w2] at h h';rw [bI,if_neg (of_decide_eq_false h),if_neg (of_decide_eq_false h')]
  with_unfolding_all refine⟨λh=>⟨[],aa [(8,.val (goInt (bI (n*e') (m*d))))] [] 0 [],Wo trivial ⟨t1 h,qQ⟩ trivial,rfl,rfl⟩,λh=>⟨λh'=>⟨[],aa [(8,.val (goInt (bI (n*e') (m*d))))] [] 0 [],Wo trivial ⟨t2 h h',qQ⟩ trivial,rfl,rfl⟩,λh'=>⟨[],aa [(8,.val (goInt (bI (n*e') (m*d))))] [] 0 [],Wo trivial ⟨t3 h h',qQ⟩ trivial,rfl,rfl⟩⟩⟩
 ·cases e
end Go.Proofs
namespace Go.Num
def isRk (k:Nat) (v:Value):Prop:=∃s b c,v=.agg ⟨[.bool s,.string b,.string c]⟩/\b.size<=k/\c.size<=k
theorem isRk.R {k:Nat} {v:Value} (h:isRk k v) (hk:k<=34359738368):Ey v:=by
 obtain⟨s,b,c,rfl,hb,hc⟩:=h;exact⟨_,_,_,rfl,by omega,by omega⟩
theorem eY {k:Nat} {v:Value} (h:isRk k v) (hk:1<=k):tK k (oZ v):=by
 obtain⟨s,b,c,rfl,hb,hc⟩:=h;refine⟨s,b,eX c,rfl,hb,?_,?_⟩
 ·unfold eX;split
  ·exact Nat.le_trans (aY (k:=1) (by decide)) hk
  ·exact hc
 ·rw [jL];have:=bT (bv c);omega
theorem jQ {v:Value} (h:Ey v):jN (oZ v)=aE v:=by
 obtain⟨_,h2,h3,_⟩:=lG h;rw [jN,h2,h3,Int.toNat_natCast];rfl
theorem dO {b c:ByteArray} (h:Go.Proofs.smallB b c=true):b.size<=3/\c.size<=3:=by
 simpa [Go.Proofs.smallB] using h
theorem f8 {b:ByteArray} (h:b.size<=3):bv b < 16777216:=by
 have h1:=bK b;have h2:256^b.size<=256^3:=Nat.pow_le_pow_right (by decide) h;omega
theorem o5 {n:Nat} (h:n < 16777216):bq n < 16777216:=by unfold bq;split<;>omega
theorem tL {b c b' c':ByteArray} (s s':Bool) (h:b.size<=3) (hc:c.size<=3) (h':b'.size<=3) (hc':c'.size<=3):Cp (az s (bv b)) (bq (bv c):Nat) (az s' (bv b')) (bq (bv c'):Nat):=by
 have h1:=f8 h;have h2:=o5 (f8 hc);have h3:=f8 h';have h4:=o5 (f8 hc');have h5:=bT (bv c);have h6:=bT (bv c');refine⟨by rw [aI];exact h1,⟨by omega,by omega⟩,by rw [aI];exact h3,by omega,by omega⟩
end Go.Num
namespace Go.Proofs
def z6:List PV->Option Ans
 |[.val v,.val u,.val (.func (.func 149) ⟨[]⟩ ⟨[]⟩),.val (.func (.func 151) ⟨[]⟩ ⟨[]⟩)]=>some ⟨some (isRk 4294967296 v/\isRk 4294967296 u),.val (aw (aE v+aE u)),[]⟩
 |[.val v,.val u,.val (.func (.func 153) ⟨[]⟩ ⟨[]⟩),.val (.func (.func 154) ⟨[]⟩ ⟨[]⟩)]=>some ⟨some (isRk 4294967296 v/\isRk 4294967296 u),.val (aw (aE v*aE u)),[]⟩
 |_=>none
def D148:Opt:={ perm:=jm 5 [(0,true),(1,true),(3,true),(2,false),(4,false),(5,false)] }
theorem EO:am D148.toOrd Tryz.f148 4=true:=by kernel_rfl
theorem f148:FnOk Tryz.prog 148 z6:=by
 refine FnOk.ofW aj (an (l:=[(155,zX),(137,tI),(149,Cq),(151,Cm),(153,Cr),(154,Cn)]) (own:=[]) (inl:=[]) (by simp [f155,f137,f149,f151,f153,f154]) (by simp)) Tryz.func148 D148 4 EO λargs r e=>?_;unfold z6 at e;split at e
 ·rename_i v u
  cases e;refine⟨by simp,λhm=>?_⟩;obtain⟨hv,hu⟩:=hm _ rfl;have f1:=eY hv (by decide);have f2:=eY hu (by decide);have g1:=jQ (hv.R (by decide));have g2:=jQ (hu.R (by decide));have r1:=hv.R (by decide);have r2:=hu.R (by decide);obtain⟨s,b,c,rfl,hb,hc⟩:=hv;obtain⟨s',b',c',rfl,hb',hc'⟩:=hu;refine⟨[],aa [(0,.val (.agg ⟨[.bool s,.string b,.string c]⟩)),(1,.val (.agg ⟨[.bool s',.string b',.string c']⟩)),(2,.val (.func (.func 149) ⟨[]⟩ ⟨[]⟩)),(3,.val (.func (.func 151) ⟨[]⟩ ⟨[]⟩))] [] 0 [],Wo trivial ⟨rfl,rfl,rfl,rfl,qQ⟩ trivial,?_⟩;have hbig:jN (oZ (.agg ⟨[.bool s,.string b,.string c]⟩))+jN (oZ (.agg ⟨[.bool s',.string b',.string c']⟩))=aE (.agg ⟨[.bool s,.string b,.string c]⟩)+aE (.agg ⟨[.bool s',.string b',.string c']⟩):=by rw [g1,g2]
  have h4:smallB b c=true->smallB b' c'=true->Cp (bif smallB b c then az s (bv b) else 0) (bif smallB b c then((bq (bv c):Nat):Int) else 0) (bif smallB b' c' then az s' (bv b') else 0) (bif smallB b' c' then((bq (bv c'):Nat):Int) else 0):=λh h'=>by
   rw [h,h'];obtain⟨h1,h2⟩:=dO h;obtain⟨h3,h4⟩:=dO h';exact tL s s' h1 h2 h3 h4
  have hsm:smallB b c=true->smallB b' c'=true->mkRat ((bif smallB b c then az s (bv b) else 0)*(bif smallB b' c' then((bq (bv c'):Nat):Int) else 0)+(bif smallB b' c' then az s' (bv b') else 0)*(bif smallB b c then((bq (bv c):Nat):Int) else 0)) ((bif smallB b c then((bq (bv c):Nat):Int) else 0)*(bif smallB b' c' then((bq (bv c'):Nat):Int) else 0)).toNat=aE (.agg ⟨[.bool s,.string b,.string c]⟩)+aE (.agg ⟨[.bool s',.string b',.string c']⟩):=λh h'=>by
   rw [h,h'];show mkRat (az s (bv b)*((bq (bv c'):Nat):Int)+az s' (bv b')*((bq (bv c):Nat):Int)) (((bq (bv c):Nat):Int)*((bq (bv c'):Nat):Int)).toNat=mkRat (az s (bv b)) (bq (bv c))+mkRat (az s' (bv b')) (bq (bv c'));rw [Rat.mkRat_add_mkRat _ _ (Nat.ne_of_gt (bT _)) (Nat.ne_of_gt (bT _)),<-Int.natCast_mul,Int.toNat_natCast]
  with_unfolding_all refine⟨λh=>⟨λh'=>⟨h4 h h',[some 2],aa [(8,.ptr 0 0 0 0)] [aZ (decide ((aE (.agg ⟨[.bool s,.string b,.string c]⟩)+aE (.agg ⟨[.bool s',.string b',.string c']⟩)).num < 0)) (ah (aE (.agg ⟨[.bool s,.string b,.string c]⟩)+aE (.agg ⟨[.bool s',.string b',.string c']⟩)).num.natAbs) (aO (aE (.agg ⟨[.bool s,.string b,.string c]⟩)+aE (.agg ⟨[.bool s',.string b',.string c']⟩)).den) 0] 1 [],Wo ⟨qZ ⟨⟨gt (hsm h h'),rfl⟩,⟨gu (hsm h h'),rfl⟩,⟨gv (hsm h h'),rfl⟩,qQ⟩,qQ⟩ ⟨pP,qQ⟩ trivial,rfl,rfl⟩,λh'=>⟨r1,r2,⟨f1,f2⟩,[some 2],aa [(8,.ptr 0 0 0 0)] [aZ (decide ((aE (.agg ⟨[.bool s,.string b,.string c]⟩)+aE (.agg ⟨[.bool s',.string b',.string c']⟩)).num < 0)) (ah (aE (.agg ⟨[.bool s,.string b,.string c]⟩)+aE (.agg ⟨[.bool s',.string b',.string c']⟩)).num.natAbs) (aO (aE (.agg ⟨[.bool s,.string b,.string c]⟩)+aE (.agg ⟨[.bool s',.string b',.string c']⟩)).den) 0] 1 [],Wo ⟨qZ ⟨⟨gt hbig,rfl⟩,⟨gu hbig,rfl⟩,⟨gv hbig,rfl⟩,qQ⟩,qQ⟩ ⟨pP,qQ⟩ trivial,rfl,rfl⟩⟩,λh=>⟨λh'=>(nomatch h'),λ_=>⟨r1,r2,⟨f1,f2⟩,[some 2],aa [(8,.ptr 0 0 0 0)] [aZ (decide ((aE (.agg ⟨[.bool s,.string b,.string c]⟩)+aE (.agg ⟨[.bool s',.string b',.string c']⟩)).num < 0)) (ah (aE (.agg ⟨[.bool s,.string b,.string c]⟩)+aE (.agg ⟨[.bool s',.string b',.string c']⟩)).num.natAbs) (aO (aE (.agg ⟨[.bool s,.string b,.string c]⟩)+aE (.agg ⟨[.bool s',.string b',.string c']⟩)).den) 0] 1 [],Wo ⟨qZ ⟨⟨gt hbig,rfl⟩,⟨gu hbig,rfl⟩,⟨gv hbig,rfl⟩,qQ⟩,qQ⟩ ⟨pP,qQ⟩ trivial,rfl,rfl⟩⟩⟩
 ·rename_i v u
  cases e;refine⟨by simp,λhm=>?_⟩;obtain⟨hv,hu⟩:=hm _ rfl;have f1:=eY hv (by decide);have f2:=eY hu (by decide);have g1:=jQ (hv.R (by decide));have g2:=jQ (hu.R (by decide));have r1:=hv.R (by decide);have r2:=hu.R (by decide);obtain⟨s,b,c,rfl,hb,hc⟩:=hv;obtain⟨s',b',c',rfl,hb',hc'⟩:=hu;refine⟨[],aa [(0,.val (.agg ⟨[.bool s,.string b,.string c]⟩)),(1,.val (.agg ⟨[.bool s',.string b',.string c']⟩)),(2,.val (.func (.func 153) ⟨[]⟩ ⟨[]⟩)),(3,.val (.func (.func 154) ⟨[]⟩ ⟨[]⟩))] [] 0 [],Wo trivial ⟨rfl,rfl,rfl,rfl,qQ⟩ trivial,?_⟩;have hbig:jN (oZ (.agg ⟨[.bool s,.string b,.string c]⟩))*jN (oZ (.agg ⟨[.bool s',.string b',.string c']⟩))=aE (.agg ⟨[.bool s,.string b,.string c]⟩)*aE (.agg ⟨[.bool s',.string b',.string c']⟩):=by rw [g1,g2]
  have h4:smallB b c=true->smallB b' c'=true->Cp (bif smallB b c then az s (bv b) else 0) (bif smallB b c then((bq (bv c):Nat):Int) else 0) (bif smallB b' c' then az s' (bv b') else 0) (bif smallB b' c' then((bq (bv c'):Nat):Int) else 0):=λh h'=>by
   rw [h,h'];obtain⟨h1,h2⟩:=dO h;obtain⟨h3,h4⟩:=dO h';exact tL s s' h1 h2 h3 h4
  have hsm:smallB b c=true->smallB b' c'=true->mkRat ((bif smallB b c then az s (bv b) else 0)*(bif smallB b' c' then az s' (bv b') else 0)) ((bif smallB b c then((bq (bv c):Nat):Int) else 0)*(bif smallB b' c' then((bq (bv c'):Nat):Int) else 0)).toNat=aE (.agg ⟨[.bool s,.string b,.string c]⟩)*aE (.agg ⟨[.bool s',.string b',.string c']⟩):=λh h'=>by
   rw [h,h'];show mkRat (az s (bv b)*az s' (bv b')) (((bq (bv c):Nat):Int)*((bq (bv c'):Nat):Int)).toNat=mkRat (az s (bv b)) (bq (bv c))*mkRat (az s' (bv b')) (bq (bv c'));rw [Rat.mkRat_mul_mkRat,<-Int.natCast_mul,Int.toNat_natCast]
  with_unfolding_all refine⟨λh=>⟨λh'=>⟨h4 h h',[some 2],aa [(8,.ptr 0 0 0 0)] [aZ (decide ((aE (.agg ⟨[.bool s,.string b,.string c]⟩)*aE (.agg ⟨[.bool s',.string b',.string c']⟩)).num < 0)) (ah (aE (.agg ⟨[.bool s,.string b,.string c]⟩)*aE (.agg ⟨[.bool s',.string b',.string c']⟩)).num.natAbs) (aO (aE (.agg ⟨[.bool s,.string b,.string c]⟩)*aE (.agg ⟨[.bool s',.string b',.string c']⟩)).den) 0] 1 [],Wo ⟨qZ ⟨⟨gt (hsm h h'),rfl⟩,⟨gu (hsm h h'),rfl⟩,⟨gv (hsm h h'),rfl⟩,qQ⟩,qQ⟩ ⟨pP,qQ⟩ trivial,rfl,rfl⟩,λh'=>⟨r1,r2,⟨f1,f2⟩,[some 2],aa [(8,.ptr 0 0 0 0)] [aZ (decide ((aE (.agg ⟨[.bool s,.string b,.string c]⟩)*aE (.agg ⟨[.bool s',.string b',.string c']⟩)).num < 0)) (ah (aE (.agg ⟨[.bool s,.string b,.string c]⟩)*aE (.agg ⟨[.bool s',.string b',.string c']⟩)).num.natAbs) (aO (aE (.agg ⟨[.bool s,.string b,.string c]⟩)*aE (.agg ⟨[.bool s',.string b',.string c']⟩)).den) 0] 1 [],Wo ⟨qZ ⟨⟨gt hbig,rfl⟩,⟨gu hbig,rfl⟩,⟨gv hbig,rfl⟩,qQ⟩,qQ⟩ ⟨pP,qQ⟩ trivial,rfl,rfl⟩⟩,λh=>⟨λh'=>(nomatch h'),λ_=>⟨r1,r2,⟨f1,f2⟩,[some 2],aa [(8,.ptr 0 0 0 0)] [aZ (decide ((aE (.agg ⟨[.bool s,.string b,.string c]⟩)*aE (.agg ⟨[.bool s',.string b',.string c']⟩)).num < 0)) (ah (aE (.agg ⟨[.bool s,.string b,.string c]⟩)*aE (.agg ⟨[.bool s',.string b',.string c']⟩)).num.natAbs) (aO (aE (.agg ⟨[.bool s,.string b,.string c]⟩)*aE (.agg ⟨[.bool s',.string b',.string c']⟩)).den) 0] 1 [],Wo ⟨qZ ⟨⟨gt hbig,rfl⟩,⟨gu hbig,rfl⟩,⟨gv hbig,rfl⟩,qQ⟩,qQ⟩ ⟨pP,qQ⟩ trivial,rfl,rfl⟩⟩⟩
 ·cases e
end Go.Proofs
namespace Go.Num
def ao (a b:Rat):Int:=if a < b then -1 else if b < a then 1 else 0
theorem g9 (n:Int) {d:Nat} (h:d≠0):∃g:Nat,0 < g/\n=(mkRat n d).num*(g:Int)/\d=(mkRat n d).den*g:=by
 have hg:0 < Nat.gcd d n.natAbs:=Nat.gcd_pos_of_pos_left _ (by omega);refine⟨Nat.gcd d n.natAbs,hg,?_,?_⟩
 ·rw [Rat.num_mkRat,if_neg h];exact(Int.ediv_mul_cancel (Int.natAbs_dvd_natAbs.1 (Nat.gcd_dvd_right d n.natAbs))).symm
 ·rw [Rat.den_mkRat,if_neg h];exact(Nat.div_mul_cancel (Nat.gcd_dvd_left d n.natAbs)).symm
theorem ru (n m:Int) {d e:Nat} (hd:d≠0) (he:e≠0):mkRat n d < mkRat m e↔n*(e:Int) < m*(d:Int):=by
 obtain⟨g,hg,h1,h2⟩:=g9 n hd;obtain⟨k,hk,h3,h4⟩:=g9 m he;rw [Rat.lt_iff];generalize mkRat n d=p at *
 generalize mkRat m e=q at *
 rw [h1,h2,h3,h4];have e1:p.num*(g:Int)*((q.den*k:Nat):Int)=p.num*(q.den:Int)*((g*k:Nat):Int):=by
  rw [Int.natCast_mul,Int.natCast_mul];simp only [Int.mul_assoc,Int.mul_comm,Int.mul_left_comm]
 have e2:q.num*(k:Int)*((p.den*g:Nat):Int)=q.num*(p.den:Int)*((g*k:Nat):Int):=by
  rw [Int.natCast_mul,Int.natCast_mul];simp only [Int.mul_assoc,Int.mul_comm,Int.mul_left_comm]
 rw [e1,e2];have hpos:(0:Int) < ((g*k:Nat):Int):=by
  have:=Nat.mul_pos hg hk;omega
 exact⟨λh=>Int.mul_lt_mul_of_pos_right h hpos,λh=>Int.lt_of_mul_lt_mul_right h (Int.le_of_lt hpos)⟩
theorem tM (n m:Int) {d e:Nat} (hd:d≠0) (he:e≠0):bI (n*(e:Int)) (m*(d:Int))=ao (mkRat n d) (mkRat m e):=by
 unfold bI ao;simp only [ru n m hd he,ru m n he hd]
theorem uX (s:Bool) (b c:ByteArray):aE (.agg ⟨[.bool (!s),.string b,.string c]⟩) = -aE (.agg ⟨[.bool s,.string b,.string c]⟩):=by
 show mkRat (az (!s) (bv b)) (bq (bv c)) = -mkRat (az s (bv b)) (bq (bv c));rw [Rat.neg_mkRat];cases s
 ·rfl
 ·show mkRat ((bv b:Nat):Int) _=mkRat (- -((bv b:Nat):Int)) _;rw [Int.neg_neg]
end Go.Num
namespace Go.Proofs
def z7:List PV->Option Ans
 |[.val v,.val u]=>some ⟨some (isRk 4294967296 v/\isRk 4294967296 u),.val (aw (aE v+aE u)),[]⟩
 |_=>none
theorem EP:am {} Tryz.f113 2=true:=by kernel_rfl
theorem f113:FnOk Tryz.prog 113 z7:=by
 refine FnOk.ofW aj (an (l:=[(148,z6)]) (own:=[]) (inl:=[]) (by simp [f148]) (by simp)) Tryz.func113 {} 2 EP λargs r e=>?_;unfold z7 at e;split at e
 ·rename_i v u
  cases e;refine⟨by simp,λhm=>?_⟩;obtain⟨⟨s,b,c,rfl,hb,hc⟩,s',b',c',rfl,hb',hc'⟩:=hm _ rfl;refine⟨[],aa [(0,.val (.agg ⟨[.bool s,.string b,.string c]⟩)),(1,.val (.agg ⟨[.bool s',.string b',.string c']⟩))] [] 0 [],Wo trivial ⟨rfl,rfl,qQ⟩ trivial,?_⟩;have hq:aE (.agg ⟨[.bool s,.string b,.string c]⟩)+aE (.agg ⟨[.bool s',.string b',.string c']⟩)=aE (.agg ⟨[.bool s,.string b,.string c]⟩)+aE (.agg ⟨[.bool s',.string b',.string c']⟩):=rfl;with_unfolding_all refine⟨⟨⟨_,_,_,rfl,hb,hc⟩,_,_,_,rfl,hb',hc'⟩,[some 2],aa [(4,.ptr 0 0 0 0)] [aZ (decide ((aE (.agg ⟨[.bool s,.string b,.string c]⟩)+aE (.agg ⟨[.bool s',.string b',.string c']⟩)).num < 0)) (ah (aE (.agg ⟨[.bool s,.string b,.string c]⟩)+aE (.agg ⟨[.bool s',.string b',.string c']⟩)).num.natAbs) (aO (aE (.agg ⟨[.bool s,.string b,.string c]⟩)+aE (.agg ⟨[.bool s',.string b',.string c']⟩)).den) 0] 1 [],Wo ⟨qZ ⟨⟨gt hq,rfl⟩,⟨gu hq,rfl⟩,⟨gv hq,rfl⟩,qQ⟩,qQ⟩ ⟨pP,qQ⟩ trivial,rfl,rfl⟩
 ·cases e
def Ct:List PV->Option Ans
 |[.val v,.val u]=>some ⟨some (isRk 4294967296 v/\isRk 4294967296 u),.val (aw (aE v*aE u)),[]⟩
 |_=>none
theorem EQ:am {} Tryz.f114 2=true:=by kernel_rfl
theorem f114:FnOk Tryz.prog 114 Ct:=by
 refine FnOk.ofW aj (an (l:=[(148,z6)]) (own:=[]) (inl:=[]) (by simp [f148]) (by simp)) Tryz.func114 {} 2 EQ λargs r e=>?_;unfold Ct at e;split at e
 ·rename_i v u
  cases e;refine⟨by simp,λhm=>?_⟩;obtain⟨⟨s,b,c,rfl,hb,hc⟩,s',b',c',rfl,hb',hc'⟩:=hm _ rfl;refine⟨[],aa [(0,.val (.agg ⟨[.bool s,.string b,.string c]⟩)),(1,.val (.agg ⟨[.bool s',.string b',.string c']⟩))] [] 0 [],Wo trivial ⟨rfl,rfl,qQ⟩ trivial,?_⟩;have hq:aE (.agg ⟨[.bool s,.string b,.string c]⟩)*aE (.agg ⟨[.bool s',.string b',.string c']⟩)=aE (.agg ⟨[.bool s,.string b,.string c]⟩)*aE (.agg ⟨[.bool s',.string b',.string c']⟩):=rfl;with_unfolding_all refine⟨⟨⟨_,_,_,rfl,hb,hc⟩,_,_,_,rfl,hb',hc'⟩,[some 2],aa [(4,.ptr 0 0 0 0)] [aZ (decide ((aE (.agg ⟨[.bool s,.string b,.string c]⟩)*aE (.agg ⟨[.bool s',.string b',.string c']⟩)).num < 0)) (ah (aE (.agg ⟨[.bool s,.string b,.string c]⟩)*aE (.agg ⟨[.bool s',.string b',.string c']⟩)).num.natAbs) (aO (aE (.agg ⟨[.bool s,.string b,.string c]⟩)*aE (.agg ⟨[.bool s',.string b',.string c']⟩)).den) 0] 1 [],Wo ⟨qZ ⟨⟨gt hq,rfl⟩,⟨gu hq,rfl⟩,⟨gv hq,rfl⟩,qQ⟩,qQ⟩ ⟨pP,qQ⟩ trivial,rfl,rfl⟩
 ·cases e
def m8:List PV->Option Ans
 |[.val v,.val u]=>some ⟨some (isRk 4294967296 v/\isRk 4294967296 u),.val (aw (aE v - aE u)),[]⟩
 |_=>none
theorem ES:am {} Tryz.f115 2=true:=by kernel_rfl
theorem f115:FnOk Tryz.prog 115 m8:=by
 refine FnOk.ofW aj (an (l:=[(113,z7)]) (own:=[]) (inl:=[]) (by simp [f113]) (by simp)) Tryz.func115 {} 2 ES λargs r e=>?_;unfold m8 at e;split at e
 ·rename_i v u
  cases e;refine⟨by simp,λhm=>?_⟩;obtain⟨⟨s,b,c,rfl,hb,hc⟩,s',b',c',rfl,hb',hc'⟩:=hm _ rfl;refine⟨[],aa [(0,.val (.agg ⟨[.bool s,.string b,.string c]⟩)),(1,.val (.agg ⟨[.bool s',.string b',.string c']⟩))] [] 0 [],Wo trivial ⟨rfl,rfl,qQ⟩ trivial,?_⟩;have hq:aE (.agg ⟨[.bool s,.string b,.string c]⟩)+aE (.agg ⟨[.bool (!s'),.string b',.string c']⟩)=aE (.agg ⟨[.bool s,.string b,.string c]⟩) - aE (.agg ⟨[.bool s',.string b',.string c']⟩):=by rw [uX,Rat.sub_eq_add_neg]
  with_unfolding_all refine⟨⟨⟨_,_,_,rfl,hb,hc⟩,_,_,_,rfl,hb',hc'⟩,[some 2],aa [(4,.ptr 0 0 0 0)] [aZ (decide ((aE (.agg ⟨[.bool s,.string b,.string c]⟩) - aE (.agg ⟨[.bool s',.string b',.string c']⟩)).num < 0)) (ah (aE (.agg ⟨[.bool s,.string b,.string c]⟩) - aE (.agg ⟨[.bool s',.string b',.string c']⟩)).num.natAbs) (aO (aE (.agg ⟨[.bool s,.string b,.string c]⟩) - aE (.agg ⟨[.bool s',.string b',.string c']⟩)).den) 0] 1 [],Wo ⟨qZ ⟨⟨gt hq,rfl⟩,⟨gu hq,rfl⟩,⟨gv hq,rfl⟩,qQ⟩,qQ⟩ ⟨pP,qQ⟩ trivial,rfl,rfl⟩
 ·cases e
def Cu:List PV->Option Ans
 |[.val v,.val u,.val (.func (.func 117) ⟨[]⟩ ⟨[]⟩),.val (.func (.func 118) ⟨[]⟩ ⟨[]⟩)]=>some ⟨some (isRk 4294967296 v/\isRk 4294967296 u),.val (goInt (ao (aE v) (aE u))),[]⟩
 |_=>none
def D116:Opt:={ perm:=jm 5 [(0,true),(1,true),(3,true),(2,false),(4,false),(5,false)] }
theorem ET:am D116.toOrd Tryz.f116 4=true:=by kernel_rfl
theorem f116:FnOk Tryz.prog 116 Cu:=by
 refine FnOk.ofW aj (an (l:=[(155,zX),(137,tI),(117,Cs),(118,Co)]) (own:=[]) (inl:=[]) (by simp [f155,f137,f117,f118]) (by simp)) Tryz.func116 D116 4 ET λargs r e=>?_;unfold Cu at e;split at e
 ·rename_i v u
  cases e;refine⟨by simp,λhm=>?_⟩;obtain⟨hv,hu⟩:=hm _ rfl;have f1:=eY hv (by decide);have f2:=eY hu (by decide);have r1:=hv.R (by decide);have r2:=hu.R (by decide);obtain⟨_,i1,i2,_⟩:=lG r1;obtain⟨_,j1,j2,_⟩:=lG r2;obtain⟨s,b,c,rfl,hb,hc⟩:=hv;obtain⟨s',b',c',rfl,hb',hc'⟩:=hu;refine⟨[],aa [(0,.val (.agg ⟨[.bool s,.string b,.string c]⟩)),(1,.val (.agg ⟨[.bool s',.string b',.string c']⟩)),(2,.val (.func (.func 117) ⟨[]⟩ ⟨[]⟩)),(3,.val (.func (.func 118) ⟨[]⟩ ⟨[]⟩))] [] 0 [],Wo trivial ⟨rfl,rfl,rfl,rfl,qQ⟩ trivial,?_⟩;have key:=tM (az s (bv b)) (az s' (bv b')) (Nat.ne_of_gt (bT (bv c))) (Nat.ne_of_gt (bT (bv c')));have hbig:PV.val (goInt (bI (kt (oZ (.agg ⟨[.bool s,.string b,.string c]⟩))*f7 (oZ (.agg ⟨[.bool s',.string b',.string c']⟩))) (kt (oZ (.agg ⟨[.bool s',.string b',.string c']⟩))*f7 (oZ (.agg ⟨[.bool s,.string b,.string c]⟩)))))=PV.val (goInt (ao (aE (.agg ⟨[.bool s,.string b,.string c]⟩)) (aE (.agg ⟨[.bool s',.string b',.string c']⟩)))):=by
   rw [i1,i2,j1,j2];exact congrArg (λx=>PV.val (goInt x)) key
  have h4:smallB b c=true->smallB b' c'=true->Cp (bif smallB b c then az s (bv b) else 0) (bif smallB b c then((bq (bv c):Nat):Int) else 0) (bif smallB b' c' then az s' (bv b') else 0) (bif smallB b' c' then((bq (bv c'):Nat):Int) else 0):=λh h'=>by
   rw [h,h'];obtain⟨h1,h2⟩:=dO h;obtain⟨h3,h4⟩:=dO h';exact tL s s' h1 h2 h3 h4
  have hsm:smallB b c=true->smallB b' c'=true->PV.val (goInt (bI ((bif smallB b c then az s (bv b) else 0)*(bif smallB b' c' then((bq (bv c'):Nat):Int) else 0)) ((bif smallB b' c' then az s' (bv b') else 0)*(bif smallB b c then((bq (bv c):Nat):Int) else 0))))=PV.val (goInt (ao (aE (.agg ⟨[.bool s,.string b,.string c]⟩)) (aE (.agg ⟨[.bool s',.string b',.string c']⟩)))):=λh h'=>by
   rw [h,h'];exact congrArg (λx=>PV.val (goInt x)) key
  with_unfolding_all refine⟨λh=>⟨λh'=>⟨h4 h h',[],aa [(8,.val (goInt (ao (aE (.agg ⟨[.bool s,.string b,.string c]⟩)) (aE (.agg ⟨[.bool s',.string b',.string c']⟩)))))] [] 0 [],Wo trivial ⟨hsm h h',qQ⟩ trivial,rfl,rfl⟩,λh'=>⟨r1,r2,⟨f1,f2⟩,[],aa [(8,.val (goInt (ao (aE (.agg ⟨[.bool s,.string b,.string c]⟩)) (aE (.agg ⟨[.bool s',.string b',.string c']⟩)))))] [] 0 [],Wo trivial ⟨hbig,qQ⟩ trivial,rfl,rfl⟩⟩,λh=>⟨λh'=>(nomatch h'),λ_=>⟨r1,r2,⟨f1,f2⟩,[],aa [(8,.val (goInt (ao (aE (.agg ⟨[.bool s,.string b,.string c]⟩)) (aE (.agg ⟨[.bool s',.string b',.string c']⟩)))))] [] 0 [],Wo trivial ⟨hbig,qQ⟩ trivial,rfl,rfl⟩⟩⟩
 ·cases e
def GK:List PV->Option Ans
 |[.val v,.val u]=>some ⟨some (isRk 4294967296 v/\isRk 4294967296 u),.val (goInt (ao (aE v) (aE u))),[]⟩
 |_=>none
theorem Hf:am {} Tryz.f80 2=true:=by kernel_rfl
theorem f80:FnOk Tryz.prog 80 GK:=by
 refine FnOk.ofW aj (an (l:=[(116,Cu)]) (own:=[]) (inl:=[]) (by simp [f116]) (by simp)) Tryz.func80 {} 2 Hf λargs r e=>?_;unfold GK at e;split at e
 ·rename_i v u
  cases e;refine⟨by simp,λhm=>?_⟩;obtain⟨⟨s,b,c,rfl,hb,hc⟩,s',b',c',rfl,hb',hc'⟩:=hm _ rfl;refine⟨[],aa [(0,.val (.agg ⟨[.bool s,.string b,.string c]⟩)),(1,.val (.agg ⟨[.bool s',.string b',.string c']⟩))] [] 0 [],Wo trivial ⟨rfl,rfl,qQ⟩ trivial,?_⟩;with_unfolding_all refine⟨⟨⟨_,_,_,rfl,hb,hc⟩,_,_,_,rfl,hb',hc'⟩,[],aa [(4,.val (goInt (ao (aE (.agg ⟨[.bool s,.string b,.string c]⟩)) (aE (.agg ⟨[.bool s',.string b',.string c']⟩)))))] [] 0 [],Wo trivial ⟨rfl,qQ⟩ trivial,rfl,rfl⟩
 ·cases e
end Go.Proofs
namespace Go.Num
theorem yq (n:Int) {d:Nat} (hd:d≠0):bI n 0=ao (mkRat n d) 0:=by
 have:=tM n 0 hd (show(1:Nat)≠0 by decide);rw [Int.zero_mul,Int.natCast_one,Int.mul_one,Rat.zero_mkRat] at this;exact this
end Go.Num
namespace Go.Proofs
def hO (s:Bool) (b c:ByteArray) (q:Rat):Bool:=s==decide (q.num < 0)&&(b==ah q.num.natAbs&&(c==aO q.den&&true))
def bl (v:Value):Bool:=match v with
 |.agg ⟨[.bool s,.string b,.string c]⟩=>hO s b c (aE v)
 |_=>false
def yr:List PV->Option Ans
 |[.val v]=>some ⟨some (isRk 4294967296 v),.val (goInt (ao (aE v) 0)),[]⟩
 |_=>none
theorem EU:am {} Tryz.f139 1=true:=by kernel_rfl
theorem f139:FnOk Tryz.prog 139 yr:=by
 refine FnOk.ofW aj (an (l:=[(137,tI),(108,wO)]) (own:=[]) (inl:=[]) (by simp [f137,f108]) (by simp)) Tryz.func139 {} 1 EU λargs r e=>?_;unfold yr at e;split at e
 ·rename_i v
  cases e;refine⟨by simp,λhm=>?_⟩;obtain hv:=hm _ rfl;have r1:=hv.R (by decide);obtain⟨s,b,c,rfl,hb,hc⟩:=hv;refine⟨[],aa [(0,.val (.agg ⟨[.bool s,.string b,.string c]⟩))] [] 0 [],Wo trivial ⟨rfl,qQ⟩ trivial,?_⟩;have key:=yq (az s (bv b)) (Nat.ne_of_gt (bT (bv c)));with_unfolding_all refine⟨r1,⟨⟨_,_,rfl,by omega⟩,_,_,rfl,by decide⟩,[],aa [(2,.val (goInt (ao (aE (.agg ⟨[.bool s,.string b,.string c]⟩)) 0)))] [] 0 [],Wo trivial ⟨congrArg (λx=>PV.val (goInt x)) key,qQ⟩ trivial,rfl,rfl⟩
 ·cases e
def Cv:List PV->Option Ans
 |[.val v]=>some ⟨some (isRk 4294967296 v),.val (.int .i64 (bif bl v then 0 else 1)),[]⟩
 |_=>none
def D100:Opt:={ perm:=jm 1 [(0,true),(1,true),(2,false),(3,false)] }
theorem EV:am D100.toOrd Tryz.f100 1=true:=by kernel_rfl
theorem f100:FnOk Tryz.prog 100 Cv:=by
 refine FnOk.ofW aj (an (l:=[(137,tI),(110,tJ)]) (own:=[]) (inl:=[]) (by simp [f137,f110]) (by simp)) Tryz.func100 D100 1 EV λargs r e=>?_;unfold Cv at e;split at e
 ·rename_i v
  cases e;refine⟨by simp,λhm=>?_⟩;obtain hv:=hm _ rfl;have r1:=hv.R (by decide);obtain⟨s,b,c,rfl,hb,hc⟩:=hv;refine⟨[],aa [(0,.val (.agg ⟨[.bool s,.string b,.string c]⟩))] [] 0 [],Wo trivial ⟨rfl,qQ⟩ trivial,?_⟩;have E:hO s b c (jN (oZ (.agg ⟨[.bool s,.string b,.string c]⟩)))=bl (.agg ⟨[.bool s,.string b,.string c]⟩):=by rw [jQ r1];rfl
  have t1:(!hO s b c (jN (oZ (.agg ⟨[.bool s,.string b,.string c]⟩))))=true->PV.val (.int .i64 1)=PV.val (.int .i64 (bif bl (.agg ⟨[.bool s,.string b,.string c]⟩) then 0 else 1)):=λh=>by
   rw [E] at h;cases hc:bl (.agg ⟨[.bool s,.string b,.string c]⟩) with
   |true=>rw [hc] at h;cases h
   |false=>rfl
  have t2:(!hO s b c (jN (oZ (.agg ⟨[.bool s,.string b,.string c]⟩))))=false->PV.val (.int .i64 0)=PV.val (.int .i64 (bif bl (.agg ⟨[.bool s,.string b,.string c]⟩) then 0 else 1)):=λh=>by
   rw [E] at h;cases hc:bl (.agg ⟨[.bool s,.string b,.string c]⟩) with
   |true=>rfl
   |false=>rw [hc] at h;cases h
  obtain⟨iF,_,_,ip⟩:=lG r1;with_unfolding_all refine⟨r1,⟨iF,ip⟩,λh=>⟨[],aa [(2,.val (.int .i64 (bif bl (.agg ⟨[.bool s,.string b,.string c]⟩) then 0 else 1)))] [] 0 [],Wo trivial ⟨t1 h,qQ⟩ trivial,rfl,rfl⟩,λh=>⟨[],aa [(2,.val (.int .i64 (bif bl (.agg ⟨[.bool s,.string b,.string c]⟩) then 0 else 1)))] [] 0 [],Wo trivial ⟨t2 h,qQ⟩ trivial,rfl,rfl⟩⟩
 ·cases e
def GL:List PV->Option Ans
 |[.val v,.val u]=>some ⟨some (eG v/\eG u),.val (.tuple ⟨[aw (Rat.divInt (aJ v) (aJ u)),.int .i64 (bif decide (aJ u=0) then 10 else 0)]⟩),[]⟩
 |_=>none
def D72:Opt:={ perm:=jm 5 [(0,true),(2,true),(1,false),(3,false)] }
theorem Hg:am D72.toOrd Tryz.f72 2=true:=by kernel_rfl
theorem f72:FnOk Tryz.prog 72 GL:=by
 refine FnOk.ofW aj (an (l:=[(108,wO),(109,Ce),(110,tJ)]) (own:=[]) (inl:=[]) (by simp [f108,f109,f110]) (by simp)) Tryz.func72 D72 2 Hg λargs r e=>?_;unfold GL at e;split at e
 ·rename_i v u
  cases e;refine⟨by simp,λhm=>?_⟩;obtain⟨⟨s,b,rfl,hb⟩,q,c,rfl,hc⟩:=hm _ rfl;refine⟨[],aa [(0,.val (.agg ⟨[.bool s,.string b]⟩)),(1,.val (.agg ⟨[.bool q,.string c]⟩))] [] 0 [],Wo trivial ⟨rfl,rfl,qQ⟩ trivial,?_⟩;have z1:(bI (az q (bv c)) 0==0)=true->az q (bv c)=0:=λh=>by
   have h:bI (az q (bv c)) 0=0:=by simpa using h
   unfold bI at h;split at h
   ·omega
   ·split at h<;>omega
  have z2:(bI (az q (bv c)) 0==0)=false->az q (bv c)≠0:=λh e=>by
   rw [e] at h;exact absurd h (by decide)
  have z3:(bI (az q (bv c)) 0 == -1)=true->az q (bv c) < 0:=λh=>by
   have h:bI (az q (bv c)) 0 = -1:=by simpa using h
   unfold bI at h;split at h
   ·assumption
   ·split at h<;>omega
  have z4:(bI (az q (bv c)) 0 == -1)=false->¬az q (bv c) < 0:=λh e=>by
   have:bI (az q (bv c)) 0 = -1:=by rw [bI,if_pos e]
   rw [this] at h;exact absurd h (by decide)
  have v0:az q (bv c)=0->Value.tuple ⟨[.agg ⟨[.bool false,.string ⟨#[]⟩,.string ⟨#[]⟩]⟩,.int .i64 10]⟩=Value.tuple ⟨[aw (Rat.divInt (az s (bv b)) (az q (bv c))),.int .i64 (bif decide (az q (bv c)=0) then 10 else 0)]⟩:=λh=>by
   rw [h,Rat.divInt_zero,iI];rfl
  have v1:az q (bv c)≠0->Value.tuple ⟨[aw (Rat.divInt (az s (bv b)) (az q (bv c))),.int .i64 0]⟩=Value.tuple ⟨[aw (Rat.divInt (az s (bv b)) (az q (bv c))),.int .i64 (bif decide (az q (bv c)=0) then 10 else 0)]⟩:=λh=>by
   rw [decide_eq_false h];rfl
  have q1:az q (bv c) < 0->mkRat (kt (fN (-(az s (bv b))) (-(az q (bv c))))) (f7 (fN (-(az s (bv b))) (-(az q (bv c))))).toNat=Rat.divInt (az s (bv b)) (az q (bv c)):=λh=>by
   rw [jO,<-Rat.divInt_ofNat,Int.toNat_of_nonneg (by omega),Rat.neg_divInt_neg]
  have p1:az q (bv c) < 0->0 < f7 (fN (-(az s (bv b))) (-(az q (bv c)))):=λh=>by
   show 0 < aJ (ay (-(az q (bv c))));rw [av];omega
  have q2:¬az q (bv c) < 0->mkRat (az s (bv b)) (az q (bv c)).toNat=Rat.divInt (az s (bv b)) (az q (bv c)):=λh=>by
   rw [<-Rat.divInt_ofNat,Int.toNat_of_nonneg (by omega)]
  have S1:(ah (-(az s (bv b))).natAbs).size<=34359738368:=Nat.le_trans (aY (k:=b.size) (by rw [Int.natAbs_neg,aI];exact bK b)) hb;have S2:(ah (-(az q (bv c))).natAbs).size<=34359738368:=Nat.le_trans (aY (k:=c.size) (by rw [Int.natAbs_neg,aI];exact bK c)) hc;with_unfolding_all refine⟨⟨⟨_,_,rfl,hc⟩,_,_,rfl,by decide⟩,λh=>⟨[some 2],aa [(4,.ptr 0 0 0 0),(5,.val (.int .i64 10))] [aZ false ⟨#[]⟩ ⟨#[]⟩ 0] 1 [],Wo ⟨qX,qQ⟩ ⟨pP,rfl,qQ⟩ trivial,congrArg PV.val (v0 (z1 h)),rfl⟩,λh=>⟨λh'=>⟨⟨_,_,rfl,hb⟩,⟨_,_,rfl,hc⟩,⟨⟨_,_,_,_,rfl,S1,S2⟩,p1 (z3 h')⟩,[some 2],aa [(4,.ptr 0 0 0 0),(5,.val (.int .i64 0))] [aZ (decide ((Rat.divInt (az s (bv b)) (az q (bv c))).num < 0)) (ah (Rat.divInt (az s (bv b)) (az q (bv c))).num.natAbs) (aO (Rat.divInt (az s (bv b)) (az q (bv c))).den) 0] 1 [],Wo ⟨qZ ⟨⟨gt (q1 (z3 h')),rfl⟩,⟨gu (q1 (z3 h')),rfl⟩,⟨gv (q1 (z3 h')),rfl⟩,qQ⟩,qQ⟩ ⟨pP,rfl,qQ⟩ trivial,congrArg PV.val (v1 (z2 h)),rfl⟩,λh'=>⟨⟨⟨_,_,_,_,rfl,hb,hc⟩,(by have:=z2 h;have:=z4 h';show 0 < az q (bv c);omega)⟩,[some 2],aa [(4,.ptr 0 0 0 0),(5,.val (.int .i64 0))] [aZ (decide ((Rat.divInt (az s (bv b)) (az q (bv c))).num < 0)) (ah (Rat.divInt (az s (bv b)) (az q (bv c))).num.natAbs) (aO (Rat.divInt (az s (bv b)) (az q (bv c))).den) 0] 1 [],Wo ⟨qZ ⟨⟨gt (q2 (z4 h')),rfl⟩,⟨gu (q2 (z4 h')),rfl⟩,⟨gv (q2 (z4 h')),rfl⟩,qQ⟩,qQ⟩ ⟨pP,rfl,qQ⟩ trivial,congrArg PV.val (v1 (z2 h)),rfl⟩⟩⟩
 ·cases e
def GM:List PV->Option Ans
 |[.val (.int .i64 z)]=>some ⟨some (-9223372036854775808<=z/\z < 9223372036854775808),.val (aw (mkRat z 1)),[]⟩
 |_=>none
theorem Hh:am {} Tryz.f88 1=true:=by kernel_rfl
theorem f88:FnOk Tryz.prog 88 GM:=by
 refine FnOk.ofW aj (an (l:=[(73,Bl),(110,tJ)]) (own:=[]) (inl:=[]) (by simp [f73,f110]) (by simp)) Tryz.func88 {} 1 Hh λargs r e=>?_;unfold GM at e;split at e
 ·rename_i z
  cases e;refine⟨by simp,λhm=>?_⟩;obtain⟨h1,h2⟩:=hm _ rfl;refine⟨[],aa [(0,.val (.int .i64 z))] [] 0 [],Wo trivial ⟨rfl,qQ⟩ trivial,?_⟩;have S1:(ah z.natAbs).size<=34359738368:=Nat.le_trans (aY (k:=8) (by show z.natAbs < 18446744073709551616;omega)) (by decide);have S2:(ah (1:Int).natAbs).size<=34359738368:=Nat.le_trans (aY (k:=1) (by decide)) (by decide);have hp:0 < f7 (fN z 1):=by
   show 0 < aJ (ay 1);rw [av];decide
  have hQ:mkRat (kt (fN z 1)) (f7 (fN z 1)).toNat=mkRat z 1:=jO z 1;with_unfolding_all refine⟨⟨h1,h2⟩,⟨by decide,by decide⟩,⟨⟨_,_,_,_,rfl,S1,S2⟩,hp⟩,[some 0],aa [(2,.ptr 0 0 0 0)] [aZ (decide ((mkRat z 1).num < 0)) (ah (mkRat z 1).num.natAbs) (aO (mkRat z 1).den) 0] 1 [],Wo ⟨qZ ⟨⟨gt (hQ),rfl⟩,⟨gu (hQ),rfl⟩,⟨gv (hQ),rfl⟩,qQ⟩,qQ⟩ ⟨pP,qQ⟩ trivial,rfl,rfl⟩
 ·cases e
def Hi:List PV->Option Ans
 |[.val (.int .i64 n),.val (.int .i64 d)]=>some ⟨some ((-9223372036854775808<=n/\n < 9223372036854775808) /\ -9223372036854775808<=d/\d < 9223372036854775808),.val (.tuple ⟨[aw (Rat.divInt n d),.int .i64 (bif decide (d=0) then 10 else 0)]⟩),[]⟩
 |_=>none
theorem Hj:am {} Tryz.f27 2=true:=by kernel_rfl
theorem f27:FnOk Tryz.prog 27 Hi:=by
 refine FnOk.ofW aj (an (l:=[(73,Bl),(72,GL)]) (own:=[]) (inl:=[]) (by simp [f73,f72]) (by simp)) Tryz.func27 {} 2 Hj λargs r e=>?_;unfold Hi at e;split at e
 ·rename_i n d
  cases e;refine⟨by simp,λhm=>?_⟩;obtain⟨⟨h1,h2⟩,h3,h4⟩:=hm _ rfl;refine⟨[],aa [(0,.val (.int .i64 n)),(1,.val (.int .i64 d))] [] 0 [],Wo trivial ⟨rfl,rfl,qQ⟩ trivial,?_⟩;have I1:eG (ay n):=cU (k:=8) (by show n.natAbs < 18446744073709551616;omega) (by decide);have I2:eG (ay d):=cU (k:=8) (by show d.natAbs < 18446744073709551616;omega) (by decide);have hQ:Rat.divInt (aJ (ay n)) (aJ (ay d))=Rat.divInt n d:=by rw [av,av]
  have hE:PV.val (.int .i64 (bif decide (aJ (ay d)=0) then 10 else 0))=PV.val (.int .i64 (bif decide (d=0) then 10 else 0)):=by rw [av]
  with_unfolding_all refine⟨⟨h1,h2⟩,⟨h3,h4⟩,⟨I1,I2⟩,[some 0],aa [(4,.ptr 0 0 0 0),(5,.val (.int .i64 (bif decide (d=0) then 10 else 0)))] [aZ (decide ((Rat.divInt n d).num < 0)) (ah (Rat.divInt n d).num.natAbs) (aO (Rat.divInt n d).den) 0] 1 [],Wo ⟨qZ ⟨⟨gt (hQ),rfl⟩,⟨gu (hQ),rfl⟩,⟨gv (hQ),rfl⟩,qQ⟩,qQ⟩ ⟨pP,hE,qQ⟩ trivial,rfl,rfl⟩
 ·cases e
end Go.Proofs
namespace Go.Num
theorem z8 (n m:Int) {d e:Nat} (_:d≠0) (_:e≠0):Rat.divInt (n*(e:Int)) ((d:Int)*m)=mkRat n d / mkRat m e:=by
 rw [Rat.div_def,<-Rat.divInt_ofNat,<-Rat.divInt_ofNat,Rat.inv_divInt,Rat.divInt_mul_divInt]
theorem yt (m:Int) {d e:Nat} (hd:d≠0) (he:e≠0):decide ((d:Int)*m=0)=decide (mkRat m e=0):=by
 rw [decide_eq_decide,Rat.mkRat_eq_zero he,Int.mul_eq_zero];omega
end Go.Num
namespace Go.Proofs
theorem yu {c:ByteArray} {k:Nat} (h:c.size<=k) (hk:1<=k):(eX c).size<=k:=by
 unfold eX;split
 ·exact Nat.le_trans (aY (k:=1) (by decide)) hk
 ·exact h
def Aa:List PV->Option Ans
 |[.val v,.val u]=>some ⟨some (isRk 4294967296 v/\isRk 4294967296 u),.val (.tuple ⟨[aw (aE v / aE u),.int .i64 (bif decide (aE u=0) then 10 else 0)]⟩),[]⟩
 |_=>none
def D173:Opt:={ perm:=jh [(1,.rds [0,2] (.alt 1 (.alt 3 (.alt 4 (.mk 5 .nil) (.mk 5 (.mk 4 .nil))) (.alt 4 (.alt 3 (.mk 5 .nil) (.mk 5 (.mk 3 .nil))) (.mk 5 (.alt 3 (.mk 4 .nil) (.mk 4 (.mk 3 .nil)))))) (.alt 4 (.alt 1 (.alt 3 (.mk 5 .nil) (.mk 5 (.mk 3 .nil))) (.mk 5 (.mk 1 (.mk 3 .nil)))) (.mk 5 (.alt 1 (.alt 3 (.mk 4 .nil) (.mk 4 (.mk 3 .nil))) (.mk 4 (.mk 1 (.mk 3 .nil)))))))),(2,.ofL [(0,true),(1,true),(2,true),(3,true),(5,true),(6,true),(7,true),(8,true),(4,false),(9,false),(10,false),(11,true),(12,true)])],join:=λc=>match c with | .region 1 _ _=>true|_=>false }
theorem EW:am D173.toOrd Tryz.f173 2=true:=by kernel_rfl
theorem f173:FnOk Tryz.prog 173 Aa:=by
 refine FnOk.ofW aj (an (l:=[(137,tI),(119,wN),(72,GL)]) (own:=[]) (inl:=[]) (by simp [f137,f119,f72]) (by simp)) Tryz.func173 D173 2 EW λargs r e=>?_;unfold Aa at e;split at e
 ·rename_i v u
  cases e;refine⟨by simp,λhm=>?_⟩;obtain⟨hv,hu⟩:=hm _ rfl;have f1:=eY hv (by decide);have f2:=eY hu (by decide);have r1:=hv.R (by decide);have r2:=hu.R (by decide);obtain⟨s,b,c,rfl,hb,hc⟩:=hv;obtain⟨s',b',c',rfl,hb',hc'⟩:=hu;refine⟨[],aa [(0,.val (.agg ⟨[.bool s,.string b,.string c]⟩)),(1,.val (.agg ⟨[.bool s',.string b',.string c']⟩))] [] 0 [],Wo trivial ⟨rfl,rfl,qQ⟩ trivial,?_⟩;with_unfolding_all refine⟨Unit,λ_=>True,λ_=>aa [(4,.ptr 0 0 0 0),(6,.ptr 1 1 0 0),(7,.ptr 2 2 0 0)] [aZ false ⟨#[]⟩ ⟨#[]⟩ 0,o3 s b false (eX c) 1,o3 s' b' false (eX c') 2] 3 [],⟨⟨r1,⟨⟨r2,⟨⟨(),[some 2,some 3,some 4],trivial,Wo ⟨qX,qZ ⟨rq,rq,rq,rq,qQ⟩,qZ ⟨rq,rq,rq,rq,qQ⟩,qQ⟩ ⟨pP,pP,pP,qQ⟩ trivial⟩,⟨(),[some 2,some 4,some 3],trivial,Wo ⟨qX,qZ ⟨rq,rq,rq,rq,qQ⟩,qZ ⟨rq,rq,rq,rq,qQ⟩,qQ⟩ ⟨pP,pP,pP,qQ⟩ trivial⟩⟩⟩,⟨⟨⟨r2,⟨(),[some 2,some 3,some 4],trivial,Wo ⟨qX,qZ ⟨rq,rq,rq,rq,qQ⟩,qZ ⟨rq,rq,rq,rq,qQ⟩,qQ⟩ ⟨pP,pP,pP,qQ⟩ trivial⟩⟩,⟨r2,⟨(),[some 2,some 3,some 4],trivial,Wo ⟨qX,qZ ⟨rq,rq,rq,rq,qQ⟩,qZ ⟨rq,rq,rq,rq,qQ⟩,qQ⟩ ⟨pP,pP,pP,qQ⟩ trivial⟩⟩⟩,⟨⟨r2,⟨(),[some 2,some 4,some 3],trivial,Wo ⟨qX,qZ ⟨rq,rq,rq,rq,qQ⟩,qZ ⟨rq,rq,rq,rq,qQ⟩,qQ⟩ ⟨pP,pP,pP,qQ⟩ trivial⟩⟩,⟨r2,⟨(),[some 2,some 4,some 3],trivial,Wo ⟨qX,qZ ⟨rq,rq,rq,rq,qQ⟩,qZ ⟨rq,rq,rq,rq,qQ⟩,qQ⟩ ⟨pP,pP,pP,qQ⟩ trivial⟩⟩⟩⟩⟩⟩,⟨⟨⟨r1,⟨⟨r2,⟨(),[some 2,some 3,some 4],trivial,Wo ⟨qX,qZ ⟨rq,rq,rq,rq,qQ⟩,qZ ⟨rq,rq,rq,rq,qQ⟩,qQ⟩ ⟨pP,pP,pP,qQ⟩ trivial⟩⟩,⟨r2,⟨(),[some 2,some 3,some 4],trivial,Wo ⟨qX,qZ ⟨rq,rq,rq,rq,qQ⟩,qZ ⟨rq,rq,rq,rq,qQ⟩,qQ⟩ ⟨pP,pP,pP,qQ⟩ trivial⟩⟩⟩⟩,⟨r1,⟨r2,⟨(),[some 2,some 3,some 4],trivial,Wo ⟨qX,qZ ⟨rq,rq,rq,rq,qQ⟩,qZ ⟨rq,rq,rq,rq,qQ⟩,qQ⟩ ⟨pP,pP,pP,qQ⟩ trivial⟩⟩⟩⟩,⟨⟨r1,⟨⟨r2,⟨(),[some 2,some 4,some 3],trivial,Wo ⟨qX,qZ ⟨rq,rq,rq,rq,qQ⟩,qZ ⟨rq,rq,rq,rq,qQ⟩,qQ⟩ ⟨pP,pP,pP,qQ⟩ trivial⟩⟩,⟨r2,⟨(),[some 2,some 4,some 3],trivial,Wo ⟨qX,qZ ⟨rq,rq,rq,rq,qQ⟩,qZ ⟨rq,rq,rq,rq,qQ⟩,qQ⟩ ⟨pP,pP,pP,qQ⟩ trivial⟩⟩⟩⟩,⟨r1,⟨r2,⟨(),[some 2,some 4,some 3],trivial,Wo ⟨qX,qZ ⟨rq,rq,rq,rq,qQ⟩,qZ ⟨rq,rq,rq,rq,qQ⟩,qQ⟩ ⟨pP,pP,pP,qQ⟩ trivial⟩⟩⟩⟩⟩⟩,λ_ _=>?_⟩
  have d1:=yu hc (by decide);have d2:=yu hc' (by decide);have J1:eG (ay (az s (bv b)*az false (bv (eX c')))):=cU (o4 s false b (eX c')) (by omega);have J2:eG (ay (az false (bv (eX c))*az s' (bv b'))):=cU (o4 false s' (eX c) b') (by omega);have hQ:Rat.divInt (aJ (ay (az s (bv b)*az false (bv (eX c'))))) (aJ (ay (az false (bv (eX c))*az s' (bv b'))))=aE (.agg ⟨[.bool s,.string b,.string c]⟩) / aE (.agg ⟨[.bool s',.string b',.string c']⟩):=by
   rw [av,av,jL,jL];exact z8 (az s (bv b)) (az s' (bv b')) (Nat.ne_of_gt (bT (bv c))) (Nat.ne_of_gt (bT (bv c')))
  have hE:PV.val (.int .i64 (bif decide (aJ (ay (az false (bv (eX c))*az s' (bv b')))=0) then 10 else 0))=PV.val (.int .i64 (bif decide (aE (.agg ⟨[.bool s',.string b',.string c']⟩)=0) then 10 else 0)):=by
   rw [av,jL,show decide (az false (bq (bv c))*az s' (bv b')=0)=_ from yt (az s' (bv b')) (Nat.ne_of_gt (bT (bv c))) (Nat.ne_of_gt (bT (bv c')))];rfl
  with_unfolding_all refine⟨⟨⟨_,_,rfl,by omega⟩,_,_,rfl,by omega⟩,⟨⟨_,_,rfl,by omega⟩,_,_,rfl,by omega⟩,⟨J1,J2⟩,[some 0],aa [(4,.ptr 0 0 0 0),(5,.val (.int .i64 (bif decide (aE (.agg ⟨[.bool s',.string b',.string c']⟩)=0) then 10 else 0)))] [aZ (decide ((aE (.agg ⟨[.bool s,.string b,.string c]⟩) / aE (.agg ⟨[.bool s',.string b',.string c']⟩)).num < 0)) (ah (aE (.agg ⟨[.bool s,.string b,.string c]⟩) / aE (.agg ⟨[.bool s',.string b',.string c']⟩)).num.natAbs) (aO (aE (.agg ⟨[.bool s,.string b,.string c]⟩) / aE (.agg ⟨[.bool s',.string b',.string c']⟩)).den) 0] 1 [],Wo ⟨qZ ⟨⟨gt hQ,rfl⟩,⟨gu hQ,rfl⟩,⟨gv hQ,rfl⟩,qQ⟩,qQ⟩ ⟨pP,hE,qQ⟩ trivial,rfl,rfl⟩
 ·cases e
def rz:List PV->Option Ans
 |[.val (.string b)]=>some ⟨none,.val (.string (ah (bv b))),[]⟩
 |_=>none
theorem EX:am {} Tryz.f248 1=true:=by kernel_rfl
theorem f248:FnOk Tryz.prog 248 rz:=by
 refine FnOk.of aj (an (l:=[]) (own:=[]) (inl:=[]) (by simp) (by simp)) Tryz.func248 {} 1 EX λargs r e=>?_;unfold rz at e;split at e
 ·rename_i b
  cases e;refine⟨by simp,λ_=>?_⟩;with_unfolding_all refine⟨ByteArray,λx=>bv x=bv b,λx=>aa [(0,.val (.string x))] [] 0 [],λx=>x.size,⟨b,[],rfl,Wo trivial ⟨rfl,qQ⟩ trivial⟩,λx (hx:bv x=bv b)=>?_⟩
  have hl:=bg x;with_unfolding_all refine⟨λh1=>⟨?_,?_⟩,λh1=>?_⟩
  ·have h1:0 < x.size:=by have:=of_decide_eq_true h1;omega
   omega
  ·have h1:0 < x.size:=by have:=of_decide_eq_true h1;omega
   cases hd:x.data.toList with
   |nil=>rw [hd,List.length_nil] at hl;omega
   |cons y r =>
    rw [hd,List.length_cons] at hl;with_unfolding_all refine⟨λh2=>⟨?_,?_⟩,λh2=>?_⟩
    ·omega
    ·with_unfolding_all refine⟨_,[],?_,?_,Wo trivial ⟨rfl,qQ⟩ trivial⟩
     ·have hy:y=0:=by rw [hd] at h2;simp at h2;exact UInt8.toNat_inj.1 (by simpa using h2)
      show bv _=bv b;rw [<-hx,bv,ew,bv,hd,hl,hy];simp [cT]
     ·show ByteArray.size _ < x.size;rw [bg,ew,hd];simp;omega
    ·with_unfolding_all refine⟨?_,rfl⟩
     rw [<-hx,kR];rw [hd] at h2 ⊢;simp only [fe,bne_iff_ne,ne_eq];rintro rfl;simp at h2
  ·have h1:x.size=0:=by
    have h:decide ((x.size:Int) > 0)=false:=by
     cases hd:decide ((x.size:Int) > 0) with
     |false=>rfl
     |true=>exact absurd (h1.symm.trans hd) (by decide)
    have:=of_decide_eq_false h;omega
   have h2:x.data.toList=[]:=List.eq_nil_of_length_eq_zero (by omega);with_unfolding_all refine⟨nofun,λ_=>⟨?_,rfl⟩⟩
   rw [<-hx,kR];rw [h2];rfl
 ·cases e
def tN:List PV->Option Ans
 |[.val v]=>some ⟨some (eG v),.val (ay (aJ v)),[]⟩
 |_=>none
theorem EY:am {} Tryz.f230 1=true:=by kernel_rfl
theorem f230:FnOk Tryz.prog 230 tN:=by
 refine FnOk.ofW aj (an (l:=[(248,rz)]) (own:=[]) (inl:=[]) (by simp [f248]) (by simp)) Tryz.func230 {} 1 EY λargs r e=>?_;unfold tN at e;split at e
 ·rename_i v
  cases e;refine⟨by simp,λhm=>?_⟩;obtain⟨s,b,rfl,hb⟩:=hm _ rfl;refine⟨[],aa [(0,.val (.agg ⟨[.bool s,.string b]⟩))] [] 0 [],Wo trivial ⟨rfl,qQ⟩ trivial,?_⟩;have sd:PV.val (.string (ah (bv b)))=PV.val (.string (ah (az s (bv b)).natAbs)):=by rw [aI]
  have cB:s=true->PV.val (.bool (!((ah (bv b)).toList==(⟨#[]⟩:ByteArray).toList)))=PV.val (.bool (decide (az s (bv b) < 0))):=λh=>by
   rw [numB_nil,gr,h,Bool.true_and]
  have cC:s = !true->PV.val (.bool false)=PV.val (.bool (decide (az s (bv b) < 0))):=λh=>by
   rw [gr,h];rfl
  have lb:decide ((b.size:Int) > 0)=true->(((b.data.toList[Int.toNat 0]?.getD 0).toNat:Int) != 0)=true->bv b≠0/\ah (bv b)=b:=λh h'=>by
   have h:0 < b.size:=by have:=of_decide_eq_true h;omega
   have hl:=bg b;cases hd:b.data.toList with
   |nil=>rw [hd,List.length_nil] at hl;omega
   |cons y r =>
    have hy:y≠0:=by
     rintro rfl;rw [hd] at h';exact absurd h' Bool.false_ne_true
    have hld:fe b.data.toList=true:=by
     rw [hd];simpa [fe] using hy
    refine⟨?_,kR hld⟩;rw [hd] at hld;have:=lB hld;have e:bv b=c8 (y::r):=by rw [bv,hd]
    have:0 < 256^r.length:=Nat.pow_pos (by decide);omega
  have aB:bv b≠0->PV.val (.bool s)=PV.val (.bool (decide (az s (bv b) < 0))):=λh=>by
   rw [gr,decide_eq_true h,Bool.and_true]
  have aS:ah (bv b)=b->PV.val (.string b)=PV.val (.string (ah (az s (bv b)).natAbs)):=λh=>by
   rw [aI,h]
  with_unfolding_all refine⟨λh=>⟨⟨by omega,by have:=of_decide_eq_true h;omega⟩,λh'=>⟨[some 1],aa [(2,.ptr 0 0 0 0)] [a8 (az s (bv b)) 0] 1 [],Wo ⟨qZ ⟨⟨aB (lb h h').1,rfl⟩,⟨aS (lb h h').2,rfl⟩,qQ⟩,qQ⟩ ⟨pP,qQ⟩ trivial,rfl,rfl⟩,λ_=>⟨λh=>⟨[some 1],aa [(2,.ptr 0 0 0 0)] [a8 (az s (bv b)) 0] 1 [],Wo ⟨qZ ⟨⟨cB h,rfl⟩,⟨sd,rfl⟩,qQ⟩,qQ⟩ ⟨pP,qQ⟩ trivial,rfl,rfl⟩,λh=>⟨[some 1],aa [(2,.ptr 0 0 0 0)] [a8 (az s (bv b)) 0] 1 [],Wo ⟨qZ ⟨⟨cC h,rfl⟩,⟨sd,rfl⟩,qQ⟩,qQ⟩ ⟨pP,qQ⟩ trivial,rfl,rfl⟩⟩⟩,λ_=>⟨λh=>(nomatch h),λ_=>⟨λh=>⟨[some 1],aa [(2,.ptr 0 0 0 0)] [a8 (az s (bv b)) 0] 1 [],Wo ⟨qZ ⟨⟨cB h,rfl⟩,⟨sd,rfl⟩,qQ⟩,qQ⟩ ⟨pP,qQ⟩ trivial,rfl,rfl⟩,λh=>⟨[some 1],aa [(2,.ptr 0 0 0 0)] [a8 (az s (bv b)) 0] 1 [],Wo ⟨qZ ⟨⟨cC h,rfl⟩,⟨sd,rfl⟩,qQ⟩,qQ⟩ ⟨pP,qQ⟩ trivial,rfl,rfl⟩⟩⟩⟩
 ·cases e
def yv:List PV->Option Ans
 |[.val (.string b)]=>some ⟨some (b.size<=7),.val (.int .i64 (bv b:Nat)),[]⟩
 |_=>none
theorem EZ:am {} Tryz.f250 1=true:=by kernel_rfl
theorem f250:FnOk Tryz.prog 250 yv:=by
 refine FnOk.ofW aj (an (l:=[]) (own:=[]) (inl:=[]) (by simp) (by simp)) Tryz.func250 {} 1 EZ λargs r e=>?_;unfold yv at e;split at e
 ·rename_i b
  cases e;refine⟨by simp,λhm=>?_⟩;have h:b.size<=7:=hm _ rfl;refine⟨[],aa [(0,.val (.string b))] [] 0 [],Wo trivial ⟨rfl,qQ⟩ trivial,?_⟩;with_unfolding_all refine⟨Nat,λi=>i<=b.size,λi=>aa [(0,.val (.string b)),(3,.val (.int .i64 (c8 (b.data.toList.take i):Nat))),(4,.val (goInt i))] [] 0 [],λi=>b.size - i,⟨0,[],Nat.zero_le _,Wo trivial ⟨rfl,rfl,rfl,qQ⟩ trivial⟩,λi hi=>?_⟩
  replace hi:i<=b.size:=hi;have hlt:=bS b i h;with_unfolding_all refine⟨λh1=>?_,λh1=>?_⟩
  ·have h1:i < b.size:=by have:=bL h1;omega
   have hx:(b.data.toList[i]?.getD 0).toNat < 256:=UInt8.toNat_lt _;with_unfolding_all refine⟨by decide,⟨by omega,by omega⟩,i+1,[],h1,by show b.size - (i+1) < b.size - i;omega,Wo trivial ⟨rfl,?_,?_,qQ⟩ trivial⟩
   ·refine congrArg (λx=>PV.val (.int .i64 x)) (?_:IntKind.i64.wrap ((BitVec.ofInt IntKind.i64.bits (IntKind.i64.wrap (((c8 (b.data.toList.take i):Nat):Int)*2^min (Int.toNat 8) IntKind.i64.bits)) ||| BitVec.ofInt IntKind.i64.bits (IntKind.i64.wrap (((b.data.toList[i]?.getD 0).toNat:Nat):Int))).toNat:Int)=((c8 (b.data.toList.take (i+1)):Nat):Int));rw [oV hx (by have:=bS b (i+1) h;rw [fC b h1] at this;omega),fC b h1]
   ·refine congrArg (λx=>PV.val (.int .i64 x)) (?_:IntKind.i64.wrap ((i:Int)+1)=((i+1:Nat):Int));rw [wrap64 (by omega) (by omega)];rfl
  ·have h1:i=b.size:=by have:=dI h1;omega
   have he:b.data.toList.take i=b.data.toList:=by rw [h1,List.take_of_length_le (by rw [<-bg];omega)]
   rw [he] at hlt ⊢;with_unfolding_all exact⟨[],aa [(2,.val (.int .i64 (bv b:Nat)))] [] 0 [],Wo trivial ⟨rfl,qQ⟩ trivial,rfl,rfl⟩
 ·cases e
theorem uY:∀{l m:List UInt8},l.length=m.length->Op.bytesLess l m=decide (c8 l < c8 m)
 |[],[],_=>by simp [Op.bytesLess,c8]
 |x::l,y::m,h=>by
  have h:l.length=m.length:=by simpa using h
  have h1:=eu l;have h2:=eu m;rw [h] at h1;have hxy:(x=y)↔x.toNat=y.toNat:=UInt8.toNat_inj.symm;have hlt:(x < y)↔x.toNat < y.toNat:=UInt8.lt_iff_toNat_lt;rw [Op.bytesLess,uY h,cT,cT,h];rcases Nat.lt_trichotomy x.toNat y.toNat with h3|h3|h3
  ·have:(x.toNat+1)*256^m.length<=y.toNat*256^m.length:=Nat.mul_le_mul_right _ h3;rw [Nat.add_mul,Nat.one_mul] at this;rw [decide_eq_true (hlt.2 h3),decide_eq_true (show x.toNat*256^m.length+c8 l < y.toNat*256^m.length+c8 m by omega)];rfl
  ·have e:x=y:=hxy.2 h3;subst e;rw [decide_eq_false (λh=>absurd (hlt.1 h) (by omega)),beq_self_eq_true,Bool.false_or,Bool.true_and,decide_eq_decide];omega
  ·have:(y.toNat+1)*256^m.length<=x.toNat*256^m.length:=Nat.mul_le_mul_right _ h3;rw [Nat.add_mul,Nat.one_mul] at this;have e:(x==y)=false:=beq_eq_false_iff_ne.2 λe=>by rw [e] at h3;omega
   rw [decide_eq_false (λh=>absurd (hlt.1 h) (by omega)),e,Bool.false_and,Bool.false_or,decide_eq_false (by omega)]
 |[],_::_,h=>by simp at h
 |_::_,[],h=>by simp at h
theorem rB {l m:List UInt8} (hm:fe m=true) (h:l.length < m.length):c8 l < c8 m:=by
 cases m with
 |nil=>simp at h
 |cons x m =>
  have h1:=lB hm;have h2:=eu l;have h3:=Nat.pow_le_pow_right (show 0 < 256 by decide) (show l.length<=m.length by simp at h;omega);omega
def yw:List PV->Option Ans
 |[.val (.string b),.val (.string c)]=>some ⟨some (fe b.data.toList=true/\fe c.data.toList=true),.val (goInt (cl (bv b) (bv c))),[]⟩
 |_=>none
theorem E0:am {} Tryz.f231 2=true:=by kernel_rfl
theorem f231:FnOk Tryz.prog 231 yw:=by
 refine FnOk.ofW aj (an (l:=[]) (own:=[]) (inl:=[]) (by simp) (by simp)) Tryz.func231 {} 2 E0 λargs r e=>?_;unfold yw at e;split at e
 ·rename_i b c
  cases e;refine⟨by simp,λhm=>?_⟩;obtain⟨hb,hc⟩:=hm _ rfl;refine⟨[],aa [(0,.val (.string b)),(1,.val (.string c))] [] 0 [],Wo trivial ⟨rfl,rfl,qQ⟩ trivial,?_⟩;have sb:=bg b;have sc:=bg c;have a1:(((b.size:Nat):Int) != (c.size:Nat))=true->decide (((b.size:Nat):Int) < (c.size:Nat))=true->PV.val (goInt (-1))=PV.val (goInt (cl (bv b) (bv c))):=λ_ h=>by
   have h:=of_decide_eq_true h;have:bv b < bv c:=rB hc (by omega);rw [cl,if_pos this]
  have a2:(((b.size:Nat):Int) != (c.size:Nat))=true->decide (((b.size:Nat):Int) < (c.size:Nat))=false->PV.val (goInt 1)=PV.val (goInt (cl (bv b) (bv c))):=λh0 h=>by
   have h:=of_decide_eq_false h;have h0:((b.size:Nat):Int)≠(c.size:Nat):=by simpa using h0
   have:bv c < bv b:=rB hb (by omega);rw [cl,if_neg (by omega),if_pos this]
  have eL:(((b.size:Nat):Int) != (c.size:Nat))=false->Op.bytesLess b.toList c.toList=decide (bv b < bv c):=λh0=>by
   have h0:((b.size:Nat):Int)=(c.size:Nat):=by simpa using h0
   rw [cz,cz];exact uY (by omega)
  have a3:(((b.size:Nat):Int) != (c.size:Nat))=false->Op.bytesLess b.toList c.toList=true->PV.val (goInt (-1))=PV.val (goInt (cl (bv b) (bv c))):=λh0 h=>by
   rw [eL h0] at h;rw [cl,if_pos (of_decide_eq_true h)]
  have a4:(((b.size:Nat):Int) != (c.size:Nat))=false->Op.bytesLess b.toList c.toList=false->(!(Op.bytesLess b.toList c.toList||b.toList==c.toList))=true->PV.val (goInt 1)=PV.val (goInt (cl (bv b) (bv c))):=λh0 h h'=>by
   rw [h,Bool.false_or] at h';rw [eL h0] at h;have h:=of_decide_eq_false h;have h0:((b.size:Nat):Int)=(c.size:Nat):=by simpa using h0
   have hne:b.toList≠c.toList:=by simpa using h'
   have:bv b≠bv c:=λe=>hne (by rw [cz,cz];exact oO (by omega) e);rw [cl,if_neg h,if_pos (by omega)]
  have a5:(((b.size:Nat):Int) != (c.size:Nat))=false->Op.bytesLess b.toList c.toList=false->(!(Op.bytesLess b.toList c.toList||b.toList==c.toList))=false->PV.val (goInt 0)=PV.val (goInt (cl (bv b) (bv c))):=λh0 h h'=>by
   rw [h,Bool.false_or] at h';have he:b.toList=c.toList:=by simpa using h'
   rw [cz,cz] at he;have:bv b=bv c:=congrArg c8 he;rw [cl,this,if_neg (by omega),if_neg (by omega)]
  with_unfolding_all refine⟨λh=>⟨λh'=>⟨[],aa [(4,.val (goInt (cl (bv b) (bv c))))] [] 0 [],Wo trivial ⟨a1 h h',qQ⟩ trivial,rfl,rfl⟩,λh'=>⟨[],aa [(4,.val (goInt (cl (bv b) (bv c))))] [] 0 [],Wo trivial ⟨a2 h h',qQ⟩ trivial,rfl,rfl⟩⟩,λh=>⟨λh'=>⟨[],aa [(4,.val (goInt (cl (bv b) (bv c))))] [] 0 [],Wo trivial ⟨a3 h h',qQ⟩ trivial,rfl,rfl⟩,λh'=>⟨λh2=>⟨[],aa [(4,.val (goInt (cl (bv b) (bv c))))] [] 0 [],Wo trivial ⟨a4 h h' h2,qQ⟩ trivial,rfl,rfl⟩,λh2=>⟨[],aa [(4,.val (goInt (cl (bv b) (bv c))))] [] 0 [],Wo trivial ⟨a5 h h' h2,qQ⟩ trivial,rfl,rfl⟩⟩⟩⟩
 ·cases e
theorem Cw {b:ByteArray} (h:b.size<=7):bv b < 72057594037927936:=by
 have h1:=bK b;have h2:256^b.size<=256^7:=Nat.pow_le_pow_right (by decide) h;omega
def Hk (v:Value):Prop:=∃s b,v=.agg ⟨[.bool s,.string b]⟩/\b.size<=7
def Ab:List PV->Option Ans
 |[.val v]=>some ⟨some (Hk v),.val (.int .i64 (aJ v)),[]⟩
 |_=>none
theorem E1:am {} Tryz.f232 1=true:=by kernel_rfl
theorem f232:FnOk Tryz.prog 232 Ab:=by
 refine FnOk.ofW aj (an (l:=[(250,yv)]) (own:=[]) (inl:=[]) (by simp [f250]) (by simp)) Tryz.func232 {} 1 E1 λargs r e=>?_;unfold Ab at e;split at e
 ·rename_i v
  cases e;refine⟨by simp,λhm=>?_⟩;obtain⟨s,b,rfl,hb⟩:=hm _ rfl;have hlt:=Cw hb;refine⟨[],aa [(0,.val (.agg ⟨[.bool s,.string b]⟩))] [] 0 [],Wo trivial ⟨rfl,qQ⟩ trivial,?_⟩;have t1:s=true->PV.val (.int .i64 (IntKind.i64.wrap (0 - ((bv b:Nat):Int))))=PV.val (.int .i64 (az s (bv b))):=λh=>by
   rw [wrap64 (by omega) (by omega),h];show PV.val (.int .i64 (0 - ((bv b:Nat):Int)))=PV.val (.int .i64 (-((bv b:Nat):Int)));rw [Int.zero_sub]
  have t2:s=false->PV.val (.int .i64 ((bv b:Nat):Int))=PV.val (.int .i64 (az s (bv b))):=λh=>by
   rw [h];rfl
  with_unfolding_all refine⟨λh=>⟨hb,[],aa [(2,.val (.int .i64 (az s (bv b))))] [] 0 [],Wo trivial ⟨t1 h,qQ⟩ trivial,rfl,rfl⟩,λh=>⟨hb,[],aa [(2,.val (.int .i64 (az s (bv b))))] [] 0 [],Wo trivial ⟨t2 h,qQ⟩ trivial,rfl,rfl⟩⟩
 ·cases e
def yx:List PV->Option Ans
 |[.val v]=>some ⟨some (eG v),.val (ay (-aJ v)),[]⟩
 |_=>none
theorem E2:am {} Tryz.f227 1=true:=by kernel_rfl
theorem f227:FnOk Tryz.prog 227 yx:=by
 refine FnOk.ofW aj (an (l:=[(230,tN)]) (own:=[]) (inl:=[]) (by simp [f230]) (by simp)) Tryz.func227 {} 1 E2 λargs r e=>?_;unfold yx at e;split at e
 ·rename_i v
  cases e;refine⟨by simp,λhm=>?_⟩;obtain⟨s,b,rfl,hb⟩:=hm _ rfl;refine⟨[],aa [(0,.val (.agg ⟨[.bool s,.string b]⟩))] [] 0 [],Wo trivial ⟨rfl,qQ⟩ trivial,?_⟩;have sd:PV.val (.string (ah (az s (bv b)).natAbs))=PV.val (.string (ah (-(az s (bv b))).natAbs)):=by rw [Int.natAbs_neg]
  have t1:(!decide ((az s (bv b)) < 0))=true->PV.val (.bool (!((ah (az s (bv b)).natAbs).toList==(⟨#[]⟩:ByteArray).toList)))=PV.val (.bool (decide (-(az s (bv b)) < 0))):=λh=>by
   have h:¬(az s (bv b)) < 0:=by simpa using h
   rw [numB_nil,show decide ((az s (bv b)).natAbs≠0)=decide (-(az s (bv b)) < 0) by rw [decide_eq_decide];omega]
  have t2:(!decide ((az s (bv b)) < 0))=false->PV.val (.bool false)=PV.val (.bool (decide (-(az s (bv b)) < 0))):=λh=>by
   have h:(az s (bv b)) < 0:=by simpa using h
   rw [decide_eq_false (by omega)]
  with_unfolding_all refine⟨⟨_,_,rfl,hb⟩,λh=>⟨[some 1],aa [(2,.ptr 0 0 0 0)] [a8 (-(az s (bv b))) 0] 1 [],Wo ⟨qZ ⟨⟨t1 h,rfl⟩,⟨sd,rfl⟩,qQ⟩,qQ⟩ ⟨pP,qQ⟩ trivial,rfl,rfl⟩,λh=>⟨[some 1],aa [(2,.ptr 0 0 0 0)] [a8 (-(az s (bv b))) 0] 1 [],Wo ⟨qZ ⟨⟨t2 h,rfl⟩,⟨sd,rfl⟩,qQ⟩,qQ⟩ ⟨pP,qQ⟩ trivial,rfl,rfl⟩⟩
 ·cases e
def Cx:List PV->Option Ans
 |[.val (.int .i64 z)]=>some ⟨some (0<=z/\z < 4611686018427387904),.val (.string (ah z.toNat)),[]⟩
 |_=>none
theorem E3:am {} Tryz.f247 1=true:=by kernel_rfl
theorem yy {N:Nat} (h0:N≠0) (h:N < 256) {g:Nat->List PV} (hg:g 0=[.val (.int .u8 (IntKind.u8.wrap (N:Int)))]):dg 1 g=ah N:=by
 rw [<-jM (N:=N) (k:=1) (by simpa using h) (λ_=>by simp;omega)];unfold dg;congr 2;apply List.map_congr_left;intro i hi;have:i=0:=by have:=List.mem_range.1 hi;omega
 subst this;rw [hg];simp [bd,cE]
theorem f247:FnOk Tryz.prog 247 Cx:=by
 refine FnOk.ofW aj (an (l:=[]) (own:=[]) (inl:=[]) (by simp) (by simp)) Tryz.func247 {} 1 E3 λargs r e=>?_;unfold Cx at e;split at e
 ·rename_i z
  cases e;refine⟨by simp,λhm=>?_⟩;obtain⟨hz,hz2⟩:=hm _ rfl;obtain⟨N,rfl⟩:∃N:Nat,z=(N:Int):=⟨z.toNat,by omega⟩;rw [Int.toNat_natCast];refine⟨[],aa [(0,.val (.int .i64 (N:Nat)))] [] 0 [],Wo trivial ⟨rfl,qQ⟩ trivial,?_⟩;with_unfolding_all refine⟨λh=>?_,λh=>?_⟩
  ·have hN:N < 256:=by have:=of_decide_eq_true h;omega
   have e0:(((N:Nat):Int)==0)=true->PV.val (.string ⟨#[]⟩)=PV.val (.string (ah N)):=λh=>by
    have h:N=0:=by simpa using h
    rw [h,dN]
   have e1:(((N:Nat):Int)==0)=false->N≠0:=λh=>by simpa using h
   with_unfolding_all refine⟨λh=>⟨[],aa [(2,.val (.string (ah N)))] [] 0 [],Wo trivial ⟨e0 h,qQ⟩ trivial,rfl,rfl⟩,λh=>⟨λi hi=>?_,[],aa [(2,.val (.string (ah N)))] [] 0 [],Wo trivial ⟨?_,qQ⟩ trivial,rfl,rfl⟩⟩
   ·cases i with
    |zero=>exact⟨_,rfl⟩
    |succ i=>exact absurd hi (by show ¬i+1 < 1;omega)
   ·exact congrArg (λx=>PV.val (.string x)) (yy (e1 h) hN rfl)
  ·with_unfolding_all refine⟨Nat,λk=>k<=8/\(0 < k->256^(k - 1)<=N),λk=>aa [(0,.val (.int .i64 ((N / 256^k:Nat):Int))),(3,.ptr 0 0 0 0),(4,.val (.int .i64 ((8 - k:Nat):Int)))] [⟨236,1,0,false,true,8,λj=>if j < 8 - k then [.val (.int .u8 0)] else bd N k (j - (8 - k))⟩] 1 [],λk=>8 - k,?_,λk hk=>?_⟩
   ·with_unfolding_all refine⟨0,[some 0],⟨by omega,λh=>absurd h (by omega)⟩,Wo ⟨qZ (λi hi=>?_),qQ⟩ ⟨?_,pP,rfl,qQ⟩ trivial⟩
    ·have hi:i < 8:=hi;rcases i with _|_|_|_|_|_|_|_|i
     all_goals first
      |rfl
      |exact absurd hi (by omega)
    ·show PV.val (.int .i64 (N:Int))=PV.val (.int .i64 ((N / 256^0:Nat):Int));rw [Nat.pow_zero,Nat.div_one]
   ·obtain⟨hk,hk2⟩:=hk;have hN:N < 256^8:=by show N < 18446744073709551616;omega
    with_unfolding_all refine⟨λh=>?_,λh=>?_⟩
    ·have h:0 < N / 256^k:=by
      have h:((N / 256^k:Nat):Int) > 0:=of_decide_eq_true h;generalize N / 256^k=X at h ⊢;omega
     have hkN:256^k<=N:=by
      rcases Nat.lt_or_ge N (256^k) with h' | h'
      ·rw [Nat.div_eq_of_lt h'] at h;omega
      ·exact h'
     have hk7:k < 8:=by
      rcases Nat.lt_or_ge k 8 with h' | h'
      ·exact h'
      ·have:=Nat.pow_le_pow_right (show 0 < 256 by decide) h';omega
     have hw:IntKind.i64.wrap (((8 - k:Nat):Int) - 1)=((7 - k:Nat):Int):=by
      rw [wrap64 (by omega) (by omega)];omega
     with_unfolding_all refine⟨⟨by rw [hw];omega,by rw [hw];omega⟩,by decide,?_⟩
     rw [hw];with_unfolding_all refine⟨k+1,[some 0],⟨by omega,λ_=>hkN⟩,by show 8 - (k+1) < 8 - k;omega,Wo ⟨qZ (λi hi=>?_),qQ⟩ ⟨?_,pP,?_,qQ⟩ trivial⟩
     ·have hi:i < 8:=hi;show(if i < 8 - (k+1) then [PV.val (.int .u8 0)] else bd N (k+1) (i - (8 - (k+1))))=if i=((7 - k:Nat):Int).toNat then [PV.val (.int .u8 (IntKind.u8.wrap ((N / 256^k:Nat):Int)))] else if i < 8 - k then [PV.val (.int .u8 0)] else bd N k (i - (8 - k))
      rw [Int.toNat_natCast];rcases Nat.lt_trichotomy i (7 - k) with h1|h1|h1
      ·rw [if_pos (by omega),if_neg (by omega),if_pos (by omega)]
      ·rw [if_neg (by omega),if_pos h1,cE];simp only [bd];rw [show k+1 - 1 - (i - (8 - (k+1)))=k by omega];rfl
      ·rw [if_neg (by omega),if_neg (by omega),if_neg (by omega)];simp only [bd];rw [show k+1 - 1 - (i - (8 - (k+1)))=k - 1 - (i - (8 - k)) by omega]
     ·show PV.val (.int .i64 (((N / 256^k:Nat):Int) / 2^8))=PV.val (.int .i64 ((N / 256^(k+1):Nat):Int));rw [Nat.pow_succ,<-Nat.div_div_eq_div_mul];rfl
     ·show PV.val (.int .i64 ((7 - k:Nat):Int))=PV.val (.int .i64 ((8 - (k+1):Nat):Int));rw [show 8 - (k+1)=7 - k by omega]
    ·have h:N / 256^k=0:=by
      have h:¬((N / 256^k:Nat):Int) > 0:=of_decide_eq_false h;generalize N / 256^k=X at h ⊢;omega
     have hNk:N < 256^k:=by
      rcases Nat.lt_or_ge N (256^k) with h' | h'
      ·exact h'
      ·have:=Nat.div_pos h' (Nat.pow_pos (by decide));omega
     have h8:((8 - k:Nat):Int).toNat=8 - k:=Int.toNat_natCast _;have hn:((8:Nat) - ((8 - k:Nat):Int)).toNat=k:=by omega
     have hfin:=jM (N:=N) (k:=k) hNk hk2;with_unfolding_all refine⟨⟨by omega,by omega,by omega⟩,λi hi=>?_,[],aa [(2,.val (.string (ah N)))] [] 0 [],Wo trivial ⟨?_,qQ⟩ trivial,rfl,rfl⟩
     ·show ∃q:Int,(if ((8 - k:Nat):Int).toNat+i < 8 - k then [PV.val (.int .u8 0)] else bd N k (((8 - k:Nat):Int).toNat+i - (8 - k)))=[PV.val (.int .u8 q)];split
      ·exact⟨_,rfl⟩
      ·exact⟨_,rfl⟩
     ·show PV.val (.string (dg ((8:Nat) - ((8 - k:Nat):Int)).toNat (λi=>if ((8 - k:Nat):Int).toNat+i < 8 - k then [PV.val (.int .u8 0)] else bd N k (((8 - k:Nat):Int).toNat+i - (8 - k)))))=_;rw [hn,h8];have e:(λi=>if 8 - k+i < 8 - k then [PV.val (.int .u8 0)] else bd N k (8 - k+i - (8 - k)))=bd N k:=by
       funext i;rw [if_neg (by omega),Nat.add_sub_cancel_left]
      rw [e,hfin]
 ·cases e
def rC:List PV->Option Ans
 |[.val (.int .i64 z)]=>some ⟨some (z.natAbs < 4611686018427387904),.val (ay z),[]⟩
 |_=>none
theorem E4:am {} Tryz.f226 1=true:=by kernel_rfl
theorem f226:FnOk Tryz.prog 226 rC:=by
 refine FnOk.ofW aj (an (l:=[(247,Cx)]) (own:=[]) (inl:=[]) (by simp [f247]) (by simp)) Tryz.func226 {} 1 E4 λargs r e=>?_;unfold rC at e;split at e
 ·rename_i z
  cases e;refine⟨by simp,λhm=>?_⟩;have hz:z.natAbs < 4611686018427387904:=hm _ rfl;refine⟨[],aa [(0,.val (.int .i64 z))] [] 0 [],Wo trivial ⟨rfl,qQ⟩ trivial,?_⟩;have w:IntKind.i64.wrap (0 - z) = -z:=by rw [wrap64 (by omega) (by omega),Int.zero_sub]
  have g1:decide (z>=0)=true->0<=z:=λh=>of_decide_eq_true h;have g2:decide (z>=0)=false->z < 0:=λh=>by have:=of_decide_eq_false h;omega
  have c1:decide (z>=0)=true->PV.val (.bool false)=PV.val (.bool (decide (z < 0))):=λh=>by
   have:=g1 h;rw [decide_eq_false (show ¬z < 0 by omega)]
  have c2:decide (z>=0)=true->PV.val (.string (ah z.toNat))=PV.val (.string (ah z.natAbs)):=λh=>by
   have:=g1 h;rw [show z.toNat=z.natAbs by omega]
  have c3:decide (z>=0)=false->PV.val (.bool true)=PV.val (.bool (decide (z < 0))):=λh=>by
   rw [decide_eq_true (g2 h)]
  have c4:decide (z>=0)=false->PV.val (.string (ah (IntKind.i64.wrap (0 - z)).toNat))=PV.val (.string (ah z.natAbs)):=λh=>by
   have:=g2 h;rw [w,show(-z).toNat=z.natAbs by omega]
  have c5:decide (z>=0)=false->¬(z==IntKind.i64.wrap (0 - z))=true:=λh h'=>by
   have:=g2 h;rw [w] at h';have:z = -z:=by simpa using h'
   omega
  with_unfolding_all refine⟨λh=>⟨⟨g1 h,by omega⟩,[some 0],aa [(2,.ptr 0 0 0 0)] [a8 z 0] 1 [],Wo ⟨qZ ⟨⟨c1 h,rfl⟩,⟨c2 h,rfl⟩,qQ⟩,qQ⟩ ⟨pP,qQ⟩ trivial,rfl,rfl⟩,λh=>⟨λh'=>absurd h' (c5 h),λ_=>⟨⟨by rw [w];have:=g2 h;omega,by rw [w];omega⟩,[some 0],aa [(2,.ptr 0 0 0 0)] [a8 z 0] 1 [],Wo ⟨qZ ⟨⟨c3 h,rfl⟩,⟨c4 h,rfl⟩,qQ⟩,qQ⟩ ⟨pP,qQ⟩ trivial,rfl,rfl⟩⟩⟩
 ·cases e
theorem cA (n:Nat):fe (ah n).data.toList=true:=by
 have:=kp n;simpa [ah] using this
def Cy:List PV->Option Ans
 |[.val v,.val u]=>some ⟨some (eG v/\eG u),.val (goInt (bI (aJ v) (aJ u))),[]⟩
 |_=>none
def D185:Opt:={ perm:=jm 1 [(0,true),(2,true),(1,false),(3,false)] }
theorem E5:am D185.toOrd Tryz.f185 2=true:=by kernel_rfl
theorem f185:FnOk Tryz.prog 185 Cy:=by
 refine FnOk.ofW aj (an (l:=[(230,tN),(231,yw)]) (own:=[]) (inl:=[]) (by simp [f230,f231]) (by simp)) Tryz.func185 D185 2 E5 λargs r e=>?_;unfold Cy at e;split at e
 ·rename_i v u
  cases e;refine⟨by simp,λhm=>?_⟩;obtain⟨⟨s,b,rfl,hb⟩,q,c,rfl,hc⟩:=hm _ rfl;refine⟨[],aa [(0,.val (.agg ⟨[.bool s,.string b]⟩)),(1,.val (.agg ⟨[.bool q,.string c]⟩))] [] 0 [],Wo trivial ⟨rfl,rfl,qQ⟩ trivial,?_⟩;have i1:eG (.agg ⟨[.bool s,.string b]⟩):=⟨_,_,rfl,hb⟩;have i2:eG (.agg ⟨[.bool q,.string c]⟩):=⟨_,_,rfl,hc⟩;generalize hX:az s (bv b)=X;generalize hY:az q (bv c)=Y;have a1:(!(decide (X < 0)==decide (Y < 0)))=true->decide (X < 0)=true->PV.val (goInt (-1))=PV.val (goInt (bI X Y)):=λh h'=>by
   rw [h'] at h;have h':=of_decide_eq_true h';have h:¬Y < 0:=by simpa using h
   rw [bI,if_pos (by omega)]
  have a2:(!(decide (X < 0)==decide (Y < 0)))=true->decide (X < 0)=false->PV.val (goInt 1)=PV.val (goInt (bI X Y)):=λh h'=>by
   rw [h'] at h;have h':=of_decide_eq_false h';have h:Y < 0:=by simpa using h
   rw [bI,if_neg (by omega),if_pos (by omega)]
  have a3:(!(decide (X < 0)==decide (Y < 0)))=false->decide (X < 0)=true->PV.val (goInt (cl (bv (ah Y.natAbs)) (bv (ah X.natAbs))))=PV.val (goInt (bI X Y)):=λh h'=>by
   rw [h'] at h;have h':=of_decide_eq_true h';have h:Y < 0:=by simpa using h
   rw [aH,aH,cl,bI];congr 2;split<;>split<;>first|rfl|omega|(split<;>split<;>first|rfl|omega)|(split<;>first|rfl|omega)
  have a4:(!(decide (X < 0)==decide (Y < 0)))=false->decide (X < 0)=false->PV.val (goInt (cl (bv (ah X.natAbs)) (bv (ah Y.natAbs))))=PV.val (goInt (bI X Y)):=λh h'=>by
   rw [h'] at h;have h':=of_decide_eq_false h';have h:¬Y < 0:=by simpa using h
   rw [aH,aH,cl,bI];congr 2;split<;>split<;>first|rfl|omega|(split<;>split<;>first|rfl|omega)|(split<;>first|rfl|omega)
  subst hX hY;with_unfolding_all refine⟨i1,i2,λh=>⟨λh'=>⟨[],aa [(4,.val (goInt (bI (az s (bv b)) (az q (bv c)))))] [] 0 [],Wo trivial ⟨a1 h h',qQ⟩ trivial,rfl,rfl⟩,λh'=>⟨[],aa [(4,.val (goInt (bI (az s (bv b)) (az q (bv c)))))] [] 0 [],Wo trivial ⟨a2 h h',qQ⟩ trivial,rfl,rfl⟩⟩,λh=>⟨λh'=>⟨⟨cA _,cA _⟩,[],aa [(4,.val (goInt (bI (az s (bv b)) (az q (bv c)))))] [] 0 [],Wo trivial ⟨a3 h h',qQ⟩ trivial,rfl,rfl⟩,λh'=>⟨⟨cA _,cA _⟩,[],aa [(4,.val (goInt (bI (az s (bv b)) (az q (bv c)))))] [] 0 [],Wo trivial ⟨a4 h h',qQ⟩ trivial,rfl,rfl⟩⟩⟩
 ·cases e
end Go.Proofs
namespace Go.Num
def ci (A M k:Nat):Nat:=(A%256^k+M%256^k) / 256^k
theorem rE (A M:Nat):ci A M 0=0:=by simp [ci,Nat.mod_one]
theorem rG (A M k:Nat):(ci A M k+A / 256^k%256+M / 256^k%256) / 256=ci A M (k+1):=by
 unfold ci;have hP:0 < 256^k:=Nat.pow_pos (by decide);rw [Nat.pow_succ,Nat.mod_mul,Nat.mod_mul,<-Nat.div_div_eq_div_mul];generalize 256^k=P at *
 rw [show A%P+P*(A / P%256)+(M%P+P*(M / P%256))=(A%P+M%P)+P*(A / P%256+M / P%256) by rw [Nat.mul_add];omega,Nat.add_mul_div_left _ _ hP,Nat.add_assoc]
theorem o6 (A M k:Nat):(ci A M k+A / 256^k%256+M / 256^k%256)%256=(A+M) / 256^k%256:=by
 unfold ci;have hP:0 < 256^k:=Nat.pow_pos (by decide);generalize 256^k=P at *
 have h1:=Nat.div_add_mod A P;have h2:=Nat.div_add_mod M P;have h3:A+M=(A%P+M%P)+P*(A / P+M / P):=by rw [Nat.mul_add];omega
 rw [h3,Nat.add_mul_div_left _ _ hP];generalize (A%P+M%P) / P=c;generalize A / P=x;generalize M / P=y;omega
theorem wR (A M k:Nat):ci A M k<=1:=by
 unfold ci;have hP:0 < 256^k:=Nat.pow_pos (by decide);have h1:=Nat.mod_lt A hP;have h2:=Nat.mod_lt M hP;have:(A%256^k+M%256^k) / 256^k < 2:=by rw [Nat.div_lt_iff_lt_mul hP];omega
 omega
theorem gw {l:List UInt8} {k:Nat} (h:k < l.length):(l[l.length - 1 - k]?.getD 0).toNat=c8 l / 256^k%256:=by
 have hi:l.length - 1 - k < l.length:=by omega
 have hs:l=l.take (l.length - 1 - k)++(l[l.length - 1 - k]::l.drop (l.length - 1 - k+1)):=by
  rw [<-List.drop_eq_getElem_cons hi,List.take_append_drop]
 have hx:l[l.length - 1 - k]?.getD 0=l[l.length - 1 - k]:=by rw [List.getElem?_eq_getElem hi];rfl
 have hd:(l.drop (l.length - 1 - k+1)).length=k:=by rw [List.length_drop];omega
 have e:c8 l=c8 (l.take (l.length - 1 - k))*256^(k+1)+((l[l.length - 1 - k]).toNat*256^k+c8 (l.drop (l.length - 1 - k+1))):=by
  have:=congrArg c8 hs;rw [gn,cT,List.length_cons,hd] at this;exact this
 have hl:=eu (l.drop (l.length - 1 - k+1));rw [hd] at hl;rw [hx,e,Nat.pow_succ];have hb:=UInt8.toNat_lt l[l.length - 1 - k];generalize l[l.length - 1 - k]=x at *
 generalize c8 (l.drop (l.length - 1 - k+1))=r at *
 generalize c8 (l.take (l.length - 1 - k))=q;have hP:0 < 256^k:=Nat.pow_pos (by decide);generalize 256^k=P at *
 rw [show q*(P*256)+(x.toNat*P+r)=r+P*(q*256+x.toNat) by rw [Nat.mul_add,Nat.mul_comm x.toNat P,<-Nat.mul_assoc q P 256,Nat.mul_comm q P,Nat.mul_assoc];omega,Nat.add_mul_div_left _ _ hP,Nat.div_eq_of_lt hl];omega
theorem o7 {l:List UInt8} {k:Nat} (h:l.length<=k):c8 l / 256^k%256=0:=by
 have h1:=eu l;have h2:256^l.length<=256^k:=Nat.pow_le_pow_right (by decide) h;rw [Nat.div_eq_of_lt (by omega)]
end Go.Num
namespace Go.Proofs
def Ac:List PV->Option Ans
 |[.val (.string b),.val (.string c)]=>some ⟨some (b.size<=17179869184/\c.size<=17179869184),.val (.string (ah (bv b+bv c))),[]⟩
 |_=>none
def D245:Opt:={ join:=λc=>match c with | .seq (.region 7 _ _) _=>true | .seq (.region 9 _ _) _=>true|_=>false }
theorem E6:am D245.toOrd Tryz.f245 2=true:=by kernel_rfl
theorem f245:FnOk Tryz.prog 245 Ac:=by
 refine FnOk.ofW aj (an (l:=[(248,rz)]) (own:=[]) (inl:=[]) (by simp [f248]) (by simp)) Tryz.func245 D245 2 E6 λargs r e=>?_;unfold Ac at e;split at e
 ·rename_i b c
  cases e;refine⟨by simp,λhm=>?_⟩;obtain⟨hb,hc⟩:=hm _ rfl;refine⟨[],aa [(0,.val (.string b)),(1,.val (.string c))] [] 0 [],Wo trivial ⟨rfl,rfl,qQ⟩ trivial,?_⟩;obtain⟨n,hn⟩:∃n:Nat,n=max b.size c.size+1:=⟨_,rfl⟩;have hmx:(if ((c.size:Nat):Int) > (b.size:Nat) then((c.size:Nat):Int) else(b.size:Nat))=((max b.size c.size:Nat):Int):=by
   split<;>omega
  have w:IntKind.i64.wrap ((if ((c.size:Nat):Int) > (b.size:Nat) then((c.size:Nat):Int) else(b.size:Nat))+1)=((n:Nat):Int):=by
   rw [hmx,hn,wrap64 (by omega) (by omega)];omega
  have hn2:n<=17179869185:=by omega
  with_unfolding_all refine⟨⟨by rw [w];omega,by omega,by rw [w];omega,by rw [w];show(1:Int)*(n:Nat)<=_;omega⟩,?_⟩
  rw [w];with_unfolding_all refine⟨Nat,λk=>k<=n,λk=>aa [(0,.val (.string b)),(1,.val (.string c)),(5,.val (.int .i64 (n:Nat))),(6,.sl 0 0 0 n),(7,.val (.int .i64 (ci (bv b) (bv c) k:Nat))),(8,.val (.int .i64 ((k:Int)+1)))] [⟨5,1,0,false,false,n,λj=>if j < n - k then [.val (.int .u8 0)] else bd (bv b+bv c) n j⟩] 1 [],λk=>n - k,?_,λk hk=>?_⟩
  ·with_unfolding_all refine⟨0,[some 0],Nat.zero_le _,Wo ⟨qZ (λi hi=>?_),qQ⟩ ⟨rfl,rfl,rfl,pP,?_,rfl,qQ⟩ trivial⟩
   ·have hi:i < n:=hi;show(if i < n - 0 then [PV.val (.int .u8 0)] else bd (bv b+bv c) n i)=[PV.val (.int .u8 0)];rw [if_pos (by omega)]
   ·show PV.val (.int .i64 0)=PV.val (.int .i64 ((ci (bv b) (bv c) 0:Nat):Int));rw [rE];rfl
  ·replace hk:k<=n:=hk;have hcr:=wR (bv b) (bv c) k;have hlb:=Nat.mod_lt (bv b / 256^k) (show 0 < 256 by decide);with_unfolding_all refine⟨λh=>⟨Unit,λ_=>True,λ_=>aa [(0,.val (.string b)),(1,.val (.string c)),(5,.val (.int .i64 (n:Nat))),(6,.sl 0 0 0 n),(7,.val (.int .i64 ((ci (bv b) (bv c) k+bv b / 256^k%256:Nat):Int))),(8,.val (.int .i64 ((k:Int)+1)))] [⟨5,1,0,false,false,n,λj=>if j < n - k then [.val (.int .u8 0)] else bd (bv b+bv c) n j⟩] 1 [],?_,λ_ _=>⟨Unit,λ_=>True,λ_=>aa [(0,.val (.string b)),(1,.val (.string c)),(5,.val (.int .i64 (n:Nat))),(6,.sl 0 0 0 n),(7,.val (.int .i64 ((ci (bv b) (bv c) k+bv b / 256^k%256+bv c / 256^k%256:Nat):Int))),(8,.val (.int .i64 ((k:Int)+1)))] [⟨5,1,0,false,false,n,λj=>if j < n - k then [.val (.int .u8 0)] else bd (bv b+bv c) n j⟩] 1 [],?_,λ_ _=>?_⟩⟩,λh=>?_⟩
   ·have hs:=bg b;have wb:decide ((k:Int)+1<=(b.size:Nat))=true->IntKind.i64.wrap (((b.size:Nat):Int) - ((k:Int)+1))=((b.size - 1 - k:Nat):Int):=λh=>by
     have:=of_decide_eq_true h;rw [wrap64 (by omega) (by omega)];omega
    with_unfolding_all refine⟨λh=>⟨⟨by rw [wb h];omega,by rw [wb h];have:=of_decide_eq_true h;omega⟩,(),[some 0],trivial,Wo ⟨qZ (λ_ _=>rfl),qQ⟩ ⟨rfl,rfl,rfl,pP,?_,rfl,qQ⟩ trivial⟩,λh=>⟨(),[some 0],trivial,Wo ⟨qZ (λ_ _=>rfl),qQ⟩ ⟨rfl,rfl,rfl,pP,?_,rfl,qQ⟩ trivial⟩⟩
    ·have h':=of_decide_eq_true h;have hx:(b.data.toList[b.size - 1 - k]?.getD 0).toNat=bv b / 256^k%256:=by
      rw [hs];exact gw (by omega)
     show PV.val (.int .i64 (IntKind.i64.wrap (((ci (bv b) (bv c) k:Nat):Int)+IntKind.i64.wrap (((b.data.toList[(IntKind.i64.wrap (((b.size:Nat):Int) - ((k:Int)+1))).toNat]?.getD 0).toNat:Nat):Int))))=PV.val (.int .i64 ((ci (bv b) (bv c) k+bv b / 256^k%256:Nat):Int));rw [wb h,Int.toNat_natCast,hx];have:=Nat.mod_lt (bv b / 256^k) (show 0 < 256 by decide);rw [show IntKind.i64.wrap ((bv b / 256^k%256:Nat):Int)=((bv b / 256^k%256:Nat):Int) from wrap64 (by omega) (by omega),wrap64 (by omega) (by omega)];rfl
    ·have h':=of_decide_eq_false h;show PV.val (.int .i64 ((ci (bv b) (bv c) k:Nat):Int))=PV.val (.int .i64 ((ci (bv b) (bv c) k+bv b / 256^k%256:Nat):Int));rw [show bv b / 256^k%256=0 from o7 (by omega),Nat.add_zero]
   ·have hs:=bg c;have wb:decide ((k:Int)+1<=(c.size:Nat))=true->IntKind.i64.wrap (((c.size:Nat):Int) - ((k:Int)+1))=((c.size - 1 - k:Nat):Int):=λh=>by
     have:=of_decide_eq_true h;rw [wrap64 (by omega) (by omega)];omega
    with_unfolding_all refine⟨λh=>⟨⟨by rw [wb h];omega,by rw [wb h];have:=of_decide_eq_true h;omega⟩,(),[some 0],trivial,Wo ⟨qZ (λ_ _=>rfl),qQ⟩ ⟨rfl,rfl,rfl,pP,?_,rfl,qQ⟩ trivial⟩,λh=>⟨(),[some 0],trivial,Wo ⟨qZ (λ_ _=>rfl),qQ⟩ ⟨rfl,rfl,rfl,pP,?_,rfl,qQ⟩ trivial⟩⟩
    ·have h':=of_decide_eq_true h;have hx:(c.data.toList[c.size - 1 - k]?.getD 0).toNat=bv c / 256^k%256:=by
      rw [hs];exact gw (by omega)
     show PV.val (.int .i64 (IntKind.i64.wrap (((ci (bv b) (bv c) k+bv b / 256^k%256:Nat):Int)+IntKind.i64.wrap (((c.data.toList[(IntKind.i64.wrap (((c.size:Nat):Int) - ((k:Int)+1))).toNat]?.getD 0).toNat:Nat):Int))))=PV.val (.int .i64 ((ci (bv b) (bv c) k+bv b / 256^k%256+bv c / 256^k%256:Nat):Int));rw [wb h,Int.toNat_natCast,hx];have:=Nat.mod_lt (bv c / 256^k) (show 0 < 256 by decide);rw [show IntKind.i64.wrap ((bv c / 256^k%256:Nat):Int)=((bv c / 256^k%256:Nat):Int) from wrap64 (by omega) (by omega),wrap64 (by omega) (by omega)];rfl
    ·have h':=of_decide_eq_false h;show PV.val (.int .i64 ((ci (bv b) (bv c) k+bv b / 256^k%256:Nat):Int))=PV.val (.int .i64 ((ci (bv b) (bv c) k+bv b / 256^k%256+bv c / 256^k%256:Nat):Int));rw [show bv c / 256^k%256=0 from o7 (by omega),Nat.add_zero]
   ·have h:=of_decide_eq_true h;have hlc:=Nat.mod_lt (bv c / 256^k) (show 0 < 256 by decide);have wn:IntKind.i64.wrap (((n:Nat):Int) - ((k:Int)+1))=((n - 1 - k:Nat):Int):=by
     rw [wrap64 (by omega) (by omega)];omega
    with_unfolding_all refine⟨⟨by rw [wn];omega,by rw [wn];omega⟩,by decide,k+1,[some 0],by show k+1<=n;omega,by show n - (k+1) < n - k;omega,Wo ⟨qZ (λi hi=>?_),qQ⟩ ⟨rfl,rfl,rfl,pP,?_,?_,qQ⟩ trivial⟩
    ·have hi:i < n:=hi;show(if i < n - (k+1) then [PV.val (.int .u8 0)] else bd (bv b+bv c) n i)=if i=0+(IntKind.i64.wrap (((n:Nat):Int) - ((k:Int)+1))).toNat then [PV.val (.int .u8 (IntKind.u8.wrap ((ci (bv b) (bv c) k+bv b / 256^k%256+bv c / 256^k%256:Nat):Int)))] else if i < n - k then [PV.val (.int .u8 0)] else bd (bv b+bv c) n i
     rw [wn,Int.toNat_natCast,Nat.zero_add];rcases Nat.lt_trichotomy i (n - 1 - k) with h1|h1|h1
     ·rw [if_pos (by omega),if_neg (by omega),if_pos (by omega)]
     ·rw [if_neg (by omega),if_pos h1,cE];simp only [bd];rw [show n - 1 - i=k by omega,<-o6];rfl
     ·rw [if_neg (by omega),if_neg (by omega),if_neg (by omega)]
    ·show PV.val (.int .i64 (((ci (bv b) (bv c) k+bv b / 256^k%256+bv c / 256^k%256:Nat):Int) / 2^8))=PV.val (.int .i64 ((ci (bv b) (bv c) (k+1):Nat):Int));rw [<-rG];rfl
    ·show PV.val (.int .i64 (IntKind.i64.wrap ((k:Int)+1+1)))=PV.val (.int .i64 (((k+1:Nat):Int)+1));rw [wrap64 (by omega) (by omega)];rfl
   ·have h:=of_decide_eq_false h;obtain rfl:k=n:=by omega
    have hA:bv b+bv c < 256^k:=by
     have h1:=bK b;have h2:=bK c;have h3:256^b.size<=256^max b.size c.size:=Nat.pow_le_pow_right (by decide) (by omega);have h4:256^c.size<=256^max b.size c.size:=Nat.pow_le_pow_right (by decide) (by omega);rw [hn,Nat.pow_succ];omega
    have hv:bv (dg k (λi=>if 0+i < k - k then [PV.val (.int .u8 0)] else bd (bv b+bv c) k (0+i)))=bv b+bv c:=by
     rw [ey (λi _=>by rw [if_neg (by omega),Nat.zero_add]),Nat.mod_eq_of_lt hA]
    with_unfolding_all refine⟨λi hi=>?_,[],aa [(4,.val (.string (ah (bv b+bv c))))] [] 0 [],Wo trivial ⟨congrArg (λx=>PV.val (.string (ah x))) hv,qQ⟩ trivial,rfl,rfl⟩
    show ∃q:Int,(if 0+i < k - k then [PV.val (.int .u8 0)] else bd (bv b+bv c) k (0+i))=[PV.val (.int .u8 q)];split
    ·exact⟨_,rfl⟩
    ·exact⟨_,rfl⟩
 ·cases e
end Go.Proofs
namespace Go.Num
def bu (A M k:Nat):Nat:=if A%256^k < M%256^k then 1 else 0
theorem o8 (A M:Nat):bu A M 0=0:=by simp [bu,Nat.mod_one]
theorem o9 (A M k:Nat):(A / 256^k%256 < bu A M k+M / 256^k%256)↔A%256^(k+1) < M%256^(k+1):=by
 unfold bu;have hP:0 < 256^k:=Nat.pow_pos (by decide);rw [Nat.pow_succ,Nat.mod_mul,Nat.mod_mul];generalize 256^k=P at *
 have h1:=Nat.mod_lt A hP;have h2:=Nat.mod_lt M hP;generalize A%P=x at *
 generalize M%P=y at *
 generalize A / P%256=a;generalize M / P%256=b;rcases Nat.lt_trichotomy a b with h|h|h
 ·have:=Nat.mul_le_mul_left P (show a+1<=b from h);rw [Nat.mul_add,Nat.mul_one] at this;split<;>omega
 ·subst h;split<;>omega
 ·have:=Nat.mul_le_mul_left P (show b+1<=a from h);rw [Nat.mul_add,Nat.mul_one] at this;split<;>omega
theorem m9 {A M:Nat} (h:M<=A) (k:Nat):(A / 256^k%256+256 - bu A M k - M / 256^k%256)%256=(A - M) / 256^k%256:=by
 unfold bu;have hP:0 < 256^k:=Nat.pow_pos (by decide);generalize 256^k=P at *
 have h1:=Nat.mod_lt A hP;have h2:=Nat.mod_lt M hP;have e1:=Nat.div_add_mod A P;have e2:=Nat.div_add_mod M P;generalize A%P=x at *
 generalize M%P=y at *
 have hqr:M / P<=A / P:=Nat.div_le_div_right h;generalize A / P=q at *
 generalize M / P=r at *
 obtain⟨d,rfl⟩:=Nat.exists_eq_add_of_le hqr;rw [Nat.mul_add] at e1;by_cases hxy:x < y
 ·rw [if_pos hxy];cases d with
  |zero=>rw [Nat.mul_zero] at e1;omega
  |succ d =>
   rw [Nat.mul_add,Nat.mul_one] at e1;rw [show A - M=(P+x - y)+P*d by omega,Nat.add_mul_div_left _ _ hP,Nat.div_eq_of_lt (by omega)];omega
 ·rw [if_neg hxy,show A - M=(x - y)+P*d by omega,Nat.add_mul_div_left _ _ hP,Nat.div_eq_of_lt (by omega)];omega
theorem p8 (n:Nat):0 < 256^n:=Nat.pow_pos (by decide)
theorem yz (N i:Nat):N%256^(i+1)=N%256^i+256^i*(N / 256^i%256):=by rw [Nat.pow_succ,Nat.mod_mul]
theorem Cz {M m i:Nat} (h:M < 256^m) (hi:m<=i):M / 256^i%256=0:=by
 rw [Nat.div_eq_of_lt (Nat.lt_of_lt_of_le h (Nat.pow_le_pow_right (by decide) hi)),Nat.zero_mod]
theorem E7 (D i j:Nat):D%256^i / 256^j%256=if j < i then D / 256^j%256 else 0:=by
 split
 ·rename_i h
  obtain⟨d,rfl⟩:∃d,i=j+1+d:=⟨i - j - 1,by omega⟩;rw [Nat.pow_add,Nat.pow_succ,Nat.mul_assoc,Nat.mod_mul_right_div_self,Nat.mod_mul_right_mod]
 ·rename_i h
  have h1:D%256^i < 256^i:=Nat.mod_lt _ (p8 i);have h2:256^i<=256^j:=Nat.pow_le_pow_right (by decide) (by omega);rw [Nat.div_eq_of_lt (by omega),Nat.zero_mod]
def uV (A x M i k:Nat):Nat:=A+x*(M%256^k)*256^i
def uW (A x M i k:Nat):Nat:=uV A x M i k%256^(i+k)+A / 256^(i+k)*256^(i+k)
def uC (A x M i k:Nat):Nat:=uV A x M i k / 256^(i+k) - A / 256^(i+k)
theorem uZ (A x M i:Nat):uV A x M i 0=A:=by simp [uV,Nat.mod_one]
theorem pf (A x M i k:Nat):uV A x M i (k+1)=uV A x M i k+x*(M / 256^k%256)*256^(i+k):=by
 unfold uV;rw [yz,Nat.mul_add,Nat.add_mul,Nat.pow_add,<-Nat.add_assoc];congr 1;rw [Nat.mul_comm (256^k) (M / 256^k%256),<-Nat.mul_assoc,Nat.mul_assoc (x*(M / 256^k%256)),Nat.mul_comm (256^k)]
theorem E8 (A x M i k:Nat):A<=uV A x M i k:=Nat.le_add_right _ _
theorem pj (A x M i k:Nat):uV A x M i k / 256^(i+k)=uC A x M i k+A / 256^(i+k):=by
 unfold uC;have:=Nat.div_le_div_right (c:=256^(i+k)) (E8 A x M i k);omega
theorem Bm {A x M i k:Nat} (hx:x < 256):uC A x M i k < 256:=by
 have h1:x*(M%256^k)*256^i < (256 - 1)*256^(i+k)+1:=by
  have h2:M%256^k<=256^k:=Nat.le_of_lt (Nat.mod_lt _ (p8 k));have h3:x*(M%256^k)<=(256 - 1)*256^k:=Nat.mul_le_mul (by omega) h2;have h4:=Nat.mul_le_mul_right (256^i) h3;rw [Nat.mul_assoc (256 - 1),<-Nat.pow_add,Nat.add_comm k i] at h4;omega
 have h5:uV A x M i k / 256^(i+k)<=A / 256^(i+k)+(256 - 1):=by
  have:uV A x M i k<=A+256^(i+k)*(256 - 1):=by unfold uV;rw [Nat.mul_comm (256^(i+k))];omega
  have:=Nat.div_le_div_right (c:=256^(i+k)) this
  rwa [Nat.add_mul_div_left _ _ (p8 _)] at this
 unfold uC;have:0 < 256:=by decide
 omega
theorem Ad (A x M i:Nat):uC A x M i 0=0:=by simp [uC,uZ]
theorem Ae (A x M i:Nat):uW A x M i 0=A:=by rw [uW,uZ,Nat.mul_comm];exact Nat.mod_add_div A _
theorem pm (A x M i k j:Nat):uW A x M i k / 256^j%256=if j < i+k then uV A x M i k / 256^j%256 else A / 256^j%256:=by
 have hmod:uW A x M i k%256^(i+k)=uV A x M i k%256^(i+k):=by
  unfold uW;rw [Nat.add_mul_mod_self_right,Nat.mod_mod]
 have hdiv:uW A x M i k / 256^(i+k)=A / 256^(i+k):=by
  unfold uW;rw [Nat.add_mul_div_right _ _ (p8 _),Nat.div_eq_of_lt (Nat.mod_lt _ (p8 _)),Nat.zero_add]
 split
 ·rename_i h
  have h1:=E7 (uW A x M i k) (i+k) j;have h2:=E7 (uV A x M i k) (i+k) j;rw [if_pos h] at h1 h2;rw [<-h1,hmod,h2]
 ·rename_i h
  obtain⟨d,rfl⟩:∃d,j=i+k+d:=⟨j - (i+k),by omega⟩;rw [Nat.pow_add,<-Nat.div_div_eq_div_mul,hdiv,<-Nat.div_div_eq_div_mul]
theorem CA (A x M i k:Nat):(uC A x M i k+x*(M / 256^k%256)+A / 256^(i+k)%256)%256=uV A x M i (k+1) / 256^(i+k)%256:=by
 rw [pf,Nat.add_mul_div_right _ _ (p8 _),pj];generalize x*(M / 256^k%256)=p;generalize uC A x M i k=c;generalize A / 256^(i+k)=q;omega
theorem Af (A x M i k:Nat):(uC A x M i k+x*(M / 256^k%256)+A / 256^(i+k)%256) / 256=uC A x M i (k+1):=by
 have h1:uV A x M i (k+1) / 256^(i+k)=uC A x M i k+A / 256^(i+k)+x*(M / 256^k%256):=by rw [pf,Nat.add_mul_div_right _ _ (p8 _),pj]
 have h2:=pj A x M i (k+1);rw [<-Nat.add_assoc,Nat.pow_succ,<-Nat.div_div_eq_div_mul,<-Nat.div_div_eq_div_mul,h1] at h2;generalize x*(M / 256^k%256)=p at *
 generalize uC A x M i k=c at *
 generalize A / 256^(i+k)=q at *
 generalize uC A x M i (k+1)=r at *
 omega
theorem Ag (A x M i k j:Nat):uW A x M i (k+1) / 256^j%256=if j=i+k then(uC A x M i k+x*(M / 256^k%256)+A / 256^(i+k)%256)%256 else uW A x M i k / 256^j%256:=by
 rw [CA];simp only [pm];split
 ·rename_i h
  split
  ·rename_i h3
   subst h3;rfl
  ·rename_i h3
   rw [if_pos (by omega),pf];obtain⟨d,hd⟩:∃d,i+k=j+1+d:=⟨i+k - j - 1,by omega⟩;rw [hd,Nat.pow_add,Nat.pow_succ];have:x*(M / 256^k%256)*(256^j*256*256^d)=256^j*(256*(x*(M / 256^k%256)*256^d)):=by
    generalize x*(M / 256^k%256)=p;rw [<-Nat.mul_assoc,Nat.mul_comm p,Nat.mul_assoc (256^j*256),Nat.mul_assoc]
   rw [this,Nat.add_mul_div_left _ _ (p8 j),Nat.add_mul_mod_self_left]
 ·rename_i h
  rw [if_neg (by omega),if_neg (by omega)]
theorem E9 (N M i m:Nat) (hM:M < 256^m):uV (N%256^i*M) (N / 256^i%256) M i m=N%256^(i+1)*M:=by
 unfold uV;rw [Nat.mod_eq_of_lt hM,yz,Nat.add_mul];congr 1;rw [Nat.mul_comm (256^i),Nat.mul_assoc,Nat.mul_assoc,Nat.mul_comm M]
theorem Ah (A x M i m j:Nat) (hA:A < 256^(i+m)) (hV:uV A x M i m < 256^(i+m+1)) :
  uV A x M i m / 256^j%256=if j=i+m then uC A x M i m else uW A x M i m / 256^j%256:=by
 have h0:A / 256^(i+m)=0:=Nat.div_eq_of_lt hA;have h1:=pj A x M i m;rw [h0,Nat.add_zero] at h1;have h2:uC A x M i m < 256:=by
  rw [<-h1,Nat.div_lt_iff_lt_mul (p8 _),Nat.mul_comm,<-Nat.pow_succ];exact hV
 simp only [pm];split
 ·rename_i h
  subst h;rw [h1,Nat.mod_eq_of_lt h2]
 ·rename_i h
  split
  ·rfl
  ·rename_i h3
   have e1:A / 256^j%256=0:=Cz hA (by omega);have e2:uV A x M i m / 256^j%256=0:=Cz hV (by omega);rw [e1,e2]
def jj (N n:Nat):Nat->List PV:=λj=>[.val (.int .i64 ((N / 256^(n - 1 - j)%256:Nat):Int))]
theorem wS (A x M i k n j:Nat) (hj:j < n) (hik:i+k < n) {v:Int} (hv:v=(((uC A x M i k+x*(M / 256^k%256)+A / 256^(i+k)%256)%256:Nat):Int)) :
  (if j=n - 1 - (i+k) then [PV.val (.int .i64 v)] else jj (uW A x M i k) n j)=jj (uW A x M i (k+1)) n j:=by
 subst hv;simp only [jj];rw [Ag];split
 ·rename_i h
  rw [if_pos (by omega)]
 ·rename_i h
  rw [if_neg (by omega)]
theorem wT (A x M i m n j:Nat) (hj:j < n) (him:i+m < n) (hA:A < 256^(i+m)) (hV:uV A x M i m < 256^(i+m+1)) {v:Int} (hv:v=((uC A x M i m:Nat):Int)) :
  (if j=n - 1 - (i+m) then [PV.val (.int .i64 v)] else jj (uW A x M i m) n j)=jj (uV A x M i m) n j:=by
 subst hv;simp only [jj];rw [Ah A x M i m _ hA hV];split
 ·rename_i h
  rw [if_pos (by omega)]
 ·rename_i h
  rw [if_neg (by omega)]
end Go.Num
namespace Go.Proofs
def Ai:List PV->Option Ans
 |[.val (.string b),.val (.string c)]=>some ⟨some (bv c<=bv b/\b.size<=17179869184/\c.size<=17179869184),.val (.string (ah (bv b - bv c))),[]⟩
 |_=>none
def ez (l:List Nat):Code->Bool
 |.seq (.region n _ _) _=>l.contains n
 |_=>false
def D246:Opt:={ join:=ez [7,10] }
theorem Fa:am D246.toOrd Tryz.f246 2=true:=by kernel_rfl
theorem f246:FnOk Tryz.prog 246 Ai:=by
 refine FnOk.ofW aj (an (l:=[(248,rz)]) (own:=[]) (inl:=[]) (by simp [f248]) (by simp)) Tryz.func246 D246 2 Fa λargs r e=>?_;unfold Ai at e;split at e
 ·rename_i b c
  cases e;refine⟨by simp,λhm=>?_⟩;obtain⟨hle,hb,hc⟩:=hm _ rfl;refine⟨[],aa [(0,.val (.string b)),(1,.val (.string c))] [] 0 [],Wo trivial ⟨rfl,rfl,qQ⟩ trivial,?_⟩;have hsb:=bg b;have hsc:=bg c;obtain⟨n,hn⟩:∃n:Nat,n=b.size:=⟨_,rfl⟩;rw [<-hn] at hb hsb;with_unfolding_all refine⟨⟨by omega,by omega,by omega,by show(1:Int)*(b.size:Nat)<=_;omega⟩,?_⟩
  rw [<-hn];with_unfolding_all refine⟨Nat,λk=>k<=n,λk=>aa [(0,.val (.string b)),(1,.val (.string c)),(5,.sl 0 0 0 n),(6,.val (.int .i64 (bu (bv b) (bv c) k:Nat))),(7,.val (.int .i64 ((k:Int)+1)))] [⟨5,1,0,false,false,n,λj=>if j < n - k then [.val (.int .u8 0)] else bd (bv b - bv c) n j⟩] 1 [],λk=>n - k,?_,λk hk=>?_⟩
  ·with_unfolding_all refine⟨0,[some 0],Nat.zero_le _,Wo ⟨qZ (λi hi=>?_),qQ⟩ ⟨rfl,rfl,pP,?_,rfl,qQ⟩ trivial⟩
   ·have hi:i < n:=hi;show(if i < n - 0 then [PV.val (.int .u8 0)] else bd (bv b - bv c) n i)=[PV.val (.int .u8 0)];rw [if_pos (by omega)]
   ·show PV.val (.int .i64 0)=PV.val (.int .i64 ((bu (bv b) (bv c) 0:Nat):Int));rw [o8];rfl
  ·replace hk:k<=n:=hk;have hbl:bu (bv b) (bv c) k<=1:=by unfold bu;split<;>omega
   have hlb:=Nat.mod_lt (bv b / 256^k) (show 0 < 256 by decide);have hlc:=Nat.mod_lt (bv c / 256^k) (show 0 < 256 by decide);have hst:=o9 (bv b) (bv c) k;have hdg:=m9 hle k;with_unfolding_all refine⟨λh=>?_,λh=>?_⟩
   ·have h:=of_decide_eq_true h;have hkn:k < n:=by omega
    have wn:IntKind.i64.wrap (((b.size:Nat):Int) - ((k:Int)+1))=((n - 1 - k:Nat):Int):=by
     rw [wrap64 (by omega) (by omega)];omega
    have hx:(b.data.toList[n - 1 - k]?.getD 0).toNat=bv b / 256^k%256:=by
     rw [hsb];exact gw (by omega)
    have hd:IntKind.i64.wrap (IntKind.i64.wrap (((b.data.toList[(IntKind.i64.wrap (((b.size:Nat):Int) - ((k:Int)+1))).toNat]?.getD 0).toNat:Nat):Int) - ((bu (bv b) (bv c) k:Nat):Int))=((bv b / 256^k%256:Nat):Int) - ((bu (bv b) (bv c) k:Nat):Int):=by
     rw [wn,Int.toNat_natCast,hx];rw [show IntKind.i64.wrap ((bv b / 256^k%256:Nat):Int)=((bv b / 256^k%256:Nat):Int) from wrap64 (by omega) (by omega),wrap64 (by omega) (by omega)]
    with_unfolding_all refine⟨⟨by rw [wn];omega,by rw [wn];omega⟩,Unit,λ_=>True,λ_=>aa [(0,.val (.string b)),(1,.val (.string c)),(5,.sl 0 0 0 n),(7,.val (.int .i64 ((k:Int)+1))),(8,.val (.int .i64 (((bv b / 256^k%256:Nat):Int) - ((bu (bv b) (bv c) k:Nat):Int) - ((bv c / 256^k%256:Nat):Int))))] [⟨5,1,0,false,false,n,λj=>if j < n - k then [.val (.int .u8 0)] else bd (bv b - bv c) n j⟩] 1 [],?_,λ_ _=>⟨Unit,λ_=>True,λ_=>aa [(0,.val (.string b)),(1,.val (.string c)),(5,.sl 0 0 0 n),(6,.val (.int .i64 (bu (bv b) (bv c) (k+1):Nat))),(7,.val (.int .i64 ((k:Int)+1))),(8,.val (.int .i64 (((bv b - bv c) / 256^k%256:Nat):Int)))] [⟨5,1,0,false,false,n,λj=>if j < n - k then [.val (.int .u8 0)] else bd (bv b - bv c) n j⟩] 1 [],?_,λ_ _=>?_⟩⟩
    ·have wb:decide ((k:Int)+1<=(c.size:Nat))=true->IntKind.i64.wrap (((c.size:Nat):Int) - ((k:Int)+1))=((c.size - 1 - k:Nat):Int):=λh=>by
      have:=of_decide_eq_true h;rw [wrap64 (by omega) (by omega)];omega
     with_unfolding_all refine⟨λh=>⟨⟨by rw [wb h];omega,by rw [wb h];have:=of_decide_eq_true h;omega⟩,(),[some 0],trivial,Wo ⟨qZ (λ_ _=>rfl),qQ⟩ ⟨rfl,rfl,pP,rfl,?_,qQ⟩ trivial⟩,λh=>⟨(),[some 0],trivial,Wo ⟨qZ (λ_ _=>rfl),qQ⟩ ⟨rfl,rfl,pP,rfl,?_,qQ⟩ trivial⟩⟩
     ·have h':=of_decide_eq_true h;have hx:(c.data.toList[c.size - 1 - k]?.getD 0).toNat=bv c / 256^k%256:=by
       rw [hsc];exact gw (by omega)
      show PV.val (.int .i64 (IntKind.i64.wrap (IntKind.i64.wrap (IntKind.i64.wrap (((b.data.toList[(IntKind.i64.wrap (((b.size:Nat):Int) - ((k:Int)+1))).toNat]?.getD 0).toNat:Nat):Int) - ((bu (bv b) (bv c) k:Nat):Int)) - IntKind.i64.wrap (((c.data.toList[(IntKind.i64.wrap (((c.size:Nat):Int) - ((k:Int)+1))).toNat]?.getD 0).toNat:Nat):Int))))=PV.val (.int .i64 (((bv b / 256^k%256:Nat):Int) - ((bu (bv b) (bv c) k:Nat):Int) - ((bv c / 256^k%256:Nat):Int)));rw [hd,wb h,Int.toNat_natCast,hx];rw [show IntKind.i64.wrap ((bv c / 256^k%256:Nat):Int)=((bv c / 256^k%256:Nat):Int) from wrap64 (by omega) (by omega),wrap64 (by omega) (by omega)]
     ·have h':=of_decide_eq_false h;show PV.val (.int .i64 (IntKind.i64.wrap (IntKind.i64.wrap (((b.data.toList[(IntKind.i64.wrap (((b.size:Nat):Int) - ((k:Int)+1))).toNat]?.getD 0).toNat:Nat):Int) - ((bu (bv b) (bv c) k:Nat):Int))))=PV.val (.int .i64 (((bv b / 256^k%256:Nat):Int) - ((bu (bv b) (bv c) k:Nat):Int) - ((bv c / 256^k%256:Nat):Int)));rw [hd,show bv c / 256^k%256=0 from o7 (by omega)];simp
    ·with_unfolding_all refine⟨λh=>⟨(),[some 0],trivial,Wo ⟨qZ (λ_ _=>rfl),qQ⟩ ⟨rfl,rfl,pP,?_,rfl,?_,qQ⟩ trivial⟩,λh=>⟨(),[some 0],trivial,Wo ⟨qZ (λ_ _=>rfl),qQ⟩ ⟨rfl,rfl,pP,?_,rfl,?_,qQ⟩ trivial⟩⟩
     ·have h':=of_decide_eq_true h;show PV.val (.int .i64 1)=PV.val (.int .i64 ((bu (bv b) (bv c) (k+1):Nat):Int));rw [show bu (bv b) (bv c) (k+1)=1 by unfold bu;exact if_pos (hst.1 (by omega))];rfl
     ·have h':=of_decide_eq_true h;show PV.val (.int .i64 (IntKind.i64.wrap (((bv b / 256^k%256:Nat):Int) - ((bu (bv b) (bv c) k:Nat):Int) - ((bv c / 256^k%256:Nat):Int)+256)))=PV.val (.int .i64 (((bv b - bv c) / 256^k%256:Nat):Int));rw [<-hdg,wrap64 (by omega) (by omega)];exact congrArg (λx=>PV.val (.int .i64 x)) (by omega)
     ·have h':=of_decide_eq_false h;show PV.val (.int .i64 0)=PV.val (.int .i64 ((bu (bv b) (bv c) (k+1):Nat):Int));rw [show bu (bv b) (bv c) (k+1)=0 by unfold bu;exact if_neg (λh=>by have:=hst.2 h;omega)];rfl
     ·have h':=of_decide_eq_false h;show PV.val (.int .i64 (((bv b / 256^k%256:Nat):Int) - ((bu (bv b) (bv c) k:Nat):Int) - ((bv c / 256^k%256:Nat):Int)))=PV.val (.int .i64 (((bv b - bv c) / 256^k%256:Nat):Int));rw [<-hdg];exact congrArg (λx=>PV.val (.int .i64 x)) (by omega)
    ·with_unfolding_all refine⟨⟨by rw [wn];omega,by rw [wn];omega⟩,k+1,[some 0],by show k+1<=n;omega,by show n - (k+1) < n - k;omega,Wo ⟨qZ (λi hi=>?_),qQ⟩ ⟨rfl,rfl,pP,rfl,?_,qQ⟩ trivial⟩
     ·have hi:i < n:=hi;show(if i < n - (k+1) then [PV.val (.int .u8 0)] else bd (bv b - bv c) n i)=if i=0+(IntKind.i64.wrap (((b.size:Nat):Int) - ((k:Int)+1))).toNat then [PV.val (.int .u8 (IntKind.u8.wrap (((bv b - bv c) / 256^k%256:Nat):Int)))] else if i < n - k then [PV.val (.int .u8 0)] else bd (bv b - bv c) n i
      rw [wn,Int.toNat_natCast,Nat.zero_add];rcases Nat.lt_trichotomy i (n - 1 - k) with h1|h1|h1
      ·rw [if_pos (by omega),if_neg (by omega),if_pos (by omega)]
      ·rw [if_neg (by omega),if_pos h1,cE];simp only [bd];rw [show n - 1 - i=k by omega];exact congrArg (λx=>[PV.val (.int .u8 x)]) (by omega)
      ·rw [if_neg (by omega),if_neg (by omega),if_neg (by omega)]
     ·show PV.val (.int .i64 (IntKind.i64.wrap ((k:Int)+1+1)))=PV.val (.int .i64 (((k+1:Nat):Int)+1));rw [wrap64 (by omega) (by omega)];rfl
   ·have h:=of_decide_eq_false h;obtain rfl:k=n:=by omega
    have hA:bv b - bv c < 256^k:=by
     have h1:=bK b;rw [hn];omega
    have hv:bv (dg k (λi=>if 0+i < k - k then [PV.val (.int .u8 0)] else bd (bv b - bv c) k (0+i)))=bv b - bv c:=by
     rw [ey (λi _=>by rw [if_neg (by omega),Nat.zero_add]),Nat.mod_eq_of_lt hA]
    with_unfolding_all refine⟨λi hi=>?_,[],aa [(4,.val (.string (ah (bv b - bv c))))] [] 0 [],Wo trivial ⟨congrArg (λx=>PV.val (.string (ah x))) hv,qQ⟩ trivial,rfl,rfl⟩
    show ∃q:Int,(if 0+i < k - k then [PV.val (.int .u8 0)] else bd (bv b - bv c) k (0+i))=[PV.val (.int .u8 q)];split
    ·exact⟨_,rfl⟩
    ·exact⟨_,rfl⟩
 ·cases e
theorem CB {t:Nat} (h:t < 2^63):IntKind.i64.wrap ((BitVec.ofInt IntKind.i64.bits (t:Int) &&& BitVec.ofInt IntKind.i64.bits 255).toNat:Int)=((t%256:Nat):Int):=by
 have e:(BitVec.ofInt IntKind.i64.bits (t:Int) &&& BitVec.ofInt IntKind.i64.bits 255).toNat=t%256:=by
  show(BitVec.ofInt 64 (t:Int) &&& BitVec.ofInt 64 ((255:Nat):Int)).toNat=t%256;rw [BitVec.toNat_and,dB (show t < 2^64 by omega),dB (by decide)];exact Nat.and_two_pow_sub_one_eq_mod t 8
 rw [e,wrap64 (by omega) (by omega)]
def CC:List PV->Option Ans
 |[.val (.string b),.val (.string c)]=>some ⟨some (b.size<=17179869184/\c.size<=17179869184),.val (.string (ah (bv b*bv c))),[]⟩
 |_=>none
theorem Fb:am {} Tryz.f233 2=true:=by kernel_rfl
theorem f233:FnOk Tryz.prog 233 CC:=by
 refine FnOk.ofW aj (an (l:=[(248,rz)]) (own:=[]) (inl:=[]) (by simp [f248]) (by simp)) Tryz.func233 {} 2 Fb λargs r e=>?_;unfold CC at e;split at e
 ·rename_i b c
  cases e;refine⟨by simp,λhm=>?_⟩;obtain⟨hb,hc⟩:=hm _ rfl;refine⟨[],aa [(0,.val (.string b)),(1,.val (.string c))] [] 0 [],Wo trivial ⟨rfl,rfl,qQ⟩ trivial,?_⟩;have hsb:=bg b;have hsc:=bg c;have hN:=bK b;have hM:=bK c;obtain⟨la,hla⟩:∃n:Nat,n=b.size:=⟨_,rfl⟩;obtain⟨lb,hlb⟩:∃n:Nat,n=c.size:=⟨_,rfl⟩;obtain⟨n,hn⟩:∃n:Nat,n=la+lb:=⟨_,rfl⟩;have hnm:IntKind.i64.wrap (((b.size:Nat):Int)+((c.size:Nat):Int))=((n:Nat):Int):=by rw [wrap64 (by omega) (by omega)];omega
  with_unfolding_all refine⟨⟨by rw [hnm];omega,by omega,by rw [hnm];omega,by rw [hnm];show(8:Int)*(n:Nat)<=_;omega⟩,?_⟩
  rw [hnm];obtain⟨N,hNe⟩:∃N,N=bv b:=⟨_,rfl⟩;obtain⟨M,hMe⟩:∃M,M=bv c:=⟨_,rfl⟩;rw [<-hNe,<-hla] at hN;rw [<-hMe,<-hlb] at hM;have hbx:∀i:Nat,i < la->(b.data.toList[la - 1 - i]?.getD 0).toNat=N / 256^i%256:=λi hi=>by
   rw [hla,hsb,hNe];exact gw (by omega)
  have hcx:∀i:Nat,i < lb->(c.data.toList[lb - 1 - i]?.getD 0).toNat=M / 256^i%256:=λi hi=>by
   rw [hlb,hsc,hMe];exact gw (by omega)
  have hdn:bv b*bv c=N*M:=by rw [hNe,hMe]
  rw [hdn];have hlt:N*M < 256^n:=by rw [hn,Nat.pow_add];exact Nat.mul_lt_mul'' hN hM
  with_unfolding_all refine⟨Nat,λi=>i<=la,λi=>aa [(0,.val (.string b)),(1,.val (.string c)),(5,.sl 0 0 0 n),(6,.val (.int .i64 ((la:Int) - 1 - i)))] [⟨3,1,0,false,false,n,jj (N%256^i*M) n⟩] 1 [],λi=>la - i,
   ⟨0,[some 0],Nat.zero_le _,Wo ⟨qZ (λi hi=>?_),qQ⟩ ⟨rfl,rfl,pP,?_,qQ⟩ trivial⟩,λi hi=>⟨λh1=>?_,λh1=>?_⟩⟩
  ·show jj _ n i=[PV.val (.int .i64 0)];simp [jj,Nat.mod_one]
  ·show PV.val (.int .i64 (IntKind.i64.wrap (((b.size:Nat):Int) - 1)))=PV.val (.int .i64 ((la:Int) - 1 - ((0:Nat):Int)));rw [wrap64 (by omega) (by omega)];exact congrArg (λx=>PV.val (.int .i64 x)) (by omega)
  ·replace hi:i<=la:=hi;have h1:=of_decide_eq_true h1;have hil:i < la:=by omega
   have hx:=Nat.mod_lt (N / 256^i) (show 0 < 256 by decide);have hA:N%256^i*M < 256^(i+lb):=by
    rw [Nat.pow_add];exact Nat.mul_lt_mul'' (Nat.mod_lt _ (p8 i)) hM
   have hend:=E9 N M i lb hM;have hV:N%256^(i+1)*M < 256^(i+lb+1):=by
    rw [show i+lb+1=(i+1)+lb by omega,Nat.pow_add _ (i+1) lb];exact Nat.mul_lt_mul'' (Nat.mod_lt _ (p8 _)) hM
   have hbi:(b.data.toList[((la:Int) - 1 - i).toNat]?.getD 0).toNat=N / 256^i%256:=by
    rw [show((la:Int) - 1 - i).toNat=la - 1 - i by omega];exact hbx i hil
   generalize hAe:N%256^i*M=A at *
   with_unfolding_all refine⟨Nat,λk=>k<=lb,λk=>aa [(0,.val (.string b)),(1,.val (.string c)),(5,.sl 0 0 0 n),(6,.val (.int .i64 ((la:Int) - 1 - i))),(7,.val (.int .i64 (uC A (N / 256^i%256) M i k:Nat))),(8,.val (.int .i64 ((lb:Int) - 1 - k)))] [⟨3,1,0,false,false,n,jj (uW A (N / 256^i%256) M i k) n⟩] 1 [],λk=>lb - k,
    ⟨0,[some 0],Nat.zero_le _,Wo ⟨qZ (λj hj=>?_),qQ⟩ ⟨rfl,rfl,pP,rfl,?_,?_,qQ⟩ trivial⟩,λk hk=>⟨λh2=>?_,λh2=>?_⟩⟩
   ·rw [Ae]
   ·rw [Ad];rfl
   ·show PV.val (.int .i64 (IntKind.i64.wrap (((c.size:Nat):Int) - 1)))=PV.val (.int .i64 ((lb:Int) - 1 - ((0:Nat):Int)));rw [wrap64 (by omega) (by omega)];exact congrArg (λx=>PV.val (.int .i64 x)) (by omega)
   ·replace hk:k<=lb:=hk;have h2:=of_decide_eq_true h2;have hkl:k < lb:=by omega
    have hci:(c.data.toList[((lb:Int) - 1 - k).toNat]?.getD 0).toNat=M / 256^k%256:=by
     rw [show((lb:Int) - 1 - k).toNat=lb - 1 - k by omega];exact hcx k hkl
    have hy:=Nat.mod_lt (M / 256^k) (show 0 < 256 by decide);have ha:=Nat.mod_lt (A / 256^(i+k)) (show 0 < 256 by decide);have hcl:=Bm (A:=A) (M:=M) (i:=i) (k:=k) hx;have hxy:N / 256^i%256*(M / 256^k%256)<=255*255:=Nat.mul_le_mul (by omega) (by omega);have hix:IntKind.i64.wrap (IntKind.i64.wrap ((la:Int) - 1 - i+((lb:Int) - 1 - k))+1)=((n - 1 - (i+k):Nat):Int):=by
     rw [wrap64 (x:=(la:Int) - 1 - i+((lb:Int) - 1 - k)) (by omega) (by omega),wrap64 (by omega) (by omega)];omega
    have hlimb:uW A (N / 256^i%256) M i k / 256^(i+k)%256=A / 256^(i+k)%256:=by rw [pm,if_neg (by omega)]
    have hcar:=Af A (N / 256^i%256) M i k;have hset:=λj (hj:j < n)=>wS A (N / 256^i%256) M i k n j hj (by omega) (v:=IntKind.i64.wrap ((BitVec.ofInt IntKind.i64.bits ((uC A (N / 256^i%256) M i k+N / 256^i%256*(M / 256^k%256)+A / 256^(i+k)%256:Nat):Int) &&& BitVec.ofInt IntKind.i64.bits 255).toNat:Int)) (CB (by omega));have hword:IntKind.i64.wrap (((uC A (N / 256^i%256) M i k:Nat):Int)+IntKind.i64.wrap (((uW A (N / 256^i%256) M i k / 256^(n - 1 - (0+(IntKind.i64.wrap (IntKind.i64.wrap ((la:Int) - 1 - i+((lb:Int) - 1 - k))+1)).toNat))%256:Nat):Int)+IntKind.i64.wrap (IntKind.i64.wrap (((b.data.toList[((la:Int) - 1 - i).toNat]?.getD 0).toNat:Nat):Int)*IntKind.i64.wrap (((c.data.toList[((lb:Int) - 1 - k).toNat]?.getD 0).toNat:Nat):Int))))
      = ((uC A (N / 256^i%256) M i k+N / 256^i%256*(M / 256^k%256)+A / 256^(i+k)%256:Nat):Int):=by
     rw [hix,Nat.zero_add,Int.toNat_natCast,show n - 1 - (n - 1 - (i+k))=i+k by omega,hlimb,hbi,hci];rw [wrap64 (x:=((N / 256^i%256:Nat):Int)) (by omega) (by omega),wrap64 (x:=((M / 256^k%256:Nat):Int)) (by omega) (by omega),<-Int.natCast_mul];generalize N / 256^i%256*(M / 256^k%256)=p at *
     rw [wrap64 (x:=(p:Int)) (by omega) (by omega),wrap64 (x:=((A / 256^(i+k)%256:Nat):Int)+(p:Int)) (by omega) (by omega),wrap64 (by omega) (by omega)];omega
    generalize hte:uC A (N / 256^i%256) M i k+N / 256^i%256*(M / 256^k%256)+A / 256^(i+k)%256=t at *
    with_unfolding_all refine⟨⟨by rw [hix];omega,by rw [hix];omega⟩,⟨by omega,by omega⟩,⟨by omega,by omega⟩,⟨by rw [hix];omega,by rw [hix];omega⟩,by decide,k+1,[some 0],?_,?_,Wo ⟨qZ (λj hj=>?_),qQ⟩ ⟨rfl,rfl,pP,rfl,?_,?_,qQ⟩ trivial⟩
    ·exact hkl
    ·show lb - (k+1) < lb - k;omega
    ·have hj:j < n:=hj;have key:∀word idx:Int,word=(t:Nat)->idx=((n - 1 - (i+k):Nat):Int)->jj (uW A (N / 256^i%256) M i (k+1)) n j=if j=0+idx.toNat then [PV.val (.int .i64 (IntKind.i64.wrap ((BitVec.ofInt IntKind.i64.bits word &&& BitVec.ofInt IntKind.i64.bits 255).toNat:Int)))] else jj (uW A (N / 256^i%256) M i k) n j:=λword idx h3 h4=>by
      rw [h3,h4,Int.toNat_natCast,Nat.zero_add,hset j hj]
     exact key _ _ hword hix
    ·have key:∀word:Int,word=(t:Nat)->PV.val (.int .i64 (word / 2^8))=PV.val (.int .i64 (uC A (N / 256^i%256) M i (k+1):Nat)):=λword h3=>by
      rw [h3,<-hcar];rfl
     exact key _ hword
    ·show PV.val (.int .i64 (IntKind.i64.wrap ((lb:Int) - 1 - k - 1)))=PV.val (.int .i64 ((lb:Int) - 1 - ((k+1:Nat):Int)));rw [wrap64 (by omega) (by omega)];exact congrArg (λx=>PV.val (.int .i64 x)) (by omega)
   ·replace hk:k<=lb:=hk;have h2:=of_decide_eq_false h2;obtain rfl:k=lb:=by omega
    have hcl:=Bm (A:=A) (M:=M) (i:=i) (k:=k) hx;have h0:uW A (N / 256^i%256) M i k / 256^(i+k)%256=0:=by rw [pm,if_neg (by omega),Cz hA (Nat.le_refl _)]
    have hlast:=λj (hj:j < n)=>wT A (N / 256^i%256) M i k n j hj (by omega) hA (by rw [hend];exact hV) (v:=((uC A (N / 256^i%256) M i k:Nat):Int)) rfl;with_unfolding_all refine⟨⟨by omega,by omega⟩,⟨by omega,by omega⟩,i+1,[some 0],?_,?_,Wo ⟨qZ (λj hj=>?_),qQ⟩ ⟨rfl,rfl,pP,?_,qQ⟩ trivial⟩
    ·exact hil
    ·show la - (i+1) < la - i;omega
    ·have hj:j < n:=hj;have key:∀word idx:Int,word=(uC A (N / 256^i%256) M i k:Nat)->idx=((n - 1 - (i+k):Nat):Int)->jj (N%256^(i+1)*M) n j=if j=0+idx.toNat then [PV.val (.int .i64 word)] else jj (uW A (N / 256^i%256) M i k) n j:=λword idx h3 h4=>by
      rw [h3,h4,Int.toNat_natCast,Nat.zero_add,<-hend,hlast j hj]
     refine key (IntKind.i64.wrap (((uW A (N / 256^i%256) M i k / 256^(n - 1 - (0+((la:Int) - 1 - i).toNat))%256:Nat):Int)+((uC A (N / 256^i%256) M i k:Nat):Int))) ((la:Int) - 1 - i) ?_ (by omega);rw [show n - 1 - (0+((la:Int) - 1 - i).toNat)=i+k by omega,h0,wrap64 (by omega) (by omega)];omega
    ·show PV.val (.int .i64 (IntKind.i64.wrap ((la:Int) - 1 - i - 1)))=PV.val (.int .i64 ((la:Int) - 1 - ((i+1:Nat):Int)));rw [wrap64 (by omega) (by omega)];exact congrArg (λx=>PV.val (.int .i64 x)) (by omega)
  ·replace hi:i<=la:=hi;have h1:=of_decide_eq_false h1;obtain rfl:i=la:=by omega
   rw [Nat.mod_eq_of_lt hN];with_unfolding_all refine⟨⟨by omega,by omega,by omega,by show(1:Int)*(n:Nat)<=_;omega⟩,Nat,λk=>k<=n,λk=>aa [(5,.sl 0 0 0 n),(9,.sl 1 1 0 n),(10,.val (.int .i64 k))] [⟨3,1,0,false,false,n,jj (N*M) n⟩,⟨5,1,1,false,false,n,λj=>if j < k then bd (N*M) n j else [.val (.int .u8 0)]⟩] 2 [],λk=>n - k,
    ⟨0,[some 0,some 1],Nat.zero_le _,Wo ⟨qZ (λj hj=>rfl),qZ (λj hj=>?_),qQ⟩ ⟨pP,pP,rfl,qQ⟩ trivial⟩,λk hk=>⟨λh2=>?_,λh2=>?_⟩⟩
   ·show(if j < 0 then bd (N*M) n j else [PV.val (.int .u8 0)])=[PV.val (.int .u8 0)];rw [if_neg (by omega)]
   ·have h2:=of_decide_eq_true h2;have hkn:k < n:=by omega
    with_unfolding_all refine⟨⟨by omega,by omega⟩,⟨by omega,by omega⟩,k+1,[some 0,some 1],?_,?_,Wo ⟨qZ (λj hj=>rfl),qZ (λj hj=>?_),qQ⟩ ⟨pP,pP,?_,qQ⟩ trivial⟩
    ·exact hkn
    ·show n - (k+1) < n - k;omega
    ·have hd:=Nat.mod_lt (N*M / 256^(n - 1 - (0+(k:Int).toNat))) (show 0 < 256 by decide);show(if j < k+1 then bd (N*M) n j else [PV.val (.int .u8 0)])=if j=0+(k:Int).toNat then [PV.val (.int .u8 (IntKind.u8.wrap ((N*M / 256^(n - 1 - (0+(k:Int).toNat))%256:Nat):Int)))] else if j < k then bd (N*M) n j else [PV.val (.int .u8 0)]
     rw [Int.toNat_natCast,Nat.zero_add] at *
     rcases Nat.lt_trichotomy j k with h3|h3|h3
     ·rw [if_pos (by omega),if_neg (by omega),if_pos h3]
     ·rw [if_pos (by omega),if_pos h3,cE,h3];simp only [bd];exact congrArg (λx=>[PV.val (.int .u8 x)]) (by omega)
     ·rw [if_neg (by omega),if_neg (by omega),if_neg (by omega)]
    ·show PV.val (.int .i64 (IntKind.i64.wrap ((k:Int)+1)))=PV.val (.int .i64 ((k+1:Nat):Int));rw [wrap64 (by omega) (by omega)];rfl
   ·have h2:=of_decide_eq_false h2;replace hk:k<=n:=hk;obtain rfl:k=n:=by omega
    have hv:bv (dg k (λj=>if 0+j < k then bd (N*M) k (0+j) else [PV.val (.int .u8 0)]))=N*M:=by
     rw [ey (λi _=>by rw [if_pos (by omega),Nat.zero_add]),Nat.mod_eq_of_lt hlt]
    with_unfolding_all refine⟨λi hi=>?_,[],aa [(4,.val (.string (ah (N*M))))] [] 0 [],Wo trivial ⟨congrArg (λx=>PV.val (.string (ah x))) hv,qQ⟩ trivial,rfl,rfl⟩
    show ∃q:Int,(if 0+i < k then bd (N*M) k (0+i) else [PV.val (.int .u8 0)])=[PV.val (.int .u8 q)];split
    ·exact⟨_,rfl⟩
    ·exact⟨_,rfl⟩
 ·cases e
theorem Aj {p x M:Nat} (hM:0 < M) (hx:x < 256):(p*256+x)%M=(p%M*256+x)%M/\(p*256+x) / M%256=(p%M*256+x) / M/\p%M*256+x < M*256:=by
 have h1:=Nat.div_add_mod p M;have h2:=Nat.mod_lt p hM;generalize p / M=q at *
 generalize p%M=r at *
 have e:p*256+x=(r*256+x)+M*(q*256):=by rw [<-h1,Nat.add_mul,Nat.mul_assoc];omega
 have hl:r*256+x < M*256:=by omega
 have hd:(r*256+x) / M < 256:=by rw [Nat.div_lt_iff_lt_mul hM];omega
 rw [e,Nat.add_mul_mod_self_left,Nat.add_mul_div_left _ _ hM];refine⟨rfl,?_,hl⟩;generalize (r*256+x) / M=f at *
 omega
theorem yA (R:Nat) {P:Nat} (hP:0 < P):(P<=R%(P*2)->R%(P*2) - P=R%P/\R / (P*2)*2+1=R / P)/\(R%(P*2) < P->R%(P*2)=R%P/\R / (P*2)*2=R / P):=by
 have h1:R%(P*2)=R%P+P*(R / P%2):=Nat.mod_mul;have h2:R / (P*2)=R / P / 2:=(Nat.div_div_eq_div_mul R P 2).symm;have h3:=Nat.mod_lt R hP;rcases Nat.mod_two_eq_zero_or_one (R / P) with h|h
 ·rw [h,Nat.mul_zero,Nat.add_zero] at h1;rw [h1,h2];exact⟨λh4=>by omega,λ_=>⟨rfl,by omega⟩⟩
 ·rw [h,Nat.mul_one] at h1;rw [h1,h2];exact⟨λ_=>⟨by omega,by omega⟩,λh4=>by omega⟩
theorem Ak {b:ByteArray} {i:Nat} (h:i < b.size) (r:ByteArray):bv (r++b.extract i (i+1))=bv r*256+bv b / 256^(b.size - 1 - i)%256:=by
 have hs:=bg b;have hx:(b.extract i (i+1)).data.toList=[b.data.toList[i]?.getD 0]:=by
  rw [ew,List.take_add_one,List.drop_append_of_le_length (by rw [List.length_take];omega)];rw [List.drop_eq_nil_of_le (by rw [List.length_take];omega),List.getElem?_eq_getElem (by omega)];rfl
 have hb:=gw (l:=b.data.toList) (k:=b.size - 1 - i) (by omega);rw [show b.data.toList.length - 1 - (b.size - 1 - i)=i by omega] at hb;have e:(r++b.extract i (i+1)).data.toList=r.data.toList++[b.data.toList[i]?.getD 0]:=by
  rw [ByteArray.data_append,Array.toList_append,hx]
 unfold bv;rw [e,gn,<-hb];simp [c8]
theorem dy:ah 0=(⟨#[]⟩:ByteArray):=by simp [ah,cY]
def Al:List PV->Option Ans
 |[.val (.string b),.val (.string c)]=>some ⟨some ((fe c.data.toList=true/\bv c≠0)/\b.size<=8589934592/\c.size<=8589934592),.val (.tuple ⟨[.string (ah (bv b / bv c)),.string (ah (bv b%bv c))]⟩),[]⟩
 |_=>none
def D249:Opt:={ perm:=jm 6 (rds 9++[(9,false)]),join:=ez [17] }
theorem Fc:am D249.toOrd Tryz.f249 2=true:=by kernel_rfl
theorem f249:FnOk Tryz.prog 249 Al:=by
 refine FnOk.ofW aj (an (l:=[(245,Ac),(248,rz),(231,yw),(246,Ai)]) (own:=[]) (inl:=[]) (by simp [f245,f248,f231,f246]) (by simp)) Tryz.func249 D249 2 Fc λargs r e=>?_;unfold Al at e;split at e
 ·rename_i b c
  cases e;refine⟨by simp,λhm=>?_⟩;obtain⟨⟨hl,hz⟩,hb,hc⟩:=hm _ rfl;refine⟨[],aa [(0,.val (.string b)),(1,.val (.string c))] [] 0 [],Wo trivial ⟨rfl,rfl,qQ⟩ trivial,?_⟩;have hsb:=bg b;have hsc:=bg c;have hN:=bK b;have hM:=bK c;have hcc:ah (bv c)=c:=kR hl;obtain⟨N,hNe⟩:∃N,N=bv b:=⟨_,rfl⟩;obtain⟨M,hMe⟩:∃M,M=bv c:=⟨_,rfl⟩;rw [<-hNe] at hN ⊢;rw [<-hMe] at hM hz hcc ⊢;have hsz:∀k:Nat,k<=8->(ah (M*2^k)).size<=c.size+1:=λk hk=>by
   refine aY ?_;have:(2:Nat)^k<=2^8:=Nat.pow_le_pow_right (by decide) hk;rw [Nat.pow_succ];exact Nat.lt_of_le_of_lt (Nat.mul_le_mul_left M this) (by omega)
  have hmod:∀k:Nat,k<=8->∀x:Nat,(ah (x%(M*2^k))).size<=c.size+1:=λk hk x=>by
   refine aY ?_;have:(2:Nat)^k<=2^8:=Nat.pow_le_pow_right (by decide) hk;have h2:=Nat.mul_le_mul_left M this;have h3:=Nat.mod_lt x (show 0 < M*2^k from Nat.mul_pos (by omega) (Nat.pow_pos (by decide)));rw [Nat.pow_succ];omega
  with_unfolding_all refine⟨⟨by omega,by omega⟩,Nat,λi=>1<=i/\i<=8,λi=>aa [(0,.val (.string b)),(1,.val (.string c)),(6,.ptr 0 0 0 0),(7,.val (goInt i))] [⟨247,1,0,false,true,8,λj=>[.val (.string (if j < i then ah (M*2^j) else⟨#[]⟩))]⟩] 1 [],λi=>8 - i,⟨1,[some 0],⟨Nat.le_refl _,by decide⟩,Wo ⟨qZ (λj hj=>?_),qQ⟩ ⟨rfl,rfl,pP,rfl,qQ⟩ trivial⟩,λi hi=>⟨λh1=>?_,λh1=>?_⟩⟩
  ·have hj:j < 8:=hj
   match j,hj with
   |0,_=>exact(congrArg (λx=>[PV.val (.string x)]) (show ah (M*2^0)=c by rw [Nat.pow_zero,Nat.mul_one,hcc]))
   |1,_=>rfl
   |2,_=>rfl
   |3,_=>rfl
   |4,_=>rfl
   |5,_=>rfl
   |6,_=>rfl
   |7,_=>rfl
   |j+8,h=>omega
  ·obtain⟨hi1,hi2⟩:1<=i/\i<=8:=hi;have h1:=of_decide_eq_true h1;have hi8:i < 8:=by omega
   have wi:(IntKind.i64.wrap ((i:Int) - 1))=((i - 1:Nat):Int):=by rw [wrap64 (by omega) (by omega)];omega
   have hsi:=hsz (i - 1) (by omega);have e:(if (IntKind.i64.wrap ((i:Int) - 1)).toNat < i then ah (M*2^(IntKind.i64.wrap ((i:Int) - 1)).toNat) else(⟨#[]⟩:ByteArray))=ah (M*2^(i - 1)):=by
    rw [wi,Int.toNat_natCast,if_pos (by omega)]
   with_unfolding_all refine⟨⟨by rw [wi];omega,by rw [wi];omega⟩,⟨by rw [wi];omega,by rw [wi];omega⟩,⟨by rw [e];omega,by rw [e];omega⟩,⟨by omega,by omega⟩,i+1,[some 0],⟨by omega,hi8⟩,by show 8 - (i+1) < 8 - i;omega,Wo ⟨qZ (λj hj=>?_),qQ⟩ ⟨rfl,rfl,pP,?_,qQ⟩ trivial⟩
   ·have key:∀s:ByteArray,s=ah (M*2^(i - 1))->[PV.val (.string (if j < i+1 then ah (M*2^j) else⟨#[]⟩))]=if j=(i:Int).toNat then [PV.val (.string (ah (bv s+bv s)))] else [PV.val (.string (if j < i then ah (M*2^j) else⟨#[]⟩))]:=λs hs=>by
     rw [hs,aH,Int.toNat_natCast];rcases Nat.lt_trichotomy j i with h3|h3|h3
     ·rw [if_pos (by omega),if_neg (by omega),if_pos h3]
     ·obtain⟨d,rfl⟩:∃d,i=d+1:=⟨i - 1,by omega⟩;rw [if_pos (by omega),if_pos h3,h3,Nat.add_sub_cancel,Nat.pow_succ,<-Nat.two_mul,Nat.mul_comm 2,Nat.mul_assoc]
     ·rw [if_neg (by omega),if_neg (by omega),if_neg (by omega)]
    exact key _ e
   ·show PV.val (.int .i64 (IntKind.i64.wrap ((i:Int)+1)))=PV.val (.int .i64 ((i+1:Nat):Int));rw [wrap64 (by omega) (by omega)];rfl
  ·obtain⟨hi1,hi2⟩:1<=i/\i<=8:=hi;have h1:=of_decide_eq_false h1;obtain rfl:i=8:=by omega
   obtain⟨n,hn⟩:∃n:Nat,n=b.size:=⟨_,rfl⟩;with_unfolding_all refine⟨⟨by omega,by omega,by omega,by show(1:Int)*(b.size:Nat)<=_;omega⟩,Nat,λi=>i<=n,λi=>aa [(0,.val (.string b)),(6,.ptr 0 0 0 0),(8,.sl 1 1 0 n),(9,.val (.string (ah (N / 256^(n - i)%M)))),(10,.val (goInt i))] [⟨247,1,0,false,true,8,λj=>[.val (.string (ah (M*2^j)))]⟩,⟨5,1,1,false,false,n,λj=>if j < i then bd (N / M) n j else [.val (.int .u8 0)]⟩] 2 [],λi=>n - i,
    ⟨0,[some 0,some 1],Nat.zero_le _,Wo ⟨qZ (λj hj=>?_),⟨aP rfl,rfl,rfl,rfl,rfl,hn,λj hj=>?_⟩,qQ⟩ ⟨rfl,pP,⟨rfl,rfl,?_,aP rfl,_,rfl⟩,?_,rfl,qQ⟩ trivial⟩,λi hi=>⟨λh2=>?_,λh2=>?_⟩⟩
   ·have hj:j < 8:=hj;show [PV.val (.string (ah (M*2^j)))]=[PV.val (.string (if j < 8 then ah (M*2^j) else⟨#[]⟩))];rw [if_pos hj]
   ·show(if j < 0 then bd (N / M) n j else [PV.val (.int .u8 0)])=[PV.val (.int .u8 0)];rw [if_neg (by omega)]
   ·exact hn.symm
   ·show PV.val (.string ⟨#[]⟩)=PV.val (.string (ah (N / 256^(n - 0)%M)));rw [Nat.sub_zero,Nat.div_eq_of_lt (by rw [hn];exact hN),Nat.zero_mod,dy]
   ·replace hi:i<=n:=hi;have h2:=bL h2;have hin:i < n:=by omega
    have hM0:0 < M:=by omega
    have wi:IntKind.i64.wrap ((i:Int)+1)=((i+1:Nat):Int):=by rw [wrap64 (by omega) (by omega)];rfl
    have hnx:=Ak (b:=b) (i:=i) (by omega) (ah (N / 256^(n - i)%M));rw [aH,<-hNe,<-hn] at hnx;have hpx:N / 256^(n - (i+1))=N / 256^(n - i)*256+N / 256^(n - 1 - i)%256:=by
     obtain⟨k,rfl⟩:∃k,n=k+i+1:=⟨n - i - 1,by omega⟩;rw [show k+i+1 - (i+1)=k by omega,show k+i+1 - i=k+1 by omega,show k+i+1 - 1 - i=k by omega,Nat.pow_succ,<-Nat.div_div_eq_div_mul];omega
    have hdd:N / M / 256^(n - 1 - i)=N / 256^(n - (i+1)) / M:=by
     rw [Nat.div_div_eq_div_mul,Nat.div_div_eq_div_mul,Nat.mul_comm,show n - 1 - i=n - (i+1) by omega]
    have hx:=Nat.mod_lt (N / 256^(n - 1 - i)) (show 0 < 256 by decide);have hrs:=hmod 0 (by omega) (N / 256^(n - i));have hes:(b.extract i (i+1)).size<=1:=by
     rw [bg,ew,List.length_drop,List.length_take];omega
    rw [Nat.pow_zero,Nat.mul_one] at hrs;obtain⟨st1,st2,st3⟩:=Aj (p:=N / 256^(n - i)) hM0 hx;rw [<-hpx] at st1 st2;generalize N / 256^(n - i)%M*256+N / 256^(n - 1 - i)%256=R at *
    with_unfolding_all refine⟨⟨by omega,by rw [wi];omega,by rw [wi];omega⟩,?_,Nat,λj=>j<=8,λj=>aa [(0,.val (.string b)),(6,.ptr 0 0 0 0),(8,.sl 1 1 0 n),(9,.val (.string (ah (R%(M*2^(8 - j)))))),(10,.val (goInt i)),(11,.val (.int .i64 (R / (M*2^(8 - j))*2^(8 - j):Nat))),(12,.val (.int .i64 (7 - (j:Int))))] [⟨247,1,0,false,true,8,λj=>[.val (.string (ah (M*2^j)))]⟩,⟨5,1,1,false,false,n,λj=>if j < i then bd (N / M) n j else [.val (.int .u8 0)]⟩] 2 [],λj=>8 - j,
     ⟨0,[some 0,some 1],Nat.zero_le _,Wo ⟨qZ (λj hj=>rfl),qZ (λj hj=>rfl),qQ⟩ ⟨rfl,pP,pP,?_,rfl,?_,rfl,qQ⟩ trivial⟩,λj hj=>⟨λh3=>?_,λh3=>?_⟩⟩
    ·rw [wi];show(ah (N / 256^(n - i)%M)).size+(b.extract (i:Int).toNat (((i+1:Nat):Int)).toNat).size<=9223372036854775807;rw [Int.toNat_natCast,Int.toNat_natCast];omega
    ·have key:∀z:Int,z=((i+1:Nat):Int)->PV.val (.string (ah (bv (ah (N / 256^(n - i)%M)++b.extract (i:Int).toNat z.toNat))))=PV.val (.string (ah (R%(M*2^(8 - 0))))):=λz hz=>by
      rw [hz,Int.toNat_natCast,Int.toNat_natCast,hnx,Nat.mod_eq_of_lt (show R < M*2^(8 - 0) from st3)]
     exact key _ wi
    ·show PV.val (.int .i64 0)=PV.val (.int .i64 ((R / (M*2^(8 - 0))*2^(8 - 0):Nat):Int));rw [Nat.div_eq_of_lt (show R < M*2^(8 - 0) from st3),Nat.zero_mul];rfl
    ·replace hj:j<=8:=hj;have h3:0<=7 - (j:Int):=by have:=of_decide_eq_true h3;omega
     have hk:(7 - (j:Int)).toNat=7 - j:=by omega
     have hP:0 < M*2^(7 - j):=Nat.mul_pos hM0 (Nat.pow_pos (by decide));have hP2:M*2^(8 - j)=M*2^(7 - j)*2:=by rw [show 8 - j=7 - j+1 by omega,Nat.pow_succ,<-Nat.mul_assoc]
     have hbs:=yA R hP;rw [<-hP2] at hbs;have hd1:R / (M*2^(8 - j))*2^(8 - j)=R / (M*2^(8 - j))*2*2^(7 - j):=by rw [show 8 - j=7 - j+1 by omega,Nat.pow_succ,Nat.mul_assoc,Nat.mul_comm 2]
     have hdl:R / (M*2^(7 - j))*2^(7 - j) < 256:=by
      have h4:R / (M*2^(7 - j))*2^(7 - j)<=R / M:=by
       rw [<-Nat.div_div_eq_div_mul];exact Nat.div_mul_le_self _ _
      have h5:R / M < 256:=by rw [Nat.div_lt_iff_lt_mul hM0];omega
      omega
     have hp7:(2:Nat)^(7 - j)<=2^7:=Nat.pow_le_pow_right (by decide) (by omega);have hz1:=hsz (7 - j) (by omega);have hz2:=hmod (8 - j) (by omega) R;have w7:IntKind.i64.wrap (7 - (j:Int) - 1)=7 - ((j+1:Nat):Int):=by rw [wrap64 (by omega) (by omega)];omega
     have wu:(IntKind.u64.wrap (7 - (j:Int)))=((7 - j:Nat):Int):=by rw [show 7 - (j:Int)=((7 - j:Nat):Int) by omega,aU (by omega)]
     have h87:8 - (j+1)=7 - j:=by omega
     with_unfolding_all refine⟨⟨h3,by omega⟩,⟨cA _,cA _⟩,λh4=>⟨⟨h3,by omega⟩,⟨?_,by omega,by rw [hk];omega⟩,by rw [wu];omega,j+1,[some 0,some 1],by show j+1<=8;omega,by show 8 - (j+1) < 8 - j;omega,Wo ⟨qZ (λj hj=>rfl),qZ (λj hj=>rfl),qQ⟩ ⟨rfl,pP,pP,?_,rfl,?_,congrArg (λx=>PV.val (.int .i64 x)) w7,qQ⟩ trivial⟩,λh4=>⟨j+1,[some 0,some 1],by show j+1<=8;omega,by show 8 - (j+1) < 8 - j;omega,Wo ⟨qZ (λj hj=>rfl),qZ (λj hj=>rfl),qQ⟩ ⟨rfl,pP,pP,?_,rfl,?_,congrArg (λx=>PV.val (.int .i64 x)) w7,qQ⟩ trivial⟩⟩
     ·have h5:=of_decide_eq_true h4;rw [aH,aH,hk] at h5 ⊢;have:=mt ji.2 (show ¬cl (R%(M*2^(8 - j))) (M*2^(7 - j)) < 0 by omega);omega
     ·have h5:=of_decide_eq_true h4;rw [aH,aH,hk] at h5;have h6:M*2^(7 - j)<=R%(M*2^(8 - j)):=by
       have:=mt ji.2 (show ¬cl (R%(M*2^(8 - j))) (M*2^(7 - j)) < 0 by omega);omega
      have key:∀k:Nat,k=7 - j->PV.val (.string (ah (bv (ah (R%(M*2^(8 - j)))) - bv (ah (M*2^k)))))=PV.val (.string (ah (R%(M*2^(8 - (j+1)))))):=λk hk=>by
       rw [hk,aH,aH,(hbs.1 h6).1,h87]
      exact key _ hk
     ·have h5:=of_decide_eq_true h4;rw [aH,aH,hk] at h5;have h6:M*2^(7 - j)<=R%(M*2^(8 - j)):=by
       have:=mt ji.2 (show ¬cl (R%(M*2^(8 - j))) (M*2^(7 - j)) < 0 by omega);omega
      have key:∀w:Int,w=((7 - j:Nat):Int)->PV.val (.int .i64 (IntKind.i64.wrap (((R / (M*2^(8 - j))*2^(8 - j):Nat):Int)+IntKind.i64.wrap (1*2^min w.toNat IntKind.i64.bits))))=PV.val (.int .i64 ((R / (M*2^(8 - (j+1)))*2^(8 - (j+1)):Nat):Int)):=λw hw=>by
       have e2:(1:Int)*2^min w.toNat IntKind.i64.bits=((2^(7 - j):Nat):Int):=by
        rw [hw,Int.toNat_natCast,show min (7 - j) IntKind.i64.bits=7 - j from Nat.min_eq_left (by show 7 - j<=64;omega),Int.one_mul];simp
       have e3:R / (M*2^(8 - j))*2^(8 - j)+2^(7 - j)=R / (M*2^(7 - j))*2^(7 - j):=by
        rw [hd1,<-(hbs.1 h6).2,Nat.add_mul (R / (M*2^(8 - j))*2) 1,Nat.one_mul]
       rw [e2,h87,<-e3];rw [<-e3] at hdl;clear hd1 e2 e3 hbs;generalize R / (M*2^(8 - j))*2^(8 - j)=D at *
       generalize 2^(7 - j)=T at *
       rw [wrap64 (x:=(T:Int)) (by omega) (by omega),wrap64 (by omega) (by omega)];rfl
      exact key _ wu
     ·have h5:=of_decide_eq_false h4;rw [aH,aH,hk] at h5;have h6:R%(M*2^(8 - j)) < M*2^(7 - j):=ji.1 (by omega);show PV.val (.string (ah (R%(M*2^(8 - j)))))=PV.val (.string (ah (R%(M*2^(8 - (j+1))))));rw [(hbs.2 h6).1,h87]
     ·have h5:=of_decide_eq_false h4;rw [aH,aH,hk] at h5;have h6:R%(M*2^(8 - j)) < M*2^(7 - j):=ji.1 (by omega);show PV.val (.int .i64 ((R / (M*2^(8 - j))*2^(8 - j):Nat):Int))=PV.val (.int .i64 ((R / (M*2^(8 - (j+1)))*2^(8 - (j+1)):Nat):Int));rw [h87,hd1,(hbs.2 h6).2]
    ·replace hj:j<=8:=hj;have h3:=of_decide_eq_false h3;obtain rfl:j=8:=by omega
     have hq:R / (M*2^(8 - 8))*2^(8 - 8)=R / M:=by simp
     have hql:R / M < 256:=by rw [Nat.div_lt_iff_lt_mul hM0];omega
     with_unfolding_all refine⟨⟨by omega,by omega⟩,i+1,[some 0,some 1],by show i+1<=n;omega,by show n - (i+1) < n - i;omega,Wo ⟨qZ (λj hj=>rfl),qZ (λj hj=>?_),qQ⟩ ⟨rfl,pP,pP,?_,congrArg (λx=>PV.val (.int .i64 x)) wi,qQ⟩ trivial⟩
     ·show(if j < i+1 then bd (N / M) n j else [PV.val (.int .u8 0)])=if j=0+(i:Int).toNat then [PV.val (.int .u8 (IntKind.u8.wrap ((R / (M*2^(8 - 8))*2^(8 - 8):Nat):Int)))] else if j < i then bd (N / M) n j else [PV.val (.int .u8 0)]
      rw [hq,Nat.zero_add,Int.toNat_natCast];rcases Nat.lt_trichotomy j i with h4|h4|h4
      ·rw [if_pos (by omega),if_neg (by omega),if_pos h4]
      ·rw [if_pos (by omega),if_pos h4,h4,cE];simp only [bd];rw [hdd,st2];exact congrArg (λx=>[PV.val (.int .u8 x)]) (by omega)
      ·rw [if_neg (by omega),if_neg (by omega),if_neg (by omega)]
     ·show PV.val (.string (ah (R%(M*2^(8 - 8)))))=PV.val (.string (ah (N / 256^(n - (i+1))%M)));rw [st1];simp
   ·have h2:=dI h2;replace hi:i<=n:=hi;obtain rfl:i=n:=by omega
    have hQ:N / M < 256^i:=by
     have:=Nat.div_le_self N M;rw [hn];omega
    have hv:bv (dg i (λj=>if 0+j < i then bd (N / M) i (0+j) else [PV.val (.int .u8 0)]))=N / M:=by
     rw [ey (λk _=>by rw [if_pos (by omega),Nat.zero_add]),Nat.mod_eq_of_lt hQ]
    have hr:N / 256^(i - i)%M=N%M:=by simp
    with_unfolding_all refine⟨λk hk=>?_,[],aa [(4,.val (.string (ah (N / M)))),(5,.val (.string (ah (N%M))))] [] 0 [],Wo trivial ⟨congrArg (λx=>PV.val (.string (ah x))) hv,congrArg (λx=>PV.val (.string (ah x))) hr,qQ⟩ trivial,rfl,rfl⟩
    show ∃q:Int,(if 0+k < i then bd (N / M) i (0+k) else [PV.val (.int .u8 0)])=[PV.val (.int .u8 q)];split
    ·exact⟨_,rfl⟩
    ·exact⟨_,rfl⟩
 ·cases e
end Go.Proofs
namespace Go.Num
def c9 (k:Nat) (v:Value):Prop:=∃s b,v=.agg ⟨[.bool s,.string b]⟩/\b.size<=k
theorem u0 {a b:Nat} (h:(cl a b==0)=true):a=b:=by
 have h:=eq_of_beq h;unfold cl at h;split at h
 ·omega
 ·split at h<;>omega
theorem tO {a b:Nat} (h:decide (cl a b > 0)=true):b < a:=by
 have h:=of_decide_eq_true h;unfold cl at h;split at h
 ·omega
 ·split at h<;>omega
theorem po {a b:Nat} (h:decide (cl a b > 0)=false):a<=b:=by
 have h:=of_decide_eq_false h;unfold cl at h;split at h
 ·omega
 ·split at h<;>omega
theorem u7 {X Y:Int} (h:(decide (X < 0)==decide (Y < 0))=true):decide (X < 0)=decide (X+Y < 0)/\X.natAbs+Y.natAbs=(X+Y).natAbs:=by
 have h:=eq_of_beq h;rw [decide_eq_decide] at h;rw [decide_eq_decide];omega
theorem ku {X Y:Int} (h:(decide (X < 0)==decide (Y < 0))=false):¬(X < 0↔Y < 0):=λe=>by
 rw [decide_eq_decide.2 e,beq_self_eq_true] at h;cases h
end Go.Num
namespace Go.Proofs
def wU:List PV->Option Ans
 |[.val v,.val u]=>some ⟨some (c9 17179869184 v/\c9 17179869184 u),.val (ay (aJ v+aJ u)),[]⟩
 |_=>none
def D225:Opt:={ join:=ez [2],perm:=oM [(1,[(0,true),(2,true),(1,false),(3,false)]),(3,[(0,true),(2,true),(1,false),(3,false)]),(5,rds 6++[(6,false)]),(10,rds 6++[(6,false)]),(11,rds 6++[(6,false)])] }
theorem Ff:am D225.toOrd Tryz.f225 2=true:=by kernel_rfl
theorem f225:FnOk Tryz.prog 225 wU:=by
 refine FnOk.ofW aj (an (l:=[(230,tN),(232,Ab),(226,rC),(245,Ac),(231,yw),(246,Ai)]) (own:=[]) (inl:=[]) (by simp [f230,f232,f226,f245,f231,f246]) (by simp)) Tryz.func225 D225 2 Ff λargs r e=>?_;unfold wU at e;split at e
 ·rename_i v u
  cases e;refine⟨by simp,λhm=>?_⟩;obtain⟨⟨s,b,rfl,hb⟩,q,c,rfl,hc⟩:=hm _ rfl;refine⟨[],aa [(0,.val (.agg ⟨[.bool s,.string b]⟩)),(1,.val (.agg ⟨[.bool q,.string c]⟩))] [] 0 [],Wo trivial ⟨rfl,rfl,qQ⟩ trivial,?_⟩;have hXb:=bK b;have hYb:=bK c;have hX:(az s (bv b)).natAbs=bv b:=aI _ _;have hY:(az q (bv c)).natAbs=bv c:=aI _ _;have i1:eG (.agg ⟨[.bool s,.string b]⟩):=⟨_,_,rfl,by omega⟩;have i2:eG (.agg ⟨[.bool q,.string c]⟩):=⟨_,_,rfl,by omega⟩;have hxs:(ah (az s (bv b)).natAbs).size<=b.size:=aY (by rw [hX];exact hXb);have hys:(ah (az q (bv c)).natAbs).size<=c.size:=aY (by rw [hY];exact hYb);obtain⟨X,hXe⟩:∃X,X=az s (bv b):=⟨_,rfl⟩;obtain⟨Y,hYe⟩:∃Y,Y=az q (bv c):=⟨_,rfl⟩;have hrv:aJ (.agg ⟨[.bool s,.string b]⟩)=X:=hXe.symm;have hru:aJ (.agg ⟨[.bool q,.string c]⟩)=Y:=hYe.symm;rw [<-hXe] at hxs;rw [<-hYe] at hys;have z1:PV.val (.bool false)=PV.val (.bool (decide ((0:Int) < 0))):=rfl;have z2:PV.val (.string ⟨#[]⟩)=PV.val (.string (ah (0:Int).natAbs)):=by rw [show(0:Int).natAbs=0 from rfl,dy]
  rw [hrv,hru];clear hX hY;with_unfolding_all refine⟨i1,i2,?_⟩
  rw [hrv,hru];clear hrv hru hXe hYe i1 i2 hXb hYb;have hrx:aJ (.agg ⟨[.bool (decide (X < 0)),.string (ah X.natAbs)]⟩)=X:=av X;have hry:aJ (.agg ⟨[.bool (decide (Y < 0)),.string (ah Y.natAbs)]⟩)=Y:=av Y;have hn7:∀Z:Int,(ah Z.natAbs).size < 8->Z.natAbs < 72057594037927936:=λZ hz=>by
   have h1:=bK (ah Z.natAbs);rw [aH] at h1;have h2:256^(ah Z.natAbs).size<=256^7:=Nat.pow_le_pow_right (by decide) (by omega);omega
  with_unfolding_all refine⟨Unit,λ_=>True,λ_=>aa [(2,.ptr 0 0 0 0),(3,.ptr 1 1 0 0),(4,.ptr 2 2 0 0)] [a8 X 0,a8 Y 1,a8 0 2] 3 [],⟨λh1=>⟨λh2=>⟨?_,?_,?_,?_⟩,λh2=>⟨(),[some 0,some 1,some 2],trivial,Wo ⟨qJ,qJ,qZ ⟨⟨z1,rfl⟩,⟨z2,rfl⟩,qQ⟩,qQ⟩ ⟨pP,pP,pP,qQ⟩ trivial⟩⟩,λh1=>⟨λh2=>(nomatch h2),λh2=>⟨(),[some 0,some 1,some 2],trivial,Wo ⟨qJ,qJ,qZ ⟨⟨z1,rfl⟩,⟨z2,rfl⟩,qQ⟩,qQ⟩ ⟨pP,pP,pP,qQ⟩ trivial⟩⟩⟩,λ_ _=>?_⟩
  ·have h1:=of_decide_eq_true h1;exact⟨_,_,rfl,by omega⟩
  ·have h2:=of_decide_eq_true h2;exact⟨_,_,rfl,by omega⟩
  ·have h1:=hn7 X (by have:=of_decide_eq_true h1;omega);have h2:=hn7 Y (by have:=of_decide_eq_true h2;omega);have key:∀x y:Int,x=X->y=Y->(IntKind.i64.wrap (x+y)).natAbs < 4611686018427387904:=λx y hx hy=>by
    rw [hx,hy,wrap64 (by omega) (by omega)];omega
   exact key _ _ hrx hry
  ·have h1:=hn7 X (by have:=of_decide_eq_true h1;omega);have h2:=hn7 Y (by have:=of_decide_eq_true h2;omega);have key:∀x y:Int,x=X->y=Y->IntKind.i64.wrap (x+y)=X+Y:=λx y hx hy=>by
    rw [hx,hy,wrap64 (by omega) (by omega)]
   have hw:=key _ _ hrx hry;with_unfolding_all refine⟨[some 2],aa [(4,.ptr 0 0 0 0)] [a8 (X+Y) 0] 1 [],Wo ⟨qZ ⟨⟨congrArg (λz:Int=>PV.val (.bool (decide (z < 0)))) hw,rfl⟩,⟨congrArg (λz:Int=>PV.val (.string (ah z.natAbs))) hw,rfl⟩,qQ⟩,qQ⟩ ⟨pP,qQ⟩ trivial,rfl,rfl⟩
  ·with_unfolding_all refine⟨λh1=>⟨⟨by omega,by omega⟩,⟨[some 2],aa [(4,.ptr 0 0 0 0)] [a8 (X+Y) 0] 1 [],Wo ⟨qZ ⟨⟨congrArg (λz=>PV.val (.bool z)) (u7 h1).1,rfl⟩,⟨?_,rfl⟩,qQ⟩,qQ⟩ ⟨pP,qQ⟩ trivial,rfl,rfl⟩⟩,λh1=>⟨⟨cA _,cA _⟩,λh2=>⟨[some 2],aa [(4,.ptr 0 0 0 0)] [a8 (X+Y) 0] 1 [],Wo ⟨qZ ⟨⟨?_,rfl⟩,⟨?_,rfl⟩,qQ⟩,qQ⟩ ⟨pP,qQ⟩ trivial,rfl,rfl⟩,λh2=>⟨λh3=>⟨⟨?_,by omega,by omega⟩,⟨[some 2],aa [(4,.ptr 0 0 0 0)] [a8 (X+Y) 0] 1 [],Wo ⟨qZ ⟨⟨?_,rfl⟩,⟨?_,rfl⟩,qQ⟩,qQ⟩ ⟨pP,qQ⟩ trivial,rfl,rfl⟩⟩,λh3=>⟨⟨?_,by omega,by omega⟩,⟨[some 2],aa [(4,.ptr 0 0 0 0)] [a8 (X+Y) 0] 1 [],Wo ⟨qZ ⟨⟨?_,rfl⟩,⟨?_,rfl⟩,qQ⟩,qQ⟩ ⟨pP,qQ⟩ trivial,rfl,rfl⟩⟩⟩⟩⟩
   ·show PV.val (.string (ah (bv (ah X.natAbs)+bv (ah Y.natAbs))))=PV.val (.string (ah (X+Y).natAbs));rw [aH,aH,(u7 h1).2]
   ·have h4:=u0 h2;have h5:=ku h1;rw [aH,aH] at h4;show PV.val (.bool false)=PV.val (.bool (decide (X+Y < 0)));rw [decide_eq_false (by omega)]
   ·have h4:=u0 h2;have h5:=ku h1;rw [aH,aH] at h4;show PV.val (.string ⟨#[]⟩)=PV.val (.string (ah (X+Y).natAbs));rw [show(X+Y).natAbs=0 by omega,dy]
   ·have h4:=tO h3;omega
   ·have h4:=tO h3;have h5:=ku h1;rw [aH,aH] at h4;exact congrArg (λz=>PV.val (.bool z)) (decide_eq_decide.2 (by omega))
   ·have h4:=tO h3;have h5:=ku h1;show PV.val (.string (ah (bv (ah X.natAbs) - bv (ah Y.natAbs))))=PV.val (.string (ah (X+Y).natAbs));rw [aH,aH] at *
    exact congrArg (λz=>PV.val (.string (ah z))) (by omega)
   ·exact po h3
   ·have h4:=po h3;have h5:=ku h1;have h6:¬bv (ah X.natAbs)=bv (ah Y.natAbs):=λe=>by rw [e] at h2;simp [cl] at h2
    rw [aH,aH] at h4 h6;exact congrArg (λz=>PV.val (.bool z)) (decide_eq_decide.2 (by omega))
   ·have h4:=po h3;have h5:=ku h1;show PV.val (.string (ah (bv (ah Y.natAbs) - bv (ah X.natAbs))))=PV.val (.string (ah (X+Y).natAbs));rw [aH,aH] at *
    exact congrArg (λz=>PV.val (.string (ah z))) (by omega)
 ·cases e
end Go.Proofs
namespace Go.Num
theorem cV {n:Nat}:((ah n).toList==(⟨#[]⟩:ByteArray).toList)=decide (n=0):=by
 have h:=@numB_nil n;cases hc:((ah n).toList==(⟨#[]⟩:ByteArray).toList)
 ·rw [hc] at h;exact(decide_eq_false (of_decide_eq_true h.symm)).symm
 ·rw [hc] at h;have:=of_decide_eq_false h.symm;exact(decide_eq_true (by omega)).symm
theorem yB {Z:Int} (hz:(ah Z.natAbs).size < 8):Z.natAbs < 72057594037927936:=by
 have h1:=bK (ah Z.natAbs);rw [aH] at h1;have h2:256^(ah Z.natAbs).size<=256^7:=Nat.pow_le_pow_right (by decide) (by omega);omega
theorem bA {z:Int} {k n:Nat} (h:z.natAbs < 256^k) (hk:k<=n):c9 n (ay z):=⟨_,_,rfl,Nat.le_trans (aY h) hk⟩
end Go.Num
namespace Go.Proofs
def CD:List PV->Option Ans
 |[.val v,.val u]=>some ⟨some (c9 17179869184 v/\c9 17179869184 u),.val (ay (aJ v - aJ u)),[]⟩
 |_=>none
def D251:Opt:={ perm:=jm 1 (rds 2++[(2,false)]) }
theorem Fg:am D251.toOrd Tryz.f251 2=true:=by kernel_rfl
theorem f251:FnOk Tryz.prog 251 CD:=by
 refine FnOk.ofW aj (an (l:=[(227,yx),(225,wU)]) (own:=[]) (inl:=[]) (by simp [f227,f225]) (by simp)) Tryz.func251 D251 2 Fg λargs r e=>?_;unfold CD at e;split at e
 ·rename_i v u
  cases e;refine⟨by simp,λhm=>?_⟩;obtain⟨⟨s,b,rfl,hb⟩,q,c,rfl,hc⟩:=hm _ rfl;refine⟨[],aa [(0,.val (.agg ⟨[.bool s,.string b]⟩)),(1,.val (.agg ⟨[.bool q,.string c]⟩))] [] 0 [],Wo trivial ⟨rfl,rfl,qQ⟩ trivial,?_⟩;have hYb:=bK c;have hz:(-(az q (bv c))).natAbs < 256^c.size:=by rw [Int.natAbs_neg,aI];exact hYb
  have hw:az s (bv b)+aJ (ay (-(az q (bv c))))=az s (bv b) - az q (bv c):=by rw [av];omega
  with_unfolding_all refine⟨⟨_,_,rfl,by omega⟩,⟨⟨_,_,rfl,hb⟩,bA hz hc⟩,[some 2],aa [(4,.ptr 0 0 0 0)] [a8 (az s (bv b) - az q (bv c)) 0] 1 [],Wo ⟨qZ ⟨⟨congrArg (λz:Int=>PV.val (.bool (decide (z < 0)))) hw,rfl⟩,⟨congrArg (λz:Int=>PV.val (.string (ah z.natAbs))) hw,rfl⟩,qQ⟩,qQ⟩ ⟨pP,qQ⟩ trivial,rfl,rfl⟩
 ·cases e
def yC:List PV->Option Ans
 |[.val v,.val u]=>some ⟨some (c9 17179869184 v/\c9 17179869184 u),.val (ay (aJ v*aJ u)),[]⟩
 |_=>none
def D186:Opt:={ join:=ez [2],perm:=oM [(1,[(0,true),(2,true),(1,false),(3,false)]),(5,[(0,true),(2,true),(1,false),(3,false)]),(6,rds 9++[(9,false)])] }
theorem Fh:am D186.toOrd Tryz.f186 2=true:=by kernel_rfl
theorem f186:FnOk Tryz.prog 186 yC:=by
 refine FnOk.ofW aj (an (l:=[(230,tN),(232,Ab),(226,rC),(233,CC)]) (own:=[]) (inl:=[]) (by simp [f230,f232,f226,f233]) (by simp)) Tryz.func186 D186 2 Fh λargs r e=>?_;unfold yC at e;split at e
 ·rename_i v u
  cases e;refine⟨by simp,λhm=>?_⟩;obtain⟨⟨s,b,rfl,hb⟩,q,c,rfl,hc⟩:=hm _ rfl;refine⟨[],aa [(0,.val (.agg ⟨[.bool s,.string b]⟩)),(1,.val (.agg ⟨[.bool q,.string c]⟩))] [] 0 [],Wo trivial ⟨rfl,rfl,qQ⟩ trivial,?_⟩;have hXb:=bK b;have hYb:=bK c;have hX:(az s (bv b)).natAbs=bv b:=aI _ _;have hY:(az q (bv c)).natAbs=bv c:=aI _ _;have i1:eG (.agg ⟨[.bool s,.string b]⟩):=⟨_,_,rfl,by omega⟩;have i2:eG (.agg ⟨[.bool q,.string c]⟩):=⟨_,_,rfl,by omega⟩;have hxs:(ah (az s (bv b)).natAbs).size<=b.size:=aY (by rw [hX];exact hXb);have hys:(ah (az q (bv c)).natAbs).size<=c.size:=aY (by rw [hY];exact hYb);obtain⟨X,hXe⟩:∃X,X=az s (bv b):=⟨_,rfl⟩;obtain⟨Y,hYe⟩:∃Y,Y=az q (bv c):=⟨_,rfl⟩;have hrv:aJ (.agg ⟨[.bool s,.string b]⟩)=X:=hXe.symm;have hru:aJ (.agg ⟨[.bool q,.string c]⟩)=Y:=hYe.symm;rw [<-hXe] at hxs;rw [<-hYe] at hys;have z1:PV.val (.bool false)=PV.val (.bool (decide ((0:Int) < 0))):=rfl;have z2:PV.val (.string ⟨#[]⟩)=PV.val (.string (ah (0:Int).natAbs)):=by rw [show(0:Int).natAbs=0 from rfl,dy]
  rw [hrv,hru];clear hX hY;with_unfolding_all refine⟨i1,i2,?_⟩
  rw [hrv,hru];clear hrv hru hXe hYe i1 i2 hXb hYb;have hrx:aJ (.agg ⟨[.bool (decide (X < 0)),.string (ah X.natAbs)]⟩)=X:=av X;have hry:aJ (.agg ⟨[.bool (decide (Y < 0)),.string (ah Y.natAbs)]⟩)=Y:=av Y;with_unfolding_all refine⟨Unit,λ_=>X≠0/\Y≠0,λ_=>aa [(2,.ptr 0 0 0 0),(3,.ptr 1 1 0 0),(4,.ptr 2 2 0 0)] [a8 X 0,a8 Y 1,a8 0 2] 3 [],?_,λ_ hxy=>?_⟩
  ·with_unfolding_all refine⟨λh1=>⟨λh2=>⟨[some 2],aa [(4,.ptr 0 0 0 0)] [a8 (X*Y) 0] 1 [],Wo ⟨qZ ⟨⟨?_,rfl⟩,⟨?_,rfl⟩,qQ⟩,qQ⟩ ⟨pP,qQ⟩ trivial,rfl,rfl⟩,λh2=>⟨(),[some 0,some 1,some 2],?_,Wo ⟨qJ,qJ,qZ ⟨⟨z1,rfl⟩,⟨z2,rfl⟩,qQ⟩,qQ⟩ ⟨pP,pP,pP,qQ⟩ trivial⟩⟩,λh1=>⟨λh2=>⟨[some 2],aa [(4,.ptr 0 0 0 0)] [a8 (X*Y) 0] 1 [],Wo ⟨qZ ⟨⟨?_,rfl⟩,⟨?_,rfl⟩,qQ⟩,qQ⟩ ⟨pP,qQ⟩ trivial,rfl,rfl⟩,λh2=>(nomatch h2)⟩⟩
   ·rw [cV] at h2;have h2:=of_decide_eq_true h2;have e:X*Y=0:=by rw [Int.natAbs_eq_zero.1 h2,Int.mul_zero]
    rw [e];rfl
   ·rw [cV] at h2;have h2:=of_decide_eq_true h2;have e:X*Y=0:=by rw [Int.natAbs_eq_zero.1 h2,Int.mul_zero]
    rw [e];exact z2
   ·rw [cV] at h1 h2;have h1:=of_decide_eq_false h1;have h2:=of_decide_eq_false h2;exact⟨by omega,by omega⟩
   ·have h1:((ah X.natAbs).toList==(⟨#[]⟩:ByteArray).toList)=true:=h1;rw [cV] at h1;have h1:=of_decide_eq_true h1;have e:X*Y=0:=by rw [Int.natAbs_eq_zero.1 h1,Int.zero_mul]
    rw [e];rfl
   ·have h1:((ah X.natAbs).toList==(⟨#[]⟩:ByteArray).toList)=true:=h1;rw [cV] at h1;have h1:=of_decide_eq_true h1;have e:X*Y=0:=by rw [Int.natAbs_eq_zero.1 h1,Int.zero_mul]
    rw [e];exact z2
  ·obtain⟨hx0,hy0⟩:X≠0/\Y≠0:=hxy;have wl:IntKind.i64.wrap (((ah X.natAbs).size:Int)+((ah Y.natAbs).size:Int))=(((ah X.natAbs).size+(ah Y.natAbs).size:Nat):Int):=by rw [wrap64 (by omega) (by omega)];rfl
   have hb1:=bK (ah X.natAbs);have hb2:=bK (ah Y.natAbs);rw [aH] at hb1 hb2;have hsm:(ah X.natAbs).size+(ah Y.natAbs).size < 8->(X*Y).natAbs < 72057594037927936:=λh=>by
    rw [Int.natAbs_mul];have h2:256^((ah X.natAbs).size+(ah Y.natAbs).size)<=256^7:=Nat.pow_le_pow_right (by decide) (by omega);have h3:=Nat.mul_lt_mul'' hb1 hb2;rw [<-Nat.pow_add] at h3;omega
   have key:(ah X.natAbs).size+(ah Y.natAbs).size < 8->∀x y:Int,x=X->y=Y->IntKind.i64.wrap (x*y)=X*Y:=λh x y hx hy=>by
    have:=hsm h;rw [hx,hy,wrap64 (by omega) (by omega)]
   have hlt:decide (IntKind.i64.wrap (((ah X.natAbs).size:Int)+((ah Y.natAbs).size:Int)) < 8)=true->(ah X.natAbs).size+(ah Y.natAbs).size < 8:=λh=>by
    have:=of_decide_eq_true h;omega
   with_unfolding_all refine⟨λh1=>⟨⟨_,_,rfl,?_⟩,⟨_,_,rfl,?_⟩,?_,[some 2],aa [(4,.ptr 0 0 0 0)] [a8 (X*Y) 0] 1 [],Wo ⟨qZ ⟨⟨?_,rfl⟩,⟨?_,rfl⟩,qQ⟩,qQ⟩ ⟨pP,qQ⟩ trivial,rfl,rfl⟩,λh1=>⟨⟨by omega,by omega⟩,[some 2],aa [(4,.ptr 0 0 0 0)] [a8 (X*Y) 0] 1 [],Wo ⟨qZ ⟨⟨?_,rfl⟩,⟨?_,rfl⟩,qQ⟩,qQ⟩ ⟨pP,qQ⟩ trivial,rfl,rfl⟩⟩
   ·have:=hlt h1;omega
   ·have:=hlt h1;omega
   ·have e:=key (hlt h1) _ _ hrx hry;have h2:=hsm (hlt h1);have k2:∀z:Int,z=X*Y->z.natAbs < 4611686018427387904:=λz hz=>by rw [hz];omega
    exact k2 _ e
   ·exact congrArg (λz:Int=>PV.val (.bool (decide (z < 0)))) (key (hlt h1) _ _ hrx hry)
   ·exact congrArg (λz:Int=>PV.val (.string (ah z.natAbs))) (key (hlt h1) _ _ hrx hry)
   ·show PV.val (.bool (!(decide (X < 0)==decide (Y < 0))))=PV.val (.bool (decide (X*Y < 0)));refine congrArg (λz=>PV.val (.bool z)) ?_;rcases Int.lt_or_gt_of_ne hx0 with hx|hx<;>rcases Int.lt_or_gt_of_ne hy0 with hy|hy
    ·have:=Int.mul_pos_of_neg_of_neg hx hy;rw [decide_eq_true hx,decide_eq_true hy,decide_eq_false (by omega)];rfl
    ·have:=Int.mul_neg_of_neg_of_pos hx hy;rw [decide_eq_true hx,decide_eq_false (by omega),decide_eq_true this];rfl
    ·have:=Int.mul_neg_of_pos_of_neg hx hy;rw [decide_eq_false (by omega),decide_eq_true hy,decide_eq_true this];rfl
    ·have:=Int.mul_pos hx hy;rw [decide_eq_false (by omega),decide_eq_false (by omega),decide_eq_false (by omega)];rfl
   ·show PV.val (.string (ah (bv (ah X.natAbs)*bv (ah Y.natAbs))))=PV.val (.string (ah (X*Y).natAbs));rw [aH,aH,Int.natAbs_mul]
 ·cases e
def CE:List PV->Option Ans
 |[.val v,.val u]=>some ⟨some ((c9 8589934592 v/\c9 8589934592 u)/\0 < aJ u/\aJ u∣aJ v),.val (.tuple ⟨[ay (aJ v / aJ u),ay 0,.int .i64 0]⟩),[]⟩
 |_=>none
def D229:Opt:={ join:=ez [5,10],all:=jh [(17,.alt 0 (.alt 1 (OT.seq [2,3,4] .nil) (OT.seq [2,1,3,4] .nil)) (OT.seq [1,0,2,3,4] .nil))],perm:=oM [(1,[(0,true),(2,true),(1,false),(3,false)]),(6,[(0,true),(1,true),(3,true),(4,true),(2,false),(5,false)]),(7,[(0,true),(1,true),(2,true),(4,true),(5,true),(6,true),(3,false),(7,false)]),(13,[(0,true),(1,false),(2,false)])] }
theorem Fi:am D229.toOrd Tryz.f229 2=true:=by kernel_rfl
theorem f229:FnOk Tryz.prog 229 CE:=by
 refine FnOk.ofW aj (an (l:=[(230,tN),(250,yv),(226,rC),(249,Al),(227,yx),(251,CD)]) (own:=[]) (inl:=[]) (by simp [f230,f250,f226,f249,f227,f251]) (by simp)) Tryz.func229 D229 2 Fi λargs r e=>?_;unfold CE at e;split at e
 ·rename_i v u
  cases e;refine⟨by simp,λhm=>?_⟩;obtain⟨⟨⟨s,b,rfl,hb⟩,q,c,rfl,hc⟩,hpos,hdvd⟩:=hm _ rfl;refine⟨[],aa [(0,.val (.agg ⟨[.bool s,.string b]⟩)),(1,.val (.agg ⟨[.bool q,.string c]⟩))] [] 0 [],Wo trivial ⟨rfl,rfl,qQ⟩ trivial,?_⟩;have hXb:=bK b;have hYb:=bK c;have hX:(az s (bv b)).natAbs=bv b:=aI _ _;have hY:(az q (bv c)).natAbs=bv c:=aI _ _;have i1:eG (.agg ⟨[.bool s,.string b]⟩):=⟨_,_,rfl,by omega⟩;have i2:eG (.agg ⟨[.bool q,.string c]⟩):=⟨_,_,rfl,by omega⟩;have hxs:(ah (az s (bv b)).natAbs).size<=b.size:=aY (by rw [hX];exact hXb);have hys:(ah (az q (bv c)).natAbs).size<=c.size:=aY (by rw [hY];exact hYb);obtain⟨X,hXe⟩:∃X,X=az s (bv b):=⟨_,rfl⟩;obtain⟨Y,hYe⟩:∃Y,Y=az q (bv c):=⟨_,rfl⟩;have hrv:aJ (.agg ⟨[.bool s,.string b]⟩)=X:=hXe.symm;have hru:aJ (.agg ⟨[.bool q,.string c]⟩)=Y:=hYe.symm;rw [<-hXe] at hxs;rw [<-hYe] at hys;have z1:PV.val (.bool false)=PV.val (.bool (decide ((0:Int) < 0))):=rfl;have z2:PV.val (.string ⟨#[]⟩)=PV.val (.string (ah (0:Int).natAbs)):=by rw [show(0:Int).natAbs=0 from rfl,dy]
  rw [hru] at hpos;rw [hrv,hru] at hdvd;rw [hrv,hru];clear hX hY;with_unfolding_all refine⟨i1,i2,?_⟩
  rw [hrv,hru];clear hrv hru hXe hYe i1 i2 hXb hYb;have hrx:aJ (.agg ⟨[.bool (decide (X < 0)),.string (ah X.natAbs)]⟩)=X:=av X;have hry:aJ (.agg ⟨[.bool (decide (Y < 0)),.string (ah Y.natAbs)]⟩)=Y:=av Y;have hq:X / Y=if X < 0 then -((X.natAbs / Y.natAbs:Nat):Int) else((X.natAbs / Y.natAbs:Nat):Int):=by
   obtain⟨k,rfl⟩:=hdvd;have hk:(Y*k).natAbs / Y.natAbs=k.natAbs:=by rw [Int.natAbs_mul,Nat.mul_div_cancel_left _ (by omega)]
   rw [hk,Int.mul_ediv_cancel_left _ (by omega)];split
   ·rename_i h
    have:k < 0:=by
     rcases(by omega:k < 0\/0<=k) with h2|h2
     ·exact h2
     ·have:=Int.mul_nonneg (show 0<=Y by omega) h2;omega
    omega
   ·rename_i h
    have:0<=k:=by
     rcases(by omega:k < 0\/0<=k) with h2|h2
     ·have:=Int.mul_neg_of_pos_of_neg hpos h2;omega
     ·exact h2
    omega
  have hr:X.natAbs%Y.natAbs=0:=Nat.mod_eq_zero_of_dvd (Int.natAbs_dvd_natAbs.2 hdvd);have hbx:=bK (ah X.natAbs);have hby:=bK (ah Y.natAbs);have hY0:Y.natAbs≠0:=by omega
  have hqs:=Nat.div_le_self X.natAbs Y.natAbs;generalize hQe:X.natAbs / Y.natAbs=Q at *
  with_unfolding_all refine⟨λh1=>?_,λh1=>⟨Unit,λ_=>True,λ_=>aa [(2,.ptr 0 0 0 0),(3,.ptr 1 1 0 0),(4,.ptr 2 2 0 0),(5,.ptr 3 3 0 0),(7,.ptr 4 4 0 0),(8,.ptr 5 5 0 0)] [a8 X 0,a8 Y 1,a8 0 2,a8 0 3,a8 (((Q:Nat):Int)) 4,a8 0 5] 6 [],?_,λ_ _=>⟨Unit,λ_=>True,λ_=>aa [(2,.ptr 0 0 0 0),(3,.ptr 1 1 0 0),(4,.ptr 2 2 0 0),(5,.ptr 3 3 0 0),(7,.ptr 4 4 0 0),(8,.ptr 5 5 0 0)] [a8 X 0,a8 Y 1,a8 0 2,a8 0 3,a8 (X / Y) 4,a8 0 5] 6 [],?_,λ_ _=>?_⟩⟩⟩
  ·rw [cV] at h1;have h1:=of_decide_eq_true h1;omega
  ·have hn1:((bv (ah Y.natAbs):Nat):Int)≠0:=by rw [aH];omega
   have ht1:(((bv (ah X.natAbs):Nat):Int).tdiv ((bv (ah Y.natAbs):Nat):Int))=((Q:Nat):Int):=by rw [aH,aH,<-hQe];rfl
   have ht2:(((bv (ah X.natAbs):Nat):Int).tmod ((bv (ah Y.natAbs):Nat):Int))=0:=by
    rw [aH,aH];show((X.natAbs%Y.natAbs:Nat):Int)=0;rw [hr];rfl
   have hw1:(ah X.natAbs).size < 8->IntKind.i64.wrap (((bv (ah X.natAbs):Nat):Int).tdiv ((bv (ah Y.natAbs):Nat):Int))=((Q:Nat):Int):=λh=>by
    have:=yB h;rw [ht1,wrap64 (by omega) (by omega)]
   have hw2:=ht2;have hn2:(ah X.natAbs).size < 8->(IntKind.i64.wrap (((bv (ah X.natAbs):Nat):Int).tdiv ((bv (ah Y.natAbs):Nat):Int))).natAbs < 4611686018427387904:=λh=>by
    have:=yB h;rw [hw1 h];omega
   have hn3:((((bv (ah X.natAbs):Nat):Int).tmod ((bv (ah Y.natAbs):Nat):Int))).natAbs < 4611686018427387904:=by rw [ht2];decide
   have hz1:PV.val (.bool false)=PV.val (.bool (decide (((Q:Nat):Int) < 0))):=by rw [decide_eq_false (by omega)]
   have hz2:PV.val (.string (ah (bv (ah X.natAbs) / bv (ah Y.natAbs))))=PV.val (.string (ah (((Q:Nat):Int)).natAbs)):=by rw [aH,aH,hQe];rfl
   have hz3:PV.val (.string (ah (bv (ah X.natAbs)%bv (ah Y.natAbs))))=PV.val (.string (ah (0:Int).natAbs)):=by rw [aH,aH,hr];rfl
   with_unfolding_all refine⟨λh1=>⟨λh2=>?_,λh2=>⟨⟨⟨cA _,by rw [aH];exact hY0⟩,by omega,by omega⟩,⟨(),[some 0,some 1,some 2,some 3,some 4,some 5],trivial,Wo ⟨qJ,qJ,qZ ⟨⟨z1,rfl⟩,⟨z2,rfl⟩,qQ⟩,qZ ⟨⟨z1,rfl⟩,⟨z2,rfl⟩,qQ⟩,qZ ⟨⟨hz1,rfl⟩,⟨hz2,rfl⟩,qQ⟩,qZ ⟨⟨z1,rfl⟩,⟨hz3,rfl⟩,qQ⟩,qQ⟩ ⟨pP,pP,pP,pP,pP,pP,qQ⟩ trivial⟩⟩⟩,λh1=>⟨λh2=>(nomatch h2),λh2=>⟨⟨⟨cA _,by rw [aH];exact hY0⟩,by omega,by omega⟩,⟨(),[some 0,some 1,some 2,some 3,some 4,some 5],trivial,Wo ⟨qJ,qJ,qZ ⟨⟨z1,rfl⟩,⟨z2,rfl⟩,qQ⟩,qZ ⟨⟨z1,rfl⟩,⟨z2,rfl⟩,qQ⟩,qZ ⟨⟨hz1,rfl⟩,⟨hz2,rfl⟩,qQ⟩,qZ ⟨⟨z1,rfl⟩,⟨hz3,rfl⟩,qQ⟩,qQ⟩ ⟨pP,pP,pP,pP,pP,pP,qQ⟩ trivial⟩⟩⟩⟩
   have h1:(ah X.natAbs).size < 8:=by have:=of_decide_eq_true h1;omega
   have h2:(ah Y.natAbs).size < 8:=by have:=of_decide_eq_true h2;omega
   have hw1:=hw1 h1;have hn2:=hn2 h1;with_unfolding_all exact⟨by omega,by omega,hn1,hn1,hn2,hn3,⟨(),[some 0,some 1,some 2,some 3,some 4,some 5],trivial,Wo ⟨qJ,qJ,qZ ⟨⟨z1,rfl⟩,⟨z2,rfl⟩,qQ⟩,qZ ⟨⟨z1,rfl⟩,⟨z2,rfl⟩,qQ⟩,qZ ⟨⟨congrArg (λz:Int=>PV.val (.bool (decide (z < 0)))) hw1,rfl⟩,⟨congrArg (λz:Int=>PV.val (.string (ah z.natAbs))) hw1,rfl⟩,qQ⟩,qZ ⟨⟨congrArg (λz:Int=>PV.val (.bool (decide (z < 0)))) hw2,rfl⟩,⟨congrArg (λz:Int=>PV.val (.string (ah z.natAbs))) hw2,rfl⟩,qQ⟩,qQ⟩ ⟨pP,pP,pP,pP,pP,pP,qQ⟩ trivial⟩⟩
  ·have hY1:decide (Y < 0)=false:=decide_eq_false (by omega);with_unfolding_all refine⟨λh1=>⟨?_,⟨λh2=>?_,λh2=>⟨(),[some 0,some 1,some 2,some 3,some 4,some 5],trivial,Wo ⟨qJ,qJ,qZ ⟨⟨z1,rfl⟩,⟨z2,rfl⟩,qQ⟩,qZ ⟨⟨z1,rfl⟩,⟨z2,rfl⟩,qQ⟩,qZ ⟨⟨?_,rfl⟩,⟨?_,rfl⟩,qQ⟩,qZ ⟨⟨z1,rfl⟩,⟨z2,rfl⟩,qQ⟩,qQ⟩ ⟨pP,pP,pP,pP,pP,pP,qQ⟩ trivial⟩⟩⟩,λh1=>⟨(),[some 0,some 1,some 2,some 3,some 4,some 5],trivial,Wo ⟨qJ,qJ,qZ ⟨⟨z1,rfl⟩,⟨z2,rfl⟩,qQ⟩,qZ ⟨⟨z1,rfl⟩,⟨z2,rfl⟩,qQ⟩,qZ ⟨⟨?_,rfl⟩,⟨?_,rfl⟩,qQ⟩,qZ ⟨⟨z1,rfl⟩,⟨z2,rfl⟩,qQ⟩,qQ⟩ ⟨pP,pP,pP,pP,pP,pP,qQ⟩ trivial⟩⟩
   ·exact⟨_,_,rfl,by show(ah Q).size<=_;exact Nat.le_trans (aY (k:=(ah X.natAbs).size) (by rw [aH] at hbx;omega)) (by omega)⟩
   ·exact absurd h2 (by rw [show((!((ah (Int.natAbs 0)).toList==(⟨#[]⟩:ByteArray).toList))=decide ((0:Nat)≠0)) from numB_nil];decide)
   ·show PV.val (.bool (decide (-(aJ (ay ((Q:Nat):Int))) < 0)))=PV.val (.bool (decide (X / Y < 0)));rw [hY1] at h1;have h3:X < 0:=by simpa using h1
    rw [av,hq,if_pos h3]
   ·show PV.val (.string (ah (-(aJ (ay ((Q:Nat):Int)))).natAbs))=PV.val (.string (ah (X / Y).natAbs));rw [hY1] at h1;have h3:X < 0:=by simpa using h1
    rw [av,hq,if_pos h3]
   ·show PV.val (.bool (decide (((Q:Nat):Int) < 0)))=PV.val (.bool (decide (X / Y < 0)));rw [hY1] at h1;have h3:¬X < 0:=by simpa using h1
    rw [hq,if_neg h3]
   ·show PV.val (.string (ah (((Q:Nat):Int)).natAbs))=PV.val (.string (ah (X / Y).natAbs));rw [hY1] at h1;have h3:¬X < 0:=by simpa using h1
    rw [hq,if_neg h3]
  ·have hY1:decide (Y < 0)=false:=decide_eq_false (by omega);with_unfolding_all refine⟨λh1=>?_,λh1=>⟨⟨⟨[some 2,some 3],aa [(4,.ptr 0 0 0 0),(5,.ptr 1 1 0 0),(6,.val (.int .i64 0))] [a8 (X / Y) 0,a8 0 1] 2 [],Wo ⟨qJ,qZ ⟨⟨z1,rfl⟩,⟨z2,rfl⟩,qQ⟩,qQ⟩ ⟨pP,pP,rfl,qQ⟩ trivial,rfl,rfl⟩,[some 2,some 3],aa [(4,.ptr 0 0 0 0),(5,.ptr 1 1 0 0),(6,.val (.int .i64 0))] [a8 (X / Y) 0,a8 0 1] 2 [],Wo ⟨qJ,qZ ⟨⟨z1,rfl⟩,⟨z2,rfl⟩,qQ⟩,qQ⟩ ⟨pP,pP,rfl,qQ⟩ trivial,rfl,rfl⟩,[some 2,some 3],aa [(4,.ptr 0 0 0 0),(5,.ptr 1 1 0 0),(6,.val (.int .i64 0))] [a8 (X / Y) 0,a8 0 1] 2 [],Wo ⟨qJ,qZ ⟨⟨z1,rfl⟩,⟨z2,rfl⟩,qQ⟩,qQ⟩ ⟨pP,pP,rfl,qQ⟩ trivial,rfl,rfl⟩⟩
   rw [hY1] at h1;cases h1
 ·cases e
def CF:List PV->Option Ans
 |[.val v,.val u]=>some ⟨some (c9 8589934592 v/\c9 8589934592 u),.val (ay (Nat.gcd (aJ v).natAbs (aJ u).natAbs)),[]⟩
 |_=>none
def D228:Opt:={ join:=λc=>match c with | .block 0 _=>true|_=>false,perm:=oM [(1,[(0,true),(1,true),(3,true),(4,true),(2,false),(5,false)])] }
theorem Fj:am D228.toOrd Tryz.f228 2=true:=by kernel_rfl
theorem f228:FnOk Tryz.prog 228 CF:=by
 refine FnOk.ofW aj (an (l:=[(248,rz),(250,yv),(226,rC),(249,Al)]) (own:=[]) (inl:=[]) (by simp [f248,f250,f226,f249]) (by simp)) Tryz.func228 D228 2 Fj λargs r e=>?_;unfold CF at e;split at e
 ·rename_i v u
  cases e;refine⟨by simp,λhm=>?_⟩;obtain⟨⟨s,b,rfl,hb⟩,q,c,rfl,hc⟩:=hm _ rfl;refine⟨[],aa [(0,.val (.agg ⟨[.bool s,.string b]⟩)),(1,.val (.agg ⟨[.bool q,.string c]⟩))] [] 0 [],Wo trivial ⟨rfl,rfl,qQ⟩ trivial,?_⟩;have hXb:=bK b;have hYb:=bK c;have hX:(az s (bv b)).natAbs=bv b:=aI _ _;have hY:(az q (bv c)).natAbs=bv c:=aI _ _;have hxs:(ah (bv b)).size<=b.size:=aY hXb;have hys:(ah (bv c)).size<=c.size:=aY hYb;have hG:((Nat.gcd (aJ (.agg ⟨[.bool s,.string b]⟩)).natAbs (aJ (.agg ⟨[.bool q,.string c]⟩)).natAbs:Nat):Int)=((Nat.gcd (bv b) (bv c):Nat):Int):=by
   show((Nat.gcd (az s (bv b)).natAbs (az q (bv c)).natAbs:Nat):Int)=_;rw [hX,hY]
  rw [hG];generalize hGe:Nat.gcd (bv b) (bv c)=G;have z2:PV.val (.string ⟨#[]⟩)=PV.val (.string (ah (0:Int).natAbs)):=by rw [show(0:Int).natAbs=0 from rfl,dy]
  have hs7:∀x:Nat,(ah x).size<=7->x < 72057594037927936:=λx h=>by
   have:=@yB (x:Int) (by show(ah x).size < 8;omega);omega
  with_unfolding_all refine⟨Nat×Nat,λp=>Nat.gcd p.1 p.2=G/\(ah p.1).size<=8589934592/\(ah p.2).size<=8589934592/\(p.2=0\/(ah p.1).size<=7/\(ah p.2).size<=7),λp=>aa [(4,.ptr 0 0 0 0),(5,.val (.string (ah p.1))),(6,.val (.string (ah p.2)))] [a8 0 0] 1 [],⟨Nat×Nat,λp=>Nat.gcd p.1 p.2=G/\(ah p.1).size<=8589934592/\(ah p.2).size<=8589934592,λp=>aa [(4,.ptr 0 0 0 0),(5,.val (.string (ah p.1))),(6,.val (.string (ah p.2)))] [a8 0 0] 1 [],λp=>p.2,⟨(bv b,bv c),[some 2],⟨hGe,by show(ah (bv b)).size<=_;omega,by show(ah (bv c)).size<=_;omega⟩,Wo ⟨qZ ⟨rq,⟨z2,rfl⟩,qQ⟩,qQ⟩ ⟨pP,rfl,rfl,qQ⟩ trivial⟩,λp hp=>?_⟩,λp hp=>?_⟩
  ·obtain⟨x,y⟩:=p;obtain⟨h1,h2,h3⟩:Nat.gcd x y=G/\(ah x).size<=8589934592/\(ah y).size<=8589934592:=hp;have hne:(!((ah y).toList==(⟨#[]⟩:ByteArray).toList))=true->y≠0:=λh=>by
    rw [numB_nil] at h;exact of_decide_eq_true h
   have hm:y≠0->x%y < y:=λh=>Nat.mod_lt _ (by omega);have hgcd:Nat.gcd y (x%y)=G:=by rw [<-h1,Nat.gcd_comm x y,Nat.gcd_rec y x,Nat.gcd_comm]
   have hsz:y≠0->(ah (x%y)).size<=8589934592:=λh=>by
    refine Nat.le_trans (aY (k:=(ah y).size) ?_) h3;have:=bK (ah y);rw [aH] at this;have:=hm h;omega
   have hv:PV.val (.string (ah (bv (ah x)%bv (ah y))))=PV.val (.string (ah (x%y))):=by rw [aH,aH]
   with_unfolding_all refine⟨λe1=>⟨λe2=>⟨λe3=>⟨⟨⟨cA _,by rw [aH];exact hne e1⟩,h2,h3⟩,(y,x%y),[some 0],⟨hgcd,h3,hsz (hne e1)⟩,hm (hne e1),Wo ⟨qJ,qQ⟩ ⟨pP,rfl,hv,qQ⟩ trivial⟩,λe3=>⟨(x,y),[some 0],⟨h1,h2,h3,?_⟩,Wo ⟨qJ,qQ⟩ ⟨pP,rfl,rfl,qQ⟩ trivial⟩⟩,λe2=>⟨λe3=>⟨⟨⟨cA _,by rw [aH];exact hne e1⟩,h2,h3⟩,(y,x%y),[some 0],⟨hgcd,h3,hsz (hne e1)⟩,hm (hne e1),Wo ⟨qJ,qQ⟩ ⟨pP,rfl,hv,qQ⟩ trivial⟩,λe3=>(nomatch e3)⟩⟩,λe1=>⟨λe2=>(nomatch e2),λe2=>⟨(x,y),[some 0],⟨h1,h2,h3,?_⟩,Wo ⟨qJ,qQ⟩ ⟨pP,rfl,rfl,qQ⟩ trivial⟩⟩⟩
   ·have e2:=of_decide_eq_false e2;have e3:=of_decide_eq_false e3;have e2:¬((ah x).size:Int) > 7:=e2;have e3:¬((ah y).size:Int) > 7:=e3;exact Or.inr ⟨by show(ah x).size<=7;omega,by show(ah y).size<=7;omega⟩
   ·have e1:(!((ah y).toList==(⟨#[]⟩:ByteArray).toList))=false:=e1;rw [numB_nil] at e1;have:=of_decide_eq_false e1;exact Or.inl (by show y=0;omega)
  ·obtain⟨x,y⟩:=p;obtain⟨h1,h2,h3,h4⟩:Nat.gcd x y=G/\(ah x).size<=8589934592/\(ah y).size<=8589934592/\(y=0\/(ah x).size<=7/\(ah y).size<=7):=hp;have hne:((ah y).toList==(⟨#[]⟩:ByteArray).toList)=false->y≠0:=λh=>by
    rw [cV] at h;exact of_decide_eq_false h
   have h7:((ah y).toList==(⟨#[]⟩:ByteArray).toList)=false->(ah x).size<=7/\(ah y).size<=7:=λh=>h4.resolve_left (hne h);with_unfolding_all refine⟨λe1=>⟨[some 0],aa [(4,.ptr 0 0 0 0)] [a8 ((G:Nat):Int) 0] 1 [],Wo ⟨qZ ⟨⟨?_,rfl⟩,⟨?_,rfl⟩,qQ⟩,qQ⟩ ⟨pP,qQ⟩ trivial,rfl,rfl⟩,λe1=>⟨(h7 e1).1,(h7 e1).2,Nat×Nat,λp=>Nat.gcd p.1 p.2=G/\p.1 < 72057594037927936/\p.2 < 72057594037927936,λp=>aa [(4,.ptr 0 0 0 0),(9,.val (.int .i64 (p.1:Nat))),(10,.val (.int .i64 (p.2:Nat)))] [a8 0 0] 1 [],λp=>p.2,⟨(x,y),[some 0],⟨h1,hs7 _ (h7 e1).1,hs7 _ (h7 e1).2⟩,Wo ⟨qJ,qQ⟩ ⟨pP,?_,?_,qQ⟩ trivial⟩,λp hp=>?_⟩⟩
   ·show PV.val (.bool false)=PV.val (.bool (decide (((G:Nat):Int) < 0)));rw [decide_eq_false (by omega)]
   ·show PV.val (.string (ah x))=PV.val (.string (ah G));rw [cV] at e1;have e1:y=0:=of_decide_eq_true e1;rw [<-h1,e1,Nat.gcd_zero_right]
   ·exact congrArg (λn:Nat=>PV.val (.int .i64 n)) (aH x)
   ·exact congrArg (λn:Nat=>PV.val (.int .i64 n)) (aH y)
   ·obtain⟨m,n⟩:=p;obtain⟨g1,g2,g3⟩:Nat.gcd m n=G/\m < 72057594037927936/\n < 72057594037927936:=hp;with_unfolding_all refine⟨λe2=>?_,λe2=>⟨by show m < 4611686018427387904;omega,[some 0],aa [(4,.ptr 0 0 0 0)] [a8 ((G:Nat):Int) 0] 1 [],Wo ⟨qZ ⟨⟨?_,rfl⟩,⟨?_,rfl⟩,qQ⟩,qQ⟩ ⟨pP,qQ⟩ trivial,rfl,rfl⟩⟩
    ·have e2:=of_decide_eq_true e2;have e3:0 < n:=by omega
     with_unfolding_all refine⟨by omega,(n,m%n),[some 0],⟨?_,g3,?_⟩,Nat.mod_lt _ e3,Wo ⟨qJ,qQ⟩ ⟨pP,rfl,rfl,qQ⟩ trivial⟩
     ·show Nat.gcd n (m%n)=G;rw [<-g1,Nat.gcd_comm m n,Nat.gcd_rec n m,Nat.gcd_comm]
     ·have:=Nat.mod_lt m e3;show m%n < _;omega
    ·show PV.val (.bool (decide (((m:Nat):Int) < 0)))=PV.val (.bool (decide (((G:Nat):Int) < 0)));rw [decide_eq_false (by omega),decide_eq_false (by omega)]
    ·show PV.val (.string (ah m))=PV.val (.string (ah G));have e2:=of_decide_eq_false e2;have e3:n=0:=by omega
     rw [<-g1,e3,Nat.gcd_zero_right]
 ·cases e
def CG:List PV->Option Ans
 |[.val (.string b)]=>some ⟨some (b.size<=7),.val (.int .i64 (bv b:Nat)),[]⟩
 |_=>none
theorem Fk:am {} Tryz.f223 1=true:=by kernel_rfl
theorem f223:FnOk Tryz.prog 223 CG:=by
 refine FnOk.ofW aj (an (l:=[]) (own:=[]) (inl:=[]) (by simp) (by simp)) Tryz.func223 {} 1 Fk λargs r e=>?_;unfold CG at e;split at e
 ·rename_i b
  cases e;refine⟨by simp,λhm=>?_⟩;have h:b.size<=7:=hm _ rfl;refine⟨[],aa [(0,.val (.string b))] [] 0 [],Wo trivial ⟨rfl,qQ⟩ trivial,?_⟩;with_unfolding_all refine⟨Nat,λi=>i<=b.size,λi=>aa [(0,.val (.string b)),(3,.val (.int .i64 (c8 (b.data.toList.take i):Nat))),(4,.val (goInt i))] [] 0 [],λi=>b.size - i,⟨0,[],Nat.zero_le _,Wo trivial ⟨rfl,rfl,rfl,qQ⟩ trivial⟩,λi hi=>?_⟩
  replace hi:i<=b.size:=hi;have hlt:=bS b i h;with_unfolding_all refine⟨λh1=>?_,λh1=>?_⟩
  ·have h1:i < b.size:=by have:=bL h1;omega
   have hx:(b.data.toList[i]?.getD 0).toNat < 256:=UInt8.toNat_lt _;have hn:=fC b h1;have hn7:=bS b (i+1) h;with_unfolding_all refine⟨⟨by omega,by omega⟩,i+1,[],h1,by show b.size - (i+1) < b.size - i;omega,Wo trivial ⟨rfl,?_,?_,qQ⟩ trivial⟩
   ·have key:∀k:Nat,k=i->PV.val (.int .i64 (IntKind.i64.wrap (IntKind.i64.wrap (256*((c8 (b.data.toList.take i):Nat):Int))+IntKind.i64.wrap (((b.data.toList[k]?.getD 0).toNat:Nat):Int))))=PV.val (.int .i64 (c8 (b.data.toList.take (i+1)):Nat)):=λk hk=>by
     rw [hk,wrap64 (x:=256*((c8 (b.data.toList.take i):Nat):Int)) (by omega) (by omega),wrap64 (x:=(((b.data.toList[i]?.getD 0).toNat:Nat):Int)) (by omega) (by omega),wrap64 (by omega) (by omega),hn];exact congrArg (λx=>PV.val (.int .i64 x)) (by omega)
    exact key _ (Int.toNat_natCast i)
   ·refine congrArg (λx=>PV.val (.int .i64 x)) (?_:IntKind.i64.wrap ((i:Int)+1)=((i+1:Nat):Int));rw [wrap64 (by omega) (by omega)];rfl
  ·have h1:i=b.size:=by have:=dI h1;omega
   have he:b.data.toList.take i=b.data.toList:=by rw [h1,List.take_of_length_le (by rw [<-bg];omega)]
   rw [he] at hlt ⊢;with_unfolding_all exact⟨[],aa [(2,.val (.int .i64 (bv b:Nat)))] [] 0 [],Wo trivial ⟨rfl,qQ⟩ trivial,rfl,rfl⟩
 ·cases e
def CH:List PV->Option Ans
 |[.val (.int .i64 z)]=>some ⟨some (0<=z/\z < 72057594037927936),.val (.string (ah z.toNat)),[]⟩
 |_=>none
theorem Fl:am {} Tryz.f224 1=true:=by kernel_rfl
theorem f224:FnOk Tryz.prog 224 CH:=by
 refine FnOk.ofW aj (an (l:=[]) (own:=[]) (inl:=[]) (by simp) (by simp)) Tryz.func224 {} 1 Fl λargs r e=>?_;unfold CH at e;split at e
 ·rename_i z
  cases e;refine⟨by simp,λhm=>?_⟩;obtain⟨hz,hz2⟩:=hm _ rfl;obtain⟨N,rfl⟩:∃N:Nat,z=(N:Int):=⟨z.toNat,by omega⟩;rw [Int.toNat_natCast];refine⟨[],aa [(0,.val (.int .i64 (N:Nat)))] [] 0 [],Wo trivial ⟨rfl,qQ⟩ trivial,?_⟩;with_unfolding_all refine⟨Nat ⊕ (Nat×Nat),λ| .inl j=>j<=7/\N / 256^(7 - j)=0 | .inr (j,k)=>j<=7/\0 < k/\k<=8/\256^(k - 1)<=N / 256^(7 - j)/\N / 256^(7 - j) < 256^k,
   λ| .inl j=>aa [(0,.val (.int .i64 (N:Nat))),(3,.val (.slice none 0 0)),(4,.val (.int .i64 (48 - 8*(j:Int))))] [] 0 [] | .inr (j,k)=>aa [(0,.val (.int .i64 (N:Nat))),(3,.sl 0 0 0 k),(4,.val (.int .i64 (48 - 8*(j:Int))))] [⟨5,1,0,false,false,k,bd (N / 256^(7 - j)) k⟩] 1 [],
   λ| .inl j=>7 - j | .inr (j,k)=>7 - j,⟨.inl 0,[],⟨Nat.zero_le _,?_⟩,Wo trivial ⟨rfl,rfl,rfl,qQ⟩ trivial⟩,λx hx=>?_⟩
  ·exact Nat.div_eq_of_lt (show N < 72057594037927936 by omega)
  ·have hsh:∀j:Nat,j<=6->(N:Int) / 2^min (48 - 8*(j:Int)).toNat IntKind.i64.bits=((N / 256^(6 - j):Nat):Int):=λj hj=>by
    rw [show min (48 - 8*(j:Int)).toNat IntKind.i64.bits=8*(6 - j) by show min (48 - 8*(j:Int)).toNat 64=_;omega];have e:(2:Int)^(8*(6 - j))=((256^(6 - j):Nat):Int):=by rw [show(256:Nat)=2^8 from rfl,<-Nat.pow_mul];simp
    rw [e];rfl
   rcases x with j|⟨j,k⟩
   ·obtain⟨hj,hz0⟩:j<=7/\N / 256^(7 - j)=0:=hx;with_unfolding_all refine⟨λh1=>?_,λh1=>?_⟩
    ·have h1:=of_decide_eq_true h1;have hj6:j<=6:=by omega
     have hw:(N:Int) / 2^min (48 - 8*(j:Int)).toNat IntKind.i64.bits=((N / 256^(6 - j):Nat):Int):=hsh j hj6;have hZ:N / 256^(7 - j)=N / 256^(6 - j) / 256:=by rw [show 7 - j=6 - j+1 by omega,Nat.pow_succ,Nat.div_div_eq_div_mul]
     have hZe:N / 256^(7 - (j+1))=N / 256^(6 - j):=by rw [show 7 - (j+1)=6 - j by omega]
     have wj:IntKind.i64.wrap (48 - 8*(j:Int) - 8)=48 - 8*((j+1:Nat):Int):=by rw [wrap64 (by omega) (by omega)];omega
     have hd:decide (((N:Int) / 2^min (48 - 8*(j:Int)).toNat IntKind.i64.bits).tmod 256 > 0)=decide (0 < N / 256^(6 - j)%256):=by
      rw [hw];show decide (((N / 256^(6 - j)%256:Nat):Int) > 0)=_;rw [decide_eq_decide];generalize N / 256^(6 - j)%256=d;omega
     rw [hZ] at hz0;have hj7:j+1<=7:=by omega
     have kb:bd (N / 256^(7 - (j+1))) 1 0=[PV.val (.int .u8 (IntKind.u8.wrap ((N:Int) / 2^min (48 - 8*(j:Int)).toNat IntKind.i64.bits)))]:=by
      rw [hZe,hw,cE];simp [bd]
     have hl:N / 256^(6 - j) < 256^1:=by generalize N / 256^(6 - j)=Z at *;omega
     with_unfolding_all refine⟨by omega,by decide,λh2=>⟨λh3=>(nomatch h3),λh3=>⟨.inl (j+1),[],⟨?_,?_⟩,?_,Wo trivial ⟨rfl,rfl,congrArg (λx=>PV.val (.int .i64 x)) wj,qQ⟩ trivial⟩⟩,λh2=>⟨λh3=>⟨by omega,⟨by show 1*1<=140737488355328;decide,by show 1<=9223372036854775807;decide⟩,⟨.inr (j+1,1),[some 1],⟨?_,?_,?_,?_,?_⟩,?_,Wo ⟨qZ (λi hi=>?_),qQ⟩ ⟨rfl,pP,congrArg (λx=>PV.val (.int .i64 x)) wj,qQ⟩ trivial⟩⟩,λh3=>(nomatch h3)⟩⟩
     ·exact hj7
     ·rw [hd] at h2;have h2:=of_decide_eq_false h2;rw [hZe];generalize N / 256^(6 - j)=Z at *
      omega
     ·show 7 - (j+1) < 7 - j;omega
     ·exact hj7
     ·decide
     ·decide
     ·rw [hd] at h2;have h2:=of_decide_eq_true h2;rw [hZe];generalize N / 256^(6 - j)=Z at *
      show 256^0<=Z;omega
     ·rw [hZe];exact hl
     ·show 7 - (j+1) < 7 - j;omega
     ·have hi:i < 1:=hi;obtain rfl:i=0:=by omega
      exact kb
    ·have h1:=of_decide_eq_false h1;obtain rfl:j=7:=by omega
     have hN0:N=0:=by simpa using hz0
     subst hN0;with_unfolding_all refine⟨λi hi=>absurd hi (Nat.not_lt_zero _),[],aa [(2,.val (.string (ah 0)))] [] 0 [],Wo trivial ⟨?_,qQ⟩ trivial,rfl,rfl⟩
     rw [dy];rfl
   ·obtain⟨hj,hk0,hk8,hlo,hhi⟩:j<=7/\0 < k/\k<=8/\256^(k - 1)<=N / 256^(7 - j)/\N / 256^(7 - j) < 256^k:=hx;with_unfolding_all refine⟨λh1=>?_,λh1=>?_⟩
    ·have h1:=of_decide_eq_true h1;have hj6:j<=6:=by omega
     have hw:(N:Int) / 2^min (48 - 8*(j:Int)).toNat IntKind.i64.bits=((N / 256^(6 - j):Nat):Int):=hsh j hj6;have hZ:N / 256^(7 - j)=N / 256^(6 - j) / 256:=by rw [show 7 - j=6 - j+1 by omega,Nat.pow_succ,Nat.div_div_eq_div_mul]
     have hZe:N / 256^(7 - (j+1))=N / 256^(6 - j):=by rw [show 7 - (j+1)=6 - j by omega]
     have wj:IntKind.i64.wrap (48 - 8*(j:Int) - 8)=48 - 8*((j+1:Nat):Int):=by rw [wrap64 (by omega) (by omega)];omega
     have hj7:j+1<=7:=by omega
     have hlo':256^(k+1 - 1)<=N / 256^(6 - j):=by
      rw [hZ] at hlo;have:=(Nat.le_div_iff_mul_le (show 0 < 256 by decide)).1 hlo
      rwa [<-Nat.pow_succ,show(k - 1).succ=k+1 - 1 by omega] at this
     have hhi':N / 256^(6 - j) < 256^(k+1):=by
      rw [hZ] at hhi;rw [Nat.pow_succ];exact(Nat.div_lt_iff_lt_mul (by decide)).1 hhi
     have hk7:k+1<=8:=by
      rcases Nat.lt_or_ge k 8 with h|h
      ·exact h
      ·obtain rfl:k=8:=by omega
       have h4:N / 256^(6 - j)<=N:=Nat.div_le_self _ _;have:(256:Nat)^(8+1 - 1)=18446744073709551616:=by decide
       omega
     have kb:∀i,i < k+1->bd (N / 256^(7 - (j+1))) (k+1) i=if i < k then bd (N / 256^(7 - j)) k i else [PV.val (.int .u8 (IntKind.u8.wrap ((N:Int) / 2^min (48 - 8*(j:Int)).toNat IntKind.i64.bits)))]:=λi hi=>by
      rw [hZe,hw,cE,hZ];simp only [bd];split
      ·rename_i h
       rw [Nat.div_div_eq_div_mul _ 256,<-Nat.pow_succ',show(k - 1 - i).succ=k+1 - 1 - i by omega]
      ·rename_i h
       rw [show k+1 - 1 - i=0 by omega,Nat.pow_zero,Nat.div_one];rfl
     have kc:∀i,i < k+1->∀h:Nat->List PV,h 0=[PV.val (.int .u8 (IntKind.u8.wrap ((N:Int) / 2^min (48 - 8*(j:Int)).toNat IntKind.i64.bits)))]->bd (N / 256^(7 - (j+1))) (k+1) i=gH k (bd (N / 256^(7 - j)) k) h i:=λi hi h hh=>by
      rw [kb i hi,gH];split
      ·rfl
      ·rw [show i - k=0 by omega,hh]
     have hk0':decide (((k:Nat):Int) > 0)=true:=decide_eq_true (by omega);have X1:∀p:Prop,decide (((k:Nat):Int) > 0)=false->p:=λp h=>by rw [hk0'] at h;cases h
     with_unfolding_all refine⟨by omega,by decide,λh2=>⟨λh3=>⟨by omega,⟨rfl,?_,?_⟩,⟨.inr (j+1,k+1),[some 0],⟨?_,?_,?_,?_,?_⟩,?_,Wo ⟨qZ (λi hi=>?_),qQ⟩ ⟨rfl,pP,congrArg (λx=>PV.val (.int .i64 x)) wj,qQ⟩ trivial⟩⟩,λh3=>X1 _ h3⟩,λh2=>⟨λh3=>⟨by omega,⟨rfl,?_,?_⟩,⟨.inr (j+1,k+1),[some 0],⟨?_,?_,?_,?_,?_⟩,?_,Wo ⟨qZ (λi hi=>?_),qQ⟩ ⟨rfl,pP,congrArg (λx=>PV.val (.int .i64 x)) wj,qQ⟩ trivial⟩⟩,λh3=>(nomatch h3)⟩⟩
     ·show(k+1)*1<=_;omega
     ·show k+1<=_;omega
     ·exact hj7
     ·exact Nat.succ_pos k
     ·exact hk7
     ·rw [hZe];exact hlo'
     ·rw [hZe];exact hhi'
     ·show 7 - (j+1) < 7 - j;omega
     ·exact kc i hi _ rfl
     ·show(k+1)*1<=_;omega
     ·show k+1<=_;omega
     ·exact hj7
     ·exact Nat.succ_pos k
     ·exact hk7
     ·rw [hZe];exact hlo'
     ·rw [hZe];exact hhi'
     ·show 7 - (j+1) < 7 - j;omega
     ·exact kc i hi _ rfl
    ·have h1:=of_decide_eq_false h1;obtain rfl:j=7:=by omega
     rw [show 7 - 7=0 from rfl,Nat.pow_zero,Nat.div_one] at hlo hhi;have hfin:=jM (N:=N) (k:=k) hhi (λ_=>hlo);have hv:dg k (λi=>bd (N / 256^(7 - 7)) k (0+i))=ah N:=by
      rw [<-hfin];congr 1;funext i;rw [Nat.zero_add,show 7 - 7=0 from rfl,Nat.pow_zero,Nat.div_one]
     with_unfolding_all refine⟨λi hi=>⟨_,rfl⟩,[],aa [(2,.val (.string (ah N)))] [] 0 [],Wo trivial ⟨congrArg (λx=>PV.val (.string x)) hv,qQ⟩ trivial,rfl,rfl⟩
 ·cases e
end Go.Proofs
namespace Go.Num
def ce:Value->Bool
 |.agg ⟨[.bool _,.string b,.string c]⟩=>decide (b.size<=3)&&decide (c.size<=3)
 |_=>false
end Go.Num
namespace Go.Proofs
def wV:List PV->Option Ans
 |[.val v]=>some ⟨some (Ey v),.val (.tuple ⟨[.int .i64 (bif ce v then cI v else 0),.int .i64 (bif ce v then(bO v:Nat) else 0),.bool (ce v)]⟩),[]⟩
 |_=>none
def D180:Opt:={ join:=ez [4],perm:=jm 3 [(0,true),(1,true),(3,true),(4,true),(2,false),(5,false)] }
theorem Fm:am D180.toOrd Tryz.f180 1=true:=by kernel_rfl
theorem f180:FnOk Tryz.prog 180 wV:=by
 refine FnOk.ofW aj (an (l:=[(223,CG)]) (own:=[]) (inl:=[]) (by simp [f223]) (by simp)) Tryz.func180 D180 1 Fm λargs r e=>?_;unfold wV at e;split at e
 ·rename_i v
  cases e;refine⟨by simp,λhm=>?_⟩;obtain⟨s,b,c,rfl,hb,hc⟩:=hm _ rfl;refine⟨[],aa [(0,.val (.agg ⟨[.bool s,.string b,.string c]⟩))] [] 0 [],Wo trivial ⟨rfl,qQ⟩ trivial,?_⟩;have d1:(((bv c:Nat):Int)==0)=true->PV.val (.int .i64 1)=PV.val (.int .i64 (bq (bv c):Nat)):=λh=>by
   have h:bv c=0:=by simpa using h
   rw [h];rfl
  have d2:(((bv c:Nat):Int)==0)=false->PV.val (.int .i64 (bv c:Nat))=PV.val (.int .i64 (bq (bv c):Nat)):=λh=>by
   have h:bv c≠0:=by simpa using h
   rw [o0 h]
  have no1:¬(b.size<=3/\c.size<=3)->PV.val (.int .i64 0)=PV.val (.int .i64 (bif ce (.agg ⟨[.bool s,.string b,.string c]⟩) then cI (.agg ⟨[.bool s,.string b,.string c]⟩) else 0))/\PV.val (.int .i64 0)=PV.val (.int .i64 (bif ce (.agg ⟨[.bool s,.string b,.string c]⟩) then(bO (.agg ⟨[.bool s,.string b,.string c]⟩):Nat) else 0))/\PV.val (.bool false)=PV.val (.bool (ce (.agg ⟨[.bool s,.string b,.string c]⟩))):=λh=>by
   have e:ce (.agg ⟨[.bool s,.string b,.string c]⟩)=false:=by
    show(decide (b.size<=3)&&decide (c.size<=3))=false;rw [Bool.and_eq_false_iff,decide_eq_false_iff_not,decide_eq_false_iff_not];omega
   rw [e];exact⟨rfl,rfl,rfl⟩
  have em:b.size<=3/\c.size<=3->ce (.agg ⟨[.bool s,.string b,.string c]⟩)=true:=λh=>by
   show(decide (b.size<=3)&&decide (c.size<=3))=true;rw [decide_eq_true h.1,decide_eq_true h.2];rfl
  have ys1:b.size<=3/\c.size<=3->(s=true->PV.val (.int .i64 (IntKind.i64.wrap (0 - ((bv b:Nat):Int))))=PV.val (.int .i64 (bif ce (.agg ⟨[.bool s,.string b,.string c]⟩) then cI (.agg ⟨[.bool s,.string b,.string c]⟩) else 0)))/\(s=false->PV.val (.int .i64 (bv b:Nat))=PV.val (.int .i64 (bif ce (.agg ⟨[.bool s,.string b,.string c]⟩) then cI (.agg ⟨[.bool s,.string b,.string c]⟩) else 0))):=λh=>by
   have hbl:=bK b;have h3:256^b.size<=256^3:=Nat.pow_le_pow_right (by decide) h.1;rw [em h];refine⟨λhs=>?_,λhs=>?_⟩
   ·rw [hs,wrap64 (by omega) (by omega)];show _=PV.val (.int .i64 (az true (bv b)));rw [Int.zero_sub];rfl
   ·rw [hs];rfl
  have ys2:b.size<=3/\c.size<=3->PV.val (.int .i64 (bq (bv c):Nat))=PV.val (.int .i64 (bif ce (.agg ⟨[.bool s,.string b,.string c]⟩) then(bO (.agg ⟨[.bool s,.string b,.string c]⟩):Nat) else 0))/\PV.val (.bool true)=PV.val (.bool (ce (.agg ⟨[.bool s,.string b,.string c]⟩))):=λh=>by
   rw [em h];exact⟨rfl,rfl⟩
  have hbt:decide (((b.size:Nat):Int) > 3)=false->decide (((c.size:Nat):Int) > 3)=false->b.size<=3/\c.size<=3:=λh1 h2=>by
   have h1:=of_decide_eq_false h1;have h2:=of_decide_eq_false h2;omega
  have hbf:decide (((b.size:Nat):Int) > 3)=true->¬(b.size<=3/\c.size<=3):=λh1=>by
   have h1:=of_decide_eq_true h1;omega
  have hcf:decide (((c.size:Nat):Int) > 3)=true->¬(b.size<=3/\c.size<=3):=λh1=>by
   have h1:=of_decide_eq_true h1;omega
  with_unfolding_all refine⟨λh1=>⟨λh2=>⟨[],aa [(2,.val (.int .i64 (bif ce (.agg ⟨[.bool s,.string b,.string c]⟩) then cI (.agg ⟨[.bool s,.string b,.string c]⟩) else 0))),(3,.val (.int .i64 (bif ce (.agg ⟨[.bool s,.string b,.string c]⟩) then(bO (.agg ⟨[.bool s,.string b,.string c]⟩):Nat) else 0))),(4,.val (.bool (ce (.agg ⟨[.bool s,.string b,.string c]⟩))))] [] 0 [],Wo trivial ⟨(no1 (hcf h2)).1,(no1 (hcf h2)).2.1,(no1 (hcf h2)).2.2,qQ⟩ trivial,rfl,rfl⟩,λh2=>⟨by have:=hbt h1 h2;omega,by have:=hbt h1 h2;omega,Unit,λ_=>True,λ_=>aa [(1,.ptr 0 0 0 0),(5,.val (.int .i64 (bv b:Nat))),(6,.val (.int .i64 (bq (bv c):Nat)))] [aZ s b c 0] 1 [],⟨λh3=>⟨(),[some 0],trivial,Wo ⟨qX,qQ⟩ ⟨pP,rfl,d1 h3,qQ⟩ trivial⟩,λh3=>⟨(),[some 0],trivial,Wo ⟨qX,qQ⟩ ⟨pP,rfl,d2 h3,qQ⟩ trivial⟩⟩,λ_ _=>⟨λh3=>⟨[],aa [(2,.val (.int .i64 (bif ce (.agg ⟨[.bool s,.string b,.string c]⟩) then cI (.agg ⟨[.bool s,.string b,.string c]⟩) else 0))),(3,.val (.int .i64 (bif ce (.agg ⟨[.bool s,.string b,.string c]⟩) then(bO (.agg ⟨[.bool s,.string b,.string c]⟩):Nat) else 0))),(4,.val (.bool (ce (.agg ⟨[.bool s,.string b,.string c]⟩))))] [] 0 [],Wo trivial ⟨(ys1 (hbt h1 h2)).1 h3,(ys2 (hbt h1 h2)).1,(ys2 (hbt h1 h2)).2,qQ⟩ trivial,rfl,rfl⟩,λh3=>⟨[],aa [(2,.val (.int .i64 (bif ce (.agg ⟨[.bool s,.string b,.string c]⟩) then cI (.agg ⟨[.bool s,.string b,.string c]⟩) else 0))),(3,.val (.int .i64 (bif ce (.agg ⟨[.bool s,.string b,.string c]⟩) then(bO (.agg ⟨[.bool s,.string b,.string c]⟩):Nat) else 0))),(4,.val (.bool (ce (.agg ⟨[.bool s,.string b,.string c]⟩))))] [] 0 [],Wo trivial ⟨(ys1 (hbt h1 h2)).2 h3,(ys2 (hbt h1 h2)).1,(ys2 (hbt h1 h2)).2,qQ⟩ trivial,rfl,rfl⟩⟩⟩⟩,λh1=>⟨λh2=>⟨[],aa [(2,.val (.int .i64 (bif ce (.agg ⟨[.bool s,.string b,.string c]⟩) then cI (.agg ⟨[.bool s,.string b,.string c]⟩) else 0))),(3,.val (.int .i64 (bif ce (.agg ⟨[.bool s,.string b,.string c]⟩) then(bO (.agg ⟨[.bool s,.string b,.string c]⟩):Nat) else 0))),(4,.val (.bool (ce (.agg ⟨[.bool s,.string b,.string c]⟩))))] [] 0 [],Wo trivial ⟨(no1 (hbf h1)).1,(no1 (hbf h1)).2.1,(no1 (hbf h1)).2.2,qQ⟩ trivial,rfl,rfl⟩,λh2=>(nomatch h2)⟩⟩
 ·cases e
def yD:List PV->Option Ans
 |[.val (.int .i64 z),.val (.int .i64 d)]=>some ⟨some (z.natAbs < 72057594037927936/\0 < d/\d < 72057594037927936),.val (aw (mkRat z d.toNat)),[]⟩
 |_=>none
def D181:Opt:={ join:=λc=>match c with | .block 0 _=>true|c=>ez [2,10] c }
theorem Fo:am D181.toOrd Tryz.f181 2=true:=by kernel_rfl
theorem f181:FnOk Tryz.prog 181 yD:=by
 refine FnOk.ofW aj (an (l:=[(224,CH)]) (own:=[]) (inl:=[]) (by simp [f224]) (by simp)) Tryz.func181 D181 2 Fo λargs r e=>?_;unfold yD at e;split at e
 ·rename_i z d
  cases e;refine⟨by simp,λhm=>?_⟩;obtain⟨hz,hd,hd2⟩:=hm _ rfl;obtain⟨D,rfl⟩:∃D:Nat,d=(D:Int):=⟨d.toNat,by omega⟩;rw [Int.toNat_natCast];refine⟨[],aa [(0,.val (.int .i64 z)),(1,.val (.int .i64 (D:Nat)))] [] 0 [],Wo trivial ⟨rfl,rfl,qQ⟩ trivial,?_⟩;obtain⟨N,hN⟩:∃N,N=z.natAbs:=⟨_,rfl⟩;obtain⟨G,hG⟩:∃G,G=Nat.gcd N D:=⟨_,rfl⟩;have hG0:0 < G:=by rw [hG];exact Nat.gcd_pos_of_pos_right _ (by omega)
  have hNz:N < 72057594037927936:=by omega
  have hq1:(mkRat z D).num.natAbs=N / G:=by
   rw [Rat.num_mkRat,if_neg (by omega),<-hN,Nat.gcd_comm,<-hG];obtain⟨k,hk⟩:G∣N:=by rw [hG];exact Nat.gcd_dvd_left _ _
   rw [hk,Nat.mul_div_cancel_left _ hG0];rcases(by omega:z=N\/z = -N) with h|h
   ·rw [h,hk,Int.natCast_mul,Int.mul_ediv_cancel_left _ (by omega)];rfl
   ·rw [h,hk,Int.natCast_mul,<-Int.mul_neg,Int.mul_ediv_cancel_left _ (by omega),Int.natAbs_neg];rfl
  have hq2:(mkRat z D).den=D / G:=by rw [Rat.den_mkRat,if_neg (by omega),<-hN,Nat.gcd_comm,<-hG]
  have hq3:decide (z < 0)=decide ((mkRat z D).num < 0):=by
   rw [decide_eq_decide];have e:=Rat.mkRat_num_den (n:=z) (d:=D) (by omega) (show mkRat z D=⟨(mkRat z D).num,(mkRat z D).den,(mkRat z D).den_nz,(mkRat z D).reduced⟩ from rfl);obtain⟨m,hm0,hm1,_⟩:=e;constructor
   ·intro h;rcases(by omega:(mkRat z D).num < 0\/0<=(mkRat z D).num) with h2|h2
    ·exact h2
    ·have:=Int.mul_nonneg h2 (show 0<=(m:Int) by omega);omega
   ·intro h;rw [hm1];exact Int.mul_neg_of_neg_of_pos h (by omega)
  have hDG:D / G<=D:=Nat.div_le_self _ _;have hNG:N / G<=N:=Nat.div_le_self _ _;have hDG0:0 < D / G:=Nat.div_pos (Nat.le_of_dvd (by omega) (by rw [hG];exact Nat.gcd_dvd_right _ _)) hG0;have hwz:decide (z < 0)=true->IntKind.i64.wrap (0 - z)=((N:Nat):Int):=λh=>by
   have:=of_decide_eq_true h;rw [wrap64 (by omega) (by omega)];omega
  have hwz2:decide (z < 0)=false->z=((N:Nat):Int):=λh=>by
   have:=of_decide_eq_false h;omega
  with_unfolding_all refine⟨Unit,λ_=>True,λ_=>aa [(0,.val (.int .i64 (N:Nat))),(1,.val (.int .i64 (D:Nat))),(4,.ptr 0 0 0 0),(5,.ptr 1 1 0 0)] [aZ false ⟨#[]⟩ ⟨#[]⟩ 0,aZ (decide (z < 0)) ⟨#[]⟩ ⟨#[]⟩ 1] 2 [],⟨λh1=>⟨(),[some 0,some 1],trivial,Wo ⟨qX,qX,qQ⟩ ⟨congrArg (λx=>PV.val (.int .i64 x)) (hwz h1),rfl,pP,pP,qQ⟩ trivial⟩,λh1=>⟨(),[some 0,some 1],trivial,Wo ⟨qX,qX,qQ⟩ ⟨congrArg (λx=>PV.val (.int .i64 x)) (hwz2 h1),rfl,pP,pP,qQ⟩ trivial⟩⟩,λ_ _=>⟨λh1=>⟨[some 0],aa [(4,.ptr 0 0 0 0)] [aZ (decide ((mkRat z D).num < 0)) (ah (mkRat z D).num.natAbs) (aO (mkRat z D).den) 0] 1 [],Wo ⟨qZ ⟨⟨?_,rfl⟩,⟨?_,rfl⟩,⟨?_,rfl⟩,qQ⟩,qQ⟩ ⟨pP,qQ⟩ trivial,rfl,rfl⟩,λh1=>?_⟩⟩
  ·have h1:N=0:=by simpa using h1
   have hz0:z=0:=by omega
   rw [hz0,Rat.zero_mkRat];rfl
  ·have h1:N=0:=by simpa using h1
   have hz0:z=0:=by omega
   rw [hz0,Rat.zero_mkRat];show PV.val (.string ⟨#[]⟩)=PV.val (.string (ah 0));rw [dN]
  ·have h1:N=0:=by simpa using h1
   have hz0:z=0:=by omega
   rw [hz0,Rat.zero_mkRat];rfl
  ·have h1:N≠0:=by simpa using h1
   with_unfolding_all refine⟨Unit,λ_=>True,λ_=>aa [(0,.val (.int .i64 (N:Nat))),(1,.val (.int .i64 (D:Nat))),(4,.ptr 0 0 0 0),(5,.ptr 1 1 0 0),(6,.val (.int .i64 (G:Nat)))] [aZ false ⟨#[]⟩ ⟨#[]⟩ 0,aZ (decide (z < 0)) ⟨#[]⟩ ⟨#[]⟩ 1] 2 [],⟨Nat×Nat,λp=>Nat.gcd p.1 p.2=G,λp=>aa [(0,.val (.int .i64 (N:Nat))),(1,.val (.int .i64 (D:Nat))),(4,.ptr 0 0 0 0),(5,.ptr 1 1 0 0),(6,.val (.int .i64 (p.1:Nat))),(7,.val (.int .i64 (p.2:Nat)))] [aZ false ⟨#[]⟩ ⟨#[]⟩ 0,aZ (decide (z < 0)) ⟨#[]⟩ ⟨#[]⟩ 1] 2 [],λp=>p.2,⟨(N,D),[some 0,some 1],hG.symm,Wo ⟨qX,qX,qQ⟩ ⟨rfl,rfl,pP,pP,rfl,rfl,qQ⟩ trivial⟩,λp hp=>?_⟩,λ_ _=>?_⟩
   ·obtain⟨x,y⟩:=p;replace hp:Nat.gcd x y=G:=hp;with_unfolding_all refine⟨λh2=>?_,λh2=>⟨(),[some 0,some 1],trivial,Wo ⟨qX,qX,qQ⟩ ⟨rfl,rfl,pP,pP,?_,qQ⟩ trivial⟩⟩
    ·have h2:=of_decide_eq_true h2;have h3:0 < y:=by omega
     with_unfolding_all refine⟨by omega,(y,x%y),[some 0,some 1],?_,Nat.mod_lt _ h3,Wo ⟨qX,qX,qQ⟩ ⟨rfl,rfl,pP,pP,rfl,rfl,qQ⟩ trivial⟩
     show Nat.gcd y (x%y)=G;rw [<-hp,Nat.gcd_comm x y,Nat.gcd_rec y x,Nat.gcd_comm]
    ·have h2:=of_decide_eq_false h2;have h3:y=0:=by omega
     have h4:x=G:=by rw [<-hp,h3,Nat.gcd_zero_right]
     exact congrArg (λn:Nat=>PV.val (.int .i64 n)) h4
   ·have hG1:((G:Nat):Int)≠0:=by omega
    have hw1:IntKind.i64.wrap (((N:Nat):Int).tdiv ((G:Nat):Int))=((N / G:Nat):Int):=by
     show IntKind.i64.wrap ((N / G:Nat):Int)=_;generalize N / G=x at *
     rw [wrap64 (by omega) (by omega)]
    have hw2:IntKind.i64.wrap (((D:Nat):Int).tdiv ((G:Nat):Int))=((D / G:Nat):Int):=by
     show IntKind.i64.wrap ((D / G:Nat):Int)=_;generalize D / G=x at *
     rw [wrap64 (by omega) (by omega)]
    have b1:∀w:Int,w=((N / G:Nat):Int)->0<=w/\w < 72057594037927936:=λw h=>by
     rw [h];generalize N / G=x at *
     omega
    have b2:∀w:Int,w=((D / G:Nat):Int)->0<=w/\w < 72057594037927936:=λw h=>by
     rw [h];generalize D / G=x at *
     omega
    have v1:PV.val (.string (ah (IntKind.i64.wrap (((N:Nat):Int).tdiv ((G:Nat):Int))).toNat))=PV.val (.string (ah (mkRat z D).num.natAbs)):=by rw [hw1,Int.toNat_natCast,hq1]
    have v2:decide (IntKind.i64.wrap (((D:Nat):Int).tdiv ((G:Nat):Int)) > 1)=true->PV.val (.string (ah (IntKind.i64.wrap (((D:Nat):Int).tdiv ((G:Nat):Int))).toNat))=PV.val (.string (aO (mkRat z D).den)):=λh=>by
     have h:=of_decide_eq_true h;rw [hw2] at h;rw [hw2,Int.toNat_natCast,hq2,aO,if_neg];generalize D / G=x at *
     omega
    have v3:decide (IntKind.i64.wrap (((D:Nat):Int).tdiv ((G:Nat):Int)) > 1)=false->PV.val (.string ⟨#[]⟩)=PV.val (.string (aO (mkRat z D).den)):=λh=>by
     have h:=of_decide_eq_false h;rw [hw2] at h;rw [hq2,aO,if_pos];generalize D / G=x at *
     omega
    with_unfolding_all refine⟨hG1,b1 _ hw1,Unit,λ_=>True,λ_=>aa [(4,.ptr 0 0 0 0),(5,.ptr 1 1 0 0)] [aZ false ⟨#[]⟩ ⟨#[]⟩ 0,aZ (decide ((mkRat z D).num < 0)) (ah (mkRat z D).num.natAbs) (aO (mkRat z D).den) 1] 2 [],⟨hG1,λh2=>⟨hG1,b2 _ hw2,(),[some 0,some 1],trivial,Wo ⟨qX,qZ ⟨⟨congrArg (λx=>PV.val (.bool x)) hq3,rfl⟩,⟨v1,rfl⟩,⟨v2 h2,rfl⟩,qQ⟩,qQ⟩ ⟨pP,pP,qQ⟩ trivial⟩,λh2=>⟨(),[some 0,some 1],trivial,Wo ⟨qX,qZ ⟨⟨congrArg (λx=>PV.val (.bool x)) hq3,rfl⟩,⟨v1,rfl⟩,⟨v3 h2,rfl⟩,qQ⟩,qQ⟩ ⟨pP,pP,qQ⟩ trivial⟩⟩,λ_ _=>⟨[some 0],aa [(4,.ptr 0 0 0 0)] [aZ (decide ((mkRat z D).num < 0)) (ah (mkRat z D).num.natAbs) (aO (mkRat z D).den) 0] 1 [],Wo ⟨qX,qQ⟩ ⟨pP,qQ⟩ trivial,rfl,rfl⟩⟩
 ·cases e
end Go.Proofs
namespace Go.Num
theorem yE:ah 1=(⟨#[1]⟩:ByteArray):=by
 have h:fZ 1=[1]:=by rw [jH (by decide)];simp [cY]
 simp [ah,h]
theorem rH {n:Nat}:((ah n).toList==(⟨#[1]⟩:ByteArray).toList)=decide (n=1):=by
 by_cases h:n=1
 ·rw [h,yE,beq_self_eq_true];rfl
 ·rw [decide_eq_false h];refine Bool.eq_false_iff.2 λe=>h ?_;have e:=eq_of_beq e;rw [cz,cz] at e;have:=congrArg c8 e;have hb:=aH n;unfold bv at hb;rw [hb] at this;rw [this];rfl
end Go.Num
namespace Go.Proofs
def tP:List PV->Option Ans
 |[.val v]=>some ⟨some (isRk 17179869184 v),.val (.tuple ⟨[ay (cI v),ay (bO v:Nat)]⟩),[]⟩
 |_=>none
def D182:Opt:={ join:=ez [3],all:=jh [(5,.alt 0 (.alt 1 (OT.seq [2,3] .nil) (OT.seq [2,1,3] .nil)) (OT.seq [1,0,2,3] .nil))] }
theorem Fp:am D182.toOrd Tryz.f182 1=true:=by kernel_rfl
theorem f182:FnOk Tryz.prog 182 tP:=by
 refine FnOk.ofW aj (an (l:=[(225,wU),(226,rC)]) (own:=[]) (inl:=[]) (by simp [f225,f226]) (by simp)) Tryz.func182 D182 1 Fp λargs r e=>?_;unfold tP at e;split at e
 ·rename_i v
  cases e;refine⟨by simp,λhm=>?_⟩;obtain⟨s,b,c,rfl,hb,hc⟩:=hm _ rfl;refine⟨[],aa [(0,.val (.agg ⟨[.bool s,.string b,.string c]⟩))] [] 0 [],Wo trivial ⟨rfl,qQ⟩ trivial,?_⟩;have z2:PV.val (.string ⟨#[]⟩)=PV.val (.string (ah (0:Int).natAbs)):=by rw [show(0:Int).natAbs=0 from rfl,dy]
  have hw1:aJ (.agg ⟨[.bool s,.string b]⟩)+aJ (.agg ⟨[.bool false,.string ⟨#[]⟩]⟩)=az s (bv b):=Int.add_zero _;have hw2:aJ (.agg ⟨[.bool false,.string c]⟩)+aJ (.agg ⟨[.bool false,.string ⟨#[]⟩]⟩)=((bv c:Nat):Int):=Int.add_zero _;have d1:((ah (aJ (.agg ⟨[.bool false,.string c]⟩)+aJ (.agg ⟨[.bool false,.string ⟨#[]⟩]⟩)).natAbs).toList==(⟨#[]⟩:ByteArray).toList)=true->(1:Int)=(bq (bv c):Nat):=λh=>by
   rw [hw2,cV] at h;have h:bv c=0:=of_decide_eq_true h;rw [h];rfl
  have d2:((ah (aJ (.agg ⟨[.bool false,.string c]⟩)+aJ (.agg ⟨[.bool false,.string ⟨#[]⟩]⟩)).natAbs).toList==(⟨#[]⟩:ByteArray).toList)=false->aJ (.agg ⟨[.bool false,.string c]⟩)+aJ (.agg ⟨[.bool false,.string ⟨#[]⟩]⟩)=(bq (bv c):Nat):=λh=>by
   rw [hw2,cV] at h;have h:bv c≠0:=of_decide_eq_false h;rw [hw2,o0 h]
  with_unfolding_all refine⟨⟨⟨_,_,rfl,hb⟩,_,_,rfl,by decide⟩,⟨⟨_,_,rfl,hc⟩,_,_,rfl,by decide⟩,Unit,λ_=>True,λ_=>aa [(2,.ptr 0 0 0 0),(3,.ptr 1 1 0 0),(4,.ptr 2 2 0 0),(5,.ptr 3 3 0 0)] [a8 0 0,a8 0 1,a8 (az s (bv b)) 2,a8 (bq (bv c):Nat) 3] 4 [],⟨λh=>⟨by decide,⟨(),[some 1,some 2,some 3,some 4],trivial,Wo ⟨qZ ⟨rq,⟨z2,rfl⟩,qQ⟩,qZ ⟨rq,⟨z2,rfl⟩,qQ⟩,qZ ⟨⟨congrArg (λz:Int=>PV.val (.bool (decide (z < 0)))) hw1,rfl⟩,⟨congrArg (λz:Int=>PV.val (.string (ah z.natAbs))) hw1,rfl⟩,qQ⟩,qZ ⟨⟨congrArg (λz:Int=>PV.val (.bool (decide (z < 0)))) (d1 h),rfl⟩,⟨congrArg (λz:Int=>PV.val (.string (ah z.natAbs))) (d1 h),rfl⟩,qQ⟩,qQ⟩ ⟨pP,pP,pP,pP,qQ⟩ trivial⟩⟩,λh=>⟨(),[some 1,some 2,some 3,some 4],trivial,Wo ⟨qZ ⟨rq,⟨z2,rfl⟩,qQ⟩,qZ ⟨rq,⟨z2,rfl⟩,qQ⟩,qZ ⟨⟨congrArg (λz:Int=>PV.val (.bool (decide (z < 0)))) hw1,rfl⟩,⟨congrArg (λz:Int=>PV.val (.string (ah z.natAbs))) hw1,rfl⟩,qQ⟩,qZ ⟨⟨congrArg (λz:Int=>PV.val (.bool (decide (z < 0)))) (d2 h),rfl⟩,⟨congrArg (λz:Int=>PV.val (.string (ah z.natAbs))) (d2 h),rfl⟩,qQ⟩,qQ⟩ ⟨pP,pP,pP,pP,qQ⟩ trivial⟩⟩,λ_ _=>⟨⟨⟨[some 0,some 1],aa [(2,.ptr 0 0 0 0),(3,.ptr 1 1 0 0)] [a8 (az s (bv b)) 0,a8 (bq (bv c):Nat) 1] 2 [],Wo ⟨qJ,qJ,qQ⟩ ⟨pP,pP,qQ⟩ trivial,rfl,rfl⟩,⟨[some 0,some 1],aa [(2,.ptr 0 0 0 0),(3,.ptr 1 1 0 0)] [a8 (az s (bv b)) 0,a8 (bq (bv c):Nat) 1] 2 [],Wo ⟨qJ,qJ,qQ⟩ ⟨pP,pP,qQ⟩ trivial,rfl,rfl⟩⟩,⟨[some 0,some 1],aa [(2,.ptr 0 0 0 0),(3,.ptr 1 1 0 0)] [a8 (az s (bv b)) 0,a8 (bq (bv c):Nat) 1] 2 [],Wo ⟨qJ,qJ,qQ⟩ ⟨pP,pP,qQ⟩ trivial,rfl,rfl⟩⟩⟩
 ·cases e
def wW:List PV->Option Ans
 |[.val v,.val u]=>some ⟨some ((c9 8589934592 v/\c9 8589934592 u)/\aJ u≠0),.val (aw (Rat.divInt (aJ v) (aJ u))),[]⟩
 |_=>none
def D183:Opt:={ join:=ez [4,10],perm:=oM [(1,[(0,true),(1,true),(3,true),(4,true),(2,false),(5,false)]),(5,[(0,true),(2,true),(1,false),(3,false)])] }
theorem Fq:am D183.toOrd Tryz.f183 2=true:=by kernel_rfl
theorem f183:FnOk Tryz.prog 183 wW:=by
 refine FnOk.ofW aj (an (l:=[(225,wU),(227,yx),(228,CF),(229,CE)]) (own:=[]) (inl:=[]) (by simp [f225,f227,f228,f229]) (by simp)) Tryz.func183 D183 2 Fq λargs r e=>?_;unfold wW at e;split at e
 ·rename_i v u
  cases e;refine⟨by simp,λhm=>?_⟩;obtain⟨⟨⟨s,b,rfl,hb⟩,q,c,rfl,hc⟩,hne⟩:=hm _ rfl;refine⟨[],aa [(0,.val (.agg ⟨[.bool s,.string b]⟩)),(1,.val (.agg ⟨[.bool q,.string c]⟩))] [] 0 [],Wo trivial ⟨rfl,rfl,qQ⟩ trivial,?_⟩;have hw1:aJ (.agg ⟨[.bool s,.string b]⟩)+aJ (.agg ⟨[.bool false,.string ⟨#[]⟩]⟩)=aJ (.agg ⟨[.bool s,.string b]⟩):=Int.add_zero _;have hw2:aJ (.agg ⟨[.bool q,.string c]⟩)+aJ (.agg ⟨[.bool false,.string ⟨#[]⟩]⟩)=aJ (.agg ⟨[.bool q,.string c]⟩):=Int.add_zero _;have i1:c9 17179869184 (.agg ⟨[.bool s,.string b]⟩):=⟨_,_,rfl,by omega⟩;have i2:c9 17179869184 (.agg ⟨[.bool q,.string c]⟩):=⟨_,_,rfl,by omega⟩;have hXb:=bK b;have hYb:=bK c;have hX:(aJ (.agg ⟨[.bool s,.string b]⟩)).natAbs=bv b:=aI _ _;have hY:(aJ (.agg ⟨[.bool q,.string c]⟩)).natAbs=bv c:=aI _ _;rw [<-hX] at hXb;rw [<-hY] at hYb;have hxs:=aY hXb;have hys:=aY hYb;obtain⟨X,hXe⟩:∃X,X=aJ (.agg ⟨[.bool s,.string b]⟩):=⟨_,rfl⟩;obtain⟨Y,hYe⟩:∃Y,Y=aJ (.agg ⟨[.bool q,.string c]⟩):=⟨_,rfl⟩;rw [<-hXe] at hw1 hX hXb hxs;rw [<-hYe] at hw2 hY hYb hys hne;have hv:PV.val (aw (Rat.divInt (aJ (.agg ⟨[.bool s,.string b]⟩)) (aJ (.agg ⟨[.bool q,.string c]⟩))))=PV.val (aw (Rat.divInt X Y)):=by rw [hXe,hYe]
  rw [hv];clear hv;have hr:∀Z:Int,aJ (.agg ⟨[.bool (decide (Z < 0)),.string (ah Z.natAbs)]⟩)=Z:=av;obtain⟨X',hX'⟩:∃X',X'=if Y < 0 then -X else X:=⟨_,rfl⟩
  obtain⟨D,hD⟩:∃D,D=Y.natAbs:=⟨_,rfl⟩;have hXa:X'.natAbs=X.natAbs:=by rw [hX'];split<;>omega
  have hQ:Rat.divInt X Y=mkRat X' D:=by
   rw [hX'];split
   ·rename_i h
    rw [<-Rat.divInt_ofNat,<-Rat.neg_divInt_neg,show((D:Nat):Int) = -Y by omega]
   ·rename_i h
    rw [<-Rat.divInt_ofNat,show((D:Nat):Int)=Y by omega]
  obtain⟨G,hG⟩:∃G,G=Nat.gcd X'.natAbs D:=⟨_,rfl⟩;have hG0:0 < G:=by rw [hG];exact Nat.gcd_pos_of_pos_right _ (by omega)
  have hGX:((G:Nat):Int)∣X':=Int.natAbs_dvd_natAbs.1 (by rw [hG];exact Nat.gcd_dvd_left _ _);have hGD:((G:Nat):Int)∣((D:Nat):Int):=Int.natAbs_dvd_natAbs.1 (by rw [hG];exact Nat.gcd_dvd_right _ _);have hq1:(mkRat X' D).num=X' / G:=by rw [Rat.num_mkRat,if_neg (by omega),Nat.gcd_comm,<-hG]
  have hq2:(mkRat X' D).den=D / G:=by rw [Rat.den_mkRat,if_neg (by omega),Nat.gcd_comm,<-hG]
  have hxs':(ah X'.natAbs).size<=8589934592:=by rw [hXa];omega
  have hds:(ah D).size<=8589934592:=by rw [hD];omega
  have hGs:(ah G).size<=8589934592:=by
   refine Nat.le_trans (aY (k:=(ah D).size) ?_) hds;have h1:=bK (ah D);rw [aH] at h1;have:=Nat.le_of_dvd (show 0 < D by omega) (show G∣D by rw [hG];exact Nat.gcd_dvd_right _ _);omega
  have hwx:(aJ (.agg ⟨[.bool s,.string b]⟩)+aJ (.agg ⟨[.bool false,.string ⟨#[]⟩]⟩))=X:=by rw [hXe];exact Int.add_zero _
  have hwy:(aJ (.agg ⟨[.bool q,.string c]⟩)+aJ (.agg ⟨[.bool false,.string ⟨#[]⟩]⟩))=Y:=by rw [hYe];exact Int.add_zero _
  have s1:(ah (aJ (.agg ⟨[.bool s,.string b]⟩)+aJ (.agg ⟨[.bool false,.string ⟨#[]⟩]⟩)).natAbs).size<=34359738368:=by rw [hwx];omega
  have s2:(ah (aJ (.agg ⟨[.bool q,.string c]⟩)+aJ (.agg ⟨[.bool false,.string ⟨#[]⟩]⟩)).natAbs).size<=34359738368:=by rw [hwy];omega
  with_unfolding_all refine⟨⟨i1,_,_,rfl,by decide⟩,⟨i2,_,_,rfl,by decide⟩,λh1=>?_,λh1=>⟨Unit,λ_=>True,λ_=>aa [(2,.ptr 0 0 0 0),(3,.ptr 1 1 0 0),(4,.ptr 2 2 0 0)] [a8 X' 0,a8 (D:Nat) 1,aZ false ⟨#[]⟩ ⟨#[]⟩ 2] 3 [],⟨λh2=>⟨⟨_,_,rfl,s1⟩,⟨_,_,rfl,s2⟩,⟨(),[some 0,some 1,some 2],trivial,Wo ⟨qZ ⟨⟨?_,rfl⟩,⟨?_,rfl⟩,qQ⟩,qZ ⟨⟨?_,rfl⟩,⟨?_,rfl⟩,qQ⟩,qX,qQ⟩ ⟨pP,pP,pP,qQ⟩ trivial⟩⟩,λh2=>⟨(),[some 0,some 1,some 2],trivial,Wo ⟨qZ ⟨⟨?_,rfl⟩,⟨?_,rfl⟩,qQ⟩,qZ ⟨⟨?_,rfl⟩,⟨?_,rfl⟩,qQ⟩,qX,qQ⟩ ⟨pP,pP,pP,qQ⟩ trivial⟩⟩,λ_ _=>?_⟩⟩
  ·have h1:((ah (aJ (.agg ⟨[.bool s,.string b]⟩)+aJ (.agg ⟨[.bool false,.string ⟨#[]⟩]⟩)).natAbs).toList==(⟨#[]⟩:ByteArray).toList)=true:=h1;rw [hwx,cV] at h1;have h1:=of_decide_eq_true h1;have hX0:X=0:=by omega
   have hz:Rat.divInt X Y=0:=by rw [hX0,Rat.zero_divInt]
   rw [hz];have z2:PV.val (.string ⟨#[]⟩)=PV.val (.string (ah 0)):=by rw [dy]
   with_unfolding_all exact⟨[some 2],aa [(4,.ptr 0 0 0 0)] [aZ false (ah 0) ⟨#[]⟩ 0] 1 [],Wo ⟨qZ ⟨rq,⟨z2,rfl⟩,rq,qQ⟩,qQ⟩ ⟨pP,qQ⟩ trivial,rfl,rfl⟩
  ·have h2:(aJ (.agg ⟨[.bool q,.string c]⟩)+aJ (.agg ⟨[.bool false,.string ⟨#[]⟩]⟩)) < 0:=of_decide_eq_true h2;rw [hwy] at h2;show PV.val (.bool (decide (-(aJ (ay (aJ (.agg ⟨[.bool s,.string b]⟩)+aJ (.agg ⟨[.bool false,.string ⟨#[]⟩]⟩)))) < 0)))=PV.val (.bool (decide (X' < 0)));rw [av,hwx,hX',if_pos h2]
  ·have h2:(aJ (.agg ⟨[.bool q,.string c]⟩)+aJ (.agg ⟨[.bool false,.string ⟨#[]⟩]⟩)) < 0:=of_decide_eq_true h2;rw [hwy] at h2;show PV.val (.string (ah (-(aJ (ay (aJ (.agg ⟨[.bool s,.string b]⟩)+aJ (.agg ⟨[.bool false,.string ⟨#[]⟩]⟩))))).natAbs))=PV.val (.string (ah X'.natAbs));rw [av,hwx,hX',if_pos h2]
  ·have h2:(aJ (.agg ⟨[.bool q,.string c]⟩)+aJ (.agg ⟨[.bool false,.string ⟨#[]⟩]⟩)) < 0:=of_decide_eq_true h2;rw [hwy] at h2;show PV.val (.bool (decide (-(aJ (ay (aJ (.agg ⟨[.bool q,.string c]⟩)+aJ (.agg ⟨[.bool false,.string ⟨#[]⟩]⟩)))) < 0)))=PV.val (.bool (decide (((D:Nat):Int) < 0)));rw [av,hwy,show -Y=((D:Nat):Int) by omega]
  ·have h2:(aJ (.agg ⟨[.bool q,.string c]⟩)+aJ (.agg ⟨[.bool false,.string ⟨#[]⟩]⟩)) < 0:=of_decide_eq_true h2;rw [hwy] at h2;show PV.val (.string (ah (-(aJ (ay (aJ (.agg ⟨[.bool q,.string c]⟩)+aJ (.agg ⟨[.bool false,.string ⟨#[]⟩]⟩))))).natAbs))=PV.val (.string (ah (((D:Nat):Int)).natAbs));rw [av,hwy,show -Y=((D:Nat):Int) by omega]
  ·have h2:¬(aJ (.agg ⟨[.bool q,.string c]⟩)+aJ (.agg ⟨[.bool false,.string ⟨#[]⟩]⟩)) < 0:=of_decide_eq_false h2;rw [hwy] at h2;show PV.val (.bool (decide ((aJ (.agg ⟨[.bool s,.string b]⟩)+aJ (.agg ⟨[.bool false,.string ⟨#[]⟩]⟩)) < 0)))=PV.val (.bool (decide (X' < 0)));rw [hwx,hX',if_neg h2]
  ·have h2:¬(aJ (.agg ⟨[.bool q,.string c]⟩)+aJ (.agg ⟨[.bool false,.string ⟨#[]⟩]⟩)) < 0:=of_decide_eq_false h2;rw [hwy] at h2;show PV.val (.string (ah (aJ (.agg ⟨[.bool s,.string b]⟩)+aJ (.agg ⟨[.bool false,.string ⟨#[]⟩]⟩)).natAbs))=PV.val (.string (ah X'.natAbs));rw [hwx,hX',if_neg h2]
  ·have h2:¬(aJ (.agg ⟨[.bool q,.string c]⟩)+aJ (.agg ⟨[.bool false,.string ⟨#[]⟩]⟩)) < 0:=of_decide_eq_false h2;rw [hwy] at h2;show PV.val (.bool (decide ((aJ (.agg ⟨[.bool q,.string c]⟩)+aJ (.agg ⟨[.bool false,.string ⟨#[]⟩]⟩)) < 0)))=PV.val (.bool (decide (((D:Nat):Int) < 0)));rw [hwy,show Y=((D:Nat):Int) by omega]
  ·have h2:¬(aJ (.agg ⟨[.bool q,.string c]⟩)+aJ (.agg ⟨[.bool false,.string ⟨#[]⟩]⟩)) < 0:=of_decide_eq_false h2;rw [hwy] at h2;show PV.val (.string (ah (aJ (.agg ⟨[.bool q,.string c]⟩)+aJ (.agg ⟨[.bool false,.string ⟨#[]⟩]⟩)).natAbs))=PV.val (.string (ah (((D:Nat):Int)).natAbs));rw [hwy,<-hD];rfl
  ·rw [hQ];have hgx:aJ (ay (((aJ (ay X')).natAbs.gcd (aJ (ay ((D:Nat):Int))).natAbs:Nat):Int))=((G:Nat):Int):=by rw [av,av,av,hG];rfl
   have hgs:(ah ((((aJ (ay X')).natAbs.gcd (aJ (ay ((D:Nat):Int))).natAbs:Nat):Int)).natAbs).size<=8589934592:=by rw [av,av];show(ah (Nat.gcd X'.natAbs D)).size<=_;rw [<-hG];exact hGs
   have p1:0 < aJ (ay (((aJ (ay X')).natAbs.gcd (aJ (ay ((D:Nat):Int))).natAbs:Nat):Int)):=by rw [hgx];omega
   have p2:aJ (ay (((aJ (ay X')).natAbs.gcd (aJ (ay ((D:Nat):Int))).natAbs:Nat):Int))∣aJ (ay X'):=by rw [hgx,av];exact hGX
   have p3:aJ (ay (((aJ (ay X')).natAbs.gcd (aJ (ay ((D:Nat):Int))).natAbs:Nat):Int))∣aJ (ay ((D:Nat):Int)):=by rw [hgx,av];exact hGD
   have hqx:(aJ (ay X') / aJ (ay (((aJ (ay X')).natAbs.gcd (aJ (ay ((D:Nat):Int))).natAbs:Nat):Int)))=(mkRat X' D).num:=by rw [hgx,av,hq1]
   have hqd:(aJ (ay ((D:Nat):Int)) / aJ (ay (((aJ (ay X')).natAbs.gcd (aJ (ay ((D:Nat):Int))).natAbs:Nat):Int)))=(((mkRat X' D).den:Nat):Int):=by rw [hgx,av,hq2];rfl
   have v1:PV.val (.bool (decide ((aJ (ay X') / aJ (ay (((aJ (ay X')).natAbs.gcd (aJ (ay ((D:Nat):Int))).natAbs:Nat):Int))) < 0)))=PV.val (.bool (decide ((mkRat X' D).num < 0))):=by rw [hqx]
   have v2:PV.val (.string (ah (aJ (ay X') / aJ (ay (((aJ (ay X')).natAbs.gcd (aJ (ay ((D:Nat):Int))).natAbs:Nat):Int))).natAbs))=PV.val (.string (ah (mkRat X' D).num.natAbs)):=by rw [hqx]
   have v3:(!((ah (aJ (ay ((D:Nat):Int)) / aJ (ay (((aJ (ay X')).natAbs.gcd (aJ (ay ((D:Nat):Int))).natAbs:Nat):Int))).natAbs).toList==(⟨#[1]⟩:ByteArray).toList))=true->PV.val (.string (ah (aJ (ay ((D:Nat):Int)) / aJ (ay (((aJ (ay X')).natAbs.gcd (aJ (ay ((D:Nat):Int))).natAbs:Nat):Int))).natAbs))=PV.val (.string (aO (mkRat X' D).den)):=λh=>by
    rw [rH,hqd] at h;have h:(mkRat X' D).den≠1:=by simpa using h
    rw [hqd,aO,if_neg h];rfl
   have v4:(!((ah (aJ (ay ((D:Nat):Int)) / aJ (ay (((aJ (ay X')).natAbs.gcd (aJ (ay ((D:Nat):Int))).natAbs:Nat):Int))).natAbs).toList==(⟨#[1]⟩:ByteArray).toList))=false->PV.val (.string ⟨#[]⟩)=PV.val (.string (aO (mkRat X' D).den)):=λh=>by
    rw [rH,hqd] at h;have h:(mkRat X' D).den=1:=by simpa using h
    rw [aO,if_pos h]
   with_unfolding_all refine⟨⟨⟨_,_,rfl,hxs'⟩,_,_,rfl,hds⟩,⟨⟨⟨_,_,rfl,hxs'⟩,_,_,rfl,hgs⟩,p1,p2⟩,⟨⟨⟨_,_,rfl,hds⟩,_,_,rfl,hgs⟩,p1,p3⟩,Unit,λ_=>True,λ_=>aa [(4,.ptr 0 0 0 0),(6,.ptr 1 1 0 0)] [aZ false ⟨#[]⟩ ⟨#[]⟩ 0,aZ (decide ((mkRat X' D).num < 0)) (ah (mkRat X' D).num.natAbs) (aO (mkRat X' D).den) 1] 2 [],⟨λh2=>⟨(),[some 2,some 4],trivial,Wo ⟨qX,qZ ⟨⟨v1,rfl⟩,⟨v2,rfl⟩,⟨v3 h2,rfl⟩,qQ⟩,qQ⟩ ⟨pP,pP,qQ⟩ trivial⟩,λh2=>⟨(),[some 2,some 4],trivial,Wo ⟨qX,qZ ⟨⟨v1,rfl⟩,⟨v2,rfl⟩,⟨v4 h2,rfl⟩,qQ⟩,qQ⟩ ⟨pP,pP,qQ⟩ trivial⟩⟩,λ_ _=>⟨[some 0],aa [(4,.ptr 0 0 0 0)] [aZ (decide ((mkRat X' D).num < 0)) (ah (mkRat X' D).num.natAbs) (aO (mkRat X' D).den) 0] 1 [],Wo ⟨qX,qQ⟩ ⟨pP,qQ⟩ trivial,rfl,rfl⟩⟩
 ·cases e
theorem rI (s:Bool) (b c:ByteArray) (q:Rat):(decide (q.num < 0)==s&&(ah q.num.natAbs==b&&(aO q.den==c&&true)))=hO s b c q:=by
 unfold hO;have hb:∀x y:ByteArray,(x==y)=(y==x):=λ⟨x⟩ ⟨y⟩=>by
  show(x==y)=(y==x);exact BEq.comm
 rw [BEq.comm (a:=decide (q.num < 0)),hb (ah _),hb (aO _)]
def Am:List PV->Option Ans
 |[.val v]=>some ⟨some (isRk 4294967296 v),.val (aw (aE v)),[]⟩
 |_=>none
theorem Fr:am {} Tryz.f132 1=true:=by kernel_rfl
theorem f132:FnOk Tryz.prog 132 Am:=by
 refine FnOk.ofW aj (an (l:=[(180,wV),(181,yD),(182,tP),(183,wW)]) (own:=[]) (inl:=[]) (by simp [f180,f181,f182,f183]) (by simp)) Tryz.func132 {} 1 Fr λargs r e=>?_;unfold Am at e;split at e
 ·rename_i v
  cases e;refine⟨by simp,λhm=>?_⟩;have hv:=hm _ rfl;have r1:=hv.R (by decide);obtain⟨s,b,c,rfl,hb,hc⟩:=hv;refine⟨[],aa [(0,.val (.agg ⟨[.bool s,.string b,.string c]⟩))] [] 0 [],Wo trivial ⟨rfl,qQ⟩ trivial,?_⟩;have hbl:=bK b;have hcl:=bK c;have hcd:bq (bv c) < 256^(c.size+1):=by
   rw [Nat.pow_succ];unfold bq;have:=Nat.pow_pos (n:=c.size) (show 0 < 256 by decide);split<;>omega
  have hd0:=bT (bv c);have e0:aE (.agg ⟨[.bool s,.string b,.string c]⟩)=mkRat (cI (.agg ⟨[.bool s,.string b,.string c]⟩)) (bO (.agg ⟨[.bool s,.string b,.string c]⟩)):=rfl;have sN:(cI (.agg ⟨[.bool s,.string b,.string c]⟩)).natAbs=bv b:=aI _ _;have sD:bO (.agg ⟨[.bool s,.string b,.string c]⟩)=bq (bv c):=rfl;have hsm:ce (.agg ⟨[.bool s,.string b,.string c]⟩)=true->b.size<=3/\c.size<=3:=λh=>by
   have h:(decide (b.size<=3)&&decide (c.size<=3))=true:=h;rw [Bool.and_eq_true] at h;exact⟨of_decide_eq_true h.1,of_decide_eq_true h.2⟩
  have k1:ce (.agg ⟨[.bool s,.string b,.string c]⟩)=true->(bif ce (.agg ⟨[.bool s,.string b,.string c]⟩) then cI (.agg ⟨[.bool s,.string b,.string c]⟩) else 0).natAbs < 72057594037927936:=λh=>by
   have h3:256^b.size<=256^3:=Nat.pow_le_pow_right (by decide) (hsm h).1;rw [h,cond_true,sN];omega
  have k2:ce (.agg ⟨[.bool s,.string b,.string c]⟩)=true->0 < (bif ce (.agg ⟨[.bool s,.string b,.string c]⟩) then((bO (.agg ⟨[.bool s,.string b,.string c]⟩):Nat):Int) else 0):=λh=>by
   rw [h,cond_true,sD];omega
  have k3:ce (.agg ⟨[.bool s,.string b,.string c]⟩)=true->(bif ce (.agg ⟨[.bool s,.string b,.string c]⟩) then((bO (.agg ⟨[.bool s,.string b,.string c]⟩):Nat):Int) else 0) < 72057594037927936:=λh=>by
   have h3:256^(c.size+1)<=256^4:=Nat.pow_le_pow_right (by decide) (by have:=(hsm h).2;omega);rw [h,cond_true,sD];omega
  have k4:ce (.agg ⟨[.bool s,.string b,.string c]⟩)=true->mkRat (bif ce (.agg ⟨[.bool s,.string b,.string c]⟩) then cI (.agg ⟨[.bool s,.string b,.string c]⟩) else 0) (bif ce (.agg ⟨[.bool s,.string b,.string c]⟩) then((bO (.agg ⟨[.bool s,.string b,.string c]⟩):Nat):Int) else 0).toNat=aE (.agg ⟨[.bool s,.string b,.string c]⟩):=λh=>by
   rw [h,cond_true,cond_true,Int.toNat_natCast];rfl
  have k5:Rat.divInt (aJ (ay (cI (.agg ⟨[.bool s,.string b,.string c]⟩)))) (aJ (ay ((bO (.agg ⟨[.bool s,.string b,.string c]⟩):Nat):Int)))=aE (.agg ⟨[.bool s,.string b,.string c]⟩):=by
   rw [av,av,Rat.divInt_ofNat];rfl
  have j1:c9 8589934592 (ay (cI (.agg ⟨[.bool s,.string b,.string c]⟩))):=bA (k:=b.size) (by rw [sN];exact hbl) (by omega);have j2:c9 8589934592 (ay ((bO (.agg ⟨[.bool s,.string b,.string c]⟩):Nat):Int)):=bA (k:=c.size+1) (by rw [sD];exact hcd) (by omega);have j3:aJ (ay ((bO (.agg ⟨[.bool s,.string b,.string c]⟩):Nat):Int))≠0:=by rw [av,sD];omega
  with_unfolding_all refine⟨r1,λh=>⟨⟨k1 h,k2 h,k3 h⟩,[some 1],aa [(2,.ptr 0 0 0 0)] [aZ (decide ((aE (.agg ⟨[.bool s,.string b,.string c]⟩)).num < 0)) (ah (aE (.agg ⟨[.bool s,.string b,.string c]⟩)).num.natAbs) (aO (aE (.agg ⟨[.bool s,.string b,.string c]⟩)).den) 0] 1 [],Wo ⟨qZ ⟨⟨congrArg (λq:Rat=>PV.val (.bool (decide (q.num < 0)))) (k4 h),rfl⟩,⟨congrArg (λq:Rat=>PV.val (.string (ah q.num.natAbs))) (k4 h),rfl⟩,⟨congrArg (λq:Rat=>PV.val (.string (aO q.den))) (k4 h),rfl⟩,qQ⟩,qQ⟩ ⟨pP,qQ⟩ trivial,rfl,rfl⟩,λh=>⟨⟨_,_,_,rfl,by omega,by omega⟩,⟨⟨j1,j2⟩,j3⟩,[some 1],aa [(2,.ptr 0 0 0 0)] [aZ (decide ((aE (.agg ⟨[.bool s,.string b,.string c]⟩)).num < 0)) (ah (aE (.agg ⟨[.bool s,.string b,.string c]⟩)).num.natAbs) (aO (aE (.agg ⟨[.bool s,.string b,.string c]⟩)).den) 0] 1 [],Wo ⟨qZ ⟨⟨congrArg (λq:Rat=>PV.val (.bool (decide (q.num < 0)))) k5,rfl⟩,⟨congrArg (λq:Rat=>PV.val (.string (ah q.num.natAbs))) k5,rfl⟩,⟨congrArg (λq:Rat=>PV.val (.string (aO q.den))) k5,rfl⟩,qQ⟩,qQ⟩ ⟨pP,qQ⟩ trivial,rfl,rfl⟩⟩
 ·cases e
def Hl:List PV->Option Ans
 |[.val v]=>some ⟨some (isRk 4294967296 v),.val (.int .i64 (bif bl v then 0 else 1)),[]⟩
 |_=>none
def D96:Opt:={ perm:=jm 1 [(0,true),(2,true),(1,false)] }
theorem Hm:am D96.toOrd Tryz.f96 1=true:=by kernel_rfl
theorem f96:FnOk Tryz.prog 96 Hl:=by
 refine FnOk.ofW aj (an (l:=[(132,Am)]) (own:=[]) (inl:=[]) (by simp [f132]) (by simp)) Tryz.func96 D96 1 Hm λargs r e=>?_;unfold Hl at e;split at e
 ·rename_i v
  cases e;refine⟨by simp,λhm=>?_⟩;have hv:=hm _ rfl;obtain⟨s,b,c,rfl,hb,hc⟩:=hv;refine⟨[],aa [(0,.val (.agg ⟨[.bool s,.string b,.string c]⟩))] [] 0 [],Wo trivial ⟨rfl,qQ⟩ trivial,?_⟩;have E:(decide ((aE (.agg ⟨[.bool s,.string b,.string c]⟩)).num < 0)==s&&(ah (aE (.agg ⟨[.bool s,.string b,.string c]⟩)).num.natAbs==b&&(aO (aE (.agg ⟨[.bool s,.string b,.string c]⟩)).den==c&&true)))=bl (.agg ⟨[.bool s,.string b,.string c]⟩):=rI s b c (aE (.agg ⟨[.bool s,.string b,.string c]⟩));have t1:(!(decide ((aE (.agg ⟨[.bool s,.string b,.string c]⟩)).num < 0)==s&&(ah (aE (.agg ⟨[.bool s,.string b,.string c]⟩)).num.natAbs==b&&(aO (aE (.agg ⟨[.bool s,.string b,.string c]⟩)).den==c&&true))))=true->PV.val (.int .i64 1)=PV.val (.int .i64 (bif bl (.agg ⟨[.bool s,.string b,.string c]⟩) then 0 else 1)):=λh=>by
   rw [E] at h;cases hc:bl (.agg ⟨[.bool s,.string b,.string c]⟩) with
   |true=>rw [hc] at h;cases h
   |false=>rfl
  have t2:(!(decide ((aE (.agg ⟨[.bool s,.string b,.string c]⟩)).num < 0)==s&&(ah (aE (.agg ⟨[.bool s,.string b,.string c]⟩)).num.natAbs==b&&(aO (aE (.agg ⟨[.bool s,.string b,.string c]⟩)).den==c&&true))))=false->PV.val (.int .i64 0)=PV.val (.int .i64 (bif bl (.agg ⟨[.bool s,.string b,.string c]⟩) then 0 else 1)):=λh=>by
   rw [E] at h;cases hc:bl (.agg ⟨[.bool s,.string b,.string c]⟩) with
   |true=>rfl
   |false=>rw [hc] at h;cases h
  with_unfolding_all refine⟨⟨_,_,_,rfl,hb,hc⟩,λh=>⟨[],aa [(2,.val (.int .i64 (bif bl (.agg ⟨[.bool s,.string b,.string c]⟩) then 0 else 1)))] [] 0 [],Wo trivial ⟨t1 h,qQ⟩ trivial,rfl,rfl⟩,λh=>⟨[],aa [(2,.val (.int .i64 (bif bl (.agg ⟨[.bool s,.string b,.string c]⟩) then 0 else 1)))] [] 0 [],Wo trivial ⟨t2 h,qQ⟩ trivial,rfl,rfl⟩⟩
 ·cases e
end Go.Proofs
namespace Go.Num
structure RatS where
 s:Bool
 b:ByteArray
 c:ByteArray
structure PtS where
 x:RatS
 y:RatS
def RatS.v (r:RatS):Value:=.agg ⟨[.bool r.s,.string r.b,.string r.c]⟩
def RatS.cells (r:RatS):List PV:=[.val (.bool r.s),.val (.string r.b),.val (.string r.c)]
def PtS.v (p:PtS):Value:=.agg ⟨[.bool p.x.s,.string p.x.b,.string p.x.c,.bool p.y.s,.string p.y.b,.string p.y.c]⟩
def PtS.cells (p:PtS):List PV:=[.val (.bool p.x.s),.val (.string p.x.b),.val (.string p.x.c),.val (.bool p.y.s),.val (.string p.y.b),.val (.string p.y.c)]
def cr:List PV->PtS
 |[.val (.bool s),.val (.string b),.val (.string c),.val (.bool t),.val (.string d),.val (.string e)]=>⟨⟨s,b,c⟩,⟨t,d,e⟩⟩
 |_=>⟨⟨false,⟨#[]⟩,⟨#[]⟩⟩,⟨false,⟨#[]⟩,⟨#[]⟩⟩⟩
def aN:Value->PtS
 |.agg ⟨[.bool s,.string b,.string c,.bool t,.string d,.string e]⟩=>⟨⟨s,b,c⟩,⟨t,d,e⟩⟩
 |_=>⟨⟨false,⟨#[]⟩,⟨#[]⟩⟩,⟨false,⟨#[]⟩,⟨#[]⟩⟩⟩
theorem u9 (p:PtS):aN p.v=p:=rfl
def RatS.le (k:Nat) (r:RatS):Prop:=r.b.size<=k/\r.c.size<=k
def PtS.le (k:Nat) (p:PtS):Prop:=p.x.le k/\p.y.le k
def isPk (k:Nat) (v:Value):Prop:=∃p:PtS,v=p.v/\p.le k
theorem RatS.k {r:RatS} {k:Nat} (h:r.le k):isRk k r.v:=⟨_,_,_,rfl,h.1,h.2⟩
end Go.Num
namespace Go.Proofs
def ai (p:PtS):Bool:=bl p.x.v&&bl p.y.v
def bY (b:Bool):Int:=bif b then 0 else 1
def Fs:List PV->Option Ans
 |[.val v]=>some ⟨some (isPk 4294967296 v),.val (.int .i64 (bY (ai (aN v)))),[]⟩
 |_=>none
theorem Hn:am {} Tryz.f59 1=true:=by kernel_rfl
theorem f59:FnOk Tryz.prog 59 Fs:=by
 refine FnOk.ofW aj (an (l:=[(96,Hl)]) (own:=[]) (inl:=[]) (by simp [f96]) (by simp)) Tryz.func59 {} 1 Hn λargs r e=>?_;unfold Fs at e;split at e
 ·rename_i v
  cases e;refine⟨by simp,λhm=>?_⟩;obtain⟨p,rfl,hx,hy⟩:=hm _ rfl;refine⟨[],aa [(0,.val p.v)] [] 0 [],Wo trivial ⟨rfl,qQ⟩ trivial,?_⟩;have hno:∀b:Bool,((bif b then(0:Int) else 1) != 0)=true->b=false:=λb h=>by cases b<;>first|rfl|cases h
  have hyes:∀b:Bool,((bif b then(0:Int) else 1) != 0)=false->b=true:=λb h=>by cases b<;>first|rfl|cases h
  have r1:bl p.x.v=false->PV.val (.int .i64 1)=PV.val (.int .i64 (bY (ai p))):=λh=>by unfold ai;rw [h];rfl
  have r2:bl p.y.v=false->PV.val (.int .i64 1)=PV.val (.int .i64 (bY (ai p))):=λh=>by unfold ai;rw [h,Bool.and_false];rfl
  have r3:bl p.x.v=true->bl p.y.v=true->PV.val (.int .i64 0)=PV.val (.int .i64 (bY (ai p))):=λh h'=>by unfold ai;rw [h,h'];rfl
  with_unfolding_all refine⟨RatS.k hx,λh=>⟨RatS.k hy,λh2=>⟨[],aa [(2,.val (.int .i64 (bY (ai p))))] [] 0 [],Wo trivial ⟨r2 (hno _ h2),qQ⟩ trivial,rfl,rfl⟩,λh2=>⟨[],aa [(2,.val (.int .i64 (bY (ai p))))] [] 0 [],Wo trivial ⟨r3 (hyes _ h) (hyes _ h2),qQ⟩ trivial,rfl,rfl⟩⟩,λh=>⟨λh'=>⟨[],aa [(2,.val (.int .i64 (bY (ai p))))] [] 0 [],Wo trivial ⟨r1 (hno _ h),qQ⟩ trivial,rfl,rfl⟩,λh'=>(nomatch h')⟩⟩
 ·cases e
def Bn:List PV->Option Ans
 |[.val v]=>some ⟨some (isPk 4294967296 v),.val (.int .i64 (bY (ai (aN v)))),[]⟩
 |_=>none
theorem Ho:am {} Tryz.f67 1=true:=by kernel_rfl
theorem f67:FnOk Tryz.prog 67 Bn:=by
 refine FnOk.ofW aj (an (l:=[(100,Cv)]) (own:=[]) (inl:=[]) (by simp [f100]) (by simp)) Tryz.func67 {} 1 Ho λargs r e=>?_;unfold Bn at e;split at e
 ·rename_i v
  cases e;refine⟨by simp,λhm=>?_⟩;obtain⟨p,rfl,hx,hy⟩:=hm _ rfl;refine⟨[],aa [(0,.val p.v)] [] 0 [],Wo trivial ⟨rfl,qQ⟩ trivial,?_⟩;have hno:∀b:Bool,((bif b then(0:Int) else 1) != 0)=true->b=false:=λb h=>by cases b<;>first|rfl|cases h
  have hyes:∀b:Bool,((bif b then(0:Int) else 1) != 0)=false->b=true:=λb h=>by cases b<;>first|rfl|cases h
  have r1:bl p.x.v=false->PV.val (.int .i64 1)=PV.val (.int .i64 (bY (ai p))):=λh=>by unfold ai;rw [h];rfl
  have r2:bl p.y.v=false->PV.val (.int .i64 1)=PV.val (.int .i64 (bY (ai p))):=λh=>by unfold ai;rw [h,Bool.and_false];rfl
  have r3:bl p.x.v=true->bl p.y.v=true->PV.val (.int .i64 0)=PV.val (.int .i64 (bY (ai p))):=λh h'=>by unfold ai;rw [h,h'];rfl
  with_unfolding_all refine⟨Nat,λi=>i<=2/\(0 < i->bl p.x.v=true)/\(1 < i->bl p.y.v=true),λi=>aa [(9,.sl 0 0 0 2),(10,.val (goInt 2)),(11,.val (goInt i))] [⟨23,3,0,false,false,2,λj=>(bif Nat.beq j 0 then p.x else p.y).cells⟩] 1 [],λi=>2 - i,⟨0,[some 1],⟨by decide,λh=>absurd h (by decide),λh=>absurd h (by decide)⟩,Wo ⟨qZ (λj hj=>?_),qQ⟩ ⟨pP,rfl,rfl,qQ⟩ trivial⟩,λi hi=>?_⟩
  ·have hj:j < 2:=hj
   match j,hj with
   |0,_=>rfl
   |1,_=>rfl
   |j+2,h=>omega
  ·obtain⟨h2,ha,hb⟩:i<=2/\(0 < i->bl p.x.v=true)/\(1 < i->bl p.y.v=true):=hi;with_unfolding_all refine⟨λh=>?_,λh=>⟨[],aa [(2,.val (.int .i64 (bY (ai p))))] [] 0 [],Wo trivial ⟨r3 (ha (by have:=dI h;omega)) (hb (by have:=dI h;omega)),qQ⟩ trivial,rfl,rfl⟩⟩
   have h:=bL h;have e:(i:Int).toNat=i:=Int.toNat_natCast i;have hk:(bif Nat.beq (0+(i:Int).toNat) 0 then p.x else p.y).le 4294967296:=by
    cases Nat.beq (0+(i:Int).toNat) 0
    ·exact hy
    ·exact hx
   with_unfolding_all refine⟨⟨by omega,by omega⟩,RatS.k hk,λh'=>⟨[],aa [(2,.val (.int .i64 (bY (ai p))))] [] 0 [],Wo trivial ⟨?_,qQ⟩ trivial,rfl,rfl⟩,λh'=>⟨i+1,[some 0],⟨by omega,?_,?_⟩,by show 2 - (i+1) < 2 - i;omega,Wo ⟨qZ (λ_ _=>rfl),qQ⟩ ⟨pP,rfl,?_,qQ⟩ trivial⟩⟩
   ·have h':bl (bif Nat.beq (0+(i:Int).toNat) 0 then p.x else p.y).v=false:=hno _ h';rw [e,Nat.zero_add] at h'
    match i,h2,h with
    |0,_,_=>exact r1 h'
    |1,_,_=>exact r2 h'
    |i+2,_,h=>omega
   ·intro _;have h':bl (bif Nat.beq (0+(i:Int).toNat) 0 then p.x else p.y).v=true:=hyes _ h';rw [e,Nat.zero_add] at h'
    match i,h2,h,ha with
    |0,_,_,_=>exact h'
    |1,_,_,ha=>exact ha (by decide)
    |i+2,_,h,_=>omega
   ·intro hi1;have h':bl (bif Nat.beq (0+(i:Int).toNat) 0 then p.x else p.y).v=true:=hyes _ h';rw [e,Nat.zero_add] at h'
    match i,h2,h,hi1 with
    |0,_,_,hi1=>omega
    |1,_,_,_=>exact h'
    |i+2,_,h,_=>omega
   ·show PV.val (.int .i64 (IntKind.i64.wrap ((i:Int)+1)))=PV.val (.int .i64 ((i+1:Nat):Int));rw [wrap64 (by omega) (by omega)];rfl
 ·cases e
end Go.Proofs
namespace Go.Num
def ab (g:Nat->List PV) (i:Nat):PtS:=cr (g i)
def isPL (k n:Nat) (g:Nat->List PV):Prop:=(∀i,i < n->g i=(ab g i).cells/\(ab g i).le k)/\n<=140737488355328
def cW (p:Nat->Bool):Nat->Nat->Int
 |0,_ => -1
 |k+1,i=>bif p i then(i:Int) else cW p k (i+1)
def aA (p:Nat->Bool) (n:Nat):Bool:=(List.range n).any p
theorem bc {p:Nat->Bool} {n:Nat}:aA p n=true↔∃i,i < n/\p i=true:=by
 simp [aA]
theorem aF {p:Nat->Bool} {n:Nat}:aA p n=false↔∀i,i < n->p i=false:=by
 simp [aA]
theorem tQ {p:Nat->Bool}:∀(k i:Nat),(∀j,i<=j->j < i+k->p j=false)/\cW p k i = -1\/∃j,i<=j/\j < i+k/\p j=true/\(∀l,i<=l->l < j->p l=false)/\cW p k i=j
 |0,i=>.inl ⟨λj h1 h2=>by omega,rfl⟩
 |k+1,i=>by
  unfold cW;cases h:p i with
  |true=>exact .inr ⟨i,Nat.le_refl _,by omega,h,λl h1 h2=>by omega,rfl⟩
  |false =>
   rcases tQ (p:=p) k (i+1) with ⟨h1,h2⟩|⟨j,h1,h2,h3,h4,h5⟩
   ·refine .inl ⟨λj h3 h4=>?_,h2⟩;rcases Nat.eq_or_lt_of_le h3 with h5|h5
    ·rw [<-h5];exact h
    ·exact h1 j h5 (by omega)
   ·refine .inr ⟨j,by omega,by omega,h3,λl h6 h7=>?_,h5⟩;rcases Nat.eq_or_lt_of_le h6 with h8|h8
    ·rw [<-h8];exact h
    ·exact h4 l h8 h7
theorem dZ (p:Nat->Bool) (n:Nat):decide (cW p n 0>=0)=aA p n:=by
 rcases tQ (p:=p) n 0 with ⟨h1,h2⟩|⟨j,h1,h2,h3,_,h5⟩
 ·rw [h2,(aF (p:=p) (n:=n)).2 λi hi=>h1 i (Nat.zero_le _) (by omega)];rfl
 ·rw [h5,(bc (p:=p) (n:=n)).2 ⟨j,by omega,h3⟩];exact decide_eq_true (by omega)
end Go.Num
namespace Go.Proofs
theorem tR:am {} Tryz.f83 2=true:=by kernel_rfl
theorem tS:am {} Tryz.f65 2=true:=by kernel_rfl
theorem lH (b:Bool):((bif b then(0:Int) else 1) != 0) = !b:=by cases b<;>rfl
def CI:List PV->Option Ans
 |[.val v]=>some ⟨some (isPk 4294967296 v),.val (.bool (!ai (aN v))),[]⟩
 |_=>none
theorem Ft:am {} Tryz.f101 1=true:=by kernel_rfl
theorem f101:FnOk Tryz.prog 101 CI:=by
 refine FnOk.ofW aj (an (l:=[(67,Bn)]) (own:=[]) (inl:=[]) (by simp [f67]) (by simp)) Tryz.func101 {} 1 Ft λargs r e=>?_;unfold CI at e;split at e
 ·rename_i v
  cases e;refine⟨by simp,λhm=>?_⟩;obtain⟨p,rfl,hp⟩:=hm _ rfl;refine⟨[],aa [(0,.val p.v)] [] 0 [],Wo trivial ⟨rfl,qQ⟩ trivial,?_⟩;with_unfolding_all exact⟨⟨p,rfl,hp⟩,[],aa [(2,.val (.bool (!ai p)))] [] 0 [],Wo trivial ⟨congrArg (λz=>PV.val (.bool z)) (lH _),qQ⟩ trivial,rfl,rfl⟩
 ·cases e
def pp:List PV->Option Ans
 |[.rs 6 n g,.val (.func (.func 101) ⟨[]⟩ ⟨[]⟩)]=>some ⟨some (isPL 4294967296 n g),.val (.int .i64 (cW (λi=>!ai (ab g i)) n 0)),[]⟩
 |_=>none
theorem An:FnOk Tryz.prog 83 pp:=by
 refine FnOk.ofW aj (an (l:=[(101,CI)]) (own:=[]) (inl:=[]) (by simp [f101]) (by simp)) Tryz.func83 {} 2 tR λargs r e=>?_;unfold pp at e;split at e
 ·rename_i n g
  cases e;refine⟨by simp,λhm=>?_⟩;obtain⟨hg,hn⟩:=hm _ rfl;refine⟨[],aa [(0,.rs 6 n (λi=>(ab g i).cells)),(1,.val (.func (.func 101) ⟨[]⟩ ⟨[]⟩))] [] 0 [],Wo trivial ⟨⟨rfl,rfl,λi hi=>(hg i hi).1.symm⟩,rfl,qQ⟩ trivial,?_⟩;obtain⟨X,hX⟩:∃X,X=cW (λi=>!ai (ab g i)) n 0:=⟨_,rfl⟩;rw [<-hX];with_unfolding_all refine⟨Nat,λi=>i<=n/\cW (λi=>!ai (ab g i)) (n - i) i=X,λi=>aa [(0,.rs 6 n (λi=>(ab g i).cells)),(1,.val (.func (.func 101) ⟨[]⟩ ⟨[]⟩)),(7,.val (goInt n)),(8,.val (goInt i))] [] 0 [],λi=>n - i,⟨0,[],⟨Nat.zero_le _,hX.symm⟩,Wo trivial ⟨qW,rfl,rfl,rfl,qQ⟩ trivial⟩,λi hi=>?_⟩
  obtain⟨hin,hI⟩:i<=n/\cW (λi=>!ai (ab g i)) (n - i) i=X:=hi;with_unfolding_all refine⟨λh=>?_,λh=>⟨[],aa [(4,.val (.int .i64 X))] [] 0 [],Wo trivial ⟨?_,qQ⟩ trivial,rfl,rfl⟩⟩
  ·have h:=bL h;have e:(i:Int).toNat=i:=Int.toNat_natCast i;have hstep:cW (λi=>!ai (ab g i)) (n - i) i=bif !ai (ab g i) then(i:Int) else cW (λi=>!ai (ab g i)) (n - (i+1)) (i+1):=by
    rw [show n - i=(n - (i+1))+1 by omega];rfl
   with_unfolding_all refine⟨⟨by omega,by omega⟩,⟨ab g (i:Int).toNat,rfl,by rw [e];exact(hg i (by omega)).2⟩,λh'=>⟨[],aa [(4,.val (.int .i64 X))] [] 0 [],Wo trivial ⟨?_,qQ⟩ trivial,rfl,rfl⟩,λh'=>⟨i+1,[],⟨by omega,?_⟩,by show n - (i+1) < n - i;omega,Wo trivial ⟨qW,rfl,rfl,?_,qQ⟩ trivial⟩⟩
   ·have h':(!ai (ab g (i:Int).toNat))=true:=h';rw [e] at h';rw [h',cond_true] at hstep;exact congrArg (λz=>PV.val (.int .i64 z)) (hstep.symm.trans hI)
   ·have h':(!ai (ab g (i:Int).toNat))=false:=h';rw [e] at h';rw [h',cond_false] at hstep;exact hstep.symm.trans hI
   ·show PV.val (.int .i64 (IntKind.i64.wrap ((i:Int)+1)))=PV.val (.int .i64 ((i+1:Nat):Int));rw [wrap64 (by omega) (by omega)];rfl
  ·have h:=dI h;rw [show n - i=0 by omega] at hI;exact congrArg (λz=>PV.val (.int .i64 z)) hI
 ·cases e
def pq:List PV->Option Ans
 |[.rs 6 n g,.val (.func (.func 101) ⟨[]⟩ ⟨[]⟩)]=>some ⟨some (isPL 4294967296 n g),.val (.bool (aA (λi=>!ai (ab g i)) n)),[]⟩
 |_=>none
theorem Ao:FnOk Tryz.prog 65 pq:=by
 refine FnOk.ofW aj (an (l:=[(83,pp)]) (own:=[]) (inl:=[]) (by simp [An]) (by simp)) Tryz.func65 {} 2 tS λargs r e=>?_;unfold pq at e;split at e
 ·rename_i n g
  cases e;refine⟨by simp,λhm=>?_⟩;have hp:=hm _ rfl;refine⟨[],aa [(0,.rs 6 n g),(1,.val (.func (.func 101) ⟨[]⟩ ⟨[]⟩))] [] 0 [],Wo trivial ⟨⟨rfl,rfl,λi hi=>rfl⟩,rfl,qQ⟩ trivial,?_⟩;with_unfolding_all exact⟨hp,[],aa [(4,.val (.bool (aA (λi=>!ai (ab g i)) n)))] [] 0 [],Wo trivial ⟨congrArg (λz=>PV.val (.bool z)) (dZ _ _),qQ⟩ trivial,rfl,rfl⟩
 ·cases e
def Hp:List PV->Option Ans
 |[.val v]=>some ⟨some (isPk 4294967296 v),.val (.bool (!ai (aN v))),[]⟩
 |_=>none
theorem Hq:am {} Tryz.f90 1=true:=by kernel_rfl
theorem f90:FnOk Tryz.prog 90 Hp:=by
 refine FnOk.ofW aj (an (l:=[(67,Bn)]) (own:=[]) (inl:=[]) (by simp [f67]) (by simp)) Tryz.func90 {} 1 Hq λargs r e=>?_;unfold Hp at e;split at e
 ·rename_i v
  cases e;refine⟨by simp,λhm=>?_⟩;obtain⟨p,rfl,hp⟩:=hm _ rfl;refine⟨[],aa [(0,.val p.v)] [] 0 [],Wo trivial ⟨rfl,qQ⟩ trivial,?_⟩;with_unfolding_all exact⟨⟨p,rfl,hp⟩,[],aa [(2,.val (.bool (!ai p)))] [] 0 [],Wo trivial ⟨congrArg (λz=>PV.val (.bool z)) (lH _),qQ⟩ trivial,rfl,rfl⟩
 ·cases e
def tT:List PV->Option Ans
 |[.rs 6 n g,.val (.func (.func 90) ⟨[]⟩ ⟨[]⟩)]=>some ⟨some (isPL 4294967296 n g),.val (.int .i64 (cW (λi=>!ai (ab g i)) n 0)),[]⟩
 |_=>none
theorem CJ:FnOk Tryz.prog 83 tT:=by
 refine FnOk.ofW aj (an (l:=[(90,Hp)]) (own:=[]) (inl:=[]) (by simp [f90]) (by simp)) Tryz.func83 {} 2 tR λargs r e=>?_;unfold tT at e;split at e
 ·rename_i n g
  cases e;refine⟨by simp,λhm=>?_⟩;obtain⟨hg,hn⟩:=hm _ rfl;refine⟨[],aa [(0,.rs 6 n (λi=>(ab g i).cells)),(1,.val (.func (.func 90) ⟨[]⟩ ⟨[]⟩))] [] 0 [],Wo trivial ⟨⟨rfl,rfl,λi hi=>(hg i hi).1.symm⟩,rfl,qQ⟩ trivial,?_⟩;obtain⟨X,hX⟩:∃X,X=cW (λi=>!ai (ab g i)) n 0:=⟨_,rfl⟩;rw [<-hX];with_unfolding_all refine⟨Nat,λi=>i<=n/\cW (λi=>!ai (ab g i)) (n - i) i=X,λi=>aa [(0,.rs 6 n (λi=>(ab g i).cells)),(1,.val (.func (.func 90) ⟨[]⟩ ⟨[]⟩)),(7,.val (goInt n)),(8,.val (goInt i))] [] 0 [],λi=>n - i,⟨0,[],⟨Nat.zero_le _,hX.symm⟩,Wo trivial ⟨qW,rfl,rfl,rfl,qQ⟩ trivial⟩,λi hi=>?_⟩
  obtain⟨hin,hI⟩:i<=n/\cW (λi=>!ai (ab g i)) (n - i) i=X:=hi;with_unfolding_all refine⟨λh=>?_,λh=>⟨[],aa [(4,.val (.int .i64 X))] [] 0 [],Wo trivial ⟨?_,qQ⟩ trivial,rfl,rfl⟩⟩
  ·have h:=bL h;have e:(i:Int).toNat=i:=Int.toNat_natCast i;have hstep:cW (λi=>!ai (ab g i)) (n - i) i=bif !ai (ab g i) then(i:Int) else cW (λi=>!ai (ab g i)) (n - (i+1)) (i+1):=by
    rw [show n - i=(n - (i+1))+1 by omega];rfl
   with_unfolding_all refine⟨⟨by omega,by omega⟩,⟨ab g (i:Int).toNat,rfl,by rw [e];exact(hg i (by omega)).2⟩,λh'=>⟨[],aa [(4,.val (.int .i64 X))] [] 0 [],Wo trivial ⟨?_,qQ⟩ trivial,rfl,rfl⟩,λh'=>⟨i+1,[],⟨by omega,?_⟩,by show n - (i+1) < n - i;omega,Wo trivial ⟨qW,rfl,rfl,?_,qQ⟩ trivial⟩⟩
   ·have h':(!ai (ab g (i:Int).toNat))=true:=h';rw [e] at h';rw [h',cond_true] at hstep;exact congrArg (λz=>PV.val (.int .i64 z)) (hstep.symm.trans hI)
   ·have h':(!ai (ab g (i:Int).toNat))=false:=h';rw [e] at h';rw [h',cond_false] at hstep;exact hstep.symm.trans hI
   ·show PV.val (.int .i64 (IntKind.i64.wrap ((i:Int)+1)))=PV.val (.int .i64 ((i+1:Nat):Int));rw [wrap64 (by omega) (by omega)];rfl
  ·have h:=dI h;rw [show n - i=0 by omega] at hI;exact congrArg (λz=>PV.val (.int .i64 z)) hI
 ·cases e
def tU:List PV->Option Ans
 |[.rs 6 n g,.val (.func (.func 90) ⟨[]⟩ ⟨[]⟩)]=>some ⟨some (isPL 4294967296 n g),.val (.bool (aA (λi=>!ai (ab g i)) n)),[]⟩
 |_=>none
theorem CK:FnOk Tryz.prog 65 tU:=by
 refine FnOk.ofW aj (an (l:=[(83,tT)]) (own:=[]) (inl:=[]) (by simp [CJ]) (by simp)) Tryz.func65 {} 2 tS λargs r e=>?_;unfold tU at e;split at e
 ·rename_i n g
  cases e;refine⟨by simp,λhm=>?_⟩;have hp:=hm _ rfl;refine⟨[],aa [(0,.rs 6 n g),(1,.val (.func (.func 90) ⟨[]⟩ ⟨[]⟩))] [] 0 [],Wo trivial ⟨⟨rfl,rfl,λi hi=>rfl⟩,rfl,qQ⟩ trivial,?_⟩;with_unfolding_all exact⟨hp,[],aa [(4,.val (.bool (aA (λi=>!ai (ab g i)) n)))] [] 0 [],Wo trivial ⟨congrArg (λz=>PV.val (.bool z)) (dZ _ _),qQ⟩ trivial,rfl,rfl⟩
 ·cases e
def CL:List PV->Option Ans
 |[.val v]=>some ⟨some (isPk 4294967296 v),.val (.bool (!ai (aN v))),[]⟩
 |_=>none
theorem Fu:am {} Tryz.f206 1=true:=by kernel_rfl
theorem f206:FnOk Tryz.prog 206 CL:=by
 refine FnOk.ofW aj (an (l:=[(67,Bn)]) (own:=[]) (inl:=[]) (by simp [f67]) (by simp)) Tryz.func206 {} 1 Fu λargs r e=>?_;unfold CL at e;split at e
 ·rename_i v
  cases e;refine⟨by simp,λhm=>?_⟩;obtain⟨p,rfl,hp⟩:=hm _ rfl;refine⟨[],aa [(0,.val p.v)] [] 0 [],Wo trivial ⟨rfl,qQ⟩ trivial,?_⟩;with_unfolding_all exact⟨⟨p,rfl,hp⟩,[],aa [(2,.val (.bool (!ai p)))] [] 0 [],Wo trivial ⟨congrArg (λz=>PV.val (.bool z)) (lH _),qQ⟩ trivial,rfl,rfl⟩
 ·cases e
def pt:List PV->Option Ans
 |[.rs 6 n g,.val (.func (.func 206) ⟨[]⟩ ⟨[]⟩)]=>some ⟨some (isPL 4294967296 n g),.val (.int .i64 (cW (λi=>!ai (ab g i)) n 0)),[]⟩
 |_=>none
theorem Ap:FnOk Tryz.prog 83 pt:=by
 refine FnOk.ofW aj (an (l:=[(206,CL)]) (own:=[]) (inl:=[]) (by simp [f206]) (by simp)) Tryz.func83 {} 2 tR λargs r e=>?_;unfold pt at e;split at e
 ·rename_i n g
  cases e;refine⟨by simp,λhm=>?_⟩;obtain⟨hg,hn⟩:=hm _ rfl;refine⟨[],aa [(0,.rs 6 n (λi=>(ab g i).cells)),(1,.val (.func (.func 206) ⟨[]⟩ ⟨[]⟩))] [] 0 [],Wo trivial ⟨⟨rfl,rfl,λi hi=>(hg i hi).1.symm⟩,rfl,qQ⟩ trivial,?_⟩;obtain⟨X,hX⟩:∃X,X=cW (λi=>!ai (ab g i)) n 0:=⟨_,rfl⟩;rw [<-hX];with_unfolding_all refine⟨Nat,λi=>i<=n/\cW (λi=>!ai (ab g i)) (n - i) i=X,λi=>aa [(0,.rs 6 n (λi=>(ab g i).cells)),(1,.val (.func (.func 206) ⟨[]⟩ ⟨[]⟩)),(7,.val (goInt n)),(8,.val (goInt i))] [] 0 [],λi=>n - i,⟨0,[],⟨Nat.zero_le _,hX.symm⟩,Wo trivial ⟨qW,rfl,rfl,rfl,qQ⟩ trivial⟩,λi hi=>?_⟩
  obtain⟨hin,hI⟩:i<=n/\cW (λi=>!ai (ab g i)) (n - i) i=X:=hi;with_unfolding_all refine⟨λh=>?_,λh=>⟨[],aa [(4,.val (.int .i64 X))] [] 0 [],Wo trivial ⟨?_,qQ⟩ trivial,rfl,rfl⟩⟩
  ·have h:=bL h;have e:(i:Int).toNat=i:=Int.toNat_natCast i;have hstep:cW (λi=>!ai (ab g i)) (n - i) i=bif !ai (ab g i) then(i:Int) else cW (λi=>!ai (ab g i)) (n - (i+1)) (i+1):=by
    rw [show n - i=(n - (i+1))+1 by omega];rfl
   with_unfolding_all refine⟨⟨by omega,by omega⟩,⟨ab g (i:Int).toNat,rfl,by rw [e];exact(hg i (by omega)).2⟩,λh'=>⟨[],aa [(4,.val (.int .i64 X))] [] 0 [],Wo trivial ⟨?_,qQ⟩ trivial,rfl,rfl⟩,λh'=>⟨i+1,[],⟨by omega,?_⟩,by show n - (i+1) < n - i;omega,Wo trivial ⟨qW,rfl,rfl,?_,qQ⟩ trivial⟩⟩
   ·have h':(!ai (ab g (i:Int).toNat))=true:=h';rw [e] at h';rw [h',cond_true] at hstep;exact congrArg (λz=>PV.val (.int .i64 z)) (hstep.symm.trans hI)
   ·have h':(!ai (ab g (i:Int).toNat))=false:=h';rw [e] at h';rw [h',cond_false] at hstep;exact hstep.symm.trans hI
   ·show PV.val (.int .i64 (IntKind.i64.wrap ((i:Int)+1)))=PV.val (.int .i64 ((i+1:Nat):Int));rw [wrap64 (by omega) (by omega)];rfl
  ·have h:=dI h;rw [show n - i=0 by omega] at hI;exact congrArg (λz=>PV.val (.int .i64 z)) hI
 ·cases e
def pu:List PV->Option Ans
 |[.rs 6 n g,.val (.func (.func 206) ⟨[]⟩ ⟨[]⟩)]=>some ⟨some (isPL 4294967296 n g),.val (.bool (aA (λi=>!ai (ab g i)) n)),[]⟩
 |_=>none
theorem Aq:FnOk Tryz.prog 65 pu:=by
 refine FnOk.ofW aj (an (l:=[(83,pt)]) (own:=[]) (inl:=[]) (by simp [Ap]) (by simp)) Tryz.func65 {} 2 tS λargs r e=>?_;unfold pu at e;split at e
 ·rename_i n g
  cases e;refine⟨by simp,λhm=>?_⟩;have hp:=hm _ rfl;refine⟨[],aa [(0,.rs 6 n g),(1,.val (.func (.func 206) ⟨[]⟩ ⟨[]⟩))] [] 0 [],Wo trivial ⟨⟨rfl,rfl,λi hi=>rfl⟩,rfl,qQ⟩ trivial,?_⟩;with_unfolding_all exact⟨hp,[],aa [(4,.val (.bool (aA (λi=>!ai (ab g i)) n)))] [] 0 [],Wo trivial ⟨congrArg (λz=>PV.val (.bool z)) (dZ _ _),qQ⟩ trivial,rfl,rfl⟩
 ·cases e
end Go.Proofs
namespace Go.Num
def Jq:List PV->Int×Int
 |[.val (.int .i64 a),.val (.int .i64 b)]=>(a,b)
 |_=>(0,0)
def aD (q:Int×Int):List PV:=[.val (.int .i64 q.1),.val (.int .i64 q.2)]
def eE (h:Nat->List PV) (i:Nat):Int×Int:=Jq (h i)
def kv (m:Nat) (h:Nat->List PV):Prop:=(∀i,i < m->h i=aD (eE h i))/\m<=140737488355328
def na (r:RatS):Bool:=decide (12 < r.b.size)||decide (12 < r.c.size)
def bt (p:PtS):Bool:=na p.x||na p.y
def dP (x y:Int×Int):Bool:=decide (x.1 < y.1)||decide (x.1=y.1)&&decide (x.2 < y.2)
def ia (n:Nat) (q:Nat->Int×Int) (i:Nat):Bool:=decide ((q i).1 < 0)||decide ((q i).2<=(q i).1)||decide ((n:Int)<=(q i).2)||decide (0 < i)&&!dP (q (i - 1)) (q i)
end Go.Num
namespace Go.Proofs
def cJ (n:Nat) (q:Nat->Int×Int) (m:Nat):Bool:=!aA (ia n q) m
def bG (n:Nat) (p:Nat->PtS) (m:Nat) (q:Nat->Int×Int):Bool:=decide (n<=1000)&&!aA (λi=>!ai (p i)) n&&cJ n q m
def Hr:List PV->Option Ans
 |[.rs 6 n g]=>some ⟨some (isPL 140737488355328 n g),.val (.bool (aA (λi=>bt (ab g i)) n)),[]⟩
 |_=>none
theorem Hs:am {} Tryz.f51 1=true:=by kernel_rfl
theorem f51:FnOk Tryz.prog 51 Hr:=by
 refine FnOk.ofW aj (an (l:=[]) (own:=[]) (inl:=[]) (by simp) (by simp)) Tryz.func51 {} 1 Hs λargs r e=>?_;unfold Hr at e;split at e
 ·rename_i n g
  cases e;refine⟨by simp,λhm=>?_⟩;obtain⟨hg,hn⟩:=hm _ rfl;refine⟨[],aa [(0,.rs 6 n (λi=>(ab g i).cells))] [] 0 [],Wo trivial ⟨⟨rfl,rfl,λi hi=>(hg i hi).1.symm⟩,qQ⟩ trivial,?_⟩;with_unfolding_all refine⟨Nat,λi=>i<=n/\∀j,j < i->bt (ab g j)=false,λi=>aa [(0,.rs 6 n (λi=>(ab g i).cells)),(3,.val (goInt i))] [] 0 [],λi=>n - i,⟨0,[],⟨Nat.zero_le _,λj hj=>by omega⟩,Wo trivial ⟨qW,rfl,qQ⟩ trivial⟩,λi hi=>?_⟩
  obtain⟨hin,hI⟩:i<=n/\∀j,j < i->bt (ab g j)=false:=hi;have rTxb:(i:Int) < n->decide ((((ab g (i:Int).toNat).x.b.size:Nat):Int) > 12)=true->PV.val (.bool true)=PV.val (.bool (aA (λi=>bt (ab g i)) n)):=λhi h=>by
   have h:(((ab g i).x.b.size:Nat):Int) > 12:=of_decide_eq_true h;have e:bt (ab g i)=true:=by simp only [bt,na,Bool.or_eq_true,decide_eq_true_eq];omega
   rw [bc.2 ⟨i,by omega,e⟩]
  have rTxc:(i:Int) < n->decide ((((ab g (i:Int).toNat).x.c.size:Nat):Int) > 12)=true->PV.val (.bool true)=PV.val (.bool (aA (λi=>bt (ab g i)) n)):=λhi h=>by
   have h:(((ab g i).x.c.size:Nat):Int) > 12:=of_decide_eq_true h;have e:bt (ab g i)=true:=by simp only [bt,na,Bool.or_eq_true,decide_eq_true_eq];omega
   rw [bc.2 ⟨i,by omega,e⟩]
  have rTyb:(i:Int) < n->decide ((((ab g (i:Int).toNat).y.b.size:Nat):Int) > 12)=true->PV.val (.bool true)=PV.val (.bool (aA (λi=>bt (ab g i)) n)):=λhi h=>by
   have h:(((ab g i).y.b.size:Nat):Int) > 12:=of_decide_eq_true h;have e:bt (ab g i)=true:=by simp only [bt,na,Bool.or_eq_true,decide_eq_true_eq];omega
   rw [bc.2 ⟨i,by omega,e⟩]
  have rTyc:(i:Int) < n->decide ((((ab g (i:Int).toNat).y.c.size:Nat):Int) > 12)=true->PV.val (.bool true)=PV.val (.bool (aA (λi=>bt (ab g i)) n)):=λhi h=>by
   have h:(((ab g i).y.c.size:Nat):Int) > 12:=of_decide_eq_true h;have e:bt (ab g i)=true:=by simp only [bt,na,Bool.or_eq_true,decide_eq_true_eq];omega
   rw [bc.2 ⟨i,by omega,e⟩]
  have nx:(i:Int) < n->decide ((((ab g (i:Int).toNat).x.b.size:Nat):Int) > 12)=false->decide ((((ab g (i:Int).toNat).x.c.size:Nat):Int) > 12)=false->decide ((((ab g (i:Int).toNat).y.b.size:Nat):Int) > 12)=false->decide ((((ab g (i:Int).toNat).y.c.size:Nat):Int) > 12)=false->∀j,j < i+1->bt (ab g j)=false:=λhi h1 h2 h3 h4 j hj=>by
   have h1:¬(((ab g i).x.b.size:Nat):Int) > 12:=of_decide_eq_false h1;have h2:¬(((ab g i).x.c.size:Nat):Int) > 12:=of_decide_eq_false h2;have h3:¬(((ab g i).y.b.size:Nat):Int) > 12:=of_decide_eq_false h3;have h4:¬(((ab g i).y.c.size:Nat):Int) > 12:=of_decide_eq_false h4;rcases Nat.lt_or_ge j i with h|h
   ·exact hI j h
   ·obtain rfl:j=i:=by omega
    simp only [bt,na,Bool.or_eq_false_iff,decide_eq_false_iff_not];omega
  have rF:(n:Int)<=i->PV.val (.bool false)=PV.val (.bool (aA (λi=>bt (ab g i)) n)):=λh=>by
   rw [aF.2 λj hj=>hI j (by omega)]
  have wi:(i:Int) < n->PV.val (.int .i64 (IntKind.i64.wrap ((i:Int)+1)))=PV.val (.int .i64 ((i+1:Nat):Int)):=λh=>by
   rw [wrap64 (by omega) (by omega)];rfl
  with_unfolding_all exact⟨(λh1=>⟨⟨Int.natCast_nonneg i,(bL h1)⟩,(λh2=>⟨⟨Int.natCast_nonneg i,(bL h1)⟩,(λh3=>⟨⟨Int.natCast_nonneg i,(bL h1)⟩,(λh4=>⟨⟨Int.natCast_nonneg i,(bL h1)⟩,(λh5=>⟨[],aa [(2,.val (.bool (aA (λi=>bt (ab g i)) n)))] [] 0 [],Wo trivial ⟨rTyc (bL h1) h5,qQ⟩ trivial,rfl,rfl⟩),(λh5=>⟨i+1,[],⟨Int.ofNat_lt.1 (bL h1),nx (bL h1) h2 h3 h4 h5⟩,by have:=bL h1;show n - (i+1) < n - i;omega,Wo trivial ⟨qW,wi (bL h1),qQ⟩ trivial⟩)⟩),(λh4=>⟨(λh5=>⟨[],aa [(2,.val (.bool (aA (λi=>bt (ab g i)) n)))] [] 0 [],Wo trivial ⟨rTyb (bL h1) h4,qQ⟩ trivial,rfl,rfl⟩),(λh5=>nomatch h5)⟩)⟩),(λh3=>⟨(λh4=>nomatch h4),(λh4=>⟨(λh5=>⟨[],aa [(2,.val (.bool (aA (λi=>bt (ab g i)) n)))] [] 0 [],Wo trivial ⟨rTxc (bL h1) h3,qQ⟩ trivial,rfl,rfl⟩),(λh5=>nomatch h5)⟩)⟩)⟩),(λh2=>⟨(λh3=>nomatch h3),(λh3=>⟨(λh4=>nomatch h4),(λh4=>⟨(λh5=>⟨[],aa [(2,.val (.bool (aA (λi=>bt (ab g i)) n)))] [] 0 [],Wo trivial ⟨rTxb (bL h1) h2,qQ⟩ trivial,rfl,rfl⟩),(λh5=>nomatch h5)⟩)⟩)⟩)⟩),(λh1=>⟨[],aa [(2,.val (.bool (aA (λi=>bt (ab g i)) n)))] [] 0 [],Wo trivial ⟨rF (dI h1),qQ⟩ trivial,rfl,rfl⟩)⟩
 ·cases e
def Ht:List PV->Option Ans
 |[.agg [.rs 6 n g,.rs 2 m h],.val (.int .i64 z)]=>some ⟨some (n<=140737488355328),.val (.bool (decide (0<=z)&&decide (z < (n:Int)))),[]⟩
 |_=>none
theorem Hu:am {} Tryz.f77 2=true:=by kernel_rfl
theorem f77:FnOk Tryz.prog 77 Ht:=by
 refine FnOk.ofW aj (an (l:=[]) (own:=[]) (inl:=[]) (by simp) (by simp)) Tryz.func77 {} 2 Hu λargs r e=>?_;unfold Ht at e;split at e
 ·rename_i n g m h z
  cases e;refine⟨by simp,λhm=>?_⟩;have hp:=hm _ rfl;refine⟨[],aa [(0,.agg [.rs 6 n g,.rs 2 m h]),(1,.val (.int .i64 z))] [] 0 [],Wo trivial ⟨⟨⟨rfl,rfl,λi hi=>rfl⟩,⟨rfl,rfl,λi hi=>rfl⟩,qQ⟩,rfl,qQ⟩ trivial,?_⟩;have k1:decide (z>=0)=true->PV.val (.bool (decide (z < (n:Int))))=PV.val (.bool (decide (0<=z)&&decide (z < (n:Int)))):=λh=>by
   have h:z>=0:=of_decide_eq_true h;rw [decide_eq_true (show 0<=z from h),Bool.true_and]
  have k2:decide (z>=0) = !true->PV.val (.bool false)=PV.val (.bool (decide (0<=z)&&decide (z < (n:Int)))):=λh=>by
   have h:¬z>=0:=of_decide_eq_false h;rw [decide_eq_false (show ¬0<=z from h),Bool.false_and]
  with_unfolding_all exact⟨λh=>⟨[],aa [(4,.val (.bool (decide (0<=z)&&decide (z < (n:Int)))))] [] 0 [],Wo trivial ⟨k1 h,qQ⟩ trivial,rfl,rfl⟩,λh=>⟨[],aa [(4,.val (.bool (decide (0<=z)&&decide (z < (n:Int)))))] [] 0 [],Wo trivial ⟨k2 h,qQ⟩ trivial,rfl,rfl⟩⟩
 ·cases e
def CM:List PV->Option Ans
 |[.val (.agg ⟨[.int .i64 a,.int .i64 b]⟩),.val (.agg ⟨[.int .i64 c,.int .i64 d]⟩)]=>some ⟨none,.val (.bool (dP (a,b) (c,d))),[]⟩
 |_=>none
theorem Fv:am {} Tryz.f102 2=true:=by kernel_rfl
theorem f102:FnOk Tryz.prog 102 CM:=by
 refine FnOk.ofW aj (an (l:=[]) (own:=[]) (inl:=[]) (by simp) (by simp)) Tryz.func102 {} 2 Fv λargs r e=>?_;unfold CM at e;split at e
 ·rename_i a b c d
  cases e;refine⟨by simp,λhm=>?_⟩;refine⟨[],aa [(0,.val (.agg ⟨[.int .i64 a,.int .i64 b]⟩)),(1,.val (.agg ⟨[.int .i64 c,.int .i64 d]⟩))] [] 0 [],Wo trivial ⟨rfl,rfl,qQ⟩ trivial,?_⟩;have k1:decide (a < c)=false->(a==c)=true->PV.val (.bool (decide (b < d)))=PV.val (.bool (dP (a,b) (c,d))):=λh1 h2=>by
   have h2:a=c:=eq_of_beq h2;show _=PV.val (.bool (decide (a < c)||decide (a=c)&&decide (b < d)));rw [h1,decide_eq_true h2,Bool.false_or,Bool.true_and]
  have k2:decide (a < c)=false->(a==c) = !true->PV.val (.bool false)=PV.val (.bool (dP (a,b) (c,d))):=λh1 h2=>by
   have h2:¬a=c:=λe=>by rw [e,beq_self_eq_true] at h2;cases h2
   show _=PV.val (.bool (decide (a < c)||decide (a=c)&&decide (b < d)));rw [h1,decide_eq_false h2,Bool.false_or,Bool.false_and]
  have k3:decide (a < c) = !false->PV.val (.bool true)=PV.val (.bool (dP (a,b) (c,d))):=λh1=>by
   show _=PV.val (.bool (decide (a < c)||decide (a=c)&&decide (b < d)));rw [h1];rfl
  with_unfolding_all exact⟨λh1=>⟨λh2=>⟨[],aa [(4,.val (.bool (dP (a,b) (c,d))))] [] 0 [],Wo trivial ⟨k1 h1 h2,qQ⟩ trivial,rfl,rfl⟩,λh2=>⟨[],aa [(4,.val (.bool (dP (a,b) (c,d))))] [] 0 [],Wo trivial ⟨k2 h1 h2,qQ⟩ trivial,rfl,rfl⟩⟩,λh1=>⟨[],aa [(4,.val (.bool (dP (a,b) (c,d))))] [] 0 [],Wo trivial ⟨k3 h1,qQ⟩ trivial,rfl,rfl⟩⟩
 ·cases e
def GN:List PV->Option Ans
 |[.agg [.rs 6 n g,.rs 2 m h]]=>some ⟨some (isPL 4294967296 n g/\kv m h),.val (.bool (bG n (ab g) m (eE h))),[]⟩
 |_=>none
def D68:Opt:={ join:=ez [1] }
theorem Hv:am D68.toOrd Tryz.f68 1=true:=by kernel_rfl
theorem f68:FnOk Tryz.prog 68 GN:=by
 refine FnOk.ofW aj (an (l:=[(65,pq),(102,CM)]) (own:=[]) (inl:=[]) (by simp [Ao,f102]) (by simp)) Tryz.func68 D68 1 Hv λargs r e=>?_;unfold GN at e;split at e
 ·rename_i n g m h
  cases e;refine⟨by simp,λhm=>?_⟩;obtain⟨hp,hq,hmm⟩:=hm _ rfl;refine⟨[],aa [(0,.agg [.rs 6 n g,.rs 2 m (λi=>aD (eE h i))])] [] 0 [],Wo trivial ⟨⟨⟨rfl,rfl,λi hi=>rfl⟩,⟨rfl,rfl,λi hi=>(hq i hi).symm⟩,qQ⟩,qQ⟩ trivial,?_⟩;generalize eE h=q at *
  have vF1:decide ((n:Int) > 1000)=true->bG n (ab g) m q=false:=λh=>by
   have h:(n:Int) > 1000:=of_decide_eq_true h;unfold bG;rw [decide_eq_false (by omega)];rfl
  have vF2:aA (λi=>!ai (ab g i)) n=true->bG n (ab g) m q=false:=λh=>by
   unfold bG;rw [h,Bool.not_true,Bool.and_false,Bool.false_and]
  have vL:decide ((n:Int) > 1000)=false->aA (λi=>!ai (ab g i)) n=false->bG n (ab g) m q=cJ n q m:=λh h'=>by
   have h:¬(n:Int) > 1000:=of_decide_eq_false h;unfold bG;rw [h',decide_eq_true (by omega)];rfl
  with_unfolding_all refine⟨Unit,λ_=>decide ((n:Int) > 1000)=false/\aA (λi=>!ai (ab g i)) n=false,λ_=>aa [(1,.ptr 0 0 0 0)] [⟨37,2,0,true,false,1,λ_=>[.rs 6 n g,.rs 2 m (λi=>aD (q i))]⟩] 1 [],⟨λh1=>⟨hp,λh2=>⟨[],aa [(2,.val (.bool (bG n (ab g) m q)))] [] 0 [],Wo trivial ⟨congrArg (λz=>PV.val (.bool z)) (vF2 h2).symm,qQ⟩ trivial,rfl,rfl⟩,λh2=>⟨(),[some 0],⟨?_,?_⟩,Wo ⟨qZ ⟨⟨qW,rfl⟩,⟨qW,rfl⟩,qQ⟩,qQ⟩ ⟨pP,qQ⟩ trivial⟩⟩,λh1=>⟨λh2=>⟨[],aa [(2,.val (.bool (bG n (ab g) m q)))] [] 0 [],Wo trivial ⟨congrArg (λz=>PV.val (.bool z)) (vF1 h1).symm,qQ⟩ trivial,rfl,rfl⟩,λh2=>(nomatch h2)⟩⟩,λ_ hI=>?_⟩
  ·exact h1
  ·exact h2
  ·obtain⟨hI1,hI2⟩:decide ((n:Int) > 1000)=false/\aA (λi=>!ai (ab g i)) n=false:=hI;rw [vL hI1 hI2];with_unfolding_all refine⟨Nat,λi=>i<=m/\∀j,j < i->ia n q j=false,λi=>aa [(1,.ptr 0 0 0 0),(15,.rs 2 m (λi=>aD (q i))),(16,.val (goInt m)),(17,.val (goInt i))] [⟨37,2,0,true,false,1,λ_=>[.rs 6 n g,.rs 2 m (λi=>aD (q i))]⟩] 1 [],λi=>m - i,⟨0,[some 0],⟨Nat.zero_le _,λj hj=>by omega⟩,Wo ⟨qZ ⟨⟨qW,rfl⟩,⟨qW,rfl⟩,qQ⟩,qQ⟩ ⟨pP,qW,rfl,rfl,qQ⟩ trivial⟩,λi hi=>?_⟩
   obtain⟨him,hB⟩:i<=m/\∀j,j < i->ia n q j=false:=hi;have pb:decide ((i:Int) > 0)=true->(i:Int) < m->0<=IntKind.i64.wrap ((i:Int) - 1)/\IntKind.i64.wrap ((i:Int) - 1) < m:=λh h'=>by
    have h:(i:Int) > 0:=of_decide_eq_true h;rw [wrap64 (by omega) (by omega)];omega
   have wp:decide ((i:Int) > 0)=true->(i:Int) < m->(IntKind.i64.wrap ((i:Int) - 1)).toNat=i - 1:=λh h'=>by
    have h:(i:Int) > 0:=of_decide_eq_true h;rw [wrap64 (by omega) (by omega)];omega
   have eb:ia n q i=(decide ((q i).1 < 0)||decide ((q i).2<=(q i).1)||decide ((n:Int)<=(q i).2)||decide (0 < i)&&!dP (q (i - 1)) (q i)):=rfl;have T1:decide ((q (i:Int).toNat).1 < 0) = !false->ia n q i=true:=λh=>by
    have h:decide ((q i).1 < 0)=true:=h;rw [eb,h,Bool.true_or,Bool.true_or,Bool.true_or]
   have T2:decide ((q (i:Int).toNat).1>=(q (i:Int).toNat).2) = !false->ia n q i=true:=λh=>by
    have h:decide ((q i).2<=(q i).1)=true:=h;rw [eb,h,Bool.or_true,Bool.true_or,Bool.true_or]
   have wi:(i:Int) < m->PV.val (.int .i64 (IntKind.i64.wrap ((i:Int)+1)))=PV.val (.int .i64 ((i+1:Nat):Int)):=λh=>by
    rw [wrap64 (by omega) (by omega)];rfl
   have nx:(i:Int) < m->ia n q i=false->∀j,j < i+1->ia n q j=false:=λh hb j hj=>by
    rcases Nat.lt_or_ge j i with h|h
    ·exact hB j h
    ·obtain rfl:j=i:=by omega
     exact hb
   have nA:decide ((q (i:Int).toNat).1 < 0)=false->decide ((q (i:Int).toNat).1>=(q (i:Int).toNat).2)=false->decide ((q (i:Int).toNat).2>=(n:Int))=false->(decide (0 < i)&&!dP (q (i - 1)) (q i))=false->ia n q i=false:=λh1 h2 h3 h4=>by
    have h1:decide ((q i).1 < 0)=false:=h1;have h2:decide ((q i).2<=(q i).1)=false:=h2;have h3:decide ((n:Int)<=(q i).2)=false:=h3;rw [eb,h1,h2,h3,h4];rfl
   have N1:decide ((q (i:Int).toNat).1 < 0)=false->decide ((q (i:Int).toNat).1>=(q (i:Int).toNat).2)=false->decide ((q (i:Int).toNat).2>=(n:Int))=false->decide ((i:Int) > 0) = !true->ia n q i=false:=λh1 h2 h3 h4=>nA h1 h2 h3 (by
    have h4:¬(i:Int) > 0:=of_decide_eq_false h4;rw [decide_eq_false (by omega),Bool.false_and])
   have T3:decide ((q (i:Int).toNat).2>=(n:Int)) = !false->ia n q i=true:=λh=>by
    have h:decide ((n:Int)<=(q i).2)=true:=h;rw [eb,h,Bool.or_true,Bool.true_or]
   have rT:(i:Int) < m->ia n q i=true->PV.val (.bool false)=PV.val (.bool (cJ n q m)):=λh hb=>by
    unfold cJ;rw [bc.2 ⟨i,by omega,hb⟩];rfl
   have rF:(m:Int)<=i->PV.val (.bool true)=PV.val (.bool (cJ n q m)):=λh=>by
    unfold cJ;rw [aF.2 λj hj=>hB j (by omega)];rfl
   have T4:(i:Int) < m->decide ((i:Int) > 0)=true->(!dP ((q (IntKind.i64.wrap ((i:Int) - 1)).toNat).1,(q (IntKind.i64.wrap ((i:Int) - 1)).toNat).2) ((q (i:Int).toNat).1,(q (i:Int).toNat).2))=true->ia n q i=true:=λhim' h h'=>by
    rw [Int.toNat_natCast] at h';rw [wp h him'] at h';have h':(!dP (q (i - 1)) (q i))=true:=h';have h:(i:Int) > 0:=of_decide_eq_true h;rw [eb,h',decide_eq_true (show 0 < i by omega),Bool.and_self,Bool.or_true]
   have N2:(i:Int) < m->decide ((q (i:Int).toNat).1 < 0)=false->decide ((q (i:Int).toNat).1>=(q (i:Int).toNat).2)=false->decide ((q (i:Int).toNat).2>=(n:Int))=false->(!dP ((q (IntKind.i64.wrap ((i:Int) - 1)).toNat).1,(q (IntKind.i64.wrap ((i:Int) - 1)).toNat).2) ((q (i:Int).toNat).1,(q (i:Int).toNat).2))=false->ia n q i=false:=λhim' h1 h2 h3 h4=>nA h1 h2 h3 (by
    by_cases hz:0 < i
    ·rw [Int.toNat_natCast,wp (decide_eq_true (by omega)) him'] at h4;have h4:(!dP (q (i - 1)) (q i))=false:=h4;rw [h4,Bool.and_false]
    ·rw [decide_eq_false hz,Bool.false_and])
   with_unfolding_all exact⟨(λh1=>⟨⟨Int.natCast_nonneg i,(bL h1)⟩,(λh2=>⟨(λh3=>⟨(λh4=>⟨(λh5=>⟨⟨(pb h5 (bL h1)).1,(pb h5 (bL h1)).2⟩,(λh6=>⟨[],aa [(2,.val (.bool (cJ n q m)))] [] 0 [],Wo trivial ⟨rT (bL h1) (T4 (bL h1) h5 h6),qQ⟩ trivial,rfl,rfl⟩),(λh6=>⟨i+1,[some 0],⟨Int.ofNat_lt.1 (bL h1),nx (bL h1) (N2 (bL h1) h2 h3 h4 h6)⟩,by have:=bL h1;show m - (i+1) < m - i;omega,Wo ⟨qZ ⟨⟨qW,rfl⟩,⟨qW,rfl⟩,qQ⟩,qQ⟩ ⟨pP,qW,rfl,wi (bL h1),qQ⟩ trivial⟩)⟩),(λh5=>⟨(λh6=>nomatch h6),(λh6=>⟨i+1,[some 0],⟨Int.ofNat_lt.1 (bL h1),nx (bL h1) (N1 h2 h3 h4 h5)⟩,by have:=bL h1;show m - (i+1) < m - i;omega,Wo ⟨qZ ⟨⟨qW,rfl⟩,⟨qW,rfl⟩,qQ⟩,qQ⟩ ⟨pP,qW,rfl,wi (bL h1),qQ⟩ trivial⟩)⟩)⟩),(λh4=>⟨(λh5=>⟨[],aa [(2,.val (.bool (cJ n q m)))] [] 0 [],Wo trivial ⟨rT (bL h1) (T3 h4),qQ⟩ trivial,rfl,rfl⟩),(λh5=>nomatch h5)⟩)⟩),(λh3=>⟨(λh4=>nomatch h4),(λh4=>⟨(λh5=>⟨[],aa [(2,.val (.bool (cJ n q m)))] [] 0 [],Wo trivial ⟨rT (bL h1) (T2 h3),qQ⟩ trivial,rfl,rfl⟩),(λh5=>nomatch h5)⟩)⟩)⟩),(λh2=>⟨(λh3=>nomatch h3),(λh3=>⟨(λh4=>nomatch h4),(λh4=>⟨(λh5=>⟨[],aa [(2,.val (.bool (cJ n q m)))] [] 0 [],Wo trivial ⟨rT (bL h1) (T1 h2),qQ⟩ trivial,rfl,rfl⟩),(λh5=>nomatch h5)⟩)⟩)⟩)⟩),(λh1=>⟨[],aa [(2,.val (.bool (cJ n q m)))] [] 0 [],Wo trivial ⟨rF (dI h1),qQ⟩ trivial,rfl,rfl⟩)⟩
 ·cases e
end Go.Proofs
namespace Go.Num
inductive yF (q:Nat->Int×Int) (m:Nat) (a:Int):Int->Prop
 |refl:yF q m a a
 |fwd (i:Nat) (h:i < m) (r:yF q m a (q i).1):yF q m a (q i).2
 |bwd (i:Nat) (h:i < m) (r:yF q m a (q i).2):yF q m a (q i).1
def jR (n:Nat) (z:Int):Bool:=decide (0<=z)&&decide (z < (n:Int))
end Go.Num
namespace Go.Proofs
end Go.Proofs
namespace Go.Num
def QB (k:Nat) (q:Rat):Prop:=q.num.natAbs < 256^k/\q.den < 256^k
theorem fD (n:Int) {d:Nat} (hd:d≠0):(mkRat n d).num.natAbs<=n.natAbs/\(mkRat n d).den<=d:=by
 obtain⟨g,hg,h1,h2⟩:=g9 n hd;refine⟨?_,?_⟩
 ·have h3:n.natAbs=(mkRat n d).num.natAbs*g:=by
   have:=congrArg Int.natAbs h1;rw [Int.natAbs_mul] at this;exact this
  rw [h3];exact Nat.le_mul_of_pos_right _ hg
 ·have h3:=Nat.le_mul_of_pos_right (mkRat n d).den hg;omega
theorem QB.mul {a b:Nat} {x y:Rat} (h1:QB a x) (h2:QB b y):QB (a+b) (x*y):=by
 have hd:x.den*y.den≠0:=Nat.mul_ne_zero x.den_nz y.den_nz;have h:=fD (x.num*y.num) hd;rw [<-Rat.mul_def'] at h;rw [Int.natAbs_mul] at h;have e1:=Nat.mul_lt_mul'' h1.1 h2.1;have e2:=Nat.mul_lt_mul'' h1.2 h2.2;rw [<-Nat.pow_add] at e1 e2;exact⟨by omega,by omega⟩
theorem vd (k:Nat) {a b:Nat} (h1:a < 256^k) (h2:b < 256^k):a+b < 256^(k+1):=by
 rw [Nat.pow_succ];omega
theorem QB.add {a b:Nat} {x y:Rat} (h1:QB a x) (h2:QB b y):QB (a+b+1) (x+y):=by
 have hd:x.den*y.den≠0:=Nat.mul_ne_zero x.den_nz y.den_nz;have h:=fD (x.num*y.den+y.num*x.den) hd;rw [<-Rat.add_def'] at h;have e1:=Nat.mul_lt_mul'' h1.1 h2.2;have e2:=Nat.mul_lt_mul'' h2.1 h1.2;have e3:=Nat.mul_lt_mul'' h1.2 h2.2;have e4:=Int.natAbs_add_le (x.num*y.den) (y.num*x.den);rw [Int.natAbs_mul,Int.natAbs_mul,Int.natAbs_natCast,Int.natAbs_natCast] at e4;rw [<-Nat.pow_add] at e1 e2 e3;rw [Nat.add_comm b a] at e2;have:=vd (a+b) e1 e2;exact⟨by omega,by rw [Nat.pow_succ];omega⟩
theorem QB.sub {a b:Nat} {x y:Rat} (h1:QB a x) (h2:QB b y):QB (a+b+1) (x - y):=by
 have hd:x.den*y.den≠0:=Nat.mul_ne_zero x.den_nz y.den_nz;have h:=fD (x.num*y.den - y.num*x.den) hd;rw [<-Rat.sub_def'] at h;have e1:=Nat.mul_lt_mul'' h1.1 h2.2;have e2:=Nat.mul_lt_mul'' h2.1 h1.2;have e3:=Nat.mul_lt_mul'' h1.2 h2.2;have e4:=Int.natAbs_add_le (x.num*y.den) (-(y.num*x.den));rw [Int.natAbs_neg,Int.natAbs_mul,Int.natAbs_mul,Int.natAbs_natCast,Int.natAbs_natCast,<-Int.sub_eq_add_neg] at e4;rw [<-Nat.pow_add] at e1 e2 e3;rw [Nat.add_comm b a] at e2;have:=vd (a+b) e1 e2;exact⟨by omega,by rw [Nat.pow_succ];omega⟩
theorem QB.inv {b:Nat} {y:Rat} (h:QB b y):QB b y⁻¹:=by
 rw [Rat.inv_def];have hp:0 < 256^b:=Nat.pow_pos (by decide);rcases(by omega:y.num=0\/0 < y.num\/y.num < 0) with e|e|e
 ·rw [e,Rat.divInt_zero];exact⟨by show 0 < _;exact hp,Nat.lt_of_le_of_lt (show(0:Rat).den<=y.den from y.den_pos) h.2⟩
 ·have e2:Rat.divInt (y.den:Int) y.num=mkRat (y.den:Int) y.num.natAbs:=by rw [<-Rat.divInt_ofNat];congr 1;omega
  have h3:=fD (y.den:Int) (d:=y.num.natAbs) (by omega);rw [e2];exact⟨Nat.lt_of_le_of_lt h3.1 h.2,Nat.lt_of_le_of_lt h3.2 h.1⟩
 ·have e2:Rat.divInt (y.den:Int) y.num=mkRat (-(y.den:Int)) y.num.natAbs:=by rw [<-Rat.divInt_ofNat,<-Rat.neg_divInt_neg];congr 1;omega
  have h3:=fD (-(y.den:Int)) (d:=y.num.natAbs) (by omega);rw [e2];rw [Int.natAbs_neg] at h3;exact⟨Nat.lt_of_le_of_lt h3.1 h.2,Nat.lt_of_le_of_lt h3.2 h.1⟩
theorem QB.div {a b:Nat} {x y:Rat} (h1:QB a x) (h2:QB b y):QB (a+b) (x / y):=by
 rw [Rat.div_def];exact h1.mul h2.inv
theorem QB.le {a b:Nat} {x:Rat} (h:QB a x) (hab:a<=b):QB b x:=by
 have:=Nat.pow_le_pow_right (show 0 < 256 by decide) hab;exact⟨Nat.lt_of_lt_of_le h.1 this,Nat.lt_of_lt_of_le h.2 this⟩
theorem nM {k d:Nat} (h:d < 256^k):(aO d).size<=k:=by
 unfold aO;split
 ·exact Nat.zero_le _
 ·exact aY h
def bx (q:Rat):RatS:=⟨decide (q.num < 0),ah q.num.natAbs,aO q.den⟩
def pv (x y:Rat):PtS:=⟨bx x,bx y⟩
theorem mA (q:Rat):(bx q).v=aw q:=rfl
def RatS.q (r:RatS):Rat:=aE r.v
theorem kV (q:Rat):(bx q).q=q:=aC q
theorem QB.rs {k:Nat} {q:Rat} (h:QB k q):(bx q).le k:=⟨aY h.1,nM h.2⟩
theorem QB.rk {k n:Nat} {q:Rat} (h:QB k q) (hk:k<=n):isRk n (aw q):=⟨_,_,_,rfl,Nat.le_trans (aY h.1) hk,Nat.le_trans (nM h.2) hk⟩
theorem RatS.le.qb {k:Nat} {r:RatS} (h:RatS.le k r):QB (k+1) r.q:=by
 have hb:=bK r.b;have hc:=bK r.c;have h1:256^r.b.size<=256^k:=Nat.pow_le_pow_right (by decide) h.1;have h2:256^r.c.size<=256^k:=Nat.pow_le_pow_right (by decide) h.2;have hd:bq (bv r.c) < 256^(k+1):=by
  rw [Nat.pow_succ];unfold bq;have:=Nat.pow_pos (n:=k) (show 0 < 256 by decide);split<;>omega
 have h3:=fD (az r.s (bv r.b)) (d:=bq (bv r.c)) (by have:=bT (bv r.c);omega);rw [aI] at h3;exact⟨Nat.lt_of_le_of_lt h3.1 (by rw [Nat.pow_succ];omega),Nat.lt_of_le_of_lt h3.2 hd⟩
theorem RatS.le.mono {a b:Nat} {r:RatS} (h:RatS.le a r) (hab:a<=b):RatS.le b r:=⟨Nat.le_trans h.1 hab,Nat.le_trans h.2 hab⟩
theorem PtS.le.mono {a b:Nat} {p:PtS} (h:PtS.le a p) (hab:a<=b):PtS.le b p:=⟨RatS.le.mono h.1 hab,RatS.le.mono h.2 hab⟩
theorem isPk.mono {a b:Nat} {v:Value} (h:isPk a v) (hab:a<=b):isPk b v:=by
 obtain⟨p,rfl,hp⟩:=h;exact⟨p,rfl,hp.mono hab⟩
theorem tX {k:Nat} {x y:Rat} (h1:QB k x) (h2:QB k y):(pv x y).le k:=⟨h1.rs,h2.rs⟩
def ib (p:PtS) (st:Nat):Blk:=⟨25,6,st,true,false,1,λ_=>p.cells⟩
def PtS.X (p:PtS):Rat:=p.x.q
def PtS.Y (p:PtS):Rat:=p.y.q
def cu (p u:PtS):Int:=if ao p.X u.X=0 then ao p.Y u.Y else ao p.X u.X
def cq (p u:PtS):PtS:=pv (p.X - u.X) (p.Y - u.Y)
def cL (p u:PtS):Rat:=p.X*u.Y - p.Y*u.X
def j5 (a b c:PtS):Int:=ao (cL (cq b a) (cq c a)) 0
theorem PtS.le.X {k:Nat} {p:PtS} (h:PtS.le k p):QB (k+1) p.X:=RatS.le.qb h.1
theorem PtS.le.Y {k:Nat} {p:PtS} (h:PtS.le k p):QB (k+1) p.Y:=RatS.le.qb h.2
theorem cj {a b:Nat} {p u:PtS} (h1:PtS.le a p) (h2:PtS.le b u):(cq p u).le (a+b+3):=tX ((h1.X.sub h2.X).le (by omega)) ((h1.Y.sub h2.Y).le (by omega))
theorem iJ {a b:Nat} {p u:PtS} (h1:PtS.le a p) (h2:PtS.le b u):QB (2*a+2*b+5) (cL p u):=((h1.X.mul h2.Y).sub (h1.Y.mul h2.X)).le (by omega)
theorem nN (x y:Rat):(pv x y).X=x:=kV x
theorem nO (x y:Rat):(pv x y).Y=y:=kV y
theorem cv {k n:Nat} {p:PtS} (h:PtS.le k p) (hk:k<=n):isRk n p.x.v:=⟨_,_,_,rfl,Nat.le_trans h.1.1 hk,Nat.le_trans h.1.2 hk⟩
theorem cw {k n:Nat} {p:PtS} (h:PtS.le k p) (hk:k<=n):isRk n p.y.v:=⟨_,_,_,rfl,Nat.le_trans h.2.1 hk,Nat.le_trans h.2.2 hk⟩
end Go.Num
namespace Go.Proofs
def D112:Opt:={ perm:=jm 1 [(0,true),(1,true),(2,true),(3,true),(4,true),(6,true),(7,true),(8,true),(9,true),(10,true),(5,false),(11,false)] }
theorem yG:am D112.toOrd Tryz.f112 3=true:=by kernel_rfl
def mB:List PV->Option Ans
 |[.val v,.val u,.val (.func (.func 113) ⟨[]⟩ ⟨[]⟩)]=>some ⟨some (isPk 4294967296 v/\isPk 4294967296 u),.val (pv ((aN v).X+(aN u).X) ((aN v).Y+(aN u).Y)).v,[]⟩
 |_=>none
theorem yH:FnOk Tryz.prog 112 mB:=by
 refine FnOk.ofW aj (an (l:=[(113,z7)]) (own:=[]) (inl:=[]) (by simp [f113]) (by simp)) Tryz.func112 D112 3 yG λargs r e=>?_;unfold mB at e;split at e
 ·rename_i v u
  cases e;refine⟨by simp,λhm=>?_⟩;obtain⟨⟨p,rfl,hp⟩,u,rfl,hu⟩:=hm _ rfl;refine⟨[],aa [(0,.val p.v),(1,.val u.v),(2,.val (.func (.func 113) ⟨[]⟩ ⟨[]⟩))] [] 0 [],Wo trivial ⟨rfl,rfl,rfl,qQ⟩ trivial,?_⟩;have hx:=And.intro (cv hp (Nat.le_refl _)) (cv hu (Nat.le_refl _));have hy:=And.intro (cw hp (Nat.le_refl _)) (cw hu (Nat.le_refl _));with_unfolding_all exact⟨hx,hy,[some 2],aa [(6,.ptr 0 0 0 0)] [ib (pv (p.X+u.X) (p.Y+u.Y)) 0] 1 [],Wo ⟨qK,qQ⟩ ⟨pP,qQ⟩ trivial,rfl,rfl⟩
 ·cases e
def jS:List PV->Option Ans
 |[.val v,.val u,.val (.func (.func 114) ⟨[]⟩ ⟨[]⟩)]=>some ⟨some (isPk 4294967296 v/\isPk 4294967296 u),.val (pv ((aN v).X*(aN u).X) ((aN v).Y*(aN u).Y)).v,[]⟩
 |_=>none
theorem rJ:FnOk Tryz.prog 112 jS:=by
 refine FnOk.ofW aj (an (l:=[(114,Ct)]) (own:=[]) (inl:=[]) (by simp [f114]) (by simp)) Tryz.func112 D112 3 yG λargs r e=>?_;unfold jS at e;split at e
 ·rename_i v u
  cases e;refine⟨by simp,λhm=>?_⟩;obtain⟨⟨p,rfl,hp⟩,u,rfl,hu⟩:=hm _ rfl;refine⟨[],aa [(0,.val p.v),(1,.val u.v),(2,.val (.func (.func 114) ⟨[]⟩ ⟨[]⟩))] [] 0 [],Wo trivial ⟨rfl,rfl,rfl,qQ⟩ trivial,?_⟩;have hx:=And.intro (cv hp (Nat.le_refl _)) (cv hu (Nat.le_refl _));have hy:=And.intro (cw hp (Nat.le_refl _)) (cw hu (Nat.le_refl _));with_unfolding_all exact⟨hx,hy,[some 2],aa [(6,.ptr 0 0 0 0)] [ib (pv (p.X*u.X) (p.Y*u.Y)) 0] 1 [],Wo ⟨qK,qQ⟩ ⟨pP,qQ⟩ trivial,rfl,rfl⟩
 ·cases e
def mC:List PV->Option Ans
 |[.val v,.val u,.val (.func (.func 115) ⟨[]⟩ ⟨[]⟩)]=>some ⟨some (isPk 4294967296 v/\isPk 4294967296 u),.val (pv ((aN v).X - (aN u).X) ((aN v).Y - (aN u).Y)).v,[]⟩
 |_=>none
theorem yI:FnOk Tryz.prog 112 mC:=by
 refine FnOk.ofW aj (an (l:=[(115,m8)]) (own:=[]) (inl:=[]) (by simp [f115]) (by simp)) Tryz.func112 D112 3 yG λargs r e=>?_;unfold mC at e;split at e
 ·rename_i v u
  cases e;refine⟨by simp,λhm=>?_⟩;obtain⟨⟨p,rfl,hp⟩,u,rfl,hu⟩:=hm _ rfl;refine⟨[],aa [(0,.val p.v),(1,.val u.v),(2,.val (.func (.func 115) ⟨[]⟩ ⟨[]⟩))] [] 0 [],Wo trivial ⟨rfl,rfl,rfl,qQ⟩ trivial,?_⟩;have hx:=And.intro (cv hp (Nat.le_refl _)) (cv hu (Nat.le_refl _));have hy:=And.intro (cw hp (Nat.le_refl _)) (cw hu (Nat.le_refl _));with_unfolding_all exact⟨hx,hy,[some 2],aa [(6,.ptr 0 0 0 0)] [ib (pv (p.X - u.X) (p.Y - u.Y)) 0] 1 [],Wo ⟨qK,qQ⟩ ⟨pP,qQ⟩ trivial,rfl,rfl⟩
 ·cases e
def Fw:List PV->Option Ans
 |[.val v,.val u]=>some ⟨some (isPk 4294967296 v/\isPk 4294967296 u),.val (cq (aN v) (aN u)).v,[]⟩
 |_=>none
theorem Hw:am {} Tryz.f76 2=true:=by kernel_rfl
theorem f76:FnOk Tryz.prog 76 Fw:=by
 refine FnOk.ofW aj (an (l:=[(112,mC)]) (own:=[]) (inl:=[]) (by simp [yI]) (by simp)) Tryz.func76 {} 2 Hw λargs r e=>?_;unfold Fw at e;split at e
 ·rename_i v u
  cases e;refine⟨by simp,λhm=>?_⟩;obtain⟨⟨p,rfl,hp⟩,u,rfl,hu⟩:=hm _ rfl;refine⟨[],aa [(0,.val p.v),(1,.val u.v)] [] 0 [],Wo trivial ⟨rfl,rfl,qQ⟩ trivial,?_⟩;with_unfolding_all exact⟨⟨⟨p,rfl,hp⟩,u,rfl,hu⟩,[some 2],aa [(4,.ptr 0 0 0 0)] [ib (cq p u) 0] 1 [],Wo ⟨qK,qQ⟩ ⟨pP,qQ⟩ trivial,rfl,rfl⟩
 ·cases e
def Ar:List PV->Option Ans
 |[.val v,.val u]=>some ⟨some (isPk 1000000 v/\isPk 1000000 u),.val (aw (cL (aN v) (aN u))),[]⟩
 |_=>none
theorem Fx:am {} Tryz.f140 2=true:=by kernel_rfl
theorem f140:FnOk Tryz.prog 140 Ar:=by
 refine FnOk.ofW aj (an (l:=[(112,jS),(115,m8)]) (own:=[]) (inl:=[]) (by simp [rJ,f115]) (by simp)) Tryz.func140 {} 2 Fx λargs r e=>?_;unfold Ar at e;split at e
 ·rename_i v u
  cases e;refine⟨by simp,λhm=>?_⟩;obtain⟨⟨p,rfl,hp⟩,u,rfl,hu⟩:=hm _ rfl;refine⟨[],aa [(0,.val p.v),(1,.val u.v)] [] 0 [],Wo trivial ⟨rfl,rfl,qQ⟩ trivial,?_⟩;have hp':=hp.mono (show 1000000<=4294967296 by decide);have hu':=hu.mono (show 1000000<=4294967296 by decide);have hu2:(PtS.mk u.y u.x).le 4294967296:=⟨hu'.2,hu'.1⟩;have r1:isRk 4294967296 (aw (p.X*u.Y)):=(hp.X.mul hu.Y).rk (by decide);have r2:isRk 4294967296 (aw (p.Y*u.X)):=(hp.Y.mul hu.X).rk (by decide);have e:aE (aw (p.X*u.Y)) - aE (aw (p.Y*u.X))=cL p u:=by rw [aC,aC];rfl
  with_unfolding_all exact⟨⟨⟨p,rfl,hp'⟩,⟨u.y,u.x⟩,rfl,hu2⟩,⟨r1,r2⟩,[some 2],aa [(4,.ptr 0 0 0 0)] [aZ (decide ((cL p u).num < 0)) (ah (cL p u).num.natAbs) (aO (cL p u).den) 0] 1 [],Wo ⟨qZ ⟨⟨congrArg (λq:Rat=>PV.val (.bool (decide (q.num < 0)))) e,rfl⟩,⟨congrArg (λq:Rat=>PV.val (.string (ah q.num.natAbs))) e,rfl⟩,⟨congrArg (λq:Rat=>PV.val (.string (aO q.den))) e,rfl⟩,qQ⟩,qQ⟩ ⟨pP,qQ⟩ trivial,rfl,rfl⟩
 ·cases e
def Hy:List PV->Option Ans
 |[.val v,.val u]=>some ⟨some (isPk 4294967296 v/\isPk 4294967296 u),.val (goInt (cu (aN v) (aN u))),[]⟩
 |_=>none
theorem Hz:am {} Tryz.f38 2=true:=by kernel_rfl
theorem f38:FnOk Tryz.prog 38 Hy:=by
 refine FnOk.ofW aj (an (l:=[(80,GK)]) (own:=[]) (inl:=[]) (by simp [f80]) (by simp)) Tryz.func38 {} 2 Hz λargs r e=>?_;unfold Hy at e;split at e
 ·rename_i v u
  cases e;refine⟨by simp,λhm=>?_⟩;obtain⟨⟨p,rfl,hp⟩,u,rfl,hu⟩:=hm _ rfl;refine⟨[],aa [(0,.val p.v),(1,.val u.v)] [] 0 [],Wo trivial ⟨rfl,rfl,qQ⟩ trivial,?_⟩;have hx:=And.intro (cv hp (Nat.le_refl _)) (cv hu (Nat.le_refl _));have hy:=And.intro (cw hp (Nat.le_refl _)) (cw hu (Nat.le_refl _));have t1:(!(ao p.X u.X==0))=true->PV.val (goInt (ao p.X u.X))=PV.val (goInt (cu p u)):=λh=>by
   have h:¬ao p.X u.X=0:=by simpa using h
   rw [cu,if_neg h]
  have t2:(!(ao p.X u.X==0))=false->PV.val (goInt (ao p.Y u.Y))=PV.val (goInt (cu p u)):=λh=>by
   have h:ao p.X u.X=0:=by simpa using h
   rw [cu,if_pos h]
  with_unfolding_all exact⟨hx,λh=>⟨[],aa [(4,.val (goInt (cu p u)))] [] 0 [],Wo trivial ⟨t1 h,qQ⟩ trivial,rfl,rfl⟩,λh=>⟨hy,[],aa [(4,.val (goInt (cu p u)))] [] 0 [],Wo trivial ⟨t2 h,qQ⟩ trivial,rfl,rfl⟩⟩
 ·cases e
def GO:List PV->Option Ans
 |[.val (.int .i64 x),.val (.int .i64 y)]=>some ⟨some ((-9223372036854775808<=x/\x < 9223372036854775808) /\ -9223372036854775808<=y/\y < 9223372036854775808),.val (pv (mkRat x 1) (mkRat y 1)).v,[]⟩
 |_=>none
theorem HA:am {} Tryz.f52 2=true:=by kernel_rfl
theorem f52:FnOk Tryz.prog 52 GO:=by
 refine FnOk.ofW aj (an (l:=[(88,GM)]) (own:=[]) (inl:=[]) (by simp [f88]) (by simp)) Tryz.func52 {} 2 HA λargs r e=>?_;unfold GO at e;split at e
 ·rename_i x y
  cases e;refine⟨by simp,λhm=>?_⟩;have hp:=hm _ rfl;refine⟨[],aa [(0,.val (.int .i64 x)),(1,.val (.int .i64 y))] [] 0 [],Wo trivial ⟨rfl,rfl,qQ⟩ trivial,?_⟩;with_unfolding_all exact⟨hp.1,hp.2,[some 0],aa [(4,.ptr 0 0 0 0)] [ib (pv (mkRat x 1) (mkRat y 1)) 0] 1 [],Wo ⟨qK,qQ⟩ ⟨pP,qQ⟩ trivial,rfl,rfl⟩
 ·cases e
def As:List PV->Option Ans
 |[.val v,.val u,.val w]=>some ⟨some (isPk 10000 v/\isPk 10000 u/\isPk 10000 w),.val (goInt (j5 (aN v) (aN u) (aN w))),[]⟩
 |_=>none
def D107:Opt:={ perm:=jm 1 [(0,true),(1,true),(3,true),(4,true),(2,false),(5,false)] }
theorem Fy:am D107.toOrd Tryz.f107 3=true:=by kernel_rfl
theorem f107:FnOk Tryz.prog 107 As:=by
 refine FnOk.ofW aj (an (l:=[(76,Fw),(140,Ar),(139,yr)]) (own:=[]) (inl:=[]) (by simp [f76,f140,f139]) (by simp)) Tryz.func107 D107 3 Fy λargs r e=>?_;unfold As at e;split at e
 ·rename_i v u w
  cases e;refine⟨by simp,λhm=>?_⟩;obtain⟨⟨a,rfl,ha⟩,⟨b,rfl,hb⟩,c,rfl,hc⟩:=hm _ rfl;refine⟨[],aa [(0,.val a.v),(1,.val b.v),(2,.val c.v)] [] 0 [],Wo trivial ⟨rfl,rfl,rfl,qQ⟩ trivial,?_⟩;have ha':=ha.mono (show 10000<=4294967296 by decide);have hb':=hb.mono (show 10000<=4294967296 by decide);have hc':=hc.mono (show 10000<=4294967296 by decide);have s1:=(cj hb ha).mono (show 10000+10000+3<=1000000 by decide);have s2:=(cj hc ha).mono (show 10000+10000+3<=1000000 by decide);have r1:isRk 4294967296 (aw (cL (cq b a) (cq c a))):=(iJ (cj hb ha) (cj hc ha)).rk (by decide);have e:ao (aE (aw (cL (cq b a) (cq c a)))) 0=j5 a b c:=by rw [aC];rfl
  with_unfolding_all refine⟨⟨⟨b,rfl,hb'⟩,a,rfl,ha'⟩,⟨⟨c,rfl,hc'⟩,a,rfl,ha'⟩,⟨⟨cq b a,rfl,s1⟩,cq c a,rfl,s2⟩,?_,[],aa [(6,.val (goInt (j5 a b c)))] [] 0 [],Wo trivial ⟨?_,qQ⟩ trivial,rfl,rfl⟩
  ·exact r1
  ·exact congrArg (λz=>PV.val (goInt z)) e
 ·cases e
end Go.Proofs
namespace Go.Num
def iL:List PV->Nat×(Nat->List PV)
 |[.rs 6 n g]=>(n,g)
 |_=>(0,λ_=>[])
def DF (p u:RatS):Bool:=p.s==u.s&&(p.b==u.b&&(p.c==u.c&&true))
def aX (p u:PtS):Bool:=DF p.x u.x&&(DF p.y u.y&&true)
def HB (k:Nat) (c:List PV):Prop:=c=[.rs 6 (iL c).1 (λi=>(ab (iL c).2 i).cells)]/\isPL k (iL c).1 (iL c).2/\0 < (iL c).1
def lg (k:Nat) (c:List PV):Prop:=c=(cr c).cells/\(cr c).le k
def nP (u v:PtS):Bool:=decide (cu v u<=0)
def dS (a b v:PtS):Bool:=!aX v a&&!aX v b&&decide (j5 a b v<=0)
theorem Bo {h:Nat->List PV} {x:List PV} (e:h 0=x):∀i,i < 1->x=h i:=λi hi=>by
 have:i=0:=by omega
 rw [this,e]
end Go.Num
namespace Go.Proofs
def CN:List PV->Option Ans
 |[.val v,.rp 1 1 h 0 0]=>some ⟨some (isPk 10000 v/\HB 10000 (h 0)),.val (.bool (nP (ab (iL (h 0)).2 0) (aN v))),[]⟩
 |_=>none
theorem Fz:am {} Tryz.f168 2=true:=by kernel_rfl
theorem f168:FnOk Tryz.prog 168 CN:=by
 refine FnOk.ofW aj (an (l:=[(38,Hy)]) (own:=[]) (inl:=[]) (by simp [f38]) (by simp)) Tryz.func168 {} 2 Fz λargs r e=>?_;unfold CN at e;split at e
 ·rename_i v h
  cases e;refine⟨by simp,λhm=>?_⟩;obtain⟨⟨p,rfl,hp⟩,h1,⟨hg,hn⟩,h0⟩:=hm _ rfl;generalize (iL (h 0)).1=n at *
  generalize (iL (h 0)).2=g at *
  refine⟨[],aa [(0,.val p.v),(1,.rp 1 1 (λ_=>[.rs 6 n (λi=>(ab g i).cells)]) 0 0)] [] 0 [],Wo trivial ⟨rfl,?_,qQ⟩ trivial,?_⟩
  ·exact⟨rfl,rfl,rfl,rfl,Bo h1⟩
  ·have h0':0 < n:=h0;have hp':=hp.mono (show 10000<=4294967296 by decide);have hu:=(hg 0 h0').2.mono (show 10000<=4294967296 by decide);with_unfolding_all refine⟨⟨by decide,by omega⟩,⟨⟨p,rfl,hp'⟩,ab g (Int.toNat 0),rfl,hu⟩,[],aa [(3,.val (.bool (nP (ab g 0) p)))] [] 0 [],Wo trivial ⟨?_,qQ⟩ trivial,rfl,rfl⟩
   rfl
 ·cases e
def CO:List PV->Option Ans
 |[.val v,.rp 6 1 h 0 0,.rp 6 1 h' 0 0]=>some ⟨some (isPk 10000 v/\lg 10000 (h 0)/\lg 10000 (h' 0)),.val (.bool (dS (cr (h 0)) (cr (h' 0)) (aN v))),[]⟩
 |_=>none
theorem FA:am {} Tryz.f170 3=true:=by kernel_rfl
theorem f170:FnOk Tryz.prog 170 CO:=by
 refine FnOk.ofW aj (an (l:=[(107,As)]) (own:=[]) (inl:=[]) (by simp [f107]) (by simp)) Tryz.func170 {} 3 FA λargs r e=>?_;unfold CO at e;split at e
 ·rename_i v h h'
  cases e;refine⟨by simp,λhm=>?_⟩;obtain⟨⟨p,rfl,hp⟩,⟨h1,ha⟩,h2,hb⟩:=hm _ rfl;generalize cr (h 0)=a at *
  generalize cr (h' 0)=b at *
  refine⟨[],aa [(0,.val p.v),(1,.rp 6 1 (λ_=>a.cells) 0 0),(2,.rp 6 1 (λ_=>b.cells) 0 0)] [] 0 [],Wo trivial ⟨rfl,?_,?_,qQ⟩ trivial,?_⟩
  ·exact⟨rfl,rfl,rfl,rfl,Bo h1⟩
  ·exact⟨rfl,rfl,rfl,rfl,Bo h2⟩
  ·have k1:(!aX p a)=true->(!aX p b)=true->PV.val (.bool (decide (j5 a b p<=0)))=PV.val (.bool (dS a b p)):=λh h'=>by
    unfold dS;rw [h,h'];rfl
   have k2:(!aX p b) = !true->PV.val (.bool false)=PV.val (.bool (dS a b p)):=λh=>by
    unfold dS;rw [h,Bool.not_true,Bool.and_false,Bool.false_and]
   have k3:(!aX p a) = !true->PV.val (.bool false)=PV.val (.bool (dS a b p)):=λh=>by
    unfold dS;rw [h,Bool.not_true,Bool.false_and,Bool.false_and]
   with_unfolding_all refine⟨λh3=>⟨λh4=>⟨⟨⟨a,rfl,ha⟩,⟨b,rfl,hb⟩,p,rfl,hp⟩,⟨[],aa [(4,.val (.bool (dS a b p)))] [] 0 [],Wo trivial ⟨?_,qQ⟩ trivial,rfl,rfl⟩⟩,λh4=>⟨[],aa [(4,.val (.bool (dS a b p)))] [] 0 [],Wo trivial ⟨?_,qQ⟩ trivial,rfl,rfl⟩⟩,λh3=>⟨λh4=>(nomatch h4),λh4=>⟨[],aa [(4,.val (.bool (dS a b p)))] [] 0 [],Wo trivial ⟨?_,qQ⟩ trivial,rfl,rfl⟩⟩⟩
   ·exact k1 h3 h4
   ·exact k2 h4
   ·exact k3 h3
 ·cases e
def pw:List PV->Option Ans
 |[.rs 6 n g,.fn (.func 168) [] [.rp 1 1 cc 0 0]]=>some ⟨some (isPL 10000 n g/\HB 10000 (cc 0)),.val (.int .i64 (cW (λi=>nP (ab (iL (cc 0)).2 0) (ab g i)) n 0)),[]⟩
 |_=>none
theorem At:FnOk Tryz.prog 83 pw:=by
 refine FnOk.ofW aj (an (l:=[(168,CN)]) (own:=[]) (inl:=[]) (by simp [f168]) (by simp)) Tryz.func83 {} 2 tR λargs r e=>?_;unfold pw at e;split at e
 ·rename_i n g cc
  cases e;refine⟨by simp,λhm=>?_⟩;obtain⟨⟨hg,hn⟩,h1⟩:=hm _ rfl;refine⟨[],aa [(0,.rs 6 n (λi=>(ab g i).cells)),(1,.fn (.func 168) [] [.rp 1 1 cc 0 0])] [] 0 [],Wo trivial ⟨⟨rfl,rfl,λi hi=>(hg i hi).1.symm⟩,⟨rfl,trivial,⟨rfl,rfl,rfl,rfl,λ_ _=>rfl⟩,qQ⟩,qQ⟩ trivial,?_⟩;obtain⟨X,hX⟩:∃X,X=cW (λi=>nP (ab (iL (cc 0)).2 0) (ab g i)) n 0:=⟨_,rfl⟩;rw [<-hX];with_unfolding_all refine⟨Nat,λi=>i<=n/\cW (λi=>nP (ab (iL (cc 0)).2 0) (ab g i)) (n - i) i=X,λi=>aa [(0,.rs 6 n (λi=>(ab g i).cells)),(1,.fn (.func 168) [] [.rp 1 1 cc 0 0]),(7,.val (goInt n)),(8,.val (goInt i))] [] 0 [],λi=>n - i,⟨0,[],⟨Nat.zero_le _,hX.symm⟩,Wo trivial ⟨qW,⟨rfl,trivial,⟨rfl,rfl,rfl,rfl,λ_ _=>rfl⟩,qQ⟩,rfl,rfl,qQ⟩ trivial⟩,λi hi=>?_⟩
  obtain⟨hin,hI⟩:i<=n/\cW (λi=>nP (ab (iL (cc 0)).2 0) (ab g i)) (n - i) i=X:=hi;with_unfolding_all refine⟨λh=>?_,λh=>⟨[],aa [(4,.val (.int .i64 X))] [] 0 [],Wo trivial ⟨?_,qQ⟩ trivial,rfl,rfl⟩⟩
  ·have h:(i:Int) < n:=bL h;have e:(i:Int).toNat=i:=Int.toNat_natCast i;have hstep:cW (λi=>nP (ab (iL (cc 0)).2 0) (ab g i)) (n - i) i=bif nP (ab (iL (cc 0)).2 0) (ab g i) then(i:Int) else cW (λi=>nP (ab (iL (cc 0)).2 0) (ab g i)) (n - (i+1)) (i+1):=by
    rw [show n - i=(n - (i+1))+1 by omega];rfl
   have hip:=(hg i (by omega)).2;rw [<-e] at hip;with_unfolding_all refine⟨⟨by omega,by omega⟩,⟨⟨ab g (i:Int).toNat,rfl,hip⟩,h1⟩,λh'=>⟨[],aa [(4,.val (.int .i64 X))] [] 0 [],Wo trivial ⟨?_,qQ⟩ trivial,rfl,rfl⟩,λh'=>⟨i+1,[],⟨by omega,?_⟩,by show n - (i+1) < n - i;omega,Wo trivial ⟨qW,⟨rfl,trivial,⟨rfl,rfl,rfl,rfl,λ_ _=>rfl⟩,qQ⟩,rfl,?_,qQ⟩ trivial⟩⟩
   ·have h':(nP (ab (iL (cc 0)).2 0) (ab g (i:Int).toNat))=true:=h';rw [e] at h';rw [h',cond_true] at hstep;exact congrArg (λz=>PV.val (.int .i64 z)) (hstep.symm.trans hI)
   ·have h':(nP (ab (iL (cc 0)).2 0) (ab g (i:Int).toNat))=false:=h';rw [e] at h';rw [h',cond_false] at hstep;exact hstep.symm.trans hI
   ·show PV.val (.int .i64 (IntKind.i64.wrap ((i:Int)+1)))=PV.val (.int .i64 ((i+1:Nat):Int));rw [wrap64 (by omega) (by omega)];rfl
  ·have h:(n:Int)<=i:=dI h;rw [show n - i=0 by omega] at hI;exact congrArg (λz=>PV.val (.int .i64 z)) hI
 ·cases e
def px:List PV->Option Ans
 |[.rs 6 n g,.fn (.func 168) [] [.rp 1 1 cc 0 0]]=>some ⟨some (isPL 10000 n g/\HB 10000 (cc 0)),.val (.bool (aA (λi=>nP (ab (iL (cc 0)).2 0) (ab g i)) n)),[]⟩
 |_=>none
theorem Au:FnOk Tryz.prog 65 px:=by
 refine FnOk.ofW aj (an (l:=[(83,pw)]) (own:=[]) (inl:=[]) (by simp [At]) (by simp)) Tryz.func65 {} 2 tS λargs r e=>?_;unfold px at e;split at e
 ·rename_i n g cc
  cases e;refine⟨by simp,λhm=>?_⟩;have hp:=hm _ rfl;refine⟨[],aa [(0,.rs 6 n g),(1,.fn (.func 168) [] [.rp 1 1 cc 0 0])] [] 0 [],Wo trivial ⟨⟨rfl,rfl,λi hi=>rfl⟩,⟨rfl,trivial,⟨rfl,rfl,rfl,rfl,λ_ _=>rfl⟩,qQ⟩,qQ⟩ trivial,?_⟩;with_unfolding_all refine⟨hp,[],aa [(4,.val (.bool (aA (λi=>nP (ab (iL (cc 0)).2 0) (ab g i)) n)))] [] 0 [],Wo trivial ⟨?_,qQ⟩ trivial,rfl,rfl⟩
  exact congrArg (λz=>PV.val (.bool z)) (dZ _ _)
 ·cases e
def py:List PV->Option Ans
 |[.rs 6 n g,.fn (.func 170) [] [.rp 6 1 cc 0 0,.rp 6 1 dd 0 0]]=>some ⟨some (isPL 10000 n g/\lg 10000 (cc 0)/\lg 10000 (dd 0)),.val (.int .i64 (cW (λi=>dS (cr (cc 0)) (cr (dd 0)) (ab g i)) n 0)),[]⟩
 |_=>none
theorem Av:FnOk Tryz.prog 83 py:=by
 refine FnOk.ofW aj (an (l:=[(170,CO)]) (own:=[]) (inl:=[]) (by simp [f170]) (by simp)) Tryz.func83 {} 2 tR λargs r e=>?_;unfold py at e;split at e
 ·rename_i n g cc dd
  cases e;refine⟨by simp,λhm=>?_⟩;obtain⟨⟨hg,hn⟩,h1,h2⟩:=hm _ rfl;refine⟨[],aa [(0,.rs 6 n (λi=>(ab g i).cells)),(1,.fn (.func 170) [] [.rp 6 1 cc 0 0,.rp 6 1 dd 0 0])] [] 0 [],Wo trivial ⟨⟨rfl,rfl,λi hi=>(hg i hi).1.symm⟩,⟨rfl,trivial,⟨rfl,rfl,rfl,rfl,λ_ _=>rfl⟩,⟨rfl,rfl,rfl,rfl,λ_ _=>rfl⟩,qQ⟩,qQ⟩ trivial,?_⟩;obtain⟨X,hX⟩:∃X,X=cW (λi=>dS (cr (cc 0)) (cr (dd 0)) (ab g i)) n 0:=⟨_,rfl⟩;rw [<-hX];with_unfolding_all refine⟨Nat,λi=>i<=n/\cW (λi=>dS (cr (cc 0)) (cr (dd 0)) (ab g i)) (n - i) i=X,λi=>aa [(0,.rs 6 n (λi=>(ab g i).cells)),(1,.fn (.func 170) [] [.rp 6 1 cc 0 0,.rp 6 1 dd 0 0]),(7,.val (goInt n)),(8,.val (goInt i))] [] 0 [],λi=>n - i,⟨0,[],⟨Nat.zero_le _,hX.symm⟩,Wo trivial ⟨qW,⟨rfl,trivial,⟨rfl,rfl,rfl,rfl,λ_ _=>rfl⟩,⟨rfl,rfl,rfl,rfl,λ_ _=>rfl⟩,qQ⟩,rfl,rfl,qQ⟩ trivial⟩,λi hi=>?_⟩
  obtain⟨hin,hI⟩:i<=n/\cW (λi=>dS (cr (cc 0)) (cr (dd 0)) (ab g i)) (n - i) i=X:=hi;with_unfolding_all refine⟨λh=>?_,λh=>⟨[],aa [(4,.val (.int .i64 X))] [] 0 [],Wo trivial ⟨?_,qQ⟩ trivial,rfl,rfl⟩⟩
  ·have h:(i:Int) < n:=bL h;have e:(i:Int).toNat=i:=Int.toNat_natCast i;have hstep:cW (λi=>dS (cr (cc 0)) (cr (dd 0)) (ab g i)) (n - i) i=bif dS (cr (cc 0)) (cr (dd 0)) (ab g i) then(i:Int) else cW (λi=>dS (cr (cc 0)) (cr (dd 0)) (ab g i)) (n - (i+1)) (i+1):=by
    rw [show n - i=(n - (i+1))+1 by omega];rfl
   have hip:=(hg i (by omega)).2;rw [<-e] at hip;with_unfolding_all refine⟨⟨by omega,by omega⟩,⟨⟨ab g (i:Int).toNat,rfl,hip⟩,h1,h2⟩,λh'=>⟨[],aa [(4,.val (.int .i64 X))] [] 0 [],Wo trivial ⟨?_,qQ⟩ trivial,rfl,rfl⟩,λh'=>⟨i+1,[],⟨by omega,?_⟩,by show n - (i+1) < n - i;omega,Wo trivial ⟨qW,⟨rfl,trivial,⟨rfl,rfl,rfl,rfl,λ_ _=>rfl⟩,⟨rfl,rfl,rfl,rfl,λ_ _=>rfl⟩,qQ⟩,rfl,?_,qQ⟩ trivial⟩⟩
   ·have h':(dS (cr (cc 0)) (cr (dd 0)) (ab g (i:Int).toNat))=true:=h';rw [e] at h';rw [h',cond_true] at hstep;exact congrArg (λz=>PV.val (.int .i64 z)) (hstep.symm.trans hI)
   ·have h':(dS (cr (cc 0)) (cr (dd 0)) (ab g (i:Int).toNat))=false:=h';rw [e] at h';rw [h',cond_false] at hstep;exact hstep.symm.trans hI
   ·show PV.val (.int .i64 (IntKind.i64.wrap ((i:Int)+1)))=PV.val (.int .i64 ((i+1:Nat):Int));rw [wrap64 (by omega) (by omega)];rfl
  ·have h:(n:Int)<=i:=dI h;rw [show n - i=0 by omega] at hI;exact congrArg (λz=>PV.val (.int .i64 z)) hI
 ·cases e
def pz:List PV->Option Ans
 |[.rs 6 n g,.fn (.func 170) [] [.rp 6 1 cc 0 0,.rp 6 1 dd 0 0]]=>some ⟨some (isPL 10000 n g/\lg 10000 (cc 0)/\lg 10000 (dd 0)),.val (.bool (aA (λi=>dS (cr (cc 0)) (cr (dd 0)) (ab g i)) n)),[]⟩
 |_=>none
theorem Aw:FnOk Tryz.prog 65 pz:=by
 refine FnOk.ofW aj (an (l:=[(83,py)]) (own:=[]) (inl:=[]) (by simp [Av]) (by simp)) Tryz.func65 {} 2 tS λargs r e=>?_;unfold pz at e;split at e
 ·rename_i n g cc dd
  cases e;refine⟨by simp,λhm=>?_⟩;have hp:=hm _ rfl;refine⟨[],aa [(0,.rs 6 n g),(1,.fn (.func 170) [] [.rp 6 1 cc 0 0,.rp 6 1 dd 0 0])] [] 0 [],Wo trivial ⟨⟨rfl,rfl,λi hi=>rfl⟩,⟨rfl,trivial,⟨rfl,rfl,rfl,rfl,λ_ _=>rfl⟩,⟨rfl,rfl,rfl,rfl,λ_ _=>rfl⟩,qQ⟩,qQ⟩ trivial,?_⟩;with_unfolding_all refine⟨hp,[],aa [(4,.val (.bool (aA (λi=>dS (cr (cc 0)) (cr (dd 0)) (ab g i)) n)))] [] 0 [],Wo trivial ⟨?_,qQ⟩ trivial,rfl,rfl⟩
  exact congrArg (λz=>PV.val (.bool z)) (dZ _ _)
 ·cases e
end Go.Proofs
namespace Go.Num
def Jr (h:Nat->List PV):Prop:=(h=λ_=>[.rs 6 (iL (h 0)).1 (λi=>(ab (iL (h 0)).2 i).cells)])/\(iL (h 0)).1<=140737488355328
end Go.Num
namespace Go.Proofs
def Ax:List PV->Option Ans
 |[.rs 6 n g]=>some ⟨some (∀i,i < n->g i=(ab g i).cells),.fn (.func 207) [] [.rp 1 1 (λ_=>[.rs 6 n (λi=>(ab g i).cells)]) 0 0],[]⟩
 |_=>none
theorem FB:am {} Tryz.f169 1=true:=by kernel_rfl
theorem f169:FnOk Tryz.prog 169 Ax:=by
 refine FnOk.ofW aj (an (l:=[]) (own:=[]) (inl:=[]) (by simp) (by simp)) Tryz.func169 {} 1 FB λargs r e=>?_;unfold Ax at e;split at e
 ·rename_i n g
  cases e;refine⟨by simp,λhm=>?_⟩;have hg:=hm _ rfl;refine⟨[],aa [(0,.rs 6 n (λi=>(ab g i).cells))] [] 0 [],Wo trivial ⟨⟨rfl,rfl,λi hi=>(hg i hi).symm⟩,qQ⟩ trivial,?_⟩;with_unfolding_all exact⟨[some 0],aa [(2,.fn (.func 207) [] [.ptr 0 0 0 0])] [⟨34,1,0,true,false,1,λ_=>[.rs 6 n (λi=>(ab g i).cells)]⟩] 1 [],Wo ⟨qZ ⟨⟨qW,rfl⟩,qQ⟩,qQ⟩ ⟨⟨rfl,trivial,pP,qQ⟩,qQ⟩ trivial,rfl,rfl⟩
 ·cases e
def Ay:List PV->Option gR
 |[.rp 1 1 h 0 0]=>some ⟨some (Jr h),(iL (h 0)).1,λi=>[.val (ab (iL (h 0)).2 i).v,.val (ab (iL (h 0)).2 ((i+1)%(iL (h 0)).1)).v]⟩
 |_=>none
def D207:Opt:={ perm:=jm 3 (rds 10) }
theorem FC:am D207.toOrd Tryz.f207 2=true:=by kernel_rfl
theorem f207:SeqFn Tryz.prog 207 Ay:=by
 refine SeqFn.of aj (an (l:=[]) (own:=[]) (inl:=[]) (by simp) (by simp)) Tryz.func207 D207 2 FC rfl λargs r e=>?_;unfold Ay at e;split at e
 ·rename_i h
  cases e;refine⟨by simp,λhm l=>?_⟩;obtain⟨h1,hn⟩:=hm _ rfl;generalize (iL (h 0)).1=n at *
  generalize (iL (h 0)).2=g at *
  subst h1;with_unfolding_all refine⟨Nat,λx=>x<=n,λx=>aa [(0,.val (.func (.yield l) ⟨[]⟩ ⟨[]⟩)),(1,.rp 1 1 (λ_=>[.rs 6 n (λi=>(ab g i).cells)]) 0 0),(5,.rs 6 n (λi=>(ab g i).cells)),(6,.val (goInt n)),(7,.val (goInt (x:Nat)))] [] 0 [[(0,.val (.int .i64 (x:Nat))),(1,.val (.bool false))]],λx=>n - x,⟨0,[],Nat.zero_le _,Wo trivial ⟨rfl,⟨rfl,rfl,rfl,rfl,λ_ _=>rfl⟩,qW,rfl,rfl,qQ⟩ ⟨⟨rfl,rfl,qQ⟩,qQ⟩⟩,λx hx=>?_⟩
  have hx:x<=n:=hx;with_unfolding_all refine⟨λh1=>?_,λh1=>?_⟩
  ·have h1:(x:Int) < n:=bL h1;have wx:IntKind.i64.wrap ((x:Int)+1)=((x+1:Nat):Int):=by rw [wrap64 (by omega) (by omega)];rfl
   have hm:(IntKind.i64.wrap ((x:Int)+1)).tmod (n:Int)=(((x+1)%n:Nat):Int):=by rw [wx];rfl
   have hml:=Nat.mod_lt (x+1) (show 0 < n by omega);have hxn:x < n:=by omega
   have kd:∀(a b:Nat),a=x->b=(x+1)%n->[PV.val (ab g a).v,PV.val (ab g b).v]=[PV.val (ab g x).v,PV.val (ab g ((x+1)%n)).v]:=λa b ha hb=>by rw [ha,hb]
   have m1:0<=(IntKind.i64.wrap ((x:Int)+1)).tmod (n:Int)/\(IntKind.i64.wrap ((x:Int)+1)).tmod (n:Int) < (n:Int):=by rw [hm];omega
   have m2:(IntKind.i64.wrap ((x:Int)+1)).tmod (n:Int)=(((x+1)%n:Nat):Int):=hm;have m3:((IntKind.i64.wrap ((x:Int)+1)).tmod (n:Int)).toNat=(x+1)%n:=by rw [hm];exact Int.toNat_natCast _
   with_unfolding_all refine⟨⟨by omega,by omega⟩,by omega,m1,rfl,x,rfl,hxn,?_,⟨λh=>(nomatch h),λh=>⟨x+1,[],hxn,by show n - (x+1) < n - x;omega,Wo trivial ⟨rfl,⟨rfl,rfl,rfl,rfl,λ_ _=>rfl⟩,qW,rfl,congrArg (λz=>PV.val (.int .i64 z)) wx,qQ⟩ ⟨⟨rfl,rfl,qQ⟩,qQ⟩⟩⟩,⟨λh=>trivial,λh=>(nomatch h)⟩⟩
   exact kd _ _ (Int.toNat_natCast x) m3
  ·have h1:(n:Int)<=x:=dI h1;show(x:Int)=(n:Nat);omega
 ·cases e
def Az:List PV->Option Ans
 |[.rs 6 n g]=>some ⟨some (isPL 4294967296 n g),.val (.bool (!aA (λi=>!ai (ab g i)) n)),[]⟩
 |_=>none
theorem FD:am {} Tryz.f167 1=true:=by kernel_rfl
theorem f167:FnOk Tryz.prog 167 Az:=by
 refine FnOk.ofW aj (an (l:=[(65,pu)]) (own:=[]) (inl:=[]) (by simp [Aq]) (by simp)) Tryz.func167 {} 1 FD λargs r e=>?_;unfold Az at e;split at e
 ·rename_i n g
  cases e;refine⟨by simp,λhm=>?_⟩;have hg:=hm _ rfl;refine⟨[],aa [(0,.rs 6 n g)] [] 0 [],Wo trivial ⟨⟨rfl,rfl,λi hi=>rfl⟩,qQ⟩ trivial,?_⟩;with_unfolding_all exact⟨hg,[],aa [(2,.val (.bool (!aA (λi=>!ai (ab g i)) n)))] [] 0 [],Wo trivial ⟨rfl,qQ⟩ trivial,rfl,rfl⟩
 ·cases e
end Go.Proofs
