import Derived.Test.YtpfdckeipckldaaGreatC
set_option maxHeartbeats 8000000
set_option linter.all false
set_option linter.unusedVariables false
set_option linter.unusedSimpArgs false
set_option linter.unnecessarySimpa false
namespace Go.Num
open Go Go.Ex
def sm3:Value→Bool
 |.agg ⟨[.bool _,.string b,.string c]⟩=>decide (b.size≤3)&&decide (c.size≤3)
 |_=>false
end Go.Num
namespace Go.Proofs
open Go Go.Ex Go.Num
set_option maxRecDepth 100000
def c180:List PV→Option Ans
 |[.val v]=>some ⟨some (isR v),.val (.tuple ⟨[.int .i64 (bif sm3 v then rdN v else 0),.int .i64 (bif sm3 v then(rdD v:Nat) else 0),.bool (sm3 v)]⟩),[]⟩
 |_=>none
def D180:Opt:={ join:=joinAt [4],perm:=atR 3 [(0,true),(1,true),(3,true),(4,true),(2,false),(5,false)] }
theorem ok180:funcOk D180.toOrd Tryz.f180 1=true:=by kernel_rfl
theorem f180:FnOk Tryz.prog 180 c180:=by
 refine FnOk.ofW orders (mkE_ok (l:=[(223,c223)]) (own:=[]) (inl:=[]) (by simp [f223]) (by simp)) Tryz.func180 D180 1 ok180 fun args r e=>?_
 unfold c180 at e
 split at e
 ·rename_i v
  cases e
  refine⟨by simp,fun hm=>?_⟩
  obtain⟨s,b,c,rfl,hb,hc⟩:=hm _ rfl
  refine⟨[],stOf [(0,.val (.agg ⟨[.bool s,.string b,.string c]⟩))] [] 0 [],Wo trivial ⟨rfl,qQ⟩ trivial,?_⟩
  have d1:(((bv c:Nat):Int)==0)=true→PV.val (.int .i64 1)=PV.val (.int .i64 (den1 (bv c):Nat)):=fun h=>by
   have h:bv c=0:=by simpa using h
   rw [h]
   rfl
  have d2:(((bv c:Nat):Int)==0)=false→PV.val (.int .i64 (bv c:Nat))=PV.val (.int .i64 (den1 (bv c):Nat)):=fun h=>by
   have h:bv c≠0:=by simpa using h
   rw [den1_of h]
  have no1:¬(b.size≤3∧c.size≤3)→PV.val (.int .i64 0)=PV.val (.int .i64 (bif sm3 (.agg ⟨[.bool s,.string b,.string c]⟩) then rdN (.agg ⟨[.bool s,.string b,.string c]⟩) else 0))∧PV.val (.int .i64 0)=PV.val (.int .i64 (bif sm3 (.agg ⟨[.bool s,.string b,.string c]⟩) then(rdD (.agg ⟨[.bool s,.string b,.string c]⟩):Nat) else 0))∧PV.val (.bool false)=PV.val (.bool (sm3 (.agg ⟨[.bool s,.string b,.string c]⟩))):=fun h=>by
   have e:sm3 (.agg ⟨[.bool s,.string b,.string c]⟩)=false:=by
    show(decide (b.size≤3)&&decide (c.size≤3))=false
    rw [Bool.and_eq_false_iff,decide_eq_false_iff_not,decide_eq_false_iff_not]
    omega
   rw [e]
   exact⟨rfl,rfl,rfl⟩
  have em:b.size≤3∧c.size≤3→sm3 (.agg ⟨[.bool s,.string b,.string c]⟩)=true:=fun h=>by
   show(decide (b.size≤3)&&decide (c.size≤3))=true
   rw [decide_eq_true h.1,decide_eq_true h.2]
   rfl
  have ys1:b.size≤3∧c.size≤3→(s=true→PV.val (.int .i64 (IntKind.i64.wrap (0 - ((bv b:Nat):Int))))=PV.val (.int .i64 (bif sm3 (.agg ⟨[.bool s,.string b,.string c]⟩) then rdN (.agg ⟨[.bool s,.string b,.string c]⟩) else 0)))∧(s=false→PV.val (.int .i64 (bv b:Nat))=PV.val (.int .i64 (bif sm3 (.agg ⟨[.bool s,.string b,.string c]⟩) then rdN (.agg ⟨[.bool s,.string b,.string c]⟩) else 0))):=fun h=>by
   have hbl:=bv_lt b
   have h3:256^b.size≤256^3:=Nat.pow_le_pow_right (by decide) h.1
   rw [em h]
   refine⟨fun hs=>?_,fun hs=>?_⟩
   ·rw [hs,wrap64 (by omega) (by omega)]
    show _=PV.val (.int .i64 (sgn true (bv b)))
    rw [Int.zero_sub]
    rfl
   ·rw [hs]
    rfl
  have ys2:b.size≤3∧c.size≤3→PV.val (.int .i64 (den1 (bv c):Nat))=PV.val (.int .i64 (bif sm3 (.agg ⟨[.bool s,.string b,.string c]⟩) then(rdD (.agg ⟨[.bool s,.string b,.string c]⟩):Nat) else 0))∧PV.val (.bool true)=PV.val (.bool (sm3 (.agg ⟨[.bool s,.string b,.string c]⟩))):=fun h=>by
   rw [em h]
   exact⟨rfl,rfl⟩
  have hbt:decide (((b.size:Nat):Int) > 3)=false→decide (((c.size:Nat):Int) > 3)=false→b.size≤3∧c.size≤3:=fun h1 h2=>by
   have h1:=of_decide_eq_false h1
   have h2:=of_decide_eq_false h2
   omega
  have hbf:decide (((b.size:Nat):Int) > 3)=true→¬(b.size≤3∧c.size≤3):=fun h1=>by
   have h1:=of_decide_eq_true h1
   omega
  have hcf:decide (((c.size:Nat):Int) > 3)=true→¬(b.size≤3∧c.size≤3):=fun h1=>by
   have h1:=of_decide_eq_true h1
   omega
  with_unfolding_all refine⟨fun h1=>⟨fun h2=>⟨[],stOf [(2,.val (.int .i64 (bif sm3 (.agg ⟨[.bool s,.string b,.string c]⟩) then rdN (.agg ⟨[.bool s,.string b,.string c]⟩) else 0))),(3,.val (.int .i64 (bif sm3 (.agg ⟨[.bool s,.string b,.string c]⟩) then(rdD (.agg ⟨[.bool s,.string b,.string c]⟩):Nat) else 0))),(4,.val (.bool (sm3 (.agg ⟨[.bool s,.string b,.string c]⟩))))] [] 0 [],Wo trivial ⟨(no1 (hcf h2)).1,(no1 (hcf h2)).2.1,(no1 (hcf h2)).2.2,qQ⟩ trivial,rfl,rfl⟩,fun h2=>⟨by have:=hbt h1 h2;omega,by have:=hbt h1 h2;omega,Unit,fun _=>True,fun _=>stOf [(1,.ptr 0 0 0 0),(5,.val (.int .i64 (bv b:Nat))),(6,.val (.int .i64 (den1 (bv c):Nat)))] [boxR s b c 0] 1 [],⟨fun h3=>⟨(),[some 0],trivial,Wo ⟨qX,qQ⟩ ⟨pP,rfl,d1 h3,qQ⟩ trivial⟩,fun h3=>⟨(),[some 0],trivial,Wo ⟨qX,qQ⟩ ⟨pP,rfl,d2 h3,qQ⟩ trivial⟩⟩,fun _ _=>⟨fun h3=>⟨[],stOf [(2,.val (.int .i64 (bif sm3 (.agg ⟨[.bool s,.string b,.string c]⟩) then rdN (.agg ⟨[.bool s,.string b,.string c]⟩) else 0))),(3,.val (.int .i64 (bif sm3 (.agg ⟨[.bool s,.string b,.string c]⟩) then(rdD (.agg ⟨[.bool s,.string b,.string c]⟩):Nat) else 0))),(4,.val (.bool (sm3 (.agg ⟨[.bool s,.string b,.string c]⟩))))] [] 0 [],Wo trivial ⟨(ys1 (hbt h1 h2)).1 h3,(ys2 (hbt h1 h2)).1,(ys2 (hbt h1 h2)).2,qQ⟩ trivial,rfl,rfl⟩,fun h3=>⟨[],stOf [(2,.val (.int .i64 (bif sm3 (.agg ⟨[.bool s,.string b,.string c]⟩) then rdN (.agg ⟨[.bool s,.string b,.string c]⟩) else 0))),(3,.val (.int .i64 (bif sm3 (.agg ⟨[.bool s,.string b,.string c]⟩) then(rdD (.agg ⟨[.bool s,.string b,.string c]⟩):Nat) else 0))),(4,.val (.bool (sm3 (.agg ⟨[.bool s,.string b,.string c]⟩))))] [] 0 [],Wo trivial ⟨(ys1 (hbt h1 h2)).2 h3,(ys2 (hbt h1 h2)).1,(ys2 (hbt h1 h2)).2,qQ⟩ trivial,rfl,rfl⟩⟩⟩⟩,fun h1=>⟨fun h2=>⟨[],stOf [(2,.val (.int .i64 (bif sm3 (.agg ⟨[.bool s,.string b,.string c]⟩) then rdN (.agg ⟨[.bool s,.string b,.string c]⟩) else 0))),(3,.val (.int .i64 (bif sm3 (.agg ⟨[.bool s,.string b,.string c]⟩) then(rdD (.agg ⟨[.bool s,.string b,.string c]⟩):Nat) else 0))),(4,.val (.bool (sm3 (.agg ⟨[.bool s,.string b,.string c]⟩))))] [] 0 [],Wo trivial ⟨(no1 (hbf h1)).1,(no1 (hbf h1)).2.1,(no1 (hbf h1)).2.2,qQ⟩ trivial,rfl,rfl⟩,fun h2=>(nomatch h2)⟩⟩
 ·cases e
def c181:List PV→Option Ans
 |[.val (.int .i64 z),.val (.int .i64 d)]=>some ⟨some (z.natAbs < 72057594037927936∧0 < d∧d < 72057594037927936),.val (ratV (mkRat z d.toNat)),[]⟩
 |_=>none
def D181:Opt:={ join:=fun c=>match c with | .block 0 _=>true|c=>joinAt [2,10] c }
theorem ok181:funcOk D181.toOrd Tryz.f181 2=true:=by kernel_rfl
theorem f181:FnOk Tryz.prog 181 c181:=by
 refine FnOk.ofW orders (mkE_ok (l:=[(224,c224)]) (own:=[]) (inl:=[]) (by simp [f224]) (by simp)) Tryz.func181 D181 2 ok181 fun args r e=>?_
 unfold c181 at e
 split at e
 ·rename_i z d
  cases e
  refine⟨by simp,fun hm=>?_⟩
  obtain⟨hz,hd,hd2⟩:=hm _ rfl
  obtain⟨D,rfl⟩:∃D:Nat,d=(D:Int):=⟨d.toNat,by omega⟩
  rw [Int.toNat_natCast]
  refine⟨[],stOf [(0,.val (.int .i64 z)),(1,.val (.int .i64 (D:Nat)))] [] 0 [],Wo trivial ⟨rfl,rfl,qQ⟩ trivial,?_⟩
  obtain⟨N,hN⟩:∃N,N=z.natAbs:=⟨_,rfl⟩
  obtain⟨G,hG⟩:∃G,G=Nat.gcd N D:=⟨_,rfl⟩
  have hG0:0 < G:=by rw [hG];exact Nat.gcd_pos_of_pos_right _ (by omega)
  have hNz:N < 72057594037927936:=by omega
  have hq1:(mkRat z D).num.natAbs=N / G:=by
   rw [Rat.num_mkRat,if_neg (by omega),←hN,Nat.gcd_comm,←hG]
   obtain⟨k,hk⟩:G∣N:=by rw [hG];exact Nat.gcd_dvd_left _ _
   rw [hk,Nat.mul_div_cancel_left _ hG0]
   rcases(by omega:z=N∨z = -N) with h|h
   ·rw [h,hk,Int.natCast_mul,Int.mul_ediv_cancel_left _ (by omega)]
    rfl
   ·rw [h,hk,Int.natCast_mul,←Int.mul_neg,Int.mul_ediv_cancel_left _ (by omega),Int.natAbs_neg]
    rfl
  have hq2:(mkRat z D).den=D / G:=by rw [Rat.den_mkRat,if_neg (by omega),←hN,Nat.gcd_comm,←hG]
  have hq3:decide (z < 0)=decide ((mkRat z D).num < 0):=by
   rw [decide_eq_decide]
   have e:=Rat.mkRat_num_den (n:=z) (d:=D) (by omega) (show mkRat z D=⟨(mkRat z D).num,(mkRat z D).den,(mkRat z D).den_nz,(mkRat z D).reduced⟩ from rfl)
   obtain⟨m,hm0,hm1,_⟩:=e
   constructor
   ·intro h
    rcases(by omega:(mkRat z D).num < 0∨0≤(mkRat z D).num) with h2|h2
    ·exact h2
    ·have:=Int.mul_nonneg h2 (show 0≤(m:Int) by omega)
     omega
   ·intro h
    rw [hm1]
    exact Int.mul_neg_of_neg_of_pos h (by omega)
  have hDG:D / G≤D:=Nat.div_le_self _ _
  have hNG:N / G≤N:=Nat.div_le_self _ _
  have hDG0:0 < D / G:=Nat.div_pos (Nat.le_of_dvd (by omega) (by rw [hG];exact Nat.gcd_dvd_right _ _)) hG0
  have hwz:decide (z < 0)=true→IntKind.i64.wrap (0 - z)=((N:Nat):Int):=fun h=>by
   have:=of_decide_eq_true h
   rw [wrap64 (by omega) (by omega)]
   omega
  have hwz2:decide (z < 0)=false→z=((N:Nat):Int):=fun h=>by
   have:=of_decide_eq_false h
   omega
  with_unfolding_all refine⟨Unit,fun _=>True,fun _=>stOf [(0,.val (.int .i64 (N:Nat))),(1,.val (.int .i64 (D:Nat))),(4,.ptr 0 0 0 0),(5,.ptr 1 1 0 0)] [boxR false ⟨#[]⟩ ⟨#[]⟩ 0,boxR (decide (z < 0)) ⟨#[]⟩ ⟨#[]⟩ 1] 2 [],⟨fun h1=>⟨(),[some 0,some 1],trivial,Wo ⟨qX,qX,qQ⟩ ⟨congrArg (fun x=>PV.val (.int .i64 x)) (hwz h1),rfl,pP,pP,qQ⟩ trivial⟩,fun h1=>⟨(),[some 0,some 1],trivial,Wo ⟨qX,qX,qQ⟩ ⟨congrArg (fun x=>PV.val (.int .i64 x)) (hwz2 h1),rfl,pP,pP,qQ⟩ trivial⟩⟩,fun _ _=>⟨fun h1=>⟨[some 0],stOf [(4,.ptr 0 0 0 0)] [boxR (decide ((mkRat z D).num < 0)) (numB (mkRat z D).num.natAbs) (denT (mkRat z D).den) 0] 1 [],Wo ⟨qZ ⟨⟨?_,rfl⟩,⟨?_,rfl⟩,⟨?_,rfl⟩,qQ⟩,qQ⟩ ⟨pP,qQ⟩ trivial,rfl,rfl⟩,fun h1=>?_⟩⟩
  ·have h1:N=0:=by simpa using h1
   have hz0:z=0:=by omega
   rw [hz0,Rat.zero_mkRat]
   rfl
  ·have h1:N=0:=by simpa using h1
   have hz0:z=0:=by omega
   rw [hz0,Rat.zero_mkRat]
   show PV.val (.string ⟨#[]⟩)=PV.val (.string (numB 0))
   rw [numB_zero]
  ·have h1:N=0:=by simpa using h1
   have hz0:z=0:=by omega
   rw [hz0,Rat.zero_mkRat]
   rfl
  ·have h1:N≠0:=by simpa using h1
   with_unfolding_all refine⟨Unit,fun _=>True,fun _=>stOf [(0,.val (.int .i64 (N:Nat))),(1,.val (.int .i64 (D:Nat))),(4,.ptr 0 0 0 0),(5,.ptr 1 1 0 0),(6,.val (.int .i64 (G:Nat)))] [boxR false ⟨#[]⟩ ⟨#[]⟩ 0,boxR (decide (z < 0)) ⟨#[]⟩ ⟨#[]⟩ 1] 2 [],⟨Nat×Nat,fun p=>Nat.gcd p.1 p.2=G,fun p=>stOf [(0,.val (.int .i64 (N:Nat))),(1,.val (.int .i64 (D:Nat))),(4,.ptr 0 0 0 0),(5,.ptr 1 1 0 0),(6,.val (.int .i64 (p.1:Nat))),(7,.val (.int .i64 (p.2:Nat)))] [boxR false ⟨#[]⟩ ⟨#[]⟩ 0,boxR (decide (z < 0)) ⟨#[]⟩ ⟨#[]⟩ 1] 2 [],fun p=>p.2,⟨(N,D),[some 0,some 1],hG.symm,Wo ⟨qX,qX,qQ⟩ ⟨rfl,rfl,pP,pP,rfl,rfl,qQ⟩ trivial⟩,fun p hp=>?_⟩,fun _ _=>?_⟩
   ·obtain⟨x,y⟩:=p
    replace hp:Nat.gcd x y=G:=hp
    with_unfolding_all refine⟨fun h2=>?_,fun h2=>⟨(),[some 0,some 1],trivial,Wo ⟨qX,qX,qQ⟩ ⟨rfl,rfl,pP,pP,?_,qQ⟩ trivial⟩⟩
    ·have h2:=of_decide_eq_true h2
     have h3:0 < y:=by omega
     with_unfolding_all refine⟨by omega,(y,x%y),[some 0,some 1],?_,Nat.mod_lt _ h3,Wo ⟨qX,qX,qQ⟩ ⟨rfl,rfl,pP,pP,rfl,rfl,qQ⟩ trivial⟩
     show Nat.gcd y (x%y)=G
     rw [←hp,Nat.gcd_comm x y,Nat.gcd_rec y x,Nat.gcd_comm]
    ·have h2:=of_decide_eq_false h2
     have h3:y=0:=by omega
     have h4:x=G:=by rw [←hp,h3,Nat.gcd_zero_right]
     exact congrArg (fun n:Nat=>PV.val (.int .i64 n)) h4
   ·have hG1:((G:Nat):Int)≠0:=by omega
    have hw1:IntKind.i64.wrap (((N:Nat):Int).tdiv ((G:Nat):Int))=((N / G:Nat):Int):=by
     show IntKind.i64.wrap ((N / G:Nat):Int)=_
     generalize N / G=x at *
     rw [wrap64 (by omega) (by omega)]
    have hw2:IntKind.i64.wrap (((D:Nat):Int).tdiv ((G:Nat):Int))=((D / G:Nat):Int):=by
     show IntKind.i64.wrap ((D / G:Nat):Int)=_
     generalize D / G=x at *
     rw [wrap64 (by omega) (by omega)]
    have b1:∀w:Int,w=((N / G:Nat):Int)→0≤w∧w < 72057594037927936:=fun w h=>by
     rw [h]
     generalize N / G=x at *
     omega
    have b2:∀w:Int,w=((D / G:Nat):Int)→0≤w∧w < 72057594037927936:=fun w h=>by
     rw [h]
     generalize D / G=x at *
     omega
    have v1:PV.val (.string (numB (IntKind.i64.wrap (((N:Nat):Int).tdiv ((G:Nat):Int))).toNat))=PV.val (.string (numB (mkRat z D).num.natAbs)):=by rw [hw1,Int.toNat_natCast,hq1]
    have v2:decide (IntKind.i64.wrap (((D:Nat):Int).tdiv ((G:Nat):Int)) > 1)=true→PV.val (.string (numB (IntKind.i64.wrap (((D:Nat):Int).tdiv ((G:Nat):Int))).toNat))=PV.val (.string (denT (mkRat z D).den)):=fun h=>by
     have h:=of_decide_eq_true h
     rw [hw2] at h
     rw [hw2,Int.toNat_natCast,hq2,denT,if_neg]
     generalize D / G=x at *
     omega
    have v3:decide (IntKind.i64.wrap (((D:Nat):Int).tdiv ((G:Nat):Int)) > 1)=false→PV.val (.string ⟨#[]⟩)=PV.val (.string (denT (mkRat z D).den)):=fun h=>by
     have h:=of_decide_eq_false h
     rw [hw2] at h
     rw [hq2,denT,if_pos]
     generalize D / G=x at *
     omega
    with_unfolding_all refine⟨hG1,b1 _ hw1,Unit,fun _=>True,fun _=>stOf [(4,.ptr 0 0 0 0),(5,.ptr 1 1 0 0)] [boxR false ⟨#[]⟩ ⟨#[]⟩ 0,boxR (decide ((mkRat z D).num < 0)) (numB (mkRat z D).num.natAbs) (denT (mkRat z D).den) 1] 2 [],⟨hG1,fun h2=>⟨hG1,b2 _ hw2,(),[some 0,some 1],trivial,Wo ⟨qX,qZ ⟨⟨congrArg (fun x=>PV.val (.bool x)) hq3,rfl⟩,⟨v1,rfl⟩,⟨v2 h2,rfl⟩,qQ⟩,qQ⟩ ⟨pP,pP,qQ⟩ trivial⟩,fun h2=>⟨(),[some 0,some 1],trivial,Wo ⟨qX,qZ ⟨⟨congrArg (fun x=>PV.val (.bool x)) hq3,rfl⟩,⟨v1,rfl⟩,⟨v3 h2,rfl⟩,qQ⟩,qQ⟩ ⟨pP,pP,qQ⟩ trivial⟩⟩,fun _ _=>⟨[some 0],stOf [(4,.ptr 0 0 0 0)] [boxR (decide ((mkRat z D).num < 0)) (numB (mkRat z D).num.natAbs) (denT (mkRat z D).den) 0] 1 [],Wo ⟨qX,qQ⟩ ⟨pP,qQ⟩ trivial,rfl,rfl⟩⟩
 ·cases e
end Go.Proofs
namespace Go.Num
open Go Go.Ex
theorem numB_one:numB 1=(⟨#[1]⟩:ByteArray):=by
 have h:digs 1=[1]:=by rw [digs_pos (by decide)];simp [digs_zero]
 simp [numB,h]
theorem numB_is1 {n:Nat}:((numB n).toList==(⟨#[1]⟩:ByteArray).toList)=decide (n=1):=by
 by_cases h:n=1
 ·rw [h,numB_one,beq_self_eq_true]
  rfl
 ·rw [decide_eq_false h]
  refine Bool.eq_false_iff.2 fun e=>h ?_
  have e:=eq_of_beq e
  rw [ba_toList,ba_toList] at e
  have:=congrArg bvL e
  have hb:=bv_numB n
  unfold bv at hb
  rw [hb] at this
  rw [this]
  rfl
end Go.Num
namespace Go.Proofs
open Go Go.Ex Go.Num
set_option maxRecDepth 100000
def c182:List PV→Option Ans
 |[.val v]=>some ⟨some (isRk 17179869184 v),.val (.tuple ⟨[intV (rdN v),intV (rdD v:Nat)]⟩),[]⟩
 |_=>none
def D182:Opt:={ join:=joinAt [3],all:=atTs [(5,.alt 0 (.alt 1 (OT.seq [2,3] .nil) (OT.seq [2,1,3] .nil)) (OT.seq [1,0,2,3] .nil))] }
theorem ok182:funcOk D182.toOrd Tryz.f182 1=true:=by kernel_rfl
theorem f182:FnOk Tryz.prog 182 c182:=by
 refine FnOk.ofW orders (mkE_ok (l:=[(225,c225),(226,c226)]) (own:=[]) (inl:=[]) (by simp [f225,f226]) (by simp)) Tryz.func182 D182 1 ok182 fun args r e=>?_
 unfold c182 at e
 split at e
 ·rename_i v
  cases e
  refine⟨by simp,fun hm=>?_⟩
  obtain⟨s,b,c,rfl,hb,hc⟩:=hm _ rfl
  refine⟨[],stOf [(0,.val (.agg ⟨[.bool s,.string b,.string c]⟩))] [] 0 [],Wo trivial ⟨rfl,qQ⟩ trivial,?_⟩
  have z2:PV.val (.string ⟨#[]⟩)=PV.val (.string (numB (0:Int).natAbs)):=by rw [show(0:Int).natAbs=0 from rfl,numB_nil0]
  have hw1:rdI (.agg ⟨[.bool s,.string b]⟩)+rdI (.agg ⟨[.bool false,.string ⟨#[]⟩]⟩)=sgn s (bv b):=Int.add_zero _
  have hw2:rdI (.agg ⟨[.bool false,.string c]⟩)+rdI (.agg ⟨[.bool false,.string ⟨#[]⟩]⟩)=((bv c:Nat):Int):=Int.add_zero _
  have d1:((numB (rdI (.agg ⟨[.bool false,.string c]⟩)+rdI (.agg ⟨[.bool false,.string ⟨#[]⟩]⟩)).natAbs).toList==(⟨#[]⟩:ByteArray).toList)=true→(1:Int)=(den1 (bv c):Nat):=fun h=>by
   rw [hw2,numB_is0] at h
   have h:bv c=0:=of_decide_eq_true h
   rw [h]
   rfl
  have d2:((numB (rdI (.agg ⟨[.bool false,.string c]⟩)+rdI (.agg ⟨[.bool false,.string ⟨#[]⟩]⟩)).natAbs).toList==(⟨#[]⟩:ByteArray).toList)=false→rdI (.agg ⟨[.bool false,.string c]⟩)+rdI (.agg ⟨[.bool false,.string ⟨#[]⟩]⟩)=(den1 (bv c):Nat):=fun h=>by
   rw [hw2,numB_is0] at h
   have h:bv c≠0:=of_decide_eq_false h
   rw [hw2,den1_of h]
  with_unfolding_all refine⟨⟨⟨_,_,rfl,hb⟩,_,_,rfl,by decide⟩,⟨⟨_,_,rfl,hc⟩,_,_,rfl,by decide⟩,Unit,fun _=>True,fun _=>stOf [(2,.ptr 0 0 0 0),(3,.ptr 1 1 0 0),(4,.ptr 2 2 0 0),(5,.ptr 3 3 0 0)] [boxI 0 0,boxI 0 1,boxI (sgn s (bv b)) 2,boxI (den1 (bv c):Nat) 3] 4 [],⟨fun h=>⟨by decide,⟨(),[some 1,some 2,some 3,some 4],trivial,Wo ⟨qZ ⟨rq,⟨z2,rfl⟩,qQ⟩,qZ ⟨rq,⟨z2,rfl⟩,qQ⟩,qZ ⟨⟨congrArg (fun z:Int=>PV.val (.bool (decide (z < 0)))) hw1,rfl⟩,⟨congrArg (fun z:Int=>PV.val (.string (numB z.natAbs))) hw1,rfl⟩,qQ⟩,qZ ⟨⟨congrArg (fun z:Int=>PV.val (.bool (decide (z < 0)))) (d1 h),rfl⟩,⟨congrArg (fun z:Int=>PV.val (.string (numB z.natAbs))) (d1 h),rfl⟩,qQ⟩,qQ⟩ ⟨pP,pP,pP,pP,qQ⟩ trivial⟩⟩,fun h=>⟨(),[some 1,some 2,some 3,some 4],trivial,Wo ⟨qZ ⟨rq,⟨z2,rfl⟩,qQ⟩,qZ ⟨rq,⟨z2,rfl⟩,qQ⟩,qZ ⟨⟨congrArg (fun z:Int=>PV.val (.bool (decide (z < 0)))) hw1,rfl⟩,⟨congrArg (fun z:Int=>PV.val (.string (numB z.natAbs))) hw1,rfl⟩,qQ⟩,qZ ⟨⟨congrArg (fun z:Int=>PV.val (.bool (decide (z < 0)))) (d2 h),rfl⟩,⟨congrArg (fun z:Int=>PV.val (.string (numB z.natAbs))) (d2 h),rfl⟩,qQ⟩,qQ⟩ ⟨pP,pP,pP,pP,qQ⟩ trivial⟩⟩,fun _ _=>⟨⟨⟨[some 0,some 1],stOf [(2,.ptr 0 0 0 0),(3,.ptr 1 1 0 0)] [boxI (sgn s (bv b)) 0,boxI (den1 (bv c):Nat) 1] 2 [],Wo ⟨qJ,qJ,qQ⟩ ⟨pP,pP,qQ⟩ trivial,rfl,rfl⟩,⟨[some 0,some 1],stOf [(2,.ptr 0 0 0 0),(3,.ptr 1 1 0 0)] [boxI (sgn s (bv b)) 0,boxI (den1 (bv c):Nat) 1] 2 [],Wo ⟨qJ,qJ,qQ⟩ ⟨pP,pP,qQ⟩ trivial,rfl,rfl⟩⟩,⟨[some 0,some 1],stOf [(2,.ptr 0 0 0 0),(3,.ptr 1 1 0 0)] [boxI (sgn s (bv b)) 0,boxI (den1 (bv c):Nat) 1] 2 [],Wo ⟨qJ,qJ,qQ⟩ ⟨pP,pP,qQ⟩ trivial,rfl,rfl⟩⟩⟩
 ·cases e
def c183:List PV→Option Ans
 |[.val v,.val u]=>some ⟨some ((isIk 8589934592 v∧isIk 8589934592 u)∧rdI u≠0),.val (ratV (Rat.divInt (rdI v) (rdI u))),[]⟩
 |_=>none
def D183:Opt:={ join:=joinAt [4,10],perm:=atRs [(1,[(0,true),(1,true),(3,true),(4,true),(2,false),(5,false)]),(5,[(0,true),(2,true),(1,false),(3,false)])] }
theorem ok183:funcOk D183.toOrd Tryz.f183 2=true:=by kernel_rfl
theorem f183:FnOk Tryz.prog 183 c183:=by
 refine FnOk.ofW orders (mkE_ok (l:=[(225,c225),(227,c227),(228,c228),(229,c229)]) (own:=[]) (inl:=[]) (by simp [f225,f227,f228,f229]) (by simp)) Tryz.func183 D183 2 ok183 fun args r e=>?_
 unfold c183 at e
 split at e
 ·rename_i v u
  cases e
  refine⟨by simp,fun hm=>?_⟩
  obtain⟨⟨⟨s,b,rfl,hb⟩,q,c,rfl,hc⟩,hne⟩:=hm _ rfl
  refine⟨[],stOf [(0,.val (.agg ⟨[.bool s,.string b]⟩)),(1,.val (.agg ⟨[.bool q,.string c]⟩))] [] 0 [],Wo trivial ⟨rfl,rfl,qQ⟩ trivial,?_⟩
  have hw1:rdI (.agg ⟨[.bool s,.string b]⟩)+rdI (.agg ⟨[.bool false,.string ⟨#[]⟩]⟩)=rdI (.agg ⟨[.bool s,.string b]⟩):=Int.add_zero _
  have hw2:rdI (.agg ⟨[.bool q,.string c]⟩)+rdI (.agg ⟨[.bool false,.string ⟨#[]⟩]⟩)=rdI (.agg ⟨[.bool q,.string c]⟩):=Int.add_zero _
  have i1:isIk 17179869184 (.agg ⟨[.bool s,.string b]⟩):=⟨_,_,rfl,by omega⟩
  have i2:isIk 17179869184 (.agg ⟨[.bool q,.string c]⟩):=⟨_,_,rfl,by omega⟩
  have hXb:=bv_lt b
  have hYb:=bv_lt c
  have hX:(rdI (.agg ⟨[.bool s,.string b]⟩)).natAbs=bv b:=sgn_natAbs _ _
  have hY:(rdI (.agg ⟨[.bool q,.string c]⟩)).natAbs=bv c:=sgn_natAbs _ _
  rw [←hX] at hXb
  rw [←hY] at hYb
  have hxs:=numB_le hXb
  have hys:=numB_le hYb
  obtain⟨X,hXe⟩:∃X,X=rdI (.agg ⟨[.bool s,.string b]⟩):=⟨_,rfl⟩
  obtain⟨Y,hYe⟩:∃Y,Y=rdI (.agg ⟨[.bool q,.string c]⟩):=⟨_,rfl⟩
  rw [←hXe] at hw1 hX hXb hxs
  rw [←hYe] at hw2 hY hYb hys hne
  have hv:PV.val (ratV (Rat.divInt (rdI (.agg ⟨[.bool s,.string b]⟩)) (rdI (.agg ⟨[.bool q,.string c]⟩))))=PV.val (ratV (Rat.divInt X Y)):=by rw [hXe,hYe]
  rw [hv]
  clear hv
  have hr:∀Z:Int,rdI (.agg ⟨[.bool (decide (Z < 0)),.string (numB Z.natAbs)]⟩)=Z:=rdI_intV
  obtain⟨X',hX'⟩:∃X',X'=if Y < 0 then -X else X:=⟨_,rfl⟩
  obtain⟨D,hD⟩:∃D,D=Y.natAbs:=⟨_,rfl⟩
  have hXa:X'.natAbs=X.natAbs:=by rw [hX'];split<;>omega
  have hQ:Rat.divInt X Y=mkRat X' D:=by
   rw [hX']
   split
   ·rename_i h
    rw [←Rat.divInt_ofNat,←Rat.neg_divInt_neg,show((D:Nat):Int) = -Y by omega]
   ·rename_i h
    rw [←Rat.divInt_ofNat,show((D:Nat):Int)=Y by omega]
  obtain⟨G,hG⟩:∃G,G=Nat.gcd X'.natAbs D:=⟨_,rfl⟩
  have hG0:0 < G:=by rw [hG];exact Nat.gcd_pos_of_pos_right _ (by omega)
  have hGX:((G:Nat):Int)∣X':=Int.natAbs_dvd_natAbs.1 (by rw [hG];exact Nat.gcd_dvd_left _ _)
  have hGD:((G:Nat):Int)∣((D:Nat):Int):=Int.natAbs_dvd_natAbs.1 (by rw [hG];exact Nat.gcd_dvd_right _ _)
  have hq1:(mkRat X' D).num=X' / G:=by rw [Rat.num_mkRat,if_neg (by omega),Nat.gcd_comm,←hG]
  have hq2:(mkRat X' D).den=D / G:=by rw [Rat.den_mkRat,if_neg (by omega),Nat.gcd_comm,←hG]
  have hxs':(numB X'.natAbs).size≤8589934592:=by rw [hXa];omega
  have hds:(numB D).size≤8589934592:=by rw [hD];omega
  have hGs:(numB G).size≤8589934592:=by
   refine Nat.le_trans (numB_le (k:=(numB D).size) ?_) hds
   have h1:=bv_lt (numB D)
   rw [bv_numB] at h1
   have:=Nat.le_of_dvd (show 0 < D by omega) (show G∣D by rw [hG];exact Nat.gcd_dvd_right _ _)
   omega
  have hwx:(rdI (.agg ⟨[.bool s,.string b]⟩)+rdI (.agg ⟨[.bool false,.string ⟨#[]⟩]⟩))=X:=by rw [hXe];exact Int.add_zero _
  have hwy:(rdI (.agg ⟨[.bool q,.string c]⟩)+rdI (.agg ⟨[.bool false,.string ⟨#[]⟩]⟩))=Y:=by rw [hYe];exact Int.add_zero _
  have s1:(numB (rdI (.agg ⟨[.bool s,.string b]⟩)+rdI (.agg ⟨[.bool false,.string ⟨#[]⟩]⟩)).natAbs).size≤34359738368:=by rw [hwx];omega
  have s2:(numB (rdI (.agg ⟨[.bool q,.string c]⟩)+rdI (.agg ⟨[.bool false,.string ⟨#[]⟩]⟩)).natAbs).size≤34359738368:=by rw [hwy];omega
  with_unfolding_all refine⟨⟨i1,_,_,rfl,by decide⟩,⟨i2,_,_,rfl,by decide⟩,fun h1=>?_,fun h1=>⟨Unit,fun _=>True,fun _=>stOf [(2,.ptr 0 0 0 0),(3,.ptr 1 1 0 0),(4,.ptr 2 2 0 0)] [boxI X' 0,boxI (D:Nat) 1,boxR false ⟨#[]⟩ ⟨#[]⟩ 2] 3 [],⟨fun h2=>⟨⟨_,_,rfl,s1⟩,⟨_,_,rfl,s2⟩,⟨(),[some 0,some 1,some 2],trivial,Wo ⟨qZ ⟨⟨?_,rfl⟩,⟨?_,rfl⟩,qQ⟩,qZ ⟨⟨?_,rfl⟩,⟨?_,rfl⟩,qQ⟩,qX,qQ⟩ ⟨pP,pP,pP,qQ⟩ trivial⟩⟩,fun h2=>⟨(),[some 0,some 1,some 2],trivial,Wo ⟨qZ ⟨⟨?_,rfl⟩,⟨?_,rfl⟩,qQ⟩,qZ ⟨⟨?_,rfl⟩,⟨?_,rfl⟩,qQ⟩,qX,qQ⟩ ⟨pP,pP,pP,qQ⟩ trivial⟩⟩,fun _ _=>?_⟩⟩
  ·have h1:((numB (rdI (.agg ⟨[.bool s,.string b]⟩)+rdI (.agg ⟨[.bool false,.string ⟨#[]⟩]⟩)).natAbs).toList==(⟨#[]⟩:ByteArray).toList)=true:=h1
   rw [hwx,numB_is0] at h1
   have h1:=of_decide_eq_true h1
   have hX0:X=0:=by omega
   have hz:Rat.divInt X Y=0:=by rw [hX0,Rat.zero_divInt]
   rw [hz]
   have z2:PV.val (.string ⟨#[]⟩)=PV.val (.string (numB 0)):=by rw [numB_nil0]
   with_unfolding_all exact⟨[some 2],stOf [(4,.ptr 0 0 0 0)] [boxR false (numB 0) ⟨#[]⟩ 0] 1 [],Wo ⟨qZ ⟨rq,⟨z2,rfl⟩,rq,qQ⟩,qQ⟩ ⟨pP,qQ⟩ trivial,rfl,rfl⟩
  ·have h2:(rdI (.agg ⟨[.bool q,.string c]⟩)+rdI (.agg ⟨[.bool false,.string ⟨#[]⟩]⟩)) < 0:=of_decide_eq_true h2
   rw [hwy] at h2
   show PV.val (.bool (decide (-(rdI (intV (rdI (.agg ⟨[.bool s,.string b]⟩)+rdI (.agg ⟨[.bool false,.string ⟨#[]⟩]⟩)))) < 0)))=PV.val (.bool (decide (X' < 0)))
   rw [rdI_intV,hwx,hX',if_pos h2]
  ·have h2:(rdI (.agg ⟨[.bool q,.string c]⟩)+rdI (.agg ⟨[.bool false,.string ⟨#[]⟩]⟩)) < 0:=of_decide_eq_true h2
   rw [hwy] at h2
   show PV.val (.string (numB (-(rdI (intV (rdI (.agg ⟨[.bool s,.string b]⟩)+rdI (.agg ⟨[.bool false,.string ⟨#[]⟩]⟩))))).natAbs))=PV.val (.string (numB X'.natAbs))
   rw [rdI_intV,hwx,hX',if_pos h2]
  ·have h2:(rdI (.agg ⟨[.bool q,.string c]⟩)+rdI (.agg ⟨[.bool false,.string ⟨#[]⟩]⟩)) < 0:=of_decide_eq_true h2
   rw [hwy] at h2
   show PV.val (.bool (decide (-(rdI (intV (rdI (.agg ⟨[.bool q,.string c]⟩)+rdI (.agg ⟨[.bool false,.string ⟨#[]⟩]⟩)))) < 0)))=PV.val (.bool (decide (((D:Nat):Int) < 0)))
   rw [rdI_intV,hwy,show -Y=((D:Nat):Int) by omega]
  ·have h2:(rdI (.agg ⟨[.bool q,.string c]⟩)+rdI (.agg ⟨[.bool false,.string ⟨#[]⟩]⟩)) < 0:=of_decide_eq_true h2
   rw [hwy] at h2
   show PV.val (.string (numB (-(rdI (intV (rdI (.agg ⟨[.bool q,.string c]⟩)+rdI (.agg ⟨[.bool false,.string ⟨#[]⟩]⟩))))).natAbs))=PV.val (.string (numB (((D:Nat):Int)).natAbs))
   rw [rdI_intV,hwy,show -Y=((D:Nat):Int) by omega]
  ·have h2:¬(rdI (.agg ⟨[.bool q,.string c]⟩)+rdI (.agg ⟨[.bool false,.string ⟨#[]⟩]⟩)) < 0:=of_decide_eq_false h2
   rw [hwy] at h2
   show PV.val (.bool (decide ((rdI (.agg ⟨[.bool s,.string b]⟩)+rdI (.agg ⟨[.bool false,.string ⟨#[]⟩]⟩)) < 0)))=PV.val (.bool (decide (X' < 0)))
   rw [hwx,hX',if_neg h2]
  ·have h2:¬(rdI (.agg ⟨[.bool q,.string c]⟩)+rdI (.agg ⟨[.bool false,.string ⟨#[]⟩]⟩)) < 0:=of_decide_eq_false h2
   rw [hwy] at h2
   show PV.val (.string (numB (rdI (.agg ⟨[.bool s,.string b]⟩)+rdI (.agg ⟨[.bool false,.string ⟨#[]⟩]⟩)).natAbs))=PV.val (.string (numB X'.natAbs))
   rw [hwx,hX',if_neg h2]
  ·have h2:¬(rdI (.agg ⟨[.bool q,.string c]⟩)+rdI (.agg ⟨[.bool false,.string ⟨#[]⟩]⟩)) < 0:=of_decide_eq_false h2
   rw [hwy] at h2
   show PV.val (.bool (decide ((rdI (.agg ⟨[.bool q,.string c]⟩)+rdI (.agg ⟨[.bool false,.string ⟨#[]⟩]⟩)) < 0)))=PV.val (.bool (decide (((D:Nat):Int) < 0)))
   rw [hwy,show Y=((D:Nat):Int) by omega]
  ·have h2:¬(rdI (.agg ⟨[.bool q,.string c]⟩)+rdI (.agg ⟨[.bool false,.string ⟨#[]⟩]⟩)) < 0:=of_decide_eq_false h2
   rw [hwy] at h2
   show PV.val (.string (numB (rdI (.agg ⟨[.bool q,.string c]⟩)+rdI (.agg ⟨[.bool false,.string ⟨#[]⟩]⟩)).natAbs))=PV.val (.string (numB (((D:Nat):Int)).natAbs))
   rw [hwy,←hD]
   rfl
  ·rw [hQ]
   have hgx:rdI (intV (((rdI (intV X')).natAbs.gcd (rdI (intV ((D:Nat):Int))).natAbs:Nat):Int))=((G:Nat):Int):=by rw [rdI_intV,rdI_intV,rdI_intV,hG];rfl
   have hgs:(numB ((((rdI (intV X')).natAbs.gcd (rdI (intV ((D:Nat):Int))).natAbs:Nat):Int)).natAbs).size≤8589934592:=by rw [rdI_intV,rdI_intV];show(numB (Nat.gcd X'.natAbs D)).size≤_;rw [←hG];exact hGs
   have p1:0 < rdI (intV (((rdI (intV X')).natAbs.gcd (rdI (intV ((D:Nat):Int))).natAbs:Nat):Int)):=by rw [hgx];omega
   have p2:rdI (intV (((rdI (intV X')).natAbs.gcd (rdI (intV ((D:Nat):Int))).natAbs:Nat):Int))∣rdI (intV X'):=by rw [hgx,rdI_intV];exact hGX
   have p3:rdI (intV (((rdI (intV X')).natAbs.gcd (rdI (intV ((D:Nat):Int))).natAbs:Nat):Int))∣rdI (intV ((D:Nat):Int)):=by rw [hgx,rdI_intV];exact hGD
   have hqx:(rdI (intV X') / rdI (intV (((rdI (intV X')).natAbs.gcd (rdI (intV ((D:Nat):Int))).natAbs:Nat):Int)))=(mkRat X' D).num:=by rw [hgx,rdI_intV,hq1]
   have hqd:(rdI (intV ((D:Nat):Int)) / rdI (intV (((rdI (intV X')).natAbs.gcd (rdI (intV ((D:Nat):Int))).natAbs:Nat):Int)))=(((mkRat X' D).den:Nat):Int):=by rw [hgx,rdI_intV,hq2];rfl
   have v1:PV.val (.bool (decide ((rdI (intV X') / rdI (intV (((rdI (intV X')).natAbs.gcd (rdI (intV ((D:Nat):Int))).natAbs:Nat):Int))) < 0)))=PV.val (.bool (decide ((mkRat X' D).num < 0))):=by rw [hqx]
   have v2:PV.val (.string (numB (rdI (intV X') / rdI (intV (((rdI (intV X')).natAbs.gcd (rdI (intV ((D:Nat):Int))).natAbs:Nat):Int))).natAbs))=PV.val (.string (numB (mkRat X' D).num.natAbs)):=by rw [hqx]
   have v3:(!((numB (rdI (intV ((D:Nat):Int)) / rdI (intV (((rdI (intV X')).natAbs.gcd (rdI (intV ((D:Nat):Int))).natAbs:Nat):Int))).natAbs).toList==(⟨#[1]⟩:ByteArray).toList))=true→PV.val (.string (numB (rdI (intV ((D:Nat):Int)) / rdI (intV (((rdI (intV X')).natAbs.gcd (rdI (intV ((D:Nat):Int))).natAbs:Nat):Int))).natAbs))=PV.val (.string (denT (mkRat X' D).den)):=fun h=>by
    rw [numB_is1,hqd] at h
    have h:(mkRat X' D).den≠1:=by simpa using h
    rw [hqd,denT,if_neg h]
    rfl
   have v4:(!((numB (rdI (intV ((D:Nat):Int)) / rdI (intV (((rdI (intV X')).natAbs.gcd (rdI (intV ((D:Nat):Int))).natAbs:Nat):Int))).natAbs).toList==(⟨#[1]⟩:ByteArray).toList))=false→PV.val (.string ⟨#[]⟩)=PV.val (.string (denT (mkRat X' D).den)):=fun h=>by
    rw [numB_is1,hqd] at h
    have h:(mkRat X' D).den=1:=by simpa using h
    rw [denT,if_pos h]
   with_unfolding_all refine⟨⟨⟨_,_,rfl,hxs'⟩,_,_,rfl,hds⟩,⟨⟨⟨_,_,rfl,hxs'⟩,_,_,rfl,hgs⟩,p1,p2⟩,⟨⟨⟨_,_,rfl,hds⟩,_,_,rfl,hgs⟩,p1,p3⟩,Unit,fun _=>True,fun _=>stOf [(4,.ptr 0 0 0 0),(6,.ptr 1 1 0 0)] [boxR false ⟨#[]⟩ ⟨#[]⟩ 0,boxR (decide ((mkRat X' D).num < 0)) (numB (mkRat X' D).num.natAbs) (denT (mkRat X' D).den) 1] 2 [],⟨fun h2=>⟨(),[some 2,some 4],trivial,Wo ⟨qX,qZ ⟨⟨v1,rfl⟩,⟨v2,rfl⟩,⟨v3 h2,rfl⟩,qQ⟩,qQ⟩ ⟨pP,pP,qQ⟩ trivial⟩,fun h2=>⟨(),[some 2,some 4],trivial,Wo ⟨qX,qZ ⟨⟨v1,rfl⟩,⟨v2,rfl⟩,⟨v4 h2,rfl⟩,qQ⟩,qQ⟩ ⟨pP,pP,qQ⟩ trivial⟩⟩,fun _ _=>⟨[some 0],stOf [(4,.ptr 0 0 0 0)] [boxR (decide ((mkRat X' D).num < 0)) (numB (mkRat X' D).num.natAbs) (denT (mkRat X' D).den) 0] 1 [],Wo ⟨qX,qQ⟩ ⟨pP,qQ⟩ trivial,rfl,rfl⟩⟩
 ·cases e
end Go.Proofs
namespace Go.Proofs
open Go Go.Ex Go.Num
set_option maxRecDepth 100000
theorem canonQ_symm (s:Bool) (b c:ByteArray) (q:Rat):(decide (q.num < 0)==s&&(numB q.num.natAbs==b&&(denT q.den==c&&true)))=canonQ s b c q:=by
 unfold canonQ
 have hb:∀x y:ByteArray,(x==y)=(y==x):=fun⟨x⟩ ⟨y⟩=>by
  show(x==y)=(y==x)
  exact BEq.comm
 rw [BEq.comm (a:=decide (q.num < 0)),hb (numB _),hb (denT _)]
def c132:List PV→Option Ans
 |[.val v]=>some ⟨some (isRk 4294967296 v),.val (ratV (rdR v)),[]⟩
 |_=>none
theorem ok132:funcOk {} Tryz.f132 1=true:=by kernel_rfl
theorem f132:FnOk Tryz.prog 132 c132:=by
 refine FnOk.ofW orders (mkE_ok (l:=[(180,c180),(181,c181),(182,c182),(183,c183)]) (own:=[]) (inl:=[]) (by simp [f180,f181,f182,f183]) (by simp)) Tryz.func132 {} 1 ok132 fun args r e=>?_
 unfold c132 at e
 split at e
 ·rename_i v
  cases e
  refine⟨by simp,fun hm=>?_⟩
  have hv:=hm _ rfl
  have r1:=hv.R (by decide)
  obtain⟨s,b,c,rfl,hb,hc⟩:=hv
  refine⟨[],stOf [(0,.val (.agg ⟨[.bool s,.string b,.string c]⟩))] [] 0 [],Wo trivial ⟨rfl,qQ⟩ trivial,?_⟩
  have hbl:=bv_lt b
  have hcl:=bv_lt c
  have hcd:den1 (bv c) < 256^(c.size+1):=by
   rw [Nat.pow_succ]
   unfold den1
   have:=Nat.pow_pos (n:=c.size) (show 0 < 256 by decide)
   split<;>omega
  have hd0:=den1_pos (bv c)
  have e0:rdR (.agg ⟨[.bool s,.string b,.string c]⟩)=mkRat (rdN (.agg ⟨[.bool s,.string b,.string c]⟩)) (rdD (.agg ⟨[.bool s,.string b,.string c]⟩)):=rfl
  have sN:(rdN (.agg ⟨[.bool s,.string b,.string c]⟩)).natAbs=bv b:=sgn_natAbs _ _
  have sD:rdD (.agg ⟨[.bool s,.string b,.string c]⟩)=den1 (bv c):=rfl
  have hsm:sm3 (.agg ⟨[.bool s,.string b,.string c]⟩)=true→b.size≤3∧c.size≤3:=fun h=>by
   have h:(decide (b.size≤3)&&decide (c.size≤3))=true:=h
   rw [Bool.and_eq_true] at h
   exact⟨of_decide_eq_true h.1,of_decide_eq_true h.2⟩
  have k1:sm3 (.agg ⟨[.bool s,.string b,.string c]⟩)=true→(bif sm3 (.agg ⟨[.bool s,.string b,.string c]⟩) then rdN (.agg ⟨[.bool s,.string b,.string c]⟩) else 0).natAbs < 72057594037927936:=fun h=>by
   have h3:256^b.size≤256^3:=Nat.pow_le_pow_right (by decide) (hsm h).1
   rw [h,cond_true,sN]
   omega
  have k2:sm3 (.agg ⟨[.bool s,.string b,.string c]⟩)=true→0 < (bif sm3 (.agg ⟨[.bool s,.string b,.string c]⟩) then((rdD (.agg ⟨[.bool s,.string b,.string c]⟩):Nat):Int) else 0):=fun h=>by
   rw [h,cond_true,sD]
   omega
  have k3:sm3 (.agg ⟨[.bool s,.string b,.string c]⟩)=true→(bif sm3 (.agg ⟨[.bool s,.string b,.string c]⟩) then((rdD (.agg ⟨[.bool s,.string b,.string c]⟩):Nat):Int) else 0) < 72057594037927936:=fun h=>by
   have h3:256^(c.size+1)≤256^4:=Nat.pow_le_pow_right (by decide) (by have:=(hsm h).2;omega)
   rw [h,cond_true,sD]
   omega
  have k4:sm3 (.agg ⟨[.bool s,.string b,.string c]⟩)=true→mkRat (bif sm3 (.agg ⟨[.bool s,.string b,.string c]⟩) then rdN (.agg ⟨[.bool s,.string b,.string c]⟩) else 0) (bif sm3 (.agg ⟨[.bool s,.string b,.string c]⟩) then((rdD (.agg ⟨[.bool s,.string b,.string c]⟩):Nat):Int) else 0).toNat=rdR (.agg ⟨[.bool s,.string b,.string c]⟩):=fun h=>by
   rw [h,cond_true,cond_true,Int.toNat_natCast]
   rfl
  have k5:Rat.divInt (rdI (intV (rdN (.agg ⟨[.bool s,.string b,.string c]⟩)))) (rdI (intV ((rdD (.agg ⟨[.bool s,.string b,.string c]⟩):Nat):Int)))=rdR (.agg ⟨[.bool s,.string b,.string c]⟩):=by
   rw [rdI_intV,rdI_intV,Rat.divInt_ofNat]
   rfl
  have j1:isIk 8589934592 (intV (rdN (.agg ⟨[.bool s,.string b,.string c]⟩))):=isIk_intV (k:=b.size) (by rw [sN];exact hbl) (by omega)
  have j2:isIk 8589934592 (intV ((rdD (.agg ⟨[.bool s,.string b,.string c]⟩):Nat):Int)):=isIk_intV (k:=c.size+1) (by rw [sD];exact hcd) (by omega)
  have j3:rdI (intV ((rdD (.agg ⟨[.bool s,.string b,.string c]⟩):Nat):Int))≠0:=by rw [rdI_intV,sD];omega
  with_unfolding_all refine⟨r1,fun h=>⟨⟨k1 h,k2 h,k3 h⟩,[some 1],stOf [(2,.ptr 0 0 0 0)] [boxR (decide ((rdR (.agg ⟨[.bool s,.string b,.string c]⟩)).num < 0)) (numB (rdR (.agg ⟨[.bool s,.string b,.string c]⟩)).num.natAbs) (denT (rdR (.agg ⟨[.bool s,.string b,.string c]⟩)).den) 0] 1 [],Wo ⟨qZ ⟨⟨congrArg (fun q:Rat=>PV.val (.bool (decide (q.num < 0)))) (k4 h),rfl⟩,⟨congrArg (fun q:Rat=>PV.val (.string (numB q.num.natAbs))) (k4 h),rfl⟩,⟨congrArg (fun q:Rat=>PV.val (.string (denT q.den))) (k4 h),rfl⟩,qQ⟩,qQ⟩ ⟨pP,qQ⟩ trivial,rfl,rfl⟩,fun h=>⟨⟨_,_,_,rfl,by omega,by omega⟩,⟨⟨j1,j2⟩,j3⟩,[some 1],stOf [(2,.ptr 0 0 0 0)] [boxR (decide ((rdR (.agg ⟨[.bool s,.string b,.string c]⟩)).num < 0)) (numB (rdR (.agg ⟨[.bool s,.string b,.string c]⟩)).num.natAbs) (denT (rdR (.agg ⟨[.bool s,.string b,.string c]⟩)).den) 0] 1 [],Wo ⟨qZ ⟨⟨congrArg (fun q:Rat=>PV.val (.bool (decide (q.num < 0)))) k5,rfl⟩,⟨congrArg (fun q:Rat=>PV.val (.string (numB q.num.natAbs))) k5,rfl⟩,⟨congrArg (fun q:Rat=>PV.val (.string (denT q.den))) k5,rfl⟩,qQ⟩,qQ⟩ ⟨pP,qQ⟩ trivial,rfl,rfl⟩⟩
 ·cases e
def c96:List PV→Option Ans
 |[.val v]=>some ⟨some (isRk 4294967296 v),.val (.int .i64 (bif canonB v then 0 else 1)),[]⟩
 |_=>none
def D96:Opt:={ perm:=atR 1 [(0,true),(2,true),(1,false)] }
theorem ok96:funcOk D96.toOrd Tryz.f96 1=true:=by kernel_rfl
theorem f96:FnOk Tryz.prog 96 c96:=by
 refine FnOk.ofW orders (mkE_ok (l:=[(132,c132)]) (own:=[]) (inl:=[]) (by simp [f132]) (by simp)) Tryz.func96 D96 1 ok96 fun args r e=>?_
 unfold c96 at e
 split at e
 ·rename_i v
  cases e
  refine⟨by simp,fun hm=>?_⟩
  have hv:=hm _ rfl
  obtain⟨s,b,c,rfl,hb,hc⟩:=hv
  refine⟨[],stOf [(0,.val (.agg ⟨[.bool s,.string b,.string c]⟩))] [] 0 [],Wo trivial ⟨rfl,qQ⟩ trivial,?_⟩
  have E:(decide ((rdR (.agg ⟨[.bool s,.string b,.string c]⟩)).num < 0)==s&&(numB (rdR (.agg ⟨[.bool s,.string b,.string c]⟩)).num.natAbs==b&&(denT (rdR (.agg ⟨[.bool s,.string b,.string c]⟩)).den==c&&true)))=canonB (.agg ⟨[.bool s,.string b,.string c]⟩):=canonQ_symm s b c (rdR (.agg ⟨[.bool s,.string b,.string c]⟩))
  have t1:(!(decide ((rdR (.agg ⟨[.bool s,.string b,.string c]⟩)).num < 0)==s&&(numB (rdR (.agg ⟨[.bool s,.string b,.string c]⟩)).num.natAbs==b&&(denT (rdR (.agg ⟨[.bool s,.string b,.string c]⟩)).den==c&&true))))=true→PV.val (.int .i64 1)=PV.val (.int .i64 (bif canonB (.agg ⟨[.bool s,.string b,.string c]⟩) then 0 else 1)):=fun h=>by
   rw [E] at h
   cases hc:canonB (.agg ⟨[.bool s,.string b,.string c]⟩) with
   |true=>rw [hc] at h;cases h
   |false=>rfl
  have t2:(!(decide ((rdR (.agg ⟨[.bool s,.string b,.string c]⟩)).num < 0)==s&&(numB (rdR (.agg ⟨[.bool s,.string b,.string c]⟩)).num.natAbs==b&&(denT (rdR (.agg ⟨[.bool s,.string b,.string c]⟩)).den==c&&true))))=false→PV.val (.int .i64 0)=PV.val (.int .i64 (bif canonB (.agg ⟨[.bool s,.string b,.string c]⟩) then 0 else 1)):=fun h=>by
   rw [E] at h
   cases hc:canonB (.agg ⟨[.bool s,.string b,.string c]⟩) with
   |true=>rfl
   |false=>rw [hc] at h;cases h
  with_unfolding_all refine⟨⟨_,_,_,rfl,hb,hc⟩,fun h=>⟨[],stOf [(2,.val (.int .i64 (bif canonB (.agg ⟨[.bool s,.string b,.string c]⟩) then 0 else 1)))] [] 0 [],Wo trivial ⟨t1 h,qQ⟩ trivial,rfl,rfl⟩,fun h=>⟨[],stOf [(2,.val (.int .i64 (bif canonB (.agg ⟨[.bool s,.string b,.string c]⟩) then 0 else 1)))] [] 0 [],Wo trivial ⟨t2 h,qQ⟩ trivial,rfl,rfl⟩⟩
 ·cases e
end Go.Proofs
namespace Go.Num
open Go Go.Ex Go.Proofs
theorem sm3_b {v:Value} (h:sm3 v=true):(rdN v).natAbs < 16777216∧0 < rdD v∧rdD v < 16777216:=by
 unfold sm3 at h
 split at h
 ·rename_i s b c
  rw [Bool.and_eq_true] at h
  refine⟨?_,den1_pos _,den1_lt (small_lt (of_decide_eq_true h.2))⟩
  show(sgn s (bv b)).natAbs < 16777216
  rw [sgn_natAbs]
  exact small_lt (of_decide_eq_true h.1)
 ·cases h
theorem isRk.mono {k n:Nat} {v:Value} (h:isRk k v) (hk:k≤n):isRk n v:=by
 obtain⟨s,b,c,rfl,hb,hc⟩:=h
 exact⟨s,b,c,rfl,Nat.le_trans hb hk,Nat.le_trans hc hk⟩
theorem mulN {x y:Int} {k l:Nat} (h1:x.natAbs < 256^k) (h2:y.natAbs < 256^l):(x*y).natAbs < 256^(k+l):=by
 rw [Int.natAbs_mul,Nat.pow_add]
 exact Nat.mul_lt_mul'' h1 h2
theorem mulII {x y:Int} {k l K:Nat} (h1:x.natAbs < 256^k) (h2:y.natAbs < 256^l) (hK:k+l≤K):isIk K (intV (rdI (intV x)*rdI (intV y))):=by
 rw [rdI_intV,rdI_intV]
 exact isIk_intV (mulN h1 h2) hK
theorem mulIJ {x y:Int} {k l:Nat} (h1:x.natAbs < 256^k) (h2:y.natAbs < 256^l) (hK:k+l≤34359738368):isI (intV (rdI (intV x)*rdI (intV y))):=by
 rw [rdI_intV,rdI_intV]
 exact isI_intV (mulN h1 h2) hK
theorem natN {n k:Nat} (h:n < 256^k):((n:Nat):Int).natAbs < 256^k:=by simpa using h
theorem isRk.b {k:Nat} {v:Value} (h:isRk k v):(rdN v).natAbs < 256^k∧0 < rdD v∧rdD v < 256^(k+1):=by
 obtain⟨s,b,c,rfl,hb,hc⟩:=h
 have h1:=bv_lt b
 have h2:=bv_lt c
 have h3:256^b.size≤256^k:=Nat.pow_le_pow_right (by decide) hb
 have h4:256^c.size≤256^k:=Nat.pow_le_pow_right (by decide) hc
 have h5:=Nat.pow_pos (n:=k) (show 0 < 256 by decide)
 refine⟨?_,den1_pos _,?_⟩
 ·show(sgn s (bv b)).natAbs < 256^k
  rw [sgn_natAbs]
  omega
 ·show den1 (bv c) < 256^(k+1)
  rw [Nat.pow_succ]
  unfold den1
  split<;>omega
theorem rdR_eq (v:Value):rdR v=mkRat (rdN v) (rdD v):=rfl
end Go.Num
namespace Go.Proofs
open Go Go.Ex Go.Num
set_option maxRecDepth 100000
def c135:List PV→Option Ans
 |[.val v,.val u]=>some ⟨some (isRk 1073741824 v∧isRk 1073741824 u),.val (goInt (cmpQ (rdR v) (rdR u))),[]⟩
 |_=>none
def D135:Opt:={ perm:=atR 11 [(0,true),(1,true),(3,true),(4,true),(2,false),(5,false),(6,false)] }
theorem ok135:funcOk D135.toOrd Tryz.f135 2=true:=by kernel_rfl
theorem f135:FnOk Tryz.prog 135 c135:=by
 refine FnOk.ofW orders (mkE_ok (l:=[(180,c180),(182,c182),(185,c185),(186,c186)]) (own:=[]) (inl:=[]) (by simp [f180,f182,f185,f186]) (by simp)) Tryz.func135 D135 2 ok135 fun args r e=>?_
 unfold c135 at e
 split at e
 ·rename_i v u
  cases e
  refine⟨by simp,fun hm=>?_⟩
  obtain⟨hv,hu⟩:=hm _ rfl
  have r1:=hv.R (by decide)
  have r2:=hu.R (by decide)
  have p1:isRk 17179869184 v:=hv.mono (by decide)
  have p2:isRk 17179869184 u:=hu.mono (by decide)
  have b1:=hv.b
  have b2:=hu.b
  obtain⟨s,b,c,rfl,hb,hc⟩:=hv
  obtain⟨s',b',c',rfl,hb',hc'⟩:=hu
  refine⟨[],stOf [(0,.val (.agg ⟨[.bool s,.string b,.string c]⟩)),(1,.val (.agg ⟨[.bool s',.string b',.string c']⟩))] [] 0 [],Wo trivial ⟨rfl,rfl,qQ⟩ trivial,?_⟩
  obtain⟨K,hK⟩:∃K,K=1073741824:=⟨_,rfl⟩
  rw [←hK] at b1 b2
  obtain⟨b3,b4,b5⟩:=b1
  obtain⟨b6,b7,b8⟩:=b2
  have iN:isIk 17179869184 (intV (rdN (.agg ⟨[.bool s,.string b,.string c]⟩))):=isIk_intV b3 (by omega)
  have iD:isIk 17179869184 (intV ((rdD (.agg ⟨[.bool s,.string b,.string c]⟩):Nat):Int)):=isIk_intV (natN b5) (by omega)
  have iM:isIk 17179869184 (intV (rdN (.agg ⟨[.bool s',.string b',.string c']⟩))):=isIk_intV b6 (by omega)
  have iE:isIk 17179869184 (intV ((rdD (.agg ⟨[.bool s',.string b',.string c']⟩):Nat):Int)):=isIk_intV (natN b8) (by omega)
  have sm:sm3 (.agg ⟨[.bool s,.string b,.string c]⟩)=true→sm3 (.agg ⟨[.bool s',.string b',.string c']⟩)=true→((rdN (.agg ⟨[.bool s,.string b,.string c]⟩)).natAbs < 16777216∧(((rdD (.agg ⟨[.bool s,.string b,.string c]⟩):Nat):Int)).natAbs < 16777216)∧(rdN (.agg ⟨[.bool s',.string b',.string c']⟩)).natAbs < 16777216∧(((rdD (.agg ⟨[.bool s',.string b',.string c']⟩):Nat):Int)).natAbs < 16777216:=fun h h'=>by
   have k1:=sm3_b h
   have k2:=sm3_b h'
   exact⟨⟨k1.1,by simpa using k1.2.2⟩,k2.1,by simpa using k2.2.2⟩
  obtain⟨Q,hQ⟩:∃Q,Q=cmpQ (rdR (.agg ⟨[.bool s,.string b,.string c]⟩)) (rdR (.agg ⟨[.bool s',.string b',.string c']⟩)):=⟨_,rfl⟩
  have hQ2:Q=cmpI (rdN (.agg ⟨[.bool s,.string b,.string c]⟩)*((rdD (.agg ⟨[.bool s',.string b',.string c']⟩):Nat):Int)) (rdN (.agg ⟨[.bool s',.string b',.string c']⟩)*((rdD (.agg ⟨[.bool s,.string b,.string c]⟩):Nat):Int)):=by rw [hQ,rdR_eq,rdR_eq,cmp_mk _ _ (by omega) (by omega)]
  rw [←hQ]
  have ws:sm3 (.agg ⟨[.bool s,.string b,.string c]⟩)=true→sm3 (.agg ⟨[.bool s',.string b',.string c']⟩)=true→IntKind.i64.wrap ((bif sm3 (.agg ⟨[.bool s,.string b,.string c]⟩) then rdN (.agg ⟨[.bool s,.string b,.string c]⟩) else 0)*(bif sm3 (.agg ⟨[.bool s',.string b',.string c']⟩) then((rdD (.agg ⟨[.bool s',.string b',.string c']⟩):Nat):Int) else 0))=rdN (.agg ⟨[.bool s,.string b,.string c]⟩)*((rdD (.agg ⟨[.bool s',.string b',.string c']⟩):Nat):Int)∧IntKind.i64.wrap ((bif sm3 (.agg ⟨[.bool s',.string b',.string c']⟩) then rdN (.agg ⟨[.bool s',.string b',.string c']⟩) else 0)*(bif sm3 (.agg ⟨[.bool s,.string b,.string c]⟩) then((rdD (.agg ⟨[.bool s,.string b,.string c]⟩):Nat):Int) else 0))=rdN (.agg ⟨[.bool s',.string b',.string c']⟩)*((rdD (.agg ⟨[.bool s,.string b,.string c]⟩):Nat):Int):=fun h h'=>by
   have k:=sm h h'
   rw [h,h',cond_true,cond_true,cond_true,cond_true,wmul k.1.1 k.2.2,wmul k.2.1 k.1.2]
   exact⟨rfl,rfl⟩
  have v1:sm3 (.agg ⟨[.bool s,.string b,.string c]⟩)=true→sm3 (.agg ⟨[.bool s',.string b',.string c']⟩)=true→decide (IntKind.i64.wrap ((bif sm3 (.agg ⟨[.bool s,.string b,.string c]⟩) then rdN (.agg ⟨[.bool s,.string b,.string c]⟩) else 0)*(bif sm3 (.agg ⟨[.bool s',.string b',.string c']⟩) then((rdD (.agg ⟨[.bool s',.string b',.string c']⟩):Nat):Int) else 0)) < IntKind.i64.wrap ((bif sm3 (.agg ⟨[.bool s',.string b',.string c']⟩) then rdN (.agg ⟨[.bool s',.string b',.string c']⟩) else 0)*(bif sm3 (.agg ⟨[.bool s,.string b,.string c]⟩) then((rdD (.agg ⟨[.bool s,.string b,.string c]⟩):Nat):Int) else 0)))=true→PV.val (.int .i64 (-1))=PV.val (goInt Q):=fun h h' k=>by
   rw [(ws h h').1,(ws h h').2] at k
   rw [hQ2,cmpI,if_pos (of_decide_eq_true k)]
   rfl
  have v2:sm3 (.agg ⟨[.bool s,.string b,.string c]⟩)=true→sm3 (.agg ⟨[.bool s',.string b',.string c']⟩)=true→decide (IntKind.i64.wrap ((bif sm3 (.agg ⟨[.bool s,.string b,.string c]⟩) then rdN (.agg ⟨[.bool s,.string b,.string c]⟩) else 0)*(bif sm3 (.agg ⟨[.bool s',.string b',.string c']⟩) then((rdD (.agg ⟨[.bool s',.string b',.string c']⟩):Nat):Int) else 0)) < IntKind.i64.wrap ((bif sm3 (.agg ⟨[.bool s',.string b',.string c']⟩) then rdN (.agg ⟨[.bool s',.string b',.string c']⟩) else 0)*(bif sm3 (.agg ⟨[.bool s,.string b,.string c]⟩) then((rdD (.agg ⟨[.bool s,.string b,.string c]⟩):Nat):Int) else 0)))=false→decide (IntKind.i64.wrap ((bif sm3 (.agg ⟨[.bool s,.string b,.string c]⟩) then rdN (.agg ⟨[.bool s,.string b,.string c]⟩) else 0)*(bif sm3 (.agg ⟨[.bool s',.string b',.string c']⟩) then((rdD (.agg ⟨[.bool s',.string b',.string c']⟩):Nat):Int) else 0)) > IntKind.i64.wrap ((bif sm3 (.agg ⟨[.bool s',.string b',.string c']⟩) then rdN (.agg ⟨[.bool s',.string b',.string c']⟩) else 0)*(bif sm3 (.agg ⟨[.bool s,.string b,.string c]⟩) then((rdD (.agg ⟨[.bool s,.string b,.string c]⟩):Nat):Int) else 0)))=true→PV.val (.int .i64 1)=PV.val (goInt Q):=fun h h' k l=>by
   rw [(ws h h').1,(ws h h').2] at k l
   rw [hQ2,cmpI,if_neg (of_decide_eq_false k),if_pos (of_decide_eq_true l)]
   rfl
  have v3:sm3 (.agg ⟨[.bool s,.string b,.string c]⟩)=true→sm3 (.agg ⟨[.bool s',.string b',.string c']⟩)=true→decide (IntKind.i64.wrap ((bif sm3 (.agg ⟨[.bool s,.string b,.string c]⟩) then rdN (.agg ⟨[.bool s,.string b,.string c]⟩) else 0)*(bif sm3 (.agg ⟨[.bool s',.string b',.string c']⟩) then((rdD (.agg ⟨[.bool s',.string b',.string c']⟩):Nat):Int) else 0)) < IntKind.i64.wrap ((bif sm3 (.agg ⟨[.bool s',.string b',.string c']⟩) then rdN (.agg ⟨[.bool s',.string b',.string c']⟩) else 0)*(bif sm3 (.agg ⟨[.bool s,.string b,.string c]⟩) then((rdD (.agg ⟨[.bool s,.string b,.string c]⟩):Nat):Int) else 0)))=false→decide (IntKind.i64.wrap ((bif sm3 (.agg ⟨[.bool s,.string b,.string c]⟩) then rdN (.agg ⟨[.bool s,.string b,.string c]⟩) else 0)*(bif sm3 (.agg ⟨[.bool s',.string b',.string c']⟩) then((rdD (.agg ⟨[.bool s',.string b',.string c']⟩):Nat):Int) else 0)) > IntKind.i64.wrap ((bif sm3 (.agg ⟨[.bool s',.string b',.string c']⟩) then rdN (.agg ⟨[.bool s',.string b',.string c']⟩) else 0)*(bif sm3 (.agg ⟨[.bool s,.string b,.string c]⟩) then((rdD (.agg ⟨[.bool s,.string b,.string c]⟩):Nat):Int) else 0)))=false→PV.val (.int .i64 0)=PV.val (goInt Q):=fun h h' k l=>by
   rw [(ws h h').1,(ws h h').2] at k l
   rw [hQ2,cmpI,if_neg (of_decide_eq_false k),if_neg (of_decide_eq_false l)]
   rfl
  have v4:PV.val (goInt (cmpI (rdI (intV (rdI (intV (rdN (.agg ⟨[.bool s,.string b,.string c]⟩)))*rdI (intV (((rdD (.agg ⟨[.bool s',.string b',.string c']⟩):Nat):Int)))))) (rdI (intV (rdI (intV (rdN (.agg ⟨[.bool s',.string b',.string c']⟩)))*rdI (intV (((rdD (.agg ⟨[.bool s,.string b,.string c]⟩):Nat):Int))))))))=PV.val (goInt Q):=by rw [rdI_intV,rdI_intV,rdI_intV,rdI_intV,rdI_intV,rdI_intV,hQ2]
  have i1:isI (intV (rdI (intV (rdN (.agg ⟨[.bool s,.string b,.string c]⟩)))*rdI (intV (((rdD (.agg ⟨[.bool s',.string b',.string c']⟩):Nat):Int))))):=mulIJ b3 (natN b8) (by omega)
  have i2:isI (intV (rdI (intV (rdN (.agg ⟨[.bool s',.string b',.string c']⟩)))*rdI (intV (((rdD (.agg ⟨[.bool s,.string b,.string c]⟩):Nat):Int))))):=mulIJ b6 (natN b5) (by omega)
  with_unfolding_all exact⟨r1,r2,⟨fun h1=>⟨fun h2=>⟨fun h3=>⟨[],stOf [(4,.val (goInt Q))] [] 0 [],Wo trivial ⟨v1 h1 h2 h3,qQ⟩ trivial,rfl,rfl⟩,fun h3=>⟨fun h4=>⟨[],stOf [(4,.val (goInt Q))] [] 0 [],Wo trivial ⟨v2 h1 h2 h3 h4,qQ⟩ trivial,rfl,rfl⟩,fun h4=>⟨[],stOf [(4,.val (goInt Q))] [] 0 [],Wo trivial ⟨v3 h1 h2 h3 h4,qQ⟩ trivial,rfl,rfl⟩⟩⟩,fun h2=>⟨p1,p2,⟨iN,iE⟩,⟨iM,iD⟩,⟨i1,i2⟩,⟨[],stOf [(4,.val (goInt Q))] [] 0 [],Wo trivial ⟨v4,qQ⟩ trivial,rfl,rfl⟩⟩⟩,fun h1=>⟨fun h=>(nomatch h),fun _=>⟨p1,p2,⟨iN,iE⟩,⟨iM,iD⟩,⟨i1,i2⟩,⟨[],stOf [(4,.val (goInt Q))] [] 0 [],Wo trivial ⟨v4,qQ⟩ trivial,rfl,rfl⟩⟩⟩⟩⟩
 ·cases e
def c222:List PV→Option Ans
 |[.val v,.val u]=>some ⟨some (isRk 1073741824 v∧isRk 1073741824 u),.val (ratV (rdR v*rdR u)),[]⟩
 |_=>none
def D222:Opt:={ perm:=atR 7 [(0,true),(1,true),(3,true),(4,true),(2,false),(5,false),(6,false)] }
theorem ok222:funcOk D222.toOrd Tryz.f222 2=true:=by kernel_rfl
theorem f222:FnOk Tryz.prog 222 c222:=by
 refine FnOk.ofW orders (mkE_ok (l:=[(180,c180),(181,c181),(182,c182),(183,c183),(186,c186)]) (own:=[]) (inl:=[]) (by simp [f180,f181,f182,f183,f186]) (by simp)) Tryz.func222 D222 2 ok222 fun args r e=>?_
 unfold c222 at e
 split at e
 ·rename_i v u
  cases e
  refine⟨by simp,fun hm=>?_⟩
  obtain⟨hv,hu⟩:=hm _ rfl
  have r1:=hv.R (by decide)
  have r2:=hu.R (by decide)
  have p1:isRk 17179869184 v:=hv.mono (by decide)
  have p2:isRk 17179869184 u:=hu.mono (by decide)
  have b1:=hv.b
  have b2:=hu.b
  obtain⟨s,b,c,rfl,hb,hc⟩:=hv
  obtain⟨s',b',c',rfl,hb',hc'⟩:=hu
  refine⟨[],stOf [(0,.val (.agg ⟨[.bool s,.string b,.string c]⟩)),(1,.val (.agg ⟨[.bool s',.string b',.string c']⟩))] [] 0 [],Wo trivial ⟨rfl,rfl,qQ⟩ trivial,?_⟩
  obtain⟨K,hK⟩:∃K,K=1073741824:=⟨_,rfl⟩
  rw [←hK] at b1 b2
  obtain⟨b3,b4,b5⟩:=b1
  obtain⟨b6,b7,b8⟩:=b2
  have iN:isIk 17179869184 (intV (rdN (.agg ⟨[.bool s,.string b,.string c]⟩))):=isIk_intV b3 (by omega)
  have iD:isIk 17179869184 (intV ((rdD (.agg ⟨[.bool s,.string b,.string c]⟩):Nat):Int)):=isIk_intV (natN b5) (by omega)
  have iM:isIk 17179869184 (intV (rdN (.agg ⟨[.bool s',.string b',.string c']⟩))):=isIk_intV b6 (by omega)
  have iE:isIk 17179869184 (intV ((rdD (.agg ⟨[.bool s',.string b',.string c']⟩):Nat):Int)):=isIk_intV (natN b8) (by omega)
  have sm:sm3 (.agg ⟨[.bool s,.string b,.string c]⟩)=true→sm3 (.agg ⟨[.bool s',.string b',.string c']⟩)=true→((rdN (.agg ⟨[.bool s,.string b,.string c]⟩)).natAbs < 16777216∧(((rdD (.agg ⟨[.bool s,.string b,.string c]⟩):Nat):Int)).natAbs < 16777216)∧(rdN (.agg ⟨[.bool s',.string b',.string c']⟩)).natAbs < 16777216∧(((rdD (.agg ⟨[.bool s',.string b',.string c']⟩):Nat):Int)).natAbs < 16777216:=fun h h'=>by
   have k1:=sm3_b h
   have k2:=sm3_b h'
   exact⟨⟨k1.1,by simpa using k1.2.2⟩,k2.1,by simpa using k2.2.2⟩
  obtain⟨Q,hQ⟩:∃Q,Q=rdR (.agg ⟨[.bool s,.string b,.string c]⟩)*rdR (.agg ⟨[.bool s',.string b',.string c']⟩):=⟨_,rfl⟩
  rw [←hQ]
  have hQ2:Q=mkRat (rdN (.agg ⟨[.bool s,.string b,.string c]⟩)*rdN (.agg ⟨[.bool s',.string b',.string c']⟩)) (rdD (.agg ⟨[.bool s,.string b,.string c]⟩)*rdD (.agg ⟨[.bool s',.string b',.string c']⟩)):=by rw [hQ,rdR_eq,rdR_eq,Rat.mkRat_mul_mkRat]
  have dd:((rdD (.agg ⟨[.bool s,.string b,.string c]⟩):Nat):Int)*((rdD (.agg ⟨[.bool s',.string b',.string c']⟩):Nat):Int)=((rdD (.agg ⟨[.bool s,.string b,.string c]⟩)*rdD (.agg ⟨[.bool s',.string b',.string c']⟩):Nat):Int):=by rw [Int.natCast_mul]
  have dpos:0 < rdD (.agg ⟨[.bool s,.string b,.string c]⟩)*rdD (.agg ⟨[.bool s',.string b',.string c']⟩):=Nat.mul_pos b4 b7
  have w:sm3 (.agg ⟨[.bool s,.string b,.string c]⟩)=true→sm3 (.agg ⟨[.bool s',.string b',.string c']⟩)=true→((IntKind.i64.wrap ((bif sm3 (.agg ⟨[.bool s,.string b,.string c]⟩) then rdN (.agg ⟨[.bool s,.string b,.string c]⟩) else 0)*(bif sm3 (.agg ⟨[.bool s',.string b',.string c']⟩) then rdN (.agg ⟨[.bool s',.string b',.string c']⟩) else 0))).natAbs < 72057594037927936∧0 < IntKind.i64.wrap ((bif sm3 (.agg ⟨[.bool s,.string b,.string c]⟩) then((rdD (.agg ⟨[.bool s,.string b,.string c]⟩):Nat):Int) else 0)*(bif sm3 (.agg ⟨[.bool s',.string b',.string c']⟩) then((rdD (.agg ⟨[.bool s',.string b',.string c']⟩):Nat):Int) else 0))∧IntKind.i64.wrap ((bif sm3 (.agg ⟨[.bool s,.string b,.string c]⟩) then((rdD (.agg ⟨[.bool s,.string b,.string c]⟩):Nat):Int) else 0)*(bif sm3 (.agg ⟨[.bool s',.string b',.string c']⟩) then((rdD (.agg ⟨[.bool s',.string b',.string c']⟩):Nat):Int) else 0)) < 72057594037927936)∧mkRat (IntKind.i64.wrap ((bif sm3 (.agg ⟨[.bool s,.string b,.string c]⟩) then rdN (.agg ⟨[.bool s,.string b,.string c]⟩) else 0)*(bif sm3 (.agg ⟨[.bool s',.string b',.string c']⟩) then rdN (.agg ⟨[.bool s',.string b',.string c']⟩) else 0))) (IntKind.i64.wrap ((bif sm3 (.agg ⟨[.bool s,.string b,.string c]⟩) then((rdD (.agg ⟨[.bool s,.string b,.string c]⟩):Nat):Int) else 0)*(bif sm3 (.agg ⟨[.bool s',.string b',.string c']⟩) then((rdD (.agg ⟨[.bool s',.string b',.string c']⟩):Nat):Int) else 0))).toNat=Q:=fun h h'=>by
   have k:=sm h h'
   have m1:=mul24 k.1.1 k.2.1
   have m2:=mul24 k.1.2 k.2.2
   rw [h,h',cond_true,cond_true,cond_true,cond_true,wmul k.1.1 k.2.1,wmul k.1.2 k.2.2]
   rw [dd] at m2 ⊢
   rw [hQ2,Int.toNat_natCast]
   exact⟨⟨by omega,by omega,by omega⟩,rfl⟩
  have e2:Rat.divInt (rdI (intV (rdI (intV (rdN (.agg ⟨[.bool s,.string b,.string c]⟩)))*rdI (intV (rdN (.agg ⟨[.bool s',.string b',.string c']⟩)))))) (rdI (intV (rdI (intV (((rdD (.agg ⟨[.bool s,.string b,.string c]⟩):Nat):Int)))*rdI (intV (((rdD (.agg ⟨[.bool s',.string b',.string c']⟩):Nat):Int))))))=Q:=by
   simp only [rdI_intV]
   rw [dd,Rat.divInt_ofNat,hQ2]
  have i2:isIk 8589934592 (intV (rdI (intV (((rdD (.agg ⟨[.bool s,.string b,.string c]⟩):Nat):Int)))*rdI (intV (((rdD (.agg ⟨[.bool s',.string b',.string c']⟩):Nat):Int))))):=mulII (natN b5) (natN b8) (by omega)
  have i3:rdI (intV (rdI (intV (((rdD (.agg ⟨[.bool s,.string b,.string c]⟩):Nat):Int)))*rdI (intV (((rdD (.agg ⟨[.bool s',.string b',.string c']⟩):Nat):Int)))))≠0:=by
   rw [rdI_intV,rdI_intV,rdI_intV,dd]
   omega
  have i1:isIk 8589934592 (intV (rdI (intV (rdN (.agg ⟨[.bool s,.string b,.string c]⟩)))*rdI (intV (rdN (.agg ⟨[.bool s',.string b',.string c']⟩))))):=mulII b3 b6 (by omega)
  with_unfolding_all exact⟨r1,r2,⟨fun h1=>⟨fun h2=>⟨(w h1 h2).1,⟨[some 2],stOf [(4,.ptr 0 0 0 0)] [boxR (decide (Q.num < 0)) (numB Q.num.natAbs) (denT Q.den) 0] 1 [],Wo ⟨qZ ⟨⟨cbq (w h1 h2).2,rfl⟩,⟨csq (w h1 h2).2,rfl⟩,⟨cdq (w h1 h2).2,rfl⟩,qQ⟩,qQ⟩ ⟨pP,qQ⟩ trivial,rfl,rfl⟩⟩,fun h2=>⟨p1,p2,⟨iN,iM⟩,⟨iD,iE⟩,⟨⟨i1,i2⟩,i3⟩,⟨[some 2],stOf [(4,.ptr 0 0 0 0)] [boxR (decide (Q.num < 0)) (numB Q.num.natAbs) (denT Q.den) 0] 1 [],Wo ⟨qZ ⟨⟨cbq e2,rfl⟩,⟨csq e2,rfl⟩,⟨cdq e2,rfl⟩,qQ⟩,qQ⟩ ⟨pP,qQ⟩ trivial,rfl,rfl⟩⟩⟩,fun h1=>⟨fun h=>(nomatch h),fun _=>⟨p1,p2,⟨iN,iM⟩,⟨iD,iE⟩,⟨⟨i1,i2⟩,i3⟩,⟨[some 2],stOf [(4,.ptr 0 0 0 0)] [boxR (decide (Q.num < 0)) (numB Q.num.natAbs) (denT Q.den) 0] 1 [],Wo ⟨qZ ⟨⟨cbq e2,rfl⟩,⟨csq e2,rfl⟩,⟨cdq e2,rfl⟩,qQ⟩,qQ⟩ ⟨pP,qQ⟩ trivial,rfl,rfl⟩⟩⟩⟩⟩
 ·cases e
def c244:List PV→Option Ans
 |[.val v,.val u]=>some ⟨some (isRk 1073741824 v∧isRk 1073741824 u),.val (ratV (rdR v+rdR u)),[]⟩
 |_=>none
def D244:Opt:={ perm:=atR 7 [(0,true),(1,true),(3,true),(4,true),(7,true),(8,true),(2,false),(5,false),(6,false),(9,false),(10,false)] }
theorem ok244:funcOk D244.toOrd Tryz.f244 2=true:=by kernel_rfl
theorem f244:FnOk Tryz.prog 244 c244:=by
 refine FnOk.ofW orders (mkE_ok (l:=[(180,c180),(181,c181),(182,c182),(183,c183),(186,c186),(225,c225)]) (own:=[]) (inl:=[]) (by simp [f180,f181,f182,f183,f186,f225]) (by simp)) Tryz.func244 D244 2 ok244 fun args r e=>?_
 unfold c244 at e
 split at e
 ·rename_i v u
  cases e
  refine⟨by simp,fun hm=>?_⟩
  obtain⟨hv,hu⟩:=hm _ rfl
  have r1:=hv.R (by decide)
  have r2:=hu.R (by decide)
  have p1:isRk 17179869184 v:=hv.mono (by decide)
  have p2:isRk 17179869184 u:=hu.mono (by decide)
  have b1:=hv.b
  have b2:=hu.b
  obtain⟨s,b,c,rfl,hb,hc⟩:=hv
  obtain⟨s',b',c',rfl,hb',hc'⟩:=hu
  refine⟨[],stOf [(0,.val (.agg ⟨[.bool s,.string b,.string c]⟩)),(1,.val (.agg ⟨[.bool s',.string b',.string c']⟩))] [] 0 [],Wo trivial ⟨rfl,rfl,qQ⟩ trivial,?_⟩
  obtain⟨K,hK⟩:∃K,K=1073741824:=⟨_,rfl⟩
  rw [←hK] at b1 b2
  obtain⟨b3,b4,b5⟩:=b1
  obtain⟨b6,b7,b8⟩:=b2
  have iN:isIk 17179869184 (intV (rdN (.agg ⟨[.bool s,.string b,.string c]⟩))):=isIk_intV b3 (by omega)
  have iD:isIk 17179869184 (intV ((rdD (.agg ⟨[.bool s,.string b,.string c]⟩):Nat):Int)):=isIk_intV (natN b5) (by omega)
  have iM:isIk 17179869184 (intV (rdN (.agg ⟨[.bool s',.string b',.string c']⟩))):=isIk_intV b6 (by omega)
  have iE:isIk 17179869184 (intV ((rdD (.agg ⟨[.bool s',.string b',.string c']⟩):Nat):Int)):=isIk_intV (natN b8) (by omega)
  have sm:sm3 (.agg ⟨[.bool s,.string b,.string c]⟩)=true→sm3 (.agg ⟨[.bool s',.string b',.string c']⟩)=true→((rdN (.agg ⟨[.bool s,.string b,.string c]⟩)).natAbs < 16777216∧(((rdD (.agg ⟨[.bool s,.string b,.string c]⟩):Nat):Int)).natAbs < 16777216)∧(rdN (.agg ⟨[.bool s',.string b',.string c']⟩)).natAbs < 16777216∧(((rdD (.agg ⟨[.bool s',.string b',.string c']⟩):Nat):Int)).natAbs < 16777216:=fun h h'=>by
   have k1:=sm3_b h
   have k2:=sm3_b h'
   exact⟨⟨k1.1,by simpa using k1.2.2⟩,k2.1,by simpa using k2.2.2⟩
  obtain⟨Q,hQ⟩:∃Q,Q=rdR (.agg ⟨[.bool s,.string b,.string c]⟩)+rdR (.agg ⟨[.bool s',.string b',.string c']⟩):=⟨_,rfl⟩
  rw [←hQ]
  have hQ2:Q=mkRat (rdN (.agg ⟨[.bool s,.string b,.string c]⟩)*((rdD (.agg ⟨[.bool s',.string b',.string c']⟩):Nat):Int)+rdN (.agg ⟨[.bool s',.string b',.string c']⟩)*((rdD (.agg ⟨[.bool s,.string b,.string c]⟩):Nat):Int)) (rdD (.agg ⟨[.bool s,.string b,.string c]⟩)*rdD (.agg ⟨[.bool s',.string b',.string c']⟩)):=by rw [hQ,rdR_eq,rdR_eq,Rat.mkRat_add_mkRat _ _ (by omega) (by omega)]
  have dd:((rdD (.agg ⟨[.bool s,.string b,.string c]⟩):Nat):Int)*((rdD (.agg ⟨[.bool s',.string b',.string c']⟩):Nat):Int)=((rdD (.agg ⟨[.bool s,.string b,.string c]⟩)*rdD (.agg ⟨[.bool s',.string b',.string c']⟩):Nat):Int):=by rw [Int.natCast_mul]
  have dpos:0 < rdD (.agg ⟨[.bool s,.string b,.string c]⟩)*rdD (.agg ⟨[.bool s',.string b',.string c']⟩):=Nat.mul_pos b4 b7
  have w:sm3 (.agg ⟨[.bool s,.string b,.string c]⟩)=true→sm3 (.agg ⟨[.bool s',.string b',.string c']⟩)=true→((IntKind.i64.wrap (IntKind.i64.wrap ((bif sm3 (.agg ⟨[.bool s,.string b,.string c]⟩) then rdN (.agg ⟨[.bool s,.string b,.string c]⟩) else 0)*(bif sm3 (.agg ⟨[.bool s',.string b',.string c']⟩) then((rdD (.agg ⟨[.bool s',.string b',.string c']⟩):Nat):Int) else 0))+IntKind.i64.wrap ((bif sm3 (.agg ⟨[.bool s',.string b',.string c']⟩) then rdN (.agg ⟨[.bool s',.string b',.string c']⟩) else 0)*(bif sm3 (.agg ⟨[.bool s,.string b,.string c]⟩) then((rdD (.agg ⟨[.bool s,.string b,.string c]⟩):Nat):Int) else 0)))).natAbs < 72057594037927936∧0 < IntKind.i64.wrap ((bif sm3 (.agg ⟨[.bool s,.string b,.string c]⟩) then((rdD (.agg ⟨[.bool s,.string b,.string c]⟩):Nat):Int) else 0)*(bif sm3 (.agg ⟨[.bool s',.string b',.string c']⟩) then((rdD (.agg ⟨[.bool s',.string b',.string c']⟩):Nat):Int) else 0))∧IntKind.i64.wrap ((bif sm3 (.agg ⟨[.bool s,.string b,.string c]⟩) then((rdD (.agg ⟨[.bool s,.string b,.string c]⟩):Nat):Int) else 0)*(bif sm3 (.agg ⟨[.bool s',.string b',.string c']⟩) then((rdD (.agg ⟨[.bool s',.string b',.string c']⟩):Nat):Int) else 0)) < 72057594037927936)∧mkRat (IntKind.i64.wrap (IntKind.i64.wrap ((bif sm3 (.agg ⟨[.bool s,.string b,.string c]⟩) then rdN (.agg ⟨[.bool s,.string b,.string c]⟩) else 0)*(bif sm3 (.agg ⟨[.bool s',.string b',.string c']⟩) then((rdD (.agg ⟨[.bool s',.string b',.string c']⟩):Nat):Int) else 0))+IntKind.i64.wrap ((bif sm3 (.agg ⟨[.bool s',.string b',.string c']⟩) then rdN (.agg ⟨[.bool s',.string b',.string c']⟩) else 0)*(bif sm3 (.agg ⟨[.bool s,.string b,.string c]⟩) then((rdD (.agg ⟨[.bool s,.string b,.string c]⟩):Nat):Int) else 0)))) (IntKind.i64.wrap ((bif sm3 (.agg ⟨[.bool s,.string b,.string c]⟩) then((rdD (.agg ⟨[.bool s,.string b,.string c]⟩):Nat):Int) else 0)*(bif sm3 (.agg ⟨[.bool s',.string b',.string c']⟩) then((rdD (.agg ⟨[.bool s',.string b',.string c']⟩):Nat):Int) else 0))).toNat=Q:=fun h h'=>by
   have k:=sm h h'
   have m0:=mul24 k.1.1 k.2.2
   have m1:=mul24 k.2.1 k.1.2
   have m2:=mul24 k.1.2 k.2.2
   rw [h,h',cond_true,cond_true,cond_true,cond_true,wmul k.1.1 k.2.2,wmul k.2.1 k.1.2,wmul k.1.2 k.2.2,wrap64 (by omega) (by omega)]
   rw [dd] at m2 ⊢
   rw [hQ2,Int.toNat_natCast]
   exact⟨⟨by omega,by omega,by omega⟩,rfl⟩
  have e2:Rat.divInt (rdI (intV (rdI (intV (rdI (intV (rdN (.agg ⟨[.bool s,.string b,.string c]⟩)))*rdI (intV (((rdD (.agg ⟨[.bool s',.string b',.string c']⟩):Nat):Int)))))+rdI (intV (rdI (intV (rdN (.agg ⟨[.bool s',.string b',.string c']⟩)))*rdI (intV (((rdD (.agg ⟨[.bool s,.string b,.string c]⟩):Nat):Int)))))))) (rdI (intV (rdI (intV (((rdD (.agg ⟨[.bool s,.string b,.string c]⟩):Nat):Int)))*rdI (intV (((rdD (.agg ⟨[.bool s',.string b',.string c']⟩):Nat):Int))))))=Q:=by
   simp only [rdI_intV]
   rw [dd,Rat.divInt_ofNat,hQ2]
  have i2:isIk 8589934592 (intV (rdI (intV (((rdD (.agg ⟨[.bool s,.string b,.string c]⟩):Nat):Int)))*rdI (intV (((rdD (.agg ⟨[.bool s',.string b',.string c']⟩):Nat):Int))))):=mulII (natN b5) (natN b8) (by omega)
  have i3:rdI (intV (rdI (intV (((rdD (.agg ⟨[.bool s,.string b,.string c]⟩):Nat):Int)))*rdI (intV (((rdD (.agg ⟨[.bool s',.string b',.string c']⟩):Nat):Int)))))≠0:=by
   rw [rdI_intV,rdI_intV,rdI_intV,dd]
   omega
  have i0:isIk 17179869184 (intV (rdI (intV (rdN (.agg ⟨[.bool s,.string b,.string c]⟩)))*rdI (intV (((rdD (.agg ⟨[.bool s',.string b',.string c']⟩):Nat):Int))))):=mulII b3 (natN b8) (by omega)
  have i1:isIk 17179869184 (intV (rdI (intV (rdN (.agg ⟨[.bool s',.string b',.string c']⟩)))*rdI (intV (((rdD (.agg ⟨[.bool s,.string b,.string c]⟩):Nat):Int))))):=mulII b6 (natN b5) (by omega)
  have i4:isIk 8589934592 (intV (rdI (intV (rdI (intV (rdN (.agg ⟨[.bool s,.string b,.string c]⟩)))*rdI (intV (((rdD (.agg ⟨[.bool s',.string b',.string c']⟩):Nat):Int)))))+rdI (intV (rdI (intV (rdN (.agg ⟨[.bool s',.string b',.string c']⟩)))*rdI (intV (((rdD (.agg ⟨[.bool s,.string b,.string c]⟩):Nat):Int))))))):=by
   rw [rdI_intV,rdI_intV,rdI_intV,rdI_intV,rdI_intV,rdI_intV]
   exact isIk_intV (addI (mulN b3 (natN b8)) (mulN b6 (natN b5))) (by omega)
  with_unfolding_all exact⟨r1,r2,⟨fun h1=>⟨fun h2=>⟨(w h1 h2).1,⟨[some 2],stOf [(4,.ptr 0 0 0 0)] [boxR (decide (Q.num < 0)) (numB Q.num.natAbs) (denT Q.den) 0] 1 [],Wo ⟨qZ ⟨⟨cbq (w h1 h2).2,rfl⟩,⟨csq (w h1 h2).2,rfl⟩,⟨cdq (w h1 h2).2,rfl⟩,qQ⟩,qQ⟩ ⟨pP,qQ⟩ trivial,rfl,rfl⟩⟩,fun h2=>⟨p1,p2,⟨iN,iE⟩,⟨iM,iD⟩,⟨i0,i1⟩,⟨iD,iE⟩,⟨⟨i4,i2⟩,i3⟩,⟨[some 2],stOf [(4,.ptr 0 0 0 0)] [boxR (decide (Q.num < 0)) (numB Q.num.natAbs) (denT Q.den) 0] 1 [],Wo ⟨qZ ⟨⟨cbq e2,rfl⟩,⟨csq e2,rfl⟩,⟨cdq e2,rfl⟩,qQ⟩,qQ⟩ ⟨pP,qQ⟩ trivial,rfl,rfl⟩⟩⟩,fun h1=>⟨fun h=>(nomatch h),fun _=>⟨p1,p2,⟨iN,iE⟩,⟨iM,iD⟩,⟨i0,i1⟩,⟨iD,iE⟩,⟨⟨i4,i2⟩,i3⟩,⟨[some 2],stOf [(4,.ptr 0 0 0 0)] [boxR (decide (Q.num < 0)) (numB Q.num.natAbs) (denT Q.den) 0] 1 [],Wo ⟨qZ ⟨⟨cbq e2,rfl⟩,⟨csq e2,rfl⟩,⟨cdq e2,rfl⟩,qQ⟩,qQ⟩ ⟨pP,qQ⟩ trivial,rfl,rfl⟩⟩⟩⟩⟩
 ·cases e
def c221:List PV→Option Ans
 |[.val v,.val u]=>some ⟨some (isRk 1073741824 v∧isRk 1073741824 u),.val (ratV (rdR v - rdR u)),[]⟩
 |_=>none
theorem ok221:funcOk {} Tryz.f221 2=true:=by kernel_rfl
theorem f221:FnOk Tryz.prog 221 c221:=by
 refine FnOk.ofW orders (mkE_ok (l:=[(244,c244)]) (own:=[]) (inl:=[]) (by simp [f244]) (by simp)) Tryz.func221 {} 2 ok221 fun args r e=>?_
 unfold c221 at e
 split at e
 ·rename_i v u
  cases e
  refine⟨by simp,fun hm=>?_⟩
  obtain⟨hv,hu⟩:=hm _ rfl
  obtain⟨s,b,c,rfl,hb,hc⟩:=hv
  obtain⟨s',b',c',rfl,hb',hc'⟩:=hu
  refine⟨[],stOf [(0,.val (.agg ⟨[.bool s,.string b,.string c]⟩)),(1,.val (.agg ⟨[.bool s',.string b',.string c']⟩))] [] 0 [],Wo trivial ⟨rfl,rfl,qQ⟩ trivial,?_⟩
  obtain⟨Q,hQ⟩:∃Q,Q=rdR (.agg ⟨[.bool s,.string b,.string c]⟩) - rdR (.agg ⟨[.bool s',.string b',.string c']⟩):=⟨_,rfl⟩
  rw [←hQ]
  have e2:rdR (.agg ⟨[.bool s,.string b,.string c]⟩)+rdR (.agg ⟨[.bool (!s'),.string b',.string c']⟩)=Q:=by rw [hQ,rdR_neg,Rat.sub_eq_add_neg]
  with_unfolding_all exact⟨⟨⟨_,_,_,rfl,hb,hc⟩,_,_,_,rfl,hb',hc'⟩,⟨[some 2],stOf [(4,.ptr 0 0 0 0)] [boxR (decide (Q.num < 0)) (numB Q.num.natAbs) (denT Q.den) 0] 1 [],Wo ⟨qZ ⟨⟨cbq e2,rfl⟩,⟨csq e2,rfl⟩,⟨cdq e2,rfl⟩,qQ⟩,qQ⟩ ⟨pP,qQ⟩ trivial,rfl,rfl⟩⟩
 ·cases e
end Go.Proofs
namespace Go.Num
open Go Go.Ex
structure RatS where
 s:Bool
 b:ByteArray
 c:ByteArray
structure PtS where
 x:RatS
 y:RatS
def RatS.v (r:RatS):Value:=.agg ⟨[.bool r.s,.string r.b,.string r.c]⟩
def RatS.cells (r:RatS):List PV:=[.val (.bool r.s),.val (.string r.b),.val (.string r.c)]
def PtS.v (p:PtS):Value:=.agg ⟨[.bool p.x.s,.string p.x.b,.string p.x.c,.bool p.y.s,.string p.y.b,.string p.y.c]⟩
def PtS.cells (p:PtS):List PV:=[.val (.bool p.x.s),.val (.string p.x.b),.val (.string p.x.c),.val (.bool p.y.s),.val (.string p.y.b),.val (.string p.y.c)]
def rdP:List PV→PtS
 |[.val (.bool s),.val (.string b),.val (.string c),.val (.bool t),.val (.string d),.val (.string e)]=>⟨⟨s,b,c⟩,⟨t,d,e⟩⟩
 |_=>⟨⟨false,⟨#[]⟩,⟨#[]⟩⟩,⟨false,⟨#[]⟩,⟨#[]⟩⟩⟩
def rdV:Value→PtS
 |.agg ⟨[.bool s,.string b,.string c,.bool t,.string d,.string e]⟩=>⟨⟨s,b,c⟩,⟨t,d,e⟩⟩
 |_=>⟨⟨false,⟨#[]⟩,⟨#[]⟩⟩,⟨false,⟨#[]⟩,⟨#[]⟩⟩⟩
def RatS.le (k:Nat) (r:RatS):Prop:=r.b.size≤k∧r.c.size≤k
def PtS.le (k:Nat) (p:PtS):Prop:=p.x.le k∧p.y.le k
def isPk (k:Nat) (v:Value):Prop:=∃p:PtS,v=p.v∧p.le k
theorem RatS.k {r:RatS} {k:Nat} (h:r.le k):isRk k r.v:=⟨_,_,_,rfl,h.1,h.2⟩
end Go.Num
namespace Go.Proofs
open Go Go.Ex Go.Num
set_option maxRecDepth 100000
def canonP (p:PtS):Bool:=canonB p.x.v&&canonB p.y.v
def okW (b:Bool):Int:=bif b then 0 else 1
def c59:List PV→Option Ans
 |[.val v]=>some ⟨some (isPk 4294967296 v),.val (.int .i64 (okW (canonP (rdV v)))),[]⟩
 |_=>none
theorem ok59:funcOk {} Tryz.f59 1=true:=by kernel_rfl
theorem f59:FnOk Tryz.prog 59 c59:=by
 refine FnOk.ofW orders (mkE_ok (l:=[(96,c96)]) (own:=[]) (inl:=[]) (by simp [f96]) (by simp)) Tryz.func59 {} 1 ok59 fun args r e=>?_
 unfold c59 at e
 split at e
 ·rename_i v
  cases e
  refine⟨by simp,fun hm=>?_⟩
  obtain⟨p,rfl,hx,hy⟩:=hm _ rfl
  refine⟨[],stOf [(0,.val p.v)] [] 0 [],Wo trivial ⟨rfl,qQ⟩ trivial,?_⟩
  have hno:∀b:Bool,((bif b then(0:Int) else 1) != 0)=true→b=false:=fun b h=>by cases b<;>first|rfl|cases h
  have hyes:∀b:Bool,((bif b then(0:Int) else 1) != 0)=false→b=true:=fun b h=>by cases b<;>first|rfl|cases h
  have r1:canonB p.x.v=false→PV.val (.int .i64 1)=PV.val (.int .i64 (okW (canonP p))):=fun h=>by unfold canonP;rw [h];rfl
  have r2:canonB p.y.v=false→PV.val (.int .i64 1)=PV.val (.int .i64 (okW (canonP p))):=fun h=>by unfold canonP;rw [h,Bool.and_false];rfl
  have r3:canonB p.x.v=true→canonB p.y.v=true→PV.val (.int .i64 0)=PV.val (.int .i64 (okW (canonP p))):=fun h h'=>by unfold canonP;rw [h,h'];rfl
  with_unfolding_all refine⟨RatS.k hx,fun h=>⟨RatS.k hy,fun h2=>⟨[],stOf [(2,.val (.int .i64 (okW (canonP p))))] [] 0 [],Wo trivial ⟨r2 (hno _ h2),qQ⟩ trivial,rfl,rfl⟩,fun h2=>⟨[],stOf [(2,.val (.int .i64 (okW (canonP p))))] [] 0 [],Wo trivial ⟨r3 (hyes _ h) (hyes _ h2),qQ⟩ trivial,rfl,rfl⟩⟩,fun h=>⟨fun h'=>⟨[],stOf [(2,.val (.int .i64 (okW (canonP p))))] [] 0 [],Wo trivial ⟨r1 (hno _ h),qQ⟩ trivial,rfl,rfl⟩,fun h'=>(nomatch h')⟩⟩
 ·cases e
def c67:List PV→Option Ans
 |[.val v]=>some ⟨some (isPk 4294967296 v),.val (.int .i64 (okW (canonP (rdV v)))),[]⟩
 |_=>none
theorem ok67:funcOk {} Tryz.f67 1=true:=by kernel_rfl
theorem f67:FnOk Tryz.prog 67 c67:=by
 refine FnOk.ofW orders (mkE_ok (l:=[(100,c100)]) (own:=[]) (inl:=[]) (by simp [f100]) (by simp)) Tryz.func67 {} 1 ok67 fun args r e=>?_
 unfold c67 at e
 split at e
 ·rename_i v
  cases e
  refine⟨by simp,fun hm=>?_⟩
  obtain⟨p,rfl,hx,hy⟩:=hm _ rfl
  refine⟨[],stOf [(0,.val p.v)] [] 0 [],Wo trivial ⟨rfl,qQ⟩ trivial,?_⟩
  have hno:∀b:Bool,((bif b then(0:Int) else 1) != 0)=true→b=false:=fun b h=>by cases b<;>first|rfl|cases h
  have hyes:∀b:Bool,((bif b then(0:Int) else 1) != 0)=false→b=true:=fun b h=>by cases b<;>first|rfl|cases h
  have r1:canonB p.x.v=false→PV.val (.int .i64 1)=PV.val (.int .i64 (okW (canonP p))):=fun h=>by unfold canonP;rw [h];rfl
  have r2:canonB p.y.v=false→PV.val (.int .i64 1)=PV.val (.int .i64 (okW (canonP p))):=fun h=>by unfold canonP;rw [h,Bool.and_false];rfl
  have r3:canonB p.x.v=true→canonB p.y.v=true→PV.val (.int .i64 0)=PV.val (.int .i64 (okW (canonP p))):=fun h h'=>by unfold canonP;rw [h,h'];rfl
  with_unfolding_all refine⟨Nat,fun i=>i≤2∧(0 < i→canonB p.x.v=true)∧(1 < i→canonB p.y.v=true),fun i=>stOf [(9,.sl 0 0 0 2),(10,.val (goInt 2)),(11,.val (goInt i))] [⟨23,3,0,false,false,2,fun j=>(bif Nat.beq j 0 then p.x else p.y).cells⟩] 1 [],fun i=>2 - i,⟨0,[some 1],⟨by decide,fun h=>absurd h (by decide),fun h=>absurd h (by decide)⟩,Wo ⟨qZ (fun j hj=>?_),qQ⟩ ⟨pP,rfl,rfl,qQ⟩ trivial⟩,fun i hi=>?_⟩
  ·have hj:j < 2:=hj
   match j,hj with
   |0,_=>rfl
   |1,_=>rfl
   |j+2,h=>omega
  ·obtain⟨h2,ha,hb⟩:i≤2∧(0 < i→canonB p.x.v=true)∧(1 < i→canonB p.y.v=true):=hi
   with_unfolding_all refine⟨fun h=>?_,fun h=>⟨[],stOf [(2,.val (.int .i64 (okW (canonP p))))] [] 0 [],Wo trivial ⟨r3 (ha (by have:=ltF h;omega)) (hb (by have:=ltF h;omega)),qQ⟩ trivial,rfl,rfl⟩⟩
   have h:=ltT h
   have e:(i:Int).toNat=i:=Int.toNat_natCast i
   have hk:(bif Nat.beq (0+(i:Int).toNat) 0 then p.x else p.y).le 4294967296:=by
    cases Nat.beq (0+(i:Int).toNat) 0
    ·exact hy
    ·exact hx
   with_unfolding_all refine⟨⟨by omega,by omega⟩,RatS.k hk,fun h'=>⟨[],stOf [(2,.val (.int .i64 (okW (canonP p))))] [] 0 [],Wo trivial ⟨?_,qQ⟩ trivial,rfl,rfl⟩,fun h'=>⟨i+1,[some 0],⟨by omega,?_,?_⟩,by show 2 - (i+1) < 2 - i;omega,Wo ⟨qZ (fun _ _=>rfl),qQ⟩ ⟨pP,rfl,?_,qQ⟩ trivial⟩⟩
   ·have h':canonB (bif Nat.beq (0+(i:Int).toNat) 0 then p.x else p.y).v=false:=hno _ h'
    rw [e,Nat.zero_add] at h'
    match i,h2,h with
    |0,_,_=>exact r1 h'
    |1,_,_=>exact r2 h'
    |i+2,_,h=>omega
   ·intro _
    have h':canonB (bif Nat.beq (0+(i:Int).toNat) 0 then p.x else p.y).v=true:=hyes _ h'
    rw [e,Nat.zero_add] at h'
    match i,h2,h,ha with
    |0,_,_,_=>exact h'
    |1,_,_,ha=>exact ha (by decide)
    |i+2,_,h,_=>omega
   ·intro hi1
    have h':canonB (bif Nat.beq (0+(i:Int).toNat) 0 then p.x else p.y).v=true:=hyes _ h'
    rw [e,Nat.zero_add] at h'
    match i,h2,h,hi1 with
    |0,_,_,hi1=>omega
    |1,_,_,_=>exact h'
    |i+2,_,h,_=>omega
   ·show PV.val (.int .i64 (IntKind.i64.wrap ((i:Int)+1)))=PV.val (.int .i64 ((i+1:Nat):Int))
    rw [wrap64 (by omega) (by omega)]
    rfl
 ·cases e
end Go.Proofs
namespace Go.Num
open Go Go.Ex
def pts (g:Nat→List PV) (i:Nat):PtS:=rdP (g i)
def isPL (k n:Nat) (g:Nat→List PV):Prop:=(∀i,i < n→g i=(pts g i).cells∧(pts g i).le k)∧n≤140737488355328
def ixP (p:Nat→Bool):Nat→Nat→Int
 |0,_ => -1
 |k+1,i=>bif p i then(i:Int) else ixP p k (i+1)
def anyP (p:Nat→Bool) (n:Nat):Bool:=(List.range n).any p
theorem anyP_true {p:Nat→Bool} {n:Nat}:anyP p n=true↔∃i,i < n∧p i=true:=by
 simp [anyP]
theorem anyP_false {p:Nat→Bool} {n:Nat}:anyP p n=false↔∀i,i < n→p i=false:=by
 simp [anyP]
theorem ixP_ge {p:Nat→Bool}:∀(k i:Nat),(∀j,i≤j→j < i+k→p j=false)∧ixP p k i = -1∨∃j,i≤j∧j < i+k∧p j=true∧(∀l,i≤l→l < j→p l=false)∧ixP p k i=j
 |0,i=>.inl ⟨fun j h1 h2=>by omega,rfl⟩
 |k+1,i=>by
  unfold ixP
  cases h:p i with
  |true=>exact .inr ⟨i,Nat.le_refl _,by omega,h,fun l h1 h2=>by omega,rfl⟩
  |false =>
   rcases ixP_ge (p:=p) k (i+1) with ⟨h1,h2⟩|⟨j,h1,h2,h3,h4,h5⟩
   ·refine .inl ⟨fun j h3 h4=>?_,h2⟩
    rcases Nat.eq_or_lt_of_le h3 with h5|h5
    ·rw [←h5];exact h
    ·exact h1 j h5 (by omega)
   ·refine .inr ⟨j,by omega,by omega,h3,fun l h6 h7=>?_,h5⟩
    rcases Nat.eq_or_lt_of_le h6 with h8|h8
    ·rw [←h8];exact h
    ·exact h4 l h8 h7
theorem ixP_any (p:Nat→Bool) (n:Nat):decide (ixP p n 0≥0)=anyP p n:=by
 rcases ixP_ge (p:=p) n 0 with ⟨h1,h2⟩|⟨j,h1,h2,h3,_,h5⟩
 ·rw [h2,(anyP_false (p:=p) (n:=n)).2 fun i hi=>h1 i (Nat.zero_le _) (by omega)]
  rfl
 ·rw [h5,(anyP_true (p:=p) (n:=n)).2 ⟨j,by omega,h3⟩]
  exact decide_eq_true (by omega)
end Go.Num
namespace Go.Proofs
open Go Go.Ex Go.Num
set_option maxRecDepth 100000
theorem ok83:funcOk {} Tryz.f83 2=true:=by kernel_rfl
theorem ok65:funcOk {} Tryz.f65 2=true:=by kernel_rfl
theorem okW_bad (b:Bool):((bif b then(0:Int) else 1) != 0) = !b:=by cases b<;>rfl
def c101:List PV→Option Ans
 |[.val v]=>some ⟨some (isPk 4294967296 v),.val (.bool (!canonP (rdV v))),[]⟩
 |_=>none
theorem ok101:funcOk {} Tryz.f101 1=true:=by kernel_rfl
theorem f101:FnOk Tryz.prog 101 c101:=by
 refine FnOk.ofW orders (mkE_ok (l:=[(67,c67)]) (own:=[]) (inl:=[]) (by simp [f67]) (by simp)) Tryz.func101 {} 1 ok101 fun args r e=>?_
 unfold c101 at e
 split at e
 ·rename_i v
  cases e
  refine⟨by simp,fun hm=>?_⟩
  obtain⟨p,rfl,hp⟩:=hm _ rfl
  refine⟨[],stOf [(0,.val p.v)] [] 0 [],Wo trivial ⟨rfl,qQ⟩ trivial,?_⟩
  with_unfolding_all exact⟨⟨p,rfl,hp⟩,[],stOf [(2,.val (.bool (!canonP p)))] [] 0 [],Wo trivial ⟨congrArg (fun z=>PV.val (.bool z)) (okW_bad _),qQ⟩ trivial,rfl,rfl⟩
 ·cases e
def c83_101:List PV→Option Ans
 |[.rs 6 n g,.val (.func (.func 101) ⟨[]⟩ ⟨[]⟩)]=>some ⟨some (isPL 4294967296 n g),.val (.int .i64 (ixP (fun i=>!canonP (pts g i)) n 0)),[]⟩
 |_=>none
theorem f83_101:FnOk Tryz.prog 83 c83_101:=by
 refine FnOk.ofW orders (mkE_ok (l:=[(101,c101)]) (own:=[]) (inl:=[]) (by simp [f101]) (by simp)) Tryz.func83 {} 2 ok83 fun args r e=>?_
 unfold c83_101 at e
 split at e
 ·rename_i n g
  cases e
  refine⟨by simp,fun hm=>?_⟩
  obtain⟨hg,hn⟩:=hm _ rfl
  refine⟨[],stOf [(0,.rs 6 n (fun i=>(pts g i).cells)),(1,.val (.func (.func 101) ⟨[]⟩ ⟨[]⟩))] [] 0 [],Wo trivial ⟨⟨rfl,rfl,fun i hi=>(hg i hi).1.symm⟩,rfl,qQ⟩ trivial,?_⟩
  obtain⟨X,hX⟩:∃X,X=ixP (fun i=>!canonP (pts g i)) n 0:=⟨_,rfl⟩
  rw [←hX]
  with_unfolding_all refine⟨Nat,fun i=>i≤n∧ixP (fun i=>!canonP (pts g i)) (n - i) i=X,fun i=>stOf [(0,.rs 6 n (fun i=>(pts g i).cells)),(1,.val (.func (.func 101) ⟨[]⟩ ⟨[]⟩)),(7,.val (goInt n)),(8,.val (goInt i))] [] 0 [],fun i=>n - i,⟨0,[],⟨Nat.zero_le _,hX.symm⟩,Wo trivial ⟨qW,rfl,rfl,rfl,qQ⟩ trivial⟩,fun i hi=>?_⟩
  obtain⟨hin,hI⟩:i≤n∧ixP (fun i=>!canonP (pts g i)) (n - i) i=X:=hi
  with_unfolding_all refine⟨fun h=>?_,fun h=>⟨[],stOf [(4,.val (.int .i64 X))] [] 0 [],Wo trivial ⟨?_,qQ⟩ trivial,rfl,rfl⟩⟩
  ·have h:=ltT h
   have e:(i:Int).toNat=i:=Int.toNat_natCast i
   have hstep:ixP (fun i=>!canonP (pts g i)) (n - i) i=bif !canonP (pts g i) then(i:Int) else ixP (fun i=>!canonP (pts g i)) (n - (i+1)) (i+1):=by
    rw [show n - i=(n - (i+1))+1 by omega]
    rfl
   with_unfolding_all refine⟨⟨by omega,by omega⟩,⟨pts g (i:Int).toNat,rfl,by rw [e];exact(hg i (by omega)).2⟩,fun h'=>⟨[],stOf [(4,.val (.int .i64 X))] [] 0 [],Wo trivial ⟨?_,qQ⟩ trivial,rfl,rfl⟩,fun h'=>⟨i+1,[],⟨by omega,?_⟩,by show n - (i+1) < n - i;omega,Wo trivial ⟨qW,rfl,rfl,?_,qQ⟩ trivial⟩⟩
   ·have h':(!canonP (pts g (i:Int).toNat))=true:=h'
    rw [e] at h'
    rw [h',cond_true] at hstep
    exact congrArg (fun z=>PV.val (.int .i64 z)) (hstep.symm.trans hI)
   ·have h':(!canonP (pts g (i:Int).toNat))=false:=h'
    rw [e] at h'
    rw [h',cond_false] at hstep
    exact hstep.symm.trans hI
   ·show PV.val (.int .i64 (IntKind.i64.wrap ((i:Int)+1)))=PV.val (.int .i64 ((i+1:Nat):Int))
    rw [wrap64 (by omega) (by omega)]
    rfl
  ·have h:=ltF h
   rw [show n - i=0 by omega] at hI
   exact congrArg (fun z=>PV.val (.int .i64 z)) hI
 ·cases e
def c65_101:List PV→Option Ans
 |[.rs 6 n g,.val (.func (.func 101) ⟨[]⟩ ⟨[]⟩)]=>some ⟨some (isPL 4294967296 n g),.val (.bool (anyP (fun i=>!canonP (pts g i)) n)),[]⟩
 |_=>none
theorem f65_101:FnOk Tryz.prog 65 c65_101:=by
 refine FnOk.ofW orders (mkE_ok (l:=[(83,c83_101)]) (own:=[]) (inl:=[]) (by simp [f83_101]) (by simp)) Tryz.func65 {} 2 ok65 fun args r e=>?_
 unfold c65_101 at e
 split at e
 ·rename_i n g
  cases e
  refine⟨by simp,fun hm=>?_⟩
  have hp:=hm _ rfl
  refine⟨[],stOf [(0,.rs 6 n g),(1,.val (.func (.func 101) ⟨[]⟩ ⟨[]⟩))] [] 0 [],Wo trivial ⟨⟨rfl,rfl,fun i hi=>rfl⟩,rfl,qQ⟩ trivial,?_⟩
  with_unfolding_all exact⟨hp,[],stOf [(4,.val (.bool (anyP (fun i=>!canonP (pts g i)) n)))] [] 0 [],Wo trivial ⟨congrArg (fun z=>PV.val (.bool z)) (ixP_any _ _),qQ⟩ trivial,rfl,rfl⟩
 ·cases e
def c90:List PV→Option Ans
 |[.val v]=>some ⟨some (isPk 4294967296 v),.val (.bool (!canonP (rdV v))),[]⟩
 |_=>none
theorem ok90:funcOk {} Tryz.f90 1=true:=by kernel_rfl
theorem f90:FnOk Tryz.prog 90 c90:=by
 refine FnOk.ofW orders (mkE_ok (l:=[(67,c67)]) (own:=[]) (inl:=[]) (by simp [f67]) (by simp)) Tryz.func90 {} 1 ok90 fun args r e=>?_
 unfold c90 at e
 split at e
 ·rename_i v
  cases e
  refine⟨by simp,fun hm=>?_⟩
  obtain⟨p,rfl,hp⟩:=hm _ rfl
  refine⟨[],stOf [(0,.val p.v)] [] 0 [],Wo trivial ⟨rfl,qQ⟩ trivial,?_⟩
  with_unfolding_all exact⟨⟨p,rfl,hp⟩,[],stOf [(2,.val (.bool (!canonP p)))] [] 0 [],Wo trivial ⟨congrArg (fun z=>PV.val (.bool z)) (okW_bad _),qQ⟩ trivial,rfl,rfl⟩
 ·cases e
def c83_90:List PV→Option Ans
 |[.rs 6 n g,.val (.func (.func 90) ⟨[]⟩ ⟨[]⟩)]=>some ⟨some (isPL 4294967296 n g),.val (.int .i64 (ixP (fun i=>!canonP (pts g i)) n 0)),[]⟩
 |_=>none
theorem f83_90:FnOk Tryz.prog 83 c83_90:=by
 refine FnOk.ofW orders (mkE_ok (l:=[(90,c90)]) (own:=[]) (inl:=[]) (by simp [f90]) (by simp)) Tryz.func83 {} 2 ok83 fun args r e=>?_
 unfold c83_90 at e
 split at e
 ·rename_i n g
  cases e
  refine⟨by simp,fun hm=>?_⟩
  obtain⟨hg,hn⟩:=hm _ rfl
  refine⟨[],stOf [(0,.rs 6 n (fun i=>(pts g i).cells)),(1,.val (.func (.func 90) ⟨[]⟩ ⟨[]⟩))] [] 0 [],Wo trivial ⟨⟨rfl,rfl,fun i hi=>(hg i hi).1.symm⟩,rfl,qQ⟩ trivial,?_⟩
  obtain⟨X,hX⟩:∃X,X=ixP (fun i=>!canonP (pts g i)) n 0:=⟨_,rfl⟩
  rw [←hX]
  with_unfolding_all refine⟨Nat,fun i=>i≤n∧ixP (fun i=>!canonP (pts g i)) (n - i) i=X,fun i=>stOf [(0,.rs 6 n (fun i=>(pts g i).cells)),(1,.val (.func (.func 90) ⟨[]⟩ ⟨[]⟩)),(7,.val (goInt n)),(8,.val (goInt i))] [] 0 [],fun i=>n - i,⟨0,[],⟨Nat.zero_le _,hX.symm⟩,Wo trivial ⟨qW,rfl,rfl,rfl,qQ⟩ trivial⟩,fun i hi=>?_⟩
  obtain⟨hin,hI⟩:i≤n∧ixP (fun i=>!canonP (pts g i)) (n - i) i=X:=hi
  with_unfolding_all refine⟨fun h=>?_,fun h=>⟨[],stOf [(4,.val (.int .i64 X))] [] 0 [],Wo trivial ⟨?_,qQ⟩ trivial,rfl,rfl⟩⟩
  ·have h:=ltT h
   have e:(i:Int).toNat=i:=Int.toNat_natCast i
   have hstep:ixP (fun i=>!canonP (pts g i)) (n - i) i=bif !canonP (pts g i) then(i:Int) else ixP (fun i=>!canonP (pts g i)) (n - (i+1)) (i+1):=by
    rw [show n - i=(n - (i+1))+1 by omega]
    rfl
   with_unfolding_all refine⟨⟨by omega,by omega⟩,⟨pts g (i:Int).toNat,rfl,by rw [e];exact(hg i (by omega)).2⟩,fun h'=>⟨[],stOf [(4,.val (.int .i64 X))] [] 0 [],Wo trivial ⟨?_,qQ⟩ trivial,rfl,rfl⟩,fun h'=>⟨i+1,[],⟨by omega,?_⟩,by show n - (i+1) < n - i;omega,Wo trivial ⟨qW,rfl,rfl,?_,qQ⟩ trivial⟩⟩
   ·have h':(!canonP (pts g (i:Int).toNat))=true:=h'
    rw [e] at h'
    rw [h',cond_true] at hstep
    exact congrArg (fun z=>PV.val (.int .i64 z)) (hstep.symm.trans hI)
   ·have h':(!canonP (pts g (i:Int).toNat))=false:=h'
    rw [e] at h'
    rw [h',cond_false] at hstep
    exact hstep.symm.trans hI
   ·show PV.val (.int .i64 (IntKind.i64.wrap ((i:Int)+1)))=PV.val (.int .i64 ((i+1:Nat):Int))
    rw [wrap64 (by omega) (by omega)]
    rfl
  ·have h:=ltF h
   rw [show n - i=0 by omega] at hI
   exact congrArg (fun z=>PV.val (.int .i64 z)) hI
 ·cases e
def c65_90:List PV→Option Ans
 |[.rs 6 n g,.val (.func (.func 90) ⟨[]⟩ ⟨[]⟩)]=>some ⟨some (isPL 4294967296 n g),.val (.bool (anyP (fun i=>!canonP (pts g i)) n)),[]⟩
 |_=>none
theorem f65_90:FnOk Tryz.prog 65 c65_90:=by
 refine FnOk.ofW orders (mkE_ok (l:=[(83,c83_90)]) (own:=[]) (inl:=[]) (by simp [f83_90]) (by simp)) Tryz.func65 {} 2 ok65 fun args r e=>?_
 unfold c65_90 at e
 split at e
 ·rename_i n g
  cases e
  refine⟨by simp,fun hm=>?_⟩
  have hp:=hm _ rfl
  refine⟨[],stOf [(0,.rs 6 n g),(1,.val (.func (.func 90) ⟨[]⟩ ⟨[]⟩))] [] 0 [],Wo trivial ⟨⟨rfl,rfl,fun i hi=>rfl⟩,rfl,qQ⟩ trivial,?_⟩
  with_unfolding_all exact⟨hp,[],stOf [(4,.val (.bool (anyP (fun i=>!canonP (pts g i)) n)))] [] 0 [],Wo trivial ⟨congrArg (fun z=>PV.val (.bool z)) (ixP_any _ _),qQ⟩ trivial,rfl,rfl⟩
 ·cases e
def c206:List PV→Option Ans
 |[.val v]=>some ⟨some (isPk 4294967296 v),.val (.bool (!canonP (rdV v))),[]⟩
 |_=>none
theorem ok206:funcOk {} Tryz.f206 1=true:=by kernel_rfl
theorem f206:FnOk Tryz.prog 206 c206:=by
 refine FnOk.ofW orders (mkE_ok (l:=[(67,c67)]) (own:=[]) (inl:=[]) (by simp [f67]) (by simp)) Tryz.func206 {} 1 ok206 fun args r e=>?_
 unfold c206 at e
 split at e
 ·rename_i v
  cases e
  refine⟨by simp,fun hm=>?_⟩
  obtain⟨p,rfl,hp⟩:=hm _ rfl
  refine⟨[],stOf [(0,.val p.v)] [] 0 [],Wo trivial ⟨rfl,qQ⟩ trivial,?_⟩
  with_unfolding_all exact⟨⟨p,rfl,hp⟩,[],stOf [(2,.val (.bool (!canonP p)))] [] 0 [],Wo trivial ⟨congrArg (fun z=>PV.val (.bool z)) (okW_bad _),qQ⟩ trivial,rfl,rfl⟩
 ·cases e
def c83_206:List PV→Option Ans
 |[.rs 6 n g,.val (.func (.func 206) ⟨[]⟩ ⟨[]⟩)]=>some ⟨some (isPL 4294967296 n g),.val (.int .i64 (ixP (fun i=>!canonP (pts g i)) n 0)),[]⟩
 |_=>none
theorem f83_206:FnOk Tryz.prog 83 c83_206:=by
 refine FnOk.ofW orders (mkE_ok (l:=[(206,c206)]) (own:=[]) (inl:=[]) (by simp [f206]) (by simp)) Tryz.func83 {} 2 ok83 fun args r e=>?_
 unfold c83_206 at e
 split at e
 ·rename_i n g
  cases e
  refine⟨by simp,fun hm=>?_⟩
  obtain⟨hg,hn⟩:=hm _ rfl
  refine⟨[],stOf [(0,.rs 6 n (fun i=>(pts g i).cells)),(1,.val (.func (.func 206) ⟨[]⟩ ⟨[]⟩))] [] 0 [],Wo trivial ⟨⟨rfl,rfl,fun i hi=>(hg i hi).1.symm⟩,rfl,qQ⟩ trivial,?_⟩
  obtain⟨X,hX⟩:∃X,X=ixP (fun i=>!canonP (pts g i)) n 0:=⟨_,rfl⟩
  rw [←hX]
  with_unfolding_all refine⟨Nat,fun i=>i≤n∧ixP (fun i=>!canonP (pts g i)) (n - i) i=X,fun i=>stOf [(0,.rs 6 n (fun i=>(pts g i).cells)),(1,.val (.func (.func 206) ⟨[]⟩ ⟨[]⟩)),(7,.val (goInt n)),(8,.val (goInt i))] [] 0 [],fun i=>n - i,⟨0,[],⟨Nat.zero_le _,hX.symm⟩,Wo trivial ⟨qW,rfl,rfl,rfl,qQ⟩ trivial⟩,fun i hi=>?_⟩
  obtain⟨hin,hI⟩:i≤n∧ixP (fun i=>!canonP (pts g i)) (n - i) i=X:=hi
  with_unfolding_all refine⟨fun h=>?_,fun h=>⟨[],stOf [(4,.val (.int .i64 X))] [] 0 [],Wo trivial ⟨?_,qQ⟩ trivial,rfl,rfl⟩⟩
  ·have h:=ltT h
   have e:(i:Int).toNat=i:=Int.toNat_natCast i
   have hstep:ixP (fun i=>!canonP (pts g i)) (n - i) i=bif !canonP (pts g i) then(i:Int) else ixP (fun i=>!canonP (pts g i)) (n - (i+1)) (i+1):=by
    rw [show n - i=(n - (i+1))+1 by omega]
    rfl
   with_unfolding_all refine⟨⟨by omega,by omega⟩,⟨pts g (i:Int).toNat,rfl,by rw [e];exact(hg i (by omega)).2⟩,fun h'=>⟨[],stOf [(4,.val (.int .i64 X))] [] 0 [],Wo trivial ⟨?_,qQ⟩ trivial,rfl,rfl⟩,fun h'=>⟨i+1,[],⟨by omega,?_⟩,by show n - (i+1) < n - i;omega,Wo trivial ⟨qW,rfl,rfl,?_,qQ⟩ trivial⟩⟩
   ·have h':(!canonP (pts g (i:Int).toNat))=true:=h'
    rw [e] at h'
    rw [h',cond_true] at hstep
    exact congrArg (fun z=>PV.val (.int .i64 z)) (hstep.symm.trans hI)
   ·have h':(!canonP (pts g (i:Int).toNat))=false:=h'
    rw [e] at h'
    rw [h',cond_false] at hstep
    exact hstep.symm.trans hI
   ·show PV.val (.int .i64 (IntKind.i64.wrap ((i:Int)+1)))=PV.val (.int .i64 ((i+1:Nat):Int))
    rw [wrap64 (by omega) (by omega)]
    rfl
  ·have h:=ltF h
   rw [show n - i=0 by omega] at hI
   exact congrArg (fun z=>PV.val (.int .i64 z)) hI
 ·cases e
def c65_206:List PV→Option Ans
 |[.rs 6 n g,.val (.func (.func 206) ⟨[]⟩ ⟨[]⟩)]=>some ⟨some (isPL 4294967296 n g),.val (.bool (anyP (fun i=>!canonP (pts g i)) n)),[]⟩
 |_=>none
theorem f65_206:FnOk Tryz.prog 65 c65_206:=by
 refine FnOk.ofW orders (mkE_ok (l:=[(83,c83_206)]) (own:=[]) (inl:=[]) (by simp [f83_206]) (by simp)) Tryz.func65 {} 2 ok65 fun args r e=>?_
 unfold c65_206 at e
 split at e
 ·rename_i n g
  cases e
  refine⟨by simp,fun hm=>?_⟩
  have hp:=hm _ rfl
  refine⟨[],stOf [(0,.rs 6 n g),(1,.val (.func (.func 206) ⟨[]⟩ ⟨[]⟩))] [] 0 [],Wo trivial ⟨⟨rfl,rfl,fun i hi=>rfl⟩,rfl,qQ⟩ trivial,?_⟩
  with_unfolding_all exact⟨hp,[],stOf [(4,.val (.bool (anyP (fun i=>!canonP (pts g i)) n)))] [] 0 [],Wo trivial ⟨congrArg (fun z=>PV.val (.bool z)) (ixP_any _ _),qQ⟩ trivial,rfl,rfl⟩
 ·cases e
end Go.Proofs
namespace Go.Num
open Go Go.Ex
def rdQ:List PV→Int×Int
 |[.val (.int .i64 a),.val (.int .i64 b)]=>(a,b)
 |_=>(0,0)
def cellsQ (q:Int×Int):List PV:=[.val (.int .i64 q.1),.val (.int .i64 q.2)]
def prs (h:Nat→List PV) (i:Nat):Int×Int:=rdQ (h i)
def isQL (m:Nat) (h:Nat→List PV):Prop:=(∀i,i < m→h i=cellsQ (prs h i))∧m≤140737488355328
def bigR (r:RatS):Bool:=decide (12 < r.b.size)||decide (12 < r.c.size)
def bigP (p:PtS):Bool:=bigR p.x||bigR p.y
def lessQ (x y:Int×Int):Bool:=decide (x.1 < y.1)||decide (x.1=y.1)&&decide (x.2 < y.2)
def badL (n:Nat) (q:Nat→Int×Int) (i:Nat):Bool:=decide ((q i).1 < 0)||decide ((q i).2≤(q i).1)||decide ((n:Int)≤(q i).2)||decide (0 < i)&&!lessQ (q (i - 1)) (q i)
end Go.Num
namespace Go.Proofs
open Go Go.Ex Go.Num
set_option maxRecDepth 100000
def okLinks (n:Nat) (q:Nat→Int×Int) (m:Nat):Bool:=!anyP (badL n q) m
def okMap (n:Nat) (p:Nat→PtS) (m:Nat) (q:Nat→Int×Int):Bool:=decide (n≤1000)&&!anyP (fun i=>!canonP (p i)) n&&okLinks n q m
def c51:List PV→Option Ans
 |[.rs 6 n g]=>some ⟨some (isPL 140737488355328 n g),.val (.bool (anyP (fun i=>bigP (pts g i)) n)),[]⟩
 |_=>none
theorem ok51:funcOk {} Tryz.f51 1=true:=by kernel_rfl
theorem f51:FnOk Tryz.prog 51 c51:=by
 refine FnOk.ofW orders (mkE_ok (l:=[]) (own:=[]) (inl:=[]) (by simp) (by simp)) Tryz.func51 {} 1 ok51 fun args r e=>?_
 unfold c51 at e
 split at e
 ·rename_i n g
  cases e
  refine⟨by simp,fun hm=>?_⟩
  obtain⟨hg,hn⟩:=hm _ rfl
  refine⟨[],stOf [(0,.rs 6 n (fun i=>(pts g i).cells))] [] 0 [],Wo trivial ⟨⟨rfl,rfl,fun i hi=>(hg i hi).1.symm⟩,qQ⟩ trivial,?_⟩
  with_unfolding_all refine⟨Nat,fun i=>i≤n∧∀j,j < i→bigP (pts g j)=false,fun i=>stOf [(0,.rs 6 n (fun i=>(pts g i).cells)),(3,.val (goInt i))] [] 0 [],fun i=>n - i,⟨0,[],⟨Nat.zero_le _,fun j hj=>by omega⟩,Wo trivial ⟨qW,rfl,qQ⟩ trivial⟩,fun i hi=>?_⟩
  obtain⟨hin,hI⟩:i≤n∧∀j,j < i→bigP (pts g j)=false:=hi
  have rTxb:(i:Int) < n→decide ((((pts g (i:Int).toNat).x.b.size:Nat):Int) > 12)=true→PV.val (.bool true)=PV.val (.bool (anyP (fun i=>bigP (pts g i)) n)):=fun hi h=>by
   have h:(((pts g i).x.b.size:Nat):Int) > 12:=of_decide_eq_true h
   have e:bigP (pts g i)=true:=by simp only [bigP,bigR,Bool.or_eq_true,decide_eq_true_eq];omega
   rw [anyP_true.2 ⟨i,by omega,e⟩]
  have rTxc:(i:Int) < n→decide ((((pts g (i:Int).toNat).x.c.size:Nat):Int) > 12)=true→PV.val (.bool true)=PV.val (.bool (anyP (fun i=>bigP (pts g i)) n)):=fun hi h=>by
   have h:(((pts g i).x.c.size:Nat):Int) > 12:=of_decide_eq_true h
   have e:bigP (pts g i)=true:=by simp only [bigP,bigR,Bool.or_eq_true,decide_eq_true_eq];omega
   rw [anyP_true.2 ⟨i,by omega,e⟩]
  have rTyb:(i:Int) < n→decide ((((pts g (i:Int).toNat).y.b.size:Nat):Int) > 12)=true→PV.val (.bool true)=PV.val (.bool (anyP (fun i=>bigP (pts g i)) n)):=fun hi h=>by
   have h:(((pts g i).y.b.size:Nat):Int) > 12:=of_decide_eq_true h
   have e:bigP (pts g i)=true:=by simp only [bigP,bigR,Bool.or_eq_true,decide_eq_true_eq];omega
   rw [anyP_true.2 ⟨i,by omega,e⟩]
  have rTyc:(i:Int) < n→decide ((((pts g (i:Int).toNat).y.c.size:Nat):Int) > 12)=true→PV.val (.bool true)=PV.val (.bool (anyP (fun i=>bigP (pts g i)) n)):=fun hi h=>by
   have h:(((pts g i).y.c.size:Nat):Int) > 12:=of_decide_eq_true h
   have e:bigP (pts g i)=true:=by simp only [bigP,bigR,Bool.or_eq_true,decide_eq_true_eq];omega
   rw [anyP_true.2 ⟨i,by omega,e⟩]
  have nx:(i:Int) < n→decide ((((pts g (i:Int).toNat).x.b.size:Nat):Int) > 12)=false→decide ((((pts g (i:Int).toNat).x.c.size:Nat):Int) > 12)=false→decide ((((pts g (i:Int).toNat).y.b.size:Nat):Int) > 12)=false→decide ((((pts g (i:Int).toNat).y.c.size:Nat):Int) > 12)=false→∀j,j < i+1→bigP (pts g j)=false:=fun hi h1 h2 h3 h4 j hj=>by
   have h1:¬(((pts g i).x.b.size:Nat):Int) > 12:=of_decide_eq_false h1
   have h2:¬(((pts g i).x.c.size:Nat):Int) > 12:=of_decide_eq_false h2
   have h3:¬(((pts g i).y.b.size:Nat):Int) > 12:=of_decide_eq_false h3
   have h4:¬(((pts g i).y.c.size:Nat):Int) > 12:=of_decide_eq_false h4
   rcases Nat.lt_or_ge j i with h|h
   ·exact hI j h
   ·obtain rfl:j=i:=by omega
    simp only [bigP,bigR,Bool.or_eq_false_iff,decide_eq_false_iff_not]
    omega
  have rF:(n:Int)≤i→PV.val (.bool false)=PV.val (.bool (anyP (fun i=>bigP (pts g i)) n)):=fun h=>by
   rw [anyP_false.2 fun j hj=>hI j (by omega)]
  have wi:(i:Int) < n→PV.val (.int .i64 (IntKind.i64.wrap ((i:Int)+1)))=PV.val (.int .i64 ((i+1:Nat):Int)):=fun h=>by
   rw [wrap64 (by omega) (by omega)]
   rfl
  with_unfolding_all exact⟨(fun h1=>⟨⟨Int.natCast_nonneg i,(ltT h1)⟩,(fun h2=>⟨⟨Int.natCast_nonneg i,(ltT h1)⟩,(fun h3=>⟨⟨Int.natCast_nonneg i,(ltT h1)⟩,(fun h4=>⟨⟨Int.natCast_nonneg i,(ltT h1)⟩,(fun h5=>⟨[],stOf [(2,.val (.bool (anyP (fun i=>bigP (pts g i)) n)))] [] 0 [],Wo trivial ⟨rTyc (ltT h1) h5,qQ⟩ trivial,rfl,rfl⟩),(fun h5=>⟨i+1,[],⟨Int.ofNat_lt.1 (ltT h1),nx (ltT h1) h2 h3 h4 h5⟩,by have:=ltT h1;show n - (i+1) < n - i;omega,Wo trivial ⟨qW,wi (ltT h1),qQ⟩ trivial⟩)⟩),(fun h4=>⟨(fun h5=>⟨[],stOf [(2,.val (.bool (anyP (fun i=>bigP (pts g i)) n)))] [] 0 [],Wo trivial ⟨rTyb (ltT h1) h4,qQ⟩ trivial,rfl,rfl⟩),(fun h5=>nomatch h5)⟩)⟩),(fun h3=>⟨(fun h4=>nomatch h4),(fun h4=>⟨(fun h5=>⟨[],stOf [(2,.val (.bool (anyP (fun i=>bigP (pts g i)) n)))] [] 0 [],Wo trivial ⟨rTxc (ltT h1) h3,qQ⟩ trivial,rfl,rfl⟩),(fun h5=>nomatch h5)⟩)⟩)⟩),(fun h2=>⟨(fun h3=>nomatch h3),(fun h3=>⟨(fun h4=>nomatch h4),(fun h4=>⟨(fun h5=>⟨[],stOf [(2,.val (.bool (anyP (fun i=>bigP (pts g i)) n)))] [] 0 [],Wo trivial ⟨rTxb (ltT h1) h2,qQ⟩ trivial,rfl,rfl⟩),(fun h5=>nomatch h5)⟩)⟩)⟩)⟩),(fun h1=>⟨[],stOf [(2,.val (.bool (anyP (fun i=>bigP (pts g i)) n)))] [] 0 [],Wo trivial ⟨rF (ltF h1),qQ⟩ trivial,rfl,rfl⟩)⟩
 ·cases e
end Go.Proofs
namespace Go.Proofs
open Go Go.Ex Go.Num
set_option maxRecDepth 100000
def c102:List PV→Option Ans
 |[.val (.agg ⟨[.int .i64 a,.int .i64 b]⟩),.val (.agg ⟨[.int .i64 c,.int .i64 d]⟩)]=>some ⟨none,.val (.bool (lessQ (a,b) (c,d))),[]⟩
 |_=>none
theorem ok102:funcOk {} Tryz.f102 2=true:=by kernel_rfl
theorem f102:FnOk Tryz.prog 102 c102:=by
 refine FnOk.ofW orders (mkE_ok (l:=[]) (own:=[]) (inl:=[]) (by simp) (by simp)) Tryz.func102 {} 2 ok102 fun args r e=>?_
 unfold c102 at e
 split at e
 ·rename_i a b c d
  cases e
  refine⟨by simp,fun hm=>?_⟩
  refine⟨[],stOf [(0,.val (.agg ⟨[.int .i64 a,.int .i64 b]⟩)),(1,.val (.agg ⟨[.int .i64 c,.int .i64 d]⟩))] [] 0 [],Wo trivial ⟨rfl,rfl,qQ⟩ trivial,?_⟩
  have k1:decide (a < c)=false→(a==c)=true→PV.val (.bool (decide (b < d)))=PV.val (.bool (lessQ (a,b) (c,d))):=fun h1 h2=>by
   have h2:a=c:=eq_of_beq h2
   show _=PV.val (.bool (decide (a < c)||decide (a=c)&&decide (b < d)))
   rw [h1,decide_eq_true h2,Bool.false_or,Bool.true_and]
  have k2:decide (a < c)=false→(a==c) = !true→PV.val (.bool false)=PV.val (.bool (lessQ (a,b) (c,d))):=fun h1 h2=>by
   have h2:¬a=c:=fun e=>by rw [e,beq_self_eq_true] at h2;cases h2
   show _=PV.val (.bool (decide (a < c)||decide (a=c)&&decide (b < d)))
   rw [h1,decide_eq_false h2,Bool.false_or,Bool.false_and]
  have k3:decide (a < c) = !false→PV.val (.bool true)=PV.val (.bool (lessQ (a,b) (c,d))):=fun h1=>by
   show _=PV.val (.bool (decide (a < c)||decide (a=c)&&decide (b < d)))
   rw [h1]
   rfl
  with_unfolding_all exact⟨fun h1=>⟨fun h2=>⟨[],stOf [(4,.val (.bool (lessQ (a,b) (c,d))))] [] 0 [],Wo trivial ⟨k1 h1 h2,qQ⟩ trivial,rfl,rfl⟩,fun h2=>⟨[],stOf [(4,.val (.bool (lessQ (a,b) (c,d))))] [] 0 [],Wo trivial ⟨k2 h1 h2,qQ⟩ trivial,rfl,rfl⟩⟩,fun h1=>⟨[],stOf [(4,.val (.bool (lessQ (a,b) (c,d))))] [] 0 [],Wo trivial ⟨k3 h1,qQ⟩ trivial,rfl,rfl⟩⟩
 ·cases e
end Go.Proofs
namespace Go.Proofs
open Go Go.Ex Go.Num
set_option maxRecDepth 100000
def c68:List PV→Option Ans
 |[.agg [.rs 6 n g,.rs 2 m h]]=>some ⟨some (isPL 4294967296 n g∧isQL m h),.val (.bool (okMap n (pts g) m (prs h))),[]⟩
 |_=>none
def D68:Opt:={ join:=joinAt [1] }
theorem ok68:funcOk D68.toOrd Tryz.f68 1=true:=by kernel_rfl
theorem f68:FnOk Tryz.prog 68 c68:=by
 refine FnOk.ofW orders (mkE_ok (l:=[(65,c65_101),(102,c102)]) (own:=[]) (inl:=[]) (by simp [f65_101,f102]) (by simp)) Tryz.func68 D68 1 ok68 fun args r e=>?_
 unfold c68 at e
 split at e
 ·rename_i n g m h
  cases e
  refine⟨by simp,fun hm=>?_⟩
  obtain⟨hp,hq,hmm⟩:=hm _ rfl
  refine⟨[],stOf [(0,.agg [.rs 6 n g,.rs 2 m (fun i=>cellsQ (prs h i))])] [] 0 [],Wo trivial ⟨⟨⟨rfl,rfl,fun i hi=>rfl⟩,⟨rfl,rfl,fun i hi=>(hq i hi).symm⟩,qQ⟩,qQ⟩ trivial,?_⟩
  generalize prs h=q at *
  have vF1:decide ((n:Int) > 1000)=true→okMap n (pts g) m q=false:=fun h=>by
   have h:(n:Int) > 1000:=of_decide_eq_true h
   unfold okMap
   rw [decide_eq_false (by omega)]
   rfl
  have vF2:anyP (fun i=>!canonP (pts g i)) n=true→okMap n (pts g) m q=false:=fun h=>by
   unfold okMap
   rw [h,Bool.not_true,Bool.and_false,Bool.false_and]
  have vL:decide ((n:Int) > 1000)=false→anyP (fun i=>!canonP (pts g i)) n=false→okMap n (pts g) m q=okLinks n q m:=fun h h'=>by
   have h:¬(n:Int) > 1000:=of_decide_eq_false h
   unfold okMap
   rw [h',decide_eq_true (by omega)]
   rfl
  with_unfolding_all refine⟨Unit,fun _=>decide ((n:Int) > 1000)=false∧anyP (fun i=>!canonP (pts g i)) n=false,fun _=>stOf [(1,.ptr 0 0 0 0)] [⟨37,2,0,true,false,1,fun _=>[.rs 6 n g,.rs 2 m (fun i=>cellsQ (q i))]⟩] 1 [],⟨fun h1=>⟨hp,fun h2=>⟨[],stOf [(2,.val (.bool (okMap n (pts g) m q)))] [] 0 [],Wo trivial ⟨congrArg (fun z=>PV.val (.bool z)) (vF2 h2).symm,qQ⟩ trivial,rfl,rfl⟩,fun h2=>⟨(),[some 0],⟨?_,?_⟩,Wo ⟨qZ ⟨⟨qW,rfl⟩,⟨qW,rfl⟩,qQ⟩,qQ⟩ ⟨pP,qQ⟩ trivial⟩⟩,fun h1=>⟨fun h2=>⟨[],stOf [(2,.val (.bool (okMap n (pts g) m q)))] [] 0 [],Wo trivial ⟨congrArg (fun z=>PV.val (.bool z)) (vF1 h1).symm,qQ⟩ trivial,rfl,rfl⟩,fun h2=>(nomatch h2)⟩⟩,fun _ hI=>?_⟩
  ·exact h1
  ·exact h2
  ·obtain⟨hI1,hI2⟩:decide ((n:Int) > 1000)=false∧anyP (fun i=>!canonP (pts g i)) n=false:=hI
   rw [vL hI1 hI2]
   with_unfolding_all refine⟨Nat,fun i=>i≤m∧∀j,j < i→badL n q j=false,fun i=>stOf [(1,.ptr 0 0 0 0),(15,.rs 2 m (fun i=>cellsQ (q i))),(16,.val (goInt m)),(17,.val (goInt i))] [⟨37,2,0,true,false,1,fun _=>[.rs 6 n g,.rs 2 m (fun i=>cellsQ (q i))]⟩] 1 [],fun i=>m - i,⟨0,[some 0],⟨Nat.zero_le _,fun j hj=>by omega⟩,Wo ⟨qZ ⟨⟨qW,rfl⟩,⟨qW,rfl⟩,qQ⟩,qQ⟩ ⟨pP,qW,rfl,rfl,qQ⟩ trivial⟩,fun i hi=>?_⟩
   obtain⟨him,hB⟩:i≤m∧∀j,j < i→badL n q j=false:=hi
   have pb:decide ((i:Int) > 0)=true→(i:Int) < m→0≤IntKind.i64.wrap ((i:Int) - 1)∧IntKind.i64.wrap ((i:Int) - 1) < m:=fun h h'=>by
    have h:(i:Int) > 0:=of_decide_eq_true h
    rw [wrap64 (by omega) (by omega)]
    omega
   have wp:decide ((i:Int) > 0)=true→(i:Int) < m→(IntKind.i64.wrap ((i:Int) - 1)).toNat=i - 1:=fun h h'=>by
    have h:(i:Int) > 0:=of_decide_eq_true h
    rw [wrap64 (by omega) (by omega)]
    omega
   have eb:badL n q i=(decide ((q i).1 < 0)||decide ((q i).2≤(q i).1)||decide ((n:Int)≤(q i).2)||decide (0 < i)&&!lessQ (q (i - 1)) (q i)):=rfl
   have T1:decide ((q (i:Int).toNat).1 < 0) = !false→badL n q i=true:=fun h=>by
    have h:decide ((q i).1 < 0)=true:=h
    rw [eb,h,Bool.true_or,Bool.true_or,Bool.true_or]
   have T2:decide ((q (i:Int).toNat).1≥(q (i:Int).toNat).2) = !false→badL n q i=true:=fun h=>by
    have h:decide ((q i).2≤(q i).1)=true:=h
    rw [eb,h,Bool.or_true,Bool.true_or,Bool.true_or]
   have wi:(i:Int) < m→PV.val (.int .i64 (IntKind.i64.wrap ((i:Int)+1)))=PV.val (.int .i64 ((i+1:Nat):Int)):=fun h=>by
    rw [wrap64 (by omega) (by omega)]
    rfl
   have nx:(i:Int) < m→badL n q i=false→∀j,j < i+1→badL n q j=false:=fun h hb j hj=>by
    rcases Nat.lt_or_ge j i with h|h
    ·exact hB j h
    ·obtain rfl:j=i:=by omega
     exact hb
   have nA:decide ((q (i:Int).toNat).1 < 0)=false→decide ((q (i:Int).toNat).1≥(q (i:Int).toNat).2)=false→decide ((q (i:Int).toNat).2≥(n:Int))=false→(decide (0 < i)&&!lessQ (q (i - 1)) (q i))=false→badL n q i=false:=fun h1 h2 h3 h4=>by
    have h1:decide ((q i).1 < 0)=false:=h1
    have h2:decide ((q i).2≤(q i).1)=false:=h2
    have h3:decide ((n:Int)≤(q i).2)=false:=h3
    rw [eb,h1,h2,h3,h4]
    rfl
   have N1:decide ((q (i:Int).toNat).1 < 0)=false→decide ((q (i:Int).toNat).1≥(q (i:Int).toNat).2)=false→decide ((q (i:Int).toNat).2≥(n:Int))=false→decide ((i:Int) > 0) = !true→badL n q i=false:=fun h1 h2 h3 h4=>nA h1 h2 h3 (by
    have h4:¬(i:Int) > 0:=of_decide_eq_false h4
    rw [decide_eq_false (by omega),Bool.false_and])
   have T3:decide ((q (i:Int).toNat).2≥(n:Int)) = !false→badL n q i=true:=fun h=>by
    have h:decide ((n:Int)≤(q i).2)=true:=h
    rw [eb,h,Bool.or_true,Bool.true_or]
   have rT:(i:Int) < m→badL n q i=true→PV.val (.bool false)=PV.val (.bool (okLinks n q m)):=fun h hb=>by
    unfold okLinks
    rw [anyP_true.2 ⟨i,by omega,hb⟩]
    rfl
   have rF:(m:Int)≤i→PV.val (.bool true)=PV.val (.bool (okLinks n q m)):=fun h=>by
    unfold okLinks
    rw [anyP_false.2 fun j hj=>hB j (by omega)]
    rfl
   have T4:(i:Int) < m→decide ((i:Int) > 0)=true→(!lessQ ((q (IntKind.i64.wrap ((i:Int) - 1)).toNat).1,(q (IntKind.i64.wrap ((i:Int) - 1)).toNat).2) ((q (i:Int).toNat).1,(q (i:Int).toNat).2))=true→badL n q i=true:=fun him' h h'=>by
    rw [Int.toNat_natCast] at h'
    rw [wp h him'] at h'
    have h':(!lessQ (q (i - 1)) (q i))=true:=h'
    have h:(i:Int) > 0:=of_decide_eq_true h
    rw [eb,h',decide_eq_true (show 0 < i by omega),Bool.and_self,Bool.or_true]
   have N2:(i:Int) < m→decide ((q (i:Int).toNat).1 < 0)=false→decide ((q (i:Int).toNat).1≥(q (i:Int).toNat).2)=false→decide ((q (i:Int).toNat).2≥(n:Int))=false→(!lessQ ((q (IntKind.i64.wrap ((i:Int) - 1)).toNat).1,(q (IntKind.i64.wrap ((i:Int) - 1)).toNat).2) ((q (i:Int).toNat).1,(q (i:Int).toNat).2))=false→badL n q i=false:=fun him' h1 h2 h3 h4=>nA h1 h2 h3 (by
    by_cases hz:0 < i
    ·rw [Int.toNat_natCast,wp (decide_eq_true (by omega)) him'] at h4
     have h4:(!lessQ (q (i - 1)) (q i))=false:=h4
     rw [h4,Bool.and_false]
    ·rw [decide_eq_false hz,Bool.false_and])
   with_unfolding_all exact⟨(fun h1=>⟨⟨Int.natCast_nonneg i,(ltT h1)⟩,(fun h2=>⟨(fun h3=>⟨(fun h4=>⟨(fun h5=>⟨⟨(pb h5 (ltT h1)).1,(pb h5 (ltT h1)).2⟩,(fun h6=>⟨[],stOf [(2,.val (.bool (okLinks n q m)))] [] 0 [],Wo trivial ⟨rT (ltT h1) (T4 (ltT h1) h5 h6),qQ⟩ trivial,rfl,rfl⟩),(fun h6=>⟨i+1,[some 0],⟨Int.ofNat_lt.1 (ltT h1),nx (ltT h1) (N2 (ltT h1) h2 h3 h4 h6)⟩,by have:=ltT h1;show m - (i+1) < m - i;omega,Wo ⟨qZ ⟨⟨qW,rfl⟩,⟨qW,rfl⟩,qQ⟩,qQ⟩ ⟨pP,qW,rfl,wi (ltT h1),qQ⟩ trivial⟩)⟩),(fun h5=>⟨(fun h6=>nomatch h6),(fun h6=>⟨i+1,[some 0],⟨Int.ofNat_lt.1 (ltT h1),nx (ltT h1) (N1 h2 h3 h4 h5)⟩,by have:=ltT h1;show m - (i+1) < m - i;omega,Wo ⟨qZ ⟨⟨qW,rfl⟩,⟨qW,rfl⟩,qQ⟩,qQ⟩ ⟨pP,qW,rfl,wi (ltT h1),qQ⟩ trivial⟩)⟩)⟩),(fun h4=>⟨(fun h5=>⟨[],stOf [(2,.val (.bool (okLinks n q m)))] [] 0 [],Wo trivial ⟨rT (ltT h1) (T3 h4),qQ⟩ trivial,rfl,rfl⟩),(fun h5=>nomatch h5)⟩)⟩),(fun h3=>⟨(fun h4=>nomatch h4),(fun h4=>⟨(fun h5=>⟨[],stOf [(2,.val (.bool (okLinks n q m)))] [] 0 [],Wo trivial ⟨rT (ltT h1) (T2 h3),qQ⟩ trivial,rfl,rfl⟩),(fun h5=>nomatch h5)⟩)⟩)⟩),(fun h2=>⟨(fun h3=>nomatch h3),(fun h3=>⟨(fun h4=>nomatch h4),(fun h4=>⟨(fun h5=>⟨[],stOf [(2,.val (.bool (okLinks n q m)))] [] 0 [],Wo trivial ⟨rT (ltT h1) (T1 h2),qQ⟩ trivial,rfl,rfl⟩),(fun h5=>nomatch h5)⟩)⟩)⟩)⟩),(fun h1=>⟨[],stOf [(2,.val (.bool (okLinks n q m)))] [] 0 [],Wo trivial ⟨rF (ltF h1),qQ⟩ trivial,rfl,rfl⟩)⟩
 ·cases e
end Go.Proofs
namespace Go.Num
open Go Go.Ex
inductive RchQ (q:Nat→Int×Int) (m:Nat) (a:Int):Int→Prop
 |refl:RchQ q m a a
 |fwd (i:Nat) (h:i < m) (r:RchQ q m a (q i).1):RchQ q m a (q i).2
 |bwd (i:Nat) (h:i < m) (r:RchQ q m a (q i).2):RchQ q m a (q i).1
end Go.Num
namespace Go.Proofs
open Go Go.Ex Go.Num
set_option maxRecDepth 100000
end Go.Proofs
namespace Go.Num
open Go Go.Ex
def QB (k:Nat) (q:Rat):Prop:=q.num.natAbs < 256^k∧q.den < 256^k
theorem mk_small (n:Int) {d:Nat} (hd:d≠0):(mkRat n d).num.natAbs≤n.natAbs∧(mkRat n d).den≤d:=by
 obtain⟨g,hg,h1,h2⟩:=mkRat_parts n hd
 refine⟨?_,?_⟩
 ·have h3:n.natAbs=(mkRat n d).num.natAbs*g:=by
   have:=congrArg Int.natAbs h1
   rw [Int.natAbs_mul] at this
   exact this
  rw [h3]
  exact Nat.le_mul_of_pos_right _ hg
 ·have h3:=Nat.le_mul_of_pos_right (mkRat n d).den hg
  omega
theorem QB.mul {a b:Nat} {x y:Rat} (h1:QB a x) (h2:QB b y):QB (a+b) (x*y):=by
 have hd:x.den*y.den≠0:=Nat.mul_ne_zero x.den_nz y.den_nz
 have h:=mk_small (x.num*y.num) hd
 rw [←Rat.mul_def'] at h
 rw [Int.natAbs_mul] at h
 have e1:=Nat.mul_lt_mul'' h1.1 h2.1
 have e2:=Nat.mul_lt_mul'' h1.2 h2.2
 rw [←Nat.pow_add] at e1 e2
 exact⟨by omega,by omega⟩
theorem two_pow (k:Nat) {a b:Nat} (h1:a < 256^k) (h2:b < 256^k):a+b < 256^(k+1):=by
 rw [Nat.pow_succ]
 omega
theorem QB.add {a b:Nat} {x y:Rat} (h1:QB a x) (h2:QB b y):QB (a+b+1) (x+y):=by
 have hd:x.den*y.den≠0:=Nat.mul_ne_zero x.den_nz y.den_nz
 have h:=mk_small (x.num*y.den+y.num*x.den) hd
 rw [←Rat.add_def'] at h
 have e1:=Nat.mul_lt_mul'' h1.1 h2.2
 have e2:=Nat.mul_lt_mul'' h2.1 h1.2
 have e3:=Nat.mul_lt_mul'' h1.2 h2.2
 have e4:=Int.natAbs_add_le (x.num*y.den) (y.num*x.den)
 rw [Int.natAbs_mul,Int.natAbs_mul,Int.natAbs_natCast,Int.natAbs_natCast] at e4
 rw [←Nat.pow_add] at e1 e2 e3
 rw [Nat.add_comm b a] at e2
 have:=two_pow (a+b) e1 e2
 exact⟨by omega,by rw [Nat.pow_succ];omega⟩
theorem QB.sub {a b:Nat} {x y:Rat} (h1:QB a x) (h2:QB b y):QB (a+b+1) (x - y):=by
 have hd:x.den*y.den≠0:=Nat.mul_ne_zero x.den_nz y.den_nz
 have h:=mk_small (x.num*y.den - y.num*x.den) hd
 rw [←Rat.sub_def'] at h
 have e1:=Nat.mul_lt_mul'' h1.1 h2.2
 have e2:=Nat.mul_lt_mul'' h2.1 h1.2
 have e3:=Nat.mul_lt_mul'' h1.2 h2.2
 have e4:=Int.natAbs_add_le (x.num*y.den) (-(y.num*x.den))
 rw [Int.natAbs_neg,Int.natAbs_mul,Int.natAbs_mul,Int.natAbs_natCast,Int.natAbs_natCast,←Int.sub_eq_add_neg] at e4
 rw [←Nat.pow_add] at e1 e2 e3
 rw [Nat.add_comm b a] at e2
 have:=two_pow (a+b) e1 e2
 exact⟨by omega,by rw [Nat.pow_succ];omega⟩
theorem QB.inv {b:Nat} {y:Rat} (h:QB b y):QB b y⁻¹:=by
 rw [Rat.inv_def]
 have hp:0 < 256^b:=Nat.pow_pos (by decide)
 rcases(by omega:y.num=0∨0 < y.num∨y.num < 0) with e|e|e
 ·rw [e,Rat.divInt_zero]
  exact⟨by show 0 < _;exact hp,Nat.lt_of_le_of_lt (show(0:Rat).den≤y.den from y.den_pos) h.2⟩
 ·have e2:Rat.divInt (y.den:Int) y.num=mkRat (y.den:Int) y.num.natAbs:=by rw [←Rat.divInt_ofNat];congr 1;omega
  have h3:=mk_small (y.den:Int) (d:=y.num.natAbs) (by omega)
  rw [e2]
  exact⟨Nat.lt_of_le_of_lt h3.1 h.2,Nat.lt_of_le_of_lt h3.2 h.1⟩
 ·have e2:Rat.divInt (y.den:Int) y.num=mkRat (-(y.den:Int)) y.num.natAbs:=by rw [←Rat.divInt_ofNat,←Rat.neg_divInt_neg];congr 1;omega
  have h3:=mk_small (-(y.den:Int)) (d:=y.num.natAbs) (by omega)
  rw [e2]
  rw [Int.natAbs_neg] at h3
  exact⟨Nat.lt_of_le_of_lt h3.1 h.2,Nat.lt_of_le_of_lt h3.2 h.1⟩
theorem QB.div {a b:Nat} {x y:Rat} (h1:QB a x) (h2:QB b y):QB (a+b) (x / y):=by
 rw [Rat.div_def]
 exact h1.mul h2.inv
theorem QB.le {a b:Nat} {x:Rat} (h:QB a x) (hab:a≤b):QB b x:=by
 have:=Nat.pow_le_pow_right (show 0 < 256 by decide) hab
 exact⟨Nat.lt_of_lt_of_le h.1 this,Nat.lt_of_lt_of_le h.2 this⟩
theorem denT_size {k d:Nat} (h:d < 256^k):(denT d).size≤k:=by
 unfold denT
 split
 ·exact Nat.zero_le _
 ·exact numB_le h
def rsQ (q:Rat):RatS:=⟨decide (q.num < 0),numB q.num.natAbs,denT q.den⟩
def ptQ (x y:Rat):PtS:=⟨rsQ x,rsQ y⟩
def RatS.q (r:RatS):Rat:=rdR r.v
theorem rsQ_q (q:Rat):(rsQ q).q=q:=rdR_ratV q
theorem QB.rs {k:Nat} {q:Rat} (h:QB k q):(rsQ q).le k:=⟨numB_le h.1,denT_size h.2⟩
theorem QB.rk {k n:Nat} {q:Rat} (h:QB k q) (hk:k≤n):isRk n (ratV q):=⟨_,_,_,rfl,Nat.le_trans (numB_le h.1) hk,Nat.le_trans (denT_size h.2) hk⟩
theorem RatS.le.qb {k:Nat} {r:RatS} (h:RatS.le k r):QB (k+1) r.q:=by
 have hb:=bv_lt r.b
 have hc:=bv_lt r.c
 have h1:256^r.b.size≤256^k:=Nat.pow_le_pow_right (by decide) h.1
 have h2:256^r.c.size≤256^k:=Nat.pow_le_pow_right (by decide) h.2
 have hd:den1 (bv r.c) < 256^(k+1):=by
  rw [Nat.pow_succ]
  unfold den1
  have:=Nat.pow_pos (n:=k) (show 0 < 256 by decide)
  split<;>omega
 have h3:=mk_small (sgn r.s (bv r.b)) (d:=den1 (bv r.c)) (by have:=den1_pos (bv r.c);omega)
 rw [sgn_natAbs] at h3
 exact⟨Nat.lt_of_le_of_lt h3.1 (by rw [Nat.pow_succ];omega),Nat.lt_of_le_of_lt h3.2 hd⟩
theorem RatS.le.mono {a b:Nat} {r:RatS} (h:RatS.le a r) (hab:a≤b):RatS.le b r:=⟨Nat.le_trans h.1 hab,Nat.le_trans h.2 hab⟩
theorem PtS.le.mono {a b:Nat} {p:PtS} (h:PtS.le a p) (hab:a≤b):PtS.le b p:=⟨RatS.le.mono h.1 hab,RatS.le.mono h.2 hab⟩
theorem isPk.mono {a b:Nat} {v:Value} (h:isPk a v) (hab:a≤b):isPk b v:=by
 obtain⟨p,rfl,hp⟩:=h
 exact⟨p,rfl,hp.mono hab⟩
theorem ptQ_le {k:Nat} {x y:Rat} (h1:QB k x) (h2:QB k y):(ptQ x y).le k:=⟨h1.rs,h2.rs⟩
end Go.Num
namespace Go.Num
open Go Go.Ex
def boxP (p:PtS) (st:Nat):Blk:=⟨25,6,st,true,false,1,fun _=>p.cells⟩
def PtS.X (p:PtS):Rat:=p.x.q
def PtS.Y (p:PtS):Rat:=p.y.q
def cmpP (p u:PtS):Int:=if cmpQ p.X u.X=0 then cmpQ p.Y u.Y else cmpQ p.X u.X
def subP (p u:PtS):PtS:=ptQ (p.X - u.X) (p.Y - u.Y)
def crossP (p u:PtS):Rat:=p.X*u.Y - p.Y*u.X
def orP (a b c:PtS):Int:=cmpQ (crossP (subP b a) (subP c a)) 0
theorem PtS.le.X {k:Nat} {p:PtS} (h:PtS.le k p):QB (k+1) p.X:=RatS.le.qb h.1
theorem PtS.le.Y {k:Nat} {p:PtS} (h:PtS.le k p):QB (k+1) p.Y:=RatS.le.qb h.2
theorem subP_le {a b:Nat} {p u:PtS} (h1:PtS.le a p) (h2:PtS.le b u):(subP p u).le (a+b+3):=ptQ_le ((h1.X.sub h2.X).le (by omega)) ((h1.Y.sub h2.Y).le (by omega))
theorem crossP_le {a b:Nat} {p u:PtS} (h1:PtS.le a p) (h2:PtS.le b u):QB (2*a+2*b+5) (crossP p u):=((h1.X.mul h2.Y).sub (h1.Y.mul h2.X)).le (by omega)
theorem ptQ_X (x y:Rat):(ptQ x y).X=x:=rsQ_q x
theorem ptQ_Y (x y:Rat):(ptQ x y).Y=y:=rsQ_q y
theorem isRk_x {k n:Nat} {p:PtS} (h:PtS.le k p) (hk:k≤n):isRk n p.x.v:=⟨_,_,_,rfl,Nat.le_trans h.1.1 hk,Nat.le_trans h.1.2 hk⟩
theorem isRk_y {k n:Nat} {p:PtS} (h:PtS.le k p) (hk:k≤n):isRk n p.y.v:=⟨_,_,_,rfl,Nat.le_trans h.2.1 hk,Nat.le_trans h.2.2 hk⟩
end Go.Num
namespace Go.Proofs
open Go Go.Ex Go.Num
set_option maxRecDepth 100000
def D112:Opt:={ perm:=atR 1 [(0,true),(1,true),(2,true),(3,true),(4,true),(6,true),(7,true),(8,true),(9,true),(10,true),(5,false),(11,false)] }
theorem ok112:funcOk D112.toOrd Tryz.f112 3=true:=by kernel_rfl
def c112_113:List PV→Option Ans
 |[.val v,.val u,.val (.func (.func 113) ⟨[]⟩ ⟨[]⟩)]=>some ⟨some (isPk 4294967296 v∧isPk 4294967296 u),.val (ptQ ((rdV v).X+(rdV u).X) ((rdV v).Y+(rdV u).Y)).v,[]⟩
 |_=>none
theorem f112_113:FnOk Tryz.prog 112 c112_113:=by
 refine FnOk.ofW orders (mkE_ok (l:=[(113,c113)]) (own:=[]) (inl:=[]) (by simp [f113]) (by simp)) Tryz.func112 D112 3 ok112 fun args r e=>?_
 unfold c112_113 at e
 split at e
 ·rename_i v u
  cases e
  refine⟨by simp,fun hm=>?_⟩
  obtain⟨⟨p,rfl,hp⟩,u,rfl,hu⟩:=hm _ rfl
  refine⟨[],stOf [(0,.val p.v),(1,.val u.v),(2,.val (.func (.func 113) ⟨[]⟩ ⟨[]⟩))] [] 0 [],Wo trivial ⟨rfl,rfl,rfl,qQ⟩ trivial,?_⟩
  have hx:=And.intro (isRk_x hp (Nat.le_refl _)) (isRk_x hu (Nat.le_refl _))
  have hy:=And.intro (isRk_y hp (Nat.le_refl _)) (isRk_y hu (Nat.le_refl _))
  with_unfolding_all exact⟨hx,hy,[some 2],stOf [(6,.ptr 0 0 0 0)] [boxP (ptQ (p.X+u.X) (p.Y+u.Y)) 0] 1 [],Wo ⟨qK,qQ⟩ ⟨pP,qQ⟩ trivial,rfl,rfl⟩
 ·cases e
def c112_114:List PV→Option Ans
 |[.val v,.val u,.val (.func (.func 114) ⟨[]⟩ ⟨[]⟩)]=>some ⟨some (isPk 4294967296 v∧isPk 4294967296 u),.val (ptQ ((rdV v).X*(rdV u).X) ((rdV v).Y*(rdV u).Y)).v,[]⟩
 |_=>none
theorem f112_114:FnOk Tryz.prog 112 c112_114:=by
 refine FnOk.ofW orders (mkE_ok (l:=[(114,c114)]) (own:=[]) (inl:=[]) (by simp [f114]) (by simp)) Tryz.func112 D112 3 ok112 fun args r e=>?_
 unfold c112_114 at e
 split at e
 ·rename_i v u
  cases e
  refine⟨by simp,fun hm=>?_⟩
  obtain⟨⟨p,rfl,hp⟩,u,rfl,hu⟩:=hm _ rfl
  refine⟨[],stOf [(0,.val p.v),(1,.val u.v),(2,.val (.func (.func 114) ⟨[]⟩ ⟨[]⟩))] [] 0 [],Wo trivial ⟨rfl,rfl,rfl,qQ⟩ trivial,?_⟩
  have hx:=And.intro (isRk_x hp (Nat.le_refl _)) (isRk_x hu (Nat.le_refl _))
  have hy:=And.intro (isRk_y hp (Nat.le_refl _)) (isRk_y hu (Nat.le_refl _))
  with_unfolding_all exact⟨hx,hy,[some 2],stOf [(6,.ptr 0 0 0 0)] [boxP (ptQ (p.X*u.X) (p.Y*u.Y)) 0] 1 [],Wo ⟨qK,qQ⟩ ⟨pP,qQ⟩ trivial,rfl,rfl⟩
 ·cases e
def c112_115:List PV→Option Ans
 |[.val v,.val u,.val (.func (.func 115) ⟨[]⟩ ⟨[]⟩)]=>some ⟨some (isPk 4294967296 v∧isPk 4294967296 u),.val (ptQ ((rdV v).X - (rdV u).X) ((rdV v).Y - (rdV u).Y)).v,[]⟩
 |_=>none
theorem f112_115:FnOk Tryz.prog 112 c112_115:=by
 refine FnOk.ofW orders (mkE_ok (l:=[(115,c115)]) (own:=[]) (inl:=[]) (by simp [f115]) (by simp)) Tryz.func112 D112 3 ok112 fun args r e=>?_
 unfold c112_115 at e
 split at e
 ·rename_i v u
  cases e
  refine⟨by simp,fun hm=>?_⟩
  obtain⟨⟨p,rfl,hp⟩,u,rfl,hu⟩:=hm _ rfl
  refine⟨[],stOf [(0,.val p.v),(1,.val u.v),(2,.val (.func (.func 115) ⟨[]⟩ ⟨[]⟩))] [] 0 [],Wo trivial ⟨rfl,rfl,rfl,qQ⟩ trivial,?_⟩
  have hx:=And.intro (isRk_x hp (Nat.le_refl _)) (isRk_x hu (Nat.le_refl _))
  have hy:=And.intro (isRk_y hp (Nat.le_refl _)) (isRk_y hu (Nat.le_refl _))
  with_unfolding_all exact⟨hx,hy,[some 2],stOf [(6,.ptr 0 0 0 0)] [boxP (ptQ (p.X - u.X) (p.Y - u.Y)) 0] 1 [],Wo ⟨qK,qQ⟩ ⟨pP,qQ⟩ trivial,rfl,rfl⟩
 ·cases e
def c76:List PV→Option Ans
 |[.val v,.val u]=>some ⟨some (isPk 4294967296 v∧isPk 4294967296 u),.val (subP (rdV v) (rdV u)).v,[]⟩
 |_=>none
theorem ok76:funcOk {} Tryz.f76 2=true:=by kernel_rfl
theorem f76:FnOk Tryz.prog 76 c76:=by
 refine FnOk.ofW orders (mkE_ok (l:=[(112,c112_115)]) (own:=[]) (inl:=[]) (by simp [f112_115]) (by simp)) Tryz.func76 {} 2 ok76 fun args r e=>?_
 unfold c76 at e
 split at e
 ·rename_i v u
  cases e
  refine⟨by simp,fun hm=>?_⟩
  obtain⟨⟨p,rfl,hp⟩,u,rfl,hu⟩:=hm _ rfl
  refine⟨[],stOf [(0,.val p.v),(1,.val u.v)] [] 0 [],Wo trivial ⟨rfl,rfl,qQ⟩ trivial,?_⟩
  with_unfolding_all exact⟨⟨⟨p,rfl,hp⟩,u,rfl,hu⟩,[some 2],stOf [(4,.ptr 0 0 0 0)] [boxP (subP p u) 0] 1 [],Wo ⟨qK,qQ⟩ ⟨pP,qQ⟩ trivial,rfl,rfl⟩
 ·cases e
def c140:List PV→Option Ans
 |[.val v,.val u]=>some ⟨some (isPk 1000000 v∧isPk 1000000 u),.val (ratV (crossP (rdV v) (rdV u))),[]⟩
 |_=>none
theorem ok140:funcOk {} Tryz.f140 2=true:=by kernel_rfl
theorem f140:FnOk Tryz.prog 140 c140:=by
 refine FnOk.ofW orders (mkE_ok (l:=[(112,c112_114),(115,c115)]) (own:=[]) (inl:=[]) (by simp [f112_114,f115]) (by simp)) Tryz.func140 {} 2 ok140 fun args r e=>?_
 unfold c140 at e
 split at e
 ·rename_i v u
  cases e
  refine⟨by simp,fun hm=>?_⟩
  obtain⟨⟨p,rfl,hp⟩,u,rfl,hu⟩:=hm _ rfl
  refine⟨[],stOf [(0,.val p.v),(1,.val u.v)] [] 0 [],Wo trivial ⟨rfl,rfl,qQ⟩ trivial,?_⟩
  have hp':=hp.mono (show 1000000≤4294967296 by decide)
  have hu':=hu.mono (show 1000000≤4294967296 by decide)
  have hu2:(PtS.mk u.y u.x).le 4294967296:=⟨hu'.2,hu'.1⟩
  have r1:isRk 4294967296 (ratV (p.X*u.Y)):=(hp.X.mul hu.Y).rk (by decide)
  have r2:isRk 4294967296 (ratV (p.Y*u.X)):=(hp.Y.mul hu.X).rk (by decide)
  have e:rdR (ratV (p.X*u.Y)) - rdR (ratV (p.Y*u.X))=crossP p u:=by rw [rdR_ratV,rdR_ratV];rfl
  with_unfolding_all exact⟨⟨⟨p,rfl,hp'⟩,⟨u.y,u.x⟩,rfl,hu2⟩,⟨r1,r2⟩,[some 2],stOf [(4,.ptr 0 0 0 0)] [boxR (decide ((crossP p u).num < 0)) (numB (crossP p u).num.natAbs) (denT (crossP p u).den) 0] 1 [],Wo ⟨qZ ⟨⟨congrArg (fun q:Rat=>PV.val (.bool (decide (q.num < 0)))) e,rfl⟩,⟨congrArg (fun q:Rat=>PV.val (.string (numB q.num.natAbs))) e,rfl⟩,⟨congrArg (fun q:Rat=>PV.val (.string (denT q.den))) e,rfl⟩,qQ⟩,qQ⟩ ⟨pP,qQ⟩ trivial,rfl,rfl⟩
 ·cases e
def c38:List PV→Option Ans
 |[.val v,.val u]=>some ⟨some (isPk 4294967296 v∧isPk 4294967296 u),.val (goInt (cmpP (rdV v) (rdV u))),[]⟩
 |_=>none
theorem ok38:funcOk {} Tryz.f38 2=true:=by kernel_rfl
theorem f38:FnOk Tryz.prog 38 c38:=by
 refine FnOk.ofW orders (mkE_ok (l:=[(80,c80)]) (own:=[]) (inl:=[]) (by simp [f80]) (by simp)) Tryz.func38 {} 2 ok38 fun args r e=>?_
 unfold c38 at e
 split at e
 ·rename_i v u
  cases e
  refine⟨by simp,fun hm=>?_⟩
  obtain⟨⟨p,rfl,hp⟩,u,rfl,hu⟩:=hm _ rfl
  refine⟨[],stOf [(0,.val p.v),(1,.val u.v)] [] 0 [],Wo trivial ⟨rfl,rfl,qQ⟩ trivial,?_⟩
  have hx:=And.intro (isRk_x hp (Nat.le_refl _)) (isRk_x hu (Nat.le_refl _))
  have hy:=And.intro (isRk_y hp (Nat.le_refl _)) (isRk_y hu (Nat.le_refl _))
  have t1:(!(cmpQ p.X u.X==0))=true→PV.val (goInt (cmpQ p.X u.X))=PV.val (goInt (cmpP p u)):=fun h=>by
   have h:¬cmpQ p.X u.X=0:=by simpa using h
   rw [cmpP,if_neg h]
  have t2:(!(cmpQ p.X u.X==0))=false→PV.val (goInt (cmpQ p.Y u.Y))=PV.val (goInt (cmpP p u)):=fun h=>by
   have h:cmpQ p.X u.X=0:=by simpa using h
   rw [cmpP,if_pos h]
  with_unfolding_all exact⟨hx,fun h=>⟨[],stOf [(4,.val (goInt (cmpP p u)))] [] 0 [],Wo trivial ⟨t1 h,qQ⟩ trivial,rfl,rfl⟩,fun h=>⟨hy,[],stOf [(4,.val (goInt (cmpP p u)))] [] 0 [],Wo trivial ⟨t2 h,qQ⟩ trivial,rfl,rfl⟩⟩
 ·cases e
def c52:List PV→Option Ans
 |[.val (.int .i64 x),.val (.int .i64 y)]=>some ⟨some ((-9223372036854775808≤x∧x < 9223372036854775808) ∧ -9223372036854775808≤y∧y < 9223372036854775808),.val (ptQ (mkRat x 1) (mkRat y 1)).v,[]⟩
 |_=>none
theorem ok52:funcOk {} Tryz.f52 2=true:=by kernel_rfl
theorem f52:FnOk Tryz.prog 52 c52:=by
 refine FnOk.ofW orders (mkE_ok (l:=[(88,c88)]) (own:=[]) (inl:=[]) (by simp [f88]) (by simp)) Tryz.func52 {} 2 ok52 fun args r e=>?_
 unfold c52 at e
 split at e
 ·rename_i x y
  cases e
  refine⟨by simp,fun hm=>?_⟩
  have hp:=hm _ rfl
  refine⟨[],stOf [(0,.val (.int .i64 x)),(1,.val (.int .i64 y))] [] 0 [],Wo trivial ⟨rfl,rfl,qQ⟩ trivial,?_⟩
  with_unfolding_all exact⟨hp.1,hp.2,[some 0],stOf [(4,.ptr 0 0 0 0)] [boxP (ptQ (mkRat x 1) (mkRat y 1)) 0] 1 [],Wo ⟨qK,qQ⟩ ⟨pP,qQ⟩ trivial,rfl,rfl⟩
 ·cases e
def c107:List PV→Option Ans
 |[.val v,.val u,.val w]=>some ⟨some (isPk 10000 v∧isPk 10000 u∧isPk 10000 w),.val (goInt (orP (rdV v) (rdV u) (rdV w))),[]⟩
 |_=>none
def D107:Opt:={ perm:=atR 1 [(0,true),(1,true),(3,true),(4,true),(2,false),(5,false)] }
theorem ok107:funcOk D107.toOrd Tryz.f107 3=true:=by kernel_rfl
theorem f107:FnOk Tryz.prog 107 c107:=by
 refine FnOk.ofW orders (mkE_ok (l:=[(76,c76),(140,c140),(139,c139)]) (own:=[]) (inl:=[]) (by simp [f76,f140,f139]) (by simp)) Tryz.func107 D107 3 ok107 fun args r e=>?_
 unfold c107 at e
 split at e
 ·rename_i v u w
  cases e
  refine⟨by simp,fun hm=>?_⟩
  obtain⟨⟨a,rfl,ha⟩,⟨b,rfl,hb⟩,c,rfl,hc⟩:=hm _ rfl
  refine⟨[],stOf [(0,.val a.v),(1,.val b.v),(2,.val c.v)] [] 0 [],Wo trivial ⟨rfl,rfl,rfl,qQ⟩ trivial,?_⟩
  have ha':=ha.mono (show 10000≤4294967296 by decide)
  have hb':=hb.mono (show 10000≤4294967296 by decide)
  have hc':=hc.mono (show 10000≤4294967296 by decide)
  have s1:=(subP_le hb ha).mono (show 10000+10000+3≤1000000 by decide)
  have s2:=(subP_le hc ha).mono (show 10000+10000+3≤1000000 by decide)
  have r1:isRk 4294967296 (ratV (crossP (subP b a) (subP c a))):=(crossP_le (subP_le hb ha) (subP_le hc ha)).rk (by decide)
  have e:cmpQ (rdR (ratV (crossP (subP b a) (subP c a)))) 0=orP a b c:=by rw [rdR_ratV];rfl
  with_unfolding_all refine⟨⟨⟨b,rfl,hb'⟩,a,rfl,ha'⟩,⟨⟨c,rfl,hc'⟩,a,rfl,ha'⟩,⟨⟨subP b a,rfl,s1⟩,subP c a,rfl,s2⟩,?_,[],stOf [(6,.val (goInt (orP a b c)))] [] 0 [],Wo trivial ⟨?_,qQ⟩ trivial,rfl,rfl⟩
  ·exact r1
  ·exact congrArg (fun z=>PV.val (goInt z)) e
 ·cases e
end Go.Proofs
namespace Go.Proofs
open Go Go.Ex Go.Num
set_option maxRecDepth 100000
def c177:List PV→Option Ans
 |[.val v]=>some ⟨some (isRk 1073741824 v),.val (goInt (cmpQ (rdR v) 0)),[]⟩
 |_=>none
def D177:Opt:={  }
theorem ok177:funcOk D177.toOrd Tryz.f177 1=true:=by kernel_rfl
theorem f177:FnOk Tryz.prog 177 c177:=by
 refine FnOk.ofW orders (mkE_ok (l:=[(135,c135)]) (own:=[]) (inl:=[]) (by simp [f135]) (by simp)) Tryz.func177 D177 1 ok177 fun args r e=>?_
 unfold c177 at e
 split at e
 ·rename_i v
  cases e
  refine⟨by simp,fun hm=>?_⟩
  have hv:=hm _ rfl
  obtain⟨s,b,c,rfl,hb,hc⟩:=hv
  refine⟨[],stOf [(0,.val (.agg ⟨[.bool s,.string b,.string c]⟩))] [] 0 [],Wo trivial ⟨rfl,qQ⟩ trivial,?_⟩
  have e0:rdR (.agg ⟨[.bool false,.string ⟨#[]⟩,.string ⟨#[]⟩]⟩)=0:=by rw [←ratV_zero,rdR_ratV]
  have z:isRk 1073741824 (.agg ⟨[.bool false,.string ⟨#[]⟩,.string ⟨#[]⟩]⟩):=⟨_,_,_,rfl,by decide,by decide⟩
  have v:PV.val (goInt (cmpQ (rdR (.agg ⟨[.bool s,.string b,.string c]⟩)) (rdR (.agg ⟨[.bool false,.string ⟨#[]⟩,.string ⟨#[]⟩]⟩))))=PV.val (goInt (cmpQ (rdR (.agg ⟨[.bool s,.string b,.string c]⟩)) 0)):=by rw [e0]
  with_unfolding_all exact⟨⟨⟨_,_,_,rfl,hb,hc⟩,z⟩,⟨[],stOf [(2,.val (goInt (cmpQ (rdR (.agg ⟨[.bool s,.string b,.string c]⟩)) 0)))] [] 0 [],Wo trivial ⟨v,qQ⟩ trivial,rfl,rfl⟩⟩
 ·cases e
def c98:List PV→Option Ans
 |[.val v,.val u]=>some ⟨some (isPk 1073741824 v∧isPk 1073741824 u),.val (goInt (cmpP (rdV v) (rdV u))),[]⟩
 |_=>none
def D98:Opt:={  }
theorem ok98:funcOk D98.toOrd Tryz.f98 2=true:=by kernel_rfl
theorem f98:FnOk Tryz.prog 98 c98:=by
 refine FnOk.ofW orders (mkE_ok (l:=[(135,c135)]) (own:=[]) (inl:=[]) (by simp [f135]) (by simp)) Tryz.func98 D98 2 ok98 fun args r e=>?_
 unfold c98 at e
 split at e
 ·rename_i v u
  cases e
  refine⟨by simp,fun hm=>?_⟩
  obtain⟨⟨p,rfl,hp⟩,u,rfl,hu⟩:=hm _ rfl
  refine⟨[],stOf [(0,.val p.v),(1,.val u.v)] [] 0 [],Wo trivial ⟨rfl,rfl,qQ⟩ trivial,?_⟩
  have hx:=And.intro (isRk_x hp (Nat.le_refl _)) (isRk_x hu (Nat.le_refl _))
  have hy:=And.intro (isRk_y hp (Nat.le_refl _)) (isRk_y hu (Nat.le_refl _))
  have t1:(!(cmpQ p.X u.X==0))=true→PV.val (goInt (cmpQ p.X u.X))=PV.val (goInt (cmpP p u)):=fun h=>by
   have h:¬cmpQ p.X u.X=0:=by simpa using h
   rw [cmpP,if_neg h]
  have t2:(!(cmpQ p.X u.X==0))=false→PV.val (goInt (cmpQ p.Y u.Y))=PV.val (goInt (cmpP p u)):=fun h=>by
   have h:cmpQ p.X u.X=0:=by simpa using h
   rw [cmpP,if_pos h]
  with_unfolding_all exact⟨hx,fun h=>⟨[],stOf [(4,.val (goInt (cmpP p u)))] [] 0 [],Wo trivial ⟨t1 h,qQ⟩ trivial,rfl,rfl⟩,fun h=>⟨hy,⟨[],stOf [(4,.val (goInt (cmpP p u)))] [] 0 [],Wo trivial ⟨t2 h,qQ⟩ trivial,rfl,rfl⟩⟩⟩
 ·cases e
def c179:List PV→Option Ans
 |[.val v,.val u]=>some ⟨some (isPk 1000000 v∧isPk 1000000 u),.val (subP (rdV v) (rdV u)).v,[]⟩
 |_=>none
def D179:Opt:={ perm:=atR 1 [(0,true),(1,true),(2,true),(3,true),(5,true),(6,true),(7,true),(8,true),(4,false),(9,false),(10,true)] }
theorem ok179:funcOk D179.toOrd Tryz.f179 2=true:=by kernel_rfl
theorem f179:FnOk Tryz.prog 179 c179:=by
 refine FnOk.ofW orders (mkE_ok (l:=[(221,c221)]) (own:=[]) (inl:=[]) (by simp [f221]) (by simp)) Tryz.func179 D179 2 ok179 fun args r e=>?_
 unfold c179 at e
 split at e
 ·rename_i v u
  cases e
  refine⟨by simp,fun hm=>?_⟩
  obtain⟨⟨p,rfl,hp⟩,u,rfl,hu⟩:=hm _ rfl
  refine⟨[],stOf [(0,.val p.v),(1,.val u.v)] [] 0 [],Wo trivial ⟨rfl,rfl,qQ⟩ trivial,?_⟩
  have hx:=And.intro (isRk_x hp (show 1000000≤1073741824 by decide)) (isRk_x hu (show 1000000≤1073741824 by decide))
  have hy:=And.intro (isRk_y hp (show 1000000≤1073741824 by decide)) (isRk_y hu (show 1000000≤1073741824 by decide))
  with_unfolding_all exact⟨hx,hy,[some 2],stOf [(4,.ptr 0 0 0 0)] [boxP (subP p u) 0] 1 [],Wo ⟨qK,qQ⟩ ⟨pP,qQ⟩ trivial,rfl,rfl⟩
 ·cases e
def c178:List PV→Option Ans
 |[.val v,.val u]=>some ⟨some (isPk 1000000 v∧isPk 1000000 u),.val (ratV (crossP (rdV v) (rdV u))),[]⟩
 |_=>none
def D178:Opt:={ perm:=atR 1 [(0,true),(1,true),(2,true),(3,true),(5,true),(6,true),(7,true),(8,true),(4,false),(9,false),(10,false)] }
theorem ok178:funcOk D178.toOrd Tryz.f178 2=true:=by kernel_rfl
theorem f178:FnOk Tryz.prog 178 c178:=by
 refine FnOk.ofW orders (mkE_ok (l:=[(222,c222),(221,c221)]) (own:=[]) (inl:=[]) (by simp [f222,f221]) (by simp)) Tryz.func178 D178 2 ok178 fun args r e=>?_
 unfold c178 at e
 split at e
 ·rename_i v u
  cases e
  refine⟨by simp,fun hm=>?_⟩
  obtain⟨⟨p,rfl,hp⟩,u,rfl,hu⟩:=hm _ rfl
  refine⟨[],stOf [(0,.val p.v),(1,.val u.v)] [] 0 [],Wo trivial ⟨rfl,rfl,qQ⟩ trivial,?_⟩
  have hx:=And.intro (isRk_x hp (show 1000000≤1073741824 by decide)) (isRk_y hu (show 1000000≤1073741824 by decide))
  have hy:=And.intro (isRk_y hp (show 1000000≤1073741824 by decide)) (isRk_x hu (show 1000000≤1073741824 by decide))
  have r1:isRk 1073741824 (ratV (p.X*u.Y)):=(hp.X.mul hu.Y).rk (by decide)
  have r2:isRk 1073741824 (ratV (p.Y*u.X)):=(hp.Y.mul hu.X).rk (by decide)
  obtain⟨Q,hQ⟩:∃Q,Q=crossP p u:=⟨_,rfl⟩
  have e:rdR (ratV (p.X*u.Y)) - rdR (ratV (p.Y*u.X))=Q:=by rw [rdR_ratV,rdR_ratV,hQ];rfl
  have hq:crossP (rdV p.v) (rdV u.v)=Q:=hQ.symm
  rw [hq]
  with_unfolding_all exact⟨hx,hy,⟨r1,r2⟩,[some 2],stOf [(4,.ptr 0 0 0 0)] [boxR (decide (Q.num < 0)) (numB Q.num.natAbs) (denT Q.den) 0] 1 [],Wo ⟨qZ ⟨⟨cbq e,rfl⟩,⟨csq e,rfl⟩,⟨cdq e,rfl⟩,qQ⟩,qQ⟩ ⟨pP,qQ⟩ trivial,rfl,rfl⟩
 ·cases e
def c131:List PV→Option Ans
 |[.val v,.val u,.val w]=>some ⟨some (isPk 10000 v∧isPk 10000 u∧isPk 10000 w),.val (goInt (orP (rdV v) (rdV u) (rdV w))),[]⟩
 |_=>none
def D131:Opt:={ perm:=atR 1 [(0,true),(1,true),(3,true),(4,true),(2,false),(5,false),(6,false),(7,false)] }
theorem ok131:funcOk D131.toOrd Tryz.f131 3=true:=by kernel_rfl
theorem f131:FnOk Tryz.prog 131 c131:=by
 refine FnOk.ofW orders (mkE_ok (l:=[(179,c179),(178,c178),(177,c177)]) (own:=[]) (inl:=[]) (by simp [f179,f178,f177]) (by simp)) Tryz.func131 D131 3 ok131 fun args r e=>?_
 unfold c131 at e
 split at e
 ·rename_i v u w
  cases e
  refine⟨by simp,fun hm=>?_⟩
  obtain⟨⟨a,rfl,ha⟩,⟨b,rfl,hb⟩,c,rfl,hc⟩:=hm _ rfl
  refine⟨[],stOf [(0,.val a.v),(1,.val b.v),(2,.val c.v)] [] 0 [],Wo trivial ⟨rfl,rfl,rfl,qQ⟩ trivial,?_⟩
  have ha':=ha.mono (show 10000≤1000000 by decide)
  have hb':=hb.mono (show 10000≤1000000 by decide)
  have hc':=hc.mono (show 10000≤1000000 by decide)
  have s1:=(subP_le hb ha).mono (show 10000+10000+3≤1000000 by decide)
  have s2:=(subP_le hc ha).mono (show 10000+10000+3≤1000000 by decide)
  have r1:isRk 1073741824 (ratV (crossP (subP b a) (subP c a))):=(crossP_le (subP_le hb ha) (subP_le hc ha)).rk (by decide)
  have e:cmpQ (rdR (ratV (crossP (subP b a) (subP c a)))) 0=orP a b c:=by rw [rdR_ratV];rfl
  with_unfolding_all refine⟨⟨⟨b,rfl,hb'⟩,a,rfl,ha'⟩,⟨⟨c,rfl,hc'⟩,a,rfl,ha'⟩,⟨⟨subP b a,rfl,s1⟩,subP c a,rfl,s2⟩,?_,[],stOf [(6,.val (goInt (orP a b c)))] [] 0 [],Wo trivial ⟨?_,qQ⟩ trivial,rfl,rfl⟩
  ·exact r1
  ·exact congrArg (fun z=>PV.val (goInt z)) e
 ·cases e
def c130:List PV→Option Ans
 |[.rs 6 n g]=>some ⟨some (isPL 4294967296 n g),.val (.bool (!anyP (fun i=>!canonP (pts g i)) n)),[]⟩
 |_=>none
def D130:Opt:={  }
theorem ok130:funcOk D130.toOrd Tryz.f130 1=true:=by kernel_rfl
theorem f130:FnOk Tryz.prog 130 c130:=by
 refine FnOk.ofW orders (mkE_ok (l:=[(59,c59)]) (own:=[]) (inl:=[]) (by simp [f59]) (by simp)) Tryz.func130 D130 1 ok130 fun args r e=>?_
 unfold c130 at e
 split at e
 ·rename_i n g
  cases e
  refine⟨by simp,fun hm=>?_⟩
  obtain⟨hg,hn⟩:=hm _ rfl
  refine⟨[],stOf [(0,.rs 6 n (fun i=>(pts g i).cells))] [] 0 [],Wo trivial ⟨⟨rfl,rfl,fun i hi=>(hg i hi).1.symm⟩,qQ⟩ trivial,?_⟩
  obtain⟨V,hV⟩:∃V,V = !anyP (fun i=>!canonP (pts g i)) n:=⟨_,rfl⟩
  rw [←hV]
  have hno:∀b:Bool,(okW b != 0)=true→b=false:=fun b h=>by cases b<;>first|rfl|cases h
  have hyes:∀b:Bool,(okW b != 0)=false→b=true:=fun b h=>by cases b<;>first|rfl|cases h
  with_unfolding_all refine⟨Nat,fun i=>i≤n∧∀j,j < i→canonP (pts g j)=true,fun i=>stOf [(0,.rs 6 n (fun i=>(pts g i).cells)),(3,.val (goInt i))] [] 0 [],fun i=>n - i,⟨0,[],⟨Nat.zero_le _,fun j hj=>absurd hj (Nat.not_lt_zero j)⟩,Wo trivial ⟨qW,rfl,qQ⟩ trivial⟩,fun i hi=>?_⟩
  obtain⟨hin,hI⟩:i≤n∧∀j,j < i→canonP (pts g j)=true:=hi
  with_unfolding_all refine⟨fun h1=>?_,fun h1=>⟨[],stOf [(2,.val (.bool V))] [] 0 [],Wo trivial ⟨?_,qQ⟩ trivial,rfl,rfl⟩⟩
  ·have h1:(i:Int) < n:=ltT h1
   have ei:(i:Int).toNat=i:=Int.toNat_natCast i
   have hp:=(hg i (by omega)).2
   rw [←ei] at hp
   with_unfolding_all refine⟨⟨by omega,by omega⟩,⟨pts g (i:Int).toNat,rfl,hp⟩,fun h2=>⟨[],stOf [(2,.val (.bool V))] [] 0 [],Wo trivial ⟨?_,qQ⟩ trivial,rfl,rfl⟩,fun h2=>⟨i+1,[],⟨by omega,?_⟩,by show n - (i+1) < n - i;omega,Wo trivial ⟨qW,?_,qQ⟩ trivial⟩⟩
   ·have h2:canonP (pts g (i:Int).toNat)=false:=hno _ h2
    rw [ei] at h2
    rw [hV,anyP_true.2 ⟨i,by omega,by rw [h2];rfl⟩]
    rfl
   ·have h2:canonP (pts g (i:Int).toNat)=true:=hyes _ h2
    rw [ei] at h2
    intro j hj
    rcases Nat.lt_or_ge j i with h|h
    ·exact hI j h
    ·obtain rfl:j=i:=by omega
     exact h2
   ·show PV.val (.int .i64 (IntKind.i64.wrap ((i:Int)+1)))=PV.val (.int .i64 ((i+1:Nat):Int))
    rw [wrap64 (by omega) (by omega)]
    rfl
  ·have h1:(n:Int)≤i:=ltF h1
   rw [hV,anyP_false.2 fun j hj=>by rw [hI j (by omega)];rfl]
   rfl
 ·cases e
end Go.Proofs
namespace Go.Num
open Go Go.Ex
def rd1:List PV→Nat×(Nat→List PV)
 |[.rs 6 n g]=>(n,g)
 |_=>(0,fun _=>[])
def eqR (p u:RatS):Bool:=p.s==u.s&&(p.b==u.b&&(p.c==u.c&&true))
def eqP (p u:PtS):Bool:=eqR p.x u.x&&(eqR p.y u.y&&true)
def is1 (k:Nat) (c:List PV):Prop:=c=[.rs 6 (rd1 c).1 (fun i=>(pts (rd1 c).2 i).cells)]∧isPL k (rd1 c).1 (rd1 c).2∧0 < (rd1 c).1
def isC (k:Nat) (c:List PV):Prop:=c=(rdP c).cells∧(rdP c).le k
def le0 (u v:PtS):Bool:=decide (cmpP v u≤0)
def badV (a b v:PtS):Bool:=!eqP v a&&!eqP v b&&decide (orP a b v≤0)
theorem at0 {h:Nat→List PV} {x:List PV} (e:h 0=x):∀i,i < 1→x=h i:=fun i hi=>by
 have:i=0:=by omega
 rw [this,e]
end Go.Num
namespace Go.Proofs
open Go Go.Ex Go.Num
set_option maxRecDepth 100000
def c168:List PV→Option Ans
 |[.val v,.rp 1 1 h 0 0]=>some ⟨some (isPk 10000 v∧is1 10000 (h 0)),.val (.bool (le0 (pts (rd1 (h 0)).2 0) (rdV v))),[]⟩
 |_=>none
theorem ok168:funcOk {} Tryz.f168 2=true:=by kernel_rfl
theorem f168:FnOk Tryz.prog 168 c168:=by
 refine FnOk.ofW orders (mkE_ok (l:=[(38,c38)]) (own:=[]) (inl:=[]) (by simp [f38]) (by simp)) Tryz.func168 {} 2 ok168 fun args r e=>?_
 unfold c168 at e
 split at e
 ·rename_i v h
  cases e
  refine⟨by simp,fun hm=>?_⟩
  obtain⟨⟨p,rfl,hp⟩,h1,⟨hg,hn⟩,h0⟩:=hm _ rfl
  generalize (rd1 (h 0)).1=n at *
  generalize (rd1 (h 0)).2=g at *
  refine⟨[],stOf [(0,.val p.v),(1,.rp 1 1 (fun _=>[.rs 6 n (fun i=>(pts g i).cells)]) 0 0)] [] 0 [],Wo trivial ⟨rfl,?_,qQ⟩ trivial,?_⟩
  ·exact⟨rfl,rfl,rfl,rfl,at0 h1⟩
  ·have h0':0 < n:=h0
   have hp':=hp.mono (show 10000≤4294967296 by decide)
   have hu:=(hg 0 h0').2.mono (show 10000≤4294967296 by decide)
   with_unfolding_all refine⟨⟨by decide,by omega⟩,⟨⟨p,rfl,hp'⟩,pts g (Int.toNat 0),rfl,hu⟩,[],stOf [(3,.val (.bool (le0 (pts g 0) p)))] [] 0 [],Wo trivial ⟨?_,qQ⟩ trivial,rfl,rfl⟩
   rfl
 ·cases e
def c170:List PV→Option Ans
 |[.val v,.rp 6 1 h 0 0,.rp 6 1 h' 0 0]=>some ⟨some (isPk 10000 v∧isC 10000 (h 0)∧isC 10000 (h' 0)),.val (.bool (badV (rdP (h 0)) (rdP (h' 0)) (rdV v))),[]⟩
 |_=>none
theorem ok170:funcOk {} Tryz.f170 3=true:=by kernel_rfl
theorem f170:FnOk Tryz.prog 170 c170:=by
 refine FnOk.ofW orders (mkE_ok (l:=[(107,c107)]) (own:=[]) (inl:=[]) (by simp [f107]) (by simp)) Tryz.func170 {} 3 ok170 fun args r e=>?_
 unfold c170 at e
 split at e
 ·rename_i v h h'
  cases e
  refine⟨by simp,fun hm=>?_⟩
  obtain⟨⟨p,rfl,hp⟩,⟨h1,ha⟩,h2,hb⟩:=hm _ rfl
  generalize rdP (h 0)=a at *
  generalize rdP (h' 0)=b at *
  refine⟨[],stOf [(0,.val p.v),(1,.rp 6 1 (fun _=>a.cells) 0 0),(2,.rp 6 1 (fun _=>b.cells) 0 0)] [] 0 [],Wo trivial ⟨rfl,?_,?_,qQ⟩ trivial,?_⟩
  ·exact⟨rfl,rfl,rfl,rfl,at0 h1⟩
  ·exact⟨rfl,rfl,rfl,rfl,at0 h2⟩
  ·have k1:(!eqP p a)=true→(!eqP p b)=true→PV.val (.bool (decide (orP a b p≤0)))=PV.val (.bool (badV a b p)):=fun h h'=>by
    unfold badV
    rw [h,h']
    rfl
   have k2:(!eqP p b) = !true→PV.val (.bool false)=PV.val (.bool (badV a b p)):=fun h=>by
    unfold badV
    rw [h,Bool.not_true,Bool.and_false,Bool.false_and]
   have k3:(!eqP p a) = !true→PV.val (.bool false)=PV.val (.bool (badV a b p)):=fun h=>by
    unfold badV
    rw [h,Bool.not_true,Bool.false_and,Bool.false_and]
   with_unfolding_all refine⟨fun h3=>⟨fun h4=>⟨⟨⟨a,rfl,ha⟩,⟨b,rfl,hb⟩,p,rfl,hp⟩,⟨[],stOf [(4,.val (.bool (badV a b p)))] [] 0 [],Wo trivial ⟨?_,qQ⟩ trivial,rfl,rfl⟩⟩,fun h4=>⟨[],stOf [(4,.val (.bool (badV a b p)))] [] 0 [],Wo trivial ⟨?_,qQ⟩ trivial,rfl,rfl⟩⟩,fun h3=>⟨fun h4=>(nomatch h4),fun h4=>⟨[],stOf [(4,.val (.bool (badV a b p)))] [] 0 [],Wo trivial ⟨?_,qQ⟩ trivial,rfl,rfl⟩⟩⟩
   ·exact k1 h3 h4
   ·exact k2 h4
   ·exact k3 h3
 ·cases e
def c83_168:List PV→Option Ans
 |[.rs 6 n g,.fn (.func 168) [] [.rp 1 1 cc 0 0]]=>some ⟨some (isPL 10000 n g∧is1 10000 (cc 0)),.val (.int .i64 (ixP (fun i=>le0 (pts (rd1 (cc 0)).2 0) (pts g i)) n 0)),[]⟩
 |_=>none
theorem f83_168:FnOk Tryz.prog 83 c83_168:=by
 refine FnOk.ofW orders (mkE_ok (l:=[(168,c168)]) (own:=[]) (inl:=[]) (by simp [f168]) (by simp)) Tryz.func83 {} 2 ok83 fun args r e=>?_
 unfold c83_168 at e
 split at e
 ·rename_i n g cc
  cases e
  refine⟨by simp,fun hm=>?_⟩
  obtain⟨⟨hg,hn⟩,h1⟩:=hm _ rfl
  refine⟨[],stOf [(0,.rs 6 n (fun i=>(pts g i).cells)),(1,.fn (.func 168) [] [.rp 1 1 cc 0 0])] [] 0 [],Wo trivial ⟨⟨rfl,rfl,fun i hi=>(hg i hi).1.symm⟩,⟨rfl,trivial,⟨rfl,rfl,rfl,rfl,fun _ _=>rfl⟩,qQ⟩,qQ⟩ trivial,?_⟩
  obtain⟨X,hX⟩:∃X,X=ixP (fun i=>le0 (pts (rd1 (cc 0)).2 0) (pts g i)) n 0:=⟨_,rfl⟩
  rw [←hX]
  with_unfolding_all refine⟨Nat,fun i=>i≤n∧ixP (fun i=>le0 (pts (rd1 (cc 0)).2 0) (pts g i)) (n - i) i=X,fun i=>stOf [(0,.rs 6 n (fun i=>(pts g i).cells)),(1,.fn (.func 168) [] [.rp 1 1 cc 0 0]),(7,.val (goInt n)),(8,.val (goInt i))] [] 0 [],fun i=>n - i,⟨0,[],⟨Nat.zero_le _,hX.symm⟩,Wo trivial ⟨qW,⟨rfl,trivial,⟨rfl,rfl,rfl,rfl,fun _ _=>rfl⟩,qQ⟩,rfl,rfl,qQ⟩ trivial⟩,fun i hi=>?_⟩
  obtain⟨hin,hI⟩:i≤n∧ixP (fun i=>le0 (pts (rd1 (cc 0)).2 0) (pts g i)) (n - i) i=X:=hi
  with_unfolding_all refine⟨fun h=>?_,fun h=>⟨[],stOf [(4,.val (.int .i64 X))] [] 0 [],Wo trivial ⟨?_,qQ⟩ trivial,rfl,rfl⟩⟩
  ·have h:(i:Int) < n:=ltT h
   have e:(i:Int).toNat=i:=Int.toNat_natCast i
   have hstep:ixP (fun i=>le0 (pts (rd1 (cc 0)).2 0) (pts g i)) (n - i) i=bif le0 (pts (rd1 (cc 0)).2 0) (pts g i) then(i:Int) else ixP (fun i=>le0 (pts (rd1 (cc 0)).2 0) (pts g i)) (n - (i+1)) (i+1):=by
    rw [show n - i=(n - (i+1))+1 by omega]
    rfl
   have hip:=(hg i (by omega)).2
   rw [←e] at hip
   with_unfolding_all refine⟨⟨by omega,by omega⟩,⟨⟨pts g (i:Int).toNat,rfl,hip⟩,h1⟩,fun h'=>⟨[],stOf [(4,.val (.int .i64 X))] [] 0 [],Wo trivial ⟨?_,qQ⟩ trivial,rfl,rfl⟩,fun h'=>⟨i+1,[],⟨by omega,?_⟩,by show n - (i+1) < n - i;omega,Wo trivial ⟨qW,⟨rfl,trivial,⟨rfl,rfl,rfl,rfl,fun _ _=>rfl⟩,qQ⟩,rfl,?_,qQ⟩ trivial⟩⟩
   ·have h':(le0 (pts (rd1 (cc 0)).2 0) (pts g (i:Int).toNat))=true:=h'
    rw [e] at h'
    rw [h',cond_true] at hstep
    exact congrArg (fun z=>PV.val (.int .i64 z)) (hstep.symm.trans hI)
   ·have h':(le0 (pts (rd1 (cc 0)).2 0) (pts g (i:Int).toNat))=false:=h'
    rw [e] at h'
    rw [h',cond_false] at hstep
    exact hstep.symm.trans hI
   ·show PV.val (.int .i64 (IntKind.i64.wrap ((i:Int)+1)))=PV.val (.int .i64 ((i+1:Nat):Int))
    rw [wrap64 (by omega) (by omega)]
    rfl
  ·have h:(n:Int)≤i:=ltF h
   rw [show n - i=0 by omega] at hI
   exact congrArg (fun z=>PV.val (.int .i64 z)) hI
 ·cases e
def c65_168:List PV→Option Ans
 |[.rs 6 n g,.fn (.func 168) [] [.rp 1 1 cc 0 0]]=>some ⟨some (isPL 10000 n g∧is1 10000 (cc 0)),.val (.bool (anyP (fun i=>le0 (pts (rd1 (cc 0)).2 0) (pts g i)) n)),[]⟩
 |_=>none
theorem f65_168:FnOk Tryz.prog 65 c65_168:=by
 refine FnOk.ofW orders (mkE_ok (l:=[(83,c83_168)]) (own:=[]) (inl:=[]) (by simp [f83_168]) (by simp)) Tryz.func65 {} 2 ok65 fun args r e=>?_
 unfold c65_168 at e
 split at e
 ·rename_i n g cc
  cases e
  refine⟨by simp,fun hm=>?_⟩
  have hp:=hm _ rfl
  refine⟨[],stOf [(0,.rs 6 n g),(1,.fn (.func 168) [] [.rp 1 1 cc 0 0])] [] 0 [],Wo trivial ⟨⟨rfl,rfl,fun i hi=>rfl⟩,⟨rfl,trivial,⟨rfl,rfl,rfl,rfl,fun _ _=>rfl⟩,qQ⟩,qQ⟩ trivial,?_⟩
  with_unfolding_all refine⟨hp,[],stOf [(4,.val (.bool (anyP (fun i=>le0 (pts (rd1 (cc 0)).2 0) (pts g i)) n)))] [] 0 [],Wo trivial ⟨?_,qQ⟩ trivial,rfl,rfl⟩
  exact congrArg (fun z=>PV.val (.bool z)) (ixP_any _ _)
 ·cases e
def c83_170:List PV→Option Ans
 |[.rs 6 n g,.fn (.func 170) [] [.rp 6 1 cc 0 0,.rp 6 1 dd 0 0]]=>some ⟨some (isPL 10000 n g∧isC 10000 (cc 0)∧isC 10000 (dd 0)),.val (.int .i64 (ixP (fun i=>badV (rdP (cc 0)) (rdP (dd 0)) (pts g i)) n 0)),[]⟩
 |_=>none
theorem f83_170:FnOk Tryz.prog 83 c83_170:=by
 refine FnOk.ofW orders (mkE_ok (l:=[(170,c170)]) (own:=[]) (inl:=[]) (by simp [f170]) (by simp)) Tryz.func83 {} 2 ok83 fun args r e=>?_
 unfold c83_170 at e
 split at e
 ·rename_i n g cc dd
  cases e
  refine⟨by simp,fun hm=>?_⟩
  obtain⟨⟨hg,hn⟩,h1,h2⟩:=hm _ rfl
  refine⟨[],stOf [(0,.rs 6 n (fun i=>(pts g i).cells)),(1,.fn (.func 170) [] [.rp 6 1 cc 0 0,.rp 6 1 dd 0 0])] [] 0 [],Wo trivial ⟨⟨rfl,rfl,fun i hi=>(hg i hi).1.symm⟩,⟨rfl,trivial,⟨rfl,rfl,rfl,rfl,fun _ _=>rfl⟩,⟨rfl,rfl,rfl,rfl,fun _ _=>rfl⟩,qQ⟩,qQ⟩ trivial,?_⟩
  obtain⟨X,hX⟩:∃X,X=ixP (fun i=>badV (rdP (cc 0)) (rdP (dd 0)) (pts g i)) n 0:=⟨_,rfl⟩
  rw [←hX]
  with_unfolding_all refine⟨Nat,fun i=>i≤n∧ixP (fun i=>badV (rdP (cc 0)) (rdP (dd 0)) (pts g i)) (n - i) i=X,fun i=>stOf [(0,.rs 6 n (fun i=>(pts g i).cells)),(1,.fn (.func 170) [] [.rp 6 1 cc 0 0,.rp 6 1 dd 0 0]),(7,.val (goInt n)),(8,.val (goInt i))] [] 0 [],fun i=>n - i,⟨0,[],⟨Nat.zero_le _,hX.symm⟩,Wo trivial ⟨qW,⟨rfl,trivial,⟨rfl,rfl,rfl,rfl,fun _ _=>rfl⟩,⟨rfl,rfl,rfl,rfl,fun _ _=>rfl⟩,qQ⟩,rfl,rfl,qQ⟩ trivial⟩,fun i hi=>?_⟩
  obtain⟨hin,hI⟩:i≤n∧ixP (fun i=>badV (rdP (cc 0)) (rdP (dd 0)) (pts g i)) (n - i) i=X:=hi
  with_unfolding_all refine⟨fun h=>?_,fun h=>⟨[],stOf [(4,.val (.int .i64 X))] [] 0 [],Wo trivial ⟨?_,qQ⟩ trivial,rfl,rfl⟩⟩
  ·have h:(i:Int) < n:=ltT h
   have e:(i:Int).toNat=i:=Int.toNat_natCast i
   have hstep:ixP (fun i=>badV (rdP (cc 0)) (rdP (dd 0)) (pts g i)) (n - i) i=bif badV (rdP (cc 0)) (rdP (dd 0)) (pts g i) then(i:Int) else ixP (fun i=>badV (rdP (cc 0)) (rdP (dd 0)) (pts g i)) (n - (i+1)) (i+1):=by
    rw [show n - i=(n - (i+1))+1 by omega]
    rfl
   have hip:=(hg i (by omega)).2
   rw [←e] at hip
   with_unfolding_all refine⟨⟨by omega,by omega⟩,⟨⟨pts g (i:Int).toNat,rfl,hip⟩,h1,h2⟩,fun h'=>⟨[],stOf [(4,.val (.int .i64 X))] [] 0 [],Wo trivial ⟨?_,qQ⟩ trivial,rfl,rfl⟩,fun h'=>⟨i+1,[],⟨by omega,?_⟩,by show n - (i+1) < n - i;omega,Wo trivial ⟨qW,⟨rfl,trivial,⟨rfl,rfl,rfl,rfl,fun _ _=>rfl⟩,⟨rfl,rfl,rfl,rfl,fun _ _=>rfl⟩,qQ⟩,rfl,?_,qQ⟩ trivial⟩⟩
   ·have h':(badV (rdP (cc 0)) (rdP (dd 0)) (pts g (i:Int).toNat))=true:=h'
    rw [e] at h'
    rw [h',cond_true] at hstep
    exact congrArg (fun z=>PV.val (.int .i64 z)) (hstep.symm.trans hI)
   ·have h':(badV (rdP (cc 0)) (rdP (dd 0)) (pts g (i:Int).toNat))=false:=h'
    rw [e] at h'
    rw [h',cond_false] at hstep
    exact hstep.symm.trans hI
   ·show PV.val (.int .i64 (IntKind.i64.wrap ((i:Int)+1)))=PV.val (.int .i64 ((i+1:Nat):Int))
    rw [wrap64 (by omega) (by omega)]
    rfl
  ·have h:(n:Int)≤i:=ltF h
   rw [show n - i=0 by omega] at hI
   exact congrArg (fun z=>PV.val (.int .i64 z)) hI
 ·cases e
def c65_170:List PV→Option Ans
 |[.rs 6 n g,.fn (.func 170) [] [.rp 6 1 cc 0 0,.rp 6 1 dd 0 0]]=>some ⟨some (isPL 10000 n g∧isC 10000 (cc 0)∧isC 10000 (dd 0)),.val (.bool (anyP (fun i=>badV (rdP (cc 0)) (rdP (dd 0)) (pts g i)) n)),[]⟩
 |_=>none
theorem f65_170:FnOk Tryz.prog 65 c65_170:=by
 refine FnOk.ofW orders (mkE_ok (l:=[(83,c83_170)]) (own:=[]) (inl:=[]) (by simp [f83_170]) (by simp)) Tryz.func65 {} 2 ok65 fun args r e=>?_
 unfold c65_170 at e
 split at e
 ·rename_i n g cc dd
  cases e
  refine⟨by simp,fun hm=>?_⟩
  have hp:=hm _ rfl
  refine⟨[],stOf [(0,.rs 6 n g),(1,.fn (.func 170) [] [.rp 6 1 cc 0 0,.rp 6 1 dd 0 0])] [] 0 [],Wo trivial ⟨⟨rfl,rfl,fun i hi=>rfl⟩,⟨rfl,trivial,⟨rfl,rfl,rfl,rfl,fun _ _=>rfl⟩,⟨rfl,rfl,rfl,rfl,fun _ _=>rfl⟩,qQ⟩,qQ⟩ trivial,?_⟩
  with_unfolding_all refine⟨hp,[],stOf [(4,.val (.bool (anyP (fun i=>badV (rdP (cc 0)) (rdP (dd 0)) (pts g i)) n)))] [] 0 [],Wo trivial ⟨?_,qQ⟩ trivial,rfl,rfl⟩
  exact congrArg (fun z=>PV.val (.bool z)) (ixP_any _ _)
 ·cases e
end Go.Proofs
namespace Go.Num
open Go Go.Ex
def is2 (h:Nat→List PV):Prop:=(h=fun _=>[.rs 6 (rd1 (h 0)).1 (fun i=>(pts (rd1 (h 0)).2 i).cells)])∧(rd1 (h 0)).1≤140737488355328
end Go.Num
namespace Go.Proofs
open Go Go.Ex Go.Num
set_option maxRecDepth 100000
def c169:List PV→Option Ans
 |[.rs 6 n g]=>some ⟨some (∀i,i < n→g i=(pts g i).cells),.fn (.func 207) [] [.rp 1 1 (fun _=>[.rs 6 n (fun i=>(pts g i).cells)]) 0 0],[]⟩
 |_=>none
theorem ok169:funcOk {} Tryz.f169 1=true:=by kernel_rfl
theorem f169:FnOk Tryz.prog 169 c169:=by
 refine FnOk.ofW orders (mkE_ok (l:=[]) (own:=[]) (inl:=[]) (by simp) (by simp)) Tryz.func169 {} 1 ok169 fun args r e=>?_
 unfold c169 at e
 split at e
 ·rename_i n g
  cases e
  refine⟨by simp,fun hm=>?_⟩
  have hg:=hm _ rfl
  refine⟨[],stOf [(0,.rs 6 n (fun i=>(pts g i).cells))] [] 0 [],Wo trivial ⟨⟨rfl,rfl,fun i hi=>(hg i hi).symm⟩,qQ⟩ trivial,?_⟩
  with_unfolding_all exact⟨[some 0],stOf [(2,.fn (.func 207) [] [.ptr 0 0 0 0])] [⟨34,1,0,true,false,1,fun _=>[.rs 6 n (fun i=>(pts g i).cells)]⟩] 1 [],Wo ⟨qZ ⟨⟨qW,rfl⟩,qQ⟩,qQ⟩ ⟨⟨rfl,trivial,pP,qQ⟩,qQ⟩ trivial,rfl,rfl⟩
 ·cases e
def c207:List PV→Option SeqA
 |[.rp 1 1 h 0 0]=>some ⟨some (is2 h),(rd1 (h 0)).1,fun i=>[.val (pts (rd1 (h 0)).2 i).v,.val (pts (rd1 (h 0)).2 ((i+1)%(rd1 (h 0)).1)).v]⟩
 |_=>none
def D207:Opt:={ perm:=atR 3 (rds 10) }
theorem ok207:funcOk D207.toOrd Tryz.f207 2=true:=by kernel_rfl
theorem f207:SeqFn Tryz.prog 207 c207:=by
 refine SeqFn.of orders (mkE_ok (l:=[]) (own:=[]) (inl:=[]) (by simp) (by simp)) Tryz.func207 D207 2 ok207 rfl fun args r e=>?_
 unfold c207 at e
 split at e
 ·rename_i h
  cases e
  refine⟨by simp,fun hm l=>?_⟩
  obtain⟨h1,hn⟩:=hm _ rfl
  generalize (rd1 (h 0)).1=n at *
  generalize (rd1 (h 0)).2=g at *
  subst h1
  with_unfolding_all refine⟨Nat,fun x=>x≤n,fun x=>stOf [(0,.val (.func (.yield l) ⟨[]⟩ ⟨[]⟩)),(1,.rp 1 1 (fun _=>[.rs 6 n (fun i=>(pts g i).cells)]) 0 0),(5,.rs 6 n (fun i=>(pts g i).cells)),(6,.val (goInt n)),(7,.val (goInt (x:Nat)))] [] 0 [[(0,.val (.int .i64 (x:Nat))),(1,.val (.bool false))]],fun x=>n - x,⟨0,[],Nat.zero_le _,Wo trivial ⟨rfl,⟨rfl,rfl,rfl,rfl,fun _ _=>rfl⟩,qW,rfl,rfl,qQ⟩ ⟨⟨rfl,rfl,qQ⟩,qQ⟩⟩,fun x hx=>?_⟩
  have hx:x≤n:=hx
  with_unfolding_all refine⟨fun h1=>?_,fun h1=>?_⟩
  ·have h1:(x:Int) < n:=ltT h1
   have wx:IntKind.i64.wrap ((x:Int)+1)=((x+1:Nat):Int):=by rw [wrap64 (by omega) (by omega)];rfl
   have hm:(IntKind.i64.wrap ((x:Int)+1)).tmod (n:Int)=(((x+1)%n:Nat):Int):=by rw [wx];rfl
   have hml:=Nat.mod_lt (x+1) (show 0 < n by omega)
   have hxn:x < n:=by omega
   have kd:∀(a b:Nat),a=x→b=(x+1)%n→[PV.val (pts g a).v,PV.val (pts g b).v]=[PV.val (pts g x).v,PV.val (pts g ((x+1)%n)).v]:=fun a b ha hb=>by rw [ha,hb]
   have m1:0≤(IntKind.i64.wrap ((x:Int)+1)).tmod (n:Int)∧(IntKind.i64.wrap ((x:Int)+1)).tmod (n:Int) < (n:Int):=by rw [hm];omega
   have m2:(IntKind.i64.wrap ((x:Int)+1)).tmod (n:Int)=(((x+1)%n:Nat):Int):=hm
   have m3:((IntKind.i64.wrap ((x:Int)+1)).tmod (n:Int)).toNat=(x+1)%n:=by rw [hm];exact Int.toNat_natCast _
   with_unfolding_all refine⟨⟨by omega,by omega⟩,by omega,m1,rfl,x,rfl,hxn,?_,⟨fun h=>(nomatch h),fun h=>⟨x+1,[],hxn,by show n - (x+1) < n - x;omega,Wo trivial ⟨rfl,⟨rfl,rfl,rfl,rfl,fun _ _=>rfl⟩,qW,rfl,congrArg (fun z=>PV.val (.int .i64 z)) wx,qQ⟩ ⟨⟨rfl,rfl,qQ⟩,qQ⟩⟩⟩,⟨fun h=>trivial,fun h=>(nomatch h)⟩⟩
   exact kd _ _ (Int.toNat_natCast x) m3
  ·have h1:(n:Int)≤x:=ltF h1
   show(x:Int)=(n:Nat)
   omega
 ·cases e
def c167:List PV→Option Ans
 |[.rs 6 n g]=>some ⟨some (isPL 4294967296 n g),.val (.bool (!anyP (fun i=>!canonP (pts g i)) n)),[]⟩
 |_=>none
theorem ok167:funcOk {} Tryz.f167 1=true:=by kernel_rfl
theorem f167:FnOk Tryz.prog 167 c167:=by
 refine FnOk.ofW orders (mkE_ok (l:=[(65,c65_206)]) (own:=[]) (inl:=[]) (by simp [f65_206]) (by simp)) Tryz.func167 {} 1 ok167 fun args r e=>?_
 unfold c167 at e
 split at e
 ·rename_i n g
  cases e
  refine⟨by simp,fun hm=>?_⟩
  have hg:=hm _ rfl
  refine⟨[],stOf [(0,.rs 6 n g)] [] 0 [],Wo trivial ⟨⟨rfl,rfl,fun i hi=>rfl⟩,qQ⟩ trivial,?_⟩
  with_unfolding_all exact⟨hg,[],stOf [(2,.val (.bool (!anyP (fun i=>!canonP (pts g i)) n)))] [] 0 [],Wo trivial ⟨rfl,qQ⟩ trivial,rfl,rfl⟩
 ·cases e
end Go.Proofs
theorem Go.Ex.FnOk.orElse {P:Go.Program} {f:Go.FuncId} {s t:List Go.Ex.PV→Option Go.Ex.Ans} (h1:Go.Ex.FnOk P f s) (h2:Go.Ex.FnOk P f t):Go.Ex.FnOk P f (fun a=>(s a).orElse fun _=>t a):=fun args r e=>by
 replace e:((s args).orElse fun _=>t args)=some r:=e
 cases hs:s args with
 |some x =>
  rw [hs] at e
  exact h1 args r (by rw [hs];exact e)
 |none =>
  rw [hs] at e
  exact h2 args r e
namespace Go.Num
open Go Go.Ex Go.Proofs
def ringE (n:Nat) (p:Nat→PtS):Int:=bif decide (n < 3)||decide (64 < n) then 4 else bif anyP (fun i=>!canonP (p i)) n then 1 else bif anyP (fun i=>le0 (p 0) (p (1+i))) (n - 1) then 8 else bif anyP (fun e=>anyP (fun i=>badV (p e) (p ((e+1)%n)) (p i)) n) n then 15 else 0
end Go.Num
namespace Go.Proofs
open Go Go.Ex Go.Num
set_option maxRecDepth 100000
def c124:List PV→Option Ans
 |[.rs 6 n g]=>some ⟨some (isPL 10000 n g),.val (.int .i64 (ringE n (pts g))),[]⟩
 |_=>none
def D124:Opt:={ join:=joinAt [1] }
theorem ok124:funcOk D124.toOrd Tryz.f124 1=true:=by kernel_rfl
theorem f124:FnOk Tryz.prog 124 c124:=by
 refine FnOk.ofW orders (mkS_ok (l:=[(167,c167),(65,fun a=>(c65_168 a).orElse fun _=>c65_170 a),(169,c169)]) (own:=[]) (inl:=[]) (sq:=[(207,c207)]) ?_ (by simp) (by simp [f207])) Tryz.func124 D124 1 ok124 fun args r e=>?_
 ·simp only [List.mem_cons,List.not_mem_nil,or_false,forall_eq_or_imp,forall_eq]
  exact⟨f167,FnOk.orElse f65_168 f65_170,f169⟩
 unfold c124 at e
 split at e
 ·rename_i n g
  cases e
  refine⟨by simp,fun hm=>?_⟩
  obtain⟨hg,hn⟩:=hm _ rfl
  refine⟨[],stOf [(0,.rs 6 n (fun i=>(pts g i).cells))] [] 0 [],Wo trivial ⟨⟨rfl,rfl,fun i hi=>(hg i hi).1.symm⟩,qQ⟩ trivial,?_⟩
  have pl:isPL 10000 n (fun i=>(pts g i).cells):=⟨fun i hi=>⟨rfl,(hg i hi).2⟩,hn⟩
  have pl2:isPL 4294967296 n (fun i=>(pts g i).cells):=⟨fun i hi=>⟨rfl,((hg i hi).2).mono (by decide)⟩,hn⟩
  with_unfolding_all refine⟨Unit,fun _=>(decide (n < 3)||decide (64 < n))=false,fun _=>stOf [(1,.ptr 0 0 0 0),(2,.ptr 1 1 0 0)] [⟨34,1,0,true,false,1,fun _=>[.rs 6 n (fun i=>(pts g i).cells)]⟩,⟨38,1,1,true,false,1,fun _=>[.val (.int .i64 0)]⟩] 2 [],?_,fun _ h1=>?_⟩
  ·have j1:decide ((n:Int) < 3)=false→decide ((n:Int) > 64)=false→(decide (n < 3)||decide (64 < n))=false:=fun h h'=>by
    have h:=of_decide_eq_false h
    have h':=of_decide_eq_false h'
    rw [decide_eq_false (by omega),decide_eq_false (by omega)]
    rfl
   have v4:(decide (n < 3)||decide (64 < n))=true→PV.val (.int .i64 4)=PV.val (.int .i64 (ringE n (pts g))):=fun h=>by
    unfold ringE
    rw [h]
    rfl
   have q1:decide ((n:Int) > 64)=true→(decide (n < 3)||decide (64 < n))=true:=fun h=>by
    have h:=of_decide_eq_true h
    rw [decide_eq_true (show 64 < n by omega),Bool.or_true]
   have q2:decide ((n:Int) < 3) = !false→(decide (n < 3)||decide (64 < n))=true:=fun h=>by
    have h:(n:Int) < 3:=of_decide_eq_true h
    rw [decide_eq_true (show n < 3 by omega),Bool.true_or]
   with_unfolding_all refine⟨fun h1=>⟨fun h2=>⟨[some 1],stOf [(2,.ptr 0 0 0 0)] [⟨38,1,0,true,false,1,fun _=>[.val (.int .i64 (ringE n (pts g)))]⟩] 1 [],Wo ⟨qZ ⟨⟨v4 (q1 h2),rfl⟩,qQ⟩,qQ⟩ ⟨pP,qQ⟩ trivial,rfl,rfl⟩,fun h2=>⟨(),[some 0,some 1],j1 h1 h2,Wo ⟨qZ ⟨⟨qW,rfl⟩,qQ⟩,qY,qQ⟩ ⟨pP,pP,qQ⟩ trivial⟩⟩,fun h1=>⟨fun h2=>⟨[some 1],stOf [(2,.ptr 0 0 0 0)] [⟨38,1,0,true,false,1,fun _=>[.val (.int .i64 (ringE n (pts g)))]⟩] 1 [],Wo ⟨qZ ⟨⟨v4 (q2 h1),rfl⟩,qQ⟩,qQ⟩ ⟨pP,qQ⟩ trivial,rfl,rfl⟩,fun h2=>(nomatch h2)⟩⟩
  ·have h1:(decide (n < 3)||decide (64 < n))=false:=h1
   have hn3:3≤n:=by
    rw [Bool.or_eq_false_iff] at h1
    have:=of_decide_eq_false h1.1
    omega
   obtain⟨A1,hA1⟩:∃b,b=anyP (fun i=>!canonP (pts g i)) n:=⟨_,rfl⟩
   obtain⟨A2,hA2⟩:∃b,b=anyP (fun i=>le0 (pts g 0) (pts g (1+i))) (n - 1):=⟨_,rfl⟩
   obtain⟨A3,hA3⟩:∃b,b=anyP (fun e=>anyP (fun i=>badV (pts g e) (pts g ((e+1)%n)) (pts g i)) n) n:=⟨_,rfl⟩
   have vE:ringE n (pts g)=bif A1 then 1 else bif A2 then 8 else bif A3 then 15 else 0:=by
    unfold ringE
    rw [h1,←hA1,←hA2,←hA3]
    rfl
   have a1:(!!anyP (fun i=>!canonP (pts (fun i=>(pts g i).cells) i)) n)=A1:=by rw [hA1,Bool.not_not];rfl
   have a2:anyP (fun i=>le0 (pts (rd1 ((fun(x:Nat)=>[PV.rs 6 n (fun i=>(pts g i).cells)]) 0)).2 0) (pts (fun k=>(fun i=>(pts g i).cells) (Int.toNat 1+k)) i)) ((n:Int) - 1).toNat=A2:=by
    rw [hA2,show((n:Int) - 1).toNat=n - 1 by omega]
    rfl
   have v1:(!!anyP (fun i=>!canonP (pts (fun i=>(pts g i).cells) i)) n)=true→PV.val (.int .i64 1)=PV.val (.int .i64 (ringE n (pts g))):=fun h=>by
    rw [a1] at h
    rw [vE,h]
    rfl
   have v8:(!!anyP (fun i=>!canonP (pts (fun i=>(pts g i).cells) i)) n)=false→anyP (fun i=>le0 (pts (rd1 ((fun(x:Nat)=>[PV.rs 6 n (fun i=>(pts g i).cells)]) 0)).2 0) (pts (fun k=>(fun i=>(pts g i).cells) (Int.toNat 1+k)) i)) ((n:Int) - 1).toNat=true→PV.val (.int .i64 8)=PV.val (.int .i64 (ringE n (pts g))):=fun h h'=>by
    rw [a1] at h
    rw [a2] at h'
    rw [vE,h,h']
    rfl
   have p2:isPL 10000 ((n:Int) - 1).toNat (fun k=>(fun i=>(pts g i).cells) (Int.toNat 1+k)):=⟨fun i hi=>⟨rfl,(hg (1+i) (by omega)).2⟩,by omega⟩
   ·with_unfolding_all refine⟨pl2,fun h2=>⟨[some 1],stOf [(2,.ptr 0 0 0 0)] [⟨38,1,0,true,false,1,fun _=>[.val (.int .i64 (ringE n (pts g)))]⟩] 1 [],Wo ⟨qZ ⟨⟨v1 h2,rfl⟩,qQ⟩,qQ⟩ ⟨pP,qQ⟩ trivial,rfl,rfl⟩,fun h2=>⟨⟨by decide,by omega,by omega⟩,⟨p2,rfl,pl,by show 0 < n;omega⟩,fun h3=>⟨[some 1],stOf [(2,.ptr 0 0 0 0)] [⟨38,1,0,true,false,1,fun _=>[.val (.int .i64 (ringE n (pts g)))]⟩] 1 [],Wo ⟨qZ ⟨⟨v8 h2 h3,rfl⟩,qQ⟩,qQ⟩ ⟨pP,qQ⟩ trivial,rfl,rfl⟩,fun h3=>⟨fun _ _=>rfl,⟨rfl,hn⟩,?_⟩⟩⟩
    with_unfolding_all refine⟨Unit,fun k _=>∀e,e < k→anyP (fun i=>badV (pts g e) (pts g ((e+1)%n)) (pts g i)) n=false,fun _=>stOf [(1,.ptr 0 0 0 0),(2,.ptr 1 1 0 0)] [⟨34,1,0,true,false,1,fun _=>[.rs 6 n (fun i=>(pts g i).cells)]⟩,⟨38,1,1,true,false,1,fun _=>[.val (.int .i64 0)]⟩] 2 [],⟨(),[some 0,some 1],fun e he=>absurd he (Nat.not_lt_zero e),Wo ⟨qZ ⟨⟨qW,rfl⟩,qQ⟩,qY,qQ⟩ ⟨pP,pP,qQ⟩ trivial⟩,fun k y hk hI=>?_,fun y hI=>?_⟩
    ·have hk:k < n:=hk
     have hI:∀e,e < k→anyP (fun i=>badV (pts g e) (pts g ((e+1)%n)) (pts g i)) n=false:=hI
     have hml:=Nat.mod_lt (k+1) (show 0 < n by omega)
     have c1:isC 10000 (pts g k).cells:=⟨rfl,(hg k hk).2⟩
     have c2:isC 10000 (pts g ((k+1)%n)).cells:=⟨rfl,(hg _ hml).2⟩
     have w15:anyP (fun i=>badV (pts g k) (pts g ((k+1)%n)) (pts g i)) n=true→(!!anyP (fun i=>!canonP (pts (fun i=>(pts g i).cells) i)) n)=false→anyP (fun i=>le0 (pts (rd1 ((fun(x:Nat)=>[PV.rs 6 n (fun i=>(pts g i).cells)]) 0)).2 0) (pts (fun k=>(fun i=>(pts g i).cells) (Int.toNat 1+k)) i)) ((n:Int) - 1).toNat=false→PV.val (.int .i64 15)=PV.val (.int .i64 (ringE n (pts g))):=fun h h' h''=>by
      rw [a1] at h'
      rw [a2] at h''
      have e3:A3=true:=by rw [hA3];exact anyP_true.2 ⟨k,hk,h⟩
      rw [vE,h',h'',e3]
      rfl
     with_unfolding_all refine⟨rfl,⟨pl,c1,c2⟩,fun h4=>?_,fun h4=>⟨(),[some 0,some 1],?_,Wo ⟨qZ ⟨⟨qW,rfl⟩,qQ⟩,qY,qQ⟩ ⟨pP,pP,qQ⟩ trivial⟩⟩
     ·with_unfolding_all exact⟨[some 1],stOf [(2,.ptr 0 0 0 0)] [⟨38,1,0,true,false,1,fun _=>[.val (.int .i64 (ringE n (pts g)))]⟩] 1 [],Wo ⟨qZ ⟨⟨w15 h4 h2 h3,rfl⟩,qQ⟩,qQ⟩ ⟨pP,qQ⟩ trivial,rfl,rfl⟩
     ·intro e he
      have he:e < k+1:=he
      rcases Nat.lt_or_ge e k with h|h
      ·exact hI e h
      ·obtain rfl:e=k:=by omega
       exact h4
    ·have hI:∀e,e < n→anyP (fun i=>badV (pts g e) (pts g ((e+1)%n)) (pts g i)) n=false:=hI
     have e3:A3=false:=by rw [hA3];exact anyP_false.2 hI
     have w0:PV.val (.int .i64 0)=PV.val (.int .i64 (ringE n (pts g))):=by
      rw [a1] at h2
      rw [a2] at h3
      rw [vE,h2,h3,e3]
      rfl
     with_unfolding_all exact⟨[some 1],stOf [(2,.ptr 0 0 0 0)] [⟨38,1,0,true,false,1,fun _=>[.val (.int .i64 (ringE n (pts g)))]⟩] 1 [],Wo ⟨qZ ⟨⟨w0,rfl⟩,qQ⟩,qQ⟩ ⟨pP,qQ⟩ trivial,rfl,rfl⟩
 ·cases e
end Go.Proofs
namespace Go.Num
open Go Go.Ex Go.Proofs
def pn (c:Nat→List PV) (i:Nat):Nat:=(rd1 (c i)).1
def pg (c:Nat→List PV) (i:Nat):Nat→List PV:=(rd1 (c i)).2
def rdO:List PV→Int×Int×Int
 |[.val (.int .i64 x),.val (.int .i64 y),.val (.int .i64 z)]=>(x,y,z)
 |_=>(0,0,0)
def cellsO (q:Int×Int×Int):List PV:=[.val (.int .i64 q.1),.val (.int .i64 q.2.1),.val (.int .i64 q.2.2)]
def ow (o:Nat→List PV) (i:Nat):Int×Int×Int:=rdO (o i)
def isCL (K k:Nat) (c:Nat→List PV):Prop:=(∀i,i < k→c i=[.rs 6 (pn c i) (pg c i)]∧isPL K (pn c i) (pg c i))∧k≤140737488355328
def isOL (l:Nat) (o:Nat→List PV):Prop:=(∀i,i < l→o i=cellsO (ow o i))∧l≤140737488355328
def firstE (e:Nat→Int):Nat→Nat→Int
 |0,_=>0
 |n+1,i=>bif e i==0 then firstE e n (i+1) else e i
def sumN (n:Nat→Nat):Nat→Nat
 |0=>0
 |k+1=>sumN n k+n k
def negO (q:Int×Int×Int):Bool:=decide (q.1 < 0)||decide (q.2.1 < 0)||decide (q.2.2 < 0)
def regE (lo hi:PtS) (k:Nat) (n:Nat→Nat) (p:Nat→Nat→PtS) (l:Nat) (q:Nat→Int×Int×Int):Int :=
 bif !canonP lo||!canonP hi then 1 else bif decide (32 < k) then 4 else bif !(firstE (fun i=>ringE (n i) (p i)) k 0==0) then firstE (fun i=>ringE (n i) (p i)) k 0
 else bif decide (396 < sumN n k) then 4 else bif !decide (l=k) then 9 else bif anyP (fun i=>negO (q i)) l then 2 else 0
end Go.Num
namespace Go.Proofs
open Go Go.Ex Go.Num
set_option maxRecDepth 100000
def c89:List PV→Option Ans
 |[.agg [.val (.bool s1),.val (.string b1),.val (.string c1),.val (.bool s2),.val (.string b2),.val (.string c2),.val (.bool s3),.val (.string b3),.val (.string c3),.val (.bool s4),.val (.string b4),.val (.string c4),.rs 1 k c,.rs 3 l o]]=>some ⟨some ((PtS.le 4294967296 (PtS.mk ⟨s1,b1,c1⟩ ⟨s2,b2,c2⟩)∧PtS.le 4294967296 (PtS.mk ⟨s3,b3,c3⟩ ⟨s4,b4,c4⟩))∧isCL 10000 k c∧isOL l o),.val (.int .i64 (regE (PtS.mk ⟨s1,b1,c1⟩ ⟨s2,b2,c2⟩) (PtS.mk ⟨s3,b3,c3⟩ ⟨s4,b4,c4⟩) k (pn c) (fun i=>pts (pg c i)) l (ow o))),[]⟩
 |_=>none
def D89:Opt:={ join:=joinAt [1] }
theorem ok89:funcOk D89.toOrd Tryz.f89 1=true:=by kernel_rfl
theorem f89:FnOk Tryz.prog 89 c89:=by
 refine FnOk.ofW orders (mkE_ok (l:=[(67,c67),(124,c124)]) (own:=[]) (inl:=[]) (by simp [f67,f124]) (by simp)) Tryz.func89 D89 1 ok89 fun args r e=>?_
 unfold c89 at e
 split at e
 ·rename_i s1 b1 c1 s2 b2 c2 s3 b3 c3 s4 b4 c4 k c l o
  cases e
  refine⟨by simp,fun hm=>?_⟩
  obtain⟨⟨hlo,hhi⟩,⟨hc,hk⟩,ho,hl⟩:=hm _ rfl
  obtain⟨lo,hlo'⟩:∃p,p=(PtS.mk ⟨s1,b1,c1⟩ ⟨s2,b2,c2⟩):=⟨_,rfl⟩
  obtain⟨hi,hhi'⟩:∃p,p=(PtS.mk ⟨s3,b3,c3⟩ ⟨s4,b4,c4⟩):=⟨_,rfl⟩
  have hc1:∀i,i < k→[.rs 6 (pn c i) (pg c i)]=c i:=fun i hi=>(hc i hi).1.symm
  have ho1:∀i,i < l→cellsO (ow o i)=o i:=fun i hi=>(ho i hi).symm
  refine⟨[],stOf [(0,.agg [.val (.bool (PtS.mk ⟨s1,b1,c1⟩ ⟨s2,b2,c2⟩).x.s),.val (.string (PtS.mk ⟨s1,b1,c1⟩ ⟨s2,b2,c2⟩).x.b),.val (.string (PtS.mk ⟨s1,b1,c1⟩ ⟨s2,b2,c2⟩).x.c),.val (.bool (PtS.mk ⟨s1,b1,c1⟩ ⟨s2,b2,c2⟩).y.s),.val (.string (PtS.mk ⟨s1,b1,c1⟩ ⟨s2,b2,c2⟩).y.b),.val (.string (PtS.mk ⟨s1,b1,c1⟩ ⟨s2,b2,c2⟩).y.c),.val (.bool (PtS.mk ⟨s3,b3,c3⟩ ⟨s4,b4,c4⟩).x.s),.val (.string (PtS.mk ⟨s3,b3,c3⟩ ⟨s4,b4,c4⟩).x.b),.val (.string (PtS.mk ⟨s3,b3,c3⟩ ⟨s4,b4,c4⟩).x.c),.val (.bool (PtS.mk ⟨s3,b3,c3⟩ ⟨s4,b4,c4⟩).y.s),.val (.string (PtS.mk ⟨s3,b3,c3⟩ ⟨s4,b4,c4⟩).y.b),.val (.string (PtS.mk ⟨s3,b3,c3⟩ ⟨s4,b4,c4⟩).y.c),.rs 1 k (fun i=>[.rs 6 (pn c i) (pg c i)]),.rs 3 l (fun i=>cellsO (ow o i))])] [] 0 [],Wo trivial ⟨⟨rfl,rfl,rfl,rfl,rfl,rfl,rfl,rfl,rfl,rfl,rfl,rfl,⟨rfl,rfl,hc1⟩,⟨rfl,rfl,ho1⟩,qQ⟩,qQ⟩ trivial,?_⟩
  rw [←hlo'] at hlo ⊢
  rw [←hhi'] at hhi ⊢
  clear hlo' hhi' hm
  have hlo5:=hlo
  have hno:∀b:Bool,(okW b != 0)=true→b=false:=fun b h=>by cases b<;>first|rfl|cases h
  have hyes:∀b:Bool,(okW b != 0)=false→b=true:=fun b h=>by cases b<;>first|rfl|cases h
  obtain⟨R,hR⟩:∃R,R=regE lo hi k (pn c) (fun i=>pts (pg c i)) l (ow o):=⟨_,rfl⟩
  rw [←hR]
  have v1:(!canonP lo||!canonP hi)=true→PV.val (.int .i64 1)=PV.val (.int .i64 R):=fun h=>by
   rw [hR]
   unfold regE
   rw [h]
   rfl
  have n1:canonP lo=false→(!canonP lo||!canonP hi)=true:=fun h=>by rw [h];rfl
  have n2:canonP hi=false→(!canonP lo||!canonP hi)=true:=fun h=>by rw [h,Bool.not_false,Bool.or_true]
  have n3:canonP lo=true→canonP hi=true→(!canonP lo||!canonP hi)=false:=fun h h'=>by rw [h,h'];rfl
  with_unfolding_all refine⟨Unit,fun _=>(!canonP lo||!canonP hi)=false,fun _=>stOf [(1,.ptr 0 0 0 0)] [⟨31,14,0,true,false,1,fun _=>[.val (.bool lo.x.s),.val (.string lo.x.b),.val (.string lo.x.c),.val (.bool lo.y.s),.val (.string lo.y.b),.val (.string lo.y.c),.val (.bool hi.x.s),.val (.string hi.x.b),.val (.string hi.x.c),.val (.bool hi.y.s),.val (.string hi.y.b),.val (.string hi.y.c),.rs 1 k (fun i=>[.rs 6 (pn c i) (pg c i)]),.rs 3 l (fun i=>cellsO (ow o i))]⟩] 1 [],?_,fun _ h1=>?_⟩
  ·with_unfolding_all refine⟨⟨lo,rfl,hlo⟩,fun h1=>⟨⟨hi,rfl,hhi⟩,fun h2=>⟨[],stOf [(2,.val (.int .i64 (R)))] [] 0 [],Wo trivial ⟨v1 (n2 (hno _ h2)),qQ⟩ trivial,rfl,rfl⟩,fun h2=>⟨(),[some 0],n3 (hyes _ h1) (hyes _ h2),Wo ⟨qZ ⟨rq,rq,rq,rq,rq,rq,rq,rq,rq,rq,rq,rq,⟨qW,rfl⟩,⟨qW,rfl⟩,qQ⟩,qQ⟩ ⟨pP,qQ⟩ trivial⟩⟩,fun h1=>⟨fun h2=>⟨[],stOf [(2,.val (.int .i64 (R)))] [] 0 [],Wo trivial ⟨v1 (n1 (hno _ h1)),qQ⟩ trivial,rfl,rfl⟩,fun h2=>(nomatch h2)⟩⟩
  ·have h1:(!canonP lo||!canonP hi)=false:=h1
   with_unfolding_all refine⟨fun h2=>⟨[],stOf [(2,.val (.int .i64 (R)))] [] 0 [],Wo trivial ⟨?_,qQ⟩ trivial,rfl,rfl⟩,fun h2=>?_⟩
   ·have h2:(k:Int) > 32:=of_decide_eq_true h2
    rw [hR]
    unfold regE
    rw [h1,decide_eq_true (show 32 < k by omega)]
    rfl
   ·have h2:¬(k:Int) > 32:=of_decide_eq_false h2
    have hk32:k≤32:=by omega
    have e2:R=bif !(firstE (fun i=>ringE (pn c i) (pts (pg c i))) k 0==0) then firstE (fun i=>ringE (pn c i) (pts (pg c i))) k 0 else bif decide (396 < sumN (pn c) k) then 4 else bif !decide (l=k) then 9 else bif anyP (fun i=>negO (ow o i)) l then 2 else 0:=by
     rw [hR]
     unfold regE
     rw [h1,decide_eq_false (show ¬32 < k by omega)]
     rfl
    clear hR
    obtain⟨F,hF⟩:∃F,F=firstE (fun i=>ringE (pn c i) (pts (pg c i))) k 0:=⟨_,rfl⟩
    rw [←hF] at e2
    with_unfolding_all refine⟨Nat,fun i=>i≤k∧firstE (fun i=>ringE (pn c i) (pts (pg c i))) (k - i) i=F∧sumN (pn c) i≤64*i,fun i=>stOf [(1,.ptr 0 0 0 0),(3,.val (.int .i64 (sumN (pn c) i:Nat))),(26,.rs 1 k (fun i=>[.rs 6 (pn c i) (pg c i)])),(27,.val (goInt k)),(28,.val (goInt i))] [⟨31,14,0,true,false,1,fun _=>[.val (.bool lo.x.s),.val (.string lo.x.b),.val (.string lo.x.c),.val (.bool lo.y.s),.val (.string lo.y.b),.val (.string lo.y.c),.val (.bool hi.x.s),.val (.string hi.x.b),.val (.string hi.x.c),.val (.bool hi.y.s),.val (.string hi.y.b),.val (.string hi.y.c),.rs 1 k (fun i=>[.rs 6 (pn c i) (pg c i)]),.rs 3 l (fun i=>cellsO (ow o i))]⟩] 1 [],fun i=>k - i,⟨0,[some 0],⟨Nat.zero_le _,hF.symm,Nat.le_refl _⟩,Wo ⟨qZ ⟨rq,rq,rq,rq,rq,rq,rq,rq,rq,rq,rq,rq,⟨qW,rfl⟩,⟨qW,rfl⟩,qQ⟩,qQ⟩ ⟨pP,rfl,qW,rfl,rfl,qQ⟩ trivial⟩,fun i hi=>?_⟩
    obtain⟨hik,hFi,hsum⟩:i≤k∧firstE (fun i=>ringE (pn c i) (pts (pg c i))) (k - i) i=F∧sumN (pn c) i≤64*i:=hi
    with_unfolding_all refine⟨fun h3=>?_,fun h3=>?_⟩
    ·have h3:(i:Int) < k:=ltT h3
     have ei:(i:Int).toNat=i:=Int.toNat_natCast i
     have hpl:=(hc i (by omega)).2
     have hst:firstE (fun i=>ringE (pn c i) (pts (pg c i))) (k - i) i=bif ringE (pn c i) (pts (pg c i))==0 then firstE (fun i=>ringE (pn c i) (pts (pg c i))) (k - (i+1)) (i+1) else ringE (pn c i) (pts (pg c i)):=by
      rw [show k - i=(k - (i+1))+1 by omega]
      rfl
     have g1:∀j:Nat,j=i→isPL 10000 (pn c j) (pg c j):=fun j hj=>by rw [hj];exact hpl
     have g2:∀j:Nat,j=i→(ringE (pn c j) (pts (pg c j)) != 0)=true→PV.val (.int .i64 (ringE (pn c j) (pts (pg c j))))=PV.val (.int .i64 R):=fun j hj h=>by
      rw [hj] at h ⊢
      have h':(ringE (pn c i) (pts (pg c i))==0)=false:=by simpa using h
      rw [h',cond_false,hFi] at hst
      have h'':(F==0)=false:=by rw [hst];exact h'
      rw [e2,h'',hst]
      rfl
     have g3:∀j:Nat,j=i→(ringE (pn c j) (pts (pg c j)) != 0)=false→firstE (fun i=>ringE (pn c i) (pts (pg c i))) (k - (i+1)) (i+1)=F∧pn c i≤64:=fun j hj h=>by
      rw [hj] at h
      have h':(ringE (pn c i) (pts (pg c i))==0)=true:=by simpa using h
      rw [h',cond_true] at hst
      refine⟨by rw [←hst];exact hFi,?_⟩
      have h0:ringE (pn c i) (pts (pg c i))=0:=eq_of_beq h'
      unfold ringE at h0
      cases hb:(decide (pn c i < 3)||decide (64 < pn c i)) with
      |true=>rw [hb] at h0;cases h0
      |false =>
       rw [Bool.or_eq_false_iff] at hb
       have:=of_decide_eq_false hb.2
       omega
     have g4:∀j:Nat,j=i→pn c i≤64→PV.val (.int .i64 (IntKind.i64.wrap ((sumN (pn c) i:Nat)+(pn c j:Nat))))=PV.val (.int .i64 (sumN (pn c) (i+1):Nat)):=fun j hj h=>by
      rw [hj,wrap64 (by omega) (by omega)]
      rfl
     have wi:PV.val (.int .i64 (IntKind.i64.wrap ((i:Int)+1)))=PV.val (.int .i64 ((i+1:Nat):Int)):=by
      rw [wrap64 (by omega) (by omega)]
      rfl
     with_unfolding_all refine⟨⟨by omega,by omega⟩,g1 _ ei,fun h4=>⟨[],stOf [(2,.val (.int .i64 (R)))] [] 0 [],Wo trivial ⟨g2 _ ei h4,qQ⟩ trivial,rfl,rfl⟩,fun h4=>⟨i+1,[some 0],⟨by omega,(g3 _ ei h4).1,?_⟩,by show k - (i+1) < k - i;omega,Wo ⟨qZ ⟨rq,rq,rq,rq,rq,rq,rq,rq,rq,rq,rq,rq,⟨qW,rfl⟩,⟨qW,rfl⟩,qQ⟩,qQ⟩ ⟨pP,g4 _ ei (g3 _ ei h4).2,qW,rfl,wi,qQ⟩ trivial⟩⟩
     have h5:=(g3 _ ei h4).2
     show sumN (pn c) i+pn c i≤64*(i+1)
     omega
    ·have h3:(k:Int)≤i:=ltF h3
     obtain rfl:i=k:=by omega
     have hF0:F=0:=by
      rw [Nat.sub_self] at hFi
      exact hFi.symm
     rw [hF0] at e2
     have e3:R=bif decide (396 < sumN (pn c) i) then 4 else bif !decide (l=i) then 9 else bif anyP (fun i=>negO (ow o i)) l then 2 else 0:=e2
     clear e2 hF hFi
     with_unfolding_all refine⟨fun h4=>⟨[],stOf [(2,.val (.int .i64 (R)))] [] 0 [],Wo trivial ⟨?_,qQ⟩ trivial,rfl,rfl⟩,fun h4=>⟨fun h5=>⟨[],stOf [(2,.val (.int .i64 (R)))] [] 0 [],Wo trivial ⟨?_,qQ⟩ trivial,rfl,rfl⟩,fun h5=>?_⟩⟩
     ·have h4:((sumN (pn c) i:Nat):Int) > 396:=of_decide_eq_true h4
      rw [e3,decide_eq_true (show 396 < sumN (pn c) i by omega)]
      rfl
     ·have h4:¬((sumN (pn c) i:Nat):Int) > 396:=of_decide_eq_false h4
      have h5:¬l=i:=by
       have h5:(!((l:Int)==(i:Int)))=true:=h5
       intro e
       rw [e,beq_self_eq_true] at h5
       cases h5
      rw [e3,decide_eq_false (show ¬396 < sumN (pn c) i by omega),decide_eq_false h5]
      rfl
     ·have h4:¬((sumN (pn c) i:Nat):Int) > 396:=of_decide_eq_false h4
      have h5:l=i:=by
       have h5:(!((l:Int)==(i:Int)))=false:=h5
       have h6:((l:Int)==(i:Int))=true:=by simpa using h5
       have:=eq_of_beq h6
       omega
      have e4:R=bif anyP (fun i=>negO (ow o i)) l then 2 else 0:=by
       rw [e3,decide_eq_false (show ¬396 < sumN (pn c) i by omega),decide_eq_true h5]
       rfl
      with_unfolding_all refine⟨Nat,fun j=>j≤l∧∀x,x < j→negO (ow o x)=false,fun j=>stOf [(52,.rs 3 l (fun i=>cellsO (ow o i))),(53,.val (goInt l)),(54,.val (goInt j))] [] 0 [],fun j=>l - j,⟨0,[],⟨Nat.zero_le _,fun x hx=>absurd hx (Nat.not_lt_zero x)⟩,Wo trivial ⟨qW,rfl,rfl,qQ⟩ trivial⟩,fun j hj=>?_⟩
      obtain⟨hjl,hJ⟩:j≤l∧∀x,x < j→negO (ow o x)=false:=hj
      have eb:negO (ow o j)=(decide ((ow o j).1 < 0)||decide ((ow o j).2.1 < 0)||decide ((ow o j).2.2 < 0)):=rfl
      have T1:decide ((ow o (j:Int).toNat).1 < 0) = !false→negO (ow o j)=true:=fun h=>by
       have h:decide ((ow o j).1 < 0)=true:=h
       rw [eb,h,Bool.true_or,Bool.true_or]
      have T2:decide ((ow o (j:Int).toNat).2.1 < 0) = !false→negO (ow o j)=true:=fun h=>by
       have h:decide ((ow o j).2.1 < 0)=true:=h
       rw [eb,h,Bool.or_true,Bool.true_or]
      have T3:decide ((ow o (j:Int).toNat).2.2 < 0)=true→negO (ow o j)=true:=fun h=>by
       have h:decide ((ow o j).2.2 < 0)=true:=h
       rw [eb,h,Bool.or_true]
      have rT:(j:Int) < l→negO (ow o j)=true→PV.val (.int .i64 2)=PV.val (.int .i64 R):=fun h h'=>by
       rw [e4,anyP_true.2 ⟨j,by omega,h'⟩]
       rfl
      have rF:(l:Int)≤j→PV.val (.int .i64 0)=PV.val (.int .i64 R):=fun h=>by
       rw [e4,anyP_false.2 fun x hx=>hJ x (by omega)]
       rfl
      have nx:decide ((ow o (j:Int).toNat).1 < 0)=false→decide ((ow o (j:Int).toNat).2.1 < 0)=false→decide ((ow o (j:Int).toNat).2.2 < 0)=false→∀x,x < j+1→negO (ow o x)=false:=fun h1 h2 h3 x hx=>by
       have h1:decide ((ow o j).1 < 0)=false:=h1
       have h2:decide ((ow o j).2.1 < 0)=false:=h2
       have h3:decide ((ow o j).2.2 < 0)=false:=h3
       rcases Nat.lt_or_ge x j with h|h
       ·exact hJ x h
       ·obtain rfl:x=j:=by omega
        rw [eb,h1,h2,h3]
        rfl
      have wi:(j:Int) < l→PV.val (.int .i64 (IntKind.i64.wrap ((j:Int)+1)))=PV.val (.int .i64 ((j+1:Nat):Int)):=fun h=>by
       rw [wrap64 (by omega) (by omega)]
       rfl
      with_unfolding_all exact⟨(fun h1=>⟨⟨Int.natCast_nonneg j,(ltT h1)⟩,(fun h2=>⟨(fun h3=>⟨(fun h4=>⟨[],stOf [(2,.val (.int .i64 (R)))] [] 0 [],Wo trivial ⟨rT (ltT h1) (T3 h4),qQ⟩ trivial,rfl,rfl⟩),(fun h4=>⟨j+1,[],⟨Int.ofNat_lt.1 (ltT h1),nx (h2) (h3) (h4)⟩,by have:=ltT h1;show l - (j+1) < l - j;omega,Wo trivial ⟨qW,rfl,wi (ltT h1),qQ⟩ trivial⟩)⟩),(fun h3=>⟨(fun h4=>⟨[],stOf [(2,.val (.int .i64 (R)))] [] 0 [],Wo trivial ⟨rT (ltT h1) (T2 h3),qQ⟩ trivial,rfl,rfl⟩),(fun h4=>nomatch h4)⟩)⟩),(fun h2=>⟨(fun h3=>nomatch h3),(fun h3=>⟨(fun h4=>⟨[],stOf [(2,.val (.int .i64 (R)))] [] 0 [],Wo trivial ⟨rT (ltT h1) (T1 h2),qQ⟩ trivial,rfl,rfl⟩),(fun h4=>nomatch h4)⟩)⟩)⟩),(fun h1=>⟨[],stOf [(2,.val (.int .i64 (R)))] [] 0 [],Wo trivial ⟨rF (ltF h1),qQ⟩ trivial,rfl,rfl⟩)⟩
 ·cases e
end Go.Proofs
namespace Go.Proofs
open Go Go.Ex Go.Num
set_option maxRecDepth 100000
def c125:List PV→Option Ans
 |[.agg [.val (.bool s1),.val (.string b1),.val (.string c1),.val (.bool s2),.val (.string b2),.val (.string c2),.val (.bool s3),.val (.string b3),.val (.string c3),.val (.bool s4),.val (.string b4),.val (.string c4),.rs 1 k c,.rs 3 l o],.rs 6 n g]=>some ⟨some (((PtS.le 4294967296 (PtS.mk ⟨s1,b1,c1⟩ ⟨s2,b2,c2⟩)∧PtS.le 4294967296 (PtS.mk ⟨s3,b3,c3⟩ ⟨s4,b4,c4⟩))∧isCL 10000 k c∧isOL l o)∧isPL 4294967296 n g),.val (.bool (!anyP (fun i=>!canonP (pts g i)) n&&(regE (PtS.mk ⟨s1,b1,c1⟩ ⟨s2,b2,c2⟩) (PtS.mk ⟨s3,b3,c3⟩ ⟨s4,b4,c4⟩) k (pn c) (fun i=>pts (pg c i)) l (ow o)==0))),[]⟩
 |_=>none
theorem ok125:funcOk {} Tryz.f125 2=true:=by kernel_rfl
theorem f125:FnOk Tryz.prog 125 c125:=by
 refine FnOk.ofW orders (mkE_ok (l:=[(67,c67),(89,c89)]) (own:=[]) (inl:=[]) (by simp [f67,f89]) (by simp)) Tryz.func125 {} 2 ok125 fun args r e=>?_
 unfold c125 at e
 split at e
 ·rename_i s1 b1 c1 s2 b2 c2 s3 b3 c3 s4 b4 c4 k c l o n g
  cases e
  refine⟨by simp,fun hm=>?_⟩
  obtain⟨⟨⟨hlo,hhi⟩,⟨hc,hk⟩,ho,hl⟩,hg,hn⟩:=hm _ rfl
  obtain⟨lo,hlo'⟩:∃p,p=(PtS.mk ⟨s1,b1,c1⟩ ⟨s2,b2,c2⟩):=⟨_,rfl⟩
  obtain⟨hi,hhi'⟩:∃p,p=(PtS.mk ⟨s3,b3,c3⟩ ⟨s4,b4,c4⟩):=⟨_,rfl⟩
  have hc1:∀i,i < k→[.rs 6 (pn c i) (pg c i)]=c i:=fun i hi=>(hc i hi).1.symm
  have ho1:∀i,i < l→cellsO (ow o i)=o i:=fun i hi=>(ho i hi).symm
  refine⟨[],stOf [(0,.agg [.val (.bool (PtS.mk ⟨s1,b1,c1⟩ ⟨s2,b2,c2⟩).x.s),.val (.string (PtS.mk ⟨s1,b1,c1⟩ ⟨s2,b2,c2⟩).x.b),.val (.string (PtS.mk ⟨s1,b1,c1⟩ ⟨s2,b2,c2⟩).x.c),.val (.bool (PtS.mk ⟨s1,b1,c1⟩ ⟨s2,b2,c2⟩).y.s),.val (.string (PtS.mk ⟨s1,b1,c1⟩ ⟨s2,b2,c2⟩).y.b),.val (.string (PtS.mk ⟨s1,b1,c1⟩ ⟨s2,b2,c2⟩).y.c),.val (.bool (PtS.mk ⟨s3,b3,c3⟩ ⟨s4,b4,c4⟩).x.s),.val (.string (PtS.mk ⟨s3,b3,c3⟩ ⟨s4,b4,c4⟩).x.b),.val (.string (PtS.mk ⟨s3,b3,c3⟩ ⟨s4,b4,c4⟩).x.c),.val (.bool (PtS.mk ⟨s3,b3,c3⟩ ⟨s4,b4,c4⟩).y.s),.val (.string (PtS.mk ⟨s3,b3,c3⟩ ⟨s4,b4,c4⟩).y.b),.val (.string (PtS.mk ⟨s3,b3,c3⟩ ⟨s4,b4,c4⟩).y.c),.rs 1 k (fun i=>[.rs 6 (pn c i) (pg c i)]),.rs 3 l (fun i=>cellsO (ow o i))]),(1,.rs 6 n (fun i=>(pts g i).cells))] [] 0 [],Wo trivial ⟨⟨rfl,rfl,rfl,rfl,rfl,rfl,rfl,rfl,rfl,rfl,rfl,rfl,⟨rfl,rfl,hc1⟩,⟨rfl,rfl,ho1⟩,qQ⟩,⟨rfl,rfl,fun i hi=>(hg i hi).1.symm⟩,qQ⟩ trivial,?_⟩
  rw [←hlo'] at hlo ⊢
  rw [←hhi'] at hhi ⊢
  clear hlo' hhi' hm
  have hrg:(lo.le 4294967296∧hi.le 4294967296)∧isCL 10000 k (fun i=>[.rs 6 (pn c i) (pg c i)])∧isOL l (fun i=>cellsO (ow o i)):=⟨⟨hlo,hhi⟩,⟨fun i hi=>⟨rfl,(hc i hi).2⟩,hk⟩,fun i hi=>rfl,hl⟩
  obtain⟨R,hR⟩:∃R,R=regE lo hi k (pn c) (fun i=>pts (pg c i)) l (ow o):=⟨_,rfl⟩
  rw [←hR]
  have hR':regE lo hi k (pn (fun i=>[.rs 6 (pn c i) (pg c i)])) (fun i=>pts (pg (fun i=>[.rs 6 (pn c i) (pg c i)]) i)) l (ow (fun i=>cellsO (ow o i)))=R:=hR.symm
  obtain⟨V,hV⟩:∃V,V=(!anyP (fun i=>!canonP (pts g i)) n&&(R==0)):=⟨_,rfl⟩
  rw [←hV]
  have hno:∀b:Bool,(okW b != 0)=true→b=false:=fun b h=>by cases b<;>first|rfl|cases h
  have hyes:∀b:Bool,(okW b != 0)=false→b=true:=fun b h=>by cases b<;>first|rfl|cases h
  with_unfolding_all refine⟨Nat,fun i=>i≤n∧∀j,j < i→canonP (pts g j)=true,fun i=>stOf [(2,.ptr 0 0 0 0),(7,.rs 6 n (fun i=>(pts g i).cells)),(8,.val (goInt n)),(9,.val (goInt i))] [⟨31,14,0,true,false,1,fun _=>[.val (.bool lo.x.s),.val (.string lo.x.b),.val (.string lo.x.c),.val (.bool lo.y.s),.val (.string lo.y.b),.val (.string lo.y.c),.val (.bool hi.x.s),.val (.string hi.x.b),.val (.string hi.x.c),.val (.bool hi.y.s),.val (.string hi.y.b),.val (.string hi.y.c),.rs 1 k (fun i=>[.rs 6 (pn c i) (pg c i)]),.rs 3 l (fun i=>cellsO (ow o i))]⟩] 1 [],fun i=>n - i,⟨0,[some 0],⟨Nat.zero_le _,fun j hj=>absurd hj (Nat.not_lt_zero j)⟩,Wo ⟨qZ ⟨rq,rq,rq,rq,rq,rq,rq,rq,rq,rq,rq,rq,⟨qW,rfl⟩,⟨qW,rfl⟩,qQ⟩,qQ⟩ ⟨pP,qW,rfl,rfl,qQ⟩ trivial⟩,fun i hi=>?_⟩
  obtain⟨hin,hI⟩:i≤n∧∀j,j < i→canonP (pts g j)=true:=hi
  with_unfolding_all refine⟨fun h1=>?_,fun h1=>⟨hrg,[],stOf [(4,.val (.bool V))] [] 0 [],Wo trivial ⟨?_,qQ⟩ trivial,rfl,rfl⟩⟩
  ·have h1:(i:Int) < n:=ltT h1
   have ei:(i:Int).toNat=i:=Int.toNat_natCast i
   have hp:=(hg i (by omega)).2
   rw [←ei] at hp
   with_unfolding_all refine⟨⟨by omega,by omega⟩,⟨pts g (i:Int).toNat,rfl,hp⟩,fun h2=>⟨[],stOf [(4,.val (.bool V))] [] 0 [],Wo trivial ⟨?_,qQ⟩ trivial,rfl,rfl⟩,fun h2=>⟨i+1,[some 0],⟨by omega,?_⟩,by show n - (i+1) < n - i;omega,Wo ⟨qZ ⟨rq,rq,rq,rq,rq,rq,rq,rq,rq,rq,rq,rq,⟨qW,rfl⟩,⟨qW,rfl⟩,qQ⟩,qQ⟩ ⟨pP,qW,rfl,?_,qQ⟩ trivial⟩⟩
   ·have h2:canonP (pts g (i:Int).toNat)=false:=hno _ h2
    rw [ei] at h2
    rw [hV,anyP_true.2 ⟨i,by omega,by rw [h2];rfl⟩]
    rfl
   ·have h2:canonP (pts g (i:Int).toNat)=true:=hyes _ h2
    rw [ei] at h2
    intro j hj
    rcases Nat.lt_or_ge j i with h|h
    ·exact hI j h
    ·obtain rfl:j=i:=by omega
     exact h2
   ·show PV.val (.int .i64 (IntKind.i64.wrap ((i:Int)+1)))=PV.val (.int .i64 ((i+1:Nat):Int))
    rw [wrap64 (by omega) (by omega)]
    rfl
  ·have h1:(n:Int)≤i:=ltF h1
   have e1:anyP (fun i=>!canonP (pts g i)) n=false:=anyP_false.2 fun j hj=>by rw [hI j (by omega)];rfl
   rw [hV,e1]
   show PV.val (.bool (regE lo hi k (pn (fun i=>[.rs 6 (pn c i) (pg c i)])) (fun i=>pts (pg (fun i=>[.rs 6 (pn c i) (pg c i)]) i)) l (ow (fun i=>cellsO (ow o i)))==0))=PV.val (.bool (!false&&(R==0)))
   rw [hR']
   rfl
 ·cases e
def c55:List PV→Option Ans
 |[.agg [.val (.bool s1),.val (.string b1),.val (.string c1),.val (.bool s2),.val (.string b2),.val (.string c2),.val (.bool s3),.val (.string b3),.val (.string c3),.val (.bool s4),.val (.string b4),.val (.string c4),.rs 1 k c,.rs 3 l o],.rs 6 n g]=>some ⟨some (((PtS.le 4294967296 (PtS.mk ⟨s1,b1,c1⟩ ⟨s2,b2,c2⟩)∧PtS.le 4294967296 (PtS.mk ⟨s3,b3,c3⟩ ⟨s4,b4,c4⟩))∧isCL 10000 k c∧isOL l o)∧isPL 4294967296 n g),.val (.int .i64 (okW ((regE (PtS.mk ⟨s1,b1,c1⟩ ⟨s2,b2,c2⟩) (PtS.mk ⟨s3,b3,c3⟩ ⟨s4,b4,c4⟩) k (pn c) (fun i=>pts (pg c i)) l (ow o)==0)&&!anyP (fun i=>!canonP (pts g i)) n))),[]⟩
 |_=>none
theorem ok55:funcOk {} Tryz.f55 2=true:=by kernel_rfl
theorem f55:FnOk Tryz.prog 55 c55:=by
 refine FnOk.ofW orders (mkE_ok (l:=[(65,c65_90),(89,c89)]) (own:=[]) (inl:=[]) (by simp [f65_90,f89]) (by simp)) Tryz.func55 {} 2 ok55 fun args r e=>?_
 unfold c55 at e
 split at e
 ·rename_i s1 b1 c1 s2 b2 c2 s3 b3 c3 s4 b4 c4 k c l o n g
  cases e
  refine⟨by simp,fun hm=>?_⟩
  obtain⟨⟨⟨hlo,hhi⟩,⟨hc,hk⟩,ho,hl⟩,hg,hn⟩:=hm _ rfl
  obtain⟨lo,hlo'⟩:∃p,p=(PtS.mk ⟨s1,b1,c1⟩ ⟨s2,b2,c2⟩):=⟨_,rfl⟩
  obtain⟨hi,hhi'⟩:∃p,p=(PtS.mk ⟨s3,b3,c3⟩ ⟨s4,b4,c4⟩):=⟨_,rfl⟩
  have hc1:∀i,i < k→[.rs 6 (pn c i) (pg c i)]=c i:=fun i hi=>(hc i hi).1.symm
  have ho1:∀i,i < l→cellsO (ow o i)=o i:=fun i hi=>(ho i hi).symm
  refine⟨[],stOf [(0,.agg [.val (.bool (PtS.mk ⟨s1,b1,c1⟩ ⟨s2,b2,c2⟩).x.s),.val (.string (PtS.mk ⟨s1,b1,c1⟩ ⟨s2,b2,c2⟩).x.b),.val (.string (PtS.mk ⟨s1,b1,c1⟩ ⟨s2,b2,c2⟩).x.c),.val (.bool (PtS.mk ⟨s1,b1,c1⟩ ⟨s2,b2,c2⟩).y.s),.val (.string (PtS.mk ⟨s1,b1,c1⟩ ⟨s2,b2,c2⟩).y.b),.val (.string (PtS.mk ⟨s1,b1,c1⟩ ⟨s2,b2,c2⟩).y.c),.val (.bool (PtS.mk ⟨s3,b3,c3⟩ ⟨s4,b4,c4⟩).x.s),.val (.string (PtS.mk ⟨s3,b3,c3⟩ ⟨s4,b4,c4⟩).x.b),.val (.string (PtS.mk ⟨s3,b3,c3⟩ ⟨s4,b4,c4⟩).x.c),.val (.bool (PtS.mk ⟨s3,b3,c3⟩ ⟨s4,b4,c4⟩).y.s),.val (.string (PtS.mk ⟨s3,b3,c3⟩ ⟨s4,b4,c4⟩).y.b),.val (.string (PtS.mk ⟨s3,b3,c3⟩ ⟨s4,b4,c4⟩).y.c),.rs 1 k (fun i=>[.rs 6 (pn c i) (pg c i)]),.rs 3 l (fun i=>cellsO (ow o i))]),(1,.rs 6 n g)] [] 0 [],Wo trivial ⟨⟨rfl,rfl,rfl,rfl,rfl,rfl,rfl,rfl,rfl,rfl,rfl,rfl,⟨rfl,rfl,hc1⟩,⟨rfl,rfl,ho1⟩,qQ⟩,⟨rfl,rfl,fun i hi=>rfl⟩,qQ⟩ trivial,?_⟩
  rw [←hlo'] at hlo ⊢
  rw [←hhi'] at hhi ⊢
  clear hlo' hhi' hm
  have hrg:(lo.le 4294967296∧hi.le 4294967296)∧isCL 10000 k (fun i=>[.rs 6 (pn c i) (pg c i)])∧isOL l (fun i=>cellsO (ow o i)):=⟨⟨hlo,hhi⟩,⟨fun i hi=>⟨rfl,(hc i hi).2⟩,hk⟩,fun i hi=>rfl,hl⟩
  obtain⟨R,hR⟩:∃R,R=regE lo hi k (pn c) (fun i=>pts (pg c i)) l (ow o):=⟨_,rfl⟩
  rw [←hR]
  have hR':regE lo hi k (pn (fun i=>[.rs 6 (pn c i) (pg c i)])) (fun i=>pts (pg (fun i=>[.rs 6 (pn c i) (pg c i)]) i)) l (ow (fun i=>cellsO (ow o i)))=R:=hR.symm
  have hpl:isPL 4294967296 n g:=⟨hg,hn⟩
  obtain⟨V,hV⟩:∃V,V=okW ((R==0)&&!anyP (fun i=>!canonP (pts g i)) n):=⟨_,rfl⟩
  rw [←hV]
  have n1:(regE lo hi k (pn (fun i=>[.rs 6 (pn c i) (pg c i)])) (fun i=>pts (pg (fun i=>[.rs 6 (pn c i) (pg c i)]) i)) l (ow (fun i=>cellsO (ow o i))) != 0)=true→PV.val (.int .i64 1)=PV.val (.int .i64 V):=fun h=>by
   rw [hR'] at h
   have h:(R==0)=false:=by simpa using h
   rw [hV,h]
   rfl
  have n2:anyP (fun i=>!canonP (pts g i)) n=true→PV.val (.int .i64 1)=PV.val (.int .i64 V):=fun h=>by
   rw [hV,h,Bool.not_true,Bool.and_false]
   rfl
  have n3:(regE lo hi k (pn (fun i=>[.rs 6 (pn c i) (pg c i)])) (fun i=>pts (pg (fun i=>[.rs 6 (pn c i) (pg c i)]) i)) l (ow (fun i=>cellsO (ow o i))) != 0)=false→anyP (fun i=>!canonP (pts g i)) n=false→PV.val (.int .i64 0)=PV.val (.int .i64 V):=fun h h'=>by
   rw [hR'] at h
   have h:(R==0)=true:=by simpa using h
   rw [hV,h,h']
   rfl
  with_unfolding_all refine⟨hrg,fun h1=>⟨hpl,fun h2=>⟨[],stOf [(4,.val (.int .i64 V))] [] 0 [],Wo trivial ⟨?_,qQ⟩ trivial,rfl,rfl⟩,fun h2=>⟨[],stOf [(4,.val (.int .i64 V))] [] 0 [],Wo trivial ⟨?_,qQ⟩ trivial,rfl,rfl⟩⟩,fun h1=>⟨fun h2=>⟨[],stOf [(4,.val (.int .i64 V))] [] 0 [],Wo trivial ⟨?_,qQ⟩ trivial,rfl,rfl⟩,fun h2=>(nomatch h2)⟩⟩
  ·exact n2 h2
  ·exact n3 h1 h2
  ·exact n1 h1
 ·cases e
end Go.Proofs
namespace Go.Num
open Go Go.Ex
def eqQ (x y:Int×Int):Bool:=x.1==y.1&&(x.2==y.2&&true)
end Go.Num
namespace Go.Proofs
open Go Go.Ex Go.Num
set_option maxRecDepth 100000
def c70:List PV→Option Ans
 |[.rs 2 m h,.val (.agg ⟨[.int .i64 a,.int .i64 b]⟩)]=>some ⟨some (isQL m h),.val (.int .i64 (ixP (fun i=>eqQ (a,b) (prs h i)) m 0)),[]⟩
 |_=>none
theorem ok70:funcOk {} Tryz.f70 2=true:=by kernel_rfl
theorem f70:FnOk Tryz.prog 70 c70:=by
 refine FnOk.ofW orders (mkE_ok (l:=[]) (own:=[]) (inl:=[]) (by simp) (by simp)) Tryz.func70 {} 2 ok70 fun args r e=>?_
 unfold c70 at e
 split at e
 ·rename_i n h a b
  cases e
  refine⟨by simp,fun hm=>?_⟩
  obtain⟨hq,hn⟩:=hm _ rfl
  refine⟨[],stOf [(0,.rs 2 n (fun i=>cellsQ (prs h i))),(1,.val (.agg ⟨[.int .i64 a,.int .i64 b]⟩))] [] 0 [],Wo trivial ⟨⟨rfl,rfl,fun i hi=>(hq i hi).symm⟩,rfl,qQ⟩ trivial,?_⟩
  generalize prs h=q at *
  obtain⟨X,hX⟩:∃X,X=ixP (fun i=>eqQ (a,b) (q i)) n 0:=⟨_,rfl⟩
  rw [←hX]
  with_unfolding_all refine⟨Nat,fun i=>i≤n∧ixP (fun i=>eqQ (a,b) (q i)) (n - i) i=X,fun i=>stOf [(0,.rs 2 n (fun i=>cellsQ (q i))),(3,.ptr 0 0 0 0),(7,.val (goInt n)),(8,.val (goInt i))] [⟨46,2,0,true,false,1,fun _=>[.val (.int .i64 a),.val (.int .i64 b)]⟩] 1 [],fun i=>n - i,⟨0,[some 0],⟨Nat.zero_le _,hX.symm⟩,Wo ⟨qJ,qQ⟩ ⟨qW,pP,rfl,rfl,qQ⟩ trivial⟩,fun i hi=>?_⟩
  obtain⟨hin,hI⟩:i≤n∧ixP (fun i=>eqQ (a,b) (q i)) (n - i) i=X:=hi
  with_unfolding_all refine⟨fun h=>?_,fun h=>⟨[],stOf [(4,.val (.int .i64 X))] [] 0 [],Wo trivial ⟨?_,qQ⟩ trivial,rfl,rfl⟩⟩
  ·have h:(i:Int) < n:=ltT h
   have e:(i:Int).toNat=i:=Int.toNat_natCast i
   have hstep:ixP (fun i=>eqQ (a,b) (q i)) (n - i) i=bif eqQ (a,b) (q i) then(i:Int) else ixP (fun i=>eqQ (a,b) (q i)) (n - (i+1)) (i+1):=by
    rw [show n - i=(n - (i+1))+1 by omega]
    rfl
   with_unfolding_all refine⟨⟨by omega,by omega⟩,fun h'=>⟨[],stOf [(4,.val (.int .i64 X))] [] 0 [],Wo trivial ⟨?_,qQ⟩ trivial,rfl,rfl⟩,fun h'=>⟨i+1,[some 0],⟨by omega,?_⟩,by show n - (i+1) < n - i;omega,Wo ⟨qJ,qQ⟩ ⟨qW,pP,rfl,?_,qQ⟩ trivial⟩⟩
   ·have h':eqQ (a,b) (q (i:Int).toNat)=true:=h'
    rw [e] at h'
    rw [h',cond_true] at hstep
    exact congrArg (fun z=>PV.val (.int .i64 z)) (hstep.symm.trans hI)
   ·have h':eqQ (a,b) (q (i:Int).toNat)=false:=h'
    rw [e] at h'
    rw [h',cond_false] at hstep
    exact hstep.symm.trans hI
   ·show PV.val (.int .i64 (IntKind.i64.wrap ((i:Int)+1)))=PV.val (.int .i64 ((i+1:Nat):Int))
    rw [wrap64 (by omega) (by omega)]
    rfl
  ·have h:(n:Int)≤i:=ltF h
   rw [show n - i=0 by omega] at hI
   exact congrArg (fun z=>PV.val (.int .i64 z)) hI
 ·cases e
def c20:List PV→Option Ans
 |[.rs 2 m h,.val (.agg ⟨[.int .i64 a,.int .i64 b]⟩)]=>some ⟨some (isQL m h),.val (.bool (anyP (fun i=>eqQ (a,b) (prs h i)) m)),[]⟩
 |_=>none
theorem ok20:funcOk {} Tryz.f20 2=true:=by kernel_rfl
theorem f20:FnOk Tryz.prog 20 c20:=by
 refine FnOk.ofW orders (mkE_ok (l:=[(70,c70)]) (own:=[]) (inl:=[]) (by simp [f70]) (by simp)) Tryz.func20 {} 2 ok20 fun args r e=>?_
 unfold c20 at e
 split at e
 ·rename_i n h a b
  cases e
  refine⟨by simp,fun hm=>?_⟩
  have hq:=hm _ rfl
  refine⟨[],stOf [(0,.rs 2 n h),(1,.val (.agg ⟨[.int .i64 a,.int .i64 b]⟩))] [] 0 [],Wo trivial ⟨⟨rfl,rfl,fun i hi=>rfl⟩,rfl,qQ⟩ trivial,?_⟩
  with_unfolding_all refine⟨hq,[],stOf [(4,.val (.bool (anyP (fun i=>eqQ (a,b) (prs h i)) n)))] [] 0 [],Wo trivial ⟨?_,qQ⟩ trivial,rfl,rfl⟩
  exact congrArg (fun z=>PV.val (.bool z)) (ixP_any _ _)
 ·cases e
def c54:List PV→Option Ans
 |[.val (.int .i64 a),.val (.int .i64 b)]=>some ⟨none,.val (.agg ⟨[.int .i64 a,.int .i64 b]⟩),[]⟩
 |_=>none
theorem ok54:funcOk {} Tryz.f54 2=true:=by kernel_rfl
theorem f54:FnOk Tryz.prog 54 c54:=by
 refine FnOk.ofW orders (mkE_ok (l:=[]) (own:=[]) (inl:=[]) (by simp) (by simp)) Tryz.func54 {} 2 ok54 fun args r e=>?_
 unfold c54 at e
 split at e
 ·rename_i a b
  cases e
  refine⟨by simp,fun hm=>?_⟩
  refine⟨[],stOf [(0,.val (.int .i64 a)),(1,.val (.int .i64 b))] [] 0 [],Wo trivial ⟨rfl,rfl,qQ⟩ trivial,?_⟩
  with_unfolding_all exact⟨[some 0],stOf [(4,.ptr 0 0 0 0)] [⟨46,2,0,true,false,1,fun _=>[.val (.int .i64 a),.val (.int .i64 b)]⟩] 1 [],Wo ⟨qJ,qQ⟩ ⟨pP,qQ⟩ trivial,rfl,rfl⟩
 ·cases e
def c44:List PV→Option Ans
 |[.rs 2 n g,.rs 2 m h]=>some ⟨some (isQL n g∧isQL m h),.val (.bool (decide (n=m)&&!anyP (fun i=>!eqQ (prs g i) (prs h i)) n)),[]⟩
 |_=>none
theorem ok44:funcOk {} Tryz.f44 2=true:=by kernel_rfl
theorem f44:FnOk Tryz.prog 44 c44:=by
 refine FnOk.ofW orders (mkE_ok (l:=[]) (own:=[]) (inl:=[]) (by simp) (by simp)) Tryz.func44 {} 2 ok44 fun args r e=>?_
 unfold c44 at e
 split at e
 ·rename_i n g m h
  cases e
  refine⟨by simp,fun hm=>?_⟩
  obtain⟨⟨hp,hn⟩,hq,hmm⟩:=hm _ rfl
  refine⟨[],stOf [(0,.rs 2 n (fun i=>cellsQ (prs g i))),(1,.rs 2 m (fun i=>cellsQ (prs h i)))] [] 0 [],Wo trivial ⟨⟨rfl,rfl,fun i hi=>(hp i hi).symm⟩,⟨rfl,rfl,fun i hi=>(hq i hi).symm⟩,qQ⟩ trivial,?_⟩
  generalize prs g=p at *
  generalize prs h=q at *
  obtain⟨X,hX⟩:∃X,X=(decide (n=m)&&!anyP (fun i=>!eqQ (p i) (q i)) n):=⟨_,rfl⟩
  rw [←hX]
  have v0:(!((n:Int)==(m:Int)))=true→PV.val (.bool false)=PV.val (.bool X):=fun h=>by
   have h1:¬n=m:=fun e=>by rw [e,beq_self_eq_true] at h;cases h
   rw [hX,decide_eq_false h1]
   rfl
  have v1:(!((n:Int)==(m:Int)))=false→n=m:=fun h=>by
   have h6:((n:Int)==(m:Int))=true:=by simpa using h
   have:=eq_of_beq h6
   omega
  with_unfolding_all refine⟨fun h1=>⟨[],stOf [(4,.val (.bool X))] [] 0 [],Wo trivial ⟨v0 h1,qQ⟩ trivial,rfl,rfl⟩,fun h1=>⟨Nat,fun i=>i≤n∧∀j,j < i→eqQ (p j) (q j)=true,fun i=>stOf [(0,.rs 2 n (fun i=>cellsQ (p i))),(1,.rs 2 m (fun i=>cellsQ (q i))),(12,.val (goInt n)),(13,.val (goInt i))] [] 0 [],fun i=>n - i,⟨0,[],⟨Nat.zero_le _,fun j hj=>absurd hj (Nat.not_lt_zero j)⟩,Wo trivial ⟨qW,qW,rfl,rfl,qQ⟩ trivial⟩,fun i hi=>?_⟩⟩
  have hnm:=v1 h1
  obtain⟨hin,hI⟩:i≤n∧∀j,j < i→eqQ (p j) (q j)=true:=hi
  with_unfolding_all refine⟨fun h2=>?_,fun h2=>⟨[],stOf [(4,.val (.bool X))] [] 0 [],Wo trivial ⟨?_,qQ⟩ trivial,rfl,rfl⟩⟩
  ·have h2:(i:Int) < n:=ltT h2
   have e:(i:Int).toNat=i:=Int.toNat_natCast i
   with_unfolding_all refine⟨⟨by omega,by omega⟩,⟨by omega,by omega⟩,fun h3=>⟨[],stOf [(4,.val (.bool X))] [] 0 [],Wo trivial ⟨?_,qQ⟩ trivial,rfl,rfl⟩,fun h3=>⟨i+1,[],⟨by omega,?_⟩,by show n - (i+1) < n - i;omega,Wo trivial ⟨qW,qW,rfl,?_,qQ⟩ trivial⟩⟩
   ·have h3:(!eqQ (p (i:Int).toNat) (q (i:Int).toNat))=true:=h3
    rw [e] at h3
    show PV.val (.bool false)=PV.val (.bool X)
    rw [hX,anyP_true.2 ⟨i,by omega,h3⟩,Bool.not_true,Bool.and_false]
   ·have h3:(!eqQ (p (i:Int).toNat) (q (i:Int).toNat))=false:=h3
    rw [e] at h3
    intro j hj
    rcases Nat.lt_or_ge j i with h|h
    ·exact hI j h
    ·obtain rfl:j=i:=by omega
     simpa using h3
   ·show PV.val (.int .i64 (IntKind.i64.wrap ((i:Int)+1)))=PV.val (.int .i64 ((i+1:Nat):Int))
    rw [wrap64 (by omega) (by omega)]
    rfl
  ·have h2:(n:Int)≤i:=ltF h2
   show PV.val (.bool true)=PV.val (.bool X)
   rw [hX,decide_eq_true hnm,anyP_false.2 fun j hj=>by rw [hI j (by omega)];rfl]
   rfl
 ·cases e
end Go.Proofs
namespace Go.Num
open Go Go.Ex Go.Proofs
def boxQ (q:Rat) (st:Nat):Blk:=⟨23,3,st,true,false,1,fun _=>(rsQ q).cells⟩
def segV (a b:PtS):Value:=.agg ⟨[.bool a.x.s,.string a.x.b,.string a.x.c,.bool a.y.s,.string a.y.b,.string a.y.c,.bool b.x.s,.string b.x.b,.string b.x.c,.bool b.y.s,.string b.y.b,.string b.y.c]⟩
def segC (a b:PtS):List PV:=[.val (.bool a.x.s),.val (.string a.x.b),.val (.string a.x.c),.val (.bool a.y.s),.val (.string a.y.b),.val (.string a.y.c),.val (.bool b.x.s),.val (.string b.x.b),.val (.string b.x.c),.val (.bool b.y.s),.val (.string b.y.b),.val (.string b.y.c)]
def rdS:Value→PtS×PtS
 |.agg ⟨[.bool s1,.string b1,.string c1,.bool s2,.string b2,.string c2,.bool s3,.string b3,.string c3,.bool s4,.string b4,.string c4]⟩=>(⟨⟨s1,b1,c1⟩,⟨s2,b2,c2⟩⟩,⟨⟨s3,b3,c3⟩,⟨s4,b4,c4⟩⟩)
 |_=>(ptQ 0 0,ptQ 0 0)
def isSeg (K:Nat) (v:Value):Prop:=∃a b,v=segV a b∧PtS.le K a∧PtS.le K b
def farQ (i:Nat) (lo hi p:PtS):Rat:=match i with
 |0=>lo.X - p.X
 |1=>p.X - hi.X
 |2=>lo.Y - p.Y
 |_=>p.Y - hi.Y
end Go.Num
namespace Go.Proofs
open Go Go.Ex Go.Num
set_option maxRecDepth 100000
def c208:List PV→Option Ans
 |[.val v,.val u]=>some ⟨some (isSeg 4294967296 v∧isPk 4294967296 u),.val (ratV (farQ 0 (rdS v).1 (rdS v).2 (rdV u))),[]⟩
 |_=>none
theorem ok208:funcOk {} Tryz.f208 2=true:=by kernel_rfl
theorem f208:FnOk Tryz.prog 208 c208:=by
 refine FnOk.ofW orders (mkE_ok (l:=[(115,c115)]) (own:=[]) (inl:=[]) (by simp [f115]) (by simp)) Tryz.func208 {} 2 ok208 fun args r e=>?_
 unfold c208 at e
 split at e
 ·rename_i v u
  cases e
  refine⟨by simp,fun hm=>?_⟩
  obtain⟨⟨lo,hi,rfl,hlo,hhi⟩,p,rfl,hp⟩:=hm _ rfl
  refine⟨[],stOf [(0,.val (segV lo hi)),(1,.val p.v)] [] 0 [],Wo trivial ⟨rfl,rfl,qQ⟩ trivial,?_⟩
  have hr:=And.intro (isRk_x hlo (Nat.le_refl _)) (isRk_x hp (Nat.le_refl _))
  obtain⟨F,hF⟩:∃F,F=lo.X - p.X:=⟨_,rfl⟩
  have hv:PV.val (ratV (farQ 0 (rdS (segV lo hi)).1 (rdS (segV lo hi)).2 (rdV p.v)))=PV.val (ratV F):=by rw [hF];rfl
  rw [hv]
  with_unfolding_all refine⟨hr,[some 2],stOf [(4,.ptr 0 0 0 0)] [boxQ F 0] 1 [],Wo ⟨qZ ⟨⟨?_,rfl⟩,⟨?_,rfl⟩,⟨?_,rfl⟩,qQ⟩,qQ⟩ ⟨pP,qQ⟩ trivial,rfl,rfl⟩
  ·rw [hF];rfl
  ·rw [hF];rfl
  ·rw [hF];rfl
 ·cases e
def c209:List PV→Option Ans
 |[.val v,.val u]=>some ⟨some (isSeg 4294967296 v∧isPk 4294967296 u),.val (ratV (farQ 1 (rdS v).1 (rdS v).2 (rdV u))),[]⟩
 |_=>none
theorem ok209:funcOk {} Tryz.f209 2=true:=by kernel_rfl
theorem f209:FnOk Tryz.prog 209 c209:=by
 refine FnOk.ofW orders (mkE_ok (l:=[(115,c115)]) (own:=[]) (inl:=[]) (by simp [f115]) (by simp)) Tryz.func209 {} 2 ok209 fun args r e=>?_
 unfold c209 at e
 split at e
 ·rename_i v u
  cases e
  refine⟨by simp,fun hm=>?_⟩
  obtain⟨⟨lo,hi,rfl,hlo,hhi⟩,p,rfl,hp⟩:=hm _ rfl
  refine⟨[],stOf [(0,.val (segV lo hi)),(1,.val p.v)] [] 0 [],Wo trivial ⟨rfl,rfl,qQ⟩ trivial,?_⟩
  have hr:=And.intro (isRk_x hp (Nat.le_refl _)) (isRk_x hhi (Nat.le_refl _))
  obtain⟨F,hF⟩:∃F,F=p.X - hi.X:=⟨_,rfl⟩
  have hv:PV.val (ratV (farQ 1 (rdS (segV lo hi)).1 (rdS (segV lo hi)).2 (rdV p.v)))=PV.val (ratV F):=by rw [hF];rfl
  rw [hv]
  with_unfolding_all refine⟨hr,[some 2],stOf [(4,.ptr 0 0 0 0)] [boxQ F 0] 1 [],Wo ⟨qZ ⟨⟨?_,rfl⟩,⟨?_,rfl⟩,⟨?_,rfl⟩,qQ⟩,qQ⟩ ⟨pP,qQ⟩ trivial,rfl,rfl⟩
  ·rw [hF];rfl
  ·rw [hF];rfl
  ·rw [hF];rfl
 ·cases e
def c210:List PV→Option Ans
 |[.val v,.val u]=>some ⟨some (isSeg 4294967296 v∧isPk 4294967296 u),.val (ratV (farQ 2 (rdS v).1 (rdS v).2 (rdV u))),[]⟩
 |_=>none
theorem ok210:funcOk {} Tryz.f210 2=true:=by kernel_rfl
theorem f210:FnOk Tryz.prog 210 c210:=by
 refine FnOk.ofW orders (mkE_ok (l:=[(115,c115)]) (own:=[]) (inl:=[]) (by simp [f115]) (by simp)) Tryz.func210 {} 2 ok210 fun args r e=>?_
 unfold c210 at e
 split at e
 ·rename_i v u
  cases e
  refine⟨by simp,fun hm=>?_⟩
  obtain⟨⟨lo,hi,rfl,hlo,hhi⟩,p,rfl,hp⟩:=hm _ rfl
  refine⟨[],stOf [(0,.val (segV lo hi)),(1,.val p.v)] [] 0 [],Wo trivial ⟨rfl,rfl,qQ⟩ trivial,?_⟩
  have hr:=And.intro (isRk_y hlo (Nat.le_refl _)) (isRk_y hp (Nat.le_refl _))
  obtain⟨F,hF⟩:∃F,F=lo.Y - p.Y:=⟨_,rfl⟩
  have hv:PV.val (ratV (farQ 2 (rdS (segV lo hi)).1 (rdS (segV lo hi)).2 (rdV p.v)))=PV.val (ratV F):=by rw [hF];rfl
  rw [hv]
  with_unfolding_all refine⟨hr,[some 2],stOf [(4,.ptr 0 0 0 0)] [boxQ F 0] 1 [],Wo ⟨qZ ⟨⟨?_,rfl⟩,⟨?_,rfl⟩,⟨?_,rfl⟩,qQ⟩,qQ⟩ ⟨pP,qQ⟩ trivial,rfl,rfl⟩
  ·rw [hF];rfl
  ·rw [hF];rfl
  ·rw [hF];rfl
 ·cases e
def c211:List PV→Option Ans
 |[.val v,.val u]=>some ⟨some (isSeg 4294967296 v∧isPk 4294967296 u),.val (ratV (farQ 3 (rdS v).1 (rdS v).2 (rdV u))),[]⟩
 |_=>none
theorem ok211:funcOk {} Tryz.f211 2=true:=by kernel_rfl
theorem f211:FnOk Tryz.prog 211 c211:=by
 refine FnOk.ofW orders (mkE_ok (l:=[(115,c115)]) (own:=[]) (inl:=[]) (by simp [f115]) (by simp)) Tryz.func211 {} 2 ok211 fun args r e=>?_
 unfold c211 at e
 split at e
 ·rename_i v u
  cases e
  refine⟨by simp,fun hm=>?_⟩
  obtain⟨⟨lo,hi,rfl,hlo,hhi⟩,p,rfl,hp⟩:=hm _ rfl
  refine⟨[],stOf [(0,.val (segV lo hi)),(1,.val p.v)] [] 0 [],Wo trivial ⟨rfl,rfl,qQ⟩ trivial,?_⟩
  have hr:=And.intro (isRk_y hp (Nat.le_refl _)) (isRk_y hhi (Nat.le_refl _))
  obtain⟨F,hF⟩:∃F,F=p.Y - hi.Y:=⟨_,rfl⟩
  have hv:PV.val (ratV (farQ 3 (rdS (segV lo hi)).1 (rdS (segV lo hi)).2 (rdV p.v)))=PV.val (ratV F):=by rw [hF];rfl
  rw [hv]
  with_unfolding_all refine⟨hr,[some 2],stOf [(4,.ptr 0 0 0 0)] [boxQ F 0] 1 [],Wo ⟨qZ ⟨⟨?_,rfl⟩,⟨?_,rfl⟩,⟨?_,rfl⟩,qQ⟩,qQ⟩ ⟨pP,qQ⟩ trivial,rfl,rfl⟩
  ·rw [hF];rfl
  ·rw [hF];rfl
  ·rw [hF];rfl
 ·cases e
def c172:List PV→Option Ans
 |[]=>some ⟨none,.val (.agg ⟨[.int .i64 (-1),.func (.func 208) ⟨[]⟩ ⟨[]⟩,.int .i64 (-2),.func (.func 209) ⟨[]⟩ ⟨[]⟩,.int .i64 (-3),.func (.func 210) ⟨[]⟩ ⟨[]⟩,.int .i64 (-4),.func (.func 211) ⟨[]⟩ ⟨[]⟩]⟩),[]⟩
 |_=>none
theorem ok172:funcOk {} Tryz.f172 0=true:=by kernel_rfl
theorem f172:FnOk Tryz.prog 172 c172:=by
 refine FnOk.ofW orders (mkE_ok (l:=[]) (own:=[]) (inl:=[]) (by simp) (by simp)) Tryz.func172 {} 0 ok172 fun args r e=>?_
 unfold c172 at e
 split at e
 ·cases e
  refine⟨by simp,fun hm=>?_⟩
  refine⟨[],stOf [] [] 0 [],Wo trivial trivial trivial,?_⟩
  with_unfolding_all refine⟨[some 0],stOf [(0,.ptr 0 0 0 0)] [⟨197,2,0,false,true,4,fun i=>match i with|0=>[.val (.int .i64 (-1)),.val (.func (.func 208) ⟨[]⟩ ⟨[]⟩)]|1=>[.val (.int .i64 (-2)),.val (.func (.func 209) ⟨[]⟩ ⟨[]⟩)]|2=>[.val (.int .i64 (-3)),.val (.func (.func 210) ⟨[]⟩ ⟨[]⟩)]|_=>[.val (.int .i64 (-4)),.val (.func (.func 211) ⟨[]⟩ ⟨[]⟩)]⟩] 1 [],Wo ⟨qZ (fun i hi=>?_),qQ⟩ ⟨pP,qQ⟩ trivial,rfl,rfl⟩
  have hi:i < 4:=hi
  match i,hi with
  |0,_=>rfl
  |1,_=>rfl
  |2,_=>rfl
  |3,_=>rfl
  |i+4,h=>omega
 ·cases e
end Go.Proofs
namespace Go.Num
open Go Go.Ex Go.Proofs
def hgt (a b p:PtS):Rat:=crossP (subP b a) (subP p a)
theorem hgt_le {a b p:PtS} (ha:PtS.le 10000 a) (hb:PtS.le 10000 b) (hp:PtS.le 10000 p):QB 80017 (hgt a b p):=(crossP_le (subP_le hb ha) (subP_le hp ha)).le (by decide)
theorem QB_k01 {k:Nat} (hk:0 < k):QB k (mkRat 0 1)∧QB k (mkRat 1 1):=by
 have h2:1 < 256^k:=Nat.one_lt_pow (by omega) (by decide)
 have e:=mk_small 1 (d:=1) (by decide)
 refine⟨?_,Nat.lt_of_le_of_lt e.1 h2,Nat.lt_of_le_of_lt e.2 h2⟩
 rw [Rat.zero_mkRat]
 exact⟨Nat.pow_pos (by decide),h2⟩
theorem QB_01:QB 300000 (mkRat 0 1)∧QB 300000 (mkRat 1 1):=QB_k01 (by decide)
def stepQ (x y:Rat) (s:Rat×Rat):Option (Rat×Rat) :=
 bif !decide (cmpQ x 0 > 0)&&!decide (cmpQ y 0 > 0) then none else bif decide (cmpQ x 0 > 0)&&decide (cmpQ y 0 > 0) then some s
 else some (bif decide (cmpQ y 0 > 0)&&decide (cmpQ (x / (x - y)) s.1 > 0) then x / (x - y) else s.1,bif decide (cmpQ x 0 > 0)&&decide (cmpQ (x / (x - y)) s.2 < 0) then x / (x - y) else s.2)
def partF (n:Nat) (p:Nat→PtS) (a b:PtS):Nat→Nat→Rat×Rat→Option (Rat×Rat)
 |0,_,s=>some s
 |k+1,e,s=>(stepQ (hgt (p e) (p ((e+1)%n)) a) (hgt (p e) (p ((e+1)%n)) b) s).bind fun s=>partF n p a b k (e+1) s
def partB (n:Nat) (p:Nat→PtS) (a b:PtS):Bool:=!(ringE n p==0)||(!canonP a||!canonP b)
def partO (n:Nat) (p:Nat→PtS) (a b:PtS):Option (Rat×Rat) :=
 bif partB n p a b then none else(partF n p a b n 0 (mkRat 0 1,mkRat 1 1)).bind fun s=>bif decide (cmpQ s.1 s.2≥0) then none else some s
def loO (r:Option (Rat×Rat)):Rat:=match r with|some s=>s.1|none=>0
def hiO (r:Option (Rat×Rat)):Rat:=match r with|some s=>s.2|none=>0
end Go.Num
namespace Go.Proofs
open Go Go.Ex Go.Num
set_option maxRecDepth 100000
def c212:List PV→Option Ans
 |[.val v,.val u,.val w]=>some ⟨some (isPk 10000 v∧isPk 10000 u∧isPk 10000 w),.val (ratV (hgt (rdV v) (rdV u) (rdV w))),[]⟩
 |_=>none
def D212:Opt:={ perm:=atR 1 [(0,true),(1,true),(3,true),(4,true),(2,false),(5,false)] }
theorem ok212:funcOk D212.toOrd Tryz.f212 3=true:=by kernel_rfl
theorem f212:FnOk Tryz.prog 212 c212:=by
 refine FnOk.ofW orders (mkE_ok (l:=[(76,c76),(140,c140)]) (own:=[]) (inl:=[]) (by simp [f76,f140]) (by simp)) Tryz.func212 D212 3 ok212 fun args r e=>?_
 unfold c212 at e
 split at e
 ·rename_i v u w
  cases e
  refine⟨by simp,fun hm=>?_⟩
  obtain⟨⟨a,rfl,ha⟩,⟨b,rfl,hb⟩,c,rfl,hc⟩:=hm _ rfl
  refine⟨[],stOf [(0,.val a.v),(1,.val b.v),(2,.val c.v)] [] 0 [],Wo trivial ⟨rfl,rfl,rfl,qQ⟩ trivial,?_⟩
  have ha':=ha.mono (show 10000≤4294967296 by decide)
  have hb':=hb.mono (show 10000≤4294967296 by decide)
  have hc':=hc.mono (show 10000≤4294967296 by decide)
  have s1:=(subP_le hb ha).mono (show 10000+10000+3≤1000000 by decide)
  have s2:=(subP_le hc ha).mono (show 10000+10000+3≤1000000 by decide)
  obtain⟨F,hF⟩:∃F,F=hgt a b c:=⟨_,rfl⟩
  have hv:PV.val (ratV (hgt (rdV a.v) (rdV b.v) (rdV c.v)))=PV.val (ratV F):=by rw [hF];rfl
  rw [hv]
  with_unfolding_all refine⟨⟨⟨b,rfl,hb'⟩,a,rfl,ha'⟩,⟨⟨c,rfl,hc'⟩,a,rfl,ha'⟩,⟨⟨subP b a,rfl,s1⟩,subP c a,rfl,s2⟩,[some 3],stOf [(6,.ptr 0 0 0 0)] [boxQ F 0] 1 [],Wo ⟨qZ ⟨⟨?_,rfl⟩,⟨?_,rfl⟩,⟨?_,rfl⟩,qQ⟩,qQ⟩ ⟨pP,qQ⟩ trivial,rfl,rfl⟩
  ·rw [hF];rfl
  ·rw [hF];rfl
  ·rw [hF];rfl
 ·cases e
def c174:List PV→Option Ans
 |[.rs 6 n g,.val v]=>some ⟨some (isPL 10000 n g∧isSeg 10000 v),.val (.tuple ⟨[ratV (loO (partO n (pts g) (rdS v).1 (rdS v).2)),ratV (hiO (partO n (pts g) (rdS v).1 (rdS v).2)),.bool (partO n (pts g) (rdS v).1 (rdS v).2).isSome,.int .i64 (bif partB n (pts g) (rdS v).1 (rdS v).2 then 1 else 0)]⟩),[]⟩
 |_=>none
def D174:Opt:={ join:=fun c=>match c with | .region 7 _ _=>true | .region 12 _ _=>true|c=>joinAt [1,9,13] c,perm:=atTs [(7,.rds [0,1,2,3,5,6,7,8] (.alt 4 (.alt 9 (.alt 10 (.mk 11 .nil) (.mk 11 (.mk 10 .nil))) (.alt 10 (.alt 9 (.mk 11 .nil) (.mk 11 (.mk 9 .nil))) (.mk 11 (.alt 9 (.mk 10 .nil) (.mk 10 (.mk 9 .nil)))))) (.alt 10 (.alt 4 (.alt 9 (.mk 11 .nil) (.mk 11 (.mk 9 .nil))) (.mk 11 (.mk 4 (.mk 9 .nil)))) (.mk 11 (.alt 4 (.alt 9 (.mk 10 .nil) (.mk 10 (.mk 9 .nil))) (.mk 10 (.mk 4 (.mk 9 .nil)))))))),(8,(.rd 0 (.rd 3 (.mk 1 (.rd 2 (.mk 4 (.rd 5 (.rd 6 .nil)))))))),(12,(.rd 0 (.rd 1 (.rd 2 (.alt 3 (.alt 4 (.rd 5 (.rd 6 (.rd 7 (.mk 8 .nil)))) (.mk 8 (.mk 4 (.rd 5 (.rd 6 (.rd 7 .nil)))))) (.mk 8 (.mk 3 (.mk 4 (.rd 5 (.rd 6 (.rd 7 .nil)))))))))))],all:=atTs [(19,.alt 0 (.alt 1 (OT.seq [2,3,4,5] .nil) (OT.seq [2,1,3,4,5] .nil)) (OT.seq [1,0,2,3,4,5] .nil))] }
theorem ok174:funcOk D174.toOrd Tryz.f174 2=true:=by kernel_rfl
theorem f174:FnOk Tryz.prog 174 c174:=by
 refine FnOk.ofW orders (mkS_ok (l:=[(124,c124),(167,c167),(88,c88),(169,c169),(212,c212),(139,c139),(115,c115),(173,c173),(80,c80)]) (own:=[]) (inl:=[]) (sq:=[(207,c207)]) (by simp [f124,f167,f88,f169,f212,f139,f115,f173,f80]) (by simp) (by simp [f207])) Tryz.func174 D174 2 ok174 fun args r e=>?_
 unfold c174 at e
 split at e
 ·rename_i n g v
  cases e
  refine⟨by simp,fun hm=>?_⟩
  obtain⟨⟨hg,hn⟩,a,b,rfl,ha,hb⟩:=hm _ rfl
  clear hm
  refine⟨[],stOf [(0,.rs 6 n (fun i=>(pts g i).cells)),(1,.val (segV a b))] [] 0 [],Wo trivial ⟨⟨rfl,rfl,fun i hi=>(hg i hi).1.symm⟩,rfl,qQ⟩ trivial,?_⟩
  have pl:isPL 10000 n (fun i=>(pts g i).cells):=⟨fun i hi=>⟨rfl,(hg i hi).2⟩,hn⟩
  generalize hp:pts g=p at *
  obtain⟨X,hX⟩:∃X,X=partO n p a b:=⟨_,rfl⟩
  obtain⟨Bd,hB⟩:∃B,B=partB n p a b:=⟨_,rfl⟩
  have hv:PV.val (.tuple ⟨[ratV (loO (partO n p (rdS (segV a b)).1 (rdS (segV a b)).2)),ratV (hiO (partO n p (rdS (segV a b)).1 (rdS (segV a b)).2)),.bool (partO n p (rdS (segV a b)).1 (rdS (segV a b)).2).isSome,.int .i64 (bif partB n p (rdS (segV a b)).1 (rdS (segV a b)).2 then 1 else 0)]⟩)=PV.val (.tuple ⟨[ratV (loO X),ratV (hiO X),.bool X.isSome,.int .i64 (bif Bd then 1 else 0)]⟩):=by rw [hX,hB];rfl
  rw [hv]
  clear hv
  have zb:X=none→PV.val (.bool false)=PV.val (.bool (decide ((loO X).num < 0)))∧PV.val (.string ⟨#[]⟩)=PV.val (.string (numB (loO X).num.natAbs))∧PV.val (.string ⟨#[]⟩)=PV.val (.string (denT (loO X).den))∧PV.val (.bool false)=PV.val (.bool X.isSome):=fun h=>by
   rw [h]
   refine⟨rfl,?_,rfl,rfl⟩
   show PV.val (.string ⟨#[]⟩)=PV.val (.string (numB 0))
   rw [numB_zero]
  have zc:X=none→PV.val (.bool false)=PV.val (.bool (decide ((hiO X).num < 0)))∧PV.val (.string ⟨#[]⟩)=PV.val (.string (numB (hiO X).num.natAbs))∧PV.val (.string ⟨#[]⟩)=PV.val (.string (denT (hiO X).den)):=fun h=>by
   rw [h]
   refine⟨rfl,?_,rfl⟩
   show PV.val (.string ⟨#[]⟩)=PV.val (.string (numB 0))
   rw [numB_zero]
  have xB:Bd=true→X=none:=fun h=>by
   rw [hX]
   unfold partO
   rw [←hB,h]
   rfl
  have e1:Bd=true→PV.val (.int .i64 1)=PV.val (.int .i64 (bif Bd then 1 else 0)):=fun h=>by rw [h];rfl
  have e0:Bd=false→PV.val (.int .i64 0)=PV.val (.int .i64 (bif Bd then 1 else 0)):=fun h=>by rw [h];rfl
  have hBd:Bd=(!(ringE n p==0)||(!canonP a||!canonP b)):=hB
  with_unfolding_all refine⟨Unit,fun _=>Bd=false,fun _=>stOf [(0,.rs 6 n (fun i=>(p i).cells)),(3,.ptr 0 0 0 0),(4,.ptr 1 1 0 0),(5,.ptr 2 2 0 0),(6,.ptr 3 3 0 0),(7,.ptr 4 4 0 0)] [⟨117,12,0,true,false,1,fun _=>[.val (.bool a.x.s),.val (.string a.x.b),.val (.string a.x.c),.val (.bool a.y.s),.val (.string a.y.b),.val (.string a.y.c),.val (.bool b.x.s),.val (.string b.x.b),.val (.string b.x.c),.val (.bool b.y.s),.val (.string b.y.b),.val (.string b.y.c)]⟩,boxR false ⟨#[]⟩ ⟨#[]⟩ 1,boxR false ⟨#[]⟩ ⟨#[]⟩ 2,⟨4,1,3,true,false,1,fun _=>[.val (.bool false)]⟩,⟨38,1,4,true,false,1,fun _=>[.val (.int .i64 0)]⟩] 5 [],?_,fun _ hbd=>?_⟩
  ·have cn:∀r:Nat→List PV,pts r 0=a→pts r 1=b→anyP (fun i=>!canonP (pts r i)) 2=(!canonP a||!canonP b):=fun r h h'=>by
    have e:List.range 2=[0,1]:=rfl
    simp only [anyP,e,List.any_cons,List.any_nil,Bool.or_false,h,h']
   have q1:(ringE n p != 0) = !false→Bd=true:=fun h=>by
    have h:(ringE n p==0)=false:=by simpa using h
    rw [hBd,h]
    rfl
   have q2:∀r:Nat→List PV,pts r 0=a→pts r 1=b→(!!anyP (fun i=>!canonP (pts r i)) 2)=true→Bd=true:=fun r h h' h2=>by
    rw [cn r h h',Bool.not_not] at h2
    rw [hBd,h2,Bool.or_true]
   have q3:∀r:Nat→List PV,pts r 0=a→pts r 1=b→(ringE n p != 0)=false→(!!anyP (fun i=>!canonP (pts r i)) 2)=false→Bd=false:=fun r h h' h1 h2=>by
    rw [cn r h h',Bool.not_not] at h2
    have h1:(ringE n p==0)=true:=by simpa using h1
    rw [hBd,h1,h2]
    rfl
   have ha':=ha.mono (show 10000≤4294967296 by decide)
   have hb':=hb.mono (show 10000≤4294967296 by decide)
   have p2:∀r:Nat→List PV,r 0=a.cells→r 1=b.cells→isPL 4294967296 2 r:=fun r h h'=>⟨fun i hi=>by
    match i,hi with
    |0,_=>exact⟨by rw [pts,h];rfl,by rw [pts,h];exact ha'⟩
    |1,_=>exact⟨by rw [pts,h'];rfl,by rw [pts,h'];exact hb'⟩
    |i+2,h=>omega,by decide⟩
   with_unfolding_all refine⟨pl,fun h1=>⟨p2 _ rfl rfl,fun h2=>⟨[some 1,some 2,some 3,some 4],stOf [(4,.ptr 0 0 0 0),(5,.ptr 1 1 0 0),(6,.ptr 2 2 0 0),(7,.ptr 3 3 0 0)] [boxQ (loO X) 0,boxQ (hiO X) 1,⟨4,1,2,true,false,1,fun _=>[.val (.bool X.isSome)]⟩,⟨38,1,3,true,false,1,fun _=>[.val (.int .i64 (bif Bd then 1 else 0))]⟩] 4 [],Wo ⟨qZ ⟨⟨(zb (xB (q2 _ rfl rfl h2))).1,rfl⟩,⟨(zb (xB (q2 _ rfl rfl h2))).2.1,rfl⟩,⟨(zb (xB (q2 _ rfl rfl h2))).2.2.1,rfl⟩,qQ⟩,qZ ⟨⟨(zc (xB (q2 _ rfl rfl h2))).1,rfl⟩,⟨(zc (xB (q2 _ rfl rfl h2))).2.1,rfl⟩,⟨(zc (xB (q2 _ rfl rfl h2))).2.2,rfl⟩,qQ⟩,qZ ⟨⟨(zb (xB (q2 _ rfl rfl h2))).2.2.2,rfl⟩,qQ⟩,qZ ⟨⟨e1 (q2 _ rfl rfl h2),rfl⟩,qQ⟩,qQ⟩ ⟨pP,pP,pP,pP,qQ⟩ trivial,rfl,rfl⟩,fun h2=>⟨(),[some 0,some 1,some 2,some 3,some 4],q3 _ rfl rfl h1 h2,Wo ⟨qZ ⟨rq,rq,rq,rq,rq,rq,rq,rq,rq,rq,rq,rq,qQ⟩,qX,qX,qY,qY,qQ⟩ ⟨qW,pP,pP,pP,pP,pP,qQ⟩ trivial⟩⟩,fun h1=>⟨fun h2=>⟨[some 1,some 2,some 3,some 4],stOf [(4,.ptr 0 0 0 0),(5,.ptr 1 1 0 0),(6,.ptr 2 2 0 0),(7,.ptr 3 3 0 0)] [boxQ (loO X) 0,boxQ (hiO X) 1,⟨4,1,2,true,false,1,fun _=>[.val (.bool X.isSome)]⟩,⟨38,1,3,true,false,1,fun _=>[.val (.int .i64 (bif Bd then 1 else 0))]⟩] 4 [],Wo ⟨qZ ⟨⟨(zb (xB (q1 h1))).1,rfl⟩,⟨(zb (xB (q1 h1))).2.1,rfl⟩,⟨(zb (xB (q1 h1))).2.2.1,rfl⟩,qQ⟩,qZ ⟨⟨(zc (xB (q1 h1))).1,rfl⟩,⟨(zc (xB (q1 h1))).2.1,rfl⟩,⟨(zc (xB (q1 h1))).2.2,rfl⟩,qQ⟩,qZ ⟨⟨(zb (xB (q1 h1))).2.2.2,rfl⟩,qQ⟩,qZ ⟨⟨e1 (q1 h1),rfl⟩,qQ⟩,qQ⟩ ⟨pP,pP,pP,pP,qQ⟩ trivial,rfl,rfl⟩,fun h2=>(nomatch h2)⟩⟩
  ·have hbd:Bd=false:=hbd
   with_unfolding_all refine⟨by decide,by decide,fun _ _=>rfl,⟨rfl,hn⟩,Rat×Rat,fun k s=>(QB 300000 s.1∧QB 300000 s.2)∧partF n p a b (n - k) k s=partF n p a b n 0 (mkRat 0 1,mkRat 1 1),fun s=>stOf [(3,.ptr 0 0 0 0),(4,.ptr 1 1 0 0),(5,.ptr 2 2 0 0),(6,.ptr 3 3 0 0),(7,.ptr 4 4 0 0),(8,.ptr 5 5 0 0),(9,.ptr 6 6 0 0)] [⟨117,12,0,true,false,1,fun _=>[.val (.bool a.x.s),.val (.string a.x.b),.val (.string a.x.c),.val (.bool a.y.s),.val (.string a.y.b),.val (.string a.y.c),.val (.bool b.x.s),.val (.string b.x.b),.val (.string b.x.c),.val (.bool b.y.s),.val (.string b.y.b),.val (.string b.y.c)]⟩,boxR false ⟨#[]⟩ ⟨#[]⟩ 1,boxR false ⟨#[]⟩ ⟨#[]⟩ 2,⟨4,1,3,true,false,1,fun _=>[.val (.bool false)]⟩,⟨38,1,4,true,false,1,fun _=>[.val (.int .i64 0)]⟩,boxQ s.1 5,boxQ s.2 6] 7 [],⟨(mkRat 0 1,mkRat 1 1),[some 0,some 1,some 2,some 3,some 4,some 5,some 6],?_,Wo ⟨qZ ⟨rq,rq,rq,rq,rq,rq,rq,rq,rq,rq,rq,rq,qQ⟩,qX,qX,qY,qY,qX,qX,qQ⟩ ⟨pP,pP,pP,pP,pP,pP,pP,qQ⟩ trivial⟩,fun k s hk hI=>?_,fun s hI=>?_⟩
   ·exact⟨⟨QB_01.1,QB_01.2⟩,rfl⟩
   ·obtain⟨⟨hq1,hq2⟩,hpf⟩:(QB 300000 s.1∧QB 300000 s.2)∧partF n p a b (n - k) k s=partF n p a b n 0 (mkRat 0 1,mkRat 1 1):=hI
    have hkn:k < n:=hk
    have hml:=Nat.mod_lt (k+1) (show 0 < n by omega)
    have hpk:=(hg k hkn).2
    have hpm:=(hg _ hml).2
    obtain⟨x,hx⟩:∃x,x=hgt (p k) (p ((k+1)%n)) a:=⟨_,rfl⟩
    obtain⟨y,hy⟩:∃y,y=hgt (p k) (p ((k+1)%n)) b:=⟨_,rfl⟩
    have hx1:hgt (rdV (p k).v) (rdV (p ((k+1)%n)).v) (rdV a.v)=x:=by rw [hx];rfl
    have hy1:hgt (rdV (p k).v) (rdV (p ((k+1)%n)).v) (rdV b.v)=y:=by rw [hy];rfl
    have qx:QB 80017 x:=by rw [hx];exact hgt_le hpk hpm ha
    have qy:QB 80017 y:=by rw [hy];exact hgt_le hpk hpm hb
    have pr1:isPk 10000 (p k).v∧isPk 10000 (p ((k+1)%n)).v∧isPk 10000 a.v:=⟨⟨_,rfl,hpk⟩,⟨_,rfl,hpm⟩,_,rfl,ha⟩
    have pr2:isPk 10000 (p k).v∧isPk 10000 (p ((k+1)%n)).v∧isPk 10000 b.v:=⟨⟨_,rfl,hpk⟩,⟨_,rfl,hpm⟩,_,rfl,hb⟩
    have hstep:partF n p a b (n - k) k s=(stepQ x y s).bind fun s=>partF n p a b (n - (k+1)) (k+1) s:=by
     rw [hx,hy,show n - k=(n - (k+1))+1 by omega]
     rfl
    clear hx hy
    with_unfolding_all refine⟨rfl,Unit,fun _=>True,fun _=>stOf [(3,.ptr 0 0 0 0),(4,.ptr 1 1 0 0),(5,.ptr 2 2 0 0),(6,.ptr 3 3 0 0),(7,.ptr 4 4 0 0),(8,.ptr 5 5 0 0),(9,.ptr 6 6 0 0),(12,.ptr 7 7 0 0),(13,.ptr 8 8 0 0)] [⟨117,12,0,true,false,1,fun _=>[.val (.bool a.x.s),.val (.string a.x.b),.val (.string a.x.c),.val (.bool a.y.s),.val (.string a.y.b),.val (.string a.y.c),.val (.bool b.x.s),.val (.string b.x.b),.val (.string b.x.c),.val (.bool b.y.s),.val (.string b.y.b),.val (.string b.y.c)]⟩,boxR false ⟨#[]⟩ ⟨#[]⟩ 1,boxR false ⟨#[]⟩ ⟨#[]⟩ 2,⟨4,1,3,true,false,1,fun _=>[.val (.bool false)]⟩,⟨38,1,4,true,false,1,fun _=>[.val (.int .i64 0)]⟩,boxQ s.1 5,boxQ s.2 6,boxQ x 7,boxQ y 8] 9 [[(3,.ptr 0 0 0 0),(4,.ptr 1 1 0 0),(5,.ptr 2 2 0 0),(6,.ptr 3 3 0 0),(7,.ptr 4 4 0 0),(8,.ptr 5 5 0 0),(9,.ptr 6 6 0 0)]],⟨⟨pr1,⟨⟨pr2,⟨⟨(),[some 0,some 1,some 2,some 3,some 4,some 5,some 6,some 9,some 10],trivial,Wo ⟨qZ ⟨rq,rq,rq,rq,rq,rq,rq,rq,rq,rq,rq,rq,qQ⟩,qX,qX,qY,qY,qX,qX,qZ ⟨⟨congrArg (fun q:Rat=>PV.val (.bool (decide (q.num < 0)))) hx1,rfl⟩,⟨congrArg (fun q:Rat=>PV.val (.string (numB q.num.natAbs))) hx1,rfl⟩,⟨congrArg (fun q:Rat=>PV.val (.string (denT q.den))) hx1,rfl⟩,qQ⟩,qZ ⟨⟨congrArg (fun q:Rat=>PV.val (.bool (decide (q.num < 0)))) hy1,rfl⟩,⟨congrArg (fun q:Rat=>PV.val (.string (numB q.num.natAbs))) hy1,rfl⟩,⟨congrArg (fun q:Rat=>PV.val (.string (denT q.den))) hy1,rfl⟩,qQ⟩,qQ⟩ ⟨pP,pP,pP,pP,pP,pP,pP,pP,pP,qQ⟩ ⟨⟨pP,pP,pP,pP,pP,pP,pP,qQ⟩,qQ⟩⟩,⟨(),[some 0,some 1,some 2,some 3,some 4,some 5,some 6,some 10,some 9],trivial,Wo ⟨qZ ⟨rq,rq,rq,rq,rq,rq,rq,rq,rq,rq,rq,rq,qQ⟩,qX,qX,qY,qY,qX,qX,qZ ⟨⟨congrArg (fun q:Rat=>PV.val (.bool (decide (q.num < 0)))) hx1,rfl⟩,⟨congrArg (fun q:Rat=>PV.val (.string (numB q.num.natAbs))) hx1,rfl⟩,⟨congrArg (fun q:Rat=>PV.val (.string (denT q.den))) hx1,rfl⟩,qQ⟩,qZ ⟨⟨congrArg (fun q:Rat=>PV.val (.bool (decide (q.num < 0)))) hy1,rfl⟩,⟨congrArg (fun q:Rat=>PV.val (.string (numB q.num.natAbs))) hy1,rfl⟩,⟨congrArg (fun q:Rat=>PV.val (.string (denT q.den))) hy1,rfl⟩,qQ⟩,qQ⟩ ⟨pP,pP,pP,pP,pP,pP,pP,pP,pP,qQ⟩ ⟨⟨pP,pP,pP,pP,pP,pP,pP,qQ⟩,qQ⟩⟩⟩⟩,⟨⟨⟨pr2,⟨(),[some 0,some 1,some 2,some 3,some 4,some 5,some 6,some 9,some 10],trivial,Wo ⟨qZ ⟨rq,rq,rq,rq,rq,rq,rq,rq,rq,rq,rq,rq,qQ⟩,qX,qX,qY,qY,qX,qX,qZ ⟨⟨congrArg (fun q:Rat=>PV.val (.bool (decide (q.num < 0)))) hx1,rfl⟩,⟨congrArg (fun q:Rat=>PV.val (.string (numB q.num.natAbs))) hx1,rfl⟩,⟨congrArg (fun q:Rat=>PV.val (.string (denT q.den))) hx1,rfl⟩,qQ⟩,qZ ⟨⟨congrArg (fun q:Rat=>PV.val (.bool (decide (q.num < 0)))) hy1,rfl⟩,⟨congrArg (fun q:Rat=>PV.val (.string (numB q.num.natAbs))) hy1,rfl⟩,⟨congrArg (fun q:Rat=>PV.val (.string (denT q.den))) hy1,rfl⟩,qQ⟩,qQ⟩ ⟨pP,pP,pP,pP,pP,pP,pP,pP,pP,qQ⟩ ⟨⟨pP,pP,pP,pP,pP,pP,pP,qQ⟩,qQ⟩⟩⟩,⟨pr2,⟨(),[some 0,some 1,some 2,some 3,some 4,some 5,some 6,some 9,some 10],trivial,Wo ⟨qZ ⟨rq,rq,rq,rq,rq,rq,rq,rq,rq,rq,rq,rq,qQ⟩,qX,qX,qY,qY,qX,qX,qZ ⟨⟨congrArg (fun q:Rat=>PV.val (.bool (decide (q.num < 0)))) hx1,rfl⟩,⟨congrArg (fun q:Rat=>PV.val (.string (numB q.num.natAbs))) hx1,rfl⟩,⟨congrArg (fun q:Rat=>PV.val (.string (denT q.den))) hx1,rfl⟩,qQ⟩,qZ ⟨⟨congrArg (fun q:Rat=>PV.val (.bool (decide (q.num < 0)))) hy1,rfl⟩,⟨congrArg (fun q:Rat=>PV.val (.string (numB q.num.natAbs))) hy1,rfl⟩,⟨congrArg (fun q:Rat=>PV.val (.string (denT q.den))) hy1,rfl⟩,qQ⟩,qQ⟩ ⟨pP,pP,pP,pP,pP,pP,pP,pP,pP,qQ⟩ ⟨⟨pP,pP,pP,pP,pP,pP,pP,qQ⟩,qQ⟩⟩⟩⟩,⟨⟨pr2,⟨(),[some 0,some 1,some 2,some 3,some 4,some 5,some 6,some 10,some 9],trivial,Wo ⟨qZ ⟨rq,rq,rq,rq,rq,rq,rq,rq,rq,rq,rq,rq,qQ⟩,qX,qX,qY,qY,qX,qX,qZ ⟨⟨congrArg (fun q:Rat=>PV.val (.bool (decide (q.num < 0)))) hx1,rfl⟩,⟨congrArg (fun q:Rat=>PV.val (.string (numB q.num.natAbs))) hx1,rfl⟩,⟨congrArg (fun q:Rat=>PV.val (.string (denT q.den))) hx1,rfl⟩,qQ⟩,qZ ⟨⟨congrArg (fun q:Rat=>PV.val (.bool (decide (q.num < 0)))) hy1,rfl⟩,⟨congrArg (fun q:Rat=>PV.val (.string (numB q.num.natAbs))) hy1,rfl⟩,⟨congrArg (fun q:Rat=>PV.val (.string (denT q.den))) hy1,rfl⟩,qQ⟩,qQ⟩ ⟨pP,pP,pP,pP,pP,pP,pP,pP,pP,qQ⟩ ⟨⟨pP,pP,pP,pP,pP,pP,pP,qQ⟩,qQ⟩⟩⟩,⟨pr2,⟨(),[some 0,some 1,some 2,some 3,some 4,some 5,some 6,some 10,some 9],trivial,Wo ⟨qZ ⟨rq,rq,rq,rq,rq,rq,rq,rq,rq,rq,rq,rq,qQ⟩,qX,qX,qY,qY,qX,qX,qZ ⟨⟨congrArg (fun q:Rat=>PV.val (.bool (decide (q.num < 0)))) hx1,rfl⟩,⟨congrArg (fun q:Rat=>PV.val (.string (numB q.num.natAbs))) hx1,rfl⟩,⟨congrArg (fun q:Rat=>PV.val (.string (denT q.den))) hx1,rfl⟩,qQ⟩,qZ ⟨⟨congrArg (fun q:Rat=>PV.val (.bool (decide (q.num < 0)))) hy1,rfl⟩,⟨congrArg (fun q:Rat=>PV.val (.string (numB q.num.natAbs))) hy1,rfl⟩,⟨congrArg (fun q:Rat=>PV.val (.string (denT q.den))) hy1,rfl⟩,qQ⟩,qQ⟩ ⟨pP,pP,pP,pP,pP,pP,pP,pP,pP,qQ⟩ ⟨⟨pP,pP,pP,pP,pP,pP,pP,qQ⟩,qQ⟩⟩⟩⟩⟩⟩⟩,⟨⟨⟨pr1,⟨⟨pr2,⟨(),[some 0,some 1,some 2,some 3,some 4,some 5,some 6,some 9,some 10],trivial,Wo ⟨qZ ⟨rq,rq,rq,rq,rq,rq,rq,rq,rq,rq,rq,rq,qQ⟩,qX,qX,qY,qY,qX,qX,qZ ⟨⟨congrArg (fun q:Rat=>PV.val (.bool (decide (q.num < 0)))) hx1,rfl⟩,⟨congrArg (fun q:Rat=>PV.val (.string (numB q.num.natAbs))) hx1,rfl⟩,⟨congrArg (fun q:Rat=>PV.val (.string (denT q.den))) hx1,rfl⟩,qQ⟩,qZ ⟨⟨congrArg (fun q:Rat=>PV.val (.bool (decide (q.num < 0)))) hy1,rfl⟩,⟨congrArg (fun q:Rat=>PV.val (.string (numB q.num.natAbs))) hy1,rfl⟩,⟨congrArg (fun q:Rat=>PV.val (.string (denT q.den))) hy1,rfl⟩,qQ⟩,qQ⟩ ⟨pP,pP,pP,pP,pP,pP,pP,pP,pP,qQ⟩ ⟨⟨pP,pP,pP,pP,pP,pP,pP,qQ⟩,qQ⟩⟩⟩,⟨pr2,⟨(),[some 0,some 1,some 2,some 3,some 4,some 5,some 6,some 9,some 10],trivial,Wo ⟨qZ ⟨rq,rq,rq,rq,rq,rq,rq,rq,rq,rq,rq,rq,qQ⟩,qX,qX,qY,qY,qX,qX,qZ ⟨⟨congrArg (fun q:Rat=>PV.val (.bool (decide (q.num < 0)))) hx1,rfl⟩,⟨congrArg (fun q:Rat=>PV.val (.string (numB q.num.natAbs))) hx1,rfl⟩,⟨congrArg (fun q:Rat=>PV.val (.string (denT q.den))) hx1,rfl⟩,qQ⟩,qZ ⟨⟨congrArg (fun q:Rat=>PV.val (.bool (decide (q.num < 0)))) hy1,rfl⟩,⟨congrArg (fun q:Rat=>PV.val (.string (numB q.num.natAbs))) hy1,rfl⟩,⟨congrArg (fun q:Rat=>PV.val (.string (denT q.den))) hy1,rfl⟩,qQ⟩,qQ⟩ ⟨pP,pP,pP,pP,pP,pP,pP,pP,pP,qQ⟩ ⟨⟨pP,pP,pP,pP,pP,pP,pP,qQ⟩,qQ⟩⟩⟩⟩⟩,⟨pr1,⟨pr2,⟨(),[some 0,some 1,some 2,some 3,some 4,some 5,some 6,some 9,some 10],trivial,Wo ⟨qZ ⟨rq,rq,rq,rq,rq,rq,rq,rq,rq,rq,rq,rq,qQ⟩,qX,qX,qY,qY,qX,qX,qZ ⟨⟨congrArg (fun q:Rat=>PV.val (.bool (decide (q.num < 0)))) hx1,rfl⟩,⟨congrArg (fun q:Rat=>PV.val (.string (numB q.num.natAbs))) hx1,rfl⟩,⟨congrArg (fun q:Rat=>PV.val (.string (denT q.den))) hx1,rfl⟩,qQ⟩,qZ ⟨⟨congrArg (fun q:Rat=>PV.val (.bool (decide (q.num < 0)))) hy1,rfl⟩,⟨congrArg (fun q:Rat=>PV.val (.string (numB q.num.natAbs))) hy1,rfl⟩,⟨congrArg (fun q:Rat=>PV.val (.string (denT q.den))) hy1,rfl⟩,qQ⟩,qQ⟩ ⟨pP,pP,pP,pP,pP,pP,pP,pP,pP,qQ⟩ ⟨⟨pP,pP,pP,pP,pP,pP,pP,qQ⟩,qQ⟩⟩⟩⟩⟩,⟨⟨pr1,⟨⟨pr2,⟨(),[some 0,some 1,some 2,some 3,some 4,some 5,some 6,some 10,some 9],trivial,Wo ⟨qZ ⟨rq,rq,rq,rq,rq,rq,rq,rq,rq,rq,rq,rq,qQ⟩,qX,qX,qY,qY,qX,qX,qZ ⟨⟨congrArg (fun q:Rat=>PV.val (.bool (decide (q.num < 0)))) hx1,rfl⟩,⟨congrArg (fun q:Rat=>PV.val (.string (numB q.num.natAbs))) hx1,rfl⟩,⟨congrArg (fun q:Rat=>PV.val (.string (denT q.den))) hx1,rfl⟩,qQ⟩,qZ ⟨⟨congrArg (fun q:Rat=>PV.val (.bool (decide (q.num < 0)))) hy1,rfl⟩,⟨congrArg (fun q:Rat=>PV.val (.string (numB q.num.natAbs))) hy1,rfl⟩,⟨congrArg (fun q:Rat=>PV.val (.string (denT q.den))) hy1,rfl⟩,qQ⟩,qQ⟩ ⟨pP,pP,pP,pP,pP,pP,pP,pP,pP,qQ⟩ ⟨⟨pP,pP,pP,pP,pP,pP,pP,qQ⟩,qQ⟩⟩⟩,⟨pr2,⟨(),[some 0,some 1,some 2,some 3,some 4,some 5,some 6,some 10,some 9],trivial,Wo ⟨qZ ⟨rq,rq,rq,rq,rq,rq,rq,rq,rq,rq,rq,rq,qQ⟩,qX,qX,qY,qY,qX,qX,qZ ⟨⟨congrArg (fun q:Rat=>PV.val (.bool (decide (q.num < 0)))) hx1,rfl⟩,⟨congrArg (fun q:Rat=>PV.val (.string (numB q.num.natAbs))) hx1,rfl⟩,⟨congrArg (fun q:Rat=>PV.val (.string (denT q.den))) hx1,rfl⟩,qQ⟩,qZ ⟨⟨congrArg (fun q:Rat=>PV.val (.bool (decide (q.num < 0)))) hy1,rfl⟩,⟨congrArg (fun q:Rat=>PV.val (.string (numB q.num.natAbs))) hy1,rfl⟩,⟨congrArg (fun q:Rat=>PV.val (.string (denT q.den))) hy1,rfl⟩,qQ⟩,qQ⟩ ⟨pP,pP,pP,pP,pP,pP,pP,pP,pP,qQ⟩ ⟨⟨pP,pP,pP,pP,pP,pP,pP,qQ⟩,qQ⟩⟩⟩⟩⟩,⟨pr1,⟨pr2,⟨(),[some 0,some 1,some 2,some 3,some 4,some 5,some 6,some 10,some 9],trivial,Wo ⟨qZ ⟨rq,rq,rq,rq,rq,rq,rq,rq,rq,rq,rq,rq,qQ⟩,qX,qX,qY,qY,qX,qX,qZ ⟨⟨congrArg (fun q:Rat=>PV.val (.bool (decide (q.num < 0)))) hx1,rfl⟩,⟨congrArg (fun q:Rat=>PV.val (.string (numB q.num.natAbs))) hx1,rfl⟩,⟨congrArg (fun q:Rat=>PV.val (.string (denT q.den))) hx1,rfl⟩,qQ⟩,qZ ⟨⟨congrArg (fun q:Rat=>PV.val (.bool (decide (q.num < 0)))) hy1,rfl⟩,⟨congrArg (fun q:Rat=>PV.val (.string (numB q.num.natAbs))) hy1,rfl⟩,⟨congrArg (fun q:Rat=>PV.val (.string (denT q.den))) hy1,rfl⟩,qQ⟩,qQ⟩ ⟨pP,pP,pP,pP,pP,pP,pP,pP,pP,qQ⟩ ⟨⟨pP,pP,pP,pP,pP,pP,pP,qQ⟩,qQ⟩⟩⟩⟩⟩⟩⟩,fun _ _=>?_⟩
    have rx:isRk 4294967296 (ratV x):=qx.rk (by decide)
    have ry:isRk 4294967296 (ratV y):=qy.rk (by decide)
    have ix:decide (cmpQ (rdR (ratV x)) 0 > 0)=decide (cmpQ x 0 > 0):=by rw [rdR_ratV]
    have iy:decide (cmpQ (rdR (ratV y)) 0 > 0)=decide (cmpQ y 0 > 0):=by rw [rdR_ratV]
    have nin:(!decide (cmpQ (rdR (ratV x)) 0 > 0))=true→(!decide (cmpQ (rdR (ratV y)) 0 > 0))=true→X=none:=fun h h'=>by
     rw [ix] at h
     rw [iy] at h'
     rw [hX]
     unfold partO
     rw [←hB,hbd]
     unfold stepQ at hstep
     rw [h,h'] at hstep
     rw [←hpf,hstep]
     rfl
    have I9a:(!decide (cmpQ (rdR (ratV y)) 0 > 0))=false→(decide (cmpQ x 0 > 0)||decide (cmpQ y 0 > 0))=true:=fun h=>by
     rw [iy] at h
     have h:decide (cmpQ y 0 > 0)=true:=by simpa using h
     rw [h,Bool.or_true]
    have I9b:(!decide (cmpQ (rdR (ratV x)) 0 > 0)) = !true→(decide (cmpQ x 0 > 0)||decide (cmpQ y 0 > 0))=true:=fun h=>by
     rw [ix] at h
     have h:decide (cmpQ x 0 > 0)=true:=by simpa using h
     rw [h,Bool.true_or]
    with_unfolding_all refine⟨rx,ry,Unit,fun _=>(decide (cmpQ x 0 > 0)||decide (cmpQ y 0 > 0))=true,fun _=>stOf [(3,.ptr 0 0 0 0),(4,.ptr 1 1 0 0),(5,.ptr 2 2 0 0),(6,.ptr 3 3 0 0),(7,.ptr 4 4 0 0),(8,.ptr 5 5 0 0),(9,.ptr 6 6 0 0),(12,.ptr 7 7 0 0),(13,.ptr 8 8 0 0),(14,.val (.bool (decide (cmpQ x 0 > 0)))),(15,.val (.bool (decide (cmpQ y 0 > 0))))] [⟨117,12,0,true,false,1,fun _=>[.val (.bool a.x.s),.val (.string a.x.b),.val (.string a.x.c),.val (.bool a.y.s),.val (.string a.y.b),.val (.string a.y.c),.val (.bool b.x.s),.val (.string b.x.b),.val (.string b.x.c),.val (.bool b.y.s),.val (.string b.y.b),.val (.string b.y.c)]⟩,boxR false ⟨#[]⟩ ⟨#[]⟩ 1,boxR false ⟨#[]⟩ ⟨#[]⟩ 2,⟨4,1,3,true,false,1,fun _=>[.val (.bool false)]⟩,⟨38,1,4,true,false,1,fun _=>[.val (.int .i64 0)]⟩,boxQ s.1 5,boxQ s.2 6,boxQ x 7,boxQ y 8] 9 [[(3,.ptr 0 0 0 0),(4,.ptr 1 1 0 0),(5,.ptr 2 2 0 0),(6,.ptr 3 3 0 0),(7,.ptr 4 4 0 0),(8,.ptr 5 5 0 0),(9,.ptr 6 6 0 0)]],⟨fun h1=>⟨fun h2=>⟨[some 1,some 2,some 3,some 4],stOf [(4,.ptr 0 0 0 0),(5,.ptr 1 1 0 0),(6,.ptr 2 2 0 0),(7,.ptr 3 3 0 0)] [boxQ (loO X) 0,boxQ (hiO X) 1,⟨4,1,2,true,false,1,fun _=>[.val (.bool X.isSome)]⟩,⟨38,1,3,true,false,1,fun _=>[.val (.int .i64 (bif Bd then 1 else 0))]⟩] 4 [],Wo ⟨qZ ⟨⟨(zb (nin h1 h2)).1,rfl⟩,⟨(zb (nin h1 h2)).2.1,rfl⟩,⟨(zb (nin h1 h2)).2.2.1,rfl⟩,qQ⟩,qZ ⟨⟨(zc (nin h1 h2)).1,rfl⟩,⟨(zc (nin h1 h2)).2.1,rfl⟩,⟨(zc (nin h1 h2)).2.2,rfl⟩,qQ⟩,qZ ⟨⟨(zb (nin h1 h2)).2.2.2,rfl⟩,qQ⟩,qZ ⟨⟨e0 hbd,rfl⟩,qQ⟩,qQ⟩ ⟨pP,pP,pP,pP,qQ⟩ trivial,rfl,rfl⟩,fun h2=>⟨(),[some 0,some 1,some 2,some 3,some 4,some 5,some 6,some 7,some 8],I9a h2,Wo ⟨qZ ⟨rq,rq,rq,rq,rq,rq,rq,rq,rq,rq,rq,rq,qQ⟩,qX,qX,qY,qY,qX,qX,qX,qX,qQ⟩ ⟨pP,pP,pP,pP,pP,pP,pP,pP,pP,congrArg (fun z=>PV.val (.bool z)) ix,congrArg (fun z=>PV.val (.bool z)) iy,qQ⟩ ⟨⟨pP,pP,pP,pP,pP,pP,pP,qQ⟩,qQ⟩⟩⟩,fun h1=>⟨fun h2=>(nomatch h2),fun h2=>⟨(),[some 0,some 1,some 2,some 3,some 4,some 5,some 6,some 7,some 8],I9b h1,Wo ⟨qZ ⟨rq,rq,rq,rq,rq,rq,rq,rq,rq,rq,rq,rq,qQ⟩,qX,qX,qY,qY,qX,qX,qX,qX,qQ⟩ ⟨pP,pP,pP,pP,pP,pP,pP,pP,pP,congrArg (fun z=>PV.val (.bool z)) ix,congrArg (fun z=>PV.val (.bool z)) iy,qQ⟩ ⟨⟨pP,pP,pP,pP,pP,pP,pP,qQ⟩,qQ⟩⟩⟩⟩,fun _ h9=>?_⟩
    have h9:(decide (cmpQ x 0 > 0)||decide (cmpQ y 0 > 0))=true:=h9
    obtain⟨t,ht⟩:∃t,t=x / (x - y):=⟨_,rfl⟩
    have ht1:rdR (ratV x) / rdR (ratV (rdR (ratV x) - rdR (ratV y)))=t:=by rw [rdR_ratV,rdR_ratV,rdR_ratV,ht]
    have qt:QB 300000 t:=by rw [ht];exact(qx.div (qx.sub qy)).le (by decide)
    have pr3:isRk 4294967296 (ratV x)∧isRk 4294967296 (ratV y):=⟨rx,ry⟩
    have pr4:isRk 4294967296 (ratV x)∧isRk 4294967296 (ratV (rdR (ratV x) - rdR (ratV y))):=⟨rx,by rw [rdR_ratV,rdR_ratV];exact(qx.sub qy).rk (by decide)⟩
    have h9':(!decide (cmpQ x 0 > 0)&&!decide (cmpQ y 0 > 0))=false:=by cases h:decide (cmpQ x 0 > 0)<;>cases h':decide (cmpQ y 0 > 0)<;>first|rfl|(rw [h,h'] at h9;cases h9)
    have I12a:decide (cmpQ y 0 > 0)=false→(decide (cmpQ x 0 > 0)&&decide (cmpQ y 0 > 0))=false:=fun h=>by rw [h,Bool.and_false]
    have I12b:decide (cmpQ x 0 > 0) = !true→(decide (cmpQ x 0 > 0)&&decide (cmpQ y 0 > 0))=false:=fun h=>by rw [h];rfl
    with_unfolding_all refine⟨fun h1=>⟨fun h2=>⟨s,[some 0,some 1,some 2,some 3,some 4,some 5,some 6],?_,Wo ⟨qZ ⟨rq,rq,rq,rq,rq,rq,rq,rq,rq,rq,rq,rq,qQ⟩,qX,qX,qY,qY,qX,qX,qQ⟩ ⟨pP,pP,pP,pP,pP,pP,pP,qQ⟩ trivial⟩,fun h2=>⟨Unit,fun _=>(decide (cmpQ x 0 > 0)&&decide (cmpQ y 0 > 0))=false,fun _=>stOf [(3,.ptr 0 0 0 0),(4,.ptr 1 1 0 0),(5,.ptr 2 2 0 0),(6,.ptr 3 3 0 0),(7,.ptr 4 4 0 0),(8,.ptr 5 5 0 0),(9,.ptr 6 6 0 0),(14,.val (.bool (decide (cmpQ x 0 > 0)))),(15,.val (.bool (decide (cmpQ y 0 > 0)))),(16,.ptr 7 7 0 0)] [⟨117,12,0,true,false,1,fun _=>[.val (.bool a.x.s),.val (.string a.x.b),.val (.string a.x.c),.val (.bool a.y.s),.val (.string a.y.b),.val (.string a.y.c),.val (.bool b.x.s),.val (.string b.x.b),.val (.string b.x.c),.val (.bool b.y.s),.val (.string b.y.b),.val (.string b.y.c)]⟩,boxR false ⟨#[]⟩ ⟨#[]⟩ 1,boxR false ⟨#[]⟩ ⟨#[]⟩ 2,⟨4,1,3,true,false,1,fun _=>[.val (.bool false)]⟩,⟨38,1,4,true,false,1,fun _=>[.val (.int .i64 0)]⟩,boxQ s.1 5,boxQ s.2 6,boxQ t 7] 8 [[(3,.ptr 0 0 0 0),(4,.ptr 1 1 0 0),(5,.ptr 2 2 0 0),(6,.ptr 3 3 0 0),(7,.ptr 4 4 0 0),(8,.ptr 5 5 0 0),(9,.ptr 6 6 0 0)]],(fun I12=>?_) (I12a h2),fun _ hn12=>?_⟩⟩,fun h1=>⟨fun h2=>(nomatch h2),fun h2=>⟨Unit,fun _=>(decide (cmpQ x 0 > 0)&&decide (cmpQ y 0 > 0))=false,fun _=>stOf [(3,.ptr 0 0 0 0),(4,.ptr 1 1 0 0),(5,.ptr 2 2 0 0),(6,.ptr 3 3 0 0),(7,.ptr 4 4 0 0),(8,.ptr 5 5 0 0),(9,.ptr 6 6 0 0),(14,.val (.bool (decide (cmpQ x 0 > 0)))),(15,.val (.bool (decide (cmpQ y 0 > 0)))),(16,.ptr 7 7 0 0)] [⟨117,12,0,true,false,1,fun _=>[.val (.bool a.x.s),.val (.string a.x.b),.val (.string a.x.c),.val (.bool a.y.s),.val (.string a.y.b),.val (.string a.y.c),.val (.bool b.x.s),.val (.string b.x.b),.val (.string b.x.c),.val (.bool b.y.s),.val (.string b.y.b),.val (.string b.y.c)]⟩,boxR false ⟨#[]⟩ ⟨#[]⟩ 1,boxR false ⟨#[]⟩ ⟨#[]⟩ 2,⟨4,1,3,true,false,1,fun _=>[.val (.bool false)]⟩,⟨38,1,4,true,false,1,fun _=>[.val (.int .i64 0)]⟩,boxQ s.1 5,boxQ s.2 6,boxQ t 7] 8 [[(3,.ptr 0 0 0 0),(4,.ptr 1 1 0 0),(5,.ptr 2 2 0 0),(6,.ptr 3 3 0 0),(7,.ptr 4 4 0 0),(8,.ptr 5 5 0 0),(9,.ptr 6 6 0 0)]],(fun I12=>?_) (I12b h1),fun _ hn12=>?_⟩⟩⟩
    ·have hpf2:partF n p a b (n - (k+1)) (k+1) s=partF n p a b n 0 (mkRat 0 1,mkRat 1 1):=by
      rw [←hpf,hstep]
      unfold stepQ
      rw [h9',show((decide (cmpQ x 0 > 0))&&(decide (cmpQ y 0 > 0)))=true by
       have h1:decide (cmpQ x 0 > 0)=true:=h1
       have h2:decide (cmpQ y 0 > 0)=true:=h2
       rw [h1,h2]
       rfl]
      rfl
     exact⟨⟨hq1,hq2⟩,hpf2⟩
    ·with_unfolding_all exact⟨⟨pr3,⟨⟨pr4,⟨(),[some 0,some 1,some 2,some 3,some 4,some 5,some 6,some 9],I12,Wo ⟨qZ ⟨rq,rq,rq,rq,rq,rq,rq,rq,rq,rq,rq,rq,qQ⟩,qX,qX,qY,qY,qX,qX,qZ ⟨⟨congrArg (fun q:Rat=>PV.val (.bool (decide (q.num < 0)))) ht1,rfl⟩,⟨congrArg (fun q:Rat=>PV.val (.string (numB q.num.natAbs))) ht1,rfl⟩,⟨congrArg (fun q:Rat=>PV.val (.string (denT q.den))) ht1,rfl⟩,qQ⟩,qQ⟩ ⟨pP,pP,pP,pP,pP,pP,pP,rfl,rfl,pP,qQ⟩ ⟨⟨pP,pP,pP,pP,pP,pP,pP,qQ⟩,qQ⟩⟩⟩,⟨pr4,⟨(),[some 0,some 1,some 2,some 3,some 4,some 5,some 6,some 9],I12,Wo ⟨qZ ⟨rq,rq,rq,rq,rq,rq,rq,rq,rq,rq,rq,rq,qQ⟩,qX,qX,qY,qY,qX,qX,qZ ⟨⟨congrArg (fun q:Rat=>PV.val (.bool (decide (q.num < 0)))) ht1,rfl⟩,⟨congrArg (fun q:Rat=>PV.val (.string (numB q.num.natAbs))) ht1,rfl⟩,⟨congrArg (fun q:Rat=>PV.val (.string (denT q.den))) ht1,rfl⟩,qQ⟩,qQ⟩ ⟨pP,pP,pP,pP,pP,pP,pP,rfl,rfl,pP,qQ⟩ ⟨⟨pP,pP,pP,pP,pP,pP,pP,qQ⟩,qQ⟩⟩⟩⟩⟩,⟨pr3,⟨pr4,⟨(),[some 0,some 1,some 2,some 3,some 4,some 5,some 6,some 9],I12,Wo ⟨qZ ⟨rq,rq,rq,rq,rq,rq,rq,rq,rq,rq,rq,rq,qQ⟩,qX,qX,qY,qY,qX,qX,qZ ⟨⟨congrArg (fun q:Rat=>PV.val (.bool (decide (q.num < 0)))) ht1,rfl⟩,⟨congrArg (fun q:Rat=>PV.val (.string (numB q.num.natAbs))) ht1,rfl⟩,⟨congrArg (fun q:Rat=>PV.val (.string (denT q.den))) ht1,rfl⟩,qQ⟩,qQ⟩ ⟨pP,pP,pP,pP,pP,pP,pP,rfl,rfl,pP,qQ⟩ ⟨⟨pP,pP,pP,pP,pP,pP,pP,qQ⟩,qQ⟩⟩⟩⟩⟩
    ·have hn12:(decide (cmpQ x 0 > 0)&&decide (cmpQ y 0 > 0))=false:=hn12
     have rt:isRk 4294967296 (ratV t):=qt.rk (by decide)
     have r1:isRk 4294967296 (ratV s.1):=hq1.rk (by decide)
     have r2:isRk 4294967296 (ratV s.2):=hq2.rk (by decide)
     obtain⟨lw,hlw⟩:∃z,z=(bif decide (cmpQ y 0 > 0)&&decide (cmpQ t s.1 > 0) then t else s.1):=⟨_,rfl⟩
     obtain⟨hgx,hhg⟩:∃z,z=(bif decide (cmpQ x 0 > 0)&&decide (cmpQ t s.2 < 0) then t else s.2):=⟨_,rfl⟩
     have el:decide (cmpQ (rdR (ratV t)) (rdR (ratV s.1)) > 0)=decide (cmpQ t s.1 > 0):=by rw [rdR_ratV,rdR_ratV]
     have eh:decide (cmpQ (rdR (ratV t)) (rdR (ratV s.2)) < 0)=decide (cmpQ t s.2 < 0):=by rw [rdR_ratV,rdR_ratV]
     have l1:decide (cmpQ y 0 > 0)=true→decide (cmpQ (rdR (ratV t)) (rdR (ratV s.1)) > 0)=true→t=lw:=fun h h'=>by rw [el] at h';rw [hlw,h,h'];rfl
     have l2:decide (cmpQ (rdR (ratV t)) (rdR (ratV s.1)) > 0)=false→s.1=lw:=fun h=>by rw [el] at h;rw [hlw,h,Bool.and_false];rfl
     have l3:decide (cmpQ y 0 > 0) = !true→s.1=lw:=fun h=>by rw [hlw,h];rfl
     have g1:decide (cmpQ x 0 > 0)=true→decide (cmpQ (rdR (ratV t)) (rdR (ratV s.2)) < 0)=true→t=hgx:=fun h h'=>by rw [eh] at h';rw [hhg,h,h'];rfl
     have g2:decide (cmpQ (rdR (ratV t)) (rdR (ratV s.2)) < 0)=false→s.2=hgx:=fun h=>by rw [eh] at h;rw [hhg,h,Bool.and_false];rfl
     have g3:decide (cmpQ x 0 > 0) = !true→s.2=hgx:=fun h=>by rw [hhg,h];rfl
     have qw:QB 300000 lw:=by
      rw [hlw]
      cases (decide (cmpQ y 0 > 0)&&decide (cmpQ t s.1 > 0))
      ·exact hq1
      ·exact qt
     have qg:QB 300000 hgx:=by
      rw [hhg]
      cases (decide (cmpQ x 0 > 0)&&decide (cmpQ t s.2 < 0))
      ·exact hq2
      ·exact qt
     have hpf2:partF n p a b (n - (k+1)) (k+1) (lw,hgx)=partF n p a b n 0 (mkRat 0 1,mkRat 1 1):=by
      rw [←hpf,hstep]
      unfold stepQ
      rw [h9',hn12,←ht,←hlw,←hhg]
      rfl
     with_unfolding_all refine⟨Unit,fun _=>True,fun _=>stOf [(3,.ptr 0 0 0 0),(4,.ptr 1 1 0 0),(5,.ptr 2 2 0 0),(6,.ptr 3 3 0 0),(7,.ptr 4 4 0 0),(8,.ptr 5 5 0 0),(9,.ptr 6 6 0 0),(14,.val (.bool (decide (cmpQ x 0 > 0)))),(15,.val (.bool (decide (cmpQ y 0 > 0)))),(16,.ptr 7 7 0 0)] [⟨117,12,0,true,false,1,fun _=>[.val (.bool a.x.s),.val (.string a.x.b),.val (.string a.x.c),.val (.bool a.y.s),.val (.string a.y.b),.val (.string a.y.c),.val (.bool b.x.s),.val (.string b.x.b),.val (.string b.x.c),.val (.bool b.y.s),.val (.string b.y.b),.val (.string b.y.c)]⟩,boxR false ⟨#[]⟩ ⟨#[]⟩ 1,boxR false ⟨#[]⟩ ⟨#[]⟩ 2,⟨4,1,3,true,false,1,fun _=>[.val (.bool false)]⟩,⟨38,1,4,true,false,1,fun _=>[.val (.int .i64 0)]⟩,boxQ lw 5,boxQ s.2 6,boxQ t 7] 8 [[(3,.ptr 0 0 0 0),(4,.ptr 1 1 0 0),(5,.ptr 2 2 0 0),(6,.ptr 3 3 0 0),(7,.ptr 4 4 0 0),(8,.ptr 5 5 0 0),(9,.ptr 6 6 0 0)]],?_,fun _ _=>?_⟩
     ·with_unfolding_all exact⟨fun h1=>⟨⟨rt,r1⟩,fun h2=>⟨(),[some 0,some 1,some 2,some 3,some 4,some 5,some 6,some 7],trivial,Wo ⟨qZ ⟨rq,rq,rq,rq,rq,rq,rq,rq,rq,rq,rq,rq,qQ⟩,qX,qX,qY,qY,qZ ⟨⟨congrArg (fun q:Rat=>PV.val (.bool (rsQ q).s)) (l1 h1 h2),rfl⟩,⟨congrArg (fun q:Rat=>PV.val (.string (rsQ q).b)) (l1 h1 h2),rfl⟩,⟨congrArg (fun q:Rat=>PV.val (.string (rsQ q).c)) (l1 h1 h2),rfl⟩,qQ⟩,qX,qX,qQ⟩ ⟨pP,pP,pP,pP,pP,pP,pP,rfl,rfl,pP,qQ⟩ ⟨⟨pP,pP,pP,pP,pP,pP,pP,qQ⟩,qQ⟩⟩,fun h2=>⟨(),[some 0,some 1,some 2,some 3,some 4,some 5,some 6,some 7],trivial,Wo ⟨qZ ⟨rq,rq,rq,rq,rq,rq,rq,rq,rq,rq,rq,rq,qQ⟩,qX,qX,qY,qY,qZ ⟨⟨congrArg (fun q:Rat=>PV.val (.bool (rsQ q).s)) (l2 h2),rfl⟩,⟨congrArg (fun q:Rat=>PV.val (.string (rsQ q).b)) (l2 h2),rfl⟩,⟨congrArg (fun q:Rat=>PV.val (.string (rsQ q).c)) (l2 h2),rfl⟩,qQ⟩,qX,qX,qQ⟩ ⟨pP,pP,pP,pP,pP,pP,pP,rfl,rfl,pP,qQ⟩ ⟨⟨pP,pP,pP,pP,pP,pP,pP,qQ⟩,qQ⟩⟩⟩,fun h1=>⟨fun h2=>(nomatch h2),fun h2=>⟨(),[some 0,some 1,some 2,some 3,some 4,some 5,some 6,some 7],trivial,Wo ⟨qZ ⟨rq,rq,rq,rq,rq,rq,rq,rq,rq,rq,rq,rq,qQ⟩,qX,qX,qY,qY,qZ ⟨⟨congrArg (fun q:Rat=>PV.val (.bool (rsQ q).s)) (l3 h1),rfl⟩,⟨congrArg (fun q:Rat=>PV.val (.string (rsQ q).b)) (l3 h1),rfl⟩,⟨congrArg (fun q:Rat=>PV.val (.string (rsQ q).c)) (l3 h1),rfl⟩,qQ⟩,qX,qX,qQ⟩ ⟨pP,pP,pP,pP,pP,pP,pP,rfl,rfl,pP,qQ⟩ ⟨⟨pP,pP,pP,pP,pP,pP,pP,qQ⟩,qQ⟩⟩⟩⟩
     ·with_unfolding_all exact⟨fun h1=>⟨⟨rt,r2⟩,fun h2=>⟨(lw,hgx),[some 0,some 1,some 2,some 3,some 4,some 5,some 6],⟨⟨qw,qg⟩,hpf2⟩,Wo ⟨qZ ⟨rq,rq,rq,rq,rq,rq,rq,rq,rq,rq,rq,rq,qQ⟩,qX,qX,qY,qY,qX,qZ ⟨⟨congrArg (fun q:Rat=>PV.val (.bool (rsQ q).s)) (g1 h1 h2),rfl⟩,⟨congrArg (fun q:Rat=>PV.val (.string (rsQ q).b)) (g1 h1 h2),rfl⟩,⟨congrArg (fun q:Rat=>PV.val (.string (rsQ q).c)) (g1 h1 h2),rfl⟩,qQ⟩,qQ⟩ ⟨pP,pP,pP,pP,pP,pP,pP,qQ⟩ trivial⟩,fun h2=>⟨(lw,hgx),[some 0,some 1,some 2,some 3,some 4,some 5,some 6],⟨⟨qw,qg⟩,hpf2⟩,Wo ⟨qZ ⟨rq,rq,rq,rq,rq,rq,rq,rq,rq,rq,rq,rq,qQ⟩,qX,qX,qY,qY,qX,qZ ⟨⟨congrArg (fun q:Rat=>PV.val (.bool (rsQ q).s)) (g2 h2),rfl⟩,⟨congrArg (fun q:Rat=>PV.val (.string (rsQ q).b)) (g2 h2),rfl⟩,⟨congrArg (fun q:Rat=>PV.val (.string (rsQ q).c)) (g2 h2),rfl⟩,qQ⟩,qQ⟩ ⟨pP,pP,pP,pP,pP,pP,pP,qQ⟩ trivial⟩⟩,fun h1=>⟨fun h2=>(nomatch h2),fun h2=>⟨(lw,hgx),[some 0,some 1,some 2,some 3,some 4,some 5,some 6],⟨⟨qw,qg⟩,hpf2⟩,Wo ⟨qZ ⟨rq,rq,rq,rq,rq,rq,rq,rq,rq,rq,rq,rq,qQ⟩,qX,qX,qY,qY,qX,qZ ⟨⟨congrArg (fun q:Rat=>PV.val (.bool (rsQ q).s)) (g3 h1),rfl⟩,⟨congrArg (fun q:Rat=>PV.val (.string (rsQ q).b)) (g3 h1),rfl⟩,⟨congrArg (fun q:Rat=>PV.val (.string (rsQ q).c)) (g3 h1),rfl⟩,qQ⟩,qQ⟩ ⟨pP,pP,pP,pP,pP,pP,pP,qQ⟩ trivial⟩⟩⟩
    ·with_unfolding_all exact⟨⟨pr3,⟨⟨pr4,⟨(),[some 0,some 1,some 2,some 3,some 4,some 5,some 6,some 9],I12,Wo ⟨qZ ⟨rq,rq,rq,rq,rq,rq,rq,rq,rq,rq,rq,rq,qQ⟩,qX,qX,qY,qY,qX,qX,qZ ⟨⟨congrArg (fun q:Rat=>PV.val (.bool (decide (q.num < 0)))) ht1,rfl⟩,⟨congrArg (fun q:Rat=>PV.val (.string (numB q.num.natAbs))) ht1,rfl⟩,⟨congrArg (fun q:Rat=>PV.val (.string (denT q.den))) ht1,rfl⟩,qQ⟩,qQ⟩ ⟨pP,pP,pP,pP,pP,pP,pP,rfl,rfl,pP,qQ⟩ ⟨⟨pP,pP,pP,pP,pP,pP,pP,qQ⟩,qQ⟩⟩⟩,⟨pr4,⟨(),[some 0,some 1,some 2,some 3,some 4,some 5,some 6,some 9],I12,Wo ⟨qZ ⟨rq,rq,rq,rq,rq,rq,rq,rq,rq,rq,rq,rq,qQ⟩,qX,qX,qY,qY,qX,qX,qZ ⟨⟨congrArg (fun q:Rat=>PV.val (.bool (decide (q.num < 0)))) ht1,rfl⟩,⟨congrArg (fun q:Rat=>PV.val (.string (numB q.num.natAbs))) ht1,rfl⟩,⟨congrArg (fun q:Rat=>PV.val (.string (denT q.den))) ht1,rfl⟩,qQ⟩,qQ⟩ ⟨pP,pP,pP,pP,pP,pP,pP,rfl,rfl,pP,qQ⟩ ⟨⟨pP,pP,pP,pP,pP,pP,pP,qQ⟩,qQ⟩⟩⟩⟩⟩,⟨pr3,⟨pr4,⟨(),[some 0,some 1,some 2,some 3,some 4,some 5,some 6,some 9],I12,Wo ⟨qZ ⟨rq,rq,rq,rq,rq,rq,rq,rq,rq,rq,rq,rq,qQ⟩,qX,qX,qY,qY,qX,qX,qZ ⟨⟨congrArg (fun q:Rat=>PV.val (.bool (decide (q.num < 0)))) ht1,rfl⟩,⟨congrArg (fun q:Rat=>PV.val (.string (numB q.num.natAbs))) ht1,rfl⟩,⟨congrArg (fun q:Rat=>PV.val (.string (denT q.den))) ht1,rfl⟩,qQ⟩,qQ⟩ ⟨pP,pP,pP,pP,pP,pP,pP,rfl,rfl,pP,qQ⟩ ⟨⟨pP,pP,pP,pP,pP,pP,pP,qQ⟩,qQ⟩⟩⟩⟩⟩
    ·have hn12:(decide (cmpQ x 0 > 0)&&decide (cmpQ y 0 > 0))=false:=hn12
     have rt:isRk 4294967296 (ratV t):=qt.rk (by decide)
     have r1:isRk 4294967296 (ratV s.1):=hq1.rk (by decide)
     have r2:isRk 4294967296 (ratV s.2):=hq2.rk (by decide)
     obtain⟨lw,hlw⟩:∃z,z=(bif decide (cmpQ y 0 > 0)&&decide (cmpQ t s.1 > 0) then t else s.1):=⟨_,rfl⟩
     obtain⟨hgx,hhg⟩:∃z,z=(bif decide (cmpQ x 0 > 0)&&decide (cmpQ t s.2 < 0) then t else s.2):=⟨_,rfl⟩
     have el:decide (cmpQ (rdR (ratV t)) (rdR (ratV s.1)) > 0)=decide (cmpQ t s.1 > 0):=by rw [rdR_ratV,rdR_ratV]
     have eh:decide (cmpQ (rdR (ratV t)) (rdR (ratV s.2)) < 0)=decide (cmpQ t s.2 < 0):=by rw [rdR_ratV,rdR_ratV]
     have l1:decide (cmpQ y 0 > 0)=true→decide (cmpQ (rdR (ratV t)) (rdR (ratV s.1)) > 0)=true→t=lw:=fun h h'=>by rw [el] at h';rw [hlw,h,h'];rfl
     have l2:decide (cmpQ (rdR (ratV t)) (rdR (ratV s.1)) > 0)=false→s.1=lw:=fun h=>by rw [el] at h;rw [hlw,h,Bool.and_false];rfl
     have l3:decide (cmpQ y 0 > 0) = !true→s.1=lw:=fun h=>by rw [hlw,h];rfl
     have g1:decide (cmpQ x 0 > 0)=true→decide (cmpQ (rdR (ratV t)) (rdR (ratV s.2)) < 0)=true→t=hgx:=fun h h'=>by rw [eh] at h';rw [hhg,h,h'];rfl
     have g2:decide (cmpQ (rdR (ratV t)) (rdR (ratV s.2)) < 0)=false→s.2=hgx:=fun h=>by rw [eh] at h;rw [hhg,h,Bool.and_false];rfl
     have g3:decide (cmpQ x 0 > 0) = !true→s.2=hgx:=fun h=>by rw [hhg,h];rfl
     have qw:QB 300000 lw:=by
      rw [hlw]
      cases (decide (cmpQ y 0 > 0)&&decide (cmpQ t s.1 > 0))
      ·exact hq1
      ·exact qt
     have qg:QB 300000 hgx:=by
      rw [hhg]
      cases (decide (cmpQ x 0 > 0)&&decide (cmpQ t s.2 < 0))
      ·exact hq2
      ·exact qt
     have hpf2:partF n p a b (n - (k+1)) (k+1) (lw,hgx)=partF n p a b n 0 (mkRat 0 1,mkRat 1 1):=by
      rw [←hpf,hstep]
      unfold stepQ
      rw [h9',hn12,←ht,←hlw,←hhg]
      rfl
     with_unfolding_all refine⟨Unit,fun _=>True,fun _=>stOf [(3,.ptr 0 0 0 0),(4,.ptr 1 1 0 0),(5,.ptr 2 2 0 0),(6,.ptr 3 3 0 0),(7,.ptr 4 4 0 0),(8,.ptr 5 5 0 0),(9,.ptr 6 6 0 0),(14,.val (.bool (decide (cmpQ x 0 > 0)))),(15,.val (.bool (decide (cmpQ y 0 > 0)))),(16,.ptr 7 7 0 0)] [⟨117,12,0,true,false,1,fun _=>[.val (.bool a.x.s),.val (.string a.x.b),.val (.string a.x.c),.val (.bool a.y.s),.val (.string a.y.b),.val (.string a.y.c),.val (.bool b.x.s),.val (.string b.x.b),.val (.string b.x.c),.val (.bool b.y.s),.val (.string b.y.b),.val (.string b.y.c)]⟩,boxR false ⟨#[]⟩ ⟨#[]⟩ 1,boxR false ⟨#[]⟩ ⟨#[]⟩ 2,⟨4,1,3,true,false,1,fun _=>[.val (.bool false)]⟩,⟨38,1,4,true,false,1,fun _=>[.val (.int .i64 0)]⟩,boxQ lw 5,boxQ s.2 6,boxQ t 7] 8 [[(3,.ptr 0 0 0 0),(4,.ptr 1 1 0 0),(5,.ptr 2 2 0 0),(6,.ptr 3 3 0 0),(7,.ptr 4 4 0 0),(8,.ptr 5 5 0 0),(9,.ptr 6 6 0 0)]],?_,fun _ _=>?_⟩
     ·with_unfolding_all exact⟨fun h1=>⟨⟨rt,r1⟩,fun h2=>⟨(),[some 0,some 1,some 2,some 3,some 4,some 5,some 6,some 7],trivial,Wo ⟨qZ ⟨rq,rq,rq,rq,rq,rq,rq,rq,rq,rq,rq,rq,qQ⟩,qX,qX,qY,qY,qZ ⟨⟨congrArg (fun q:Rat=>PV.val (.bool (rsQ q).s)) (l1 h1 h2),rfl⟩,⟨congrArg (fun q:Rat=>PV.val (.string (rsQ q).b)) (l1 h1 h2),rfl⟩,⟨congrArg (fun q:Rat=>PV.val (.string (rsQ q).c)) (l1 h1 h2),rfl⟩,qQ⟩,qX,qX,qQ⟩ ⟨pP,pP,pP,pP,pP,pP,pP,rfl,rfl,pP,qQ⟩ ⟨⟨pP,pP,pP,pP,pP,pP,pP,qQ⟩,qQ⟩⟩,fun h2=>⟨(),[some 0,some 1,some 2,some 3,some 4,some 5,some 6,some 7],trivial,Wo ⟨qZ ⟨rq,rq,rq,rq,rq,rq,rq,rq,rq,rq,rq,rq,qQ⟩,qX,qX,qY,qY,qZ ⟨⟨congrArg (fun q:Rat=>PV.val (.bool (rsQ q).s)) (l2 h2),rfl⟩,⟨congrArg (fun q:Rat=>PV.val (.string (rsQ q).b)) (l2 h2),rfl⟩,⟨congrArg (fun q:Rat=>PV.val (.string (rsQ q).c)) (l2 h2),rfl⟩,qQ⟩,qX,qX,qQ⟩ ⟨pP,pP,pP,pP,pP,pP,pP,rfl,rfl,pP,qQ⟩ ⟨⟨pP,pP,pP,pP,pP,pP,pP,qQ⟩,qQ⟩⟩⟩,fun h1=>⟨fun h2=>(nomatch h2),fun h2=>⟨(),[some 0,some 1,some 2,some 3,some 4,some 5,some 6,some 7],trivial,Wo ⟨qZ ⟨rq,rq,rq,rq,rq,rq,rq,rq,rq,rq,rq,rq,qQ⟩,qX,qX,qY,qY,qZ ⟨⟨congrArg (fun q:Rat=>PV.val (.bool (rsQ q).s)) (l3 h1),rfl⟩,⟨congrArg (fun q:Rat=>PV.val (.string (rsQ q).b)) (l3 h1),rfl⟩,⟨congrArg (fun q:Rat=>PV.val (.string (rsQ q).c)) (l3 h1),rfl⟩,qQ⟩,qX,qX,qQ⟩ ⟨pP,pP,pP,pP,pP,pP,pP,rfl,rfl,pP,qQ⟩ ⟨⟨pP,pP,pP,pP,pP,pP,pP,qQ⟩,qQ⟩⟩⟩⟩
     ·with_unfolding_all exact⟨fun h1=>⟨⟨rt,r2⟩,fun h2=>⟨(lw,hgx),[some 0,some 1,some 2,some 3,some 4,some 5,some 6],⟨⟨qw,qg⟩,hpf2⟩,Wo ⟨qZ ⟨rq,rq,rq,rq,rq,rq,rq,rq,rq,rq,rq,rq,qQ⟩,qX,qX,qY,qY,qX,qZ ⟨⟨congrArg (fun q:Rat=>PV.val (.bool (rsQ q).s)) (g1 h1 h2),rfl⟩,⟨congrArg (fun q:Rat=>PV.val (.string (rsQ q).b)) (g1 h1 h2),rfl⟩,⟨congrArg (fun q:Rat=>PV.val (.string (rsQ q).c)) (g1 h1 h2),rfl⟩,qQ⟩,qQ⟩ ⟨pP,pP,pP,pP,pP,pP,pP,qQ⟩ trivial⟩,fun h2=>⟨(lw,hgx),[some 0,some 1,some 2,some 3,some 4,some 5,some 6],⟨⟨qw,qg⟩,hpf2⟩,Wo ⟨qZ ⟨rq,rq,rq,rq,rq,rq,rq,rq,rq,rq,rq,rq,qQ⟩,qX,qX,qY,qY,qX,qZ ⟨⟨congrArg (fun q:Rat=>PV.val (.bool (rsQ q).s)) (g2 h2),rfl⟩,⟨congrArg (fun q:Rat=>PV.val (.string (rsQ q).b)) (g2 h2),rfl⟩,⟨congrArg (fun q:Rat=>PV.val (.string (rsQ q).c)) (g2 h2),rfl⟩,qQ⟩,qQ⟩ ⟨pP,pP,pP,pP,pP,pP,pP,qQ⟩ trivial⟩⟩,fun h1=>⟨fun h2=>(nomatch h2),fun h2=>⟨(lw,hgx),[some 0,some 1,some 2,some 3,some 4,some 5,some 6],⟨⟨qw,qg⟩,hpf2⟩,Wo ⟨qZ ⟨rq,rq,rq,rq,rq,rq,rq,rq,rq,rq,rq,rq,qQ⟩,qX,qX,qY,qY,qX,qZ ⟨⟨congrArg (fun q:Rat=>PV.val (.bool (rsQ q).s)) (g3 h1),rfl⟩,⟨congrArg (fun q:Rat=>PV.val (.string (rsQ q).b)) (g3 h1),rfl⟩,⟨congrArg (fun q:Rat=>PV.val (.string (rsQ q).c)) (g3 h1),rfl⟩,qQ⟩,qQ⟩ ⟨pP,pP,pP,pP,pP,pP,pP,qQ⟩ trivial⟩⟩⟩
   ·obtain⟨⟨hq1,hq2⟩,hpf⟩:(QB 300000 s.1∧QB 300000 s.2)∧partF n p a b (n - n) n s=partF n p a b n 0 (mkRat 0 1,mkRat 1 1):=hI
    have r1:isRk 4294967296 (ratV s.1):=hq1.rk (by decide)
    have r2:isRk 4294967296 (ratV s.2):=hq2.rk (by decide)
    rw [Nat.sub_self] at hpf
    have hXs:X=bif decide (cmpQ s.1 s.2≥0) then none else some s:=by
     rw [hX]
     unfold partO
     rw [←hB,hbd,←hpf]
     rfl
    have ec:decide (cmpQ (rdR (ratV s.1)) (rdR (ratV s.2))≥0)=decide (cmpQ s.1 s.2≥0):=by rw [rdR_ratV,rdR_ratV]
    have xn:decide (cmpQ (rdR (ratV s.1)) (rdR (ratV s.2))≥0)=true→X=none:=fun h=>by
     rw [ec] at h
     rw [hXs,h]
     rfl
    have xs:decide (cmpQ (rdR (ratV s.1)) (rdR (ratV s.2))≥0)=false→X=some s:=fun h=>by
     rw [ec] at h
     rw [hXs,h]
     rfl
    have sl:decide (cmpQ (rdR (ratV s.1)) (rdR (ratV s.2))≥0)=false→s.1=loO X:=fun h=>by rw [xs h];rfl
    have sh:decide (cmpQ (rdR (ratV s.1)) (rdR (ratV s.2))≥0)=false→s.2=hiO X:=fun h=>by rw [xs h];rfl
    have si:decide (cmpQ (rdR (ratV s.1)) (rdR (ratV s.2))≥0)=false→PV.val (.bool true)=PV.val (.bool X.isSome):=fun h=>by rw [xs h];rfl
    with_unfolding_all exact⟨⟨r1,r2⟩,fun h1=>⟨[some 1,some 2,some 3,some 4],stOf [(4,.ptr 0 0 0 0),(5,.ptr 1 1 0 0),(6,.ptr 2 2 0 0),(7,.ptr 3 3 0 0)] [boxQ (loO X) 0,boxQ (hiO X) 1,⟨4,1,2,true,false,1,fun _=>[.val (.bool X.isSome)]⟩,⟨38,1,3,true,false,1,fun _=>[.val (.int .i64 (bif Bd then 1 else 0))]⟩] 4 [],Wo ⟨qZ ⟨⟨(zb (xn h1)).1,rfl⟩,⟨(zb (xn h1)).2.1,rfl⟩,⟨(zb (xn h1)).2.2.1,rfl⟩,qQ⟩,qZ ⟨⟨(zc (xn h1)).1,rfl⟩,⟨(zc (xn h1)).2.1,rfl⟩,⟨(zc (xn h1)).2.2,rfl⟩,qQ⟩,qZ ⟨⟨(zb (xn h1)).2.2.2,rfl⟩,qQ⟩,qZ ⟨⟨e0 hbd,rfl⟩,qQ⟩,qQ⟩ ⟨pP,pP,pP,pP,qQ⟩ trivial,rfl,rfl⟩,fun h1=>⟨⟨⟨[some 1,some 2,some 3,some 4],stOf [(4,.ptr 0 0 0 0),(5,.ptr 1 1 0 0),(6,.ptr 2 2 0 0),(7,.ptr 3 3 0 0)] [boxQ (loO X) 0,boxQ (hiO X) 1,⟨4,1,2,true,false,1,fun _=>[.val (.bool X.isSome)]⟩,⟨38,1,3,true,false,1,fun _=>[.val (.int .i64 (bif Bd then 1 else 0))]⟩] 4 [],Wo ⟨qZ ⟨⟨congrArg (fun q:Rat=>PV.val (.bool (rsQ q).s)) (sl h1),rfl⟩,⟨congrArg (fun q:Rat=>PV.val (.string (rsQ q).b)) (sl h1),rfl⟩,⟨congrArg (fun q:Rat=>PV.val (.string (rsQ q).c)) (sl h1),rfl⟩,qQ⟩,qZ ⟨⟨congrArg (fun q:Rat=>PV.val (.bool (rsQ q).s)) (sh h1),rfl⟩,⟨congrArg (fun q:Rat=>PV.val (.string (rsQ q).b)) (sh h1),rfl⟩,⟨congrArg (fun q:Rat=>PV.val (.string (rsQ q).c)) (sh h1),rfl⟩,qQ⟩,qZ ⟨⟨si h1,rfl⟩,qQ⟩,qZ ⟨⟨e0 hbd,rfl⟩,qQ⟩,qQ⟩ ⟨pP,pP,pP,pP,qQ⟩ trivial,rfl,rfl⟩,⟨[some 1,some 2,some 3,some 4],stOf [(4,.ptr 0 0 0 0),(5,.ptr 1 1 0 0),(6,.ptr 2 2 0 0),(7,.ptr 3 3 0 0)] [boxQ (loO X) 0,boxQ (hiO X) 1,⟨4,1,2,true,false,1,fun _=>[.val (.bool X.isSome)]⟩,⟨38,1,3,true,false,1,fun _=>[.val (.int .i64 (bif Bd then 1 else 0))]⟩] 4 [],Wo ⟨qZ ⟨⟨congrArg (fun q:Rat=>PV.val (.bool (rsQ q).s)) (sl h1),rfl⟩,⟨congrArg (fun q:Rat=>PV.val (.string (rsQ q).b)) (sl h1),rfl⟩,⟨congrArg (fun q:Rat=>PV.val (.string (rsQ q).c)) (sl h1),rfl⟩,qQ⟩,qZ ⟨⟨congrArg (fun q:Rat=>PV.val (.bool (rsQ q).s)) (sh h1),rfl⟩,⟨congrArg (fun q:Rat=>PV.val (.string (rsQ q).b)) (sh h1),rfl⟩,⟨congrArg (fun q:Rat=>PV.val (.string (rsQ q).c)) (sh h1),rfl⟩,qQ⟩,qZ ⟨⟨si h1,rfl⟩,qQ⟩,qZ ⟨⟨e0 hbd,rfl⟩,qQ⟩,qQ⟩ ⟨pP,pP,pP,pP,qQ⟩ trivial,rfl,rfl⟩⟩,⟨[some 1,some 2,some 3,some 4],stOf [(4,.ptr 0 0 0 0),(5,.ptr 1 1 0 0),(6,.ptr 2 2 0 0),(7,.ptr 3 3 0 0)] [boxQ (loO X) 0,boxQ (hiO X) 1,⟨4,1,2,true,false,1,fun _=>[.val (.bool X.isSome)]⟩,⟨38,1,3,true,false,1,fun _=>[.val (.int .i64 (bif Bd then 1 else 0))]⟩] 4 [],Wo ⟨qZ ⟨⟨congrArg (fun q:Rat=>PV.val (.bool (rsQ q).s)) (sl h1),rfl⟩,⟨congrArg (fun q:Rat=>PV.val (.string (rsQ q).b)) (sl h1),rfl⟩,⟨congrArg (fun q:Rat=>PV.val (.string (rsQ q).c)) (sl h1),rfl⟩,qQ⟩,qZ ⟨⟨congrArg (fun q:Rat=>PV.val (.bool (rsQ q).s)) (sh h1),rfl⟩,⟨congrArg (fun q:Rat=>PV.val (.string (rsQ q).b)) (sh h1),rfl⟩,⟨congrArg (fun q:Rat=>PV.val (.string (rsQ q).c)) (sh h1),rfl⟩,qQ⟩,qZ ⟨⟨si h1,rfl⟩,qQ⟩,qZ ⟨⟨e0 hbd,rfl⟩,qQ⟩,qQ⟩ ⟨pP,pP,pP,pP,qQ⟩ trivial,rfl,rfl⟩⟩⟩
 ·cases e
end Go.Proofs
