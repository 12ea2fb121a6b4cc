import Derived.Test.YtpfdckeipckldaaGreatD
set_option maxHeartbeats 8000000
set_option linter.all false
set_option linter.unusedVariables false
set_option linter.unusedSimpArgs false
set_option linter.unnecessarySimpa false
namespace Go.Num
open Go Go.Ex Go.Proofs
def hgt (a b p:PtS):Rat:=crossP (subP b a) (subP p a)
theorem hgt_le {a b p:PtS} (ha:PtS.le 10000 a) (hb:PtS.le 10000 b) (hp:PtS.le 10000 p):QB 80017 (hgt a b p):=(crossP_le (subP_le hb ha) (subP_le hp ha)).le (by decide)
theorem QB_k01 {k:Nat} (hk:0 < k):QB k (mkRat 0 1)∧QB k (mkRat 1 1):=by
 have h2:1 < 256^k:=Nat.one_lt_pow (by omega) (by decide)
 have e:=mk_small 1 (d:=1) (by decide)
 refine⟨?_,Nat.lt_of_le_of_lt e.1 h2,Nat.lt_of_le_of_lt e.2 h2⟩
 rw [Rat.zero_mkRat]
 exact⟨Nat.pow_pos (by decide),h2⟩
theorem QB_01:QB 300000 (mkRat 0 1)∧QB 300000 (mkRat 1 1):=QB_k01 (by decide)
def stepQ (x y:Rat) (s:Rat×Rat):Option (Rat×Rat) :=
 bif !decide (cmpQ x 0 > 0)&&!decide (cmpQ y 0 > 0) then none else bif decide (cmpQ x 0 > 0)&&decide (cmpQ y 0 > 0) then some s
 else some (bif decide (cmpQ y 0 > 0)&&decide (cmpQ (x / (x - y)) s.1 > 0) then x / (x - y) else s.1,bif decide (cmpQ x 0 > 0)&&decide (cmpQ (x / (x - y)) s.2 < 0) then x / (x - y) else s.2)
def partF (n:Nat) (p:Nat→PtS) (a b:PtS):Nat→Nat→Rat×Rat→Option (Rat×Rat)
 |0,_,s=>some s
 |k+1,e,s=>(stepQ (hgt (p e) (p ((e+1)%n)) a) (hgt (p e) (p ((e+1)%n)) b) s).bind fun s=>partF n p a b k (e+1) s
def partB (n:Nat) (p:Nat→PtS) (a b:PtS):Bool:=!(ringE n p==0)||(!canonP a||!canonP b)
def partO (n:Nat) (p:Nat→PtS) (a b:PtS):Option (Rat×Rat) :=
 bif partB n p a b then none else(partF n p a b n 0 (mkRat 0 1,mkRat 1 1)).bind fun s=>bif decide (cmpQ s.1 s.2≥0) then none else some s
def loO (r:Option (Rat×Rat)):Rat:=match r with|some s=>s.1|none=>0
def hiO (r:Option (Rat×Rat)):Rat:=match r with|some s=>s.2|none=>0
end Go.Num
namespace Go.Proofs
open Go Go.Ex Go.Num
set_option maxRecDepth 100000
def c212:List PV→Option Ans
 |[.val v,.val u,.val w]=>some ⟨some (isPk 10000 v∧isPk 10000 u∧isPk 10000 w),.val (ratV (hgt (rdV v) (rdV u) (rdV w))),[]⟩
 |_=>none
def D212:Opt:={ perm:=atR 1 [(0,true),(1,true),(3,true),(4,true),(2,false),(5,false)] }
theorem ok212:funcOk D212.toOrd Tryz.f212 3=true:=by kernel_rfl
theorem f212:FnOk Tryz.prog 212 c212:=by
 refine FnOk.ofW orders (mkE_ok (l:=[(76,c76),(140,c140)]) (own:=[]) (inl:=[]) (by simp [f76,f140]) (by simp)) Tryz.func212 D212 3 ok212 fun args r e=>?_
 unfold c212 at e
 split at e
 ·rename_i v u w
  cases e
  refine⟨by simp,fun hm=>?_⟩
  obtain⟨⟨a,rfl,ha⟩,⟨b,rfl,hb⟩,c,rfl,hc⟩:=hm _ rfl
  refine⟨[],stOf [(0,.val a.v),(1,.val b.v),(2,.val c.v)] [] 0 [],Weak.of (by simp) trivial ⟨rfl,rfl,rfl,trivial⟩ trivial,?_⟩
  have ha':=ha.mono (show 10000≤4294967296 by decide)
  have hb':=hb.mono (show 10000≤4294967296 by decide)
  have hc':=hc.mono (show 10000≤4294967296 by decide)
  have s1:=(subP_le hb ha).mono (show 10000+10000+3≤1000000 by decide)
  have s2:=(subP_le hc ha).mono (show 10000+10000+3≤1000000 by decide)
  obtain⟨F,hF⟩:∃F,F=hgt a b c:=⟨_,rfl⟩
  have hv:PV.val (ratV (hgt (rdV a.v) (rdV b.v) (rdV c.v)))=PV.val (ratV F):=by rw [hF];rfl
  rw [hv]
  with_unfolding_all refine⟨⟨⟨b,rfl,hb'⟩,a,rfl,ha'⟩,⟨⟨c,rfl,hc'⟩,a,rfl,ha'⟩,⟨⟨subP b a,rfl,s1⟩,subP c a,rfl,s2⟩,[some 3],stOf [(6,.ptr 0 0 0 0)] [boxQ F 0] 1 [],Weak.of (by simp) ⟨⟨lt_ok rfl,rfl,rfl,rfl,rfl,rfl,⟨?_,rfl⟩,⟨?_,rfl⟩,⟨?_,rfl⟩,trivial⟩,trivial⟩ ⟨⟨rfl,rfl,rfl,lt_ok rfl,_,rfl⟩,trivial⟩ trivial,rfl,rfl⟩
  ·rw [hF];rfl
  ·rw [hF];rfl
  ·rw [hF];rfl
 ·cases e
def c174:List PV→Option Ans
 |[.rs 6 n g,.val v]=>some ⟨some (isPL 10000 n g∧isSeg 10000 v),.val (.tuple ⟨[ratV (loO (partO n (pts g) (rdS v).1 (rdS v).2)),ratV (hiO (partO n (pts g) (rdS v).1 (rdS v).2)),.bool (partO n (pts g) (rdS v).1 (rdS v).2).isSome,.int .i64 (bif partB n (pts g) (rdS v).1 (rdS v).2 then 1 else 0)]⟩),[]⟩
 |_=>none
def D174:Opt:={ join:=fun c=>match c with | .region 7 _ _=>true | .region 12 _ _=>true|c=>joinAt [1,9,13] c,perm:=atTs [(7,.rds [0,1,2,3,5,6,7,8] (.alt 4 (.alt 9 (.alt 10 (.mk 11 .nil) (.mk 11 (.mk 10 .nil))) (.alt 10 (.alt 9 (.mk 11 .nil) (.mk 11 (.mk 9 .nil))) (.mk 11 (.alt 9 (.mk 10 .nil) (.mk 10 (.mk 9 .nil)))))) (.alt 10 (.alt 4 (.alt 9 (.mk 11 .nil) (.mk 11 (.mk 9 .nil))) (.mk 11 (.mk 4 (.mk 9 .nil)))) (.mk 11 (.alt 4 (.alt 9 (.mk 10 .nil) (.mk 10 (.mk 9 .nil))) (.mk 10 (.mk 4 (.mk 9 .nil)))))))),(8,(.rd 0 (.rd 3 (.mk 1 (.rd 2 (.mk 4 (.rd 5 (.rd 6 .nil)))))))),(12,(.rd 0 (.rd 1 (.rd 2 (.alt 3 (.alt 4 (.rd 5 (.rd 6 (.rd 7 (.mk 8 .nil)))) (.mk 8 (.mk 4 (.rd 5 (.rd 6 (.rd 7 .nil)))))) (.mk 8 (.mk 3 (.mk 4 (.rd 5 (.rd 6 (.rd 7 .nil)))))))))))],all:=atTs [(19,.alt 0 (.alt 1 (OT.seq [2,3,4,5] .nil) (OT.seq [2,1,3,4,5] .nil)) (OT.seq [1,0,2,3,4,5] .nil))] }
theorem ok174:funcOk D174.toOrd Tryz.f174 2=true:=by kernel_rfl
theorem f174:FnOk Tryz.prog 174 c174:=by
 refine FnOk.ofW orders (mkS_ok (l:=[(124,c124),(167,c167),(88,c88),(169,c169),(212,c212),(139,c139),(115,c115),(173,c173),(80,c80)]) (own:=[]) (inl:=[]) (sq:=[(207,c207)]) (by simp [f124,f167,f88,f169,f212,f139,f115,f173,f80]) (by simp) (by simp [f207])) Tryz.func174 D174 2 ok174 fun args r e=>?_
 unfold c174 at e
 split at e
 ·rename_i n g v
  cases e
  refine⟨by simp,fun hm=>?_⟩
  obtain⟨⟨hg,hn⟩,a,b,rfl,ha,hb⟩:=hm _ rfl
  clear hm
  refine⟨[],stOf [(0,.rs 6 n (fun i=>(pts g i).cells)),(1,.val (segV a b))] [] 0 [],Weak.of (by simp) trivial ⟨⟨rfl,rfl,fun i hi=>(hg i hi).1.symm⟩,rfl,trivial⟩ trivial,?_⟩
  have pl:isPL 10000 n (fun i=>(pts g i).cells):=⟨fun i hi=>⟨rfl,(hg i hi).2⟩,hn⟩
  generalize hp:pts g=p at *
  obtain⟨X,hX⟩:∃X,X=partO n p a b:=⟨_,rfl⟩
  obtain⟨Bd,hB⟩:∃B,B=partB n p a b:=⟨_,rfl⟩
  have hv:PV.val (.tuple ⟨[ratV (loO (partO n p (rdS (segV a b)).1 (rdS (segV a b)).2)),ratV (hiO (partO n p (rdS (segV a b)).1 (rdS (segV a b)).2)),.bool (partO n p (rdS (segV a b)).1 (rdS (segV a b)).2).isSome,.int .i64 (bif partB n p (rdS (segV a b)).1 (rdS (segV a b)).2 then 1 else 0)]⟩)=PV.val (.tuple ⟨[ratV (loO X),ratV (hiO X),.bool X.isSome,.int .i64 (bif Bd then 1 else 0)]⟩):=by rw [hX,hB];rfl
  rw [hv]
  clear hv
  have zb:X=none→PV.val (.bool false)=PV.val (.bool (decide ((loO X).num < 0)))∧PV.val (.string ⟨#[]⟩)=PV.val (.string (numB (loO X).num.natAbs))∧PV.val (.string ⟨#[]⟩)=PV.val (.string (denT (loO X).den))∧PV.val (.bool false)=PV.val (.bool X.isSome):=fun h=>by
   rw [h]
   refine⟨rfl,?_,rfl,rfl⟩
   show PV.val (.string ⟨#[]⟩)=PV.val (.string (numB 0))
   rw [numB_zero]
  have zc:X=none→PV.val (.bool false)=PV.val (.bool (decide ((hiO X).num < 0)))∧PV.val (.string ⟨#[]⟩)=PV.val (.string (numB (hiO X).num.natAbs))∧PV.val (.string ⟨#[]⟩)=PV.val (.string (denT (hiO X).den)):=fun h=>by
   rw [h]
   refine⟨rfl,?_,rfl⟩
   show PV.val (.string ⟨#[]⟩)=PV.val (.string (numB 0))
   rw [numB_zero]
  have xB:Bd=true→X=none:=fun h=>by
   rw [hX]
   unfold partO
   rw [←hB,h]
   rfl
  have e1:Bd=true→PV.val (.int .i64 1)=PV.val (.int .i64 (bif Bd then 1 else 0)):=fun h=>by rw [h];rfl
  have e0:Bd=false→PV.val (.int .i64 0)=PV.val (.int .i64 (bif Bd then 1 else 0)):=fun h=>by rw [h];rfl
  have hBd:Bd=(!(ringE n p==0)||(!canonP a||!canonP b)):=hB
  with_unfolding_all refine⟨Unit,fun _=>Bd=false,fun _=>stOf [(0,.rs 6 n (fun i=>(p i).cells)),(3,.ptr 0 0 0 0),(4,.ptr 1 1 0 0),(5,.ptr 2 2 0 0),(6,.ptr 3 3 0 0),(7,.ptr 4 4 0 0)] [⟨117,12,0,true,false,1,fun _=>[.val (.bool a.x.s),.val (.string a.x.b),.val (.string a.x.c),.val (.bool a.y.s),.val (.string a.y.b),.val (.string a.y.c),.val (.bool b.x.s),.val (.string b.x.b),.val (.string b.x.c),.val (.bool b.y.s),.val (.string b.y.b),.val (.string b.y.c)]⟩,boxR false ⟨#[]⟩ ⟨#[]⟩ 1,boxR false ⟨#[]⟩ ⟨#[]⟩ 2,⟨4,1,3,true,false,1,fun _=>[.val (.bool false)]⟩,⟨38,1,4,true,false,1,fun _=>[.val (.int .i64 0)]⟩] 5 [],?_,fun _ hbd=>?_⟩
  ·have cn:∀r:Nat→List PV,pts r 0=a→pts r 1=b→anyP (fun i=>!canonP (pts r i)) 2=(!canonP a||!canonP b):=fun r h h'=>by
    have e:List.range 2=[0,1]:=rfl
    simp only [anyP,e,List.any_cons,List.any_nil,Bool.or_false,h,h']
   have q1:(ringE n p != 0) = !false→Bd=true:=fun h=>by
    have h:(ringE n p==0)=false:=by simpa using h
    rw [hBd,h]
    rfl
   have q2:∀r:Nat→List PV,pts r 0=a→pts r 1=b→(!!anyP (fun i=>!canonP (pts r i)) 2)=true→Bd=true:=fun r h h' h2=>by
    rw [cn r h h',Bool.not_not] at h2
    rw [hBd,h2,Bool.or_true]
   have q3:∀r:Nat→List PV,pts r 0=a→pts r 1=b→(ringE n p != 0)=false→(!!anyP (fun i=>!canonP (pts r i)) 2)=false→Bd=false:=fun r h h' h1 h2=>by
    rw [cn r h h',Bool.not_not] at h2
    have h1:(ringE n p==0)=true:=by simpa using h1
    rw [hBd,h1,h2]
    rfl
   have ha':=ha.mono (show 10000≤4294967296 by decide)
   have hb':=hb.mono (show 10000≤4294967296 by decide)
   have p2:∀r:Nat→List PV,r 0=a.cells→r 1=b.cells→isPL 4294967296 2 r:=fun r h h'=>⟨fun i hi=>by
    match i,hi with
    |0,_=>exact⟨by rw [pts,h];rfl,by rw [pts,h];exact ha'⟩
    |1,_=>exact⟨by rw [pts,h'];rfl,by rw [pts,h'];exact hb'⟩
    |i+2,h=>omega,by decide⟩
   with_unfolding_all refine⟨pl,fun h1=>⟨p2 _ rfl rfl,fun h2=>⟨[some 1,some 2,some 3,some 4],stOf [(4,.ptr 0 0 0 0),(5,.ptr 1 1 0 0),(6,.ptr 2 2 0 0),(7,.ptr 3 3 0 0)] [boxQ (loO X) 0,boxQ (hiO X) 1,⟨4,1,2,true,false,1,fun _=>[.val (.bool X.isSome)]⟩,⟨38,1,3,true,false,1,fun _=>[.val (.int .i64 (bif Bd then 1 else 0))]⟩] 4 [],Weak.of (by simp) ⟨⟨lt_ok rfl,rfl,rfl,rfl,rfl,rfl,⟨(zb (xB (q2 _ rfl rfl h2))).1,rfl⟩,⟨(zb (xB (q2 _ rfl rfl h2))).2.1,rfl⟩,⟨(zb (xB (q2 _ rfl rfl h2))).2.2.1,rfl⟩,trivial⟩,⟨lt_ok rfl,rfl,rfl,rfl,rfl,rfl,⟨(zc (xB (q2 _ rfl rfl h2))).1,rfl⟩,⟨(zc (xB (q2 _ rfl rfl h2))).2.1,rfl⟩,⟨(zc (xB (q2 _ rfl rfl h2))).2.2,rfl⟩,trivial⟩,⟨lt_ok rfl,rfl,rfl,rfl,rfl,rfl,⟨(zb (xB (q2 _ rfl rfl h2))).2.2.2,rfl⟩,trivial⟩,⟨lt_ok rfl,rfl,rfl,rfl,rfl,rfl,⟨e1 (q2 _ rfl rfl h2),rfl⟩,trivial⟩,trivial⟩ ⟨⟨rfl,rfl,rfl,lt_ok rfl,_,rfl⟩,⟨rfl,rfl,rfl,lt_ok rfl,_,rfl⟩,⟨rfl,rfl,rfl,lt_ok rfl,_,rfl⟩,⟨rfl,rfl,rfl,lt_ok rfl,_,rfl⟩,trivial⟩ trivial,rfl,rfl⟩,fun h2=>⟨(),[some 0,some 1,some 2,some 3,some 4],q3 _ rfl rfl h1 h2,Weak.of (by simp) ⟨⟨lt_ok rfl,rfl,rfl,rfl,rfl,rfl,⟨rfl,rfl⟩,⟨rfl,rfl⟩,⟨rfl,rfl⟩,⟨rfl,rfl⟩,⟨rfl,rfl⟩,⟨rfl,rfl⟩,⟨rfl,rfl⟩,⟨rfl,rfl⟩,⟨rfl,rfl⟩,⟨rfl,rfl⟩,⟨rfl,rfl⟩,⟨rfl,rfl⟩,trivial⟩,⟨lt_ok rfl,rfl,rfl,rfl,rfl,rfl,⟨rfl,rfl⟩,⟨rfl,rfl⟩,⟨rfl,rfl⟩,trivial⟩,⟨lt_ok rfl,rfl,rfl,rfl,rfl,rfl,⟨rfl,rfl⟩,⟨rfl,rfl⟩,⟨rfl,rfl⟩,trivial⟩,⟨lt_ok rfl,rfl,rfl,rfl,rfl,rfl,⟨rfl,rfl⟩,trivial⟩,⟨lt_ok rfl,rfl,rfl,rfl,rfl,rfl,⟨rfl,rfl⟩,trivial⟩,trivial⟩ ⟨⟨rfl,rfl,fun _ _=>rfl⟩,⟨rfl,rfl,rfl,lt_ok rfl,_,rfl⟩,⟨rfl,rfl,rfl,lt_ok rfl,_,rfl⟩,⟨rfl,rfl,rfl,lt_ok rfl,_,rfl⟩,⟨rfl,rfl,rfl,lt_ok rfl,_,rfl⟩,⟨rfl,rfl,rfl,lt_ok rfl,_,rfl⟩,trivial⟩ trivial⟩⟩,fun h1=>⟨fun h2=>⟨[some 1,some 2,some 3,some 4],stOf [(4,.ptr 0 0 0 0),(5,.ptr 1 1 0 0),(6,.ptr 2 2 0 0),(7,.ptr 3 3 0 0)] [boxQ (loO X) 0,boxQ (hiO X) 1,⟨4,1,2,true,false,1,fun _=>[.val (.bool X.isSome)]⟩,⟨38,1,3,true,false,1,fun _=>[.val (.int .i64 (bif Bd then 1 else 0))]⟩] 4 [],Weak.of (by simp) ⟨⟨lt_ok rfl,rfl,rfl,rfl,rfl,rfl,⟨(zb (xB (q1 h1))).1,rfl⟩,⟨(zb (xB (q1 h1))).2.1,rfl⟩,⟨(zb (xB (q1 h1))).2.2.1,rfl⟩,trivial⟩,⟨lt_ok rfl,rfl,rfl,rfl,rfl,rfl,⟨(zc (xB (q1 h1))).1,rfl⟩,⟨(zc (xB (q1 h1))).2.1,rfl⟩,⟨(zc (xB (q1 h1))).2.2,rfl⟩,trivial⟩,⟨lt_ok rfl,rfl,rfl,rfl,rfl,rfl,⟨(zb (xB (q1 h1))).2.2.2,rfl⟩,trivial⟩,⟨lt_ok rfl,rfl,rfl,rfl,rfl,rfl,⟨e1 (q1 h1),rfl⟩,trivial⟩,trivial⟩ ⟨⟨rfl,rfl,rfl,lt_ok rfl,_,rfl⟩,⟨rfl,rfl,rfl,lt_ok rfl,_,rfl⟩,⟨rfl,rfl,rfl,lt_ok rfl,_,rfl⟩,⟨rfl,rfl,rfl,lt_ok rfl,_,rfl⟩,trivial⟩ trivial,rfl,rfl⟩,fun h2=>(nomatch h2)⟩⟩
  ·have hbd:Bd=false:=hbd
   with_unfolding_all refine⟨by decide,by decide,fun _ _=>rfl,⟨rfl,hn⟩,Rat×Rat,fun k s=>(QB 300000 s.1∧QB 300000 s.2)∧partF n p a b (n - k) k s=partF n p a b n 0 (mkRat 0 1,mkRat 1 1),fun s=>stOf [(3,.ptr 0 0 0 0),(4,.ptr 1 1 0 0),(5,.ptr 2 2 0 0),(6,.ptr 3 3 0 0),(7,.ptr 4 4 0 0),(8,.ptr 5 5 0 0),(9,.ptr 6 6 0 0)] [⟨117,12,0,true,false,1,fun _=>[.val (.bool a.x.s),.val (.string a.x.b),.val (.string a.x.c),.val (.bool a.y.s),.val (.string a.y.b),.val (.string a.y.c),.val (.bool b.x.s),.val (.string b.x.b),.val (.string b.x.c),.val (.bool b.y.s),.val (.string b.y.b),.val (.string b.y.c)]⟩,boxR false ⟨#[]⟩ ⟨#[]⟩ 1,boxR false ⟨#[]⟩ ⟨#[]⟩ 2,⟨4,1,3,true,false,1,fun _=>[.val (.bool false)]⟩,⟨38,1,4,true,false,1,fun _=>[.val (.int .i64 0)]⟩,boxQ s.1 5,boxQ s.2 6] 7 [],⟨(mkRat 0 1,mkRat 1 1),[some 0,some 1,some 2,some 3,some 4,some 5,some 6],?_,Weak.of (by simp) ⟨⟨lt_ok rfl,rfl,rfl,rfl,rfl,rfl,⟨rfl,rfl⟩,⟨rfl,rfl⟩,⟨rfl,rfl⟩,⟨rfl,rfl⟩,⟨rfl,rfl⟩,⟨rfl,rfl⟩,⟨rfl,rfl⟩,⟨rfl,rfl⟩,⟨rfl,rfl⟩,⟨rfl,rfl⟩,⟨rfl,rfl⟩,⟨rfl,rfl⟩,trivial⟩,⟨lt_ok rfl,rfl,rfl,rfl,rfl,rfl,⟨rfl,rfl⟩,⟨rfl,rfl⟩,⟨rfl,rfl⟩,trivial⟩,⟨lt_ok rfl,rfl,rfl,rfl,rfl,rfl,⟨rfl,rfl⟩,⟨rfl,rfl⟩,⟨rfl,rfl⟩,trivial⟩,⟨lt_ok rfl,rfl,rfl,rfl,rfl,rfl,⟨rfl,rfl⟩,trivial⟩,⟨lt_ok rfl,rfl,rfl,rfl,rfl,rfl,⟨rfl,rfl⟩,trivial⟩,⟨lt_ok rfl,rfl,rfl,rfl,rfl,rfl,⟨rfl,rfl⟩,⟨rfl,rfl⟩,⟨rfl,rfl⟩,trivial⟩,⟨lt_ok rfl,rfl,rfl,rfl,rfl,rfl,⟨rfl,rfl⟩,⟨rfl,rfl⟩,⟨rfl,rfl⟩,trivial⟩,trivial⟩ ⟨⟨rfl,rfl,rfl,lt_ok rfl,_,rfl⟩,⟨rfl,rfl,rfl,lt_ok rfl,_,rfl⟩,⟨rfl,rfl,rfl,lt_ok rfl,_,rfl⟩,⟨rfl,rfl,rfl,lt_ok rfl,_,rfl⟩,⟨rfl,rfl,rfl,lt_ok rfl,_,rfl⟩,⟨rfl,rfl,rfl,lt_ok rfl,_,rfl⟩,⟨rfl,rfl,rfl,lt_ok rfl,_,rfl⟩,trivial⟩ trivial⟩,fun k s hk hI=>?_,fun s hI=>?_⟩
   ·exact⟨⟨QB_01.1,QB_01.2⟩,rfl⟩
   ·obtain⟨⟨hq1,hq2⟩,hpf⟩:(QB 300000 s.1∧QB 300000 s.2)∧partF n p a b (n - k) k s=partF n p a b n 0 (mkRat 0 1,mkRat 1 1):=hI
    have hkn:k < n:=hk
    have hml:=Nat.mod_lt (k+1) (show 0 < n by omega)
    have hpk:=(hg k hkn).2
    have hpm:=(hg _ hml).2
    obtain⟨x,hx⟩:∃x,x=hgt (p k) (p ((k+1)%n)) a:=⟨_,rfl⟩
    obtain⟨y,hy⟩:∃y,y=hgt (p k) (p ((k+1)%n)) b:=⟨_,rfl⟩
    have hx1:hgt (rdV (p k).v) (rdV (p ((k+1)%n)).v) (rdV a.v)=x:=by rw [hx];rfl
    have hy1:hgt (rdV (p k).v) (rdV (p ((k+1)%n)).v) (rdV b.v)=y:=by rw [hy];rfl
    have qx:QB 80017 x:=by rw [hx];exact hgt_le hpk hpm ha
    have qy:QB 80017 y:=by rw [hy];exact hgt_le hpk hpm hb
    have pr1:isPk 10000 (p k).v∧isPk 10000 (p ((k+1)%n)).v∧isPk 10000 a.v:=⟨⟨_,rfl,hpk⟩,⟨_,rfl,hpm⟩,_,rfl,ha⟩
    have pr2:isPk 10000 (p k).v∧isPk 10000 (p ((k+1)%n)).v∧isPk 10000 b.v:=⟨⟨_,rfl,hpk⟩,⟨_,rfl,hpm⟩,_,rfl,hb⟩
    have hstep:partF n p a b (n - k) k s=(stepQ x y s).bind fun s=>partF n p a b (n - (k+1)) (k+1) s:=by
     rw [hx,hy,show n - k=(n - (k+1))+1 by omega]
     rfl
    clear hx hy
    with_unfolding_all refine⟨rfl,Unit,fun _=>True,fun _=>stOf [(3,.ptr 0 0 0 0),(4,.ptr 1 1 0 0),(5,.ptr 2 2 0 0),(6,.ptr 3 3 0 0),(7,.ptr 4 4 0 0),(8,.ptr 5 5 0 0),(9,.ptr 6 6 0 0),(12,.ptr 7 7 0 0),(13,.ptr 8 8 0 0)] [⟨117,12,0,true,false,1,fun _=>[.val (.bool a.x.s),.val (.string a.x.b),.val (.string a.x.c),.val (.bool a.y.s),.val (.string a.y.b),.val (.string a.y.c),.val (.bool b.x.s),.val (.string b.x.b),.val (.string b.x.c),.val (.bool b.y.s),.val (.string b.y.b),.val (.string b.y.c)]⟩,boxR false ⟨#[]⟩ ⟨#[]⟩ 1,boxR false ⟨#[]⟩ ⟨#[]⟩ 2,⟨4,1,3,true,false,1,fun _=>[.val (.bool false)]⟩,⟨38,1,4,true,false,1,fun _=>[.val (.int .i64 0)]⟩,boxQ s.1 5,boxQ s.2 6,boxQ x 7,boxQ y 8] 9 [[(3,.ptr 0 0 0 0),(4,.ptr 1 1 0 0),(5,.ptr 2 2 0 0),(6,.ptr 3 3 0 0),(7,.ptr 4 4 0 0),(8,.ptr 5 5 0 0),(9,.ptr 6 6 0 0)]],⟨⟨pr1,⟨⟨pr2,⟨⟨(),[some 0,some 1,some 2,some 3,some 4,some 5,some 6,some 9,some 10],trivial,Weak.of (by simp) ⟨⟨lt_ok rfl,rfl,rfl,rfl,rfl,rfl,⟨rfl,rfl⟩,⟨rfl,rfl⟩,⟨rfl,rfl⟩,⟨rfl,rfl⟩,⟨rfl,rfl⟩,⟨rfl,rfl⟩,⟨rfl,rfl⟩,⟨rfl,rfl⟩,⟨rfl,rfl⟩,⟨rfl,rfl⟩,⟨rfl,rfl⟩,⟨rfl,rfl⟩,trivial⟩,⟨lt_ok rfl,rfl,rfl,rfl,rfl,rfl,⟨rfl,rfl⟩,⟨rfl,rfl⟩,⟨rfl,rfl⟩,trivial⟩,⟨lt_ok rfl,rfl,rfl,rfl,rfl,rfl,⟨rfl,rfl⟩,⟨rfl,rfl⟩,⟨rfl,rfl⟩,trivial⟩,⟨lt_ok rfl,rfl,rfl,rfl,rfl,rfl,⟨rfl,rfl⟩,trivial⟩,⟨lt_ok rfl,rfl,rfl,rfl,rfl,rfl,⟨rfl,rfl⟩,trivial⟩,⟨lt_ok rfl,rfl,rfl,rfl,rfl,rfl,⟨rfl,rfl⟩,⟨rfl,rfl⟩,⟨rfl,rfl⟩,trivial⟩,⟨lt_ok rfl,rfl,rfl,rfl,rfl,rfl,⟨rfl,rfl⟩,⟨rfl,rfl⟩,⟨rfl,rfl⟩,trivial⟩,⟨lt_ok rfl,rfl,rfl,rfl,rfl,rfl,⟨congrArg (fun q:Rat=>PV.val (.bool (decide (q.num < 0)))) hx1,rfl⟩,⟨congrArg (fun q:Rat=>PV.val (.string (numB q.num.natAbs))) hx1,rfl⟩,⟨congrArg (fun q:Rat=>PV.val (.string (denT q.den))) hx1,rfl⟩,trivial⟩,⟨lt_ok rfl,rfl,rfl,rfl,rfl,rfl,⟨congrArg (fun q:Rat=>PV.val (.bool (decide (q.num < 0)))) hy1,rfl⟩,⟨congrArg (fun q:Rat=>PV.val (.string (numB q.num.natAbs))) hy1,rfl⟩,⟨congrArg (fun q:Rat=>PV.val (.string (denT q.den))) hy1,rfl⟩,trivial⟩,trivial⟩ ⟨⟨rfl,rfl,rfl,lt_ok rfl,_,rfl⟩,⟨rfl,rfl,rfl,lt_ok rfl,_,rfl⟩,⟨rfl,rfl,rfl,lt_ok rfl,_,rfl⟩,⟨rfl,rfl,rfl,lt_ok rfl,_,rfl⟩,⟨rfl,rfl,rfl,lt_ok rfl,_,rfl⟩,⟨rfl,rfl,rfl,lt_ok rfl,_,rfl⟩,⟨rfl,rfl,rfl,lt_ok rfl,_,rfl⟩,⟨rfl,rfl,rfl,lt_ok rfl,_,rfl⟩,⟨rfl,rfl,rfl,lt_ok rfl,_,rfl⟩,trivial⟩ ⟨⟨⟨rfl,rfl,rfl,lt_ok rfl,_,rfl⟩,⟨rfl,rfl,rfl,lt_ok rfl,_,rfl⟩,⟨rfl,rfl,rfl,lt_ok rfl,_,rfl⟩,⟨rfl,rfl,rfl,lt_ok rfl,_,rfl⟩,⟨rfl,rfl,rfl,lt_ok rfl,_,rfl⟩,⟨rfl,rfl,rfl,lt_ok rfl,_,rfl⟩,⟨rfl,rfl,rfl,lt_ok rfl,_,rfl⟩,trivial⟩,trivial⟩⟩,⟨(),[some 0,some 1,some 2,some 3,some 4,some 5,some 6,some 10,some 9],trivial,Weak.of (by simp) ⟨⟨lt_ok rfl,rfl,rfl,rfl,rfl,rfl,⟨rfl,rfl⟩,⟨rfl,rfl⟩,⟨rfl,rfl⟩,⟨rfl,rfl⟩,⟨rfl,rfl⟩,⟨rfl,rfl⟩,⟨rfl,rfl⟩,⟨rfl,rfl⟩,⟨rfl,rfl⟩,⟨rfl,rfl⟩,⟨rfl,rfl⟩,⟨rfl,rfl⟩,trivial⟩,⟨lt_ok rfl,rfl,rfl,rfl,rfl,rfl,⟨rfl,rfl⟩,⟨rfl,rfl⟩,⟨rfl,rfl⟩,trivial⟩,⟨lt_ok rfl,rfl,rfl,rfl,rfl,rfl,⟨rfl,rfl⟩,⟨rfl,rfl⟩,⟨rfl,rfl⟩,trivial⟩,⟨lt_ok rfl,rfl,rfl,rfl,rfl,rfl,⟨rfl,rfl⟩,trivial⟩,⟨lt_ok rfl,rfl,rfl,rfl,rfl,rfl,⟨rfl,rfl⟩,trivial⟩,⟨lt_ok rfl,rfl,rfl,rfl,rfl,rfl,⟨rfl,rfl⟩,⟨rfl,rfl⟩,⟨rfl,rfl⟩,trivial⟩,⟨lt_ok rfl,rfl,rfl,rfl,rfl,rfl,⟨rfl,rfl⟩,⟨rfl,rfl⟩,⟨rfl,rfl⟩,trivial⟩,⟨lt_ok rfl,rfl,rfl,rfl,rfl,rfl,⟨congrArg (fun q:Rat=>PV.val (.bool (decide (q.num < 0)))) hx1,rfl⟩,⟨congrArg (fun q:Rat=>PV.val (.string (numB q.num.natAbs))) hx1,rfl⟩,⟨congrArg (fun q:Rat=>PV.val (.string (denT q.den))) hx1,rfl⟩,trivial⟩,⟨lt_ok rfl,rfl,rfl,rfl,rfl,rfl,⟨congrArg (fun q:Rat=>PV.val (.bool (decide (q.num < 0)))) hy1,rfl⟩,⟨congrArg (fun q:Rat=>PV.val (.string (numB q.num.natAbs))) hy1,rfl⟩,⟨congrArg (fun q:Rat=>PV.val (.string (denT q.den))) hy1,rfl⟩,trivial⟩,trivial⟩ ⟨⟨rfl,rfl,rfl,lt_ok rfl,_,rfl⟩,⟨rfl,rfl,rfl,lt_ok rfl,_,rfl⟩,⟨rfl,rfl,rfl,lt_ok rfl,_,rfl⟩,⟨rfl,rfl,rfl,lt_ok rfl,_,rfl⟩,⟨rfl,rfl,rfl,lt_ok rfl,_,rfl⟩,⟨rfl,rfl,rfl,lt_ok rfl,_,rfl⟩,⟨rfl,rfl,rfl,lt_ok rfl,_,rfl⟩,⟨rfl,rfl,rfl,lt_ok rfl,_,rfl⟩,⟨rfl,rfl,rfl,lt_ok rfl,_,rfl⟩,trivial⟩ ⟨⟨⟨rfl,rfl,rfl,lt_ok rfl,_,rfl⟩,⟨rfl,rfl,rfl,lt_ok rfl,_,rfl⟩,⟨rfl,rfl,rfl,lt_ok rfl,_,rfl⟩,⟨rfl,rfl,rfl,lt_ok rfl,_,rfl⟩,⟨rfl,rfl,rfl,lt_ok rfl,_,rfl⟩,⟨rfl,rfl,rfl,lt_ok rfl,_,rfl⟩,⟨rfl,rfl,rfl,lt_ok rfl,_,rfl⟩,trivial⟩,trivial⟩⟩⟩⟩,⟨⟨⟨pr2,⟨(),[some 0,some 1,some 2,some 3,some 4,some 5,some 6,some 9,some 10],trivial,Weak.of (by simp) ⟨⟨lt_ok rfl,rfl,rfl,rfl,rfl,rfl,⟨rfl,rfl⟩,⟨rfl,rfl⟩,⟨rfl,rfl⟩,⟨rfl,rfl⟩,⟨rfl,rfl⟩,⟨rfl,rfl⟩,⟨rfl,rfl⟩,⟨rfl,rfl⟩,⟨rfl,rfl⟩,⟨rfl,rfl⟩,⟨rfl,rfl⟩,⟨rfl,rfl⟩,trivial⟩,⟨lt_ok rfl,rfl,rfl,rfl,rfl,rfl,⟨rfl,rfl⟩,⟨rfl,rfl⟩,⟨rfl,rfl⟩,trivial⟩,⟨lt_ok rfl,rfl,rfl,rfl,rfl,rfl,⟨rfl,rfl⟩,⟨rfl,rfl⟩,⟨rfl,rfl⟩,trivial⟩,⟨lt_ok rfl,rfl,rfl,rfl,rfl,rfl,⟨rfl,rfl⟩,trivial⟩,⟨lt_ok rfl,rfl,rfl,rfl,rfl,rfl,⟨rfl,rfl⟩,trivial⟩,⟨lt_ok rfl,rfl,rfl,rfl,rfl,rfl,⟨rfl,rfl⟩,⟨rfl,rfl⟩,⟨rfl,rfl⟩,trivial⟩,⟨lt_ok rfl,rfl,rfl,rfl,rfl,rfl,⟨rfl,rfl⟩,⟨rfl,rfl⟩,⟨rfl,rfl⟩,trivial⟩,⟨lt_ok rfl,rfl,rfl,rfl,rfl,rfl,⟨congrArg (fun q:Rat=>PV.val (.bool (decide (q.num < 0)))) hx1,rfl⟩,⟨congrArg (fun q:Rat=>PV.val (.string (numB q.num.natAbs))) hx1,rfl⟩,⟨congrArg (fun q:Rat=>PV.val (.string (denT q.den))) hx1,rfl⟩,trivial⟩,⟨lt_ok rfl,rfl,rfl,rfl,rfl,rfl,⟨congrArg (fun q:Rat=>PV.val (.bool (decide (q.num < 0)))) hy1,rfl⟩,⟨congrArg (fun q:Rat=>PV.val (.string (numB q.num.natAbs))) hy1,rfl⟩,⟨congrArg (fun q:Rat=>PV.val (.string (denT q.den))) hy1,rfl⟩,trivial⟩,trivial⟩ ⟨⟨rfl,rfl,rfl,lt_ok rfl,_,rfl⟩,⟨rfl,rfl,rfl,lt_ok rfl,_,rfl⟩,⟨rfl,rfl,rfl,lt_ok rfl,_,rfl⟩,⟨rfl,rfl,rfl,lt_ok rfl,_,rfl⟩,⟨rfl,rfl,rfl,lt_ok rfl,_,rfl⟩,⟨rfl,rfl,rfl,lt_ok rfl,_,rfl⟩,⟨rfl,rfl,rfl,lt_ok rfl,_,rfl⟩,⟨rfl,rfl,rfl,lt_ok rfl,_,rfl⟩,⟨rfl,rfl,rfl,lt_ok rfl,_,rfl⟩,trivial⟩ ⟨⟨⟨rfl,rfl,rfl,lt_ok rfl,_,rfl⟩,⟨rfl,rfl,rfl,lt_ok rfl,_,rfl⟩,⟨rfl,rfl,rfl,lt_ok rfl,_,rfl⟩,⟨rfl,rfl,rfl,lt_ok rfl,_,rfl⟩,⟨rfl,rfl,rfl,lt_ok rfl,_,rfl⟩,⟨rfl,rfl,rfl,lt_ok rfl,_,rfl⟩,⟨rfl,rfl,rfl,lt_ok rfl,_,rfl⟩,trivial⟩,trivial⟩⟩⟩,⟨pr2,⟨(),[some 0,some 1,some 2,some 3,some 4,some 5,some 6,some 9,some 10],trivial,Weak.of (by simp) ⟨⟨lt_ok rfl,rfl,rfl,rfl,rfl,rfl,⟨rfl,rfl⟩,⟨rfl,rfl⟩,⟨rfl,rfl⟩,⟨rfl,rfl⟩,⟨rfl,rfl⟩,⟨rfl,rfl⟩,⟨rfl,rfl⟩,⟨rfl,rfl⟩,⟨rfl,rfl⟩,⟨rfl,rfl⟩,⟨rfl,rfl⟩,⟨rfl,rfl⟩,trivial⟩,⟨lt_ok rfl,rfl,rfl,rfl,rfl,rfl,⟨rfl,rfl⟩,⟨rfl,rfl⟩,⟨rfl,rfl⟩,trivial⟩,⟨lt_ok rfl,rfl,rfl,rfl,rfl,rfl,⟨rfl,rfl⟩,⟨rfl,rfl⟩,⟨rfl,rfl⟩,trivial⟩,⟨lt_ok rfl,rfl,rfl,rfl,rfl,rfl,⟨rfl,rfl⟩,trivial⟩,⟨lt_ok rfl,rfl,rfl,rfl,rfl,rfl,⟨rfl,rfl⟩,trivial⟩,⟨lt_ok rfl,rfl,rfl,rfl,rfl,rfl,⟨rfl,rfl⟩,⟨rfl,rfl⟩,⟨rfl,rfl⟩,trivial⟩,⟨lt_ok rfl,rfl,rfl,rfl,rfl,rfl,⟨rfl,rfl⟩,⟨rfl,rfl⟩,⟨rfl,rfl⟩,trivial⟩,⟨lt_ok rfl,rfl,rfl,rfl,rfl,rfl,⟨congrArg (fun q:Rat=>PV.val (.bool (decide (q.num < 0)))) hx1,rfl⟩,⟨congrArg (fun q:Rat=>PV.val (.string (numB q.num.natAbs))) hx1,rfl⟩,⟨congrArg (fun q:Rat=>PV.val (.string (denT q.den))) hx1,rfl⟩,trivial⟩,⟨lt_ok rfl,rfl,rfl,rfl,rfl,rfl,⟨congrArg (fun q:Rat=>PV.val (.bool (decide (q.num < 0)))) hy1,rfl⟩,⟨congrArg (fun q:Rat=>PV.val (.string (numB q.num.natAbs))) hy1,rfl⟩,⟨congrArg (fun q:Rat=>PV.val (.string (denT q.den))) hy1,rfl⟩,trivial⟩,trivial⟩ ⟨⟨rfl,rfl,rfl,lt_ok rfl,_,rfl⟩,⟨rfl,rfl,rfl,lt_ok rfl,_,rfl⟩,⟨rfl,rfl,rfl,lt_ok rfl,_,rfl⟩,⟨rfl,rfl,rfl,lt_ok rfl,_,rfl⟩,⟨rfl,rfl,rfl,lt_ok rfl,_,rfl⟩,⟨rfl,rfl,rfl,lt_ok rfl,_,rfl⟩,⟨rfl,rfl,rfl,lt_ok rfl,_,rfl⟩,⟨rfl,rfl,rfl,lt_ok rfl,_,rfl⟩,⟨rfl,rfl,rfl,lt_ok rfl,_,rfl⟩,trivial⟩ ⟨⟨⟨rfl,rfl,rfl,lt_ok rfl,_,rfl⟩,⟨rfl,rfl,rfl,lt_ok rfl,_,rfl⟩,⟨rfl,rfl,rfl,lt_ok rfl,_,rfl⟩,⟨rfl,rfl,rfl,lt_ok rfl,_,rfl⟩,⟨rfl,rfl,rfl,lt_ok rfl,_,rfl⟩,⟨rfl,rfl,rfl,lt_ok rfl,_,rfl⟩,⟨rfl,rfl,rfl,lt_ok rfl,_,rfl⟩,trivial⟩,trivial⟩⟩⟩⟩,⟨⟨pr2,⟨(),[some 0,some 1,some 2,some 3,some 4,some 5,some 6,some 10,some 9],trivial,Weak.of (by simp) ⟨⟨lt_ok rfl,rfl,rfl,rfl,rfl,rfl,⟨rfl,rfl⟩,⟨rfl,rfl⟩,⟨rfl,rfl⟩,⟨rfl,rfl⟩,⟨rfl,rfl⟩,⟨rfl,rfl⟩,⟨rfl,rfl⟩,⟨rfl,rfl⟩,⟨rfl,rfl⟩,⟨rfl,rfl⟩,⟨rfl,rfl⟩,⟨rfl,rfl⟩,trivial⟩,⟨lt_ok rfl,rfl,rfl,rfl,rfl,rfl,⟨rfl,rfl⟩,⟨rfl,rfl⟩,⟨rfl,rfl⟩,trivial⟩,⟨lt_ok rfl,rfl,rfl,rfl,rfl,rfl,⟨rfl,rfl⟩,⟨rfl,rfl⟩,⟨rfl,rfl⟩,trivial⟩,⟨lt_ok rfl,rfl,rfl,rfl,rfl,rfl,⟨rfl,rfl⟩,trivial⟩,⟨lt_ok rfl,rfl,rfl,rfl,rfl,rfl,⟨rfl,rfl⟩,trivial⟩,⟨lt_ok rfl,rfl,rfl,rfl,rfl,rfl,⟨rfl,rfl⟩,⟨rfl,rfl⟩,⟨rfl,rfl⟩,trivial⟩,⟨lt_ok rfl,rfl,rfl,rfl,rfl,rfl,⟨rfl,rfl⟩,⟨rfl,rfl⟩,⟨rfl,rfl⟩,trivial⟩,⟨lt_ok rfl,rfl,rfl,rfl,rfl,rfl,⟨congrArg (fun q:Rat=>PV.val (.bool (decide (q.num < 0)))) hx1,rfl⟩,⟨congrArg (fun q:Rat=>PV.val (.string (numB q.num.natAbs))) hx1,rfl⟩,⟨congrArg (fun q:Rat=>PV.val (.string (denT q.den))) hx1,rfl⟩,trivial⟩,⟨lt_ok rfl,rfl,rfl,rfl,rfl,rfl,⟨congrArg (fun q:Rat=>PV.val (.bool (decide (q.num < 0)))) hy1,rfl⟩,⟨congrArg (fun q:Rat=>PV.val (.string (numB q.num.natAbs))) hy1,rfl⟩,⟨congrArg (fun q:Rat=>PV.val (.string (denT q.den))) hy1,rfl⟩,trivial⟩,trivial⟩ ⟨⟨rfl,rfl,rfl,lt_ok rfl,_,rfl⟩,⟨rfl,rfl,rfl,lt_ok rfl,_,rfl⟩,⟨rfl,rfl,rfl,lt_ok rfl,_,rfl⟩,⟨rfl,rfl,rfl,lt_ok rfl,_,rfl⟩,⟨rfl,rfl,rfl,lt_ok rfl,_,rfl⟩,⟨rfl,rfl,rfl,lt_ok rfl,_,rfl⟩,⟨rfl,rfl,rfl,lt_ok rfl,_,rfl⟩,⟨rfl,rfl,rfl,lt_ok rfl,_,rfl⟩,⟨rfl,rfl,rfl,lt_ok rfl,_,rfl⟩,trivial⟩ ⟨⟨⟨rfl,rfl,rfl,lt_ok rfl,_,rfl⟩,⟨rfl,rfl,rfl,lt_ok rfl,_,rfl⟩,⟨rfl,rfl,rfl,lt_ok rfl,_,rfl⟩,⟨rfl,rfl,rfl,lt_ok rfl,_,rfl⟩,⟨rfl,rfl,rfl,lt_ok rfl,_,rfl⟩,⟨rfl,rfl,rfl,lt_ok rfl,_,rfl⟩,⟨rfl,rfl,rfl,lt_ok rfl,_,rfl⟩,trivial⟩,trivial⟩⟩⟩,⟨pr2,⟨(),[some 0,some 1,some 2,some 3,some 4,some 5,some 6,some 10,some 9],trivial,Weak.of (by simp) ⟨⟨lt_ok rfl,rfl,rfl,rfl,rfl,rfl,⟨rfl,rfl⟩,⟨rfl,rfl⟩,⟨rfl,rfl⟩,⟨rfl,rfl⟩,⟨rfl,rfl⟩,⟨rfl,rfl⟩,⟨rfl,rfl⟩,⟨rfl,rfl⟩,⟨rfl,rfl⟩,⟨rfl,rfl⟩,⟨rfl,rfl⟩,⟨rfl,rfl⟩,trivial⟩,⟨lt_ok rfl,rfl,rfl,rfl,rfl,rfl,⟨rfl,rfl⟩,⟨rfl,rfl⟩,⟨rfl,rfl⟩,trivial⟩,⟨lt_ok rfl,rfl,rfl,rfl,rfl,rfl,⟨rfl,rfl⟩,⟨rfl,rfl⟩,⟨rfl,rfl⟩,trivial⟩,⟨lt_ok rfl,rfl,rfl,rfl,rfl,rfl,⟨rfl,rfl⟩,trivial⟩,⟨lt_ok rfl,rfl,rfl,rfl,rfl,rfl,⟨rfl,rfl⟩,trivial⟩,⟨lt_ok rfl,rfl,rfl,rfl,rfl,rfl,⟨rfl,rfl⟩,⟨rfl,rfl⟩,⟨rfl,rfl⟩,trivial⟩,⟨lt_ok rfl,rfl,rfl,rfl,rfl,rfl,⟨rfl,rfl⟩,⟨rfl,rfl⟩,⟨rfl,rfl⟩,trivial⟩,⟨lt_ok rfl,rfl,rfl,rfl,rfl,rfl,⟨congrArg (fun q:Rat=>PV.val (.bool (decide (q.num < 0)))) hx1,rfl⟩,⟨congrArg (fun q:Rat=>PV.val (.string (numB q.num.natAbs))) hx1,rfl⟩,⟨congrArg (fun q:Rat=>PV.val (.string (denT q.den))) hx1,rfl⟩,trivial⟩,⟨lt_ok rfl,rfl,rfl,rfl,rfl,rfl,⟨congrArg (fun q:Rat=>PV.val (.bool (decide (q.num < 0)))) hy1,rfl⟩,⟨congrArg (fun q:Rat=>PV.val (.string (numB q.num.natAbs))) hy1,rfl⟩,⟨congrArg (fun q:Rat=>PV.val (.string (denT q.den))) hy1,rfl⟩,trivial⟩,trivial⟩ ⟨⟨rfl,rfl,rfl,lt_ok rfl,_,rfl⟩,⟨rfl,rfl,rfl,lt_ok rfl,_,rfl⟩,⟨rfl,rfl,rfl,lt_ok rfl,_,rfl⟩,⟨rfl,rfl,rfl,lt_ok rfl,_,rfl⟩,⟨rfl,rfl,rfl,lt_ok rfl,_,rfl⟩,⟨rfl,rfl,rfl,lt_ok rfl,_,rfl⟩,⟨rfl,rfl,rfl,lt_ok rfl,_,rfl⟩,⟨rfl,rfl,rfl,lt_ok rfl,_,rfl⟩,⟨rfl,rfl,rfl,lt_ok rfl,_,rfl⟩,trivial⟩ ⟨⟨⟨rfl,rfl,rfl,lt_ok rfl,_,rfl⟩,⟨rfl,rfl,rfl,lt_ok rfl,_,rfl⟩,⟨rfl,rfl,rfl,lt_ok rfl,_,rfl⟩,⟨rfl,rfl,rfl,lt_ok rfl,_,rfl⟩,⟨rfl,rfl,rfl,lt_ok rfl,_,rfl⟩,⟨rfl,rfl,rfl,lt_ok rfl,_,rfl⟩,⟨rfl,rfl,rfl,lt_ok rfl,_,rfl⟩,trivial⟩,trivial⟩⟩⟩⟩⟩⟩⟩,⟨⟨⟨pr1,⟨⟨pr2,⟨(),[some 0,some 1,some 2,some 3,some 4,some 5,some 6,some 9,some 10],trivial,Weak.of (by simp) ⟨⟨lt_ok rfl,rfl,rfl,rfl,rfl,rfl,⟨rfl,rfl⟩,⟨rfl,rfl⟩,⟨rfl,rfl⟩,⟨rfl,rfl⟩,⟨rfl,rfl⟩,⟨rfl,rfl⟩,⟨rfl,rfl⟩,⟨rfl,rfl⟩,⟨rfl,rfl⟩,⟨rfl,rfl⟩,⟨rfl,rfl⟩,⟨rfl,rfl⟩,trivial⟩,⟨lt_ok rfl,rfl,rfl,rfl,rfl,rfl,⟨rfl,rfl⟩,⟨rfl,rfl⟩,⟨rfl,rfl⟩,trivial⟩,⟨lt_ok rfl,rfl,rfl,rfl,rfl,rfl,⟨rfl,rfl⟩,⟨rfl,rfl⟩,⟨rfl,rfl⟩,trivial⟩,⟨lt_ok rfl,rfl,rfl,rfl,rfl,rfl,⟨rfl,rfl⟩,trivial⟩,⟨lt_ok rfl,rfl,rfl,rfl,rfl,rfl,⟨rfl,rfl⟩,trivial⟩,⟨lt_ok rfl,rfl,rfl,rfl,rfl,rfl,⟨rfl,rfl⟩,⟨rfl,rfl⟩,⟨rfl,rfl⟩,trivial⟩,⟨lt_ok rfl,rfl,rfl,rfl,rfl,rfl,⟨rfl,rfl⟩,⟨rfl,rfl⟩,⟨rfl,rfl⟩,trivial⟩,⟨lt_ok rfl,rfl,rfl,rfl,rfl,rfl,⟨congrArg (fun q:Rat=>PV.val (.bool (decide (q.num < 0)))) hx1,rfl⟩,⟨congrArg (fun q:Rat=>PV.val (.string (numB q.num.natAbs))) hx1,rfl⟩,⟨congrArg (fun q:Rat=>PV.val (.string (denT q.den))) hx1,rfl⟩,trivial⟩,⟨lt_ok rfl,rfl,rfl,rfl,rfl,rfl,⟨congrArg (fun q:Rat=>PV.val (.bool (decide (q.num < 0)))) hy1,rfl⟩,⟨congrArg (fun q:Rat=>PV.val (.string (numB q.num.natAbs))) hy1,rfl⟩,⟨congrArg (fun q:Rat=>PV.val (.string (denT q.den))) hy1,rfl⟩,trivial⟩,trivial⟩ ⟨⟨rfl,rfl,rfl,lt_ok rfl,_,rfl⟩,⟨rfl,rfl,rfl,lt_ok rfl,_,rfl⟩,⟨rfl,rfl,rfl,lt_ok rfl,_,rfl⟩,⟨rfl,rfl,rfl,lt_ok rfl,_,rfl⟩,⟨rfl,rfl,rfl,lt_ok rfl,_,rfl⟩,⟨rfl,rfl,rfl,lt_ok rfl,_,rfl⟩,⟨rfl,rfl,rfl,lt_ok rfl,_,rfl⟩,⟨rfl,rfl,rfl,lt_ok rfl,_,rfl⟩,⟨rfl,rfl,rfl,lt_ok rfl,_,rfl⟩,trivial⟩ ⟨⟨⟨rfl,rfl,rfl,lt_ok rfl,_,rfl⟩,⟨rfl,rfl,rfl,lt_ok rfl,_,rfl⟩,⟨rfl,rfl,rfl,lt_ok rfl,_,rfl⟩,⟨rfl,rfl,rfl,lt_ok rfl,_,rfl⟩,⟨rfl,rfl,rfl,lt_ok rfl,_,rfl⟩,⟨rfl,rfl,rfl,lt_ok rfl,_,rfl⟩,⟨rfl,rfl,rfl,lt_ok rfl,_,rfl⟩,trivial⟩,trivial⟩⟩⟩,⟨pr2,⟨(),[some 0,some 1,some 2,some 3,some 4,some 5,some 6,some 9,some 10],trivial,Weak.of (by simp) ⟨⟨lt_ok rfl,rfl,rfl,rfl,rfl,rfl,⟨rfl,rfl⟩,⟨rfl,rfl⟩,⟨rfl,rfl⟩,⟨rfl,rfl⟩,⟨rfl,rfl⟩,⟨rfl,rfl⟩,⟨rfl,rfl⟩,⟨rfl,rfl⟩,⟨rfl,rfl⟩,⟨rfl,rfl⟩,⟨rfl,rfl⟩,⟨rfl,rfl⟩,trivial⟩,⟨lt_ok rfl,rfl,rfl,rfl,rfl,rfl,⟨rfl,rfl⟩,⟨rfl,rfl⟩,⟨rfl,rfl⟩,trivial⟩,⟨lt_ok rfl,rfl,rfl,rfl,rfl,rfl,⟨rfl,rfl⟩,⟨rfl,rfl⟩,⟨rfl,rfl⟩,trivial⟩,⟨lt_ok rfl,rfl,rfl,rfl,rfl,rfl,⟨rfl,rfl⟩,trivial⟩,⟨lt_ok rfl,rfl,rfl,rfl,rfl,rfl,⟨rfl,rfl⟩,trivial⟩,⟨lt_ok rfl,rfl,rfl,rfl,rfl,rfl,⟨rfl,rfl⟩,⟨rfl,rfl⟩,⟨rfl,rfl⟩,trivial⟩,⟨lt_ok rfl,rfl,rfl,rfl,rfl,rfl,⟨rfl,rfl⟩,⟨rfl,rfl⟩,⟨rfl,rfl⟩,trivial⟩,⟨lt_ok rfl,rfl,rfl,rfl,rfl,rfl,⟨congrArg (fun q:Rat=>PV.val (.bool (decide (q.num < 0)))) hx1,rfl⟩,⟨congrArg (fun q:Rat=>PV.val (.string (numB q.num.natAbs))) hx1,rfl⟩,⟨congrArg (fun q:Rat=>PV.val (.string (denT q.den))) hx1,rfl⟩,trivial⟩,⟨lt_ok rfl,rfl,rfl,rfl,rfl,rfl,⟨congrArg (fun q:Rat=>PV.val (.bool (decide (q.num < 0)))) hy1,rfl⟩,⟨congrArg (fun q:Rat=>PV.val (.string (numB q.num.natAbs))) hy1,rfl⟩,⟨congrArg (fun q:Rat=>PV.val (.string (denT q.den))) hy1,rfl⟩,trivial⟩,trivial⟩ ⟨⟨rfl,rfl,rfl,lt_ok rfl,_,rfl⟩,⟨rfl,rfl,rfl,lt_ok rfl,_,rfl⟩,⟨rfl,rfl,rfl,lt_ok rfl,_,rfl⟩,⟨rfl,rfl,rfl,lt_ok rfl,_,rfl⟩,⟨rfl,rfl,rfl,lt_ok rfl,_,rfl⟩,⟨rfl,rfl,rfl,lt_ok rfl,_,rfl⟩,⟨rfl,rfl,rfl,lt_ok rfl,_,rfl⟩,⟨rfl,rfl,rfl,lt_ok rfl,_,rfl⟩,⟨rfl,rfl,rfl,lt_ok rfl,_,rfl⟩,trivial⟩ ⟨⟨⟨rfl,rfl,rfl,lt_ok rfl,_,rfl⟩,⟨rfl,rfl,rfl,lt_ok rfl,_,rfl⟩,⟨rfl,rfl,rfl,lt_ok rfl,_,rfl⟩,⟨rfl,rfl,rfl,lt_ok rfl,_,rfl⟩,⟨rfl,rfl,rfl,lt_ok rfl,_,rfl⟩,⟨rfl,rfl,rfl,lt_ok rfl,_,rfl⟩,⟨rfl,rfl,rfl,lt_ok rfl,_,rfl⟩,trivial⟩,trivial⟩⟩⟩⟩⟩,⟨pr1,⟨pr2,⟨(),[some 0,some 1,some 2,some 3,some 4,some 5,some 6,some 9,some 10],trivial,Weak.of (by simp) ⟨⟨lt_ok rfl,rfl,rfl,rfl,rfl,rfl,⟨rfl,rfl⟩,⟨rfl,rfl⟩,⟨rfl,rfl⟩,⟨rfl,rfl⟩,⟨rfl,rfl⟩,⟨rfl,rfl⟩,⟨rfl,rfl⟩,⟨rfl,rfl⟩,⟨rfl,rfl⟩,⟨rfl,rfl⟩,⟨rfl,rfl⟩,⟨rfl,rfl⟩,trivial⟩,⟨lt_ok rfl,rfl,rfl,rfl,rfl,rfl,⟨rfl,rfl⟩,⟨rfl,rfl⟩,⟨rfl,rfl⟩,trivial⟩,⟨lt_ok rfl,rfl,rfl,rfl,rfl,rfl,⟨rfl,rfl⟩,⟨rfl,rfl⟩,⟨rfl,rfl⟩,trivial⟩,⟨lt_ok rfl,rfl,rfl,rfl,rfl,rfl,⟨rfl,rfl⟩,trivial⟩,⟨lt_ok rfl,rfl,rfl,rfl,rfl,rfl,⟨rfl,rfl⟩,trivial⟩,⟨lt_ok rfl,rfl,rfl,rfl,rfl,rfl,⟨rfl,rfl⟩,⟨rfl,rfl⟩,⟨rfl,rfl⟩,trivial⟩,⟨lt_ok rfl,rfl,rfl,rfl,rfl,rfl,⟨rfl,rfl⟩,⟨rfl,rfl⟩,⟨rfl,rfl⟩,trivial⟩,⟨lt_ok rfl,rfl,rfl,rfl,rfl,rfl,⟨congrArg (fun q:Rat=>PV.val (.bool (decide (q.num < 0)))) hx1,rfl⟩,⟨congrArg (fun q:Rat=>PV.val (.string (numB q.num.natAbs))) hx1,rfl⟩,⟨congrArg (fun q:Rat=>PV.val (.string (denT q.den))) hx1,rfl⟩,trivial⟩,⟨lt_ok rfl,rfl,rfl,rfl,rfl,rfl,⟨congrArg (fun q:Rat=>PV.val (.bool (decide (q.num < 0)))) hy1,rfl⟩,⟨congrArg (fun q:Rat=>PV.val (.string (numB q.num.natAbs))) hy1,rfl⟩,⟨congrArg (fun q:Rat=>PV.val (.string (denT q.den))) hy1,rfl⟩,trivial⟩,trivial⟩ ⟨⟨rfl,rfl,rfl,lt_ok rfl,_,rfl⟩,⟨rfl,rfl,rfl,lt_ok rfl,_,rfl⟩,⟨rfl,rfl,rfl,lt_ok rfl,_,rfl⟩,⟨rfl,rfl,rfl,lt_ok rfl,_,rfl⟩,⟨rfl,rfl,rfl,lt_ok rfl,_,rfl⟩,⟨rfl,rfl,rfl,lt_ok rfl,_,rfl⟩,⟨rfl,rfl,rfl,lt_ok rfl,_,rfl⟩,⟨rfl,rfl,rfl,lt_ok rfl,_,rfl⟩,⟨rfl,rfl,rfl,lt_ok rfl,_,rfl⟩,trivial⟩ ⟨⟨⟨rfl,rfl,rfl,lt_ok rfl,_,rfl⟩,⟨rfl,rfl,rfl,lt_ok rfl,_,rfl⟩,⟨rfl,rfl,rfl,lt_ok rfl,_,rfl⟩,⟨rfl,rfl,rfl,lt_ok rfl,_,rfl⟩,⟨rfl,rfl,rfl,lt_ok rfl,_,rfl⟩,⟨rfl,rfl,rfl,lt_ok rfl,_,rfl⟩,⟨rfl,rfl,rfl,lt_ok rfl,_,rfl⟩,trivial⟩,trivial⟩⟩⟩⟩⟩,⟨⟨pr1,⟨⟨pr2,⟨(),[some 0,some 1,some 2,some 3,some 4,some 5,some 6,some 10,some 9],trivial,Weak.of (by simp) ⟨⟨lt_ok rfl,rfl,rfl,rfl,rfl,rfl,⟨rfl,rfl⟩,⟨rfl,rfl⟩,⟨rfl,rfl⟩,⟨rfl,rfl⟩,⟨rfl,rfl⟩,⟨rfl,rfl⟩,⟨rfl,rfl⟩,⟨rfl,rfl⟩,⟨rfl,rfl⟩,⟨rfl,rfl⟩,⟨rfl,rfl⟩,⟨rfl,rfl⟩,trivial⟩,⟨lt_ok rfl,rfl,rfl,rfl,rfl,rfl,⟨rfl,rfl⟩,⟨rfl,rfl⟩,⟨rfl,rfl⟩,trivial⟩,⟨lt_ok rfl,rfl,rfl,rfl,rfl,rfl,⟨rfl,rfl⟩,⟨rfl,rfl⟩,⟨rfl,rfl⟩,trivial⟩,⟨lt_ok rfl,rfl,rfl,rfl,rfl,rfl,⟨rfl,rfl⟩,trivial⟩,⟨lt_ok rfl,rfl,rfl,rfl,rfl,rfl,⟨rfl,rfl⟩,trivial⟩,⟨lt_ok rfl,rfl,rfl,rfl,rfl,rfl,⟨rfl,rfl⟩,⟨rfl,rfl⟩,⟨rfl,rfl⟩,trivial⟩,⟨lt_ok rfl,rfl,rfl,rfl,rfl,rfl,⟨rfl,rfl⟩,⟨rfl,rfl⟩,⟨rfl,rfl⟩,trivial⟩,⟨lt_ok rfl,rfl,rfl,rfl,rfl,rfl,⟨congrArg (fun q:Rat=>PV.val (.bool (decide (q.num < 0)))) hx1,rfl⟩,⟨congrArg (fun q:Rat=>PV.val (.string (numB q.num.natAbs))) hx1,rfl⟩,⟨congrArg (fun q:Rat=>PV.val (.string (denT q.den))) hx1,rfl⟩,trivial⟩,⟨lt_ok rfl,rfl,rfl,rfl,rfl,rfl,⟨congrArg (fun q:Rat=>PV.val (.bool (decide (q.num < 0)))) hy1,rfl⟩,⟨congrArg (fun q:Rat=>PV.val (.string (numB q.num.natAbs))) hy1,rfl⟩,⟨congrArg (fun q:Rat=>PV.val (.string (denT q.den))) hy1,rfl⟩,trivial⟩,trivial⟩ ⟨⟨rfl,rfl,rfl,lt_ok rfl,_,rfl⟩,⟨rfl,rfl,rfl,lt_ok rfl,_,rfl⟩,⟨rfl,rfl,rfl,lt_ok rfl,_,rfl⟩,⟨rfl,rfl,rfl,lt_ok rfl,_,rfl⟩,⟨rfl,rfl,rfl,lt_ok rfl,_,rfl⟩,⟨rfl,rfl,rfl,lt_ok rfl,_,rfl⟩,⟨rfl,rfl,rfl,lt_ok rfl,_,rfl⟩,⟨rfl,rfl,rfl,lt_ok rfl,_,rfl⟩,⟨rfl,rfl,rfl,lt_ok rfl,_,rfl⟩,trivial⟩ ⟨⟨⟨rfl,rfl,rfl,lt_ok rfl,_,rfl⟩,⟨rfl,rfl,rfl,lt_ok rfl,_,rfl⟩,⟨rfl,rfl,rfl,lt_ok rfl,_,rfl⟩,⟨rfl,rfl,rfl,lt_ok rfl,_,rfl⟩,⟨rfl,rfl,rfl,lt_ok rfl,_,rfl⟩,⟨rfl,rfl,rfl,lt_ok rfl,_,rfl⟩,⟨rfl,rfl,rfl,lt_ok rfl,_,rfl⟩,trivial⟩,trivial⟩⟩⟩,⟨pr2,⟨(),[some 0,some 1,some 2,some 3,some 4,some 5,some 6,some 10,some 9],trivial,Weak.of (by simp) ⟨⟨lt_ok rfl,rfl,rfl,rfl,rfl,rfl,⟨rfl,rfl⟩,⟨rfl,rfl⟩,⟨rfl,rfl⟩,⟨rfl,rfl⟩,⟨rfl,rfl⟩,⟨rfl,rfl⟩,⟨rfl,rfl⟩,⟨rfl,rfl⟩,⟨rfl,rfl⟩,⟨rfl,rfl⟩,⟨rfl,rfl⟩,⟨rfl,rfl⟩,trivial⟩,⟨lt_ok rfl,rfl,rfl,rfl,rfl,rfl,⟨rfl,rfl⟩,⟨rfl,rfl⟩,⟨rfl,rfl⟩,trivial⟩,⟨lt_ok rfl,rfl,rfl,rfl,rfl,rfl,⟨rfl,rfl⟩,⟨rfl,rfl⟩,⟨rfl,rfl⟩,trivial⟩,⟨lt_ok rfl,rfl,rfl,rfl,rfl,rfl,⟨rfl,rfl⟩,trivial⟩,⟨lt_ok rfl,rfl,rfl,rfl,rfl,rfl,⟨rfl,rfl⟩,trivial⟩,⟨lt_ok rfl,rfl,rfl,rfl,rfl,rfl,⟨rfl,rfl⟩,⟨rfl,rfl⟩,⟨rfl,rfl⟩,trivial⟩,⟨lt_ok rfl,rfl,rfl,rfl,rfl,rfl,⟨rfl,rfl⟩,⟨rfl,rfl⟩,⟨rfl,rfl⟩,trivial⟩,⟨lt_ok rfl,rfl,rfl,rfl,rfl,rfl,⟨congrArg (fun q:Rat=>PV.val (.bool (decide (q.num < 0)))) hx1,rfl⟩,⟨congrArg (fun q:Rat=>PV.val (.string (numB q.num.natAbs))) hx1,rfl⟩,⟨congrArg (fun q:Rat=>PV.val (.string (denT q.den))) hx1,rfl⟩,trivial⟩,⟨lt_ok rfl,rfl,rfl,rfl,rfl,rfl,⟨congrArg (fun q:Rat=>PV.val (.bool (decide (q.num < 0)))) hy1,rfl⟩,⟨congrArg (fun q:Rat=>PV.val (.string (numB q.num.natAbs))) hy1,rfl⟩,⟨congrArg (fun q:Rat=>PV.val (.string (denT q.den))) hy1,rfl⟩,trivial⟩,trivial⟩ ⟨⟨rfl,rfl,rfl,lt_ok rfl,_,rfl⟩,⟨rfl,rfl,rfl,lt_ok rfl,_,rfl⟩,⟨rfl,rfl,rfl,lt_ok rfl,_,rfl⟩,⟨rfl,rfl,rfl,lt_ok rfl,_,rfl⟩,⟨rfl,rfl,rfl,lt_ok rfl,_,rfl⟩,⟨rfl,rfl,rfl,lt_ok rfl,_,rfl⟩,⟨rfl,rfl,rfl,lt_ok rfl,_,rfl⟩,⟨rfl,rfl,rfl,lt_ok rfl,_,rfl⟩,⟨rfl,rfl,rfl,lt_ok rfl,_,rfl⟩,trivial⟩ ⟨⟨⟨rfl,rfl,rfl,lt_ok rfl,_,rfl⟩,⟨rfl,rfl,rfl,lt_ok rfl,_,rfl⟩,⟨rfl,rfl,rfl,lt_ok rfl,_,rfl⟩,⟨rfl,rfl,rfl,lt_ok rfl,_,rfl⟩,⟨rfl,rfl,rfl,lt_ok rfl,_,rfl⟩,⟨rfl,rfl,rfl,lt_ok rfl,_,rfl⟩,⟨rfl,rfl,rfl,lt_ok rfl,_,rfl⟩,trivial⟩,trivial⟩⟩⟩⟩⟩,⟨pr1,⟨pr2,⟨(),[some 0,some 1,some 2,some 3,some 4,some 5,some 6,some 10,some 9],trivial,Weak.of (by simp) ⟨⟨lt_ok rfl,rfl,rfl,rfl,rfl,rfl,⟨rfl,rfl⟩,⟨rfl,rfl⟩,⟨rfl,rfl⟩,⟨rfl,rfl⟩,⟨rfl,rfl⟩,⟨rfl,rfl⟩,⟨rfl,rfl⟩,⟨rfl,rfl⟩,⟨rfl,rfl⟩,⟨rfl,rfl⟩,⟨rfl,rfl⟩,⟨rfl,rfl⟩,trivial⟩,⟨lt_ok rfl,rfl,rfl,rfl,rfl,rfl,⟨rfl,rfl⟩,⟨rfl,rfl⟩,⟨rfl,rfl⟩,trivial⟩,⟨lt_ok rfl,rfl,rfl,rfl,rfl,rfl,⟨rfl,rfl⟩,⟨rfl,rfl⟩,⟨rfl,rfl⟩,trivial⟩,⟨lt_ok rfl,rfl,rfl,rfl,rfl,rfl,⟨rfl,rfl⟩,trivial⟩,⟨lt_ok rfl,rfl,rfl,rfl,rfl,rfl,⟨rfl,rfl⟩,trivial⟩,⟨lt_ok rfl,rfl,rfl,rfl,rfl,rfl,⟨rfl,rfl⟩,⟨rfl,rfl⟩,⟨rfl,rfl⟩,trivial⟩,⟨lt_ok rfl,rfl,rfl,rfl,rfl,rfl,⟨rfl,rfl⟩,⟨rfl,rfl⟩,⟨rfl,rfl⟩,trivial⟩,⟨lt_ok rfl,rfl,rfl,rfl,rfl,rfl,⟨congrArg (fun q:Rat=>PV.val (.bool (decide (q.num < 0)))) hx1,rfl⟩,⟨congrArg (fun q:Rat=>PV.val (.string (numB q.num.natAbs))) hx1,rfl⟩,⟨congrArg (fun q:Rat=>PV.val (.string (denT q.den))) hx1,rfl⟩,trivial⟩,⟨lt_ok rfl,rfl,rfl,rfl,rfl,rfl,⟨congrArg (fun q:Rat=>PV.val (.bool (decide (q.num < 0)))) hy1,rfl⟩,⟨congrArg (fun q:Rat=>PV.val (.string (numB q.num.natAbs))) hy1,rfl⟩,⟨congrArg (fun q:Rat=>PV.val (.string (denT q.den))) hy1,rfl⟩,trivial⟩,trivial⟩ ⟨⟨rfl,rfl,rfl,lt_ok rfl,_,rfl⟩,⟨rfl,rfl,rfl,lt_ok rfl,_,rfl⟩,⟨rfl,rfl,rfl,lt_ok rfl,_,rfl⟩,⟨rfl,rfl,rfl,lt_ok rfl,_,rfl⟩,⟨rfl,rfl,rfl,lt_ok rfl,_,rfl⟩,⟨rfl,rfl,rfl,lt_ok rfl,_,rfl⟩,⟨rfl,rfl,rfl,lt_ok rfl,_,rfl⟩,⟨rfl,rfl,rfl,lt_ok rfl,_,rfl⟩,⟨rfl,rfl,rfl,lt_ok rfl,_,rfl⟩,trivial⟩ ⟨⟨⟨rfl,rfl,rfl,lt_ok rfl,_,rfl⟩,⟨rfl,rfl,rfl,lt_ok rfl,_,rfl⟩,⟨rfl,rfl,rfl,lt_ok rfl,_,rfl⟩,⟨rfl,rfl,rfl,lt_ok rfl,_,rfl⟩,⟨rfl,rfl,rfl,lt_ok rfl,_,rfl⟩,⟨rfl,rfl,rfl,lt_ok rfl,_,rfl⟩,⟨rfl,rfl,rfl,lt_ok rfl,_,rfl⟩,trivial⟩,trivial⟩⟩⟩⟩⟩⟩⟩,fun _ _=>?_⟩
    have rx:isRk 4294967296 (ratV x):=qx.rk (by decide)
    have ry:isRk 4294967296 (ratV y):=qy.rk (by decide)
    have ix:decide (cmpQ (rdR (ratV x)) 0 > 0)=decide (cmpQ x 0 > 0):=by rw [rdR_ratV]
    have iy:decide (cmpQ (rdR (ratV y)) 0 > 0)=decide (cmpQ y 0 > 0):=by rw [rdR_ratV]
    have nin:(!decide (cmpQ (rdR (ratV x)) 0 > 0))=true→(!decide (cmpQ (rdR (ratV y)) 0 > 0))=true→X=none:=fun h h'=>by
     rw [ix] at h
     rw [iy] at h'
     rw [hX]
     unfold partO
     rw [←hB,hbd]
     unfold stepQ at hstep
     rw [h,h'] at hstep
     rw [←hpf,hstep]
     rfl
    have I9a:(!decide (cmpQ (rdR (ratV y)) 0 > 0))=false→(decide (cmpQ x 0 > 0)||decide (cmpQ y 0 > 0))=true:=fun h=>by
     rw [iy] at h
     have h:decide (cmpQ y 0 > 0)=true:=by simpa using h
     rw [h,Bool.or_true]
    have I9b:(!decide (cmpQ (rdR (ratV x)) 0 > 0)) = !true→(decide (cmpQ x 0 > 0)||decide (cmpQ y 0 > 0))=true:=fun h=>by
     rw [ix] at h
     have h:decide (cmpQ x 0 > 0)=true:=by simpa using h
     rw [h,Bool.true_or]
    with_unfolding_all refine⟨rx,ry,Unit,fun _=>(decide (cmpQ x 0 > 0)||decide (cmpQ y 0 > 0))=true,fun _=>stOf [(3,.ptr 0 0 0 0),(4,.ptr 1 1 0 0),(5,.ptr 2 2 0 0),(6,.ptr 3 3 0 0),(7,.ptr 4 4 0 0),(8,.ptr 5 5 0 0),(9,.ptr 6 6 0 0),(12,.ptr 7 7 0 0),(13,.ptr 8 8 0 0),(14,.val (.bool (decide (cmpQ x 0 > 0)))),(15,.val (.bool (decide (cmpQ y 0 > 0))))] [⟨117,12,0,true,false,1,fun _=>[.val (.bool a.x.s),.val (.string a.x.b),.val (.string a.x.c),.val (.bool a.y.s),.val (.string a.y.b),.val (.string a.y.c),.val (.bool b.x.s),.val (.string b.x.b),.val (.string b.x.c),.val (.bool b.y.s),.val (.string b.y.b),.val (.string b.y.c)]⟩,boxR false ⟨#[]⟩ ⟨#[]⟩ 1,boxR false ⟨#[]⟩ ⟨#[]⟩ 2,⟨4,1,3,true,false,1,fun _=>[.val (.bool false)]⟩,⟨38,1,4,true,false,1,fun _=>[.val (.int .i64 0)]⟩,boxQ s.1 5,boxQ s.2 6,boxQ x 7,boxQ y 8] 9 [[(3,.ptr 0 0 0 0),(4,.ptr 1 1 0 0),(5,.ptr 2 2 0 0),(6,.ptr 3 3 0 0),(7,.ptr 4 4 0 0),(8,.ptr 5 5 0 0),(9,.ptr 6 6 0 0)]],⟨fun h1=>⟨fun h2=>⟨[some 1,some 2,some 3,some 4],stOf [(4,.ptr 0 0 0 0),(5,.ptr 1 1 0 0),(6,.ptr 2 2 0 0),(7,.ptr 3 3 0 0)] [boxQ (loO X) 0,boxQ (hiO X) 1,⟨4,1,2,true,false,1,fun _=>[.val (.bool X.isSome)]⟩,⟨38,1,3,true,false,1,fun _=>[.val (.int .i64 (bif Bd then 1 else 0))]⟩] 4 [],Weak.of (by simp) ⟨⟨lt_ok rfl,rfl,rfl,rfl,rfl,rfl,⟨(zb (nin h1 h2)).1,rfl⟩,⟨(zb (nin h1 h2)).2.1,rfl⟩,⟨(zb (nin h1 h2)).2.2.1,rfl⟩,trivial⟩,⟨lt_ok rfl,rfl,rfl,rfl,rfl,rfl,⟨(zc (nin h1 h2)).1,rfl⟩,⟨(zc (nin h1 h2)).2.1,rfl⟩,⟨(zc (nin h1 h2)).2.2,rfl⟩,trivial⟩,⟨lt_ok rfl,rfl,rfl,rfl,rfl,rfl,⟨(zb (nin h1 h2)).2.2.2,rfl⟩,trivial⟩,⟨lt_ok rfl,rfl,rfl,rfl,rfl,rfl,⟨e0 hbd,rfl⟩,trivial⟩,trivial⟩ ⟨⟨rfl,rfl,rfl,lt_ok rfl,_,rfl⟩,⟨rfl,rfl,rfl,lt_ok rfl,_,rfl⟩,⟨rfl,rfl,rfl,lt_ok rfl,_,rfl⟩,⟨rfl,rfl,rfl,lt_ok rfl,_,rfl⟩,trivial⟩ trivial,rfl,rfl⟩,fun h2=>⟨(),[some 0,some 1,some 2,some 3,some 4,some 5,some 6,some 7,some 8],I9a h2,Weak.of (by simp) ⟨⟨lt_ok rfl,rfl,rfl,rfl,rfl,rfl,⟨rfl,rfl⟩,⟨rfl,rfl⟩,⟨rfl,rfl⟩,⟨rfl,rfl⟩,⟨rfl,rfl⟩,⟨rfl,rfl⟩,⟨rfl,rfl⟩,⟨rfl,rfl⟩,⟨rfl,rfl⟩,⟨rfl,rfl⟩,⟨rfl,rfl⟩,⟨rfl,rfl⟩,trivial⟩,⟨lt_ok rfl,rfl,rfl,rfl,rfl,rfl,⟨rfl,rfl⟩,⟨rfl,rfl⟩,⟨rfl,rfl⟩,trivial⟩,⟨lt_ok rfl,rfl,rfl,rfl,rfl,rfl,⟨rfl,rfl⟩,⟨rfl,rfl⟩,⟨rfl,rfl⟩,trivial⟩,⟨lt_ok rfl,rfl,rfl,rfl,rfl,rfl,⟨rfl,rfl⟩,trivial⟩,⟨lt_ok rfl,rfl,rfl,rfl,rfl,rfl,⟨rfl,rfl⟩,trivial⟩,⟨lt_ok rfl,rfl,rfl,rfl,rfl,rfl,⟨rfl,rfl⟩,⟨rfl,rfl⟩,⟨rfl,rfl⟩,trivial⟩,⟨lt_ok rfl,rfl,rfl,rfl,rfl,rfl,⟨rfl,rfl⟩,⟨rfl,rfl⟩,⟨rfl,rfl⟩,trivial⟩,⟨lt_ok rfl,rfl,rfl,rfl,rfl,rfl,⟨rfl,rfl⟩,⟨rfl,rfl⟩,⟨rfl,rfl⟩,trivial⟩,⟨lt_ok rfl,rfl,rfl,rfl,rfl,rfl,⟨rfl,rfl⟩,⟨rfl,rfl⟩,⟨rfl,rfl⟩,trivial⟩,trivial⟩ ⟨⟨rfl,rfl,rfl,lt_ok rfl,_,rfl⟩,⟨rfl,rfl,rfl,lt_ok rfl,_,rfl⟩,⟨rfl,rfl,rfl,lt_ok rfl,_,rfl⟩,⟨rfl,rfl,rfl,lt_ok rfl,_,rfl⟩,⟨rfl,rfl,rfl,lt_ok rfl,_,rfl⟩,⟨rfl,rfl,rfl,lt_ok rfl,_,rfl⟩,⟨rfl,rfl,rfl,lt_ok rfl,_,rfl⟩,⟨rfl,rfl,rfl,lt_ok rfl,_,rfl⟩,⟨rfl,rfl,rfl,lt_ok rfl,_,rfl⟩,congrArg (fun z=>PV.val (.bool z)) ix,congrArg (fun z=>PV.val (.bool z)) iy,trivial⟩ ⟨⟨⟨rfl,rfl,rfl,lt_ok rfl,_,rfl⟩,⟨rfl,rfl,rfl,lt_ok rfl,_,rfl⟩,⟨rfl,rfl,rfl,lt_ok rfl,_,rfl⟩,⟨rfl,rfl,rfl,lt_ok rfl,_,rfl⟩,⟨rfl,rfl,rfl,lt_ok rfl,_,rfl⟩,⟨rfl,rfl,rfl,lt_ok rfl,_,rfl⟩,⟨rfl,rfl,rfl,lt_ok rfl,_,rfl⟩,trivial⟩,trivial⟩⟩⟩,fun h1=>⟨fun h2=>(nomatch h2),fun h2=>⟨(),[some 0,some 1,some 2,some 3,some 4,some 5,some 6,some 7,some 8],I9b h1,Weak.of (by simp) ⟨⟨lt_ok rfl,rfl,rfl,rfl,rfl,rfl,⟨rfl,rfl⟩,⟨rfl,rfl⟩,⟨rfl,rfl⟩,⟨rfl,rfl⟩,⟨rfl,rfl⟩,⟨rfl,rfl⟩,⟨rfl,rfl⟩,⟨rfl,rfl⟩,⟨rfl,rfl⟩,⟨rfl,rfl⟩,⟨rfl,rfl⟩,⟨rfl,rfl⟩,trivial⟩,⟨lt_ok rfl,rfl,rfl,rfl,rfl,rfl,⟨rfl,rfl⟩,⟨rfl,rfl⟩,⟨rfl,rfl⟩,trivial⟩,⟨lt_ok rfl,rfl,rfl,rfl,rfl,rfl,⟨rfl,rfl⟩,⟨rfl,rfl⟩,⟨rfl,rfl⟩,trivial⟩,⟨lt_ok rfl,rfl,rfl,rfl,rfl,rfl,⟨rfl,rfl⟩,trivial⟩,⟨lt_ok rfl,rfl,rfl,rfl,rfl,rfl,⟨rfl,rfl⟩,trivial⟩,⟨lt_ok rfl,rfl,rfl,rfl,rfl,rfl,⟨rfl,rfl⟩,⟨rfl,rfl⟩,⟨rfl,rfl⟩,trivial⟩,⟨lt_ok rfl,rfl,rfl,rfl,rfl,rfl,⟨rfl,rfl⟩,⟨rfl,rfl⟩,⟨rfl,rfl⟩,trivial⟩,⟨lt_ok rfl,rfl,rfl,rfl,rfl,rfl,⟨rfl,rfl⟩,⟨rfl,rfl⟩,⟨rfl,rfl⟩,trivial⟩,⟨lt_ok rfl,rfl,rfl,rfl,rfl,rfl,⟨rfl,rfl⟩,⟨rfl,rfl⟩,⟨rfl,rfl⟩,trivial⟩,trivial⟩ ⟨⟨rfl,rfl,rfl,lt_ok rfl,_,rfl⟩,⟨rfl,rfl,rfl,lt_ok rfl,_,rfl⟩,⟨rfl,rfl,rfl,lt_ok rfl,_,rfl⟩,⟨rfl,rfl,rfl,lt_ok rfl,_,rfl⟩,⟨rfl,rfl,rfl,lt_ok rfl,_,rfl⟩,⟨rfl,rfl,rfl,lt_ok rfl,_,rfl⟩,⟨rfl,rfl,rfl,lt_ok rfl,_,rfl⟩,⟨rfl,rfl,rfl,lt_ok rfl,_,rfl⟩,⟨rfl,rfl,rfl,lt_ok rfl,_,rfl⟩,congrArg (fun z=>PV.val (.bool z)) ix,congrArg (fun z=>PV.val (.bool z)) iy,trivial⟩ ⟨⟨⟨rfl,rfl,rfl,lt_ok rfl,_,rfl⟩,⟨rfl,rfl,rfl,lt_ok rfl,_,rfl⟩,⟨rfl,rfl,rfl,lt_ok rfl,_,rfl⟩,⟨rfl,rfl,rfl,lt_ok rfl,_,rfl⟩,⟨rfl,rfl,rfl,lt_ok rfl,_,rfl⟩,⟨rfl,rfl,rfl,lt_ok rfl,_,rfl⟩,⟨rfl,rfl,rfl,lt_ok rfl,_,rfl⟩,trivial⟩,trivial⟩⟩⟩⟩,fun _ h9=>?_⟩
    have h9:(decide (cmpQ x 0 > 0)||decide (cmpQ y 0 > 0))=true:=h9
    obtain⟨t,ht⟩:∃t,t=x / (x - y):=⟨_,rfl⟩
    have ht1:rdR (ratV x) / rdR (ratV (rdR (ratV x) - rdR (ratV y)))=t:=by rw [rdR_ratV,rdR_ratV,rdR_ratV,ht]
    have qt:QB 300000 t:=by rw [ht];exact(qx.div (qx.sub qy)).le (by decide)
    have pr3:isRk 4294967296 (ratV x)∧isRk 4294967296 (ratV y):=⟨rx,ry⟩
    have pr4:isRk 4294967296 (ratV x)∧isRk 4294967296 (ratV (rdR (ratV x) - rdR (ratV y))):=⟨rx,by rw [rdR_ratV,rdR_ratV];exact(qx.sub qy).rk (by decide)⟩
    have h9':(!decide (cmpQ x 0 > 0)&&!decide (cmpQ y 0 > 0))=false:=by cases h:decide (cmpQ x 0 > 0)<;>cases h':decide (cmpQ y 0 > 0)<;>first|rfl|(rw [h,h'] at h9;cases h9)
    have I12a:decide (cmpQ y 0 > 0)=false→(decide (cmpQ x 0 > 0)&&decide (cmpQ y 0 > 0))=false:=fun h=>by rw [h,Bool.and_false]
    have I12b:decide (cmpQ x 0 > 0) = !true→(decide (cmpQ x 0 > 0)&&decide (cmpQ y 0 > 0))=false:=fun h=>by rw [h];rfl
    with_unfolding_all refine⟨fun h1=>⟨fun h2=>⟨s,[some 0,some 1,some 2,some 3,some 4,some 5,some 6],?_,Weak.of (by simp) ⟨⟨lt_ok rfl,rfl,rfl,rfl,rfl,rfl,⟨rfl,rfl⟩,⟨rfl,rfl⟩,⟨rfl,rfl⟩,⟨rfl,rfl⟩,⟨rfl,rfl⟩,⟨rfl,rfl⟩,⟨rfl,rfl⟩,⟨rfl,rfl⟩,⟨rfl,rfl⟩,⟨rfl,rfl⟩,⟨rfl,rfl⟩,⟨rfl,rfl⟩,trivial⟩,⟨lt_ok rfl,rfl,rfl,rfl,rfl,rfl,⟨rfl,rfl⟩,⟨rfl,rfl⟩,⟨rfl,rfl⟩,trivial⟩,⟨lt_ok rfl,rfl,rfl,rfl,rfl,rfl,⟨rfl,rfl⟩,⟨rfl,rfl⟩,⟨rfl,rfl⟩,trivial⟩,⟨lt_ok rfl,rfl,rfl,rfl,rfl,rfl,⟨rfl,rfl⟩,trivial⟩,⟨lt_ok rfl,rfl,rfl,rfl,rfl,rfl,⟨rfl,rfl⟩,trivial⟩,⟨lt_ok rfl,rfl,rfl,rfl,rfl,rfl,⟨rfl,rfl⟩,⟨rfl,rfl⟩,⟨rfl,rfl⟩,trivial⟩,⟨lt_ok rfl,rfl,rfl,rfl,rfl,rfl,⟨rfl,rfl⟩,⟨rfl,rfl⟩,⟨rfl,rfl⟩,trivial⟩,trivial⟩ ⟨⟨rfl,rfl,rfl,lt_ok rfl,_,rfl⟩,⟨rfl,rfl,rfl,lt_ok rfl,_,rfl⟩,⟨rfl,rfl,rfl,lt_ok rfl,_,rfl⟩,⟨rfl,rfl,rfl,lt_ok rfl,_,rfl⟩,⟨rfl,rfl,rfl,lt_ok rfl,_,rfl⟩,⟨rfl,rfl,rfl,lt_ok rfl,_,rfl⟩,⟨rfl,rfl,rfl,lt_ok rfl,_,rfl⟩,trivial⟩ trivial⟩,fun h2=>⟨Unit,fun _=>(decide (cmpQ x 0 > 0)&&decide (cmpQ y 0 > 0))=false,fun _=>stOf [(3,.ptr 0 0 0 0),(4,.ptr 1 1 0 0),(5,.ptr 2 2 0 0),(6,.ptr 3 3 0 0),(7,.ptr 4 4 0 0),(8,.ptr 5 5 0 0),(9,.ptr 6 6 0 0),(14,.val (.bool (decide (cmpQ x 0 > 0)))),(15,.val (.bool (decide (cmpQ y 0 > 0)))),(16,.ptr 7 7 0 0)] [⟨117,12,0,true,false,1,fun _=>[.val (.bool a.x.s),.val (.string a.x.b),.val (.string a.x.c),.val (.bool a.y.s),.val (.string a.y.b),.val (.string a.y.c),.val (.bool b.x.s),.val (.string b.x.b),.val (.string b.x.c),.val (.bool b.y.s),.val (.string b.y.b),.val (.string b.y.c)]⟩,boxR false ⟨#[]⟩ ⟨#[]⟩ 1,boxR false ⟨#[]⟩ ⟨#[]⟩ 2,⟨4,1,3,true,false,1,fun _=>[.val (.bool false)]⟩,⟨38,1,4,true,false,1,fun _=>[.val (.int .i64 0)]⟩,boxQ s.1 5,boxQ s.2 6,boxQ t 7] 8 [[(3,.ptr 0 0 0 0),(4,.ptr 1 1 0 0),(5,.ptr 2 2 0 0),(6,.ptr 3 3 0 0),(7,.ptr 4 4 0 0),(8,.ptr 5 5 0 0),(9,.ptr 6 6 0 0)]],(fun I12=>?_) (I12a h2),fun _ hn12=>?_⟩⟩,fun h1=>⟨fun h2=>(nomatch h2),fun h2=>⟨Unit,fun _=>(decide (cmpQ x 0 > 0)&&decide (cmpQ y 0 > 0))=false,fun _=>stOf [(3,.ptr 0 0 0 0),(4,.ptr 1 1 0 0),(5,.ptr 2 2 0 0),(6,.ptr 3 3 0 0),(7,.ptr 4 4 0 0),(8,.ptr 5 5 0 0),(9,.ptr 6 6 0 0),(14,.val (.bool (decide (cmpQ x 0 > 0)))),(15,.val (.bool (decide (cmpQ y 0 > 0)))),(16,.ptr 7 7 0 0)] [⟨117,12,0,true,false,1,fun _=>[.val (.bool a.x.s),.val (.string a.x.b),.val (.string a.x.c),.val (.bool a.y.s),.val (.string a.y.b),.val (.string a.y.c),.val (.bool b.x.s),.val (.string b.x.b),.val (.string b.x.c),.val (.bool b.y.s),.val (.string b.y.b),.val (.string b.y.c)]⟩,boxR false ⟨#[]⟩ ⟨#[]⟩ 1,boxR false ⟨#[]⟩ ⟨#[]⟩ 2,⟨4,1,3,true,false,1,fun _=>[.val (.bool false)]⟩,⟨38,1,4,true,false,1,fun _=>[.val (.int .i64 0)]⟩,boxQ s.1 5,boxQ s.2 6,boxQ t 7] 8 [[(3,.ptr 0 0 0 0),(4,.ptr 1 1 0 0),(5,.ptr 2 2 0 0),(6,.ptr 3 3 0 0),(7,.ptr 4 4 0 0),(8,.ptr 5 5 0 0),(9,.ptr 6 6 0 0)]],(fun I12=>?_) (I12b h1),fun _ hn12=>?_⟩⟩⟩
    ·have hpf2:partF n p a b (n - (k+1)) (k+1) s=partF n p a b n 0 (mkRat 0 1,mkRat 1 1):=by
      rw [←hpf,hstep]
      unfold stepQ
      rw [h9',show((decide (cmpQ x 0 > 0))&&(decide (cmpQ y 0 > 0)))=true by
       have h1:decide (cmpQ x 0 > 0)=true:=h1
       have h2:decide (cmpQ y 0 > 0)=true:=h2
       rw [h1,h2]
       rfl]
      rfl
     exact⟨⟨hq1,hq2⟩,hpf2⟩
    ·with_unfolding_all exact⟨⟨pr3,⟨⟨pr4,⟨(),[some 0,some 1,some 2,some 3,some 4,some 5,some 6,some 9],I12,Weak.of (by simp) ⟨⟨lt_ok rfl,rfl,rfl,rfl,rfl,rfl,⟨rfl,rfl⟩,⟨rfl,rfl⟩,⟨rfl,rfl⟩,⟨rfl,rfl⟩,⟨rfl,rfl⟩,⟨rfl,rfl⟩,⟨rfl,rfl⟩,⟨rfl,rfl⟩,⟨rfl,rfl⟩,⟨rfl,rfl⟩,⟨rfl,rfl⟩,⟨rfl,rfl⟩,trivial⟩,⟨lt_ok rfl,rfl,rfl,rfl,rfl,rfl,⟨rfl,rfl⟩,⟨rfl,rfl⟩,⟨rfl,rfl⟩,trivial⟩,⟨lt_ok rfl,rfl,rfl,rfl,rfl,rfl,⟨rfl,rfl⟩,⟨rfl,rfl⟩,⟨rfl,rfl⟩,trivial⟩,⟨lt_ok rfl,rfl,rfl,rfl,rfl,rfl,⟨rfl,rfl⟩,trivial⟩,⟨lt_ok rfl,rfl,rfl,rfl,rfl,rfl,⟨rfl,rfl⟩,trivial⟩,⟨lt_ok rfl,rfl,rfl,rfl,rfl,rfl,⟨rfl,rfl⟩,⟨rfl,rfl⟩,⟨rfl,rfl⟩,trivial⟩,⟨lt_ok rfl,rfl,rfl,rfl,rfl,rfl,⟨rfl,rfl⟩,⟨rfl,rfl⟩,⟨rfl,rfl⟩,trivial⟩,⟨lt_ok rfl,rfl,rfl,rfl,rfl,rfl,⟨congrArg (fun q:Rat=>PV.val (.bool (decide (q.num < 0)))) ht1,rfl⟩,⟨congrArg (fun q:Rat=>PV.val (.string (numB q.num.natAbs))) ht1,rfl⟩,⟨congrArg (fun q:Rat=>PV.val (.string (denT q.den))) ht1,rfl⟩,trivial⟩,trivial⟩ ⟨⟨rfl,rfl,rfl,lt_ok rfl,_,rfl⟩,⟨rfl,rfl,rfl,lt_ok rfl,_,rfl⟩,⟨rfl,rfl,rfl,lt_ok rfl,_,rfl⟩,⟨rfl,rfl,rfl,lt_ok rfl,_,rfl⟩,⟨rfl,rfl,rfl,lt_ok rfl,_,rfl⟩,⟨rfl,rfl,rfl,lt_ok rfl,_,rfl⟩,⟨rfl,rfl,rfl,lt_ok rfl,_,rfl⟩,rfl,rfl,⟨rfl,rfl,rfl,lt_ok rfl,_,rfl⟩,trivial⟩ ⟨⟨⟨rfl,rfl,rfl,lt_ok rfl,_,rfl⟩,⟨rfl,rfl,rfl,lt_ok rfl,_,rfl⟩,⟨rfl,rfl,rfl,lt_ok rfl,_,rfl⟩,⟨rfl,rfl,rfl,lt_ok rfl,_,rfl⟩,⟨rfl,rfl,rfl,lt_ok rfl,_,rfl⟩,⟨rfl,rfl,rfl,lt_ok rfl,_,rfl⟩,⟨rfl,rfl,rfl,lt_ok rfl,_,rfl⟩,trivial⟩,trivial⟩⟩⟩,⟨pr4,⟨(),[some 0,some 1,some 2,some 3,some 4,some 5,some 6,some 9],I12,Weak.of (by simp) ⟨⟨lt_ok rfl,rfl,rfl,rfl,rfl,rfl,⟨rfl,rfl⟩,⟨rfl,rfl⟩,⟨rfl,rfl⟩,⟨rfl,rfl⟩,⟨rfl,rfl⟩,⟨rfl,rfl⟩,⟨rfl,rfl⟩,⟨rfl,rfl⟩,⟨rfl,rfl⟩,⟨rfl,rfl⟩,⟨rfl,rfl⟩,⟨rfl,rfl⟩,trivial⟩,⟨lt_ok rfl,rfl,rfl,rfl,rfl,rfl,⟨rfl,rfl⟩,⟨rfl,rfl⟩,⟨rfl,rfl⟩,trivial⟩,⟨lt_ok rfl,rfl,rfl,rfl,rfl,rfl,⟨rfl,rfl⟩,⟨rfl,rfl⟩,⟨rfl,rfl⟩,trivial⟩,⟨lt_ok rfl,rfl,rfl,rfl,rfl,rfl,⟨rfl,rfl⟩,trivial⟩,⟨lt_ok rfl,rfl,rfl,rfl,rfl,rfl,⟨rfl,rfl⟩,trivial⟩,⟨lt_ok rfl,rfl,rfl,rfl,rfl,rfl,⟨rfl,rfl⟩,⟨rfl,rfl⟩,⟨rfl,rfl⟩,trivial⟩,⟨lt_ok rfl,rfl,rfl,rfl,rfl,rfl,⟨rfl,rfl⟩,⟨rfl,rfl⟩,⟨rfl,rfl⟩,trivial⟩,⟨lt_ok rfl,rfl,rfl,rfl,rfl,rfl,⟨congrArg (fun q:Rat=>PV.val (.bool (decide (q.num < 0)))) ht1,rfl⟩,⟨congrArg (fun q:Rat=>PV.val (.string (numB q.num.natAbs))) ht1,rfl⟩,⟨congrArg (fun q:Rat=>PV.val (.string (denT q.den))) ht1,rfl⟩,trivial⟩,trivial⟩ ⟨⟨rfl,rfl,rfl,lt_ok rfl,_,rfl⟩,⟨rfl,rfl,rfl,lt_ok rfl,_,rfl⟩,⟨rfl,rfl,rfl,lt_ok rfl,_,rfl⟩,⟨rfl,rfl,rfl,lt_ok rfl,_,rfl⟩,⟨rfl,rfl,rfl,lt_ok rfl,_,rfl⟩,⟨rfl,rfl,rfl,lt_ok rfl,_,rfl⟩,⟨rfl,rfl,rfl,lt_ok rfl,_,rfl⟩,rfl,rfl,⟨rfl,rfl,rfl,lt_ok rfl,_,rfl⟩,trivial⟩ ⟨⟨⟨rfl,rfl,rfl,lt_ok rfl,_,rfl⟩,⟨rfl,rfl,rfl,lt_ok rfl,_,rfl⟩,⟨rfl,rfl,rfl,lt_ok rfl,_,rfl⟩,⟨rfl,rfl,rfl,lt_ok rfl,_,rfl⟩,⟨rfl,rfl,rfl,lt_ok rfl,_,rfl⟩,⟨rfl,rfl,rfl,lt_ok rfl,_,rfl⟩,⟨rfl,rfl,rfl,lt_ok rfl,_,rfl⟩,trivial⟩,trivial⟩⟩⟩⟩⟩,⟨pr3,⟨pr4,⟨(),[some 0,some 1,some 2,some 3,some 4,some 5,some 6,some 9],I12,Weak.of (by simp) ⟨⟨lt_ok rfl,rfl,rfl,rfl,rfl,rfl,⟨rfl,rfl⟩,⟨rfl,rfl⟩,⟨rfl,rfl⟩,⟨rfl,rfl⟩,⟨rfl,rfl⟩,⟨rfl,rfl⟩,⟨rfl,rfl⟩,⟨rfl,rfl⟩,⟨rfl,rfl⟩,⟨rfl,rfl⟩,⟨rfl,rfl⟩,⟨rfl,rfl⟩,trivial⟩,⟨lt_ok rfl,rfl,rfl,rfl,rfl,rfl,⟨rfl,rfl⟩,⟨rfl,rfl⟩,⟨rfl,rfl⟩,trivial⟩,⟨lt_ok rfl,rfl,rfl,rfl,rfl,rfl,⟨rfl,rfl⟩,⟨rfl,rfl⟩,⟨rfl,rfl⟩,trivial⟩,⟨lt_ok rfl,rfl,rfl,rfl,rfl,rfl,⟨rfl,rfl⟩,trivial⟩,⟨lt_ok rfl,rfl,rfl,rfl,rfl,rfl,⟨rfl,rfl⟩,trivial⟩,⟨lt_ok rfl,rfl,rfl,rfl,rfl,rfl,⟨rfl,rfl⟩,⟨rfl,rfl⟩,⟨rfl,rfl⟩,trivial⟩,⟨lt_ok rfl,rfl,rfl,rfl,rfl,rfl,⟨rfl,rfl⟩,⟨rfl,rfl⟩,⟨rfl,rfl⟩,trivial⟩,⟨lt_ok rfl,rfl,rfl,rfl,rfl,rfl,⟨congrArg (fun q:Rat=>PV.val (.bool (decide (q.num < 0)))) ht1,rfl⟩,⟨congrArg (fun q:Rat=>PV.val (.string (numB q.num.natAbs))) ht1,rfl⟩,⟨congrArg (fun q:Rat=>PV.val (.string (denT q.den))) ht1,rfl⟩,trivial⟩,trivial⟩ ⟨⟨rfl,rfl,rfl,lt_ok rfl,_,rfl⟩,⟨rfl,rfl,rfl,lt_ok rfl,_,rfl⟩,⟨rfl,rfl,rfl,lt_ok rfl,_,rfl⟩,⟨rfl,rfl,rfl,lt_ok rfl,_,rfl⟩,⟨rfl,rfl,rfl,lt_ok rfl,_,rfl⟩,⟨rfl,rfl,rfl,lt_ok rfl,_,rfl⟩,⟨rfl,rfl,rfl,lt_ok rfl,_,rfl⟩,rfl,rfl,⟨rfl,rfl,rfl,lt_ok rfl,_,rfl⟩,trivial⟩ ⟨⟨⟨rfl,rfl,rfl,lt_ok rfl,_,rfl⟩,⟨rfl,rfl,rfl,lt_ok rfl,_,rfl⟩,⟨rfl,rfl,rfl,lt_ok rfl,_,rfl⟩,⟨rfl,rfl,rfl,lt_ok rfl,_,rfl⟩,⟨rfl,rfl,rfl,lt_ok rfl,_,rfl⟩,⟨rfl,rfl,rfl,lt_ok rfl,_,rfl⟩,⟨rfl,rfl,rfl,lt_ok rfl,_,rfl⟩,trivial⟩,trivial⟩⟩⟩⟩⟩
    ·have hn12:(decide (cmpQ x 0 > 0)&&decide (cmpQ y 0 > 0))=false:=hn12
     have rt:isRk 4294967296 (ratV t):=qt.rk (by decide)
     have r1:isRk 4294967296 (ratV s.1):=hq1.rk (by decide)
     have r2:isRk 4294967296 (ratV s.2):=hq2.rk (by decide)
     obtain⟨lw,hlw⟩:∃z,z=(bif decide (cmpQ y 0 > 0)&&decide (cmpQ t s.1 > 0) then t else s.1):=⟨_,rfl⟩
     obtain⟨hgx,hhg⟩:∃z,z=(bif decide (cmpQ x 0 > 0)&&decide (cmpQ t s.2 < 0) then t else s.2):=⟨_,rfl⟩
     have el:decide (cmpQ (rdR (ratV t)) (rdR (ratV s.1)) > 0)=decide (cmpQ t s.1 > 0):=by rw [rdR_ratV,rdR_ratV]
     have eh:decide (cmpQ (rdR (ratV t)) (rdR (ratV s.2)) < 0)=decide (cmpQ t s.2 < 0):=by rw [rdR_ratV,rdR_ratV]
     have l1:decide (cmpQ y 0 > 0)=true→decide (cmpQ (rdR (ratV t)) (rdR (ratV s.1)) > 0)=true→t=lw:=fun h h'=>by rw [el] at h';rw [hlw,h,h'];rfl
     have l2:decide (cmpQ (rdR (ratV t)) (rdR (ratV s.1)) > 0)=false→s.1=lw:=fun h=>by rw [el] at h;rw [hlw,h,Bool.and_false];rfl
     have l3:decide (cmpQ y 0 > 0) = !true→s.1=lw:=fun h=>by rw [hlw,h];rfl
     have g1:decide (cmpQ x 0 > 0)=true→decide (cmpQ (rdR (ratV t)) (rdR (ratV s.2)) < 0)=true→t=hgx:=fun h h'=>by rw [eh] at h';rw [hhg,h,h'];rfl
     have g2:decide (cmpQ (rdR (ratV t)) (rdR (ratV s.2)) < 0)=false→s.2=hgx:=fun h=>by rw [eh] at h;rw [hhg,h,Bool.and_false];rfl
     have g3:decide (cmpQ x 0 > 0) = !true→s.2=hgx:=fun h=>by rw [hhg,h];rfl
     have qw:QB 300000 lw:=by
      rw [hlw]
      cases (decide (cmpQ y 0 > 0)&&decide (cmpQ t s.1 > 0))
      ·exact hq1
      ·exact qt
     have qg:QB 300000 hgx:=by
      rw [hhg]
      cases (decide (cmpQ x 0 > 0)&&decide (cmpQ t s.2 < 0))
      ·exact hq2
      ·exact qt
     have hpf2:partF n p a b (n - (k+1)) (k+1) (lw,hgx)=partF n p a b n 0 (mkRat 0 1,mkRat 1 1):=by
      rw [←hpf,hstep]
      unfold stepQ
      rw [h9',hn12,←ht,←hlw,←hhg]
      rfl
     with_unfolding_all refine⟨Unit,fun _=>True,fun _=>stOf [(3,.ptr 0 0 0 0),(4,.ptr 1 1 0 0),(5,.ptr 2 2 0 0),(6,.ptr 3 3 0 0),(7,.ptr 4 4 0 0),(8,.ptr 5 5 0 0),(9,.ptr 6 6 0 0),(14,.val (.bool (decide (cmpQ x 0 > 0)))),(15,.val (.bool (decide (cmpQ y 0 > 0)))),(16,.ptr 7 7 0 0)] [⟨117,12,0,true,false,1,fun _=>[.val (.bool a.x.s),.val (.string a.x.b),.val (.string a.x.c),.val (.bool a.y.s),.val (.string a.y.b),.val (.string a.y.c),.val (.bool b.x.s),.val (.string b.x.b),.val (.string b.x.c),.val (.bool b.y.s),.val (.string b.y.b),.val (.string b.y.c)]⟩,boxR false ⟨#[]⟩ ⟨#[]⟩ 1,boxR false ⟨#[]⟩ ⟨#[]⟩ 2,⟨4,1,3,true,false,1,fun _=>[.val (.bool false)]⟩,⟨38,1,4,true,false,1,fun _=>[.val (.int .i64 0)]⟩,boxQ lw 5,boxQ s.2 6,boxQ t 7] 8 [[(3,.ptr 0 0 0 0),(4,.ptr 1 1 0 0),(5,.ptr 2 2 0 0),(6,.ptr 3 3 0 0),(7,.ptr 4 4 0 0),(8,.ptr 5 5 0 0),(9,.ptr 6 6 0 0)]],?_,fun _ _=>?_⟩
     ·with_unfolding_all exact⟨fun h1=>⟨⟨rt,r1⟩,fun h2=>⟨(),[some 0,some 1,some 2,some 3,some 4,some 5,some 6,some 7],trivial,Weak.of (by simp) ⟨⟨lt_ok rfl,rfl,rfl,rfl,rfl,rfl,⟨rfl,rfl⟩,⟨rfl,rfl⟩,⟨rfl,rfl⟩,⟨rfl,rfl⟩,⟨rfl,rfl⟩,⟨rfl,rfl⟩,⟨rfl,rfl⟩,⟨rfl,rfl⟩,⟨rfl,rfl⟩,⟨rfl,rfl⟩,⟨rfl,rfl⟩,⟨rfl,rfl⟩,trivial⟩,⟨lt_ok rfl,rfl,rfl,rfl,rfl,rfl,⟨rfl,rfl⟩,⟨rfl,rfl⟩,⟨rfl,rfl⟩,trivial⟩,⟨lt_ok rfl,rfl,rfl,rfl,rfl,rfl,⟨rfl,rfl⟩,⟨rfl,rfl⟩,⟨rfl,rfl⟩,trivial⟩,⟨lt_ok rfl,rfl,rfl,rfl,rfl,rfl,⟨rfl,rfl⟩,trivial⟩,⟨lt_ok rfl,rfl,rfl,rfl,rfl,rfl,⟨rfl,rfl⟩,trivial⟩,⟨lt_ok rfl,rfl,rfl,rfl,rfl,rfl,⟨congrArg (fun q:Rat=>PV.val (.bool (rsQ q).s)) (l1 h1 h2),rfl⟩,⟨congrArg (fun q:Rat=>PV.val (.string (rsQ q).b)) (l1 h1 h2),rfl⟩,⟨congrArg (fun q:Rat=>PV.val (.string (rsQ q).c)) (l1 h1 h2),rfl⟩,trivial⟩,⟨lt_ok rfl,rfl,rfl,rfl,rfl,rfl,⟨rfl,rfl⟩,⟨rfl,rfl⟩,⟨rfl,rfl⟩,trivial⟩,⟨lt_ok rfl,rfl,rfl,rfl,rfl,rfl,⟨rfl,rfl⟩,⟨rfl,rfl⟩,⟨rfl,rfl⟩,trivial⟩,trivial⟩ ⟨⟨rfl,rfl,rfl,lt_ok rfl,_,rfl⟩,⟨rfl,rfl,rfl,lt_ok rfl,_,rfl⟩,⟨rfl,rfl,rfl,lt_ok rfl,_,rfl⟩,⟨rfl,rfl,rfl,lt_ok rfl,_,rfl⟩,⟨rfl,rfl,rfl,lt_ok rfl,_,rfl⟩,⟨rfl,rfl,rfl,lt_ok rfl,_,rfl⟩,⟨rfl,rfl,rfl,lt_ok rfl,_,rfl⟩,rfl,rfl,⟨rfl,rfl,rfl,lt_ok rfl,_,rfl⟩,trivial⟩ ⟨⟨⟨rfl,rfl,rfl,lt_ok rfl,_,rfl⟩,⟨rfl,rfl,rfl,lt_ok rfl,_,rfl⟩,⟨rfl,rfl,rfl,lt_ok rfl,_,rfl⟩,⟨rfl,rfl,rfl,lt_ok rfl,_,rfl⟩,⟨rfl,rfl,rfl,lt_ok rfl,_,rfl⟩,⟨rfl,rfl,rfl,lt_ok rfl,_,rfl⟩,⟨rfl,rfl,rfl,lt_ok rfl,_,rfl⟩,trivial⟩,trivial⟩⟩,fun h2=>⟨(),[some 0,some 1,some 2,some 3,some 4,some 5,some 6,some 7],trivial,Weak.of (by simp) ⟨⟨lt_ok rfl,rfl,rfl,rfl,rfl,rfl,⟨rfl,rfl⟩,⟨rfl,rfl⟩,⟨rfl,rfl⟩,⟨rfl,rfl⟩,⟨rfl,rfl⟩,⟨rfl,rfl⟩,⟨rfl,rfl⟩,⟨rfl,rfl⟩,⟨rfl,rfl⟩,⟨rfl,rfl⟩,⟨rfl,rfl⟩,⟨rfl,rfl⟩,trivial⟩,⟨lt_ok rfl,rfl,rfl,rfl,rfl,rfl,⟨rfl,rfl⟩,⟨rfl,rfl⟩,⟨rfl,rfl⟩,trivial⟩,⟨lt_ok rfl,rfl,rfl,rfl,rfl,rfl,⟨rfl,rfl⟩,⟨rfl,rfl⟩,⟨rfl,rfl⟩,trivial⟩,⟨lt_ok rfl,rfl,rfl,rfl,rfl,rfl,⟨rfl,rfl⟩,trivial⟩,⟨lt_ok rfl,rfl,rfl,rfl,rfl,rfl,⟨rfl,rfl⟩,trivial⟩,⟨lt_ok rfl,rfl,rfl,rfl,rfl,rfl,⟨congrArg (fun q:Rat=>PV.val (.bool (rsQ q).s)) (l2 h2),rfl⟩,⟨congrArg (fun q:Rat=>PV.val (.string (rsQ q).b)) (l2 h2),rfl⟩,⟨congrArg (fun q:Rat=>PV.val (.string (rsQ q).c)) (l2 h2),rfl⟩,trivial⟩,⟨lt_ok rfl,rfl,rfl,rfl,rfl,rfl,⟨rfl,rfl⟩,⟨rfl,rfl⟩,⟨rfl,rfl⟩,trivial⟩,⟨lt_ok rfl,rfl,rfl,rfl,rfl,rfl,⟨rfl,rfl⟩,⟨rfl,rfl⟩,⟨rfl,rfl⟩,trivial⟩,trivial⟩ ⟨⟨rfl,rfl,rfl,lt_ok rfl,_,rfl⟩,⟨rfl,rfl,rfl,lt_ok rfl,_,rfl⟩,⟨rfl,rfl,rfl,lt_ok rfl,_,rfl⟩,⟨rfl,rfl,rfl,lt_ok rfl,_,rfl⟩,⟨rfl,rfl,rfl,lt_ok rfl,_,rfl⟩,⟨rfl,rfl,rfl,lt_ok rfl,_,rfl⟩,⟨rfl,rfl,rfl,lt_ok rfl,_,rfl⟩,rfl,rfl,⟨rfl,rfl,rfl,lt_ok rfl,_,rfl⟩,trivial⟩ ⟨⟨⟨rfl,rfl,rfl,lt_ok rfl,_,rfl⟩,⟨rfl,rfl,rfl,lt_ok rfl,_,rfl⟩,⟨rfl,rfl,rfl,lt_ok rfl,_,rfl⟩,⟨rfl,rfl,rfl,lt_ok rfl,_,rfl⟩,⟨rfl,rfl,rfl,lt_ok rfl,_,rfl⟩,⟨rfl,rfl,rfl,lt_ok rfl,_,rfl⟩,⟨rfl,rfl,rfl,lt_ok rfl,_,rfl⟩,trivial⟩,trivial⟩⟩⟩,fun h1=>⟨fun h2=>(nomatch h2),fun h2=>⟨(),[some 0,some 1,some 2,some 3,some 4,some 5,some 6,some 7],trivial,Weak.of (by simp) ⟨⟨lt_ok rfl,rfl,rfl,rfl,rfl,rfl,⟨rfl,rfl⟩,⟨rfl,rfl⟩,⟨rfl,rfl⟩,⟨rfl,rfl⟩,⟨rfl,rfl⟩,⟨rfl,rfl⟩,⟨rfl,rfl⟩,⟨rfl,rfl⟩,⟨rfl,rfl⟩,⟨rfl,rfl⟩,⟨rfl,rfl⟩,⟨rfl,rfl⟩,trivial⟩,⟨lt_ok rfl,rfl,rfl,rfl,rfl,rfl,⟨rfl,rfl⟩,⟨rfl,rfl⟩,⟨rfl,rfl⟩,trivial⟩,⟨lt_ok rfl,rfl,rfl,rfl,rfl,rfl,⟨rfl,rfl⟩,⟨rfl,rfl⟩,⟨rfl,rfl⟩,trivial⟩,⟨lt_ok rfl,rfl,rfl,rfl,rfl,rfl,⟨rfl,rfl⟩,trivial⟩,⟨lt_ok rfl,rfl,rfl,rfl,rfl,rfl,⟨rfl,rfl⟩,trivial⟩,⟨lt_ok rfl,rfl,rfl,rfl,rfl,rfl,⟨congrArg (fun q:Rat=>PV.val (.bool (rsQ q).s)) (l3 h1),rfl⟩,⟨congrArg (fun q:Rat=>PV.val (.string (rsQ q).b)) (l3 h1),rfl⟩,⟨congrArg (fun q:Rat=>PV.val (.string (rsQ q).c)) (l3 h1),rfl⟩,trivial⟩,⟨lt_ok rfl,rfl,rfl,rfl,rfl,rfl,⟨rfl,rfl⟩,⟨rfl,rfl⟩,⟨rfl,rfl⟩,trivial⟩,⟨lt_ok rfl,rfl,rfl,rfl,rfl,rfl,⟨rfl,rfl⟩,⟨rfl,rfl⟩,⟨rfl,rfl⟩,trivial⟩,trivial⟩ ⟨⟨rfl,rfl,rfl,lt_ok rfl,_,rfl⟩,⟨rfl,rfl,rfl,lt_ok rfl,_,rfl⟩,⟨rfl,rfl,rfl,lt_ok rfl,_,rfl⟩,⟨rfl,rfl,rfl,lt_ok rfl,_,rfl⟩,⟨rfl,rfl,rfl,lt_ok rfl,_,rfl⟩,⟨rfl,rfl,rfl,lt_ok rfl,_,rfl⟩,⟨rfl,rfl,rfl,lt_ok rfl,_,rfl⟩,rfl,rfl,⟨rfl,rfl,rfl,lt_ok rfl,_,rfl⟩,trivial⟩ ⟨⟨⟨rfl,rfl,rfl,lt_ok rfl,_,rfl⟩,⟨rfl,rfl,rfl,lt_ok rfl,_,rfl⟩,⟨rfl,rfl,rfl,lt_ok rfl,_,rfl⟩,⟨rfl,rfl,rfl,lt_ok rfl,_,rfl⟩,⟨rfl,rfl,rfl,lt_ok rfl,_,rfl⟩,⟨rfl,rfl,rfl,lt_ok rfl,_,rfl⟩,⟨rfl,rfl,rfl,lt_ok rfl,_,rfl⟩,trivial⟩,trivial⟩⟩⟩⟩
     ·with_unfolding_all exact⟨fun h1=>⟨⟨rt,r2⟩,fun h2=>⟨(lw,hgx),[some 0,some 1,some 2,some 3,some 4,some 5,some 6],⟨⟨qw,qg⟩,hpf2⟩,Weak.of (by simp) ⟨⟨lt_ok rfl,rfl,rfl,rfl,rfl,rfl,⟨rfl,rfl⟩,⟨rfl,rfl⟩,⟨rfl,rfl⟩,⟨rfl,rfl⟩,⟨rfl,rfl⟩,⟨rfl,rfl⟩,⟨rfl,rfl⟩,⟨rfl,rfl⟩,⟨rfl,rfl⟩,⟨rfl,rfl⟩,⟨rfl,rfl⟩,⟨rfl,rfl⟩,trivial⟩,⟨lt_ok rfl,rfl,rfl,rfl,rfl,rfl,⟨rfl,rfl⟩,⟨rfl,rfl⟩,⟨rfl,rfl⟩,trivial⟩,⟨lt_ok rfl,rfl,rfl,rfl,rfl,rfl,⟨rfl,rfl⟩,⟨rfl,rfl⟩,⟨rfl,rfl⟩,trivial⟩,⟨lt_ok rfl,rfl,rfl,rfl,rfl,rfl,⟨rfl,rfl⟩,trivial⟩,⟨lt_ok rfl,rfl,rfl,rfl,rfl,rfl,⟨rfl,rfl⟩,trivial⟩,⟨lt_ok rfl,rfl,rfl,rfl,rfl,rfl,⟨rfl,rfl⟩,⟨rfl,rfl⟩,⟨rfl,rfl⟩,trivial⟩,⟨lt_ok rfl,rfl,rfl,rfl,rfl,rfl,⟨congrArg (fun q:Rat=>PV.val (.bool (rsQ q).s)) (g1 h1 h2),rfl⟩,⟨congrArg (fun q:Rat=>PV.val (.string (rsQ q).b)) (g1 h1 h2),rfl⟩,⟨congrArg (fun q:Rat=>PV.val (.string (rsQ q).c)) (g1 h1 h2),rfl⟩,trivial⟩,trivial⟩ ⟨⟨rfl,rfl,rfl,lt_ok rfl,_,rfl⟩,⟨rfl,rfl,rfl,lt_ok rfl,_,rfl⟩,⟨rfl,rfl,rfl,lt_ok rfl,_,rfl⟩,⟨rfl,rfl,rfl,lt_ok rfl,_,rfl⟩,⟨rfl,rfl,rfl,lt_ok rfl,_,rfl⟩,⟨rfl,rfl,rfl,lt_ok rfl,_,rfl⟩,⟨rfl,rfl,rfl,lt_ok rfl,_,rfl⟩,trivial⟩ trivial⟩,fun h2=>⟨(lw,hgx),[some 0,some 1,some 2,some 3,some 4,some 5,some 6],⟨⟨qw,qg⟩,hpf2⟩,Weak.of (by simp) ⟨⟨lt_ok rfl,rfl,rfl,rfl,rfl,rfl,⟨rfl,rfl⟩,⟨rfl,rfl⟩,⟨rfl,rfl⟩,⟨rfl,rfl⟩,⟨rfl,rfl⟩,⟨rfl,rfl⟩,⟨rfl,rfl⟩,⟨rfl,rfl⟩,⟨rfl,rfl⟩,⟨rfl,rfl⟩,⟨rfl,rfl⟩,⟨rfl,rfl⟩,trivial⟩,⟨lt_ok rfl,rfl,rfl,rfl,rfl,rfl,⟨rfl,rfl⟩,⟨rfl,rfl⟩,⟨rfl,rfl⟩,trivial⟩,⟨lt_ok rfl,rfl,rfl,rfl,rfl,rfl,⟨rfl,rfl⟩,⟨rfl,rfl⟩,⟨rfl,rfl⟩,trivial⟩,⟨lt_ok rfl,rfl,rfl,rfl,rfl,rfl,⟨rfl,rfl⟩,trivial⟩,⟨lt_ok rfl,rfl,rfl,rfl,rfl,rfl,⟨rfl,rfl⟩,trivial⟩,⟨lt_ok rfl,rfl,rfl,rfl,rfl,rfl,⟨rfl,rfl⟩,⟨rfl,rfl⟩,⟨rfl,rfl⟩,trivial⟩,⟨lt_ok rfl,rfl,rfl,rfl,rfl,rfl,⟨congrArg (fun q:Rat=>PV.val (.bool (rsQ q).s)) (g2 h2),rfl⟩,⟨congrArg (fun q:Rat=>PV.val (.string (rsQ q).b)) (g2 h2),rfl⟩,⟨congrArg (fun q:Rat=>PV.val (.string (rsQ q).c)) (g2 h2),rfl⟩,trivial⟩,trivial⟩ ⟨⟨rfl,rfl,rfl,lt_ok rfl,_,rfl⟩,⟨rfl,rfl,rfl,lt_ok rfl,_,rfl⟩,⟨rfl,rfl,rfl,lt_ok rfl,_,rfl⟩,⟨rfl,rfl,rfl,lt_ok rfl,_,rfl⟩,⟨rfl,rfl,rfl,lt_ok rfl,_,rfl⟩,⟨rfl,rfl,rfl,lt_ok rfl,_,rfl⟩,⟨rfl,rfl,rfl,lt_ok rfl,_,rfl⟩,trivial⟩ trivial⟩⟩,fun h1=>⟨fun h2=>(nomatch h2),fun h2=>⟨(lw,hgx),[some 0,some 1,some 2,some 3,some 4,some 5,some 6],⟨⟨qw,qg⟩,hpf2⟩,Weak.of (by simp) ⟨⟨lt_ok rfl,rfl,rfl,rfl,rfl,rfl,⟨rfl,rfl⟩,⟨rfl,rfl⟩,⟨rfl,rfl⟩,⟨rfl,rfl⟩,⟨rfl,rfl⟩,⟨rfl,rfl⟩,⟨rfl,rfl⟩,⟨rfl,rfl⟩,⟨rfl,rfl⟩,⟨rfl,rfl⟩,⟨rfl,rfl⟩,⟨rfl,rfl⟩,trivial⟩,⟨lt_ok rfl,rfl,rfl,rfl,rfl,rfl,⟨rfl,rfl⟩,⟨rfl,rfl⟩,⟨rfl,rfl⟩,trivial⟩,⟨lt_ok rfl,rfl,rfl,rfl,rfl,rfl,⟨rfl,rfl⟩,⟨rfl,rfl⟩,⟨rfl,rfl⟩,trivial⟩,⟨lt_ok rfl,rfl,rfl,rfl,rfl,rfl,⟨rfl,rfl⟩,trivial⟩,⟨lt_ok rfl,rfl,rfl,rfl,rfl,rfl,⟨rfl,rfl⟩,trivial⟩,⟨lt_ok rfl,rfl,rfl,rfl,rfl,rfl,⟨rfl,rfl⟩,⟨rfl,rfl⟩,⟨rfl,rfl⟩,trivial⟩,⟨lt_ok rfl,rfl,rfl,rfl,rfl,rfl,⟨congrArg (fun q:Rat=>PV.val (.bool (rsQ q).s)) (g3 h1),rfl⟩,⟨congrArg (fun q:Rat=>PV.val (.string (rsQ q).b)) (g3 h1),rfl⟩,⟨congrArg (fun q:Rat=>PV.val (.string (rsQ q).c)) (g3 h1),rfl⟩,trivial⟩,trivial⟩ ⟨⟨rfl,rfl,rfl,lt_ok rfl,_,rfl⟩,⟨rfl,rfl,rfl,lt_ok rfl,_,rfl⟩,⟨rfl,rfl,rfl,lt_ok rfl,_,rfl⟩,⟨rfl,rfl,rfl,lt_ok rfl,_,rfl⟩,⟨rfl,rfl,rfl,lt_ok rfl,_,rfl⟩,⟨rfl,rfl,rfl,lt_ok rfl,_,rfl⟩,⟨rfl,rfl,rfl,lt_ok rfl,_,rfl⟩,trivial⟩ trivial⟩⟩⟩
    ·with_unfolding_all exact⟨⟨pr3,⟨⟨pr4,⟨(),[some 0,some 1,some 2,some 3,some 4,some 5,some 6,some 9],I12,Weak.of (by simp) ⟨⟨lt_ok rfl,rfl,rfl,rfl,rfl,rfl,⟨rfl,rfl⟩,⟨rfl,rfl⟩,⟨rfl,rfl⟩,⟨rfl,rfl⟩,⟨rfl,rfl⟩,⟨rfl,rfl⟩,⟨rfl,rfl⟩,⟨rfl,rfl⟩,⟨rfl,rfl⟩,⟨rfl,rfl⟩,⟨rfl,rfl⟩,⟨rfl,rfl⟩,trivial⟩,⟨lt_ok rfl,rfl,rfl,rfl,rfl,rfl,⟨rfl,rfl⟩,⟨rfl,rfl⟩,⟨rfl,rfl⟩,trivial⟩,⟨lt_ok rfl,rfl,rfl,rfl,rfl,rfl,⟨rfl,rfl⟩,⟨rfl,rfl⟩,⟨rfl,rfl⟩,trivial⟩,⟨lt_ok rfl,rfl,rfl,rfl,rfl,rfl,⟨rfl,rfl⟩,trivial⟩,⟨lt_ok rfl,rfl,rfl,rfl,rfl,rfl,⟨rfl,rfl⟩,trivial⟩,⟨lt_ok rfl,rfl,rfl,rfl,rfl,rfl,⟨rfl,rfl⟩,⟨rfl,rfl⟩,⟨rfl,rfl⟩,trivial⟩,⟨lt_ok rfl,rfl,rfl,rfl,rfl,rfl,⟨rfl,rfl⟩,⟨rfl,rfl⟩,⟨rfl,rfl⟩,trivial⟩,⟨lt_ok rfl,rfl,rfl,rfl,rfl,rfl,⟨congrArg (fun q:Rat=>PV.val (.bool (decide (q.num < 0)))) ht1,rfl⟩,⟨congrArg (fun q:Rat=>PV.val (.string (numB q.num.natAbs))) ht1,rfl⟩,⟨congrArg (fun q:Rat=>PV.val (.string (denT q.den))) ht1,rfl⟩,trivial⟩,trivial⟩ ⟨⟨rfl,rfl,rfl,lt_ok rfl,_,rfl⟩,⟨rfl,rfl,rfl,lt_ok rfl,_,rfl⟩,⟨rfl,rfl,rfl,lt_ok rfl,_,rfl⟩,⟨rfl,rfl,rfl,lt_ok rfl,_,rfl⟩,⟨rfl,rfl,rfl,lt_ok rfl,_,rfl⟩,⟨rfl,rfl,rfl,lt_ok rfl,_,rfl⟩,⟨rfl,rfl,rfl,lt_ok rfl,_,rfl⟩,rfl,rfl,⟨rfl,rfl,rfl,lt_ok rfl,_,rfl⟩,trivial⟩ ⟨⟨⟨rfl,rfl,rfl,lt_ok rfl,_,rfl⟩,⟨rfl,rfl,rfl,lt_ok rfl,_,rfl⟩,⟨rfl,rfl,rfl,lt_ok rfl,_,rfl⟩,⟨rfl,rfl,rfl,lt_ok rfl,_,rfl⟩,⟨rfl,rfl,rfl,lt_ok rfl,_,rfl⟩,⟨rfl,rfl,rfl,lt_ok rfl,_,rfl⟩,⟨rfl,rfl,rfl,lt_ok rfl,_,rfl⟩,trivial⟩,trivial⟩⟩⟩,⟨pr4,⟨(),[some 0,some 1,some 2,some 3,some 4,some 5,some 6,some 9],I12,Weak.of (by simp) ⟨⟨lt_ok rfl,rfl,rfl,rfl,rfl,rfl,⟨rfl,rfl⟩,⟨rfl,rfl⟩,⟨rfl,rfl⟩,⟨rfl,rfl⟩,⟨rfl,rfl⟩,⟨rfl,rfl⟩,⟨rfl,rfl⟩,⟨rfl,rfl⟩,⟨rfl,rfl⟩,⟨rfl,rfl⟩,⟨rfl,rfl⟩,⟨rfl,rfl⟩,trivial⟩,⟨lt_ok rfl,rfl,rfl,rfl,rfl,rfl,⟨rfl,rfl⟩,⟨rfl,rfl⟩,⟨rfl,rfl⟩,trivial⟩,⟨lt_ok rfl,rfl,rfl,rfl,rfl,rfl,⟨rfl,rfl⟩,⟨rfl,rfl⟩,⟨rfl,rfl⟩,trivial⟩,⟨lt_ok rfl,rfl,rfl,rfl,rfl,rfl,⟨rfl,rfl⟩,trivial⟩,⟨lt_ok rfl,rfl,rfl,rfl,rfl,rfl,⟨rfl,rfl⟩,trivial⟩,⟨lt_ok rfl,rfl,rfl,rfl,rfl,rfl,⟨rfl,rfl⟩,⟨rfl,rfl⟩,⟨rfl,rfl⟩,trivial⟩,⟨lt_ok rfl,rfl,rfl,rfl,rfl,rfl,⟨rfl,rfl⟩,⟨rfl,rfl⟩,⟨rfl,rfl⟩,trivial⟩,⟨lt_ok rfl,rfl,rfl,rfl,rfl,rfl,⟨congrArg (fun q:Rat=>PV.val (.bool (decide (q.num < 0)))) ht1,rfl⟩,⟨congrArg (fun q:Rat=>PV.val (.string (numB q.num.natAbs))) ht1,rfl⟩,⟨congrArg (fun q:Rat=>PV.val (.string (denT q.den))) ht1,rfl⟩,trivial⟩,trivial⟩ ⟨⟨rfl,rfl,rfl,lt_ok rfl,_,rfl⟩,⟨rfl,rfl,rfl,lt_ok rfl,_,rfl⟩,⟨rfl,rfl,rfl,lt_ok rfl,_,rfl⟩,⟨rfl,rfl,rfl,lt_ok rfl,_,rfl⟩,⟨rfl,rfl,rfl,lt_ok rfl,_,rfl⟩,⟨rfl,rfl,rfl,lt_ok rfl,_,rfl⟩,⟨rfl,rfl,rfl,lt_ok rfl,_,rfl⟩,rfl,rfl,⟨rfl,rfl,rfl,lt_ok rfl,_,rfl⟩,trivial⟩ ⟨⟨⟨rfl,rfl,rfl,lt_ok rfl,_,rfl⟩,⟨rfl,rfl,rfl,lt_ok rfl,_,rfl⟩,⟨rfl,rfl,rfl,lt_ok rfl,_,rfl⟩,⟨rfl,rfl,rfl,lt_ok rfl,_,rfl⟩,⟨rfl,rfl,rfl,lt_ok rfl,_,rfl⟩,⟨rfl,rfl,rfl,lt_ok rfl,_,rfl⟩,⟨rfl,rfl,rfl,lt_ok rfl,_,rfl⟩,trivial⟩,trivial⟩⟩⟩⟩⟩,⟨pr3,⟨pr4,⟨(),[some 0,some 1,some 2,some 3,some 4,some 5,some 6,some 9],I12,Weak.of (by simp) ⟨⟨lt_ok rfl,rfl,rfl,rfl,rfl,rfl,⟨rfl,rfl⟩,⟨rfl,rfl⟩,⟨rfl,rfl⟩,⟨rfl,rfl⟩,⟨rfl,rfl⟩,⟨rfl,rfl⟩,⟨rfl,rfl⟩,⟨rfl,rfl⟩,⟨rfl,rfl⟩,⟨rfl,rfl⟩,⟨rfl,rfl⟩,⟨rfl,rfl⟩,trivial⟩,⟨lt_ok rfl,rfl,rfl,rfl,rfl,rfl,⟨rfl,rfl⟩,⟨rfl,rfl⟩,⟨rfl,rfl⟩,trivial⟩,⟨lt_ok rfl,rfl,rfl,rfl,rfl,rfl,⟨rfl,rfl⟩,⟨rfl,rfl⟩,⟨rfl,rfl⟩,trivial⟩,⟨lt_ok rfl,rfl,rfl,rfl,rfl,rfl,⟨rfl,rfl⟩,trivial⟩,⟨lt_ok rfl,rfl,rfl,rfl,rfl,rfl,⟨rfl,rfl⟩,trivial⟩,⟨lt_ok rfl,rfl,rfl,rfl,rfl,rfl,⟨rfl,rfl⟩,⟨rfl,rfl⟩,⟨rfl,rfl⟩,trivial⟩,⟨lt_ok rfl,rfl,rfl,rfl,rfl,rfl,⟨rfl,rfl⟩,⟨rfl,rfl⟩,⟨rfl,rfl⟩,trivial⟩,⟨lt_ok rfl,rfl,rfl,rfl,rfl,rfl,⟨congrArg (fun q:Rat=>PV.val (.bool (decide (q.num < 0)))) ht1,rfl⟩,⟨congrArg (fun q:Rat=>PV.val (.string (numB q.num.natAbs))) ht1,rfl⟩,⟨congrArg (fun q:Rat=>PV.val (.string (denT q.den))) ht1,rfl⟩,trivial⟩,trivial⟩ ⟨⟨rfl,rfl,rfl,lt_ok rfl,_,rfl⟩,⟨rfl,rfl,rfl,lt_ok rfl,_,rfl⟩,⟨rfl,rfl,rfl,lt_ok rfl,_,rfl⟩,⟨rfl,rfl,rfl,lt_ok rfl,_,rfl⟩,⟨rfl,rfl,rfl,lt_ok rfl,_,rfl⟩,⟨rfl,rfl,rfl,lt_ok rfl,_,rfl⟩,⟨rfl,rfl,rfl,lt_ok rfl,_,rfl⟩,rfl,rfl,⟨rfl,rfl,rfl,lt_ok rfl,_,rfl⟩,trivial⟩ ⟨⟨⟨rfl,rfl,rfl,lt_ok rfl,_,rfl⟩,⟨rfl,rfl,rfl,lt_ok rfl,_,rfl⟩,⟨rfl,rfl,rfl,lt_ok rfl,_,rfl⟩,⟨rfl,rfl,rfl,lt_ok rfl,_,rfl⟩,⟨rfl,rfl,rfl,lt_ok rfl,_,rfl⟩,⟨rfl,rfl,rfl,lt_ok rfl,_,rfl⟩,⟨rfl,rfl,rfl,lt_ok rfl,_,rfl⟩,trivial⟩,trivial⟩⟩⟩⟩⟩
    ·have hn12:(decide (cmpQ x 0 > 0)&&decide (cmpQ y 0 > 0))=false:=hn12
     have rt:isRk 4294967296 (ratV t):=qt.rk (by decide)
     have r1:isRk 4294967296 (ratV s.1):=hq1.rk (by decide)
     have r2:isRk 4294967296 (ratV s.2):=hq2.rk (by decide)
     obtain⟨lw,hlw⟩:∃z,z=(bif decide (cmpQ y 0 > 0)&&decide (cmpQ t s.1 > 0) then t else s.1):=⟨_,rfl⟩
     obtain⟨hgx,hhg⟩:∃z,z=(bif decide (cmpQ x 0 > 0)&&decide (cmpQ t s.2 < 0) then t else s.2):=⟨_,rfl⟩
     have el:decide (cmpQ (rdR (ratV t)) (rdR (ratV s.1)) > 0)=decide (cmpQ t s.1 > 0):=by rw [rdR_ratV,rdR_ratV]
     have eh:decide (cmpQ (rdR (ratV t)) (rdR (ratV s.2)) < 0)=decide (cmpQ t s.2 < 0):=by rw [rdR_ratV,rdR_ratV]
     have l1:decide (cmpQ y 0 > 0)=true→decide (cmpQ (rdR (ratV t)) (rdR (ratV s.1)) > 0)=true→t=lw:=fun h h'=>by rw [el] at h';rw [hlw,h,h'];rfl
     have l2:decide (cmpQ (rdR (ratV t)) (rdR (ratV s.1)) > 0)=false→s.1=lw:=fun h=>by rw [el] at h;rw [hlw,h,Bool.and_false];rfl
     have l3:decide (cmpQ y 0 > 0) = !true→s.1=lw:=fun h=>by rw [hlw,h];rfl
     have g1:decide (cmpQ x 0 > 0)=true→decide (cmpQ (rdR (ratV t)) (rdR (ratV s.2)) < 0)=true→t=hgx:=fun h h'=>by rw [eh] at h';rw [hhg,h,h'];rfl
     have g2:decide (cmpQ (rdR (ratV t)) (rdR (ratV s.2)) < 0)=false→s.2=hgx:=fun h=>by rw [eh] at h;rw [hhg,h,Bool.and_false];rfl
     have g3:decide (cmpQ x 0 > 0) = !true→s.2=hgx:=fun h=>by rw [hhg,h];rfl
     have qw:QB 300000 lw:=by
      rw [hlw]
      cases (decide (cmpQ y 0 > 0)&&decide (cmpQ t s.1 > 0))
      ·exact hq1
      ·exact qt
     have qg:QB 300000 hgx:=by
      rw [hhg]
      cases (decide (cmpQ x 0 > 0)&&decide (cmpQ t s.2 < 0))
      ·exact hq2
      ·exact qt
     have hpf2:partF n p a b (n - (k+1)) (k+1) (lw,hgx)=partF n p a b n 0 (mkRat 0 1,mkRat 1 1):=by
      rw [←hpf,hstep]
      unfold stepQ
      rw [h9',hn12,←ht,←hlw,←hhg]
      rfl
     with_unfolding_all refine⟨Unit,fun _=>True,fun _=>stOf [(3,.ptr 0 0 0 0),(4,.ptr 1 1 0 0),(5,.ptr 2 2 0 0),(6,.ptr 3 3 0 0),(7,.ptr 4 4 0 0),(8,.ptr 5 5 0 0),(9,.ptr 6 6 0 0),(14,.val (.bool (decide (cmpQ x 0 > 0)))),(15,.val (.bool (decide (cmpQ y 0 > 0)))),(16,.ptr 7 7 0 0)] [⟨117,12,0,true,false,1,fun _=>[.val (.bool a.x.s),.val (.string a.x.b),.val (.string a.x.c),.val (.bool a.y.s),.val (.string a.y.b),.val (.string a.y.c),.val (.bool b.x.s),.val (.string b.x.b),.val (.string b.x.c),.val (.bool b.y.s),.val (.string b.y.b),.val (.string b.y.c)]⟩,boxR false ⟨#[]⟩ ⟨#[]⟩ 1,boxR false ⟨#[]⟩ ⟨#[]⟩ 2,⟨4,1,3,true,false,1,fun _=>[.val (.bool false)]⟩,⟨38,1,4,true,false,1,fun _=>[.val (.int .i64 0)]⟩,boxQ lw 5,boxQ s.2 6,boxQ t 7] 8 [[(3,.ptr 0 0 0 0),(4,.ptr 1 1 0 0),(5,.ptr 2 2 0 0),(6,.ptr 3 3 0 0),(7,.ptr 4 4 0 0),(8,.ptr 5 5 0 0),(9,.ptr 6 6 0 0)]],?_,fun _ _=>?_⟩
     ·with_unfolding_all exact⟨fun h1=>⟨⟨rt,r1⟩,fun h2=>⟨(),[some 0,some 1,some 2,some 3,some 4,some 5,some 6,some 7],trivial,Weak.of (by simp) ⟨⟨lt_ok rfl,rfl,rfl,rfl,rfl,rfl,⟨rfl,rfl⟩,⟨rfl,rfl⟩,⟨rfl,rfl⟩,⟨rfl,rfl⟩,⟨rfl,rfl⟩,⟨rfl,rfl⟩,⟨rfl,rfl⟩,⟨rfl,rfl⟩,⟨rfl,rfl⟩,⟨rfl,rfl⟩,⟨rfl,rfl⟩,⟨rfl,rfl⟩,trivial⟩,⟨lt_ok rfl,rfl,rfl,rfl,rfl,rfl,⟨rfl,rfl⟩,⟨rfl,rfl⟩,⟨rfl,rfl⟩,trivial⟩,⟨lt_ok rfl,rfl,rfl,rfl,rfl,rfl,⟨rfl,rfl⟩,⟨rfl,rfl⟩,⟨rfl,rfl⟩,trivial⟩,⟨lt_ok rfl,rfl,rfl,rfl,rfl,rfl,⟨rfl,rfl⟩,trivial⟩,⟨lt_ok rfl,rfl,rfl,rfl,rfl,rfl,⟨rfl,rfl⟩,trivial⟩,⟨lt_ok rfl,rfl,rfl,rfl,rfl,rfl,⟨congrArg (fun q:Rat=>PV.val (.bool (rsQ q).s)) (l1 h1 h2),rfl⟩,⟨congrArg (fun q:Rat=>PV.val (.string (rsQ q).b)) (l1 h1 h2),rfl⟩,⟨congrArg (fun q:Rat=>PV.val (.string (rsQ q).c)) (l1 h1 h2),rfl⟩,trivial⟩,⟨lt_ok rfl,rfl,rfl,rfl,rfl,rfl,⟨rfl,rfl⟩,⟨rfl,rfl⟩,⟨rfl,rfl⟩,trivial⟩,⟨lt_ok rfl,rfl,rfl,rfl,rfl,rfl,⟨rfl,rfl⟩,⟨rfl,rfl⟩,⟨rfl,rfl⟩,trivial⟩,trivial⟩ ⟨⟨rfl,rfl,rfl,lt_ok rfl,_,rfl⟩,⟨rfl,rfl,rfl,lt_ok rfl,_,rfl⟩,⟨rfl,rfl,rfl,lt_ok rfl,_,rfl⟩,⟨rfl,rfl,rfl,lt_ok rfl,_,rfl⟩,⟨rfl,rfl,rfl,lt_ok rfl,_,rfl⟩,⟨rfl,rfl,rfl,lt_ok rfl,_,rfl⟩,⟨rfl,rfl,rfl,lt_ok rfl,_,rfl⟩,rfl,rfl,⟨rfl,rfl,rfl,lt_ok rfl,_,rfl⟩,trivial⟩ ⟨⟨⟨rfl,rfl,rfl,lt_ok rfl,_,rfl⟩,⟨rfl,rfl,rfl,lt_ok rfl,_,rfl⟩,⟨rfl,rfl,rfl,lt_ok rfl,_,rfl⟩,⟨rfl,rfl,rfl,lt_ok rfl,_,rfl⟩,⟨rfl,rfl,rfl,lt_ok rfl,_,rfl⟩,⟨rfl,rfl,rfl,lt_ok rfl,_,rfl⟩,⟨rfl,rfl,rfl,lt_ok rfl,_,rfl⟩,trivial⟩,trivial⟩⟩,fun h2=>⟨(),[some 0,some 1,some 2,some 3,some 4,some 5,some 6,some 7],trivial,Weak.of (by simp) ⟨⟨lt_ok rfl,rfl,rfl,rfl,rfl,rfl,⟨rfl,rfl⟩,⟨rfl,rfl⟩,⟨rfl,rfl⟩,⟨rfl,rfl⟩,⟨rfl,rfl⟩,⟨rfl,rfl⟩,⟨rfl,rfl⟩,⟨rfl,rfl⟩,⟨rfl,rfl⟩,⟨rfl,rfl⟩,⟨rfl,rfl⟩,⟨rfl,rfl⟩,trivial⟩,⟨lt_ok rfl,rfl,rfl,rfl,rfl,rfl,⟨rfl,rfl⟩,⟨rfl,rfl⟩,⟨rfl,rfl⟩,trivial⟩,⟨lt_ok rfl,rfl,rfl,rfl,rfl,rfl,⟨rfl,rfl⟩,⟨rfl,rfl⟩,⟨rfl,rfl⟩,trivial⟩,⟨lt_ok rfl,rfl,rfl,rfl,rfl,rfl,⟨rfl,rfl⟩,trivial⟩,⟨lt_ok rfl,rfl,rfl,rfl,rfl,rfl,⟨rfl,rfl⟩,trivial⟩,⟨lt_ok rfl,rfl,rfl,rfl,rfl,rfl,⟨congrArg (fun q:Rat=>PV.val (.bool (rsQ q).s)) (l2 h2),rfl⟩,⟨congrArg (fun q:Rat=>PV.val (.string (rsQ q).b)) (l2 h2),rfl⟩,⟨congrArg (fun q:Rat=>PV.val (.string (rsQ q).c)) (l2 h2),rfl⟩,trivial⟩,⟨lt_ok rfl,rfl,rfl,rfl,rfl,rfl,⟨rfl,rfl⟩,⟨rfl,rfl⟩,⟨rfl,rfl⟩,trivial⟩,⟨lt_ok rfl,rfl,rfl,rfl,rfl,rfl,⟨rfl,rfl⟩,⟨rfl,rfl⟩,⟨rfl,rfl⟩,trivial⟩,trivial⟩ ⟨⟨rfl,rfl,rfl,lt_ok rfl,_,rfl⟩,⟨rfl,rfl,rfl,lt_ok rfl,_,rfl⟩,⟨rfl,rfl,rfl,lt_ok rfl,_,rfl⟩,⟨rfl,rfl,rfl,lt_ok rfl,_,rfl⟩,⟨rfl,rfl,rfl,lt_ok rfl,_,rfl⟩,⟨rfl,rfl,rfl,lt_ok rfl,_,rfl⟩,⟨rfl,rfl,rfl,lt_ok rfl,_,rfl⟩,rfl,rfl,⟨rfl,rfl,rfl,lt_ok rfl,_,rfl⟩,trivial⟩ ⟨⟨⟨rfl,rfl,rfl,lt_ok rfl,_,rfl⟩,⟨rfl,rfl,rfl,lt_ok rfl,_,rfl⟩,⟨rfl,rfl,rfl,lt_ok rfl,_,rfl⟩,⟨rfl,rfl,rfl,lt_ok rfl,_,rfl⟩,⟨rfl,rfl,rfl,lt_ok rfl,_,rfl⟩,⟨rfl,rfl,rfl,lt_ok rfl,_,rfl⟩,⟨rfl,rfl,rfl,lt_ok rfl,_,rfl⟩,trivial⟩,trivial⟩⟩⟩,fun h1=>⟨fun h2=>(nomatch h2),fun h2=>⟨(),[some 0,some 1,some 2,some 3,some 4,some 5,some 6,some 7],trivial,Weak.of (by simp) ⟨⟨lt_ok rfl,rfl,rfl,rfl,rfl,rfl,⟨rfl,rfl⟩,⟨rfl,rfl⟩,⟨rfl,rfl⟩,⟨rfl,rfl⟩,⟨rfl,rfl⟩,⟨rfl,rfl⟩,⟨rfl,rfl⟩,⟨rfl,rfl⟩,⟨rfl,rfl⟩,⟨rfl,rfl⟩,⟨rfl,rfl⟩,⟨rfl,rfl⟩,trivial⟩,⟨lt_ok rfl,rfl,rfl,rfl,rfl,rfl,⟨rfl,rfl⟩,⟨rfl,rfl⟩,⟨rfl,rfl⟩,trivial⟩,⟨lt_ok rfl,rfl,rfl,rfl,rfl,rfl,⟨rfl,rfl⟩,⟨rfl,rfl⟩,⟨rfl,rfl⟩,trivial⟩,⟨lt_ok rfl,rfl,rfl,rfl,rfl,rfl,⟨rfl,rfl⟩,trivial⟩,⟨lt_ok rfl,rfl,rfl,rfl,rfl,rfl,⟨rfl,rfl⟩,trivial⟩,⟨lt_ok rfl,rfl,rfl,rfl,rfl,rfl,⟨congrArg (fun q:Rat=>PV.val (.bool (rsQ q).s)) (l3 h1),rfl⟩,⟨congrArg (fun q:Rat=>PV.val (.string (rsQ q).b)) (l3 h1),rfl⟩,⟨congrArg (fun q:Rat=>PV.val (.string (rsQ q).c)) (l3 h1),rfl⟩,trivial⟩,⟨lt_ok rfl,rfl,rfl,rfl,rfl,rfl,⟨rfl,rfl⟩,⟨rfl,rfl⟩,⟨rfl,rfl⟩,trivial⟩,⟨lt_ok rfl,rfl,rfl,rfl,rfl,rfl,⟨rfl,rfl⟩,⟨rfl,rfl⟩,⟨rfl,rfl⟩,trivial⟩,trivial⟩ ⟨⟨rfl,rfl,rfl,lt_ok rfl,_,rfl⟩,⟨rfl,rfl,rfl,lt_ok rfl,_,rfl⟩,⟨rfl,rfl,rfl,lt_ok rfl,_,rfl⟩,⟨rfl,rfl,rfl,lt_ok rfl,_,rfl⟩,⟨rfl,rfl,rfl,lt_ok rfl,_,rfl⟩,⟨rfl,rfl,rfl,lt_ok rfl,_,rfl⟩,⟨rfl,rfl,rfl,lt_ok rfl,_,rfl⟩,rfl,rfl,⟨rfl,rfl,rfl,lt_ok rfl,_,rfl⟩,trivial⟩ ⟨⟨⟨rfl,rfl,rfl,lt_ok rfl,_,rfl⟩,⟨rfl,rfl,rfl,lt_ok rfl,_,rfl⟩,⟨rfl,rfl,rfl,lt_ok rfl,_,rfl⟩,⟨rfl,rfl,rfl,lt_ok rfl,_,rfl⟩,⟨rfl,rfl,rfl,lt_ok rfl,_,rfl⟩,⟨rfl,rfl,rfl,lt_ok rfl,_,rfl⟩,⟨rfl,rfl,rfl,lt_ok rfl,_,rfl⟩,trivial⟩,trivial⟩⟩⟩⟩
     ·with_unfolding_all exact⟨fun h1=>⟨⟨rt,r2⟩,fun h2=>⟨(lw,hgx),[some 0,some 1,some 2,some 3,some 4,some 5,some 6],⟨⟨qw,qg⟩,hpf2⟩,Weak.of (by simp) ⟨⟨lt_ok rfl,rfl,rfl,rfl,rfl,rfl,⟨rfl,rfl⟩,⟨rfl,rfl⟩,⟨rfl,rfl⟩,⟨rfl,rfl⟩,⟨rfl,rfl⟩,⟨rfl,rfl⟩,⟨rfl,rfl⟩,⟨rfl,rfl⟩,⟨rfl,rfl⟩,⟨rfl,rfl⟩,⟨rfl,rfl⟩,⟨rfl,rfl⟩,trivial⟩,⟨lt_ok rfl,rfl,rfl,rfl,rfl,rfl,⟨rfl,rfl⟩,⟨rfl,rfl⟩,⟨rfl,rfl⟩,trivial⟩,⟨lt_ok rfl,rfl,rfl,rfl,rfl,rfl,⟨rfl,rfl⟩,⟨rfl,rfl⟩,⟨rfl,rfl⟩,trivial⟩,⟨lt_ok rfl,rfl,rfl,rfl,rfl,rfl,⟨rfl,rfl⟩,trivial⟩,⟨lt_ok rfl,rfl,rfl,rfl,rfl,rfl,⟨rfl,rfl⟩,trivial⟩,⟨lt_ok rfl,rfl,rfl,rfl,rfl,rfl,⟨rfl,rfl⟩,⟨rfl,rfl⟩,⟨rfl,rfl⟩,trivial⟩,⟨lt_ok rfl,rfl,rfl,rfl,rfl,rfl,⟨congrArg (fun q:Rat=>PV.val (.bool (rsQ q).s)) (g1 h1 h2),rfl⟩,⟨congrArg (fun q:Rat=>PV.val (.string (rsQ q).b)) (g1 h1 h2),rfl⟩,⟨congrArg (fun q:Rat=>PV.val (.string (rsQ q).c)) (g1 h1 h2),rfl⟩,trivial⟩,trivial⟩ ⟨⟨rfl,rfl,rfl,lt_ok rfl,_,rfl⟩,⟨rfl,rfl,rfl,lt_ok rfl,_,rfl⟩,⟨rfl,rfl,rfl,lt_ok rfl,_,rfl⟩,⟨rfl,rfl,rfl,lt_ok rfl,_,rfl⟩,⟨rfl,rfl,rfl,lt_ok rfl,_,rfl⟩,⟨rfl,rfl,rfl,lt_ok rfl,_,rfl⟩,⟨rfl,rfl,rfl,lt_ok rfl,_,rfl⟩,trivial⟩ trivial⟩,fun h2=>⟨(lw,hgx),[some 0,some 1,some 2,some 3,some 4,some 5,some 6],⟨⟨qw,qg⟩,hpf2⟩,Weak.of (by simp) ⟨⟨lt_ok rfl,rfl,rfl,rfl,rfl,rfl,⟨rfl,rfl⟩,⟨rfl,rfl⟩,⟨rfl,rfl⟩,⟨rfl,rfl⟩,⟨rfl,rfl⟩,⟨rfl,rfl⟩,⟨rfl,rfl⟩,⟨rfl,rfl⟩,⟨rfl,rfl⟩,⟨rfl,rfl⟩,⟨rfl,rfl⟩,⟨rfl,rfl⟩,trivial⟩,⟨lt_ok rfl,rfl,rfl,rfl,rfl,rfl,⟨rfl,rfl⟩,⟨rfl,rfl⟩,⟨rfl,rfl⟩,trivial⟩,⟨lt_ok rfl,rfl,rfl,rfl,rfl,rfl,⟨rfl,rfl⟩,⟨rfl,rfl⟩,⟨rfl,rfl⟩,trivial⟩,⟨lt_ok rfl,rfl,rfl,rfl,rfl,rfl,⟨rfl,rfl⟩,trivial⟩,⟨lt_ok rfl,rfl,rfl,rfl,rfl,rfl,⟨rfl,rfl⟩,trivial⟩,⟨lt_ok rfl,rfl,rfl,rfl,rfl,rfl,⟨rfl,rfl⟩,⟨rfl,rfl⟩,⟨rfl,rfl⟩,trivial⟩,⟨lt_ok rfl,rfl,rfl,rfl,rfl,rfl,⟨congrArg (fun q:Rat=>PV.val (.bool (rsQ q).s)) (g2 h2),rfl⟩,⟨congrArg (fun q:Rat=>PV.val (.string (rsQ q).b)) (g2 h2),rfl⟩,⟨congrArg (fun q:Rat=>PV.val (.string (rsQ q).c)) (g2 h2),rfl⟩,trivial⟩,trivial⟩ ⟨⟨rfl,rfl,rfl,lt_ok rfl,_,rfl⟩,⟨rfl,rfl,rfl,lt_ok rfl,_,rfl⟩,⟨rfl,rfl,rfl,lt_ok rfl,_,rfl⟩,⟨rfl,rfl,rfl,lt_ok rfl,_,rfl⟩,⟨rfl,rfl,rfl,lt_ok rfl,_,rfl⟩,⟨rfl,rfl,rfl,lt_ok rfl,_,rfl⟩,⟨rfl,rfl,rfl,lt_ok rfl,_,rfl⟩,trivial⟩ trivial⟩⟩,fun h1=>⟨fun h2=>(nomatch h2),fun h2=>⟨(lw,hgx),[some 0,some 1,some 2,some 3,some 4,some 5,some 6],⟨⟨qw,qg⟩,hpf2⟩,Weak.of (by simp) ⟨⟨lt_ok rfl,rfl,rfl,rfl,rfl,rfl,⟨rfl,rfl⟩,⟨rfl,rfl⟩,⟨rfl,rfl⟩,⟨rfl,rfl⟩,⟨rfl,rfl⟩,⟨rfl,rfl⟩,⟨rfl,rfl⟩,⟨rfl,rfl⟩,⟨rfl,rfl⟩,⟨rfl,rfl⟩,⟨rfl,rfl⟩,⟨rfl,rfl⟩,trivial⟩,⟨lt_ok rfl,rfl,rfl,rfl,rfl,rfl,⟨rfl,rfl⟩,⟨rfl,rfl⟩,⟨rfl,rfl⟩,trivial⟩,⟨lt_ok rfl,rfl,rfl,rfl,rfl,rfl,⟨rfl,rfl⟩,⟨rfl,rfl⟩,⟨rfl,rfl⟩,trivial⟩,⟨lt_ok rfl,rfl,rfl,rfl,rfl,rfl,⟨rfl,rfl⟩,trivial⟩,⟨lt_ok rfl,rfl,rfl,rfl,rfl,rfl,⟨rfl,rfl⟩,trivial⟩,⟨lt_ok rfl,rfl,rfl,rfl,rfl,rfl,⟨rfl,rfl⟩,⟨rfl,rfl⟩,⟨rfl,rfl⟩,trivial⟩,⟨lt_ok rfl,rfl,rfl,rfl,rfl,rfl,⟨congrArg (fun q:Rat=>PV.val (.bool (rsQ q).s)) (g3 h1),rfl⟩,⟨congrArg (fun q:Rat=>PV.val (.string (rsQ q).b)) (g3 h1),rfl⟩,⟨congrArg (fun q:Rat=>PV.val (.string (rsQ q).c)) (g3 h1),rfl⟩,trivial⟩,trivial⟩ ⟨⟨rfl,rfl,rfl,lt_ok rfl,_,rfl⟩,⟨rfl,rfl,rfl,lt_ok rfl,_,rfl⟩,⟨rfl,rfl,rfl,lt_ok rfl,_,rfl⟩,⟨rfl,rfl,rfl,lt_ok rfl,_,rfl⟩,⟨rfl,rfl,rfl,lt_ok rfl,_,rfl⟩,⟨rfl,rfl,rfl,lt_ok rfl,_,rfl⟩,⟨rfl,rfl,rfl,lt_ok rfl,_,rfl⟩,trivial⟩ trivial⟩⟩⟩
   ·obtain⟨⟨hq1,hq2⟩,hpf⟩:(QB 300000 s.1∧QB 300000 s.2)∧partF n p a b (n - n) n s=partF n p a b n 0 (mkRat 0 1,mkRat 1 1):=hI
    have r1:isRk 4294967296 (ratV s.1):=hq1.rk (by decide)
    have r2:isRk 4294967296 (ratV s.2):=hq2.rk (by decide)
    rw [Nat.sub_self] at hpf
    have hXs:X=bif decide (cmpQ s.1 s.2≥0) then none else some s:=by
     rw [hX]
     unfold partO
     rw [←hB,hbd,←hpf]
     rfl
    have ec:decide (cmpQ (rdR (ratV s.1)) (rdR (ratV s.2))≥0)=decide (cmpQ s.1 s.2≥0):=by rw [rdR_ratV,rdR_ratV]
    have xn:decide (cmpQ (rdR (ratV s.1)) (rdR (ratV s.2))≥0)=true→X=none:=fun h=>by
     rw [ec] at h
     rw [hXs,h]
     rfl
    have xs:decide (cmpQ (rdR (ratV s.1)) (rdR (ratV s.2))≥0)=false→X=some s:=fun h=>by
     rw [ec] at h
     rw [hXs,h]
     rfl
    have sl:decide (cmpQ (rdR (ratV s.1)) (rdR (ratV s.2))≥0)=false→s.1=loO X:=fun h=>by rw [xs h];rfl
    have sh:decide (cmpQ (rdR (ratV s.1)) (rdR (ratV s.2))≥0)=false→s.2=hiO X:=fun h=>by rw [xs h];rfl
    have si:decide (cmpQ (rdR (ratV s.1)) (rdR (ratV s.2))≥0)=false→PV.val (.bool true)=PV.val (.bool X.isSome):=fun h=>by rw [xs h];rfl
    with_unfolding_all exact⟨⟨r1,r2⟩,fun h1=>⟨[some 1,some 2,some 3,some 4],stOf [(4,.ptr 0 0 0 0),(5,.ptr 1 1 0 0),(6,.ptr 2 2 0 0),(7,.ptr 3 3 0 0)] [boxQ (loO X) 0,boxQ (hiO X) 1,⟨4,1,2,true,false,1,fun _=>[.val (.bool X.isSome)]⟩,⟨38,1,3,true,false,1,fun _=>[.val (.int .i64 (bif Bd then 1 else 0))]⟩] 4 [],Weak.of (by simp) ⟨⟨lt_ok rfl,rfl,rfl,rfl,rfl,rfl,⟨(zb (xn h1)).1,rfl⟩,⟨(zb (xn h1)).2.1,rfl⟩,⟨(zb (xn h1)).2.2.1,rfl⟩,trivial⟩,⟨lt_ok rfl,rfl,rfl,rfl,rfl,rfl,⟨(zc (xn h1)).1,rfl⟩,⟨(zc (xn h1)).2.1,rfl⟩,⟨(zc (xn h1)).2.2,rfl⟩,trivial⟩,⟨lt_ok rfl,rfl,rfl,rfl,rfl,rfl,⟨(zb (xn h1)).2.2.2,rfl⟩,trivial⟩,⟨lt_ok rfl,rfl,rfl,rfl,rfl,rfl,⟨e0 hbd,rfl⟩,trivial⟩,trivial⟩ ⟨⟨rfl,rfl,rfl,lt_ok rfl,_,rfl⟩,⟨rfl,rfl,rfl,lt_ok rfl,_,rfl⟩,⟨rfl,rfl,rfl,lt_ok rfl,_,rfl⟩,⟨rfl,rfl,rfl,lt_ok rfl,_,rfl⟩,trivial⟩ trivial,rfl,rfl⟩,fun h1=>⟨⟨⟨[some 1,some 2,some 3,some 4],stOf [(4,.ptr 0 0 0 0),(5,.ptr 1 1 0 0),(6,.ptr 2 2 0 0),(7,.ptr 3 3 0 0)] [boxQ (loO X) 0,boxQ (hiO X) 1,⟨4,1,2,true,false,1,fun _=>[.val (.bool X.isSome)]⟩,⟨38,1,3,true,false,1,fun _=>[.val (.int .i64 (bif Bd then 1 else 0))]⟩] 4 [],Weak.of (by simp) ⟨⟨lt_ok rfl,rfl,rfl,rfl,rfl,rfl,⟨congrArg (fun q:Rat=>PV.val (.bool (rsQ q).s)) (sl h1),rfl⟩,⟨congrArg (fun q:Rat=>PV.val (.string (rsQ q).b)) (sl h1),rfl⟩,⟨congrArg (fun q:Rat=>PV.val (.string (rsQ q).c)) (sl h1),rfl⟩,trivial⟩,⟨lt_ok rfl,rfl,rfl,rfl,rfl,rfl,⟨congrArg (fun q:Rat=>PV.val (.bool (rsQ q).s)) (sh h1),rfl⟩,⟨congrArg (fun q:Rat=>PV.val (.string (rsQ q).b)) (sh h1),rfl⟩,⟨congrArg (fun q:Rat=>PV.val (.string (rsQ q).c)) (sh h1),rfl⟩,trivial⟩,⟨lt_ok rfl,rfl,rfl,rfl,rfl,rfl,⟨si h1,rfl⟩,trivial⟩,⟨lt_ok rfl,rfl,rfl,rfl,rfl,rfl,⟨e0 hbd,rfl⟩,trivial⟩,trivial⟩ ⟨⟨rfl,rfl,rfl,lt_ok rfl,_,rfl⟩,⟨rfl,rfl,rfl,lt_ok rfl,_,rfl⟩,⟨rfl,rfl,rfl,lt_ok rfl,_,rfl⟩,⟨rfl,rfl,rfl,lt_ok rfl,_,rfl⟩,trivial⟩ trivial,rfl,rfl⟩,⟨[some 1,some 2,some 3,some 4],stOf [(4,.ptr 0 0 0 0),(5,.ptr 1 1 0 0),(6,.ptr 2 2 0 0),(7,.ptr 3 3 0 0)] [boxQ (loO X) 0,boxQ (hiO X) 1,⟨4,1,2,true,false,1,fun _=>[.val (.bool X.isSome)]⟩,⟨38,1,3,true,false,1,fun _=>[.val (.int .i64 (bif Bd then 1 else 0))]⟩] 4 [],Weak.of (by simp) ⟨⟨lt_ok rfl,rfl,rfl,rfl,rfl,rfl,⟨congrArg (fun q:Rat=>PV.val (.bool (rsQ q).s)) (sl h1),rfl⟩,⟨congrArg (fun q:Rat=>PV.val (.string (rsQ q).b)) (sl h1),rfl⟩,⟨congrArg (fun q:Rat=>PV.val (.string (rsQ q).c)) (sl h1),rfl⟩,trivial⟩,⟨lt_ok rfl,rfl,rfl,rfl,rfl,rfl,⟨congrArg (fun q:Rat=>PV.val (.bool (rsQ q).s)) (sh h1),rfl⟩,⟨congrArg (fun q:Rat=>PV.val (.string (rsQ q).b)) (sh h1),rfl⟩,⟨congrArg (fun q:Rat=>PV.val (.string (rsQ q).c)) (sh h1),rfl⟩,trivial⟩,⟨lt_ok rfl,rfl,rfl,rfl,rfl,rfl,⟨si h1,rfl⟩,trivial⟩,⟨lt_ok rfl,rfl,rfl,rfl,rfl,rfl,⟨e0 hbd,rfl⟩,trivial⟩,trivial⟩ ⟨⟨rfl,rfl,rfl,lt_ok rfl,_,rfl⟩,⟨rfl,rfl,rfl,lt_ok rfl,_,rfl⟩,⟨rfl,rfl,rfl,lt_ok rfl,_,rfl⟩,⟨rfl,rfl,rfl,lt_ok rfl,_,rfl⟩,trivial⟩ trivial,rfl,rfl⟩⟩,⟨[some 1,some 2,some 3,some 4],stOf [(4,.ptr 0 0 0 0),(5,.ptr 1 1 0 0),(6,.ptr 2 2 0 0),(7,.ptr 3 3 0 0)] [boxQ (loO X) 0,boxQ (hiO X) 1,⟨4,1,2,true,false,1,fun _=>[.val (.bool X.isSome)]⟩,⟨38,1,3,true,false,1,fun _=>[.val (.int .i64 (bif Bd then 1 else 0))]⟩] 4 [],Weak.of (by simp) ⟨⟨lt_ok rfl,rfl,rfl,rfl,rfl,rfl,⟨congrArg (fun q:Rat=>PV.val (.bool (rsQ q).s)) (sl h1),rfl⟩,⟨congrArg (fun q:Rat=>PV.val (.string (rsQ q).b)) (sl h1),rfl⟩,⟨congrArg (fun q:Rat=>PV.val (.string (rsQ q).c)) (sl h1),rfl⟩,trivial⟩,⟨lt_ok rfl,rfl,rfl,rfl,rfl,rfl,⟨congrArg (fun q:Rat=>PV.val (.bool (rsQ q).s)) (sh h1),rfl⟩,⟨congrArg (fun q:Rat=>PV.val (.string (rsQ q).b)) (sh h1),rfl⟩,⟨congrArg (fun q:Rat=>PV.val (.string (rsQ q).c)) (sh h1),rfl⟩,trivial⟩,⟨lt_ok rfl,rfl,rfl,rfl,rfl,rfl,⟨si h1,rfl⟩,trivial⟩,⟨lt_ok rfl,rfl,rfl,rfl,rfl,rfl,⟨e0 hbd,rfl⟩,trivial⟩,trivial⟩ ⟨⟨rfl,rfl,rfl,lt_ok rfl,_,rfl⟩,⟨rfl,rfl,rfl,lt_ok rfl,_,rfl⟩,⟨rfl,rfl,rfl,lt_ok rfl,_,rfl⟩,⟨rfl,rfl,rfl,lt_ok rfl,_,rfl⟩,trivial⟩ trivial,rfl,rfl⟩⟩⟩
 ·cases e
end Go.Proofs
namespace Go.Num
open Go Go.Ex Go.Proofs
def regC (lo hi:PtS) (k:Nat) (c:Nat→List PV) (l:Nat) (o:Nat→List PV):List PV:=[.val (.bool lo.x.s),.val (.string lo.x.b),.val (.string lo.x.c),.val (.bool lo.y.s),.val (.string lo.y.b),.val (.string lo.y.c),.val (.bool hi.x.s),.val (.string hi.x.b),.val (.string hi.x.c),.val (.bool hi.y.s),.val (.string hi.y.b),.val (.string hi.y.c),.rs 1 k (fun i=>[.rs 6 (pn c i) (pg c i)]),.rs 3 l (fun i=>cellsO (ow o i))]
def gLo:List PV→PtS
 |a1::a2::a3::a4::a5::a6::_=>rdP [a1,a2,a3,a4,a5,a6]
 |_=>rdP []
def gHi:List PV→PtS
 |_::_::_::_::_::_::a1::a2::a3::a4::a5::a6::_=>rdP [a1,a2,a3,a4,a5,a6]
 |_=>rdP []
def gK:List PV→Nat
 |[_,_,_,_,_,_,_,_,_,_,_,_,.rs 1 k _,_]=>k
 |_=>0
def gC:List PV→Nat→List PV
 |[_,_,_,_,_,_,_,_,_,_,_,_,.rs 1 _ c,_]=>c
 |_=>fun _=>[]
def gL:List PV→Nat
 |[_,_,_,_,_,_,_,_,_,_,_,_,_,.rs 3 l _]=>l
 |_=>0
def gO:List PV→Nat→List PV
 |[_,_,_,_,_,_,_,_,_,_,_,_,_,.rs 3 _ o]=>o
 |_=>fun _=>[]
def isG (h:Nat→List PV):Prop:=h=fun _=>regC (gLo (h 0)) (gHi (h 0)) (gK (h 0)) (gC (h 0)) (gL (h 0)) (gO (h 0))
def sA:List PV→PtS
 |[a1,a2,a3,a4,a5,a6,_,_,_,_,_,_]=>rdP [a1,a2,a3,a4,a5,a6]
 |_=>rdP []
def sB:List PV→PtS
 |[_,_,_,_,_,_,a1,a2,a3,a4,a5,a6]=>rdP [a1,a2,a3,a4,a5,a6]
 |_=>rdP []
def isS2 (h:Nat→List PV):Prop:=h=fun _=>segC (sA (h 0)) (sB (h 0))
def oneS (i:Nat) (lo hi a b:PtS):List (Int×Rat) :=
 bif decide (cmpQ (farQ i lo hi a) 0≤0)&&decide (cmpQ (farQ i lo hi b) 0≤0) then [] else [(-((i:Int)+1),bif decide (cmpQ (farQ i lo hi a) 0≤0) then farQ i lo hi a / (farQ i lo hi a - farQ i lo hi b) else 0)]
def oneC (i:Nat) (n:Nat) (p:Nat→PtS) (a b:PtS):List (Int×Rat):=match partO n p a b with
 |none=>[]
 |some s=>[((i:Int),s.1)]
def partsP (lo hi:PtS) (n:Nat→Nat) (p:Nat→Nat→PtS) (a b:PtS):Nat→List (Int×Rat)
 |0=>[]
 |j+1=>partsP lo hi n p a b j++(if j < 4 then oneS j lo hi a b else oneC (j - 4) (n (j - 4)) (p (j - 4)) a b)
def partsL (lo hi:PtS) (k:Nat) (n:Nat→Nat) (p:Nat→Nat→PtS) (a b:PtS):List (Int×Rat):=partsP lo hi n p a b (k+4)
theorem farQ_le (i:Nat) {lo hi p:PtS} (h1:PtS.le 10000 lo) (h2:PtS.le 10000 hi) (h3:PtS.le 10000 p):QB 20003 (farQ i lo hi p):=by
 unfold farQ
 split
 ·exact(h1.X.sub h3.X).le (by decide)
 ·exact(h3.X.sub h2.X).le (by decide)
 ·exact(h1.Y.sub h3.Y).le (by decide)
 ·exact(h3.Y.sub h2.Y).le (by decide)
theorem partsP_pre {lo hi:PtS} {n:Nat→Nat} {p:Nat→Nat→PtS} {a b:PtS}:∀(d j:Nat),partsP lo hi n p a b j <+: partsP lo hi n p a b (j+d)
 |0,j=>List.prefix_refl _
 |d+1,j=>(partsP_pre d j).trans (List.prefix_append _ _)
theorem partsP_at {lo hi:PtS} {n:Nat→Nat} {p:Nat→Nat→PtS} {a b:PtS} {j k:Nat} (h:j < k) {x:Int×Rat} (hx:(if j < 4 then oneS j lo hi a b else oneC (j - 4) (n (j - 4)) (p (j - 4)) a b)=[x]) :
  (partsP lo hi n p a b k)[(partsP lo hi n p a b j).length]? = some x∧(partsP lo hi n p a b j).length < (partsP lo hi n p a b k).length∧(partsP lo hi n p a b (j+1)).length=(partsP lo hi n p a b j).length+1:=by
 obtain⟨t,ht⟩:=partsP_pre (lo:=lo) (hi:=hi) (n:=n) (p:=p) (a:=a) (b:=b) (k - (j+1)) (j+1)
 rw [show j+1+(k - (j+1))=k by omega] at ht
 have e:partsP lo hi n p a b (j+1)=partsP lo hi n p a b j++[x]:=by rw [partsP,hx]
 rw [←ht,e]
 simp
def ixL (L:List (Int×Rat)) (i:Nat):Int:=match L[i]? with
 |some q=>q.1
 |none=>0
def frL (L:List (Int×Rat)) (i:Nat):Rat:=match L[i]? with
 |some q=>q.2
 |none=>0
def pairV (L:List (Int×Rat)) (i:Nat):List PV:=[.val (.int .i64 (ixL L i)),.val (ratV (frL L i))]
end Go.Num
namespace Go.Proofs
open Go Go.Ex Go.Num
set_option maxRecDepth 100000
def c126:List PV→Option Ans
 |[.agg [.val (.bool s1),.val (.string b1),.val (.string c1),.val (.bool s2),.val (.string b2),.val (.string c2),.val (.bool s3),.val (.string b3),.val (.string c3),.val (.bool s4),.val (.string b4),.val (.string c4),.rs 1 k c,.rs 3 l o],.val v]=>some ⟨some (((∀i,i < k→c i=[.rs 6 (pn c i) (pg c i)])∧∀i,i < l→o i=cellsO (ow o i))∧∃a b,v=segV a b),.fn (.func 171) [] [.rp 14 1 (fun _=>regC (PtS.mk ⟨s1,b1,c1⟩ ⟨s2,b2,c2⟩) (PtS.mk ⟨s3,b3,c3⟩ ⟨s4,b4,c4⟩) k c l o) 0 0,.rp 12 1 (fun _=>segC (rdS v).1 (rdS v).2) 0 0],[]⟩
 |_=>none
theorem ok126:funcOk {} Tryz.f126 2=true:=by kernel_rfl
theorem f126:FnOk Tryz.prog 126 c126:=by
 refine FnOk.ofW orders (mkE_ok (l:=[]) (own:=[]) (inl:=[]) (by simp) (by simp)) Tryz.func126 {} 2 ok126 fun args r e=>?_
 unfold c126 at e
 split at e
 ·rename_i s1 b1 c1 s2 b2 c2 s3 b3 c3 s4 b4 c4 k c l o v
  cases e
  refine⟨by simp,fun hm=>?_⟩
  obtain⟨⟨hc,ho⟩,a,b,rfl⟩:=hm _ rfl
  have hc1:∀i,i < k→[.rs 6 (pn c i) (pg c i)]=c i:=fun i hi=>(hc i hi).symm
  have ho1:∀i,i < l→cellsO (ow o i)=o i:=fun i hi=>(ho i hi).symm
  refine⟨[],stOf [(0,.agg [.val (.bool (PtS.mk ⟨s1,b1,c1⟩ ⟨s2,b2,c2⟩).x.s),.val (.string (PtS.mk ⟨s1,b1,c1⟩ ⟨s2,b2,c2⟩).x.b),.val (.string (PtS.mk ⟨s1,b1,c1⟩ ⟨s2,b2,c2⟩).x.c),.val (.bool (PtS.mk ⟨s1,b1,c1⟩ ⟨s2,b2,c2⟩).y.s),.val (.string (PtS.mk ⟨s1,b1,c1⟩ ⟨s2,b2,c2⟩).y.b),.val (.string (PtS.mk ⟨s1,b1,c1⟩ ⟨s2,b2,c2⟩).y.c),.val (.bool (PtS.mk ⟨s3,b3,c3⟩ ⟨s4,b4,c4⟩).x.s),.val (.string (PtS.mk ⟨s3,b3,c3⟩ ⟨s4,b4,c4⟩).x.b),.val (.string (PtS.mk ⟨s3,b3,c3⟩ ⟨s4,b4,c4⟩).x.c),.val (.bool (PtS.mk ⟨s3,b3,c3⟩ ⟨s4,b4,c4⟩).y.s),.val (.string (PtS.mk ⟨s3,b3,c3⟩ ⟨s4,b4,c4⟩).y.b),.val (.string (PtS.mk ⟨s3,b3,c3⟩ ⟨s4,b4,c4⟩).y.c),.rs 1 k (fun i=>[.rs 6 (pn c i) (pg c i)]),.rs 3 l (fun i=>cellsO (ow o i))]),(1,.val (segV a b))] [] 0 [],Weak.of (by simp) trivial ⟨⟨rfl,rfl,rfl,rfl,rfl,rfl,rfl,rfl,rfl,rfl,rfl,rfl,⟨rfl,rfl,hc1⟩,⟨rfl,rfl,ho1⟩,trivial⟩,rfl,trivial⟩ trivial,?_⟩
  with_unfolding_all exact⟨[some 0,some 1],stOf [(4,.fn (.func 171) [] [.ptr 0 0 0 0,.ptr 1 1 0 0])] [⟨31,14,0,true,false,1,fun _=>regC (PtS.mk ⟨s1,b1,c1⟩ ⟨s2,b2,c2⟩) (PtS.mk ⟨s3,b3,c3⟩ ⟨s4,b4,c4⟩) k c l o⟩,⟨117,12,1,true,false,1,fun _=>segC a b⟩] 2 [],Weak.of (by simp) ⟨⟨lt_ok rfl,rfl,rfl,rfl,rfl,rfl,⟨rfl,rfl⟩,⟨rfl,rfl⟩,⟨rfl,rfl⟩,⟨rfl,rfl⟩,⟨rfl,rfl⟩,⟨rfl,rfl⟩,⟨rfl,rfl⟩,⟨rfl,rfl⟩,⟨rfl,rfl⟩,⟨rfl,rfl⟩,⟨rfl,rfl⟩,⟨rfl,rfl⟩,⟨⟨rfl,rfl,fun _ _=>rfl⟩,rfl⟩,⟨⟨rfl,rfl,fun _ _=>rfl⟩,rfl⟩,trivial⟩,⟨lt_ok rfl,rfl,rfl,rfl,rfl,rfl,⟨rfl,rfl⟩,⟨rfl,rfl⟩,⟨rfl,rfl⟩,⟨rfl,rfl⟩,⟨rfl,rfl⟩,⟨rfl,rfl⟩,⟨rfl,rfl⟩,⟨rfl,rfl⟩,⟨rfl,rfl⟩,⟨rfl,rfl⟩,⟨rfl,rfl⟩,⟨rfl,rfl⟩,trivial⟩,trivial⟩ ⟨⟨rfl,trivial,⟨rfl,rfl,rfl,lt_ok rfl,_,rfl⟩,⟨rfl,rfl,rfl,lt_ok rfl,_,rfl⟩,trivial⟩,trivial⟩ trivial,rfl,rfl⟩
 ·cases e
def c171:List PV→Option SeqA
 |[.rp 14 1 h 0 0,.rp 12 1 h' 0 0]=>some ⟨some ((isG h∧isS2 h')∧((gLo (h 0)).le 10000∧(gHi (h 0)).le 10000)∧((sA (h' 0)).le 10000∧(sB (h' 0)).le 10000)∧isCL 10000 (gK (h 0)) (gC (h 0))),(partsL (gLo (h 0)) (gHi (h 0)) (gK (h 0)) (pn (gC (h 0))) (fun i=>pts (pg (gC (h 0)) i)) (sA (h' 0)) (sB (h' 0))).length,pairV (partsL (gLo (h 0)) (gHi (h 0)) (gK (h 0)) (pn (gC (h 0))) (fun i=>pts (pg (gC (h 0)) i)) (sA (h' 0)) (sB (h' 0)))⟩
 |_=>none
def D171:Opt:={ perm:=atTs [(3,(.rd 0 (.rd 1 (.rd 2 (.rd 3 (.rd 4 (.rd 5 (.rd 7 (.rd 8 (.rd 9 (.rd 10 (.rd 11 (.rd 12 (.alt 6 (.alt 13 (.alt 14 (.mk 15 .nil) (.mk 15 (.mk 14 .nil))) (.alt 14 (.alt 13 (.mk 15 .nil) (.mk 15 (.mk 13 .nil))) (.mk 15 (.alt 13 (.mk 14 .nil) (.mk 14 (.mk 13 .nil)))))) (.alt 14 (.alt 6 (.alt 13 (.mk 15 .nil) (.mk 15 (.mk 13 .nil))) (.mk 15 (.mk 6 (.mk 13 .nil)))) (.mk 15 (.alt 6 (.alt 13 (.mk 14 .nil) (.mk 14 (.mk 13 .nil))) (.mk 14 (.mk 6 (.mk 13 .nil)))))))))))))))))))),(7,(.rd 0 (.rd 1 (.rd 2 (.mk 3 (.mk 4 (.rd 5 (.rd 6 (.rd 7 .nil)))))))))] }
theorem ok171:funcOk D171.toOrd Tryz.f171 3=true:=by kernel_rfl
theorem f171:SeqFn Tryz.prog 171 c171:=by
 refine SeqFn.of orders (mkE_ok (l:=[(172,c172),(208,c208),(209,c209),(210,c210),(211,c211),(139,c139),(115,c115),(173,c173),(174,c174)]) (own:=[]) (inl:=[]) (by simp [f172,f208,f209,f210,f211,f139,f115,f173,f174]) (by simp)) Tryz.func171 D171 3 ok171 rfl fun args r e=>?_
 unfold c171 at e
 split at e
 ·rename_i h h'
  cases e
  refine⟨by simp,fun hm L0=>?_⟩
  obtain⟨⟨h1,h2⟩,⟨hlo,hhi⟩,⟨ha,hb⟩,hc,hk⟩:=hm _ rfl
  unfold isG at h1
  unfold isS2 at h2
  generalize gLo (h 0)=lo at *
  generalize gHi (h 0)=hi at *
  generalize gK (h 0)=k at *
  generalize gC (h 0)=c at *
  generalize gL (h 0)=l at *
  generalize gO (h 0)=o at *
  generalize sA (h' 0)=a at *
  generalize sB (h' 0)=b at *
  subst h1
  subst h2
  clear hm
  unfold partsL
  have hlo':=hlo.mono (show 10000≤4294967296 by decide)
  have hhi':=hhi.mono (show 10000≤4294967296 by decide)
  have ha':=ha.mono (show 10000≤4294967296 by decide)
  have hb':=hb.mono (show 10000≤4294967296 by decide)
  with_unfolding_all refine⟨Nat,fun j=>j≤4,fun j=>stOf [(0,.val (.func (.yield L0) ⟨[]⟩ ⟨[]⟩)),(1,.rp 14 1 (fun _=>regC lo hi k c l o) 0 0),(2,.rp 12 1 (fun _=>segC a b) 0 0),(15,.val (.agg ⟨[.int .i64 (-1),.func (.func 208) ⟨[]⟩ ⟨[]⟩,.int .i64 (-2),.func (.func 209) ⟨[]⟩ ⟨[]⟩,.int .i64 (-3),.func (.func 210) ⟨[]⟩ ⟨[]⟩,.int .i64 (-4),.func (.func 211) ⟨[]⟩ ⟨[]⟩]⟩)),(16,.val (goInt ((j:Nat):Int)))] [] 0 [[(0,.val (.int .i64 ((partsP lo hi (pn c) (fun i=>pts (pg c i)) a b (j)).length:Nat))),(1,.val (.bool false))]],fun j=>4 - j,⟨0,[],Nat.zero_le _,Weak.of (by simp) trivial ⟨rfl,⟨rfl,rfl,rfl,rfl,fun _ _=>rfl⟩,⟨rfl,rfl,rfl,rfl,fun _ _=>rfl⟩,rfl,rfl,trivial⟩ ⟨⟨rfl,rfl,trivial⟩,trivial⟩⟩,fun j hj=>?_⟩
  match j,hj with
  |0,_ =>
   obtain⟨x,hx⟩:∃x,x=(farQ 0 (rdS (segV lo hi)).1 (rdS (segV lo hi)).2 (rdV a.v)):=⟨_,rfl⟩
   obtain⟨y,hy⟩:∃y,y=(farQ 0 (rdS (segV lo hi)).1 (rdS (segV lo hi)).2 (rdV b.v)):=⟨_,rfl⟩
   have hx1:farQ 0 lo hi a=x:=by rw [hx];rfl
   have hy1:farQ 0 lo hi b=y:=by rw [hy];rfl
   have qx:QB 20003 x:=by rw [←hx1];exact farQ_le 0 hlo hhi ha
   have qy:QB 20003 y:=by rw [←hy1];exact farQ_le 0 hlo hhi hb
   have hone:oneS 0 lo hi a b=bif decide (cmpQ x 0≤0)&&decide (cmpQ y 0≤0) then [] else [(-((0:Nat)+1:Int),bif decide (cmpQ x 0≤0) then x / (x - y) else 0)]:=by unfold oneS;rw [hx1,hy1]
   have rx:isRk 4294967296 (ratV (farQ 0 (rdS (segV lo hi)).1 (rdS (segV lo hi)).2 (rdV a.v))):=by rw [←hx];exact qx.rk (by decide)
   have ry:isRk 4294967296 (ratV (farQ 0 (rdS (segV lo hi)).1 (rdS (segV lo hi)).2 (rdV b.v))):=by rw [←hy];exact qy.rk (by decide)
   have rd:isRk 4294967296 (ratV (rdR (ratV (farQ 0 (rdS (segV lo hi)).1 (rdS (segV lo hi)).2 (rdV a.v))) - rdR (ratV (farQ 0 (rdS (segV lo hi)).1 (rdS (segV lo hi)).2 (rdV b.v))))):=by rw [rdR_ratV,rdR_ratV,←hx,←hy];exact(qx.sub qy).rk (by decide)
   have ix:decide (cmpQ (rdR (ratV (farQ 0 (rdS (segV lo hi)).1 (rdS (segV lo hi)).2 (rdV a.v)))) 0≤0)=decide (cmpQ x 0≤0):=by rw [rdR_ratV,←hx]
   have iy:decide (cmpQ (rdR (ratV (farQ 0 (rdS (segV lo hi)).1 (rdS (segV lo hi)).2 (rdV b.v)))) 0≤0)=decide (cmpQ y 0≤0):=by rw [rdR_ratV,←hy]
   have it:rdR (ratV (farQ 0 (rdS (segV lo hi)).1 (rdS (segV lo hi)).2 (rdV a.v))) / rdR (ratV (rdR (ratV (farQ 0 (rdS (segV lo hi)).1 (rdS (segV lo hi)).2 (rdV a.v))) - rdR (ratV (farQ 0 (rdS (segV lo hi)).1 (rdS (segV lo hi)).2 (rdV b.v)))))=x / (x - y):=by rw [rdR_ratV,rdR_ratV,rdR_ratV,←hx,←hy]
   have prA:isSeg 4294967296 (segV lo hi)∧isPk 4294967296 a.v:=⟨⟨lo,hi,rfl,hlo',hhi'⟩,a,rfl,ha'⟩
   have prB:isSeg 4294967296 (segV lo hi)∧isPk 4294967296 b.v:=⟨⟨lo,hi,rfl,hlo',hhi'⟩,b,rfl,hb'⟩
   have sk:decide (cmpQ (rdR (ratV (farQ 0 (rdS (segV lo hi)).1 (rdS (segV lo hi)).2 (rdV a.v)))) 0≤0)=true→decide (cmpQ (rdR (ratV (farQ 0 (rdS (segV lo hi)).1 (rdS (segV lo hi)).2 (rdV b.v)))) 0≤0)=true→(partsP lo hi (pn c) (fun i=>pts (pg c i)) a b (0)).length=(partsP lo hi (pn c) (fun i=>pts (pg c i)) a b (1)).length:=fun h h'=>by
    rw [ix] at h
    rw [iy] at h'
    have e:partsP lo hi (pn c) (fun i=>pts (pg c i)) a b (0+1)=partsP lo hi (pn c) (fun i=>pts (pg c i)) a b 0++oneS 0 lo hi a b:=rfl
    rw [e,hone,h,h']
    simp
   have yl:∀fr:Rat,oneS 0 lo hi a b=[(-((0:Nat)+1:Int),fr)]→(partsP lo hi (pn c) (fun i=>pts (pg c i)) a b (0)).length < (partsP lo hi (pn c) (fun i=>pts (pg c i)) a b (k+4)).length∧[PV.val (.int .i64 (-1)),PV.val (ratV fr)]=pairV (partsP lo hi (pn c) (fun i=>pts (pg c i)) a b (k+4)) (partsP lo hi (pn c) (fun i=>pts (pg c i)) a b (0)).length∧(partsP lo hi (pn c) (fun i=>pts (pg c i)) a b (0)).length+1=(partsP lo hi (pn c) (fun i=>pts (pg c i)) a b (1)).length:=fun fr h=>by
    have h1:=partsP_at (n:=pn c) (p:=fun i=>pts (pg c i)) (show 0 < k+4 by omega) (x:=(-((0:Nat)+1:Int),fr)) (by rw [if_pos (by decide)];exact h)
    refine⟨h1.2.1,?_,h1.2.2.symm⟩
    unfold pairV ixL frL
    rw [h1.1]
    rfl
   have fa:(decide (cmpQ x 0≤0)&&decide (cmpQ y 0≤0))=false→decide (cmpQ (rdR (ratV (farQ 0 (rdS (segV lo hi)).1 (rdS (segV lo hi)).2 (rdV a.v)))) 0≤0)=true→oneS 0 lo hi a b=[(-((0:Nat)+1:Int),rdR (ratV (farQ 0 (rdS (segV lo hi)).1 (rdS (segV lo hi)).2 (rdV a.v))) / rdR (ratV (rdR (ratV (farQ 0 (rdS (segV lo hi)).1 (rdS (segV lo hi)).2 (rdV a.v))) - rdR (ratV (farQ 0 (rdS (segV lo hi)).1 (rdS (segV lo hi)).2 (rdV b.v))))))]:=fun h h'=>by
    rw [ix] at h'
    rw [hone,h,h',it]
    rfl
   have fb:(decide (cmpQ x 0≤0)&&decide (cmpQ y 0≤0))=false→decide (cmpQ (rdR (ratV (farQ 0 (rdS (segV lo hi)).1 (rdS (segV lo hi)).2 (rdV a.v)))) 0≤0)=false→oneS 0 lo hi a b=[(-((0:Nat)+1:Int),0)]:=fun h h'=>by
    rw [ix] at h'
    rw [hone,h,h']
    rfl
   have k1:decide (cmpQ (rdR (ratV (farQ 0 (rdS (segV lo hi)).1 (rdS (segV lo hi)).2 (rdV b.v)))) 0≤0)=false→(decide (cmpQ x 0≤0)&&decide (cmpQ y 0≤0))=false:=fun h=>by
    rw [iy] at h
    rw [h,Bool.and_false]
   have k2:decide (cmpQ (rdR (ratV (farQ 0 (rdS (segV lo hi)).1 (rdS (segV lo hi)).2 (rdV a.v)))) 0≤0) = !true→(decide (cmpQ x 0≤0)&&decide (cmpQ y 0≤0))=false:=fun h=>by
    rw [ix] at h
    rw [h]
    rfl
   clear hx hy
   with_unfolding_all refine⟨fun _=>⟨⟨by decide,by decide⟩,⟨⟨prA,⟨⟨prB,⟨?_,?_⟩⟩,⟨⟨⟨prB,?_⟩,⟨prB,?_⟩⟩,⟨⟨prB,?_⟩,⟨prB,?_⟩⟩⟩⟩⟩,⟨⟨⟨prA,⟨⟨prB,?_⟩,⟨prB,?_⟩⟩⟩,⟨prA,⟨prB,?_⟩⟩⟩,⟨⟨prA,⟨⟨prB,?_⟩,⟨prB,?_⟩⟩⟩,⟨prA,⟨prB,?_⟩⟩⟩⟩⟩⟩,fun hh=>absurd hh (by decide)⟩
   all_goals with_unfolding_all refine⟨rx,fun h1=>⟨ry,fun h2=>⟨1,[],by show 1≤4;decide,by show 4 - 1 < 4 - 0;decide,Weak.of (by simp) trivial ⟨rfl,⟨rfl,rfl,rfl,rfl,fun _ _=>rfl⟩,⟨rfl,rfl,rfl,rfl,fun _ _=>rfl⟩,rfl,rfl,trivial⟩ ⟨⟨congrArg (fun z:Nat=>PV.val (.int .i64 (z:Int))) (sk h1 h2),rfl,trivial⟩,trivial⟩⟩,fun h2=>⟨rx,fun h3=>⟨⟨rx,ry⟩,⟨rx,rd⟩,⟨rfl,(partsP lo hi (pn c) (fun i=>pts (pg c i)) a b (0)).length,rfl,(yl _ (fa (k1 h2) h3)).1,(yl _ (fa (k1 h2) h3)).2.1,⟨fun e=>(nomatch e),fun _=>⟨1,[],by show 1≤4;decide,by show 4 - 1 < 4 - 0;decide,Weak.of (by simp) trivial ⟨rfl,⟨rfl,rfl,rfl,rfl,fun _ _=>rfl⟩,⟨rfl,rfl,rfl,rfl,fun _ _=>rfl⟩,rfl,rfl,trivial⟩ ⟨⟨congrArg (fun z:Nat=>PV.val (.int .i64 (z:Int))) (yl _ (fa (k1 h2) h3)).2.2,rfl,trivial⟩,trivial⟩⟩⟩,⟨fun _=>trivial,fun e=>(nomatch e)⟩⟩⟩,fun h3=>⟨rfl,(partsP lo hi (pn c) (fun i=>pts (pg c i)) a b (0)).length,rfl,(yl _ (fb (k1 h2) h3)).1,(yl _ (fb (k1 h2) h3)).2.1,⟨fun e=>(nomatch e),fun _=>⟨1,[],by show 1≤4;decide,by show 4 - 1 < 4 - 0;decide,Weak.of (by simp) trivial ⟨rfl,⟨rfl,rfl,rfl,rfl,fun _ _=>rfl⟩,⟨rfl,rfl,rfl,rfl,fun _ _=>rfl⟩,rfl,rfl,trivial⟩ ⟨⟨congrArg (fun z:Nat=>PV.val (.int .i64 (z:Int))) (yl _ (fb (k1 h2) h3)).2.2,rfl,trivial⟩,trivial⟩⟩⟩,⟨fun _=>trivial,fun e=>(nomatch e)⟩⟩⟩⟩,fun h1=>⟨fun h2=>(nomatch h2),fun h2=>⟨rx,fun h3=>⟨⟨rx,ry⟩,⟨rx,rd⟩,⟨rfl,(partsP lo hi (pn c) (fun i=>pts (pg c i)) a b (0)).length,rfl,(yl _ (fa (k2 h1) h3)).1,(yl _ (fa (k2 h1) h3)).2.1,⟨fun e=>(nomatch e),fun _=>⟨1,[],by show 1≤4;decide,by show 4 - 1 < 4 - 0;decide,Weak.of (by simp) trivial ⟨rfl,⟨rfl,rfl,rfl,rfl,fun _ _=>rfl⟩,⟨rfl,rfl,rfl,rfl,fun _ _=>rfl⟩,rfl,rfl,trivial⟩ ⟨⟨congrArg (fun z:Nat=>PV.val (.int .i64 (z:Int))) (yl _ (fa (k2 h1) h3)).2.2,rfl,trivial⟩,trivial⟩⟩⟩,⟨fun _=>trivial,fun e=>(nomatch e)⟩⟩⟩,fun h3=>⟨rfl,(partsP lo hi (pn c) (fun i=>pts (pg c i)) a b (0)).length,rfl,(yl _ (fb (k2 h1) h3)).1,(yl _ (fb (k2 h1) h3)).2.1,⟨fun e=>(nomatch e),fun _=>⟨1,[],by show 1≤4;decide,by show 4 - 1 < 4 - 0;decide,Weak.of (by simp) trivial ⟨rfl,⟨rfl,rfl,rfl,rfl,fun _ _=>rfl⟩,⟨rfl,rfl,rfl,rfl,fun _ _=>rfl⟩,rfl,rfl,trivial⟩ ⟨⟨congrArg (fun z:Nat=>PV.val (.int .i64 (z:Int))) (yl _ (fb (k2 h1) h3)).2.2,rfl,trivial⟩,trivial⟩⟩⟩,⟨fun _=>trivial,fun e=>(nomatch e)⟩⟩⟩⟩⟩
  |1,_ =>
   obtain⟨x,hx⟩:∃x,x=(farQ 1 (rdS (segV lo hi)).1 (rdS (segV lo hi)).2 (rdV a.v)):=⟨_,rfl⟩
   obtain⟨y,hy⟩:∃y,y=(farQ 1 (rdS (segV lo hi)).1 (rdS (segV lo hi)).2 (rdV b.v)):=⟨_,rfl⟩
   have hx1:farQ 1 lo hi a=x:=by rw [hx];rfl
   have hy1:farQ 1 lo hi b=y:=by rw [hy];rfl
   have qx:QB 20003 x:=by rw [←hx1];exact farQ_le 1 hlo hhi ha
   have qy:QB 20003 y:=by rw [←hy1];exact farQ_le 1 hlo hhi hb
   have hone:oneS 1 lo hi a b=bif decide (cmpQ x 0≤0)&&decide (cmpQ y 0≤0) then [] else [(-((1:Nat)+1:Int),bif decide (cmpQ x 0≤0) then x / (x - y) else 0)]:=by unfold oneS;rw [hx1,hy1]
   have rx:isRk 4294967296 (ratV (farQ 1 (rdS (segV lo hi)).1 (rdS (segV lo hi)).2 (rdV a.v))):=by rw [←hx];exact qx.rk (by decide)
   have ry:isRk 4294967296 (ratV (farQ 1 (rdS (segV lo hi)).1 (rdS (segV lo hi)).2 (rdV b.v))):=by rw [←hy];exact qy.rk (by decide)
   have rd:isRk 4294967296 (ratV (rdR (ratV (farQ 1 (rdS (segV lo hi)).1 (rdS (segV lo hi)).2 (rdV a.v))) - rdR (ratV (farQ 1 (rdS (segV lo hi)).1 (rdS (segV lo hi)).2 (rdV b.v))))):=by rw [rdR_ratV,rdR_ratV,←hx,←hy];exact(qx.sub qy).rk (by decide)
   have ix:decide (cmpQ (rdR (ratV (farQ 1 (rdS (segV lo hi)).1 (rdS (segV lo hi)).2 (rdV a.v)))) 0≤0)=decide (cmpQ x 0≤0):=by rw [rdR_ratV,←hx]
   have iy:decide (cmpQ (rdR (ratV (farQ 1 (rdS (segV lo hi)).1 (rdS (segV lo hi)).2 (rdV b.v)))) 0≤0)=decide (cmpQ y 0≤0):=by rw [rdR_ratV,←hy]
   have it:rdR (ratV (farQ 1 (rdS (segV lo hi)).1 (rdS (segV lo hi)).2 (rdV a.v))) / rdR (ratV (rdR (ratV (farQ 1 (rdS (segV lo hi)).1 (rdS (segV lo hi)).2 (rdV a.v))) - rdR (ratV (farQ 1 (rdS (segV lo hi)).1 (rdS (segV lo hi)).2 (rdV b.v)))))=x / (x - y):=by rw [rdR_ratV,rdR_ratV,rdR_ratV,←hx,←hy]
   have prA:isSeg 4294967296 (segV lo hi)∧isPk 4294967296 a.v:=⟨⟨lo,hi,rfl,hlo',hhi'⟩,a,rfl,ha'⟩
   have prB:isSeg 4294967296 (segV lo hi)∧isPk 4294967296 b.v:=⟨⟨lo,hi,rfl,hlo',hhi'⟩,b,rfl,hb'⟩
   have sk:decide (cmpQ (rdR (ratV (farQ 1 (rdS (segV lo hi)).1 (rdS (segV lo hi)).2 (rdV a.v)))) 0≤0)=true→decide (cmpQ (rdR (ratV (farQ 1 (rdS (segV lo hi)).1 (rdS (segV lo hi)).2 (rdV b.v)))) 0≤0)=true→(partsP lo hi (pn c) (fun i=>pts (pg c i)) a b (1)).length=(partsP lo hi (pn c) (fun i=>pts (pg c i)) a b (2)).length:=fun h h'=>by
    rw [ix] at h
    rw [iy] at h'
    have e:partsP lo hi (pn c) (fun i=>pts (pg c i)) a b (1+1)=partsP lo hi (pn c) (fun i=>pts (pg c i)) a b 1++oneS 1 lo hi a b:=rfl
    rw [e,hone,h,h']
    simp
   have yl:∀fr:Rat,oneS 1 lo hi a b=[(-((1:Nat)+1:Int),fr)]→(partsP lo hi (pn c) (fun i=>pts (pg c i)) a b (1)).length < (partsP lo hi (pn c) (fun i=>pts (pg c i)) a b (k+4)).length∧[PV.val (.int .i64 (-2)),PV.val (ratV fr)]=pairV (partsP lo hi (pn c) (fun i=>pts (pg c i)) a b (k+4)) (partsP lo hi (pn c) (fun i=>pts (pg c i)) a b (1)).length∧(partsP lo hi (pn c) (fun i=>pts (pg c i)) a b (1)).length+1=(partsP lo hi (pn c) (fun i=>pts (pg c i)) a b (2)).length:=fun fr h=>by
    have h1:=partsP_at (n:=pn c) (p:=fun i=>pts (pg c i)) (show 1 < k+4 by omega) (x:=(-((1:Nat)+1:Int),fr)) (by rw [if_pos (by decide)];exact h)
    refine⟨h1.2.1,?_,h1.2.2.symm⟩
    unfold pairV ixL frL
    rw [h1.1]
    rfl
   have fa:(decide (cmpQ x 0≤0)&&decide (cmpQ y 0≤0))=false→decide (cmpQ (rdR (ratV (farQ 1 (rdS (segV lo hi)).1 (rdS (segV lo hi)).2 (rdV a.v)))) 0≤0)=true→oneS 1 lo hi a b=[(-((1:Nat)+1:Int),rdR (ratV (farQ 1 (rdS (segV lo hi)).1 (rdS (segV lo hi)).2 (rdV a.v))) / rdR (ratV (rdR (ratV (farQ 1 (rdS (segV lo hi)).1 (rdS (segV lo hi)).2 (rdV a.v))) - rdR (ratV (farQ 1 (rdS (segV lo hi)).1 (rdS (segV lo hi)).2 (rdV b.v))))))]:=fun h h'=>by
    rw [ix] at h'
    rw [hone,h,h',it]
    rfl
   have fb:(decide (cmpQ x 0≤0)&&decide (cmpQ y 0≤0))=false→decide (cmpQ (rdR (ratV (farQ 1 (rdS (segV lo hi)).1 (rdS (segV lo hi)).2 (rdV a.v)))) 0≤0)=false→oneS 1 lo hi a b=[(-((1:Nat)+1:Int),0)]:=fun h h'=>by
    rw [ix] at h'
    rw [hone,h,h']
    rfl
   have k1:decide (cmpQ (rdR (ratV (farQ 1 (rdS (segV lo hi)).1 (rdS (segV lo hi)).2 (rdV b.v)))) 0≤0)=false→(decide (cmpQ x 0≤0)&&decide (cmpQ y 0≤0))=false:=fun h=>by
    rw [iy] at h
    rw [h,Bool.and_false]
   have k2:decide (cmpQ (rdR (ratV (farQ 1 (rdS (segV lo hi)).1 (rdS (segV lo hi)).2 (rdV a.v)))) 0≤0) = !true→(decide (cmpQ x 0≤0)&&decide (cmpQ y 0≤0))=false:=fun h=>by
    rw [ix] at h
    rw [h]
    rfl
   clear hx hy
   with_unfolding_all refine⟨fun _=>⟨⟨by decide,by decide⟩,⟨⟨prA,⟨⟨prB,⟨?_,?_⟩⟩,⟨⟨⟨prB,?_⟩,⟨prB,?_⟩⟩,⟨⟨prB,?_⟩,⟨prB,?_⟩⟩⟩⟩⟩,⟨⟨⟨prA,⟨⟨prB,?_⟩,⟨prB,?_⟩⟩⟩,⟨prA,⟨prB,?_⟩⟩⟩,⟨⟨prA,⟨⟨prB,?_⟩,⟨prB,?_⟩⟩⟩,⟨prA,⟨prB,?_⟩⟩⟩⟩⟩⟩,fun hh=>absurd hh (by decide)⟩
   all_goals with_unfolding_all refine⟨rx,fun h1=>⟨ry,fun h2=>⟨2,[],by show 2≤4;decide,by show 4 - 2 < 4 - 1;decide,Weak.of (by simp) trivial ⟨rfl,⟨rfl,rfl,rfl,rfl,fun _ _=>rfl⟩,⟨rfl,rfl,rfl,rfl,fun _ _=>rfl⟩,rfl,rfl,trivial⟩ ⟨⟨congrArg (fun z:Nat=>PV.val (.int .i64 (z:Int))) (sk h1 h2),rfl,trivial⟩,trivial⟩⟩,fun h2=>⟨rx,fun h3=>⟨⟨rx,ry⟩,⟨rx,rd⟩,⟨rfl,(partsP lo hi (pn c) (fun i=>pts (pg c i)) a b (1)).length,rfl,(yl _ (fa (k1 h2) h3)).1,(yl _ (fa (k1 h2) h3)).2.1,⟨fun e=>(nomatch e),fun _=>⟨2,[],by show 2≤4;decide,by show 4 - 2 < 4 - 1;decide,Weak.of (by simp) trivial ⟨rfl,⟨rfl,rfl,rfl,rfl,fun _ _=>rfl⟩,⟨rfl,rfl,rfl,rfl,fun _ _=>rfl⟩,rfl,rfl,trivial⟩ ⟨⟨congrArg (fun z:Nat=>PV.val (.int .i64 (z:Int))) (yl _ (fa (k1 h2) h3)).2.2,rfl,trivial⟩,trivial⟩⟩⟩,⟨fun _=>trivial,fun e=>(nomatch e)⟩⟩⟩,fun h3=>⟨rfl,(partsP lo hi (pn c) (fun i=>pts (pg c i)) a b (1)).length,rfl,(yl _ (fb (k1 h2) h3)).1,(yl _ (fb (k1 h2) h3)).2.1,⟨fun e=>(nomatch e),fun _=>⟨2,[],by show 2≤4;decide,by show 4 - 2 < 4 - 1;decide,Weak.of (by simp) trivial ⟨rfl,⟨rfl,rfl,rfl,rfl,fun _ _=>rfl⟩,⟨rfl,rfl,rfl,rfl,fun _ _=>rfl⟩,rfl,rfl,trivial⟩ ⟨⟨congrArg (fun z:Nat=>PV.val (.int .i64 (z:Int))) (yl _ (fb (k1 h2) h3)).2.2,rfl,trivial⟩,trivial⟩⟩⟩,⟨fun _=>trivial,fun e=>(nomatch e)⟩⟩⟩⟩,fun h1=>⟨fun h2=>(nomatch h2),fun h2=>⟨rx,fun h3=>⟨⟨rx,ry⟩,⟨rx,rd⟩,⟨rfl,(partsP lo hi (pn c) (fun i=>pts (pg c i)) a b (1)).length,rfl,(yl _ (fa (k2 h1) h3)).1,(yl _ (fa (k2 h1) h3)).2.1,⟨fun e=>(nomatch e),fun _=>⟨2,[],by show 2≤4;decide,by show 4 - 2 < 4 - 1;decide,Weak.of (by simp) trivial ⟨rfl,⟨rfl,rfl,rfl,rfl,fun _ _=>rfl⟩,⟨rfl,rfl,rfl,rfl,fun _ _=>rfl⟩,rfl,rfl,trivial⟩ ⟨⟨congrArg (fun z:Nat=>PV.val (.int .i64 (z:Int))) (yl _ (fa (k2 h1) h3)).2.2,rfl,trivial⟩,trivial⟩⟩⟩,⟨fun _=>trivial,fun e=>(nomatch e)⟩⟩⟩,fun h3=>⟨rfl,(partsP lo hi (pn c) (fun i=>pts (pg c i)) a b (1)).length,rfl,(yl _ (fb (k2 h1) h3)).1,(yl _ (fb (k2 h1) h3)).2.1,⟨fun e=>(nomatch e),fun _=>⟨2,[],by show 2≤4;decide,by show 4 - 2 < 4 - 1;decide,Weak.of (by simp) trivial ⟨rfl,⟨rfl,rfl,rfl,rfl,fun _ _=>rfl⟩,⟨rfl,rfl,rfl,rfl,fun _ _=>rfl⟩,rfl,rfl,trivial⟩ ⟨⟨congrArg (fun z:Nat=>PV.val (.int .i64 (z:Int))) (yl _ (fb (k2 h1) h3)).2.2,rfl,trivial⟩,trivial⟩⟩⟩,⟨fun _=>trivial,fun e=>(nomatch e)⟩⟩⟩⟩⟩
  |2,_ =>
   obtain⟨x,hx⟩:∃x,x=(farQ 2 (rdS (segV lo hi)).1 (rdS (segV lo hi)).2 (rdV a.v)):=⟨_,rfl⟩
   obtain⟨y,hy⟩:∃y,y=(farQ 2 (rdS (segV lo hi)).1 (rdS (segV lo hi)).2 (rdV b.v)):=⟨_,rfl⟩
   have hx1:farQ 2 lo hi a=x:=by rw [hx];rfl
   have hy1:farQ 2 lo hi b=y:=by rw [hy];rfl
   have qx:QB 20003 x:=by rw [←hx1];exact farQ_le 2 hlo hhi ha
   have qy:QB 20003 y:=by rw [←hy1];exact farQ_le 2 hlo hhi hb
   have hone:oneS 2 lo hi a b=bif decide (cmpQ x 0≤0)&&decide (cmpQ y 0≤0) then [] else [(-((2:Nat)+1:Int),bif decide (cmpQ x 0≤0) then x / (x - y) else 0)]:=by unfold oneS;rw [hx1,hy1]
   have rx:isRk 4294967296 (ratV (farQ 2 (rdS (segV lo hi)).1 (rdS (segV lo hi)).2 (rdV a.v))):=by rw [←hx];exact qx.rk (by decide)
   have ry:isRk 4294967296 (ratV (farQ 2 (rdS (segV lo hi)).1 (rdS (segV lo hi)).2 (rdV b.v))):=by rw [←hy];exact qy.rk (by decide)
   have rd:isRk 4294967296 (ratV (rdR (ratV (farQ 2 (rdS (segV lo hi)).1 (rdS (segV lo hi)).2 (rdV a.v))) - rdR (ratV (farQ 2 (rdS (segV lo hi)).1 (rdS (segV lo hi)).2 (rdV b.v))))):=by rw [rdR_ratV,rdR_ratV,←hx,←hy];exact(qx.sub qy).rk (by decide)
   have ix:decide (cmpQ (rdR (ratV (farQ 2 (rdS (segV lo hi)).1 (rdS (segV lo hi)).2 (rdV a.v)))) 0≤0)=decide (cmpQ x 0≤0):=by rw [rdR_ratV,←hx]
   have iy:decide (cmpQ (rdR (ratV (farQ 2 (rdS (segV lo hi)).1 (rdS (segV lo hi)).2 (rdV b.v)))) 0≤0)=decide (cmpQ y 0≤0):=by rw [rdR_ratV,←hy]
   have it:rdR (ratV (farQ 2 (rdS (segV lo hi)).1 (rdS (segV lo hi)).2 (rdV a.v))) / rdR (ratV (rdR (ratV (farQ 2 (rdS (segV lo hi)).1 (rdS (segV lo hi)).2 (rdV a.v))) - rdR (ratV (farQ 2 (rdS (segV lo hi)).1 (rdS (segV lo hi)).2 (rdV b.v)))))=x / (x - y):=by rw [rdR_ratV,rdR_ratV,rdR_ratV,←hx,←hy]
   have prA:isSeg 4294967296 (segV lo hi)∧isPk 4294967296 a.v:=⟨⟨lo,hi,rfl,hlo',hhi'⟩,a,rfl,ha'⟩
   have prB:isSeg 4294967296 (segV lo hi)∧isPk 4294967296 b.v:=⟨⟨lo,hi,rfl,hlo',hhi'⟩,b,rfl,hb'⟩
   have sk:decide (cmpQ (rdR (ratV (farQ 2 (rdS (segV lo hi)).1 (rdS (segV lo hi)).2 (rdV a.v)))) 0≤0)=true→decide (cmpQ (rdR (ratV (farQ 2 (rdS (segV lo hi)).1 (rdS (segV lo hi)).2 (rdV b.v)))) 0≤0)=true→(partsP lo hi (pn c) (fun i=>pts (pg c i)) a b (2)).length=(partsP lo hi (pn c) (fun i=>pts (pg c i)) a b (3)).length:=fun h h'=>by
    rw [ix] at h
    rw [iy] at h'
    have e:partsP lo hi (pn c) (fun i=>pts (pg c i)) a b (2+1)=partsP lo hi (pn c) (fun i=>pts (pg c i)) a b 2++oneS 2 lo hi a b:=rfl
    rw [e,hone,h,h']
    simp
   have yl:∀fr:Rat,oneS 2 lo hi a b=[(-((2:Nat)+1:Int),fr)]→(partsP lo hi (pn c) (fun i=>pts (pg c i)) a b (2)).length < (partsP lo hi (pn c) (fun i=>pts (pg c i)) a b (k+4)).length∧[PV.val (.int .i64 (-3)),PV.val (ratV fr)]=pairV (partsP lo hi (pn c) (fun i=>pts (pg c i)) a b (k+4)) (partsP lo hi (pn c) (fun i=>pts (pg c i)) a b (2)).length∧(partsP lo hi (pn c) (fun i=>pts (pg c i)) a b (2)).length+1=(partsP lo hi (pn c) (fun i=>pts (pg c i)) a b (3)).length:=fun fr h=>by
    have h1:=partsP_at (n:=pn c) (p:=fun i=>pts (pg c i)) (show 2 < k+4 by omega) (x:=(-((2:Nat)+1:Int),fr)) (by rw [if_pos (by decide)];exact h)
    refine⟨h1.2.1,?_,h1.2.2.symm⟩
    unfold pairV ixL frL
    rw [h1.1]
    rfl
   have fa:(decide (cmpQ x 0≤0)&&decide (cmpQ y 0≤0))=false→decide (cmpQ (rdR (ratV (farQ 2 (rdS (segV lo hi)).1 (rdS (segV lo hi)).2 (rdV a.v)))) 0≤0)=true→oneS 2 lo hi a b=[(-((2:Nat)+1:Int),rdR (ratV (farQ 2 (rdS (segV lo hi)).1 (rdS (segV lo hi)).2 (rdV a.v))) / rdR (ratV (rdR (ratV (farQ 2 (rdS (segV lo hi)).1 (rdS (segV lo hi)).2 (rdV a.v))) - rdR (ratV (farQ 2 (rdS (segV lo hi)).1 (rdS (segV lo hi)).2 (rdV b.v))))))]:=fun h h'=>by
    rw [ix] at h'
    rw [hone,h,h',it]
    rfl
   have fb:(decide (cmpQ x 0≤0)&&decide (cmpQ y 0≤0))=false→decide (cmpQ (rdR (ratV (farQ 2 (rdS (segV lo hi)).1 (rdS (segV lo hi)).2 (rdV a.v)))) 0≤0)=false→oneS 2 lo hi a b=[(-((2:Nat)+1:Int),0)]:=fun h h'=>by
    rw [ix] at h'
    rw [hone,h,h']
    rfl
   have k1:decide (cmpQ (rdR (ratV (farQ 2 (rdS (segV lo hi)).1 (rdS (segV lo hi)).2 (rdV b.v)))) 0≤0)=false→(decide (cmpQ x 0≤0)&&decide (cmpQ y 0≤0))=false:=fun h=>by
    rw [iy] at h
    rw [h,Bool.and_false]
   have k2:decide (cmpQ (rdR (ratV (farQ 2 (rdS (segV lo hi)).1 (rdS (segV lo hi)).2 (rdV a.v)))) 0≤0) = !true→(decide (cmpQ x 0≤0)&&decide (cmpQ y 0≤0))=false:=fun h=>by
    rw [ix] at h
    rw [h]
    rfl
   clear hx hy
   with_unfolding_all refine⟨fun _=>⟨⟨by decide,by decide⟩,⟨⟨prA,⟨⟨prB,⟨?_,?_⟩⟩,⟨⟨⟨prB,?_⟩,⟨prB,?_⟩⟩,⟨⟨prB,?_⟩,⟨prB,?_⟩⟩⟩⟩⟩,⟨⟨⟨prA,⟨⟨prB,?_⟩,⟨prB,?_⟩⟩⟩,⟨prA,⟨prB,?_⟩⟩⟩,⟨⟨prA,⟨⟨prB,?_⟩,⟨prB,?_⟩⟩⟩,⟨prA,⟨prB,?_⟩⟩⟩⟩⟩⟩,fun hh=>absurd hh (by decide)⟩
   all_goals with_unfolding_all refine⟨rx,fun h1=>⟨ry,fun h2=>⟨3,[],by show 3≤4;decide,by show 4 - 3 < 4 - 2;decide,Weak.of (by simp) trivial ⟨rfl,⟨rfl,rfl,rfl,rfl,fun _ _=>rfl⟩,⟨rfl,rfl,rfl,rfl,fun _ _=>rfl⟩,rfl,rfl,trivial⟩ ⟨⟨congrArg (fun z:Nat=>PV.val (.int .i64 (z:Int))) (sk h1 h2),rfl,trivial⟩,trivial⟩⟩,fun h2=>⟨rx,fun h3=>⟨⟨rx,ry⟩,⟨rx,rd⟩,⟨rfl,(partsP lo hi (pn c) (fun i=>pts (pg c i)) a b (2)).length,rfl,(yl _ (fa (k1 h2) h3)).1,(yl _ (fa (k1 h2) h3)).2.1,⟨fun e=>(nomatch e),fun _=>⟨3,[],by show 3≤4;decide,by show 4 - 3 < 4 - 2;decide,Weak.of (by simp) trivial ⟨rfl,⟨rfl,rfl,rfl,rfl,fun _ _=>rfl⟩,⟨rfl,rfl,rfl,rfl,fun _ _=>rfl⟩,rfl,rfl,trivial⟩ ⟨⟨congrArg (fun z:Nat=>PV.val (.int .i64 (z:Int))) (yl _ (fa (k1 h2) h3)).2.2,rfl,trivial⟩,trivial⟩⟩⟩,⟨fun _=>trivial,fun e=>(nomatch e)⟩⟩⟩,fun h3=>⟨rfl,(partsP lo hi (pn c) (fun i=>pts (pg c i)) a b (2)).length,rfl,(yl _ (fb (k1 h2) h3)).1,(yl _ (fb (k1 h2) h3)).2.1,⟨fun e=>(nomatch e),fun _=>⟨3,[],by show 3≤4;decide,by show 4 - 3 < 4 - 2;decide,Weak.of (by simp) trivial ⟨rfl,⟨rfl,rfl,rfl,rfl,fun _ _=>rfl⟩,⟨rfl,rfl,rfl,rfl,fun _ _=>rfl⟩,rfl,rfl,trivial⟩ ⟨⟨congrArg (fun z:Nat=>PV.val (.int .i64 (z:Int))) (yl _ (fb (k1 h2) h3)).2.2,rfl,trivial⟩,trivial⟩⟩⟩,⟨fun _=>trivial,fun e=>(nomatch e)⟩⟩⟩⟩,fun h1=>⟨fun h2=>(nomatch h2),fun h2=>⟨rx,fun h3=>⟨⟨rx,ry⟩,⟨rx,rd⟩,⟨rfl,(partsP lo hi (pn c) (fun i=>pts (pg c i)) a b (2)).length,rfl,(yl _ (fa (k2 h1) h3)).1,(yl _ (fa (k2 h1) h3)).2.1,⟨fun e=>(nomatch e),fun _=>⟨3,[],by show 3≤4;decide,by show 4 - 3 < 4 - 2;decide,Weak.of (by simp) trivial ⟨rfl,⟨rfl,rfl,rfl,rfl,fun _ _=>rfl⟩,⟨rfl,rfl,rfl,rfl,fun _ _=>rfl⟩,rfl,rfl,trivial⟩ ⟨⟨congrArg (fun z:Nat=>PV.val (.int .i64 (z:Int))) (yl _ (fa (k2 h1) h3)).2.2,rfl,trivial⟩,trivial⟩⟩⟩,⟨fun _=>trivial,fun e=>(nomatch e)⟩⟩⟩,fun h3=>⟨rfl,(partsP lo hi (pn c) (fun i=>pts (pg c i)) a b (2)).length,rfl,(yl _ (fb (k2 h1) h3)).1,(yl _ (fb (k2 h1) h3)).2.1,⟨fun e=>(nomatch e),fun _=>⟨3,[],by show 3≤4;decide,by show 4 - 3 < 4 - 2;decide,Weak.of (by simp) trivial ⟨rfl,⟨rfl,rfl,rfl,rfl,fun _ _=>rfl⟩,⟨rfl,rfl,rfl,rfl,fun _ _=>rfl⟩,rfl,rfl,trivial⟩ ⟨⟨congrArg (fun z:Nat=>PV.val (.int .i64 (z:Int))) (yl _ (fb (k2 h1) h3)).2.2,rfl,trivial⟩,trivial⟩⟩⟩,⟨fun _=>trivial,fun e=>(nomatch e)⟩⟩⟩⟩⟩
  |3,_ =>
   obtain⟨x,hx⟩:∃x,x=(farQ 3 (rdS (segV lo hi)).1 (rdS (segV lo hi)).2 (rdV a.v)):=⟨_,rfl⟩
   obtain⟨y,hy⟩:∃y,y=(farQ 3 (rdS (segV lo hi)).1 (rdS (segV lo hi)).2 (rdV b.v)):=⟨_,rfl⟩
   have hx1:farQ 3 lo hi a=x:=by rw [hx];rfl
   have hy1:farQ 3 lo hi b=y:=by rw [hy];rfl
   have qx:QB 20003 x:=by rw [←hx1];exact farQ_le 3 hlo hhi ha
   have qy:QB 20003 y:=by rw [←hy1];exact farQ_le 3 hlo hhi hb
   have hone:oneS 3 lo hi a b=bif decide (cmpQ x 0≤0)&&decide (cmpQ y 0≤0) then [] else [(-((3:Nat)+1:Int),bif decide (cmpQ x 0≤0) then x / (x - y) else 0)]:=by unfold oneS;rw [hx1,hy1]
   have rx:isRk 4294967296 (ratV (farQ 3 (rdS (segV lo hi)).1 (rdS (segV lo hi)).2 (rdV a.v))):=by rw [←hx];exact qx.rk (by decide)
   have ry:isRk 4294967296 (ratV (farQ 3 (rdS (segV lo hi)).1 (rdS (segV lo hi)).2 (rdV b.v))):=by rw [←hy];exact qy.rk (by decide)
   have rd:isRk 4294967296 (ratV (rdR (ratV (farQ 3 (rdS (segV lo hi)).1 (rdS (segV lo hi)).2 (rdV a.v))) - rdR (ratV (farQ 3 (rdS (segV lo hi)).1 (rdS (segV lo hi)).2 (rdV b.v))))):=by rw [rdR_ratV,rdR_ratV,←hx,←hy];exact(qx.sub qy).rk (by decide)
   have ix:decide (cmpQ (rdR (ratV (farQ 3 (rdS (segV lo hi)).1 (rdS (segV lo hi)).2 (rdV a.v)))) 0≤0)=decide (cmpQ x 0≤0):=by rw [rdR_ratV,←hx]
   have iy:decide (cmpQ (rdR (ratV (farQ 3 (rdS (segV lo hi)).1 (rdS (segV lo hi)).2 (rdV b.v)))) 0≤0)=decide (cmpQ y 0≤0):=by rw [rdR_ratV,←hy]
   have it:rdR (ratV (farQ 3 (rdS (segV lo hi)).1 (rdS (segV lo hi)).2 (rdV a.v))) / rdR (ratV (rdR (ratV (farQ 3 (rdS (segV lo hi)).1 (rdS (segV lo hi)).2 (rdV a.v))) - rdR (ratV (farQ 3 (rdS (segV lo hi)).1 (rdS (segV lo hi)).2 (rdV b.v)))))=x / (x - y):=by rw [rdR_ratV,rdR_ratV,rdR_ratV,←hx,←hy]
   have prA:isSeg 4294967296 (segV lo hi)∧isPk 4294967296 a.v:=⟨⟨lo,hi,rfl,hlo',hhi'⟩,a,rfl,ha'⟩
   have prB:isSeg 4294967296 (segV lo hi)∧isPk 4294967296 b.v:=⟨⟨lo,hi,rfl,hlo',hhi'⟩,b,rfl,hb'⟩
   have sk:decide (cmpQ (rdR (ratV (farQ 3 (rdS (segV lo hi)).1 (rdS (segV lo hi)).2 (rdV a.v)))) 0≤0)=true→decide (cmpQ (rdR (ratV (farQ 3 (rdS (segV lo hi)).1 (rdS (segV lo hi)).2 (rdV b.v)))) 0≤0)=true→(partsP lo hi (pn c) (fun i=>pts (pg c i)) a b (3)).length=(partsP lo hi (pn c) (fun i=>pts (pg c i)) a b (4)).length:=fun h h'=>by
    rw [ix] at h
    rw [iy] at h'
    have e:partsP lo hi (pn c) (fun i=>pts (pg c i)) a b (3+1)=partsP lo hi (pn c) (fun i=>pts (pg c i)) a b 3++oneS 3 lo hi a b:=rfl
    rw [e,hone,h,h']
    simp
   have yl:∀fr:Rat,oneS 3 lo hi a b=[(-((3:Nat)+1:Int),fr)]→(partsP lo hi (pn c) (fun i=>pts (pg c i)) a b (3)).length < (partsP lo hi (pn c) (fun i=>pts (pg c i)) a b (k+4)).length∧[PV.val (.int .i64 (-4)),PV.val (ratV fr)]=pairV (partsP lo hi (pn c) (fun i=>pts (pg c i)) a b (k+4)) (partsP lo hi (pn c) (fun i=>pts (pg c i)) a b (3)).length∧(partsP lo hi (pn c) (fun i=>pts (pg c i)) a b (3)).length+1=(partsP lo hi (pn c) (fun i=>pts (pg c i)) a b (4)).length:=fun fr h=>by
    have h1:=partsP_at (n:=pn c) (p:=fun i=>pts (pg c i)) (show 3 < k+4 by omega) (x:=(-((3:Nat)+1:Int),fr)) (by rw [if_pos (by decide)];exact h)
    refine⟨h1.2.1,?_,h1.2.2.symm⟩
    unfold pairV ixL frL
    rw [h1.1]
    rfl
   have fa:(decide (cmpQ x 0≤0)&&decide (cmpQ y 0≤0))=false→decide (cmpQ (rdR (ratV (farQ 3 (rdS (segV lo hi)).1 (rdS (segV lo hi)).2 (rdV a.v)))) 0≤0)=true→oneS 3 lo hi a b=[(-((3:Nat)+1:Int),rdR (ratV (farQ 3 (rdS (segV lo hi)).1 (rdS (segV lo hi)).2 (rdV a.v))) / rdR (ratV (rdR (ratV (farQ 3 (rdS (segV lo hi)).1 (rdS (segV lo hi)).2 (rdV a.v))) - rdR (ratV (farQ 3 (rdS (segV lo hi)).1 (rdS (segV lo hi)).2 (rdV b.v))))))]:=fun h h'=>by
    rw [ix] at h'
    rw [hone,h,h',it]
    rfl
   have fb:(decide (cmpQ x 0≤0)&&decide (cmpQ y 0≤0))=false→decide (cmpQ (rdR (ratV (farQ 3 (rdS (segV lo hi)).1 (rdS (segV lo hi)).2 (rdV a.v)))) 0≤0)=false→oneS 3 lo hi a b=[(-((3:Nat)+1:Int),0)]:=fun h h'=>by
    rw [ix] at h'
    rw [hone,h,h']
    rfl
   have k1:decide (cmpQ (rdR (ratV (farQ 3 (rdS (segV lo hi)).1 (rdS (segV lo hi)).2 (rdV b.v)))) 0≤0)=false→(decide (cmpQ x 0≤0)&&decide (cmpQ y 0≤0))=false:=fun h=>by
    rw [iy] at h
    rw [h,Bool.and_false]
   have k2:decide (cmpQ (rdR (ratV (farQ 3 (rdS (segV lo hi)).1 (rdS (segV lo hi)).2 (rdV a.v)))) 0≤0) = !true→(decide (cmpQ x 0≤0)&&decide (cmpQ y 0≤0))=false:=fun h=>by
    rw [ix] at h
    rw [h]
    rfl
   clear hx hy
   with_unfolding_all refine⟨fun _=>⟨⟨by decide,by decide⟩,⟨⟨prA,⟨⟨prB,⟨?_,?_⟩⟩,⟨⟨⟨prB,?_⟩,⟨prB,?_⟩⟩,⟨⟨prB,?_⟩,⟨prB,?_⟩⟩⟩⟩⟩,⟨⟨⟨prA,⟨⟨prB,?_⟩,⟨prB,?_⟩⟩⟩,⟨prA,⟨prB,?_⟩⟩⟩,⟨⟨prA,⟨⟨prB,?_⟩,⟨prB,?_⟩⟩⟩,⟨prA,⟨prB,?_⟩⟩⟩⟩⟩⟩,fun hh=>absurd hh (by decide)⟩
   all_goals with_unfolding_all refine⟨rx,fun h1=>⟨ry,fun h2=>⟨4,[],by show 4≤4;decide,by show 4 - 4 < 4 - 3;decide,Weak.of (by simp) trivial ⟨rfl,⟨rfl,rfl,rfl,rfl,fun _ _=>rfl⟩,⟨rfl,rfl,rfl,rfl,fun _ _=>rfl⟩,rfl,rfl,trivial⟩ ⟨⟨congrArg (fun z:Nat=>PV.val (.int .i64 (z:Int))) (sk h1 h2),rfl,trivial⟩,trivial⟩⟩,fun h2=>⟨rx,fun h3=>⟨⟨rx,ry⟩,⟨rx,rd⟩,⟨rfl,(partsP lo hi (pn c) (fun i=>pts (pg c i)) a b (3)).length,rfl,(yl _ (fa (k1 h2) h3)).1,(yl _ (fa (k1 h2) h3)).2.1,⟨fun e=>(nomatch e),fun _=>⟨4,[],by show 4≤4;decide,by show 4 - 4 < 4 - 3;decide,Weak.of (by simp) trivial ⟨rfl,⟨rfl,rfl,rfl,rfl,fun _ _=>rfl⟩,⟨rfl,rfl,rfl,rfl,fun _ _=>rfl⟩,rfl,rfl,trivial⟩ ⟨⟨congrArg (fun z:Nat=>PV.val (.int .i64 (z:Int))) (yl _ (fa (k1 h2) h3)).2.2,rfl,trivial⟩,trivial⟩⟩⟩,⟨fun _=>trivial,fun e=>(nomatch e)⟩⟩⟩,fun h3=>⟨rfl,(partsP lo hi (pn c) (fun i=>pts (pg c i)) a b (3)).length,rfl,(yl _ (fb (k1 h2) h3)).1,(yl _ (fb (k1 h2) h3)).2.1,⟨fun e=>(nomatch e),fun _=>⟨4,[],by show 4≤4;decide,by show 4 - 4 < 4 - 3;decide,Weak.of (by simp) trivial ⟨rfl,⟨rfl,rfl,rfl,rfl,fun _ _=>rfl⟩,⟨rfl,rfl,rfl,rfl,fun _ _=>rfl⟩,rfl,rfl,trivial⟩ ⟨⟨congrArg (fun z:Nat=>PV.val (.int .i64 (z:Int))) (yl _ (fb (k1 h2) h3)).2.2,rfl,trivial⟩,trivial⟩⟩⟩,⟨fun _=>trivial,fun e=>(nomatch e)⟩⟩⟩⟩,fun h1=>⟨fun h2=>(nomatch h2),fun h2=>⟨rx,fun h3=>⟨⟨rx,ry⟩,⟨rx,rd⟩,⟨rfl,(partsP lo hi (pn c) (fun i=>pts (pg c i)) a b (3)).length,rfl,(yl _ (fa (k2 h1) h3)).1,(yl _ (fa (k2 h1) h3)).2.1,⟨fun e=>(nomatch e),fun _=>⟨4,[],by show 4≤4;decide,by show 4 - 4 < 4 - 3;decide,Weak.of (by simp) trivial ⟨rfl,⟨rfl,rfl,rfl,rfl,fun _ _=>rfl⟩,⟨rfl,rfl,rfl,rfl,fun _ _=>rfl⟩,rfl,rfl,trivial⟩ ⟨⟨congrArg (fun z:Nat=>PV.val (.int .i64 (z:Int))) (yl _ (fa (k2 h1) h3)).2.2,rfl,trivial⟩,trivial⟩⟩⟩,⟨fun _=>trivial,fun e=>(nomatch e)⟩⟩⟩,fun h3=>⟨rfl,(partsP lo hi (pn c) (fun i=>pts (pg c i)) a b (3)).length,rfl,(yl _ (fb (k2 h1) h3)).1,(yl _ (fb (k2 h1) h3)).2.1,⟨fun e=>(nomatch e),fun _=>⟨4,[],by show 4≤4;decide,by show 4 - 4 < 4 - 3;decide,Weak.of (by simp) trivial ⟨rfl,⟨rfl,rfl,rfl,rfl,fun _ _=>rfl⟩,⟨rfl,rfl,rfl,rfl,fun _ _=>rfl⟩,rfl,rfl,trivial⟩ ⟨⟨congrArg (fun z:Nat=>PV.val (.int .i64 (z:Int))) (yl _ (fb (k2 h1) h3)).2.2,rfl,trivial⟩,trivial⟩⟩⟩,⟨fun _=>trivial,fun e=>(nomatch e)⟩⟩⟩⟩⟩
  |4,_ =>
   have h44:decide (((4:Nat):Int) < 4)=true→False:=fun h=>absurd h (by decide)
   with_unfolding_all refine⟨fun h=>h44 h,fun _=>⟨Nat,fun i=>i≤k,fun i=>stOf [(0,.val (.func (.yield L0) ⟨[]⟩ ⟨[]⟩)),(1,.rp 14 1 (fun _=>regC lo hi k c l o) 0 0),(2,.rp 12 1 (fun _=>segC a b) 0 0),(60,.rs 1 k (fun i=>[.rs 6 (pn c i) (pg c i)])),(61,.val (goInt k)),(62,.val (goInt i))] [] 0 [[(0,.val (.int .i64 ((partsP lo hi (pn c) (fun i=>pts (pg c i)) a b (i+4)).length:Nat))),(1,.val (.bool false))]],fun i=>k - i,⟨0,[],Nat.zero_le _,Weak.of (by simp) trivial ⟨rfl,⟨rfl,rfl,rfl,rfl,fun _ _=>rfl⟩,⟨rfl,rfl,rfl,rfl,fun _ _=>rfl⟩,⟨rfl,rfl,fun _ _=>rfl⟩,rfl,rfl,trivial⟩ ⟨⟨rfl,rfl,trivial⟩,trivial⟩⟩,fun i hik=>?_⟩⟩
   have hX:(partO (pn c ((i:Nat):Int).toNat) (pts (pg c ((i:Nat):Int).toNat)) (rdS (segV a b)).1 (rdS (segV a b)).2)=partO (pn c i) (pts (pg c i)) a b:=rfl
   have sk:(partO (pn c ((i:Nat):Int).toNat) (pts (pg c ((i:Nat):Int).toNat)) (rdS (segV a b)).1 (rdS (segV a b)).2).isSome=false→(partsP lo hi (pn c) (fun i=>pts (pg c i)) a b (i+4)).length=(partsP lo hi (pn c) (fun i=>pts (pg c i)) a b ((i+1)+4)).length:=fun h=>by
    rw [hX] at h
    have e:partsP lo hi (pn c) (fun i=>pts (pg c i)) a b (i+4+1)=partsP lo hi (pn c) (fun i=>pts (pg c i)) a b (i+4)++(if i+4 < 4 then oneS (i+4) lo hi a b else oneC (i+4 - 4) (pn c (i+4 - 4)) (pts (pg c (i+4 - 4))) a b):=rfl
    rw [show i+1+4=i+4+1 by omega,e,if_neg (by omega),show i+4 - 4=i by omega,oneC]
    cases hh:partO (pn c i) (pts (pg c i)) a b with
    |none=>simp
    |some s=>rw [hh] at h;cases h
   have yl:i < k→(partO (pn c ((i:Nat):Int).toNat) (pts (pg c ((i:Nat):Int).toNat)) (rdS (segV a b)).1 (rdS (segV a b)).2).isSome=true→(partsP lo hi (pn c) (fun i=>pts (pg c i)) a b (i+4)).length < (partsP lo hi (pn c) (fun i=>pts (pg c i)) a b (k+4)).length∧[PV.val (.int .i64 i),PV.val (ratV (loO (partO (pn c ((i:Nat):Int).toNat) (pts (pg c ((i:Nat):Int).toNat)) (rdS (segV a b)).1 (rdS (segV a b)).2)))]=pairV (partsP lo hi (pn c) (fun i=>pts (pg c i)) a b (k+4)) (partsP lo hi (pn c) (fun i=>pts (pg c i)) a b (i+4)).length∧(partsP lo hi (pn c) (fun i=>pts (pg c i)) a b (i+4)).length+1=(partsP lo hi (pn c) (fun i=>pts (pg c i)) a b ((i+1)+4)).length:=fun hik h=>by
    rw [hX] at h ⊢
    cases hh:partO (pn c i) (pts (pg c i)) a b with
    |none=>rw [hh] at h;cases h
    |some s =>
    have h1:=partsP_at (lo:=lo) (hi:=hi) (n:=pn c) (p:=fun i=>pts (pg c i)) (a:=a) (b:=b) (show i+4 < k+4 by omega) (x:=((i:Int),s.1)) (by rw [if_neg (by omega),show i+4 - 4=i by omega,oneC,hh])
    refine⟨h1.2.1,?_,by rw [show i+1+4=i+4+1 by omega];exact h1.2.2.symm⟩
    unfold pairV ixL frL
    rw [h1.1]
    rfl
   have nb:(partO (pn c ((i:Nat):Int).toNat) (pts (pg c ((i:Nat):Int).toNat)) (rdS (segV a b)).1 (rdS (segV a b)).2).isSome=true→partB (pn c ((i:Nat):Int).toNat) (pts (pg c ((i:Nat):Int).toNat)) (rdS (segV a b)).1 (rdS (segV a b)).2=false:=fun h=>by
    rw [hX] at h
    show partB (pn c i) (pts (pg c i)) a b=false
    cases hb:partB (pn c i) (pts (pg c i)) a b
    ·rfl
    ·unfold partO at h
     rw [hb] at h
     cases h
   have nb':(partO (pn c ((i:Nat):Int).toNat) (pts (pg c ((i:Nat):Int).toNat)) (rdS (segV a b)).1 (rdS (segV a b)).2).isSome=true→∀x:Bool,x=((bif partB (pn c ((i:Nat):Int).toNat) (pts (pg c ((i:Nat):Int).toNat)) (rdS (segV a b)).1 (rdS (segV a b)).2 then(1:Int) else 0)==0)→x=false→False:=fun h x hx h'=>by
    rw [nb h] at hx
    rw [hx] at h'
    cases h'
   have ltT:decide ((i:Int) < (k:Int))=true→i < k:=fun h=>Int.ofNat_lt.1 (of_decide_eq_true h)
   have ltF:decide ((i:Int) < (k:Int))=false→i=k:=fun h=>Nat.le_antisymm hik (Nat.le_of_not_lt fun h'=>of_decide_eq_false h (Int.ofNat_lt.2 h'))
   have wi:decide ((i:Int) < (k:Int))=true→PV.val (.int .i64 (IntKind.i64.wrap ((i:Int)+1)))=.val (goInt (i+1:Nat)):=fun h=>by
    have:=ltT h
    rw [wrap64 (by omega) (by omega)]
    rfl
   with_unfolding_all refine⟨fun h0=>⟨⟨Int.natCast_nonneg i,Int.ofNat_lt.2 (ltT h0)⟩,⟨(hc i (ltT h0)).2,a,b,rfl,ha,hb⟩,fun h1=>⟨fun h2=>⟨rfl,(partsP lo hi (pn c) (fun i=>pts (pg c i)) a b (i+4)).length,rfl,(yl (ltT h0) h1).1,(yl (ltT h0) h1).2.1,⟨fun _=>⟨fun e=>(nomatch e),fun _=>⟨i+1,[],ltT h0,by have:=ltT h0;show k - (i+1) < k - i;omega,Weak.of (by simp) trivial ⟨rfl,⟨rfl,rfl,rfl,rfl,fun _ _=>rfl⟩,⟨rfl,rfl,rfl,rfl,fun _ _=>rfl⟩,⟨rfl,rfl,fun _ _=>rfl⟩,rfl,wi h0,trivial⟩ ⟨⟨congrArg (fun z:Nat=>PV.val (.int .i64 (z:Int))) (yl (ltT h0) h1).2.2,rfl,trivial⟩,trivial⟩⟩⟩,fun e=>(nomatch e)⟩,⟨fun _=>⟨fun _=>trivial,fun e=>(nomatch e)⟩,fun e=>(nomatch e)⟩⟩,fun h2=>⟨fun e=>(nomatch e),fun _=>(nb' h1 _ rfl h2).elim⟩⟩,fun h1=>⟨fun e=>(nomatch e),fun _=>⟨fun e=>(nomatch e),fun _=>⟨i+1,[],ltT h0,by have:=ltT h0;show k - (i+1) < k - i;omega,Weak.of (by simp) trivial ⟨rfl,⟨rfl,rfl,rfl,rfl,fun _ _=>rfl⟩,⟨rfl,rfl,rfl,rfl,fun _ _=>rfl⟩,⟨rfl,rfl,fun _ _=>rfl⟩,rfl,wi h0,trivial⟩ ⟨⟨congrArg (fun z:Nat=>PV.val (.int .i64 (z:Int))) (sk h1),rfl,trivial⟩,trivial⟩⟩⟩⟩⟩,fun h0=>?_⟩
   rw [ltF h0]
   rfl
  |j+5,h=>exact absurd h (by show ¬j+5≤4;omega)
 ·cases e
end Go.Proofs
namespace Go.Num
open Go Go.Ex Go.Proofs
def okB (lo hi:PtS) (k:Nat) (c:Nat→List PV) (l:Nat) (o:Nat→List PV) (v:Value):Bool:=!(!canonP (rdS v).1||!canonP (rdS v).2)&&(regE lo hi k (pn c) (fun i=>pts (pg c i)) l (ow o)==0)
def partsC (lo hi:PtS) (k:Nat) (c:Nat→List PV) (v:Value):List (Int×Rat):=partsL lo hi k (pn c) (fun i=>pts (pg c i)) (rdS v).1 (rdS v).2
def blkI (b:Bool) (L:List (Int×Rat)):Int:=bif b then ixL L 0 else 0
end Go.Num
namespace Go.Proofs
open Go Go.Ex Go.Num
set_option maxRecDepth 100000
def c91:List PV→Option Ans
 |[.agg [.val (.bool s1),.val (.string b1),.val (.string c1),.val (.bool s2),.val (.string b2),.val (.string c2),.val (.bool s3),.val (.string b3),.val (.string c3),.val (.bool s4),.val (.string b4),.val (.string c4),.rs 1 k c,.rs 3 l o],.val v]=>some ⟨some (((PtS.le 10000 (PtS.mk ⟨s1,b1,c1⟩ ⟨s2,b2,c2⟩)∧PtS.le 10000 (PtS.mk ⟨s3,b3,c3⟩ ⟨s4,b4,c4⟩))∧isCL 10000 k c∧isOL l o)∧isSeg 10000 v),.val (.tuple ⟨[.int .i64 (blkI (okB (PtS.mk ⟨s1,b1,c1⟩ ⟨s2,b2,c2⟩) (PtS.mk ⟨s3,b3,c3⟩ ⟨s4,b4,c4⟩) k c l o v) (partsC (PtS.mk ⟨s1,b1,c1⟩ ⟨s2,b2,c2⟩) (PtS.mk ⟨s3,b3,c3⟩ ⟨s4,b4,c4⟩) k c v)),.bool (okB (PtS.mk ⟨s1,b1,c1⟩ ⟨s2,b2,c2⟩) (PtS.mk ⟨s3,b3,c3⟩ ⟨s4,b4,c4⟩) k c l o v&&!(partsC (PtS.mk ⟨s1,b1,c1⟩ ⟨s2,b2,c2⟩) (PtS.mk ⟨s3,b3,c3⟩ ⟨s4,b4,c4⟩) k c v).isEmpty),.int .i64 (okW (okB (PtS.mk ⟨s1,b1,c1⟩ ⟨s2,b2,c2⟩) (PtS.mk ⟨s3,b3,c3⟩ ⟨s4,b4,c4⟩) k c l o v))]⟩),[]⟩
 |_=>none
def D91:Opt:={ }
theorem ok91:funcOk D91.toOrd Tryz.f91 2=true:=by kernel_rfl
theorem f91:FnOk Tryz.prog 91 c91:=by
 refine FnOk.ofW orders (mkS_ok (l:=[(125,c125),(126,c126)]) (own:=[]) (inl:=[]) (sq:=[(171,c171)]) (by simp [f125,f126]) (by simp) (by simp [f171])) Tryz.func91 D91 2 ok91 fun args r e=>?_
 unfold c91 at e
 split at e
 ·rename_i s1 b1 c1 s2 b2 c2 s3 b3 c3 s4 b4 c4 k c l o v
  cases e
  refine⟨by simp,fun hm=>?_⟩
  obtain⟨⟨⟨hlo,hhi⟩,⟨hc,hk⟩,ho,hl⟩,a,b,rfl,ha,hb⟩:=hm _ rfl
  obtain⟨lo,hlo'⟩:∃p,p=(PtS.mk ⟨s1,b1,c1⟩ ⟨s2,b2,c2⟩):=⟨_,rfl⟩
  obtain⟨hi,hhi'⟩:∃p,p=(PtS.mk ⟨s3,b3,c3⟩ ⟨s4,b4,c4⟩):=⟨_,rfl⟩
  have hc1:∀i,i < k→[.rs 6 (pn c i) (pg c i)]=c i:=fun i hi=>(hc i hi).1.symm
  have ho1:∀i,i < l→cellsO (ow o i)=o i:=fun i hi=>(ho i hi).symm
  refine⟨[],stOf [(0,.agg [.val (.bool (PtS.mk ⟨s1,b1,c1⟩ ⟨s2,b2,c2⟩).x.s),.val (.string (PtS.mk ⟨s1,b1,c1⟩ ⟨s2,b2,c2⟩).x.b),.val (.string (PtS.mk ⟨s1,b1,c1⟩ ⟨s2,b2,c2⟩).x.c),.val (.bool (PtS.mk ⟨s1,b1,c1⟩ ⟨s2,b2,c2⟩).y.s),.val (.string (PtS.mk ⟨s1,b1,c1⟩ ⟨s2,b2,c2⟩).y.b),.val (.string (PtS.mk ⟨s1,b1,c1⟩ ⟨s2,b2,c2⟩).y.c),.val (.bool (PtS.mk ⟨s3,b3,c3⟩ ⟨s4,b4,c4⟩).x.s),.val (.string (PtS.mk ⟨s3,b3,c3⟩ ⟨s4,b4,c4⟩).x.b),.val (.string (PtS.mk ⟨s3,b3,c3⟩ ⟨s4,b4,c4⟩).x.c),.val (.bool (PtS.mk ⟨s3,b3,c3⟩ ⟨s4,b4,c4⟩).y.s),.val (.string (PtS.mk ⟨s3,b3,c3⟩ ⟨s4,b4,c4⟩).y.b),.val (.string (PtS.mk ⟨s3,b3,c3⟩ ⟨s4,b4,c4⟩).y.c),.rs 1 k (fun i=>[.rs 6 (pn c i) (pg c i)]),.rs 3 l (fun i=>cellsO (ow o i))]),(1,.val (segV a b))] [] 0 [],Weak.of (by simp) trivial ⟨⟨rfl,rfl,rfl,rfl,rfl,rfl,rfl,rfl,rfl,rfl,rfl,rfl,⟨rfl,rfl,hc1⟩,⟨rfl,rfl,ho1⟩,trivial⟩,rfl,trivial⟩ trivial,?_⟩
  rw [←hlo'] at hlo ⊢
  rw [←hhi'] at hhi ⊢
  clear hlo' hhi' hm
  have hlo':=hlo.mono (show 10000≤4294967296 by decide)
  have hhi':=hhi.mono (show 10000≤4294967296 by decide)
  have hrg:(lo.le 4294967296∧hi.le 4294967296)∧isCL 10000 k (fun i=>[.rs 6 (pn c i) (pg c i)])∧isOL l (fun i=>cellsO (ow o i)):=⟨⟨hlo',hhi'⟩,⟨fun i hi=>⟨rfl,(hc i hi).2⟩,hk⟩,fun i hi=>rfl,hl⟩
  obtain⟨R,hR⟩:∃R,R=regE lo hi k (pn c) (fun i=>pts (pg c i)) l (ow o):=⟨_,rfl⟩
  have hR':regE lo hi k (pn (fun i=>[.rs 6 (pn c i) (pg c i)])) (fun i=>pts (pg (fun i=>[.rs 6 (pn c i) (pg c i)]) i)) l (ow (fun i=>cellsO (ow o i)))=R:=hR.symm
  have ha':=ha.mono (show 10000≤4294967296 by decide)
  have hb':=hb.mono (show 10000≤4294967296 by decide)
  obtain⟨L,hL⟩:∃L,L=partsC lo hi k c (segV a b):=⟨_,rfl⟩
  rw [←hL]
  obtain⟨OK,hOK⟩:∃OK,OK=okB lo hi k c l o (segV a b):=⟨_,rfl⟩
  rw [←hOK]
  obtain⟨VI,hVI⟩:∃VI,VI=blkI OK L:=⟨_,rfl⟩
  rw [←hVI]
  obtain⟨VB,hVB⟩:∃VB,VB=(OK&&!L.isEmpty):=⟨_,rfl⟩
  rw [←hVB]
  have hL':partsL lo hi k (pn (fun i=>[.rs 6 (pn c i) (pg c i)])) (fun i=>pts (pg (fun i=>[.rs 6 (pn c i) (pg c i)]) i)) a b=L:=hL.symm
  have cn:∀r:Nat→List PV,pts r 0=a→pts r 1=b→anyP (fun i=>!canonP (pts r i)) 2=(!canonP a||!canonP b):=fun r h h'=>by
   have e:List.range 2=[0,1]:=rfl
   simp only [anyP,e,List.any_cons,List.any_nil,Bool.or_false,h,h']
  have p2:∀r:Nat→List PV,r 0=a.cells→r 1=b.cells→isPL 4294967296 2 r:=fun r h h'=>⟨fun i hi=>by
   match i,hi with
   |0,_=>exact⟨by rw [pts,h];rfl,by rw [pts,h];exact ha'⟩
   |1,_=>exact⟨by rw [pts,h'];rfl,by rw [pts,h'];exact hb'⟩
   |i+2,h=>omega,by decide⟩
  have hOK':OK=(!(!canonP a||!canonP b)&&(R==0)):=by rw [hOK,hR];rfl
  have q1:∀r:Nat→List PV,pts r 0=a→pts r 1=b→(!(!anyP (fun i=>!canonP (pts r i)) 2&&(regE lo hi k (pn (fun i=>[.rs 6 (pn c i) (pg c i)])) (fun i=>pts (pg (fun i=>[.rs 6 (pn c i) (pg c i)]) i)) l (ow (fun i=>cellsO (ow o i)))==0))) = !OK:=fun r h h'=>by
   rw [cn r h h',hR',hOK']
  with_unfolding_all refine⟨⟨hrg,p2 _ rfl rfl⟩,fun h1=>?_,fun h1=>?_⟩
  ·have h1:OK=false:=by
    have:=(q1 _ rfl rfl).symm.trans h1
    simpa using this
   have v1:PV.val (.int .i64 0)=PV.val (.int .i64 VI):=by rw [hVI,h1];rfl
   have v2:PV.val (.bool false)=PV.val (.bool VB):=by rw [hVB,h1];rfl
   have v3:PV.val (.int .i64 1)=PV.val (.int .i64 (okW OK)):=by rw [h1];rfl
   with_unfolding_all exact⟨[some 2,some 3,some 4],stOf [(4,.ptr 0 0 0 0),(5,.ptr 1 1 0 0),(6,.ptr 2 2 0 0)] [⟨3,1,0,true,false,1,fun _=>[.val (.int .i64 VI)]⟩,⟨4,1,1,true,false,1,fun _=>[.val (.bool VB)]⟩,⟨38,1,2,true,false,1,fun _=>[.val (.int .i64 (okW OK))]⟩] 3 [],Weak.of (by simp) ⟨⟨lt_ok rfl,rfl,rfl,rfl,rfl,rfl,⟨v1,rfl⟩,trivial⟩,⟨lt_ok rfl,rfl,rfl,rfl,rfl,rfl,⟨v2,rfl⟩,trivial⟩,⟨lt_ok rfl,rfl,rfl,rfl,rfl,rfl,⟨v3,rfl⟩,trivial⟩,trivial⟩ ⟨⟨rfl,rfl,rfl,lt_ok rfl,_,rfl⟩,⟨rfl,rfl,rfl,lt_ok rfl,_,rfl⟩,⟨rfl,rfl,rfl,lt_ok rfl,_,rfl⟩,trivial⟩ trivial,rfl,rfl⟩
  ·have h1:OK=true:=by
    have:=(q1 _ rfl rfl).symm.trans h1
    simpa using this
   have v3:PV.val (.int .i64 0)=PV.val (.int .i64 (okW OK)):=by rw [h1];rfl
   with_unfolding_all refine⟨⟨⟨fun i _=>rfl,fun i _=>rfl⟩,a,b,rfl⟩,⟨⟨rfl,rfl⟩,⟨hlo,hhi⟩,⟨ha,hb⟩,⟨fun i hi=>⟨rfl,(hc i hi).2⟩,hk⟩⟩,Unit,fun i _=>i=0,fun _=>stOf [(2,.ptr 0 0 0 0),(3,.ptr 1 1 0 0),(4,.ptr 2 2 0 0),(5,.ptr 3 3 0 0),(6,.ptr 4 4 0 0)] [⟨31,14,0,true,false,1,fun _=>[.val (.bool lo.x.s),.val (.string lo.x.b),.val (.string lo.x.c),.val (.bool lo.y.s),.val (.string lo.y.b),.val (.string lo.y.c),.val (.bool hi.x.s),.val (.string hi.x.b),.val (.string hi.x.c),.val (.bool hi.y.s),.val (.string hi.y.b),.val (.string hi.y.c),.rs 1 k (fun i=>[.rs 6 (pn c i) (pg c i)]),.rs 3 l (fun i=>cellsO (ow o i))]⟩,⟨117,12,1,true,false,1,fun _=>[.val (.bool a.x.s),.val (.string a.x.b),.val (.string a.x.c),.val (.bool a.y.s),.val (.string a.y.b),.val (.string a.y.c),.val (.bool b.x.s),.val (.string b.x.b),.val (.string b.x.c),.val (.bool b.y.s),.val (.string b.y.b),.val (.string b.y.c)]⟩,⟨3,1,2,true,false,1,fun _=>[.val (.int .i64 0)]⟩,⟨4,1,3,true,false,1,fun _=>[.val (.bool false)]⟩,⟨38,1,4,true,false,1,fun _=>[.val (.int .i64 0)]⟩] 5 [],⟨(),[some 0,some 1,some 2,some 3,some 4],rfl,Weak.of (by simp) ⟨⟨lt_ok rfl,rfl,rfl,rfl,rfl,rfl,⟨rfl,rfl⟩,⟨rfl,rfl⟩,⟨rfl,rfl⟩,⟨rfl,rfl⟩,⟨rfl,rfl⟩,⟨rfl,rfl⟩,⟨rfl,rfl⟩,⟨rfl,rfl⟩,⟨rfl,rfl⟩,⟨rfl,rfl⟩,⟨rfl,rfl⟩,⟨rfl,rfl⟩,⟨⟨rfl,rfl,fun _ _=>rfl⟩,rfl⟩,⟨⟨rfl,rfl,fun _ _=>rfl⟩,rfl⟩,trivial⟩,⟨lt_ok rfl,rfl,rfl,rfl,rfl,rfl,⟨rfl,rfl⟩,⟨rfl,rfl⟩,⟨rfl,rfl⟩,⟨rfl,rfl⟩,⟨rfl,rfl⟩,⟨rfl,rfl⟩,⟨rfl,rfl⟩,⟨rfl,rfl⟩,⟨rfl,rfl⟩,⟨rfl,rfl⟩,⟨rfl,rfl⟩,⟨rfl,rfl⟩,trivial⟩,⟨lt_ok rfl,rfl,rfl,rfl,rfl,rfl,⟨rfl,rfl⟩,trivial⟩,⟨lt_ok rfl,rfl,rfl,rfl,rfl,rfl,⟨rfl,rfl⟩,trivial⟩,⟨lt_ok rfl,rfl,rfl,rfl,rfl,rfl,⟨rfl,rfl⟩,trivial⟩,trivial⟩ ⟨⟨rfl,rfl,rfl,lt_ok rfl,_,rfl⟩,⟨rfl,rfl,rfl,lt_ok rfl,_,rfl⟩,⟨rfl,rfl,rfl,lt_ok rfl,_,rfl⟩,⟨rfl,rfl,rfl,lt_ok rfl,_,rfl⟩,⟨rfl,rfl,rfl,lt_ok rfl,_,rfl⟩,trivial⟩ trivial⟩,fun i y hin hI=>?_,fun y hI=>?_⟩
   ·have hI:i=0:=hI
    have hin:i < (partsL lo hi k (pn (fun i=>[.rs 6 (pn c i) (pg c i)])) (fun i=>pts (pg (fun i=>[.rs 6 (pn c i) (pg c i)]) i)) a b).length:=hin
    have v1:PV.val (.int .i64 (ixL (partsL lo hi k (pn (fun i=>[.rs 6 (pn c i) (pg c i)])) (fun i=>pts (pg (fun i=>[.rs 6 (pn c i) (pg c i)]) i)) a b) i))=PV.val (.int .i64 VI):=by rw [hL',hVI,h1,hI];rfl
    have v2:PV.val (.bool true)=PV.val (.bool VB):=by
     rw [hL'] at hin
     rw [hVB,h1]
     cases L with
     |nil=>cases hin
     |cons=>rfl
    with_unfolding_all exact⟨rfl,⟨[some 2,some 3,some 4],stOf [(4,.ptr 0 0 0 0),(5,.ptr 1 1 0 0),(6,.ptr 2 2 0 0)] [⟨3,1,0,true,false,1,fun _=>[.val (.int .i64 VI)]⟩,⟨4,1,1,true,false,1,fun _=>[.val (.bool VB)]⟩,⟨38,1,2,true,false,1,fun _=>[.val (.int .i64 (okW OK))]⟩] 3 [],Weak.of (by simp) ⟨⟨lt_ok rfl,rfl,rfl,rfl,rfl,rfl,⟨v1,rfl⟩,trivial⟩,⟨lt_ok rfl,rfl,rfl,rfl,rfl,rfl,⟨v2,rfl⟩,trivial⟩,⟨lt_ok rfl,rfl,rfl,rfl,rfl,rfl,⟨v3,rfl⟩,trivial⟩,trivial⟩ ⟨⟨rfl,rfl,rfl,lt_ok rfl,_,rfl⟩,⟨rfl,rfl,rfl,lt_ok rfl,_,rfl⟩,⟨rfl,rfl,rfl,lt_ok rfl,_,rfl⟩,trivial⟩ trivial,rfl,rfl⟩⟩
   ·have hI:(partsL lo hi k (pn (fun i=>[.rs 6 (pn c i) (pg c i)])) (fun i=>pts (pg (fun i=>[.rs 6 (pn c i) (pg c i)]) i)) a b).length=0:=hI
    rw [hL'] at hI
    have hI:=List.length_eq_zero_iff.1 hI
    have v1:PV.val (.int .i64 0)=PV.val (.int .i64 VI):=by rw [hVI,h1,hI];rfl
    have v2:PV.val (.bool false)=PV.val (.bool VB):=by rw [hVB,h1,hI];rfl
    with_unfolding_all exact⟨[some 2,some 3,some 4],stOf [(4,.ptr 0 0 0 0),(5,.ptr 1 1 0 0),(6,.ptr 2 2 0 0)] [⟨3,1,0,true,false,1,fun _=>[.val (.int .i64 VI)]⟩,⟨4,1,1,true,false,1,fun _=>[.val (.bool VB)]⟩,⟨38,1,2,true,false,1,fun _=>[.val (.int .i64 (okW OK))]⟩] 3 [],Weak.of (by simp) ⟨⟨lt_ok rfl,rfl,rfl,rfl,rfl,rfl,⟨v1,rfl⟩,trivial⟩,⟨lt_ok rfl,rfl,rfl,rfl,rfl,rfl,⟨v2,rfl⟩,trivial⟩,⟨lt_ok rfl,rfl,rfl,rfl,rfl,rfl,⟨v3,rfl⟩,trivial⟩,trivial⟩ ⟨⟨rfl,rfl,rfl,lt_ok rfl,_,rfl⟩,⟨rfl,rfl,rfl,lt_ok rfl,_,rfl⟩,⟨rfl,rfl,rfl,lt_ok rfl,_,rfl⟩,trivial⟩ trivial,rfl,rfl⟩
 ·cases e
end Go.Proofs
namespace Go.Num
open Go Go.Ex Go.Proofs
def seeB (lo hi:PtS) (k:Nat) (c:Nat→List PV) (l:Nat) (o:Nat→List PV) (a b:PtS):Bool:=okB lo hi k c l o (segV a b)&&(partsC lo hi k c (segV a b)).isEmpty
end Go.Num
namespace Go.Proofs
open Go Go.Ex Go.Num
set_option maxRecDepth 100000
def c56:List PV→Option Ans
 |[.agg [.val (.bool s1),.val (.string b1),.val (.string c1),.val (.bool s2),.val (.string b2),.val (.string c2),.val (.bool s3),.val (.string b3),.val (.string c3),.val (.bool s4),.val (.string b4),.val (.string c4),.rs 1 k c,.rs 3 l o],.val v,.val w]=>some ⟨some (((PtS.le 10000 (PtS.mk ⟨s1,b1,c1⟩ ⟨s2,b2,c2⟩)∧PtS.le 10000 (PtS.mk ⟨s3,b3,c3⟩ ⟨s4,b4,c4⟩))∧isCL 10000 k c∧isOL l o)∧isPk 10000 v∧isPk 10000 w),.val (.bool (seeB (PtS.mk ⟨s1,b1,c1⟩ ⟨s2,b2,c2⟩) (PtS.mk ⟨s3,b3,c3⟩ ⟨s4,b4,c4⟩) k c l o (rdV v) (rdV w))),[]⟩
 |_=>none
theorem ok56:funcOk {} Tryz.f56 1=true:=by kernel_rfl
theorem f56:FnOk Tryz.prog 56 c56:=by
 refine FnOk.ofW orders (mkE_ok (l:=[(91,c91)]) (own:=[]) (inl:=[]) (by simp [f91]) (by simp)) Tryz.func56 {} 3 ok56 fun args r e=>?_
 unfold c56 at e
 split at e
 ·rename_i s1 b1 c1 s2 b2 c2 s3 b3 c3 s4 b4 c4 k c l o v w
  cases e
  refine⟨by simp,fun hm=>?_⟩
  obtain⟨⟨⟨hlo,hhi⟩,⟨hc,hk⟩,ho,hl⟩,⟨a,rfl,ha⟩,b,rfl,hb⟩:=hm _ rfl
  obtain⟨lo,hlo'⟩:∃p,p=(PtS.mk ⟨s1,b1,c1⟩ ⟨s2,b2,c2⟩):=⟨_,rfl⟩
  obtain⟨hi,hhi'⟩:∃p,p=(PtS.mk ⟨s3,b3,c3⟩ ⟨s4,b4,c4⟩):=⟨_,rfl⟩
  have hc1:∀i,i < k→[.rs 6 (pn c i) (pg c i)]=c i:=fun i hi=>(hc i hi).1.symm
  have ho1:∀i,i < l→cellsO (ow o i)=o i:=fun i hi=>(ho i hi).symm
  refine⟨[],stOf [(0,.agg [.val (.bool (PtS.mk ⟨s1,b1,c1⟩ ⟨s2,b2,c2⟩).x.s),.val (.string (PtS.mk ⟨s1,b1,c1⟩ ⟨s2,b2,c2⟩).x.b),.val (.string (PtS.mk ⟨s1,b1,c1⟩ ⟨s2,b2,c2⟩).x.c),.val (.bool (PtS.mk ⟨s1,b1,c1⟩ ⟨s2,b2,c2⟩).y.s),.val (.string (PtS.mk ⟨s1,b1,c1⟩ ⟨s2,b2,c2⟩).y.b),.val (.string (PtS.mk ⟨s1,b1,c1⟩ ⟨s2,b2,c2⟩).y.c),.val (.bool (PtS.mk ⟨s3,b3,c3⟩ ⟨s4,b4,c4⟩).x.s),.val (.string (PtS.mk ⟨s3,b3,c3⟩ ⟨s4,b4,c4⟩).x.b),.val (.string (PtS.mk ⟨s3,b3,c3⟩ ⟨s4,b4,c4⟩).x.c),.val (.bool (PtS.mk ⟨s3,b3,c3⟩ ⟨s4,b4,c4⟩).y.s),.val (.string (PtS.mk ⟨s3,b3,c3⟩ ⟨s4,b4,c4⟩).y.b),.val (.string (PtS.mk ⟨s3,b3,c3⟩ ⟨s4,b4,c4⟩).y.c),.rs 1 k (fun i=>[.rs 6 (pn c i) (pg c i)]),.rs 3 l (fun i=>cellsO (ow o i))]),(1,.val a.v),(2,.val b.v)] [] 0 [],Weak.of (by simp) trivial ⟨⟨rfl,rfl,rfl,rfl,rfl,rfl,rfl,rfl,rfl,rfl,rfl,rfl,⟨rfl,rfl,hc1⟩,⟨rfl,rfl,ho1⟩,trivial⟩,rfl,rfl,trivial⟩ trivial,?_⟩
  rw [←hlo'] at hlo ⊢
  rw [←hhi'] at hhi ⊢
  clear hlo' hhi' hm
  have hlo':=hlo.mono (show 10000≤4294967296 by decide)
  have hhi':=hhi.mono (show 10000≤4294967296 by decide)
  have hrg:(lo.le 4294967296∧hi.le 4294967296)∧isCL 10000 k (fun i=>[.rs 6 (pn c i) (pg c i)])∧isOL l (fun i=>cellsO (ow o i)):=⟨⟨hlo',hhi'⟩,⟨fun i hi=>⟨rfl,(hc i hi).2⟩,hk⟩,fun i hi=>rfl,hl⟩
  obtain⟨R,hR⟩:∃R,R=regE lo hi k (pn c) (fun i=>pts (pg c i)) l (ow o):=⟨_,rfl⟩
  have hR':regE lo hi k (pn (fun i=>[.rs 6 (pn c i) (pg c i)])) (fun i=>pts (pg (fun i=>[.rs 6 (pn c i) (pg c i)]) i)) l (ow (fun i=>cellsO (ow o i)))=R:=hR.symm
  clear hR' hR
  obtain⟨S,hS⟩:∃S,S=seeB lo hi k c l o a b:=⟨_,rfl⟩
  have hv:seeB lo hi k c l o (rdV a.v) (rdV b.v)=S:=hS.symm
  rw [hv]
  have hrg2:((lo.le 10000∧hi.le 10000)∧isCL 10000 k (fun i=>[.rs 6 (pn c i) (pg c i)])∧isOL l (fun i=>cellsO (ow o i)))∧isSeg 10000 (segV a b):=⟨⟨⟨hlo,hhi⟩,⟨fun i hi=>⟨rfl,(hc i hi).2⟩,hk⟩,fun i hi=>rfl,hl⟩,a,b,rfl,ha,hb⟩
  have fv:okB lo hi k (fun i=>[.rs 6 (pn c i) (pg c i)]) l (fun i=>cellsO (ow o i)) (segV a b)=okB lo hi k c l o (segV a b):=rfl
  have fw:partsC lo hi k (fun i=>[.rs 6 (pn c i) (pg c i)]) (segV a b)=partsC lo hi k c (segV a b):=rfl
  have w1:(okW (okB lo hi k (fun i=>[.rs 6 (pn c i) (pg c i)]) l (fun i=>cellsO (ow o i)) (segV a b))==0)=true→PV.val (.bool (!(okB lo hi k (fun i=>[.rs 6 (pn c i) (pg c i)]) l (fun i=>cellsO (ow o i)) (segV a b)&&!(partsC lo hi k (fun i=>[.rs 6 (pn c i) (pg c i)]) (segV a b)).isEmpty)))=PV.val (.bool S):=fun h=>by
   have h:okB lo hi k (fun i=>[.rs 6 (pn c i) (pg c i)]) l (fun i=>cellsO (ow o i)) (segV a b)=true:=by cases h':okB lo hi k (fun i=>[.rs 6 (pn c i) (pg c i)]) l (fun i=>cellsO (ow o i)) (segV a b) with
    |true=>rfl
    |false=>rw [h'] at h;cases h
   rw [fv] at h ⊢
   rw [fw,h,hS,seeB,h,Bool.true_and,Bool.true_and,Bool.not_not]
  have w2:(okW (okB lo hi k (fun i=>[.rs 6 (pn c i) (pg c i)]) l (fun i=>cellsO (ow o i)) (segV a b))==0)=false→PV.val (.bool false)=PV.val (.bool S):=fun h=>by
   have h:okB lo hi k (fun i=>[.rs 6 (pn c i) (pg c i)]) l (fun i=>cellsO (ow o i)) (segV a b)=false:=by cases h':okB lo hi k (fun i=>[.rs 6 (pn c i) (pg c i)]) l (fun i=>cellsO (ow o i)) (segV a b) with
    |false=>rfl
    |true=>rw [h'] at h;cases h
   rw [fv] at h
   rw [hS,seeB,h,Bool.false_and]
  with_unfolding_all exact⟨hrg2,fun h1=>⟨[],stOf [(6,.val (.bool S))] [] 0 [],Weak.of (by simp) trivial ⟨w1 h1,trivial⟩ trivial,rfl,rfl⟩,fun h1=>⟨[],stOf [(6,.val (.bool S))] [] 0 [],Weak.of (by simp) trivial ⟨w2 h1,trivial⟩ trivial,rfl,rfl⟩⟩
 ·cases e
end Go.Proofs
namespace Go.Num
open Go Go.Ex Go.Proofs
def vertJ (S:PtS→Bool) (p:Nat→PtS):Nat→List PtS
 |0=>[]
 |j+1=>vertJ S p j++(bif S (p j) then [p j] else [])
def vertI (S:PtS→Bool) (n:Nat→Nat) (p:Nat→Nat→PtS):Nat→List PtS
 |0=>[]
 |i+1=>vertI S n p i++vertJ S (p i) (n i)
theorem vertJ_pre {S:PtS→Bool} {p:Nat→PtS}:∀(d j:Nat),vertJ S p j <+: vertJ S p (j+d)
 |0,j=>List.prefix_refl _
 |d+1,j=>(vertJ_pre d j).trans (List.prefix_append _ _)
theorem vertI_pre {S:PtS→Bool} {n:Nat→Nat} {p:Nat→Nat→PtS}:∀(d j:Nat),vertI S n p j <+: vertI S n p (j+d)
 |0,j=>List.prefix_refl _
 |d+1,j=>(vertI_pre d j).trans (List.prefix_append _ _)
theorem vert_at {S:PtS→Bool} {n:Nat→Nat} {p:Nat→Nat→PtS} {i k j:Nat} (hi:i < k) (hj:j < n i) (h:S (p i j)=true) :
  (vertI S n p k)[(vertI S n p i).length+(vertJ S (p i) j).length]? = some (p i j)∧(vertI S n p i).length+(vertJ S (p i) j).length < (vertI S n p k).length:=by
 obtain⟨t,ht⟩:=vertI_pre (S:=S) (n:=n) (p:=p) (k - (i+1)) (i+1)
 rw [show i+1+(k - (i+1))=k by omega] at ht
 obtain⟨u,hu⟩:=vertJ_pre (S:=S) (p:=p i) (n i - (j+1)) (j+1)
 rw [show j+1+(n i - (j+1))=n i by omega] at hu
 rw [←ht,vertI,←hu,vertJ,h]
 simp
def vertP (L:List PtS) (i:Nat):PtS:=L[i]?.getD (rdP [])
def vertC (lo hi:PtS) (k:Nat) (c:Nat→List PV) (l:Nat) (o:Nat→List PV):List PtS:=vertI (fun p=>seeB lo hi k c l o p p) (pn c) (fun i=>pts (pg c i)) k
end Go.Num
namespace Go.Proofs
open Go Go.Ex Go.Num
set_option maxRecDepth 100000
def c94:List PV→Option Ans
 |[.agg [.val (.bool s1),.val (.string b1),.val (.string c1),.val (.bool s2),.val (.string b2),.val (.string c2),.val (.bool s3),.val (.string b3),.val (.string c3),.val (.bool s4),.val (.string b4),.val (.string c4),.rs 1 k c,.rs 3 l o]]=>some ⟨some (((∀i,i < k→c i=[.rs 6 (pn c i) (pg c i)])∧∀i,i < l→o i=cellsO (ow o i))),.fn (.func 129) [] [.rp 14 1 (fun _=>regC (PtS.mk ⟨s1,b1,c1⟩ ⟨s2,b2,c2⟩) (PtS.mk ⟨s3,b3,c3⟩ ⟨s4,b4,c4⟩) k c l o) 0 0],[]⟩
 |_=>none
theorem ok94:funcOk {} Tryz.f94 1=true:=by kernel_rfl
theorem f94:FnOk Tryz.prog 94 c94:=by
 refine FnOk.ofW orders (mkE_ok (l:=[]) (own:=[]) (inl:=[]) (by simp) (by simp)) Tryz.func94 {} 1 ok94 fun args r e=>?_
 unfold c94 at e
 split at e
 ·rename_i s1 b1 c1 s2 b2 c2 s3 b3 c3 s4 b4 c4 k c l o
  cases e
  refine⟨by simp,fun hm=>?_⟩
  obtain⟨hc,ho⟩:=hm _ rfl
  have hc1:∀i,i < k→[.rs 6 (pn c i) (pg c i)]=c i:=fun i hi=>(hc i hi).symm
  have ho1:∀i,i < l→cellsO (ow o i)=o i:=fun i hi=>(ho i hi).symm
  refine⟨[],stOf [(0,.agg [.val (.bool (PtS.mk ⟨s1,b1,c1⟩ ⟨s2,b2,c2⟩).x.s),.val (.string (PtS.mk ⟨s1,b1,c1⟩ ⟨s2,b2,c2⟩).x.b),.val (.string (PtS.mk ⟨s1,b1,c1⟩ ⟨s2,b2,c2⟩).x.c),.val (.bool (PtS.mk ⟨s1,b1,c1⟩ ⟨s2,b2,c2⟩).y.s),.val (.string (PtS.mk ⟨s1,b1,c1⟩ ⟨s2,b2,c2⟩).y.b),.val (.string (PtS.mk ⟨s1,b1,c1⟩ ⟨s2,b2,c2⟩).y.c),.val (.bool (PtS.mk ⟨s3,b3,c3⟩ ⟨s4,b4,c4⟩).x.s),.val (.string (PtS.mk ⟨s3,b3,c3⟩ ⟨s4,b4,c4⟩).x.b),.val (.string (PtS.mk ⟨s3,b3,c3⟩ ⟨s4,b4,c4⟩).x.c),.val (.bool (PtS.mk ⟨s3,b3,c3⟩ ⟨s4,b4,c4⟩).y.s),.val (.string (PtS.mk ⟨s3,b3,c3⟩ ⟨s4,b4,c4⟩).y.b),.val (.string (PtS.mk ⟨s3,b3,c3⟩ ⟨s4,b4,c4⟩).y.c),.rs 1 k (fun i=>[.rs 6 (pn c i) (pg c i)]),.rs 3 l (fun i=>cellsO (ow o i))])] [] 0 [],Weak.of (by simp) trivial ⟨⟨rfl,rfl,rfl,rfl,rfl,rfl,rfl,rfl,rfl,rfl,rfl,rfl,⟨rfl,rfl,hc1⟩,⟨rfl,rfl,ho1⟩,trivial⟩,trivial⟩ trivial,?_⟩
  with_unfolding_all exact⟨[some 0],stOf [(2,.fn (.func 129) [] [.ptr 0 0 0 0])] [⟨31,14,0,true,false,1,fun _=>regC (PtS.mk ⟨s1,b1,c1⟩ ⟨s2,b2,c2⟩) (PtS.mk ⟨s3,b3,c3⟩ ⟨s4,b4,c4⟩) k c l o⟩] 1 [],Weak.of (by simp) ⟨⟨lt_ok rfl,rfl,rfl,rfl,rfl,rfl,⟨rfl,rfl⟩,⟨rfl,rfl⟩,⟨rfl,rfl⟩,⟨rfl,rfl⟩,⟨rfl,rfl⟩,⟨rfl,rfl⟩,⟨rfl,rfl⟩,⟨rfl,rfl⟩,⟨rfl,rfl⟩,⟨rfl,rfl⟩,⟨rfl,rfl⟩,⟨rfl,rfl⟩,⟨⟨rfl,rfl,fun _ _=>rfl⟩,rfl⟩,⟨⟨rfl,rfl,fun _ _=>rfl⟩,rfl⟩,trivial⟩,trivial⟩ ⟨⟨rfl,trivial,⟨rfl,rfl,rfl,lt_ok rfl,_,rfl⟩,trivial⟩,trivial⟩ trivial,rfl,rfl⟩
 ·cases e
def c129:List PV→Option SeqA
 |[.rp 14 1 h 0 0]=>some ⟨some (isG h∧((gLo (h 0)).le 10000∧(gHi (h 0)).le 10000)∧isCL 10000 (gK (h 0)) (gC (h 0))∧isOL (gL (h 0)) (gO (h 0))),(vertC (gLo (h 0)) (gHi (h 0)) (gK (h 0)) (gC (h 0)) (gL (h 0)) (gO (h 0))).length,fun i=>[.val (vertP (vertC (gLo (h 0)) (gHi (h 0)) (gK (h 0)) (gC (h 0)) (gL (h 0)) (gO (h 0))) i).v]⟩
 |_=>none
def D129:Opt:={ }
theorem ok129:funcOk D129.toOrd Tryz.f129 2=true:=by kernel_rfl
theorem f129:SeqFn Tryz.prog 129 c129:=by
 refine SeqFn.of orders (mkE_ok (l:=[(56,c56)]) (own:=[]) (inl:=[]) (by simp [f56]) (by simp)) Tryz.func129 D129 2 ok129 rfl fun args r e=>?_
 unfold c129 at e
 split at e
 ·rename_i h
  cases e
  refine⟨by simp,fun hm L0=>?_⟩
  obtain⟨h1,⟨hlo,hhi⟩,⟨hc,hk⟩,ho,hl⟩:=hm _ rfl
  unfold isG at h1
  generalize gLo (h 0)=lo at *
  generalize gHi (h 0)=hi at *
  generalize gK (h 0)=k at *
  generalize gC (h 0)=c at *
  generalize gL (h 0)=l at *
  generalize gO (h 0)=o at *
  subst h1
  clear hm
  with_unfolding_all refine⟨Nat,fun i=>i≤k,fun i=>stOf [(0,.val (.func (.yield L0) ⟨[]⟩ ⟨[]⟩)),(1,.rp 14 1 (fun _=>regC lo hi k c l o) 0 0),(8,.rs 1 k (fun i=>[.rs 6 (pn c i) (pg c i)])),(9,.val (goInt k)),(10,.val (goInt i))] [] 0 [[(0,.val (.int .i64 (((vertI (fun p=>seeB lo hi k c l o p p) (pn c) (fun i=>pts (pg c i)) i).length:Nat):Int))),(1,.val (.bool false))]],fun i=>k - i,⟨0,[],Nat.zero_le _,Weak.of (by simp) trivial ⟨rfl,⟨rfl,rfl,rfl,rfl,fun _ _=>rfl⟩,⟨rfl,rfl,fun _ _=>rfl⟩,rfl,rfl,trivial⟩ ⟨⟨rfl,rfl,trivial⟩,trivial⟩⟩,fun i hik=>?_⟩
  have ltT:decide ((i:Int) < (k:Int))=true→i < k:=fun h=>Int.ofNat_lt.1 (of_decide_eq_true h)
  have ltF:decide ((i:Int) < (k:Int))=false→i=k:=fun h=>Nat.le_antisymm hik (Nat.le_of_not_lt fun h'=>of_decide_eq_false h (Int.ofNat_lt.2 h'))
  with_unfolding_all refine⟨fun h0=>⟨⟨Int.natCast_nonneg i,Int.ofNat_lt.2 (ltT h0)⟩,Nat,fun j=>j≤pn c i,fun j=>stOf [(0,.val (.func (.yield L0) ⟨[]⟩ ⟨[]⟩)),(1,.rp 14 1 (fun _=>regC lo hi k c l o) 0 0),(8,.rs 1 k (fun i=>[.rs 6 (pn c i) (pg c i)])),(9,.val (goInt k)),(10,.val (goInt i)),(14,.rs 6 (pn c i) (fun j=>(pts (pg c i) j).cells)),(15,.val (goInt (pn c i))),(16,.val (goInt j))] [] 0 [[(0,.val (.int .i64 (((vertI (fun p=>seeB lo hi k c l o p p) (pn c) (fun i=>pts (pg c i)) i).length+(vertJ (fun p=>seeB lo hi k c l o p p) (pts (pg c i)) j).length:Nat):Int))),(1,.val (.bool false))]],fun j=>pn c i - j,⟨0,[],Nat.zero_le _,Weak.of (by simp) trivial ⟨rfl,⟨rfl,rfl,rfl,rfl,fun _ _=>rfl⟩,⟨rfl,rfl,fun _ _=>rfl⟩,rfl,rfl,⟨rfl,rfl,fun j hj=>((hc i (ltT h0)).2.1 j hj).1.symm⟩,rfl,rfl,trivial⟩ ⟨⟨rfl,rfl,trivial⟩,trivial⟩⟩,fun j hj=>?_⟩,fun h0=>?_⟩
  ·have hik:=ltT h0
   have jT:decide ((j:Int) < (pn c i:Int))=true→j < pn c i:=fun h=>Int.ofNat_lt.1 (of_decide_eq_true h)
   have jF:decide ((j:Int) < (pn c i:Int))=false→j=pn c i:=fun h=>Nat.le_antisymm hj (Nat.le_of_not_lt fun h'=>of_decide_eq_false h (Int.ofNat_lt.2 h'))
   have hn:=(hc i hik).2.2
   have wj:decide ((j:Int) < (pn c i:Int))=true→PV.val (.int .i64 (IntKind.i64.wrap ((j:Int)+1)))=.val (goInt (j+1:Nat)):=fun h=>by
    have:=jT h
    rw [wrap64 (by omega) (by omega)]
    rfl
   have wi:PV.val (.int .i64 (IntKind.i64.wrap ((i:Int)+1)))=.val (goInt (i+1:Nat)):=by
    rw [wrap64 (by omega) (by omega)]
    rfl
   have pr:decide ((j:Int) < (pn c i:Int))=true→(((lo.le 10000∧hi.le 10000)∧isCL 10000 k (fun i=>[.rs 6 (pn c i) (pg c i)])∧isOL l (fun i=>cellsO (ow o i)))∧isPk 10000 (pts (pg c i) ((j:Nat):Int).toNat).v∧isPk 10000 (pts (pg c i) ((j:Nat):Int).toNat).v):=fun h=>by
    have hp:=((hc i hik).2.1 j (jT h)).2
    exact⟨⟨⟨hlo,hhi⟩,⟨fun i hi=>⟨rfl,(hc i hi).2⟩,hk⟩,fun i hi=>rfl,hl⟩,⟨_,rfl,hp⟩,_,rfl,hp⟩
   have yl:j < pn c i→seeB lo hi k c l o (pts (pg c i) j) (pts (pg c i) j)=true→(vertI (fun p=>seeB lo hi k c l o p p) (pn c) (fun i=>pts (pg c i)) i).length+(vertJ (fun p=>seeB lo hi k c l o p p) (pts (pg c i)) j).length < (vertC lo hi k c l o).length∧[PV.val (pts (pg c i) ((j:Nat):Int).toNat).v]=[PV.val (vertP (vertC lo hi k c l o) ((vertI (fun p=>seeB lo hi k c l o p p) (pn c) (fun i=>pts (pg c i)) i).length+(vertJ (fun p=>seeB lo hi k c l o p p) (pts (pg c i)) j).length)).v]∧(vertI (fun p=>seeB lo hi k c l o p p) (pn c) (fun i=>pts (pg c i)) i).length+(vertJ (fun p=>seeB lo hi k c l o p p) (pts (pg c i)) j).length+1=(vertI (fun p=>seeB lo hi k c l o p p) (pn c) (fun i=>pts (pg c i)) i).length+(vertJ (fun p=>seeB lo hi k c l o p p) (pts (pg c i)) (j+1)).length:=fun h h'=>by
    have g:=vert_at (S:=(fun p=>seeB lo hi k c l o p p)) (n:=pn c) (p:=fun i=>pts (pg c i)) hik h h'
    refine⟨g.2,?_,?_⟩
    ·unfold vertP vertC
     rw [g.1]
     rfl
    ·rw [vertJ]
     simp only [h',cond_true,List.length_append,List.length_singleton]
     rfl
   have sk:seeB lo hi k c l o (pts (pg c i) j) (pts (pg c i) j)=false→(vertI (fun p=>seeB lo hi k c l o p p) (pn c) (fun i=>pts (pg c i)) i).length+(vertJ (fun p=>seeB lo hi k c l o p p) (pts (pg c i)) j).length=(vertI (fun p=>seeB lo hi k c l o p p) (pn c) (fun i=>pts (pg c i)) i).length+(vertJ (fun p=>seeB lo hi k c l o p p) (pts (pg c i)) (j+1)).length:=fun h'=>by
    rw [vertJ]
    simp only [h',cond_false,List.append_nil]
   have fin:decide ((j:Int) < (pn c i:Int))=false→(vertI (fun p=>seeB lo hi k c l o p p) (pn c) (fun i=>pts (pg c i)) i).length+(vertJ (fun p=>seeB lo hi k c l o p p) (pts (pg c i)) j).length=(vertI (fun p=>seeB lo hi k c l o p p) (pn c) (fun i=>pts (pg c i)) (i+1)).length:=fun h=>by
    rw [jF h,vertI,List.length_append]
   with_unfolding_all refine⟨fun h1=>⟨⟨Int.natCast_nonneg j,Int.ofNat_lt.2 (jT h1)⟩,pr h1,fun h2=>⟨rfl,(vertI (fun p=>seeB lo hi k c l o p p) (pn c) (fun i=>pts (pg c i)) i).length+(vertJ (fun p=>seeB lo hi k c l o p p) (pts (pg c i)) j).length,rfl,(yl (jT h1) h2).1,(yl (jT h1) h2).2.1,⟨fun _=>⟨fun e=>(nomatch e),fun _=>⟨j+1,[],jT h1,by have:=jT h1;show pn c i - (j+1) < pn c i - j;omega,Weak.of (by simp) trivial ⟨rfl,⟨rfl,rfl,rfl,rfl,fun _ _=>rfl⟩,⟨rfl,rfl,fun _ _=>rfl⟩,rfl,rfl,⟨rfl,rfl,fun _ _=>rfl⟩,rfl,wj h1,trivial⟩ ⟨⟨congrArg (fun z:Nat=>PV.val (.int .i64 (z:Int))) (yl (jT h1) h2).2.2,rfl,trivial⟩,trivial⟩⟩⟩,fun e=>(nomatch e)⟩,⟨fun _=>⟨fun _=>trivial,fun e=>(nomatch e)⟩,fun e=>(nomatch e)⟩⟩,fun h2=>⟨fun e=>(nomatch e),fun _=>⟨j+1,[],jT h1,by have:=jT h1;show pn c i - (j+1) < pn c i - j;omega,Weak.of (by simp) trivial ⟨rfl,⟨rfl,rfl,rfl,rfl,fun _ _=>rfl⟩,⟨rfl,rfl,fun _ _=>rfl⟩,rfl,rfl,⟨rfl,rfl,fun _ _=>rfl⟩,rfl,wj h1,trivial⟩ ⟨⟨congrArg (fun z:Nat=>PV.val (.int .i64 (z:Int))) (sk h2),rfl,trivial⟩,trivial⟩⟩⟩⟩,fun h1=>⟨i+1,[],hik,by show k - (i+1) < k - i;omega,Weak.of (by simp) trivial ⟨rfl,⟨rfl,rfl,rfl,rfl,fun _ _=>rfl⟩,⟨rfl,rfl,fun _ _=>rfl⟩,rfl,wi,trivial⟩ ⟨⟨congrArg (fun z:Nat=>PV.val (.int .i64 (z:Int))) (fin h1),rfl,trivial⟩,trivial⟩⟩⟩
  ·rw [ltF h0]
   rfl
 ·cases e
end Go.Proofs
namespace Go.Proofs
open Go Go.Ex Go.Num
set_option maxRecDepth 100000
theorem apd_one {V r:Nat→List PV} {y:Nat} (h:r 0=V y):∀i,i < y+1→V i=apd y V r i:=fun i hi=>by
 unfold apd
 by_cases hy:i < y
 ·rw [if_pos hy]
 ·obtain rfl:i=y:=by omega
  rw [if_neg hy,Nat.sub_self,h]
def c175:List PV→Option Ans
 |[.val (.slice none 0 0),.fn (.func 129) [] [.rp 14 1 h 0 0]]=>some ⟨some ((isG h∧((gLo (h 0)).le 10000∧(gHi (h 0)).le 10000)∧isCL 10000 (gK (h 0)) (gC (h 0))∧isOL (gL (h 0)) (gO (h 0)))∧(vertC (gLo (h 0)) (gHi (h 0)) (gK (h 0)) (gC (h 0)) (gL (h 0)) (gO (h 0))).length≤1000),.sl 0 0 0 (vertC (gLo (h 0)) (gHi (h 0)) (gK (h 0)) (gC (h 0)) (gL (h 0)) (gO (h 0))).length,[⟨25,6,0,false,false,(vertC (gLo (h 0)) (gHi (h 0)) (gK (h 0)) (gC (h 0)) (gL (h 0)) (gO (h 0))).length,fun i=>(vertP (vertC (gLo (h 0)) (gHi (h 0)) (gK (h 0)) (gC (h 0)) (gL (h 0)) (gO (h 0))) i).cells⟩]⟩
 |_=>none
def D175:Opt:={ }
theorem ok175:funcOk D175.toOrd Tryz.f175 2=true:=by kernel_rfl
theorem f175:FnOk Tryz.prog 175 c175:=by
 refine FnOk.ofW orders (mkS_ok (l:=[]) (own:=[]) (inl:=[]) (sq:=[(129,c129)]) (by simp) (by simp) (by simp [f129])) Tryz.func175 D175 2 ok175 fun args r e=>?_
 unfold c175 at e
 split at e
 ·rename_i h
  cases e
  refine⟨by simp,fun hm=>?_⟩
  obtain⟨hp,hn⟩:=hm _ rfl
  refine⟨[],stOf [(0,.val (.slice none 0 0)),(1,.fn (.func 129) [] [.rp 14 1 h 0 0])] [] 0 [],Weak.of (by simp) trivial ⟨rfl,⟨rfl,trivial,⟨rfl,rfl,rfl,rfl,fun _ _=>rfl⟩,trivial⟩,trivial⟩ trivial,?_⟩
  have hP:isG h∧((gLo (h 0)).le 10000∧(gHi (h 0)).le 10000)∧isCL 10000 (gK (h 0)) (gC (h 0))∧isOL (gL (h 0)) (gO (h 0)):=hp
  with_unfolding_all refine⟨hP,Nat,fun i y=>y=i,fun y=>stOf [(2,.ptr 0 0 0 0)] [⟨34,1,0,true,false,1,fun _=>[.sl 1 1 0 y]⟩,⟨25,6,1,false,false,y,fun i=>(vertP (vertC (gLo (h 0)) (gHi (h 0)) (gK (h 0)) (gC (h 0)) (gL (h 0)) (gO (h 0))) i).cells⟩] 2 [],⟨0,[some 0,none],rfl,Weak.of (by simp) ⟨⟨lt_ok rfl,rfl,rfl,rfl,rfl,rfl,⟨⟨rfl,rfl,rfl,rfl,lt_ok rfl⟩,rfl⟩,trivial⟩,⟨lt_ok rfl,rfl,rfl,rfl⟩,trivial⟩ ⟨⟨rfl,rfl,rfl,lt_ok rfl,_,rfl⟩,trivial⟩ trivial⟩,fun i y hi hI=>?_,fun y hI=>?_⟩
  ·have hy:y < 1000:=Nat.lt_of_lt_of_le (show y < (vertC (gLo (h 0)) (gHi (h 0)) (gK (h 0)) (gC (h 0)) (gL (h 0)) (gO (h 0))).length from hI▸hi) hn
   have hI:y=i:=hI
   subst hI
   have k1:(y+1)*80≤140737488355328:=by omega
   with_unfolding_all refine⟨rfl,⟨rfl,?_,?_⟩,y+1,[some 0,some 1],rfl,Weak.of (by simp) ⟨⟨lt_ok rfl,rfl,rfl,rfl,rfl,rfl,⟨⟨rfl,rfl,rfl,lt_ok rfl,_,rfl⟩,rfl⟩,trivial⟩,⟨lt_ok rfl,rfl,rfl,rfl,rfl,rfl,?_⟩,trivial⟩ ⟨⟨rfl,rfl,rfl,lt_ok rfl,_,rfl⟩,trivial⟩ trivial⟩
   ·with_unfolding_all exact k1
   ·with_unfolding_all exact(show y+1≤9223372036854775807 by omega)
   ·with_unfolding_all exact apd_one (V:=fun i=>(vertP (vertC (gLo (h 0)) (gHi (h 0)) (gK (h 0)) (gC (h 0)) (gL (h 0)) (gO (h 0))) i).cells) rfl
  ·have hI:y=(vertC (gLo (h 0)) (gHi (h 0)) (gK (h 0)) (gC (h 0)) (gL (h 0)) (gO (h 0))).length:=hI
   subst hI
   with_unfolding_all exact⟨[some 1],stOf [(4,.sl 0 0 0 (vertC (gLo (h 0)) (gHi (h 0)) (gK (h 0)) (gC (h 0)) (gL (h 0)) (gO (h 0))).length)] [⟨25,6,0,false,false,(vertC (gLo (h 0)) (gHi (h 0)) (gK (h 0)) (gC (h 0)) (gL (h 0)) (gO (h 0))).length,fun i=>(vertP (vertC (gLo (h 0)) (gHi (h 0)) (gK (h 0)) (gC (h 0)) (gL (h 0)) (gO (h 0))) i).cells⟩] 1 [],Weak.of (by simp) ⟨⟨lt_ok rfl,rfl,rfl,rfl,rfl,rfl,fun _ _=>rfl⟩,trivial⟩ ⟨⟨rfl,rfl,rfl,lt_ok rfl,_,rfl⟩,trivial⟩ trivial,rfl,rfl⟩
 ·cases e
def c127:List PV→Option Ans
 |[.fn (.func 129) [] [.rp 14 1 h 0 0]]=>some ⟨some ((isG h∧((gLo (h 0)).le 10000∧(gHi (h 0)).le 10000)∧isCL 10000 (gK (h 0)) (gC (h 0))∧isOL (gL (h 0)) (gO (h 0)))∧(vertC (gLo (h 0)) (gHi (h 0)) (gK (h 0)) (gC (h 0)) (gL (h 0)) (gO (h 0))).length≤1000),.sl 0 0 0 (vertC (gLo (h 0)) (gHi (h 0)) (gK (h 0)) (gC (h 0)) (gL (h 0)) (gO (h 0))).length,[⟨25,6,0,false,false,(vertC (gLo (h 0)) (gHi (h 0)) (gK (h 0)) (gC (h 0)) (gL (h 0)) (gO (h 0))).length,fun i=>(vertP (vertC (gLo (h 0)) (gHi (h 0)) (gK (h 0)) (gC (h 0)) (gL (h 0)) (gO (h 0))) i).cells⟩]⟩
 |_=>none
theorem ok127:funcOk {} Tryz.f127 1=true:=by kernel_rfl
theorem f127:FnOk Tryz.prog 127 c127:=by
 refine FnOk.ofW orders (mkE_ok (l:=[(175,c175)]) (own:=[175]) (inl:=[]) (by simp [f175]) (by simp)) Tryz.func127 {} 1 ok127 fun args r e=>?_
 unfold c127 at e
 split at e
 ·rename_i h
  cases e
  refine⟨by simp,fun hm=>?_⟩
  have hp:=hm _ rfl
  refine⟨[],stOf [(0,.fn (.func 129) [] [.rp 14 1 h 0 0])] [] 0 [],Weak.of (by simp) trivial ⟨⟨rfl,trivial,⟨rfl,rfl,rfl,rfl,fun _ _=>rfl⟩,trivial⟩,trivial⟩ trivial,?_⟩
  with_unfolding_all refine⟨hp,?_⟩
  with_unfolding_all exact⟨[some 0],stOf [(2,.sl 0 0 0 (vertC (gLo (h 0)) (gHi (h 0)) (gK (h 0)) (gC (h 0)) (gL (h 0)) (gO (h 0))).length)] [⟨25,6,0,false,false,(vertC (gLo (h 0)) (gHi (h 0)) (gK (h 0)) (gC (h 0)) (gL (h 0)) (gO (h 0))).length,fun i=>(vertP (vertC (gLo (h 0)) (gHi (h 0)) (gK (h 0)) (gC (h 0)) (gL (h 0)) (gO (h 0))) i).cells⟩] 1 [],Weak.of (by simp) ⟨⟨lt_ok rfl,rfl,rfl,rfl,rfl,rfl,fun _ _=>rfl⟩,trivial⟩ ⟨⟨rfl,rfl,rfl,lt_ok rfl,_,rfl⟩,trivial⟩ trivial,rfl,rfl⟩
 ·cases e
end Go.Proofs
namespace Go.Proofs
open Go Go.Ex Go.Num
set_option maxRecDepth 100000
def c166:List PV→Option Ans
 |[.val (.int .u64 x)]=>some ⟨some (0≤x∧x < 256),.val (.int .i64 (blen x.toNat:Nat)),[]⟩
 |_=>none
theorem ok166:funcOk {} Tryz.f166 1=true:=by kernel_rfl
theorem f166:FnOk Tryz.prog 166 c166:=by
 refine FnOk.of orders (mkE_ok (l:=[]) (own:=[]) (inl:=[]) (by simp) (by simp)) Tryz.func166 {} 1 ok166 fun args r e=>?_
 unfold c166 at e
 split at e
 ·rename_i x
  cases e
  refine⟨by simp,fun hm=>?_⟩
  obtain⟨h0,h1⟩:=hm _ rfl
  obtain⟨x,rfl⟩:=Int.eq_ofNat_of_zero_le h0
  with_unfolding_all refine⟨fun h2=>?_,fun h2=>⟨fun h3=>?_,fun h3=>⟨fun h4=>?_,fun h4=>?_⟩⟩⟩
  ·have h2:=of_decide_eq_true h2
   exact absurd h2 (by show ¬((4294967296:Int)≤x);omega)
  ·have h2:=of_decide_eq_true h3
   exact absurd h2 (by show ¬((65536:Int)≤x);omega)
  ·have h2:=of_decide_eq_true h4
   exact absurd h2 (by show ¬((256:Int)≤x);omega)
  ·with_unfolding_all refine⟨?_,?_,rfl⟩
   ·rw [wrapU8]
    show _∧_ < ((256:Nat):Int)
    omega
   ·exact tab_at (m:=x) (by decide +kernel) (by rw [wrapU8];omega) (by omega) (by omega) (by decide) (by decide)
 ·cases e
def c121:List PV→Option Ans
 |[.val (.int .u64 x)]=>some ⟨some (0≤x∧x < 256),.val (.int .i64 (blen x.toNat:Nat)),[]⟩
 |_=>none
theorem ok121:funcOk {} Tryz.f121 1=true:=by kernel_rfl
theorem f121:FnOk Tryz.prog 121 c121:=by
 refine FnOk.of orders (mkE_ok (l:=[(166,c166)]) (own:=[]) (inl:=[]) (by simp [f166]) (by simp)) Tryz.func121 {} 1 ok121 fun args r e=>?_
 unfold c121 at e
 split at e
 ·rename_i x
  cases e
  refine⟨by simp,fun hm=>?_⟩
  have hp:=hm _ rfl
  with_unfolding_all exact⟨fun h=>(nomatch h),fun _=>⟨hp,rfl,rfl⟩⟩
 ·cases e
end Go.Proofs
namespace Go.Num
open Go Go.Ex Go.Proofs
def swpP (q:Nat→PtS) (j:Nat):Nat→PtS:=fun k=>if k=j then q (j - 1) else if k=j - 1 then q j else q k
def insJ (q:Nat→PtS):Nat→(Nat→PtS)
 |0=>q
 |j+1=>if cmpP (q (j+1)) (q j) < 0 then insJ (swpP q (j+1)) j else q
def srtI (p:Nat→PtS):Nat→(Nat→PtS)
 |0=>p
 |i+1=>insJ (srtI p i) i
theorem insJ_le {n:Nat}:∀(j:Nat) {q:Nat→PtS},j < n→(∀k,k < n→(q k).le 10000)→∀k,k < n→(insJ q j k).le 10000
 |0,_,_,h=>h
 |j+1,q,hj,h=>by
  rw [insJ]
  split
  ·refine insJ_le j (by omega) fun k hk=>?_
   unfold swpP
   split
   ·exact h _ (by omega)
   ·split
    ·exact h _ (by omega)
    ·exact h _ hk
  ·exact h
theorem srtI_le {n:Nat} {p:Nat→PtS}:∀{i:Nat},i≤n→(∀k,k < n→(p k).le 10000)→∀k,k < n→(srtI p i k).le 10000
 |0,_,h=>h
 |i+1,hi,h=>insJ_le i (by omega) (srtI_le (by omega) h)
theorem vertC_le {lo hi:PtS} {k:Nat} {c:Nat→List PV} {l:Nat} {o:Nat→List PV} (h:isCL 10000 k c):∀p∈vertC lo hi k c l o,p.le 10000:=by
 have hJ:∀{S:PtS→Bool} {q:Nat→PtS} {n:Nat},(∀j,j < n→(q j).le 10000)→∀p∈vertJ S q n,p.le 10000:=fun {S q n}=>by
  induction n with
  |zero=>intro _ p hp;cases hp
  |succ n ih =>
   intro hq p hp
   rw [vertJ] at hp
   rcases List.mem_append.1 hp with hp|hp
   ·exact ih (fun j hj=>hq j (by omega)) p hp
   ·cases hS:S (q n) with
    |true =>
     rw [hS] at hp
     rw [List.mem_singleton.1 hp]
     exact hq n (by omega)
    |false=>rw [hS] at hp;cases hp
 unfold vertC
 have hI:∀i,i≤k→∀p∈vertI (fun p=>seeB lo hi k c l o p p) (pn c) (fun i=>pts (pg c i)) i,p.le 10000:=fun i=>by
  induction i with
  |zero=>intro _ p hp;cases hp
  |succ i ih =>
   intro hi p hp
   rw [vertI] at hp
   rcases List.mem_append.1 hp with hp|hp
   ·exact ih (by omega) p hp
   ·exact hJ (fun j hj=>((h.1 i (by omega)).2.1 j hj).2) p hp
 exact hI k (Nat.le_refl k)
theorem vertP_le {V:List PtS} (h:∀p∈V,p.le 10000) {i:Nat} (hi:i < V.length):(vertP V i).le 10000:=by
 unfold vertP
 rw [List.getElem?_eq_getElem hi]
 exact h _ (List.getElem_mem hi)
end Go.Num
namespace Go.Proofs
open Go Go.Ex Go.Num
set_option maxRecDepth 100000
def D213:Opt:={ perm:=atTs [(6,.rds [0,1,2,3,4,5,6,7,8,9,10,11,12,13,14] .nil)] }
theorem ok213:funcOk D213.toOrd Tryz.f213 4=true:=by kernel_rfl
def T213:Trans:=fun args s K=>args.length≤4∧walk Tryz.prog (mkE [(38,c38)] [] []) D213 Tryz.f213 args s K
theorem t213:TransOk Tryz.prog 213 T213:=walk_ok orders (mkE_ok (by simp [f38]) (by simp)) Tryz.func213 D213 4 ok213 fun _ _ _ h=>h
theorem ok176:funcOk {} Tryz.f176 5=true:=by kernel_rfl
def T176:Trans:=fun args s K=>args.length≤5∧walk Tryz.prog (mkE [] [] [(213,T213)]) {} Tryz.f176 args s K
theorem t176:TransOk Tryz.prog 176 T176:=walk_ok orders (mkE_ok (by simp) (by simp [t213])) Tryz.func176 {} 5 ok176 fun _ _ _ h=>h
theorem ok128:funcOk {} Tryz.f128 2=true:=by kernel_rfl
def T128:Trans:=fun args s K=>args.length≤2∧walk Tryz.prog (mkE [(121,c121)] [] [(176,T176)]) {} Tryz.f128 args s K
theorem t128:TransOk Tryz.prog 128 T128:=walk_ok orders (mkE_ok (by simp [f121]) (by simp [t176])) Tryz.func128 {} 2 ok128 fun _ _ _ h=>h
def c93:List PV→Option Ans
 |[.fn (.func 129) [] [.rp 14 1 h 0 0],.val (.func (.func 38) ⟨[]⟩ ⟨[]⟩)]=>some ⟨some ((isG h∧((gLo (h 0)).le 10000∧(gHi (h 0)).le 10000)∧isCL 10000 (gK (h 0)) (gC (h 0))∧isOL (gL (h 0)) (gO (h 0)))∧(vertC (gLo (h 0)) (gHi (h 0)) (gK (h 0)) (gC (h 0)) (gL (h 0)) (gO (h 0))).length≤12),.sl 0 0 0 (vertC (gLo (h 0)) (gHi (h 0)) (gK (h 0)) (gC (h 0)) (gL (h 0)) (gO (h 0))).length,[⟨25,6,0,false,false,(vertC (gLo (h 0)) (gHi (h 0)) (gK (h 0)) (gC (h 0)) (gL (h 0)) (gO (h 0))).length,fun i=>(srtI (vertP (vertC (gLo (h 0)) (gHi (h 0)) (gK (h 0)) (gC (h 0)) (gL (h 0)) (gO (h 0)))) (vertC (gLo (h 0)) (gHi (h 0)) (gK (h 0)) (gC (h 0)) (gL (h 0)) (gO (h 0))).length i).cells⟩]⟩
 |_=>none
theorem ok93:funcOk {} Tryz.f93 2=true:=by kernel_rfl
theorem f93:FnOk Tryz.prog 93 c93:=by
 refine FnOk.ofW orders (mkE_ok (l:=[(127,c127)]) (own:=[127]) (inl:=[(128,T128)]) (by simp [f127]) (by simp [t128])) Tryz.func93 {} 2 ok93 fun args r e=>?_
 unfold c93 at e
 split at e
 ·rename_i h
  cases e
  refine⟨by simp,fun hm=>?_⟩
  obtain⟨hp,hn⟩:=hm _ rfl
  refine⟨[],stOf [(0,.fn (.func 129) [] [.rp 14 1 h 0 0]),(1,.val (.func (.func 38) ⟨[]⟩ ⟨[]⟩))] [] 0 [],Weak.of (by simp) trivial ⟨⟨rfl,trivial,⟨rfl,rfl,rfl,rfl,fun _ _=>rfl⟩,trivial⟩,rfl,trivial⟩ trivial,?_⟩
  have hle:=vertC_le (lo:=gLo (h 0)) (hi:=gHi (h 0)) (l:=gL (h 0)) (o:=gO (h 0)) hp.2.2.1
  with_unfolding_all refine⟨⟨hp,Nat.le_trans hn (by decide)⟩,?_⟩
  clear hp hm
  generalize (vertC (gLo (h 0)) (gHi (h 0)) (gK (h 0)) (gC (h 0)) (gL (h 0)) (gO (h 0)))=V at *
  have hw:IntKind.u64.wrap (V.length:Int)=V.length:=by
   show(V.length:Int)%2^64=V.length
   omega
  have hb:0≤IntKind.u64.wrap (V.length:Int)∧IntKind.u64.wrap (V.length:Int) < 256:=by rw [hw];omega
  with_unfolding_all refine⟨Nat.le_refl 2,hb,Nat.le_refl 5,Unit,fun _=>True,fun _=>stOf [(0,.sl 0 0 0 V.length),(1,.val (.int .i64 0)),(2,.val (goInt V.length)),(4,.val (.func (.func 38) ⟨[]⟩ ⟨[]⟩))] [⟨25,6,0,false,false,V.length,fun z=>(vertP V z).cells⟩] 1 [[],[(5,.sl 0 0 0 V.length)]],fun _=>0,⟨(),[some 0],trivial,Weak.of (by simp) ⟨⟨lt_ok rfl,rfl,rfl,rfl,rfl,rfl,fun _ _=>rfl⟩,trivial⟩ ⟨⟨rfl,rfl,rfl,lt_ok rfl,_,rfl⟩,rfl,rfl,rfl,trivial⟩ ⟨trivial,⟨⟨rfl,rfl,rfl,lt_ok rfl,_,rfl⟩,trivial⟩,trivial⟩⟩,fun _ _=>⟨fun h0=>?_,fun h0=>?_⟩⟩
  ·with_unfolding_all refine⟨Nat.le_refl 4,Nat,fun i=>1≤i∧(i≤V.length∨i=1),fun i=>stOf [(0,.sl 0 0 0 V.length),(1,.val (.int .i64 0)),(2,.val (goInt V.length)),(3,.val (.func (.func 38) ⟨[]⟩ ⟨[]⟩)),(8,.val (goInt i))] [⟨25,6,0,false,false,V.length,fun z=>((srtI (vertP V) i) z).cells⟩] 1 [[],[],[(5,.sl 0 0 0 V.length)]],fun i=>V.length - i,⟨1,[some 0],⟨Nat.le_refl 1,Or.inr rfl⟩,Weak.of (by simp) ⟨⟨lt_ok rfl,rfl,rfl,rfl,rfl,rfl,fun _ _=>rfl⟩,trivial⟩ ⟨⟨rfl,rfl,rfl,lt_ok rfl,_,rfl⟩,rfl,rfl,rfl,rfl,trivial⟩ ⟨trivial,trivial,⟨⟨rfl,rfl,rfl,lt_ok rfl,_,rfl⟩,trivial⟩,trivial⟩⟩,fun i hi=>⟨fun h1=>?_,fun h1=>?_⟩⟩
   ·obtain⟨hi1,hi2⟩:1≤i∧(i≤V.length∨i=1):=hi
    have h1:(i:Int) < V.length:=of_decide_eq_true h1
    with_unfolding_all refine⟨Nat×(Nat→PtS),fun x=>x.1≤i∧insJ x.2 x.1=srtI (vertP V) (i+1)∧∀k,k < V.length→(x.2 k).le 10000,fun x=>stOf [(0,.sl 0 0 0 V.length),(1,.val (.int .i64 0)),(2,.val (goInt V.length)),(3,.val (.func (.func 38) ⟨[]⟩ ⟨[]⟩)),(8,.val (goInt i)),(9,.val (goInt x.1))] [⟨25,6,0,false,false,V.length,fun z=>(x.2 z).cells⟩] 1 [[],[],[(5,.sl 0 0 0 V.length)]],fun x=>x.1,⟨(i,srtI (vertP V) i),[some 0],⟨Nat.le_refl i,rfl,?_⟩,Weak.of (by simp) ⟨⟨lt_ok rfl,rfl,rfl,rfl,rfl,rfl,fun _ _=>rfl⟩,trivial⟩ ⟨⟨rfl,rfl,rfl,lt_ok rfl,_,rfl⟩,rfl,rfl,rfl,rfl,rfl,trivial⟩ ⟨trivial,trivial,⟨⟨rfl,rfl,rfl,lt_ok rfl,_,rfl⟩,trivial⟩,trivial⟩⟩,fun x hx=>?_⟩
    ·exact srtI_le (by omega) fun k hk=>vertP_le hle hk
    ·obtain⟨j,q⟩:=x
     obtain⟨hj,hq,hl⟩:j≤i∧insJ q j=srtI (vertP V) (i+1)∧∀k,k < V.length→(q k).le 10000:=hx
     have wi:PV.val (.int .i64 (IntKind.i64.wrap ((i:Int)+1)))=.val (goInt (i+1:Nat)):=by
      rw [wrap64 (by omega) (by omega)]
      rfl
     match j,hj,hq with
     |0,_,hq =>
      have hq':srtI (vertP V) (i+1)=q:=hq.symm
      with_unfolding_all exact⟨fun h=>absurd h (by show ¬decide (((0:Nat):Int) > 0)=true;decide),fun _=>⟨fun e=>(nomatch e),fun _=>⟨i+1,[some 0],⟨by omega,Or.inl (by omega)⟩,by show V.length - (i+1) < V.length - i;omega,Weak.of (by simp) ⟨⟨lt_ok rfl,rfl,rfl,rfl,rfl,rfl,fun z _=>congrArg (fun f:Nat→PtS=>(f z).cells) hq'⟩,trivial⟩ ⟨⟨rfl,rfl,rfl,lt_ok rfl,_,rfl⟩,rfl,rfl,rfl,wi,trivial⟩ ⟨trivial,trivial,⟨⟨rfl,rfl,rfl,lt_ok rfl,_,rfl⟩,trivial⟩,trivial⟩⟩⟩⟩
     |m+1,hj,hq =>
      have w1:IntKind.i64.wrap (((m+1:Nat):Int) - 1)=m:=by rw [wrap64 (by omega) (by omega)];omega
      have e1:(0+((m+1:Nat):Int).toNat)=m+1:=by omega
      have e2:(0+(IntKind.i64.wrap (((m+1:Nat):Int) - 1)).toNat)=m:=by rw [w1];omega
      have bA:0≤((m+1:Nat):Int)∧((m+1:Nat):Int) < V.length:=by omega
      have bB:0≤IntKind.i64.wrap (((m+1:Nat):Int) - 1)∧IntKind.i64.wrap (((m+1:Nat):Int) - 1) < V.length:=by rw [w1];omega
      have pr:isPk 4294967296 (q (0+((m+1:Nat):Int).toNat)).v∧isPk 4294967296 (q (0+(IntKind.i64.wrap (((m+1:Nat):Int) - 1)).toNat)).v:=by
       rw [e1,e2]
       exact⟨⟨_,rfl,(hl _ (by omega)).mono (by decide)⟩,_,rfl,(hl _ (by omega)).mono (by decide)⟩
      have hC:decide (cmpP (rdV (q (0+((m+1:Nat):Int).toNat)).v) (rdV (q (0+(IntKind.i64.wrap (((m+1:Nat):Int) - 1)).toNat)).v) < 0)=decide (cmpP (q (m+1)) (q m) < 0):=by
       rw [e1,e2]
       rfl
      have hT:decide (cmpP (rdV (q (0+((m+1:Nat):Int).toNat)).v) (rdV (q (0+(IntKind.i64.wrap (((m+1:Nat):Int) - 1)).toNat)).v) < 0)=true→insJ (swpP q (m+1)) m=srtI (vertP V) (i+1):=fun h=>by
       rw [hC] at h
       rw [insJ,if_pos (of_decide_eq_true h)] at hq
       exact hq
      have hF:decide (cmpP (rdV (q (0+((m+1:Nat):Int).toNat)).v) (rdV (q (0+(IntKind.i64.wrap (((m+1:Nat):Int) - 1)).toNat)).v) < 0)=false→srtI (vertP V) (i+1)=q:=fun h=>by
       rw [hC] at h
       rw [insJ,if_neg (of_decide_eq_false h)] at hq
       exact hq.symm
      have hS:∀k,k < V.length→(swpP q (m+1) k).le 10000:=fun k hk=>by
       unfold swpP
       split
       ·exact hl _ (by omega)
       ·split
        ·exact hl _ (by omega)
        ·exact hl _ hk
      with_unfolding_all refine⟨fun _=>⟨bA,bB,pr,fun h=>⟨bB,bA,bA,bB,⟨(m,swpP q (m+1)),[some 0],⟨by show m≤i;omega,hT h,hS⟩,Nat.lt_succ_self m,Weak.of (by simp) ⟨⟨lt_ok rfl,rfl,rfl,rfl,rfl,rfl,?_⟩,trivial⟩ ⟨⟨rfl,rfl,rfl,lt_ok rfl,_,rfl⟩,rfl,rfl,rfl,rfl,congrArg (fun z=>PV.val (.int .i64 z)) w1,trivial⟩ ⟨trivial,trivial,⟨⟨rfl,rfl,rfl,lt_ok rfl,_,rfl⟩,trivial⟩,trivial⟩⟩⟩,fun h=>⟨i+1,[some 0],⟨by omega,Or.inl (by omega)⟩,by show V.length - (i+1) < V.length - i;omega,Weak.of (by simp) ⟨⟨lt_ok rfl,rfl,rfl,rfl,rfl,rfl,fun z _=>congrArg (fun f:Nat→PtS=>(f z).cells) (hF h)⟩,trivial⟩ ⟨⟨rfl,rfl,rfl,lt_ok rfl,_,rfl⟩,rfl,rfl,rfl,wi,trivial⟩ ⟨trivial,trivial,⟨⟨rfl,rfl,rfl,lt_ok rfl,_,rfl⟩,trivial⟩,trivial⟩⟩⟩,fun h=>absurd h (by show ¬decide (((m+1:Nat):Int) > 0) = !true;rw [decide_eq_true (by omega)];decide)⟩
      intro z hz
      show(swpP q (m+1) z).cells=if z=(0+(IntKind.i64.wrap (((m+1:Nat):Int) - 1)).toNat) then(q (0+((m+1:Nat):Int).toNat)).cells else if z=(0+((m+1:Nat):Int).toNat) then(q (0+(IntKind.i64.wrap (((m+1:Nat):Int) - 1)).toNat)).cells else(q z).cells
      rw [e1,e2]
      unfold swpP
      by_cases h1:z=m+1
      ·rw [if_pos h1,if_neg (show ¬z=m by omega),if_pos h1]
       rfl
      ·rw [if_neg h1,if_neg h1]
       by_cases h2:z=m
       ·rw [if_pos (show z=m+1 - 1 by omega),if_pos h2]
       ·rw [if_neg (show ¬z=m+1 - 1 by omega),if_neg h2]
   ·obtain⟨hi1,hi2⟩:1≤i∧(i≤V.length∨i=1):=hi
    have h1:¬(i:Int) < V.length:=of_decide_eq_false h1
    have hfin:∀z,z < V.length→(srtI (vertP V) V.length z).cells=(srtI (vertP V) i z).cells:=fun z hz=>by
     rw [show i=V.length by omega]
    with_unfolding_all exact⟨[some 0],stOf [(4,.sl 0 0 0 V.length)] [⟨25,6,0,false,false,V.length,fun i=>(srtI (vertP V) V.length i).cells⟩] 1 [],Weak.of (by simp) ⟨⟨lt_ok rfl,rfl,rfl,rfl,rfl,rfl,hfin⟩,trivial⟩ ⟨⟨rfl,rfl,rfl,lt_ok rfl,_,rfl⟩,trivial⟩ trivial,rfl,rfl⟩
  ·have h0:¬IntKind.i64.wrap ((V.length:Int) - 0)≤12:=of_decide_eq_false h0
   rw [wrap64 (by omega) (by omega)] at h0
   omega
 ·cases e
end Go.Proofs
namespace Go.Proofs
open Go Go.Ex Go.Num
set_option maxRecDepth 100000
def c19:List PV→Option Ans
 |[.rs 6 m h,.val v]=>some ⟨some (isPL 4294967296 m h∧isPk 4294967296 v),.val (.int .i64 (ixP (fun i=>eqP (rdV v) (pts h i)) m 0)),[]⟩
 |_=>none
theorem ok19:funcOk {} Tryz.f19 2=true:=by kernel_rfl
theorem f19:FnOk Tryz.prog 19 c19:=by
 refine FnOk.ofW orders (mkE_ok (l:=[]) (own:=[]) (inl:=[]) (by simp) (by simp)) Tryz.func19 {} 2 ok19 fun args r e=>?_
 unfold c19 at e
 split at e
 ·rename_i n h v
  cases e
  refine⟨by simp,fun hm=>?_⟩
  obtain⟨⟨hq,hn⟩,a,rfl,ha⟩:=hm _ rfl
  refine⟨[],stOf [(0,.rs 6 n (fun i=>(pts h i).cells)),(1,.val a.v)] [] 0 [],Weak.of (by simp) trivial ⟨⟨rfl,rfl,fun i hi=>(hq i hi).1.symm⟩,rfl,trivial⟩ trivial,?_⟩
  generalize pts h=q at *
  obtain⟨X,hX⟩:∃X,X=ixP (fun i=>eqP a (q i)) n 0:=⟨_,rfl⟩
  have hv:ixP (fun i=>eqP (rdV a.v) (q i)) n 0=X:=hX.symm
  rw [hv]
  with_unfolding_all refine⟨Nat,fun i=>i≤n∧ixP (fun i=>eqP a (q i)) (n - i) i=X,fun i=>stOf [(0,.rs 6 n (fun i=>(q i).cells)),(3,.ptr 0 0 0 0),(7,.val (goInt n)),(8,.val (goInt i))] [⟨25,6,0,true,false,1,fun _=>[.val (.bool a.x.s),.val (.string a.x.b),.val (.string a.x.c),.val (.bool a.y.s),.val (.string a.y.b),.val (.string a.y.c)]⟩] 1 [],fun i=>n - i,⟨0,[some 0],⟨Nat.zero_le _,hX.symm⟩,Weak.of (by simp) ⟨⟨lt_ok rfl,rfl,rfl,rfl,rfl,rfl,⟨rfl,rfl⟩,⟨rfl,rfl⟩,⟨rfl,rfl⟩,⟨rfl,rfl⟩,⟨rfl,rfl⟩,⟨rfl,rfl⟩,trivial⟩,trivial⟩ ⟨⟨rfl,rfl,fun _ _=>rfl⟩,⟨rfl,rfl,rfl,lt_ok rfl,_,rfl⟩,rfl,rfl,trivial⟩ trivial⟩,fun i hi=>?_⟩
  obtain⟨hin,hI⟩:i≤n∧ixP (fun i=>eqP a (q i)) (n - i) i=X:=hi
  with_unfolding_all refine⟨fun h=>?_,fun h=>⟨[],stOf [(4,.val (.int .i64 X))] [] 0 [],Weak.of (by simp) trivial ⟨?_,trivial⟩ trivial,rfl,rfl⟩⟩
  ·have h:(i:Int) < n:=ltT h
   have e:(i:Int).toNat=i:=Int.toNat_natCast i
   have hstep:ixP (fun i=>eqP a (q i)) (n - i) i=bif eqP a (q i) then(i:Int) else ixP (fun i=>eqP a (q i)) (n - (i+1)) (i+1):=by
    rw [show n - i=(n - (i+1))+1 by omega]
    rfl
   with_unfolding_all refine⟨⟨by omega,by omega⟩,fun h'=>⟨[],stOf [(4,.val (.int .i64 X))] [] 0 [],Weak.of (by simp) trivial ⟨?_,trivial⟩ trivial,rfl,rfl⟩,fun h'=>⟨i+1,[some 0],⟨by omega,?_⟩,by show n - (i+1) < n - i;omega,Weak.of (by simp) ⟨⟨lt_ok rfl,rfl,rfl,rfl,rfl,rfl,⟨rfl,rfl⟩,⟨rfl,rfl⟩,⟨rfl,rfl⟩,⟨rfl,rfl⟩,⟨rfl,rfl⟩,⟨rfl,rfl⟩,trivial⟩,trivial⟩ ⟨⟨rfl,rfl,fun _ _=>rfl⟩,⟨rfl,rfl,rfl,lt_ok rfl,_,rfl⟩,rfl,?_,trivial⟩ trivial⟩⟩
   ·have h':eqP a (q (i:Int).toNat)=true:=h'
    rw [e] at h'
    rw [h',cond_true] at hstep
    exact congrArg (fun z=>PV.val (.int .i64 z)) (hstep.symm.trans hI)
   ·have h':eqP a (q (i:Int).toNat)=false:=h'
    rw [e] at h'
    rw [h',cond_false] at hstep
    exact hstep.symm.trans hI
   ·show PV.val (.int .i64 (IntKind.i64.wrap ((i:Int)+1)))=PV.val (.int .i64 ((i+1:Nat):Int))
    rw [wrap64 (by omega) (by omega)]
    rfl
  ·have h:(n:Int)≤i:=ltF h
   rw [show n - i=0 by omega] at hI
   exact congrArg (fun z=>PV.val (.int .i64 z)) hI
 ·cases e
def c37:List PV→Option Ans
 |[.rs 6 m h,.val v]=>some ⟨some (isPL 4294967296 m h∧isPk 4294967296 v),.val (.bool (anyP (fun i=>eqP (rdV v) (pts h i)) m)),[]⟩
 |_=>none
theorem ok37:funcOk {} Tryz.f37 2=true:=by kernel_rfl
theorem f37:FnOk Tryz.prog 37 c37:=by
 refine FnOk.ofW orders (mkE_ok (l:=[(19,c19)]) (own:=[]) (inl:=[]) (by simp [f19]) (by simp)) Tryz.func37 {} 2 ok37 fun args r e=>?_
 unfold c37 at e
 split at e
 ·rename_i n h v
  cases e
  refine⟨by simp,fun hm=>?_⟩
  obtain⟨hq,a,rfl,ha⟩:=hm _ rfl
  refine⟨[],stOf [(0,.rs 6 n h),(1,.val a.v)] [] 0 [],Weak.of (by simp) trivial ⟨⟨rfl,rfl,fun i hi=>rfl⟩,rfl,trivial⟩ trivial,?_⟩
  with_unfolding_all refine⟨⟨hq,a,rfl,ha⟩,[],stOf [(4,.val (.bool (anyP (fun i=>eqP a (pts h i)) n)))] [] 0 [],Weak.of (by simp) trivial ⟨?_,trivial⟩ trivial,rfl,rfl⟩
  exact congrArg (fun z=>PV.val (.bool z)) (ixP_any _ _)
 ·cases e
end Go.Proofs
namespace Go.Proofs
open Go Go.Ex Go.Num
set_option maxRecDepth 100000
def c92:List PV→Option Ans
 |[.rs 6 n g]=>some ⟨some (isPL 4294967296 n g∧∀i,i+1 < n→eqP (pts g (i+1)) (pts g i)=false),.rs 6 n (fun i=>(pts g i).cells),[]⟩
 |_=>none
theorem ok92:funcOk {} Tryz.f92 1=true:=by kernel_rfl
theorem f92:FnOk Tryz.prog 92 c92:=by
 refine FnOk.ofW orders (mkE_ok (l:=[]) (own:=[]) (inl:=[]) (by simp) (by simp)) Tryz.func92 {} 1 ok92 fun args r e=>?_
 unfold c92 at e
 split at e
 ·rename_i n g
  cases e
  refine⟨by simp,fun hm=>?_⟩
  obtain⟨⟨hg,hn⟩,hne⟩:=hm _ rfl
  refine⟨[],stOf [(0,.rs 6 n (fun i=>(pts g i).cells))] [] 0 [],Weak.of (by simp) trivial ⟨⟨rfl,rfl,fun i hi=>(hg i hi).1.symm⟩,trivial⟩ trivial,?_⟩
  generalize pts g=p at *
  with_unfolding_all refine⟨fun h=>⟨[],stOf [(2,.rs 6 n (fun i=>(p i).cells))] [] 0 [],Weak.of (by simp) trivial ⟨⟨rfl,rfl,fun _ _=>rfl⟩,trivial⟩ trivial,rfl,rfl⟩,fun h0=>⟨Nat,fun k=>k+1≤n,fun k=>stOf [(0,.rs 6 n (fun i=>(p i).cells)),(3,.val (.int .i64 ((k:Int)+1)))] [] 0 [],fun k=>n - k,⟨0,[],?_,Weak.of (by simp) trivial ⟨⟨rfl,rfl,fun _ _=>rfl⟩,rfl,trivial⟩ trivial⟩,fun k hk=>⟨fun h1=>?_,fun h1=>⟨[],stOf [(2,.rs 6 n (fun i=>(p i).cells))] [] 0 [],Weak.of (by simp) trivial ⟨⟨rfl,rfl,fun _ _=>rfl⟩,trivial⟩ trivial,rfl,rfl⟩⟩⟩⟩
  ·have h:=of_decide_eq_false h0
   have h:¬(n:Int) < 2:=h
   show 0+1≤n
   omega
  ·have hk:k+1≤n:=hk
   have h1:(k:Int)+1 < n:=of_decide_eq_true h1
   have w1:IntKind.i64.wrap ((k:Int)+1 - 1)=k:=by rw [wrap64 (by omega) (by omega)];omega
   have w2:PV.val (.int .i64 (IntKind.i64.wrap ((k:Int)+1+1)))=PV.val (.int .i64 (((k+1:Nat):Int)+1)):=by
    rw [wrap64 (by omega) (by omega)]
    rfl
   have ne:eqP (p ((k:Int)+1).toNat) (p (IntKind.i64.wrap ((k:Int)+1 - 1)).toNat)=false:=by
    rw [w1,show((k:Int)+1).toNat=k+1 by omega,Int.toNat_natCast]
    exact hne k (by omega)
   have b1:0≤IntKind.i64.wrap ((k:Int)+1 - 1)∧IntKind.i64.wrap ((k:Int)+1 - 1) < n:=by rw [w1];omega
   with_unfolding_all refine⟨⟨by omega,h1⟩,b1,fun h2=>absurd (h2.symm.trans ne) (by decide),fun h2=>⟨k+1,[],?_,?_,Weak.of (by simp) trivial ⟨⟨rfl,rfl,fun _ _=>rfl⟩,w2,trivial⟩ trivial⟩⟩
   ·show k+1+1≤n
    omega
   ·show n - (k+1) < n - k
    omega
 ·cases e
end Go.Proofs
namespace Go.Num
open Go Go.Ex Go.Proofs
def rdI1:List PV→Int
 |[.val (.int .i64 s)]=>s
 |_=>0
def isI1 (c:List PV):Prop:=c=[.val (.int .i64 (rdI1 c))]
def sideB (a b:PtS) (s:Int) (p:PtS):Bool:=orP a b p==s
end Go.Num
namespace Go.Proofs
open Go Go.Ex Go.Num
set_option maxRecDepth 100000
def c106:List PV→Option Ans
 |[.val v,.rp 6 1 h 0 0,.rp 6 1 h' 0 0,.rp 1 1 h2 0 0]=>some ⟨some (isPk 10000 v∧isC 10000 (h 0)∧isC 10000 (h' 0)∧isI1 (h2 0)),.val (.bool (sideB (rdP (h 0)) (rdP (h' 0)) (rdI1 (h2 0)) (rdV v))),[]⟩
 |_=>none
theorem ok106:funcOk {} Tryz.f106 4=true:=by kernel_rfl
theorem f106:FnOk Tryz.prog 106 c106:=by
 refine FnOk.ofW orders (mkE_ok (l:=[(107,c107)]) (own:=[]) (inl:=[]) (by simp [f107]) (by simp)) Tryz.func106 {} 4 ok106 fun args r e=>?_
 unfold c106 at e
 split at e
 ·rename_i v h h' h2
  cases e
  refine⟨by simp,fun hm=>?_⟩
  obtain⟨⟨p,rfl,hp⟩,⟨h1,ha⟩,⟨h3,hb⟩,h4⟩:=hm _ rfl
  unfold isI1 at h4
  generalize rdP (h 0)=a at *
  generalize rdP (h' 0)=b at *
  generalize rdI1 (h2 0)=s at *
  refine⟨[],stOf [(0,.val p.v),(1,.rp 6 1 (fun _=>a.cells) 0 0),(2,.rp 6 1 (fun _=>b.cells) 0 0),(3,.rp 1 1 (fun _=>[.val (.int .i64 s)]) 0 0)] [] 0 [],Weak.of (by simp) trivial ⟨rfl,⟨rfl,rfl,rfl,rfl,at0 h1⟩,⟨rfl,rfl,rfl,rfl,at0 h3⟩,⟨rfl,rfl,rfl,rfl,at0 h4⟩,trivial⟩ trivial,?_⟩
  with_unfolding_all exact⟨⟨⟨a,rfl,ha⟩,⟨b,rfl,hb⟩,p,rfl,hp⟩,⟨[],stOf [(5,.val (.bool (sideB a b s p)))] [] 0 [],Weak.of (by simp) trivial ⟨rfl,trivial⟩ trivial,rfl,rfl⟩⟩
 ·cases e
def c83_106:List PV→Option Ans
 |[.rs 6 n g,.fn (.func 106) [] [.rp 6 1 cc 0 0,.rp 6 1 dd 0 0,.rp 1 1 ee 0 0]]=>some ⟨some (isPL 10000 n g∧isC 10000 (cc 0)∧isC 10000 (dd 0)∧isI1 (ee 0)),.val (.int .i64 (ixP (fun i=>sideB (rdP (cc 0)) (rdP (dd 0)) (rdI1 (ee 0)) (pts g i)) n 0)),[]⟩
 |_=>none
theorem f83_106:FnOk Tryz.prog 83 c83_106:=by
 refine FnOk.ofW orders (mkE_ok (l:=[(106,c106)]) (own:=[]) (inl:=[]) (by simp [f106]) (by simp)) Tryz.func83 {} 2 ok83 fun args r e=>?_
 unfold c83_106 at e
 split at e
 ·rename_i n g cc dd ee
  cases e
  refine⟨by simp,fun hm=>?_⟩
  obtain⟨⟨hg,hn⟩,h1,h2,h3⟩:=hm _ rfl
  refine⟨[],stOf [(0,.rs 6 n (fun i=>(pts g i).cells)),(1,.fn (.func 106) [] [.rp 6 1 cc 0 0,.rp 6 1 dd 0 0,.rp 1 1 ee 0 0])] [] 0 [],Weak.of (by simp) trivial ⟨⟨rfl,rfl,fun i hi=>(hg i hi).1.symm⟩,⟨rfl,trivial,⟨rfl,rfl,rfl,rfl,fun _ _=>rfl⟩,⟨rfl,rfl,rfl,rfl,fun _ _=>rfl⟩,⟨rfl,rfl,rfl,rfl,fun _ _=>rfl⟩,trivial⟩,trivial⟩ trivial,?_⟩
  obtain⟨X,hX⟩:∃X,X=ixP (fun i=>sideB (rdP (cc 0)) (rdP (dd 0)) (rdI1 (ee 0)) (pts g i)) n 0:=⟨_,rfl⟩
  rw [←hX]
  with_unfolding_all refine⟨Nat,fun i=>i≤n∧ixP (fun i=>sideB (rdP (cc 0)) (rdP (dd 0)) (rdI1 (ee 0)) (pts g i)) (n - i) i=X,fun i=>stOf [(0,.rs 6 n (fun i=>(pts g i).cells)),(1,.fn (.func 106) [] [.rp 6 1 cc 0 0,.rp 6 1 dd 0 0,.rp 1 1 ee 0 0]),(7,.val (goInt n)),(8,.val (goInt i))] [] 0 [],fun i=>n - i,⟨0,[],⟨Nat.zero_le _,hX.symm⟩,Weak.of (by simp) trivial ⟨⟨rfl,rfl,fun _ _=>rfl⟩,⟨rfl,trivial,⟨rfl,rfl,rfl,rfl,fun _ _=>rfl⟩,⟨rfl,rfl,rfl,rfl,fun _ _=>rfl⟩,⟨rfl,rfl,rfl,rfl,fun _ _=>rfl⟩,trivial⟩,rfl,rfl,trivial⟩ trivial⟩,fun i hi=>?_⟩
  obtain⟨hin,hI⟩:i≤n∧ixP (fun i=>sideB (rdP (cc 0)) (rdP (dd 0)) (rdI1 (ee 0)) (pts g i)) (n - i) i=X:=hi
  with_unfolding_all refine⟨fun h=>?_,fun h=>⟨[],stOf [(4,.val (.int .i64 X))] [] 0 [],Weak.of (by simp) trivial ⟨?_,trivial⟩ trivial,rfl,rfl⟩⟩
  ·have h:(i:Int) < n:=ltT h
   have e:(i:Int).toNat=i:=Int.toNat_natCast i
   have hstep:ixP (fun i=>sideB (rdP (cc 0)) (rdP (dd 0)) (rdI1 (ee 0)) (pts g i)) (n - i) i=bif sideB (rdP (cc 0)) (rdP (dd 0)) (rdI1 (ee 0)) (pts g i) then(i:Int) else ixP (fun i=>sideB (rdP (cc 0)) (rdP (dd 0)) (rdI1 (ee 0)) (pts g i)) (n - (i+1)) (i+1):=by
    rw [show n - i=(n - (i+1))+1 by omega]
    rfl
   have hip:=(hg i (by omega)).2
   rw [←e] at hip
   with_unfolding_all refine⟨⟨by omega,by omega⟩,⟨⟨pts g (i:Int).toNat,rfl,hip⟩,h1,h2,h3⟩,fun h'=>⟨[],stOf [(4,.val (.int .i64 X))] [] 0 [],Weak.of (by simp) trivial ⟨?_,trivial⟩ trivial,rfl,rfl⟩,fun h'=>⟨i+1,[],⟨by omega,?_⟩,by show n - (i+1) < n - i;omega,Weak.of (by simp) trivial ⟨⟨rfl,rfl,fun _ _=>rfl⟩,⟨rfl,trivial,⟨rfl,rfl,rfl,rfl,fun _ _=>rfl⟩,⟨rfl,rfl,rfl,rfl,fun _ _=>rfl⟩,⟨rfl,rfl,rfl,rfl,fun _ _=>rfl⟩,trivial⟩,rfl,?_,trivial⟩ trivial⟩⟩
   ·have h':(sideB (rdP (cc 0)) (rdP (dd 0)) (rdI1 (ee 0)) (pts g (i:Int).toNat))=true:=h'
    rw [e] at h'
    rw [h',cond_true] at hstep
    exact congrArg (fun z=>PV.val (.int .i64 z)) (hstep.symm.trans hI)
   ·have h':(sideB (rdP (cc 0)) (rdP (dd 0)) (rdI1 (ee 0)) (pts g (i:Int).toNat))=false:=h'
    rw [e] at h'
    rw [h',cond_false] at hstep
    exact hstep.symm.trans hI
   ·show PV.val (.int .i64 (IntKind.i64.wrap ((i:Int)+1)))=PV.val (.int .i64 ((i+1:Nat):Int))
    rw [wrap64 (by omega) (by omega)]
    rfl
  ·have h:(n:Int)≤i:=ltF h
   rw [show n - i=0 by omega] at hI
   exact congrArg (fun z=>PV.val (.int .i64 z)) hI
 ·cases e
def c65_106:List PV→Option Ans
 |[.rs 6 n g,.fn (.func 106) [] [.rp 6 1 cc 0 0,.rp 6 1 dd 0 0,.rp 1 1 ee 0 0]]=>some ⟨some (isPL 10000 n g∧isC 10000 (cc 0)∧isC 10000 (dd 0)∧isI1 (ee 0)),.val (.bool (anyP (fun i=>sideB (rdP (cc 0)) (rdP (dd 0)) (rdI1 (ee 0)) (pts g i)) n)),[]⟩
 |_=>none
theorem f65_106:FnOk Tryz.prog 65 c65_106:=by
 refine FnOk.ofW orders (mkE_ok (l:=[(83,c83_106)]) (own:=[]) (inl:=[]) (by simp [f83_106]) (by simp)) Tryz.func65 {} 2 ok65 fun args r e=>?_
 unfold c65_106 at e
 split at e
 ·rename_i n g cc dd ee
  cases e
  refine⟨by simp,fun hm=>?_⟩
  have hp:=hm _ rfl
  refine⟨[],stOf [(0,.rs 6 n g),(1,.fn (.func 106) [] [.rp 6 1 cc 0 0,.rp 6 1 dd 0 0,.rp 1 1 ee 0 0])] [] 0 [],Weak.of (by simp) trivial ⟨⟨rfl,rfl,fun i hi=>rfl⟩,⟨rfl,trivial,⟨rfl,rfl,rfl,rfl,fun _ _=>rfl⟩,⟨rfl,rfl,rfl,rfl,fun _ _=>rfl⟩,⟨rfl,rfl,rfl,rfl,fun _ _=>rfl⟩,trivial⟩,trivial⟩ trivial,?_⟩
  with_unfolding_all refine⟨hp,[],stOf [(4,.val (.bool (anyP (fun i=>sideB (rdP (cc 0)) (rdP (dd 0)) (rdI1 (ee 0)) (pts g i)) n)))] [] 0 [],Weak.of (by simp) trivial ⟨?_,trivial⟩ trivial,rfl,rfl⟩
  exact congrArg (fun z=>PV.val (.bool z)) (ixP_any _ _)
 ·cases e
def c105:List PV→Option Ans
 |[.val (.int .i64 s),.rp 6 1 h 0 0,.rp 6 1 h' 0 0]=>some ⟨none,.fn (.func 106) [] [.rp 6 1 h 0 0,.rp 6 1 h' 0 0,.rp 1 1 (fun _=>[.val (.int .i64 s)]) 0 0],[]⟩
 |_=>none
theorem ok105:funcOk {} Tryz.f105 3=true:=by kernel_rfl
theorem f105:FnOk Tryz.prog 105 c105:=by
 refine FnOk.ofW orders (mkE_ok (l:=[]) (own:=[]) (inl:=[]) (by simp) (by simp)) Tryz.func105 {} 3 ok105 fun args r e=>?_
 unfold c105 at e
 split at e
 ·rename_i s h h'
  cases e
  refine⟨by simp,fun hm=>?_⟩
  refine⟨[],stOf [(0,.val (.int .i64 s)),(1,.rp 6 1 h 0 0),(2,.rp 6 1 h' 0 0)] [] 0 [],Weak.of (by simp) trivial ⟨rfl,⟨rfl,rfl,rfl,rfl,fun _ _=>rfl⟩,⟨rfl,rfl,rfl,rfl,fun _ _=>rfl⟩,trivial⟩ trivial,?_⟩
  with_unfolding_all exact⟨[some 0],stOf [(4,.fn (.func 106) [] [.rp 6 1 h 0 0,.rp 6 1 h' 0 0,.ptr 0 0 0 0])] [⟨3,1,0,true,false,1,fun _=>[.val (.int .i64 s)]⟩] 1 [],Weak.of (by simp) ⟨⟨lt_ok rfl,rfl,rfl,rfl,rfl,rfl,⟨rfl,rfl⟩,trivial⟩,trivial⟩ ⟨⟨rfl,trivial,⟨rfl,rfl,rfl,rfl,fun _ _=>rfl⟩,⟨rfl,rfl,rfl,rfl,fun _ _=>rfl⟩,⟨rfl,rfl,rfl,lt_ok rfl,_,rfl⟩,trivial⟩,trivial⟩ trivial,rfl,rfl⟩
 ·cases e
end Go.Proofs
namespace Go.Num
open Go Go.Ex Go.Proofs
def tightP (n:Nat) (p:Nat→PtS) (a b:PtS):Bool:=anyP (fun i=>eqP a (p i)) n&&!(anyP (fun i=>sideB a b 1 (p i)) n&&anyP (fun i=>sideB a b (-1) (p i)) n)
end Go.Num
namespace Go.Proofs
open Go Go.Ex Go.Num
set_option maxRecDepth 100000
def c104:List PV→Option Ans
 |[.rs 6 n g,.rp 6 1 h 0 0,.rp 6 1 h' 0 0]=>some ⟨some (isPL 10000 n g∧isC 10000 (h 0)∧isC 10000 (h' 0)),.val (.bool (tightP n (pts g) (rdP (h 0)) (rdP (h' 0)))),[]⟩
 |_=>none
theorem ok104:funcOk {} Tryz.f104 3=true:=by kernel_rfl
theorem f104:FnOk Tryz.prog 104 c104:=by
 refine FnOk.ofW orders (mkE_ok (l:=[(37,c37),(65,c65_106),(105,c105)]) (own:=[]) (inl:=[]) (by simp [f37,f65_106,f105]) (by simp)) Tryz.func104 {} 3 ok104 fun args r e=>?_
 unfold c104 at e
 split at e
 ·rename_i n g h h'
  cases e
  refine⟨by simp,fun hm=>?_⟩
  obtain⟨hg,⟨h1,ha⟩,h3,hb⟩:=hm _ rfl
  generalize rdP (h 0)=a at *
  generalize rdP (h' 0)=b at *
  refine⟨[],stOf [(0,.rs 6 n g),(1,.rp 6 1 (fun _=>a.cells) 0 0),(2,.rp 6 1 (fun _=>b.cells) 0 0)] [] 0 [],Weak.of (by simp) trivial ⟨⟨rfl,rfl,fun _ _=>rfl⟩,⟨rfl,rfl,rfl,rfl,at0 h1⟩,⟨rfl,rfl,rfl,rfl,at0 h3⟩,trivial⟩ trivial,?_⟩
  have hg':isPL 4294967296 n g:=⟨fun i hi=>⟨(hg.1 i hi).1,(hg.1 i hi).2.mono (by decide)⟩,hg.2⟩
  have ha':=ha.mono (show 10000≤4294967296 by decide)
  have pS:∀s:Int,isPL 10000 n g∧isC 10000 a.cells∧isC 10000 b.cells∧isI1 [.val (.int .i64 s)]:=fun s=>⟨hg,⟨rfl,ha⟩,⟨rfl,hb⟩,rfl⟩
  obtain⟨X,hX⟩:∃X,X=tightP n (pts g) a b:=⟨_,rfl⟩
  rw [←hX]
  have v1:anyP (fun i=>eqP a (pts g i)) n=true→anyP (fun i=>sideB a b 1 (pts g i)) n=true→PV.val (.bool (!anyP (fun i=>sideB a b (-1) (pts g i)) n))=PV.val (.bool X):=fun h h'=>by
   rw [hX,tightP,h,h',Bool.true_and,Bool.true_and]
  have v2:anyP (fun i=>eqP a (pts g i)) n=true→anyP (fun i=>sideB a b 1 (pts g i)) n=false→PV.val (.bool true)=PV.val (.bool X):=fun h h'=>by
   rw [hX,tightP,h,h']
   rfl
  have v3:anyP (fun i=>eqP a (pts g i)) n=false→PV.val (.bool false)=PV.val (.bool X):=fun h=>by
   rw [hX,tightP,h]
   rfl
  with_unfolding_all exact⟨⟨hg',a,rfl,ha'⟩,fun h1=>⟨pS 1,fun h2=>⟨pS (-1),⟨[],stOf [(4,.val (.bool X))] [] 0 [],Weak.of (by simp) trivial ⟨v1 h1 h2,trivial⟩ trivial,rfl,rfl⟩⟩,fun h2=>⟨[],stOf [(4,.val (.bool X))] [] 0 [],Weak.of (by simp) trivial ⟨v2 h1 h2,trivial⟩ trivial,rfl,rfl⟩⟩,fun h1=>⟨[],stOf [(4,.val (.bool X))] [] 0 [],Weak.of (by simp) trivial ⟨v3 h1,trivial⟩ trivial,rfl,rfl⟩⟩
 ·cases e
def c138:List PV→Option Ans
 |[.rs 1 k c,.fn (.func 104) [] [.rp 6 1 h 0 0,.rp 6 1 h' 0 0]]=>some ⟨some (isCL 10000 k c∧isC 10000 (h 0)∧isC 10000 (h' 0)),.val (.int .i64 (ixP (fun i=>tightP (pn c i) (pts (pg c i)) (rdP (h 0)) (rdP (h' 0))) k 0)),[]⟩
 |_=>none
theorem ok138:funcOk {} Tryz.f138 2=true:=by kernel_rfl
theorem f138:FnOk Tryz.prog 138 c138:=by
 refine FnOk.ofW orders (mkE_ok (l:=[(104,c104)]) (own:=[]) (inl:=[]) (by simp [f104]) (by simp)) Tryz.func138 {} 2 ok138 fun args r e=>?_
 unfold c138 at e
 split at e
 ·rename_i k c cc dd
  cases e
  refine⟨by simp,fun hm=>?_⟩
  obtain⟨⟨hc,hn⟩,h1,h2⟩:=hm _ rfl
  refine⟨[],stOf [(0,.rs 1 k (fun i=>[.rs 6 (pn c i) (pg c i)])),(1,.fn (.func 104) [] [.rp 6 1 cc 0 0,.rp 6 1 dd 0 0])] [] 0 [],Weak.of (by simp) trivial ⟨⟨rfl,rfl,fun i hi=>(hc i hi).1.symm⟩,⟨rfl,trivial,⟨rfl,rfl,rfl,rfl,fun _ _=>rfl⟩,⟨rfl,rfl,rfl,rfl,fun _ _=>rfl⟩,trivial⟩,trivial⟩ trivial,?_⟩
  obtain⟨X,hX⟩:∃X,X=ixP (fun i=>tightP (pn c i) (pts (pg c i)) (rdP (cc 0)) (rdP (dd 0))) k 0:=⟨_,rfl⟩
  rw [←hX]
  with_unfolding_all refine⟨Nat,fun i=>i≤k∧ixP (fun i=>tightP (pn c i) (pts (pg c i)) (rdP (cc 0)) (rdP (dd 0))) (k - i) i=X,fun i=>stOf [(0,.rs 1 k (fun i=>[.rs 6 (pn c i) (pg c i)])),(1,.fn (.func 104) [] [.rp 6 1 cc 0 0,.rp 6 1 dd 0 0]),(7,.val (goInt k)),(8,.val (goInt i))] [] 0 [],fun i=>k - i,⟨0,[],⟨Nat.zero_le _,hX.symm⟩,Weak.of (by simp) trivial ⟨⟨rfl,rfl,fun _ _=>rfl⟩,⟨rfl,trivial,⟨rfl,rfl,rfl,rfl,fun _ _=>rfl⟩,⟨rfl,rfl,rfl,rfl,fun _ _=>rfl⟩,trivial⟩,rfl,rfl,trivial⟩ trivial⟩,fun i hi=>?_⟩
  obtain⟨hin,hI⟩:i≤k∧ixP (fun i=>tightP (pn c i) (pts (pg c i)) (rdP (cc 0)) (rdP (dd 0))) (k - i) i=X:=hi
  with_unfolding_all refine⟨fun h=>?_,fun h=>⟨[],stOf [(4,.val (.int .i64 X))] [] 0 [],Weak.of (by simp) trivial ⟨?_,trivial⟩ trivial,rfl,rfl⟩⟩
  ·have h:(i:Int) < k:=ltT h
   have e:(i:Int).toNat=i:=Int.toNat_natCast i
   have hstep:ixP (fun i=>tightP (pn c i) (pts (pg c i)) (rdP (cc 0)) (rdP (dd 0))) (k - i) i=bif tightP (pn c i) (pts (pg c i)) (rdP (cc 0)) (rdP (dd 0)) then(i:Int) else ixP (fun i=>tightP (pn c i) (pts (pg c i)) (rdP (cc 0)) (rdP (dd 0))) (k - (i+1)) (i+1):=by
    rw [show k - i=(k - (i+1))+1 by omega]
    rfl
   have hip:=(hc i (by omega)).2
   rw [←e] at hip
   with_unfolding_all refine⟨⟨by omega,by omega⟩,⟨hip,h1,h2⟩,fun h'=>⟨[],stOf [(4,.val (.int .i64 X))] [] 0 [],Weak.of (by simp) trivial ⟨?_,trivial⟩ trivial,rfl,rfl⟩,fun h'=>⟨i+1,[],⟨by omega,?_⟩,by show k - (i+1) < k - i;omega,Weak.of (by simp) trivial ⟨⟨rfl,rfl,fun _ _=>rfl⟩,⟨rfl,trivial,⟨rfl,rfl,rfl,rfl,fun _ _=>rfl⟩,⟨rfl,rfl,rfl,rfl,fun _ _=>rfl⟩,trivial⟩,rfl,?_,trivial⟩ trivial⟩⟩
   ·have h':tightP (pn c (i:Int).toNat) (pts (pg c (i:Int).toNat)) (rdP (cc 0)) (rdP (dd 0))=true:=h'
    rw [e] at h'
    rw [h',cond_true] at hstep
    exact congrArg (fun z=>PV.val (.int .i64 z)) (hstep.symm.trans hI)
   ·have h':tightP (pn c (i:Int).toNat) (pts (pg c (i:Int).toNat)) (rdP (cc 0)) (rdP (dd 0))=false:=h'
    rw [e] at h'
    rw [h',cond_false] at hstep
    exact hstep.symm.trans hI
   ·show PV.val (.int .i64 (IntKind.i64.wrap ((i:Int)+1)))=PV.val (.int .i64 ((i+1:Nat):Int))
    rw [wrap64 (by omega) (by omega)]
    rfl
  ·have h:(k:Int)≤i:=ltF h
   rw [show k - i=0 by omega] at hI
   exact congrArg (fun z=>PV.val (.int .i64 z)) hI
 ·cases e
def c103:List PV→Option Ans
 |[.rs 1 k c,.fn (.func 104) [] [.rp 6 1 h 0 0,.rp 6 1 h' 0 0]]=>some ⟨some (isCL 10000 k c∧isC 10000 (h 0)∧isC 10000 (h' 0)),.val (.bool (anyP (fun i=>tightP (pn c i) (pts (pg c i)) (rdP (h 0)) (rdP (h' 0))) k)),[]⟩
 |_=>none
theorem ok103:funcOk {} Tryz.f103 2=true:=by kernel_rfl
theorem f103:FnOk Tryz.prog 103 c103:=by
 refine FnOk.ofW orders (mkE_ok (l:=[(138,c138)]) (own:=[]) (inl:=[]) (by simp [f138]) (by simp)) Tryz.func103 {} 2 ok103 fun args r e=>?_
 unfold c103 at e
 split at e
 ·rename_i n g cc dd
  cases e
  refine⟨by simp,fun hm=>?_⟩
  have hp:=hm _ rfl
  refine⟨[],stOf [(0,.rs 1 n g),(1,.fn (.func 104) [] [.rp 6 1 cc 0 0,.rp 6 1 dd 0 0])] [] 0 [],Weak.of (by simp) trivial ⟨⟨rfl,rfl,fun i hi=>rfl⟩,⟨rfl,trivial,⟨rfl,rfl,rfl,rfl,fun _ _=>rfl⟩,⟨rfl,rfl,rfl,rfl,fun _ _=>rfl⟩,trivial⟩,trivial⟩ trivial,?_⟩
  with_unfolding_all refine⟨hp,[],stOf [(4,.val (.bool (anyP (fun i=>tightP (pn g i) (pts (pg g i)) (rdP (cc 0)) (rdP (dd 0))) n)))] [] 0 [],Weak.of (by simp) trivial ⟨?_,trivial⟩ trivial,rfl,rfl⟩
  exact congrArg (fun z=>PV.val (.bool z)) (ixP_any _ _)
 ·cases e
end Go.Proofs
namespace Go.Num
open Go Go.Ex Go.Proofs
def cornP (lo hi:PtS) (k:Nat) (c:Nat→List PV) (l:Nat) (o:Nat→List PV):Nat→PtS:=srtI (vertP (vertC lo hi k c l o)) (vertC lo hi k c l o).length
theorem cornP_le {lo hi:PtS} {k:Nat} {c:Nat→List PV} {l:Nat} {o:Nat→List PV} (h:isCL 10000 k c):∀i,i < (vertC lo hi k c l o).length→(cornP lo hi k c l o i).le 10000:=srtI_le (Nat.le_refl _) fun _ hi=>vertP_le (vertC_le h) hi
end Go.Num
namespace Go.Proofs
open Go Go.Ex Go.Num
set_option maxRecDepth 100000
def c57:List PV→Option Ans
 |[.agg [.val (.bool s1),.val (.string b1),.val (.string c1),.val (.bool s2),.val (.string b2),.val (.string c2),.val (.bool s3),.val (.string b3),.val (.string c3),.val (.bool s4),.val (.string b4),.val (.string c4),.rs 1 k c,.rs 3 l o]]=>some ⟨some ((((PtS.le 10000 (PtS.mk ⟨s1,b1,c1⟩ ⟨s2,b2,c2⟩)∧PtS.le 10000 (PtS.mk ⟨s3,b3,c3⟩ ⟨s4,b4,c4⟩))∧isCL 10000 k c∧isOL l o)∧(vertC (PtS.mk ⟨s1,b1,c1⟩ ⟨s2,b2,c2⟩) (PtS.mk ⟨s3,b3,c3⟩ ⟨s4,b4,c4⟩) k c l o).length≤12)∧∀i,i+1 < (vertC (PtS.mk ⟨s1,b1,c1⟩ ⟨s2,b2,c2⟩) (PtS.mk ⟨s3,b3,c3⟩ ⟨s4,b4,c4⟩) k c l o).length→eqP (cornP (PtS.mk ⟨s1,b1,c1⟩ ⟨s2,b2,c2⟩) (PtS.mk ⟨s3,b3,c3⟩ ⟨s4,b4,c4⟩) k c l o (i+1)) (cornP (PtS.mk ⟨s1,b1,c1⟩ ⟨s2,b2,c2⟩) (PtS.mk ⟨s3,b3,c3⟩ ⟨s4,b4,c4⟩) k c l o i)=false),.rs 6 (vertC (PtS.mk ⟨s1,b1,c1⟩ ⟨s2,b2,c2⟩) (PtS.mk ⟨s3,b3,c3⟩ ⟨s4,b4,c4⟩) k c l o).length (fun i=>(cornP (PtS.mk ⟨s1,b1,c1⟩ ⟨s2,b2,c2⟩) (PtS.mk ⟨s3,b3,c3⟩ ⟨s4,b4,c4⟩) k c l o i).cells),[]⟩
 |_=>none
theorem ok57:funcOk {} Tryz.f57 1=true:=by kernel_rfl
theorem f57:FnOk Tryz.prog 57 c57:=by
 refine FnOk.ofW orders (mkE_ok (l:=[(94,c94),(93,c93),(92,c92)]) (own:=[]) (inl:=[]) (by simp [f94,f93,f92]) (by simp)) Tryz.func57 {} 1 ok57 fun args r e=>?_
 unfold c57 at e
 split at e
 ·rename_i s1 b1 c1 s2 b2 c2 s3 b3 c3 s4 b4 c4 k c l o
  cases e
  refine⟨by simp,fun hm=>?_⟩
  obtain⟨⟨⟨⟨hlo,hhi⟩,⟨hc,hk⟩,ho,hl⟩,hn⟩,hne⟩:=hm _ rfl
  obtain⟨lo,hlo'⟩:∃p,p=(PtS.mk ⟨s1,b1,c1⟩ ⟨s2,b2,c2⟩):=⟨_,rfl⟩
  obtain⟨hi,hhi'⟩:∃p,p=(PtS.mk ⟨s3,b3,c3⟩ ⟨s4,b4,c4⟩):=⟨_,rfl⟩
  have hc1:∀i,i < k→[.rs 6 (pn c i) (pg c i)]=c i:=fun i hi=>(hc i hi).1.symm
  have ho1:∀i,i < l→cellsO (ow o i)=o i:=fun i hi=>(ho i hi).symm
  refine⟨[],stOf [(0,.agg [.val (.bool (PtS.mk ⟨s1,b1,c1⟩ ⟨s2,b2,c2⟩).x.s),.val (.string (PtS.mk ⟨s1,b1,c1⟩ ⟨s2,b2,c2⟩).x.b),.val (.string (PtS.mk ⟨s1,b1,c1⟩ ⟨s2,b2,c2⟩).x.c),.val (.bool (PtS.mk ⟨s1,b1,c1⟩ ⟨s2,b2,c2⟩).y.s),.val (.string (PtS.mk ⟨s1,b1,c1⟩ ⟨s2,b2,c2⟩).y.b),.val (.string (PtS.mk ⟨s1,b1,c1⟩ ⟨s2,b2,c2⟩).y.c),.val (.bool (PtS.mk ⟨s3,b3,c3⟩ ⟨s4,b4,c4⟩).x.s),.val (.string (PtS.mk ⟨s3,b3,c3⟩ ⟨s4,b4,c4⟩).x.b),.val (.string (PtS.mk ⟨s3,b3,c3⟩ ⟨s4,b4,c4⟩).x.c),.val (.bool (PtS.mk ⟨s3,b3,c3⟩ ⟨s4,b4,c4⟩).y.s),.val (.string (PtS.mk ⟨s3,b3,c3⟩ ⟨s4,b4,c4⟩).y.b),.val (.string (PtS.mk ⟨s3,b3,c3⟩ ⟨s4,b4,c4⟩).y.c),.rs 1 k (fun i=>[.rs 6 (pn c i) (pg c i)]),.rs 3 l (fun i=>cellsO (ow o i))])] [] 0 [],Weak.of (by simp) trivial ⟨⟨rfl,rfl,rfl,rfl,rfl,rfl,rfl,rfl,rfl,rfl,rfl,rfl,⟨rfl,rfl,hc1⟩,⟨rfl,rfl,ho1⟩,trivial⟩,trivial⟩ trivial,?_⟩
  rw [←hlo'] at hlo hn hne ⊢
  rw [←hhi'] at hhi hn hne ⊢
  clear hlo' hhi' hm
  have hCL:isCL 10000 k (fun i=>[PV.rs 6 (pn c i) (pg c i)]):=⟨fun i hi=>⟨rfl,(hc i hi).2⟩,hk⟩
  have hOL:isOL l (fun i=>cellsO (ow o i)):=⟨fun i hi=>rfl,hl⟩
  have p93:(isG (fun _=>regC lo hi k (fun i=>[PV.rs 6 (pn c i) (pg c i)]) l (fun i=>cellsO (ow o i)))∧(lo.le 10000∧hi.le 10000)∧isCL 10000 k (fun i=>[PV.rs 6 (pn c i) (pg c i)])∧isOL l (fun i=>cellsO (ow o i)))∧(vertC lo hi k (fun i=>[PV.rs 6 (pn c i) (pg c i)]) l (fun i=>cellsO (ow o i))).length≤12:=⟨⟨rfl,⟨hlo,hhi⟩,hCL,hOL⟩,hn⟩
  have p92:isPL 4294967296 (vertC lo hi k (fun i=>[PV.rs 6 (pn c i) (pg c i)]) l (fun i=>cellsO (ow o i))).length (fun i=>(srtI (vertP (vertC lo hi k (fun i=>[PV.rs 6 (pn c i) (pg c i)]) l (fun i=>cellsO (ow o i)))) (vertC lo hi k (fun i=>[PV.rs 6 (pn c i) (pg c i)]) l (fun i=>cellsO (ow o i))).length i).cells)∧∀i,i+1 < (vertC lo hi k (fun i=>[PV.rs 6 (pn c i) (pg c i)]) l (fun i=>cellsO (ow o i))).length→eqP (pts (fun i=>(srtI (vertP (vertC lo hi k (fun i=>[PV.rs 6 (pn c i) (pg c i)]) l (fun i=>cellsO (ow o i)))) (vertC lo hi k (fun i=>[PV.rs 6 (pn c i) (pg c i)]) l (fun i=>cellsO (ow o i))).length i).cells) (i+1)) (pts (fun i=>(srtI (vertP (vertC lo hi k (fun i=>[PV.rs 6 (pn c i) (pg c i)]) l (fun i=>cellsO (ow o i)))) (vertC lo hi k (fun i=>[PV.rs 6 (pn c i) (pg c i)]) l (fun i=>cellsO (ow o i))).length i).cells) i)=false :=
   ⟨⟨fun i hi=>⟨rfl,(cornP_le hCL i hi).mono (by decide)⟩,Nat.le_trans hn (by decide)⟩,hne⟩
  have eg:(fun i=>(srtI (vertP (vertC lo hi k (fun i=>[PV.rs 6 (pn c i) (pg c i)]) l (fun i=>cellsO (ow o i)))) (vertC lo hi k (fun i=>[PV.rs 6 (pn c i) (pg c i)]) l (fun i=>cellsO (ow o i))).length i).cells)=(fun i=>(srtI (vertP (vertC lo hi k (fun i=>[PV.rs 6 (pn c i) (pg c i)]) l (fun i=>cellsO (ow o i)))) (vertC lo hi k (fun i=>[PV.rs 6 (pn c i) (pg c i)]) l (fun i=>cellsO (ow o i))).length (0+i)).cells):=funext fun i=>by rw [Nat.zero_add]
  have hrow:∀i,(cornP lo hi k c l o i).cells=(pts (fun i=>(srtI (vertP (vertC lo hi k (fun i=>[PV.rs 6 (pn c i) (pg c i)]) l (fun i=>cellsO (ow o i)))) (vertC lo hi k (fun i=>[PV.rs 6 (pn c i) (pg c i)]) l (fun i=>cellsO (ow o i))).length (0+i)).cells) i).cells:=fun i=>by
   rw [←eg]
   rfl
  rw [eg] at p92
  with_unfolding_all exact⟨⟨fun _ _=>rfl,fun _ _=>rfl⟩,p93,p92,[],stOf [(2,.rs 6 (vertC lo hi k c l o).length (fun i=>(cornP lo hi k c l o i).cells))] [] 0 [],Weak.of (by simp) trivial ⟨⟨rfl,rfl,fun i _=>hrow i⟩,trivial⟩ trivial,rfl,rfl⟩
 ·cases e
end Go.Proofs
namespace Go.Num
open Go Go.Ex Go.Proofs
def isRg (K:Nat) (xs:List PV):Prop:=xs=regC (gLo xs) (gHi xs) (gK xs) (gC xs) (gL xs) (gO xs)∧((gLo xs).le K∧(gHi xs).le K)∧isCL K (gK xs) (gC xs)∧isOL (gL xs) (gO xs)
def tightE (k:Nat) (c:Nat→List PV) (g:Nat→PtS) (e o:Int):Bool:=decide (e < 2)||anyP (fun i=>tightP (pn c i) (pts (pg c i)) (g e.toNat) (g o.toNat)) k
end Go.Num
namespace Go.Proofs
open Go Go.Ex Go.Num
set_option maxRecDepth 100000
def c69:List PV→Option Ans
 |[.agg xs,.agg [.rs 6 n g,.rs 2 m h],.val (.int .i64 e),.val (.int .i64 o)]=>some ⟨some (isRg 10000 xs∧isPL 10000 n g∧(0≤e∧e < n)∧0≤o∧o < n),.val (.bool (tightE (gK xs) (gC xs) (pts g) e o)),[]⟩
 |_=>none
def D69:Opt:={ perm:=atTs [(3,(.rd 0 (.rd 1 (.rd 2 (.rd 3 (.rd 4 (.rd 5 (.rd 6 (.rd 7 (.rd 8 (.rd 9 (.alt 10 (.mk 11 .nil) (.mk 11 (.mk 10 .nil))))))))))))))] }
theorem ok69:funcOk D69.toOrd Tryz.f69 4=true:=by kernel_rfl
theorem f69:FnOk Tryz.prog 69 c69:=by
 refine FnOk.ofW orders (mkE_ok (l:=[(103,c103)]) (own:=[]) (inl:=[]) (by simp [f103]) (by simp)) Tryz.func69 D69 4 ok69 fun args r e=>?_
 unfold c69 at e
 split at e
 ·rename_i xs n g m h e o
  cases e
  refine⟨by simp,fun hm=>?_⟩
  obtain⟨⟨h1,⟨hlo,hhi⟩,hcl,hol⟩,hg,he,ho⟩:=hm _ rfl
  generalize gLo xs=lo at *
  generalize gHi xs=hi at *
  generalize gK xs=k at *
  generalize gC xs=c at *
  generalize gL xs=l at *
  generalize gO xs=w at *
  subst h1
  clear hm
  refine⟨[],stOf [(0,.agg (regC lo hi k c l w)),(1,.agg [.rs 6 n (fun i=>(pts g i).cells),.rs 2 m h]),(2,.val (.int .i64 e)),(3,.val (.int .i64 o))] [] 0 [],Weak.of (by simp) trivial ⟨⟨rfl,rfl,rfl,rfl,rfl,rfl,rfl,rfl,rfl,rfl,rfl,rfl,⟨rfl,rfl,fun _ _=>rfl⟩,⟨rfl,rfl,fun _ _=>rfl⟩,trivial⟩,⟨⟨rfl,rfl,fun i hi=>(hg.1 i hi).1.symm⟩,⟨rfl,rfl,fun _ _=>rfl⟩,trivial⟩,rfl,rfl,trivial⟩ trivial,?_⟩
  obtain⟨X,hX⟩:∃X,X=tightE k c (pts g) e o:=⟨_,rfl⟩
  rw [←hX]
  have v1:decide (e < 2)=true→PV.val (.bool true)=PV.val (.bool X):=fun h=>by rw [hX,tightE,h];rfl
  have v2:decide (e < 2)=false→PV.val (.bool (anyP (fun i=>tightP (pn c i) (pts (pg c i)) (pts g e.toNat) (pts g o.toNat)) k))=PV.val (.bool X):=fun h=>by rw [hX,tightE,h];rfl
  have cg:∀i:Int,0≤i∧i < n→isC 10000 (pts g i.toNat).cells:=fun i h=>⟨rfl,(hg.1 i.toNat (by omega)).2⟩
  have pre:isCL 10000 k (fun i=>[.rs 6 (pn c i) (pg c i)])∧isC 10000 (pts g e.toNat).cells∧isC 10000 (pts g o.toNat).cells:=⟨⟨fun i hi=>⟨rfl,(hcl.1 i hi).2⟩,hcl.2⟩,cg e he,cg o ho⟩
  with_unfolding_all exact⟨fun h1=>⟨[],stOf [(8,.val (.bool X))] [] 0 [],Weak.of (by simp) trivial ⟨v1 h1,trivial⟩ trivial,rfl,rfl⟩,fun h1=>⟨he,ho,⟨pre,[],stOf [(8,.val (.bool X))] [] 0 [],Weak.of (by simp) trivial ⟨v2 h1,trivial⟩ trivial,rfl,rfl⟩,pre,[],stOf [(8,.val (.bool X))] [] 0 [],Weak.of (by simp) trivial ⟨v2 h1,trivial⟩ trivial,rfl,rfl⟩⟩
 ·cases e
end Go.Proofs
namespace Go.Num
open Go Go.Ex Go.Proofs
theorem dgt {n:Nat} (k:Nat):decide (((n:Nat):Int) > (k:Int))=decide (k < n):=by
 rw [decide_eq_decide]
 omega
theorem dlt {n:Nat} (k:Nat):decide (((n:Nat):Int) < (k:Int))=decide (n < k):=by
 rw [decide_eq_decide]
 omega
def grtR (n:Nat) (p:Nat→PtS):Bool:=(decide (10 < n)&&decide (n < 63)||decide (66 < n))||anyP (fun i=>bigP (p i)) n
def grtF (lo hi:PtS) (k:Nat) (n:Nat→Nat) (p:Nat→Nat→PtS) (l:Nat):Bool:=(bigP lo||bigP hi||decide (40 < l))||anyP (fun i=>grtR (n i) (p i)) k||(decide (k≤32)&&(decide (6 < k)||decide (24 < sumN n k))||decide (35 < k))
theorem grtR_le {n:Nat} {p:Nat→PtS} (h:grtR n p=false):n≤66:=by
 unfold grtR at h
 simp only [Bool.or_eq_false_iff,decide_eq_false_iff_not] at h
 omega
end Go.Num
namespace Go.Proofs
open Go Go.Ex Go.Num
set_option maxRecDepth 100000
def c86:List PV→Option Ans
 |[.val v]=>some ⟨some (isPk 140737488355328 v),.val (.bool (bigP (rdV v))),[]⟩
 |_=>none
def D86:Opt:={  }
theorem ok86:funcOk D86.toOrd Tryz.f86 1=true:=by kernel_rfl
theorem f86:FnOk Tryz.prog 86 c86:=by
 refine FnOk.ofW orders (mkE_ok (l:=[]) (own:=[]) (inl:=[]) (by simp []) (by simp)) Tryz.func86 D86 1 ok86 fun args r e=>?_
 unfold c86 at e
 split at e
 ·rename_i v
  cases e
  refine⟨by simp,fun hm=>?_⟩
  obtain⟨p,rfl,hp⟩:=hm _ rfl
  refine⟨[],stOf [(0,.val p.v)] [] 0 [],Weak.of (by simp) trivial ⟨rfl,trivial⟩ trivial,?_⟩
  obtain⟨X,hX⟩:∃X,X=bigP p:=⟨_,rfl⟩
  have hx:bigP (rdV p.v)=X:=hX.symm
  rw [hx]
  have e:X=((decide ((((p.x.b).size:Nat):Int) > 12)||decide ((((p.x.c).size:Nat):Int) > 12))||(decide ((((p.y.b).size:Nat):Int) > 12)||decide ((((p.y.c).size:Nat):Int) > 12))):=by rw [hX,bigP,bigR,bigR,←dgt 12,←dgt 12,←dgt 12,←dgt 12];rfl
  have v4:decide ((((p.x.b).size:Nat):Int) > 12)=false→decide ((((p.x.c).size:Nat):Int) > 12)=false→decide ((((p.y.b).size:Nat):Int) > 12)=false→PV.val (.bool (decide ((((p.y.c).size:Nat):Int) > 12)))=PV.val (.bool X):=fun h1 h2 h3=>by rw [e,h1,h2,h3];rfl
  have v3:decide ((((p.y.b).size:Nat):Int) > 12)=true→PV.val (.bool true)=PV.val (.bool X):=fun h=>by rw [e,h,Bool.true_or,Bool.or_true]
  have v2:decide ((((p.x.c).size:Nat):Int) > 12)=true→PV.val (.bool true)=PV.val (.bool X):=fun h=>by rw [e,h,Bool.or_true,Bool.true_or]
  have v1:decide ((((p.x.b).size:Nat):Int) > 12)=true→PV.val (.bool true)=PV.val (.bool X):=fun h=>by rw [e,h,Bool.true_or,Bool.true_or]
  with_unfolding_all exact⟨fun h1=>⟨fun h2=>⟨fun h3=>⟨[],stOf [(2,.val (.bool X))] [] 0 [],Weak.of (by simp) trivial ⟨v4 h1 h2 h3,trivial⟩ trivial,rfl,rfl⟩,fun h3=>⟨[],stOf [(2,.val (.bool X))] [] 0 [],Weak.of (by simp) trivial ⟨v3 h3,trivial⟩ trivial,rfl,rfl⟩⟩,fun h2=>⟨fun h=>(nomatch h),fun _=>⟨[],stOf [(2,.val (.bool X))] [] 0 [],Weak.of (by simp) trivial ⟨v2 h2,trivial⟩ trivial,rfl,rfl⟩⟩⟩,fun h1=>⟨fun h=>(nomatch h),fun _=>⟨fun h=>(nomatch h),fun _=>⟨[],stOf [(2,.val (.bool X))] [] 0 [],Weak.of (by simp) trivial ⟨v1 h1,trivial⟩ trivial,rfl,rfl⟩⟩⟩⟩
 ·cases e
def c87:List PV→Option Ans
 |[.rs 6 n g]=>some ⟨some (isPL 140737488355328 n g),.val (.bool (grtR n (pts g))),[]⟩
 |_=>none
def D87:Opt:={  }
theorem ok87:funcOk D87.toOrd Tryz.f87 1=true:=by kernel_rfl
theorem f87:FnOk Tryz.prog 87 c87:=by
 refine FnOk.ofW orders (mkE_ok (l:=[(86,c86)]) (own:=[]) (inl:=[]) (by simp [f86]) (by simp)) Tryz.func87 D87 1 ok87 fun args r e=>?_
 unfold c87 at e
 split at e
 ·rename_i n g
  cases e
  refine⟨by simp,fun hm=>?_⟩
  obtain⟨hg,hn⟩:=hm _ rfl
  refine⟨[],stOf [(0,.rs 6 n (fun i=>(pts g i).cells))] [] 0 [],Weak.of (by simp) trivial ⟨⟨rfl,rfl,fun i hi=>(hg i hi).1.symm⟩,trivial⟩ trivial,?_⟩
  obtain⟨X,hX⟩:∃X,X=grtR n (pts g):=⟨_,rfl⟩
  rw [←hX]
  have e:X=((decide ((n:Int) > 10)&&decide ((n:Int) < 63)||decide ((n:Int) > 66))||anyP (fun i=>bigP (pts g i)) n):=by rw [hX,grtR,←dgt 10,←dgt 66,←dlt 63];rfl
  have z:∀a b c:Bool,(a&&b||c)=true→(a&&b||c||anyP (fun i=>bigP (pts g i)) n)=true:=fun a b c h=>by rw [h];rfl
  have v1:∀c:Bool,c=(decide ((n:Int) > 10)&&decide ((n:Int) < 63)||decide ((n:Int) > 66))→c=true→PV.val (.bool true)=PV.val (.bool X):=fun c h h'=>by rw [e,←h,h'];rfl
  have m1:decide ((n:Int) > 10)=true→decide ((n:Int) < 63)=false→decide ((n:Int) > 66)=true→(decide ((n:Int) > 10)&&decide ((n:Int) < 63)||decide ((n:Int) > 66))=true:=fun a b c=>by rw [c,Bool.or_true]
  have m2:decide ((n:Int) > 10)=true→decide ((n:Int) < 63)=true→(decide ((n:Int) > 10)&&decide ((n:Int) < 63)||decide ((n:Int) > 66))=true:=fun a b=>by rw [a,b];rfl
  have m3:decide ((n:Int) > 66)=true→(decide ((n:Int) > 10)&&decide ((n:Int) < 63)||decide ((n:Int) > 66))=true:=fun a=>by rw [a,Bool.or_true]
  have m4:decide ((n:Int) < 63)=false→decide ((n:Int) > 66)=false→(decide ((n:Int) > 10)&&decide ((n:Int) < 63)||decide ((n:Int) > 66))=false:=fun a b=>by rw [a,b,Bool.and_false];rfl
  have m5:decide ((n:Int) > 10)=false→decide ((n:Int) > 66)=false→(decide ((n:Int) > 10)&&decide ((n:Int) < 63)||decide ((n:Int) > 66))=false:=fun a b=>by rw [a,b];rfl
  have v2:(decide ((n:Int) > 10)&&decide ((n:Int) < 63)||decide ((n:Int) > 66))=true→PV.val (.bool true)=PV.val (.bool X):=fun h=>by rw [e,h];rfl
  have rT:∀i:Nat,(i:Int) < n→bigP (pts g (i:Int).toNat)=true→PV.val (.bool true)=PV.val (.bool X):=fun i hi h=>by
   rw [Int.toNat_natCast] at h
   rw [e,anyP_true.2 ⟨i,by omega,h⟩,Bool.or_true]
  have rN:∀i:Nat,(∀j,j < i→bigP (pts g j)=false)→bigP (pts g (i:Int).toNat)=false→∀j,j < i+1→bigP (pts g j)=false:=fun i hI h j hj=>by
   rw [Int.toNat_natCast] at h
   rcases Nat.lt_or_ge j i with h' | h'
   ·exact hI j h'
   ·obtain rfl:j=i:=by omega
    exact h
  have rF:∀i:Nat,(decide ((n:Int) > 10)&&decide ((n:Int) < 63)||decide ((n:Int) > 66))=false→(∀j,j < i→bigP (pts g j)=false)→(n:Int)≤i→PV.val (.bool false)=PV.val (.bool X):=fun i h hI hi=>by
   rw [e,h,anyP_false.2 fun j hj=>hI j (by omega)]
   rfl
  have wi:∀i:Nat,(i:Int) < n→PV.val (.int .i64 (IntKind.i64.wrap ((i:Int)+1)))=PV.val (.int .i64 ((i+1:Nat):Int)):=fun i h=>by
   rw [wrap64 (by omega) (by omega)]
   rfl
  have pk:∀i:Nat,(i:Int) < n→isPk 140737488355328 (pts g (i:Int).toNat).v:=fun i h=>⟨_,rfl,(hg (i:Int).toNat (by omega)).2⟩
  have mu:∀i:Nat,(i:Int) < n→n - (i+1) < n - i:=fun i h=>by omega
  have le:∀i:Nat,(i:Int) < n→i+1≤n:=fun i h=>by omega
  with_unfolding_all exact⟨fun h1=>⟨fun h2=>⟨fun h3=>⟨[],stOf [(2,.val (.bool X))] [] 0 [],Weak.of (by simp) trivial ⟨v2 (m1 h1 h2 h3),trivial⟩ trivial,rfl,rfl⟩,fun h3=>⟨Nat,fun i=>(decide ((n:Int) > 10)&&decide ((n:Int) < 63)||decide ((n:Int) > 66))=false∧i≤n∧∀j,j < i→bigP (pts g j)=false,fun i=>stOf [(0,.rs 6 n (fun i=>(pts g i).cells)),(3,.val (goInt i))] [] 0 [],fun i=>n - i,⟨0,[],⟨m4 h2 h3,Nat.zero_le _,fun j hj=>absurd hj (Nat.not_lt_zero j)⟩,Weak.of (by simp) trivial ⟨⟨rfl,rfl,fun _ _=>rfl⟩,rfl,trivial⟩ trivial⟩,fun i hi=>⟨fun h1=>⟨⟨Int.natCast_nonneg i,ltT h1⟩,pk i (ltT h1),fun h2=>⟨[],stOf [(2,.val (.bool X))] [] 0 [],Weak.of (by simp) trivial ⟨rT i (ltT h1) h2,trivial⟩ trivial,rfl,rfl⟩,fun h2=>⟨i+1,[],⟨hi.1,le i (ltT h1),rN i hi.2.2 h2⟩,mu i (ltT h1),Weak.of (by simp) trivial ⟨⟨rfl,rfl,fun _ _=>rfl⟩,wi i (ltT h1),trivial⟩ trivial⟩⟩,fun h1=>⟨[],stOf [(2,.val (.bool X))] [] 0 [],Weak.of (by simp) trivial ⟨rF i hi.1 hi.2.2 (ltF h1),trivial⟩ trivial,rfl,rfl⟩⟩⟩⟩,fun h2=>⟨fun _=>⟨[],stOf [(2,.val (.bool X))] [] 0 [],Weak.of (by simp) trivial ⟨v2 (m2 h1 h2),trivial⟩ trivial,rfl,rfl⟩,fun h=>(nomatch h)⟩⟩,fun h1=>⟨fun _=>⟨fun h3=>⟨[],stOf [(2,.val (.bool X))] [] 0 [],Weak.of (by simp) trivial ⟨v2 (m3 h3),trivial⟩ trivial,rfl,rfl⟩,fun h3=>⟨Nat,fun i=>(decide ((n:Int) > 10)&&decide ((n:Int) < 63)||decide ((n:Int) > 66))=false∧i≤n∧∀j,j < i→bigP (pts g j)=false,fun i=>stOf [(0,.rs 6 n (fun i=>(pts g i).cells)),(3,.val (goInt i))] [] 0 [],fun i=>n - i,⟨0,[],⟨m5 h1 h3,Nat.zero_le _,fun j hj=>absurd hj (Nat.not_lt_zero j)⟩,Weak.of (by simp) trivial ⟨⟨rfl,rfl,fun _ _=>rfl⟩,rfl,trivial⟩ trivial⟩,fun i hi=>⟨fun h1=>⟨⟨Int.natCast_nonneg i,ltT h1⟩,pk i (ltT h1),fun h2=>⟨[],stOf [(2,.val (.bool X))] [] 0 [],Weak.of (by simp) trivial ⟨rT i (ltT h1) h2,trivial⟩ trivial,rfl,rfl⟩,fun h2=>⟨i+1,[],⟨hi.1,le i (ltT h1),rN i hi.2.2 h2⟩,mu i (ltT h1),Weak.of (by simp) trivial ⟨⟨rfl,rfl,fun _ _=>rfl⟩,wi i (ltT h1),trivial⟩ trivial⟩⟩,fun h1=>⟨[],stOf [(2,.val (.bool X))] [] 0 [],Weak.of (by simp) trivial ⟨rF i hi.1 hi.2.2 (ltF h1),trivial⟩ trivial,rfl,rfl⟩⟩⟩⟩,fun h=>(nomatch h)⟩⟩
 ·cases e
def c50:List PV→Option Ans
 |[.agg xs]=>some ⟨some (isRg 140737488355328 xs),.val (.bool (grtF (gLo xs) (gHi xs) (gK xs) (pn (gC xs)) (fun i=>pts (pg (gC xs) i)) (gL xs))),[]⟩
 |_=>none
def D50:Opt:={  }
theorem ok50:funcOk D50.toOrd Tryz.f50 1=true:=by kernel_rfl
theorem f50:FnOk Tryz.prog 50 c50:=by
 refine FnOk.ofW orders (mkE_ok (l:=[(86,c86),(87,c87)]) (own:=[]) (inl:=[]) (by simp [f86,f87]) (by simp)) Tryz.func50 D50 1 ok50 fun args r e=>?_
 unfold c50 at e
 split at e
 ·rename_i xs
  cases e
  refine⟨by simp,fun hm=>?_⟩
  obtain⟨h1,⟨hlo,hhi⟩,hcl,hol⟩:=hm _ rfl
  generalize gLo xs=lo at *
  generalize gHi xs=hi at *
  generalize gK xs=k at *
  generalize gC xs=c at *
  generalize gL xs=l at *
  generalize gO xs=o at *
  subst h1
  clear hm
  refine⟨[],stOf [(0,.agg (regC lo hi k c l o))] [] 0 [],Weak.of (by simp) trivial ⟨⟨rfl,rfl,rfl,rfl,rfl,rfl,rfl,rfl,rfl,rfl,rfl,rfl,⟨rfl,rfl,fun _ _=>rfl⟩,⟨rfl,rfl,fun _ _=>rfl⟩,trivial⟩,trivial⟩ trivial,?_⟩
  obtain⟨X,hX⟩:∃X,X=grtF lo hi k (pn c) (fun i=>pts (pg c i)) l:=⟨_,rfl⟩
  rw [←hX]
  have e:X=(((bigP lo||bigP hi)||decide ((l:Int) > 40))||anyP (fun i=>grtR (pn c i) (pts (pg c i))) k||(decide (k≤32)&&(decide (6 < k)||decide (24 < sumN (pn c) k))||decide (35 < k))):=by rw [hX,grtF,←dgt 40];rfl
  have v1:∀A B C:Bool,((A||B)||C)=((bigP lo||bigP hi)||decide ((l:Int) > 40))→((A||B)||C)=true→PV.val (.bool true)=PV.val (.bool X):=fun A B C h h'=>by rw [e,←h,h',Bool.true_or,Bool.true_or]
  have t1:bigP lo=true→((bigP lo||bigP hi)||decide ((l:Int) > 40))=true:=fun h=>by rw [h];rfl
  have t2:bigP hi=true→((bigP lo||bigP hi)||decide ((l:Int) > 40))=true:=fun h=>by rw [h,Bool.or_true];rfl
  have t3:decide ((l:Int) > 40)=true→((bigP lo||bigP hi)||decide ((l:Int) > 40))=true:=fun h=>by rw [h,Bool.or_true]
  have t4:bigP lo=false→bigP hi=false→decide ((l:Int) > 40)=false→((bigP lo||bigP hi)||decide ((l:Int) > 40))=false:=fun h h' h2=>by rw [h,h',h2];rfl
  have v0:((bigP lo||bigP hi)||decide ((l:Int) > 40))=true→PV.val (.bool true)=PV.val (.bool X):=fun h=>by rw [e,h,Bool.true_or,Bool.true_or]
  have pl:isPk 140737488355328 lo.v:=⟨_,rfl,hlo⟩
  have ph:isPk 140737488355328 hi.v:=⟨_,rfl,hhi⟩
  have hk47:k≤140737488355328:=hcl.2
  with_unfolding_all refine⟨pl,fun h1=>⟨ph,fun h2=>⟨fun h3=>⟨[],stOf [(2,.val (.bool X))] [] 0 [],Weak.of (by simp) trivial ⟨v0 (t3 h3),trivial⟩ trivial,rfl,rfl⟩,fun h3=>⟨Nat,fun i=>((bigP lo||bigP hi)||decide ((l:Int) > 40))=false∧i≤k∧∀j,j < i→grtR (pn c j) (pts (pg c j))=false,fun i=>stOf [(1,.ptr 0 0 0 0),(3,.val (goInt (sumN (pn c) i))),(4,.val (goInt i))] [⟨31,14,0,true,false,1,fun _=>regC lo hi k c l o⟩] 1 [],fun i=>k - i,⟨0,[some 0],⟨t4 h1 h2 h3,Nat.zero_le _,fun j hj=>absurd hj (Nat.not_lt_zero j)⟩,Weak.of (by simp) ⟨⟨lt_ok rfl,rfl,rfl,rfl,rfl,rfl,⟨rfl,rfl⟩,⟨rfl,rfl⟩,⟨rfl,rfl⟩,⟨rfl,rfl⟩,⟨rfl,rfl⟩,⟨rfl,rfl⟩,⟨rfl,rfl⟩,⟨rfl,rfl⟩,⟨rfl,rfl⟩,⟨rfl,rfl⟩,⟨rfl,rfl⟩,⟨rfl,rfl⟩,⟨⟨rfl,rfl,fun _ _=>rfl⟩,rfl⟩,⟨⟨rfl,rfl,fun _ _=>rfl⟩,rfl⟩,trivial⟩,trivial⟩ ⟨⟨rfl,rfl,rfl,lt_ok rfl,_,rfl⟩,rfl,rfl,trivial⟩ trivial⟩,fun i hI0=>?_⟩⟩,fun h2=>⟨fun _=>⟨[],stOf [(2,.val (.bool X))] [] 0 [],Weak.of (by simp) trivial ⟨v0 (t2 h2),trivial⟩ trivial,rfl,rfl⟩,fun h=>(nomatch h)⟩⟩,fun h1=>⟨fun h=>(nomatch h),fun _=>⟨fun _=>⟨[],stOf [(2,.val (.bool X))] [] 0 [],Weak.of (by simp) trivial ⟨v0 (t1 h1),trivial⟩ trivial,rfl,rfl⟩,fun h=>(nomatch h)⟩⟩⟩
  obtain⟨ha,hik,hI⟩:((bigP lo||bigP hi)||decide ((l:Int) > 40))=false∧i≤k∧∀j,j < i→grtR (pn c j) (pts (pg c j))=false:=hI0
  have hsum:∀j,j≤i→sumN (pn c) j≤66*j:=fun j=>by
   induction j with
   |zero=>intro _;exact Nat.le_refl _
   |succ j ih =>
    intro hj
    have h1:=ih (by omega)
    have h2:=grtR_le (hI j (by omega))
    unfold sumN
    omega
  have hs:=hsum i (Nat.le_refl _)
  have e1:decide (k≤32)=decide ((k:Int)≤32):=by
   rw [decide_eq_decide]
   omega
  have e':i=k→X=(anyP (fun i=>grtR (pn c i) (pts (pg c i))) k||(decide ((k:Int)≤32)&&(decide ((k:Int) > 6)||decide (((sumN (pn c) i:Nat):Int) > 24))||decide ((k:Int) > 35))):=fun h=>by rw [e,ha,Bool.false_or,e1,←dgt 6,←dgt 35,←dgt 24,h];rfl
  have af:i=k→anyP (fun i=>grtR (pn c i) (pts (pg c i))) k=false:=fun h=>anyP_false.2 fun j hj=>hI j (by omega)
  have x1:(k:Int)≤i→decide ((k:Int)≤32)=true→decide ((k:Int) > 6)=false→decide (((sumN (pn c) i:Nat):Int) > 24)=false→PV.val (.bool (decide ((k:Int) > 35)))=PV.val (.bool X):=fun h a b d=>by
   have hk:i=k:=by omega
   rw [e' hk,af hk,a,b,d]
   rfl
  have x2:(k:Int)≤i→decide ((k:Int)≤32)=true→decide ((k:Int) > 6)=false→decide (((sumN (pn c) i:Nat):Int) > 24)=true→PV.val (.bool true)=PV.val (.bool X):=fun h a b d=>by
   have hk:i=k:=by omega
   rw [e' hk,a,d,Bool.or_true,Bool.true_and,Bool.true_or,Bool.or_true]
  have x3:(k:Int)≤i→decide ((k:Int)≤32)=true→decide ((k:Int) > 6)=true→PV.val (.bool true)=PV.val (.bool X):=fun h a b=>by
   have hk:i=k:=by omega
   rw [e' hk,a,b,Bool.true_or,Bool.true_and,Bool.true_or,Bool.or_true]
  have x4:(k:Int)≤i→decide ((k:Int)≤32)=false→PV.val (.bool (decide ((k:Int) > 35)))=PV.val (.bool X):=fun h a=>by
   have hk:i=k:=by omega
   rw [e' hk,af hk,a]
   rfl
  have ei:(i:Int).toNat=i:=Int.toNat_natCast i
  have rT:(i:Int) < k→grtR (pn c (i:Int).toNat) (pts (pg c (i:Int).toNat))=true→PV.val (.bool true)=PV.val (.bool X):=fun hi1 h=>by
   rw [ei] at h
   rw [e,anyP_true.2 ⟨i,by omega,h⟩,Bool.or_true,Bool.true_or]
  have rN:grtR (pn c (i:Int).toNat) (pts (pg c (i:Int).toNat))=false→∀j,j < i+1→grtR (pn c j) (pts (pg c j))=false:=fun h j hj=>by
   rw [ei] at h
   rcases Nat.lt_or_ge j i with h' | h'
   ·exact hI j h'
   ·obtain rfl:j=i:=by omega
    exact h
  have wi:(i:Int) < k→PV.val (.int .i64 (IntKind.i64.wrap ((i:Int)+1)))=PV.val (.int .i64 ((i+1:Nat):Int)):=fun h=>by
   rw [wrap64 (by omega) (by omega)]
   rfl
  have ws:grtR (pn c (i:Int).toNat) (pts (pg c (i:Int).toNat))=false→PV.val (.int .i64 (IntKind.i64.wrap (((sumN (pn c) i:Nat):Int)+((pn c (i:Int).toNat:Nat):Int))))=PV.val (goInt ((sumN (pn c) (i+1):Nat):Int)):=fun h=>by
   rw [ei] at h ⊢
   have h2:=grtR_le h
   rw [wrap64 (by omega) (by omega),sumN]
   rfl
  have pr:(i:Int) < k→isPL 140737488355328 (pn c (i:Int).toNat) (pg c (i:Int).toNat):=fun h=>(hcl.1 _ (by omega)).2
  have mu:(i:Int) < k→k - (i+1) < k - i:=fun h=>by omega
  have le:(i:Int) < k→i+1≤k:=fun h=>by omega
  with_unfolding_all exact⟨fun h1=>⟨⟨Int.natCast_nonneg i,ltT h1⟩,⟨Int.natCast_nonneg i,ltT h1⟩,pr (ltT h1),fun h2=>⟨[],stOf [(2,.val (.bool X))] [] 0 [],Weak.of (by simp) trivial ⟨rT (ltT h1) h2,trivial⟩ trivial,rfl,rfl⟩,fun h2=>⟨i+1,[some 0],⟨ha,le (ltT h1),rN h2⟩,mu (ltT h1),Weak.of (by simp) ⟨⟨lt_ok rfl,rfl,rfl,rfl,rfl,rfl,⟨rfl,rfl⟩,⟨rfl,rfl⟩,⟨rfl,rfl⟩,⟨rfl,rfl⟩,⟨rfl,rfl⟩,⟨rfl,rfl⟩,⟨rfl,rfl⟩,⟨rfl,rfl⟩,⟨rfl,rfl⟩,⟨rfl,rfl⟩,⟨rfl,rfl⟩,⟨rfl,rfl⟩,⟨⟨rfl,rfl,fun _ _=>rfl⟩,rfl⟩,⟨⟨rfl,rfl,fun _ _=>rfl⟩,rfl⟩,trivial⟩,trivial⟩ ⟨⟨rfl,rfl,rfl,lt_ok rfl,_,rfl⟩,ws h2,wi (ltT h1),trivial⟩ trivial⟩⟩,fun h1=>⟨fun h2=>⟨fun h3=>⟨fun h4=>⟨[],stOf [(2,.val (.bool X))] [] 0 [],Weak.of (by simp) trivial ⟨x1 (ltF h1) h2 h3 h4,trivial⟩ trivial,rfl,rfl⟩,fun h4=>⟨[],stOf [(2,.val (.bool X))] [] 0 [],Weak.of (by simp) trivial ⟨x2 (ltF h1) h2 h3 h4,trivial⟩ trivial,rfl,rfl⟩⟩,fun h3=>⟨fun h=>(nomatch h),fun _=>⟨[],stOf [(2,.val (.bool X))] [] 0 [],Weak.of (by simp) trivial ⟨x3 (ltF h1) h2 h3,trivial⟩ trivial,rfl,rfl⟩⟩⟩,fun h2=>⟨fun _=>⟨[],stOf [(2,.val (.bool X))] [] 0 [],Weak.of (by simp) trivial ⟨x4 (ltF h1) h2,trivial⟩ trivial,rfl,rfl⟩,fun h=>(nomatch h)⟩⟩⟩
 ·cases e
end Go.Proofs
namespace Go.Num
open Go Go.Ex Go.Proofs
def bad13 (n:Nat) (p:Nat→PtS) (i:Nat):Bool:=decide (orP (p i) (p ((i+1)%n)) (p ((i+2)%n))≤0)||decide (0 < i)&&decide (i+1 < n)&&decide (orP (p 0) (p i) (p (i+1))≤0)
def ge0 (p:Nat→PtS) (i:Nat):Bool:=decide (cmpP (p 0) (p (1+i))≥0)
def chk13 (n:Nat) (p:Nat→PtS):Int:=bif decide (n < 3)||decide (64 < n) then 4 else bif anyP (fun i=>!canonP (p i)) n then 1 else bif anyP (ge0 p) (n - 1) then 8 else bif anyP (bad13 n p) n then 15 else 0
end Go.Num
namespace Go.Proofs
open Go Go.Ex Go.Num
set_option maxRecDepth 100000
def c95:List PV→Option Ans
 |[.rs 6 n g]=>some ⟨some (isPL 10000 n g),.val (.int .i64 (chk13 n (pts g))),[]⟩
 |_=>none
def D95:Opt:={  }
theorem ok95:funcOk D95.toOrd Tryz.f95 1=true:=by kernel_rfl
theorem f95:FnOk Tryz.prog 95 c95:=by
 refine FnOk.ofW orders (mkE_ok (l:=[(130,c130),(98,c98),(131,c131)]) (own:=[]) (inl:=[]) (by simp [f130,f98,f131]) (by simp)) Tryz.func95 D95 1 ok95 fun args r e=>?_
 unfold c95 at e
 split at e
 ·rename_i n g
  cases e
  refine⟨by simp,fun hm=>?_⟩
  obtain⟨hg,hn⟩:=hm _ rfl
  refine⟨[],stOf [(0,.rs 6 n (fun i=>(pts g i).cells))] [] 0 [],Weak.of (by simp) trivial ⟨⟨rfl,rfl,fun i hi=>(hg i hi).1.symm⟩,trivial⟩ trivial,?_⟩
  obtain⟨X,hX⟩:∃X,X=chk13 n (pts g):=⟨_,rfl⟩
  rw [←hX]
  have e:X=bif decide ((n:Int) < 3)||decide ((n:Int) > 64) then 4 else bif anyP (fun i=>!canonP (pts g i)) n then 1 else bif anyP (ge0 (pts g)) (n - 1) then 8 else bif anyP (bad13 n (pts g)) n then 15 else 0:=by rw [hX,chk13,←dgt 64,←dlt 3];rfl
  have hpl:isPL 4294967296 n (fun i=>(pts g i).cells):=⟨fun i hi=>⟨rfl,(hg i hi).2.mono (by decide)⟩,hn⟩
  have x4:(decide ((n:Int) < 3)||decide ((n:Int) > 64))=true→PV.val (.int .i64 4)=PV.val (.int .i64 X):=fun h=>by rw [e,h];rfl
  have t1:decide ((n:Int) < 3)=true→(decide ((n:Int) < 3)||decide ((n:Int) > 64))=true:=fun h=>by rw [h];rfl
  have t2:decide ((n:Int) > 64)=true→(decide ((n:Int) < 3)||decide ((n:Int) > 64))=true:=fun h=>by rw [h,Bool.or_true]
  have x1:decide ((n:Int) < 3)=false→decide ((n:Int) > 64)=false→(!!anyP (fun i=>!canonP (pts g i)) n)=true→PV.val (.int .i64 1)=PV.val (.int .i64 X):=fun h h' k=>by
   rw [Bool.not_not] at k
   rw [e,h,h',k]
   rfl
  have e2:decide ((n:Int) < 3)=false→decide ((n:Int) > 64)=false→(!!anyP (fun i=>!canonP (pts g i)) n)=false→(3≤n∧n≤64)∧X=bif anyP (ge0 (pts g)) (n - 1) then 8 else bif anyP (bad13 n (pts g)) n then 15 else 0:=fun h h' k=>by
   rw [Bool.not_not] at k
   have h1:=of_decide_eq_false h
   have h2:=of_decide_eq_false h'
   exact⟨by omega,by rw [e,h,h',k];rfl⟩
  with_unfolding_all refine⟨fun h1=>⟨fun h2=>⟨[],stOf [(2,.val (.int .i64 X))] [] 0 [],Weak.of (by simp) trivial ⟨x4 (t2 h2),trivial⟩ trivial,rfl,rfl⟩,fun h2=>⟨hpl,fun h3=>⟨[],stOf [(2,.val (.int .i64 X))] [] 0 [],Weak.of (by simp) trivial ⟨x1 h1 h2 h3,trivial⟩ trivial,rfl,rfl⟩,fun h3=>⟨Nat,fun j=>((3≤n∧n≤64)∧X=bif anyP (ge0 (pts g)) (n - 1) then 8 else bif anyP (bad13 n (pts g)) n then 15 else 0)∧j+1≤n∧∀i,i < j→ge0 (pts g) i=false,fun j=>stOf [(0,.rs 6 n (fun i=>(pts g i).cells)),(3,.val (goInt n)),(4,.val (.int .i64 ((j:Int)+1)))] [] 0 [],fun j=>n - j,⟨0,[],⟨e2 h1 h2 h3,by have:=(e2 h1 h2 h3).1;show 0+1≤n;omega,fun i hi=>absurd hi (Nat.not_lt_zero i)⟩,Weak.of (by simp) trivial ⟨⟨rfl,rfl,fun _ _=>rfl⟩,rfl,rfl,trivial⟩ trivial⟩,fun j hj=>?_⟩⟩⟩,fun h1=>⟨fun _=>⟨[],stOf [(2,.val (.int .i64 X))] [] 0 [],Weak.of (by simp) trivial ⟨x4 (t1 h1),trivial⟩ trivial,rfl,rfl⟩,fun h=>(nomatch h)⟩⟩
  obtain⟨⟨⟨hn3,hn64⟩,hE⟩,hjn,hJ⟩:((3≤n∧n≤64)∧X=bif anyP (ge0 (pts g)) (n - 1) then 8 else bif anyP (bad13 n (pts g)) n then 15 else 0)∧j+1≤n∧∀i,i < j→ge0 (pts g) i=false:=hj
  with_unfolding_all refine⟨fun h1=>?_,fun h1=>?_⟩
  ·have h1:(j:Int)+1 < n:=ltT h1
   have ej:((j:Int)+1).toNat=1+j:=by omega
   have hc:decide (cmpP (pts g 0) (pts g ((j:Int)+1).toNat)≥0)=ge0 (pts g) j:=by rw [ej];rfl
   have pk0:isPk 1073741824 (pts g 0).v:=⟨_,rfl,(hg 0 (by omega)).2.mono (by decide)⟩
   have pkj:isPk 1073741824 (pts g ((j:Int)+1).toNat).v:=⟨_,rfl,(hg _ (by omega)).2.mono (by decide)⟩
   have v8:decide (cmpP (pts g 0) (pts g ((j:Int)+1).toNat)≥0)=true→PV.val (.int .i64 8)=PV.val (.int .i64 X):=fun h=>by
    rw [hc] at h
    rw [hE,anyP_true.2 ⟨j,by omega,h⟩]
    rfl
   have nx:decide (cmpP (pts g 0) (pts g ((j:Int)+1).toNat)≥0)=false→∀i,i < j+1→ge0 (pts g) i=false:=fun h i hi=>by
    rw [hc] at h
    rcases Nat.lt_or_ge i j with h' | h'
    ·exact hJ i h'
    ·obtain rfl:i=j:=by omega
     exact h
   have wj:PV.val (.int .i64 (IntKind.i64.wrap ((j:Int)+1+1)))=PV.val (.int .i64 (((j+1:Nat):Int)+1)):=by
    rw [wrap64 (by omega) (by omega)]
    rfl
   with_unfolding_all exact⟨⟨by omega,by omega⟩,⟨by omega,h1⟩,⟨pk0,pkj⟩,fun h2=>⟨[],stOf [(2,.val (.int .i64 X))] [] 0 [],Weak.of (by simp) trivial ⟨v8 h2,trivial⟩ trivial,rfl,rfl⟩,fun h2=>⟨j+1,[],⟨⟨⟨hn3,hn64⟩,hE⟩,by show j+1+1≤n;omega,nx h2⟩,by show n - (j+1) < n - j;omega,Weak.of (by simp) trivial ⟨⟨rfl,rfl,fun _ _=>rfl⟩,rfl,wj,trivial⟩ trivial⟩⟩
  ·have h1:(n:Int)≤(j:Int)+1:=ltF h1
   have hE2:X=bif anyP (bad13 n (pts g)) n then 15 else 0:=by
    rw [hE,anyP_false.2 fun i hi=>hJ i (by omega)]
    rfl
   with_unfolding_all refine⟨Nat,fun i=>i≤n∧∀j,j < i→bad13 n (pts g) j=false,fun i=>stOf [(0,.rs 6 n (fun i=>(pts g i).cells)),(3,.val (goInt n)),(5,.val (goInt i))] [] 0 [],fun i=>n - i,⟨0,[],⟨Nat.zero_le _,fun i hi=>absurd hi (Nat.not_lt_zero i)⟩,Weak.of (by simp) trivial ⟨⟨rfl,rfl,fun _ _=>rfl⟩,rfl,rfl,trivial⟩ trivial⟩,fun i hi=>?_⟩
   obtain⟨hin,hI⟩:i≤n∧∀j,j < i→bad13 n (pts g) j=false:=hi
   with_unfolding_all refine⟨fun h2=>?_,fun h2=>?_⟩
   ·have h2:(i:Int) < n:=ltT h2
    have ei:(i:Int).toNat=i:=Int.toNat_natCast i
    have wr:∀m:Nat,m≤2→IntKind.i64.wrap ((i:Int)+(m:Int))=((i+m:Nat):Int):=fun m hm=>by
     rw [wrap64 (by omega) (by omega),Int.natCast_add]
    have r1:IntKind.i64.wrap ((i:Int)+1)=((i+1:Nat):Int):=wr 1 (by decide)
    have r2:IntKind.i64.wrap ((i:Int)+2)=((i+2:Nat):Int):=wr 2 (by decide)
    have q1:((IntKind.i64.wrap ((i:Int)+1)).tmod n)=(((i+1)%n:Nat):Int):=by rw [r1];rfl
    have q2:((IntKind.i64.wrap ((i:Int)+2)).tmod n)=(((i+2)%n:Nat):Int):=by rw [r2];rfl
    have l1:=Nat.mod_lt (i+1) (show 0 < n by omega)
    have l2:=Nat.mod_lt (i+2) (show 0 < n by omega)
    have m1:0≤((IntKind.i64.wrap ((i:Int)+1)).tmod n)∧((IntKind.i64.wrap ((i:Int)+1)).tmod n) < n:=by rw [q1];omega
    have m2:0≤((IntKind.i64.wrap ((i:Int)+2)).tmod n)∧((IntKind.i64.wrap ((i:Int)+2)).tmod n) < n:=by rw [q2];omega
    have hne:(n:Int)≠0:=by omega
    have b1:decide (orP (pts g (i:Int).toNat) (pts g ((IntKind.i64.wrap ((i:Int)+1)).tmod n).toNat) (pts g ((IntKind.i64.wrap ((i:Int)+2)).tmod n).toNat)≤0)=decide (orP (pts g i) (pts g ((i+1)%n)) (pts g ((i+2)%n))≤0):=by rw [q1,q2,ei,Int.toNat_natCast,Int.toNat_natCast]
    have b2:decide (orP (pts g 0) (pts g (i:Int).toNat) (pts g (IntKind.i64.wrap ((i:Int)+1)).toNat)≤0)=decide (orP (pts g 0) (pts g i) (pts g (i+1))≤0):=by rw [r1,ei,Int.toNat_natCast]
    have b3:decide ((IntKind.i64.wrap ((i:Int)+1)) < (n:Int))=decide (i+1 < n):=by
     rw [r1,decide_eq_decide]
     omega
    have b4:decide ((i:Int) > 0)=decide (0 < i):=by
     rw [decide_eq_decide]
     omega
    have eb:bad13 n (pts g) i=(decide (orP (pts g (i:Int).toNat) (pts g ((IntKind.i64.wrap ((i:Int)+1)).tmod n).toNat) (pts g ((IntKind.i64.wrap ((i:Int)+2)).tmod n).toNat)≤0)||decide ((i:Int) > 0)&&decide ((IntKind.i64.wrap ((i:Int)+1)) < (n:Int))&&decide (orP (pts g 0) (pts g (i:Int).toNat) (pts g (IntKind.i64.wrap ((i:Int)+1)).toNat)≤0)):=by rw [b1,b2,b3,b4];rfl
    have le1:i+1≤n:=by omega
    have mu:n - (i+1) < n - i:=by omega
    have wi:PV.val (.int .i64 (IntKind.i64.wrap ((i:Int)+1)))=PV.val (.int .i64 ((i+1:Nat):Int)):=by rw [r1]
    have v15:bad13 n (pts g) i=true→PV.val (.int .i64 15)=PV.val (.int .i64 X):=fun h=>by
     rw [hE2,anyP_true.2 ⟨i,by omega,h⟩]
     rfl
    have nx:bad13 n (pts g) i=false→∀j,j < i+1→bad13 n (pts g) j=false:=fun h j hj=>by
     rcases Nat.lt_or_ge j i with h' | h'
     ·exact hI j h'
     ·obtain rfl:j=i:=by omega
      exact h
    have a1:decide (orP (pts g (i:Int).toNat) (pts g ((IntKind.i64.wrap ((i:Int)+1)).tmod n).toNat) (pts g ((IntKind.i64.wrap ((i:Int)+2)).tmod n).toNat)≤0)=true→bad13 n (pts g) i=true:=fun h=>by rw [eb,h];rfl
    have a2:decide (orP (pts g (i:Int).toNat) (pts g ((IntKind.i64.wrap ((i:Int)+1)).tmod n).toNat) (pts g ((IntKind.i64.wrap ((i:Int)+2)).tmod n).toNat)≤0)=false→decide ((i:Int) > 0)=false→bad13 n (pts g) i=false:=fun h h'=>by rw [eb,h,h'];rfl
    have a3:decide (orP (pts g (i:Int).toNat) (pts g ((IntKind.i64.wrap ((i:Int)+1)).tmod n).toNat) (pts g ((IntKind.i64.wrap ((i:Int)+2)).tmod n).toNat)≤0)=false→decide ((i:Int) > 0)=true→decide ((IntKind.i64.wrap ((i:Int)+1)) < (n:Int))=false→bad13 n (pts g) i=false:=fun h h' k=>by rw [eb,h,h',k];rfl
    have a4:decide ((i:Int) > 0)=true→decide ((IntKind.i64.wrap ((i:Int)+1)) < (n:Int))=true→decide (orP (pts g 0) (pts g (i:Int).toNat) (pts g (IntKind.i64.wrap ((i:Int)+1)).toNat)≤0)=true→bad13 n (pts g) i=true:=fun h h' k=>by
     rw [eb,h,h',k]
     exact Bool.or_true _
    have a5:decide (orP (pts g (i:Int).toNat) (pts g ((IntKind.i64.wrap ((i:Int)+1)).tmod n).toNat) (pts g ((IntKind.i64.wrap ((i:Int)+2)).tmod n).toNat)≤0)=false→decide (orP (pts g 0) (pts g (i:Int).toNat) (pts g (IntKind.i64.wrap ((i:Int)+1)).toNat)≤0)=false→bad13 n (pts g) i=false:=fun h k=>by rw [eb,h,k,Bool.and_false];rfl
    have pk:∀z:Int,0≤z∧z < n→isPk 10000 (pts g z.toNat).v:=fun z hz=>⟨_,rfl,(hg _ (by omega)).2⟩
    have pi:isPk 10000 (pts g (i:Int).toNat).v:=pk _ ⟨by omega,h2⟩
    have p0:isPk 10000 (pts g (Int.toNat 0)).v:=pk 0 ⟨by omega,by omega⟩
    have ri:0≤(i:Int)∧(i:Int) < n:=⟨by omega,h2⟩
    have r0:0≤(0:Int)∧(0:Int) < n:=⟨by omega,by omega⟩
    have rw1:decide ((IntKind.i64.wrap ((i:Int)+1)) < (n:Int))=true→0≤(IntKind.i64.wrap ((i:Int)+1))∧(IntKind.i64.wrap ((i:Int)+1)) < n:=fun h=>⟨by rw [r1];omega,of_decide_eq_true h⟩
    with_unfolding_all exact⟨ri,hne,m1,hne,m2,⟨pi,pk _ m1,pk _ m2⟩,⟨fun h3=>⟨fun h4=>⟨fun h5=>⟨r0,ri,rw1 h5,⟨p0,pi,pk _ (rw1 h5)⟩,fun h6=>⟨[],stOf [(2,.val (.int .i64 X))] [] 0 [],Weak.of (by simp) trivial ⟨v15 (a4 h4 h5 h6),trivial⟩ trivial,rfl,rfl⟩,fun h6=>⟨i+1,[],⟨le1,nx (a5 h3 h6)⟩,mu,Weak.of (by simp) trivial ⟨⟨rfl,rfl,fun _ _=>rfl⟩,rfl,wi,trivial⟩ trivial⟩⟩,fun h5=>⟨fun h=>(nomatch h),fun _=>⟨i+1,[],⟨le1,nx (a3 h3 h4 h5)⟩,mu,Weak.of (by simp) trivial ⟨⟨rfl,rfl,fun _ _=>rfl⟩,rfl,wi,trivial⟩ trivial⟩⟩⟩,fun h4=>⟨fun h=>(nomatch h),fun _=>⟨fun h=>(nomatch h),fun _=>⟨i+1,[],⟨le1,nx (a2 h3 h4)⟩,mu,Weak.of (by simp) trivial ⟨⟨rfl,rfl,fun _ _=>rfl⟩,rfl,wi,trivial⟩ trivial⟩⟩⟩⟩,fun h3=>⟨fun _=>⟨[],stOf [(2,.val (.int .i64 X))] [] 0 [],Weak.of (by simp) trivial ⟨v15 (a1 h3),trivial⟩ trivial,rfl,rfl⟩,fun h=>(nomatch h)⟩⟩⟩
   ·have h2:(n:Int)≤i:=ltF h2
    have v0:PV.val (.int .i64 0)=PV.val (.int .i64 X):=by
     rw [hE2,anyP_false.2 fun j hj=>hI j (by omega)]
     rfl
    with_unfolding_all exact⟨[],stOf [(2,.val (.int .i64 X))] [] 0 [],Weak.of (by simp) trivial ⟨v0,trivial⟩ trivial,rfl,rfl⟩
 ·cases e
end Go.Proofs
namespace Go.Num
open Go Go.Ex Go.Proofs
def regR (lo hi:PtS) (k:Nat) (n:Nat→Nat) (r:Nat→Int) (l:Nat) (q:Nat→Int×Int×Int):Int :=
 bif !canonP lo||!canonP hi then 1 else bif decide (32 < k) then 4 else bif !(firstE r k 0==0) then firstE r k 0
 else bif decide (396 < sumN n k) then 4 else bif !decide (l=k) then 9 else bif anyP (fun i=>negO (q i)) l then 2 else 0
theorem regE_R (lo hi:PtS) (k:Nat) (n:Nat→Nat) (p:Nat→Nat→PtS) (l:Nat) (q:Nat→Int×Int×Int):regE lo hi k n p l q=regR lo hi k n (fun i=>ringE (n i) (p i)) l q:=rfl
theorem chk13_le {n:Nat} {p:Nat→PtS} (h:chk13 n p=0):n≤64:=by
 unfold chk13 at h
 cases hc:(decide (n < 3)||decide (64 < n)) with
 |true=>rw [hc] at h;cases h
 |false =>
  simp only [Bool.or_eq_false_iff,decide_eq_false_iff_not] at hc
  omega
end Go.Num
namespace Go.Proofs
open Go Go.Ex Go.Num
set_option maxRecDepth 100000
def c58:List PV→Option Ans
 |[.agg xs]=>some ⟨some (isRg 10000 xs),.val (.int .i64 (regR (gLo xs) (gHi xs) (gK xs) (pn (gC xs)) (fun i=>chk13 (pn (gC xs) i) (pts (pg (gC xs) i))) (gL xs) (ow (gO xs)))),[]⟩
 |_=>none
def D58:Opt:={  }
theorem ok58:funcOk D58.toOrd Tryz.f58 1=true:=by kernel_rfl
theorem f58:FnOk Tryz.prog 58 c58:=by
 refine FnOk.ofW orders (mkE_ok (l:=[(59,c59),(95,c95)]) (own:=[]) (inl:=[]) (by simp [f59,f95]) (by simp)) Tryz.func58 D58 1 ok58 fun args r e=>?_
 unfold c58 at e
 split at e
 ·rename_i xs
  cases e
  refine⟨by simp,fun hm=>?_⟩
  obtain⟨h1,⟨hlo,hhi⟩,hcl,hol⟩:=hm _ rfl
  generalize gLo xs=lo at *
  generalize gHi xs=hi at *
  generalize gK xs=k at *
  generalize gC xs=c at *
  generalize gL xs=l at *
  generalize gO xs=o at *
  subst h1
  clear hm
  refine⟨[],stOf [(0,.agg (regC lo hi k c l o))] [] 0 [],Weak.of (by simp) trivial ⟨⟨rfl,rfl,rfl,rfl,rfl,rfl,rfl,rfl,rfl,rfl,rfl,rfl,⟨rfl,rfl,fun _ _=>rfl⟩,⟨rfl,rfl,fun _ _=>rfl⟩,trivial⟩,trivial⟩ trivial,?_⟩
  obtain⟨X,hX⟩:∃X,X=regR lo hi k (pn c) (fun i=>chk13 (pn c i) (pts (pg c i))) l (ow o):=⟨_,rfl⟩
  rw [←hX]
  obtain⟨Fe,hFe⟩:∃Fe,Fe=firstE (fun i=>chk13 (pn c i) (pts (pg c i))) k 0:=⟨_,rfl⟩
  have e:X=bif !canonP lo||!canonP hi then 1 else bif decide (32 < k) then 4 else bif !(Fe==0) then Fe else bif decide (396 < sumN (pn c) k) then 4 else bif !decide (l=k) then 9 else bif anyP (fun i=>negO (ow o i)) l then 2 else 0:=by rw [hX,regR,←hFe]
  clear hX
  have hno:∀b:Bool,(okW b != 0)=true→b=false:=fun b h=>by cases b<;>first|rfl|cases h
  have hyes:∀b:Bool,(okW b != 0)=false→b=true:=fun b h=>by cases b<;>first|rfl|cases h
  have pl:isPk 4294967296 lo.v:=⟨_,rfl,hlo.mono (by decide)⟩
  have ph:isPk 4294967296 hi.v:=⟨_,rfl,hhi.mono (by decide)⟩
  have x1:canonP lo=false→PV.val (.int .i64 1)=PV.val (.int .i64 X):=fun h=>by rw [e,h];rfl
  have x2:canonP hi=false→PV.val (.int .i64 1)=PV.val (.int .i64 X):=fun h=>by rw [e,h,Bool.not_false,Bool.or_true];rfl
  have x3:canonP lo=true→canonP hi=true→decide ((k:Int) > 32)=true→PV.val (.int .i64 4)=PV.val (.int .i64 X):=fun h h' k'=>by
   replace k':=(dgt 32).symm.trans k'
   rw [e,h,h',k']
   rfl
  have x4:canonP lo=true→canonP hi=true→decide ((k:Int) > 32)=false→(X=bif !(Fe==0) then Fe else bif decide (396 < sumN (pn c) k) then 4 else bif !decide (l=k) then 9 else bif anyP (fun i=>negO (ow o i)) l then 2 else 0)∧k≤32:=fun h h' k'=>by
   replace k':=(dgt 32).symm.trans k'
   refine⟨by rw [e,h,h',k'];rfl,?_⟩
   have:=of_decide_eq_false k'
   omega
  with_unfolding_all refine⟨pl,fun h1=>⟨ph,fun h2=>⟨[],stOf [(2,.val (.int .i64 X))] [] 0 [],Weak.of (by simp) trivial ⟨x2 (hno _ h2),trivial⟩ trivial,rfl,rfl⟩,fun h2=>⟨fun h3=>⟨[],stOf [(2,.val (.int .i64 X))] [] 0 [],Weak.of (by simp) trivial ⟨x3 (hyes _ h1) (hyes _ h2) h3,trivial⟩ trivial,rfl,rfl⟩,fun h3=>⟨Nat,fun i=>(X=bif !(Fe==0) then Fe else bif decide (396 < sumN (pn c) k) then 4 else bif !decide (l=k) then 9 else bif anyP (fun i=>negO (ow o i)) l then 2 else 0)∧k≤32∧i≤k∧firstE (fun i=>chk13 (pn c i) (pts (pg c i))) (k - i) i=Fe∧sumN (pn c) i≤64*i,fun i=>stOf [(1,.ptr 0 0 0 0),(3,.val (goInt (sumN (pn c) i))),(4,.val (goInt i))] [⟨31,14,0,true,false,1,fun _=>regC lo hi k c l o⟩] 1 [],fun i=>k - i,⟨0,[some 0],⟨(x4 (hyes _ h1) (hyes _ h2) h3).1,(x4 (hyes _ h1) (hyes _ h2) h3).2,Nat.zero_le _,hFe.symm,Nat.le_refl _⟩,Weak.of (by simp) ⟨⟨lt_ok rfl,rfl,rfl,rfl,rfl,rfl,⟨rfl,rfl⟩,⟨rfl,rfl⟩,⟨rfl,rfl⟩,⟨rfl,rfl⟩,⟨rfl,rfl⟩,⟨rfl,rfl⟩,⟨rfl,rfl⟩,⟨rfl,rfl⟩,⟨rfl,rfl⟩,⟨rfl,rfl⟩,⟨rfl,rfl⟩,⟨rfl,rfl⟩,⟨⟨rfl,rfl,fun _ _=>rfl⟩,rfl⟩,⟨⟨rfl,rfl,fun _ _=>rfl⟩,rfl⟩,trivial⟩,trivial⟩ ⟨⟨rfl,rfl,rfl,lt_ok rfl,_,rfl⟩,rfl,rfl,trivial⟩ trivial⟩,fun i hI0=>?_⟩⟩⟩,fun h1=>⟨fun _=>⟨[],stOf [(2,.val (.int .i64 X))] [] 0 [],Weak.of (by simp) trivial ⟨x1 (hno _ h1),trivial⟩ trivial,rfl,rfl⟩,fun h=>(nomatch h)⟩⟩
  obtain⟨hX,hk32,hik,hFi,hsum⟩:(X=bif !(Fe==0) then Fe else bif decide (396 < sumN (pn c) k) then 4 else bif !decide (l=k) then 9 else bif anyP (fun i=>negO (ow o i)) l then 2 else 0)∧k≤32∧i≤k∧firstE (fun i=>chk13 (pn c i) (pts (pg c i))) (k - i) i=Fe∧sumN (pn c) i≤64*i:=hI0
  with_unfolding_all refine⟨fun h1=>?_,fun h1=>?_⟩
  ·have h1:(i:Int) < k:=ltT h1
   have ei:(i:Int).toNat=i:=Int.toNat_natCast i
   have hst:firstE (fun i=>chk13 (pn c i) (pts (pg c i))) (k - i) i=bif chk13 (pn c i) (pts (pg c i))==0 then firstE (fun i=>chk13 (pn c i) (pts (pg c i))) (k - (i+1)) (i+1) else chk13 (pn c i) (pts (pg c i)):=by
    rw [show k - i=(k - (i+1))+1 by omega]
    rfl
   have hpl:isPL 10000 (pn c (i:Int).toNat) (pg c (i:Int).toNat):=(hcl.1 _ (by omega)).2
   have xr:(chk13 (pn c (i:Int).toNat) (pts (pg c (i:Int).toNat)) != 0)=true→PV.val (.int .i64 (chk13 (pn c (i:Int).toNat) (pts (pg c (i:Int).toNat))))=PV.val (.int .i64 X):=fun h=>by
    rw [ei] at h ⊢
    have h':(chk13 (pn c i) (pts (pg c i))==0)=false:=by simpa using h
    rw [h',cond_false] at hst
    rw [hX,←hFi,hst,h']
    rfl
   have z0:(chk13 (pn c (i:Int).toNat) (pts (pg c (i:Int).toNat)) != 0)=false→chk13 (pn c i) (pts (pg c i))=0:=fun h=>by
    rw [ei] at h
    simpa using h
   have nf:(chk13 (pn c (i:Int).toNat) (pts (pg c (i:Int).toNat)) != 0)=false→firstE (fun i=>chk13 (pn c i) (pts (pg c i))) (k - (i+1)) (i+1)=Fe:=fun h=>by
    have h':=z0 h
    rw [←hFi,hst,h']
    rfl
   have ns:(chk13 (pn c (i:Int).toNat) (pts (pg c (i:Int).toNat)) != 0)=false→sumN (pn c) (i+1)≤64*(i+1):=fun h=>by
    have h':=chk13_le (z0 h)
    unfold sumN
    omega
   have wi:PV.val (.int .i64 (IntKind.i64.wrap ((i:Int)+1)))=PV.val (.int .i64 ((i+1:Nat):Int)):=by
    rw [wrap64 (by omega) (by omega)]
    rfl
   have ws:(chk13 (pn c (i:Int).toNat) (pts (pg c (i:Int).toNat)) != 0)=false→PV.val (.int .i64 (IntKind.i64.wrap (((sumN (pn c) i:Nat):Int)+((pn c (i:Int).toNat:Nat):Int))))=PV.val (goInt ((sumN (pn c) (i+1):Nat):Int)):=fun h=>by
    have h':=chk13_le (z0 h)
    rw [ei,wrap64 (by omega) (by omega),sumN]
    rfl
   have ri:0≤(i:Int)∧(i:Int) < k:=⟨by omega,h1⟩
   have mu:k - (i+1) < k - i:=by omega
   have le:i+1≤k:=by omega
   with_unfolding_all exact⟨ri,hpl,fun h2=>⟨[],stOf [(2,.val (.int .i64 X))] [] 0 [],Weak.of (by simp) trivial ⟨xr h2,trivial⟩ trivial,rfl,rfl⟩,fun h2=>⟨ri,i+1,[some 0],⟨hX,hk32,le,nf h2,ns h2⟩,mu,Weak.of (by simp) ⟨⟨lt_ok rfl,rfl,rfl,rfl,rfl,rfl,⟨rfl,rfl⟩,⟨rfl,rfl⟩,⟨rfl,rfl⟩,⟨rfl,rfl⟩,⟨rfl,rfl⟩,⟨rfl,rfl⟩,⟨rfl,rfl⟩,⟨rfl,rfl⟩,⟨rfl,rfl⟩,⟨rfl,rfl⟩,⟨rfl,rfl⟩,⟨rfl,rfl⟩,⟨⟨rfl,rfl,fun _ _=>rfl⟩,rfl⟩,⟨⟨rfl,rfl,fun _ _=>rfl⟩,rfl⟩,trivial⟩,trivial⟩ ⟨⟨rfl,rfl,rfl,lt_ok rfl,_,rfl⟩,ws h2,wi,trivial⟩ trivial⟩⟩
  ·have h1:(k:Int)≤i:=ltF h1
   have hki:i=k:=by omega
   have hF0:Fe=0:=by
    rw [←hFi,show k - i=0 by omega]
    rfl
   have hX2:X=bif decide (396 < sumN (pn c) k) then 4 else bif !decide (l=k) then 9 else bif anyP (fun i=>negO (ow o i)) l then 2 else 0:=by rw [hX,hF0];rfl
   have hl47:=hol.2
   have y1:decide (((sumN (pn c) i:Nat):Int) > 396)=true→PV.val (.int .i64 4)=PV.val (.int .i64 X):=fun h=>by
    replace h:=(dgt 396).symm.trans h
    rw [hki] at h
    rw [hX2,h]
    rfl
   have y2:decide (((sumN (pn c) i:Nat):Int) > 396)=false→(!((l:Int)==(k:Int)))=true→PV.val (.int .i64 9)=PV.val (.int .i64 X):=fun h h'=>by
    replace h:=(dgt 396).symm.trans h
    rw [hki] at h
    have h2:¬l=k:=fun e=>by
     rw [e,beq_self_eq_true] at h'
     cases h'
    rw [hX2,h,decide_eq_false h2]
    rfl
   have x9:decide (((sumN (pn c) i:Nat):Int) > 396)=false→(!((l:Int)==(k:Int)))=false→X=bif anyP (fun i=>negO (ow o i)) l then 2 else 0:=fun h h'=>by
    replace h:=(dgt 396).symm.trans h
    rw [hki] at h
    have h2:l=k:=by
     have:((l:Int)==(k:Int))=true:=by simpa using h'
     have:=eq_of_beq this
     omega
    rw [hX2,h,decide_eq_true h2]
    rfl
   with_unfolding_all refine⟨fun h2=>⟨[],stOf [(2,.val (.int .i64 X))] [] 0 [],Weak.of (by simp) trivial ⟨y1 h2,trivial⟩ trivial,rfl,rfl⟩,fun h2=>⟨fun h3=>⟨[],stOf [(2,.val (.int .i64 X))] [] 0 [],Weak.of (by simp) trivial ⟨y2 h2 h3,trivial⟩ trivial,rfl,rfl⟩,fun h3=>⟨Nat,fun j=>(X=bif anyP (fun i=>negO (ow o i)) l then 2 else 0)∧j≤l∧∀i,i < j→negO (ow o i)=false,fun j=>stOf [(1,.ptr 0 0 0 0),(6,.val (goInt j))] [⟨31,14,0,true,false,1,fun _=>regC lo hi k c l o⟩] 1 [],fun j=>l - j,⟨0,[some 0],⟨x9 h2 h3,Nat.zero_le _,fun i hi=>absurd hi (Nat.not_lt_zero i)⟩,Weak.of (by simp) ⟨⟨lt_ok rfl,rfl,rfl,rfl,rfl,rfl,⟨rfl,rfl⟩,⟨rfl,rfl⟩,⟨rfl,rfl⟩,⟨rfl,rfl⟩,⟨rfl,rfl⟩,⟨rfl,rfl⟩,⟨rfl,rfl⟩,⟨rfl,rfl⟩,⟨rfl,rfl⟩,⟨rfl,rfl⟩,⟨rfl,rfl⟩,⟨rfl,rfl⟩,⟨⟨rfl,rfl,fun _ _=>rfl⟩,rfl⟩,⟨⟨rfl,rfl,fun _ _=>rfl⟩,rfl⟩,trivial⟩,trivial⟩ ⟨⟨rfl,rfl,rfl,lt_ok rfl,_,rfl⟩,rfl,trivial⟩ trivial⟩,fun j hJ0=>?_⟩⟩⟩
   obtain⟨hX3,hjl,hJ⟩:(X=bif anyP (fun i=>negO (ow o i)) l then 2 else 0)∧j≤l∧∀i,i < j→negO (ow o i)=false:=hJ0
   with_unfolding_all refine⟨fun h2=>?_,fun h2=>?_⟩
   ·have h2:(j:Int) < l:=ltT h2
    have ej:(j:Int).toNat=j:=Int.toNat_natCast j
    have rj:0≤(j:Int)∧(j:Int) < l:=⟨by omega,h2⟩
    have v2:negO (ow o (j:Int).toNat)=true→PV.val (.int .i64 2)=PV.val (.int .i64 X):=fun h=>by
     rw [ej] at h
     rw [hX3,anyP_true.2 ⟨j,by omega,h⟩]
     rfl
    have nx:negO (ow o (j:Int).toNat)=false→∀i,i < j+1→negO (ow o i)=false:=fun h i hi=>by
     rw [ej] at h
     rcases Nat.lt_or_ge i j with h' | h'
     ·exact hJ i h'
     ·obtain rfl:i=j:=by omega
      exact h
    have n1:decide ((ow o (j:Int).toNat).1 < 0)=true→negO (ow o (j:Int).toNat)=true:=fun h=>by unfold negO;rw [h];rfl
    have n2:decide ((ow o (j:Int).toNat).2.1 < 0)=true→negO (ow o (j:Int).toNat)=true:=fun h=>by unfold negO;rw [h,Bool.or_true];rfl
    have n3:decide ((ow o (j:Int).toNat).2.2 < 0)=true→negO (ow o (j:Int).toNat)=true:=fun h=>by unfold negO;rw [h,Bool.or_true]
    have n4:decide ((ow o (j:Int).toNat).1 < 0)=false→decide ((ow o (j:Int).toNat).2.1 < 0)=false→decide ((ow o (j:Int).toNat).2.2 < 0)=false→negO (ow o (j:Int).toNat)=false:=fun h h' k=>by unfold negO;rw [h,h',k];rfl
    have wj:PV.val (.int .i64 (IntKind.i64.wrap ((j:Int)+1)))=PV.val (.int .i64 ((j+1:Nat):Int)):=by
     rw [wrap64 (by omega) (by omega)]
     rfl
    have mu:l - (j+1) < l - j:=by omega
    have le:j+1≤l:=by omega
    with_unfolding_all exact⟨rj,fun h3=>⟨rj,fun h4=>⟨rj,fun h5=>⟨[],stOf [(2,.val (.int .i64 X))] [] 0 [],Weak.of (by simp) trivial ⟨v2 (n3 h5),trivial⟩ trivial,rfl,rfl⟩,fun h5=>⟨j+1,[some 0],⟨hX3,le,nx (n4 h3 h4 h5)⟩,mu,Weak.of (by simp) ⟨⟨lt_ok rfl,rfl,rfl,rfl,rfl,rfl,⟨rfl,rfl⟩,⟨rfl,rfl⟩,⟨rfl,rfl⟩,⟨rfl,rfl⟩,⟨rfl,rfl⟩,⟨rfl,rfl⟩,⟨rfl,rfl⟩,⟨rfl,rfl⟩,⟨rfl,rfl⟩,⟨rfl,rfl⟩,⟨rfl,rfl⟩,⟨rfl,rfl⟩,⟨⟨rfl,rfl,fun _ _=>rfl⟩,rfl⟩,⟨⟨rfl,rfl,fun _ _=>rfl⟩,rfl⟩,trivial⟩,trivial⟩ ⟨⟨rfl,rfl,rfl,lt_ok rfl,_,rfl⟩,wj,trivial⟩ trivial⟩⟩,fun h4=>⟨fun _=>⟨[],stOf [(2,.val (.int .i64 X))] [] 0 [],Weak.of (by simp) trivial ⟨v2 (n2 h4),trivial⟩ trivial,rfl,rfl⟩,fun h=>(nomatch h)⟩⟩,fun h3=>⟨fun h=>(nomatch h),fun _=>⟨fun _=>⟨[],stOf [(2,.val (.int .i64 X))] [] 0 [],Weak.of (by simp) trivial ⟨v2 (n1 h3),trivial⟩ trivial,rfl,rfl⟩,fun h=>(nomatch h)⟩⟩⟩
   ·have h2:(l:Int)≤j:=ltF h2
    have v0:PV.val (.int .i64 0)=PV.val (.int .i64 X):=by
     rw [hX3,anyP_false.2 fun i hi=>hJ i (by omega)]
     rfl
    with_unfolding_all exact⟨[],stOf [(2,.val (.int .i64 X))] [] 0 [],Weak.of (by simp) trivial ⟨v0,trivial⟩ trivial,rfl,rfl⟩
 ·cases e
end Go.Proofs
namespace Go.Num
open Go Go.Ex Go.Proofs
def addP (p u:PtS):PtS:=ptQ (p.X+u.X) (p.Y+u.Y)
def sclP (p:PtS) (r:RatS):PtS:=ptQ (p.X*r.q) (p.Y*r.q)
def atP (p u:PtS) (r:RatS):PtS:=addP p (sclP (subP u p) r)
theorem addP_le {a b:Nat} {p u:PtS} (h1:PtS.le a p) (h2:PtS.le b u):(addP p u).le (a+b+3):=ptQ_le ((h1.X.add h2.X).le (by omega)) ((h1.Y.add h2.Y).le (by omega))
theorem sclP_le {a b:Nat} {p:PtS} {r:RatS} (h1:PtS.le a p) (h2:RatS.le b r):(sclP p r).le (a+b+3):=ptQ_le ((h1.X.mul h2.qb).le (by omega)) ((h1.Y.mul h2.qb).le (by omega))
theorem bigP_le {p:PtS} (h:bigP p=false):p.le 12:=by
 unfold bigP bigR at h
 simp only [Bool.or_eq_false_iff,decide_eq_false_iff_not] at h
 unfold PtS.le RatS.le
 omega
theorem grtF_rg {K:Nat} {xs:List PV} (h:grtF (gLo xs) (gHi xs) (gK xs) (pn (gC xs)) (fun i=>pts (pg (gC xs) i)) (gL xs)=false) (hx:isRg K xs):isRg 12 xs:=by
 obtain⟨h1,_,hc,ho⟩:=hx
 unfold grtF at h
 simp only [Bool.or_eq_false_iff] at h
 refine⟨h1,⟨bigP_le h.1.1.1.1,bigP_le h.1.1.1.2⟩,⟨fun i hi=>⟨(hc.1 i hi).1,⟨fun j hj=>⟨((hc.1 i hi).2.1 j hj).1,?_⟩,(hc.1 i hi).2.2⟩⟩,hc.2⟩,ho⟩
 have h2:=(anyP_false.1 h.1.2) i hi
 unfold grtR at h2
 rw [Bool.or_eq_false_iff] at h2
 exact bigP_le ((anyP_false.1 h2.2) j hj)
theorem isRg.mono {a b:Nat} {xs:List PV} (h:isRg a xs) (hab:a≤b):isRg b xs :=
 ⟨h.1,⟨h.2.1.1.mono hab,h.2.1.2.mono hab⟩,⟨fun i hi=>⟨(h.2.2.1.1 i hi).1,⟨fun j hj=>⟨((h.2.2.1.1 i hi).2.1 j hj).1,((h.2.2.1.1 i hi).2.1 j hj).2.mono hab⟩,(h.2.2.1.1 i hi).2.2⟩⟩,h.2.2.1.2⟩,h.2.2.2⟩
theorem bigL_pl {K n:Nat} {g:Nat→List PV} (h:anyP (fun i=>bigP (pts g i)) n=false) (hg:isPL K n g):isPL 12 n g :=
 ⟨fun i hi=>⟨(hg.1 i hi).1,bigP_le ((anyP_false.1 h) i hi)⟩,hg.2⟩
theorem isPL.mono {a b n:Nat} {g:Nat→List PV} (h:isPL a n g) (hab:a≤b):isPL b n g:=⟨fun i hi=>⟨(h.1 i hi).1,(h.1 i hi).2.mono hab⟩,h.2⟩
def grtA (xs:List PV) (n:Nat) (g:Nat→List PV):Bool:=grtF (gLo xs) (gHi xs) (gK xs) (pn (gC xs)) (fun i=>pts (pg (gC xs) i)) (gL xs)||anyP (fun i=>bigP (pts g i)) n
def reg13 (xs:List PV):Int:=regR (gLo xs) (gHi xs) (gK xs) (pn (gC xs)) (fun i=>chk13 (pn (gC xs) i) (pts (pg (gC xs) i))) (gL xs) (ow (gO xs))
def fineA (xs:List PV) (n:Nat) (g:Nat→List PV):Bool:=!grtA xs n g&&(reg13 xs==0)&&!anyP (fun i=>!canonP (pts g i)) n
end Go.Num
namespace Go.Proofs
open Go Go.Ex Go.Num
set_option maxRecDepth 100000
theorem cell6 {x y:PtS} (h:x=y):PV.val (.bool x.x.s)=PV.val (.bool y.x.s)∧PV.val (.string x.x.b)=PV.val (.string y.x.b)∧PV.val (.string x.x.c)=PV.val (.string y.x.c)∧PV.val (.bool x.y.s)=PV.val (.bool y.y.s)∧PV.val (.string x.y.b)=PV.val (.string y.y.b)∧PV.val (.string x.y.c)=PV.val (.string y.y.c):=by
 rw [h]
 exact⟨rfl,rfl,rfl,rfl,rfl,rfl⟩
def c74:List PV→Option Ans
 |[.val v,.val u]=>some ⟨some (isPk 4294967296 v∧isPk 4294967296 u),.val (addP (rdV v) (rdV u)).v,[]⟩
 |_=>none
def D74:Opt:={  }
theorem ok74:funcOk D74.toOrd Tryz.f74 2=true:=by kernel_rfl
theorem f74:FnOk Tryz.prog 74 c74:=by
 refine FnOk.ofW orders (mkE_ok (l:=[(112,c112_113)]) (own:=[]) (inl:=[]) (by simp [f112_113]) (by simp)) Tryz.func74 D74 2 ok74 fun args r e=>?_
 unfold c74 at e
 split at e
 ·rename_i v u
  cases e
  refine⟨by simp,fun hm=>?_⟩
  obtain⟨⟨p,rfl,hp⟩,u,rfl,hu⟩:=hm _ rfl
  refine⟨[],stOf [(0,.val p.v),(1,.val u.v)] [] 0 [],Weak.of (by simp) trivial ⟨rfl,rfl,trivial⟩ trivial,?_⟩
  with_unfolding_all exact⟨⟨⟨p,rfl,hp⟩,u,rfl,hu⟩,[some 2],stOf [(4,.ptr 0 0 0 0)] [boxP (addP p u) 0] 1 [],Weak.of (by simp) ⟨⟨lt_ok rfl,rfl,rfl,rfl,rfl,rfl,⟨rfl,rfl⟩,⟨rfl,rfl⟩,⟨rfl,rfl⟩,⟨rfl,rfl⟩,⟨rfl,rfl⟩,⟨rfl,rfl⟩,trivial⟩,trivial⟩ ⟨⟨rfl,rfl,rfl,lt_ok rfl,_,rfl⟩,trivial⟩ trivial,rfl,rfl⟩
 ·cases e
def rdRS:Value→RatS
 |.agg ⟨[.bool s,.string b,.string c]⟩=>⟨s,b,c⟩
 |_=>⟨false,⟨#[]⟩,⟨#[]⟩⟩
def c75:List PV→Option Ans
 |[.val v,.val u]=>some ⟨some (isPk 4294967296 v∧isRk 4294967296 u),.val (sclP (rdV v) (rdRS u)).v,[]⟩
 |_=>none
def D75:Opt:={  }
theorem ok75:funcOk D75.toOrd Tryz.f75 2=true:=by kernel_rfl
theorem f75:FnOk Tryz.prog 75 c75:=by
 refine FnOk.ofW orders (mkE_ok (l:=[(112,c112_114)]) (own:=[]) (inl:=[]) (by simp [f112_114]) (by simp)) Tryz.func75 D75 2 ok75 fun args r e=>?_
 unfold c75 at e
 split at e
 ·rename_i v u
  cases e
  refine⟨by simp,fun hm=>?_⟩
  obtain⟨⟨p,rfl,hp⟩,s,b,c,rfl,hb,hc⟩:=hm _ rfl
  refine⟨[],stOf [(0,.val p.v),(1,.val (.agg ⟨[.bool s,.string b,.string c]⟩))] [] 0 [],Weak.of (by simp) trivial ⟨rfl,rfl,trivial⟩ trivial,?_⟩
  have hr:PtS.le 4294967296 ⟨⟨s,b,c⟩,⟨s,b,c⟩⟩:=⟨⟨hb,hc⟩,hb,hc⟩
  with_unfolding_all exact⟨⟨⟨p,rfl,hp⟩,⟨⟨s,b,c⟩,⟨s,b,c⟩⟩,rfl,hr⟩,[some 2],stOf [(4,.ptr 0 0 0 0)] [boxP (sclP p ⟨s,b,c⟩) 0] 1 [],Weak.of (by simp) ⟨⟨lt_ok rfl,rfl,rfl,rfl,rfl,rfl,⟨rfl,rfl⟩,⟨rfl,rfl⟩,⟨rfl,rfl⟩,⟨rfl,rfl⟩,⟨rfl,rfl⟩,⟨rfl,rfl⟩,trivial⟩,trivial⟩ ⟨⟨rfl,rfl,rfl,lt_ok rfl,_,rfl⟩,trivial⟩ trivial,rfl,rfl⟩
 ·cases e
def c28:List PV→Option Ans
 |[.val v,.val u,.val w]=>some ⟨some (isPk 1000 v∧isPk 1000 u∧isRk 1000 w),.val (atP (rdV v) (rdV u) (rdRS w)).v,[]⟩
 |_=>none
def D28:Opt:={ perm:=atR 1 [(0,true),(1,true),(2,true),(4,true),(3,false),(5,false),(6,false)] }
theorem ok28:funcOk D28.toOrd Tryz.f28 3=true:=by kernel_rfl
theorem f28:FnOk Tryz.prog 28 c28:=by
 refine FnOk.ofW orders (mkE_ok (l:=[(76,c76),(75,c75),(74,c74)]) (own:=[]) (inl:=[]) (by simp [f76,f75,f74]) (by simp)) Tryz.func28 D28 3 ok28 fun args r e=>?_
 unfold c28 at e
 split at e
 ·rename_i v u w
  cases e
  refine⟨by simp,fun hm=>?_⟩
  obtain⟨⟨p,rfl,hp⟩,⟨u,rfl,hu⟩,s,b,c,rfl,hb,hc⟩:=hm _ rfl
  refine⟨[],stOf [(0,.val p.v),(1,.val u.v),(2,.val (.agg ⟨[.bool s,.string b,.string c]⟩))] [] 0 [],Weak.of (by simp) trivial ⟨rfl,rfl,rfl,trivial⟩ trivial,?_⟩
  have hr:RatS.le 1000 ⟨s,b,c⟩:=⟨hb,hc⟩
  have s1:=subP_le hu hp
  have s2:=sclP_le s1 hr
  have i1:isPk 4294967296 u.v∧isPk 4294967296 p.v:=⟨⟨_,rfl,hu.mono (by decide)⟩,_,rfl,hp.mono (by decide)⟩
  have i2:isPk 4294967296 (subP u p).v∧isRk 4294967296 (.agg ⟨[.bool s,.string b,.string c]⟩):=⟨⟨_,rfl,s1.mono (by decide)⟩,s,b,c,rfl,Nat.le_trans hb (by decide),Nat.le_trans hc (by decide)⟩
  have i3:isPk 4294967296 p.v∧isPk 4294967296 (sclP (subP u p) ⟨s,b,c⟩).v:=⟨⟨_,rfl,hp.mono (by decide)⟩,_,rfl,s2.mono (by decide)⟩
  have rv:∀p:PtS,rdV p.v=p:=fun _=>rfl
  obtain⟨Q,hQ⟩:∃Q,Q=atP p u ⟨s,b,c⟩:=⟨_,rfl⟩
  have hq:atP (rdV p.v) (rdV u.v) (rdRS (.agg ⟨[.bool s,.string b,.string c]⟩))=Q:=hQ.symm
  rw [hq]
  have e:addP (rdV p.v) (rdV (sclP (rdV (subP (rdV u.v) (rdV p.v)).v) (rdRS (.agg ⟨[.bool s,.string b,.string c]⟩))).v)=Q:=by
   rw [rv,rv,rv,rv]
   exact hq
  have c6:=cell6 e
  clear hq hQ e
  with_unfolding_all refine⟨?_,?_,?_,[some 3],stOf [(6,.ptr 0 0 0 0)] [boxP Q 0] 1 [],Weak.of (by simp) ⟨⟨lt_ok rfl,rfl,rfl,rfl,rfl,rfl,⟨c6.1,rfl⟩,⟨c6.2.1,rfl⟩,⟨c6.2.2.1,rfl⟩,⟨c6.2.2.2.1,rfl⟩,⟨c6.2.2.2.2.1,rfl⟩,⟨c6.2.2.2.2.2,rfl⟩,trivial⟩,trivial⟩ ⟨⟨rfl,rfl,rfl,lt_ok rfl,_,rfl⟩,trivial⟩ trivial,rfl,rfl⟩
  ·exact i1
  ·exact i2
  ·exact i3
 ·cases e
def c66:List PV→Option Ans
 |[.val v]=>some ⟨some (isPk 4294967296 v),.val (.bool (!canonP (rdV v))),[]⟩
 |_=>none
theorem ok66:funcOk {} Tryz.f66 1=true:=by kernel_rfl
theorem f66:FnOk Tryz.prog 66 c66:=by
 refine FnOk.ofW orders (mkE_ok (l:=[(67,c67)]) (own:=[]) (inl:=[]) (by simp [f67]) (by simp)) Tryz.func66 {} 1 ok66 fun args r e=>?_
 unfold c66 at e
 split at e
 ·rename_i v
  cases e
  refine⟨by simp,fun hm=>?_⟩
  obtain⟨p,rfl,hp⟩:=hm _ rfl
  refine⟨[],stOf [(0,.val p.v)] [] 0 [],Weak.of (by simp) trivial ⟨rfl,trivial⟩ trivial,?_⟩
  with_unfolding_all exact⟨⟨p,rfl,hp⟩,[],stOf [(2,.val (.bool (!canonP p)))] [] 0 [],Weak.of (by simp) trivial ⟨congrArg (fun z=>PV.val (.bool z)) (okW_bad _),trivial⟩ trivial,rfl,rfl⟩
 ·cases e
def c83_66:List PV→Option Ans
 |[.rs 6 n g,.val (.func (.func 66) ⟨[]⟩ ⟨[]⟩)]=>some ⟨some (isPL 4294967296 n g),.val (.int .i64 (ixP (fun i=>!canonP (pts g i)) n 0)),[]⟩
 |_=>none
theorem f83_66:FnOk Tryz.prog 83 c83_66:=by
 refine FnOk.ofW orders (mkE_ok (l:=[(66,c66)]) (own:=[]) (inl:=[]) (by simp [f66]) (by simp)) Tryz.func83 {} 2 ok83 fun args r e=>?_
 unfold c83_66 at e
 split at e
 ·rename_i n g
  cases e
  refine⟨by simp,fun hm=>?_⟩
  obtain⟨hg,hn⟩:=hm _ rfl
  refine⟨[],stOf [(0,.rs 6 n (fun i=>(pts g i).cells)),(1,.val (.func (.func 66) ⟨[]⟩ ⟨[]⟩))] [] 0 [],Weak.of (by simp) trivial ⟨⟨rfl,rfl,fun i hi=>(hg i hi).1.symm⟩,rfl,trivial⟩ trivial,?_⟩
  obtain⟨X,hX⟩:∃X,X=ixP (fun i=>!canonP (pts g i)) n 0:=⟨_,rfl⟩
  rw [←hX]
  with_unfolding_all refine⟨Nat,fun i=>i≤n∧ixP (fun i=>!canonP (pts g i)) (n - i) i=X,fun i=>stOf [(0,.rs 6 n (fun i=>(pts g i).cells)),(1,.val (.func (.func 66) ⟨[]⟩ ⟨[]⟩)),(7,.val (goInt n)),(8,.val (goInt i))] [] 0 [],fun i=>n - i,⟨0,[],⟨Nat.zero_le _,hX.symm⟩,Weak.of (by simp) trivial ⟨⟨rfl,rfl,fun _ _=>rfl⟩,rfl,rfl,rfl,trivial⟩ trivial⟩,fun i hi=>?_⟩
  obtain⟨hin,hI⟩:i≤n∧ixP (fun i=>!canonP (pts g i)) (n - i) i=X:=hi
  with_unfolding_all refine⟨fun h=>?_,fun h=>⟨[],stOf [(4,.val (.int .i64 X))] [] 0 [],Weak.of (by simp) trivial ⟨?_,trivial⟩ trivial,rfl,rfl⟩⟩
  ·have h:=ltT h
   have e:(i:Int).toNat=i:=Int.toNat_natCast i
   have hstep:ixP (fun i=>!canonP (pts g i)) (n - i) i=bif !canonP (pts g i) then(i:Int) else ixP (fun i=>!canonP (pts g i)) (n - (i+1)) (i+1):=by
    rw [show n - i=(n - (i+1))+1 by omega]
    rfl
   with_unfolding_all refine⟨⟨by omega,by omega⟩,⟨pts g (i:Int).toNat,rfl,by rw [e];exact(hg i (by omega)).2⟩,fun h'=>⟨[],stOf [(4,.val (.int .i64 X))] [] 0 [],Weak.of (by simp) trivial ⟨?_,trivial⟩ trivial,rfl,rfl⟩,fun h'=>⟨i+1,[],⟨by omega,?_⟩,by show n - (i+1) < n - i;omega,Weak.of (by simp) trivial ⟨⟨rfl,rfl,fun _ _=>rfl⟩,rfl,rfl,?_,trivial⟩ trivial⟩⟩
   ·have h':(!canonP (pts g (i:Int).toNat))=true:=h'
    rw [e] at h'
    rw [h',cond_true] at hstep
    exact congrArg (fun z=>PV.val (.int .i64 z)) (hstep.symm.trans hI)
   ·have h':(!canonP (pts g (i:Int).toNat))=false:=h'
    rw [e] at h'
    rw [h',cond_false] at hstep
    exact hstep.symm.trans hI
   ·show PV.val (.int .i64 (IntKind.i64.wrap ((i:Int)+1)))=PV.val (.int .i64 ((i+1:Nat):Int))
    rw [wrap64 (by omega) (by omega)]
    rfl
  ·have h:=ltF h
   rw [show n - i=0 by omega] at hI
   exact congrArg (fun z=>PV.val (.int .i64 z)) hI
 ·cases e
def c65_66:List PV→Option Ans
 |[.rs 6 n g,.val (.func (.func 66) ⟨[]⟩ ⟨[]⟩)]=>some ⟨some (isPL 4294967296 n g),.val (.bool (anyP (fun i=>!canonP (pts g i)) n)),[]⟩
 |_=>none
theorem f65_66:FnOk Tryz.prog 65 c65_66:=by
 refine FnOk.ofW orders (mkE_ok (l:=[(83,c83_66)]) (own:=[]) (inl:=[]) (by simp [f83_66]) (by simp)) Tryz.func65 {} 2 ok65 fun args r e=>?_
 unfold c65_66 at e
 split at e
 ·rename_i n g
  cases e
  refine⟨by simp,fun hm=>?_⟩
  have hp:=hm _ rfl
  refine⟨[],stOf [(0,.rs 6 n g),(1,.val (.func (.func 66) ⟨[]⟩ ⟨[]⟩))] [] 0 [],Weak.of (by simp) trivial ⟨⟨rfl,rfl,fun i hi=>rfl⟩,rfl,trivial⟩ trivial,?_⟩
  with_unfolding_all exact⟨hp,[],stOf [(4,.val (.bool (anyP (fun i=>!canonP (pts g i)) n)))] [] 0 [],Weak.of (by simp) trivial ⟨congrArg (fun z=>PV.val (.bool z)) (ixP_any _ _),trivial⟩ trivial,rfl,rfl⟩
 ·cases e
def c12:List PV→Option Ans
 |[.agg xs,.rs 6 n g]=>some ⟨some (isRg 140737488355328 xs∧isPL 140737488355328 n g),.val (.bool (grtA xs n g)),[]⟩
 |_=>none
def D12:Opt:={  }
theorem ok12:funcOk D12.toOrd Tryz.f12 2=true:=by kernel_rfl
theorem f12:FnOk Tryz.prog 12 c12:=by
 refine FnOk.ofW orders (mkE_ok (l:=[(50,c50),(51,c51)]) (own:=[]) (inl:=[]) (by simp [f50,f51]) (by simp)) Tryz.func12 D12 2 ok12 fun args r e=>?_
 unfold c12 at e
 split at e
 ·rename_i xs n g
  cases e
  refine⟨by simp,fun hm=>?_⟩
  obtain⟨⟨h1,hrest⟩,hg⟩:=hm _ rfl
  have hx:isRg 140737488355328 xs:=⟨h1,hrest⟩
  obtain⟨X,hX⟩:∃X,X=grtA xs n g:=⟨_,rfl⟩
  rw [←hX]
  have e:X=(grtF (gLo xs) (gHi xs) (gK xs) (pn (gC xs)) (fun i=>pts (pg (gC xs) i)) (gL xs)||anyP (fun i=>bigP (pts g i)) n):=hX
  clear hX
  obtain⟨A,hA⟩:∃A,A=grtF (gLo xs) (gHi xs) (gK xs) (pn (gC xs)) (fun i=>pts (pg (gC xs) i)) (gL xs):=⟨_,rfl⟩
  rw [←hA] at e
  generalize gLo xs=lo at *
  generalize gHi xs=hi at *
  generalize gK xs=k at *
  generalize gC xs=c at *
  generalize gL xs=l at *
  generalize gO xs=o at *
  subst h1
  clear hm
  refine⟨[],stOf [(0,.agg (regC lo hi k c l o)),(1,.rs 6 n g)] [] 0 [],Weak.of (by simp) trivial ⟨⟨rfl,rfl,rfl,rfl,rfl,rfl,rfl,rfl,rfl,rfl,rfl,rfl,⟨rfl,rfl,fun _ _=>rfl⟩,⟨rfl,rfl,fun _ _=>rfl⟩,trivial⟩,⟨rfl,rfl,fun _ _=>rfl⟩,trivial⟩ trivial,?_⟩
  have v1:grtF lo hi k (pn c) (fun i=>pts (pg c i)) l=false→PV.val (.bool (anyP (fun i=>bigP (pts g i)) n))=PV.val (.bool X):=fun h=>by rw [e,hA,h];rfl
  have v2:grtF lo hi k (pn c) (fun i=>pts (pg c i)) l=true→PV.val (.bool true)=PV.val (.bool X):=fun h=>by rw [e,hA,h];rfl
  with_unfolding_all exact⟨hx,fun h1=>⟨hg,⟨[],stOf [(4,.val (.bool X))] [] 0 [],Weak.of (by simp) trivial ⟨v1 h1,trivial⟩ trivial,rfl,rfl⟩⟩,fun h1=>⟨[],stOf [(4,.val (.bool X))] [] 0 [],Weak.of (by simp) trivial ⟨v2 h1,trivial⟩ trivial,rfl,rfl⟩⟩
 ·cases e
def c17:List PV→Option Ans
 |[.agg xs,.rs 6 n g]=>some ⟨some (isRg 140737488355328 xs∧isPL 140737488355328 n g),.val (.bool (fineA xs n g)),[]⟩
 |_=>none
def D17:Opt:={  }
theorem ok17:funcOk D17.toOrd Tryz.f17 2=true:=by kernel_rfl
theorem f17:FnOk Tryz.prog 17 c17:=by
 refine FnOk.ofW orders (mkE_ok (l:=[(12,c12),(58,c58),(65,c65_66)]) (own:=[]) (inl:=[]) (by simp [f12,f58,f65_66]) (by simp)) Tryz.func17 D17 2 ok17 fun args r e=>?_
 unfold c17 at e
 split at e
 ·rename_i xs n g
  cases e
  refine⟨by simp,fun hm=>?_⟩
  obtain⟨⟨h1,hrest⟩,hg⟩:=hm _ rfl
  have hx:isRg 140737488355328 xs:=⟨h1,hrest⟩
  obtain⟨X,hX⟩:∃X,X=fineA xs n g:=⟨_,rfl⟩
  rw [←hX]
  have e:X=((!grtA xs n g&&(reg13 xs==0))&&!anyP (fun i=>!canonP (pts g i)) n):=hX
  clear hX
  have p1:(!grtA xs n g)=true→isRg 10000 xs:=fun h=>by
   have h:grtA xs n g=false:=by simpa using h
   unfold grtA at h
   rw [Bool.or_eq_false_iff] at h
   exact(grtF_rg h.1 hx).mono (by decide)
  have p2:(!grtA xs n g)=true→isPL 4294967296 n g:=fun h=>by
   have h:grtA xs n g=false:=by simpa using h
   unfold grtA at h
   rw [Bool.or_eq_false_iff] at h
   exact(bigL_pl h.2 hg).mono (by decide)
  have v1:(!grtA xs n g)=true→(reg13 xs==0)=true→PV.val (.bool (!anyP (fun i=>!canonP (pts g i)) n))=PV.val (.bool X):=fun h h'=>by rw [e,h,h'];rfl
  have v2:(!grtA xs n g)=true→(reg13 xs==0)=false→PV.val (.bool false)=PV.val (.bool X):=fun h h'=>by rw [e,h,h'];rfl
  have v3:(!grtA xs n g)=false→PV.val (.bool false)=PV.val (.bool X):=fun h=>by rw [e,h];rfl
  clear e
  generalize gLo xs=lo at *
  generalize gHi xs=hi at *
  generalize gK xs=k at *
  generalize gC xs=c at *
  generalize gL xs=l at *
  generalize gO xs=o at *
  subst h1
  clear hm
  refine⟨[],stOf [(0,.agg (regC lo hi k c l o)),(1,.rs 6 n g)] [] 0 [],Weak.of (by simp) trivial ⟨⟨rfl,rfl,rfl,rfl,rfl,rfl,rfl,rfl,rfl,rfl,rfl,rfl,⟨rfl,rfl,fun _ _=>rfl⟩,⟨rfl,rfl,fun _ _=>rfl⟩,trivial⟩,⟨rfl,rfl,fun _ _=>rfl⟩,trivial⟩ trivial,?_⟩
  with_unfolding_all exact⟨⟨hx,hg⟩,fun h1=>⟨p1 h1,fun h2=>⟨p2 h1,⟨[],stOf [(4,.val (.bool X))] [] 0 [],Weak.of (by simp) trivial ⟨v1 h1 h2,trivial⟩ trivial,rfl,rfl⟩⟩,fun h2=>⟨[],stOf [(4,.val (.bool X))] [] 0 [],Weak.of (by simp) trivial ⟨v2 h1 h2,trivial⟩ trivial,rfl,rfl⟩⟩,fun h1=>⟨fun h=>(nomatch h),fun _=>⟨[],stOf [(4,.val (.bool X))] [] 0 [],Weak.of (by simp) trivial ⟨v3 h1,trivial⟩ trivial,rfl,rfl⟩⟩⟩
 ·cases e
def c71:List PV→Option Ans
 |[.agg xs,.val v]=>some ⟨some (isRg 10000 xs∧isPk 10000 v),.val (.tuple ⟨[.int .i64 (blkI (okB (gLo xs) (gHi xs) (gK xs) (gC xs) (gL xs) (gO xs) (segV (rdV v) (rdV v))) (partsC (gLo xs) (gHi xs) (gK xs) (gC xs) (segV (rdV v) (rdV v)))),.bool (okB (gLo xs) (gHi xs) (gK xs) (gC xs) (gL xs) (gO xs) (segV (rdV v) (rdV v))&&!(partsC (gLo xs) (gHi xs) (gK xs) (gC xs) (segV (rdV v) (rdV v))).isEmpty),.int .i64 (okW (okB (gLo xs) (gHi xs) (gK xs) (gC xs) (gL xs) (gO xs) (segV (rdV v) (rdV v))))]⟩),[]⟩
 |_=>none
def D71:Opt:={  }
theorem ok71:funcOk D71.toOrd Tryz.f71 2=true:=by kernel_rfl
theorem f71:FnOk Tryz.prog 71 c71:=by
 refine FnOk.ofW orders (mkE_ok (l:=[(91,c91)]) (own:=[]) (inl:=[]) (by simp [f91]) (by simp)) Tryz.func71 D71 2 ok71 fun args r e=>?_
 unfold c71 at e
 split at e
 ·rename_i xs v
  cases e
  refine⟨by simp,fun hm=>?_⟩
  obtain⟨⟨h1,⟨hlo,hhi⟩,hcl,hol⟩,a,rfl,ha⟩:=hm _ rfl
  generalize gLo xs=lo at *
  generalize gHi xs=hi at *
  generalize gK xs=k at *
  generalize gC xs=c at *
  generalize gL xs=l at *
  generalize gO xs=o at *
  subst h1
  clear hm
  refine⟨[],stOf [(0,.agg (regC lo hi k c l o)),(1,.val a.v)] [] 0 [],Weak.of (by simp) trivial ⟨⟨rfl,rfl,rfl,rfl,rfl,rfl,rfl,rfl,rfl,rfl,rfl,rfl,⟨rfl,rfl,fun _ _=>rfl⟩,⟨rfl,rfl,fun _ _=>rfl⟩,trivial⟩,rfl,trivial⟩ trivial,?_⟩
  have pre:((lo.le 10000∧hi.le 10000)∧isCL 10000 k (fun i=>[.rs 6 (pn c i) (pg c i)])∧isOL l (fun i=>cellsO (ow o i)))∧isSeg 10000 (segV a a):=⟨⟨⟨hlo,hhi⟩,⟨fun i hi=>⟨rfl,(hcl.1 i hi).2⟩,hcl.2⟩,fun _ _=>rfl,hol.2⟩,a,a,rfl,ha,ha⟩
  obtain⟨OK,hOK⟩:∃OK,OK=okB lo hi k c l o (segV a a):=⟨_,rfl⟩
  obtain⟨PC,hPC⟩:∃PC,PC=partsC lo hi k c (segV a a):=⟨_,rfl⟩
  have e1:okB lo hi k c l o (segV (rdV a.v) (rdV a.v))=OK:=hOK.symm
  have e2:partsC lo hi k c (segV (rdV a.v) (rdV a.v))=PC:=hPC.symm
  rw [e1,e2]
  have e3:okB lo hi k (fun i=>[.rs 6 (pn c i) (pg c i)]) l (fun i=>cellsO (ow o i)) (segV a a)=OK:=hOK.symm
  have e4:partsC lo hi k (fun i=>[.rs 6 (pn c i) (pg c i)]) (segV a a)=PC:=hPC.symm
  have w1:PV.val (.int .i64 (blkI (okB lo hi k (fun i=>[.rs 6 (pn c i) (pg c i)]) l (fun i=>cellsO (ow o i)) (segV a a)) (partsC lo hi k (fun i=>[.rs 6 (pn c i) (pg c i)]) (segV a a))))=PV.val (.int .i64 (blkI OK PC)):=by rw [e3,e4]
  have w2:PV.val (.bool (okB lo hi k (fun i=>[.rs 6 (pn c i) (pg c i)]) l (fun i=>cellsO (ow o i)) (segV a a)&&!(partsC lo hi k (fun i=>[.rs 6 (pn c i) (pg c i)]) (segV a a)).isEmpty))=PV.val (.bool (OK&&!PC.isEmpty)):=by rw [e3,e4]
  have w3:PV.val (.int .i64 (okW (okB lo hi k (fun i=>[.rs 6 (pn c i) (pg c i)]) l (fun i=>cellsO (ow o i)) (segV a a))))=PV.val (.int .i64 (okW OK)):=by rw [e3]
  clear hOK hPC e1 e2 e3 e4
  with_unfolding_all exact⟨pre,[],stOf [(4,.val (.int .i64 (blkI OK PC))),(5,.val (.bool (OK&&!PC.isEmpty))),(6,.val (.int .i64 (okW OK)))] [] 0 [],Weak.of (by simp) trivial ⟨w1,w2,w3,trivial⟩ trivial,rfl,rfl⟩
 ·cases e
def c26:List PV→Option Ans
 |[.agg xs,.val v]=>some ⟨some (isRg 10000 xs∧isPk 10000 v),.val (.bool (seeB (gLo xs) (gHi xs) (gK xs) (gC xs) (gL xs) (gO xs) (rdV v) (rdV v))),[]⟩
 |_=>none
def D26:Opt:={  }
theorem ok26:funcOk D26.toOrd Tryz.f26 2=true:=by kernel_rfl
theorem f26:FnOk Tryz.prog 26 c26:=by
 refine FnOk.ofW orders (mkE_ok (l:=[(71,c71)]) (own:=[]) (inl:=[]) (by simp [f71]) (by simp)) Tryz.func26 D26 2 ok26 fun args r e=>?_
 unfold c26 at e
 split at e
 ·rename_i xs v
  cases e
  refine⟨by simp,fun hm=>?_⟩
  obtain⟨⟨h1,hrest⟩,a,rfl,ha⟩:=hm _ rfl
  have hx:isRg 10000 xs:=⟨h1,hrest⟩
  have pa:isPk 10000 a.v:=⟨a,rfl,ha⟩
  generalize gLo xs=lo at *
  generalize gHi xs=hi at *
  generalize gK xs=k at *
  generalize gC xs=c at *
  generalize gL xs=l at *
  generalize gO xs=o at *
  subst h1
  clear hm
  refine⟨[],stOf [(0,.agg (regC lo hi k c l o)),(1,.val a.v)] [] 0 [],Weak.of (by simp) trivial ⟨⟨rfl,rfl,rfl,rfl,rfl,rfl,rfl,rfl,rfl,rfl,rfl,rfl,⟨rfl,rfl,fun _ _=>rfl⟩,⟨rfl,rfl,fun _ _=>rfl⟩,trivial⟩,rfl,trivial⟩ trivial,?_⟩
  obtain⟨X,hX⟩:∃X,X=seeB lo hi k c l o a a:=⟨_,rfl⟩
  have hx2:seeB lo hi k c l o (rdV a.v) (rdV a.v)=X:=hX.symm
  rw [hx2]
  have v1:(okW (okB lo hi k c l o (segV a a))==0)=true→PV.val (.bool (!(okB lo hi k c l o (segV a a)&&!(partsC lo hi k c (segV a a)).isEmpty)))=PV.val (.bool X):=fun h=>by
   have h:okB lo hi k c l o (segV a a)=true:=by
    cases hb:okB lo hi k c l o (segV a a) with
    |true=>rfl
    |false =>
     rw [hb] at h
     cases h
   rw [hX,seeB,h,Bool.true_and,Bool.true_and,Bool.not_not]
  have v2:(okW (okB lo hi k c l o (segV a a))==0)=false→PV.val (.bool false)=PV.val (.bool X):=fun h=>by
   have h:okB lo hi k c l o (segV a a)=false:=by
    cases hb:okB lo hi k c l o (segV a a) with
    |false=>rfl
    |true =>
     rw [hb] at h
     cases h
   rw [hX,seeB,h,Bool.false_and]
  with_unfolding_all exact⟨⟨hx,pa⟩,fun h1=>⟨[],stOf [(4,.val (.bool X))] [] 0 [],Weak.of (by simp) trivial ⟨v1 h1,trivial⟩ trivial,rfl,rfl⟩,fun h1=>⟨[],stOf [(4,.val (.bool X))] [] 0 [],Weak.of (by simp) trivial ⟨v2 h1,trivial⟩ trivial,rfl,rfl⟩⟩
 ·cases e
end Go.Proofs
namespace Go.Num
open Go Go.Ex Go.Proofs
theorem rat_pos_of {c v:Rat} (h:0 < c*v) (hv:0 < v):0 < c:=by
 rcases Rat.le_total (a:=c) (b:=0) with h1|h1
 ·have:=Rat.mul_nonneg (show 0 ≤ -c by grind) (show 0≤v by grind)
  grind
 ·by_cases e:c=0
  ·subst e;grind
  ·grind
def tri (a b c x y z:Rat):Rat:=(b - a)*(z - x) - (y - x)*(c - a)
def dt (X Y:Nat→Rat) (i j k:Nat):Rat:=tri (X i) (X j) (X k) (Y i) (Y j) (Y k)
theorem half_trans {u1 u2 v1 v2 w1 w2:Rat} (hu:0 < u1∨(u1=0∧0 < u2)) (hv:0 < v1∨(v1=0∧0 < v2)) (hw:0 < w1∨(w1=0∧0 < w2)) (h1:0 < u1*v2 - u2*v1) (h2:0 < v1*w2 - v2*w1):0 < u1*w2 - u2*w1:=by
 have hv1:0 < v1:=by
  rcases hv with h|⟨h,k⟩
  ·exact h
  ·subst h
   rcases hw with h3|⟨h3,_⟩
   ·have:=Rat.mul_pos k h3
    grind
   ·subst h3;grind
 have hu1:0 < u1:=by
  rcases hu with h|⟨h,k⟩
  ·exact h
  ·subst h
   have:=Rat.mul_pos k hv1
   grind
 have hw1:0≤w1:=by
  rcases hw with h|⟨h,_⟩
  ·grind
  ·grind
 have k1:=Rat.mul_nonneg (Rat.le_of_lt h1) hw1
 have k2:=Rat.mul_pos h2 hu1
 refine rat_pos_of (v:=v1) ?_ hv1
 have e:(u1*w2 - u2*w1)*v1=(u1*v2 - u2*v1)*w1+(v1*w2 - v2*w1)*u1:=by grind
 rw [e]
 grind
theorem four1 (X Y:Nat→Rat) (a b c d:Nat):dt X Y a b d*dt X Y 0 b c=dt X Y a b c*dt X Y 0 b d+dt X Y 0 a b*dt X Y b c d:=by
 unfold dt tri
 generalize X 0=x0,X a=xa,X b=xb,X c=xc,X d=xd,Y 0=y0,Y a=ya,Y b=yb,Y c=yc,Y d=yd
 grind
theorem four2 (X Y:Nat→Rat) (a b c d:Nat):dt X Y a c d*dt X Y 0 b c=dt X Y a b c*dt X Y 0 c d+dt X Y 0 a c*dt X Y b c d:=by
 unfold dt tri
 generalize X 0=x0,X a=xa,X b=xb,X c=xc,X d=xd,Y 0=y0,Y a=ya,Y b=yb,Y c=yc,Y d=yd
 grind
theorem dt_rot (X Y:Nat→Rat) (i j k:Nat):dt X Y j k i=dt X Y i j k:=by
 unfold dt tri
 generalize X i=xa,X j=xb,X k=xc,Y i=ya,Y j=yb,Y k=yc
 grind
theorem convex_all {X Y:Nat→Rat} {n:Nat} (h0:∀i,0 < i→i < n→X 0 < X i∨(X i=X 0∧Y 0 < Y i)) (h1:∀i,i+2 < n→0 < dt X Y i (i+1) (i+2)) (h2:∀i,0 < i→i+1 < n→0 < dt X Y 0 i (i+1)) :
  ∀i j k,i < j→j < k→k < n→0 < dt X Y i j k:=by
 have hH:∀i,0 < i→i < n→0 < X i - X 0∨(X i - X 0=0∧0 < Y i - Y 0):=fun i a b=>by
  rcases h0 i a b with h|⟨h,k⟩
  ·exact .inl (by grind)
  ·exact .inr ⟨by grind,by grind⟩
 have fan:∀d i,0 < i→i+1+d < n→0 < dt X Y 0 i (i+1+d):=fun d=>by
  induction d with
  |zero=>exact fun i a b=>h2 i a b
  |succ d ih =>
   intro i a b
   have k1:=ih i a (by omega)
   have k2:=h2 (i+1+d) (by omega) (by omega)
   exact half_trans (hH i a (by omega)) (hH (i+1+d) (by omega) (by omega)) (hH (i+1+d+1) (by omega) (by omega)) k1 k2
 have fan':∀i j,0 < i→i < j→j < n→0 < dt X Y 0 i j:=fun i j a b c=>by
  have:=fan (j - (i+1)) i a (by omega)
  rwa [show i+1+(j - (i+1))=j by omega] at this
 have span:∀m i j k,0 < i→i < j→j < k→k < n→k - i≤m→0 < dt X Y i j k:=fun m=>by
  induction m with
  |zero=>intro i j k _ a b _ d;omega
  |succ m ih =>
   intro i j k hi a b c d
   by_cases e1:j+1=k
   ·subst e1
    by_cases e2:i+1=j
    ·subst e2
     exact h1 i (by omega)
    ·have t1:=ih i (i+1) j hi (by omega) (by omega) (by omega) (by omega)
     have t2:=ih (i+1) j (j+1) (by omega) (by omega) (by omega) (by omega) (by omega)
     refine rat_pos_of (v:=dt X Y 0 (i+1) j) ?_ (fan' (i+1) j (by omega) (by omega) (by omega))
     rw [four2]
     have s1:=Rat.mul_pos t1 (fan' j (j+1) (by omega) (by omega) (by omega))
     have s2:=Rat.mul_pos (fan' i j hi a (by omega)) t2
     grind
   ·have t1:=ih i j (k - 1) hi a (by omega) (by omega) (by omega)
    have t2:=ih j (k - 1) k (by omega) (by omega) (by omega) (by omega) (by omega)
    refine rat_pos_of (v:=dt X Y 0 j (k - 1)) ?_ (fan' j (k - 1) (by omega) (by omega) (by omega))
    rw [four1]
    have s1:=Rat.mul_pos t1 (fan' j k (by omega) b c)
    have s2:=Rat.mul_pos (fan' i j hi a (by omega)) t2
    grind
 intro i j k a b c
 rcases Nat.eq_zero_or_pos i with rfl|hi
 ·exact fan' j k a b c
 ·exact span (k - i) i j k hi a b c (Nat.le_refl _)
theorem convex_edge {X Y:Nat→Rat} {n:Nat} (hn:3≤n) (h:∀i j k,i < j→j < k→k < n→0 < dt X Y i j k) {e i:Nat} (he:e < n) (hi:i < n) (h1:i≠e) (h2:i≠(e+1)%n):0 < dt X Y e ((e+1)%n) i:=by
 by_cases hl:e+1 < n
 ·rw [Nat.mod_eq_of_lt hl] at h2 ⊢
  rcases Nat.lt_or_ge i e with h3|h3
  ·rw [dt_rot]
   exact h i e (e+1) h3 (by omega) hl
  ·exact h e (e+1) i (by omega) (by omega) hi
 ·have e1:e+1=n:=by omega
  rw [e1,Nat.mod_self] at h2 ⊢
  rw [←dt_rot]
  exact h 0 i e (by omega) (by omega) he
end Go.Num
