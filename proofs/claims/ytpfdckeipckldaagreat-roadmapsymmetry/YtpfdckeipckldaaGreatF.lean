/- RoadmapSymmetry: for every region, points and number the law returns true, and leaves its arguments as they are. No conditions. -/
import Derived.Deep.Slices
import Derived.SizedLaws
import Derived.Carry
import Derived.WideShapes
import Derived.ProofKit
import Derived.Test.YtpfdckeipckldaaGreatRows
import Derived.Test.YtpfdckeipckldaaGreatE
set_option maxHeartbeats 8000000
set_option linter.all false
set_option linter.unusedVariables false
set_option linter.unusedSimpArgs false
set_option linter.unnecessarySimpa false
namespace Go.Num
open Go Go.Ex Go.Proofs
theorem cmpQ_le {a:Rat}:decide (cmpQ a 0≤0)=false↔0 < a:=by
 rw [decide_eq_false_iff_not]
 unfold cmpQ
 split
 ·rename_i h
  exact⟨fun k=>absurd (show(-1:Int)≤0 by decide) k,fun k=>by grind⟩
 ·split
  ·rename_i h
   exact⟨fun _=>h,fun _=>by decide⟩
  ·rename_i h
   exact⟨fun k=>absurd (show(0:Int)≤0 by decide) k,fun k=>absurd k h⟩
theorem cmpQ_gt {a:Rat}:decide (cmpQ a 0 > 0)=true↔0 < a:=by
 rw [decide_eq_true_iff]
 unfold cmpQ
 split
 ·rename_i h
  exact⟨fun k=>absurd k (by decide),fun k=>by grind⟩
 ·split
  ·rename_i h
   exact⟨fun _=>h,fun _=>by decide⟩
  ·rename_i h
   exact⟨fun k=>absurd k (by decide),fun k=>absurd k h⟩
theorem orP_dt (p:Nat→PtS) (i j k:Nat):orP (p i) (p j) (p k)=cmpQ (dt (fun i=>(p i).X) (fun i=>(p i).Y) i j k) 0:=by
 unfold orP crossP subP
 rw [ptQ_X,ptQ_Y,ptQ_X,ptQ_Y]
 rfl
theorem eqR_refl (p:RatS):eqR p p=true:=by
 have h:∀x:ByteArray,(x==x)=true:=fun⟨x⟩=>by
  show(x==x)=true
  exact beq_self_eq_true x
 unfold eqR
 rw [beq_self_eq_true,h,h]
 rfl
theorem eqP_refl (p:PtS):eqP p p=true:=by
 unfold eqP
 rw [eqR_refl,eqR_refl]
 rfl
theorem cmpP_lt {p u:PtS} (h:cmpP p u < 0):p.X < u.X∨(u.X=p.X∧p.Y < u.Y):=by
 unfold cmpP at h
 split at h
 ·rename_i h0
  unfold cmpQ at h h0
  right
  split at h
  ·rename_i h1
   refine⟨?_,h1⟩
   split at h0
   ·cases h0
   ·split at h0
    ·cases h0
    ·grind
  ·split at h
   ·exact absurd h (by decide)
   ·exact absurd h (by decide)
 ·unfold cmpQ at h
  split at h
  ·rename_i h1
   exact .inl h1
  ·split at h
   ·exact absurd h (by decide)
   ·exact absurd h (by decide)
theorem cmpP_gt {p u:PtS} (h:p.X < u.X∨(u.X=p.X∧p.Y < u.Y)):¬cmpP u p≤0:=by
 unfold cmpP cmpQ
 rcases h with h|⟨h,k⟩
 ·have h1:¬u.X < p.X:=by grind
  rw [if_neg h1,if_pos h,if_neg (show ¬(1:Int)=0 by decide)]
  decide
 ·have h1:¬u.Y < p.Y:=by grind
  rw [h,if_neg Rat.lt_irrefl,if_neg Rat.lt_irrefl,if_pos rfl,if_neg h1,if_pos k]
  decide
theorem chk13_ring {n:Nat} {p:Nat→PtS} (h:chk13 n p=0):ringE n p=0:=by
 unfold chk13 at h
 unfold ringE
 cases h1:(decide (n < 3)||decide (64 < n)) with
 |true=>rw [h1] at h;cases h
 |false =>
  rw [h1,cond_false] at h
  rw [cond_false]
  cases h2:anyP (fun i=>!canonP (p i)) n with
  |true=>rw [h2] at h;cases h
  |false =>
   rw [h2,cond_false] at h
   rw [cond_false]
   cases h3:anyP (ge0 p) (n - 1) with
   |true=>rw [h3] at h;cases h
   |false =>
    rw [h3,cond_false] at h
    cases h4:anyP (bad13 n p) n with
    |true=>rw [h4] at h;cases h
    |false =>
     have hn:3≤n:=by
      rw [Bool.or_eq_false_iff,decide_eq_false_iff_not] at h1
      omega
     have k0:∀i,0 < i→i < n→(p 0).X < (p i).X∨((p i).X=(p 0).X∧(p 0).Y < (p i).Y):=fun i a b=>by
      have:=(anyP_false.1 h3) (i - 1) (by omega)
      unfold ge0 at this
      rw [decide_eq_false_iff_not,show 1+(i - 1)=i by omega] at this
      exact cmpP_lt (by omega)
     have k1:∀i,i+2 < n→0 < dt (fun i=>(p i).X) (fun i=>(p i).Y) i (i+1) (i+2):=fun i a=>by
      have:=(anyP_false.1 h4) i (by omega)
      unfold bad13 at this
      rw [Bool.or_eq_false_iff,Nat.mod_eq_of_lt (by omega),Nat.mod_eq_of_lt (by omega),orP_dt] at this
      exact cmpQ_le.1 this.1
     have k2:∀i,0 < i→i+1 < n→0 < dt (fun i=>(p i).X) (fun i=>(p i).Y) 0 i (i+1):=fun i a b=>by
      have:=(anyP_false.1 h4) i (by omega)
      unfold bad13 at this
      rw [Bool.or_eq_false_iff,decide_eq_true a,decide_eq_true b,Bool.true_and,Bool.true_and,orP_dt p 0 i (i+1)] at this
      exact cmpQ_le.1 this.2
     have hall:=convex_all (X:=fun i=>(p i).X) (Y:=fun i=>(p i).Y) (n:=n) k0 k1 k2
     rw [anyP_false.2 fun i hi=>?_,cond_false,anyP_false.2 fun e he=>anyP_false.2 fun i hi=>?_]
     ·rfl
     ·unfold badV
      by_cases e1:i=e
      ·rw [e1,eqP_refl]
       rfl
      ·by_cases e2:i=(e+1)%n
       ·rw [←e2,eqP_refl,Bool.not_true,Bool.and_false]
        rfl
       ·rw [orP_dt p e ((e+1)%n) i,cmpQ_le.2 (convex_edge hn hall he hi e1 e2),Bool.and_false]
     ·unfold le0
      exact decide_eq_false (cmpP_gt (k0 (1+i) (by omega) (by omega)))
theorem firstE_zero {r r':Nat→Int}:∀{k i:Nat},(∀j,i≤j→j < i+k→r j=0→r' j=0)→firstE r k i=0→firstE r' k i=0
 |0,_,_,_=>rfl
 |k+1,i,h,e=>by
  unfold firstE at e ⊢
  cases h0:(r i==0) with
  |true =>
   rw [h0,cond_true] at e
   rw [h i (Nat.le_refl _) (by omega) (eq_of_beq h0)]
   exact firstE_zero (fun j a b=>h j (by omega) (by omega)) e
  |false =>
   rw [h0,cond_false] at e
   rw [e] at h0
   cases h0
theorem regR_zero {lo hi:PtS} {k:Nat} {n:Nat→Nat} {r r':Nat→Int} {l:Nat} {q:Nat→Int×Int×Int} (h:∀j,j < k→r j=0→r' j=0) (e:regR lo hi k n r l q=0):regR lo hi k n r' l q=0:=by
 unfold regR at e ⊢
 cases h1:(!canonP lo||!canonP hi) with
 |true=>rw [h1] at e;cases e
 |false =>
  rw [h1,cond_false] at e
  cases h2:decide (32 < k) with
  |true=>rw [h2] at e;cases e
  |false =>
   rw [h2,cond_false] at e
   have hz:firstE r k 0=0:=by
    cases h3:(firstE r k 0==0) with
    |true=>exact eq_of_beq h3
    |false=>rw [h3] at e;exact e
   rw [hz] at e
   rw [firstE_zero (fun j _ b=>h j (by omega)) hz]
   exact e
theorem reg13_E {xs:List PV} (h:reg13 xs=0):regE (gLo xs) (gHi xs) (gK xs) (pn (gC xs)) (fun i=>pts (pg (gC xs) i)) (gL xs) (ow (gO xs))=0:=by
 rw [regE_R]
 exact regR_zero (fun j _ hj=>chk13_ring hj) h
end Go.Num
namespace Go.Num
open Go Go.Ex Go.Proofs
def Hit (n:Nat) (A B:Nat→Rat):Prop:=∃t:Rat,0 < t∧t < 1∧∀e,e < n→0 < A e+(B e - A e)*t
theorem Hit.symm {n:Nat} {A B:Nat→Rat} (h:Hit n A B):Hit n B A:=by
 obtain⟨t,h1,h2,h3⟩:=h
 refine⟨1 - t,by grind,by grind,fun e he=>?_⟩
 have:=h3 e he
 grind
theorem near_one {A B:Rat} (h:0 < A):∃t:Rat,0 < t∧t < 1∧∀s:Rat,0 < s→s≤t→0 < A+(B - A)*s:=by
 by_cases hB:0≤B
 ·refine⟨1 / 2,by grind,by grind,fun s h1 h2=>?_⟩
  have k1:=Rat.mul_nonneg hB (Rat.le_of_lt h1)
  have k2:=Rat.mul_pos h (show 0 < 1 - s by grind)
  grind
 ·have hd:0 < A - B:=by grind
  have hi:0 < (A - B)⁻¹:=Rat.inv_pos.2 hd
  have e:(A - B)*(A - B)⁻¹ = 1:=Rat.mul_inv_cancel _ (by grind)
  have k0:=Rat.mul_pos h hi
  have k1:A*(A - B)⁻¹ < 1:=by
   have:=Rat.mul_pos (show 0 < -B by grind) hi
   grind
  refine⟨A*(A - B)⁻¹*(1 / 2),by grind,by grind,fun s h1 h2=>?_⟩
  have k2:=Rat.mul_nonneg (Rat.le_of_lt hd) (show 0≤A*(A - B)⁻¹*(1 / 2) - s by grind)
  have k3:(A - B)*(A*(A - B)⁻¹*(1 / 2) - s)=A*(1 / 2) - (A - B)*s:=by
   have:(A - B)*(A*(A - B)⁻¹*(1 / 2))=A*(1 / 2)*((A - B)*(A - B)⁻¹):=by grind
   grind
  grind
theorem near_all {A B:Nat→Rat}:∀{n:Nat},(∀e,e < n→0 < A e)→∃t:Rat,0 < t∧t < 1∧∀e,e < n→∀s:Rat,0 < s→s≤t→0 < A e+(B e - A e)*s
 |0,_=>⟨1 / 2,by grind,by grind,fun e he=>absurd he (Nat.not_lt_zero e)⟩
 |n+1,h=>by
  obtain⟨t,h1,h2,h3⟩:=near_all (A:=A) (B:=B) (n:=n) fun e he=>h e (by omega)
  obtain⟨u,k1,k2,k3⟩:=near_one (B:=B n) (h n (by omega))
  refine⟨if t≤u then t else u,by split<;>assumption,by split<;>assumption,fun e he s hs hst=>?_⟩
  by_cases hen:e=n
  ·subst hen
   exact k3 s hs (by split at hst<;>grind)
  ·exact h3 e (by omega) s hs (by split at hst<;>grind)
theorem Hit.near {n:Nat} {A B:Nat→Rat} (h:∀e,e < n→0 < A e):Hit n A B:=by
 obtain⟨t,h1,h2,h3⟩:=near_all (A:=A) (B:=B) h
 exact⟨t,h1,h2,fun e he=>h3 e he t h1 Rat.le_refl⟩
theorem Hit.part {n:Nat} {A B C:Nat→Rat} {q:Rat} (h:¬Hit n A B) (h0:0≤q) (h1:q≤1) (hC:∀e,e < n→C e=A e+(B e - A e)*q):¬Hit n A C:=by
 rintro ⟨t,k0,k1,k2⟩
 refine h ?_
 by_cases hq:q=0
 ·refine Hit.near fun e he=>?_
  have:=k2 e he
  rw [hC e he,hq] at this
  grind
 ·have hq':0 < q:=by grind
  refine⟨q*t,Rat.mul_pos hq' k0,?_,fun e he=>?_⟩
  ·have:=Rat.mul_pos hq' (show 0 < 1 - t by grind)
   grind
  ·have:=k2 e he
   rw [hC e he] at this
   grind
theorem stepQ_none {x y:Rat} {s:Rat×Rat} (h:stepQ x y s=none) {t:Rat} (h0:0 < t) (h1:t < 1):¬0 < x+(y - x)*t:=by
 unfold stepQ at h
 cases c1:decide (cmpQ x 0 > 0) with
 |true =>
  rw [c1] at h
  cases c2:decide (cmpQ y 0 > 0) with
  |true=>rw [c2] at h;cases h
  |false=>rw [c2] at h;cases h
 |false =>
  cases c2:decide (cmpQ y 0 > 0) with
  |true=>rw [c1,c2] at h;cases h
  |false =>
   have e1:¬0 < x:=fun k=>by rw [cmpQ_gt.2 k] at c1;cases c1
   have e2:¬0 < y:=fun k=>by rw [cmpQ_gt.2 k] at c2;cases c2
   have k1:=Rat.mul_nonneg (show 0 ≤ -x by grind) (show 0≤1 - t by grind)
   have k2:=Rat.mul_nonneg (show 0 ≤ -y by grind) (Rat.le_of_lt h0)
   grind
theorem cmpQ_gt2 {a b:Rat}:decide (cmpQ a b > 0)=true↔b < a:=by
 rw [decide_eq_true_iff]
 unfold cmpQ
 split
 ·rename_i h
  exact⟨fun k=>absurd k (by decide),fun k=>by grind⟩
 ·split
  ·rename_i h
   exact⟨fun _=>h,fun _=>by decide⟩
  ·rename_i h
   exact⟨fun k=>absurd k (by decide),fun k=>absurd k h⟩
theorem cmpQ_lt2 {a b:Rat}:decide (cmpQ a b < 0)=true↔a < b:=by
 rw [decide_eq_true_iff]
 unfold cmpQ
 split
 ·rename_i h
  exact⟨fun _=>h,fun _=>by decide⟩
 ·split
  ·rename_i h h2
   exact⟨fun k=>absurd k (by decide),fun k=>absurd k h⟩
  ·rename_i h h2
   exact⟨fun k=>absurd k (by decide),fun k=>absurd k h⟩
theorem div_lt_iff' {x y t:Rat} (h:0 < x - y):t < x / (x - y)↔0 < x+(y - x)*t:=by
 have hi:0 < (x - y)⁻¹:=Rat.inv_pos.2 h
 have e:(x - y)*(x - y)⁻¹ = 1:=Rat.mul_inv_cancel _ (by grind)
 rw [Rat.div_def]
 constructor
 ·intro k
  have:=Rat.mul_pos (show 0 < x*(x - y)⁻¹ - t by grind) h
  have e2:(x*(x - y)⁻¹ - t)*(x - y)=x*((x - y)*(x - y)⁻¹) - t*(x - y):=by grind
  rw [e2,e] at this
  grind
 ·intro k
  have:=Rat.mul_pos k hi
  have e2:(x+(y - x)*t)*(x - y)⁻¹ = x*(x - y)⁻¹ - t*((x - y)*(x - y)⁻¹):=by grind
  rw [e2,e] at this
  grind
theorem lt_div_iff' {x y t:Rat} (h:x - y < 0):x / (x - y) < t↔0 < x+(y - x)*t:=by
 have hd:0 < y - x:=by grind
 have hi:0 < (y - x)⁻¹:=Rat.inv_pos.2 hd
 have e:(y - x)*(y - x)⁻¹ = 1:=Rat.mul_inv_cancel _ (by grind)
 have e0:x / (x - y) = -x*(y - x)⁻¹:=by
  rw [Rat.div_def]
  have n1:(x - y)*(x - y)⁻¹ = 1:=Rat.mul_inv_cancel _ (by grind)
  have:(x - y)⁻¹ = -(y - x)⁻¹:=by
   have k:(x - y)⁻¹*((y - x)*(y - x)⁻¹)=(x - y)⁻¹:=by rw [e,Rat.mul_one]
   have k2:(x - y)⁻¹*((y - x)*(y - x)⁻¹) = -((x - y)*(x - y)⁻¹)*(y - x)⁻¹:=by grind
   rw [n1] at k2
   grind
  rw [this]
  grind
 rw [e0]
 constructor
 ·intro k
  have:=Rat.mul_pos (show 0 < t - -x*(y - x)⁻¹ by grind) hd
  have e2:(t - -x*(y - x)⁻¹)*(y - x)=t*(y - x)+x*((y - x)*(y - x)⁻¹):=by grind
  rw [e2,e] at this
  grind
 ·intro k
  have:=Rat.mul_pos k hi
  have e2:(x+(y - x)*t)*(y - x)⁻¹ = x*(y - x)⁻¹+t*((y - x)*(y - x)⁻¹):=by grind
  rw [e2,e] at this
  grind
theorem stepQ_some {x y:Rat} {s s':Rat×Rat} (h:stepQ x y s=some s'):(s.1≤s'.1∧s'.2≤s.2)∧∀t:Rat,0 < t→t < 1→(s'.1 < t∧t < s'.2↔(s.1 < t∧t < s.2)∧0 < x+(y - x)*t):=by
 unfold stepQ at h
 cases c1:decide (cmpQ x 0 > 0) with
 |true =>
  have e1:=cmpQ_gt.1 c1
  rw [c1] at h
  cases c2:decide (cmpQ y 0 > 0) with
  |true =>
   have e2:=cmpQ_gt.1 c2
   rw [c2] at h
   cases h
   refine⟨⟨Rat.le_refl,Rat.le_refl⟩,fun t h0 h1=>⟨fun k=>⟨k,?_⟩,fun k=>k.1⟩⟩
   have k1:=Rat.mul_pos e1 (show 0 < 1 - t by grind)
   have k2:=Rat.mul_pos e2 h0
   grind
  |false =>
   have e2:¬0 < y:=fun k=>by rw [cmpQ_gt.2 k] at c2;cases c2
   rw [c2] at h
   have hl:=fun t=>div_lt_iff' (x:=x) (y:=y) (t:=t) (by grind)
   cases c3:decide (cmpQ (x / (x - y)) s.2 < 0) with
   |true =>
    have e3:=cmpQ_lt2.1 c3
    rw [c3] at h
    cases h
    refine⟨⟨Rat.le_refl,Rat.le_of_lt e3⟩,fun t h0 h1=>⟨fun k=>⟨⟨k.1,?_⟩,(hl t).1 k.2⟩,fun k=>⟨k.1.1,(hl t).2 k.2⟩⟩⟩
    have:t < x / (x - y):=k.2
    grind
   |false =>
    have e3:¬x / (x - y) < s.2:=fun k=>by rw [cmpQ_lt2.2 k] at c3;cases c3
    rw [c3] at h
    cases h
    refine⟨⟨Rat.le_refl,Rat.le_refl⟩,fun t h0 h1=>⟨fun k=>⟨k,(hl t).1 ?_⟩,fun k=>k.1⟩⟩
    have:t < s.2:=k.2
    grind
 |false =>
  have e1:¬0 < x:=fun k=>by rw [cmpQ_gt.2 k] at c1;cases c1
  rw [c1] at h
  cases c2:decide (cmpQ y 0 > 0) with
  |false=>rw [c2] at h;cases h
  |true =>
   have e2:=cmpQ_gt.1 c2
   rw [c2] at h
   have hl:=fun t=>lt_div_iff' (x:=x) (y:=y) (t:=t) (by grind)
   cases c3:decide (cmpQ (x / (x - y)) s.1 > 0) with
   |true =>
    have e3:=cmpQ_gt2.1 c3
    rw [c3] at h
    cases h
    refine⟨⟨Rat.le_of_lt e3,Rat.le_refl⟩,fun t h0 h1=>⟨fun k=>⟨⟨?_,k.2⟩,(hl t).1 k.1⟩,fun k=>⟨(hl t).2 k.2,k.1.2⟩⟩⟩
    have:x / (x - y) < t:=k.1
    grind
   |false =>
    have e3:¬s.1 < x / (x - y):=fun k=>by rw [cmpQ_gt2.2 k] at c3;cases c3
    rw [c3] at h
    cases h
    refine⟨⟨Rat.le_refl,Rat.le_refl⟩,fun t h0 h1=>⟨fun k=>⟨k,(hl t).1 ?_⟩,fun k=>k.1⟩⟩
    have:s.1 < t:=k.1
    grind
end Go.Num
namespace Go.Num
open Go Go.Ex Go.Proofs
def hts (n:Nat) (p:Nat→PtS) (a:PtS) (e:Nat):Rat:=hgt (p e) (p ((e+1)%n)) a
theorem partF_none {n:Nat} {p:Nat→PtS} {a b:PtS}:∀{k e:Nat} {s:Rat×Rat},partF n p a b k e s=none→∀t:Rat,0 < t→t < 1→¬((s.1 < t∧t < s.2)∧∀i,e≤i→i < e+k→0 < hts n p a i+(hts n p b i - hts n p a i)*t)
 |0,_,_,h=>by cases h
 |k+1,e,s,h=>by
  intro t h0 h1 ⟨hs,hg⟩
  unfold partF at h
  cases hst:stepQ (hgt (p e) (p ((e+1)%n)) a) (hgt (p e) (p ((e+1)%n)) b) s with
  |none=>exact stepQ_none hst h0 h1 (hg e (Nat.le_refl _) (by omega))
  |some s' =>
   rw [hst] at h
   exact partF_none h t h0 h1 ⟨((stepQ_some hst).2 t h0 h1).2 ⟨hs,hg e (Nat.le_refl _) (by omega)⟩,fun i a b=>hg i (by omega) (by omega)⟩
theorem partF_some {n:Nat} {p:Nat→PtS} {a b:PtS}:∀{k e:Nat} {s s':Rat×Rat},partF n p a b k e s=some s'→(s.1≤s'.1∧s'.2≤s.2)∧∀t:Rat,0 < t→t < 1→(s'.1 < t∧t < s'.2↔(s.1 < t∧t < s.2)∧∀i,e≤i→i < e+k→0 < hts n p a i+(hts n p b i - hts n p a i)*t)
 |0,_,_,_,h=>by
  cases h
  exact⟨⟨Rat.le_refl,Rat.le_refl⟩,fun t _ _=>⟨fun k=>⟨k,fun i a b=>by omega⟩,fun k=>k.1⟩⟩
 |k+1,e,s,s',h=>by
  unfold partF at h
  cases hst:stepQ (hgt (p e) (p ((e+1)%n)) a) (hgt (p e) (p ((e+1)%n)) b) s with
  |none=>rw [hst] at h;cases h
  |some s1 =>
   rw [hst] at h
   obtain⟨k1,k2⟩:=stepQ_some hst
   obtain⟨k3,k4⟩:=partF_some h
   refine⟨⟨Rat.le_trans k1.1 k3.1,Rat.le_trans k3.2 k1.2⟩,fun t h0 h1=>?_⟩
   rw [k4 t h0 h1,k2 t h0 h1]
   constructor
   ·rintro ⟨⟨u,v⟩,w⟩
    refine⟨u,fun i x y=>?_⟩
    by_cases hi:i=e
    ·subst hi
     exact v
    ·exact w i (by omega) (by omega)
   ·rintro ⟨u,w⟩
    exact⟨⟨u,w e (Nat.le_refl _) (by omega)⟩,fun i x y=>w i (by omega) (by omega)⟩
theorem partO_hit {n:Nat} {p:Nat→PtS} {a b:PtS} (hB:partB n p a b=false):partO n p a b=none↔¬Hit n (hts n p a) (hts n p b):=by
 unfold partO
 rw [hB,cond_false,Rat.zero_mkRat,show mkRat 1 1=(1:Rat) by rfl]
 cases hF:partF n p a b n 0 (0,1) with
 |none =>
  refine⟨fun _=>?_,fun _=>rfl⟩
  rintro ⟨t,h0,h1,h2⟩
  exact partF_none hF t h0 h1 ⟨⟨h0,h1⟩,fun i _ hi=>h2 i (by omega)⟩
 |some s =>
  obtain⟨⟨k1,k2⟩,k3⟩:=partF_some hF
  have k1:0≤s.1:=k1
  have k2:s.2≤1:=k2
  cases hc:decide (cmpQ s.1 s.2≥0) with
  |true =>
   refine⟨fun _=>?_,fun _=>by simp only [Option.bind_some,hc,cond_true]⟩
   rintro ⟨t,h0,h1,h2⟩
   have:=(k3 t h0 h1).2 ⟨⟨h0,h1⟩,fun i _ hi=>h2 i (by omega)⟩
   have hlt:s.1 < s.2:=by grind
   have hc:cmpQ s.1 s.2≥0:=of_decide_eq_true hc
   unfold cmpQ at hc
   rw [if_pos hlt] at hc
   exact absurd hc (by decide)
  |false =>
   have hlt:s.1 < s.2:=by
    have hc:¬cmpQ s.1 s.2≥0:=of_decide_eq_false hc
    unfold cmpQ at hc
    split at hc
    ·rename_i h
     exact h
    ·split at hc
     ·exact absurd (show(1:Int)≥0 by decide) hc
     ·exact absurd (show(0:Int)≥0 by decide) hc
   constructor
   ·intro h
    simp only [Option.bind_some,hc,cond_false] at h
    cases h
   ·intro h
    refine absurd ?_ h
    have m0:0 < (s.1+s.2)*(1 / 2):=by grind
    have m1:(s.1+s.2)*(1 / 2) < 1:=by grind
    exact⟨(s.1+s.2)*(1 / 2),m0,m1,fun e he=>((k3 _ m0 m1).1 ⟨by grind,by grind⟩).2 e (Nat.zero_le _) (by omega)⟩
theorem hts_at {n:Nat} {p:Nat→PtS} {a b c:PtS} {q:Rat} (hx:c.X=a.X+(b.X - a.X)*q) (hy:c.Y=a.Y+(b.Y - a.Y)*q) (e:Nat):hts n p c e=hts n p a e+(hts n p b e - hts n p a e)*q:=by
 unfold hts hgt crossP subP
 simp only [ptQ_X,ptQ_Y]
 rw [hx,hy]
 grind
theorem farQ_at {i:Nat} {lo hi a b c:PtS} {q:Rat} (hx:c.X=a.X+(b.X - a.X)*q) (hy:c.Y=a.Y+(b.Y - a.Y)*q):farQ i lo hi c=farQ i lo hi a+(farQ i lo hi b - farQ i lo hi a)*q:=by
 unfold farQ
 split
 ·rw [hx];grind
 ·rw [hx];grind
 ·rw [hy];grind
 ·rw [hy];grind
structure SeeM (lo hi:PtS) (k:Nat) (c:Nat→List PV) (a b:PtS):Prop where
 inA:∀i,i < 4→farQ i lo hi a≤0
 inB:∀i,i < 4→farQ i lo hi b≤0
 clear:∀i,i < k→¬Hit (pn c i) (hts (pn c i) (pts (pg c i)) a) (hts (pn c i) (pts (pg c i)) b)
theorem SeeM.symm {lo hi:PtS} {k:Nat} {c:Nat→List PV} {a b:PtS} (h:SeeM lo hi k c a b):SeeM lo hi k c b a :=
 ⟨h.inB,h.inA,fun i hi k=>h.clear i hi k.symm⟩
theorem SeeM.part {lo hi:PtS} {k:Nat} {c:Nat→List PV} {a b d:PtS} (h:SeeM lo hi k c a b) {q:Rat} (h0:0≤q) (h1:q≤1) (hx:d.X=a.X+(b.X - a.X)*q) (hy:d.Y=a.Y+(b.Y - a.Y)*q):SeeM lo hi k c a d:=by
 refine⟨h.inA,fun i h4=>?_,fun i hi=>Hit.part (h.clear i hi) h0 h1 fun e _=>hts_at hx hy e⟩
 rw [farQ_at hx hy]
 have k1:=h.inA i h4
 have k2:=h.inB i h4
 have k3:=Rat.mul_nonneg (show 0 ≤ -farQ i lo hi a by grind) (show 0≤1 - q by grind)
 have k4:=Rat.mul_nonneg (show 0 ≤ -farQ i lo hi b by grind) h0
 grind
theorem SeeM.self {lo hi:PtS} {k:Nat} {c:Nat→List PV} {a b:PtS} (h:SeeM lo hi k c a b):SeeM lo hi k c a a :=
 h.part (q:=0) Rat.le_refl (by grind) (by grind) (by grind)
theorem partsP_nil {lo hi:PtS} {n:Nat→Nat} {p:Nat→Nat→PtS} {a b:PtS}:∀{j:Nat},partsP lo hi n p a b j=[]↔∀i,i < j→(if i < 4 then oneS i lo hi a b else oneC (i - 4) (n (i - 4)) (p (i - 4)) a b)=[]
 |0=>⟨fun _ i hi=>absurd hi (Nat.not_lt_zero i),fun _=>rfl⟩
 |j+1=>by
  rw [partsP,List.append_eq_nil_iff,partsP_nil]
  constructor
  ·rintro ⟨h1,h2⟩ i hi
   by_cases e:i=j
   ·rw [e]
    exact h2
   ·exact h1 i (by omega)
  ·intro h
   exact⟨fun i hi=>h i (by omega),h j (by omega)⟩
theorem oneS_nil {i:Nat} {lo hi a b:PtS}:oneS i lo hi a b=[]↔farQ i lo hi a≤0∧farQ i lo hi b≤0:=by
 have hq:∀x:Rat,decide (cmpQ x 0≤0)=true↔x≤0:=fun x=>by
  cases h:decide (cmpQ x 0≤0) with
  |false =>
   have:=cmpQ_le.1 h
   exact⟨fun k=>(by cases k),fun k=>by grind⟩
  |true =>
   refine⟨fun _=>?_,fun _=>rfl⟩
   by_cases hx:0 < x
   ·rw [cmpQ_le.2 hx] at h
    cases h
   ·grind
 unfold oneS
 cases h:(decide (cmpQ (farQ i lo hi a) 0≤0)&&decide (cmpQ (farQ i lo hi b) 0≤0)) with
 |true =>
  rw [Bool.and_eq_true,hq,hq] at h
  exact⟨fun _=>h,fun _=>rfl⟩
 |false =>
  refine⟨fun k=>(by cases k),fun k=>?_⟩
  rw [(hq _).2 k.1,(hq _).2 k.2] at h
  cases h
theorem oneC_nil {i n:Nat} {p:Nat→PtS} {a b:PtS} (hB:partB n p a b=false):oneC i n p a b=[]↔¬Hit n (hts n p a) (hts n p b):=by
 rw [←partO_hit hB]
 unfold oneC
 cases partO n p a b with
 |none=>exact⟨fun _=>rfl,fun _=>rfl⟩
 |some s=>exact⟨fun k=>(by cases k),fun k=>by cases k⟩
theorem regE_ring {lo hi:PtS} {k:Nat} {n:Nat→Nat} {p:Nat→Nat→PtS} {l:Nat} {q:Nat→Int×Int×Int} (h:regE lo hi k n p l q=0):∀i,i < k→ringE (n i) (p i)=0:=by
 have hf:∀{r:Nat→Int} {k i:Nat},firstE r k i=0→∀j,i≤j→j < i+k→r j=0:=fun {r k}=>by
  induction k with
  |zero=>intro i _ j a b;omega
  |succ k ih =>
   intro i h j a b
   unfold firstE at h
   cases h0:(r i==0) with
   |true =>
    rw [h0,cond_true] at h
    by_cases e:j=i
    ·rw [e]
     exact eq_of_beq h0
    ·exact ih h j (by omega) (by omega)
   |false =>
    rw [h0,cond_false] at h
    rw [h] at h0
    cases h0
 intro i hik
 unfold regE at h
 cases h1:(!canonP lo||!canonP hi) with
 |true=>rw [h1] at h;cases h
 |false =>
  rw [h1,cond_false] at h
  cases h2:decide (32 < k) with
  |true=>rw [h2] at h;cases h
  |false =>
   rw [h2,cond_false] at h
   have hz:firstE (fun i=>ringE (n i) (p i)) k 0=0:=by
    cases h3:(firstE (fun i=>ringE (n i) (p i)) k 0==0) with
    |true=>exact eq_of_beq h3
    |false=>rw [h3] at h;exact h
   exact hf hz i (Nat.zero_le _) (by omega)
theorem seeB_iff {lo hi:PtS} {k:Nat} {c:Nat→List PV} {l:Nat} {o:Nat→List PV} {a b:PtS} (hr:regE lo hi k (pn c) (fun i=>pts (pg c i)) l (ow o)=0) (ha:canonP a=true) (hb:canonP b=true):seeB lo hi k c l o a b=true↔SeeM lo hi k c a b:=by
 have ok:okB lo hi k c l o (segV a b)=true:=by
  show(!(!canonP a||!canonP b)&&(regE lo hi k (pn c) (fun i=>pts (pg c i)) l (ow o)==0))=true
  rw [ha,hb,hr]
  rfl
 have hB:∀i,i < k→partB (pn c i) (pts (pg c i)) a b=false:=fun i hi=>by
  unfold partB
  rw [regE_ring hr i hi,ha,hb]
  rfl
 unfold seeB
 rw [ok,Bool.true_and,List.isEmpty_iff]
 show partsP lo hi (pn c) (fun i=>pts (pg c i)) a b (k+4)=[]↔_
 rw [partsP_nil]
 constructor
 ·intro h
  have h4:∀i,i < 4→farQ i lo hi a≤0∧farQ i lo hi b≤0:=fun i hi=>by
   have:=h i (by omega)
   rw [if_pos hi] at this
   exact oneS_nil.1 this
  refine⟨fun i hi=>(h4 i hi).1,fun i hi=>(h4 i hi).2,fun i hi=>?_⟩
  have:=h (i+4) (by omega)
  rw [if_neg (by omega),Nat.add_sub_cancel] at this
  exact(oneC_nil (hB i hi)).1 this
 ·intro h i hi
  split
  ·rename_i h4
   exact oneS_nil.2 ⟨h.inA i h4,h.inB i h4⟩
  ·rename_i h4
   exact(oneC_nil (hB (i - 4) (by omega))).2 (h.clear (i - 4) (by omega))
end Go.Num
namespace Go.Proofs
open Go Go.Ex Go.Num
set_option maxRecDepth 100000
def c21:List PV→Option Ans
 |[.agg xs,.val v,.val u]=>some ⟨some (isRg 10000 xs∧isPk 10000 v∧isPk 10000 u),.val (.tuple ⟨[.bool (seeB (gLo xs) (gHi xs) (gK xs) (gC xs) (gL xs) (gO xs) (rdV v) (rdV u)),.int .i64 (okW (okB (gLo xs) (gHi xs) (gK xs) (gC xs) (gL xs) (gO xs) (segV (rdV v) (rdV u))))]⟩),[]⟩
 |_=>none
theorem ok21:funcOk {} Tryz.f21 3=true:=by kernel_rfl
theorem f21:FnOk Tryz.prog 21 c21:=by
 refine FnOk.ofW orders (mkE_ok (l:=[(55,c55),(56,c56)]) (own:=[]) (inl:=[]) (by simp [f55,f56]) (by simp)) Tryz.func21 {} 3 ok21 fun args r e=>?_
 unfold c21 at e
 split at e
 ·rename_i xs v u
  cases e
  refine⟨by simp,fun hm=>?_⟩
  obtain⟨⟨h1,⟨hlo,hhi⟩,hcl,hol⟩,⟨a,rfl,ha⟩,b,rfl,hb⟩:=hm _ rfl
  generalize gLo xs=lo at *
  generalize gHi xs=hi at *
  generalize gK xs=k at *
  generalize gC xs=c at *
  generalize gL xs=l at *
  generalize gO xs=o at *
  subst h1
  clear hm
  refine⟨[],stOf [(0,.agg (regC lo hi k c l o)),(1,.val a.v),(2,.val b.v)] [] 0 [],Weak.of (by simp) trivial ⟨⟨rfl,rfl,rfl,rfl,rfl,rfl,rfl,rfl,rfl,rfl,rfl,rfl,⟨rfl,rfl,fun _ _=>rfl⟩,⟨rfl,rfl,fun _ _=>rfl⟩,trivial⟩,rfl,rfl,trivial⟩ trivial,?_⟩
  have hrg:((lo.le 4294967296∧hi.le 4294967296)∧isCL 10000 k c∧isOL l o):=⟨⟨hlo.mono (by decide),hhi.mono (by decide)⟩,hcl,hol⟩
  have hrg2:((lo.le 10000∧hi.le 10000)∧isCL 10000 k c∧isOL l o):=⟨⟨hlo,hhi⟩,hcl,hol⟩
  have ha':=ha.mono (show 10000≤4294967296 by decide)
  have hb':=hb.mono (show 10000≤4294967296 by decide)
  obtain⟨S,hS⟩:∃S,S=seeB lo hi k c l o a b:=⟨_,rfl⟩
  have hv:seeB lo hi k c l o (rdV a.v) (rdV b.v)=S:=hS.symm
  rw [hv]
  obtain⟨OK,hOK⟩:∃OK,OK=okB lo hi k c l o (segV a b):=⟨_,rfl⟩
  have hw:okB lo hi k c l o (segV (rdV a.v) (rdV b.v))=OK:=hOK.symm
  rw [hw]
  have cn:∀r:Nat→List PV,pts r 0=a→pts r 1=b→anyP (fun i=>!canonP (pts r i)) 2=(!canonP a||!canonP b):=fun r h h'=>by
   have e:List.range 2=[0,1]:=rfl
   simp only [anyP,e,List.any_cons,List.any_nil,Bool.or_false,h,h']
  have p2:∀r:Nat→List PV,r 0=a.cells→r 1=b.cells→isPL 4294967296 2 r:=fun r h h'=>⟨fun i hi=>by
   match i,hi with
   |0,_=>exact⟨by rw [pts,h];rfl,by rw [pts,h];exact ha'⟩
   |1,_=>exact⟨by rw [pts,h'];rfl,by rw [pts,h'];exact hb'⟩
   |i+2,h=>omega,by decide⟩
  have q1:∀r:Nat→List PV,pts r 0=a→pts r 1=b→((regE lo hi k (pn (fun i=>[.rs 6 (pn c i) (pg c i)])) (fun i=>pts (pg (fun i=>[.rs 6 (pn c i) (pg c i)]) i)) l (ow (fun i=>cellsO (ow o i)))==0)&&!anyP (fun i=>!canonP (pts r i)) 2)=OK:=fun r h h'=>by
   rw [cn r h h',hOK,Bool.and_comm]
   rfl
  have z:∀B:Bool,(okW B != 0)=true→B=false:=fun B h=>by cases B<;>first|rfl|cases h
  have z':∀B:Bool,(okW B != 0)=false→B=true:=fun B h=>by cases B<;>first|rfl|cases h
  have s0:OK=false→S=false:=fun h=>by
   rw [hS,seeB,←hOK,h]
   rfl
  have hrg':((lo.le 4294967296∧hi.le 4294967296)∧isCL 10000 k (fun i=>[.rs 6 (pn c i) (pg c i)])∧isOL l (fun i=>cellsO (ow o i))):=⟨hrg.1,⟨fun i hi=>⟨rfl,(hcl.1 i hi).2⟩,hcl.2⟩,fun _ _=>rfl,hol.2⟩
  have hrg3:((lo.le 10000∧hi.le 10000)∧isCL 10000 k (fun i=>[.rs 6 (pn c i) (pg c i)])∧isOL l (fun i=>cellsO (ow o i))):=⟨hrg2.1,hrg'.2⟩
  have v5:PV.val (.bool (seeB lo hi k (fun i=>[.rs 6 (pn c i) (pg c i)]) l (fun i=>cellsO (ow o i)) (rdV a.v) (rdV b.v)))=PV.val (.bool S):=by
   rw [hS]
   rfl
  with_unfolding_all refine⟨⟨hrg',p2 _ rfl rfl⟩,fun h1=>?_,fun h1=>?_⟩
  ·have h2:OK=false:=(q1 _ rfl rfl).symm.trans (z _ h1)
   have v1:PV.val (.bool false)=PV.val (.bool S):=by rw [s0 h2]
   have v2:∀B,B=OK→PV.val (.int .i64 (okW B))=PV.val (.int .i64 (okW OK)):=fun B h=>by rw [h]
   with_unfolding_all exact⟨[],stOf [(6,.val (.bool S)),(7,.val (.int .i64 (okW OK)))] [] 0 [],Weak.of (by simp) trivial ⟨v1,v2 _ (q1 _ rfl rfl),trivial⟩ trivial,rfl,rfl⟩
  ·have h2:OK=true:=(q1 _ rfl rfl).symm.trans (z' _ h1)
   have v3:PV.val (.int .i64 0)=PV.val (.int .i64 (okW OK)):=by rw [h2];rfl
   with_unfolding_all exact⟨⟨hrg3,⟨a,rfl,ha⟩,b,rfl,hb⟩,[],stOf [(6,.val (.bool S)),(7,.val (.int .i64 (okW OK)))] [] 0 [],Weak.of (by simp) trivial ⟨v5,v3,trivial⟩ trivial,rfl,rfl⟩
 ·cases e
end Go.Proofs
namespace Go.Num
open Go Go.Ex Go.Proofs
def qL (L:List (Int×Int)) (i:Nat):Int×Int:=(L[i]?).getD (0,0)
theorem apd_q {L:List (Int×Int)} {x:Int×Int} {r:Nat→List PV} (h:r 0=cellsQ x):∀i,i < L.length+1→cellsQ (qL (L++[x]) i)=apd L.length (fun i=>cellsQ (qL L i)) r i:=fun i hi=>by
 unfold apd qL
 by_cases hl:i < L.length
 ·rw [if_pos hl,List.getElem?_append_left hl]
 ·obtain rfl:i=L.length:=by omega
  rw [if_neg hl,Nat.sub_self,h]
  simp
def tgtL (T:Int→Int→Bool) (q:Nat→Int×Int):Nat→List (Int×Int)
 |0=>[]
 |j+1=>tgtL T q j++(bif T (q j).1 (q j).2&&T (q j).2 (q j).1 then [q j] else [])
theorem tgtL_le (T:Int→Int→Bool) (q:Nat→Int×Int):∀j,(tgtL T q j).length≤j
 |0=>Nat.le_refl _
 |j+1=>by
  have:=tgtL_le T q j
  unfold tgtL
  rw [List.length_append]
  cases (T (q j).1 (q j).2&&T (q j).2 (q j).1)<;>simp<;>omega
def okT (lo hi:PtS) (k:Nat) (c:Nat→List PV) (l:Nat) (o:Nat→List PV) (n:Nat) (g:Nat→List PV) (m:Nat) (h:Nat→List PV):Bool:=(regE lo hi k (pn c) (fun i=>pts (pg c i)) l (ow o)==0)&&okMap n (pts g) m (prs h)
def tgtR (lo hi:PtS) (k:Nat) (c:Nat→List PV) (l:Nat) (o:Nat→List PV) (n:Nat) (g:Nat→List PV) (m:Nat) (h:Nat→List PV):List (Int×Int):=bif okT lo hi k c l o n g m h then tgtL (tightE k c (pts g)) (prs h) m else []
theorem links_at {n m:Nat} {q:Nat→Int×Int} (h:okLinks n q m=true) {i:Nat} (hi:i < m):0≤(q i).1∧(q i).1 < (q i).2∧(q i).2 < (n:Int)∧(0 < i→lessQ (q (i - 1)) (q i)=true):=by
 unfold okLinks at h
 have h0:anyP (badL n q) m=false:=by simpa using h
 have h1:=(anyP_false.1 h0) i hi
 unfold badL at h1
 simp only [Bool.or_eq_false_iff,decide_eq_false_iff_not,Bool.and_eq_false_iff,Bool.not_eq_false'] at h1
 exact⟨by omega,by omega,by omega,fun hi=>by
  rcases h1.2 with h|h
  ·omega
  ·exact h⟩
theorem links_le {n m:Nat} {q:Nat→Int×Int} (h:okLinks n q m=true):m≤n*n:=by
 have key:∀i,i < m→(i:Int)≤(q i).1*n+(q i).2:=fun i=>by
  induction i with
  |zero =>
   intro hi
   have:=links_at h hi
   have h2:=Int.mul_nonneg this.1 (Int.natCast_nonneg n)
   omega
  |succ i ih =>
   intro hi
   have h1:=links_at h hi
   have h2:=links_at h (show i < m by omega)
   have h3:=ih (by omega)
   have h4:=h1.2.2.2 (by omega)
   rw [Nat.add_sub_cancel] at h4
   unfold lessQ at h4
   simp only [Bool.or_eq_true,Bool.and_eq_true,decide_eq_true_eq] at h4
   rcases h4 with h4|⟨h4,h5⟩
   ·have h6:=Int.mul_le_mul_of_nonneg_right (show(q i).1+1≤(q (i+1)).1 by omega) (Int.natCast_nonneg n)
    rw [Int.add_mul,Int.one_mul] at h6
    omega
   ·rw [←h4]
    omega
 rcases Nat.eq_zero_or_pos m with h0|h0
 ·omega
 ·have h1:=links_at h (show m - 1 < m by omega)
  have h2:=key (m - 1) (by omega)
  have h3:=Int.mul_le_mul_of_nonneg_right (show(q (m - 1)).1≤(n:Int) - 1 by omega) (Int.natCast_nonneg n)
  rw [Int.sub_mul,Int.one_mul] at h3
  have h4:(m:Int)≤(n:Int)*n:=by omega
  exact_mod_cast h4
end Go.Num
namespace Go.Proofs
open Go Go.Ex Go.Num
set_option maxRecDepth 100000
theorem nil_ans {f:FuncId} {p:PV} {r:Ans} (h:Answers Tryz.prog f [p,.rs 6 0 fun _=>[]] r):Answers Tryz.prog f [p,.val (.slice none 0 0)] r:=by
 refine⟨h.1,fun hm A w vs hA hl hR=>h.2 hm A w vs hA hl fun i q v e1 e2=>?_⟩
 match i with
 |0=>exact hR 0 q v e1 e2
 |1 =>
  cases e1
  have:=hR 1 _ v rfl e2
  cases this
  exact .rs _ _ _ _ _ (fun _ _=>undef) (fun i hi=>absurd hi (Nat.not_lt_zero i)) (Nat.le_refl _) (Nat.zero_le _) (fun i f p hi=>absurd hi (Nat.not_lt_zero i)) (fun i f p hi=>absurd hi (Nat.not_lt_zero i))
 |i+2=>simp at e1
def c55n:List PV→Option Ans
 |[p,.val (.slice none 0 0)]=>c55 [p,.rs 6 0 fun _=>[]]
 |_=>none
theorem f55n:FnOk Tryz.prog 55 c55n:=fun args r e=>by
 unfold c55n at e
 split at e
 ·exact nil_ans (f55 _ r e)
 ·cases e
def c18:List PV→Option Ans
 |[.agg xs,.agg [.rs 6 n g,.rs 2 m h]]=>some ⟨some (isRg 10000 xs∧isPL 10000 n g∧isQL m h),.tup [.rs 2 (tgtR (gLo xs) (gHi xs) (gK xs) (gC xs) (gL xs) (gO xs) n g m h).length (fun i=>cellsQ (qL (tgtR (gLo xs) (gHi xs) (gK xs) (gC xs) (gL xs) (gO xs) n g m h) i)),.val (.int .i64 (okW (okT (gLo xs) (gHi xs) (gK xs) (gC xs) (gL xs) (gO xs) n g m h)))],[]⟩
 |_=>none
theorem ok18:funcOk {} Tryz.f18 2=true:=by kernel_rfl
theorem f18:FnOk Tryz.prog 18 c18:=by
 refine FnOk.ofW orders (mkE_ok (l:=[(55,c55n),(68,c68),(69,c69)]) (own:=[]) (inl:=[]) (by simp [f55n,f68,f69]) (by simp)) Tryz.func18 {} 2 ok18 fun args r e=>?_
 unfold c18 at e
 split at e
 ·rename_i xs n g m h
  cases e
  refine⟨by simp,fun hm=>?_⟩
  obtain⟨⟨h1,⟨hlo,hhi⟩,hcl,hol⟩,hg,hq⟩:=hm _ rfl
  generalize gLo xs=lo at *
  generalize gHi xs=hi at *
  generalize gK xs=k at *
  generalize gC xs=c at *
  generalize gL xs=l at *
  generalize gO xs=o at *
  subst h1
  clear hm
  refine⟨[],stOf [(0,.agg (regC lo hi k c l o)),(1,.agg [.rs 6 n g,.rs 2 m (fun i=>cellsQ (prs h i))])] [] 0 [],Weak.of (by simp) trivial ⟨⟨rfl,rfl,rfl,rfl,rfl,rfl,rfl,rfl,rfl,rfl,rfl,rfl,⟨rfl,rfl,fun _ _=>rfl⟩,⟨rfl,rfl,fun _ _=>rfl⟩,trivial⟩,⟨⟨rfl,rfl,fun _ _=>rfl⟩,⟨rfl,rfl,fun i hi=>(hq.1 i hi).symm⟩,trivial⟩,trivial⟩ trivial,?_⟩
  have hrg:((lo.le 4294967296∧hi.le 4294967296)∧isCL 10000 k c∧isOL l o):=⟨⟨hlo.mono (by decide),hhi.mono (by decide)⟩,hcl,hol⟩
  have hg':isPL 4294967296 n g:=⟨fun i hi=>⟨(hg.1 i hi).1,(hg.1 i hi).2.mono (by decide)⟩,hg.2⟩
  have hqm:=hq.2
  generalize hqq:prs h=q at *
  have hql:isQL m (fun i=>cellsQ (q i)):=⟨fun _ _=>rfl,hqm⟩
  obtain⟨T,hT⟩:∃T,T=tightE k c (pts g):=⟨_,rfl⟩
  obtain⟨OK,hOK⟩:∃OK,OK=okT lo hi k c l o n g m h:=⟨_,rfl⟩
  obtain⟨TR,hTR⟩:∃TR,TR=tgtR lo hi k c l o n g m h:=⟨_,rfl⟩
  rw [←hTR,←hOK]
  have e1:TR=bif OK then tgtL T q m else []:=by rw [hTR,tgtR,←hOK,←hT,hqq]
  have e2:OK=((regE lo hi k (pn c) (fun i=>pts (pg c i)) l (ow o)==0)&&okMap n (pts g) m q):=by rw [hOK,okT,hqq]
  have b0:OK=false→TR.length=0:=fun h=>by rw [e1,h];rfl
  have b1:OK=false→PV.val (.int .i64 1)=PV.val (.int .i64 (okW OK)):=fun h=>by rw [h];rfl
  have q1:((regE lo hi k (pn (fun i=>[.rs 6 (pn c i) (pg c i)])) (fun i=>pts (pg (fun i=>[.rs 6 (pn c i) (pg c i)]) i)) l (ow (fun i=>cellsO (ow o i)))==0)&&!anyP (fun i=>!canonP (pts (fun _=>[]) i)) 0)=(regE lo hi k (pn c) (fun i=>pts (pg c i)) l (ow o)==0):=Bool.and_true _
  have z:∀B:Bool,(okW B != 0)=true→B=false:=fun B h=>by cases B<;>first|rfl|cases h
  have z':∀B:Bool,(okW B != 0)=false→B=true:=fun B h=>by cases B<;>first|rfl|cases h
  have f1:(okW ((regE lo hi k (pn (fun i=>[.rs 6 (pn c i) (pg c i)])) (fun i=>pts (pg (fun i=>[.rs 6 (pn c i) (pg c i)]) i)) l (ow (fun i=>cellsO (ow o i)))==0)&&!anyP (fun i=>!canonP (pts (fun _=>[]) i)) 0) != 0)=true→OK=false:=fun h=>by
   have:=q1.symm.trans (z _ h)
   rw [e2,this]
   rfl
  have f2:(!okMap n (pts g) m (prs fun i=>cellsQ (q i)))=true→OK=false:=fun h=>by
   have h:okMap n (pts g) m q=false:=by
    have h:(!okMap n (pts g) m q)=true:=h
    simpa using h
   rw [e2,h,Bool.and_false]
  have f3:(okW ((regE lo hi k (pn (fun i=>[.rs 6 (pn c i) (pg c i)])) (fun i=>pts (pg (fun i=>[.rs 6 (pn c i) (pg c i)]) i)) l (ow (fun i=>cellsO (ow o i)))==0)&&!anyP (fun i=>!canonP (pts (fun _=>[]) i)) 0) != 0)=false→(!okMap n (pts g) m (prs fun i=>cellsQ (q i)))=false→OK=true∧okMap n (pts g) m q=true:=fun h h'=>by
   have h1:=q1.symm.trans (z' _ h)
   have h2:okMap n (pts g) m q=true:=by
    have h:(!okMap n (pts g) m q)=false:=h'
    simpa using h
   exact⟨by rw [e2,h1,h2];rfl,h2⟩
  have hcl':isCL 10000 k (fun i=>[.rs 6 (pn c i) (pg c i)]):=⟨fun i hi=>⟨rfl,(hcl.1 i hi).2⟩,hcl.2⟩
  have hol':isOL l (fun i=>cellsO (ow o i)):=⟨fun _ _=>rfl,hol.2⟩
  have hrg':((lo.le 4294967296∧hi.le 4294967296)∧isCL 10000 k (fun i=>[.rs 6 (pn c i) (pg c i)])∧isOL l (fun i=>cellsO (ow o i))):=⟨hrg.1,hcl',hol'⟩
  have p0:isPL 4294967296 0 fun _=>[]:=⟨fun i hi=>absurd hi (Nat.not_lt_zero i),Nat.zero_le _⟩
  with_unfolding_all refine⟨⟨hrg',p0⟩,fun h1=>⟨⟨hg',hql⟩,fun h2=>⟨[],stOf [(4,.rs 2 TR.length (fun i=>cellsQ (qL TR i))),(5,.val (.int .i64 (okW OK)))] [] 0 [],Weak.of (by simp) trivial ⟨⟨rfl,b0 (f2 h2)⟩,b1 (f2 h2),trivial⟩ trivial,rfl,rfl⟩,fun h2=>⟨Nat,fun i=>(OK=true∧okMap n (pts g) m q=true)∧i≤m,fun i=>stOf [(2,.ptr 0 0 0 0),(3,.ptr 1 1 0 0),(6,.sl 2 2 0 (tgtL T q i).length),(18,.rs 2 m (fun i=>cellsQ (q i))),(19,.val (goInt m)),(20,.val (goInt i))] [⟨31,14,0,true,false,1,fun _=>regC lo hi k c l o⟩,⟨37,2,1,true,false,1,fun _=>[.rs 6 n g,.rs 2 m (fun i=>cellsQ (q i))]⟩,⟨46,2,2,false,false,(tgtL T q i).length,fun j=>cellsQ (qL (tgtL T q i) j)⟩] 3 [],fun i=>m - i,⟨0,[some 0,some 1,none],⟨f3 h1 h2,Nat.zero_le _⟩,Weak.of (by simp) ⟨⟨lt_ok rfl,rfl,rfl,rfl,rfl,rfl,⟨rfl,rfl⟩,⟨rfl,rfl⟩,⟨rfl,rfl⟩,⟨rfl,rfl⟩,⟨rfl,rfl⟩,⟨rfl,rfl⟩,⟨rfl,rfl⟩,⟨rfl,rfl⟩,⟨rfl,rfl⟩,⟨rfl,rfl⟩,⟨rfl,rfl⟩,⟨rfl,rfl⟩,⟨⟨rfl,rfl,fun _ _=>rfl⟩,rfl⟩,⟨⟨rfl,rfl,fun _ _=>rfl⟩,rfl⟩,trivial⟩,⟨lt_ok rfl,rfl,rfl,rfl,rfl,rfl,⟨⟨rfl,rfl,fun _ _=>rfl⟩,rfl⟩,⟨⟨rfl,rfl,fun _ _=>rfl⟩,rfl⟩,trivial⟩,⟨lt_ok rfl,rfl,rfl,rfl⟩,trivial⟩ ⟨⟨rfl,rfl,rfl,lt_ok rfl,_,rfl⟩,⟨rfl,rfl,rfl,lt_ok rfl,_,rfl⟩,⟨rfl,rfl,rfl,rfl,lt_ok rfl⟩,⟨rfl,rfl,fun _ _=>rfl⟩,rfl,rfl,trivial⟩ trivial⟩,fun i hi=>?_⟩⟩,fun h1=>⟨fun _=>⟨[],stOf [(4,.rs 2 TR.length (fun i=>cellsQ (qL TR i))),(5,.val (.int .i64 (okW OK)))] [] 0 [],Weak.of (by simp) trivial ⟨⟨rfl,b0 (f1 h1)⟩,b1 (f1 h1),trivial⟩ trivial,rfl,rfl⟩,fun h=>nomatch h⟩⟩
  obtain⟨⟨hk1,hk2⟩,him⟩:(OK=true∧okMap n (pts g) m q=true)∧i≤m:=hi
  with_unfolding_all refine⟨fun h1=>?_,fun h1=>?_⟩
  ·have h1:(i:Int) < m:=ltT h1
   have ei:(i:Int).toNat=i:=Int.toNat_natCast i
   have him:i+1≤m:=by omega
   have hμ : m - (i+1) < m - i:=by omega
   have hok:=hk2
   unfold okMap at hok
   rw [Bool.and_eq_true,Bool.and_eq_true] at hok
   have hn1:n≤1000:=of_decide_eq_true hok.1.1
   have hmm:=links_le hok.2
   have hnn:n*n≤1000*1000:=Nat.mul_le_mul hn1 hn1
   have hl:=links_at hok.2 (show i < m by omega)
   have hl1:0≤(q (i:Int).toNat).1∧(q (i:Int).toNat).1 < n:=by rw [ei];omega
   have hl2:0≤(q (i:Int).toNat).2∧(q (i:Int).toNat).2 < n:=by rw [ei];omega
   have htl:=tgtL_le T q i
   have wi:PV.val (.int .i64 (IntKind.i64.wrap ((i:Int)+1)))=PV.val (.int .i64 ((i+1:Nat):Int)):=by
    rw [wrap64 (by omega) (by omega)]
    rfl
   have pR:isRg 10000 (regC lo hi k c l o):=⟨rfl,⟨hlo,hhi⟩,hcl',hol'⟩
   have hT':∀x y,tightE k c (pts g) x y=T x y:=fun x y=>by rw [hT]
   have tt:∀x y b,tightE k (fun i=>[.rs 6 (pn c i) (pg c i)]) (pts g) x y=b→T x y=b:=fun x y b h=>(hT' x y).symm.trans h
   have e3:T (q i).1 (q i).2=true→T (q i).2 (q i).1=true→tgtL T q (i+1)=tgtL T q i++[q i]:=fun h h'=>by rw [tgtL,h,h'];rfl
   have e4:(T (q i).1 (q i).2&&T (q i).2 (q i).1)=false→tgtL T q (i+1)=tgtL T q i:=fun h=>by rw [tgtL,h];exact List.append_nil _
   have hn0:(T (q (i:Int).toNat).1 (q (i:Int).toNat).2&&T (q (i:Int).toNat).2 (q (i:Int).toNat).1)=false→(tgtL T q (i+1)).length=(tgtL T q i).length:=fun h=>by
    rw [ei] at h
    rw [e4 h]
   have hr0:(T (q (i:Int).toNat).1 (q (i:Int).toNat).2&&T (q (i:Int).toNat).2 (q (i:Int).toNat).1)=false→∀j,j < (tgtL T q i).length→cellsQ (qL (tgtL T q (i+1)) j)=cellsQ (qL (tgtL T q i) j):=fun h=>by
    rw [ei] at h
    rw [e4 h]
    exact fun _ _=>rfl
   have hnA:T (q (i:Int).toNat).1 (q (i:Int).toNat).2=true→T (q (i:Int).toNat).2 (q (i:Int).toNat).1=true→(tgtL T q (i+1)).length=(tgtL T q i).length+1:=fun h h'=>by
    rw [ei] at h h'
    rw [e3 h h',List.length_append]
    rfl
   have hr1:T (q (i:Int).toNat).1 (q (i:Int).toNat).2=true→T (q (i:Int).toNat).2 (q (i:Int).toNat).1=true→∀r:Nat→List PV,r 0=cellsQ (q (i:Int).toNat)→∀j,j < (tgtL T q i).length+1→cellsQ (qL (tgtL T q (i+1)) j)=apd (tgtL T q i).length (fun j=>cellsQ (qL (tgtL T q i) j)) r j:=fun h h' r hr=>by
    rw [ei] at h h' hr
    rw [e3 h h']
    exact apd_q hr
   have k1:((tgtL T q i).length+1)*16≤140737488355328:=by omega
   have k2:(tgtL T q i).length+1≤9223372036854775807:=by omega
   have n1:∀x y:Bool,y=false→(x&&y)=false:=fun x y h=>by rw [h,Bool.and_false]
   have n2:∀x y:Bool,x=false→(x&&y)=false:=fun x y h=>by rw [h];rfl
   with_unfolding_all exact⟨⟨Int.natCast_nonneg i,h1⟩,⟨pR,hg,hl1,hl2⟩,fun h2=>⟨⟨pR,hg,hl2,hl1⟩,fun h3=>⟨⟨rfl,k1,k2⟩,⟨i+1,[some 0,some 1,some 2],⟨⟨hk1,hk2⟩,him⟩,hμ,Weak.of (by simp) ⟨⟨lt_ok rfl,rfl,rfl,rfl,rfl,rfl,⟨rfl,rfl⟩,⟨rfl,rfl⟩,⟨rfl,rfl⟩,⟨rfl,rfl⟩,⟨rfl,rfl⟩,⟨rfl,rfl⟩,⟨rfl,rfl⟩,⟨rfl,rfl⟩,⟨rfl,rfl⟩,⟨rfl,rfl⟩,⟨rfl,rfl⟩,⟨rfl,rfl⟩,⟨⟨rfl,rfl,fun _ _=>rfl⟩,rfl⟩,⟨⟨rfl,rfl,fun _ _=>rfl⟩,rfl⟩,trivial⟩,⟨lt_ok rfl,rfl,rfl,rfl,rfl,rfl,⟨⟨rfl,rfl,fun _ _=>rfl⟩,rfl⟩,⟨⟨rfl,rfl,fun _ _=>rfl⟩,rfl⟩,trivial⟩,⟨lt_ok rfl,rfl,rfl,rfl,rfl,(hnA (tt _ _ _ h2) (tt _ _ _ h3)),hr1 (tt _ _ _ h2) (tt _ _ _ h3) _ rfl⟩,trivial⟩ ⟨⟨rfl,rfl,rfl,lt_ok rfl,_,rfl⟩,⟨rfl,rfl,rfl,lt_ok rfl,_,rfl⟩,⟨rfl,rfl,(hnA (tt _ _ _ h2) (tt _ _ _ h3)).symm,lt_ok rfl,_,rfl⟩,⟨rfl,rfl,fun _ _=>rfl⟩,rfl,wi,trivial⟩ trivial⟩⟩,fun h3=>⟨i+1,[some 0,some 1,some 2],⟨⟨hk1,hk2⟩,him⟩,hμ,Weak.of (by simp) ⟨⟨lt_ok rfl,rfl,rfl,rfl,rfl,rfl,⟨rfl,rfl⟩,⟨rfl,rfl⟩,⟨rfl,rfl⟩,⟨rfl,rfl⟩,⟨rfl,rfl⟩,⟨rfl,rfl⟩,⟨rfl,rfl⟩,⟨rfl,rfl⟩,⟨rfl,rfl⟩,⟨rfl,rfl⟩,⟨rfl,rfl⟩,⟨rfl,rfl⟩,⟨⟨rfl,rfl,fun _ _=>rfl⟩,rfl⟩,⟨⟨rfl,rfl,fun _ _=>rfl⟩,rfl⟩,trivial⟩,⟨lt_ok rfl,rfl,rfl,rfl,rfl,rfl,⟨⟨rfl,rfl,fun _ _=>rfl⟩,rfl⟩,⟨⟨rfl,rfl,fun _ _=>rfl⟩,rfl⟩,trivial⟩,⟨lt_ok rfl,rfl,rfl,rfl,rfl,(hn0 (n1 _ _ (tt _ _ _ h3))),hr0 (n1 _ _ (tt _ _ _ h3))⟩,trivial⟩ ⟨⟨rfl,rfl,rfl,lt_ok rfl,_,rfl⟩,⟨rfl,rfl,rfl,lt_ok rfl,_,rfl⟩,⟨rfl,rfl,(hn0 (n1 _ _ (tt _ _ _ h3))).symm,lt_ok rfl,_,rfl⟩,⟨rfl,rfl,fun _ _=>rfl⟩,rfl,wi,trivial⟩ trivial⟩⟩,fun h2=>⟨fun h=>(nomatch h),fun _=>⟨i+1,[some 0,some 1,some 2],⟨⟨hk1,hk2⟩,him⟩,hμ,Weak.of (by simp) ⟨⟨lt_ok rfl,rfl,rfl,rfl,rfl,rfl,⟨rfl,rfl⟩,⟨rfl,rfl⟩,⟨rfl,rfl⟩,⟨rfl,rfl⟩,⟨rfl,rfl⟩,⟨rfl,rfl⟩,⟨rfl,rfl⟩,⟨rfl,rfl⟩,⟨rfl,rfl⟩,⟨rfl,rfl⟩,⟨rfl,rfl⟩,⟨rfl,rfl⟩,⟨⟨rfl,rfl,fun _ _=>rfl⟩,rfl⟩,⟨⟨rfl,rfl,fun _ _=>rfl⟩,rfl⟩,trivial⟩,⟨lt_ok rfl,rfl,rfl,rfl,rfl,rfl,⟨⟨rfl,rfl,fun _ _=>rfl⟩,rfl⟩,⟨⟨rfl,rfl,fun _ _=>rfl⟩,rfl⟩,trivial⟩,⟨lt_ok rfl,rfl,rfl,rfl,rfl,(hn0 (n2 _ _ (tt _ _ _ h2))),hr0 (n2 _ _ (tt _ _ _ h2))⟩,trivial⟩ ⟨⟨rfl,rfl,rfl,lt_ok rfl,_,rfl⟩,⟨rfl,rfl,rfl,lt_ok rfl,_,rfl⟩,⟨rfl,rfl,(hn0 (n2 _ _ (tt _ _ _ h2))).symm,lt_ok rfl,_,rfl⟩,⟨rfl,rfl,fun _ _=>rfl⟩,rfl,wi,trivial⟩ trivial⟩⟩⟩
  ·have h1:(m:Int)≤i:=ltF h1
   have h3:tgtL T q i=TR:=by
    rw [show i=m by omega,e1,hk1]
    rfl
   have v2:PV.val (.int .i64 0)=PV.val (.int .i64 (okW OK)):=by rw [hk1];rfl
   have v3:∀j,j < TR.length→cellsQ (qL TR j)=cellsQ (qL (tgtL T q i) (0+j)):=fun j _=>by rw [h3,Nat.zero_add]
   with_unfolding_all exact⟨[],stOf [(4,.rs 2 TR.length (fun i=>cellsQ (qL TR i))),(5,.val (.int .i64 (okW OK)))] [] 0 [],Weak.of (by simp) trivial ⟨⟨by simp,_,rfl,rfl,rfl,congrArg List.length h3,v3⟩,v2,trivial⟩ trivial,rfl,rfl⟩
 ·cases e
end Go.Proofs
namespace Go.Num
open Go Go.Ex Go.Proofs
def keepL (p q:PtS) (C:Nat→PtS):Nat→List PtS
 |0=>[p,q]
 |j+1=>keepL p q C j++(bif !eqP (C j) p&&!eqP (C j) q then [C j] else [])
def lnkJ (S:PtS→PtS→Bool) (P:Nat→PtS) (i:Nat):Nat→List (Int×Int)
 |0=>[]
 |d+1=>lnkJ S P i d++(bif S (P i) (P (i+1+d)) then [((i:Int),((i+1+d:Nat):Int))] else [])
def lnkI (S:PtS→PtS→Bool) (P:Nat→PtS) (n:Nat):Nat→List (Int×Int)
 |0=>[]
 |i+1=>lnkI S P n i++lnkJ S P i (n - (i+1))
theorem apd_p {L:List PtS} {x:PtS} {r:Nat→List PV} (h:r 0=x.cells):∀i,i < L.length+1→(vertP (L++[x]) i).cells=apd L.length (fun i=>(vertP L i).cells) r i:=fun i hi=>by
 unfold apd vertP
 by_cases hl:i < L.length
 ·rw [if_pos hl,List.getElem?_append_left hl]
 ·obtain rfl:i=L.length:=by omega
  rw [if_neg hl,Nat.sub_self,h]
  simp
theorem keepL_le (p q:PtS) (C:Nat→PtS):∀j,2≤(keepL p q C j).length∧(keepL p q C j).length≤j+2
 |0=>⟨Nat.le_refl _,Nat.le_refl _⟩
 |j+1=>by
  have:=keepL_le p q C j
  unfold keepL
  rw [List.length_append]
  cases (!eqP (C j) p&&!eqP (C j) q)<;>simp<;>omega
theorem keepL_all {p q:PtS} {C:Nat→PtS} (hp:p.le 10000) (hq:q.le 10000):∀{j:Nat},(∀i,i < j→(C i).le 10000)→∀x∈keepL p q C j,x.le 10000
 |0,_,x,hx=>by
  rcases List.mem_cons.1 hx with rfl|hx
  ·exact hp
  ·rw [List.mem_singleton.1 hx]
   exact hq
 |j+1,hC,x,hx=>by
  unfold keepL at hx
  rcases List.mem_append.1 hx with hx|hx
  ·exact keepL_all hp hq (fun i hi=>hC i (by omega)) x hx
  ·cases hb:(!eqP (C j) p&&!eqP (C j) q) with
   |true =>
    rw [hb] at hx
    rw [List.mem_singleton.1 hx]
    exact hC j (by omega)
   |false=>rw [hb] at hx;cases hx
theorem lnkJ_le (S:PtS→PtS→Bool) (P:Nat→PtS) (i:Nat):∀d,(lnkJ S P i d).length≤d
 |0=>Nat.le_refl _
 |d+1=>by
  have:=lnkJ_le S P i d
  unfold lnkJ
  rw [List.length_append]
  cases S (P i) (P (i+1+d))<;>simp<;>omega
theorem lnkI_le (S:PtS→PtS→Bool) (P:Nat→PtS) (n:Nat):∀i,(lnkI S P n i).length≤i*n
 |0=>Nat.zero_le _
 |i+1=>by
  have:=lnkI_le S P n i
  have h2:=lnkJ_le S P i (n - (i+1))
  unfold lnkI
  rw [List.length_append,Nat.succ_mul]
  omega
def bErr (lo hi:PtS) (k:Nat) (c:Nat→List PV) (l:Nat) (o:Nat→List PV) (p q:PtS):Int:=bif okB lo hi k c l o (segV p q) then bif seeB lo hi k c l o p p&&seeB lo hi k c l o q q then bif eqP p q then 12 else 0 else 16 else 1
def bPts (lo hi:PtS) (k:Nat) (c:Nat→List PV) (l:Nat) (o:Nat→List PV) (p q:PtS):List PtS:=bif bErr lo hi k c l o p q==0 then keepL p q (cornP lo hi k c l o) (vertC lo hi k c l o).length else []
def bLks (lo hi:PtS) (k:Nat) (c:Nat→List PV) (l:Nat) (o:Nat→List PV) (p q:PtS):List (Int×Int):=lnkI (seeB lo hi k c l o) (vertP (bPts lo hi k c l o p q)) (bPts lo hi k c l o p q).length (bPts lo hi k c l o p q).length
end Go.Num
namespace Go.Proofs
open Go Go.Ex Go.Num
set_option maxRecDepth 100000
def c14:List PV→Option Ans
 |[.agg xs,.val v,.val u]=>some ⟨some ((isRg 10000 xs∧isPk 10000 v∧isPk 10000 u)∧(vertC (gLo xs) (gHi xs) (gK xs) (gC xs) (gL xs) (gO xs)).length≤12∧∀i,i+1 < (vertC (gLo xs) (gHi xs) (gK xs) (gC xs) (gL xs) (gO xs)).length→eqP (cornP (gLo xs) (gHi xs) (gK xs) (gC xs) (gL xs) (gO xs) (i+1)) (cornP (gLo xs) (gHi xs) (gK xs) (gC xs) (gL xs) (gO xs) i)=false),
  .tup [.agg [.rs 6 (bPts (gLo xs) (gHi xs) (gK xs) (gC xs) (gL xs) (gO xs) (rdV v) (rdV u)).length (fun i=>(vertP (bPts (gLo xs) (gHi xs) (gK xs) (gC xs) (gL xs) (gO xs) (rdV v) (rdV u)) i).cells),.rs 2 (bLks (gLo xs) (gHi xs) (gK xs) (gC xs) (gL xs) (gO xs) (rdV v) (rdV u)).length (fun i=>cellsQ (qL (bLks (gLo xs) (gHi xs) (gK xs) (gC xs) (gL xs) (gO xs) (rdV v) (rdV u)) i))],.val (.int .i64 (bErr (gLo xs) (gHi xs) (gK xs) (gC xs) (gL xs) (gO xs) (rdV v) (rdV u)))],[]⟩
 |_=>none
def D14:Opt:={ perm:=atR 21 (rds 7) }
theorem ok14:funcOk D14.toOrd Tryz.f14 3=true:=by kernel_rfl
theorem f14:FnOk Tryz.prog 14 c14:=by
 refine FnOk.ofW orders (mkE_ok (l:=[(55,c55),(56,c56),(57,c57)]) (own:=[]) (inl:=[]) (by simp [f55,f56,f57]) (by simp)) Tryz.func14 D14 3 ok14 fun args r e=>?_
 unfold c14 at e
 split at e
 ·rename_i xs v u
  cases e
  refine⟨by simp,fun hm=>?_⟩
  obtain⟨⟨⟨h1,⟨hlo,hhi⟩,hcl,hol⟩,⟨a,rfl,ha⟩,b,rfl,hb⟩,hN,hne⟩:=hm _ rfl
  generalize gLo xs=lo at *
  generalize gHi xs=hi at *
  generalize gK xs=k at *
  generalize gC xs=c at *
  generalize gL xs=l at *
  generalize gO xs=o at *
  subst h1
  clear hm
  refine⟨[],stOf [(0,.agg (regC lo hi k c l o)),(1,.val a.v),(2,.val b.v)] [] 0 [],Weak.of (by simp) trivial ⟨⟨rfl,rfl,rfl,rfl,rfl,rfl,rfl,rfl,rfl,rfl,rfl,rfl,⟨rfl,rfl,fun _ _=>rfl⟩,⟨rfl,rfl,fun _ _=>rfl⟩,trivial⟩,rfl,rfl,trivial⟩ trivial,?_⟩
  have ha':=ha.mono (show 10000≤4294967296 by decide)
  have hb':=hb.mono (show 10000≤4294967296 by decide)
  have hcl':isCL 10000 k (fun i=>[.rs 6 (pn c i) (pg c i)]):=⟨fun i hi=>⟨rfl,(hcl.1 i hi).2⟩,hcl.2⟩
  have hol':isOL l (fun i=>cellsO (ow o i)):=⟨fun _ _=>rfl,hol.2⟩
  have hrg':((lo.le 4294967296∧hi.le 4294967296)∧isCL 10000 k (fun i=>[.rs 6 (pn c i) (pg c i)])∧isOL l (fun i=>cellsO (ow o i))):=⟨⟨hlo.mono (by decide),hhi.mono (by decide)⟩,hcl',hol'⟩
  have hrg3:((lo.le 10000∧hi.le 10000)∧isCL 10000 k (fun i=>[.rs 6 (pn c i) (pg c i)])∧isOL l (fun i=>cellsO (ow o i))):=⟨⟨hlo,hhi⟩,hcl',hol'⟩
  obtain⟨OK,hOK⟩:∃OK,OK=okB lo hi k c l o (segV a b):=⟨_,rfl⟩
  obtain⟨S,hS⟩:∃S,S=seeB lo hi k c l o:=⟨_,rfl⟩
  have hSN:seeB lo hi k (fun i=>[.rs 6 (pn c i) (pg c i)]) l (fun i=>cellsO (ow o i))=S:=by
   rw [hS]
   rfl
  obtain⟨C,hC⟩:∃C,C=cornP lo hi k c l o:=⟨_,rfl⟩
  have hCN:cornP lo hi k (fun i=>[.rs 6 (pn c i) (pg c i)]) l (fun i=>cellsO (ow o i))=C:=by
   rw [hC]
   rfl
  obtain⟨N,hNN⟩:∃N,N=(vertC lo hi k c l o).length:=⟨_,rfl⟩
  have hNNN:(vertC lo hi k (fun i=>[.rs 6 (pn c i) (pg c i)]) l (fun i=>cellsO (ow o i))).length=N:=by
   rw [hNN]
   rfl
  obtain⟨BE,hBE⟩:∃BE,BE=bErr lo hi k c l o a b:=⟨_,rfl⟩
  obtain⟨BP,hBP⟩:∃BP,BP=bPts lo hi k c l o a b:=⟨_,rfl⟩
  obtain⟨BL,hBL⟩:∃BL,BL=bLks lo hi k c l o a b:=⟨_,rfl⟩
  show vcW _ _ _ _ _ ⟨_,.tup [.agg [.rs 6 (bPts lo hi k c l o a b).length (fun i=>(vertP (bPts lo hi k c l o a b) i).cells),.rs 2 (bLks lo hi k c l o a b).length (fun i=>cellsQ (qL (bLks lo hi k c l o a b) i))],.val (.int .i64 (bErr lo hi k c l o a b))],[]⟩
  rw [←hBE,←hBP,←hBL]
  have e0:BE=bif OK then bif S a a&&S b b then bif eqP a b then 12 else 0 else 16 else 1:=by rw [hBE,bErr,←hOK,←hS]
  have e1:BP=bif BE==0 then keepL a b C N else []:=by rw [hBP,bPts,←hBE,←hC,←hNN]
  have e2:BL=lnkI S (vertP BP) BP.length BP.length:=by rw [hBL,bLks,←hBP,←hS]
  rw [←hNN] at hN
  rw [←hNN,←hC] at hne
  have cn:∀r:Nat→List PV,pts r 0=a→pts r 1=b→anyP (fun i=>!canonP (pts r i)) 2=(!canonP a||!canonP b):=fun r h h'=>by
   have e:List.range 2=[0,1]:=rfl
   simp only [anyP,e,List.any_cons,List.any_nil,Bool.or_false,h,h']
  have p2:∀r:Nat→List PV,r 0=a.cells→r 1=b.cells→isPL 4294967296 2 r:=fun r h h'=>⟨fun i hi=>by
   match i,hi with
   |0,_=>exact⟨by rw [pts,h];rfl,by rw [pts,h];exact ha'⟩
   |1,_=>exact⟨by rw [pts,h'];rfl,by rw [pts,h'];exact hb'⟩
   |i+2,h=>omega,by decide⟩
  have q1:∀r:Nat→List PV,pts r 0=a→pts r 1=b→((regE lo hi k (pn (fun i=>[.rs 6 (pn c i) (pg c i)])) (fun i=>pts (pg (fun i=>[.rs 6 (pn c i) (pg c i)]) i)) l (ow (fun i=>cellsO (ow o i)))==0)&&!anyP (fun i=>!canonP (pts r i)) 2)=OK:=fun r h h'=>by
   rw [cn r h h',hOK,Bool.and_comm]
   rfl
  have z:∀B:Bool,(okW B != 0)=true→B=false:=fun B h=>by cases B<;>first|rfl|cases h
  have z':∀B:Bool,(okW B != 0)=false→B=true:=fun B h=>by cases B<;>first|rfl|cases h
  have bad:BE≠0→BP.length=0∧BL.length=0:=fun h=>by
   have h0:(BE==0)=false:=by simpa using h
   have h1:BP=[]:=by rw [e1,h0];rfl
   exact⟨by rw [h1];rfl,by rw [e2,h1];rfl⟩
  have sA:∀B,B=S→∀x y,B x y=S x y:=fun B h x y=>by rw [h]
  have neq:∀B:Bool,(!B)=true→B=false:=fun B h=>by simpa using h
  have neq':∀B:Bool,(!B)=false→B=true:=fun B h=>by simpa using h
  have h57:(((lo.le 10000∧hi.le 10000)∧isCL 10000 k (fun i=>[.rs 6 (pn c i) (pg c i)])∧isOL l (fun i=>cellsO (ow o i)))∧(vertC lo hi k (fun i=>[.rs 6 (pn c i) (pg c i)]) l (fun i=>cellsO (ow o i))).length≤12)∧∀i,i+1 < (vertC lo hi k (fun i=>[.rs 6 (pn c i) (pg c i)]) l (fun i=>cellsO (ow o i))).length→eqP (cornP lo hi k (fun i=>[.rs 6 (pn c i) (pg c i)]) l (fun i=>cellsO (ow o i)) (i+1)) (cornP lo hi k (fun i=>[.rs 6 (pn c i) (pg c i)]) l (fun i=>cellsO (ow o i)) i)=false:=by
   rw [hNNN,hCN]
   exact⟨⟨hrg3,hN⟩,hne⟩
  have hrow:∀i,i < N→(C i).cells=(cornP lo hi k (fun i=>[.rs 6 (pn c i) (pg c i)]) l (fun i=>cellsO (ow o i)) i).cells:=fun i _=>by rw [hCN]
  have hlen:PV.val (.int .i64 ((vertC lo hi k (fun i=>[.rs 6 (pn c i) (pg c i)]) l (fun i=>cellsO (ow o i))).length:Int))=PV.val (goInt N):=by
   rw [hNNN]
   rfl
  have r0:∀r:Nat→List PV,r 0=a.cells→r 1=b.cells→∀i,i < 2→(vertP (keepL a b C 0) i).cells=r i:=fun r h h' i hi=>by
   match i,hi with
   |0,_=>exact h.symm
   |1,_=>exact h'.symm
  have hCle:∀i,i < N→(C i).le 10000:=by
   rw [hNN,hC]
   exact cornP_le hcl
  with_unfolding_all refine⟨⟨hrg',p2 _ rfl rfl⟩,fun h1=>?_,fun h1=>?_⟩
  ·have h2:OK=false:=(q1 _ rfl rfl).symm.trans (z _ h1)
   have hb1:BE=1:=by rw [e0,h2];rfl
   have hb0:BE≠0:=by rw [hb1];decide
   have v2:∀B,B=OK→PV.val (.int .i64 (okW B))=PV.val (.int .i64 BE):=fun B h=>by rw [h,h2,hb1];rfl
   with_unfolding_all exact⟨[some 3],stOf [(6,.ptr 0 0 0 0),(7,.val (.int .i64 BE))] [⟨37,2,0,true,false,1,fun _=>[.rs 6 BP.length (fun i=>(vertP BP i).cells),.rs 2 BL.length (fun i=>cellsQ (qL BL i))]⟩] 1 [],Weak.of (by simp) ⟨⟨lt_ok rfl,rfl,rfl,rfl,rfl,rfl,⟨⟨rfl,(bad hb0).1⟩,rfl⟩,⟨⟨rfl,(bad hb0).2⟩,rfl⟩,trivial⟩,trivial⟩ ⟨⟨rfl,rfl,rfl,lt_ok rfl,_,rfl⟩,v2 _ (q1 _ rfl rfl),trivial⟩ trivial,rfl,rfl⟩
  ·have hk:OK=true:=(q1 _ rfl rfl).symm.trans (z' _ h1)
   have b16:S a a=false∨S b b=false→BE=16:=fun h=>by
    rw [e0,hk]
    rcases h with h|h
    ·rw [h];rfl
    ·rw [h,Bool.and_false];rfl
   have b12:S a a=true→S b b=true→eqP a b=true→BE=12:=fun h h' h2=>by rw [e0,hk,h,h',h2];rfl
   have n16:BE=16→BE≠0:=fun h=>by rw [h];decide
   have n12:BE=12→BE≠0:=fun h=>by rw [h];decide
   have v16:BE=16→PV.val (.int .i64 16)=PV.val (.int .i64 BE):=fun h=>by rw [h]
   have v12:BE=12→PV.val (.int .i64 12)=PV.val (.int .i64 BE):=fun h=>by rw [h]
   have fs:∀x,(!seeB lo hi k (fun i=>[.rs 6 (pn c i) (pg c i)]) l (fun i=>cellsO (ow o i)) x x)=true→S x x=false:=fun x h=>by rw [←hSN];exact neq _ h
   have ft:∀x,(!seeB lo hi k (fun i=>[.rs 6 (pn c i) (pg c i)]) l (fun i=>cellsO (ow o i)) x x)=false→S x x=true:=fun x h=>by rw [←hSN];exact neq' _ h
   with_unfolding_all refine⟨⟨hrg3,⟨a,rfl,ha⟩,a,rfl,ha⟩,fun h2=>⟨⟨hrg3,⟨b,rfl,hb⟩,b,rfl,hb⟩,fun h3=>⟨[some 3],stOf [(6,.ptr 0 0 0 0),(7,.val (.int .i64 BE))] [⟨37,2,0,true,false,1,fun _=>[.rs 6 BP.length (fun i=>(vertP BP i).cells),.rs 2 BL.length (fun i=>cellsQ (qL BL i))]⟩] 1 [],Weak.of (by simp) ⟨⟨lt_ok rfl,rfl,rfl,rfl,rfl,rfl,⟨⟨rfl,(bad (n16 (b16 (.inr (fs b h3))))).1⟩,rfl⟩,⟨⟨rfl,(bad (n16 (b16 (.inr (fs b h3))))).2⟩,rfl⟩,trivial⟩,trivial⟩ ⟨⟨rfl,rfl,rfl,lt_ok rfl,_,rfl⟩,v16 (b16 (.inr (fs b h3))),trivial⟩ trivial,rfl,rfl⟩,fun h3=>⟨fun h4=>⟨[some 3],stOf [(6,.ptr 0 0 0 0),(7,.val (.int .i64 BE))] [⟨37,2,0,true,false,1,fun _=>[.rs 6 BP.length (fun i=>(vertP BP i).cells),.rs 2 BL.length (fun i=>cellsQ (qL BL i))]⟩] 1 [],Weak.of (by simp) ⟨⟨lt_ok rfl,rfl,rfl,rfl,rfl,rfl,⟨⟨rfl,(bad (n12 (b12 (ft a h2) (ft b h3) h4))).1⟩,rfl⟩,⟨⟨rfl,(bad (n12 (b12 (ft a h2) (ft b h3) h4))).2⟩,rfl⟩,trivial⟩,trivial⟩ ⟨⟨rfl,rfl,rfl,lt_ok rfl,_,rfl⟩,v12 (b12 (ft a h2) (ft b h3) h4),trivial⟩ trivial,rfl,rfl⟩,fun h4=>⟨h57,Nat,fun j=>(OK=true∧S a a=true∧S b b=true∧eqP a b=false)∧j≤N,fun j=>stOf [(3,.ptr 0 0 0 0),(4,.ptr 1 1 0 0),(5,.ptr 2 2 0 0),(6,.ptr 3 3 0 0),(9,.ptr 4 4 0 0),(46,.rs 6 N (fun i=>(C i).cells)),(47,.val (goInt N)),(48,.val (goInt j))] [⟨31,14,0,true,false,1,fun _=>regC lo hi k c l o⟩,⟨25,6,1,true,false,1,fun _=>a.cells⟩,⟨25,6,2,true,false,1,fun _=>b.cells⟩,⟨37,2,3,true,false,1,fun _=>[.val (.slice none 0 0),.val (.slice none 0 0)]⟩,⟨37,2,4,true,false,1,fun _=>[.sl 5 5 0 (keepL a b C j).length,.val (.slice none 0 0)]⟩,⟨25,6,5,false,false,(keepL a b C j).length,fun i=>(vertP (keepL a b C j) i).cells⟩] 6 [],fun j=>N - j,⟨0,[some 0,some 1,some 2,some 3,some 6,some 5],⟨⟨hk,ft a h2,ft b h3,h4⟩,Nat.zero_le _⟩,Weak.of (by simp) ⟨⟨lt_ok rfl,rfl,rfl,rfl,rfl,rfl,⟨rfl,rfl⟩,⟨rfl,rfl⟩,⟨rfl,rfl⟩,⟨rfl,rfl⟩,⟨rfl,rfl⟩,⟨rfl,rfl⟩,⟨rfl,rfl⟩,⟨rfl,rfl⟩,⟨rfl,rfl⟩,⟨rfl,rfl⟩,⟨rfl,rfl⟩,⟨rfl,rfl⟩,⟨⟨rfl,rfl,fun _ _=>rfl⟩,rfl⟩,⟨⟨rfl,rfl,fun _ _=>rfl⟩,rfl⟩,trivial⟩,⟨lt_ok rfl,rfl,rfl,rfl,rfl,rfl,⟨rfl,rfl⟩,⟨rfl,rfl⟩,⟨rfl,rfl⟩,⟨rfl,rfl⟩,⟨rfl,rfl⟩,⟨rfl,rfl⟩,trivial⟩,⟨lt_ok rfl,rfl,rfl,rfl,rfl,rfl,⟨rfl,rfl⟩,⟨rfl,rfl⟩,⟨rfl,rfl⟩,⟨rfl,rfl⟩,⟨rfl,rfl⟩,⟨rfl,rfl⟩,trivial⟩,⟨lt_ok rfl,rfl,rfl,rfl,rfl,rfl,⟨rfl,rfl⟩,⟨rfl,rfl⟩,trivial⟩,⟨lt_ok rfl,rfl,rfl,rfl,rfl,rfl,⟨⟨rfl,rfl,rfl,lt_ok rfl,_,rfl⟩,rfl⟩,⟨rfl,rfl⟩,trivial⟩,⟨lt_ok rfl,rfl,rfl,rfl,rfl,rfl,r0 _ rfl rfl⟩,trivial⟩ ⟨⟨rfl,rfl,rfl,lt_ok rfl,_,rfl⟩,⟨rfl,rfl,rfl,lt_ok rfl,_,rfl⟩,⟨rfl,rfl,rfl,lt_ok rfl,_,rfl⟩,⟨rfl,rfl,rfl,lt_ok rfl,_,rfl⟩,⟨rfl,rfl,rfl,lt_ok rfl,_,rfl⟩,⟨rfl,hNNN,hrow⟩,hlen,rfl,trivial⟩ trivial⟩,fun j hj=>?_⟩⟩⟩,fun h2=>⟨fun _=>⟨[some 3],stOf [(6,.ptr 0 0 0 0),(7,.val (.int .i64 BE))] [⟨37,2,0,true,false,1,fun _=>[.rs 6 BP.length (fun i=>(vertP BP i).cells),.rs 2 BL.length (fun i=>cellsQ (qL BL i))]⟩] 1 [],Weak.of (by simp) ⟨⟨lt_ok rfl,rfl,rfl,rfl,rfl,rfl,⟨⟨rfl,(bad (n16 (b16 (.inl (fs a h2))))).1⟩,rfl⟩,⟨⟨rfl,(bad (n16 (b16 (.inl (fs a h2))))).2⟩,rfl⟩,trivial⟩,trivial⟩ ⟨⟨rfl,rfl,rfl,lt_ok rfl,_,rfl⟩,v16 (b16 (.inl (fs a h2))),trivial⟩ trivial,rfl,rfl⟩,fun h=>(nomatch h)⟩⟩
   obtain⟨⟨g1,g2,g3,g4⟩,hjN⟩:(OK=true∧S a a=true∧S b b=true∧eqP a b=false)∧j≤N:=hj
   with_unfolding_all refine⟨fun h1=>?_,fun h1=>?_⟩
   ·have h1:(j:Int) < N:=ltT h1
    have ej:(j:Int).toNat=j:=Int.toNat_natCast j
    have hjN1:j+1≤N:=by omega
    have hμ : N - (j+1) < N - j:=by omega
    have hkl:=keepL_le a b C j
    have wj:PV.val (.int .i64 (IntKind.i64.wrap ((j:Int)+1)))=PV.val (.int .i64 ((j+1:Nat):Int)):=by
     rw [wrap64 (by omega) (by omega)]
     rfl
    have e3:eqP (C j) a=false→eqP (C j) b=false→keepL a b C (j+1)=keepL a b C j++[C j]:=fun h h'=>by rw [keepL,h,h'];rfl
    have e4:(!eqP (C j) a&&!eqP (C j) b)=false→keepL a b C (j+1)=keepL a b C j:=fun h=>by rw [keepL,h];exact List.append_nil _
    have hn0:(!eqP (C (j:Int).toNat) a&&!eqP (C (j:Int).toNat) b)=false→(keepL a b C (j+1)).length=(keepL a b C j).length:=fun h=>by
     rw [ej] at h
     rw [e4 h]
    have hr0:(!eqP (C (j:Int).toNat) a&&!eqP (C (j:Int).toNat) b)=false→∀i,i < (keepL a b C j).length→(vertP (keepL a b C (j+1)) i).cells=(vertP (keepL a b C j) i).cells:=fun h=>by
     rw [ej] at h
     rw [e4 h]
     exact fun _ _=>rfl
    have hnA:eqP (C (j:Int).toNat) a=false→eqP (C (j:Int).toNat) b=false→(keepL a b C (j+1)).length=(keepL a b C j).length+1:=fun h h'=>by
     rw [ej] at h h'
     rw [e3 h h',List.length_append]
     rfl
    have hr1:eqP (C (j:Int).toNat) a=false→eqP (C (j:Int).toNat) b=false→∀r:Nat→List PV,r 0=(C (j:Int).toNat).cells→∀i,i < (keepL a b C j).length+1→(vertP (keepL a b C (j+1)) i).cells=apd (keepL a b C j).length (fun i=>(vertP (keepL a b C j) i).cells) r i:=fun h h' r hr=>by
     rw [ej] at h h' hr
     rw [e3 h h']
     exact apd_p hr
    have k1:((keepL a b C j).length+1)*80≤140737488355328:=by omega
    have k2:(keepL a b C j).length+1≤9223372036854775807:=by omega
    have n1:∀x y:Bool,(!y)=false→(!x&&!y)=false:=fun x y h=>by rw [h,Bool.and_false]
    have n2:∀x y:Bool,(!x)=false→(!x&&!y)=false:=fun x y h=>by rw [h];rfl
    with_unfolding_all exact⟨⟨Int.natCast_nonneg j,h1⟩,fun h2=>⟨fun h3=>⟨⟨rfl,k1,k2⟩,⟨j+1,[some 0,some 1,some 2,some 3,some 4,some 5],⟨⟨g1,g2,g3,g4⟩,hjN1⟩,hμ,Weak.of (by simp) ⟨⟨lt_ok rfl,rfl,rfl,rfl,rfl,rfl,⟨rfl,rfl⟩,⟨rfl,rfl⟩,⟨rfl,rfl⟩,⟨rfl,rfl⟩,⟨rfl,rfl⟩,⟨rfl,rfl⟩,⟨rfl,rfl⟩,⟨rfl,rfl⟩,⟨rfl,rfl⟩,⟨rfl,rfl⟩,⟨rfl,rfl⟩,⟨rfl,rfl⟩,⟨⟨rfl,rfl,fun _ _=>rfl⟩,rfl⟩,⟨⟨rfl,rfl,fun _ _=>rfl⟩,rfl⟩,trivial⟩,⟨lt_ok rfl,rfl,rfl,rfl,rfl,rfl,⟨rfl,rfl⟩,⟨rfl,rfl⟩,⟨rfl,rfl⟩,⟨rfl,rfl⟩,⟨rfl,rfl⟩,⟨rfl,rfl⟩,trivial⟩,⟨lt_ok rfl,rfl,rfl,rfl,rfl,rfl,⟨rfl,rfl⟩,⟨rfl,rfl⟩,⟨rfl,rfl⟩,⟨rfl,rfl⟩,⟨rfl,rfl⟩,⟨rfl,rfl⟩,trivial⟩,⟨lt_ok rfl,rfl,rfl,rfl,rfl,rfl,⟨rfl,rfl⟩,⟨rfl,rfl⟩,trivial⟩,⟨lt_ok rfl,rfl,rfl,rfl,rfl,rfl,⟨⟨rfl,rfl,(hnA (neq _ h2) (neq _ h3)).symm,lt_ok rfl,_,rfl⟩,rfl⟩,⟨rfl,rfl⟩,trivial⟩,⟨lt_ok rfl,rfl,rfl,rfl,rfl,(hnA (neq _ h2) (neq _ h3)),hr1 (neq _ h2) (neq _ h3) _ rfl⟩,trivial⟩ ⟨⟨rfl,rfl,rfl,lt_ok rfl,_,rfl⟩,⟨rfl,rfl,rfl,lt_ok rfl,_,rfl⟩,⟨rfl,rfl,rfl,lt_ok rfl,_,rfl⟩,⟨rfl,rfl,rfl,lt_ok rfl,_,rfl⟩,⟨rfl,rfl,rfl,lt_ok rfl,_,rfl⟩,⟨rfl,rfl,fun _ _=>rfl⟩,rfl,wj,trivial⟩ trivial⟩⟩,fun h3=>⟨j+1,[some 0,some 1,some 2,some 3,some 4,some 5],⟨⟨g1,g2,g3,g4⟩,hjN1⟩,hμ,Weak.of (by simp) ⟨⟨lt_ok rfl,rfl,rfl,rfl,rfl,rfl,⟨rfl,rfl⟩,⟨rfl,rfl⟩,⟨rfl,rfl⟩,⟨rfl,rfl⟩,⟨rfl,rfl⟩,⟨rfl,rfl⟩,⟨rfl,rfl⟩,⟨rfl,rfl⟩,⟨rfl,rfl⟩,⟨rfl,rfl⟩,⟨rfl,rfl⟩,⟨rfl,rfl⟩,⟨⟨rfl,rfl,fun _ _=>rfl⟩,rfl⟩,⟨⟨rfl,rfl,fun _ _=>rfl⟩,rfl⟩,trivial⟩,⟨lt_ok rfl,rfl,rfl,rfl,rfl,rfl,⟨rfl,rfl⟩,⟨rfl,rfl⟩,⟨rfl,rfl⟩,⟨rfl,rfl⟩,⟨rfl,rfl⟩,⟨rfl,rfl⟩,trivial⟩,⟨lt_ok rfl,rfl,rfl,rfl,rfl,rfl,⟨rfl,rfl⟩,⟨rfl,rfl⟩,⟨rfl,rfl⟩,⟨rfl,rfl⟩,⟨rfl,rfl⟩,⟨rfl,rfl⟩,trivial⟩,⟨lt_ok rfl,rfl,rfl,rfl,rfl,rfl,⟨rfl,rfl⟩,⟨rfl,rfl⟩,trivial⟩,⟨lt_ok rfl,rfl,rfl,rfl,rfl,rfl,⟨⟨rfl,rfl,(hn0 (n1 _ _ h3)).symm,lt_ok rfl,_,rfl⟩,rfl⟩,⟨rfl,rfl⟩,trivial⟩,⟨lt_ok rfl,rfl,rfl,rfl,rfl,(hn0 (n1 _ _ h3)),hr0 (n1 _ _ h3)⟩,trivial⟩ ⟨⟨rfl,rfl,rfl,lt_ok rfl,_,rfl⟩,⟨rfl,rfl,rfl,lt_ok rfl,_,rfl⟩,⟨rfl,rfl,rfl,lt_ok rfl,_,rfl⟩,⟨rfl,rfl,rfl,lt_ok rfl,_,rfl⟩,⟨rfl,rfl,rfl,lt_ok rfl,_,rfl⟩,⟨rfl,rfl,fun _ _=>rfl⟩,rfl,wj,trivial⟩ trivial⟩⟩,fun h2=>⟨fun h=>(nomatch h),fun _=>⟨j+1,[some 0,some 1,some 2,some 3,some 4,some 5],⟨⟨g1,g2,g3,g4⟩,hjN1⟩,hμ,Weak.of (by simp) ⟨⟨lt_ok rfl,rfl,rfl,rfl,rfl,rfl,⟨rfl,rfl⟩,⟨rfl,rfl⟩,⟨rfl,rfl⟩,⟨rfl,rfl⟩,⟨rfl,rfl⟩,⟨rfl,rfl⟩,⟨rfl,rfl⟩,⟨rfl,rfl⟩,⟨rfl,rfl⟩,⟨rfl,rfl⟩,⟨rfl,rfl⟩,⟨rfl,rfl⟩,⟨⟨rfl,rfl,fun _ _=>rfl⟩,rfl⟩,⟨⟨rfl,rfl,fun _ _=>rfl⟩,rfl⟩,trivial⟩,⟨lt_ok rfl,rfl,rfl,rfl,rfl,rfl,⟨rfl,rfl⟩,⟨rfl,rfl⟩,⟨rfl,rfl⟩,⟨rfl,rfl⟩,⟨rfl,rfl⟩,⟨rfl,rfl⟩,trivial⟩,⟨lt_ok rfl,rfl,rfl,rfl,rfl,rfl,⟨rfl,rfl⟩,⟨rfl,rfl⟩,⟨rfl,rfl⟩,⟨rfl,rfl⟩,⟨rfl,rfl⟩,⟨rfl,rfl⟩,trivial⟩,⟨lt_ok rfl,rfl,rfl,rfl,rfl,rfl,⟨rfl,rfl⟩,⟨rfl,rfl⟩,trivial⟩,⟨lt_ok rfl,rfl,rfl,rfl,rfl,rfl,⟨⟨rfl,rfl,(hn0 (n2 _ _ h2)).symm,lt_ok rfl,_,rfl⟩,rfl⟩,⟨rfl,rfl⟩,trivial⟩,⟨lt_ok rfl,rfl,rfl,rfl,rfl,(hn0 (n2 _ _ h2)),hr0 (n2 _ _ h2)⟩,trivial⟩ ⟨⟨rfl,rfl,rfl,lt_ok rfl,_,rfl⟩,⟨rfl,rfl,rfl,lt_ok rfl,_,rfl⟩,⟨rfl,rfl,rfl,lt_ok rfl,_,rfl⟩,⟨rfl,rfl,rfl,lt_ok rfl,_,rfl⟩,⟨rfl,rfl,rfl,lt_ok rfl,_,rfl⟩,⟨rfl,rfl,fun _ _=>rfl⟩,rfl,wj,trivial⟩ trivial⟩⟩⟩
   ·have h1:(N:Int)≤j:=ltF h1
    have hb0:BE=0:=by rw [e0,g1,g2,g3,g4];rfl
    have hBPk:keepL a b C j=BP:=by
     rw [show j=N by omega,e1,hb0]
     rfl
    have hl3:(keepL a b C j).length=BP.length:=by rw [hBPk]
    have hr3:∀i,i < (keepL a b C j).length→(vertP BP i).cells=(vertP (keepL a b C j) i).cells:=fun i _=>by rw [hBPk]
    have v69:PV.val (.int .i64 (((keepL a b C j).length:Nat):Int))=PV.val (goInt BP.length):=by
     rw [hBPk]
     rfl
    have hBl:BP.length≤14:=by
     have:=keepL_le a b C j
     rw [←hBPk]
     omega
    have hBall:∀i,i < BP.length→(vertP BP i).le 10000:=fun i hi=>by
     unfold vertP
     rw [List.getElem?_eq_getElem hi]
     exact keepL_all (j:=j) ha hb (fun i hi=>hCle i (by omega)) _ (by rw [hBPk];exact List.getElem_mem hi)
    clear hBPk
    with_unfolding_all refine⟨Nat,fun i=>i≤BP.length,fun i=>stOf [(3,.ptr 0 0 0 0),(6,.ptr 1 1 0 0),(9,.ptr 2 2 0 0),(68,.sl 3 3 0 BP.length),(69,.val (goInt BP.length)),(70,.val (goInt i))] [⟨31,14,0,true,false,1,fun _=>regC lo hi k c l o⟩,⟨37,2,1,true,false,1,fun _=>[.val (.slice none 0 0),.val (.slice none 0 0)]⟩,⟨37,2,2,true,false,1,fun _=>[.sl 3 3 0 BP.length,.sl 4 4 0 (lnkI S (vertP BP) BP.length i).length]⟩,⟨25,6,3,false,false,BP.length,fun t=>(vertP BP t).cells⟩,⟨46,2,4,false,false,(lnkI S (vertP BP) BP.length i).length,fun t=>cellsQ (qL (lnkI S (vertP BP) BP.length i) t)⟩] 5 [],fun i=>BP.length - i,⟨0,[some 0,some 3,some 4,some 5,none],Nat.zero_le _,Weak.of (by simp) ⟨⟨lt_ok rfl,rfl,rfl,rfl,rfl,rfl,⟨rfl,rfl⟩,⟨rfl,rfl⟩,⟨rfl,rfl⟩,⟨rfl,rfl⟩,⟨rfl,rfl⟩,⟨rfl,rfl⟩,⟨rfl,rfl⟩,⟨rfl,rfl⟩,⟨rfl,rfl⟩,⟨rfl,rfl⟩,⟨rfl,rfl⟩,⟨rfl,rfl⟩,⟨⟨rfl,rfl,fun _ _=>rfl⟩,rfl⟩,⟨⟨rfl,rfl,fun _ _=>rfl⟩,rfl⟩,trivial⟩,⟨lt_ok rfl,rfl,rfl,rfl,rfl,rfl,⟨rfl,rfl⟩,⟨rfl,rfl⟩,trivial⟩,⟨lt_ok rfl,rfl,rfl,rfl,rfl,rfl,⟨⟨rfl,rfl,hl3,lt_ok rfl,_,rfl⟩,rfl⟩,⟨⟨rfl,rfl,rfl,rfl,lt_ok rfl⟩,rfl⟩,trivial⟩,⟨lt_ok rfl,rfl,rfl,rfl,rfl,hl3.symm,hr3⟩,⟨lt_ok rfl,rfl,rfl,rfl⟩,trivial⟩ ⟨⟨rfl,rfl,rfl,lt_ok rfl,_,rfl⟩,⟨rfl,rfl,rfl,lt_ok rfl,_,rfl⟩,⟨rfl,rfl,rfl,lt_ok rfl,_,rfl⟩,⟨rfl,rfl,hl3,lt_ok rfl,_,rfl⟩,v69,rfl,trivial⟩ trivial⟩,fun i hiB=>?_⟩
    replace hiB:i≤BP.length:=hiB
    with_unfolding_all refine⟨fun h1=>?_,fun h1=>?_⟩
    ·have h1:(i:Int) < BP.length:=ltT h1
     have ei:(i:Int).toNat=i:=Int.toNat_natCast i
     have hj0:(lnkI S (vertP BP) BP.length i++lnkJ S (vertP BP) i 0).length=(lnkI S (vertP BP) BP.length i).length:=by rw [lnkJ,List.append_nil]
     have hr0:∀t,t < (lnkI S (vertP BP) BP.length i).length→cellsQ (qL (lnkI S (vertP BP) BP.length i++lnkJ S (vertP BP) i 0) t)=cellsQ (qL (lnkI S (vertP BP) BP.length i) t):=fun t _=>by rw [lnkJ,List.append_nil]
     have w14:PV.val (.int .i64 (IntKind.i64.wrap ((i:Int)+1)))=PV.val (goInt (i+1+0)):=by
      rw [wrap64 (by omega) (by omega)]
      rfl
     have cx:∀x y:PtS,x=y→PV.val (.bool x.x.s)=PV.val (.bool y.x.s)∧PV.val (.string x.x.b)=PV.val (.string y.x.b)∧PV.val (.string x.x.c)=PV.val (.string y.x.c)∧PV.val (.bool x.y.s)=PV.val (.bool y.y.s)∧PV.val (.string x.y.b)=PV.val (.string y.y.b)∧PV.val (.string x.y.c)=PV.val (.string y.y.c):=fun x y h=>by rw [h];exact⟨rfl,rfl,rfl,rfl,rfl,rfl⟩
     have c6:=cx (vertP BP (0+(i:Int).toNat)) (vertP BP i) (by rw [Nat.zero_add,ei])
     with_unfolding_all refine⟨⟨Int.natCast_nonneg i,h1⟩,Nat,fun d=>i+1+d≤BP.length,fun d=>stOf [(3,.ptr 0 0 0 0),(6,.ptr 1 1 0 0),(9,.ptr 2 2 0 0),(12,.val (goInt i)),(13,.ptr 5 5 0 0),(14,.val (goInt (i+1+d))),(68,.sl 3 3 0 BP.length),(69,.val (goInt BP.length)),(70,.val (goInt i))] [⟨31,14,0,true,false,1,fun _=>regC lo hi k c l o⟩,⟨37,2,1,true,false,1,fun _=>[.val (.slice none 0 0),.val (.slice none 0 0)]⟩,⟨37,2,2,true,false,1,fun _=>[.sl 3 3 0 BP.length,.sl 4 4 0 (lnkI S (vertP BP) BP.length i++lnkJ S (vertP BP) i d).length]⟩,⟨25,6,3,false,false,BP.length,fun t=>(vertP BP t).cells⟩,⟨46,2,4,false,false,(lnkI S (vertP BP) BP.length i++lnkJ S (vertP BP) i d).length,fun t=>cellsQ (qL (lnkI S (vertP BP) BP.length i++lnkJ S (vertP BP) i d) t)⟩,⟨25,6,5,true,false,1,fun _=>(vertP BP i).cells⟩] 6 [],fun d=>BP.length - d,⟨0,[some 0,some 1,some 2,some 3,some 4,some 5],by show i+1+0≤BP.length;omega,Weak.of (by simp) ⟨⟨lt_ok rfl,rfl,rfl,rfl,rfl,rfl,⟨rfl,rfl⟩,⟨rfl,rfl⟩,⟨rfl,rfl⟩,⟨rfl,rfl⟩,⟨rfl,rfl⟩,⟨rfl,rfl⟩,⟨rfl,rfl⟩,⟨rfl,rfl⟩,⟨rfl,rfl⟩,⟨rfl,rfl⟩,⟨rfl,rfl⟩,⟨rfl,rfl⟩,⟨⟨rfl,rfl,fun _ _=>rfl⟩,rfl⟩,⟨⟨rfl,rfl,fun _ _=>rfl⟩,rfl⟩,trivial⟩,⟨lt_ok rfl,rfl,rfl,rfl,rfl,rfl,⟨rfl,rfl⟩,⟨rfl,rfl⟩,trivial⟩,⟨lt_ok rfl,rfl,rfl,rfl,rfl,rfl,⟨⟨rfl,rfl,rfl,lt_ok rfl,_,rfl⟩,rfl⟩,⟨⟨rfl,rfl,hj0.symm,lt_ok rfl,_,rfl⟩,rfl⟩,trivial⟩,⟨lt_ok rfl,rfl,rfl,rfl,rfl,rfl,fun _ _=>rfl⟩,⟨lt_ok rfl,rfl,rfl,rfl,rfl,hj0,hr0⟩,⟨lt_ok rfl,rfl,rfl,rfl,rfl,rfl,⟨c6.1,rfl⟩,⟨c6.2.1,rfl⟩,⟨c6.2.2.1,rfl⟩,⟨c6.2.2.2.1,rfl⟩,⟨c6.2.2.2.2.1,rfl⟩,⟨c6.2.2.2.2.2,rfl⟩,trivial⟩,trivial⟩ ⟨⟨rfl,rfl,rfl,lt_ok rfl,_,rfl⟩,⟨rfl,rfl,rfl,lt_ok rfl,_,rfl⟩,⟨rfl,rfl,rfl,lt_ok rfl,_,rfl⟩,rfl,⟨rfl,rfl,rfl,lt_ok rfl,_,rfl⟩,w14,⟨rfl,rfl,rfl,lt_ok rfl,_,rfl⟩,rfl,rfl,trivial⟩ trivial⟩,fun d hd=>?_⟩
     have hdB:i+1+d≤BP.length:=hd
     with_unfolding_all refine⟨fun h2=>?_,fun h2=>?_⟩
     ·have h2:(i:Int)+1+d < BP.length:=ltT h2
      have eT:0+((i:Int)+1+d).toNat=i+1+d:=by omega
      have hdB1:i+1+(d+1)≤BP.length:=by omega
      have hμd:BP.length - (d+1) < BP.length - d:=by omega
      have hbI:=lnkI_le S (vertP BP) BP.length i
      have hbJ:=lnkJ_le S (vertP BP) i d
      have hii:i*BP.length≤14*14:=Nat.mul_le_mul (by omega) hBl
      have hlj:(lnkI S (vertP BP) BP.length i++lnkJ S (vertP BP) i d).length≤14*14+14:=by
       rw [List.length_append]
       omega
      have wd:PV.val (.int .i64 (IntKind.i64.wrap ((i:Int)+1+d+1)))=PV.val (goInt ((i:Int)+1+((d+1:Nat):Int))):=by
       rw [wrap64 (by omega) (by omega)]
       exact congrArg (fun z=>PV.val (.int .i64 z)) (by omega)
      have hs:∀t b,t=i+1+d→seeB lo hi k (fun i=>[.rs 6 (pn c i) (pg c i)]) l (fun i=>cellsO (ow o i)) (vertP BP i) (vertP BP t)=b→S (vertP BP i) (vertP BP (i+1+d))=b:=fun t b h h'=>by rw [←h,←hSN];exact h'
      have e3:S (vertP BP i) (vertP BP (i+1+d))=true→lnkI S (vertP BP) BP.length i++lnkJ S (vertP BP) i (d+1)=lnkI S (vertP BP) BP.length i++lnkJ S (vertP BP) i d++[((i:Int),((i+1+d:Nat):Int))]:=fun h=>by rw [lnkJ,h,List.append_assoc];rfl
      have e4:S (vertP BP i) (vertP BP (i+1+d))=false→lnkI S (vertP BP) BP.length i++lnkJ S (vertP BP) i (d+1)=lnkI S (vertP BP) BP.length i++lnkJ S (vertP BP) i d:=fun h=>by
       rw [lnkJ,h]
       exact congrArg _ (List.append_nil _)
      have hn0:S (vertP BP i) (vertP BP (i+1+d))=false→(lnkI S (vertP BP) BP.length i++lnkJ S (vertP BP) i (d+1)).length=(lnkI S (vertP BP) BP.length i++lnkJ S (vertP BP) i d).length:=fun h=>by rw [e4 h]
      have hr0:S (vertP BP i) (vertP BP (i+1+d))=false→∀t,t < (lnkI S (vertP BP) BP.length i++lnkJ S (vertP BP) i d).length→cellsQ (qL (lnkI S (vertP BP) BP.length i++lnkJ S (vertP BP) i (d+1)) t)=cellsQ (qL (lnkI S (vertP BP) BP.length i++lnkJ S (vertP BP) i d) t):=fun h=>by
       rw [e4 h]
       exact fun _ _=>rfl
      have hnA:S (vertP BP i) (vertP BP (i+1+d))=true→(lnkI S (vertP BP) BP.length i++lnkJ S (vertP BP) i (d+1)).length=(lnkI S (vertP BP) BP.length i++lnkJ S (vertP BP) i d).length+1:=fun h=>by
       rw [e3 h,List.length_append]
       rfl
      have hr1:S (vertP BP i) (vertP BP (i+1+d))=true→∀r:Nat→List PV,r 0=[.val (.int .i64 (i:Int)),.val (.int .i64 ((i:Int)+1+d))]→∀t,t < (lnkI S (vertP BP) BP.length i++lnkJ S (vertP BP) i d).length+1→cellsQ (qL (lnkI S (vertP BP) BP.length i++lnkJ S (vertP BP) i (d+1)) t)=apd (lnkI S (vertP BP) BP.length i++lnkJ S (vertP BP) i d).length (fun t=>cellsQ (qL (lnkI S (vertP BP) BP.length i++lnkJ S (vertP BP) i d) t)) r t:=fun h r hr=>by
       rw [e3 h]
       refine apd_q (hr.trans ?_)
       rw [cellsQ,show(i:Int)+1+d=((i+1+d:Nat):Int) by omega]
      have k1:((lnkI S (vertP BP) BP.length i++lnkJ S (vertP BP) i d).length+1)*16≤140737488355328:=by omega
      have k2:(lnkI S (vertP BP) BP.length i++lnkJ S (vertP BP) i d).length+1≤9223372036854775807:=by omega
      have pk1:isPk 10000 (vertP BP i).v:=⟨_,rfl,hBall i (by omega)⟩
      have pk2:isPk 10000 (vertP BP (0+((i:Int)+1+d).toNat)).v:=⟨_,rfl,hBall _ (by omega)⟩
      with_unfolding_all exact⟨⟨by omega,h2⟩,⟨hrg3,pk1,pk2⟩,fun h3=>⟨⟨rfl,k1,k2⟩,⟨d+1,[some 0,some 1,some 2,some 3,some 4,some 5],hdB1,hμd,Weak.of (by simp) ⟨⟨lt_ok rfl,rfl,rfl,rfl,rfl,rfl,⟨rfl,rfl⟩,⟨rfl,rfl⟩,⟨rfl,rfl⟩,⟨rfl,rfl⟩,⟨rfl,rfl⟩,⟨rfl,rfl⟩,⟨rfl,rfl⟩,⟨rfl,rfl⟩,⟨rfl,rfl⟩,⟨rfl,rfl⟩,⟨rfl,rfl⟩,⟨rfl,rfl⟩,⟨⟨rfl,rfl,fun _ _=>rfl⟩,rfl⟩,⟨⟨rfl,rfl,fun _ _=>rfl⟩,rfl⟩,trivial⟩,⟨lt_ok rfl,rfl,rfl,rfl,rfl,rfl,⟨rfl,rfl⟩,⟨rfl,rfl⟩,trivial⟩,⟨lt_ok rfl,rfl,rfl,rfl,rfl,rfl,⟨⟨rfl,rfl,rfl,lt_ok rfl,_,rfl⟩,rfl⟩,⟨⟨rfl,rfl,(hnA (hs (0+((i:Int)+1+d).toNat) _ eT h3)).symm,lt_ok rfl,_,rfl⟩,rfl⟩,trivial⟩,⟨lt_ok rfl,rfl,rfl,rfl,rfl,rfl,fun _ _=>rfl⟩,⟨lt_ok rfl,rfl,rfl,rfl,rfl,(hnA (hs (0+((i:Int)+1+d).toNat) _ eT h3)),hr1 (hs (0+((i:Int)+1+d).toNat) _ eT h3) _ rfl⟩,⟨lt_ok rfl,rfl,rfl,rfl,rfl,rfl,⟨rfl,rfl⟩,⟨rfl,rfl⟩,⟨rfl,rfl⟩,⟨rfl,rfl⟩,⟨rfl,rfl⟩,⟨rfl,rfl⟩,trivial⟩,trivial⟩ ⟨⟨rfl,rfl,rfl,lt_ok rfl,_,rfl⟩,⟨rfl,rfl,rfl,lt_ok rfl,_,rfl⟩,⟨rfl,rfl,rfl,lt_ok rfl,_,rfl⟩,rfl,⟨rfl,rfl,rfl,lt_ok rfl,_,rfl⟩,wd,⟨rfl,rfl,rfl,lt_ok rfl,_,rfl⟩,rfl,rfl,trivial⟩ trivial⟩⟩,fun h3=>⟨d+1,[some 0,some 1,some 2,some 3,some 4,some 5],hdB1,hμd,Weak.of (by simp) ⟨⟨lt_ok rfl,rfl,rfl,rfl,rfl,rfl,⟨rfl,rfl⟩,⟨rfl,rfl⟩,⟨rfl,rfl⟩,⟨rfl,rfl⟩,⟨rfl,rfl⟩,⟨rfl,rfl⟩,⟨rfl,rfl⟩,⟨rfl,rfl⟩,⟨rfl,rfl⟩,⟨rfl,rfl⟩,⟨rfl,rfl⟩,⟨rfl,rfl⟩,⟨⟨rfl,rfl,fun _ _=>rfl⟩,rfl⟩,⟨⟨rfl,rfl,fun _ _=>rfl⟩,rfl⟩,trivial⟩,⟨lt_ok rfl,rfl,rfl,rfl,rfl,rfl,⟨rfl,rfl⟩,⟨rfl,rfl⟩,trivial⟩,⟨lt_ok rfl,rfl,rfl,rfl,rfl,rfl,⟨⟨rfl,rfl,rfl,lt_ok rfl,_,rfl⟩,rfl⟩,⟨⟨rfl,rfl,(hn0 (hs (0+((i:Int)+1+d).toNat) _ eT h3)).symm,lt_ok rfl,_,rfl⟩,rfl⟩,trivial⟩,⟨lt_ok rfl,rfl,rfl,rfl,rfl,rfl,fun _ _=>rfl⟩,⟨lt_ok rfl,rfl,rfl,rfl,rfl,(hn0 (hs (0+((i:Int)+1+d).toNat) _ eT h3)),hr0 (hs (0+((i:Int)+1+d).toNat) _ eT h3)⟩,⟨lt_ok rfl,rfl,rfl,rfl,rfl,rfl,⟨rfl,rfl⟩,⟨rfl,rfl⟩,⟨rfl,rfl⟩,⟨rfl,rfl⟩,⟨rfl,rfl⟩,⟨rfl,rfl⟩,trivial⟩,trivial⟩ ⟨⟨rfl,rfl,rfl,lt_ok rfl,_,rfl⟩,⟨rfl,rfl,rfl,lt_ok rfl,_,rfl⟩,⟨rfl,rfl,rfl,lt_ok rfl,_,rfl⟩,rfl,⟨rfl,rfl,rfl,lt_ok rfl,_,rfl⟩,wd,⟨rfl,rfl,rfl,lt_ok rfl,_,rfl⟩,rfl,rfl,trivial⟩ trivial⟩⟩
     ·have h2:(BP.length:Int)≤(i:Int)+1+d:=ltF h2
      have hd:d=BP.length - (i+1):=by omega
      have hiB1:i+1≤BP.length:=by omega
      have hμi:BP.length - (i+1) < BP.length - i:=by omega
      have wi:PV.val (.int .i64 (IntKind.i64.wrap ((i:Int)+1)))=PV.val (goInt ((i+1:Nat):Int)):=by
       rw [wrap64 (by omega) (by omega)]
       rfl
      have e3:lnkI S (vertP BP) BP.length (i+1)=lnkI S (vertP BP) BP.length i++lnkJ S (vertP BP) i d:=by rw [hd,lnkI]
      have hn0:(lnkI S (vertP BP) BP.length (i+1)).length=(lnkI S (vertP BP) BP.length i++lnkJ S (vertP BP) i d).length:=by rw [e3]
      have hr0:∀t,t < (lnkI S (vertP BP) BP.length i++lnkJ S (vertP BP) i d).length→cellsQ (qL (lnkI S (vertP BP) BP.length (i+1)) t)=cellsQ (qL (lnkI S (vertP BP) BP.length i++lnkJ S (vertP BP) i d) t):=fun t _=>by rw [e3]
      with_unfolding_all exact⟨i+1,[some 0,some 1,some 2,some 3,some 4],hiB1,hμi,Weak.of (by simp) ⟨⟨lt_ok rfl,rfl,rfl,rfl,rfl,rfl,⟨rfl,rfl⟩,⟨rfl,rfl⟩,⟨rfl,rfl⟩,⟨rfl,rfl⟩,⟨rfl,rfl⟩,⟨rfl,rfl⟩,⟨rfl,rfl⟩,⟨rfl,rfl⟩,⟨rfl,rfl⟩,⟨rfl,rfl⟩,⟨rfl,rfl⟩,⟨rfl,rfl⟩,⟨⟨rfl,rfl,fun _ _=>rfl⟩,rfl⟩,⟨⟨rfl,rfl,fun _ _=>rfl⟩,rfl⟩,trivial⟩,⟨lt_ok rfl,rfl,rfl,rfl,rfl,rfl,⟨rfl,rfl⟩,⟨rfl,rfl⟩,trivial⟩,⟨lt_ok rfl,rfl,rfl,rfl,rfl,rfl,⟨⟨rfl,rfl,rfl,lt_ok rfl,_,rfl⟩,rfl⟩,⟨⟨rfl,rfl,hn0.symm,lt_ok rfl,_,rfl⟩,rfl⟩,trivial⟩,⟨lt_ok rfl,rfl,rfl,rfl,rfl,rfl,fun _ _=>rfl⟩,⟨lt_ok rfl,rfl,rfl,rfl,rfl,hn0,hr0⟩,trivial⟩ ⟨⟨rfl,rfl,rfl,lt_ok rfl,_,rfl⟩,⟨rfl,rfl,rfl,lt_ok rfl,_,rfl⟩,⟨rfl,rfl,rfl,lt_ok rfl,_,rfl⟩,⟨rfl,rfl,rfl,lt_ok rfl,_,rfl⟩,rfl,wi,trivial⟩ trivial⟩
    ·have h1:(BP.length:Int)≤i:=ltF h1
     have hi2:i=BP.length:=by omega
     have e5:lnkI S (vertP BP) BP.length i=BL:=by rw [e2,hi2]
     have v7:PV.val (.int .i64 0)=PV.val (.int .i64 BE):=by rw [hb0]
     have rp:∀t,t < BP.length→(vertP BP t).cells=(vertP BP (0+t)).cells:=fun t _=>by rw [Nat.zero_add]
     have rl:∀t,t < BL.length→cellsQ (qL BL t)=cellsQ (qL (lnkI S (vertP BP) BP.length i) (0+t)):=fun t _=>by rw [e5,Nat.zero_add]
     with_unfolding_all exact⟨[some 1],stOf [(6,.ptr 0 0 0 0),(7,.val (.int .i64 BE))] [⟨37,2,0,true,false,1,fun _=>[.rs 6 BP.length (fun i=>(vertP BP i).cells),.rs 2 BL.length (fun i=>cellsQ (qL BL i))]⟩] 1 [],Weak.of (by simp) ⟨⟨lt_ok rfl,rfl,rfl,rfl,rfl,rfl,⟨⟨by simp,_,rfl,rfl,rfl,rfl,rp⟩,rfl⟩,⟨⟨by simp,_,rfl,rfl,rfl,congrArg List.length e5,rl⟩,rfl⟩,trivial⟩,trivial⟩ ⟨⟨rfl,rfl,rfl,lt_ok rfl,_,rfl⟩,v7,trivial⟩ trivial,rfl,rfl⟩
 ·cases e
end Go.Proofs
namespace Go.Proofs
open Go Go.Ex Go.Num
set_option maxRecDepth 100000
def exLo:PtS:=⟨⟨false,⟨#[]⟩,⟨#[]⟩⟩,⟨false,⟨#[]⟩,⟨#[]⟩⟩⟩
def exPt (x y:Int):PtS:=ptQ (mkRat x 1) (mkRat y 1)
def exHi:PtS:=exPt 10 10
def exLs:List PV:=(exPt 4 4).cells++((exPt 6 4).cells++((exPt 6 6).cells++(exPt 4 6).cells))
def exC:Nat→List PV:=fun _=>[.rs 6 4 (fun i=>chunk 6 exLs (0+i))]
def exO:Nat→List PV:=fun _=>cellsO (0,0,0)
def exBP:List PtS:=[exPt 0 5,exPt 10 5,exPt 4 4,exPt 4 6,exPt 6 4,exPt 6 6]
def exQ:List (Int×Int):=[(0,2),(0,3),(1,4),(1,5),(2,3),(2,4),(3,5),(4,5)]
def exG:Nat→List PV:=fun i=>(vertP exBP i).cells
def exH:Nat→List PV:=fun i=>cellsQ (qL exQ i)
theorem x1:okB exLo exHi 1 exC 1 exO (segV (exPt 0 5) (exPt 10 5))=true:=by kernel_rfl
theorem x2:seeB exLo exHi 1 exC 1 exO (exPt 0 5) (exPt 10 5)=false:=by kernel_rfl
theorem x3:(vertC exLo exHi 1 exC 1 exO).length=4:=by kernel_rfl
theorem x4:(List.range 3).all (fun i=>!eqP (cornP exLo exHi 1 exC 1 exO (i+1)) (cornP exLo exHi 1 exC 1 exO i))=true:=by kernel_rfl
theorem x5:bErr exLo exHi 1 exC 1 exO (exPt 0 5) (exPt 10 5)=0:=by kernel_rfl
theorem x6:bPts exLo exHi 1 exC 1 exO (exPt 0 5) (exPt 10 5)=exBP:=by kernel_rfl
theorem x7:bLks exLo exHi 1 exC 1 exO (exPt 0 5) (exPt 10 5)=exQ:=by kernel_rfl
theorem x8:okT exLo exHi 1 exC 1 exO 6 exG 8 exH=true:=by kernel_rfl
theorem x9:tgtR exLo exHi 1 exC 1 exO 6 exG 8 exH=exQ:=by kernel_rfl
end Go.Proofs
namespace Go.Proofs
open Go Go.Ex Go.Num
set_option maxRecDepth 100000
theorem exP (x y:Int) (hx:x.natAbs < 256) (hy:y.natAbs < 256):(exPt x y).le 10000:=by
 have q:∀z:Int,z.natAbs < 256→QB 1 (mkRat z 1):=fun z hz=>by
  have e:mkRat z 1=(z:Rat):=by simp [Rat.mkRat_one]
  rw [e]
  exact⟨hz,show(1:Nat) < 256^1 by decide⟩
 exact⟨(q x hx).rs.mono (by decide),(q y hy).rs.mono (by decide)⟩
theorem exPk (x y:Int) (hx:x.natAbs < 256) (hy:y.natAbs < 256):isPk 10000 (exPt x y).v:=⟨_,rfl,exP x y hx hy⟩
theorem exCL:isCL 10000 1 exC:=⟨fun i _=>⟨rfl,fun i hi=>by
  match i,hi with
  |0,_=>exact⟨rfl,exP 4 4 (by decide) (by decide)⟩
  |1,_=>exact⟨rfl,exP 6 4 (by decide) (by decide)⟩
  |2,_=>exact⟨rfl,exP 6 6 (by decide) (by decide)⟩
  |3,_=>exact⟨rfl,exP 4 6 (by decide) (by decide)⟩
  |i+4,h=>exact absurd h (show ¬i+4 < 4 by omega),show(4:Nat)≤140737488355328 by decide⟩,by decide⟩
def exR:List PV:=regC exLo exHi 1 exC 1 exO
theorem exRg:isRg 10000 exR:=⟨rfl,⟨⟨⟨by decide,by decide⟩,by decide,by decide⟩,exP 10 10 (by decide) (by decide)⟩,exCL,fun i _=>rfl,by decide⟩
def c53:List PV→Option Ans
 |[]=>some ⟨none,.agg exR,[]⟩
 |_=>none
theorem ok53:funcOk {} Tryz.f53 0=true:=by kernel_rfl
theorem f53:FnOk Tryz.prog 53 c53:=by
 refine FnOk.ofW orders (mkE_ok (l:=[(52,c52)]) (own:=[]) (inl:=[]) (by simp [f52]) (by simp)) Tryz.func53 {} 0 ok53 fun args r e=>?_
 unfold c53 at e
 split at e
 ·cases e
  refine⟨by simp,fun hm=>?_⟩
  refine⟨[],stOf [] [] 0 [],Weak.of (by simp) trivial trivial trivial,?_⟩
  have b:∀x:Int,0≤x∧x < 100→(-9223372036854775808≤x∧x < 9223372036854775808):=fun x h=>by omega
  have z1:∀(g h:Nat→List PV),g 0=h 0→∀i,i < 1→g i=h (0+i):=fun g h e i hi=>by
   obtain rfl:i=0:=by omega
   exact e
  with_unfolding_all exact⟨⟨b 10 (by decide),b 10 (by decide)⟩,⟨b 4 (by decide),b 4 (by decide)⟩,⟨b 6 (by decide),b 4 (by decide)⟩,⟨b 6 (by decide),b 6 (by decide)⟩,⟨b 4 (by decide),b 6 (by decide)⟩,[some 0],stOf [(0,.ptr 0 0 0 0)] [⟨31,14,0,true,false,1,fun _=>exR⟩] 1 [],Weak.of (by simp) ⟨⟨lt_ok rfl,rfl,rfl,rfl,rfl,rfl,⟨rfl,rfl⟩,⟨rfl,rfl⟩,⟨rfl,rfl⟩,⟨rfl,rfl⟩,⟨rfl,rfl⟩,⟨rfl,rfl⟩,⟨rfl,rfl⟩,⟨rfl,rfl⟩,⟨rfl,rfl⟩,⟨rfl,rfl⟩,⟨rfl,rfl⟩,⟨rfl,rfl⟩,⟨⟨by simp,_,rfl,rfl,rfl,rfl,z1 _ _ rfl⟩,rfl⟩,⟨⟨by simp,_,rfl,rfl,rfl,rfl,z1 _ _ rfl⟩,rfl⟩,trivial⟩,trivial⟩ ⟨⟨rfl,rfl,rfl,lt_ok rfl,_,rfl⟩,trivial⟩ trivial,rfl,rfl⟩
 ·cases e
theorem exIsPL:isPL 10000 6 exG:=⟨fun i hi=>by
 match i,hi with
 |0,_=>exact⟨rfl,exP 0 5 (by decide) (by decide)⟩
 |1,_=>exact⟨rfl,exP 10 5 (by decide) (by decide)⟩
 |2,_=>exact⟨rfl,exP 4 4 (by decide) (by decide)⟩
 |3,_=>exact⟨rfl,exP 4 6 (by decide) (by decide)⟩
 |4,_=>exact⟨rfl,exP 6 4 (by decide) (by decide)⟩
 |5,_=>exact⟨rfl,exP 6 6 (by decide) (by decide)⟩
 |i+6,h=>exact absurd h (show ¬i+6 < 6 by omega),by decide⟩
theorem exIsQL:isQL 8 exH:=⟨fun _ _=>rfl,by decide⟩
theorem rowQ {r:Nat→List PV} (h0:r 0=exH 0) (h1:r 1=exH 1) (h2:r 2=exH 2) (h3:r 3=exH 3) (h4:r 4=exH 4) (h5:r 5=exH 5) (h6:r 6=exH 6) (h7:r 7=exH 7):∀i,i < 8→r i=exH i:=fun i hi=>by
 match i,hi with
 |0,_=>exact h0
 |1,_=>exact h1
 |2,_=>exact h2
 |3,_=>exact h3
 |4,_=>exact h4
 |5,_=>exact h5
 |6,_=>exact h6
 |7,_=>exact h7
 |i+8,h=>exact absurd h (show ¬i+8 < 8 by omega)
theorem rowQ1 {r:Nat→List PV} (h:∀i,i < 8→r i=exH i):isQL 8 r:=⟨fun i hi=>by
 have e:=h i hi
 rw [prs,e]
 rfl,by decide⟩
theorem eqQ_refl (x:Int×Int):Num.eqQ x x=true:=by
 unfold Num.eqQ
 rw [beq_self_eq_true,beq_self_eq_true]
 rfl
theorem rowQ2 {g r:Nat→List PV} {n:Nat} (hn:n=8) (hg:∀i,i < 8→g i=exH i) (h:∀i,i < 8→r i=exH i):(decide (n=8)&&!anyP (fun i=>!Num.eqQ (prs g i) (prs r i)) n)=true:=by
 subst hn
 rw [anyP_false.2 fun i hi=>by rw [prs,prs,hg i hi,h i hi,eqQ_refl];rfl]
 rfl
def c13:List PV→Option Ans
 |[]=>some ⟨none,.val (.bool true),[]⟩
 |_=>none
def D13:Opt:={ perm:=atTs [(2,(.rd 1 (.rd 2 (.mk 0 (.mk 3 (.rd 4 (.rd 5 (.rd 6 .nil)))))))),(3,(.rd 1 (.rd 2 (.alt 0 (.alt 3 (.rd 4 (.rd 5 (.rd 6 (.mk 7 .nil)))) (.mk 7 (.mk 3 (.rd 4 (.rd 5 (.rd 6 .nil)))))) (.mk 7 (.mk 0 (.mk 3 (.rd 4 (.rd 5 (.rd 6 .nil)))))))))),(4,(.rd 1 (.mk 0 (.mk 2 (.rd 3 (.rd 4 (.rd 5 .nil)))))))],join:=fun c=>match c with | .region 3 _ _=>true|_=>false }
theorem ok13:funcOk D13.toOrd Tryz.f13 0=true:=by kernel_rfl
theorem f13:FnOk Tryz.prog 13 c13:=by
 refine FnOk.ofW orders (mkE_ok (l:=[(52,c52),(53,c53),(21,c21),(14,c14),(18,c18),(54,c54),(44,c44)]) (own:=[]) (inl:=[]) (by simp [f52,f53,f21,f14,f18,f54,f44]) (by simp)) Tryz.func13 D13 0 ok13 fun args r e=>?_
 unfold c13 at e
 split at e
 ·cases e
  refine⟨by simp,fun hm=>?_⟩
  refine⟨[],stOf [] [] 0 [],Weak.of (by simp) trivial trivial trivial,?_⟩
  have b:∀x:Int,0≤x∧x < 100→(-9223372036854775808≤x∧x < 9223372036854775808):=fun x h=>by omega
  have pa:isPk 10000 (exPt 0 5).v:=exPk 0 5 (by decide) (by decide)
  have pb:isPk 10000 (exPt 10 5).v:=exPk 10 5 (by decide) (by decide)
  have pd:∀i,i+1 < (vertC exLo exHi 1 exC 1 exO).length→eqP (cornP exLo exHi 1 exC 1 exO (i+1)) (cornP exLo exHi 1 exC 1 exO i)=false:=fun i hi=>by
   rw [x3] at hi
   have:=List.all_eq_true.1 x4 i (List.mem_range.2 (by omega))
   simpa using this
  have pc:(vertC exLo exHi 1 exC 1 exO).length≤12:=by rw [x3];decide
  with_unfolding_all refine⟨⟨b 0 (by decide),b 5 (by decide)⟩,⟨b 10 (by decide),b 5 (by decide)⟩,⟨exRg,pa,pb⟩,?_⟩
  have v3:PV.val (.bool (seeB exLo exHi 1 exC 1 exO (exPt 0 5) (exPt 10 5)))=PV.val (.bool false):=by rw [x2]
  have v4:PV.val (.int .i64 (okW (okB exLo exHi 1 exC 1 exO (segV (exPt 0 5) (exPt 10 5)))))=PV.val (.int .i64 0):=by
   rw [x1]
   rfl
  have v6:PV.val (.int .i64 (bErr exLo exHi 1 exC 1 exO (exPt 0 5) (exPt 10 5)))=PV.val (.int .i64 0):=by rw [x5]
  have w1:(bPts exLo exHi 1 exC 1 exO (exPt 0 5) (exPt 10 5)).length=6:=by
   rw [x6]
   rfl
  have w2:∀i,i < 6→exG i=(vertP (bPts exLo exHi 1 exC 1 exO (exPt 0 5) (exPt 10 5)) i).cells:=fun i _=>by
   rw [x6]
   rfl
  have w3:(bLks exLo exHi 1 exC 1 exO (exPt 0 5) (exPt 10 5)).length=8:=by
   rw [x7]
   rfl
  have w4:∀i,i < 8→exH i=cellsQ (qL (bLks exLo exHi 1 exC 1 exO (exPt 0 5) (exPt 10 5)) i):=fun i _=>by
   rw [x7]
   rfl
  with_unfolding_all refine⟨Unit,fun _=>True,fun _=>stOf [(0,.val (.bool false)),(3,.val (.bool false)),(4,.val (.int .i64 0)),(5,.ptr 0 0 0 0),(6,.val (.int .i64 0))] [⟨37,2,0,true,false,1,fun _=>[.rs 6 6 exG,.rs 2 8 exH]⟩] 1 [],⟨⟨⟨⟨⟨exRg,pa,pb⟩,pc,pd⟩,⟨(),[some 2],trivial,Weak.of (by simp) ⟨⟨lt_ok rfl,rfl,rfl,rfl,rfl,rfl,⟨⟨rfl,w1,w2⟩,rfl⟩,⟨⟨rfl,w3,w4⟩,rfl⟩,trivial⟩,trivial⟩ ⟨rfl,v3,v4,⟨rfl,rfl,rfl,lt_ok rfl,_,rfl⟩,v6,trivial⟩ trivial⟩⟩,⟨⟨⟨exRg,pa,pb⟩,pc,pd⟩,⟨(),[some 2],trivial,Weak.of (by simp) ⟨⟨lt_ok rfl,rfl,rfl,rfl,rfl,rfl,⟨⟨rfl,w1,w2⟩,rfl⟩,⟨⟨rfl,w3,w4⟩,rfl⟩,trivial⟩,trivial⟩ ⟨rfl,v3,v4,⟨rfl,rfl,rfl,lt_ok rfl,_,rfl⟩,v6,trivial⟩ trivial⟩⟩⟩,⟨⟨⟨exRg,pa,pb⟩,pc,pd⟩,⟨(),[some 2],trivial,Weak.of (by simp) ⟨⟨lt_ok rfl,rfl,rfl,rfl,rfl,rfl,⟨⟨rfl,w1,w2⟩,rfl⟩,⟨⟨rfl,w3,w4⟩,rfl⟩,trivial⟩,trivial⟩ ⟨rfl,v3,v4,⟨rfl,rfl,rfl,lt_ok rfl,_,rfl⟩,v6,trivial⟩ trivial⟩⟩⟩,fun _ _=>?_⟩
  have F3:(okW (okT exLo exHi 1 exC 1 exO 6 exG 8 exH)==0)=true:=by
   rw [x8]
   rfl
  have F6:eqP (vertP exBP 2) (exPt 4 4)=true:=by kernel_rfl
  have ht:(tgtR exLo exHi 1 exC 1 exO 6 exG 8 exH).length=8:=by
   rw [x9]
   rfl
  have hg:∀i,i < 8→cellsQ (qL (tgtR exLo exHi 1 exC 1 exO 6 exG 8 exH) i)=exH i:=fun i _=>by
   rw [x9]
   rfl
  have qt:isQL (tgtR exLo exHi 1 exC 1 exO 6 exG 8 exH).length (fun i=>cellsQ (qL (tgtR exLo exHi 1 exC 1 exO 6 exG 8 exH) i)):=by
   rw [ht]
   exact rowQ1 hg
  have v0:∀B,B=true→PV.val (.bool B)=PV.val (.bool true):=fun B h=>by rw [h]
  have one:(0==(0:Int))=true:=rfl
  with_unfolding_all exact⟨⟨exRg,exIsPL,exIsQL⟩,⟨fun h1=>⟨fun h2=>⟨fun h3=>⟨fun h4=>⟨fun h5=>⟨⟨by decide,by decide⟩,⟨b 4 (by decide),b 4 (by decide)⟩,⟨fun h6=>⟨⟨exIsQL,rowQ1 (rowQ rfl rfl rfl rfl rfl rfl rfl rfl)⟩,⟨fun h7=>⟨⟨qt,rowQ1 (rowQ rfl rfl rfl rfl rfl rfl rfl rfl)⟩,[],stOf [(0,.val (.bool true))] [] 0 [],Weak.of (by simp) trivial ⟨v0 _ (rowQ2 ht hg (rowQ rfl rfl rfl rfl rfl rfl rfl rfl)),trivial⟩ trivial,rfl,rfl⟩,fun h=>absurd (h.symm.trans (rowQ2 rfl (fun _ _=>rfl) (rowQ rfl rfl rfl rfl rfl rfl rfl rfl))) (by decide)⟩⟩,fun h=>absurd (h.symm.trans F6) (by decide)⟩⟩,fun h=>absurd (h.symm.trans rfl) (by decide)⟩,fun h=>absurd (h.symm.trans rfl) (by decide)⟩,fun h=>absurd (h.symm.trans F3) (by decide)⟩,fun h=>absurd (h.symm.trans one) (by decide)⟩,fun h=>absurd (h.symm.trans one) (by decide)⟩⟩
 ·cases e
end Go.Proofs
namespace Go.Num
open Go Go.Ex Go.Proofs
theorem canonP_ptQ (x y:Rat):canonP (ptQ x y)=true:=by
 have h:∀q:Rat,canonB (rsQ q).v=true:=fun q=>by
  show canonQ (decide (q.num < 0)) (numB q.num.natAbs) (denT q.den) (rdR (ratV q))=true
  have hb:∀x:ByteArray,(x==x)=true:=fun⟨x⟩=>by
   show(x==x)=true
   exact beq_self_eq_true x
  rw [rdR_ratV,canonQ,beq_self_eq_true,hb,hb]
  rfl
 unfold canonP ptQ
 show(canonB (rsQ x).v&&canonB (rsQ y).v)=true
 rw [h,h]
 rfl
theorem part_q {m:Int} (h0:0≤m) (h1:m < 256):0≤Rat.divInt m 255∧Rat.divInt m 255≤1:=by
 have e:Rat.divInt m 255*255=(m:Rat):=by
  rw [Rat.divInt_eq_div]
  exact Rat.div_mul_cancel (by decide)
 have k0:(0:Rat)≤(m:Rat):=by exact_mod_cast h0
 have k1:(m:Rat)≤((255:Int):Rat):=Rat.intCast_le_intCast.2 (by omega)
 have k2:((255:Int):Rat)=255:=rfl
 rw [k2] at k1
 constructor<;>grind
theorem part_qb:∀m:Nat,m < 256→(Rat.divInt (m:Int) 255).num.natAbs < 256^2∧(Rat.divInt (m:Int) 255).den < 256^2:=by
 decide +kernel
theorem part_le {m:Int} (h0:0≤m) (h1:m < 256):QB 2 (Rat.divInt m 255):=by
 obtain⟨n,rfl⟩:=Int.eq_ofNat_of_zero_le h0
 exact part_qb n (by omega)
theorem atP_X (a b:PtS) (r:RatS):(atP a b r).X=a.X+(b.X - a.X)*r.q:=by
 unfold atP addP sclP subP
 rw [ptQ_X,ptQ_X,ptQ_X]
theorem atP_Y (a b:PtS) (r:RatS):(atP a b r).Y=a.Y+(b.Y - a.Y)*r.q:=by
 unfold atP addP sclP subP
 rw [ptQ_Y,ptQ_Y,ptQ_Y]
theorem atP_le {i j k:Nat} {a b:PtS} {r:RatS} (h1:PtS.le i a) (h2:PtS.le j b) (h3:RatS.le k r):(atP a b r).le (i+(j+i+3+k+3)+3):=addP_le h1 (sclP_le (subP_le h2 h1) h3)
theorem canonP_atP (a b:PtS) (r:RatS):canonP (atP a b r)=true:=canonP_ptQ _ _
theorem see_sym {lo hi:PtS} {k:Nat} {c:Nat→List PV} {l:Nat} {o:Nat→List PV} {a b:PtS} (hr:regE lo hi k (pn c) (fun i=>pts (pg c i)) l (ow o)=0) (ha:canonP a=true) (hb:canonP b=true):seeB lo hi k c l o b a=seeB lo hi k c l o a b:=by
 rw [Bool.eq_iff_iff,seeB_iff hr hb ha,seeB_iff hr ha hb]
 exact⟨SeeM.symm,SeeM.symm⟩
theorem see_part {lo hi:PtS} {k:Nat} {c:Nat→List PV} {l:Nat} {o:Nat→List PV} {a b d:PtS} {q:Rat} (hr:regE lo hi k (pn c) (fun i=>pts (pg c i)) l (ow o)=0) (ha:canonP a=true) (hb:canonP b=true) (hd:canonP d=true) (hx:d.X=a.X+(b.X - a.X)*q) (hy:d.Y=a.Y+(b.Y - a.Y)*q) (h0:0≤q) (h1:q≤1) (h:seeB lo hi k c l o a b=true):(seeB lo hi k c l o a d=true∧seeB lo hi k c l o d b=true)∧seeB lo hi k c l o a a=true∧seeB lo hi k c l o b b=true∧seeB lo hi k c l o d d=true:=by
 have m:=(seeB_iff hr ha hb).1 h
 have m2:SeeM lo hi k c b d:=m.symm.part (q:=1 - q) (by grind) (by grind) (by grind) (by grind)
 exact⟨⟨(seeB_iff hr ha hd).2 (m.part h0 h1 hx hy),(seeB_iff hr hd hb).2 m2.symm⟩,(seeB_iff hr ha ha).2 m.self,(seeB_iff hr hb hb).2 m.symm.self,(seeB_iff hr hd hd).2 m2.symm.self⟩
theorem fine_get {xs:List PV} {r:Nat→List PV} {a b:PtS} (h0:r 0=a.cells) (h1:r 1=b.cells) (h:fineA xs 2 r=true) (hx:isRg 140737488355328 xs):isRg 12 xs∧(a.le 12∧b.le 12)∧(canonP a=true∧canonP b=true)∧regE (gLo xs) (gHi xs) (gK xs) (pn (gC xs)) (fun i=>pts (pg (gC xs) i)) (gL xs) (ow (gO xs))=0:=by
 have p0:pts r 0=a:=by
  rw [pts,h0]
  rfl
 have p1:pts r 1=b:=by
  rw [pts,h1]
  rfl
 unfold fineA grtA at h
 rw [Bool.and_eq_true,Bool.and_eq_true,Bool.not_eq_true',Bool.not_eq_true',Bool.or_eq_false_iff] at h
 obtain⟨⟨⟨g1,g2⟩,g3⟩,g4⟩:=h
 have b0:=(anyP_false.1 g2) 0 (by decide)
 have b1:=(anyP_false.1 g2) 1 (by decide)
 have c0:=(anyP_false.1 g4) 0 (by decide)
 have c1:=(anyP_false.1 g4) 1 (by decide)
 simp only [p0,p1] at b0 b1 c0 c1
 exact⟨grtF_rg g1 hx,⟨bigP_le b0,bigP_le b1⟩,⟨by simpa using c0,by simpa using c1⟩,reg13_E (eq_of_beq g3)⟩
theorem fine_not {xs:List PV} {r:Nat→List PV} {a b:PtS} (h:(!fineA xs 2 r)=false) (h0:r 0=a.cells) (h1:r 1=b.cells) (hx:isRg 140737488355328 xs):isRg 12 xs∧(a.le 12∧b.le 12)∧(canonP a=true∧canonP b=true)∧regE (gLo xs) (gHi xs) (gK xs) (pn (gC xs)) (fun i=>pts (pg (gC xs) i)) (gL xs) (ow (gO xs))=0 :=
 fine_get h0 h1 (by simpa using h) hx
end Go.Num
namespace Go.Proofs
open Go Go.Ex Go.Num
set_option maxRecDepth 100000
def c6:List PV→Option Ans
 |[.agg [.val (.bool s1),.val (.string b1),.val (.string c1),.val (.bool s2),.val (.string b2),.val (.string c2),.val (.bool s3),.val (.string b3),.val (.string c3),.val (.bool s4),.val (.string b4),.val (.string c4),.rs 1 k c,.rs 3 l o],.val v,.val u,.val (.int .u8 m)]=>some ⟨some ((PtS.le 140737488355328 (PtS.mk ⟨s1,b1,c1⟩ ⟨s2,b2,c2⟩)∧PtS.le 140737488355328 (PtS.mk ⟨s3,b3,c3⟩ ⟨s4,b4,c4⟩))∧isCL 140737488355328 k c∧isOL l o∧isPk 140737488355328 v∧isPk 140737488355328 u∧0≤m∧m < 256),.val (.bool true),[]⟩
 |_=>none
def D6:Opt:={ join:=fun c=>match c with | .region 5 _ _=>true | .region 10 _ _=>true | .region 11 _ _=>true | .region 13 _ _=>true|_=>false }
theorem ok6:funcOk D6.toOrd Tryz.f6 4=true:=by kernel_rfl
theorem f6:FnOk Tryz.prog 6 c6:=by
 refine FnOk.ofW orders (mkE_ok (l:=[(17,c17),(13,c13),(21,c21),(26,c26),(27,c27),(28,c28)]) (own:=[]) (inl:=[]) (by simp [f17,f13,f21,f26,f27,f28]) (by simp)) Tryz.func6 D6 4 ok6 fun args r e=>?_
 unfold c6 at e
 split at e
 ·rename_i s1 b1 c1 s2 b2 c2 s3 b3 c3 s4 b4 c4 k c l o v u m
  cases e
  refine⟨by simp,fun hm=>?_⟩
  obtain⟨⟨hlo,hhi⟩,⟨hc,hk⟩,⟨ho,hl⟩,⟨a,rfl,ha⟩,⟨b,rfl,hb⟩,hm0⟩:=hm _ rfl
  clear hm
  obtain⟨lo,hlo'⟩:∃p,p=(PtS.mk ⟨s1,b1,c1⟩ ⟨s2,b2,c2⟩):=⟨_,rfl⟩
  obtain⟨hi,hhi'⟩:∃p,p=(PtS.mk ⟨s3,b3,c3⟩ ⟨s4,b4,c4⟩):=⟨_,rfl⟩
  have hc1:∀i,i < k→[.rs 6 (pn c i) (pg c i)]=c i:=fun i hi=>(hc i hi).1.symm
  have ho1:∀i,i < l→cellsO (ow o i)=o i:=fun i hi=>(ho i hi).symm
  refine⟨[],stOf [(0,.agg (regC (PtS.mk ⟨s1,b1,c1⟩ ⟨s2,b2,c2⟩) (PtS.mk ⟨s3,b3,c3⟩ ⟨s4,b4,c4⟩) k c l o)),(1,.val a.v),(2,.val b.v),(3,.val (.int .u8 m))] [] 0 [],Weak.of (by simp) trivial ⟨⟨rfl,rfl,rfl,rfl,rfl,rfl,rfl,rfl,rfl,rfl,rfl,rfl,⟨rfl,rfl,hc1⟩,⟨rfl,rfl,ho1⟩,trivial⟩,rfl,rfl,rfl,trivial⟩ trivial,?_⟩
  rw [←hlo'] at hlo ⊢
  rw [←hhi'] at hhi ⊢
  clear hlo' hhi'
  have hX:isRg 140737488355328 (regC lo hi k c l o):=⟨rfl,⟨hlo,hhi⟩,⟨fun i hi=>⟨rfl,(hc i hi).2⟩,hk⟩,fun _ _=>rfl,hl⟩
  have p2:∀r:Nat→List PV,r 0=a.cells→r 1=b.cells→isPL 140737488355328 2 r:=fun r h h'=>⟨fun i hi=>by
   match i,hi with
   |0,_=>exact⟨by rw [pts,h];rfl,by rw [pts,h];exact ha⟩
   |1,_=>exact⟨by rw [pts,h'];rfl,by rw [pts,h'];exact hb⟩
   |i+2,h=>omega,by decide⟩
  with_unfolding_all refine⟨⟨hX,p2 _ rfl rfl⟩,fun h1=>⟨[],stOf [(8,.val (.bool true))] [] 0 [],Weak.of (by simp) trivial ⟨rfl,trivial⟩ trivial,rfl,rfl⟩,fun h1=>?_⟩
  obtain⟨hX12,⟨ha12,hb12⟩,⟨ca,cb⟩,hreg0⟩:=fine_not (a:=a) (b:=b) h1 rfl rfl hX
  clear h1 p2
  have hreg:regE lo hi k (pn c) (fun i=>pts (pg c i)) l (ow o)=0:=hreg0
  have hX4:isRg 10000 (regC lo hi k c l o):=hX12.mono (by decide)
  have pa:isPk 10000 a.v:=⟨a,rfl,ha12.mono (by decide)⟩
  have pb:isPk 10000 b.v:=⟨b,rfl,hb12.mono (by decide)⟩
  have hok:∀x y:PtS,canonP x=true→canonP y=true→okB lo hi k c l o (segV x y)=true:=fun x y h h'=>by
   show(!(!canonP x||!canonP y)&&(regE lo hi k (pn c) (fun i=>pts (pg c i)) l (ow o)==0))=true
   rw [h,h',hreg]
   rfl
  have hE:∀x y:PtS,canonP x=true→canonP y=true→PV.val (.int .i64 (okW (okB lo hi k (fun i=>[.rs 6 (pn c i) (pg c i)]) l (fun i=>cellsO (ow o i)) (segV x y))))=PV.val (.int .i64 0):=fun x y h h'=>by
   show PV.val (.int .i64 (okW (okB lo hi k c l o (segV x y))))=PV.val (.int .i64 0)
   rw [hok x y h h']
   rfl
  have hV:∀x y:PtS,∀z:Bool,seeB lo hi k c l o x y=z→PV.val (.bool (seeB lo hi k (fun i=>[.rs 6 (pn c i) (pg c i)]) l (fun i=>cellsO (ow o i)) x y))=PV.val (.bool z):=fun x y z h=>by
   show PV.val (.bool (seeB lo hi k c l o x y))=_
   rw [h]
  have hS:=see_sym (a:=a) (b:=b) hreg ca cb
  with_unfolding_all refine⟨⟨hX4,pa,pb⟩,⟨hX4,pb,pa⟩,⟨Bool×Bool,fun x=>x.1=seeB lo hi k c l o a b∧x.2=seeB lo hi k c l o a a,fun x=>stOf [(3,.val (.int .u8 m)),(4,.ptr 0 0 0 0),(5,.ptr 1 1 0 0),(6,.ptr 2 2 0 0),(8,.val (.bool false)),(9,.val (.bool x.1)),(10,.val (.int .i64 0)),(11,.val (.bool x.1)),(12,.val (.int .i64 0)),(13,.val (.bool x.2)),(14,.val (.int .i64 0))] [⟨31,14,0,true,false,1,fun _=>regC lo hi k c l o⟩,⟨25,6,1,true,false,1,fun _=>a.cells⟩,⟨25,6,2,true,false,1,fun _=>b.cells⟩] 3 [],?_,fun x hx=>?_⟩⟩
  ·with_unfolding_all refine⟨⟨hX4,pa,pa⟩,(seeB lo hi k c l o a b,seeB lo hi k c l o a a),[some 0,some 1,some 2],⟨rfl,rfl⟩,Weak.of (by simp) ⟨⟨lt_ok rfl,rfl,rfl,rfl,rfl,rfl,⟨rfl,rfl⟩,⟨rfl,rfl⟩,⟨rfl,rfl⟩,⟨rfl,rfl⟩,⟨rfl,rfl⟩,⟨rfl,rfl⟩,⟨rfl,rfl⟩,⟨rfl,rfl⟩,⟨rfl,rfl⟩,⟨rfl,rfl⟩,⟨rfl,rfl⟩,⟨rfl,rfl⟩,⟨⟨rfl,rfl,fun _ _=>rfl⟩,rfl⟩,⟨⟨rfl,rfl,fun _ _=>rfl⟩,rfl⟩,trivial⟩,⟨lt_ok rfl,rfl,rfl,rfl,rfl,rfl,⟨rfl,rfl⟩,⟨rfl,rfl⟩,⟨rfl,rfl⟩,⟨rfl,rfl⟩,⟨rfl,rfl⟩,⟨rfl,rfl⟩,trivial⟩,⟨lt_ok rfl,rfl,rfl,rfl,rfl,rfl,⟨rfl,rfl⟩,⟨rfl,rfl⟩,⟨rfl,rfl⟩,⟨rfl,rfl⟩,⟨rfl,rfl⟩,⟨rfl,rfl⟩,trivial⟩,trivial⟩ ⟨rfl,⟨rfl,rfl,rfl,lt_ok rfl,_,rfl⟩,⟨rfl,rfl,rfl,lt_ok rfl,_,rfl⟩,⟨rfl,rfl,rfl,lt_ok rfl,_,rfl⟩,rfl,hV _ _ _ rfl,hE _ _ ca cb,hV _ _ _ hS,hE _ _ cb ca,hV _ _ _ rfl,hE _ _ ca ca,trivial⟩ trivial⟩
  ·obtain⟨x,y⟩:=x
   obtain⟨e1,e2⟩:=hx
   obtain⟨q,hq⟩:∃q,q=Rat.divInt (IntKind.i64.wrap m) 255:=⟨_,rfl⟩
   have hw:IntKind.i64.wrap m=m:=wrap64 (by omega) (by omega)
   have hq':q=Rat.divInt m 255:=by rw [hq,hw]
   have hqb:RatS.le 2 (rsQ q):=by
    rw [hq']
    exact(part_le hm0.1 hm0.2).rs
   have hq01:=part_q hm0.1 hm0.2
   rw [←hq'] at hq01
   obtain⟨d,hd⟩:∃d,d=atP a b (rsQ q):=⟨_,rfl⟩
   have cd:canonP d=true:=by
    rw [hd]
    exact canonP_atP _ _ _
   have pd:isPk 10000 d.v:=by
    rw [hd]
    exact⟨_,rfl,(atP_le ha12 hb12 hqb).mono (by decide)⟩
   have hdX:d.X=a.X+(b.X - a.X)*q:=by rw [hd,atP_X,rsQ_q]
   have hdY:d.Y=a.Y+(b.Y - a.Y)*q:=by rw [hd,atP_Y,rsQ_q]
   have pa1:isPk 1000 a.v:=⟨a,rfl,ha12.mono (by decide)⟩
   have pb1:isPk 1000 b.v:=⟨b,rfl,hb12.mono (by decide)⟩
   have pr1:isRk 1000 (rsQ q).v:=⟨_,_,_,rfl,Nat.le_trans hqb.1 (by decide),Nat.le_trans hqb.2 (by decide)⟩
   have hB:∀z:Bool,seeB lo hi k c l o a a=z→(!(z==seeB lo hi k (fun i=>[.rs 6 (pn c i) (pg c i)]) l (fun i=>cellsO (ow o i)) a a))=true→False:=fun z h kk=>by
    have e:seeB lo hi k (fun i=>[.rs 6 (pn c i) (pg c i)]) l (fun i=>cellsO (ow o i)) a a=z:=h
    rw [e] at kk
    simp at kk
   have hF:∀z:PtS,seeB lo hi k c l o z z=true→(seeB lo hi k (fun i=>[.rs 6 (pn c i) (pg c i)]) l (fun i=>cellsO (ow o i)) z z = !true)→False:=fun z h kk=>by
    have e:seeB lo hi k (fun i=>[.rs 6 (pn c i) (pg c i)]) l (fun i=>cellsO (ow o i)) z z=true:=h
    rw [e] at kk
    cases kk
   have hR:PV.val (.bool (rsQ (Rat.divInt (IntKind.i64.wrap m) 255)).s)=PV.val (.bool (rsQ q).s)∧PV.val (.string (rsQ (Rat.divInt (IntKind.i64.wrap m) 255)).b)=PV.val (.string (rsQ q).b)∧PV.val (.string (rsQ (Rat.divInt (IntKind.i64.wrap m) 255)).c)=PV.val (.string (rsQ q).c):=by
    rw [hq]
    exact⟨rfl,rfl,rfl⟩
   have hD:=cell6 hd.symm
   have nw:IntKind.i64.wrap m < 256∧0≤IntKind.i64.wrap m:=by omega
   cases x with
   |false=>with_unfolding_all refine⟨fun _=>⟨fun _=>⟨fun _=>⟨fun _=>⟨⟨hX4,pa⟩,fun h=>(hB y e2.symm h).elim,fun _=>⟨fun _=>⟨[],stOf [(8,.val (.bool true))] [] 0 [],Weak.of (by simp) trivial ⟨rfl,trivial⟩ trivial,rfl,rfl⟩,fun h=>(nomatch h)⟩⟩,fun h=>(nomatch h)⟩,fun h=>(nomatch h)⟩,fun h=>(nomatch h)⟩,fun h=>(nomatch h)⟩
   |true =>
    obtain⟨⟨s1,s2⟩,s3,s4,s5⟩:=see_part hreg ca cb cd hdX hdY hq01.1 hq01.2 e1.symm
    with_unfolding_all refine⟨fun _=>⟨fun _=>⟨fun _=>⟨fun _=>⟨⟨hX4,pa⟩,fun h=>(hB y e2.symm h).elim,fun _=>⟨fun h=>(nomatch h),fun _=>⟨Unit,fun _=>True,fun _=>stOf [(4,.ptr 0 0 0 0),(5,.ptr 1 1 0 0),(6,.ptr 2 2 0 0),(8,.val (.bool false)),(15,.ptr 3 3 0 0)] [⟨31,14,0,true,false,1,fun _=>regC lo hi k c l o⟩,⟨25,6,1,true,false,1,fun _=>a.cells⟩,⟨25,6,2,true,false,1,fun _=>b.cells⟩,⟨23,3,3,true,false,1,fun _=>(rsQ q).cells⟩] 4 [],?_,fun _ _=>?_⟩⟩⟩,fun h=>(nomatch h)⟩,fun h=>(nomatch h)⟩,fun h=>(nomatch h)⟩,fun h=>(nomatch h)⟩
    ·with_unfolding_all refine⟨⟨⟨by omega,by omega⟩,by decide,by decide⟩,(),[some 0,some 1,some 2,some 3],trivial,Weak.of (by simp) ⟨⟨lt_ok rfl,rfl,rfl,rfl,rfl,rfl,⟨rfl,rfl⟩,⟨rfl,rfl⟩,⟨rfl,rfl⟩,⟨rfl,rfl⟩,⟨rfl,rfl⟩,⟨rfl,rfl⟩,⟨rfl,rfl⟩,⟨rfl,rfl⟩,⟨rfl,rfl⟩,⟨rfl,rfl⟩,⟨rfl,rfl⟩,⟨rfl,rfl⟩,⟨⟨rfl,rfl,fun _ _=>rfl⟩,rfl⟩,⟨⟨rfl,rfl,fun _ _=>rfl⟩,rfl⟩,trivial⟩,⟨lt_ok rfl,rfl,rfl,rfl,rfl,rfl,⟨rfl,rfl⟩,⟨rfl,rfl⟩,⟨rfl,rfl⟩,⟨rfl,rfl⟩,⟨rfl,rfl⟩,⟨rfl,rfl⟩,trivial⟩,⟨lt_ok rfl,rfl,rfl,rfl,rfl,rfl,⟨rfl,rfl⟩,⟨rfl,rfl⟩,⟨rfl,rfl⟩,⟨rfl,rfl⟩,⟨rfl,rfl⟩,⟨rfl,rfl⟩,trivial⟩,⟨lt_ok rfl,rfl,rfl,rfl,rfl,rfl,⟨hR.1,rfl⟩,⟨hR.2.1,rfl⟩,⟨hR.2.2,rfl⟩,trivial⟩,trivial⟩ ⟨⟨rfl,rfl,rfl,lt_ok rfl,_,rfl⟩,⟨rfl,rfl,rfl,lt_ok rfl,_,rfl⟩,⟨rfl,rfl,rfl,lt_ok rfl,_,rfl⟩,rfl,⟨rfl,rfl,rfl,lt_ok rfl,_,rfl⟩,trivial⟩ trivial⟩
    ·with_unfolding_all refine⟨Unit,fun _=>True,fun _=>stOf [(4,.ptr 0 0 0 0),(5,.ptr 1 1 0 0),(6,.ptr 2 2 0 0),(8,.val (.bool false)),(17,.ptr 3 3 0 0)] [⟨31,14,0,true,false,1,fun _=>regC lo hi k c l o⟩,⟨25,6,1,true,false,1,fun _=>a.cells⟩,⟨25,6,2,true,false,1,fun _=>b.cells⟩,⟨25,6,3,true,false,1,fun _=>d.cells⟩] 4 [],?_,fun _ _=>?_⟩
     ·with_unfolding_all refine⟨⟨pa1,pb1,pr1⟩,(),[some 0,some 1,some 2,some 4],trivial,Weak.of (by simp) ⟨⟨lt_ok rfl,rfl,rfl,rfl,rfl,rfl,⟨rfl,rfl⟩,⟨rfl,rfl⟩,⟨rfl,rfl⟩,⟨rfl,rfl⟩,⟨rfl,rfl⟩,⟨rfl,rfl⟩,⟨rfl,rfl⟩,⟨rfl,rfl⟩,⟨rfl,rfl⟩,⟨rfl,rfl⟩,⟨rfl,rfl⟩,⟨rfl,rfl⟩,⟨⟨rfl,rfl,fun _ _=>rfl⟩,rfl⟩,⟨⟨rfl,rfl,fun _ _=>rfl⟩,rfl⟩,trivial⟩,⟨lt_ok rfl,rfl,rfl,rfl,rfl,rfl,⟨rfl,rfl⟩,⟨rfl,rfl⟩,⟨rfl,rfl⟩,⟨rfl,rfl⟩,⟨rfl,rfl⟩,⟨rfl,rfl⟩,trivial⟩,⟨lt_ok rfl,rfl,rfl,rfl,rfl,rfl,⟨rfl,rfl⟩,⟨rfl,rfl⟩,⟨rfl,rfl⟩,⟨rfl,rfl⟩,⟨rfl,rfl⟩,⟨rfl,rfl⟩,trivial⟩,⟨lt_ok rfl,rfl,rfl,rfl,rfl,rfl,⟨hD.1,rfl⟩,⟨hD.2.1,rfl⟩,⟨hD.2.2.1,rfl⟩,⟨hD.2.2.2.1,rfl⟩,⟨hD.2.2.2.2.1,rfl⟩,⟨hD.2.2.2.2.2,rfl⟩,trivial⟩,trivial⟩ ⟨⟨rfl,rfl,rfl,lt_ok rfl,_,rfl⟩,⟨rfl,rfl,rfl,lt_ok rfl,_,rfl⟩,⟨rfl,rfl,rfl,lt_ok rfl,_,rfl⟩,rfl,⟨rfl,rfl,rfl,lt_ok rfl,_,rfl⟩,trivial⟩ trivial⟩
     ·with_unfolding_all refine⟨⟨hX4,pa,pd⟩,⟨Unit,fun _=>True,fun _=>stOf [(4,.ptr 0 0 0 0),(5,.ptr 1 1 0 0),(6,.ptr 2 2 0 0),(8,.val (.bool false)),(17,.ptr 3 3 0 0),(18,.val (.bool true)),(19,.val (.int .i64 0)),(20,.val (.bool true)),(21,.val (.int .i64 0))] [⟨31,14,0,true,false,1,fun _=>regC lo hi k c l o⟩,⟨25,6,1,true,false,1,fun _=>a.cells⟩,⟨25,6,2,true,false,1,fun _=>b.cells⟩,⟨25,6,3,true,false,1,fun _=>d.cells⟩] 4 [],?_,fun _ _=>?_⟩⟩
      ·with_unfolding_all refine⟨⟨hX4,pd,pb⟩,(),[some 0,some 1,some 2,some 3],trivial,Weak.of (by simp) ⟨⟨lt_ok rfl,rfl,rfl,rfl,rfl,rfl,⟨rfl,rfl⟩,⟨rfl,rfl⟩,⟨rfl,rfl⟩,⟨rfl,rfl⟩,⟨rfl,rfl⟩,⟨rfl,rfl⟩,⟨rfl,rfl⟩,⟨rfl,rfl⟩,⟨rfl,rfl⟩,⟨rfl,rfl⟩,⟨rfl,rfl⟩,⟨rfl,rfl⟩,⟨⟨rfl,rfl,fun _ _=>rfl⟩,rfl⟩,⟨⟨rfl,rfl,fun _ _=>rfl⟩,rfl⟩,trivial⟩,⟨lt_ok rfl,rfl,rfl,rfl,rfl,rfl,⟨rfl,rfl⟩,⟨rfl,rfl⟩,⟨rfl,rfl⟩,⟨rfl,rfl⟩,⟨rfl,rfl⟩,⟨rfl,rfl⟩,trivial⟩,⟨lt_ok rfl,rfl,rfl,rfl,rfl,rfl,⟨rfl,rfl⟩,⟨rfl,rfl⟩,⟨rfl,rfl⟩,⟨rfl,rfl⟩,⟨rfl,rfl⟩,⟨rfl,rfl⟩,trivial⟩,⟨lt_ok rfl,rfl,rfl,rfl,rfl,rfl,⟨rfl,rfl⟩,⟨rfl,rfl⟩,⟨rfl,rfl⟩,⟨rfl,rfl⟩,⟨rfl,rfl⟩,⟨rfl,rfl⟩,trivial⟩,trivial⟩ ⟨⟨rfl,rfl,rfl,lt_ok rfl,_,rfl⟩,⟨rfl,rfl,rfl,lt_ok rfl,_,rfl⟩,⟨rfl,rfl,rfl,lt_ok rfl,_,rfl⟩,rfl,⟨rfl,rfl,rfl,lt_ok rfl,_,rfl⟩,hV _ _ _ s1,hE _ _ ca cd,hV _ _ _ s2,hE _ _ cd cb,trivial⟩ trivial⟩
      ·with_unfolding_all exact⟨fun _=>⟨fun _=>⟨fun _=>⟨fun _=>⟨⟨hX4,pa⟩,fun _=>⟨⟨hX4,pb⟩,fun _=>⟨⟨hX4,pd⟩,fun _=>⟨[],stOf [(8,.val (.bool true))] [] 0 [],Weak.of (by simp) trivial ⟨rfl,trivial⟩ trivial,rfl,rfl⟩,fun h=>(hF _ s5 h).elim⟩,fun h=>(hF _ s4 h).elim⟩,fun h=>(hF _ s3 h).elim⟩,fun h=>(nomatch h)⟩,fun h=>(nomatch h)⟩,fun h=>(nomatch h)⟩,fun h=>(nomatch h)⟩
 ·cases e
end Go.Proofs
namespace Go.Ex
open Go Go.RowKit
section
variable {H:Type} {enc:TypeId×Value→H} {P:Program} {w:World}
def TypFs (T:TypeId→List PV→Prop):List Field→List PV→Prop
 |[],ps=>ps=[]
 |f::fs,ps=>∃qs rs,ps=qs++rs∧T f.type qs∧TypFs T fs rs
def Typ (P:Program):Nat→TypeId→List PV→Prop
 |0,_,_=>False
 |d+1,t,ps=>match P.underlying t with
  |some .bool=>∃b,ps=[.val (.bool b)]
  |some (.int k)=>∃z,ps=[.val (.int k z)]∧(Lit.int k z).wf=true
  |some .string=>∃s:ByteArray,ps=[.val (.string s)]∧s.size≤140737488355328
  |some (.slice e)=>∃m g,ps=[.rs (P.cellsOf e) m g]∧m≤140737488355328∧∀i,i < m→Typ P d e (g i)
  |some (.struct fs)=>TypFs (Typ P d) fs.toList ps
  |_=>False
def tile (P:Program):Nat→List Field→Option Nat
 |o,[]=>some o
 |o,f::fs=>if f.offset=o then tile P (o+P.cellsOf f.type) fs else none
def plainT (P:Program):Nat→TypeId→Bool
 |0,_=>false
 |d+1,t=>match P.underlying t with
  |some .bool|some (.int _)|some .string=>true
  |some (.slice e)=>plainT P d e&&decide (0 < P.cellsOf e)&&decide (0 < P.bytesOf e)
  |some (.struct fs)=>fs.toList.all (fun f=>plainT P d f.type)&&decide (tile P 0 fs.toList=some (P.cellsOf t))
  |_=>false
def Pt (A:Nat→Prop) (w:World) (ps:List PV) (cs:List Value):Prop:=ps.length=cs.length∧∀(i:Nat) p u,ps[i]? = some p→cs[i]? = some u→R0 A w p u∧cellOk p=true
theorem Pt.append {A:Nat→Prop} {ps qs:List PV} {cs ds:List Value} (h:Pt A w ps cs) (k:Pt A w qs ds):Pt A w (ps++qs) (cs++ds):=by
 refine⟨by rw [List.length_append,List.length_append,h.1,k.1],fun i p u hp hu=>?_⟩
 rw [List.getElem?_append] at hp hu
 rw [←h.1] at hu
 split at hp
 ·rename_i hi
  rw [if_pos hi] at hu
  exact h.2 i p u hp hu
 ·rename_i hi
  rw [if_neg hi] at hu
  exact k.2 _ p u hp hu
theorem fields_typ {A:Nat→Prop} {d n:Nat} {cs:List Value} (hn:cs.length=n):∀{fs:List Field} {o:Nat},tile P o fs=some n →
  (∀f∈fs,∃ps,Typ P d f.type ps∧Pt A w ps ((cs.drop f.offset).take (P.cellsOf f.type)))→∃ps,TypFs (Typ P d) fs ps∧Pt A w ps (cs.drop o)
 |[],o,h,_=>by
  cases h
  refine⟨[],rfl,?_,fun i p u hp=>by simp at hp⟩
  rw [List.length_drop]
  simp only [List.length_nil]
  omega
 |f::fs,o,h,hf=>by
  unfold tile at h
  split at h
  ·rename_i e
   obtain⟨rs,h1,h2⟩:=fields_typ hn h fun f hf'=>hf f (List.mem_cons_of_mem _ hf')
   obtain⟨qs,h3,h4⟩:=hf f List.mem_cons_self
   refine⟨qs++rs,⟨qs,rs,rfl,h3,h1⟩,?_⟩
   rw [e] at h4
   have:=h4.append h2
   rw [←List.drop_drop,List.take_append_drop] at this
   exact this
  ·cases h
theorem trod_typ {A:Nat→Prop} (hA:∀k,k < w.heap.size→A k) {base:Nat} {spare:Nat→Bool} {held:Bool}:∀(d fuel:Nat) {t:TypeId} {cs:List Value} {x:DataW H×List MemPlace},plainT P d t=true →
  DataW.trod enc P w base spare held fuel t cs=some x→(∀n∈x.1.weights P t,n≤reachBytes)→∃ps,Typ P d t ps∧Pt A w ps cs
 |0,_,_,_,_,hp,_,_=>by simp [plainT] at hp
 |d+1,fuel,t,cs,x,hp,h,hw=>by
  have one:∀v:Value,v.oneCell'=true→Pt A w [.val v] [v]:=fun v hv=>⟨rfl,fun i p u h1 h2=>by
   match i with
   |0=>cases h1;cases h2;exact⟨.val v,hv⟩
   |i+1=>simp at h1⟩
  unfold plainT at hp
  unfold Typ
  split at hp
  ·rename_i ht
   obtain⟨b,rfl,rfl⟩:=DataW.trod_bool ht h
   exact⟨_,⟨b,rfl⟩,one _ rfl⟩
  ·rename_i k ht
   obtain⟨b,rfl,rfl,hb⟩:=DataW.trod_int ht h
   exact⟨_,⟨b,rfl,hb⟩,one _ rfl⟩
  ·rename_i ht
   obtain⟨b,rfl,rfl,hb⟩:=DataW.trod_string ht h
   have:=hw b.data.toList.length (by simp [DataW.weights])
   have e:b.data.toList.length=b.size:=Array.length_toList
   refine⟨_,⟨b,rfl,?_⟩,one _ rfl⟩
   rw [e] at this
   unfold reachBytes at this
   omega
  ·rename_i e ht
   simp only [Bool.and_eq_true,decide_eq_true_eq] at hp
   obtain⟨⟨hpe,hce⟩,hbe⟩:=hp
   rcases Deep.open_slice ht h with ⟨rfl,rfl⟩|⟨a,len,cap,m,n,D,Pl,rfl,hb,hl,hm,hme,rfl,hel⟩
   ·refine⟨[.rs (P.cellsOf e) 0 fun _=>[]],⟨0,_,rfl,Nat.zero_le _,fun i hi=>absurd hi (Nat.not_lt_zero i)⟩,rfl,fun i p u h1 h2=>?_⟩
    match i with
    |0=>cases h1;cases h2;exact⟨.rs _ _ _ _ _ (fun _ _=>undef) (fun i hi=>absurd hi (Nat.not_lt_zero i)) (Nat.le_refl _) (Nat.zero_le _) (fun i f p hi=>absurd hi (Nat.not_lt_zero i)) (fun i f p hi=>absurd hi (Nat.not_lt_zero i)),rfl⟩
    |i+1=>simp at h1
   ·have hlm:len≤m:=by rw [hme];split<;>omega
    have hsz:((List.range len).map D).length*P.bytesOf e≤reachBytes:=by
     refine Nat.le_trans (Nat.mul_le_mul_right _ (Nat.le_add_right _ ((List.range (m - len)).map fun j=>D (len+j)).length)) (hw _ ?_)
     simp [DataW.weights,ht]
    rw [List.length_map,List.length_range] at hsz
    have hlen:len≤140737488355328:=by
     have:=Nat.le_mul_of_pos_right len hbe
     unfold reachBytes at hsz
     omega
    have hall:∀ds:List (DataW H),∀y∈ds,∀k∈y.weights P e,k∈DataW.weightsAll P e ds:=fun ds=>by
     induction ds with
     |nil=>intro y hy;simp at hy
     |cons z r ih =>
      intro y hy k hk
      rw [DataW.weightsAll,List.mem_append]
      rcases List.mem_cons.1 hy with rfl|hy
      ·exact .inl hk
      ·exact .inr (ih y hy k hk)
    have key:∀i,i < len→∃z:List PV×List Value,Typ P d e z.1∧Pt A w z.1 z.2∧z.2.length=P.cellsOf e∧∀f,f < P.cellsOf e→w.cell? ((a.add (i*P.cellsOf e)).add f)=z.2[f]?:=fun i hi=>by
     obtain⟨cs',h1,h2⟩:=hel i (by omega)
     obtain⟨ps,k1,k2⟩:=trod_typ hA d n hpe h2 (fun k hk=>hw k (by
      simp only [DataW.weights,ht,List.mem_cons,List.mem_append]
      exact .inr (.inl (hall _ (D i) (List.mem_map.2 ⟨i,List.mem_range.2 hi,rfl⟩) k hk))))
     obtain⟨_,c2,c3⟩:=World.cells?_some h1
     exact⟨(ps,cs'),k1,k2,c2,c3⟩
    obtain⟨z,hz⟩:=Deep.choose_lt key
    have hspot:0 < len→a.spot=none:=fun h0=>by
     obtain⟨_,_,c1,c2⟩:=hz 0 h0
     have:=c2 0 hce
     rw [List.getElem?_eq_getElem (by omega),Nat.zero_mul] at this
     unfold Addr.add at this
     rw [if_pos rfl,if_pos rfl] at this
     unfold World.cell? at this
     split at this
     ·split at this
      ·cases this
      ·rename_i hs
       cases hsp:a.spot with
       |none=>rfl
       |some _=>rw [hsp] at hs;exact absurd rfl hs
     ·cases this
    have hadd:∀i f,0 < len→(a.add (i*P.cellsOf e)).add f=⟨a.block,a.off+(i*P.cellsOf e+f),none⟩:=fun i f h0=>by
     have hs:=hspot h0
     obtain⟨b,o,s⟩:=a
     cases hs
     rw [WideShapes.add_plain,WideShapes.add_plain,Nat.add_assoc]
    have hcell:∀i f p,i < len→(z i).1[f]? = some p→∃u,(z i).2[f]? = some u∧w.cell? ⟨a.block,a.off+(i*P.cellsOf e+f),none⟩=some u:=fun i f p hi hp=>by
     obtain⟨_,⟨k1,_⟩,k3,k4⟩:=hz i hi
     obtain⟨hf,_⟩:=List.getElem?_eq_some_iff.1 hp
     have:=k4 f (by omega)
     rw [hadd i f (by omega)] at this
     rw [this]
     exact⟨(z i).2[f]'(by omega),List.getElem?_eq_getElem _,List.getElem?_eq_getElem _⟩
    refine⟨[.rs (P.cellsOf e) len fun i=>(z i).1],⟨len,_,rfl,hlen,fun i hi=>(hz i hi).1⟩,rfl,fun i p u h1 h2=>?_⟩
    match i with
    |i+1=>simp at h1
    |0 =>
     cases h1
     cases h2
     refine⟨.rs _ _ _ _ _ (fun i f=>((z i).2[f]?).getD undef) (fun i hi=>?_) hl hm (fun i f p hi hp=>?_) (fun i f p hi hp=>?_),rfl⟩
     ·obtain⟨_,⟨k1,k2⟩,k3,_⟩:=hz i hi
      refine⟨k1.trans k3,fun p hp=>?_⟩
      obtain⟨f,hf⟩:=List.getElem?_of_mem hp
      obtain⟨hf',_⟩:=List.getElem?_eq_some_iff.1 hf
      exact(k2 f p _ hf (List.getElem?_eq_getElem (show f < (z i).2.length by omega))).2
     ·obtain⟨u,e1,e2⟩:=hcell i f p hi hp
      obtain⟨b,o,s⟩:=a
      have hs:s=none:=hspot (show 0 < len by omega)
      subst hs
      refine⟨b,o,rfl,hA _ ?_,?_⟩
      ·exact Nat.lt_of_not_le fun hge=>by
        unfold World.cell? at e2
        rw [show w.heap[(⟨b,o+(i*P.cellsOf e+f),none⟩:Addr).block]? = none from Array.getElem?_eq_none hge] at e2
        cases e2
      ·rw [e2,e1]
       rfl
     ·obtain⟨u,e1,e2⟩:=hcell i f p hi hp
      rw [e1]
      exact((hz i hi).2.1.2 f p u hp e1).1
  ·rename_i fs ht
   simp only [Bool.and_eq_true,decide_eq_true_eq,List.all_eq_true] at hp
   obtain⟨xs,n,rfl,rfl,hl,hlen,hf⟩:=DataW.trod_struct ht h
   obtain⟨ps,h1,h2⟩:=fields_typ (P:=P) (A:=A) (w:=w) (d:=d) hl hp.2 fun f hm=>by
    obtain⟨i,hi⟩:=List.getElem?_of_mem hm
    have hi':fs[i]? = some f:=by rw [←hi,Array.getElem?_toList]
    have h1:=hf i f hi'
    obtain⟨hil,_⟩:=List.getElem?_eq_some_iff.1 hi
    have hil':i < xs.length:=by rw [hlen];simpa using hil
    rw [List.getElem?_eq_getElem hil'] at h1
    refine trod_typ hA d n (hp.1 f hm) h1 fun k hk=>hw k ?_
    have e2:DataW.weights P t (.agg (xs.map (·.1)))=DataW.weightsEach P (fs.toList.map (·.type)) (xs.map (·.1)):=by simp only [DataW.weights,ht]
    show k∈DataW.weights P t (.agg (xs.map (·.1)))
    rw [e2]
    exact DataW.weights_mem_each (j:=i) (t:=f.type) (d:=xs[i].1) (by rw [List.getElem?_map,hi];rfl) (by rw [List.getElem?_map,List.getElem?_eq_getElem hil'];rfl) k hk
   exact⟨ps,h1,h2⟩
  ·cases hp
def TypV (P:Program) (d:Nat) (t:TypeId) (p:PV):Prop:=match P.underlying t with
 |some (.struct _)=>∃xs,p=mkAgg xs∧Typ P d t xs
 |_=>Typ P d t [p]
def TypAll (P:Program) (d:Nat):List TypeId→List PV→Prop
 |[],ps=>ps=[]
 |t::ts,ps=>∃p qs,ps=p::qs∧TypV P d t p∧TypAll P d ts qs
theorem trod_typV {A:Nat→Prop} (hA:∀k,k < w.heap.size→A k) {base base':Nat} {spare:Nat→Bool} {held:Bool} {r:Reach} {d:Nat} {t:TypeId} {v:Value} {y:DataW H} {q:List MemPlace} (hp:plainT P d t=true)
  (h:DataW.Trod enc P w base spare held t v y q) (hv:Value.okWide P w r base' t v) (hw:∀n∈y.weights P t,n≤reachBytes):∃p,TypV P d t p∧R0 A w p v:=by
 obtain⟨fuel,h⟩:=h
 obtain⟨ps,h1,h2⟩:=trod_typ hA d fuel hp h hw
 have one:v.cells.toList=[v]→∃p,ps=[p]∧R0 A w p v:=fun e=>by
  rw [e] at h2
  match ps,h2 with
  |[p],h2=>exact⟨p,rfl,(h2.2 0 p v rfl rfl).1⟩
  |[],h2=>exact absurd h2.1 (by simp)
  |_::_::_,h2=>exact absurd h2.1 (by simp)
 unfold TypV
 match d,hp with
 |d+1,hp =>
  unfold plainT at hp
  split at hp
  ·rename_i ht
   obtain⟨b,rfl⟩:=WideShapes.okWide_bool ht hv
   obtain⟨p,rfl,hr⟩:=one rfl
   rw [ht]
   exact⟨p,h1,hr⟩
  ·rename_i k ht
   obtain⟨b,rfl⟩:=WideShapes.okWide_int ht hv
   obtain⟨p,rfl,hr⟩:=one rfl
   rw [ht]
   exact⟨p,h1,hr⟩
  ·rename_i ht
   obtain⟨b,rfl⟩:=WideShapes.okWide_string ht hv
   obtain⟨p,rfl,hr⟩:=one rfl
   rw [ht]
   exact⟨p,h1,hr⟩
  ·rename_i e ht
   obtain⟨a,len,cap,rfl⟩:=WideShapes.okWide_slice ht hv
   obtain⟨p,rfl,hr⟩:=one rfl
   rw [ht]
   exact⟨p,h1,hr⟩
  ·rename_i fs ht
   obtain⟨cs,rfl,_⟩:=WideShapes.okWide_struct ht hv
   rw [ht]
   have h2':Pt A w ps cs.toList:=h2
   exact⟨Ex.mkAgg ps,⟨ps,rfl,h1⟩,R0.mkAgg (by simpa using h2'.1) fun i p u hp hu=>(h2'.2 i p u hp (by rw [Array.getElem?_toList];exact hu)).1⟩
  ·cases hp
theorem trodAll_typ {A:Nat→Prop} (hA:∀k,k < w.heap.size→A k) {base base':Nat} {spare:Nat→Bool} {held:Bool} {r:Reach} {d:Nat}:∀{ts:List TypeId} {vs:List Value} {ds:List (DataW H)} {q:List MemPlace},(∀t∈ts,plainT P d t=true) →
  DataW.TrodAll enc P w base spare held ts vs ds q→(∀(j:Nat) t v,ts[j]? = some t→vs[j]? = some v→Value.okWide P w r base' t v)→(∀n∈DataW.weightsEach P ts ds,n≤reachBytes) →
  ∃ps,TypAll P d ts ps∧ps.length=vs.length∧∀(i:Nat) p v,ps[i]? = some p→vs[i]? = some v→R0 A w p v
 |[],[],_,_,_,_,_,_=>⟨[],rfl,rfl,fun i p v h=>by simp at h⟩
 |[],_::_,_,_,_,h,_,_=>h.elim
 |_::_,[],_,_,_,h,_,_=>h.elim
 |_::_,_::_,[],_,_,h,_,_=>h.elim
 |t::ts,v::vs,y::ds,q,hp,h,hv,hw=>by
  obtain⟨q1,q2,h1,h2,_⟩:=h
  obtain⟨p,k1,k2⟩:=trod_typV (A:=A) hA (hp t List.mem_cons_self) h1 (hv 0 t v rfl rfl) fun n hn=>hw n (by rw [DataW.weightsEach,List.mem_append];exact .inl hn)
  obtain⟨ps,k3,k4,k5⟩:=trodAll_typ hA (fun t ht=>hp t (List.mem_cons_of_mem _ ht)) h2 (fun j t' v' a b=>hv (j+1) t' v' (by simpa using a) (by simpa using b)) fun n hn=>hw n (by rw [DataW.weightsEach,List.mem_append];exact .inr hn)
  refine⟨p::ps,⟨p,ps,rfl,k1,k3⟩,by simp [k4],fun i p' v' a b=>?_⟩
  match i with
  |0=>cases a;cases b;exact k2
  |i+1=>exact k5 i p' v' (by simpa using a) (by simpa using b)
theorem trodAll_below (hl:laidOutB P=true) {w':World} (hb:Below w.heap.size w w'):∀{ts:List TypeId} {vs:List Value} {ds:List (DataW H)} {q:List MemPlace},(∀t∈ts,P.readableRec t=true∧t < P.types.size) →
  DataW.TrodAll enc P w 0 (fun _=>true) true ts vs ds q→(∀x∈q,x.block < w.heap.size)→DataW.TrodAll enc P w' 0 (fun b=>decide (b < w.heap.size)) true ts vs ds q
 |[],[],[],_,_,h,_=>h
 |[],[],_::_,_,_,h,_=>h.elim
 |[],_::_,_,_,_,h,_=>h.elim
 |_::_,[],_,_,_,h,_=>h.elim
 |_::_,_::_,[],_,_,h,_=>h.elim
 |t::ts,v::vs,y::ds,q,hp,h,hq=>by
  obtain⟨q1,q2,h1,h2,rfl⟩:=h
  exact⟨q1,q2,Below.trod hl (hp t List.mem_cons_self).1 (hp t List.mem_cons_self).2 h1 hb fun x hx=>hq x (List.mem_append.2 (.inl hx)),
   trodAll_below hl hb (fun t ht=>hp t (List.mem_cons_of_mem _ ht)) h2 fun x hx=>hq x (List.mem_append.2 (.inr hx)),rfl⟩
theorem law_contract (hl:laidOutB P=true) {f:FuncId} {fn:Func} {s:ChangeSpec} {d tb:Nat} {c:List PV→Option Ans} (hv:s.vars=[]) (hs:∀ds:List (DataW H),ds.length=fn.params.size→s.fn H ds={ results:=[.lit (.bool true)],args:=ds })
  (hr:fn.resultTypes = #[tb]) (ht:P.underlying tb=some .bool) (hp:(fn.params.toList.all fun t=>plainT P d t&&P.readableRec t&&decide (t < P.types.size))=true) (hc:FnOk P f c)
  (hd:∀ps,TypAll P d fn.params.toList ps→∃pre,c ps=some ⟨pre,.val (.bool true),[]⟩∧Met pre)
  (W:World) (base:Nat) (args:Array Value) (ds gs:List (DataW H)) (before:List MemPlace)
  (hval:∀(j:Nat) t v,fn.params[j]? = some t→args[j]? = some v→Value.okWide P W .any base t v)
  (hW:DataW.Whole enc P fn.params.toList s.vars false W args.toList ds gs before)
  (hsz:(DataW.weightsEach P (fn.params.toList++s.plain.varTypes P) (ds++gs)).all (·≤reachBytes)=true) :
  Calls P f args W fun e W'=>∃v,e=.returned v∧s.post enc P fn false true false false W args v W':=by
 have hW':=hW
 obtain⟨p,q,hA,hV,rfl,hfz,hnd⟩:=hW
 rw [hv] at hV
 obtain⟨rfl,rfl⟩:=ChangeShapes.trodVars_none hV
 have hp':∀t∈fn.params.toList,plainT P d t=true∧P.readableRec t=true∧t < P.types.size:=fun t h=>by
  have:=List.all_eq_true.1 hp t h
  simp only [Bool.and_eq_true,decide_eq_true_eq] at this
  exact⟨this.1.1,this.1.2,this.2⟩
 have hvt:s.plain.varTypes P=[]:=by
  unfold DataSpec.varTypes ChangeSpec.plain
  rw [hv]
  rfl
 rw [hvt,List.append_nil,List.append_nil] at hsz
 obtain⟨ps,h1,h2,h3⟩:=trodAll_typ (A:=fun k=>k < W.heap.size) (fun k h=>h) (fun t h=>(hp' t h).1) hA (fun j t v a b=>hval j t v (by rw [←Array.getElem?_toList];exact a) (by rw [←Array.getElem?_toList];exact b)) fun n hn=>by simpa using List.all_eq_true.1 hsz n hn
 obtain⟨pre,h4,h5⟩:=hd ps h1
 have hlt:=hW'.lt
 rw [List.append_nil] at hlt
 refine((hc ps _ h4).2 h5 (fun k=>k < W.heap.size) W args (fun k h=>h) (by simpa using h2) fun i p v a b=>h3 i p v a (by rw [Array.getElem?_toList];exact b)).mono fun e W' ⟨v,β,he,hres⟩=>?_
 refine⟨v,he,?_⟩
 have hv':v=.bool true:=hres.val.val_eq
 subst hv'
 have hdl:ds.length=fn.params.size:=by
  have:∀{ts:List TypeId} {vs:List Value} {ds:List (DataW H)} {q:List MemPlace},DataW.TrodAll enc P W 0 (fun _=>true) true ts vs ds q→ds.length=ts.length:=fun {ts}=>by
   induction ts with
   |nil =>
    intro vs ds q h
    match vs,ds,h with
    |[],[],_=>rfl
   |cons t ts ih =>
    intro vs ds q h
    match vs,ds,h with
    |v::vs,y::ds,h =>
     obtain⟨_,_,_,h2,_⟩:=h
     rw [List.length_cons,List.length_cons,ih h2]
  rw [this hA]
  simp
 have hb:=hres.below
 refine⟨ds,[],p++[],[],p,[],hW',?_,?_,?_,hb.frame _,fun h=>by cases h⟩
 ·rw [hs (ds++[]) (by rw [List.append_nil];exact hdl),hr]
  exact⟨[],[],⟨1,by simp [DataW.trod,Value.cells,ht]⟩,rfl,rfl⟩
 ·rw [hs (ds++[]) (by rw [List.append_nil];exact hdl),List.append_nil]
  exact trodAll_below hl hb (fun t h=>(hp' t h).2) hA hlt
 ·rw [hv,hs (ds++[]) (by rw [List.append_nil];exact hdl)]
  rfl
end
end Go.Ex
namespace Go.Proofs
open Go Go.Ex Go.Num
set_option maxRecDepth 100000
theorem cells25:Tryz.prog.cellsOf 25=6:=by kernel_rfl
theorem typ_int {d t:Nat} {k:IntKind} {ps:List PV} (ht:Tryz.prog.underlying t=some (.int k)) (h:Typ Tryz.prog d t ps):∃z,ps=[.val (.int k z)]∧k.min≤z∧z≤k.max:=by
 match d,h with
 |d+1,h =>
  unfold Typ at h
  rw [ht] at h
  obtain⟨z,rfl,hz⟩:=h
  unfold Lit.wf at hz
  simp only [Bool.and_eq_true,decide_eq_true_eq] at hz
  exact⟨z,rfl,hz⟩
theorem typ_string {d t:Nat} {ps:List PV} (ht:Tryz.prog.underlying t=some .string) (h:Typ Tryz.prog d t ps):∃s:ByteArray,ps=[.val (.string s)]∧s.size≤140737488355328:=by
 match d,h with
 |d+1,h =>
  unfold Typ at h
  rw [ht] at h
  exact h
theorem typ_bool {d t:Nat} {ps:List PV} (ht:Tryz.prog.underlying t=some .bool) (h:Typ Tryz.prog d t ps):∃b,ps=[.val (.bool b)]:=by
 match d,h with
 |d+1,h =>
  unfold Typ at h
  rw [ht] at h
  exact h
theorem typ_struct {d t:Nat} {fs:Array Field} {ps:List PV} (ht:Tryz.prog.underlying t=some (.struct fs)) (h:Typ Tryz.prog d t ps):TypFs (Typ Tryz.prog (d - 1)) fs.toList ps:=by
 match d,h with
 |d+1,h =>
  unfold Typ at h
  rw [ht] at h
  exact h
theorem typ_slice {d t e:Nat} {ps:List PV} (ht:Tryz.prog.underlying t=some (.slice e)) (h:Typ Tryz.prog d t ps):∃m g,ps=[.rs (Tryz.prog.cellsOf e) m g]∧m≤140737488355328∧∀i,i < m→Typ Tryz.prog (d - 1) e (g i):=by
 match d,h with
 |d+1,h =>
  unfold Typ at h
  rw [ht] at h
  exact h
theorem typ_rat {d:Nat} {ps:List PV} (h:Typ Tryz.prog d 23 ps):∃r:RatS,ps=r.cells∧r.le 140737488355328:=by
 obtain⟨q1,r1,rfl,h1,q2,r2,rfl,h2,q3,r3,rfl,h3,rfl⟩:=typ_struct Tryz.underlying23 h
 obtain⟨s,rfl⟩:=typ_bool Tryz.underlying4 h1
 obtain⟨b,rfl,hb⟩:=typ_string Tryz.underlying9 h2
 obtain⟨c,rfl,hc⟩:=typ_string Tryz.underlying9 h3
 exact⟨⟨s,b,c⟩,rfl,hb,hc⟩
theorem typ_pt {d:Nat} {ps:List PV} (h:Typ Tryz.prog d 25 ps):∃p:PtS,ps=p.cells∧p.le 140737488355328:=by
 obtain⟨q1,r1,rfl,h1,q2,r2,rfl,h2,rfl⟩:=typ_struct Tryz.underlying25 h
 obtain⟨x,rfl,hx⟩:=typ_rat h1
 obtain⟨y,rfl,hy⟩:=typ_rat h2
 exact⟨⟨x,y⟩,rfl,hx,hy⟩
theorem typ_pts {d:Nat} {ps:List PV} (h:Typ Tryz.prog d 34 ps):∃n g,ps=[.rs 6 n g]∧isPL 140737488355328 n g:=by
 obtain⟨n,g,rfl,hn,hg⟩:=typ_slice Tryz.underlying34 h
 rw [cells25]
 refine⟨n,g,rfl,fun i hi=>?_,hn⟩
 obtain⟨p,hp,hl⟩:=typ_pt (hg i hi)
 unfold pts
 rw [hp]
 exact⟨rfl,hl⟩
theorem typ_u8 {d:Nat} {p:PV} (h:TypV Tryz.prog d 5 p):∃z,p=.val (.int .u8 z)∧0≤z∧z < 256:=by
 unfold TypV at h
 rw [Tryz.underlying5] at h
 obtain⟨z,e,h1,h2⟩:=typ_int Tryz.underlying5 h
 cases e
 have h1:(0:Int)≤z:=h1
 have h2:z≤255:=h2
 exact⟨z,rfl,h1,by omega⟩
theorem typ_ptV {d:Nat} {p:PV} (h:TypV Tryz.prog d 25 p):∃q:PtS,p=.val q.v∧q.le 140737488355328:=by
 unfold TypV at h
 rw [Tryz.underlying25] at h
 obtain⟨xs,rfl,h⟩:=h
 obtain⟨q,rfl,hq⟩:=typ_pt h
 exact⟨q,rfl,hq⟩
theorem cells34:Tryz.prog.cellsOf 34=1:=by kernel_rfl
theorem cells63:Tryz.prog.cellsOf 63=3:=by kernel_rfl
theorem typ_region {d:Nat} {p:PV} (h:TypV Tryz.prog d 31 p):∃(lo hi:PtS) (k:Nat) (c:Nat→List PV) (l:Nat) (o:Nat→List PV),p=.agg [.val (.bool lo.x.s),.val (.string lo.x.b),.val (.string lo.x.c),.val (.bool lo.y.s),.val (.string lo.y.b),.val (.string lo.y.c),.val (.bool hi.x.s),.val (.string hi.x.b),.val (.string hi.x.c),.val (.bool hi.y.s),.val (.string hi.y.b),.val (.string hi.y.c),.rs 1 k c,.rs 3 l o] ∧
  (lo.le 140737488355328∧hi.le 140737488355328)∧isCL 140737488355328 k c∧isOL l o:=by
 unfold TypV at h
 rw [Tryz.underlying31] at h
 obtain⟨xs,rfl,h⟩:=h
 obtain⟨q1,r1,rfl,h1,q2,r2,rfl,h2,q3,r3,rfl,h3,rfl⟩:=typ_struct Tryz.underlying31 h
 obtain⟨s1,u1,rfl,g1,s2,u2,rfl,g2,rfl⟩:=typ_struct Tryz.underlying27 h1
 obtain⟨lo,rfl,hlo⟩:=typ_pt g1
 obtain⟨hi,rfl,hhi⟩:=typ_pt g2
 obtain⟨k,c,rfl,hk,hc⟩:=typ_slice Tryz.underlying28 h2
 obtain⟨l,o,rfl,hl,ho⟩:=typ_slice Tryz.underlying29 h3
 rw [cells34,cells63]
 refine⟨lo,hi,k,c,l,o,rfl,⟨hlo,hhi⟩,⟨fun i hi=>?_,hk⟩,fun i hi=>?_,hl⟩
 ·obtain⟨n,g,e,hg⟩:=typ_pts (hc i hi)
  unfold pn pg
  rw [e]
  exact⟨rfl,hg⟩
 ·obtain⟨q1,r1,e,h1,q2,r2,rfl,h2,q3,r3,rfl,h3,rfl⟩:=typ_struct Tryz.underlying63 (ho i hi)
  obtain⟨x,rfl,_⟩:=typ_int Tryz.underlying3 h1
  obtain⟨y,rfl,_⟩:=typ_int Tryz.underlying3 h2
  obtain⟨z,rfl,_⟩:=typ_int Tryz.underlying3 h3
  unfold ow
  rw [e]
  rfl
end Go.Proofs
namespace Go.Proofs.YtpfdckeipckldaaGreat
open Go Go.Ex Go.Num Go.RowKit Go.Proofs
set_option maxRecDepth 100000
theorem own:ownKnob Tryz.prog.godebug=none:=by kernel_rfl
theorem laidOut:laidOutB Tryz.prog=true:=by kernel_rfl
theorem symmetry_met (ps:List PV) (h:TypAll Tryz.prog 8 [31,25,25,5] ps):∃pre,c6 ps=some ⟨pre,.val (.bool true),[]⟩∧Met pre:=by
 obtain⟨p1,q1,rfl,h1,p2,q2,rfl,h2,p3,q3,rfl,h3,p4,q4,rfl,h4,rfl⟩:=h
 obtain⟨lo,hi,k,c,l,o,rfl,hb,hc,ho⟩:=typ_region h1
 obtain⟨a,rfl,ha⟩:=typ_ptV h2
 obtain⟨b,rfl,hb'⟩:=typ_ptV h3
 obtain⟨m,rfl,hm⟩:=typ_u8 h4
 exact⟨_,rfl,fun q e=>by cases e;exact⟨hb,hc,ho,⟨a,rfl,ha⟩,⟨b,rfl,hb'⟩,hm⟩⟩
theorem symmetry_lifted (os:Os) (started:os.Started) (H:Type) (enc:TypeId×Value→H) :
  ReturnsInHanded {} Tryz.checked os 6 .any (Rows.roadmapSymmetrySpec.pre6 enc Tryz.prog Tryz.f6 Rows.roadmapSymmetryRow.domain false) (Rows.roadmapSymmetrySpec.post enc Tryz.prog Tryz.f6 false true false false):=by
 refine returnsInHanded_of_change_sized (C:=Tryz.checked) own started (by kernel_rfl) Tryz.func6
  (ChangeSpec.witness6 (enc:=enc) (C:=Tryz.checked) false ⟨#[],#[.agg #[.bool false,.string ⟨#[]⟩,.string ⟨#[]⟩,.bool false,.string ⟨#[]⟩,.string ⟨#[]⟩,.bool false,.string ⟨#[]⟩,.string ⟨#[]⟩,.bool false,.string ⟨#[]⟩,.string ⟨#[]⟩,.slice none 0 0,.slice none 0 0],.agg #[.bool false,.string ⟨#[]⟩,.string ⟨#[]⟩,.bool false,.string ⟨#[]⟩,.string ⟨#[]⟩],.agg #[.bool false,.string ⟨#[]⟩,.string ⟨#[]⟩,.bool false,.string ⟨#[]⟩,.string ⟨#[]⟩],.int .u8 0],[]⟩ 8 (by kernel_rfl) (by kernel_rfl) (by kernel_rfl) (by kernel_rfl)) ?_
 intro W base args ds gs before hval hW _ hsz _
 exact law_contract (P:=Tryz.prog) (fn:=Tryz.f6) (d:=8) (tb:=4) (s:=Rows.roadmapSymmetrySpec) laidOut rfl (fun ds hd=>by
  match ds,hd with
  |[d1,d2,d3,d4],_=>rfl) rfl Tryz.underlying4 (by kernel_rfl) f6 (fun ps h=>symmetry_met ps h) W base args ds gs before hval hW hsz
theorem symmetry_holds:Rows.RoadmapSymmetrySaid :=
 OpenClaim.holds_of_wide 6 Tryz.f6 rfl rfl rfl rfl rfl rfl rfl ⟨rfl,rfl,rfl,rfl,rfl⟩ rfl rfl rfl rfl rfl (by kernel_rfl) Tryz.func6 (by kernel_rfl)
  (of_decide_eq_true (by kernel_rfl)) (by unfold Func.isWrapper;rw [if_neg (of_decide_eq_false (by kernel_rfl))];exact⟨rfl,rfl⟩)
  (fun os started H enc _=>symmetry_lifted os started H enc)
end Go.Proofs.YtpfdckeipckldaaGreat
