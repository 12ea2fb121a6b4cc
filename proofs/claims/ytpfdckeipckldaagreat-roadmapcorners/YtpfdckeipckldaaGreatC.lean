import Derived.Test.YtpfdckeipckldaaGreatB
set_option maxHeartbeats 8000000
set_option linter.all false
set_option linter.unusedVariables false
set_option linter.unusedSimpArgs false
set_option linter.unnecessarySimpa false
namespace Go.Proofs
open Go Go.Ex Go.Num
set_option maxRecDepth 100000
def T237:Trans:=fun args s K=>args.length≤3∧walk Tryz.prog E237 D237 Tryz.f237 args s K
theorem t237:TransOk Tryz.prog 237 T237:=walk_ok orders E237_ok Tryz.func237 D237 3 ok237 fun _ _ _ h=>h
def c194:List PV→Option Ans
 |[x,y]=>(rdU x).bind fun r=>(rdU y).map fun q=>⟨some ((isU r.1 r.2∧tame (r.1+2)∧r.1=nl (valG r.1 r.2))∧(isU q.1 q.2∧tame (q.1+2)∧q.1=nl (valG q.1 q.2))∧0 < valG q.1 q.2),.tup [rowU (valG r.1 r.2 / valG q.1 q.2),rowU (valG r.1 r.2%valG q.1 q.2)],[]⟩
 |_=>none
theorem ok194:funcOk {} Tryz.f194 2=true:=by kernel_rfl
theorem f194:FnOk Tryz.prog 194 c194:=by
 refine FnOk.ofW orders (mkE_ok (l:=[(142,c142),(234,c234),(146,c146),(235,c235),(236,c236),(238,c238)]) (own:=[236]) (inl:=[(237,T237)]) (by simp [f142,f234,f146,f235,f236,f238]) (by simp [t237])) Tryz.func194 { join:=fun c=>match c with | .region 7 _ _=>true|_=>false } 2 ok194 fun args r e=>?_
 unfold c194 at e
 split at e
 ·rename_i x y
  simp only [Option.map_eq_some_iff,Option.bind_eq_some_iff] at e
  obtain⟨⟨n,g⟩,hx,⟨m,g'⟩,hy,rfl⟩:=e
  refine⟨by simp,fun hm=>?_⟩
  obtain⟨⟨hu,hn,hnl⟩,⟨hu',hn',hml⟩,hM0⟩:=hm _ rfl
  simp only at hu hn hnl hu' hn' hml hM0 ⊢
  have hN:=valG_lt hu
  have hM:=valG_lt hu'
  have hw:=@rd_weak x _ hx hu
  have hw':=@rd_weak y _ hy hu'
  have hn:n+2≤4398046511104:=hn
  have hn':m+2≤4398046511104:=hn'
  generalize valG n g=N at *
  generalize valG m g'=M at *
  clear hx hy hu hu' hm
  refine⟨[],stOf [(0,.rs 1 n (digU N)),(1,.rs 1 m (digU M))] [] 0 [],Wo trivial ⟨hw,hw',qQ⟩ trivial,?_⟩
  clear hw hw'
  have vN:valG n (digU N)=N:=by rw [valG_digU,Nat.mod_eq_of_lt hN]
  have vM:valG m (digU M)=M:=by rw [valG_digU,Nat.mod_eq_of_lt hM]
  have tn:tame n:=by show n≤4398046511104;omega
  have tm:tame m:=by show m≤4398046511104;omega
  have hcmp:cmpN (valG n (digU N)) (valG m (digU M))=cmpN N M:=by rw [vN,vM]
  have hcl:cmpN N M < 0↔N < M:=by
   unfold cmpN
   split
   ·exact⟨fun _=>by assumption,fun _=>by decide⟩
   ·split
    ·exact⟨fun h=>absurd h (by decide),fun h=>by omega⟩
    ·exact⟨fun h=>absurd h (by decide),fun h=>by omega⟩
  with_unfolding_all refine⟨⟨⟨isU_dig n N,tn,by rw [vN];exact hnl⟩,isU_dig m M,tm,by rw [vM];exact hml⟩,fun h1=>⟨[],stOf [(4,rowU (N / M)),(5,rowU (N%M))] [] 0 [],Wo trivial ⟨⟨rfl,?_⟩,⟨?_,?_,?_⟩,qQ⟩ trivial,rfl,rfl⟩,fun h1=>⟨fun h2=>?_,fun h2=>?_⟩⟩
  ·have h1:N < M:=hcl.1 (hcmp▸of_decide_eq_true h1)
   rw [Nat.div_eq_of_lt h1,nl_zero]
  ·rfl
  ·have h1:N < M:=hcl.1 (hcmp▸of_decide_eq_true h1)
   rw [Nat.mod_eq_of_lt h1];exact hnl
  ·have h1:N < M:=hcl.1 (hcmp▸of_decide_eq_true h1)
   rw [Nat.mod_eq_of_lt h1];intro _ _;rfl
  ·have h2:m=1:=beqT h2
   subst h2
   have hB:B=4294967296:=rfl
   have hMB:M < B:=by rw [Nat.pow_one] at hM;exact hM
   have hd:M / B^0%B=M:=by rw [Nat.pow_zero,Nat.div_one,Nat.mod_eq_of_lt hMB]
   have hr:N%M < B:=by have:=Nat.mod_lt N hM0;omega
   have hd':M / B^(Int.toNat 0)%B=M:=hd
   have hq:valG n (digU N) / ((M / B^(Int.toNat 0)%B:Nat):Int).toNat=N / M:=by rw [vN,hd',Int.toNat_natCast]
   have hrm:valG n (digU N)%((M / B^(Int.toNat 0)%B:Nat):Int).toNat=N%M:=by rw [vN,hd',Int.toNat_natCast]
   have hv1:∀g:Nat→List PV,g 0=[.val (.int .u32 ((valG n (digU N)%((M / B^(Int.toNat 0)%B:Nat):Int).toNat:Nat):Int))]→isU 1 g∧valG 1 g=N%M:=by
    intro g hg
    rw [hrm] at hg
    refine⟨fun j hj=>?_,?_⟩
    ·obtain rfl:j=0:=by omega
     exact⟨_,hr,hg⟩
    ·rw [valG,valG,hg]
     simp only [limb,Int.toNat_natCast,Nat.pow_zero,Nat.mul_one,Nat.zero_add]
   with_unfolding_all refine⟨⟨by omega,by omega⟩,⟨⟨isU_dig n N,tn⟩,by rw [hd'];omega,by rw [hd'];omega⟩,⟨(hv1 _ rfl).1,by show 1≤4398046511104;decide⟩,[],stOf [(4,rowU (N / M)),(5,rowU (N%M))] [] 0 [],Wo trivial ⟨⟨rfl,?_,?_⟩,⟨rfl,?_,?_⟩,qQ⟩ trivial,rfl,rfl⟩
   ·exact congrArg nl hq
   ·intro j _
    exact congrArg (digU · j) hq.symm
   ·exact congrArg nl (hv1 _ rfl).2
   ·intro j _
    exact congrArg (digU · j) (hv1 _ rfl).2.symm
  ·have h2:m≠1:=beqF h2
   have hm2:2≤m:=by
    rcases Nat.lt_or_ge m 2 with h3|h3
    ·have:m=0:=by omega
     subst this
     simp at hM
     omega
    ·exact h3
   have hNM:M≤N:=by
    have:=of_decide_eq_false h1
    have h3:¬N < M:=fun h=>this (hcmp▸hcl.2 h)
    omega
   have hm1:IntKind.i64.wrap ((m:Int) - 1)=((m - 1:Nat):Int):=by rw [wrap64 (by omega) (by omega)];omega
   have hB:B=4294967296:=rfl
   have htop:=Nat.mod_lt (M / B^(m - 1)) (show 0 < B by decide)
   with_unfolding_all refine⟨⟨by rw [hm1];omega,by rw [hm1];omega⟩,?_⟩
   rw [hm1]
   with_unfolding_all refine⟨⟨by omega,by show((M / B^(m - 1)%B:Nat):Int) < _;omega⟩,?_⟩
   obtain⟨hs1,hs2,hs3,_⟩:=norm_bounds hml hM0
   have hMs:B^(m - 1)≤M*2^(32 - blen (M / B^(m - 1)%B)):=by
    have:=((nl_spec M).2 (by omega)).1
    rw [←hml] at this
    exact Nat.le_trans this (Nat.le_mul_of_pos_right M (Nat.pow_pos (by decide)))
   have hsn:((M / B^((m - 1:Nat):Int).toNat%B:Nat):Int).toNat=M / B^(m - 1)%B:=rfl
   rw [hsn]
   generalize 32 - blen (M / B^(m - 1)%B)=s at *
   have t1:tame (n+1):=by show n+1≤4398046511104;omega
   have t2:tame (m+1):=by show m+1≤4398046511104;omega
   have vU:valG n (digU N)*2^((s:Nat):Int).toNat=N*2^s:=by rw [vN,Int.toNat_natCast]
   have hv:valG (m+1) (fun i=>digU (valG m (digU M)*2^((s:Nat):Int).toNat) (0+i))=M*2^s:=by
    have e:(fun i=>digU (valG m (digU M)*2^((s:Nat):Int).toNat) (0+i))=digU (M*2^s):=by funext k;rw [Nat.zero_add,vM,Int.toNat_natCast]
    rw [e,valG_digU,Nat.mod_eq_of_lt (Nat.lt_of_lt_of_le hs3 (Nat.pow_le_pow_right (by decide) (by omega)))]
   have hlen:nl (M*2^s)=m:=nl_eq hs3 fun _=>hMs
   with_unfolding_all refine⟨Unit,fun _=>True,fun _=>stOf [(8,.val (goInt s)),(9,.sl 0 0 0 (n+1)),(10,.rs 1 m (digU (M*2^s)))] [⟨139,1,0,false,false,n+1,digU (N*2^s)⟩] 1 [],
    ⟨⟨⟨isU_dig n N,t1⟩,by omega,by omega⟩,⟨⟨isU_dig m M,t2⟩,by omega,by omega⟩,⟨fun j _=>⟨_,Nat.mod_lt _ (by decide),rfl⟩,t2⟩,(),[some 0],trivial,Wo ⟨qZ (fun j hj=>?_),qQ⟩ ⟨rfl,pP,⟨rfl,?_,?_⟩,qQ⟩ trivial⟩,fun _ _=>?_⟩
   ·exact congrArg (digU · j) vU.symm
   ·exact(congrArg nl hv).trans hlen
   ·intro j _
    exact congrArg (digU · j) hv.symm
   ·have hTn:N*2^s < B^(n+1):=by
     rw [Nat.pow_succ]
     exact Nat.mul_lt_mul_of_lt_of_le hN (by rw [B_two s (by omega)];exact Nat.le_mul_of_pos_right _ (Nat.pow_pos (by decide))) (by decide)
    have hmn:m≤n:=by
     rw [hml,hnl]
     rcases Nat.lt_or_ge (nl N) (nl M) with h|h
     ·have:=lt_of_nl h;omega
     ·exact h
    have hTV:N*2^s < M*2^s*B^(n+1 - m):=by
     rw [Nat.mul_assoc,Nat.mul_comm (2^s),←Nat.mul_assoc]
     refine Nat.mul_lt_mul_of_pos_right ?_ (Nat.pow_pos (by decide))
     have h5:B^(m - 1)≤M:=by
      have:=((nl_spec M).2 (by omega)).1
      rwa [←hml] at this
     have h6:=Nat.mul_le_mul_right (B^(n+1 - m)) h5
     rw [←Nat.pow_add,show m - 1+(n+1 - m)=n by omega] at h6
     omega
    have hV0:0 < M*2^s:=Nat.mul_pos hM0 (Nat.pow_pos (by decide))
    have hdiv:N*2^s / (M*2^s)=N / M:=Nat.mul_div_mul_right _ _ (Nat.pow_pos (by decide))
    have hmod:N*2^s%(M*2^s) / 2^s=N%M:=by rw [Nat.mul_mod_mul_right,Nat.mul_div_cancel _ (Nat.pow_pos (by decide))]
    clear vU hv hcmp hcl h1 vN vM hm1 htop hs1 hsn hnl hml
    generalize hTe:N*2^s=T at *
    generalize hVe:M*2^s=V at *
    obtain⟨L,hL⟩:∃L,L=n+1 - m:=⟨_,rfl⟩
    rw [←hL] at hTV
    have hLi:IntKind.i64.wrap (((n+1:Nat):Int) - m)=(L:Int):=by rw [wrap64 (by omega) (by omega)];omega
    with_unfolding_all refine⟨⟨by rw [hLi];omega,by omega,by rw [hLi];omega,by rw [hLi];show(4:Int)*_≤_;omega⟩,?_⟩
    rw [hLi]
    with_unfolding_all refine⟨Nat,fun k=>k≤L,fun k=>stOf [(8,.val (goInt s)),(9,.sl 0 0 0 (n+1)),(10,.rs 1 m (digU V)),(11,.sl 1 1 0 L),(12,.val (.int .i64 ((k:Int) - 1)))] [⟨139,1,0,false,false,n+1,digU (T%(V*B^k))⟩,⟨139,1,1,false,false,L,digU (T / V / B^k*B^k)⟩] 2 [],
     fun k=>k,⟨L,[some 0,some 1],Nat.le_refl _,Wo ⟨qZ (fun j hj=>?_),qZ (fun j hj=>?_),qQ⟩ ⟨rfl,pP,qW,pP,?_,qQ⟩ trivial⟩,fun k hk=>?_⟩
    ·show digU (T%(V*B^L)) j=digU T j
     rw [Nat.mod_eq_of_lt hTV]
    ·show digU (T / V / B^L*B^L) j=[PV.val (.int .u32 0)]
     rw [Nat.div_div_eq_div_mul,Nat.div_eq_of_lt hTV]
     simp [digU]
    ·show PV.val (.int .i64 (IntKind.i64.wrap ((L:Int) - 1)))=_
     rw [wrap64 (by omega) (by omega)]
    ·replace hk:k≤L:=hk
     cases k with
     |zero =>
      have hQ:valG L (fun i=>digU (T / V / B^0*B^0) (0+i))=N / M:=by
       have e:(fun i=>digU (T / V / B^0*B^0) (0+i))=digU (N / M):=by funext k;rw [Nat.zero_add,Nat.pow_zero,Nat.div_one,Nat.mul_one,hdiv]
       rw [e,valG_digU,Nat.mod_eq_of_lt]
       rw [←hdiv,Nat.div_lt_iff_lt_mul hV0,Nat.mul_comm]
       exact hTV
      have hR:valG (n+1) (fun i=>digU (T%(V*B^0)) (0+i))=T%V:=by
       have e:(fun i=>digU (T%(V*B^0)) (0+i))=digU (T%V):=by funext k;rw [Nat.zero_add,Nat.pow_zero,Nat.mul_one]
       rw [e,valG_digU,Nat.mod_eq_of_lt (Nat.lt_of_le_of_lt (Nat.mod_le _ _) hTn)]
      with_unfolding_all refine⟨nofun,fun _=>⟨⟨fun j _=>⟨_,Nat.mod_lt _ (by decide),rfl⟩,?_⟩,⟨fun j _=>⟨_,Nat.mod_lt _ (by decide),rfl⟩,t1⟩,?_⟩⟩
      ·show L≤4398046511104
       omega
      have hRt:tame (nl (valG (n+1) (fun i=>digU (T%(V*B^0)) (0+i)))):=by
       rw [hR]
       have:=nl_le (Nat.lt_of_le_of_lt (Nat.mod_le T V) hTn)
       show _≤4398046511104
       omega
      have hU:valG (nl (valG (n+1) (fun i=>digU (T%(V*B^0)) (0+i)))) (digU (valG (n+1) (fun i=>digU (T%(V*B^0)) (0+i)))) / 2^((s:Nat):Int).toNat=N%M:=by
       rw [val_rowU,hR,Int.toNat_natCast]
       exact hmod
      with_unfolding_all refine⟨⟨⟨isU_dig _ _,hRt⟩,by omega,by omega⟩,[],stOf [(4,rowU (N / M)),(5,rowU (N%M))] [] 0 [],Wo trivial ⟨⟨rfl,?_,?_⟩,⟨rfl,?_,?_⟩,qQ⟩ trivial,rfl,rfl⟩
      ·exact congrArg nl hQ
      ·intro j _
       exact congrArg (digU · j) hQ.symm
      ·exact congrArg nl hU
      ·intro j _
       exact congrArg (digU · j) hU.symm
     |succ k =>
      have hki:(((k+1:Nat):Int) - 1)=((k:Nat):Int):=by omega
      with_unfolding_all refine⟨fun _=>⟨Nat.le_refl 3,?_⟩,fun h2=>absurd (of_decide_eq_false h2) (by omega)⟩
      rw [hki]
      obtain⟨l1,l2,l3⟩:=long_step T V k hV0
      have hRb:T%(V*B^(k+1)) < B^(k+m+1):=by
       refine Nat.lt_of_lt_of_le (Nat.mod_lt _ (Nat.mul_pos hV0 (B_pos _))) ?_
       rw [show k+m+1=m+(k+1) by omega,Nat.pow_add B m]
       exact Nat.mul_le_mul_right _ (Nat.le_of_lt hs3)
      refine digit_walk (s:=s) (L:=L) hRb hs3 hMs hm2 (by omega) hn l3 rfl rfl rfl rfl rfl rfl rfl ?_
      rw [l2,l1]
      with_unfolding_all refine⟨⟨by omega,by omega⟩,k,[some 0,some 1],by omega,Nat.lt_succ_self k,Wo ⟨qZ (fun j hj=>rfl),qZ (fun j hj=>?_),qQ⟩ ⟨rfl,pP,qW,pP,?_,qQ⟩ trivial⟩
      ·show digU (T / V / B^k*B^k) j=if j=0+k then [PV.val (.int .u32 ((T / V / B^k%B:Nat):Int))] else digU (T / V / B^(k+1)*B^(k+1)) j
       rw [Nat.zero_add]
       exact(digU_hi (T / V) k j rfl).symm
      ·show PV.val (.int .i64 (IntKind.i64.wrap ((k:Int) - 1)))=_
       rw [wrap64 (by omega) (by omega)]
 ·cases e
end Go.Proofs
namespace Go.Num
open Go Go.Ex
def bytG (M len:Nat):Nat→List PV:=fun j=>[.val (.int .u8 ((M / 256^(len - 1 - j)%256:Nat):Int))]
theorem bvL_range (M:Nat):∀n,bvL ((List.range n).map fun i=>UInt8.ofNat (M / 256^(n - 1 - i)%256))=M%256^n
 |0=>by simp [bvL,Nat.mod_one]
 |n+1=>by
  rw [List.range_succ_eq_map,List.map_cons,bvL_cons,List.map_map]
  have e:((List.range n).map ((fun i=>UInt8.ofNat (M / 256^(n+1 - 1 - i)%256)) ∘ Nat.succ))=(List.range n).map fun i=>UInt8.ofNat (M / 256^(n - 1 - i)%256):=by
   apply List.map_congr_left
   intro i hi
   simp only [Function.comp,Nat.succ_eq_add_one,show n+1 - 1 - (i+1)=n - 1 - i by omega]
  rw [e,bvL_range M n]
  simp only [List.length_map,List.length_range,Nat.add_sub_cancel,Nat.sub_zero]
  rw [show(UInt8.ofNat (M / 256^n%256)).toNat=M / 256^n%256 by rw [UInt8.toNat_ofNat'];exact Nat.mod_eq_of_lt (Nat.mod_lt _ (by decide))]
  rw [Nat.pow_succ,Nat.mod_mul]
  rw [Nat.mul_comm (256^n) (M / 256^n%256),Nat.add_comm]
theorem strOf_bytG {M n:Nat} {g:Nat→List PV} (h:∀i,i < n→g i=bytG M n i):bv (strOf n g)=M%256^n:=by
 rw [←bvL_range M n]
 unfold bv strOf
 simp only
 congr 1
 apply List.map_congr_left
 intro i hi
 rw [h i (List.mem_range.1 hi)]
 simp only [bytG,Int.toNat_natCast]
theorem byt_lo (N k len j:Nat) (h:j < len):bytG (N / B^(k+1)) len j=bytG (N / B^k) (len+4) j:=by
 have hB:B=256^4:=rfl
 simp only [bytG]
 have e1:N / B^(k+1)=N / B^k / 256^4:=by
  rw [Nat.pow_succ,←Nat.div_div_eq_div_mul]
  exact congrArg (N / B^k / ·) hB
 rw [show len+4 - 1 - j=4+(len - 1 - j) by omega,Nat.pow_add 256 4,←Nat.div_div_eq_div_mul,e1]
theorem byt_hi (N k len e:Nat) (h:e < 4):bytG (N / B^k) (len+4) (len+e)=[.val (.int .u8 ((N / B^k%B / 256^(3 - e)%256:Nat):Int))]:=by
 have hB:B=4294967296:=rfl
 simp only [bytG]
 rw [show len+4 - 1 - (len+e)=3 - e by omega]
 have:N / B^k%B / 256^(3 - e)%256=N / B^k / 256^(3 - e)%256:=by
  generalize N / B^k=X
  rw [hB]
  rcases e with _|_|_|_|e
  ·show X%4294967296 / 16777216%256=X / 16777216%256;omega
  ·show X%4294967296 / 65536%256=X / 65536%256;omega
  ·show X%4294967296 / 256%256=X / 256%256;omega
  ·show X%4294967296 / 1%256=X / 1%256;omega
  ·omega
 rw [this]
theorem byt24 (x:Nat):IntKind.u8.wrap ((x:Int) / 2^min (Int.toNat 24) IntKind.u32.bits)=((x / 256^(3 - 0)%256:Nat):Int):=by
 rw [wrapU8]
 show(x:Int) / 2^24%256=((x / 16777216%256:Nat):Int)
 omega
theorem byt16 (x:Nat):IntKind.u8.wrap ((x:Int) / 2^min (Int.toNat 16) IntKind.u32.bits)=((x / 256^(3 - 1)%256:Nat):Int):=by
 rw [wrapU8]
 show(x:Int) / 2^16%256=((x / 65536%256:Nat):Int)
 omega
theorem byt8 (x:Nat):IntKind.u8.wrap ((x:Int) / 2^min (Int.toNat 8) IntKind.u32.bits)=((x / 256^(3 - 2)%256:Nat):Int):=by
 rw [wrapU8]
 show(x:Int) / 2^8%256=((x / 256%256:Nat):Int)
 omega
theorem byt0 (x:Nat):IntKind.u8.wrap (x:Int)=((x / 256^(3 - 3)%256:Nat):Int):=by
 rw [wrapU8]
 show(x:Int)%256=((x / 1%256:Nat):Int)
 omega
theorem byt_apd (N k L i:Nat) (hi:i < L+4):bytG (N / B^k) (L+4) i=apd L (bytG (N / B^(k+1)) L) (fun j=>chunk 1 [.val (.int .u8 (IntKind.u8.wrap (((N / B^k%B:Nat):Int) / 2^min (Int.toNat 24) IntKind.u32.bits))),.val (.int .u8 (IntKind.u8.wrap (((N / B^k%B:Nat):Int) / 2^min (Int.toNat 16) IntKind.u32.bits))),.val (.int .u8 (IntKind.u8.wrap (((N / B^k%B:Nat):Int) / 2^min (Int.toNat 8) IntKind.u32.bits))),.val (.int .u8 (IntKind.u8.wrap ((N / B^k%B:Nat):Int)))] (0+j)) i:=by
 simp only [Nat.zero_add]
 unfold apd
 split
 ·rename_i h;exact(byt_lo N k L i h).symm
 ·rename_i h
  obtain⟨e,rfl⟩:∃e,i=L+e:=⟨i - L,by omega⟩
  rw [byt_hi N k L e (by omega),Nat.add_sub_cancel_left,byt24,byt16,byt8,byt0]
  rcases e with _|_|_|_|e
  ·rfl
  ·rfl
  ·rfl
  ·rfl
  ·omega
end Go.Num
namespace Go.Proofs
open Go Go.Ex Go.Num
set_option maxRecDepth 100000
def c147:List PV→Option Ans
 |[x]=>(rdU x).map fun r=>⟨some (isU r.1 r.2∧r.1≤34359738368),.val (.string (numB (valG r.1 r.2))),[]⟩
 |_=>none
theorem ok147:funcOk { perm:=atR 5 (rds 24++[(24,false)]) } Tryz.f147 1=true:=by kernel_rfl
theorem f147:FnOk Tryz.prog 147 c147:=by
 refine FnOk.ofW orders (mkE_ok (l:=[(193,c193)]) (own:=[]) (inl:=[]) (by simp [f193]) (by simp)) Tryz.func147 { perm:=atR 5 (rds 24++[(24,false)]) } 1 ok147 fun args r e=>?_
 unfold c147 at e
 split at e
 ·rename_i x
  simp only [Option.map_eq_some_iff] at e
  obtain⟨⟨n,g⟩,hx,rfl⟩:=e
  refine⟨by simp,fun hm=>?_⟩
  obtain⟨hu,hn⟩:=hm _ rfl
  simp only at hu hn ⊢
  have hlt:=valG_lt hu
  have hw:=@rd_weak x _ hx hu
  generalize valG n g=N at *
  refine⟨[],stOf [(0,.rs 1 n (digU N))] [] 0 [],Wo trivial ⟨hw,qQ⟩ trivial,?_⟩
  clear hw hx hu hm
  with_unfolding_all refine⟨Nat,fun k=>k≤n,fun k=>stOf [(0,.rs 1 n (digU N)),(3,.sl 0 0 0 (4*(n - k))),(4,.val (.int .i64 ((k:Int) - 1)))] [⟨5,1,0,false,false,4*(n - k),bytG (N / B^k) (4*(n - k))⟩] 1 [],fun k=>k,⟨n,[none],Nat.le_refl _,?_⟩,fun k hk=>?_⟩
  ·exact Wo ⟨⟨lt_ok rfl,by show 4*(n - n)=0;omega,rfl,rfl⟩,qQ⟩ ⟨qW,⟨rfl,rfl,rfl,by show 4*(n - n)=0;omega,lt_ok rfl⟩,by show PV.val (.int .i64 (IntKind.i64.wrap ((n:Int) - 1)))=_;rw [wrap64 (by omega) (by omega)],qQ⟩ trivial
  ·replace hk:k≤n:=hk
   cases k with
   |zero =>
    have hv:bv (strOf (4*(n - 0)) fun i=>bytG (N / B^0) (4*(n - 0)) (0+i))=N:=by
     rw [strOf_bytG (fun i _=>by rw [Nat.zero_add])]
     rw [Nat.pow_zero,Nat.div_one,Nat.sub_zero,←B_256,Nat.mod_eq_of_lt hlt]
    with_unfolding_all refine⟨nofun,fun _=>⟨fun i _=>⟨_,rfl⟩,[],stOf [(2,.val (.string (numB N)))] [] 0 [],Wo trivial ⟨?_,qQ⟩ trivial,rfl,rfl⟩⟩
    exact congrArg (fun x=>PV.val (.string (numB x))) hv
   |succ k =>
    have hki:(((k+1:Nat):Int) - 1)=((k:Nat):Int):=by omega
    with_unfolding_all refine⟨fun _=>⟨⟨by omega,by omega⟩,?_⟩,fun h2=>absurd (of_decide_eq_false h2) (by omega)⟩
    rw [hki]
    have hL:4*(n - k)=4*(n - (k+1))+4:=by omega
    with_unfolding_all refine⟨by decide,⟨by omega,by omega⟩,by decide,⟨by omega,by omega⟩,by decide,⟨by omega,by omega⟩,⟨rfl,by show(4*(n - (k+1))+4)*1≤_;omega,by show 4*(n - (k+1))+4≤_;omega⟩,k,[some 0],by show k≤n;omega,Nat.lt_succ_self k,Wo ⟨⟨lt_ok rfl,rfl,rfl,rfl,rfl,hL,fun i hi=>?_⟩,qQ⟩ ⟨qW,⟨rfl,rfl,hL.symm,lt_ok rfl,_,rfl⟩,?_,qQ⟩ trivial⟩
    ·show bytG (N / B^k) (4*(n - k)) i=_
     rw [hL]
     exact byt_apd N k _ i hi
    ·show PV.val (.int .i64 (IntKind.i64.wrap ((k:Int) - 1)))=_
     rw [wrap64 (by omega) (by omega)]
 ·cases e
end Go.Proofs
namespace Go.Num
open Go Go.Ex
def sgn (s:Bool) (n:Nat):Int:=bif s then -(n:Int) else n
def intV (z:Int):Value:=.agg ⟨[.bool (decide (z < 0)),.string (numB z.natAbs)]⟩
def rdI:Value→Int
 |.agg ⟨[.bool s,.string b]⟩=>sgn s (bv b)
 |_=>0
def isI (v:Value):Prop:=∃s b,v=.agg ⟨[.bool s,.string b]⟩∧b.size≤34359738368
theorem sgn_natAbs (s:Bool) (n:Nat):(sgn s n).natAbs=n:=by cases s<;>simp [sgn]
theorem sgn_neg (s:Bool) (n:Nat):decide (sgn s n < 0)=(s&&decide (n≠0)):=by
 cases s
 ·show decide ((n:Int) < 0)=false;rw [decide_eq_false_iff_not];omega
 ·show decide (-(n:Int) < 0)=(true&&decide (n≠0));rw [Bool.true_and,decide_eq_decide];omega
theorem rdI_intV (z:Int):rdI (intV z)=z:=by
 simp only [rdI,intV,sgn,bv_numB]
 by_cases h:z < 0
 ·simp [h];omega
 ·simp [h];omega
theorem numB_le {n k:Nat} (h:n < 256^k):(numB n).size≤k:=by
 rcases Nat.eq_zero_or_pos n with h0|h0
 ·rw [h0];simp [numB,digs_zero,ByteArray.size]
 ·have h1:=(numB_ge (N:=n) (by omega)).1
  rcases Nat.lt_or_ge k (numB n).size with h2|h2
  ·have h3:256^k≤256^((numB n).size - 1):=Nat.pow_le_pow_right (by decide) (by omega)
   omega
  ·exact h2
theorem isI_intV {z:Int} {k:Nat} (h:z.natAbs < 256^k) (hk:k≤34359738368):isI (intV z):=⟨_,_,rfl,Nat.le_trans (numB_le h) hk⟩
theorem numB_nil {n:Nat}:(!((numB n).toList==(⟨#[]⟩:ByteArray).toList))=decide (n≠0):=by
 rw [Bool.eq_iff_iff]
 constructor
 ·intro h
  have:=some_of_cmp h
  rw [decide_eq_true_eq]
  rintro rfl
  exact this (by simp [numB,digs_zero])
 ·intro h
  have h:=of_decide_eq_true h
  rcases hb:(!((numB n).toList==(⟨#[]⟩:ByteArray).toList)) with _|_
  ·have:=none_of_cmp (x:=numB n) (by rw [hb];rfl)
   have h2:=bv_numB n
   rw [bv,this] at h2
   simp [bvL] at h2
   omega
  ·rfl
theorem sgn_dec (z:Int):sgn (decide (z < 0)) z.natAbs=z:=by
 by_cases h:z < 0
 ·simp [sgn,h];omega
 ·simp [sgn,h];omega
theorem or_byte {N x:Nat} (hx:x < 256) (hN:N*256+x < 9223372036854775808):IntKind.i64.wrap ((BitVec.ofInt IntKind.i64.bits (IntKind.i64.wrap ((N:Int)*2^min (Int.toNat 8) IntKind.i64.bits)) ||| BitVec.ofInt IntKind.i64.bits (IntKind.i64.wrap (x:Int))).toNat:Int)=((N*256+x:Nat):Int):=by
 have e:(N:Int)*2^min (Int.toNat 8) IntKind.i64.bits=((N*2^8:Nat):Int):=by
  show(N:Int)*2^8=_
  omega
 rw [e,wrap64 (x:=((N*2^8:Nat):Int)) (by omega) (by omega),wrap64 (x:=(x:Int)) (by omega) (by omega)]
 have h:=or64 (a:=x) (c:=N) (k:=8) (by omega) (by omega)
 have h':(BitVec.ofInt IntKind.i64.bits ((N*2^8:Nat):Int) ||| BitVec.ofInt IntKind.i64.bits (x:Int)).toNat=x+N*2^8:=h
 rw [h',wrap64 (by omega) (by omega)]
 omega
theorem bvL_take (b:ByteArray) {i:Nat} (h:i < b.size):bvL (b.data.toList.take (i+1))=bvL (b.data.toList.take i)*256+(b.data.toList[i]?.getD 0).toNat:=by
 have hl:i < b.data.toList.length:=by rw [←ba_size];exact h
 rw [List.take_succ_eq_append_getElem hl,bvL_append,List.getElem?_eq_getElem hl]
 simp [bvL]
theorem bvL_take_lt (b:ByteArray) (i:Nat) (h:b.size≤7):bvL (b.data.toList.take i) < 72057594037927936:=by
 have h1:=bvL_lt (b.data.toList.take i)
 have h2:(b.data.toList.take i).length≤7:=by rw [List.length_take,←ba_size];omega
 have h3:256^(b.data.toList.take i).length≤256^7:=Nat.pow_le_pow_right (by decide) h2
 omega
theorem nl_mul (N M:Nat):nl (N*M)≤nl N+nl M:=by
 refine nl_le ?_
 rw [Nat.pow_add]
 exact Nat.mul_lt_mul_of_lt_of_le (nl_spec N).1 (Nat.le_of_lt (nl_spec M).1) (B_pos _)
theorem nl_bv4 {b:ByteArray} (h:b.size≤34359738368):nl (bv b)≤8589934592:=by
 have:=nl_bytes (bv b)
 have:=numB_size b
 omega
theorem sgn_mul (s q:Bool) (n m:Nat):sgn (!(s==q)) (n*m)=sgn s n*sgn q m:=by
 cases s<;>cases q<;>simp [sgn,Int.neg_mul,Int.mul_neg]
theorem nl_add (N M:Nat):nl (N+M)≤nl N+nl M+1:=by
 refine nl_le ?_
 have h1:=(nl_spec N).1
 have h2:=(nl_spec M).1
 have h3:B^nl N≤B^(nl N+nl M):=Nat.pow_le_pow_right (by decide) (by omega)
 have h4:B^nl M≤B^(nl N+nl M):=Nat.pow_le_pow_right (by decide) (by omega)
 have h5:B^(nl N+nl M)*2≤B^(nl N+nl M+1):=by rw [Nat.pow_succ];exact Nat.mul_le_mul_left _ (by decide)
 omega
theorem nl_sub (N M:Nat):nl (N - M)≤nl N:=nl_le (Nat.lt_of_le_of_lt (Nat.sub_le N M) (nl_spec N).1)
theorem sgn_same {s q:Bool} (h:(s==q)=true) (N M:Nat):sgn s (N+M)=sgn s N+sgn q M:=by
 have:=beq_iff_eq.1 h;subst this;cases s<;>simp [sgn];omega
theorem sgn_diff1 {s q:Bool} (h:(s==q)=false) {N M:Nat} (hl:N≤M):sgn q (M - N)=sgn s N+sgn q M:=by
 cases s<;>cases q<;>simp [sgn] at h ⊢<;>omega
theorem sgn_diff2 {s q:Bool} (h:(s==q)=false) {N M:Nat} (hl:M≤N):sgn s (N - M)=sgn s N+sgn q M:=by
 cases s<;>cases q<;>simp [sgn] at h ⊢<;>omega
theorem cmp_lt {N M:Nat}:cmpN N M < 0↔N < M:=by
 unfold cmpN
 split
 ·exact⟨fun _=>by assumption,fun _=>by decide⟩
 ·split
  ·exact⟨fun h=>absurd h (by decide),fun h=>by omega⟩
  ·exact⟨fun h=>absurd h (by decide),fun h=>by omega⟩
def cmpI (a b:Int):Int:=if a < b then -1 else if b < a then 1 else 0
theorem nl_pos {N:Nat}:(0 < nl N)↔N≠0:=by
 constructor
 ·rintro h rfl
  rw [nl_zero] at h
  omega
 ·exact fun h=>((nl_spec N).2 h).2
theorem neg_box {s:Bool} (h:s=true) (N:Nat):decide (((nl N:Nat):Int) > 0)=decide (sgn s N < 0):=by
 rw [sgn_neg,h,Bool.true_and,decide_eq_decide]
 have:=nl_pos (N:=N)
 omega
theorem neg_box0 {s:Bool} (h:s = !true) (N:Nat):false=decide (sgn s N < 0):=by
 rw [sgn_neg,h]
 rfl
theorem cmp_nn {s q:Bool} {N M:Nat} (h1:decide (sgn s N < 0)=true) (h2:decide (sgn q M < 0)=true):cmpN M N=cmpI (sgn s N) (sgn q M):=by
 have h1:=of_decide_eq_true h1
 have h2:=of_decide_eq_true h2
 unfold cmpN cmpI
 cases s<;>cases q<;>simp only [sgn,cond_true,cond_false] at*<;> first|omega|(split<;>split<;>(try split)<;>omega)
theorem cmp_pp {s q:Bool} {N M:Nat} (h1:decide (sgn s N < 0)=false) (h2:decide (sgn q M < 0)=false):cmpN N M=cmpI (sgn s N) (sgn q M):=by
 have h1:=of_decide_eq_false h1
 have h2:=of_decide_eq_false h2
 unfold cmpN cmpI
 cases s<;>cases q<;>simp only [sgn,cond_true,cond_false] at*<;> first|omega|(split<;>split<;>(try split)<;>omega)
theorem cmp_np {a b:Int} (h1:decide (a < 0)=true) (h2:decide (b < 0)=false):(-1:Int)=cmpI a b:=by
 have h1:=of_decide_eq_true h1
 have h2:=of_decide_eq_false h2
 unfold cmpI
 rw [if_pos (by omega)]
theorem cmp_pn {a b:Int} (h1:decide (a < 0)=false) (h2:decide (b < 0)=true):(1:Int)=cmpI a b:=by
 have h1:=of_decide_eq_false h1
 have h2:=of_decide_eq_true h2
 unfold cmpI
 rw [if_neg (by omega),if_pos (by omega)]
theorem sgn_not (s:Bool) (n:Nat):sgn (!s) n = -sgn s n:=by cases s<;>simp [sgn]
theorem nl_bv {b:ByteArray} (h:b.size≤34359738368):nl (bv b)≤34359738368:=by
 have:=nl_bytes (bv b)
 have:=numB_size b
 omega
end Go.Num
namespace Go.Proofs
open Go Go.Ex Go.Num
set_option maxRecDepth 100000
def boxI (z:Int) (st:Nat):Blk:=⟨99,2,st,true,false,1,fun _=>[.val (.bool (decide (z < 0))),.val (.string (numB z.natAbs))]⟩
def c111:List PV→Option Ans
 |[.val (.bool s),x]=>(rdU x).map fun r=>⟨some (isU r.1 r.2∧r.1≤34359738368),.val (intV (sgn s (valG r.1 r.2))),[]⟩
 |_=>none
theorem ok111:funcOk {} Tryz.f111 2=true:=by kernel_rfl
theorem f111:FnOk Tryz.prog 111 c111:=by
 refine FnOk.ofW orders (mkE_ok (l:=[(146,c146),(147,c147)]) (own:=[]) (inl:=[]) (by simp [f146,f147]) (by simp)) Tryz.func111 {} 2 ok111 fun args r e=>?_
 unfold c111 at e
 split at e
 ·rename_i s x
  simp only [Option.map_eq_some_iff] at e
  obtain⟨⟨n,g⟩,hx,rfl⟩:=e
  refine⟨by simp,fun hm=>?_⟩
  obtain⟨hu,hn⟩:=hm _ rfl
  simp only at hu hn ⊢
  have hlt:=valG_lt hu
  have hw:=@rd_weak x _ hx hu
  generalize valG n g=N at *
  refine⟨[],stOf [(0,.val (.bool s)),(1,.rs 1 n (digU N))] [] 0 [],Wo trivial ⟨rfl,hw,qQ⟩ trivial,?_⟩
  clear hw hx hu hm
  have vN:valG n (digU N)=N:=by rw [valG_digU,Nat.mod_eq_of_lt hlt]
  have tn:tame n:=by show n≤4398046511104;omega
  have hnl:nl N≤34359738368:=Nat.le_trans (nl_le hlt) hn
  with_unfolding_all refine⟨⟨isU_dig n N,tn⟩,?_⟩
  rw [vN]
  with_unfolding_all refine⟨⟨isU_dig _ _,hnl⟩,?_⟩
  rw [val_rowU]
  with_unfolding_all refine⟨fun h=>?_,fun h=>?_⟩
  ·with_unfolding_all refine⟨[some 0],stOf [(4,.ptr 0 0 0 0)] [boxI (sgn s N) 0] 1 [],Wo ⟨qZ ⟨⟨?_,rfl⟩,⟨?_,rfl⟩,qQ⟩,qQ⟩ ⟨pP,qQ⟩ trivial,rfl,rfl⟩
   ·show PV.val (.bool (!((numB N).toList==(⟨#[]⟩:ByteArray).toList)))=_
    rw [numB_nil,sgn_neg,h,Bool.true_and]
   ·show PV.val (.string (numB N))=_
    rw [sgn_natAbs]
  ·with_unfolding_all refine⟨[some 0],stOf [(4,.ptr 0 0 0 0)] [boxI (sgn s N) 0] 1 [],Wo ⟨qZ ⟨⟨?_,rfl⟩,⟨?_,rfl⟩,qQ⟩,qQ⟩ ⟨pP,qQ⟩ trivial,rfl,rfl⟩
   ·show PV.val (.bool false)=_
    rw [sgn_neg,h]
    rfl
   ·show PV.val (.string (numB N))=_
    rw [sgn_natAbs]
 ·cases e
def zbox (st:Nat):Blk:=⟨99,2,st,true,false,1,fun _=>[.val (.bool false),.val (.string ⟨#[]⟩)]⟩
theorem two_limbs_row {m:Nat} (hm:m < B*B) {g:Nat→List PV} (h0:g 0=[.val (.int .u32 (IntKind.u32.wrap (m:Int)))]) (h1:g 1=[.val (.int .u32 (IntKind.u32.wrap ((m:Int) / 2^min (Int.toNat 32) IntKind.u64.bits)))]):isU 2 g∧valG 2 g=m:=by
 rw [wrapMod] at h0
 rw [shr32,wrapMod,Nat.mod_eq_of_lt (by rw [Nat.div_lt_iff_lt_mul (by decide)];exact hm)] at h1
 have hB:B=4294967296:=rfl
 have e0:=Nat.mod_lt m (show 0 < B by decide)
 have e1:m / B < B:=by rw [Nat.div_lt_iff_lt_mul (by decide)];exact hm
 refine⟨fun i hi=>?_,?_⟩
 ·rcases i with _|_|i
  ·exact⟨_,e0,h0⟩
  ·exact⟨_,e1,h1⟩
  ·omega
 ·simp only [valG,h0,h1,limb,Int.toNat_natCast,Nat.pow_zero,Nat.pow_one,Nat.mul_one,Nat.zero_add]
  rw [Nat.mul_comm]
  exact Nat.mod_add_div m B
def c73:List PV→Option Ans
 |[.val (.int .i64 z)]=>some ⟨some (-9223372036854775808≤z∧z < 9223372036854775808),.val (intV z),[]⟩
 |_=>none
theorem ok73:funcOk {} Tryz.f73 1=true:=by kernel_rfl
theorem f73:FnOk Tryz.prog 73 c73:=by
 refine FnOk.ofW orders (mkE_ok (l:=[(111,c111)]) (own:=[]) (inl:=[]) (by simp [f111]) (by simp)) Tryz.func73 { join:=fun c=>match c with | .seq (.region 2 _ _) _=>true|_=>false } 1 ok73 fun args r e=>?_
 unfold c73 at e
 split at e
 ·rename_i z
  cases e
  refine⟨by simp,fun hm=>?_⟩
  obtain⟨h1,h2⟩:=hm _ rfl
  refine⟨[],stOf [(0,.val (.int .i64 z))] [] 0 [],Wo trivial ⟨rfl,qQ⟩ trivial,?_⟩
  have hB:B*B=18446744073709551616:=rfl
  with_unfolding_all refine⟨Unit,fun _=>True,fun _=>stOf [(0,.val (.int .i64 z)),(2,.ptr 0 0 0 0),(3,.val (.int .u64 (z.natAbs:Nat)))] [zbox 0] 1 [],⟨fun h=>⟨(),[some 0],trivial,Wo ⟨qJ,qQ⟩ ⟨rfl,pP,?_,qQ⟩ trivial⟩,fun h=>⟨(),[some 0],trivial,Wo ⟨qJ,qQ⟩ ⟨rfl,pP,?_,qQ⟩ trivial⟩⟩,fun _ _=>?_⟩
  ·have h:=ltT h
   refine congrArg (fun x=>PV.val (.int .u64 x)) (?_:IntKind.u64.wrap (0 - IntKind.u64.wrap z)=(z.natAbs:Int))
   rw [wrapU64,wrapU64]
   omega
  ·have h:=ltF h
   refine congrArg (fun x=>PV.val (.int .u64 x)) (?_:IntKind.u64.wrap z=(z.natAbs:Int))
   rw [wrapU64]
   omega
  ·have hm:z.natAbs < B*B:=by omega
   with_unfolding_all refine⟨by decide,⟨(two_limbs_row hm rfl rfl).1,by show 2≤34359738368;decide⟩,[some 0],stOf [(2,.ptr 0 0 0 0)] [boxI z 0] 1 [],Wo ⟨qZ ⟨⟨(congrArg (fun(m:Nat)=>PV.val (.bool (decide (sgn (decide (z < 0)) m < 0)))) (two_limbs_row hm rfl rfl).2).trans (by rw [sgn_dec]),rfl⟩,⟨(congrArg (fun(m:Nat)=>PV.val (.string (numB (sgn (decide (z < 0)) m).natAbs))) (two_limbs_row hm rfl rfl).2).trans (by rw [sgn_dec]),rfl⟩,qQ⟩,qQ⟩ ⟨pP,qQ⟩ trivial,rfl,rfl⟩
 ·cases e
def c109:List PV→Option Ans
 |[.val v]=>some ⟨some (isI v),.val (intV (-rdI v)),[]⟩
 |_=>none
def D109:Opt:={ perm:=atR 1 [(0,true),(1,true),(2,true),(3,true),(4,true),(5,false),(6,false)] }
theorem ok109:funcOk D109.toOrd Tryz.f109 1=true:=by kernel_rfl
theorem f109:FnOk Tryz.prog 109 c109:=by
 refine FnOk.ofW orders (mkE_ok (l:=[(111,c111),(141,c141)]) (own:=[]) (inl:=[]) (by simp [f111,f141]) (by simp)) Tryz.func109 D109 1 ok109 fun args r e=>?_
 unfold c109 at e
 split at e
 ·rename_i v
  cases e
  refine⟨by simp,fun hm=>?_⟩
  obtain⟨s,b,rfl,hb⟩:=hm _ rfl
  refine⟨[],stOf [(0,.val (.agg ⟨[.bool s,.string b]⟩))] [] 0 [],Wo trivial ⟨rfl,qQ⟩ trivial,?_⟩
  with_unfolding_all refine⟨by show b.size≤_;omega,⟨isU_dig _ _,nl_bv hb⟩,?_⟩
  rw [val_rowU]
  with_unfolding_all refine⟨[some 1],stOf [(2,.ptr 0 0 0 0)] [boxI (-sgn s (bv b)) 0] 1 [],Wo ⟨qZ ⟨⟨?_,rfl⟩,⟨?_,rfl⟩,qQ⟩,qQ⟩ ⟨pP,qQ⟩ trivial,rfl,rfl⟩
  ·show PV.val (.bool (decide (sgn (!s) (bv b) < 0)))=_
   rw [sgn_not]
  ·show PV.val (.string (numB (sgn (!s) (bv b)).natAbs))=_
   rw [sgn_not]
 ·cases e
end Go.Proofs
namespace Go.Proofs
open Go Go.Ex Go.Num
set_option maxRecDepth 100000
def c197:List PV→Option Ans
 |[.val (.agg ⟨[.bool s,.string b]⟩)]=>some ⟨none,.val (.tuple ⟨[.int .i64 (bif decide (b.size≤7) then sgn s (bv b) else 0),.bool (decide (b.size≤7))]⟩),[]⟩
 |_=>none
theorem ok197:funcOk {} Tryz.f197 1=true:=by kernel_rfl
theorem f197:FnOk Tryz.prog 197 c197:=by
 refine FnOk.ofW orders (mkE_ok (l:=[]) (own:=[]) (inl:=[]) (by simp) (by simp)) Tryz.func197 {} 1 ok197 fun args r e=>?_
 unfold c197 at e
 split at e
 ·rename_i s b
  cases e
  refine⟨by simp,fun hm=>?_⟩
  refine⟨[],stOf [(0,.val (.agg ⟨[.bool s,.string b]⟩))] [] 0 [],Wo trivial ⟨rfl,qQ⟩ trivial,?_⟩
  with_unfolding_all refine⟨fun h=>⟨[],stOf [(2,.val (.int .i64 0)),(3,.val (.bool false))] [] 0 [],Wo trivial ⟨rfl,rfl,qQ⟩ trivial,?_,rfl⟩,fun h=>?_⟩
  ·have h:¬b.size≤7:=by have:=of_decide_eq_true h;omega
   show PV.val (.tuple ⟨[.int .i64 0,.bool false]⟩)=_
   rw [decide_eq_false h]
   rfl
  ·have h:b.size≤7:=by have:=of_decide_eq_false h;omega
   rw [decide_eq_true h]
   with_unfolding_all refine⟨Nat,fun i=>i≤b.size,fun i=>stOf [(1,.ptr 0 0 0 0),(4,.val (.int .i64 (bvL (b.data.toList.take i):Nat))),(12,.val (goInt b.size)),(13,.val (goInt i))] [⟨99,2,0,true,false,1,fun _=>[.val (.bool s),.val (.string b)]⟩] 1 [],fun i=>b.size - i,⟨0,[some 0],Nat.zero_le _,Wo ⟨qJ,qQ⟩ ⟨pP,rfl,rfl,rfl,qQ⟩ trivial⟩,fun i hi=>?_⟩
   replace hi:i≤b.size:=hi
   have hlt:=bvL_take_lt b i h
   with_unfolding_all refine⟨fun h1=>?_,fun h1=>⟨fun h2=>?_,fun h2=>?_⟩⟩
   ·have h1:i < b.size:=by have:=ltT h1;omega
    have hx:(b.data.toList[i]?.getD 0).toNat < 256:=UInt8.toNat_lt _
    with_unfolding_all refine⟨by decide,⟨by omega,by omega⟩,i+1,[some 0],h1,by show b.size - (i+1) < b.size - i;omega,Wo ⟨qJ,qQ⟩ ⟨pP,?_,rfl,?_,qQ⟩ trivial⟩
    ·refine congrArg (fun x=>PV.val (.int .i64 x)) (?_:IntKind.i64.wrap ((BitVec.ofInt IntKind.i64.bits (IntKind.i64.wrap (((bvL (b.data.toList.take i):Nat):Int)*2^min (Int.toNat 8) IntKind.i64.bits)) ||| BitVec.ofInt IntKind.i64.bits (IntKind.i64.wrap (((b.data.toList[i]?.getD 0).toNat:Nat):Int))).toNat:Int)=((bvL (b.data.toList.take (i+1)):Nat):Int))
     rw [or_byte hx (by have:=bvL_take_lt b (i+1) h;rw [bvL_take b h1] at this;omega),bvL_take b h1]
    ·refine congrArg (fun x=>PV.val (.int .i64 x)) (?_:IntKind.i64.wrap ((i:Int)+1)=((i+1:Nat):Int))
     rw [wrap64 (by omega) (by omega)]
     rfl
   all_goals
    have h1:i=b.size:=by have:=ltF h1;omega
    have he:b.data.toList.take i=b.data.toList:=by rw [h1,List.take_of_length_le (by rw [←ba_size];omega)]
    rw [he] at hlt ⊢
   ·with_unfolding_all refine⟨[],stOf [(2,.val (.int .i64 (sgn s (bv b)))),(3,.val (.bool true))] [] 0 [],Wo trivial ⟨?_,rfl,qQ⟩ trivial,rfl,rfl⟩
    refine congrArg (fun x=>PV.val (.int .i64 x)) (?_:IntKind.i64.wrap (0 - ((bvL b.data.toList:Nat):Int))=sgn s (bv b))
    rw [wrap64 (by omega) (by omega),h2]
    show _ = -((bvL b.data.toList:Nat):Int)
    omega
   ·with_unfolding_all refine⟨[],stOf [(2,.val (.int .i64 (sgn s (bv b)))),(3,.val (.bool true))] [] 0 [],Wo trivial ⟨?_,rfl,qQ⟩ trivial,rfl,rfl⟩
    show PV.val (.int .i64 ((bvL b.data.toList:Nat):Int))=_
    rw [h2]
    rfl
 ·cases e
def c119:List PV→Option Ans
 |[.val v,.val u]=>some ⟨some (isI v∧isI u),.val (intV (rdI v*rdI u)),[]⟩
 |_=>none
def D119:Opt:={ perm:=atR 1 [(0,true),(1,true),(2,true),(3,true),(4,true),(5,true),(6,true),(8,true),(9,true),(7,false),(10,false),(11,false),(12,false)] }
theorem ok119:funcOk D119.toOrd Tryz.f119 2=true:=by kernel_rfl
theorem f119:FnOk Tryz.prog 119 c119:=by
 refine FnOk.ofW orders (mkE_ok (l:=[(111,c111),(141,c141),(156,c156)]) (own:=[]) (inl:=[]) (by simp [f111,f141,f156]) (by simp)) Tryz.func119 D119 2 ok119 fun args r e=>?_
 unfold c119 at e
 split at e
 ·rename_i v u
  cases e
  refine⟨by simp,fun hm=>?_⟩
  obtain⟨⟨s,b,rfl,hb⟩,q,c,rfl,hc⟩:=hm _ rfl
  refine⟨[],stOf [(0,.val (.agg ⟨[.bool s,.string b]⟩)),(1,.val (.agg ⟨[.bool q,.string c]⟩))] [] 0 [],Wo trivial ⟨rfl,rfl,qQ⟩ trivial,?_⟩
  have h1:=nl_bv4 hb
  have h2:=nl_bv4 hc
  have h3:=nl_mul (bv b) (bv c)
  with_unfolding_all refine⟨by show b.size≤_;omega,by show c.size≤_;omega,⟨⟨isU_dig _ _,isU_dig _ _⟩,by show nl (bv b)+nl (bv c)≤4398046511104;omega⟩,?_⟩
  rw [val_rowU,val_rowU]
  with_unfolding_all refine⟨⟨isU_dig _ _,by show nl (bv b*bv c)≤34359738368;omega⟩,?_⟩
  rw [val_rowU]
  with_unfolding_all refine⟨[some 2],stOf [(4,.ptr 0 0 0 0)] [boxI (sgn s (bv b)*sgn q (bv c)) 0] 1 [],Wo ⟨qZ ⟨⟨?_,rfl⟩,⟨?_,rfl⟩,qQ⟩,qQ⟩ ⟨pP,qQ⟩ trivial,rfl,rfl⟩
  ·show PV.val (.bool (decide (sgn (!(s==q)) (bv b*bv c) < 0)))=_
   rw [sgn_mul]
  ·show PV.val (.string (numB (sgn (!(s==q)) (bv b*bv c)).natAbs))=_
   rw [sgn_mul]
 ·cases e
end Go.Proofs
namespace Go.Proofs
open Go Go.Ex Go.Num
set_option maxRecDepth 100000
def rawI (s:Bool) (b:ByteArray) (st:Nat):Blk:=⟨99,2,st,true,false,1,fun _=>[.val (.bool s),.val (.string b)]⟩
def c152:List PV→Option Ans
 |[.val v,.val u]=>some ⟨some (isI v∧isI u),.val (intV (rdI v+rdI u)),[]⟩
 |_=>none
def D152:Opt:={ perm:=atRs [(6,[(0,true),(1,true),(3,true),(4,true),(2,false),(5,false)]),(8,rds 4++[(4,false),(5,false)]),(10,rds 4++[(4,false),(5,false)]),(11,rds 4++[(4,false),(5,false)])],join:=fun c=>match c with | .seq (.seq (.region 1 _ _) _) _=>true | .seq (.region 1 _ _) _=>true|_=>false }
theorem ok152:funcOk D152.toOrd Tryz.f152 2=true:=by kernel_rfl
theorem f152:FnOk Tryz.prog 152 c152:=by
 refine FnOk.ofW orders (mkE_ok (l:=[(111,c111),(141,c141),(73,c73),(197,c197),(198,c198),(199,c199),(142,c142)]) (own:=[]) (inl:=[]) (by simp [f111,f141,f73,f197,f198,f199,f142]) (by simp)) Tryz.func152 D152 2 ok152 fun args r e=>?_
 unfold c152 at e
 split at e
 ·rename_i v u
  cases e
  refine⟨by simp,fun hm=>?_⟩
  obtain⟨⟨s,b,rfl,hb⟩,q,c,rfl,hc⟩:=hm _ rfl
  refine⟨[],stOf [(0,.val (.agg ⟨[.bool s,.string b]⟩)),(1,.val (.agg ⟨[.bool q,.string c]⟩))] [] 0 [],Wo trivial ⟨rfl,rfl,qQ⟩ trivial,?_⟩
  have h1:=nl_bv4 hb
  have h2:=nl_bv4 hc
  with_unfolding_all refine⟨Unit,fun _=>True,fun _=>stOf [(2,.ptr 0 0 0 0),(3,.ptr 1 1 0 0),(4,.ptr 2 2 0 0)] [rawI s b 0,rawI q c 1,zbox 2] 3 [],?_,fun _ _=>?_⟩
  ·with_unfolding_all refine⟨fun e1=>⟨fun e2=>?_,fun e2=>⟨(),[some 0,some 1,some 2],trivial,Wo ⟨qJ,qJ,qJ,qQ⟩ ⟨pP,pP,pP,qQ⟩ trivial⟩⟩,fun e1=>⟨(),[some 0,some 1,some 2],trivial,Wo ⟨qJ,qJ,qJ,qQ⟩ ⟨pP,pP,pP,qQ⟩ trivial⟩⟩
   have hs:b.size≤7:=of_decide_eq_true e1
   have hs2:c.size≤7:=of_decide_eq_true e2
   rw [e1,e2]
   have b1:=bvL_take_lt b b.size hs
   have b2:=bvL_take_lt c c.size hs2
   rw [List.take_of_length_le (by rw [←ba_size];omega)] at b1 b2
   have b1:bv b < 72057594037927936:=b1
   have b2:bv c < 72057594037927936:=b2
   have hw:IntKind.i64.wrap (sgn s (bv b)+sgn q (bv c))=sgn s (bv b)+sgn q (bv c):=by
    refine wrap64 ?_ ?_<;>(cases s<;>cases q<;>simp only [sgn,cond_true,cond_false]<;>omega)
   have hr : -9223372036854775808≤sgn s (bv b)+sgn q (bv c)∧sgn s (bv b)+sgn q (bv c) < 9223372036854775808:=by
    constructor<;>(cases s<;>cases q<;>simp only [sgn,cond_true,cond_false]<;>omega)
   have hr' : -9223372036854775808≤IntKind.i64.wrap (sgn s (bv b)+sgn q (bv c))∧IntKind.i64.wrap (sgn s (bv b)+sgn q (bv c)) < 9223372036854775808:=by rw [hw];exact hr
   with_unfolding_all refine⟨hr',⟨[some 2],stOf [(4,.ptr 0 0 0 0)] [boxI (sgn s (bv b)+sgn q (bv c)) 0] 1 [],Wo ⟨qZ ⟨⟨?_,rfl⟩,⟨?_,rfl⟩,qQ⟩,qQ⟩ ⟨pP,qQ⟩ trivial,rfl,rfl⟩⟩
   ·show PV.val (.bool (decide (IntKind.i64.wrap (sgn s (bv b)+sgn q (bv c)) < 0)))=_
    rw [hw]
   ·show PV.val (.string (numB (IntKind.i64.wrap (sgn s (bv b)+sgn q (bv c))).natAbs))=_
    rw [hw]
  ·have a1:=nl_add (bv b) (bv c)
   have a2:=nl_sub (bv b) (bv c)
   have a3:=nl_sub (bv c) (bv b)
   have t1:tame (nl (bv b)):=by show _≤4398046511104;omega
   have t2:tame (nl (bv c)):=by show _≤4398046511104;omega
   have v1:=val_rowU (bv b)
   have v2:=val_rowU (bv c)
   with_unfolding_all refine⟨by show b.size≤_;omega,by show c.size≤_;omega,fun e=>?_,fun e=>?_⟩
   ·with_unfolding_all refine⟨⟨⟨isU_dig _ _,by show _≤4398046511104;omega⟩,isU_dig _ _,by show _≤4398046511104;omega⟩,?_⟩
    rw [v1,v2]
    with_unfolding_all refine⟨⟨isU_dig _ _,by show nl (bv b+bv c)≤34359738368;omega⟩,?_⟩
    rw [val_rowU]
    with_unfolding_all refine⟨[some 2],stOf [(4,.ptr 0 0 0 0)] [boxI (sgn s (bv b)+sgn q (bv c)) 0] 1 [],Wo ⟨qZ ⟨⟨?_,rfl⟩,⟨?_,rfl⟩,qQ⟩,qQ⟩ ⟨pP,qQ⟩ trivial,rfl,rfl⟩
    ·show PV.val (.bool (decide (sgn s (bv b+bv c) < 0)))=_
     rw [sgn_same e]
    ·show PV.val (.string (numB (sgn s (bv b+bv c)).natAbs))=_
     rw [sgn_same e]
   ·with_unfolding_all refine⟨⟨⟨isU_dig _ _,t1,congrArg nl v1.symm⟩,isU_dig _ _,t2,congrArg nl v2.symm⟩,?_⟩
    rw [v1,v2]
    with_unfolding_all refine⟨fun e2=>?_,fun e2=>?_⟩
    ·have hl:bv b < bv c:=cmp_lt.1 (of_decide_eq_true e2)
     with_unfolding_all refine⟨⟨⟨isU_dig _ _,t2⟩,⟨isU_dig _ _,t1⟩,by rw [v1,v2];omega⟩,?_⟩
     rw [v1,v2]
     with_unfolding_all refine⟨⟨isU_dig _ _,by show nl (bv c - bv b)≤34359738368;omega⟩,?_⟩
     rw [val_rowU]
     with_unfolding_all refine⟨[some 2],stOf [(4,.ptr 0 0 0 0)] [boxI (sgn s (bv b)+sgn q (bv c)) 0] 1 [],Wo ⟨qZ ⟨⟨?_,rfl⟩,⟨?_,rfl⟩,qQ⟩,qQ⟩ ⟨pP,qQ⟩ trivial,rfl,rfl⟩
     ·show PV.val (.bool (decide (sgn q (bv c - bv b) < 0)))=_
      rw [sgn_diff1 e (by omega)]
     ·show PV.val (.string (numB (sgn q (bv c - bv b)).natAbs))=_
      rw [sgn_diff1 e (by omega)]
    ·have hl:bv c≤bv b:=by
      have:=of_decide_eq_false e2
      have h3:¬bv b < bv c:=fun h=>this (cmp_lt.2 h)
      omega
     with_unfolding_all refine⟨⟨⟨isU_dig _ _,t1⟩,⟨isU_dig _ _,t2⟩,by rw [v1,v2];omega⟩,?_⟩
     rw [v1,v2]
     with_unfolding_all refine⟨⟨isU_dig _ _,by show nl (bv b - bv c)≤34359738368;omega⟩,?_⟩
     rw [val_rowU]
     with_unfolding_all refine⟨[some 2],stOf [(4,.ptr 0 0 0 0)] [boxI (sgn s (bv b)+sgn q (bv c)) 0] 1 [],Wo ⟨qZ ⟨⟨?_,rfl⟩,⟨?_,rfl⟩,qQ⟩,qQ⟩ ⟨pP,qQ⟩ trivial,rfl,rfl⟩
     ·show PV.val (.bool (decide (sgn s (bv b - bv c) < 0)))=_
      rw [sgn_diff2 e (by omega)]
     ·show PV.val (.string (numB (sgn s (bv b - bv c)).natAbs))=_
      rw [sgn_diff2 e (by omega)]
 ·cases e
def c195:List PV→Option Ans
 |[.val v,.val u]=>some ⟨some (isI v∧isI u),.val (intV (rdI v - rdI u)),[]⟩
 |_=>none
theorem ok195:funcOk {} Tryz.f195 2=true:=by kernel_rfl
theorem f195:FnOk Tryz.prog 195 c195:=by
 refine FnOk.ofW orders (mkE_ok (l:=[(152,c152)]) (own:=[]) (inl:=[]) (by simp [f152]) (by simp)) Tryz.func195 {} 2 ok195 fun args r e=>?_
 unfold c195 at e
 split at e
 ·rename_i v u
  cases e
  refine⟨by simp,fun hm=>?_⟩
  obtain⟨⟨s,b,rfl,hb⟩,q,c,rfl,hc⟩:=hm _ rfl
  refine⟨[],stOf [(0,.val (.agg ⟨[.bool s,.string b]⟩)),(1,.val (.agg ⟨[.bool q,.string c]⟩))] [] 0 [],Wo trivial ⟨rfl,rfl,qQ⟩ trivial,?_⟩
  have hz:sgn s (bv b)+sgn (!q) (bv c)=sgn s (bv b) - sgn q (bv c):=by rw [sgn_not];omega
  with_unfolding_all refine⟨⟨⟨s,b,rfl,hb⟩,!q,c,rfl,hc⟩,⟨[some 2],stOf [(4,.ptr 0 0 0 0)] [boxI (sgn s (bv b) - sgn q (bv c)) 0] 1 [],Wo ⟨qZ ⟨⟨?_,rfl⟩,⟨?_,rfl⟩,qQ⟩,qQ⟩ ⟨pP,qQ⟩ trivial,rfl,rfl⟩⟩
  ·show PV.val (.bool (decide (sgn s (bv b)+sgn (!q) (bv c) < 0)))=_
   rw [hz]
  ·show PV.val (.string (numB (sgn s (bv b)+sgn (!q) (bv c)).natAbs))=_
   rw [hz]
 ·cases e
end Go.Proofs
namespace Go.Proofs
open Go Go.Ex Go.Num
set_option maxRecDepth 100000
def c108:List PV→Option Ans
 |[.val v,.val u]=>some ⟨some (isI v∧isI u),.val (goInt (cmpI (rdI v) (rdI u))),[]⟩
 |_=>none
def D108:Opt:={ perm:=atRs [(1,[(0,true),(1,true),(3,true),(4,true),(2,false),(5,false)])],join:=fun c=>match c with | .region 2 _ _=>true|_=>false }
theorem ok108:funcOk D108.toOrd Tryz.f108 2=true:=by kernel_rfl
theorem f108:FnOk Tryz.prog 108 c108:=by
 refine FnOk.ofW orders (mkE_ok (l:=[(141,c141),(142,c142)]) (own:=[]) (inl:=[]) (by simp [f141,f142]) (by simp)) Tryz.func108 D108 2 ok108 fun args r e=>?_
 unfold c108 at e
 split at e
 ·rename_i v u
  cases e
  refine⟨by simp,fun hm=>?_⟩
  obtain⟨⟨s,b,rfl,hb⟩,q,c,rfl,hc⟩:=hm _ rfl
  refine⟨[],stOf [(0,.val (.agg ⟨[.bool s,.string b]⟩)),(1,.val (.agg ⟨[.bool q,.string c]⟩))] [] 0 [],Wo trivial ⟨rfl,rfl,qQ⟩ trivial,?_⟩
  have h1:=nl_bv4 hb
  have h2:=nl_bv4 hc
  have t1:tame (nl (bv b)):=by show _≤4398046511104;omega
  have t2:tame (nl (bv c)):=by show _≤4398046511104;omega
  have v1:=val_rowU (bv b)
  have v2:=val_rowU (bv c)
  with_unfolding_all refine⟨by show b.size≤_;omega,by show c.size≤_;omega,Unit,fun _=>True,fun _=>stOf [(2,.ptr 0 0 0 0),(3,.ptr 1 1 0 0),(5,.rs 1 (nl (bv b)) (digU (bv b))),(6,.rs 1 (nl (bv c)) (digU (bv c)))] [rawI (decide (sgn s (bv b) < 0)) b 0,rawI (decide (sgn q (bv c) < 0)) c 1] 2 [],⟨fun e1=>⟨fun e2=>⟨(),[some 0,some 1],trivial,Wo ⟨qZ ⟨⟨congrArg (fun x=>PV.val (.bool x)) (neg_box e1 _),rfl⟩,rq,qQ⟩,qZ ⟨⟨congrArg (fun x=>PV.val (.bool x)) (neg_box e2 _),rfl⟩,rq,qQ⟩,qQ⟩ ⟨pP,pP,qW,qW,qQ⟩ trivial⟩,fun e2=>⟨(),[some 0,some 1],trivial,Wo ⟨qZ ⟨⟨congrArg (fun x=>PV.val (.bool x)) (neg_box e1 _),rfl⟩,rq,qQ⟩,qZ ⟨⟨congrArg (fun x=>PV.val (.bool x)) (neg_box0 e2 _),rfl⟩,rq,qQ⟩,qQ⟩ ⟨pP,pP,qW,qW,qQ⟩ trivial⟩⟩,fun e1=>⟨fun e2=>⟨(),[some 0,some 1],trivial,Wo ⟨qZ ⟨⟨congrArg (fun x=>PV.val (.bool x)) (neg_box0 e1 _),rfl⟩,rq,qQ⟩,qZ ⟨⟨congrArg (fun x=>PV.val (.bool x)) (neg_box e2 _),rfl⟩,rq,qQ⟩,qQ⟩ ⟨pP,pP,qW,qW,qQ⟩ trivial⟩,fun e2=>⟨(),[some 0,some 1],trivial,Wo ⟨qZ ⟨⟨congrArg (fun x=>PV.val (.bool x)) (neg_box0 e1 _),rfl⟩,rq,qQ⟩,qZ ⟨⟨congrArg (fun x=>PV.val (.bool x)) (neg_box0 e2 _),rfl⟩,rq,qQ⟩,qQ⟩ ⟨pP,pP,qW,qW,qQ⟩ trivial⟩⟩⟩,fun _ _=>?_⟩
  with_unfolding_all refine⟨fun e1=>⟨fun e2=>?_,fun e2=>⟨fun _=>⟨[],stOf [(4,.val (goInt (cmpI (sgn s (bv b)) (sgn q (bv c)))))] [] 0 [],Wo trivial ⟨congrArg (fun x=>PV.val (goInt x)) (cmp_np e1 e2),qQ⟩ trivial,rfl,rfl⟩,fun h=>absurd h (by rw [e1];exact nofun)⟩⟩,fun e1=>⟨nofun,fun _=>⟨fun h=>absurd (h.symm.trans e1) nofun,fun _=>⟨fun e2=>⟨[],stOf [(4,.val (goInt (cmpI (sgn s (bv b)) (sgn q (bv c)))))] [] 0 [],Wo trivial ⟨congrArg (fun x=>PV.val (goInt x)) (cmp_pn e1 e2),qQ⟩ trivial,rfl,rfl⟩,fun e2=>?_⟩⟩⟩⟩
  ·with_unfolding_all refine⟨⟨⟨isU_dig _ _,t2,congrArg nl v2.symm⟩,isU_dig _ _,t1,congrArg nl v1.symm⟩,[],stOf [(4,.val (goInt (cmpI (sgn s (bv b)) (sgn q (bv c)))))] [] 0 [],Wo trivial ⟨?_,qQ⟩ trivial,rfl,rfl⟩
   show PV.val (goInt (cmpN (valG (nl (bv c)) (digU (bv c))) (valG (nl (bv b)) (digU (bv b)))))=_
   rw [v1,v2,cmp_nn e1 e2]
  ·with_unfolding_all refine⟨⟨⟨isU_dig _ _,t1,congrArg nl v1.symm⟩,isU_dig _ _,t2,congrArg nl v2.symm⟩,[],stOf [(4,.val (goInt (cmpI (sgn s (bv b)) (sgn q (bv c)))))] [] 0 [],Wo trivial ⟨?_,qQ⟩ trivial,rfl,rfl⟩
   show PV.val (goInt (cmpN (valG (nl (bv b)) (digU (bv b))) (valG (nl (bv c)) (digU (bv c)))))=_
   rw [v1,v2,cmp_pp e1 e2]
 ·cases e
end Go.Proofs
namespace Go.Proofs
open Go Go.Ex Go.Num
set_option maxRecDepth 100000
def c144:List PV→Option Ans
 |[.val v,.val u]=>some ⟨some (isI v∧isI u),.val (intV ((Nat.gcd (rdI v).natAbs (rdI u).natAbs:Nat):Int)),[]⟩
 |_=>none
def D144:Opt:={ perm:=atRs [(1,[(0,true),(1,true),(3,true),(4,true),(2,false),(5,false)])] }
theorem ok144:funcOk D144.toOrd Tryz.f144 2=true:=by kernel_rfl
theorem f144:FnOk Tryz.prog 144 c144:=by
 refine FnOk.ofW orders (mkE_ok (l:=[(141,c141),(111,c111),(194,c194)]) (own:=[]) (inl:=[]) (by simp [f141,f111,f194]) (by simp)) Tryz.func144 D144 2 ok144 fun args r e=>?_
 unfold c144 at e
 split at e
 ·rename_i v u
  cases e
  refine⟨by simp,fun hm=>?_⟩
  obtain⟨⟨s,b,rfl,hb⟩,q,c,rfl,hc⟩:=hm _ rfl
  refine⟨[],stOf [(0,.val (.agg ⟨[.bool s,.string b]⟩)),(1,.val (.agg ⟨[.bool q,.string c]⟩))] [] 0 [],Wo trivial ⟨rfl,rfl,qQ⟩ trivial,?_⟩
  have h1:=nl_bv4 hb
  have h2:=nl_bv4 hc
  have hz:((Nat.gcd (sgn s (bv b)).natAbs (sgn q (bv c)).natAbs:Nat):Int)=((Nat.gcd (bv b) (bv c):Nat):Int):=by rw [sgn_natAbs,sgn_natAbs]
  with_unfolding_all refine⟨by show b.size≤_;omega,by show c.size≤_;omega,Nat×Nat,fun x=>(nl x.1≤8589934592∧nl x.2≤8589934592)∧Nat.gcd x.1 x.2=Nat.gcd (bv b) (bv c),fun x=>stOf [(4,.ptr 0 0 0 0),(5,.rs 1 (nl x.1) (digU x.1)),(6,.rs 1 (nl x.2) (digU x.2))] [zbox 0] 1 [],fun x=>x.2,⟨(bv b,bv c),[some 2],⟨⟨h1,h2⟩,rfl⟩,Wo ⟨qJ,qQ⟩ ⟨pP,qW,qW,qQ⟩ trivial⟩,fun x hx=>?_⟩
  obtain⟨x,y⟩:=x
  obtain⟨⟨hx1,hx2⟩,hx3⟩:=hx
  simp only at hx1 hx2 hx3
  have v1:=val_rowU x
  have v2:=val_rowU y
  have t1:tame (nl x+2):=by show _≤4398046511104;omega
  have t2:tame (nl y+2):=by show _≤4398046511104;omega
  with_unfolding_all refine⟨fun e=>?_,fun e=>?_⟩
  ·have hy:y≠0:=nl_pos.1 (by have:((nl y:Nat):Int) > 0:=of_decide_eq_true e;omega)
   with_unfolding_all refine⟨⟨⟨isU_dig _ _,t1,congrArg nl v1.symm⟩,⟨isU_dig _ _,t2,congrArg nl v2.symm⟩,by rw [v2];omega⟩,?_⟩
   rw [v1,v2]
   have hlt:x%y < y:=Nat.mod_lt _ (by omega)
   with_unfolding_all refine⟨(y,x%y),[some 0],⟨⟨hx2,Nat.le_trans (nl_le (Nat.lt_trans hlt (nl_spec y).1)) hx2⟩,?_⟩,hlt,Wo ⟨qJ,qQ⟩ ⟨pP,qW,qW,qQ⟩ trivial⟩
   show Nat.gcd y (x%y)=_
   rw [←hx3,Nat.gcd_comm y,←Nat.gcd_rec,Nat.gcd_comm]
  ·have hy:y=0:=by
    rcases Nat.eq_zero_or_pos y with h|h
    ·exact h
    ·have:=nl_pos.2 (show y≠0 by omega)
     have:¬((nl y:Nat):Int) > 0:=of_decide_eq_false e
     omega
   rw [hy,Nat.gcd_zero_right] at hx3
   have hn:nl x≤34359738368:=by omega
   with_unfolding_all refine⟨⟨isU_dig _ _,hn⟩,?_⟩
   rw [v1]
   with_unfolding_all refine⟨[some 0],stOf [(4,.ptr 0 0 0 0)] [boxI ((Nat.gcd (sgn s (bv b)).natAbs (sgn q (bv c)).natAbs:Nat):Int) 0] 1 [],Wo ⟨qZ ⟨⟨?_,rfl⟩,⟨?_,rfl⟩,qQ⟩,qQ⟩ ⟨pP,qQ⟩ trivial,rfl,rfl⟩
   ·show PV.val (.bool (decide (sgn false x < 0)))=PV.val (.bool (decide (((Nat.gcd (sgn s (bv b)).natAbs (sgn q (bv c)).natAbs:Nat):Int) < 0)))
    rw [hz,←hx3]
    rfl
   ·show PV.val (.string (numB (sgn false x).natAbs))=PV.val (.string (numB ((Nat.gcd (sgn s (bv b)).natAbs (sgn q (bv c)).natAbs:Nat):Int).natAbs))
    rw [hz,←hx3]
    rfl
 ·cases e
def c145:List PV→Option Ans
 |[.val v,.val u]=>some ⟨some (isI v∧isI u∧0 < rdI u∧rdI u∣rdI v),.val (.tuple ⟨[intV (rdI v / rdI u),intV 0,.int .i64 0]⟩),[]⟩
 |_=>none
def D145:Opt:={ perm:=atTs [(5,.rds [0,1,2,3,4,5,7,8,9] (.alt 6 (.alt 10 (.alt 11 (.mk 12 .nil) (.mk 12 (.mk 11 .nil))) (.alt 11 (.alt 10 (.mk 12 .nil) (.mk 12 (.mk 10 .nil))) (.mk 12 (.alt 10 (.mk 11 .nil) (.mk 11 (.mk 10 .nil)))))) (.alt 11 (.alt 6 (.alt 10 (.mk 12 .nil) (.mk 12 (.mk 10 .nil))) (.mk 12 (.mk 6 (.mk 10 .nil)))) (.mk 12 (.alt 6 (.alt 10 (.mk 11 .nil) (.mk 11 (.mk 10 .nil))) (.mk 11 (.mk 6 (.mk 10 .nil)))))))),(7,.ofL [(0,true),(3,true),(4,true),(1,false),(2,false),(5,false)])] ,all:=atTs [(8,.alt 0 (.alt 1 (OT.seq [2,3,4] .nil) (OT.seq [2,1,3,4] .nil)) (OT.seq [1,0,2,3,4] .nil))],join:=fun c=>match c with | .region 5 _ _=>true | .region 4 _ _=>true|_=>false }
theorem ok145:funcOk D145.toOrd Tryz.f145 2=true:=by kernel_rfl
theorem f145:FnOk Tryz.prog 145 c145:=by
 refine FnOk.ofW orders (mkE_ok (l:=[(141,c141),(111,c111),(194,c194),(73,c73),(195,c195),(152,c152)]) (own:=[]) (inl:=[]) (by simp [f141,f111,f194,f73,f195,f152]) (by simp)) Tryz.func145 D145 2 ok145 fun args r e=>?_
 unfold c145 at e
 split at e
 ·rename_i v u
  cases e
  refine⟨by simp,fun hm=>?_⟩
  obtain⟨⟨s,b,rfl,hb⟩,⟨q,c,rfl,hc⟩,hpos,hdv⟩:=hm _ rfl
  refine⟨[],stOf [(0,.val (.agg ⟨[.bool s,.string b]⟩)),(1,.val (.agg ⟨[.bool q,.string c]⟩))] [] 0 [],Wo trivial ⟨rfl,rfl,qQ⟩ trivial,?_⟩
  have h1:=nl_bv4 hb
  have h2:=nl_bv4 hc
  obtain rfl:q=false:=by
   cases q
   ·rfl
   ·exfalso
    have:(0:Int) < -(bv c:Int):=hpos
    omega
  have hM:bv c≠0:=by
   rintro h
   have:(0:Int) < (bv c:Int):=hpos
   omega
  have hdN:bv c∣bv b:=by
   have h:((bv c:Nat):Int)∣sgn s (bv b):=hdv
   have h':=Int.natAbs_dvd_natAbs.2 h
   rwa [sgn_natAbs] at h'
  have hR:bv b%bv c=0:=Nat.mod_eq_zero_of_dvd hdN
  have hQ:sgn s (bv b) / sgn false (bv c)=sgn s (bv b / bv c):=by
   obtain⟨k,hk⟩:=hdN
   have hc0:(bv c:Int)≠0:=by omega
   rw [hk,Nat.mul_div_cancel_left _ (by omega)]
   cases s
   ·show((bv c*k:Nat):Int) / (bv c:Int)=(k:Int)
    rw [Int.natCast_mul,Int.mul_ediv_cancel_left _ hc0]
   ·show -((bv c*k:Nat):Int) / (bv c:Int) = -(k:Int)
    rw [Int.natCast_mul,←Int.mul_neg,Int.mul_ediv_cancel_left _ hc0]
  have v1:=val_rowU (bv b)
  have v2:=val_rowU (bv c)
  have t1:tame (nl (bv b)+2):=by show _≤4398046511104;omega
  have t2:tame (nl (bv c)+2):=by show _≤4398046511104;omega
  obtain⟨Q,hQe⟩:∃Q,Q=bv b / bv c:=⟨_,rfl⟩
  rw [←hQe] at hQ
  have n1:nl Q≤34359738368:=by
   have:=nl_le (Nat.lt_of_le_of_lt (Nat.div_le_self (bv b) (bv c)) (nl_spec (bv b)).1)
   rw [←hQe] at this
   omega
  have n2:nl 0≤34359738368:=by rw [nl_zero];omega
  have eQ:valG (nl (bv b)) (digU (bv b)) / valG (nl (bv c)) (digU (bv c))=Q:=by rw [v1,v2,hQe]
  have eR:valG (nl (bv b)) (digU (bv b))%valG (nl (bv c)) (digU (bv c))=0:=by rw [v1,v2,hR]
  have hs:(!(s==false))=s:=by cases s<;>rfl
  have w1:PV.val (.bool (decide (sgn (!(s==false)) (valG (nl Q) (digU Q)) < 0)))=PV.val (.bool (decide (sgn s Q < 0))):=by rw [val_rowU,hs]
  have w2:PV.val (.string (numB (sgn (!(s==false)) (valG (nl Q) (digU Q))).natAbs))=PV.val (.string (numB Q)):=by rw [val_rowU,sgn_natAbs]
  have w3:PV.val (.bool (decide (sgn s (valG (nl 0) (digU 0)) < 0)))=PV.val (.bool false):=by rw [val_rowU];cases s<;>rfl
  have w4:PV.val (.string (numB (sgn s (valG (nl 0) (digU 0))).natAbs))=PV.val (.string (numB 0)):=by rw [val_rowU,sgn_natAbs]
  with_unfolding_all refine⟨by show c.size≤_;omega,fun e=>absurd (beq0 e) (by have:=nl_pos.2 hM;omega),fun e=>⟨Unit,fun _=>True,fun _=>stOf [(2,.ptr 0 0 0 0),(3,.ptr 1 1 0 0),(4,.ptr 2 2 0 0),(5,.ptr 3 3 0 0),(8,.rs 1 (nl Q) (digU Q)),(9,.rs 1 (nl 0) (digU 0))] [rawI s b 0,rawI false c 1,zbox 2,zbox 3] 4 [],⟨by show b.size≤_;omega,⟨⟨isU_dig _ _,t1,congrArg nl v1.symm⟩,⟨isU_dig _ _,t2,congrArg nl v2.symm⟩,by rw [v2];omega⟩,(),[some 0,some 1,some 2,some 3],trivial,Wo ⟨qJ,qJ,qJ,qJ,qQ⟩ ⟨pP,pP,pP,pP,⟨rfl,congrArg nl eQ,fun j _=>congrArg (digU · j) eQ.symm⟩,⟨rfl,congrArg nl eR,fun j _=>congrArg (digU · j) eR.symm⟩,qQ⟩ trivial⟩,fun _ _=>?_⟩⟩
  with_unfolding_all refine⟨Unit,fun _=>True,fun _=>stOf [(2,.ptr 0 0 0 0),(3,.ptr 1 1 0 0),(4,.ptr 2 2 0 0),(5,.ptr 3 3 0 0),(10,.ptr 4 4 0 0),(11,.ptr 5 5 0 0)] [rawI s b 0,rawI false c 1,zbox 2,zbox 3,⟨99,2,4,true,false,1,fun _=>[.val (.bool (decide (sgn s Q < 0))),.val (.string (numB Q))]⟩,⟨99,2,5,true,false,1,fun _=>[.val (.bool false),.val (.string (numB 0))]⟩] 6 [],⟨⟨⟨isU_dig _ _,n1⟩,⟨⟨⟨isU_dig _ _,n2⟩,⟨⟨(),[some 0,some 1,some 2,some 3,some 4,some 5],trivial,Wo ⟨qJ,qJ,qJ,qJ,qZ ⟨⟨w1,rfl⟩,⟨w2,rfl⟩,qQ⟩,qZ ⟨⟨w3,rfl⟩,⟨w4,rfl⟩,qQ⟩,qQ⟩ ⟨pP,pP,pP,pP,pP,pP,qQ⟩ trivial⟩,⟨(),[some 0,some 1,some 2,some 3,some 5,some 4],trivial,Wo ⟨qJ,qJ,qJ,qJ,qZ ⟨⟨w1,rfl⟩,⟨w2,rfl⟩,qQ⟩,qZ ⟨⟨w3,rfl⟩,⟨w4,rfl⟩,qQ⟩,qQ⟩ ⟨pP,pP,pP,pP,pP,pP,qQ⟩ trivial⟩⟩⟩,⟨⟨⟨⟨isU_dig _ _,n2⟩,⟨(),[some 0,some 1,some 2,some 3,some 4,some 5],trivial,Wo ⟨qJ,qJ,qJ,qJ,qZ ⟨⟨w1,rfl⟩,⟨w2,rfl⟩,qQ⟩,qZ ⟨⟨w3,rfl⟩,⟨w4,rfl⟩,qQ⟩,qQ⟩ ⟨pP,pP,pP,pP,pP,pP,qQ⟩ trivial⟩⟩,⟨⟨isU_dig _ _,n2⟩,⟨(),[some 0,some 1,some 2,some 3,some 4,some 5],trivial,Wo ⟨qJ,qJ,qJ,qJ,qZ ⟨⟨w1,rfl⟩,⟨w2,rfl⟩,qQ⟩,qZ ⟨⟨w3,rfl⟩,⟨w4,rfl⟩,qQ⟩,qQ⟩ ⟨pP,pP,pP,pP,pP,pP,qQ⟩ trivial⟩⟩⟩,⟨⟨⟨isU_dig _ _,n2⟩,⟨(),[some 0,some 1,some 2,some 3,some 5,some 4],trivial,Wo ⟨qJ,qJ,qJ,qJ,qZ ⟨⟨w1,rfl⟩,⟨w2,rfl⟩,qQ⟩,qZ ⟨⟨w3,rfl⟩,⟨w4,rfl⟩,qQ⟩,qQ⟩ ⟨pP,pP,pP,pP,pP,pP,qQ⟩ trivial⟩⟩,⟨⟨isU_dig _ _,n2⟩,⟨(),[some 0,some 1,some 2,some 3,some 5,some 4],trivial,Wo ⟨qJ,qJ,qJ,qJ,qZ ⟨⟨w1,rfl⟩,⟨w2,rfl⟩,qQ⟩,qZ ⟨⟨w3,rfl⟩,⟨w4,rfl⟩,qQ⟩,qQ⟩ ⟨pP,pP,pP,pP,pP,pP,qQ⟩ trivial⟩⟩⟩⟩⟩⟩,⟨⟨⟨⟨isU_dig _ _,n1⟩,⟨⟨⟨isU_dig _ _,n2⟩,⟨(),[some 0,some 1,some 2,some 3,some 4,some 5],trivial,Wo ⟨qJ,qJ,qJ,qJ,qZ ⟨⟨w1,rfl⟩,⟨w2,rfl⟩,qQ⟩,qZ ⟨⟨w3,rfl⟩,⟨w4,rfl⟩,qQ⟩,qQ⟩ ⟨pP,pP,pP,pP,pP,pP,qQ⟩ trivial⟩⟩,⟨⟨isU_dig _ _,n2⟩,⟨(),[some 0,some 1,some 2,some 3,some 4,some 5],trivial,Wo ⟨qJ,qJ,qJ,qJ,qZ ⟨⟨w1,rfl⟩,⟨w2,rfl⟩,qQ⟩,qZ ⟨⟨w3,rfl⟩,⟨w4,rfl⟩,qQ⟩,qQ⟩ ⟨pP,pP,pP,pP,pP,pP,qQ⟩ trivial⟩⟩⟩⟩,⟨⟨isU_dig _ _,n1⟩,⟨⟨isU_dig _ _,n2⟩,⟨(),[some 0,some 1,some 2,some 3,some 4,some 5],trivial,Wo ⟨qJ,qJ,qJ,qJ,qZ ⟨⟨w1,rfl⟩,⟨w2,rfl⟩,qQ⟩,qZ ⟨⟨w3,rfl⟩,⟨w4,rfl⟩,qQ⟩,qQ⟩ ⟨pP,pP,pP,pP,pP,pP,qQ⟩ trivial⟩⟩⟩⟩,⟨⟨⟨isU_dig _ _,n1⟩,⟨⟨⟨isU_dig _ _,n2⟩,⟨(),[some 0,some 1,some 2,some 3,some 5,some 4],trivial,Wo ⟨qJ,qJ,qJ,qJ,qZ ⟨⟨w1,rfl⟩,⟨w2,rfl⟩,qQ⟩,qZ ⟨⟨w3,rfl⟩,⟨w4,rfl⟩,qQ⟩,qQ⟩ ⟨pP,pP,pP,pP,pP,pP,qQ⟩ trivial⟩⟩,⟨⟨isU_dig _ _,n2⟩,⟨(),[some 0,some 1,some 2,some 3,some 5,some 4],trivial,Wo ⟨qJ,qJ,qJ,qJ,qZ ⟨⟨w1,rfl⟩,⟨w2,rfl⟩,qQ⟩,qZ ⟨⟨w3,rfl⟩,⟨w4,rfl⟩,qQ⟩,qQ⟩ ⟨pP,pP,pP,pP,pP,pP,qQ⟩ trivial⟩⟩⟩⟩,⟨⟨isU_dig _ _,n1⟩,⟨⟨isU_dig _ _,n2⟩,⟨(),[some 0,some 1,some 2,some 3,some 5,some 4],trivial,Wo ⟨qJ,qJ,qJ,qJ,qZ ⟨⟨w1,rfl⟩,⟨w2,rfl⟩,qQ⟩,qZ ⟨⟨w3,rfl⟩,⟨w4,rfl⟩,qQ⟩,qQ⟩ ⟨pP,pP,pP,pP,pP,pP,qQ⟩ trivial⟩⟩⟩⟩⟩⟩,fun _ _=>?_⟩
  have q2:PV.val (.string (numB Q))=PV.val (.string (numB (sgn s Q).natAbs)):=by rw [sgn_natAbs]
  with_unfolding_all refine⟨fun h=>absurd (numB_nil.symm.trans h) (by decide),fun _=>⟨fun h=>(nomatch h),fun _=>⟨⟨⟨[some 2,some 3],stOf [(4,.ptr 0 0 0 0),(5,.ptr 1 1 0 0),(6,.val (.int .i64 0))] [boxI (sgn s Q) 0,boxI 0 1] 2 [],Wo ⟨qZ ⟨rq,⟨q2,rfl⟩,qQ⟩,qJ,qQ⟩ ⟨pP,pP,rfl,qQ⟩ trivial,congrArg (fun z=>PV.val (.tuple ⟨[intV z,intV 0,.int .i64 0]⟩)) hQ.symm,rfl⟩,⟨[some 2,some 3],stOf [(4,.ptr 0 0 0 0),(5,.ptr 1 1 0 0),(6,.val (.int .i64 0))] [boxI (sgn s Q) 0,boxI 0 1] 2 [],Wo ⟨qZ ⟨rq,⟨q2,rfl⟩,qQ⟩,qJ,qQ⟩ ⟨pP,pP,rfl,qQ⟩ trivial,congrArg (fun z=>PV.val (.tuple ⟨[intV z,intV 0,.int .i64 0]⟩)) hQ.symm,rfl⟩⟩,⟨[some 2,some 3],stOf [(4,.ptr 0 0 0 0),(5,.ptr 1 1 0 0),(6,.val (.int .i64 0))] [boxI (sgn s Q) 0,boxI 0 1] 2 [],Wo ⟨qZ ⟨rq,⟨q2,rfl⟩,qQ⟩,qJ,qQ⟩ ⟨pP,pP,rfl,qQ⟩ trivial,congrArg (fun z=>PV.val (.tuple ⟨[intV z,intV 0,.int .i64 0]⟩)) hQ.symm,rfl⟩⟩⟩⟩
 ·cases e
end Go.Proofs
namespace Go.Num
open Go Go.Ex
def isR (v:Value):Prop:=∃s b c,v=.agg ⟨[.bool s,.string b,.string c]⟩∧b.size≤34359738368∧c.size≤34359738368
def rdN:Value→Int
 |.agg ⟨[.bool s,.string b,.string _]⟩=>sgn s (bv b)
 |_=>0
def den1 (n:Nat):Nat:=if n=0 then 1 else n
def rdD:Value→Nat
 |.agg ⟨[.bool _,.string _,.string c]⟩=>den1 (bv c)
 |_=>1
def rdR (v:Value):Rat:=mkRat (rdN v) (rdD v)
def denB (c:ByteArray):ByteArray:=if bv c=0 then numB 1 else c
def ofV:Value→Value
 |.agg ⟨[.bool s,.string b,.string c]⟩=>.agg ⟨[.bool s,.string b,.bool false,.string (denB c)]⟩
 |v=>v
def isF (v:Value):Prop:=∃s b q c,v=.agg ⟨[.bool s,.string b,.bool q,.string c]⟩∧b.size≤34359738368∧c.size≤34359738368
def rdFn:Value→Int
 |.agg ⟨[.bool s,.string b,.bool _,.string _]⟩=>sgn s (bv b)
 |_=>0
def rdFd:Value→Int
 |.agg ⟨[.bool _,.string _,.bool q,.string c]⟩=>sgn q (bv c)
 |_=>0
def denT (d:Nat):ByteArray:=if d=1 then⟨#[]⟩ else numB d
def ratV (q:Rat):Value:=.agg ⟨[.bool (decide (q.num < 0)),.string (numB q.num.natAbs),.string (denT q.den)]⟩
theorem bv_lt (b:ByteArray):bv b < 256^b.size:=by
 have h:=bvL_lt b.data.toList
 exact h
theorem bv_denB (c:ByteArray):bv (denB c)=den1 (bv c):=by
 unfold denB den1
 split
 ·exact bv_numB 1
 ·rfl
theorem denB_size {c:ByteArray} (h:c.size≤34359738368):(denB c).size≤34359738368:=by
 unfold denB
 split
 ·exact Nat.le_trans (numB_le (k:=1) (by decide)) (by decide)
 ·exact h
theorem den1_pos (n:Nat):0 < den1 n:=by unfold den1;split<;>omega
theorem den1_of {n:Nat} (h:n≠0):den1 n=n:=if_neg h
theorem isF_ofV {v:Value} (h:isR v):isF (ofV v)∧rdFn (ofV v)=rdN v∧rdFd (ofV v)=rdD v∧0 < rdFd (ofV v):=by
 obtain⟨s,b,c,rfl,hb,hc⟩:=h
 have e:rdFd (ofV (.agg ⟨[.bool s,.string b,.string c]⟩))=((den1 (bv c):Nat):Int):=by
  show sgn false (bv (denB c))=_
  rw [bv_denB]
  rfl
 refine⟨⟨s,b,false,denB c,rfl,hb,denB_size hc⟩,rfl,e,?_⟩
 rw [e]
 have:=den1_pos (bv c)
 omega
theorem numB_zero:numB 0=⟨#[]⟩:=by simp [numB,digs_zero]
theorem ratV_zero:ratV 0=.agg ⟨[.bool false,.string ⟨#[]⟩,.string ⟨#[]⟩]⟩:=by
 show Value.agg ⟨[.bool (decide ((0:Int) < 0)),.string (numB 0),.string (denT 1)]⟩=_
 rw [numB_zero]
 rfl
theorem rdR_ratV (q:Rat):rdR (ratV q)=q:=by
 have h:den1 (bv (denT q.den))=q.den:=by
  unfold denT
  split
  ·rename_i h;rw [h];rfl
  ·rw [bv_numB,den1_of q.den_nz]
 show mkRat (sgn (decide (q.num < 0)) (bv (numB q.num.natAbs))) (den1 (bv (denT q.den)))=q
 rw [h]
 have e:=rdI_intV q.num
 rw [show sgn (decide (q.num < 0)) (bv (numB q.num.natAbs))=q.num from e]
 exact Rat.mkRat_self q
theorem cmpI_zero {a b:Int}:decide (cmpI a b=0)=decide (a=b):=by
 rw [decide_eq_decide]
 unfold cmpI
 split
 ·omega
 ·split<;>omega
end Go.Num
namespace Go.Proofs
open Go Go.Ex Go.Num
set_option maxRecDepth 100000
def c192:List PV→Option Ans
 |[.val (.bool s),.val (.string b)]=>some ⟨none,.val (.agg ⟨[.bool s,.string b]⟩),[]⟩
 |_=>none
theorem ok192:funcOk {} Tryz.f192 2=true:=by kernel_rfl
theorem f192:FnOk Tryz.prog 192 c192:=by
 refine FnOk.ofW orders (mkE_ok (l:=[]) (own:=[]) (inl:=[]) (by simp) (by simp)) Tryz.func192 {} 2 ok192 fun args r e=>?_
 unfold c192 at e
 split at e
 ·rename_i s b
  cases e
  refine⟨by simp,fun hm=>?_⟩
  refine⟨[],stOf [(0,.val (.bool s)),(1,.val (.string b))] [] 0 [],Wo trivial ⟨rfl,rfl,qQ⟩ trivial,?_⟩
  with_unfolding_all refine⟨[some 0],stOf [(4,.ptr 0 0 0 0)] [rawI s b 0] 1 [],Wo ⟨qJ,qQ⟩ ⟨pP,qQ⟩ trivial,rfl,rfl⟩
 ·cases e
def c143:List PV→Option Ans
 |[.val v,.val (.int .i64 z)]=>some ⟨some (isI v ∧ -9223372036854775808≤z∧z < 9223372036854775808),.val (.bool (decide (rdI v=z))),[]⟩
 |_=>none
def D143:Opt:={ perm:=atR 1 [(0,true),(1,true),(2,false),(3,false)] }
theorem ok143:funcOk D143.toOrd Tryz.f143 2=true:=by kernel_rfl
theorem f143:FnOk Tryz.prog 143 c143:=by
 refine FnOk.ofW orders (mkE_ok (l:=[(73,c73),(108,c108)]) (own:=[]) (inl:=[]) (by simp [f73,f108]) (by simp)) Tryz.func143 D143 2 ok143 fun args r e=>?_
 unfold c143 at e
 split at e
 ·rename_i v z
  cases e
  refine⟨by simp,fun hm=>?_⟩
  obtain⟨⟨s,b,rfl,hb⟩,h1,h2⟩:=hm _ rfl
  refine⟨[],stOf [(0,.val (.agg ⟨[.bool s,.string b]⟩)),(1,.val (.int .i64 z))] [] 0 [],Wo trivial ⟨rfl,rfl,qQ⟩ trivial,?_⟩
  with_unfolding_all refine⟨⟨h1,h2⟩,⟨⟨_,_,rfl,hb⟩,isI_intV (k:=8) (by show z.natAbs < 18446744073709551616;omega) (by decide)⟩,[],stOf [(4,.val (.bool (decide (sgn s (bv b)=z))))] [] 0 [],Wo trivial ⟨?_,qQ⟩ trivial,rfl,rfl⟩
  rw [rdI_intV]
  show PV.val (.bool (decide (cmpI (sgn s (bv b)) z=0)))=_
  rw [cmpI_zero]
 ·cases e
def c137:List PV→Option Ans
 |[.val v]=>some ⟨some (isR v),.val (ofV v),[]⟩
 |_=>none
def D137:Opt:={ perm:=atTs [(1,.rds [0,1,2,3,5,6] (.alt 4 (.alt 7 (.rds [8] (.mk 9 .nil)) (.mk 9 (.mk 7 (.rds [8] .nil)))) (.mk 9 (.mk 4 (.mk 7 (.rds [8] .nil))))))],join:=fun c=>match c with | .region 1 _ _=>true | .seq (.region 2 _ _) _=>true|_=>false }
theorem ok137:funcOk D137.toOrd Tryz.f137 1=true:=by kernel_rfl
def boxF (s:Bool) (b:ByteArray) (q:Bool) (c:ByteArray) (st:Nat):Blk:=⟨135,4,st,true,false,1,fun _=>[.val (.bool s),.val (.string b),.val (.bool q),.val (.string c)]⟩
def boxR (s:Bool) (b c:ByteArray) (st:Nat):Blk:=⟨23,3,st,true,false,1,fun _=>[.val (.bool s),.val (.string b),.val (.string c)]⟩
theorem f137:FnOk Tryz.prog 137 c137:=by
 refine FnOk.ofW orders (mkE_ok (l:=[(192,c192),(143,c143),(73,c73)]) (own:=[]) (inl:=[]) (by simp [f192,f143,f73]) (by simp)) Tryz.func137 D137 1 ok137 fun args r e=>?_
 unfold c137 at e
 split at e
 ·rename_i v
  cases e
  refine⟨by simp,fun hm=>?_⟩
  obtain⟨s,b,c,rfl,hb,hc⟩:=hm _ rfl
  refine⟨[],stOf [(0,.val (.agg ⟨[.bool s,.string b,.string c]⟩))] [] 0 [],Wo trivial ⟨rfl,qQ⟩ trivial,?_⟩
  with_unfolding_all refine⟨Unit,fun _=>True,fun _=>stOf [(1,.ptr 0 0 0 0),(2,.ptr 1 1 0 0),(3,.ptr 2 2 0 0)] [boxR s b c 0,boxF false ⟨#[]⟩ false ⟨#[]⟩ 1,boxF s b false c 2] 3 [],⟨⟨⟨(),[some 0,some 1,some 2],trivial,Wo ⟨qX,qZ ⟨rq,rq,rq,rq,qQ⟩,qZ ⟨rq,rq,rq,rq,qQ⟩,qQ⟩ ⟨pP,pP,pP,qQ⟩ trivial⟩,⟨(),[some 0,some 1,some 2],trivial,Wo ⟨qX,qZ ⟨rq,rq,rq,rq,qQ⟩,qZ ⟨rq,rq,rq,rq,qQ⟩,qQ⟩ ⟨pP,pP,pP,qQ⟩ trivial⟩⟩,⟨(),[some 0,some 1,some 2],trivial,Wo ⟨qX,qZ ⟨rq,rq,rq,rq,qQ⟩,qZ ⟨rq,rq,rq,rq,qQ⟩,qQ⟩ ⟨pP,pP,pP,qQ⟩ trivial⟩⟩,fun _ _=>?_⟩
  have e1:decide (((bv c:Nat):Int)=0)=true→PV.val (.string (numB 1))=PV.val (.string (denB c)):=fun h=>by
   have h:bv c=0:=by have:=of_decide_eq_true h;omega
   rw [denB,if_pos h]
  have e2:decide (((bv c:Nat):Int)=0)=false→PV.val (.string c)=PV.val (.string (denB c)):=fun h=>by
   have h:¬bv c=0:=by have:=of_decide_eq_false h;omega
   rw [denB,if_neg h]
  with_unfolding_all refine⟨Unit,fun _=>True,fun _=>stOf [(2,.ptr 0 0 0 0),(3,.ptr 1 1 0 0)] [boxF false ⟨#[]⟩ false ⟨#[]⟩ 0,boxF s b false (denB c) 1] 2 [],?_,fun _ _=>?_⟩
  ·with_unfolding_all refine⟨⟨⟨_,_,rfl,hc⟩,by decide,by decide⟩,fun h=>⟨⟨by decide,by decide⟩,⟨(),[some 1,some 2],trivial,Wo ⟨qZ ⟨rq,rq,rq,rq,qQ⟩,qZ ⟨rq,rq,rq,⟨e1 h,rfl⟩,qQ⟩,qQ⟩ ⟨pP,pP,qQ⟩ trivial⟩⟩,fun h=>⟨(),[some 1,some 2],trivial,Wo ⟨qZ ⟨rq,rq,rq,rq,qQ⟩,qZ ⟨rq,rq,rq,⟨e2 h,rfl⟩,qQ⟩,qQ⟩ ⟨pP,pP,qQ⟩ trivial⟩⟩
  ·with_unfolding_all refine⟨[some 0],stOf [(2,.ptr 0 0 0 0)] [boxF s b false (denB c) 0] 1 [],Wo ⟨qZ ⟨rq,rq,rq,rq,qQ⟩,qQ⟩ ⟨pP,qQ⟩ trivial,rfl,rfl⟩
 ·cases e
end Go.Proofs
namespace Go.Proofs
open Go Go.Ex Go.Num
set_option maxRecDepth 100000
def c110:List PV→Option Ans
 |[.val v]=>some ⟨some (isF v∧0 < rdFd v),.val (ratV (mkRat (rdFn v) (rdFd v).toNat)),[]⟩
 |_=>none
def D110:Opt:={ join:=fun c=>match c with | .region 3 _ _=>true | .region 4 _ _=>true | .region 5 _ _=>true|_=>false }
theorem ok110:funcOk D110.toOrd Tryz.f110 1=true:=by kernel_rfl
theorem f110:FnOk Tryz.prog 110 c110:=by
 refine FnOk.ofW orders (mkE_ok (l:=[(143,c143),(144,c144),(145,c145)]) (own:=[]) (inl:=[]) (by simp [f143,f144,f145]) (by simp)) Tryz.func110 D110 1 ok110 fun args r e=>?_
 unfold c110 at e
 split at e
 ·rename_i v
  cases e
  refine⟨by simp,fun hm=>?_⟩
  obtain⟨⟨s,b,q,c,rfl,hb,hc⟩,hpos⟩:=hm _ rfl
  obtain rfl:q=false:=by
   cases q
   ·rfl
   ·exfalso
    have:(0:Int) < -(bv c:Int):=hpos
    omega
  have hM:bv c≠0:=by
   rintro h
   have:(0:Int) < (bv c:Int):=hpos
   omega
  refine⟨[],stOf [(0,.val (.agg ⟨[.bool s,.string b,.bool false,.string c]⟩))] [] 0 [],Wo trivial ⟨rfl,qQ⟩ trivial,?_⟩
  have hb1:bv c < 256^c.size:=bv_lt c
  obtain⟨G,hG⟩:∃G,G=Nat.gcd (bv b) (bv c):=⟨_,rfl⟩
  have hGe:((Nat.gcd (rdI (.agg ⟨[.bool s,.string b]⟩)).natAbs (rdI (.agg ⟨[.bool false,.string c]⟩)).natAbs:Nat):Int)=(G:Int):=by
   show((Nat.gcd (sgn s (bv b)).natAbs (sgn false (bv c)).natAbs:Nat):Int)=_
   rw [sgn_natAbs,sgn_natAbs,hG]
  have hGpos:0 < G:=by rw [hG];exact Nat.gcd_pos_of_pos_right _ (by omega)
  have hGle:G≤bv c:=by rw [hG];exact Nat.gcd_le_right _ (by omega)
  have hGI:isI (intV (G:Int)):=isI_intV (k:=c.size) (by show G < _;omega) hc
  have hGb:G∣bv b:=by rw [hG];exact Nat.gcd_dvd_left _ _
  have hGc:G∣bv c:=by rw [hG];exact Nat.gcd_dvd_right _ _
  obtain⟨q,hq⟩:∃q,q=mkRat (sgn s (bv b)) (bv c):=⟨_,rfl⟩
  have hqn:sgn s (bv b) / (G:Int)=q.num:=by
   rw [hq,Rat.num_mkRat,if_neg hM,sgn_natAbs,Nat.gcd_comm,hG]
  have hqd:((bv c:Nat):Int) / (G:Int)=(q.den:Int):=by
   rw [hq,Rat.den_mkRat,if_neg hM,sgn_natAbs,Nat.gcd_comm,hG,Int.natCast_ediv]
  have hqdle:q.den≤bv c:=by
   have:((q.den:Nat):Int)≤(bv c:Nat):=by rw [←hqd];exact Int.ediv_le_self _ (by omega)
   omega
  have hdI:isI (intV (q.den:Int)):=isI_intV (k:=c.size) (by show q.den < _;omega) hc
  have hpG:0 < rdI (intV (G:Int)):=by rw [rdI_intV];omega
  have d1:rdI (intV (G:Int))∣sgn s (bv b):=by
   rw [rdI_intV]
   exact Int.natAbs_dvd_natAbs.1 (by rw [sgn_natAbs];exact hGb)
  have d2:rdI (intV (G:Int))∣sgn false (bv c):=by
   rw [rdI_intV]
   exact Int.natAbs_dvd_natAbs.1 (by rw [sgn_natAbs];exact hGc)
  have e1:sgn s (bv b) / rdI (intV (G:Int))=q.num:=by rw [rdI_intV,hqn]
  have e2:sgn false (bv c) / rdI (intV (G:Int))=(q.den:Int):=by rw [rdI_intV];exact hqd
  have hR:ratV (mkRat (rdFn (.agg ⟨[.bool s,.string b,.bool false,.string c]⟩)) (rdFd (.agg ⟨[.bool s,.string b,.bool false,.string c]⟩)).toNat)=ratV q:=by
   rw [hq]
   rfl
  have cb:∀{x y:Int},x=y→PV.val (.bool (decide (x < 0)))=PV.val (.bool (decide (y < 0))):=fun h=>by rw [h]
  have cs:∀{x y:Int},x=y→PV.val (.string (numB x.natAbs))=PV.val (.string (numB y.natAbs)):=fun h=>by rw [h]
  have t1:(!decide (rdI (intV (q.den:Int))=1))=true→PV.val (.string (numB ((q.den:Nat):Int).natAbs))=PV.val (.string (denT q.den)):=fun h=>by
   rw [rdI_intV] at h
   have h:q.den≠1:=by
    rintro h'
    rw [h'] at h
    exact absurd h (by decide)
   rw [denT,if_neg h]
   rfl
  have t2:(!decide (rdI (intV (q.den:Int))=1))=false→PV.val (.string ⟨#[]⟩)=PV.val (.string (denT q.den)):=fun h=>by
   rw [rdI_intV] at h
   have h:q.den=1:=by
    have h:(!decide (((q.den:Nat):Int)=1))=false:=h
    simp at h
    omega
   rw [denT,if_pos h]
  have h0:decide (rdI (.agg ⟨[.bool s,.string b]⟩)=0)=true→Value.agg ⟨[.bool false,.string ⟨#[]⟩,.string ⟨#[]⟩]⟩=ratV q:=fun h=>by
   have h:sgn s (bv b)=0:=of_decide_eq_true h
   rw [←ratV_zero,hq,h,Rat.zero_mkRat]
  with_unfolding_all refine⟨⟨⟨_,_,rfl,hb⟩,by decide,by decide⟩,fun h=>⟨[some 1],stOf [(2,.ptr 0 0 0 0)] [boxR false ⟨#[]⟩ ⟨#[]⟩ 0] 1 [],Wo ⟨qX,qQ⟩ ⟨pP,qQ⟩ trivial,(by rw [hR];exact congrArg PV.val (h0 h)),rfl⟩,fun h=>⟨Unit,fun _=>True,fun _=>stOf [(1,.ptr 0 0 0 0),(2,.ptr 1 1 0 0),(3,.ptr 2 2 0 0)] [boxF s b false c 0,boxR false ⟨#[]⟩ ⟨#[]⟩ 1,boxI (G:Int) 2] 3 [],?_,fun _ _=>⟨Unit,fun _=>True,fun _=>stOf [(1,.ptr 0 0 0 0),(2,.ptr 1 1 0 0),(3,.ptr 2 2 0 0),(4,.ptr 3 3 0 0)] [boxF s b false c 0,boxR false ⟨#[]⟩ ⟨#[]⟩ 1,boxI (G:Int) 2,boxI q.num 3] 4 [],?_,fun _ _=>⟨Unit,fun _=>True,fun _=>stOf [(2,.ptr 0 0 0 0),(4,.ptr 1 1 0 0),(7,.ptr 2 2 0 0)] [boxR false ⟨#[]⟩ ⟨#[]⟩ 0,boxI q.num 1,boxI (q.den:Int) 2] 3 [],?_,fun _ _=>?_⟩⟩⟩⟩
  ·with_unfolding_all refine⟨⟨⟨_,_,rfl,hb⟩,_,_,rfl,hc⟩,⟨(),[some 0,some 1,some 2],trivial,Wo ⟨qZ ⟨rq,rq,rq,rq,qQ⟩,qX,qZ ⟨⟨cb hGe,rfl⟩,⟨cs hGe,rfl⟩,qQ⟩,qQ⟩ ⟨pP,pP,pP,qQ⟩ trivial⟩⟩
  ·with_unfolding_all refine⟨⟨⟨_,_,rfl,hb⟩,hGI,hpG,d1⟩,⟨(),[some 0,some 1,some 2,some 3],trivial,Wo ⟨qZ ⟨rq,rq,rq,rq,qQ⟩,qX,qJ,qZ ⟨⟨cb e1,rfl⟩,⟨cs e1,rfl⟩,qQ⟩,qQ⟩ ⟨pP,pP,pP,pP,qQ⟩ trivial⟩⟩
  ·with_unfolding_all refine⟨⟨⟨_,_,rfl,hc⟩,hGI,hpG,d2⟩,⟨(),[some 1,some 3,some 4],trivial,Wo ⟨qX,qJ,qZ ⟨⟨cb e2,rfl⟩,⟨cs e2,rfl⟩,qQ⟩,qQ⟩ ⟨pP,pP,pP,qQ⟩ trivial⟩⟩
  ·with_unfolding_all refine⟨⟨hdI,by decide,by decide⟩,fun h=>⟨[some 0],stOf [(2,.ptr 0 0 0 0)] [boxR (decide (q.num < 0)) (numB q.num.natAbs) (denT q.den) 0] 1 [],Wo ⟨qZ ⟨rq,rq,⟨t1 h,rfl⟩,qQ⟩,qQ⟩ ⟨pP,qQ⟩ trivial,by rw [hR];rfl,rfl⟩,fun h=>⟨[some 0],stOf [(2,.ptr 0 0 0 0)] [boxR (decide (q.num < 0)) (numB q.num.natAbs) (denT q.den) 0] 1 [],Wo ⟨qZ ⟨rq,rq,⟨t2 h,rfl⟩,qQ⟩,qQ⟩ ⟨pP,qQ⟩ trivial,by rw [hR];rfl,rfl⟩⟩
 ·cases e
end Go.Proofs
namespace Go.Proofs
open Go Go.Ex Go.Num
set_option maxRecDepth 100000
def c200:List PV→Option Ans
 |[.val (.string b)]=>some ⟨some (b.size≤7),.val (.int .i64 (bv b:Nat)),[]⟩
 |_=>none
theorem ok200:funcOk {} Tryz.f200 1=true:=by kernel_rfl
theorem f200:FnOk Tryz.prog 200 c200:=by
 refine FnOk.ofW orders (mkE_ok (l:=[]) (own:=[]) (inl:=[]) (by simp) (by simp)) Tryz.func200 {} 1 ok200 fun args r e=>?_
 unfold c200 at e
 split at e
 ·rename_i b
  cases e
  refine⟨by simp,fun hm=>?_⟩
  have h:b.size≤7:=hm _ rfl
  refine⟨[],stOf [(0,.val (.string b))] [] 0 [],Wo trivial ⟨rfl,qQ⟩ trivial,?_⟩
  with_unfolding_all refine⟨Nat,fun i=>i≤b.size,fun i=>stOf [(0,.val (.string b)),(3,.val (.int .i64 (bvL (b.data.toList.take i):Nat))),(6,.val (goInt b.size)),(7,.val (goInt i))] [] 0 [],fun i=>b.size - i,⟨0,[],Nat.zero_le _,Wo trivial ⟨rfl,rfl,rfl,rfl,qQ⟩ trivial⟩,fun i hi=>?_⟩
  replace hi:i≤b.size:=hi
  have hlt:=bvL_take_lt b i h
  with_unfolding_all refine⟨fun h1=>?_,fun h1=>?_⟩
  ·have h1:i < b.size:=by have:=ltT h1;omega
   have hx:(b.data.toList[i]?.getD 0).toNat < 256:=UInt8.toNat_lt _
   with_unfolding_all refine⟨by decide,⟨by omega,by omega⟩,i+1,[],h1,by show b.size - (i+1) < b.size - i;omega,Wo trivial ⟨rfl,?_,rfl,?_,qQ⟩ trivial⟩
   ·refine congrArg (fun x=>PV.val (.int .i64 x)) (?_:IntKind.i64.wrap ((BitVec.ofInt IntKind.i64.bits (IntKind.i64.wrap (((bvL (b.data.toList.take i):Nat):Int)*2^min (Int.toNat 8) IntKind.i64.bits)) ||| BitVec.ofInt IntKind.i64.bits (IntKind.i64.wrap (((b.data.toList[i]?.getD 0).toNat:Nat):Int))).toNat:Int)=((bvL (b.data.toList.take (i+1)):Nat):Int))
    rw [or_byte hx (by have:=bvL_take_lt b (i+1) h;rw [bvL_take b h1] at this;omega),bvL_take b h1]
   ·refine congrArg (fun x=>PV.val (.int .i64 x)) (?_:IntKind.i64.wrap ((i:Int)+1)=((i+1:Nat):Int))
    rw [wrap64 (by omega) (by omega)]
    rfl
  ·have h1:i=b.size:=by have:=ltF h1;omega
   have he:b.data.toList.take i=b.data.toList:=by rw [h1,List.take_of_length_le (by rw [←ba_size];omega)]
   rw [he] at hlt ⊢
   with_unfolding_all exact⟨[],stOf [(2,.val (.int .i64 (bv b:Nat)))] [] 0 [],Wo trivial ⟨rfl,qQ⟩ trivial,rfl,rfl⟩
 ·cases e
theorem max_den1 (n:Nat):(if (1:Int) > (n:Int) then(1:Int) else(n:Int))=((den1 n:Nat):Int):=by
 unfold den1
 split<;>split<;>omega
def smallB (b c:ByteArray):Bool:=decide (b.size≤3)&&decide (c.size≤3)
def c155:List PV→Option Ans
 |[.val (.agg ⟨[.bool s,.string b,.string c]⟩)]=>some ⟨none,.val (.tuple ⟨[.int .i64 (bif smallB b c then sgn s (bv b) else 0),.int .i64 (bif smallB b c then(den1 (bv c):Nat) else 0),.bool (smallB b c)]⟩),[]⟩
 |_=>none
def D155:Opt:={ perm:=atR 3 [(0,true),(1,true),(3,true),(4,true),(2,false),(5,false)] }
theorem ok155:funcOk D155.toOrd Tryz.f155 1=true:=by kernel_rfl
theorem f155:FnOk Tryz.prog 155 c155:=by
 refine FnOk.ofW orders (mkE_ok (l:=[(200,c200)]) (own:=[]) (inl:=[]) (by simp [f200]) (by simp)) Tryz.func155 D155 1 ok155 fun args r e=>?_
 unfold c155 at e
 split at e
 ·rename_i s b c
  cases e
  refine⟨by simp,fun hm=>?_⟩
  refine⟨[],stOf [(0,.val (.agg ⟨[.bool s,.string b,.string c]⟩))] [] 0 [],Wo trivial ⟨rfl,qQ⟩ trivial,?_⟩
  have f1:decide ((b.size:Int) > 3) = !false→smallB b c=false:=fun h=>by
   have h:¬b.size≤3:=by have:=of_decide_eq_true h;omega
   simp [smallB,h]
  have f2:decide ((c.size:Int) > 3)=true→smallB b c=false:=fun h=>by
   have h:¬c.size≤3:=by have:=of_decide_eq_true h;omega
   simp [smallB,h]
  have g3:decide ((b.size:Int) > 3)=false→b.size≤3:=fun h=>by have:=of_decide_eq_false h;omega
  have g4:decide ((c.size:Int) > 3)=false→c.size≤3:=fun h=>by have:=of_decide_eq_false h;omega
  have z0:smallB b c=false→PV.val (.int .i64 0)=PV.val (.int .i64 (bif smallB b c then sgn s (bv b) else 0)):=fun h=>by rw [h];rfl
  have z1:smallB b c=false→PV.val (.int .i64 0)=PV.val (.int .i64 (bif smallB b c then(den1 (bv c):Nat) else 0)):=fun h=>by rw [h];rfl
  have z2:smallB b c=false→PV.val (.bool false)=PV.val (.bool (smallB b c)):=fun h=>by rw [h]
  with_unfolding_all refine⟨fun h0=>⟨fun h=>⟨[],stOf [(2,.val (.int .i64 (bif smallB b c then sgn s (bv b) else 0))),(3,.val (.int .i64 (bif smallB b c then(den1 (bv c):Nat) else 0))),(4,.val (.bool (smallB b c)))] [] 0 [],Wo trivial ⟨z0 (f2 h),z1 (f2 h),z2 (f2 h),qQ⟩ trivial,rfl,rfl⟩,fun h1=>?_⟩,fun h=>⟨fun _=>⟨[],stOf [(2,.val (.int .i64 (bif smallB b c then sgn s (bv b) else 0))),(3,.val (.int .i64 (bif smallB b c then(den1 (bv c):Nat) else 0))),(4,.val (.bool (smallB b c)))] [] 0 [],Wo trivial ⟨z0 (f1 h),z1 (f1 h),z2 (f1 h),qQ⟩ trivial,rfl,rfl⟩,fun h'=>(nomatch h')⟩⟩
  have hs:smallB b c=true:=by simp [smallB,g3 h0,g4 h1]
  have hb:=g3 h0
  have hc:=g4 h1
  rw [hs]
  have lb:bv b < 72057594037927936:=by
   have:=bvL_take_lt b b.size (by omega)
   rw [show b.data.toList.take b.size=b.data.toList by rw [List.take_of_length_le (by rw [←ba_size];omega)]] at this
   exact this
  with_unfolding_all refine⟨by omega,by omega,fun h=>⟨[],stOf [(2,.val (.int .i64 (sgn s (bv b)))),(3,.val (.int .i64 (den1 (bv c):Nat))),(4,.val (.bool true))] [] 0 [],Wo trivial ⟨?_,?_,rfl,qQ⟩ trivial,rfl,rfl⟩,fun h=>⟨[],stOf [(2,.val (.int .i64 (sgn s (bv b)))),(3,.val (.int .i64 (den1 (bv c):Nat))),(4,.val (.bool true))] [] 0 [],Wo trivial ⟨?_,?_,rfl,qQ⟩ trivial,rfl,rfl⟩⟩
  ·refine congrArg (fun x=>PV.val (.int .i64 x)) (?_:IntKind.i64.wrap (0 - ((bv b:Nat):Int))=sgn s (bv b))
   rw [wrap64 (by omega) (by omega),h]
   show _ = -((bv b:Nat):Int)
   omega
  ·exact congrArg (fun x=>PV.val (.int .i64 x)) (max_den1 (bv c))
  ·show PV.val (.int .i64 ((bv b:Nat):Int))=_
   rw [h]
   rfl
  ·exact congrArg (fun x=>PV.val (.int .i64 x)) (max_den1 (bv c))
 ·cases e
end Go.Proofs
namespace Go.Proofs
open Go Go.Ex Go.Num
set_option maxRecDepth 100000
theorem lead_of {l:List UInt8} (h:0 < l.length→256^(l.length - 1)≤bvL l):lead l=true:=by
 cases l with
 |nil=>rfl
 |cons x l =>
  have h:=h (by simp)
  simp only [List.length_cons,Nat.add_sub_cancel] at h
  rw [bvL_cons] at h
  have h2:=bvL_lt l
  have:x≠0:=by
   rintro rfl
   simp at h
   omega
  simpa [lead] using this
theorem text_fin {N k:Nat} (h:N < 256^k) (h2:0 < k→256^(k - 1)≤N):strOf k (bytG N k)=numB N:=by
 have hv:bv (strOf k (bytG N k))=N:=by rw [strOf_bytG (fun _ _=>rfl),Nat.mod_eq_of_lt h]
 have hl:(strOf k (bytG N k)).data.toList.length=k:=by simp [strOf]
 have:lead (strOf k (bytG N k)).data.toList=true:=lead_of (by
  rw [hl]
  intro h0
  have e:bvL (strOf k (bytG N k)).data.toList=N:=hv
  rw [e]
  exact h2 h0)
 rw [←canon this,hv]
def c196:List PV→Option Ans
 |[.val (.int .i64 z)]=>some ⟨some (0≤z∧z < 72057594037927936),.val (.string (numB z.toNat)),[]⟩
 |_=>none
theorem ok196:funcOk {} Tryz.f196 1=true:=by kernel_rfl
theorem f196:FnOk Tryz.prog 196 c196:=by
 refine FnOk.ofW orders (mkE_ok (l:=[]) (own:=[]) (inl:=[]) (by simp) (by simp)) Tryz.func196 {} 1 ok196 fun args r e=>?_
 unfold c196 at e
 split at e
 ·rename_i z
  cases e
  refine⟨by simp,fun hm=>?_⟩
  obtain⟨hz,hz2⟩:=hm _ rfl
  obtain⟨N,rfl⟩:∃N:Nat,z=(N:Int):=⟨z.toNat,by omega⟩
  rw [Int.toNat_natCast]
  refine⟨[],stOf [(0,.val (.int .i64 (N:Nat)))] [] 0 [],Wo trivial ⟨rfl,qQ⟩ trivial,?_⟩
  with_unfolding_all refine⟨Nat,fun k=>k≤7∧(0 < k→256^(k - 1)≤N),fun k=>stOf [(0,.val (.int .i64 ((N / 256^k:Nat):Int))),(3,.ptr 0 0 0 0),(4,.val (.int .i64 ((8 - k:Nat):Int)))] [⟨236,1,0,false,true,8,fun j=>if j < 8 - k then [.val (.int .u8 0)] else bytG N k (j - (8 - k))⟩] 1 [],fun k=>8 - k,?_,fun k hk=>?_⟩
  ·with_unfolding_all refine⟨0,[some 0],⟨by omega,fun h=>absurd h (by omega)⟩,Wo ⟨qZ (fun i hi=>?_),qQ⟩ ⟨?_,pP,rfl,qQ⟩ trivial⟩
   ·have hi:i < 8:=hi
    rcases i with _|_|_|_|_|_|_|_|i
    all_goals first
     |rfl
     |exact absurd hi (by omega)
   ·show PV.val (.int .i64 (N:Int))=PV.val (.int .i64 ((N / 256^0:Nat):Int))
    rw [Nat.pow_zero,Nat.div_one]
  ·obtain⟨hk,hk2⟩:=hk
   have hw:IntKind.i64.wrap (((8 - k:Nat):Int) - 1)=((7 - k:Nat):Int):=by
    rw [wrap64 (by omega) (by omega)]
    omega
   have hN:N < 256^7:=by show N < 72057594037927936;omega
   with_unfolding_all refine⟨fun h=>?_,fun h=>?_⟩
   ·have h:0 < N / 256^k:=by
     have h:((N / 256^k:Nat):Int) > 0:=of_decide_eq_true h
     generalize N / 256^k=X at h ⊢
     omega
    have hkN:256^k≤N:=by
     rcases Nat.lt_or_ge N (256^k) with h' | h'
     ·rw [Nat.div_eq_of_lt h'] at h;omega
     ·exact h'
    have hk7:k < 7:=by
     rcases Nat.lt_or_ge k 7 with h' | h'
     ·exact h'
     ·have:=Nat.pow_le_pow_right (show 0 < 256 by decide) h'
      omega
    with_unfolding_all refine⟨⟨by rw [hw];omega,by rw [hw];omega⟩,by decide,?_⟩
    rw [hw]
    with_unfolding_all refine⟨k+1,[some 0],⟨by omega,fun _=>hkN⟩,by show 8 - (k+1) < 8 - k;omega,Wo ⟨qZ (fun i hi=>?_),qQ⟩ ⟨?_,pP,?_,qQ⟩ trivial⟩
    ·have hi:i < 8:=hi
     show(if i < 8 - (k+1) then [PV.val (.int .u8 0)] else bytG N (k+1) (i - (8 - (k+1))))=if i=((7 - k:Nat):Int).toNat then [PV.val (.int .u8 (IntKind.u8.wrap ((N / 256^k:Nat):Int)))] else if i < 8 - k then [PV.val (.int .u8 0)] else bytG N k (i - (8 - k))
     rw [Int.toNat_natCast]
     rcases Nat.lt_trichotomy i (7 - k) with h1|h1|h1
     ·rw [if_pos (by omega),if_neg (by omega),if_pos (by omega)]
     ·rw [if_neg (by omega),if_pos h1,wrapU8]
      simp only [bytG]
      rw [show k+1 - 1 - (i - (8 - (k+1)))=k by omega]
      rfl
     ·rw [if_neg (by omega),if_neg (by omega),if_neg (by omega)]
      simp only [bytG]
      rw [show k+1 - 1 - (i - (8 - (k+1)))=k - 1 - (i - (8 - k)) by omega]
    ·show PV.val (.int .i64 (((N / 256^k:Nat):Int) / 2^8))=PV.val (.int .i64 ((N / 256^(k+1):Nat):Int))
     rw [Nat.pow_succ,←Nat.div_div_eq_div_mul]
     rfl
    ·show PV.val (.int .i64 ((7 - k:Nat):Int))=PV.val (.int .i64 ((8 - (k+1):Nat):Int))
     rw [show 8 - (k+1)=7 - k by omega]
   ·have h:N / 256^k=0:=by
     have h:¬((N / 256^k:Nat):Int) > 0:=of_decide_eq_false h
     generalize N / 256^k=X at h ⊢
     omega
    have hNk:N < 256^k:=by
     rcases Nat.lt_or_ge N (256^k) with h' | h'
     ·exact h'
     ·have:=Nat.div_pos h' (Nat.pow_pos (by decide))
      omega
    have h8:((8 - k:Nat):Int).toNat=8 - k:=Int.toNat_natCast _
    have hn:((8:Nat) - ((8 - k:Nat):Int)).toNat=k:=by omega
    have hfin:=text_fin (N:=N) (k:=k) hNk hk2
    with_unfolding_all refine⟨⟨by omega,by omega,by omega⟩,fun i hi=>?_,[],stOf [(2,.val (.string (numB N)))] [] 0 [],Wo trivial ⟨?_,qQ⟩ trivial,rfl,rfl⟩
    ·show ∃q:Int,(if ((8 - k:Nat):Int).toNat+i < 8 - k then [PV.val (.int .u8 0)] else bytG N k (((8 - k:Nat):Int).toNat+i - (8 - k)))=[PV.val (.int .u8 q)]
     split
     ·exact⟨_,rfl⟩
     ·exact⟨_,rfl⟩
    ·show PV.val (.string (strOf ((8:Nat) - ((8 - k:Nat):Int)).toNat (fun i=>if ((8 - k:Nat):Int).toNat+i < 8 - k then [PV.val (.int .u8 0)] else bytG N k (((8 - k:Nat):Int).toNat+i - (8 - k)))))=_
     rw [hn,h8]
     have e:(fun i=>if 8 - k+i < 8 - k then [PV.val (.int .u8 0)] else bytG N k (8 - k+i - (8 - k)))=bytG N k:=by
      funext i
      rw [if_neg (by omega),Nat.add_sub_cancel_left]
     rw [e,hfin]
 ·cases e
end Go.Proofs
namespace Go.Proofs
open Go Go.Ex Go.Num
set_option maxRecDepth 100000
def c150:List PV→Option Ans
 |[.val (.int .i64 n),.val (.int .i64 d)]=>some ⟨some (0 < d∧d < 72057594037927936∧n.natAbs < 72057594037927936),.val (ratV (mkRat n d.toNat)),[]⟩
 |_=>none
def D150:Opt:={}
theorem ok150:funcOk D150.toOrd Tryz.f150 2=true:=by kernel_rfl
theorem f150:FnOk Tryz.prog 150 c150:=by
 refine FnOk.ofW orders (mkE_ok (l:=[(196,c196)]) (own:=[]) (inl:=[]) (by simp [f196]) (by simp)) Tryz.func150 D150 2 ok150 fun args r e=>?_
 unfold c150 at e
 split at e
 ·rename_i n d
  cases e
  refine⟨by simp,fun hm=>?_⟩
  obtain⟨hd,hd2,hn⟩:=hm _ rfl
  obtain⟨D,rfl⟩:∃D:Nat,d=(D:Int):=⟨d.toNat,by omega⟩
  rw [Int.toNat_natCast]
  refine⟨[],stOf [(0,.val (.int .i64 n)),(1,.val (.int .i64 (D:Nat)))] [] 0 [],Wo trivial ⟨rfl,rfl,qQ⟩ trivial,?_⟩
  with_unfolding_all refine⟨Int×Int,fun x=>(x.1.natAbs < 72057594037927936∧x.2.natAbs < 72057594037927936)∧Nat.gcd x.1.natAbs x.2.natAbs=Nat.gcd n.natAbs D,fun x=>stOf [(0,.val (.int .i64 n)),(1,.val (.int .i64 (D:Nat))),(4,.ptr 0 0 0 0),(5,.val (.int .i64 x.1)),(6,.val (.int .i64 x.2))] [boxR false ⟨#[]⟩ ⟨#[]⟩ 0] 1 [],fun x=>x.2.natAbs,?_,fun x hx=>?_⟩
  ·with_unfolding_all refine⟨(n,(D:Int)),[some 0],⟨⟨hn,by omega⟩,by rw [Int.natAbs_natCast]⟩,Wo ⟨qX,qQ⟩ ⟨rfl,rfl,pP,rfl,rfl,qQ⟩ trivial⟩
  ·obtain⟨x,y⟩:=x
   obtain⟨⟨hx,hy⟩,hg⟩:=hx
   simp only at hx hy hg
   with_unfolding_all refine⟨fun h=>?_,fun h=>?_⟩
   ·have h:y≠0:=by simpa using h
    have ht:(x.tmod y).natAbs=x.natAbs%y.natAbs:=Int.natAbs_tmod x y
    have hlt:=Nat.mod_lt x.natAbs (show 0 < y.natAbs by omega)
    with_unfolding_all refine⟨h,(y,x.tmod y),[some 0],⟨⟨hy,by show(x.tmod y).natAbs < _;omega⟩,?_⟩,by show(x.tmod y).natAbs < y.natAbs;omega,Wo ⟨qX,qQ⟩ ⟨rfl,rfl,pP,rfl,?_,qQ⟩ trivial⟩
    ·show Nat.gcd y.natAbs (x.tmod y).natAbs=_
     rw [ht,←hg,Nat.gcd_comm y.natAbs,←Nat.gcd_rec,Nat.gcd_comm]
    ·show PV.val (.int .i64 _)=PV.val (.int .i64 (x.tmod y))
     rfl
   ·have h:y=0:=by simpa using h
    subst h
    have hxG:x.natAbs=Nat.gcd n.natAbs D:=by rw [←hg];simp
    obtain⟨G,hG⟩:∃G,G=Nat.gcd n.natAbs D:=⟨_,rfl⟩
    rw [←hG] at hxG
    obtain⟨q,hq⟩:∃q,q=mkRat n D:=⟨_,rfl⟩
    have hGp:0 < G:=by rw [hG];exact Nat.gcd_pos_of_pos_right _ (by omega)
    have hG1:G∣n.natAbs:=by rw [hG];exact Nat.gcd_dvd_left _ _
    have hG2:G∣D:=by rw [hG];exact Nat.gcd_dvd_right _ _
    have hqn:q.num=n / (G:Int):=by rw [hq,Rat.num_mkRat,if_neg (by omega),Nat.gcd_comm,hG]
    have hqd:q.den=D / G:=by rw [hq,Rat.den_mkRat,if_neg (by omega),Nat.gcd_comm,hG]
    have hmul:q.num*(G:Int)=n:=by rw [hqn];exact Int.ediv_mul_cancel (Int.natAbs_dvd_natAbs.1 hG1)
    have hsg:decide (n < 0)=decide (q.num < 0):=by
     rw [decide_eq_decide]
     constructor
     ·intro h
      rcases Int.lt_or_le q.num 0 with h' | h'
      ·exact h'
      ·have:=Int.mul_nonneg h' (show(0:Int)≤G by omega)
       omega
     ·intro h
      have:=Int.mul_neg_of_neg_of_pos h (show(0:Int) < G by omega)
      omega
    have hab:n.natAbs / G=q.num.natAbs:=by
     have:n.natAbs=q.num.natAbs*G:=by rw [←hmul,Int.natAbs_mul,Int.natAbs_natCast]
     rw [this,Nat.mul_div_cancel _ hGp]
    have m1:(if IntKind.i64.wrap (0 - x) > x then IntKind.i64.wrap (0 - x) else x)=(G:Int):=by
     rw [wrap64 (by omega) (by omega)]
     split<;>omega
    have m2:(if IntKind.i64.wrap (0 - n) > n then IntKind.i64.wrap (0 - n) else n)=(n.natAbs:Int):=by
     rw [wrap64 (by omega) (by omega)]
     split<;>omega
    have l1:n.natAbs / G≤n.natAbs:=Nat.div_le_self _ _
    have l2:D / G≤D:=Nat.div_le_self _ _
    have q1:IntKind.i64.wrap ((if IntKind.i64.wrap (0 - n) > n then IntKind.i64.wrap (0 - n) else n).tdiv (if IntKind.i64.wrap (0 - x) > x then IntKind.i64.wrap (0 - x) else x))=((q.num.natAbs:Nat):Int):=by
     rw [m1,m2,←Int.ofNat_tdiv,hab,wrap64 (by omega) (by omega)]
    have q2:IntKind.i64.wrap ((D:Int).tdiv (if IntKind.i64.wrap (0 - x) > x then IntKind.i64.wrap (0 - x) else x))=((q.den:Nat):Int):=by
     rw [m1,←Int.ofNat_tdiv,←hqd,wrap64 (by omega) (by omega)]
    have s1:PV.val (.string (numB (IntKind.i64.wrap ((if IntKind.i64.wrap (0 - n) > n then IntKind.i64.wrap (0 - n) else n).tdiv (if IntKind.i64.wrap (0 - x) > x then IntKind.i64.wrap (0 - x) else x))).toNat))=PV.val (.string (numB q.num.natAbs)):=by rw [q1,Int.toNat_natCast]
    have s2:PV.val (.bool (decide (n < 0)))=PV.val (.bool (decide (q.num < 0))):=by rw [hsg]
    have s3:(((D:Nat):Int) != (if IntKind.i64.wrap (0 - x) > x then IntKind.i64.wrap (0 - x) else x))=true→PV.val (.string (numB (IntKind.i64.wrap ((D:Int).tdiv (if IntKind.i64.wrap (0 - x) > x then IntKind.i64.wrap (0 - x) else x))).toNat))=PV.val (.string (denT q.den)):=fun h=>by
     rw [m1] at h
     have h:¬D=G:=by
      intro e
      rw [e] at h
      simp at h
     have:q.den≠1:=by
      rw [hqd]
      intro e
      have:=Nat.div_mul_cancel hG2
      rw [e] at this
      omega
     rw [q2,Int.toNat_natCast,denT,if_neg this]
    have s4:(((D:Nat):Int) != (if IntKind.i64.wrap (0 - x) > x then IntKind.i64.wrap (0 - x) else x))=false→PV.val (.string ⟨#[]⟩)=PV.val (.string (denT q.den)):=fun h=>by
     rw [m1] at h
     have h:D=G:=by
      simp at h
      omega
     have:q.den=1:=by rw [hqd,h,Nat.div_self hGp]
     rw [denT,if_pos this]
    have hz:(n==0)=true→Value.agg ⟨[.bool false,.string ⟨#[]⟩,.string ⟨#[]⟩]⟩=ratV q:=fun h=>by
     have h:n=0:=by simpa using h
     rw [←ratV_zero,hq,h,Rat.zero_mkRat]
    have hne:(if IntKind.i64.wrap (0 - x) > x then IntKind.i64.wrap (0 - x) else x)≠0:=by rw [m1];omega
    with_unfolding_all refine⟨fun h=>⟨[some 0],stOf [(4,.ptr 0 0 0 0)] [boxR false ⟨#[]⟩ ⟨#[]⟩ 0] 1 [],Wo ⟨qX,qQ⟩ ⟨pP,qQ⟩ trivial,by rw [←hq];exact congrArg PV.val (hz h),rfl⟩,fun h=>⟨hne,⟨by rw [q1];omega,by rw [q1];omega⟩,fun h=>⟨hne,⟨by rw [q2];omega,by rw [q2];omega⟩,⟨[some 0],stOf [(4,.ptr 0 0 0 0)] [boxR (decide (q.num < 0)) (numB q.num.natAbs) (denT q.den) 0] 1 [],Wo ⟨qZ ⟨⟨s2,rfl⟩,⟨s1,rfl⟩,⟨s3 h,rfl⟩,qQ⟩,qQ⟩ ⟨pP,qQ⟩ trivial,by rw [←hq];rfl,rfl⟩⟩,fun h=>⟨[some 0],stOf [(4,.ptr 0 0 0 0)] [boxR (decide (q.num < 0)) (numB q.num.natAbs) (denT q.den) 0] 1 [],Wo ⟨qZ ⟨⟨s2,rfl⟩,⟨s1,rfl⟩,⟨s4 h,rfl⟩,qQ⟩,qQ⟩ ⟨pP,qQ⟩ trivial,by rw [←hq];rfl,rfl⟩⟩⟩
 ·cases e
end Go.Proofs
namespace Go.Num
open Go Go.Ex
def isFk (k:Nat) (v:Value):Prop:=∃s b c,v=.agg ⟨[.bool s,.string b,.bool false,.string c]⟩∧b.size≤k∧c.size≤k∧bv c≠0
def rdF (v:Value):Rat:=mkRat (rdFn v) (rdFd v).toNat
theorem mulB (b c:ByteArray):bv b*bv c < 256^(b.size+c.size):=by
 rw [Nat.pow_add]
 exact Nat.mul_lt_mul'' (bv_lt b) (bv_lt c)
theorem mulI (s q:Bool) (b c:ByteArray):(sgn s (bv b)*sgn q (bv c)).natAbs < 256^(b.size+c.size):=by
 rw [Int.natAbs_mul,sgn_natAbs,sgn_natAbs]
 exact mulB b c
theorem addI {x y:Int} {k l:Nat} (h1:x.natAbs < 256^k) (h2:y.natAbs < 256^l):(x+y).natAbs < 256^(k+l+1):=by
 have e1:256^k≤256^(k+l):=Nat.pow_le_pow_right (by decide) (by omega)
 have e2:256^l≤256^(k+l):=Nat.pow_le_pow_right (by decide) (by omega)
 have e3:256^(k+l)*256=256^(k+l+1):=(Nat.pow_succ ..).symm
 omega
def fracV (Z W:Int):Value:=.agg ⟨[.bool (decide (Z < 0)),.string (numB Z.natAbs),.bool (decide (W < 0)),.string (numB W.natAbs)]⟩
theorem frac_rat (Z W:Int):mkRat (rdFn (fracV Z W)) (rdFd (fracV Z W)).toNat=mkRat Z W.toNat:=by
 show mkRat (rdI (intV Z)) (rdI (intV W)).toNat=_
 rw [rdI_intV,rdI_intV]
theorem toNat_mul (a b:Nat):(sgn false a*sgn false b).toNat=a*b:=by
 show((a:Int)*(b:Int)).toNat=_
 rw [←Int.natCast_mul,Int.toNat_natCast]
theorem mul_pos' {a b:Nat} (ha:a≠0) (hb:b≠0):0 < sgn false a*sgn false b:=Int.mul_pos (show(0:Int) < a by omega) (show(0:Int) < b by omega)
theorem cbq {p q:Rat} (h:p=q):PV.val (.bool (decide (p.num < 0)))=PV.val (.bool (decide (q.num < 0))):=by rw [h]
theorem csq {p q:Rat} (h:p=q):PV.val (.string (numB p.num.natAbs))=PV.val (.string (numB q.num.natAbs)):=by rw [h]
theorem cdq {p q:Rat} (h:p=q):PV.val (.string (denT p.den))=PV.val (.string (denT q.den)):=by rw [h]
end Go.Num
namespace Go.Proofs
open Go Go.Ex Go.Num
set_option maxRecDepth 100000
def c151:List PV→Option Ans
 |[.val v,.val u]=>some ⟨some (isFk 4294967296 v∧isFk 4294967296 u),.val (ratV (rdF v+rdF u)),[]⟩
 |_=>none
def D151:Opt:={ perm:=atR 1 [(0,true),(1,true),(2,true),(3,true),(5,true),(6,true),(7,true),(8,true),(11,true),(12,true),(13,true),(14,true),(4,false),(9,false),(10,false),(15,false),(16,true),(17,false)] }
theorem ok151:funcOk D151.toOrd Tryz.f151 2=true:=by kernel_rfl
theorem f151:FnOk Tryz.prog 151 c151:=by
 refine FnOk.ofW orders (mkE_ok (l:=[(119,c119),(152,c152),(110,c110)]) (own:=[]) (inl:=[]) (by simp [f119,f152,f110]) (by simp)) Tryz.func151 D151 2 ok151 fun args r e=>?_
 unfold c151 at e
 split at e
 ·rename_i v u
  cases e
  refine⟨by simp,fun hm=>?_⟩
  obtain⟨⟨s,b,c,rfl,hb,hc,hc0⟩,s',b',c',rfl,hb',hc',hc0'⟩:=hm _ rfl
  refine⟨[],stOf [(0,.val (.agg ⟨[.bool s,.string b,.bool false,.string c]⟩)),(1,.val (.agg ⟨[.bool s',.string b',.bool false,.string c']⟩))] [] 0 [],Wo trivial ⟨rfl,rfl,qQ⟩ trivial,?_⟩
  have I1:isI (.agg ⟨[.bool s,.string b]⟩):=⟨_,_,rfl,by omega⟩
  have I2:isI (.agg ⟨[.bool false,.string c]⟩):=⟨_,_,rfl,by omega⟩
  have I3:isI (.agg ⟨[.bool s',.string b']⟩):=⟨_,_,rfl,by omega⟩
  have I4:isI (.agg ⟨[.bool false,.string c']⟩):=⟨_,_,rfl,by omega⟩
  have X1:=mulI s false b c'
  have X2:=mulI s' false b' c
  have X3:=mulI false false c c'
  have J1:isI (intV (sgn s (bv b)*sgn false (bv c'))):=isI_intV X1 (by omega)
  have J2:isI (intV (sgn s' (bv b')*sgn false (bv c))):=isI_intV X2 (by omega)
  have Z1:=addI X1 X2
  have hQ:mkRat (rdFn (fracV (rdI (intV (sgn s (bv b)*sgn false (bv c')))+rdI (intV (sgn s' (bv b')*sgn false (bv c)))) (sgn false (bv c)*sgn false (bv c')))) (rdFd (fracV (rdI (intV (sgn s (bv b)*sgn false (bv c')))+rdI (intV (sgn s' (bv b')*sgn false (bv c)))) (sgn false (bv c)*sgn false (bv c')))).toNat=rdF (.agg ⟨[.bool s,.string b,.bool false,.string c]⟩)+rdF (.agg ⟨[.bool s',.string b',.bool false,.string c']⟩):=by
   rw [frac_rat,rdI_intV,rdI_intV,toNat_mul]
   show _=mkRat (sgn s (bv b)) (bv c)+mkRat (sgn s' (bv b')) (bv c')
   rw [Rat.mkRat_add_mkRat _ _ hc0 hc0']
   rfl
  have S1:(numB (rdI (intV (sgn s (bv b)*sgn false (bv c')))+rdI (intV (sgn s' (bv b')*sgn false (bv c)))).natAbs).size≤34359738368:=by
   rw [rdI_intV,rdI_intV]
   exact Nat.le_trans (numB_le Z1) (by omega)
  have S2:(numB (sgn false (bv c)*sgn false (bv c')).natAbs).size≤34359738368:=Nat.le_trans (numB_le X3) (by omega)
  have hp:0 < rdFd (fracV (rdI (intV (sgn s (bv b)*sgn false (bv c')))+rdI (intV (sgn s' (bv b')*sgn false (bv c)))) (sgn false (bv c)*sgn false (bv c'))):=by
   show 0 < rdI (intV (sgn false (bv c)*sgn false (bv c')))
   rw [rdI_intV]
   exact mul_pos' hc0 hc0'
  with_unfolding_all refine⟨⟨I1,I4⟩,⟨I3,I2⟩,⟨J1,J2⟩,⟨I2,I4⟩,⟨⟨_,_,_,_,rfl,S1,S2⟩,hp⟩,[some 2],stOf [(4,.ptr 0 0 0 0)] [boxR (decide ((rdF (.agg ⟨[.bool s,.string b,.bool false,.string c]⟩)+rdF (.agg ⟨[.bool s',.string b',.bool false,.string c']⟩)).num < 0)) (numB (rdF (.agg ⟨[.bool s,.string b,.bool false,.string c]⟩)+rdF (.agg ⟨[.bool s',.string b',.bool false,.string c']⟩)).num.natAbs) (denT (rdF (.agg ⟨[.bool s,.string b,.bool false,.string c]⟩)+rdF (.agg ⟨[.bool s',.string b',.bool false,.string c']⟩)).den) 0] 1 [],Wo ⟨qZ ⟨⟨cbq hQ,rfl⟩,⟨csq hQ,rfl⟩,⟨cdq hQ,rfl⟩,qQ⟩,qQ⟩ ⟨pP,qQ⟩ trivial,rfl,rfl⟩
 ·cases e
def c154:List PV→Option Ans
 |[.val v,.val u]=>some ⟨some (isFk 4294967296 v∧isFk 4294967296 u),.val (ratV (rdF v*rdF u)),[]⟩
 |_=>none
def D154:Opt:={ perm:=atR 1 [(0,true),(1,true),(2,true),(3,true),(5,true),(6,true),(7,true),(8,true),(4,false),(9,false),(10,true),(11,false)] }
theorem ok154:funcOk D154.toOrd Tryz.f154 2=true:=by kernel_rfl
theorem f154:FnOk Tryz.prog 154 c154:=by
 refine FnOk.ofW orders (mkE_ok (l:=[(119,c119),(110,c110)]) (own:=[]) (inl:=[]) (by simp [f119,f110]) (by simp)) Tryz.func154 D154 2 ok154 fun args r e=>?_
 unfold c154 at e
 split at e
 ·rename_i v u
  cases e
  refine⟨by simp,fun hm=>?_⟩
  obtain⟨⟨s,b,c,rfl,hb,hc,hc0⟩,s',b',c',rfl,hb',hc',hc0'⟩:=hm _ rfl
  refine⟨[],stOf [(0,.val (.agg ⟨[.bool s,.string b,.bool false,.string c]⟩)),(1,.val (.agg ⟨[.bool s',.string b',.bool false,.string c']⟩))] [] 0 [],Wo trivial ⟨rfl,rfl,qQ⟩ trivial,?_⟩
  have I1:isI (.agg ⟨[.bool s,.string b]⟩):=⟨_,_,rfl,by omega⟩
  have I2:isI (.agg ⟨[.bool false,.string c]⟩):=⟨_,_,rfl,by omega⟩
  have I3:isI (.agg ⟨[.bool s',.string b']⟩):=⟨_,_,rfl,by omega⟩
  have I4:isI (.agg ⟨[.bool false,.string c']⟩):=⟨_,_,rfl,by omega⟩
  have X1:=mulI s s' b b'
  have X3:=mulI false false c c'
  have hQ:mkRat (rdFn (fracV (sgn s (bv b)*sgn s' (bv b')) (sgn false (bv c)*sgn false (bv c')))) (rdFd (fracV (sgn s (bv b)*sgn s' (bv b')) (sgn false (bv c)*sgn false (bv c')))).toNat=rdF (.agg ⟨[.bool s,.string b,.bool false,.string c]⟩)*rdF (.agg ⟨[.bool s',.string b',.bool false,.string c']⟩):=by
   rw [frac_rat,toNat_mul]
   show _=mkRat (sgn s (bv b)) (bv c)*mkRat (sgn s' (bv b')) (bv c')
   rw [Rat.mkRat_mul_mkRat]
  have S1:(numB (sgn s (bv b)*sgn s' (bv b')).natAbs).size≤34359738368:=Nat.le_trans (numB_le X1) (by omega)
  have S2:(numB (sgn false (bv c)*sgn false (bv c')).natAbs).size≤34359738368:=Nat.le_trans (numB_le X3) (by omega)
  have hp:0 < rdFd (fracV (sgn s (bv b)*sgn s' (bv b')) (sgn false (bv c)*sgn false (bv c'))):=by
   show 0 < rdI (intV (sgn false (bv c)*sgn false (bv c')))
   rw [rdI_intV]
   exact mul_pos' hc0 hc0'
  with_unfolding_all refine⟨⟨I1,I3⟩,⟨I2,I4⟩,⟨⟨_,_,_,_,rfl,S1,S2⟩,hp⟩,[some 2],stOf [(4,.ptr 0 0 0 0)] [boxR (decide ((rdF (.agg ⟨[.bool s,.string b,.bool false,.string c]⟩)*rdF (.agg ⟨[.bool s',.string b',.bool false,.string c']⟩)).num < 0)) (numB (rdF (.agg ⟨[.bool s,.string b,.bool false,.string c]⟩)*rdF (.agg ⟨[.bool s',.string b',.bool false,.string c']⟩)).num.natAbs) (denT (rdF (.agg ⟨[.bool s,.string b,.bool false,.string c]⟩)*rdF (.agg ⟨[.bool s',.string b',.bool false,.string c']⟩)).den) 0] 1 [],Wo ⟨qZ ⟨⟨cbq hQ,rfl⟩,⟨csq hQ,rfl⟩,⟨cdq hQ,rfl⟩,qQ⟩,qQ⟩ ⟨pP,qQ⟩ trivial,rfl,rfl⟩
 ·cases e
def c118:List PV→Option Ans
 |[.val v,.val u]=>some ⟨some (isFk 4294967296 v∧isFk 4294967296 u),.val (goInt (cmpI (rdFn v*rdFd u) (rdFn u*rdFd v))),[]⟩
 |_=>none
def D118:Opt:={ perm:=atR 1 [(0,true),(1,true),(2,true),(3,true),(5,true),(6,true),(7,true),(8,true),(4,false),(9,false),(10,false)] }
theorem ok118:funcOk D118.toOrd Tryz.f118 2=true:=by kernel_rfl
theorem f118:FnOk Tryz.prog 118 c118:=by
 refine FnOk.ofW orders (mkE_ok (l:=[(119,c119),(108,c108)]) (own:=[]) (inl:=[]) (by simp [f119,f108]) (by simp)) Tryz.func118 D118 2 ok118 fun args r e=>?_
 unfold c118 at e
 split at e
 ·rename_i v u
  cases e
  refine⟨by simp,fun hm=>?_⟩
  obtain⟨⟨s,b,c,rfl,hb,hc,hc0⟩,s',b',c',rfl,hb',hc',hc0'⟩:=hm _ rfl
  refine⟨[],stOf [(0,.val (.agg ⟨[.bool s,.string b,.bool false,.string c]⟩)),(1,.val (.agg ⟨[.bool s',.string b',.bool false,.string c']⟩))] [] 0 [],Wo trivial ⟨rfl,rfl,qQ⟩ trivial,?_⟩
  have I1:isI (.agg ⟨[.bool s,.string b]⟩):=⟨_,_,rfl,by omega⟩
  have I2:isI (.agg ⟨[.bool false,.string c]⟩):=⟨_,_,rfl,by omega⟩
  have I3:isI (.agg ⟨[.bool s',.string b']⟩):=⟨_,_,rfl,by omega⟩
  have I4:isI (.agg ⟨[.bool false,.string c']⟩):=⟨_,_,rfl,by omega⟩
  have J1:isI (intV (sgn s (bv b)*sgn false (bv c'))):=isI_intV (mulI s false b c') (by omega)
  have J2:isI (intV (sgn s' (bv b')*sgn false (bv c))):=isI_intV (mulI s' false b' c) (by omega)
  have hC:PV.val (goInt (cmpI (rdI (intV (sgn s (bv b)*sgn false (bv c')))) (rdI (intV (sgn s' (bv b')*sgn false (bv c))))))=PV.val (goInt (cmpI (sgn s (bv b)*sgn false (bv c')) (sgn s' (bv b')*sgn false (bv c)))):=by rw [rdI_intV,rdI_intV]
  with_unfolding_all refine⟨⟨I1,I4⟩,⟨I3,I2⟩,⟨J1,J2⟩,[],stOf [(4,.val (goInt (cmpI (sgn s (bv b)*sgn false (bv c')) (sgn s' (bv b')*sgn false (bv c)))))] [] 0 [],Wo trivial ⟨hC,qQ⟩ trivial,rfl,rfl⟩
 ·cases e
end Go.Proofs
namespace Go.Num
open Go Go.Ex
def is4 (n d m e:Int):Prop:=n.natAbs < 16777216∧(0 < d∧d < 16777216)∧m.natAbs < 16777216∧0 < e∧e < 16777216
theorem mul24 {x y:Int} (h1:x.natAbs < 16777216) (h2:y.natAbs < 16777216):(x*y).natAbs < 281474976710656:=by
 rw [Int.natAbs_mul]
 exact Nat.mul_lt_mul'' h1 h2
theorem wmul {x y:Int} (h1:x.natAbs < 16777216) (h2:y.natAbs < 16777216):IntKind.i64.wrap (x*y)=x*y:=by
 have:=mul24 h1 h2
 exact wrap64 (by omega) (by omega)
end Go.Num
namespace Go.Proofs
open Go Go.Ex Go.Num
set_option maxRecDepth 100000
def c149:List PV→Option Ans
 |[.val (.int .i64 n),.val (.int .i64 d),.val (.int .i64 m),.val (.int .i64 e)]=>some ⟨some (is4 n d m e),.val (ratV (mkRat (n*e+m*d) (d*e).toNat)),[]⟩
 |_=>none
theorem ok149:funcOk {} Tryz.f149 4=true:=by kernel_rfl
theorem f149:FnOk Tryz.prog 149 c149:=by
 refine FnOk.ofW orders (mkE_ok (l:=[(150,c150)]) (own:=[]) (inl:=[]) (by simp [f150]) (by simp)) Tryz.func149 {} 4 ok149 fun args r e=>?_
 unfold c149 at e
 split at e
 ·rename_i n d m e'
  cases e
  refine⟨by simp,fun hm=>?_⟩
  obtain⟨hn,⟨hd1,hd2⟩,hm',he1,he2⟩:=hm _ rfl
  have hd:d.natAbs < 16777216:=by omega
  have he:e'.natAbs < 16777216:=by omega
  refine⟨[],stOf [(0,.val (.int .i64 n)),(1,.val (.int .i64 d)),(2,.val (.int .i64 m)),(3,.val (.int .i64 e'))] [] 0 [],Wo trivial ⟨rfl,rfl,rfl,rfl,qQ⟩ trivial,?_⟩
  have b1:=mul24 hn he
  have b2:=mul24 hm' hd
  have b3:=mul24 hd he
  have b4:0 < d*e':=Int.mul_pos hd1 he1
  have w1:IntKind.i64.wrap (IntKind.i64.wrap (n*e')+IntKind.i64.wrap (m*d))=n*e'+m*d:=by
   rw [wmul hn he,wmul hm' hd,wrap64 (by omega) (by omega)]
  have w2:IntKind.i64.wrap (d*e')=d*e':=wmul hd he
  have hQ:mkRat (IntKind.i64.wrap (IntKind.i64.wrap (n*e')+IntKind.i64.wrap (m*d))) (IntKind.i64.wrap (d*e')).toNat=mkRat (n*e'+m*d) (d*e').toNat:=by rw [w1,w2]
  with_unfolding_all refine⟨⟨by rw [w2];exact b4,by rw [w2];omega,by rw [w1];omega⟩,[some 0],stOf [(8,.ptr 0 0 0 0)] [boxR (decide ((mkRat (n*e'+m*d) (d*e').toNat).num < 0)) (numB (mkRat (n*e'+m*d) (d*e').toNat).num.natAbs) (denT (mkRat (n*e'+m*d) (d*e').toNat).den) 0] 1 [],Wo ⟨qZ ⟨⟨cbq hQ,rfl⟩,⟨csq hQ,rfl⟩,⟨cdq hQ,rfl⟩,qQ⟩,qQ⟩ ⟨pP,qQ⟩ trivial,rfl,rfl⟩
 ·cases e
def c153:List PV→Option Ans
 |[.val (.int .i64 n),.val (.int .i64 d),.val (.int .i64 m),.val (.int .i64 e)]=>some ⟨some (is4 n d m e),.val (ratV (mkRat (n*m) (d*e).toNat)),[]⟩
 |_=>none
theorem ok153:funcOk {} Tryz.f153 4=true:=by kernel_rfl
theorem f153:FnOk Tryz.prog 153 c153:=by
 refine FnOk.ofW orders (mkE_ok (l:=[(150,c150)]) (own:=[]) (inl:=[]) (by simp [f150]) (by simp)) Tryz.func153 {} 4 ok153 fun args r e=>?_
 unfold c153 at e
 split at e
 ·rename_i n d m e'
  cases e
  refine⟨by simp,fun hm=>?_⟩
  obtain⟨hn,⟨hd1,hd2⟩,hm',he1,he2⟩:=hm _ rfl
  have hd:d.natAbs < 16777216:=by omega
  have he:e'.natAbs < 16777216:=by omega
  refine⟨[],stOf [(0,.val (.int .i64 n)),(1,.val (.int .i64 d)),(2,.val (.int .i64 m)),(3,.val (.int .i64 e'))] [] 0 [],Wo trivial ⟨rfl,rfl,rfl,rfl,qQ⟩ trivial,?_⟩
  have b1:=mul24 hn hm'
  have b3:=mul24 hd he
  have b4:0 < d*e':=Int.mul_pos hd1 he1
  have w1:IntKind.i64.wrap (n*m)=n*m:=wmul hn hm'
  have w2:IntKind.i64.wrap (d*e')=d*e':=wmul hd he
  have hQ:mkRat (IntKind.i64.wrap (n*m)) (IntKind.i64.wrap (d*e')).toNat=mkRat (n*m) (d*e').toNat:=by rw [w1,w2]
  with_unfolding_all refine⟨⟨by rw [w2];exact b4,by rw [w2];omega,by rw [w1];omega⟩,[some 0],stOf [(8,.ptr 0 0 0 0)] [boxR (decide ((mkRat (n*m) (d*e').toNat).num < 0)) (numB (mkRat (n*m) (d*e').toNat).num.natAbs) (denT (mkRat (n*m) (d*e').toNat).den) 0] 1 [],Wo ⟨qZ ⟨⟨cbq hQ,rfl⟩,⟨csq hQ,rfl⟩,⟨cdq hQ,rfl⟩,qQ⟩,qQ⟩ ⟨pP,qQ⟩ trivial,rfl,rfl⟩
 ·cases e
def c117:List PV→Option Ans
 |[.val (.int .i64 n),.val (.int .i64 d),.val (.int .i64 m),.val (.int .i64 e)]=>some ⟨some (is4 n d m e),.val (goInt (cmpI (n*e) (m*d))),[]⟩
 |_=>none
theorem ok117:funcOk {} Tryz.f117 4=true:=by kernel_rfl
theorem f117:FnOk Tryz.prog 117 c117:=by
 refine FnOk.ofW orders (mkE_ok (l:=[]) (own:=[]) (inl:=[]) (by simp) (by simp)) Tryz.func117 {} 4 ok117 fun args r e=>?_
 unfold c117 at e
 split at e
 ·rename_i n d m e'
  cases e
  refine⟨by simp,fun hm=>?_⟩
  obtain⟨hn,⟨hd1,hd2⟩,hm',he1,he2⟩:=hm _ rfl
  have hd:d.natAbs < 16777216:=by omega
  have he:e'.natAbs < 16777216:=by omega
  refine⟨[],stOf [(0,.val (.int .i64 n)),(1,.val (.int .i64 d)),(2,.val (.int .i64 m)),(3,.val (.int .i64 e'))] [] 0 [],Wo trivial ⟨rfl,rfl,rfl,rfl,qQ⟩ trivial,?_⟩
  have w1:IntKind.i64.wrap (n*e')=n*e':=wmul hn he
  have w2:IntKind.i64.wrap (m*d)=m*d:=wmul hm' hd
  have t1:decide (IntKind.i64.wrap (n*e') < IntKind.i64.wrap (m*d))=true→PV.val (goInt (-1))=PV.val (goInt (cmpI (n*e') (m*d))):=fun h=>by
   rw [w1,w2] at h
   rw [cmpI,if_pos (of_decide_eq_true h)]
  have t2:decide (IntKind.i64.wrap (n*e') < IntKind.i64.wrap (m*d))=false→decide (IntKind.i64.wrap (n*e') > IntKind.i64.wrap (m*d))=true→PV.val (goInt 1)=PV.val (goInt (cmpI (n*e') (m*d))):=fun h h'=>by
   rw [w1,w2] at h h'
   rw [cmpI,if_neg (of_decide_eq_false h),if_pos (of_decide_eq_true h')]
  have t3:decide (IntKind.i64.wrap (n*e') < IntKind.i64.wrap (m*d))=false→decide (IntKind.i64.wrap (n*e') > IntKind.i64.wrap (m*d))=false→PV.val (goInt 0)=PV.val (goInt (cmpI (n*e') (m*d))):=fun h h'=>by
   rw [w1,w2] at h h'
   rw [cmpI,if_neg (of_decide_eq_false h),if_neg (of_decide_eq_false h')]
  with_unfolding_all refine⟨fun h=>⟨[],stOf [(8,.val (goInt (cmpI (n*e') (m*d))))] [] 0 [],Wo trivial ⟨t1 h,qQ⟩ trivial,rfl,rfl⟩,fun h=>⟨fun h'=>⟨[],stOf [(8,.val (goInt (cmpI (n*e') (m*d))))] [] 0 [],Wo trivial ⟨t2 h h',qQ⟩ trivial,rfl,rfl⟩,fun h'=>⟨[],stOf [(8,.val (goInt (cmpI (n*e') (m*d))))] [] 0 [],Wo trivial ⟨t3 h h',qQ⟩ trivial,rfl,rfl⟩⟩⟩
 ·cases e
end Go.Proofs
namespace Go.Num
open Go Go.Ex
def isRk (k:Nat) (v:Value):Prop:=∃s b c,v=.agg ⟨[.bool s,.string b,.string c]⟩∧b.size≤k∧c.size≤k
theorem isRk.R {k:Nat} {v:Value} (h:isRk k v) (hk:k≤34359738368):isR v:=by
 obtain⟨s,b,c,rfl,hb,hc⟩:=h
 exact⟨_,_,_,rfl,by omega,by omega⟩
theorem isFk_ofV {k:Nat} {v:Value} (h:isRk k v) (hk:1≤k):isFk k (ofV v):=by
 obtain⟨s,b,c,rfl,hb,hc⟩:=h
 refine⟨s,b,denB c,rfl,hb,?_,?_⟩
 ·unfold denB
  split
  ·exact Nat.le_trans (numB_le (k:=1) (by decide)) hk
  ·exact hc
 ·rw [bv_denB]
  have:=den1_pos (bv c)
  omega
theorem rdF_ofV {v:Value} (h:isR v):rdF (ofV v)=rdR v:=by
 obtain⟨_,h2,h3,_⟩:=isF_ofV h
 rw [rdF,h2,h3,Int.toNat_natCast]
 rfl
theorem smallB_spec {b c:ByteArray} (h:Go.Proofs.smallB b c=true):b.size≤3∧c.size≤3:=by
 simpa [Go.Proofs.smallB] using h
theorem small_lt {b:ByteArray} (h:b.size≤3):bv b < 16777216:=by
 have h1:=bv_lt b
 have h2:256^b.size≤256^3:=Nat.pow_le_pow_right (by decide) h
 omega
theorem den1_lt {n:Nat} (h:n < 16777216):den1 n < 16777216:=by unfold den1;split<;>omega
theorem small4 {b c b' c':ByteArray} (s s':Bool) (h:b.size≤3) (hc:c.size≤3) (h':b'.size≤3) (hc':c'.size≤3):is4 (sgn s (bv b)) (den1 (bv c):Nat) (sgn s' (bv b')) (den1 (bv c'):Nat):=by
 have h1:=small_lt h
 have h2:=den1_lt (small_lt hc)
 have h3:=small_lt h'
 have h4:=den1_lt (small_lt hc')
 have h5:=den1_pos (bv c)
 have h6:=den1_pos (bv c')
 refine⟨by rw [sgn_natAbs];exact h1,⟨by omega,by omega⟩,by rw [sgn_natAbs];exact h3,by omega,by omega⟩
end Go.Num
namespace Go.Proofs
open Go Go.Ex Go.Num
set_option maxRecDepth 100000
def c148:List PV→Option Ans
 |[.val v,.val u,.val (.func (.func 149) ⟨[]⟩ ⟨[]⟩),.val (.func (.func 151) ⟨[]⟩ ⟨[]⟩)]=>some ⟨some (isRk 4294967296 v∧isRk 4294967296 u),.val (ratV (rdR v+rdR u)),[]⟩
 |[.val v,.val u,.val (.func (.func 153) ⟨[]⟩ ⟨[]⟩),.val (.func (.func 154) ⟨[]⟩ ⟨[]⟩)]=>some ⟨some (isRk 4294967296 v∧isRk 4294967296 u),.val (ratV (rdR v*rdR u)),[]⟩
 |_=>none
def D148:Opt:={ perm:=atR 5 [(0,true),(1,true),(3,true),(2,false),(4,false),(5,false)] }
theorem ok148:funcOk D148.toOrd Tryz.f148 4=true:=by kernel_rfl
theorem f148:FnOk Tryz.prog 148 c148:=by
 refine FnOk.ofW orders (mkE_ok (l:=[(155,c155),(137,c137),(149,c149),(151,c151),(153,c153),(154,c154)]) (own:=[]) (inl:=[]) (by simp [f155,f137,f149,f151,f153,f154]) (by simp)) Tryz.func148 D148 4 ok148 fun args r e=>?_
 unfold c148 at e
 split at e
 ·rename_i v u
  cases e
  refine⟨by simp,fun hm=>?_⟩
  obtain⟨hv,hu⟩:=hm _ rfl
  have f1:=isFk_ofV hv (by decide)
  have f2:=isFk_ofV hu (by decide)
  have g1:=rdF_ofV (hv.R (by decide))
  have g2:=rdF_ofV (hu.R (by decide))
  have r1:=hv.R (by decide)
  have r2:=hu.R (by decide)
  obtain⟨s,b,c,rfl,hb,hc⟩:=hv
  obtain⟨s',b',c',rfl,hb',hc'⟩:=hu
  refine⟨[],stOf [(0,.val (.agg ⟨[.bool s,.string b,.string c]⟩)),(1,.val (.agg ⟨[.bool s',.string b',.string c']⟩)),(2,.val (.func (.func 149) ⟨[]⟩ ⟨[]⟩)),(3,.val (.func (.func 151) ⟨[]⟩ ⟨[]⟩))] [] 0 [],Wo trivial ⟨rfl,rfl,rfl,rfl,qQ⟩ trivial,?_⟩
  have hbig:rdF (ofV (.agg ⟨[.bool s,.string b,.string c]⟩))+rdF (ofV (.agg ⟨[.bool s',.string b',.string c']⟩))=rdR (.agg ⟨[.bool s,.string b,.string c]⟩)+rdR (.agg ⟨[.bool s',.string b',.string c']⟩):=by rw [g1,g2]
  have h4:smallB b c=true→smallB b' c'=true→is4 (bif smallB b c then sgn s (bv b) else 0) (bif smallB b c then((den1 (bv c):Nat):Int) else 0) (bif smallB b' c' then sgn s' (bv b') else 0) (bif smallB b' c' then((den1 (bv c'):Nat):Int) else 0):=fun h h'=>by
   rw [h,h']
   obtain⟨h1,h2⟩:=smallB_spec h
   obtain⟨h3,h4⟩:=smallB_spec h'
   exact small4 s s' h1 h2 h3 h4
  have hsm:smallB b c=true→smallB b' c'=true→mkRat ((bif smallB b c then sgn s (bv b) else 0)*(bif smallB b' c' then((den1 (bv c'):Nat):Int) else 0)+(bif smallB b' c' then sgn s' (bv b') else 0)*(bif smallB b c then((den1 (bv c):Nat):Int) else 0)) ((bif smallB b c then((den1 (bv c):Nat):Int) else 0)*(bif smallB b' c' then((den1 (bv c'):Nat):Int) else 0)).toNat=rdR (.agg ⟨[.bool s,.string b,.string c]⟩)+rdR (.agg ⟨[.bool s',.string b',.string c']⟩):=fun h h'=>by
   rw [h,h']
   show mkRat (sgn s (bv b)*((den1 (bv c'):Nat):Int)+sgn s' (bv b')*((den1 (bv c):Nat):Int)) (((den1 (bv c):Nat):Int)*((den1 (bv c'):Nat):Int)).toNat=mkRat (sgn s (bv b)) (den1 (bv c))+mkRat (sgn s' (bv b')) (den1 (bv c'))
   rw [Rat.mkRat_add_mkRat _ _ (Nat.ne_of_gt (den1_pos _)) (Nat.ne_of_gt (den1_pos _)),←Int.natCast_mul,Int.toNat_natCast]
  with_unfolding_all refine⟨fun h=>⟨fun h'=>⟨h4 h h',[some 2],stOf [(8,.ptr 0 0 0 0)] [boxR (decide ((rdR (.agg ⟨[.bool s,.string b,.string c]⟩)+rdR (.agg ⟨[.bool s',.string b',.string c']⟩)).num < 0)) (numB (rdR (.agg ⟨[.bool s,.string b,.string c]⟩)+rdR (.agg ⟨[.bool s',.string b',.string c']⟩)).num.natAbs) (denT (rdR (.agg ⟨[.bool s,.string b,.string c]⟩)+rdR (.agg ⟨[.bool s',.string b',.string c']⟩)).den) 0] 1 [],Wo ⟨qZ ⟨⟨cbq (hsm h h'),rfl⟩,⟨csq (hsm h h'),rfl⟩,⟨cdq (hsm h h'),rfl⟩,qQ⟩,qQ⟩ ⟨pP,qQ⟩ trivial,rfl,rfl⟩,fun h'=>⟨r1,r2,⟨f1,f2⟩,[some 2],stOf [(8,.ptr 0 0 0 0)] [boxR (decide ((rdR (.agg ⟨[.bool s,.string b,.string c]⟩)+rdR (.agg ⟨[.bool s',.string b',.string c']⟩)).num < 0)) (numB (rdR (.agg ⟨[.bool s,.string b,.string c]⟩)+rdR (.agg ⟨[.bool s',.string b',.string c']⟩)).num.natAbs) (denT (rdR (.agg ⟨[.bool s,.string b,.string c]⟩)+rdR (.agg ⟨[.bool s',.string b',.string c']⟩)).den) 0] 1 [],Wo ⟨qZ ⟨⟨cbq hbig,rfl⟩,⟨csq hbig,rfl⟩,⟨cdq hbig,rfl⟩,qQ⟩,qQ⟩ ⟨pP,qQ⟩ trivial,rfl,rfl⟩⟩,fun h=>⟨fun h'=>(nomatch h'),fun _=>⟨r1,r2,⟨f1,f2⟩,[some 2],stOf [(8,.ptr 0 0 0 0)] [boxR (decide ((rdR (.agg ⟨[.bool s,.string b,.string c]⟩)+rdR (.agg ⟨[.bool s',.string b',.string c']⟩)).num < 0)) (numB (rdR (.agg ⟨[.bool s,.string b,.string c]⟩)+rdR (.agg ⟨[.bool s',.string b',.string c']⟩)).num.natAbs) (denT (rdR (.agg ⟨[.bool s,.string b,.string c]⟩)+rdR (.agg ⟨[.bool s',.string b',.string c']⟩)).den) 0] 1 [],Wo ⟨qZ ⟨⟨cbq hbig,rfl⟩,⟨csq hbig,rfl⟩,⟨cdq hbig,rfl⟩,qQ⟩,qQ⟩ ⟨pP,qQ⟩ trivial,rfl,rfl⟩⟩⟩
 ·rename_i v u
  cases e
  refine⟨by simp,fun hm=>?_⟩
  obtain⟨hv,hu⟩:=hm _ rfl
  have f1:=isFk_ofV hv (by decide)
  have f2:=isFk_ofV hu (by decide)
  have g1:=rdF_ofV (hv.R (by decide))
  have g2:=rdF_ofV (hu.R (by decide))
  have r1:=hv.R (by decide)
  have r2:=hu.R (by decide)
  obtain⟨s,b,c,rfl,hb,hc⟩:=hv
  obtain⟨s',b',c',rfl,hb',hc'⟩:=hu
  refine⟨[],stOf [(0,.val (.agg ⟨[.bool s,.string b,.string c]⟩)),(1,.val (.agg ⟨[.bool s',.string b',.string c']⟩)),(2,.val (.func (.func 153) ⟨[]⟩ ⟨[]⟩)),(3,.val (.func (.func 154) ⟨[]⟩ ⟨[]⟩))] [] 0 [],Wo trivial ⟨rfl,rfl,rfl,rfl,qQ⟩ trivial,?_⟩
  have hbig:rdF (ofV (.agg ⟨[.bool s,.string b,.string c]⟩))*rdF (ofV (.agg ⟨[.bool s',.string b',.string c']⟩))=rdR (.agg ⟨[.bool s,.string b,.string c]⟩)*rdR (.agg ⟨[.bool s',.string b',.string c']⟩):=by rw [g1,g2]
  have h4:smallB b c=true→smallB b' c'=true→is4 (bif smallB b c then sgn s (bv b) else 0) (bif smallB b c then((den1 (bv c):Nat):Int) else 0) (bif smallB b' c' then sgn s' (bv b') else 0) (bif smallB b' c' then((den1 (bv c'):Nat):Int) else 0):=fun h h'=>by
   rw [h,h']
   obtain⟨h1,h2⟩:=smallB_spec h
   obtain⟨h3,h4⟩:=smallB_spec h'
   exact small4 s s' h1 h2 h3 h4
  have hsm:smallB b c=true→smallB b' c'=true→mkRat ((bif smallB b c then sgn s (bv b) else 0)*(bif smallB b' c' then sgn s' (bv b') else 0)) ((bif smallB b c then((den1 (bv c):Nat):Int) else 0)*(bif smallB b' c' then((den1 (bv c'):Nat):Int) else 0)).toNat=rdR (.agg ⟨[.bool s,.string b,.string c]⟩)*rdR (.agg ⟨[.bool s',.string b',.string c']⟩):=fun h h'=>by
   rw [h,h']
   show mkRat (sgn s (bv b)*sgn s' (bv b')) (((den1 (bv c):Nat):Int)*((den1 (bv c'):Nat):Int)).toNat=mkRat (sgn s (bv b)) (den1 (bv c))*mkRat (sgn s' (bv b')) (den1 (bv c'))
   rw [Rat.mkRat_mul_mkRat,←Int.natCast_mul,Int.toNat_natCast]
  with_unfolding_all refine⟨fun h=>⟨fun h'=>⟨h4 h h',[some 2],stOf [(8,.ptr 0 0 0 0)] [boxR (decide ((rdR (.agg ⟨[.bool s,.string b,.string c]⟩)*rdR (.agg ⟨[.bool s',.string b',.string c']⟩)).num < 0)) (numB (rdR (.agg ⟨[.bool s,.string b,.string c]⟩)*rdR (.agg ⟨[.bool s',.string b',.string c']⟩)).num.natAbs) (denT (rdR (.agg ⟨[.bool s,.string b,.string c]⟩)*rdR (.agg ⟨[.bool s',.string b',.string c']⟩)).den) 0] 1 [],Wo ⟨qZ ⟨⟨cbq (hsm h h'),rfl⟩,⟨csq (hsm h h'),rfl⟩,⟨cdq (hsm h h'),rfl⟩,qQ⟩,qQ⟩ ⟨pP,qQ⟩ trivial,rfl,rfl⟩,fun h'=>⟨r1,r2,⟨f1,f2⟩,[some 2],stOf [(8,.ptr 0 0 0 0)] [boxR (decide ((rdR (.agg ⟨[.bool s,.string b,.string c]⟩)*rdR (.agg ⟨[.bool s',.string b',.string c']⟩)).num < 0)) (numB (rdR (.agg ⟨[.bool s,.string b,.string c]⟩)*rdR (.agg ⟨[.bool s',.string b',.string c']⟩)).num.natAbs) (denT (rdR (.agg ⟨[.bool s,.string b,.string c]⟩)*rdR (.agg ⟨[.bool s',.string b',.string c']⟩)).den) 0] 1 [],Wo ⟨qZ ⟨⟨cbq hbig,rfl⟩,⟨csq hbig,rfl⟩,⟨cdq hbig,rfl⟩,qQ⟩,qQ⟩ ⟨pP,qQ⟩ trivial,rfl,rfl⟩⟩,fun h=>⟨fun h'=>(nomatch h'),fun _=>⟨r1,r2,⟨f1,f2⟩,[some 2],stOf [(8,.ptr 0 0 0 0)] [boxR (decide ((rdR (.agg ⟨[.bool s,.string b,.string c]⟩)*rdR (.agg ⟨[.bool s',.string b',.string c']⟩)).num < 0)) (numB (rdR (.agg ⟨[.bool s,.string b,.string c]⟩)*rdR (.agg ⟨[.bool s',.string b',.string c']⟩)).num.natAbs) (denT (rdR (.agg ⟨[.bool s,.string b,.string c]⟩)*rdR (.agg ⟨[.bool s',.string b',.string c']⟩)).den) 0] 1 [],Wo ⟨qZ ⟨⟨cbq hbig,rfl⟩,⟨csq hbig,rfl⟩,⟨cdq hbig,rfl⟩,qQ⟩,qQ⟩ ⟨pP,qQ⟩ trivial,rfl,rfl⟩⟩⟩
 ·cases e
end Go.Proofs
namespace Go.Num
open Go Go.Ex
def cmpQ (a b:Rat):Int:=if a < b then -1 else if b < a then 1 else 0
theorem mkRat_parts (n:Int) {d:Nat} (h:d≠0):∃g:Nat,0 < g∧n=(mkRat n d).num*(g:Int)∧d=(mkRat n d).den*g:=by
 have hg:0 < Nat.gcd d n.natAbs:=Nat.gcd_pos_of_pos_left _ (by omega)
 refine⟨Nat.gcd d n.natAbs,hg,?_,?_⟩
 ·rw [Rat.num_mkRat,if_neg h]
  exact(Int.ediv_mul_cancel (Int.natAbs_dvd_natAbs.1 (Nat.gcd_dvd_right d n.natAbs))).symm
 ·rw [Rat.den_mkRat,if_neg h]
  exact(Nat.div_mul_cancel (Nat.gcd_dvd_left d n.natAbs)).symm
theorem mkRat_lt (n m:Int) {d e:Nat} (hd:d≠0) (he:e≠0):mkRat n d < mkRat m e↔n*(e:Int) < m*(d:Int):=by
 obtain⟨g,hg,h1,h2⟩:=mkRat_parts n hd
 obtain⟨k,hk,h3,h4⟩:=mkRat_parts m he
 rw [Rat.lt_iff]
 generalize mkRat n d=p at *
 generalize mkRat m e=q at *
 rw [h1,h2,h3,h4]
 have e1:p.num*(g:Int)*((q.den*k:Nat):Int)=p.num*(q.den:Int)*((g*k:Nat):Int):=by
  rw [Int.natCast_mul,Int.natCast_mul]
  simp only [Int.mul_assoc,Int.mul_comm,Int.mul_left_comm]
 have e2:q.num*(k:Int)*((p.den*g:Nat):Int)=q.num*(p.den:Int)*((g*k:Nat):Int):=by
  rw [Int.natCast_mul,Int.natCast_mul]
  simp only [Int.mul_assoc,Int.mul_comm,Int.mul_left_comm]
 rw [e1,e2]
 have hpos:(0:Int) < ((g*k:Nat):Int):=by
  have:=Nat.mul_pos hg hk
  omega
 exact⟨fun h=>Int.mul_lt_mul_of_pos_right h hpos,fun h=>Int.lt_of_mul_lt_mul_right h (Int.le_of_lt hpos)⟩
theorem cmp_mk (n m:Int) {d e:Nat} (hd:d≠0) (he:e≠0):cmpI (n*(e:Int)) (m*(d:Int))=cmpQ (mkRat n d) (mkRat m e):=by
 unfold cmpI cmpQ
 simp only [mkRat_lt n m hd he,mkRat_lt m n he hd]
theorem rdR_neg (s:Bool) (b c:ByteArray):rdR (.agg ⟨[.bool (!s),.string b,.string c]⟩) = -rdR (.agg ⟨[.bool s,.string b,.string c]⟩):=by
 show mkRat (sgn (!s) (bv b)) (den1 (bv c)) = -mkRat (sgn s (bv b)) (den1 (bv c))
 rw [Rat.neg_mkRat]
 cases s
 ·rfl
 ·show mkRat ((bv b:Nat):Int) _=mkRat (- -((bv b:Nat):Int)) _
  rw [Int.neg_neg]
end Go.Num
namespace Go.Proofs
open Go Go.Ex Go.Num
set_option maxRecDepth 100000
def c113:List PV→Option Ans
 |[.val v,.val u]=>some ⟨some (isRk 4294967296 v∧isRk 4294967296 u),.val (ratV (rdR v+rdR u)),[]⟩
 |_=>none
theorem ok113:funcOk {} Tryz.f113 2=true:=by kernel_rfl
theorem f113:FnOk Tryz.prog 113 c113:=by
 refine FnOk.ofW orders (mkE_ok (l:=[(148,c148)]) (own:=[]) (inl:=[]) (by simp [f148]) (by simp)) Tryz.func113 {} 2 ok113 fun args r e=>?_
 unfold c113 at e
 split at e
 ·rename_i v u
  cases e
  refine⟨by simp,fun hm=>?_⟩
  obtain⟨⟨s,b,c,rfl,hb,hc⟩,s',b',c',rfl,hb',hc'⟩:=hm _ rfl
  refine⟨[],stOf [(0,.val (.agg ⟨[.bool s,.string b,.string c]⟩)),(1,.val (.agg ⟨[.bool s',.string b',.string c']⟩))] [] 0 [],Wo trivial ⟨rfl,rfl,qQ⟩ trivial,?_⟩
  have hq:rdR (.agg ⟨[.bool s,.string b,.string c]⟩)+rdR (.agg ⟨[.bool s',.string b',.string c']⟩)=rdR (.agg ⟨[.bool s,.string b,.string c]⟩)+rdR (.agg ⟨[.bool s',.string b',.string c']⟩):=rfl
  with_unfolding_all refine⟨⟨⟨_,_,_,rfl,hb,hc⟩,_,_,_,rfl,hb',hc'⟩,[some 2],stOf [(4,.ptr 0 0 0 0)] [boxR (decide ((rdR (.agg ⟨[.bool s,.string b,.string c]⟩)+rdR (.agg ⟨[.bool s',.string b',.string c']⟩)).num < 0)) (numB (rdR (.agg ⟨[.bool s,.string b,.string c]⟩)+rdR (.agg ⟨[.bool s',.string b',.string c']⟩)).num.natAbs) (denT (rdR (.agg ⟨[.bool s,.string b,.string c]⟩)+rdR (.agg ⟨[.bool s',.string b',.string c']⟩)).den) 0] 1 [],Wo ⟨qZ ⟨⟨cbq hq,rfl⟩,⟨csq hq,rfl⟩,⟨cdq hq,rfl⟩,qQ⟩,qQ⟩ ⟨pP,qQ⟩ trivial,rfl,rfl⟩
 ·cases e
def c114:List PV→Option Ans
 |[.val v,.val u]=>some ⟨some (isRk 4294967296 v∧isRk 4294967296 u),.val (ratV (rdR v*rdR u)),[]⟩
 |_=>none
theorem ok114:funcOk {} Tryz.f114 2=true:=by kernel_rfl
theorem f114:FnOk Tryz.prog 114 c114:=by
 refine FnOk.ofW orders (mkE_ok (l:=[(148,c148)]) (own:=[]) (inl:=[]) (by simp [f148]) (by simp)) Tryz.func114 {} 2 ok114 fun args r e=>?_
 unfold c114 at e
 split at e
 ·rename_i v u
  cases e
  refine⟨by simp,fun hm=>?_⟩
  obtain⟨⟨s,b,c,rfl,hb,hc⟩,s',b',c',rfl,hb',hc'⟩:=hm _ rfl
  refine⟨[],stOf [(0,.val (.agg ⟨[.bool s,.string b,.string c]⟩)),(1,.val (.agg ⟨[.bool s',.string b',.string c']⟩))] [] 0 [],Wo trivial ⟨rfl,rfl,qQ⟩ trivial,?_⟩
  have hq:rdR (.agg ⟨[.bool s,.string b,.string c]⟩)*rdR (.agg ⟨[.bool s',.string b',.string c']⟩)=rdR (.agg ⟨[.bool s,.string b,.string c]⟩)*rdR (.agg ⟨[.bool s',.string b',.string c']⟩):=rfl
  with_unfolding_all refine⟨⟨⟨_,_,_,rfl,hb,hc⟩,_,_,_,rfl,hb',hc'⟩,[some 2],stOf [(4,.ptr 0 0 0 0)] [boxR (decide ((rdR (.agg ⟨[.bool s,.string b,.string c]⟩)*rdR (.agg ⟨[.bool s',.string b',.string c']⟩)).num < 0)) (numB (rdR (.agg ⟨[.bool s,.string b,.string c]⟩)*rdR (.agg ⟨[.bool s',.string b',.string c']⟩)).num.natAbs) (denT (rdR (.agg ⟨[.bool s,.string b,.string c]⟩)*rdR (.agg ⟨[.bool s',.string b',.string c']⟩)).den) 0] 1 [],Wo ⟨qZ ⟨⟨cbq hq,rfl⟩,⟨csq hq,rfl⟩,⟨cdq hq,rfl⟩,qQ⟩,qQ⟩ ⟨pP,qQ⟩ trivial,rfl,rfl⟩
 ·cases e
def c115:List PV→Option Ans
 |[.val v,.val u]=>some ⟨some (isRk 4294967296 v∧isRk 4294967296 u),.val (ratV (rdR v - rdR u)),[]⟩
 |_=>none
theorem ok115:funcOk {} Tryz.f115 2=true:=by kernel_rfl
theorem f115:FnOk Tryz.prog 115 c115:=by
 refine FnOk.ofW orders (mkE_ok (l:=[(113,c113)]) (own:=[]) (inl:=[]) (by simp [f113]) (by simp)) Tryz.func115 {} 2 ok115 fun args r e=>?_
 unfold c115 at e
 split at e
 ·rename_i v u
  cases e
  refine⟨by simp,fun hm=>?_⟩
  obtain⟨⟨s,b,c,rfl,hb,hc⟩,s',b',c',rfl,hb',hc'⟩:=hm _ rfl
  refine⟨[],stOf [(0,.val (.agg ⟨[.bool s,.string b,.string c]⟩)),(1,.val (.agg ⟨[.bool s',.string b',.string c']⟩))] [] 0 [],Wo trivial ⟨rfl,rfl,qQ⟩ trivial,?_⟩
  have hq:rdR (.agg ⟨[.bool s,.string b,.string c]⟩)+rdR (.agg ⟨[.bool (!s'),.string b',.string c']⟩)=rdR (.agg ⟨[.bool s,.string b,.string c]⟩) - rdR (.agg ⟨[.bool s',.string b',.string c']⟩):=by rw [rdR_neg,Rat.sub_eq_add_neg]
  with_unfolding_all refine⟨⟨⟨_,_,_,rfl,hb,hc⟩,_,_,_,rfl,hb',hc'⟩,[some 2],stOf [(4,.ptr 0 0 0 0)] [boxR (decide ((rdR (.agg ⟨[.bool s,.string b,.string c]⟩) - rdR (.agg ⟨[.bool s',.string b',.string c']⟩)).num < 0)) (numB (rdR (.agg ⟨[.bool s,.string b,.string c]⟩) - rdR (.agg ⟨[.bool s',.string b',.string c']⟩)).num.natAbs) (denT (rdR (.agg ⟨[.bool s,.string b,.string c]⟩) - rdR (.agg ⟨[.bool s',.string b',.string c']⟩)).den) 0] 1 [],Wo ⟨qZ ⟨⟨cbq hq,rfl⟩,⟨csq hq,rfl⟩,⟨cdq hq,rfl⟩,qQ⟩,qQ⟩ ⟨pP,qQ⟩ trivial,rfl,rfl⟩
 ·cases e
def c116:List PV→Option Ans
 |[.val v,.val u,.val (.func (.func 117) ⟨[]⟩ ⟨[]⟩),.val (.func (.func 118) ⟨[]⟩ ⟨[]⟩)]=>some ⟨some (isRk 4294967296 v∧isRk 4294967296 u),.val (goInt (cmpQ (rdR v) (rdR u))),[]⟩
 |_=>none
def D116:Opt:={ perm:=atR 5 [(0,true),(1,true),(3,true),(2,false),(4,false),(5,false)] }
theorem ok116:funcOk D116.toOrd Tryz.f116 4=true:=by kernel_rfl
theorem f116:FnOk Tryz.prog 116 c116:=by
 refine FnOk.ofW orders (mkE_ok (l:=[(155,c155),(137,c137),(117,c117),(118,c118)]) (own:=[]) (inl:=[]) (by simp [f155,f137,f117,f118]) (by simp)) Tryz.func116 D116 4 ok116 fun args r e=>?_
 unfold c116 at e
 split at e
 ·rename_i v u
  cases e
  refine⟨by simp,fun hm=>?_⟩
  obtain⟨hv,hu⟩:=hm _ rfl
  have f1:=isFk_ofV hv (by decide)
  have f2:=isFk_ofV hu (by decide)
  have r1:=hv.R (by decide)
  have r2:=hu.R (by decide)
  obtain⟨_,i1,i2,_⟩:=isF_ofV r1
  obtain⟨_,j1,j2,_⟩:=isF_ofV r2
  obtain⟨s,b,c,rfl,hb,hc⟩:=hv
  obtain⟨s',b',c',rfl,hb',hc'⟩:=hu
  refine⟨[],stOf [(0,.val (.agg ⟨[.bool s,.string b,.string c]⟩)),(1,.val (.agg ⟨[.bool s',.string b',.string c']⟩)),(2,.val (.func (.func 117) ⟨[]⟩ ⟨[]⟩)),(3,.val (.func (.func 118) ⟨[]⟩ ⟨[]⟩))] [] 0 [],Wo trivial ⟨rfl,rfl,rfl,rfl,qQ⟩ trivial,?_⟩
  have key:=cmp_mk (sgn s (bv b)) (sgn s' (bv b')) (Nat.ne_of_gt (den1_pos (bv c))) (Nat.ne_of_gt (den1_pos (bv c')))
  have hbig:PV.val (goInt (cmpI (rdFn (ofV (.agg ⟨[.bool s,.string b,.string c]⟩))*rdFd (ofV (.agg ⟨[.bool s',.string b',.string c']⟩))) (rdFn (ofV (.agg ⟨[.bool s',.string b',.string c']⟩))*rdFd (ofV (.agg ⟨[.bool s,.string b,.string c]⟩)))))=PV.val (goInt (cmpQ (rdR (.agg ⟨[.bool s,.string b,.string c]⟩)) (rdR (.agg ⟨[.bool s',.string b',.string c']⟩)))):=by
   rw [i1,i2,j1,j2]
   exact congrArg (fun x=>PV.val (goInt x)) key
  have h4:smallB b c=true→smallB b' c'=true→is4 (bif smallB b c then sgn s (bv b) else 0) (bif smallB b c then((den1 (bv c):Nat):Int) else 0) (bif smallB b' c' then sgn s' (bv b') else 0) (bif smallB b' c' then((den1 (bv c'):Nat):Int) else 0):=fun h h'=>by
   rw [h,h']
   obtain⟨h1,h2⟩:=smallB_spec h
   obtain⟨h3,h4⟩:=smallB_spec h'
   exact small4 s s' h1 h2 h3 h4
  have hsm:smallB b c=true→smallB b' c'=true→PV.val (goInt (cmpI ((bif smallB b c then sgn s (bv b) else 0)*(bif smallB b' c' then((den1 (bv c'):Nat):Int) else 0)) ((bif smallB b' c' then sgn s' (bv b') else 0)*(bif smallB b c then((den1 (bv c):Nat):Int) else 0))))=PV.val (goInt (cmpQ (rdR (.agg ⟨[.bool s,.string b,.string c]⟩)) (rdR (.agg ⟨[.bool s',.string b',.string c']⟩)))):=fun h h'=>by
   rw [h,h']
   exact congrArg (fun x=>PV.val (goInt x)) key
  with_unfolding_all refine⟨fun h=>⟨fun h'=>⟨h4 h h',[],stOf [(8,.val (goInt (cmpQ (rdR (.agg ⟨[.bool s,.string b,.string c]⟩)) (rdR (.agg ⟨[.bool s',.string b',.string c']⟩)))))] [] 0 [],Wo trivial ⟨hsm h h',qQ⟩ trivial,rfl,rfl⟩,fun h'=>⟨r1,r2,⟨f1,f2⟩,[],stOf [(8,.val (goInt (cmpQ (rdR (.agg ⟨[.bool s,.string b,.string c]⟩)) (rdR (.agg ⟨[.bool s',.string b',.string c']⟩)))))] [] 0 [],Wo trivial ⟨hbig,qQ⟩ trivial,rfl,rfl⟩⟩,fun h=>⟨fun h'=>(nomatch h'),fun _=>⟨r1,r2,⟨f1,f2⟩,[],stOf [(8,.val (goInt (cmpQ (rdR (.agg ⟨[.bool s,.string b,.string c]⟩)) (rdR (.agg ⟨[.bool s',.string b',.string c']⟩)))))] [] 0 [],Wo trivial ⟨hbig,qQ⟩ trivial,rfl,rfl⟩⟩⟩
 ·cases e
def c80:List PV→Option Ans
 |[.val v,.val u]=>some ⟨some (isRk 4294967296 v∧isRk 4294967296 u),.val (goInt (cmpQ (rdR v) (rdR u))),[]⟩
 |_=>none
theorem ok80:funcOk {} Tryz.f80 2=true:=by kernel_rfl
theorem f80:FnOk Tryz.prog 80 c80:=by
 refine FnOk.ofW orders (mkE_ok (l:=[(116,c116)]) (own:=[]) (inl:=[]) (by simp [f116]) (by simp)) Tryz.func80 {} 2 ok80 fun args r e=>?_
 unfold c80 at e
 split at e
 ·rename_i v u
  cases e
  refine⟨by simp,fun hm=>?_⟩
  obtain⟨⟨s,b,c,rfl,hb,hc⟩,s',b',c',rfl,hb',hc'⟩:=hm _ rfl
  refine⟨[],stOf [(0,.val (.agg ⟨[.bool s,.string b,.string c]⟩)),(1,.val (.agg ⟨[.bool s',.string b',.string c']⟩))] [] 0 [],Wo trivial ⟨rfl,rfl,qQ⟩ trivial,?_⟩
  with_unfolding_all refine⟨⟨⟨_,_,_,rfl,hb,hc⟩,_,_,_,rfl,hb',hc'⟩,[],stOf [(4,.val (goInt (cmpQ (rdR (.agg ⟨[.bool s,.string b,.string c]⟩)) (rdR (.agg ⟨[.bool s',.string b',.string c']⟩)))))] [] 0 [],Wo trivial ⟨rfl,qQ⟩ trivial,rfl,rfl⟩
 ·cases e
end Go.Proofs
namespace Go.Num
open Go Go.Ex
theorem cmp_zero (n:Int) {d:Nat} (hd:d≠0):cmpI n 0=cmpQ (mkRat n d) 0:=by
 have:=cmp_mk n 0 hd (show(1:Nat)≠0 by decide)
 rw [Int.zero_mul,Int.natCast_one,Int.mul_one,Rat.zero_mkRat] at this
 exact this
end Go.Num
namespace Go.Proofs
open Go Go.Ex Go.Num
set_option maxRecDepth 100000
def canonQ (s:Bool) (b c:ByteArray) (q:Rat):Bool:=s==decide (q.num < 0)&&(b==numB q.num.natAbs&&(c==denT q.den&&true))
def canonB (v:Value):Bool:=match v with
 |.agg ⟨[.bool s,.string b,.string c]⟩=>canonQ s b c (rdR v)
 |_=>false
def c139:List PV→Option Ans
 |[.val v]=>some ⟨some (isRk 4294967296 v),.val (goInt (cmpQ (rdR v) 0)),[]⟩
 |_=>none
theorem ok139:funcOk {} Tryz.f139 1=true:=by kernel_rfl
theorem f139:FnOk Tryz.prog 139 c139:=by
 refine FnOk.ofW orders (mkE_ok (l:=[(137,c137),(108,c108)]) (own:=[]) (inl:=[]) (by simp [f137,f108]) (by simp)) Tryz.func139 {} 1 ok139 fun args r e=>?_
 unfold c139 at e
 split at e
 ·rename_i v
  cases e
  refine⟨by simp,fun hm=>?_⟩
  obtain hv:=hm _ rfl
  have r1:=hv.R (by decide)
  obtain⟨s,b,c,rfl,hb,hc⟩:=hv
  refine⟨[],stOf [(0,.val (.agg ⟨[.bool s,.string b,.string c]⟩))] [] 0 [],Wo trivial ⟨rfl,qQ⟩ trivial,?_⟩
  have key:=cmp_zero (sgn s (bv b)) (Nat.ne_of_gt (den1_pos (bv c)))
  with_unfolding_all refine⟨r1,⟨⟨_,_,rfl,by omega⟩,_,_,rfl,by decide⟩,[],stOf [(2,.val (goInt (cmpQ (rdR (.agg ⟨[.bool s,.string b,.string c]⟩)) 0)))] [] 0 [],Wo trivial ⟨congrArg (fun x=>PV.val (goInt x)) key,qQ⟩ trivial,rfl,rfl⟩
 ·cases e
def c100:List PV→Option Ans
 |[.val v]=>some ⟨some (isRk 4294967296 v),.val (.int .i64 (bif canonB v then 0 else 1)),[]⟩
 |_=>none
def D100:Opt:={ perm:=atR 1 [(0,true),(1,true),(2,false),(3,false)] }
theorem ok100:funcOk D100.toOrd Tryz.f100 1=true:=by kernel_rfl
theorem f100:FnOk Tryz.prog 100 c100:=by
 refine FnOk.ofW orders (mkE_ok (l:=[(137,c137),(110,c110)]) (own:=[]) (inl:=[]) (by simp [f137,f110]) (by simp)) Tryz.func100 D100 1 ok100 fun args r e=>?_
 unfold c100 at e
 split at e
 ·rename_i v
  cases e
  refine⟨by simp,fun hm=>?_⟩
  obtain hv:=hm _ rfl
  have r1:=hv.R (by decide)
  obtain⟨s,b,c,rfl,hb,hc⟩:=hv
  refine⟨[],stOf [(0,.val (.agg ⟨[.bool s,.string b,.string c]⟩))] [] 0 [],Wo trivial ⟨rfl,qQ⟩ trivial,?_⟩
  have E:canonQ s b c (rdF (ofV (.agg ⟨[.bool s,.string b,.string c]⟩)))=canonB (.agg ⟨[.bool s,.string b,.string c]⟩):=by rw [rdF_ofV r1];rfl
  have t1:(!canonQ s b c (rdF (ofV (.agg ⟨[.bool s,.string b,.string c]⟩))))=true→PV.val (.int .i64 1)=PV.val (.int .i64 (bif canonB (.agg ⟨[.bool s,.string b,.string c]⟩) then 0 else 1)):=fun h=>by
   rw [E] at h
   cases hc:canonB (.agg ⟨[.bool s,.string b,.string c]⟩) with
   |true=>rw [hc] at h;cases h
   |false=>rfl
  have t2:(!canonQ s b c (rdF (ofV (.agg ⟨[.bool s,.string b,.string c]⟩))))=false→PV.val (.int .i64 0)=PV.val (.int .i64 (bif canonB (.agg ⟨[.bool s,.string b,.string c]⟩) then 0 else 1)):=fun h=>by
   rw [E] at h
   cases hc:canonB (.agg ⟨[.bool s,.string b,.string c]⟩) with
   |true=>rfl
   |false=>rw [hc] at h;cases h
  obtain⟨iF,_,_,ip⟩:=isF_ofV r1
  with_unfolding_all refine⟨r1,⟨iF,ip⟩,fun h=>⟨[],stOf [(2,.val (.int .i64 (bif canonB (.agg ⟨[.bool s,.string b,.string c]⟩) then 0 else 1)))] [] 0 [],Wo trivial ⟨t1 h,qQ⟩ trivial,rfl,rfl⟩,fun h=>⟨[],stOf [(2,.val (.int .i64 (bif canonB (.agg ⟨[.bool s,.string b,.string c]⟩) then 0 else 1)))] [] 0 [],Wo trivial ⟨t2 h,qQ⟩ trivial,rfl,rfl⟩⟩
 ·cases e
end Go.Proofs
namespace Go.Proofs
open Go Go.Ex Go.Num
set_option maxRecDepth 100000
def c72:List PV→Option Ans
 |[.val v,.val u]=>some ⟨some (isI v∧isI u),.val (.tuple ⟨[ratV (Rat.divInt (rdI v) (rdI u)),.int .i64 (bif decide (rdI u=0) then 10 else 0)]⟩),[]⟩
 |_=>none
def D72:Opt:={ perm:=atR 5 [(0,true),(2,true),(1,false),(3,false)] }
theorem ok72:funcOk D72.toOrd Tryz.f72 2=true:=by kernel_rfl
theorem f72:FnOk Tryz.prog 72 c72:=by
 refine FnOk.ofW orders (mkE_ok (l:=[(108,c108),(109,c109),(110,c110)]) (own:=[]) (inl:=[]) (by simp [f108,f109,f110]) (by simp)) Tryz.func72 D72 2 ok72 fun args r e=>?_
 unfold c72 at e
 split at e
 ·rename_i v u
  cases e
  refine⟨by simp,fun hm=>?_⟩
  obtain⟨⟨s,b,rfl,hb⟩,q,c,rfl,hc⟩:=hm _ rfl
  refine⟨[],stOf [(0,.val (.agg ⟨[.bool s,.string b]⟩)),(1,.val (.agg ⟨[.bool q,.string c]⟩))] [] 0 [],Wo trivial ⟨rfl,rfl,qQ⟩ trivial,?_⟩
  have z1:(cmpI (sgn q (bv c)) 0==0)=true→sgn q (bv c)=0:=fun h=>by
   have h:cmpI (sgn q (bv c)) 0=0:=by simpa using h
   unfold cmpI at h
   split at h
   ·omega
   ·split at h<;>omega
  have z2:(cmpI (sgn q (bv c)) 0==0)=false→sgn q (bv c)≠0:=fun h e=>by
   rw [e] at h
   exact absurd h (by decide)
  have z3:(cmpI (sgn q (bv c)) 0 == -1)=true→sgn q (bv c) < 0:=fun h=>by
   have h:cmpI (sgn q (bv c)) 0 = -1:=by simpa using h
   unfold cmpI at h
   split at h
   ·assumption
   ·split at h<;>omega
  have z4:(cmpI (sgn q (bv c)) 0 == -1)=false→¬sgn q (bv c) < 0:=fun h e=>by
   have:cmpI (sgn q (bv c)) 0 = -1:=by rw [cmpI,if_pos e]
   rw [this] at h
   exact absurd h (by decide)
  have v0:sgn q (bv c)=0→Value.tuple ⟨[.agg ⟨[.bool false,.string ⟨#[]⟩,.string ⟨#[]⟩]⟩,.int .i64 10]⟩=Value.tuple ⟨[ratV (Rat.divInt (sgn s (bv b)) (sgn q (bv c))),.int .i64 (bif decide (sgn q (bv c)=0) then 10 else 0)]⟩:=fun h=>by
   rw [h,Rat.divInt_zero,ratV_zero]
   rfl
  have v1:sgn q (bv c)≠0→Value.tuple ⟨[ratV (Rat.divInt (sgn s (bv b)) (sgn q (bv c))),.int .i64 0]⟩=Value.tuple ⟨[ratV (Rat.divInt (sgn s (bv b)) (sgn q (bv c))),.int .i64 (bif decide (sgn q (bv c)=0) then 10 else 0)]⟩:=fun h=>by
   rw [decide_eq_false h]
   rfl
  have q1:sgn q (bv c) < 0→mkRat (rdFn (fracV (-(sgn s (bv b))) (-(sgn q (bv c))))) (rdFd (fracV (-(sgn s (bv b))) (-(sgn q (bv c))))).toNat=Rat.divInt (sgn s (bv b)) (sgn q (bv c)):=fun h=>by
   rw [frac_rat,←Rat.divInt_ofNat,Int.toNat_of_nonneg (by omega),Rat.neg_divInt_neg]
  have p1:sgn q (bv c) < 0→0 < rdFd (fracV (-(sgn s (bv b))) (-(sgn q (bv c)))):=fun h=>by
   show 0 < rdI (intV (-(sgn q (bv c))))
   rw [rdI_intV]
   omega
  have q2:¬sgn q (bv c) < 0→mkRat (sgn s (bv b)) (sgn q (bv c)).toNat=Rat.divInt (sgn s (bv b)) (sgn q (bv c)):=fun h=>by
   rw [←Rat.divInt_ofNat,Int.toNat_of_nonneg (by omega)]
  have S1:(numB (-(sgn s (bv b))).natAbs).size≤34359738368:=Nat.le_trans (numB_le (k:=b.size) (by rw [Int.natAbs_neg,sgn_natAbs];exact bv_lt b)) hb
  have S2:(numB (-(sgn q (bv c))).natAbs).size≤34359738368:=Nat.le_trans (numB_le (k:=c.size) (by rw [Int.natAbs_neg,sgn_natAbs];exact bv_lt c)) hc
  with_unfolding_all refine⟨⟨⟨_,_,rfl,hc⟩,_,_,rfl,by decide⟩,fun h=>⟨[some 2],stOf [(4,.ptr 0 0 0 0),(5,.val (.int .i64 10))] [boxR false ⟨#[]⟩ ⟨#[]⟩ 0] 1 [],Wo ⟨qX,qQ⟩ ⟨pP,rfl,qQ⟩ trivial,congrArg PV.val (v0 (z1 h)),rfl⟩,fun h=>⟨fun h'=>⟨⟨_,_,rfl,hb⟩,⟨_,_,rfl,hc⟩,⟨⟨_,_,_,_,rfl,S1,S2⟩,p1 (z3 h')⟩,[some 2],stOf [(4,.ptr 0 0 0 0),(5,.val (.int .i64 0))] [boxR (decide ((Rat.divInt (sgn s (bv b)) (sgn q (bv c))).num < 0)) (numB (Rat.divInt (sgn s (bv b)) (sgn q (bv c))).num.natAbs) (denT (Rat.divInt (sgn s (bv b)) (sgn q (bv c))).den) 0] 1 [],Wo ⟨qZ ⟨⟨cbq (q1 (z3 h')),rfl⟩,⟨csq (q1 (z3 h')),rfl⟩,⟨cdq (q1 (z3 h')),rfl⟩,qQ⟩,qQ⟩ ⟨pP,rfl,qQ⟩ trivial,congrArg PV.val (v1 (z2 h)),rfl⟩,fun h'=>⟨⟨⟨_,_,_,_,rfl,hb,hc⟩,(by have:=z2 h;have:=z4 h';show 0 < sgn q (bv c);omega)⟩,[some 2],stOf [(4,.ptr 0 0 0 0),(5,.val (.int .i64 0))] [boxR (decide ((Rat.divInt (sgn s (bv b)) (sgn q (bv c))).num < 0)) (numB (Rat.divInt (sgn s (bv b)) (sgn q (bv c))).num.natAbs) (denT (Rat.divInt (sgn s (bv b)) (sgn q (bv c))).den) 0] 1 [],Wo ⟨qZ ⟨⟨cbq (q2 (z4 h')),rfl⟩,⟨csq (q2 (z4 h')),rfl⟩,⟨cdq (q2 (z4 h')),rfl⟩,qQ⟩,qQ⟩ ⟨pP,rfl,qQ⟩ trivial,congrArg PV.val (v1 (z2 h)),rfl⟩⟩⟩
 ·cases e
end Go.Proofs
namespace Go.Proofs
open Go Go.Ex Go.Num
set_option maxRecDepth 100000
def c88:List PV→Option Ans
 |[.val (.int .i64 z)]=>some ⟨some (-9223372036854775808≤z∧z < 9223372036854775808),.val (ratV (mkRat z 1)),[]⟩
 |_=>none
theorem ok88:funcOk {} Tryz.f88 1=true:=by kernel_rfl
theorem f88:FnOk Tryz.prog 88 c88:=by
 refine FnOk.ofW orders (mkE_ok (l:=[(73,c73),(110,c110)]) (own:=[]) (inl:=[]) (by simp [f73,f110]) (by simp)) Tryz.func88 {} 1 ok88 fun args r e=>?_
 unfold c88 at e
 split at e
 ·rename_i z
  cases e
  refine⟨by simp,fun hm=>?_⟩
  obtain⟨h1,h2⟩:=hm _ rfl
  refine⟨[],stOf [(0,.val (.int .i64 z))] [] 0 [],Wo trivial ⟨rfl,qQ⟩ trivial,?_⟩
  have S1:(numB z.natAbs).size≤34359738368:=Nat.le_trans (numB_le (k:=8) (by show z.natAbs < 18446744073709551616;omega)) (by decide)
  have S2:(numB (1:Int).natAbs).size≤34359738368:=Nat.le_trans (numB_le (k:=1) (by decide)) (by decide)
  have hp:0 < rdFd (fracV z 1):=by
   show 0 < rdI (intV 1)
   rw [rdI_intV]
   decide
  have hQ:mkRat (rdFn (fracV z 1)) (rdFd (fracV z 1)).toNat=mkRat z 1:=frac_rat z 1
  with_unfolding_all refine⟨⟨h1,h2⟩,⟨by decide,by decide⟩,⟨⟨_,_,_,_,rfl,S1,S2⟩,hp⟩,[some 0],stOf [(2,.ptr 0 0 0 0)] [boxR (decide ((mkRat z 1).num < 0)) (numB (mkRat z 1).num.natAbs) (denT (mkRat z 1).den) 0] 1 [],Wo ⟨qZ ⟨⟨cbq (hQ),rfl⟩,⟨csq (hQ),rfl⟩,⟨cdq (hQ),rfl⟩,qQ⟩,qQ⟩ ⟨pP,qQ⟩ trivial,rfl,rfl⟩
 ·cases e
def c27:List PV→Option Ans
 |[.val (.int .i64 n),.val (.int .i64 d)]=>some ⟨some ((-9223372036854775808≤n∧n < 9223372036854775808) ∧ -9223372036854775808≤d∧d < 9223372036854775808),.val (.tuple ⟨[ratV (Rat.divInt n d),.int .i64 (bif decide (d=0) then 10 else 0)]⟩),[]⟩
 |_=>none
theorem ok27:funcOk {} Tryz.f27 2=true:=by kernel_rfl
theorem f27:FnOk Tryz.prog 27 c27:=by
 refine FnOk.ofW orders (mkE_ok (l:=[(73,c73),(72,c72)]) (own:=[]) (inl:=[]) (by simp [f73,f72]) (by simp)) Tryz.func27 {} 2 ok27 fun args r e=>?_
 unfold c27 at e
 split at e
 ·rename_i n d
  cases e
  refine⟨by simp,fun hm=>?_⟩
  obtain⟨⟨h1,h2⟩,h3,h4⟩:=hm _ rfl
  refine⟨[],stOf [(0,.val (.int .i64 n)),(1,.val (.int .i64 d))] [] 0 [],Wo trivial ⟨rfl,rfl,qQ⟩ trivial,?_⟩
  have I1:isI (intV n):=isI_intV (k:=8) (by show n.natAbs < 18446744073709551616;omega) (by decide)
  have I2:isI (intV d):=isI_intV (k:=8) (by show d.natAbs < 18446744073709551616;omega) (by decide)
  have hQ:Rat.divInt (rdI (intV n)) (rdI (intV d))=Rat.divInt n d:=by rw [rdI_intV,rdI_intV]
  have hE:PV.val (.int .i64 (bif decide (rdI (intV d)=0) then 10 else 0))=PV.val (.int .i64 (bif decide (d=0) then 10 else 0)):=by rw [rdI_intV]
  with_unfolding_all refine⟨⟨h1,h2⟩,⟨h3,h4⟩,⟨I1,I2⟩,[some 0],stOf [(4,.ptr 0 0 0 0),(5,.val (.int .i64 (bif decide (d=0) then 10 else 0)))] [boxR (decide ((Rat.divInt n d).num < 0)) (numB (Rat.divInt n d).num.natAbs) (denT (Rat.divInt n d).den) 0] 1 [],Wo ⟨qZ ⟨⟨cbq (hQ),rfl⟩,⟨csq (hQ),rfl⟩,⟨cdq (hQ),rfl⟩,qQ⟩,qQ⟩ ⟨pP,hE,qQ⟩ trivial,rfl,rfl⟩
 ·cases e
end Go.Proofs
namespace Go.Num
open Go Go.Ex
theorem quo_law (n m:Int) {d e:Nat} (_:d≠0) (_:e≠0):Rat.divInt (n*(e:Int)) ((d:Int)*m)=mkRat n d / mkRat m e:=by
 rw [Rat.div_def,←Rat.divInt_ofNat,←Rat.divInt_ofNat,Rat.inv_divInt,Rat.divInt_mul_divInt]
theorem quo_zero (m:Int) {d e:Nat} (hd:d≠0) (he:e≠0):decide ((d:Int)*m=0)=decide (mkRat m e=0):=by
 rw [decide_eq_decide,Rat.mkRat_eq_zero he,Int.mul_eq_zero]
 omega
end Go.Num
namespace Go.Proofs
open Go Go.Ex Go.Num
set_option maxRecDepth 100000
theorem denB_k {c:ByteArray} {k:Nat} (h:c.size≤k) (hk:1≤k):(denB c).size≤k:=by
 unfold denB
 split
 ·exact Nat.le_trans (numB_le (k:=1) (by decide)) hk
 ·exact h
def c173:List PV→Option Ans
 |[.val v,.val u]=>some ⟨some (isRk 4294967296 v∧isRk 4294967296 u),.val (.tuple ⟨[ratV (rdR v / rdR u),.int .i64 (bif decide (rdR u=0) then 10 else 0)]⟩),[]⟩
 |_=>none
def D173:Opt:={ perm:=atTs [(1,.rds [0,2] (.alt 1 (.alt 3 (.alt 4 (.mk 5 .nil) (.mk 5 (.mk 4 .nil))) (.alt 4 (.alt 3 (.mk 5 .nil) (.mk 5 (.mk 3 .nil))) (.mk 5 (.alt 3 (.mk 4 .nil) (.mk 4 (.mk 3 .nil)))))) (.alt 4 (.alt 1 (.alt 3 (.mk 5 .nil) (.mk 5 (.mk 3 .nil))) (.mk 5 (.mk 1 (.mk 3 .nil)))) (.mk 5 (.alt 1 (.alt 3 (.mk 4 .nil) (.mk 4 (.mk 3 .nil))) (.mk 4 (.mk 1 (.mk 3 .nil)))))))),(2,.ofL [(0,true),(1,true),(2,true),(3,true),(5,true),(6,true),(7,true),(8,true),(4,false),(9,false),(10,false),(11,true),(12,true)])],join:=fun c=>match c with | .region 1 _ _=>true|_=>false }
theorem ok173:funcOk D173.toOrd Tryz.f173 2=true:=by kernel_rfl
theorem f173:FnOk Tryz.prog 173 c173:=by
 refine FnOk.ofW orders (mkE_ok (l:=[(137,c137),(119,c119),(72,c72)]) (own:=[]) (inl:=[]) (by simp [f137,f119,f72]) (by simp)) Tryz.func173 D173 2 ok173 fun args r e=>?_
 unfold c173 at e
 split at e
 ·rename_i v u
  cases e
  refine⟨by simp,fun hm=>?_⟩
  obtain⟨hv,hu⟩:=hm _ rfl
  have f1:=isFk_ofV hv (by decide)
  have f2:=isFk_ofV hu (by decide)
  have r1:=hv.R (by decide)
  have r2:=hu.R (by decide)
  obtain⟨s,b,c,rfl,hb,hc⟩:=hv
  obtain⟨s',b',c',rfl,hb',hc'⟩:=hu
  refine⟨[],stOf [(0,.val (.agg ⟨[.bool s,.string b,.string c]⟩)),(1,.val (.agg ⟨[.bool s',.string b',.string c']⟩))] [] 0 [],Wo trivial ⟨rfl,rfl,qQ⟩ trivial,?_⟩
  with_unfolding_all refine⟨Unit,fun _=>True,fun _=>stOf [(4,.ptr 0 0 0 0),(6,.ptr 1 1 0 0),(7,.ptr 2 2 0 0)] [boxR false ⟨#[]⟩ ⟨#[]⟩ 0,boxF s b false (denB c) 1,boxF s' b' false (denB c') 2] 3 [],⟨⟨r1,⟨⟨r2,⟨⟨(),[some 2,some 3,some 4],trivial,Wo ⟨qX,qZ ⟨rq,rq,rq,rq,qQ⟩,qZ ⟨rq,rq,rq,rq,qQ⟩,qQ⟩ ⟨pP,pP,pP,qQ⟩ trivial⟩,⟨(),[some 2,some 4,some 3],trivial,Wo ⟨qX,qZ ⟨rq,rq,rq,rq,qQ⟩,qZ ⟨rq,rq,rq,rq,qQ⟩,qQ⟩ ⟨pP,pP,pP,qQ⟩ trivial⟩⟩⟩,⟨⟨⟨r2,⟨(),[some 2,some 3,some 4],trivial,Wo ⟨qX,qZ ⟨rq,rq,rq,rq,qQ⟩,qZ ⟨rq,rq,rq,rq,qQ⟩,qQ⟩ ⟨pP,pP,pP,qQ⟩ trivial⟩⟩,⟨r2,⟨(),[some 2,some 3,some 4],trivial,Wo ⟨qX,qZ ⟨rq,rq,rq,rq,qQ⟩,qZ ⟨rq,rq,rq,rq,qQ⟩,qQ⟩ ⟨pP,pP,pP,qQ⟩ trivial⟩⟩⟩,⟨⟨r2,⟨(),[some 2,some 4,some 3],trivial,Wo ⟨qX,qZ ⟨rq,rq,rq,rq,qQ⟩,qZ ⟨rq,rq,rq,rq,qQ⟩,qQ⟩ ⟨pP,pP,pP,qQ⟩ trivial⟩⟩,⟨r2,⟨(),[some 2,some 4,some 3],trivial,Wo ⟨qX,qZ ⟨rq,rq,rq,rq,qQ⟩,qZ ⟨rq,rq,rq,rq,qQ⟩,qQ⟩ ⟨pP,pP,pP,qQ⟩ trivial⟩⟩⟩⟩⟩⟩,⟨⟨⟨r1,⟨⟨r2,⟨(),[some 2,some 3,some 4],trivial,Wo ⟨qX,qZ ⟨rq,rq,rq,rq,qQ⟩,qZ ⟨rq,rq,rq,rq,qQ⟩,qQ⟩ ⟨pP,pP,pP,qQ⟩ trivial⟩⟩,⟨r2,⟨(),[some 2,some 3,some 4],trivial,Wo ⟨qX,qZ ⟨rq,rq,rq,rq,qQ⟩,qZ ⟨rq,rq,rq,rq,qQ⟩,qQ⟩ ⟨pP,pP,pP,qQ⟩ trivial⟩⟩⟩⟩,⟨r1,⟨r2,⟨(),[some 2,some 3,some 4],trivial,Wo ⟨qX,qZ ⟨rq,rq,rq,rq,qQ⟩,qZ ⟨rq,rq,rq,rq,qQ⟩,qQ⟩ ⟨pP,pP,pP,qQ⟩ trivial⟩⟩⟩⟩,⟨⟨r1,⟨⟨r2,⟨(),[some 2,some 4,some 3],trivial,Wo ⟨qX,qZ ⟨rq,rq,rq,rq,qQ⟩,qZ ⟨rq,rq,rq,rq,qQ⟩,qQ⟩ ⟨pP,pP,pP,qQ⟩ trivial⟩⟩,⟨r2,⟨(),[some 2,some 4,some 3],trivial,Wo ⟨qX,qZ ⟨rq,rq,rq,rq,qQ⟩,qZ ⟨rq,rq,rq,rq,qQ⟩,qQ⟩ ⟨pP,pP,pP,qQ⟩ trivial⟩⟩⟩⟩,⟨r1,⟨r2,⟨(),[some 2,some 4,some 3],trivial,Wo ⟨qX,qZ ⟨rq,rq,rq,rq,qQ⟩,qZ ⟨rq,rq,rq,rq,qQ⟩,qQ⟩ ⟨pP,pP,pP,qQ⟩ trivial⟩⟩⟩⟩⟩⟩,fun _ _=>?_⟩
  have d1:=denB_k hc (by decide)
  have d2:=denB_k hc' (by decide)
  have J1:isI (intV (sgn s (bv b)*sgn false (bv (denB c')))):=isI_intV (mulI s false b (denB c')) (by omega)
  have J2:isI (intV (sgn false (bv (denB c))*sgn s' (bv b'))):=isI_intV (mulI false s' (denB c) b') (by omega)
  have hQ:Rat.divInt (rdI (intV (sgn s (bv b)*sgn false (bv (denB c'))))) (rdI (intV (sgn false (bv (denB c))*sgn s' (bv b'))))=rdR (.agg ⟨[.bool s,.string b,.string c]⟩) / rdR (.agg ⟨[.bool s',.string b',.string c']⟩):=by
   rw [rdI_intV,rdI_intV,bv_denB,bv_denB]
   exact quo_law (sgn s (bv b)) (sgn s' (bv b')) (Nat.ne_of_gt (den1_pos (bv c))) (Nat.ne_of_gt (den1_pos (bv c')))
  have hE:PV.val (.int .i64 (bif decide (rdI (intV (sgn false (bv (denB c))*sgn s' (bv b')))=0) then 10 else 0))=PV.val (.int .i64 (bif decide (rdR (.agg ⟨[.bool s',.string b',.string c']⟩)=0) then 10 else 0)):=by
   rw [rdI_intV,bv_denB,show decide (sgn false (den1 (bv c))*sgn s' (bv b')=0)=_ from quo_zero (sgn s' (bv b')) (Nat.ne_of_gt (den1_pos (bv c))) (Nat.ne_of_gt (den1_pos (bv c')))]
   rfl
  with_unfolding_all refine⟨⟨⟨_,_,rfl,by omega⟩,_,_,rfl,by omega⟩,⟨⟨_,_,rfl,by omega⟩,_,_,rfl,by omega⟩,⟨J1,J2⟩,[some 0],stOf [(4,.ptr 0 0 0 0),(5,.val (.int .i64 (bif decide (rdR (.agg ⟨[.bool s',.string b',.string c']⟩)=0) then 10 else 0)))] [boxR (decide ((rdR (.agg ⟨[.bool s,.string b,.string c]⟩) / rdR (.agg ⟨[.bool s',.string b',.string c']⟩)).num < 0)) (numB (rdR (.agg ⟨[.bool s,.string b,.string c]⟩) / rdR (.agg ⟨[.bool s',.string b',.string c']⟩)).num.natAbs) (denT (rdR (.agg ⟨[.bool s,.string b,.string c]⟩) / rdR (.agg ⟨[.bool s',.string b',.string c']⟩)).den) 0] 1 [],Wo ⟨qZ ⟨⟨cbq hQ,rfl⟩,⟨csq hQ,rfl⟩,⟨cdq hQ,rfl⟩,qQ⟩,qQ⟩ ⟨pP,hE,qQ⟩ trivial,rfl,rfl⟩
 ·cases e
end Go.Proofs
namespace Go.Proofs
open Go Go.Ex Go.Num
set_option maxRecDepth 100000
def c248:List PV→Option Ans
 |[.val (.string b)]=>some ⟨none,.val (.string (numB (bv b))),[]⟩
 |_=>none
theorem ok248:funcOk {} Tryz.f248 1=true:=by kernel_rfl
theorem f248:FnOk Tryz.prog 248 c248:=by
 refine FnOk.of orders (mkE_ok (l:=[]) (own:=[]) (inl:=[]) (by simp) (by simp)) Tryz.func248 {} 1 ok248 fun args r e=>?_
 unfold c248 at e
 split at e
 ·rename_i b
  cases e
  refine⟨by simp,fun _=>?_⟩
  with_unfolding_all refine⟨ByteArray,fun x=>bv x=bv b,fun x=>stOf [(0,.val (.string x))] [] 0 [],fun x=>x.size,⟨b,[],rfl,Wo trivial ⟨rfl,qQ⟩ trivial⟩,fun x (hx:bv x=bv b)=>?_⟩
  have hl:=ba_size x
  with_unfolding_all refine⟨fun h1=>⟨?_,?_⟩,fun h1=>?_⟩
  ·have h1:0 < x.size:=by have:=of_decide_eq_true h1;omega
   omega
  ·have h1:0 < x.size:=by have:=of_decide_eq_true h1;omega
   cases hd:x.data.toList with
   |nil=>rw [hd,List.length_nil] at hl;omega
   |cons y r =>
    rw [hd,List.length_cons] at hl
    with_unfolding_all refine⟨fun h2=>⟨?_,?_⟩,fun h2=>?_⟩
    ·omega
    ·with_unfolding_all refine⟨_,[],?_,?_,Wo trivial ⟨rfl,qQ⟩ trivial⟩
     ·have hy:y=0:=by rw [hd] at h2;simp at h2;exact UInt8.toNat_inj.1 (by simpa using h2)
      show bv _=bv b
      rw [←hx,bv,ba_extract,bv,hd,hl,hy]
      simp [bvL_cons]
     ·show ByteArray.size _ < x.size
      rw [ba_size,ba_extract,hd]
      simp
      omega
    ·with_unfolding_all refine⟨?_,rfl⟩
     rw [←hx,canon]
     rw [hd] at h2 ⊢
     simp only [lead,bne_iff_ne,ne_eq]
     rintro rfl
     simp at h2
  ·have h1:x.size=0:=by
    have h:decide ((x.size:Int) > 0)=false:=by
     cases hd:decide ((x.size:Int) > 0) with
     |false=>rfl
     |true=>exact absurd (h1.symm.trans hd) (by decide)
    have:=of_decide_eq_false h
    omega
   have h2:x.data.toList=[]:=List.eq_nil_of_length_eq_zero (by omega)
   with_unfolding_all refine⟨nofun,fun _=>⟨?_,rfl⟩⟩
   rw [←hx,canon]
   rw [h2]
   rfl
 ·cases e
end Go.Proofs
namespace Go.Proofs
open Go Go.Ex Go.Num
set_option maxRecDepth 100000
def c230:List PV→Option Ans
 |[.val v]=>some ⟨some (isI v),.val (intV (rdI v)),[]⟩
 |_=>none
theorem ok230:funcOk {} Tryz.f230 1=true:=by kernel_rfl
theorem f230:FnOk Tryz.prog 230 c230:=by
 refine FnOk.ofW orders (mkE_ok (l:=[(248,c248)]) (own:=[]) (inl:=[]) (by simp [f248]) (by simp)) Tryz.func230 {} 1 ok230 fun args r e=>?_
 unfold c230 at e
 split at e
 ·rename_i v
  cases e
  refine⟨by simp,fun hm=>?_⟩
  obtain⟨s,b,rfl,hb⟩:=hm _ rfl
  refine⟨[],stOf [(0,.val (.agg ⟨[.bool s,.string b]⟩))] [] 0 [],Wo trivial ⟨rfl,qQ⟩ trivial,?_⟩
  have sd:PV.val (.string (numB (bv b)))=PV.val (.string (numB (sgn s (bv b)).natAbs)):=by rw [sgn_natAbs]
  have cB:s=true→PV.val (.bool (!((numB (bv b)).toList==(⟨#[]⟩:ByteArray).toList)))=PV.val (.bool (decide (sgn s (bv b) < 0))):=fun h=>by
   rw [numB_nil,sgn_neg,h,Bool.true_and]
  have cC:s = !true→PV.val (.bool false)=PV.val (.bool (decide (sgn s (bv b) < 0))):=fun h=>by
   rw [sgn_neg,h]
   rfl
  have lb:decide ((b.size:Int) > 0)=true→(((b.data.toList[Int.toNat 0]?.getD 0).toNat:Int) != 0)=true→bv b≠0∧numB (bv b)=b:=fun h h'=>by
   have h:0 < b.size:=by have:=of_decide_eq_true h;omega
   have hl:=ba_size b
   cases hd:b.data.toList with
   |nil=>rw [hd,List.length_nil] at hl;omega
   |cons y r =>
    have hy:y≠0:=by
     rintro rfl
     rw [hd] at h'
     exact absurd h' Bool.false_ne_true
    have hld:lead b.data.toList=true:=by
     rw [hd]
     simpa [lead] using hy
    refine⟨?_,canon hld⟩
    rw [hd] at hld
    have:=lead_ge hld
    have e:bv b=bvL (y::r):=by rw [bv,hd]
    have:0 < 256^r.length:=Nat.pow_pos (by decide)
    omega
  have aB:bv b≠0→PV.val (.bool s)=PV.val (.bool (decide (sgn s (bv b) < 0))):=fun h=>by
   rw [sgn_neg,decide_eq_true h,Bool.and_true]
  have aS:numB (bv b)=b→PV.val (.string b)=PV.val (.string (numB (sgn s (bv b)).natAbs)):=fun h=>by
   rw [sgn_natAbs,h]
  with_unfolding_all refine⟨fun h=>⟨⟨by omega,by have:=of_decide_eq_true h;omega⟩,fun h'=>⟨[some 1],stOf [(2,.ptr 0 0 0 0)] [boxI (sgn s (bv b)) 0] 1 [],Wo ⟨qZ ⟨⟨aB (lb h h').1,rfl⟩,⟨aS (lb h h').2,rfl⟩,qQ⟩,qQ⟩ ⟨pP,qQ⟩ trivial,rfl,rfl⟩,fun _=>⟨fun h=>⟨[some 1],stOf [(2,.ptr 0 0 0 0)] [boxI (sgn s (bv b)) 0] 1 [],Wo ⟨qZ ⟨⟨cB h,rfl⟩,⟨sd,rfl⟩,qQ⟩,qQ⟩ ⟨pP,qQ⟩ trivial,rfl,rfl⟩,fun h=>⟨[some 1],stOf [(2,.ptr 0 0 0 0)] [boxI (sgn s (bv b)) 0] 1 [],Wo ⟨qZ ⟨⟨cC h,rfl⟩,⟨sd,rfl⟩,qQ⟩,qQ⟩ ⟨pP,qQ⟩ trivial,rfl,rfl⟩⟩⟩,fun _=>⟨fun h=>(nomatch h),fun _=>⟨fun h=>⟨[some 1],stOf [(2,.ptr 0 0 0 0)] [boxI (sgn s (bv b)) 0] 1 [],Wo ⟨qZ ⟨⟨cB h,rfl⟩,⟨sd,rfl⟩,qQ⟩,qQ⟩ ⟨pP,qQ⟩ trivial,rfl,rfl⟩,fun h=>⟨[some 1],stOf [(2,.ptr 0 0 0 0)] [boxI (sgn s (bv b)) 0] 1 [],Wo ⟨qZ ⟨⟨cC h,rfl⟩,⟨sd,rfl⟩,qQ⟩,qQ⟩ ⟨pP,qQ⟩ trivial,rfl,rfl⟩⟩⟩⟩
 ·cases e
end Go.Proofs
namespace Go.Proofs
open Go Go.Ex Go.Num
set_option maxRecDepth 100000
def c250:List PV→Option Ans
 |[.val (.string b)]=>some ⟨some (b.size≤7),.val (.int .i64 (bv b:Nat)),[]⟩
 |_=>none
theorem ok250:funcOk {} Tryz.f250 1=true:=by kernel_rfl
theorem f250:FnOk Tryz.prog 250 c250:=by
 refine FnOk.ofW orders (mkE_ok (l:=[]) (own:=[]) (inl:=[]) (by simp) (by simp)) Tryz.func250 {} 1 ok250 fun args r e=>?_
 unfold c250 at e
 split at e
 ·rename_i b
  cases e
  refine⟨by simp,fun hm=>?_⟩
  have h:b.size≤7:=hm _ rfl
  refine⟨[],stOf [(0,.val (.string b))] [] 0 [],Wo trivial ⟨rfl,qQ⟩ trivial,?_⟩
  with_unfolding_all refine⟨Nat,fun i=>i≤b.size,fun i=>stOf [(0,.val (.string b)),(3,.val (.int .i64 (bvL (b.data.toList.take i):Nat))),(4,.val (goInt i))] [] 0 [],fun i=>b.size - i,⟨0,[],Nat.zero_le _,Wo trivial ⟨rfl,rfl,rfl,qQ⟩ trivial⟩,fun i hi=>?_⟩
  replace hi:i≤b.size:=hi
  have hlt:=bvL_take_lt b i h
  with_unfolding_all refine⟨fun h1=>?_,fun h1=>?_⟩
  ·have h1:i < b.size:=by have:=ltT h1;omega
   have hx:(b.data.toList[i]?.getD 0).toNat < 256:=UInt8.toNat_lt _
   with_unfolding_all refine⟨by decide,⟨by omega,by omega⟩,i+1,[],h1,by show b.size - (i+1) < b.size - i;omega,Wo trivial ⟨rfl,?_,?_,qQ⟩ trivial⟩
   ·refine congrArg (fun x=>PV.val (.int .i64 x)) (?_:IntKind.i64.wrap ((BitVec.ofInt IntKind.i64.bits (IntKind.i64.wrap (((bvL (b.data.toList.take i):Nat):Int)*2^min (Int.toNat 8) IntKind.i64.bits)) ||| BitVec.ofInt IntKind.i64.bits (IntKind.i64.wrap (((b.data.toList[i]?.getD 0).toNat:Nat):Int))).toNat:Int)=((bvL (b.data.toList.take (i+1)):Nat):Int))
    rw [or_byte hx (by have:=bvL_take_lt b (i+1) h;rw [bvL_take b h1] at this;omega),bvL_take b h1]
   ·refine congrArg (fun x=>PV.val (.int .i64 x)) (?_:IntKind.i64.wrap ((i:Int)+1)=((i+1:Nat):Int))
    rw [wrap64 (by omega) (by omega)]
    rfl
  ·have h1:i=b.size:=by have:=ltF h1;omega
   have he:b.data.toList.take i=b.data.toList:=by rw [h1,List.take_of_length_le (by rw [←ba_size];omega)]
   rw [he] at hlt ⊢
   with_unfolding_all exact⟨[],stOf [(2,.val (.int .i64 (bv b:Nat)))] [] 0 [],Wo trivial ⟨rfl,qQ⟩ trivial,rfl,rfl⟩
 ·cases e
theorem less_eq:∀{l m:List UInt8},l.length=m.length→Op.bytesLess l m=decide (bvL l < bvL m)
 |[],[],_=>by simp [Op.bytesLess,bvL]
 |x::l,y::m,h=>by
  have h:l.length=m.length:=by simpa using h
  have h1:=bvL_lt l
  have h2:=bvL_lt m
  rw [h] at h1
  have hxy:(x=y)↔x.toNat=y.toNat:=UInt8.toNat_inj.symm
  have hlt:(x < y)↔x.toNat < y.toNat:=UInt8.lt_iff_toNat_lt
  rw [Op.bytesLess,less_eq h,bvL_cons,bvL_cons,h]
  rcases Nat.lt_trichotomy x.toNat y.toNat with h3|h3|h3
  ·have:(x.toNat+1)*256^m.length≤y.toNat*256^m.length:=Nat.mul_le_mul_right _ h3
   rw [Nat.add_mul,Nat.one_mul] at this
   rw [decide_eq_true (hlt.2 h3),decide_eq_true (show x.toNat*256^m.length+bvL l < y.toNat*256^m.length+bvL m by omega)]
   rfl
  ·have e:x=y:=hxy.2 h3
   subst e
   rw [decide_eq_false (fun h=>absurd (hlt.1 h) (by omega)),beq_self_eq_true,Bool.false_or,Bool.true_and,decide_eq_decide]
   omega
  ·have:(y.toNat+1)*256^m.length≤x.toNat*256^m.length:=Nat.mul_le_mul_right _ h3
   rw [Nat.add_mul,Nat.one_mul] at this
   have e:(x==y)=false:=beq_eq_false_iff_ne.2 fun e=>by rw [e] at h3;omega
   rw [decide_eq_false (fun h=>absurd (hlt.1 h) (by omega)),e,Bool.false_and,Bool.false_or,decide_eq_false (by omega)]
 |[],_::_,h=>by simp at h
 |_::_,[],h=>by simp at h
theorem lead_len {l m:List UInt8} (hm:lead m=true) (h:l.length < m.length):bvL l < bvL m:=by
 cases m with
 |nil=>simp at h
 |cons x m =>
  have h1:=lead_ge hm
  have h2:=bvL_lt l
  have h3:=Nat.pow_le_pow_right (show 0 < 256 by decide) (show l.length≤m.length by simp at h;omega)
  omega
def c231:List PV→Option Ans
 |[.val (.string b),.val (.string c)]=>some ⟨some (lead b.data.toList=true∧lead c.data.toList=true),.val (goInt (cmpN (bv b) (bv c))),[]⟩
 |_=>none
theorem ok231:funcOk {} Tryz.f231 2=true:=by kernel_rfl
theorem f231:FnOk Tryz.prog 231 c231:=by
 refine FnOk.ofW orders (mkE_ok (l:=[]) (own:=[]) (inl:=[]) (by simp) (by simp)) Tryz.func231 {} 2 ok231 fun args r e=>?_
 unfold c231 at e
 split at e
 ·rename_i b c
  cases e
  refine⟨by simp,fun hm=>?_⟩
  obtain⟨hb,hc⟩:=hm _ rfl
  refine⟨[],stOf [(0,.val (.string b)),(1,.val (.string c))] [] 0 [],Wo trivial ⟨rfl,rfl,qQ⟩ trivial,?_⟩
  have sb:=ba_size b
  have sc:=ba_size c
  have a1:(((b.size:Nat):Int) != (c.size:Nat))=true→decide (((b.size:Nat):Int) < (c.size:Nat))=true→PV.val (goInt (-1))=PV.val (goInt (cmpN (bv b) (bv c))):=fun _ h=>by
   have h:=of_decide_eq_true h
   have:bv b < bv c:=lead_len hc (by omega)
   rw [cmpN,if_pos this]
  have a2:(((b.size:Nat):Int) != (c.size:Nat))=true→decide (((b.size:Nat):Int) < (c.size:Nat))=false→PV.val (goInt 1)=PV.val (goInt (cmpN (bv b) (bv c))):=fun h0 h=>by
   have h:=of_decide_eq_false h
   have h0:((b.size:Nat):Int)≠(c.size:Nat):=by simpa using h0
   have:bv c < bv b:=lead_len hb (by omega)
   rw [cmpN,if_neg (by omega),if_pos this]
  have eL:(((b.size:Nat):Int) != (c.size:Nat))=false→Op.bytesLess b.toList c.toList=decide (bv b < bv c):=fun h0=>by
   have h0:((b.size:Nat):Int)=(c.size:Nat):=by simpa using h0
   rw [ba_toList,ba_toList]
   exact less_eq (by omega)
  have a3:(((b.size:Nat):Int) != (c.size:Nat))=false→Op.bytesLess b.toList c.toList=true→PV.val (goInt (-1))=PV.val (goInt (cmpN (bv b) (bv c))):=fun h0 h=>by
   rw [eL h0] at h
   rw [cmpN,if_pos (of_decide_eq_true h)]
  have a4:(((b.size:Nat):Int) != (c.size:Nat))=false→Op.bytesLess b.toList c.toList=false→(!(Op.bytesLess b.toList c.toList||b.toList==c.toList))=true→PV.val (goInt 1)=PV.val (goInt (cmpN (bv b) (bv c))):=fun h0 h h'=>by
   rw [h,Bool.false_or] at h'
   rw [eL h0] at h
   have h:=of_decide_eq_false h
   have h0:((b.size:Nat):Int)=(c.size:Nat):=by simpa using h0
   have hne:b.toList≠c.toList:=by simpa using h'
   have:bv b≠bv c:=fun e=>hne (by rw [ba_toList,ba_toList];exact bvL_inj (by omega) e)
   rw [cmpN,if_neg h,if_pos (by omega)]
  have a5:(((b.size:Nat):Int) != (c.size:Nat))=false→Op.bytesLess b.toList c.toList=false→(!(Op.bytesLess b.toList c.toList||b.toList==c.toList))=false→PV.val (goInt 0)=PV.val (goInt (cmpN (bv b) (bv c))):=fun h0 h h'=>by
   rw [h,Bool.false_or] at h'
   have he:b.toList=c.toList:=by simpa using h'
   rw [ba_toList,ba_toList] at he
   have:bv b=bv c:=congrArg bvL he
   rw [cmpN,this,if_neg (by omega),if_neg (by omega)]
  with_unfolding_all refine⟨fun h=>⟨fun h'=>⟨[],stOf [(4,.val (goInt (cmpN (bv b) (bv c))))] [] 0 [],Wo trivial ⟨a1 h h',qQ⟩ trivial,rfl,rfl⟩,fun h'=>⟨[],stOf [(4,.val (goInt (cmpN (bv b) (bv c))))] [] 0 [],Wo trivial ⟨a2 h h',qQ⟩ trivial,rfl,rfl⟩⟩,fun h=>⟨fun h'=>⟨[],stOf [(4,.val (goInt (cmpN (bv b) (bv c))))] [] 0 [],Wo trivial ⟨a3 h h',qQ⟩ trivial,rfl,rfl⟩,fun h'=>⟨fun h2=>⟨[],stOf [(4,.val (goInt (cmpN (bv b) (bv c))))] [] 0 [],Wo trivial ⟨a4 h h' h2,qQ⟩ trivial,rfl,rfl⟩,fun h2=>⟨[],stOf [(4,.val (goInt (cmpN (bv b) (bv c))))] [] 0 [],Wo trivial ⟨a5 h h' h2,qQ⟩ trivial,rfl,rfl⟩⟩⟩⟩
 ·cases e
end Go.Proofs
namespace Go.Proofs
open Go Go.Ex Go.Num
set_option maxRecDepth 100000
theorem bv_lt7 {b:ByteArray} (h:b.size≤7):bv b < 72057594037927936:=by
 have h1:=bv_lt b
 have h2:256^b.size≤256^7:=Nat.pow_le_pow_right (by decide) h
 omega
def isI7 (v:Value):Prop:=∃s b,v=.agg ⟨[.bool s,.string b]⟩∧b.size≤7
def c232:List PV→Option Ans
 |[.val v]=>some ⟨some (isI7 v),.val (.int .i64 (rdI v)),[]⟩
 |_=>none
theorem ok232:funcOk {} Tryz.f232 1=true:=by kernel_rfl
theorem f232:FnOk Tryz.prog 232 c232:=by
 refine FnOk.ofW orders (mkE_ok (l:=[(250,c250)]) (own:=[]) (inl:=[]) (by simp [f250]) (by simp)) Tryz.func232 {} 1 ok232 fun args r e=>?_
 unfold c232 at e
 split at e
 ·rename_i v
  cases e
  refine⟨by simp,fun hm=>?_⟩
  obtain⟨s,b,rfl,hb⟩:=hm _ rfl
  have hlt:=bv_lt7 hb
  refine⟨[],stOf [(0,.val (.agg ⟨[.bool s,.string b]⟩))] [] 0 [],Wo trivial ⟨rfl,qQ⟩ trivial,?_⟩
  have t1:s=true→PV.val (.int .i64 (IntKind.i64.wrap (0 - ((bv b:Nat):Int))))=PV.val (.int .i64 (sgn s (bv b))):=fun h=>by
   rw [wrap64 (by omega) (by omega),h]
   show PV.val (.int .i64 (0 - ((bv b:Nat):Int)))=PV.val (.int .i64 (-((bv b:Nat):Int)))
   rw [Int.zero_sub]
  have t2:s=false→PV.val (.int .i64 ((bv b:Nat):Int))=PV.val (.int .i64 (sgn s (bv b))):=fun h=>by
   rw [h]
   rfl
  with_unfolding_all refine⟨fun h=>⟨hb,[],stOf [(2,.val (.int .i64 (sgn s (bv b))))] [] 0 [],Wo trivial ⟨t1 h,qQ⟩ trivial,rfl,rfl⟩,fun h=>⟨hb,[],stOf [(2,.val (.int .i64 (sgn s (bv b))))] [] 0 [],Wo trivial ⟨t2 h,qQ⟩ trivial,rfl,rfl⟩⟩
 ·cases e
def c227:List PV→Option Ans
 |[.val v]=>some ⟨some (isI v),.val (intV (-rdI v)),[]⟩
 |_=>none
theorem ok227:funcOk {} Tryz.f227 1=true:=by kernel_rfl
theorem f227:FnOk Tryz.prog 227 c227:=by
 refine FnOk.ofW orders (mkE_ok (l:=[(230,c230)]) (own:=[]) (inl:=[]) (by simp [f230]) (by simp)) Tryz.func227 {} 1 ok227 fun args r e=>?_
 unfold c227 at e
 split at e
 ·rename_i v
  cases e
  refine⟨by simp,fun hm=>?_⟩
  obtain⟨s,b,rfl,hb⟩:=hm _ rfl
  refine⟨[],stOf [(0,.val (.agg ⟨[.bool s,.string b]⟩))] [] 0 [],Wo trivial ⟨rfl,qQ⟩ trivial,?_⟩
  have sd:PV.val (.string (numB (sgn s (bv b)).natAbs))=PV.val (.string (numB (-(sgn s (bv b))).natAbs)):=by rw [Int.natAbs_neg]
  have t1:(!decide ((sgn s (bv b)) < 0))=true→PV.val (.bool (!((numB (sgn s (bv b)).natAbs).toList==(⟨#[]⟩:ByteArray).toList)))=PV.val (.bool (decide (-(sgn s (bv b)) < 0))):=fun h=>by
   have h:¬(sgn s (bv b)) < 0:=by simpa using h
   rw [numB_nil,show decide ((sgn s (bv b)).natAbs≠0)=decide (-(sgn s (bv b)) < 0) by rw [decide_eq_decide];omega]
  have t2:(!decide ((sgn s (bv b)) < 0))=false→PV.val (.bool false)=PV.val (.bool (decide (-(sgn s (bv b)) < 0))):=fun h=>by
   have h:(sgn s (bv b)) < 0:=by simpa using h
   rw [decide_eq_false (by omega)]
  with_unfolding_all refine⟨⟨_,_,rfl,hb⟩,fun h=>⟨[some 1],stOf [(2,.ptr 0 0 0 0)] [boxI (-(sgn s (bv b))) 0] 1 [],Wo ⟨qZ ⟨⟨t1 h,rfl⟩,⟨sd,rfl⟩,qQ⟩,qQ⟩ ⟨pP,qQ⟩ trivial,rfl,rfl⟩,fun h=>⟨[some 1],stOf [(2,.ptr 0 0 0 0)] [boxI (-(sgn s (bv b))) 0] 1 [],Wo ⟨qZ ⟨⟨t2 h,rfl⟩,⟨sd,rfl⟩,qQ⟩,qQ⟩ ⟨pP,qQ⟩ trivial,rfl,rfl⟩⟩
 ·cases e
end Go.Proofs
namespace Go.Proofs
open Go Go.Ex Go.Num
set_option maxRecDepth 100000
def c247:List PV→Option Ans
 |[.val (.int .i64 z)]=>some ⟨some (0≤z∧z < 4611686018427387904),.val (.string (numB z.toNat)),[]⟩
 |_=>none
theorem ok247:funcOk {} Tryz.f247 1=true:=by kernel_rfl
theorem one_byte {N:Nat} (h0:N≠0) (h:N < 256) {g:Nat→List PV} (hg:g 0=[.val (.int .u8 (IntKind.u8.wrap (N:Int)))]):strOf 1 g=numB N:=by
 rw [←text_fin (N:=N) (k:=1) (by simpa using h) (fun _=>by simp;omega)]
 unfold strOf
 congr 2
 apply List.map_congr_left
 intro i hi
 have:i=0:=by have:=List.mem_range.1 hi;omega
 subst this
 rw [hg]
 simp [bytG,wrapU8]
theorem f247:FnOk Tryz.prog 247 c247:=by
 refine FnOk.ofW orders (mkE_ok (l:=[]) (own:=[]) (inl:=[]) (by simp) (by simp)) Tryz.func247 {} 1 ok247 fun args r e=>?_
 unfold c247 at e
 split at e
 ·rename_i z
  cases e
  refine⟨by simp,fun hm=>?_⟩
  obtain⟨hz,hz2⟩:=hm _ rfl
  obtain⟨N,rfl⟩:∃N:Nat,z=(N:Int):=⟨z.toNat,by omega⟩
  rw [Int.toNat_natCast]
  refine⟨[],stOf [(0,.val (.int .i64 (N:Nat)))] [] 0 [],Wo trivial ⟨rfl,qQ⟩ trivial,?_⟩
  with_unfolding_all refine⟨fun h=>?_,fun h=>?_⟩
  ·have hN:N < 256:=by have:=of_decide_eq_true h;omega
   have e0:(((N:Nat):Int)==0)=true→PV.val (.string ⟨#[]⟩)=PV.val (.string (numB N)):=fun h=>by
    have h:N=0:=by simpa using h
    rw [h,numB_zero]
   have e1:(((N:Nat):Int)==0)=false→N≠0:=fun h=>by simpa using h
   with_unfolding_all refine⟨fun h=>⟨[],stOf [(2,.val (.string (numB N)))] [] 0 [],Wo trivial ⟨e0 h,qQ⟩ trivial,rfl,rfl⟩,fun h=>⟨fun i hi=>?_,[],stOf [(2,.val (.string (numB N)))] [] 0 [],Wo trivial ⟨?_,qQ⟩ trivial,rfl,rfl⟩⟩
   ·cases i with
    |zero=>exact⟨_,rfl⟩
    |succ i=>exact absurd hi (by show ¬i+1 < 1;omega)
   ·exact congrArg (fun x=>PV.val (.string x)) (one_byte (e1 h) hN rfl)
  ·with_unfolding_all refine⟨Nat,fun k=>k≤8∧(0 < k→256^(k - 1)≤N),fun k=>stOf [(0,.val (.int .i64 ((N / 256^k:Nat):Int))),(3,.ptr 0 0 0 0),(4,.val (.int .i64 ((8 - k:Nat):Int)))] [⟨236,1,0,false,true,8,fun j=>if j < 8 - k then [.val (.int .u8 0)] else bytG N k (j - (8 - k))⟩] 1 [],fun k=>8 - k,?_,fun k hk=>?_⟩
   ·with_unfolding_all refine⟨0,[some 0],⟨by omega,fun h=>absurd h (by omega)⟩,Wo ⟨qZ (fun i hi=>?_),qQ⟩ ⟨?_,pP,rfl,qQ⟩ trivial⟩
    ·have hi:i < 8:=hi
     rcases i with _|_|_|_|_|_|_|_|i
     all_goals first
      |rfl
      |exact absurd hi (by omega)
    ·show PV.val (.int .i64 (N:Int))=PV.val (.int .i64 ((N / 256^0:Nat):Int))
     rw [Nat.pow_zero,Nat.div_one]
   ·obtain⟨hk,hk2⟩:=hk
    have hN:N < 256^8:=by show N < 18446744073709551616;omega
    with_unfolding_all refine⟨fun h=>?_,fun h=>?_⟩
    ·have h:0 < N / 256^k:=by
      have h:((N / 256^k:Nat):Int) > 0:=of_decide_eq_true h
      generalize N / 256^k=X at h ⊢
      omega
     have hkN:256^k≤N:=by
      rcases Nat.lt_or_ge N (256^k) with h' | h'
      ·rw [Nat.div_eq_of_lt h'] at h;omega
      ·exact h'
     have hk7:k < 8:=by
      rcases Nat.lt_or_ge k 8 with h' | h'
      ·exact h'
      ·have:=Nat.pow_le_pow_right (show 0 < 256 by decide) h'
       omega
     have hw:IntKind.i64.wrap (((8 - k:Nat):Int) - 1)=((7 - k:Nat):Int):=by
      rw [wrap64 (by omega) (by omega)]
      omega
     with_unfolding_all refine⟨⟨by rw [hw];omega,by rw [hw];omega⟩,by decide,?_⟩
     rw [hw]
     with_unfolding_all refine⟨k+1,[some 0],⟨by omega,fun _=>hkN⟩,by show 8 - (k+1) < 8 - k;omega,Wo ⟨qZ (fun i hi=>?_),qQ⟩ ⟨?_,pP,?_,qQ⟩ trivial⟩
     ·have hi:i < 8:=hi
      show(if i < 8 - (k+1) then [PV.val (.int .u8 0)] else bytG N (k+1) (i - (8 - (k+1))))=if i=((7 - k:Nat):Int).toNat then [PV.val (.int .u8 (IntKind.u8.wrap ((N / 256^k:Nat):Int)))] else if i < 8 - k then [PV.val (.int .u8 0)] else bytG N k (i - (8 - k))
      rw [Int.toNat_natCast]
      rcases Nat.lt_trichotomy i (7 - k) with h1|h1|h1
      ·rw [if_pos (by omega),if_neg (by omega),if_pos (by omega)]
      ·rw [if_neg (by omega),if_pos h1,wrapU8]
       simp only [bytG]
       rw [show k+1 - 1 - (i - (8 - (k+1)))=k by omega]
       rfl
      ·rw [if_neg (by omega),if_neg (by omega),if_neg (by omega)]
       simp only [bytG]
       rw [show k+1 - 1 - (i - (8 - (k+1)))=k - 1 - (i - (8 - k)) by omega]
     ·show PV.val (.int .i64 (((N / 256^k:Nat):Int) / 2^8))=PV.val (.int .i64 ((N / 256^(k+1):Nat):Int))
      rw [Nat.pow_succ,←Nat.div_div_eq_div_mul]
      rfl
     ·show PV.val (.int .i64 ((7 - k:Nat):Int))=PV.val (.int .i64 ((8 - (k+1):Nat):Int))
      rw [show 8 - (k+1)=7 - k by omega]
    ·have h:N / 256^k=0:=by
      have h:¬((N / 256^k:Nat):Int) > 0:=of_decide_eq_false h
      generalize N / 256^k=X at h ⊢
      omega
     have hNk:N < 256^k:=by
      rcases Nat.lt_or_ge N (256^k) with h' | h'
      ·exact h'
      ·have:=Nat.div_pos h' (Nat.pow_pos (by decide))
       omega
     have h8:((8 - k:Nat):Int).toNat=8 - k:=Int.toNat_natCast _
     have hn:((8:Nat) - ((8 - k:Nat):Int)).toNat=k:=by omega
     have hfin:=text_fin (N:=N) (k:=k) hNk hk2
     with_unfolding_all refine⟨⟨by omega,by omega,by omega⟩,fun i hi=>?_,[],stOf [(2,.val (.string (numB N)))] [] 0 [],Wo trivial ⟨?_,qQ⟩ trivial,rfl,rfl⟩
     ·show ∃q:Int,(if ((8 - k:Nat):Int).toNat+i < 8 - k then [PV.val (.int .u8 0)] else bytG N k (((8 - k:Nat):Int).toNat+i - (8 - k)))=[PV.val (.int .u8 q)]
      split
      ·exact⟨_,rfl⟩
      ·exact⟨_,rfl⟩
     ·show PV.val (.string (strOf ((8:Nat) - ((8 - k:Nat):Int)).toNat (fun i=>if ((8 - k:Nat):Int).toNat+i < 8 - k then [PV.val (.int .u8 0)] else bytG N k (((8 - k:Nat):Int).toNat+i - (8 - k)))))=_
      rw [hn,h8]
      have e:(fun i=>if 8 - k+i < 8 - k then [PV.val (.int .u8 0)] else bytG N k (8 - k+i - (8 - k)))=bytG N k:=by
       funext i
       rw [if_neg (by omega),Nat.add_sub_cancel_left]
      rw [e,hfin]
 ·cases e
end Go.Proofs
namespace Go.Proofs
open Go Go.Ex Go.Num
set_option maxRecDepth 100000
def c226:List PV→Option Ans
 |[.val (.int .i64 z)]=>some ⟨some (z.natAbs < 4611686018427387904),.val (intV z),[]⟩
 |_=>none
theorem ok226:funcOk {} Tryz.f226 1=true:=by kernel_rfl
theorem f226:FnOk Tryz.prog 226 c226:=by
 refine FnOk.ofW orders (mkE_ok (l:=[(247,c247)]) (own:=[]) (inl:=[]) (by simp [f247]) (by simp)) Tryz.func226 {} 1 ok226 fun args r e=>?_
 unfold c226 at e
 split at e
 ·rename_i z
  cases e
  refine⟨by simp,fun hm=>?_⟩
  have hz:z.natAbs < 4611686018427387904:=hm _ rfl
  refine⟨[],stOf [(0,.val (.int .i64 z))] [] 0 [],Wo trivial ⟨rfl,qQ⟩ trivial,?_⟩
  have w:IntKind.i64.wrap (0 - z) = -z:=by rw [wrap64 (by omega) (by omega),Int.zero_sub]
  have g1:decide (z≥0)=true→0≤z:=fun h=>of_decide_eq_true h
  have g2:decide (z≥0)=false→z < 0:=fun h=>by have:=of_decide_eq_false h;omega
  have c1:decide (z≥0)=true→PV.val (.bool false)=PV.val (.bool (decide (z < 0))):=fun h=>by
   have:=g1 h
   rw [decide_eq_false (show ¬z < 0 by omega)]
  have c2:decide (z≥0)=true→PV.val (.string (numB z.toNat))=PV.val (.string (numB z.natAbs)):=fun h=>by
   have:=g1 h
   rw [show z.toNat=z.natAbs by omega]
  have c3:decide (z≥0)=false→PV.val (.bool true)=PV.val (.bool (decide (z < 0))):=fun h=>by
   rw [decide_eq_true (g2 h)]
  have c4:decide (z≥0)=false→PV.val (.string (numB (IntKind.i64.wrap (0 - z)).toNat))=PV.val (.string (numB z.natAbs)):=fun h=>by
   have:=g2 h
   rw [w,show(-z).toNat=z.natAbs by omega]
  have c5:decide (z≥0)=false→¬(z==IntKind.i64.wrap (0 - z))=true:=fun h h'=>by
   have:=g2 h
   rw [w] at h'
   have:z = -z:=by simpa using h'
   omega
  with_unfolding_all refine⟨fun h=>⟨⟨g1 h,by omega⟩,[some 0],stOf [(2,.ptr 0 0 0 0)] [boxI z 0] 1 [],Wo ⟨qZ ⟨⟨c1 h,rfl⟩,⟨c2 h,rfl⟩,qQ⟩,qQ⟩ ⟨pP,qQ⟩ trivial,rfl,rfl⟩,fun h=>⟨fun h'=>absurd h' (c5 h),fun _=>⟨⟨by rw [w];have:=g2 h;omega,by rw [w];omega⟩,[some 0],stOf [(2,.ptr 0 0 0 0)] [boxI z 0] 1 [],Wo ⟨qZ ⟨⟨c3 h,rfl⟩,⟨c4 h,rfl⟩,qQ⟩,qQ⟩ ⟨pP,qQ⟩ trivial,rfl,rfl⟩⟩⟩
 ·cases e
end Go.Proofs
namespace Go.Proofs
open Go Go.Ex Go.Num
set_option maxRecDepth 100000
theorem numB_lead (n:Nat):lead (numB n).data.toList=true:=by
 have:=digs_lead n
 simpa [numB] using this
def c185:List PV→Option Ans
 |[.val v,.val u]=>some ⟨some (isI v∧isI u),.val (goInt (cmpI (rdI v) (rdI u))),[]⟩
 |_=>none
def D185:Opt:={ perm:=atR 1 [(0,true),(2,true),(1,false),(3,false)] }
theorem ok185:funcOk D185.toOrd Tryz.f185 2=true:=by kernel_rfl
theorem f185:FnOk Tryz.prog 185 c185:=by
 refine FnOk.ofW orders (mkE_ok (l:=[(230,c230),(231,c231)]) (own:=[]) (inl:=[]) (by simp [f230,f231]) (by simp)) Tryz.func185 D185 2 ok185 fun args r e=>?_
 unfold c185 at e
 split at e
 ·rename_i v u
  cases e
  refine⟨by simp,fun hm=>?_⟩
  obtain⟨⟨s,b,rfl,hb⟩,q,c,rfl,hc⟩:=hm _ rfl
  refine⟨[],stOf [(0,.val (.agg ⟨[.bool s,.string b]⟩)),(1,.val (.agg ⟨[.bool q,.string c]⟩))] [] 0 [],Wo trivial ⟨rfl,rfl,qQ⟩ trivial,?_⟩
  have i1:isI (.agg ⟨[.bool s,.string b]⟩):=⟨_,_,rfl,hb⟩
  have i2:isI (.agg ⟨[.bool q,.string c]⟩):=⟨_,_,rfl,hc⟩
  generalize hX:sgn s (bv b)=X
  generalize hY:sgn q (bv c)=Y
  have a1:(!(decide (X < 0)==decide (Y < 0)))=true→decide (X < 0)=true→PV.val (goInt (-1))=PV.val (goInt (cmpI X Y)):=fun h h'=>by
   rw [h'] at h
   have h':=of_decide_eq_true h'
   have h:¬Y < 0:=by simpa using h
   rw [cmpI,if_pos (by omega)]
  have a2:(!(decide (X < 0)==decide (Y < 0)))=true→decide (X < 0)=false→PV.val (goInt 1)=PV.val (goInt (cmpI X Y)):=fun h h'=>by
   rw [h'] at h
   have h':=of_decide_eq_false h'
   have h:Y < 0:=by simpa using h
   rw [cmpI,if_neg (by omega),if_pos (by omega)]
  have a3:(!(decide (X < 0)==decide (Y < 0)))=false→decide (X < 0)=true→PV.val (goInt (cmpN (bv (numB Y.natAbs)) (bv (numB X.natAbs))))=PV.val (goInt (cmpI X Y)):=fun h h'=>by
   rw [h'] at h
   have h':=of_decide_eq_true h'
   have h:Y < 0:=by simpa using h
   rw [bv_numB,bv_numB,cmpN,cmpI]
   congr 2
   split<;>split<;>first|rfl|omega|(split<;>split<;>first|rfl|omega)|(split<;>first|rfl|omega)
  have a4:(!(decide (X < 0)==decide (Y < 0)))=false→decide (X < 0)=false→PV.val (goInt (cmpN (bv (numB X.natAbs)) (bv (numB Y.natAbs))))=PV.val (goInt (cmpI X Y)):=fun h h'=>by
   rw [h'] at h
   have h':=of_decide_eq_false h'
   have h:¬Y < 0:=by simpa using h
   rw [bv_numB,bv_numB,cmpN,cmpI]
   congr 2
   split<;>split<;>first|rfl|omega|(split<;>split<;>first|rfl|omega)|(split<;>first|rfl|omega)
  subst hX hY
  with_unfolding_all refine⟨i1,i2,fun h=>⟨fun h'=>⟨[],stOf [(4,.val (goInt (cmpI (sgn s (bv b)) (sgn q (bv c)))))] [] 0 [],Wo trivial ⟨a1 h h',qQ⟩ trivial,rfl,rfl⟩,fun h'=>⟨[],stOf [(4,.val (goInt (cmpI (sgn s (bv b)) (sgn q (bv c)))))] [] 0 [],Wo trivial ⟨a2 h h',qQ⟩ trivial,rfl,rfl⟩⟩,fun h=>⟨fun h'=>⟨⟨numB_lead _,numB_lead _⟩,[],stOf [(4,.val (goInt (cmpI (sgn s (bv b)) (sgn q (bv c)))))] [] 0 [],Wo trivial ⟨a3 h h',qQ⟩ trivial,rfl,rfl⟩,fun h'=>⟨⟨numB_lead _,numB_lead _⟩,[],stOf [(4,.val (goInt (cmpI (sgn s (bv b)) (sgn q (bv c)))))] [] 0 [],Wo trivial ⟨a4 h h',qQ⟩ trivial,rfl,rfl⟩⟩⟩
 ·cases e
end Go.Proofs
namespace Go.Num
open Go Go.Ex
def carryN (A M k:Nat):Nat:=(A%256^k+M%256^k) / 256^k
theorem carryN_zero (A M:Nat):carryN A M 0=0:=by simp [carryN,Nat.mod_one]
theorem carryN_step (A M k:Nat):(carryN A M k+A / 256^k%256+M / 256^k%256) / 256=carryN A M (k+1):=by
 unfold carryN
 have hP:0 < 256^k:=Nat.pow_pos (by decide)
 rw [Nat.pow_succ,Nat.mod_mul,Nat.mod_mul,←Nat.div_div_eq_div_mul]
 generalize 256^k=P at *
 rw [show A%P+P*(A / P%256)+(M%P+P*(M / P%256))=(A%P+M%P)+P*(A / P%256+M / P%256) by rw [Nat.mul_add];omega,Nat.add_mul_div_left _ _ hP,Nat.add_assoc]
theorem carryN_digit (A M k:Nat):(carryN A M k+A / 256^k%256+M / 256^k%256)%256=(A+M) / 256^k%256:=by
 unfold carryN
 have hP:0 < 256^k:=Nat.pow_pos (by decide)
 generalize 256^k=P at *
 have h1:=Nat.div_add_mod A P
 have h2:=Nat.div_add_mod M P
 have h3:A+M=(A%P+M%P)+P*(A / P+M / P):=by rw [Nat.mul_add];omega
 rw [h3,Nat.add_mul_div_left _ _ hP]
 generalize (A%P+M%P) / P=c
 generalize A / P=x
 generalize M / P=y
 omega
theorem carryN_le (A M k:Nat):carryN A M k≤1:=by
 unfold carryN
 have hP:0 < 256^k:=Nat.pow_pos (by decide)
 have h1:=Nat.mod_lt A hP
 have h2:=Nat.mod_lt M hP
 have:(A%256^k+M%256^k) / 256^k < 2:=by rw [Nat.div_lt_iff_lt_mul hP];omega
 omega
theorem byte_at {l:List UInt8} {k:Nat} (h:k < l.length):(l[l.length - 1 - k]?.getD 0).toNat=bvL l / 256^k%256:=by
 have hi:l.length - 1 - k < l.length:=by omega
 have hs:l=l.take (l.length - 1 - k)++(l[l.length - 1 - k]::l.drop (l.length - 1 - k+1)):=by
  rw [←List.drop_eq_getElem_cons hi,List.take_append_drop]
 have hx:l[l.length - 1 - k]?.getD 0=l[l.length - 1 - k]:=by rw [List.getElem?_eq_getElem hi];rfl
 have hd:(l.drop (l.length - 1 - k+1)).length=k:=by rw [List.length_drop];omega
 have e:bvL l=bvL (l.take (l.length - 1 - k))*256^(k+1)+((l[l.length - 1 - k]).toNat*256^k+bvL (l.drop (l.length - 1 - k+1))):=by
  have:=congrArg bvL hs
  rw [bvL_append,bvL_cons,List.length_cons,hd] at this
  exact this
 have hl:=bvL_lt (l.drop (l.length - 1 - k+1))
 rw [hd] at hl
 rw [hx,e,Nat.pow_succ]
 have hb:=UInt8.toNat_lt l[l.length - 1 - k]
 generalize l[l.length - 1 - k]=x at *
 generalize bvL (l.drop (l.length - 1 - k+1))=r at *
 generalize bvL (l.take (l.length - 1 - k))=q
 have hP:0 < 256^k:=Nat.pow_pos (by decide)
 generalize 256^k=P at *
 rw [show q*(P*256)+(x.toNat*P+r)=r+P*(q*256+x.toNat) by rw [Nat.mul_add,Nat.mul_comm x.toNat P,←Nat.mul_assoc q P 256,Nat.mul_comm q P,Nat.mul_assoc];omega,Nat.add_mul_div_left _ _ hP,Nat.div_eq_of_lt hl]
 omega
theorem byte_hi {l:List UInt8} {k:Nat} (h:l.length≤k):bvL l / 256^k%256=0:=by
 have h1:=bvL_lt l
 have h2:256^l.length≤256^k:=Nat.pow_le_pow_right (by decide) h
 rw [Nat.div_eq_of_lt (by omega)]
end Go.Num
namespace Go.Proofs
open Go Go.Ex Go.Num
set_option maxRecDepth 100000
def c245:List PV→Option Ans
 |[.val (.string b),.val (.string c)]=>some ⟨some (b.size≤17179869184∧c.size≤17179869184),.val (.string (numB (bv b+bv c))),[]⟩
 |_=>none
def D245:Opt:={ join:=fun c=>match c with | .seq (.region 7 _ _) _=>true | .seq (.region 9 _ _) _=>true|_=>false }
theorem ok245:funcOk D245.toOrd Tryz.f245 2=true:=by kernel_rfl
theorem f245:FnOk Tryz.prog 245 c245:=by
 refine FnOk.ofW orders (mkE_ok (l:=[(248,c248)]) (own:=[]) (inl:=[]) (by simp [f248]) (by simp)) Tryz.func245 D245 2 ok245 fun args r e=>?_
 unfold c245 at e
 split at e
 ·rename_i b c
  cases e
  refine⟨by simp,fun hm=>?_⟩
  obtain⟨hb,hc⟩:=hm _ rfl
  refine⟨[],stOf [(0,.val (.string b)),(1,.val (.string c))] [] 0 [],Wo trivial ⟨rfl,rfl,qQ⟩ trivial,?_⟩
  obtain⟨n,hn⟩:∃n:Nat,n=max b.size c.size+1:=⟨_,rfl⟩
  have hmx:(if ((c.size:Nat):Int) > (b.size:Nat) then((c.size:Nat):Int) else(b.size:Nat))=((max b.size c.size:Nat):Int):=by
   split<;>omega
  have w:IntKind.i64.wrap ((if ((c.size:Nat):Int) > (b.size:Nat) then((c.size:Nat):Int) else(b.size:Nat))+1)=((n:Nat):Int):=by
   rw [hmx,hn,wrap64 (by omega) (by omega)]
   omega
  have hn2:n≤17179869185:=by omega
  with_unfolding_all refine⟨⟨by rw [w];omega,by omega,by rw [w];omega,by rw [w];show(1:Int)*(n:Nat)≤_;omega⟩,?_⟩
  rw [w]
  with_unfolding_all refine⟨Nat,fun k=>k≤n,fun k=>stOf [(0,.val (.string b)),(1,.val (.string c)),(5,.val (.int .i64 (n:Nat))),(6,.sl 0 0 0 n),(7,.val (.int .i64 (carryN (bv b) (bv c) k:Nat))),(8,.val (.int .i64 ((k:Int)+1)))] [⟨5,1,0,false,false,n,fun j=>if j < n - k then [.val (.int .u8 0)] else bytG (bv b+bv c) n j⟩] 1 [],fun k=>n - k,?_,fun k hk=>?_⟩
  ·with_unfolding_all refine⟨0,[some 0],Nat.zero_le _,Wo ⟨qZ (fun i hi=>?_),qQ⟩ ⟨rfl,rfl,rfl,pP,?_,rfl,qQ⟩ trivial⟩
   ·have hi:i < n:=hi
    show(if i < n - 0 then [PV.val (.int .u8 0)] else bytG (bv b+bv c) n i)=[PV.val (.int .u8 0)]
    rw [if_pos (by omega)]
   ·show PV.val (.int .i64 0)=PV.val (.int .i64 ((carryN (bv b) (bv c) 0:Nat):Int))
    rw [carryN_zero]
    rfl
  ·replace hk:k≤n:=hk
   have hcr:=carryN_le (bv b) (bv c) k
   have hlb:=Nat.mod_lt (bv b / 256^k) (show 0 < 256 by decide)
   with_unfolding_all refine⟨fun h=>⟨Unit,fun _=>True,fun _=>stOf [(0,.val (.string b)),(1,.val (.string c)),(5,.val (.int .i64 (n:Nat))),(6,.sl 0 0 0 n),(7,.val (.int .i64 ((carryN (bv b) (bv c) k+bv b / 256^k%256:Nat):Int))),(8,.val (.int .i64 ((k:Int)+1)))] [⟨5,1,0,false,false,n,fun j=>if j < n - k then [.val (.int .u8 0)] else bytG (bv b+bv c) n j⟩] 1 [],?_,fun _ _=>⟨Unit,fun _=>True,fun _=>stOf [(0,.val (.string b)),(1,.val (.string c)),(5,.val (.int .i64 (n:Nat))),(6,.sl 0 0 0 n),(7,.val (.int .i64 ((carryN (bv b) (bv c) k+bv b / 256^k%256+bv c / 256^k%256:Nat):Int))),(8,.val (.int .i64 ((k:Int)+1)))] [⟨5,1,0,false,false,n,fun j=>if j < n - k then [.val (.int .u8 0)] else bytG (bv b+bv c) n j⟩] 1 [],?_,fun _ _=>?_⟩⟩,fun h=>?_⟩
   ·have hs:=ba_size b
    have wb:decide ((k:Int)+1≤(b.size:Nat))=true→IntKind.i64.wrap (((b.size:Nat):Int) - ((k:Int)+1))=((b.size - 1 - k:Nat):Int):=fun h=>by
     have:=of_decide_eq_true h
     rw [wrap64 (by omega) (by omega)]
     omega
    with_unfolding_all refine⟨fun h=>⟨⟨by rw [wb h];omega,by rw [wb h];have:=of_decide_eq_true h;omega⟩,(),[some 0],trivial,Wo ⟨qZ (fun _ _=>rfl),qQ⟩ ⟨rfl,rfl,rfl,pP,?_,rfl,qQ⟩ trivial⟩,fun h=>⟨(),[some 0],trivial,Wo ⟨qZ (fun _ _=>rfl),qQ⟩ ⟨rfl,rfl,rfl,pP,?_,rfl,qQ⟩ trivial⟩⟩
    ·have h':=of_decide_eq_true h
     have hx:(b.data.toList[b.size - 1 - k]?.getD 0).toNat=bv b / 256^k%256:=by
      rw [hs]
      exact byte_at (by omega)
     show PV.val (.int .i64 (IntKind.i64.wrap (((carryN (bv b) (bv c) k:Nat):Int)+IntKind.i64.wrap (((b.data.toList[(IntKind.i64.wrap (((b.size:Nat):Int) - ((k:Int)+1))).toNat]?.getD 0).toNat:Nat):Int))))=PV.val (.int .i64 ((carryN (bv b) (bv c) k+bv b / 256^k%256:Nat):Int))
     rw [wb h,Int.toNat_natCast,hx]
     have:=Nat.mod_lt (bv b / 256^k) (show 0 < 256 by decide)
     rw [show IntKind.i64.wrap ((bv b / 256^k%256:Nat):Int)=((bv b / 256^k%256:Nat):Int) from wrap64 (by omega) (by omega),wrap64 (by omega) (by omega)]
     rfl
    ·have h':=of_decide_eq_false h
     show PV.val (.int .i64 ((carryN (bv b) (bv c) k:Nat):Int))=PV.val (.int .i64 ((carryN (bv b) (bv c) k+bv b / 256^k%256:Nat):Int))
     rw [show bv b / 256^k%256=0 from byte_hi (by omega),Nat.add_zero]
   ·have hs:=ba_size c
    have wb:decide ((k:Int)+1≤(c.size:Nat))=true→IntKind.i64.wrap (((c.size:Nat):Int) - ((k:Int)+1))=((c.size - 1 - k:Nat):Int):=fun h=>by
     have:=of_decide_eq_true h
     rw [wrap64 (by omega) (by omega)]
     omega
    with_unfolding_all refine⟨fun h=>⟨⟨by rw [wb h];omega,by rw [wb h];have:=of_decide_eq_true h;omega⟩,(),[some 0],trivial,Wo ⟨qZ (fun _ _=>rfl),qQ⟩ ⟨rfl,rfl,rfl,pP,?_,rfl,qQ⟩ trivial⟩,fun h=>⟨(),[some 0],trivial,Wo ⟨qZ (fun _ _=>rfl),qQ⟩ ⟨rfl,rfl,rfl,pP,?_,rfl,qQ⟩ trivial⟩⟩
    ·have h':=of_decide_eq_true h
     have hx:(c.data.toList[c.size - 1 - k]?.getD 0).toNat=bv c / 256^k%256:=by
      rw [hs]
      exact byte_at (by omega)
     show PV.val (.int .i64 (IntKind.i64.wrap (((carryN (bv b) (bv c) k+bv b / 256^k%256:Nat):Int)+IntKind.i64.wrap (((c.data.toList[(IntKind.i64.wrap (((c.size:Nat):Int) - ((k:Int)+1))).toNat]?.getD 0).toNat:Nat):Int))))=PV.val (.int .i64 ((carryN (bv b) (bv c) k+bv b / 256^k%256+bv c / 256^k%256:Nat):Int))
     rw [wb h,Int.toNat_natCast,hx]
     have:=Nat.mod_lt (bv c / 256^k) (show 0 < 256 by decide)
     rw [show IntKind.i64.wrap ((bv c / 256^k%256:Nat):Int)=((bv c / 256^k%256:Nat):Int) from wrap64 (by omega) (by omega),wrap64 (by omega) (by omega)]
     rfl
    ·have h':=of_decide_eq_false h
     show PV.val (.int .i64 ((carryN (bv b) (bv c) k+bv b / 256^k%256:Nat):Int))=PV.val (.int .i64 ((carryN (bv b) (bv c) k+bv b / 256^k%256+bv c / 256^k%256:Nat):Int))
     rw [show bv c / 256^k%256=0 from byte_hi (by omega),Nat.add_zero]
   ·have h:=of_decide_eq_true h
    have hlc:=Nat.mod_lt (bv c / 256^k) (show 0 < 256 by decide)
    have wn:IntKind.i64.wrap (((n:Nat):Int) - ((k:Int)+1))=((n - 1 - k:Nat):Int):=by
     rw [wrap64 (by omega) (by omega)]
     omega
    with_unfolding_all refine⟨⟨by rw [wn];omega,by rw [wn];omega⟩,by decide,k+1,[some 0],by show k+1≤n;omega,by show n - (k+1) < n - k;omega,Wo ⟨qZ (fun i hi=>?_),qQ⟩ ⟨rfl,rfl,rfl,pP,?_,?_,qQ⟩ trivial⟩
    ·have hi:i < n:=hi
     show(if i < n - (k+1) then [PV.val (.int .u8 0)] else bytG (bv b+bv c) n i)=if i=0+(IntKind.i64.wrap (((n:Nat):Int) - ((k:Int)+1))).toNat then [PV.val (.int .u8 (IntKind.u8.wrap ((carryN (bv b) (bv c) k+bv b / 256^k%256+bv c / 256^k%256:Nat):Int)))] else if i < n - k then [PV.val (.int .u8 0)] else bytG (bv b+bv c) n i
     rw [wn,Int.toNat_natCast,Nat.zero_add]
     rcases Nat.lt_trichotomy i (n - 1 - k) with h1|h1|h1
     ·rw [if_pos (by omega),if_neg (by omega),if_pos (by omega)]
     ·rw [if_neg (by omega),if_pos h1,wrapU8]
      simp only [bytG]
      rw [show n - 1 - i=k by omega,←carryN_digit]
      rfl
     ·rw [if_neg (by omega),if_neg (by omega),if_neg (by omega)]
    ·show PV.val (.int .i64 (((carryN (bv b) (bv c) k+bv b / 256^k%256+bv c / 256^k%256:Nat):Int) / 2^8))=PV.val (.int .i64 ((carryN (bv b) (bv c) (k+1):Nat):Int))
     rw [←carryN_step]
     rfl
    ·show PV.val (.int .i64 (IntKind.i64.wrap ((k:Int)+1+1)))=PV.val (.int .i64 (((k+1:Nat):Int)+1))
     rw [wrap64 (by omega) (by omega)]
     rfl
   ·have h:=of_decide_eq_false h
    obtain rfl:k=n:=by omega
    have hA:bv b+bv c < 256^k:=by
     have h1:=bv_lt b
     have h2:=bv_lt c
     have h3:256^b.size≤256^max b.size c.size:=Nat.pow_le_pow_right (by decide) (by omega)
     have h4:256^c.size≤256^max b.size c.size:=Nat.pow_le_pow_right (by decide) (by omega)
     rw [hn,Nat.pow_succ]
     omega
    have hv:bv (strOf k (fun i=>if 0+i < k - k then [PV.val (.int .u8 0)] else bytG (bv b+bv c) k (0+i)))=bv b+bv c:=by
     rw [strOf_bytG (fun i _=>by rw [if_neg (by omega),Nat.zero_add]),Nat.mod_eq_of_lt hA]
    with_unfolding_all refine⟨fun i hi=>?_,[],stOf [(4,.val (.string (numB (bv b+bv c))))] [] 0 [],Wo trivial ⟨congrArg (fun x=>PV.val (.string (numB x))) hv,qQ⟩ trivial,rfl,rfl⟩
    show ∃q:Int,(if 0+i < k - k then [PV.val (.int .u8 0)] else bytG (bv b+bv c) k (0+i))=[PV.val (.int .u8 q)]
    split
    ·exact⟨_,rfl⟩
    ·exact⟨_,rfl⟩
 ·cases e
end Go.Proofs
namespace Go.Num
open Go Go.Ex
def borrowN (A M k:Nat):Nat:=if A%256^k < M%256^k then 1 else 0
theorem borrowN_zero (A M:Nat):borrowN A M 0=0:=by simp [borrowN,Nat.mod_one]
theorem borrowN_step (A M k:Nat):(A / 256^k%256 < borrowN A M k+M / 256^k%256)↔A%256^(k+1) < M%256^(k+1):=by
 unfold borrowN
 have hP:0 < 256^k:=Nat.pow_pos (by decide)
 rw [Nat.pow_succ,Nat.mod_mul,Nat.mod_mul]
 generalize 256^k=P at *
 have h1:=Nat.mod_lt A hP
 have h2:=Nat.mod_lt M hP
 generalize A%P=x at *
 generalize M%P=y at *
 generalize A / P%256=a
 generalize M / P%256=b
 rcases Nat.lt_trichotomy a b with h|h|h
 ·have:=Nat.mul_le_mul_left P (show a+1≤b from h)
  rw [Nat.mul_add,Nat.mul_one] at this
  split<;>omega
 ·subst h
  split<;>omega
 ·have:=Nat.mul_le_mul_left P (show b+1≤a from h)
  rw [Nat.mul_add,Nat.mul_one] at this
  split<;>omega
theorem borrowN_digit {A M:Nat} (h:M≤A) (k:Nat):(A / 256^k%256+256 - borrowN A M k - M / 256^k%256)%256=(A - M) / 256^k%256:=by
 unfold borrowN
 have hP:0 < 256^k:=Nat.pow_pos (by decide)
 generalize 256^k=P at *
 have h1:=Nat.mod_lt A hP
 have h2:=Nat.mod_lt M hP
 have e1:=Nat.div_add_mod A P
 have e2:=Nat.div_add_mod M P
 generalize A%P=x at *
 generalize M%P=y at *
 have hqr:M / P≤A / P:=Nat.div_le_div_right h
 generalize A / P=q at *
 generalize M / P=r at *
 obtain⟨d,rfl⟩:=Nat.exists_eq_add_of_le hqr
 rw [Nat.mul_add] at e1
 by_cases hxy:x < y
 ·rw [if_pos hxy]
  cases d with
  |zero=>rw [Nat.mul_zero] at e1;omega
  |succ d =>
   rw [Nat.mul_add,Nat.mul_one] at e1
   rw [show A - M=(P+x - y)+P*d by omega,Nat.add_mul_div_left _ _ hP,Nat.div_eq_of_lt (by omega)]
   omega
 ·rw [if_neg hxy,show A - M=(x - y)+P*d by omega,Nat.add_mul_div_left _ _ hP,Nat.div_eq_of_lt (by omega)]
  omega
end Go.Num
namespace Go.Num
open Go Go.Ex
theorem p8 (n:Nat):0 < 256^n:=Nat.pow_pos (by decide)
theorem split8 (N i:Nat):N%256^(i+1)=N%256^i+256^i*(N / 256^i%256):=by rw [Nat.pow_succ,Nat.mod_mul]
theorem top8 {M m i:Nat} (h:M < 256^m) (hi:m≤i):M / 256^i%256=0:=by
 rw [Nat.div_eq_of_lt (Nat.lt_of_lt_of_le h (Nat.pow_le_pow_right (by decide) hi)),Nat.zero_mod]
theorem dig8 (D i j:Nat):D%256^i / 256^j%256=if j < i then D / 256^j%256 else 0:=by
 split
 ·rename_i h
  obtain⟨d,rfl⟩:∃d,i=j+1+d:=⟨i - j - 1,by omega⟩
  rw [Nat.pow_add,Nat.pow_succ,Nat.mul_assoc,Nat.mod_mul_right_div_self,Nat.mod_mul_right_mod]
 ·rename_i h
  have h1:D%256^i < 256^i:=Nat.mod_lt _ (p8 i)
  have h2:256^i≤256^j:=Nat.pow_le_pow_right (by decide) (by omega)
  rw [Nat.div_eq_of_lt (by omega),Nat.zero_mod]
def uV (A x M i k:Nat):Nat:=A+x*(M%256^k)*256^i
def uW (A x M i k:Nat):Nat:=uV A x M i k%256^(i+k)+A / 256^(i+k)*256^(i+k)
def uC (A x M i k:Nat):Nat:=uV A x M i k / 256^(i+k) - A / 256^(i+k)
theorem uV_zero (A x M i:Nat):uV A x M i 0=A:=by simp [uV,Nat.mod_one]
theorem uV_step (A x M i k:Nat):uV A x M i (k+1)=uV A x M i k+x*(M / 256^k%256)*256^(i+k):=by
 unfold uV
 rw [split8,Nat.mul_add,Nat.add_mul,Nat.pow_add,←Nat.add_assoc]
 congr 1
 rw [Nat.mul_comm (256^k) (M / 256^k%256),←Nat.mul_assoc,Nat.mul_assoc (x*(M / 256^k%256)),Nat.mul_comm (256^k)]
theorem uV_ge (A x M i k:Nat):A≤uV A x M i k:=Nat.le_add_right _ _
theorem uV_div (A x M i k:Nat):uV A x M i k / 256^(i+k)=uC A x M i k+A / 256^(i+k):=by
 unfold uC
 have:=Nat.div_le_div_right (c:=256^(i+k)) (uV_ge A x M i k)
 omega
theorem uC_lt {A x M i k:Nat} (hx:x < 256):uC A x M i k < 256:=by
 have h1:x*(M%256^k)*256^i < (256 - 1)*256^(i+k)+1:=by
  have h2:M%256^k≤256^k:=Nat.le_of_lt (Nat.mod_lt _ (p8 k))
  have h3:x*(M%256^k)≤(256 - 1)*256^k:=Nat.mul_le_mul (by omega) h2
  have h4:=Nat.mul_le_mul_right (256^i) h3
  rw [Nat.mul_assoc (256 - 1),←Nat.pow_add,Nat.add_comm k i] at h4
  omega
 have h5:uV A x M i k / 256^(i+k)≤A / 256^(i+k)+(256 - 1):=by
  have:uV A x M i k≤A+256^(i+k)*(256 - 1):=by unfold uV;rw [Nat.mul_comm (256^(i+k))];omega
  have:=Nat.div_le_div_right (c:=256^(i+k)) this
  rwa [Nat.add_mul_div_left _ _ (p8 _)] at this
 unfold uC
 have:0 < 256:=by decide
 omega
theorem uC_zero (A x M i:Nat):uC A x M i 0=0:=by simp [uC,uV_zero]
theorem uW_zero (A x M i:Nat):uW A x M i 0=A:=by rw [uW,uV_zero,Nat.mul_comm];exact Nat.mod_add_div A _
theorem uW_dig (A x M i k j:Nat):uW A x M i k / 256^j%256=if j < i+k then uV A x M i k / 256^j%256 else A / 256^j%256:=by
 have hmod:uW A x M i k%256^(i+k)=uV A x M i k%256^(i+k):=by
  unfold uW
  rw [Nat.add_mul_mod_self_right,Nat.mod_mod]
 have hdiv:uW A x M i k / 256^(i+k)=A / 256^(i+k):=by
  unfold uW
  rw [Nat.add_mul_div_right _ _ (p8 _),Nat.div_eq_of_lt (Nat.mod_lt _ (p8 _)),Nat.zero_add]
 split
 ·rename_i h
  have h1:=dig8 (uW A x M i k) (i+k) j
  have h2:=dig8 (uV A x M i k) (i+k) j
  rw [if_pos h] at h1 h2
  rw [←h1,hmod,h2]
 ·rename_i h
  obtain⟨d,rfl⟩:∃d,j=i+k+d:=⟨j - (i+k),by omega⟩
  rw [Nat.pow_add,←Nat.div_div_eq_div_mul,hdiv,←Nat.div_div_eq_div_mul]
theorem u_limb (A x M i k:Nat):(uC A x M i k+x*(M / 256^k%256)+A / 256^(i+k)%256)%256=uV A x M i (k+1) / 256^(i+k)%256:=by
 rw [uV_step,Nat.add_mul_div_right _ _ (p8 _),uV_div]
 generalize x*(M / 256^k%256)=p
 generalize uC A x M i k=c
 generalize A / 256^(i+k)=q
 omega
theorem u_carry (A x M i k:Nat):(uC A x M i k+x*(M / 256^k%256)+A / 256^(i+k)%256) / 256=uC A x M i (k+1):=by
 have h1:uV A x M i (k+1) / 256^(i+k)=uC A x M i k+A / 256^(i+k)+x*(M / 256^k%256):=by rw [uV_step,Nat.add_mul_div_right _ _ (p8 _),uV_div]
 have h2:=uV_div A x M i (k+1)
 rw [←Nat.add_assoc,Nat.pow_succ,←Nat.div_div_eq_div_mul,←Nat.div_div_eq_div_mul,h1] at h2
 generalize x*(M / 256^k%256)=p at *
 generalize uC A x M i k=c at *
 generalize A / 256^(i+k)=q at *
 generalize uC A x M i (k+1)=r at *
 omega
theorem uW_next (A x M i k j:Nat):uW A x M i (k+1) / 256^j%256=if j=i+k then(uC A x M i k+x*(M / 256^k%256)+A / 256^(i+k)%256)%256 else uW A x M i k / 256^j%256:=by
 rw [u_limb]
 simp only [uW_dig]
 split
 ·rename_i h
  split
  ·rename_i h3
   subst h3
   rfl
  ·rename_i h3
   rw [if_pos (by omega),uV_step]
   obtain⟨d,hd⟩:∃d,i+k=j+1+d:=⟨i+k - j - 1,by omega⟩
   rw [hd,Nat.pow_add,Nat.pow_succ]
   have:x*(M / 256^k%256)*(256^j*256*256^d)=256^j*(256*(x*(M / 256^k%256)*256^d)):=by
    generalize x*(M / 256^k%256)=p
    rw [←Nat.mul_assoc,Nat.mul_comm p,Nat.mul_assoc (256^j*256),Nat.mul_assoc]
   rw [this,Nat.add_mul_div_left _ _ (p8 j),Nat.add_mul_mod_self_left]
 ·rename_i h
  rw [if_neg (by omega),if_neg (by omega)]
theorem u_end (N M i m:Nat) (hM:M < 256^m):uV (N%256^i*M) (N / 256^i%256) M i m=N%256^(i+1)*M:=by
 unfold uV
 rw [Nat.mod_eq_of_lt hM,split8,Nat.add_mul]
 congr 1
 rw [Nat.mul_comm (256^i),Nat.mul_assoc,Nat.mul_assoc,Nat.mul_comm M]
theorem uV_last (A x M i m j:Nat) (hA:A < 256^(i+m)) (hV:uV A x M i m < 256^(i+m+1)) :
  uV A x M i m / 256^j%256=if j=i+m then uC A x M i m else uW A x M i m / 256^j%256:=by
 have h0:A / 256^(i+m)=0:=Nat.div_eq_of_lt hA
 have h1:=uV_div A x M i m
 rw [h0,Nat.add_zero] at h1
 have h2:uC A x M i m < 256:=by
  rw [←h1,Nat.div_lt_iff_lt_mul (p8 _),Nat.mul_comm,←Nat.pow_succ]
  exact hV
 simp only [uW_dig]
 split
 ·rename_i h
  subst h
  rw [h1,Nat.mod_eq_of_lt h2]
 ·rename_i h
  split
  ·rfl
  ·rename_i h3
   have e1:A / 256^j%256=0:=top8 hA (by omega)
   have e2:uV A x M i m / 256^j%256=0:=top8 hV (by omega)
   rw [e1,e2]
def digI (N n:Nat):Nat→List PV:=fun j=>[.val (.int .i64 ((N / 256^(n - 1 - j)%256:Nat):Int))]
theorem digI_next (A x M i k n j:Nat) (hj:j < n) (hik:i+k < n) {v:Int} (hv:v=(((uC A x M i k+x*(M / 256^k%256)+A / 256^(i+k)%256)%256:Nat):Int)) :
  (if j=n - 1 - (i+k) then [PV.val (.int .i64 v)] else digI (uW A x M i k) n j)=digI (uW A x M i (k+1)) n j:=by
 subst hv
 simp only [digI]
 rw [uW_next]
 split
 ·rename_i h
  rw [if_pos (by omega)]
 ·rename_i h
  rw [if_neg (by omega)]
theorem digI_last (A x M i m n j:Nat) (hj:j < n) (him:i+m < n) (hA:A < 256^(i+m)) (hV:uV A x M i m < 256^(i+m+1)) {v:Int} (hv:v=((uC A x M i m:Nat):Int)) :
  (if j=n - 1 - (i+m) then [PV.val (.int .i64 v)] else digI (uW A x M i m) n j)=digI (uV A x M i m) n j:=by
 subst hv
 simp only [digI]
 rw [uV_last A x M i m _ hA hV]
 split
 ·rename_i h
  rw [if_pos (by omega)]
 ·rename_i h
  rw [if_neg (by omega)]
end Go.Num
namespace Go.Proofs
open Go Go.Ex Go.Num
set_option maxRecDepth 100000
def c246:List PV→Option Ans
 |[.val (.string b),.val (.string c)]=>some ⟨some (bv c≤bv b∧b.size≤17179869184∧c.size≤17179869184),.val (.string (numB (bv b - bv c))),[]⟩
 |_=>none
def joinAt (l:List Nat):Code→Bool
 |.seq (.region n _ _) _=>l.contains n
 |_=>false
def D246:Opt:={ join:=joinAt [7,10] }
theorem ok246:funcOk D246.toOrd Tryz.f246 2=true:=by kernel_rfl
theorem f246:FnOk Tryz.prog 246 c246:=by
 refine FnOk.ofW orders (mkE_ok (l:=[(248,c248)]) (own:=[]) (inl:=[]) (by simp [f248]) (by simp)) Tryz.func246 D246 2 ok246 fun args r e=>?_
 unfold c246 at e
 split at e
 ·rename_i b c
  cases e
  refine⟨by simp,fun hm=>?_⟩
  obtain⟨hle,hb,hc⟩:=hm _ rfl
  refine⟨[],stOf [(0,.val (.string b)),(1,.val (.string c))] [] 0 [],Wo trivial ⟨rfl,rfl,qQ⟩ trivial,?_⟩
  have hsb:=ba_size b
  have hsc:=ba_size c
  obtain⟨n,hn⟩:∃n:Nat,n=b.size:=⟨_,rfl⟩
  rw [←hn] at hb hsb
  with_unfolding_all refine⟨⟨by omega,by omega,by omega,by show(1:Int)*(b.size:Nat)≤_;omega⟩,?_⟩
  rw [←hn]
  with_unfolding_all refine⟨Nat,fun k=>k≤n,fun k=>stOf [(0,.val (.string b)),(1,.val (.string c)),(5,.sl 0 0 0 n),(6,.val (.int .i64 (borrowN (bv b) (bv c) k:Nat))),(7,.val (.int .i64 ((k:Int)+1)))] [⟨5,1,0,false,false,n,fun j=>if j < n - k then [.val (.int .u8 0)] else bytG (bv b - bv c) n j⟩] 1 [],fun k=>n - k,?_,fun k hk=>?_⟩
  ·with_unfolding_all refine⟨0,[some 0],Nat.zero_le _,Wo ⟨qZ (fun i hi=>?_),qQ⟩ ⟨rfl,rfl,pP,?_,rfl,qQ⟩ trivial⟩
   ·have hi:i < n:=hi
    show(if i < n - 0 then [PV.val (.int .u8 0)] else bytG (bv b - bv c) n i)=[PV.val (.int .u8 0)]
    rw [if_pos (by omega)]
   ·show PV.val (.int .i64 0)=PV.val (.int .i64 ((borrowN (bv b) (bv c) 0:Nat):Int))
    rw [borrowN_zero]
    rfl
  ·replace hk:k≤n:=hk
   have hbl:borrowN (bv b) (bv c) k≤1:=by unfold borrowN;split<;>omega
   have hlb:=Nat.mod_lt (bv b / 256^k) (show 0 < 256 by decide)
   have hlc:=Nat.mod_lt (bv c / 256^k) (show 0 < 256 by decide)
   have hst:=borrowN_step (bv b) (bv c) k
   have hdg:=borrowN_digit hle k
   with_unfolding_all refine⟨fun h=>?_,fun h=>?_⟩
   ·have h:=of_decide_eq_true h
    have hkn:k < n:=by omega
    have wn:IntKind.i64.wrap (((b.size:Nat):Int) - ((k:Int)+1))=((n - 1 - k:Nat):Int):=by
     rw [wrap64 (by omega) (by omega)]
     omega
    have hx:(b.data.toList[n - 1 - k]?.getD 0).toNat=bv b / 256^k%256:=by
     rw [hsb]
     exact byte_at (by omega)
    have hd:IntKind.i64.wrap (IntKind.i64.wrap (((b.data.toList[(IntKind.i64.wrap (((b.size:Nat):Int) - ((k:Int)+1))).toNat]?.getD 0).toNat:Nat):Int) - ((borrowN (bv b) (bv c) k:Nat):Int))=((bv b / 256^k%256:Nat):Int) - ((borrowN (bv b) (bv c) k:Nat):Int):=by
     rw [wn,Int.toNat_natCast,hx]
     rw [show IntKind.i64.wrap ((bv b / 256^k%256:Nat):Int)=((bv b / 256^k%256:Nat):Int) from wrap64 (by omega) (by omega),wrap64 (by omega) (by omega)]
    with_unfolding_all refine⟨⟨by rw [wn];omega,by rw [wn];omega⟩,Unit,fun _=>True,fun _=>stOf [(0,.val (.string b)),(1,.val (.string c)),(5,.sl 0 0 0 n),(7,.val (.int .i64 ((k:Int)+1))),(8,.val (.int .i64 (((bv b / 256^k%256:Nat):Int) - ((borrowN (bv b) (bv c) k:Nat):Int) - ((bv c / 256^k%256:Nat):Int))))] [⟨5,1,0,false,false,n,fun j=>if j < n - k then [.val (.int .u8 0)] else bytG (bv b - bv c) n j⟩] 1 [],?_,fun _ _=>⟨Unit,fun _=>True,fun _=>stOf [(0,.val (.string b)),(1,.val (.string c)),(5,.sl 0 0 0 n),(6,.val (.int .i64 (borrowN (bv b) (bv c) (k+1):Nat))),(7,.val (.int .i64 ((k:Int)+1))),(8,.val (.int .i64 (((bv b - bv c) / 256^k%256:Nat):Int)))] [⟨5,1,0,false,false,n,fun j=>if j < n - k then [.val (.int .u8 0)] else bytG (bv b - bv c) n j⟩] 1 [],?_,fun _ _=>?_⟩⟩
    ·have wb:decide ((k:Int)+1≤(c.size:Nat))=true→IntKind.i64.wrap (((c.size:Nat):Int) - ((k:Int)+1))=((c.size - 1 - k:Nat):Int):=fun h=>by
      have:=of_decide_eq_true h
      rw [wrap64 (by omega) (by omega)]
      omega
     with_unfolding_all refine⟨fun h=>⟨⟨by rw [wb h];omega,by rw [wb h];have:=of_decide_eq_true h;omega⟩,(),[some 0],trivial,Wo ⟨qZ (fun _ _=>rfl),qQ⟩ ⟨rfl,rfl,pP,rfl,?_,qQ⟩ trivial⟩,fun h=>⟨(),[some 0],trivial,Wo ⟨qZ (fun _ _=>rfl),qQ⟩ ⟨rfl,rfl,pP,rfl,?_,qQ⟩ trivial⟩⟩
     ·have h':=of_decide_eq_true h
      have hx:(c.data.toList[c.size - 1 - k]?.getD 0).toNat=bv c / 256^k%256:=by
       rw [hsc]
       exact byte_at (by omega)
      show PV.val (.int .i64 (IntKind.i64.wrap (IntKind.i64.wrap (IntKind.i64.wrap (((b.data.toList[(IntKind.i64.wrap (((b.size:Nat):Int) - ((k:Int)+1))).toNat]?.getD 0).toNat:Nat):Int) - ((borrowN (bv b) (bv c) k:Nat):Int)) - IntKind.i64.wrap (((c.data.toList[(IntKind.i64.wrap (((c.size:Nat):Int) - ((k:Int)+1))).toNat]?.getD 0).toNat:Nat):Int))))=PV.val (.int .i64 (((bv b / 256^k%256:Nat):Int) - ((borrowN (bv b) (bv c) k:Nat):Int) - ((bv c / 256^k%256:Nat):Int)))
      rw [hd,wb h,Int.toNat_natCast,hx]
      rw [show IntKind.i64.wrap ((bv c / 256^k%256:Nat):Int)=((bv c / 256^k%256:Nat):Int) from wrap64 (by omega) (by omega),wrap64 (by omega) (by omega)]
     ·have h':=of_decide_eq_false h
      show PV.val (.int .i64 (IntKind.i64.wrap (IntKind.i64.wrap (((b.data.toList[(IntKind.i64.wrap (((b.size:Nat):Int) - ((k:Int)+1))).toNat]?.getD 0).toNat:Nat):Int) - ((borrowN (bv b) (bv c) k:Nat):Int))))=PV.val (.int .i64 (((bv b / 256^k%256:Nat):Int) - ((borrowN (bv b) (bv c) k:Nat):Int) - ((bv c / 256^k%256:Nat):Int)))
      rw [hd,show bv c / 256^k%256=0 from byte_hi (by omega)]
      simp
    ·with_unfolding_all refine⟨fun h=>⟨(),[some 0],trivial,Wo ⟨qZ (fun _ _=>rfl),qQ⟩ ⟨rfl,rfl,pP,?_,rfl,?_,qQ⟩ trivial⟩,fun h=>⟨(),[some 0],trivial,Wo ⟨qZ (fun _ _=>rfl),qQ⟩ ⟨rfl,rfl,pP,?_,rfl,?_,qQ⟩ trivial⟩⟩
     ·have h':=of_decide_eq_true h
      show PV.val (.int .i64 1)=PV.val (.int .i64 ((borrowN (bv b) (bv c) (k+1):Nat):Int))
      rw [show borrowN (bv b) (bv c) (k+1)=1 by unfold borrowN;exact if_pos (hst.1 (by omega))]
      rfl
     ·have h':=of_decide_eq_true h
      show PV.val (.int .i64 (IntKind.i64.wrap (((bv b / 256^k%256:Nat):Int) - ((borrowN (bv b) (bv c) k:Nat):Int) - ((bv c / 256^k%256:Nat):Int)+256)))=PV.val (.int .i64 (((bv b - bv c) / 256^k%256:Nat):Int))
      rw [←hdg,wrap64 (by omega) (by omega)]
      exact congrArg (fun x=>PV.val (.int .i64 x)) (by omega)
     ·have h':=of_decide_eq_false h
      show PV.val (.int .i64 0)=PV.val (.int .i64 ((borrowN (bv b) (bv c) (k+1):Nat):Int))
      rw [show borrowN (bv b) (bv c) (k+1)=0 by unfold borrowN;exact if_neg (fun h=>by have:=hst.2 h;omega)]
      rfl
     ·have h':=of_decide_eq_false h
      show PV.val (.int .i64 (((bv b / 256^k%256:Nat):Int) - ((borrowN (bv b) (bv c) k:Nat):Int) - ((bv c / 256^k%256:Nat):Int)))=PV.val (.int .i64 (((bv b - bv c) / 256^k%256:Nat):Int))
      rw [←hdg]
      exact congrArg (fun x=>PV.val (.int .i64 x)) (by omega)
    ·with_unfolding_all refine⟨⟨by rw [wn];omega,by rw [wn];omega⟩,k+1,[some 0],by show k+1≤n;omega,by show n - (k+1) < n - k;omega,Wo ⟨qZ (fun i hi=>?_),qQ⟩ ⟨rfl,rfl,pP,rfl,?_,qQ⟩ trivial⟩
     ·have hi:i < n:=hi
      show(if i < n - (k+1) then [PV.val (.int .u8 0)] else bytG (bv b - bv c) n i)=if i=0+(IntKind.i64.wrap (((b.size:Nat):Int) - ((k:Int)+1))).toNat then [PV.val (.int .u8 (IntKind.u8.wrap (((bv b - bv c) / 256^k%256:Nat):Int)))] else if i < n - k then [PV.val (.int .u8 0)] else bytG (bv b - bv c) n i
      rw [wn,Int.toNat_natCast,Nat.zero_add]
      rcases Nat.lt_trichotomy i (n - 1 - k) with h1|h1|h1
      ·rw [if_pos (by omega),if_neg (by omega),if_pos (by omega)]
      ·rw [if_neg (by omega),if_pos h1,wrapU8]
       simp only [bytG]
       rw [show n - 1 - i=k by omega]
       exact congrArg (fun x=>[PV.val (.int .u8 x)]) (by omega)
      ·rw [if_neg (by omega),if_neg (by omega),if_neg (by omega)]
     ·show PV.val (.int .i64 (IntKind.i64.wrap ((k:Int)+1+1)))=PV.val (.int .i64 (((k+1:Nat):Int)+1))
      rw [wrap64 (by omega) (by omega)]
      rfl
   ·have h:=of_decide_eq_false h
    obtain rfl:k=n:=by omega
    have hA:bv b - bv c < 256^k:=by
     have h1:=bv_lt b
     rw [hn]
     omega
    have hv:bv (strOf k (fun i=>if 0+i < k - k then [PV.val (.int .u8 0)] else bytG (bv b - bv c) k (0+i)))=bv b - bv c:=by
     rw [strOf_bytG (fun i _=>by rw [if_neg (by omega),Nat.zero_add]),Nat.mod_eq_of_lt hA]
    with_unfolding_all refine⟨fun i hi=>?_,[],stOf [(4,.val (.string (numB (bv b - bv c))))] [] 0 [],Wo trivial ⟨congrArg (fun x=>PV.val (.string (numB x))) hv,qQ⟩ trivial,rfl,rfl⟩
    show ∃q:Int,(if 0+i < k - k then [PV.val (.int .u8 0)] else bytG (bv b - bv c) k (0+i))=[PV.val (.int .u8 q)]
    split
    ·exact⟨_,rfl⟩
    ·exact⟨_,rfl⟩
 ·cases e
end Go.Proofs
namespace Go.Proofs
open Go Go.Ex Go.Num
set_option maxRecDepth 100000
theorem and255 {t:Nat} (h:t < 2^63):IntKind.i64.wrap ((BitVec.ofInt IntKind.i64.bits (t:Int) &&& BitVec.ofInt IntKind.i64.bits 255).toNat:Int)=((t%256:Nat):Int):=by
 have e:(BitVec.ofInt IntKind.i64.bits (t:Int) &&& BitVec.ofInt IntKind.i64.bits 255).toNat=t%256:=by
  show(BitVec.ofInt 64 (t:Int) &&& BitVec.ofInt 64 ((255:Nat):Int)).toNat=t%256
  rw [BitVec.toNat_and,toNat_of (show t < 2^64 by omega),toNat_of (by decide)]
  exact Nat.and_two_pow_sub_one_eq_mod t 8
 rw [e,wrap64 (by omega) (by omega)]
def c233:List PV→Option Ans
 |[.val (.string b),.val (.string c)]=>some ⟨some (b.size≤17179869184∧c.size≤17179869184),.val (.string (numB (bv b*bv c))),[]⟩
 |_=>none
theorem ok233:funcOk {} Tryz.f233 2=true:=by kernel_rfl
theorem f233:FnOk Tryz.prog 233 c233:=by
 refine FnOk.ofW orders (mkE_ok (l:=[(248,c248)]) (own:=[]) (inl:=[]) (by simp [f248]) (by simp)) Tryz.func233 {} 2 ok233 fun args r e=>?_
 unfold c233 at e
 split at e
 ·rename_i b c
  cases e
  refine⟨by simp,fun hm=>?_⟩
  obtain⟨hb,hc⟩:=hm _ rfl
  refine⟨[],stOf [(0,.val (.string b)),(1,.val (.string c))] [] 0 [],Wo trivial ⟨rfl,rfl,qQ⟩ trivial,?_⟩
  have hsb:=ba_size b
  have hsc:=ba_size c
  have hN:=bv_lt b
  have hM:=bv_lt c
  obtain⟨la,hla⟩:∃n:Nat,n=b.size:=⟨_,rfl⟩
  obtain⟨lb,hlb⟩:∃n:Nat,n=c.size:=⟨_,rfl⟩
  obtain⟨n,hn⟩:∃n:Nat,n=la+lb:=⟨_,rfl⟩
  have hnm:IntKind.i64.wrap (((b.size:Nat):Int)+((c.size:Nat):Int))=((n:Nat):Int):=by rw [wrap64 (by omega) (by omega)];omega
  with_unfolding_all refine⟨⟨by rw [hnm];omega,by omega,by rw [hnm];omega,by rw [hnm];show(8:Int)*(n:Nat)≤_;omega⟩,?_⟩
  rw [hnm]
  obtain⟨N,hNe⟩:∃N,N=bv b:=⟨_,rfl⟩
  obtain⟨M,hMe⟩:∃M,M=bv c:=⟨_,rfl⟩
  rw [←hNe,←hla] at hN
  rw [←hMe,←hlb] at hM
  have hbx:∀i:Nat,i < la→(b.data.toList[la - 1 - i]?.getD 0).toNat=N / 256^i%256:=fun i hi=>by
   rw [hla,hsb,hNe]
   exact byte_at (by omega)
  have hcx:∀i:Nat,i < lb→(c.data.toList[lb - 1 - i]?.getD 0).toNat=M / 256^i%256:=fun i hi=>by
   rw [hlb,hsc,hMe]
   exact byte_at (by omega)
  have hdn:bv b*bv c=N*M:=by rw [hNe,hMe]
  rw [hdn]
  have hlt:N*M < 256^n:=by rw [hn,Nat.pow_add];exact Nat.mul_lt_mul'' hN hM
  with_unfolding_all refine⟨Nat,fun i=>i≤la,fun i=>stOf [(0,.val (.string b)),(1,.val (.string c)),(5,.sl 0 0 0 n),(6,.val (.int .i64 ((la:Int) - 1 - i)))] [⟨3,1,0,false,false,n,digI (N%256^i*M) n⟩] 1 [],fun i=>la - i,
   ⟨0,[some 0],Nat.zero_le _,Wo ⟨qZ (fun i hi=>?_),qQ⟩ ⟨rfl,rfl,pP,?_,qQ⟩ trivial⟩,fun i hi=>⟨fun h1=>?_,fun h1=>?_⟩⟩
  ·show digI _ n i=[PV.val (.int .i64 0)]
   simp [digI,Nat.mod_one]
  ·show PV.val (.int .i64 (IntKind.i64.wrap (((b.size:Nat):Int) - 1)))=PV.val (.int .i64 ((la:Int) - 1 - ((0:Nat):Int)))
   rw [wrap64 (by omega) (by omega)]
   exact congrArg (fun x=>PV.val (.int .i64 x)) (by omega)
  ·replace hi:i≤la:=hi
   have h1:=of_decide_eq_true h1
   have hil:i < la:=by omega
   have hx:=Nat.mod_lt (N / 256^i) (show 0 < 256 by decide)
   have hA:N%256^i*M < 256^(i+lb):=by
    rw [Nat.pow_add]
    exact Nat.mul_lt_mul'' (Nat.mod_lt _ (p8 i)) hM
   have hend:=u_end N M i lb hM
   have hV:N%256^(i+1)*M < 256^(i+lb+1):=by
    rw [show i+lb+1=(i+1)+lb by omega,Nat.pow_add _ (i+1) lb]
    exact Nat.mul_lt_mul'' (Nat.mod_lt _ (p8 _)) hM
   have hbi:(b.data.toList[((la:Int) - 1 - i).toNat]?.getD 0).toNat=N / 256^i%256:=by
    rw [show((la:Int) - 1 - i).toNat=la - 1 - i by omega]
    exact hbx i hil
   generalize hAe:N%256^i*M=A at *
   with_unfolding_all refine⟨Nat,fun k=>k≤lb,fun k=>stOf [(0,.val (.string b)),(1,.val (.string c)),(5,.sl 0 0 0 n),(6,.val (.int .i64 ((la:Int) - 1 - i))),(7,.val (.int .i64 (uC A (N / 256^i%256) M i k:Nat))),(8,.val (.int .i64 ((lb:Int) - 1 - k)))] [⟨3,1,0,false,false,n,digI (uW A (N / 256^i%256) M i k) n⟩] 1 [],fun k=>lb - k,
    ⟨0,[some 0],Nat.zero_le _,Wo ⟨qZ (fun j hj=>?_),qQ⟩ ⟨rfl,rfl,pP,rfl,?_,?_,qQ⟩ trivial⟩,fun k hk=>⟨fun h2=>?_,fun h2=>?_⟩⟩
   ·rw [uW_zero]
   ·rw [uC_zero]
    rfl
   ·show PV.val (.int .i64 (IntKind.i64.wrap (((c.size:Nat):Int) - 1)))=PV.val (.int .i64 ((lb:Int) - 1 - ((0:Nat):Int)))
    rw [wrap64 (by omega) (by omega)]
    exact congrArg (fun x=>PV.val (.int .i64 x)) (by omega)
   ·replace hk:k≤lb:=hk
    have h2:=of_decide_eq_true h2
    have hkl:k < lb:=by omega
    have hci:(c.data.toList[((lb:Int) - 1 - k).toNat]?.getD 0).toNat=M / 256^k%256:=by
     rw [show((lb:Int) - 1 - k).toNat=lb - 1 - k by omega]
     exact hcx k hkl
    have hy:=Nat.mod_lt (M / 256^k) (show 0 < 256 by decide)
    have ha:=Nat.mod_lt (A / 256^(i+k)) (show 0 < 256 by decide)
    have hcl:=uC_lt (A:=A) (M:=M) (i:=i) (k:=k) hx
    have hxy:N / 256^i%256*(M / 256^k%256)≤255*255:=Nat.mul_le_mul (by omega) (by omega)
    have hix:IntKind.i64.wrap (IntKind.i64.wrap ((la:Int) - 1 - i+((lb:Int) - 1 - k))+1)=((n - 1 - (i+k):Nat):Int):=by
     rw [wrap64 (x:=(la:Int) - 1 - i+((lb:Int) - 1 - k)) (by omega) (by omega),wrap64 (by omega) (by omega)]
     omega
    have hlimb:uW A (N / 256^i%256) M i k / 256^(i+k)%256=A / 256^(i+k)%256:=by rw [uW_dig,if_neg (by omega)]
    have hcar:=u_carry A (N / 256^i%256) M i k
    have hset:=fun j (hj:j < n)=>digI_next A (N / 256^i%256) M i k n j hj (by omega) (v:=IntKind.i64.wrap ((BitVec.ofInt IntKind.i64.bits ((uC A (N / 256^i%256) M i k+N / 256^i%256*(M / 256^k%256)+A / 256^(i+k)%256:Nat):Int) &&& BitVec.ofInt IntKind.i64.bits 255).toNat:Int)) (and255 (by omega))
    have hword:IntKind.i64.wrap (((uC A (N / 256^i%256) M i k:Nat):Int)+IntKind.i64.wrap (((uW A (N / 256^i%256) M i k / 256^(n - 1 - (0+(IntKind.i64.wrap (IntKind.i64.wrap ((la:Int) - 1 - i+((lb:Int) - 1 - k))+1)).toNat))%256:Nat):Int)+IntKind.i64.wrap (IntKind.i64.wrap (((b.data.toList[((la:Int) - 1 - i).toNat]?.getD 0).toNat:Nat):Int)*IntKind.i64.wrap (((c.data.toList[((lb:Int) - 1 - k).toNat]?.getD 0).toNat:Nat):Int))))
      = ((uC A (N / 256^i%256) M i k+N / 256^i%256*(M / 256^k%256)+A / 256^(i+k)%256:Nat):Int):=by
     rw [hix,Nat.zero_add,Int.toNat_natCast,show n - 1 - (n - 1 - (i+k))=i+k by omega,hlimb,hbi,hci]
     rw [wrap64 (x:=((N / 256^i%256:Nat):Int)) (by omega) (by omega),wrap64 (x:=((M / 256^k%256:Nat):Int)) (by omega) (by omega),←Int.natCast_mul]
     generalize N / 256^i%256*(M / 256^k%256)=p at *
     rw [wrap64 (x:=(p:Int)) (by omega) (by omega),wrap64 (x:=((A / 256^(i+k)%256:Nat):Int)+(p:Int)) (by omega) (by omega),wrap64 (by omega) (by omega)]
     omega
    generalize hte:uC A (N / 256^i%256) M i k+N / 256^i%256*(M / 256^k%256)+A / 256^(i+k)%256=t at *
    with_unfolding_all refine⟨⟨by rw [hix];omega,by rw [hix];omega⟩,⟨by omega,by omega⟩,⟨by omega,by omega⟩,⟨by rw [hix];omega,by rw [hix];omega⟩,by decide,k+1,[some 0],?_,?_,Wo ⟨qZ (fun j hj=>?_),qQ⟩ ⟨rfl,rfl,pP,rfl,?_,?_,qQ⟩ trivial⟩
    ·exact hkl
    ·show lb - (k+1) < lb - k
     omega
    ·have hj:j < n:=hj
     have key:∀word idx:Int,word=(t:Nat)→idx=((n - 1 - (i+k):Nat):Int)→digI (uW A (N / 256^i%256) M i (k+1)) n j=if j=0+idx.toNat then [PV.val (.int .i64 (IntKind.i64.wrap ((BitVec.ofInt IntKind.i64.bits word &&& BitVec.ofInt IntKind.i64.bits 255).toNat:Int)))] else digI (uW A (N / 256^i%256) M i k) n j:=fun word idx h3 h4=>by
      rw [h3,h4,Int.toNat_natCast,Nat.zero_add,hset j hj]
     exact key _ _ hword hix
    ·have key:∀word:Int,word=(t:Nat)→PV.val (.int .i64 (word / 2^8))=PV.val (.int .i64 (uC A (N / 256^i%256) M i (k+1):Nat)):=fun word h3=>by
      rw [h3,←hcar]
      rfl
     exact key _ hword
    ·show PV.val (.int .i64 (IntKind.i64.wrap ((lb:Int) - 1 - k - 1)))=PV.val (.int .i64 ((lb:Int) - 1 - ((k+1:Nat):Int)))
     rw [wrap64 (by omega) (by omega)]
     exact congrArg (fun x=>PV.val (.int .i64 x)) (by omega)
   ·replace hk:k≤lb:=hk
    have h2:=of_decide_eq_false h2
    obtain rfl:k=lb:=by omega
    have hcl:=uC_lt (A:=A) (M:=M) (i:=i) (k:=k) hx
    have h0:uW A (N / 256^i%256) M i k / 256^(i+k)%256=0:=by rw [uW_dig,if_neg (by omega),top8 hA (Nat.le_refl _)]
    have hlast:=fun j (hj:j < n)=>digI_last A (N / 256^i%256) M i k n j hj (by omega) hA (by rw [hend];exact hV) (v:=((uC A (N / 256^i%256) M i k:Nat):Int)) rfl
    with_unfolding_all refine⟨⟨by omega,by omega⟩,⟨by omega,by omega⟩,i+1,[some 0],?_,?_,Wo ⟨qZ (fun j hj=>?_),qQ⟩ ⟨rfl,rfl,pP,?_,qQ⟩ trivial⟩
    ·exact hil
    ·show la - (i+1) < la - i
     omega
    ·have hj:j < n:=hj
     have key:∀word idx:Int,word=(uC A (N / 256^i%256) M i k:Nat)→idx=((n - 1 - (i+k):Nat):Int)→digI (N%256^(i+1)*M) n j=if j=0+idx.toNat then [PV.val (.int .i64 word)] else digI (uW A (N / 256^i%256) M i k) n j:=fun word idx h3 h4=>by
      rw [h3,h4,Int.toNat_natCast,Nat.zero_add,←hend,hlast j hj]
     refine key (IntKind.i64.wrap (((uW A (N / 256^i%256) M i k / 256^(n - 1 - (0+((la:Int) - 1 - i).toNat))%256:Nat):Int)+((uC A (N / 256^i%256) M i k:Nat):Int))) ((la:Int) - 1 - i) ?_ (by omega)
     rw [show n - 1 - (0+((la:Int) - 1 - i).toNat)=i+k by omega,h0,wrap64 (by omega) (by omega)]
     omega
    ·show PV.val (.int .i64 (IntKind.i64.wrap ((la:Int) - 1 - i - 1)))=PV.val (.int .i64 ((la:Int) - 1 - ((i+1:Nat):Int)))
     rw [wrap64 (by omega) (by omega)]
     exact congrArg (fun x=>PV.val (.int .i64 x)) (by omega)
  ·replace hi:i≤la:=hi
   have h1:=of_decide_eq_false h1
   obtain rfl:i=la:=by omega
   rw [Nat.mod_eq_of_lt hN]
   with_unfolding_all refine⟨⟨by omega,by omega,by omega,by show(1:Int)*(n:Nat)≤_;omega⟩,Nat,fun k=>k≤n,fun k=>stOf [(5,.sl 0 0 0 n),(9,.sl 1 1 0 n),(10,.val (.int .i64 k))] [⟨3,1,0,false,false,n,digI (N*M) n⟩,⟨5,1,1,false,false,n,fun j=>if j < k then bytG (N*M) n j else [.val (.int .u8 0)]⟩] 2 [],fun k=>n - k,
    ⟨0,[some 0,some 1],Nat.zero_le _,Wo ⟨qZ (fun j hj=>rfl),qZ (fun j hj=>?_),qQ⟩ ⟨pP,pP,rfl,qQ⟩ trivial⟩,fun k hk=>⟨fun h2=>?_,fun h2=>?_⟩⟩
   ·show(if j < 0 then bytG (N*M) n j else [PV.val (.int .u8 0)])=[PV.val (.int .u8 0)]
    rw [if_neg (by omega)]
   ·have h2:=of_decide_eq_true h2
    have hkn:k < n:=by omega
    with_unfolding_all refine⟨⟨by omega,by omega⟩,⟨by omega,by omega⟩,k+1,[some 0,some 1],?_,?_,Wo ⟨qZ (fun j hj=>rfl),qZ (fun j hj=>?_),qQ⟩ ⟨pP,pP,?_,qQ⟩ trivial⟩
    ·exact hkn
    ·show n - (k+1) < n - k
     omega
    ·have hd:=Nat.mod_lt (N*M / 256^(n - 1 - (0+(k:Int).toNat))) (show 0 < 256 by decide)
     show(if j < k+1 then bytG (N*M) n j else [PV.val (.int .u8 0)])=if j=0+(k:Int).toNat then [PV.val (.int .u8 (IntKind.u8.wrap ((N*M / 256^(n - 1 - (0+(k:Int).toNat))%256:Nat):Int)))] else if j < k then bytG (N*M) n j else [PV.val (.int .u8 0)]
     rw [Int.toNat_natCast,Nat.zero_add] at *
     rcases Nat.lt_trichotomy j k with h3|h3|h3
     ·rw [if_pos (by omega),if_neg (by omega),if_pos h3]
     ·rw [if_pos (by omega),if_pos h3,wrapU8,h3]
      simp only [bytG]
      exact congrArg (fun x=>[PV.val (.int .u8 x)]) (by omega)
     ·rw [if_neg (by omega),if_neg (by omega),if_neg (by omega)]
    ·show PV.val (.int .i64 (IntKind.i64.wrap ((k:Int)+1)))=PV.val (.int .i64 ((k+1:Nat):Int))
     rw [wrap64 (by omega) (by omega)]
     rfl
   ·have h2:=of_decide_eq_false h2
    replace hk:k≤n:=hk
    obtain rfl:k=n:=by omega
    have hv:bv (strOf k (fun j=>if 0+j < k then bytG (N*M) k (0+j) else [PV.val (.int .u8 0)]))=N*M:=by
     rw [strOf_bytG (fun i _=>by rw [if_pos (by omega),Nat.zero_add]),Nat.mod_eq_of_lt hlt]
    with_unfolding_all refine⟨fun i hi=>?_,[],stOf [(4,.val (.string (numB (N*M))))] [] 0 [],Wo trivial ⟨congrArg (fun x=>PV.val (.string (numB x))) hv,qQ⟩ trivial,rfl,rfl⟩
    show ∃q:Int,(if 0+i < k then bytG (N*M) k (0+i) else [PV.val (.int .u8 0)])=[PV.val (.int .u8 q)]
    split
    ·exact⟨_,rfl⟩
    ·exact⟨_,rfl⟩
 ·cases e
end Go.Proofs
namespace Go.Proofs
open Go Go.Ex Go.Num
set_option maxRecDepth 100000
theorem dm_step {p x M:Nat} (hM:0 < M) (hx:x < 256):(p*256+x)%M=(p%M*256+x)%M∧(p*256+x) / M%256=(p%M*256+x) / M∧p%M*256+x < M*256:=by
 have h1:=Nat.div_add_mod p M
 have h2:=Nat.mod_lt p hM
 generalize p / M=q at *
 generalize p%M=r at *
 have e:p*256+x=(r*256+x)+M*(q*256):=by rw [←h1,Nat.add_mul,Nat.mul_assoc];omega
 have hl:r*256+x < M*256:=by omega
 have hd:(r*256+x) / M < 256:=by rw [Nat.div_lt_iff_lt_mul hM];omega
 rw [e,Nat.add_mul_mod_self_left,Nat.add_mul_div_left _ _ hM]
 refine⟨rfl,?_,hl⟩
 generalize (r*256+x) / M=f at *
 omega
theorem bit_step (R:Nat) {P:Nat} (hP:0 < P):(P≤R%(P*2)→R%(P*2) - P=R%P∧R / (P*2)*2+1=R / P)∧(R%(P*2) < P→R%(P*2)=R%P∧R / (P*2)*2=R / P):=by
 have h1:R%(P*2)=R%P+P*(R / P%2):=Nat.mod_mul
 have h2:R / (P*2)=R / P / 2:=(Nat.div_div_eq_div_mul R P 2).symm
 have h3:=Nat.mod_lt R hP
 rcases Nat.mod_two_eq_zero_or_one (R / P) with h|h
 ·rw [h,Nat.mul_zero,Nat.add_zero] at h1
  rw [h1,h2]
  exact⟨fun h4=>by omega,fun _=>⟨rfl,by omega⟩⟩
 ·rw [h,Nat.mul_one] at h1
  rw [h1,h2]
  exact⟨fun _=>⟨by omega,by omega⟩,fun h4=>by omega⟩
theorem bv_next {b:ByteArray} {i:Nat} (h:i < b.size) (r:ByteArray):bv (r++b.extract i (i+1))=bv r*256+bv b / 256^(b.size - 1 - i)%256:=by
 have hs:=ba_size b
 have hx:(b.extract i (i+1)).data.toList=[b.data.toList[i]?.getD 0]:=by
  rw [ba_extract,List.take_add_one,List.drop_append_of_le_length (by rw [List.length_take];omega)]
  rw [List.drop_eq_nil_of_le (by rw [List.length_take];omega),List.getElem?_eq_getElem (by omega)]
  rfl
 have hb:=byte_at (l:=b.data.toList) (k:=b.size - 1 - i) (by omega)
 rw [show b.data.toList.length - 1 - (b.size - 1 - i)=i by omega] at hb
 have e:(r++b.extract i (i+1)).data.toList=r.data.toList++[b.data.toList[i]?.getD 0]:=by
  rw [ByteArray.data_append,Array.toList_append,hx]
 unfold bv
 rw [e,bvL_append,←hb]
 simp [bvL]
theorem numB_nil0:numB 0=(⟨#[]⟩:ByteArray):=by simp [numB,digs_zero]
def c249:List PV→Option Ans
 |[.val (.string b),.val (.string c)]=>some ⟨some ((lead c.data.toList=true∧bv c≠0)∧b.size≤8589934592∧c.size≤8589934592),.val (.tuple ⟨[.string (numB (bv b / bv c)),.string (numB (bv b%bv c))]⟩),[]⟩
 |_=>none
def D249:Opt:={ perm:=atR 6 (rds 9++[(9,false)]),join:=joinAt [17] }
theorem ok249:funcOk D249.toOrd Tryz.f249 2=true:=by kernel_rfl
theorem f249:FnOk Tryz.prog 249 c249:=by
 refine FnOk.ofW orders (mkE_ok (l:=[(245,c245),(248,c248),(231,c231),(246,c246)]) (own:=[]) (inl:=[]) (by simp [f245,f248,f231,f246]) (by simp)) Tryz.func249 D249 2 ok249 fun args r e=>?_
 unfold c249 at e
 split at e
 ·rename_i b c
  cases e
  refine⟨by simp,fun hm=>?_⟩
  obtain⟨⟨hl,hz⟩,hb,hc⟩:=hm _ rfl
  refine⟨[],stOf [(0,.val (.string b)),(1,.val (.string c))] [] 0 [],Wo trivial ⟨rfl,rfl,qQ⟩ trivial,?_⟩
  have hsb:=ba_size b
  have hsc:=ba_size c
  have hN:=bv_lt b
  have hM:=bv_lt c
  have hcc:numB (bv c)=c:=canon hl
  obtain⟨N,hNe⟩:∃N,N=bv b:=⟨_,rfl⟩
  obtain⟨M,hMe⟩:∃M,M=bv c:=⟨_,rfl⟩
  rw [←hNe] at hN ⊢
  rw [←hMe] at hM hz hcc ⊢
  have hsz:∀k:Nat,k≤8→(numB (M*2^k)).size≤c.size+1:=fun k hk=>by
   refine numB_le ?_
   have:(2:Nat)^k≤2^8:=Nat.pow_le_pow_right (by decide) hk
   rw [Nat.pow_succ]
   exact Nat.lt_of_le_of_lt (Nat.mul_le_mul_left M this) (by omega)
  have hmod:∀k:Nat,k≤8→∀x:Nat,(numB (x%(M*2^k))).size≤c.size+1:=fun k hk x=>by
   refine numB_le ?_
   have:(2:Nat)^k≤2^8:=Nat.pow_le_pow_right (by decide) hk
   have h2:=Nat.mul_le_mul_left M this
   have h3:=Nat.mod_lt x (show 0 < M*2^k from Nat.mul_pos (by omega) (Nat.pow_pos (by decide)))
   rw [Nat.pow_succ]
   omega
  with_unfolding_all refine⟨⟨by omega,by omega⟩,Nat,fun i=>1≤i∧i≤8,fun i=>stOf [(0,.val (.string b)),(1,.val (.string c)),(6,.ptr 0 0 0 0),(7,.val (goInt i))] [⟨247,1,0,false,true,8,fun j=>[.val (.string (if j < i then numB (M*2^j) else⟨#[]⟩))]⟩] 1 [],fun i=>8 - i,⟨1,[some 0],⟨Nat.le_refl _,by decide⟩,Wo ⟨qZ (fun j hj=>?_),qQ⟩ ⟨rfl,rfl,pP,rfl,qQ⟩ trivial⟩,fun i hi=>⟨fun h1=>?_,fun h1=>?_⟩⟩
  ·have hj:j < 8:=hj
   match j,hj with
   |0,_=>exact(congrArg (fun x=>[PV.val (.string x)]) (show numB (M*2^0)=c by rw [Nat.pow_zero,Nat.mul_one,hcc]))
   |1,_=>rfl
   |2,_=>rfl
   |3,_=>rfl
   |4,_=>rfl
   |5,_=>rfl
   |6,_=>rfl
   |7,_=>rfl
   |j+8,h=>omega
  ·obtain⟨hi1,hi2⟩:1≤i∧i≤8:=hi
   have h1:=of_decide_eq_true h1
   have hi8:i < 8:=by omega
   have wi:(IntKind.i64.wrap ((i:Int) - 1))=((i - 1:Nat):Int):=by rw [wrap64 (by omega) (by omega)];omega
   have hsi:=hsz (i - 1) (by omega)
   have e:(if (IntKind.i64.wrap ((i:Int) - 1)).toNat < i then numB (M*2^(IntKind.i64.wrap ((i:Int) - 1)).toNat) else(⟨#[]⟩:ByteArray))=numB (M*2^(i - 1)):=by
    rw [wi,Int.toNat_natCast,if_pos (by omega)]
   with_unfolding_all refine⟨⟨by rw [wi];omega,by rw [wi];omega⟩,⟨by rw [wi];omega,by rw [wi];omega⟩,⟨by rw [e];omega,by rw [e];omega⟩,⟨by omega,by omega⟩,i+1,[some 0],⟨by omega,hi8⟩,by show 8 - (i+1) < 8 - i;omega,Wo ⟨qZ (fun j hj=>?_),qQ⟩ ⟨rfl,rfl,pP,?_,qQ⟩ trivial⟩
   ·have key:∀s:ByteArray,s=numB (M*2^(i - 1))→[PV.val (.string (if j < i+1 then numB (M*2^j) else⟨#[]⟩))]=if j=(i:Int).toNat then [PV.val (.string (numB (bv s+bv s)))] else [PV.val (.string (if j < i then numB (M*2^j) else⟨#[]⟩))]:=fun s hs=>by
     rw [hs,bv_numB,Int.toNat_natCast]
     rcases Nat.lt_trichotomy j i with h3|h3|h3
     ·rw [if_pos (by omega),if_neg (by omega),if_pos h3]
     ·obtain⟨d,rfl⟩:∃d,i=d+1:=⟨i - 1,by omega⟩
      rw [if_pos (by omega),if_pos h3,h3,Nat.add_sub_cancel,Nat.pow_succ,←Nat.two_mul,Nat.mul_comm 2,Nat.mul_assoc]
     ·rw [if_neg (by omega),if_neg (by omega),if_neg (by omega)]
    exact key _ e
   ·show PV.val (.int .i64 (IntKind.i64.wrap ((i:Int)+1)))=PV.val (.int .i64 ((i+1:Nat):Int))
    rw [wrap64 (by omega) (by omega)]
    rfl
  ·obtain⟨hi1,hi2⟩:1≤i∧i≤8:=hi
   have h1:=of_decide_eq_false h1
   obtain rfl:i=8:=by omega
   obtain⟨n,hn⟩:∃n:Nat,n=b.size:=⟨_,rfl⟩
   with_unfolding_all refine⟨⟨by omega,by omega,by omega,by show(1:Int)*(b.size:Nat)≤_;omega⟩,Nat,fun i=>i≤n,fun i=>stOf [(0,.val (.string b)),(6,.ptr 0 0 0 0),(8,.sl 1 1 0 n),(9,.val (.string (numB (N / 256^(n - i)%M)))),(10,.val (goInt i))] [⟨247,1,0,false,true,8,fun j=>[.val (.string (numB (M*2^j)))]⟩,⟨5,1,1,false,false,n,fun j=>if j < i then bytG (N / M) n j else [.val (.int .u8 0)]⟩] 2 [],fun i=>n - i,
    ⟨0,[some 0,some 1],Nat.zero_le _,Wo ⟨qZ (fun j hj=>?_),⟨lt_ok rfl,rfl,rfl,rfl,rfl,hn,fun j hj=>?_⟩,qQ⟩ ⟨rfl,pP,⟨rfl,rfl,?_,lt_ok rfl,_,rfl⟩,?_,rfl,qQ⟩ trivial⟩,fun i hi=>⟨fun h2=>?_,fun h2=>?_⟩⟩
   ·have hj:j < 8:=hj
    show [PV.val (.string (numB (M*2^j)))]=[PV.val (.string (if j < 8 then numB (M*2^j) else⟨#[]⟩))]
    rw [if_pos hj]
   ·show(if j < 0 then bytG (N / M) n j else [PV.val (.int .u8 0)])=[PV.val (.int .u8 0)]
    rw [if_neg (by omega)]
   ·exact hn.symm
   ·show PV.val (.string ⟨#[]⟩)=PV.val (.string (numB (N / 256^(n - 0)%M)))
    rw [Nat.sub_zero,Nat.div_eq_of_lt (by rw [hn];exact hN),Nat.zero_mod,numB_nil0]
   ·replace hi:i≤n:=hi
    have h2:=ltT h2
    have hin:i < n:=by omega
    have hM0:0 < M:=by omega
    have wi:IntKind.i64.wrap ((i:Int)+1)=((i+1:Nat):Int):=by rw [wrap64 (by omega) (by omega)];rfl
    have hnx:=bv_next (b:=b) (i:=i) (by omega) (numB (N / 256^(n - i)%M))
    rw [bv_numB,←hNe,←hn] at hnx
    have hpx:N / 256^(n - (i+1))=N / 256^(n - i)*256+N / 256^(n - 1 - i)%256:=by
     obtain⟨k,rfl⟩:∃k,n=k+i+1:=⟨n - i - 1,by omega⟩
     rw [show k+i+1 - (i+1)=k by omega,show k+i+1 - i=k+1 by omega,show k+i+1 - 1 - i=k by omega,Nat.pow_succ,←Nat.div_div_eq_div_mul]
     omega
    have hdd:N / M / 256^(n - 1 - i)=N / 256^(n - (i+1)) / M:=by
     rw [Nat.div_div_eq_div_mul,Nat.div_div_eq_div_mul,Nat.mul_comm,show n - 1 - i=n - (i+1) by omega]
    have hx:=Nat.mod_lt (N / 256^(n - 1 - i)) (show 0 < 256 by decide)
    have hrs:=hmod 0 (by omega) (N / 256^(n - i))
    have hes:(b.extract i (i+1)).size≤1:=by
     rw [ba_size,ba_extract,List.length_drop,List.length_take]
     omega
    rw [Nat.pow_zero,Nat.mul_one] at hrs
    obtain⟨st1,st2,st3⟩:=dm_step (p:=N / 256^(n - i)) hM0 hx
    rw [←hpx] at st1 st2
    generalize N / 256^(n - i)%M*256+N / 256^(n - 1 - i)%256=R at *
    with_unfolding_all refine⟨⟨by omega,by rw [wi];omega,by rw [wi];omega⟩,?_,Nat,fun j=>j≤8,fun j=>stOf [(0,.val (.string b)),(6,.ptr 0 0 0 0),(8,.sl 1 1 0 n),(9,.val (.string (numB (R%(M*2^(8 - j)))))),(10,.val (goInt i)),(11,.val (.int .i64 (R / (M*2^(8 - j))*2^(8 - j):Nat))),(12,.val (.int .i64 (7 - (j:Int))))] [⟨247,1,0,false,true,8,fun j=>[.val (.string (numB (M*2^j)))]⟩,⟨5,1,1,false,false,n,fun j=>if j < i then bytG (N / M) n j else [.val (.int .u8 0)]⟩] 2 [],fun j=>8 - j,
     ⟨0,[some 0,some 1],Nat.zero_le _,Wo ⟨qZ (fun j hj=>rfl),qZ (fun j hj=>rfl),qQ⟩ ⟨rfl,pP,pP,?_,rfl,?_,rfl,qQ⟩ trivial⟩,fun j hj=>⟨fun h3=>?_,fun h3=>?_⟩⟩
    ·rw [wi]
     show(numB (N / 256^(n - i)%M)).size+(b.extract (i:Int).toNat (((i+1:Nat):Int)).toNat).size≤9223372036854775807
     rw [Int.toNat_natCast,Int.toNat_natCast]
     omega
    ·have key:∀z:Int,z=((i+1:Nat):Int)→PV.val (.string (numB (bv (numB (N / 256^(n - i)%M)++b.extract (i:Int).toNat z.toNat))))=PV.val (.string (numB (R%(M*2^(8 - 0))))):=fun z hz=>by
      rw [hz,Int.toNat_natCast,Int.toNat_natCast,hnx,Nat.mod_eq_of_lt (show R < M*2^(8 - 0) from st3)]
     exact key _ wi
    ·show PV.val (.int .i64 0)=PV.val (.int .i64 ((R / (M*2^(8 - 0))*2^(8 - 0):Nat):Int))
     rw [Nat.div_eq_of_lt (show R < M*2^(8 - 0) from st3),Nat.zero_mul]
     rfl
    ·replace hj:j≤8:=hj
     have h3:0≤7 - (j:Int):=by have:=of_decide_eq_true h3;omega
     have hk:(7 - (j:Int)).toNat=7 - j:=by omega
     have hP:0 < M*2^(7 - j):=Nat.mul_pos hM0 (Nat.pow_pos (by decide))
     have hP2:M*2^(8 - j)=M*2^(7 - j)*2:=by rw [show 8 - j=7 - j+1 by omega,Nat.pow_succ,←Nat.mul_assoc]
     have hbs:=bit_step R hP
     rw [←hP2] at hbs
     have hd1:R / (M*2^(8 - j))*2^(8 - j)=R / (M*2^(8 - j))*2*2^(7 - j):=by rw [show 8 - j=7 - j+1 by omega,Nat.pow_succ,Nat.mul_assoc,Nat.mul_comm 2]
     have hdl:R / (M*2^(7 - j))*2^(7 - j) < 256:=by
      have h4:R / (M*2^(7 - j))*2^(7 - j)≤R / M:=by
       rw [←Nat.div_div_eq_div_mul]
       exact Nat.div_mul_le_self _ _
      have h5:R / M < 256:=by rw [Nat.div_lt_iff_lt_mul hM0];omega
      omega
     have hp7:(2:Nat)^(7 - j)≤2^7:=Nat.pow_le_pow_right (by decide) (by omega)
     have hz1:=hsz (7 - j) (by omega)
     have hz2:=hmod (8 - j) (by omega) R
     have w7:IntKind.i64.wrap (7 - (j:Int) - 1)=7 - ((j+1:Nat):Int):=by rw [wrap64 (by omega) (by omega)];omega
     have wu:(IntKind.u64.wrap (7 - (j:Int)))=((7 - j:Nat):Int):=by rw [show 7 - (j:Int)=((7 - j:Nat):Int) by omega,wrapN64 (by omega)]
     have h87:8 - (j+1)=7 - j:=by omega
     with_unfolding_all refine⟨⟨h3,by omega⟩,⟨numB_lead _,numB_lead _⟩,fun h4=>⟨⟨h3,by omega⟩,⟨?_,by omega,by rw [hk];omega⟩,by rw [wu];omega,j+1,[some 0,some 1],by show j+1≤8;omega,by show 8 - (j+1) < 8 - j;omega,Wo ⟨qZ (fun j hj=>rfl),qZ (fun j hj=>rfl),qQ⟩ ⟨rfl,pP,pP,?_,rfl,?_,congrArg (fun x=>PV.val (.int .i64 x)) w7,qQ⟩ trivial⟩,fun h4=>⟨j+1,[some 0,some 1],by show j+1≤8;omega,by show 8 - (j+1) < 8 - j;omega,Wo ⟨qZ (fun j hj=>rfl),qZ (fun j hj=>rfl),qQ⟩ ⟨rfl,pP,pP,?_,rfl,?_,congrArg (fun x=>PV.val (.int .i64 x)) w7,qQ⟩ trivial⟩⟩
     ·have h5:=of_decide_eq_true h4
      rw [bv_numB,bv_numB,hk] at h5 ⊢
      have:=mt cmp_lt.2 (show ¬cmpN (R%(M*2^(8 - j))) (M*2^(7 - j)) < 0 by omega)
      omega
     ·have h5:=of_decide_eq_true h4
      rw [bv_numB,bv_numB,hk] at h5
      have h6:M*2^(7 - j)≤R%(M*2^(8 - j)):=by
       have:=mt cmp_lt.2 (show ¬cmpN (R%(M*2^(8 - j))) (M*2^(7 - j)) < 0 by omega)
       omega
      have key:∀k:Nat,k=7 - j→PV.val (.string (numB (bv (numB (R%(M*2^(8 - j)))) - bv (numB (M*2^k)))))=PV.val (.string (numB (R%(M*2^(8 - (j+1)))))):=fun k hk=>by
       rw [hk,bv_numB,bv_numB,(hbs.1 h6).1,h87]
      exact key _ hk
     ·have h5:=of_decide_eq_true h4
      rw [bv_numB,bv_numB,hk] at h5
      have h6:M*2^(7 - j)≤R%(M*2^(8 - j)):=by
       have:=mt cmp_lt.2 (show ¬cmpN (R%(M*2^(8 - j))) (M*2^(7 - j)) < 0 by omega)
       omega
      have key:∀w:Int,w=((7 - j:Nat):Int)→PV.val (.int .i64 (IntKind.i64.wrap (((R / (M*2^(8 - j))*2^(8 - j):Nat):Int)+IntKind.i64.wrap (1*2^min w.toNat IntKind.i64.bits))))=PV.val (.int .i64 ((R / (M*2^(8 - (j+1)))*2^(8 - (j+1)):Nat):Int)):=fun w hw=>by
       have e2:(1:Int)*2^min w.toNat IntKind.i64.bits=((2^(7 - j):Nat):Int):=by
        rw [hw,Int.toNat_natCast,show min (7 - j) IntKind.i64.bits=7 - j from Nat.min_eq_left (by show 7 - j≤64;omega),Int.one_mul]
        simp
       have e3:R / (M*2^(8 - j))*2^(8 - j)+2^(7 - j)=R / (M*2^(7 - j))*2^(7 - j):=by
        rw [hd1,←(hbs.1 h6).2,Nat.add_mul (R / (M*2^(8 - j))*2) 1,Nat.one_mul]
       rw [e2,h87,←e3]
       rw [←e3] at hdl
       clear hd1 e2 e3 hbs
       generalize R / (M*2^(8 - j))*2^(8 - j)=D at *
       generalize 2^(7 - j)=T at *
       rw [wrap64 (x:=(T:Int)) (by omega) (by omega),wrap64 (by omega) (by omega)]
       rfl
      exact key _ wu
     ·have h5:=of_decide_eq_false h4
      rw [bv_numB,bv_numB,hk] at h5
      have h6:R%(M*2^(8 - j)) < M*2^(7 - j):=cmp_lt.1 (by omega)
      show PV.val (.string (numB (R%(M*2^(8 - j)))))=PV.val (.string (numB (R%(M*2^(8 - (j+1))))))
      rw [(hbs.2 h6).1,h87]
     ·have h5:=of_decide_eq_false h4
      rw [bv_numB,bv_numB,hk] at h5
      have h6:R%(M*2^(8 - j)) < M*2^(7 - j):=cmp_lt.1 (by omega)
      show PV.val (.int .i64 ((R / (M*2^(8 - j))*2^(8 - j):Nat):Int))=PV.val (.int .i64 ((R / (M*2^(8 - (j+1)))*2^(8 - (j+1)):Nat):Int))
      rw [h87,hd1,(hbs.2 h6).2]
    ·replace hj:j≤8:=hj
     have h3:=of_decide_eq_false h3
     obtain rfl:j=8:=by omega
     have hq:R / (M*2^(8 - 8))*2^(8 - 8)=R / M:=by simp
     have hql:R / M < 256:=by rw [Nat.div_lt_iff_lt_mul hM0];omega
     with_unfolding_all refine⟨⟨by omega,by omega⟩,i+1,[some 0,some 1],by show i+1≤n;omega,by show n - (i+1) < n - i;omega,Wo ⟨qZ (fun j hj=>rfl),qZ (fun j hj=>?_),qQ⟩ ⟨rfl,pP,pP,?_,congrArg (fun x=>PV.val (.int .i64 x)) wi,qQ⟩ trivial⟩
     ·show(if j < i+1 then bytG (N / M) n j else [PV.val (.int .u8 0)])=if j=0+(i:Int).toNat then [PV.val (.int .u8 (IntKind.u8.wrap ((R / (M*2^(8 - 8))*2^(8 - 8):Nat):Int)))] else if j < i then bytG (N / M) n j else [PV.val (.int .u8 0)]
      rw [hq,Nat.zero_add,Int.toNat_natCast]
      rcases Nat.lt_trichotomy j i with h4|h4|h4
      ·rw [if_pos (by omega),if_neg (by omega),if_pos h4]
      ·rw [if_pos (by omega),if_pos h4,h4,wrapU8]
       simp only [bytG]
       rw [hdd,st2]
       exact congrArg (fun x=>[PV.val (.int .u8 x)]) (by omega)
      ·rw [if_neg (by omega),if_neg (by omega),if_neg (by omega)]
     ·show PV.val (.string (numB (R%(M*2^(8 - 8)))))=PV.val (.string (numB (N / 256^(n - (i+1))%M)))
      rw [st1]
      simp
   ·have h2:=ltF h2
    replace hi:i≤n:=hi
    obtain rfl:i=n:=by omega
    have hQ:N / M < 256^i:=by
     have:=Nat.div_le_self N M
     rw [hn]
     omega
    have hv:bv (strOf i (fun j=>if 0+j < i then bytG (N / M) i (0+j) else [PV.val (.int .u8 0)]))=N / M:=by
     rw [strOf_bytG (fun k _=>by rw [if_pos (by omega),Nat.zero_add]),Nat.mod_eq_of_lt hQ]
    have hr:N / 256^(i - i)%M=N%M:=by simp
    with_unfolding_all refine⟨fun k hk=>?_,[],stOf [(4,.val (.string (numB (N / M)))),(5,.val (.string (numB (N%M))))] [] 0 [],Wo trivial ⟨congrArg (fun x=>PV.val (.string (numB x))) hv,congrArg (fun x=>PV.val (.string (numB x))) hr,qQ⟩ trivial,rfl,rfl⟩
    show ∃q:Int,(if 0+k < i then bytG (N / M) i (0+k) else [PV.val (.int .u8 0)])=[PV.val (.int .u8 q)]
    split
    ·exact⟨_,rfl⟩
    ·exact⟨_,rfl⟩
 ·cases e
end Go.Proofs
namespace Go.Num
open Go Go.Ex
def isIk (k:Nat) (v:Value):Prop:=∃s b,v=.agg ⟨[.bool s,.string b]⟩∧b.size≤k
end Go.Num
namespace Go.Num
theorem cmp_eq0 {a b:Nat} (h:(cmpN a b==0)=true):a=b:=by
 have h:=eq_of_beq h
 unfold cmpN at h
 split at h
 ·omega
 ·split at h<;>omega
theorem cmp_gt {a b:Nat} (h:decide (cmpN a b > 0)=true):b < a:=by
 have h:=of_decide_eq_true h
 unfold cmpN at h
 split at h
 ·omega
 ·split at h<;>omega
theorem cmp_ngt {a b:Nat} (h:decide (cmpN a b > 0)=false):a≤b:=by
 have h:=of_decide_eq_false h
 unfold cmpN at h
 split at h
 ·omega
 ·split at h<;>omega
theorem sgn_add {X Y:Int} (h:(decide (X < 0)==decide (Y < 0))=true):decide (X < 0)=decide (X+Y < 0)∧X.natAbs+Y.natAbs=(X+Y).natAbs:=by
 have h:=eq_of_beq h
 rw [decide_eq_decide] at h
 rw [decide_eq_decide]
 omega
theorem sgn_ne {X Y:Int} (h:(decide (X < 0)==decide (Y < 0))=false):¬(X < 0↔Y < 0):=fun e=>by
 rw [decide_eq_decide.2 e,beq_self_eq_true] at h
 cases h
end Go.Num
namespace Go.Proofs
open Go Go.Ex Go.Num
set_option maxRecDepth 100000
def c225:List PV→Option Ans
 |[.val v,.val u]=>some ⟨some (isIk 17179869184 v∧isIk 17179869184 u),.val (intV (rdI v+rdI u)),[]⟩
 |_=>none
def D225:Opt:={ join:=joinAt [2],perm:=atRs [(1,[(0,true),(2,true),(1,false),(3,false)]),(3,[(0,true),(2,true),(1,false),(3,false)]),(5,rds 6++[(6,false)]),(10,rds 6++[(6,false)]),(11,rds 6++[(6,false)])] }
theorem ok225:funcOk D225.toOrd Tryz.f225 2=true:=by kernel_rfl
theorem f225:FnOk Tryz.prog 225 c225:=by
 refine FnOk.ofW orders (mkE_ok (l:=[(230,c230),(232,c232),(226,c226),(245,c245),(231,c231),(246,c246)]) (own:=[]) (inl:=[]) (by simp [f230,f232,f226,f245,f231,f246]) (by simp)) Tryz.func225 D225 2 ok225 fun args r e=>?_
 unfold c225 at e
 split at e
 ·rename_i v u
  cases e
  refine⟨by simp,fun hm=>?_⟩
  obtain⟨⟨s,b,rfl,hb⟩,q,c,rfl,hc⟩:=hm _ rfl
  refine⟨[],stOf [(0,.val (.agg ⟨[.bool s,.string b]⟩)),(1,.val (.agg ⟨[.bool q,.string c]⟩))] [] 0 [],Wo trivial ⟨rfl,rfl,qQ⟩ trivial,?_⟩
  have hXb:=bv_lt b
  have hYb:=bv_lt c
  have hX:(sgn s (bv b)).natAbs=bv b:=sgn_natAbs _ _
  have hY:(sgn q (bv c)).natAbs=bv c:=sgn_natAbs _ _
  have i1:isI (.agg ⟨[.bool s,.string b]⟩):=⟨_,_,rfl,by omega⟩
  have i2:isI (.agg ⟨[.bool q,.string c]⟩):=⟨_,_,rfl,by omega⟩
  have hxs:(numB (sgn s (bv b)).natAbs).size≤b.size:=numB_le (by rw [hX];exact hXb)
  have hys:(numB (sgn q (bv c)).natAbs).size≤c.size:=numB_le (by rw [hY];exact hYb)
  obtain⟨X,hXe⟩:∃X,X=sgn s (bv b):=⟨_,rfl⟩
  obtain⟨Y,hYe⟩:∃Y,Y=sgn q (bv c):=⟨_,rfl⟩
  have hrv:rdI (.agg ⟨[.bool s,.string b]⟩)=X:=hXe.symm
  have hru:rdI (.agg ⟨[.bool q,.string c]⟩)=Y:=hYe.symm
  rw [←hXe] at hxs
  rw [←hYe] at hys
  have z1:PV.val (.bool false)=PV.val (.bool (decide ((0:Int) < 0))):=rfl
  have z2:PV.val (.string ⟨#[]⟩)=PV.val (.string (numB (0:Int).natAbs)):=by rw [show(0:Int).natAbs=0 from rfl,numB_nil0]
  rw [hrv,hru]
  clear hX hY
  with_unfolding_all refine⟨i1,i2,?_⟩
  rw [hrv,hru]
  clear hrv hru hXe hYe i1 i2 hXb hYb
  have hrx:rdI (.agg ⟨[.bool (decide (X < 0)),.string (numB X.natAbs)]⟩)=X:=rdI_intV X
  have hry:rdI (.agg ⟨[.bool (decide (Y < 0)),.string (numB Y.natAbs)]⟩)=Y:=rdI_intV Y
  have hn7:∀Z:Int,(numB Z.natAbs).size < 8→Z.natAbs < 72057594037927936:=fun Z hz=>by
   have h1:=bv_lt (numB Z.natAbs)
   rw [bv_numB] at h1
   have h2:256^(numB Z.natAbs).size≤256^7:=Nat.pow_le_pow_right (by decide) (by omega)
   omega
  with_unfolding_all refine⟨Unit,fun _=>True,fun _=>stOf [(2,.ptr 0 0 0 0),(3,.ptr 1 1 0 0),(4,.ptr 2 2 0 0)] [boxI X 0,boxI Y 1,boxI 0 2] 3 [],⟨fun h1=>⟨fun h2=>⟨?_,?_,?_,?_⟩,fun h2=>⟨(),[some 0,some 1,some 2],trivial,Wo ⟨qJ,qJ,qZ ⟨⟨z1,rfl⟩,⟨z2,rfl⟩,qQ⟩,qQ⟩ ⟨pP,pP,pP,qQ⟩ trivial⟩⟩,fun h1=>⟨fun h2=>(nomatch h2),fun h2=>⟨(),[some 0,some 1,some 2],trivial,Wo ⟨qJ,qJ,qZ ⟨⟨z1,rfl⟩,⟨z2,rfl⟩,qQ⟩,qQ⟩ ⟨pP,pP,pP,qQ⟩ trivial⟩⟩⟩,fun _ _=>?_⟩
  ·have h1:=of_decide_eq_true h1
   exact⟨_,_,rfl,by omega⟩
  ·have h2:=of_decide_eq_true h2
   exact⟨_,_,rfl,by omega⟩
  ·have h1:=hn7 X (by have:=of_decide_eq_true h1;omega)
   have h2:=hn7 Y (by have:=of_decide_eq_true h2;omega)
   have key:∀x y:Int,x=X→y=Y→(IntKind.i64.wrap (x+y)).natAbs < 4611686018427387904:=fun x y hx hy=>by
    rw [hx,hy,wrap64 (by omega) (by omega)]
    omega
   exact key _ _ hrx hry
  ·have h1:=hn7 X (by have:=of_decide_eq_true h1;omega)
   have h2:=hn7 Y (by have:=of_decide_eq_true h2;omega)
   have key:∀x y:Int,x=X→y=Y→IntKind.i64.wrap (x+y)=X+Y:=fun x y hx hy=>by
    rw [hx,hy,wrap64 (by omega) (by omega)]
   have hw:=key _ _ hrx hry
   with_unfolding_all refine⟨[some 2],stOf [(4,.ptr 0 0 0 0)] [boxI (X+Y) 0] 1 [],Wo ⟨qZ ⟨⟨congrArg (fun z:Int=>PV.val (.bool (decide (z < 0)))) hw,rfl⟩,⟨congrArg (fun z:Int=>PV.val (.string (numB z.natAbs))) hw,rfl⟩,qQ⟩,qQ⟩ ⟨pP,qQ⟩ trivial,rfl,rfl⟩
  ·with_unfolding_all refine⟨fun h1=>⟨⟨by omega,by omega⟩,⟨[some 2],stOf [(4,.ptr 0 0 0 0)] [boxI (X+Y) 0] 1 [],Wo ⟨qZ ⟨⟨congrArg (fun z=>PV.val (.bool z)) (sgn_add h1).1,rfl⟩,⟨?_,rfl⟩,qQ⟩,qQ⟩ ⟨pP,qQ⟩ trivial,rfl,rfl⟩⟩,fun h1=>⟨⟨numB_lead _,numB_lead _⟩,fun h2=>⟨[some 2],stOf [(4,.ptr 0 0 0 0)] [boxI (X+Y) 0] 1 [],Wo ⟨qZ ⟨⟨?_,rfl⟩,⟨?_,rfl⟩,qQ⟩,qQ⟩ ⟨pP,qQ⟩ trivial,rfl,rfl⟩,fun h2=>⟨fun h3=>⟨⟨?_,by omega,by omega⟩,⟨[some 2],stOf [(4,.ptr 0 0 0 0)] [boxI (X+Y) 0] 1 [],Wo ⟨qZ ⟨⟨?_,rfl⟩,⟨?_,rfl⟩,qQ⟩,qQ⟩ ⟨pP,qQ⟩ trivial,rfl,rfl⟩⟩,fun h3=>⟨⟨?_,by omega,by omega⟩,⟨[some 2],stOf [(4,.ptr 0 0 0 0)] [boxI (X+Y) 0] 1 [],Wo ⟨qZ ⟨⟨?_,rfl⟩,⟨?_,rfl⟩,qQ⟩,qQ⟩ ⟨pP,qQ⟩ trivial,rfl,rfl⟩⟩⟩⟩⟩
   ·show PV.val (.string (numB (bv (numB X.natAbs)+bv (numB Y.natAbs))))=PV.val (.string (numB (X+Y).natAbs))
    rw [bv_numB,bv_numB,(sgn_add h1).2]
   ·have h4:=cmp_eq0 h2
    have h5:=sgn_ne h1
    rw [bv_numB,bv_numB] at h4
    show PV.val (.bool false)=PV.val (.bool (decide (X+Y < 0)))
    rw [decide_eq_false (by omega)]
   ·have h4:=cmp_eq0 h2
    have h5:=sgn_ne h1
    rw [bv_numB,bv_numB] at h4
    show PV.val (.string ⟨#[]⟩)=PV.val (.string (numB (X+Y).natAbs))
    rw [show(X+Y).natAbs=0 by omega,numB_nil0]
   ·have h4:=cmp_gt h3
    omega
   ·have h4:=cmp_gt h3
    have h5:=sgn_ne h1
    rw [bv_numB,bv_numB] at h4
    exact congrArg (fun z=>PV.val (.bool z)) (decide_eq_decide.2 (by omega))
   ·have h4:=cmp_gt h3
    have h5:=sgn_ne h1
    show PV.val (.string (numB (bv (numB X.natAbs) - bv (numB Y.natAbs))))=PV.val (.string (numB (X+Y).natAbs))
    rw [bv_numB,bv_numB] at *
    exact congrArg (fun z=>PV.val (.string (numB z))) (by omega)
   ·exact cmp_ngt h3
   ·have h4:=cmp_ngt h3
    have h5:=sgn_ne h1
    have h6:¬bv (numB X.natAbs)=bv (numB Y.natAbs):=fun e=>by rw [e] at h2;simp [cmpN] at h2
    rw [bv_numB,bv_numB] at h4 h6
    exact congrArg (fun z=>PV.val (.bool z)) (decide_eq_decide.2 (by omega))
   ·have h4:=cmp_ngt h3
    have h5:=sgn_ne h1
    show PV.val (.string (numB (bv (numB Y.natAbs) - bv (numB X.natAbs))))=PV.val (.string (numB (X+Y).natAbs))
    rw [bv_numB,bv_numB] at *
    exact congrArg (fun z=>PV.val (.string (numB z))) (by omega)
 ·cases e
end Go.Proofs
namespace Go.Num
open Go Go.Ex
theorem numB_is0 {n:Nat}:((numB n).toList==(⟨#[]⟩:ByteArray).toList)=decide (n=0):=by
 have h:=@numB_nil n
 cases hc:((numB n).toList==(⟨#[]⟩:ByteArray).toList)
 ·rw [hc] at h
  exact(decide_eq_false (of_decide_eq_true h.symm)).symm
 ·rw [hc] at h
  have:=of_decide_eq_false h.symm
  exact(decide_eq_true (by omega)).symm
theorem size7 {Z:Int} (hz:(numB Z.natAbs).size < 8):Z.natAbs < 72057594037927936:=by
 have h1:=bv_lt (numB Z.natAbs)
 rw [bv_numB] at h1
 have h2:256^(numB Z.natAbs).size≤256^7:=Nat.pow_le_pow_right (by decide) (by omega)
 omega
theorem isIk_intV {z:Int} {k n:Nat} (h:z.natAbs < 256^k) (hk:k≤n):isIk n (intV z):=⟨_,_,rfl,Nat.le_trans (numB_le h) hk⟩
end Go.Num
namespace Go.Proofs
open Go Go.Ex Go.Num
set_option maxRecDepth 100000
def c251:List PV→Option Ans
 |[.val v,.val u]=>some ⟨some (isIk 17179869184 v∧isIk 17179869184 u),.val (intV (rdI v - rdI u)),[]⟩
 |_=>none
def D251:Opt:={ perm:=atR 1 (rds 2++[(2,false)]) }
theorem ok251:funcOk D251.toOrd Tryz.f251 2=true:=by kernel_rfl
theorem f251:FnOk Tryz.prog 251 c251:=by
 refine FnOk.ofW orders (mkE_ok (l:=[(227,c227),(225,c225)]) (own:=[]) (inl:=[]) (by simp [f227,f225]) (by simp)) Tryz.func251 D251 2 ok251 fun args r e=>?_
 unfold c251 at e
 split at e
 ·rename_i v u
  cases e
  refine⟨by simp,fun hm=>?_⟩
  obtain⟨⟨s,b,rfl,hb⟩,q,c,rfl,hc⟩:=hm _ rfl
  refine⟨[],stOf [(0,.val (.agg ⟨[.bool s,.string b]⟩)),(1,.val (.agg ⟨[.bool q,.string c]⟩))] [] 0 [],Wo trivial ⟨rfl,rfl,qQ⟩ trivial,?_⟩
  have hYb:=bv_lt c
  have hz:(-(sgn q (bv c))).natAbs < 256^c.size:=by rw [Int.natAbs_neg,sgn_natAbs];exact hYb
  have hw:sgn s (bv b)+rdI (intV (-(sgn q (bv c))))=sgn s (bv b) - sgn q (bv c):=by rw [rdI_intV];omega
  with_unfolding_all refine⟨⟨_,_,rfl,by omega⟩,⟨⟨_,_,rfl,hb⟩,isIk_intV hz hc⟩,[some 2],stOf [(4,.ptr 0 0 0 0)] [boxI (sgn s (bv b) - sgn q (bv c)) 0] 1 [],Wo ⟨qZ ⟨⟨congrArg (fun z:Int=>PV.val (.bool (decide (z < 0)))) hw,rfl⟩,⟨congrArg (fun z:Int=>PV.val (.string (numB z.natAbs))) hw,rfl⟩,qQ⟩,qQ⟩ ⟨pP,qQ⟩ trivial,rfl,rfl⟩
 ·cases e
def c186:List PV→Option Ans
 |[.val v,.val u]=>some ⟨some (isIk 17179869184 v∧isIk 17179869184 u),.val (intV (rdI v*rdI u)),[]⟩
 |_=>none
def D186:Opt:={ join:=joinAt [2],perm:=atRs [(1,[(0,true),(2,true),(1,false),(3,false)]),(5,[(0,true),(2,true),(1,false),(3,false)]),(6,rds 9++[(9,false)])] }
theorem ok186:funcOk D186.toOrd Tryz.f186 2=true:=by kernel_rfl
theorem f186:FnOk Tryz.prog 186 c186:=by
 refine FnOk.ofW orders (mkE_ok (l:=[(230,c230),(232,c232),(226,c226),(233,c233)]) (own:=[]) (inl:=[]) (by simp [f230,f232,f226,f233]) (by simp)) Tryz.func186 D186 2 ok186 fun args r e=>?_
 unfold c186 at e
 split at e
 ·rename_i v u
  cases e
  refine⟨by simp,fun hm=>?_⟩
  obtain⟨⟨s,b,rfl,hb⟩,q,c,rfl,hc⟩:=hm _ rfl
  refine⟨[],stOf [(0,.val (.agg ⟨[.bool s,.string b]⟩)),(1,.val (.agg ⟨[.bool q,.string c]⟩))] [] 0 [],Wo trivial ⟨rfl,rfl,qQ⟩ trivial,?_⟩
  have hXb:=bv_lt b
  have hYb:=bv_lt c
  have hX:(sgn s (bv b)).natAbs=bv b:=sgn_natAbs _ _
  have hY:(sgn q (bv c)).natAbs=bv c:=sgn_natAbs _ _
  have i1:isI (.agg ⟨[.bool s,.string b]⟩):=⟨_,_,rfl,by omega⟩
  have i2:isI (.agg ⟨[.bool q,.string c]⟩):=⟨_,_,rfl,by omega⟩
  have hxs:(numB (sgn s (bv b)).natAbs).size≤b.size:=numB_le (by rw [hX];exact hXb)
  have hys:(numB (sgn q (bv c)).natAbs).size≤c.size:=numB_le (by rw [hY];exact hYb)
  obtain⟨X,hXe⟩:∃X,X=sgn s (bv b):=⟨_,rfl⟩
  obtain⟨Y,hYe⟩:∃Y,Y=sgn q (bv c):=⟨_,rfl⟩
  have hrv:rdI (.agg ⟨[.bool s,.string b]⟩)=X:=hXe.symm
  have hru:rdI (.agg ⟨[.bool q,.string c]⟩)=Y:=hYe.symm
  rw [←hXe] at hxs
  rw [←hYe] at hys
  have z1:PV.val (.bool false)=PV.val (.bool (decide ((0:Int) < 0))):=rfl
  have z2:PV.val (.string ⟨#[]⟩)=PV.val (.string (numB (0:Int).natAbs)):=by rw [show(0:Int).natAbs=0 from rfl,numB_nil0]
  rw [hrv,hru]
  clear hX hY
  with_unfolding_all refine⟨i1,i2,?_⟩
  rw [hrv,hru]
  clear hrv hru hXe hYe i1 i2 hXb hYb
  have hrx:rdI (.agg ⟨[.bool (decide (X < 0)),.string (numB X.natAbs)]⟩)=X:=rdI_intV X
  have hry:rdI (.agg ⟨[.bool (decide (Y < 0)),.string (numB Y.natAbs)]⟩)=Y:=rdI_intV Y
  with_unfolding_all refine⟨Unit,fun _=>X≠0∧Y≠0,fun _=>stOf [(2,.ptr 0 0 0 0),(3,.ptr 1 1 0 0),(4,.ptr 2 2 0 0)] [boxI X 0,boxI Y 1,boxI 0 2] 3 [],?_,fun _ hxy=>?_⟩
  ·with_unfolding_all refine⟨fun h1=>⟨fun h2=>⟨[some 2],stOf [(4,.ptr 0 0 0 0)] [boxI (X*Y) 0] 1 [],Wo ⟨qZ ⟨⟨?_,rfl⟩,⟨?_,rfl⟩,qQ⟩,qQ⟩ ⟨pP,qQ⟩ trivial,rfl,rfl⟩,fun h2=>⟨(),[some 0,some 1,some 2],?_,Wo ⟨qJ,qJ,qZ ⟨⟨z1,rfl⟩,⟨z2,rfl⟩,qQ⟩,qQ⟩ ⟨pP,pP,pP,qQ⟩ trivial⟩⟩,fun h1=>⟨fun h2=>⟨[some 2],stOf [(4,.ptr 0 0 0 0)] [boxI (X*Y) 0] 1 [],Wo ⟨qZ ⟨⟨?_,rfl⟩,⟨?_,rfl⟩,qQ⟩,qQ⟩ ⟨pP,qQ⟩ trivial,rfl,rfl⟩,fun h2=>(nomatch h2)⟩⟩
   ·rw [numB_is0] at h2
    have h2:=of_decide_eq_true h2
    have e:X*Y=0:=by rw [Int.natAbs_eq_zero.1 h2,Int.mul_zero]
    rw [e]
    rfl
   ·rw [numB_is0] at h2
    have h2:=of_decide_eq_true h2
    have e:X*Y=0:=by rw [Int.natAbs_eq_zero.1 h2,Int.mul_zero]
    rw [e]
    exact z2
   ·rw [numB_is0] at h1 h2
    have h1:=of_decide_eq_false h1
    have h2:=of_decide_eq_false h2
    exact⟨by omega,by omega⟩
   ·have h1:((numB X.natAbs).toList==(⟨#[]⟩:ByteArray).toList)=true:=h1
    rw [numB_is0] at h1
    have h1:=of_decide_eq_true h1
    have e:X*Y=0:=by rw [Int.natAbs_eq_zero.1 h1,Int.zero_mul]
    rw [e]
    rfl
   ·have h1:((numB X.natAbs).toList==(⟨#[]⟩:ByteArray).toList)=true:=h1
    rw [numB_is0] at h1
    have h1:=of_decide_eq_true h1
    have e:X*Y=0:=by rw [Int.natAbs_eq_zero.1 h1,Int.zero_mul]
    rw [e]
    exact z2
  ·obtain⟨hx0,hy0⟩:X≠0∧Y≠0:=hxy
   have wl:IntKind.i64.wrap (((numB X.natAbs).size:Int)+((numB Y.natAbs).size:Int))=(((numB X.natAbs).size+(numB Y.natAbs).size:Nat):Int):=by rw [wrap64 (by omega) (by omega)];rfl
   have hb1:=bv_lt (numB X.natAbs)
   have hb2:=bv_lt (numB Y.natAbs)
   rw [bv_numB] at hb1 hb2
   have hsm:(numB X.natAbs).size+(numB Y.natAbs).size < 8→(X*Y).natAbs < 72057594037927936:=fun h=>by
    rw [Int.natAbs_mul]
    have h2:256^((numB X.natAbs).size+(numB Y.natAbs).size)≤256^7:=Nat.pow_le_pow_right (by decide) (by omega)
    have h3:=Nat.mul_lt_mul'' hb1 hb2
    rw [←Nat.pow_add] at h3
    omega
   have key:(numB X.natAbs).size+(numB Y.natAbs).size < 8→∀x y:Int,x=X→y=Y→IntKind.i64.wrap (x*y)=X*Y:=fun h x y hx hy=>by
    have:=hsm h
    rw [hx,hy,wrap64 (by omega) (by omega)]
   have hlt:decide (IntKind.i64.wrap (((numB X.natAbs).size:Int)+((numB Y.natAbs).size:Int)) < 8)=true→(numB X.natAbs).size+(numB Y.natAbs).size < 8:=fun h=>by
    have:=of_decide_eq_true h
    omega
   with_unfolding_all refine⟨fun h1=>⟨⟨_,_,rfl,?_⟩,⟨_,_,rfl,?_⟩,?_,[some 2],stOf [(4,.ptr 0 0 0 0)] [boxI (X*Y) 0] 1 [],Wo ⟨qZ ⟨⟨?_,rfl⟩,⟨?_,rfl⟩,qQ⟩,qQ⟩ ⟨pP,qQ⟩ trivial,rfl,rfl⟩,fun h1=>⟨⟨by omega,by omega⟩,[some 2],stOf [(4,.ptr 0 0 0 0)] [boxI (X*Y) 0] 1 [],Wo ⟨qZ ⟨⟨?_,rfl⟩,⟨?_,rfl⟩,qQ⟩,qQ⟩ ⟨pP,qQ⟩ trivial,rfl,rfl⟩⟩
   ·have:=hlt h1
    omega
   ·have:=hlt h1
    omega
   ·have e:=key (hlt h1) _ _ hrx hry
    have h2:=hsm (hlt h1)
    have k2:∀z:Int,z=X*Y→z.natAbs < 4611686018427387904:=fun z hz=>by rw [hz];omega
    exact k2 _ e
   ·exact congrArg (fun z:Int=>PV.val (.bool (decide (z < 0)))) (key (hlt h1) _ _ hrx hry)
   ·exact congrArg (fun z:Int=>PV.val (.string (numB z.natAbs))) (key (hlt h1) _ _ hrx hry)
   ·show PV.val (.bool (!(decide (X < 0)==decide (Y < 0))))=PV.val (.bool (decide (X*Y < 0)))
    refine congrArg (fun z=>PV.val (.bool z)) ?_
    rcases Int.lt_or_gt_of_ne hx0 with hx|hx<;>rcases Int.lt_or_gt_of_ne hy0 with hy|hy
    ·have:=Int.mul_pos_of_neg_of_neg hx hy
     rw [decide_eq_true hx,decide_eq_true hy,decide_eq_false (by omega)]
     rfl
    ·have:=Int.mul_neg_of_neg_of_pos hx hy
     rw [decide_eq_true hx,decide_eq_false (by omega),decide_eq_true this]
     rfl
    ·have:=Int.mul_neg_of_pos_of_neg hx hy
     rw [decide_eq_false (by omega),decide_eq_true hy,decide_eq_true this]
     rfl
    ·have:=Int.mul_pos hx hy
     rw [decide_eq_false (by omega),decide_eq_false (by omega),decide_eq_false (by omega)]
     rfl
   ·show PV.val (.string (numB (bv (numB X.natAbs)*bv (numB Y.natAbs))))=PV.val (.string (numB (X*Y).natAbs))
    rw [bv_numB,bv_numB,Int.natAbs_mul]
 ·cases e
end Go.Proofs
namespace Go.Proofs
open Go Go.Ex Go.Num
set_option maxRecDepth 100000
def c229:List PV→Option Ans
 |[.val v,.val u]=>some ⟨some ((isIk 8589934592 v∧isIk 8589934592 u)∧0 < rdI u∧rdI u∣rdI v),.val (.tuple ⟨[intV (rdI v / rdI u),intV 0,.int .i64 0]⟩),[]⟩
 |_=>none
def D229:Opt:={ join:=joinAt [5,10],all:=atTs [(17,.alt 0 (.alt 1 (OT.seq [2,3,4] .nil) (OT.seq [2,1,3,4] .nil)) (OT.seq [1,0,2,3,4] .nil))],perm:=atRs [(1,[(0,true),(2,true),(1,false),(3,false)]),(6,[(0,true),(1,true),(3,true),(4,true),(2,false),(5,false)]),(7,[(0,true),(1,true),(2,true),(4,true),(5,true),(6,true),(3,false),(7,false)]),(13,[(0,true),(1,false),(2,false)])] }
theorem ok229:funcOk D229.toOrd Tryz.f229 2=true:=by kernel_rfl
theorem f229:FnOk Tryz.prog 229 c229:=by
 refine FnOk.ofW orders (mkE_ok (l:=[(230,c230),(250,c250),(226,c226),(249,c249),(227,c227),(251,c251)]) (own:=[]) (inl:=[]) (by simp [f230,f250,f226,f249,f227,f251]) (by simp)) Tryz.func229 D229 2 ok229 fun args r e=>?_
 unfold c229 at e
 split at e
 ·rename_i v u
  cases e
  refine⟨by simp,fun hm=>?_⟩
  obtain⟨⟨⟨s,b,rfl,hb⟩,q,c,rfl,hc⟩,hpos,hdvd⟩:=hm _ rfl
  refine⟨[],stOf [(0,.val (.agg ⟨[.bool s,.string b]⟩)),(1,.val (.agg ⟨[.bool q,.string c]⟩))] [] 0 [],Wo trivial ⟨rfl,rfl,qQ⟩ trivial,?_⟩
  have hXb:=bv_lt b
  have hYb:=bv_lt c
  have hX:(sgn s (bv b)).natAbs=bv b:=sgn_natAbs _ _
  have hY:(sgn q (bv c)).natAbs=bv c:=sgn_natAbs _ _
  have i1:isI (.agg ⟨[.bool s,.string b]⟩):=⟨_,_,rfl,by omega⟩
  have i2:isI (.agg ⟨[.bool q,.string c]⟩):=⟨_,_,rfl,by omega⟩
  have hxs:(numB (sgn s (bv b)).natAbs).size≤b.size:=numB_le (by rw [hX];exact hXb)
  have hys:(numB (sgn q (bv c)).natAbs).size≤c.size:=numB_le (by rw [hY];exact hYb)
  obtain⟨X,hXe⟩:∃X,X=sgn s (bv b):=⟨_,rfl⟩
  obtain⟨Y,hYe⟩:∃Y,Y=sgn q (bv c):=⟨_,rfl⟩
  have hrv:rdI (.agg ⟨[.bool s,.string b]⟩)=X:=hXe.symm
  have hru:rdI (.agg ⟨[.bool q,.string c]⟩)=Y:=hYe.symm
  rw [←hXe] at hxs
  rw [←hYe] at hys
  have z1:PV.val (.bool false)=PV.val (.bool (decide ((0:Int) < 0))):=rfl
  have z2:PV.val (.string ⟨#[]⟩)=PV.val (.string (numB (0:Int).natAbs)):=by rw [show(0:Int).natAbs=0 from rfl,numB_nil0]
  rw [hru] at hpos
  rw [hrv,hru] at hdvd
  rw [hrv,hru]
  clear hX hY
  with_unfolding_all refine⟨i1,i2,?_⟩
  rw [hrv,hru]
  clear hrv hru hXe hYe i1 i2 hXb hYb
  have hrx:rdI (.agg ⟨[.bool (decide (X < 0)),.string (numB X.natAbs)]⟩)=X:=rdI_intV X
  have hry:rdI (.agg ⟨[.bool (decide (Y < 0)),.string (numB Y.natAbs)]⟩)=Y:=rdI_intV Y
  have hq:X / Y=if X < 0 then -((X.natAbs / Y.natAbs:Nat):Int) else((X.natAbs / Y.natAbs:Nat):Int):=by
   obtain⟨k,rfl⟩:=hdvd
   have hk:(Y*k).natAbs / Y.natAbs=k.natAbs:=by rw [Int.natAbs_mul,Nat.mul_div_cancel_left _ (by omega)]
   rw [hk,Int.mul_ediv_cancel_left _ (by omega)]
   split
   ·rename_i h
    have:k < 0:=by
     rcases(by omega:k < 0∨0≤k) with h2|h2
     ·exact h2
     ·have:=Int.mul_nonneg (show 0≤Y by omega) h2
      omega
    omega
   ·rename_i h
    have:0≤k:=by
     rcases(by omega:k < 0∨0≤k) with h2|h2
     ·have:=Int.mul_neg_of_pos_of_neg hpos h2
      omega
     ·exact h2
    omega
  have hr:X.natAbs%Y.natAbs=0:=Nat.mod_eq_zero_of_dvd (Int.natAbs_dvd_natAbs.2 hdvd)
  have hbx:=bv_lt (numB X.natAbs)
  have hby:=bv_lt (numB Y.natAbs)
  have hY0:Y.natAbs≠0:=by omega
  have hqs:=Nat.div_le_self X.natAbs Y.natAbs
  generalize hQe:X.natAbs / Y.natAbs=Q at *
  with_unfolding_all refine⟨fun h1=>?_,fun h1=>⟨Unit,fun _=>True,fun _=>stOf [(2,.ptr 0 0 0 0),(3,.ptr 1 1 0 0),(4,.ptr 2 2 0 0),(5,.ptr 3 3 0 0),(7,.ptr 4 4 0 0),(8,.ptr 5 5 0 0)] [boxI X 0,boxI Y 1,boxI 0 2,boxI 0 3,boxI (((Q:Nat):Int)) 4,boxI 0 5] 6 [],?_,fun _ _=>⟨Unit,fun _=>True,fun _=>stOf [(2,.ptr 0 0 0 0),(3,.ptr 1 1 0 0),(4,.ptr 2 2 0 0),(5,.ptr 3 3 0 0),(7,.ptr 4 4 0 0),(8,.ptr 5 5 0 0)] [boxI X 0,boxI Y 1,boxI 0 2,boxI 0 3,boxI (X / Y) 4,boxI 0 5] 6 [],?_,fun _ _=>?_⟩⟩⟩
  ·rw [numB_is0] at h1
   have h1:=of_decide_eq_true h1
   omega
  ·have hn1:((bv (numB Y.natAbs):Nat):Int)≠0:=by rw [bv_numB];omega
   have ht1:(((bv (numB X.natAbs):Nat):Int).tdiv ((bv (numB Y.natAbs):Nat):Int))=((Q:Nat):Int):=by rw [bv_numB,bv_numB,←hQe];rfl
   have ht2:(((bv (numB X.natAbs):Nat):Int).tmod ((bv (numB Y.natAbs):Nat):Int))=0:=by
    rw [bv_numB,bv_numB]
    show((X.natAbs%Y.natAbs:Nat):Int)=0
    rw [hr]
    rfl
   have hw1:(numB X.natAbs).size < 8→IntKind.i64.wrap (((bv (numB X.natAbs):Nat):Int).tdiv ((bv (numB Y.natAbs):Nat):Int))=((Q:Nat):Int):=fun h=>by
    have:=size7 h
    rw [ht1,wrap64 (by omega) (by omega)]
   have hw2:=ht2
   have hn2:(numB X.natAbs).size < 8→(IntKind.i64.wrap (((bv (numB X.natAbs):Nat):Int).tdiv ((bv (numB Y.natAbs):Nat):Int))).natAbs < 4611686018427387904:=fun h=>by
    have:=size7 h
    rw [hw1 h]
    omega
   have hn3:((((bv (numB X.natAbs):Nat):Int).tmod ((bv (numB Y.natAbs):Nat):Int))).natAbs < 4611686018427387904:=by rw [ht2];decide
   have hz1:PV.val (.bool false)=PV.val (.bool (decide (((Q:Nat):Int) < 0))):=by rw [decide_eq_false (by omega)]
   have hz2:PV.val (.string (numB (bv (numB X.natAbs) / bv (numB Y.natAbs))))=PV.val (.string (numB (((Q:Nat):Int)).natAbs)):=by rw [bv_numB,bv_numB,hQe];rfl
   have hz3:PV.val (.string (numB (bv (numB X.natAbs)%bv (numB Y.natAbs))))=PV.val (.string (numB (0:Int).natAbs)):=by rw [bv_numB,bv_numB,hr];rfl
   with_unfolding_all refine⟨fun h1=>⟨fun h2=>?_,fun h2=>⟨⟨⟨numB_lead _,by rw [bv_numB];exact hY0⟩,by omega,by omega⟩,⟨(),[some 0,some 1,some 2,some 3,some 4,some 5],trivial,Wo ⟨qJ,qJ,qZ ⟨⟨z1,rfl⟩,⟨z2,rfl⟩,qQ⟩,qZ ⟨⟨z1,rfl⟩,⟨z2,rfl⟩,qQ⟩,qZ ⟨⟨hz1,rfl⟩,⟨hz2,rfl⟩,qQ⟩,qZ ⟨⟨z1,rfl⟩,⟨hz3,rfl⟩,qQ⟩,qQ⟩ ⟨pP,pP,pP,pP,pP,pP,qQ⟩ trivial⟩⟩⟩,fun h1=>⟨fun h2=>(nomatch h2),fun h2=>⟨⟨⟨numB_lead _,by rw [bv_numB];exact hY0⟩,by omega,by omega⟩,⟨(),[some 0,some 1,some 2,some 3,some 4,some 5],trivial,Wo ⟨qJ,qJ,qZ ⟨⟨z1,rfl⟩,⟨z2,rfl⟩,qQ⟩,qZ ⟨⟨z1,rfl⟩,⟨z2,rfl⟩,qQ⟩,qZ ⟨⟨hz1,rfl⟩,⟨hz2,rfl⟩,qQ⟩,qZ ⟨⟨z1,rfl⟩,⟨hz3,rfl⟩,qQ⟩,qQ⟩ ⟨pP,pP,pP,pP,pP,pP,qQ⟩ trivial⟩⟩⟩⟩
   have h1:(numB X.natAbs).size < 8:=by have:=of_decide_eq_true h1;omega
   have h2:(numB Y.natAbs).size < 8:=by have:=of_decide_eq_true h2;omega
   have hw1:=hw1 h1
   have hn2:=hn2 h1
   with_unfolding_all exact⟨by omega,by omega,hn1,hn1,hn2,hn3,⟨(),[some 0,some 1,some 2,some 3,some 4,some 5],trivial,Wo ⟨qJ,qJ,qZ ⟨⟨z1,rfl⟩,⟨z2,rfl⟩,qQ⟩,qZ ⟨⟨z1,rfl⟩,⟨z2,rfl⟩,qQ⟩,qZ ⟨⟨congrArg (fun z:Int=>PV.val (.bool (decide (z < 0)))) hw1,rfl⟩,⟨congrArg (fun z:Int=>PV.val (.string (numB z.natAbs))) hw1,rfl⟩,qQ⟩,qZ ⟨⟨congrArg (fun z:Int=>PV.val (.bool (decide (z < 0)))) hw2,rfl⟩,⟨congrArg (fun z:Int=>PV.val (.string (numB z.natAbs))) hw2,rfl⟩,qQ⟩,qQ⟩ ⟨pP,pP,pP,pP,pP,pP,qQ⟩ trivial⟩⟩
  ·have hY1:decide (Y < 0)=false:=decide_eq_false (by omega)
   with_unfolding_all refine⟨fun h1=>⟨?_,⟨fun h2=>?_,fun h2=>⟨(),[some 0,some 1,some 2,some 3,some 4,some 5],trivial,Wo ⟨qJ,qJ,qZ ⟨⟨z1,rfl⟩,⟨z2,rfl⟩,qQ⟩,qZ ⟨⟨z1,rfl⟩,⟨z2,rfl⟩,qQ⟩,qZ ⟨⟨?_,rfl⟩,⟨?_,rfl⟩,qQ⟩,qZ ⟨⟨z1,rfl⟩,⟨z2,rfl⟩,qQ⟩,qQ⟩ ⟨pP,pP,pP,pP,pP,pP,qQ⟩ trivial⟩⟩⟩,fun h1=>⟨(),[some 0,some 1,some 2,some 3,some 4,some 5],trivial,Wo ⟨qJ,qJ,qZ ⟨⟨z1,rfl⟩,⟨z2,rfl⟩,qQ⟩,qZ ⟨⟨z1,rfl⟩,⟨z2,rfl⟩,qQ⟩,qZ ⟨⟨?_,rfl⟩,⟨?_,rfl⟩,qQ⟩,qZ ⟨⟨z1,rfl⟩,⟨z2,rfl⟩,qQ⟩,qQ⟩ ⟨pP,pP,pP,pP,pP,pP,qQ⟩ trivial⟩⟩
   ·exact⟨_,_,rfl,by show(numB Q).size≤_;exact Nat.le_trans (numB_le (k:=(numB X.natAbs).size) (by rw [bv_numB] at hbx;omega)) (by omega)⟩
   ·exact absurd h2 (by rw [show((!((numB (Int.natAbs 0)).toList==(⟨#[]⟩:ByteArray).toList))=decide ((0:Nat)≠0)) from numB_nil];decide)
   ·show PV.val (.bool (decide (-(rdI (intV ((Q:Nat):Int))) < 0)))=PV.val (.bool (decide (X / Y < 0)))
    rw [hY1] at h1
    have h3:X < 0:=by simpa using h1
    rw [rdI_intV,hq,if_pos h3]
   ·show PV.val (.string (numB (-(rdI (intV ((Q:Nat):Int)))).natAbs))=PV.val (.string (numB (X / Y).natAbs))
    rw [hY1] at h1
    have h3:X < 0:=by simpa using h1
    rw [rdI_intV,hq,if_pos h3]
   ·show PV.val (.bool (decide (((Q:Nat):Int) < 0)))=PV.val (.bool (decide (X / Y < 0)))
    rw [hY1] at h1
    have h3:¬X < 0:=by simpa using h1
    rw [hq,if_neg h3]
   ·show PV.val (.string (numB (((Q:Nat):Int)).natAbs))=PV.val (.string (numB (X / Y).natAbs))
    rw [hY1] at h1
    have h3:¬X < 0:=by simpa using h1
    rw [hq,if_neg h3]
  ·have hY1:decide (Y < 0)=false:=decide_eq_false (by omega)
   with_unfolding_all refine⟨fun h1=>?_,fun h1=>⟨⟨⟨[some 2,some 3],stOf [(4,.ptr 0 0 0 0),(5,.ptr 1 1 0 0),(6,.val (.int .i64 0))] [boxI (X / Y) 0,boxI 0 1] 2 [],Wo ⟨qJ,qZ ⟨⟨z1,rfl⟩,⟨z2,rfl⟩,qQ⟩,qQ⟩ ⟨pP,pP,rfl,qQ⟩ trivial,rfl,rfl⟩,[some 2,some 3],stOf [(4,.ptr 0 0 0 0),(5,.ptr 1 1 0 0),(6,.val (.int .i64 0))] [boxI (X / Y) 0,boxI 0 1] 2 [],Wo ⟨qJ,qZ ⟨⟨z1,rfl⟩,⟨z2,rfl⟩,qQ⟩,qQ⟩ ⟨pP,pP,rfl,qQ⟩ trivial,rfl,rfl⟩,[some 2,some 3],stOf [(4,.ptr 0 0 0 0),(5,.ptr 1 1 0 0),(6,.val (.int .i64 0))] [boxI (X / Y) 0,boxI 0 1] 2 [],Wo ⟨qJ,qZ ⟨⟨z1,rfl⟩,⟨z2,rfl⟩,qQ⟩,qQ⟩ ⟨pP,pP,rfl,qQ⟩ trivial,rfl,rfl⟩⟩
   rw [hY1] at h1
   cases h1
 ·cases e
end Go.Proofs
namespace Go.Proofs
open Go Go.Ex Go.Num
set_option maxRecDepth 100000
def c228:List PV→Option Ans
 |[.val v,.val u]=>some ⟨some (isIk 8589934592 v∧isIk 8589934592 u),.val (intV (Nat.gcd (rdI v).natAbs (rdI u).natAbs)),[]⟩
 |_=>none
def D228:Opt:={ join:=fun c=>match c with | .block 0 _=>true|_=>false,perm:=atRs [(1,[(0,true),(1,true),(3,true),(4,true),(2,false),(5,false)])] }
theorem ok228:funcOk D228.toOrd Tryz.f228 2=true:=by kernel_rfl
theorem f228:FnOk Tryz.prog 228 c228:=by
 refine FnOk.ofW orders (mkE_ok (l:=[(248,c248),(250,c250),(226,c226),(249,c249)]) (own:=[]) (inl:=[]) (by simp [f248,f250,f226,f249]) (by simp)) Tryz.func228 D228 2 ok228 fun args r e=>?_
 unfold c228 at e
 split at e
 ·rename_i v u
  cases e
  refine⟨by simp,fun hm=>?_⟩
  obtain⟨⟨s,b,rfl,hb⟩,q,c,rfl,hc⟩:=hm _ rfl
  refine⟨[],stOf [(0,.val (.agg ⟨[.bool s,.string b]⟩)),(1,.val (.agg ⟨[.bool q,.string c]⟩))] [] 0 [],Wo trivial ⟨rfl,rfl,qQ⟩ trivial,?_⟩
  have hXb:=bv_lt b
  have hYb:=bv_lt c
  have hX:(sgn s (bv b)).natAbs=bv b:=sgn_natAbs _ _
  have hY:(sgn q (bv c)).natAbs=bv c:=sgn_natAbs _ _
  have hxs:(numB (bv b)).size≤b.size:=numB_le hXb
  have hys:(numB (bv c)).size≤c.size:=numB_le hYb
  have hG:((Nat.gcd (rdI (.agg ⟨[.bool s,.string b]⟩)).natAbs (rdI (.agg ⟨[.bool q,.string c]⟩)).natAbs:Nat):Int)=((Nat.gcd (bv b) (bv c):Nat):Int):=by
   show((Nat.gcd (sgn s (bv b)).natAbs (sgn q (bv c)).natAbs:Nat):Int)=_
   rw [hX,hY]
  rw [hG]
  generalize hGe:Nat.gcd (bv b) (bv c)=G
  have z2:PV.val (.string ⟨#[]⟩)=PV.val (.string (numB (0:Int).natAbs)):=by rw [show(0:Int).natAbs=0 from rfl,numB_nil0]
  have hs7:∀x:Nat,(numB x).size≤7→x < 72057594037927936:=fun x h=>by
   have:=@size7 (x:Int) (by show(numB x).size < 8;omega)
   omega
  with_unfolding_all refine⟨Nat×Nat,fun p=>Nat.gcd p.1 p.2=G∧(numB p.1).size≤8589934592∧(numB p.2).size≤8589934592∧(p.2=0∨(numB p.1).size≤7∧(numB p.2).size≤7),fun p=>stOf [(4,.ptr 0 0 0 0),(5,.val (.string (numB p.1))),(6,.val (.string (numB p.2)))] [boxI 0 0] 1 [],⟨Nat×Nat,fun p=>Nat.gcd p.1 p.2=G∧(numB p.1).size≤8589934592∧(numB p.2).size≤8589934592,fun p=>stOf [(4,.ptr 0 0 0 0),(5,.val (.string (numB p.1))),(6,.val (.string (numB p.2)))] [boxI 0 0] 1 [],fun p=>p.2,⟨(bv b,bv c),[some 2],⟨hGe,by show(numB (bv b)).size≤_;omega,by show(numB (bv c)).size≤_;omega⟩,Wo ⟨qZ ⟨rq,⟨z2,rfl⟩,qQ⟩,qQ⟩ ⟨pP,rfl,rfl,qQ⟩ trivial⟩,fun p hp=>?_⟩,fun p hp=>?_⟩
  ·obtain⟨x,y⟩:=p
   obtain⟨h1,h2,h3⟩:Nat.gcd x y=G∧(numB x).size≤8589934592∧(numB y).size≤8589934592:=hp
   have hne:(!((numB y).toList==(⟨#[]⟩:ByteArray).toList))=true→y≠0:=fun h=>by
    rw [numB_nil] at h
    exact of_decide_eq_true h
   have hm:y≠0→x%y < y:=fun h=>Nat.mod_lt _ (by omega)
   have hgcd:Nat.gcd y (x%y)=G:=by rw [←h1,Nat.gcd_comm x y,Nat.gcd_rec y x,Nat.gcd_comm]
   have hsz:y≠0→(numB (x%y)).size≤8589934592:=fun h=>by
    refine Nat.le_trans (numB_le (k:=(numB y).size) ?_) h3
    have:=bv_lt (numB y)
    rw [bv_numB] at this
    have:=hm h
    omega
   have hv:PV.val (.string (numB (bv (numB x)%bv (numB y))))=PV.val (.string (numB (x%y))):=by rw [bv_numB,bv_numB]
   with_unfolding_all refine⟨fun e1=>⟨fun e2=>⟨fun e3=>⟨⟨⟨numB_lead _,by rw [bv_numB];exact hne e1⟩,h2,h3⟩,(y,x%y),[some 0],⟨hgcd,h3,hsz (hne e1)⟩,hm (hne e1),Wo ⟨qJ,qQ⟩ ⟨pP,rfl,hv,qQ⟩ trivial⟩,fun e3=>⟨(x,y),[some 0],⟨h1,h2,h3,?_⟩,Wo ⟨qJ,qQ⟩ ⟨pP,rfl,rfl,qQ⟩ trivial⟩⟩,fun e2=>⟨fun e3=>⟨⟨⟨numB_lead _,by rw [bv_numB];exact hne e1⟩,h2,h3⟩,(y,x%y),[some 0],⟨hgcd,h3,hsz (hne e1)⟩,hm (hne e1),Wo ⟨qJ,qQ⟩ ⟨pP,rfl,hv,qQ⟩ trivial⟩,fun e3=>(nomatch e3)⟩⟩,fun e1=>⟨fun e2=>(nomatch e2),fun e2=>⟨(x,y),[some 0],⟨h1,h2,h3,?_⟩,Wo ⟨qJ,qQ⟩ ⟨pP,rfl,rfl,qQ⟩ trivial⟩⟩⟩
   ·have e2:=of_decide_eq_false e2
    have e3:=of_decide_eq_false e3
    have e2:¬((numB x).size:Int) > 7:=e2
    have e3:¬((numB y).size:Int) > 7:=e3
    exact Or.inr ⟨by show(numB x).size≤7;omega,by show(numB y).size≤7;omega⟩
   ·have e1:(!((numB y).toList==(⟨#[]⟩:ByteArray).toList))=false:=e1
    rw [numB_nil] at e1
    have:=of_decide_eq_false e1
    exact Or.inl (by show y=0;omega)
  ·obtain⟨x,y⟩:=p
   obtain⟨h1,h2,h3,h4⟩:Nat.gcd x y=G∧(numB x).size≤8589934592∧(numB y).size≤8589934592∧(y=0∨(numB x).size≤7∧(numB y).size≤7):=hp
   have hne:((numB y).toList==(⟨#[]⟩:ByteArray).toList)=false→y≠0:=fun h=>by
    rw [numB_is0] at h
    exact of_decide_eq_false h
   have h7:((numB y).toList==(⟨#[]⟩:ByteArray).toList)=false→(numB x).size≤7∧(numB y).size≤7:=fun h=>h4.resolve_left (hne h)
   with_unfolding_all refine⟨fun e1=>⟨[some 0],stOf [(4,.ptr 0 0 0 0)] [boxI ((G:Nat):Int) 0] 1 [],Wo ⟨qZ ⟨⟨?_,rfl⟩,⟨?_,rfl⟩,qQ⟩,qQ⟩ ⟨pP,qQ⟩ trivial,rfl,rfl⟩,fun e1=>⟨(h7 e1).1,(h7 e1).2,Nat×Nat,fun p=>Nat.gcd p.1 p.2=G∧p.1 < 72057594037927936∧p.2 < 72057594037927936,fun p=>stOf [(4,.ptr 0 0 0 0),(9,.val (.int .i64 (p.1:Nat))),(10,.val (.int .i64 (p.2:Nat)))] [boxI 0 0] 1 [],fun p=>p.2,⟨(x,y),[some 0],⟨h1,hs7 _ (h7 e1).1,hs7 _ (h7 e1).2⟩,Wo ⟨qJ,qQ⟩ ⟨pP,?_,?_,qQ⟩ trivial⟩,fun p hp=>?_⟩⟩
   ·show PV.val (.bool false)=PV.val (.bool (decide (((G:Nat):Int) < 0)))
    rw [decide_eq_false (by omega)]
   ·show PV.val (.string (numB x))=PV.val (.string (numB G))
    rw [numB_is0] at e1
    have e1:y=0:=of_decide_eq_true e1
    rw [←h1,e1,Nat.gcd_zero_right]
   ·exact congrArg (fun n:Nat=>PV.val (.int .i64 n)) (bv_numB x)
   ·exact congrArg (fun n:Nat=>PV.val (.int .i64 n)) (bv_numB y)
   ·obtain⟨m,n⟩:=p
    obtain⟨g1,g2,g3⟩:Nat.gcd m n=G∧m < 72057594037927936∧n < 72057594037927936:=hp
    with_unfolding_all refine⟨fun e2=>?_,fun e2=>⟨by show m < 4611686018427387904;omega,[some 0],stOf [(4,.ptr 0 0 0 0)] [boxI ((G:Nat):Int) 0] 1 [],Wo ⟨qZ ⟨⟨?_,rfl⟩,⟨?_,rfl⟩,qQ⟩,qQ⟩ ⟨pP,qQ⟩ trivial,rfl,rfl⟩⟩
    ·have e2:=of_decide_eq_true e2
     have e3:0 < n:=by omega
     with_unfolding_all refine⟨by omega,(n,m%n),[some 0],⟨?_,g3,?_⟩,Nat.mod_lt _ e3,Wo ⟨qJ,qQ⟩ ⟨pP,rfl,rfl,qQ⟩ trivial⟩
     ·show Nat.gcd n (m%n)=G
      rw [←g1,Nat.gcd_comm m n,Nat.gcd_rec n m,Nat.gcd_comm]
     ·have:=Nat.mod_lt m e3
      show m%n < _
      omega
    ·show PV.val (.bool (decide (((m:Nat):Int) < 0)))=PV.val (.bool (decide (((G:Nat):Int) < 0)))
     rw [decide_eq_false (by omega),decide_eq_false (by omega)]
    ·show PV.val (.string (numB m))=PV.val (.string (numB G))
     have e2:=of_decide_eq_false e2
     have e3:n=0:=by omega
     rw [←g1,e3,Nat.gcd_zero_right]
 ·cases e
end Go.Proofs
namespace Go.Proofs
open Go Go.Ex Go.Num
set_option maxRecDepth 100000
def c223:List PV→Option Ans
 |[.val (.string b)]=>some ⟨some (b.size≤7),.val (.int .i64 (bv b:Nat)),[]⟩
 |_=>none
theorem ok223:funcOk {} Tryz.f223 1=true:=by kernel_rfl
theorem f223:FnOk Tryz.prog 223 c223:=by
 refine FnOk.ofW orders (mkE_ok (l:=[]) (own:=[]) (inl:=[]) (by simp) (by simp)) Tryz.func223 {} 1 ok223 fun args r e=>?_
 unfold c223 at e
 split at e
 ·rename_i b
  cases e
  refine⟨by simp,fun hm=>?_⟩
  have h:b.size≤7:=hm _ rfl
  refine⟨[],stOf [(0,.val (.string b))] [] 0 [],Wo trivial ⟨rfl,qQ⟩ trivial,?_⟩
  with_unfolding_all refine⟨Nat,fun i=>i≤b.size,fun i=>stOf [(0,.val (.string b)),(3,.val (.int .i64 (bvL (b.data.toList.take i):Nat))),(4,.val (goInt i))] [] 0 [],fun i=>b.size - i,⟨0,[],Nat.zero_le _,Wo trivial ⟨rfl,rfl,rfl,qQ⟩ trivial⟩,fun i hi=>?_⟩
  replace hi:i≤b.size:=hi
  have hlt:=bvL_take_lt b i h
  with_unfolding_all refine⟨fun h1=>?_,fun h1=>?_⟩
  ·have h1:i < b.size:=by have:=ltT h1;omega
   have hx:(b.data.toList[i]?.getD 0).toNat < 256:=UInt8.toNat_lt _
   have hn:=bvL_take b h1
   have hn7:=bvL_take_lt b (i+1) h
   with_unfolding_all refine⟨⟨by omega,by omega⟩,i+1,[],h1,by show b.size - (i+1) < b.size - i;omega,Wo trivial ⟨rfl,?_,?_,qQ⟩ trivial⟩
   ·have key:∀k:Nat,k=i→PV.val (.int .i64 (IntKind.i64.wrap (IntKind.i64.wrap (256*((bvL (b.data.toList.take i):Nat):Int))+IntKind.i64.wrap (((b.data.toList[k]?.getD 0).toNat:Nat):Int))))=PV.val (.int .i64 (bvL (b.data.toList.take (i+1)):Nat)):=fun k hk=>by
     rw [hk,wrap64 (x:=256*((bvL (b.data.toList.take i):Nat):Int)) (by omega) (by omega),wrap64 (x:=(((b.data.toList[i]?.getD 0).toNat:Nat):Int)) (by omega) (by omega),wrap64 (by omega) (by omega),hn]
     exact congrArg (fun x=>PV.val (.int .i64 x)) (by omega)
    exact key _ (Int.toNat_natCast i)
   ·refine congrArg (fun x=>PV.val (.int .i64 x)) (?_:IntKind.i64.wrap ((i:Int)+1)=((i+1:Nat):Int))
    rw [wrap64 (by omega) (by omega)]
    rfl
  ·have h1:i=b.size:=by have:=ltF h1;omega
   have he:b.data.toList.take i=b.data.toList:=by rw [h1,List.take_of_length_le (by rw [←ba_size];omega)]
   rw [he] at hlt ⊢
   with_unfolding_all exact⟨[],stOf [(2,.val (.int .i64 (bv b:Nat)))] [] 0 [],Wo trivial ⟨rfl,qQ⟩ trivial,rfl,rfl⟩
 ·cases e
def c224:List PV→Option Ans
 |[.val (.int .i64 z)]=>some ⟨some (0≤z∧z < 72057594037927936),.val (.string (numB z.toNat)),[]⟩
 |_=>none
theorem ok224:funcOk {} Tryz.f224 1=true:=by kernel_rfl
theorem f224:FnOk Tryz.prog 224 c224:=by
 refine FnOk.ofW orders (mkE_ok (l:=[]) (own:=[]) (inl:=[]) (by simp) (by simp)) Tryz.func224 {} 1 ok224 fun args r e=>?_
 unfold c224 at e
 split at e
 ·rename_i z
  cases e
  refine⟨by simp,fun hm=>?_⟩
  obtain⟨hz,hz2⟩:=hm _ rfl
  obtain⟨N,rfl⟩:∃N:Nat,z=(N:Int):=⟨z.toNat,by omega⟩
  rw [Int.toNat_natCast]
  refine⟨[],stOf [(0,.val (.int .i64 (N:Nat)))] [] 0 [],Wo trivial ⟨rfl,qQ⟩ trivial,?_⟩
  with_unfolding_all refine⟨Nat ⊕ (Nat×Nat),fun | .inl j=>j≤7∧N / 256^(7 - j)=0 | .inr (j,k)=>j≤7∧0 < k∧k≤8∧256^(k - 1)≤N / 256^(7 - j)∧N / 256^(7 - j) < 256^k,
   fun | .inl j=>stOf [(0,.val (.int .i64 (N:Nat))),(3,.val (.slice none 0 0)),(4,.val (.int .i64 (48 - 8*(j:Int))))] [] 0 [] | .inr (j,k)=>stOf [(0,.val (.int .i64 (N:Nat))),(3,.sl 0 0 0 k),(4,.val (.int .i64 (48 - 8*(j:Int))))] [⟨5,1,0,false,false,k,bytG (N / 256^(7 - j)) k⟩] 1 [],
   fun | .inl j=>7 - j | .inr (j,k)=>7 - j,⟨.inl 0,[],⟨Nat.zero_le _,?_⟩,Wo trivial ⟨rfl,rfl,rfl,qQ⟩ trivial⟩,fun x hx=>?_⟩
  ·exact Nat.div_eq_of_lt (show N < 72057594037927936 by omega)
  ·have hsh:∀j:Nat,j≤6→(N:Int) / 2^min (48 - 8*(j:Int)).toNat IntKind.i64.bits=((N / 256^(6 - j):Nat):Int):=fun j hj=>by
    rw [show min (48 - 8*(j:Int)).toNat IntKind.i64.bits=8*(6 - j) by show min (48 - 8*(j:Int)).toNat 64=_;omega]
    have e:(2:Int)^(8*(6 - j))=((256^(6 - j):Nat):Int):=by rw [show(256:Nat)=2^8 from rfl,←Nat.pow_mul];simp
    rw [e]
    rfl
   rcases x with j|⟨j,k⟩
   ·obtain⟨hj,hz0⟩:j≤7∧N / 256^(7 - j)=0:=hx
    with_unfolding_all refine⟨fun h1=>?_,fun h1=>?_⟩
    ·have h1:=of_decide_eq_true h1
     have hj6:j≤6:=by omega
     have hw:(N:Int) / 2^min (48 - 8*(j:Int)).toNat IntKind.i64.bits=((N / 256^(6 - j):Nat):Int):=hsh j hj6
     have hZ:N / 256^(7 - j)=N / 256^(6 - j) / 256:=by rw [show 7 - j=6 - j+1 by omega,Nat.pow_succ,Nat.div_div_eq_div_mul]
     have hZe:N / 256^(7 - (j+1))=N / 256^(6 - j):=by rw [show 7 - (j+1)=6 - j by omega]
     have wj:IntKind.i64.wrap (48 - 8*(j:Int) - 8)=48 - 8*((j+1:Nat):Int):=by rw [wrap64 (by omega) (by omega)];omega
     have hd:decide (((N:Int) / 2^min (48 - 8*(j:Int)).toNat IntKind.i64.bits).tmod 256 > 0)=decide (0 < N / 256^(6 - j)%256):=by
      rw [hw]
      show decide (((N / 256^(6 - j)%256:Nat):Int) > 0)=_
      rw [decide_eq_decide]
      generalize N / 256^(6 - j)%256=d
      omega
     rw [hZ] at hz0
     have hj7:j+1≤7:=by omega
     have kb:bytG (N / 256^(7 - (j+1))) 1 0=[PV.val (.int .u8 (IntKind.u8.wrap ((N:Int) / 2^min (48 - 8*(j:Int)).toNat IntKind.i64.bits)))]:=by
      rw [hZe,hw,wrapU8]
      simp [bytG]
     have hl:N / 256^(6 - j) < 256^1:=by generalize N / 256^(6 - j)=Z at *;omega
     with_unfolding_all refine⟨by omega,by decide,fun h2=>⟨fun h3=>(nomatch h3),fun h3=>⟨.inl (j+1),[],⟨?_,?_⟩,?_,Wo trivial ⟨rfl,rfl,congrArg (fun x=>PV.val (.int .i64 x)) wj,qQ⟩ trivial⟩⟩,fun h2=>⟨fun h3=>⟨by omega,⟨by show 1*1≤140737488355328;decide,by show 1≤9223372036854775807;decide⟩,⟨.inr (j+1,1),[some 1],⟨?_,?_,?_,?_,?_⟩,?_,Wo ⟨qZ (fun i hi=>?_),qQ⟩ ⟨rfl,pP,congrArg (fun x=>PV.val (.int .i64 x)) wj,qQ⟩ trivial⟩⟩,fun h3=>(nomatch h3)⟩⟩
     ·exact hj7
     ·rw [hd] at h2
      have h2:=of_decide_eq_false h2
      rw [hZe]
      generalize N / 256^(6 - j)=Z at *
      omega
     ·show 7 - (j+1) < 7 - j
      omega
     ·exact hj7
     ·decide
     ·decide
     ·rw [hd] at h2
      have h2:=of_decide_eq_true h2
      rw [hZe]
      generalize N / 256^(6 - j)=Z at *
      show 256^0≤Z
      omega
     ·rw [hZe]
      exact hl
     ·show 7 - (j+1) < 7 - j
      omega
     ·have hi:i < 1:=hi
      obtain rfl:i=0:=by omega
      exact kb
    ·have h1:=of_decide_eq_false h1
     obtain rfl:j=7:=by omega
     have hN0:N=0:=by simpa using hz0
     subst hN0
     with_unfolding_all refine⟨fun i hi=>absurd hi (Nat.not_lt_zero _),[],stOf [(2,.val (.string (numB 0)))] [] 0 [],Wo trivial ⟨?_,qQ⟩ trivial,rfl,rfl⟩
     rw [numB_nil0]
     rfl
   ·obtain⟨hj,hk0,hk8,hlo,hhi⟩:j≤7∧0 < k∧k≤8∧256^(k - 1)≤N / 256^(7 - j)∧N / 256^(7 - j) < 256^k:=hx
    with_unfolding_all refine⟨fun h1=>?_,fun h1=>?_⟩
    ·have h1:=of_decide_eq_true h1
     have hj6:j≤6:=by omega
     have hw:(N:Int) / 2^min (48 - 8*(j:Int)).toNat IntKind.i64.bits=((N / 256^(6 - j):Nat):Int):=hsh j hj6
     have hZ:N / 256^(7 - j)=N / 256^(6 - j) / 256:=by rw [show 7 - j=6 - j+1 by omega,Nat.pow_succ,Nat.div_div_eq_div_mul]
     have hZe:N / 256^(7 - (j+1))=N / 256^(6 - j):=by rw [show 7 - (j+1)=6 - j by omega]
     have wj:IntKind.i64.wrap (48 - 8*(j:Int) - 8)=48 - 8*((j+1:Nat):Int):=by rw [wrap64 (by omega) (by omega)];omega
     have hj7:j+1≤7:=by omega
     have hlo':256^(k+1 - 1)≤N / 256^(6 - j):=by
      rw [hZ] at hlo
      have:=(Nat.le_div_iff_mul_le (show 0 < 256 by decide)).1 hlo
      rwa [←Nat.pow_succ,show(k - 1).succ=k+1 - 1 by omega] at this
     have hhi':N / 256^(6 - j) < 256^(k+1):=by
      rw [hZ] at hhi
      rw [Nat.pow_succ]
      exact(Nat.div_lt_iff_lt_mul (by decide)).1 hhi
     have hk7:k+1≤8:=by
      rcases Nat.lt_or_ge k 8 with h|h
      ·exact h
      ·obtain rfl:k=8:=by omega
       have h4:N / 256^(6 - j)≤N:=Nat.div_le_self _ _
       have:(256:Nat)^(8+1 - 1)=18446744073709551616:=by decide
       omega
     have kb:∀i,i < k+1→bytG (N / 256^(7 - (j+1))) (k+1) i=if i < k then bytG (N / 256^(7 - j)) k i else [PV.val (.int .u8 (IntKind.u8.wrap ((N:Int) / 2^min (48 - 8*(j:Int)).toNat IntKind.i64.bits)))]:=fun i hi=>by
      rw [hZe,hw,wrapU8,hZ]
      simp only [bytG]
      split
      ·rename_i h
       rw [Nat.div_div_eq_div_mul _ 256,←Nat.pow_succ',show(k - 1 - i).succ=k+1 - 1 - i by omega]
      ·rename_i h
       rw [show k+1 - 1 - i=0 by omega,Nat.pow_zero,Nat.div_one]
       rfl
     have kc:∀i,i < k+1→∀h:Nat→List PV,h 0=[PV.val (.int .u8 (IntKind.u8.wrap ((N:Int) / 2^min (48 - 8*(j:Int)).toNat IntKind.i64.bits)))]→bytG (N / 256^(7 - (j+1))) (k+1) i=apd k (bytG (N / 256^(7 - j)) k) h i:=fun i hi h hh=>by
      rw [kb i hi,apd]
      split
      ·rfl
      ·rw [show i - k=0 by omega,hh]
     have hk0':decide (((k:Nat):Int) > 0)=true:=decide_eq_true (by omega)
     have X1:∀p:Prop,decide (((k:Nat):Int) > 0)=false→p:=fun p h=>by rw [hk0'] at h;cases h
     with_unfolding_all refine⟨by omega,by decide,fun h2=>⟨fun h3=>⟨by omega,⟨rfl,?_,?_⟩,⟨.inr (j+1,k+1),[some 0],⟨?_,?_,?_,?_,?_⟩,?_,Wo ⟨qZ (fun i hi=>?_),qQ⟩ ⟨rfl,pP,congrArg (fun x=>PV.val (.int .i64 x)) wj,qQ⟩ trivial⟩⟩,fun h3=>X1 _ h3⟩,fun h2=>⟨fun h3=>⟨by omega,⟨rfl,?_,?_⟩,⟨.inr (j+1,k+1),[some 0],⟨?_,?_,?_,?_,?_⟩,?_,Wo ⟨qZ (fun i hi=>?_),qQ⟩ ⟨rfl,pP,congrArg (fun x=>PV.val (.int .i64 x)) wj,qQ⟩ trivial⟩⟩,fun h3=>(nomatch h3)⟩⟩
     ·show(k+1)*1≤_
      omega
     ·show k+1≤_
      omega
     ·exact hj7
     ·exact Nat.succ_pos k
     ·exact hk7
     ·rw [hZe]
      exact hlo'
     ·rw [hZe]
      exact hhi'
     ·show 7 - (j+1) < 7 - j
      omega
     ·exact kc i hi _ rfl
     ·show(k+1)*1≤_
      omega
     ·show k+1≤_
      omega
     ·exact hj7
     ·exact Nat.succ_pos k
     ·exact hk7
     ·rw [hZe]
      exact hlo'
     ·rw [hZe]
      exact hhi'
     ·show 7 - (j+1) < 7 - j
      omega
     ·exact kc i hi _ rfl
    ·have h1:=of_decide_eq_false h1
     obtain rfl:j=7:=by omega
     rw [show 7 - 7=0 from rfl,Nat.pow_zero,Nat.div_one] at hlo hhi
     have hfin:=text_fin (N:=N) (k:=k) hhi (fun _=>hlo)
     have hv:strOf k (fun i=>bytG (N / 256^(7 - 7)) k (0+i))=numB N:=by
      rw [←hfin]
      congr 1
      funext i
      rw [Nat.zero_add,show 7 - 7=0 from rfl,Nat.pow_zero,Nat.div_one]
     with_unfolding_all refine⟨fun i hi=>⟨_,rfl⟩,[],stOf [(2,.val (.string (numB N)))] [] 0 [],Wo trivial ⟨congrArg (fun x=>PV.val (.string x)) hv,qQ⟩ trivial,rfl,rfl⟩
 ·cases e
end Go.Proofs
