import Derived.Test.YtjfkhbkddenfoaaGreatQmcnhmiofcbM
import Derived.Test.YtjfkhbkddenfoaaGreatQeomkhheifdNx5
import Derived.Test.YtjfkhbkddenfoaaGreatQhhhoojacokNx7
import Derived.Test.YtjfkhbkddenfoaaGreatQjlcoiienmcNx8
import Derived.Test.YtjfkhbkddenfoaaGreatQogngcdmdpjNx6
import Derived.Lib.IndexBytes
import Derived.Test.YtjfkhbkddenfoaaGreatQphdjdbniokNx1
import Derived.Lib.SliceRun
import Derived.Test.YtjfkhbkddenfoaaGreatQfbiongkkddNx9
import Derived.Test.YtjfkhbkddenfoaaGreatQfeaimhpghhNx4
import Derived.Laws.Externs
import Derived.RangeFuncLeaves
import Derived.RangeFuncRecord
set_option linter.unusedVariables false
set_option linter.unusedSimpArgs false
namespace Go.Proofs.YtjfkhbkddenfoaaGreat.Nb
open Go.RowKit Go.Proofs.YtjfkhbkddenfoaaGreatW.PrintWords Go.Proofs.YtjfkhbkddenfoaaGreatW.PrintMore Go.Proofs.YtjfkhbkddenfoaaGreat.N Go.Proofs.YtjfkhbkddenfoaaGreat.Nt
section
theorem rtrim_l0 (l:List Int) (hlim:lim l) (hl:l.length<1000000000000):∀i:Nat,i≤l.length→val (l.take i)=val l →
  Ev (fun k=>foliotref01_Trim.l0 k l (i:Int)) (ofN (val l)):=by
 intro i
 induction i with
 |zero =>
  intro _ hv;refine Ev.step (f:=fun _=>some (ofN (val l))) (fun k=>?_) (Ev.now _)
  simp only[foliotref01_Trim.l0];rw[if_neg (by omega),Option.bind_some,if_pos (by omega),if_pos (by omega),if_pos (by simp),←hv];simp[val_nil,ofN_zero]
 |succ i ih =>
  intro hi hv;have e:wrap64 (((i+1:Nat):Int)-1)=(i:Int):=by rw[w64 (by omega) (by omega)];omega
  have hr:rd l (i:Int)=l[i]'(by omega):=by
   simp[rd,List.getD_eq_getElem?_getD,List.getElem?_eq_getElem (show i<l.length by omega)]
  have ht:l.take (i+1)=l.take i++[l[i]'(by omega)]:=List.take_succ_eq_append_getElem (by omega);by_cases h0:l[i]'(by omega)=0
  ·refine Ev.step (f:=fun k=>foliotref01_Trim.l0 k l (i:Int)) (fun k=>?_) (ih (by omega) ?_)
   ·simp only[foliotref01_Trim.l0]
    rw[e,if_pos (by omega),if_pos (by omega),if_pos (by omega),hr,if_pos h0]
   ·rw[ht,h0,val_snoc_zero] at hv;exact hv
  ·refine Ev.step (f:=fun _=>some (ofN (val l))) (fun k=>?_) (Ev.now _)
   simp only[foliotref01_Trim.l0];rw[e,if_pos (by omega),if_pos (by omega),if_pos (by omega),hr,if_neg h0,Option.bind_some,if_pos (by omega),if_pos (by omega),Int.toNat_natCast,if_pos (by simp;omega),List.nil_append,←hv,
    ofN_val (fun x hx=>hlim x (List.mem_of_mem_take hx)) (by intro x hx;rw[ht,List.getLast?_concat] at hx;cases hx;exact h0)]
theorem rtrim_ev {l:List Int} (h:lim l) (hl:l.length<1000000000000):Ev (fun k=>foliotref01_Trim.f k l) (ofN (val l)) :=
 rtrim_l0 l h hl l.length (Nat.le_refl _) (by rw[List.take_length])
end
section
theorem rlimbs_ev {n:Nat} (h:n<18446744073709551616):Ev (fun k=>foliotref01_limbs.f k (n:Int)) (ofN n):=by
 have hlim:lim [(n:Int)%4294967296,(n:Int)/4294967296%4294967296]:=by
  intro x hx;simp only[List.mem_cons,List.not_mem_nil,or_false] at hx;rcases hx with rfl|rfl<;>omega
 have e:=rtrim_ev hlim (by simp);rw[show val [(n:Int)%4294967296,(n:Int)/4294967296%4294967296]=n by simp only[val_cons,val_nil];omega] at e;unfold foliotref01_limbs.f;exact Ev.bind e (Ev.now _)
theorem short_at {l:List Int} (h:lim l):foliotref01_short.f l=some (rd l 0,decide (l.length≤1)):=by
 unfold foliotref01_short.f;cases l with
 |nil=>rfl
 |cons x l =>
  have hx:=h x (List.mem_cons_self ..);rw[if_neg (by simp only[List.length_cons];omega),if_pos (by simp only[List.length_cons];omega),show rd (x::l) 0=x from rfl,u64 hx.1 (by omega)];congr 2
  rw[Bool.eq_iff_iff,beq_iff_eq,decide_eq_true_iff];simp only[List.length_cons];omega
end
section
theorem val_short {l:List Int} (h:lim l) (hs:l.length≤1):∃n:Nat,n<4294967296∧rd l 0=(n:Int)∧val l=n:=by
 match l,hs with
 |[],_=>exact⟨0,by omega,rfl,rfl⟩
 |[x],_ =>
  have hx:=h x (List.mem_cons_self ..);exact⟨x.toNat,by omega,by show x=_;omega,by simp[val_cons,val_nil]⟩
theorem radd_j {l m:List Int} (hl:l.length≤1000000000) (hm:m.length≤1000000000) (l1:lim l) (m1:lim m) (x y:Int) :
  Ev (fun k=>foliotref01_Add.j0 k l m x y false) (ofN (val l+val m)):=by
 have e1:=lenb l1;have e2:=lenb m1;have ha:=add_ev (x0:=bitsN (val l)) (x1:=bitsN (val m)) (by omega) (by omega);rw[bval_bitsN,bval_bitsN] at ha;have hn:(bitsN (val l+val m)).length≤32*(l.length+m.length)+1:=by
  refine len_bitsN_le ?_
  have f1:=Nat.lt_of_lt_of_le (lt_len_bitsN (val l)) (Nat.pow_le_pow_right (n:=2) (by omega) (show (bitsN (val l)).length≤32*(l.length+m.length) by omega));have f2:=Nat.lt_of_lt_of_le (lt_len_bitsN (val m)) (Nat.pow_le_pow_right (n:=2) (by omega) (show (bitsN (val m)).length≤32*(l.length+m.length) by omega));rw[Nat.pow_succ];omega
 have hL:=limbs_ev (l:=bitsN (val l+val m)) (by omega);rw[bval_bitsN] at hL;refine Ev.step (f:=fun k=>(foliotref01_Of.f k l).bind fun a=>(foliotref01_Of.f k m).bind fun b=>(foliotref01_add.f k a b).bind fun c=>(foliotref01_Limbs.f k c).bind fun d=>some d) (fun k=>?_) (Ev.bind (of_ev (by omega) l1) (Ev.bind (of_ev (by omega) m1) (Ev.bind ha (Ev.bind hL (Ev.now _)))))
 simp only[foliotref01_Add.j0];rw[if_neg (by simp)]
theorem radd_ev {l m:List Int} (hl:l.length≤1000000000) (hm:m.length≤1000000000) (l1:lim l) (m1:lim m) :
  Ev (fun k=>foliotref01_Add.f k l m) (ofN (val l+val m)):=by
 unfold foliotref01_Add.f;rw[short_at l1,short_at m1];simp only[Option.bind_some];by_cases h1:l.length≤1
 ·by_cases h2:m.length≤1
  ·obtain⟨a,ha,ea,va⟩:=val_short l1 h1
   obtain⟨b,hb,eb,vb⟩:=val_short m1 h2;refine Ev.congr (f:=fun k=>foliotref01_Add.j0 k l m (rd l 0) (rd m 0) true) (fun k=>?_) ?_
   ·rw[if_pos (decide_eq_true h1),decide_eq_true h2]
   ·rw[va,vb,ea,eb]
    refine Ev.step (fun k=>?_) (Ev.bind (rlimbs_ev (n:=a+b) (by omega)) (Ev.now _))
    simp only[foliotref01_Add.j0];rw[if_pos trivial,u64 (by omega) (by omega)];rfl
  ·refine Ev.congr (fun k=>?_) (radd_j hl hm l1 m1 (rd l 0) (rd m 0))
   rw[if_pos (decide_eq_true h1),decide_eq_false h2]
 ·refine Ev.congr (fun k=>?_) (radd_j hl hm l1 m1 (rd l 0) (rd m 0))
  rw[if_neg (by simp;omega)]
end
section
theorem rmul_l0 (x0 x1:List Bool) (h0:x0.length<40000000000) (h1:x1.length<40000000000):∀(i:Nat) (y:List Bool),i≤x1.length →
  y.length+i≤x0.length+x1.length→bval y=bval x0*(bval x1/2 ^ i) →
  Ev (fun k=>foliotref01_Mul.l0 k x0 x1 y ((i:Int)-1)) (ofN (bval x0*bval x1)):=by
 intro i
 induction i with
 |zero =>
  intro y _ hy hv;rw[Nat.pow_zero,Nat.div_one] at hv;have h:=limbs_ev (l:=y) (by omega);rw[hv] at h;refine Ev.step (f:=fun k=>(foliotref01_Limbs.f k y).bind fun t=>some t) (fun k=>?_) (Ev.bind h (Ev.now _))
  simp only[foliotref01_Mul.l0];rw[if_neg (by omega)]
 |succ i ih =>
  intro y hi hy hv;have e:(((i+1:Nat):Int)-1)=(i:Int):=by omega
  have hg:=getD_bit x1 i;have hB:bval x1/2 ^ i=2*(bval x1/2 ^ (i+1))+bval x1/2 ^ i%2:=by
   rw[Nat.pow_succ,←Nat.div_div_eq_div_mul];omega
  have hf:bval ([false]++y)=2*bval y:=by simp[bval_cons]
  rw[e];by_cases hb:bval x1/2 ^ i%2=1
  ·have hs:2*bval y+bval x0=bval x0*(bval x1/2 ^ i):=by
    rw[hB,hb,hv,Nat.mul_add,Nat.mul_one,←Nat.mul_assoc,Nat.mul_comm 2,Nat.mul_assoc]
   have ha:=add_ev (x0:=[false]++y) (x1:=x0) (by simp;omega) (by omega);rw[hf,hs] at ha;have hl:(bitsN (bval x0*(bval x1/2 ^ i))).length≤x0.length+(x1.length-i):=by
    refine len_bitsN_le ?_
    rw[Nat.pow_add];refine Nat.mul_lt_mul'' (bval_lt x0) ?_
    apply Nat.div_lt_of_lt_mul
    rw[←Nat.pow_add,show i+(x1.length-i)=x1.length by omega];exact bval_lt x1
   refine Ev.step (f:=fun k=>(foliotref01_add.f k ([false]++y) x0).bind fun t=>foliotref01_Mul.l0 k x0 x1 t ((i:Int)-1)) (fun k=>?_) (Ev.bind ha (ih _ (by omega) (by omega) (bval_bitsN _)))
   simp only[foliotref01_Mul.l0];rw[if_pos (by omega),Option.bind_some,if_pos (by simp;omega),Option.bind_some,if_pos (by omega),if_pos (by omega),rdOf_nat,hg,if_pos (by rw[hb];rfl),w64 (by omega) (by omega)]
  ·have hb0:bval x1/2 ^ i%2=0:=by omega
   refine Ev.step (f:=fun k=>foliotref01_Mul.l0 k x0 x1 ([false]++y) ((i:Int)-1)) (fun k=>?_) (ih _ (by omega) (by simp;omega) ?_)
   ·simp only[foliotref01_Mul.l0]
    rw[if_pos (by omega),Option.bind_some,if_pos (by simp;omega),Option.bind_some,if_pos (by omega),if_pos (by omega),rdOf_nat,hg,if_neg (by rw[hb0];decide),w64 (by omega) (by omega)]
   ·rw[hf,hv,hB,hb0,←Nat.mul_assoc,Nat.mul_comm 2,Nat.mul_assoc];rfl
theorem rmul_j {l m:List Int} (hl:l.length≤1000000000) (hm:m.length≤1000000000) (l1:lim l) (m1:lim m) (x y:Int) :
  Ev (fun k=>foliotref01_Mul.j0 k l m x y false) (ofN (val l*val m)):=by
 have e1:=lenb l1;have e2:=lenb m1;have h:=rmul_l0 (bitsN (val l)) (bitsN (val m)) (by omega) (by omega) (bitsN (val m)).length [] (Nat.le_refl _) (by simp)
  (by rw[Nat.div_eq_of_lt (bval_lt _)];simp[bval_nil])
 rw[bval_bitsN,bval_bitsN] at h;refine Ev.step (f:=fun k=>(foliotref01_Of.f k l).bind fun a=>(foliotref01_Of.f k m).bind fun b=>foliotref01_Mul.l0 k a b [] (wrap64 ((b.length:Int)-1))) (fun k=>?_)
  (Ev.bind (of_ev (by omega) l1) (Ev.bind (of_ev (by omega) m1) (Ev.congr (fun k=>?_) h)))
 ·simp only[foliotref01_Mul.j0]
  rw[if_neg (by simp)]
 ·rw[w64 (by omega) (by omega)]
theorem rmul_ev {l m:List Int} (hl:l.length≤1000000000) (hm:m.length≤1000000000) (l1:lim l) (m1:lim m) :
  Ev (fun k=>foliotref01_Mul.f k l m) (ofN (val l*val m)):=by
 unfold foliotref01_Mul.f;rw[short_at l1,short_at m1];simp only[Option.bind_some];by_cases h1:l.length≤1
 ·by_cases h2:m.length≤1
  ·obtain⟨a,ha,ea,va⟩:=val_short l1 h1
   obtain⟨b,hb,eb,vb⟩:=val_short m1 h2;have hab:a*b<18446744073709551616:=by
    have:=Nat.mul_le_mul (show a≤4294967295 by omega) (show b≤4294967295 by omega);omega
   refine Ev.congr (f:=fun k=>foliotref01_Mul.j0 k l m (rd l 0) (rd m 0) true) (fun k=>?_) ?_
   ·rw[if_pos (decide_eq_true h1),decide_eq_true h2]
   ·rw[va,vb,ea,eb]
    refine Ev.step (fun k=>?_) (Ev.bind (rlimbs_ev hab) (Ev.now _))
    simp only[foliotref01_Mul.j0];rw[if_pos trivial,show (a:Int)*(b:Int)=((a*b:Nat):Int) from (Int.natCast_mul a b).symm,u64 (by omega) (by omega)]
  ·refine Ev.congr (fun k=>?_) (rmul_j hl hm l1 m1 (rd l 0) (rd m 0))
   rw[if_pos (decide_eq_true h1),decide_eq_false h2]
 ·refine Ev.congr (fun k=>?_) (rmul_j hl hm l1 m1 (rd l 0) (rd m 0))
  rw[if_neg (by simp;omega)]
end
section
theorem two_step {a q r B bit:Nat} (ha:a=B*q+r) (hr:r<B) (hbit:bit≤1) :
  (2*r+bit<B→(2*a+bit)/B=2*q∧(2*a+bit)%B=2*r+bit)∧(¬2*r+bit<B→(2*a+bit)/B=2*q+1∧(2*a+bit)%B=2*r+bit-B):=by
 have hB:0<B:=by omega
 have e:2*a+bit=B*(2*q)+(2*r+bit):=by
  rw[ha,Nat.mul_add,←Nat.mul_assoc,Nat.mul_comm 2 B,Nat.mul_assoc];omega
 constructor
 ·intro h
  rw[e,Nat.mul_add_div hB,Nat.mul_add_mod,Nat.div_eq_of_lt h,Nat.mod_eq_of_lt h];simp
 ·intro h
  have e':2*a+bit=B*(2*q+1)+(2*r+bit-B):=by rw[e,Nat.mul_add,Nat.mul_one];omega
  have h2:2*r+bit-B<B:=by omega
  rw[e',Nat.mul_add_div hB,Nat.mul_add_mod,Nat.div_eq_of_lt h2,Nat.mod_eq_of_lt h2];simp
theorem rdiv_l0 (x0 x1:List Bool) (h0:x0.length<40000000000) (h1:x1.length<40000000000) (hB:bval x1≠0):∀(i:Nat) (hi_:List Bool) (r:List Bool),i+hi_.length=x0.length →
  bval hi_=bval x0/2 ^ i/bval x1→r=bitsN (bval x0/2 ^ i%bval x1) →
  Ev (fun k=>foliotref01_div.l0 k x0 x1 (List.replicate i false++hi_) r ((i:Int)-1)) (bitsN (bval x0/bval x1),bitsN (bval x0%bval x1)):=by
 intro i
 induction i with
 |zero =>
  intro q r hl hq hr;rw[Nat.pow_zero,Nat.div_one] at hq hr;have h:=cut_ev (l:=q) (by omega);rw[hq] at h;subst hr;refine Ev.step (f:=fun k=>(foliotref01_cut.f k q).bind fun t=>some (t,bitsN (bval x0%bval x1))) (fun k=>?_) (Ev.bind h (Ev.now _))
  simp only[foliotref01_div.l0];rw[if_neg (by omega)];rfl
 |succ i ih =>
  intro q r hl hq hr;subst hr;have e:(((i+1:Nat):Int)-1)=(i:Int):=by omega
  rw[e];have hg:=getD_bit x0 i;have ht:=bit_toNat (bval x0) i;have ha:bval x0/2 ^ i=2*(bval x0/2 ^ (i+1))+bval x0/2 ^ i%2:=by
   rw[Nat.pow_succ,←Nat.div_div_eq_div_mul];omega
  have hbit:bval x0/2 ^ i%2≤1:=by omega
  have ts:=two_step (Nat.div_add_mod (bval x0/2 ^ (i+1)) (bval x1)).symm (Nat.mod_lt _ (by omega)) hbit;rw[←ha] at ts;have hmod:bval x0/2 ^ (i+1)%bval x1<bval x1:=Nat.mod_lt _ (by omega);have hrl:(bitsN (bval x0/2 ^ (i+1)%bval x1)).length≤x1.length:=len_bitsN_le (Nat.lt_trans hmod (bval_lt x1));have hy:bval ([x0.getD i false]++bitsN (bval x0/2 ^ (i+1)%bval x1))=2*(bval x0/2 ^ (i+1)%bval x1)+bval x0/2 ^ i%2:=by
   rw[List.cons_append,List.nil_append,bval_cons,bval_bitsN,hg,ht];omega
  have hc:=cut_ev (l:=[x0.getD i false]++bitsN (bval x0/2 ^ (i+1)%bval x1)) (by simp;omega);rw[hy] at hc;have hvl:(bitsN (2*(bval x0/2 ^ (i+1)%bval x1)+bval x0/2 ^ i%2)).length≤x1.length+1:=by
   refine len_bitsN_le ?_
   have hb1:=bval_lt x1;have e2:2 ^ (x1.length+1)=2*2 ^ x1.length:=by rw[Nat.pow_succ,Nat.mul_comm]
   rw[e2];generalize bval x0/2 ^ (i+1)%bval x1=Z at *;omega
  have hm:=cmp_ev (a:=bitsN (2*(bval x0/2 ^ (i+1)%bval x1)+bval x0/2 ^ i%2)) (b:=x1) (by omega) (by omega);rw[bval_bitsN] at hm;by_cases hlt:2*(bval x0/2 ^ (i+1)%bval x1)+bval x0/2 ^ i%2<bval x1
  ·have hcm:¬cmp3 (2*(bval x0/2 ^ (i+1)%bval x1)+bval x0/2 ^ i%2) (bval x1)≥0:=by unfold cmp3;rw[if_pos hlt];omega
   obtain⟨d1,d2⟩:=ts.1 hlt;have hk:=ih (false::q) _ (by simp;omega) (by rw[bval_cons,hq,d1];simp) rfl;rw[d2,show List.replicate i false++false::q=List.replicate (i+1) false++q by rw[List.replicate_succ',List.append_assoc];rfl] at hk;refine Ev.step (f:=fun k=>(foliotref01_cut.f k ([x0.getD i false]++bitsN (bval x0/2 ^ (i+1)%bval x1))).bind fun t=>(foliotref01_cmp.f k t x1).bind fun c =>
    if c≥0 then (foliotref01_sub.f k t x1).bind fun u=>(if (i:Int)<((List.replicate (i+1) false++q).length:Int) then (foliotref01_div.l0 k x0 x1 ((List.replicate (i+1) false++q).set (i:Int).toNat true) u ((i:Int)-1)) else none)
    else foliotref01_div.l0 k x0 x1 (List.replicate (i+1) false++q) t ((i:Int)-1)) (fun k=>?_) (Ev.bind hc (Ev.bind hm (Ev.congr (fun k=>if_neg hcm) hk)))
   simp only[foliotref01_div.l0];rw[if_pos (by omega),if_pos (by omega),if_pos (by omega),Option.bind_some,if_pos (by simp;omega),rdOf_nat,w64 (by omega) (by omega)]
  ·have hcm:cmp3 (2*(bval x0/2 ^ (i+1)%bval x1)+bval x0/2 ^ i%2) (bval x1)≥0:=by unfold cmp3;rw[if_neg hlt];split<;>omega
   obtain⟨d1,d2⟩:=ts.2 hlt;have hk:=ih (true::q) _ (by simp;omega) (by rw[bval_cons,hq,d1];simp;omega) rfl;have hset:(List.replicate (i+1) false++q).set (i:Int).toNat true=List.replicate i false++true::q:=by
    rw[List.replicate_succ',List.append_assoc,Int.toNat_natCast,List.set_append_right _ _ (by simp)];simp
   have hs:=sub_evb (x0:=bitsN (2*(bval x0/2 ^ (i+1)%bval x1)+bval x0/2 ^ i%2)) (x1:=x1) (by omega) (by rw[bval_bitsN];omega);rw[bval_bitsN] at hs;rw[d2,←hset] at hk;refine Ev.step (f:=fun k=>(foliotref01_cut.f k ([x0.getD i false]++bitsN (bval x0/2 ^ (i+1)%bval x1))).bind fun t=>(foliotref01_cmp.f k t x1).bind fun c =>
    if c≥0 then (foliotref01_sub.f k t x1).bind fun u=>(if (i:Int)<((List.replicate (i+1) false++q).length:Int) then (foliotref01_div.l0 k x0 x1 ((List.replicate (i+1) false++q).set (i:Int).toNat true) u ((i:Int)-1)) else none)
    else foliotref01_div.l0 k x0 x1 (List.replicate (i+1) false++q) t ((i:Int)-1)) (fun k=>?_) (Ev.bind hc (Ev.bind hm (Ev.congr (fun k=>if_pos hcm) (Ev.bind hs (Ev.congr (fun k=>if_pos (by simp;omega)) hk)))))
   simp only[foliotref01_div.l0];rw[if_pos (by omega),if_pos (by omega),if_pos (by omega),Option.bind_some,if_pos (by simp;omega),rdOf_nat,w64 (by omega) (by omega)]
theorem rdiv_ev {x0 x1:List Bool} (h0:x0.length<40000000000) (h1:x1.length<40000000000) (hB:bval x1≠0) :
  Ev (fun k=>foliotref01_div.f k x0 x1) (bitsN (bval x0/bval x1),bitsN (bval x0%bval x1)):=by
 have hz:bval x0/2 ^ x0.length=0:=Nat.div_eq_of_lt (bval_lt x0);have h:=rdiv_l0 x0 x1 h0 h1 hB x0.length [] [] rfl (by rw[hz];simp[bval_nil]) (by rw[hz];simp[bitsN_zero]);rw[List.append_nil] at h;unfold foliotref01_div.f;refine Ev.congr (fun k=>?_) h
 rw[if_pos (by omega),if_pos (by omega),Int.toNat_natCast,w64 (by omega) (by omega)]
def divided (A B:Nat):List Int×List Int×Int:=if B=0 then ([],[],3) else (ofN (A/B),ofN (A%B),0)
theorem len_bits_le (m n:Nat) (h:m≤n):(bitsN m).length≤(bitsN n).length:=len_bitsN_le (Nat.lt_of_le_of_lt h (lt_len_bitsN n))
theorem bitsN_eq_nil {n:Nat}:(bitsN n).length=0↔n=0:=by
 constructor
 ·intro h
  have:=lt_len_bitsN n;rw[h] at this;omega
 ·intro h;subst h;rfl
theorem rdivN_ev {A B:Nat} (h0:(bitsN A).length<40000000000) (h1:(bitsN B).length<40000000000) (hB:B≠0) :
  Ev (fun k=>foliotref01_div.f k (bitsN A) (bitsN B)) (bitsN (A/B),bitsN (A%B)):=by
 have h:=rdiv_ev h0 h1 (by rw[bval_bitsN];exact hB);rw[bval_bitsN,bval_bitsN] at h;exact h
theorem limbsN_ev {A:Nat} (h:(bitsN A).length<100000000000):Ev (fun k=>foliotref01_Limbs.f k (bitsN A)) (ofN A):=by
 have h2:=limbs_ev h;rw[bval_bitsN] at h2;exact h2
theorem rdivide_ev {l m:List Int} (hl:l.length≤1000000000) (hm:m.length≤1000000000) (l1:lim l) (m1:lim m) :
  Ev (fun k=>foliotref01_Div.f k l m) (divided (val l) (val m)):=by
 have e1:=lenb l1;have e2:=lenb m1;unfold foliotref01_Div.f divided;by_cases h:val m=0
 ·rw[if_pos h]
  refine Ev.bind (of_ev (by omega) l1) (Ev.bind (of_ev (by omega) m1) (Ev.congr (fun k=>?_) (Ev.now _)))
  rw[if_pos (by rw[h];rfl)]
 ·rw[if_neg h]
  have q1:=len_bits_le (val l/val m) (val l) (Nat.div_le_self _ _);have q2:=len_bits_le (val l%val m) (val l) (Nat.mod_le _ _);have d1:=rdivN_ev (A:=val l) (B:=val m) (by omega) (by omega) h;have d2:=limbsN_ev (A:=val l/val m) (by omega);have d3:=limbsN_ev (A:=val l%val m) (by omega);refine Ev.bind (of_ev (by omega) l1) (Ev.bind (of_ev (by omega) m1) (Ev.congr (f:=fun k=>(foliotref01_div.f k (bitsN (val l)) (bitsN (val m))).bind fun bt=>(foliotref01_Limbs.f k bt.1).bind fun t1=>(foliotref01_Limbs.f k bt.2).bind fun t2=>some (t1,t2,0)) (fun k=>?_) (Ev.bind d1 (Ev.bind d2 (Ev.bind (f:=fun k t2=>some (ofN (val l/val m),t2,0)) d3 (Ev.now _))))))
  rw[if_neg];intro h2;exact h (bitsN_eq_nil.1 (by omega))
theorem rgcd_l0:∀(d A B:Nat),B≤d→(bitsN A).length<40000000000→(bitsN B).length<40000000000→Ev (fun k=>foliotref01_Gcd.l0 k (bitsN A) (bitsN B)) (ofN (Nat.gcd A B)):=by
 intro d
 induction d with
 |zero =>
  intro A B hB hA _;obtain rfl:B=0:=by omega
  refine Ev.step (f:=fun k=>(foliotref01_Limbs.f k (bitsN A)).bind fun t=>some t) (fun k=>?_) ?_
  ·simp only[foliotref01_Gcd.l0]
   rw[if_neg (by rw[bitsN_zero];simp)]
  ·rw[Nat.gcd_zero_right]
   exact Ev.bind (limbsN_ev (by omega)) (Ev.now _)
 |succ d ih =>
  intro A B hB hA hB2;by_cases h:B=0
  ·subst h
   refine Ev.step (f:=fun k=>(foliotref01_Limbs.f k (bitsN A)).bind fun t=>some t) (fun k=>?_) ?_
   ·simp only[foliotref01_Gcd.l0]
    rw[if_neg (by rw[bitsN_zero];simp)]
   ·rw[Nat.gcd_zero_right]
    exact Ev.bind (limbsN_ev (by omega)) (Ev.now _)
  ·have hm:=Nat.mod_lt A (Nat.pos_of_ne_zero h)
   have q2:=len_bits_le (A%B) B (by omega);have hne:¬(bitsN B).length=0:=fun e=>h (bitsN_eq_nil.1 e)
   refine Ev.step (f:=fun k=>(foliotref01_div.f k (bitsN A) (bitsN B)).bind fun t=>foliotref01_Gcd.l0 k (bitsN B) t.2) (fun k=>?_) ?_
   ·simp only[foliotref01_Gcd.l0]
    rw[if_pos (by omega)]
   ·rw[show Nat.gcd A B=Nat.gcd B (A%B) by rw[Nat.gcd_comm B,←Nat.gcd_rec,Nat.gcd_comm]]
    exact Ev.bind (rdivN_ev hA hB2 h) (ih B (A%B) (by omega) hB2 (by omega))
theorem rgcd_ev {l m:List Int} (hl:l.length≤1000000000) (hm:m.length≤1000000000) (l1:lim l) (m1:lim m) :
  Ev (fun k=>foliotref01_Gcd.f k l m) (ofN (Nat.gcd (val l) (val m))):=by
 have e1:=lenb l1;have e2:=lenb m1;unfold foliotref01_Gcd.f;exact Ev.bind (of_ev (by omega) l1) (Ev.bind (of_ev (by omega) m1) (rgcd_l0 _ _ _ (Nat.le_refl _) (by omega) (by omega)))
end
section
theorem len_bits_of {n L:Nat} (h1:2 ^ L≤n) (h2:n<2 ^ (L+1)):(bitsN n).length=L+1:=by
 have a:=len_bitsN_le h2;have b:=lt_len_bitsN n;by_cases h:(bitsN n).length≤L
 ·have:=Nat.pow_le_pow_right (n:=2) (by omega) h
  omega
 ·omega
theorem pbits_ev {l:List Int} (hl:l.length≤8796093022208) (l1:lim l):Ev (fun k=>nat_Bits.f k l) ((bitsN (val l)).length:Int):=by
 unfold nat_Bits.f;have hlen:=len_val_le l1;refine Ev.bind (Nt.cut_ev l1 (by omega)) ?_
 by_cases h0:val l=0
 ·rw[h0];exact Ev.congr (f:=fun _=>some 0) (fun k=>by rw[if_pos (by rw[ofN_zero];rfl)]) (Ev.now _)
 ·have hne:ofN (val l)≠[]:=fun e=>h0 (ofN_nil.1 e)
  have hpos:=List.length_pos_iff.2 hne;obtain⟨r,y,hr,hrl⟩:=snoc_of (l:=ofN (val l)) (n:=(ofN (val l)).length-1) (by omega);obtain⟨y0,y1,hlr,e⟩:=last_ofN hr;obtain⟨n,b0,b1,b2,b3,b4⟩:=len32 y0 y1;have hyy:((y.toNat:Nat):Int)=y:=by omega
  have hrv:=val_lt hlr;have hP:4294967296 ^ r.length=2 ^ (32*r.length):=by rw[show (4294967296:Nat)=2 ^ 32 from rfl,←Nat.pow_mul]
  have c3:2 ^ (n-1)≤y.toNat:=by
   have:((2 ^ (n-1):Nat):Int)≤(y.toNat:Int):=by rw[hyy];exact_mod_cast b3
   omega
  have c4:y.toNat+1≤2 ^ n:=by
   have:(y.toNat:Int)<((2 ^ n:Nat):Int):=by rw[hyy];exact_mod_cast b4
   omega
  have hL:(bitsN (val l)).length=32*r.length+(n-1)+1:=by
   apply len_bits_of
   ·rw[Nat.pow_add,←hP,e]
    exact Nat.le_trans (Nat.mul_le_mul_left _ c3) (Nat.le_add_left _ _)
   ·rw[show 32*r.length+(n-1)+1=32*r.length+n by omega,Nat.pow_add,←hP,e]
    have:=Nat.mul_le_mul_left (4294967296 ^ r.length) c4;rw[Nat.mul_add,Nat.mul_one] at this;omega
  have hlr2:(ofN (val l)).length=r.length+1:=by rw[hr];simp
  refine Ev.congr (f:=fun _=>some (((bitsN (val l)).length:Nat):Int)) (fun k=>?_) (Ev.now _)
  rw[hL,hlr2];have e1:wrap64 (((r.length+1:Nat):Int)-1)=(r.length:Int):=by rw[w64 (by omega) (by omega)];omega
  rw[if_neg (by omega),e1,if_pos (by omega),if_pos (by omega),hr,rd_app _ _ _ _ rfl,b0];simp only[Option.bind_some];rw[w64 (x:=32*(r.length:Int)) (by omega) (by omega),w64 (by omega) (by omega)];congr 1
  omega
end
section
def rfits (l:List Int):Prop:=lim l∧l.length≤1000000000
instance (l:List Int):Decidable (rfits l):=inferInstanceAs (Decidable (_∧_))
end
end Go.Proofs.YtjfkhbkddenfoaaGreat.Nb
namespace Go.Proofs.YtjfkhbkddenfoaaGreat.Ev
open Go Go.RowKit Go.Proofs.YtjfkhbkddenfoaaGreatW.PrintWords Go.Proofs.YtjfkhbkddenfoaaGreatW.PrintMore Go.Proofs.YtjfkhbkddenfoaaGreatW.PrintLast Go.Proofs.YtjfkhbkddenfoaaGreat
section
def nat_Trim.f (l0:List Int):Option (List Int):=if Nt.fits l0 then some (Nt.ofN (Nt.val l0)) else none
theorem nat_Trim.calls (A0:Option Addr) (c0:Nat) (l0:List Int) (r:List Int) (w:World) (hr0:Kd.C (Kd.int .u32) w A0 l0.length l0) (hc0:l0.length≤c0) (h:nat_Trim.f l0=some r) :
  Calls Tryz.prog 109 #[.slice A0 l0.length c0] w fun e w'=>∃v0_:Value,e=.returned (v0_)∧Kd.R (Kd.int .u32) 88 w' w.heap.size (fun _=>True) v0_ r∧Below w.heap.size w w':=by
 unfold nat_Trim.f at h;split at h
 ·rename_i hf
  injection h with h;subst h;obtain⟨K,hK⟩:=Nt.trim_ev hf.1 (by have:=hf.2;omega);exact N.nat_Trim.calls K A0 c0 l0 _ w hr0 hc0 (hK K (Nat.le_refl _))
 ·cases h
theorem nat_Trim.con (l0:List Int) (r1:List Int) (h:nat_Trim.f l0=some r1):Con Tryz.prog 109 [.one (limbs l0)] (.g (.one (limbs r1))):=by
 refine .inl ⟨⟨_,Tryz.func109,by kernel_rfl,rfl⟩,fun ok us w hA=>?_⟩
 obtain⟨A0,c0,rfl,hc0,hF0⟩:=in1 hA;refine (nat_Trim.calls A0 c0 l0 r1 w (Kd.F_now hF0) hc0 h).mono ?_
 rintro e w' ⟨v0,rfl,h0,hb⟩
 exact⟨_,rfl,(outR h0:TC [] _ _ _ _),hb⟩
def nat_Add.f (l0:List Int) (l1:List Int):Option (List Int):=if Nt.fits l0∧Nt.fits l1 then some (Nt.ofN (Nt.val l0+Nt.val l1)) else none
theorem nat_Add.calls (A0:Option Addr) (c0:Nat) (l0:List Int) (A1:Option Addr) (c1:Nat) (l1:List Int) (r:List Int) (w:World) (hr0:Kd.C (Kd.int .u32) w A0 l0.length l0) (hc0:l0.length≤c0) (hr1:Kd.C (Kd.int .u32) w A1 l1.length l1) (hc1:l1.length≤c1) (h:nat_Add.f l0 l1=some r) :
  Calls Tryz.prog 134 #[.slice A0 l0.length c0,.slice A1 l1.length c1] w fun e w'=>∃v0_:Value,e=.returned (v0_)∧Kd.V (Kd.int .u32) 88 w' w.heap.size (fun k_=>(w.heap.size≤k_)) v0_ r∧Below w.heap.size w w':=by
 unfold nat_Add.f at h;split at h
 ·rename_i hf
  injection h with h;subst h;obtain⟨K,hK⟩:=Nt.add_ev hf.1.1 hf.2.1 hf.1.lt hf.2.lt;exact N.nat_Add.calls K A0 c0 l0 A1 c1 l1 _ w hr0 hc0 hr1 hc1 (hK K (Nat.le_refl _))
 ·cases h
theorem nat_Add.con (l0:List Int) (l1:List Int) (r1:List Int) (h:nat_Add.f l0 l1=some r1):Con Tryz.prog 134 [.one (limbs l0),.one (limbs l1)] (.g (.one (limbs r1))):=by
 refine .inl ⟨⟨_,Tryz.func134,by kernel_rfl,rfl⟩,fun ok us w hA=>?_⟩
 obtain⟨A0,c0,A1,c1,rfl,hc0,hF0,hc1,hF1⟩:=in2 hA;refine (nat_Add.calls A0 c0 l0 A1 c1 l1 r1 w (Kd.F_now hF0) hc0 (Kd.F_now hF1) hc1 h).mono ?_
 rintro e w' ⟨v0,rfl,h0,hb⟩
 exact⟨_,rfl,(outV h0 (fun k hk=>.inr hk):TC [] _ _ _ _),hb⟩
def nat_Mul.f (l0:List Int) (l1:List Int):Option (List Int):=if Nt.fits l0∧Nt.fits l1 then some (Nt.ofN (Nt.val l0*Nt.val l1)) else none
theorem nat_Mul.calls (A0:Option Addr) (c0:Nat) (l0:List Int) (A1:Option Addr) (c1:Nat) (l1:List Int) (r:List Int) (w:World) (hr0:Kd.C (Kd.int .u32) w A0 l0.length l0) (hc0:l0.length≤c0) (hr1:Kd.C (Kd.int .u32) w A1 l1.length l1) (hc1:l1.length≤c1) (h:nat_Mul.f l0 l1=some r) :
  Calls Tryz.prog 92 #[.slice A0 l0.length c0,.slice A1 l1.length c1] w fun e w'=>∃v0_:Value,e=.returned (v0_)∧Kd.V (Kd.int .u32) 88 w' w.heap.size (fun k_=>(w.heap.size≤k_)) v0_ r∧Below w.heap.size w w':=by
 unfold nat_Mul.f at h;split at h
 ·rename_i hf
  injection h with h;subst h;obtain⟨K,hK⟩:=Nt.mul_ev hf.1.1 hf.2.1 (by have:=hf.1.2;have:=hf.2.2;omega);exact N.nat_Mul.calls K A0 c0 l0 A1 c1 l1 _ w hr0 hc0 hr1 hc1 (hK K (Nat.le_refl _))
 ·cases h
theorem nat_Mul.con (l0:List Int) (l1:List Int) (r1:List Int) (h:nat_Mul.f l0 l1=some r1):Con Tryz.prog 92 [.one (limbs l0),.one (limbs l1)] (.g (.one (limbs r1))):=by
 refine .inl ⟨⟨_,Tryz.func92,by kernel_rfl,rfl⟩,fun ok us w hA=>?_⟩
 obtain⟨A0,c0,A1,c1,rfl,hc0,hF0,hc1,hF1⟩:=in2 hA;refine (nat_Mul.calls A0 c0 l0 A1 c1 l1 r1 w (Kd.F_now hF0) hc0 (Kd.F_now hF1) hc1 h).mono ?_
 rintro e w' ⟨v0,rfl,h0,hb⟩
 exact⟨_,rfl,(outV h0 (fun k hk=>.inr hk):TC [] _ _ _ _),hb⟩
def nat_Sub.f (l0:List Int) (l1:List Int):Option (List Int×Int):=if Nt.fits l0∧Nt.fits l1 then some (if Nt.val l0<Nt.val l1 then ([],1) else (Nt.ofN (Nt.val l0-Nt.val l1),0)) else none
theorem nat_Sub.calls (P0_:Nat→Prop) (A0:Option Addr) (c0:Nat) (l0:List Int) (A1:Option Addr) (c1:Nat) (l1:List Int) (r1:List Int) (r2:Int) (w:World) (hs0:Kd.V (Kd.int .u32) 88 w w.heap.size (fun k_=>P0_ k_) (.slice A0 l0.length c0) l0) (hr1:Kd.C (Kd.int .u32) w A1 l1.length l1) (hc1:l1.length≤c1) (h:nat_Sub.f l0 l1=some (r1,r2)) :
  Calls Tryz.prog 135 #[.slice A0 l0.length c0,.slice A1 l1.length c1] w fun e w'=>∃v0_:Value,e=.returned (.tuple #[v0_,.int .i64 r2])∧Kd.V (Kd.int .u32) 88 w' w.heap.size (fun k_=>(P0_ k_∨w.heap.size≤k_)) v0_ r1∧Below w.heap.size w w':=by
 unfold nat_Sub.f at h;split at h
 ·rename_i hf
  injection h with h;obtain⟨K,hK⟩:=Nt.sub_ev hf.1.1 hf.2.1 hf.1.2 hf.2.2;exact N.nat_Sub.calls K P0_ A0 c0 l0 A1 c1 l1 r1 r2 w hs0 hr1 hc1 ((hK K (Nat.le_refl _)).trans (congrArg some h))
 ·cases h
theorem nat_Sub.con (l0:List Int) (l1:List Int) (r1:List Int) (r2:Int) (h:nat_Sub.f l0 l1=some (r1,r2)):Con Tryz.prog 135 [.one (limbs l0),.one (limbs l1)] (.tup [.one (limbs r1),.one (.v (.int .i64 r2))]):=by
 refine .inl ⟨⟨_,Tryz.func135,by kernel_rfl,rfl⟩,fun ok us w hA=>?_⟩
 obtain⟨A0,c0,A1,c1,rfl,hc0,hF0,hc1,hF1⟩:=in2 hA;refine (nat_Sub.calls ok A0 c0 l0 A1 c1 l1 r1 r2 w ⟨A0,c0,rfl,hc0,hF0⟩ (Kd.F_now hF1) hc1 h).mono ?_
 rintro e w' ⟨v0,rfl,h0,hb⟩
 exact⟨_,rfl,out2 ((outV h0 (fun k hk=>hk):TC [] _ _ _ _)) ((outN rfl:TC [] _ _ (.v _) _)),hb⟩
def nat_Div.f (l0:List Int) (l1:List Int):Option (List Int×List Int×Int):=if Nt.fits l0∧Nt.fits l1 then some (if Nt.val l1=0 then ([],[],3) else (Nt.ofN (Nt.val l0/Nt.val l1),Nt.ofN (Nt.val l0%Nt.val l1),0)) else none
theorem nat_Div.calls (P0_:Nat→Prop) (A0:Option Addr) (c0:Nat) (l0:List Int) (P1_:Nat→Prop) (A1:Option Addr) (c1:Nat) (l1:List Int) (r1:List Int) (r2:List Int) (r3:Int) (w:World) (hs0:Kd.V (Kd.int .u32) 88 w w.heap.size (fun k_=>P0_ k_) (.slice A0 l0.length c0) l0) (hs1:Kd.V (Kd.int .u32) 88 w w.heap.size (fun k_=>P1_ k_) (.slice A1 l1.length c1) l1) (h:nat_Div.f l0 l1=some (r1,r2,r3)) :
  Calls Tryz.prog 90 #[.slice A0 l0.length c0,.slice A1 l1.length c1] w fun e w'=>∃v0_ v1_:Value,e=.returned (.tuple #[v0_,v1_,.int .i64 r3])∧Kd.V (Kd.int .u32) 88 w' w.heap.size (fun k_=>((P0_ k_∨P1_ k_)∨w.heap.size≤k_)) v0_ r1∧Kd.V (Kd.int .u32) 88 w' w.heap.size (fun k_=>((P0_ k_∨P1_ k_)∨w.heap.size≤k_)) v1_ r2∧Below w.heap.size w w':=by
 unfold nat_Div.f at h;split at h
 ·rename_i hf
  injection h with h;obtain⟨K,hK⟩:=Nt.div_ev hf.1.1 hf.2.1 hf.1.2 hf.2.2;exact N.nat_Div.calls K P0_ A0 c0 l0 P1_ A1 c1 l1 r1 r2 r3 w hs0 hs1 ((hK K (Nat.le_refl _)).trans (congrArg some h))
 ·cases h
theorem nat_Div.con (l0:List Int) (l1:List Int) (r1:List Int) (r2:List Int) (r3:Int) (h:nat_Div.f l0 l1=some (r1,r2,r3)):Con Tryz.prog 90 [.one (limbs l0),.one (limbs l1)] (.tup [.one (limbs r1),.one (limbs r2),.one (.v (.int .i64 r3))]):=by
 refine .inl ⟨⟨_,Tryz.func90,by kernel_rfl,rfl⟩,fun ok us w hA=>?_⟩
 obtain⟨A0,c0,A1,c1,rfl,hc0,hF0,hc1,hF1⟩:=in2 hA;refine (nat_Div.calls ok A0 c0 l0 ok A1 c1 l1 r1 r2 r3 w ⟨A0,c0,rfl,hc0,hF0⟩ ⟨A1,c1,rfl,hc1,hF1⟩ h).mono ?_
 rintro e w' ⟨v0,v1,rfl,h0,h1,hb⟩
 exact⟨_,rfl,out3 ((outV h0 (fun k hk=>hk.elim (fun hk=>.inl (hk.elim id id)) .inr):TC [] _ _ _ _)) ((outV h1 (fun k hk=>hk.elim (fun hk=>.inl (hk.elim id id)) .inr):TC [] _ _ _ _)) ((outN rfl:TC [] _ _ (.v _) _)),hb⟩
def nat_Gcd.f (l0:List Int) (l1:List Int):Option (List Int):=if Nt.fits l0∧Nt.fits l1 then some (Nt.ofN (Nat.gcd (Nt.val l0) (Nt.val l1))) else none
set_option maxHeartbeats 2000000 in
theorem nat_Gcd.calls (A0:Option Addr) (c0:Nat) (l0:List Int) (A1:Option Addr) (c1:Nat) (l1:List Int) (r:List Int) (w:World) (hr0:Kd.C (Kd.int .u32) w A0 l0.length l0) (hc0:l0.length≤c0) (hr1:Kd.C (Kd.int .u32) w A1 l1.length l1) (hc1:l1.length≤c1) (h:nat_Gcd.f l0 l1=some r) :
  Calls Tryz.prog 89 #[.slice A0 l0.length c0,.slice A1 l1.length c1] w fun e w'=>∃v0_:Value,e=.returned (v0_)∧Kd.V (Kd.int .u32) 88 w' w.heap.size (fun k_=>(w.heap.size≤k_)) v0_ r∧Below w.heap.size w w':=by
 unfold nat_Gcd.f at h;split at h
 case isFalse=>cases h
 case isTrue hf =>
 injection h with h;have T0:=Aside0.mk (show nat_Trim.f l0=some (Nt.ofN (Nt.val l0)) from if_pos hf.1);have T1:=Aside0.mk (show nat_Trim.f l1=some (Nt.ofN (Nt.val l1)) from if_pos hf.2);have L0:=Aside0.mk (Nat.le_trans (Nt.len_val_le hf.1.1) hf.1.2);have L1:=Aside0.mk (Nat.le_trans (Nt.len_val_le hf.2.1) hf.2.2);generalize Nt.val l0=x0 at *;generalize Nt.val l1=y0 at *;have HG:=Aside0.mk h;have HR0:=Aside0.mk hr0;have HC0:=Aside0.mk hc0;have HR1:=Aside0.mk hr1;have HC1:=Aside0.mk hc1;clear h hf hr0 hc0 hr1 hc1;go_enter Tryz.func89,Tryz.ntmps89
 go_wp2_with (go_at_call 109;(with_reducible refine (nat_Trim.calls A0 c0 l0 _ _ HR0.out HC0.out T0.out).mono ?_);rintro e w1 ⟨v0,rfl,ho0,hb0⟩;have HV0:=Aside0.mk (Kd.R_V (base':=w.heap.size) (Kd.R_mono (ok':=fun k_=>w.heap.size≤k_) (Kd.R_bound ho0) (fun k hk=>hk.2.1)));have HB0:=Aside0.mk hb0;clear ho0 hb0 HR0 HC0 T0)
 go_wp2_with (go_at_call 109;(with_reducible refine (nat_Trim.calls A1 c1 l1 _ _ (Kd.C_below HR1.out HB0.out) HC1.out T1.out).mono ?_);rintro e w2 ⟨v1,rfl,ho1,hb1⟩;have HV1:=Aside0.mk (Kd.R_V (base':=w.heap.size) (Kd.R_mono (ok':=fun k_=>w.heap.size≤k_) (Kd.R_bound ho1) (fun k hk=>Nat.le_trans HB0.out.size hk.2.1)));have HV0':=Aside0.mk (Kd.V_below HV0.out hb1);have HB1:=Aside0.mk (below_step HB0.out hb1);clear ho1 hb1 HR1 HC1 T1 HV0 HB0)
 go_loopg [0,1] y0 (fun gq v0 v1 w'=>∃(x y:Nat),Aside0 (y≤gq)∧Aside0 (Nt.ofN (Nat.gcd x y)=r)∧Aside0 ((Nt.ofN x).length≤8796093022208)∧Aside0 ((Nt.ofN y).length≤8796093022208)∧Aside0 (Kd.V (Kd.int .u32) 88 w' w.heap.size (fun k_=>w.heap.size≤k_) v0 (Nt.ofN x))∧Aside0 (Kd.V (Kd.int .u32) 88 w' w.heap.size (fun k_=>w.heap.size≤k_) v1 (Nt.ofN y))∧Aside0 (Below w.heap.size w w'))
 case atStart=>exact⟨x0,y0,⟨Nat.le_refl _⟩,HG,L0,L1,HV0',HV1,HB1⟩
 case round =>
  clear HG L0 L1 HV0' HV1 HB1;obtain⟨x,y,HY,HG,LX,LY,HV0,HV1,HB⟩:=hrel;obtain⟨A,c,eA⟩:=Kd.V_slice HV0.out;subst eA;obtain⟨A',c',eA'⟩:=Kd.V_slice HV1.out;subst eA';by_cases hy:y=0
  ·subst hy
   have hl:(Nt.ofN 0).length=0:=rfl;have d1:decide (0<((Nt.ofN 0).length:Int))=false:=by rw[hl];rfl
   have d2:decide (0<(Nt.ofN 0).length)=false:=by rw[hl];rfl
   clear hl;go_wp2
   go_ret
   exact⟨_,rfl,by have h0:=HV0.out;rw[←HG.out,Nat.gcd_zero_right];exact h0,HB.out⟩
  ·have hl:0<(Nt.ofN y).length:=List.length_pos_iff.2 (fun e=>hy (Nt.ofN_nil.1 e))
   have d1:decide (0<((Nt.ofN y).length:Int))=true:=decide_eq_true (by omega);have d2:decide (0<(Nt.ofN y).length)=true:=decide_eq_true hl;have hmod:=Nat.mod_lt x (Nat.pos_of_ne_zero hy);have D:=Aside0.mk (show nat_Div.f (Nt.ofN x) (Nt.ofN y)=some (Nt.ofN (x/y),Nt.ofN (x%y),0) by
    unfold nat_Div.f;rw[if_pos ⟨Nt.fits_ofN LX.out,Nt.fits_ofN LY.out⟩,Nt.val_ofN,Nt.val_ofN,if_neg hy])
   have HM:=Aside0.mk hmod;clear hmod hy hl;go_wp2_with (go_at_call 90;(with_reducible refine (nat_Div.calls (fun k_=>w.heap.size≤k_) A c (Nt.ofN x) (fun k_=>w.heap.size≤k_) A' c' (Nt.ofN y) _ _ _ _ HV0.out HV1.out D.out).mono ?_);rintro e w3 ⟨q0,q1,rfl,hq0,hq1,hb⟩;have HQ:=Aside0.mk (Kd.V_mono (ok':=fun k_=>w.heap.size≤k_) hq1 (fun k_ hk=>hk.elim (fun h_=>h_.elim id id) (fun h_=>Nat.le_trans HB.out.size h_)));have HV1':=Aside0.mk (Kd.V_below HV1.out hb);have HB':=Aside0.mk (below_step HB.out hb);clear hq0 hq1 hb HV0 HV1 HB D)
   go_roundg (x%y)
   case measure=>have:=HM.out;have:=HY.out;omega
   case rel=>exact⟨y,x%y,⟨Nat.le_refl _⟩,⟨by rw[←HG.out,Nat.gcd_comm y,←Nat.gcd_rec,Nat.gcd_comm]⟩,LY,⟨Nat.le_trans (Nt.len_mono (Nat.mod_le _ _)) LX.out⟩,HV1',HQ,HB'⟩
theorem nat_Gcd.con (l0:List Int) (l1:List Int) (r1:List Int) (h:nat_Gcd.f l0 l1=some r1):Con Tryz.prog 89 [.one (limbs l0),.one (limbs l1)] (.g (.one (limbs r1))):=by
 refine .inl ⟨⟨_,Tryz.func89,by kernel_rfl,rfl⟩,fun ok us w hA=>?_⟩
 obtain⟨A0,c0,A1,c1,rfl,hc0,hF0,hc1,hF1⟩:=in2 hA;refine (nat_Gcd.calls A0 c0 l0 A1 c1 l1 r1 w (Kd.F_now hF0) hc0 (Kd.F_now hF1) hc1 h).mono ?_
 rintro e w' ⟨v0,rfl,h0,hb⟩
 exact⟨_,rfl,(outV h0 (fun k hk=>.inr hk):TC [] _ _ _ _),hb⟩
def nat_Cmp.f (l0:List Int) (l1:List Int):Option (Int):=if Nt.fits l0∧Nt.fits l1 then some (if Nt.val l0<Nt.val l1 then -1 else if Nt.val l1<Nt.val l0 then 1 else 0) else none
theorem nat_Cmp.calls (A0:Option Addr) (c0:Nat) (l0:List Int) (A1:Option Addr) (c1:Nat) (l1:List Int) (r:Int) (w:World) (hr0:Kd.C (Kd.int .u32) w A0 l0.length l0) (hc0:l0.length≤c0) (hr1:Kd.C (Kd.int .u32) w A1 l1.length l1) (hc1:l1.length≤c1) (h:nat_Cmp.f l0 l1=some r) :
  Calls Tryz.prog 63 #[.slice A0 l0.length c0,.slice A1 l1.length c1] w fun e w'=>e=.returned (.int .i64 r)∧Below w.heap.size w w':=by
 unfold nat_Cmp.f at h;split at h
 ·rename_i hf
  injection h with h;subst h;obtain⟨K,hK⟩:=Nt.cmp_ev hf.1.1 hf.2.1 (by have:=hf.1.2;omega) (by have:=hf.2.2;omega);exact N.nat_Cmp.calls K A0 c0 l0 A1 c1 l1 _ w hr0 hc0 hr1 hc1 (hK K (Nat.le_refl _))
 ·cases h
theorem nat_Cmp.con (l0:List Int) (l1:List Int) (r1:Int) (h:nat_Cmp.f l0 l1=some r1):Con Tryz.prog 63 [.one (limbs l0),.one (limbs l1)] (.g (.one (.v (.int .i64 r1)))):=by
 refine .inl ⟨⟨_,Tryz.func63,by kernel_rfl,rfl⟩,fun ok us w hA=>?_⟩
 obtain⟨A0,c0,A1,c1,rfl,hc0,hF0,hc1,hF1⟩:=in2 hA;refine (nat_Cmp.calls A0 c0 l0 A1 c1 l1 r1 w (Kd.F_now hF0) hc0 (Kd.F_now hF1) hc1 h).mono ?_
 rintro e w' ⟨rfl,hb⟩
 exact⟨_,rfl,(outN rfl:TC [] _ _ (.v _) _),hb⟩
def nat_Bits.f (l0:List Int):Option (Int):=if Nt.fits l0 then some (((Nb.bitsN (Nt.val l0)).length:Int)) else none
theorem nat_Bits.calls (A0:Option Addr) (c0:Nat) (l0:List Int) (r:Int) (w:World) (hr0:Kd.C (Kd.int .u32) w A0 l0.length l0) (hc0:l0.length≤c0) (h:nat_Bits.f l0=some r) :
  Calls Tryz.prog 59 #[.slice A0 l0.length c0] w fun e w'=>e=.returned (.int .i64 r)∧Below w.heap.size w w':=by
 unfold nat_Bits.f at h;split at h
 ·rename_i hf
  injection h with h;subst h;obtain⟨K,hK⟩:=Nb.pbits_ev hf.2 hf.1;exact N.nat_Bits.calls K A0 c0 l0 _ w hr0 hc0 (hK K (Nat.le_refl _))
 ·cases h
theorem nat_Bits.con (l0:List Int) (r1:Int) (h:nat_Bits.f l0=some r1):Con Tryz.prog 59 [.one (limbs l0)] (.g (.one (.v (.int .i64 r1)))):=by
 refine .inl ⟨⟨_,Tryz.func59,by kernel_rfl,rfl⟩,fun ok us w hA=>?_⟩
 obtain⟨A0,c0,rfl,hc0,hF0⟩:=in1 hA;refine (nat_Bits.calls A0 c0 l0 r1 w (Kd.F_now hF0) hc0 h).mono ?_
 rintro e w' ⟨rfl,hb⟩
 exact⟨_,rfl,(outN rfl:TC [] _ _ (.v _) _),hb⟩
def foliotref01_Trim.f (l0:List Int):Option (List Int):=if Nb.rfits l0 then some (Nt.ofN (Nt.val l0)) else none
theorem foliotref01_Trim.calls (A0:Option Addr) (c0:Nat) (l0:List Int) (r:List Int) (w:World) (hr0:Kd.C (Kd.int .u32) w A0 l0.length l0) (hc0:l0.length≤c0) (h:foliotref01_Trim.f l0=some r) :
  Calls Tryz.prog 71 #[.slice A0 l0.length c0] w fun e w'=>∃v0_:Value,e=.returned (v0_)∧Kd.R (Kd.int .u32) 88 w' w.heap.size (fun _=>True) v0_ r∧Below w.heap.size w w':=by
 unfold foliotref01_Trim.f at h;split at h
 ·rename_i hf
  injection h with h;obtain⟨K,hK⟩:=Nb.rtrim_ev hf.1 (by have:=hf.2;omega);exact N.foliotref01_Trim.calls K A0 c0 l0 _ w hr0 hc0 ((hK K (Nat.le_refl _)).trans (congrArg some h))
 ·cases h
theorem foliotref01_Trim.con (l0:List Int) (r1:List Int) (h:foliotref01_Trim.f l0=some r1):Con Tryz.prog 71 [.one (limbs l0)] (.g (.one (limbs r1))):=by
 refine .inl ⟨⟨_,Tryz.func71,by kernel_rfl,rfl⟩,fun ok us w hA=>?_⟩
 obtain⟨A0,c0,rfl,hc0,hF0⟩:=in1 hA;refine (foliotref01_Trim.calls A0 c0 l0 r1 w (Kd.F_now hF0) hc0 h).mono ?_
 rintro e w' ⟨v0,rfl,h0,hb⟩
 exact⟨_,rfl,(outR h0:TC [] _ _ _ _),hb⟩
def foliotref01_Add.f (l0:List Int) (l1:List Int):Option (List Int):=if Nb.rfits l0∧Nb.rfits l1 then some (Nt.ofN (Nt.val l0+Nt.val l1)) else none
theorem foliotref01_Add.calls (A0:Option Addr) (c0:Nat) (l0:List Int) (A1:Option Addr) (c1:Nat) (l1:List Int) (r:List Int) (w:World) (hr0:Kd.C (Kd.int .u32) w A0 l0.length l0) (hc0:l0.length≤c0) (hr1:Kd.C (Kd.int .u32) w A1 l1.length l1) (hc1:l1.length≤c1) (h:foliotref01_Add.f l0 l1=some r) :
  Calls Tryz.prog 103 #[.slice A0 l0.length c0,.slice A1 l1.length c1] w fun e w'=>∃v0_:Value,e=.returned (v0_)∧Kd.R (Kd.int .u32) 88 w' w.heap.size (fun _=>True) v0_ r∧Below w.heap.size w w':=by
 unfold foliotref01_Add.f at h;split at h
 ·rename_i hf
  injection h with h;obtain⟨K,hK⟩:=Nb.radd_ev hf.1.2 hf.2.2 hf.1.1 hf.2.1;exact N.foliotref01_Add.calls K A0 c0 l0 A1 c1 l1 _ w hr0 hc0 hr1 hc1 ((hK K (Nat.le_refl _)).trans (congrArg some h))
 ·cases h
theorem foliotref01_Add.con (l0:List Int) (l1:List Int) (r1:List Int) (h:foliotref01_Add.f l0 l1=some r1):Con Tryz.prog 103 [.one (limbs l0),.one (limbs l1)] (.g (.one (limbs r1))):=by
 refine .inl ⟨⟨_,Tryz.func103,by kernel_rfl,rfl⟩,fun ok us w hA=>?_⟩
 obtain⟨A0,c0,A1,c1,rfl,hc0,hF0,hc1,hF1⟩:=in2 hA;refine (foliotref01_Add.calls A0 c0 l0 A1 c1 l1 r1 w (Kd.F_now hF0) hc0 (Kd.F_now hF1) hc1 h).mono ?_
 rintro e w' ⟨v0,rfl,h0,hb⟩
 exact⟨_,rfl,(outR h0:TC [] _ _ _ _),hb⟩
def foliotref01_Mul.f (l0:List Int) (l1:List Int):Option (List Int):=if Nb.rfits l0∧Nb.rfits l1 then some (Nt.ofN (Nt.val l0*Nt.val l1)) else none
theorem foliotref01_Mul.calls (A0:Option Addr) (c0:Nat) (l0:List Int) (A1:Option Addr) (c1:Nat) (l1:List Int) (r:List Int) (w:World) (hr0:Kd.C (Kd.int .u32) w A0 l0.length l0) (hc0:l0.length≤c0) (hr1:Kd.C (Kd.int .u32) w A1 l1.length l1) (hc1:l1.length≤c1) (h:foliotref01_Mul.f l0 l1=some r) :
  Calls Tryz.prog 85 #[.slice A0 l0.length c0,.slice A1 l1.length c1] w fun e w'=>∃v0_:Value,e=.returned (v0_)∧Kd.R (Kd.int .u32) 88 w' w.heap.size (fun _=>True) v0_ r∧Below w.heap.size w w':=by
 unfold foliotref01_Mul.f at h;split at h
 ·rename_i hf
  injection h with h;obtain⟨K,hK⟩:=Nb.rmul_ev hf.1.2 hf.2.2 hf.1.1 hf.2.1;exact N.foliotref01_Mul.calls K A0 c0 l0 A1 c1 l1 _ w hr0 hc0 hr1 hc1 ((hK K (Nat.le_refl _)).trans (congrArg some h))
 ·cases h
theorem foliotref01_Mul.con (l0:List Int) (l1:List Int) (r1:List Int) (h:foliotref01_Mul.f l0 l1=some r1):Con Tryz.prog 85 [.one (limbs l0),.one (limbs l1)] (.g (.one (limbs r1))):=by
 refine .inl ⟨⟨_,Tryz.func85,by kernel_rfl,rfl⟩,fun ok us w hA=>?_⟩
 obtain⟨A0,c0,A1,c1,rfl,hc0,hF0,hc1,hF1⟩:=in2 hA;refine (foliotref01_Mul.calls A0 c0 l0 A1 c1 l1 r1 w (Kd.F_now hF0) hc0 (Kd.F_now hF1) hc1 h).mono ?_
 rintro e w' ⟨v0,rfl,h0,hb⟩
 exact⟨_,rfl,(outR h0:TC [] _ _ _ _),hb⟩
def foliotref01_Sub.f (l0:List Int) (l1:List Int):Option (List Int×Int):=if Nb.rfits l0∧Nb.rfits l1 then some (if Nt.val l0<Nt.val l1 then ([],1) else (Nt.ofN (Nt.val l0-Nt.val l1),0)) else none
theorem foliotref01_Sub.calls (A0:Option Addr) (c0:Nat) (l0:List Int) (A1:Option Addr) (c1:Nat) (l1:List Int) (r1:List Int) (r2:Int) (w:World) (hr0:Kd.C (Kd.int .u32) w A0 l0.length l0) (hc0:l0.length≤c0) (hr1:Kd.C (Kd.int .u32) w A1 l1.length l1) (hc1:l1.length≤c1) (h:foliotref01_Sub.f l0 l1=some (r1,r2)) :
  Calls Tryz.prog 105 #[.slice A0 l0.length c0,.slice A1 l1.length c1] w fun e w'=>∃v0_:Value,e=.returned (.tuple #[v0_,.int .i64 r2])∧Kd.R (Kd.int .u32) 88 w' w.heap.size (fun _=>True) v0_ r1∧Below w.heap.size w w':=by
 unfold foliotref01_Sub.f at h;split at h
 ·rename_i hf
  injection h with h;obtain⟨K,hK⟩:=Nb.rsub_ev hf.1.2 hf.2.2 hf.1.1 hf.2.1;exact N.foliotref01_Sub.calls K A0 c0 l0 A1 c1 l1 _ _ w hr0 hc0 hr1 hc1 ((hK K (Nat.le_refl _)).trans (congrArg some h))
 ·cases h
theorem foliotref01_Sub.con (l0:List Int) (l1:List Int) (r1:List Int) (r2:Int) (h:foliotref01_Sub.f l0 l1=some (r1,r2)):Con Tryz.prog 105 [.one (limbs l0),.one (limbs l1)] (.tup [.one (limbs r1),.one (.v (.int .i64 r2))]):=by
 refine .inl ⟨⟨_,Tryz.func105,by kernel_rfl,rfl⟩,fun ok us w hA=>?_⟩
 obtain⟨A0,c0,A1,c1,rfl,hc0,hF0,hc1,hF1⟩:=in2 hA;refine (foliotref01_Sub.calls A0 c0 l0 A1 c1 l1 r1 r2 w (Kd.F_now hF0) hc0 (Kd.F_now hF1) hc1 h).mono ?_
 rintro e w' ⟨v0,rfl,h0,hb⟩
 exact⟨_,rfl,out2 ((outR h0:TC [] _ _ _ _)) ((outN rfl:TC [] _ _ (.v _) _)),hb⟩
def foliotref01_Div.f (l0:List Int) (l1:List Int):Option (List Int×List Int×Int):=if Nb.rfits l0∧Nb.rfits l1 then some (Nb.divided (Nt.val l0) (Nt.val l1)) else none
theorem foliotref01_Div.calls (A0:Option Addr) (c0:Nat) (l0:List Int) (A1:Option Addr) (c1:Nat) (l1:List Int) (r1:List Int) (r2:List Int) (r3:Int) (w:World) (hr0:Kd.C (Kd.int .u32) w A0 l0.length l0) (hc0:l0.length≤c0) (hr1:Kd.C (Kd.int .u32) w A1 l1.length l1) (hc1:l1.length≤c1) (h:foliotref01_Div.f l0 l1=some (r1,r2,r3)) :
  Calls Tryz.prog 73 #[.slice A0 l0.length c0,.slice A1 l1.length c1] w fun e w'=>∃v0_ v1_:Value,e=.returned (.tuple #[v0_,v1_,.int .i64 r3])∧Kd.R (Kd.int .u32) 88 w' w.heap.size (fun k_=>some k_≠(v1_:Value).ownBlock) v0_ r1∧Kd.R (Kd.int .u32) 88 w' w.heap.size (fun k_=>some k_≠(v0_:Value).ownBlock) v1_ r2∧Below w.heap.size w w':=by
 unfold foliotref01_Div.f at h;split at h
 ·rename_i hf
  injection h with h;obtain⟨K,hK⟩:=Nb.rdivide_ev hf.1.2 hf.2.2 hf.1.1 hf.2.1;exact N.foliotref01_Div.calls K A0 c0 l0 A1 c1 l1 _ _ _ w hr0 hc0 hr1 hc1 ((hK K (Nat.le_refl _)).trans (congrArg some h))
 ·cases h
theorem foliotref01_Div.con (l0:List Int) (l1:List Int) (r1:List Int) (r2:List Int) (r3:Int) (h:foliotref01_Div.f l0 l1=some (r1,r2,r3)):Con Tryz.prog 73 [.one (limbs l0),.one (limbs l1)] (.tup [.one (limbs r1),.one (limbs r2),.one (.v (.int .i64 r3))]):=by
 refine .inl ⟨⟨_,Tryz.func73,by kernel_rfl,rfl⟩,fun ok us w hA=>?_⟩
 obtain⟨A0,c0,A1,c1,rfl,hc0,hF0,hc1,hF1⟩:=in2 hA;refine (foliotref01_Div.calls A0 c0 l0 A1 c1 l1 r1 r2 r3 w (Kd.F_now hF0) hc0 (Kd.F_now hF1) hc1 h).mono ?_
 rintro e w' ⟨v0,v1,rfl,h0,h1,hb⟩
 exact⟨_,rfl,out3 ((outR h0:TC [] _ _ _ _)) ((outR h1:TC [] _ _ _ _)) ((outN rfl:TC [] _ _ (.v _) _)),hb⟩
def foliotref01_Gcd.f (l0:List Int) (l1:List Int):Option (List Int):=if Nb.rfits l0∧Nb.rfits l1 then some (Nt.ofN (Nat.gcd (Nt.val l0) (Nt.val l1))) else none
theorem foliotref01_Gcd.calls (A0:Option Addr) (c0:Nat) (l0:List Int) (A1:Option Addr) (c1:Nat) (l1:List Int) (r:List Int) (w:World) (hr0:Kd.C (Kd.int .u32) w A0 l0.length l0) (hc0:l0.length≤c0) (hr1:Kd.C (Kd.int .u32) w A1 l1.length l1) (hc1:l1.length≤c1) (h:foliotref01_Gcd.f l0 l1=some r) :
  Calls Tryz.prog 72 #[.slice A0 l0.length c0,.slice A1 l1.length c1] w fun e w'=>∃v0_:Value,e=.returned (v0_)∧Kd.R (Kd.int .u32) 88 w' w.heap.size (fun _=>True) v0_ r∧Below w.heap.size w w':=by
 unfold foliotref01_Gcd.f at h;split at h
 ·rename_i hf
  injection h with h;obtain⟨K,hK⟩:=Nb.rgcd_ev hf.1.2 hf.2.2 hf.1.1 hf.2.1;exact N.foliotref01_Gcd.calls K A0 c0 l0 A1 c1 l1 _ w hr0 hc0 hr1 hc1 ((hK K (Nat.le_refl _)).trans (congrArg some h))
 ·cases h
theorem foliotref01_Gcd.con (l0:List Int) (l1:List Int) (r1:List Int) (h:foliotref01_Gcd.f l0 l1=some r1):Con Tryz.prog 72 [.one (limbs l0),.one (limbs l1)] (.g (.one (limbs r1))):=by
 refine .inl ⟨⟨_,Tryz.func72,by kernel_rfl,rfl⟩,fun ok us w hA=>?_⟩
 obtain⟨A0,c0,A1,c1,rfl,hc0,hF0,hc1,hF1⟩:=in2 hA;refine (foliotref01_Gcd.calls A0 c0 l0 A1 c1 l1 r1 w (Kd.F_now hF0) hc0 (Kd.F_now hF1) hc1 h).mono ?_
 rintro e w' ⟨v0,rfl,h0,hb⟩
 exact⟨_,rfl,(outR h0:TC [] _ _ _ _),hb⟩
def foliotref01_Cmp.f (l0:List Int) (l1:List Int):Option (Int):=if Nb.rfits l0∧Nb.rfits l1 then some (Nb.cmp3 (Nt.val l0) (Nt.val l1)) else none
theorem foliotref01_Cmp.calls (A0:Option Addr) (c0:Nat) (l0:List Int) (A1:Option Addr) (c1:Nat) (l1:List Int) (r:Int) (w:World) (hr0:Kd.C (Kd.int .u32) w A0 l0.length l0) (hc0:l0.length≤c0) (hr1:Kd.C (Kd.int .u32) w A1 l1.length l1) (hc1:l1.length≤c1) (h:foliotref01_Cmp.f l0 l1=some r) :
  Calls Tryz.prog 104 #[.slice A0 l0.length c0,.slice A1 l1.length c1] w fun e w'=>e=.returned (.int .i64 r)∧Below w.heap.size w w':=by
 unfold foliotref01_Cmp.f at h;split at h
 ·rename_i hf
  injection h with h;obtain⟨K,hK⟩:=Nb.rcmp_ev hf.1.2 hf.2.2 hf.1.1 hf.2.1;exact N.foliotref01_Cmp.calls K A0 c0 l0 A1 c1 l1 _ w hr0 hc0 hr1 hc1 ((hK K (Nat.le_refl _)).trans (congrArg some h))
 ·cases h
theorem foliotref01_Cmp.con (l0:List Int) (l1:List Int) (r1:Int) (h:foliotref01_Cmp.f l0 l1=some r1):Con Tryz.prog 104 [.one (limbs l0),.one (limbs l1)] (.g (.one (.v (.int .i64 r1)))):=by
 refine .inl ⟨⟨_,Tryz.func104,by kernel_rfl,rfl⟩,fun ok us w hA=>?_⟩
 obtain⟨A0,c0,A1,c1,rfl,hc0,hF0,hc1,hF1⟩:=in2 hA;refine (foliotref01_Cmp.calls A0 c0 l0 A1 c1 l1 r1 w (Kd.F_now hF0) hc0 (Kd.F_now hF1) hc1 h).mono ?_
 rintro e w' ⟨rfl,hb⟩
 exact⟨_,rfl,(outN rfl:TC [] _ _ (.v _) _),hb⟩
end
section
def LL:Lays:=[(4,⟨1,[.v (.bool false)],.bool⟩),
 (22,⟨1,[.row 1 0 []],.sl 88⟩),
 (3,⟨1,[.v (.int .i64 0)],.int .i64⟩),
 (24,⟨2,[.v (.bool false),.row 1 0 []],.st [(0,4),(1,22)]⟩),
 (26,⟨3,[.v (.bool false),.row 1 0 [],.row 1 0 []],.st [(0,24),(2,22)]⟩),
 (35,⟨1,[.v (.int .i64 0)],.int .i64⟩),
 (2,⟨1,[.v (.int .i64 0)],.int .i64⟩),
 (9,⟨1,[.v (.string ⟨#[]⟩)],.str⟩),
 (88,⟨1,[.v (.int .u32 0)],.int .u32⟩),
 (86,⟨1,[.v (.int .u64 0)],.int .u64⟩),
 (119,⟨1,[.v (.bool false)],.bool⟩),
 (5,⟨1,[.v (.int .u8 0)],.int .u8⟩),
 (107,⟨1,[.v (.int .u64 0)],.int .u64⟩),
 (34,⟨1,[.row 1 0 []],.sl 4⟩)]
theorem LL_ok:LaysOk Tryz.prog LL:=lays_ok (by kernel_rfl) (by kernel_rfl)
def DD:Drawn:=drawn LL
theorem DD_ok:DrawnOk Tryz.prog DD:=drawn_ok (by kernel_rfl) LL_ok
theorem Con.to {f:FuncId} {xs:List AG} {r r':AV} (h:Con Tryz.prog f xs r) (e:r=r'):Con Tryz.prog f xs r':=e▸h
theorem by_ {f:FuncId} {fn:Func} {c:Code} {xs:List AG} (r:AV) (hf:Tryz.prog.funcs[f]?=some fn) (hb:fn.body=some c) (pf:List (Prf Tryz.prog)) (h:evF LL DD fn c xs (Prf.ans pf)=some (r,[],Prf.dem pf)) (hname:(fn.name == "runtime.NumGoroutine")=false:=by kernel_rfl):Con Tryz.prog f xs r :=
 con_of LL_ok DD_ok pf hf hname hb h
theorem at_ {c:Code} {p:St} (e:Exit) (q:St) (pf:List (Prf Tryz.prog)) (h:(match runC LL DD c p (Prf.ans pf) with
 |some (e',q',az,ds)=>(some (e',fit q q',az,ds):Option (Exit×(St×List (List AC))×List Ans×List Dem))
 |none=>none)=some (e,(q,[]),[],Prf.dem pf)):CodeCon Tryz.prog c p e q:=code_of LL_ok DD_ok pf [] (fun cs h=>by cases h) h
theorem none_:∀cs∈([]:List (List AC)),Plain cs:=fun cs h=>by cases h
theorem Con.nil {f:FuncId} {xs:List AG} (h:Con Tryz.prog f xs (.g (.one (.v (.slice none 0 0))))):Con Tryz.prog f xs (.g (.one (limbs []))):=by
 have key:∀{ok:Nat→Prop} {w:World} {u:Value},TV [] ok w (.g (.one (.v (.slice none 0 0)))) u→TV [] ok w (.g (.one (limbs []))) u:=by
  intro ok w u h;have e:=TC.v_eq (show TC [] ok w (.v (.slice none 0 0)) u from h);subst e;exact (foot_mk fun W' _=>Rd.nil 1 none 0:Foot (fun W=>Rd W (limbs []) (.slice none 0 0)) w ok)
 rcases h with⟨hf,h⟩|h
 ·refine .inl ⟨hf,fun ok us w hA=>(h ok us w hA).mono ?_⟩
  rintro e w' ⟨u,rfl,hT,hb⟩
  exact⟨u,rfl,key hT,hb⟩
 ·refine .inr (fun ok us w hA=>?_)
  obtain⟨u,w',h1,hT,hb⟩:=h ok us w hA;exact⟨u,w',h1,key hT,hb⟩
end
end Go.Proofs.YtjfkhbkddenfoaaGreat.Ev
namespace Go.Proofs.YtjfkhbkddenfoaaGreat.Zi
open Go Go.RowKit Go.Proofs.YtjfkhbkddenfoaaGreatW.PrintWords Go.Proofs.YtjfkhbkddenfoaaGreatW.PrintMore Go.Proofs.YtjfkhbkddenfoaaGreat.Nt
section
def zval (b:Bool) (m:List Int):Int:=if b then -(val m:Int) else (val m:Int)
def ofZ (z:Int):Bool×List Int:=(decide (z<0),ofN z.natAbs)
theorem abs_zval (b:Bool) (m:List Int):(zval b m).natAbs=val m:=by unfold zval;cases b<;>simp
theorem zval_ofZ (z:Int):zval (ofZ z).1 (ofZ z).2=z:=by
 unfold ofZ zval;simp only[val_ofN];by_cases h:z<0
 ·rw[decide_eq_true h];simp only[if_true];omega
 ·rw[decide_eq_false h];simp;omega
theorem val_ofZ (z:Int):val (ofZ z).2=z.natAbs:=val_ofN _
theorem lim_ofZ (z:Int):lim (ofZ z).2:=lim_ofN _
theorem ofZ_of (b:Bool) (n:Nat):(b&&decide (n≠0),ofN n)=ofZ (if b then -(n:Int) else (n:Int)):=by
 unfold ofZ;cases b
 ·simp
 ·by_cases h:n=0
  ·subst h;rfl
  ·simp[h];omega
theorem len_pos (n:Nat):decide ((((ofN n).length:Nat):Int)>0)=decide (n≠0):=by
 rw[decide_eq_decide];constructor
 ·intro h e;subst e;simp[ofN_zero] at h
 ·intro h
  have:=List.length_pos_iff.2 (fun e=>h (ofN_nil.1 e));omega
theorem zval_not (b:Bool) (m:List Int):zval (!b) m = -zval b m:=by unfold zval;cases b<;>simp
def few (k:Nat) (m:List Int):Prop:=lim m∧m.length≤k
theorem few.fits {k:Nat} {m:List Int} (h:few k m) (hk:k≤1000000):fits m:=⟨h.1,by have:=h.2;omega⟩
theorem few.rfits {k:Nat} {m:List Int} (h:few k m) (hk:k≤1000000):Nb.rfits m:=⟨h.1,by have:=h.2;omega⟩
theorem few_ofZ {k:Nat} {z:Int} (h:(ofN z.natAbs).length≤k):few k (ofZ z).2:=⟨lim_ofZ z,h⟩
theorem few_zval {k:Nat} {b:Bool} {m:List Int} (h:few k m):(ofN (zval b m).natAbs).length≤k:=by
 rw[abs_zval];exact Nat.le_trans (len_val_le h.1) h.2
theorem zval_same (b:Bool) (l m:List Int):zval b (ofN (val l+val m))=zval b l+zval b m:=by
 unfold zval;rw[val_ofN];cases b<;>simp<;>omega
theorem zval_mul (b c:Bool) (l m:List Int):zval (b != c) (ofN (val l*val m))=zval b l*zval c m:=by
 unfold zval;rw[val_ofN];cases b<;>cases c<;>simp[Int.neg_mul,Int.mul_neg]
def sgn (z:Int):Int:=if z<0 then -1 else if 0<z then 1 else 0
theorem len_ofZ_pos (z:Int):(((ofZ z).2.length:Int)>0)↔z≠0:=by
 show (((ofN z.natAbs).length:Int)>0)↔_
 constructor
 ·intro h e;subst e;simp[ofN_zero] at h
 ·intro h
  have:=List.length_pos_iff.2 (fun e=>(by omega:z.natAbs≠0) (ofN_nil.1 e));omega
def cmpZ (x y:Int):Int:=sgn (x-y)
def sg (b:Bool) (n:Nat):Int:=if b then -(n:Int) else (n:Int)
theorem zval_ofN (b:Bool) (n:Nat):zval b (ofN n)=sg b n:=by unfold zval sg;rw[val_ofN]
theorem of_u {n:Int} (h0 : -9223372036854775808≤n) (h1:n<9223372036854775808):∀u:Int,u=(n.natAbs:Int)→fits [u%4294967296,u/4294967296%4294967296]∧zval (decide (n<0)) [u%4294967296,u/4294967296%4294967296]=n:=by
 intro u hu;refine⟨⟨fun x hx=>?_,by simp⟩,?_⟩
 ·simp only[List.mem_cons,List.not_mem_nil,or_false] at hx
  rcases hx with rfl|rfl<;>omega
 ·have hv:val [u%4294967296,u/4294967296%4294967296]=n.natAbs:=by simp only[val_cons,val_nil];omega
  unfold zval;rw[hv];by_cases h:n<0
  ·rw[if_pos (decide_eq_true h)];omega
  ·rw[if_neg (by simpa using h)];omega
theorem u64n {n:Int} (h0 : -9223372036854775808≤n) (h1:n<0):IntKind.u64.wrap (-(IntKind.u64.wrap n))=(n.natAbs:Int):=by
 rw[u64neg h1 (by omega)];show (-(n+18446744073709551616))%18446744073709551616=_
 omega
theorem len_natAbs_mul {x y:Int}:(ofN (x*y).natAbs).length≤(ofN x.natAbs).length+(ofN y.natAbs).length:=by rw[Int.natAbs_mul];exact len_mul _ _
theorem len_natAbs_add {x y:Int}:(ofN (x+y).natAbs).length≤max (ofN x.natAbs).length (ofN y.natAbs).length+1 :=
 Nat.le_trans (len_mono (Int.natAbs_add_le x y)) (len_add _ _)
end
end Go.Proofs.YtjfkhbkddenfoaaGreat.Zi
namespace Go.Proofs.YtjfkhbkddenfoaaGreat.Ev
open Go Go.RowKit Go.Proofs.YtjfkhbkddenfoaaGreatW.PrintWords Go.Proofs.YtjfkhbkddenfoaaGreatW.PrintMore Go.Proofs.YtjfkhbkddenfoaaGreatW.PrintLast Go.Proofs.YtjfkhbkddenfoaaGreat Go.Proofs.YtjfkhbkddenfoaaGreat.Nt Go.Proofs.YtjfkhbkddenfoaaGreat.Zi
section
def int (b:Bool) (l:List Int):AG:=.agg [.v (.bool b),limbs l]
def zi (z:Int):AG:=int (ofZ z).1 (ofZ z).2
def num (n:Int):AG:=.one (.v (.int .i64 n))
def truth (b:Bool):AG:=.one (.v (.bool b))
theorem zi_of {b:Bool} {n:Nat} {c:Bool} (h:c=(b&&decide (n≠0))) {z:Int} (hz:z=if b then -(n:Int) else (n:Int)):(AV.g (.agg [.v (.bool c),limbs (ofN n)]))=.g (zi z):=by
 subst h;subst hz;have:=ofZ_of b n;unfold zi;rw[←this];rfl
theorem iWith (b:Bool) (m:List Int) (h:fits m):Con Tryz.prog 91 [one (.bool b),.one (limbs m)] (.g (zi (zval b m))):=by
 cases b
 ·exact (by_ (.g (.agg [.v (.bool false),limbs (ofN (val m))])) Tryz.func91 rfl [gives (nat_Trim.con m _ (if_pos h)),ends (rfl:false=false)] (by kernel_rfl)).to (zi_of (b:=false) rfl rfl)
 ·exact (by_ (.g (.agg [.v (.bool (decide (((ofN (val m)).length:Int)>0))),limbs (ofN (val m))])) Tryz.func91 rfl [gives (nat_Trim.con m _ (if_pos h)),ends (rfl:true=true)] (by kernel_rfl)).to (zi_of (b:=true) (len_pos _) rfl)
theorem ff {m:List Int} (h:few 50000 m):fits m:=h.fits (by decide)
theorem rf {m:List Int} (h:few 50000 m):Nb.rfits m:=h.rfits (by decide)
theorem few_len {m:List Int} (h:few 50000 m):(ofN (val m)).length≤50000:=Nat.le_trans (len_val_le h.1) h.2
theorem few_zi {z:Int} (h:(ofN z.natAbs).length≤50000):few 50000 (ofZ z).2:=few_ofZ h
theorem few_of {b:Bool} {m:List Int} (h:few 50000 m):(ofN (zval b m).natAbs).length≤50000:=few_zval h
theorem iNorm (b:Bool) (l:List Int) (h:few 50000 l):Con Tryz.prog 62 [int b l] (.g (zi (zval b l))):=by_ _ Tryz.func62 rfl [gives (iWith b l (ff h))] (by kernel_rfl)
theorem iNeg (b:Bool) (l:List Int) (h:few 50000 l):Con Tryz.prog 133 [int b l] (.g (zi (-zval b l))):=(by_ (.g (zi (zval (!b) l))) Tryz.func133 rfl [gives (iWith (!b) l (ff h))] (by kernel_rfl)).to (by rw[zval_not])
theorem iAdd (b:Bool) (l:List Int) (c:Bool) (m:List Int) (hl:few 50000 l) (hm:few 50000 m):Con Tryz.prog 132 [int b l,int c m] (.g (zi (zval b l+zval c m))):=by
 have h1:=few_len hl;have h2:=few_len hm;by_cases e:b=c
 ·subst e
  have h3:=len_add (val l) (val m);exact (by_ (.g (zi (zval b (ofN (val l+val m))))) Tryz.func132 rfl [ends (show (b==b)=true by simp),gives (nat_Add.con l m _ (if_pos ⟨(ff hl),(ff hm)⟩)),gives (iWith b (ofN (val l+val m)) (fits_ofN (by omega)))] (by kernel_rfl)).to (by rw[zval_same])
 ·have eb:(b==c)=false:=by simpa using e
  by_cases hlt:val l<val m
  ·have h3:(ofN (val m-val l)).length≤(ofN (val m)).length:=len_mono (Nat.sub_le _ _)
   refine (by_ (.g (zi (zval c (ofN (val m-val l))))) Tryz.func132 rfl [ends eb,gives (nat_Sub.con l m [] 1 (by unfold nat_Sub.f;rw[if_pos ⟨(ff hl),(ff hm)⟩,if_pos hlt])),ends (rfl:((1:Int)==0)=false),
    gives (nat_Sub.con m l (ofN (val m-val l)) 0 (by unfold nat_Sub.f;rw[if_pos ⟨(ff hm),(ff hl)⟩,if_neg (by omega)])),gives (iWith c (ofN (val m-val l)) (fits_ofN (by omega)))] (by kernel_rfl)).to (congrArg (fun z=>AV.g (zi z)) ?_)
   unfold zval;rw[val_ofN];cases b<;>cases c<;>simp at e ⊢<;>omega
  ·have h3:(ofN (val l-val m)).length≤(ofN (val l)).length:=len_mono (Nat.sub_le _ _)
   refine (by_ (.g (zi (zval b (ofN (val l-val m))))) Tryz.func132 rfl [ends eb,gives (nat_Sub.con l m (ofN (val l-val m)) 0 (by unfold nat_Sub.f;rw[if_pos ⟨(ff hl),(ff hm)⟩,if_neg hlt])),ends (rfl:((0:Int)==0)=true),gives (iWith b (ofN (val l-val m)) (fits_ofN (by omega)))] (by kernel_rfl)).to (congrArg (fun z=>AV.g (zi z)) ?_)
   unfold zval;rw[val_ofN];cases b<;>cases c<;>simp at e ⊢<;>omega
theorem iMul (b:Bool) (l:List Int) (c:Bool) (m:List Int) (hl:few 50000 l) (hm:few 50000 m):Con Tryz.prog 64 [int b l,int c m] (.g (zi (zval b l*zval c m))):=by
 have h1:=few_len hl;have h2:=few_len hm;have h3:=len_mul (val l) (val m);exact (by_ (.g (zi (zval (!(b==c)) (ofN (val l*val m))))) Tryz.func64 rfl [gives (nat_Mul.con l m _ (if_pos ⟨(ff hl),(ff hm)⟩)),gives (iWith (!(b==c)) (ofN (val l*val m)) (fits_ofN (by omega)))] (by kernel_rfl)).to (congrArg (fun z=>AV.g (zi z)) (zval_mul b c l m))
theorem iSign (b:Bool) (l:List Int) (h:few 50000 l):Con Tryz.prog 67 [int b l] (.g (num (sgn (zval b l)))):=by
 have hl:=len_ofZ_pos (zval b l);by_cases h1:zval b l<0
 ·exact (by_ (.g (num (-1))) Tryz.func67 rfl [gives (iNorm b l h),ends (decide_eq_true h1)] (by kernel_rfl)).to (by unfold sgn;rw[if_pos h1])
 ·by_cases h2:0<zval b l
  ·exact (by_ (.g (num 1)) Tryz.func67 rfl [gives (iNorm b l h),ends (decide_eq_false h1),ends (decide_eq_true (hl.2 (by omega)))] (by kernel_rfl)).to (by unfold sgn;rw[if_neg h1,if_pos h2])
  ·exact (by_ (.g (num 0)) Tryz.func67 rfl [gives (iNorm b l h),ends (decide_eq_false h1),ends (decide_eq_false (fun e=>hl.1 e (by omega)))] (by kernel_rfl)).to (by unfold sgn;rw[if_neg h1,if_neg h2])
theorem val_zi (z:Int):val (ofZ z).2=z.natAbs:=val_ofZ z
theorem iCmp (b:Bool) (l:List Int) (c:Bool) (m:List Int) (hl:few 50000 l) (hm:few 50000 m):Con Tryz.prog 36 [int b l,int c m] (.g (num (cmpZ (zval b l) (zval c m)))):=by
 have fx:=ff (few_zi (few_of (b:=b) hl));have fy:=ff (few_zi (few_of (b:=c) hm));have N1:=iNorm b l hl;have N2:=iNorm c m hm;generalize zval b l=x at *;generalize zval c m=y at *;have e1:nat_Cmp.f (ofZ y).2 (ofZ x).2=some (if y.natAbs<x.natAbs then -1 else if x.natAbs<y.natAbs then 1 else 0):=by
  unfold nat_Cmp.f;rw[if_pos ⟨fy,fx⟩,val_zi,val_zi]
 have e2:nat_Cmp.f (ofZ x).2 (ofZ y).2=some (if x.natAbs<y.natAbs then -1 else if y.natAbs<x.natAbs then 1 else 0):=by
  unfold nat_Cmp.f;rw[if_pos ⟨fx,fy⟩,val_zi,val_zi]
 by_cases hx:x<0<;>by_cases hy:y<0
 ·refine (by_ (.g (num (if y.natAbs<x.natAbs then -1 else if x.natAbs<y.natAbs then 1 else 0))) Tryz.func36 rfl [gives N1,gives N2,ends (decide_eq_true hx),ends (decide_eq_true hy),gives (nat_Cmp.con _ _ _ e1)] (by kernel_rfl)).to (congrArg (fun n=>AV.g (num n)) ?_)
  unfold cmpZ sgn
  repeat' split
  all_goals omega
 ·refine (by_ (.g (num (-1))) Tryz.func36 rfl [gives N1,gives N2,ends (decide_eq_true hx),ends (decide_eq_false hy),ends (decide_eq_true hx)] (by kernel_rfl)).to (congrArg (fun n=>AV.g (num n)) ?_)
  unfold cmpZ sgn;rw[if_pos (by omega)]
 ·refine (by_ (.g (num 1)) Tryz.func36 rfl [gives N1,gives N2,ends (decide_eq_false hx),ends (rfl:false=false),ends (decide_eq_false hx),ends (decide_eq_true hy)] (by kernel_rfl)).to (congrArg (fun n=>AV.g (num n)) ?_)
  unfold cmpZ sgn;rw[if_neg (by omega),if_pos (by omega)]
 ·refine (by_ (.g (num (if x.natAbs<y.natAbs then -1 else if y.natAbs<x.natAbs then 1 else 0))) Tryz.func36 rfl [gives N1,gives N2,ends (decide_eq_false hx),ends (rfl:false=false),ends (decide_eq_false hx),ends (decide_eq_false hy),gives (nat_Cmp.con _ _ _ e2)] (by kernel_rfl)).to (congrArg (fun n=>AV.g (num n)) ?_)
  unfold cmpZ sgn
  repeat' split
  all_goals omega
end
section
theorem shr_at (a:Int):∀(P:Program) (t:TypeId) (w:World),(binOp .shr t (.int .u64 a) (.int .u64 32)).run P w=.ok (.int .u64 (a/4294967296)) w:=by
 intro P t w;have:a.fdiv (2 ^ min 32 IntKind.u64.bits)=a/4294967296:=by
  rw[show (2:Int) ^ min 32 IntKind.u64.bits=4294967296 from rfl,Int.fdiv_eq_ediv_of_nonneg _ (by decide)]
 simp[binOp,Op.shift,this]
theorem u32w (x:Int):IntKind.u32.wrap x=x%4294967296:=rfl
theorem iOf {n:Int} (h0 : -9223372036854775808≤n) (h1:n<9223372036854775808):Con Tryz.prog 88 [num n] (.g (zi n)):=by
 by_cases h:n<0
 ·obtain⟨f,z⟩:=of_u h0 h1 _ (u64n h0 h)
  refine (by_ (.g (zi (zval (decide (n<0)) [IntKind.u32.wrap (IntKind.u64.wrap (0-IntKind.u64.wrap n)),IntKind.u32.wrap (IntKind.u64.wrap (0-IntKind.u64.wrap n)/4294967296)]))) Tryz.func88 rfl
   [ends (decide_eq_true h),byBits (shr_at (IntKind.u64.wrap (0-IntKind.u64.wrap n))),gives (iWith (decide (n<0)) [IntKind.u32.wrap (IntKind.u64.wrap (0-IntKind.u64.wrap n)),IntKind.u32.wrap (IntKind.u64.wrap (0-IntKind.u64.wrap n)/4294967296)] (by rw[Int.zero_sub];exact f))] (by kernel_rfl)).to ?_
  rw[Int.zero_sub,u32w,u32w,z]
 ·have e:IntKind.u64.wrap n=(n.natAbs:Int):=by rw[u64 (by omega) (by omega)];omega
  obtain⟨f,z⟩:=of_u h0 h1 _ e;refine (by_ (.g (zi (zval (decide (n<0)) [IntKind.u32.wrap (IntKind.u64.wrap n),IntKind.u32.wrap (IntKind.u64.wrap n/4294967296)]))) Tryz.func88 rfl
   [ends (decide_eq_false h),byBits (shr_at (IntKind.u64.wrap n)),gives (iWith (decide (n<0)) [IntKind.u32.wrap (IntKind.u64.wrap n),IntKind.u32.wrap (IntKind.u64.wrap n/4294967296)] f)] (by kernel_rfl)).to ?_
  rw[u32w,u32w,z]
end
section
theorem wr {x:Int} (h0 : -9223372036854775808≤x) (h1:x<9223372036854775808):IntKind.i64.wrap x=x:=by
 simp only[IntKind.wrap,IntKind.signed,IntKind.bits];simp;omega
theorem jNorm (b:Bool) (l:List Int) (h:few 50000 l):Con Tryz.prog 70 [int b l] (.g (zi (zval b l))):=by
 have T:=foliotref01_Trim.con l _ (if_pos (rf h));cases b
 ·exact (by_ (.g (.agg [.v (.bool false),limbs (ofN (val l))])) Tryz.func70 rfl [gives T,ends (rfl:false=false)] (by kernel_rfl)).to (zi_of (b:=false) rfl rfl)
 ·exact (by_ (.g (.agg [.v (.bool (decide (((ofN (val l)).length:Int)>0))),limbs (ofN (val l))])) Tryz.func70 rfl [gives T,ends (rfl:true=true)] (by kernel_rfl)).to (zi_of (b:=true) (len_pos _) rfl)
theorem few_ofN {n:Nat} (h:(ofN n).length≤50000):few 50000 (ofN n):=⟨lim_ofN _,h⟩
theorem jAdd (b:Bool) (l:List Int) (c:Bool) (m:List Int) (hl:few 20000 l) (hm:few 20000 m):Con Tryz.prog 82 [int b l,int c m] (.g (zi (zval b l+zval c m))):=by
 have hA:(ofN (zval b l).natAbs).length≤20000:=few_zval hl;have hB:(ofN (zval c m).natAbs).length≤20000:=few_zval hm;have fx:=rf (few_zi (z:=zval b l) (by omega));have fy:=rf (few_zi (z:=zval c m) (by omega));have N1:=jNorm b l ⟨hl.1,by have:=hl.2;omega⟩;have N2:=jNorm c m ⟨hm.1,by have:=hm.2;omega⟩;generalize zval b l=x at *;generalize zval c m=y at *;by_cases e:decide (x<0)=decide (y<0)
 ·have ea:foliotref01_Add.f (ofZ x).2 (ofZ y).2=some (ofN (x.natAbs+y.natAbs)):=by
   unfold foliotref01_Add.f;rw[if_pos ⟨fx,fy⟩,val_zi,val_zi]
  have h3:=len_add x.natAbs y.natAbs;refine (by_ (.g (zi (zval (decide (x<0)) (ofN (x.natAbs+y.natAbs))))) Tryz.func82 rfl [gives N1,gives N2,ends (show (decide (x<0)==decide (y<0))=true by simpa using e),gives (foliotref01_Add.con _ _ _ ea),gives (jNorm (decide (x<0)) (ofN (x.natAbs+y.natAbs)) (few_ofN (by omega)))] (by kernel_rfl)).to (congrArg (fun z=>AV.g (zi z)) ?_)
  rw[zval_ofN];unfold sg;rw[decide_eq_decide] at e;split<;>rename_i h<;>simp at h<;>omega
 ·have ef:(decide (x<0)==decide (y<0))=false:=by simpa using e
  have ec:foliotref01_Cmp.f (ofZ x).2 (ofZ y).2=some (Nb.cmp3 x.natAbs y.natAbs):=by
   unfold foliotref01_Cmp.f;rw[if_pos ⟨fx,fy⟩,val_zi,val_zi]
  rw[decide_eq_decide] at e;by_cases hlt:x.natAbs<y.natAbs
  ·have es:foliotref01_Sub.f (ofZ y).2 (ofZ x).2=some (ofN (y.natAbs-x.natAbs),0):=by
    unfold foliotref01_Sub.f;rw[if_pos ⟨fy,fx⟩,val_zi,val_zi,if_neg (by omega)]
   have h3:(ofN (y.natAbs-x.natAbs)).length≤(ofN y.natAbs).length:=len_mono (Nat.sub_le _ _);refine (by_ (.g (zi (zval (decide (y<0)) (ofN (y.natAbs-x.natAbs))))) Tryz.func82 rfl [gives N1,gives N2,ends ef,gives (foliotref01_Cmp.con _ _ _ ec),ends (show decide (Nb.cmp3 x.natAbs y.natAbs≥0)=false by unfold Nb.cmp3;rw[if_pos hlt];rfl),gives (foliotref01_Sub.con _ _ _ _ es),gives (jNorm (decide (y<0)) (ofN (y.natAbs-x.natAbs)) (few_ofN (by omega)))] (by kernel_rfl)).to (congrArg (fun z=>AV.g (zi z)) ?_)
   rw[zval_ofN];unfold sg;split<;>rename_i h<;>simp at h<;>omega
  ·have es:foliotref01_Sub.f (ofZ x).2 (ofZ y).2=some (ofN (x.natAbs-y.natAbs),0):=by
    unfold foliotref01_Sub.f;rw[if_pos ⟨fx,fy⟩,val_zi,val_zi,if_neg (by omega)]
   have h3:(ofN (x.natAbs-y.natAbs)).length≤(ofN x.natAbs).length:=len_mono (Nat.sub_le _ _);refine (by_ (.g (zi (zval (decide (x<0)) (ofN (x.natAbs-y.natAbs))))) Tryz.func82 rfl [gives N1,gives N2,ends ef,gives (foliotref01_Cmp.con _ _ _ ec),ends (show decide (Nb.cmp3 x.natAbs y.natAbs≥0)=true by unfold Nb.cmp3;rw[if_neg hlt];split<;>rfl),gives (foliotref01_Sub.con _ _ _ _ es),gives (jNorm (decide (x<0)) (ofN (x.natAbs-y.natAbs)) (few_ofN (by omega)))] (by kernel_rfl)).to (congrArg (fun z=>AV.g (zi z)) ?_)
   rw[zval_ofN];unfold sg;split<;>rename_i h<;>simp at h<;>omega
theorem few_up {k n:Nat} {l:List Int} (h:few k l) (hk:k≤n):few n l:=⟨h.1,Nat.le_trans h.2 hk⟩
theorem jMul (b:Bool) (l:List Int) (c:Bool) (m:List Int) (hl:few 20000 l) (hm:few 20000 m):Con Tryz.prog 83 [int b l,int c m] (.g (zi (zval b l*zval c m))):=by
 have h1:=few_len (few_up hl (n:=50000) (by decide));have h2:(ofN (val l)).length≤20000:=Nat.le_trans (len_val_le hl.1) hl.2;have h4:(ofN (val m)).length≤20000:=Nat.le_trans (len_val_le hm.1) hm.2;have h3:=len_mul (val l) (val m);exact (by_ (.g (zi (zval (!(b==c)) (ofN (val l*val m))))) Tryz.func83 rfl [gives (foliotref01_Mul.con l m _ (if_pos ⟨rf (few_up hl (by decide)),rf (few_up hm (by decide))⟩)),gives (jNorm (!(b==c)) (ofN (val l*val m)) (few_ofN (by omega)))] (by kernel_rfl)).to (congrArg (fun z=>AV.g (zi z)) (zval_mul b c l m))
end
section
def rv (b:Bool) (l d:List Int):Rat:=mkRat (zval b l) (val d)
def rat (b:Bool) (l d:List Int):AG:=.agg [.v (.bool b),limbs l,limbs d]
def ra (x:Rat):AG:=rat (ofZ x.num).1 (ofZ x.num).2 (ofN x.den)
def short (k:Nat) (x:Rat):Prop:=(ofN x.num.natAbs).length≤k∧(ofN x.den).length≤k
theorem rv_told (x:Rat):rv (ofZ x.num).1 (ofZ x.num).2 (ofN x.den)=x:=by
 unfold rv;rw[zval_ofZ,val_ofN,Rat.mkRat_self]
theorem num_le (n:Int) (d:Nat):(mkRat n d).num.natAbs≤n.natAbs:=by
 rw[Rat.num_mkRat];split
 ·simp
 ·rw[Int.natAbs_ediv_of_dvd (Int.ofNat_dvd_left.2 (Nat.gcd_dvd_right d n.natAbs))]
  exact Nat.div_le_self _ _
theorem den_le {n:Int} {d:Nat} (h:d≠0):(mkRat n d).den≤d:=by
 rw[Rat.den_mkRat,if_neg h];exact Nat.div_le_self _ _
theorem short_mk {k:Nat} {n:Int} {d:Nat} (hd:d≠0) (h1:(ofN n.natAbs).length≤k) (h2:(ofN d).length≤k):short k (mkRat n d) :=
 ⟨Nat.le_trans (len_mono (num_le n d)) h1,Nat.le_trans (len_mono (den_le hd)) h2⟩
theorem short_up {k m:Nat} {x:Rat} (h:short k x) (hk:k≤m):short m x:=⟨Nat.le_trans h.1 hk,Nat.le_trans h.2 hk⟩
theorem len_pos' {n:Nat} (h:n≠0):1≤(ofN n).length:=List.length_pos_iff.2 (fun e=>h (ofN_nil.1 e))
theorem short_rv {k:Nat} {b:Bool} {l d:List Int} (hl:few k l) (hd:few k d) (hk:1≤k):short k (rv b l d):=by
 by_cases h:val d=0
 ·unfold rv
  rw[h,Rat.mkRat_zero];exact⟨by show (ofN 0).length≤k;rw[ofN_zero];simp,by show (ofN 1).length≤k;exact hk⟩
 ·exact short_mk h (few_zval hl) (Nat.le_trans (len_val_le hd.1) hd.2)
theorem short_neg {k:Nat} {x:Rat} (h:short k x):short k (-x):=by
 unfold short at *;rw[Rat.neg_num,Rat.neg_den,Int.natAbs_neg];exact h
theorem short_add {k m:Nat} {x y:Rat} (hx:short k x) (hy:short m y):short (k+m+1) (x+y):=by
 rw[Rat.add_def'];refine short_mk (Nat.mul_ne_zero x.den_nz y.den_nz) ?_ ?_
 ·have h1:=@len_natAbs_add (x.num*y.den) (y.num*x.den)
  have h2:=@len_natAbs_mul x.num (y.den:Int);have h3:=@len_natAbs_mul y.num (x.den:Int);have:=hx.1;have:=hx.2;have:=hy.1;have:=hy.2;simp only[Int.natAbs_natCast] at h2 h3;omega
 ·have:=len_mul x.den y.den
  have:=hx.2;have:=hy.2;omega
theorem short_sub {k m:Nat} {x y:Rat} (hx:short k x) (hy:short m y):short (k+m+1) (x-y):=by
 rw[Rat.sub_eq_add_neg];exact short_add hx (short_neg hy)
theorem short.num {k:Nat} {x:Rat} (h:short k x):few k (ofZ x.num).2:=few_ofZ h.1
theorem short.den {k:Nat} {x:Rat} (h:short k x):few k (ofN x.den):=⟨lim_ofN _,h.2⟩
theorem red_num (b:Bool) (m:List Int) (D:Nat) (hD:D≠0):zval b (ofN (val m/Nat.gcd (val m) D))=(mkRat (zval b m) D).num:=by
 rw[zval_ofN,Rat.num_mkRat,if_neg hD];unfold sg zval;cases b
 ·simp[Int.gcd,Nat.gcd_comm]
 ·simp only[if_true]
  rw[Int.neg_ediv_of_dvd]
  ·simp[Int.gcd,Nat.gcd_comm]
  ·simp only[Int.gcd,Int.natAbs_neg,Int.natAbs_natCast]
   exact Int.ofNat_dvd.2 (by first|exact Nat.gcd_dvd_left _ _|exact Nat.gcd_dvd_right _ _)
theorem red_den (b:Bool) (m:List Int) (D:Nat) (hD:D≠0):D/Nat.gcd (val m) D=(mkRat (zval b m) D).den:=by
 rw[Rat.den_mkRat,if_neg hD,abs_zval,Nat.gcd_comm]
end
section
theorem ndiv {l m:List Int} (hl:fits l) (hm:fits m) (h:val m≠0):nat_Div.f l m=some (ofN (val l/val m),ofN (val l%val m),0):=by unfold nat_Div.f;rw[if_pos ⟨hl,hm⟩,if_neg h]
theorem lowest (b:Bool) (m d:List Int) (hm:few 50000 m) (hd:few 50000 d) (h:val d≠0):Con Tryz.prog 61 [int b m,.one (limbs d)] (.g (ra (mkRat (zval b m) (val d)))):=by
 have hg:Nat.gcd (val m) (val d)≠0:=fun e=>h (Nat.gcd_eq_zero_iff.1 e).2
 have hgl:(ofN (Nat.gcd (val m) (val d))).length≤50000:=Nat.le_trans (len_mono (Nat.gcd_le_right _ (Nat.pos_of_ne_zero h))) (few_len hd);have fg:fits (ofN (Nat.gcd (val m) (val d))):=fits_ofN (by omega);have e1:=ndiv (ff hm) fg (by rw[val_ofN];exact hg);have e2:=ndiv (ff hd) fg (by rw[val_ofN];exact hg);rw[val_ofN] at e1 e2;have hq:(ofN (val m/Nat.gcd (val m) (val d))).length≤50000:=Nat.le_trans (len_mono (Nat.div_le_self _ _)) (few_len hm);have N:=iNorm b (ofN (val m/Nat.gcd (val m) (val d))) (few_ofN hq);rw[red_num b m (val d) h] at N;have hden:=red_den b m (val d) h;rw[hden] at e2;exact by_ _ Tryz.func61 rfl [gives (nat_Gcd.con m d _ (if_pos ⟨ff hm,ff hd⟩)),gives (nat_Div.con _ _ _ _ _ e1),gives (nat_Div.con _ _ _ _ _ e2),gives N] (by kernel_rfl)
theorem zAdd {x y:Int} (hx:few 50000 (ofZ x).2) (hy:few 50000 (ofZ y).2):Con Tryz.prog 132 [zi x,zi y] (.g (zi (x+y))):=by
 have A:=iAdd (ofZ x).1 (ofZ x).2 (ofZ y).1 (ofZ y).2 hx hy;rw[zval_ofZ,zval_ofZ] at A;exact A
theorem zCmp {x y:Int} (hx:few 50000 (ofZ x).2) (hy:few 50000 (ofZ y).2):Con Tryz.prog 36 [zi x,zi y] (.g (num (cmpZ x y))):=by
 have A:=iCmp (ofZ x).1 (ofZ x).2 (ofZ y).1 (ofZ y).2 hx hy;rw[zval_ofZ,zval_ofZ] at A;exact A
theorem one1:ofN 1=[1]:=rfl
theorem qOf {n:Int} (h0 : -9223372036854775808≤n) (h1:n<9223372036854775808):Con Tryz.prog 60 [num n] (.g (ra (n:Rat))):=by
 have e:ra (n:Rat)=rat (ofZ n).1 (ofZ n).2 [1]:=by unfold ra;rw[Rat.num_intCast,Rat.den_intCast,one1]
 rw[e];exact by_ _ Tryz.func60 rfl [gives (iOf h0 h1)] (by kernel_rfl)
theorem qNorm (b:Bool) (l d:List Int) (hl:few 2000 l) (hd:few 2000 d):Con Tryz.prog 35 [rat b l d] (.g (ra (rv b l d))):=by
 have hl':=few_up hl (n:=50000) (by decide);have hd':=few_up hd (n:=50000) (by decide);have B:=nat_Bits.con d _ (if_pos (ff hd'));by_cases h:val d=0
 ·have O:=qOf (n:=0) (by omega) (by omega)
  have e:rv b l d=((0:Int):Rat):=by unfold rv;rw[h,Rat.mkRat_zero];rfl
  rw[e];rw[h] at B;exact by_ _ Tryz.func35 rfl [gives B,ends (rfl:((((Nb.bitsN 0).length:Nat):Int)==0)=true),gives O] (by kernel_rfl)
 ·exact by_ _ Tryz.func35 rfl [gives B,ends (show ((((Nb.bitsN (val d)).length:Nat):Int)==0)=false by
   rw[beq_eq_false_iff_ne];intro e;exact h (Nb.bitsN_eq_nil.1 (by omega))),gives (lowest b l d hl' hd' h)] (by kernel_rfl)
theorem times (b:Bool) (l d:List Int) (hl:few 50000 l) (hd:few 50000 d):Con Tryz.prog 37 [int b l,.one (limbs d)] (.g (zi (zval b l*(val d:Int)))) :=
 by_ _ Tryz.func37 rfl [gives (iMul b l false d hl hd)] (by kernel_rfl)
section
variable {x y:Rat}
theorem sN (h:short 2000 x):few 50000 (ofZ x.num).2:=few_up h.num (by decide)
theorem sD (h:short 2000 x):few 50000 (ofN x.den):=few_up h.den (by decide)
theorem tT (hx:short 2000 x) (hy:short 2000 y):Con Tryz.prog 37 [zi x.num,.one (limbs (ofN y.den))] (.g (zi (x.num*(y.den:Int))))∧few 50000 (ofZ (x.num*(y.den:Int))).2:=by
 have T:=times (ofZ x.num).1 (ofZ x.num).2 (ofN y.den) (sN hx) (sD hy);rw[zval_ofZ,val_ofN] at T;have h2:=@len_natAbs_mul x.num (y.den:Int);have h3:=hx.1;have h4:=hy.2;simp only[Int.natAbs_natCast] at h2;exact⟨T,few_zi (by omega)⟩
end
def cmpR (x y:Rat):Int:=if x<y then -1 else if y<x then 1 else 0
theorem cmpR_of (x y:Rat):cmpZ (x.num*(y.den:Int)) (y.num*(x.den:Int))=cmpR x y:=by
 unfold cmpZ sgn cmpR;simp only[Rat.lt_iff]
 repeat' split
 all_goals omega
section
variable (b:Bool) (l d:List Int) (c:Bool) (m e:List Int)
theorem qCmp (hl:few 2000 l) (hd:few 2000 d) (hm:few 2000 m) (he:few 2000 e):Con Tryz.prog 23 [rat b l d,rat c m e] (.g (num (cmpR (rv b l d) (rv c m e)))):=by
 have N1:=qNorm b l d hl hd;have N2:=qNorm c m e hm he;have hx:=short_rv (b:=b) hl hd (by decide);have hy:=short_rv (b:=c) hm he (by decide);generalize rv b l d=x at *;generalize rv c m e=y at *;have C:=zCmp (tT hx hy).2 (tT hy hx).2;rw[cmpR_of] at C;exact by_ _ Tryz.func23 rfl [gives N1,gives N2,gives (tT hx hy).1,gives (tT hy hx).1,gives C] (by kernel_rfl)
theorem qSign (hl:few 2000 l) (hd:few 2000 d):Con Tryz.prog 43 [rat b l d] (.g (num (sgn (rv b l d).num))):=by
 have N1:=qNorm b l d hl hd;have hx:=short_rv (b:=b) hl hd (by decide);generalize rv b l d=x at *;have S:=iSign (ofZ x.num).1 (ofZ x.num).2 (sN hx);rw[zval_ofZ] at S;exact by_ _ Tryz.func43 rfl [gives N1,gives S] (by kernel_rfl)
theorem ra_neg (x:Rat):ra (-x)=.agg [.v (.bool (ofZ (-x.num)).1),limbs (ofZ (-x.num)).2,limbs (ofN x.den)]:=by unfold ra;rw[Rat.neg_num,Rat.neg_den];rfl
theorem qNeg (hl:few 2000 l) (hd:few 2000 d):Con Tryz.prog 125 [rat b l d] (.g (ra (-rv b l d))):=by
 have N1:=qNorm b l d hl hd;have hx:=short_rv (b:=b) hl hd (by decide);generalize rv b l d=x at *;have G:=iNeg (ofZ x.num).1 (ofZ x.num).2 (sN hx);rw[zval_ofZ] at G;rw[ra_neg];exact by_ _ Tryz.func125 rfl [gives N1,gives G] (by kernel_rfl)
theorem dD {x y:Rat} (hx:short 2000 x) (hy:short 2000 y):Con Tryz.prog 92 [.one (limbs (ofN x.den)),.one (limbs (ofN y.den))] (.g (.one (limbs (ofN (x.den*y.den)))))∧few 50000 (ofN (x.den*y.den)):=by
 have M:=nat_Mul.con (ofN x.den) (ofN y.den) _ (if_pos ⟨ff (sD hx),ff (sD hy)⟩);rw[val_ofN,val_ofN] at M;have:=len_mul x.den y.den;have:=hx.2;have:=hy.2;exact⟨M,few_ofN (by omega)⟩
theorem qAdd (hl:few 2000 l) (hd:few 2000 d) (hm:few 2000 m) (he:few 2000 e):Con Tryz.prog 124 [rat b l d,rat c m e] (.g (ra (rv b l d+rv c m e))):=by
 have N1:=qNorm b l d hl hd;have N2:=qNorm c m e hm he;have hx:=short_rv (b:=b) hl hd (by decide);have hy:=short_rv (b:=c) hm he (by decide);generalize rv b l d=x at *;generalize rv c m e=y at *;have A:=zAdd (tT hx hy).2 (tT hy hx).2;have h1:=@len_natAbs_add (x.num*y.den) (y.num*x.den);have h2:=@len_natAbs_mul x.num (y.den:Int);have h3:=@len_natAbs_mul y.num (x.den:Int);have:=hx.1;have:=hx.2;have:=hy.1;have:=hy.2;simp only[Int.natAbs_natCast] at h2 h3;have L:=lowest (ofZ (x.num*(y.den:Int)+y.num*(x.den:Int))).1 _ _ (few_zi (z:=x.num*(y.den:Int)+y.num*(x.den:Int)) (by omega)) (dD hx hy).2 (by rw[val_ofN];exact Nat.mul_ne_zero x.den_nz y.den_nz);rw[zval_ofZ,val_ofN,←Rat.add_def'] at L;exact by_ _ Tryz.func124 rfl [gives N1,gives N2,gives (tT hx hy).1,gives (tT hy hx).1,gives A,gives (dD hx hy).1,gives L] (by kernel_rfl)
theorem qSub (hl:few 2000 l) (hd:few 2000 d) (hm:few 2000 m) (he:few 2000 e):Con Tryz.prog 102 [rat b l d,rat c m e] (.g (ra (rv b l d-rv c m e))):=by
 have G:=qNeg c m e hm he;have hy:=short_neg (short_rv (b:=c) hm he (by decide));have A:=qAdd b l d (ofZ (-rv c m e).num).1 (ofZ (-rv c m e).num).2 (ofN (-rv c m e).den) hl hd hy.num hy.den;rw[rv_told,←Rat.sub_eq_add_neg] at A;exact by_ _ Tryz.func102 rfl [gives G,gives A] (by kernel_rfl)
end
end
section
def u64v (x:Int):AG:=.one (.v (.int .u64 x))
theorem rLimbs {X:Int} {n:Nat} (h:X=(n:Int)) (hn:n<18446744073709551616):Con Tryz.prog 47 [u64v X] (.g (.one (limbs (ofN n)))):=by
 by_cases h0:n=0
 ·subst h0
  exact Con.nil (by_ _ Tryz.func47 rfl [ends (show (X==0)=true by rw[h];rfl)] (by kernel_rfl))
 ·have e0:(X==0)=false:=by rw[beq_eq_false_iff_ne];omega
  by_cases h1:n<4294967296
  ·refine (by_ (.g (.one (limbs [IntKind.u32.wrap X]))) Tryz.func47 rfl [ends e0,ends (show decide (X<4294967296)=true by rw[decide_eq_true_iff];omega)] (by kernel_rfl)).to ?_
   rw[u32w,h,ofN_pos h0,Nat.div_eq_of_lt h1,ofN_zero];rfl
  ·refine (by_ (.g (.one (limbs [IntKind.u32.wrap X,IntKind.u32.wrap (X/4294967296)]))) Tryz.func47 rfl [ends e0,ends (show decide (X<4294967296)=false by rw[decide_eq_false_iff_not];omega),byBits (shr_at X)] (by kernel_rfl)).to ?_
   have h2:n/4294967296≠0:=by omega
   rw[u32w,u32w,h,ofN_pos h0,ofN_pos h2,Nat.div_eq_of_lt (show n/4294967296<4294967296 by omega),ofN_zero];rfl
def S157 (n d U A B:Int):St:=(st (sparse 36 [(0,.g (num n)),(1,.g (num d)),(4,.g (.one (.ptr 0 0))),(5,.g (u64v U)),(6,.g (u64v A)),(7,.g (u64v B))]) [[.v (.bool false),.row 1 0 [],.row 1 0 []]])
theorem told_loop (n d U:Int):∀(b a:Nat) (A B:Int),A=(a:Int)→B=(b:Int)→b<18446744073709551616→Rounds Tryz.prog (lp Tryz.f69 0) (S157 n d U A B) (.exit 0) (S157 n d U ((Nat.gcd a b:Nat):Int) 0):=by
 intro b
 induction b using Nat.strongRecOn with
 |_ b ih =>
  intro a A B hA hB hb;by_cases h0:b=0
  ·subst h0
   subst hA;subst hB;rw[Nat.gcd_zero_right];exact Rounds.out (at_ _ _ [ends (rfl:((((0:Nat):Int)) != 0)=false)] (by kernel_rfl)) (by simp)
  ·have hn:(B != 0)=true:=by rw[bne_iff_ne];omega
   have step:=at_ (c:=lp Tryz.f69 0) (p:=S157 n d U A B) .normal (S157 n d U B (A.tmod B)) [ends hn,fact (show B≠0 by omega)] (by kernel_rfl);have e:A.tmod B=((a%b:Nat):Int):=by rw[hA,hB];rfl
   have:=ih (a%b) (Nat.mod_lt _ (Nat.pos_of_ne_zero h0)) b B (A.tmod B) hB e (by have:=Nat.mod_lt a (Nat.pos_of_ne_zero h0);omega);rw[show Nat.gcd a b=Nat.gcd b (a%b) by rw[Nat.gcd_comm a b,Nat.gcd_rec,Nat.gcd_comm]];exact this.step' step
theorem ra_mk (n:Int) (D:Nat) (hD:D≠0):rat (decide (n<0)) (ofN (n.natAbs/Nat.gcd n.natAbs D)) (ofN (D/Nat.gcd n.natAbs D))=ra (mkRat n D):=by
 have hg:Nat.gcd n.natAbs D≠0:=fun e=>hD (Nat.gcd_eq_zero_iff.1 e).2
 have hdv:((D.gcd n.natAbs:Nat):Int) ∣ n:=Int.ofNat_dvd_left.2 (Nat.gcd_dvd_right _ _);have en:(mkRat n D).num.natAbs=n.natAbs/Nat.gcd n.natAbs D:=by
  rw[Rat.num_mkRat,if_neg hD,Int.natAbs_ediv_of_dvd hdv,Int.natAbs_natCast,Nat.gcd_comm]
 have ed:(mkRat n D).den=D/Nat.gcd n.natAbs D:=by rw[Rat.den_mkRat,if_neg hD,Nat.gcd_comm]
 have es:decide ((mkRat n D).num<0)=decide (n<0):=by
  rw[decide_eq_decide,Rat.num_mkRat,if_neg hD];have hp:(0:Int)<((D.gcd n.natAbs:Nat):Int):=by rw[Nat.gcd_comm];omega
  constructor
  ·intro h
   by_cases hn:n<0
   ·exact hn
   ·have h9:0≤n/((D.gcd n.natAbs:Nat):Int):=Int.ediv_nonneg (by omega) (by omega)
    omega
  ·intro h
   exact Int.ediv_neg_of_neg_of_pos h hp
 unfold ra ofZ;simp only;rw[es,en,ed]
theorem rTold (n d:Int) (h0 : -4611686018427387904<n) (h1:n<4611686018427387904) (h2:0<d) (h3:d<4611686018427387904):Con Tryz.prog 69 [num n,num d] (.g (ra (mkRat n d.toNat))):=by
 have hD:d.toNat≠0:=by omega
 have hg:Nat.gcd n.natAbs d.toNat≠0:=fun e=>hD (Nat.gcd_eq_zero_iff.1 e).2
 have ud:IntKind.u64.wrap d=(d.toNat:Int):=by rw[u64 (by omega) (by omega)];omega
 have L2:∀g:Nat,g≠0→IntKind.u64.wrap ((IntKind.u64.wrap d).tdiv (g:Int))=((d.toNat/g:Nat):Int):=fun g hg=>by
  have:=Nat.div_le_self d.toNat g;rw[ud,show ((d.toNat:Int)).tdiv (g:Int)=((d.toNat/g:Nat):Int) from rfl];generalize d.toNat/g=k at this ⊢;exact u64 (by omega) (by omega)
 have L1:∀(U:Int) (g:Nat),U=(n.natAbs:Int)→g≠0→IntKind.u64.wrap (U.tdiv (g:Int))=((n.natAbs/g:Nat):Int):=fun U g hU hg=>by
  have:=Nat.div_le_self n.natAbs g;rw[hU,show ((n.natAbs:Int)).tdiv (g:Int)=((n.natAbs/g:Nat):Int) from rfl];generalize n.natAbs/g=k at this ⊢;exact u64 (by omega) (by omega)
 have q1:=Nat.div_le_self n.natAbs (Nat.gcd n.natAbs d.toNat);have q2:=Nat.div_le_self d.toNat (Nat.gcd n.natAbs d.toNat);have fin:=congrArg AV.g (ra_mk n d.toNat hD);by_cases h:n<0
 ·have eu:IntKind.u64.wrap (0-IntKind.u64.wrap n)=(n.natAbs:Int):=by rw[Int.zero_sub];exact u64n (by omega) h
  exact (by_ (.g (rat (decide (n<0)) (ofN (n.natAbs/Nat.gcd n.natAbs d.toNat)) (ofN (d.toNat/Nat.gcd n.natAbs d.toNat)))) Tryz.func69 rfl
   [ends (decide_eq_true h),goes (told_loop n d (IntKind.u64.wrap (0-IntKind.u64.wrap n)) d.toNat n.natAbs (IntKind.u64.wrap (0-IntKind.u64.wrap n)) (IntKind.u64.wrap d) eu ud (by omega)).loop,
    fact (show ((Nat.gcd n.natAbs d.toNat:Nat):Int)≠0 by omega),gives (rLimbs (L1 _ _ eu hg) (by omega)),fact (show ((Nat.gcd n.natAbs d.toNat:Nat):Int)≠0 by omega),gives (rLimbs (L2 _ hg) (by omega))] (by kernel_rfl)).to fin
 ·have eu:IntKind.u64.wrap n=(n.natAbs:Int):=by rw[u64 (by omega) (by omega)];omega
  exact (by_ (.g (rat (decide (n<0)) (ofN (n.natAbs/Nat.gcd n.natAbs d.toNat)) (ofN (d.toNat/Nat.gcd n.natAbs d.toNat)))) Tryz.func69 rfl
   [ends (decide_eq_false h),goes (told_loop n d (IntKind.u64.wrap n) d.toNat n.natAbs (IntKind.u64.wrap n) (IntKind.u64.wrap d) eu ud (by omega)).loop,
    fact (show ((Nat.gcd n.natAbs d.toNat:Nat):Int)≠0 by omega),gives (rLimbs (L1 _ _ eu hg) (by omega)),fact (show ((Nat.gcd n.natAbs d.toNat:Nat):Int)≠0 by omega),gives (rLimbs (L2 _ hg) (by omega))] (by kernel_rfl)).to fin
def quickT (n d:Int) (ok:Bool):AV:=.tup [num n,num d,truth ok]
def Quick (b:Bool) (l d:List Int):Prop:=∃n m ok,Con Tryz.prog 31 [rat b l d] (quickT n m ok)∧(ok=true → -1073741824<n∧n<1073741824∧0<m∧m<1073741824∧rv b l d=mkRat n m.toNat)
theorem at0 (x:Int):(0:Int)≤0∧([x].map fun n=>[AC.v (.int .u32 n)])[(0:Int).toNat]?=some [.v (.int .u32 x)]:=⟨by omega,rfl⟩
theorem rQuick (b:Bool) (l d:List Int) (hl:lim l) (hd:lim d) (hll:l.length<4000000000000000000):Quick b l d:=by
 match l,hl,hll with
 |x::y::r,hl,hll =>
  exact⟨0,0,false,by_ _ Tryz.func31 rfl [ends (show decide ((((x::y::r).length:Nat):Int)>1)=true by rw[decide_eq_true_iff];simp only[List.length_cons];omega),ends (rfl:true=true),ends (rfl:true=true),ends (rfl:true=true)] (by kernel_rfl),fun e=>by cases e⟩
 |[],hl,hll =>
  match d,hd with
  |[],hd=>exact⟨0,0,false,by_ _ Tryz.func31 rfl [ends (rfl:false=false),ends (rfl:true=true),ends (rfl:true=true),ends (rfl:true=true)] (by kernel_rfl),fun e=>by cases e⟩
  |y::z::r,hd =>
   exact⟨0,0,false,by_ _ Tryz.func31 rfl [ends (rfl:false=false),ends (show ((((y::z::r).length:Nat):Int) != 1)=true by rw[bne_iff_ne];simp only[List.length_cons];omega),ends (rfl:true=true),ends (rfl:true=true)] (by kernel_rfl),fun e=>by cases e⟩
  |[y],hd =>
   have hy:=hd y (by simp);by_cases h0:y=0
   ·exact⟨0,0,false,by_ _ Tryz.func31 rfl [ends (rfl:false=false),ends (rfl:false=false),elem (at0 y),ends (show (y==0)=true by simpa using h0),ends (rfl:true=true)] (by kernel_rfl),fun e=>by cases e⟩
   ·have e0:(y==0)=false:=by simpa using h0
    by_cases h1:y≥1073741824
    ·exact⟨0,0,false,by_ _ Tryz.func31 rfl [ends (rfl:false=false),ends (rfl:false=false),elem (at0 y),ends e0,elem (at0 y),ends (decide_eq_true h1)] (by kernel_rfl),fun e=>by cases e⟩
    ·have hw:IntKind.i64.wrap y=y:=wr (by omega) (by omega)
     have hv:rv b [] [y]=mkRat 0 y.toNat:=by
      unfold rv;rw[show val [y]=y.toNat by rw[val_cons,val_nil];omega];cases b<;>rfl
     cases b with
     |true =>
      refine⟨IntKind.i64.wrap (0-0),IntKind.i64.wrap y,true,by_ _ Tryz.func31 rfl [ends (rfl:false=false),ends (rfl:false=false),elem (at0 y),ends e0,elem (at0 y),ends (decide_eq_false h1),ends (rfl:false=false),ends (rfl:false=false),ends (rfl:true=true),elem (at0 y)] (by kernel_rfl),fun _=>?_⟩
      rw[hw,hv];exact⟨by decide,by decide,by omega,by omega,rfl⟩
     |false =>
      refine⟨0,IntKind.i64.wrap y,true,by_ _ Tryz.func31 rfl [ends (rfl:false=false),ends (rfl:false=false),elem (at0 y),ends e0,elem (at0 y),ends (decide_eq_false h1),ends (rfl:false=false),ends (rfl:false=false),ends (rfl:false=false),elem (at0 y)] (by kernel_rfl),fun _=>?_⟩
      rw[hw,hv];exact⟨by decide,by decide,by omega,by omega,rfl⟩
 |[x],hl,hll =>
  have hx:=hl x (by simp)
  match d,hd with
  |[],hd=>exact⟨0,0,false,by_ _ Tryz.func31 rfl [ends (rfl:false=false),ends (rfl:true=true),ends (rfl:true=true),ends (rfl:true=true)] (by kernel_rfl),fun e=>by cases e⟩
  |y::z::r,hd =>
   exact⟨0,0,false,by_ _ Tryz.func31 rfl [ends (rfl:false=false),ends (show ((((y::z::r).length:Nat):Int) != 1)=true by rw[bne_iff_ne];simp only[List.length_cons];omega),ends (rfl:true=true),ends (rfl:true=true)] (by kernel_rfl),fun e=>by cases e⟩
  |[y],hd =>
   have hy:=hd y (by simp);by_cases h0:y=0
   ·exact⟨0,0,false,by_ _ Tryz.func31 rfl [ends (rfl:false=false),ends (rfl:false=false),elem (at0 y),ends (show (y==0)=true by simpa using h0),ends (rfl:true=true)] (by kernel_rfl),fun e=>by cases e⟩
   ·have e0:(y==0)=false:=by simpa using h0
    by_cases h1:y≥1073741824
    ·exact⟨0,0,false,by_ _ Tryz.func31 rfl [ends (rfl:false=false),ends (rfl:false=false),elem (at0 y),ends e0,elem (at0 y),ends (decide_eq_true h1)] (by kernel_rfl),fun e=>by cases e⟩
    ·have hw:IntKind.i64.wrap y=y:=wr (by omega) (by omega)
     have hwx:IntKind.i64.wrap x=x:=wr (by omega) (by omega);by_cases h2:IntKind.i64.wrap x≥1073741824
     ·exact⟨0,0,false,by_ _ Tryz.func31 rfl [ends (rfl:false=false),ends (rfl:false=false),elem (at0 y),ends e0,elem (at0 y),ends (decide_eq_false h1),ends (rfl:true=true),elem (at0 x),ends (decide_eq_true h2)] (by kernel_rfl),fun e=>by cases e⟩
     ·have hvy:val [y]=y.toNat:=by rw[val_cons,val_nil];omega
      have hvx:(val [x]:Int)=x:=by rw[val_cons,val_nil];omega
      cases b with
      |true =>
       refine⟨IntKind.i64.wrap (0-IntKind.i64.wrap x),IntKind.i64.wrap y,true,by_ _ Tryz.func31 rfl [ends (rfl:false=false),ends (rfl:false=false),elem (at0 y),ends e0,elem (at0 y),ends (decide_eq_false h1),ends (rfl:true=true),elem (at0 x),ends (decide_eq_false h2),ends (rfl:true=true),elem (at0 y)] (by kernel_rfl),fun _=>?_⟩
       rw[hwx] at h2 ⊢;rw[hw,wr (by omega) (by omega)];refine⟨by omega,by omega,by omega,by omega,?_⟩
       unfold rv zval;rw[hvy,hvx,Int.zero_sub];rfl
      |false =>
       refine⟨IntKind.i64.wrap x,IntKind.i64.wrap y,true,by_ _ Tryz.func31 rfl [ends (rfl:false=false),ends (rfl:false=false),elem (at0 y),ends e0,elem (at0 y),ends (decide_eq_false h1),ends (rfl:true=true),elem (at0 x),ends (decide_eq_false h2),ends (rfl:false=false),elem (at0 y)] (by kernel_rfl),fun _=>?_⟩
       rw[hwx] at h2 ⊢;rw[hw];refine⟨by omega,by omega,by omega,by omega,?_⟩
       unfold rv zval;rw[hvy,hvx];rfl
end
section
theorem rNorm (b:Bool) (l d:List Int) (hl:few 15000 l) (hd:few 15000 d):Con Tryz.prog 48 [rat b l d] (.g (ra (rv b l d))):=by
 obtain⟨n,m,ok,Q,hq⟩:=rQuick b l d hl.1 hd.1 (by have:=hl.2;omega);cases ok with
 |true =>
  obtain⟨h1,h2,h3,h4,h5⟩:=hq rfl;rw[h5];exact by_ _ Tryz.func48 rfl [gives Q,ends (rfl:true=true),gives (rTold n m (by omega) (by omega) h3 (by omega))] (by kernel_rfl)
 |false =>
  have N:=jNorm b l (few_up hl (by decide));have hz:(ofN (zval b l).natAbs).length≤15000:=few_zval hl;have hD:(ofN (val d)).length≤15000:=Nat.le_trans (len_val_le hd.1) hd.2;have T:=foliotref01_Trim.con d _ (if_pos (rf (few_up hd (by decide))));unfold rv;generalize zval b l=z at *;generalize val d=D at *;by_cases h0:D=0
  ·subst h0
   rw[Rat.mkRat_zero];exact by_ _ Tryz.func48 rfl [gives Q,ends (rfl:false=false),gives N,gives T,ends (rfl:((((ofN 0).length:Nat):Int)==0)=true)] (by kernel_rfl)
  ·have hg:Nat.gcd z.natAbs D≠0:=fun e=>h0 (Nat.gcd_eq_zero_iff.1 e).2
   have hgl:(ofN (Nat.gcd z.natAbs D)).length≤15000:=Nat.le_trans (len_mono (Nat.gcd_le_right _ (Nat.pos_of_ne_zero h0))) hD;have fz:=rf (few_zi (z:=z) (by omega));have fD:=rf (few_ofN (n:=D) (by omega));have fg:=rf (few_ofN (n:=Nat.gcd z.natAbs D) (by omega));have G:=foliotref01_Gcd.con (ofZ z).2 (ofN D) _ (if_pos ⟨fz,fD⟩);rw[val_zi,val_ofN] at G;have e1:foliotref01_Div.f (ofZ z).2 (ofN (Nat.gcd z.natAbs D))=some (ofN (z.natAbs/Nat.gcd z.natAbs D),ofN (z.natAbs%Nat.gcd z.natAbs D),0):=by
    unfold foliotref01_Div.f Nb.divided;rw[if_pos ⟨fz,fg⟩,val_zi,val_ofN,if_neg hg]
   have e2:foliotref01_Div.f (ofN D) (ofN (Nat.gcd z.natAbs D))=some (ofN (D/Nat.gcd z.natAbs D),ofN (D%Nat.gcd z.natAbs D),0):=by
    unfold foliotref01_Div.f Nb.divided;rw[if_pos ⟨fD,fg⟩,val_ofN,val_ofN,if_neg hg]
   rw[←ra_mk z D h0];exact by_ _ Tryz.func48 rfl [gives Q,ends (rfl:false=false),gives N,gives T,ends (show ((((ofN D).length:Nat):Int)==0)=false by
    rw[beq_eq_false_iff_ne];have:=len_pos' h0;omega),gives G,gives (foliotref01_Div.con _ _ _ _ _ e1),gives (foliotref01_Div.con _ _ _ _ _ e2)] (by kernel_rfl)
theorem rDen (b:Bool) (l d:List Int):Con Tryz.prog 84 [rat b l d] (.g (int false d)):=by_ _ Tryz.func84 rfl [] (by kernel_rfl)
theorem zval_den (n:Nat):zval false (ofN n)=(n:Int):=by rw[zval_ofN];rfl
section
variable {x y:Rat}
theorem rtT (hx:short 2000 x) (hy:short 2000 y):Con Tryz.prog 83 [zi x.num,int false (ofN y.den)] (.g (zi (x.num*(y.den:Int))))∧few 20000 (ofZ (x.num*(y.den:Int))).2:=by
 have T:=jMul (ofZ x.num).1 (ofZ x.num).2 false (ofN y.den) (few_up hx.num (by decide)) (few_up hy.den (by decide));rw[zval_ofZ,zval_den] at T;have h2:=@len_natAbs_mul x.num (y.den:Int);have h3:=hx.1;have h4:=hy.2;simp only[Int.natAbs_natCast] at h2;exact⟨T,few_ofZ (by omega)⟩
theorem rdD (hx:short 2000 x) (hy:short 2000 y):Con Tryz.prog 85 [.one (limbs (ofN x.den)),.one (limbs (ofN y.den))] (.g (.one (limbs (ofN (x.den*y.den)))))∧few 15000 (ofN (x.den*y.den)):=by
 have M:=foliotref01_Mul.con (ofN x.den) (ofN y.den) _ (if_pos ⟨rf (few_up hx.den (by decide)),rf (few_up hy.den (by decide))⟩);rw[val_ofN,val_ofN] at M;have:=len_mul x.den y.den;have:=hx.2;have:=hy.2;exact⟨M,⟨lim_ofN _,by omega⟩⟩
end
theorem zjAdd {x y:Int} (hx:few 20000 (ofZ x).2) (hy:few 20000 (ofZ y).2):Con Tryz.prog 82 [zi x,zi y] (.g (zi (x+y))):=by
 have A:=jAdd (ofZ x).1 (ofZ x).2 (ofZ y).1 (ofZ y).2 hx hy;rw[zval_ofZ,zval_ofZ] at A;exact A
theorem rv_zi (z:Int) (n:Nat):rv (ofZ z).1 (ofZ z).2 (ofN n)=mkRat z n:=by unfold rv;rw[zval_ofZ,val_ofN]
theorem mulw {a b:Int} (h1 : -1073741824<a) (h2:a<1073741824) (h3 : -1073741824<b) (h4:b<1073741824):IntKind.i64.wrap (a*b)=a*b ∧ -1152921504606846976<a*b∧a*b<1152921504606846976:=by
 have h:(a*b).natAbs≤1073741823*1073741823:=by
  rw[Int.natAbs_mul];exact Nat.mul_le_mul (by omega) (by omega)
 exact⟨wr (by omega) (by omega),by omega,by omega⟩
section
variable (b:Bool) (l d:List Int) (c:Bool) (m e:List Int)
theorem rAdd (hl:few 2000 l) (hd:few 2000 d) (hm:few 2000 m) (he:few 2000 e):Con Tryz.prog 57 [rat b l d,rat c m e] (.g (ra (rv b l d+rv c m e))):=by
 have N1:=rNorm b l d (few_up hl (by decide)) (few_up hd (by decide));have N2:=rNorm c m e (few_up hm (by decide)) (few_up he (by decide));obtain⟨n1,m1,ok1,Q1,q1⟩:=rQuick b l d hl.1 hd.1 (by have:=hl.2;omega);obtain⟨n2,m2,ok2,Q2,q2⟩:=rQuick c m e hm.1 he.1 (by have:=hm.2;omega);have hx:=short_rv (b:=b) hl hd (by decide);have hy:=short_rv (b:=c) hm he (by decide);generalize rv b l d=x at *;generalize rv c m e=y at *;have A:=zjAdd (rtT hx hy).2 (rtT hy hx).2;have h1:=@len_natAbs_add (x.num*y.den) (y.num*x.den);have h2:=@len_natAbs_mul x.num (y.den:Int);have h3:=@len_natAbs_mul y.num (x.den:Int);have:=hx.1;have:=hx.2;have:=hy.1;have:=hy.2;simp only[Int.natAbs_natCast] at h2 h3;have L:=rNorm (ofZ (x.num*(y.den:Int)+y.num*(x.den:Int))).1 _ _ (few_ofZ (z:=x.num*(y.den:Int)+y.num*(x.den:Int)) (by omega)) (rdD hx hy).2;rw[rv_zi,←Rat.add_def'] at L;cases ok1<;>cases ok2
 ·exact by_ _ Tryz.func57 rfl [gives Q1,gives Q2,ends (rfl:false=false),ends (rfl:false=false),gives N1,gives N2,gives (rDen (ofZ y.num).1 (ofZ y.num).2 (ofN y.den)),gives (rtT hx hy).1,gives (rDen (ofZ x.num).1 (ofZ x.num).2 (ofN x.den)),gives (rtT hy hx).1,gives A,gives (rdD hx hy).1,gives L] (by kernel_rfl)
 ·exact by_ _ Tryz.func57 rfl [gives Q1,gives Q2,ends (rfl:false=false),ends (rfl:false=false),gives N1,gives N2,gives (rDen (ofZ y.num).1 (ofZ y.num).2 (ofN y.den)),gives (rtT hx hy).1,gives (rDen (ofZ x.num).1 (ofZ x.num).2 (ofN x.den)),gives (rtT hy hx).1,gives A,gives (rdD hx hy).1,gives L] (by kernel_rfl)
 ·exact by_ _ Tryz.func57 rfl [gives Q1,gives Q2,ends (rfl:true=true),ends (rfl:false=false),gives N1,gives N2,gives (rDen (ofZ y.num).1 (ofZ y.num).2 (ofN y.den)),gives (rtT hx hy).1,gives (rDen (ofZ x.num).1 (ofZ x.num).2 (ofN x.den)),gives (rtT hy hx).1,gives A,gives (rdD hx hy).1,gives L] (by kernel_rfl)
 ·obtain⟨a1,a2,a3,a4,a5⟩:=q1 rfl
  obtain⟨b1,b2,b3,b4,b5⟩:=q2 rfl;have w1:=mulw a1 a2 (show -1073741824<m2 by omega) b4;have w2:=mulw b1 b2 (show -1073741824<m1 by omega) a4;have w3:=mulw (show -1073741824<m1 by omega) a4 (show -1073741824<m2 by omega) b4;have wp:0<m1*m2:=Int.mul_pos a3 b3;have es:IntKind.i64.wrap (IntKind.i64.wrap (n1*m2)+IntKind.i64.wrap (n2*m1))=n1*m2+n2*m1:=by rw[w1.1,w2.1];exact wr (by omega) (by omega)
  have K:=rTold (IntKind.i64.wrap (IntKind.i64.wrap (n1*m2)+IntKind.i64.wrap (n2*m1))) (IntKind.i64.wrap (m1*m2)) (by rw[es];omega) (by rw[es];omega) (by rw[w3.1];exact wp) (by rw[w3.1];omega);have ex:mkRat (IntKind.i64.wrap (IntKind.i64.wrap (n1*m2)+IntKind.i64.wrap (n2*m1))) (IntKind.i64.wrap (m1*m2)).toNat=x+y:=by
   rw[es,w3.1,a5,b5,Rat.mkRat_add_mkRat _ _ (by omega) (by omega),Int.toNat_mul (by omega) (by omega),Int.toNat_of_nonneg (by omega),Int.toNat_of_nonneg (by omega)]
  rw[ex] at K;exact by_ _ Tryz.func57 rfl [gives Q1,gives Q2,ends (rfl:true=true),ends (rfl:true=true),gives K] (by kernel_rfl)
theorem rNeg (hl:few 2000 l) (hd:few 2000 d):Con Tryz.prog 58 [rat b l d] (.g (ra (-rv b l d))):=by
 have N1:=rNorm b l d (few_up hl (by decide)) (few_up hd (by decide));generalize rv b l d=x at *;by_cases h:x.num<0
 ·refine (by_ (.g (rat false (ofN x.num.natAbs) (ofN x.den))) Tryz.func58 rfl [gives N1,ends (show (!decide (x.num<0))=false by rw[decide_eq_true h];rfl)] (by kernel_rfl)).to ?_
  rw[ra_neg];unfold ofZ;rw[decide_eq_false (show ¬ -x.num<0 by omega),Int.natAbs_neg];rfl
 ·refine (by_ (.g (rat (decide ((((ofN x.num.natAbs).length:Nat):Int)>0)) (ofN x.num.natAbs) (ofN x.den))) Tryz.func58 rfl [gives N1,ends (show (!decide (x.num<0))=true by rw[decide_eq_false h];rfl)] (by kernel_rfl)).to ?_
  rw[ra_neg,len_pos];unfold ofZ;rw[Int.natAbs_neg,show decide (x.num.natAbs≠0)=decide (-x.num<0) by rw[decide_eq_decide];omega];rfl
theorem rSub (hl:few 2000 l) (hd:few 2000 d) (hm:few 2000 m) (he:few 2000 e):Con Tryz.prog 33 [rat b l d,rat c m e] (.g (ra (rv b l d-rv c m e))):=by
 have G:=rNeg c m e hm he;have hy:=short_neg (short_rv (b:=c) hm he (by decide));have A:=rAdd b l d (ofZ (-rv c m e).num).1 (ofZ (-rv c m e).num).2 (ofN (-rv c m e).den) hl hd hy.num hy.den;rw[rv_told,←Rat.sub_eq_add_neg] at A;exact by_ _ Tryz.func33 rfl [gives G,gives A] (by kernel_rfl)
theorem rSign (hl:few 2000 l) (hd:few 2000 d):Con Tryz.prog 32 [rat b l d] (.g (num (sgn (rv b l d).num))):=by
 have N1:=rNorm b l d (few_up hl (by decide)) (few_up hd (by decide));generalize rv b l d=x at *;have hp:=len_ofZ_pos x.num;have e:(ofZ x.num).2.length=(ofN x.num.natAbs).length:=rfl;unfold sgn;by_cases h0:x.num=0
 ·rw[if_neg (by omega),if_neg (by omega)]
  exact by_ _ Tryz.func32 rfl [gives N1,ends (show ((((ofN x.num.natAbs).length:Nat):Int)==0)=true by rw[h0];rfl)] (by kernel_rfl)
 ·have:=hp.2 h0
  have hz:((((ofN x.num.natAbs).length:Nat):Int)==0)=false:=by rw[beq_eq_false_iff_ne];omega
  by_cases h1:x.num<0
  ·rw[if_pos h1]
   exact by_ _ Tryz.func32 rfl [gives N1,ends hz,ends (decide_eq_true h1)] (by kernel_rfl)
  ·rw[if_neg h1,if_pos (by omega)]
   exact by_ _ Tryz.func32 rfl [gives N1,ends hz,ends (decide_eq_false h1)] (by kernel_rfl)
theorem sgn_sub (x y:Rat):sgn (x-y).num=cmpR x y:=by
 unfold sgn cmpR;have h1:(x-y).num<0↔x<y:=by
  rw[←Rat.not_le,Rat.le_iff_sub_nonneg,←Rat.num_nonneg];omega
 have h2:0<(x-y).num↔y<x:=by
  rw[Rat.lt_iff_sub_pos,Rat.lt_iff_le_and_ne,←Rat.num_nonneg];have:=@Rat.num_eq_zero (x-y);constructor
  ·intro h;exact⟨by omega,fun e=>by rw[←e] at h;exact absurd h (by decide)⟩
  ·rintro⟨h,hne⟩
   have:(x-y).num≠0:=fun e=>hne ((Rat.num_eq_zero.1 e).symm)
   omega
 simp only[h1,h2]
theorem rCmp (hl:few 2000 l) (hd:few 2000 d) (hm:few 2000 m) (he:few 2000 e):Con Tryz.prog 16 [rat b l d,rat c m e] (.g (num (cmpR (rv b l d) (rv c m e)))):=by
 have D:=rSub b l d c m e hl hd hm he;obtain⟨n1,m1,ok1,Q1,q1⟩:=rQuick b l d hl.1 hd.1 (by have:=hl.2;omega);obtain⟨n2,m2,ok2,Q2,q2⟩:=rQuick c m e hm.1 he.1 (by have:=hm.2;omega);have hx:=short_rv (b:=b) (k:=2000) hl hd (by decide);have hy:=short_rv (b:=c) (k:=2000) hm he (by decide);generalize rv b l d=x at *;generalize rv c m e=y at *;have hs:=short_sub hx hy;have N:=rNorm (ofZ (x-y).num).1 (ofZ (x-y).num).2 (ofN (x-y).den) (few_up hs.num (by decide)) (few_up hs.den (by decide));rw[rv_told] at N;have S:Con Tryz.prog 32 [ra (x-y)] (.g (num (cmpR x y))):=by
  rw[←sgn_sub];generalize x-y=z at *;have hp:=len_ofZ_pos z.num;have e:(ofZ z.num).2.length=(ofN z.num.natAbs).length:=rfl;unfold sgn;by_cases h0:z.num=0
  ·rw[if_neg (by omega),if_neg (by omega)]
   exact by_ _ Tryz.func32 rfl [gives N,ends (show ((((ofN z.num.natAbs).length:Nat):Int)==0)=true by rw[h0];rfl)] (by kernel_rfl)
  ·have:=hp.2 h0
   have hz:((((ofN z.num.natAbs).length:Nat):Int)==0)=false:=by rw[beq_eq_false_iff_ne];omega
   by_cases h1:z.num<0
   ·rw[if_pos h1]
    exact by_ _ Tryz.func32 rfl [gives N,ends hz,ends (decide_eq_true h1)] (by kernel_rfl)
   ·rw[if_neg h1,if_pos (by omega)]
    exact by_ _ Tryz.func32 rfl [gives N,ends hz,ends (decide_eq_false h1)] (by kernel_rfl)
 cases ok1<;>cases ok2
 ·exact by_ _ Tryz.func16 rfl [gives Q1,gives Q2,ends (rfl:(!false)=true),ends (rfl:true=true),gives D,gives S] (by kernel_rfl)
 ·exact by_ _ Tryz.func16 rfl [gives Q1,gives Q2,ends (rfl:(!false)=true),ends (rfl:true=true),gives D,gives S] (by kernel_rfl)
 ·exact by_ _ Tryz.func16 rfl [gives Q1,gives Q2,ends (rfl:(!true)=false),ends (rfl:(!false)=true),gives D,gives S] (by kernel_rfl)
 ·obtain⟨a1,a2,a3,a4,a5⟩:=q1 rfl
  obtain⟨b1,b2,b3,b4,b5⟩:=q2 rfl;have w1:=mulw a1 a2 (show -1073741824<m2 by omega) b4;have w2:=mulw b1 b2 (show -1073741824<m1 by omega) a4;have lt:∀{n m:Int} {p q:Int},0<m→0<q→(mkRat n m.toNat<mkRat p q.toNat↔n*q<p*m):=fun {n m p q} hm hq=>by
   rw[←Rat.divInt_ofNat,←Rat.divInt_ofNat,Int.toNat_of_nonneg (by omega),Int.toNat_of_nonneg (by omega),←Rat.not_le,Rat.le_iff_sub_nonneg,Rat.divInt_sub_divInt _ _ (by omega) (by omega),Rat.divInt_nonneg_iff_of_pos_right (Int.mul_pos hm hq)];omega
  have l1:=lt (n:=n1) (p:=n2) a3 b3;have l2:=lt (n:=n2) (p:=n1) b3 a3;rw[a5,b5];unfold cmpR;by_cases c1:n1*m2<n2*m1
  ·rw[if_pos (l1.2 c1)]
   exact by_ _ Tryz.func16 rfl [gives Q1,gives Q2,ends (rfl:(!true)=false),ends (rfl:(!true)=false),ends (show decide (IntKind.i64.wrap (n1*m2)<IntKind.i64.wrap (n2*m1))=true by rw[w1.1,w2.1];exact decide_eq_true c1)] (by kernel_rfl)
  ·rw[if_neg (fun h=>c1 (l1.1 h))]
   have f1:decide (IntKind.i64.wrap (n1*m2)<IntKind.i64.wrap (n2*m1))=false:=by rw[w1.1,w2.1];exact decide_eq_false c1
   by_cases c2:n2*m1<n1*m2
   ·rw[if_pos (l2.2 c2)]
    exact by_ _ Tryz.func16 rfl [gives Q1,gives Q2,ends (rfl:(!true)=false),ends (rfl:(!true)=false),ends f1,ends (show decide (IntKind.i64.wrap (n1*m2)>IntKind.i64.wrap (n2*m1))=true by rw[w1.1,w2.1];exact decide_eq_true c2)] (by kernel_rfl)
   ·rw[if_neg (fun h=>c2 (l2.1 h))]
    exact by_ _ Tryz.func16 rfl [gives Q1,gives Q2,ends (rfl:(!true)=false),ends (rfl:(!true)=false),ends f1,ends (show decide (IntKind.i64.wrap (n1*m2)>IntKind.i64.wrap (n2*m1))=false by rw[w1.1,w2.1];exact decide_eq_false c2)] (by kernel_rfl)
end
end
section
def Is (A:AG) (x:Rat):Prop:=∃b l d,A=rat b l d∧few 2000 l∧few 2000 d∧rv b l d=x
theorem is_ra {x:Rat} {k:Nat} (h:short k x) (hk:k≤2000):Is (ra x) x:=⟨_,_,_,rfl,few_up h.num hk,few_up h.den hk,rv_told x⟩
section
variable {A B:AG} {x y:Rat} (ha:Is A x) (hb:Is B y)
include ha
theorem gSign:Con Tryz.prog 43 [A] (.g (num (sgn x.num))):=by obtain⟨b,l,d,rfl,h1,h2,rfl⟩:=ha;exact qSign b l d h1 h2
include hb
theorem gCmp:Con Tryz.prog 23 [A,B] (.g (num (cmpR x y))):=by obtain⟨b,l,d,rfl,h1,h2,rfl⟩:=ha;obtain⟨c,m,e,rfl,h3,h4,rfl⟩:=hb;exact qCmp b l d c m e h1 h2 h3 h4
theorem gSub:Con Tryz.prog 102 [A,B] (.g (ra (x-y))):=by obtain⟨b,l,d,rfl,h1,h2,rfl⟩:=ha;obtain⟨c,m,e,rfl,h3,h4,rfl⟩:=hb;exact qSub b l d c m e h1 h2 h3 h4
end
def cells (r:Bool×List Int×List Int):List AC:=[.v (.bool r.1),limbs r.2.1,limbs r.2.2]
def rows (rs:List (Bool×List Int×List Int)):AC:=.row 3 rs.length (rs.map cells)
theorem ConF.holds {f:FuncId} {xs:List AG} (h:ConF Tryz.prog f xs (.g (truth true))) {ok:Nat→Prop} {us:Array Value} {w:World} (hA:TA ok w xs us):Calls Tryz.prog f us w fun e w'=>e=.returned (.bool true)∧Below w.heap.size w w':=by
 refine (h.2 ok us w hA).mono ?_
 rintro e w' ⟨u,rfl,hT,hb⟩
 have:=TC.v_eq (show TC [] _ w' (.v (.bool true)) u from hT);exact⟨by rw[this],hb⟩
end
section
theorem lt_asymm' {x y:Rat} (h:x<y):¬y<x:=Rat.not_lt.2 (Rat.le_of_lt h)
theorem cmpR_anti (x y:Rat):cmpR y x = -cmpR x y:=by
 unfold cmpR;by_cases h1:x<y
 ·rw[if_neg (lt_asymm' h1),if_pos h1,if_pos h1];rfl
 ·by_cases h2:y<x
  ·rw[if_pos h2,if_neg h1,if_pos h2]
  ·rw[if_neg h2,if_neg h1,if_neg h1,if_neg h2];rfl
section
variable (b0:Bool) (l0 d0:List Int) (b1:Bool) (l1 d1:List Int) (b2:Bool) (l2 d2:List Int)
end
end
end Go.Proofs.YtjfkhbkddenfoaaGreat.Ev
namespace Go.Proofs.YtjfkhbkddenfoaaGreat.Ev
open Go Go.RowKit Go.Proofs.YtjfkhbkddenfoaaGreatW.PrintWords Go.Proofs.YtjfkhbkddenfoaaGreatW.PrintLast
section
def flags (own:List (Option (Bool×List AC))):List (Option (Bool×List AC)):=own.map (Option.map fun x=>(true,x.2))
theorem flags_get {own:List (Option (Bool×List AC))} {i:Nat} {m:Bool} {cs:List AC} (h:(flags own)[i]?=some (some (m,cs))):m=true∧∃m',own[i]?=some (some (m',cs)):=by
 unfold flags at h;rw[List.getElem?_map] at h;obtain⟨x,hx,he⟩:=Option.map_eq_some_iff.1 h;obtain⟨y,hy,h2⟩:=Option.map_eq_some_iff.1 he;cases h2;exact⟨rfl,y.1,by rw[hx,hy]⟩
section
variable {P:Program} {okA okB:Nat→Prop} {W0:Base} {g:List (Option Nat)} {s:St} {a a':Act} {W W':World}
theorem Ok.rebase (h:Ok okA W0 g s a W) {ds:List Deferred} (ht:a'.tmps=a.tmps) (hd:a'.defers=ds) (hs:W.heap.size≤W'.heap.size)
  (hk:∀k,FP okA W0.heap.size g k→k<W.heap.size→W'.heap[k]?=W.heap[k]?∧okB k)
  (hf:∀(i:Nat) b cur e,g[i]?=some (some b)→W.heap[b]?=some (.cells cur e (0,0))→∃cur':Array Value,W'.heap[b]?=some (.cells cur' e (0,0))∧cur'.size=cur.size)
  (hl:∀(i:Nat) b m cs,g[i]?=some (some b)→s.own[i]?=some (some (m,cs))→W'.heap[b]?=W.heap[b]?) :
  Ok okB ⟨W',g,ds⟩ g ⟨s.regs,flags s.own,g.length⟩ a' W':=by
 have m:Mv g g (FP okA W0.heap.size g) (FP okB W'.heap.size g) W W':=⟨fun _ _ h=>h,fun k hk' hlt=>(hk k hk' hlt).1,fun k hk' hlt=>⟨.inl (hk k hk' hlt).2,hk'.2⟩,hf⟩;have lv:∀i,Live ⟨s.regs,flags s.own,g.length⟩ i→Live s i:=fun i ⟨m,cs,hi⟩=>let ⟨_,m',h'⟩:=flags_get hi;⟨m',cs,h'⟩
 refine⟨?_,⟨?_,fun i mk cs b hi hg=>?_⟩,fun i j b hi hj li lj=>h.nodup i j b hi hj (lv i li) (lv j lj),fun b hb=>⟨.inr hb,Nat.lt_of_lt_of_le (h.base b hb).2 hs⟩,Keep.refl _,hd,⟨rfl,fun i hi=>⟨g[i],List.getElem?_eq_getElem hi,List.getElem?_eq_getElem hi⟩⟩,fun i b m cs hg hx hi=>(flags_get hi).1,fun i m c cs hi=>?_⟩
 ·have:=h.regs.mv m
  exact⟨by rw[ht];exact this.1,fun t x hx=>by rw[ht];exact this.2 t x hx⟩
 ·show (flags s.own).length=g.length
  rw[←h.own.1];simp[flags]
 ·obtain⟨_,m',hi'⟩:=flags_get hi
  obtain⟨cells,e,hw,hT⟩:=h.own.2 i m' cs b hi' hg;exact⟨cells,e,(hl i b m' cs hg hi').trans hw,hT.mv m⟩
 ·obtain⟨_,m',hi'⟩:=flags_get hi
  exact h.has i m' c cs hi'
end
section
variable {P:Program} {n:Nat} {rd:Option Nat} {Q Q':Exit→Act→World→Prop} {a:Act} {w:World} {K K':Act→World→Prop}
theorem seg_at {L:Lays} (hL:LaysOk P L) {ops:Array Oper} {i:Nat} {xs:List Oper} {ok0:Nat→Prop} {w0:Base} {g:List (Option Nat)} {s:St} (q:St) (pf:List (Prf P)) (hok:Ok ok0 w0 g s a w)
  (h:(match runL L ops i xs s (Prf.ans pf) with
    |some (s',az,ds)=>(some (fit q s',az,ds):Option ((St×List (List AC))×List Ans×List Dem))
    |none=>none)=some ((q,[]),[],Prf.dem pf)):wpList P ops (fun e a' w'=>e=.normal∧∃g',Ok ok0 w0 g' q a' w') xs a w:=by
 split at h
 ·rename_i s' az ds h1
  injection h with h;injection h with h2 h3;injection h3 with h3 h4;subst h3;refine runL_at hL hok h1 (by rw[h4];exact Prf.sos pf) (fun g' a' w' hk=>⟨rfl,?_⟩)
  obtain⟨g2,h5⟩:=hk.fit q [] (by rw[h2];exact fun cs hc=>by cases hc);rw[h2] at h5;exact⟨g2,h5⟩
 ·cases h
end
end
end Go.Proofs.YtjfkhbkddenfoaaGreat.Ev
namespace Go.Proofs.YtjfkhbkddenfoaaGreat.Ev
open Go Go.RowKit Go.Proofs.YtjfkhbkddenfoaaGreatW.PrintWords Go.Proofs.YtjfkhbkddenfoaaGreatW.PrintMore Go.Proofs.YtjfkhbkddenfoaaGreatW.PrintLast Go.Proofs.YtjfkhbkddenfoaaGreat
section
def LU:Lays:=[(4,⟨1,[.v (.bool false)],.bool⟩),
 (22,⟨1,[.row 1 0 []],.sl 88⟩),
 (3,⟨1,[.v (.int .i64 0)],.int .i64⟩),
 (24,⟨2,[.v (.bool false),.row 1 0 []],.st [(0,4),(1,22)]⟩),
 (26,⟨3,[.v (.bool false),.row 1 0 [],.row 1 0 []],.st [(0,24),(2,22)]⟩),
 (35,⟨1,[.v (.int .i64 0)],.int .i64⟩),
 (2,⟨1,[.v (.int .i64 0)],.int .i64⟩),
 (9,⟨1,[.v (.string ⟨#[]⟩)],.str⟩),
 (88,⟨1,[.v (.int .u32 0)],.int .u32⟩),
 (34,⟨1,[.row 1 0 []],.sl 4⟩),
 (82,⟨1,[.row 1 0 []],.sl 9⟩),
 (61,⟨1,[.row 1 0 []],.sl 2⟩),
 (64,⟨5,[.v (.int .i64 0),.v (.bool false),.row 1 0 [],.row 1 0 [],.v (.string ⟨#[]⟩)],.st [(0,3),(1,26),(4,9)]⟩),
 (46,⟨1,[.row 5 0 []],.sl 64⟩),
 (48,⟨5,[.v (.bool false),.row 1 0 [],.row 1 0 [],.v (.int .i64 0),.row 5 0 []],.st [(0,26),(3,3),(4,46)]⟩),
 (30,⟨1,[.row 5 0 []],.sl 48⟩),
 (32,⟨6,[.row 5 0 [],.v (.int .i64 0),.v (.bool false),.row 1 0 [],.row 1 0 [],.v (.int .i64 0)],.st [(0,30),(1,3),(2,26),(5,3)]⟩),
 (29,⟨11,[.v (.int .i64 0),.v (.int .i64 0),.v (.string ⟨#[]⟩),.v (.bool false),.row 1 0 [],.row 1 0 [],.row 11 0 [],.v (.bool false),.v (.bool false),.row 1 0 [],.row 1 0 []],.st [(0,3),(1,3),(2,9),(3,26),(6,27),(7,4),(8,26)]⟩),
 (27,⟨1,[.row 11 0 []],.sl 29⟩),
 (114,⟨4,[.v (.bool false),.row 1 0 [],.row 1 0 [],.v (.bool false)],.st [(0,26),(3,4)]⟩),
 (45,⟨1,[.v .nilFunc],.fu⟩),
 (66,⟨1,[.v .nilFunc],.fu⟩),
 (89,⟨1,[.row 1 0 []],.sl 66⟩),
 (92,⟨1,[.v .nilFunc],.fu⟩),
 (69,⟨1,[.v .nilFunc],.st [(0,66)]⟩),
 (42,⟨1,[.v (.pointer none)],.pt⟩),
 (39,⟨1,[.v .nilFunc],.fu⟩),
 (58,⟨1,[.v .nilFunc],.fu⟩)]
theorem LU_ok:LaysOk Tryz.prog LU:=lays_ok (by kernel_rfl) (by kernel_rfl)
def DU:Drawn:=drawn LU
theorem DU_ok:DrawnOk Tryz.prog DU:=drawn_ok (by kernel_rfl) LU_ok
theorem byU {f:FuncId} {fn:Func} {c:Code} {xs:List AG} (r:AV) (hf:Tryz.prog.funcs[f]?=some fn) (hb:fn.body=some c) (pf:List (Prf Tryz.prog)) (h:evF LU DU fn c xs (Prf.ans pf)=some (r,[],Prf.dem pf)) (hname:(fn.name == "runtime.NumGoroutine")=false:=by kernel_rfl):Con Tryz.prog f xs r :=
 con_of LU_ok DU_ok pf hf hname hb h
theorem atU {c:Code} {p:St} (e:Exit) (q:St) (pf:List (Prf Tryz.prog)) (h:(match runC LU DU c p (Prf.ans pf) with
 |some (e',q',az,ds)=>(some (e',fit q q',az,ds):Option (Exit×(St×List (List AC))×List Ans×List Dem))
 |none=>none)=some (e,(q,[]),[],Prf.dem pf)):CodeCon Tryz.prog c p e q:=code_of LU_ok DU_ok pf [] (fun cs h=>by cases h) h
theorem atUm (ms:List Nat) {c:Code} {p:St} (e:Exit) (q:St) (pf:List (Prf Tryz.prog)) (pl:List (List AC)) (hp:∀cs∈pl,Plain cs) (h:(match runC LU DU c p (Prf.ans pf) with
 |some (e',q',az,ds)=>(some (e',fit q q' ms,az,ds):Option (Exit×(St×List (List AC))×List Ans×List Dem))
 |none=>none)=some (e,(q,pl),[],Prf.dem pf)):CodeCon Tryz.prog c p e q:=code_of LU_ok DU_ok pf ms hp h
theorem byUF {f:FuncId} {fn:Func} {c:Code} {xs:List AG} (r:AV) (hf:Tryz.prog.funcs[f]?=some fn) (hb:fn.body=some c) (pf:List (Prf Tryz.prog)) (h:evF LU DU fn c xs (Prf.ans pf)=some (r,[],Prf.dem pf)) (hname:(fn.name == "runtime.NumGoroutine")=false:=by kernel_rfl):ConF Tryz.prog f xs r :=
 conF_of LU_ok DU_ok pf hf hname hb h
theorem byUH {f:FuncId} {fn:Func} {c:Code} {xs:List AG} {own:List (Option (Bool×List AC))} (r:AV) (out:List (Option (Bool×List AC))) (hf:Tryz.prog.funcs[f]?=some fn) (hb:fn.body=some c) (pf:List (Prf Tryz.prog)) (h:evH LU DU fn c xs own r out (Prf.ans pf)=some ([some r],out,[],Prf.dem pf)) (hname:(fn.name == "runtime.NumGoroutine")=false:=by kernel_rfl):ConH Tryz.prog f xs own r out :=
 conH_of LU_ok DU_ok pf hf hname hb h
end
end Go.Proofs.YtjfkhbkddenfoaaGreat.Ev
namespace Go.Proofs.YtjfkhbkddenfoaaGreat.Ev
open Go Go.RowKit Go.Proofs.YtjfkhbkddenfoaaGreatW.PrintWords Go.Proofs.YtjfkhbkddenfoaaGreatW.PrintMore Go.Proofs.YtjfkhbkddenfoaaGreatW.PrintLast Go.Proofs.YtjfkhbkddenfoaaGreat Go.Proofs.YtjfkhbkddenfoaaGreat.Nt Go.Proofs.YtjfkhbkddenfoaaGreat.Zi
section
abbrev N3:=Bool×List Int×List Int
def N3.c (r:N3):List AC:=[.v (.bool r.1),limbs r.2.1,limbs r.2.2]
structure N3.ok (r:N3):Prop where
 n:few 2000 r.2.1
 d:few 2000 r.2.2
def N3.q (r:N3):Rat:=rv r.1 r.2.1 r.2.2
structure Vl where
 kind:Int
 num:N3
 name:ByteArray
def Vl.c (v:Vl):List AC:=[.v (.int .i64 v.kind),.v (.bool v.num.1),limbs v.num.2.1,limbs v.num.2.2,.v (.string v.name)]
structure En where
 time:N3
 index:Int
 outs:List Vl
def vls (l:List Vl):AC:=.row 5 l.length (l.map Vl.c)
def En.c (e:En):List AC:=[.v (.bool e.time.1),limbs e.time.2.1,limbs e.time.2.2,.v (.int .i64 e.index),vls e.outs]
structure En.ok (e:En):Prop where
 time:e.time.ok
 sh:short 600 e.time.q
 outs:∀v∈e.outs,v.num.ok
inductive Fm where
 |mk (kind out:Int) (op:ByteArray) (num:N3) (args:List Fm) (bound:Bool) (within:N3)
def Fm.kind:Fm→Int|.mk k _ _ _ _ _ _=>k
def Fm.out:Fm→Int|.mk _ o _ _ _ _ _=>o
def Fm.op:Fm→ByteArray|.mk _ _ p _ _ _ _=>p
def Fm.num:Fm→N3|.mk _ _ _ n _ _ _=>n
def Fm.args:Fm→List Fm|.mk _ _ _ _ a _ _=>a
def Fm.bound:Fm→Bool|.mk _ _ _ _ _ b _=>b
def Fm.within:Fm→N3|.mk _ _ _ _ _ _ w=>w
mutual
def Fm.c:Fm→List AC
 | .mk k o p n a b w=>[.v (.int .i64 k),.v (.int .i64 o),.v (.string p),.v (.bool n.1),limbs n.2.1,limbs n.2.2,.row 11 a.length (fcs a),.v (.bool b),.v (.bool w.1),limbs w.2.1,limbs w.2.2]
def fcs:List Fm→List (List AC)
 |[]=>[]
 |f::r=>f.c::fcs r
end
theorem fcs_map:∀l:List Fm,fcs l=l.map Fm.c
 |[]=>rfl
 |f::r=>by rw[fcs,fcs_map r];rfl
theorem fcs_at {l:List Fm} {i:Nat} (h:i<l.length):(0:Int)≤(i:Int)∧(fcs l)[(i:Int).toNat]?=some l[i].c:=⟨by omega,by rw[fcs_map];simp[h]⟩
theorem vls_at {l:List Vl} {i:Nat} (h:i<l.length):(0:Int)≤(i:Int)∧(l.map Vl.c)[(i:Int).toNat]?=some l[i].c:=⟨by omega,by simp[h]⟩
structure Fm.own (f:Fm):Prop where
 num:f.num.ok
 within:f.within.ok
theorem is_n {r:N3} (h:r.ok):Is (.agg r.c) r.q:=⟨_,_,_,rfl,h.n,h.d,rfl⟩
def compareF (op:ByteArray) (a b:Rat):Bool :=
 bif op.toList==[60] then decide (cmpR a b<0) else bif op.toList==[60,61] then decide (cmpR a b≤0) else bif op.toList==[62] then decide (cmpR a b>0) else bif op.toList==[62,61] then decide (cmpR a b≥0) else bif op.toList==[61,61] then cmpR a b==0 else cmpR a b != 0
theorem compare_con (op:ByteArray) (a b:N3) (ha:a.ok) (hb:b.ok):Con Tryz.prog 81 [.one (.v (.string op)),.agg a.c,.agg b.c] (.g (truth (compareF op a.q b.q))):=by
 have K:=gCmp (is_n ha) (is_n hb);unfold compareF;rcases bc (op.toList==[60]) with h1|h1
 ·rw[h1,cond_true]
  exact byU _ Tryz.func81 rfl [gives K,ends h1] (by kernel_rfl)
 rcases bc (op.toList==[60,61]) with h2|h2
 ·rw[h1,h2,cond_false,cond_true]
  exact byU _ Tryz.func81 rfl [gives K,ends h1,ends h2] (by kernel_rfl)
 rcases bc (op.toList==[62]) with h3|h3
 ·rw[h1,h2,h3,cond_false,cond_false,cond_true]
  exact byU _ Tryz.func81 rfl [gives K,ends h1,ends h2,ends h3] (by kernel_rfl)
 rcases bc (op.toList==[62,61]) with h4|h4
 ·rw[h1,h2,h3,h4,cond_false,cond_false,cond_false,cond_true]
  exact byU _ Tryz.func81 rfl [gives K,ends h1,ends h2,ends h3,ends h4] (by kernel_rfl)
 rcases bc (op.toList==[61,61]) with h5|h5
 ·rw[h1,h2,h3,h4,h5,cond_false,cond_false,cond_false,cond_false,cond_true]
  exact byU _ Tryz.func81 rfl [gives K,ends h1,ends h2,ends h3,ends h4,ends h5] (by kernel_rfl)
 ·rw[h1,h2,h3,h4,h5,cond_false,cond_false,cond_false,cond_false,cond_false]
  exact byU _ Tryz.func81 rfl [gives K,ends h1,ends h2,ends h3,ends h4,ends h5] (by kernel_rfl)
def recC:Option N3→List AC
 |none=>[.v (.bool false),.row 1 0 [],.row 1 0 [],.v (.bool false)]
 |some r=>[.v (.bool r.1),limbs r.2.1,limbs r.2.2,.v (.bool true)]
def countsF (f:Fm) (last:Option N3) (now:N3):Bool:=match last with
 |none=>false
 |some r=>!f.bound||decide (cmpR (now.q-r.q) f.within.q≤0)
theorem counts_con (f:Fm) (last:Option N3) (now:N3) (hf:f.own) (hl:∀r,last=some r→r.ok∧short 600 r.q) (hn:now.ok) (hs:short 600 now.q):Con Tryz.prog 78 [.agg (recC last),.agg f.c,.agg now.c] (.g (truth (countsF f last now))):=by
 obtain⟨k,o,p,n,a,b,w⟩:=f;cases last with
 |none=>exact byU (.g (truth false)) Tryz.func78 rfl [ends (rfl:false=false)] (by kernel_rfl)
 |some r =>
  obtain⟨hr,hrs⟩:=hl r rfl;cases b with
  |false=>exact byU (.g (truth true)) Tryz.func78 rfl [ends (rfl:true=true),ends (rfl:(!false)=true)] (by kernel_rfl)
  |true =>
   have S:=gSub (is_n hn) (is_n hr);have K:=gCmp (is_ra (short_sub hs hrs) (by decide)) (is_n hf.within);exact byU (.g (truth (decide (cmpR (now.q-r.q) w.q≤0)))) Tryz.func78 rfl [ends (rfl:true=true),ends (rfl:(!true)=false),gives S,gives K] (by kernel_rfl)
def atomG (k o:Int) (p:ByteArray) (n:N3) (e:En):Bool :=
 bif decide (o<0)||decide (o≥(e.outs.length:Int)) then false else match e.outs[o.toNat]? with
  |none=>false
  |some v=>bif k==1 then v.kind==1&&sgn v.num.q.num != 0 else bif k==2 then v.kind==2&&compareF p v.num.q n.q else v.kind==3&&v.name.toList==p.toList
def atomF (f:Fm) (e:En):Bool:=atomG f.kind f.out f.op f.num e
theorem atom_con (f:Fm) (e:En) (hf:f.own) (he:e.ok):ConH Tryz.prog 80 [.agg e.c,.one (.ptr 0 0)] [some (true,f.c)] (.g (truth (atomF f e))) [some (true,f.c)]:=by
 obtain⟨k,o,p,n,a,b,w⟩:=f;show ConH Tryz.prog 80 _ _ (.g (truth (atomG k o p n e))) _
 unfold atomG;rcases bc (decide (o<0)) with h1|h1
 ·rw[h1,Bool.true_or,cond_true]
  exact byUH (.g (truth false)) _ Tryz.func80 rfl [ends h1,ends (rfl:true=true),fact (p:=∀cs∈([]:List (List AC)),Plain cs) none_] (by kernel_rfl)
 rcases bc (decide (o≥(e.outs.length:Int))) with h2|h2
 ·rw[h1,h2,Bool.false_or,cond_true]
  exact byUH (.g (truth false)) _ Tryz.func80 rfl [ends h1,ends h2,fact (p:=∀cs∈([]:List (List AC)),Plain cs) none_] (by kernel_rfl)
 ·rw[h1,h2,Bool.false_or,cond_false]
  have hlt:o.toNat<e.outs.length:=by
   have a1:=of_decide_eq_false h1;have a2:=of_decide_eq_false h2;omega
  have hel:0≤o∧(e.outs.map Vl.c)[o.toNat]?=some e.outs[o.toNat].c:=⟨by have:=of_decide_eq_false h1;omega,by simp[hlt]⟩;rw[List.getElem?_eq_getElem hlt];have hv:=he.outs _ (List.getElem_mem hlt);generalize e.outs[o.toNat]=v at *;simp only;rcases bc (k==1) with h3|h3
  ·rw[h3,cond_true]
   rcases bc (v.kind==1) with h4|h4
   ·rw[h4,Bool.true_and]
    exact byUH (.g (truth (sgn v.num.q.num != 0))) _ Tryz.func80 rfl [ends h1,ends h2,elem hel,ends h3,ends h4,gives (gSign (is_n hv)),fact (p:=∀cs∈([]:List (List AC)),Plain cs) none_] (by kernel_rfl)
   ·rw[h4,Bool.false_and]
    exact byUH (.g (truth false)) _ Tryz.func80 rfl [ends h1,ends h2,elem hel,ends h3,ends h4,fact (p:=∀cs∈([]:List (List AC)),Plain cs) none_] (by kernel_rfl)
  ·rw[h3,cond_false]
   rcases bc (k==2) with h5|h5
   ·rw[h5,cond_true]
    rcases bc (v.kind==2) with h4|h4
    ·rw[h4,Bool.true_and]
     exact byUH (.g (truth (compareF p v.num.q n.q))) _ Tryz.func80 rfl [ends h1,ends h2,elem hel,ends h3,ends h5,ends h4,gives (compare_con p v.num n hv hf.num),fact (p:=∀cs∈([]:List (List AC)),Plain cs) none_] (by kernel_rfl)
    ·rw[h4,Bool.false_and]
     exact byUH (.g (truth false)) _ Tryz.func80 rfl [ends h1,ends h2,elem hel,ends h3,ends h5,ends h4,fact (p:=∀cs∈([]:List (List AC)),Plain cs) none_] (by kernel_rfl)
   ·rw[h5,cond_false]
    rcases bc (v.kind==3) with h4|h4
    ·rw[h4,Bool.true_and]
     exact byUH (.g (truth (v.name.toList==p.toList))) _ Tryz.func80 rfl [ends h1,ends h2,elem hel,ends h3,ends h5,ends h4,fact (p:=∀cs∈([]:List (List AC)),Plain cs) none_] (by kernel_rfl)
    ·rw[h4,Bool.false_and]
     exact byUH (.g (truth false)) _ Tryz.func80 rfl [ends h1,ends h2,elem hel,ends h3,ends h5,ends h4,fact (p:=∀cs∈([]:List (List AC)),Plain cs) none_] (by kernel_rfl)
end
end Go.Proofs.YtjfkhbkddenfoaaGreat.Ev
namespace Go.Proofs.YtjfkhbkddenfoaaGreat.Ev
open Go Go.RowKit Go.Proofs.YtjfkhbkddenfoaaGreatW.PrintWords Go.Proofs.YtjfkhbkddenfoaaGreatW.PrintLast
section
def Cel (okR:Nat→Prop) (W:World) (b:Nat) (cs:List AC):Prop:=∃(cells:Array Value) (e:Nat),W.heap[b]?=some (.cells cells e (0,0))∧TL [] okR W cs (cells.toList.take cs.length)
theorem Cel.move {okR:Nat→Prop} {W W':World} {b:Nat} {cs:List AC} (h:Cel okR W b cs) (hb:W'.heap[b]?=W.heap[b]?) (hk:∀k,okR k→k<W.heap.size→W'.heap[k]?=W.heap[k]?):Cel okR W' b cs:=by
 obtain⟨cells,e,h1,h2⟩:=h;exact⟨cells,e,hb.trans h1,h2.mv ⟨fun _ _ h=>h,hk,fun _ h _=>h,fun i b cur e hb=>by cases hb⟩⟩
theorem Cel.lt {okR:Nat→Prop} {W:World} {b:Nat} {cs:List AC} (h:Cel okR W b cs):b<W.heap.size:=by
 obtain⟨cells,e,h1,h2⟩:=h;exact (Array.getElem?_eq_some_iff.1 h1).1
theorem regs_sparse {g:List (Option Nat)} {ok:Nat→Prop} {w:World} {tm:Array Value} (n:Nat) (hn:tm.size=n) (l:List (Nat×AV)) (h:∀q∈l,∃u,tm[q.1]?=some u∧TV g ok w q.2 u):RegsOk g ok w (sparse n l) tm:=by
 have key:∀(l:List (Nat×AV)) (r:List (Option AV)),(∀q∈l,∃u,tm[q.1]?=some u∧TV g ok w q.2 u)→RegsOk g ok w r tm→RegsOk g ok w (l.foldl (fun r p=>r.set p.1 (some p.2)) r) tm:=by
  intro l
  induction l with
  |nil=>exact fun r _ h=>h
  |cons q l ih =>
   intro r hl hr;refine ih _ (fun q' hq=>hl q' (List.mem_cons_of_mem _ hq)) ⟨by rw[List.length_set];exact hr.1,fun t x hx=>?_⟩
   rw[List.getElem?_set] at hx;split at hx
   ·rename_i e
    subst e;split at hx
    ·cases hx;exact hl q List.mem_cons_self
    ·cases hx
   ·exact hr.2 t x hx
 refine key l _ h ⟨by simp[hn],fun t x hx=>?_⟩
 rw[List.getElem?_replicate] at hx;split at hx<;>cases hx
theorem Ok.make {okR:Nat→Prop} {W:World} (l:List (Nat×List AC)) (n:Nat) (rs:List (Nat×AV)) {tm:Array Value} {ds:List Deferred} (hnd:(l.map (·.1)).Nodup) (hc:∀q∈l,Cel okR W q.1 q.2) (hx:∀q∈l,¬okR q.1) (hn:tm.size=n)
  (hr:∀q∈rs,∃u,tm[q.1]?=some u∧TV (l.map fun q=>some q.1) (FP okR W.heap.size (l.map fun q=>some q.1)) W q.2 u) :
  Ok okR ⟨W,l.map fun q=>some q.1,ds⟩ (l.map fun q=>some q.1) ⟨sparse n rs,l.map fun q=>some (true,q.2),l.length⟩ ⟨tm,ds⟩ W:=by
 have hg:∀(i:Nat) b,(l.map fun q=>some q.1)[i]?=some (some b)→∃q,l[i]?=some q∧q.1=b:=fun i b h=>by
  rw[List.getElem?_map] at h;obtain⟨q,hq,e⟩:=Option.map_eq_some_iff.1 h;exact⟨q,hq,by injection e⟩
 have ho:∀(i:Nat) m cs,(l.map fun q=>(some (true,q.2):Option (Bool×List AC)))[i]?=some (some (m,cs))→m=true∧∃q,l[i]?=some q∧q.2=cs:=fun i m cs h=>by
  rw[List.getElem?_map] at h;obtain⟨q,hq,e⟩:=Option.map_eq_some_iff.1 h;injection e with e;injection e with e1 e2;exact⟨e1.symm,q,hq,e2⟩
 have hm:∀k,okR k→some k ∉ l.map fun q=>some q.1:=fun k hk hm=>by
  obtain⟨q,hq,e⟩:=List.mem_map.1 hm;injection e with e;exact hx q hq (e▸hk)
 refine⟨regs_sparse n hn rs hr,⟨by simp,fun i m cs b hi hb=>?_⟩,fun i j b hi hj _ _=>?_,fun b hb=>⟨.inr hb,?_⟩,Keep.refl _,rfl,⟨by simp,fun i hi=>?_⟩,fun i b m cs _ _ hi=>(ho i m cs hi).1,fun i m c cs hi=>?_⟩
 ·obtain⟨q,hq,rfl⟩:=hg i b hb
  obtain⟨_,q',hq',rfl⟩:=ho i m cs hi;rw[hq] at hq';cases hq';obtain⟨cells,e,h1,h2⟩:=hc q (List.mem_of_getElem? hq);exact⟨cells,e,h1,h2.mv ⟨fun i b hb=>(by cases hb),fun _ _ _=>rfl,fun k hk _=>⟨.inl hk,hm k hk⟩,fun i b cur e hb=>by cases hb⟩⟩
 ·obtain⟨q,hq,rfl⟩:=hg i b hi
  obtain⟨q',hq',e⟩:=hg j _ hj;have h1:(l.map (·.1))[i]?=some q.1:=by rw[List.getElem?_map,hq];rfl
  have h2:(l.map (·.1))[j]?=some q.1:=by rw[List.getElem?_map,hq',Option.map_some,e]
  exact (List.getElem?_inj (List.getElem?_eq_some_iff.1 h1).1 hnd).1 (h1.trans h2.symm)
 ·obtain⟨q,hq,e⟩:=List.mem_map.1 hb
  injection e with e;subst e;exact (hc q hq).lt
 ·obtain⟨q,hq⟩:∃q,l[i]?=some q:=⟨l[i],List.getElem?_eq_getElem hi⟩
  exact⟨some q.1,by rw[List.getElem?_map,hq];rfl,by rw[List.getElem?_map,hq];rfl⟩
 ·obtain⟨_,q,hq,_⟩:=ho i m (c::cs) hi
  exact⟨q.1,by rw[List.getElem?_map,hq];rfl⟩
theorem Ok.cel {okA okR:Nat→Prop} {W0:Base} {g:List (Option Nat)} {s:St} {a:Act} {W:World} (h:Ok okA W0 g s a W) {i b:Nat} {m:Bool} {cs:List AC} (hi:i<s.fix) (hb:W0.h[i]?=some (some b)) (ho:s.own[i]?=some (some (m,cs))) (hp:Plain cs) (hf:∀k,FP okA W0.heap.size g k→k<W.heap.size→okR k):Cel okR W b cs:=by
 obtain⟨x,h1,h2⟩:=h.fixd.2 i hi;rw[hb] at h2;cases h2;obtain⟨cells,e,h3,h4⟩:=h.own.2 i m cs b ho h1;exact⟨cells,e,h3,h4.plain hf hp⟩
theorem Ok.reg {okA:Nat→Prop} {W0:Base} {g:List (Option Nat)} {s:St} {a:Act} {W:World} (h:Ok okA W0 g s a W) {t:Nat} {x:AV} (hx:s.regs[t]?=some (some x)):TV g (FP okA W0.heap.size g) W x (a.eval (.tmp t)):=by
 obtain⟨u,hu,hT⟩:=h.regs.2 t x hx;have:a.eval (.tmp t)=u:=by
  show a.tmps.getD t undef=u
  rw[Array.getD_eq_getD_getElem?,hu];rfl
 rw[this];exact hT
theorem Ok.truth_at {okA:Nat→Prop} {W0:Base} {g:List (Option Nat)} {s:St} {a:Act} {W:World} (h:Ok okA W0 g s a W) {t:Nat} {b:Bool} (hx:s.regs[t]?=some (some (.g (.one (.v (.bool b)))))):a.eval (.tmp t)=.bool b:=TC.v_eq (g:=g) (ok:=FP okA W0.heap.size g) (w:=W) (h.reg hx)
end
end Go.Proofs.YtjfkhbkddenfoaaGreat.Ev
namespace Go.Proofs.YtjfkhbkddenfoaaGreat.Ev
open Go Go.RowKit Go.Proofs.YtjfkhbkddenfoaaGreatW.PrintWords Go.Proofs.YtjfkhbkddenfoaaGreatW.PrintMore Go.Proofs.YtjfkhbkddenfoaaGreatW.PrintLast Go.Proofs.YtjfkhbkddenfoaaGreat Go.Proofs.YtjfkhbkddenfoaaGreat.Nt Go.Proofs.YtjfkhbkddenfoaaGreat.Zi
section
def out0 {P:Program}:Prf P:=fact (p:=∀cs∈([]:List (List AC)),Plain cs) none_
theorem mk_not (u:Value):ConH Tryz.prog 49 [.one (.v u)] [] (.g (.one (.fn 74 [] [.ptr 0 0]))) [some (false,[.v u])]:=byUH _ _ Tryz.func49 rfl [out0] (by kernel_rfl)
theorem mk_both (u v p:Value):ConH Tryz.prog 50 [.one (.v u),.one (.v v),.one (.v p)] [] (.g (.one (.fn 75 [] [.ptr 0 0,.ptr 1 0,.ptr 2 0]))) [some (false,[.v u]),some (false,[.v v]),some (false,[.v p])]:=byUH _ _ Tryz.func50 rfl [out0] (by kernel_rfl)
theorem mk_prev (u:Value):ConH Tryz.prog 53 [.one (.v u)] [] (.g (.one (.fn 76 [] [.ptr 1 0,.ptr 0 0]))) [some (false,[.v u]),some (false,[.v (.bool false)])]:=byUH _ _ Tryz.func53 rfl [out0] (by kernel_rfl)
theorem mk_once (f:Fm) (u:Value):ConH Tryz.prog 54 [.agg f.c,.one (.v u)] [] (.g (.one (.fn 77 [] [.ptr 1 0,.ptr 2 0,.ptr 0 0]))) [some (false,f.c),some (false,[.v u]),some (false,recC none)]:=by
 obtain⟨k,o,p,n,a,b,w⟩:=f;exact byUH _ _ Tryz.func54 rfl [out0] (by kernel_rfl)
theorem mk_since (f:Fm) (u v:Value):ConH Tryz.prog 55 [.agg f.c,.one (.v u),.one (.v v)] [] (.g (.one (.fn 79 [] [.ptr 1 0,.ptr 2 0,.ptr 3 0,.ptr 0 0]))) [some (false,f.c),some (false,[.v u]),some (false,[.v v]),some (false,recC none)]:=by
 obtain⟨k,o,p,n,a,b,w⟩:=f;exact byUH _ _ Tryz.func55 rfl [out0] (by kernel_rfl)
theorem mk_atom (f:Fm):ConH Tryz.prog 56 [.agg f.c] [] (.g (.one (.fn 80 [] [.ptr 0 0]))) [some (false,f.c)]:=by
 obtain⟨k,o,p,n,a,b,w⟩:=f;exact byUH _ _ Tryz.func56 rfl [out0] (by kernel_rfl)
theorem and_con (x y:Bool):Con Tryz.prog 51 [truth x,truth y] (.g (truth (x&&y))):=by
 cases x with
 |true=>exact byU (.g (truth y)) Tryz.func51 rfl [ends (rfl:true=true)] (by kernel_rfl)
 |false=>exact byU (.g (truth false)) Tryz.func51 rfl [ends (rfl:false=false)] (by kernel_rfl)
theorem or_con (x y:Bool):Con Tryz.prog 52 [truth x,truth y] (.g (truth (x||y))):=by
 cases x with
 |true=>exact byU (.g (truth true)) Tryz.func52 rfl [ends (rfl:true=true)] (by kernel_rfl)
 |false=>exact byU (.g (truth y)) Tryz.func52 rfl [ends (rfl:false=false)] (by kernel_rfl)
end
section
inductive Wt where
 |atom (f:Fm)
 |not (a:Wt)
 |both (an:Bool) (a c:Wt)
 |prev (h:Bool) (a:Wt)
 |once (f:Fm) (l:Option N3) (a:Wt)
 |since (f:Fm) (l:Option N3) (a c:Wt)
def Wt.run:Wt→En→Bool×Wt
 | .atom f,e=>(atomF f e,.atom f)
 | .not a,e=>(!(a.run e).1,.not (a.run e).2)
 | .both an a c,e=>(bif an then (a.run e).1&&(c.run e).1 else (a.run e).1||(c.run e).1,.both an (a.run e).2 (c.run e).2)
 | .prev h a,e=>(h,.prev (a.run e).1 (a.run e).2)
 | .once f l a,e=>(countsF f (bif (a.run e).1 then some e.time else l) e.time,.once f (bif (a.run e).1 then some e.time else l) (a.run e).2)
 | .since f l a c,e=>(countsF f (bif (c.run e).1 then some e.time else bif (a.run e).1 then l else none) e.time,.since f (bif (c.run e).1 then some e.time else bif (a.run e).1 then l else none) (a.run e).2 (c.run e).2)
def lastOk (l:Option N3):Prop:=∀r,l=some r→r.ok∧short 600 r.q
def Wt.ok:Wt→Prop
 | .atom f=>f.own
 | .not a=>a.ok
 | .both _ a c=>a.ok∧c.ok
 | .prev _ a=>a.ok
 | .once f l a=>f.own∧lastOk l∧a.ok
 | .since f l a c=>f.own∧lastOk l∧a.ok∧c.ok
theorem last_some {e:En} (he:e.ok):lastOk (some e.time):=fun r h=>by cases h;exact⟨he.time,he.sh⟩
theorem last_none:lastOk none:=fun r h=>by cases h
theorem once_ok {l:Option N3} (hl:lastOk l) {e:En} (he:e.ok) (b:Bool):lastOk (bif b then some e.time else l):=by
 cases b with
 |true=>exact last_some he
 |false=>exact hl
theorem since_ok {l:Option N3} (hl:lastOk l) {e:En} (he:e.ok) (b d:Bool):lastOk (bif b then some e.time else bif d then l else none):=by
 cases b with
 |true=>exact last_some he
 |false=>cases d with
  |true=>exact hl
  |false=>exact last_none
theorem run_ok {e:En} (he:e.ok):∀x:Wt,x.ok→(x.run e).2.ok
 | .atom f,h=>h
 | .not a,h=>run_ok he a h
 | .both _ a c,h=>⟨run_ok he a h.1,run_ok he c h.2⟩
 | .prev _ a,h=>run_ok he a h
 | .once f l a,h=>⟨h.1,once_ok h.2.1 he _,run_ok he a h.2.2⟩
 | .since f l a c,h=>⟨h.1,since_ok h.2.1 he _ _,run_ok he a h.2.2.1,run_ok he c h.2.2.2⟩
def pt (b:Nat):Value:=.pointer (some ⟨b,0,none⟩)
def Has (R:Nat→Prop) (W:World):Wt→Value→List Nat→Prop
 | .atom f,u,bs=>∃b,bs=[b]∧u=.func (.func 80) #[] #[pt b]∧Cel R W b f.c
 | .not a,u,bs=>∃b ua l,bs=b::l∧u=.func (.func 74) #[] #[pt b]∧Cel R W b [.v ua]∧Has R W a ua l
 | .both an a c,u,bs=>∃b1 b2 b3 ua uc l m,bs=b1::b2::b3::(l++m)∧u=.func (.func 75) #[] #[pt b1,pt b2,pt b3]∧Cel R W b1 [.v ua]∧Cel R W b2 [.v uc]∧Cel R W b3 [.v (.func (.func (bif an then 51 else 52)) #[] #[])]∧Has R W a ua l∧Has R W c uc m
 | .prev h a,u,bs=>∃b1 b2 ua l,bs=b1::b2::l∧u=.func (.func 76) #[] #[pt b2,pt b1]∧Cel R W b1 [.v ua]∧Cel R W b2 [.v (.bool h)]∧Has R W a ua l
 | .once f la a,u,bs=>∃b1 b2 b3 ua l,bs=b1::b2::b3::l∧u=.func (.func 77) #[] #[pt b2,pt b3,pt b1]∧Cel R W b1 f.c∧Cel R W b2 [.v ua]∧Cel R W b3 (recC la)∧Has R W a ua l
 | .since f la a c,u,bs=>∃b1 b2 b3 b4 ua uc l m,bs=b1::b2::b3::b4::(l++m)∧u=.func (.func 79) #[] #[pt b2,pt b3,pt b4,pt b1]∧Cel R W b1 f.c∧Cel R W b2 [.v ua]∧Cel R W b3 [.v uc]∧Cel R W b4 (recC la)∧Has R W a ua l∧Has R W c uc m
theorem Has.one {R:Nat→Prop} {W:World} {x:Wt} {u:Value} {bs:List Nat} (h:Has R W x u bs):u.oneCell'=true:=by
 cases x with
 |atom f=>obtain⟨b,_,rfl,_⟩:=h;rfl
 |not a=>obtain⟨b,ua,l,_,rfl,_⟩:=h;rfl
 |both an a c=>obtain⟨b1,b2,b3,ua,uc,l,m,_,rfl,_⟩:=h;rfl
 |prev hh a=>obtain⟨b1,b2,ua,l,_,rfl,_⟩:=h;rfl
 |once f la a=>obtain⟨b1,b2,b3,ua,l,_,rfl,_⟩:=h;rfl
 |since f la a c=>obtain⟨b1,b2,b3,b4,ua,uc,l,m,_,rfl,_⟩:=h;rfl
theorem Has.lt {R:Nat→Prop} {W:World}:∀{x:Wt} {u:Value} {bs:List Nat},Has R W x u bs→∀b∈bs,b<W.heap.size
 | .atom f,u,bs,h,b,hb=>by
   obtain⟨b',rfl,_,hc⟩:=h;rw[List.mem_singleton.1 hb];exact hc.lt
 | .not a,u,bs,h,b,hb=>by
   obtain⟨b1,ua,l,rfl,_,hc,ha⟩:=h;rcases List.mem_cons.1 hb with rfl|hb
   ·exact hc.lt
   ·exact ha.lt b hb
 | .both an a c,u,bs,h,b,hb=>by
   obtain⟨b1,b2,b3,ua,uc,l,m,rfl,_,h1,h2,h3,ha,hc⟩:=h;simp only[List.mem_cons,List.mem_append] at hb;rcases hb with rfl|rfl|rfl|hb|hb
   ·exact h1.lt
   ·exact h2.lt
   ·exact h3.lt
   ·exact ha.lt b hb
   ·exact hc.lt b hb
 | .prev hh a,u,bs,h,b,hb=>by
   obtain⟨b1,b2,ua,l,rfl,_,h1,h2,ha⟩:=h;simp only[List.mem_cons] at hb;rcases hb with rfl|rfl|hb
   ·exact h1.lt
   ·exact h2.lt
   ·exact ha.lt b hb
 | .once f la a,u,bs,h,b,hb=>by
   obtain⟨b1,b2,b3,ua,l,rfl,_,h1,h2,h3,ha⟩:=h;simp only[List.mem_cons] at hb;rcases hb with rfl|rfl|rfl|hb
   ·exact h1.lt
   ·exact h2.lt
   ·exact h3.lt
   ·exact ha.lt b hb
 | .since f la a c,u,bs,h,b,hb=>by
   obtain⟨b1,b2,b3,b4,ua,uc,l,m,rfl,_,h1,h2,h3,h4,ha,hc⟩:=h;simp only[List.mem_cons,List.mem_append] at hb;rcases hb with rfl|rfl|rfl|rfl|hb|hb
   ·exact h1.lt
   ·exact h2.lt
   ·exact h3.lt
   ·exact h4.lt
   ·exact ha.lt b hb
   ·exact hc.lt b hb
theorem Has.move {R:Nat→Prop} {W W':World} (hk:∀k,R k→k<W.heap.size→W'.heap[k]?=W.heap[k]?):∀{x:Wt} {u:Value} {bs:List Nat},Has R W x u bs→(∀b∈bs,W'.heap[b]?=W.heap[b]?)→Has R W' x u bs
 | .atom f,u,bs,h,hb=>by
   obtain⟨b',rfl,hu,hc⟩:=h;exact⟨b',rfl,hu,hc.move (hb _ (by simp)) hk⟩
 | .not a,u,bs,h,hb=>by
   obtain⟨b1,ua,l,rfl,hu,hc,ha⟩:=h;exact⟨b1,ua,l,rfl,hu,hc.move (hb _ (by simp)) hk,ha.move hk (fun b h=>hb b (by simp[h]))⟩
 | .both an a c,u,bs,h,hb=>by
   obtain⟨b1,b2,b3,ua,uc,l,m,rfl,hu,h1,h2,h3,ha,hc⟩:=h;exact⟨b1,b2,b3,ua,uc,l,m,rfl,hu,h1.move (hb _ (by simp)) hk,h2.move (hb _ (by simp)) hk,h3.move (hb _ (by simp)) hk,ha.move hk (fun b h=>hb b (by simp[h])),hc.move hk (fun b h=>hb b (by simp[h]))⟩
 | .prev hh a,u,bs,h,hb=>by
   obtain⟨b1,b2,ua,l,rfl,hu,h1,h2,ha⟩:=h;exact⟨b1,b2,ua,l,rfl,hu,h1.move (hb _ (by simp)) hk,h2.move (hb _ (by simp)) hk,ha.move hk (fun b h=>hb b (by simp[h]))⟩
 | .once f la a,u,bs,h,hb=>by
   obtain⟨b1,b2,b3,ua,l,rfl,hu,h1,h2,h3,ha⟩:=h;exact⟨b1,b2,b3,ua,l,rfl,hu,h1.move (hb _ (by simp)) hk,h2.move (hb _ (by simp)) hk,h3.move (hb _ (by simp)) hk,ha.move hk (fun b h=>hb b (by simp[h]))⟩
 | .since f la a c,u,bs,h,hb=>by
   obtain⟨b1,b2,b3,b4,ua,uc,l,m,rfl,hu,h1,h2,h3,h4,ha,hc⟩:=h;exact⟨b1,b2,b3,b4,ua,uc,l,m,rfl,hu,h1.move (hb _ (by simp)) hk,h2.move (hb _ (by simp)) hk,h3.move (hb _ (by simp)) hk,h4.move (hb _ (by simp)) hk,ha.move hk (fun b h=>hb b (by simp[h])),hc.move hk (fun b h=>hb b (by simp[h]))⟩
structure Ext (W W':World) (bs:List Nat):Prop where
 os:W'.os=W.os
 tape:W'.tape=W.tape
 output:W'.output=W.output
 size:W.heap.size≤W'.heap.size
 block:∀k,k<W.heap.size→k ∉ bs→W'.heap[k]?=W.heap[k]?
theorem Ext.refl (W:World) (bs:List Nat):Ext W W bs:=⟨rfl,rfl,rfl,Nat.le_refl _,fun _ _ _=>rfl⟩
theorem Ext.trans {A B C:World} {bs:List Nat} (h:Ext A B bs) (k:Ext B C bs):Ext A C bs:=⟨k.os.trans h.os,k.tape.trans h.tape,k.output.trans h.output,Nat.le_trans h.size k.size,fun i hi hn=>(k.block i (Nat.lt_of_lt_of_le hi h.size) hn).trans (h.block i hi hn)⟩
theorem Ext.mono {A B:World} {bs cs:List Nat} (h:Ext A B bs) (hs:∀b∈bs,b∈cs):Ext A B cs:=⟨h.os,h.tape,h.output,h.size,fun i hi hn=>h.block i hi (fun hm=>hn (hs i hm))⟩
theorem Ext.keep {W W':World} {h:List (Option Nat)} {ds:List Deferred} {bs:List Nat} (k:Keep ⟨W,h,ds⟩ W') (hs:∀b,some b∈h→b∈bs):Ext W W' bs:=⟨k.os,k.tape,k.output,k.size,fun i hi hn=>k.block i hi (fun hx=>hn (hs i hx))⟩
theorem Ext.drew {W:World} {bs:List Nat}:Ext W W.drew bs:=⟨rfl,rfl,rfl,Nat.le_refl _,fun _ _ _=>rfl⟩
section
variable {P:Program} {R:Nat→Prop}
def Acts (P:Program) (R:Nat→Prop) (x:Wt):Prop:=∀(W:World) (u:Value) (bs:List Nat) (e:En) (v:Value),Has R W x u bs→bs.Nodup→(∀b∈bs,¬R b)→(∀k,W.heap.size≤k→R k)→e.ok→TG [] R W (.agg e.c) v →
 ∃fn ca,u=.func (.func fn) #[] ca∧(∀W,(callFunc fn (#[v]++ca)).run P W=.ok (.enter fn (#[v]++ca)) W)∧Calls P fn (#[v]++ca) W fun r W'=>r=.returned (.bool (x.run e).1)∧Has R W' (x.run e).2 u bs∧Ext W W' bs
theorem run_callFn {ρ:Operand→Value} {o:Oper} {x y:Operand} {ts:Array TypeId} {fn:FuncId} {ca:Array Value} {W:World} (ho:o.op=.call { callee:=.value x,args:=#[y],argTypes:=ts }) (hx:ρ x=.func (.func fn) #[] ca):(execOp ρ o).run P W=(callFunc fn (#[ρ y]++ca)).run P W:=by
 simp[execOp,ho,resolve,hx,Deferred.ofValue,invoke,go_sem]
theorem obj_op {x:Wt} (hA:Acts P R x) {o:Oper} {a:Act} {W:World} {K:Act→World→Prop} {Q:Exit→Act→World→Prop} {cx y:Operand} {ts:Array TypeId} {u:Value} {bs:List Nat} {e:En} (ho:o.op=.call { callee:=.value cx,args:=#[y],argTypes:=ts }) (hx:a.eval cx=u)
  (h1:Has R W x u bs) (h2:bs.Nodup) (h3:∀b∈bs,¬R b) (h4:∀k,W.heap.size≤k→R k) (he:e.ok) (hv:TG [] R W (.agg e.c) (a.eval y))
  (hK:∀W',Has R W' (x.run e).2 u bs→Ext W W' bs→K (a.put o.dst (.bool (x.run e).1)) W'):o.wp P a W K Q:=by
 obtain⟨fn,ca,hu,henter,hcall⟩:=hA W u bs e _ h1 h2 h3 h4 he hv;unfold Oper.wp;have hrun:(execOp a.eval o).run P W=(callFunc fn (#[a.eval y]++ca)).run P W:=run_callFn ho (hx.trans hu);rw[hrun,henter,Oper.upon_enter];refine hcall.mono ?_
 rintro r W' ⟨rfl,h5,h6⟩
 exact hK W' h5 h6
theorem list_seq {ops:Array Oper} {Q Q':Exit→Act→World→Prop} {ys:List Oper} (hQ:∀e a w,Q e a w→e=.normal):∀{xs:List Oper} {a:Act} {w:World},wpList P ops Q xs a w→(∀a w,Q .normal a w→wpList P ops Q' ys a w)→wpList P ops Q' (xs++ys) a w
 |[],a,w,h,hK=>hK _ _ h
 |o::r,a,w,h,hK=>by
  rw[List.cons_append];unfold wpList at h ⊢;split at h
  ·rename_i hw
   rw[if_pos hw];rcases h with h|⟨_,a,w,h⟩
   ·refine .inl ?_
    unfold Oper.wp at h ⊢;generalize (execOp a.eval o).run P w=x at h ⊢;unfold Oper.upon at h ⊢;split at h
    ·exact list_seq hQ h hK
    ·exact list_seq hQ h hK
    ·exact list_seq hQ h hK
    ·refine h.mono (fun e w' he=>?_)
     cases e with
     |returned v=>exact list_seq hQ he hK
     |panicked c=>exact absurd (hQ _ _ _ he) (by intro h;cases h)
     |outgrown=>obtain⟨a,w,he⟩:=he;exact absurd (hQ _ _ _ he) (by intro h;cases h)
    ·exact h.mono (fun v w' he=>list_seq hQ he hK)
    ·exact absurd (hQ _ _ _ h) (by intro h;cases h)
    ·exact h.elim
   ·exact absurd (hQ _ _ _ h) (by intro h;cases h)
  ·rename_i hw
   rw[if_neg hw];exact list_seq hQ h hK
theorem Ok.after {W0 W W':World} {h g:List (Option Nat)} {ds:List Deferred} {s:St} {a:Act} {l:List Nat} (hok:Ok R ⟨W0,h,ds⟩ g s a W) (hnew:∀k,W0.heap.size≤k→R k) (hl:∀b∈l,¬R b) (hl0:∀b∈l,b<W0.heap.size) (hdis:∀b,some b∈h→b ∉ l) (ext:Ext W W' l) :
  Ok R ⟨W',g,ds⟩ g ⟨s.regs,flags s.own,g.length⟩ a W':=by
 have hgl:∀(i:Nat) b,g[i]?=some (some b)→b ∉ l:=fun i b hb hm=>by
  rcases (hok.base b (List.mem_of_getElem? hb)).1 with h1|h1
  ·have h1:W0.heap.size≤b:=h1
   have:=hl0 b hm;omega
  ·exact hdis b h1 hm
 have hR:∀k,FP R W0.heap.size g k→R k:=fun k hk=>hk.1.elim id (hnew k)
 exact hok.rebase rfl hok.defers ext.size (fun k hk hlt=>⟨ext.block k hlt (fun hm=>hl k hm (hR k hk)),hR k hk⟩)
  (fun i b cur e hg hw=>⟨cur,(ext.block b (Array.getElem?_eq_some_iff.1 hw).1 (hgl i b hg)).trans hw,rfl⟩)
  (fun i b m cs hg hi=>by
    have:=(hok.base b (List.mem_of_getElem? hg)).2;exact ext.block b this (hgl i b hg))
theorem obj_list {x:Wt} (hA:Acts P R x) {ops:Array Oper} {o:Oper} {rest:List Oper} {W0 W:World} {h g:List (Option Nat)} {ds:List Deferred} {s:St} {a:Act} {Q:Exit→Act→World→Prop} {cx y d:Nat} {ts:Array TypeId} {u:Value} {l:List Nat} {e:En} (hok:Ok R ⟨W0,h,ds⟩ g s a W) (hnew:∀k,W0.heap.size≤k→R k)
  (hg:o.guard=none) (hd:o.dst=some d) (ho:o.op=.call { callee:=.value (.tmp cx),args:=#[.tmp y],argTypes:=ts }) (hx:s.regs[cx]?=some (some (.g (.one (.v u))))) (hy:s.regs[y]?=some (some (.g (.agg e.c))))
  (h1:Has R W x u l) (h2:l.Nodup) (h3:∀b∈l,¬R b) (hl0:∀b∈l,b<W0.heap.size) (hdis:∀b,some b∈h→b ∉ l) (he:e.ok)
  (hK:∀W',Ok R ⟨W',g,ds⟩ g ((⟨s.regs,flags s.own,g.length⟩:St).put (some d) (some (.g (truth (x.run e).1)))) (a.put (some d) (.bool (x.run e).1)) W'→Has R W' (x.run e).2 u l→Ext W W' l→wpList P ops Q rest (a.put (some d) (.bool (x.run e).1)) W'):wpList P ops Q (o::rest) a W:=by
 have hR:∀k,FP R W0.heap.size g k→R k:=fun k hk=>hk.1.elim id (hnew k)
 have hu:a.eval (.tmp cx)=u:=TC.v_eq (g:=g) (ok:=FP R W0.heap.size g) (w:=W) (hok.reg hx);have hv:TG [] R W (.agg e.c) (a.eval (.tmp y)):=by
  have h5:TG g (FP R W0.heap.size g) W (.agg e.c) _:=hok.reg hy;exact (h5.noptr rfl).mv ⟨fun _ _ h=>h,fun _ _ _=>rfl,fun k hk _=>hR k hk,fun i b cur e hb=>by cases hb⟩
 refine wpList_step fun N hN=>?_
 rw[if_pos (by unfold Region.wanted;rw[hg])];refine obj_op hA ho hu h1 h2 h3 (fun k hk=>hnew k (Nat.le_trans hok.below.size hk)) he hv (fun W' h5 h6=>?_)
 rw[hd];refine hN _ _ (hK W' ((hok.after hnew h3 hl0 hdis h6).val (fun v hv=>?_)) h5 h6)
 cases hv;exact TC.of_v (g:=g) (ok:=FP R W'.heap.size g) (w:=W') rfl
end
end
section
def opsR:Code→Array Oper
 | .region _ ops _=>ops
 |_=>#[]
section
variable {P:Program} {R:Nat→Prop} {W0:World} {h:List (Option Nat)} {g:List (Option Nat)} {s:St} {a:Act} {W:World}
theorem Ok.name (hok:Ok R ⟨W0,h,[]⟩ g s a W) {i:Nat} (hi:i<s.fix):g[i]?=h[i]?:=by
 obtain⟨x,h1,h2⟩:=hok.fixd.2 i hi;exact h1.trans h2.symm
theorem end_at {L:Lays} (hL:LaysOk P L) {fn:Func} {b:Bool} (hok:Ok R ⟨W0,h,[]⟩ g s a W) (hr:resV L s fn=some (.g (truth b))) {Rr:Ending→World→Prop} (hR:Rr (.returned (.bool b)) W):bodyPost P fn Rr .ret a W:=by
 obtain⟨u,hu,hT⟩:=resV_at hL hok hr;have:=TC.v_eq (g:=g) (ok:=FP R W0.heap.size g) (w:=W) hT;subst this;exact⟨hok.defers,_,hu,hR⟩
theorem Ok.cel' (hok:Ok R ⟨W0,h,[]⟩ g s a W) (hnew:∀k,W0.heap.size≤k→R k) {i b:Nat} {m:Bool} {cs:List AC} (hi:i<s.fix) (hb:h[i]?=some (some b)) (ho:s.own[i]?=some (some (m,cs))) (hp:Plain cs):Cel R W b cs :=
 hok.cel hi hb ho hp (fun k hk _=>hk.1.elim id (hnew k))
end
theorem start_at {R:Nat→Prop} {W:World} {e:En} {v:Value} (n:Nat) (l:List (Nat×List AC)) (ps:List Nat) (ca:Array Value) (hca:ca=(ps.map fun i=>pt ((l.map (·.1)).getD i 0)).toArray) (hps:(ps.all fun i=>Nat.blt i l.length)=true) (hn:ps.length+1≤n) (hnd:(l.map (·.1)).Nodup) (hc:∀q∈l,Cel R W q.1 q.2) (hx:∀q∈l,¬R q.1) (hv:TG [] R W (.agg e.c) v) :
  Ok R ⟨W,l.map fun q=>some q.1,[]⟩ (l.map fun q=>some q.1) ⟨sparse n ((0,.g (.agg e.c))::ps.mapIdx fun j i=>(j+1,.g (.one (.ptr i 0)))),l.map fun q=>some (true,q.2),l.length⟩ ⟨(#[v]++ca)++Array.replicate (n-(#[v]++ca).size) undef,[]⟩ W:=by
 have hm:∀k,R k→some k ∉ l.map fun q=>some q.1:=fun k hk hm=>by
  obtain⟨q,hq,e⟩:=List.mem_map.1 hm;injection e with e;exact hx q hq (e▸hk)
 have hcs:ca.size=ps.length:=by rw[hca];simp
 refine Ok.make l n _ hnd hc hx (by simp[hcs];omega) (fun q hq=>?_)
 rcases List.mem_cons.1 hq with rfl|hq
 ·refine⟨v,by rw[Array.getElem?_append_left (by simp;omega),Array.getElem?_append_left (by simp)];rfl,?_⟩
  exact TG.mv ⟨fun i b hb=>(by cases hb),fun _ _ _=>rfl,fun k hk _=>⟨.inl hk,hm k hk⟩,fun i b cur e hb=>by cases hb⟩ hv
 ·obtain⟨j,hj,rfl⟩:=List.mem_mapIdx.1 hq
  refine⟨pt ((l.map (·.1)).getD ps[j] 0),?_,(l.map (·.1)).getD ps[j] 0,?_,rfl⟩
  ·rw[Array.getElem?_append_left (by simp[hcs];omega),Array.getElem?_append_right (by simp)]
   simp only[List.size_toArray,List.length_cons,List.length_nil];rw[hca];simp[hj]
  ·have:=Nat.le_of_ble_eq_true (List.all_eq_true.1 hps _ (List.getElem_mem hj))
   have this:ps[j]<l.length:=this;rw[List.getElem?_map,List.getElem?_eq_getElem this];simp[this]
def A0 (e:En) (ua:Value):St:=⟨sparse 8 [(0,.g (.agg e.c)),(1,.g (.one (.ptr 0 0)))],[some (true,[.v ua])],1⟩
def A1 (e:En) (ua:Value):St:=⟨sparse 8 [(1,.g (.one (.ptr 0 0))),(2,.g (.one (.ptr 1 0)))],[some (true,[.v ua]),some (false,e.c)],1⟩
def A2 (e:En) (ua:Value):St:=⟨sparse 8 [(4,.g (.one (.v ua))),(5,.g (.agg e.c))],[some (true,[.v ua])],1⟩
def A4 (ua:Value) (b:Bool):St:=⟨sparse 8 [(3,.g (truth b))],[some (true,[.v ua])],1⟩
theorem a0_at (e:En) (ua:Value):CodeCon Tryz.prog (rg Tryz.f74 0) (A0 e ua) .normal (A1 e ua):=atU _ _ [] (by kernel_rfl)
section
variable {ok0:Nat→Prop} {w0:Base} {g:List (Option Nat)} {a:Act} {w:World}
theorem a1_pre (e:En) (ua:Value) (hok:Ok ok0 w0 g (A1 e ua) a w):wpList Tryz.prog (opsR (rg Tryz.f74 1)) (fun x a' w'=>x=.normal∧∃g',Ok ok0 w0 g' (A2 e ua) a' w') ((opsR (rg Tryz.f74 1)).toList.take 2) a w :=
 seg_at LU_ok (i:=0) (A2 e ua) [] hok (by kernel_rfl)
theorem a1_post (e:En) (ua:Value) (b:Bool) (hok:Ok ok0 w0 g ((A2 e ua).put (some 6) (some (.g (truth b)))) a w):wpList Tryz.prog (opsR (rg Tryz.f74 1)) (fun x a' w'=>x=.normal∧∃g',Ok ok0 w0 g' (A4 ua (!b)) a' w') ((opsR (rg Tryz.f74 1)).toList.drop 3) a w :=
 seg_at LU_ok (i:=3) (A4 ua (!b)) [] hok (by kernel_rfl)
end
theorem acts_not {R:Nat→Prop} {x:Wt} (hA:Acts Tryz.prog R x):Acts Tryz.prog R (.not x):=by
 intro W u bs e v h hn hR hnew he hv;obtain⟨b,ua,l,rfl,rfl,hc,ha⟩:=h;have eb:Tryz.f74.body=some (.seq (rg Tryz.f74 0) (.seq (.region 1 (opsR (rg Tryz.f74 1)) false) .ret)):=by kernel_rfl
 have hnd:=List.nodup_cons.1 hn;have hRl:∀b∈l,¬R b:=fun b hb=>hR b (List.mem_cons_of_mem _ hb)
 refine⟨74,#[pt b],rfl,fun W=>enters_ Tryz.func74 (by kernel_rfl) rfl _ W,calls_of_wp Tryz.func74 eb ?_⟩
 rw[show Tryz.f74.ntmps=8 by kernel_rfl];have k0:Ok R ⟨W,[some b],[]⟩ [some b] (A0 e ua) _ W:=start_at (v:=v) 8 [(b,[.v ua])] [0] #[pt b] rfl rfl (by decide) (by simp) (fun q hq=>by rw[List.mem_singleton.1 hq];exact hc) (fun q hq=>by rw[List.mem_singleton.1 hq];exact hR b (by simp)) hv;refine wp_seq (a0_at e ua _ _ _ _ _ _ k0 (fun g1 a1 W1 k1=>?_))
 show (Code.seq _ _).wp _ _ _ _
 refine wp_seq (wp_region_list ?_)
 have hsp:(opsR (rg Tryz.f74 1)).toList=(opsR (rg Tryz.f74 1)).toList.take 2++(opsR (rg Tryz.f74 1)).toList.drop 2:=(List.take_append_drop 2 _).symm;obtain⟨op,hop,h1,h2,h3⟩:∃op:Oper,(opsR (rg Tryz.f74 1)).toList.drop 2=op::(opsR (rg Tryz.f74 1)).toList.drop 3∧op.guard=none∧op.dst=some 6∧op.op=.call { callee:=.value (.tmp 4),args:=#[.tmp 5],argTypes:=#[48] } :=
  ⟨(opsR (rg Tryz.f74 1)).toList.getD 2 ⟨none,.move (.tmp 0),0, "",#[],none⟩,by kernel_rfl,by kernel_rfl,by kernel_rfl,by kernel_rfl⟩
 rw[hop] at hsp
 conv=>arg 4;rw[hsp]
 refine list_seq (fun _ _ _ h=>h.1) (a1_pre e ua k1) ?_
 rintro a2 W2 ⟨_,g2,k2⟩
 have e2:Ext W W2 [b]:=Ext.keep k2.below (fun c hc=>by simpa using hc);have ha2:Has R W2 x ua l:=ha.move (fun k hk hlt=>e2.block k hlt (fun hm=>hR b (by simp) (by rw[List.mem_singleton.1 hm] at hk;exact hk))) (fun c hc=>e2.block c (ha.lt c hc) (fun hm=>hnd.1 (by rw[List.mem_singleton.1 hm] at hc;exact hc)));refine obj_list hA k2 hnew h1 h2 h3 rfl rfl ha2 hnd.2 hRl (fun c hc=>ha.lt c hc) (fun c hc hm=>by
  simp only[List.mem_singleton,Option.some.injEq] at hc;exact hnd.1 (hc▸hm)) he (fun W3 k3 ha3 e3=>?_)
 have gn:g2=[some b]:=by
  have gl:g2.length=1:=k2.own.1.symm;have:=k2.name (i:=0) (show 0<1 by decide)
  match g2,gl with
  |[y],_=>simp at this;rw[this]
 subst gn;have h7:=list_seq (Q':=Exit.then (Code.ret.wp Tryz.prog (bodyPost Tryz.prog Tryz.f74 (fun r W'=>r=.returned (.bool ((Wt.not x).run e).1)∧Has R W' ((Wt.not x).run e).2 (.func (.func 74) #[] #[pt b]) (b::l)∧Ext W W' (b::l)))) (bodyPost Tryz.prog Tryz.f74 (fun r W'=>r=.returned (.bool ((Wt.not x).run e).1)∧Has R W' ((Wt.not x).run e).2 (.func (.func 74) #[] #[pt b]) (b::l)∧Ext W W' (b::l)))) (ys:=[]) (fun _ _ _ h=>h.1) (a1_post e ua (x.run e).1 k3) ?_
 ·rw[List.append_nil] at h7
  exact h7
 rintro a4 W4 ⟨_,g4,k4⟩
 have e4:Ext W3 W4 [b]:=Ext.keep k4.below (fun c hc=>by simpa using hc);have en:Ext W W4 (b::l):=((e2.mono (fun c hc=>by simp at hc;simp[hc])).trans (e3.mono (fun c hc=>by simp[hc]))).trans (e4.mono (fun c hc=>by simp at hc;simp[hc]));show Code.ret.wp _ _ _ _
 refine wp_ret (end_at LU_ok k4 (by kernel_rfl) ⟨rfl,⟨b,ua,l,rfl,rfl,?_,?_⟩,en⟩)
 ·exact k4.cel' (fun k hk=>hnew k (Nat.le_trans (Nat.le_trans e2.size e3.size) hk)) (i:=0) (show 0<1 by decide) rfl rfl (fun c hc=>by rw[List.mem_singleton.1 hc];rfl)
 ·exact ha3.move (fun k hk hlt=>e4.block k hlt (fun hm=>hR b (by simp) (by rw[List.mem_singleton.1 hm] at hk;exact hk))) (fun c hc=>e4.block c (ha3.lt c hc) (fun hm=>hnd.1 (by rw[List.mem_singleton.1 hm] at hc;exact hc)))
end
section
section
variable {P:Program} {R:Nat→Prop} {W0:World} {h:List (Option Nat)} {g:List (Option Nat)} {s:St} {a:Act} {W W':World}
theorem Ok.names (hok:Ok R ⟨W0,h,[]⟩ g s a W) (hl:s.own.length=h.length):g=h:=by
 have gl:g.length=h.length:=hok.own.1.symm.trans hl;have hf:h.length=s.fix:=hok.fixd.1;refine List.ext_getElem? (fun i=>?_)
 by_cases hi:i<h.length
 ·exact hok.name (by omega)
 ·rw[List.getElem?_eq_none (by omega),List.getElem?_eq_none (by omega)]
theorem Has.ext {x:Wt} {u:Value} {l bs:List Nat} (hh:Has R W x u l) (e:Ext W W' bs) (hR:∀b∈bs,¬R b) (hd:∀c∈l,c ∉ bs):Has R W' x u l :=
 hh.move (fun k hk hlt=>e.block k hlt (fun hm=>hR k hm hk)) (fun c hc=>e.block c (hh.lt c hc) (hd c hc))
theorem Cel.ext {b:Nat} {cs:List AC} {bs:List Nat} (hc:Cel R W b cs) (e:Ext W W' bs) (hR:∀b∈bs,¬R b) (hb:b ∉ bs):Cel R W' b cs :=
 hc.move (e.block b hc.lt hb) (fun k hk hlt=>e.block k hlt (fun hm=>hR k hm hk))
theorem Cel.pe {b:Nat} {cs:List AC} (hc:Cel R W b cs) (hb:R b) (hp:Plain cs) (hl:∃n,cs.length=n):TC [] R W (.pe cs) (pt b):=by
 obtain⟨cells,e,hw,hT⟩:=hc;have hf:∀(j:Nat) c u,cs[j]?=some c→(cells.toList.take cs.length)[j]?=some u→Foot (fun W=>Rd W c u) W R:=fun j c u hc' hu=>by
  have:=hT.2 j c u hc' hu;have hn:=hp c (List.mem_of_getElem? hc');cases c with
  |ptr i off=>cases hn
  |fn f fi ca=>cases hn
  |sl i e k n=>cases hn
  |el i k j off=>cases hn
  |v x=>exact this
  |row k n es=>exact this
  |pe cs=>exact this
  |any=>exact this
 have hlt:b<W.heap.size:=(Array.getElem?_eq_some_iff.1 hw).1;show Foot (fun W=>Rd W (.pe cs) (.pointer (some ⟨b,0,none⟩))) W R
 refine fun W' hW'=>Rd.pe cs ⟨b,0,none⟩ (cells.toList.take cs.length) hT.1 (fun j u hu=>?_) (fun j c u hc' hu=>hf j c u hc' hu W' hW')
 have h1:W'.heap[b]?=some (.cells cells e (0,0)):=(hW' b hb hlt).trans hw;exact take_cell (m:=cs.length) (o:=0) (n:=cs.length) h1 (by simpa[List.take_take] using hu)
def low (k:Nat):AV→Bool
 | .g (.one (.ptr i _))=>Nat.blt i k
 |x=>x.noptr
theorem TV.low {g':List (Option Nat)} {ok ok':Nat→Prop} {k:Nat} {x:AV} {u:Value} (hx:low k x=true) (hT:TV g ok W x u) (hg:∀i,i<k→g'[i]?=g[i]?) (hf:∀k,ok k→k<W.heap.size→ok' k):TV g' ok' W x u:=by
 have mv:Mv [] g' ok ok' W W:=⟨fun i b hb=>(by cases hb),fun _ _ _=>rfl,hf,fun i b cur e hb=>by cases hb⟩;cases x with
 |tup xs=>exact (TV.noptr (r:=.tup xs) hx hT).mv mv
 |g y =>
  cases y with
  |agg cs=>exact (TV.noptr (r:=.g (.agg cs)) hx hT).mv mv
  |one c =>
   cases c with
   |ptr i off =>
    obtain⟨b,hb,hu⟩:=(show TC g ok W (.ptr i off) u from hT);exact⟨b,(hg i (Nat.le_of_ble_eq_true hx)).trans hb,hu⟩
   |_=>exact (TV.noptr (r:=.g (.one _)) hx hT).mv mv
theorem Ok.fresh (hok:Ok R ⟨W0,h,[]⟩ g s a W) (hnew:∀k,W0.heap.size≤k→R k) (l:List (Nat×List AC)) (n:Nat) (rs:List (Nat×AV)) (hl:h=l.map fun q=>some q.1) (hn:s.regs.length=n) (hnd:(l.map (·.1)).Nodup) (hx:∀q∈l,¬R q.1)
  (ho:∀(i:Nat) q,l[i]?=some q→(∃m,s.own[i]?=some (some (m,q.2)))∧Plain q.2)
  (hrs:∀q∈rs,(s.regs[q.1]?=some (some q.2)∧low l.length q.2=true)∨∃i cs m,s.regs[q.1]?=some (some (.g (.one (.ptr i 0))))∧q.2=.g (.one (.pe cs))∧s.own[i]?=some (some (m,cs))∧l.length≤i∧Plain cs) :
  Ok R ⟨W,h,[]⟩ h ⟨sparse n rs,l.map fun q=>some (true,q.2),l.length⟩ a W:=by
 have hfl:l.length=s.fix:=by rw[←hok.fixd.1,hl];simp
 have hR:∀k,FP R W0.heap.size g k→R k:=fun k hk=>hk.1.elim id (hnew k)
 have hm:∀k,R k→some k ∉ l.map fun q=>some q.1:=fun k hk hm=>by
  obtain⟨q,hq,e⟩:=List.mem_map.1 hm;injection e with e;exact hx q hq (e▸hk)
 have hgi:∀i,i<l.length→(l.map fun q=>some q.1)[i]?=g[i]?:=fun i hi=>by rw[←hl];exact (hok.name (by omega)).symm
 subst hl;have ha:a=⟨a.tmps,[]⟩:=by
  have:=hok.defers;cases a;simp only at this;rw[this]
 rw[ha];refine Ok.make l n rs hnd (fun q hq=>?_) hx (by rw[hok.regs.1,hn]) (fun q hq=>?_)
 ·obtain⟨i,hi⟩:=List.mem_iff_getElem?.1 hq
  obtain⟨⟨m,h1⟩,h2⟩:=ho i q hi;have hil:i<l.length:=(List.getElem?_eq_some_iff.1 hi).1;exact hok.cel (by omega) (by show (l.map fun q=>some q.1)[i]?=_;rw[List.getElem?_map,hi];rfl) h1 h2 (fun k hk _=>hR k hk)
 ·rcases hrs q hq with⟨h1,h2⟩|⟨i,cs,m,h1,h2,h3,h4,h5⟩
  ·obtain⟨u,hu,hT⟩:=hok.regs.2 q.1 q.2 h1
   exact⟨u,hu,TV.low h2 hT hgi (fun k hk _=>⟨.inl (hR k hk),hm k (hR k hk)⟩)⟩
  ·obtain⟨u,hu,b,hb,rfl⟩:=hok.regs.2 q.1 _ h1
   obtain⟨cells,e,hw,hT⟩:=hok.own.2 i m cs b h3 hb;have hbR:R b:=by
    rcases (hok.base b (List.mem_of_getElem? hb)).1 with h6|h6
    ·exact hnew b h6
    ·exfalso
     obtain⟨j,hj⟩:=List.mem_iff_getElem?.1 (show some b∈l.map fun q=>some q.1 from h6);have hjl:j<l.length:=by simpa using (List.getElem?_eq_some_iff.1 hj).1
     have hgj:g[j]?=some (some b):=(hgi j hjl).symm.trans hj;obtain⟨⟨m',h7⟩,_⟩:=ho j l[j] (List.getElem?_eq_getElem hjl);have:=hok.nodup i j b hb hgj ⟨m,cs,h3⟩ ⟨m',_,h7⟩;omega
   have hc:Cel R W b cs:=⟨cells,e,hw,hT.plain (fun k hk _=>hR k hk) h5⟩;refine⟨_,hu,?_⟩
   rw[h2];exact TC.mv (g:=[]) (g':=l.map fun q=>some q.1) (ok':=FP R W.heap.size (l.map fun q=>some q.1)) ⟨fun i b hb=>(by cases hb),fun _ _ _=>rfl,fun k hk _=>⟨.inl hk,hm k hk⟩,fun i b cur e hb=>by cases hb⟩ (hc.pe hbR h5 ⟨_,rfl⟩)
end
theorem v_plain (u:Value):Plain [.v u]:=fun c hc=>by rw[List.mem_singleton.1 hc];rfl
theorem fm_plain (f:Fm):Plain f.c:=fun c hc=>by
 obtain⟨k,o,p,n,a,b,w⟩:=f;simp only[Fm.c,List.mem_cons,List.not_mem_nil,or_false] at hc;rcases hc with rfl|rfl|rfl|rfl|rfl|rfl|rfl|rfl|rfl|rfl|rfl<;>rfl
theorem en_plain (e:En):Plain e.c:=fun c hc=>by
 simp only[En.c,List.mem_cons,List.not_mem_nil,or_false] at hc;rcases hc with rfl|rfl|rfl|rfl|rfl<;>rfl
theorem rec_plain (l:Option N3):Plain (recC l):=fun c hc=>by
 cases l with
 |none =>
  simp only[recC,List.mem_cons,List.not_mem_nil,or_false] at hc;rcases hc with rfl|rfl|rfl|rfl<;>rfl
 |some r =>
  simp only[recC,List.mem_cons,List.not_mem_nil,or_false] at hc;rcases hc with rfl|rfl|rfl|rfl<;>rfl
def B0 (e:En) (ua:Value) (h:Bool):St:=⟨sparse 11 [(0,.g (.agg e.c)),(1,.g (.one (.ptr 1 0))),(2,.g (.one (.ptr 0 0)))],[some (true,[.v ua]),some (true,[.v (.bool h)])],2⟩
def B1 (e:En) (ua:Value) (h:Bool):St:=⟨sparse 11 [(1,.g (.one (.ptr 1 0))),(2,.g (.one (.ptr 0 0))),(3,.g (.one (.ptr 2 0)))],[some (true,[.v ua]),some (true,[.v (.bool h)]),some (false,e.c)],2⟩
def B2 (e:En) (ua:Value) (h:Bool):St:=⟨sparse 11 [(1,.g (.one (.ptr 1 0))),(2,.g (.one (.ptr 0 0))),(3,.g (.one (.ptr 2 0))),(5,.g (truth h))],[some (true,[.v ua]),some (true,[.v (.bool h)]),some (false,e.c)],2⟩
def B3 (e:En) (ua:Value) (h:Bool):St:=⟨sparse 11 [(1,.g (.one (.ptr 1 0))),(5,.g (truth h)),(7,.g (.one (.v ua))),(8,.g (.agg e.c))],[some (true,[.v ua]),some (true,[.v (.bool h)])],2⟩
def B4 (ua:Value) (h b:Bool):St:=⟨sparse 11 [(5,.g (truth h))],[some (true,[.v ua]),some (true,[.v (.bool b)])],2⟩
def B5 (ua:Value) (h b:Bool):St:=⟨sparse 11 [(4,.g (truth h))],[some (true,[.v ua]),some (true,[.v (.bool b)])],2⟩
theorem b0_at (e:En) (ua:Value) (h:Bool):CodeCon Tryz.prog (rg Tryz.f76 0) (B0 e ua h) .normal (B1 e ua h):=atU _ _ [] (by kernel_rfl)
theorem b1_at (e:En) (ua:Value) (h:Bool):CodeCon Tryz.prog (rg Tryz.f76 1) (B1 e ua h) .normal (B2 e ua h):=atU _ _ [] (by kernel_rfl)
theorem b4_at (ua:Value) (h b:Bool):CodeCon Tryz.prog (rg Tryz.f76 3) (B4 ua h b) .normal (B5 ua h b):=atU _ _ [] (by kernel_rfl)
section
variable {ok0:Nat→Prop} {w0:Base} {g:List (Option Nat)} {a:Act} {w:World}
theorem b2_pre (e:En) (ua:Value) (h:Bool) (hok:Ok ok0 w0 g (B2 e ua h) a w):wpList Tryz.prog (opsR (rg Tryz.f76 2)) (fun x a' w'=>x=.normal∧∃g',Ok ok0 w0 g' (B3 e ua h) a' w') ((opsR (rg Tryz.f76 2)).toList.take 2) a w :=
 seg_at LU_ok (i:=0) (B3 e ua h) [] hok (by kernel_rfl)
theorem b2_post (e:En) (ua:Value) (h b:Bool) (hok:Ok ok0 w0 g ((B3 e ua h).put (some 9) (some (.g (truth b)))) a w):wpList Tryz.prog (opsR (rg Tryz.f76 2)) (fun x a' w'=>x=.normal∧∃g',Ok ok0 w0 g' (B4 ua h b) a' w') ((opsR (rg Tryz.f76 2)).toList.drop 3) a w :=
 seg_at LU_ok (i:=3) (B4 ua h b) [] hok (by kernel_rfl)
end
theorem acts_prev {R:Nat→Prop} {x:Wt} (hh:Bool) (hA:Acts Tryz.prog R x):Acts Tryz.prog R (.prev hh x):=by
 intro W u bs e v h hn hR hnew he hv;obtain⟨b1,b2,ua,l,rfl,rfl,hc1,hc2,ha⟩:=h;have eb:Tryz.f76.body=some (.seq (rg Tryz.f76 0) (.seq (rg Tryz.f76 1) (.seq (.region 2 (opsR (rg Tryz.f76 2)) false) (.seq (rg Tryz.f76 3) .ret)))):=by kernel_rfl
 simp only[List.nodup_cons,List.mem_cons,not_or] at hn;obtain⟨⟨n12,n1l⟩,n2l,nl⟩:=hn;have hRl:∀b∈l,¬R b:=fun b hb=>hR b (by simp[hb])
 have hRb:∀b∈[b1,b2],¬R b:=fun b hb=>hR b (by
  simp only[List.mem_cons,List.not_mem_nil,or_false] at hb;rcases hb with rfl|rfl<;>simp)
 have hdl:∀c∈l,c ∉ [b1,b2]:=fun c hc hm=>by
  simp only[List.mem_cons,List.not_mem_nil,or_false] at hm;rcases hm with rfl|rfl
  ·exact n1l hc
  ·exact n2l hc
 refine⟨76,#[pt b2,pt b1],rfl,fun W=>enters_ Tryz.func76 (by kernel_rfl) rfl _ W,calls_of_wp Tryz.func76 eb ?_⟩
 rw[show Tryz.f76.ntmps=11 by kernel_rfl];have k0:Ok R ⟨W,[some b1,some b2],[]⟩ [some b1,some b2] (B0 e ua hh) _ W:=start_at (v:=v) 11 [(b1,[.v ua]),(b2,[.v (.bool hh)])] [1,0] #[pt b2,pt b1] rfl rfl (by decide) (by simpa using n12) (fun q hq=>by
    simp only[List.mem_cons,List.not_mem_nil,or_false] at hq;rcases hq with rfl|rfl
    ·exact hc1
    ·exact hc2) (fun q hq=>by
    simp only[List.mem_cons,List.not_mem_nil,or_false] at hq;rcases hq with rfl|rfl
    ·exact hRb _ (by simp)
    ·exact hRb _ (by simp)) hv
 have inb:∀c,some c∈[some b1,some b2]→c∈[b1,b2]:=fun c hc=>by simpa using hc
 refine wp_seq (b0_at e ua hh _ _ _ _ _ _ k0 (fun g1 a1 W1 k1=>?_))
 show (Code.seq _ _).wp _ _ _ _
 refine wp_seq (b1_at e ua hh _ _ _ _ _ _ k1 (fun g2 a2 W2 k2=>?_))
 show (Code.seq _ _).wp _ _ _ _
 refine wp_seq (wp_region_list ?_)
 obtain⟨op,hop,h1,h2,h3⟩:∃op:Oper,(opsR (rg Tryz.f76 2)).toList.drop 2=op::(opsR (rg Tryz.f76 2)).toList.drop 3∧op.guard=none∧op.dst=some 9∧op.op=.call { callee:=.value (.tmp 7),args:=#[.tmp 8],argTypes:=#[48] } :=
  ⟨(opsR (rg Tryz.f76 2)).toList.getD 2 ⟨none,.move (.tmp 0),0, "",#[],none⟩,by kernel_rfl,by kernel_rfl,by kernel_rfl,by kernel_rfl⟩
 have hsp:(opsR (rg Tryz.f76 2)).toList=(opsR (rg Tryz.f76 2)).toList.take 2++op::(opsR (rg Tryz.f76 2)).toList.drop 3:=by rw[←hop,List.take_append_drop]
 conv=>arg 4;rw[hsp]
 refine list_seq (fun _ _ _ h=>h.1) (b2_pre e ua hh k2) ?_
 rintro a3 W3 ⟨_,g3,k3⟩
 have e3:Ext W W3 [b1,b2]:=Ext.keep k3.below inb;have ha3:=ha.ext e3 hRb hdl;have gn:=k3.names rfl;subst gn;refine obj_list hA k3 hnew h1 h2 h3 rfl rfl ha3 nl hRl (fun c hc=>ha.lt c hc) (fun c hc hm=>hdl c hm (inb c hc)) he (fun W4 k4 ha4 e4=>?_)
 have h7:=list_seq (Q':=Exit.then ((Code.seq (rg Tryz.f76 3) .ret).wp Tryz.prog (bodyPost Tryz.prog Tryz.f76 (fun r W'=>r=.returned (.bool ((Wt.prev hh x).run e).1)∧Has R W' ((Wt.prev hh x).run e).2 (.func (.func 76) #[] #[pt b2,pt b1]) (b1::b2::l)∧Ext W W' (b1::b2::l)))) (bodyPost Tryz.prog Tryz.f76 (fun r W'=>r=.returned (.bool ((Wt.prev hh x).run e).1)∧Has R W' ((Wt.prev hh x).run e).2 (.func (.func 76) #[] #[pt b2,pt b1]) (b1::b2::l)∧Ext W W' (b1::b2::l)))) (ys:=[]) (fun _ _ _ h=>h.1) (b2_post e ua hh (x.run e).1 k4) ?_
 ·rw[List.append_nil] at h7
  exact h7
 rintro a5 W5 ⟨_,g5,k5⟩
 show (Code.seq _ _).wp _ _ _ _
 refine wp_seq (b4_at ua hh (x.run e).1 _ _ _ _ _ _ k5 (fun g6 a6 W6 k6=>?_))
 show Code.ret.wp _ _ _ _
 have e6:Ext W4 W6 [b1,b2]:=Ext.keep k6.below inb;have en:Ext W W6 (b1::b2::l):=((e3.mono (fun c hc=>by simp at hc;rcases hc with rfl|rfl<;>simp)).trans (e4.mono (fun c hc=>by simp[hc]))).trans (e6.mono (fun c hc=>by simp at hc;rcases hc with rfl|rfl<;>simp));have hnew4:∀k,W4.heap.size≤k→R k:=fun k hk=>hnew k (Nat.le_trans (Nat.le_trans e3.size e4.size) hk)
 refine wp_ret (end_at LU_ok k6 (by kernel_rfl) ⟨rfl,⟨b1,b2,ua,l,rfl,rfl,?_,?_,?_⟩,en⟩)
 ·exact k6.cel' hnew4 (i:=0) (show 0<2 by decide) rfl rfl (v_plain _)
 ·exact k6.cel' hnew4 (i:=1) (show 1<2 by decide) rfl rfl (v_plain _)
 ·exact ha4.ext e6 hRb hdl
end
section
theorem acts_atom {R:Nat→Prop} (f:Fm) (hf:f.own):Acts Tryz.prog R (.atom f):=by
 intro W u bs e v h hn hR hnew he hv;obtain⟨b,rfl,rfl,hc⟩:=h;refine⟨80,#[pt b],rfl,fun W=>enters_ Tryz.func80 (by kernel_rfl) rfl _ W,?_⟩
 have k0:=start_at (v:=v) 2 [(b,f.c)] [0] #[pt b] rfl rfl (by decide) (by simp) (fun q hq=>by rw[List.mem_singleton.1 hq];exact hc) (fun q hq=>by rw[List.mem_singleton.1 hq];exact hR b (by simp)) hv;have e0:(#[v]++#[pt b])++Array.replicate (2-(#[v]++#[pt b]:Array Value).size) undef=#[v,pt b]:=by simp
 rw[e0] at k0;refine ((atom_con f e hf he).2 R #[v,pt b] W [some b] k0).mono ?_
 rintro r W' ⟨u,g',rfl,hk⟩
 have hu:u=.bool (atomF f e):=TC.v_eq (g:=g') (ok:=FP R W.heap.size g') (w:=W') (by
  obtain⟨u',hu',hT⟩:=hk.regs.2 0 _ rfl;have:u'=u:=by simpa using hu'.symm
  subst this;exact hT)
 subst hu;exact⟨rfl,⟨b,rfl,rfl,hk.cel' hnew (i:=0) (show 0<1 by decide) rfl rfl (fm_plain f)⟩,Ext.keep hk.below (fun c hc=>by simpa using hc)⟩
def O0 (f:Fm) (e:En) (ua:Value) (l:Option N3):St:=⟨sparse 17 [(0,.g (.agg e.c)),(1,.g (.one (.ptr 1 0))),(2,.g (.one (.ptr 2 0))),(3,.g (.one (.ptr 0 0)))],[some (true,f.c),some (true,[.v ua]),some (true,recC l)],3⟩
def O1 (f:Fm) (e:En) (ua:Value) (l:Option N3):St:=⟨sparse 17 [(1,.g (.one (.ptr 1 0))),(2,.g (.one (.ptr 2 0))),(3,.g (.one (.ptr 0 0))),(4,.g (.one (.ptr 3 0)))],[some (true,f.c),some (true,[.v ua]),some (true,recC l),some (false,e.c)],3⟩
def O2 (f:Fm) (e:En) (ua:Value) (l:Option N3):St:=⟨sparse 17 [(2,.g (.one (.ptr 2 0))),(3,.g (.one (.ptr 0 0))),(4,.g (.one (.ptr 3 0))),(6,.g (.one (.v ua))),(7,.g (.agg e.c))],[some (true,f.c),some (true,[.v ua]),some (true,recC l),some (false,e.c)],3⟩
def O3 (f:Fm) (e:En) (ua:Value) (l:Option N3):St:=⟨sparse 17 [(2,.g (.one (.ptr 2 0))),(3,.g (.one (.ptr 0 0))),(4,.g (.one (.pe e.c))),(6,.g (.one (.v ua))),(7,.g (.agg e.c))],[some (true,f.c),some (true,[.v ua]),some (true,recC l)],3⟩
def O4 (f:Fm) (e:En) (ua:Value) (l:Option N3) (b:Bool):St:=(O3 f e ua l).put (some 8) (some (.g (truth b)))
def O5 (f:Fm) (e:En) (ua:Value) (l:Option N3):St:=⟨sparse 17 [(2,.g (.one (.ptr 2 0))),(3,.g (.one (.ptr 0 0))),(4,.g (.one (.pe e.c)))],[some (true,f.c),some (true,[.v ua]),some (true,recC l)],3⟩
def O6 (f:Fm) (ua:Value) (l:Option N3) (b:Bool):St:=⟨sparse 17 [(5,.g (truth b))],[some (true,f.c),some (true,[.v ua]),some (true,recC l)],3⟩
theorem o0_at (f:Fm) (e:En) (ua:Value) (l:Option N3):CodeCon Tryz.prog (rg Tryz.f77 0) (O0 f e ua l) .normal (O1 f e ua l):=by
 obtain⟨k,o,p,n,a,b,w⟩:=f;cases l<;>exact atU _ _ [] (by kernel_rfl)
theorem o2_at (f:Fm) (e:En) (ua:Value) (l:Option N3) (b:Bool):CodeCon Tryz.prog (rg Tryz.f77 2) (O4 f e ua l b) .normal (O5 f e ua (some e.time)):=by
 obtain⟨k,o,p,n,a,b,w⟩:=f;cases l<;>exact atU _ _ [] (by kernel_rfl)
theorem o3_at (f:Fm) (e:En) (ua:Value) (l:Option N3) (b:Bool) (hf:f.own) (hl:lastOk l) (he:e.ok):CodeCon Tryz.prog (rg Tryz.f77 3) (O4 f e ua l b) .normal (O6 f ua l (countsF f l e.time)):=by
 have C:=counts_con f l e.time hf hl he.time he.sh;generalize countsF f l e.time=r at *;obtain⟨k,o,p,n,a,b,w⟩:=f;cases l<;>exact atU _ _ [gives C] (by kernel_rfl)
theorem o5_at (f:Fm) (e:En) (ua:Value) (l:Option N3) (hf:f.own) (hl:lastOk l) (he:e.ok):CodeCon Tryz.prog (rg Tryz.f77 3) (O5 f e ua l) .normal (O6 f ua l (countsF f l e.time)):=by
 have C:=counts_con f l e.time hf hl he.time he.sh;generalize countsF f l e.time=r at *;obtain⟨k,o,p,n,a,b,w⟩:=f;cases l<;>exact atU _ _ [gives C] (by kernel_rfl)
section
variable {ok0:Nat→Prop} {w0:Base} {g:List (Option Nat)} {a:Act} {w:World}
theorem o1_pre (f:Fm) (e:En) (ua:Value) (l:Option N3) (hok:Ok ok0 w0 g (O1 f e ua l) a w):wpList Tryz.prog (opsR (rg Tryz.f77 1)) (fun x a' w'=>x=.normal∧∃g',Ok ok0 w0 g' (O2 f e ua l) a' w') ((opsR (rg Tryz.f77 1)).toList.take 2) a w:=by
 obtain⟨k,o,p,n,a,b,w⟩:=f;cases l<;>exact seg_at LU_ok (i:=0) (O2 _ e ua _) [] hok (by kernel_rfl)
end
theorem mem3 {α:Type} {x a b c:α}:x∈[a,b,c]↔x=a∨x=b∨x=c:=by simp
theorem acts_once {R:Nat→Prop} {x:Wt} (f:Fm) (la:Option N3) (hf:f.own) (hl:lastOk la) (hA:Acts Tryz.prog R x):Acts Tryz.prog R (.once f la x):=by
 intro W u bs e v h hn hR hnew he hv;obtain⟨b1,b2,b3,ua,l,rfl,rfl,hc1,hc2,hc3,ha⟩:=h;have eb:Tryz.f77.body=some (.seq (rg Tryz.f77 0) (.seq (.seq (.region 1 (opsR (rg Tryz.f77 1)) false) (.cond (.tmp 8) (rg Tryz.f77 2) .skip)) (.seq (rg Tryz.f77 3) .ret))):=by kernel_rfl
 simp only[List.nodup_cons,List.mem_cons,not_or] at hn;obtain⟨⟨n12,n13,n1l⟩,⟨n23,n2l⟩,n3l,nl⟩:=hn;have hRl:∀b∈l,¬R b:=fun b hb=>hR b (by simp[hb])
 have hRb:∀b∈[b1,b2,b3],¬R b:=fun b hb=>hR b (by
  rcases mem3.1 hb with rfl|rfl|rfl<;>simp)
 have hdl:∀c∈l,c ∉ [b1,b2,b3]:=fun c hc hm=>by
  rcases mem3.1 hm with rfl|rfl|rfl
  ·exact n1l hc
  ·exact n2l hc
  ·exact n3l hc
 have inb:∀c,some c∈[some b1,some b2,some b3]→c∈[b1,b2,b3]:=fun c hc=>by simpa using hc
 have sub:∀c∈[b1,b2,b3],c∈b1::b2::b3::l:=fun c hc=>by rcases mem3.1 hc with rfl|rfl|rfl<;>simp
 refine⟨77,#[pt b2,pt b3,pt b1],rfl,fun W=>enters_ Tryz.func77 (by kernel_rfl) rfl _ W,calls_of_wp Tryz.func77 eb ?_⟩
 rw[show Tryz.f77.ntmps=17 by kernel_rfl];have k0:Ok R ⟨W,[some b1,some b2,some b3],[]⟩ [some b1,some b2,some b3] (O0 f e ua la) _ W:=start_at (v:=v) 17 [(b1,f.c),(b2,[.v ua]),(b3,recC la)] [1,2,0] #[pt b2,pt b3,pt b1] rfl rfl (by decide) (by simp[n12,n13,n23]) (fun q hq=>by
    rcases mem3.1 hq with rfl|rfl|rfl
    ·exact hc1
    ·exact hc2
    ·exact hc3) (fun q hq=>by
    rcases mem3.1 hq with rfl|rfl|rfl<;>exact hRb _ (by simp)) hv
 refine wp_seq (o0_at f e ua la _ _ _ _ _ _ k0 (fun g1 a1 W1 k1=>?_))
 show (Code.seq _ _).wp _ _ _ _
 refine wp_seq (wp_seq (wp_region_list ?_))
 obtain⟨op,hop,h1,h2,h3⟩:∃op:Oper,(opsR (rg Tryz.f77 1)).toList.drop 2=[op]∧op.guard=none∧op.dst=some 8∧op.op=.call { callee:=.value (.tmp 6),args:=#[.tmp 7],argTypes:=#[48] } :=
  ⟨(opsR (rg Tryz.f77 1)).toList.getD 2 ⟨none,.move (.tmp 0),0, "",#[],none⟩,by kernel_rfl,by kernel_rfl,by kernel_rfl,by kernel_rfl⟩
 have hsp:(opsR (rg Tryz.f77 1)).toList=(opsR (rg Tryz.f77 1)).toList.take 2++[op]:=by rw[←hop,List.take_append_drop]
 conv=>arg 4;rw[hsp]
 refine list_seq (fun _ _ _ h=>h.1) (o1_pre f e ua la k1) ?_
 rintro a3 W3 ⟨_,g3,k3⟩
 have e3:Ext W W3 [b1,b2,b3]:=Ext.keep k3.below inb;have ha3:=ha.ext e3 hRb hdl;have k3:Ok R ⟨W3,[some b1,some b2,some b3],[]⟩ [some b1,some b2,some b3] (O3 f e ua la) a3 W3:=k3.fresh hnew [(b1,f.c),(b2,[.v ua]),(b3,recC la)] 17 [(2,.g (.one (.ptr 2 0))),(3,.g (.one (.ptr 0 0))),(4,.g (.one (.pe e.c))),(6,.g (.one (.v ua))),(7,.g (.agg e.c))] rfl rfl (by simp[n12,n13,n23]) (fun q hq=>by
   rcases mem3.1 hq with rfl|rfl|rfl<;>exact hRb _ (by simp)) (fun i q hq=>by
   match i with
   |0=>cases hq;exact⟨⟨_,rfl⟩,fm_plain f⟩
   |1=>cases hq;exact⟨⟨_,rfl⟩,v_plain _⟩
   |2=>cases hq;exact⟨⟨_,rfl⟩,rec_plain _⟩
   |n+3=>simp at hq) (fun q hq=>by
   simp only[List.mem_cons,List.not_mem_nil,or_false] at hq;rcases hq with rfl|rfl|rfl|rfl|rfl
   ·exact .inl ⟨rfl,rfl⟩
   ·exact .inl ⟨rfl,rfl⟩
   ·exact .inr ⟨3,e.c,_,rfl,rfl,rfl,by simp,en_plain e⟩
   ·exact .inl ⟨rfl,rfl⟩
   ·exact .inl ⟨rfl,rfl⟩)
 have hnew3:∀k,W3.heap.size≤k→R k:=fun k hk=>hnew k (Nat.le_trans e3.size hk)
 refine obj_list hA k3 hnew3 h1 h2 h3 rfl rfl ha3 nl hRl (fun c hc=>ha3.lt c hc) (fun c hc hm=>hdl c hm (inb c hc)) he (fun W4 k4 ha4 e4=>?_)
 have k4:Ok R ⟨W4,[some b1,some b2,some b3],[]⟩ [some b1,some b2,some b3] (O4 f e ua la (x.run e).1) _ W4:=k4;have hnew4:∀k,W4.heap.size≤k→R k:=fun k hk=>hnew3 k (Nat.le_trans e4.size hk)
 -- the end
 have fin:∀{g6:List (Option Nat)} {a6:Act} {W6:World} {l':Option N3},Ok R ⟨W4,[some b1,some b2,some b3],[]⟩ g6 (O6 f ua l' (countsF f l' e.time)) a6 W6→l'=(bif (x.run e).1 then some e.time else la) →
   Code.ret.wp Tryz.prog (bodyPost Tryz.prog Tryz.f77 (fun r W'=>r=.returned (.bool ((Wt.once f la x).run e).1)∧Has R W' ((Wt.once f la x).run e).2 (.func (.func 77) #[] #[pt b2,pt b3,pt b1]) (b1::b2::b3::l)∧Ext W W' (b1::b2::b3::l))) a6 W6:=by
  intro g6 a6 W6 l' k6 el;subst el;have e6:Ext W4 W6 [b1,b2,b3]:=Ext.keep k6.below inb;have en:Ext W W6 (b1::b2::b3::l):=((e3.mono sub).trans (e4.mono (fun c hc=>by simp[hc]))).trans (e6.mono sub);refine wp_ret (end_at LU_ok k6 (by kernel_rfl) ⟨rfl,⟨b1,b2,b3,ua,l,rfl,rfl,?_,?_,?_,?_⟩,en⟩)
  ·exact k6.cel' hnew4 (i:=0) (show 0<3 by decide) rfl rfl (fm_plain f)
  ·exact k6.cel' hnew4 (i:=1) (show 1<3 by decide) rfl rfl (v_plain _)
  ·exact k6.cel' hnew4 (i:=2) (show 2<3 by decide) rfl rfl (rec_plain _)
  ·exact ha4.ext e6 hRb hdl
 show (Code.cond _ _ _).wp _ _ _ _
 refine wp_cond (k4.truth_at (t:=8) rfl) ?_
 cases hb:(x.run e).1 with
 |true =>
  rw[hb] at k4;simp only[if_true];refine o2_at f e ua la true _ _ _ _ _ _ k4 (fun g5 a5 W5 k5=>?_)
  show (Code.seq _ _).wp _ _ _ _
  refine wp_seq (o5_at f e ua (some e.time) hf (last_some he) he _ _ _ _ _ _ k5 (fun g6 a6 W6 k6=>?_))
  exact fin k6 (by rw[hb];rfl)
 |false =>
  rw[hb] at k4;refine wp_skip ?_
  show (Code.seq _ _).wp _ _ _ _
  refine wp_seq (o3_at f e ua la false hf hl he _ _ _ _ _ _ k4 (fun g6 a6 W6 k6=>?_))
  exact fin k6 (by rw[hb];rfl)
end
section
section
variable {P:Program}
theorem regionV (hm:P.follows .mixedOrders=true) {id:Nat} {ops:Array Oper} {Q:Exit→Act→World→Prop} {a:Act} {w:World} (hck:(waitsOk (rtab .any ops).2 (bitsT (rtab .any ops).2 0 [])&&baseOk (rtab .any ops).2 (List.range ops.size))=true) (I:(Nat→Bool)→Act→World→Prop) (h0:I (fun _=>false) a w.drew)
  (hs:∀i,i<ops.size→StepAt P ops Q (bitsT (rtab .any ops).2 0 []) (List.range ops.size) I i) (hend:∀b a w,(∀j,j<ops.size→b j=true)→I b a w→Q .normal a w):(Code.region id ops true).wp P Q a w:=by
 rw[Bool.and_eq_true] at hck;refine start_ (S:=fun _=>True) (ds:=[]) (Array.replicate ops.size false) hm rfl rfl trivial (fun _=>?_)
 refine inv_ (B:=bitsT (rtab .any ops).2 0 []) (List.range ops.size) I rfl hck.1 hck.2 ?_ h0 (fun i hi=>hs i (List.mem_range.1 hi)) (fun b a w hb hI=>hend b a w (fun j hj=>hb j (by rw[List.contains_iff_mem,List.mem_range];exact hj)) hI)
 rw[Bool.and_eq_true,beq_iff_eq,beq_iff_eq];refine⟨?_,by simp⟩
 rw[rtab_length];unfold lof;rw[Array.toList_replicate];refine List.ext_getElem (by simp) (fun i h1 h2=>?_)
 simp only[List.length_map,List.length_range] at h1;simp[h1]
theorem run_load {L:Lays} (hL:LaysOk P L) {R:Nat→Prop} {W:World} {ρ:Operand→Value} {o:Oper} {t:Nat} {x:Operand} {y:Lay} {z:AG} {b:Nat} {cs:List AC} (hy:lay L t=some y) (hop:o.op=.load t x) (hx:ρ x=pt b) (hc:Cel R W b cs) (hz:ofCells y cs=some z) (hl:cs.length=y.size) :
  ∃u,(execOp ρ o).run P W=.ok (.value u) W∧TG [] R W z u:=by
 obtain⟨cells,e,hw,hT⟩:=hc;obtain⟨u,hrun,hu⟩:=loadVar_at (ad:=⟨b,0,none⟩) (hL _ _ hy) hz hl hT (fun j v hv=>take_cell (m:=cs.length) (o:=0) (n:=cs.length) hw (by simpa[List.take_take] using hv));refine⟨u,?_,hu⟩
 unfold execOp;have hx':ρ x=.pointer (some ⟨b,0,none⟩):=hx;simp[hop,hx',Instr.loadAt,Instr.sureAddr,hrun]
end
def VS (R:Nat→Prop) (W:World) (e:En) (ua uc:Value) (xb yb:Bool):Nat→Value→Prop
 |0,v=>v=ua
 |1,v=>TG [] R W (.agg e.c) v
 |2,v=>v=.bool xb
 |3,v=>v=uc
 |4,v=>TG [] R W (.agg e.c) v
 |5,v=>v=.bool yb
 |6,v=>v=.bool xb
 |_,v=>v=.bool yb
section
variable {R:Nat→Prop} {W W':World} {e:En} {ua uc:Value} {xb yb:Bool}
theorem VS.ext {bs:List Nat} {j:Nat} {v:Value} (h:VS R W e ua uc xb yb j v) (x:Ext W W' bs) (hR:∀b∈bs,¬R b):VS R W' e ua uc xb yb j v:=by
 have mv:Mv [] [] R R W W':=⟨fun _ _ h=>h,fun k hk hlt=>x.block k hlt (fun hm=>hR k hm hk),fun _ h _=>h,fun i b cur e hb=>by cases hb⟩
 match j with
 |0=>exact h
 |1=>exact TG.mv (x:=.agg e.c) (u:=v) mv h
 |2=>exact h
 |3=>exact h
 |4=>exact TG.mv (x:=.agg e.c) (u:=v) mv h
 |5=>exact h
 |6=>exact h
 |n+7=>exact h
structure TwoI (R:Nat→Prop) (W0:World) (a0:Act) (d:Nat→Nat) (e:En) (x y:Wt) (ua uc:Value) (l m:List Nat) (b:Nat→Bool) (a:Act) (W:World):Prop where
 size:a.tmps.size=a0.tmps.size
 defers:a.defers=[]
 off:∀t,(∀j,j<8→t≠d j)→a.tmps[t]?=a0.tmps[t]?
 on:∀j,j<8→b j=true→∃v,a.tmps[d j]?=some v∧VS R W e ua uc (x.run e).1 (y.run e).1 j v
 ext:Ext W0 W (l++m)
 ha:Has R W (bif b 2 then (x.run e).2 else x) ua l
 hc:Has R W (bif b 5 then (y.run e).2 else y) uc m
variable {W0:World} {a0:Act} {d:Nat→Nat} {x y:Wt} {l m:List Nat} {b:Nat→Bool} {a:Act}
theorem TwoI.step (h:TwoI R W0 a0 d e x y ua uc l m b a W) (hR:∀c∈l++m,¬R c) (hd:∀i j,i<8→j<8→i≠j→d i≠d j) (hdn:∀i,i<8→d i<a0.tmps.size) {i:Nat} (hi:i<8) {v:Value} (hx:Ext W W' (l++m)) (hv:VS R W' e ua uc (x.run e).1 (y.run e).1 i v) (ha:Has R W' (bif up b i 2 then (x.run e).2 else x) ua l) (hc:Has R W' (bif up b i 5 then (y.run e).2 else y) uc m) :
  TwoI R W0 a0 d e x y ua uc l m (up b i) (a.put (some (d i)) v) W':=by
 refine⟨by simp[Act.put,h.size],h.defers,fun t ht=>?_,fun j hj hb=>?_,h.ext.trans hx,ha,hc⟩
 ·simp only[Act.put]
  rw[Array.getElem?_setIfInBounds_ne (fun e=>ht i hi e.symm)];exact h.off t ht
 ·simp only[Act.put]
  by_cases e:j=i
  ·subst e
   exact⟨v,by rw[Array.getElem?_setIfInBounds_self_of_lt (by rw[h.size];exact hdn j hj)],hv⟩
  ·rw[up_ne e] at hb
   obtain⟨u,h1,h2⟩:=h.on j hj hb;exact⟨u,by rw[Array.getElem?_setIfInBounds_ne (hd i j hi hj (Ne.symm e))];exact h1,h2.ext hx hR⟩
theorem eval_at {t:Nat} {v:Value} (h:a.tmps[t]?=some v):a.eval (.tmp t)=v:=by
 show a.tmps.getD t undef=v
 rw[Array.getD_eq_getD_getElem?,h];rfl
theorem two_calls {P:Program} {L:Lays} (hL:LaysOk P L) (hm:P.follows .mixedOrders=true) (hA:Acts P R x) (hC:Acts P R y) {id:Nat} {ops:Array Oper} {Q:Exit→Act→World→Prop} {t1 t2 te b1 b2 be tf ts:Nat} {tys tys':Array TypeId} {yf ye:Lay}
  (hck:(waitsOk (rtab .any ops).2 (bitsT (rtab .any ops).2 0 [])&&baseOk (rtab .any ops).2 (List.range ops.size))=true) (h8:ops.size=8) (o:Nat→Oper) (hops:∀i,i<8→ops[i]?=some (o i)) (hg:∀i,i<8→(o i).guard=none) (hdst:∀i,i<8→(o i).dst=some (d i))
  (hlf:lay L tf=some yf) (hzf:∀u,ofCells yf [.v u]=some (.one (.v u))) (hsf:yf.size=1) (hle:lay L ts=some ye) (hze:ofCells ye e.c=some (.agg e.c)) (hse:ye.size=5)
  (p0:(o 0).op=.load tf (.tmp t1)) (p1:(o 1).op=.load ts (.tmp te)) (p2:(o 2).op=.call { callee:=.value (.tmp (d 0)),args:=#[.tmp (d 1)],argTypes:=tys })
  (p3:(o 3).op=.load tf (.tmp t2)) (p4:(o 4).op=.load ts (.tmp te)) (p5:(o 5).op=.call { callee:=.value (.tmp (d 3)),args:=#[.tmp (d 4)],argTypes:=tys' }) (p6:(o 6).op=.assign (.tmp (d 2))) (p7:(o 7).op=.assign (.tmp (d 5)))
  (w20:((bitsT (rtab .any ops).2 0 []).getD 2 0).testBit 0=true) (w21:((bitsT (rtab .any ops).2 0 []).getD 2 0).testBit 1=true) (w53:((bitsT (rtab .any ops).2 0 []).getD 5 0).testBit 3=true) (w54:((bitsT (rtab .any ops).2 0 []).getD 5 0).testBit 4=true) (w62:((bitsT (rtab .any ops).2 0 []).getD 6 0).testBit 2=true) (w75:((bitsT (rtab .any ops).2 0 []).getD 7 0).testBit 5=true)
  (hd:∀i j,i<8→j<8→i≠j→d i≠d j) (hdn:∀i,i<8→d i<a0.tmps.size) (n1:∀j,j<8→t1≠d j) (n2:∀j,j<8→t2≠d j) (ne:∀j,j<8→te≠d j)
  (ht1:a0.tmps[t1]?=some (pt b1)) (ht2:a0.tmps[t2]?=some (pt b2)) (hte:a0.tmps[te]?=some (pt be)) (hdf:a0.defers=[])
  (hc1:Cel R W0 b1 [.v ua]) (hc2:Cel R W0 b2 [.v uc]) (hce:Cel R W0 be e.c) (nb1:b1 ∉ l++m) (nb2:b2 ∉ l++m) (nbe:be ∉ l++m)
  (hR:∀c∈l++m,¬R c) (hnd:(l++m).Nodup) (hnew:∀k,W0.heap.size≤k→R k) (he:e.ok) (ha:Has R W0 x ua l) (hc:Has R W0 y uc m)
  (hQ:∀a' W',TwoI R W0 a0 d e x y ua uc l m (fun _=>true) a' W'→Q .normal a' W'):(Code.region id ops true).wp P Q a0 W0:=by
 have hRl:∀c∈l,¬R c:=fun c hc=>hR c (List.mem_append_left _ hc)
 have hRm:∀c∈m,¬R c:=fun c hc=>hR c (List.mem_append_right _ hc)
 have hnd':=List.nodup_append.1 hnd;have dlm:∀c∈m,c ∉ l:=fun c hc hl=>hnd'.2.2 c hl c hc rfl
 have dml:∀c∈l,c ∉ m:=fun c hl hc=>hnd'.2.2 c hl c hc rfl
 have wants:∀i,i<8→∀y,Region.wanted (o i) y=true:=fun i hi y=>by unfold Region.wanted;rw[hg i hi]
 have cont:∀j,j<8→(List.range ops.size).contains j=true:=fun j hj=>by rw[List.contains_iff_mem,List.mem_range,h8];exact hj
 refine regionV hm hck (TwoI R W0 a0 d e x y ua uc l m) ⟨rfl,hdf,fun _ _=>rfl,fun j _ h=>(by cases h),Ext.drew,ha.ext (Ext.drew (bs:=[])) (fun b h=>by cases h) (fun c _ h=>by cases h),hc.ext (Ext.drew (bs:=[])) (fun b h=>by cases h) (fun c _ h=>by cases h)⟩ ?_ (fun b a w hb hI=>?_)
 ·intro i hi
  rw[h8] at hi;intro b a W hI hbi hon hoff;refine⟨o i,hops i hi,fun K hK=>?_⟩
  rw[if_pos (wants i hi _)];have pure:∀{v:Value},i≠2→i≠5→(execOp a.eval (o i)).run P W=.ok (.value v) W→VS R W e ua uc (x.run e).1 (y.run e).1 i v→Oper.wp P (o i) a W K Q:=fun {v} h2 h5 hrun hv=>by
   unfold Oper.wp;rw[hrun,Oper.upon_value,hdst i hi];refine hK _ _ (hI.step hR hd hdn hi (Ext.refl W _) hv ?_ ?_)
   ·rw[up_ne (Ne.symm h2)];exact hI.ha
   ·rw[up_ne (Ne.symm h5)];exact hI.hc
  have got:∀j,j<8→b j=true→∃v,a.eval (.tmp (d j))=v∧VS R W e ua uc (x.run e).1 (y.run e).1 j v:=fun j hj hb=>by
   obtain⟨v,h1,h2⟩:=hI.on j hj hb;exact⟨v,eval_at h1,h2⟩
  have need:∀j,j<8→((bitsT (rtab .any ops).2 0 []).getD i 0).testBit j=true→b j=true:=fun j hj h=>hon j (by rw[Bool.and_eq_true];exact⟨cont j hj,h⟩)
  have hnewW:∀k,W.heap.size≤k→R k:=fun k hk=>hnew k (Nat.le_trans hI.ext.size hk)
  have loadF:∀{t bx:Nat} {u:Value},(∀j,j<8→t≠d j)→a0.tmps[t]?=some (pt bx)→Cel R W0 bx [.v u]→bx ∉ l++m→(o i).op=.load tf (.tmp t)→(execOp a.eval (o i)).run P W=.ok (.value u) W:=fun {t bx u} h1 h2 h3 h4 h5=>by
   obtain⟨v,hr,hv⟩:=run_load hL hlf h5 (eval_at ((hI.off t h1).trans h2)) (h3.ext hI.ext hR h4) (hzf u) (by rw[hsf];rfl);have:=TC.v_eq (g:=[]) (ok:=R) (w:=W) hv;rw[←this];exact hr
  have loadE:(o i).op=.load ts (.tmp te)→∃u,(execOp a.eval (o i)).run P W=.ok (.value u) W∧TG [] R W (.agg e.c) u:=fun h5=>by
   obtain⟨v,hr,hv⟩:=run_load hL hle h5 (eval_at ((hI.off te ne).trans hte)) (hce.ext hI.ext hR nbe) hze (by rw[hse];rfl);exact⟨v,hr,hv⟩
  match i,hi with
  |0,_=>exact pure (by decide) (by decide) (loadF n1 ht1 hc1 nb1 p0) rfl
  |1,_ =>
   obtain⟨u,hr,hu⟩:=loadE p1;exact pure (by decide) (by decide) hr hu
  |2,h2 =>
   obtain⟨v0,g0,s0⟩:=got 0 (by decide) (need 0 (by decide) w20);obtain⟨v1,g1,s1⟩:=got 1 (by decide) (need 1 (by decide) w21);have s0:v0=ua:=s0;have ha0:Has R W x ua l:=by have:=hI.ha;rw[hbi] at this;exact this
   refine obj_op hA p2 (g0.trans s0) ha0 hnd'.1 hRl hnewW he (by rw[g1];exact s1) (fun W' h3 h4=>?_)
   rw[hdst 2 h2];refine hK _ _ (hI.step hR hd hdn h2 (h4.mono (fun c hc=>List.mem_append_left _ hc)) rfl (by rw[up_self];exact h3) ?_)
   rw[up_ne (by decide)];exact hI.hc.ext h4 hRl dlm
  |3,_=>exact pure (by decide) (by decide) (loadF n2 ht2 hc2 nb2 p3) rfl
  |4,_ =>
   obtain⟨u,hr,hu⟩:=loadE p4;exact pure (by decide) (by decide) hr hu
  |5,h5 =>
   obtain⟨v3,g3,s3⟩:=got 3 (by decide) (need 3 (by decide) w53);obtain⟨v4,g4,s4⟩:=got 4 (by decide) (need 4 (by decide) w54);have s3:v3=uc:=s3;have hc0:Has R W y uc m:=by have:=hI.hc;rw[hbi] at this;exact this
   refine obj_op hC p5 (g3.trans s3) hc0 hnd'.2.1 hRm hnewW he (by rw[g4];exact s4) (fun W' h3 h4=>?_)
   rw[hdst 5 h5];refine hK _ _ (hI.step hR hd hdn h5 (h4.mono (fun c hc=>List.mem_append_right _ hc)) rfl ?_ (by rw[up_self];exact h3))
   rw[up_ne (by decide)];exact hI.ha.ext h4 hRm dml
  |6,_ =>
   obtain⟨v2,g2,s2⟩:=got 2 (by decide) (need 2 (by decide) w62);exact pure (by decide) (by decide) (by unfold execOp;simp only[p6];rw[g2];rfl) s2
  |7,_ =>
   obtain⟨v5,g5,s5⟩:=got 5 (by decide) (need 5 (by decide) w75);exact pure (by decide) (by decide) (by unfold execOp;simp only[p7];rw[g5];rfl) s5
 ·refine hQ a w ⟨hI.size,hI.defers,hI.off,fun j hj _=>hI.on j hj (hb j (by rw[h8];exact hj)),hI.ext,?_,?_⟩
  ·have:=hI.ha;rw[hb 2 (by rw[h8];decide)] at this;exact this
  ·have:=hI.hc;rw[hb 5 (by rw[h8];decide)] at this;exact this
end
end
section
def opAt (ops:Array Oper) (i:Nat):Oper:=ops.toList.getD i ⟨none,.move (.tmp 0),0, "",#[],none⟩
def putV (an:Bool):Value:=.func (.func (bif an then 51 else 52)) #[] #[]
def C0 (e:En) (ua uc up:Value):St:=⟨sparse 18 [(0,.g (.agg e.c)),(1,.g (.one (.ptr 0 0))),(2,.g (.one (.ptr 1 0))),(3,.g (.one (.ptr 2 0)))],[some (true,[.v ua]),some (true,[.v uc]),some (true,[.v up])],3⟩
def C1 (e:En) (ua uc up:Value):St:=⟨sparse 18 [(1,.g (.one (.ptr 0 0))),(2,.g (.one (.ptr 1 0))),(3,.g (.one (.ptr 2 0))),(4,.g (.one (.ptr 3 0)))],[some (true,[.v ua]),some (true,[.v uc]),some (true,[.v up]),some (false,e.c)],3⟩
def C2 (ua uc up:Value) (x y:Bool):St:=⟨sparse 18 [(3,.g (.one (.ptr 2 0))),(6,.g (truth x)),(7,.g (truth y))],[some (true,[.v ua]),some (true,[.v uc]),some (true,[.v up])],3⟩
def C3 (ua uc up:Value) (r:Bool):St:=⟨sparse 18 [(5,.g (truth r))],[some (true,[.v ua]),some (true,[.v uc]),some (true,[.v up])],3⟩
theorem c0_at (e:En) (ua uc up:Value):CodeCon Tryz.prog (rg Tryz.f75 0) (C0 e ua uc up) .normal (C1 e ua uc up):=atU _ _ [] (by kernel_rfl)
theorem c2_at (ua uc:Value) (an x y:Bool):CodeCon Tryz.prog (rg Tryz.f75 2) (C2 ua uc (putV an) x y) .normal (C3 ua uc (putV an) (bif an then x&&y else x||y)):=by
 cases an with
 |true=>exact atU _ _ [gives (and_con x y)] (by kernel_rfl)
 |false=>exact atU _ _ [gives (or_con x y)] (by kernel_rfl)
theorem Ok.isnew {R:Nat→Prop} {W0 W:World} {h g:List (Option Nat)} {s:St} {a:Act} (hok:Ok R ⟨W0,h,[]⟩ g s a W) (hl:∀j,j<h.length→∃m cs,s.own[j]?=some (some (m,cs))) {i b:Nat} (hi:h.length≤i) (hli:∃m cs,s.own[i]?=some (some (m,cs))) (hb:g[i]?=some (some b)):W0.heap.size≤b:=by
 rcases (hok.base b (List.mem_of_getElem? hb)).1 with h6|h6
 ·exact h6
 ·exfalso
  obtain⟨j,hj⟩:=List.mem_iff_getElem?.1 (show some b∈h from h6);have hjl:=(List.getElem?_eq_some_iff.1 hj).1;have hf:h.length=s.fix:=hok.fixd.1;have hgj:g[j]?=some (some b):=(hok.name (by omega)).trans hj;have:=hok.nodup i j b hb hgj hli (hl j hjl);omega
theorem Ok.box {R:Nat→Prop} {W0 W:World} {h g:List (Option Nat)} {s:St} {a:Act} (hok:Ok R ⟨W0,h,[]⟩ g s a W) {t i:Nat} (hr:s.regs[t]?=some (some (.g (.one (.ptr i 0))))):∃b,g[i]?=some (some b)∧a.tmps[t]?=some (pt b):=by
 obtain⟨u,hu,b,hb,rfl⟩:=hok.regs.2 t _ hr;exact⟨b,hb,hu⟩
theorem Ok.box' {R:Nat→Prop} {W0 W:World} {h g:List (Option Nat)} {s:St} {a:Act} (hok:Ok R ⟨W0,h,[]⟩ g s a W) {t i b:Nat} (hr:s.regs[t]?=some (some (.g (.one (.ptr i 0))))) (hi:i<s.fix) (hb:h[i]?=some (some b)):a.tmps[t]?=some (pt b):=by
 obtain⟨b',h1,h2⟩:=hok.box hr;rw[hok.name hi,hb] at h1;cases h1;exact h2
theorem Ok.celN {R:Nat→Prop} {W0 W:World} {h g:List (Option Nat)} {s:St} {a:Act} (hok:Ok R ⟨W0,h,[]⟩ g s a W) (hnew:∀k,W0.heap.size≤k→R k) {i b:Nat} {m:Bool} {cs:List AC} (hb:g[i]?=some (some b)) (ho:s.own[i]?=some (some (m,cs))) (hp:Plain cs):Cel R W b cs:=by
 obtain⟨cells,e,hw,hT⟩:=hok.own.2 i m cs b ho hb;exact⟨cells,e,hw,hT.plain (fun k hk _=>hk.1.elim id (hnew k)) hp⟩
theorem far8 {d:Nat→Nat} (h:∀i,i<8→∀j,j<8→i≠j→d i≠d j):∀i j,i<8→j<8→i≠j→d i≠d j:=fun i j hi hj=>h i hi j hj
theorem acts_both {R:Nat→Prop} {x y:Wt} (an:Bool) (hA:Acts Tryz.prog R x) (hC:Acts Tryz.prog R y):Acts Tryz.prog R (.both an x y):=by
 intro W u bs e v h hn hR hnew he hv;obtain⟨b1,b2,b3,ua,uc,l,m,rfl,rfl,hc1,hc2,hc3,ha,hc⟩:=h;have hc3:Cel R W b3 [.v (putV an)]:=hc3;have eb:Tryz.f75.body=some (.seq (rg Tryz.f75 0) (.seq (.region 1 (opsR (rg Tryz.f75 1)) true) (.seq (rg Tryz.f75 2) .ret))):=by kernel_rfl
 simp only[List.nodup_cons,List.mem_cons,not_or] at hn;obtain⟨⟨n12,n13,n1l⟩,⟨n23,n2l⟩,n3l,nl⟩:=hn;have hRl:∀b∈l++m,¬R b:=fun b hb=>hR b (by simp only[List.mem_cons];exact .inr (.inr (.inr hb)))
 have hRb:∀b∈[b1,b2,b3],¬R b:=fun b hb=>hR b (by rcases mem3.1 hb with rfl|rfl|rfl<;>simp)
 have hdl:∀c∈l++m,c ∉ [b1,b2,b3]:=fun c hc hm=>by
  rcases mem3.1 hm with rfl|rfl|rfl
  ·exact n1l hc
  ·exact n2l hc
  ·exact n3l hc
 have inb:∀c,some c∈[some b1,some b2,some b3]→c∈[b1,b2,b3]:=fun c hc=>by simpa using hc
 have sub:∀c∈[b1,b2,b3],c∈b1::b2::b3::(l++m):=fun c hc=>by rcases mem3.1 hc with rfl|rfl|rfl<;>simp
 have subl:∀c∈l++m,c∈b1::b2::b3::(l++m):=fun c hc=>List.mem_cons_of_mem _ (List.mem_cons_of_mem _ (List.mem_cons_of_mem _ hc))
 have ltl:∀c∈l++m,c<W.heap.size:=fun c hm=>by
  rcases List.mem_append.1 hm with h|h
  ·exact ha.lt c h
  ·exact hc.lt c h
 refine⟨75,#[pt b1,pt b2,pt b3],rfl,fun W=>enters_ Tryz.func75 (by kernel_rfl) rfl _ W,calls_of_wp Tryz.func75 eb ?_⟩
 rw[show Tryz.f75.ntmps=18 by kernel_rfl];have k0:Ok R ⟨W,[some b1,some b2,some b3],[]⟩ [some b1,some b2,some b3] (C0 e ua uc (putV an)) _ W:=start_at (v:=v) 18 [(b1,[.v ua]),(b2,[.v uc]),(b3,[.v (putV an)])] [0,1,2] #[pt b1,pt b2,pt b3] rfl rfl (by decide) (by simp[n12,n13,n23]) (fun q hq=>by
    rcases mem3.1 hq with rfl|rfl|rfl
    ·exact hc1
    ·exact hc2
    ·exact hc3) (fun q hq=>by
    rcases mem3.1 hq with rfl|rfl|rfl<;>exact hRb _ (by simp)) hv
 refine wp_seq (c0_at e ua uc (putV an) _ _ _ _ _ _ k0 (fun g1 a1 W1 k1=>?_))
 show (Code.seq _ _).wp _ _ _ _
 have e1:Ext W W1 [b1,b2,b3]:=Ext.keep k1.below inb;have ha1:=ha.ext e1 hRb (fun c h=>hdl c (List.mem_append_left _ h));have hc1':=hc.ext e1 hRb (fun c h=>hdl c (List.mem_append_right _ h));have hnew1:∀k,W1.heap.size≤k→R k:=fun k hk=>hnew k (Nat.le_trans e1.size hk)
 obtain⟨be,hgb,hte⟩:=k1.box (t:=4) (i:=3) rfl;have lbe:=k1.isnew (fun j hj=>by
  match j,hj with
  |0,_=>exact⟨_,_,rfl⟩
  |1,_=>exact⟨_,_,rfl⟩
  |2,_=>exact⟨_,_,rfl⟩) (show 3≤3 by decide) ⟨_,_,rfl⟩ hgb
 have x1:=k1.cel' hnew (i:=0) (show 0<3 by decide) rfl rfl (v_plain ua);have x2:=k1.cel' hnew (i:=1) (show 1<3 by decide) rfl rfl (v_plain uc);have x3:=k1.cel' hnew (i:=2) (show 2<3 by decide) rfl rfl (v_plain (putV an));have sz:a1.tmps.size=18:=k1.regs.1;refine wp_seq (two_calls LU_ok (by kernel_rfl) hA hC (t1:=1) (t2:=2) (te:=4) (b1:=b1) (b2:=b2) (be:=be) (tf:=66) (ts:=48) (tys:=#[48]) (tys':=#[48]) (yf:=⟨1,[.v .nilFunc],.fu⟩) (ye:=⟨5,[.v (.bool false),.row 1 0 [],.row 1 0 [],.v (.int .i64 0),.row 5 0 []],.st [(0,26),(3,3),(4,46)]⟩) (d:=fun i=>[8,9,10,11,12,13,6,7].getD i 0)
  (by kernel_rfl) (by kernel_rfl) (opAt (opsR (rg Tryz.f75 1))) (fun i hi=>match i,hi with
    |0,_=>(by kernel_rfl:(opsR (rg Tryz.f75 1))[0]?=some (opAt (opsR (rg Tryz.f75 1)) 0))
    |1,_=>(by kernel_rfl:(opsR (rg Tryz.f75 1))[1]?=some (opAt (opsR (rg Tryz.f75 1)) 1))
    |2,_=>(by kernel_rfl:(opsR (rg Tryz.f75 1))[2]?=some (opAt (opsR (rg Tryz.f75 1)) 2))
    |3,_=>(by kernel_rfl:(opsR (rg Tryz.f75 1))[3]?=some (opAt (opsR (rg Tryz.f75 1)) 3))
    |4,_=>(by kernel_rfl:(opsR (rg Tryz.f75 1))[4]?=some (opAt (opsR (rg Tryz.f75 1)) 4))
    |5,_=>(by kernel_rfl:(opsR (rg Tryz.f75 1))[5]?=some (opAt (opsR (rg Tryz.f75 1)) 5))
    |6,_=>(by kernel_rfl:(opsR (rg Tryz.f75 1))[6]?=some (opAt (opsR (rg Tryz.f75 1)) 6))
    |7,_=>(by kernel_rfl:(opsR (rg Tryz.f75 1))[7]?=some (opAt (opsR (rg Tryz.f75 1)) 7))) (fun i hi=>match i,hi with
    |0,_=>(by kernel_rfl:(opAt (opsR (rg Tryz.f75 1)) 0).guard=none)
    |1,_=>(by kernel_rfl:(opAt (opsR (rg Tryz.f75 1)) 1).guard=none)
    |2,_=>(by kernel_rfl:(opAt (opsR (rg Tryz.f75 1)) 2).guard=none)
    |3,_=>(by kernel_rfl:(opAt (opsR (rg Tryz.f75 1)) 3).guard=none)
    |4,_=>(by kernel_rfl:(opAt (opsR (rg Tryz.f75 1)) 4).guard=none)
    |5,_=>(by kernel_rfl:(opAt (opsR (rg Tryz.f75 1)) 5).guard=none)
    |6,_=>(by kernel_rfl:(opAt (opsR (rg Tryz.f75 1)) 6).guard=none)
    |7,_=>(by kernel_rfl:(opAt (opsR (rg Tryz.f75 1)) 7).guard=none)) (fun i hi=>match i,hi with
    |0,_=>(by kernel_rfl:(opAt (opsR (rg Tryz.f75 1)) 0).dst=some 8)
    |1,_=>(by kernel_rfl:(opAt (opsR (rg Tryz.f75 1)) 1).dst=some 9)
    |2,_=>(by kernel_rfl:(opAt (opsR (rg Tryz.f75 1)) 2).dst=some 10)
    |3,_=>(by kernel_rfl:(opAt (opsR (rg Tryz.f75 1)) 3).dst=some 11)
    |4,_=>(by kernel_rfl:(opAt (opsR (rg Tryz.f75 1)) 4).dst=some 12)
    |5,_=>(by kernel_rfl:(opAt (opsR (rg Tryz.f75 1)) 5).dst=some 13)
    |6,_=>(by kernel_rfl:(opAt (opsR (rg Tryz.f75 1)) 6).dst=some 6)
    |7,_=>(by kernel_rfl:(opAt (opsR (rg Tryz.f75 1)) 7).dst=some 7))
  (by kernel_rfl) (fun u=>rfl) rfl (by kernel_rfl) rfl rfl (by kernel_rfl) (by kernel_rfl) (by kernel_rfl) (by kernel_rfl) (by kernel_rfl) (by kernel_rfl) (by kernel_rfl) (by kernel_rfl) (by kernel_rfl) (by kernel_rfl) (by kernel_rfl) (by kernel_rfl) (by kernel_rfl) (by kernel_rfl)
  (far8 (by decide)) (by rw[sz];decide) (by decide) (by decide) (by decide)
  (k1.box' (t:=1) rfl (show 0<3 by decide) rfl) (k1.box' (t:=2) rfl (show 1<3 by decide) rfl) hte k1.defers x1 x2 (k1.celN hnew hgb rfl (en_plain e)) n1l n2l (fun hm=>by have:=ltl be hm;omega) hRl nl hnew1 he ha1 hc1' (fun a2 W2 hI=>?_))
 show (Code.seq _ _).wp _ _ _ _
 have nb:∀c∈[b1,b2,b3],c ∉ l++m:=fun c hc hm=>hdl c hm hc
 have ea:a2=⟨a2.tmps,[]⟩:=by
  have:=hI.defers;cases a2;simp only at this;rw[this]
 have k2:Ok R ⟨W2,[some b1,some b2,some b3],[]⟩ [some b1,some b2,some b3] (C2 ua uc (putV an) (x.run e).1 (y.run e).1) a2 W2:=by
  rw[ea];refine Ok.make [(b1,[.v ua]),(b2,[.v uc]),(b3,[.v (putV an)])] 18 [(3,.g (.one (.ptr 2 0))),(6,.g (truth (x.run e).1)),(7,.g (truth (y.run e).1))] (by simp[n12,n13,n23]) (fun q hq=>by
   rcases mem3.1 hq with rfl|rfl|rfl
   ·exact x1.ext hI.ext hRl n1l
   ·exact x2.ext hI.ext hRl n2l
   ·exact x3.ext hI.ext hRl n3l) (fun q hq=>by
   rcases mem3.1 hq with rfl|rfl|rfl<;>exact hRb _ (by simp)) (hI.size.trans sz) (fun q hq=>by
   rcases mem3.1 hq with rfl|rfl|rfl
   ·exact⟨pt b3,(hI.off 3 (by decide)).trans (k1.box' (t:=3) rfl (show 2<3 by decide) rfl),b3,rfl,rfl⟩
   ·obtain⟨w,h1,h2⟩:=hI.on 6 (by decide) rfl
    have h2:w=.bool (x.run e).1:=h2;subst h2;exact⟨_,h1,TC.of_v (g:=[some b1,some b2,some b3]) (ok:=FP R W2.heap.size [some b1,some b2,some b3]) (w:=W2) rfl⟩
   ·obtain⟨w,h1,h2⟩:=hI.on 7 (by decide) rfl
    have h2:w=.bool (y.run e).1:=h2;subst h2;exact⟨_,h1,TC.of_v (g:=[some b1,some b2,some b3]) (ok:=FP R W2.heap.size [some b1,some b2,some b3]) (w:=W2) rfl⟩)
 refine wp_seq (c2_at ua uc an (x.run e).1 (y.run e).1 _ _ _ _ _ _ k2 (fun g3 a3 W3 k3=>?_))
 show Code.ret.wp _ _ _ _
 have e3:Ext W2 W3 [b1,b2,b3]:=Ext.keep k3.below inb;have en:Ext W W3 (b1::b2::b3::(l++m)):=((e1.mono sub).trans (hI.ext.mono subl)).trans (e3.mono sub);have hnew2:∀k,W2.heap.size≤k→R k:=fun k hk=>hnew1 k (Nat.le_trans hI.ext.size hk)
 refine wp_ret (end_at LU_ok k3 (by kernel_rfl) ⟨rfl,⟨b1,b2,b3,ua,uc,l,m,rfl,rfl,?_,?_,?_,?_,?_⟩,en⟩)
 ·exact k3.cel' hnew2 (i:=0) (show 0<3 by decide) rfl rfl (v_plain _)
 ·exact k3.cel' hnew2 (i:=1) (show 1<3 by decide) rfl rfl (v_plain _)
 ·exact k3.cel' hnew2 (i:=2) (show 2<3 by decide) rfl rfl (v_plain _)
 ·exact Has.ext (x:=(x.run e).2) hI.ha e3 hRb (fun c h=>hdl c (List.mem_append_left _ h))
 ·exact Has.ext (x:=(y.run e).2) hI.hc e3 hRb (fun c h=>hdl c (List.mem_append_right _ h))
end
section
theorem mem4 {α:Type} {x a b c d:α}:x∈[a,b,c,d]↔x=a∨x=b∨x=c∨x=d:=by simp
def D0 (f:Fm) (e:En) (ua uc:Value) (l:Option N3):St:=⟨sparse 29 [(0,.g (.agg e.c)),(1,.g (.one (.ptr 1 0))),(2,.g (.one (.ptr 2 0))),(3,.g (.one (.ptr 3 0))),(4,.g (.one (.ptr 0 0)))],[some (true,f.c),some (true,[.v ua]),some (true,[.v uc]),some (true,recC l)],4⟩
def D1 (f:Fm) (e:En) (ua uc:Value) (l:Option N3):St:=⟨sparse 29 [(1,.g (.one (.ptr 1 0))),(2,.g (.one (.ptr 2 0))),(3,.g (.one (.ptr 3 0))),(4,.g (.one (.ptr 0 0))),(5,.g (.one (.ptr 4 0)))],[some (true,f.c),some (true,[.v ua]),some (true,[.v uc]),some (true,recC l),some (false,e.c)],4⟩
def D2 (f:Fm) (e:En) (ua uc:Value) (l:Option N3) (x y:Bool):St:=⟨sparse 29 [(3,.g (.one (.ptr 3 0))),(4,.g (.one (.ptr 0 0))),(5,.g (.one (.pe e.c))),(7,.g (truth x)),(8,.g (truth y))],[some (true,f.c),some (true,[.v ua]),some (true,[.v uc]),some (true,recC l)],4⟩
def D3 (f:Fm) (e:En) (ua uc:Value) (l:Option N3):St:=⟨sparse 29 [(3,.g (.one (.ptr 3 0))),(4,.g (.one (.ptr 0 0))),(5,.g (.one (.pe e.c)))],[some (true,f.c),some (true,[.v ua]),some (true,[.v uc]),some (true,recC l)],4⟩
def D4 (f:Fm) (ua uc:Value) (l:Option N3) (r:Bool):St:=⟨sparse 29 [(6,.g (truth r))],[some (true,f.c),some (true,[.v ua]),some (true,[.v uc]),some (true,recC l)],4⟩
theorem d0_at (f:Fm) (e:En) (ua uc:Value) (l:Option N3):CodeCon Tryz.prog (rg Tryz.f79 0) (D0 f e ua uc l) .normal (D1 f e ua uc l):=by
 obtain⟨k,o,p,n,a,b,w⟩:=f;cases l<;>exact atU _ _ [] (by kernel_rfl)
theorem d2_at (f:Fm) (e:En) (ua uc:Value) (l:Option N3) (x y:Bool):CodeCon Tryz.prog (.block 0 (.seq (rg Tryz.f79 2) (.cond (.tmp 15) (rg Tryz.f79 3) (.seq (rg Tryz.f79 4) (.cond (.tmp 20) (rg Tryz.f79 5) .skip))))) (D2 f e ua uc l x y) .normal (D3 f e ua uc (bif y then some e.time else bif x then l else none)):=by
 obtain⟨k,o,p,n,a,b,w⟩:=f;cases y with
 |true=>cases l<;>exact atU _ _ [ends (rfl:true=true)] (by kernel_rfl)
 |false=>cases x with
  |true=>cases l<;>exact atU _ _ [ends (rfl:false=false),ends (rfl:(!true)=false)] (by kernel_rfl)
  |false=>cases l<;>exact atU _ _ [ends (rfl:false=false),ends (rfl:(!false)=true)] (by kernel_rfl)
theorem d3_at (f:Fm) (e:En) (ua uc:Value) (l:Option N3) (hf:f.own) (hl:lastOk l) (he:e.ok):CodeCon Tryz.prog (rg Tryz.f79 6) (D3 f e ua uc l) .normal (D4 f ua uc l (countsF f l e.time)):=by
 have C:=counts_con f l e.time hf hl he.time he.sh;generalize countsF f l e.time=r at *;obtain⟨k,o,p,n,a,b,w⟩:=f;cases l<;>exact atU _ _ [gives C] (by kernel_rfl)
theorem acts_since {R:Nat→Prop} {x y:Wt} (f:Fm) (la:Option N3) (hf:f.own) (hla:lastOk la) (hA:Acts Tryz.prog R x) (hC:Acts Tryz.prog R y):Acts Tryz.prog R (.since f la x y):=by
 intro W u bs e v h hn hR hnew he hv;obtain⟨b1,b2,b3,b4,ua,uc,l,m,rfl,rfl,hc1,hc2,hc3,hc4,ha,hc⟩:=h;have eb:Tryz.f79.body=some (.seq (rg Tryz.f79 0) (.seq (.region 1 (opsR (rg Tryz.f79 1)) true) (.seq (.block 0 (.seq (rg Tryz.f79 2) (.cond (.tmp 15) (rg Tryz.f79 3) (.seq (rg Tryz.f79 4) (.cond (.tmp 20) (rg Tryz.f79 5) .skip))))) (.seq (rg Tryz.f79 6) .ret)))):=by kernel_rfl
 simp only[List.nodup_cons,List.mem_cons,not_or] at hn;obtain⟨⟨n12,n13,n14,n1l⟩,⟨n23,n24,n2l⟩,⟨n34,n3l⟩,n4l,nl⟩:=hn;have hRl:∀b∈l++m,¬R b:=fun b hb=>hR b (by simp only[List.mem_cons];exact .inr (.inr (.inr (.inr hb))))
 have hRb:∀b∈[b1,b2,b3,b4],¬R b:=fun b hb=>hR b (by rcases mem4.1 hb with rfl|rfl|rfl|rfl<;>simp)
 have hdl:∀c∈l++m,c ∉ [b1,b2,b3,b4]:=fun c hc hm=>by
  rcases mem4.1 hm with rfl|rfl|rfl|rfl
  ·exact n1l hc
  ·exact n2l hc
  ·exact n3l hc
  ·exact n4l hc
 have inb:∀c,some c∈[some b1,some b2,some b3,some b4]→c∈[b1,b2,b3,b4]:=fun c hc=>by simpa using hc
 have sub:∀c∈[b1,b2,b3,b4],c∈b1::b2::b3::b4::(l++m):=fun c hc=>by rcases mem4.1 hc with rfl|rfl|rfl|rfl<;>simp
 have subl:∀c∈l++m,c∈b1::b2::b3::b4::(l++m):=fun c hc=>List.mem_cons_of_mem _ (List.mem_cons_of_mem _ (List.mem_cons_of_mem _ (List.mem_cons_of_mem _ hc)))
 have ltl:∀c∈l++m,c<W.heap.size:=fun c hm=>by
  rcases List.mem_append.1 hm with h|h
  ·exact ha.lt c h
  ·exact hc.lt c h
 refine⟨79,#[pt b2,pt b3,pt b4,pt b1],rfl,fun W=>enters_ Tryz.func79 (by kernel_rfl) rfl _ W,calls_of_wp Tryz.func79 eb ?_⟩
 rw[show Tryz.f79.ntmps=29 by kernel_rfl];have k0:Ok R ⟨W,[some b1,some b2,some b3,some b4],[]⟩ [some b1,some b2,some b3,some b4] (D0 f e ua uc la) _ W:=start_at (v:=v) 29 [(b1,f.c),(b2,[.v ua]),(b3,[.v uc]),(b4,recC la)] [1,2,3,0] #[pt b2,pt b3,pt b4,pt b1] rfl rfl (by decide) (by simp[n12,n13,n14,n23,n24,n34]) (fun q hq=>by
    rcases mem4.1 hq with rfl|rfl|rfl|rfl
    ·exact hc1
    ·exact hc2
    ·exact hc3
    ·exact hc4) (fun q hq=>by
    rcases mem4.1 hq with rfl|rfl|rfl|rfl<;>exact hRb _ (by simp)) hv
 refine wp_seq (d0_at f e ua uc la _ _ _ _ _ _ k0 (fun g1 a1 W1 k1=>?_))
 show (Code.seq _ _).wp _ _ _ _
 have e1:Ext W W1 [b1,b2,b3,b4]:=Ext.keep k1.below inb;have ha1:=ha.ext e1 hRb (fun c h=>hdl c (List.mem_append_left _ h));have hc1':=hc.ext e1 hRb (fun c h=>hdl c (List.mem_append_right _ h));have hnew1:∀k,W1.heap.size≤k→R k:=fun k hk=>hnew k (Nat.le_trans e1.size hk)
 obtain⟨be,hgb,hte⟩:=k1.box (t:=5) (i:=4) rfl;have lbe:=k1.isnew (fun j hj=>by
  match j,hj with
  |0,_=>exact⟨_,_,rfl⟩
  |1,_=>exact⟨_,_,rfl⟩
  |2,_=>exact⟨_,_,rfl⟩
  |3,_=>exact⟨_,_,rfl⟩) (show 4≤4 by decide) ⟨_,_,rfl⟩ hgb
 have x1:=k1.cel' hnew (i:=0) (show 0<4 by decide) rfl rfl (fm_plain f);have x2:=k1.cel' hnew (i:=1) (show 1<4 by decide) rfl rfl (v_plain ua);have x3:=k1.cel' hnew (i:=2) (show 2<4 by decide) rfl rfl (v_plain uc);have x4:=k1.cel' hnew (i:=3) (show 3<4 by decide) rfl rfl (rec_plain la);have sz:a1.tmps.size=29:=k1.regs.1;refine wp_seq (two_calls LU_ok (by kernel_rfl) hA hC (t1:=1) (t2:=2) (te:=5) (b1:=b2) (b2:=b3) (be:=be) (tf:=66) (ts:=48) (tys:=#[48]) (tys':=#[48]) (yf:=⟨1,[.v .nilFunc],.fu⟩) (ye:=⟨5,[.v (.bool false),.row 1 0 [],.row 1 0 [],.v (.int .i64 0),.row 5 0 []],.st [(0,26),(3,3),(4,46)]⟩) (d:=fun i=>[9,10,11,12,13,14,7,8].getD i 0)
  (by kernel_rfl) (by kernel_rfl) (opAt (opsR (rg Tryz.f79 1))) (fun i hi=>match i,hi with
    |0,_=>(by kernel_rfl:(opsR (rg Tryz.f79 1))[0]?=some (opAt (opsR (rg Tryz.f79 1)) 0))
    |1,_=>(by kernel_rfl:(opsR (rg Tryz.f79 1))[1]?=some (opAt (opsR (rg Tryz.f79 1)) 1))
    |2,_=>(by kernel_rfl:(opsR (rg Tryz.f79 1))[2]?=some (opAt (opsR (rg Tryz.f79 1)) 2))
    |3,_=>(by kernel_rfl:(opsR (rg Tryz.f79 1))[3]?=some (opAt (opsR (rg Tryz.f79 1)) 3))
    |4,_=>(by kernel_rfl:(opsR (rg Tryz.f79 1))[4]?=some (opAt (opsR (rg Tryz.f79 1)) 4))
    |5,_=>(by kernel_rfl:(opsR (rg Tryz.f79 1))[5]?=some (opAt (opsR (rg Tryz.f79 1)) 5))
    |6,_=>(by kernel_rfl:(opsR (rg Tryz.f79 1))[6]?=some (opAt (opsR (rg Tryz.f79 1)) 6))
    |7,_=>(by kernel_rfl:(opsR (rg Tryz.f79 1))[7]?=some (opAt (opsR (rg Tryz.f79 1)) 7))) (fun i hi=>match i,hi with
    |0,_=>(by kernel_rfl:(opAt (opsR (rg Tryz.f79 1)) 0).guard=none)
    |1,_=>(by kernel_rfl:(opAt (opsR (rg Tryz.f79 1)) 1).guard=none)
    |2,_=>(by kernel_rfl:(opAt (opsR (rg Tryz.f79 1)) 2).guard=none)
    |3,_=>(by kernel_rfl:(opAt (opsR (rg Tryz.f79 1)) 3).guard=none)
    |4,_=>(by kernel_rfl:(opAt (opsR (rg Tryz.f79 1)) 4).guard=none)
    |5,_=>(by kernel_rfl:(opAt (opsR (rg Tryz.f79 1)) 5).guard=none)
    |6,_=>(by kernel_rfl:(opAt (opsR (rg Tryz.f79 1)) 6).guard=none)
    |7,_=>(by kernel_rfl:(opAt (opsR (rg Tryz.f79 1)) 7).guard=none)) (fun i hi=>match i,hi with
    |0,_=>(by kernel_rfl:(opAt (opsR (rg Tryz.f79 1)) 0).dst=some 9)
    |1,_=>(by kernel_rfl:(opAt (opsR (rg Tryz.f79 1)) 1).dst=some 10)
    |2,_=>(by kernel_rfl:(opAt (opsR (rg Tryz.f79 1)) 2).dst=some 11)
    |3,_=>(by kernel_rfl:(opAt (opsR (rg Tryz.f79 1)) 3).dst=some 12)
    |4,_=>(by kernel_rfl:(opAt (opsR (rg Tryz.f79 1)) 4).dst=some 13)
    |5,_=>(by kernel_rfl:(opAt (opsR (rg Tryz.f79 1)) 5).dst=some 14)
    |6,_=>(by kernel_rfl:(opAt (opsR (rg Tryz.f79 1)) 6).dst=some 7)
    |7,_=>(by kernel_rfl:(opAt (opsR (rg Tryz.f79 1)) 7).dst=some 8))
  (by kernel_rfl) (fun u=>rfl) rfl (by kernel_rfl) rfl rfl (by kernel_rfl) (by kernel_rfl) (by kernel_rfl) (by kernel_rfl) (by kernel_rfl) (by kernel_rfl) (by kernel_rfl) (by kernel_rfl) (by kernel_rfl) (by kernel_rfl) (by kernel_rfl) (by kernel_rfl) (by kernel_rfl) (by kernel_rfl)
  (far8 (by decide)) (by rw[sz];decide) (by decide) (by decide) (by decide)
  (k1.box' (t:=1) rfl (show 1<4 by decide) rfl) (k1.box' (t:=2) rfl (show 2<4 by decide) rfl) hte k1.defers x2 x3 (k1.celN hnew hgb rfl (en_plain e)) n2l n3l (fun hm=>by have:=ltl be hm;omega) hRl nl hnew1 he ha1 hc1' (fun a2 W2 hI=>?_))
 show (Code.seq _ _).wp _ _ _ _
 have nb:∀c∈[b1,b2,b3,b4],c ∉ l++m:=fun c hc hm=>hdl c hm hc
 have ea:a2=⟨a2.tmps,[]⟩:=by
  have:=hI.defers;cases a2;simp only at this;rw[this]
 have xe:=(k1.celN hnew hgb rfl (en_plain e)).ext hI.ext hRl (fun hm=>by have:=ltl be hm;omega);have k2:Ok R ⟨W2,[some b1,some b2,some b3,some b4],[]⟩ [some b1,some b2,some b3,some b4] (D2 f e ua uc la (x.run e).1 (y.run e).1) a2 W2:=by
  rw[ea];refine Ok.make [(b1,f.c),(b2,[.v ua]),(b3,[.v uc]),(b4,recC la)] 29 [(3,.g (.one (.ptr 3 0))),(4,.g (.one (.ptr 0 0))),(5,.g (.one (.pe e.c))),(7,.g (truth (x.run e).1)),(8,.g (truth (y.run e).1))] (by simp[n12,n13,n14,n23,n24,n34]) (fun q hq=>by
   rcases mem4.1 hq with rfl|rfl|rfl|rfl
   ·exact x1.ext hI.ext hRl n1l
   ·exact x2.ext hI.ext hRl n2l
   ·exact x3.ext hI.ext hRl n3l
   ·exact x4.ext hI.ext hRl n4l) (fun q hq=>by
   rcases mem4.1 hq with rfl|rfl|rfl|rfl<;>exact hRb _ (by simp)) (hI.size.trans sz) (fun q hq=>by
   simp only[List.mem_cons,List.not_mem_nil,or_false] at hq;rcases hq with rfl|rfl|rfl|rfl|rfl
   ·exact⟨pt b4,(hI.off 3 (by decide)).trans (k1.box' (t:=3) rfl (show 3<4 by decide) rfl),b4,rfl,rfl⟩
   ·exact⟨pt b1,(hI.off 4 (by decide)).trans (k1.box' (t:=4) rfl (show 0<4 by decide) rfl),b1,rfl,rfl⟩
   ·refine⟨pt be,(hI.off 5 (by decide)).trans hte,?_⟩
    exact TC.mv (g:=[]) (g':=[some b1,some b2,some b3,some b4]) (ok':=FP R W2.heap.size [some b1,some b2,some b3,some b4]) ⟨fun i b hb=>(by cases hb),fun _ _ _=>rfl,fun k hk _=>⟨.inl hk,fun hm=>hRb k (inb k hm) hk⟩,fun i b cur e hb=>by cases hb⟩ (xe.pe (hnew be lbe) (en_plain e) ⟨_,rfl⟩)
   ·obtain⟨w,h1,h2⟩:=hI.on 6 (by decide) rfl
    have h2:w=.bool (x.run e).1:=h2;subst h2;exact⟨_,h1,TC.of_v (g:=[some b1,some b2,some b3,some b4]) (ok:=FP R W2.heap.size [some b1,some b2,some b3,some b4]) (w:=W2) rfl⟩
   ·obtain⟨w,h1,h2⟩:=hI.on 7 (by decide) rfl
    have h2:w=.bool (y.run e).1:=h2;subst h2;exact⟨_,h1,TC.of_v (g:=[some b1,some b2,some b3,some b4]) (ok:=FP R W2.heap.size [some b1,some b2,some b3,some b4]) (w:=W2) rfl⟩)
 refine wp_seq (d2_at f e ua uc la (x.run e).1 (y.run e).1 _ _ _ _ _ _ k2 (fun g4 a4 W4 k4=>?_))
 show (Code.seq _ _).wp _ _ _ _
 refine wp_seq (d3_at f e ua uc _ hf (since_ok hla he _ _) he _ _ _ _ _ _ k4 (fun g3 a3 W3 k3=>?_))
 show Code.ret.wp _ _ _ _
 have e3:Ext W2 W3 [b1,b2,b3,b4]:=Ext.keep k3.below inb;have en:Ext W W3 (b1::b2::b3::b4::(l++m)):=((e1.mono sub).trans (hI.ext.mono subl)).trans (e3.mono sub);have hnew2:∀k,W2.heap.size≤k→R k:=fun k hk=>hnew1 k (Nat.le_trans hI.ext.size hk)
 refine wp_ret (end_at LU_ok k3 (by kernel_rfl) ⟨rfl,⟨b1,b2,b3,b4,ua,uc,l,m,rfl,rfl,?_,?_,?_,?_,?_,?_⟩,en⟩)
 ·exact k3.cel' hnew2 (i:=0) (show 0<4 by decide) rfl rfl (fm_plain _)
 ·exact k3.cel' hnew2 (i:=1) (show 1<4 by decide) rfl rfl (v_plain _)
 ·exact k3.cel' hnew2 (i:=2) (show 2<4 by decide) rfl rfl (v_plain _)
 ·exact k3.cel' hnew2 (i:=3) (show 3<4 by decide) rfl rfl (rec_plain _)
 ·exact Has.ext (x:=(x.run e).2) hI.ha e3 hRb (fun c h=>hdl c (List.mem_append_left _ h))
 ·exact Has.ext (x:=(y.run e).2) hI.hc e3 hRb (fun c h=>hdl c (List.mem_append_right _ h))
theorem acts {R:Nat→Prop}:∀x:Wt,x.ok→Acts Tryz.prog R x
 | .atom f,h=>acts_atom f h
 | .not a,h=>acts_not (acts a h)
 | .both an a c,h=>acts_both an (acts a h.1) (acts c h.2)
 | .prev hh a,h=>acts_prev hh (acts a h)
 | .once f la a,h=>acts_once f la h.1 h.2.1 (acts a h.2.2)
 | .since f la a c,h=>acts_since f la h.1 h.2.1 (acts a h.2.2.1) (acts c h.2.2.2)
end
section
theorem seg_m {P:Program} {L:Lays} (hL:LaysOk P L) {ops:Array Oper} {i:Nat} {xs:List Oper} {ok0:Nat→Prop} {w0:Base} {g:List (Option Nat)} {s:St} {a:Act} {w:World} (q:St) (pf:List (Prf P)) (ms:List Nat) (pl:List (List AC)) (hp:∀cs∈pl,Plain cs) (hok:Ok ok0 w0 g s a w)
  (h:(match runL L ops i xs s (Prf.ans pf) with
    |some (s',az,ds)=>(some (fit q s' ms,az,ds):Option ((St×List (List AC))×List Ans×List Dem))
    |none=>none)=some ((q,pl),[],Prf.dem pf)):wpList P ops (fun e a' w'=>e=.normal∧∃g',Ok ok0 w0 g' q a' w') xs a w:=by
 split at h
 ·rename_i s' az ds h1
  injection h with h;injection h with h2 h3;injection h3 with h3 h4;subst h3;refine runL_at hL hok h1 (by rw[h4];exact Prf.sos pf) (fun g' a' w' hk=>⟨rfl,?_⟩)
  obtain⟨g2,h5⟩:=hk.fit q ms (by rw[h2];exact hp);rw[h2] at h5;exact⟨g2,h5⟩
 ·cases h
theorem row_plain (l:List Value):Plain (l.map AC.v):=fun c hc=>by
 obtain⟨v,_,rfl⟩:=List.mem_map.1 hc;rfl
theorem row1 (u:Value):∀cs∈[[AC.v u]],Plain cs:=fun cs hc=>by rw[List.mem_singleton.1 hc];exact v_plain u
def nilS:AC:=.v (.slice none 0 0)
def frow (a:List Fm):AC:=.row 11 a.length (fcs a)
def G0 (f:Fm):St:=⟨sparse 79 [(0,.g (.agg f.c))],[],0⟩
def G1 (f:Fm):St:=⟨sparse 79 [(1,.g (.one (.ptr 0 0)))],[some (false,f.c)],0⟩
def G2 (f:Fm):St:=⟨sparse 79 [(1,.g (.one (.ptr 0 0))),(3,.g (.one nilS))],[some (false,f.c)],0⟩
def G3 (f:Fm) (i:Int):St:=⟨sparse 79 [(1,.g (.one (.ptr 0 0))),(3,.g (.one nilS)),(7,.g (.one (frow f.args))),(8,.g (num f.args.length)),(9,.g (num i))],[some (false,f.c)],0⟩
theorem g0_at (f:Fm):CodeCon Tryz.prog (rg Tryz.f30 0) (G0 f) .normal (G1 f):=by
 obtain⟨k,o,p,n,a,b,w⟩:=f;exact atU _ _ [] (by kernel_rfl)
theorem g1_at (f:Fm):CodeCon Tryz.prog (rg Tryz.f30 1) (G1 f) .normal (G2 f):=by
 obtain⟨k,o,p,n,a,b,w⟩:=f;exact atU _ _ [] (by kernel_rfl)
theorem g2_at (f:Fm):CodeCon Tryz.prog (rg Tryz.f30 2) (G2 f) .normal (G3 f 0):=by
 obtain⟨k,o,p,n,a,b,w⟩:=f;exact atU _ _ [] (by kernel_rfl)
section
variable {ok0:Nat→Prop} {w0:Base} {g:List (Option Nat)} {a:Act} {w:World}
def K0 (f x:Fm):St:=⟨sparse 79 [(1,.g (.one (.ptr 0 0))),(3,.g (.one nilS)),(5,.g (.one (.ptr 1 0))),(7,.g (.one (frow f.args))),(8,.g (num f.args.length)),(9,.g (num 0))],[some (false,f.c),some (false,x.c)],0⟩
def K1 (f x:Fm):St:=⟨sparse 79 [(1,.g (.one (.ptr 0 0))),(7,.g (.one (frow f.args))),(8,.g (num f.args.length)),(9,.g (num 0)),(13,.g (.one nilS)),(14,.g (.agg x.c))],[some (false,f.c)],0⟩
def K2 (f:Fm) (u:Value) (i:Int):St:=⟨sparse 79 [(1,.g (.one (.ptr 0 0))),(3,.g (.one (.sl 1 66 1 1))),(7,.g (.one (frow f.args))),(8,.g (num f.args.length)),(9,.g (num i))],[some (true,f.c),some (false,[.v u])],1⟩
theorem k0_at (k o:Int) (p:ByteArray) (n:N3) (x:Fm) (r:List Fm) (b:Bool) (w:N3):CodeCon Tryz.prog (rg Tryz.f30 4) (G3 (.mk k o p n (x::r) b w) 0) .normal (K0 (.mk k o p n (x::r) b w) x):=by
 have hel:(0:Int)≤0∧(fcs (x::r))[(0:Int).toNat]?=some x.c:=⟨by decide,rfl⟩;obtain⟨k',o',p',n',a',b',w'⟩:=x;exact atU _ _ [elem hel] (by kernel_rfl)
theorem k1_pre (k o:Int) (p:ByteArray) (n:N3) (x:Fm) (r:List Fm) (b:Bool) (w':N3) (hok:Ok ok0 w0 g (K0 (.mk k o p n (x::r) b w') x) a w):wpList Tryz.prog (opsR (rg Tryz.f30 5)) (fun e a' w1=>e=.normal∧∃g',Ok ok0 w0 g' (K1 (.mk k o p n (x::r) b w') x) a' w1) ((opsR (rg Tryz.f30 5)).toList.take 2) a w:=by
 obtain⟨k',o',p',n',a',b',w''⟩:=x;exact seg_at LU_ok (i:=0) (K1 _ _) [] hok (by kernel_rfl)
def K1' (f x:Fm):St:=⟨sparse 79 [(1,.g (.one (.ptr 0 0))),(7,.g (.one (frow f.args))),(8,.g (num f.args.length)),(9,.g (num 0)),(13,.g (.one nilS)),(14,.g (.agg x.c))],[some (true,f.c)],1⟩
theorem k1_post (k o:Int) (p:ByteArray) (n:N3) (x:Fm) (r:List Fm) (b:Bool) (w':N3) (u:Value) (hok:Ok ok0 w0 g ((K1' (.mk k o p n (x::r) b w') x).put (some 15) (some (.g (.one (.v u))))) a w):wpList Tryz.prog (opsR (rg Tryz.f30 5)) (fun e a' w1=>e=.normal∧∃g',Ok ok0 w0 g' (K2 (.mk k o p n (x::r) b w') u 0) a' w1) ((opsR (rg Tryz.f30 5)).toList.drop 3) a w:=by
 obtain⟨k',o',p',n',a',b',w''⟩:=x;exact seg_m LU_ok (i:=3) (K2 _ u 0) [more (cs:=[]) (n:=0) (k:=1) (m:=1) (es:=[[.v u]]) (ds:=[.v u]) ⟨rfl,by decide,by decide,rfl⟩] [] [[.v u]] (row1 u) hok (by kernel_rfl)
def L0 (f y:Fm) (u:Value):St:=⟨sparse 79 [(1,.g (.one (.ptr 0 0))),(3,.g (.one (.sl 1 66 1 1))),(5,.g (.one (.ptr 2 0))),(7,.g (.one (frow f.args))),(8,.g (num f.args.length)),(9,.g (num 1))],[some (true,f.c),some (false,[.v u]),some (false,y.c)],1⟩
def L1 (f y:Fm) (u:Value):St:=⟨sparse 79 [(1,.g (.one (.ptr 0 0))),(7,.g (.one (frow f.args))),(8,.g (num f.args.length)),(9,.g (num 1)),(13,.g (.one (.sl 1 66 1 1))),(14,.g (.agg y.c))],[some (true,f.c),some (false,[.v u])],1⟩
def L1' (f y:Fm) (u:Value):St:=⟨sparse 79 [(1,.g (.one (.ptr 0 0))),(7,.g (.one (frow f.args))),(8,.g (num f.args.length)),(9,.g (num 1)),(13,.g (.one (.sl 1 66 1 1))),(14,.g (.agg y.c))],[some (true,f.c),some (true,[.v u])],2⟩
def L2 (f:Fm) (u v:Value) (i:Int):St:=⟨sparse 79 [(1,.g (.one (.ptr 0 0))),(3,.g (.one (.sl 2 66 1 2))),(7,.g (.one (frow f.args))),(8,.g (num f.args.length)),(9,.g (num i))],[some (true,f.c),none,some (true,[.v u,.v v])],2⟩
theorem l0_at (k o:Int) (p:ByteArray) (n:N3) (x y:Fm) (r:List Fm) (b:Bool) (w:N3) (u:Value):CodeCon Tryz.prog (rg Tryz.f30 4) (K2 (.mk k o p n (x::y::r) b w) u 1) .normal (L0 (.mk k o p n (x::y::r) b w) y u):=by
 have hel:(0:Int)≤1∧(fcs (x::y::r))[(1:Int).toNat]?=some y.c:=⟨by decide,rfl⟩;obtain⟨k',o',p',n',a',b',w'⟩:=y;exact atUm [] _ _ [elem hel] [[.v u]] (row1 u) (by kernel_rfl)
theorem l1_pre (k o:Int) (p:ByteArray) (n:N3) (x y:Fm) (r:List Fm) (b:Bool) (w':N3) (u:Value) (hok:Ok ok0 w0 g (L0 (.mk k o p n (x::y::r) b w') y u) a w):wpList Tryz.prog (opsR (rg Tryz.f30 5)) (fun e a' w1=>e=.normal∧∃g',Ok ok0 w0 g' (L1 (.mk k o p n (x::y::r) b w') y u) a' w1) ((opsR (rg Tryz.f30 5)).toList.take 2) a w:=by
 obtain⟨k',o',p',n',a',b',w''⟩:=y;exact seg_m LU_ok (i:=0) (L1 _ _ u) [] [] [[.v u]] (row1 u) hok (by kernel_rfl)
theorem l1_post (k o:Int) (p:ByteArray) (n:N3) (x y:Fm) (r:List Fm) (b:Bool) (w':N3) (u v:Value) (hok:Ok ok0 w0 g ((L1' (.mk k o p n (x::y::r) b w') y u).put (some 15) (some (.g (.one (.v v))))) a w):wpList Tryz.prog (opsR (rg Tryz.f30 5)) (fun e a' w1=>e=.normal∧∃g',Ok ok0 w0 g' (L2 (.mk k o p n (x::y::r) b w') u v 1) a' w1) ((opsR (rg Tryz.f30 5)).toList.drop 3) a w:=by
 obtain⟨k',o',p',n',a',b',w''⟩:=y;exact seg_m LU_ok (i:=3) (L2 _ u v 1) [more (cs:=[.v u]) (n:=1) (k:=1) (m:=1) (es:=[[.v v]]) (ds:=[.v u,.v v]) ⟨rfl,by decide,by decide,rfl⟩] [] [[.v u,.v v]] (fun cs hc=>by rw[List.mem_singleton.1 hc];exact row_plain [u,v]) hok (by kernel_rfl)
end
def restC (fn:Func):Code:=match fn.body with
 |some (.seq _ (.seq _ (.seq _ c)))=>c
 |_=>.skip
def Z1 (f:Fm) (u:Value):St:=⟨sparse 79 [(2,.g (.one (.fn 74 [] [.ptr 1 0])))],[some (true,f.c),some (false,[.v u])],1⟩
theorem z_not (o:Int) (p:ByteArray) (n:N3) (r:List Fm) (b:Bool) (w:N3) (u:Value):CodeCon Tryz.prog (restC Tryz.f30) (K2 (.mk 4 o p n r b w) u 1) .ret (Z1 (.mk 4 o p n r b w) u) :=
 atU _ _ [ends (rfl:((4:Int)==4)=true),spot (n:=0) (j:=0) (m:=1) ⟨rfl,by decide⟩,told1 (cs:=[.v u]) (o:=0) (k:=1) (ds:=[.v u]) rfl,bare [[.v u]] (row1 u),hands [] [true] (mk_not u)] (by kernel_rfl)
def pV (an:Bool):Value:=.func (.func (bif an then 51 else 52)) #[] #[]
def Z2 (f:Fm) (u v p:Value):St:=⟨sparse 79 [(2,.g (.one (.fn 75 [] [.ptr 2 0,.ptr 3 0,.ptr 4 0])))],[some (true,f.c),none,some (false,[.v u]),some (false,[.v v]),some (false,[.v p])],2⟩
def Z3 (f:Fm) (u:Value):St:=⟨sparse 79 [(2,.g (.one (.fn 76 [] [.ptr 2 0,.ptr 1 0])))],[some (true,f.c),some (false,[.v u]),some (false,[.v (.bool false)])],1⟩
def Z4 (f:Fm) (u:Value):St:=⟨sparse 79 [(2,.g (.one (.fn 77 [] [.ptr 2 0,.ptr 3 0,.ptr 1 0])))],[some (true,f.c),some (false,f.c),some (false,[.v u]),some (false,recC none)],1⟩
def Z6 (f:Fm) (u v:Value):St:=⟨sparse 79 [(2,.g (.one (.fn 79 [] [.ptr 3 0,.ptr 4 0,.ptr 5 0,.ptr 2 0])))],[some (true,f.c),none,some (false,f.c),some (false,[.v u]),some (false,[.v v]),some (false,recC none)],2⟩
def Z7 (f:Fm):St:=⟨sparse 79 [(2,.g (.one (.fn 80 [] [.ptr 1 0])))],[some (false,f.c),some (false,f.c)],0⟩
theorem z_prev (o:Int) (p:ByteArray) (n:N3) (r:List Fm) (b:Bool) (w:N3) (u:Value):CodeCon Tryz.prog (restC Tryz.f30) (K2 (.mk 7 o p n r b w) u 1) .ret (Z3 (.mk 7 o p n r b w) u) :=
 atU _ _ [ends (rfl:((7:Int)==4)=false),ends (rfl:((7:Int)==5)=false),ends (rfl:((7:Int)==6)=false),ends (rfl:((7:Int)==7)=true),spot (n:=0) (j:=0) (m:=1) ⟨rfl,by decide⟩,told1 (cs:=[.v u]) (o:=0) (k:=1) (ds:=[.v u]) rfl,bare [[.v u],[.v (.bool false)]] (fun cs hc=>by simp only[List.mem_cons,List.not_mem_nil,or_false] at hc;rcases hc with rfl|rfl<;>exact v_plain _),hands [] [true,true] (mk_prev u)] (by kernel_rfl)
theorem z_atom (k o:Int) (p:ByteArray) (n:N3) (b:Bool) (w:N3) (hk:¬k=4∧¬k=5∧¬k=6∧¬k=7∧¬k=8∧¬k=9∧¬k=10):CodeCon Tryz.prog (restC Tryz.f30) (G3 (.mk k o p n [] b w) 0) .ret (Z7 (.mk k o p n [] b w)) :=
 atU _ _ [ends (eq_f hk.1),ends (eq_f hk.2.1),ends (eq_f hk.2.2.1),ends (eq_f hk.2.2.2.1),ends (eq_f hk.2.2.2.2.1),ends (eq_f hk.2.2.2.2.2.1),ends (eq_f hk.2.2.2.2.2.2),bare [(Fm.mk k o p n [] b w).c] (fun cs hc=>by rw[List.mem_singleton.1 hc];exact fm_plain _),hands [] [true] (mk_atom (.mk k o p n [] b w))] (by kernel_rfl)
theorem pl_both (u v p:Value):∀cs∈[[AC.v u],[AC.v v],[AC.v p]],∀c∈cs,c.noptr=true:=fun cs hc=>by
 simp only[List.mem_cons,List.not_mem_nil,or_false] at hc;rcases hc with rfl|rfl|rfl<;>exact v_plain _
theorem z_and (o:Int) (p:ByteArray) (n:N3) (r:List Fm) (b:Bool) (w:N3) (u v:Value):CodeCon Tryz.prog (restC Tryz.f30) (L2 (.mk 5 o p n r b w) u v 2) .ret (Z2 (.mk 5 o p n r b w) u v (pV true)) :=
 atU _ _ [ends (rfl:((5:Int)==4)=false),ends (rfl:((5:Int)==5)=true),roomy 3,spot (n:=0) (j:=0) (m:=2) ⟨rfl,by decide⟩,told1 (cs:=[.v u,.v v]) (o:=0) (k:=1) (ds:=[.v u]) rfl,spot (n:=1) (j:=1) (m:=2) ⟨rfl,by decide⟩,told1 (cs:=[.v u,.v v]) (o:=1) (k:=1) (ds:=[.v v]) rfl,bare [[.v u],[.v v],[.v (pV true)]] (pl_both _ _ _),hands [] [true,true,true] (mk_both u v (pV true))] (by kernel_rfl)
theorem z_or (o:Int) (p:ByteArray) (n:N3) (r:List Fm) (b:Bool) (w:N3) (u v:Value):CodeCon Tryz.prog (restC Tryz.f30) (L2 (.mk 6 o p n r b w) u v 2) .ret (Z2 (.mk 6 o p n r b w) u v (pV false)) :=
 atU _ _ [ends (rfl:((6:Int)==4)=false),ends (rfl:((6:Int)==5)=false),ends (rfl:((6:Int)==6)=true),roomy 3,spot (n:=0) (j:=0) (m:=2) ⟨rfl,by decide⟩,told1 (cs:=[.v u,.v v]) (o:=0) (k:=1) (ds:=[.v u]) rfl,spot (n:=1) (j:=1) (m:=2) ⟨rfl,by decide⟩,told1 (cs:=[.v u,.v v]) (o:=1) (k:=1) (ds:=[.v v]) rfl,bare [[.v u],[.v v],[.v (pV false)]] (pl_both _ _ _),hands [] [true,true,true] (mk_both u v (pV false))] (by kernel_rfl)
theorem pl_once (f:Fm) (u:Value):∀cs∈[f.c,[AC.v u],recC none],∀c∈cs,c.noptr=true:=fun cs hc=>by
 simp only[List.mem_cons,List.not_mem_nil,or_false] at hc;rcases hc with rfl|rfl|rfl
 ·exact fm_plain f
 ·exact v_plain _
 ·exact rec_plain _
theorem pl_since (f:Fm) (u v:Value):∀cs∈[f.c,[AC.v u],[AC.v v],recC none],∀c∈cs,c.noptr=true:=fun cs hc=>by
 simp only[List.mem_cons,List.not_mem_nil,or_false] at hc;rcases hc with rfl|rfl|rfl|rfl
 ·exact fm_plain f
 ·exact v_plain _
 ·exact v_plain _
 ·exact rec_plain _
theorem z_once (o:Int) (p:ByteArray) (n:N3) (r:List Fm) (b:Bool) (w:N3) (u:Value):CodeCon Tryz.prog (restC Tryz.f30) (K2 (.mk 8 o p n r b w) u 1) .ret (Z4 (.mk 8 o p n r b w) u) :=
 atU _ _ [ends (rfl:((8:Int)==4)=false),ends (rfl:((8:Int)==5)=false),ends (rfl:((8:Int)==6)=false),ends (rfl:((8:Int)==7)=false),ends (rfl:((8:Int)==8)=true),roomy 3,spot (n:=0) (j:=0) (m:=1) ⟨rfl,by decide⟩,told1 (cs:=[.v u]) (o:=0) (k:=1) (ds:=[.v u]) rfl,bare [(Fm.mk 8 o p n r b w).c,[.v u],recC none] (pl_once _ _),hands [] [true,true,true] (mk_once (.mk 8 o p n r b w) u)] (by kernel_rfl)
theorem z_since (o:Int) (p:ByteArray) (n:N3) (r:List Fm) (b:Bool) (w:N3) (u v:Value):CodeCon Tryz.prog (restC Tryz.f30) (L2 (.mk 10 o p n r b w) u v 2) .ret (Z6 (.mk 10 o p n r b w) u v) :=
 atU _ _ [ends (rfl:((10:Int)==4)=false),ends (rfl:((10:Int)==5)=false),ends (rfl:((10:Int)==6)=false),ends (rfl:((10:Int)==7)=false),ends (rfl:((10:Int)==8)=false),ends (rfl:((10:Int)==9)=false),ends (rfl:((10:Int)==10)=true),roomy 4,spot (n:=0) (j:=0) (m:=2) ⟨rfl,by decide⟩,told1 (cs:=[.v u,.v v]) (o:=0) (k:=1) (ds:=[.v u]) rfl,spot (n:=1) (j:=1) (m:=2) ⟨rfl,by decide⟩,told1 (cs:=[.v u,.v v]) (o:=1) (k:=1) (ds:=[.v v]) rfl,bare [(Fm.mk 10 o p n r b w).c,[.v u],[.v v],recC none] (pl_since _ _ _),hands [] [true,true,true,true] (mk_since (.mk 10 o p n r b w) u v)] (by kernel_rfl)
def fnN:AC:=.fn 74 [] [.ptr 0 0]
def fnO:AC:=.fn 77 [] [.ptr 2 0,.ptr 3 0,.ptr 1 0]
theorem mk_once_fn (f:Fm) (u:Value):ConH Tryz.prog 54 [.agg f.c,.one fnN] [some (true,[.v u])] (.g (.one fnO)) [some (true,[.v u]),some (false,f.c),some (false,[fnN]),some (false,recC none)]:=by
 obtain⟨k,o,p,n,a,b,w⟩:=f;exact byUH _ _ Tryz.func54 rfl [out0] (by kernel_rfl)
theorem mk_not_fn (f:Fm) (u:Value):ConH Tryz.prog 49 [.one fnO] [some (true,[.v u]),some (true,f.c),some (true,[fnN]),some (true,recC none)] (.g (.one (.fn 74 [] [.ptr 4 0]))) [some (true,[.v u]),some (true,f.c),some (true,[fnN]),some (true,recC none),some (false,[fnO])]:=by
 obtain⟨k,o,p,n,a,b,w⟩:=f;exact byUH _ _ Tryz.func49 rfl [out0] (by kernel_rfl)
def Z5 (f:Fm) (u:Value):St:=⟨sparse 79 [(2,.g (.one (.fn 74 [] [.ptr 5 0])))],[some (true,f.c),some (false,[.v u]),some (false,f.c),some (false,[.fn 74 [] [.ptr 1 0]]),some (false,recC none),some (false,[.fn 77 [] [.ptr 3 0,.ptr 4 0,.ptr 2 0]])],1⟩
theorem pl_a1 (f:Fm) (u:Value):∀cs∈[[AC.v u],[AC.v u],f.c,recC none],∀c∈cs,c.noptr=true:=fun cs hc=>by
 simp only[List.mem_cons,List.not_mem_nil,or_false] at hc;rcases hc with rfl|rfl|rfl|rfl
 ·exact v_plain _
 ·exact v_plain _
 ·exact fm_plain f
 ·exact rec_plain _
theorem pl_a2 (f:Fm) (u:Value):∀cs∈[[AC.v u],f.c,recC none,[AC.v u],f.c,recC none],∀c∈cs,c.noptr=true:=fun cs hc=>by
 simp only[List.mem_cons,List.not_mem_nil,or_false] at hc;rcases hc with rfl|rfl|rfl|rfl|rfl|rfl
 ·exact v_plain _
 ·exact fm_plain f
 ·exact rec_plain _
 ·exact v_plain _
 ·exact fm_plain f
 ·exact rec_plain _
theorem z_always (o:Int) (p:ByteArray) (n:N3) (r:List Fm) (b:Bool) (w:N3) (u:Value):CodeCon Tryz.prog (restC Tryz.f30) (K2 (.mk 9 o p n r b w) u 1) .ret (Z5 (.mk 9 o p n r b w) u) :=
 atU _ _ [ends (rfl:((9:Int)==4)=false),ends (rfl:((9:Int)==5)=false),ends (rfl:((9:Int)==6)=false),ends (rfl:((9:Int)==7)=false),ends (rfl:((9:Int)==8)=false),ends (rfl:((9:Int)==9)=true),roomy 5,spot (n:=0) (j:=0) (m:=1) ⟨rfl,by decide⟩,told1 (cs:=[.v u]) (o:=0) (k:=1) (ds:=[.v u]) rfl,bare [[.v u]] (row1 u),hands [] [true] (mk_not u),bare [[.v u],[.v u],(Fm.mk 9 o p n r b w).c,recC none] (pl_a1 _ _),hands [2] [true,true,false,true] (mk_once_fn (.mk 9 o p n r b w) u),bare [[.v u],(Fm.mk 9 o p n r b w).c,recC none,[.v u],(Fm.mk 9 o p n r b w).c,recC none] (pl_a2 _ _),hands [2,3,4,5] [true,true,false,true,false] (mk_not_fn (.mk 9 o p n r b w) u)] (by kernel_rfl)
end
section
def ofK (f:Fm) (l:List Wt):Wt:=match l with
 |[]=>.atom f
 |[a]=>if f.kind=4 then .not a else if f.kind=7 then .prev false a else if f.kind=8 then .once f none a else .not (.once f none (.not a))
 |a::c::_=>if f.kind=5 then .both true a c else if f.kind=6 then .both false a c else .since f none a c
mutual
def ofF:Fm→Wt
 | .mk k o p n a b w=>ofK (.mk k o p n a b w) (ofL a)
def ofL:List Fm→List Wt
 |[]=>[]
 |f::r=>ofF f::ofL r
end
def arity (k:Int):Nat:=if k=4∨k=7∨k=8∨k=9 then 1 else if k=5∨k=6∨k=10 then 2 else 0
inductive Good:Fm→Prop
 |mk {k o:Int} {p:ByteArray} {n:N3} {a:List Fm} {b:Bool} {w:N3}:n.ok→w.ok→a.length=arity k→(∀x∈a,Good x)→Good (.mk k o p n a b w)
theorem Good.own {f:Fm} (h:Good f):f.own:=by
 cases h with
 |mk h1 h2 _ _=>exact⟨h1,h2⟩
def Makes (f:Fm):Prop:=∀(ok:Nat→Prop) (W:World) (v:Value),TG [] ok W (.agg f.c) v→Calls Tryz.prog 30 #[v] W fun r W'=>∃u bs,r=.returned u∧bs.Nodup∧(∀b∈bs,W.heap.size≤b)∧Ext W W' []∧Has (fun k=>(ok k∨W.heap.size≤k)∧k ∉ bs) W' (ofF f) u bs
theorem Cel.foot {R R':Nat→Prop} {W:World} {b:Nat} {cs:List AC} (hc:Cel R W b cs) (h:∀k,k<W.heap.size→R k→R' k):Cel R' W b cs:=by
 obtain⟨cells,e,h1,h2⟩:=hc;exact⟨cells,e,h1,h2.mv ⟨fun _ _ h=>h,fun _ _ _=>rfl,fun k hk hlt=>h k hlt hk,fun i b cur e hb=>by cases hb⟩⟩
theorem Has.foot {R R':Nat→Prop} {W:World} (hr:∀k,k<W.heap.size→R k→R' k):∀{x:Wt} {u:Value} {bs:List Nat},Has R W x u bs→Has R' W x u bs
 | .atom f,u,bs,h=>by
   obtain⟨b',rfl,hu,hc⟩:=h;exact⟨b',rfl,hu,hc.foot hr⟩
 | .not a,u,bs,h=>by
   obtain⟨b1,ua,l,rfl,hu,hc,ha⟩:=h;exact⟨b1,ua,l,rfl,hu,hc.foot hr,ha.foot hr⟩
 | .both an a c,u,bs,h=>by
   obtain⟨b1,b2,b3,ua,uc,l,m,rfl,hu,h1,h2,h3,ha,hc⟩:=h;exact⟨b1,b2,b3,ua,uc,l,m,rfl,hu,h1.foot hr,h2.foot hr,h3.foot hr,ha.foot hr,hc.foot hr⟩
 | .prev hh a,u,bs,h=>by
   obtain⟨b1,b2,ua,l,rfl,hu,h1,h2,ha⟩:=h;exact⟨b1,b2,ua,l,rfl,hu,h1.foot hr,h2.foot hr,ha.foot hr⟩
 | .once f la a,u,bs,h=>by
   obtain⟨b1,b2,b3,ua,l,rfl,hu,h1,h2,h3,ha⟩:=h;exact⟨b1,b2,b3,ua,l,rfl,hu,h1.foot hr,h2.foot hr,h3.foot hr,ha.foot hr⟩
 | .since f la a c,u,bs,h=>by
   obtain⟨b1,b2,b3,b4,ua,uc,l,m,rfl,hu,h1,h2,h3,h4,ha,hc⟩:=h;exact⟨b1,b2,b3,b4,ua,uc,l,m,rfl,hu,h1.foot hr,h2.foot hr,h3.foot hr,h4.foot hr,ha.foot hr,hc.foot hr⟩
theorem cel_v {g:List (Option Nat)} {ok:Nat→Prop} {W:World} {b:Nat} {cells:Array Value} {e:Nat} {u:Value} (R:Nat→Prop) (hw:W.heap[b]?=some (.cells cells e (0,0))) (hT:TL g ok W [.v u] (cells.toList.take 1)) (hu:u.oneCell'=true):Cel R W b [.v u]:=by
 refine⟨cells,e,hw,hT.1,fun j c w hc hw'=>?_⟩
 have h1:=hT.2 j c w hc hw'
 match j with
 |0 =>
  cases hc;have:=TC.v_eq (g:=g) (ok:=ok) (w:=W) h1;subst this;exact TC.of_v (g:=[]) (ok:=R) (w:=W) hu
 |j+1=>simp at hc
theorem Ok.to {ok0:Nat→Prop} {w0:Base} {g:List (Option Nat)} {s:St} {a:Act} {w:World} (hok:Ok ok0 w0 g s a w) (q:St) (pl:List (List AC)) (hp:∀cs∈pl,Plain cs) (h:Ev.fit q s []=(q,pl)):∃g',Ok ok0 w0 g' q a w:=by
 obtain⟨g',h'⟩:=hok.fit q [] (by rw[h];exact hp);rw[h] at h';exact⟨g',h'⟩
structure Part (ok:Nat→Prop) (W:World) (h:List (Option Nat)) (x:Fm) (u:Value) (bs:List Nat) (lo:Nat) (W1:World):Prop where
 nd:bs.Nodup
 lo:∀b∈bs,lo≤b
 has:Has (fun k=>(ok k∨W.heap.size≤k)∧k ∉ bs∧some k ∉ h∧k<W1.heap.size) W1 (ofF x) u bs
theorem sub_of {x:Fm} (hM:Makes x) {ok okA:Nat→Prop} {W W0 Wc:World} {h g:List (Option Nat)} {s:St} {a:Act} {ops:Array Oper} {o:Oper} {rest:List Oper} {Q:Exit→Act→World→Prop} {ts:Array TypeId} (hok:Ok okA ⟨W0,h,[]⟩ g s a Wc) (hA:∀k,FP okA W0.heap.size g k→k<Wc.heap.size→ok k∨W.heap.size≤k) (hWc:W.heap.size≤Wc.heap.size) (ex:List Nat) (hex:∀k,FP okA W0.heap.size g k→k<Wc.heap.size→k ∉ ex) (hex2:∀b∈ex,b<Wc.heap.size) {okB:Nat→Prop} (hB:∀k,FP okA W0.heap.size g k→k<Wc.heap.size→okB k)
  (hg:o.guard=none) (hd:o.dst=some 15) (ho:o.op=.call { callee:=.value (.func 30),args:=#[.tmp 14],argTypes:=ts }) (hy:s.regs[14]?=some (some (.g (.agg x.c))))
  (hK:∀u bs W',Part ok W (g++ex.map some) x u bs Wc.heap.size W'→Ext Wc W' []→u.oneCell'=true→Ok okB ⟨W',g,[]⟩ g ((⟨s.regs,flags s.own,g.length⟩:St).put (some 15) (some (.g (.one (.v u))))) (a.put (some 15) u) W'→wpList Tryz.prog ops Q rest (a.put (some 15) u) W'):wpList Tryz.prog ops Q (o::rest) a Wc:=by
 have hv:TG [] (FP okA W0.heap.size g) Wc (.agg x.c) (a.eval (.tmp 14)):=by
  have h5:TG g (FP okA W0.heap.size g) Wc (.agg x.c) _:=hok.reg hy;exact h5.noptr (List.all_eq_true.2 (fm_plain x))
 refine wpList_step fun N hN=>?_
 rw[if_pos (by unfold Region.wanted;rw[hg])];unfold Oper.wp;have hrun:(execOp a.eval o).run Tryz.prog Wc=(callFunc 30 #[a.eval (.tmp 14)]).run Tryz.prog Wc:=by
  have:=run_callFn (P:=Tryz.prog) (ρ:=a.eval) (fn:=30) (ca:=#[]) (W:=Wc) ho rfl;rw[Array.append_empty] at this;exact this
 rw[hrun,enters_ Tryz.func30 (by kernel_rfl) rfl,Oper.upon_enter];refine (hM _ Wc _ hv).mono ?_
 rintro r W' ⟨u,bs,rfl,hnd,hlo,he,hh⟩
 have hext:∀k,k<Wc.heap.size→W'.heap[k]?=Wc.heap[k]?:=fun k hk=>he.block k hk (fun h=>by cases h)
 rw[hd];have hpart:Part ok W (g++ex.map some) x u bs Wc.heap.size W':=by
  refine⟨hnd,hlo,hh.foot (fun k hk hF=>?_)⟩
  obtain⟨h1,h2⟩:=hF;refine⟨?_,h2,fun hm=>?_,hk⟩
  ·rcases h1 with h1|h1
   ·by_cases hlt:k<Wc.heap.size
    ·exact hA k h1 hlt
    ·exact .inr (by omega)
   ·exact .inr (by omega)
  ·rcases List.mem_append.1 hm with hm|hm
   ·have hlt:=(hok.base k hm).2
    rcases h1 with h1|h1
    ·exact h1.2 hm
    ·omega
   ·obtain⟨b,hb,e⟩:=List.mem_map.1 hm
    injection e with e;subst e;have hlt:=hex2 b hb;rcases h1 with h1|h1
    ·exact hex b h1 hlt hb
    ·omega
 refine hN _ _ (hK u bs W' hpart he hh.one ?_)
 have k2:=hok.rebase (okB:=okB) (a':=a) (W':=W') (ds:=[]) rfl hok.defers he.size (fun k hk hlt=>⟨hext k hlt,hB k hk hlt⟩) (fun i b cur e _ hb=>⟨cur,(hext b (Array.getElem?_eq_some_iff.1 hb).1).trans hb,rfl⟩) (fun i b m cs hg _=>hext b (hok.base b (List.mem_of_getElem? hg)).2);refine k2.val (d:=some 15) (x:=some (.g (.one (.v u)))) (u:=u) (fun v hv=>?_)
 cases hv;exact TC.of_v (g:=g) (ok:=FP okB W'.heap.size g) (w:=W') hh.one
end
section
theorem h0_at (k o:Int) (p:ByteArray) (n:N3) (b:Bool) (w:N3):CodeCon Tryz.prog (rg Tryz.f30 3) (G3 (.mk k o p n [] b w) 0) .normal ((G3 (.mk k o p n [] b w) 0).put (some 10) (some (.g (truth false)))):=atU _ _ [] (by kernel_rfl)
theorem h1_at (k o:Int) (p:ByteArray) (n:N3) (x:Fm) (r:List Fm) (b:Bool) (w:N3):CodeCon Tryz.prog (rg Tryz.f30 3) (G3 (.mk k o p n (x::r) b w) 0) .normal ((G3 (.mk k o p n (x::r) b w) 0).put (some 10) (some (.g (truth (decide ((0:Int)<((x::r).length:Int))))))):=atU _ _ [] (by kernel_rfl)
theorem h2_at (k o:Int) (p:ByteArray) (n:N3) (a:List Fm) (b:Bool) (w:N3) (u:Value):CodeCon Tryz.prog (rg Tryz.f30 3) (K2 (.mk k o p n a b w) u 1) .normal ((K2 (.mk k o p n a b w) u 1).put (some 10) (some (.g (truth (decide ((1:Int)<(a.length:Int))))))):=atUm [] _ _ [] [[.v u]] (row1 u) (by kernel_rfl)
theorem row2 (u v:Value):∀cs∈[[AC.v u,AC.v v]],Plain cs:=fun cs hc=>by rw[List.mem_singleton.1 hc];exact row_plain [u,v]
theorem h3_at (k o:Int) (p:ByteArray) (n:N3) (a:List Fm) (b:Bool) (w:N3) (u v:Value):CodeCon Tryz.prog (rg Tryz.f30 3) (L2 (.mk k o p n a b w) u v 2) .normal ((L2 (.mk k o p n a b w) u v 2).put (some 10) (some (.g (truth (decide ((2:Int)<(a.length:Int))))))):=atUm [] _ _ [] [[.v u,.v v]] (row2 u v) (by kernel_rfl)
theorem k6_at (k o:Int) (p:ByteArray) (n:N3) (a:List Fm) (b:Bool) (w:N3) (u:Value):CodeCon Tryz.prog (rg Tryz.f30 6) (K2 (.mk k o p n a b w) u 0) .normal (K2 (.mk k o p n a b w) u 1):=atUm [] _ _ [] [[.v u]] (row1 u) (by kernel_rfl)
theorem l6_at (k o:Int) (p:ByteArray) (n:N3) (a:List Fm) (b:Bool) (w:N3) (u v:Value):CodeCon Tryz.prog (rg Tryz.f30 6) (L2 (.mk k o p n a b w) u v 1) .normal (L2 (.mk k o p n a b w) u v 2):=atUm [] _ _ [] [[.v u,.v v]] (row2 u v) (by kernel_rfl)
theorem lp_eq:lp Tryz.f30 0=.seq (rg Tryz.f30 3) (.seq (.cond (.tmp 10) .skip (.exit 0)) (.seq (.block 1 (.seq (rg Tryz.f30 4) (.region 5 (opsR (rg Tryz.f30 5)) false))) (rg Tryz.f30 6))):=by kernel_rfl
section
variable {ok:Nat→Prop} {W:World} {v:Value} {Rr:Ending→World→Prop}
theorem of_start (f:Fm) (hv:TG [] ok W (.agg f.c) v) (h:∀g a W3,Ok ok ⟨W,[],[]⟩ g (G3 f 0) a W3→∃m,Code.rounds Tryz.prog (lp Tryz.f30 0) (Exit.inBlock 0 (Exit.then ((restC Tryz.f30).wp Tryz.prog (bodyPost Tryz.prog Tryz.f30 Rr)) (bodyPost Tryz.prog Tryz.f30 Rr))) m a W3):Calls Tryz.prog 30 #[v] W Rr:=by
 have eb:Tryz.f30.body=some (.seq (rg Tryz.f30 0) (.seq (rg Tryz.f30 1) (.seq (.seq (rg Tryz.f30 2) (.block 0 (.loop (lp Tryz.f30 0)))) (restC Tryz.f30)))):=by kernel_rfl
 refine calls_of_wp Tryz.func30 eb ?_
 rw[show Tryz.f30.ntmps=79 by kernel_rfl];have k0:Ok ok ⟨W,[],[]⟩ [] (G0 f) ⟨#[v]++Array.replicate (79-(#[v]:Array Value).size) undef,[]⟩ W:=by
  refine⟨regs_sparse 79 (by simp) _ (fun q hq=>?_),⟨rfl,fun i m cs b hi=>by cases hi⟩,(fun i j b hi=>by cases hi),fun b hb=>(by cases hb),Keep.refl _,rfl,⟨rfl,fun i hi=>by cases hi⟩,fun i b m cs hi=>(by cases hi),fun i m c cs hi=>(by cases hi)⟩
  rw[List.mem_singleton.1 hq];refine⟨v,by rw[Array.getElem?_append_left (by simp)];rfl,?_⟩
  exact TG.mv ⟨fun _ _ h=>h,fun _ _ _=>rfl,fun k hk _=>⟨.inl hk,by simp⟩,fun i b cur e hb=>by cases hb⟩ hv
 refine wp_seq (g0_at f _ _ _ _ _ _ k0 (fun g1 a1 W1 k1=>?_))
 show (Code.seq _ _).wp _ _ _ _
 refine wp_seq (g1_at f _ _ _ _ _ _ k1 (fun g2 a2 W2 k2=>?_))
 show (Code.seq _ _).wp _ _ _ _
 refine wp_seq (wp_seq (g2_at f _ _ _ _ _ _ k2 (fun g3 a3 W3 k3=>?_)))
 show (Code.block _ _).wp _ _ _ _
 obtain⟨m,hm⟩:=h g3 a3 W3 k3;exact wp_block (wp_loop_rounds m hm)
theorem of_first {x:Fm} (hM:Makes x) (k o:Int) (p:ByteArray) (n:N3) (r:List Fm) (b:Bool) (w:N3) {Q:Exit→Act→World→Prop} (m:Nat) {g:List (Option Nat)} {a:Act} {W3:World} (hok:Ok ok ⟨W,[],[]⟩ g (G3 (.mk k o p n (x::r) b w) 0) a W3)
  (h:∀bf u bs lo W1 g' a' W2,W.heap.size≤bf→bf<lo→lo≤W1.heap.size→Part ok W [some bf] x u bs lo W1→Ext W W1 []→u.oneCell'=true→Ok (fun k=>(ok k∨W.heap.size≤k)∧k<lo) ⟨W1,[some bf],[]⟩ g' (K2 (.mk k o p n (x::r) b w) u 1) a' W2→Code.rounds Tryz.prog (lp Tryz.f30 0) Q m a' W2):Code.rounds Tryz.prog (lp Tryz.f30 0) Q (m+1) a W3:=by
 rw[rounds_succ];generalize hC:Code.rounds Tryz.prog (lp Tryz.f30 0) Q m=CR at h ⊢;rw[lp_eq];refine wp_seq (h1_at k o p n x r b w _ _ _ _ _ _ hok (fun g1 a1 W4 k1=>?_))
 rw[show decide ((0:Int)<((x::r).length:Int))=true by rw[decide_eq_true_iff];simp only[List.length_cons];omega] at k1;show (Code.seq _ _).wp _ _ _ _
 refine wp_seq (wp_cond_true (k1.truth_at (t:=10) rfl) (wp_skip ?_))
 show (Code.seq _ _).wp _ _ _ _
 obtain⟨g2,k2⟩:=k1.to (G3 (.mk k o p n (x::r) b w) 0) [] none_ (by kernel_rfl);refine wp_seq (wp_block (wp_seq (k0_at k o p n x r b w _ _ _ _ _ _ k2 (fun g3 a3 W5 k3=>?_))))
 show (Code.region _ _ _).wp _ _ _ _
 refine wp_region_list ?_
 obtain⟨op,hop,h1,h2,h3⟩:∃op:Oper,(opsR (rg Tryz.f30 5)).toList.drop 2=op::(opsR (rg Tryz.f30 5)).toList.drop 3∧op.guard=none∧op.dst=some 15∧op.op=.call { callee:=.value (.func 30),args:=#[.tmp 14],argTypes:=#[29] } :=
  ⟨(opsR (rg Tryz.f30 5)).toList.getD 2 ⟨none,.move (.tmp 0),0, "",#[],none⟩,by kernel_rfl,by kernel_rfl,by kernel_rfl,by kernel_rfl⟩
 have hsp:(opsR (rg Tryz.f30 5)).toList=(opsR (rg Tryz.f30 5)).toList.take 2++op::(opsR (rg Tryz.f30 5)).toList.drop 3:=by rw[←hop,List.take_append_drop]
 conv=>arg 4;rw[hsp]
 refine list_seq (fun _ _ _ h=>h.1) (k1_pre k o p n x r b w k3) ?_
 rintro a4 W6 ⟨_,g4,k4⟩
 have hW6:W.heap.size≤W6.heap.size:=k4.below.size;obtain⟨bf,hgn⟩:∃bf,g4=[some bf]:=by
  have gl:g4.length=1:=k4.own.1.symm;obtain⟨bf,hb⟩:=k4.has 0 _ _ _ (rfl:(K1 (.mk k o p n (x::r) b w) x).own[0]?=some (some (false,_::_)))
  match g4,gl with
  |[y],_=>simp at hb;exact⟨bf,by rw[hb]⟩
 subst hgn;have hbf:=k4.base bf (by simp);have hbf0:W.heap.size≤bf:=hbf.1.elim id (fun hx=>by cases hx);refine sub_of hM k4 (fun k hk _=>hk.1) hW6 [] (fun k _ _ h=>by cases h) (fun b h=>by cases h) (okB:=fun k=>(ok k∨W.heap.size≤k)∧k<W6.heap.size) (fun k hk hlt=>⟨hk.1,hlt⟩) h1 h2 h3 rfl (fun u bs W7 hp he hu k5=>?_)
 have e7:Ext W W7 []:=(Ext.keep k4.below (fun c hc=>by cases hc)).trans he;have h7:=list_seq (Q':=Exit.inBlock 1 (Exit.then ((rg Tryz.f30 6).wp Tryz.prog (Exit.then CR Q)) (Exit.then CR Q))) (ys:=[]) (fun _ _ _ h=>h.1) (k1_post k o p n x r b w u k5) ?_
 ·rw[List.append_nil] at h7
  exact h7
 rintro a6 W8 ⟨_,g6,k6⟩
 show (rg Tryz.f30 6).wp _ _ _ _
 refine k6_at k o p n (x::r) b w u _ _ _ _ _ _ k6 (fun g9 a9 W9 k9=>?_)
 exact h bf u bs W6.heap.size W7 g9 a9 W9 hbf0 hbf.2 he.size hp e7 hu k9
end
end
end Go.Proofs.YtjfkhbkddenfoaaGreat.Ev
