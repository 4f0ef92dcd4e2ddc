import Derived.Test.YtjfkhbkddenfoaaGreatQdajcgaonnfNx0
import Derived.Test.YtjfkhbkddenfoaaGreatQphdjdbniokNx1
import Derived.Test.YtjfkhbkddenfoaaGreatQeomkhheifdNx5
import Derived.Test.YtjfkhbkddenfoaaGreatQogngcdmdpjNx6
import Derived.Test.YtjfkhbkddenfoaaGreatQhhhoojacokNx7
import Derived.Test.YtjfkhbkddenfoaaGreatQgoapcpfdbnM
set_option linter.unusedVariables false
set_option linter.unusedSimpArgs false
namespace Go.Proofs.YtjfkhbkddenfoaaGreat.N
open Go.RowKit Go.Proofs.YtjfkhbkddenfoaaGreatW.PrintWords Go.Proofs.YtjfkhbkddenfoaaGreatW.PrintLast Go.Proofs.YtjfkhbkddenfoaaGreatW.PrintMore
attribute [local go_sem] max2_int min2_int max_two min_two max_three min_three max_four min_four   -- for this text's walks alone
def foliotref01_Sub.f (k:Nat) (l0:List Int) (l1:List Int):Option (List Int×Int):=(foliotref01_Of.f k l0).bind fun t426=>((foliotref01_Of.f k l1).bind fun t429=>((foliotref01_cmp.f k t426 t429).bind fun t432=>(if t432<0 then (some (([]:List Int),1)) else ((foliotref01_sub.f k t426 t429).bind fun t433=>((foliotref01_Limbs.f k t433).bind fun t436=>(some (t436,0)))))))
set_option maxHeartbeats 8000000 in
set_option maxRecDepth 100000 in
theorem foliotref01_Sub.calls (k:Nat) (A0:Option Addr) (c0:Nat) (l0:List Int) (A1:Option Addr) (c1:Nat) (l1:List Int) (r1:List Int) (r2:Int) (w:World) (hr0:Kd.C (Kd.int .u32) w A0 l0.length l0) (hc0:l0.length≤c0) (hr1:Kd.C (Kd.int .u32) w A1 l1.length l1) (hc1:l1.length≤c1) (h:foliotref01_Sub.f k l0 l1=some (r1,r2)) :
 Calls Tryz.prog 105 #[.slice A0 l0.length c0,.slice A1 l1.length c1] w fun e w'=>∃v0_:Value,e=.returned (.tuple #[v0_,.int .i64 r2])∧Kd.R (Kd.int .u32) 88 w' w.heap.size (fun _=>True) v0_ r1∧Below w.heap.size w w':=by
 have HR0:=Aside0.mk hr0;have HC0:=Aside0.mk hc0;clear hr0 hc0;have HR1:=Aside0.mk hr1;have HC1:=Aside0.mk hc1;clear hr1 hc1;have HB:=Aside0.mk (Below.refl w.heap.size w);have H:((foliotref01_Of.f k l0).bind fun t426=>((foliotref01_Of.f k l1).bind fun t429=>((foliotref01_cmp.f k t426 t429).bind fun t432=>(if t432<0 then (some (([]:List Int),1)) else ((foliotref01_sub.f k t426 t429).bind fun t433=>((foliotref01_Limbs.f k t433).bind fun t436=>(some (t436,0))))))))=some (r1,r2):=h;clear h;replace H:=Sq.bd H;obtain⟨t426,A3,H⟩:=H
 (try dsimp -simprocs only at H)
 replace H:=Sq.bd H;obtain⟨t429,A4,H⟩:=H
 (try dsimp -simprocs only at H)
 replace H:=Sq.bd H;obtain⟨t432,A5,H⟩:=H
 (try dsimp -simprocs only at H)
 by_cases c6:t432<0
 ·rw[if_pos c6] at H
  have c6b0:decide (t432<0)=true:=decide_eq_true c6;clear c6;simp only[Option.some.injEq,Prod.mk.injEq] at H;obtain⟨rfl,rfl⟩:=H;go_enter Tryz.func105,Tryz.ntmps105
  go_wp2_with (first|((with_reducible refine gate_callee (f:=99) rfl ?_);refine Sq.gl (some 9) Tryz.func99 #[.slice A0 l0.length c0] ?_;(with_reducible refine (foliotref01_Of.calls k _ _ l0 t426 _ ?side1 ?side2 A3.out).mono ?_);(case side1=>repeat (first|exact HR0.out|(with_reducible refine Kd.C_alloc ?_ _)|(with_reducible refine Kd.C_drewN ?_ _)|(with_reducible refine Kd.C_drew ?_)));(case side2=>exact HC0.out);rintro e w7 ⟨v427,rfl,ho0,hb⟩;refine⟨_,rfl,?_⟩;have HO428:=Aside0.mk (Kd.V_lower (Kd.V_mono (ok':=fun k_=>True) ho0 (fun k_ hk_=>trivial)) (below_size (Sq.bl HB)));replace HB:=Sq.bs HB hb;(try clear hb);(try clear hb2);(try clear hk);(try clear hi);(try clear ho0))|((with_reducible refine gate_callee (f:=99) rfl ?_);refine Sq.gl (some 11) Tryz.func99 #[.slice A1 l1.length c1] ?_;(with_reducible refine (foliotref01_Of.calls k _ _ l1 t429 _ ?side1 ?side2 A4.out).mono ?_);(case side1=>exact Sq.ca (Kd.C_below HR1.out HB.out));(case side2=>exact HC1.out);rintro e w8 ⟨v430,rfl,ho0,hb⟩;refine⟨_,rfl,?_⟩;replace HO428:=Aside0.mk (Kd.V_below (Sq.al HO428) hb);have HO431:=Aside0.mk (Kd.V_lower (Kd.V_mono (ok':=fun k_=>True) ho0 (fun k_ hk_=>trivial)) (below_size (Sq.bl HB)));replace HB:=Sq.bs HB hb;(try clear hb);(try clear hb2);(try clear hk);(try clear hi);(try clear ho0);obtain⟨Ao9,co9,eo9⟩:=Kd.V_slice HO428.out;subst eo9;obtain⟨Ao10,co10,eo10⟩:=Kd.V_slice HO431.out;subst eo10)|((with_reducible refine gate_callee (f:=122) rfl ?_);refine Sq.gl (some 14) Tryz.func122 #[.slice Ao9 t426.length co9,.slice Ao10 t429.length co10] ?_;(with_reducible refine (foliotref01_cmp.calls k _ _ t426 _ _ t429 t432 _ ?side1 ?side2 ?side3 ?side4 A5.out).mono ?_);(case side1=>exact Sq.ca (Kd.V_reads' HO428.out).2.2);(case side2=>exact (Kd.V_reads' HO428.out).2.1);(case side3=>exact Sq.ca (Kd.V_reads' HO431.out).2.2);(case side4=>exact (Kd.V_reads' HO431.out).2.1);rintro e w11 ⟨rfl,hb⟩;refine⟨_,rfl,?_⟩;replace HO428:=Aside0.mk (Kd.V_below (Sq.al HO428) hb);replace HO431:=Aside0.mk (Kd.V_below (Sq.al HO431) hb);replace HB:=Sq.bs HB hb;(try clear hb);(try clear hb2);(try clear hk);(try clear hi)))
  go_ret2
  exact⟨_,by first|rfl|(simp[errW_none,errW_some]<;>rfl)|(simp[*,errW_none,errW_some]<;>rfl),by first|exact Kd.R_nil _ _ _ _ _|exact Kd.N_nil _ _ _ _ _|exact Kd.V_nil _ _ _ _ _|exact Kd.Q_nil _ _ _ _ _|exact Kd.S_nil _ _ _ _ _,Sq.bl HB⟩
 ·rw[if_neg c6] at H
  have c6b0:decide (t432<0)=false:=decide_eq_false c6;clear c6;replace H:=Sq.bd H;obtain⟨t433,A12,H⟩:=H
  (try dsimp -simprocs only at H)
  replace H:=Sq.bd H;obtain⟨t436,A13,H⟩:=H
  (try dsimp -simprocs only at H)
  simp only[Option.some.injEq,Prod.mk.injEq] at H;obtain⟨rfl,rfl⟩:=H;go_enter Tryz.func105,Tryz.ntmps105
  go_wp2_with (first|((with_reducible refine gate_callee (f:=99) rfl ?_);refine Sq.gl (some 9) Tryz.func99 #[.slice A0 l0.length c0] ?_;(with_reducible refine (foliotref01_Of.calls k _ _ l0 t426 _ ?side1 ?side2 A3.out).mono ?_);(case side1=>repeat (first|exact HR0.out|(with_reducible refine Kd.C_alloc ?_ _)|(with_reducible refine Kd.C_drewN ?_ _)|(with_reducible refine Kd.C_drew ?_)));(case side2=>exact HC0.out);rintro e w14 ⟨v427,rfl,ho0,hb⟩;refine⟨_,rfl,?_⟩;have HO428:=Aside0.mk (Kd.V_lower (Kd.V_mono (ok':=fun k_=>True) ho0 (fun k_ hk_=>trivial)) (below_size (Sq.bl HB)));replace HB:=Sq.bs HB hb;(try clear hb);(try clear hb2);(try clear hk);(try clear hi);(try clear ho0))|((with_reducible refine gate_callee (f:=99) rfl ?_);refine Sq.gl (some 11) Tryz.func99 #[.slice A1 l1.length c1] ?_;(with_reducible refine (foliotref01_Of.calls k _ _ l1 t429 _ ?side1 ?side2 A4.out).mono ?_);(case side1=>exact Sq.ca (Kd.C_below HR1.out HB.out));(case side2=>exact HC1.out);rintro e w15 ⟨v430,rfl,ho0,hb⟩;refine⟨_,rfl,?_⟩;replace HO428:=Aside0.mk (Kd.V_below (Sq.al HO428) hb);have HO431:=Aside0.mk (Kd.V_lower (Kd.V_mono (ok':=fun k_=>True) ho0 (fun k_ hk_=>trivial)) (below_size (Sq.bl HB)));replace HB:=Sq.bs HB hb;(try clear hb);(try clear hb2);(try clear hk);(try clear hi);(try clear ho0);obtain⟨Ao16,co16,eo16⟩:=Kd.V_slice HO428.out;subst eo16;obtain⟨Ao17,co17,eo17⟩:=Kd.V_slice HO431.out;subst eo17)|((with_reducible refine gate_callee (f:=122) rfl ?_);refine Sq.gl (some 14) Tryz.func122 #[.slice Ao16 t426.length co16,.slice Ao17 t429.length co17] ?_;(with_reducible refine (foliotref01_cmp.calls k _ _ t426 _ _ t429 t432 _ ?side1 ?side2 ?side3 ?side4 A5.out).mono ?_);(case side1=>exact Sq.ca (Kd.V_reads' HO428.out).2.2);(case side2=>exact (Kd.V_reads' HO428.out).2.1);(case side3=>exact Sq.ca (Kd.V_reads' HO431.out).2.2);(case side4=>exact (Kd.V_reads' HO431.out).2.1);rintro e w18 ⟨rfl,hb⟩;refine⟨_,rfl,?_⟩;replace HO428:=Aside0.mk (Kd.V_below (Sq.al HO428) hb);replace HO431:=Aside0.mk (Kd.V_below (Sq.al HO431) hb);replace HB:=Sq.bs HB hb;(try clear hb);(try clear hb2);(try clear hk);(try clear hi))|((with_reducible refine gate_callee (f:=123) rfl ?_);refine Sq.gl (some 18) Tryz.func123 #[.slice Ao16 t426.length co16,.slice Ao17 t429.length co17] ?_;(with_reducible refine (foliotref01_sub.calls k _ _ t426 _ _ t429 t433 _ ?side1 ?side2 ?side3 ?side4 A12.out).mono ?_);(case side1=>exact Sq.ca (Kd.V_reads' HO428.out).2.2);(case side2=>exact (Kd.V_reads' HO428.out).2.1);(case side3=>exact Sq.ca (Kd.V_reads' HO431.out).2.2);(case side4=>exact (Kd.V_reads' HO431.out).2.1);rintro e w19 ⟨v434,rfl,ho0,hb⟩;refine⟨_,rfl,?_⟩;replace HO428:=Aside0.mk (Kd.V_below (Sq.al HO428) hb);replace HO431:=Aside0.mk (Kd.V_below (Sq.al HO431) hb);have HO435:=Aside0.mk (Kd.V_lower (Kd.V_mono (ok':=fun k_=>True) ho0 (fun k_ hk_=>trivial)) (below_size (Sq.bl HB)));replace HB:=Sq.bs HB hb;(try clear hb);(try clear hb2);(try clear hk);(try clear hi);(try clear ho0);obtain⟨Ao20,co20,eo20⟩:=Kd.V_slice HO435.out;subst eo20)|((with_reducible refine gate_callee (f:=101) rfl ?_);refine Sq.gl (some 19) Tryz.func101 #[.slice Ao20 t433.length co20] ?_;(with_reducible refine (foliotref01_Limbs.calls k _ _ t433 t436 _ ?side1 ?side2 A13.out).mono ?_);(case side1=>exact Sq.ca (Kd.V_reads' HO435.out).2.2);(case side2=>exact (Kd.V_reads' HO435.out).2.1);rintro e w21 ⟨v437,rfl,ho0,hb⟩;refine⟨_,rfl,?_⟩;replace HO428:=Aside0.mk (Kd.V_elder' (Sq.al HO428) (Kd.R_base ho0) hb);replace HO431:=Aside0.mk (Kd.V_elder' (Sq.al HO431) (Kd.R_base ho0) hb);replace HO435:=Aside0.mk (Kd.V_elder' (Sq.al HO435) (Kd.R_base ho0) hb);have HO438:=Aside0.mk (Kd.R_lower ho0 (below_size (Sq.bl HB)));replace HB:=Sq.bs HB hb;(try clear hb);(try clear hb2);(try clear hk);(try clear hi);(try clear ho0)))
  go_ret2
  exact⟨_,by first|rfl|(simp[errW_none,errW_some]<;>rfl)|(simp[*,errW_none,errW_some]<;>rfl),by (with_reducible repeat (first|apply Kd.R_alloc|apply Kd.R_drewN|apply Kd.R_drew));exact HO438.out,Sq.bl HB⟩
mutual
def foliotref01_Mul.j0:Nat→List Int→List Int→Int→Int→Bool→Option (List Int)
 |0,_,_,_,_,_=>none
 |k+1,x0,x1,x5,x7,x26=>if x26=true then ((foliotref01_limbs.f k (IntKind.u64.wrap (x5*x7))).bind fun t443=>(some t443)) else ((foliotref01_Of.f k x0).bind fun t446=>((foliotref01_Of.f k x1).bind fun t449=>(foliotref01_Mul.l0 k t446 t449 ([]:List Bool) (wrap64 ((t449.length:Int)-1)))))
def foliotref01_Mul.l0:Nat→List Bool→List Bool→List Bool→Int→Option (List Int)
 |0,_,_,_,_=>none
 |k+1,x9,x10,x11,x12=>if x12≥0 then ((some (([false]:List Bool):List Bool)).bind fun y452=>(if y452.length+x11.length<140737488355328 then ((some (y452++x11:List Bool)).bind fun y455=>(if 0≤x12 then (if x12<(x10.length:Int) then (if rdOf false x10 x12=true then ((foliotref01_add.f k y455 x9).bind fun t459=>(foliotref01_Mul.l0 k x9 x10 t459 (wrap64 (x12-1)))) else (foliotref01_Mul.l0 k x9 x10 y455 (wrap64 (x12-1)))) else (none)) else (none))) else (none))) else ((foliotref01_Limbs.f k x11).bind fun t462=>(some t462))
end
def foliotref01_Mul.f (k:Nat) (l0:List Int) (l1:List Int):Option (List Int):=(foliotref01_short.f l0).bind fun bt439=>((foliotref01_short.f l1).bind fun bt441=>(if bt439.2=true then (foliotref01_Mul.j0 k l0 l1 bt439.1 bt441.1 bt441.2) else (foliotref01_Mul.j0 k l0 l1 bt439.1 bt441.1 false)))
set_option maxHeartbeats 8000000 in
set_option maxRecDepth 100000 in
theorem foliotref01_Mul.calls (k:Nat) (A0:Option Addr) (c0:Nat) (l0:List Int) (A1:Option Addr) (c1:Nat) (l1:List Int) (r:List Int) (w:World) (hr0:Kd.C (Kd.int .u32) w A0 l0.length l0) (hc0:l0.length≤c0) (hr1:Kd.C (Kd.int .u32) w A1 l1.length l1) (hc1:l1.length≤c1) (h:foliotref01_Mul.f k l0 l1=some r) :
 Calls Tryz.prog 85 #[.slice A0 l0.length c0,.slice A1 l1.length c1] w fun e w'=>∃v0_:Value,e=.returned (v0_)∧Kd.R (Kd.int .u32) 88 w' w.heap.size (fun _=>True) v0_ r∧Below w.heap.size w w':=by
 have HR0:=Aside0.mk hr0;have HC0:=Aside0.mk hc0;clear hr0 hc0;have HR1:=Aside0.mk hr1;have HC1:=Aside0.mk hc1;clear hr1 hc1;have HB:=Aside0.mk (Below.refl w.heap.size w);have H:((foliotref01_short.f l0).bind fun bt439=>((foliotref01_short.f l1).bind fun bt441=>(if bt439.2=true then (foliotref01_Mul.j0 k l0 l1 bt439.1 bt441.1 bt441.2) else (foliotref01_Mul.j0 k l0 l1 bt439.1 bt441.1 false))))=some r:=h;clear h;replace H:=Sq.bd H;obtain⟨⟨t439,t440⟩,A3,H⟩:=H
 (try dsimp -simprocs only at H)
 replace H:=Sq.bd H;obtain⟨⟨t441,t442⟩,A4,H⟩:=H
 (try dsimp -simprocs only at H)
 have HC5:=Aside0.mk H;clear H;go_enter Tryz.func85,Tryz.ntmps85
 go_upto_region 3 with (first|((with_reducible refine gate_callee (f:=106) rfl ?_);refine Sq.gl (some 15) Tryz.func106 #[.slice A0 l0.length c0] ?_;(with_reducible refine (foliotref01_short.calls _ _ l0 t439 t440 _ ?side1 ?side2 A3.out).mono ?_);(case side1=>repeat (first|exact HR0.out|(with_reducible refine Kd.C_alloc ?_ _)|(with_reducible refine Kd.C_drewN ?_ _)|(with_reducible refine Kd.C_drew ?_)));(case side2=>exact HC0.out);rintro e w' ⟨rfl,⟨nd,rfl⟩⟩;refine⟨_,rfl,?_⟩)|((with_reducible refine gate_callee (f:=106) rfl ?_);refine Sq.gl (some 20) Tryz.func106 #[.slice A1 l1.length c1] ?_;(with_reducible refine (foliotref01_short.calls _ _ l1 t441 t442 _ ?side1 ?side2 A4.out).mono ?_);(case side1=>repeat (first|exact HR1.out|(with_reducible refine Kd.C_alloc ?_ _)|(with_reducible refine Kd.C_drewN ?_ _)|(with_reducible refine Kd.C_drew ?_)));(case side2=>exact HC1.out);rintro e w' ⟨rfl,⟨nd,rfl⟩⟩;refine⟨_,rfl,?_⟩))
 (try simp only[Act.put,List.setIfInBounds_toArray,List.set_cons_zero,List.set_cons_succ])
 go_cut [26] (fun v26 wc=>∃(kq:Nat) (x26_4:Bool),v26=.bool x26_4∧Aside0 (foliotref01_Mul.j0 kq l0 l1 t439 t441 x26_4=some r)∧Aside0 (kq≤k)∧Aside0 (Below w.heap.size w wc))
 case first =>
  have H:=HC5.out;clear HC5;by_cases c6:t440=true
  ·subst c6
   have H1:(foliotref01_Mul.j0 k l0 l1 t439 t441 t442)=some r:=by rw[if_pos rfl] at H;exact H
   clear H;have H:=H1;clear H1;have H':=Aside0.mk H;clear H;go_wp2
   go_meet
   case rel=>exact⟨_,(t442),(by first|rfl|(simp;done)|(simp[*];done)),H',⟨by first|omega|exact Nat.le_refl _⟩,⟨Sq.bl HB⟩⟩
  ·replace c6:=Bool.eq_false_iff.mpr c6
   subst c6;have H1:(foliotref01_Mul.j0 k l0 l1 t439 t441 false)=some r:=by rw[if_neg (show ¬(false=true) by decide)] at H;exact H
   clear H;have H:=H1;clear H1;have H':=Aside0.mk H;clear H;go_wp2
   go_meet
   case rel=>exact⟨_,(false),(by first|rfl|(simp;done)|(simp[*];done)),H',⟨by first|omega|exact Nat.le_refl _⟩,⟨Sq.bl HB⟩⟩
 case rest =>
  clear HC5
  try clear c1
  try clear p2
  try clear c6
  obtain⟨kq,x26_4,rfl,HA,HJ4,HB⟩:=hcut;cases kq with
  |zero=>exact absurd HA.out (by simp[foliotref01_Mul.j0])
  |succ kj4 =>
   have H:=HA.out;clear HA;simp only[foliotref01_Mul.j0] at H;by_cases c7:x26_4=true
   ·subst c7
    have H1:((foliotref01_limbs.f kj4 (IntKind.u64.wrap (t439*t441))).bind fun t443=>(some t443))=some r:=by rw[if_pos rfl] at H;exact H
    clear H;have H:=H1;clear H1;replace H:=Sq.bd H;obtain⟨t443,A8,H⟩:=H
    (try dsimp -simprocs only at H)
    obtain rfl:=Option.some.inj H;go_wp2_with (first|((with_reducible refine gate_callee (f:=107) rfl ?_);refine Sq.gl (some 30) Tryz.func107 #[.int .u64 (IntKind.u64.wrap (t439*t441))] ?_;(with_reducible refine (foliotref01_limbs.calls kj4 (IntKind.u64.wrap (t439*t441)) t443 _ A8.out).mono ?_);rintro e w9 ⟨v444,rfl,ho0,hb⟩;refine⟨_,rfl,?_⟩;have HO445:=Aside0.mk (Kd.R_lower ho0 (below_size (Sq.bl HB)));replace HB:=Sq.bs HB hb;(try clear hb);(try clear hb2);(try clear hk);(try clear hi);(try clear ho0)))
    go_ret
    exact⟨_,by first|rfl|(simp[errW_none,errW_some]<;>rfl)|(simp[*,errW_none,errW_some]<;>rfl),by (with_reducible repeat (first|apply Kd.R_alloc|apply Kd.R_drewN|apply Kd.R_drew));exact HO445.out,Sq.bl HB⟩
   ·replace c7:=Bool.eq_false_iff.mpr c7
    subst c7;have H1:((foliotref01_Of.f kj4 l0).bind fun t446=>((foliotref01_Of.f kj4 l1).bind fun t449=>(foliotref01_Mul.l0 kj4 t446 t449 ([]:List Bool) (wrap64 ((t449.length:Int)-1)))))=some r:=by rw[if_neg (show ¬(false=true) by decide)] at H;exact H
    clear H;have H:=H1;clear H1;replace H:=Sq.bd H;obtain⟨t446,A10,H⟩:=H
    (try dsimp -simprocs only at H)
    replace H:=Sq.bd H;obtain⟨t449,A11,H⟩:=H
    (try dsimp -simprocs only at H)
    have H':=Aside0.mk H;clear H;go_wp2_with (first|((with_reducible refine gate_callee (f:=99) rfl ?_);refine Sq.gl (some 32) Tryz.func99 #[.slice A0 l0.length c0] ?_;(with_reducible refine (foliotref01_Of.calls kj4 _ _ l0 t446 _ ?side1 ?side2 A10.out).mono ?_);(case side1=>exact Sq.ca (Kd.C_below HR0.out HB.out));(case side2=>exact HC0.out);rintro e w12 ⟨v447,rfl,ho0,hb⟩;refine⟨_,rfl,?_⟩;have HO448:=Aside0.mk (Kd.V_lower (Kd.V_mono (ok':=fun k_=>True) ho0 (fun k_ hk_=>trivial)) (below_size (Sq.bl HB)));replace HB:=Sq.bs HB hb;(try clear hb);(try clear hb2);(try clear hk);(try clear hi);(try clear ho0))|((with_reducible refine gate_callee (f:=99) rfl ?_);refine Sq.gl (some 34) Tryz.func99 #[.slice A1 l1.length c1] ?_;(with_reducible refine (foliotref01_Of.calls kj4 _ _ l1 t449 _ ?side1 ?side2 A11.out).mono ?_);(case side1=>exact Sq.ca (Kd.C_below HR1.out HB.out));(case side2=>exact HC1.out);rintro e w13 ⟨v450,rfl,ho0,hb⟩;refine⟨_,rfl,?_⟩;replace HO448:=Aside0.mk (Kd.V_below (Sq.al HO448) hb);have HO451:=Aside0.mk (Kd.V_lower (Kd.V_mono (ok':=fun k_=>True) ho0 (fun k_ hk_=>trivial)) (below_size (Sq.bl HB)));replace HB:=Sq.bs HB hb;(try clear hb);(try clear hb2);(try clear hk);(try clear hi);(try clear ho0);obtain⟨Ao14,co14,eo14⟩:=Kd.V_slice HO451.out;subst eo14))
    go_loopg [11,12] kj4 (fun kq v11 v12 w'=>∃(x11_2:List Bool) (x12_2:Int),v12=.int .i64 x12_2∧Aside0 (foliotref01_Mul.l0 kq t446 t449 x11_2 x12_2=some r)∧Aside0 (kq≤kj4)∧Aside0 (Kd.V Kd.bool 4 w' w.heap.size (fun _=>True) v447 t446)∧Aside0 (Kd.V Kd.bool 4 w' w.heap.size (fun _=>True) (.slice Ao14 t449.length co14) t449)∧Aside0 (Kd.V Kd.bool 4 w' w.heap.size (fun _=>True) v11 x11_2)∧Aside0 (Below w.heap.size w w'))
    case atStart=>exact⟨(([]:List Bool)),(wrap64 ((t449.length:Int)-1)),(by first|rfl|(simp;done)|(simp[*];done)),H',⟨Nat.le_refl _⟩,⟨by (with_reducible repeat (first|apply Kd.V_alloc|apply Kd.V_drewN|apply Kd.V_drew));exact HO448.out⟩,⟨by (with_reducible repeat (first|apply Kd.V_alloc|apply Kd.V_drewN|apply Kd.V_drew));exact HO451.out⟩,⟨(by exact Kd.V_nil _ _ _ _ _)⟩,⟨Sq.bl HB⟩⟩
    case round =>
     clear H'
     try clear c1
     try clear p2
     try clear c6
     try clear p6
     try clear c7
     try clear c8
     try clear c9
     try clear c10
     try clear p2
     obtain⟨x11_2,x12_2,rfl,HA,HK2,HO_9,HO_10,HO_11,HB⟩:=hrel;cases gk with
     |zero=>exact absurd HA.out (by simp[foliotref01_Mul.l0])
     |succ k2 =>
      have H:=HA.out;clear HA;simp only[foliotref01_Mul.l0] at H;by_cases c15:x12_2≥0
      ·rw[if_pos c15] at H
       have c15b0:decide (0≤x12_2)=true:=decide_eq_true c15;clear c15;obtain⟨y452,hy452⟩:∃y_:List Bool,y_=(([false]:List Bool)):=⟨_,rfl⟩
       (first|(replace H:=Sq.ny hy452 H;(try dsimp -simprocs only at H))|rw[←hy452] at H|skip)
       have Ny452:=Aside0.mk hy452;clear hy452;replace H:=Sq.ifs H;obtain⟨c16,H⟩:=H;have LMc16:=Aside0.mk c16;clear c16;obtain⟨y455,hy455⟩:∃y_:List Bool,y_=(y452++x11_2):=⟨_,rfl⟩
       (first|(replace H:=Sq.ny hy455 H;(try dsimp -simprocs only at H))|rw[←hy455] at H|skip)
       have Ny455:=Aside0.mk hy455;clear hy455;replace H:=Sq.ifs H;obtain⟨c17,H⟩:=H;have c17b0:decide (0≤x12_2)=true:=decide_eq_true c17;clear c17;replace H:=Sq.ifs H;obtain⟨c18,H⟩:=H;have c18b0:decide (x12_2<(t449.length:Int))=true:=decide_eq_true c18;clear c18;obtain⟨bq19,hbq19⟩:∃b_:Bool,b_=(rdOf false t449 x12_2):=⟨_,rfl⟩;replace H:(if bq19=true then ((foliotref01_add.f k2 y455 t446).bind fun t459=>(foliotref01_Mul.l0 k2 t446 t449 t459 (wrap64 (x12_2-1)))) else (foliotref01_Mul.l0 k2 t446 t449 y455 (wrap64 (x12_2-1))))=some r:=by rw[←hbq19] at H;exact H
       have Nbq19:=Aside0.mk hbq19;clear hbq19;by_cases c20:bq19=true
       ·subst c20
        have H1:((foliotref01_add.f k2 y455 t446).bind fun t459=>(foliotref01_Mul.l0 k2 t446 t449 t459 (wrap64 (x12_2-1))))=some r:=by rw[if_pos rfl] at H;exact H
        clear H;have H:=H1;clear H1;replace H:=Sq.bd H;obtain⟨t459,A21,H⟩:=H
        (try dsimp -simprocs only at H)
        have H':=Aside0.mk H;clear H;go_wp2_with (first|((with_reducible refine gate_dst (N:=42) rfl ?_);refine Kd.R_lit Kd.bool _ 4 ?hg (N:=42) ?hd (xs:=([false]:List Bool)) (inner:=[.bool false]) (ok:=fun _=>True) (okp:=fun _=>True) ?hr ?hp (fun _ hk=>hk) trivial (Below.refl _ _) (Nat.le_refl _) (by simp) ?_;(case hd=>rfl);(case hg=>rfl);(case hr=>first|(go_simp;done)|(go_simp;rfl));(case hp=>exact (Reps.one (show Kd.M Kd.bool _ _ _ false [.bool false] from rfl) (Reps.none _ _)));intro v453 w22 ho23 hb hg_ hnew_;clear hg_ hnew_;(first|rw[←Ny452.out] at ho23|(simp only[Int.reduceToNat] at ho23;rw[←Ny452.out] at ho23));replace HO_9:=Aside0.mk (Kd.V_elder' (Sq.al HO_9) (Kd.R_base ho23) hb);replace HO_10:=Aside0.mk (Kd.V_elder' (Sq.al HO_10) (Kd.R_base ho23) hb);replace HO_11:=Aside0.mk (Kd.V_elder' (Sq.al HO_11) (Kd.R_base ho23) hb);have HO454:=Aside0.mk (Kd.R_lower ho23 (below_size (Sq.bl HB)));replace HB:=Sq.bs HB hb;clear hb ho23;obtain⟨Ao25,co25,eo25⟩:=Kd.V_slice HO_11.out;subst eo25)|((with_reducible refine gate_builtin (b:=.append) (xs:=#[.tmp 42,.tmp 43]) rfl ?_);at_builtin;refine Kd.R_append_rows Kd.bool (w0:=w) w.heap.size rfl (.tmp 42) (.tmp 43) 34 4 (.bool false) 1 rfl Tryz.underlying34 info4 rfl (by decide) (by omega) v453 y452 x11_2 _ _ _ (fun _=>True) (fun _=>False) rfl rfl ?aO ?aR (fun _ _ h=>h) (fun _ h=>h.elim) ?aF ?aB ?aS ?aL ?_;(case aR=>exact Sq.ca (Kd.V_reads' HO_11.out).2.2);(case aB=>exact (Sq.bl HB));(case aF=>exact (fun _ _=>trivial));(case aO=>exact (Sq.al HO454));(case aS=>exact (below_size (Sq.bl HB)));(case aL=>have:=LMc16.out;omega);intro v456 w24 ho hb hg hat;rw[←Ny455.out] at ho;replace HO_9:=Aside0.mk (Kd.V_afterv (ok:=(fun _=>True)) (Sq.al HO_9) hg hat);replace HO_10:=Aside0.mk (Kd.V_afterv (ok:=(fun _=>True)) (Sq.al HO_10) hg hat);replace HO_11:=Aside0.mk (Kd.V_afterv (ok:=(fun _=>True)) (Sq.al HO_11) hg hat);replace HB:=Aside0.mk (hb);have HO457:=Aside0.mk (ho);clear HO454;clear ho hb hg hat;have p458:0≤(x12_2:Int):=of_decide_eq_true (by first|(with_reducible assumption)|assumption);have q458:x12_2<(t449.length:Int):=of_decide_eq_true (by first|(with_reducible assumption)|assumption);obtain⟨ad458,e458,hx458_0⟩:=Kd.at_bool (Kd.V_reads' HO_10.out).2.2 x12_2 p458 q458;(try rw[←Nbq19.out] at hx458_0);cases e458;replace p458:=eq_true p458;replace q458:=eq_true q458;obtain⟨Ao26,co26,eo26⟩:=Kd.R_slice HO457.out;subst eo26;obtain⟨Ao27,co27,eo27⟩:=Kd.V_slice HO_9.out;subst eo27)|((with_reducible refine gate_callee (f:=108) rfl ?_);refine Sq.gl (some 51) Tryz.func108 #[.slice Ao26 y455.length co26,.slice Ao27 t446.length co27] ?_;(with_reducible refine (foliotref01_add.calls k2 _ _ y455 _ _ t446 t459 _ ?side1 ?side2 ?side3 ?side4 A21.out).mono ?_);(case side1=>exact Sq.ca (Kd.R_reads' HO457.out).2.2);(case side2=>exact (Kd.R_reads' HO457.out).2.1);(case side3=>exact Sq.ca (Kd.V_reads' HO_9.out).2.2);(case side4=>exact (Kd.V_reads' HO_9.out).2.1);rintro e w28 ⟨v460,rfl,ho0,hb⟩;refine⟨_,rfl,?_⟩;replace HO_9:=Aside0.mk (Kd.V_below (Sq.al HO_9) hb);replace HO_10:=Aside0.mk (Kd.V_below (Sq.al HO_10) hb);replace HO_11:=Aside0.mk (Kd.V_below (Sq.al HO_11) hb);have HO461:=Aside0.mk (Kd.V_lower (Kd.V_mono (ok':=fun k_=>some k_≠(.slice Ao26 y455.length co26:Value).ownBlock) ho0 (fun k_ hk_=>(Kd.fresh' (Kd.R_lt (Sq.al HO457)) k_ hk_))) (below_size (Sq.bl HB)));replace HO457:=Aside0.mk (Kd.R_below (Sq.al HO457) hb);replace HB:=Sq.bs HB hb;(try clear hb);(try clear hb2);(try clear hk);(try clear hi);(try clear ho0)))
        go_roundg k2
        case measure=>have:=HJ4.out;have:=HK2.out;omega
        case rel=>exact⟨(t459),(wrap64 (x12_2-1)),(by first|rfl|(simp;done)|(simp[*];done)),H',⟨by have:=HJ4.out;have:=HK2.out;omega⟩,⟨by (with_reducible repeat (first|apply Kd.V_alloc|apply Kd.V_drewN|apply Kd.V_drew));exact Kd.V_mono HO_9.out (fun _ hk=>trivial)⟩,⟨by (with_reducible repeat (first|apply Kd.V_alloc|apply Kd.V_drewN|apply Kd.V_drew));exact Kd.V_mono HO_10.out (fun _ hk=>trivial)⟩,⟨by (with_reducible repeat (first|apply Kd.V_alloc|apply Kd.V_drewN|apply Kd.V_drew));exact Kd.V_mono HO461.out (fun _ hk=>trivial)⟩,⟨Sq.bl HB⟩⟩
       ·replace c20:=Bool.eq_false_iff.mpr c20
        subst c20;have H1:(foliotref01_Mul.l0 k2 t446 t449 y455 (wrap64 (x12_2-1)))=some r:=by rw[if_neg (show ¬(false=true) by decide)] at H;exact H
        clear H;have H:=H1;clear H1;have H':=Aside0.mk H;clear H;go_wp2_with (first|((with_reducible refine gate_dst (N:=42) rfl ?_);refine Kd.R_lit Kd.bool _ 4 ?hg (N:=42) ?hd (xs:=([false]:List Bool)) (inner:=[.bool false]) (ok:=fun _=>True) (okp:=fun _=>True) ?hr ?hp (fun _ hk=>hk) trivial (Below.refl _ _) (Nat.le_refl _) (by simp) ?_;(case hd=>rfl);(case hg=>rfl);(case hr=>first|(go_simp;done)|(go_simp;rfl));(case hp=>exact (Reps.one (show Kd.M Kd.bool _ _ _ false [.bool false] from rfl) (Reps.none _ _)));intro v453 w29 ho30 hb hg_ hnew_;clear hg_ hnew_;(first|rw[←Ny452.out] at ho30|(simp only[Int.reduceToNat] at ho30;rw[←Ny452.out] at ho30));replace HO_9:=Aside0.mk (Kd.V_elder' (Sq.al HO_9) (Kd.R_base ho30) hb);replace HO_10:=Aside0.mk (Kd.V_elder' (Sq.al HO_10) (Kd.R_base ho30) hb);replace HO_11:=Aside0.mk (Kd.V_elder' (Sq.al HO_11) (Kd.R_base ho30) hb);have HO454:=Aside0.mk (Kd.R_lower ho30 (below_size (Sq.bl HB)));replace HB:=Sq.bs HB hb;clear hb ho30;obtain⟨Ao32,co32,eo32⟩:=Kd.V_slice HO_11.out;subst eo32)|((with_reducible refine gate_builtin (b:=.append) (xs:=#[.tmp 42,.tmp 43]) rfl ?_);at_builtin;refine Kd.R_append_rows Kd.bool (w0:=w) w.heap.size rfl (.tmp 42) (.tmp 43) 34 4 (.bool false) 1 rfl Tryz.underlying34 info4 rfl (by decide) (by omega) v453 y452 x11_2 _ _ _ (fun _=>True) (fun _=>False) rfl rfl ?aO ?aR (fun _ _ h=>h) (fun _ h=>h.elim) ?aF ?aB ?aS ?aL ?_;(case aR=>exact Sq.ca (Kd.V_reads' HO_11.out).2.2);(case aB=>exact (Sq.bl HB));(case aF=>exact (fun _ _=>trivial));(case aO=>exact (Sq.al HO454));(case aS=>exact (below_size (Sq.bl HB)));(case aL=>have:=LMc16.out;omega);intro v456 w31 ho hb hg hat;rw[←Ny455.out] at ho;replace HO_9:=Aside0.mk (Kd.V_afterv (ok:=(fun _=>True)) (Sq.al HO_9) hg hat);replace HO_10:=Aside0.mk (Kd.V_afterv (ok:=(fun _=>True)) (Sq.al HO_10) hg hat);replace HO_11:=Aside0.mk (Kd.V_afterv (ok:=(fun _=>True)) (Sq.al HO_11) hg hat);replace HB:=Aside0.mk (hb);have HO457:=Aside0.mk (ho);clear HO454;clear ho hb hg hat;have p458:0≤(x12_2:Int):=of_decide_eq_true (by first|(with_reducible assumption)|assumption);have q458:x12_2<(t449.length:Int):=of_decide_eq_true (by first|(with_reducible assumption)|assumption);obtain⟨ad458,e458,hx458_0⟩:=Kd.at_bool (Kd.V_reads' HO_10.out).2.2 x12_2 p458 q458;(try rw[←Nbq19.out] at hx458_0);cases e458;replace p458:=eq_true p458;replace q458:=eq_true q458))
        go_roundg k2
        case measure=>have:=HJ4.out;have:=HK2.out;omega
        case rel=>exact⟨(y455),(wrap64 (x12_2-1)),(by first|rfl|(simp;done)|(simp[*];done)),H',⟨by have:=HJ4.out;have:=HK2.out;omega⟩,⟨by (with_reducible repeat (first|apply Kd.V_alloc|apply Kd.V_drewN|apply Kd.V_drew));exact Kd.V_mono HO_9.out (fun _ hk=>trivial)⟩,⟨by (with_reducible repeat (first|apply Kd.V_alloc|apply Kd.V_drewN|apply Kd.V_drew));exact Kd.V_mono HO_10.out (fun _ hk=>trivial)⟩,⟨Kd.R_V (Sq.al HO457)⟩,⟨Sq.bl HB⟩⟩
      ·rw[if_neg c15] at H
       have c15b0:decide (0≤x12_2)=false:=decide_eq_false c15;clear c15;replace H:=Sq.bd H;obtain⟨t462,A33,H⟩:=H
       (try dsimp -simprocs only at H)
       obtain rfl:=Option.some.inj H;obtain⟨Ao34,co34,eo34⟩:=Kd.V_slice HO_11.out;subst eo34;go_wp2_with (first|((with_reducible refine gate_callee (f:=101) rfl ?_);refine Sq.gl (some 53) Tryz.func101 #[.slice Ao34 x11_2.length co34] ?_;(with_reducible refine (foliotref01_Limbs.calls k2 _ _ x11_2 t462 _ ?side1 ?side2 A33.out).mono ?_);(case side1=>exact Sq.ca (Kd.V_reads' HO_11.out).2.2);(case side2=>exact (Kd.V_reads' HO_11.out).2.1);rintro e w35 ⟨v463,rfl,ho0,hb⟩;refine⟨_,rfl,?_⟩;replace HO_9:=Aside0.mk (Kd.V_elder' (Sq.al HO_9) (Kd.R_base ho0) hb);replace HO_10:=Aside0.mk (Kd.V_elder' (Sq.al HO_10) (Kd.R_base ho0) hb);replace HO_11:=Aside0.mk (Kd.V_elder' (Sq.al HO_11) (Kd.R_base ho0) hb);have HO464:=Aside0.mk (Kd.R_lower ho0 (below_size (Sq.bl HB)));replace HB:=Sq.bs HB hb;(try clear hb);(try clear hb2);(try clear hk);(try clear hi);(try clear ho0)))
       go_ret
       exact⟨_,by first|rfl|(simp[errW_none,errW_some]<;>rfl)|(simp[*,errW_none,errW_some]<;>rfl),by (with_reducible repeat (first|apply Kd.R_alloc|apply Kd.R_drewN|apply Kd.R_drew));exact HO464.out,Sq.bl HB⟩
mutual
def nat_Mul.l0:Nat→List Int→List Int→List Int→Int→Int→Option (List Int)
 |0,_,_,_,_,_=>none
 |k+1,x1,x5,x17,x18,x19=>if x19<x18 then (if 0≤x19 then (if x19<(x17.length:Int) then (nat_Mul.l1 k x1 x5 x19 (rd x17 x19) 0 x17 x18 x19 x1 (x1.length:Int) 0) else (none)) else (none)) else ((nat_cut.f k x5).bind fun t471=>(some t471))
def nat_Mul.l1:Nat→List Int→List Int→Int→Int→Int→List Int→Int→Int→List Int→Int→Int→Option (List Int)
 |0,_,_,_,_,_,_,_,_,_,_,_=>none
 |k+1,x1,x5,x6,x7,x8,x17,x18,x19,x24,x25,x26=>if x26<x25 then (if 0≤x26 then (if x26<(x24.length:Int) then (if 0≤(wrap64 (x6+x26)) then (if (wrap64 (x6+x26))<(x5.length:Int) then (nat_Mul.l1 k x1 (x5.set ((wrap64 (x6+x26)):Int).toNat ((IntKind.u64.wrap (x8+(IntKind.u64.wrap ((IntKind.u64.wrap ((IntKind.u64.wrap (x7))*(IntKind.u64.wrap (rd x24 x26))))+(IntKind.u64.wrap (rd x5 (wrap64 (x6+x26))))))))%4294967296)) x6 x7 ((IntKind.u64.wrap (x8+(IntKind.u64.wrap ((IntKind.u64.wrap ((IntKind.u64.wrap (x7))*(IntKind.u64.wrap (rd x24 x26))))+(IntKind.u64.wrap (rd x5 (wrap64 (x6+x26))))))))/4294967296) x17 x18 x19 x24 x25 (wrap64 (x26+1))) else (none)) else (none)) else (none)) else (none)) else (if 0≤(wrap64 (x6+(x1.length:Int))) then (if (wrap64 (x6+(x1.length:Int)))<(x5.length:Int) then (nat_Mul.l0 k x1 (x5.set ((wrap64 (x6+(x1.length:Int))):Int).toNat ((x8)%4294967296)) x17 x18 (wrap64 (x19+1))) else (none)) else (none))
end
def nat_Mul.f (k:Nat) (l0:List Int) (l1:List Int):Option (List Int):=if 0≤(wrap64 ((l0.length:Int)+(l1.length:Int))) then (if (wrap64 ((l0.length:Int)+(l1.length:Int)):Int).toNat≤70368744177664 then (nat_Mul.l0 k l1 (List.replicate (wrap64 ((l0.length:Int)+(l1.length:Int)):Int).toNat 0) l0 (l0.length:Int) 0) else (none)) else (none)
set_option maxHeartbeats 8000000 in
set_option maxRecDepth 100000 in
theorem nat_Mul.calls (k:Nat) (A0:Option Addr) (c0:Nat) (l0:List Int) (A1:Option Addr) (c1:Nat) (l1:List Int) (r:List Int) (w:World) (hr0:Kd.C (Kd.int .u32) w A0 l0.length l0) (hc0:l0.length≤c0) (hr1:Kd.C (Kd.int .u32) w A1 l1.length l1) (hc1:l1.length≤c1) (h:nat_Mul.f k l0 l1=some r) :
 Calls Tryz.prog 92 #[.slice A0 l0.length c0,.slice A1 l1.length c1] w fun e w'=>∃v0_:Value,e=.returned (v0_)∧Kd.V (Kd.int .u32) 88 w' w.heap.size (fun k_=>(w.heap.size≤k_)) v0_ r∧Below w.heap.size w w':=by
 have HR0:=Aside0.mk hr0;have HC0:=Aside0.mk hc0;clear hr0 hc0;have HR1:=Aside0.mk hr1;have HC1:=Aside0.mk hc1;clear hr1 hc1;have HB:=Aside0.mk (Below.refl w.heap.size w);have H:(if 0≤(wrap64 ((l0.length:Int)+(l1.length:Int))) then (if (wrap64 ((l0.length:Int)+(l1.length:Int)):Int).toNat≤70368744177664 then (nat_Mul.l0 k l1 (List.replicate (wrap64 ((l0.length:Int)+(l1.length:Int)):Int).toNat 0) l0 (l0.length:Int) 0) else (none)) else (none))=some r:=h;clear h;obtain⟨ji3,hji3⟩:∃j_:Int,(wrap64 ((l0.length:Int)+(l1.length:Int)))=j_:=⟨_,rfl⟩
 (first|rw[hji3] at H|simp only[hji3] at H)
 have hji3w:(IntKind.i64.wrap ((l0.length:Int)+(l1.length:Int)))=ji3:=(i64_w _).trans hji3;replace H:=Sq.ifs H;obtain⟨c4,H⟩:=H;have c4b0:=eq_true c4;have c4b1:decide (0≤(ji3))=true:=decide_eq_true c4;clear c4;replace H:=Sq.ifs H;obtain⟨c5,H⟩:=H;have c5b0:=eq_true c5;have c5b1:decide ((ji3:Int).toNat≤70368744177664)=true:=decide_eq_true c5;clear c5;obtain⟨y468,hy468⟩:∃y_:List Int,y_=(List.replicate (ji3:Int).toNat 0):=⟨_,rfl⟩
 (first|(replace H:=Sq.ny hy468 H;(try dsimp -simprocs only at H))|rw[←hy468] at H|skip)
 have Ny468:=Aside0.mk hy468;clear hy468;have H':=Aside0.mk H;clear H;go_enter Tryz.func92,Tryz.ntmps92
 go_wp2_with (first|((with_reducible refine gate_dst (N:=16) rfl ?_);refine Kd.R_make (Kd.int .u32) _ 88 rfl (N:=16) rfl 22 _ _ rfl ji3 rfl rfl Tryz.underlying22 (.int .u32 0) 4 info88 rfl (by decide) (by omega) 0 (ok:=fun _=>True) (okp:=fun _=>True) rfl (fun _ hk=>hk) trivial (of_decide_eq_true (by first|(with_reducible assumption)|assumption)) (Nat.le_trans (Nat.mul_le_mul_right _ (of_decide_eq_true (by first|(with_reducible assumption)|assumption):ji3.toNat≤70368744177664)) (by omega)) (Below.refl _ _) (Nat.le_refl _) ?_;intro v469 w6 ho7 hb hg_ hnew_;clear hg_ hnew_;(first|rw[←Ny468.out] at ho7|(simp only[Int.reduceToNat] at ho7;rw[←Ny468.out] at ho7));have HO470:=Aside0.mk (Kd.R_lower (Kd.R_newM (M:=fun k_=>(w.heap.size≤k_)) ho7 (below_size (Sq.bl HB)) (fun k_ h_=>h_)) (below_size (Sq.bl HB)));replace HB:=Sq.bs HB hb;clear hb ho7))
 go_loopg [19] k (fun kq v19 w'=>∃(x5_1:List Int) (x19_1:Int),v19=.int .i64 x19_1∧Aside0 (nat_Mul.l0 kq l1 x5_1 l0 (l0.length:Int) x19_1=some r)∧Aside0 (kq≤k)∧Aside0 (Kd.R (Kd.int .u32) 88 w' w.heap.size (fun k_=>(w.heap.size≤k_)) v469 x5_1)∧Aside0 (Below w.heap.size w w'))
 case atStart=>exact⟨(y468),(0),(by first|rfl|(simp;done)|(simp[*];done)),H',⟨Nat.le_refl _⟩,⟨by (with_reducible repeat (first|apply Kd.R_alloc|apply Kd.R_drewN|apply Kd.R_drew));exact Kd.R_mono HO470.out (fun _ hk=>hk.1)⟩,⟨Sq.bl HB⟩⟩
 case round =>
  clear H'
  try clear c1
  try clear p2
  try clear c4
  try clear c4b0
  try clear c4b1
  try clear c5
  try clear c5b0
  try clear c5b1
  try clear p6
  obtain⟨x5_1,x19_1,rfl,HA,HK1,HO_5,HB⟩:=hrel;cases gk with
  |zero=>exact absurd HA.out (by simp[nat_Mul.l0])
  |succ k1 =>
   have H:=HA.out;clear HA;simp only[nat_Mul.l0] at H;by_cases c8:x19_1<(l0.length:Int)
   ·rw[if_pos c8] at H
    have c8b0:decide (x19_1<(l0.length:Int))=true:=decide_eq_true c8;clear c8;replace H:=Sq.ifs H;obtain⟨c9,H⟩:=H;have c9b0:decide (0≤x19_1)=true:=decide_eq_true c9;clear c9;replace H:=Sq.ifs H;obtain⟨c10,H⟩:=H;have c10b0:decide (x19_1<(l0.length:Int))=true:=decide_eq_true c10;clear c10;have H':=Aside0.mk H;clear H;have p474:0≤(x19_1:Int):=of_decide_eq_true (by first|(with_reducible assumption)|assumption);have q474:x19_1<(l0.length:Int):=of_decide_eq_true (by first|(with_reducible assumption)|assumption);obtain⟨ad474,e474,hx474_0⟩:=Kd.at_int HR0.out x19_1 p474 q474;cases e474;replace hx474_0:=(HB.out.cell (World.block_lt_of_cell? w _ hx474_0)).trans hx474_0;replace p474:=eq_true p474;replace q474:=eq_true q474;go_wp2
    go_loopg [8,26] k1 (fun kq v8 v26 w'=>∃(x5_2:List Int) (x8_2:Int) (x26_2:Int),v8=.int .u64 x8_2∧v26=.int .i64 x26_2∧Aside0 (nat_Mul.l1 kq l1 x5_2 x19_1 (rd l0 x19_1) x8_2 l0 (l0.length:Int) x19_1 l1 (l1.length:Int) x26_2=some r)∧Aside0 (kq≤k1)∧Aside0 (Kd.R (Kd.int .u32) 88 w' w.heap.size (fun k_=>(w.heap.size≤k_)) v469 x5_2)∧Aside0 (Below w.heap.size w w'))
    case atStart=>exact⟨(x5_1),(0),(0),(by first|rfl|(simp;done)|(simp[*];done)),(by first|rfl|(simp;done)|(simp[*];done)),H',⟨Nat.le_refl _⟩,⟨by (with_reducible repeat (first|apply Kd.R_alloc|apply Kd.R_drewN|apply Kd.R_drew));exact HO_5.out⟩,⟨Sq.bl HB⟩⟩
    case round =>
     clear H'
     try clear c1
     try clear p2
     try clear c4
     try clear c4b0
     try clear c4b1
     try clear p4
     try clear q4
     try clear hx4
     try clear c5
     try clear c5b0
     try clear c5b1
     try clear p6
     try clear c8
     try clear c8b0
     try clear c9
     try clear c9b0
     try clear c10
     try clear c10b0
     try clear hx474_0
     try clear p2
     try clear p474
     try clear p6
     try clear q474
     obtain⟨x5_2,x8_2,x26_2,rfl,rfl,HA,HK2,HO_5,HB⟩:=hrel;cases gk with
     |zero=>exact absurd HA.out (by simp[nat_Mul.l1])
     |succ k2 =>
      have H:=HA.out;clear HA;simp only[nat_Mul.l1] at H;by_cases c11:x26_2<(l1.length:Int)
      ·rw[if_pos c11] at H
       have c11b0:decide (x26_2<(l1.length:Int))=true:=decide_eq_true c11;clear c11;replace H:=Sq.ifs H;obtain⟨c12,H⟩:=H;have c12b0:decide (0≤x26_2)=true:=decide_eq_true c12;clear c12;replace H:=Sq.ifs H;obtain⟨c13,H⟩:=H;have c13b0:decide (x26_2<(l1.length:Int))=true:=decide_eq_true c13;clear c13;obtain⟨ji14,hji14⟩:∃j_:Int,(wrap64 (x19_1+x26_2))=j_:=⟨_,rfl⟩
       (first|rw[hji14] at H|simp only[hji14] at H)
       have hji14w:(IntKind.i64.wrap (x19_1+x26_2))=ji14:=(i64_w _).trans hji14;replace H:=Sq.ifs H;obtain⟨c15,H⟩:=H;have c15b0:decide (0≤(ji14))=true:=decide_eq_true c15;clear c15;replace H:=Sq.ifs H;obtain⟨c16,H⟩:=H;have c16b0:decide ((ji14)<(x5_2.length:Int))=true:=decide_eq_true c16;clear c16;obtain⟨y477,hy477⟩:∃y_:List Int,y_=(x5_2.set ((ji14):Int).toNat ((IntKind.u64.wrap (x8_2+(IntKind.u64.wrap ((IntKind.u64.wrap ((IntKind.u64.wrap ((rd l0 x19_1)))*(IntKind.u64.wrap (rd l1 x26_2))))+(IntKind.u64.wrap (rd x5_2 (ji14)))))))%4294967296)):=⟨_,rfl⟩
       (first|(replace H:=Sq.ny hy477 H;(try dsimp -simprocs only at H))|rw[←hy477] at H|skip)
       have Ny477:=Aside0.mk hy477;clear hy477;have H':=Aside0.mk H;clear H;have p475:0≤(x26_2:Int):=of_decide_eq_true (by first|(with_reducible assumption)|assumption);have q475:x26_2<(l1.length:Int):=of_decide_eq_true (by first|(with_reducible assumption)|assumption);obtain⟨ad475,e475,hx475_0⟩:=Kd.at_int HR1.out x26_2 p475 q475;cases e475;replace hx475_0:=(HB.out.cell (World.block_lt_of_cell? w _ hx475_0)).trans hx475_0;replace p475:=eq_true p475;replace q475:=eq_true q475;obtain⟨Ao18,co18,eo18⟩:=Kd.R_slice HO_5.out;subst eo18;have p476:0≤((ji14):Int):=of_decide_eq_true (by first|(with_reducible assumption)|assumption);have q476:(ji14)<(x5_2.length:Int):=of_decide_eq_true (by first|(with_reducible assumption)|assumption);obtain⟨ad476,e476,hx476_0⟩:=Kd.at_int (Kd.R_reads' HO_5.out).2.2 (ji14) p476 q476;cases e476;replace p476:=eq_true p476;replace q476:=eq_true q476;have p17:0≤((ji14):Int):=of_decide_eq_true (by first|(with_reducible assumption)|assumption);have q17:((ji14):Int)<((x5_2.length:Int):Int):=of_decide_eq_true (by first|(with_reducible assumption)|assumption);obtain⟨go17,co17,eo17,gb17,gl17,cl17,HG17⟩:=Kd.R_form HO_5.out (by omega)
       (first|cases eo17|(injection eo17 with ea_ en_ ec_;(first|subst ea_|(injection ea_ with ea_;subst ea_));subst ec_;clear en_))
       have GB17:=Aside0.mk gb17;have GG17:=Aside0.mk HG17;clear gb17 gl17 HG17
       (first|simp only[add_plain] at hx476_0|skip)
       obtain⟨hx17_0,hf17_0⟩:=Kd.R_celln 0 HO_5.out ((ji14):Int) p17 q17;replace p17:=eq_true p17;replace q17:=eq_true q17;have HP19:=Kd.R_putg HO_5.out ((ji14):Int) ((IntKind.u64.wrap (x8_2+(IntKind.u64.wrap ((IntKind.u64.wrap ((IntKind.u64.wrap ((rd l0 x19_1)))*(IntKind.u64.wrap (rd l1 x26_2))))+(IntKind.u64.wrap (rd x5_2 (ji14)))))))%4294967296);go_wp2_with (first|((with_reducible refine gate_store (t:=88) (p:=52) rfl ?_);refine store_event (t:=88) (p:=52) (v:=?vo_w20) (w1:=(wr.setCell ⟨go17,((ji14):Int).toNat,none⟩ (.int .u32 ((IntKind.u64.wrap (x8_2+(IntKind.u64.wrap ((IntKind.u64.wrap ((IntKind.u64.wrap ((rd l0 x19_1)))*(IntKind.u64.wrap (rd l1 x26_2))))+(IntKind.u64.wrap (rd x5_2 (ji14)))))))%4294967296)))) ?hg ?ho ?hn ?hr ?_;(case ho=>rfl);(case hg=>rfl);(case hn=>rfl);(case hr=>first|(go_simp;done)|(go_simp;rfl));intro w20 hw;have hg:wr.grownBy w20 (some go17):=(by rw[hw];exact HP19.2);have hp_:Kd.R (Kd.int .u32) 88 w20 w.heap.size (fun k_=>(w.heap.size≤k_)) (.slice (some ⟨go17,0,none⟩) x5_2.length co18) y477:=(by rw[hw,Ny477.out];exact HP19.1);clear HP19;replace HO_5:=Aside0.mk (hp_);replace HB:=Aside0.mk ((by rw[hw];exact below_set (HB.out) GB17.out:Below w.heap.size w w20));clear hg hw hp_))
       go_roundg k2
       case measure=>have:=HK1.out;have:=HK2.out;omega
       case rel=>exact⟨(y477),((IntKind.u64.wrap (x8_2+(IntKind.u64.wrap ((IntKind.u64.wrap ((IntKind.u64.wrap ((rd l0 x19_1)))*(IntKind.u64.wrap (rd l1 x26_2))))+(IntKind.u64.wrap (rd x5_2 (ji14)))))))/4294967296),(wrap64 (x26_2+1)),(by first|rfl|(simp;done)|(simp only[←hji14]<;>(first|rfl|simp))|(simp[*];done)),(by first|rfl|(simp;done)|(simp[*];done)),H',⟨by have:=HK1.out;have:=HK2.out;omega⟩,⟨by (with_reducible repeat (first|apply Kd.R_alloc|apply Kd.R_drewN|apply Kd.R_drew));exact HO_5.out⟩,⟨Sq.bl HB⟩⟩
      ·rw[if_neg c11] at H
       have c11b0:decide (x26_2<(l1.length:Int))=false:=decide_eq_false c11;clear c11;obtain⟨ji21,hji21⟩:∃j_:Int,(wrap64 (x19_1+(l1.length:Int)))=j_:=⟨_,rfl⟩
       (first|rw[hji21] at H|simp only[hji21] at H)
       have hji21w:(IntKind.i64.wrap (x19_1+(l1.length:Int)))=ji21:=(i64_w _).trans hji21;replace H:=Sq.ifs H;obtain⟨c22,H⟩:=H;have c22b0:decide (0≤(ji21))=true:=decide_eq_true c22;clear c22;replace H:=Sq.ifs H;obtain⟨c23,H⟩:=H;have c23b0:decide ((ji21)<(x5_2.length:Int))=true:=decide_eq_true c23;clear c23;obtain⟨y478,hy478⟩:∃y_:List Int,y_=(x5_2.set ((ji21):Int).toNat ((x8_2)%4294967296)):=⟨_,rfl⟩
       (first|(replace H:=Sq.ny hy478 H;(try dsimp -simprocs only at H))|rw[←hy478] at H|skip)
       have Ny478:=Aside0.mk hy478;clear hy478;have H':=Aside0.mk H;clear H;have p24:0≤((ji21):Int):=of_decide_eq_true (by first|(with_reducible assumption)|assumption);have q24:((ji21):Int)<((x5_2.length:Int):Int):=of_decide_eq_true (by first|(with_reducible assumption)|assumption);obtain⟨go24,co24,eo24,gb24,gl24,cl24,HG24⟩:=Kd.R_form HO_5.out (by omega)
       (first|cases eo24|(injection eo24 with ea_ en_ ec_;(first|subst ea_|(injection ea_ with ea_;subst ea_));subst ec_;clear en_))
       have GB24:=Aside0.mk gb24;have GG24:=Aside0.mk HG24;clear gb24 gl24 HG24;obtain⟨hx24_0,hf24_0⟩:=Kd.R_celln 0 HO_5.out ((ji21):Int) p24 q24;replace p24:=eq_true p24;replace q24:=eq_true q24;have HP25:=Kd.R_putg HO_5.out ((ji21):Int) ((x8_2)%4294967296);go_wp2_with (first|((with_reducible refine gate_store (t:=88) (p:=63) rfl ?_);refine store_event (t:=88) (p:=63) (v:=?vo_w26) (w1:=(wr.setCell ⟨go24,((ji21):Int).toNat,none⟩ (.int .u32 ((x8_2)%4294967296)))) ?hg ?ho ?hn ?hr ?_;(case ho=>rfl);(case hg=>rfl);(case hn=>rfl);(case hr=>first|(go_simp;done)|(go_simp;rfl));intro w26 hw;have hg:wr.grownBy w26 (some go24):=(by rw[hw];exact HP25.2);have hp_:Kd.R (Kd.int .u32) 88 w26 w.heap.size (fun k_=>(w.heap.size≤k_)) (.slice (some ⟨go24,0,none⟩) x5_2.length co24) y478:=(by rw[hw,Ny478.out];exact HP25.1);clear HP25;replace HO_5:=Aside0.mk (hp_);replace HB:=Aside0.mk ((by rw[hw];exact below_set (HB.out) GB24.out:Below w.heap.size w w26));clear hg hw hp_))
       go_roundg k2
       case measure=>have:=HK1.out;have:=HK2.out;omega
       case rel=>exact⟨(y478),(wrap64 (x19_1+1)),(by first|rfl|(simp;done)|(simp[*];done)),H',⟨by have:=HK1.out;have:=HK2.out;omega⟩,⟨by (with_reducible repeat (first|apply Kd.R_alloc|apply Kd.R_drewN|apply Kd.R_drew));exact HO_5.out⟩,⟨Sq.bl HB⟩⟩
   ·rw[if_neg c8] at H
    have c8b0:decide (x19_1<(l0.length:Int))=false:=decide_eq_false c8;clear c8;replace H:=Sq.bd H;obtain⟨t471,A27,H⟩:=H
    (try dsimp -simprocs only at H)
    obtain rfl:=Option.some.inj H;obtain⟨Ao28,co28,eo28⟩:=Kd.R_slice HO_5.out;subst eo28;go_wp2_with (first|((with_reducible refine gate_callee (f:=86) rfl ?_);refine Sq.gl (some 66) Tryz.func86 #[.slice Ao28 x5_1.length co28] ?_;(with_reducible refine (nat_cut.calls k1 (fun k_=>some k_=(.slice Ao28 x5_1.length co28:Value).ownBlock) _ _ x5_1 t471 _ ?side1 A27.out).mono ?_);(case side1=>exact Kd.R_V (Kd.R_tight rfl (HO_5.out)));rintro e w29 ⟨v472,rfl,ho0,hb⟩;refine⟨_,rfl,?_⟩;have HO473:=Aside0.mk (Kd.V_lower (Kd.V_mono (ok':=fun k_=>(w.heap.size≤k_)) ho0 (fun k_ hk_=>Or.elim hk_ (fun hs_=>((HO_5.out).1 k_ hs_.symm)) (fun hn_=>(Nat.le_trans (below_size (Sq.bl HB)) hn_)))) (below_size (Sq.bl HB)));replace HO_5:=Aside0.mk (Kd.R_below (Sq.al HO_5) hb);replace HB:=Sq.bs HB hb;(try clear hb);(try clear hb2);(try clear hk);(try clear hi);(try clear ho0)))
    go_ret
    exact⟨_,by first|rfl|(simp[errW_none,errW_some]<;>rfl)|(simp only[←hji3];first|rfl|(simp[errW_none,errW_some]<;>rfl))|(simp[*,errW_none,errW_some]<;>rfl),by (with_reducible repeat (first|apply Kd.V_alloc|apply Kd.V_drewN|apply Kd.V_drew));exact HO473.out,Sq.bl HB⟩
end Go.Proofs.YtjfkhbkddenfoaaGreat.N
