import Derived.Test.YtjfkhbkddenfoaaGreatQdajcgaonnfNx0
import Derived.Test.YtjfkhbkddenfoaaGreatQeomkhheifdNx5
import Derived.Test.YtjfkhbkddenfoaaGreatQogngcdmdpjNx6
import Derived.Test.YtjfkhbkddenfoaaGreatQgoapcpfdbnM
set_option linter.unusedVariables false
set_option linter.unusedSimpArgs false
namespace Go.Proofs.YtjfkhbkddenfoaaGreat.N
open Go.RowKit Go.Proofs.YtjfkhbkddenfoaaGreatW.PrintWords Go.Proofs.YtjfkhbkddenfoaaGreatW.PrintLast Go.Proofs.YtjfkhbkddenfoaaGreatW.PrintMore
attribute [local go_sem] max2_int min2_int max_two min_two max_three min_three max_four min_four   -- for this text's walks alone
def foliotref01_Gcd.l0:Nat→List Bool→List Bool→Option (List Int)
 |0,_,_=>none
 |k+1,x5,x6=>if (x6.length:Int)>0 then ((foliotref01_div.f k x5 x6).bind fun bt349=>(foliotref01_Gcd.l0 k x6 bt349.2)) else ((foliotref01_Limbs.f k x5).bind fun t355=>(some t355))
def foliotref01_Gcd.f (k:Nat) (l0:List Int) (l1:List Int):Option (List Int):=(foliotref01_Of.f k l0).bind fun t343=>((foliotref01_Of.f k l1).bind fun t346=>(foliotref01_Gcd.l0 k t343 t346))
set_option maxHeartbeats 8000000 in
set_option maxRecDepth 100000 in
theorem foliotref01_Gcd.calls (k:Nat) (A0:Option Addr) (c0:Nat) (l0:List Int) (A1:Option Addr) (c1:Nat) (l1:List Int) (r:List Int) (w:World) (hr0:Kd.C (Kd.int .u32) w A0 l0.length l0) (hc0:l0.length≤c0) (hr1:Kd.C (Kd.int .u32) w A1 l1.length l1) (hc1:l1.length≤c1) (h:foliotref01_Gcd.f k l0 l1=some r) :
 Calls Tryz.prog 72 #[.slice A0 l0.length c0,.slice A1 l1.length c1] w fun e w'=>∃v0_:Value,e=.returned (v0_)∧Kd.R (Kd.int .u32) 88 w' w.heap.size (fun _=>True) v0_ r∧Below w.heap.size w w':=by
 have HR0:=Aside0.mk hr0;have HC0:=Aside0.mk hc0;clear hr0 hc0;have HR1:=Aside0.mk hr1;have HC1:=Aside0.mk hc1;clear hr1 hc1;have HB:=Aside0.mk (Below.refl w.heap.size w);have H:((foliotref01_Of.f k l0).bind fun t343=>((foliotref01_Of.f k l1).bind fun t346=>(foliotref01_Gcd.l0 k t343 t346)))=some r:=h;clear h;replace H:=Sq.bd H;obtain⟨t343,A3,H⟩:=H
 (try dsimp -simprocs only at H)
 replace H:=Sq.bd H;obtain⟨t346,A4,H⟩:=H
 (try dsimp -simprocs only at H)
 have H':=Aside0.mk H;clear H;go_enter Tryz.func72,Tryz.ntmps72
 go_wp2_with (first|((with_reducible refine gate_callee (f:=99) rfl ?_);refine Sq.gl (some 10) Tryz.func99 #[.slice A0 l0.length c0] ?_;(with_reducible refine (foliotref01_Of.calls k _ _ l0 t343 _ ?side1 ?side2 A3.out).mono ?_);(case side1=>repeat (first|exact HR0.out|(with_reducible refine Kd.C_alloc ?_ _)|(with_reducible refine Kd.C_drewN ?_ _)|(with_reducible refine Kd.C_drew ?_)));(case side2=>exact HC0.out);rintro e w5 ⟨v344,rfl,ho0,hb⟩;refine⟨_,rfl,?_⟩;have HO345:=Aside0.mk (Kd.V_lower (Kd.V_mono (ok':=fun k_=>True) ho0 (fun k_ hk_=>trivial)) (below_size (Sq.bl HB)));replace HB:=Sq.bs HB hb;(try clear hb);(try clear hb2);(try clear hk);(try clear hi);(try clear ho0))|((with_reducible refine gate_callee (f:=99) rfl ?_);refine Sq.gl (some 12) Tryz.func99 #[.slice A1 l1.length c1] ?_;(with_reducible refine (foliotref01_Of.calls k _ _ l1 t346 _ ?side1 ?side2 A4.out).mono ?_);(case side1=>exact Sq.ca (Kd.C_below HR1.out HB.out));(case side2=>exact HC1.out);rintro e w6 ⟨v347,rfl,ho0,hb⟩;refine⟨_,rfl,?_⟩;replace HO345:=Aside0.mk (Kd.V_below (Sq.al HO345) hb);have HO348:=Aside0.mk (Kd.V_lower (Kd.V_mono (ok':=fun k_=>True) ho0 (fun k_ hk_=>trivial)) (below_size (Sq.bl HB)));replace HB:=Sq.bs HB hb;(try clear hb);(try clear hb2);(try clear hk);(try clear hi);(try clear ho0)))
 go_loopg [5,6] k (fun kq v5 v6 w'=>∃(x5_1:List Bool) (x6_1:List Bool),Aside0 (foliotref01_Gcd.l0 kq x5_1 x6_1=some r)∧Aside0 (kq≤k)∧Aside0 (Kd.V Kd.bool 4 w' w.heap.size (fun _=>True) v5 x5_1)∧Aside0 (Kd.V Kd.bool 4 w' w.heap.size (fun _=>True) v6 x6_1)∧Aside0 (Below w.heap.size w w'))
 case atStart=>exact⟨(t343),(t346),H',⟨Nat.le_refl _⟩,⟨by (with_reducible repeat (first|apply Kd.V_alloc|apply Kd.V_drewN|apply Kd.V_drew));exact HO345.out⟩,⟨by (with_reducible repeat (first|apply Kd.V_alloc|apply Kd.V_drewN|apply Kd.V_drew));exact HO348.out⟩,⟨Sq.bl HB⟩⟩
 case round =>
  clear H'
  try clear c1
  try clear p2
  obtain⟨x5_1,x6_1,HA,HK1,HO_5,HO_6,HB⟩:=hrel;cases gk with
  |zero=>exact absurd HA.out (by simp[foliotref01_Gcd.l0])
  |succ k1 =>
   have H:=HA.out;clear HA;simp only[foliotref01_Gcd.l0] at H;by_cases c7:(x6_1.length:Int)>0
   ·rw[if_pos c7] at H
    have c7b0:decide (0<(x6_1.length:Int))=true:=decide_eq_true c7;have c7b1:decide (0<x6_1.length)=true:=decide_eq_true (by omega);clear c7;replace H:=Sq.bd H;obtain⟨⟨t349,t352⟩,A8,H⟩:=H
    (try dsimp -simprocs only at H)
    have H':=Aside0.mk H;clear H;obtain⟨Ao9,co9,eo9⟩:=Kd.V_slice HO_6.out;subst eo9;obtain⟨Ao10,co10,eo10⟩:=Kd.V_slice HO_5.out;subst eo10;go_wp2_with (first|((with_reducible refine gate_callee (f:=100) rfl ?_);refine Sq.gl (some 19) Tryz.func100 #[.slice Ao10 x5_1.length co10,.slice Ao9 x6_1.length co9] ?_;(with_reducible refine (foliotref01_div.calls k1 _ _ x5_1 _ _ x6_1 t349 t352 _ ?side1 ?side2 ?side3 ?side4 A8.out).mono ?_);(case side1=>exact Sq.ca (Kd.V_reads' HO_5.out).2.2);(case side2=>exact (Kd.V_reads' HO_5.out).2.1);(case side3=>exact Sq.ca (Kd.V_reads' HO_6.out).2.2);(case side4=>exact (Kd.V_reads' HO_6.out).2.1);rintro e w11 ⟨v350,v353,rfl,ho0,ho1,hb⟩;refine⟨_,rfl,?_⟩;replace HO_5:=Aside0.mk (Kd.V_below (Sq.al HO_5) hb);replace HO_6:=Aside0.mk (Kd.V_below (Sq.al HO_6) hb);have HO351:=Aside0.mk (Kd.V_lower (Kd.V_mono (ok':=fun k_=>True) ho0 (fun k_ hk_=>trivial)) (below_size (Sq.bl HB)));have HO354:=Aside0.mk (Kd.V_lower (Kd.V_mono (ok':=fun k_=>True) ho1 (fun k_ hk_=>trivial)) (below_size (Sq.bl HB)));replace HB:=Sq.bs HB hb;(try clear hb);(try clear hb2);(try clear hk);(try clear hi);(try clear ho0);(try clear ho1)))
    go_roundg k1
    case measure=>have:=HK1.out;omega
    case rel=>exact⟨(x6_1),(t352),H',⟨by have:=HK1.out;omega⟩,⟨by (with_reducible repeat (first|apply Kd.V_alloc|apply Kd.V_drewN|apply Kd.V_drew));exact HO_6.out⟩,⟨by (with_reducible repeat (first|apply Kd.V_alloc|apply Kd.V_drewN|apply Kd.V_drew));exact HO354.out⟩,⟨Sq.bl HB⟩⟩
   ·rw[if_neg c7] at H
    have c7b0:decide (0<(x6_1.length:Int))=false:=decide_eq_false c7;have c7b1:decide (0<x6_1.length)=false:=decide_eq_false (by omega);clear c7;replace H:=Sq.bd H;obtain⟨t355,A12,H⟩:=H
    (try dsimp -simprocs only at H)
    obtain rfl:=Option.some.inj H;obtain⟨Ao13,co13,eo13⟩:=Kd.V_slice HO_6.out;subst eo13;obtain⟨Ao14,co14,eo14⟩:=Kd.V_slice HO_5.out;subst eo14;go_wp2_with (first|((with_reducible refine gate_callee (f:=101) rfl ?_);refine Sq.gl (some 25) Tryz.func101 #[.slice Ao14 x5_1.length co14] ?_;(with_reducible refine (foliotref01_Limbs.calls k1 _ _ x5_1 t355 _ ?side1 ?side2 A12.out).mono ?_);(case side1=>exact Sq.ca (Kd.V_reads' HO_5.out).2.2);(case side2=>exact (Kd.V_reads' HO_5.out).2.1);rintro e w15 ⟨v356,rfl,ho0,hb⟩;refine⟨_,rfl,?_⟩;replace HO_5:=Aside0.mk (Kd.V_elder' (Sq.al HO_5) (Kd.R_base ho0) hb);replace HO_6:=Aside0.mk (Kd.V_elder' (Sq.al HO_6) (Kd.R_base ho0) hb);have HO357:=Aside0.mk (Kd.R_lower ho0 (below_size (Sq.bl HB)));replace HB:=Sq.bs HB hb;(try clear hb);(try clear hb2);(try clear hk);(try clear hi);(try clear ho0)))
    go_ret
    exact⟨_,by first|rfl|(simp[errW_none,errW_some]<;>rfl)|(simp[*,errW_none,errW_some]<;>rfl),by (with_reducible repeat (first|apply Kd.R_alloc|apply Kd.R_drewN|apply Kd.R_drew));exact HO357.out,Sq.bl HB⟩
def foliotref01_Div.f (k:Nat) (l0:List Int) (l1:List Int):Option (List Int×List Int×Int):=(foliotref01_Of.f k l0).bind fun t358=>((foliotref01_Of.f k l1).bind fun t361=>(if (t361.length:Int)=0 then (some (([]:List Int),([]:List Int),3)) else ((foliotref01_div.f k t358 t361).bind fun bt364=>((foliotref01_Limbs.f k bt364.1).bind fun t370=>((foliotref01_Limbs.f k bt364.2).bind fun t373=>(some (t370,t373,0)))))))
set_option maxHeartbeats 8000000 in
set_option maxRecDepth 100000 in
theorem foliotref01_Div.calls (k:Nat) (A0:Option Addr) (c0:Nat) (l0:List Int) (A1:Option Addr) (c1:Nat) (l1:List Int) (r1:List Int) (r2:List Int) (r3:Int) (w:World) (hr0:Kd.C (Kd.int .u32) w A0 l0.length l0) (hc0:l0.length≤c0) (hr1:Kd.C (Kd.int .u32) w A1 l1.length l1) (hc1:l1.length≤c1) (h:foliotref01_Div.f k l0 l1=some (r1,r2,r3)) :
 Calls Tryz.prog 73 #[.slice A0 l0.length c0,.slice A1 l1.length c1] w fun e w'=>∃v0_ v1_:Value,e=.returned (.tuple #[v0_,v1_,.int .i64 r3])∧Kd.R (Kd.int .u32) 88 w' w.heap.size (fun k_=>some k_≠(v1_:Value).ownBlock) v0_ r1∧Kd.R (Kd.int .u32) 88 w' w.heap.size (fun k_=>some k_≠(v0_:Value).ownBlock) v1_ r2∧Below w.heap.size w w':=by
 have HR0:=Aside0.mk hr0;have HC0:=Aside0.mk hc0;clear hr0 hc0;have HR1:=Aside0.mk hr1;have HC1:=Aside0.mk hc1;clear hr1 hc1;have HB:=Aside0.mk (Below.refl w.heap.size w);have H:((foliotref01_Of.f k l0).bind fun t358=>((foliotref01_Of.f k l1).bind fun t361=>(if (t361.length:Int)=0 then (some (([]:List Int),([]:List Int),3)) else ((foliotref01_div.f k t358 t361).bind fun bt364=>((foliotref01_Limbs.f k bt364.1).bind fun t370=>((foliotref01_Limbs.f k bt364.2).bind fun t373=>(some (t370,t373,0))))))))=some (r1,r2,r3):=h;clear h;replace H:=Sq.bd H;obtain⟨t358,A3,H⟩:=H
 (try dsimp -simprocs only at H)
 replace H:=Sq.bd H;obtain⟨t361,A4,H⟩:=H
 (try dsimp -simprocs only at H)
 by_cases c5:(t361.length:Int)=0
 ·rw[if_pos c5] at H
  have c5b0:((t361.length:Int)==0)=true:=beq_iff_eq.mpr c5;have c5b1:((t361.length:Int) != 0)=false:=bne_eq_false_iff_eq.mpr c5;clear c5;simp only[Option.some.injEq,Prod.mk.injEq] at H;obtain⟨rfl,rfl,rfl⟩:=H;go_enter Tryz.func73,Tryz.ntmps73
  go_wp2_with (first|((with_reducible refine gate_callee (f:=99) rfl ?_);refine Sq.gl (some 12) Tryz.func99 #[.slice A0 l0.length c0] ?_;(with_reducible refine (foliotref01_Of.calls k _ _ l0 t358 _ ?side1 ?side2 A3.out).mono ?_);(case side1=>repeat (first|exact HR0.out|(with_reducible refine Kd.C_alloc ?_ _)|(with_reducible refine Kd.C_drewN ?_ _)|(with_reducible refine Kd.C_drew ?_)));(case side2=>exact HC0.out);rintro e w6 ⟨v359,rfl,ho0,hb⟩;refine⟨_,rfl,?_⟩;have HO360:=Aside0.mk (Kd.V_lower (Kd.V_mono (ok':=fun k_=>True) ho0 (fun k_ hk_=>trivial)) (below_size (Sq.bl HB)));replace HB:=Sq.bs HB hb;(try clear hb);(try clear hb2);(try clear hk);(try clear hi);(try clear ho0))|((with_reducible refine gate_callee (f:=99) rfl ?_);refine Sq.gl (some 14) Tryz.func99 #[.slice A1 l1.length c1] ?_;(with_reducible refine (foliotref01_Of.calls k _ _ l1 t361 _ ?side1 ?side2 A4.out).mono ?_);(case side1=>exact Sq.ca (Kd.C_below HR1.out HB.out));(case side2=>exact HC1.out);rintro e w7 ⟨v362,rfl,ho0,hb⟩;refine⟨_,rfl,?_⟩;replace HO360:=Aside0.mk (Kd.V_below (Sq.al HO360) hb);have HO363:=Aside0.mk (Kd.V_lower (Kd.V_mono (ok':=fun k_=>True) ho0 (fun k_ hk_=>trivial)) (below_size (Sq.bl HB)));replace HB:=Sq.bs HB hb;(try clear hb);(try clear hb2);(try clear hk);(try clear hi);(try clear ho0);obtain⟨Ao8,co8,eo8⟩:=Kd.V_slice HO363.out;subst eo8))
  go_ret3
  exact⟨_,_,by first|rfl|(simp[errW_none,errW_some]<;>rfl)|(simp[*,errW_none,errW_some]<;>rfl),by first|exact Kd.R_nil _ _ _ _ _|exact Kd.N_nil _ _ _ _ _|exact Kd.V_nil _ _ _ _ _|exact Kd.Q_nil _ _ _ _ _|exact Kd.S_nil _ _ _ _ _,by first|exact Kd.R_nil _ _ _ _ _|exact Kd.N_nil _ _ _ _ _|exact Kd.V_nil _ _ _ _ _|exact Kd.Q_nil _ _ _ _ _|exact Kd.S_nil _ _ _ _ _,Sq.bl HB⟩
 ·rw[if_neg c5] at H
  have c5b0:((t361.length:Int)==0)=false:=beq_eq_false_iff_ne.mpr c5;have c5b1:((t361.length:Int) != 0)=true:=bne_iff_ne.mpr c5;have c5b2:¬(t361=[]):=fun h_=>c5 (by rw[h_];rfl)
  replace H:=Sq.bd H;obtain⟨⟨t364,t367⟩,A9,H⟩:=H
  (try dsimp -simprocs only at H)
  replace H:=Sq.bd H;obtain⟨t370,A10,H⟩:=H
  (try dsimp -simprocs only at H)
  replace H:=Sq.bd H;obtain⟨t373,A11,H⟩:=H
  (try dsimp -simprocs only at H)
  simp only[Option.some.injEq,Prod.mk.injEq] at H;obtain⟨rfl,rfl,rfl⟩:=H;go_enter Tryz.func73,Tryz.ntmps73
  go_wp2_with (first|((with_reducible refine gate_callee (f:=99) rfl ?_);refine Sq.gl (some 12) Tryz.func99 #[.slice A0 l0.length c0] ?_;(with_reducible refine (foliotref01_Of.calls k _ _ l0 t358 _ ?side1 ?side2 A3.out).mono ?_);(case side1=>repeat (first|exact HR0.out|(with_reducible refine Kd.C_alloc ?_ _)|(with_reducible refine Kd.C_drewN ?_ _)|(with_reducible refine Kd.C_drew ?_)));(case side2=>exact HC0.out);rintro e w12 ⟨v359,rfl,ho0,hb⟩;refine⟨_,rfl,?_⟩;have HO360:=Aside0.mk (Kd.V_lower (Kd.V_mono (ok':=fun k_=>True) ho0 (fun k_ hk_=>trivial)) (below_size (Sq.bl HB)));replace HB:=Sq.bs HB hb;(try clear hb);(try clear hb2);(try clear hk);(try clear hi);(try clear ho0))|((with_reducible refine gate_callee (f:=99) rfl ?_);refine Sq.gl (some 14) Tryz.func99 #[.slice A1 l1.length c1] ?_;(with_reducible refine (foliotref01_Of.calls k _ _ l1 t361 _ ?side1 ?side2 A4.out).mono ?_);(case side1=>exact Sq.ca (Kd.C_below HR1.out HB.out));(case side2=>exact HC1.out);rintro e w13 ⟨v362,rfl,ho0,hb⟩;refine⟨_,rfl,?_⟩;replace HO360:=Aside0.mk (Kd.V_below (Sq.al HO360) hb);have HO363:=Aside0.mk (Kd.V_lower (Kd.V_mono (ok':=fun k_=>True) ho0 (fun k_ hk_=>trivial)) (below_size (Sq.bl HB)));replace HB:=Sq.bs HB hb;(try clear hb);(try clear hb2);(try clear hk);(try clear hi);(try clear ho0);obtain⟨Ao14,co14,eo14⟩:=Kd.V_slice HO363.out;subst eo14;obtain⟨Ao15,co15,eo15⟩:=Kd.V_slice HO360.out;subst eo15)|((with_reducible refine gate_callee (f:=100) rfl ?_);refine Sq.gl (some 21) Tryz.func100 #[.slice Ao15 t358.length co15,.slice Ao14 t361.length co14] ?_;(with_reducible refine (foliotref01_div.calls k _ _ t358 _ _ t361 t364 t367 _ ?side1 ?side2 ?side3 ?side4 A9.out).mono ?_);(case side1=>exact Sq.ca (Kd.V_reads' HO360.out).2.2);(case side2=>exact (Kd.V_reads' HO360.out).2.1);(case side3=>exact Sq.ca (Kd.V_reads' HO363.out).2.2);(case side4=>exact (Kd.V_reads' HO363.out).2.1);rintro e w16 ⟨v365,v368,rfl,ho0,ho1,hb⟩;refine⟨_,rfl,?_⟩;replace HO360:=Aside0.mk (Kd.V_below (Sq.al HO360) hb);replace HO363:=Aside0.mk (Kd.V_below (Sq.al HO363) hb);have HO366:=Aside0.mk (Kd.V_lower (Kd.V_mono (ok':=fun k_=>True) ho0 (fun k_ hk_=>trivial)) (below_size (Sq.bl HB)));have HO369:=Aside0.mk (Kd.V_lower (Kd.V_mono (ok':=fun k_=>True) ho1 (fun k_ hk_=>trivial)) (below_size (Sq.bl HB)));replace HB:=Sq.bs HB hb;(try clear hb);(try clear hb2);(try clear hk);(try clear hi);(try clear ho0);(try clear ho1);obtain⟨Ao17,co17,eo17⟩:=Kd.V_slice HO366.out;subst eo17)|((with_reducible refine gate_callee (f:=101) rfl ?_);refine Sq.gl (some 25) Tryz.func101 #[.slice Ao17 t364.length co17] ?_;(with_reducible refine (foliotref01_Limbs.calls k _ _ t364 t370 _ ?side1 ?side2 A10.out).mono ?_);(case side1=>exact Sq.ca (Kd.V_reads' HO366.out).2.2);(case side2=>exact (Kd.V_reads' HO366.out).2.1);rintro e w18 ⟨v371,rfl,ho0,hb⟩;refine⟨_,rfl,?_⟩;replace HO360:=Aside0.mk (Kd.V_elder' (Sq.al HO360) (Kd.R_base ho0) hb);replace HO363:=Aside0.mk (Kd.V_elder' (Sq.al HO363) (Kd.R_base ho0) hb);replace HO366:=Aside0.mk (Kd.V_elder' (Sq.al HO366) (Kd.R_base ho0) hb);replace HO369:=Aside0.mk (Kd.V_elder' (Sq.al HO369) (Kd.R_base ho0) hb);have HO372:=Aside0.mk (Kd.R_lower ho0 (below_size (Sq.bl HB)));replace HB:=Sq.bs HB hb;(try clear hb);(try clear hb2);(try clear hk);(try clear hi);(try clear ho0);obtain⟨Ao19,co19,eo19⟩:=Kd.V_slice HO369.out;subst eo19)|((with_reducible refine gate_callee (f:=101) rfl ?_);refine Sq.gl (some 27) Tryz.func101 #[.slice Ao19 t367.length co19] ?_;(with_reducible refine (foliotref01_Limbs.calls k _ _ t367 t373 _ ?side1 ?side2 A11.out).mono ?_);(case side1=>exact Sq.ca (Kd.V_reads' HO369.out).2.2);(case side2=>exact (Kd.V_reads' HO369.out).2.1);rintro e w20 ⟨v374,rfl,ho0,hb⟩;refine⟨_,rfl,?_⟩;replace HO360:=Aside0.mk (Kd.V_elder' (Sq.al HO360) (Kd.R_base ho0) hb);replace HO363:=Aside0.mk (Kd.V_elder' (Sq.al HO363) (Kd.R_base ho0) hb);replace HO366:=Aside0.mk (Kd.V_elder' (Sq.al HO366) (Kd.R_base ho0) hb);replace HO369:=Aside0.mk (Kd.V_elder' (Sq.al HO369) (Kd.R_base ho0) hb);have HO375:=Aside0.mk (Kd.R_lower (Kd.R_new' ho0 (Kd.R_lt (Sq.al HO372))) (below_size (Sq.bl HB)));replace HO372:=Aside0.mk (Kd.R_elder' (Sq.al HO372) (Kd.R_base ho0) hb);replace HB:=Sq.bs HB hb;(try clear hb);(try clear hb2);(try clear hk);(try clear hi);(try clear ho0)))
  go_ret3
  exact⟨_,_,by first|rfl|(simp[errW_none,errW_some]<;>rfl)|(simp[*,errW_none,errW_some]<;>rfl),by (with_reducible repeat (first|apply Kd.R_alloc|apply Kd.R_drewN|apply Kd.R_drew));exact Kd.R_mono HO372.out (fun _ hk=>hk.2),by (with_reducible repeat (first|apply Kd.R_alloc|apply Kd.R_drewN|apply Kd.R_drew));exact Kd.R_mono HO375.out (fun _ hk=>hk.2),Sq.bl HB⟩
def foliotref01_short.f (l0:List Int):Option (Int×Bool):=if (l0.length:Int)=0 then (some (0,true)) else (if 0<(l0.length:Int) then (some (IntKind.u64.wrap (rd l0 0),((l0.length:Int)==1))) else (none))
set_option maxHeartbeats 8000000 in
set_option maxRecDepth 100000 in
theorem foliotref01_short.calls (A0:Option Addr) (c0:Nat) (l0:List Int) (r1:Int) (r2:Bool) (w:World) (hr0:Kd.C (Kd.int .u32) w A0 l0.length l0) (hc0:l0.length≤c0) (h:foliotref01_short.f l0=some (r1,r2)) :
 Calls Tryz.prog 106 #[.slice A0 l0.length c0] w fun e w'=>e=.returned (.tuple #[.int .u64 r1,.bool r2])∧Drawn0 w w':=by
 have HR0:=Aside0.mk hr0;have HC0:=Aside0.mk hc0;clear hr0 hc0;have H:(if (l0.length:Int)=0 then (some (0,true)) else (if 0<(l0.length:Int) then (some (IntKind.u64.wrap (rd l0 0),((l0.length:Int)==1))) else (none)))=some (r1,r2):=h;clear h;by_cases c2:(l0.length:Int)=0
 ·rw[if_pos c2] at H
  have c2b0:((l0.length:Int)==0)=true:=beq_iff_eq.mpr c2;have c2b1:((l0.length:Int) != 0)=false:=bne_eq_false_iff_eq.mpr c2;clear c2;simp only[Option.some.injEq,Prod.mk.injEq] at H;obtain⟨rfl,rfl⟩:=H;go_enter Tryz.func106,Tryz.ntmps106
  go_wp2
  go_ret2
  exact⟨by first|rfl|(simp;done)|(simp[*];done),by repeat (first|exact Drawn0.refl _|apply Drawn0.step)⟩
 ·rw[if_neg c2] at H
  have c2b0:((l0.length:Int)==0)=false:=beq_eq_false_iff_ne.mpr c2;have c2b1:((l0.length:Int) != 0)=true:=bne_iff_ne.mpr c2;have c2b2:¬(l0=[]):=fun h_=>c2 (by rw[h_];rfl)
  replace H:=Sq.ifs H;obtain⟨c3,H⟩:=H;have c3b0:decide (0<(l0.length:Int))=true:=decide_eq_true c3;have c3b1:decide (0<l0.length)=true:=decide_eq_true (by omega);clear c3;simp only[Option.some.injEq,Prod.mk.injEq] at H;obtain⟨rfl,rfl⟩:=H;have p376:0≤(0:Int):=(by omega);have q376:0<(l0.length:Int):=of_decide_eq_true (by first|(with_reducible assumption)|assumption);obtain⟨ad376,e376,hx376_0⟩:=Kd.at_int HR0.out 0 p376 q376;cases e376;have qi376:(0<l0.length)=True:=eq_true (by omega)
  (try rw[show ((0:Int)).toNat=0 from rfl] at hx376_0)
  (try rw[Addr.add_zero'] at hx376_0)
  replace p376:=eq_true p376;replace q376:=eq_true q376;go_enter Tryz.func106,Tryz.ntmps106
  go_wp2
  go_ret2
  exact⟨by first|rfl|(simp;done)|(simp[*];done),by repeat (first|exact Drawn0.refl _|apply Drawn0.step)⟩
def foliotref01_limbs.f (k:Nat) (a0:Int):Option (List Int):=(foliotref01_Trim.f k (([(a0)%4294967296,(a0/4294967296)%4294967296]:List Int))).bind fun t380=>(some t380)
set_option maxHeartbeats 8000000 in
set_option maxRecDepth 100000 in
theorem foliotref01_limbs.calls (k:Nat) (a0:Int) (r:List Int) (w:World) (h:foliotref01_limbs.f k a0=some r) :
 Calls Tryz.prog 107 #[.int .u64 a0] w fun e w'=>∃v0_:Value,e=.returned (v0_)∧Kd.R (Kd.int .u32) 88 w' w.heap.size (fun _=>True) v0_ r∧Below w.heap.size w w':=by
 have HB:=Aside0.mk (Below.refl w.heap.size w);have H:((foliotref01_Trim.f k (([(a0)%4294967296,(a0/4294967296)%4294967296]:List Int))).bind fun t380=>(some t380))=some r:=h;clear h;obtain⟨y377,hy377⟩:∃y_:List Int,y_=(([(a0)%4294967296,(a0/4294967296)%4294967296]:List Int)):=⟨_,rfl⟩
 (first|(replace H:=Sq.ny hy377 H;(try dsimp -simprocs only at H))|rw[←hy377] at H|skip)
 have Ny377:=Aside0.mk hy377;clear hy377;replace H:=Sq.bd H;obtain⟨t380,A2,H⟩:=H
 (try dsimp -simprocs only at H)
 obtain rfl:=Option.some.inj H;go_enter Tryz.func107,Tryz.ntmps107
 go_wp2_with (first|((with_reducible refine gate_dst (N:=8) rfl ?_);refine Kd.R_lit (Kd.int .u32) _ 88 ?hg (N:=8) ?hd (xs:=([(a0)%4294967296,(a0/4294967296)%4294967296]:List Int)) (inner:=[.int .u32 ((a0)%4294967296),.int .u32 ((a0/4294967296)%4294967296)]) (ok:=fun _=>True) (okp:=fun _=>True) ?hr ?hp (fun _ hk=>hk) trivial (Below.refl _ _) (Nat.le_refl _) (by simp) ?_;(case hd=>rfl);(case hg=>rfl);(case hr=>first|(go_simp;done)|(go_simp;rfl));(case hp=>exact (Reps.one (show Kd.M (Kd.int .u32) _ _ _ ((a0)%4294967296) [.int .u32 ((a0)%4294967296)] from rfl) (Reps.one (show Kd.M (Kd.int .u32) _ _ _ ((a0/4294967296)%4294967296) [.int .u32 ((a0/4294967296)%4294967296)] from rfl) (Reps.none _ _))));intro v378 w3 ho4 hb hg_ hnew_;clear hg_ hnew_;(first|rw[←Ny377.out] at ho4|(simp only[Int.reduceToNat] at ho4;rw[←Ny377.out] at ho4));have HO379:=Aside0.mk (Kd.R_lower ho4 (below_size (Sq.bl HB)));replace HB:=Sq.bs HB hb;clear hb ho4;obtain⟨Ao5,co5,eo5⟩:=Kd.R_slice HO379.out;subst eo5)|((with_reducible refine gate_callee (f:=71) rfl ?_);refine Sq.gl (some 9) Tryz.func71 #[.slice Ao5 y377.length co5] ?_;(with_reducible refine (foliotref01_Trim.calls k _ _ y377 t380 _ ?side1 ?side2 A2.out).mono ?_);(case side1=>exact Sq.ca (Kd.R_reads' HO379.out).2.2);(case side2=>exact (Kd.R_reads' HO379.out).2.1);rintro e w6 ⟨v381,rfl,ho0,hb⟩;refine⟨_,rfl,?_⟩;have HO382:=Aside0.mk (Kd.R_lower (Kd.R_new' ho0 (Kd.R_lt (Sq.al HO379))) (below_size (Sq.bl HB)));replace HO379:=Aside0.mk (Kd.R_elder' (Sq.al HO379) (Kd.R_base ho0) hb);replace HB:=Sq.bs HB hb;(try clear hb);(try clear hb2);(try clear hk);(try clear hi);(try clear ho0)))
 go_ret
 exact⟨_,by first|rfl|(simp[errW_none,errW_some]<;>rfl)|(simp[*,errW_none,errW_some]<;>rfl),by (with_reducible repeat (first|apply Kd.R_alloc|apply Kd.R_drewN|apply Kd.R_drew));exact Kd.R_mono HO382.out (fun _ hk=>trivial),Sq.bl HB⟩
mutual
def foliotref01_add.l0:Nat→List Bool→List Bool→List Bool→Bool→Int→Option (List Bool)
 |0,_,_,_,_,_=>none
 |k+1,x0,x1,x5,x6,x7=>if x7<(mx (x0.length:Int) (x1.length:Int)) then (foliotref01_add.j1 k x0 x1 x5 x6 x7 true) else (foliotref01_add.j1 k x0 x1 x5 x6 x7 x6)
def foliotref01_add.j1:Nat→List Bool→List Bool→List Bool→Bool→Int→Bool→Option (List Bool)
 |0,_,_,_,_,_,_=>none
 |k+1,x0,x1,x5,x6,x7,x18=>if x18=true then ((foliotref01_at.f x0 x7).bind fun t386=>(if t386=true then (foliotref01_add.j2 k x0 x1 x5 x6 x7 (0+1)) else (foliotref01_add.j2 k x0 x1 x5 x6 x7 0))) else ((foliotref01_cut.f k x5).bind fun t383=>(some t383))
def foliotref01_add.j2:Nat→List Bool→List Bool→List Bool→Bool→Int→Int→Option (List Bool)
 |0,_,_,_,_,_,_=>none
 |k+1,x0,x1,x5,x6,x7,x8=>(foliotref01_at.f x1 x7).bind fun t387=>(if t387=true then (if x6=true then (if x5.length<140737488355328 then (foliotref01_add.l0 k x0 x1 (x5++[((Int.tmod (wrap64 ((wrap64 (x8+1))+1)) 2)==1)]) (decide ((wrap64 ((wrap64 (x8+1))+1))≥2)) (wrap64 (x7+1))) else (none)) else (if x5.length<140737488355328 then (foliotref01_add.l0 k x0 x1 (x5++[((Int.tmod (wrap64 (x8+1)) 2)==1)]) (decide ((wrap64 (x8+1))≥2)) (wrap64 (x7+1))) else (none))) else (if x6=true then (if x5.length<140737488355328 then (foliotref01_add.l0 k x0 x1 (x5++[((Int.tmod (wrap64 (x8+1)) 2)==1)]) (decide ((wrap64 (x8+1))≥2)) (wrap64 (x7+1))) else (none)) else (if x5.length<140737488355328 then (foliotref01_add.l0 k x0 x1 (x5++[((Int.tmod x8 2)==1)]) (decide (x8≥2)) (wrap64 (x7+1))) else (none))))
end
def foliotref01_add.f (k:Nat) (l0:List Bool) (l1:List Bool):Option (List Bool):=foliotref01_add.l0 k l0 l1 ([]:List Bool) false 0
set_option maxHeartbeats 8000000 in
set_option maxRecDepth 100000 in
theorem foliotref01_add.calls (k:Nat) (A0:Option Addr) (c0:Nat) (l0:List Bool) (A1:Option Addr) (c1:Nat) (l1:List Bool) (r:List Bool) (w:World) (hr0:Kd.C Kd.bool w A0 l0.length l0) (hc0:l0.length≤c0) (hr1:Kd.C Kd.bool w A1 l1.length l1) (hc1:l1.length≤c1) (h:foliotref01_add.f k l0 l1=some r) :
 Calls Tryz.prog 108 #[.slice A0 l0.length c0,.slice A1 l1.length c1] w fun e w'=>∃v0_:Value,e=.returned (v0_)∧Kd.V Kd.bool 4 w' w.heap.size (fun k_=>(w.heap.size≤k_)) v0_ r∧Below w.heap.size w w':=by
 have HR0:=Aside0.mk hr0;have HC0:=Aside0.mk hc0;clear hr0 hc0;have HR1:=Aside0.mk hr1;have HC1:=Aside0.mk hc1;clear hr1 hc1;have HB:=Aside0.mk (Below.refl w.heap.size w);have H:(foliotref01_add.l0 k l0 l1 ([]:List Bool) false 0)=some r:=h;clear h;have H':=Aside0.mk H;clear H;go_enter Tryz.func108,Tryz.ntmps108
 go_wp2
 go_loopg [5,6,7] k (fun kq v5 v6 v7 w'=>∃(x5_1:List Bool) (x6_1:Bool) (x7_1:Int),v6=.bool x6_1∧v7=.int .i64 x7_1∧Aside0 (foliotref01_add.l0 kq l0 l1 x5_1 x6_1 x7_1=some r)∧Aside0 (kq≤k)∧Aside0 (Kd.R Kd.bool 4 w' w.heap.size (fun k_=>(w.heap.size≤k_)) v5 x5_1)∧Aside0 (Below w.heap.size w w'))
 case atStart=>exact⟨(([]:List Bool)),(false),(0),(by first|rfl|(simp;done)|(simp[*];done)),(by first|rfl|(simp;done)|(simp[*];done)),H',⟨Nat.le_refl _⟩,⟨by first|exact Kd.R_nil _ _ _ _ _|exact Kd.N_nil _ _ _ _ _|exact Kd.V_nil _ _ _ _ _|exact Kd.Q_nil _ _ _ _ _|exact Kd.S_nil _ _ _ _ _⟩,⟨Sq.bl HB⟩⟩
 case round =>
  clear H'
  try clear c1
  try clear p2
  obtain⟨x5_1,x6_1,x7_1,rfl,rfl,HA,HK1,HO_5,HB⟩:=hrel;cases gk with
  |zero=>exact absurd HA.out (by simp[foliotref01_add.l0])
  |succ k1 =>
   have H:=HA.out;clear HA;simp only[foliotref01_add.l0] at H;have HC3:=Aside0.mk H;clear H
   go_upto_region 4 with (fail)
   go_cut [18] (fun v18 wc=>∃(kq:Nat) (x18_2:Bool),v18=.bool x18_2∧Aside0 (foliotref01_add.j1 kq l0 l1 x5_1 x6_1 x7_1 x18_2=some r)∧Aside0 (kq≤k1)∧Aside0 (Kd.R Kd.bool 4 wc w.heap.size (fun k_=>(w.heap.size≤k_)) u5 x5_1)∧Aside0 (Below w.heap.size w wc))
   case first =>
    have H:=HC3.out;clear HC3;obtain⟨ji4,hji4⟩:∃j_:Int,(mx (l0.length:Int) (l1.length:Int))=j_:=⟨_,rfl⟩
    (first|rw[hji4] at H|simp only[hji4] at H)
    (try (have hji4l:0≤ji4:=by (rw[←hji4];unfold mx;(repeat' split)<;>omega)))
    (try (have hji4m:0≤ji4:=by omega))
    have hji4_:(if (l0.length:Int)<(l1.length:Int) then (l1.length:Int) else (l0.length:Int))=ji4:=hji4;have hji4n:(if l0.length<l1.length then (l1.length:Int) else (l0.length:Int))=ji4:=by rw[←hji4_];split<;>split<;>omega
    have hji4d:decide (l0.length<l1.length)=decide ((l0.length:Int)<(l1.length:Int)):=by rw[decide_eq_decide];omega
    by_cases c5:x7_1<(ji4)
    ·rw[if_pos c5] at H
     have c5b0:decide (x7_1<(ji4))=true:=decide_eq_true c5;clear c5
     (first|rw[c5b0]|(simp only[i64_w,i32_w];rw[c5b0])|skip)
     have H':=Aside0.mk H;clear H;go_wp2
     go_meet
     case rel=>exact⟨_,(true),(by first|rfl|(simp;done)|(simp[*];done)),H',⟨by have:=HK1.out;first|omega|exact Nat.le_refl _⟩,⟨by (with_reducible repeat (first|apply Kd.R_alloc|apply Kd.R_drewN|apply Kd.R_drew));exact HO_5.out⟩,⟨Sq.bl HB⟩⟩
    ·rw[if_neg c5] at H
     have c5b0:decide (x7_1<(ji4))=false:=decide_eq_false c5;clear c5
     (first|rw[c5b0]|(simp only[i64_w,i32_w];rw[c5b0])|skip)
     have H':=Aside0.mk H;clear H;go_wp2
     go_meet
     case rel=>exact⟨_,(x6_1),(by first|rfl|(simp;done)|(simp[*];done)),H',⟨by have:=HK1.out;first|omega|exact Nat.le_refl _⟩,⟨by (with_reducible repeat (first|apply Kd.R_alloc|apply Kd.R_drewN|apply Kd.R_drew));exact HO_5.out⟩,⟨Sq.bl HB⟩⟩
   case rest =>
    clear HC3
    try clear c1
    try clear p2
    try clear c5
    try clear c5b0
    try clear p2
    obtain⟨kq,x18_2,rfl,HA,HJ2,HO_5,HB⟩:=hcut;cases kq with
    |zero=>exact absurd HA.out (by simp[foliotref01_add.j1])
    |succ kj2 =>
     have H:=HA.out;clear HA;simp only[foliotref01_add.j1] at H;by_cases c6:x18_2=true
     ·subst c6
      have H1:((foliotref01_at.f l0 x7_1).bind fun t386=>(if t386=true then (foliotref01_add.j2 kj2 l0 l1 x5_1 x6_1 x7_1 (0+1)) else (foliotref01_add.j2 kj2 l0 l1 x5_1 x6_1 x7_1 0)))=some r:=by rw[if_pos rfl] at H;exact H
      clear H;have H:=H1;clear H1;replace H:=Sq.bd H;obtain⟨t386,A7,H⟩:=H
      (try dsimp -simprocs only at H)
      have HC8:=Aside0.mk H;clear H
      go_upto_if 23 with (first|((with_reducible refine gate_callee (f:=126) rfl ?_);refine Sq.gl (some 23) Tryz.func126 #[.slice A0 l0.length c0,.int .i64 x7_1] ?_;(with_reducible refine (foliotref01_at.calls _ _ l0 x7_1 t386 _ ?side1 ?side2 A7.out).mono ?_);(case side1=>exact Sq.ca (Kd.C_below HR0.out HB.out));(case side2=>exact HC0.out);rintro e w' ⟨rfl,⟨nd,rfl⟩⟩;refine⟨_,rfl,?_⟩))
      (try simp only[Act.put,List.setIfInBounds_toArray,List.set_cons_zero,List.set_cons_succ])
      go_cut [8] (fun v8 wc=>∃(kq:Nat) (x8_7:Int),v8=.int .i64 x8_7∧Aside0 (foliotref01_add.j2 kq l0 l1 x5_1 x6_1 x7_1 x8_7=some r)∧Aside0 (kq≤kj2)∧Aside0 (Kd.R Kd.bool 4 wc w.heap.size (fun k_=>(w.heap.size≤k_)) u5 x5_1)∧Aside0 (Below w.heap.size w wc))
      case first =>
       have H:=HC8.out;clear HC8;by_cases c9:t386=true
       ·subst c9
        have H1:(foliotref01_add.j2 kj2 l0 l1 x5_1 x6_1 x7_1 (0+1))=some r:=by rw[if_pos rfl] at H;exact H
        clear H;have H:=H1;clear H1;have H':=Aside0.mk H;clear H;go_wp2
        go_meet
        case rel=>exact⟨_,(0+1),(by first|rfl|(simp;done)|(simp[*];done)),H',⟨by have:=HK1.out;have:=HJ2.out;first|omega|exact Nat.le_refl _⟩,⟨by (with_reducible repeat (first|apply Kd.R_alloc|apply Kd.R_drewN|apply Kd.R_drew));exact HO_5.out⟩,⟨Sq.bl HB⟩⟩
       ·replace c9:=Bool.eq_false_iff.mpr c9
        subst c9;have H1:(foliotref01_add.j2 kj2 l0 l1 x5_1 x6_1 x7_1 0)=some r:=by rw[if_neg (show ¬(false=true) by decide)] at H;exact H
        clear H;have H:=H1;clear H1;have H':=Aside0.mk H;clear H;go_wp2
        go_meet
        case rel=>exact⟨_,(0),(by first|rfl|(simp;done)|(simp[*];done)),H',⟨by have:=HK1.out;have:=HJ2.out;first|omega|exact Nat.le_refl _⟩,⟨by (with_reducible repeat (first|apply Kd.R_alloc|apply Kd.R_drewN|apply Kd.R_drew));exact HO_5.out⟩,⟨Sq.bl HB⟩⟩
      case rest =>
       clear HC8
       try clear c1
       try clear p2
       try clear c5
       try clear c5b0
       try clear c6
       try clear c9
       try clear p2
       obtain⟨kq,x8_7,rfl,HA,HJ7,HO_5,HB⟩:=hcut;cases kq with
       |zero=>exact absurd HA.out (by simp[foliotref01_add.j2])
       |succ kj7 =>
        have H:=HA.out;clear HA;simp only[foliotref01_add.j2] at H;replace H:=Sq.bd H;obtain⟨t387,A10,H⟩:=H
        (try dsimp -simprocs only at H)
        by_cases c11:t387=true
        ·subst c11
         have H1:(if x6_1=true then (if x5_1.length<140737488355328 then (foliotref01_add.l0 kj7 l0 l1 (x5_1++[((Int.tmod (wrap64 ((wrap64 (x8_7+1))+1)) 2)==1)]) (decide ((wrap64 ((wrap64 (x8_7+1))+1))≥2)) (wrap64 (x7_1+1))) else (none)) else (if x5_1.length<140737488355328 then (foliotref01_add.l0 kj7 l0 l1 (x5_1++[((Int.tmod (wrap64 (x8_7+1)) 2)==1)]) (decide ((wrap64 (x8_7+1))≥2)) (wrap64 (x7_1+1))) else (none)))=some r:=by rw[if_pos rfl] at H;exact H
         clear H;have H:=H1;clear H1;by_cases c12:x6_1=true
         ·subst c12
          have H1:(if x5_1.length<140737488355328 then (foliotref01_add.l0 kj7 l0 l1 (x5_1++[((Int.tmod (wrap64 ((wrap64 (x8_7+1))+1)) 2)==1)]) (decide ((wrap64 ((wrap64 (x8_7+1))+1))≥2)) (wrap64 (x7_1+1))) else (none))=some r:=by rw[if_pos rfl] at H;exact H
          clear H;have H:=H1;clear H1;replace H:=Sq.ifs H;obtain⟨c13,H⟩:=H;have LMc13:=Aside0.mk c13;clear c13;obtain⟨y388,hy388⟩:∃y_:List Bool,y_=(x5_1++[((Int.tmod (wrap64 ((wrap64 (x8_7+1))+1)) 2)==1)]):=⟨_,rfl⟩
          (first|(replace H:=Sq.ny hy388 H;(try dsimp -simprocs only at H))|rw[←hy388] at H|skip)
          have Ny388:=Aside0.mk hy388;clear hy388;have H':=Aside0.mk H;clear H;go_wp2_with (first|((with_reducible refine gate_callee (f:=126) rfl ?_);refine Sq.gl (some 28) Tryz.func126 #[.slice A1 l1.length c1,.int .i64 x7_1] ?_;(with_reducible refine (foliotref01_at.calls _ _ l1 x7_1 true _ ?side1 ?side2 A10.out).mono ?_);(case side1=>exact Sq.ca (Kd.C_below HR1.out HB.out));(case side2=>exact HC1.out);rintro e w' ⟨rfl,⟨nd,rfl⟩⟩;refine⟨_,rfl,?_⟩)|((with_reducible refine gate_builtin (b:=.append) (xs:=#[.tmp 34,.tmp 38]) rfl ?_);at_builtin;refine Kd.R_append Kd.bool (w0:=w) w.heap.size rfl (.tmp 34) (.tmp 38) 34 4 (.bool false) 1 rfl Tryz.underlying34 info4 rfl (by decide) (by omega) u5 x5_1 ((Int.tmod (wrap64 ((wrap64 (x8_7+1))+1)) 2)==1) [.bool ((Int.tmod (wrap64 ((wrap64 (x8_7+1))+1)) 2)==1)] (fun k_=>(w.heap.size≤k_)) (fun _=>False) rfl rfl ?aP (fun _ hk=>hk.elim) ?aF ?aO ?aB ?aS ?aL ?_;(case aP=>exact rfl);(case aB=>exact (Sq.bl HB));(case aF=>exact (fun k_ hk=>(Nat.le_trans (below_size (Sq.bl HB)) hk)));(case aO=>exact (Sq.al HO_5));(case aS=>exact (below_size (Sq.bl HB)));(case aL=>have:=LMc13.out;omega);intro v389 w14 ho hb hg hat;rw[←Ny388.out] at ho;replace HB:=Aside0.mk (hb);have HO390:=Aside0.mk (ho);clear HO_5;clear ho hb hg hat))
          go_roundg kj7
          case measure=>have:=HK1.out;have:=HJ2.out;have:=HJ7.out;omega
          case rel=>exact⟨(y388),(decide ((wrap64 ((wrap64 (x8_7+1))+1))≥2)),(wrap64 (x7_1+1)),(by first|rfl|(simp;done)|(simp[*];done)),(by first|rfl|(simp;done)|(simp[*];done)),H',⟨by have:=HK1.out;have:=HJ2.out;have:=HJ7.out;omega⟩,⟨by (with_reducible repeat (first|apply Kd.R_alloc|apply Kd.R_drewN|apply Kd.R_drew));exact HO390.out⟩,⟨Sq.bl HB⟩⟩
         ·replace c12:=Bool.eq_false_iff.mpr c12
          subst c12;have H1:(if x5_1.length<140737488355328 then (foliotref01_add.l0 kj7 l0 l1 (x5_1++[((Int.tmod (wrap64 (x8_7+1)) 2)==1)]) (decide ((wrap64 (x8_7+1))≥2)) (wrap64 (x7_1+1))) else (none))=some r:=by rw[if_neg (show ¬(false=true) by decide)] at H;exact H
          clear H;have H:=H1;clear H1;replace H:=Sq.ifs H;obtain⟨c15,H⟩:=H;have LMc15:=Aside0.mk c15;clear c15;obtain⟨y391,hy391⟩:∃y_:List Bool,y_=(x5_1++[((Int.tmod (wrap64 (x8_7+1)) 2)==1)]):=⟨_,rfl⟩
          (first|(replace H:=Sq.ny hy391 H;(try dsimp -simprocs only at H))|rw[←hy391] at H|skip)
          have Ny391:=Aside0.mk hy391;clear hy391;have H':=Aside0.mk H;clear H;go_wp2_with (first|((with_reducible refine gate_callee (f:=126) rfl ?_);refine Sq.gl (some 28) Tryz.func126 #[.slice A1 l1.length c1,.int .i64 x7_1] ?_;(with_reducible refine (foliotref01_at.calls _ _ l1 x7_1 true _ ?side1 ?side2 A10.out).mono ?_);(case side1=>exact Sq.ca (Kd.C_below HR1.out HB.out));(case side2=>exact HC1.out);rintro e w' ⟨rfl,⟨nd,rfl⟩⟩;refine⟨_,rfl,?_⟩)|((with_reducible refine gate_builtin (b:=.append) (xs:=#[.tmp 34,.tmp 38]) rfl ?_);at_builtin;refine Kd.R_append Kd.bool (w0:=w) w.heap.size rfl (.tmp 34) (.tmp 38) 34 4 (.bool false) 1 rfl Tryz.underlying34 info4 rfl (by decide) (by omega) u5 x5_1 ((Int.tmod (wrap64 (x8_7+1)) 2)==1) [.bool ((Int.tmod (wrap64 (x8_7+1)) 2)==1)] (fun k_=>(w.heap.size≤k_)) (fun _=>False) rfl rfl ?aP (fun _ hk=>hk.elim) ?aF ?aO ?aB ?aS ?aL ?_;(case aP=>exact rfl);(case aB=>exact (Sq.bl HB));(case aF=>exact (fun k_ hk=>(Nat.le_trans (below_size (Sq.bl HB)) hk)));(case aO=>exact (Sq.al HO_5));(case aS=>exact (below_size (Sq.bl HB)));(case aL=>have:=LMc15.out;omega);intro v392 w16 ho hb hg hat;rw[←Ny391.out] at ho;replace HB:=Aside0.mk (hb);have HO393:=Aside0.mk (ho);clear HO_5;clear ho hb hg hat))
          go_roundg kj7
          case measure=>have:=HK1.out;have:=HJ2.out;have:=HJ7.out;omega
          case rel=>exact⟨(y391),(decide ((wrap64 (x8_7+1))≥2)),(wrap64 (x7_1+1)),(by first|rfl|(simp;done)|(simp[*];done)),(by first|rfl|(simp;done)|(simp[*];done)),H',⟨by have:=HK1.out;have:=HJ2.out;have:=HJ7.out;omega⟩,⟨by (with_reducible repeat (first|apply Kd.R_alloc|apply Kd.R_drewN|apply Kd.R_drew));exact HO393.out⟩,⟨Sq.bl HB⟩⟩
        ·replace c11:=Bool.eq_false_iff.mpr c11
         subst c11;have H1:(if x6_1=true then (if x5_1.length<140737488355328 then (foliotref01_add.l0 kj7 l0 l1 (x5_1++[((Int.tmod (wrap64 (x8_7+1)) 2)==1)]) (decide ((wrap64 (x8_7+1))≥2)) (wrap64 (x7_1+1))) else (none)) else (if x5_1.length<140737488355328 then (foliotref01_add.l0 kj7 l0 l1 (x5_1++[((Int.tmod x8_7 2)==1)]) (decide (x8_7≥2)) (wrap64 (x7_1+1))) else (none)))=some r:=by rw[if_neg (show ¬(false=true) by decide)] at H;exact H
         clear H;have H:=H1;clear H1;by_cases c17:x6_1=true
         ·subst c17
          have H1:(if x5_1.length<140737488355328 then (foliotref01_add.l0 kj7 l0 l1 (x5_1++[((Int.tmod (wrap64 (x8_7+1)) 2)==1)]) (decide ((wrap64 (x8_7+1))≥2)) (wrap64 (x7_1+1))) else (none))=some r:=by rw[if_pos rfl] at H;exact H
          clear H;have H:=H1;clear H1;replace H:=Sq.ifs H;obtain⟨c18,H⟩:=H;have LMc18:=Aside0.mk c18;clear c18;obtain⟨y394,hy394⟩:∃y_:List Bool,y_=(x5_1++[((Int.tmod (wrap64 (x8_7+1)) 2)==1)]):=⟨_,rfl⟩
          (first|(replace H:=Sq.ny hy394 H;(try dsimp -simprocs only at H))|rw[←hy394] at H|skip)
          have Ny394:=Aside0.mk hy394;clear hy394;have H':=Aside0.mk H;clear H;go_wp2_with (first|((with_reducible refine gate_callee (f:=126) rfl ?_);refine Sq.gl (some 28) Tryz.func126 #[.slice A1 l1.length c1,.int .i64 x7_1] ?_;(with_reducible refine (foliotref01_at.calls _ _ l1 x7_1 false _ ?side1 ?side2 A10.out).mono ?_);(case side1=>exact Sq.ca (Kd.C_below HR1.out HB.out));(case side2=>exact HC1.out);rintro e w' ⟨rfl,⟨nd,rfl⟩⟩;refine⟨_,rfl,?_⟩)|((with_reducible refine gate_builtin (b:=.append) (xs:=#[.tmp 34,.tmp 38]) rfl ?_);at_builtin;refine Kd.R_append Kd.bool (w0:=w) w.heap.size rfl (.tmp 34) (.tmp 38) 34 4 (.bool false) 1 rfl Tryz.underlying34 info4 rfl (by decide) (by omega) u5 x5_1 ((Int.tmod (wrap64 (x8_7+1)) 2)==1) [.bool ((Int.tmod (wrap64 (x8_7+1)) 2)==1)] (fun k_=>(w.heap.size≤k_)) (fun _=>False) rfl rfl ?aP (fun _ hk=>hk.elim) ?aF ?aO ?aB ?aS ?aL ?_;(case aP=>exact rfl);(case aB=>exact (Sq.bl HB));(case aF=>exact (fun k_ hk=>(Nat.le_trans (below_size (Sq.bl HB)) hk)));(case aO=>exact (Sq.al HO_5));(case aS=>exact (below_size (Sq.bl HB)));(case aL=>have:=LMc18.out;omega);intro v395 w19 ho hb hg hat;rw[←Ny394.out] at ho;replace HB:=Aside0.mk (hb);have HO396:=Aside0.mk (ho);clear HO_5;clear ho hb hg hat))
          go_roundg kj7
          case measure=>have:=HK1.out;have:=HJ2.out;have:=HJ7.out;omega
          case rel=>exact⟨(y394),(decide ((wrap64 (x8_7+1))≥2)),(wrap64 (x7_1+1)),(by first|rfl|(simp;done)|(simp[*];done)),(by first|rfl|(simp;done)|(simp[*];done)),H',⟨by have:=HK1.out;have:=HJ2.out;have:=HJ7.out;omega⟩,⟨by (with_reducible repeat (first|apply Kd.R_alloc|apply Kd.R_drewN|apply Kd.R_drew));exact HO396.out⟩,⟨Sq.bl HB⟩⟩
         ·replace c17:=Bool.eq_false_iff.mpr c17
          subst c17;have H1:(if x5_1.length<140737488355328 then (foliotref01_add.l0 kj7 l0 l1 (x5_1++[((Int.tmod x8_7 2)==1)]) (decide (x8_7≥2)) (wrap64 (x7_1+1))) else (none))=some r:=by rw[if_neg (show ¬(false=true) by decide)] at H;exact H
          clear H;have H:=H1;clear H1;replace H:=Sq.ifs H;obtain⟨c20,H⟩:=H;have LMc20:=Aside0.mk c20;clear c20;obtain⟨y397,hy397⟩:∃y_:List Bool,y_=(x5_1++[((Int.tmod x8_7 2)==1)]):=⟨_,rfl⟩
          (first|(replace H:=Sq.ny hy397 H;(try dsimp -simprocs only at H))|rw[←hy397] at H|skip)
          have Ny397:=Aside0.mk hy397;clear hy397;have H':=Aside0.mk H;clear H;go_wp2_with (first|((with_reducible refine gate_callee (f:=126) rfl ?_);refine Sq.gl (some 28) Tryz.func126 #[.slice A1 l1.length c1,.int .i64 x7_1] ?_;(with_reducible refine (foliotref01_at.calls _ _ l1 x7_1 false _ ?side1 ?side2 A10.out).mono ?_);(case side1=>exact Sq.ca (Kd.C_below HR1.out HB.out));(case side2=>exact HC1.out);rintro e w' ⟨rfl,⟨nd,rfl⟩⟩;refine⟨_,rfl,?_⟩)|((with_reducible refine gate_builtin (b:=.append) (xs:=#[.tmp 34,.tmp 38]) rfl ?_);at_builtin;refine Kd.R_append Kd.bool (w0:=w) w.heap.size rfl (.tmp 34) (.tmp 38) 34 4 (.bool false) 1 rfl Tryz.underlying34 info4 rfl (by decide) (by omega) u5 x5_1 ((Int.tmod x8_7 2)==1) [.bool ((Int.tmod x8_7 2)==1)] (fun k_=>(w.heap.size≤k_)) (fun _=>False) rfl rfl ?aP (fun _ hk=>hk.elim) ?aF ?aO ?aB ?aS ?aL ?_;(case aP=>exact rfl);(case aB=>exact (Sq.bl HB));(case aF=>exact (fun k_ hk=>(Nat.le_trans (below_size (Sq.bl HB)) hk)));(case aO=>exact (Sq.al HO_5));(case aS=>exact (below_size (Sq.bl HB)));(case aL=>have:=LMc20.out;omega);intro v398 w21 ho hb hg hat;rw[←Ny397.out] at ho;replace HB:=Aside0.mk (hb);have HO399:=Aside0.mk (ho);clear HO_5;clear ho hb hg hat))
          go_roundg kj7
          case measure=>have:=HK1.out;have:=HJ2.out;have:=HJ7.out;omega
          case rel=>exact⟨(y397),(decide (x8_7≥2)),(wrap64 (x7_1+1)),(by first|rfl|(simp;done)|(simp[*];done)),(by first|rfl|(simp;done)|(simp[*];done)),H',⟨by have:=HK1.out;have:=HJ2.out;have:=HJ7.out;omega⟩,⟨by (with_reducible repeat (first|apply Kd.R_alloc|apply Kd.R_drewN|apply Kd.R_drew));exact HO399.out⟩,⟨Sq.bl HB⟩⟩
     ·replace c6:=Bool.eq_false_iff.mpr c6
      subst c6;have H1:((foliotref01_cut.f kj2 x5_1).bind fun t383=>(some t383))=some r:=by rw[if_neg (show ¬(false=true) by decide)] at H;exact H
      clear H;have H:=H1;clear H1;replace H:=Sq.bd H;obtain⟨t383,A22,H⟩:=H
      (try dsimp -simprocs only at H)
      obtain rfl:=Option.some.inj H;obtain⟨Ao23,co23,eo23⟩:=Kd.R_slice HO_5.out;subst eo23;go_wp2_with (first|((with_reducible refine gate_callee (f:=121) rfl ?_);refine Sq.gl (some 43) Tryz.func121 #[.slice Ao23 x5_1.length co23] ?_;(with_reducible refine (foliotref01_cut.calls kj2 (fun k_=>some k_=(.slice Ao23 x5_1.length co23:Value).ownBlock) _ _ x5_1 t383 _ ?side1 A22.out).mono ?_);(case side1=>exact Kd.R_V (Kd.R_tight rfl (HO_5.out)));rintro e w24 ⟨v384,rfl,ho0,hb⟩;refine⟨_,rfl,?_⟩;have HO385:=Aside0.mk (Kd.V_lower (Kd.V_mono (ok':=fun k_=>(w.heap.size≤k_)) ho0 (fun k_ hk_=>Or.elim hk_ (fun hs_=>((HO_5.out).1 k_ hs_.symm)) (fun hn_=>(Nat.le_trans (below_size (Sq.bl HB)) hn_)))) (below_size (Sq.bl HB)));replace HO_5:=Aside0.mk (Kd.R_below (Sq.al HO_5) hb);replace HB:=Sq.bs HB hb;(try clear hb);(try clear hb2);(try clear hk);(try clear hi);(try clear ho0)))
      go_ret
      exact⟨_,by first|rfl|(simp[errW_none,errW_some]<;>rfl)|(simp[*,errW_none,errW_some]<;>rfl),by (with_reducible repeat (first|apply Kd.V_alloc|apply Kd.V_drewN|apply Kd.V_drew));exact HO385.out,Sq.bl HB⟩
def foliotref01_Add.j0:Nat→List Int→List Int→Int→Int→Bool→Option (List Int)
 |0,_,_,_,_,_=>none
 |k+1,x0,x1,x5,x7,x22=>if x22=true then ((foliotref01_limbs.f k (IntKind.u64.wrap (x5+x7))).bind fun t404=>(some t404)) else ((foliotref01_Of.f k x0).bind fun t407=>((foliotref01_Of.f k x1).bind fun t410=>((foliotref01_add.f k t407 t410).bind fun t413=>((foliotref01_Limbs.f k t413).bind fun t416=>(some t416)))))
def foliotref01_Add.f (k:Nat) (l0:List Int) (l1:List Int):Option (List Int):=(foliotref01_short.f l0).bind fun bt400=>((foliotref01_short.f l1).bind fun bt402=>(if bt400.2=true then (foliotref01_Add.j0 k l0 l1 bt400.1 bt402.1 bt402.2) else (foliotref01_Add.j0 k l0 l1 bt400.1 bt402.1 false)))
set_option maxHeartbeats 8000000 in
set_option maxRecDepth 100000 in
theorem foliotref01_Add.calls (k:Nat) (A0:Option Addr) (c0:Nat) (l0:List Int) (A1:Option Addr) (c1:Nat) (l1:List Int) (r:List Int) (w:World) (hr0:Kd.C (Kd.int .u32) w A0 l0.length l0) (hc0:l0.length≤c0) (hr1:Kd.C (Kd.int .u32) w A1 l1.length l1) (hc1:l1.length≤c1) (h:foliotref01_Add.f k l0 l1=some r) :
 Calls Tryz.prog 103 #[.slice A0 l0.length c0,.slice A1 l1.length c1] w fun e w'=>∃v0_:Value,e=.returned (v0_)∧Kd.R (Kd.int .u32) 88 w' w.heap.size (fun _=>True) v0_ r∧Below w.heap.size w w':=by
 have HR0:=Aside0.mk hr0;have HC0:=Aside0.mk hc0;clear hr0 hc0;have HR1:=Aside0.mk hr1;have HC1:=Aside0.mk hc1;clear hr1 hc1;have HB:=Aside0.mk (Below.refl w.heap.size w);have H:((foliotref01_short.f l0).bind fun bt400=>((foliotref01_short.f l1).bind fun bt402=>(if bt400.2=true then (foliotref01_Add.j0 k l0 l1 bt400.1 bt402.1 bt402.2) else (foliotref01_Add.j0 k l0 l1 bt400.1 bt402.1 false))))=some r:=h;clear h;replace H:=Sq.bd H;obtain⟨⟨t400,t401⟩,A3,H⟩:=H
 (try dsimp -simprocs only at H)
 replace H:=Sq.bd H;obtain⟨⟨t402,t403⟩,A4,H⟩:=H
 (try dsimp -simprocs only at H)
 have HC5:=Aside0.mk H;clear H;go_enter Tryz.func103,Tryz.ntmps103
 go_upto_region 3 with (first|((with_reducible refine gate_callee (f:=106) rfl ?_);refine Sq.gl (some 11) Tryz.func106 #[.slice A0 l0.length c0] ?_;(with_reducible refine (foliotref01_short.calls _ _ l0 t400 t401 _ ?side1 ?side2 A3.out).mono ?_);(case side1=>repeat (first|exact HR0.out|(with_reducible refine Kd.C_alloc ?_ _)|(with_reducible refine Kd.C_drewN ?_ _)|(with_reducible refine Kd.C_drew ?_)));(case side2=>exact HC0.out);rintro e w' ⟨rfl,⟨nd,rfl⟩⟩;refine⟨_,rfl,?_⟩)|((with_reducible refine gate_callee (f:=106) rfl ?_);refine Sq.gl (some 16) Tryz.func106 #[.slice A1 l1.length c1] ?_;(with_reducible refine (foliotref01_short.calls _ _ l1 t402 t403 _ ?side1 ?side2 A4.out).mono ?_);(case side1=>repeat (first|exact HR1.out|(with_reducible refine Kd.C_alloc ?_ _)|(with_reducible refine Kd.C_drewN ?_ _)|(with_reducible refine Kd.C_drew ?_)));(case side2=>exact HC1.out);rintro e w' ⟨rfl,⟨nd,rfl⟩⟩;refine⟨_,rfl,?_⟩))
 (try simp only[Act.put,List.setIfInBounds_toArray,List.set_cons_zero,List.set_cons_succ])
 go_cut [22] (fun v22 wc=>∃(kq:Nat) (x22_4:Bool),v22=.bool x22_4∧Aside0 (foliotref01_Add.j0 kq l0 l1 t400 t402 x22_4=some r)∧Aside0 (kq≤k)∧Aside0 (Below w.heap.size w wc))
 case first =>
  have H:=HC5.out;clear HC5;by_cases c6:t401=true
  ·subst c6
   have H1:(foliotref01_Add.j0 k l0 l1 t400 t402 t403)=some r:=by rw[if_pos rfl] at H;exact H
   clear H;have H:=H1;clear H1;have H':=Aside0.mk H;clear H;go_wp2
   go_meet
   case rel=>exact⟨_,(t403),(by first|rfl|(simp;done)|(simp[*];done)),H',⟨by first|omega|exact Nat.le_refl _⟩,⟨Sq.bl HB⟩⟩
  ·replace c6:=Bool.eq_false_iff.mpr c6
   subst c6;have H1:(foliotref01_Add.j0 k l0 l1 t400 t402 false)=some r:=by rw[if_neg (show ¬(false=true) by decide)] at H;exact H
   clear H;have H:=H1;clear H1;have H':=Aside0.mk H;clear H;go_wp2
   go_meet
   case rel=>exact⟨_,(false),(by first|rfl|(simp;done)|(simp[*];done)),H',⟨by first|omega|exact Nat.le_refl _⟩,⟨Sq.bl HB⟩⟩
 case rest =>
  clear HC5
  try clear c1
  try clear p2
  try clear c6
  obtain⟨kq,x22_4,rfl,HA,HJ4,HB⟩:=hcut;cases kq with
  |zero=>exact absurd HA.out (by simp[foliotref01_Add.j0])
  |succ kj4 =>
   have H:=HA.out;clear HA;simp only[foliotref01_Add.j0] at H;by_cases c7:x22_4=true
   ·subst c7
    have H1:((foliotref01_limbs.f kj4 (IntKind.u64.wrap (t400+t402))).bind fun t404=>(some t404))=some r:=by rw[if_pos rfl] at H;exact H
    clear H;have H:=H1;clear H1;replace H:=Sq.bd H;obtain⟨t404,A8,H⟩:=H
    (try dsimp -simprocs only at H)
    obtain rfl:=Option.some.inj H;go_wp2_with (first|((with_reducible refine gate_callee (f:=107) rfl ?_);refine Sq.gl (some 26) Tryz.func107 #[.int .u64 (IntKind.u64.wrap (t400+t402))] ?_;(with_reducible refine (foliotref01_limbs.calls kj4 (IntKind.u64.wrap (t400+t402)) t404 _ A8.out).mono ?_);rintro e w9 ⟨v405,rfl,ho0,hb⟩;refine⟨_,rfl,?_⟩;have HO406:=Aside0.mk (Kd.R_lower ho0 (below_size (Sq.bl HB)));replace HB:=Sq.bs HB hb;(try clear hb);(try clear hb2);(try clear hk);(try clear hi);(try clear ho0)))
    go_ret
    exact⟨_,by first|rfl|(simp[errW_none,errW_some]<;>rfl)|(simp[*,errW_none,errW_some]<;>rfl),by (with_reducible repeat (first|apply Kd.R_alloc|apply Kd.R_drewN|apply Kd.R_drew));exact HO406.out,Sq.bl HB⟩
   ·replace c7:=Bool.eq_false_iff.mpr c7
    subst c7;have H1:((foliotref01_Of.f kj4 l0).bind fun t407=>((foliotref01_Of.f kj4 l1).bind fun t410=>((foliotref01_add.f kj4 t407 t410).bind fun t413=>((foliotref01_Limbs.f kj4 t413).bind fun t416=>(some t416)))))=some r:=by rw[if_neg (show ¬(false=true) by decide)] at H;exact H
    clear H;have H:=H1;clear H1;replace H:=Sq.bd H;obtain⟨t407,A10,H⟩:=H
    (try dsimp -simprocs only at H)
    replace H:=Sq.bd H;obtain⟨t410,A11,H⟩:=H
    (try dsimp -simprocs only at H)
    replace H:=Sq.bd H;obtain⟨t413,A12,H⟩:=H
    (try dsimp -simprocs only at H)
    replace H:=Sq.bd H;obtain⟨t416,A13,H⟩:=H
    (try dsimp -simprocs only at H)
    obtain rfl:=Option.some.inj H;go_wp2_with (first|((with_reducible refine gate_callee (f:=99) rfl ?_);refine Sq.gl (some 28) Tryz.func99 #[.slice A0 l0.length c0] ?_;(with_reducible refine (foliotref01_Of.calls kj4 _ _ l0 t407 _ ?side1 ?side2 A10.out).mono ?_);(case side1=>exact Sq.ca (Kd.C_below HR0.out HB.out));(case side2=>exact HC0.out);rintro e w14 ⟨v408,rfl,ho0,hb⟩;refine⟨_,rfl,?_⟩;have HO409:=Aside0.mk (Kd.V_lower (Kd.V_mono (ok':=fun k_=>True) ho0 (fun k_ hk_=>trivial)) (below_size (Sq.bl HB)));replace HB:=Sq.bs HB hb;(try clear hb);(try clear hb2);(try clear hk);(try clear hi);(try clear ho0))|((with_reducible refine gate_callee (f:=99) rfl ?_);refine Sq.gl (some 30) Tryz.func99 #[.slice A1 l1.length c1] ?_;(with_reducible refine (foliotref01_Of.calls kj4 _ _ l1 t410 _ ?side1 ?side2 A11.out).mono ?_);(case side1=>exact Sq.ca (Kd.C_below HR1.out HB.out));(case side2=>exact HC1.out);rintro e w15 ⟨v411,rfl,ho0,hb⟩;refine⟨_,rfl,?_⟩;replace HO409:=Aside0.mk (Kd.V_below (Sq.al HO409) hb);have HO412:=Aside0.mk (Kd.V_lower (Kd.V_mono (ok':=fun k_=>True) ho0 (fun k_ hk_=>trivial)) (below_size (Sq.bl HB)));replace HB:=Sq.bs HB hb;(try clear hb);(try clear hb2);(try clear hk);(try clear hi);(try clear ho0);obtain⟨Ao16,co16,eo16⟩:=Kd.V_slice HO409.out;subst eo16;obtain⟨Ao17,co17,eo17⟩:=Kd.V_slice HO412.out;subst eo17)|((with_reducible refine gate_callee (f:=108) rfl ?_);refine Sq.gl (some 31) Tryz.func108 #[.slice Ao16 t407.length co16,.slice Ao17 t410.length co17] ?_;(with_reducible refine (foliotref01_add.calls kj4 _ _ t407 _ _ t410 t413 _ ?side1 ?side2 ?side3 ?side4 A12.out).mono ?_);(case side1=>exact Sq.ca (Kd.V_reads' HO409.out).2.2);(case side2=>exact (Kd.V_reads' HO409.out).2.1);(case side3=>exact Sq.ca (Kd.V_reads' HO412.out).2.2);(case side4=>exact (Kd.V_reads' HO412.out).2.1);rintro e w18 ⟨v414,rfl,ho0,hb⟩;refine⟨_,rfl,?_⟩;replace HO409:=Aside0.mk (Kd.V_below (Sq.al HO409) hb);replace HO412:=Aside0.mk (Kd.V_below (Sq.al HO412) hb);have HO415:=Aside0.mk (Kd.V_lower (Kd.V_mono (ok':=fun k_=>True) ho0 (fun k_ hk_=>trivial)) (below_size (Sq.bl HB)));replace HB:=Sq.bs HB hb;(try clear hb);(try clear hb2);(try clear hk);(try clear hi);(try clear ho0);obtain⟨Ao19,co19,eo19⟩:=Kd.V_slice HO415.out;subst eo19)|((with_reducible refine gate_callee (f:=101) rfl ?_);refine Sq.gl (some 32) Tryz.func101 #[.slice Ao19 t413.length co19] ?_;(with_reducible refine (foliotref01_Limbs.calls kj4 _ _ t413 t416 _ ?side1 ?side2 A13.out).mono ?_);(case side1=>exact Sq.ca (Kd.V_reads' HO415.out).2.2);(case side2=>exact (Kd.V_reads' HO415.out).2.1);rintro e w20 ⟨v417,rfl,ho0,hb⟩;refine⟨_,rfl,?_⟩;replace HO409:=Aside0.mk (Kd.V_elder' (Sq.al HO409) (Kd.R_base ho0) hb);replace HO412:=Aside0.mk (Kd.V_elder' (Sq.al HO412) (Kd.R_base ho0) hb);replace HO415:=Aside0.mk (Kd.V_elder' (Sq.al HO415) (Kd.R_base ho0) hb);have HO418:=Aside0.mk (Kd.R_lower ho0 (below_size (Sq.bl HB)));replace HB:=Sq.bs HB hb;(try clear hb);(try clear hb2);(try clear hk);(try clear hi);(try clear ho0)))
    go_ret
    exact⟨_,by first|rfl|(simp[errW_none,errW_some]<;>rfl)|(simp[*,errW_none,errW_some]<;>rfl),by (with_reducible repeat (first|apply Kd.R_alloc|apply Kd.R_drewN|apply Kd.R_drew));exact HO418.out,Sq.bl HB⟩
def foliotref01_Cmp.f (k:Nat) (l0:List Int) (l1:List Int):Option (Int):=(foliotref01_Of.f k l0).bind fun t419=>((foliotref01_Of.f k l1).bind fun t422=>((foliotref01_cmp.f k t419 t422).bind fun t425=>(some t425)))
set_option maxHeartbeats 8000000 in
set_option maxRecDepth 100000 in
theorem foliotref01_Cmp.calls (k:Nat) (A0:Option Addr) (c0:Nat) (l0:List Int) (A1:Option Addr) (c1:Nat) (l1:List Int) (r:Int) (w:World) (hr0:Kd.C (Kd.int .u32) w A0 l0.length l0) (hc0:l0.length≤c0) (hr1:Kd.C (Kd.int .u32) w A1 l1.length l1) (hc1:l1.length≤c1) (h:foliotref01_Cmp.f k l0 l1=some r) :
 Calls Tryz.prog 104 #[.slice A0 l0.length c0,.slice A1 l1.length c1] w fun e w'=>e=.returned (.int .i64 r)∧Below w.heap.size w w':=by
 have HR0:=Aside0.mk hr0;have HC0:=Aside0.mk hc0;clear hr0 hc0;have HR1:=Aside0.mk hr1;have HC1:=Aside0.mk hc1;clear hr1 hc1;have HB:=Aside0.mk (Below.refl w.heap.size w);have H:((foliotref01_Of.f k l0).bind fun t419=>((foliotref01_Of.f k l1).bind fun t422=>((foliotref01_cmp.f k t419 t422).bind fun t425=>(some t425))))=some r:=h;clear h;replace H:=Sq.bd H;obtain⟨t419,A3,H⟩:=H
 (try dsimp -simprocs only at H)
 replace H:=Sq.bd H;obtain⟨t422,A4,H⟩:=H
 (try dsimp -simprocs only at H)
 replace H:=Sq.bd H;obtain⟨t425,A5,H⟩:=H
 (try dsimp -simprocs only at H)
 obtain rfl:=Option.some.inj H;go_enter Tryz.func104,Tryz.ntmps104
 go_wp2_with (first|((with_reducible refine gate_callee (f:=99) rfl ?_);refine Sq.gl (some 6) Tryz.func99 #[.slice A0 l0.length c0] ?_;(with_reducible refine (foliotref01_Of.calls k _ _ l0 t419 _ ?side1 ?side2 A3.out).mono ?_);(case side1=>repeat (first|exact HR0.out|(with_reducible refine Kd.C_alloc ?_ _)|(with_reducible refine Kd.C_drewN ?_ _)|(with_reducible refine Kd.C_drew ?_)));(case side2=>exact HC0.out);rintro e w6 ⟨v420,rfl,ho0,hb⟩;refine⟨_,rfl,?_⟩;have HO421:=Aside0.mk (Kd.V_lower (Kd.V_mono (ok':=fun k_=>True) ho0 (fun k_ hk_=>trivial)) (below_size (Sq.bl HB)));replace HB:=Sq.bs HB hb;(try clear hb);(try clear hb2);(try clear hk);(try clear hi);(try clear ho0))|((with_reducible refine gate_callee (f:=99) rfl ?_);refine Sq.gl (some 8) Tryz.func99 #[.slice A1 l1.length c1] ?_;(with_reducible refine (foliotref01_Of.calls k _ _ l1 t422 _ ?side1 ?side2 A4.out).mono ?_);(case side1=>exact Sq.ca (Kd.C_below HR1.out HB.out));(case side2=>exact HC1.out);rintro e w7 ⟨v423,rfl,ho0,hb⟩;refine⟨_,rfl,?_⟩;replace HO421:=Aside0.mk (Kd.V_below (Sq.al HO421) hb);have HO424:=Aside0.mk (Kd.V_lower (Kd.V_mono (ok':=fun k_=>True) ho0 (fun k_ hk_=>trivial)) (below_size (Sq.bl HB)));replace HB:=Sq.bs HB hb;(try clear hb);(try clear hb2);(try clear hk);(try clear hi);(try clear ho0);obtain⟨Ao8,co8,eo8⟩:=Kd.V_slice HO421.out;subst eo8;obtain⟨Ao9,co9,eo9⟩:=Kd.V_slice HO424.out;subst eo9)|((with_reducible refine gate_callee (f:=122) rfl ?_);refine Sq.gl (some 9) Tryz.func122 #[.slice Ao8 t419.length co8,.slice Ao9 t422.length co9] ?_;(with_reducible refine (foliotref01_cmp.calls k _ _ t419 _ _ t422 t425 _ ?side1 ?side2 ?side3 ?side4 A5.out).mono ?_);(case side1=>exact Sq.ca (Kd.V_reads' HO421.out).2.2);(case side2=>exact (Kd.V_reads' HO421.out).2.1);(case side3=>exact Sq.ca (Kd.V_reads' HO424.out).2.2);(case side4=>exact (Kd.V_reads' HO424.out).2.1);rintro e w10 ⟨rfl,hb⟩;refine⟨_,rfl,?_⟩;replace HO421:=Aside0.mk (Kd.V_below (Sq.al HO421) hb);replace HO424:=Aside0.mk (Kd.V_below (Sq.al HO424) hb);replace HB:=Sq.bs HB hb;(try clear hb);(try clear hb2);(try clear hk);(try clear hi)))
 go_ret
 exact⟨by first|rfl|(simp[errW_none,errW_some]<;>rfl)|(simp[*,errW_none,errW_some]<;>rfl),Sq.bl HB⟩
end Go.Proofs.YtjfkhbkddenfoaaGreat.N
