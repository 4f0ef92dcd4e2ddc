import Derived.Test.YtjfkhbkddenfoaaGreatQdajcgaonnfNx0
import Derived.Test.YtjfkhbkddenfoaaGreatQeomkhheifdNx5
import Derived.Test.YtjfkhbkddenfoaaGreatQgoapcpfdbnM
set_option linter.unusedVariables false
set_option linter.unusedSimpArgs false
namespace Go.Proofs.YtjfkhbkddenfoaaGreat.N
open Go.RowKit Go.Proofs.YtjfkhbkddenfoaaGreatW.PrintWords Go.Proofs.YtjfkhbkddenfoaaGreatW.PrintLast Go.Proofs.YtjfkhbkddenfoaaGreatW.PrintMore
attribute [local go_sem] max2_int min2_int max_two min_two max_three min_three max_four min_four   -- for this text's walks alone
mutual
def foliotref01_sub.l0:Nat→List Bool→List Bool→List Bool→Bool→Int→Option (List Bool)
 |0,_,_,_,_,_=>none
 |k+1,x0,x1,x5,x6,x7=>if x7<(x0.length:Int) then ((foliotref01_at.f x0 x7).bind fun t289=>(if t289=true then (foliotref01_sub.j1 k x0 x1 x5 x6 x7 (0+1)) else (foliotref01_sub.j1 k x0 x1 x5 x6 x7 0))) else ((foliotref01_cut.f k x5).bind fun t286=>(some t286))
def foliotref01_sub.j1:Nat→List Bool→List Bool→List Bool→Bool→Int→Int→Option (List Bool)
 |0,_,_,_,_,_,_=>none
 |k+1,x0,x1,x5,x6,x7,x8=>(foliotref01_at.f x1 x7).bind fun t290=>(if t290=true then (if x6=true then (if (wrap64 ((wrap64 (x8-1))-1))=1 then (if x5.length<140737488355328 then (foliotref01_sub.l0 k x0 x1 (x5++[true]) (decide ((wrap64 ((wrap64 (x8-1))-1))<0)) (wrap64 (x7+1))) else (none)) else (if x5.length<140737488355328 then (foliotref01_sub.l0 k x0 x1 (x5++[((wrap64 ((wrap64 (x8-1))-1))==(-1))]) (decide ((wrap64 ((wrap64 (x8-1))-1))<0)) (wrap64 (x7+1))) else (none))) else (if (wrap64 (x8-1))=1 then (if x5.length<140737488355328 then (foliotref01_sub.l0 k x0 x1 (x5++[true]) (decide ((wrap64 (x8-1))<0)) (wrap64 (x7+1))) else (none)) else (if x5.length<140737488355328 then (foliotref01_sub.l0 k x0 x1 (x5++[((wrap64 (x8-1))==(-1))]) (decide ((wrap64 (x8-1))<0)) (wrap64 (x7+1))) else (none)))) else (if x6=true then (if (wrap64 (x8-1))=1 then (if x5.length<140737488355328 then (foliotref01_sub.l0 k x0 x1 (x5++[true]) (decide ((wrap64 (x8-1))<0)) (wrap64 (x7+1))) else (none)) else (if x5.length<140737488355328 then (foliotref01_sub.l0 k x0 x1 (x5++[((wrap64 (x8-1))==(-1))]) (decide ((wrap64 (x8-1))<0)) (wrap64 (x7+1))) else (none))) else (if x8=1 then (if x5.length<140737488355328 then (foliotref01_sub.l0 k x0 x1 (x5++[true]) (decide (x8<0)) (wrap64 (x7+1))) else (none)) else (if x5.length<140737488355328 then (foliotref01_sub.l0 k x0 x1 (x5++[(x8==(-1))]) (decide (x8<0)) (wrap64 (x7+1))) else (none)))))
end
def foliotref01_sub.f (k:Nat) (l0:List Bool) (l1:List Bool):Option (List Bool):=foliotref01_sub.l0 k l0 l1 ([]:List Bool) false 0
set_option maxHeartbeats 8000000 in
set_option maxRecDepth 100000 in
theorem foliotref01_sub.calls (k:Nat) (A0:Option Addr) (c0:Nat) (l0:List Bool) (A1:Option Addr) (c1:Nat) (l1:List Bool) (r:List Bool) (w:World) (hr0:Kd.C Kd.bool w A0 l0.length l0) (hc0:l0.length≤c0) (hr1:Kd.C Kd.bool w A1 l1.length l1) (hc1:l1.length≤c1) (h:foliotref01_sub.f k l0 l1=some r) :
 Calls Tryz.prog 123 #[.slice A0 l0.length c0,.slice A1 l1.length c1] w fun e w'=>∃v0_:Value,e=.returned (v0_)∧Kd.V Kd.bool 4 w' w.heap.size (fun k_=>(w.heap.size≤k_)) v0_ r∧Below w.heap.size w w':=by
 have HR0:=Aside0.mk hr0;have HC0:=Aside0.mk hc0;clear hr0 hc0;have HR1:=Aside0.mk hr1;have HC1:=Aside0.mk hc1;clear hr1 hc1;have HB:=Aside0.mk (Below.refl w.heap.size w);have H:(foliotref01_sub.l0 k l0 l1 ([]:List Bool) false 0)=some r:=h;clear h;have H':=Aside0.mk H;clear H;go_enter Tryz.func123,Tryz.ntmps123
 go_wp2
 go_loopg [5,6,7] k (fun kq v5 v6 v7 w'=>∃(x5_1:List Bool) (x6_1:Bool) (x7_1:Int),v6=.bool x6_1∧v7=.int .i64 x7_1∧Aside0 (foliotref01_sub.l0 kq l0 l1 x5_1 x6_1 x7_1=some r)∧Aside0 (kq≤k)∧Aside0 (Kd.R Kd.bool 4 w' w.heap.size (fun k_=>(w.heap.size≤k_)) v5 x5_1)∧Aside0 (Below w.heap.size w w'))
 case atStart=>exact⟨(([]:List Bool)),(false),(0),(by first|rfl|(simp;done)|(simp[*];done)),(by first|rfl|(simp;done)|(simp[*];done)),H',⟨Nat.le_refl _⟩,⟨by first|exact Kd.R_nil _ _ _ _ _|exact Kd.N_nil _ _ _ _ _|exact Kd.V_nil _ _ _ _ _|exact Kd.Q_nil _ _ _ _ _|exact Kd.S_nil _ _ _ _ _⟩,⟨Sq.bl HB⟩⟩
 case round =>
  clear H'
  try clear c1
  try clear p2
  obtain⟨x5_1,x6_1,x7_1,rfl,rfl,HA,HK1,HO_5,HB⟩:=hrel;cases gk with
  |zero=>exact absurd HA.out (by simp[foliotref01_sub.l0])
  |succ k1 =>
   have H:=HA.out;clear HA;simp only[foliotref01_sub.l0] at H;by_cases c3:x7_1<(l0.length:Int)
   ·rw[if_pos c3] at H
    have c3b0:decide (x7_1<(l0.length:Int))=true:=decide_eq_true c3;clear c3;replace H:=Sq.bd H;obtain⟨t289,A4,H⟩:=H
    (try dsimp -simprocs only at H)
    have HC5:=Aside0.mk H;clear H
    go_upto_if 17 with (first|((with_reducible refine gate_callee (f:=126) rfl ?_);refine Sq.gl (some 17) Tryz.func126 #[.slice A0 l0.length c0,.int .i64 x7_1] ?_;(with_reducible refine (foliotref01_at.calls _ _ l0 x7_1 t289 _ ?side1 ?side2 A4.out).mono ?_);(case side1=>exact Sq.ca (Kd.C_below HR0.out HB.out));(case side2=>exact HC0.out);rintro e w' ⟨rfl,⟨nd,rfl⟩⟩;refine⟨_,rfl,?_⟩))
    (try simp only[Act.put,List.setIfInBounds_toArray,List.set_cons_zero,List.set_cons_succ])
    go_cut [8] (fun v8 wc=>∃(kq:Nat) (x8_4:Int),v8=.int .i64 x8_4∧Aside0 (foliotref01_sub.j1 kq l0 l1 x5_1 x6_1 x7_1 x8_4=some r)∧Aside0 (kq≤k1)∧Aside0 (Kd.R Kd.bool 4 wc w.heap.size (fun k_=>(w.heap.size≤k_)) u5 x5_1)∧Aside0 (Below w.heap.size w wc))
    case first =>
     have H:=HC5.out;clear HC5;by_cases c6:t289=true
     ·subst c6
      have H1:(foliotref01_sub.j1 k1 l0 l1 x5_1 x6_1 x7_1 (0+1))=some r:=by rw[if_pos rfl] at H;exact H
      clear H;have H:=H1;clear H1;have H':=Aside0.mk H;clear H;go_wp2
      go_meet
      case rel=>exact⟨_,(0+1),(by first|rfl|(simp;done)|(simp[*];done)),H',⟨by have:=HK1.out;first|omega|exact Nat.le_refl _⟩,⟨by (with_reducible repeat (first|apply Kd.R_alloc|apply Kd.R_drewN|apply Kd.R_drew));exact HO_5.out⟩,⟨Sq.bl HB⟩⟩
     ·replace c6:=Bool.eq_false_iff.mpr c6
      subst c6;have H1:(foliotref01_sub.j1 k1 l0 l1 x5_1 x6_1 x7_1 0)=some r:=by rw[if_neg (show ¬(false=true) by decide)] at H;exact H
      clear H;have H:=H1;clear H1;have H':=Aside0.mk H;clear H;go_wp2
      go_meet
      case rel=>exact⟨_,(0),(by first|rfl|(simp;done)|(simp[*];done)),H',⟨by have:=HK1.out;first|omega|exact Nat.le_refl _⟩,⟨by (with_reducible repeat (first|apply Kd.R_alloc|apply Kd.R_drewN|apply Kd.R_drew));exact HO_5.out⟩,⟨Sq.bl HB⟩⟩
    case rest =>
     clear HC5
     try clear c1
     try clear p2
     try clear c3
     try clear c3b0
     try clear c6
     try clear p2
     obtain⟨kq,x8_4,rfl,HA,HJ4,HO_5,HB⟩:=hcut;cases kq with
     |zero=>exact absurd HA.out (by simp[foliotref01_sub.j1])
     |succ kj4 =>
      have H:=HA.out;clear HA;simp only[foliotref01_sub.j1] at H;replace H:=Sq.bd H;obtain⟨t290,A7,H⟩:=H
      (try dsimp -simprocs only at H)
      by_cases c8:t290=true
      ·subst c8
       have H1:(if x6_1=true then (if (wrap64 ((wrap64 (x8_4-1))-1))=1 then (if x5_1.length<140737488355328 then (foliotref01_sub.l0 kj4 l0 l1 (x5_1++[true]) (decide ((wrap64 ((wrap64 (x8_4-1))-1))<0)) (wrap64 (x7_1+1))) else (none)) else (if x5_1.length<140737488355328 then (foliotref01_sub.l0 kj4 l0 l1 (x5_1++[((wrap64 ((wrap64 (x8_4-1))-1))==(-1))]) (decide ((wrap64 ((wrap64 (x8_4-1))-1))<0)) (wrap64 (x7_1+1))) else (none))) else (if (wrap64 (x8_4-1))=1 then (if x5_1.length<140737488355328 then (foliotref01_sub.l0 kj4 l0 l1 (x5_1++[true]) (decide ((wrap64 (x8_4-1))<0)) (wrap64 (x7_1+1))) else (none)) else (if x5_1.length<140737488355328 then (foliotref01_sub.l0 kj4 l0 l1 (x5_1++[((wrap64 (x8_4-1))==(-1))]) (decide ((wrap64 (x8_4-1))<0)) (wrap64 (x7_1+1))) else (none))))=some r:=by rw[if_pos rfl] at H;exact H
       clear H;have H:=H1;clear H1;by_cases c9:x6_1=true
       ·subst c9
        have H1:(if (wrap64 ((wrap64 (x8_4-1))-1))=1 then (if x5_1.length<140737488355328 then (foliotref01_sub.l0 kj4 l0 l1 (x5_1++[true]) (decide ((wrap64 ((wrap64 (x8_4-1))-1))<0)) (wrap64 (x7_1+1))) else (none)) else (if x5_1.length<140737488355328 then (foliotref01_sub.l0 kj4 l0 l1 (x5_1++[((wrap64 ((wrap64 (x8_4-1))-1))==(-1))]) (decide ((wrap64 ((wrap64 (x8_4-1))-1))<0)) (wrap64 (x7_1+1))) else (none)))=some r:=by rw[if_pos rfl] at H;exact H
        clear H;have H:=H1;clear H1;by_cases c10:(wrap64 ((wrap64 (x8_4-1))-1))=1
        ·rw[if_pos c10] at H
         have c10b0:((wrap64 ((wrap64 (x8_4-1))-1))==1)=true:=beq_iff_eq.mpr c10;have c10b1:((wrap64 ((wrap64 (x8_4-1))-1)) != 1)=false:=bne_eq_false_iff_eq.mpr c10;clear c10;replace H:=Sq.ifs H;obtain⟨c11,H⟩:=H;have LMc11:=Aside0.mk c11;clear c11;obtain⟨y291,hy291⟩:∃y_:List Bool,y_=(x5_1++[true]):=⟨_,rfl⟩
         (first|(replace H:=Sq.ny hy291 H;(try dsimp -simprocs only at H))|rw[←hy291] at H|skip)
         have Ny291:=Aside0.mk hy291;clear hy291;have H':=Aside0.mk H;clear H;go_wp2_with (first|((with_reducible refine gate_callee (f:=126) rfl ?_);refine Sq.gl (some 22) Tryz.func126 #[.slice A1 l1.length c1,.int .i64 x7_1] ?_;(with_reducible refine (foliotref01_at.calls _ _ l1 x7_1 true _ ?side1 ?side2 A7.out).mono ?_);(case side1=>exact Sq.ca (Kd.C_below HR1.out HB.out));(case side2=>exact HC1.out);rintro e w' ⟨rfl,⟨nd,rfl⟩⟩;refine⟨_,rfl,?_⟩)|((with_reducible refine gate_builtin (b:=.append) (xs:=#[.tmp 28,.tmp 35]) rfl ?_);at_builtin;refine Kd.R_append Kd.bool (w0:=w) w.heap.size rfl (.tmp 28) (.tmp 35) 34 4 (.bool false) 1 rfl Tryz.underlying34 info4 rfl (by decide) (by omega) u5 x5_1 true [.bool true] (fun k_=>(w.heap.size≤k_)) (fun _=>False) rfl rfl ?aP (fun _ hk=>hk.elim) ?aF ?aO ?aB ?aS ?aL ?_;(case aP=>exact rfl);(case aB=>exact (Sq.bl HB));(case aF=>exact (fun k_ hk=>(Nat.le_trans (below_size (Sq.bl HB)) hk)));(case aO=>exact (Sq.al HO_5));(case aS=>exact (below_size (Sq.bl HB)));(case aL=>have:=LMc11.out;omega);intro v292 w12 ho hb hg hat;rw[←Ny291.out] at ho;replace HB:=Aside0.mk (hb);have HO293:=Aside0.mk (ho);clear HO_5;clear ho hb hg hat))
         go_roundg kj4
         case measure=>have:=HK1.out;have:=HJ4.out;omega
         case rel=>exact⟨(y291),(decide ((wrap64 ((wrap64 (x8_4-1))-1))<0)),(wrap64 (x7_1+1)),(by first|rfl|(simp;done)|(simp[*];done)),(by first|rfl|(simp;done)|(simp[*];done)),H',⟨by have:=HK1.out;have:=HJ4.out;omega⟩,⟨by (with_reducible repeat (first|apply Kd.R_alloc|apply Kd.R_drewN|apply Kd.R_drew));exact HO293.out⟩,⟨Sq.bl HB⟩⟩
        ·rw[if_neg c10] at H
         have c10b0:((wrap64 ((wrap64 (x8_4-1))-1))==1)=false:=beq_eq_false_iff_ne.mpr c10;have c10b1:((wrap64 ((wrap64 (x8_4-1))-1)) != 1)=true:=bne_iff_ne.mpr c10;replace H:=Sq.ifs H;obtain⟨c13,H⟩:=H;have LMc13:=Aside0.mk c13;clear c13;obtain⟨y294,hy294⟩:∃y_:List Bool,y_=(x5_1++[((wrap64 ((wrap64 (x8_4-1))-1))==(-1))]):=⟨_,rfl⟩
         (first|(replace H:=Sq.ny hy294 H;(try dsimp -simprocs only at H))|rw[←hy294] at H|skip)
         have Ny294:=Aside0.mk hy294;clear hy294;have H':=Aside0.mk H;clear H;go_wp2_with (first|((with_reducible refine gate_callee (f:=126) rfl ?_);refine Sq.gl (some 22) Tryz.func126 #[.slice A1 l1.length c1,.int .i64 x7_1] ?_;(with_reducible refine (foliotref01_at.calls _ _ l1 x7_1 true _ ?side1 ?side2 A7.out).mono ?_);(case side1=>exact Sq.ca (Kd.C_below HR1.out HB.out));(case side2=>exact HC1.out);rintro e w' ⟨rfl,⟨nd,rfl⟩⟩;refine⟨_,rfl,?_⟩)|((with_reducible refine gate_builtin (b:=.append) (xs:=#[.tmp 28,.tmp 35]) rfl ?_);at_builtin;refine Kd.R_append Kd.bool (w0:=w) w.heap.size rfl (.tmp 28) (.tmp 35) 34 4 (.bool false) 1 rfl Tryz.underlying34 info4 rfl (by decide) (by omega) u5 x5_1 ((wrap64 ((wrap64 (x8_4-1))-1))==(-1)) [.bool ((wrap64 ((wrap64 (x8_4-1))-1))==(-1))] (fun k_=>(w.heap.size≤k_)) (fun _=>False) rfl rfl ?aP (fun _ hk=>hk.elim) ?aF ?aO ?aB ?aS ?aL ?_;(case aP=>exact rfl);(case aB=>exact (Sq.bl HB));(case aF=>exact (fun k_ hk=>(Nat.le_trans (below_size (Sq.bl HB)) hk)));(case aO=>exact (Sq.al HO_5));(case aS=>exact (below_size (Sq.bl HB)));(case aL=>have:=LMc13.out;omega);intro v295 w14 ho hb hg hat;rw[←Ny294.out] at ho;replace HB:=Aside0.mk (hb);have HO296:=Aside0.mk (ho);clear HO_5;clear ho hb hg hat))
         go_roundg kj4
         case measure=>have:=HK1.out;have:=HJ4.out;omega
         case rel=>exact⟨(y294),(decide ((wrap64 ((wrap64 (x8_4-1))-1))<0)),(wrap64 (x7_1+1)),(by first|rfl|(simp;done)|(simp[*];done)),(by first|rfl|(simp;done)|(simp[*];done)),H',⟨by have:=HK1.out;have:=HJ4.out;omega⟩,⟨by (with_reducible repeat (first|apply Kd.R_alloc|apply Kd.R_drewN|apply Kd.R_drew));exact HO296.out⟩,⟨Sq.bl HB⟩⟩
       ·replace c9:=Bool.eq_false_iff.mpr c9
        subst c9;have H1:(if (wrap64 (x8_4-1))=1 then (if x5_1.length<140737488355328 then (foliotref01_sub.l0 kj4 l0 l1 (x5_1++[true]) (decide ((wrap64 (x8_4-1))<0)) (wrap64 (x7_1+1))) else (none)) else (if x5_1.length<140737488355328 then (foliotref01_sub.l0 kj4 l0 l1 (x5_1++[((wrap64 (x8_4-1))==(-1))]) (decide ((wrap64 (x8_4-1))<0)) (wrap64 (x7_1+1))) else (none)))=some r:=by rw[if_neg (show ¬(false=true) by decide)] at H;exact H
        clear H;have H:=H1;clear H1;by_cases c15:(wrap64 (x8_4-1))=1
        ·rw[if_pos c15] at H
         have c15b0:((wrap64 (x8_4-1))==1)=true:=beq_iff_eq.mpr c15;have c15b1:((wrap64 (x8_4-1)) != 1)=false:=bne_eq_false_iff_eq.mpr c15;clear c15;replace H:=Sq.ifs H;obtain⟨c16,H⟩:=H;have LMc16:=Aside0.mk c16;clear c16;obtain⟨y297,hy297⟩:∃y_:List Bool,y_=(x5_1++[true]):=⟨_,rfl⟩
         (first|(replace H:=Sq.ny hy297 H;(try dsimp -simprocs only at H))|rw[←hy297] at H|skip)
         have Ny297:=Aside0.mk hy297;clear hy297;have H':=Aside0.mk H;clear H;go_wp2_with (first|((with_reducible refine gate_callee (f:=126) rfl ?_);refine Sq.gl (some 22) Tryz.func126 #[.slice A1 l1.length c1,.int .i64 x7_1] ?_;(with_reducible refine (foliotref01_at.calls _ _ l1 x7_1 true _ ?side1 ?side2 A7.out).mono ?_);(case side1=>exact Sq.ca (Kd.C_below HR1.out HB.out));(case side2=>exact HC1.out);rintro e w' ⟨rfl,⟨nd,rfl⟩⟩;refine⟨_,rfl,?_⟩)|((with_reducible refine gate_builtin (b:=.append) (xs:=#[.tmp 28,.tmp 35]) rfl ?_);at_builtin;refine Kd.R_append Kd.bool (w0:=w) w.heap.size rfl (.tmp 28) (.tmp 35) 34 4 (.bool false) 1 rfl Tryz.underlying34 info4 rfl (by decide) (by omega) u5 x5_1 true [.bool true] (fun k_=>(w.heap.size≤k_)) (fun _=>False) rfl rfl ?aP (fun _ hk=>hk.elim) ?aF ?aO ?aB ?aS ?aL ?_;(case aP=>exact rfl);(case aB=>exact (Sq.bl HB));(case aF=>exact (fun k_ hk=>(Nat.le_trans (below_size (Sq.bl HB)) hk)));(case aO=>exact (Sq.al HO_5));(case aS=>exact (below_size (Sq.bl HB)));(case aL=>have:=LMc16.out;omega);intro v298 w17 ho hb hg hat;rw[←Ny297.out] at ho;replace HB:=Aside0.mk (hb);have HO299:=Aside0.mk (ho);clear HO_5;clear ho hb hg hat))
         go_roundg kj4
         case measure=>have:=HK1.out;have:=HJ4.out;omega
         case rel=>exact⟨(y297),(decide ((wrap64 (x8_4-1))<0)),(wrap64 (x7_1+1)),(by first|rfl|(simp;done)|(simp[*];done)),(by first|rfl|(simp;done)|(simp[*];done)),H',⟨by have:=HK1.out;have:=HJ4.out;omega⟩,⟨by (with_reducible repeat (first|apply Kd.R_alloc|apply Kd.R_drewN|apply Kd.R_drew));exact HO299.out⟩,⟨Sq.bl HB⟩⟩
        ·rw[if_neg c15] at H
         have c15b0:((wrap64 (x8_4-1))==1)=false:=beq_eq_false_iff_ne.mpr c15;have c15b1:((wrap64 (x8_4-1)) != 1)=true:=bne_iff_ne.mpr c15;replace H:=Sq.ifs H;obtain⟨c18,H⟩:=H;have LMc18:=Aside0.mk c18;clear c18;obtain⟨y300,hy300⟩:∃y_:List Bool,y_=(x5_1++[((wrap64 (x8_4-1))==(-1))]):=⟨_,rfl⟩
         (first|(replace H:=Sq.ny hy300 H;(try dsimp -simprocs only at H))|rw[←hy300] at H|skip)
         have Ny300:=Aside0.mk hy300;clear hy300;have H':=Aside0.mk H;clear H;go_wp2_with (first|((with_reducible refine gate_callee (f:=126) rfl ?_);refine Sq.gl (some 22) Tryz.func126 #[.slice A1 l1.length c1,.int .i64 x7_1] ?_;(with_reducible refine (foliotref01_at.calls _ _ l1 x7_1 true _ ?side1 ?side2 A7.out).mono ?_);(case side1=>exact Sq.ca (Kd.C_below HR1.out HB.out));(case side2=>exact HC1.out);rintro e w' ⟨rfl,⟨nd,rfl⟩⟩;refine⟨_,rfl,?_⟩)|((with_reducible refine gate_builtin (b:=.append) (xs:=#[.tmp 28,.tmp 35]) rfl ?_);at_builtin;refine Kd.R_append Kd.bool (w0:=w) w.heap.size rfl (.tmp 28) (.tmp 35) 34 4 (.bool false) 1 rfl Tryz.underlying34 info4 rfl (by decide) (by omega) u5 x5_1 ((wrap64 (x8_4-1))==(-1)) [.bool ((wrap64 (x8_4-1))==(-1))] (fun k_=>(w.heap.size≤k_)) (fun _=>False) rfl rfl ?aP (fun _ hk=>hk.elim) ?aF ?aO ?aB ?aS ?aL ?_;(case aP=>exact rfl);(case aB=>exact (Sq.bl HB));(case aF=>exact (fun k_ hk=>(Nat.le_trans (below_size (Sq.bl HB)) hk)));(case aO=>exact (Sq.al HO_5));(case aS=>exact (below_size (Sq.bl HB)));(case aL=>have:=LMc18.out;omega);intro v301 w19 ho hb hg hat;rw[←Ny300.out] at ho;replace HB:=Aside0.mk (hb);have HO302:=Aside0.mk (ho);clear HO_5;clear ho hb hg hat))
         go_roundg kj4
         case measure=>have:=HK1.out;have:=HJ4.out;omega
         case rel=>exact⟨(y300),(decide ((wrap64 (x8_4-1))<0)),(wrap64 (x7_1+1)),(by first|rfl|(simp;done)|(simp[*];done)),(by first|rfl|(simp;done)|(simp[*];done)),H',⟨by have:=HK1.out;have:=HJ4.out;omega⟩,⟨by (with_reducible repeat (first|apply Kd.R_alloc|apply Kd.R_drewN|apply Kd.R_drew));exact HO302.out⟩,⟨Sq.bl HB⟩⟩
      ·replace c8:=Bool.eq_false_iff.mpr c8
       subst c8;have H1:(if x6_1=true then (if (wrap64 (x8_4-1))=1 then (if x5_1.length<140737488355328 then (foliotref01_sub.l0 kj4 l0 l1 (x5_1++[true]) (decide ((wrap64 (x8_4-1))<0)) (wrap64 (x7_1+1))) else (none)) else (if x5_1.length<140737488355328 then (foliotref01_sub.l0 kj4 l0 l1 (x5_1++[((wrap64 (x8_4-1))==(-1))]) (decide ((wrap64 (x8_4-1))<0)) (wrap64 (x7_1+1))) else (none))) else (if x8_4=1 then (if x5_1.length<140737488355328 then (foliotref01_sub.l0 kj4 l0 l1 (x5_1++[true]) (decide (x8_4<0)) (wrap64 (x7_1+1))) else (none)) else (if x5_1.length<140737488355328 then (foliotref01_sub.l0 kj4 l0 l1 (x5_1++[(x8_4==(-1))]) (decide (x8_4<0)) (wrap64 (x7_1+1))) else (none))))=some r:=by rw[if_neg (show ¬(false=true) by decide)] at H;exact H
       clear H;have H:=H1;clear H1;by_cases c20:x6_1=true
       ·subst c20
        have H1:(if (wrap64 (x8_4-1))=1 then (if x5_1.length<140737488355328 then (foliotref01_sub.l0 kj4 l0 l1 (x5_1++[true]) (decide ((wrap64 (x8_4-1))<0)) (wrap64 (x7_1+1))) else (none)) else (if x5_1.length<140737488355328 then (foliotref01_sub.l0 kj4 l0 l1 (x5_1++[((wrap64 (x8_4-1))==(-1))]) (decide ((wrap64 (x8_4-1))<0)) (wrap64 (x7_1+1))) else (none)))=some r:=by rw[if_pos rfl] at H;exact H
        clear H;have H:=H1;clear H1;by_cases c21:(wrap64 (x8_4-1))=1
        ·rw[if_pos c21] at H
         have c21b0:((wrap64 (x8_4-1))==1)=true:=beq_iff_eq.mpr c21;have c21b1:((wrap64 (x8_4-1)) != 1)=false:=bne_eq_false_iff_eq.mpr c21;clear c21;replace H:=Sq.ifs H;obtain⟨c22,H⟩:=H;have LMc22:=Aside0.mk c22;clear c22;obtain⟨y303,hy303⟩:∃y_:List Bool,y_=(x5_1++[true]):=⟨_,rfl⟩
         (first|(replace H:=Sq.ny hy303 H;(try dsimp -simprocs only at H))|rw[←hy303] at H|skip)
         have Ny303:=Aside0.mk hy303;clear hy303;have H':=Aside0.mk H;clear H;go_wp2_with (first|((with_reducible refine gate_callee (f:=126) rfl ?_);refine Sq.gl (some 22) Tryz.func126 #[.slice A1 l1.length c1,.int .i64 x7_1] ?_;(with_reducible refine (foliotref01_at.calls _ _ l1 x7_1 false _ ?side1 ?side2 A7.out).mono ?_);(case side1=>exact Sq.ca (Kd.C_below HR1.out HB.out));(case side2=>exact HC1.out);rintro e w' ⟨rfl,⟨nd,rfl⟩⟩;refine⟨_,rfl,?_⟩)|((with_reducible refine gate_builtin (b:=.append) (xs:=#[.tmp 28,.tmp 35]) rfl ?_);at_builtin;refine Kd.R_append Kd.bool (w0:=w) w.heap.size rfl (.tmp 28) (.tmp 35) 34 4 (.bool false) 1 rfl Tryz.underlying34 info4 rfl (by decide) (by omega) u5 x5_1 true [.bool true] (fun k_=>(w.heap.size≤k_)) (fun _=>False) rfl rfl ?aP (fun _ hk=>hk.elim) ?aF ?aO ?aB ?aS ?aL ?_;(case aP=>exact rfl);(case aB=>exact (Sq.bl HB));(case aF=>exact (fun k_ hk=>(Nat.le_trans (below_size (Sq.bl HB)) hk)));(case aO=>exact (Sq.al HO_5));(case aS=>exact (below_size (Sq.bl HB)));(case aL=>have:=LMc22.out;omega);intro v304 w23 ho hb hg hat;rw[←Ny303.out] at ho;replace HB:=Aside0.mk (hb);have HO305:=Aside0.mk (ho);clear HO_5;clear ho hb hg hat))
         go_roundg kj4
         case measure=>have:=HK1.out;have:=HJ4.out;omega
         case rel=>exact⟨(y303),(decide ((wrap64 (x8_4-1))<0)),(wrap64 (x7_1+1)),(by first|rfl|(simp;done)|(simp[*];done)),(by first|rfl|(simp;done)|(simp[*];done)),H',⟨by have:=HK1.out;have:=HJ4.out;omega⟩,⟨by (with_reducible repeat (first|apply Kd.R_alloc|apply Kd.R_drewN|apply Kd.R_drew));exact HO305.out⟩,⟨Sq.bl HB⟩⟩
        ·rw[if_neg c21] at H
         have c21b0:((wrap64 (x8_4-1))==1)=false:=beq_eq_false_iff_ne.mpr c21;have c21b1:((wrap64 (x8_4-1)) != 1)=true:=bne_iff_ne.mpr c21;replace H:=Sq.ifs H;obtain⟨c24,H⟩:=H;have LMc24:=Aside0.mk c24;clear c24;obtain⟨y306,hy306⟩:∃y_:List Bool,y_=(x5_1++[((wrap64 (x8_4-1))==(-1))]):=⟨_,rfl⟩
         (first|(replace H:=Sq.ny hy306 H;(try dsimp -simprocs only at H))|rw[←hy306] at H|skip)
         have Ny306:=Aside0.mk hy306;clear hy306;have H':=Aside0.mk H;clear H;go_wp2_with (first|((with_reducible refine gate_callee (f:=126) rfl ?_);refine Sq.gl (some 22) Tryz.func126 #[.slice A1 l1.length c1,.int .i64 x7_1] ?_;(with_reducible refine (foliotref01_at.calls _ _ l1 x7_1 false _ ?side1 ?side2 A7.out).mono ?_);(case side1=>exact Sq.ca (Kd.C_below HR1.out HB.out));(case side2=>exact HC1.out);rintro e w' ⟨rfl,⟨nd,rfl⟩⟩;refine⟨_,rfl,?_⟩)|((with_reducible refine gate_builtin (b:=.append) (xs:=#[.tmp 28,.tmp 35]) rfl ?_);at_builtin;refine Kd.R_append Kd.bool (w0:=w) w.heap.size rfl (.tmp 28) (.tmp 35) 34 4 (.bool false) 1 rfl Tryz.underlying34 info4 rfl (by decide) (by omega) u5 x5_1 ((wrap64 (x8_4-1))==(-1)) [.bool ((wrap64 (x8_4-1))==(-1))] (fun k_=>(w.heap.size≤k_)) (fun _=>False) rfl rfl ?aP (fun _ hk=>hk.elim) ?aF ?aO ?aB ?aS ?aL ?_;(case aP=>exact rfl);(case aB=>exact (Sq.bl HB));(case aF=>exact (fun k_ hk=>(Nat.le_trans (below_size (Sq.bl HB)) hk)));(case aO=>exact (Sq.al HO_5));(case aS=>exact (below_size (Sq.bl HB)));(case aL=>have:=LMc24.out;omega);intro v307 w25 ho hb hg hat;rw[←Ny306.out] at ho;replace HB:=Aside0.mk (hb);have HO308:=Aside0.mk (ho);clear HO_5;clear ho hb hg hat))
         go_roundg kj4
         case measure=>have:=HK1.out;have:=HJ4.out;omega
         case rel=>exact⟨(y306),(decide ((wrap64 (x8_4-1))<0)),(wrap64 (x7_1+1)),(by first|rfl|(simp;done)|(simp[*];done)),(by first|rfl|(simp;done)|(simp[*];done)),H',⟨by have:=HK1.out;have:=HJ4.out;omega⟩,⟨by (with_reducible repeat (first|apply Kd.R_alloc|apply Kd.R_drewN|apply Kd.R_drew));exact HO308.out⟩,⟨Sq.bl HB⟩⟩
       ·replace c20:=Bool.eq_false_iff.mpr c20
        subst c20;have H1:(if x8_4=1 then (if x5_1.length<140737488355328 then (foliotref01_sub.l0 kj4 l0 l1 (x5_1++[true]) (decide (x8_4<0)) (wrap64 (x7_1+1))) else (none)) else (if x5_1.length<140737488355328 then (foliotref01_sub.l0 kj4 l0 l1 (x5_1++[(x8_4==(-1))]) (decide (x8_4<0)) (wrap64 (x7_1+1))) else (none)))=some r:=by rw[if_neg (show ¬(false=true) by decide)] at H;exact H
        clear H;have H:=H1;clear H1;by_cases c26:x8_4=1
        ·rw[if_pos c26] at H
         have c26b0:(x8_4==1)=true:=beq_iff_eq.mpr c26;have c26b1:(x8_4 != 1)=false:=bne_eq_false_iff_eq.mpr c26;clear c26;replace H:=Sq.ifs H;obtain⟨c27,H⟩:=H;have LMc27:=Aside0.mk c27;clear c27;obtain⟨y309,hy309⟩:∃y_:List Bool,y_=(x5_1++[true]):=⟨_,rfl⟩
         (first|(replace H:=Sq.ny hy309 H;(try dsimp -simprocs only at H))|rw[←hy309] at H|skip)
         have Ny309:=Aside0.mk hy309;clear hy309;have H':=Aside0.mk H;clear H;go_wp2_with (first|((with_reducible refine gate_callee (f:=126) rfl ?_);refine Sq.gl (some 22) Tryz.func126 #[.slice A1 l1.length c1,.int .i64 x7_1] ?_;(with_reducible refine (foliotref01_at.calls _ _ l1 x7_1 false _ ?side1 ?side2 A7.out).mono ?_);(case side1=>exact Sq.ca (Kd.C_below HR1.out HB.out));(case side2=>exact HC1.out);rintro e w' ⟨rfl,⟨nd,rfl⟩⟩;refine⟨_,rfl,?_⟩)|((with_reducible refine gate_builtin (b:=.append) (xs:=#[.tmp 28,.tmp 35]) rfl ?_);at_builtin;refine Kd.R_append Kd.bool (w0:=w) w.heap.size rfl (.tmp 28) (.tmp 35) 34 4 (.bool false) 1 rfl Tryz.underlying34 info4 rfl (by decide) (by omega) u5 x5_1 true [.bool true] (fun k_=>(w.heap.size≤k_)) (fun _=>False) rfl rfl ?aP (fun _ hk=>hk.elim) ?aF ?aO ?aB ?aS ?aL ?_;(case aP=>exact rfl);(case aB=>exact (Sq.bl HB));(case aF=>exact (fun k_ hk=>(Nat.le_trans (below_size (Sq.bl HB)) hk)));(case aO=>exact (Sq.al HO_5));(case aS=>exact (below_size (Sq.bl HB)));(case aL=>have:=LMc27.out;omega);intro v310 w28 ho hb hg hat;rw[←Ny309.out] at ho;replace HB:=Aside0.mk (hb);have HO311:=Aside0.mk (ho);clear HO_5;clear ho hb hg hat))
         go_roundg kj4
         case measure=>have:=HK1.out;have:=HJ4.out;omega
         case rel=>exact⟨(y309),(decide (x8_4<0)),(wrap64 (x7_1+1)),(by first|rfl|(simp;done)|(simp[*];done)),(by first|rfl|(simp;done)|(simp[*];done)),H',⟨by have:=HK1.out;have:=HJ4.out;omega⟩,⟨by (with_reducible repeat (first|apply Kd.R_alloc|apply Kd.R_drewN|apply Kd.R_drew));exact HO311.out⟩,⟨Sq.bl HB⟩⟩
        ·rw[if_neg c26] at H
         have c26b0:(x8_4==1)=false:=beq_eq_false_iff_ne.mpr c26;have c26b1:(x8_4 != 1)=true:=bne_iff_ne.mpr c26;replace H:=Sq.ifs H;obtain⟨c29,H⟩:=H;have LMc29:=Aside0.mk c29;clear c29;obtain⟨y312,hy312⟩:∃y_:List Bool,y_=(x5_1++[(x8_4==(-1))]):=⟨_,rfl⟩
         (first|(replace H:=Sq.ny hy312 H;(try dsimp -simprocs only at H))|rw[←hy312] at H|skip)
         have Ny312:=Aside0.mk hy312;clear hy312;have H':=Aside0.mk H;clear H;go_wp2_with (first|((with_reducible refine gate_callee (f:=126) rfl ?_);refine Sq.gl (some 22) Tryz.func126 #[.slice A1 l1.length c1,.int .i64 x7_1] ?_;(with_reducible refine (foliotref01_at.calls _ _ l1 x7_1 false _ ?side1 ?side2 A7.out).mono ?_);(case side1=>exact Sq.ca (Kd.C_below HR1.out HB.out));(case side2=>exact HC1.out);rintro e w' ⟨rfl,⟨nd,rfl⟩⟩;refine⟨_,rfl,?_⟩)|((with_reducible refine gate_builtin (b:=.append) (xs:=#[.tmp 28,.tmp 35]) rfl ?_);at_builtin;refine Kd.R_append Kd.bool (w0:=w) w.heap.size rfl (.tmp 28) (.tmp 35) 34 4 (.bool false) 1 rfl Tryz.underlying34 info4 rfl (by decide) (by omega) u5 x5_1 (x8_4==(-1)) [.bool (x8_4==(-1))] (fun k_=>(w.heap.size≤k_)) (fun _=>False) rfl rfl ?aP (fun _ hk=>hk.elim) ?aF ?aO ?aB ?aS ?aL ?_;(case aP=>exact rfl);(case aB=>exact (Sq.bl HB));(case aF=>exact (fun k_ hk=>(Nat.le_trans (below_size (Sq.bl HB)) hk)));(case aO=>exact (Sq.al HO_5));(case aS=>exact (below_size (Sq.bl HB)));(case aL=>have:=LMc29.out;omega);intro v313 w30 ho hb hg hat;rw[←Ny312.out] at ho;replace HB:=Aside0.mk (hb);have HO314:=Aside0.mk (ho);clear HO_5;clear ho hb hg hat))
         go_roundg kj4
         case measure=>have:=HK1.out;have:=HJ4.out;omega
         case rel=>exact⟨(y312),(decide (x8_4<0)),(wrap64 (x7_1+1)),(by first|rfl|(simp;done)|(simp[*];done)),(by first|rfl|(simp;done)|(simp[*];done)),H',⟨by have:=HK1.out;have:=HJ4.out;omega⟩,⟨by (with_reducible repeat (first|apply Kd.R_alloc|apply Kd.R_drewN|apply Kd.R_drew));exact HO314.out⟩,⟨Sq.bl HB⟩⟩
   ·rw[if_neg c3] at H
    have c3b0:decide (x7_1<(l0.length:Int))=false:=decide_eq_false c3;clear c3;replace H:=Sq.bd H;obtain⟨t286,A31,H⟩:=H
    (try dsimp -simprocs only at H)
    obtain rfl:=Option.some.inj H;obtain⟨Ao32,co32,eo32⟩:=Kd.R_slice HO_5.out;subst eo32;go_wp2_with (first|((with_reducible refine gate_callee (f:=121) rfl ?_);refine Sq.gl (some 40) Tryz.func121 #[.slice Ao32 x5_1.length co32] ?_;(with_reducible refine (foliotref01_cut.calls k1 (fun k_=>some k_=(.slice Ao32 x5_1.length co32:Value).ownBlock) _ _ x5_1 t286 _ ?side1 A31.out).mono ?_);(case side1=>exact Kd.R_V (Kd.R_tight rfl (HO_5.out)));rintro e w33 ⟨v287,rfl,ho0,hb⟩;refine⟨_,rfl,?_⟩;have HO288:=Aside0.mk (Kd.V_lower (Kd.V_mono (ok':=fun k_=>(w.heap.size≤k_)) ho0 (fun k_ hk_=>Or.elim hk_ (fun hs_=>((HO_5.out).1 k_ hs_.symm)) (fun hn_=>(Nat.le_trans (below_size (Sq.bl HB)) hn_)))) (below_size (Sq.bl HB)));replace HO_5:=Aside0.mk (Kd.R_below (Sq.al HO_5) hb);replace HB:=Sq.bs HB hb;(try clear hb);(try clear hb2);(try clear hk);(try clear hi);(try clear ho0)))
    go_ret
    exact⟨_,by first|rfl|(simp[errW_none,errW_some]<;>rfl)|(simp[*,errW_none,errW_some]<;>rfl),by (with_reducible repeat (first|apply Kd.V_alloc|apply Kd.V_drewN|apply Kd.V_drew));exact HO288.out,Sq.bl HB⟩
def foliotref01_div.l0:Nat→List Bool→List Bool→List Bool→List Bool→Int→Option (List Bool×List Bool)
 |0,_,_,_,_,_=>none
 |k+1,x0,x1,x6,x7,x8=>if x8≥0 then (if 0≤x8 then (if x8<(x0.length:Int) then ((some (([rdOf false x0 x8]:List Bool):List Bool)).bind fun y322=>(if y322.length+x7.length<140737488355328 then ((foliotref01_cut.f k (y322++x7)).bind fun t328=>((foliotref01_cmp.f k t328 x1).bind fun t331=>(if t331≥0 then ((foliotref01_sub.f k t328 x1).bind fun t332=>(if x8<(x6.length:Int) then (foliotref01_div.l0 k x0 x1 (x6.set (x8:Int).toNat true) t332 (wrap64 (x8-1))) else (none))) else (foliotref01_div.l0 k x0 x1 x6 t328 (wrap64 (x8-1)))))) else (none))) else (none)) else (none)) else ((foliotref01_cut.f k x6).bind fun t318=>(some (t318,x7)))
def foliotref01_div.f (k:Nat) (l0:List Bool) (l1:List Bool):Option (List Bool×List Bool):=if 0≤(l0.length:Int) then (if ((l0.length:Int):Int).toNat≤281474976710656 then (foliotref01_div.l0 k l0 l1 (List.replicate ((l0.length:Int):Int).toNat false) ([]:List Bool) (wrap64 ((l0.length:Int)-1))) else (none)) else (none)
set_option maxHeartbeats 8000000 in
set_option maxRecDepth 100000 in
theorem foliotref01_div.calls (k:Nat) (A0:Option Addr) (c0:Nat) (l0:List Bool) (A1:Option Addr) (c1:Nat) (l1:List Bool) (r1:List Bool) (r2:List Bool) (w:World) (hr0:Kd.C Kd.bool w A0 l0.length l0) (hc0:l0.length≤c0) (hr1:Kd.C Kd.bool w A1 l1.length l1) (hc1:l1.length≤c1) (h:foliotref01_div.f k l0 l1=some (r1,r2)) :
 Calls Tryz.prog 100 #[.slice A0 l0.length c0,.slice A1 l1.length c1] w fun e w'=>∃v0_ v1_:Value,e=.returned (.tuple #[v0_,v1_])∧Kd.V Kd.bool 4 w' w.heap.size (fun k_=>(w.heap.size≤k_)) v0_ r1∧Kd.V Kd.bool 4 w' w.heap.size (fun k_=>(w.heap.size≤k_)) v1_ r2∧Below w.heap.size w w':=by
 have HR0:=Aside0.mk hr0;have HC0:=Aside0.mk hc0;clear hr0 hc0;have HR1:=Aside0.mk hr1;have HC1:=Aside0.mk hc1;clear hr1 hc1;have HB:=Aside0.mk (Below.refl w.heap.size w);have H:(if 0≤(l0.length:Int) then (if ((l0.length:Int):Int).toNat≤281474976710656 then (foliotref01_div.l0 k l0 l1 (List.replicate ((l0.length:Int):Int).toNat false) ([]:List Bool) (wrap64 ((l0.length:Int)-1))) else (none)) else (none))=some (r1,r2):=h;clear h;replace H:=Sq.ifs H;obtain⟨c3,H⟩:=H;have c3b0:=eq_true c3;have c3b1:decide (0≤(l0.length:Int))=true:=decide_eq_true c3;clear c3;replace H:=Sq.ifs H;obtain⟨c4,H⟩:=H;have c4b0:=eq_true c4;have c4b1:decide (((l0.length:Int):Int).toNat≤281474976710656)=true:=decide_eq_true c4;clear c4;obtain⟨y315,hy315⟩:∃y_:List Bool,y_=(List.replicate ((l0.length:Int):Int).toNat false):=⟨_,rfl⟩
 (first|(replace H:=Sq.ny hy315 H;(try dsimp -simprocs only at H))|rw[←hy315] at H|skip)
 have Ny315:=Aside0.mk hy315;clear hy315;have H':=Aside0.mk H;clear H;go_enter Tryz.func100,Tryz.ntmps100
 go_wp2_with (first|((with_reducible refine gate_dst (N:=11) rfl ?_);refine Kd.R_make Kd.bool _ 4 rfl (N:=11) rfl 34 _ _ rfl (l0.length:Int) rfl rfl Tryz.underlying34 (.bool false) 1 info4 rfl (by decide) (by omega) false (ok:=fun _=>True) (okp:=fun _=>True) rfl (fun _ hk=>hk) trivial (of_decide_eq_true (by first|(with_reducible assumption)|assumption)) (Nat.le_trans (Nat.mul_le_mul_right _ (of_decide_eq_true (by first|(with_reducible assumption)|assumption):(l0.length:Int).toNat≤281474976710656)) (by omega)) (Below.refl _ _) (Nat.le_refl _) ?_;intro v316 w5 ho6 hb hg_ hnew_;clear hg_ hnew_;(first|rw[←Ny315.out] at ho6|(simp only[Int.reduceToNat] at ho6;rw[←Ny315.out] at ho6));have HO317:=Aside0.mk (Kd.R_lower (Kd.R_newM (M:=fun k_=>(w.heap.size≤k_)) ho6 (below_size (Sq.bl HB)) (fun k_ h_=>h_)) (below_size (Sq.bl HB)));replace HB:=Sq.bs HB hb;clear hb ho6))
 go_loopg [7,8] k (fun kq v7 v8 w'=>∃(x6_1:List Bool) (x7_1:List Bool) (x8_1:Int),v8=.int .i64 x8_1∧Aside0 (foliotref01_div.l0 kq l0 l1 x6_1 x7_1 x8_1=some (r1,r2))∧Aside0 (kq≤k)∧Aside0 (Kd.R Kd.bool 4 w' w.heap.size (fun k_=>(w.heap.size≤k_)) v316 x6_1)∧Aside0 (Kd.V Kd.bool 4 w' w.heap.size (fun k_=>(w.heap.size≤k_)∧some k_≠(v316:Value).ownBlock) v7 x7_1)∧Aside0 (Below w.heap.size w w'))
 case atStart=>exact⟨(y315),(([]:List Bool)),(wrap64 ((l0.length:Int)-1)),(by first|rfl|(simp;done)|(simp[*];done)),H',⟨Nat.le_refl _⟩,⟨by (with_reducible repeat (first|apply Kd.R_alloc|apply Kd.R_drewN|apply Kd.R_drew));exact Kd.R_mono HO317.out (fun _ hk=>hk.1)⟩,⟨(by exact Kd.V_nil _ _ _ _ _)⟩,⟨Sq.bl HB⟩⟩
 case round =>
  clear H'
  try clear c1
  try clear p2
  try clear c3
  try clear c3b0
  try clear c3b1
  try clear c4
  try clear c4b0
  try clear c4b1
  try clear p6
  obtain⟨x6_1,x7_1,x8_1,rfl,HA,HK1,HO_6,HO_7,HB⟩:=hrel;cases gk with
  |zero=>exact absurd HA.out (by simp[foliotref01_div.l0])
  |succ k1 =>
   have H:=HA.out;clear HA;simp only[foliotref01_div.l0] at H;by_cases c7:x8_1≥0
   ·rw[if_pos c7] at H
    have c7b0:decide (0≤x8_1)=true:=decide_eq_true c7;clear c7;replace H:=Sq.ifs H;obtain⟨c8,H⟩:=H;have c8b0:decide (0≤x8_1)=true:=decide_eq_true c8;clear c8;replace H:=Sq.ifs H;obtain⟨c9,H⟩:=H;have c9b0:decide (x8_1<(l0.length:Int))=true:=decide_eq_true c9;clear c9;obtain⟨y322,hy322⟩:∃y_:List Bool,y_=(([rdOf false l0 x8_1]:List Bool)):=⟨_,rfl⟩
    (first|(replace H:=Sq.ny hy322 H;(try dsimp -simprocs only at H))|rw[←hy322] at H|skip)
    have Ny322:=Aside0.mk hy322;clear hy322;replace H:=Sq.ifs H;obtain⟨c10,H⟩:=H;have LMc10:=Aside0.mk c10;clear c10;obtain⟨y325,hy325⟩:∃y_:List Bool,y_=(y322++x7_1):=⟨_,rfl⟩
    (first|(replace H:=Sq.ny hy325 H;(try dsimp -simprocs only at H))|rw[←hy325] at H|skip)
    have Ny325:=Aside0.mk hy325;clear hy325;replace H:=Sq.bd H;obtain⟨t328,A11,H⟩:=H
    (try dsimp -simprocs only at H)
    replace H:=Sq.bd H;obtain⟨t331,A12,H⟩:=H
    (try dsimp -simprocs only at H)
    by_cases c13:t331≥0
    ·rw[if_pos c13] at H
     have c13b0:decide (0≤t331)=true:=decide_eq_true c13;clear c13;replace H:=Sq.bd H;obtain⟨t332,A14,H⟩:=H
     (try dsimp -simprocs only at H)
     replace H:=Sq.ifs H;obtain⟨c15,H⟩:=H;have c15b0:decide (x8_1<(x6_1.length:Int))=true:=decide_eq_true c15;clear c15;obtain⟨y335,hy335⟩:∃y_:List Bool,y_=(x6_1.set (x8_1:Int).toNat true):=⟨_,rfl⟩
     (first|(replace H:=Sq.ny hy335 H;(try dsimp -simprocs only at H))|rw[←hy335] at H|skip)
     have Ny335:=Aside0.mk hy335;clear hy335;have H':=Aside0.mk H;clear H;have p321:0≤(x8_1:Int):=of_decide_eq_true (by first|(with_reducible assumption)|assumption);have q321:x8_1<(l0.length:Int):=of_decide_eq_true (by first|(with_reducible assumption)|assumption);obtain⟨ad321,e321,hx321_0⟩:=Kd.at_bool HR0.out x8_1 p321 q321;cases e321;replace hx321_0:=(HB.out.cell (World.block_lt_of_cell? w _ hx321_0)).trans hx321_0;replace p321:=eq_true p321;replace q321:=eq_true q321;go_wp2_with (first|((with_reducible refine gate_dst (N:=23) rfl ?_);refine Kd.R_lit Kd.bool _ 4 ?hg (N:=23) ?hd (xs:=([rdOf false l0 x8_1]:List Bool)) (inner:=[.bool (rdOf false l0 x8_1)]) (ok:=fun _=>True) (okp:=fun _=>True) ?hr ?hp (fun _ hk=>hk) trivial (Below.refl _ _) (Nat.le_refl _) (by simp) ?_;(case hd=>rfl);(case hg=>rfl);(case hr=>first|(go_simp;done)|(go_simp;rfl));(case hp=>exact (Reps.one (show Kd.M Kd.bool _ _ _ (rdOf false l0 x8_1) [.bool (rdOf false l0 x8_1)] from rfl) (Reps.none _ _)));intro v323 w17 ho18 hb hg_ hnew_;clear hg_ hnew_;(first|rw[←Ny322.out] at ho18|(simp only[Int.reduceToNat] at ho18;rw[←Ny322.out] at ho18));replace HO_7:=Aside0.mk (Kd.V_elder' (Sq.al HO_7) (Kd.R_base ho18) hb);have HO324:=Aside0.mk (Kd.R_lower (Kd.R_new' (Kd.R_newM (M:=fun k_=>(w.heap.size≤k_)) ho18 (below_size (Sq.bl HB)) (fun k_ h_=>h_)) (Kd.R_lt (Sq.al HO_6))) (below_size (Sq.bl HB)));replace HO_6:=Aside0.mk (Kd.R_elder' (Sq.al HO_6) (Kd.R_base ho18) hb);replace HB:=Sq.bs HB hb;clear hb ho18;obtain⟨Ao20,co20,eo20⟩:=Kd.V_slice HO_7.out;subst eo20)|((with_reducible refine gate_builtin (b:=.append) (xs:=#[.tmp 23,.tmp 24]) rfl ?_);at_builtin;refine Kd.R_append_rows Kd.bool (w0:=w) w.heap.size rfl (.tmp 23) (.tmp 24) 34 4 (.bool false) 1 rfl Tryz.underlying34 info4 rfl (by decide) (by omega) v323 y322 x7_1 _ _ _ (fun k_=>(w.heap.size≤k_)∧some k_≠(v316:Value).ownBlock) (fun _=>False) rfl rfl ?aO ?aR (fun _ _ h=>h) (fun _ h=>h.elim) ?aF ?aB ?aS ?aL ?_;(case aR=>exact Sq.ca (Kd.V_reads' HO_7.out).2.2);(case aB=>exact (Sq.bl HB));(case aF=>exact (fun k_ hk=>⟨(Nat.le_trans (below_size (Sq.bl HB)) hk),Kd.fresh' (Kd.R_lt (Sq.al HO_6)) k_ hk⟩));(case aO=>exact (by (with_reducible repeat (first|apply Kd.R_alloc|apply Kd.R_drewN|apply Kd.R_drew));exact Kd.R_mono HO324.out (fun _ hk=>⟨hk.1.1,hk.2⟩)));(case aS=>exact (below_size (Sq.bl HB)));(case aL=>have:=LMc10.out;omega);intro v326 w19 ho hb hg hat;rw[←Ny325.out] at ho;replace HO_6:=Aside0.mk (Kd.R_after (ok:=(fun k_=>(w.heap.size≤k_))) (Sq.al HO_6) hg hat);replace HO_7:=Aside0.mk (Kd.V_afterv (ok:=(fun k_=>(w.heap.size≤k_)∧some k_≠(v316:Value).ownBlock)) (Sq.al HO_7) hg hat);replace HB:=Aside0.mk (hb);have HO327:=Aside0.mk (ho);clear HO324;clear ho hb hg hat;obtain⟨Ao21,co21,eo21⟩:=Kd.R_slice HO327.out;subst eo21)|((with_reducible refine gate_callee (f:=121) rfl ?_);refine Sq.gl (some 26) Tryz.func121 #[.slice Ao21 y325.length co21] ?_;(with_reducible refine (foliotref01_cut.calls k1 (fun k_=>some k_=(.slice Ao21 y325.length co21:Value).ownBlock) _ _ y325 t328 _ ?side1 A11.out).mono ?_);(case side1=>exact Kd.R_V (Kd.R_tight rfl (HO327.out)));rintro e w22 ⟨v329,rfl,ho0,hb⟩;refine⟨_,rfl,?_⟩;replace HO_7:=Aside0.mk (Kd.V_below (Sq.al HO_7) hb);have HO330:=Aside0.mk (Kd.V_lower (Kd.V_mono (ok':=fun k_=>(w.heap.size≤k_)∧some k_≠(v316:Value).ownBlock) ho0 (fun k_ hk_=>⟨Or.elim hk_ (fun hs_=>((HO327.out).1 k_ hs_.symm).1) (fun hn_=>(Nat.le_trans (below_size (Sq.bl HB)) hn_)),Or.elim hk_ (fun hs_=>((HO327.out).1 k_ hs_.symm).2) (fun hn_=>(Kd.fresh' (Kd.R_lt (Sq.al HO_6)) k_ hn_))⟩)) (below_size (Sq.bl HB)));replace HO_6:=Aside0.mk (Kd.R_below (Sq.al HO_6) hb);replace HO327:=Aside0.mk (Kd.R_below (Sq.al HO327) hb);replace HB:=Sq.bs HB hb;(try clear hb);(try clear hb2);(try clear hk);(try clear hi);(try clear ho0);obtain⟨Ao23,co23,eo23⟩:=Kd.V_slice HO330.out;subst eo23)|((with_reducible refine gate_callee (f:=122) rfl ?_);refine Sq.gl (some 29) Tryz.func122 #[.slice Ao23 t328.length co23,.slice A1 l1.length c1] ?_;(with_reducible refine (foliotref01_cmp.calls k1 _ _ t328 _ _ l1 t331 _ ?side1 ?side2 ?side3 ?side4 A12.out).mono ?_);(case side1=>exact Sq.ca (Kd.V_reads' HO330.out).2.2);(case side2=>exact (Kd.V_reads' HO330.out).2.1);(case side3=>exact Sq.ca (Kd.C_below HR1.out HB.out));(case side4=>exact HC1.out);rintro e w24 ⟨rfl,hb⟩;refine⟨_,rfl,?_⟩;replace HO_6:=Aside0.mk (Kd.R_below (Sq.al HO_6) hb);replace HO_7:=Aside0.mk (Kd.V_below (Sq.al HO_7) hb);replace HO327:=Aside0.mk (Kd.R_below (Sq.al HO327) hb);replace HO330:=Aside0.mk (Kd.V_below (Sq.al HO330) hb);replace HB:=Sq.bs HB hb;(try clear hb);(try clear hb2);(try clear hk);(try clear hi))|((with_reducible refine gate_callee (f:=123) rfl ?_);refine Sq.gl (some 33) Tryz.func123 #[.slice Ao23 t328.length co23,.slice A1 l1.length c1] ?_;(with_reducible refine (foliotref01_sub.calls k1 _ _ t328 _ _ l1 t332 _ ?side1 ?side2 ?side3 ?side4 A14.out).mono ?_);(case side1=>exact Sq.ca (Kd.V_reads' HO330.out).2.2);(case side2=>exact (Kd.V_reads' HO330.out).2.1);(case side3=>exact Sq.ca (Kd.C_below HR1.out HB.out));(case side4=>exact HC1.out);rintro e w25 ⟨v333,rfl,ho0,hb⟩;refine⟨_,rfl,?_⟩;replace HO_7:=Aside0.mk (Kd.V_below (Sq.al HO_7) hb);replace HO330:=Aside0.mk (Kd.V_below (Sq.al HO330) hb);have HO334:=Aside0.mk (Kd.V_lower (Kd.V_mono (ok':=fun k_=>(w.heap.size≤k_)∧some k_≠(v316:Value).ownBlock∧some k_≠(.slice Ao21 y325.length co21:Value).ownBlock) ho0 (fun k_ hk_=>⟨(Nat.le_trans (below_size (Sq.bl HB)) hk_),(Kd.fresh' (Kd.R_lt (Sq.al HO_6)) k_ hk_),(Kd.fresh' (Kd.R_lt (Sq.al HO327)) k_ hk_)⟩)) (below_size (Sq.bl HB)));replace HO_6:=Aside0.mk (Kd.R_below (Sq.al HO_6) hb);replace HO327:=Aside0.mk (Kd.R_below (Sq.al HO327) hb);replace HB:=Sq.bs HB hb;(try clear hb);(try clear hb2);(try clear hk);(try clear hi);(try clear ho0);have p16:0≤(x8_1:Int):=of_decide_eq_true (by first|(with_reducible assumption)|assumption);have q16:(x8_1:Int)<((x6_1.length:Int):Int):=of_decide_eq_true (by first|(with_reducible assumption)|assumption);obtain⟨go16,co16,eo16,gb16,gl16,cl16,HG16⟩:=Kd.R_form HO_6.out (by omega);(first|cases eo16|(injection eo16 with ea_ en_ ec_;(first|subst ea_|(injection ea_ with ea_;subst ea_));subst ec_;clear en_));have GB16:=Aside0.mk gb16;have GG16:=Aside0.mk HG16;clear gb16 gl16 HG16;obtain⟨hx16_0,hf16_0⟩:=Kd.R_celln false HO_6.out (x8_1:Int) p16 q16;replace p16:=eq_true p16;replace q16:=eq_true q16;obtain⟨hy26_,hz26_⟩:=Kd.R_celln false HO_6.out (x8_1:Int) (of_decide_eq_true (by first|(with_reducible assumption)|assumption)) (of_decide_eq_true (by first|(with_reducible assumption)|assumption));have HP26:=Kd.R_putg HO_6.out (x8_1:Int) true)|((with_reducible refine gate_store (t:=4) (p:=36) rfl ?_);refine store_event (t:=4) (p:=36) (v:=?vo_w27) (w1:=(w25.setCell ⟨go16,(x8_1:Int).toNat,none⟩ (.bool true))) ?hg ?ho ?hn ?hr ?_;(case ho=>rfl);(case hg=>rfl);(case hn=>rfl);(case hr=>first|(go_simp;done)|(go_simp;rfl));intro w27 hw;have hg:w25.grownBy w27 (some go16):=(by rw[hw];exact HP26.2);have hp_:Kd.R Kd.bool 4 w27 w.heap.size (fun k_=>(w.heap.size≤k_)∧some k_≠(.slice Ao21 y325.length co21:Value).ownBlock) (.slice (some ⟨go16,0,none⟩) x6_1.length co16) y335:=(by rw[hw,Ny335.out];exact HP26.1);clear HP26;replace HO_6:=Aside0.mk (hp_);replace HO_7:=Aside0.mk (Kd.V_afterv (v:=(.slice (some ⟨go16,0,none⟩) x6_1.length co16)) (v1:=(.slice (some ⟨go16,0,none⟩) x6_1.length co16)) (ok:=(fun k_=>(w.heap.size≤k_)∧some k_≠(.slice Ao21 y325.length co21:Value).ownBlock)) (by (with_reducible repeat (first|apply Kd.V_alloc|apply Kd.V_drewN|apply Kd.V_drew));exact Kd.V_mono HO_7.out (fun _ hk=>⟨⟨hk.1.1,hk.2⟩,hk.1.2⟩)) hg (.inl rfl));replace HO327:=Aside0.mk (Kd.R_after (v:=(.slice (some ⟨go16,0,none⟩) x6_1.length co16)) (v1:=(.slice (some ⟨go16,0,none⟩) x6_1.length co16)) (ok:=(fun k_=>(w.heap.size≤k_))) (Sq.al HO327) hg (.inl rfl));replace HO330:=Aside0.mk (Kd.V_afterv (v:=(.slice (some ⟨go16,0,none⟩) x6_1.length co16)) (v1:=(.slice (some ⟨go16,0,none⟩) x6_1.length co16)) (ok:=(fun k_=>(w.heap.size≤k_))) (Sq.al HO330) hg (.inl rfl));replace HO334:=Aside0.mk (Kd.V_afterv (v:=(.slice (some ⟨go16,0,none⟩) x6_1.length co16)) (v1:=(.slice (some ⟨go16,0,none⟩) x6_1.length co16)) (ok:=(fun k_=>(w.heap.size≤k_)∧some k_≠(.slice Ao21 y325.length co21:Value).ownBlock)) (by (with_reducible repeat (first|apply Kd.V_alloc|apply Kd.V_drewN|apply Kd.V_drew));exact Kd.V_mono HO334.out (fun _ hk=>⟨⟨hk.1,hk.2.2⟩,hk.2.1⟩)) hg (.inl rfl));replace HB:=Aside0.mk ((by rw[hw];exact below_set (HB.out) GB16.out:Below w.heap.size w w27));clear hg hw hp_))
     go_roundg k1
     case measure=>have:=HK1.out;omega
     case rel=>exact⟨(y335),(t332),(wrap64 (x8_1-1)),(by first|rfl|(simp;done)|(simp[*];done)),H',⟨by have:=HK1.out;omega⟩,⟨by (with_reducible repeat (first|apply Kd.R_alloc|apply Kd.R_drewN|apply Kd.R_drew));exact Kd.R_mono HO_6.out (fun _ hk=>hk.1)⟩,⟨by (with_reducible repeat (first|apply Kd.V_alloc|apply Kd.V_drewN|apply Kd.V_drew));exact Kd.V_mono HO334.out (fun _ hk=>⟨hk.1.1,hk.2⟩)⟩,⟨Sq.bl HB⟩⟩
    ·rw[if_neg c13] at H
     have c13b0:decide (0≤t331)=false:=decide_eq_false c13;clear c13;have H':=Aside0.mk H;clear H;have p321:0≤(x8_1:Int):=of_decide_eq_true (by first|(with_reducible assumption)|assumption);have q321:x8_1<(l0.length:Int):=of_decide_eq_true (by first|(with_reducible assumption)|assumption);obtain⟨ad321,e321,hx321_0⟩:=Kd.at_bool HR0.out x8_1 p321 q321;cases e321;replace hx321_0:=(HB.out.cell (World.block_lt_of_cell? w _ hx321_0)).trans hx321_0;replace p321:=eq_true p321;replace q321:=eq_true q321;go_wp2_with (first|((with_reducible refine gate_dst (N:=23) rfl ?_);refine Kd.R_lit Kd.bool _ 4 ?hg (N:=23) ?hd (xs:=([rdOf false l0 x8_1]:List Bool)) (inner:=[.bool (rdOf false l0 x8_1)]) (ok:=fun _=>True) (okp:=fun _=>True) ?hr ?hp (fun _ hk=>hk) trivial (Below.refl _ _) (Nat.le_refl _) (by simp) ?_;(case hd=>rfl);(case hg=>rfl);(case hr=>first|(go_simp;done)|(go_simp;rfl));(case hp=>exact (Reps.one (show Kd.M Kd.bool _ _ _ (rdOf false l0 x8_1) [.bool (rdOf false l0 x8_1)] from rfl) (Reps.none _ _)));intro v323 w28 ho29 hb hg_ hnew_;clear hg_ hnew_;(first|rw[←Ny322.out] at ho29|(simp only[Int.reduceToNat] at ho29;rw[←Ny322.out] at ho29));replace HO_7:=Aside0.mk (Kd.V_elder' (Sq.al HO_7) (Kd.R_base ho29) hb);have HO324:=Aside0.mk (Kd.R_lower (Kd.R_new' (Kd.R_newM (M:=fun k_=>(w.heap.size≤k_)) ho29 (below_size (Sq.bl HB)) (fun k_ h_=>h_)) (Kd.R_lt (Sq.al HO_6))) (below_size (Sq.bl HB)));replace HO_6:=Aside0.mk (Kd.R_elder' (Sq.al HO_6) (Kd.R_base ho29) hb);replace HB:=Sq.bs HB hb;clear hb ho29;obtain⟨Ao31,co31,eo31⟩:=Kd.V_slice HO_7.out;subst eo31)|((with_reducible refine gate_builtin (b:=.append) (xs:=#[.tmp 23,.tmp 24]) rfl ?_);at_builtin;refine Kd.R_append_rows Kd.bool (w0:=w) w.heap.size rfl (.tmp 23) (.tmp 24) 34 4 (.bool false) 1 rfl Tryz.underlying34 info4 rfl (by decide) (by omega) v323 y322 x7_1 _ _ _ (fun k_=>(w.heap.size≤k_)∧some k_≠(v316:Value).ownBlock) (fun _=>False) rfl rfl ?aO ?aR (fun _ _ h=>h) (fun _ h=>h.elim) ?aF ?aB ?aS ?aL ?_;(case aR=>exact Sq.ca (Kd.V_reads' HO_7.out).2.2);(case aB=>exact (Sq.bl HB));(case aF=>exact (fun k_ hk=>⟨(Nat.le_trans (below_size (Sq.bl HB)) hk),Kd.fresh' (Kd.R_lt (Sq.al HO_6)) k_ hk⟩));(case aO=>exact (by (with_reducible repeat (first|apply Kd.R_alloc|apply Kd.R_drewN|apply Kd.R_drew));exact Kd.R_mono HO324.out (fun _ hk=>⟨hk.1.1,hk.2⟩)));(case aS=>exact (below_size (Sq.bl HB)));(case aL=>have:=LMc10.out;omega);intro v326 w30 ho hb hg hat;rw[←Ny325.out] at ho;replace HO_6:=Aside0.mk (Kd.R_after (ok:=(fun k_=>(w.heap.size≤k_))) (Sq.al HO_6) hg hat);replace HO_7:=Aside0.mk (Kd.V_afterv (ok:=(fun k_=>(w.heap.size≤k_)∧some k_≠(v316:Value).ownBlock)) (Sq.al HO_7) hg hat);replace HB:=Aside0.mk (hb);have HO327:=Aside0.mk (ho);clear HO324;clear ho hb hg hat;obtain⟨Ao32,co32,eo32⟩:=Kd.R_slice HO327.out;subst eo32)|((with_reducible refine gate_callee (f:=121) rfl ?_);refine Sq.gl (some 26) Tryz.func121 #[.slice Ao32 y325.length co32] ?_;(with_reducible refine (foliotref01_cut.calls k1 (fun k_=>some k_=(.slice Ao32 y325.length co32:Value).ownBlock) _ _ y325 t328 _ ?side1 A11.out).mono ?_);(case side1=>exact Kd.R_V (Kd.R_tight rfl (HO327.out)));rintro e w33 ⟨v329,rfl,ho0,hb⟩;refine⟨_,rfl,?_⟩;replace HO_7:=Aside0.mk (Kd.V_below (Sq.al HO_7) hb);have HO330:=Aside0.mk (Kd.V_lower (Kd.V_mono (ok':=fun k_=>(w.heap.size≤k_)∧some k_≠(v316:Value).ownBlock) ho0 (fun k_ hk_=>⟨Or.elim hk_ (fun hs_=>((HO327.out).1 k_ hs_.symm).1) (fun hn_=>(Nat.le_trans (below_size (Sq.bl HB)) hn_)),Or.elim hk_ (fun hs_=>((HO327.out).1 k_ hs_.symm).2) (fun hn_=>(Kd.fresh' (Kd.R_lt (Sq.al HO_6)) k_ hn_))⟩)) (below_size (Sq.bl HB)));replace HO_6:=Aside0.mk (Kd.R_below (Sq.al HO_6) hb);replace HO327:=Aside0.mk (Kd.R_below (Sq.al HO327) hb);replace HB:=Sq.bs HB hb;(try clear hb);(try clear hb2);(try clear hk);(try clear hi);(try clear ho0);obtain⟨Ao34,co34,eo34⟩:=Kd.V_slice HO330.out;subst eo34)|((with_reducible refine gate_callee (f:=122) rfl ?_);refine Sq.gl (some 29) Tryz.func122 #[.slice Ao34 t328.length co34,.slice A1 l1.length c1] ?_;(with_reducible refine (foliotref01_cmp.calls k1 _ _ t328 _ _ l1 t331 _ ?side1 ?side2 ?side3 ?side4 A12.out).mono ?_);(case side1=>exact Sq.ca (Kd.V_reads' HO330.out).2.2);(case side2=>exact (Kd.V_reads' HO330.out).2.1);(case side3=>exact Sq.ca (Kd.C_below HR1.out HB.out));(case side4=>exact HC1.out);rintro e w35 ⟨rfl,hb⟩;refine⟨_,rfl,?_⟩;replace HO_6:=Aside0.mk (Kd.R_below (Sq.al HO_6) hb);replace HO_7:=Aside0.mk (Kd.V_below (Sq.al HO_7) hb);replace HO327:=Aside0.mk (Kd.R_below (Sq.al HO327) hb);replace HO330:=Aside0.mk (Kd.V_below (Sq.al HO330) hb);replace HB:=Sq.bs HB hb;(try clear hb);(try clear hb2);(try clear hk);(try clear hi)))
     go_roundg k1
     case measure=>have:=HK1.out;omega
     case rel=>exact⟨(x6_1),(t328),(wrap64 (x8_1-1)),(by first|rfl|(simp;done)|(simp[*];done)),H',⟨by have:=HK1.out;omega⟩,⟨by (with_reducible repeat (first|apply Kd.R_alloc|apply Kd.R_drewN|apply Kd.R_drew));exact Kd.R_mono HO_6.out (fun _ hk=>hk.1)⟩,⟨by (with_reducible repeat (first|apply Kd.V_alloc|apply Kd.V_drewN|apply Kd.V_drew));exact HO330.out⟩,⟨Sq.bl HB⟩⟩
   ·rw[if_neg c7] at H
    have c7b0:decide (0≤x8_1)=false:=decide_eq_false c7;clear c7;replace H:=Sq.bd H;obtain⟨t318,A36,H⟩:=H
    (try dsimp -simprocs only at H)
    simp only[Option.some.injEq,Prod.mk.injEq] at H;obtain⟨rfl,rfl⟩:=H;obtain⟨Ao37,co37,eo37⟩:=Kd.R_slice HO_6.out;subst eo37;go_wp2_with (first|((with_reducible refine gate_callee (f:=121) rfl ?_);refine Sq.gl (some 38) Tryz.func121 #[.slice Ao37 x6_1.length co37] ?_;(with_reducible refine (foliotref01_cut.calls k1 (fun k_=>some k_=(.slice Ao37 x6_1.length co37:Value).ownBlock) _ _ x6_1 t318 _ ?side1 A36.out).mono ?_);(case side1=>exact Kd.R_V (Kd.R_tight rfl (HO_6.out)));rintro e w38 ⟨v319,rfl,ho0,hb⟩;refine⟨_,rfl,?_⟩;replace HO_7:=Aside0.mk (Kd.V_below (Sq.al HO_7) hb);have HO320:=Aside0.mk (Kd.V_lower (Kd.V_mono (ok':=fun k_=>(w.heap.size≤k_)) ho0 (fun k_ hk_=>Or.elim hk_ (fun hs_=>((HO_6.out).1 k_ hs_.symm)) (fun hn_=>(Nat.le_trans (below_size (Sq.bl HB)) hn_)))) (below_size (Sq.bl HB)));replace HO_6:=Aside0.mk (Kd.R_below (Sq.al HO_6) hb);replace HB:=Sq.bs HB hb;(try clear hb);(try clear hb2);(try clear hk);(try clear hi);(try clear ho0)))
    go_ret2
    exact⟨_,_,by first|rfl|(simp[errW_none,errW_some]<;>rfl)|(simp[*,errW_none,errW_some]<;>rfl),by (with_reducible repeat (first|apply Kd.V_alloc|apply Kd.V_drewN|apply Kd.V_drew));exact HO320.out,by (with_reducible repeat (first|apply Kd.V_alloc|apply Kd.V_drewN|apply Kd.V_drew));exact Kd.V_mono HO_7.out (fun _ hk=>hk.1),Sq.bl HB⟩
mutual
def foliotref01_Limbs.l0:Nat→List Bool→List Int→Int→Option (List Int)
 |0,_,_,_=>none
 |k+1,x0,x3,x4=>if x4<(x0.length:Int) then (foliotref01_Limbs.l1 k x0 x3 x4 0 0) else (some x3)
def foliotref01_Limbs.l1:Nat→List Bool→List Int→Int→Int→Int→Option (List Int)
 |0,_,_,_,_,_=>none
 |k+1,x0,x3,x4,x5,x6=>if x6<32 then (foliotref01_Limbs.j2 k x0 x3 x4 x5 x6 (decide ((wrap64 (x4+x6))<(x0.length:Int)))) else (foliotref01_Limbs.j2 k x0 x3 x4 x5 x6 false)
def foliotref01_Limbs.j2:Nat→List Bool→List Int→Int→Int→Int→Bool→Option (List Int)
 |0,_,_,_,_,_,_=>none
 |k+1,x0,x3,x4,x5,x6,x24=>if x24=true then (if 0≤(wrap64 (x4+x6)) then (if (wrap64 (x4+x6))<(x0.length:Int) then (if rdOf false x0 (wrap64 (x4+x6))=true then (if 0≤x6 then (foliotref01_Limbs.l1 k x0 x3 x4 (Go.bits .or .u32 x5 (shl .u32 1 x6)) (wrap64 (x6+1))) else (none)) else (foliotref01_Limbs.l1 k x0 x3 x4 x5 (wrap64 (x6+1)))) else (none)) else (none)) else (if x3.length<35184372088832 then (foliotref01_Limbs.l0 k x0 (x3++[x5]) (wrap64 (x4+32))) else (none))
end
def foliotref01_Limbs.f (k:Nat) (l0:List Bool):Option (List Int):=(foliotref01_cut.f k l0).bind fun t336=>(foliotref01_Limbs.l0 k t336 ([]:List Int) 0)
set_option maxHeartbeats 8000000 in
set_option maxRecDepth 100000 in
theorem foliotref01_Limbs.calls (k:Nat) (A0:Option Addr) (c0:Nat) (l0:List Bool) (r:List Int) (w:World) (hr0:Kd.C Kd.bool w A0 l0.length l0) (hc0:l0.length≤c0) (h:foliotref01_Limbs.f k l0=some r) :
 Calls Tryz.prog 101 #[.slice A0 l0.length c0] w fun e w'=>∃v0_:Value,e=.returned (v0_)∧Kd.R (Kd.int .u32) 88 w' w.heap.size (fun _=>True) v0_ r∧Below w.heap.size w w':=by
 have HR0:=Aside0.mk hr0;have HC0:=Aside0.mk hc0;clear hr0 hc0;have HB:=Aside0.mk (Below.refl w.heap.size w);have H:((foliotref01_cut.f k l0).bind fun t336=>(foliotref01_Limbs.l0 k t336 ([]:List Int) 0))=some r:=h;clear h;replace H:=Sq.bd H;obtain⟨t336,A2,H⟩:=H
 (try dsimp -simprocs only at H)
 have H':=Aside0.mk H;clear H;go_enter Tryz.func101,Tryz.ntmps101
 go_wp2_with (first|((with_reducible refine gate_callee (f:=121) rfl ?_);refine Sq.gl (some 8) Tryz.func121 #[.slice A0 l0.length c0] ?_;(with_reducible refine (foliotref01_cut.calls k (fun k_=>k_<w.heap.size) _ _ l0 t336 _ ?side1 A2.out).mono ?_);(case side1=>exact Kd.V_mk HC0.out (Kd.F_below (Kd.C_F Kd.heap_bool HR0.out) (Sq.bl HB)));rintro e w3 ⟨v337,rfl,ho0,hb⟩;refine⟨_,rfl,?_⟩;have HO338:=Aside0.mk (Kd.V_lower (Kd.V_mono (ok':=fun k_=>True) ho0 (fun k_ hk_=>trivial)) (below_size (Sq.bl HB)));replace HB:=Sq.bs HB hb;(try clear hb);(try clear hb2);(try clear hk);(try clear hi);(try clear ho0)))
 go_loopg [3,4] k (fun kq v3 v4 w'=>∃(x3_1:List Int) (x4_1:Int),v4=.int .i64 x4_1∧Aside0 (foliotref01_Limbs.l0 kq t336 x3_1 x4_1=some r)∧Aside0 (kq≤k)∧Aside0 (Kd.V Kd.bool 4 w' w.heap.size (fun k_=>some k_≠(v3:Value).ownBlock) v337 t336)∧Aside0 (Kd.R (Kd.int .u32) 88 w' w.heap.size (fun _=>True) v3 x3_1)∧Aside0 (Below w.heap.size w w'))
 case atStart=>exact⟨(([]:List Int)),(0),(by first|rfl|(simp;done)|(simp[*];done)),H',⟨Nat.le_refl _⟩,⟨by (with_reducible repeat (first|apply Kd.V_alloc|apply Kd.V_drewN|apply Kd.V_drew));exact Kd.V_mono HO338.out (fun _ hk=>(by simp[Value.ownBlock]))⟩,⟨by first|exact Kd.R_nil _ _ _ _ _|exact Kd.N_nil _ _ _ _ _|exact Kd.V_nil _ _ _ _ _|exact Kd.Q_nil _ _ _ _ _|exact Kd.S_nil _ _ _ _ _⟩,⟨Sq.bl HB⟩⟩
 case round =>
  clear H'
  try clear c1
  try clear p2
  obtain⟨x3_1,x4_1,rfl,HA,HK1,HO_0,HO_3,HB⟩:=hrel;cases gk with
  |zero=>exact absurd HA.out (by simp[foliotref01_Limbs.l0])
  |succ k1 =>
   have H:=HA.out;clear HA;simp only[foliotref01_Limbs.l0] at H;by_cases c4:x4_1<(t336.length:Int)
   ·rw[if_pos c4] at H
    have c4b0:decide (x4_1<(t336.length:Int))=true:=decide_eq_true c4;clear c4;have H':=Aside0.mk H;clear H;obtain⟨Ao5,co5,eo5⟩:=Kd.V_slice HO_0.out;subst eo5;go_wp2
    go_loopg [5,6] k1 (fun kq v5 v6 w'=>∃(x5_2:Int) (x6_2:Int),v5=.int .u32 x5_2∧v6=.int .i64 x6_2∧Aside0 (foliotref01_Limbs.l1 kq t336 x3_1 x4_1 x5_2 x6_2=some r)∧Aside0 (kq≤k1)∧Aside0 (Kd.V Kd.bool 4 w' w.heap.size (fun k_=>some k_≠(u3:Value).ownBlock) (.slice Ao5 t336.length co5) t336)∧Aside0 (Kd.R (Kd.int .u32) 88 w' w.heap.size (fun _=>True) u3 x3_1)∧Aside0 (Below w.heap.size w w'))
    case atStart=>exact⟨(0),(0),(by first|rfl|(simp;done)|(simp[*];done)),(by first|rfl|(simp;done)|(simp[*];done)),H',⟨Nat.le_refl _⟩,⟨by (with_reducible repeat (first|apply Kd.V_alloc|apply Kd.V_drewN|apply Kd.V_drew));exact HO_0.out⟩,⟨by (with_reducible repeat (first|apply Kd.R_alloc|apply Kd.R_drewN|apply Kd.R_drew));exact HO_3.out⟩,⟨Sq.bl HB⟩⟩
    case round =>
     clear H'
     try clear c1
     try clear p2
     try clear c4
     try clear c4b0
     try clear p2
     obtain⟨x5_2,x6_2,rfl,rfl,HA,HK2,HO_0,HO_3,HB⟩:=hrel;cases gk with
     |zero=>exact absurd HA.out (by simp[foliotref01_Limbs.l1])
     |succ k2 =>
      have H:=HA.out;clear HA;simp only[foliotref01_Limbs.l1] at H;have HC6:=Aside0.mk H;clear H
      go_upto_region 8 with (fail)
      go_cut [24] (fun v24 wc=>∃(kq:Nat) (x24_5:Bool),v24=.bool x24_5∧Aside0 (foliotref01_Limbs.j2 kq t336 x3_1 x4_1 x5_2 x6_2 x24_5=some r)∧Aside0 (kq≤k2)∧Aside0 (Kd.V Kd.bool 4 wc w.heap.size (fun k_=>some k_≠(u3:Value).ownBlock) (.slice Ao5 t336.length co5) t336)∧Aside0 (Kd.R (Kd.int .u32) 88 wc w.heap.size (fun _=>True) u3 x3_1)∧Aside0 (Below w.heap.size w wc))
      case first =>
       have H:=HC6.out;clear HC6;by_cases c7:x6_2<32
       ·rw[if_pos c7] at H
        have c7b0:decide (x6_2<32)=true:=decide_eq_true c7;clear c7
        (first|rw[c7b0]|(simp only[i64_w,i32_w];rw[c7b0])|skip)
        have H':=Aside0.mk H;clear H;go_wp2
        go_meet
        case rel=>exact⟨_,(decide ((wrap64 (x4_1+x6_2))<(t336.length:Int))),(by first|rfl|(simp;done)|(simp[*];done)),H',⟨by have:=HK1.out;have:=HK2.out;first|omega|exact Nat.le_refl _⟩,⟨by (with_reducible repeat (first|apply Kd.V_alloc|apply Kd.V_drewN|apply Kd.V_drew));exact HO_0.out⟩,⟨by (with_reducible repeat (first|apply Kd.R_alloc|apply Kd.R_drewN|apply Kd.R_drew));exact HO_3.out⟩,⟨Sq.bl HB⟩⟩
       ·rw[if_neg c7] at H
        have c7b0:decide (x6_2<32)=false:=decide_eq_false c7;clear c7
        (first|rw[c7b0]|(simp only[i64_w,i32_w];rw[c7b0])|skip)
        have H':=Aside0.mk H;clear H;go_wp2
        go_meet
        case rel=>exact⟨_,(false),(by first|rfl|(simp;done)|(simp[*];done)),H',⟨by have:=HK1.out;have:=HK2.out;first|omega|exact Nat.le_refl _⟩,⟨by (with_reducible repeat (first|apply Kd.V_alloc|apply Kd.V_drewN|apply Kd.V_drew));exact HO_0.out⟩,⟨by (with_reducible repeat (first|apply Kd.R_alloc|apply Kd.R_drewN|apply Kd.R_drew));exact HO_3.out⟩,⟨Sq.bl HB⟩⟩
      case rest =>
       clear HC6
       try clear c1
       try clear p2
       try clear c4
       try clear c4b0
       try clear p6
       try clear c7
       try clear c7b0
       try clear p2
       obtain⟨kq,x24_5,rfl,HA,HJ5,HO_0,HO_3,HB⟩:=hcut;cases kq with
       |zero=>exact absurd HA.out (by simp[foliotref01_Limbs.j2])
       |succ kj5 =>
        have H:=HA.out;clear HA;simp only[foliotref01_Limbs.j2] at H;by_cases c8:x24_5=true
        ·subst c8
         have H1:(if 0≤(wrap64 (x4_1+x6_2)) then (if (wrap64 (x4_1+x6_2))<(t336.length:Int) then (if rdOf false t336 (wrap64 (x4_1+x6_2))=true then (if 0≤x6_2 then (foliotref01_Limbs.l1 kj5 t336 x3_1 x4_1 (Go.bits .or .u32 x5_2 (shl .u32 1 x6_2)) (wrap64 (x6_2+1))) else (none)) else (foliotref01_Limbs.l1 kj5 t336 x3_1 x4_1 x5_2 (wrap64 (x6_2+1)))) else (none)) else (none))=some r:=by rw[if_pos rfl] at H;exact H
         clear H;have H:=H1;clear H1;obtain⟨ji9,hji9⟩:∃j_:Int,(wrap64 (x4_1+x6_2))=j_:=⟨_,rfl⟩
         (first|rw[hji9] at H|simp only[hji9] at H)
         have hji9w:(IntKind.i64.wrap (x4_1+x6_2))=ji9:=(i64_w _).trans hji9;replace H:=Sq.ifs H;obtain⟨c10,H⟩:=H;have c10b0:decide (0≤(ji9))=true:=decide_eq_true c10;clear c10;replace H:=Sq.ifs H;obtain⟨c11,H⟩:=H;have c11b0:decide ((ji9)<(t336.length:Int))=true:=decide_eq_true c11;clear c11;obtain⟨bq12,hbq12⟩:∃b_:Bool,b_=(rdOf false t336 (ji9)):=⟨_,rfl⟩;replace H:(if bq12=true then (if 0≤x6_2 then (foliotref01_Limbs.l1 kj5 t336 x3_1 x4_1 (Go.bits .or .u32 x5_2 (shl .u32 1 x6_2)) (wrap64 (x6_2+1))) else (none)) else (foliotref01_Limbs.l1 kj5 t336 x3_1 x4_1 x5_2 (wrap64 (x6_2+1))))=some r:=by rw[←hbq12] at H;exact H
         have Nbq12:=Aside0.mk hbq12;clear hbq12;by_cases c13:bq12=true
         ·subst c13
          have H1:(if 0≤x6_2 then (foliotref01_Limbs.l1 kj5 t336 x3_1 x4_1 (Go.bits .or .u32 x5_2 (shl .u32 1 x6_2)) (wrap64 (x6_2+1))) else (none))=some r:=by rw[if_pos rfl] at H;exact H
          clear H;have H:=H1;clear H1;replace H:=Sq.ifs H;obtain⟨c14,H⟩:=H;have c14b0:=eq_true c14;have c14b1:decide (0≤x6_2)=true:=decide_eq_true c14;clear c14;obtain⟨ji15,hji15⟩:∃j_:Int,(shl .u32 1 x6_2)=j_:=⟨_,rfl⟩
          (first|rw[hji15] at H|simp only[hji15] at H)
          have hji15_:(IntKind.u32.wrap (1*2 ^ min x6_2.toNat 32))=ji15:=hji15;have hji15z:x6_2≤32→(IntKind.u32.wrap (1*2 ^ x6_2.toNat))=ji15:=shl_small hji15;have hji15u:(IntKind.u32.wrap (2 ^ min x6_2.toNat 32))=ji15:=by have h_:=hji15_;rw[Int.one_mul] at h_;exact h_
          have hji15v:x6_2≤32→(IntKind.u32.wrap (2 ^ x6_2.toNat))=ji15:=fun hle_=>by have h_:=hji15z hle_;rw[Int.one_mul] at h_;exact h_
          have H':=Aside0.mk H;clear H;have p339:0≤((ji9):Int):=of_decide_eq_true (by first|(with_reducible assumption)|assumption);have q339:(ji9)<(t336.length:Int):=of_decide_eq_true (by first|(with_reducible assumption)|assumption);obtain⟨ad339,e339,hx339_0⟩:=Kd.at_bool (Kd.V_reads' HO_0.out).2.2 (ji9) p339 q339
          (try rw[←Nbq12.out] at hx339_0)
          cases e339;replace p339:=eq_true p339;replace q339:=eq_true q339;go_wp2
          go_roundg kj5
          case measure=>have:=HK1.out;have:=HK2.out;have:=HJ5.out;omega
          case rel=>exact⟨(Go.bits .or .u32 x5_2 (ji15)),(wrap64 (x6_2+1)),(by first|rfl|(simp;done)|(simp only[←hji15]<;>(first|rfl|simp))|(simp[*];done)),(by first|rfl|(simp;done)|(simp[*];done)),H',⟨by have:=HK1.out;have:=HK2.out;have:=HJ5.out;omega⟩,⟨by (with_reducible repeat (first|apply Kd.V_alloc|apply Kd.V_drewN|apply Kd.V_drew));exact HO_0.out⟩,⟨by (with_reducible repeat (first|apply Kd.R_alloc|apply Kd.R_drewN|apply Kd.R_drew));exact HO_3.out⟩,⟨Sq.bl HB⟩⟩
         ·replace c13:=Bool.eq_false_iff.mpr c13
          subst c13;have H1:(foliotref01_Limbs.l1 kj5 t336 x3_1 x4_1 x5_2 (wrap64 (x6_2+1)))=some r:=by rw[if_neg (show ¬(false=true) by decide)] at H;exact H
          clear H;have H:=H1;clear H1;have H':=Aside0.mk H;clear H;have p339:0≤((ji9):Int):=of_decide_eq_true (by first|(with_reducible assumption)|assumption);have q339:(ji9)<(t336.length:Int):=of_decide_eq_true (by first|(with_reducible assumption)|assumption);obtain⟨ad339,e339,hx339_0⟩:=Kd.at_bool (Kd.V_reads' HO_0.out).2.2 (ji9) p339 q339
          (try rw[←Nbq12.out] at hx339_0)
          cases e339;replace p339:=eq_true p339;replace q339:=eq_true q339;go_wp2
          go_roundg kj5
          case measure=>have:=HK1.out;have:=HK2.out;have:=HJ5.out;omega
          case rel=>exact⟨(x5_2),(wrap64 (x6_2+1)),(by first|rfl|(simp;done)|(simp[*];done)),(by first|rfl|(simp;done)|(simp[*];done)),H',⟨by have:=HK1.out;have:=HK2.out;have:=HJ5.out;omega⟩,⟨by (with_reducible repeat (first|apply Kd.V_alloc|apply Kd.V_drewN|apply Kd.V_drew));exact HO_0.out⟩,⟨by (with_reducible repeat (first|apply Kd.R_alloc|apply Kd.R_drewN|apply Kd.R_drew));exact HO_3.out⟩,⟨Sq.bl HB⟩⟩
        ·replace c8:=Bool.eq_false_iff.mpr c8
         subst c8;have H1:(if x3_1.length<35184372088832 then (foliotref01_Limbs.l0 kj5 t336 (x3_1++[x5_2]) (wrap64 (x4_1+32))) else (none))=some r:=by rw[if_neg (show ¬(false=true) by decide)] at H;exact H
         clear H;have H:=H1;clear H1;replace H:=Sq.ifs H;obtain⟨c16,H⟩:=H;have LMc16:=Aside0.mk c16;clear c16;obtain⟨y340,hy340⟩:∃y_:List Int,y_=(x3_1++[x5_2]):=⟨_,rfl⟩
         (first|(replace H:=Sq.ny hy340 H;(try dsimp -simprocs only at H))|rw[←hy340] at H|skip)
         have Ny340:=Aside0.mk hy340;clear hy340;have H':=Aside0.mk H;clear H;go_wp2_with (first|((with_reducible refine gate_builtin (b:=.append) (xs:=#[.tmp 37,.tmp 39]) rfl ?_);(try (refine gate_guard (by rfl) ?_;dsimp only));at_builtin;refine Kd.R_append (Kd.int .u32) (w0:=w) w.heap.size rfl (.tmp 37) (.tmp 39) 22 88 (.int .u32 0) 4 rfl Tryz.underlying22 info88 rfl (by decide) (by omega) u3 x3_1 x5_2 [.int .u32 x5_2] (fun _=>True) (fun _=>False) rfl rfl ?aP (fun _ hk=>hk.elim) ?aF ?aO ?aB ?aS ?aL ?_;(case aP=>exact rfl);(case aB=>exact (Sq.bl HB));(case aF=>exact (fun _ _=>trivial));(case aO=>exact (Sq.al HO_3));(case aS=>exact (below_size (Sq.bl HB)));(case aL=>have:=LMc16.out;omega);intro v341 w17 ho hb hg hat;rw[←Ny340.out] at ho;replace HO_0:=Aside0.mk (Kd.V_afterv (ok:=(fun _=>True)) (by (with_reducible repeat (first|apply Kd.V_alloc|apply Kd.V_drewN|apply Kd.V_drew));exact Kd.V_mono HO_0.out (fun _ hk=>⟨trivial,hk⟩)) hg hat);replace HB:=Aside0.mk (hb);have HO342:=Aside0.mk (ho);clear HO_3;clear ho hb hg hat))
         go_roundg kj5
         case measure=>have:=HK1.out;have:=HK2.out;have:=HJ5.out;omega
         case rel=>exact⟨(y340),(wrap64 (x4_1+32)),(by first|rfl|(simp;done)|(simp[*];done)),H',⟨by have:=HK1.out;have:=HK2.out;have:=HJ5.out;omega⟩,⟨by (with_reducible repeat (first|apply Kd.V_alloc|apply Kd.V_drewN|apply Kd.V_drew));exact Kd.V_mono HO_0.out (fun _ hk=>hk.2)⟩,⟨by (with_reducible repeat (first|apply Kd.R_alloc|apply Kd.R_drewN|apply Kd.R_drew));exact HO342.out⟩,⟨Sq.bl HB⟩⟩
   ·rw[if_neg c4] at H
    have c4b0:decide (x4_1<(t336.length:Int))=false:=decide_eq_false c4;clear c4;obtain rfl:=Option.some.inj H;obtain⟨Ao18,co18,eo18⟩:=Kd.V_slice HO_0.out;subst eo18;go_wp2
    go_ret
    exact⟨_,by first|rfl|(simp[errW_none,errW_some]<;>rfl)|(simp[*,errW_none,errW_some]<;>rfl),by (with_reducible repeat (first|apply Kd.R_alloc|apply Kd.R_drewN|apply Kd.R_drew));exact HO_3.out,Sq.bl HB⟩
end Go.Proofs.YtjfkhbkddenfoaaGreat.N
