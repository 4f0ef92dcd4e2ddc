import Derived.Test.YtjfkhbkddenfoaaGreatQdajcgaonnfNx0
import Derived.Test.YtjfkhbkddenfoaaGreatQphdjdbniokNx1
import Derived.Test.YtjfkhbkddenfoaaGreatQangogfbfipNx2
import Derived.Test.YtjfkhbkddenfoaaGreatQhnpinjcpfmNx3
import Derived.Test.YtjfkhbkddenfoaaGreatQgoapcpfdbnM
set_option linter.unusedVariables false
set_option linter.unusedSimpArgs false
namespace Go.Proofs.YtjfkhbkddenfoaaGreat.N
open Go.RowKit Go.Proofs.YtjfkhbkddenfoaaGreatW.PrintWords Go.Proofs.YtjfkhbkddenfoaaGreatW.PrintLast Go.Proofs.YtjfkhbkddenfoaaGreatW.PrintMore
attribute [local go_sem] max2_int min2_int max_two min_two max_three min_three max_four min_four   -- for this text's walks alone
def nat_Div.l0:Nat→List Int→Int→List Int→List Int→List Int→Int→Option (List Int×List Int×Int)
 |0,_,_,_,_,_,_=>none
 |k+1,x1,x9,x10,x11,x12,x13=>if x13≥0 then ((nat_guess.f k x10 x11 x13).bind fun t222=>((nat_take.f k x10 x11 x13 t222).bind fun bt223=>(if 0≤x13 then (if x13<(x12.length:Int) then (nat_Div.l0 k x1 x9 bt223.2 x11 (x12.set (x13:Int).toNat bt223.1) (wrap64 (x13-1))) else (none)) else (none)))) else ((nat_cut.f k x12).bind fun t226=>(if 0≤(x1.length:Int) then (if (x1.length:Int)≤(x10.length:Int) then ((nat_right.f k (x10.take ((x1.length:Int):Int).toNat) x9).bind fun t233=>(some (t226,t233,0))) else (none)) else (none)))
def nat_Div.f (k:Nat) (l0:List Int) (l1:List Int):Option (List Int×List Int×Int):=(nat_cut.f k l0).bind fun t186=>((nat_cut.f k l1).bind fun t189=>(if (t189.length:Int)=0 then (some (([]:List Int),([]:List Int),3)) else ((nat_Cmp.f k t186 t189).bind fun t192=>(if t192<0 then ((slices_Clone_uint32_uint32.f t186).bind fun t193=>(some (([]:List Int),t193,0))) else (if (t189.length:Int)=1 then (if 0<(t189.length:Int) then ((nat_small.f k t186 (rd t189 0)).bind fun bt197=>((nat_cut.f k (([bt197.2]:List Int))).bind fun t204=>(some (bt197.1,t204,0)))) else (none)) else (if 0≤(wrap64 ((t189.length:Int)-1)) then (if (wrap64 ((t189.length:Int)-1))<(t189.length:Int) then ((bits_LeadingZeros32.f (rd t189 (wrap64 ((t189.length:Int)-1)))).bind fun t208=>((nat_left.f k t186 t208).bind fun t209=>((nat_left.f k t189 t208).bind fun t212=>(if 0≤(t189.length:Int) then (if (t189.length:Int)≤(t212.length:Int) then (if 0≤(wrap64 ((wrap64 ((t186.length:Int)-(t189.length:Int)))+1)) then (if (wrap64 ((wrap64 ((t186.length:Int)-(t189.length:Int)))+1):Int).toNat≤70368744177664 then ((some (List.replicate (wrap64 ((wrap64 ((t186.length:Int)-(t189.length:Int)))+1):Int).toNat 0:List Int)).bind fun y219=>(nat_Div.l0 k t189 t208 t209 (t212.take ((t189.length:Int):Int).toNat) y219 (wrap64 ((y219.length:Int)-1)))) else (none)) else (none)) else (none)) else (none))))) else (none)) else (none)))))))
def nat_Div.T10:Bool×List (List Nat×List Nat):=(true,[([],[]),([],[]),([0,1],[0,1]),([],[]),([],[]),([3,4,2],[3,4]),([],[]),([6],[6]),([5,7],[5,7]),([2,5,0,1,2],[2]),([8,9,0,1,2,3,4,5,6,7,8,9],[8])])
def nat_Div.B10:List Nat:=[0,0,3,0,0,31,0,64,255,63,1023]
theorem nat_Div.tab10:rtab .any (opsOf Tryz.f90 10)=nat_Div.T10:=by kernel_rfl
theorem nat_Div.bits10:waitsOk nat_Div.T10.2 nat_Div.B10=true:=by kernel_rfl
def nat_Div.T16:Bool×List (List Nat×List Nat):=(true,[([],[]),([0],[0]),([],[]),([],[]),([3],[3]),([2,4],[2,4]),([],[]),([5,6,1],[5,6]),([1,7,0,1],[1]),([7,8,0,1,2,3,4,5,6,7,8],[7]),([9,0,1,2,3,4,5,6,7,8,9],[])])
def nat_Div.B16:List Nat:=[0,1,0,0,8,28,0,127,255,511,1023]
theorem nat_Div.tab16:rtab .any (opsOf Tryz.f90 16)=nat_Div.T16:=by kernel_rfl
theorem nat_Div.bits16:waitsOk nat_Div.T16.2 nat_Div.B16=true:=by kernel_rfl
set_option maxHeartbeats 8000000 in
set_option maxRecDepth 100000 in
theorem nat_Div.calls (k:Nat) (P0_:Nat→Prop) (A0:Option Addr) (c0:Nat) (l0:List Int) (P1_:Nat→Prop) (A1:Option Addr) (c1:Nat) (l1:List Int) (r1:List Int) (r2:List Int) (r3:Int) (w:World) (hs0:Kd.V (Kd.int .u32) 88 w w.heap.size (fun k_=>P0_ k_) (.slice A0 l0.length c0) l0) (hs1:Kd.V (Kd.int .u32) 88 w w.heap.size (fun k_=>P1_ k_) (.slice A1 l1.length c1) l1) (h:nat_Div.f k l0 l1=some (r1,r2,r3)) :
 Calls Tryz.prog 90 #[.slice A0 l0.length c0,.slice A1 l1.length c1] w fun e w'=>∃v0_ v1_:Value,e=.returned (.tuple #[v0_,v1_,.int .i64 r3])∧Kd.V (Kd.int .u32) 88 w' w.heap.size (fun k_=>((P0_ k_∨P1_ k_)∨w.heap.size≤k_)) v0_ r1∧Kd.V (Kd.int .u32) 88 w' w.heap.size (fun k_=>((P0_ k_∨P1_ k_)∨w.heap.size≤k_)) v1_ r2∧Below w.heap.size w w':=by
 have HO0:=Aside0.mk (show Kd.V (Kd.int .u32) 88 w w.heap.size (fun k_=>((P0_ k_∨P1_ k_)∨w.heap.size≤k_)) (.slice A0 l0.length c0) l0 from Kd.V_mono hs0 (fun k_ hk=>.inl (.inl hk)));have HO1:=Aside0.mk (show Kd.V (Kd.int .u32) 88 w w.heap.size (fun k_=>((P0_ k_∨P1_ k_)∨w.heap.size≤k_)) (.slice A1 l1.length c1) l1 from Kd.V_mono hs1 (fun k_ hk=>.inl (.inr hk)));have HB:=Aside0.mk (Below.refl w.heap.size w);have H:((nat_cut.f k l0).bind fun t186=>((nat_cut.f k l1).bind fun t189=>(if (t189.length:Int)=0 then (some (([]:List Int),([]:List Int),3)) else ((nat_Cmp.f k t186 t189).bind fun t192=>(if t192<0 then ((slices_Clone_uint32_uint32.f t186).bind fun t193=>(some (([]:List Int),t193,0))) else (if (t189.length:Int)=1 then (if 0<(t189.length:Int) then ((nat_small.f k t186 (rd t189 0)).bind fun bt197=>((nat_cut.f k (([bt197.2]:List Int))).bind fun t204=>(some (bt197.1,t204,0)))) else (none)) else (if 0≤(wrap64 ((t189.length:Int)-1)) then (if (wrap64 ((t189.length:Int)-1))<(t189.length:Int) then ((bits_LeadingZeros32.f (rd t189 (wrap64 ((t189.length:Int)-1)))).bind fun t208=>((nat_left.f k t186 t208).bind fun t209=>((nat_left.f k t189 t208).bind fun t212=>(if 0≤(t189.length:Int) then (if (t189.length:Int)≤(t212.length:Int) then (if 0≤(wrap64 ((wrap64 ((t186.length:Int)-(t189.length:Int)))+1)) then (if (wrap64 ((wrap64 ((t186.length:Int)-(t189.length:Int)))+1):Int).toNat≤70368744177664 then ((some (List.replicate (wrap64 ((wrap64 ((t186.length:Int)-(t189.length:Int)))+1):Int).toNat 0:List Int)).bind fun y219=>(nat_Div.l0 k t189 t208 t209 (t212.take ((t189.length:Int):Int).toNat) y219 (wrap64 ((y219.length:Int)-1)))) else (none)) else (none)) else (none)) else (none))))) else (none)) else (none))))))))=some (r1,r2,r3):=h;clear h;replace H:=Sq.bd H;obtain⟨t186,A3,H⟩:=H
 (try dsimp -simprocs only at H)
 replace H:=Sq.bd H;obtain⟨t189,A4,H⟩:=H
 (try dsimp -simprocs only at H)
 by_cases c5:(t189.length:Int)=0
 ·rw[if_pos c5] at H
  have c5b0:((t189.length:Int)==0)=true:=beq_iff_eq.mpr c5;have c5b1:((t189.length:Int) != 0)=false:=bne_eq_false_iff_eq.mpr c5;clear c5;simp only[Option.some.injEq,Prod.mk.injEq] at H;obtain⟨rfl,rfl,rfl⟩:=H;go_enter Tryz.func90,Tryz.ntmps90
  go_wp2_with (first|((with_reducible refine gate_callee (f:=86) rfl ?_);refine Sq.gl (some 15) Tryz.func86 #[.slice A0 l0.length c0] ?_;(with_reducible refine (nat_cut.calls k (fun k_=>((P0_ k_∨P1_ k_)∨w.heap.size≤k_)) _ _ l0 t186 _ ?side1 A3.out).mono ?_);(case side1=>exact HO0.out);rintro e w6 ⟨v187,rfl,ho0,hb⟩;refine⟨_,rfl,?_⟩;replace HO0:=Aside0.mk (Kd.V_below (Sq.al HO0) hb);replace HO1:=Aside0.mk (Kd.V_below (Sq.al HO1) hb);have HO188:=Aside0.mk (Kd.V_lower (Kd.V_mono (ok':=fun k_=>((P0_ k_∨P1_ k_)∨w.heap.size≤k_)) ho0 (fun k_ hk_=>Or.elim hk_ (fun hs_=>hs_) (fun hn_=>(.inr (Nat.le_trans (below_size (Sq.bl HB)) hn_))))) (below_size (Sq.bl HB)));replace HB:=Sq.bs HB hb;(try clear hb);(try clear hb2);(try clear hk);(try clear hi);(try clear ho0))|((with_reducible refine gate_callee (f:=86) rfl ?_);refine Sq.gl (some 17) Tryz.func86 #[.slice A1 l1.length c1] ?_;(with_reducible refine (nat_cut.calls k (fun k_=>((P0_ k_∨P1_ k_)∨w.heap.size≤k_)) _ _ l1 t189 _ ?side1 A4.out).mono ?_);(case side1=>exact HO1.out);rintro e w7 ⟨v190,rfl,ho0,hb⟩;refine⟨_,rfl,?_⟩;replace HO0:=Aside0.mk (Kd.V_below (Sq.al HO0) hb);replace HO1:=Aside0.mk (Kd.V_below (Sq.al HO1) hb);replace HO188:=Aside0.mk (Kd.V_below (Sq.al HO188) hb);have HO191:=Aside0.mk (Kd.V_lower (Kd.V_mono (ok':=fun k_=>((P0_ k_∨P1_ k_)∨w.heap.size≤k_)) ho0 (fun k_ hk_=>Or.elim hk_ (fun hs_=>hs_) (fun hn_=>(.inr (Nat.le_trans (below_size (Sq.bl HB)) hn_))))) (below_size (Sq.bl HB)));replace HB:=Sq.bs HB hb;(try clear hb);(try clear hb2);(try clear hk);(try clear hi);(try clear ho0);obtain⟨Ao8,co8,eo8⟩:=Kd.V_slice HO191.out;subst eo8))
  go_ret3
  exact⟨_,_,by first|rfl|(simp[errW_none,errW_some]<;>rfl)|(simp[*,errW_none,errW_some]<;>rfl),(by exact Kd.V_nil _ _ _ _ _),(by exact Kd.V_nil _ _ _ _ _),Sq.bl HB⟩
 ·rw[if_neg c5] at H
  have c5b0:((t189.length:Int)==0)=false:=beq_eq_false_iff_ne.mpr c5;have c5b1:((t189.length:Int) != 0)=true:=bne_iff_ne.mpr c5;have c5b2:¬(t189=[]):=fun h_=>c5 (by rw[h_];rfl)
  replace H:=Sq.bd H;obtain⟨t192,A9,H⟩:=H
  (try dsimp -simprocs only at H)
  by_cases c10:t192<0
  ·rw[if_pos c10] at H
   have c10b0:decide (t192<0)=true:=decide_eq_true c10;clear c10;replace H:=Sq.bd H;obtain⟨t193,A11,H⟩:=H
   (try dsimp -simprocs only at H)
   simp only[Option.some.injEq,Prod.mk.injEq] at H;obtain⟨rfl,rfl,rfl⟩:=H;go_enter Tryz.func90,Tryz.ntmps90
   go_wp2_with (first|((with_reducible refine gate_callee (f:=86) rfl ?_);refine Sq.gl (some 15) Tryz.func86 #[.slice A0 l0.length c0] ?_;(with_reducible refine (nat_cut.calls k (fun k_=>((P0_ k_∨P1_ k_)∨w.heap.size≤k_)) _ _ l0 t186 _ ?side1 A3.out).mono ?_);(case side1=>exact HO0.out);rintro e w12 ⟨v187,rfl,ho0,hb⟩;refine⟨_,rfl,?_⟩;replace HO0:=Aside0.mk (Kd.V_below (Sq.al HO0) hb);replace HO1:=Aside0.mk (Kd.V_below (Sq.al HO1) hb);have HO188:=Aside0.mk (Kd.V_lower (Kd.V_mono (ok':=fun k_=>((P0_ k_∨P1_ k_)∨w.heap.size≤k_)) ho0 (fun k_ hk_=>Or.elim hk_ (fun hs_=>hs_) (fun hn_=>(.inr (Nat.le_trans (below_size (Sq.bl HB)) hn_))))) (below_size (Sq.bl HB)));replace HB:=Sq.bs HB hb;(try clear hb);(try clear hb2);(try clear hk);(try clear hi);(try clear ho0))|((with_reducible refine gate_callee (f:=86) rfl ?_);refine Sq.gl (some 17) Tryz.func86 #[.slice A1 l1.length c1] ?_;(with_reducible refine (nat_cut.calls k (fun k_=>((P0_ k_∨P1_ k_)∨w.heap.size≤k_)) _ _ l1 t189 _ ?side1 A4.out).mono ?_);(case side1=>exact HO1.out);rintro e w13 ⟨v190,rfl,ho0,hb⟩;refine⟨_,rfl,?_⟩;replace HO0:=Aside0.mk (Kd.V_below (Sq.al HO0) hb);replace HO1:=Aside0.mk (Kd.V_below (Sq.al HO1) hb);replace HO188:=Aside0.mk (Kd.V_below (Sq.al HO188) hb);have HO191:=Aside0.mk (Kd.V_lower (Kd.V_mono (ok':=fun k_=>((P0_ k_∨P1_ k_)∨w.heap.size≤k_)) ho0 (fun k_ hk_=>Or.elim hk_ (fun hs_=>hs_) (fun hn_=>(.inr (Nat.le_trans (below_size (Sq.bl HB)) hn_))))) (below_size (Sq.bl HB)));replace HB:=Sq.bs HB hb;(try clear hb);(try clear hb2);(try clear hk);(try clear hi);(try clear ho0);obtain⟨Ao14,co14,eo14⟩:=Kd.V_slice HO191.out;subst eo14;obtain⟨Ao15,co15,eo15⟩:=Kd.V_slice HO188.out;subst eo15)|((with_reducible refine gate_callee (f:=63) rfl ?_);refine Sq.gl (some 25) Tryz.func63 #[.slice Ao15 t186.length co15,.slice Ao14 t189.length co14] ?_;(with_reducible refine (nat_Cmp.calls k _ _ t186 _ _ t189 t192 _ ?side1 ?side2 ?side3 ?side4 A9.out).mono ?_);(case side1=>exact Sq.ca (Kd.V_reads' HO188.out).2.2);(case side2=>exact (Kd.V_reads' HO188.out).2.1);(case side3=>exact Sq.ca (Kd.V_reads' HO191.out).2.2);(case side4=>exact (Kd.V_reads' HO191.out).2.1);rintro e w16 ⟨rfl,hb⟩;refine⟨_,rfl,?_⟩;replace HO0:=Aside0.mk (Kd.V_below (Sq.al HO0) hb);replace HO1:=Aside0.mk (Kd.V_below (Sq.al HO1) hb);replace HO188:=Aside0.mk (Kd.V_below (Sq.al HO188) hb);replace HO191:=Aside0.mk (Kd.V_below (Sq.al HO191) hb);replace HB:=Sq.bs HB hb;(try clear hb);(try clear hb2);(try clear hk);(try clear hi))|((with_reducible refine gate_callee (f:=110) rfl ?_);refine Sq.gl (some 28) Tryz.func110 #[.slice Ao15 t186.length co15] ?_;(with_reducible refine (slices_Clone_uint32_uint32.calls _ _ t186 t193 _ ?side1 ?side2 A11.out).mono ?_);(case side1=>exact Sq.ca (Kd.V_reads' HO188.out).2.2);(case side2=>exact (Kd.V_reads' HO188.out).2.1);rintro e w17 ⟨v194,rfl,ho0,hb⟩;refine⟨_,rfl,?_⟩;replace HO0:=Aside0.mk (Kd.V_elder' (Sq.al HO0) (Kd.R_base ho0) hb);replace HO1:=Aside0.mk (Kd.V_elder' (Sq.al HO1) (Kd.R_base ho0) hb);replace HO188:=Aside0.mk (Kd.V_elder' (Sq.al HO188) (Kd.R_base ho0) hb);replace HO191:=Aside0.mk (Kd.V_elder' (Sq.al HO191) (Kd.R_base ho0) hb);have HO195:=Aside0.mk (Kd.R_lower (Kd.R_newM (M:=fun k_=>(w.heap.size≤k_)) ho0 (below_size (Sq.bl HB)) (fun k_ h_=>h_)) (below_size (Sq.bl HB)));replace HB:=Sq.bs HB hb;(try clear hb);(try clear hb2);(try clear hk);(try clear hi);(try clear ho0)))
   go_ret3
   exact⟨_,_,by first|rfl|(simp[errW_none,errW_some]<;>rfl)|(simp[*,errW_none,errW_some]<;>rfl),(by exact Kd.V_nil _ _ _ _ _),Kd.V_mono (Kd.R_V (by (with_reducible repeat (first|apply Kd.R_alloc|apply Kd.R_drewN|apply Kd.R_drew));exact Kd.R_mono HO195.out (fun _ hk=>hk.1))) (fun k_ hk=>by first|exact⟨(.inr (hk.1)),hk.2⟩|exact (.inr (hk))),Sq.bl HB⟩
  ·rw[if_neg c10] at H
   have c10b0:decide (t192<0)=false:=decide_eq_false c10;clear c10;by_cases c18:(t189.length:Int)=1
   ·rw[if_pos c18] at H
    have c18b0:((t189.length:Int)==1)=true:=beq_iff_eq.mpr c18;have c18b1:((t189.length:Int) != 1)=false:=bne_eq_false_iff_eq.mpr c18;clear c18;replace H:=Sq.ifs H;obtain⟨c19,H⟩:=H;have c19b0:decide (0<(t189.length:Int))=true:=decide_eq_true c19;have c19b1:decide (0<t189.length)=true:=decide_eq_true (by omega);clear c19;replace H:=Sq.bd H;obtain⟨⟨t197,t200⟩,A20,H⟩:=H
    (try dsimp -simprocs only at H)
    obtain⟨y201,hy201⟩:∃y_:List Int,y_=(([t200]:List Int)):=⟨_,rfl⟩
    (first|(replace H:=Sq.ny hy201 H;(try dsimp -simprocs only at H))|rw[←hy201] at H|skip)
    have Ny201:=Aside0.mk hy201;clear hy201;replace H:=Sq.bd H;obtain⟨t204,A21,H⟩:=H
    (try dsimp -simprocs only at H)
    simp only[Option.some.injEq,Prod.mk.injEq] at H;obtain⟨rfl,rfl,rfl⟩:=H;go_enter Tryz.func90,Tryz.ntmps90
    go_wp2_with (first|((with_reducible refine gate_callee (f:=86) rfl ?_);refine Sq.gl (some 15) Tryz.func86 #[.slice A0 l0.length c0] ?_;(with_reducible refine (nat_cut.calls k (fun k_=>((P0_ k_∨P1_ k_)∨w.heap.size≤k_)) _ _ l0 t186 _ ?side1 A3.out).mono ?_);(case side1=>exact HO0.out);rintro e w22 ⟨v187,rfl,ho0,hb⟩;refine⟨_,rfl,?_⟩;replace HO0:=Aside0.mk (Kd.V_below (Sq.al HO0) hb);replace HO1:=Aside0.mk (Kd.V_below (Sq.al HO1) hb);have HO188:=Aside0.mk (Kd.V_lower (Kd.V_mono (ok':=fun k_=>((P0_ k_∨P1_ k_)∨w.heap.size≤k_)) ho0 (fun k_ hk_=>Or.elim hk_ (fun hs_=>hs_) (fun hn_=>(.inr (Nat.le_trans (below_size (Sq.bl HB)) hn_))))) (below_size (Sq.bl HB)));replace HB:=Sq.bs HB hb;(try clear hb);(try clear hb2);(try clear hk);(try clear hi);(try clear ho0))|((with_reducible refine gate_callee (f:=86) rfl ?_);refine Sq.gl (some 17) Tryz.func86 #[.slice A1 l1.length c1] ?_;(with_reducible refine (nat_cut.calls k (fun k_=>((P0_ k_∨P1_ k_)∨w.heap.size≤k_)) _ _ l1 t189 _ ?side1 A4.out).mono ?_);(case side1=>exact HO1.out);rintro e w23 ⟨v190,rfl,ho0,hb⟩;refine⟨_,rfl,?_⟩;replace HO0:=Aside0.mk (Kd.V_below (Sq.al HO0) hb);replace HO1:=Aside0.mk (Kd.V_below (Sq.al HO1) hb);replace HO188:=Aside0.mk (Kd.V_below (Sq.al HO188) hb);have HO191:=Aside0.mk (Kd.V_lower (Kd.V_mono (ok':=fun k_=>((P0_ k_∨P1_ k_)∨w.heap.size≤k_)) ho0 (fun k_ hk_=>Or.elim hk_ (fun hs_=>hs_) (fun hn_=>(.inr (Nat.le_trans (below_size (Sq.bl HB)) hn_))))) (below_size (Sq.bl HB)));replace HB:=Sq.bs HB hb;(try clear hb);(try clear hb2);(try clear hk);(try clear hi);(try clear ho0);obtain⟨Ao24,co24,eo24⟩:=Kd.V_slice HO191.out;subst eo24;obtain⟨Ao25,co25,eo25⟩:=Kd.V_slice HO188.out;subst eo25)|((with_reducible refine gate_callee (f:=63) rfl ?_);refine Sq.gl (some 25) Tryz.func63 #[.slice Ao25 t186.length co25,.slice Ao24 t189.length co24] ?_;(with_reducible refine (nat_Cmp.calls k _ _ t186 _ _ t189 t192 _ ?side1 ?side2 ?side3 ?side4 A9.out).mono ?_);(case side1=>exact Sq.ca (Kd.V_reads' HO188.out).2.2);(case side2=>exact (Kd.V_reads' HO188.out).2.1);(case side3=>exact Sq.ca (Kd.V_reads' HO191.out).2.2);(case side4=>exact (Kd.V_reads' HO191.out).2.1);rintro e w26 ⟨rfl,hb⟩;refine⟨_,rfl,?_⟩;replace HO0:=Aside0.mk (Kd.V_below (Sq.al HO0) hb);replace HO1:=Aside0.mk (Kd.V_below (Sq.al HO1) hb);replace HO188:=Aside0.mk (Kd.V_below (Sq.al HO188) hb);replace HO191:=Aside0.mk (Kd.V_below (Sq.al HO191) hb);replace HB:=Sq.bs HB hb;(try clear hb);(try clear hb2);(try clear hk);(try clear hi);have p196:0≤(0:Int):=(by omega);have q196:0<(t189.length:Int):=of_decide_eq_true (by first|(with_reducible assumption)|assumption);obtain⟨ad196,e196,hx196_0⟩:=Kd.at_int (Kd.V_reads' HO191.out).2.2 0 p196 q196;cases e196;have qi196:(0<t189.length)=True:=eq_true (by omega);(try rw[show ((0:Int)).toNat=0 from rfl] at hx196_0);(try rw[Addr.add_zero'] at hx196_0);replace p196:=eq_true p196;replace q196:=eq_true q196)|((with_reducible refine gate_callee (f:=111) rfl ?_);refine Sq.gl (some 38) Tryz.func111 #[.slice Ao25 t186.length co25,.int .u32 (rd t189 0)] ?_;(with_reducible refine (nat_small.calls k _ _ t186 (rd t189 0) t197 t200 _ ?side1 ?side2 A20.out).mono ?_);(case side1=>exact Sq.ca (Kd.V_reads' HO188.out).2.2);(case side2=>exact (Kd.V_reads' HO188.out).2.1);rintro e w27 ⟨v198,rfl,ho0,hb⟩;refine⟨_,rfl,?_⟩;replace HO0:=Aside0.mk (Kd.V_below (Sq.al HO0) hb);replace HO1:=Aside0.mk (Kd.V_below (Sq.al HO1) hb);replace HO188:=Aside0.mk (Kd.V_below (Sq.al HO188) hb);replace HO191:=Aside0.mk (Kd.V_below (Sq.al HO191) hb);have HO199:=Aside0.mk (Kd.V_lower (Kd.V_mono (ok':=fun k_=>((P0_ k_∨P1_ k_)∨w.heap.size≤k_)) ho0 (fun k_ hk_=>(.inr (Nat.le_trans (below_size (Sq.bl HB)) hk_)))) (below_size (Sq.bl HB)));replace HB:=Sq.bs HB hb;(try clear hb);(try clear hb2);(try clear hk);(try clear hi);(try clear ho0))|((with_reducible refine gate_dst (N:=43) rfl ?_);refine Kd.R_lit (Kd.int .u32) _ 88 ?hg (N:=43) ?hd (xs:=([t200]:List Int)) (inner:=[.int .u32 t200]) (ok:=fun _=>True) (okp:=fun _=>True) ?hr ?hp (fun _ hk=>hk) trivial (Below.refl _ _) (Nat.le_refl _) (by simp) ?_;(case hd=>rfl);(case hg=>rfl);(case hr=>first|(go_simp;done)|(go_simp;rfl));(case hp=>exact (Reps.one (show Kd.M (Kd.int .u32) _ _ _ t200 [.int .u32 t200] from rfl) (Reps.none _ _)));intro v202 w28 ho29 hb hg_ hnew_;clear hg_ hnew_;(first|rw[←Ny201.out] at ho29|(simp only[Int.reduceToNat] at ho29;rw[←Ny201.out] at ho29));replace HO0:=Aside0.mk (Kd.V_elder' (Sq.al HO0) (Kd.R_base ho29) hb);replace HO1:=Aside0.mk (Kd.V_elder' (Sq.al HO1) (Kd.R_base ho29) hb);replace HO188:=Aside0.mk (Kd.V_elder' (Sq.al HO188) (Kd.R_base ho29) hb);replace HO191:=Aside0.mk (Kd.V_elder' (Sq.al HO191) (Kd.R_base ho29) hb);replace HO199:=Aside0.mk (Kd.V_elder' (Sq.al HO199) (Kd.R_base ho29) hb);have HO203:=Aside0.mk (Kd.R_lower (Kd.R_newM (M:=fun k_=>(w.heap.size≤k_)) ho29 (below_size (Sq.bl HB)) (fun k_ h_=>h_)) (below_size (Sq.bl HB)));replace HB:=Sq.bs HB hb;clear hb ho29;obtain⟨Ao30,co30,eo30⟩:=Kd.R_slice HO203.out;subst eo30)|((with_reducible refine gate_callee (f:=86) rfl ?_);refine Sq.gl (some 44) Tryz.func86 #[.slice Ao30 y201.length co30] ?_;(with_reducible refine (nat_cut.calls k (fun k_=>some k_=(.slice Ao30 y201.length co30:Value).ownBlock) _ _ y201 t204 _ ?side1 A21.out).mono ?_);(case side1=>exact Kd.R_V (Kd.R_tight rfl (HO203.out)));rintro e w31 ⟨v205,rfl,ho0,hb⟩;refine⟨_,rfl,?_⟩;replace HO0:=Aside0.mk (Kd.V_below (Sq.al HO0) hb);replace HO1:=Aside0.mk (Kd.V_below (Sq.al HO1) hb);replace HO188:=Aside0.mk (Kd.V_below (Sq.al HO188) hb);replace HO191:=Aside0.mk (Kd.V_below (Sq.al HO191) hb);replace HO199:=Aside0.mk (Kd.V_below (Sq.al HO199) hb);have HO206:=Aside0.mk (Kd.V_lower (Kd.V_mono (ok':=fun k_=>((P0_ k_∨P1_ k_)∨w.heap.size≤k_)) ho0 (fun k_ hk_=>Or.elim hk_ (fun hs_=>(.inr (((HO203.out).1 k_ hs_.symm).1))) (fun hn_=>(.inr (Nat.le_trans (below_size (Sq.bl HB)) hn_))))) (below_size (Sq.bl HB)));replace HO203:=Aside0.mk (Kd.R_below (Sq.al HO203) hb);replace HB:=Sq.bs HB hb;(try clear hb);(try clear hb2);(try clear hk);(try clear hi);(try clear ho0)))
    go_ret3
    exact⟨_,_,by first|rfl|(simp[errW_none,errW_some]<;>rfl)|(simp[*,errW_none,errW_some]<;>rfl),by (with_reducible repeat (first|apply Kd.V_alloc|apply Kd.V_drewN|apply Kd.V_drew));exact Kd.V_mono HO199.out (fun _ hk=>hk.1),by (with_reducible repeat (first|apply Kd.V_alloc|apply Kd.V_drewN|apply Kd.V_drew));exact HO206.out,Sq.bl HB⟩
   ·rw[if_neg c18] at H
    have c18b0:((t189.length:Int)==1)=false:=beq_eq_false_iff_ne.mpr c18;have c18b1:((t189.length:Int) != 1)=true:=bne_iff_ne.mpr c18;obtain⟨ji32,hji32⟩:∃j_:Int,(wrap64 ((t189.length:Int)-1))=j_:=⟨_,rfl⟩
    (first|rw[hji32] at H|simp only[hji32] at H)
    (try rw[hji32] at A3)
    (try rw[hji32] at A4)
    (try rw[hji32] at A9)
    have hji32w:(IntKind.i64.wrap ((t189.length:Int)-1))=ji32:=(i64_w _).trans hji32;replace H:=Sq.ifs H;obtain⟨c33,H⟩:=H;have c33b0:decide (0≤(ji32))=true:=decide_eq_true c33;clear c33;replace H:=Sq.ifs H;obtain⟨c34,H⟩:=H;have c34b0:decide ((ji32)<(t189.length:Int))=true:=decide_eq_true c34;clear c34;replace H:=Sq.bd H;obtain⟨t208,A35,H⟩:=H
    (try dsimp -simprocs only at H)
    replace H:=Sq.bd H;obtain⟨t209,A36,H⟩:=H
    (try dsimp -simprocs only at H)
    replace H:=Sq.bd H;obtain⟨t212,A37,H⟩:=H
    (try dsimp -simprocs only at H)
    replace H:=Sq.ifs H;obtain⟨c38,H⟩:=H;have c38b0:=eq_true c38;have c38b1:decide (0≤(t189.length:Int))=true:=decide_eq_true c38;clear c38;replace H:=Sq.ifs H;obtain⟨c39,H⟩:=H;have c39b0:=eq_true c39;have c39b1:decide ((t189.length:Int)≤(t212.length:Int))=true:=decide_eq_true c39;clear c39;obtain⟨y215,hy215⟩:∃y_:List Int,y_=(t212.take ((t189.length:Int):Int).toNat):=⟨_,rfl⟩
    (first|(replace H:=Sq.ny hy215 H;(try dsimp -simprocs only at H))|rw[←hy215] at H|skip)
    have Ny215:=Aside0.mk hy215;clear hy215;obtain⟨ji40,hji40⟩:∃j_:Int,(wrap64 ((wrap64 ((t186.length:Int)-(t189.length:Int)))+1))=j_:=⟨_,rfl⟩
    (first|rw[hji40] at H|simp only[hji40] at H)
    (try rw[hji40] at A3)
    (try rw[hji40] at A4)
    (try rw[hji40] at A9)
    (try rw[hji40] at A35)
    (try rw[hji40] at A36)
    (try rw[hji40] at A37)
    have hji40w:(IntKind.i64.wrap ((wrap64 ((t186.length:Int)-(t189.length:Int)))+1))=ji40:=(i64_w _).trans hji40;replace H:=Sq.ifs H;obtain⟨c41,H⟩:=H;have c41b0:=eq_true c41;have c41b1:decide (0≤(ji40))=true:=decide_eq_true c41;clear c41;replace H:=Sq.ifs H;obtain⟨c42,H⟩:=H;have c42b0:=eq_true c42;have c42b1:decide ((ji40:Int).toNat≤70368744177664)=true:=decide_eq_true c42;clear c42;obtain⟨y219,hy219⟩:∃y_:List Int,y_=(List.replicate (ji40:Int).toNat 0):=⟨_,rfl⟩
    (first|(replace H:=Sq.ny hy219 H;(try dsimp -simprocs only at H))|rw[←hy219] at H|skip)
    have Ny219:=Aside0.mk hy219;clear hy219;have H':=Aside0.mk H;clear H;go_enter Tryz.func90,Tryz.ntmps90
    try go_wp2_with (first|((with_reducible refine gate_callee (f:=86) rfl ?_);refine Sq.gl (some 15) Tryz.func86 #[.slice A0 l0.length c0] ?_;(with_reducible refine (nat_cut.calls k (fun k_=>((P0_ k_∨P1_ k_)∨w.heap.size≤k_)) _ _ l0 t186 _ ?side1 A3.out).mono ?_);(case side1=>exact HO0.out);rintro e w43 ⟨v187,rfl,ho0,hb⟩;refine⟨_,rfl,?_⟩;replace HO0:=Aside0.mk (Kd.V_below (Sq.al HO0) hb);replace HO1:=Aside0.mk (Kd.V_below (Sq.al HO1) hb);have HO188:=Aside0.mk (Kd.V_lower (Kd.V_mono (ok':=fun k_=>((P0_ k_∨P1_ k_)∨w.heap.size≤k_)) ho0 (fun k_ hk_=>Or.elim hk_ (fun hs_=>hs_) (fun hn_=>(.inr (Nat.le_trans (below_size (Sq.bl HB)) hn_))))) (below_size (Sq.bl HB)));replace HB:=Sq.bs HB hb;(try clear hb);(try clear hb2);(try clear hk);(try clear hi);(try clear ho0))|((with_reducible refine gate_callee (f:=86) rfl ?_);refine Sq.gl (some 17) Tryz.func86 #[.slice A1 l1.length c1] ?_;(with_reducible refine (nat_cut.calls k (fun k_=>((P0_ k_∨P1_ k_)∨w.heap.size≤k_)) _ _ l1 t189 _ ?side1 A4.out).mono ?_);(case side1=>exact HO1.out);rintro e w44 ⟨v190,rfl,ho0,hb⟩;refine⟨_,rfl,?_⟩;replace HO0:=Aside0.mk (Kd.V_below (Sq.al HO0) hb);replace HO1:=Aside0.mk (Kd.V_below (Sq.al HO1) hb);replace HO188:=Aside0.mk (Kd.V_below (Sq.al HO188) hb);have HO191:=Aside0.mk (Kd.V_lower (Kd.V_mono (ok':=fun k_=>((P0_ k_∨P1_ k_)∨w.heap.size≤k_)) ho0 (fun k_ hk_=>Or.elim hk_ (fun hs_=>hs_) (fun hn_=>(.inr (Nat.le_trans (below_size (Sq.bl HB)) hn_))))) (below_size (Sq.bl HB)));replace HB:=Sq.bs HB hb;(try clear hb);(try clear hb2);(try clear hk);(try clear hi);(try clear ho0);obtain⟨Ao45,co45,eo45⟩:=Kd.V_slice HO191.out;subst eo45;obtain⟨Ao46,co46,eo46⟩:=Kd.V_slice HO188.out;subst eo46)|((with_reducible refine gate_callee (f:=63) rfl ?_);refine Sq.gl (some 25) Tryz.func63 #[.slice Ao46 t186.length co46,.slice Ao45 t189.length co45] ?_;(with_reducible refine (nat_Cmp.calls k _ _ t186 _ _ t189 t192 _ ?side1 ?side2 ?side3 ?side4 A9.out).mono ?_);(case side1=>exact Sq.ca (Kd.V_reads' HO188.out).2.2);(case side2=>exact (Kd.V_reads' HO188.out).2.1);(case side3=>exact Sq.ca (Kd.V_reads' HO191.out).2.2);(case side4=>exact (Kd.V_reads' HO191.out).2.1);rintro e w47 ⟨rfl,hb⟩;refine⟨_,rfl,?_⟩;replace HO0:=Aside0.mk (Kd.V_below (Sq.al HO0) hb);replace HO1:=Aside0.mk (Kd.V_below (Sq.al HO1) hb);replace HO188:=Aside0.mk (Kd.V_below (Sq.al HO188) hb);replace HO191:=Aside0.mk (Kd.V_below (Sq.al HO191) hb);replace HB:=Sq.bs HB hb;(try clear hb);(try clear hb2);(try clear hk);(try clear hi);have p207:0≤((ji32):Int):=of_decide_eq_true (by first|(with_reducible assumption)|assumption);have q207:(ji32)<(t189.length:Int):=of_decide_eq_true (by first|(with_reducible assumption)|assumption);obtain⟨ad207,e207,hx207_0⟩:=Kd.at_int (Kd.V_reads' HO191.out).2.2 (ji32) p207 q207;cases e207;replace p207:=eq_true p207;replace q207:=eq_true q207)|((with_reducible refine gate_callee (f:=112) rfl ?_);refine goesL_ (some 51) rfl rfl Tryz.func112 (by kernel_rfl) rfl #[.int .u32 (rd t189 (ji32))] rfl (by (try simp only[List.map_toArray,List.map_cons,List.map_nil]);first|done|(simp only[hji32];rfl)|rfl|(simp only[List.length_drop,List.length_take];rfl)) ?_;(with_reducible refine (bits_LeadingZeros32.calls (rd t189 (ji32)) t208 _ A35.out).mono ?_);rintro e w' ⟨rfl,⟨nd,rfl⟩⟩;refine⟨_,rfl,?_⟩))
    (try (rw[drewN_self w47];generalize hq_:World.drewN w47 _=w47;replace HO0:Aside0 (Kd.V (Kd.int .u32) 88 w47 w.heap.size (fun k_=>((P0_ k_∨P1_ k_)∨w.heap.size≤k_)) (.slice A0 l0.length c0) l0):=⟨by rw[←hq_];exact (Sq.al HO0)⟩;replace HO1:Aside0 (Kd.V (Kd.int .u32) 88 w47 w.heap.size (fun k_=>((P0_ k_∨P1_ k_)∨w.heap.size≤k_)) (.slice A1 l1.length c1) l1):=⟨by rw[←hq_];exact (Sq.al HO1)⟩;replace HO188:Aside0 (Kd.V (Kd.int .u32) 88 w47 w.heap.size (fun k_=>((P0_ k_∨P1_ k_)∨w.heap.size≤k_)) (.slice Ao46 t186.length co46) t186):=⟨by rw[←hq_];exact (Sq.al HO188)⟩;replace HO191:Aside0 (Kd.V (Kd.int .u32) 88 w47 w.heap.size (fun k_=>((P0_ k_∨P1_ k_)∨w.heap.size≤k_)) (.slice (some ad207) t189.length co45) t189):=⟨by rw[←hq_];exact (Sq.al HO191)⟩;replace HB:Aside0 (Below w.heap.size w w47):=⟨by rw[←hq_];exact (Sq.bl HB)⟩;clear hq_))
    replace HO0:=Aside0.mk (Kd.V_drew HO0.out);replace HO1:=Aside0.mk (Kd.V_drew HO1.out);replace HO188:=Aside0.mk (Kd.V_drew HO188.out);replace HO191:=Aside0.mk (Kd.V_drew HO191.out);replace HB:=Aside0.mk (below_drew1 HB.out);refine start_ (n:=11) (S:=fun w'=>True) (ds:=[]) #[false,false,false,false,false,false,false,false,false,false,false] (by kernel_rfl) rfl rfl trivial (fun hHeld=>?_);refine with_tabW nat_Div.tab10 nat_Div.bits10 (fun HT_ HW_=>?_)
    generalize w47.drew=w48 at HO0 HO1 HO188 HO191 HB hHeld ⊢;refine Sq.pu (v:=?_) (a':=?_) 0 (some 52) #[true,false,false,false,false,false,false,false,false,false,false] HT_ ?_ ?_ ?_
    rotate_left
    ·intro w'
     go_simp
     with_reducible rfl
    rotate_left
    ·simp only[Act.put,List.setIfInBounds_toArray,List.set_cons_zero,List.set_cons_succ,i64_w,i32_w]
     rfl
    refine Sq.pu (v:=?_) (a':=?_) 1 (some 53) #[true,true,false,false,false,false,false,false,false,false,false] HT_ ?_ ?_ ?_
    rotate_left
    ·intro w'
     go_simp
     with_reducible rfl
    rotate_left
    ·simp only[Act.put,List.setIfInBounds_toArray,List.set_cons_zero,List.set_cons_succ,i64_w,i32_w]
     rfl
    refine Sq.pu (v:=?_) (a':=?_) 3 (some 55) #[true,true,false,true,false,false,false,false,false,false,false] HT_ ?_ ?_ ?_
    rotate_left
    ·intro w'
     go_simp
     with_reducible rfl
    rotate_left
    ·simp only[Act.put,List.setIfInBounds_toArray,List.set_cons_zero,List.set_cons_succ,i64_w,i32_w]
     rfl
    refine Sq.pu (v:=?_) (a':=?_) 4 (some 56) #[true,true,false,true,true,false,false,false,false,false,false] HT_ ?_ ?_ ?_
    rotate_left
    ·intro w'
     go_simp
     with_reducible rfl
    rotate_left
    ·simp only[Act.put,List.setIfInBounds_toArray,List.set_cons_zero,List.set_cons_succ,i64_w,i32_w]
     rfl
    refine Sq.pu (v:=?_) (a':=?_) 6 (some 58) #[true,true,false,true,true,false,true,false,false,false,false] HT_ ?_ ?_ ?_
    rotate_left
    ·intro w'
     go_simp
     with_reducible rfl
    rotate_left
    ·simp only[Act.put,List.setIfInBounds_toArray,List.set_cons_zero,List.set_cons_succ,i64_w,i32_w]
     rfl
    refine Sq.pu (v:=?_) (a':=?_) 7 (some 59) #[true,true,false,true,true,false,true,true,false,false,false] HT_ ?_ ?_ ?_
    rotate_left
    ·intro w'
     go_simp
     with_reducible rfl
    rotate_left
    ·simp only[Act.put,List.setIfInBounds_toArray,List.set_cons_zero,List.set_cons_succ,i64_w,i32_w]
     rfl
    refine one_ (i:=2) (N:=some 54) #[true,true,true,true,true,false,true,true,false,false,false] rfl rfl (one_of HT_.out (by kernel_rfl)) (by decide) (fun K hK=>?_)
    refine goes_ Tryz.func113 (by kernel_rfl) rfl #[.slice Ao46 t186.length co46,.int .i64 t208] (by rfl) rfl rfl (by (try simp only[List.map_toArray,List.map_cons,List.map_nil]);first|done|rfl|(simp only[List.length_drop,List.length_take];rfl)) ?_
    with_reducible refine (nat_left.calls k _ _ t186 t208 t209 _ ?side1 ?side2 A36.out).mono ?_
    (case side1=>exact Sq.ca (Kd.V_reads' HO188.out).2.2)
    (case side2=>exact (Kd.V_reads' HO188.out).2.1)
    rintro e w49 ⟨v210,rfl,ho0,hb⟩
    refine⟨_,rfl,?_⟩
    replace HO0:=Aside0.mk (Kd.V_elder' (Sq.al HO0) (Kd.R_base ho0) hb);replace HO1:=Aside0.mk (Kd.V_elder' (Sq.al HO1) (Kd.R_base ho0) hb);replace HO188:=Aside0.mk (Kd.V_elder' (Sq.al HO188) (Kd.R_base ho0) hb);replace HO191:=Aside0.mk (Kd.V_elder' (Sq.al HO191) (Kd.R_base ho0) hb);have HO211:=Aside0.mk (Kd.R_lower (Kd.R_newM (M:=fun k_=>(w.heap.size≤k_)) ho0 (below_size (Sq.bl HB)) (fun k_ h_=>h_)) (below_size (Sq.bl HB)));replace HB:=Sq.bs HB hb
    (try clear hb)
    (try clear hb2)
    (try clear hk)
    (try clear hi)
    (try clear ho0)
    refine hK.out _ _ trivial (fun hHeld=>?_)
    clear hK K;refine norm_ (a':=?_) ?_ ?_
    rotate_left
    ·show Act.put _ (some 54) _=_
     simp only[Act.put,List.setIfInBounds_toArray,List.set_cons_zero,List.set_cons_succ,i64_w,i32_w];rfl
    refine one_ (i:=5) (N:=some 57) #[true,true,true,true,true,true,true,true,false,false,false] rfl rfl (one_of HT_.out (by kernel_rfl)) (by decide) (fun K hK=>?_)
    refine goes_ Tryz.func113 (by kernel_rfl) rfl #[.slice (some ad207) t189.length co45,.int .i64 t208] (by rfl) rfl rfl (by (try simp only[List.map_toArray,List.map_cons,List.map_nil]);first|done|rfl|(simp only[List.length_drop,List.length_take];rfl)) ?_
    with_reducible refine (nat_left.calls k _ _ t189 t208 t212 _ ?side1 ?side2 A37.out).mono ?_
    (case side1=>exact Sq.ca (Kd.V_reads' HO191.out).2.2)
    (case side2=>exact (Kd.V_reads' HO191.out).2.1)
    rintro e w50 ⟨v213,rfl,ho0,hb⟩
    refine⟨_,rfl,?_⟩
    replace HO0:=Aside0.mk (Kd.V_elder' (Sq.al HO0) (Kd.R_base ho0) hb);replace HO1:=Aside0.mk (Kd.V_elder' (Sq.al HO1) (Kd.R_base ho0) hb);replace HO188:=Aside0.mk (Kd.V_elder' (Sq.al HO188) (Kd.R_base ho0) hb);replace HO191:=Aside0.mk (Kd.V_elder' (Sq.al HO191) (Kd.R_base ho0) hb);have HO214:=Aside0.mk (Kd.R_lower (Kd.R_new' (Kd.R_newM (M:=fun k_=>(w.heap.size≤k_)) ho0 (below_size (Sq.bl HB)) (fun k_ h_=>h_)) (Kd.R_lt (Sq.al HO211))) (below_size (Sq.bl HB)));replace HO211:=Aside0.mk (Kd.R_elder' (Sq.al HO211) (Kd.R_base ho0) hb);replace HB:=Sq.bs HB hb
    (try clear hb)
    (try clear hb2)
    (try clear hk)
    (try clear hi)
    (try clear ho0)
    obtain⟨Ao52,co52,eo52⟩:=Kd.R_slice HO214.out
    (first|subst eo52|(injection eo52 with f1_ f2_ f3_;have f4_:=f1_.symm;have f5_:=f3_.symm;clear f1_ f2_ f3_;subst f4_;subst f5_))
    have q51:((t189.length:Int):Int)≤((t212.length:Int):Int):=of_decide_eq_true (by first|(with_reducible assumption)|assumption);obtain⟨i051,hi051,_,hsz51,_⟩:=info_parts info88;have hroom51:t212.length≤co52:=(Kd.R_reads' HO214.out).2.1;have hC51:Kd.C (Kd.int .u32) _ Ao52 t212.length t212:=(Kd.R_reads' HO214.out).2.2;have hcut51:=cut_to (P:=Tryz.prog) 22 88 .i64 Tryz.underlying22 hi051 Ao52 t212.length co52 (t189.length:Int) (of_decide_eq_true (by first|(with_reducible assumption)|assumption)) q51 hroom51;have hr51:=Kd.C_take (m:=((t189.length:Int):Int).toNat) hC51 (by omega);have hy51:y215.length=((t189.length:Int):Int).toNat:=(by rw[Ny215.out,List.length_take];omega);rw[←Ny215.out] at hr51;rw[←hy51] at hcut51;have HR218:=Aside0.mk hr51;have HC218:=Aside0.mk (show y215.length≤co52 from by omega);clear hr51 hC51 hroom51 hi051 hsz51;have KY51:=Aside0.mk hy51;clear hy51;have KL51:=Aside0.mk (show ((t189.length:Int):Int).toNat≤t212.length from by omega);replace q51:=eq_true q51;refine hK.out _ _ trivial (fun hHeld=>?_)
    clear hK K;refine norm_ (a':=?_) ?_ ?_
    rotate_left
    ·show Act.put _ (some 57) _=_
     simp only[Act.put,List.setIfInBounds_toArray,List.set_cons_zero,List.set_cons_succ,i64_w,i32_w];rfl
    refine Sq.pu (v:=?_) (a':=?_) 8 (some 60) #[true,true,true,true,true,true,true,true,true,false,false] HT_ ?_ ?_ ?_
    rotate_left
    ·intro w'
     go_simp
     with_reducible rfl
    rotate_left
    ·simp only[Act.put,List.setIfInBounds_toArray,List.set_cons_zero,List.set_cons_succ,i64_w,i32_w]
     rfl
    refine Sq.pu (v:=?_) (a':=?_) 9 (some 10) #[true,true,true,true,true,true,true,true,true,true,false] HT_ ?_ ?_ ?_
    rotate_left
    ·intro w'
     go_simp
     with_reducible rfl
    rotate_left
    ·simp only[Act.put,List.setIfInBounds_toArray,List.set_cons_zero,List.set_cons_succ,i64_w,i32_w]
     rfl
    refine Sq.pu (v:=?_) (a':=?_) 10 (some 11) #[true,true,true,true,true,true,true,true,true,true,true] HT_ ?_ ?_ ?_
    rotate_left
    ·intro w'
     go_simp
     with_reducible rfl
    rotate_left
    ·simp only[Act.put,List.setIfInBounds_toArray,List.set_cons_zero,List.set_cons_succ,i64_w,i32_w]
     rfl
    refine done_ (done_of HT_.out (by kernel_rfl)) ?_
    try go_wp2_with (first|((with_reducible refine gate_dst (N:=67) rfl ?_);refine Kd.R_make (Kd.int .u32) _ 88 rfl (N:=67) rfl 22 _ _ rfl ji40 rfl rfl Tryz.underlying22 (.int .u32 0) 4 info88 rfl (by decide) (by omega) 0 (ok:=fun _=>True) (okp:=fun _=>True) rfl (fun _ hk=>hk) trivial (of_decide_eq_true (by first|(with_reducible assumption)|assumption)) (Nat.le_trans (Nat.mul_le_mul_right _ (of_decide_eq_true (by first|(with_reducible assumption)|assumption):ji40.toNat≤70368744177664)) (by omega)) (Below.refl _ _) (Nat.le_refl _) ?_;intro v220 w53 ho54 hb hg_ hnew_;clear hg_ hnew_;(first|rw[←Ny219.out] at ho54|(simp only[Int.reduceToNat] at ho54;rw[←Ny219.out] at ho54));replace HO0:=Aside0.mk (Kd.V_elder' (Sq.al HO0) (Kd.R_base ho54) hb);replace HO1:=Aside0.mk (Kd.V_elder' (Sq.al HO1) (Kd.R_base ho54) hb);replace HO188:=Aside0.mk (Kd.V_elder' (Sq.al HO188) (Kd.R_base ho54) hb);replace HO191:=Aside0.mk (Kd.V_elder' (Sq.al HO191) (Kd.R_base ho54) hb);have HO221:=Aside0.mk (Kd.R_lower (Kd.R_new' (Kd.R_new' (Kd.R_newM (M:=fun k_=>(w.heap.size≤k_)) ho54 (below_size (Sq.bl HB)) (fun k_ h_=>h_)) (Kd.R_lt (Sq.al HO211))) (Kd.R_lt (Sq.al HO214))) (below_size (Sq.bl HB)));replace HR218:=Aside0.mk (Kd.C_below (by repeat (first|(with_reducible exact HR218.out)|(with_reducible refine Kd.C_alloc ?_ _)|(with_reducible refine Kd.C_drewN ?_ _)|(with_reducible refine Kd.C_drew ?_)|exact HR218.out)) hb);replace HO211:=Aside0.mk (Kd.R_elder' (Sq.al HO211) (Kd.R_base ho54) hb);replace HO214:=Aside0.mk (Kd.R_elder' (Sq.al HO214) (Kd.R_base ho54) hb);replace HB:=Sq.bs HB hb;clear hb ho54;obtain⟨Ao55,co55,eo55⟩:=Kd.R_slice HO221.out;subst eo55))
    have HT:=Aside0.mk (show Kd.R (Kd.int .u32) 88 _ _ _ (.slice Ao52 y215.length co52) y215 from by have h_:=Kd.R_take (m:=((t189.length:Int):Int).toNat) HO214.out KL51.out;rw[←Ny215.out,←KY51.out] at h_;exact h_)
    go_loopg [13] k (fun kq v13 w'=>∃(x10_1:List Int) (x12_1:List Int) (x13_1:Int),v13=.int .i64 x13_1∧Aside0 (nat_Div.l0 kq t189 t208 x10_1 y215 x12_1 x13_1=some (r1,r2,r3))∧Aside0 (kq≤k)∧Aside0 (Kd.V (Kd.int .u32) 88 w' w.heap.size (fun k_=>((P0_ k_∨P1_ k_)∨w.heap.size≤k_)∧some k_≠(v210:Value).ownBlock∧some k_≠((.slice Ao55 y219.length co55):Value).ownBlock) (.slice (some ad207) t189.length co45) t189)∧Aside0 (Kd.V (Kd.int .u32) 88 w' w.heap.size (fun k_=>((P0_ k_∨P1_ k_)∨w.heap.size≤k_)∧some k_≠(v210:Value).ownBlock∧some k_≠((.slice Ao55 y219.length co55):Value).ownBlock) (.slice Ao52 y215.length co52) y215)∧Aside0 (Kd.R (Kd.int .u32) 88 w' w.heap.size (fun k_=>(w.heap.size≤k_)∧some k_≠((.slice Ao55 y219.length co55):Value).ownBlock) v210 x10_1)∧Aside0 (Kd.R (Kd.int .u32) 88 w' w.heap.size (fun k_=>(w.heap.size≤k_)∧some k_≠(v210:Value).ownBlock) (.slice Ao55 y219.length co55) x12_1)∧Aside0 (Below w.heap.size w w'))
    case atStart=>exact⟨(t209),(y219),(wrap64 ((y219.length:Int)-1)),(by first|rfl|(simp;done)|(simp[*];done)),H',⟨Nat.le_refl _⟩,⟨by (with_reducible repeat (first|apply Kd.V_alloc|apply Kd.V_drewN|apply Kd.V_drew));exact Kd.V_mono HO191.out (fun _ hk=>⟨hk.1.1.1,⟨hk.1.1.2,hk.2⟩⟩)⟩,⟨Kd.V_mono (Kd.R_V (base':=w.heap.size) HT.out) (fun k_ hk=>⟨.inr hk.1.1.1,hk.1.2,hk.2⟩)⟩,⟨by (with_reducible repeat (first|apply Kd.R_alloc|apply Kd.R_drewN|apply Kd.R_drew));exact Kd.R_mono HO211.out (fun _ hk=>⟨hk.1.1.1,hk.2⟩)⟩,⟨by (with_reducible repeat (first|apply Kd.R_alloc|apply Kd.R_drewN|apply Kd.R_drew));exact Kd.R_mono HO221.out (fun _ hk=>⟨hk.1.1.1,hk.1.2⟩)⟩,⟨Sq.bl HB⟩⟩
    case round =>
     clear H'
     try clear c1
     try clear p1
     try clear q1
     try clear hx1
     try clear qi1
     try clear p2
     try clear q2
     try clear hx2
     try clear c3
     try clear c4
     try clear c5
     try clear c5b0
     try clear c5b1
     try clear c5b2
     try clear q5
     try clear c6
     try clear p6
     try clear c8
     try clear c9
     try clear c10
     try clear c10b0
     try clear c11
     try clear c18
     try clear c18b0
     try clear c18b1
     try clear c19
     try clear c19b0
     try clear c19b1
     try clear p19
     try clear q19
     try clear hx19
     try clear qi19
     try clear p20
     try clear q20
     try clear hx20
     try clear c33
     try clear c33b0
     try clear c34
     try clear c34b0
     try clear c38
     try clear c38b0
     try clear c38b1
     try clear c39
     try clear c39b0
     try clear c39b1
     try clear c41
     try clear c41b0
     try clear c41b1
     try clear c42
     try clear c42b0
     try clear c42b1
     try clear q51
     try clear hx196_0
     try clear hx207_0
     try clear p196
     try clear p207
     try clear q196
     try clear q207
     try clear q51
     obtain⟨x10_1,x12_1,x13_1,rfl,HA,HK1,HO_1,HX,HO_10,HO_12,HB⟩:=hrel;have hl12_1:=(Kd.R_reads' HO_12.out).1;rw[hl12_1] at HO_12
     (try simp only[hl12_1])
     (try simp only[hl12_1] at HO_1)
     (try simp only[hl12_1] at HX)
     (try simp only[hl12_1] at HO_10)
     cases gk with
     |zero=>exact absurd HA.out (by simp[nat_Div.l0])
     |succ k1 =>
      have H:=HA.out;clear HA;simp only[nat_Div.l0] at H;by_cases c56:x13_1≥0
      ·rw[if_pos c56] at H
       have c56b0:decide (0≤x13_1)=true:=decide_eq_true c56;clear c56;replace H:=Sq.bd H;obtain⟨t222,A57,H⟩:=H
       (try dsimp -simprocs only at H)
       replace H:=Sq.bd H;obtain⟨⟨t223,t224⟩,A58,H⟩:=H
       (try dsimp -simprocs only at H)
       replace H:=Sq.ifs H;obtain⟨c59,H⟩:=H;have c59b0:decide (0≤x13_1)=true:=decide_eq_true c59;clear c59;replace H:=Sq.ifs H;obtain⟨c60,H⟩:=H;have c60b0:decide (x13_1<(x12_1.length:Int))=true:=decide_eq_true c60;clear c60;obtain⟨y225,hy225⟩:∃y_:List Int,y_=(x12_1.set (x13_1:Int).toNat t223):=⟨_,rfl⟩
       (first|(replace H:=Sq.ny hy225 H;(try dsimp -simprocs only at H))|rw[←hy225] at H|skip)
       have Ny225:=Aside0.mk hy225;clear hy225;have H':=Aside0.mk H;clear H;obtain⟨Ao62,co62,eo62⟩:=Kd.R_slice HO_10.out;subst eo62;go_wp2_with (first|((with_reducible refine gate_callee (f:=115) rfl ?_);refine Sq.gl (some 83) Tryz.func115 #[.slice Ao62 x10_1.length co62,(.slice Ao52 y215.length co52),.int .i64 x13_1] ?_;(with_reducible refine (nat_guess.calls k1 _ _ x10_1 _ _ y215 x13_1 t222 _ ?side1 ?side2 ?side3 ?side4 A57.out).mono ?_);(case side1=>exact Sq.ca (Kd.R_reads' HO_10.out).2.2);(case side2=>exact (Kd.R_reads' HO_10.out).2.1);(case side3=>exact Sq.ca (Kd.V_reads' HX.out).2.2);(case side4=>exact HC218.out);rintro e w' ⟨rfl,⟨nd,rfl⟩⟩;refine⟨_,rfl,?_⟩;(try (rw[drewN_self wr];generalize hq_:World.drewN wr _=wr;have n0_:Aside0 (Kd.V (Kd.int .u32) 88 wr w.heap.size (fun k_=>((P0_ k_∨P1_ k_)∨w.heap.size≤k_)∧some k_≠(.slice Ao62 x10_1.length co62:Value).ownBlock∧some k_≠(.slice Ao55 x12_1.length co55:Value).ownBlock) (.slice (some ad207) t189.length co45) t189):=⟨by rw[←hq_];exact (Sq.al HO_1)⟩;have nX_:Aside0 (Kd.V (Kd.int .u32) 88 wr w.heap.size (fun k_=>((P0_ k_∨P1_ k_)∨w.heap.size≤k_)∧some k_≠(.slice Ao62 x10_1.length co62:Value).ownBlock∧some k_≠(.slice Ao55 x12_1.length co55:Value).ownBlock) (.slice Ao52 y215.length co52) y215):=⟨by rw[←hq_];exact (Sq.al HX)⟩;have n1_:Aside0 (Kd.R (Kd.int .u32) 88 wr w.heap.size (fun k_=>(w.heap.size≤k_)∧some k_≠(.slice Ao55 x12_1.length co55:Value).ownBlock) (.slice Ao62 x10_1.length co62) x10_1):=⟨by rw[←hq_];exact (Sq.al HO_10)⟩;have n2_:Aside0 (Kd.R (Kd.int .u32) 88 wr w.heap.size (fun k_=>(w.heap.size≤k_)∧some k_≠(.slice Ao62 x10_1.length co62:Value).ownBlock) (.slice Ao55 x12_1.length co55) x12_1):=⟨by rw[←hq_];exact (Sq.al HO_12)⟩;have n3_:Aside0 (Below w.heap.size w wr):=⟨by rw[←hq_];exact (Sq.bl HB)⟩;clear HO_1 HO_10 HO_12 HB hq_;have HO_1:=n0_;clear HX;have HX:=nX_;clear nX_;have HO_10:=n1_;have HO_12:=n2_;have HB:=n3_;clear n0_ n1_ n2_ n3_)))|((with_reducible refine gate_callee (f:=114) rfl ?_);refine Sq.gl (some 84) Tryz.func114 #[.slice Ao62 x10_1.length co62,(.slice Ao52 y215.length co52),.int .i64 x13_1,.int .u64 t222] ?_;(with_reducible refine (nat_take.calls k1 (fun k_=>some k_=(.slice Ao62 x10_1.length co62:Value).ownBlock) (.slice Ao62 x10_1.length co62) x10_1 _ _ y215 x13_1 t222 t223 t224 w _ ?side1 ?side2 ?side3 ?side4 A58.out).mono ?_);(case side1=>repeat (first|(with_reducible first|exact HB.out|apply below_alloc|apply pw_below_drewN|apply below_drew1)|exact HB.out));(case side2=>exact Kd.R_tight rfl HO_10.out);(case side3=>exact Kd.C_kept_ownV HX.out (fun k_ hk_ hs_=>(hk_.2.1) hs_));(case side4=>exact HC218.out);rintro e w63 ⟨rfl,hy0,hb,hkp⟩;refine⟨_,rfl,?_⟩;have n0_:=Aside0.mk (Kd.V_mono (ok':=fun k_=>((P0_ k_∨P1_ k_)∨w.heap.size≤k_)∧some k_≠(.slice Ao62 x10_1.length co62:Value).ownBlock∧some k_≠(.slice Ao55 x12_1.length co55:Value).ownBlock) (Kd.V_keptB (HO_1.out) hkp (fun k_ hk_ hs_=>(hk_.2.1) hs_)) (fun k_ hk_=>⟨hk_.1.1,hk_.1.2.1,hk_.1.2.2⟩));have nX_:=Aside0.mk (Kd.V_mono (ok':=fun k_=>((P0_ k_∨P1_ k_)∨w.heap.size≤k_)∧some k_≠(.slice Ao62 x10_1.length co62:Value).ownBlock∧some k_≠(.slice Ao55 x12_1.length co55:Value).ownBlock) (Kd.V_keptB (HX.out) hkp (fun k_ hk_ hs_=>(hk_.2.1) hs_)) (fun k_ hk_=>⟨hk_.1.1,hk_.1.2.1,hk_.1.2.2⟩));have n1_:=Aside0.mk (Kd.R_reok rfl hy0 (fun k_ e_=>HO_10.out.1 k_ e_));have n2_:=Aside0.mk (Kd.R_mono (ok':=fun k_=>(w.heap.size≤k_)∧some k_≠(.slice Ao62 x10_1.length co62:Value).ownBlock) (Kd.R_keptB (HO_12.out) hkp (fun k_ hk_ hs_=>(hk_.2) hs_)) (fun k_ hk_=>⟨hk_.1.1,hk_.1.2⟩));have n3_:=Aside0.mk (hb);clear HO_1;clear HO_10;clear HO_12;clear HB;have HO_1:=n0_;clear HX;have HX:=nX_;clear nX_;have HO_10:=n1_;have HO_12:=n2_;have HB:=n3_;clear n0_ n1_ n2_ n3_;(try clear hb);(try clear hkp);(try clear hy0);have p61:0≤(x13_1:Int):=of_decide_eq_true (by first|(with_reducible assumption)|assumption);have q61:(x13_1:Int)<((x12_1.length:Int):Int):=of_decide_eq_true (by first|(with_reducible assumption)|assumption);obtain⟨go61,co61,eo61,gb61,gl61,cl61,HG61⟩:=Kd.R_form HO_12.out (by omega);(first|cases eo61|(injection eo61 with ea_ en_ ec_;(first|subst ea_|(injection ea_ with ea_;subst ea_));subst ec_;clear en_));have GB61:=Aside0.mk gb61;have GG61:=Aside0.mk HG61;clear gb61 gl61 HG61;obtain⟨hx61_0,hf61_0⟩:=Kd.R_celln 0 HO_12.out (x13_1:Int) p61 q61;replace p61:=eq_true p61;replace q61:=eq_true q61;obtain⟨hy64_,hz64_⟩:=Kd.R_celln 0 HO_12.out (x13_1:Int) (of_decide_eq_true (by first|(with_reducible assumption)|assumption)) (of_decide_eq_true (by first|(with_reducible assumption)|assumption));have HP64:=Kd.R_putg HO_12.out (x13_1:Int) t223)|((with_reducible refine gate_store (t:=88) (p:=85) rfl ?_);refine store_event (t:=88) (p:=85) (v:=?vo_w65) (w1:=(w63.setCell ⟨go61,(x13_1:Int).toNat,none⟩ (.int .u32 t223))) ?hg ?ho ?hn ?hr ?_;(case ho=>rfl);(case hg=>rfl);(case hn=>rfl);(case hr=>first|(go_simp;done)|(go_simp;rfl));intro w65 hw;have hg:w63.grownBy w65 (some go61):=(by rw[hw];exact HP64.2);have hp_:Kd.R (Kd.int .u32) 88 w65 w.heap.size (fun k_=>(w.heap.size≤k_)∧some k_≠(.slice Ao62 x10_1.length co62:Value).ownBlock) (.slice (some ⟨go61,0,none⟩) x12_1.length co55) y225:=(by rw[hw,Ny225.out];exact HP64.1);clear HP64;have n0_:=Aside0.mk (Kd.V_afterv (v:=(.slice (some ⟨go61,0,none⟩) x12_1.length co55)) (v1:=(.slice (some ⟨go61,0,none⟩) x12_1.length co55)) (ok:=(fun k_=>((P0_ k_∨P1_ k_)∨w.heap.size≤k_)∧some k_≠(.slice Ao62 x10_1.length co62:Value).ownBlock)) (by (with_reducible repeat (first|apply Kd.V_alloc|apply Kd.V_drewN|apply Kd.V_drew));exact Kd.V_mono HO_1.out (fun _ hk=>⟨⟨hk.1,hk.2.1⟩,hk.2.2⟩)) hg (.inl rfl));have nX_:=Aside0.mk (Kd.V_afterv (v:=(.slice (some ⟨go61,0,none⟩) x12_1.length co55)) (v1:=(.slice (some ⟨go61,0,none⟩) x12_1.length co55)) (ok:=(fun k_=>((P0_ k_∨P1_ k_)∨w.heap.size≤k_)∧some k_≠(.slice Ao62 x10_1.length co62:Value).ownBlock)) (by (with_reducible repeat (first|apply Kd.V_alloc|apply Kd.V_drewN|apply Kd.V_drew));exact Kd.V_mono HX.out (fun _ hk=>⟨⟨hk.1,hk.2.1⟩,hk.2.2⟩)) hg (.inl rfl));have n1_:=Aside0.mk (Kd.R_after (v:=(.slice (some ⟨go61,0,none⟩) x12_1.length co55)) (v1:=(.slice (some ⟨go61,0,none⟩) x12_1.length co55)) (ok:=(fun k_=>(w.heap.size≤k_))) (Sq.al HO_10) hg (.inl rfl));have n2_:=Aside0.mk (hp_);have n3_:=Aside0.mk ((by rw[hw];exact below_set (HB.out) GB61.out:Below w.heap.size w w65));clear HO_1;clear HO_10;clear HO_12;clear HB;have HO_1:=n0_;clear HX;have HX:=nX_;clear nX_;have HO_10:=n1_;have HO_12:=n2_;have HB:=n3_;clear n0_ n1_ n2_ n3_;clear hg hw hp_))
       (try simp only[←hl12_1])
       go_roundg k1
       case measure=>have:=HK1.out;omega
       case rel=>exact⟨(t224),(y225),(wrap64 (x13_1-1)),(by first|rfl|(simp;done)|(simp[*];done)),H',⟨by have:=HK1.out;omega⟩,⟨by (try simp only[hl12_1]);(with_reducible repeat (first|apply Kd.V_alloc|apply Kd.V_drewN|apply Kd.V_drew));exact Kd.V_mono HO_1.out (fun _ hk=>⟨hk.1.1,⟨hk.1.2,hk.2⟩⟩)⟩,⟨by (try simp only[hl12_1]);(with_reducible repeat (first|apply Kd.V_alloc|apply Kd.V_drewN|apply Kd.V_drew));exact Kd.V_mono HX.out (fun _ hk=>⟨hk.1.1,⟨hk.1.2,hk.2⟩⟩)⟩,⟨by (try simp only[hl12_1]);(with_reducible repeat (first|apply Kd.R_alloc|apply Kd.R_drewN|apply Kd.R_drew));exact HO_10.out⟩,⟨by (try simp only[hl12_1]);(with_reducible repeat (first|apply Kd.R_alloc|apply Kd.R_drewN|apply Kd.R_drew));exact HO_12.out⟩,⟨Sq.bl HB⟩⟩
      ·rw[if_neg c56] at H
       have c56b0:decide (0≤x13_1)=false:=decide_eq_false c56;clear c56;replace H:=Sq.bd H;obtain⟨t226,A66,H⟩:=H
       (try dsimp -simprocs only at H)
       replace H:=Sq.ifs H;obtain⟨c67,H⟩:=H;have c67b0:=eq_true c67;have c67b1:decide (0≤(t189.length:Int))=true:=decide_eq_true c67;clear c67;replace H:=Sq.ifs H;obtain⟨c68,H⟩:=H;have c68b0:=eq_true c68;have c68b1:decide ((t189.length:Int)≤(x10_1.length:Int))=true:=decide_eq_true c68;clear c68;obtain⟨y229,hy229⟩:∃y_:List Int,y_=(x10_1.take ((t189.length:Int):Int).toNat):=⟨_,rfl⟩
       (first|(replace H:=Sq.ny hy229 H;(try dsimp -simprocs only at H))|rw[←hy229] at H|skip)
       have Ny229:=Aside0.mk hy229;clear hy229;replace H:=Sq.bd H;obtain⟨t233,A69,H⟩:=H
       (try dsimp -simprocs only at H)
       simp only[Option.some.injEq,Prod.mk.injEq] at H;obtain⟨rfl,rfl,rfl⟩:=H
       try go_wp2
       replace HO_1:=Aside0.mk (Kd.V_drew HO_1.out);replace HO_10:=Aside0.mk (Kd.R_drew HO_10.out);replace HO_12:=Aside0.mk (Kd.R_drew HO_12.out);replace HB:=Aside0.mk (below_drew1 HB.out);obtain⟨Ao72,co72,eo72⟩:=Kd.R_slice HO_10.out
       (first|subst eo72|(injection eo72 with f1_ f2_ f3_;have f4_:=f1_.symm;have f5_:=f3_.symm;clear f1_ f2_ f3_;subst f4_;subst f5_))
       have q71:((t189.length:Int):Int)≤((x10_1.length:Int):Int):=of_decide_eq_true (by first|(with_reducible assumption)|assumption);obtain⟨i071,hi071,_,hsz71,_⟩:=info_parts info88;have hroom71:x10_1.length≤co72:=(Kd.R_reads' HO_10.out).2.1;have hC71:Kd.C (Kd.int .u32) _ Ao72 x10_1.length x10_1:=(Kd.R_reads' HO_10.out).2.2;have hcut71:=cut_to (P:=Tryz.prog) 22 88 .i64 Tryz.underlying22 hi071 Ao72 x10_1.length co72 (t189.length:Int) (of_decide_eq_true (by first|(with_reducible assumption)|assumption)) q71 hroom71;have hr71:=Kd.C_take (m:=((t189.length:Int):Int).toNat) hC71 (by omega);have hy71:y229.length=((t189.length:Int):Int).toNat:=(by rw[Ny229.out,List.length_take];omega);rw[←Ny229.out] at hr71;rw[←hy71] at hcut71;have HR232:=Aside0.mk hr71;have HC232:=Aside0.mk (show y229.length≤co72 from by omega);clear hr71 hC71 hroom71 hi071 hsz71;have KY71:=Aside0.mk hy71;clear hy71;have KL71:=Aside0.mk (show ((t189.length:Int):Int).toNat≤x10_1.length from by omega);replace q71:=eq_true q71;refine start_ (n:=11) (S:=fun w'=>True) (ds:=[]) #[false,false,false,false,false,false,false,false,false,false,false] (by kernel_rfl) rfl rfl trivial (fun hHeld=>?_);refine with_tabW nat_Div.tab16 nat_Div.bits16 (fun HT_ HW_=>?_)
       generalize wr.drew=w70 at HO_1 HO_10 HO_12 HB HR232 hHeld ⊢;refine Sq.pu (v:=?_) (a':=?_) 0 (some 86) #[true,false,false,false,false,false,false,false,false,false,false] HT_ ?_ ?_ ?_
       rotate_left
       ·intro w'
        go_simp
        with_reducible rfl
       rotate_left
       ·simp only[Act.put,List.setIfInBounds_toArray,List.set_cons_zero,List.set_cons_succ,i64_w,i32_w]
        rfl
       refine Sq.pu (v:=?_) (a':=?_) 2 (some 88) #[true,false,true,false,false,false,false,false,false,false,false] HT_ ?_ ?_ ?_
       rotate_left
       ·intro w'
        go_simp
        with_reducible rfl
       rotate_left
       ·simp only[Act.put,List.setIfInBounds_toArray,List.set_cons_zero,List.set_cons_succ,i64_w,i32_w]
        rfl
       refine Sq.pu (v:=?_) (a':=?_) 3 (some 89) #[true,false,true,true,false,false,false,false,false,false,false] HT_ ?_ ?_ ?_
       rotate_left
       ·intro w'
        go_simp
        with_reducible rfl
       rotate_left
       ·simp only[Act.put,List.setIfInBounds_toArray,List.set_cons_zero,List.set_cons_succ,i64_w,i32_w]
        rfl
       refine Sq.pu (v:=?_) (a':=?_) 4 (some 90) #[true,false,true,true,true,false,false,false,false,false,false] HT_ ?_ ?_ ?_
       rotate_left
       ·intro w'
        go_simp
        with_reducible rfl
       rotate_left
       ·simp only[Act.put,List.setIfInBounds_toArray,List.set_cons_zero,List.set_cons_succ,i64_w,i32_w]
        rfl
       refine Sq.pu (v:=?_) (a':=?_) 5 (some 91) #[true,false,true,true,true,true,false,false,false,false,false] HT_ ?_ ?_ ?_
       rotate_left
       ·intro w'
        go_simp
        with_reducible rfl
       rotate_left
       ·simp only[Act.put,List.setIfInBounds_toArray,List.set_cons_zero,List.set_cons_succ,i64_w,i32_w]
        rfl
       refine Sq.pu (v:=?_) (a':=?_) 6 (some 92) #[true,false,true,true,true,true,true,false,false,false,false] HT_ ?_ ?_ ?_
       rotate_left
       ·intro w'
        go_simp
        with_reducible rfl
       rotate_left
       ·simp only[Act.put,List.setIfInBounds_toArray,List.set_cons_zero,List.set_cons_succ,i64_w,i32_w]
        rfl
       refine one_ (i:=1) (N:=some 87) #[true,true,true,true,true,true,true,false,false,false,false] rfl rfl (one_of HT_.out (by kernel_rfl)) (by decide) (fun K hK=>?_)
       refine goes_ Tryz.func86 (by kernel_rfl) rfl #[.slice Ao55 x12_1.length co55] (by rfl) rfl rfl (by (try simp only[List.map_toArray,List.map_cons,List.map_nil]);first|done|rfl|(simp only[List.length_drop,List.length_take];rfl)) ?_
       with_reducible refine (nat_cut.calls k1 (fun k_=>some k_=(.slice Ao55 x12_1.length co55:Value).ownBlock) _ _ x12_1 t226 _ ?side1 A66.out).mono ?_
       (case side1=>exact Kd.R_V (Kd.R_tight rfl (HO_12.out)))
       rintro e w73 ⟨v227,rfl,ho0,hb⟩
       refine⟨_,rfl,?_⟩
       replace HO_1:=Aside0.mk (Kd.V_below (Sq.al HO_1) hb);have HO228:=Aside0.mk (Kd.V_lower (Kd.V_mono (ok':=fun k_=>((P0_ k_∨P1_ k_)∨w.heap.size≤k_)∧some k_≠(.slice Ao72 x10_1.length co72:Value).ownBlock) ho0 (fun k_ hk_=>⟨Or.elim hk_ (fun hs_=>(.inr (((HO_12.out).1 k_ hs_.symm).1))) (fun hn_=>(.inr (Nat.le_trans (below_size (Sq.bl HB)) hn_))),Or.elim hk_ (fun hs_=>((HO_12.out).1 k_ hs_.symm).2) (fun hn_=>(Kd.fresh' (Kd.R_lt (Sq.al HO_10)) k_ hn_))⟩)) (below_size (Sq.bl HB)));replace HR232:=Aside0.mk (Kd.C_below (by repeat (first|(with_reducible exact HR232.out)|(with_reducible refine Kd.C_alloc ?_ _)|(with_reducible refine Kd.C_drewN ?_ _)|(with_reducible refine Kd.C_drew ?_)|exact HR232.out)) hb);replace HO_10:=Aside0.mk (Kd.R_below (Sq.al HO_10) hb);replace HO_12:=Aside0.mk (Kd.R_below (Sq.al HO_12) hb);replace HB:=Sq.bs HB hb
       (try clear hb)
       (try clear hb2)
       (try clear hk)
       (try clear hi)
       (try clear ho0)
       refine hK.out _ _ trivial (fun hHeld=>?_)
       clear hK K;refine norm_ (a':=?_) ?_ ?_
       rotate_left
       ·show Act.put _ (some 87) _=_
        simp only[Act.put,List.setIfInBounds_toArray,List.set_cons_zero,List.set_cons_succ,i64_w,i32_w];rfl
       refine one_ (i:=7) (N:=some 93) #[true,true,true,true,true,true,true,true,false,false,false] rfl rfl (one_of HT_.out (by kernel_rfl)) (by decide) (fun K hK=>?_)
       refine goes_ Tryz.func116 (by kernel_rfl) rfl #[.slice Ao72 y229.length co72,.int .i64 t208] (by rfl) rfl rfl (by (try simp only[List.map_toArray,List.map_cons,List.map_nil]);first|done|rfl|(simp only[List.length_drop,List.length_take];rfl)) ?_
       with_reducible refine (nat_right.calls k1 _ _ y229 t208 t233 _ ?side1 ?side2 A69.out).mono ?_
       (case side1=>repeat (first|exact (by repeat (first|(with_reducible exact HR232.out)|(with_reducible refine Kd.C_alloc ?_ _)|(with_reducible refine Kd.C_drewN ?_ _)|(with_reducible refine Kd.C_drew ?_)|exact HR232.out))|(with_reducible refine Kd.C_alloc ?_ _)|(with_reducible refine Kd.C_drewN ?_ _)|(with_reducible refine Kd.C_drew ?_)))
       (case side2=>exact HC232.out)
       rintro e w74 ⟨v234,rfl,ho0,hb⟩
       refine⟨_,rfl,?_⟩
       replace HO_1:=Aside0.mk (Kd.V_below (Sq.al HO_1) hb);replace HO228:=Aside0.mk (Kd.V_below (Sq.al HO228) hb);have HO235:=Aside0.mk (Kd.V_lower (Kd.V_mono (ok':=fun k_=>((P0_ k_∨P1_ k_)∨w.heap.size≤k_)∧some k_≠(.slice Ao72 x10_1.length co72:Value).ownBlock∧some k_≠(.slice Ao55 x12_1.length co55:Value).ownBlock) ho0 (fun k_ hk_=>⟨(.inr (Nat.le_trans (below_size (Sq.bl HB)) hk_)),(Kd.fresh' (Kd.R_lt (Sq.al HO_10)) k_ hk_),(Kd.fresh' (Kd.R_lt (Sq.al HO_12)) k_ hk_)⟩)) (below_size (Sq.bl HB)));replace HR232:=Aside0.mk (Kd.C_below (by repeat (first|(with_reducible exact HR232.out)|(with_reducible refine Kd.C_alloc ?_ _)|(with_reducible refine Kd.C_drewN ?_ _)|(with_reducible refine Kd.C_drew ?_)|exact HR232.out)) hb);replace HO_10:=Aside0.mk (Kd.R_below (Sq.al HO_10) hb);replace HO_12:=Aside0.mk (Kd.R_below (Sq.al HO_12) hb);replace HB:=Sq.bs HB hb
       (try clear hb)
       (try clear hb2)
       (try clear hk)
       (try clear hi)
       (try clear ho0)
       refine hK.out _ _ trivial (fun hHeld=>?_)
       clear hK K;refine norm_ (a':=?_) ?_ ?_
       rotate_left
       ·show Act.put _ (some 93) _=_
        simp only[Act.put,List.setIfInBounds_toArray,List.set_cons_zero,List.set_cons_succ,i64_w,i32_w];rfl
       refine Sq.pu (v:=?_) (a':=?_) 8 (some 4) #[true,true,true,true,true,true,true,true,true,false,false] HT_ ?_ ?_ ?_
       rotate_left
       ·intro w'
        go_simp
        with_reducible rfl
       rotate_left
       ·simp only[Act.put,List.setIfInBounds_toArray,List.set_cons_zero,List.set_cons_succ,i64_w,i32_w]
        rfl
       refine Sq.pu (v:=?_) (a':=?_) 9 (some 5) #[true,true,true,true,true,true,true,true,true,true,false] HT_ ?_ ?_ ?_
       rotate_left
       ·intro w'
        go_simp
        with_reducible rfl
       rotate_left
       ·simp only[Act.put,List.setIfInBounds_toArray,List.set_cons_zero,List.set_cons_succ,i64_w,i32_w]
        rfl
       refine Sq.pu (v:=?_) (a':=?_) 10 (some 6) #[true,true,true,true,true,true,true,true,true,true,true] HT_ ?_ ?_ ?_
       rotate_left
       ·intro w'
        go_simp
        with_reducible rfl
       rotate_left
       ·simp only[Act.put,List.setIfInBounds_toArray,List.set_cons_zero,List.set_cons_succ,i64_w,i32_w]
        rfl
       refine done_ (done_of HT_.out (by kernel_rfl)) ?_
       try go_wp2
       go_ret3
       exact⟨_,_,by first|rfl|(simp[errW_none,errW_some]<;>rfl)|(simp only[←hji32,←hji40];first|rfl|(simp[errW_none,errW_some]<;>rfl))|(simp[*,errW_none,errW_some]<;>rfl),by (with_reducible repeat (first|apply Kd.V_alloc|apply Kd.V_drewN|apply Kd.V_drew));exact Kd.V_mono HO228.out (fun _ hk=>hk.1),by (with_reducible repeat (first|apply Kd.V_alloc|apply Kd.V_drewN|apply Kd.V_drew));exact Kd.V_mono HO235.out (fun _ hk=>hk.1),Sq.bl HB⟩
end Go.Proofs.YtjfkhbkddenfoaaGreat.N
