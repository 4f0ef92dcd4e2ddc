import Derived.Test.YtjfkhbkddenfoaaGreatQdajcgaonnfNx0
import Derived.Test.YtjfkhbkddenfoaaGreatQgoapcpfdbnM
set_option linter.unusedVariables false
set_option linter.unusedSimpArgs false
namespace Go.Proofs.YtjfkhbkddenfoaaGreat.N
open Go.RowKit Go.Proofs.YtjfkhbkddenfoaaGreatW.PrintWords Go.Proofs.YtjfkhbkddenfoaaGreatW.PrintLast Go.Proofs.YtjfkhbkddenfoaaGreatW.PrintMore
attribute [local go_sem] max2_int min2_int max_two min_two max_three min_three max_four min_four   -- for this text's walks alone
def foliotref01_Trim.l0:Nat→List Int→Int→Option (List Int)
 |0,_,_=>none
 |k+1,x0,x3=>if x3>0 then (if 0≤(wrap64 (x3-1)) then (if (wrap64 (x3-1))<(x0.length:Int) then (if (rd x0 (wrap64 (x3-1)))=0 then (foliotref01_Trim.l0 k x0 (wrap64 (x3-1))) else ((some (([]:List Int):List Int)).bind fun y250=>(if 0≤x3 then (if x3≤(x0.length:Int) then (if y250.length+(x0.take (x3:Int).toNat).length<35184372088832 then (some (y250++(x0.take (x3:Int).toNat))) else (none)) else (none)) else (none)))) else (none)) else (none)) else ((some (([]:List Int):List Int)).bind fun y257=>(if 0≤x3 then (if x3≤(x0.length:Int) then (if y257.length+(x0.take (x3:Int).toNat).length<35184372088832 then (some (y257++(x0.take (x3:Int).toNat))) else (none)) else (none)) else (none)))
def foliotref01_Trim.f (k:Nat) (l0:List Int):Option (List Int):=foliotref01_Trim.l0 k l0 (l0.length:Int)
set_option maxHeartbeats 8000000 in
set_option maxRecDepth 100000 in
theorem foliotref01_Trim.calls (k:Nat) (A0:Option Addr) (c0:Nat) (l0:List Int) (r:List Int) (w:World) (hr0:Kd.C (Kd.int .u32) w A0 l0.length l0) (hc0:l0.length≤c0) (h:foliotref01_Trim.f k l0=some r) :
 Calls Tryz.prog 71 #[.slice A0 l0.length c0] w fun e w'=>∃v0_:Value,e=.returned (v0_)∧Kd.R (Kd.int .u32) 88 w' w.heap.size (fun _=>True) v0_ r∧Below w.heap.size w w':=by
 have HR0:=Aside0.mk hr0;have HC0:=Aside0.mk hc0;clear hr0 hc0;have HB:=Aside0.mk (Below.refl w.heap.size w);have H:(foliotref01_Trim.l0 k l0 (l0.length:Int))=some r:=h;clear h;have H':=Aside0.mk H;clear H;go_enter Tryz.func71,Tryz.ntmps71
 go_wp2
 go_loopg [3] k (fun kq v3 w'=>∃(x3_1:Int),v3=.int .i64 x3_1∧Aside0 (foliotref01_Trim.l0 kq l0 x3_1=some r)∧Aside0 (kq≤k)∧Aside0 (Below w.heap.size w w'))
 case atStart=>exact⟨((l0.length:Int)),(by first|rfl|(simp;done)|(simp[*];done)),H',⟨Nat.le_refl _⟩,⟨Sq.bl HB⟩⟩
 case round =>
  clear H';obtain⟨x3_1,rfl,HA,HK1,HB⟩:=hrel;cases gk with
  |zero=>exact absurd HA.out (by simp[foliotref01_Trim.l0])
  |succ k1 =>
   have H:=HA.out;clear HA;simp only[foliotref01_Trim.l0] at H;by_cases c2:x3_1>0
   ·rw[if_pos c2] at H
    have c2b0:decide (0<x3_1)=true:=decide_eq_true c2;clear c2;obtain⟨ji3,hji3⟩:∃j_:Int,(wrap64 (x3_1-1))=j_:=⟨_,rfl⟩
    (first|rw[hji3] at H|simp only[hji3] at H)
    have hji3w:(IntKind.i64.wrap (x3_1-1))=ji3:=(i64_w _).trans hji3;replace H:=Sq.ifs H;obtain⟨c4,H⟩:=H;have c4b0:decide (0≤(ji3))=true:=decide_eq_true c4;clear c4;replace H:=Sq.ifs H;obtain⟨c5,H⟩:=H;have c5b0:decide ((ji3)<(l0.length:Int))=true:=decide_eq_true c5;clear c5;by_cases c6:(rd l0 (ji3))=0
    ·rw[if_pos c6] at H
     have c6b0:((rd l0 (ji3))==0)=true:=beq_iff_eq.mpr c6;have c6b1:((rd l0 (ji3)) != 0)=false:=bne_eq_false_iff_eq.mpr c6;clear c6;have H':=Aside0.mk H;clear H;have p249:0≤((ji3):Int):=of_decide_eq_true (by first|(with_reducible assumption)|assumption);have q249:(ji3)<(l0.length:Int):=of_decide_eq_true (by first|(with_reducible assumption)|assumption);obtain⟨ad249,e249,hx249_0⟩:=Kd.at_int HR0.out (ji3) p249 q249;cases e249;replace hx249_0:=(HB.out.cell (World.block_lt_of_cell? w _ hx249_0)).trans hx249_0;replace p249:=eq_true p249;replace q249:=eq_true q249;go_wp2
     go_roundg k1
     case measure=>have:=HK1.out;omega
     case rel=>exact⟨(ji3),(by first|rfl|(simp;done)|(simp only[←hji3]<;>(first|rfl|simp))|(simp[*];done)),H',⟨by have:=HK1.out;omega⟩,⟨Sq.bl HB⟩⟩
    ·rw[if_neg c6] at H
     have c6b0:((rd l0 (ji3))==0)=false:=beq_eq_false_iff_ne.mpr c6;have c6b1:((rd l0 (ji3)) != 0)=true:=bne_iff_ne.mpr c6;obtain⟨y250,hy250⟩:∃y_:List Int,y_=(([]:List Int)):=⟨_,rfl⟩
     (first|(replace H:=Sq.ny hy250 H;(try dsimp -simprocs only at H))|rw[←hy250] at H|skip)
     have Ny250:=Aside0.mk hy250;clear hy250;replace H:=Sq.ifs H;obtain⟨c7,H⟩:=H;have c7b0:=eq_true c7;have c7b1:decide (0≤x3_1)=true:=decide_eq_true c7;clear c7;replace H:=Sq.ifs H;obtain⟨c8,H⟩:=H;have c8b0:=eq_true c8;have c8b1:decide (x3_1≤(l0.length:Int))=true:=decide_eq_true c8;clear c8;replace H:=Sq.ifs H;obtain⟨c9,H⟩:=H;have LMc9:=Aside0.mk c9;clear c9;obtain⟨y254,hy254⟩:∃y_:List Int,y_=(y250++(l0.take (x3_1:Int).toNat)):=⟨_,rfl⟩
     (first|(replace H:=Sq.ny hy254 H;(try dsimp -simprocs only at H))|rw[←hy254] at H|skip)
     have Ny254:=Aside0.mk hy254;clear hy254;obtain rfl:=Option.some.inj H;have p249:0≤((ji3):Int):=of_decide_eq_true (by first|(with_reducible assumption)|assumption);have q249:(ji3)<(l0.length:Int):=of_decide_eq_true (by first|(with_reducible assumption)|assumption);obtain⟨ad249,e249,hx249_0⟩:=Kd.at_int HR0.out (ji3) p249 q249;cases e249;replace hx249_0:=(HB.out.cell (World.block_lt_of_cell? w _ hx249_0)).trans hx249_0;replace p249:=eq_true p249;replace q249:=eq_true q249;go_wp2_with (first|((with_reducible refine gate_dst (N:=18) rfl ?_);refine Kd.R_lit (Kd.int .u32) _ 88 ?hg (N:=18) ?hd (xs:=([]:List Int)) (inner:=[]) (ok:=fun _=>True) (okp:=fun _=>True) ?hr ?hp (fun _ hk=>hk) trivial (Below.refl _ _) (Nat.le_refl _) (by simp) ?_;(case hd=>rfl);(case hg=>rfl);(case hr=>first|(go_simp;done)|(go_simp;rfl));(case hp=>exact (Reps.none _ _));intro v251 w10 ho11 hb hg_ hnew_;clear hg_ hnew_;(first|rw[←Ny250.out] at ho11|(simp only[Int.reduceToNat] at ho11;rw[←Ny250.out] at ho11));have HO252:=Aside0.mk (Kd.R_lower ho11 (below_size (Sq.bl HB)));replace HB:=Sq.bs HB hb;clear hb ho11;obtain⟨i012,hi012,_,hsz12,_⟩:=info_parts info88;obtain⟨hcut12,hA12,hC12⟩:=print_take_of (P:=Tryz.prog) (Value.int .u32) 0 22 88 .i64 Tryz.underlying22 hi012 hsz12 (some ad249) c0 l0 x3_1 (of_decide_eq_true (by first|(with_reducible assumption)|assumption)) (of_decide_eq_true (by first|(with_reducible assumption)|assumption)) HC0.out;have HR253:=Aside0.mk (Kd.C_of_reads (h1:=fun _=>rfl) (hA12 _ (Kd.reads_of_C HR0.out)));have HC253:=Aside0.mk hC12;clear hA12 hC12 hi012 hsz12)|((with_reducible refine gate_builtin (b:=.append) (xs:=#[.tmp 18,.tmp 21]) rfl ?_);at_builtin;refine Kd.R_append_rows (Kd.int .u32) (w0:=w) w.heap.size rfl (.tmp 18) (.tmp 21) 22 88 (.int .u32 0) 4 rfl Tryz.underlying22 info88 rfl (by decide) (by omega) v251 y250 (l0.take (x3_1:Int).toNat) _ _ _ (fun _=>True) (fun _=>False) rfl rfl ?aO ?aR (fun _ _ h=>h) (fun _ h=>h.elim) ?aF ?aB ?aS ?aL ?_;(case aR=>first|(have h_:=Kd.C_below HR253.out HB.out;rw[(show (l0.take (x3_1:Int).toNat).length=x3_1.toNat from (by rw[List.length_take];have h_:(x3_1:Int)≤(l0.length:Int):=of_decide_eq_true (by first|(with_reducible assumption)|assumption);omega))] at h_;exact h_)|(rw[←show (l0.take (x3_1:Int).toNat).length=x3_1.toNat from (by rw[List.length_take];have h_:(x3_1:Int)≤(l0.length:Int):=of_decide_eq_true (by first|(with_reducible assumption)|assumption);omega)];exact Sq.ca (Kd.C_below HR253.out HB.out))|(exact Sq.ca (Kd.C_below HR253.out HB.out)));(case aB=>exact (Sq.bl HB));(case aF=>exact (fun _ _=>trivial));(case aO=>exact (Sq.al HO252));(case aS=>exact (below_size (Sq.bl HB)));(case aL=>have:=LMc9.out;have hlx_:=(show (l0.take (x3_1:Int).toNat).length=x3_1.toNat from (by rw[List.length_take];have h_:(x3_1:Int)≤(l0.length:Int):=of_decide_eq_true (by first|(with_reducible assumption)|assumption);omega));omega);intro v255 w13 ho hb hg hat;rw[←Ny254.out] at ho;replace HB:=Aside0.mk (hb);have HO256:=Aside0.mk (ho);clear HO252;clear ho hb hg hat))
     go_ret
     exact⟨_,by first|rfl|(simp[errW_none,errW_some]<;>rfl)|(simp only[←hji3];first|rfl|(simp[errW_none,errW_some]<;>rfl))|(simp[*,errW_none,errW_some]<;>rfl),by (with_reducible repeat (first|apply Kd.R_alloc|apply Kd.R_drewN|apply Kd.R_drew));exact HO256.out,Sq.bl HB⟩
   ·rw[if_neg c2] at H
    have c2b0:decide (0<x3_1)=false:=decide_eq_false c2;clear c2;obtain⟨y257,hy257⟩:∃y_:List Int,y_=(([]:List Int)):=⟨_,rfl⟩
    (first|(replace H:=Sq.ny hy257 H;(try dsimp -simprocs only at H))|rw[←hy257] at H|skip)
    have Ny257:=Aside0.mk hy257;clear hy257;replace H:=Sq.ifs H;obtain⟨c14,H⟩:=H;have c14b0:=eq_true c14;have c14b1:decide (0≤x3_1)=true:=decide_eq_true c14;clear c14;replace H:=Sq.ifs H;obtain⟨c15,H⟩:=H;have c15b0:=eq_true c15;have c15b1:decide (x3_1≤(l0.length:Int))=true:=decide_eq_true c15;clear c15;replace H:=Sq.ifs H;obtain⟨c16,H⟩:=H;have LMc16:=Aside0.mk c16;clear c16;obtain⟨y261,hy261⟩:∃y_:List Int,y_=(y257++(l0.take (x3_1:Int).toNat)):=⟨_,rfl⟩
    (first|(replace H:=Sq.ny hy261 H;(try dsimp -simprocs only at H))|rw[←hy261] at H|skip)
    have Ny261:=Aside0.mk hy261;clear hy261;obtain rfl:=Option.some.inj H;go_wp2_with (first|((with_reducible refine gate_dst (N:=18) rfl ?_);refine Kd.R_lit (Kd.int .u32) _ 88 ?hg (N:=18) ?hd (xs:=([]:List Int)) (inner:=[]) (ok:=fun _=>True) (okp:=fun _=>True) ?hr ?hp (fun _ hk=>hk) trivial (Below.refl _ _) (Nat.le_refl _) (by simp) ?_;(case hd=>rfl);(case hg=>rfl);(case hr=>first|(go_simp;done)|(go_simp;rfl));(case hp=>exact (Reps.none _ _));intro v258 w17 ho18 hb hg_ hnew_;clear hg_ hnew_;(first|rw[←Ny257.out] at ho18|(simp only[Int.reduceToNat] at ho18;rw[←Ny257.out] at ho18));have HO259:=Aside0.mk (Kd.R_lower ho18 (below_size (Sq.bl HB)));replace HB:=Sq.bs HB hb;clear hb ho18;obtain⟨i019,hi019,_,hsz19,_⟩:=info_parts info88;obtain⟨hcut19,hA19,hC19⟩:=print_take_of (P:=Tryz.prog) (Value.int .u32) 0 22 88 .i64 Tryz.underlying22 hi019 hsz19 A0 c0 l0 x3_1 (of_decide_eq_true (by first|(with_reducible assumption)|assumption)) (of_decide_eq_true (by first|(with_reducible assumption)|assumption)) HC0.out;have HR260:=Aside0.mk (Kd.C_of_reads (h1:=fun _=>rfl) (hA19 _ (Kd.reads_of_C HR0.out)));have HC260:=Aside0.mk hC19;clear hA19 hC19 hi019 hsz19)|((with_reducible refine gate_builtin (b:=.append) (xs:=#[.tmp 18,.tmp 21]) rfl ?_);at_builtin;refine Kd.R_append_rows (Kd.int .u32) (w0:=w) w.heap.size rfl (.tmp 18) (.tmp 21) 22 88 (.int .u32 0) 4 rfl Tryz.underlying22 info88 rfl (by decide) (by omega) v258 y257 (l0.take (x3_1:Int).toNat) _ _ _ (fun _=>True) (fun _=>False) rfl rfl ?aO ?aR (fun _ _ h=>h) (fun _ h=>h.elim) ?aF ?aB ?aS ?aL ?_;(case aR=>first|(have h_:=Kd.C_below HR260.out HB.out;rw[(show (l0.take (x3_1:Int).toNat).length=x3_1.toNat from (by rw[List.length_take];have h_:(x3_1:Int)≤(l0.length:Int):=of_decide_eq_true (by first|(with_reducible assumption)|assumption);omega))] at h_;exact h_)|(rw[←show (l0.take (x3_1:Int).toNat).length=x3_1.toNat from (by rw[List.length_take];have h_:(x3_1:Int)≤(l0.length:Int):=of_decide_eq_true (by first|(with_reducible assumption)|assumption);omega)];exact Sq.ca (Kd.C_below HR260.out HB.out))|(exact Sq.ca (Kd.C_below HR260.out HB.out)));(case aB=>exact (Sq.bl HB));(case aF=>exact (fun _ _=>trivial));(case aO=>exact (Sq.al HO259));(case aS=>exact (below_size (Sq.bl HB)));(case aL=>have:=LMc16.out;have hlx_:=(show (l0.take (x3_1:Int).toNat).length=x3_1.toNat from (by rw[List.length_take];have h_:(x3_1:Int)≤(l0.length:Int):=of_decide_eq_true (by first|(with_reducible assumption)|assumption);omega));omega);intro v262 w20 ho hb hg hat;rw[←Ny261.out] at ho;replace HB:=Aside0.mk (hb);have HO263:=Aside0.mk (ho);clear HO259;clear ho hb hg hat))
    go_ret
    exact⟨_,by first|rfl|(simp[errW_none,errW_some]<;>rfl)|(simp[*,errW_none,errW_some]<;>rfl),by (with_reducible repeat (first|apply Kd.R_alloc|apply Kd.R_drewN|apply Kd.R_drew));exact HO263.out,Sq.bl HB⟩
def foliotref01_cut.l0:Nat→List Bool→Int→Option (List Bool)
 |0,_,_=>none
 |k+1,x0,x3=>if x3>0 then (if 0≤(wrap64 (x3-1)) then (if (wrap64 (x3-1))<(x0.length:Int) then (if (rdOf false x0 (wrap64 (x3-1))=true) then (if 0≤x3 then (if x3≤(x0.length:Int) then (some (x0.take (x3:Int).toNat)) else (none)) else (none)) else (foliotref01_cut.l0 k x0 (wrap64 (x3-1)))) else (none)) else (none)) else (if 0≤x3 then (if x3≤(x0.length:Int) then (some (x0.take (x3:Int).toNat)) else (none)) else (none))
def foliotref01_cut.f (k:Nat) (l0:List Bool):Option (List Bool):=foliotref01_cut.l0 k l0 (l0.length:Int)
set_option maxHeartbeats 8000000 in
set_option maxRecDepth 100000 in
theorem foliotref01_cut.calls (k:Nat) (P0_:Nat→Prop) (A0:Option Addr) (c0:Nat) (l0:List Bool) (r:List Bool) (w:World) (hs0:Kd.V Kd.bool 4 w w.heap.size (fun k_=>P0_ k_) (.slice A0 l0.length c0) l0) (h:foliotref01_cut.f k l0=some r) :
 Calls Tryz.prog 121 #[.slice A0 l0.length c0] w fun e w'=>∃v0_:Value,e=.returned (v0_)∧Kd.V Kd.bool 4 w' w.heap.size (fun k_=>(P0_ k_∨w.heap.size≤k_)) v0_ r∧Below w.heap.size w w':=by
 have HO0:=Aside0.mk (show Kd.V Kd.bool 4 w w.heap.size (fun k_=>(P0_ k_∨w.heap.size≤k_)) (.slice A0 l0.length c0) l0 from Kd.V_mono hs0 (fun k_ hk=>.inl hk));have HB:=Aside0.mk (Below.refl w.heap.size w);have H:(foliotref01_cut.l0 k l0 (l0.length:Int))=some r:=h;clear h;have H':=Aside0.mk H;clear H;go_enter Tryz.func121,Tryz.ntmps121
 go_wp2
 go_loopg [3] k (fun kq v3 w'=>∃(x3_1:Int),v3=.int .i64 x3_1∧Aside0 (foliotref01_cut.l0 kq l0 x3_1=some r)∧Aside0 (kq≤k)∧Aside0 (Kd.V Kd.bool 4 w' w.heap.size (fun k_=>(P0_ k_∨w.heap.size≤k_)) (.slice A0 l0.length c0) l0)∧Aside0 (Below w.heap.size w w'))
 case atStart=>exact⟨((l0.length:Int)),(by first|rfl|(simp;done)|(simp[*];done)),H',⟨Nat.le_refl _⟩,⟨by (with_reducible repeat (first|apply Kd.V_alloc|apply Kd.V_drewN|apply Kd.V_drew));exact HO0.out⟩,⟨Sq.bl HB⟩⟩
 case round =>
  clear H'
  try clear c1
  obtain⟨x3_1,rfl,HA,HK1,HO_0,HB⟩:=hrel;cases gk with
  |zero=>exact absurd HA.out (by simp[foliotref01_cut.l0])
  |succ k1 =>
   have H:=HA.out;clear HA;simp only[foliotref01_cut.l0] at H;by_cases c2:x3_1>0
   ·rw[if_pos c2] at H
    have c2b0:decide (0<x3_1)=true:=decide_eq_true c2;clear c2;obtain⟨ji3,hji3⟩:∃j_:Int,(wrap64 (x3_1-1))=j_:=⟨_,rfl⟩
    (first|rw[hji3] at H|simp only[hji3] at H)
    have hji3w:(IntKind.i64.wrap (x3_1-1))=ji3:=(i64_w _).trans hji3;replace H:=Sq.ifs H;obtain⟨c4,H⟩:=H;have c4b0:decide (0≤(ji3))=true:=decide_eq_true c4;clear c4;replace H:=Sq.ifs H;obtain⟨c5,H⟩:=H;have c5b0:decide ((ji3)<(l0.length:Int))=true:=decide_eq_true c5;clear c5;obtain⟨bq6,hbq6⟩:∃b_:Bool,b_=(rdOf false l0 (ji3)):=⟨_,rfl⟩;replace H:(if (bq6=true) then (if 0≤x3_1 then (if x3_1≤(l0.length:Int) then (some (l0.take (x3_1:Int).toNat)) else (none)) else (none)) else (foliotref01_cut.l0 k1 l0 ji3))=some r:=by rw[←hbq6] at H;exact H
    have Nbq6:=Aside0.mk hbq6;clear hbq6;by_cases c7:(bq6=true)
    ·subst c7
     have H1:(if 0≤x3_1 then (if x3_1≤(l0.length:Int) then (some (l0.take (x3_1:Int).toNat)) else (none)) else (none))=some r:=by rw[if_pos rfl] at H;exact H
     clear H;have H:=H1;clear H1;replace H:=Sq.ifs H;obtain⟨c8,H⟩:=H;have c8b0:=eq_true c8;have c8b1:decide (0≤x3_1)=true:=decide_eq_true c8;clear c8;replace H:=Sq.ifs H;obtain⟨c9,H⟩:=H;have c9b0:=eq_true c9;have c9b1:decide (x3_1≤(l0.length:Int))=true:=decide_eq_true c9;clear c9;obtain⟨y265,hy265⟩:∃y_:List Bool,y_=(l0.take (x3_1:Int).toNat):=⟨_,rfl⟩
     (first|(replace H:=Sq.ny hy265 H;(try dsimp -simprocs only at H))|rw[←hy265] at H|skip)
     have Ny265:=Aside0.mk hy265;clear hy265;obtain rfl:=Option.some.inj H;have p264:0≤((ji3):Int):=of_decide_eq_true (by first|(with_reducible assumption)|assumption);have q264:(ji3)<(l0.length:Int):=of_decide_eq_true (by first|(with_reducible assumption)|assumption);obtain⟨ad264,e264,hx264_0⟩:=Kd.at_bool (Kd.V_reads' HO_0.out).2.2 (ji3) p264 q264
     (try rw[←Nbq6.out] at hx264_0)
     cases e264;replace p264:=eq_true p264;replace q264:=eq_true q264;have q10:(x3_1:Int)≤((l0.length:Int):Int):=of_decide_eq_true (by first|(with_reducible assumption)|assumption);obtain⟨i010,hi010,_,hsz10,_⟩:=info_parts info4;have hroom10:l0.length≤c0:=(Kd.V_reads' HO_0.out).2.1;have hC10:Kd.F Kd.bool _ _ (some ad264) l0.length l0:=(Kd.V_at (base:=w.heap.size) HO_0.out).2.2;have hcut10:=cut_to (P:=Tryz.prog) 34 4 .i64 Tryz.underlying34 hi010 (some ad264) l0.length c0 x3_1 (of_decide_eq_true (by first|(with_reducible assumption)|assumption)) q10 hroom10;have hr10:=Kd.F_take (m:=(x3_1:Int).toNat) hC10 (by omega);have hy10:y265.length=(x3_1:Int).toNat:=(by rw[Ny265.out,List.length_take];omega);rw[←Ny265.out] at hr10;rw[←hy10] at hcut10;have HO269:=Aside0.mk (show Kd.V Kd.bool 4 _ w.heap.size _ (.slice (some ad264) y265.length c0) y265 from Kd.V_mk (by omega) hr10);have HC269:=Aside0.mk (show y265.length≤c0 from by omega);clear hr10 hC10 hroom10 hi010 hsz10;have KY10:=Aside0.mk hy10;clear hy10;replace q10:=eq_true q10;go_wp2
     go_ret
     exact⟨_,by first|rfl|(simp[errW_none,errW_some]<;>rfl)|(simp only[←hji3];first|rfl|(simp[errW_none,errW_some]<;>rfl))|(simp[*,errW_none,errW_some]<;>rfl),by (with_reducible repeat (first|apply Kd.V_alloc|apply Kd.V_drewN|apply Kd.V_drew));exact HO269.out,Sq.bl HB⟩
    ·replace c7:=Bool.eq_false_iff.mpr c7
     subst c7;have H1:(foliotref01_cut.l0 k1 l0 ji3)=some r:=by rw[if_neg (show ¬(false=true) by decide)] at H;exact H
     clear H;have H:=H1;clear H1;have H':=Aside0.mk H;clear H;have p264:0≤((ji3):Int):=of_decide_eq_true (by first|(with_reducible assumption)|assumption);have q264:(ji3)<(l0.length:Int):=of_decide_eq_true (by first|(with_reducible assumption)|assumption);obtain⟨ad264,e264,hx264_0⟩:=Kd.at_bool (Kd.V_reads' HO_0.out).2.2 (ji3) p264 q264
     (try rw[←Nbq6.out] at hx264_0)
     cases e264;replace p264:=eq_true p264;replace q264:=eq_true q264;go_wp2
     go_roundg k1
     case measure=>have:=HK1.out;omega
     case rel=>exact⟨(ji3),(by first|rfl|(simp;done)|(simp only[←hji3]<;>(first|rfl|simp))|(simp[*];done)),H',⟨by have:=HK1.out;omega⟩,⟨by (with_reducible repeat (first|apply Kd.V_alloc|apply Kd.V_drewN|apply Kd.V_drew));exact HO_0.out⟩,⟨Sq.bl HB⟩⟩
   ·rw[if_neg c2] at H
    have c2b0:decide (0<x3_1)=false:=decide_eq_false c2;clear c2;replace H:=Sq.ifs H;obtain⟨c11,H⟩:=H;have c11b0:=eq_true c11;have c11b1:decide (0≤x3_1)=true:=decide_eq_true c11;clear c11;replace H:=Sq.ifs H;obtain⟨c12,H⟩:=H;have c12b0:=eq_true c12;have c12b1:decide (x3_1≤(l0.length:Int))=true:=decide_eq_true c12;clear c12;obtain⟨y270,hy270⟩:∃y_:List Bool,y_=(l0.take (x3_1:Int).toNat):=⟨_,rfl⟩
    (first|(replace H:=Sq.ny hy270 H;(try dsimp -simprocs only at H))|rw[←hy270] at H|skip)
    have Ny270:=Aside0.mk hy270;clear hy270;obtain rfl:=Option.some.inj H;have q13:(x3_1:Int)≤((l0.length:Int):Int):=of_decide_eq_true (by first|(with_reducible assumption)|assumption);obtain⟨i013,hi013,_,hsz13,_⟩:=info_parts info4;have hroom13:l0.length≤c0:=(Kd.V_reads' HO_0.out).2.1;have hC13:Kd.F Kd.bool _ _ A0 l0.length l0:=(Kd.V_at (base:=w.heap.size) HO_0.out).2.2;have hcut13:=cut_to (P:=Tryz.prog) 34 4 .i64 Tryz.underlying34 hi013 A0 l0.length c0 x3_1 (of_decide_eq_true (by first|(with_reducible assumption)|assumption)) q13 hroom13;have hr13:=Kd.F_take (m:=(x3_1:Int).toNat) hC13 (by omega);have hy13:y270.length=(x3_1:Int).toNat:=(by rw[Ny270.out,List.length_take];omega);rw[←Ny270.out] at hr13;rw[←hy13] at hcut13;have HO274:=Aside0.mk (show Kd.V Kd.bool 4 _ w.heap.size _ (.slice A0 y270.length c0) y270 from Kd.V_mk (by omega) hr13);have HC274:=Aside0.mk (show y270.length≤c0 from by omega);clear hr13 hC13 hroom13 hi013 hsz13;have KY13:=Aside0.mk hy13;clear hy13;replace q13:=eq_true q13;go_wp2
    go_ret
    exact⟨_,by first|rfl|(simp[errW_none,errW_some]<;>rfl)|(simp[*,errW_none,errW_some]<;>rfl),by (with_reducible repeat (first|apply Kd.V_alloc|apply Kd.V_drewN|apply Kd.V_drew));exact HO274.out,Sq.bl HB⟩
mutual
def foliotref01_Of.l0:Nat→List Int→List Bool→Int→Option (List Bool)
 |0,_,_,_=>none
 |k+1,x0,x3,x4=>if x4<(x0.length:Int) then (foliotref01_Of.l1 k x0 x3 x4 0) else ((foliotref01_cut.f k x3).bind fun t275=>(some t275))
def foliotref01_Of.l1:Nat→List Int→List Bool→Int→Int→Option (List Bool)
 |0,_,_,_,_=>none
 |k+1,x0,x3,x4,x5=>if x5<32 then (if 0≤x4 then (if x4<(x0.length:Int) then (if 0≤x5 then (if x3.length<140737488355328 then (foliotref01_Of.l1 k x0 (x3++[((Go.bits .and .u32 (shr .u32 (rd x0 x4) x5) 1)==1)]) x4 (wrap64 (x5+1))) else (none)) else (none)) else (none)) else (none)) else (foliotref01_Of.l0 k x0 x3 (wrap64 (x4+1)))
end
def foliotref01_Of.f (k:Nat) (l0:List Int):Option (List Bool):=foliotref01_Of.l0 k l0 ([]:List Bool) 0
set_option maxHeartbeats 8000000 in
set_option maxRecDepth 100000 in
theorem foliotref01_Of.calls (k:Nat) (A0:Option Addr) (c0:Nat) (l0:List Int) (r:List Bool) (w:World) (hr0:Kd.C (Kd.int .u32) w A0 l0.length l0) (hc0:l0.length≤c0) (h:foliotref01_Of.f k l0=some r) :
 Calls Tryz.prog 99 #[.slice A0 l0.length c0] w fun e w'=>∃v0_:Value,e=.returned (v0_)∧Kd.V Kd.bool 4 w' w.heap.size (fun k_=>(w.heap.size≤k_)) v0_ r∧Below w.heap.size w w':=by
 have HR0:=Aside0.mk hr0;have HC0:=Aside0.mk hc0;clear hr0 hc0;have HB:=Aside0.mk (Below.refl w.heap.size w);have H:(foliotref01_Of.l0 k l0 ([]:List Bool) 0)=some r:=h;clear h;have H':=Aside0.mk H;clear H;go_enter Tryz.func99,Tryz.ntmps99
 go_wp2
 go_loopg [3,4] k (fun kq v3 v4 w'=>∃(x3_1:List Bool) (x4_1:Int),v4=.int .i64 x4_1∧Aside0 (foliotref01_Of.l0 kq l0 x3_1 x4_1=some r)∧Aside0 (kq≤k)∧Aside0 (Kd.R Kd.bool 4 w' w.heap.size (fun k_=>(w.heap.size≤k_)) v3 x3_1)∧Aside0 (Below w.heap.size w w'))
 case atStart=>exact⟨(([]:List Bool)),(0),(by first|rfl|(simp;done)|(simp[*];done)),H',⟨Nat.le_refl _⟩,⟨by first|exact Kd.R_nil _ _ _ _ _|exact Kd.N_nil _ _ _ _ _|exact Kd.V_nil _ _ _ _ _|exact Kd.Q_nil _ _ _ _ _|exact Kd.S_nil _ _ _ _ _⟩,⟨Sq.bl HB⟩⟩
 case round =>
  clear H';obtain⟨x3_1,x4_1,rfl,HA,HK1,HO_3,HB⟩:=hrel;cases gk with
  |zero=>exact absurd HA.out (by simp[foliotref01_Of.l0])
  |succ k1 =>
   have H:=HA.out;clear HA;simp only[foliotref01_Of.l0] at H;by_cases c2:x4_1<(l0.length:Int)
   ·rw[if_pos c2] at H
    have c2b0:decide (x4_1<(l0.length:Int))=true:=decide_eq_true c2;clear c2;have H':=Aside0.mk H;clear H;go_wp2
    go_loopg [3,5] k1 (fun kq v3 v5 w'=>∃(x3_2:List Bool) (x5_2:Int),v5=.int .i64 x5_2∧Aside0 (foliotref01_Of.l1 kq l0 x3_2 x4_1 x5_2=some r)∧Aside0 (kq≤k1)∧Aside0 (Kd.R Kd.bool 4 w' w.heap.size (fun k_=>(w.heap.size≤k_)) v3 x3_2)∧Aside0 (Below w.heap.size w w'))
    case atStart=>exact⟨(x3_1),(0),(by first|rfl|(simp;done)|(simp[*];done)),H',⟨Nat.le_refl _⟩,⟨by (with_reducible repeat (first|apply Kd.R_alloc|apply Kd.R_drewN|apply Kd.R_drew));exact HO_3.out⟩,⟨Sq.bl HB⟩⟩
    case round =>
     clear H'
     try clear c2
     try clear c2b0
     try clear p2
     obtain⟨x3_2,x5_2,rfl,HA,HK2,HO_3,HB⟩:=hrel;cases gk with
     |zero=>exact absurd HA.out (by simp[foliotref01_Of.l1])
     |succ k2 =>
      have H:=HA.out;clear HA;simp only[foliotref01_Of.l1] at H;by_cases c3:x5_2<32
      ·rw[if_pos c3] at H
       have c3b0:decide (x5_2<32)=true:=decide_eq_true c3;clear c3;replace H:=Sq.ifs H;obtain⟨c4,H⟩:=H;have c4b0:decide (0≤x4_1)=true:=decide_eq_true c4;clear c4;replace H:=Sq.ifs H;obtain⟨c5,H⟩:=H;have c5b0:decide (x4_1<(l0.length:Int))=true:=decide_eq_true c5;clear c5;replace H:=Sq.ifs H;obtain⟨c6,H⟩:=H;have c6b0:=eq_true c6;have c6b1:decide (0≤x5_2)=true:=decide_eq_true c6;clear c6;obtain⟨ji7,hji7⟩:∃j_:Int,(shr .u32 (rd l0 x4_1) x5_2)=j_:=⟨_,rfl⟩
       (first|rw[hji7] at H|simp only[hji7] at H)
       have hji7_:((rd l0 x4_1)/2 ^ min x5_2.toNat 32)=ji7:=hji7;have hji7z:x5_2≤32→((rd l0 x4_1)/2 ^ x5_2.toNat)=ji7:=shr_small hji7;replace H:=Sq.ifs H;obtain⟨c8,H⟩:=H;have LMc8:=Aside0.mk c8;clear c8;obtain⟨y279,hy279⟩:∃y_:List Bool,y_=(x3_2++[((Go.bits .and .u32 (ji7) 1)==1)]):=⟨_,rfl⟩
       (first|(replace H:=Sq.ny hy279 H;(try dsimp -simprocs only at H))|rw[←hy279] at H|skip)
       have Ny279:=Aside0.mk hy279;clear hy279;have H':=Aside0.mk H;clear H;have p278:0≤(x4_1:Int):=of_decide_eq_true (by first|(with_reducible assumption)|assumption);have q278:x4_1<(l0.length:Int):=of_decide_eq_true (by first|(with_reducible assumption)|assumption);obtain⟨ad278,e278,hx278_0⟩:=Kd.at_int HR0.out x4_1 p278 q278;cases e278;replace hx278_0:=(HB.out.cell (World.block_lt_of_cell? w _ hx278_0)).trans hx278_0;replace p278:=eq_true p278;replace q278:=eq_true q278;go_wp2_with (first|((with_reducible refine gate_builtin (b:=.append) (xs:=#[.tmp 16,.tmp 25]) rfl ?_);at_builtin;refine Kd.R_append Kd.bool (w0:=w) w.heap.size rfl (.tmp 16) (.tmp 25) 34 4 (.bool false) 1 rfl Tryz.underlying34 info4 rfl (by decide) (by omega) u3 x3_2 ((Go.bits .and .u32 (ji7) 1)==1) [.bool ((Go.bits .and .u32 (ji7) 1)==1)] (fun k_=>(w.heap.size≤k_)) (fun _=>False) rfl rfl ?aP (fun _ hk=>hk.elim) ?aF ?aO ?aB ?aS ?aL ?_;(case aP=>exact rfl);(case aB=>exact (Sq.bl HB));(case aF=>exact (fun k_ hk=>(Nat.le_trans (below_size (Sq.bl HB)) hk)));(case aO=>exact (Sq.al HO_3));(case aS=>exact (below_size (Sq.bl HB)));(case aL=>have:=LMc8.out;omega);intro v280 w9 ho hb hg hat;rw[←Ny279.out] at ho;replace HB:=Aside0.mk (hb);have HO281:=Aside0.mk (ho);clear HO_3;clear ho hb hg hat))
       go_roundg k2
       case measure=>have:=HK1.out;have:=HK2.out;omega
       case rel=>exact⟨(y279),(wrap64 (x5_2+1)),(by first|rfl|(simp;done)|(simp[*];done)),H',⟨by have:=HK1.out;have:=HK2.out;omega⟩,⟨by (with_reducible repeat (first|apply Kd.R_alloc|apply Kd.R_drewN|apply Kd.R_drew));exact HO281.out⟩,⟨Sq.bl HB⟩⟩
      ·rw[if_neg c3] at H
       have c3b0:decide (x5_2<32)=false:=decide_eq_false c3;clear c3;have H':=Aside0.mk H;clear H;go_wp2
       go_roundg k2
       case measure=>have:=HK1.out;have:=HK2.out;omega
       case rel=>exact⟨(x3_2),(wrap64 (x4_1+1)),(by first|rfl|(simp;done)|(simp[*];done)),H',⟨by have:=HK1.out;have:=HK2.out;omega⟩,⟨by (with_reducible repeat (first|apply Kd.R_alloc|apply Kd.R_drewN|apply Kd.R_drew));exact HO_3.out⟩,⟨Sq.bl HB⟩⟩
   ·rw[if_neg c2] at H
    have c2b0:decide (x4_1<(l0.length:Int))=false:=decide_eq_false c2;clear c2;replace H:=Sq.bd H;obtain⟨t275,A10,H⟩:=H
    (try dsimp -simprocs only at H)
    obtain rfl:=Option.some.inj H;obtain⟨Ao11,co11,eo11⟩:=Kd.R_slice HO_3.out;subst eo11;go_wp2_with (first|((with_reducible refine gate_callee (f:=121) rfl ?_);refine Sq.gl (some 28) Tryz.func121 #[.slice Ao11 x3_1.length co11] ?_;(with_reducible refine (foliotref01_cut.calls k1 (fun k_=>some k_=(.slice Ao11 x3_1.length co11:Value).ownBlock) _ _ x3_1 t275 _ ?side1 A10.out).mono ?_);(case side1=>exact Kd.R_V (Kd.R_tight rfl (HO_3.out)));rintro e w12 ⟨v276,rfl,ho0,hb⟩;refine⟨_,rfl,?_⟩;have HO277:=Aside0.mk (Kd.V_lower (Kd.V_mono (ok':=fun k_=>(w.heap.size≤k_)) ho0 (fun k_ hk_=>Or.elim hk_ (fun hs_=>((HO_3.out).1 k_ hs_.symm)) (fun hn_=>(Nat.le_trans (below_size (Sq.bl HB)) hn_)))) (below_size (Sq.bl HB)));replace HO_3:=Aside0.mk (Kd.R_below (Sq.al HO_3) hb);replace HB:=Sq.bs HB hb;(try clear hb);(try clear hb2);(try clear hk);(try clear hi);(try clear ho0)))
    go_ret
    exact⟨_,by first|rfl|(simp[errW_none,errW_some]<;>rfl)|(simp[*,errW_none,errW_some]<;>rfl),by (with_reducible repeat (first|apply Kd.V_alloc|apply Kd.V_drewN|apply Kd.V_drew));exact HO277.out,Sq.bl HB⟩
def foliotref01_at.f (l0:List Bool) (a1:Int):Option (Bool):=if a1<(l0.length:Int) then (if 0≤a1 then (some (rdOf false l0 a1)) else (none)) else (some false)
set_option maxHeartbeats 8000000 in
set_option maxRecDepth 100000 in
theorem foliotref01_at.calls (A0:Option Addr) (c0:Nat) (l0:List Bool) (a1:Int) (r:Bool) (w:World) (hr0:Kd.C Kd.bool w A0 l0.length l0) (hc0:l0.length≤c0) (h:foliotref01_at.f l0 a1=some r) :
 Calls Tryz.prog 126 #[.slice A0 l0.length c0,.int .i64 a1] w fun e w'=>e=.returned (.bool r)∧Drawn0 w w':=by
 have HR0:=Aside0.mk hr0;have HC0:=Aside0.mk hc0;clear hr0 hc0;have H:(if a1<(l0.length:Int) then (if 0≤a1 then (some (rdOf false l0 a1)) else (none)) else (some false))=some r:=h;clear h;by_cases c3:a1<(l0.length:Int)
 ·rw[if_pos c3] at H
  have c3b0:decide (a1<(l0.length:Int))=true:=decide_eq_true c3;clear c3;replace H:=Sq.ifs H;obtain⟨c4,H⟩:=H;have c4b0:decide (0≤a1)=true:=decide_eq_true c4;clear c4;obtain rfl:=Option.some.inj H;have p282:0≤(a1:Int):=of_decide_eq_true (by first|(with_reducible assumption)|assumption);have q282:a1<(l0.length:Int):=of_decide_eq_true (by first|(with_reducible assumption)|assumption);obtain⟨ad282,e282,hx282_0⟩:=Kd.at_bool HR0.out a1 p282 q282;cases e282;replace p282:=eq_true p282;replace q282:=eq_true q282;go_enter Tryz.func126,Tryz.ntmps126
  go_wp2
  go_ret
  exact⟨by first|rfl|(simp;done)|(simp[*];done),by repeat (first|exact Drawn0.refl _|apply Drawn0.step)⟩
 ·rw[if_neg c3] at H
  have c3b0:decide (a1<(l0.length:Int))=false:=decide_eq_false c3;clear c3;obtain rfl:=Option.some.inj H;go_enter Tryz.func126,Tryz.ntmps126
  go_wp2
  go_ret
  exact⟨by first|rfl|(simp;done)|(simp[*];done),by repeat (first|exact Drawn0.refl _|apply Drawn0.step)⟩
def foliotref01_cmp.l0:Nat→List Bool→List Bool→Int→Option (Int)
 |0,_,_,_=>none
 |k+1,x0,x1,x5=>if x5≥0 then ((foliotref01_at.f x0 x5).bind fun t283=>((foliotref01_at.f x1 x5).bind fun t284=>(if (t283 != t284)=true then ((foliotref01_at.f x0 x5).bind fun t285=>(if t285=true then (some 1) else (some (-1)))) else (foliotref01_cmp.l0 k x0 x1 (wrap64 (x5-1)))))) else (some 0)
def foliotref01_cmp.f (k:Nat) (l0:List Bool) (l1:List Bool):Option (Int):=foliotref01_cmp.l0 k l0 l1 (wrap64 ((mx (l0.length:Int) (l1.length:Int))-1))
set_option maxHeartbeats 8000000 in
set_option maxRecDepth 100000 in
theorem foliotref01_cmp.calls (k:Nat) (A0:Option Addr) (c0:Nat) (l0:List Bool) (A1:Option Addr) (c1:Nat) (l1:List Bool) (r:Int) (w:World) (hr0:Kd.C Kd.bool w A0 l0.length l0) (hc0:l0.length≤c0) (hr1:Kd.C Kd.bool w A1 l1.length l1) (hc1:l1.length≤c1) (h:foliotref01_cmp.f k l0 l1=some r) :
 Calls Tryz.prog 122 #[.slice A0 l0.length c0,.slice A1 l1.length c1] w fun e w'=>e=.returned (.int .i64 r)∧Below w.heap.size w w':=by
 have HR0:=Aside0.mk hr0;have HC0:=Aside0.mk hc0;clear hr0 hc0;have HR1:=Aside0.mk hr1;have HC1:=Aside0.mk hc1;clear hr1 hc1;have HB:=Aside0.mk (Below.refl w.heap.size w);have H:(foliotref01_cmp.l0 k l0 l1 (wrap64 ((mx (l0.length:Int) (l1.length:Int))-1)))=some r:=h;clear h;obtain⟨ji3,hji3⟩:∃j_:Int,(mx (l0.length:Int) (l1.length:Int))=j_:=⟨_,rfl⟩
 (first|rw[hji3] at H|simp only[hji3] at H)
 (try (have hji3l:0≤ji3:=by (rw[←hji3];unfold mx;(repeat' split)<;>omega)))
 (try (have hji3m:0≤ji3:=by omega))
 have hji3_:(if (l0.length:Int)<(l1.length:Int) then (l1.length:Int) else (l0.length:Int))=ji3:=hji3;have hji3n:(if l0.length<l1.length then (l1.length:Int) else (l0.length:Int))=ji3:=by rw[←hji3_];split<;>split<;>omega
 have hji3d:decide (l0.length<l1.length)=decide ((l0.length:Int)<(l1.length:Int)):=by rw[decide_eq_decide];omega
 have H':=Aside0.mk H;clear H;go_enter Tryz.func122,Tryz.ntmps122
 go_wp2
 go_loopg [5] k (fun kq v5 w'=>∃(x5_1:Int),v5=.int .i64 x5_1∧Aside0 (foliotref01_cmp.l0 kq l0 l1 x5_1=some r)∧Aside0 (kq≤k)∧Aside0 (Below w.heap.size w w'))
 case atStart=>exact⟨(wrap64 ((ji3)-1)),(by first|rfl|(simp;done)|(simp only[←hji3]<;>(first|rfl|simp))|(simp[*];done)),H',⟨Nat.le_refl _⟩,⟨Sq.bl HB⟩⟩
 case round =>
  clear H'
  try clear c1
  try clear p2
  obtain⟨x5_1,rfl,HA,HK1,HB⟩:=hrel;cases gk with
  |zero=>exact absurd HA.out (by simp[foliotref01_cmp.l0])
  |succ k1 =>
   have H:=HA.out;clear HA;simp only[foliotref01_cmp.l0] at H;by_cases c4:x5_1≥0
   ·rw[if_pos c4] at H
    have c4b0:decide (0≤x5_1)=true:=decide_eq_true c4;clear c4;replace H:=Sq.bd H;obtain⟨t283,A5,H⟩:=H
    (try dsimp -simprocs only at H)
    replace H:=Sq.bd H;obtain⟨t284,A6,H⟩:=H
    (try dsimp -simprocs only at H)
    by_cases c7:(t283 != t284)=true
    ·rw[if_pos c7] at H
     have c7b0:(t283 != t284)=true:=c7
     (try (have c7b1:decide (t283=t284)=false:=by simpa using c7))
     (try (have c7b2:(t283==t284)=false:=by simpa using c7))
     (try (have c7b3:¬(t283=t284):=by simpa using c7))
     clear c7;replace H:=Sq.bd H;obtain⟨t285,A8,H⟩:=H
     (try dsimp -simprocs only at H)
     by_cases c9:t285=true
     ·subst c9
      have H1:(some 1)=some r:=by rw[if_pos rfl] at H;exact H
      clear H;have H:=H1;clear H1;obtain rfl:=Option.some.inj H;go_wp2_with (first|((with_reducible refine gate_callee (f:=126) rfl ?_);refine Sq.gl (some 18) Tryz.func126 #[.slice A0 l0.length c0,.int .i64 x5_1] ?_;(with_reducible refine (foliotref01_at.calls _ _ l0 x5_1 t283 _ ?side1 ?side2 A5.out).mono ?_);(case side1=>exact Sq.ca (Kd.C_below HR0.out HB.out));(case side2=>exact HC0.out);rintro e w' ⟨rfl,⟨nd,rfl⟩⟩;refine⟨_,rfl,?_⟩)|((with_reducible refine gate_callee (f:=126) rfl ?_);refine Sq.gl (some 21) Tryz.func126 #[.slice A1 l1.length c1,.int .i64 x5_1] ?_;(with_reducible refine (foliotref01_at.calls _ _ l1 x5_1 t284 _ ?side1 ?side2 A6.out).mono ?_);(case side1=>repeat (first|exact (Kd.C_below HR1.out (Sq.bl HB))|(with_reducible refine Kd.C_alloc ?_ _)|(with_reducible refine Kd.C_drewN ?_ _)|(with_reducible refine Kd.C_drew ?_)));(case side2=>exact HC1.out);rintro e w' ⟨rfl,⟨nd,rfl⟩⟩;refine⟨_,rfl,?_⟩)|((with_reducible refine gate_callee (f:=126) rfl ?_);refine Sq.gl (some 25) Tryz.func126 #[.slice A0 l0.length c0,.int .i64 x5_1] ?_;(with_reducible refine (foliotref01_at.calls _ _ l0 x5_1 true _ ?side1 ?side2 A8.out).mono ?_);(case side1=>repeat (first|exact (Kd.C_below HR0.out (Sq.bl HB))|(with_reducible refine Kd.C_alloc ?_ _)|(with_reducible refine Kd.C_drewN ?_ _)|(with_reducible refine Kd.C_drew ?_)));(case side2=>exact HC0.out);rintro e w' ⟨rfl,⟨nd,rfl⟩⟩;refine⟨_,rfl,?_⟩))
      go_ret
      exact⟨by first|rfl|(simp[errW_none,errW_some]<;>rfl)|(simp only[←hji3];first|rfl|(simp[errW_none,errW_some]<;>rfl))|(simp[*,errW_none,errW_some]<;>rfl),Sq.bl HB⟩
     ·replace c9:=Bool.eq_false_iff.mpr c9
      subst c9;have H1:(some (-1))=some r:=by rw[if_neg (show ¬(false=true) by decide)] at H;exact H
      clear H;have H:=H1;clear H1;obtain rfl:=Option.some.inj H;go_wp2_with (first|((with_reducible refine gate_callee (f:=126) rfl ?_);refine Sq.gl (some 18) Tryz.func126 #[.slice A0 l0.length c0,.int .i64 x5_1] ?_;(with_reducible refine (foliotref01_at.calls _ _ l0 x5_1 t283 _ ?side1 ?side2 A5.out).mono ?_);(case side1=>exact Sq.ca (Kd.C_below HR0.out HB.out));(case side2=>exact HC0.out);rintro e w' ⟨rfl,⟨nd,rfl⟩⟩;refine⟨_,rfl,?_⟩)|((with_reducible refine gate_callee (f:=126) rfl ?_);refine Sq.gl (some 21) Tryz.func126 #[.slice A1 l1.length c1,.int .i64 x5_1] ?_;(with_reducible refine (foliotref01_at.calls _ _ l1 x5_1 t284 _ ?side1 ?side2 A6.out).mono ?_);(case side1=>repeat (first|exact (Kd.C_below HR1.out (Sq.bl HB))|(with_reducible refine Kd.C_alloc ?_ _)|(with_reducible refine Kd.C_drewN ?_ _)|(with_reducible refine Kd.C_drew ?_)));(case side2=>exact HC1.out);rintro e w' ⟨rfl,⟨nd,rfl⟩⟩;refine⟨_,rfl,?_⟩)|((with_reducible refine gate_callee (f:=126) rfl ?_);refine Sq.gl (some 25) Tryz.func126 #[.slice A0 l0.length c0,.int .i64 x5_1] ?_;(with_reducible refine (foliotref01_at.calls _ _ l0 x5_1 false _ ?side1 ?side2 A8.out).mono ?_);(case side1=>repeat (first|exact (Kd.C_below HR0.out (Sq.bl HB))|(with_reducible refine Kd.C_alloc ?_ _)|(with_reducible refine Kd.C_drewN ?_ _)|(with_reducible refine Kd.C_drew ?_)));(case side2=>exact HC0.out);rintro e w' ⟨rfl,⟨nd,rfl⟩⟩;refine⟨_,rfl,?_⟩))
      go_ret
      exact⟨by first|rfl|(simp[errW_none,errW_some]<;>rfl)|(simp only[←hji3];first|rfl|(simp[errW_none,errW_some]<;>rfl))|(simp[*,errW_none,errW_some]<;>rfl),Sq.bl HB⟩
    ·rw[if_neg c7] at H
     have c7b0:(t283 != t284)=false:=by simpa using c7
     (try (have c7b1:decide (t283=t284)=true:=by simpa using c7))
     (try (have c7b2:(t283==t284)=true:=by simpa using c7))
     clear c7;have H':=Aside0.mk H;clear H;go_wp2_with (first|((with_reducible refine gate_callee (f:=126) rfl ?_);refine Sq.gl (some 18) Tryz.func126 #[.slice A0 l0.length c0,.int .i64 x5_1] ?_;(with_reducible refine (foliotref01_at.calls _ _ l0 x5_1 t283 _ ?side1 ?side2 A5.out).mono ?_);(case side1=>exact Sq.ca (Kd.C_below HR0.out HB.out));(case side2=>exact HC0.out);rintro e w' ⟨rfl,⟨nd,rfl⟩⟩;refine⟨_,rfl,?_⟩)|((with_reducible refine gate_callee (f:=126) rfl ?_);refine Sq.gl (some 21) Tryz.func126 #[.slice A1 l1.length c1,.int .i64 x5_1] ?_;(with_reducible refine (foliotref01_at.calls _ _ l1 x5_1 t284 _ ?side1 ?side2 A6.out).mono ?_);(case side1=>repeat (first|exact (Kd.C_below HR1.out (Sq.bl HB))|(with_reducible refine Kd.C_alloc ?_ _)|(with_reducible refine Kd.C_drewN ?_ _)|(with_reducible refine Kd.C_drew ?_)));(case side2=>exact HC1.out);rintro e w' ⟨rfl,⟨nd,rfl⟩⟩;refine⟨_,rfl,?_⟩))
     go_roundg k1
     case measure=>have:=HK1.out;omega
     case rel=>exact⟨(wrap64 (x5_1-1)),(by first|rfl|(simp;done)|(simp[*];done)),H',⟨by have:=HK1.out;omega⟩,⟨Sq.bl HB⟩⟩
   ·rw[if_neg c4] at H
    have c4b0:decide (0≤x5_1)=false:=decide_eq_false c4;clear c4;obtain rfl:=Option.some.inj H;go_wp2
    go_ret
    exact⟨by first|rfl|(simp[errW_none,errW_some]<;>rfl)|(simp only[←hji3];first|rfl|(simp[errW_none,errW_some]<;>rfl))|(simp[*,errW_none,errW_some]<;>rfl),Sq.bl HB⟩
end Go.Proofs.YtjfkhbkddenfoaaGreat.N
