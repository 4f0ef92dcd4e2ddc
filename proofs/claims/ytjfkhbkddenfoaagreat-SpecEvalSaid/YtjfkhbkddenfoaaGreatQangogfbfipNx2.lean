import Derived.Test.YtjfkhbkddenfoaaGreatQdajcgaonnfNx0
import Derived.Test.YtjfkhbkddenfoaaGreatQphdjdbniokNx1
import Derived.Test.YtjfkhbkddenfoaaGreatQgoapcpfdbnM
set_option linter.unusedVariables false
set_option linter.unusedSimpArgs false
namespace Go.Proofs.YtjfkhbkddenfoaaGreat.N
open Go.RowKit Go.Proofs.YtjfkhbkddenfoaaGreatW.PrintWords Go.Proofs.YtjfkhbkddenfoaaGreatW.PrintLast Go.Proofs.YtjfkhbkddenfoaaGreatW.PrintMore
attribute [local go_sem] max2_int min2_int max_two min_two max_three min_three max_four min_four   -- for this text's walks alone
def nat_small.l0:Nat→List Int→Int→List Int→Int→Int→Option (List Int×Int)
 |0,_,_,_,_,_=>none
 |k+1,x0,x1,x6,x7,x8=>if x8≥0 then (if 0≤x8 then (if x8<(x0.length:Int) then (if (IntKind.u64.wrap (x1))=0 then (none) else (if x8<(x6.length:Int) then (nat_small.l0 k x0 x1 (x6.set (x8:Int).toNat ((IntKind.u64.wrap (Int.tdiv (Go.bits .or .u64 (IntKind.u64.wrap (x7*4294967296)) (IntKind.u64.wrap (rd x0 x8))) (IntKind.u64.wrap (x1))))%4294967296)) (Int.tmod (Go.bits .or .u64 (IntKind.u64.wrap (x7*4294967296)) (IntKind.u64.wrap (rd x0 x8))) (IntKind.u64.wrap (x1))) (wrap64 (x8-1))) else (none))) else (none)) else (none)) else ((nat_cut.f k x6).bind fun t146=>(some (t146,(x7)%4294967296)))
def nat_small.f (k:Nat) (l0:List Int) (a1:Int):Option (List Int×Int):=if 0≤(l0.length:Int) then (if ((l0.length:Int):Int).toNat≤70368744177664 then (nat_small.l0 k l0 a1 (List.replicate ((l0.length:Int):Int).toNat 0) 0 (wrap64 ((l0.length:Int)-1))) else (none)) else (none)
set_option maxHeartbeats 8000000 in
set_option maxRecDepth 100000 in
theorem nat_small.calls (k:Nat) (A0:Option Addr) (c0:Nat) (l0:List Int) (a1:Int) (r1:List Int) (r2:Int) (w:World) (hr0:Kd.C (Kd.int .u32) w A0 l0.length l0) (hc0:l0.length≤c0) (h:nat_small.f k l0 a1=some (r1,r2)) :
 Calls Tryz.prog 111 #[.slice A0 l0.length c0,.int .u32 a1] w fun e w'=>∃v0_:Value,e=.returned (.tuple #[v0_,.int .u32 r2])∧Kd.V (Kd.int .u32) 88 w' w.heap.size (fun k_=>(w.heap.size≤k_)) v0_ r1∧Below w.heap.size w w':=by
 have HR0:=Aside0.mk hr0;have HC0:=Aside0.mk hc0;clear hr0 hc0;have HB:=Aside0.mk (Below.refl w.heap.size w);have H:(if 0≤(l0.length:Int) then (if ((l0.length:Int):Int).toNat≤70368744177664 then (nat_small.l0 k l0 a1 (List.replicate ((l0.length:Int):Int).toNat 0) 0 (wrap64 ((l0.length:Int)-1))) else (none)) else (none))=some (r1,r2):=h;clear h;replace H:=Sq.ifs H;obtain⟨c3,H⟩:=H;have c3b0:=eq_true c3;have c3b1:decide (0≤(l0.length:Int))=true:=decide_eq_true c3;clear c3;replace H:=Sq.ifs H;obtain⟨c4,H⟩:=H;have c4b0:=eq_true c4;have c4b1:decide (((l0.length:Int):Int).toNat≤70368744177664)=true:=decide_eq_true c4;clear c4;obtain⟨y141,hy141⟩:∃y_:List Int,y_=(List.replicate ((l0.length:Int):Int).toNat 0):=⟨_,rfl⟩
 (first|(replace H:=Sq.ny hy141 H;(try dsimp -simprocs only at H))|rw[←hy141] at H|skip)
 have Ny141:=Aside0.mk hy141;clear hy141;have H':=Aside0.mk H;clear H;go_enter Tryz.func111,Tryz.ntmps111
 go_wp2_with (first|((with_reducible refine gate_dst (N:=11) rfl ?_);refine Kd.R_make (Kd.int .u32) _ 88 rfl (N:=11) rfl 22 _ _ rfl (l0.length:Int) rfl rfl Tryz.underlying22 (.int .u32 0) 4 info88 rfl (by decide) (by omega) 0 (ok:=fun _=>True) (okp:=fun _=>True) rfl (fun _ hk=>hk) trivial (of_decide_eq_true (by first|(with_reducible assumption)|assumption)) (Nat.le_trans (Nat.mul_le_mul_right _ (of_decide_eq_true (by first|(with_reducible assumption)|assumption):(l0.length:Int).toNat≤70368744177664)) (by omega)) (Below.refl _ _) (Nat.le_refl _) ?_;intro v142 w5 ho6 hb hg_ hnew_;clear hg_ hnew_;(first|rw[←Ny141.out] at ho6|(simp only[Int.reduceToNat] at ho6;rw[←Ny141.out] at ho6));have HO143:=Aside0.mk (Kd.R_lower (Kd.R_newM (M:=fun k_=>(w.heap.size≤k_)) ho6 (below_size (Sq.bl HB)) (fun k_ h_=>h_)) (below_size (Sq.bl HB)));replace HB:=Sq.bs HB hb;clear hb ho6))
 go_loopg [7,8] k (fun kq v7 v8 w'=>∃(x6_1:List Int) (x7_1:Int) (x8_1:Int),v7=.int .u64 x7_1∧v8=.int .i64 x8_1∧Aside0 (nat_small.l0 kq l0 a1 x6_1 x7_1 x8_1=some (r1,r2))∧Aside0 (kq≤k)∧Aside0 (Kd.R (Kd.int .u32) 88 w' w.heap.size (fun k_=>(w.heap.size≤k_)) v142 x6_1)∧Aside0 (Below w.heap.size w w'))
 case atStart=>exact⟨(y141),(0),(wrap64 ((l0.length:Int)-1)),(by first|rfl|(simp;done)|(simp[*];done)),(by first|rfl|(simp;done)|(simp[*];done)),H',⟨Nat.le_refl _⟩,⟨by (with_reducible repeat (first|apply Kd.R_alloc|apply Kd.R_drewN|apply Kd.R_drew));exact Kd.R_mono HO143.out (fun _ hk=>hk.1)⟩,⟨Sq.bl HB⟩⟩
 case round =>
  clear H'
  try clear c1
  try clear p2
  try clear c3
  try clear c3b0
  try clear c3b1
  try clear c4
  try clear c4b0
  try clear c4b1
  try clear p6
  obtain⟨x6_1,x7_1,x8_1,rfl,rfl,HA,HK1,HO_6,HB⟩:=hrel;cases gk with
  |zero=>exact absurd HA.out (by simp[nat_small.l0])
  |succ k1 =>
   have H:=HA.out;clear HA;simp only[nat_small.l0] at H;by_cases c7:x8_1≥0
   ·rw[if_pos c7] at H
    have c7b0:decide (0≤x8_1)=true:=decide_eq_true c7;clear c7;replace H:=Sq.ifs H;obtain⟨c8,H⟩:=H;have c8b0:decide (0≤x8_1)=true:=decide_eq_true c8;clear c8;replace H:=Sq.ifs H;obtain⟨c9,H⟩:=H;have c9b0:decide (x8_1<(l0.length:Int))=true:=decide_eq_true c9;clear c9;replace H:=Sq.ifn H;obtain⟨c10,H⟩:=H;have c10b0:((IntKind.u64.wrap (a1))==0)=false:=beq_eq_false_iff_ne.mpr c10;have c10b1:((IntKind.u64.wrap (a1)) != 0)=true:=bne_iff_ne.mpr c10;replace H:=Sq.ifs H;obtain⟨c11,H⟩:=H;have c11b0:decide (x8_1<(x6_1.length:Int))=true:=decide_eq_true c11;clear c11;obtain⟨y145,hy145⟩:∃y_:List Int,y_=(x6_1.set (x8_1:Int).toNat ((IntKind.u64.wrap (Int.tdiv (Go.bits .or .u64 (IntKind.u64.wrap (x7_1*4294967296)) (IntKind.u64.wrap (rd l0 x8_1))) (IntKind.u64.wrap (a1))))%4294967296)):=⟨_,rfl⟩
    (first|(replace H:=Sq.ny hy145 H;(try dsimp -simprocs only at H))|rw[←hy145] at H|skip)
    have Ny145:=Aside0.mk hy145;clear hy145;have H':=Aside0.mk H;clear H;have p144:0≤(x8_1:Int):=of_decide_eq_true (by first|(with_reducible assumption)|assumption);have q144:x8_1<(l0.length:Int):=of_decide_eq_true (by first|(with_reducible assumption)|assumption);obtain⟨ad144,e144,hx144_0⟩:=Kd.at_int HR0.out x8_1 p144 q144;cases e144;replace hx144_0:=(HB.out.cell (World.block_lt_of_cell? w _ hx144_0)).trans hx144_0;replace p144:=eq_true p144;replace q144:=eq_true q144;have p12:0≤(x8_1:Int):=of_decide_eq_true (by first|(with_reducible assumption)|assumption);have q12:(x8_1:Int)<((x6_1.length:Int):Int):=of_decide_eq_true (by first|(with_reducible assumption)|assumption);obtain⟨go12,co12,eo12,gb12,gl12,cl12,HG12⟩:=Kd.R_form HO_6.out (by omega)
    (first|cases eo12|(injection eo12 with ea_ en_ ec_;(first|subst ea_|(injection ea_ with ea_;subst ea_));subst ec_;clear en_))
    have GB12:=Aside0.mk gb12;have GG12:=Aside0.mk HG12;clear gb12 gl12 HG12;obtain⟨hx12_0,hf12_0⟩:=Kd.R_celln 0 HO_6.out (x8_1:Int) p12 q12;replace p12:=eq_true p12;replace q12:=eq_true q12;have HP13:=Kd.R_putg HO_6.out (x8_1:Int) ((IntKind.u64.wrap (Int.tdiv (Go.bits .or .u64 (IntKind.u64.wrap (x7_1*4294967296)) (IntKind.u64.wrap (rd l0 x8_1))) (IntKind.u64.wrap (a1))))%4294967296);go_wp2_with (first|((with_reducible refine gate_store (t:=88) (p:=34) rfl ?_);refine store_event (t:=88) (p:=34) (v:=?vo_w14) (w1:=(wr.setCell ⟨go12,(x8_1:Int).toNat,none⟩ (.int .u32 ((IntKind.u64.wrap (Int.tdiv (Go.bits .or .u64 (IntKind.u64.wrap (x7_1*4294967296)) (IntKind.u64.wrap (rd l0 x8_1))) (IntKind.u64.wrap (a1))))%4294967296)))) ?hg ?ho ?hn ?hr ?_;(case ho=>rfl);(case hg=>rfl);(case hn=>rfl);(case hr=>first|(go_simp;done)|(go_simp;rfl));intro w14 hw;have hg:wr.grownBy w14 (some go12):=(by rw[hw];exact HP13.2);have hp_:Kd.R (Kd.int .u32) 88 w14 w.heap.size (fun k_=>(w.heap.size≤k_)) (.slice (some ⟨go12,0,none⟩) x6_1.length co12) y145:=(by rw[hw,Ny145.out];exact HP13.1);clear HP13;replace HO_6:=Aside0.mk (hp_);replace HB:=Aside0.mk ((by rw[hw];exact below_set (HB.out) GB12.out:Below w.heap.size w w14));clear hg hw hp_))
    go_roundg k1
    case measure=>have:=HK1.out;omega
    case rel=>exact⟨(y145),(Int.tmod (Go.bits .or .u64 (IntKind.u64.wrap (x7_1*4294967296)) (IntKind.u64.wrap (rd l0 x8_1))) (IntKind.u64.wrap (a1))),(wrap64 (x8_1-1)),(by first|rfl|(simp;done)|(simp[*];done)),(by first|rfl|(simp;done)|(simp[*];done)),H',⟨by have:=HK1.out;omega⟩,⟨by (with_reducible repeat (first|apply Kd.R_alloc|apply Kd.R_drewN|apply Kd.R_drew));exact HO_6.out⟩,⟨Sq.bl HB⟩⟩
   ·rw[if_neg c7] at H
    have c7b0:decide (0≤x8_1)=false:=decide_eq_false c7;clear c7;replace H:=Sq.bd H;obtain⟨t146,A15,H⟩:=H
    (try dsimp -simprocs only at H)
    simp only[Option.some.injEq,Prod.mk.injEq] at H;obtain⟨rfl,rfl⟩:=H;obtain⟨Ao16,co16,eo16⟩:=Kd.R_slice HO_6.out;subst eo16;go_wp2_with (first|((with_reducible refine gate_callee (f:=86) rfl ?_);refine Sq.gl (some 40) Tryz.func86 #[.slice Ao16 x6_1.length co16] ?_;(with_reducible refine (nat_cut.calls k1 (fun k_=>some k_=(.slice Ao16 x6_1.length co16:Value).ownBlock) _ _ x6_1 t146 _ ?side1 A15.out).mono ?_);(case side1=>exact Kd.R_V (Kd.R_tight rfl (HO_6.out)));rintro e w17 ⟨v147,rfl,ho0,hb⟩;refine⟨_,rfl,?_⟩;have HO148:=Aside0.mk (Kd.V_lower (Kd.V_mono (ok':=fun k_=>(w.heap.size≤k_)) ho0 (fun k_ hk_=>Or.elim hk_ (fun hs_=>((HO_6.out).1 k_ hs_.symm)) (fun hn_=>(Nat.le_trans (below_size (Sq.bl HB)) hn_)))) (below_size (Sq.bl HB)));replace HO_6:=Aside0.mk (Kd.R_below (Sq.al HO_6) hb);replace HB:=Sq.bs HB hb;(try clear hb);(try clear hb2);(try clear hk);(try clear hi);(try clear ho0)))
    go_ret2
    exact⟨_,by first|rfl|(simp[errW_none,errW_some]<;>rfl)|(simp[*,errW_none,errW_some]<;>rfl),by (with_reducible repeat (first|apply Kd.V_alloc|apply Kd.V_drewN|apply Kd.V_drew));exact HO148.out,Sq.bl HB⟩
def bits_LeadingZeros32.f (a0:Int):Option (Int):=(bits_Len32.f a0).bind fun t149=>(some (wrap64 (32-t149)))
set_option maxHeartbeats 8000000 in
set_option maxRecDepth 100000 in
theorem bits_LeadingZeros32.calls (a0:Int) (r:Int) (w:World) (h:bits_LeadingZeros32.f a0=some r) :
 Calls Tryz.prog 112 #[.int .u32 a0] w fun e w'=>e=.returned (.int .i64 r)∧Drawn0 w w':=by
 have H:((bits_Len32.f a0).bind fun t149=>(some (wrap64 (32-t149))))=some r:=h;clear h;replace H:=Sq.bd H;obtain⟨t149,A2,H⟩:=H
 (try dsimp -simprocs only at H)
 obtain rfl:=Option.some.inj H;go_enter Tryz.func112,Tryz.ntmps112
 go_wp2_with (first|((with_reducible refine gate_callee (f:=87) rfl ?_);refine Sq.gl (some 4) Tryz.func87 #[.int .u32 a0] ?_;(with_reducible refine (bits_Len32.calls a0 t149 _ A2.out).mono ?_);rintro e w' ⟨rfl,⟨nd,rfl⟩⟩;refine⟨_,rfl,?_⟩))
 go_ret
 exact⟨by first|rfl|(simp;done)|(simp[*];done),by repeat (first|exact Drawn0.refl _|apply Drawn0.step)⟩
theorem nat_left.R_makeCap {P:Program} {ops:Array Oper} {rest:List Oper} {o:Oper} {a:Act} {Q:Exit→Act→World→Prop} {α:Type} (d:Kd α) {w0 W:World} (base e:Nat) (hgd:o.guard=none) (t:TypeId) (x y:Operand) (ho:o.op=.makeSlice t x y) (n:Int) (hx:a.eval x=.int .i64 0) (hy:a.eval y=.int .i64 n)
 (ht:P.underlying t=some (.slice e)) (z:Value) (bytes:Nat) (hinfo:(P.info? e).map (fun i=>(i.zero,i.size,i.bytes))=some (some z,d.sz,bytes)) (hb0:0<bytes)
 {ok:Nat→Prop} (hfresh:ok W.heap.size) (h0:0≤n) (hl:n.toNat*bytes≤281474976710656) (HB:Below base w0 W) (hbase:base≤W.heap.size)
 (xs:List α) (hxs:xs=[]) (h:∀v1 w1,d.R e w1 base ok v1 xs→Below base w0 w1→W.grownBy w1 none→(∃b,v1.ownBlock=some b∧W.heap.size≤b)→wpList P ops Q rest (a.put o.dst v1) w1):wpList P ops Q (o::rest) a W:=by
 subst hxs;obtain⟨m,rfl⟩:=Int.eq_ofNat_of_zero_le h0;simp only[Int.toNat_natCast] at hl;obtain⟨i0,hi,hzz⟩:=Option.map_eq_some_iff.1 hinfo;simp only[Prod.mk.injEq] at hzz;obtain⟨hz0,hz1,hz2⟩:=hzz;have hm:m≤281474976710656:=Nat.le_trans (Nat.le_mul_of_pos_right _ hb0) hl;obtain⟨w',hr,hown,hgr⟩:=run_make_own W base t e i0 z d.sz ht hi hz0 hz1 .i64 .i64 m (by rw[hz2,Nat.mul_comm];exact hl) (by simp only[maxLen];omega) hbase;refine Kd.event_run hgd (by simp[execOp,ho,hx,hy,hr]) (h _ _ ⟨fun k hk=>?_,[],hown,?_⟩ (HB.grown hgr hbase (by simp)) hgr ⟨W.heap.size,by simp[Value.ownBlock],Nat.le_refl _⟩)
 ·have:W.heap.size=k:=by simpa[Value.ownBlock] using hk
  subst this;exact hfresh
 ·exact Reps.none _ _
def nat_left.l0:Nat→Int→List Int→Int→List Int→Int→Int→Option (List Int)
 |0,_,_,_,_,_,_=>none
 |k+1,x1,x5,x6,x13,x14,x15=>if x15<x14 then (if 0≤x15 then (if x15<(x13.length:Int) then (if 0≤x1 then (if x5.length<35184372088832 then (nat_left.l0 k x1 (x5++[(Go.bits .or .u64 x6 (shl .u64 (IntKind.u64.wrap (rd x13 x15)) x1))%4294967296]) ((Go.bits .or .u64 x6 (shl .u64 (IntKind.u64.wrap (rd x13 x15)) x1))/4294967296) x13 x14 (wrap64 (x15+1))) else (none)) else (none)) else (none)) else (none)) else (if x5.length<35184372088832 then (some (x5++[(x6)%4294967296])) else (none))
def nat_left.f (k:Nat) (l0:List Int) (a1:Int):Option (List Int):=if l0.length+1≤70368744177664 then (nat_left.l0 k a1 (List.replicate 0 0) 0 l0 (l0.length:Int) 0) else (none)
set_option maxHeartbeats 8000000 in
set_option maxRecDepth 100000 in
theorem nat_left.calls (k:Nat) (A0:Option Addr) (c0:Nat) (l0:List Int) (a1:Int) (r:List Int) (w:World) (hr0:Kd.C (Kd.int .u32) w A0 l0.length l0) (hc0:l0.length≤c0) (h:nat_left.f k l0 a1=some r) :
 Calls Tryz.prog 113 #[.slice A0 l0.length c0,.int .i64 a1] w fun e w'=>∃v0_:Value,e=.returned (v0_)∧Kd.R (Kd.int .u32) 88 w' w.heap.size (fun _=>True) v0_ r∧Below w.heap.size w w':=by
 have HR0:=Aside0.mk hr0;have HC0:=Aside0.mk hc0;clear hr0 hc0;have HB:=Aside0.mk (Below.refl w.heap.size w);have H:(if l0.length+1≤70368744177664 then (nat_left.l0 k a1 (List.replicate 0 0) 0 l0 (l0.length:Int) 0) else (none))=some r:=h;clear h;replace H:=Sq.ifs H;obtain⟨c3,H⟩:=H;have c3b0:=eq_true c3;have c3b1:decide (l0.length+1≤70368744177664)=true:=decide_eq_true c3;obtain⟨y150,hy150⟩:∃y_:List Int,y_=(List.replicate 0 0):=⟨_,rfl⟩
 (first|(replace H:=Sq.ny hy150 H;(try dsimp -simprocs only at H))|rw[←hy150] at H|skip)
 have Ny150:=Aside0.mk hy150;clear hy150;have H':=Aside0.mk H;clear H;go_enter Tryz.func113,Tryz.ntmps113
 go_wp2_with (first|((with_reducible refine gate_dst (N:=12) rfl ?_);refine nat_left.R_makeCap (Kd.int .u32) _ 88 rfl 22 _ _ rfl ((l0.length:Int)+1) rfl rfl Tryz.underlying22 (.int .u32 0) 4 info88 (by omega) (ok:=fun _=>True) trivial (by omega) (by omega) (Below.refl _ _) (Nat.le_refl _) y150 (Ny150.out.trans rfl) ?_;clear c3 c3b0 c3b1;intro v151 w4 ho5 hb hg_ hnew_;clear hg_ hnew_;have HO152:=Aside0.mk (Kd.R_lower ho5 (below_size (Sq.bl HB)));replace HB:=Sq.bs HB hb;clear hb ho5))
 go_loopg [5,6,15] k (fun kq v5 v6 v15 w'=>∃(x5_1:List Int) (x6_1:Int) (x15_1:Int),v6=.int .u64 x6_1∧v15=.int .i64 x15_1∧Aside0 (nat_left.l0 kq a1 x5_1 x6_1 l0 (l0.length:Int) x15_1=some r)∧Aside0 (kq≤k)∧Aside0 (Kd.R (Kd.int .u32) 88 w' w.heap.size (fun _=>True) v5 x5_1)∧Aside0 (Below w.heap.size w w'))
 case atStart=>exact⟨(y150),(0),(0),(by first|rfl|(simp;done)|(simp[*];done)),(by first|rfl|(simp;done)|(simp[*];done)),H',⟨Nat.le_refl _⟩,⟨by (with_reducible repeat (first|apply Kd.R_alloc|apply Kd.R_drewN|apply Kd.R_drew));exact HO152.out⟩,⟨Sq.bl HB⟩⟩
 case round =>
  clear H'
  try clear c1
  try clear p2
  try clear c3
  try clear c3b0
  try clear c3b1
  obtain⟨x5_1,x6_1,x15_1,rfl,rfl,HA,HK1,HO_5,HB⟩:=hrel;cases gk with
  |zero=>exact absurd HA.out (by simp[nat_left.l0])
  |succ k1 =>
   have H:=HA.out;clear HA;simp only[nat_left.l0] at H;by_cases c6:x15_1<(l0.length:Int)
   ·rw[if_pos c6] at H
    have c6b0:decide (x15_1<(l0.length:Int))=true:=decide_eq_true c6;clear c6;replace H:=Sq.ifs H;obtain⟨c7,H⟩:=H;have c7b0:decide (0≤x15_1)=true:=decide_eq_true c7;clear c7;replace H:=Sq.ifs H;obtain⟨c8,H⟩:=H;have c8b0:decide (x15_1<(l0.length:Int))=true:=decide_eq_true c8;clear c8;replace H:=Sq.ifs H;obtain⟨c9,H⟩:=H;have c9b0:=eq_true c9;have c9b1:decide (0≤a1)=true:=decide_eq_true c9;clear c9;obtain⟨ji10,hji10⟩:∃j_:Int,(shl .u64 (IntKind.u64.wrap (rd l0 x15_1)) a1)=j_:=⟨_,rfl⟩
    (first|rw[hji10] at H|simp only[hji10] at H)
    have hji10_:(IntKind.u64.wrap ((IntKind.u64.wrap (rd l0 x15_1))*2 ^ min a1.toNat 64))=ji10:=hji10;have hji10z:a1≤64→(IntKind.u64.wrap ((IntKind.u64.wrap (rd l0 x15_1))*2 ^ a1.toNat))=ji10:=shl_small hji10;replace H:=Sq.ifs H;obtain⟨c11,H⟩:=H;have LMc11:=Aside0.mk c11;clear c11;obtain⟨y154,hy154⟩:∃y_:List Int,y_=(x5_1++[(Go.bits .or .u64 x6_1 (ji10))%4294967296]):=⟨_,rfl⟩
    (first|(replace H:=Sq.ny hy154 H;(try dsimp -simprocs only at H))|rw[←hy154] at H|skip)
    have Ny154:=Aside0.mk hy154;clear hy154;have H':=Aside0.mk H;clear H;have p153:0≤(x15_1:Int):=of_decide_eq_true (by first|(with_reducible assumption)|assumption);have q153:x15_1<(l0.length:Int):=of_decide_eq_true (by first|(with_reducible assumption)|assumption);obtain⟨ad153,e153,hx153_0⟩:=Kd.at_int HR0.out x15_1 p153 q153;cases e153;replace hx153_0:=(HB.out.cell (World.block_lt_of_cell? w _ hx153_0)).trans hx153_0;replace p153:=eq_true p153;replace q153:=eq_true q153;go_wp2_with (first|((with_reducible refine gate_builtin (b:=.append) (xs:=#[.tmp 25,.tmp 28]) rfl ?_);at_builtin;refine Kd.R_append (Kd.int .u32) (w0:=w) w.heap.size rfl (.tmp 25) (.tmp 28) 22 88 (.int .u32 0) 4 rfl Tryz.underlying22 info88 rfl (by decide) (by omega) u5 x5_1 ((Go.bits .or .u64 x6_1 (ji10))%4294967296) [.int .u32 ((Go.bits .or .u64 x6_1 (ji10))%4294967296)] (fun _=>True) (fun _=>False) rfl rfl ?aP (fun _ hk=>hk.elim) ?aF ?aO ?aB ?aS ?aL ?_;(case aP=>exact rfl);(case aB=>exact (Sq.bl HB));(case aF=>exact (fun _ _=>trivial));(case aO=>exact (Sq.al HO_5));(case aS=>exact (below_size (Sq.bl HB)));(case aL=>have:=LMc11.out;omega);intro v155 w12 ho hb hg hat;rw[←Ny154.out] at ho;replace HB:=Aside0.mk (hb);have HO156:=Aside0.mk (ho);clear HO_5;clear ho hb hg hat))
    go_roundg k1
    case measure=>have:=HK1.out;omega
    case rel=>exact⟨(y154),((Go.bits .or .u64 x6_1 (ji10))/4294967296),(wrap64 (x15_1+1)),(by first|rfl|(simp;done)|(simp only[←hji10]<;>(first|rfl|simp))|(simp[*];done)),(by first|rfl|(simp;done)|(simp[*];done)),H',⟨by have:=HK1.out;omega⟩,⟨by (with_reducible repeat (first|apply Kd.R_alloc|apply Kd.R_drewN|apply Kd.R_drew));exact HO156.out⟩,⟨Sq.bl HB⟩⟩
   ·rw[if_neg c6] at H
    have c6b0:decide (x15_1<(l0.length:Int))=false:=decide_eq_false c6;clear c6;replace H:=Sq.ifs H;obtain⟨c13,H⟩:=H;have LMc13:=Aside0.mk c13;clear c13;obtain⟨y157,hy157⟩:∃y_:List Int,y_=(x5_1++[(x6_1)%4294967296]):=⟨_,rfl⟩
    (first|(replace H:=Sq.ny hy157 H;(try dsimp -simprocs only at H))|rw[←hy157] at H|skip)
    have Ny157:=Aside0.mk hy157;clear hy157;obtain rfl:=Option.some.inj H;go_wp2_with (first|((with_reducible refine gate_builtin (b:=.append) (xs:=#[.tmp 33,.tmp 36]) rfl ?_);at_builtin;refine Kd.R_append (Kd.int .u32) (w0:=w) w.heap.size rfl (.tmp 33) (.tmp 36) 22 88 (.int .u32 0) 4 rfl Tryz.underlying22 info88 rfl (by decide) (by omega) u5 x5_1 ((x6_1)%4294967296) [.int .u32 ((x6_1)%4294967296)] (fun _=>True) (fun _=>False) rfl rfl ?aP (fun _ hk=>hk.elim) ?aF ?aO ?aB ?aS ?aL ?_;(case aP=>exact rfl);(case aB=>exact (Sq.bl HB));(case aF=>exact (fun _ _=>trivial));(case aO=>exact (Sq.al HO_5));(case aS=>exact (below_size (Sq.bl HB)));(case aL=>have:=LMc13.out;omega);intro v158 w14 ho hb hg hat;rw[←Ny157.out] at ho;replace HB:=Aside0.mk (hb);have HO159:=Aside0.mk (ho);clear HO_5;clear ho hb hg hat))
    go_ret
    exact⟨_,by first|rfl|(simp[errW_none,errW_some]<;>rfl)|(simp[*,errW_none,errW_some]<;>rfl),by (with_reducible repeat (first|apply Kd.R_alloc|apply Kd.R_drewN|apply Kd.R_drew));exact HO159.out,Sq.bl HB⟩
mutual
def nat_take.l0:Nat→List Int→List Int→Int→Int→Int→Int→Int→Int→Option (Int×List Int)
 |0,_,_,_,_,_,_,_,_=>none
 |k+1,x0,x1,x2,x3,x9,x10,x16,x17=>if x17<x16 then (if x17<(x1.length:Int) then (if 0≤x17 then (if 0≤(wrap64 (x2+x17)) then (if (wrap64 (x2+x17))<(x0.length:Int) then (nat_take.l0 k (x0.set ((wrap64 (x2+x17)):Int).toNat ((IntKind.u64.wrap ((IntKind.u64.wrap ((IntKind.u64.wrap (rd x0 (wrap64 (x2+x17))))-(Go.bits .and .u64 (IntKind.u64.wrap (x9+(IntKind.u64.wrap (x3*(IntKind.u64.wrap (rd x1 x17)))))) 4294967295)))-x10))%4294967296)) x1 x2 x3 ((IntKind.u64.wrap (x9+(IntKind.u64.wrap (x3*(IntKind.u64.wrap (rd x1 x17))))))/4294967296) ((IntKind.u64.wrap ((IntKind.u64.wrap ((IntKind.u64.wrap (rd x0 (wrap64 (x2+x17))))-(Go.bits .and .u64 (IntKind.u64.wrap (x9+(IntKind.u64.wrap (x3*(IntKind.u64.wrap (rd x1 x17)))))) 4294967295)))-x10))/9223372036854775808) x16 (wrap64 (x17+1))) else (none)) else (none)) else (none)) else (if 0≤(wrap64 (x2+x17)) then (if (wrap64 (x2+x17))<(x0.length:Int) then (nat_take.l0 k (x0.set ((wrap64 (x2+x17)):Int).toNat ((IntKind.u64.wrap ((IntKind.u64.wrap ((IntKind.u64.wrap (rd x0 (wrap64 (x2+x17))))-(Go.bits .and .u64 x9 4294967295)))-x10))%4294967296)) x1 x2 x3 (x9/4294967296) ((IntKind.u64.wrap ((IntKind.u64.wrap ((IntKind.u64.wrap (rd x0 (wrap64 (x2+x17))))-(Go.bits .and .u64 x9 4294967295)))-x10))/9223372036854775808) x16 (wrap64 (x17+1))) else (none)) else (none))) else (if x10=0 then (some ((x3)%4294967296,x0)) else (nat_take.l1 k x0 x1 x2 x3 0 (wrap64 ((x1.length:Int)+1)) 0))
def nat_take.l1:Nat→List Int→List Int→Int→Int→Int→Int→Int→Option (Int×List Int)
 |0,_,_,_,_,_,_,_=>none
 |k+1,x0,x1,x2,x3,x9,x63,x64=>if x64<x63 then (if 0≤(wrap64 (x2+x64)) then (if (wrap64 (x2+x64))<(x0.length:Int) then (if x64<(x1.length:Int) then (if 0≤x64 then (nat_take.l1 k (x0.set ((wrap64 (x2+x64)):Int).toNat ((IntKind.u64.wrap ((IntKind.u64.wrap (x9+(IntKind.u64.wrap (rd x0 (wrap64 (x2+x64))))))+(IntKind.u64.wrap (rd x1 x64))))%4294967296)) x1 x2 x3 ((IntKind.u64.wrap ((IntKind.u64.wrap (x9+(IntKind.u64.wrap (rd x0 (wrap64 (x2+x64))))))+(IntKind.u64.wrap (rd x1 x64))))/4294967296) x63 (wrap64 (x64+1))) else (none)) else (nat_take.l1 k (x0.set ((wrap64 (x2+x64)):Int).toNat ((IntKind.u64.wrap (x9+(IntKind.u64.wrap (rd x0 (wrap64 (x2+x64))))))%4294967296)) x1 x2 x3 ((IntKind.u64.wrap (x9+(IntKind.u64.wrap (rd x0 (wrap64 (x2+x64))))))/4294967296) x63 (wrap64 (x64+1)))) else (none)) else (none)) else (some ((IntKind.u64.wrap (x3-1))%4294967296,x0))
end
def nat_take.f (k:Nat) (l0:List Int) (l1:List Int) (a2:Int) (a3:Int):Option (Int×List Int):=nat_take.l0 k l0 l1 a2 a3 0 0 (wrap64 ((l1.length:Int)+1)) 0
set_option maxHeartbeats 8000000 in
set_option maxRecDepth 100000 in
theorem nat_take.calls (k:Nat) (P0_:Nat→Prop) (u9000_:Value) (l0:List Int) (A1:Option Addr) (c1:Nat) (l1:List Int) (a2:Int) (a3:Int) (r1:Int) (r2:List Int) (w0 w:World) (hB:Below w0.heap.size w0 w) (ho0:Kd.R (Kd.int .u32) 88 w w0.heap.size P0_ u9000_ l0) (hr1:∀W_,Kept w W_ (fun k_=>P0_ k_)→Kd.C (Kd.int .u32) W_ A1 l1.length l1) (hc1:l1.length≤c1) (h:nat_take.f k l0 l1 a2 a3=some (r1,r2)) :
 Calls Tryz.prog 114 #[u9000_,.slice A1 l1.length c1,.int .i64 a2,.int .u64 a3] w fun e w'=>e=.returned (.int .u32 r1)∧Kd.R (Kd.int .u32) 88 w' w0.heap.size (fun k_=>(P0_ k_∨w.heap.size≤k_)) u9000_ r2∧Below w0.heap.size w0 w'∧Kept w w' (fun k_=>P0_ k_):=by
 have HO0:=Aside0.mk (show Kd.R (Kd.int .u32) 88 w w0.heap.size (fun k_=>(P0_ k_∨w.heap.size≤k_)) u9000_ l0 from Kd.R_mono ho0 (fun k_ hk=>(.inl hk)));have HR1:=Aside0.mk hr1;have HC1:=Aside0.mk hc1;clear hr1 hc1;have HK:=Aside0.mk (Kept.refl w (fun k_=>P0_ k_));have HW0:=Aside0.mk hB.size;have HB:=Aside0.mk hB;clear hB;have H:(nat_take.l0 k l0 l1 a2 a3 0 0 (wrap64 ((l1.length:Int)+1)) 0)=some (r1,r2):=h;clear h;have H':=Aside0.mk H;clear H;go_enter Tryz.func114,Tryz.ntmps114
 go_wp2
 go_loopg [9,10,17] k (fun kq v9 v10 v17 w'=>∃(x0_1:List Int) (x9_1:Int) (x10_1:Int) (x17_1:Int),v9=.int .u64 x9_1∧v10=.int .u64 x10_1∧v17=.int .i64 x17_1∧Aside0 (nat_take.l0 kq x0_1 l1 a2 a3 x9_1 x10_1 (wrap64 ((l1.length:Int)+1)) x17_1=some (r1,r2))∧Aside0 (kq≤k)∧Aside0 (Kd.R (Kd.int .u32) 88 w' w0.heap.size (fun k_=>(P0_ k_∨w.heap.size≤k_)) u9000_ x0_1)∧Aside0 (Kept w w' (fun k_=>P0_ k_))∧Aside0 (Below w0.heap.size w0 w'))
 case atStart=>exact⟨(l0),(0),(0),(0),(by first|rfl|(simp;done)|(simp[*];done)),(by first|rfl|(simp;done)|(simp[*];done)),(by first|rfl|(simp;done)|(simp[*];done)),H',⟨Nat.le_refl _⟩,⟨by (with_reducible repeat (first|apply Kd.R_alloc|apply Kd.R_drewN|apply Kd.R_drew));exact HO0.out⟩,⟨by repeat (first|(with_reducible first|exact HK.out|apply Kept.alloc|apply Kept.drewN|apply Kept.drew)|exact HK.out)⟩,⟨Sq.bl HB⟩⟩
 case round =>
  clear H'
  try clear c1
  try clear p2
  obtain⟨x0_1,x9_1,x10_1,x17_1,rfl,rfl,rfl,HA,HK1,HO_0,HK,HB⟩:=hrel;cases gk with
  |zero=>exact absurd HA.out (by simp[nat_take.l0])
  |succ k1 =>
   have H:=HA.out;clear HA;simp only[nat_take.l0] at H;by_cases c5:x17_1<(wrap64 ((l1.length:Int)+1))
   ·rw[if_pos c5] at H
    have c5b0:decide (x17_1<(wrap64 ((l1.length:Int)+1)))=true:=decide_eq_true c5;clear c5;by_cases c6:x17_1<(l1.length:Int)
    ·rw[if_pos c6] at H
     have c6b0:decide (x17_1<(l1.length:Int))=true:=decide_eq_true c6;clear c6;replace H:=Sq.ifs H;obtain⟨c7,H⟩:=H;have c7b0:decide (0≤x17_1)=true:=decide_eq_true c7;clear c7;obtain⟨ji8,hji8⟩:∃j_:Int,(wrap64 (a2+x17_1))=j_:=⟨_,rfl⟩
     (first|rw[hji8] at H|simp only[hji8] at H)
     have hji8w:(IntKind.i64.wrap (a2+x17_1))=ji8:=(i64_w _).trans hji8;replace H:=Sq.ifs H;obtain⟨c9,H⟩:=H;have c9b0:decide (0≤(ji8))=true:=decide_eq_true c9;clear c9;replace H:=Sq.ifs H;obtain⟨c10,H⟩:=H;have c10b0:decide ((ji8)<(x0_1.length:Int))=true:=decide_eq_true c10;clear c10;obtain⟨y162,hy162⟩:∃y_:List Int,y_=(x0_1.set ((ji8):Int).toNat ((IntKind.u64.wrap ((IntKind.u64.wrap ((IntKind.u64.wrap (rd x0_1 (ji8)))-(Go.bits .and .u64 (IntKind.u64.wrap (x9_1+(IntKind.u64.wrap (a3*(IntKind.u64.wrap (rd l1 x17_1)))))) 4294967295)))-x10_1))%4294967296)):=⟨_,rfl⟩
     (first|(replace H:=Sq.ny hy162 H;(try dsimp -simprocs only at H))|rw[←hy162] at H|skip)
     have Ny162:=Aside0.mk hy162;clear hy162;have H':=Aside0.mk H;clear H;have p160:0≤(x17_1:Int):=of_decide_eq_true (by first|(with_reducible assumption)|assumption);have q160:x17_1<(l1.length:Int):=of_decide_eq_true (by first|(with_reducible assumption)|assumption);obtain⟨ad160,e160,hx160_0⟩:=Kd.at_int (Kd.C_kept_now HR1.out HK.out) x17_1 p160 q160;cases e160;replace p160:=eq_true p160;replace q160:=eq_true q160;obtain⟨Ao12,co12,eo12⟩:=Kd.R_slice HO_0.out;subst eo12;have p161:0≤((ji8):Int):=of_decide_eq_true (by first|(with_reducible assumption)|assumption);have q161:(ji8)<(x0_1.length:Int):=of_decide_eq_true (by first|(with_reducible assumption)|assumption);obtain⟨ad161,e161,hx161_0⟩:=Kd.at_int (Kd.R_reads' HO_0.out).2.2 (ji8) p161 q161;cases e161;replace p161:=eq_true p161;replace q161:=eq_true q161;have p11:0≤((ji8):Int):=of_decide_eq_true (by first|(with_reducible assumption)|assumption);have q11:((ji8):Int)<((x0_1.length:Int):Int):=of_decide_eq_true (by first|(with_reducible assumption)|assumption);obtain⟨go11,co11,eo11,gb11,gl11,cl11,HG11⟩:=Kd.R_form HO_0.out (by omega)
     (first|cases eo11|(injection eo11 with ea_ en_ ec_;(first|subst ea_|(injection ea_ with ea_;subst ea_));subst ec_;clear en_))
     have GB11:=Aside0.mk gb11;have GG11:=Aside0.mk HG11;clear gb11 gl11 HG11;have HMgo11:=Aside0.mk (show (P0_ go11∨w.heap.size≤go11) from (HO_0.out.1 _ rfl))
     (first|simp only[add_plain] at hx161_0|skip)
     obtain⟨hx11_0,hf11_0⟩:=Kd.R_celln 0 HO_0.out ((ji8):Int) p11 q11;replace p11:=eq_true p11;replace q11:=eq_true q11;have HP13:=Kd.R_putg HO_0.out ((ji8):Int) ((IntKind.u64.wrap ((IntKind.u64.wrap ((IntKind.u64.wrap (rd x0_1 (ji8)))-(Go.bits .and .u64 (IntKind.u64.wrap (x9_1+(IntKind.u64.wrap (a3*(IntKind.u64.wrap (rd l1 x17_1)))))) 4294967295)))-x10_1))%4294967296);go_wp2_with (first|((with_reducible refine gate_store (t:=88) (p:=51) rfl ?_);refine store_event (t:=88) (p:=51) (v:=?vo_w14) (w1:=(wr.setCell ⟨go11,((ji8):Int).toNat,none⟩ (.int .u32 ((IntKind.u64.wrap ((IntKind.u64.wrap ((IntKind.u64.wrap (rd x0_1 (ji8)))-(Go.bits .and .u64 (IntKind.u64.wrap (x9_1+(IntKind.u64.wrap (a3*(IntKind.u64.wrap (rd l1 x17_1)))))) 4294967295)))-x10_1))%4294967296)))) ?hg ?ho ?hn ?hr ?_;(case ho=>rfl);(case hg=>rfl);(case hn=>rfl);(case hr=>first|(go_simp;done)|(go_simp;rfl));intro w14 hw;have hg:wr.grownBy w14 (some go11):=(by rw[hw];exact HP13.2);have hp_:Kd.R (Kd.int .u32) 88 w14 w0.heap.size (fun k_=>(P0_ k_∨w.heap.size≤k_)) (.slice (some ⟨go11,0,none⟩) x0_1.length co12) y162:=(by rw[hw,Ny162.out];exact HP13.1);clear HP13;replace HB:=Aside0.mk ((by rw[hw];exact below_set (HB.out) GB11.out:Below w0.heap.size w0 w14));replace HK:=Aside0.mk (Kept.of_grown (S:=(fun k_=>P0_ k_)) hg (by repeat (first|(with_reducible first|exact HK.out|apply Kept.alloc|apply Kept.drewN|apply Kept.drew)|exact HK.out)) (fun k_ e_=>(HO_0.out.1 k_ e_)));replace HO_0:=Aside0.mk (hp_);clear hg hw hp_))
     go_roundg k1
     case measure=>have:=HK1.out;omega
     case rel=>exact⟨(y162),((IntKind.u64.wrap (x9_1+(IntKind.u64.wrap (a3*(IntKind.u64.wrap (rd l1 x17_1))))))/4294967296),((IntKind.u64.wrap ((IntKind.u64.wrap ((IntKind.u64.wrap (rd x0_1 (ji8)))-(Go.bits .and .u64 (IntKind.u64.wrap (x9_1+(IntKind.u64.wrap (a3*(IntKind.u64.wrap (rd l1 x17_1)))))) 4294967295)))-x10_1))/9223372036854775808),(wrap64 (x17_1+1)),(by first|rfl|(simp;done)|(simp[*];done)),(by first|rfl|(simp;done)|(simp only[←hji8]<;>(first|rfl|simp))|(simp[*];done)),(by first|rfl|(simp;done)|(simp[*];done)),H',⟨by have:=HK1.out;omega⟩,⟨by (with_reducible repeat (first|apply Kd.R_alloc|apply Kd.R_drewN|apply Kd.R_drew));exact HO_0.out⟩,⟨by repeat (first|(with_reducible first|exact HK.out|apply Kept.alloc|apply Kept.drewN|apply Kept.drew)|exact HK.out)⟩,⟨Sq.bl HB⟩⟩
    ·rw[if_neg c6] at H
     have c6b0:decide (x17_1<(l1.length:Int))=false:=decide_eq_false c6;clear c6;obtain⟨ji15,hji15⟩:∃j_:Int,(wrap64 (a2+x17_1))=j_:=⟨_,rfl⟩
     (first|rw[hji15] at H|simp only[hji15] at H)
     have hji15w:(IntKind.i64.wrap (a2+x17_1))=ji15:=(i64_w _).trans hji15;replace H:=Sq.ifs H;obtain⟨c16,H⟩:=H;have c16b0:decide (0≤(ji15))=true:=decide_eq_true c16;clear c16;replace H:=Sq.ifs H;obtain⟨c17,H⟩:=H;have c17b0:decide ((ji15)<(x0_1.length:Int))=true:=decide_eq_true c17;clear c17;obtain⟨y164,hy164⟩:∃y_:List Int,y_=(x0_1.set ((ji15):Int).toNat ((IntKind.u64.wrap ((IntKind.u64.wrap ((IntKind.u64.wrap (rd x0_1 (ji15)))-(Go.bits .and .u64 x9_1 4294967295)))-x10_1))%4294967296)):=⟨_,rfl⟩
     (first|(replace H:=Sq.ny hy164 H;(try dsimp -simprocs only at H))|rw[←hy164] at H|skip)
     have Ny164:=Aside0.mk hy164;clear hy164;have H':=Aside0.mk H;clear H;obtain⟨Ao19,co19,eo19⟩:=Kd.R_slice HO_0.out;subst eo19;have p163:0≤((ji15):Int):=of_decide_eq_true (by first|(with_reducible assumption)|assumption);have q163:(ji15)<(x0_1.length:Int):=of_decide_eq_true (by first|(with_reducible assumption)|assumption);obtain⟨ad163,e163,hx163_0⟩:=Kd.at_int (Kd.R_reads' HO_0.out).2.2 (ji15) p163 q163;cases e163;replace p163:=eq_true p163;replace q163:=eq_true q163;have p18:0≤((ji15):Int):=of_decide_eq_true (by first|(with_reducible assumption)|assumption);have q18:((ji15):Int)<((x0_1.length:Int):Int):=of_decide_eq_true (by first|(with_reducible assumption)|assumption);obtain⟨go18,co18,eo18,gb18,gl18,cl18,HG18⟩:=Kd.R_form HO_0.out (by omega)
     (first|cases eo18|(injection eo18 with ea_ en_ ec_;(first|subst ea_|(injection ea_ with ea_;subst ea_));subst ec_;clear en_))
     have GB18:=Aside0.mk gb18;have GG18:=Aside0.mk HG18;clear gb18 gl18 HG18;have HMgo18:=Aside0.mk (show (P0_ go18∨w.heap.size≤go18) from (HO_0.out.1 _ rfl))
     (first|simp only[add_plain] at hx163_0|skip)
     obtain⟨hx18_0,hf18_0⟩:=Kd.R_celln 0 HO_0.out ((ji15):Int) p18 q18;replace p18:=eq_true p18;replace q18:=eq_true q18;have HP20:=Kd.R_putg HO_0.out ((ji15):Int) ((IntKind.u64.wrap ((IntKind.u64.wrap ((IntKind.u64.wrap (rd x0_1 (ji15)))-(Go.bits .and .u64 x9_1 4294967295)))-x10_1))%4294967296);go_wp2_with (first|((with_reducible refine gate_store (t:=88) (p:=51) rfl ?_);refine store_event (t:=88) (p:=51) (v:=?vo_w21) (w1:=(wr.setCell ⟨go18,((ji15):Int).toNat,none⟩ (.int .u32 ((IntKind.u64.wrap ((IntKind.u64.wrap ((IntKind.u64.wrap (rd x0_1 (ji15)))-(Go.bits .and .u64 x9_1 4294967295)))-x10_1))%4294967296)))) ?hg ?ho ?hn ?hr ?_;(case ho=>rfl);(case hg=>rfl);(case hn=>rfl);(case hr=>first|(go_simp;done)|(go_simp;rfl));intro w21 hw;have hg:wr.grownBy w21 (some go18):=(by rw[hw];exact HP20.2);have hp_:Kd.R (Kd.int .u32) 88 w21 w0.heap.size (fun k_=>(P0_ k_∨w.heap.size≤k_)) (.slice (some ⟨go18,0,none⟩) x0_1.length co19) y164:=(by rw[hw,Ny164.out];exact HP20.1);clear HP20;replace HB:=Aside0.mk ((by rw[hw];exact below_set (HB.out) GB18.out:Below w0.heap.size w0 w21));replace HK:=Aside0.mk (Kept.of_grown (S:=(fun k_=>P0_ k_)) hg (by repeat (first|(with_reducible first|exact HK.out|apply Kept.alloc|apply Kept.drewN|apply Kept.drew)|exact HK.out)) (fun k_ e_=>(HO_0.out.1 k_ e_)));replace HO_0:=Aside0.mk (hp_);clear hg hw hp_))
     go_roundg k1
     case measure=>have:=HK1.out;omega
     case rel=>exact⟨(y164),(x9_1/4294967296),((IntKind.u64.wrap ((IntKind.u64.wrap ((IntKind.u64.wrap (rd x0_1 (ji15)))-(Go.bits .and .u64 x9_1 4294967295)))-x10_1))/9223372036854775808),(wrap64 (x17_1+1)),(by first|rfl|(simp;done)|(simp[*];done)),(by first|rfl|(simp;done)|(simp only[←hji15]<;>(first|rfl|simp))|(simp[*];done)),(by first|rfl|(simp;done)|(simp[*];done)),H',⟨by have:=HK1.out;omega⟩,⟨by (with_reducible repeat (first|apply Kd.R_alloc|apply Kd.R_drewN|apply Kd.R_drew));exact HO_0.out⟩,⟨by repeat (first|(with_reducible first|exact HK.out|apply Kept.alloc|apply Kept.drewN|apply Kept.drew)|exact HK.out)⟩,⟨Sq.bl HB⟩⟩
   ·rw[if_neg c5] at H
    have c5b0:decide (x17_1<(wrap64 ((l1.length:Int)+1)))=false:=decide_eq_false c5;clear c5;by_cases c22:x10_1=0
    ·rw[if_pos c22] at H
     have c22b0:(x10_1==0)=true:=beq_iff_eq.mpr c22;have c22b1:(x10_1 != 0)=false:=bne_eq_false_iff_eq.mpr c22;clear c22;simp only[Option.some.injEq,Prod.mk.injEq] at H;obtain⟨rfl,rfl⟩:=H;go_wp2
     go_ret
     exact⟨by first|rfl|(simp[errW_none,errW_some]<;>rfl)|(simp[*,errW_none,errW_some]<;>rfl),by (with_reducible repeat (first|apply Kd.R_alloc|apply Kd.R_drewN|apply Kd.R_drew));exact HO_0.out,Sq.bl HB,by repeat (first|(with_reducible first|exact HK.out|apply Kept.alloc|apply Kept.drewN|apply Kept.drew)|exact HK.out)⟩
    ·rw[if_neg c22] at H
     have c22b0:(x10_1==0)=false:=beq_eq_false_iff_ne.mpr c22;have c22b1:(x10_1 != 0)=true:=bne_iff_ne.mpr c22;have H':=Aside0.mk H;clear H;go_wp2
     go_loopg [9,64] k1 (fun kq v9 v64 w'=>∃(x0_2:List Int) (x9_2:Int) (x64_2:Int),v9=.int .u64 x9_2∧v64=.int .i64 x64_2∧Aside0 (nat_take.l1 kq x0_2 l1 a2 a3 x9_2 (wrap64 ((l1.length:Int)+1)) x64_2=some (r1,r2))∧Aside0 (kq≤k1)∧Aside0 (Kd.R (Kd.int .u32) 88 w' w0.heap.size (fun k_=>(P0_ k_∨w.heap.size≤k_)) u9000_ x0_2)∧Aside0 (Kept w w' (fun k_=>P0_ k_))∧Aside0 (Below w0.heap.size w0 w'))
     case atStart=>exact⟨(x0_1),(0),(0),(by first|rfl|(simp;done)|(simp[*];done)),(by first|rfl|(simp;done)|(simp[*];done)),H',⟨Nat.le_refl _⟩,⟨by (with_reducible repeat (first|apply Kd.R_alloc|apply Kd.R_drewN|apply Kd.R_drew));exact HO_0.out⟩,⟨by repeat (first|(with_reducible first|exact HK.out|apply Kept.alloc|apply Kept.drewN|apply Kept.drew)|exact HK.out)⟩,⟨Sq.bl HB⟩⟩
     case round =>
      clear H'
      try clear c1
      try clear p1
      try clear q1
      try clear hx1
      try clear c2
      try clear p2
      try clear c5
      try clear c5b0
      try clear c6
      try clear c6b0
      try clear p6
      try clear c7
      try clear c7b0
      try clear c9
      try clear c9b0
      try clear c10
      try clear c10b0
      try clear c11
      try clear p11
      try clear q11
      try clear hx11
      try clear hf11
      try clear c16
      try clear c16b0
      try clear p16
      try clear q16
      try clear hx16
      try clear c17
      try clear c17b0
      try clear p18
      try clear q18
      try clear hx18
      try clear hf18
      try clear c22
      try clear c22b0
      try clear c22b1
      try clear hx11_0
      try clear hx160_0
      try clear hx161_0
      try clear hx163_0
      try clear hx18_0
      try clear p11
      try clear p160
      try clear p161
      try clear p163
      try clear p18
      try clear p2
      try clear q11
      try clear q160
      try clear q161
      try clear q163
      try clear q18
      obtain⟨x0_2,x9_2,x64_2,rfl,rfl,HA,HK2,HO_0,HK,HB⟩:=hrel;cases gk with
      |zero=>exact absurd HA.out (by simp[nat_take.l1])
      |succ k2 =>
       have H:=HA.out;clear HA;simp only[nat_take.l1] at H;by_cases c23:x64_2<(wrap64 ((l1.length:Int)+1))
       ·rw[if_pos c23] at H
        have c23b0:decide (x64_2<(wrap64 ((l1.length:Int)+1)))=true:=decide_eq_true c23;clear c23;obtain⟨ji24,hji24⟩:∃j_:Int,(wrap64 (a2+x64_2))=j_:=⟨_,rfl⟩
        (first|rw[hji24] at H|simp only[hji24] at H)
        have hji24w:(IntKind.i64.wrap (a2+x64_2))=ji24:=(i64_w _).trans hji24;replace H:=Sq.ifs H;obtain⟨c25,H⟩:=H;have c25b0:decide (0≤(ji24))=true:=decide_eq_true c25;clear c25;replace H:=Sq.ifs H;obtain⟨c26,H⟩:=H;have c26b0:decide ((ji24)<(x0_2.length:Int))=true:=decide_eq_true c26;clear c26;by_cases c27:x64_2<(l1.length:Int)
        ·rw[if_pos c27] at H
         have c27b0:decide (x64_2<(l1.length:Int))=true:=decide_eq_true c27;clear c27;replace H:=Sq.ifs H;obtain⟨c28,H⟩:=H;have c28b0:decide (0≤x64_2)=true:=decide_eq_true c28;clear c28;obtain⟨y167,hy167⟩:∃y_:List Int,y_=(x0_2.set ((ji24):Int).toNat ((IntKind.u64.wrap ((IntKind.u64.wrap (x9_2+(IntKind.u64.wrap (rd x0_2 (ji24)))))+(IntKind.u64.wrap (rd l1 x64_2))))%4294967296)):=⟨_,rfl⟩
         (first|(replace H:=Sq.ny hy167 H;(try dsimp -simprocs only at H))|rw[←hy167] at H|skip)
         have Ny167:=Aside0.mk hy167;clear hy167;have H':=Aside0.mk H;clear H;obtain⟨Ao30,co30,eo30⟩:=Kd.R_slice HO_0.out;subst eo30;have p165:0≤((ji24):Int):=of_decide_eq_true (by first|(with_reducible assumption)|assumption);have q165:(ji24)<(x0_2.length:Int):=of_decide_eq_true (by first|(with_reducible assumption)|assumption);obtain⟨ad165,e165,hx165_0⟩:=Kd.at_int (Kd.R_reads' HO_0.out).2.2 (ji24) p165 q165;cases e165;replace p165:=eq_true p165;replace q165:=eq_true q165;have p166:0≤(x64_2:Int):=of_decide_eq_true (by first|(with_reducible assumption)|assumption);have q166:x64_2<(l1.length:Int):=of_decide_eq_true (by first|(with_reducible assumption)|assumption);obtain⟨ad166,e166,hx166_0⟩:=Kd.at_int (Kd.C_kept_now HR1.out HK.out) x64_2 p166 q166;cases e166;replace p166:=eq_true p166;replace q166:=eq_true q166;have p29:0≤((ji24):Int):=of_decide_eq_true (by first|(with_reducible assumption)|assumption);have q29:((ji24):Int)<((x0_2.length:Int):Int):=of_decide_eq_true (by first|(with_reducible assumption)|assumption);obtain⟨go29,co29,eo29,gb29,gl29,cl29,HG29⟩:=Kd.R_form HO_0.out (by omega)
         (first|cases eo29|(injection eo29 with ea_ en_ ec_;(first|subst ea_|(injection ea_ with ea_;subst ea_));subst ec_;clear en_))
         have GB29:=Aside0.mk gb29;have GG29:=Aside0.mk HG29;clear gb29 gl29 HG29;have HMgo29:=Aside0.mk (show (P0_ go29∨w.heap.size≤go29) from (HO_0.out.1 _ rfl))
         (first|simp only[add_plain] at hx165_0|skip)
         obtain⟨hx29_0,hf29_0⟩:=Kd.R_celln 0 HO_0.out ((ji24):Int) p29 q29;replace p29:=eq_true p29;replace q29:=eq_true q29;have HP31:=Kd.R_putg HO_0.out ((ji24):Int) ((IntKind.u64.wrap ((IntKind.u64.wrap (x9_2+(IntKind.u64.wrap (rd x0_2 (ji24)))))+(IntKind.u64.wrap (rd l1 x64_2))))%4294967296);go_wp2_with (first|((with_reducible refine gate_store (t:=88) (p:=93) rfl ?_);refine store_event (t:=88) (p:=93) (v:=?vo_w32) (w1:=(wr.setCell ⟨go29,((ji24):Int).toNat,none⟩ (.int .u32 ((IntKind.u64.wrap ((IntKind.u64.wrap (x9_2+(IntKind.u64.wrap (rd x0_2 (ji24)))))+(IntKind.u64.wrap (rd l1 x64_2))))%4294967296)))) ?hg ?ho ?hn ?hr ?_;(case ho=>rfl);(case hg=>rfl);(case hn=>rfl);(case hr=>first|(go_simp;done)|(go_simp;rfl));intro w32 hw;have hg:wr.grownBy w32 (some go29):=(by rw[hw];exact HP31.2);have hp_:Kd.R (Kd.int .u32) 88 w32 w0.heap.size (fun k_=>(P0_ k_∨w.heap.size≤k_)) (.slice (some ⟨go29,0,none⟩) x0_2.length co30) y167:=(by rw[hw,Ny167.out];exact HP31.1);clear HP31;replace HB:=Aside0.mk ((by rw[hw];exact below_set (HB.out) GB29.out:Below w0.heap.size w0 w32));replace HK:=Aside0.mk (Kept.of_grown (S:=(fun k_=>P0_ k_)) hg (by repeat (first|(with_reducible first|exact HK.out|apply Kept.alloc|apply Kept.drewN|apply Kept.drew)|exact HK.out)) (fun k_ e_=>(HO_0.out.1 k_ e_)));replace HO_0:=Aside0.mk (hp_);clear hg hw hp_))
         go_roundg k2
         case measure=>have:=HK1.out;have:=HK2.out;omega
         case rel=>exact⟨(y167),((IntKind.u64.wrap ((IntKind.u64.wrap (x9_2+(IntKind.u64.wrap (rd x0_2 (ji24)))))+(IntKind.u64.wrap (rd l1 x64_2))))/4294967296),(wrap64 (x64_2+1)),(by first|rfl|(simp;done)|(simp only[←hji24]<;>(first|rfl|simp))|(simp[*];done)),(by first|rfl|(simp;done)|(simp[*];done)),H',⟨by have:=HK1.out;have:=HK2.out;omega⟩,⟨by (with_reducible repeat (first|apply Kd.R_alloc|apply Kd.R_drewN|apply Kd.R_drew));exact HO_0.out⟩,⟨by repeat (first|(with_reducible first|exact HK.out|apply Kept.alloc|apply Kept.drewN|apply Kept.drew)|exact HK.out)⟩,⟨Sq.bl HB⟩⟩
        ·rw[if_neg c27] at H
         have c27b0:decide (x64_2<(l1.length:Int))=false:=decide_eq_false c27;clear c27;obtain⟨y168,hy168⟩:∃y_:List Int,y_=(x0_2.set ((ji24):Int).toNat ((IntKind.u64.wrap (x9_2+(IntKind.u64.wrap (rd x0_2 (ji24)))))%4294967296)):=⟨_,rfl⟩
         (first|(replace H:=Sq.ny hy168 H;(try dsimp -simprocs only at H))|rw[←hy168] at H|skip)
         have Ny168:=Aside0.mk hy168;clear hy168;have H':=Aside0.mk H;clear H;obtain⟨Ao34,co34,eo34⟩:=Kd.R_slice HO_0.out;subst eo34;have p165:0≤((ji24):Int):=of_decide_eq_true (by first|(with_reducible assumption)|assumption);have q165:(ji24)<(x0_2.length:Int):=of_decide_eq_true (by first|(with_reducible assumption)|assumption);obtain⟨ad165,e165,hx165_0⟩:=Kd.at_int (Kd.R_reads' HO_0.out).2.2 (ji24) p165 q165;cases e165;replace p165:=eq_true p165;replace q165:=eq_true q165;have p33:0≤((ji24):Int):=of_decide_eq_true (by first|(with_reducible assumption)|assumption);have q33:((ji24):Int)<((x0_2.length:Int):Int):=of_decide_eq_true (by first|(with_reducible assumption)|assumption);obtain⟨go33,co33,eo33,gb33,gl33,cl33,HG33⟩:=Kd.R_form HO_0.out (by omega)
         (first|cases eo33|(injection eo33 with ea_ en_ ec_;(first|subst ea_|(injection ea_ with ea_;subst ea_));subst ec_;clear en_))
         have GB33:=Aside0.mk gb33;have GG33:=Aside0.mk HG33;clear gb33 gl33 HG33;have HMgo33:=Aside0.mk (show (P0_ go33∨w.heap.size≤go33) from (HO_0.out.1 _ rfl))
         (first|simp only[add_plain] at hx165_0|skip)
         obtain⟨hx33_0,hf33_0⟩:=Kd.R_celln 0 HO_0.out ((ji24):Int) p33 q33;replace p33:=eq_true p33;replace q33:=eq_true q33;have HP35:=Kd.R_putg HO_0.out ((ji24):Int) ((IntKind.u64.wrap (x9_2+(IntKind.u64.wrap (rd x0_2 (ji24)))))%4294967296);go_wp2_with (first|((with_reducible refine gate_store (t:=88) (p:=93) rfl ?_);refine store_event (t:=88) (p:=93) (v:=?vo_w36) (w1:=(wr.setCell ⟨go33,((ji24):Int).toNat,none⟩ (.int .u32 ((IntKind.u64.wrap (x9_2+(IntKind.u64.wrap (rd x0_2 (ji24)))))%4294967296)))) ?hg ?ho ?hn ?hr ?_;(case ho=>rfl);(case hg=>rfl);(case hn=>rfl);(case hr=>first|(go_simp;done)|(go_simp;rfl));intro w36 hw;have hg:wr.grownBy w36 (some go33):=(by rw[hw];exact HP35.2);have hp_:Kd.R (Kd.int .u32) 88 w36 w0.heap.size (fun k_=>(P0_ k_∨w.heap.size≤k_)) (.slice (some ⟨go33,0,none⟩) x0_2.length co34) y168:=(by rw[hw,Ny168.out];exact HP35.1);clear HP35;replace HB:=Aside0.mk ((by rw[hw];exact below_set (HB.out) GB33.out:Below w0.heap.size w0 w36));replace HK:=Aside0.mk (Kept.of_grown (S:=(fun k_=>P0_ k_)) hg (by repeat (first|(with_reducible first|exact HK.out|apply Kept.alloc|apply Kept.drewN|apply Kept.drew)|exact HK.out)) (fun k_ e_=>(HO_0.out.1 k_ e_)));replace HO_0:=Aside0.mk (hp_);clear hg hw hp_))
         go_roundg k2
         case measure=>have:=HK1.out;have:=HK2.out;omega
         case rel=>exact⟨(y168),((IntKind.u64.wrap (x9_2+(IntKind.u64.wrap (rd x0_2 (ji24)))))/4294967296),(wrap64 (x64_2+1)),(by first|rfl|(simp;done)|(simp only[←hji24]<;>(first|rfl|simp))|(simp[*];done)),(by first|rfl|(simp;done)|(simp[*];done)),H',⟨by have:=HK1.out;have:=HK2.out;omega⟩,⟨by (with_reducible repeat (first|apply Kd.R_alloc|apply Kd.R_drewN|apply Kd.R_drew));exact HO_0.out⟩,⟨by repeat (first|(with_reducible first|exact HK.out|apply Kept.alloc|apply Kept.drewN|apply Kept.drew)|exact HK.out)⟩,⟨Sq.bl HB⟩⟩
       ·rw[if_neg c23] at H
        have c23b0:decide (x64_2<(wrap64 ((l1.length:Int)+1)))=false:=decide_eq_false c23;clear c23;simp only[Option.some.injEq,Prod.mk.injEq] at H;obtain⟨rfl,rfl⟩:=H;go_wp2
        go_ret
        exact⟨by first|rfl|(simp[errW_none,errW_some]<;>rfl)|(simp[*,errW_none,errW_some]<;>rfl),by (with_reducible repeat (first|apply Kd.R_alloc|apply Kd.R_drewN|apply Kd.R_drew));exact HO_0.out,Sq.bl HB,by repeat (first|(with_reducible first|exact HK.out|apply Kept.alloc|apply Kept.drewN|apply Kept.drew)|exact HK.out)⟩
end Go.Proofs.YtjfkhbkddenfoaaGreat.N
