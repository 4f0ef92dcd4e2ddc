import Derived.Test.YtjfkhbkddenfoaaGreatQdmjmjebhdgNx0
import Derived.Test.YtjfkhbkddenfoaaGreatQnojcilghdjNx1
import Derived.Test.YtjfkhbkddenfoaaGreatQjacfpdglnoM
set_option linter.unusedVariables false
set_option linter.unusedSimpArgs false
namespace Go.Proofs.YtjfkhbkddenfoaaGreat.N
open Go.RowKit Go.Proofs.YtjfkhbkddenfoaaGreatW.PrintWords Go.Proofs.YtjfkhbkddenfoaaGreatW.PrintLast Go.Proofs.YtjfkhbkddenfoaaGreatW.PrintMore
attribute [local go_sem] max2_int min2_int max_two min_two max_three min_three max_four min_four   -- for this text's walks alone
theorem nat_Add.R_makeCap {P:Program} {ops:Array Oper} {rest:List Oper} {o:Oper} {a:Act} {Q:Exit→Act→World→Prop} {α:Type} (d:Kd α) {w0 W:World} (base e:Nat) (hgd:o.guard=none) (t:TypeId) (x y:Operand) (ho:o.op=.makeSlice t x y) (n:Int) (hx:a.eval x=.int .i64 0) (hy:a.eval y=.int .i64 n)
 (ht:P.underlying t=some (.slice e)) (z:Value) (bytes:Nat) (hinfo:(P.info? e).map (fun i=>(i.zero,i.size,i.bytes))=some (some z,d.sz,bytes)) (hb0:0<bytes)
 {ok:Nat→Prop} (hfresh:ok W.heap.size) (h0:0≤n) (hl:n.toNat*bytes≤281474976710656) (HB:Below base w0 W) (hbase:base≤W.heap.size)
 (xs:List α) (hxs:xs=[]) (h:∀ v1 w1,d.R e w1 base ok v1 xs→Below base w0 w1→W.grownBy w1 none→(∃ b,v1.ownBlock=some b∧W.heap.size≤b)→wpList P ops Q rest (a.put o.dst v1) w1):wpList P ops Q (o::rest) a W:=by
 subst hxs
 obtain ⟨m,rfl⟩:=Int.eq_ofNat_of_zero_le h0
 simp only [Int.toNat_natCast] at hl
 obtain ⟨i0,hi,hzz⟩:=Option.map_eq_some_iff.1 hinfo
 simp only [Prod.mk.injEq] at hzz
 obtain ⟨hz0,hz1,hz2⟩:=hzz
 have hm:m≤281474976710656:=Nat.le_trans (Nat.le_mul_of_pos_right _ hb0) hl
 obtain ⟨w',hr,hown,hgr⟩:=run_make_own W base t e i0 z d.sz ht hi hz0 hz1 .i64 .i64 m (by rw [hz2,Nat.mul_comm]; exact hl) (by simp only [maxLen]; omega) hbase
 refine Kd.event_run hgd (by simp [execOp,ho,hx,hy,hr]) (h _ _ ⟨fun k hk=>?_,[],hown,?_⟩ (HB.grown hgr hbase (by simp)) hgr ⟨W.heap.size,by simp [Value.ownBlock],Nat.le_refl _⟩)
 ·have:W.heap.size=k:=by simpa [Value.ownBlock] using hk
  subst this
  exact hfresh
 ·exact Reps.none _ _
def nat_Add.l0:Nat→List Int→List Int→Int→List Int→Int→Int→Option (List Int)
 | 0,_,_,_,_,_,_=>none
 | k+1,x1,x5,x6,x20,x21,x22=>if x22<x21 then (if 0≤x22 then (if x22<(x20.length:Int) then (if x22<(x1.length:Int) then (if x5.length<35184372088832 then (nat_Add.l0 k x1 (x5++[(IntKind.u64.wrap ((IntKind.u64.wrap (x6+(IntKind.u64.wrap (rd x20 x22))))+(IntKind.u64.wrap (rd x1 x22))))%4294967296]) ((IntKind.u64.wrap ((IntKind.u64.wrap (x6+(IntKind.u64.wrap (rd x20 x22))))+(IntKind.u64.wrap (rd x1 x22))))/4294967296) x20 x21 (wrap64 (x22+1))) else (none)) else (if x5.length<35184372088832 then (nat_Add.l0 k x1 (x5++[(IntKind.u64.wrap (x6+(IntKind.u64.wrap (rd x20 x22))))%4294967296]) ((IntKind.u64.wrap (x6+(IntKind.u64.wrap (rd x20 x22))))/4294967296) x20 x21 (wrap64 (x22+1))) else (none))) else (none)) else (none)) else (if x5.length<35184372088832 then ((nat_cut.f k (x5++[(x6)%4294967296])).bind fun t493=>(some t493)) else (none))
def nat_Add.g (k:Nat) (l0:List Int) (l1:List Int):Option (List Int):=if l0.length+1≤70368744177664 then (nat_Add.l0 k l1 (List.replicate 0 0) 0 l0 (l0.length:Int) 0) else (none)
set_option maxHeartbeats 8000000 in
set_option maxRecDepth 100000 in
theorem nat_Add.calls_ge (k:Nat) (A0:Option Addr) (c0:Nat) (l0:List Int) (A1:Option Addr) (c1:Nat) (l1:List Int) (r:List Int) (w:World) (hsw:¬ l0.length<l1.length) (hr0:Kd.C (Kd.int .u32) w A0 l0.length l0) (hc0:l0.length≤c0) (hr1:Kd.C (Kd.int .u32) w A1 l1.length l1) (hc1:l1.length≤c1) (h:nat_Add.g k l0 l1=some r) :
 Calls Tryz.prog 134 #[.slice A0 l0.length c0,.slice A1 l1.length c1] w fun e w'=>∃ v0_:Value,e=.returned (v0_)∧Kd.V (Kd.int .u32) 88 w' w.heap.size (fun k_=>(w.heap.size≤k_)) v0_ r∧Below w.heap.size w w':=by
 have sw1:decide (l0.length<l1.length)=false:=decide_eq_false hsw
 have sw2:decide ((l0.length:Int)<(l1.length:Int))=false:=decide_eq_false (by omega)
 clear hsw
 have HR0:=Aside0.mk hr0
 have HC0:=Aside0.mk hc0
 clear hr0 hc0
 have HR1:=Aside0.mk hr1
 have HC1:=Aside0.mk hc1
 clear hr1 hc1
 have HB:=Aside0.mk (Below.refl w.heap.size w)
 have H:(if l0.length+1≤70368744177664 then (nat_Add.l0 k l1 (List.replicate 0 0) 0 l0 (l0.length:Int) 0) else (none))=some r:=h
 clear h
 replace H:=Sq.ifs H
 obtain ⟨c3,H⟩:=H
 have c3b0:=eq_true c3
 have c3b1:decide (l0.length+1≤70368744177664)=true:=decide_eq_true c3
 obtain ⟨y479,hy479⟩:∃ y_:List Int,y_=(List.replicate 0 0):=⟨_,rfl⟩
 (first|(replace H:=Sq.ny hy479 H; (try dsimp -simprocs only at H))|rw [←hy479] at H|skip)
 have Ny479:=Aside0.mk hy479
 clear hy479
 have H':=Aside0.mk H
 clear H
 go_enter Tryz.func134,Tryz.ntmps134
 go_wp2_with (first|((with_reducible refine gate_dst (N:=19) rfl ?_); refine nat_Add.R_makeCap (Kd.int .u32) _ 88 rfl 22 _ _ rfl ((l0.length:Int)+1) rfl rfl Tryz.underlying22 (.int .u32 0) 4 info88 (by omega) (ok:=fun _=>True) trivial (by omega) (by omega) (Below.refl _ _) (Nat.le_refl _) y479 (Ny479.out.trans rfl) ?_; clear c3 c3b0 c3b1; intro v480 w4 ho5 hb hg_ hnew_; clear hg_ hnew_; have HO481:=Aside0.mk (Kd.R_lower (Kd.R_newM (M:=fun k_=>(w.heap.size≤k_)) ho5 (below_size (Sq.bl HB)) (fun k_ h_=>h_)) (below_size (Sq.bl HB))); replace HB:=Sq.bs HB hb; clear hb ho5))
 go_loopg [5,6,22] k (fun kq v5 v6 v22 w'=>∃ (x5_1:List Int) (x6_1:Int) (x22_1:Int),v6=.int .u64 x6_1∧v22=.int .i64 x22_1∧Aside0 (nat_Add.l0 kq l1 x5_1 x6_1 l0 (l0.length:Int) x22_1=some r)∧Aside0 (kq≤k)∧Aside0 (Kd.R (Kd.int .u32) 88 w' w.heap.size (fun k_=>(w.heap.size≤k_)) v5 x5_1)∧Aside0 (Below w.heap.size w w'))
 case atStart=>exact ⟨(y479),(0),(0),(by first|rfl|(simp; done)|(simp [*]; done)),(by first|rfl|(simp; done)|(simp [*]; done)),H',⟨Nat.le_refl _⟩,⟨by (with_reducible repeat (first|apply Kd.R_alloc|apply Kd.R_drewN|apply Kd.R_drew)); exact Kd.R_mono HO481.out (fun _ hk=>hk.1)⟩,⟨Sq.bl HB⟩⟩
 case round =>
  clear H'
  try clear c1
  try clear p2
  try clear c3
  try clear c3b0
  try clear c3b1
  obtain ⟨x5_1,x6_1,x22_1,rfl,rfl,HA,HK1,HO_5,HB⟩:=hrel
  cases gk with
  | zero=>exact absurd HA.out (by simp [nat_Add.l0])
  | succ k1 =>
   have H:=HA.out
   clear HA
   simp only [nat_Add.l0] at H
   by_cases c6:x22_1<(l0.length:Int)
   ·rw [if_pos c6] at H
    have c6b0:decide (x22_1<(l0.length:Int))=true:=decide_eq_true c6
    clear c6
    replace H:=Sq.ifs H
    obtain ⟨c7,H⟩:=H
    have c7b0:decide (0≤x22_1)=true:=decide_eq_true c7
    clear c7
    replace H:=Sq.ifs H
    obtain ⟨c8,H⟩:=H
    have c8b0:decide (x22_1<(l0.length:Int))=true:=decide_eq_true c8
    clear c8
    by_cases c9:x22_1<(l1.length:Int)
    ·rw [if_pos c9] at H
     have c9b0:decide (x22_1<(l1.length:Int))=true:=decide_eq_true c9
     clear c9
     replace H:=Sq.ifs H
     obtain ⟨c10,H⟩:=H
     have LMc10:=Aside0.mk c10
     clear c10
     obtain ⟨y484,hy484⟩:∃ y_:List Int,y_=(x5_1++[(IntKind.u64.wrap ((IntKind.u64.wrap (x6_1+(IntKind.u64.wrap (rd l0 x22_1))))+(IntKind.u64.wrap (rd l1 x22_1))))%4294967296]):=⟨_,rfl⟩
     (first|(replace H:=Sq.ny hy484 H; (try dsimp -simprocs only at H))|rw [←hy484] at H|skip)
     have Ny484:=Aside0.mk hy484
     clear hy484
     have H':=Aside0.mk H
     clear H
     have p482:0≤(x22_1:Int):=of_decide_eq_true (by first|(with_reducible assumption)|assumption)
     have q482:x22_1<(l0.length:Int):=of_decide_eq_true (by first|(with_reducible assumption)|assumption)
     obtain ⟨ad482,e482,hx482_0⟩:=Kd.at_int HR0.out x22_1 p482 q482
     cases e482
     replace hx482_0:=(HB.out.cell (World.block_lt_of_cell? w _ hx482_0)).trans hx482_0
     replace p482:=eq_true p482
     replace q482:=eq_true q482
     have p483:0≤(x22_1:Int):=of_decide_eq_true (by first|(with_reducible assumption)|assumption)
     have q483:x22_1<(l1.length:Int):=of_decide_eq_true (by first|(with_reducible assumption)|assumption)
     obtain ⟨ad483,e483,hx483_0⟩:=Kd.at_int HR1.out x22_1 p483 q483
     cases e483
     replace hx483_0:=(HB.out.cell (World.block_lt_of_cell? w _ hx483_0)).trans hx483_0
     replace p483:=eq_true p483
     replace q483:=eq_true q483
     go_wp2_with (first|((with_reducible refine gate_builtin (b:=.append) (xs:=#[.tmp 42,.tmp 45]) rfl ?_); at_builtin; refine Kd.R_append (Kd.int .u32) (w0:=w) w.heap.size rfl (.tmp 42) (.tmp 45) 22 88 (.int .u32 0) 4 rfl Tryz.underlying22 info88 rfl (by decide) (by omega) u5 x5_1 ((IntKind.u64.wrap ((IntKind.u64.wrap (x6_1+(IntKind.u64.wrap (rd l0 x22_1))))+(IntKind.u64.wrap (rd l1 x22_1))))%4294967296) [.int .u32 ((IntKind.u64.wrap ((IntKind.u64.wrap (x6_1+(IntKind.u64.wrap (rd l0 x22_1))))+(IntKind.u64.wrap (rd l1 x22_1))))%4294967296)] (fun k_=>(w.heap.size≤k_)) (fun _=>False) rfl rfl ?aP (fun _ hk=>hk.elim) ?aF ?aO ?aB ?aS ?aL ?_; (case aP=>exact rfl); (case aB=>exact (Sq.bl HB)); (case aF=>exact (fun k_ hk=>(Nat.le_trans (below_size (Sq.bl HB)) hk))); (case aO=>exact (Sq.al HO_5)); (case aS=>exact (below_size (Sq.bl HB))); (case aL=>have:=LMc10.out; omega); intro v485 w11 ho hb hg hat; rw [←Ny484.out] at ho; replace HB:=Aside0.mk (hb); have HO486:=Aside0.mk (ho); clear HO_5; clear ho hb hg hat))
     go_roundg k1
     case measure=>have:=HK1.out; omega
     case rel=>exact ⟨(y484),((IntKind.u64.wrap ((IntKind.u64.wrap (x6_1+(IntKind.u64.wrap (rd l0 x22_1))))+(IntKind.u64.wrap (rd l1 x22_1))))/4294967296),(wrap64 (x22_1+1)),(by first|rfl|(simp; done)|(simp [*]; done)),(by first|rfl|(simp; done)|(simp [*]; done)),H',⟨by have:=HK1.out; omega⟩,⟨by (with_reducible repeat (first|apply Kd.R_alloc|apply Kd.R_drewN|apply Kd.R_drew)); exact HO486.out⟩,⟨Sq.bl HB⟩⟩
    ·rw [if_neg c9] at H
     have c9b0:decide (x22_1<(l1.length:Int))=false:=decide_eq_false c9
     clear c9
     replace H:=Sq.ifs H
     obtain ⟨c12,H⟩:=H
     have LMc12:=Aside0.mk c12
     clear c12
     obtain ⟨y487,hy487⟩:∃ y_:List Int,y_=(x5_1++[(IntKind.u64.wrap (x6_1+(IntKind.u64.wrap (rd l0 x22_1))))%4294967296]):=⟨_,rfl⟩
     (first|(replace H:=Sq.ny hy487 H; (try dsimp -simprocs only at H))|rw [←hy487] at H|skip)
     have Ny487:=Aside0.mk hy487
     clear hy487
     have H':=Aside0.mk H
     clear H
     have p482:0≤(x22_1:Int):=of_decide_eq_true (by first|(with_reducible assumption)|assumption)
     have q482:x22_1<(l0.length:Int):=of_decide_eq_true (by first|(with_reducible assumption)|assumption)
     obtain ⟨ad482,e482,hx482_0⟩:=Kd.at_int HR0.out x22_1 p482 q482
     cases e482
     replace hx482_0:=(HB.out.cell (World.block_lt_of_cell? w _ hx482_0)).trans hx482_0
     replace p482:=eq_true p482
     replace q482:=eq_true q482
     go_wp2_with (first|((with_reducible refine gate_builtin (b:=.append) (xs:=#[.tmp 42,.tmp 45]) rfl ?_); at_builtin; refine Kd.R_append (Kd.int .u32) (w0:=w) w.heap.size rfl (.tmp 42) (.tmp 45) 22 88 (.int .u32 0) 4 rfl Tryz.underlying22 info88 rfl (by decide) (by omega) u5 x5_1 ((IntKind.u64.wrap (x6_1+(IntKind.u64.wrap (rd l0 x22_1))))%4294967296) [.int .u32 ((IntKind.u64.wrap (x6_1+(IntKind.u64.wrap (rd l0 x22_1))))%4294967296)] (fun k_=>(w.heap.size≤k_)) (fun _=>False) rfl rfl ?aP (fun _ hk=>hk.elim) ?aF ?aO ?aB ?aS ?aL ?_; (case aP=>exact rfl); (case aB=>exact (Sq.bl HB)); (case aF=>exact (fun k_ hk=>(Nat.le_trans (below_size (Sq.bl HB)) hk))); (case aO=>exact (Sq.al HO_5)); (case aS=>exact (below_size (Sq.bl HB))); (case aL=>have:=LMc12.out; omega); intro v488 w13 ho hb hg hat; rw [←Ny487.out] at ho; replace HB:=Aside0.mk (hb); have HO489:=Aside0.mk (ho); clear HO_5; clear ho hb hg hat))
     go_roundg k1
     case measure=>have:=HK1.out; omega
     case rel=>exact ⟨(y487),((IntKind.u64.wrap (x6_1+(IntKind.u64.wrap (rd l0 x22_1))))/4294967296),(wrap64 (x22_1+1)),(by first|rfl|(simp; done)|(simp [*]; done)),(by first|rfl|(simp; done)|(simp [*]; done)),H',⟨by have:=HK1.out; omega⟩,⟨by (with_reducible repeat (first|apply Kd.R_alloc|apply Kd.R_drewN|apply Kd.R_drew)); exact HO489.out⟩,⟨Sq.bl HB⟩⟩
   ·rw [if_neg c6] at H
    have c6b0:decide (x22_1<(l0.length:Int))=false:=decide_eq_false c6
    clear c6
    replace H:=Sq.ifs H
    obtain ⟨c14,H⟩:=H
    have LMc14:=Aside0.mk c14
    clear c14
    obtain ⟨y490,hy490⟩:∃ y_:List Int,y_=(x5_1++[(x6_1)%4294967296]):=⟨_,rfl⟩
    (first|(replace H:=Sq.ny hy490 H; (try dsimp -simprocs only at H))|rw [←hy490] at H|skip)
    have Ny490:=Aside0.mk hy490
    clear hy490
    replace H:=Sq.bd H
    obtain ⟨t493,A15,H⟩:=H
    (try dsimp -simprocs only at H)
    obtain rfl:=Option.some.inj H
    go_wp2_with (first|((with_reducible refine gate_builtin (b:=.append) (xs:=#[.tmp 50,.tmp 53]) rfl ?_); at_builtin; refine Kd.R_append (Kd.int .u32) (w0:=w) w.heap.size rfl (.tmp 50) (.tmp 53) 22 88 (.int .u32 0) 4 rfl Tryz.underlying22 info88 rfl (by decide) (by omega) u5 x5_1 ((x6_1)%4294967296) [.int .u32 ((x6_1)%4294967296)] (fun k_=>(w.heap.size≤k_)) (fun _=>False) rfl rfl ?aP (fun _ hk=>hk.elim) ?aF ?aO ?aB ?aS ?aL ?_; (case aP=>exact rfl); (case aB=>exact (Sq.bl HB)); (case aF=>exact (fun k_ hk=>(Nat.le_trans (below_size (Sq.bl HB)) hk))); (case aO=>exact (Sq.al HO_5)); (case aS=>exact (below_size (Sq.bl HB))); (case aL=>have:=LMc14.out; omega); intro v491 w16 ho hb hg hat; rw [←Ny490.out] at ho; replace HB:=Aside0.mk (hb); have HO492:=Aside0.mk (ho); clear HO_5; clear ho hb hg hat; obtain ⟨Ao17,co17,eo17⟩:=Kd.R_slice HO492.out; subst eo17)|((with_reducible refine gate_callee (f:=86) rfl ?_); refine Sq.gl (some 55) Tryz.func86 #[.slice Ao17 y490.length co17] ?_; (with_reducible refine (nat_cut.calls k1 (fun k_=>some k_=(.slice Ao17 y490.length co17:Value).ownBlock) _ _ y490 t493 _ ?side1 A15.out).mono ?_); (case side1=>exact Kd.R_V (Kd.R_tight rfl (HO492.out))); rintro e w18 ⟨v494,rfl,ho0,hb⟩; refine ⟨_,rfl,?_⟩; have HO495:=Aside0.mk (Kd.V_lower (Kd.V_mono (ok':=fun k_=>(w.heap.size≤k_)) ho0 (fun k_ hk_=>Or.elim hk_ (fun hs_=>((HO492.out).1 k_ hs_.symm)) (fun hn_=>(Nat.le_trans (below_size (Sq.bl HB)) hn_)))) (below_size (Sq.bl HB))); replace HO492:=Aside0.mk (Kd.R_below (Sq.al HO492) hb); replace HB:=Sq.bs HB hb; (try clear hb); (try clear hb2); (try clear hk); (try clear hi); (try clear ho0)))
    go_ret
    exact ⟨_,by first|rfl|(simp [errW_none,errW_some]<;>rfl)|(simp [*,errW_none,errW_some]<;>rfl),by (with_reducible repeat (first|apply Kd.V_alloc|apply Kd.V_drewN|apply Kd.V_drew)); exact HO495.out,Sq.bl HB⟩
set_option maxHeartbeats 8000000 in
set_option maxRecDepth 100000 in
theorem nat_Add.calls_lt (k:Nat) (A0:Option Addr) (c0:Nat) (l0:List Int) (A1:Option Addr) (c1:Nat) (l1:List Int) (r:List Int) (w:World) (hsw:l1.length<l0.length) (hr0:Kd.C (Kd.int .u32) w A0 l0.length l0) (hc0:l0.length≤c0) (hr1:Kd.C (Kd.int .u32) w A1 l1.length l1) (hc1:l1.length≤c1) (h:nat_Add.g k l0 l1=some r) :
 Calls Tryz.prog 134 #[.slice A1 l1.length c1,.slice A0 l0.length c0] w fun e w'=>∃ v0_:Value,e=.returned (v0_)∧Kd.V (Kd.int .u32) 88 w' w.heap.size (fun k_=>(w.heap.size≤k_)) v0_ r∧Below w.heap.size w w':=by
 have sw1:decide (l1.length<l0.length)=true:=decide_eq_true hsw
 have sw2:decide ((l1.length:Int)<(l0.length:Int))=true:=decide_eq_true (by omega)
 clear hsw
 have HR0:=Aside0.mk hr0
 have HC0:=Aside0.mk hc0
 clear hr0 hc0
 have HR1:=Aside0.mk hr1
 have HC1:=Aside0.mk hc1
 clear hr1 hc1
 have HB:=Aside0.mk (Below.refl w.heap.size w)
 have H:(if l0.length+1≤70368744177664 then (nat_Add.l0 k l1 (List.replicate 0 0) 0 l0 (l0.length:Int) 0) else (none))=some r:=h
 clear h
 replace H:=Sq.ifs H
 obtain ⟨c3,H⟩:=H
 have c3b0:=eq_true c3
 have c3b1:decide (l0.length+1≤70368744177664)=true:=decide_eq_true c3
 obtain ⟨y479,hy479⟩:∃ y_:List Int,y_=(List.replicate 0 0):=⟨_,rfl⟩
 (first|(replace H:=Sq.ny hy479 H; (try dsimp -simprocs only at H))|rw [←hy479] at H|skip)
 have Ny479:=Aside0.mk hy479
 clear hy479
 have H':=Aside0.mk H
 clear H
 go_enter Tryz.func134,Tryz.ntmps134
 go_wp2_with (first|((with_reducible refine gate_dst (N:=19) rfl ?_); refine nat_Add.R_makeCap (Kd.int .u32) _ 88 rfl 22 _ _ rfl ((l0.length:Int)+1) rfl rfl Tryz.underlying22 (.int .u32 0) 4 info88 (by omega) (ok:=fun _=>True) trivial (by omega) (by omega) (Below.refl _ _) (Nat.le_refl _) y479 (Ny479.out.trans rfl) ?_; clear c3 c3b0 c3b1; intro v480 w4 ho5 hb hg_ hnew_; clear hg_ hnew_; have HO481:=Aside0.mk (Kd.R_lower (Kd.R_newM (M:=fun k_=>(w.heap.size≤k_)) ho5 (below_size (Sq.bl HB)) (fun k_ h_=>h_)) (below_size (Sq.bl HB))); replace HB:=Sq.bs HB hb; clear hb ho5))
 go_loopg [5,6,22] k (fun kq v5 v6 v22 w'=>∃ (x5_1:List Int) (x6_1:Int) (x22_1:Int),v6=.int .u64 x6_1∧v22=.int .i64 x22_1∧Aside0 (nat_Add.l0 kq l1 x5_1 x6_1 l0 (l0.length:Int) x22_1=some r)∧Aside0 (kq≤k)∧Aside0 (Kd.R (Kd.int .u32) 88 w' w.heap.size (fun k_=>(w.heap.size≤k_)) v5 x5_1)∧Aside0 (Below w.heap.size w w'))
 case atStart=>exact ⟨(y479),(0),(0),(by first|rfl|(simp; done)|(simp [*]; done)),(by first|rfl|(simp; done)|(simp [*]; done)),H',⟨Nat.le_refl _⟩,⟨by (with_reducible repeat (first|apply Kd.R_alloc|apply Kd.R_drewN|apply Kd.R_drew)); exact Kd.R_mono HO481.out (fun _ hk=>hk.1)⟩,⟨Sq.bl HB⟩⟩
 case round =>
  clear H'
  try clear c1
  try clear p2
  try clear c3
  try clear c3b0
  try clear c3b1
  obtain ⟨x5_1,x6_1,x22_1,rfl,rfl,HA,HK1,HO_5,HB⟩:=hrel
  cases gk with
  | zero=>exact absurd HA.out (by simp [nat_Add.l0])
  | succ k1 =>
   have H:=HA.out
   clear HA
   simp only [nat_Add.l0] at H
   by_cases c6:x22_1<(l0.length:Int)
   ·rw [if_pos c6] at H
    have c6b0:decide (x22_1<(l0.length:Int))=true:=decide_eq_true c6
    clear c6
    replace H:=Sq.ifs H
    obtain ⟨c7,H⟩:=H
    have c7b0:decide (0≤x22_1)=true:=decide_eq_true c7
    clear c7
    replace H:=Sq.ifs H
    obtain ⟨c8,H⟩:=H
    have c8b0:decide (x22_1<(l0.length:Int))=true:=decide_eq_true c8
    clear c8
    by_cases c9:x22_1<(l1.length:Int)
    ·rw [if_pos c9] at H
     have c9b0:decide (x22_1<(l1.length:Int))=true:=decide_eq_true c9
     clear c9
     replace H:=Sq.ifs H
     obtain ⟨c10,H⟩:=H
     have LMc10:=Aside0.mk c10
     clear c10
     obtain ⟨y484,hy484⟩:∃ y_:List Int,y_=(x5_1++[(IntKind.u64.wrap ((IntKind.u64.wrap (x6_1+(IntKind.u64.wrap (rd l0 x22_1))))+(IntKind.u64.wrap (rd l1 x22_1))))%4294967296]):=⟨_,rfl⟩
     (first|(replace H:=Sq.ny hy484 H; (try dsimp -simprocs only at H))|rw [←hy484] at H|skip)
     have Ny484:=Aside0.mk hy484
     clear hy484
     have H':=Aside0.mk H
     clear H
     have p482:0≤(x22_1:Int):=of_decide_eq_true (by first|(with_reducible assumption)|assumption)
     have q482:x22_1<(l0.length:Int):=of_decide_eq_true (by first|(with_reducible assumption)|assumption)
     obtain ⟨ad482,e482,hx482_0⟩:=Kd.at_int HR0.out x22_1 p482 q482
     cases e482
     replace hx482_0:=(HB.out.cell (World.block_lt_of_cell? w _ hx482_0)).trans hx482_0
     replace p482:=eq_true p482
     replace q482:=eq_true q482
     have p483:0≤(x22_1:Int):=of_decide_eq_true (by first|(with_reducible assumption)|assumption)
     have q483:x22_1<(l1.length:Int):=of_decide_eq_true (by first|(with_reducible assumption)|assumption)
     obtain ⟨ad483,e483,hx483_0⟩:=Kd.at_int HR1.out x22_1 p483 q483
     cases e483
     replace hx483_0:=(HB.out.cell (World.block_lt_of_cell? w _ hx483_0)).trans hx483_0
     replace p483:=eq_true p483
     replace q483:=eq_true q483
     go_wp2_with (first|((with_reducible refine gate_builtin (b:=.append) (xs:=#[.tmp 42,.tmp 45]) rfl ?_); at_builtin; refine Kd.R_append (Kd.int .u32) (w0:=w) w.heap.size rfl (.tmp 42) (.tmp 45) 22 88 (.int .u32 0) 4 rfl Tryz.underlying22 info88 rfl (by decide) (by omega) u5 x5_1 ((IntKind.u64.wrap ((IntKind.u64.wrap (x6_1+(IntKind.u64.wrap (rd l0 x22_1))))+(IntKind.u64.wrap (rd l1 x22_1))))%4294967296) [.int .u32 ((IntKind.u64.wrap ((IntKind.u64.wrap (x6_1+(IntKind.u64.wrap (rd l0 x22_1))))+(IntKind.u64.wrap (rd l1 x22_1))))%4294967296)] (fun k_=>(w.heap.size≤k_)) (fun _=>False) rfl rfl ?aP (fun _ hk=>hk.elim) ?aF ?aO ?aB ?aS ?aL ?_; (case aP=>exact rfl); (case aB=>exact (Sq.bl HB)); (case aF=>exact (fun k_ hk=>(Nat.le_trans (below_size (Sq.bl HB)) hk))); (case aO=>exact (Sq.al HO_5)); (case aS=>exact (below_size (Sq.bl HB))); (case aL=>have:=LMc10.out; omega); intro v485 w11 ho hb hg hat; rw [←Ny484.out] at ho; replace HB:=Aside0.mk (hb); have HO486:=Aside0.mk (ho); clear HO_5; clear ho hb hg hat))
     go_roundg k1
     case measure=>have:=HK1.out; omega
     case rel=>exact ⟨(y484),((IntKind.u64.wrap ((IntKind.u64.wrap (x6_1+(IntKind.u64.wrap (rd l0 x22_1))))+(IntKind.u64.wrap (rd l1 x22_1))))/4294967296),(wrap64 (x22_1+1)),(by first|rfl|(simp; done)|(simp [*]; done)),(by first|rfl|(simp; done)|(simp [*]; done)),H',⟨by have:=HK1.out; omega⟩,⟨by (with_reducible repeat (first|apply Kd.R_alloc|apply Kd.R_drewN|apply Kd.R_drew)); exact HO486.out⟩,⟨Sq.bl HB⟩⟩
    ·rw [if_neg c9] at H
     have c9b0:decide (x22_1<(l1.length:Int))=false:=decide_eq_false c9
     clear c9
     replace H:=Sq.ifs H
     obtain ⟨c12,H⟩:=H
     have LMc12:=Aside0.mk c12
     clear c12
     obtain ⟨y487,hy487⟩:∃ y_:List Int,y_=(x5_1++[(IntKind.u64.wrap (x6_1+(IntKind.u64.wrap (rd l0 x22_1))))%4294967296]):=⟨_,rfl⟩
     (first|(replace H:=Sq.ny hy487 H; (try dsimp -simprocs only at H))|rw [←hy487] at H|skip)
     have Ny487:=Aside0.mk hy487
     clear hy487
     have H':=Aside0.mk H
     clear H
     have p482:0≤(x22_1:Int):=of_decide_eq_true (by first|(with_reducible assumption)|assumption)
     have q482:x22_1<(l0.length:Int):=of_decide_eq_true (by first|(with_reducible assumption)|assumption)
     obtain ⟨ad482,e482,hx482_0⟩:=Kd.at_int HR0.out x22_1 p482 q482
     cases e482
     replace hx482_0:=(HB.out.cell (World.block_lt_of_cell? w _ hx482_0)).trans hx482_0
     replace p482:=eq_true p482
     replace q482:=eq_true q482
     go_wp2_with (first|((with_reducible refine gate_builtin (b:=.append) (xs:=#[.tmp 42,.tmp 45]) rfl ?_); at_builtin; refine Kd.R_append (Kd.int .u32) (w0:=w) w.heap.size rfl (.tmp 42) (.tmp 45) 22 88 (.int .u32 0) 4 rfl Tryz.underlying22 info88 rfl (by decide) (by omega) u5 x5_1 ((IntKind.u64.wrap (x6_1+(IntKind.u64.wrap (rd l0 x22_1))))%4294967296) [.int .u32 ((IntKind.u64.wrap (x6_1+(IntKind.u64.wrap (rd l0 x22_1))))%4294967296)] (fun k_=>(w.heap.size≤k_)) (fun _=>False) rfl rfl ?aP (fun _ hk=>hk.elim) ?aF ?aO ?aB ?aS ?aL ?_; (case aP=>exact rfl); (case aB=>exact (Sq.bl HB)); (case aF=>exact (fun k_ hk=>(Nat.le_trans (below_size (Sq.bl HB)) hk))); (case aO=>exact (Sq.al HO_5)); (case aS=>exact (below_size (Sq.bl HB))); (case aL=>have:=LMc12.out; omega); intro v488 w13 ho hb hg hat; rw [←Ny487.out] at ho; replace HB:=Aside0.mk (hb); have HO489:=Aside0.mk (ho); clear HO_5; clear ho hb hg hat))
     go_roundg k1
     case measure=>have:=HK1.out; omega
     case rel=>exact ⟨(y487),((IntKind.u64.wrap (x6_1+(IntKind.u64.wrap (rd l0 x22_1))))/4294967296),(wrap64 (x22_1+1)),(by first|rfl|(simp; done)|(simp [*]; done)),(by first|rfl|(simp; done)|(simp [*]; done)),H',⟨by have:=HK1.out; omega⟩,⟨by (with_reducible repeat (first|apply Kd.R_alloc|apply Kd.R_drewN|apply Kd.R_drew)); exact HO489.out⟩,⟨Sq.bl HB⟩⟩
   ·rw [if_neg c6] at H
    have c6b0:decide (x22_1<(l0.length:Int))=false:=decide_eq_false c6
    clear c6
    replace H:=Sq.ifs H
    obtain ⟨c14,H⟩:=H
    have LMc14:=Aside0.mk c14
    clear c14
    obtain ⟨y490,hy490⟩:∃ y_:List Int,y_=(x5_1++[(x6_1)%4294967296]):=⟨_,rfl⟩
    (first|(replace H:=Sq.ny hy490 H; (try dsimp -simprocs only at H))|rw [←hy490] at H|skip)
    have Ny490:=Aside0.mk hy490
    clear hy490
    replace H:=Sq.bd H
    obtain ⟨t493,A15,H⟩:=H
    (try dsimp -simprocs only at H)
    obtain rfl:=Option.some.inj H
    go_wp2_with (first|((with_reducible refine gate_builtin (b:=.append) (xs:=#[.tmp 50,.tmp 53]) rfl ?_); at_builtin; refine Kd.R_append (Kd.int .u32) (w0:=w) w.heap.size rfl (.tmp 50) (.tmp 53) 22 88 (.int .u32 0) 4 rfl Tryz.underlying22 info88 rfl (by decide) (by omega) u5 x5_1 ((x6_1)%4294967296) [.int .u32 ((x6_1)%4294967296)] (fun k_=>(w.heap.size≤k_)) (fun _=>False) rfl rfl ?aP (fun _ hk=>hk.elim) ?aF ?aO ?aB ?aS ?aL ?_; (case aP=>exact rfl); (case aB=>exact (Sq.bl HB)); (case aF=>exact (fun k_ hk=>(Nat.le_trans (below_size (Sq.bl HB)) hk))); (case aO=>exact (Sq.al HO_5)); (case aS=>exact (below_size (Sq.bl HB))); (case aL=>have:=LMc14.out; omega); intro v491 w16 ho hb hg hat; rw [←Ny490.out] at ho; replace HB:=Aside0.mk (hb); have HO492:=Aside0.mk (ho); clear HO_5; clear ho hb hg hat; obtain ⟨Ao17,co17,eo17⟩:=Kd.R_slice HO492.out; subst eo17)|((with_reducible refine gate_callee (f:=86) rfl ?_); refine Sq.gl (some 55) Tryz.func86 #[.slice Ao17 y490.length co17] ?_; (with_reducible refine (nat_cut.calls k1 (fun k_=>some k_=(.slice Ao17 y490.length co17:Value).ownBlock) _ _ y490 t493 _ ?side1 A15.out).mono ?_); (case side1=>exact Kd.R_V (Kd.R_tight rfl (HO492.out))); rintro e w18 ⟨v494,rfl,ho0,hb⟩; refine ⟨_,rfl,?_⟩; have HO495:=Aside0.mk (Kd.V_lower (Kd.V_mono (ok':=fun k_=>(w.heap.size≤k_)) ho0 (fun k_ hk_=>Or.elim hk_ (fun hs_=>((HO492.out).1 k_ hs_.symm)) (fun hn_=>(Nat.le_trans (below_size (Sq.bl HB)) hn_)))) (below_size (Sq.bl HB))); replace HO492:=Aside0.mk (Kd.R_below (Sq.al HO492) hb); replace HB:=Sq.bs HB hb; (try clear hb); (try clear hb2); (try clear hk); (try clear hi); (try clear ho0)))
    go_ret
    exact ⟨_,by first|rfl|(simp [errW_none,errW_some]<;>rfl)|(simp [*,errW_none,errW_some]<;>rfl),by (with_reducible repeat (first|apply Kd.V_alloc|apply Kd.V_drewN|apply Kd.V_drew)); exact HO495.out,Sq.bl HB⟩
def nat_Add.f (k:Nat) (l0:List Int) (l1:List Int):Option (List Int):=if l0.length<l1.length then nat_Add.g k l1 l0 else nat_Add.g k l0 l1
theorem nat_Add.calls (k:Nat) (A0:Option Addr) (c0:Nat) (l0:List Int) (A1:Option Addr) (c1:Nat) (l1:List Int) (r:List Int) (w:World) (hr0:Kd.C (Kd.int .u32) w A0 l0.length l0) (hc0:l0.length≤c0) (hr1:Kd.C (Kd.int .u32) w A1 l1.length l1) (hc1:l1.length≤c1) (h:nat_Add.f k l0 l1=some r) :
 Calls Tryz.prog 134 #[.slice A0 l0.length c0,.slice A1 l1.length c1] w fun e w'=>∃ v0_:Value,e=.returned (v0_)∧Kd.V (Kd.int .u32) 88 w' w.heap.size (fun k_=>(w.heap.size≤k_)) v0_ r∧Below w.heap.size w w':=by
 by_cases c:l0.length<l1.length
 ·exact nat_Add.calls_lt k A1 c1 l1 A0 c0 l0 r w c hr1 hc1 hr0 hc0 (by unfold nat_Add.f at h; rwa [if_pos c] at h)
 ·exact nat_Add.calls_ge k A0 c0 l0 A1 c1 l1 r w c hr0 hc0 hr1 hc1 (by unfold nat_Add.f at h; rwa [if_neg c] at h)
def nat_Sub.l0:Nat→List Int→List Int→Int→Int→Int→Option (List Int×Int)
 | 0,_,_,_,_,_=>none
 | k+1,x1,x6,x7,x19,x20=>if x20<x19 then (if 0≤x20 then (if x20<(x6.length:Int) then (if x20<(x1.length:Int) then (if (IntKind.u64.wrap (rd x6 x20))<(IntKind.u64.wrap ((IntKind.u64.wrap (x7))+(IntKind.u64.wrap (rd x1 x20)))) then (nat_Sub.l0 k x1 (x6.set (x20:Int).toNat ((IntKind.u64.wrap ((IntKind.u64.wrap (rd x6 x20))-(IntKind.u64.wrap ((IntKind.u64.wrap (x7))+(IntKind.u64.wrap (rd x1 x20))))))%4294967296)) 1 x19 (wrap64 (x20+1))) else (nat_Sub.l0 k x1 (x6.set (x20:Int).toNat ((IntKind.u64.wrap ((IntKind.u64.wrap (rd x6 x20))-(IntKind.u64.wrap ((IntKind.u64.wrap (x7))+(IntKind.u64.wrap (rd x1 x20))))))%4294967296)) 0 x19 (wrap64 (x20+1)))) else (if (IntKind.u64.wrap (rd x6 x20))<(IntKind.u64.wrap (x7)) then (nat_Sub.l0 k x1 (x6.set (x20:Int).toNat ((IntKind.u64.wrap ((IntKind.u64.wrap (rd x6 x20))-(IntKind.u64.wrap (x7))))%4294967296)) 1 x19 (wrap64 (x20+1))) else (nat_Sub.l0 k x1 (x6.set (x20:Int).toNat ((IntKind.u64.wrap ((IntKind.u64.wrap (rd x6 x20))-(IntKind.u64.wrap (x7))))%4294967296)) 0 x19 (wrap64 (x20+1))))) else (none)) else (none)) else ((nat_cut.f k x6).bind fun t503=>(some (t503,0)))
def nat_Sub.f (k:Nat) (l0:List Int) (l1:List Int):Option (List Int×Int):=(nat_Cmp.f k l0 l1).bind fun t496=>(if t496<0 then (some (([]:List Int),1)) else ((nat_cut.f k l0).bind fun t497=>((slices_Clone_uint32_uint32.f t497).bind fun t500=>(nat_Sub.l0 k l1 t500 0 (t500.length:Int) 0))))
set_option maxHeartbeats 8000000 in
set_option maxRecDepth 100000 in
theorem nat_Sub.calls (k:Nat) (P0_:Nat→Prop) (A0:Option Addr) (c0:Nat) (l0:List Int) (A1:Option Addr) (c1:Nat) (l1:List Int) (r1:List Int) (r2:Int) (w:World) (hs0:Kd.V (Kd.int .u32) 88 w w.heap.size (fun k_=>P0_ k_) (.slice A0 l0.length c0) l0) (hr1:Kd.C (Kd.int .u32) w A1 l1.length l1) (hc1:l1.length≤c1) (h:nat_Sub.f k l0 l1=some (r1,r2)) :
 Calls Tryz.prog 135 #[.slice A0 l0.length c0,.slice A1 l1.length c1] w fun e w'=>∃ v0_:Value,e=.returned (.tuple #[v0_,.int .i64 r2])∧Kd.V (Kd.int .u32) 88 w' w.heap.size (fun k_=>(P0_ k_∨w.heap.size≤k_)) v0_ r1∧Below w.heap.size w w':=by
 have HO0:=Aside0.mk (show Kd.V (Kd.int .u32) 88 w w.heap.size (fun k_=>(P0_ k_∨w.heap.size≤k_)) (.slice A0 l0.length c0) l0 from Kd.V_mono hs0 (fun k_ hk=>.inl hk))
 have HR1:=Aside0.mk hr1
 have HC1:=Aside0.mk hc1
 clear hr1 hc1
 have HB:=Aside0.mk (Below.refl w.heap.size w)
 have H:((nat_Cmp.f k l0 l1).bind fun t496=>(if t496<0 then (some (([]:List Int),1)) else ((nat_cut.f k l0).bind fun t497=>((slices_Clone_uint32_uint32.f t497).bind fun t500=>(nat_Sub.l0 k l1 t500 0 (t500.length:Int) 0)))))=some (r1,r2):=h
 clear h
 replace H:=Sq.bd H
 obtain ⟨t496,A3,H⟩:=H
 (try dsimp -simprocs only at H)
 by_cases c4:t496<0
 ·rw [if_pos c4] at H
  have c4b0:decide (t496<0)=true:=decide_eq_true c4
  clear c4
  simp only [Option.some.injEq,Prod.mk.injEq] at H
  obtain ⟨rfl,rfl⟩:=H
  go_enter Tryz.func135,Tryz.ntmps135
  go_wp2_with (first|((with_reducible refine gate_callee (f:=63) rfl ?_); refine Sq.gl (some 13) Tryz.func63 #[.slice A0 l0.length c0,.slice A1 l1.length c1] ?_; (with_reducible refine (nat_Cmp.calls k _ _ l0 _ _ l1 t496 _ ?side1 ?side2 ?side3 ?side4 A3.out).mono ?_); (case side1=>exact Sq.ca (Kd.V_reads' HO0.out).2.2); (case side2=>exact (Kd.V_reads' HO0.out).2.1); (case side3=>repeat (first|exact HR1.out|(with_reducible refine Kd.C_alloc ?_ _)|(with_reducible refine Kd.C_drewN ?_ _)|(with_reducible refine Kd.C_drew ?_))); (case side4=>exact HC1.out); rintro e w5 ⟨rfl,hb⟩; refine ⟨_,rfl,?_⟩; replace HO0:=Aside0.mk (Kd.V_below (Sq.al HO0) hb); replace HB:=Sq.bs HB hb; (try clear hb); (try clear hb2); (try clear hk); (try clear hi)))
  go_ret2
  exact ⟨_,by first|rfl|(simp [errW_none,errW_some]<;>rfl)|(simp [*,errW_none,errW_some]<;>rfl),(by exact Kd.V_nil _ _ _ _ _),Sq.bl HB⟩
 ·rw [if_neg c4] at H
  have c4b0:decide (t496<0)=false:=decide_eq_false c4
  clear c4
  replace H:=Sq.bd H
  obtain ⟨t497,A6,H⟩:=H
  (try dsimp -simprocs only at H)
  replace H:=Sq.bd H
  obtain ⟨t500,A7,H⟩:=H
  (try dsimp -simprocs only at H)
  have H':=Aside0.mk H
  clear H
  go_enter Tryz.func135,Tryz.ntmps135
  go_wp2_with (first|((with_reducible refine gate_callee (f:=63) rfl ?_); refine Sq.gl (some 13) Tryz.func63 #[.slice A0 l0.length c0,.slice A1 l1.length c1] ?_; (with_reducible refine (nat_Cmp.calls k _ _ l0 _ _ l1 t496 _ ?side1 ?side2 ?side3 ?side4 A3.out).mono ?_); (case side1=>exact Sq.ca (Kd.V_reads' HO0.out).2.2); (case side2=>exact (Kd.V_reads' HO0.out).2.1); (case side3=>repeat (first|exact HR1.out|(with_reducible refine Kd.C_alloc ?_ _)|(with_reducible refine Kd.C_drewN ?_ _)|(with_reducible refine Kd.C_drew ?_))); (case side4=>exact HC1.out); rintro e w8 ⟨rfl,hb⟩; refine ⟨_,rfl,?_⟩; replace HO0:=Aside0.mk (Kd.V_below (Sq.al HO0) hb); replace HB:=Sq.bs HB hb; (try clear hb); (try clear hb2); (try clear hk); (try clear hi))|((with_reducible refine gate_callee (f:=86) rfl ?_); refine Sq.gl (some 16) Tryz.func86 #[.slice A0 l0.length c0] ?_; (with_reducible refine (nat_cut.calls k (fun k_=>(P0_ k_∨w.heap.size≤k_)) _ _ l0 t497 _ ?side1 A6.out).mono ?_); (case side1=>exact HO0.out); rintro e w9 ⟨v498,rfl,ho0,hb⟩; refine ⟨_,rfl,?_⟩; replace HO0:=Aside0.mk (Kd.V_below (Sq.al HO0) hb); have HO499:=Aside0.mk (Kd.V_lower (Kd.V_mono (ok':=fun k_=>(P0_ k_∨w.heap.size≤k_)) ho0 (fun k_ hk_=>Or.elim hk_ (fun hs_=>hs_) (fun hn_=>(.inr (Nat.le_trans (below_size (Sq.bl HB)) hn_))))) (below_size (Sq.bl HB))); replace HB:=Sq.bs HB hb; (try clear hb); (try clear hb2); (try clear hk); (try clear hi); (try clear ho0); obtain ⟨Ao10,co10,eo10⟩:=Kd.V_slice HO499.out; subst eo10)|((with_reducible refine gate_callee (f:=110) rfl ?_); refine Sq.gl (some 17) Tryz.func110 #[.slice Ao10 t497.length co10] ?_; (with_reducible refine (slices_Clone_uint32_uint32.calls _ _ t497 t500 _ ?side1 ?side2 A7.out).mono ?_); (case side1=>exact Sq.ca (Kd.V_reads' HO499.out).2.2); (case side2=>exact (Kd.V_reads' HO499.out).2.1); rintro e w11 ⟨v501,rfl,ho0,hb⟩; refine ⟨_,rfl,?_⟩; replace HO0:=Aside0.mk (Kd.V_elder' (Sq.al HO0) (Kd.R_base ho0) hb); replace HO499:=Aside0.mk (Kd.V_elder' (Sq.al HO499) (Kd.R_base ho0) hb); have HO502:=Aside0.mk (Kd.R_lower (Kd.R_newM (M:=fun k_=>(w.heap.size≤k_)) ho0 (below_size (Sq.bl HB)) (fun k_ h_=>h_)) (below_size (Sq.bl HB))); replace HB:=Sq.bs HB hb; (try clear hb); (try clear hb2); (try clear hk); (try clear hi); (try clear ho0); obtain ⟨Ao12,co12,eo12⟩:=Kd.R_slice HO502.out; subst eo12))
  go_loopg [7,20] k (fun kq v7 v20 w'=>∃ (x6_1:List Int) (x7_1:Int) (x20_1:Int),v7=.int .u32 x7_1∧v20=.int .i64 x20_1∧Aside0 (nat_Sub.l0 kq l1 x6_1 x7_1 (t500.length:Int) x20_1=some (r1,r2))∧Aside0 (kq≤k)∧Aside0 (Kd.R (Kd.int .u32) 88 w' w.heap.size (fun k_=>(w.heap.size≤k_)) (.slice Ao12 t500.length co12) x6_1)∧Aside0 (Below w.heap.size w w'))
  case atStart=>exact ⟨(t500),(0),(0),(by first|rfl|(simp; done)|(simp [*]; done)),(by first|rfl|(simp; done)|(simp [*]; done)),H',⟨Nat.le_refl _⟩,⟨by (with_reducible repeat (first|apply Kd.R_alloc|apply Kd.R_drewN|apply Kd.R_drew)); exact Kd.R_mono HO502.out (fun _ hk=>hk.1)⟩,⟨Sq.bl HB⟩⟩
  case round =>
   clear H'
   try clear c1
   try clear p2
   try clear c4
   try clear c4b0
   try clear c6
   try clear c8
   try clear c11
   obtain ⟨x6_1,x7_1,x20_1,rfl,rfl,HA,HK1,HO_6,HB⟩:=hrel
   have hl6_1:=(Kd.R_reads' HO_6.out).1
   rw [hl6_1] at HO_6
   (try simp only [hl6_1])
   cases gk with
   | zero=>exact absurd HA.out (by simp [nat_Sub.l0])
   | succ k1 =>
    have H:=HA.out
    clear HA
    simp only [nat_Sub.l0] at H
    by_cases c13:x20_1<(t500.length:Int)
    ·rw [if_pos c13] at H
     have c13b0:decide (x20_1<(t500.length:Int))=true:=decide_eq_true c13
     clear c13
     replace H:=Sq.ifs H
     obtain ⟨c14,H⟩:=H
     have c14b0:decide (0≤x20_1)=true:=decide_eq_true c14
     clear c14
     replace H:=Sq.ifs H
     obtain ⟨c15,H⟩:=H
     have c15b0:decide (x20_1<(x6_1.length:Int))=true:=decide_eq_true c15
     clear c15
     by_cases c16:x20_1<(l1.length:Int)
     ·rw [if_pos c16] at H
      have c16b0:decide (x20_1<(l1.length:Int))=true:=decide_eq_true c16
      clear c16
      by_cases c17:(IntKind.u64.wrap (rd x6_1 x20_1))<(IntKind.u64.wrap ((IntKind.u64.wrap (x7_1))+(IntKind.u64.wrap (rd l1 x20_1))))
      ·rw [if_pos c17] at H
       have c17b0:decide ((IntKind.u64.wrap (rd x6_1 x20_1))<(IntKind.u64.wrap ((IntKind.u64.wrap (x7_1))+(IntKind.u64.wrap (rd l1 x20_1)))))=true:=decide_eq_true c17
       clear c17
       obtain ⟨y508,hy508⟩:∃ y_:List Int,y_=(x6_1.set (x20_1:Int).toNat ((IntKind.u64.wrap ((IntKind.u64.wrap (rd x6_1 x20_1))-(IntKind.u64.wrap ((IntKind.u64.wrap (x7_1))+(IntKind.u64.wrap (rd l1 x20_1))))))%4294967296)):=⟨_,rfl⟩
       (first|(replace H:=Sq.ny hy508 H; (try dsimp -simprocs only at H))|rw [←hy508] at H|skip)
       have Ny508:=Aside0.mk hy508
       clear hy508
       have H':=Aside0.mk H
       clear H
       have p506:0≤(x20_1:Int):=of_decide_eq_true (by first|(with_reducible assumption)|assumption)
       have q506:x20_1<(x6_1.length:Int):=of_decide_eq_true (by first|(with_reducible assumption)|assumption)
       obtain ⟨ad506,e506,hx506_0⟩:=Kd.at_int (Kd.R_reads' HO_6.out).2.2 x20_1 p506 q506
       cases e506
       replace p506:=eq_true p506
       replace q506:=eq_true q506
       have p507:0≤(x20_1:Int):=of_decide_eq_true (by first|(with_reducible assumption)|assumption)
       have q507:x20_1<(l1.length:Int):=of_decide_eq_true (by first|(with_reducible assumption)|assumption)
       obtain ⟨ad507,e507,hx507_0⟩:=Kd.at_int HR1.out x20_1 p507 q507
       cases e507
       replace hx507_0:=(HB.out.cell (World.block_lt_of_cell? w _ hx507_0)).trans hx507_0
       replace p507:=eq_true p507
       replace q507:=eq_true q507
       have p18:0≤(x20_1:Int):=of_decide_eq_true (by first|(with_reducible assumption)|assumption)
       have q18:(x20_1:Int)<((x6_1.length:Int):Int):=of_decide_eq_true (by first|(with_reducible assumption)|assumption)
       obtain ⟨go18,co18,eo18,gb18,gl18,cl18,HG18⟩:=Kd.R_form HO_6.out (by omega)
       (first|cases eo18|(injection eo18 with ea_ en_ ec_; (first|subst ea_|(injection ea_ with ea_; subst ea_)); subst ec_; clear en_))
       have GB18:=Aside0.mk gb18
       have GG18:=Aside0.mk HG18
       clear gb18 gl18 HG18
       (first|simp only [add_plain] at hx506_0|skip)
       obtain ⟨hx18_0,hf18_0⟩:=Kd.R_celln 0 HO_6.out (x20_1:Int) p18 q18
       replace p18:=eq_true p18
       replace q18:=eq_true q18
       have HP19:=Kd.R_putg HO_6.out (x20_1:Int) ((IntKind.u64.wrap ((IntKind.u64.wrap (rd x6_1 x20_1))-(IntKind.u64.wrap ((IntKind.u64.wrap (x7_1))+(IntKind.u64.wrap (rd l1 x20_1))))))%4294967296)
       go_wp2_with (first|((with_reducible refine gate_store (t:=88) (p:=49) rfl ?_); refine store_event (t:=88) (p:=49) (v:=?vo_w20) (w1:=(wr.setCell ⟨go18,(x20_1:Int).toNat,none⟩ (.int .u32 ((IntKind.u64.wrap ((IntKind.u64.wrap (rd x6_1 x20_1))-(IntKind.u64.wrap ((IntKind.u64.wrap (x7_1))+(IntKind.u64.wrap (rd l1 x20_1))))))%4294967296)))) ?hg ?ho ?hn ?hr ?_; (case ho=>rfl); (case hg=>rfl); (case hn=>rfl); (case hr=>first|(go_simp; done)|(go_simp; rfl)); intro w20 hw; have hg:wr.grownBy w20 (some go18):=(by rw [hw]; exact HP19.2); have hp_:Kd.R (Kd.int .u32) 88 w20 w.heap.size (fun k_=>(w.heap.size≤k_)) (.slice (some ⟨go18,0,none⟩) x6_1.length co12) y508:=(by rw [hw,Ny508.out]; exact HP19.1); clear HP19; replace HO_6:=Aside0.mk (hp_); replace HB:=Aside0.mk ((by rw [hw]; exact below_set (HB.out) GB18.out:Below w.heap.size w w20)); clear hg hw hp_))
       (try simp only [←hl6_1])
       go_roundg k1
       case measure=>have:=HK1.out; omega
       case rel=>exact ⟨(y508),(1),(wrap64 (x20_1+1)),(by first|rfl|(simp; done)|(simp [*]; done)),(by first|rfl|(simp; done)|(simp [*]; done)),H',⟨by have:=HK1.out; omega⟩,⟨by (try simp only [hl6_1]); (with_reducible repeat (first|apply Kd.R_alloc|apply Kd.R_drewN|apply Kd.R_drew)); exact HO_6.out⟩,⟨Sq.bl HB⟩⟩
      ·rw [if_neg c17] at H
       have c17b0:decide ((IntKind.u64.wrap (rd x6_1 x20_1))<(IntKind.u64.wrap ((IntKind.u64.wrap (x7_1))+(IntKind.u64.wrap (rd l1 x20_1)))))=false:=decide_eq_false c17
       clear c17
       obtain ⟨y509,hy509⟩:∃ y_:List Int,y_=(x6_1.set (x20_1:Int).toNat ((IntKind.u64.wrap ((IntKind.u64.wrap (rd x6_1 x20_1))-(IntKind.u64.wrap ((IntKind.u64.wrap (x7_1))+(IntKind.u64.wrap (rd l1 x20_1))))))%4294967296)):=⟨_,rfl⟩
       (first|(replace H:=Sq.ny hy509 H; (try dsimp -simprocs only at H))|rw [←hy509] at H|skip)
       have Ny509:=Aside0.mk hy509
       clear hy509
       have H':=Aside0.mk H
       clear H
       have p506:0≤(x20_1:Int):=of_decide_eq_true (by first|(with_reducible assumption)|assumption)
       have q506:x20_1<(x6_1.length:Int):=of_decide_eq_true (by first|(with_reducible assumption)|assumption)
       obtain ⟨ad506,e506,hx506_0⟩:=Kd.at_int (Kd.R_reads' HO_6.out).2.2 x20_1 p506 q506
       cases e506
       replace p506:=eq_true p506
       replace q506:=eq_true q506
       have p507:0≤(x20_1:Int):=of_decide_eq_true (by first|(with_reducible assumption)|assumption)
       have q507:x20_1<(l1.length:Int):=of_decide_eq_true (by first|(with_reducible assumption)|assumption)
       obtain ⟨ad507,e507,hx507_0⟩:=Kd.at_int HR1.out x20_1 p507 q507
       cases e507
       replace hx507_0:=(HB.out.cell (World.block_lt_of_cell? w _ hx507_0)).trans hx507_0
       replace p507:=eq_true p507
       replace q507:=eq_true q507
       have p21:0≤(x20_1:Int):=of_decide_eq_true (by first|(with_reducible assumption)|assumption)
       have q21:(x20_1:Int)<((x6_1.length:Int):Int):=of_decide_eq_true (by first|(with_reducible assumption)|assumption)
       obtain ⟨go21,co21,eo21,gb21,gl21,cl21,HG21⟩:=Kd.R_form HO_6.out (by omega)
       (first|cases eo21|(injection eo21 with ea_ en_ ec_; (first|subst ea_|(injection ea_ with ea_; subst ea_)); subst ec_; clear en_))
       have GB21:=Aside0.mk gb21
       have GG21:=Aside0.mk HG21
       clear gb21 gl21 HG21
       (first|simp only [add_plain] at hx506_0|skip)
       obtain ⟨hx21_0,hf21_0⟩:=Kd.R_celln 0 HO_6.out (x20_1:Int) p21 q21
       replace p21:=eq_true p21
       replace q21:=eq_true q21
       have HP22:=Kd.R_putg HO_6.out (x20_1:Int) ((IntKind.u64.wrap ((IntKind.u64.wrap (rd x6_1 x20_1))-(IntKind.u64.wrap ((IntKind.u64.wrap (x7_1))+(IntKind.u64.wrap (rd l1 x20_1))))))%4294967296)
       go_wp2_with (first|((with_reducible refine gate_store (t:=88) (p:=49) rfl ?_); refine store_event (t:=88) (p:=49) (v:=?vo_w23) (w1:=(wr.setCell ⟨go21,(x20_1:Int).toNat,none⟩ (.int .u32 ((IntKind.u64.wrap ((IntKind.u64.wrap (rd x6_1 x20_1))-(IntKind.u64.wrap ((IntKind.u64.wrap (x7_1))+(IntKind.u64.wrap (rd l1 x20_1))))))%4294967296)))) ?hg ?ho ?hn ?hr ?_; (case ho=>rfl); (case hg=>rfl); (case hn=>rfl); (case hr=>first|(go_simp; done)|(go_simp; rfl)); intro w23 hw; have hg:wr.grownBy w23 (some go21):=(by rw [hw]; exact HP22.2); have hp_:Kd.R (Kd.int .u32) 88 w23 w.heap.size (fun k_=>(w.heap.size≤k_)) (.slice (some ⟨go21,0,none⟩) x6_1.length co12) y509:=(by rw [hw,Ny509.out]; exact HP22.1); clear HP22; replace HO_6:=Aside0.mk (hp_); replace HB:=Aside0.mk ((by rw [hw]; exact below_set (HB.out) GB21.out:Below w.heap.size w w23)); clear hg hw hp_))
       (try simp only [←hl6_1])
       go_roundg k1
       case measure=>have:=HK1.out; omega
       case rel=>exact ⟨(y509),(0),(wrap64 (x20_1+1)),(by first|rfl|(simp; done)|(simp [*]; done)),(by first|rfl|(simp; done)|(simp [*]; done)),H',⟨by have:=HK1.out; omega⟩,⟨by (try simp only [hl6_1]); (with_reducible repeat (first|apply Kd.R_alloc|apply Kd.R_drewN|apply Kd.R_drew)); exact HO_6.out⟩,⟨Sq.bl HB⟩⟩
     ·rw [if_neg c16] at H
      have c16b0:decide (x20_1<(l1.length:Int))=false:=decide_eq_false c16
      clear c16
      by_cases c24:(IntKind.u64.wrap (rd x6_1 x20_1))<(IntKind.u64.wrap (x7_1))
      ·rw [if_pos c24] at H
       have c24b0:decide ((IntKind.u64.wrap (rd x6_1 x20_1))<(IntKind.u64.wrap (x7_1)))=true:=decide_eq_true c24
       clear c24
       obtain ⟨y510,hy510⟩:∃ y_:List Int,y_=(x6_1.set (x20_1:Int).toNat ((IntKind.u64.wrap ((IntKind.u64.wrap (rd x6_1 x20_1))-(IntKind.u64.wrap (x7_1))))%4294967296)):=⟨_,rfl⟩
       (first|(replace H:=Sq.ny hy510 H; (try dsimp -simprocs only at H))|rw [←hy510] at H|skip)
       have Ny510:=Aside0.mk hy510
       clear hy510
       have H':=Aside0.mk H
       clear H
       have p506:0≤(x20_1:Int):=of_decide_eq_true (by first|(with_reducible assumption)|assumption)
       have q506:x20_1<(x6_1.length:Int):=of_decide_eq_true (by first|(with_reducible assumption)|assumption)
       obtain ⟨ad506,e506,hx506_0⟩:=Kd.at_int (Kd.R_reads' HO_6.out).2.2 x20_1 p506 q506
       cases e506
       replace p506:=eq_true p506
       replace q506:=eq_true q506
       have p25:0≤(x20_1:Int):=of_decide_eq_true (by first|(with_reducible assumption)|assumption)
       have q25:(x20_1:Int)<((x6_1.length:Int):Int):=of_decide_eq_true (by first|(with_reducible assumption)|assumption)
       obtain ⟨go25,co25,eo25,gb25,gl25,cl25,HG25⟩:=Kd.R_form HO_6.out (by omega)
       (first|cases eo25|(injection eo25 with ea_ en_ ec_; (first|subst ea_|(injection ea_ with ea_; subst ea_)); subst ec_; clear en_))
       have GB25:=Aside0.mk gb25
       have GG25:=Aside0.mk HG25
       clear gb25 gl25 HG25
       (first|simp only [add_plain] at hx506_0|skip)
       obtain ⟨hx25_0,hf25_0⟩:=Kd.R_celln 0 HO_6.out (x20_1:Int) p25 q25
       replace p25:=eq_true p25
       replace q25:=eq_true q25
       have HP26:=Kd.R_putg HO_6.out (x20_1:Int) ((IntKind.u64.wrap ((IntKind.u64.wrap (rd x6_1 x20_1))-(IntKind.u64.wrap (x7_1))))%4294967296)
       go_wp2_with (first|((with_reducible refine gate_store (t:=88) (p:=49) rfl ?_); refine store_event (t:=88) (p:=49) (v:=?vo_w27) (w1:=(wr.setCell ⟨go25,(x20_1:Int).toNat,none⟩ (.int .u32 ((IntKind.u64.wrap ((IntKind.u64.wrap (rd x6_1 x20_1))-(IntKind.u64.wrap (x7_1))))%4294967296)))) ?hg ?ho ?hn ?hr ?_; (case ho=>rfl); (case hg=>rfl); (case hn=>rfl); (case hr=>first|(go_simp; done)|(go_simp; rfl)); intro w27 hw; have hg:wr.grownBy w27 (some go25):=(by rw [hw]; exact HP26.2); have hp_:Kd.R (Kd.int .u32) 88 w27 w.heap.size (fun k_=>(w.heap.size≤k_)) (.slice (some ⟨go25,0,none⟩) x6_1.length co12) y510:=(by rw [hw,Ny510.out]; exact HP26.1); clear HP26; replace HO_6:=Aside0.mk (hp_); replace HB:=Aside0.mk ((by rw [hw]; exact below_set (HB.out) GB25.out:Below w.heap.size w w27)); clear hg hw hp_))
       (try simp only [←hl6_1])
       go_roundg k1
       case measure=>have:=HK1.out; omega
       case rel=>exact ⟨(y510),(1),(wrap64 (x20_1+1)),(by first|rfl|(simp; done)|(simp [*]; done)),(by first|rfl|(simp; done)|(simp [*]; done)),H',⟨by have:=HK1.out; omega⟩,⟨by (try simp only [hl6_1]); (with_reducible repeat (first|apply Kd.R_alloc|apply Kd.R_drewN|apply Kd.R_drew)); exact HO_6.out⟩,⟨Sq.bl HB⟩⟩
      ·rw [if_neg c24] at H
       have c24b0:decide ((IntKind.u64.wrap (rd x6_1 x20_1))<(IntKind.u64.wrap (x7_1)))=false:=decide_eq_false c24
       clear c24
       obtain ⟨y511,hy511⟩:∃ y_:List Int,y_=(x6_1.set (x20_1:Int).toNat ((IntKind.u64.wrap ((IntKind.u64.wrap (rd x6_1 x20_1))-(IntKind.u64.wrap (x7_1))))%4294967296)):=⟨_,rfl⟩
       (first|(replace H:=Sq.ny hy511 H; (try dsimp -simprocs only at H))|rw [←hy511] at H|skip)
       have Ny511:=Aside0.mk hy511
       clear hy511
       have H':=Aside0.mk H
       clear H
       have p506:0≤(x20_1:Int):=of_decide_eq_true (by first|(with_reducible assumption)|assumption)
       have q506:x20_1<(x6_1.length:Int):=of_decide_eq_true (by first|(with_reducible assumption)|assumption)
       obtain ⟨ad506,e506,hx506_0⟩:=Kd.at_int (Kd.R_reads' HO_6.out).2.2 x20_1 p506 q506
       cases e506
       replace p506:=eq_true p506
       replace q506:=eq_true q506
       have p28:0≤(x20_1:Int):=of_decide_eq_true (by first|(with_reducible assumption)|assumption)
       have q28:(x20_1:Int)<((x6_1.length:Int):Int):=of_decide_eq_true (by first|(with_reducible assumption)|assumption)
       obtain ⟨go28,co28,eo28,gb28,gl28,cl28,HG28⟩:=Kd.R_form HO_6.out (by omega)
       (first|cases eo28|(injection eo28 with ea_ en_ ec_; (first|subst ea_|(injection ea_ with ea_; subst ea_)); subst ec_; clear en_))
       have GB28:=Aside0.mk gb28
       have GG28:=Aside0.mk HG28
       clear gb28 gl28 HG28
       (first|simp only [add_plain] at hx506_0|skip)
       obtain ⟨hx28_0,hf28_0⟩:=Kd.R_celln 0 HO_6.out (x20_1:Int) p28 q28
       replace p28:=eq_true p28
       replace q28:=eq_true q28
       have HP29:=Kd.R_putg HO_6.out (x20_1:Int) ((IntKind.u64.wrap ((IntKind.u64.wrap (rd x6_1 x20_1))-(IntKind.u64.wrap (x7_1))))%4294967296)
       go_wp2_with (first|((with_reducible refine gate_store (t:=88) (p:=49) rfl ?_); refine store_event (t:=88) (p:=49) (v:=?vo_w30) (w1:=(wr.setCell ⟨go28,(x20_1:Int).toNat,none⟩ (.int .u32 ((IntKind.u64.wrap ((IntKind.u64.wrap (rd x6_1 x20_1))-(IntKind.u64.wrap (x7_1))))%4294967296)))) ?hg ?ho ?hn ?hr ?_; (case ho=>rfl); (case hg=>rfl); (case hn=>rfl); (case hr=>first|(go_simp; done)|(go_simp; rfl)); intro w30 hw; have hg:wr.grownBy w30 (some go28):=(by rw [hw]; exact HP29.2); have hp_:Kd.R (Kd.int .u32) 88 w30 w.heap.size (fun k_=>(w.heap.size≤k_)) (.slice (some ⟨go28,0,none⟩) x6_1.length co12) y511:=(by rw [hw,Ny511.out]; exact HP29.1); clear HP29; replace HO_6:=Aside0.mk (hp_); replace HB:=Aside0.mk ((by rw [hw]; exact below_set (HB.out) GB28.out:Below w.heap.size w w30)); clear hg hw hp_))
       (try simp only [←hl6_1])
       go_roundg k1
       case measure=>have:=HK1.out; omega
       case rel=>exact ⟨(y511),(0),(wrap64 (x20_1+1)),(by first|rfl|(simp; done)|(simp [*]; done)),(by first|rfl|(simp; done)|(simp [*]; done)),H',⟨by have:=HK1.out; omega⟩,⟨by (try simp only [hl6_1]); (with_reducible repeat (first|apply Kd.R_alloc|apply Kd.R_drewN|apply Kd.R_drew)); exact HO_6.out⟩,⟨Sq.bl HB⟩⟩
    ·rw [if_neg c13] at H
     have c13b0:decide (x20_1<(t500.length:Int))=false:=decide_eq_false c13
     clear c13
     replace H:=Sq.bd H
     obtain ⟨t503,A31,H⟩:=H
     (try dsimp -simprocs only at H)
     simp only [Option.some.injEq,Prod.mk.injEq] at H
     obtain ⟨rfl,rfl⟩:=H
     (try simp only [hl6_1] at c13b0)
     go_wp2_with (first|((with_reducible refine gate_callee (f:=86) rfl ?_); refine Sq.gl (some 52) Tryz.func86 #[.slice Ao12 x6_1.length co12] ?_; (with_reducible refine (nat_cut.calls k1 (fun k_=>some k_=(.slice Ao12 x6_1.length co12:Value).ownBlock) _ _ x6_1 t503 _ ?side1 A31.out).mono ?_); (case side1=>exact Kd.R_V (Kd.R_tight rfl (HO_6.out))); rintro e w32 ⟨v504,rfl,ho0,hb⟩; refine ⟨_,rfl,?_⟩; have HO505:=Aside0.mk (Kd.V_lower (Kd.V_mono (ok':=fun k_=>(P0_ k_∨w.heap.size≤k_)) ho0 (fun k_ hk_=>Or.elim hk_ (fun hs_=>(.inr (((HO_6.out).1 k_ hs_.symm)))) (fun hn_=>(.inr (Nat.le_trans (below_size (Sq.bl HB)) hn_))))) (below_size (Sq.bl HB))); replace HO_6:=Aside0.mk (Kd.R_below (Sq.al HO_6) hb); replace HB:=Sq.bs HB hb; (try clear hb); (try clear hb2); (try clear hk); (try clear hi); (try clear ho0)))
     go_ret2
     exact ⟨_,by first|rfl|(simp [errW_none,errW_some]<;>rfl)|(simp [*,errW_none,errW_some]<;>rfl),by (with_reducible repeat (first|apply Kd.V_alloc|apply Kd.V_drewN|apply Kd.V_drew)); exact HO505.out,Sq.bl HB⟩
end Go.Proofs.YtjfkhbkddenfoaaGreat.N
