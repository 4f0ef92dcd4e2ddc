import Derived.Test.YtjfkhbkddenfoaaGreatQdmjmjebhdgNx0
import Derived.Test.YtjfkhbkddenfoaaGreatQjacfpdglnoM
set_option linter.unusedVariables false
set_option linter.unusedSimpArgs false
namespace Go.Proofs.YtjfkhbkddenfoaaGreat.N
open Go.RowKit Go.Proofs.YtjfkhbkddenfoaaGreatW.PrintWords Go.Proofs.YtjfkhbkddenfoaaGreatW.PrintLast Go.Proofs.YtjfkhbkddenfoaaGreatW.PrintMore
attribute [local go_sem] max2_int min2_int max_two min_two max_three min_three max_four min_four   -- for this text's walks alone
theorem nat_cut.cut_to3 {P:Program} (t e:TypeId) (kh:IntKind) {i:TypeInfo} (ht:P.underlying t=some (.slice e)) (hi:P.info? e=some i) (A:Option Addr) (n c:Nat) (j:Int) (h0:0≤j) (hm:j≤n) (hc:n≤c) :
 ∀ W:World,(Instr.slice t (.slice A n c) none (some (.int kh j)) (some (.int kh j))).run P W=.ok (.slice A j.toNat j.toNat) W:=by
 intro W
 have hel:P.elem t=e:=by simp [Program.elem,ht]
 have hu:P.underlying t=some (.slice (P.elem t)):=by rw [hel]; exact ht
 have ha:(A.map fun x=>x.add 0)=A:=by cases A<;>simp [Addr.add]
 rw [run_slice_hm W t A n c hu kh kh j j h0 (by omega) (by omega),hel]
 simp [sizeOf,typeInfo,hi,sliced,Result.andThen,ha]
def nat_cut.l0:Nat→List Int→Int→Option (List Int)
 | 0,_,_=>none
 | k+1,x0,x3=>if x3>0 then (if 0≤(wrap64 (x3-1)) then (if (wrap64 (x3-1))<(x0.length:Int) then (if (rd x0 (wrap64 (x3-1)))=0 then (nat_cut.l0 k x0 (wrap64 (x3-1))) else (if 0≤x3 then (if x3≤(x0.length:Int) then (some (x0.take (x3:Int).toNat)) else (none)) else (none))) else (none)) else (none)) else (if 0≤x3 then (if x3≤(x0.length:Int) then (some (x0.take (x3:Int).toNat)) else (none)) else (none))
def nat_cut.f (k:Nat) (l0:List Int):Option (List Int):=nat_cut.l0 k l0 (l0.length:Int)
set_option maxHeartbeats 8000000 in
set_option maxRecDepth 100000 in
theorem nat_cut.calls (k:Nat) (P0_:Nat→Prop) (A0:Option Addr) (c0:Nat) (l0:List Int) (r:List Int) (w:World) (hs0:Kd.V (Kd.int .u32) 88 w w.heap.size (fun k_=>P0_ k_) (.slice A0 l0.length c0) l0) (h:nat_cut.f k l0=some r) :
 Calls Tryz.prog 86 #[.slice A0 l0.length c0] w fun e w'=>∃ v0_:Value,e=.returned (v0_)∧Kd.V (Kd.int .u32) 88 w' w.heap.size (fun k_=>(P0_ k_∨w.heap.size≤k_)) v0_ r∧Below w.heap.size w w':=by
 have HO0:=Aside0.mk (show Kd.V (Kd.int .u32) 88 w w.heap.size (fun k_=>(P0_ k_∨w.heap.size≤k_)) (.slice A0 l0.length c0) l0 from Kd.V_mono hs0 (fun k_ hk=>.inl hk))
 have HB:=Aside0.mk (Below.refl w.heap.size w)
 have H:(nat_cut.l0 k l0 (l0.length:Int))=some r:=h
 clear h
 have H':=Aside0.mk H
 clear H
 go_enter Tryz.func86,Tryz.ntmps86
 go_wp2
 go_loopg [3] k (fun kq v3 w'=>∃ (x3_1:Int),v3=.int .i64 x3_1∧Aside0 (nat_cut.l0 kq l0 x3_1=some r)∧Aside0 (kq≤k)∧Aside0 (Kd.V (Kd.int .u32) 88 w' w.heap.size (fun k_=>(P0_ k_∨w.heap.size≤k_)) (.slice A0 l0.length c0) l0)∧Aside0 (Below w.heap.size w w'))
 case atStart=>exact ⟨((l0.length:Int)),(by first|rfl|(simp; done)|(simp [*]; done)),H',⟨Nat.le_refl _⟩,⟨by (with_reducible repeat (first|apply Kd.V_alloc|apply Kd.V_drewN|apply Kd.V_drew)); exact HO0.out⟩,⟨Sq.bl HB⟩⟩
 case round =>
  clear H'
  obtain ⟨x3_1,rfl,HA,HK1,HO_0,HB⟩:=hrel
  cases gk with
  | zero=>exact absurd HA.out (by simp [nat_cut.l0])
  | succ k1 =>
   have H:=HA.out
   clear HA
   simp only [nat_cut.l0] at H
   by_cases c2:x3_1>0
   ·rw [if_pos c2] at H
    have c2b0:decide (0<x3_1)=true:=decide_eq_true c2
    clear c2
    obtain ⟨ji3,hji3⟩:∃ j_:Int,(wrap64 (x3_1-1))=j_:=⟨_,rfl⟩
    (first|rw [hji3] at H|simp only [hji3] at H)
    have hji3w:(IntKind.i64.wrap (x3_1-1))=ji3:=(i64_w _).trans hji3
    replace H:=Sq.ifs H
    obtain ⟨c4,H⟩:=H
    have c4b0:decide (0≤(ji3))=true:=decide_eq_true c4
    clear c4
    replace H:=Sq.ifs H
    obtain ⟨c5,H⟩:=H
    have c5b0:decide ((ji3)<(l0.length:Int))=true:=decide_eq_true c5
    clear c5
    by_cases c6:(rd l0 (ji3))=0
    ·rw [if_pos c6] at H
     have c6b0:((rd l0 (ji3))==0)=true:=beq_iff_eq.mpr c6
     have c6b1:((rd l0 (ji3)) != 0)=false:=bne_eq_false_iff_eq.mpr c6
     clear c6
     have H':=Aside0.mk H
     clear H
     have p103:0≤((ji3):Int):=of_decide_eq_true (by first|(with_reducible assumption)|assumption)
     have q103:(ji3)<(l0.length:Int):=of_decide_eq_true (by first|(with_reducible assumption)|assumption)
     obtain ⟨ad103,e103,hx103_0⟩:=Kd.at_int (Kd.V_reads' HO_0.out).2.2 (ji3) p103 q103
     cases e103
     replace p103:=eq_true p103
     replace q103:=eq_true q103
     go_wp2
     go_roundg k1
     case measure=>have:=HK1.out; omega
     case rel=>exact ⟨(ji3),(by first|rfl|(simp; done)|(simp only [←hji3]<;>(first|rfl|simp))|(simp [*]; done)),H',⟨by have:=HK1.out; omega⟩,⟨by (with_reducible repeat (first|apply Kd.V_alloc|apply Kd.V_drewN|apply Kd.V_drew)); exact HO_0.out⟩,⟨Sq.bl HB⟩⟩
    ·rw [if_neg c6] at H
     have c6b0:((rd l0 (ji3))==0)=false:=beq_eq_false_iff_ne.mpr c6
     have c6b1:((rd l0 (ji3)) != 0)=true:=bne_iff_ne.mpr c6
     replace H:=Sq.ifs H
     obtain ⟨c7,H⟩:=H
     have c7b0:=eq_true c7
     have c7b1:decide (0≤x3_1)=true:=decide_eq_true c7
     clear c7
     replace H:=Sq.ifs H
     obtain ⟨c8,H⟩:=H
     have c8b0:=eq_true c8
     have c8b1:decide (x3_1≤(l0.length:Int))=true:=decide_eq_true c8
     clear c8
     obtain ⟨y104,hy104⟩:∃ y_:List Int,y_=(l0.take (x3_1:Int).toNat):=⟨_,rfl⟩
     (first|(replace H:=Sq.ny hy104 H; (try dsimp -simprocs only at H))|rw [←hy104] at H|skip)
     have Ny104:=Aside0.mk hy104
     clear hy104
     obtain rfl:=Option.some.inj H
     have p103:0≤((ji3):Int):=of_decide_eq_true (by first|(with_reducible assumption)|assumption)
     have q103:(ji3)<(l0.length:Int):=of_decide_eq_true (by first|(with_reducible assumption)|assumption)
     obtain ⟨ad103,e103,hx103_0⟩:=Kd.at_int (Kd.V_reads' HO_0.out).2.2 (ji3) p103 q103
     cases e103
     replace p103:=eq_true p103
     replace q103:=eq_true q103
     have q9:(x3_1:Int)≤((l0.length:Int):Int):=of_decide_eq_true (by first|(with_reducible assumption)|assumption)
     obtain ⟨i09,hi09,_,hsz9,_⟩:=info_parts info88
     have hroom9:l0.length≤c0:=(Kd.V_reads' HO_0.out).2.1
     have hC9:Kd.F (Kd.int .u32) _ _ (some ad103) l0.length l0:=(Kd.V_at (base:=w.heap.size) HO_0.out).2.2
     have hcut9:=nat_cut.cut_to3 (P:=Tryz.prog) 22 88 .i64 Tryz.underlying22 hi09 (some ad103) l0.length c0 x3_1 (of_decide_eq_true (by first|(with_reducible assumption)|assumption)) q9 hroom9
     have hr9:=Kd.F_take (m:=(x3_1:Int).toNat) hC9 (by omega)
     have hy9:y104.length=(x3_1:Int).toNat:=(by rw [Ny104.out,List.length_take]; omega)
     rw [←Ny104.out] at hr9
     rw [←hy9] at hcut9
     have HO108:=Aside0.mk (show Kd.V (Kd.int .u32) 88 _ w.heap.size _ (.slice (some ad103) y104.length y104.length) y104 from Kd.V_mk (Nat.le_refl _) hr9)
     clear hr9 hC9 hroom9 hi09 hsz9
     have KY9:=Aside0.mk hy9
     clear hy9
     replace q9:=eq_true q9
     go_wp2
     go_ret
     exact ⟨_,by first|rfl|(simp [errW_none,errW_some]<;>rfl)|(simp only [←hji3]; first|rfl|(simp [errW_none,errW_some]<;>rfl))|(simp [*,errW_none,errW_some]<;>rfl),by (with_reducible repeat (first|apply Kd.V_alloc|apply Kd.V_drewN|apply Kd.V_drew)); exact HO108.out,Sq.bl HB⟩
   ·rw [if_neg c2] at H
    have c2b0:decide (0<x3_1)=false:=decide_eq_false c2
    clear c2
    replace H:=Sq.ifs H
    obtain ⟨c10,H⟩:=H
    have c10b0:=eq_true c10
    have c10b1:decide (0≤x3_1)=true:=decide_eq_true c10
    clear c10
    replace H:=Sq.ifs H
    obtain ⟨c11,H⟩:=H
    have c11b0:=eq_true c11
    have c11b1:decide (x3_1≤(l0.length:Int))=true:=decide_eq_true c11
    clear c11
    obtain ⟨y109,hy109⟩:∃ y_:List Int,y_=(l0.take (x3_1:Int).toNat):=⟨_,rfl⟩
    (first|(replace H:=Sq.ny hy109 H; (try dsimp -simprocs only at H))|rw [←hy109] at H|skip)
    have Ny109:=Aside0.mk hy109
    clear hy109
    obtain rfl:=Option.some.inj H
    have q12:(x3_1:Int)≤((l0.length:Int):Int):=of_decide_eq_true (by first|(with_reducible assumption)|assumption)
    obtain ⟨i012,hi012,_,hsz12,_⟩:=info_parts info88
    have hroom12:l0.length≤c0:=(Kd.V_reads' HO_0.out).2.1
    have hC12:Kd.F (Kd.int .u32) _ _ A0 l0.length l0:=(Kd.V_at (base:=w.heap.size) HO_0.out).2.2
    have hcut12:=nat_cut.cut_to3 (P:=Tryz.prog) 22 88 .i64 Tryz.underlying22 hi012 A0 l0.length c0 x3_1 (of_decide_eq_true (by first|(with_reducible assumption)|assumption)) q12 hroom12
    have hr12:=Kd.F_take (m:=(x3_1:Int).toNat) hC12 (by omega)
    have hy12:y109.length=(x3_1:Int).toNat:=(by rw [Ny109.out,List.length_take]; omega)
    rw [←Ny109.out] at hr12
    rw [←hy12] at hcut12
    have HO113:=Aside0.mk (show Kd.V (Kd.int .u32) 88 _ w.heap.size _ (.slice A0 y109.length y109.length) y109 from Kd.V_mk (Nat.le_refl _) hr12)
    clear hr12 hC12 hroom12 hi012 hsz12
    have KY12:=Aside0.mk hy12
    clear hy12
    replace q12:=eq_true q12
    go_wp2
    go_ret
    exact ⟨_,by first|rfl|(simp [errW_none,errW_some]<;>rfl)|(simp [*,errW_none,errW_some]<;>rfl),by (with_reducible repeat (first|apply Kd.V_alloc|apply Kd.V_drewN|apply Kd.V_drew)); exact HO113.out,Sq.bl HB⟩
def bits_Len32.f (a0:Int):Option (Int):=if a0≥65536 then (if (a0/65536)≥256 then (if 0≤(((a0/65536)/256)%256) then (if (((a0/65536)/256)%256)<256 then (some (wrap64 ((16+8)+(wrap64 (bt (⟨#[0,1,2,2,3,3,3,3,4,4,4,4,4,4,4,4,5,5,5,5,5,5,5,5,5,5,5,5,5,5,5,5,6,6,6,6,6,6,6,6,6,6,6,6,6,6,6,6,6,6,6,6,6,6,6,6,6,6,6,6,6,6,6,6,7,7,7,7,7,7,7,7,7,7,7,7,7,7,7,7,7,7,7,7,7,7,7,7,7,7,7,7,7,7,7,7,7,7,7,7,7,7,7,7,7,7,7,7,7,7,7,7,7,7,7,7,7,7,7,7,7,7,7,7,7,7,7,7,8,8,8,8,8,8,8,8,8,8,8,8,8,8,8,8,8,8,8,8,8,8,8,8,8,8,8,8,8,8,8,8,8,8,8,8,8,8,8,8,8,8,8,8,8,8,8,8,8,8,8,8,8,8,8,8,8,8,8,8,8,8,8,8,8,8,8,8,8,8,8,8,8,8,8,8,8,8,8,8,8,8,8,8,8,8,8,8,8,8,8,8,8,8,8,8,8,8,8,8,8,8,8,8,8,8,8,8,8,8,8,8,8,8,8,8,8,8,8,8,8,8,8,8,8,8,8,8]⟩:ByteArray) (((a0/65536)/256)%256)))))) else (none)) else (none)) else (if 0≤((a0/65536)%256) then (if ((a0/65536)%256)<256 then (some (wrap64 (16+(wrap64 (bt (⟨#[0,1,2,2,3,3,3,3,4,4,4,4,4,4,4,4,5,5,5,5,5,5,5,5,5,5,5,5,5,5,5,5,6,6,6,6,6,6,6,6,6,6,6,6,6,6,6,6,6,6,6,6,6,6,6,6,6,6,6,6,6,6,6,6,7,7,7,7,7,7,7,7,7,7,7,7,7,7,7,7,7,7,7,7,7,7,7,7,7,7,7,7,7,7,7,7,7,7,7,7,7,7,7,7,7,7,7,7,7,7,7,7,7,7,7,7,7,7,7,7,7,7,7,7,7,7,7,7,8,8,8,8,8,8,8,8,8,8,8,8,8,8,8,8,8,8,8,8,8,8,8,8,8,8,8,8,8,8,8,8,8,8,8,8,8,8,8,8,8,8,8,8,8,8,8,8,8,8,8,8,8,8,8,8,8,8,8,8,8,8,8,8,8,8,8,8,8,8,8,8,8,8,8,8,8,8,8,8,8,8,8,8,8,8,8,8,8,8,8,8,8,8,8,8,8,8,8,8,8,8,8,8,8,8,8,8,8,8,8,8,8,8,8,8,8,8,8,8,8,8,8,8,8,8,8,8]⟩:ByteArray) ((a0/65536)%256)))))) else (none)) else (none))) else (if a0≥256 then (if 0≤((a0/256)%256) then (if ((a0/256)%256)<256 then (some (wrap64 ((0+8)+(wrap64 (bt (⟨#[0,1,2,2,3,3,3,3,4,4,4,4,4,4,4,4,5,5,5,5,5,5,5,5,5,5,5,5,5,5,5,5,6,6,6,6,6,6,6,6,6,6,6,6,6,6,6,6,6,6,6,6,6,6,6,6,6,6,6,6,6,6,6,6,7,7,7,7,7,7,7,7,7,7,7,7,7,7,7,7,7,7,7,7,7,7,7,7,7,7,7,7,7,7,7,7,7,7,7,7,7,7,7,7,7,7,7,7,7,7,7,7,7,7,7,7,7,7,7,7,7,7,7,7,7,7,7,7,8,8,8,8,8,8,8,8,8,8,8,8,8,8,8,8,8,8,8,8,8,8,8,8,8,8,8,8,8,8,8,8,8,8,8,8,8,8,8,8,8,8,8,8,8,8,8,8,8,8,8,8,8,8,8,8,8,8,8,8,8,8,8,8,8,8,8,8,8,8,8,8,8,8,8,8,8,8,8,8,8,8,8,8,8,8,8,8,8,8,8,8,8,8,8,8,8,8,8,8,8,8,8,8,8,8,8,8,8,8,8,8,8,8,8,8,8,8,8,8,8,8,8,8,8,8,8,8]⟩:ByteArray) ((a0/256)%256)))))) else (none)) else (none)) else (if 0≤((a0)%256) then (if ((a0)%256)<256 then (some (wrap64 (0+(wrap64 (bt (⟨#[0,1,2,2,3,3,3,3,4,4,4,4,4,4,4,4,5,5,5,5,5,5,5,5,5,5,5,5,5,5,5,5,6,6,6,6,6,6,6,6,6,6,6,6,6,6,6,6,6,6,6,6,6,6,6,6,6,6,6,6,6,6,6,6,7,7,7,7,7,7,7,7,7,7,7,7,7,7,7,7,7,7,7,7,7,7,7,7,7,7,7,7,7,7,7,7,7,7,7,7,7,7,7,7,7,7,7,7,7,7,7,7,7,7,7,7,7,7,7,7,7,7,7,7,7,7,7,7,8,8,8,8,8,8,8,8,8,8,8,8,8,8,8,8,8,8,8,8,8,8,8,8,8,8,8,8,8,8,8,8,8,8,8,8,8,8,8,8,8,8,8,8,8,8,8,8,8,8,8,8,8,8,8,8,8,8,8,8,8,8,8,8,8,8,8,8,8,8,8,8,8,8,8,8,8,8,8,8,8,8,8,8,8,8,8,8,8,8,8,8,8,8,8,8,8,8,8,8,8,8,8,8,8,8,8,8,8,8,8,8,8,8,8,8,8,8,8,8,8,8,8,8,8,8,8,8]⟩:ByteArray) ((a0)%256)))))) else (none)) else (none)))
set_option maxHeartbeats 8000000 in
set_option maxRecDepth 100000 in
theorem bits_Len32.calls (a0:Int) (r:Int) (w:World) (h:bits_Len32.f a0=some r) :
 Calls Tryz.prog 87 #[.int .u32 a0] w fun e w'=>e=.returned (.int .i64 r)∧Drawn0 w w':=by
 have H:(if a0≥65536 then (if (a0/65536)≥256 then (if 0≤(((a0/65536)/256)%256) then (if (((a0/65536)/256)%256)<256 then (some (wrap64 ((16+8)+(wrap64 (bt (⟨#[0,1,2,2,3,3,3,3,4,4,4,4,4,4,4,4,5,5,5,5,5,5,5,5,5,5,5,5,5,5,5,5,6,6,6,6,6,6,6,6,6,6,6,6,6,6,6,6,6,6,6,6,6,6,6,6,6,6,6,6,6,6,6,6,7,7,7,7,7,7,7,7,7,7,7,7,7,7,7,7,7,7,7,7,7,7,7,7,7,7,7,7,7,7,7,7,7,7,7,7,7,7,7,7,7,7,7,7,7,7,7,7,7,7,7,7,7,7,7,7,7,7,7,7,7,7,7,7,8,8,8,8,8,8,8,8,8,8,8,8,8,8,8,8,8,8,8,8,8,8,8,8,8,8,8,8,8,8,8,8,8,8,8,8,8,8,8,8,8,8,8,8,8,8,8,8,8,8,8,8,8,8,8,8,8,8,8,8,8,8,8,8,8,8,8,8,8,8,8,8,8,8,8,8,8,8,8,8,8,8,8,8,8,8,8,8,8,8,8,8,8,8,8,8,8,8,8,8,8,8,8,8,8,8,8,8,8,8,8,8,8,8,8,8,8,8,8,8,8,8,8,8,8,8,8,8]⟩:ByteArray) (((a0/65536)/256)%256)))))) else (none)) else (none)) else (if 0≤((a0/65536)%256) then (if ((a0/65536)%256)<256 then (some (wrap64 (16+(wrap64 (bt (⟨#[0,1,2,2,3,3,3,3,4,4,4,4,4,4,4,4,5,5,5,5,5,5,5,5,5,5,5,5,5,5,5,5,6,6,6,6,6,6,6,6,6,6,6,6,6,6,6,6,6,6,6,6,6,6,6,6,6,6,6,6,6,6,6,6,7,7,7,7,7,7,7,7,7,7,7,7,7,7,7,7,7,7,7,7,7,7,7,7,7,7,7,7,7,7,7,7,7,7,7,7,7,7,7,7,7,7,7,7,7,7,7,7,7,7,7,7,7,7,7,7,7,7,7,7,7,7,7,7,8,8,8,8,8,8,8,8,8,8,8,8,8,8,8,8,8,8,8,8,8,8,8,8,8,8,8,8,8,8,8,8,8,8,8,8,8,8,8,8,8,8,8,8,8,8,8,8,8,8,8,8,8,8,8,8,8,8,8,8,8,8,8,8,8,8,8,8,8,8,8,8,8,8,8,8,8,8,8,8,8,8,8,8,8,8,8,8,8,8,8,8,8,8,8,8,8,8,8,8,8,8,8,8,8,8,8,8,8,8,8,8,8,8,8,8,8,8,8,8,8,8,8,8,8,8,8,8]⟩:ByteArray) ((a0/65536)%256)))))) else (none)) else (none))) else (if a0≥256 then (if 0≤((a0/256)%256) then (if ((a0/256)%256)<256 then (some (wrap64 ((0+8)+(wrap64 (bt (⟨#[0,1,2,2,3,3,3,3,4,4,4,4,4,4,4,4,5,5,5,5,5,5,5,5,5,5,5,5,5,5,5,5,6,6,6,6,6,6,6,6,6,6,6,6,6,6,6,6,6,6,6,6,6,6,6,6,6,6,6,6,6,6,6,6,7,7,7,7,7,7,7,7,7,7,7,7,7,7,7,7,7,7,7,7,7,7,7,7,7,7,7,7,7,7,7,7,7,7,7,7,7,7,7,7,7,7,7,7,7,7,7,7,7,7,7,7,7,7,7,7,7,7,7,7,7,7,7,7,8,8,8,8,8,8,8,8,8,8,8,8,8,8,8,8,8,8,8,8,8,8,8,8,8,8,8,8,8,8,8,8,8,8,8,8,8,8,8,8,8,8,8,8,8,8,8,8,8,8,8,8,8,8,8,8,8,8,8,8,8,8,8,8,8,8,8,8,8,8,8,8,8,8,8,8,8,8,8,8,8,8,8,8,8,8,8,8,8,8,8,8,8,8,8,8,8,8,8,8,8,8,8,8,8,8,8,8,8,8,8,8,8,8,8,8,8,8,8,8,8,8,8,8,8,8,8,8]⟩:ByteArray) ((a0/256)%256)))))) else (none)) else (none)) else (if 0≤((a0)%256) then (if ((a0)%256)<256 then (some (wrap64 (0+(wrap64 (bt (⟨#[0,1,2,2,3,3,3,3,4,4,4,4,4,4,4,4,5,5,5,5,5,5,5,5,5,5,5,5,5,5,5,5,6,6,6,6,6,6,6,6,6,6,6,6,6,6,6,6,6,6,6,6,6,6,6,6,6,6,6,6,6,6,6,6,7,7,7,7,7,7,7,7,7,7,7,7,7,7,7,7,7,7,7,7,7,7,7,7,7,7,7,7,7,7,7,7,7,7,7,7,7,7,7,7,7,7,7,7,7,7,7,7,7,7,7,7,7,7,7,7,7,7,7,7,7,7,7,7,8,8,8,8,8,8,8,8,8,8,8,8,8,8,8,8,8,8,8,8,8,8,8,8,8,8,8,8,8,8,8,8,8,8,8,8,8,8,8,8,8,8,8,8,8,8,8,8,8,8,8,8,8,8,8,8,8,8,8,8,8,8,8,8,8,8,8,8,8,8,8,8,8,8,8,8,8,8,8,8,8,8,8,8,8,8,8,8,8,8,8,8,8,8,8,8,8,8,8,8,8,8,8,8,8,8,8,8,8,8,8,8,8,8,8,8,8,8,8,8,8,8,8,8,8,8,8,8]⟩:ByteArray) ((a0)%256)))))) else (none)) else (none))))=some r:=h
 clear h
 by_cases c2:a0≥65536
 ·rw [if_pos c2] at H
  have c2b0:decide (65536≤a0)=true:=decide_eq_true c2
  clear c2
  by_cases c3:(a0/65536)≥256
  ·rw [if_pos c3] at H
   have c3b0:decide (256≤(a0/65536))=true:=decide_eq_true c3
   clear c3
   obtain ⟨ji4,hji4⟩:∃ j_:Int,(((a0/65536)/256)%256)=j_:=⟨_,rfl⟩
   (first|rw [hji4] at H|simp only [hji4] at H)
   replace H:=Sq.ifs H
   obtain ⟨c5,H⟩:=H
   have c5b0:decide (0≤(ji4))=true:=decide_eq_true c5
   clear c5
   replace H:=Sq.ifs H
   obtain ⟨c6,H⟩:=H
   have c6b0:decide ((ji4)<256)=true:=decide_eq_true c6
   clear c6
   obtain rfl:=Option.some.inj H
   have p7:0≤((ji4):Int):=of_decide_eq_true (by first|(with_reducible assumption)|assumption)
   have q7:(ji4)<(256:Int):=of_decide_eq_true (by first|(with_reducible assumption)|assumption)
   have hx7:=bt_at (⟨#[0,1,2,2,3,3,3,3,4,4,4,4,4,4,4,4,5,5,5,5,5,5,5,5,5,5,5,5,5,5,5,5,6,6,6,6,6,6,6,6,6,6,6,6,6,6,6,6,6,6,6,6,6,6,6,6,6,6,6,6,6,6,6,6,7,7,7,7,7,7,7,7,7,7,7,7,7,7,7,7,7,7,7,7,7,7,7,7,7,7,7,7,7,7,7,7,7,7,7,7,7,7,7,7,7,7,7,7,7,7,7,7,7,7,7,7,7,7,7,7,7,7,7,7,7,7,7,7,8,8,8,8,8,8,8,8,8,8,8,8,8,8,8,8,8,8,8,8,8,8,8,8,8,8,8,8,8,8,8,8,8,8,8,8,8,8,8,8,8,8,8,8,8,8,8,8,8,8,8,8,8,8,8,8,8,8,8,8,8,8,8,8,8,8,8,8,8,8,8,8,8,8,8,8,8,8,8,8,8,8,8,8,8,8,8,8,8,8,8,8,8,8,8,8,8,8,8,8,8,8,8,8,8,8,8,8,8,8,8,8,8,8,8,8,8,8,8,8,8,8,8,8,8,8,8,8]⟩:ByteArray) (ji4)
   replace p7:=eq_true p7
   replace q7:=eq_true q7
   go_enter Tryz.func87,Tryz.ntmps87
   go_wp2
   go_ret
   exact ⟨by first|rfl|(simp; done)|(simp only [←hji4]<;>(first|rfl|simp))|(simp [*]; done),by repeat (first|exact Drawn0.refl _|apply Drawn0.step)⟩
  ·rw [if_neg c3] at H
   have c3b0:decide (256≤(a0/65536))=false:=decide_eq_false c3
   clear c3
   obtain ⟨ji8,hji8⟩:∃ j_:Int,((a0/65536)%256)=j_:=⟨_,rfl⟩
   (first|rw [hji8] at H|simp only [hji8] at H)
   replace H:=Sq.ifs H
   obtain ⟨c9,H⟩:=H
   have c9b0:decide (0≤(ji8))=true:=decide_eq_true c9
   clear c9
   replace H:=Sq.ifs H
   obtain ⟨c10,H⟩:=H
   have c10b0:decide ((ji8)<256)=true:=decide_eq_true c10
   clear c10
   obtain rfl:=Option.some.inj H
   have p11:0≤((ji8):Int):=of_decide_eq_true (by first|(with_reducible assumption)|assumption)
   have q11:(ji8)<(256:Int):=of_decide_eq_true (by first|(with_reducible assumption)|assumption)
   have hx11:=bt_at (⟨#[0,1,2,2,3,3,3,3,4,4,4,4,4,4,4,4,5,5,5,5,5,5,5,5,5,5,5,5,5,5,5,5,6,6,6,6,6,6,6,6,6,6,6,6,6,6,6,6,6,6,6,6,6,6,6,6,6,6,6,6,6,6,6,6,7,7,7,7,7,7,7,7,7,7,7,7,7,7,7,7,7,7,7,7,7,7,7,7,7,7,7,7,7,7,7,7,7,7,7,7,7,7,7,7,7,7,7,7,7,7,7,7,7,7,7,7,7,7,7,7,7,7,7,7,7,7,7,7,8,8,8,8,8,8,8,8,8,8,8,8,8,8,8,8,8,8,8,8,8,8,8,8,8,8,8,8,8,8,8,8,8,8,8,8,8,8,8,8,8,8,8,8,8,8,8,8,8,8,8,8,8,8,8,8,8,8,8,8,8,8,8,8,8,8,8,8,8,8,8,8,8,8,8,8,8,8,8,8,8,8,8,8,8,8,8,8,8,8,8,8,8,8,8,8,8,8,8,8,8,8,8,8,8,8,8,8,8,8,8,8,8,8,8,8,8,8,8,8,8,8,8,8,8,8,8,8]⟩:ByteArray) (ji8)
   replace p11:=eq_true p11
   replace q11:=eq_true q11
   go_enter Tryz.func87,Tryz.ntmps87
   go_wp2
   go_ret
   exact ⟨by first|rfl|(simp; done)|(simp only [←hji8]<;>(first|rfl|simp))|(simp [*]; done),by repeat (first|exact Drawn0.refl _|apply Drawn0.step)⟩
 ·rw [if_neg c2] at H
  have c2b0:decide (65536≤a0)=false:=decide_eq_false c2
  clear c2
  by_cases c12:a0≥256
  ·rw [if_pos c12] at H
   have c12b0:decide (256≤a0)=true:=decide_eq_true c12
   clear c12
   obtain ⟨ji13,hji13⟩:∃ j_:Int,((a0/256)%256)=j_:=⟨_,rfl⟩
   (first|rw [hji13] at H|simp only [hji13] at H)
   replace H:=Sq.ifs H
   obtain ⟨c14,H⟩:=H
   have c14b0:decide (0≤(ji13))=true:=decide_eq_true c14
   clear c14
   replace H:=Sq.ifs H
   obtain ⟨c15,H⟩:=H
   have c15b0:decide ((ji13)<256)=true:=decide_eq_true c15
   clear c15
   obtain rfl:=Option.some.inj H
   have p16:0≤((ji13):Int):=of_decide_eq_true (by first|(with_reducible assumption)|assumption)
   have q16:(ji13)<(256:Int):=of_decide_eq_true (by first|(with_reducible assumption)|assumption)
   have hx16:=bt_at (⟨#[0,1,2,2,3,3,3,3,4,4,4,4,4,4,4,4,5,5,5,5,5,5,5,5,5,5,5,5,5,5,5,5,6,6,6,6,6,6,6,6,6,6,6,6,6,6,6,6,6,6,6,6,6,6,6,6,6,6,6,6,6,6,6,6,7,7,7,7,7,7,7,7,7,7,7,7,7,7,7,7,7,7,7,7,7,7,7,7,7,7,7,7,7,7,7,7,7,7,7,7,7,7,7,7,7,7,7,7,7,7,7,7,7,7,7,7,7,7,7,7,7,7,7,7,7,7,7,7,8,8,8,8,8,8,8,8,8,8,8,8,8,8,8,8,8,8,8,8,8,8,8,8,8,8,8,8,8,8,8,8,8,8,8,8,8,8,8,8,8,8,8,8,8,8,8,8,8,8,8,8,8,8,8,8,8,8,8,8,8,8,8,8,8,8,8,8,8,8,8,8,8,8,8,8,8,8,8,8,8,8,8,8,8,8,8,8,8,8,8,8,8,8,8,8,8,8,8,8,8,8,8,8,8,8,8,8,8,8,8,8,8,8,8,8,8,8,8,8,8,8,8,8,8,8,8,8]⟩:ByteArray) (ji13)
   replace p16:=eq_true p16
   replace q16:=eq_true q16
   go_enter Tryz.func87,Tryz.ntmps87
   go_wp2
   go_ret
   exact ⟨by first|rfl|(simp; done)|(simp only [←hji13]<;>(first|rfl|simp))|(simp [*]; done),by repeat (first|exact Drawn0.refl _|apply Drawn0.step)⟩
  ·rw [if_neg c12] at H
   have c12b0:decide (256≤a0)=false:=decide_eq_false c12
   clear c12
   obtain ⟨ji17,hji17⟩:∃ j_:Int,((a0)%256)=j_:=⟨_,rfl⟩
   (first|rw [hji17] at H|simp only [hji17] at H)
   replace H:=Sq.ifs H
   obtain ⟨c18,H⟩:=H
   have c18b0:decide (0≤(ji17))=true:=decide_eq_true c18
   clear c18
   replace H:=Sq.ifs H
   obtain ⟨c19,H⟩:=H
   have c19b0:decide ((ji17)<256)=true:=decide_eq_true c19
   clear c19
   obtain rfl:=Option.some.inj H
   have p20:0≤((ji17):Int):=of_decide_eq_true (by first|(with_reducible assumption)|assumption)
   have q20:(ji17)<(256:Int):=of_decide_eq_true (by first|(with_reducible assumption)|assumption)
   have hx20:=bt_at (⟨#[0,1,2,2,3,3,3,3,4,4,4,4,4,4,4,4,5,5,5,5,5,5,5,5,5,5,5,5,5,5,5,5,6,6,6,6,6,6,6,6,6,6,6,6,6,6,6,6,6,6,6,6,6,6,6,6,6,6,6,6,6,6,6,6,7,7,7,7,7,7,7,7,7,7,7,7,7,7,7,7,7,7,7,7,7,7,7,7,7,7,7,7,7,7,7,7,7,7,7,7,7,7,7,7,7,7,7,7,7,7,7,7,7,7,7,7,7,7,7,7,7,7,7,7,7,7,7,7,8,8,8,8,8,8,8,8,8,8,8,8,8,8,8,8,8,8,8,8,8,8,8,8,8,8,8,8,8,8,8,8,8,8,8,8,8,8,8,8,8,8,8,8,8,8,8,8,8,8,8,8,8,8,8,8,8,8,8,8,8,8,8,8,8,8,8,8,8,8,8,8,8,8,8,8,8,8,8,8,8,8,8,8,8,8,8,8,8,8,8,8,8,8,8,8,8,8,8,8,8,8,8,8,8,8,8,8,8,8,8,8,8,8,8,8,8,8,8,8,8,8,8,8,8,8,8,8]⟩:ByteArray) (ji17)
   replace p20:=eq_true p20
   replace q20:=eq_true q20
   go_enter Tryz.func87,Tryz.ntmps87
   go_wp2
   go_ret
   exact ⟨by first|rfl|(simp; done)|(simp only [←hji17]<;>(first|rfl|simp))|(simp [*]; done),by repeat (first|exact Drawn0.refl _|apply Drawn0.step)⟩
def nat_Bits.f (k:Nat) (l0:List Int):Option (Int):=(nat_cut.f k l0).bind fun t114=>(if (t114.length:Int)=0 then (some 0) else (if 0≤(wrap64 ((t114.length:Int)-1)) then (if (wrap64 ((t114.length:Int)-1))<(t114.length:Int) then ((bits_Len32.f (rd t114 (wrap64 ((t114.length:Int)-1)))).bind fun t118=>(some (wrap64 ((wrap64 (32*(wrap64 ((t114.length:Int)-1))))+t118)))) else (none)) else (none)))
set_option maxHeartbeats 8000000 in
set_option maxRecDepth 100000 in
theorem nat_Bits.calls (k:Nat) (A0:Option Addr) (c0:Nat) (l0:List Int) (r:Int) (w:World) (hr0:Kd.C (Kd.int .u32) w A0 l0.length l0) (hc0:l0.length≤c0) (h:nat_Bits.f k l0=some r) :
 Calls Tryz.prog 59 #[.slice A0 l0.length c0] w fun e w'=>e=.returned (.int .i64 r)∧Below w.heap.size w w':=by
 have HR0:=Aside0.mk hr0
 have HC0:=Aside0.mk hc0
 clear hr0 hc0
 have HB:=Aside0.mk (Below.refl w.heap.size w)
 have H:((nat_cut.f k l0).bind fun t114=>(if (t114.length:Int)=0 then (some 0) else (if 0≤(wrap64 ((t114.length:Int)-1)) then (if (wrap64 ((t114.length:Int)-1))<(t114.length:Int) then ((bits_Len32.f (rd t114 (wrap64 ((t114.length:Int)-1)))).bind fun t118=>(some (wrap64 ((wrap64 (32*(wrap64 ((t114.length:Int)-1))))+t118)))) else (none)) else (none))))=some r:=h
 clear h
 replace H:=Sq.bd H
 obtain ⟨t114,A2,H⟩:=H
 (try dsimp -simprocs only at H)
 by_cases c3:(t114.length:Int)=0
 ·rw [if_pos c3] at H
  have c3b0:((t114.length:Int)==0)=true:=beq_iff_eq.mpr c3
  have c3b1:((t114.length:Int) != 0)=false:=bne_eq_false_iff_eq.mpr c3
  clear c3
  obtain rfl:=Option.some.inj H
  go_enter Tryz.func59,Tryz.ntmps59
  go_wp2_with (first|((with_reducible refine gate_callee (f:=86) rfl ?_); refine Sq.gl (some 4) Tryz.func86 #[.slice A0 l0.length c0] ?_; (with_reducible refine (nat_cut.calls k (fun k_=>k_<w.heap.size) _ _ l0 t114 _ ?side1 A2.out).mono ?_); (case side1=>exact Kd.V_mk HC0.out (Kd.F_below (Kd.C_F (Kd.heap_int .u32) HR0.out) (Sq.bl HB))); rintro e w4 ⟨v115,rfl,ho0,hb⟩; refine ⟨_,rfl,?_⟩; have HO116:=Aside0.mk (Kd.V_lower (Kd.V_mono (ok':=fun k_=>True) ho0 (fun k_ hk_=>trivial)) (below_size (Sq.bl HB))); replace HB:=Sq.bs HB hb; (try clear hb); (try clear hb2); (try clear hk); (try clear hi); (try clear ho0); obtain ⟨Ao5,co5,eo5⟩:=Kd.V_slice HO116.out; subst eo5))
  go_ret
  exact ⟨by first|rfl|(simp [errW_none,errW_some]<;>rfl)|(simp [*,errW_none,errW_some]<;>rfl),Sq.bl HB⟩
 ·rw [if_neg c3] at H
  have c3b0:((t114.length:Int)==0)=false:=beq_eq_false_iff_ne.mpr c3
  have c3b1:((t114.length:Int) != 0)=true:=bne_iff_ne.mpr c3
  have c3b2:¬ (t114=[]):=fun h_=>c3 (by rw [h_]; rfl)
  obtain ⟨ji6,hji6⟩:∃ j_:Int,(wrap64 ((t114.length:Int)-1))=j_:=⟨_,rfl⟩
  (first|rw [hji6] at H|simp only [hji6] at H)
  (try rw [hji6] at A2)
  have hji6w:(IntKind.i64.wrap ((t114.length:Int)-1))=ji6:=(i64_w _).trans hji6
  replace H:=Sq.ifs H
  obtain ⟨c7,H⟩:=H
  have c7b0:decide (0≤(ji6))=true:=decide_eq_true c7
  clear c7
  replace H:=Sq.ifs H
  obtain ⟨c8,H⟩:=H
  have c8b0:decide ((ji6)<(t114.length:Int))=true:=decide_eq_true c8
  clear c8
  replace H:=Sq.bd H
  obtain ⟨t118,A9,H⟩:=H
  (try dsimp -simprocs only at H)
  obtain rfl:=Option.some.inj H
  go_enter Tryz.func59,Tryz.ntmps59
  go_wp2_with (first|((with_reducible refine gate_callee (f:=86) rfl ?_); refine Sq.gl (some 4) Tryz.func86 #[.slice A0 l0.length c0] ?_; (with_reducible refine (nat_cut.calls k (fun k_=>k_<w.heap.size) _ _ l0 t114 _ ?side1 A2.out).mono ?_); (case side1=>exact Kd.V_mk HC0.out (Kd.F_below (Kd.C_F (Kd.heap_int .u32) HR0.out) (Sq.bl HB))); rintro e w10 ⟨v115,rfl,ho0,hb⟩; refine ⟨_,rfl,?_⟩; have HO116:=Aside0.mk (Kd.V_lower (Kd.V_mono (ok':=fun k_=>True) ho0 (fun k_ hk_=>trivial)) (below_size (Sq.bl HB))); replace HB:=Sq.bs HB hb; (try clear hb); (try clear hb2); (try clear hk); (try clear hi); (try clear ho0); obtain ⟨Ao11,co11,eo11⟩:=Kd.V_slice HO116.out; subst eo11; have p117:0≤((ji6):Int):=of_decide_eq_true (by first|(with_reducible assumption)|assumption); have q117:(ji6)<(t114.length:Int):=of_decide_eq_true (by first|(with_reducible assumption)|assumption); obtain ⟨ad117,e117,hx117_0⟩:=Kd.at_int (Kd.V_reads' HO116.out).2.2 (ji6) p117 q117; cases e117; replace p117:=eq_true p117; replace q117:=eq_true q117)|((with_reducible refine gate_callee (f:=87) rfl ?_); refine goesL_ (some 18) rfl rfl Tryz.func87 (by kernel_rfl) rfl #[.int .u32 (rd t114 (ji6))] rfl (by (try simp only [List.map_toArray,List.map_cons,List.map_nil]); first|done|(simp only [hji6]; rfl)|rfl|(simp only [List.length_drop,List.length_take]; rfl)) ?_; (with_reducible refine (bits_Len32.calls (rd t114 (ji6)) t118 _ A9.out).mono ?_); rintro e w' ⟨rfl,⟨nd,rfl⟩⟩; refine ⟨_,rfl,?_⟩))
  go_ret
  exact ⟨by first|rfl|(simp [errW_none,errW_some]<;>rfl)|(simp only [←hji6]; first|rfl|(simp [errW_none,errW_some]<;>rfl))|(simp [*,errW_none,errW_some]<;>rfl),Sq.bl HB⟩
def slices_Clone_uint32_uint32.f (l0:List Int):Option (List Int):=(some (([]:List Int):List Int)).bind fun y119=>(if y119.length+l0.length<35184372088832 then (some (y119++l0)) else (none))
set_option maxHeartbeats 8000000 in
set_option maxRecDepth 100000 in
theorem slices_Clone_uint32_uint32.calls_some (A0:Addr) (c0:Nat) (l0:List Int) (r:List Int) (w:World) (hr0:Kd.C (Kd.int .u32) w (some A0) l0.length l0) (hc0:l0.length≤c0) (h:slices_Clone_uint32_uint32.f l0=some r) :
 Calls Tryz.prog 110 #[.slice (some A0) l0.length c0] w fun e w'=>∃ v0_:Value,e=.returned (v0_)∧Kd.R (Kd.int .u32) 88 w' w.heap.size (fun _=>True) v0_ r∧Below w.heap.size w w':=by
 have HR0:=Aside0.mk hr0
 have HC0:=Aside0.mk hc0
 clear hr0 hc0
 have HB:=Aside0.mk (Below.refl w.heap.size w)
 have keq:=fun W:World=>Lib.run_eql_slice_nil (P:=Tryz.prog) W 22 88 (some A0) l0.length c0 0 0 Tryz.underlying22
 have H:((some (([]:List Int):List Int)).bind fun y119=>(if y119.length+l0.length<35184372088832 then (some (y119++l0)) else (none)))=some r:=h
 clear h
 obtain ⟨y119,hy119⟩:∃ y_:List Int,y_=(([]:List Int)):=⟨_,rfl⟩
 (first|(replace H:=Sq.ny hy119 H; (try dsimp -simprocs only at H))|rw [←hy119] at H|skip)
 have Ny119:=Aside0.mk hy119
 clear hy119
 replace H:=Sq.ifs H
 obtain ⟨c2,H⟩:=H
 have LMc2:=Aside0.mk c2
 clear c2
 obtain ⟨y122,hy122⟩:∃ y_:List Int,y_=(y119++l0):=⟨_,rfl⟩
 (first|(replace H:=Sq.ny hy122 H; (try dsimp -simprocs only at H))|rw [←hy122] at H|skip)
 have Ny122:=Aside0.mk hy122
 clear hy122
 obtain rfl:=Option.some.inj H
 go_enter Tryz.func110,Tryz.ntmps110
 go_wp2_with (first|((with_reducible refine gate_dst (N:=5) rfl ?_); refine Kd.R_lit (Kd.int .u32) _ 88 ?hg (N:=5) ?hd (xs:=([]:List Int)) (inner:=[]) (ok:=fun _=>True) (okp:=fun _=>True) ?hr ?hp (fun _ hk=>hk) trivial (Below.refl _ _) (Nat.le_refl _) (by simp) ?_; (case hd=>rfl); (case hg=>rfl); (case hr=>first|(go_simp; done)|(go_simp; rfl)); (case hp=>exact (Reps.none _ _)); intro v120 w3 ho4 hb hg_ hnew_; clear hg_ hnew_; (first|rw [←Ny119.out] at ho4|(simp only [Int.reduceToNat] at ho4; rw [←Ny119.out] at ho4)); have HO121:=Aside0.mk (Kd.R_lower ho4 (below_size (Sq.bl HB))); replace HB:=Sq.bs HB hb; clear hb ho4)|((with_reducible refine gate_builtin (b:=.append) (xs:=#[.tmp 5,.tmp 6]) rfl ?_); at_builtin; refine Kd.R_append_rows (Kd.int .u32) (w0:=w) w.heap.size rfl (.tmp 5) (.tmp 6) 22 88 (.int .u32 0) 4 rfl Tryz.underlying22 info88 rfl (by decide) (by omega) v120 y119 l0 _ _ _ (fun _=>True) (fun _=>False) rfl rfl ?aO ?aR (fun _ _ h=>h) (fun _ h=>h.elim) ?aF ?aB ?aS ?aL ?_; (case aR=>exact Sq.ca (Kd.C_below HR0.out HB.out)); (case aB=>exact (Sq.bl HB)); (case aF=>exact (fun _ _=>trivial)); (case aO=>exact (Sq.al HO121)); (case aS=>exact (below_size (Sq.bl HB))); (case aL=>have:=LMc2.out; omega); intro v123 w5 ho hb hg hat; rw [←Ny122.out] at ho; replace HB:=Aside0.mk (hb); have HO124:=Aside0.mk (ho); clear HO121; clear ho hb hg hat))
 go_ret
 exact ⟨_,by first|rfl|(simp [errW_none,errW_some]<;>rfl)|(simp [*,errW_none,errW_some]<;>rfl),by (with_reducible repeat (first|apply Kd.R_alloc|apply Kd.R_drewN|apply Kd.R_drew)); exact HO124.out,Sq.bl HB⟩
theorem slices_Clone_uint32_uint32.calls (A0:Option Addr) (c0:Nat) (l0:List Int) (r:List Int) (w:World) (hr0:Kd.C (Kd.int .u32) w A0 l0.length l0) (hc0:l0.length≤c0) (h:slices_Clone_uint32_uint32.f l0=some r) :
 Calls Tryz.prog 110 #[.slice A0 l0.length c0] w fun e w'=>∃ v0_:Value,e=.returned (v0_)∧Kd.R (Kd.int .u32) 88 w' w.heap.size (fun _=>True) v0_ r∧Below w.heap.size w w':=by
 cases A0 with
 | some A0=>exact slices_Clone_uint32_uint32.calls_some A0 c0 l0 r w hr0 hc0 h
 | none =>
  have h0:l0=[]:=by
   apply List.eq_nil_of_length_eq_zero
   apply Nat.eq_zero_of_not_pos
   intro hp
   obtain ⟨ad,e,_⟩:=hr0.2.2 hp
   cases e
  subst h0
  have hr:r=[]:=by simpa [slices_Clone_uint32_uint32.f] using h.symm
  subst hr
  have keq:=fun W:World=>Lib.run_eql_slice_nil (P:=Tryz.prog) W 22 88 none 0 c0 0 0 Tryz.underlying22
  clear hr0 h
  have HC:=Aside0.mk hc0
  clear hc0
  show Calls Tryz.prog 110 #[.slice none 0 c0] w _
  go_enter Tryz.func110,Tryz.ntmps110
  go_wp2
  go_ret
  exact ⟨_,rfl,Kd.R_nil _ _ _ _ _,Below.refl _ _⟩
def nat_Trim.f (k:Nat) (l0:List Int):Option (List Int):=(nat_cut.f k l0).bind fun t125=>((slices_Clone_uint32_uint32.f t125).bind fun t128=>(some t128))
set_option maxHeartbeats 8000000 in
set_option maxRecDepth 100000 in
theorem nat_Trim.calls (k:Nat) (A0:Option Addr) (c0:Nat) (l0:List Int) (r:List Int) (w:World) (hr0:Kd.C (Kd.int .u32) w A0 l0.length l0) (hc0:l0.length≤c0) (h:nat_Trim.f k l0=some r) :
 Calls Tryz.prog 109 #[.slice A0 l0.length c0] w fun e w'=>∃ v0_:Value,e=.returned (v0_)∧Kd.R (Kd.int .u32) 88 w' w.heap.size (fun _=>True) v0_ r∧Below w.heap.size w w':=by
 have HR0:=Aside0.mk hr0
 have HC0:=Aside0.mk hc0
 clear hr0 hc0
 have HB:=Aside0.mk (Below.refl w.heap.size w)
 have H:((nat_cut.f k l0).bind fun t125=>((slices_Clone_uint32_uint32.f t125).bind fun t128=>(some t128)))=some r:=h
 clear h
 replace H:=Sq.bd H
 obtain ⟨t125,A2,H⟩:=H
 (try dsimp -simprocs only at H)
 replace H:=Sq.bd H
 obtain ⟨t128,A3,H⟩:=H
 (try dsimp -simprocs only at H)
 obtain rfl:=Option.some.inj H
 go_enter Tryz.func109,Tryz.ntmps109
 go_wp2_with (first|((with_reducible refine gate_callee (f:=86) rfl ?_); refine Sq.gl (some 4) Tryz.func86 #[.slice A0 l0.length c0] ?_; (with_reducible refine (nat_cut.calls k (fun k_=>k_<w.heap.size) _ _ l0 t125 _ ?side1 A2.out).mono ?_); (case side1=>exact Kd.V_mk HC0.out (Kd.F_below (Kd.C_F (Kd.heap_int .u32) HR0.out) (Sq.bl HB))); rintro e w4 ⟨v126,rfl,ho0,hb⟩; refine ⟨_,rfl,?_⟩; have HO127:=Aside0.mk (Kd.V_lower (Kd.V_mono (ok':=fun k_=>True) ho0 (fun k_ hk_=>trivial)) (below_size (Sq.bl HB))); replace HB:=Sq.bs HB hb; (try clear hb); (try clear hb2); (try clear hk); (try clear hi); (try clear ho0); obtain ⟨Ao5,co5,eo5⟩:=Kd.V_slice HO127.out; subst eo5)|((with_reducible refine gate_callee (f:=110) rfl ?_); refine Sq.gl (some 5) Tryz.func110 #[.slice Ao5 t125.length co5] ?_; (with_reducible refine (slices_Clone_uint32_uint32.calls _ _ t125 t128 _ ?side1 ?side2 A3.out).mono ?_); (case side1=>exact Sq.ca (Kd.V_reads' HO127.out).2.2); (case side2=>exact (Kd.V_reads' HO127.out).2.1); rintro e w6 ⟨v129,rfl,ho0,hb⟩; refine ⟨_,rfl,?_⟩; replace HO127:=Aside0.mk (Kd.V_elder' (Sq.al HO127) (Kd.R_base ho0) hb); have HO130:=Aside0.mk (Kd.R_lower ho0 (below_size (Sq.bl HB))); replace HB:=Sq.bs HB hb; (try clear hb); (try clear hb2); (try clear hk); (try clear hi); (try clear ho0)))
 go_ret
 exact ⟨_,by first|rfl|(simp [errW_none,errW_some]<;>rfl)|(simp [*,errW_none,errW_some]<;>rfl),by (with_reducible repeat (first|apply Kd.R_alloc|apply Kd.R_drewN|apply Kd.R_drew)); exact HO130.out,Sq.bl HB⟩
def nat_Cmp.l0:Nat→List Int→List Int→Int→Option (Int)
 | 0,_,_,_=>none
 | k+1,x0,x1,x5=>if x5≥0 then (if 0≤x5 then (if x5<(x0.length:Int) then (if x5<(x1.length:Int) then (if (rd x0 x5)<(rd x1 x5) then (some (-1)) else (if (rd x0 x5)>(rd x1 x5) then (some 1) else (nat_Cmp.l0 k x0 x1 (wrap64 (x5-1))))) else (none)) else (none)) else (none)) else (some 0)
def nat_Cmp.f (k:Nat) (l0:List Int) (l1:List Int):Option (Int):=(nat_cut.f k l0).bind fun t131=>((nat_cut.f k l1).bind fun t134=>(if (t131.length:Int)<(t134.length:Int) then (some (-1)) else (if (t131.length:Int)>(t134.length:Int) then (some 1) else (nat_Cmp.l0 k t131 t134 (wrap64 ((t131.length:Int)-1))))))
set_option maxHeartbeats 8000000 in
set_option maxRecDepth 100000 in
theorem nat_Cmp.calls (k:Nat) (A0:Option Addr) (c0:Nat) (l0:List Int) (A1:Option Addr) (c1:Nat) (l1:List Int) (r:Int) (w:World) (hr0:Kd.C (Kd.int .u32) w A0 l0.length l0) (hc0:l0.length≤c0) (hr1:Kd.C (Kd.int .u32) w A1 l1.length l1) (hc1:l1.length≤c1) (h:nat_Cmp.f k l0 l1=some r) :
 Calls Tryz.prog 63 #[.slice A0 l0.length c0,.slice A1 l1.length c1] w fun e w'=>e=.returned (.int .i64 r)∧Below w.heap.size w w':=by
 have HR0:=Aside0.mk hr0
 have HC0:=Aside0.mk hc0
 clear hr0 hc0
 have HR1:=Aside0.mk hr1
 have HC1:=Aside0.mk hc1
 clear hr1 hc1
 have HB:=Aside0.mk (Below.refl w.heap.size w)
 have H:((nat_cut.f k l0).bind fun t131=>((nat_cut.f k l1).bind fun t134=>(if (t131.length:Int)<(t134.length:Int) then (some (-1)) else (if (t131.length:Int)>(t134.length:Int) then (some 1) else (nat_Cmp.l0 k t131 t134 (wrap64 ((t131.length:Int)-1)))))))=some r:=h
 clear h
 replace H:=Sq.bd H
 obtain ⟨t131,A3,H⟩:=H
 (try dsimp -simprocs only at H)
 replace H:=Sq.bd H
 obtain ⟨t134,A4,H⟩:=H
 (try dsimp -simprocs only at H)
 by_cases c5:(t131.length:Int)<(t134.length:Int)
 ·rw [if_pos c5] at H
  have c5b0:decide ((t131.length:Int)<(t134.length:Int))=true:=decide_eq_true c5
  have c5b1:decide (t131.length<t134.length)=true:=decide_eq_true (Int.ofNat_lt.mp c5)
  clear c5
  obtain rfl:=Option.some.inj H
  go_enter Tryz.func63,Tryz.ntmps63
  go_wp2_with (first|(go_at_call 86; (with_reducible refine (nat_cut.calls k (fun k_=>k_<w.heap.size) _ _ l0 t131 _ ?side1 A3.out).mono ?_); (case side1=>exact Kd.V_mk HC0.out (Kd.F_below (Kd.C_F (Kd.heap_int .u32) HR0.out) (Sq.bl HB))); rintro e w6 ⟨v132,rfl,ho0,hb⟩; have HO133:=Aside0.mk (Kd.V_lower (Kd.V_mono (ok':=fun k_=>True) ho0 (fun k_ hk_=>trivial)) (below_size (Sq.bl HB))); replace HB:=Sq.bs HB hb; (try clear hb); (try clear hb2); (try clear hk); (try clear hi); (try clear ho0))|(go_at_call 86; (with_reducible refine (nat_cut.calls k (fun k_=>k_<w.heap.size) _ _ l1 t134 _ ?side1 A4.out).mono ?_); (case side1=>exact Kd.V_mk HC1.out (Kd.F_below (Kd.C_F (Kd.heap_int .u32) HR1.out) (Sq.bl HB))); rintro e w7 ⟨v135,rfl,ho0,hb⟩; replace HO133:=Aside0.mk (Kd.V_below (Sq.al HO133) hb); have HO136:=Aside0.mk (Kd.V_lower (Kd.V_mono (ok':=fun k_=>True) ho0 (fun k_ hk_=>trivial)) (below_size (Sq.bl HB))); replace HB:=Sq.bs HB hb; (try clear hb); (try clear hb2); (try clear hk); (try clear hi); (try clear ho0); obtain ⟨Ao8,co8,eo8⟩:=Kd.V_slice HO133.out; subst eo8; obtain ⟨Ao9,co9,eo9⟩:=Kd.V_slice HO136.out; subst eo9))
  repeat (go_quiet (first|(go_at_call 86; (with_reducible refine (nat_cut.calls k (fun k_=>k_<w.heap.size) _ _ l0 t131 _ ?side1 A3.out).mono ?_); (case side1=>exact Kd.V_mk HC0.out (Kd.F_below (Kd.C_F (Kd.heap_int .u32) HR0.out) (Sq.bl HB))); rintro e w6 ⟨v132,rfl,ho0,hb⟩; have HO133:=Aside0.mk (Kd.V_lower (Kd.V_mono (ok':=fun k_=>True) ho0 (fun k_ hk_=>trivial)) (below_size (Sq.bl HB))); replace HB:=Sq.bs HB hb; (try clear hb); (try clear hb2); (try clear hk); (try clear hi); (try clear ho0))|(go_at_call 86; (with_reducible refine (nat_cut.calls k (fun k_=>k_<w.heap.size) _ _ l1 t134 _ ?side1 A4.out).mono ?_); (case side1=>exact Kd.V_mk HC1.out (Kd.F_below (Kd.C_F (Kd.heap_int .u32) HR1.out) (Sq.bl HB))); rintro e w7 ⟨v135,rfl,ho0,hb⟩; replace HO133:=Aside0.mk (Kd.V_below (Sq.al HO133) hb); have HO136:=Aside0.mk (Kd.V_lower (Kd.V_mono (ok':=fun k_=>True) ho0 (fun k_ hk_=>trivial)) (below_size (Sq.bl HB))); replace HB:=Sq.bs HB hb; (try clear hb); (try clear hb2); (try clear hk); (try clear hi); (try clear ho0); obtain ⟨Ao8,co8,eo8⟩:=Kd.V_slice HO133.out; subst eo8; obtain ⟨Ao9,co9,eo9⟩:=Kd.V_slice HO136.out; subst eo9)); try go_wp2_with (first|(go_at_call 86; (with_reducible refine (nat_cut.calls k (fun k_=>k_<w.heap.size) _ _ l0 t131 _ ?side1 A3.out).mono ?_); (case side1=>exact Kd.V_mk HC0.out (Kd.F_below (Kd.C_F (Kd.heap_int .u32) HR0.out) (Sq.bl HB))); rintro e w6 ⟨v132,rfl,ho0,hb⟩; have HO133:=Aside0.mk (Kd.V_lower (Kd.V_mono (ok':=fun k_=>True) ho0 (fun k_ hk_=>trivial)) (below_size (Sq.bl HB))); replace HB:=Sq.bs HB hb; (try clear hb); (try clear hb2); (try clear hk); (try clear hi); (try clear ho0))|(go_at_call 86; (with_reducible refine (nat_cut.calls k (fun k_=>k_<w.heap.size) _ _ l1 t134 _ ?side1 A4.out).mono ?_); (case side1=>exact Kd.V_mk HC1.out (Kd.F_below (Kd.C_F (Kd.heap_int .u32) HR1.out) (Sq.bl HB))); rintro e w7 ⟨v135,rfl,ho0,hb⟩; replace HO133:=Aside0.mk (Kd.V_below (Sq.al HO133) hb); have HO136:=Aside0.mk (Kd.V_lower (Kd.V_mono (ok':=fun k_=>True) ho0 (fun k_ hk_=>trivial)) (below_size (Sq.bl HB))); replace HB:=Sq.bs HB hb; (try clear hb); (try clear hb2); (try clear hk); (try clear hi); (try clear ho0); obtain ⟨Ao8,co8,eo8⟩:=Kd.V_slice HO133.out; subst eo8; obtain ⟨Ao9,co9,eo9⟩:=Kd.V_slice HO136.out; subst eo9)))
  go_ret
  exact ⟨by first|rfl|(simp [errW_none,errW_some]<;>rfl)|(simp [*,errW_none,errW_some]<;>rfl),Sq.bl HB⟩
 ·rw [if_neg c5] at H
  have c5b0:decide ((t131.length:Int)<(t134.length:Int))=false:=decide_eq_false c5
  have c5b1:decide (t131.length<t134.length)=false:=decide_eq_false (fun h=>c5 (Int.ofNat_lt.mpr h))
  clear c5
  by_cases c10:(t131.length:Int)>(t134.length:Int)
  ·rw [if_pos c10] at H
   have c10b0:decide ((t134.length:Int)<(t131.length:Int))=true:=decide_eq_true c10
   have c10b1:decide (t134.length<t131.length)=true:=decide_eq_true (Int.ofNat_lt.mp c10)
   clear c10
   obtain rfl:=Option.some.inj H
   go_enter Tryz.func63,Tryz.ntmps63
   go_wp2_with (first|(go_at_call 86; (with_reducible refine (nat_cut.calls k (fun k_=>k_<w.heap.size) _ _ l0 t131 _ ?side1 A3.out).mono ?_); (case side1=>exact Kd.V_mk HC0.out (Kd.F_below (Kd.C_F (Kd.heap_int .u32) HR0.out) (Sq.bl HB))); rintro e w11 ⟨v132,rfl,ho0,hb⟩; have HO133:=Aside0.mk (Kd.V_lower (Kd.V_mono (ok':=fun k_=>True) ho0 (fun k_ hk_=>trivial)) (below_size (Sq.bl HB))); replace HB:=Sq.bs HB hb; (try clear hb); (try clear hb2); (try clear hk); (try clear hi); (try clear ho0))|(go_at_call 86; (with_reducible refine (nat_cut.calls k (fun k_=>k_<w.heap.size) _ _ l1 t134 _ ?side1 A4.out).mono ?_); (case side1=>exact Kd.V_mk HC1.out (Kd.F_below (Kd.C_F (Kd.heap_int .u32) HR1.out) (Sq.bl HB))); rintro e w12 ⟨v135,rfl,ho0,hb⟩; replace HO133:=Aside0.mk (Kd.V_below (Sq.al HO133) hb); have HO136:=Aside0.mk (Kd.V_lower (Kd.V_mono (ok':=fun k_=>True) ho0 (fun k_ hk_=>trivial)) (below_size (Sq.bl HB))); replace HB:=Sq.bs HB hb; (try clear hb); (try clear hb2); (try clear hk); (try clear hi); (try clear ho0); obtain ⟨Ao13,co13,eo13⟩:=Kd.V_slice HO133.out; subst eo13; obtain ⟨Ao14,co14,eo14⟩:=Kd.V_slice HO136.out; subst eo14))
   repeat (go_quiet (first|(go_at_call 86; (with_reducible refine (nat_cut.calls k (fun k_=>k_<w.heap.size) _ _ l0 t131 _ ?side1 A3.out).mono ?_); (case side1=>exact Kd.V_mk HC0.out (Kd.F_below (Kd.C_F (Kd.heap_int .u32) HR0.out) (Sq.bl HB))); rintro e w11 ⟨v132,rfl,ho0,hb⟩; have HO133:=Aside0.mk (Kd.V_lower (Kd.V_mono (ok':=fun k_=>True) ho0 (fun k_ hk_=>trivial)) (below_size (Sq.bl HB))); replace HB:=Sq.bs HB hb; (try clear hb); (try clear hb2); (try clear hk); (try clear hi); (try clear ho0))|(go_at_call 86; (with_reducible refine (nat_cut.calls k (fun k_=>k_<w.heap.size) _ _ l1 t134 _ ?side1 A4.out).mono ?_); (case side1=>exact Kd.V_mk HC1.out (Kd.F_below (Kd.C_F (Kd.heap_int .u32) HR1.out) (Sq.bl HB))); rintro e w12 ⟨v135,rfl,ho0,hb⟩; replace HO133:=Aside0.mk (Kd.V_below (Sq.al HO133) hb); have HO136:=Aside0.mk (Kd.V_lower (Kd.V_mono (ok':=fun k_=>True) ho0 (fun k_ hk_=>trivial)) (below_size (Sq.bl HB))); replace HB:=Sq.bs HB hb; (try clear hb); (try clear hb2); (try clear hk); (try clear hi); (try clear ho0); obtain ⟨Ao13,co13,eo13⟩:=Kd.V_slice HO133.out; subst eo13; obtain ⟨Ao14,co14,eo14⟩:=Kd.V_slice HO136.out; subst eo14)); try go_wp2_with (first|(go_at_call 86; (with_reducible refine (nat_cut.calls k (fun k_=>k_<w.heap.size) _ _ l0 t131 _ ?side1 A3.out).mono ?_); (case side1=>exact Kd.V_mk HC0.out (Kd.F_below (Kd.C_F (Kd.heap_int .u32) HR0.out) (Sq.bl HB))); rintro e w11 ⟨v132,rfl,ho0,hb⟩; have HO133:=Aside0.mk (Kd.V_lower (Kd.V_mono (ok':=fun k_=>True) ho0 (fun k_ hk_=>trivial)) (below_size (Sq.bl HB))); replace HB:=Sq.bs HB hb; (try clear hb); (try clear hb2); (try clear hk); (try clear hi); (try clear ho0))|(go_at_call 86; (with_reducible refine (nat_cut.calls k (fun k_=>k_<w.heap.size) _ _ l1 t134 _ ?side1 A4.out).mono ?_); (case side1=>exact Kd.V_mk HC1.out (Kd.F_below (Kd.C_F (Kd.heap_int .u32) HR1.out) (Sq.bl HB))); rintro e w12 ⟨v135,rfl,ho0,hb⟩; replace HO133:=Aside0.mk (Kd.V_below (Sq.al HO133) hb); have HO136:=Aside0.mk (Kd.V_lower (Kd.V_mono (ok':=fun k_=>True) ho0 (fun k_ hk_=>trivial)) (below_size (Sq.bl HB))); replace HB:=Sq.bs HB hb; (try clear hb); (try clear hb2); (try clear hk); (try clear hi); (try clear ho0); obtain ⟨Ao13,co13,eo13⟩:=Kd.V_slice HO133.out; subst eo13; obtain ⟨Ao14,co14,eo14⟩:=Kd.V_slice HO136.out; subst eo14)))
   go_ret
   exact ⟨by first|rfl|(simp [errW_none,errW_some]<;>rfl)|(simp [*,errW_none,errW_some]<;>rfl),Sq.bl HB⟩
  ·rw [if_neg c10] at H
   have c10b0:decide ((t134.length:Int)<(t131.length:Int))=false:=decide_eq_false c10
   have c10b1:decide (t134.length<t131.length)=false:=decide_eq_false (fun h=>c10 (Int.ofNat_lt.mpr h))
   clear c10
   have H':=Aside0.mk H
   clear H
   go_enter Tryz.func63,Tryz.ntmps63
   go_wp2_with (first|(go_at_call 86; (with_reducible refine (nat_cut.calls k (fun k_=>k_<w.heap.size) _ _ l0 t131 _ ?side1 A3.out).mono ?_); (case side1=>exact Kd.V_mk HC0.out (Kd.F_below (Kd.C_F (Kd.heap_int .u32) HR0.out) (Sq.bl HB))); rintro e w15 ⟨v132,rfl,ho0,hb⟩; have HO133:=Aside0.mk (Kd.V_lower (Kd.V_mono (ok':=fun k_=>True) ho0 (fun k_ hk_=>trivial)) (below_size (Sq.bl HB))); replace HB:=Sq.bs HB hb; (try clear hb); (try clear hb2); (try clear hk); (try clear hi); (try clear ho0))|(go_at_call 86; (with_reducible refine (nat_cut.calls k (fun k_=>k_<w.heap.size) _ _ l1 t134 _ ?side1 A4.out).mono ?_); (case side1=>exact Kd.V_mk HC1.out (Kd.F_below (Kd.C_F (Kd.heap_int .u32) HR1.out) (Sq.bl HB))); rintro e w16 ⟨v135,rfl,ho0,hb⟩; replace HO133:=Aside0.mk (Kd.V_below (Sq.al HO133) hb); have HO136:=Aside0.mk (Kd.V_lower (Kd.V_mono (ok':=fun k_=>True) ho0 (fun k_ hk_=>trivial)) (below_size (Sq.bl HB))); replace HB:=Sq.bs HB hb; (try clear hb); (try clear hb2); (try clear hk); (try clear hi); (try clear ho0); obtain ⟨Ao17,co17,eo17⟩:=Kd.V_slice HO133.out; subst eo17; obtain ⟨Ao18,co18,eo18⟩:=Kd.V_slice HO136.out; subst eo18))
   repeat (go_quiet (first|(go_at_call 86; (with_reducible refine (nat_cut.calls k (fun k_=>k_<w.heap.size) _ _ l0 t131 _ ?side1 A3.out).mono ?_); (case side1=>exact Kd.V_mk HC0.out (Kd.F_below (Kd.C_F (Kd.heap_int .u32) HR0.out) (Sq.bl HB))); rintro e w15 ⟨v132,rfl,ho0,hb⟩; have HO133:=Aside0.mk (Kd.V_lower (Kd.V_mono (ok':=fun k_=>True) ho0 (fun k_ hk_=>trivial)) (below_size (Sq.bl HB))); replace HB:=Sq.bs HB hb; (try clear hb); (try clear hb2); (try clear hk); (try clear hi); (try clear ho0))|(go_at_call 86; (with_reducible refine (nat_cut.calls k (fun k_=>k_<w.heap.size) _ _ l1 t134 _ ?side1 A4.out).mono ?_); (case side1=>exact Kd.V_mk HC1.out (Kd.F_below (Kd.C_F (Kd.heap_int .u32) HR1.out) (Sq.bl HB))); rintro e w16 ⟨v135,rfl,ho0,hb⟩; replace HO133:=Aside0.mk (Kd.V_below (Sq.al HO133) hb); have HO136:=Aside0.mk (Kd.V_lower (Kd.V_mono (ok':=fun k_=>True) ho0 (fun k_ hk_=>trivial)) (below_size (Sq.bl HB))); replace HB:=Sq.bs HB hb; (try clear hb); (try clear hb2); (try clear hk); (try clear hi); (try clear ho0); obtain ⟨Ao17,co17,eo17⟩:=Kd.V_slice HO133.out; subst eo17; obtain ⟨Ao18,co18,eo18⟩:=Kd.V_slice HO136.out; subst eo18)); try go_wp2_with (first|(go_at_call 86; (with_reducible refine (nat_cut.calls k (fun k_=>k_<w.heap.size) _ _ l0 t131 _ ?side1 A3.out).mono ?_); (case side1=>exact Kd.V_mk HC0.out (Kd.F_below (Kd.C_F (Kd.heap_int .u32) HR0.out) (Sq.bl HB))); rintro e w15 ⟨v132,rfl,ho0,hb⟩; have HO133:=Aside0.mk (Kd.V_lower (Kd.V_mono (ok':=fun k_=>True) ho0 (fun k_ hk_=>trivial)) (below_size (Sq.bl HB))); replace HB:=Sq.bs HB hb; (try clear hb); (try clear hb2); (try clear hk); (try clear hi); (try clear ho0))|(go_at_call 86; (with_reducible refine (nat_cut.calls k (fun k_=>k_<w.heap.size) _ _ l1 t134 _ ?side1 A4.out).mono ?_); (case side1=>exact Kd.V_mk HC1.out (Kd.F_below (Kd.C_F (Kd.heap_int .u32) HR1.out) (Sq.bl HB))); rintro e w16 ⟨v135,rfl,ho0,hb⟩; replace HO133:=Aside0.mk (Kd.V_below (Sq.al HO133) hb); have HO136:=Aside0.mk (Kd.V_lower (Kd.V_mono (ok':=fun k_=>True) ho0 (fun k_ hk_=>trivial)) (below_size (Sq.bl HB))); replace HB:=Sq.bs HB hb; (try clear hb); (try clear hb2); (try clear hk); (try clear hi); (try clear ho0); obtain ⟨Ao17,co17,eo17⟩:=Kd.V_slice HO133.out; subst eo17; obtain ⟨Ao18,co18,eo18⟩:=Kd.V_slice HO136.out; subst eo18)))
   go_loopg [5] k (fun kq v5 w'=>∃ (x5_1:Int),v5=.int .i64 x5_1∧Aside0 (nat_Cmp.l0 kq t131 t134 x5_1=some r)∧Aside0 (kq≤k)∧Aside0 (Kd.V (Kd.int .u32) 88 w' w.heap.size (fun _=>True) (.slice Ao17 t131.length co17) t131)∧Aside0 (Kd.V (Kd.int .u32) 88 w' w.heap.size (fun _=>True) (.slice Ao18 t134.length co18) t134)∧Aside0 (Below w.heap.size w w'))
   case atStart=>exact ⟨(wrap64 ((t131.length:Int)-1)),(by first|rfl|(simp; done)|(simp [*]; done)),H',⟨Nat.le_refl _⟩,⟨by (with_reducible repeat (first|apply Kd.V_alloc|apply Kd.V_drewN|apply Kd.V_drew)); exact HO133.out⟩,⟨by (with_reducible repeat (first|apply Kd.V_alloc|apply Kd.V_drewN|apply Kd.V_drew)); exact HO136.out⟩,⟨Sq.bl HB⟩⟩
   case round =>
    clear H'
    try clear c1
    try clear p2
    try clear c5
    try clear c5b0
    try clear c5b1
    try clear c6
    try clear p6
    try clear c10
    try clear c10b0
    try clear c10b1
    obtain ⟨x5_1,rfl,HA,HK1,HO_0,HO_1,HB⟩:=hrel
    cases gk with
    | zero=>exact absurd HA.out (by simp [nat_Cmp.l0])
    | succ k1 =>
     have H:=HA.out
     clear HA
     simp only [nat_Cmp.l0] at H
     by_cases c19:x5_1≥0
     ·rw [if_pos c19] at H
      have c19b0:decide (0≤x5_1)=true:=decide_eq_true c19
      clear c19
      replace H:=Sq.ifs H
      obtain ⟨c20,H⟩:=H
      have c20b0:decide (0≤x5_1)=true:=decide_eq_true c20
      clear c20
      replace H:=Sq.ifs H
      obtain ⟨c21,H⟩:=H
      have c21b0:decide (x5_1<(t131.length:Int))=true:=decide_eq_true c21
      clear c21
      replace H:=Sq.ifs H
      obtain ⟨c22,H⟩:=H
      have c22b0:decide (x5_1<(t134.length:Int))=true:=decide_eq_true c22
      clear c22
      by_cases c23:(rd t131 x5_1)<(rd t134 x5_1)
      ·rw [if_pos c23] at H
       have c23b0:decide ((rd t131 x5_1)<(rd t134 x5_1))=true:=decide_eq_true c23
       clear c23
       obtain rfl:=Option.some.inj H
       have p137:0≤(x5_1:Int):=of_decide_eq_true (by first|(with_reducible assumption)|assumption)
       have q137:x5_1<(t131.length:Int):=of_decide_eq_true (by first|(with_reducible assumption)|assumption)
       obtain ⟨ad137,e137,hx137_0⟩:=Kd.at_int (Kd.V_reads' HO_0.out).2.2 x5_1 p137 q137
       cases e137
       replace p137:=eq_true p137
       replace q137:=eq_true q137
       have p138:0≤(x5_1:Int):=of_decide_eq_true (by first|(with_reducible assumption)|assumption)
       have q138:x5_1<(t134.length:Int):=of_decide_eq_true (by first|(with_reducible assumption)|assumption)
       obtain ⟨ad138,e138,hx138_0⟩:=Kd.at_int (Kd.V_reads' HO_1.out).2.2 x5_1 p138 q138
       cases e138
       replace p138:=eq_true p138
       replace q138:=eq_true q138
       go_wp2
       repeat (go_quiet (fail); try go_wp2)
       go_ret
       exact ⟨by first|rfl|(simp [errW_none,errW_some]<;>rfl)|(simp [*,errW_none,errW_some]<;>rfl),Sq.bl HB⟩
      ·rw [if_neg c23] at H
       have c23b0:decide ((rd t131 x5_1)<(rd t134 x5_1))=false:=decide_eq_false c23
       clear c23
       by_cases c24:(rd t131 x5_1)>(rd t134 x5_1)
       ·rw [if_pos c24] at H
        have c24b0:decide ((rd t134 x5_1)<(rd t131 x5_1))=true:=decide_eq_true c24
        clear c24
        obtain rfl:=Option.some.inj H
        have p137:0≤(x5_1:Int):=of_decide_eq_true (by first|(with_reducible assumption)|assumption)
        have q137:x5_1<(t131.length:Int):=of_decide_eq_true (by first|(with_reducible assumption)|assumption)
        obtain ⟨ad137,e137,hx137_0⟩:=Kd.at_int (Kd.V_reads' HO_0.out).2.2 x5_1 p137 q137
        cases e137
        replace p137:=eq_true p137
        replace q137:=eq_true q137
        have p138:0≤(x5_1:Int):=of_decide_eq_true (by first|(with_reducible assumption)|assumption)
        have q138:x5_1<(t134.length:Int):=of_decide_eq_true (by first|(with_reducible assumption)|assumption)
        obtain ⟨ad138,e138,hx138_0⟩:=Kd.at_int (Kd.V_reads' HO_1.out).2.2 x5_1 p138 q138
        cases e138
        replace p138:=eq_true p138
        replace q138:=eq_true q138
        have p139:0≤(x5_1:Int):=of_decide_eq_true (by first|(with_reducible assumption)|assumption)
        have q139:x5_1<(t131.length:Int):=of_decide_eq_true (by first|(with_reducible assumption)|assumption)
        obtain ⟨ad139,e139,hx139_0⟩:=Kd.at_int (Kd.V_reads' HO_0.out).2.2 x5_1 p139 q139
        obtain rfl:ad137=ad139:=(by injection e139)
        replace p139:=eq_true p139
        replace q139:=eq_true q139
        have p140:0≤(x5_1:Int):=of_decide_eq_true (by first|(with_reducible assumption)|assumption)
        have q140:x5_1<(t134.length:Int):=of_decide_eq_true (by first|(with_reducible assumption)|assumption)
        obtain ⟨ad140,e140,hx140_0⟩:=Kd.at_int (Kd.V_reads' HO_1.out).2.2 x5_1 p140 q140
        obtain rfl:ad138=ad140:=(by injection e140)
        replace p140:=eq_true p140
        replace q140:=eq_true q140
        go_wp2
        repeat (go_quiet (fail); try go_wp2)
        go_ret
        exact ⟨by first|rfl|(simp [errW_none,errW_some]<;>rfl)|(simp [*,errW_none,errW_some]<;>rfl),Sq.bl HB⟩
       ·rw [if_neg c24] at H
        have c24b0:decide ((rd t134 x5_1)<(rd t131 x5_1))=false:=decide_eq_false c24
        clear c24
        have H':=Aside0.mk H
        clear H
        have p137:0≤(x5_1:Int):=of_decide_eq_true (by first|(with_reducible assumption)|assumption)
        have q137:x5_1<(t131.length:Int):=of_decide_eq_true (by first|(with_reducible assumption)|assumption)
        obtain ⟨ad137,e137,hx137_0⟩:=Kd.at_int (Kd.V_reads' HO_0.out).2.2 x5_1 p137 q137
        cases e137
        replace p137:=eq_true p137
        replace q137:=eq_true q137
        have p138:0≤(x5_1:Int):=of_decide_eq_true (by first|(with_reducible assumption)|assumption)
        have q138:x5_1<(t134.length:Int):=of_decide_eq_true (by first|(with_reducible assumption)|assumption)
        obtain ⟨ad138,e138,hx138_0⟩:=Kd.at_int (Kd.V_reads' HO_1.out).2.2 x5_1 p138 q138
        cases e138
        replace p138:=eq_true p138
        replace q138:=eq_true q138
        have p139:0≤(x5_1:Int):=of_decide_eq_true (by first|(with_reducible assumption)|assumption)
        have q139:x5_1<(t131.length:Int):=of_decide_eq_true (by first|(with_reducible assumption)|assumption)
        obtain ⟨ad139,e139,hx139_0⟩:=Kd.at_int (Kd.V_reads' HO_0.out).2.2 x5_1 p139 q139
        obtain rfl:ad137=ad139:=(by injection e139)
        replace p139:=eq_true p139
        replace q139:=eq_true q139
        have p140:0≤(x5_1:Int):=of_decide_eq_true (by first|(with_reducible assumption)|assumption)
        have q140:x5_1<(t134.length:Int):=of_decide_eq_true (by first|(with_reducible assumption)|assumption)
        obtain ⟨ad140,e140,hx140_0⟩:=Kd.at_int (Kd.V_reads' HO_1.out).2.2 x5_1 p140 q140
        obtain rfl:ad138=ad140:=(by injection e140)
        replace p140:=eq_true p140
        replace q140:=eq_true q140
        go_wp2
        repeat (go_quiet (fail); try go_wp2)
        go_roundg k1
        case measure=>have:=HK1.out; omega
        case rel=>exact ⟨(wrap64 (x5_1-1)),(by first|rfl|(simp; done)|(simp [*]; done)),H',⟨by have:=HK1.out; omega⟩,⟨by (with_reducible repeat (first|apply Kd.V_alloc|apply Kd.V_drewN|apply Kd.V_drew)); exact HO_0.out⟩,⟨by (with_reducible repeat (first|apply Kd.V_alloc|apply Kd.V_drewN|apply Kd.V_drew)); exact HO_1.out⟩,⟨Sq.bl HB⟩⟩
     ·rw [if_neg c19] at H
      have c19b0:decide (0≤x5_1)=false:=decide_eq_false c19
      clear c19
      obtain rfl:=Option.some.inj H
      go_wp2
      repeat (go_quiet (fail); try go_wp2)
      go_ret
      exact ⟨by first|rfl|(simp [errW_none,errW_some]<;>rfl)|(simp [*,errW_none,errW_some]<;>rfl),Sq.bl HB⟩
end Go.Proofs.YtjfkhbkddenfoaaGreat.N
