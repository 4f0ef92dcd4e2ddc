import Derived.Test.YtjfkhbkddenfoaaGreatQdajcgaonnfNx0
import Derived.Test.YtjfkhbkddenfoaaGreatQphdjdbniokNx1
import Derived.Test.YtjfkhbkddenfoaaGreatQgoapcpfdbnM
set_option linter.unusedVariables false
set_option linter.unusedSimpArgs false
namespace Go.Proofs.YtjfkhbkddenfoaaGreat.N
open Go.RowKit Go.Proofs.YtjfkhbkddenfoaaGreatW.PrintWords Go.Proofs.YtjfkhbkddenfoaaGreatW.PrintLast Go.Proofs.YtjfkhbkddenfoaaGreatW.PrintMore
attribute [local go_sem] max2_int min2_int max_two min_two max_three min_three max_four min_four   -- for this text's walks alone
mutual
def nat_guess.l0:Nat→List Int→List Int→Int→Int→Int→Int→Option (Int)
 |0,_,_,_,_,_,_=>none
 |k+1,x0,x1,x2,x7,x9,x10=>if (x9/4294967296)=0 then (if 0≤(wrap64 (x7-2)) then (if (wrap64 (x7-2))<(x1.length:Int) then (if 0≤(wrap64 ((wrap64 (x2+x7))-2)) then (if (wrap64 ((wrap64 (x2+x7))-2))<(x0.length:Int) then (nat_guess.j1 k x0 x1 x2 x7 x9 x10 (decide ((IntKind.u64.wrap (x9*(IntKind.u64.wrap (rd x1 (wrap64 (x7-2))))))>(Go.bits .or .u64 (IntKind.u64.wrap (x10*4294967296)) (IntKind.u64.wrap (rd x0 (wrap64 ((wrap64 (x2+x7))-2)))))))) else (none)) else (none)) else (none)) else (none)) else (nat_guess.j1 k x0 x1 x2 x7 x9 x10 true)
def nat_guess.j1:Nat→List Int→List Int→Int→Int→Int→Int→Bool→Option (Int)
 |0,_,_,_,_,_,_,_=>none
 |k+1,x0,x1,x2,x7,x9,x10,x70=>if x70=true then (if 0≤(wrap64 (x7-1)) then (if (wrap64 (x7-1))<(x1.length:Int) then (if ((IntKind.u64.wrap (x10+(IntKind.u64.wrap (rd x1 (wrap64 (x7-1))))))/4294967296)=0 then (nat_guess.l0 k x0 x1 x2 x7 (IntKind.u64.wrap (x9-1)) (IntKind.u64.wrap (x10+(IntKind.u64.wrap (rd x1 (wrap64 (x7-1))))))) else (some (IntKind.u64.wrap (x9-1)))) else (none)) else (none)) else (some x9)
end
def nat_guess.f (k:Nat) (l0:List Int) (l1:List Int) (a2:Int):Option (Int):=if 0≤(wrap64 (a2+(l1.length:Int))) then (if (wrap64 (a2+(l1.length:Int)))<(l0.length:Int) then (if 0≤(wrap64 ((wrap64 (a2+(l1.length:Int)))-1)) then (if (wrap64 ((wrap64 (a2+(l1.length:Int)))-1))<(l0.length:Int) then (if 0≤(wrap64 ((l1.length:Int)-1)) then (if (wrap64 ((l1.length:Int)-1))<(l1.length:Int) then (if (IntKind.u64.wrap (rd l1 (wrap64 ((l1.length:Int)-1))))=0 then (none) else (nat_guess.l0 k l0 l1 a2 (l1.length:Int) (IntKind.u64.wrap (Int.tdiv (Go.bits .or .u64 (IntKind.u64.wrap ((IntKind.u64.wrap (rd l0 (wrap64 (a2+(l1.length:Int)))))*4294967296)) (IntKind.u64.wrap (rd l0 (wrap64 ((wrap64 (a2+(l1.length:Int)))-1))))) (IntKind.u64.wrap (rd l1 (wrap64 ((l1.length:Int)-1)))))) (Int.tmod (Go.bits .or .u64 (IntKind.u64.wrap ((IntKind.u64.wrap (rd l0 (wrap64 (a2+(l1.length:Int)))))*4294967296)) (IntKind.u64.wrap (rd l0 (wrap64 ((wrap64 (a2+(l1.length:Int)))-1))))) (IntKind.u64.wrap (rd l1 (wrap64 ((l1.length:Int)-1))))))) else (none)) else (none)) else (none)) else (none)) else (none)) else (none)
set_option maxHeartbeats 8000000 in
set_option maxRecDepth 100000 in
theorem nat_guess.calls (k:Nat) (A0:Option Addr) (c0:Nat) (l0:List Int) (A1:Option Addr) (c1:Nat) (l1:List Int) (a2:Int) (r:Int) (w:World) (hr0:Kd.C (Kd.int .u32) w A0 l0.length l0) (hc0:l0.length≤c0) (hr1:Kd.C (Kd.int .u32) w A1 l1.length l1) (hc1:l1.length≤c1) (h:nat_guess.f k l0 l1 a2=some r) :
 Calls Tryz.prog 115 #[.slice A0 l0.length c0,.slice A1 l1.length c1,.int .i64 a2] w fun e w'=>e=.returned (.int .u64 r)∧Drawn0 w w':=by
 have HR0:=Aside0.mk hr0;have HC0:=Aside0.mk hc0;clear hr0 hc0;have HR1:=Aside0.mk hr1;have HC1:=Aside0.mk hc1;clear hr1 hc1;have H:(if 0≤(wrap64 (a2+(l1.length:Int))) then (if (wrap64 (a2+(l1.length:Int)))<(l0.length:Int) then (if 0≤(wrap64 ((wrap64 (a2+(l1.length:Int)))-1)) then (if (wrap64 ((wrap64 (a2+(l1.length:Int)))-1))<(l0.length:Int) then (if 0≤(wrap64 ((l1.length:Int)-1)) then (if (wrap64 ((l1.length:Int)-1))<(l1.length:Int) then (if (IntKind.u64.wrap (rd l1 (wrap64 ((l1.length:Int)-1))))=0 then (none) else (nat_guess.l0 k l0 l1 a2 (l1.length:Int) (IntKind.u64.wrap (Int.tdiv (Go.bits .or .u64 (IntKind.u64.wrap ((IntKind.u64.wrap (rd l0 (wrap64 (a2+(l1.length:Int)))))*4294967296)) (IntKind.u64.wrap (rd l0 (wrap64 ((wrap64 (a2+(l1.length:Int)))-1))))) (IntKind.u64.wrap (rd l1 (wrap64 ((l1.length:Int)-1)))))) (Int.tmod (Go.bits .or .u64 (IntKind.u64.wrap ((IntKind.u64.wrap (rd l0 (wrap64 (a2+(l1.length:Int)))))*4294967296)) (IntKind.u64.wrap (rd l0 (wrap64 ((wrap64 (a2+(l1.length:Int)))-1))))) (IntKind.u64.wrap (rd l1 (wrap64 ((l1.length:Int)-1))))))) else (none)) else (none)) else (none)) else (none)) else (none)) else (none))=some r:=h;clear h;obtain⟨ji4,hji4⟩:∃j_:Int,(wrap64 (a2+(l1.length:Int)))=j_:=⟨_,rfl⟩
 (first|rw[hji4] at H|simp only[hji4] at H)
 have hji4w:(IntKind.i64.wrap (a2+(l1.length:Int)))=ji4:=(i64_w _).trans hji4;replace H:=Sq.ifs H;obtain⟨c5,H⟩:=H;have c5b0:decide (0≤(ji4))=true:=decide_eq_true c5;clear c5;replace H:=Sq.ifs H;obtain⟨c6,H⟩:=H;have c6b0:decide ((ji4)<(l0.length:Int))=true:=decide_eq_true c6;clear c6;obtain⟨ji7,hji7⟩:∃j_:Int,(wrap64 ((ji4)-1))=j_:=⟨_,rfl⟩
 (first|rw[hji7] at H|simp only[hji7] at H)
 have hji7w:(IntKind.i64.wrap ((ji4)-1))=ji7:=(i64_w _).trans hji7;replace H:=Sq.ifs H;obtain⟨c8,H⟩:=H;have c8b0:decide (0≤(ji7))=true:=decide_eq_true c8;clear c8;replace H:=Sq.ifs H;obtain⟨c9,H⟩:=H;have c9b0:decide ((ji7)<(l0.length:Int))=true:=decide_eq_true c9;clear c9;obtain⟨ji10,hji10⟩:∃j_:Int,(wrap64 ((l1.length:Int)-1))=j_:=⟨_,rfl⟩
 (first|rw[hji10] at H|simp only[hji10] at H)
 have hji10w:(IntKind.i64.wrap ((l1.length:Int)-1))=ji10:=(i64_w _).trans hji10;replace H:=Sq.ifs H;obtain⟨c11,H⟩:=H;have c11b0:decide (0≤(ji10))=true:=decide_eq_true c11;clear c11;replace H:=Sq.ifs H;obtain⟨c12,H⟩:=H;have c12b0:decide ((ji10)<(l1.length:Int))=true:=decide_eq_true c12;clear c12;replace H:=Sq.ifn H;obtain⟨c13,H⟩:=H;have c13b0:((IntKind.u64.wrap (rd l1 (ji10)))==0)=false:=beq_eq_false_iff_ne.mpr c13;have c13b1:((IntKind.u64.wrap (rd l1 (ji10))) != 0)=true:=bne_iff_ne.mpr c13;have H':=Aside0.mk H;clear H;have p169:0≤((ji4):Int):=of_decide_eq_true (by first|(with_reducible assumption)|assumption);have q169:(ji4)<(l0.length:Int):=of_decide_eq_true (by first|(with_reducible assumption)|assumption);obtain⟨ad169,e169,hx169_0⟩:=Kd.at_int HR0.out (ji4) p169 q169;cases e169;replace p169:=eq_true p169;replace q169:=eq_true q169;have p170:0≤((ji7):Int):=of_decide_eq_true (by first|(with_reducible assumption)|assumption);have q170:(ji7)<(l0.length:Int):=of_decide_eq_true (by first|(with_reducible assumption)|assumption);obtain⟨ad170,e170,hx170_0⟩:=Kd.at_int HR0.out (ji7) p170 q170;obtain rfl:ad169=ad170:=(by injection e170);replace p170:=eq_true p170;replace q170:=eq_true q170;have p171:0≤((ji10):Int):=of_decide_eq_true (by first|(with_reducible assumption)|assumption);have q171:(ji10)<(l1.length:Int):=of_decide_eq_true (by first|(with_reducible assumption)|assumption);obtain⟨ad171,e171,hx171_0⟩:=Kd.at_int HR1.out (ji10) p171 q171;cases e171;replace p171:=eq_true p171;replace q171:=eq_true q171;have p172:0≤((ji10):Int):=of_decide_eq_true (by first|(with_reducible assumption)|assumption);have q172:(ji10)<(l1.length:Int):=of_decide_eq_true (by first|(with_reducible assumption)|assumption);obtain⟨ad172,e172,hx172_0⟩:=Kd.at_int HR1.out (ji10) p172 q172;obtain rfl:ad171=ad172:=(by injection e172);replace p172:=eq_true p172;replace q172:=eq_true q172;go_enter Tryz.func115,Tryz.ntmps115
 go_wp2
 repeat (go_quiet (fail);try go_wp2)
 go_loopg [9,10] k (fun kq v9 v10 w'=>∃(x9_1:Int) (x10_1:Int),v9=.int .u64 x9_1∧v10=.int .u64 x10_1∧Aside0 (nat_guess.l0 kq l0 l1 a2 (l1.length:Int) x9_1 x10_1=some r)∧Aside0 (kq≤k)∧Drawn0 w w')
 case atStart=>exact⟨(IntKind.u64.wrap (Int.tdiv (Go.bits .or .u64 (IntKind.u64.wrap ((IntKind.u64.wrap (rd l0 (ji4)))*4294967296)) (IntKind.u64.wrap (rd l0 (ji7)))) (IntKind.u64.wrap (rd l1 (ji10))))),(Int.tmod (Go.bits .or .u64 (IntKind.u64.wrap ((IntKind.u64.wrap (rd l0 (ji4)))*4294967296)) (IntKind.u64.wrap (rd l0 (ji7)))) (IntKind.u64.wrap (rd l1 (ji10)))),(by first|rfl|(simp;done)|(simp only[←hji4,←hji7,←hji10]<;>(first|rfl|simp))|(simp[*];done)),(by first|rfl|(simp;done)|(simp only[←hji4,←hji7,←hji10]<;>(first|rfl|simp))|(simp[*];done)),H',⟨Nat.le_refl _⟩,by repeat (first|exact Drawn0.refl _|apply Drawn0.step)⟩
 case round =>
  clear H'
  try clear c1
  try clear p1
  try clear q1
  try clear hx1
  try clear p2
  try clear c5
  try clear c5b0
  try clear c6
  try clear c6b0
  try clear p6
  try clear c8
  try clear c8b0
  try clear c9
  try clear c9b0
  try clear c11
  try clear c11b0
  try clear c12
  try clear c12b0
  try clear c13
  try clear c13b0
  try clear c13b1
  try clear hx169_0
  try clear hx170_0
  try clear hx171_0
  try clear hx172_0
  try clear p169
  try clear p170
  try clear p171
  try clear p172
  try clear q169
  try clear q170
  try clear q171
  try clear q172
  obtain⟨x9_1,x10_1,rfl,rfl,HA,HK1,⟨m1,rfl⟩⟩:=hrel;cases gk with
  |zero=>exact absurd HA.out (by simp[nat_guess.l0])
  |succ k1 =>
   have H:=HA.out;clear HA;simp only[nat_guess.l0] at H;have HC14:=Aside0.mk H;clear H
   go_upto_region 4 with (fail)
   repeat (go_quiet (fail);go_upto_region 4 with (fail))
   go_cut [70] (fun v70 wc=>∃(kq:Nat) (x70_13:Bool),v70=.bool x70_13∧Aside0 (nat_guess.j1 kq l0 l1 a2 (l1.length:Int) x9_1 x10_1 x70_13=some r)∧Aside0 (kq≤k1)∧Drawn0 w wc)
   case first =>
    have H:=HC14.out;clear HC14;by_cases c15:(x9_1/4294967296)=0
    ·rw[if_pos c15] at H
     have c15b0:((x9_1/4294967296)==0)=true:=beq_iff_eq.mpr c15;have c15b1:((x9_1/4294967296) != 0)=false:=bne_eq_false_iff_eq.mpr c15;clear c15
     (first|rw[c15b0]|(simp only[i64_w,i32_w];rw[c15b0])|skip)
     obtain⟨ji16,hji16⟩:∃j_:Int,(wrap64 ((l1.length:Int)-2))=j_:=⟨_,rfl⟩
     (first|rw[hji16] at H|simp only[hji16] at H)
     have hji16w:(IntKind.i64.wrap ((l1.length:Int)-2))=ji16:=(i64_w _).trans hji16;replace H:=Sq.ifs H;obtain⟨c17,H⟩:=H;have c17b0:decide (0≤(ji16))=true:=decide_eq_true c17;clear c17;replace H:=Sq.ifs H;obtain⟨c18,H⟩:=H;have c18b0:decide ((ji16)<(l1.length:Int))=true:=decide_eq_true c18;clear c18;obtain⟨ji19,hji19⟩:∃j_:Int,(wrap64 ((wrap64 (a2+(l1.length:Int)))-2))=j_:=⟨_,rfl⟩
     (first|rw[hji19] at H|simp only[hji19] at H)
     have hji19w:(IntKind.i64.wrap ((wrap64 (a2+(l1.length:Int)))-2))=ji19:=(i64_w _).trans hji19
     try rw[hji4] at hji19 hji19w
     replace H:=Sq.ifs H;obtain⟨c20,H⟩:=H;have c20b0:decide (0≤(ji19))=true:=decide_eq_true c20;clear c20;replace H:=Sq.ifs H;obtain⟨c21,H⟩:=H;have c21b0:decide ((ji19)<(l0.length:Int))=true:=decide_eq_true c21;clear c21;have H':=Aside0.mk H;clear H;have p173:0≤((ji16):Int):=of_decide_eq_true (by first|(with_reducible assumption)|assumption);have q173:(ji16)<(l1.length:Int):=of_decide_eq_true (by first|(with_reducible assumption)|assumption);obtain⟨ad173,e173,hx173_0⟩:=Kd.at_int HR1.out (ji16) p173 q173;obtain rfl:ad171=ad173:=(by injection e173);replace p173:=eq_true p173;replace q173:=eq_true q173;have p174:0≤((ji19):Int):=of_decide_eq_true (by first|(with_reducible assumption)|assumption);have q174:(ji19)<(l0.length:Int):=of_decide_eq_true (by first|(with_reducible assumption)|assumption);obtain⟨ad174,e174,hx174_0⟩:=Kd.at_int HR0.out (ji19) p174 q174;obtain rfl:ad169=ad174:=(by injection e174);replace p174:=eq_true p174;replace q174:=eq_true q174;go_wp2
     repeat (go_quiet (fail);try go_wp2)
     go_meet
     case rel=>exact⟨_,(decide ((IntKind.u64.wrap (x9_1*(IntKind.u64.wrap (rd l1 (ji16)))))>(Go.bits .or .u64 (IntKind.u64.wrap (x10_1*4294967296)) (IntKind.u64.wrap (rd l0 (ji19)))))),(by first|rfl|(simp;done)|(simp only[←hji16,←hji19]<;>(first|rfl|simp))|(simp[*];done)),H',⟨by have:=HK1.out;first|omega|exact Nat.le_refl _⟩,by repeat (first|exact Drawn0.refl _|apply Drawn0.step)⟩
    ·rw[if_neg c15] at H
     have c15b0:((x9_1/4294967296)==0)=false:=beq_eq_false_iff_ne.mpr c15;have c15b1:((x9_1/4294967296) != 0)=true:=bne_iff_ne.mpr c15
     (first|rw[c15b0]|(simp only[i64_w,i32_w];rw[c15b0])|skip)
     have H':=Aside0.mk H;clear H;go_wp2
     repeat (go_quiet (fail);try go_wp2)
     go_meet
     case rel=>exact⟨_,(true),(by first|rfl|(simp;done)|(simp[*];done)),H',⟨by have:=HK1.out;first|omega|exact Nat.le_refl _⟩,by repeat (first|exact Drawn0.refl _|apply Drawn0.step)⟩
   case rest =>
    clear HC14
    try clear c1
    try clear p1
    try clear q1
    try clear hx1
    try clear c2
    try clear p2
    try clear c5
    try clear c5b0
    try clear c6
    try clear c6b0
    try clear p6
    try clear c8
    try clear c8b0
    try clear c9
    try clear c9b0
    try clear c11
    try clear c11b0
    try clear c12
    try clear c12b0
    try clear c13
    try clear c13b0
    try clear c13b1
    try clear c15
    try clear c15b0
    try clear c15b1
    try clear p16
    try clear q16
    try clear hx16
    try clear c17
    try clear c17b0
    try clear p17
    try clear q17
    try clear hx17
    try clear c18
    try clear c18b0
    try clear c20
    try clear c20b0
    try clear c21
    try clear c21b0
    try clear hx169_0
    try clear hx170_0
    try clear hx171_0
    try clear hx172_0
    try clear hx173_0
    try clear hx174_0
    try clear p1
    try clear p169
    try clear p170
    try clear p171
    try clear p172
    try clear p173
    try clear p174
    try clear p2
    try clear p6
    try clear q1
    try clear q169
    try clear q170
    try clear q171
    try clear q172
    try clear q173
    try clear q174
    obtain⟨kq,x70_13,rfl,HA,HJ13,⟨mc13,rfl⟩⟩:=hcut;cases kq with
    |zero=>exact absurd HA.out (by simp[nat_guess.j1])
    |succ kj13 =>
     have H:=HA.out;clear HA;simp only[nat_guess.j1] at H;by_cases c22:x70_13=true
     ·subst c22
      have H1:(if 0≤(wrap64 ((l1.length:Int)-1)) then (if (wrap64 ((l1.length:Int)-1))<(l1.length:Int) then (if ((IntKind.u64.wrap (x10_1+(IntKind.u64.wrap (rd l1 (wrap64 ((l1.length:Int)-1))))))/4294967296)=0 then (nat_guess.l0 kj13 l0 l1 a2 (l1.length:Int) (IntKind.u64.wrap (x9_1-1)) (IntKind.u64.wrap (x10_1+(IntKind.u64.wrap (rd l1 (wrap64 ((l1.length:Int)-1))))))) else (some (IntKind.u64.wrap (x9_1-1)))) else (none)) else (none))=some r:=by rw[if_pos rfl] at H;exact H
      clear H;have H:=H1;clear H1;obtain⟨ji23,hji23⟩:∃j_:Int,(wrap64 ((l1.length:Int)-1))=j_:=⟨_,rfl⟩
      (first|rw[hji23] at H|simp only[hji23] at H)
      have hji23w:(IntKind.i64.wrap ((l1.length:Int)-1))=ji23:=(i64_w _).trans hji23
      try (obtain rfl:ji23=ji10:=hji23.symm.trans hji10)
      replace H:=Sq.ifs H;obtain⟨c24,H⟩:=H;have c24b0:decide (0≤(ji23))=true:=decide_eq_true c24;clear c24;replace H:=Sq.ifs H;obtain⟨c25,H⟩:=H;have c25b0:decide ((ji23)<(l1.length:Int))=true:=decide_eq_true c25;clear c25;by_cases c26:((IntKind.u64.wrap (x10_1+(IntKind.u64.wrap (rd l1 (ji23)))))/4294967296)=0
      ·rw[if_pos c26] at H
       have c26b0:(((IntKind.u64.wrap (x10_1+(IntKind.u64.wrap (rd l1 (ji23)))))/4294967296)==0)=true:=beq_iff_eq.mpr c26;have c26b1:(((IntKind.u64.wrap (x10_1+(IntKind.u64.wrap (rd l1 (ji23)))))/4294967296) != 0)=false:=bne_eq_false_iff_eq.mpr c26;clear c26;have H':=Aside0.mk H;clear H;have p175:0≤((ji23):Int):=of_decide_eq_true (by first|(with_reducible assumption)|assumption);have q175:(ji23)<(l1.length:Int):=of_decide_eq_true (by first|(with_reducible assumption)|assumption);obtain⟨ad175,e175,hx175_0⟩:=Kd.at_int HR1.out (ji23) p175 q175;obtain rfl:ad171=ad175:=(by injection e175);replace p175:=eq_true p175;replace q175:=eq_true q175;go_wp2
       repeat (go_quiet (fail);try go_wp2)
       go_roundg kj13
       case measure=>have:=HK1.out;have:=HJ13.out;omega
       case rel=>exact⟨(IntKind.u64.wrap (x9_1-1)),(IntKind.u64.wrap (x10_1+(IntKind.u64.wrap (rd l1 (ji23))))),(by first|rfl|(simp;done)|(simp[*];done)),(by first|rfl|(simp;done)|(simp only[←hji23]<;>(first|rfl|simp))|(simp[*];done)),H',⟨by have:=HK1.out;have:=HJ13.out;omega⟩,by repeat (first|exact Drawn0.refl _|apply Drawn0.step)⟩
      ·rw[if_neg c26] at H
       have c26b0:(((IntKind.u64.wrap (x10_1+(IntKind.u64.wrap (rd l1 (ji23)))))/4294967296)==0)=false:=beq_eq_false_iff_ne.mpr c26;have c26b1:(((IntKind.u64.wrap (x10_1+(IntKind.u64.wrap (rd l1 (ji23)))))/4294967296) != 0)=true:=bne_iff_ne.mpr c26;obtain rfl:=Option.some.inj H;have p175:0≤((ji23):Int):=of_decide_eq_true (by first|(with_reducible assumption)|assumption);have q175:(ji23)<(l1.length:Int):=of_decide_eq_true (by first|(with_reducible assumption)|assumption);obtain⟨ad175,e175,hx175_0⟩:=Kd.at_int HR1.out (ji23) p175 q175;obtain rfl:ad171=ad175:=(by injection e175);replace p175:=eq_true p175;replace q175:=eq_true q175;go_wp2
       repeat (go_quiet (fail);try go_wp2)
       go_ret
       exact⟨by first|rfl|(simp;done)|(simp only[←hji4,←hji7,←hji10,←hji23]<;>(first|rfl|simp))|(simp[*];done),by repeat (first|exact Drawn0.refl _|apply Drawn0.step)⟩
     ·replace c22:=Bool.eq_false_iff.mpr c22
      subst c22;have H1:(some x9_1)=some r:=by rw[if_neg (show ¬(false=true) by decide)] at H;exact H
      clear H;have H:=H1;clear H1;obtain rfl:=Option.some.inj H;go_wp2
      repeat (go_quiet (fail);try go_wp2)
      go_ret
      exact⟨by first|rfl|(simp;done)|(simp only[←hji4,←hji7,←hji10]<;>(first|rfl|simp))|(simp[*];done),by repeat (first|exact Drawn0.refl _|apply Drawn0.step)⟩
def nat_right.l0:Nat→List Int→Int→List Int→List Int→Int→Int→Option (List Int)
 |0,_,_,_,_,_,_=>none
 |k+1,x0,x1,x5,x12,x13,x14=>if x14<x13 then (if 0≤x14 then (if x14<(x12.length:Int) then (if (wrap64 (x14+1))<(x0.length:Int) then (if 0≤(wrap64 (x14+1)) then (if 0≤x1 then (if x14<(x5.length:Int) then (nat_right.l0 k x0 x1 (x5.set (x14:Int).toNat ((shr .u64 (Go.bits .or .u64 (IntKind.u64.wrap (rd x12 x14)) (IntKind.u64.wrap ((IntKind.u64.wrap (rd x0 (wrap64 (x14+1))))*4294967296))) x1)%4294967296)) x12 x13 (wrap64 (x14+1))) else (none)) else (none)) else (none)) else (if 0≤x1 then (if x14<(x5.length:Int) then (nat_right.l0 k x0 x1 (x5.set (x14:Int).toNat ((shr .u64 (IntKind.u64.wrap (rd x12 x14)) x1)%4294967296)) x12 x13 (wrap64 (x14+1))) else (none)) else (none))) else (none)) else (none)) else ((nat_cut.f k x5).bind fun t183=>(some t183))
def nat_right.f (k:Nat) (l0:List Int) (a1:Int):Option (List Int):=if 0≤(l0.length:Int) then (if ((l0.length:Int):Int).toNat≤70368744177664 then (nat_right.l0 k l0 a1 (List.replicate ((l0.length:Int):Int).toNat 0) l0 (l0.length:Int) 0) else (none)) else (none)
set_option maxHeartbeats 8000000 in
set_option maxRecDepth 100000 in
theorem nat_right.calls (k:Nat) (A0:Option Addr) (c0:Nat) (l0:List Int) (a1:Int) (r:List Int) (w:World) (hr0:Kd.C (Kd.int .u32) w A0 l0.length l0) (hc0:l0.length≤c0) (h:nat_right.f k l0 a1=some r) :
 Calls Tryz.prog 116 #[.slice A0 l0.length c0,.int .i64 a1] w fun e w'=>∃v0_:Value,e=.returned (v0_)∧Kd.V (Kd.int .u32) 88 w' w.heap.size (fun k_=>(w.heap.size≤k_)) v0_ r∧Below w.heap.size w w':=by
 have HR0:=Aside0.mk hr0;have HC0:=Aside0.mk hc0;clear hr0 hc0;have HB:=Aside0.mk (Below.refl w.heap.size w);have H:(if 0≤(l0.length:Int) then (if ((l0.length:Int):Int).toNat≤70368744177664 then (nat_right.l0 k l0 a1 (List.replicate ((l0.length:Int):Int).toNat 0) l0 (l0.length:Int) 0) else (none)) else (none))=some r:=h;clear h;replace H:=Sq.ifs H;obtain⟨c3,H⟩:=H;have c3b0:=eq_true c3;have c3b1:decide (0≤(l0.length:Int))=true:=decide_eq_true c3;clear c3;replace H:=Sq.ifs H;obtain⟨c4,H⟩:=H;have c4b0:=eq_true c4;have c4b1:decide (((l0.length:Int):Int).toNat≤70368744177664)=true:=decide_eq_true c4;clear c4;obtain⟨y176,hy176⟩:∃y_:List Int,y_=(List.replicate ((l0.length:Int):Int).toNat 0):=⟨_,rfl⟩
 (first|(replace H:=Sq.ny hy176 H;(try dsimp -simprocs only at H))|rw[←hy176] at H|skip)
 have Ny176:=Aside0.mk hy176;clear hy176;have H':=Aside0.mk H;clear H;go_enter Tryz.func116,Tryz.ntmps116
 go_wp2_with (first|((with_reducible refine gate_dst (N:=11) rfl ?_);refine Kd.R_make (Kd.int .u32) _ 88 rfl (N:=11) rfl 22 _ _ rfl (l0.length:Int) rfl rfl Tryz.underlying22 (.int .u32 0) 4 info88 rfl (by decide) (by omega) 0 (ok:=fun _=>True) (okp:=fun _=>True) rfl (fun _ hk=>hk) trivial (of_decide_eq_true (by first|(with_reducible assumption)|assumption)) (Nat.le_trans (Nat.mul_le_mul_right _ (of_decide_eq_true (by first|(with_reducible assumption)|assumption):(l0.length:Int).toNat≤70368744177664)) (by omega)) (Below.refl _ _) (Nat.le_refl _) ?_;intro v177 w5 ho6 hb hg_ hnew_;clear hg_ hnew_;(first|rw[←Ny176.out] at ho6|(simp only[Int.reduceToNat] at ho6;rw[←Ny176.out] at ho6));have HO178:=Aside0.mk (Kd.R_lower (Kd.R_newM (M:=fun k_=>(w.heap.size≤k_)) ho6 (below_size (Sq.bl HB)) (fun k_ h_=>h_)) (below_size (Sq.bl HB)));replace HB:=Sq.bs HB hb;clear hb ho6))
 go_loopg [14] k (fun kq v14 w'=>∃(x5_1:List Int) (x14_1:Int),v14=.int .i64 x14_1∧Aside0 (nat_right.l0 kq l0 a1 x5_1 l0 (l0.length:Int) x14_1=some r)∧Aside0 (kq≤k)∧Aside0 (Kd.R (Kd.int .u32) 88 w' w.heap.size (fun k_=>(w.heap.size≤k_)) v177 x5_1)∧Aside0 (Below w.heap.size w w'))
 case atStart=>exact⟨(y176),(0),(by first|rfl|(simp;done)|(simp[*];done)),H',⟨Nat.le_refl _⟩,⟨by (with_reducible repeat (first|apply Kd.R_alloc|apply Kd.R_drewN|apply Kd.R_drew));exact Kd.R_mono HO178.out (fun _ hk=>hk.1)⟩,⟨Sq.bl HB⟩⟩
 case round =>
  clear H'
  try clear c1
  try clear p2
  try clear c3
  try clear c3b0
  try clear c3b1
  try clear c4
  try clear c4b0
  try clear c4b1
  obtain⟨x5_1,x14_1,rfl,HA,HK1,HO_5,HB⟩:=hrel;cases gk with
  |zero=>exact absurd HA.out (by simp[nat_right.l0])
  |succ k1 =>
   have H:=HA.out;clear HA;simp only[nat_right.l0] at H;by_cases c7:x14_1<(l0.length:Int)
   ·rw[if_pos c7] at H
    have c7b0:decide (x14_1<(l0.length:Int))=true:=decide_eq_true c7;clear c7;replace H:=Sq.ifs H;obtain⟨c8,H⟩:=H;have c8b0:decide (0≤x14_1)=true:=decide_eq_true c8;clear c8;replace H:=Sq.ifs H;obtain⟨c9,H⟩:=H;have c9b0:decide (x14_1<(l0.length:Int))=true:=decide_eq_true c9;clear c9;by_cases c10:(wrap64 (x14_1+1))<(l0.length:Int)
    ·rw[if_pos c10] at H
     have c10b0:decide ((wrap64 (x14_1+1))<(l0.length:Int))=true:=decide_eq_true c10;clear c10;obtain⟨ji11,hji11⟩:∃j_:Int,(wrap64 (x14_1+1))=j_:=⟨_,rfl⟩
     (first|rw[hji11] at H|simp only[hji11] at H)
     (try rw[hji11] at c10b0)
     have hji11w:(IntKind.i64.wrap (x14_1+1))=ji11:=(i64_w _).trans hji11;replace H:=Sq.ifs H;obtain⟨c12,H⟩:=H;have c12b0:decide (0≤(ji11))=true:=decide_eq_true c12;clear c12;replace H:=Sq.ifs H;obtain⟨c13,H⟩:=H;have c13b0:=eq_true c13;have c13b1:decide (0≤a1)=true:=decide_eq_true c13;clear c13;obtain⟨ji14,hji14⟩:∃j_:Int,(shr .u64 (Go.bits .or .u64 (IntKind.u64.wrap (rd l0 x14_1)) (IntKind.u64.wrap ((IntKind.u64.wrap (rd l0 (ji11)))*4294967296))) a1)=j_:=⟨_,rfl⟩
     (first|rw[hji14] at H|simp only[hji14] at H)
     have hji14_:((Go.bits .or .u64 (IntKind.u64.wrap (rd l0 x14_1)) (IntKind.u64.wrap ((IntKind.u64.wrap (rd l0 (ji11)))*4294967296)))/2 ^ min a1.toNat 64)=ji14:=hji14;have hji14z:a1≤64→((Go.bits .or .u64 (IntKind.u64.wrap (rd l0 x14_1)) (IntKind.u64.wrap ((IntKind.u64.wrap (rd l0 (ji11)))*4294967296)))/2 ^ a1.toNat)=ji14:=shr_small hji14;replace H:=Sq.ifs H;obtain⟨c15,H⟩:=H;have c15b0:decide (x14_1<(x5_1.length:Int))=true:=decide_eq_true c15;clear c15;obtain⟨y181,hy181⟩:∃y_:List Int,y_=(x5_1.set (x14_1:Int).toNat ((ji14)%4294967296)):=⟨_,rfl⟩
     (first|(replace H:=Sq.ny hy181 H;(try dsimp -simprocs only at H))|rw[←hy181] at H|skip)
     have Ny181:=Aside0.mk hy181;clear hy181;have H':=Aside0.mk H;clear H;have p179:0≤(x14_1:Int):=of_decide_eq_true (by first|(with_reducible assumption)|assumption);have q179:x14_1<(l0.length:Int):=of_decide_eq_true (by first|(with_reducible assumption)|assumption);obtain⟨ad179,e179,hx179_0⟩:=Kd.at_int HR0.out x14_1 p179 q179;cases e179;replace hx179_0:=(HB.out.cell (World.block_lt_of_cell? w _ hx179_0)).trans hx179_0;replace p179:=eq_true p179;replace q179:=eq_true q179;have p180:0≤((ji11):Int):=of_decide_eq_true (by first|(with_reducible assumption)|assumption);have q180:(ji11)<(l0.length:Int):=of_decide_eq_true (by first|(with_reducible assumption)|assumption);obtain⟨ad180,e180,hx180_0⟩:=Kd.at_int HR0.out (ji11) p180 q180;obtain rfl:ad179=ad180:=(by injection e180);replace hx180_0:=(HB.out.cell (World.block_lt_of_cell? w _ hx180_0)).trans hx180_0;replace p180:=eq_true p180;replace q180:=eq_true q180;have p16:0≤(x14_1:Int):=of_decide_eq_true (by first|(with_reducible assumption)|assumption);have q16:(x14_1:Int)<((x5_1.length:Int):Int):=of_decide_eq_true (by first|(with_reducible assumption)|assumption);obtain⟨go16,co16,eo16,gb16,gl16,cl16,HG16⟩:=Kd.R_form HO_5.out (by omega)
     (first|cases eo16|(injection eo16 with ea_ en_ ec_;(first|subst ea_|(injection ea_ with ea_;subst ea_));subst ec_;clear en_))
     have GB16:=Aside0.mk gb16;have GG16:=Aside0.mk HG16;clear gb16 gl16 HG16;obtain⟨hx16_0,hf16_0⟩:=Kd.R_celln 0 HO_5.out (x14_1:Int) p16 q16;replace p16:=eq_true p16;replace q16:=eq_true q16;have HP17:=Kd.R_putg HO_5.out (x14_1:Int) ((ji14)%4294967296);go_wp2_with (first|((with_reducible refine gate_store (t:=88) (p:=41) rfl ?_);refine store_event (t:=88) (p:=41) (v:=?vo_w18) (w1:=(wr.setCell ⟨go16,(x14_1:Int).toNat,none⟩ (.int .u32 ((ji14)%4294967296)))) ?hg ?ho ?hn ?hr ?_;(case ho=>rfl);(case hg=>rfl);(case hn=>rfl);(case hr=>first|(go_simp;done)|(go_simp;rfl));intro w18 hw;have hg:wr.grownBy w18 (some go16):=(by rw[hw];exact HP17.2);have hp_:Kd.R (Kd.int .u32) 88 w18 w.heap.size (fun k_=>(w.heap.size≤k_)) (.slice (some ⟨go16,0,none⟩) x5_1.length co16) y181:=(by rw[hw,Ny181.out];exact HP17.1);clear HP17;replace HO_5:=Aside0.mk (hp_);replace HB:=Aside0.mk ((by rw[hw];exact below_set (HB.out) GB16.out:Below w.heap.size w w18));clear hg hw hp_))
     go_roundg k1
     case measure=>have:=HK1.out;omega
     case rel=>exact⟨(y181),(ji11),(by first|rfl|(simp;done)|(simp only[←hji11]<;>(first|rfl|simp))|(simp[*];done)),H',⟨by have:=HK1.out;omega⟩,⟨by (with_reducible repeat (first|apply Kd.R_alloc|apply Kd.R_drewN|apply Kd.R_drew));exact HO_5.out⟩,⟨Sq.bl HB⟩⟩
    ·rw[if_neg c10] at H
     have c10b0:decide ((wrap64 (x14_1+1))<(l0.length:Int))=false:=decide_eq_false c10;clear c10;replace H:=Sq.ifs H;obtain⟨c19,H⟩:=H;have c19b0:=eq_true c19;have c19b1:decide (0≤a1)=true:=decide_eq_true c19;clear c19;obtain⟨ji20,hji20⟩:∃j_:Int,(shr .u64 (IntKind.u64.wrap (rd l0 x14_1)) a1)=j_:=⟨_,rfl⟩
     (first|rw[hji20] at H|simp only[hji20] at H)
     have hji20_:((IntKind.u64.wrap (rd l0 x14_1))/2 ^ min a1.toNat 64)=ji20:=hji20;have hji20z:a1≤64→((IntKind.u64.wrap (rd l0 x14_1))/2 ^ a1.toNat)=ji20:=shr_small hji20;replace H:=Sq.ifs H;obtain⟨c21,H⟩:=H;have c21b0:decide (x14_1<(x5_1.length:Int))=true:=decide_eq_true c21;clear c21;obtain⟨y182,hy182⟩:∃y_:List Int,y_=(x5_1.set (x14_1:Int).toNat ((ji20)%4294967296)):=⟨_,rfl⟩
     (first|(replace H:=Sq.ny hy182 H;(try dsimp -simprocs only at H))|rw[←hy182] at H|skip)
     have Ny182:=Aside0.mk hy182;clear hy182;have H':=Aside0.mk H;clear H;have p179:0≤(x14_1:Int):=of_decide_eq_true (by first|(with_reducible assumption)|assumption);have q179:x14_1<(l0.length:Int):=of_decide_eq_true (by first|(with_reducible assumption)|assumption);obtain⟨ad179,e179,hx179_0⟩:=Kd.at_int HR0.out x14_1 p179 q179;cases e179;replace hx179_0:=(HB.out.cell (World.block_lt_of_cell? w _ hx179_0)).trans hx179_0;replace p179:=eq_true p179;replace q179:=eq_true q179;have p22:0≤(x14_1:Int):=of_decide_eq_true (by first|(with_reducible assumption)|assumption);have q22:(x14_1:Int)<((x5_1.length:Int):Int):=of_decide_eq_true (by first|(with_reducible assumption)|assumption);obtain⟨go22,co22,eo22,gb22,gl22,cl22,HG22⟩:=Kd.R_form HO_5.out (by omega)
     (first|cases eo22|(injection eo22 with ea_ en_ ec_;(first|subst ea_|(injection ea_ with ea_;subst ea_));subst ec_;clear en_))
     have GB22:=Aside0.mk gb22;have GG22:=Aside0.mk HG22;clear gb22 gl22 HG22;obtain⟨hx22_0,hf22_0⟩:=Kd.R_celln 0 HO_5.out (x14_1:Int) p22 q22;replace p22:=eq_true p22;replace q22:=eq_true q22;have HP23:=Kd.R_putg HO_5.out (x14_1:Int) ((ji20)%4294967296);go_wp2_with (first|((with_reducible refine gate_store (t:=88) (p:=41) rfl ?_);refine store_event (t:=88) (p:=41) (v:=?vo_w24) (w1:=(wr.setCell ⟨go22,(x14_1:Int).toNat,none⟩ (.int .u32 ((ji20)%4294967296)))) ?hg ?ho ?hn ?hr ?_;(case ho=>rfl);(case hg=>rfl);(case hn=>rfl);(case hr=>first|(go_simp;done)|(go_simp;rfl));intro w24 hw;have hg:wr.grownBy w24 (some go22):=(by rw[hw];exact HP23.2);have hp_:Kd.R (Kd.int .u32) 88 w24 w.heap.size (fun k_=>(w.heap.size≤k_)) (.slice (some ⟨go22,0,none⟩) x5_1.length co22) y182:=(by rw[hw,Ny182.out];exact HP23.1);clear HP23;replace HO_5:=Aside0.mk (hp_);replace HB:=Aside0.mk ((by rw[hw];exact below_set (HB.out) GB22.out:Below w.heap.size w w24));clear hg hw hp_))
     go_roundg k1
     case measure=>have:=HK1.out;omega
     case rel=>exact⟨(y182),(wrap64 (x14_1+1)),(by first|rfl|(simp;done)|(simp[*];done)),H',⟨by have:=HK1.out;omega⟩,⟨by (with_reducible repeat (first|apply Kd.R_alloc|apply Kd.R_drewN|apply Kd.R_drew));exact HO_5.out⟩,⟨Sq.bl HB⟩⟩
   ·rw[if_neg c7] at H
    have c7b0:decide (x14_1<(l0.length:Int))=false:=decide_eq_false c7;clear c7;replace H:=Sq.bd H;obtain⟨t183,A25,H⟩:=H
    (try dsimp -simprocs only at H)
    obtain rfl:=Option.some.inj H;obtain⟨Ao26,co26,eo26⟩:=Kd.R_slice HO_5.out;subst eo26;go_wp2_with (first|((with_reducible refine gate_callee (f:=86) rfl ?_);refine Sq.gl (some 44) Tryz.func86 #[.slice Ao26 x5_1.length co26] ?_;(with_reducible refine (nat_cut.calls k1 (fun k_=>some k_=(.slice Ao26 x5_1.length co26:Value).ownBlock) _ _ x5_1 t183 _ ?side1 A25.out).mono ?_);(case side1=>exact Kd.R_V (Kd.R_tight rfl (HO_5.out)));rintro e w27 ⟨v184,rfl,ho0,hb⟩;refine⟨_,rfl,?_⟩;have HO185:=Aside0.mk (Kd.V_lower (Kd.V_mono (ok':=fun k_=>(w.heap.size≤k_)) ho0 (fun k_ hk_=>Or.elim hk_ (fun hs_=>((HO_5.out).1 k_ hs_.symm)) (fun hn_=>(Nat.le_trans (below_size (Sq.bl HB)) hn_)))) (below_size (Sq.bl HB)));replace HO_5:=Aside0.mk (Kd.R_below (Sq.al HO_5) hb);replace HB:=Sq.bs HB hb;(try clear hb);(try clear hb2);(try clear hk);(try clear hi);(try clear ho0)))
    go_ret
    exact⟨_,by first|rfl|(simp[errW_none,errW_some]<;>rfl)|(simp[*,errW_none,errW_some]<;>rfl),by (with_reducible repeat (first|apply Kd.V_alloc|apply Kd.V_drewN|apply Kd.V_drew));exact HO185.out,Sq.bl HB⟩
end Go.Proofs.YtjfkhbkddenfoaaGreat.N
