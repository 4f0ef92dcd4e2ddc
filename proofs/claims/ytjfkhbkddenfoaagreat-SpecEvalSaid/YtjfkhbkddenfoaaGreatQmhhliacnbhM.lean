import Derived.Test.YtjfkhbkddenfoaaGreatQmklekipodoM
set_option linter.unusedVariables false
set_option linter.unusedSimpArgs false
namespace Go.Proofs.YtjfkhbkddenfoaaGreat.Ev
open Go Go.RowKit Go.Proofs.YtjfkhbkddenfoaaGreatW.PrintWords Go.Proofs.YtjfkhbkddenfoaaGreatW.PrintMore Go.Proofs.YtjfkhbkddenfoaaGreatW.PrintLast Go.Proofs.YtjfkhbkddenfoaaGreat Go.Proofs.YtjfkhbkddenfoaaGreat.Nt Go.Proofs.YtjfkhbkddenfoaaGreat.Zi
section
section
variable {ok:Nat→Prop} {W:World} {v:Value} {Rr:Ending→World→Prop}
theorem of_out {s:St} {okA:Nat→Prop} {W0:World} {h g:List (Option Nat)} {a:Act} {W3:World} {Q:Exit→Act→World→Prop} {m:Nat} (pl:List (List AC)) (hp:∀cs∈pl,Plain cs) (hh:CodeCon Tryz.prog (rg Tryz.f30 3) s .normal (s.put (some 10) (some (.g (truth false))))) (hr:(s.put (some 10) (some (.g (truth false)))).regs[10]?=some (some (.g (truth false)))) (hf:Ev.fit s (s.put (some 10) (some (.g (truth false)))) []=(s,pl)) (hok:Ok okA ⟨W0,h,[]⟩ g s a W3)
  (hQ:∀g' a' W4,Ok okA ⟨W0,h,[]⟩ g' s a' W4→Q (.exit 0) a' W4):Code.rounds Tryz.prog (lp Tryz.f30 0) Q (m+1) a W3:=by
 rw[rounds_succ];generalize Code.rounds Tryz.prog (lp Tryz.f30 0) Q m=CR;rw[lp_eq];refine wp_seq (hh _ _ _ _ _ _ hok (fun g1 a1 W4 k1=>?_))
 show (Code.seq _ _).wp _ _ _ _
 refine wp_seq (wp_cond_false (k1.truth_at hr) (wp_exit ?_))
 obtain⟨g2,k2⟩:=k1.to s pl hp hf;exact hQ g2 a1 W4 k2
theorem of_second {x y:Fm} (hM:Makes y) (k o:Int) (p:ByteArray) (n:N3) (b:Bool) (w:N3) {Q:Exit→Act→World→Prop} (m:Nat) {bf lo:Nat} {W1:World} {u:Value} {g:List (Option Nat)} {a:Act} {W3:World} (hW1:W.heap.size≤W1.heap.size) (hbf:bf<lo) (hlo:lo≤W1.heap.size) (ex:List Nat) (hex:∀b∈ex,lo≤b∧b<W1.heap.size) (hok:Ok (fun k=>(ok k∨W.heap.size≤k)∧k<lo) ⟨W1,[some bf],[]⟩ g (K2 (.mk k o p n [x,y] b w) u 1) a W3)
  (h:∀br v bs lo' W2 g' a' W4,W1.heap.size≤br→br<lo'→lo'≤W2.heap.size→Part ok W ([some bf,some br]++ex.map some) y v bs lo' W2→Ext W1 W2 [bf]→v.oneCell'=true→Ok (fun k=>((ok k∨W.heap.size≤k)∧k<lo')∧k ∉ ex) ⟨W2,[some bf,some br],[]⟩ g' (L2 (.mk k o p n [x,y] b w) u v 2) a' W4→Code.rounds Tryz.prog (lp Tryz.f30 0) Q m a' W4):Code.rounds Tryz.prog (lp Tryz.f30 0) Q (m+1) a W3:=by
 rw[rounds_succ];generalize hC:Code.rounds Tryz.prog (lp Tryz.f30 0) Q m=CR at h ⊢;rw[lp_eq];refine wp_seq (h2_at k o p n [x,y] b w u _ _ _ _ _ _ hok (fun g1 a1 W4 k1=>?_))
 rw[show decide ((1:Int)<([x,y].length:Int))=true by rfl] at k1;show (Code.seq _ _).wp _ _ _ _
 refine wp_seq (wp_cond_true (k1.truth_at (t:=10) rfl) (wp_skip ?_))
 show (Code.seq _ _).wp _ _ _ _
 obtain⟨g2,k2⟩:=k1.to (K2 (.mk k o p n [x,y] b w) u 1) [[.v u]] (row1 u) (by kernel_rfl);refine wp_seq (wp_block (wp_seq (l0_at k o p n x y [] b w u _ _ _ _ _ _ k2 (fun g3 a3 W5 k3=>?_))))
 show (Code.region _ _ _).wp _ _ _ _
 refine wp_region_list ?_
 obtain⟨op,hop,h1,h2,h3⟩:∃op:Oper,(opsR (rg Tryz.f30 5)).toList.drop 2=op::(opsR (rg Tryz.f30 5)).toList.drop 3∧op.guard=none∧op.dst=some 15∧op.op=.call { callee:=.value (.func 30),args:=#[.tmp 14],argTypes:=#[29] } :=
  ⟨(opsR (rg Tryz.f30 5)).toList.getD 2 ⟨none,.move (.tmp 0),0, "",#[],none⟩,by kernel_rfl,by kernel_rfl,by kernel_rfl,by kernel_rfl⟩
 have hsp:(opsR (rg Tryz.f30 5)).toList=(opsR (rg Tryz.f30 5)).toList.take 2++op::(opsR (rg Tryz.f30 5)).toList.drop 3:=by rw[←hop,List.take_append_drop]
 conv=>arg 4;rw[hsp]
 refine list_seq (fun _ _ _ h=>h.1) (l1_pre k o p n x y [] b w u k3) ?_
 rintro a4 W6 ⟨_,g4,k4⟩
 have hW6:W1.heap.size≤W6.heap.size:=k4.below.size;obtain⟨br,hgn⟩:∃br,g4=[some bf,some br]:=by
  have gl:g4.length=2:=k4.own.1.symm;obtain⟨br,hb⟩:=k4.has 1 _ _ _ (rfl:(L1 (.mk k o p n [x,y] b w) y u).own[1]?=some (some (false,_::_)));have h0:=k4.name (i:=0) (show 0<1 by decide)
  match g4,gl with
  |[y0,y1],_=>simp at hb h0;exact⟨br,by rw[hb,h0]⟩
 subst hgn;have hbr:=k4.base br (by simp);have hbr0:W1.heap.size≤br:=k4.isnew (i:=1) (fun j hj=>by
  match j,hj with
  |0,_=>exact⟨_,_,rfl⟩) (show 1≤1 by decide) ⟨_,_,rfl⟩ rfl
 refine sub_of hM k4 (fun k hk _=>hk.1.elim (fun h=>h.1) (fun h=>.inr (Nat.le_trans hW1 h))) (Nat.le_trans hW1 hW6) ex (fun k hk _ hm=>by
   have h9:=hex k hm;rcases hk.1 with h|h
   ·have:=h.2;omega
   ·have h:W1.heap.size≤k:=h;omega) (fun b hb=>by have:=(hex b hb).2;omega) (okB:=fun k=>((ok k∨W.heap.size≤k)∧k<W6.heap.size)∧k ∉ ex) (fun k hk hlt=>⟨⟨hk.1.elim (fun h=>h.1) (fun h=>.inr (Nat.le_trans hW1 h)),hlt⟩,fun hm=>by
   have h9:=hex k hm;rcases hk.1 with h|h
   ·have:=h.2;omega
   ·have h:W1.heap.size≤k:=h;omega⟩) h1 h2 h3 rfl (fun v' bs W7 hp he hu k5=>?_)
 have e7:Ext W1 W7 [bf]:=(Ext.keep k4.below (fun c hc=>by simpa using hc)).trans (he.mono (fun c hc=>by cases hc));have h7:=list_seq (Q':=Exit.inBlock 1 (Exit.then ((rg Tryz.f30 6).wp Tryz.prog (Exit.then CR Q)) (Exit.then CR Q))) (ys:=[]) (fun _ _ _ h=>h.1) (l1_post k o p n x y [] b w u v' k5) ?_
 ·rw[List.append_nil] at h7
  exact h7
 rintro a6 W8 ⟨_,g6,k6⟩
 show (rg Tryz.f30 6).wp _ _ _ _
 refine l6_at k o p n [x,y] b w u v' _ _ _ _ _ _ k6 (fun g9 a9 W9 k9=>?_)
 exact h br v' bs W6.heap.size W7 g9 a9 W9 hbr0 hbr.2 he.size hp e7 hu k9
end
theorem caps_at {g:List (Option Nat)}:∀(is:List Nat) (us:List Value),FL g (is.map fun i=>.ptr i 0) us→∃cs:List Nat,us=cs.map pt∧cs.length=is.length∧∀(j:Nat) i c,is[j]?=some i→cs[j]?=some c→g[i]?=some (some c)
 |[],us,h=>by
  have:us.length=0:=h.1;exact⟨[],List.eq_nil_of_length_eq_zero this,rfl,fun j i c hi=>by cases hi⟩
 |i::r,[],h=>by have:=h.1;simp at this
 |i::r,u::us,h=>by
  obtain⟨cs,rfl,hl,hc⟩:=caps_at r us ⟨by have:=h.1;simpa using this,fun j f u hf hu=>h.2 (j+1) f u (by simpa using hf) (by simpa using hu)⟩;obtain⟨b,hb,rfl⟩:=h.2 0 (.ptr i 0) u rfl rfl;exact⟨b::cs,rfl,by simp[hl],fun j i' c hi hc'=>by
   match j with
   |0=>cases hi;cases hc';exact hb
   |j+1=>exact hc j i' c (by simpa using hi) (by simpa using hc')⟩
theorem end_fn {R0:Nat→Prop} {W0 W:World} {h g:List (Option Nat)} {s:St} {a:Act} {fn:Func} {F:FuncId} {is:List Nat} {Rr:Ending→World→Prop} (hok:Ok R0 ⟨W0,h,[]⟩ g s a W) (hr:resV LU s fn=some (.g (.one (.fn F [] (is.map fun i=>.ptr i 0)))))
  (hR:∀cs:List Nat,cs.length=is.length→(∀(j:Nat) i c,is[j]?=some i→cs[j]?=some c→g[i]?=some (some c))→Rr (.returned (.func (.func F) #[] (cs.map pt).toArray)) W):bodyPost Tryz.prog fn Rr .ret a W:=by
 obtain⟨u,hu,us,vs,rfl,h1,h2⟩:=resV_at LU_ok hok hr;obtain⟨cs,hcs,hl,hc⟩:=caps_at is vs.toList h2;have e1:us=#[]:=by
  have:us.toList.length=0:=h1.1;exact Array.toList_eq_nil_iff.1 (List.length_eq_zero_iff.1 this)
 have e2:vs=(cs.map pt).toArray:=by rw[←hcs]
 subst e1 e2;exact⟨hok.defers,_,hu,hR cs hl hc⟩
theorem cel_fn {g:List (Option Nat)} {ok:Nat→Prop} {W:World} {b:Nat} {cells:Array Value} {e:Nat} {F:FuncId} {is:List Nat} (R:Nat→Prop) (hw:W.heap[b]?=some (.cells cells e (0,0))) (hT:TL g ok W [.fn F [] (is.map fun i=>.ptr i 0)] (cells.toList.take 1)) :
  ∃cs:List Nat,cs.length=is.length∧(∀(j:Nat) i c,is[j]?=some i→cs[j]?=some c→g[i]?=some (some c))∧Cel R W b [.v (.func (.func F) #[] (cs.map pt).toArray)]:=by
 have hl:(cells.toList.take 1).length=1:=hT.1;obtain⟨u,hu⟩:=List.length_eq_one_iff.1 hl;obtain⟨us,vs,rfl,h1,h2⟩:=hT.2 0 _ u rfl (by rw[hu];rfl);obtain⟨cs,hcs,hl2,hc⟩:=caps_at is vs.toList h2;have e1:us=#[]:=by
  have:us.toList.length=0:=h1.1;exact Array.toList_eq_nil_iff.1 (List.length_eq_zero_iff.1 this)
 have e2:vs=(cs.map pt).toArray:=by rw[←hcs]
 subst e1 e2;refine⟨cs,hl2,hc,cells,e,hw,?_⟩
 rw[show [AC.v (Value.func (.func F) #[] (cs.map pt).toArray)].length=1 from rfl,hu];exact⟨rfl,fun j c w hc' hw'=>by
  match j with
  |0=>cases hc';cases hw';exact TC.of_v (g:=[]) (ok:=R) (w:=W) rfl
  |j+1=>simp at hc'⟩
theorem Ext.two {A B C:World} {bs cs:List Nat} (h:Ext A B bs) (k:Ext B C cs) (hs:∀c∈cs,c∈bs∨A.heap.size≤c):Ext A C bs :=
 ⟨k.os.trans h.os,k.tape.trans h.tape,k.output.trans h.output,Nat.le_trans h.size k.size,fun i hi hn=>(k.block i (Nat.lt_of_lt_of_le hi h.size) (fun hm=>(hs i hm).elim hn (fun h=>by omega))).trans (h.block i hi hn)⟩
end
section
def Made2 (f:Fm) (ok:Nat→Prop) (W:World):Ending→World→Prop:=fun r W'=>∃u bs,r=.returned u∧bs.Nodup∧(∀b∈bs,W.heap.size≤b)∧Ext W W' []∧Has (fun k=>(ok k∨W.heap.size≤k)∧k ∉ bs) W' (ofF f) u bs
section
variable {ok okB:Nat→Prop} {W W1 Wf:World} {h gf:List (Option Nat)} {s:St} {a:Act}
theorem own_v (k:Ok okB ⟨W1,h,[]⟩ gf s a Wf) (R:Nat→Prop) {i c:Nat} {m:Bool} {u:Value} (hc:gf[i]?=some (some c)) (ho:s.own[i]?=some (some (m,[.v u]))) (hu:u.oneCell'=true):Cel R Wf c [.v u]:=by
 obtain⟨cells,e,hw,hT⟩:=k.own.2 i m _ c ho hc;exact cel_v R hw hT hu
theorem own_p (k:Ok okB ⟨W1,h,[]⟩ gf s a Wf) {R:Nat→Prop} (hR:∀k,FP okB W1.heap.size gf k→R k) {i c:Nat} {m:Bool} {cs:List AC} (hc:gf[i]?=some (some c)) (ho:s.own[i]?=some (some (m,cs))) (hp:Plain cs):Cel R Wf c cs:=by
 obtain⟨cells,e,hw,hT⟩:=k.own.2 i m cs c ho hc;exact⟨cells,e,hw,hT.plain (fun k hk _=>hR k hk) hp⟩
theorem dist2 (k:Ok okB ⟨W1,h,[]⟩ gf s a Wf) {i j c d:Nat} (hij:i≠j) (hc:gf[i]?=some (some c)) (hd:gf[j]?=some (some d)) (li:∃m cs,s.own[i]?=some (some (m,cs))) (lj:∃m cs,s.own[j]?=some (some (m,cs))):c≠d:=fun e=>by
 subst e;exact hij (k.nodup i j c hc hd li lj)
theorem part_end' {x:Fm} {u:Value} {bs:List Nat} {lo:Nat} {hx:List (Option Nat)} {cs xs:List Nat} (hp:Part ok W hx x u bs lo W1) (ef:Ext W1 Wf xs) (hxs:∀c∈xs,c<lo∧some c∈hx) (hcs:∀c∈cs,W1.heap.size≤c∨some c∈hx) {R:Nat→Prop} (hR:∀k,(ok k∨W.heap.size≤k)→k ∉ bs→k ∉ cs→k<W1.heap.size→R k):Has R Wf (ofF x) u bs:=by
 have h1:=hp.has.move (W':=Wf) (fun k hk hlt=>ef.block k hlt (fun hm=>hk.2.2.1 (hxs k hm).2)) (fun b hb=>ef.block b (hp.has.lt b hb) (fun hm=>by
  have:=hp.lo b hb;have:=(hxs b hm).1;omega))
 refine h1.foot (fun k _ hF=>hR k hF.1 hF.2.1 (fun hm=>?_) hF.2.2.2)
 have:=hF.2.2.2;rcases hcs k hm with h|h
 ·omega
 ·exact hF.2.2.1 h
theorem part_end {x:Fm} {u:Value} {bs:List Nat} {lo:Nat} {hx:List (Option Nat)} {cs xs:List Nat} (hp:Part ok W hx x u bs lo W1) (ef:Ext W1 Wf xs) (hxs:∀c∈xs,c<lo∧some c∈hx) (hcs:∀c∈cs,W1.heap.size≤c∨c∈xs) {R:Nat→Prop} (hR:∀k,(ok k∨W.heap.size≤k)→k ∉ bs→k ∉ cs→k<W1.heap.size→R k):Has R Wf (ofF x) u bs :=
 part_end' hp ef hxs (fun c hc=>(hcs c hc).imp id (fun h=>(hxs c h).2)) hR
end
section
variable {ok:Nat→Prop} {W W1 Wf:World} {bf lo:Nat} {x:Fm} {u:Value} {bs:List Nat} {gf:List (Option Nat)} {s:St} {a:Act} {f:Fm}
theorem one_facts (hW1:W.heap.size≤W1.heap.size) (hbf0:W.heap.size≤bf) (hbf:bf<lo) (hlo:lo≤W1.heap.size) (hp:Part ok W [some bf] x u bs lo W1) (kf:Ok (fun k=>(ok k∨W.heap.size≤k)∧k<lo) ⟨W1,[some bf],[]⟩ gf s a Wf) :
  (∀c,some c∈gf→W.heap.size≤c∧c ∉ bs∧(W1.heap.size≤c∨c∈[bf]))∧(∀b∈bs,W.heap.size≤b) ∧
  (∀k,FP (fun k=>(ok k∨W.heap.size≤k)∧k<lo) W1.heap.size gf k→(ok k∨W.heap.size≤k)∧k ∉ bs∧∀c,some c∈gf→k≠c):=by
 have hb:∀c,some c∈gf→W1.heap.size≤c∨c∈[bf]:=fun c hc=>(kf.base c hc).1.imp id (fun hx=>by
  have:some c∈[some bf]:=hx;simpa using this)
 refine⟨fun c hc=>?_,fun b hb'=>?_,fun k hk=>⟨?_,fun hm=>?_,fun c hc e=>hk.2 (e▸hc)⟩⟩
 ·have h1:=hb c hc
  refine⟨?_,fun hm=>?_,h1⟩
  ·rcases h1 with h1|h1
   ·omega
   ·rw[List.mem_singleton.1 h1];exact hbf0
  ·have h2:=hp.has.lt c hm
   have h3:=hp.lo c hm;rcases h1 with h1|h1
   ·omega
   ·rw[List.mem_singleton.1 h1] at h3;omega
 ·have:=hp.lo b hb'
  omega
 ·rcases hk.1 with h1|h1
  ·exact h1.1
  ·exact .inr (Nat.le_trans hW1 h1)
 ·have h2:=hp.has.lt k hm
  have h3:=hp.lo k hm;rcases hk.1 with h1|h1
  ·have:=h1.2;omega
  ·have h1:W1.heap.size≤k:=h1;omega
theorem fin_not {o:Int} {p:ByteArray} {n:N3} {r:List Fm} {b:Bool} {w:N3} (hW1:W.heap.size≤W1.heap.size) (hbf0:W.heap.size≤bf) (hbf:bf<lo) (hlo:lo≤W1.heap.size) (hp:Part ok W [some bf] x u bs lo W1) (e1:Ext W W1 []) (hu:u.oneCell'=true) (hof:ofF f=.not (ofF x)) (kf:Ok (fun k=>(ok k∨W.heap.size≤k)∧k<lo) ⟨W1,[some bf],[]⟩ gf (Z1 (.mk 4 o p n r b w) u) a Wf):bodyPost Tryz.prog Tryz.f30 (Made2 f ok W) .ret a Wf:=by
 obtain⟨f1,f2,f3⟩:=one_facts hW1 hbf0 hbf hlo hp kf;have ef:Ext W1 Wf [bf]:=Ext.keep kf.below (fun c hc=>by simpa using hc);refine end_fn kf (F:=74) (is:=[1]) (by kernel_rfl) (fun cs hl hc=>?_)
 match cs,hl with
 |[c],_ =>
  have g1:=hc 0 1 c rfl rfl;have m1:=f1 c (List.mem_of_getElem? g1);refine⟨_,c::bs,rfl,List.nodup_cons.2 ⟨m1.2.1,hp.nd⟩,fun b hb=>?_,e1.two ef (fun c hc=>by rw[List.mem_singleton.1 hc];exact .inr hbf0),?_⟩
  ·rcases List.mem_cons.1 hb with rfl|hb
   ·exact m1.1
   ·exact f2 b hb
  ·rw[hof]
   refine⟨c,u,bs,rfl,rfl,own_v kf _ g1 rfl hu,part_end (cs:=[c]) hp ef (fun c hc=>by rw[List.mem_singleton.1 hc];exact⟨hbf,by simp⟩) (fun d hd=>by rw[List.mem_singleton.1 hd];exact m1.2.2) (fun k h1 h2 h3 _=>⟨h1,fun hm=>?_⟩)⟩
   rcases List.mem_cons.1 hm with rfl|hm
   ·exact h3 (by simp)
   ·exact h2 hm
theorem fin_prev {o:Int} {p:ByteArray} {n:N3} {r:List Fm} {b:Bool} {w:N3} (hW1:W.heap.size≤W1.heap.size) (hbf0:W.heap.size≤bf) (hbf:bf<lo) (hlo:lo≤W1.heap.size) (hp:Part ok W [some bf] x u bs lo W1) (e1:Ext W W1 []) (hu:u.oneCell'=true) (hof:ofF f=.prev false (ofF x)) (kf:Ok (fun k=>(ok k∨W.heap.size≤k)∧k<lo) ⟨W1,[some bf],[]⟩ gf (Z3 (.mk 7 o p n r b w) u) a Wf):bodyPost Tryz.prog Tryz.f30 (Made2 f ok W) .ret a Wf:=by
 obtain⟨f1,f2,f3⟩:=one_facts hW1 hbf0 hbf hlo hp kf;have ef:Ext W1 Wf [bf]:=Ext.keep kf.below (fun c hc=>by simpa using hc);refine end_fn kf (F:=76) (is:=[2,1]) (by kernel_rfl) (fun cs hl hc=>?_)
 match cs,hl with
 |[c2,c1],_ =>
  have g2:=hc 0 2 c2 rfl rfl;have g1:=hc 1 1 c1 rfl rfl;have m1:=f1 c1 (List.mem_of_getElem? g1);have m2:=f1 c2 (List.mem_of_getElem? g2);have d12:=dist2 kf (by decide) g1 g2 ⟨_,_,rfl⟩ ⟨_,_,rfl⟩;refine⟨_,c1::c2::bs,rfl,?_,fun b hb=>?_,e1.two ef (fun c hc=>by rw[List.mem_singleton.1 hc];exact .inr hbf0),?_⟩
  ·simp only[List.nodup_cons,List.mem_cons,not_or]
   exact⟨⟨d12,m1.2.1⟩,m2.2.1,hp.nd⟩
  ·simp only[List.mem_cons] at hb
   rcases hb with rfl|rfl|hb
   ·exact m1.1
   ·exact m2.1
   ·exact f2 b hb
  ·rw[hof]
   refine⟨c1,c2,u,bs,rfl,rfl,own_v kf _ g1 rfl hu,own_v kf _ g2 rfl rfl,part_end (cs:=[c1,c2]) hp ef (fun c hc=>by rw[List.mem_singleton.1 hc];exact⟨hbf,by simp⟩) (fun d hd=>by
    simp only[List.mem_cons,List.not_mem_nil,or_false] at hd;rcases hd with rfl|rfl
    ·exact m1.2.2
    ·exact m2.2.2) (fun k h1 h2 h3 _=>⟨h1,fun hm=>?_⟩)⟩
   simp only[List.mem_cons] at hm;rcases hm with rfl|rfl|hm
   ·exact h3 (by simp)
   ·exact h3 (by simp)
   ·exact h2 hm
theorem fin_once {o:Int} {p:ByteArray} {n:N3} {r:List Fm} {b:Bool} {w:N3} (hW1:W.heap.size≤W1.heap.size) (hbf0:W.heap.size≤bf) (hbf:bf<lo) (hlo:lo≤W1.heap.size) (hp:Part ok W [some bf] x u bs lo W1) (e1:Ext W W1 []) (hu:u.oneCell'=true) (hof:ofF f=.once (.mk 8 o p n r b w) none (ofF x)) (kf:Ok (fun k=>(ok k∨W.heap.size≤k)∧k<lo) ⟨W1,[some bf],[]⟩ gf (Z4 (.mk 8 o p n r b w) u) a Wf):bodyPost Tryz.prog Tryz.f30 (Made2 f ok W) .ret a Wf:=by
 obtain⟨f1,f2,f3⟩:=one_facts hW1 hbf0 hbf hlo hp kf;have ef:Ext W1 Wf [bf]:=Ext.keep kf.below (fun c hc=>by simpa using hc);refine end_fn kf (F:=77) (is:=[2,3,1]) (by kernel_rfl) (fun cs hl hc=>?_)
 match cs,hl with
 |[c2,c3,c1],_ =>
  have g2:=hc 0 2 c2 rfl rfl;have g3:=hc 1 3 c3 rfl rfl;have g1:=hc 2 1 c1 rfl rfl;have m1:=f1 c1 (List.mem_of_getElem? g1);have m2:=f1 c2 (List.mem_of_getElem? g2);have m3:=f1 c3 (List.mem_of_getElem? g3);have d12:=dist2 kf (by decide) g1 g2 ⟨_,_,rfl⟩ ⟨_,_,rfl⟩;have d13:=dist2 kf (by decide) g1 g3 ⟨_,_,rfl⟩ ⟨_,_,rfl⟩;have d23:=dist2 kf (by decide) g2 g3 ⟨_,_,rfl⟩ ⟨_,_,rfl⟩;have hR:∀k,FP (fun k=>(ok k∨W.heap.size≤k)∧k<lo) W1.heap.size gf k→(ok k∨W.heap.size≤k)∧k ∉ c1::c2::c3::bs:=fun k hk=>by
   obtain⟨h1,h2,h3⟩:=f3 k hk;refine⟨h1,fun hm=>?_⟩
   simp only[List.mem_cons] at hm;rcases hm with rfl|rfl|rfl|hm
   ·exact h3 _ (List.mem_of_getElem? g1) rfl
   ·exact h3 _ (List.mem_of_getElem? g2) rfl
   ·exact h3 _ (List.mem_of_getElem? g3) rfl
   ·exact h2 hm
  refine⟨_,c1::c2::c3::bs,rfl,?_,fun b hb=>?_,e1.two ef (fun c hc=>by rw[List.mem_singleton.1 hc];exact .inr hbf0),?_⟩
  ·simp only[List.nodup_cons,List.mem_cons,not_or]
   exact⟨⟨d12,d13,m1.2.1⟩,⟨d23,m2.2.1⟩,m3.2.1,hp.nd⟩
  ·simp only[List.mem_cons] at hb
   rcases hb with rfl|rfl|rfl|hb
   ·exact m1.1
   ·exact m2.1
   ·exact m3.1
   ·exact f2 b hb
  ·rw[hof]
   refine⟨c1,c2,c3,u,bs,rfl,rfl,own_p kf hR g1 rfl (fm_plain _),own_v kf _ g2 rfl hu,own_p kf hR g3 rfl (rec_plain _),part_end (cs:=[c1,c2,c3]) hp ef (fun c hc=>by rw[List.mem_singleton.1 hc];exact⟨hbf,by simp⟩) (fun d hd=>by
    rcases mem3.1 hd with rfl|rfl|rfl
    ·exact m1.2.2
    ·exact m2.2.2
    ·exact m3.2.2) (fun k h1 h2 h3 _=>⟨h1,fun hm=>?_⟩)⟩
   simp only[List.mem_cons] at hm;rcases hm with rfl|rfl|rfl|hm
   ·exact h3 (by simp)
   ·exact h3 (by simp)
   ·exact h3 (by simp)
   ·exact h2 hm
theorem fin_always {o:Int} {p:ByteArray} {n:N3} {r:List Fm} {b:Bool} {w:N3} (hW1:W.heap.size≤W1.heap.size) (hbf0:W.heap.size≤bf) (hbf:bf<lo) (hlo:lo≤W1.heap.size) (hp:Part ok W [some bf] x u bs lo W1) (e1:Ext W W1 []) (hu:u.oneCell'=true) (hof:ofF f=.not (.once (.mk 9 o p n r b w) none (.not (ofF x)))) (kf:Ok (fun k=>(ok k∨W.heap.size≤k)∧k<lo) ⟨W1,[some bf],[]⟩ gf (Z5 (.mk 9 o p n r b w) u) a Wf):bodyPost Tryz.prog Tryz.f30 (Made2 f ok W) .ret a Wf:=by
 obtain⟨f1,f2,f3⟩:=one_facts hW1 hbf0 hbf hlo hp kf;have ef:Ext W1 Wf [bf]:=Ext.keep kf.below (fun c hc=>by simpa using hc);refine end_fn kf (F:=74) (is:=[5]) (by kernel_rfl) (fun cs hl hc=>?_)
 match cs,hl with
 |[c5],_ =>
  have g5:=hc 0 5 c5 rfl rfl;obtain⟨cells5,t5,hw5,hT5⟩:=kf.own.2 5 _ _ c5 rfl g5;obtain⟨cs5,hl5,hc5,x5⟩:=cel_fn (is:=[3,4,2]) (fun k=>(ok k∨W.heap.size≤k)∧k<Wf.heap.size+1) hw5 hT5
  match cs5,hl5 with
  |[c3,c4,c2],_ =>
   have g3:=hc5 0 3 c3 rfl rfl;have g4:=hc5 1 4 c4 rfl rfl;have g2:=hc5 2 2 c2 rfl rfl;obtain⟨cells3,t3,hw3,hT3⟩:=kf.own.2 3 _ _ c3 rfl g3;obtain⟨cs3,hl3,hc3,x3⟩:=cel_fn (is:=[1]) (fun k=>(ok k∨W.heap.size≤k)∧k<Wf.heap.size+1) hw3 hT3
   match cs3,hl3 with
   |[c1],_ =>
    have g1:=hc3 0 1 c1 rfl rfl;have m1:=f1 c1 (List.mem_of_getElem? g1);have m2:=f1 c2 (List.mem_of_getElem? g2);have m3:=f1 c3 (List.mem_of_getElem? g3);have m4:=f1 c4 (List.mem_of_getElem? g4);have m5:=f1 c5 (List.mem_of_getElem? g5);have d12:=dist2 kf (by decide) g1 g2 ⟨_,_,rfl⟩ ⟨_,_,rfl⟩;have d13:=dist2 kf (by decide) g1 g3 ⟨_,_,rfl⟩ ⟨_,_,rfl⟩;have d14:=dist2 kf (by decide) g1 g4 ⟨_,_,rfl⟩ ⟨_,_,rfl⟩;have d15:=dist2 kf (by decide) g1 g5 ⟨_,_,rfl⟩ ⟨_,_,rfl⟩;have d23:=dist2 kf (by decide) g2 g3 ⟨_,_,rfl⟩ ⟨_,_,rfl⟩;have d24:=dist2 kf (by decide) g2 g4 ⟨_,_,rfl⟩ ⟨_,_,rfl⟩;have d25:=dist2 kf (by decide) g2 g5 ⟨_,_,rfl⟩ ⟨_,_,rfl⟩;have d34:=dist2 kf (by decide) g3 g4 ⟨_,_,rfl⟩ ⟨_,_,rfl⟩;have d35:=dist2 kf (by decide) g3 g5 ⟨_,_,rfl⟩ ⟨_,_,rfl⟩;have d45:=dist2 kf (by decide) g4 g5 ⟨_,_,rfl⟩ ⟨_,_,rfl⟩;have hR:∀k,FP (fun k=>(ok k∨W.heap.size≤k)∧k<lo) W1.heap.size gf k→(ok k∨W.heap.size≤k)∧k ∉ c5::c2::c3::c4::c1::bs:=fun k hk=>by
     obtain⟨h1,h2,h3⟩:=f3 k hk;refine⟨h1,fun hm=>?_⟩
     simp only[List.mem_cons] at hm;rcases hm with rfl|rfl|rfl|rfl|rfl|hm
     ·exact h3 _ (List.mem_of_getElem? g5) rfl
     ·exact h3 _ (List.mem_of_getElem? g2) rfl
     ·exact h3 _ (List.mem_of_getElem? g3) rfl
     ·exact h3 _ (List.mem_of_getElem? g4) rfl
     ·exact h3 _ (List.mem_of_getElem? g1) rfl
     ·exact h2 hm
    obtain⟨cs5',hl5',hc5',x5'⟩:=cel_fn (is:=[3,4,2]) (fun k=>(ok k∨W.heap.size≤k)∧k ∉ c5::c2::c3::c4::c1::bs) hw5 hT5;obtain⟨cs3',hl3',hc3',x3'⟩:=cel_fn (is:=[1]) (fun k=>(ok k∨W.heap.size≤k)∧k ∉ c5::c2::c3::c4::c1::bs) hw3 hT3
    match cs5',hl5',cs3',hl3' with
    |[a3,a4,a2],_,[a1],_ =>
     have q3:a3=c3:=by have:=hc5' 0 3 a3 rfl rfl;rw[g3] at this;cases this;rfl
     have q4:a4=c4:=by have:=hc5' 1 4 a4 rfl rfl;rw[g4] at this;cases this;rfl
     have q2:a2=c2:=by have:=hc5' 2 2 a2 rfl rfl;rw[g2] at this;cases this;rfl
     have q1:a1=c1:=by have:=hc3' 0 1 a1 rfl rfl;rw[g1] at this;cases this;rfl
     subst q1 q2 q3 q4;refine⟨_,c5::a2::a3::a4::a1::bs,rfl,?_,fun b hb=>?_,e1.two ef (fun c hc=>by rw[List.mem_singleton.1 hc];exact .inr hbf0),?_⟩
     ·simp only[List.nodup_cons,List.mem_cons,not_or]
      exact⟨⟨Ne.symm d25,Ne.symm d35,Ne.symm d45,Ne.symm d15,m5.2.1⟩,⟨d23,d24,Ne.symm d12,m2.2.1⟩,⟨d34,Ne.symm d13,m3.2.1⟩,⟨Ne.symm d14,m4.2.1⟩,m1.2.1,hp.nd⟩
     ·simp only[List.mem_cons] at hb
      rcases hb with rfl|rfl|rfl|rfl|rfl|hb
      ·exact m5.1
      ·exact m2.1
      ·exact m3.1
      ·exact m4.1
      ·exact m1.1
      ·exact f2 b hb
     ·rw[hof]
      refine⟨c5,_,a2::a3::a4::a1::bs,rfl,rfl,x5',a2,a3,a4,_,a1::bs,rfl,rfl,own_p kf hR g2 rfl (fm_plain _),x3',own_p kf hR g4 rfl (rec_plain _),a1,u,bs,rfl,rfl,own_v kf _ g1 rfl hu,part_end (cs:=[a1,a2,a3,a4,c5]) hp ef (fun c hc=>by rw[List.mem_singleton.1 hc];exact⟨hbf,by simp⟩) (fun d hd=>?_) (fun k h1 h2 h3 _=>⟨h1,fun hm=>?_⟩)⟩
      ·simp only[List.mem_cons,List.not_mem_nil,or_false] at hd
       rcases hd with rfl|rfl|rfl|rfl|rfl
       ·exact m1.2.2
       ·exact m2.2.2
       ·exact m3.2.2
       ·exact m4.2.2
       ·exact m5.2.2
      ·simp only[List.mem_cons] at hm
       rcases hm with rfl|rfl|rfl|rfl|rfl|hm
       ·exact h3 (by simp)
       ·exact h3 (by simp)
       ·exact h3 (by simp)
       ·exact h3 (by simp)
       ·exact h3 (by simp)
       ·exact h2 hm
end
end
section
section
variable {ok:Nat→Prop} {W W1 W2 Wf:World} {bf lo br lo':Nat} {x y:Fm} {u v:Value} {bs bs':List Nat} {gf:List (Option Nat)} {s:St} {a:Act} {f:Fm}
structure Two (ok:Nat→Prop) (W W1 W2:World) (bf lo br lo':Nat) (x y:Fm) (u v:Value) (bs bs':List Nat):Prop where
 hW1:W.heap.size≤W1.heap.size
 hbf0:W.heap.size≤bf
 hbf:bf<lo
 hlo:lo≤W1.heap.size
 hbr:W1.heap.size≤br
 hbr2:br<lo'
 hlo2:lo'≤W2.heap.size
 p1:Part ok W [some bf] x u bs lo W1
 p2:Part ok W ([some bf,some br]++bs.map some) y v bs' lo' W2
 e1:Ext W W1 []
 e2:Ext W1 W2 [bf]
 hu:u.oneCell'=true
 hv:v.oneCell'=true
theorem two_facts (t:Two ok W W1 W2 bf lo br lo' x y u v bs bs') (kf:Ok (fun k=>((ok k∨W.heap.size≤k)∧k<lo')∧k ∉ bs) ⟨W2,[some bf,some br],[]⟩ gf s a Wf) :
  (∀c,some c∈gf→W.heap.size≤c∧c ∉ bs∧c ∉ bs'∧(W2.heap.size≤c∨c∈[bf,br]))∧(∀b∈bs,W.heap.size≤b)∧(∀b∈bs',W.heap.size≤b)∧(∀b∈bs,b ∉ bs'):=by
 have hb:∀c,some c∈gf→W2.heap.size≤c∨c∈[bf,br]:=fun c hc=>(kf.base c hc).1.imp id (fun hx=>by
  have:some c∈[some bf,some br]:=hx;simpa using this)
 have o1:=t.hW1;have o2:=t.hbf0;have o3:=t.hbf;have o4:=t.hlo;have o5:=t.hbr;have o6:=t.hbr2;have o7:=t.hlo2;refine⟨fun c hc=>?_,fun b hb'=>?_,fun b hb'=>?_,fun b h1 h2=>?_⟩
 ·have h1:=hb c hc
  refine⟨?_,fun hm=>?_,fun hm=>?_,h1⟩
  ·rcases h1 with h1|h1
   ·omega
   ·simp only[List.mem_cons,List.not_mem_nil,or_false] at h1
    rcases h1 with rfl|rfl<;>omega
  ·have h2:=t.p1.has.lt c hm
   have h3:=t.p1.lo c hm;rcases h1 with h1|h1
   ·omega
   ·simp only[List.mem_cons,List.not_mem_nil,or_false] at h1
    rcases h1 with rfl|rfl<;>omega
  ·have h2:=t.p2.has.lt c hm
   have h3:=t.p2.lo c hm;rcases h1 with h1|h1
   ·omega
   ·simp only[List.mem_cons,List.not_mem_nil,or_false] at h1
    rcases h1 with rfl|rfl<;>omega
 ·have:=t.p1.lo b hb';omega
 ·have:=t.p2.lo b hb';omega
 ·have:=t.p1.has.lt b h1
  have:=t.p2.lo b h2;omega
theorem two_end (t:Two ok W W1 W2 bf lo br lo' x y u v bs bs') (kf:Ok (fun k=>((ok k∨W.heap.size≤k)∧k<lo')∧k ∉ bs) ⟨W2,[some bf,some br],[]⟩ gf s a Wf) (cs:List Nat) (hcs:∀c∈cs,some c∈gf) {R:Nat→Prop} (hR:∀k,(ok k∨W.heap.size≤k)→k ∉ bs→k ∉ bs'→k ∉ cs→R k):Has R Wf (ofF x) u bs∧Has R Wf (ofF y) v bs':=by
 obtain⟨f1,f2,f3,f4⟩:=two_facts t kf;have ef:Ext W2 Wf [bf,br]:=Ext.keep kf.below (fun c hc=>by simpa using hc);have o3:=t.hbf;have o4:=t.hlo;have o5:=t.hbr;have o6:=t.hbr2;have o7:=t.hlo2;have efx:Ext W1 Wf [bf]:=t.e2.two ef (fun c hc=>by
  simp only[List.mem_cons,List.not_mem_nil,or_false] at hc;rcases hc with rfl|rfl
  ·exact .inl (by simp)
  ·exact .inr t.hbr)
 refine⟨part_end (cs:=cs) t.p1 efx (fun c hc=>by rw[List.mem_singleton.1 hc];exact⟨t.hbf,by simp⟩) (fun d hd=>?_) (fun k h1 h2 h3 h4=>hR k h1 h2 (fun hm=>by have:=t.p2.lo k hm;omega) h3),part_end' (cs:=cs++bs) t.p2 ef (fun c hc=>?_) (fun d hd=>?_) (fun k h1 h2 h3 h4=>hR k h1 (fun hm=>h3 (List.mem_append_right _ hm)) h2 (fun hm=>h3 (List.mem_append_left _ hm)))⟩
 ·rcases (f1 d (hcs d hd)).2.2.2 with h|h
  ·exact .inl (by omega)
  ·simp only[List.mem_cons,List.not_mem_nil,or_false] at h
   rcases h with rfl|rfl
   ·exact .inr (by simp)
   ·exact .inl t.hbr
 ·simp only[List.mem_cons,List.not_mem_nil,or_false] at hc
  rcases hc with rfl|rfl
  ·exact⟨by omega,by simp⟩
  ·exact⟨t.hbr2,by simp⟩
 ·rcases List.mem_append.1 hd with hd|hd
  ·refine (f1 d (hcs d hd)).2.2.2.imp id (fun h=>?_)
   simp only[List.mem_cons,List.not_mem_nil,or_false] at h;rcases h with rfl|rfl<;>simp
  ·exact .inr (List.mem_append_right _ (List.mem_map.2 ⟨d,hd,rfl⟩))
theorem two_fp (t:Two ok W W1 W2 bf lo br lo' x y u v bs bs') (kf:Ok (fun k=>((ok k∨W.heap.size≤k)∧k<lo')∧k ∉ bs) ⟨W2,[some bf,some br],[]⟩ gf s a Wf) {cs:List Nat} (hcs:∀c∈cs,some c∈gf) {k:Nat} (hk:FP (fun k=>((ok k∨W.heap.size≤k)∧k<lo')∧k ∉ bs) W2.heap.size gf k):(ok k∨W.heap.size≤k)∧k ∉ bs∧k ∉ bs'∧k ∉ cs:=by
 have o1:=t.hW1;have o3:=t.hbf;have o4:=t.hlo;have o5:=t.hbr;have o6:=t.hbr2;have o7:=t.hlo2;refine⟨?_,fun hm=>?_,fun hm=>?_,fun hm=>hk.2 (hcs k hm)⟩
 ·rcases hk.1 with h1|h1
  ·exact h1.1.1
  ·have h1:W2.heap.size≤k:=h1
   exact .inr (by omega)
 ·have h2:=t.p1.has.lt k hm
  rcases hk.1 with h1|h1
  ·exact h1.2 hm
  ·have h1:W2.heap.size≤k:=h1;omega
 ·have h2:=t.p2.has.lt k hm
  have h3:=t.p2.lo k hm;rcases hk.1 with h1|h1
  ·have:=h1.1.2;omega
  ·have h1:W2.heap.size≤k:=h1;omega
theorem fin_both (an:Bool) {k o:Int} {p:ByteArray} {n:N3} {r:List Fm} {b:Bool} {w:N3} (t:Two ok W W1 W2 bf lo br lo' x y u v bs bs') (hof:ofF f=.both an (ofF x) (ofF y)) (kf:Ok (fun k=>((ok k∨W.heap.size≤k)∧k<lo')∧k ∉ bs) ⟨W2,[some bf,some br],[]⟩ gf (Z2 (.mk k o p n r b w) u v (pV an)) a Wf):bodyPost Tryz.prog Tryz.f30 (Made2 f ok W) .ret a Wf:=by
 obtain⟨f1,f2,f3,f4⟩:=two_facts t kf;have ef:Ext W2 Wf [bf,br]:=Ext.keep kf.below (fun c hc=>by simpa using hc);have o2:=t.hbf0;have o5:=t.hbr;have o1:=t.hW1;have en:Ext W Wf []:=(t.e1.two t.e2 (fun c hc=>by rw[List.mem_singleton.1 hc];exact .inr o2)).two ef (fun c hc=>by
  simp only[List.mem_cons,List.not_mem_nil,or_false] at hc;rcases hc with rfl|rfl
  ·exact .inr o2
  ·exact .inr (by omega))
 refine end_fn kf (F:=75) (is:=[2,3,4]) (by kernel_rfl) (fun cs hl hc=>?_)
 match cs,hl with
 |[c1,c2,c3],_ =>
  have g1:=hc 0 2 c1 rfl rfl;have g2:=hc 1 3 c2 rfl rfl;have g3:=hc 2 4 c3 rfl rfl;have m1:=f1 c1 (List.mem_of_getElem? g1);have m2:=f1 c2 (List.mem_of_getElem? g2);have m3:=f1 c3 (List.mem_of_getElem? g3);have d12:=dist2 kf (by decide) g1 g2 ⟨_,_,rfl⟩ ⟨_,_,rfl⟩;have d13:=dist2 kf (by decide) g1 g3 ⟨_,_,rfl⟩ ⟨_,_,rfl⟩;have d23:=dist2 kf (by decide) g2 g3 ⟨_,_,rfl⟩ ⟨_,_,rfl⟩;have hin:∀c∈[c1,c2,c3],some c∈gf:=fun c hc=>by
   rcases mem3.1 hc with rfl|rfl|rfl
   ·exact List.mem_of_getElem? g1
   ·exact List.mem_of_getElem? g2
   ·exact List.mem_of_getElem? g3
  have hend:=two_end t kf [c1,c2,c3] hin (R:=fun k=>(ok k∨W.heap.size≤k)∧k ∉ c1::c2::c3::(bs++bs')) (fun k h1 h2 h3 h4=>⟨h1,fun hm=>by
   simp only[List.mem_cons,List.mem_append] at hm;rcases hm with rfl|rfl|rfl|hm|hm
   ·exact h4 (by simp)
   ·exact h4 (by simp)
   ·exact h4 (by simp)
   ·exact h2 hm
   ·exact h3 hm⟩)
  refine⟨_,c1::c2::c3::(bs++bs'),rfl,?_,fun b hb=>?_,en,?_⟩
  ·simp only[List.nodup_cons,List.mem_cons,List.mem_append,not_or]
   exact⟨⟨d12,d13,m1.2.1,m1.2.2.1⟩,⟨d23,m2.2.1,m2.2.2.1⟩,⟨m3.2.1,m3.2.2.1⟩,List.nodup_append.2 ⟨t.p1.nd,t.p2.nd,fun a ha b hb e=>f4 a ha (e▸hb)⟩⟩
  ·simp only[List.mem_cons,List.mem_append] at hb
   rcases hb with rfl|rfl|rfl|hb|hb
   ·exact m1.1
   ·exact m2.1
   ·exact m3.1
   ·exact f2 b hb
   ·exact f3 b hb
  ·rw[hof]
   exact⟨c1,c2,c3,u,v,bs,bs',rfl,rfl,own_v kf _ g1 rfl t.hu,own_v kf _ g2 rfl t.hv,own_v kf _ g3 rfl rfl,hend.1,hend.2⟩
theorem fin_since {k o:Int} {p:ByteArray} {n:N3} {r:List Fm} {b:Bool} {w:N3} (t:Two ok W W1 W2 bf lo br lo' x y u v bs bs') (hof:ofF f=.since (.mk k o p n r b w) none (ofF x) (ofF y)) (kf:Ok (fun k=>((ok k∨W.heap.size≤k)∧k<lo')∧k ∉ bs) ⟨W2,[some bf,some br],[]⟩ gf (Z6 (.mk k o p n r b w) u v) a Wf):bodyPost Tryz.prog Tryz.f30 (Made2 f ok W) .ret a Wf:=by
 obtain⟨f1,f2,f3,f4⟩:=two_facts t kf;have ef:Ext W2 Wf [bf,br]:=Ext.keep kf.below (fun c hc=>by simpa using hc);have o2:=t.hbf0;have o5:=t.hbr;have o1:=t.hW1;have en:Ext W Wf []:=(t.e1.two t.e2 (fun c hc=>by rw[List.mem_singleton.1 hc];exact .inr o2)).two ef (fun c hc=>by
  simp only[List.mem_cons,List.not_mem_nil,or_false] at hc;rcases hc with rfl|rfl
  ·exact .inr o2
  ·exact .inr (by omega))
 refine end_fn kf (F:=79) (is:=[3,4,5,2]) (by kernel_rfl) (fun cs hl hc=>?_)
 match cs,hl with
 |[c2,c3,c4,c1],_ =>
  have g2:=hc 0 3 c2 rfl rfl;have g3:=hc 1 4 c3 rfl rfl;have g4:=hc 2 5 c4 rfl rfl;have g1:=hc 3 2 c1 rfl rfl;have m1:=f1 c1 (List.mem_of_getElem? g1);have m2:=f1 c2 (List.mem_of_getElem? g2);have m3:=f1 c3 (List.mem_of_getElem? g3);have m4:=f1 c4 (List.mem_of_getElem? g4);have d12:=dist2 kf (by decide) g1 g2 ⟨_,_,rfl⟩ ⟨_,_,rfl⟩;have d13:=dist2 kf (by decide) g1 g3 ⟨_,_,rfl⟩ ⟨_,_,rfl⟩;have d23:=dist2 kf (by decide) g2 g3 ⟨_,_,rfl⟩ ⟨_,_,rfl⟩;have d14:=dist2 kf (by decide) g1 g4 ⟨_,_,rfl⟩ ⟨_,_,rfl⟩;have d24:=dist2 kf (by decide) g2 g4 ⟨_,_,rfl⟩ ⟨_,_,rfl⟩;have d34:=dist2 kf (by decide) g3 g4 ⟨_,_,rfl⟩ ⟨_,_,rfl⟩;have hin:∀c∈[c1,c2,c3,c4],some c∈gf:=fun c hc=>by
   rcases mem4.1 hc with rfl|rfl|rfl|rfl
   ·exact List.mem_of_getElem? g1
   ·exact List.mem_of_getElem? g2
   ·exact List.mem_of_getElem? g3
   ·exact List.mem_of_getElem? g4
  have hend:=two_end t kf [c1,c2,c3,c4] hin (R:=fun k=>(ok k∨W.heap.size≤k)∧k ∉ c1::c2::c3::c4::(bs++bs')) (fun k h1 h2 h3 h4=>⟨h1,fun hm=>by
   simp only[List.mem_cons,List.mem_append] at hm;rcases hm with rfl|rfl|rfl|rfl|hm|hm
   ·exact h4 (by simp)
   ·exact h4 (by simp)
   ·exact h4 (by simp)
   ·exact h4 (by simp)
   ·exact h2 hm
   ·exact h3 hm⟩)
  refine⟨_,c1::c2::c3::c4::(bs++bs'),rfl,?_,fun b hb=>?_,en,?_⟩
  ·simp only[List.nodup_cons,List.mem_cons,List.mem_append,not_or]
   exact⟨⟨d12,d13,d14,m1.2.1,m1.2.2.1⟩,⟨d23,d24,m2.2.1,m2.2.2.1⟩,⟨d34,m3.2.1,m3.2.2.1⟩,⟨m4.2.1,m4.2.2.1⟩,List.nodup_append.2 ⟨t.p1.nd,t.p2.nd,fun a ha b hb e=>f4 a ha (e▸hb)⟩⟩
  ·simp only[List.mem_cons,List.mem_append] at hb
   rcases hb with rfl|rfl|rfl|rfl|hb|hb
   ·exact m1.1
   ·exact m2.1
   ·exact m3.1
   ·exact m4.1
   ·exact f2 b hb
   ·exact f3 b hb
  ·rw[hof]
   have hR:∀k,FP (fun k=>((ok k∨W.heap.size≤k)∧k<lo')∧k ∉ bs) W2.heap.size gf k→(ok k∨W.heap.size≤k)∧k ∉ c1::c2::c3::c4::(bs++bs'):=fun k hk=>by
    obtain⟨q1,q2,q3,q4⟩:=two_fp t kf hin hk;refine⟨q1,fun hm=>?_⟩
    simp only[List.mem_cons,List.mem_append] at hm;rcases hm with rfl|rfl|rfl|rfl|hm|hm
    ·exact q4 (by simp)
    ·exact q4 (by simp)
    ·exact q4 (by simp)
    ·exact q4 (by simp)
    ·exact q2 hm
    ·exact q3 hm
   exact⟨c1,c2,c3,c4,u,v,bs,bs',rfl,rfl,own_p kf hR g1 rfl (fm_plain _),own_v kf _ g2 rfl t.hu,own_v kf _ g3 rfl t.hv,own_p kf hR g4 rfl (rec_plain _),hend.1,hend.2⟩
theorem fin_atom {k o:Int} {p:ByteArray} {n:N3} {b:Bool} {w:N3} (hof:ofF f=.atom (.mk k o p n [] b w)) (kf:Ok ok ⟨W,[],[]⟩ gf (Z7 (.mk k o p n [] b w)) a Wf):bodyPost Tryz.prog Tryz.f30 (Made2 f ok W) .ret a Wf:=by
 have ef:Ext W Wf []:=Ext.keep kf.below (fun c hc=>by cases hc);refine end_fn kf (F:=80) (is:=[1]) (by kernel_rfl) (fun cs hl hc=>?_)
 match cs,hl with
 |[c],_ =>
  have g1:=hc 0 1 c rfl rfl;have m1:=(kf.base c (List.mem_of_getElem? g1)).1.elim id (fun hx=>by cases hx);have m1:W.heap.size≤c:=m1;refine⟨_,[c],rfl,by simp,fun b hb=>by rw[List.mem_singleton.1 hb];exact m1,ef,?_⟩
  rw[hof];refine⟨c,rfl,rfl,own_p kf (fun k hk=>⟨hk.1,fun hm=>?_⟩) g1 rfl (fm_plain _)⟩
  rw[List.mem_singleton.1 hm] at hk;exact hk.2 (List.mem_of_getElem? g1)
end
theorem of_0 {ok:Nat→Prop} {W:World} {v:Value} (k o:Int) (p:ByteArray) (n:N3) (b:Bool) (w:N3) (hk:¬k=4∧¬k=5∧¬k=6∧¬k=7∧¬k=8∧¬k=9∧¬k=10) (hv:TG [] ok W (.agg (Fm.mk k o p n [] b w).c) v):Calls Tryz.prog 30 #[v] W (Made2 (.mk k o p n [] b w) ok W):=by
 refine of_start _ hv (fun g a W3 k3=>⟨0+1,of_out [] none_ (h0_at k o p n b w) rfl (by kernel_rfl) k3 (fun g' a' W4 k4=>?_)⟩)
 show (restC Tryz.f30).wp _ _ _ _
 exact z_atom k o p n b w hk _ _ _ _ _ _ k4 (fun g'' a'' W5 k5=>fin_atom (by simp only[ofF,ofL,ofK]) k5)
theorem of_1 {x:Fm} (hM:Makes x) {ok:Nat→Prop} {W:World} {v:Value} (k o:Int) (p:ByteArray) (n:N3) (b:Bool) (w:N3) (hv:TG [] ok W (.agg (Fm.mk k o p n [x] b w).c) v)
  (h:∀bf u bs lo W1 g' a' W2,W.heap.size≤W1.heap.size→W.heap.size≤bf→bf<lo→lo≤W1.heap.size→Part ok W [some bf] x u bs lo W1→Ext W W1 []→u.oneCell'=true→Ok (fun k=>(ok k∨W.heap.size≤k)∧k<lo) ⟨W1,[some bf],[]⟩ g' (K2 (.mk k o p n [x] b w) u 1) a' W2→(restC Tryz.f30).wp Tryz.prog (bodyPost Tryz.prog Tryz.f30 (Made2 (.mk k o p n [x] b w) ok W)) a' W2) :
  Calls Tryz.prog 30 #[v] W (Made2 (.mk k o p n [x] b w) ok W):=by
 refine of_start _ hv (fun g a W3 k3=>⟨(0+1)+1,of_first hM k o p n [] b w (0+1) k3 (fun bf u bs lo W1 g' a' W2 h1 h2 h3 hp e1 hu k4=>?_)⟩)
 refine of_out [[.v u]] (row1 u) (h2_at k o p n [x] b w u) rfl (by kernel_rfl) k4 (fun g'' a'' W5 k5=>?_)
 show (restC Tryz.f30).wp _ _ _ _
 exact h bf u bs lo W1 g'' a'' W5 e1.size h1 h2 h3 hp e1 hu k5
theorem of_2 {x y:Fm} (hM:Makes x) (hN:Makes y) {ok:Nat→Prop} {W:World} {v:Value} (k o:Int) (p:ByteArray) (n:N3) (b:Bool) (w:N3) (hv:TG [] ok W (.agg (Fm.mk k o p n [x,y] b w).c) v)
  (h:∀bf u bs lo W1 br u' bs' lo' W2 g' a' W4,Two ok W W1 W2 bf lo br lo' x y u u' bs bs'→Ok (fun k=>((ok k∨W.heap.size≤k)∧k<lo')∧k ∉ bs) ⟨W2,[some bf,some br],[]⟩ g' (L2 (.mk k o p n [x,y] b w) u u' 2) a' W4→(restC Tryz.f30).wp Tryz.prog (bodyPost Tryz.prog Tryz.f30 (Made2 (.mk k o p n [x,y] b w) ok W)) a' W4) :
  Calls Tryz.prog 30 #[v] W (Made2 (.mk k o p n [x,y] b w) ok W):=by
 refine of_start _ hv (fun g a W3 k3=>⟨((0+1)+1)+1,of_first hM k o p n [y] b w ((0+1)+1) k3 (fun bf u bs lo W1 g' a' W2 h1 h2 h3 hp e1 hu k4=>?_)⟩)
 refine of_second hN k o p n b w (0+1) e1.size h2 h3 bs (fun b hb=>⟨hp.lo b hb,hp.has.lt b hb⟩) k4 (fun br u' bs' lo' W5 g5 a5 W6 j1 j2 j3 hp2 e2 hu2 k5=>?_)
 refine of_out [[.v u,.v u']] (row2 u u') (h3_at k o p n [x,y] b w u u') rfl (by kernel_rfl) k5 (fun g'' a'' W7 k6=>?_)
 show (restC Tryz.f30).wp _ _ _ _
 exact h bf u bs lo W1 br u' bs' lo' W5 g'' a'' W7 ⟨e1.size,h1,h2,h3,j1,j2,j3,hp,hp2,e1,e2,hu,hu2⟩ k6
theorem makesF {f:Fm} (hg:Good f):Makes f:=by
 induction hg with
 | @mk k o p n a b w hn hw hl ha ih =>
   intro ok W v hv
   match a,hl,ih with
   |[],hl,_ =>
    have hk:¬k=4∧¬k=5∧¬k=6∧¬k=7∧¬k=8∧¬k=9∧¬k=10:=by
     unfold arity at hl;split at hl
     ·simp at hl
     ·split at hl
      ·simp at hl
      ·omega
    exact of_0 k o p n b w hk hv
   |[x],hl,ih =>
    have hx:=ih x (by simp);have hk:k=4∨k=7∨k=8∨k=9:=by
     unfold arity at hl;split at hl
     ·assumption
     ·split at hl<;>simp at hl
    refine of_1 hx k o p n b w hv (fun bf u bs lo W1 g' a' W2 h0 h1 h2 h3 hp e1 hu k4=>?_)
    rcases hk with rfl|rfl|rfl|rfl
    ·exact z_not o p n [x] b w u _ _ _ _ _ _ k4 (fun g a W5 k5=>fin_not h0 h1 h2 h3 hp e1 hu (by simp[ofF,ofL,ofK,Fm.kind]) k5)
    ·exact z_prev o p n [x] b w u _ _ _ _ _ _ k4 (fun g a W5 k5=>fin_prev h0 h1 h2 h3 hp e1 hu (by simp[ofF,ofL,ofK,Fm.kind]) k5)
    ·exact z_once o p n [x] b w u _ _ _ _ _ _ k4 (fun g a W5 k5=>fin_once h0 h1 h2 h3 hp e1 hu (by simp[ofF,ofL,ofK,Fm.kind]) k5)
    ·exact z_always o p n [x] b w u _ _ _ _ _ _ k4 (fun g a W5 k5=>fin_always h0 h1 h2 h3 hp e1 hu (by simp[ofF,ofL,ofK,Fm.kind]) k5)
   |[x,y],hl,ih =>
    have hx:=ih x (by simp);have hy:=ih y (by simp);have hk:k=5∨k=6∨k=10:=by
     unfold arity at hl;split at hl
     ·simp at hl
     ·split at hl
      ·assumption
      ·simp at hl
    refine of_2 hx hy k o p n b w hv (fun bf u bs lo W1 br u' bs' lo' W2 g' a' W4 t k4=>?_)
    rcases hk with rfl|rfl|rfl
    ·exact z_and o p n [x,y] b w u u' _ _ _ _ _ _ k4 (fun g a W5 k5=>fin_both true t (by simp[ofF,ofL,ofK,Fm.kind]) k5)
    ·exact z_or o p n [x,y] b w u u' _ _ _ _ _ _ k4 (fun g a W5 k5=>fin_both false t (by simp[ofF,ofL,ofK,Fm.kind]) k5)
    ·exact z_since o p n [x,y] b w u u' _ _ _ _ _ _ k4 (fun g a W5 k5=>fin_since t (by simp[ofF,ofL,ofK,Fm.kind]) k5)
   |x::y::z::r,hl,_ =>
    exfalso
    unfold arity at hl;simp only[List.length_cons] at hl;split at hl
    ·omega
    ·split at hl<;>omega
end
section
def rowZ (ops:Array Oper) (z cx cy:Nat) (i:Nat) (e:Ent):List Rs×List Rs:=(bif Nat.beq i z then Rs.reg cx::Rs.reg cy::e.reads ops else e.reads ops,e.u.writes)
def chkZ (B:List Nat) (ops:Array Oper) (z cx cy:Nat) (es:List Ent):Bool:=(es.all fun e=>Nat.beq e.nx 0&&(e.u.sets.isEmpty&&e.u.fresh.isEmpty))&&apartB B (es.mapIdx (rowZ ops z cx cy))
theorem drawn_gen {P:Program} {L:Lays} (hL:LaysOk P L) (hm:P.follows .mixedOrders=true) {R:Nat→Prop} {x:Wt} {id:Nat} {ops ops':Array Oper} {z cx cy d:Nat} {oz oz':Oper} {u:Value} {l:List Nat} {c1:AC} {e:En} {s:St} (q:St) (pf:List (Prf P)) {a0:Act} {W0:World} {Q:Exit→Act→World→Prop}
  (hck:(waitsOk (rtab .any ops).2 (bitsT (rtab .any ops).2 0 [])&&baseOk (rtab .any ops).2 (List.range ops.size))=true) (hzlt:z<ops.size) (hz:ops[z]?=some oz) (hz':ops'[z]?=some oz') (hsz:ops'.size=ops.size) (hops:∀i,i<ops.size→i≠z→ops'[i]?=ops[i]?) (hop2:∀i:Nat,(ops'[i]?).bind (·.dst)=(ops[i]?).bind (·.dst))
  (hgd:oz'.guard=oz.guard) (hd:oz.dst=some d) (hd':oz'.dst=some d)
  (hown:s.own=[]) (hfix:s.fix=0)
  (h:(match traceL L ops' 0 0 ops'.toList s (Prf.ans pf) with
    |some (es,s1,as1,ds)=>(some (s1,as1,ds,chkZ (bitsT (rtab .any ops).2 0 []) ops' z cx cy es,(es[z]?).map fun e=>(e.s.regs[cx]?,e.s.regs[cy]?,e.u.d,e.u.v)):Option (St×List Ans×List Dem×Bool×Option (Option (Option AV)×Option (Option AV)×Option Tmp×Option AV)))
    |none=>none)=some (q,[],Prf.dem pf,true,some (some (some (.g (.one c1))),some (some (.g (.agg e.c))),some d,some (.g (truth (x.run e).1)))))
  (hr:RegsOk [] R W0 s.regs a0.tmps) (hdf:a0.defers=[]) (hnew:∀k,W0.heap.size≤k→R k) (ha:Has R W0 x u l) (hRl:∀b∈l,¬R b)
  (hop:∀(a:Act) (W:World) (K:Act→World→Prop),TG [] R W (.one c1) (a.eval (.tmp cx))→TG [] R W (.agg e.c) (a.eval (.tmp cy))→Has R W x u l→(∀k,W.heap.size≤k→R k)→(∀W',Has R W' (x.run e).2 u l→Ext W W' l→K (a.put oz.dst (.bool (x.run e).1)) W')→oz.wp P a W K Q)
  (hQ:∀a W,RegsOk [] R W q.regs a.tmps→a.defers=[]→Ext W0 W l→Has R W (x.run e).2 u l→Q .normal a W):(Code.region id ops true).wp P Q a0 W0:=by
 split at h
 ·rename_i es s1 as1 ds1 ht
  injection h with h;obtain⟨e1,e2,e3,e4,e5⟩:s1=q∧as1=[]∧ds1=Prf.dem pf∧chkZ (bitsT (rtab .any ops).2 0 []) ops' z cx cy es=true∧((es[z]?).map fun e=>(e.s.regs[cx]?,e.s.regs[cy]?,e.u.d,e.u.v))=some (some (some (.g (.one c1))),some (some (.g (.agg e.c))),some d,some (.g (truth (x.run e).1))):=by
   injection h with h1 h;injection h with h2 h;injection h with h3 h;injection h with h4 h5;exact⟨h1,h2,h3,h4,h5⟩
  subst e1 e2 e3;obtain⟨t1,t2,t4⟩:=trace_at ht (Prf.sos pf);unfold chkZ at e4;rw[Bool.and_eq_true] at e4;obtain⟨hpure,hap⟩:=e4;have hn:es.length=ops.size:=by
   have:=congrArg List.length t1;simpa[hsz] using this
  have bare0:∀(j:Nat) e,es[j]?=some e→e.nx=0∧e.u.sets=[]∧e.u.fresh=[]:=fun j e he=>by
   have:=List.all_eq_true.1 hpure e (List.mem_of_getElem? he);rw[Bool.and_eq_true,Bool.and_eq_true,List.isEmpty_iff,List.isEmpty_iff] at this;exact⟨Nat.eq_of_beq_eq_true this.1,this.2⟩
  have bare:∀(j:Nat) e,es[j]?=some e→e.u.sets=[]∧e.u.fresh=[]:=fun j e he=>(bare0 j e he).2
  have hfit:FitL (es.map (·.u)) s:=by
   intro v hv p hp;obtain⟨e,hee,rfl⟩:=List.mem_map.1 hv;obtain⟨j,hj⟩:=List.mem_iff_getElem?.1 hee;rw[(bare j e hj).1] at hp;cases hp
  have selown:∀(us:List Upd) (b:Nat→Bool) (s:St),(∀u∈us,u.sets=[])→(appSel b us s).own=s.own∧(appSel b us s).fix=s.fix:=by
   intro us
   induction us with
   |nil=>intro b s _;exact⟨rfl,rfl⟩
   |cons u r ih =>
    intro b s hu;unfold appSel;obtain⟨h1,h2⟩:=ih (fun n=>b (n+1)) (bif b 0 then s.app u else s) (fun v hv=>hu v (List.mem_cons_of_mem _ hv));rw[h1,h2];cases b 0 with
    |false=>exact⟨rfl,rfl⟩
    |true =>
     simp only[cond_true];refine⟨?_,app_fix⟩
     unfold St.app;rw[put_own,hu u List.mem_cons_self];rfl
  have hus0:∀v∈es.map (·.u),v.sets=[]:=fun v hv=>by
   obtain⟨e,hee,rfl⟩:=List.mem_map.1 hv;obtain⟨j,hj⟩:=List.mem_iff_getElem?.1 hee;exact (bare j e hj).1
  refine regionV hm hck (fun b a W=>RegsOk [] R W (appSel b (es.map (·.u)) s).regs a.tmps∧a.defers=[]∧Ext W0 W l∧Has R W (bif b z then (x.run e).2 else x) u l) ⟨?_,hdf,Ext.drew,ha.ext (Ext.drew (bs:=[])) (fun b h=>by cases h) (fun c _ h=>by cases h)⟩ ?_ (fun b a W hb hI=>?_)
  ·rw[sel_none (es.map (·.u)) (fun _=>false) s (fun _=>rfl)]
   exact hr.mv ⟨fun _ _ h=>h,fun _ _ _=>rfl,fun _ h _=>h,fun i b cur e hb=>by cases hb⟩
  ·intro i hi b a W hI hbi hon hoff
   obtain⟨hregs,hdf',hext,hhas⟩:=hI;have hes:es[i]?=some es[i]:=List.getElem?_eq_getElem (by omega);generalize es[i]=ee at hes;obtain⟨hs,as3,ds2,hst,hsos⟩:=t4 i ee hes;have hcon:∀j,(List.range ops.size).contains j=true↔j<ops.size:=fun j=>by rw[List.contains_iff_mem,List.mem_range]
   have hrow:∀{j:Nat} {ej:Ent},es[j]?=some ej→(es.mapIdx (rowZ ops' z cx cy))[j]?=some (rowZ ops' z cx cy j ej):=fun {j ej} hj=>by rw[List.getElem?_mapIdx,hj];rfl
   have hus:(es.map (·.u))[i]?=some ee.u:=by rw[List.getElem?_map,hes];rfl
   have hread:∀y∈(rowZ ops' z cx cy i ee).1,Agree (appSel b (es.map (·.u)) s) ee.s y:=by
    intro y hy;rw[hs];refine sel_pre _ b i s s rfl hfit hfit Agree.refl (fun j v hj hyv=>?_)
    rw[List.getElem?_map] at hj;obtain⟨ej,hej,rfl⟩:=Option.map_eq_some_iff.1 hj;have hjl:j<ops.size:=by rw[←hn];exact (List.getElem?_eq_some_iff.1 hej).1
    rcases Nat.lt_trichotomy j i with hlt|heq|hgt
    ·have:=apart2_at (x:=y) (apartB_at hap hlt (hrow hej) (hrow hes)) (.inl ⟨hyv,.inl hy⟩)
     rw[hon j (by rw[Bool.and_eq_true];exact⟨(hcon j).2 hjl,this⟩)];simp[hlt]
    ·subst heq
     rw[hbi];simp
    ·have:=apart2_at (x:=y) (apartB_at hap hgt (hrow hes) (hrow hej)) (.inr ⟨hyv,hy⟩)
     rw[hoff j (by rw[Bool.and_eq_true];exact⟨(hcon j).2 hjl,this⟩)];simp;omega
   have hreads:∀y∈ee.reads ops',y∈(rowZ ops' z cx cy i ee).1:=fun y hy=>by
    unfold rowZ;cases Nat.beq i z with
    |true=>exact List.mem_cons_of_mem _ (List.mem_cons_of_mem _ hy)
    |false=>exact hy
   have hst2:=step1_like (s:=ee.s) (s':=appSel b (es.map (·.u)) s) hst (fun y hy=>hread y (hreads y hy));have hup:=sel_up (es.map (·.u)) b i s ee.u hus hbi hfit (fun j v hj hij hbj y hy hyv=>by
    rw[List.getElem?_map] at hj;obtain⟨ej,hej,rfl⟩:=Option.map_eq_some_iff.1 hj;have hjl:j<ops.size:=by rw[←hn];exact (List.getElem?_eq_some_iff.1 hej).1
    have:=apart2_at (x:=y) (apartB_at hap hij (hrow hes) (hrow hej)) (.inl ⟨hy,.inr hyv⟩);rw[hoff j (by rw[Bool.and_eq_true];exact⟨(hcon j).2 hjl,this⟩)] at hbj;cases hbj)
   obtain⟨so1,so2⟩:=selown (es.map (·.u)) b s hus0;obtain⟨b1,b2⟩:=bare i ee hes;have hok1:Ok R ⟨W,[],[]⟩ [] (appSel b (es.map (·.u)) s) a W:=by
    refine⟨hregs.mv ⟨fun _ _ h=>h,fun _ _ _=>rfl,fun k hk _=>⟨.inl hk,by simp⟩,fun i b cur e hb=>by cases hb⟩,⟨by rw[so1,hown];rfl,fun i m cs b hi=>by rw[so1,hown] at hi;cases hi⟩,(fun i j b hi=>by cases hi),fun b hb=>(by cases hb),Keep.refl _,hdf',⟨by rw[so2,hfix];rfl,fun i hi=>by rw[so2,hfix] at hi;cases hi⟩,fun i b m cs hi=>(by cases hi),fun i m c cs hi=>by rw[so1,hown] at hi;cases hi⟩
   have hnewW:∀k,W.heap.size≤k→R k:=fun k hk=>hnew k (Nat.le_trans hext.size hk)
   by_cases hiz:i=z
   ·subst hiz
    rw[hes] at e5;injection e5 with e5;injection e5 with q1 e5;injection e5 with q2 e5;injection e5 with q3 q4;have rx:(appSel b (es.map (·.u)) s).regs[cx]?=some (some (.g (.one c1))):=(show (appSel b (es.map (·.u)) s).regs[cx]?=ee.s.regs[cx]? from hread (.reg cx) (by unfold rowZ;rw[Nat.beq_refl];exact List.mem_cons_self)).trans q1;have ry:(appSel b (es.map (·.u)) s).regs[cy]?=some (some (.g (.agg e.c))):=(show (appSel b (es.map (·.u)) s).regs[cy]?=ee.s.regs[cy]? from hread (.reg cy) (by unfold rowZ;rw[Nat.beq_refl];exact List.mem_cons_of_mem _ List.mem_cons_self)).trans q2;have hoi:ops'[i]?=some ee.o:=by
     have h1:(es.map (·.o))[i]?=some ee.o:=by rw[List.getElem?_map,hes];rfl
     rw[t1] at h1;simpa using h1
    have eo:ee.o=oz':=by rw[hz'] at hoi;cases hoi;rfl
    have hw:Region.wanted oz (yielded ops a.tmps)=true:=by
     have hwt:want (appSel b (es.map (·.u)) s) ops oz=want (appSel b (es.map (·.u)) s) ops' oz':=by
      unfold want;rw[hgd];split
      ·rfl
      ·rename_i j y hj
       rw[hop2 j]
     unfold step1 at hst2;rw[eo] at hst2;split at hst2
     ·cases hst2
     ·rename_i t ht2
      cases t with
      |true=>exact want_at (hwt.trans ht2) hok1.regs
      |false =>
       exfalso
       simp only[cond_false] at hst2;injection hst2 with hst2;injection hst2 with hst2 _;rw[←hst2] at q4;cases q4
    refine⟨oz,hz,fun K hK=>?_⟩
    rw[if_pos hw];have hu:TG [] R W (.one c1) (a.eval (.tmp cx)):=by
     have h5:TG [] (FP R W.heap.size []) W (.one c1) _:=hok1.reg rx;exact h5.mv ⟨fun _ _ h=>h,fun _ _ _=>rfl,fun k hk _=>hk.1.elim (fun h=>h) (hnewW k),fun i b cur e hb=>by cases hb⟩
    have hv:TG [] R W (.agg e.c) (a.eval (.tmp cy)):=by
     have h5:TG [] (FP R W.heap.size []) W (.agg e.c) _:=hok1.reg ry;exact h5.mv ⟨fun _ _ h=>h,fun _ _ _=>rfl,fun k hk _=>hk.1.elim (fun h=>h) (hnewW k),fun i b cur e hb=>by cases hb⟩
    have ha0:Has R W x u l:=by have:=hhas;rw[hbi] at this;exact this
    refine hop a W _ hu hv ha0 hnewW (fun W' h5 h6=>?_)
    rw[hd];refine hK _ _ ⟨?_,hdf',hext.trans h6,by rw[up_self];exact h5⟩
    rw[hup];have:(appSel b (es.map (·.u)) s).app ee.u=(appSel b (es.map (·.u)) s).put (some d) (some (.g (truth (x.run e).1))):=by
     unfold St.app;rw[b1,q3,q4];rfl
    rw[this];refine RegsOk.put (s:=appSel b (es.map (·.u)) s) (hregs.mv ⟨fun _ _ h=>h,fun k hk hlt=>h6.block k hlt (fun hm=>hRl k hm hk),fun _ h _=>h,fun i b cur e hb=>by cases hb⟩) (fun v hv=>?_)
    cases hv;exact TC.of_v (g:=[]) (ok:=R) (w:=W') rfl
   ·have hoi:ops[i]?=some ee.o:=by
     have h1:(es.map (·.o))[i]?=some ee.o:=by rw[List.getElem?_map,hes];rfl
     rw[t1] at h1;rw[←hops i hi hiz];simpa using h1
    refine⟨ee.o,hoi,fun K hK=>?_⟩
    have hwq:yielded ops' a.tmps=yielded ops a.tmps:=by
     funext j
     unfold yielded;rw[hop2 j]
    have st:=step1_at (Q:=Q) (N:=K) hL hok1 (.inl (by rw[so1,hown];exact (bare0 i ee hes).1)) hst2 hsos (fun g' v w' hgr hk'=>?_)
    ·rw[hwq] at st
     exact st
    ·refine hK _ _ ⟨?_,hk'.defers,hext.trans ((Ext.keep hk'.below (bs:=[]) (fun c hc=>nomatch hc)).mono (fun c hc=>nomatch hc)),?_⟩
     ·rw[hup]
      have hgl:g'=[]:=by
       have:g'.length=0:=by
        have:=hk'.own.1;rw[show ((appSel b (es.map (·.u)) s).app ee.u).own=[] by unfold St.app;rw[put_own,b1];show (setL (appSel b (es.map (·.u)) s).own [])=[];rw[so1,hown];rfl] at this;exact this.symm
       exact List.eq_nil_of_length_eq_zero this
      subst hgl;exact hk'.regs.mv ⟨fun _ _ h=>h,fun _ _ _=>rfl,fun k hk _=>hk.1.elim (fun h=>h) (hnewW k),fun i b cur e hb=>by cases hb⟩
     ·rw[up_ne (Ne.symm hiz)]
      exact hhas.ext (Ext.keep hk'.below (bs:=[]) (fun c hc=>nomatch hc)) (fun b h=>by cases h) (fun c _ h=>by cases h)
  ·obtain⟨h1,h2,h3,h4⟩:=hI
   rw[hb z hzlt] at h4;rw[sel_all _ b s (fun j hj=>hb j (by simpa[hn] using hj)),List.length_map,←t2] at h1;exact hQ a W h1 h2 h3 h4
 ·cases h
theorem drawn_obj {P:Program} {L:Lays} (hL:LaysOk P L) (hm:P.follows .mixedOrders=true) {R:Nat→Prop} {x:Wt} (hA:Acts P R x) {id:Nat} {ops ops':Array Oper} {z cx cy d:Nat} {oz oz':Oper} {ts:Array TypeId} {u:Value} {l:List Nat} {e:En} {s:St} (q:St) (pf:List (Prf P)) {a0:Act} {W0:World} {Q:Exit→Act→World→Prop}
  (hck:(waitsOk (rtab .any ops).2 (bitsT (rtab .any ops).2 0 [])&&baseOk (rtab .any ops).2 (List.range ops.size))=true) (hzlt:z<ops.size) (hz:ops[z]?=some oz) (hz':ops'[z]?=some oz') (hsz:ops'.size=ops.size) (hops:∀i,i<ops.size→i≠z→ops'[i]?=ops[i]?) (hop2:∀i:Nat,(ops'[i]?).bind (·.dst)=(ops[i]?).bind (·.dst))
  (hgd:oz'.guard=oz.guard) (hd:oz.dst=some d) (hd':oz'.dst=some d) (ho:oz.op=.call { callee:=.value (.tmp cx),args:=#[.tmp cy],argTypes:=ts })
  (hown:s.own=[]) (hfix:s.fix=0)
  (h:(match traceL L ops' 0 0 ops'.toList s (Prf.ans pf) with
    |some (es,s1,as1,ds)=>(some (s1,as1,ds,chkZ (bitsT (rtab .any ops).2 0 []) ops' z cx cy es,(es[z]?).map fun e=>(e.s.regs[cx]?,e.s.regs[cy]?,e.u.d,e.u.v)):Option (St×List Ans×List Dem×Bool×Option (Option (Option AV)×Option (Option AV)×Option Tmp×Option AV)))
    |none=>none)=some (q,[],Prf.dem pf,true,some (some (some (.g (.one (.v u)))),some (some (.g (.agg e.c))),some d,some (.g (truth (x.run e).1)))))
  (hr:RegsOk [] R W0 s.regs a0.tmps) (hdf:a0.defers=[]) (hnew:∀k,W0.heap.size≤k→R k) (ha:Has R W0 x u l) (hnd:l.Nodup) (hRl:∀b∈l,¬R b) (he:e.ok)
  (hQ:∀a W,RegsOk [] R W q.regs a.tmps→a.defers=[]→Ext W0 W l→Has R W (x.run e).2 u l→Q .normal a W):(Code.region id ops true).wp P Q a0 W0 :=
 drawn_gen hL hm q pf hck hzlt hz hz' hsz hops hop2 hgd hd hd' hown hfix h hr hdf hnew ha hRl (fun a W K hu hv hh hn hK=>obj_op hA ho (TC.v_eq (g:=[]) hu) hh hnd hRl hn he hv hK) hQ
end
section
def inst (ops:Array Oper) (z:Nat) (b:Bool):Array Oper:=(ops.toList.set z { ops.toList.getD z ⟨none,.move (.tmp 0),0, "",#[],none⟩ with op:=.move (.const (.bool b)) }).toArray
theorem inst_size {ops:Array Oper} {z:Nat} {b:Bool}:(inst ops z b).size=ops.size:=by simp[inst]
theorem inst_ne {ops:Array Oper} {z:Nat} {b:Bool}:∀i,i<ops.size→i≠z→(inst ops z b)[i]?=ops[i]?:=fun i hi hn=>by
 unfold inst;rw[List.getElem?_toArray,List.getElem?_set_ne (Ne.symm hn),Array.getElem?_toList]
theorem inst_z {ops:Array Oper} {z:Nat} {b:Bool} {o:Oper} (h:ops[z]?=some o):(inst ops z b)[z]?=some { o with op:=.move (.const (.bool b)) }:=by
 have hl:z<ops.toList.length:=by
  have:=(Array.getElem?_eq_some_iff.1 h).1;simpa using this
 unfold inst;rw[List.getElem?_toArray,List.getElem?_set_self hl,List.getD_eq_getElem?_getD,Array.getElem?_toList,h];rfl
theorem inst_dst {ops:Array Oper} {z:Nat} {b:Bool} {o:Oper} (h:ops[z]?=some o) (i:Nat):((inst ops z b)[i]?).bind (·.dst)=(ops[i]?).bind (·.dst):=by
 by_cases hi:i<ops.size
 ·by_cases hz:i=z
  ·rw[hz,inst_z h,h];rfl
  ·rw[inst_ne i hi hz]
 ·rw[Array.getElem?_eq_none (by rw[inst_size];omega),Array.getElem?_eq_none (by omega)]
def trS (L:Lays) (ops:Array Oper) (s:St) (az:List Ans):St:=match traceL L ops 0 0 ops.toList s az with
 |some (_,s1,_,_)=>s1
 |none=>s
def N0 (u:Value) (e:En):St:=⟨sparse 22 [(0,.g (.one (.pe [.v u]))),(1,.g (.agg e.c))],[],0⟩
def N1 (u:Value) (e:En):St:=⟨sparse 22 [(0,.g (.one (.pe [.v u]))),(3,.g (.one (.ptr 0 0))),(4,.g (truth false))],[some (false,e.c)],0⟩
def N2 (u:Value) (e:En):St:=⟨sparse 22 [(0,.g (.one (.pe [.v u]))),(3,.g (.one (.pe e.c)))],[],0⟩
theorem n0_at (u:Value) (e:En):CodeCon Tryz.prog (rg Tryz.f15 0) (N0 u e) .normal (N1 u e):=atU _ _ [] (by kernel_rfl)
def pf2:List (Prf Tryz.prog):=[ends (rfl:true=true),ends (rfl:true=true)]
theorem next_calls {R:Nat→Prop} {x:Wt} (hA:Acts Tryz.prog R x) {W:World} {u w v:Value} {bs:List Nat} {e:En} (ha:Has R W x u bs) (hnd:bs.Nodup) (hR:∀b∈bs,¬R b) (hnew:∀k,W.heap.size≤k→R k) (he:e.ok) (hw:TG [] R W (.one (.pe [.v u])) w) (hv:TG [] R W (.agg e.c) v) :
  Calls Tryz.prog 15 #[w,v] W fun r W'=>r=.returned (.bool (x.run e).1)∧Has R W' (x.run e).2 u bs∧Ext W W' bs:=by
 have eb:Tryz.f15.body=some (.seq (rg Tryz.f15 0) (.seq (.region 1 (opsR (rg Tryz.f15 1)) true) .ret)):=by kernel_rfl
 refine calls_of_wp Tryz.func15 eb ?_
 rw[show Tryz.f15.ntmps=22 by kernel_rfl];have mv0:Mv [] [] R (FP R W.heap.size []) W W:=⟨fun _ _ h=>h,fun _ _ _=>rfl,fun k hk _=>⟨.inl hk,by simp⟩,fun i b cur e hb=>by cases hb⟩;have k0:Ok R ⟨W,[],[]⟩ [] (N0 u e) ⟨#[w,v]++Array.replicate (22-(#[w,v]:Array Value).size) undef,[]⟩ W:=by
  refine⟨regs_sparse 22 (by simp) _ (fun q hq=>?_),⟨rfl,fun i m cs b hi=>by cases hi⟩,(fun i j b hi=>by cases hi),fun b hb=>(by cases hb),Keep.refl _,rfl,⟨rfl,fun i hi=>by cases hi⟩,fun i b m cs hi=>(by cases hi),fun i m c cs hi=>(by cases hi)⟩
  simp only[List.mem_cons,List.not_mem_nil,or_false] at hq;rcases hq with rfl|rfl
  ·exact⟨w,by rw[Array.getElem?_append_left (by simp)];rfl,TG.mv mv0 hw⟩
  ·exact⟨v,by rw[Array.getElem?_append_left (by simp)];rfl,TG.mv mv0 hv⟩
 refine wp_seq (n0_at u e _ _ _ _ _ _ k0 (fun g1 a1 W1 k1=>?_))
 show (Code.seq _ _).wp _ _ _ _
 have e1:Ext W W1 []:=Ext.keep k1.below (fun c hc=>by cases hc);have ha1:Has R W1 x u bs:=ha.ext e1 (fun b h=>by cases h) (fun c _ h=>by cases h);have hnew1:∀k,W1.heap.size≤k→R k:=fun k hk=>hnew k (Nat.le_trans e1.size hk)
 have k2:Ok R ⟨W1,[],[]⟩ [] (N2 u e) a1 W1:=k1.fresh hnew [] 22 [(0,.g (.one (.pe [.v u]))),(3,.g (.one (.pe e.c)))] rfl rfl (by simp) (fun q hq=>by cases hq) (fun i q hi=>by cases hi) (fun q hq=>by
  simp only[List.mem_cons,List.not_mem_nil,or_false] at hq;rcases hq with rfl|rfl
  ·exact .inl ⟨rfl,rfl⟩
  ·exact .inr ⟨0,e.c,_,rfl,rfl,rfl,Nat.zero_le _,en_plain e⟩)
 have hz:(opsR (rg Tryz.f15 1))[15]?=some (opAt (opsR (rg Tryz.f15 1)) 15):=by kernel_rfl
 obtain⟨fn,ca,hu⟩:∃fn ca,u=.func (.func fn) #[] ca:=by
  obtain⟨fn,ca,hu,_⟩:=hA W u bs e v ha hnd hR hnew he hv;exact⟨fn,ca,hu⟩
 have htr:(match traceL LU (inst (opsR (rg Tryz.f15 1)) 15 (x.run e).1) 0 0 (inst (opsR (rg Tryz.f15 1)) 15 (x.run e).1).toList (N2 u e) (Prf.ans (pf2:List (Prf Tryz.prog))) with
   |some (es,s1,as1,ds)=>(some (s1,as1,ds,chkZ (bitsT (rtab .any (opsR (rg Tryz.f15 1))).2 0 []) (inst (opsR (rg Tryz.f15 1)) 15 (x.run e).1) 15 18 19 es,(es[15]?).map fun e=>(e.s.regs[18]?,e.s.regs[19]?,e.u.d,e.u.v)):Option (St×List Ans×List Dem×Bool×Option (Option (Option AV)×Option (Option AV)×Option Tmp×Option AV)))
   |none=>none)=some (trS LU (inst (opsR (rg Tryz.f15 1)) 15 (x.run e).1) (N2 u e) (Prf.ans pf2),[],Prf.dem (pf2:List (Prf Tryz.prog)),true,some (some (some (.g (.one (.v u)))),some (some (.g (.agg e.c))),some 20,some (.g (truth (x.run e).1)))):=by
  subst hu;generalize (x.run e).1=b
  kernel_rfl
 have hlast:(trS LU (inst (opsR (rg Tryz.f15 1)) 15 (x.run e).1) (N2 u e) (Prf.ans pf2)).regs[4]?=some (some (.g (truth (x.run e).1))):=by
  subst hu;generalize (x.run e).1=b
  kernel_rfl
 refine wp_seq (drawn_obj (L:=LU) (P:=Tryz.prog) (ops':=inst (opsR (rg Tryz.f15 1)) 15 (x.run e).1) (z:=15) (cx:=18) (cy:=19) (d:=20) LU_ok (by kernel_rfl) hA (trS LU (inst (opsR (rg Tryz.f15 1)) 15 (x.run e).1) (N2 u e) (Prf.ans pf2)) pf2 (by kernel_rfl) (Array.getElem?_eq_some_iff.1 hz).1 hz (inst_z hz) inst_size inst_ne (inst_dst hz) rfl (by kernel_rfl) (by kernel_rfl) (ts:=#[48]) (by kernel_rfl) rfl rfl htr
  (k2.regs.mv ⟨fun _ _ h=>h,fun _ _ _=>rfl,fun k hk _=>hk.1.elim (fun h=>h) (hnew1 k),fun i b cur e hb=>by cases hb⟩) k1.defers hnew1 ha1 hnd hR he (fun a W3 h1 h2 h3 h4=>?_))
 refine wp_ret ?_
 obtain⟨r,hr,hT⟩:=h1.2 4 _ hlast;have:=TC.v_eq (g:=[]) (ok:=R) (w:=W3) hT;subst this;exact⟨h2,_,by simp[results,hr,go_sem],rfl,h4,(e1.mono (fun c hc=>by cases hc)).trans h3⟩
end
section
inductive Fine:Fm→Prop
 |mk {k o:Int} {p:ByteArray} {n:N3} {a:List Fm} {b:Bool} {w:N3}:n.ok→w.ok→a.length<4000000000000000000→(∀x∈a,Fine x)→Fine (.mk k o p n a b w)
theorem next_i (i:Nat) (h:i<4000000000000000000):IntKind.i64.wrap ((i:Int)+1)=((i+1:Nat):Int):=by rw[wr (by omega) (by omega)];omega
def strs (l:List ByteArray):AC:=.row 1 l.length (l.map fun b=>[.v (.string b)])
theorem strs_at {l:List ByteArray} {i:Nat} (h:i<l.length):(0:Int)≤(i:Int)∧(l.map fun b=>[AC.v (.string b)])[(i:Int).toNat]?=some [.v (.string l[i])]:=⟨by omega,by simp[h]⟩
def SX (l:List ByteArray) (p:ByteArray) (i:Int):St:=⟨sparse 19 [(0,.g (.one (strs l))),(1,.g (.one (.v (.string p)))),(7,.g (num l.length)),(8,.g (num i))],[],0⟩
def SXr (r:Int):St:=⟨sparse 19 [(4,.g (num r))],[],0⟩
theorem idxX (l:List ByteArray) (p:ByteArray) (hb:l.length<4000000000000000000):∀(d i:Nat),i+d=l.length →
  ((l.drop i).any (fun b=>p.toList==b.toList)=false→Rounds Tryz.prog (lp Tryz.f66 0) (SX l p i) (.exit 0) (SX l p l.length))∧((l.drop i).any (fun b=>p.toList==b.toList)=true→∃r:Nat,Rounds Tryz.prog (lp Tryz.f66 0) (SX l p i) .ret (SXr r))
 |0,i,h=>by
  have:i=l.length:=by omega
  subst this;refine⟨fun _=>Rounds.out (atU _ _ [ends (show decide ((l.length:Int)<(l.length:Int))=false by simp)] (by kernel_rfl)) (by simp),fun h=>?_⟩
  rw[List.drop_eq_nil_of_le (Nat.le_refl _)] at h;cases h
 |d+1,i,h=>by
  have hi:i<l.length:=by omega
  have ih:=idxX l p hb d (i+1) (by omega);have hlt:decide ((i:Int)<(l.length:Int))=true:=by rw[decide_eq_true_iff];omega
  rw[List.drop_eq_getElem_cons hi,List.any_cons];cases hp:p.toList==l[i].toList with
  |true=>exact⟨fun h=>by simp at h,fun _=>⟨i,Rounds.out (atU _ _ [ends hlt,elem (strs_at hi),ends hp] (by kernel_rfl)) (by simp)⟩⟩
  |false =>
   have step:=atU (c:=lp Tryz.f66 0) (p:=SX l p i) .normal (SX l p (IntKind.i64.wrap ((i:Int)+1))) [ends hlt,elem (strs_at hi),ends hp] (by kernel_rfl);rw[next_i i (by omega)] at step;refine⟨fun h=>(ih.1 (by simpa using h)).step' step,fun h=>?_⟩
   obtain⟨r,hr⟩:=ih.2 (by simpa using h);exact⟨r,hr.step' step⟩
theorem indexX (l:List ByteArray) (p:ByteArray) (hb:l.length<4000000000000000000):∃r:Int,decide (r≥0)=l.any (fun b=>p.toList==b.toList)∧Con Tryz.prog 66 [.one (strs l),.one (.v (.string p))] (.g (num r)):=by
 have h:=idxX l p hb l.length 0 (by omega);rw[List.drop_zero] at h;cases hp:l.any (fun b=>p.toList==b.toList) with
 |false=>exact⟨-1,rfl,byU _ Tryz.func66 rfl [goes (h.1 hp).loop] (by kernel_rfl)⟩
 |true =>
  obtain⟨r,hr⟩:=h.2 hp;exact⟨r,by simp,byU _ Tryz.func66 rfl [goes hr.loop] (by kernel_rfl)⟩
theorem containsX (l:List ByteArray) (p:ByteArray) (hb:l.length<4000000000000000000):Con Tryz.prog 41 [.one (strs l),.one (.v (.string p))] (.g (truth (l.any (fun b=>p.toList==b.toList)))):=by
 obtain⟨r,hr,h⟩:=indexX l p hb;exact (byU (.g (truth (decide (r≥0)))) Tryz.func41 rfl [gives h] (by kernel_rfl)).to (by rw[hr])
def fnR:AC:=.fn 42 [] [.ptr 0 0]
def SIR (a:List Fm) (d i:Int):St:=⟨sparse 19 [(0,.g (.one (frow a))),(1,.g (.one fnR)),(7,.g (num a.length)),(8,.g (num i))],[some (true,[.v (.int .i64 d)])],1⟩
def SRR (d r:Int):St:=⟨sparse 19 [(4,.g (num r))],[some (true,[.v (.int .i64 d)])],1⟩
theorem idxR (a:List Fm) (d:Int) (p:Fm→Bool) (hb:a.length<4000000000000000000) (hc:∀x∈a,Con Tryz.prog 42 [.agg x.c,.one (.pe [.v (.int .i64 d)])] (.g (truth (p x)))):∀(m i:Nat),i+m=a.length →
  ((a.drop i).any p=false→Rounds Tryz.prog (lp Tryz.f68 0) (SIR a d i) (.exit 0) (SIR a d a.length))∧((a.drop i).any p=true→∃r:Nat,Rounds Tryz.prog (lp Tryz.f68 0) (SIR a d i) .ret (SRR d r))
 |0,i,h=>by
  have:i=a.length:=by omega
  subst this;refine⟨fun _=>Rounds.out (atU _ _ [ends (show decide ((a.length:Int)<(a.length:Int))=false by simp)] (by kernel_rfl)) (by simp),fun h=>?_⟩
  rw[List.drop_eq_nil_of_le (Nat.le_refl _)] at h;cases h
 |m+1,i,h=>by
  have hi:i<a.length:=by omega
  have ih:=idxR a d p hb hc m (i+1) (by omega);have hlt:decide ((i:Int)<(a.length:Int))=true:=by rw[decide_eq_true_iff];omega
  have hC:=hc a[i] (List.getElem_mem hi);have hx:=fcs_at hi;rw[List.drop_eq_getElem_cons hi,List.any_cons];generalize a[i]=x at hC hx ⊢;obtain⟨k,o,op,nn,xs,b,w⟩:=x;cases hp:p (.mk k o op nn xs b w) with
  |true =>
   rw[hp] at hC;exact⟨fun h=>by simp at h,fun _=>⟨i,Rounds.out (atU _ _ [ends hlt,elem hx,gives hC,ends (rfl:true=true)] (by kernel_rfl)) (by simp)⟩⟩
  |false =>
   rw[hp] at hC;have step:=atU (c:=lp Tryz.f68 0) (p:=SIR a d i) .normal (SIR a d (IntKind.i64.wrap ((i:Int)+1))) [ends hlt,elem hx,gives hC,ends (rfl:false=false)] (by kernel_rfl);rw[next_i i (by omega)] at step;refine⟨fun h=>(ih.1 (by simpa using h)).step' step,fun h=>?_⟩
   obtain⟨r,hr⟩:=ih.2 (by simpa using h);exact⟨r,hr.step' step⟩
theorem indexR (a:List Fm) (d:Int) (p:Fm→Bool) (hb:a.length<4000000000000000000) (hc:∀x∈a,Con Tryz.prog 42 [.agg x.c,.one (.pe [.v (.int .i64 d)])] (.g (truth (p x)))):∃r:Int,decide (r≥0)=a.any p∧ConH Tryz.prog 68 [.one (frow a),.one fnR] [some (true,[.v (.int .i64 d)])] (.g (num r)) [some (true,[.v (.int .i64 d)])]:=by
 have h:=idxR a d p hb hc a.length 0 (by omega);rw[List.drop_zero] at h;cases hp:a.any p with
 |false=>exact⟨-1,rfl,byUH _ _ Tryz.func68 rfl [goes (h.1 hp).loop,out0] (by kernel_rfl)⟩
 |true =>
  obtain⟨r,hr⟩:=h.2 hp;exact⟨r,by simp,byUH _ _ Tryz.func68 rfl [goes hr.loop,out0] (by kernel_rfl)⟩
theorem containsR (a:List Fm) (d:Int) (p:Fm→Bool) (hb:a.length<4000000000000000000) (hc:∀x∈a,Con Tryz.prog 42 [.agg x.c,.one (.pe [.v (.int .i64 d)])] (.g (truth (p x)))):ConH Tryz.prog 44 [.one (frow a),.one fnR] [some (true,[.v (.int .i64 d)])] (.g (truth (a.any p))) [some (true,[.v (.int .i64 d)])]:=by
 obtain⟨r,hr,h⟩:=indexR a d p hb hc;rw[←hr];exact byUH (.g (truth (decide (r≥0)))) _ Tryz.func44 rfl [bare0,hands [0] [] h,out0] (by kernel_rfl)
end
section
def six:List ByteArray:=[⟨#[60]⟩,⟨#[60,61]⟩,⟨#[62]⟩,⟨#[62,61]⟩,⟨#[61,61]⟩,⟨#[33,61]⟩]
def kinds (k:Int) (p:ByteArray):Option Int:=if k=1∨k=3 then some 0 else if k=2 then (if six.any (fun b=>p.toList==b.toList) then some 0 else none) else if k=4∨k=7∨k=8∨k=9 then some 1 else if k=5∨k=6∨k=10 then some 2 else none
def rightN:Nat→Fm→Bool
 |0,_=>false
 |d+1,f=>match kinds f.kind f.op with
  |none=>false
  |some n=>((f.args.length:Int)==n)&&(decide (sgn f.within.q.num≥0)&&!f.args.any fun x=>!rightN d x)
def swC (fn:Func):Code:=match fn.body with
 |some (.seq _ (.seq _ (.seq (.seq _ b) _)))=>b
 |_=>.skip
def SW (f:Fm) (d:Int):St:=⟨sparse 51 [(2,.g (.one (.ptr 0 0))),(3,.g (.one (.ptr 1 0))),(5,.g (num 0)),(8,.g (num f.kind))],[some (false,f.c),some (false,[.v (.int .i64 d)])],0⟩
def SWq (f:Fm) (d n:Int):St:=⟨sparse 51 [(2,.g (.one (.ptr 0 0))),(3,.g (.one (.ptr 1 0))),(5,.g (num n))],[some (false,f.c),some (false,[.v (.int .i64 d)])],0⟩
def SWr (f:Fm) (d:Int):St:=⟨sparse 51 [(4,.g (truth false))],[some (false,f.c),some (false,[.v (.int .i64 d)])],0⟩
section
variable {o d:Int} {p:ByteArray} {n:N3} {a:List Fm} {b:Bool} {w:N3}
theorem sw1:CodeCon Tryz.prog (swC Tryz.f26) (SW (.mk 1 o p n a b w) d) .normal (SWq (.mk 1 o p n a b w) d 0):=atU _ _ [ends (rfl:true=true),ends (rfl:true=true)] (by kernel_rfl)
theorem sw3:CodeCon Tryz.prog (swC Tryz.f26) (SW (.mk 3 o p n a b w) d) .normal (SWq (.mk 3 o p n a b w) d 0):=atU _ _ [ends (rfl:false=false),ends (rfl:true=true)] (by kernel_rfl)
theorem sw4:CodeCon Tryz.prog (swC Tryz.f26) (SW (.mk 4 o p n a b w) d) .normal (SWq (.mk 4 o p n a b w) d 1):=atU _ _ [ends (rfl:false=false),ends (rfl:false=false),ends (rfl:false=false),ends (rfl:true=true),ends (rfl:true=true)] (by kernel_rfl)
theorem sw7:CodeCon Tryz.prog (swC Tryz.f26) (SW (.mk 7 o p n a b w) d) .normal (SWq (.mk 7 o p n a b w) d 1):=atU _ _ [ends (rfl:false=false),ends (rfl:false=false),ends (rfl:false=false),ends (rfl:false=false),ends (rfl:true=true),ends (rfl:true=true)] (by kernel_rfl)
theorem sw8:CodeCon Tryz.prog (swC Tryz.f26) (SW (.mk 8 o p n a b w) d) .normal (SWq (.mk 8 o p n a b w) d 1):=atU _ _ [ends (rfl:false=false),ends (rfl:false=false),ends (rfl:false=false),ends (rfl:false=false),ends (rfl:false=false),ends (rfl:true=true),ends (rfl:true=true)] (by kernel_rfl)
theorem sw9:CodeCon Tryz.prog (swC Tryz.f26) (SW (.mk 9 o p n a b w) d) .normal (SWq (.mk 9 o p n a b w) d 1):=atU _ _ [ends (rfl:false=false),ends (rfl:false=false),ends (rfl:false=false),ends (rfl:false=false),ends (rfl:false=false),ends (rfl:false=false),ends (rfl:true=true)] (by kernel_rfl)
theorem sw5:CodeCon Tryz.prog (swC Tryz.f26) (SW (.mk 5 o p n a b w) d) .normal (SWq (.mk 5 o p n a b w) d 2):=atU _ _ [ends (rfl:false=false),ends (rfl:false=false),ends (rfl:false=false),ends (rfl:false=false),ends (rfl:false=false),ends (rfl:false=false),ends (rfl:false=false),ends (rfl:true=true),ends (rfl:true=true)] (by kernel_rfl)
theorem sw6:CodeCon Tryz.prog (swC Tryz.f26) (SW (.mk 6 o p n a b w) d) .normal (SWq (.mk 6 o p n a b w) d 2):=atU _ _ [ends (rfl:false=false),ends (rfl:false=false),ends (rfl:false=false),ends (rfl:false=false),ends (rfl:false=false),ends (rfl:false=false),ends (rfl:false=false),ends (rfl:false=false),ends (rfl:true=true),ends (rfl:true=true)] (by kernel_rfl)
theorem sw10:CodeCon Tryz.prog (swC Tryz.f26) (SW (.mk 10 o p n a b w) d) .normal (SWq (.mk 10 o p n a b w) d 2):=atU _ _ [ends (rfl:false=false),ends (rfl:false=false),ends (rfl:false=false),ends (rfl:false=false),ends (rfl:false=false),ends (rfl:false=false),ends (rfl:false=false),ends (rfl:false=false),ends (rfl:false=false),ends (rfl:true=true)] (by kernel_rfl)
theorem sw2 (h:six.any (fun b=>p.toList==b.toList)=true):CodeCon Tryz.prog (swC Tryz.f26) (SW (.mk 2 o p n a b w) d) .normal (SWq (.mk 2 o p n a b w) d 0):=atU _ _ [ends (rfl:false=false),ends (rfl:false=false),ends (rfl:true=true),gives (containsX six p (by decide)),ends (nt h)] (by kernel_rfl)
theorem sw2f (h:six.any (fun b=>p.toList==b.toList)=false):CodeCon Tryz.prog (swC Tryz.f26) (SW (.mk 2 o p n a b w) d) .ret (SWr (.mk 2 o p n a b w) d):=atU _ _ [ends (rfl:false=false),ends (rfl:false=false),ends (rfl:true=true),gives (containsX six p (by decide)),ends (nf h)] (by kernel_rfl)
theorem sw0 {k:Int} (h1:¬k=1) (h3:¬k=3) (h2:¬k=2) (h4:¬k=4) (h7:¬k=7) (h8:¬k=8) (h9:¬k=9) (h5:¬k=5) (h6:¬k=6) (h10:¬k=10):CodeCon Tryz.prog (swC Tryz.f26) (SW (.mk k o p n a b w) d) .ret (SWr (.mk k o p n a b w) d):=atU _ _ [ends (eq_f h1),ends (eq_f h3),ends (eq_f h2),ends (eq_f h4),ends (eq_f h7),ends (eq_f h8),ends (eq_f h9),ends (eq_f h5),ends (eq_f h6),ends (eq_f h10)] (by kernel_rfl)
theorem r_bad {k:Int} (h:CodeCon Tryz.prog (swC Tryz.f26) (SW (.mk k o p n a b w) d) .ret (SWr (.mk k o p n a b w) d)):Con Tryz.prog 26 [.agg (Fm.mk k o p n a b w).c,num d] (.g (truth false)):=byU _ Tryz.func26 rfl [goes h 1] (by kernel_rfl)
theorem r_deep {k m:Int} (h:CodeCon Tryz.prog (swC Tryz.f26) (SW (.mk k o p n a b w) d) .normal (SWq (.mk k o p n a b w) d m)) (hd:decide (d>0)=false):Con Tryz.prog 26 [.agg (Fm.mk k o p n a b w).c,num d] (.g (truth false)):=byU _ Tryz.func26 rfl [goes h 1,ends hd,ends (rfl:false=false),ends (rfl:false=false)] (by kernel_rfl)
theorem r_many {k m:Int} (h:CodeCon Tryz.prog (swC Tryz.f26) (SW (.mk k o p n a b w) d) .normal (SWq (.mk k o p n a b w) d m)) (hd:decide (d>0)=true) (hl:((a.length:Int)==m)=false):Con Tryz.prog 26 [.agg (Fm.mk k o p n a b w).c,num d] (.g (truth false)):=byU _ Tryz.func26 rfl [goes h 1,ends hd,ends hl,ends (rfl:false=false)] (by kernel_rfl)
theorem r_sign {k m:Int} (h:CodeCon Tryz.prog (swC Tryz.f26) (SW (.mk k o p n a b w) d) .normal (SWq (.mk k o p n a b w) d m)) (hd:decide (d>0)=true) (hl:((a.length:Int)==m)=true) (hw:w.ok) (hs:decide (sgn w.q.num≥0)=false):Con Tryz.prog 26 [.agg (Fm.mk k o p n a b w).c,num d] (.g (truth false)):=byU _ Tryz.func26 rfl [goes h 1,ends hd,ends hl,gives (gSign (is_n hw)),ends hs] (by kernel_rfl)
theorem r_all {k m:Int} {q:Fm→Bool} (h:CodeCon Tryz.prog (swC Tryz.f26) (SW (.mk k o p n a b w) d) .normal (SWq (.mk k o p n a b w) d m)) (hd:decide (d>0)=true) (hl:((a.length:Int)==m)=true) (hw:w.ok) (hs:decide (sgn w.q.num≥0)=true) (hb:a.length<4000000000000000000) (hc:∀x∈a,Con Tryz.prog 42 [.agg x.c,.one (.pe [.v (.int .i64 d)])] (.g (truth (q x)))):Con Tryz.prog 26 [.agg (Fm.mk k o p n a b w).c,num d] (.g (truth (!a.any q))):=byU _ Tryz.func26 rfl [goes h 1,ends hd,ends hl,gives (gSign (is_n hw)),ends hs,bare0,hands [1] [] (containsR a d q hb hc)] (by kernel_rfl)
end
theorem right1 (x:Fm) (d:Int) (r:Bool) (h:Con Tryz.prog 26 [.agg x.c,num (IntKind.i64.wrap (d-1))] (.g (truth r))):Con Tryz.prog 42 [.agg x.c,.one (.pe [.v (.int .i64 d)])] (.g (truth (!r))):=by
 obtain⟨k,o,op,nn,xs,b,w⟩:=x;exact byU _ Tryz.func42 rfl [gives h] (by kernel_rfl)
theorem sw_all {k o d:Int} {p:ByteArray} {n:N3} {a:List Fm} {b:Bool} {w:N3}:(kinds k p=none∧CodeCon Tryz.prog (swC Tryz.f26) (SW (.mk k o p n a b w) d) .ret (SWr (.mk k o p n a b w) d))∨∃m,kinds k p=some m∧CodeCon Tryz.prog (swC Tryz.f26) (SW (.mk k o p n a b w) d) .normal (SWq (.mk k o p n a b w) d m):=by
 by_cases h1:k=1
 ·subst h1;exact .inr ⟨0,rfl,sw1⟩
 by_cases h3:k=3
 ·subst h3;exact .inr ⟨0,rfl,sw3⟩
 by_cases h2:k=2
 ·subst h2
  cases hp:six.any (fun b=>p.toList==b.toList) with
  |true=>exact .inr ⟨0,by unfold kinds;simp[hp],sw2 hp⟩
  |false=>exact .inl ⟨by unfold kinds;simp[hp],sw2f hp⟩
 by_cases h4:k=4
 ·subst h4;exact .inr ⟨1,rfl,sw4⟩
 by_cases h7:k=7
 ·subst h7;exact .inr ⟨1,rfl,sw7⟩
 by_cases h8:k=8
 ·subst h8;exact .inr ⟨1,rfl,sw8⟩
 by_cases h9:k=9
 ·subst h9;exact .inr ⟨1,rfl,sw9⟩
 by_cases h5:k=5
 ·subst h5;exact .inr ⟨2,rfl,sw5⟩
 by_cases h6:k=6
 ·subst h6;exact .inr ⟨2,rfl,sw6⟩
 by_cases h10:k=10
 ·subst h10;exact .inr ⟨2,rfl,sw10⟩
 exact .inl ⟨by unfold kinds;simp[h1,h3,h2,h4,h7,h8,h9,h5,h6,h10],sw0 h1 h3 h2 h4 h7 h8 h9 h5 h6 h10⟩
theorem right_con:∀(d:Nat) (f:Fm),d<4000000000000000000→Fine f→Con Tryz.prog 26 [.agg f.c,num d] (.g (truth (rightN d f)))
 |0,_,_,.mk (k:=k) (o:=o) (p:=p) (n:=n) (a:=a) (b:=b) (w:=w) hn hw ha hx=>by
  rcases sw_all (k:=k) (o:=o) (d:=0) (p:=p) (n:=n) (a:=a) (b:=b) (w:=w) with⟨_,h⟩|⟨m,_,h⟩
  ·exact r_bad h
  ·exact r_deep h rfl
 |d+1,_,hd,.mk (k:=k) (o:=o) (p:=p) (n:=n) (a:=a) (b:=b) (w:=w) hn hw ha hx=>by
  have hd1:decide (((d+1:Nat):Int)>0)=true:=by rw[decide_eq_true_iff];omega
  have e1:IntKind.i64.wrap (((d+1:Nat):Int)-1)=(d:Int):=by rw[wr (by omega) (by omega)];omega
  show Con Tryz.prog 26 _ (.g (truth (match kinds k p with
   |none=>false
   |some n=>((a.length:Int)==n)&&(decide (sgn w.q.num≥0)&&!a.any fun x=>!rightN d x))))
  rcases sw_all (k:=k) (o:=o) (d:=((d+1:Nat):Int)) (p:=p) (n:=n) (a:=a) (b:=b) (w:=w) with⟨e,h⟩|⟨m,e,h⟩
  ·rw[e]
   exact r_bad h
  ·rw[e]
   show Con Tryz.prog 26 _ (.g (truth (((a.length:Int)==m)&&(decide (sgn w.q.num≥0)&&!a.any fun x=>!rightN d x))))
   rcases bc ((a.length:Int)==m) with hl|hl
   ·rw[hl,Bool.true_and]
    rcases bc (decide (sgn w.q.num≥0)) with hs|hs
    ·rw[hs,Bool.true_and]
     exact r_all h hd1 hl hw hs ha (fun x hxa=>right1 x _ _ (by rw[e1];exact right_con d x (by omega) (hx x hxa)))
    ·rw[hs,Bool.false_and]
     exact r_sign h hd1 hl hw hs
   ·rw[hl,Bool.false_and]
    exact r_many h hd1 hl
theorem Right_con (f:Fm) (h:Fine f):Con Tryz.prog 10 [.agg f.c] (.g (truth (rightN 40 f))):=by
 have h1:=right_con 40 f (by decide) h;obtain⟨k,o,op,nn,xs,b,w⟩:=f;exact byU _ Tryz.func10 rfl [gives h1] (by kernel_rfl)
theorem Good.of:∀(d:Nat) {f:Fm},Fine f→rightN d f=true→Good f
 |0,_,_,h=>by cases h
 |d+1,_,.mk (k:=k) (o:=o) (p:=p) (n:=n) (a:=a) (b:=b) (w:=w) hn hw ha hx,h=>by
  have h:(match kinds k p with
   |none=>false
   |some n=>((a.length:Int)==n)&&(decide (sgn w.q.num≥0)&&!a.any fun x=>!rightN d x))=true:=h
  split at h
  ·cases h
  ·rename_i m hm
   rw[Bool.and_eq_true,Bool.and_eq_true,beq_iff_eq,Bool.not_eq_true',List.any_eq_false] at h;obtain⟨h1,_,h3⟩:=h;refine .mk hn hw ?_ (fun x hxa=>Good.of d (hx x hxa) (by have:=h3 x hxa;simpa using this))
   unfold kinds at hm;unfold arity;split at hm
   ·rename_i hk
    cases hm;rw[if_neg (by omega),if_neg (by omega)];omega
   ·split at hm
    ·rename_i hk
     split at hm
     ·cases hm
      rw[if_neg (by omega),if_neg (by omega)];omega
     ·cases hm
    ·split at hm
     ·rename_i hk
      cases hm;rw[if_pos hk];omega
     ·split at hm
      ·rename_i hk hk2
       cases hm;rw[if_neg hk,if_pos hk2];omega
      ·cases hm
end
section
def ens (l:List En):AC:=.row 5 l.length (l.map En.c)
theorem ens_at {l:List En} {i:Nat} (h:i<l.length):(0:Int)≤(i:Int)∧(l.map En.c)[(i:Int).toNat]?=some l[i].c:=⟨by omega,by simp[h]⟩
def fnE:AC:=.v (.func (.func 22) #[] #[])
theorem earlier_con (x y:En) (hx:x.ok) (hy:y.ok):Con Tryz.prog 22 [.agg x.c,.agg y.c] (.g (num (cmpR x.time.q y.time.q))):=byU _ Tryz.func22 rfl [gives (gCmp (is_n hx.time) (is_n hy.time))] (by kernel_rfl)
def srt (l:List En):Nat→Bool
 |0=>true
 |i+1=>match l[i+1]?,l[i]? with
  |some x,some y=>bif decide (cmpR x.time.q y.time.q<0) then false else srt l i
  |_,_=>true
def SS (l:List En) (i:Int):St:=⟨sparse 25 [(0,.g (.one (ens l))),(1,.g (.one fnE)),(5,.g (num i))],[],0⟩
def SSr (b:Bool):St:=⟨sparse 25 [(4,.g (truth b))],[],0⟩
theorem srt_at (l:List En) (hok:∀x∈l,x.ok) (hb:l.length<4000000000000000000):∀(i:Nat),i<l.length →
  (srt l i=true→Rounds Tryz.prog (lp Tryz.f24 0) (SS l i) (.exit 0) (SS l 0))∧(srt l i=false→Rounds Tryz.prog (lp Tryz.f24 0) (SS l i) .ret (SSr false))
 |0,hi=>⟨fun _=>Rounds.out (atU _ _ [ends (rfl:false=false)] (by kernel_rfl)) (by simp),fun h=>by cases h⟩
 |i+1,hi=>by
  have ih:=srt_at l hok hb i (by omega);have hgt:decide (((i+1:Nat):Int)>0)=true:=by rw[decide_eq_true_iff];omega
  have h1:=ens_at hi;have h2:=ens_at (l:=l) (i:=i) (by omega);have e2:IntKind.i64.wrap (((i+1:Nat):Int)-1)=(i:Int):=by rw[wr (by omega) (by omega)];omega
  have h2':(0:Int)≤IntKind.i64.wrap (((i+1:Nat):Int)-1)∧(l.map En.c)[(IntKind.i64.wrap (((i+1:Nat):Int)-1)).toNat]?=some l[i].c:=by rw[e2];exact h2
  have hC:=earlier_con l[i+1] l[i] (hok _ (List.getElem_mem _)) (hok _ (List.getElem_mem _));have es:srt l (i+1)=bif decide (cmpR l[i+1].time.q l[i].time.q<0) then false else srt l i:=by
   show (match l[i+1]?,l[i]? with
    |some x,some y=>bif decide (cmpR x.time.q y.time.q<0) then false else srt l i
    |_,_=>true)=_
   rw[List.getElem?_eq_getElem hi,List.getElem?_eq_getElem (by omega)]
  rw[es];rcases bc (decide (cmpR l[i+1].time.q l[i].time.q<0)) with hp|hp
  ·rw[hp]
   exact⟨fun h=>by simp at h,fun _=>Rounds.out (atU _ _ [ends hgt,elem h1,elem h2',gives hC,ends hp] (by kernel_rfl)) (by simp)⟩
  ·have step:=atU (c:=lp Tryz.f24 0) (p:=SS l ((i+1:Nat):Int)) .normal (SS l (IntKind.i64.wrap (((i+1:Nat):Int)-1))) [ends hgt,elem h1,elem h2',gives hC,ends hp] (by kernel_rfl)
   rw[e2] at step;rw[hp];exact⟨fun h=>(ih.1 h).step' step,fun h=>(ih.2 h).step' step⟩
def sortedF (l:List En):Bool:=srt l (l.length-1)
theorem sorted_con (l:List En) (hok:∀x∈l,x.ok) (hb:l.length<4000000000000000000):Con Tryz.prog 24 [.one (ens l),.one fnE] (.g (truth (sortedF l))):=by
 cases l with
 |nil =>
  have h:Rounds Tryz.prog (lp Tryz.f24 0) (SS [] (-1)) (.exit 0) ⟨sparse 25 [],[],0⟩:=Rounds.out (atU _ _ [ends (rfl:false=false)] (by kernel_rfl)) (by simp);exact byU (.g (truth true)) Tryz.func24 rfl [goes h.loop] (by kernel_rfl)
 |cons x r =>
  have h:=srt_at (x::r) hok hb ((x::r).length-1) (by simp);have e:IntKind.i64.wrap (((x::r).length:Int)-1)=(((x::r).length-1:Nat):Int):=by
   rw[wr (by omega) (by omega)];simp
  rw[←e] at h;unfold sortedF;cases hs:srt (x::r) ((x::r).length-1) with
  |true=>exact byU (.g (truth true)) Tryz.func24 rfl [goes (h.1 hs).loop] (by kernel_rfl)
  |false=>exact byU (.g (truth false)) Tryz.func24 rfl [goes (h.2 hs).loop] (by kernel_rfl)
end
section
def P0 (f:Fm):St:=⟨sparse 11 [(0,.g (.agg f.c))],[],0⟩
def P1 (f:Fm):St:=⟨sparse 11 [(1,.g (.one (.ptr 0 0)))],[some (false,f.c)],0⟩
def P2 (f:Fm) (b:Bool):St:=⟨sparse 11 [(1,.g (.one (.ptr 0 0))),(6,.g (truth b))],[some (false,f.c)],0⟩
def P3 (f:Fm):St:=⟨sparse 11 [(7,.g (.agg f.c))],[],0⟩
def P4 (u:Value):St:=⟨sparse 11 [(2,.g (.one (.ptr 0 0))),(3,.g (num 0))],[some (false,[.v u])],0⟩
theorem p0_at (f:Fm):CodeCon Tryz.prog (rg Tryz.f14 0) (P0 f) .normal (P1 f):=by
 obtain⟨k,o,p,n,a,b,w⟩:=f;exact atU _ _ [] (by kernel_rfl)
theorem p1_at (f:Fm) (h:Fine f):CodeCon Tryz.prog (rg Tryz.f14 1) (P1 f) .normal (P2 f (!rightN 40 f)):=by
 have h1:=Right_con f h;obtain⟨k,o,p,n,a,b,w⟩:=f;exact atU _ _ [gives h1] (by kernel_rfl)
theorem new_bad (f:Fm) (h:Fine f) (hr:rightN 40 f=false):Con Tryz.prog 14 [.agg f.c] (.tup [.one (.v (.pointer none)),num 1]):=by
 have h1:=Right_con f h;rw[hr] at h1;obtain⟨k,o,p,n,a,b,w⟩:=f;exact byU _ Tryz.func14 rfl [gives h1,ends (rfl:(!false)=true)] (by kernel_rfl)
section
variable {ok0:Nat→Prop} {w0:Base} {g:List (Option Nat)} {a:Act} {w:World}
theorem p3_pre (f:Fm) (b:Bool) (hok:Ok ok0 w0 g (P2 f b) a w):wpList Tryz.prog (opsR (rg Tryz.f14 3)) (fun e a' w1=>e=.normal∧∃g',Ok ok0 w0 g' (P3 f) a' w1) ((opsR (rg Tryz.f14 3)).toList.take 1) a w:=by
 obtain⟨k,o,p,n,x,y,z⟩:=f;exact seg_at LU_ok (i:=0) (P3 _) [] hok (by kernel_rfl)
theorem p3_post (f:Fm) (u:Value) (hok:Ok ok0 w0 g ((P3 f).put (some 8) (some (.g (.one (.v u))))) a w):wpList Tryz.prog (opsR (rg Tryz.f14 3)) (fun e a' w1=>e=.normal∧∃g',Ok ok0 w0 g' (P4 u) a' w1) ((opsR (rg Tryz.f14 3)).toList.drop 2) a w:=by
 obtain⟨k,o,p,n,x,y,z⟩:=f;exact seg_at LU_ok (i:=2) (P4 u) [] hok (by kernel_rfl)
end
def MadeW (f:Fm) (ok:Nat→Prop) (W:World) (r:Ending) (W':World):Prop:=∃bw u bs,r=.returned (.tuple #[pt bw,.int .i64 0])∧bs.Nodup∧(∀b∈bs,W.heap.size≤b)∧W.heap.size≤bw∧bw ∉ bs∧Ext W W' []∧Cel (fun k=>(ok k∨W.heap.size≤k)∧k ∉ bs) W' bw [.v u]∧Has (fun k=>(ok k∨W.heap.size≤k)∧k ∉ bs) W' (ofF f) u bs
theorem new_calls {ok:Nat→Prop} {W:World} {v:Value} (f:Fm) (h:Fine f) (hr:rightN 40 f=true) (hv:TG [] ok W (.agg f.c) v):Calls Tryz.prog 14 #[v] W (MadeW f ok W):=by
 have eb:Tryz.f14.body=some (.seq (rg Tryz.f14 0) (.seq (.seq (rg Tryz.f14 1) (.cond (.tmp 6) (.seq (rg Tryz.f14 2) .ret) .skip)) (.seq (.region 3 (opsR (rg Tryz.f14 3)) false) .ret))):=by kernel_rfl
 refine calls_of_wp Tryz.func14 eb ?_
 rw[show Tryz.f14.ntmps=11 by kernel_rfl];have k0:Ok ok ⟨W,[],[]⟩ [] (P0 f) ⟨#[v]++Array.replicate (11-(#[v]:Array Value).size) undef,[]⟩ W:=by
  refine⟨regs_sparse 11 (by simp) _ (fun q hq=>?_),⟨rfl,fun i m cs b hi=>by cases hi⟩,(fun i j b hi=>by cases hi),fun b hb=>(by cases hb),Keep.refl _,rfl,⟨rfl,fun i hi=>by cases hi⟩,fun i b m cs hi=>(by cases hi),fun i m c cs hi=>(by cases hi)⟩
  rw[List.mem_singleton.1 hq];refine⟨v,by rw[Array.getElem?_append_left (by simp)];rfl,?_⟩
  exact TG.mv ⟨fun _ _ h=>h,fun _ _ _=>rfl,fun k hk _=>⟨.inl hk,by simp⟩,fun i b cur e hb=>by cases hb⟩ hv
 refine wp_seq (p0_at f _ _ _ _ _ _ k0 (fun g1 a1 W1 k1=>?_))
 show (Code.seq _ _).wp _ _ _ _
 refine wp_seq (wp_seq (p1_at f h _ _ _ _ _ _ k1 (fun g2 a2 W2 k2=>?_)))
 rw[hr] at k2;refine wp_cond_false (k2.truth_at (t:=6) rfl) (wp_skip ?_)
 show (Code.seq _ _).wp _ _ _ _
 refine wp_seq (wp_region_list ?_)
 obtain⟨op,hop,h1,h2,h3⟩:∃op:Oper,(opsR (rg Tryz.f14 3)).toList.drop 1=op::(opsR (rg Tryz.f14 3)).toList.drop 2∧op.guard=none∧op.dst=some 8∧op.op=.call { callee:=.value (.func 30),args:=#[.tmp 7],argTypes:=#[29] } :=
  ⟨(opsR (rg Tryz.f14 3)).toList.getD 1 ⟨none,.move (.tmp 0),0, "",#[],none⟩,by kernel_rfl,by kernel_rfl,by kernel_rfl,by kernel_rfl⟩
 have hsp:(opsR (rg Tryz.f14 3)).toList=(opsR (rg Tryz.f14 3)).toList.take 1++op::(opsR (rg Tryz.f14 3)).toList.drop 2:=by rw[←hop,List.take_append_drop]
 conv=>arg 4;rw[hsp]
 refine list_seq (fun _ _ _ h=>h.1) (p3_pre f _ k2) ?_
 rintro a4 W4 ⟨_,g4,k4⟩
 have gl:g4=[]:=List.eq_nil_of_length_eq_zero k4.own.1.symm;subst gl;have e4:Ext W W4 []:=Ext.keep k4.below (fun c hc=>by cases hc);have hv4:TG [] (FP ok W.heap.size []) W4 (.agg f.c) (a4.eval (.tmp 7)):=k4.reg (t:=7) rfl;refine wpList_step fun N hN=>?_
 rw[if_pos (by unfold Region.wanted;rw[h1])];unfold Oper.wp;have hrun:(execOp a4.eval op).run Tryz.prog W4=(callFunc 30 #[a4.eval (.tmp 7)]).run Tryz.prog W4:=by
  have:=run_callFn (P:=Tryz.prog) (ρ:=a4.eval) (fn:=30) (ca:=#[]) (W:=W4) h3 rfl;rw[Array.append_empty] at this;exact this
 rw[hrun,enters_ Tryz.func30 (by kernel_rfl) rfl,Oper.upon_enter];refine (makesF (Good.of 40 h hr) _ W4 _ hv4).mono ?_
 rintro r W5 ⟨u,bs,rfl,hnd,hlo,he,hh⟩
 rw[h2];have k5:Ok (fun k=>ok k∨W.heap.size≤k) ⟨W5,[],[]⟩ [] ((P3 f).put (some 8) (some (.g (.one (.v u))))) (a4.put (some 8) u) W5:=by
  have k5:=k4.rebase (okB:=fun k=>ok k∨W.heap.size≤k) (a':=a4) (W':=W5) (ds:=[]) rfl k4.defers he.size (fun k hk hlt=>⟨he.block k hlt (fun h=>by cases h),hk.1⟩) (fun i b cur e hb=>by cases hb) (fun i b m cs hb=>by cases hb);refine k5.val (d:=some 8) (x:=some (.g (.one (.v u)))) (u:=u) (fun v hv=>?_)
  cases hv;exact TC.of_v (g:=[]) hh.one
 refine hN _ _ ?_
 have h7:=list_seq (Q':=Exit.then (Code.ret.wp Tryz.prog (bodyPost Tryz.prog Tryz.f14 (MadeW f ok W))) (bodyPost Tryz.prog Tryz.f14 (MadeW f ok W))) (ys:=[]) (fun _ _ _ h=>h.1) (p3_post f u k5) ?_
 ·rw[List.append_nil] at h7
  exact h7
 rintro a6 W6 ⟨_,g6,k6⟩
 show Code.ret.wp _ _ _ _
 refine wp_ret ?_
 obtain⟨r,hrr,us,rfl,hsz,hT⟩:=resV_at (fn:=Tryz.f14) (r:=.tup [.one (.ptr 0 0),num 0]) LU_ok k6 (by kernel_rfl);have hsz:us.size=2:=hsz;obtain⟨bw,hg,e1⟩:∃b,g6[0]?=some (some b)∧us[0]=.pointer (some ⟨b,0,none⟩):=hT 0 _ us[0] rfl (Array.getElem?_eq_getElem (by omega));have e2:us[1]=.int .i64 0:=TC.v_eq (g:=g6) (show TC g6 _ _ (.v (.int .i64 0)) us[1] from hT 1 _ us[1] rfl (Array.getElem?_eq_getElem (by omega)));have eu:us=#[pt bw,.int .i64 0]:=by
  apply Array.ext
  ·simp[hsz]
  ·intro i h1 h2
   match i,h2 with
   |0,_=>exact e1
   |1,_=>exact e2
 subst eu;have e6:Ext W5 W6 []:=Ext.keep k6.below (fun c hc=>by cases hc);have hbw:=(k6.base bw (List.mem_of_getElem? hg)).1.elim id (fun hx=>by cases hx);have hbw:W5.heap.size≤bw:=hbw;have hW4:W.heap.size≤W4.heap.size:=e4.size;have hW5:W4.heap.size≤W5.heap.size:=he.size;refine⟨k6.defers,_,hrr,bw,u,bs,rfl,hnd,fun b hb=>Nat.le_trans hW4 (hlo b hb),by omega,fun hm=>by have:=hh.lt bw hm;omega,(e4.trans he).trans e6,own_v k6 _ hg rfl hh.one,?_⟩
 refine (hh.ext e6 (fun b h=>by cases h) (fun c _ h=>by cases h)).foot (fun k _ hk=>⟨?_,hk.2⟩)
 rcases hk.1 with h|h
 ·exact h.1
 ·exact .inr (by omega)
end
section
def bcl (l:List Bool):List AC:=l.map fun b=>.v (.bool b)
def brow (l:List Bool):AC:=.row 1 l.length (l.map fun b=>[.v (.bool b)])
theorem bcl_plain (l:List Bool):Plain (bcl l):=fun c hc=>by
 obtain⟨b,_,rfl⟩:=List.mem_map.1 hc;rfl
theorem bcl1 (l:List Bool):∀cs∈[bcl l],Plain cs:=fun cs hc=>by rw[List.mem_singleton.1 hc];exact bcl_plain l
def runB:Wt→List En→List Bool
 |_,[]=>[]
 |x,e::r=>(x.run e).1::runB (x.run e).2 r
structure Tr where
 l:List En
 i:Int
 q:N3
 j:Int
def Tr.c (t:Tr):List AC:=[ens t.l,.v (.int .i64 t.i),.v (.bool t.q.1),limbs t.q.2.1,limbs t.q.2.2,.v (.int .i64 t.j)]
theorem tr_plain (t:Tr):Plain t.c:=fun c hc=>by
 simp only[Tr.c,List.mem_cons,List.not_mem_nil,or_false] at hc;rcases hc with rfl|rfl|rfl|rfl|rfl|rfl<;>rfl
def E0 (f:Fm) (t:Tr):St:=⟨sparse 41 [(0,.g (.agg f.c)),(1,.g (.agg t.c))],[],0⟩
def E1 (f:Fm) (t:Tr):St:=⟨sparse 41 [(2,.g (.one (.ptr 0 0))),(3,.g (.one (.ptr 1 0)))],[some (false,f.c),some (false,t.c)],0⟩
def E2 (f:Fm) (t:Tr):St:=⟨sparse 41 [(3,.g (.one (.ptr 0 0))),(13,.g (.agg f.c))],[some (false,t.c)],0⟩
def E3 (f:Fm) (t:Tr):St:=⟨sparse 41 [(3,.g (.one (.pe t.c))),(13,.g (.agg f.c))],[],0⟩
def E4 (t:Tr) (u:Value):St:=⟨sparse 41 [(3,.g (.one (.pe t.c))),(14,.tup [.one (.pe [.v u]),num 0])],[],0⟩
def E5 (t:Tr) (u:Value):St:=⟨sparse 41 [(3,.g (.one (.pe t.c))),(6,.g (.one (.pe [.v u]))),(7,.g (num 0))],[],0⟩
def E6 (t:Tr) (u:Value):St:=⟨sparse 41 [(3,.g (.one (.pe t.c))),(6,.g (.one (.pe [.v u]))),(7,.g (num 0)),(8,.g (.one fnE))],[],0⟩
def E7 (t:Tr) (u:Value) (b:Bool):St:=⟨sparse 41 [(3,.g (.one (.pe t.c))),(6,.g (.one (.pe [.v u]))),(25,.g (truth b))],[],0⟩
def E8:St:=⟨sparse 41 [(4,.g (.one nilS)),(5,.g (num 1))],[],0⟩
def E9 (t:Tr) (u:Value):St:=⟨sparse 41 [(3,.g (.one (.pe t.c))),(6,.g (.one (.pe [.v u]))),(9,.g (.one nilS))],[],0⟩
def G9 (t:Tr) (u:Value):St:=⟨sparse 41 [(6,.g (.one (.pe [.v u]))),(9,.g (.one nilS)),(27,.g (.one (ens t.l))),(28,.g (num t.l.length)),(29,.g (num 0))],[],0⟩
def F0 (t:Tr) (u:Value) (out:List Bool) (n:Nat) (i:Int):St:=⟨sparse 41 [(6,.g (.one (.pe [.v u]))),(9,.g (.one (.sl 0 4 1 n))),(27,.g (.one (ens t.l))),(28,.g (num t.l.length)),(29,.g (num i))],[some (true,bcl out)],1⟩
def F1 (t:Tr) (u:Value) (out:List Bool) (n:Nat) (i:Int) (e:En):St:=⟨sparse 41 [(6,.g (.one (.pe [.v u]))),(9,.g (.one (.sl 0 4 1 n))),(11,.g (.one (.ptr 1 0))),(27,.g (.one (ens t.l))),(28,.g (num t.l.length)),(29,.g (num i))],[some (true,bcl out),some (false,e.c)],1⟩
def F2 (t:Tr) (u:Value) (out:List Bool) (n:Nat) (i:Int) (e:En):St:=⟨sparse 41 [(6,.g (.one (.pe [.v u]))),(27,.g (.one (ens t.l))),(28,.g (num t.l.length)),(29,.g (num i)),(33,.g (.one (.sl 0 4 1 n))),(34,.g (.one (.pe [.v u]))),(35,.g (.agg e.c))],[some (true,bcl out)],1⟩
def F3 (t:Tr) (u:Value) (out:List Bool) (n:Nat) (i:Int):St:=⟨sparse 41 [(6,.g (.one (.pe [.v u]))),(9,.g (.one (.sl 1 4 1 n))),(27,.g (.one (ens t.l))),(28,.g (num t.l.length)),(29,.g (num i))],[none,some (true,bcl out)],1⟩
def F9 (out:List Bool) (n:Nat):St:=⟨sparse 41 [(4,.g (.one (.sl 0 4 1 n))),(5,.g (num 0))],[some (true,bcl out)],1⟩
theorem e0_at (f:Fm) (t:Tr):CodeCon Tryz.prog (rg Tryz.f7 0) (E0 f t) .normal (E1 f t):=by
 obtain⟨k,o,p,n,a,b,w⟩:=f;exact atU _ _ [] (by kernel_rfl)
theorem e5_at (t:Tr) (u:Value):CodeCon Tryz.prog (rg Tryz.f7 2) (E5 t u) .normal (E6 t u):=atU _ _ [] (by kernel_rfl)
theorem e6_at (t:Tr) (u:Value) (ht:∀x∈t.l,x.ok) (hb:t.l.length<4000000000000000000):CodeCon Tryz.prog (rg Tryz.f7 3) (E6 t u) .normal (E7 t u (!sortedF t.l)):=atU _ _ [ends (rfl:false=false),gives (sorted_con t.l ht hb)] (by kernel_rfl)
theorem e7_bad (t:Tr) (u:Value):CodeCon Tryz.prog (rg Tryz.f7 4) (E7 t u true) .normal E8:=atU _ _ [] (by kernel_rfl)
theorem e7_at (t:Tr) (u:Value) (b:Bool):CodeCon Tryz.prog (rg Tryz.f7 5) (E7 t u b) .normal (E9 t u):=atU _ _ [] (by kernel_rfl)
theorem e9_at (t:Tr) (u:Value):CodeCon Tryz.prog (rg Tryz.f7 6) (E9 t u) .normal (G9 t u):=atU _ _ [] (by kernel_rfl)
theorem f0_at (t:Tr) (u:Value) (out:List Bool) (n i:Nat):CodeCon Tryz.prog (rg Tryz.f7 7) (F0 t u out n i) .normal ((F0 t u out n i).put (some 30) (some (.g (truth (decide ((i:Int)<(t.l.length:Int))))))):=atUm [] _ _ [] [bcl out] (bcl1 out) (by kernel_rfl)
theorem f8_at (t:Tr) (u:Value) (out:List Bool) (n i:Nat) (h:i<t.l.length):CodeCon Tryz.prog (rg Tryz.f7 8) (F0 t u out n i) .normal (F1 t u out n i t.l[i]):=atUm [] _ _ [elem (ens_at h)] [bcl out] (bcl1 out) (by kernel_rfl)
theorem f10_at (t:Tr) (u:Value) (out:List Bool) (n:Nat) (i:Int):CodeCon Tryz.prog (rg Tryz.f7 10) (F3 t u out n i) .normal (F3 t u out n (IntKind.i64.wrap (i+1))):=atUm [] _ _ [] [bcl out] (bcl1 out) (by kernel_rfl)
theorem f11_at (t:Tr) (u:Value) (out:List Bool) (n:Nat) (i:Int):CodeCon Tryz.prog (rg Tryz.f7 11) (F0 t u out n i) .normal (F9 out n):=atUm [] _ _ [] [bcl out] (bcl1 out) (by kernel_rfl)
section
variable {ok0:Nat→Prop} {w0:Base} {g:List (Option Nat)} {a:Act} {w:World}
theorem e1_pre (f:Fm) (t:Tr) (hok:Ok ok0 w0 g (E1 f t) a w):wpList Tryz.prog (opsR (rg Tryz.f7 1)) (fun e a' w1=>e=.normal∧∃g',Ok ok0 w0 g' (E2 f t) a' w1) ((opsR (rg Tryz.f7 1)).toList.take 1) a w:=by
 obtain⟨k,o,p,n,x,y,z⟩:=f;exact seg_at LU_ok (i:=0) (E2 _ t) [] hok (by kernel_rfl)
theorem e4_post (t:Tr) (u:Value) (hok:Ok ok0 w0 g (E4 t u) a w):wpList Tryz.prog (opsR (rg Tryz.f7 1)) (fun e a' w1=>e=.normal∧∃g',Ok ok0 w0 g' (E5 t u) a' w1) ((opsR (rg Tryz.f7 1)).toList.drop 2) a w:=seg_at LU_ok (i:=2) (E5 t u) [] hok (by kernel_rfl)
theorem f1_pre (t:Tr) (u:Value) (out:List Bool) (n:Nat) (i:Int) (e:En) (hok:Ok ok0 w0 g (F1 t u out n i e) a w):wpList Tryz.prog (opsR (rg Tryz.f7 9)) (fun x a' w1=>x=.normal∧∃g',Ok ok0 w0 g' (F2 t u out n i e) a' w1) ((opsR (rg Tryz.f7 9)).toList.take 3) a w :=
 seg_m LU_ok (i:=0) (F2 t u out n i e) [] [] [bcl out] (bcl1 out) hok (by kernel_rfl)
theorem f2_post (t:Tr) (u:Value) (out:List Bool) (n:Nat) (i:Int) (e:En) (b:Bool) (hn:out.length=n) (hi:n<100000) (hok:Ok ok0 w0 g ((F2 t u out n i e).put (some 36) (some (.g (truth b)))) a w):wpList Tryz.prog (opsR (rg Tryz.f7 9)) (fun x a' w1=>x=.normal∧∃g',Ok ok0 w0 g' (F3 t u (out++[b]) (n+1) i) a' w1) ((opsR (rg Tryz.f7 9)).toList.drop 4) a w :=
 seg_m LU_ok (i:=4) (F3 t u (out++[b]) (n+1) i) [more (cs:=bcl out) (n:=n) (k:=1) (m:=1) (es:=[[.v (.bool b)]]) (ds:=bcl (out++[b])) ⟨by simp[bcl,hn],by omega,by omega,by simp[bcl]⟩] [] [bcl (out++[b])] (bcl1 _) hok (by kernel_rfl)
end
theorem eval_bad (f:Fm) (t:Tr) (h:Fine f) (hr:rightN 40 f=false):Con Tryz.prog 7 [.agg f.c,.agg t.c] (.tup [.one nilS,num 1]):=by
 have h1:=new_bad f h hr;obtain⟨k,o,p,n,a,b,w⟩:=f;exact byU _ Tryz.func7 rfl [gives h1,ends (rfl:true=true),ends (rfl:true=true)] (by kernel_rfl)
end
section
theorem Ok.row {okR:Nat→Prop} {W:World} (ob:Option Nat) (cs:List AC) (n:Nat) (rs:List (Nat×AV)) {tm:Array Value} (hs:∀b,ob=some b→Cel okR W b cs∧¬okR b) (hn0:ob=none→cs=[]) (hn:tm.size=n)
  (hr:∀q∈rs,∃u,tm[q.1]?=some u∧TV [ob] (FP okR W.heap.size [ob]) W q.2 u):Ok okR ⟨W,[ob],[]⟩ [ob] ⟨sparse n rs,[some (true,cs)],1⟩ ⟨tm,[]⟩ W:=by
 cases ob with
 |some b =>
  obtain⟨h1,h2⟩:=hs b rfl;exact Ok.make [(b,cs)] n rs (by simp) (fun q hq=>by rw[List.mem_singleton.1 hq];exact h1) (fun q hq=>by rw[List.mem_singleton.1 hq];exact h2) hn hr
 |none =>
  have hc:=hn0 rfl;subst hc;refine⟨regs_sparse n hn rs hr,⟨rfl,fun i m cs b hi hg=>?_⟩,fun i j b hi=>?_,fun b hb=>?_,Keep.refl _,rfl,⟨rfl,fun i hi=>?_⟩,fun i b m cs hi=>?_,fun i m c cs hi=>?_⟩
  ·match i with
   |0=>cases hg
   |i+1=>cases hg
  ·match i with
   |0=>cases hi
   |i+1=>cases hi
  ·simp at hb
  ·match i,hi with
   |0,_=>exact⟨none,rfl,rfl⟩
  ·match i with
   |0=>cases hi
   |i+1=>cases hi
  ·match i with
   |0=>cases hi
   |i+1=>cases hi
def okE (ok:Nat→Prop) (w:World) (bs:List Nat) (ob:Option Nat):Nat→Prop:=fun k=>(ok k∨w.heap.size≤k)∧k ∉ bs∧some k≠ob
structure EI (ok:Nat→Prop) (w:World) (u:Value) (bs:List Nat) (t:Tr) (x:Wt) (out:List Bool) (i:Nat) (a:Act) (W:World) (ob:Option Nat):Prop where
 k:Ok (okE ok w bs ob) ⟨W,[ob],[]⟩ [ob] (F0 t u out out.length i) a W
 ha:Has (okE ok w bs ob) W x u bs
 ext:Ext w W []
 nb:∀b,ob=some b→w.heap.size≤b∧b ∉ bs
theorem lpE_eq:lp Tryz.f7 0=.seq (rg Tryz.f7 7) (.seq (.cond (.tmp 30) .skip (.exit 0)) (.seq (.block 1 (.seq (rg Tryz.f7 8) (.region 9 (opsR (rg Tryz.f7 9)) false))) (rg Tryz.f7 10))):=by kernel_rfl
section
variable {ok:Nat→Prop} {w:World} {u:Value} {bs:List Nat} {t:Tr} {x:Wt} {out:List Bool} {i:Nat} {a:Act} {W:World} {ob:Option Nat} {Q:Exit→Act→World→Prop} {m:Nat}
theorem eval_out (hE:EI ok w u bs t x out i a W ob) (hi:i=t.l.length) (hQ:∀a' g' W',Ok (okE ok w bs ob) ⟨W,[ob],[]⟩ g' (F0 t u out out.length i) a' W'→Q (.exit 0) a' W'):Code.rounds Tryz.prog (lp Tryz.f7 0) Q (m+1) a W:=by
 rw[rounds_succ];generalize Code.rounds Tryz.prog (lp Tryz.f7 0) Q m=CR;rw[lpE_eq];refine wp_seq (f0_at t u out out.length i _ _ _ _ _ _ hE.k (fun g1 a1 W1 k1=>?_))
 rw[show decide ((i:Int)<(t.l.length:Int))=false by rw[decide_eq_false_iff_not];omega] at k1;show (Code.seq _ _).wp _ _ _ _
 refine wp_seq (wp_cond_false (k1.truth_at (t:=30) rfl) (wp_exit ?_))
 obtain⟨g2,k2⟩:=k1.to (F0 t u out out.length i) [bcl out] (bcl1 out) (by kernel_rfl);exact hQ a1 g2 W1 k2
theorem eval_round (hE:EI ok w u bs t x out i a W ob) (hi:i<t.l.length) (hx:x.ok) (he:t.l[i].ok) (hnd:bs.Nodup) (hbs:∀b∈bs,w.heap.size≤b) (hb:i<100000) (ho:out.length=i)
  (h:∀a' W' ob',EI ok w u bs t (x.run t.l[i]).2 (out++[(x.run t.l[i]).1]) (i+1) a' W' ob'→Code.rounds Tryz.prog (lp Tryz.f7 0) Q m a' W'):Code.rounds Tryz.prog (lp Tryz.f7 0) Q (m+1) a W:=by
 rw[rounds_succ];generalize hC:Code.rounds Tryz.prog (lp Tryz.f7 0) Q m=CR at h ⊢;rw[lpE_eq];refine wp_seq (f0_at t u out out.length i _ _ _ _ _ _ hE.k (fun g1 a1 W1 k1=>?_))
 rw[show decide ((i:Int)<(t.l.length:Int))=true by rw[decide_eq_true_iff];omega] at k1;show (Code.seq _ _).wp _ _ _ _
 refine wp_seq (wp_cond_true (k1.truth_at (t:=30) rfl) (wp_skip ?_))
 obtain⟨g2,k2⟩:=k1.to (F0 t u out out.length i) [bcl out] (bcl1 out) (by kernel_rfl);show (Code.seq _ _).wp _ _ _ _
 refine wp_seq (wp_block (wp_seq (f8_at t u out out.length i hi _ _ _ _ _ _ k2 (fun g3 a3 W3 k3=>?_))))
 generalize t.l[i]=e at *;show (Code.region _ _ _).wp _ _ _ _
 refine wp_region_list ?_
 obtain⟨op,hop,h1,h2,h3⟩:∃op:Oper,(opsR (rg Tryz.f7 9)).toList.drop 3=op::(opsR (rg Tryz.f7 9)).toList.drop 4∧op.guard=none∧op.dst=some 36∧op.op=.call { callee:=.value (.func 15),args:=#[.tmp 34,.tmp 35],argTypes:=#[42,48] } :=
  ⟨(opsR (rg Tryz.f7 9)).toList.getD 3 ⟨none,.move (.tmp 0),0, "",#[],none⟩,by kernel_rfl,by kernel_rfl,by kernel_rfl,by kernel_rfl⟩
 have hsp:(opsR (rg Tryz.f7 9)).toList=(opsR (rg Tryz.f7 9)).toList.take 3++op::(opsR (rg Tryz.f7 9)).toList.drop 4:=by rw[←hop,List.take_append_drop]
 conv=>arg 4;rw[hsp]
 refine list_seq (fun _ _ _ h=>h.1) (f1_pre t u out out.length i e k3) ?_
 rintro a4 W4 ⟨_,g4,k4⟩
 have gn:g4=[ob]:=k4.names rfl;subst gn
 -- the call
 have hlt:∀b∈bs,b<W.heap.size:=hE.ha.lt;have obl:∀b,some b∈[ob]→ob=some b:=fun b hm=>(List.mem_singleton.1 hm).symm
 have e4:Ext W W4 ob.toList:=Ext.keep k4.below (fun c hc=>by rw[obl c hc];simp);have hRo:∀b∈ob.toList,¬okE ok w bs ob b:=fun b hb hk=>by
  have:ob=some b:=by simpa using hb
  exact hk.2.2 this.symm
 have hdo:∀c∈bs,c ∉ ob.toList:=fun c hc hm=>by
  have:ob=some c:=by simpa using hm
  exact (hE.nb c this).2 hc
 have ha4:=hE.ha.ext e4 hRo hdo;have hWw:w.heap.size≤W.heap.size:=hE.ext.size;have hfp:∀k,FP (okE ok w bs ob) W.heap.size [ob] k→okE ok w bs ob k:=fun k hk=>by
  rcases hk.1 with h|h
  ·exact h
  ·exact⟨.inr (by omega),fun hm=>by have:=hlt k hm;omega,fun hm=>hk.2 (by rw[hm];exact List.mem_singleton.2 rfl)⟩
 have hnew4:∀k,W4.heap.size≤k→okE ok w bs ob k:=fun k hk=>⟨.inr (by have:=e4.size;omega),fun hm=>by have:=ha4.lt k hm;omega,fun hm=>by
  have:=(k4.base k (by rw[hm];exact List.mem_singleton.2 rfl)).2;omega⟩
 have mvR:Mv [] [] (FP (okE ok w bs ob) W.heap.size [ob]) (okE ok w bs ob) W4 W4:=⟨fun _ _ h=>h,fun _ _ _=>rfl,fun k hk _=>hfp k hk,fun i b cur e hb=>by cases hb⟩;have hw4:TG [] (okE ok w bs ob) W4 (.one (.pe [.v u])) (a4.eval (.tmp 34)):=by
  have h5:TG [ob] (FP (okE ok w bs ob) W.heap.size [ob]) W4 (.one (.pe [.v u])) _:=k4.reg (t:=34) rfl;exact TG.mv mvR (h5.noptr rfl)
 have hv4:TG [] (okE ok w bs ob) W4 (.agg e.c) (a4.eval (.tmp 35)):=by
  have h5:TG [ob] (FP (okE ok w bs ob) W.heap.size [ob]) W4 (.agg e.c) _:=k4.reg (t:=35) rfl;exact TG.mv mvR (h5.noptr (List.all_eq_true.2 (en_plain e)))
 have hRb:∀b∈bs,¬okE ok w bs ob b:=fun b hb hk=>hk.2.1 hb
 refine wpList_step fun N hN=>?_
 rw[if_pos (by unfold Region.wanted;rw[h1])];unfold Oper.wp;have hrun:(execOp a4.eval op).run Tryz.prog W4=(callFunc 15 #[a4.eval (.tmp 34),a4.eval (.tmp 35)]).run Tryz.prog W4:=by
  simp[execOp,h3,resolve,Deferred.ofValue,invoke,go_sem,Act.eval]
 rw[hrun,enters_ Tryz.func15 (by kernel_rfl) rfl,Oper.upon_enter];refine (next_calls (acts x hx) ha4 hnd hRb hnew4 he hw4 hv4).mono ?_
 rintro r W5 ⟨rfl,ha5,e5⟩
 rw[h2];have k5:Ok (okE ok w bs ob) ⟨W5,[ob],[]⟩ [ob] ((F2 t u out out.length i e).put (some 36) (some (.g (truth (x.run e).1)))) (a4.put (some 36) (.bool (x.run e).1)) W5:=by
  have k5:=k4.rebase (okB:=okE ok w bs ob) (a':=a4) (W':=W5) (ds:=[]) rfl k4.defers e5.size (fun k hk hlt=>⟨e5.block k hlt (fun hm=>hRb k hm (hfp k hk)),hfp k hk⟩) (fun i b cur ee hg hw=>⟨cur,(e5.block b (Array.getElem?_eq_some_iff.1 hw).1 (fun hm=>(hE.nb b (obl b (List.mem_of_getElem? hg))).2 hm)).trans hw,rfl⟩) (fun i b m cs hg _=>e5.block b (k4.base b (List.mem_of_getElem? hg)).2 (fun hm=>(hE.nb b (obl b (List.mem_of_getElem? hg))).2 hm));refine k5.val (d:=some 36) (x:=some (.g (truth (x.run e).1))) (u:=.bool (x.run e).1) (fun v hv=>?_)
  cases hv;exact TC.of_v (g:=[ob]) rfl
 refine hN _ _ ?_
 have h7:=list_seq (Q':=Exit.inBlock 1 (Exit.then ((rg Tryz.f7 10).wp Tryz.prog (Exit.then CR Q)) (Exit.then CR Q))) (ys:=[]) (fun _ _ _ h=>h.1) (f2_post t u out out.length i e (x.run e).1 rfl (by omega) k5) ?_
 ·rw[List.append_nil] at h7
  exact h7
 rintro a6 W6 ⟨_,g6,k6⟩
 show (rg Tryz.f7 10).wp _ _ _ _
 refine f10_at t u (out++[(x.run e).1]) (out.length+1) i _ _ _ _ _ _ k6 (fun g7 a7 W7 k7=>?_)
 -- the row lies somewhere else
 have el:(out++[(x.run e).1]).length=out.length+1:=by simp
 have ei:IntKind.i64.wrap ((i:Int)+1)=((i+1:Nat):Int):=next_i i (by omega);rw[ei] at k7;generalize hout:out++[(x.run e).1]=out' at *;obtain⟨c,cs,hq⟩:∃c cs,bcl out'=c::cs:=by
  cases hq:bcl out' with
  |nil =>
   have:(bcl out').length=out'.length:=by simp[bcl]
   rw[hq,el] at this;cases this
  |cons c cs=>exact⟨c,cs,rfl⟩
 have h1o:(F3 t u out' (out.length+1) ((i+1:Nat):Int)).own[1]?=some (some (true,bcl out')):=rfl;obtain⟨b',hb'⟩:=k7.has 1 true c cs (h1o.trans (by rw[hq]));have hbm:=List.mem_of_getElem? hb';have hbb:W5.heap.size≤b'∨ob=some b':=(k7.base b' hbm).1.imp id (fun h=>obl b' h);have hW5:W.heap.size≤W5.heap.size:=Nat.le_trans e4.size e5.size;have nb':w.heap.size≤b'∧b' ∉ bs:=by
  rcases hbb with h|h
  ·exact⟨by omega,fun hm=>by have:=hlt b' hm;omega⟩
  ·exact hE.nb b' h
 have e7:Ext W5 W7 ob.toList:=Ext.keep k7.below (fun c hc=>by rw[obl c hc];simp);have hRR:∀k,FP (okE ok w bs ob) W5.heap.size g7 k→okE ok w bs (some b') k:=fun k hk=>by
  have hne:some k≠some b':=fun h=>hk.2 (by rw[h];exact hbm)
  rcases hk.1 with h|h
  ·exact⟨h.1,h.2.1,hne⟩
  ·have h:W5.heap.size≤k:=h
   exact⟨.inr (by omega),fun hm=>by have:=hlt k hm;omega,hne⟩
 have ea:a7=⟨a7.tmps,[]⟩:=by
  have:=k7.defers;cases a7;simp only at this;rw[this]
 have mv7:Mv [] [some b'] (FP (okE ok w bs ob) W5.heap.size g7) (FP (okE ok w bs (some b')) W7.heap.size [some b']) W7 W7:=⟨fun i b hb=>(by cases hb),fun _ _ _=>rfl,fun k hk _=>⟨.inl (hRR k hk),fun hm=>hk.2 (by rw[List.mem_singleton.1 hm];exact hbm)⟩,fun i b cur e hb=>by cases hb⟩;refine h a7 W7 (some b') ⟨?_,?_,?_,fun b hb=>by cases hb;exact nb'⟩
 ·rw[el,ea]
  refine Ok.row (some b') (bcl out') 41 _ (fun b hb=>?_) (fun h=>by cases h) k7.regs.1 (fun q hq=>?_)
  ·cases hb
   exact⟨own_p k7 hRR hb' h1o (bcl_plain out'),fun h=>h.2.2 rfl⟩
  ·simp only[List.mem_cons,List.not_mem_nil,or_false] at hq
   rcases hq with rfl|rfl|rfl|rfl|rfl
   ·obtain⟨y,hy,hT⟩:=k7.regs.2 6 _ rfl
    exact⟨y,hy,(TV.noptr (r:=.g (.one (.pe [.v u]))) rfl hT).mv mv7⟩
   ·obtain⟨y,hy,hT⟩:=k7.regs.2 9 _ rfl
    refine⟨y,hy,?_⟩
    rcases (show SlOk g7 W7 1 4 1 (out.length+1) y from hT) with⟨h0,_⟩|⟨h0,b,cap,cur,hg,hrest⟩
    ·cases h0
    ·rw[hb'] at hg
     cases hg;exact (.inr ⟨h0,b',cap,cur,rfl,hrest⟩:SlOk [some b'] W7 0 4 1 (out.length+1) y)
   ·obtain⟨y,hy,hT⟩:=k7.regs.2 27 _ rfl
    exact⟨y,hy,(TV.noptr (r:=.g (.one (ens t.l))) rfl hT).mv mv7⟩
   ·obtain⟨y,hy,hT⟩:=k7.regs.2 28 _ rfl
    exact⟨y,hy,(TV.noptr (r:=.g (num t.l.length)) rfl hT).mv mv7⟩
   ·obtain⟨y,hy,hT⟩:=k7.regs.2 29 _ rfl
    exact⟨y,hy,(TV.noptr (r:=.g (num ((i+1:Nat):Int))) rfl hT).mv mv7⟩
 ·have s1:Has (fun k=>okE ok w bs ob k∧k<W5.heap.size) W5 (x.run e).2 u bs:=ha5.foot (fun k hk hR=>⟨hR,hk⟩)
  have s2:=s1.ext e7 (fun b hb hk=>hRo b hb hk.1) hdo;refine s2.foot (fun k _ hk=>⟨hk.1.1,hk.1.2.1,fun hne=>?_⟩)
  cases hne;rcases hbb with h|h
  ·have:=hk.2;omega
  ·exact hk.1.2.2 h.symm
 ·refine (((hE.ext.two e4 (fun c hc=>?_)).two e5 (fun c hc=>.inr (hbs c hc))).two e7 (fun c hc=>?_))
  ·exact .inr (hE.nb c (by simpa using hc)).1
  ·exact .inr (hE.nb c (by simpa using hc)).1
end
end
section
theorem sl_row {g:List (Option Nat)} {ok ok':Nat→Prop} {W:World} {e n:Nat} {u:Value} {out:List Bool} {m:Bool} {own:List (Option (Bool×List AC))} (hn:out.length=n) (h:TC g ok W (.sl 0 e 1 n) u) (ho:OwnOk g ok W own) (hi:own[0]?=some (some (m,bcl out))) (hb:∀b,g[0]?=some (some b)→ok' b):TC [] ok' W (brow out) u:=by
 rcases (show SlOk g W 0 e 1 n u from h) with⟨h0,A,rfl⟩|⟨h0,b,cap,cur,hg,rfl,hc,hm,hw,hs⟩
 ·have:out=[]:=List.eq_nil_of_length_eq_zero (by omega)
  subst this;exact fun _ _=>Rd.nil 1 A 0
 ·obtain⟨cells,e',h1,h2⟩:=ho.2 0 m (bcl out) b hi hg
  have hbl:(bcl out).length=out.length:=by simp[bcl]
  show Foot (fun W=>Rd W (.row 1 out.length _) _) W ok'
  rw[←hn];refine fun W' hW'=>Rd.row 1 out.length _ ⟨b,0,none⟩ cap (out.map fun x=>[.bool x]) (by simp) (by omega) (by have:maxLen=9223372036854775807:=rfl;omega) (by simp) (fun i us hus=>?_) (fun i cs hcs=>?_) (fun i cs us j c v hcs hus hj hv=>?_)
  ·have h3:W'.heap[b]?=some (.cells cells e' (0,0)):=(hW' b (hb b hg) (Array.getElem?_eq_some_iff.1 h1).1).trans h1
   rw[List.getElem?_map] at hus;obtain⟨x,hx,rfl⟩:=Option.map_eq_some_iff.1 hus;refine⟨rfl,fun j v hv=>?_⟩
   match j with
   |0 =>
    cases hv;have hil:i<out.length:=(List.getElem?_eq_some_iff.1 hx).1;have h4:(bcl out)[i]?=some (.v (.bool x)):=by unfold bcl;rw[List.getElem?_map,hx];rfl
    have h5:i<(cells.toList.take (bcl out).length).length:=by rw[h2.1];omega
    have h6:=h2.2 i _ _ h4 (List.getElem?_eq_getElem h5);have h7:=TC.v_eq (g:=g) (ok:=ok) (w:=W) h6;refine take_cell (m:=(bcl out).length) (o:=0) (n:=(bcl out).length) h3 ?_
    rw[Nat.mul_one,Nat.add_zero];simp only[List.drop_zero,List.take_take,Nat.min_self];rw[List.getElem?_eq_getElem h5,h7]
   |j+1=>cases hv
  ·rw[List.getElem?_map] at hcs
   obtain⟨x,hx,rfl⟩:=Option.map_eq_some_iff.1 hcs;rfl
  ·rw[List.getElem?_map] at hcs hus
   obtain⟨x,hx,rfl⟩:=Option.map_eq_some_iff.1 hcs;obtain⟨x',hx',rfl⟩:=Option.map_eq_some_iff.1 hus;rw[hx] at hx';cases hx'
   match j with
   |0=>cases hj;cases hv;exact Rd.v _ rfl
   |j+1=>cases hj
theorem nil_row {g:List (Option Nat)} {ok ok':Nat→Prop} {W:World} {u:Value} (h:TC g ok W nilS u):TC [] ok' W (brow []) u:=by
 have:=TC.v_eq (g:=g) (ok:=ok) (w:=W) h;subst this;exact fun _ _=>Rd.nil 1 none 0
theorem eval_loop {ok:Nat→Prop} {w:World} {u:Value} {bs:List Nat} {t:Tr} {Q:Exit→Act→World→Prop} (ht:∀x∈t.l,x.ok) (hb:t.l.length≤100000) (hnd:bs.Nodup) (hbs:∀b∈bs,w.heap.size≤b):∀(d i:Nat) (x:Wt) (out:List Bool) (a:Act) (W:World) (ob:Option Nat),i+d=t.l.length→x.ok→out.length=i→EI ok w u bs t x out i a W ob →
  (∀out' ob' a' g' W' W'',out'=out++runB x (t.l.drop i)→(∀b,ob'=some b→w.heap.size≤b)→Ext w W' []→Ok (okE ok w bs ob') ⟨W',[ob'],[]⟩ g' (F0 t u out' out'.length t.l.length) a' W''→Q (.exit 0) a' W'')→Code.rounds Tryz.prog (lp Tryz.f7 0) Q (d+1) a W
 |0,i,x,out,a,W,ob,h,hx,ho,hE,hQ=>by
  have hi:i=t.l.length:=by omega
  refine eval_out hE hi (fun a' g' W'' k=>hQ out ob a' g' W W'' ?_ (fun b hb=>(hE.nb b hb).1) hE.ext (hi▸k))
  rw[hi,List.drop_eq_nil_of_le (Nat.le_refl _)];simp[runB]
 |d+1,i,x,out,a,W,ob,h,hx,ho,hE,hQ=>by
  have hi:i<t.l.length:=by omega
  have hxi:=ht _ (List.getElem_mem hi);exact eval_round hE hi hx hxi hnd hbs (by omega) ho (fun a' W' ob' hE'=>eval_loop ht hb hnd hbs d (i+1) _ _ a' W' ob' (by omega) (run_ok hxi x hx) (by simp[ho]) hE' (fun out' ob2 a2 g2 W2 W3 h1 h2 h3 h4=>hQ out' ob2 a2 g2 W2 W3 (by rw[h1,List.append_assoc,List.drop_eq_getElem_cons hi];rfl) h2 h3 h4))
theorem ofF_ok {f:Fm} (h:Good f):(ofF f).ok:=by
 induction h with
 | @mk k o p n a b w hn hw hl ha ih =>
   have hown:Fm.own (.mk k o p n a b w):=⟨hn,hw⟩;unfold ofF
   match a,ih with
   |[],_=>exact hown
   |[x],ih =>
    have hx:=ih x (by simp);simp only[ofL,ofK];split
    ·exact hx
    ·split
     ·exact hx
     ·split
      ·exact⟨hown,last_none,hx⟩
      ·exact⟨hown,last_none,hx⟩
   |x::y::r,ih =>
    have hx:=ih x (by simp);have hy:=ih y (by simp);simp only[ofL,ofK];split
    ·exact⟨hx,hy⟩
    ·split
     ·exact⟨hx,hy⟩
     ·exact⟨hown,last_none,hx,hy⟩
def evalB (f:Fm) (t:Tr):List Bool:=bif rightN 40 f&&sortedF t.l then runB (ofF f) t.l else []
def evalE (f:Fm) (t:Tr):Int:=bif rightN 40 f&&sortedF t.l then 0 else 1
def Told (ok:Nat→Prop) (w:World) (l:List Bool) (n:Int) (r:Ending) (W:World):Prop:=∃u,r=.returned u∧TV [] (fun k=>ok k∨w.heap.size≤k) W (.tup [.one (brow l),num n]) u∧Below w.heap.size w W
theorem told_end {ok:Nat→Prop} {w:World} {W:World} {l:List Bool} {n:Int} {R0:Nat→Prop} {B:Base} {g:List (Option Nat)} {s:St} {a:Act} {c:AC} (hok:Ok R0 B g s a W) (hd:a.defers=[]) (hr:resV LU s Tryz.f7=some (.tup [.one c,num n])) (hc:∀u,TC g (FP R0 B.heap.size g) W c u→TC [] (fun k=>ok k∨w.heap.size≤k) W (brow l) u) (e:Ext w W []):bodyPost Tryz.prog Tryz.f7 (Told ok w l n) .ret a W:=by
 obtain⟨r,hrr,us,rfl,hsz,hT⟩:=resV_at (fn:=Tryz.f7) LU_ok hok hr;refine⟨hd,_,hrr,_,rfl,⟨us,rfl,hsz,fun j x y hx hy=>?_⟩,⟨e.os,e.tape,e.output,e.size,fun k hk=>e.block k hk (fun h=>by cases h)⟩⟩
 match j with
 |0=>cases hx;exact hc y (hT 0 _ y rfl hy)
 |1 =>
  cases hx;have h1:=TC.v_eq (g:=g) (show TC g _ _ (.v (.int .i64 n)) y from hT 1 _ y rfl hy);subst h1;exact TC.of_v (g:=[]) rfl
 |j+2=>simp at hx
theorem eval_right (f:Fm) (t:Tr) (hf:Fine f) (hr:rightN 40 f=true) (ht:∀x∈t.l,x.ok) (hb:t.l.length≤100000):ConF Tryz.prog 7 [.agg f.c,.agg t.c] (.tup [.one (brow (evalB f t)),num (evalE f t)]):=by
 refine⟨⟨_,Tryz.func7,by kernel_rfl,rfl⟩,fun ok us w hA=>?_⟩
 have eb:Tryz.f7.body=some (.seq (rg Tryz.f7 0) (.seq (.region 1 (opsR (rg Tryz.f7 1)) false) (.seq (rg Tryz.f7 2) (.seq (.seq (rg Tryz.f7 3) (.cond (.tmp 25) (.seq (rg Tryz.f7 4) .ret) .skip)) (.seq (rg Tryz.f7 5) (.seq (.seq (rg Tryz.f7 6) (.block 0 (.loop (lp Tryz.f7 0)))) (.seq (rg Tryz.f7 11) .ret))))))):=by kernel_rfl
 show Calls Tryz.prog _ us w (Told ok w (evalB f t) (evalE f t))
 refine calls_of_wp Tryz.func7 eb ?_
 rw[show Tryz.f7.ntmps=41 by kernel_rfl];have hA1:us.size=2:=hA.1;have hA2:∀(j:Nat) x u,[AG.agg f.c,AG.agg t.c][j]?=some x→us[j]?=some u→TG [] ok w x u:=hA.2;obtain⟨R,hR⟩:∃R:Nat→Prop,R=fun k=>ok k∨w.heap.size≤k:=⟨_,rfl⟩
 have mv0:Mv [] [] ok (FP R w.heap.size []) w w:=⟨fun _ _ h=>h,fun _ _ _=>rfl,fun k hk _=>⟨.inl (by rw[hR];exact .inl hk),by simp⟩,fun i b cur e hb=>by cases hb⟩;have k0:Ok R ⟨w,[],[]⟩ [] (E0 f t) ⟨us++Array.replicate (41-us.size) undef,[]⟩ w:=by
  refine⟨regs_sparse 41 (by simp[hA1]) _ (fun q hq=>?_),⟨rfl,fun i m cs b hi=>by cases hi⟩,(fun i j b hi=>by cases hi),fun b hb=>(by cases hb),Keep.refl _,rfl,⟨rfl,fun i hi=>by cases hi⟩,fun i b m cs hi=>(by cases hi),fun i m c cs hi=>(by cases hi)⟩
  simp only[List.mem_cons,List.not_mem_nil,or_false] at hq;rcases hq with rfl|rfl
  ·exact⟨us[0],by rw[Array.getElem?_append_left (by omega)];exact Array.getElem?_eq_getElem (by omega),TG.mv mv0 (hA2 0 _ _ rfl (Array.getElem?_eq_getElem (by omega)))⟩
  ·exact⟨us[1],by rw[Array.getElem?_append_left (by omega)];exact Array.getElem?_eq_getElem (by omega),TG.mv mv0 (hA2 1 _ _ rfl (Array.getElem?_eq_getElem (by omega)))⟩
 have hnew:∀k,w.heap.size≤k→R k:=fun k hk=>by rw[hR];exact .inr hk
 refine wp_seq (e0_at f t _ _ _ _ _ _ k0 (fun g1 a1 W1 k1=>?_))
 show (Code.seq _ _).wp _ _ _ _
 refine wp_seq (wp_region_list ?_)
 obtain⟨op,hop,h1,h2,h3⟩:∃op:Oper,(opsR (rg Tryz.f7 1)).toList.drop 1=op::(opsR (rg Tryz.f7 1)).toList.drop 2∧op.guard=none∧op.dst=some 14∧op.op=.call { callee:=.value (.func 14),args:=#[.tmp 13],argTypes:=#[29] } :=
  ⟨(opsR (rg Tryz.f7 1)).toList.getD 1 ⟨none,.move (.tmp 0),0, "",#[],none⟩,by kernel_rfl,by kernel_rfl,by kernel_rfl,by kernel_rfl⟩
 have hsp:(opsR (rg Tryz.f7 1)).toList=(opsR (rg Tryz.f7 1)).toList.take 1++op::(opsR (rg Tryz.f7 1)).toList.drop 2:=by rw[←hop,List.take_append_drop]
 conv=>arg 4;rw[hsp]
 refine list_seq (fun _ _ _ h=>h.1) (e1_pre f t k1) ?_
 rintro a2 W2 ⟨_,g2,k2⟩
 have e2:Ext w W2 []:=Ext.keep k2.below (fun c hc=>by cases hc);have k3:Ok R ⟨W2,[],[]⟩ [] (E3 f t) a2 W2:=k2.fresh hnew [] 41 [(3,.g (.one (.pe t.c))),(13,.g (.agg f.c))] rfl rfl (by simp) (fun q hq=>by cases hq) (fun i q hi=>by cases hi) (fun q hq=>by
  simp only[List.mem_cons,List.not_mem_nil,or_false] at hq;rcases hq with rfl|rfl
  ·exact .inr ⟨0,t.c,_,rfl,rfl,rfl,Nat.zero_le _,tr_plain t⟩
  ·exact .inl ⟨rfl,List.all_eq_true.2 (fm_plain f)⟩)
 have hv4:TG [] (FP R W2.heap.size []) W2 (.agg f.c) (a2.eval (.tmp 13)):=k3.reg (t:=13) rfl;refine wpList_step fun N hN=>?_
 rw[if_pos (by unfold Region.wanted;rw[h1])];unfold Oper.wp;have hrun:(execOp a2.eval op).run Tryz.prog W2=(callFunc 14 #[a2.eval (.tmp 13)]).run Tryz.prog W2:=by
  have:=run_callFn (P:=Tryz.prog) (ρ:=a2.eval) (fn:=14) (ca:=#[]) (W:=W2) h3 rfl;rw[Array.append_empty] at this;exact this
 rw[hrun,enters_ Tryz.func14 (by kernel_rfl) rfl,Oper.upon_enter];refine (new_calls f hf hr hv4).mono ?_
 rintro r W4 ⟨bw,u,bs,rfl,hnd,hlo,hbw,hbwn,he,hcel,hh⟩
 rw[h2];have hw2:w.heap.size≤W2.heap.size:=e2.size;have hbs:∀b∈bs,w.heap.size≤b:=fun b hb=>Nat.le_trans hw2 (hlo b hb)
 have hRE:∀k,(FP R W2.heap.size [] k∨W2.heap.size≤k)∧k ∉ bs→okE ok w bs none k:=fun k hk=>by
  refine⟨?_,hk.2,fun h=>by cases h⟩
  rcases hk.1 with h|h
  ·rcases h.1 with h|h
   ·rw[hR] at h;exact h
   ·have h:W2.heap.size≤k:=h
    exact .inr (by omega)
  ·exact .inr (by omega)
 have k5:Ok (okE ok w bs none) ⟨W4,[],[]⟩ [] ((E3 f t).put (some 14) (some (.tup [.one (.pe [.v u]),num 0]))) (a2.put (some 14) (.tuple #[pt bw,.int .i64 0])) W4:=by
  have k5:=k3.rebase (okB:=okE ok w bs none) (a':=a2) (W':=W4) (ds:=[]) rfl k3.defers he.size (fun k hk hlt=>⟨he.block k hlt (fun h=>by cases h),hRE k ⟨.inl hk,fun hm=>by have:=hlo k hm;omega⟩⟩) (fun i b cur ee hb=>by cases hb) (fun i b m cs hb=>by cases hb);refine k5.val (d:=some 14) (x:=some (.tup [.one (.pe [.v u]),num 0])) (u:=.tuple #[pt bw,.int .i64 0]) (fun v hv=>?_)
  cases hv;refine⟨#[pt bw,.int .i64 0],rfl,rfl,fun j x y hx hy=>?_⟩
  match j with
  |0 =>
   cases hx;cases hy;exact TC.mv (c:=.pe [.v u]) ⟨fun _ _ h=>h,fun _ _ _=>rfl,fun k hk _=>⟨.inl (hRE k hk),by simp⟩,fun i b cur e hb=>by cases hb⟩ (hcel.pe ⟨.inr hbw,hbwn⟩ (v_plain u) ⟨_,rfl⟩)
  |1=>cases hx;cases hy;exact TC.of_v (g:=[]) rfl
  |j+2=>simp at hx
 refine hN _ _ ?_
 obtain⟨g6,k6⟩:=k5.to (E4 t u) [] none_ (by
  obtain⟨k,o,p,n,a,b,w⟩:=f
  kernel_rfl)
 have h7:=list_seq (Q':=Exit.then ((Code.seq (rg Tryz.f7 2) (.seq (.seq (rg Tryz.f7 3) (.cond (.tmp 25) (.seq (rg Tryz.f7 4) .ret) .skip)) (.seq (rg Tryz.f7 5) (.seq (.seq (rg Tryz.f7 6) (.block 0 (.loop (lp Tryz.f7 0)))) (.seq (rg Tryz.f7 11) .ret))))).wp Tryz.prog (bodyPost Tryz.prog Tryz.f7 (Told ok w (evalB f t) (evalE f t)))) (bodyPost Tryz.prog Tryz.f7 (Told ok w (evalB f t) (evalE f t)))) (ys:=[]) (fun _ _ _ h=>h.1) (e4_post t u k6) ?_
 ·rw[List.append_nil] at h7
  exact h7
 rintro a7 W7 ⟨_,g7,k7⟩
 show (Code.seq _ _).wp _ _ _ _
 refine wp_seq (e5_at t u _ _ _ _ _ _ k7 (fun g8 a8 W8 k8=>?_))
 show (Code.seq _ _).wp _ _ _ _
 refine wp_seq (wp_seq (e6_at t u ht (by omega) _ _ _ _ _ _ k8 (fun g9 a9 W9 k9=>?_)))
 have eall:∀{W':World} {g a s},Ok (okE ok w bs none) ⟨W4,[],[]⟩ g s a W'→Ext w W' []:=fun k=>(e2.trans he).trans (Ext.keep k.below (fun c hc=>by cases hc))
 unfold evalB evalE;rw[hr,Bool.true_and];rcases bc (sortedF t.l) with hs|hs
 ·rw[hs] at k9 ⊢
  refine wp_cond_false (k9.truth_at (t:=25) rfl) (wp_skip ?_)
  show (Code.seq _ _).wp _ _ _ _
  refine wp_seq (e7_at t u _ _ _ _ _ _ _ k9 (fun g10 a10 W10 k10=>?_))
  show (Code.seq _ _).wp _ _ _ _
  refine wp_seq (wp_seq (e9_at t u _ _ _ _ _ _ k10 (fun g11 a11 W11 k11=>?_)))
  show (Code.block _ _).wp _ _ _ _
  have gl:g11=[]:=List.eq_nil_of_length_eq_zero k11.own.1.symm;subst gl;have hW11:W4.heap.size≤W11.heap.size:=k11.below.size;have mvE:Mv [] [none] (FP (okE ok w bs none) W4.heap.size []) (FP (okE ok w bs none) W11.heap.size [none]) W11 W11:=⟨fun i b hb=>(by cases hb),fun _ _ _=>rfl,fun k hk hlt=>⟨.inl (by
   rcases hk.1 with h|h
   ·exact h
   ·have h:W4.heap.size≤k:=h
    exact⟨.inr (by have:=he.size;omega),fun hm=>by have:=hh.lt k hm;omega,fun h=>by cases h⟩),by simp⟩,fun i b cur e hb=>by cases hb⟩
  have ea:a11=⟨a11.tmps,[]⟩:=by
   have:=k11.defers;cases a11;simp only at this;rw[this]
  have hE:EI ok w u bs t (ofF f) [] 0 a11 W11 none:=by
   refine⟨?_,?_,eall k11,fun b hb=>by cases hb⟩
   ·rw[ea]
    refine Ok.row none (bcl []) 41 _ (fun b hb=>by cases hb) (fun _=>rfl) k11.regs.1 (fun q hq=>?_)
    simp only[List.mem_cons,List.not_mem_nil,or_false] at hq;rcases hq with rfl|rfl|rfl|rfl|rfl
    ·obtain⟨y,hy,hT⟩:=k11.regs.2 6 _ rfl
     exact⟨y,hy,(TV.noptr (r:=.g (.one (.pe [.v u]))) rfl hT).mv mvE⟩
    ·obtain⟨y,hy,hT⟩:=k11.regs.2 9 _ rfl
     have:=TC.v_eq (g:=[]) (show TC [] _ _ nilS y from hT);subst this;exact⟨_,hy,(.inl ⟨rfl,none,rfl⟩:SlOk [none] W11 0 4 1 0 _)⟩
    ·obtain⟨y,hy,hT⟩:=k11.regs.2 27 _ rfl
     exact⟨y,hy,(TV.noptr (r:=.g (.one (ens t.l))) rfl hT).mv mvE⟩
    ·obtain⟨y,hy,hT⟩:=k11.regs.2 28 _ rfl
     exact⟨y,hy,(TV.noptr (r:=.g (num t.l.length)) rfl hT).mv mvE⟩
    ·obtain⟨y,hy,hT⟩:=k11.regs.2 29 _ rfl
     exact⟨y,hy,(TV.noptr (r:=.g (num 0)) rfl hT).mv mvE⟩
   ·have e11:Ext W4 W11 []:=Ext.keep k11.below (fun c hc=>by cases hc)
    exact (hh.ext e11 (fun b h=>by cases h) (fun c _ h=>by cases h)).foot (fun k _ hk=>hRE k hk)
  refine wp_block (wp_loop_rounds (t.l.length+1) (eval_loop ht hb hnd hbs t.l.length 0 (ofF f) [] a11 W11 none (by omega) (ofF_ok (Good.of 40 hf hr)) rfl hE (fun out' ob' a' g' W' W'' h1 h2 h3 k=>?_)))
  rw[List.drop_zero,List.nil_append] at h1;subst h1;show (Code.seq _ _).wp _ _ _ _
  refine wp_seq (f11_at t u _ _ _ _ _ _ _ _ _ k (fun g12 a12 W12 k12=>?_))
  refine wp_ret ?_
  have gn:g12=[ob']:=k12.names rfl;subst gn;refine told_end (c:=.sl 0 4 1 (runB (ofF f) t.l).length) (l:=runB (ofF f) t.l) (n:=0) k12 k12.defers (by kernel_rfl) (fun y hy=>?_) ?_
  ·exact sl_row rfl hy k12.own rfl (fun b hb=>.inr (h2 b (by simpa using hb)))
  ·refine h3.two (Ext.keep k12.below (bs:=ob'.toList) (fun c hc=>by
    have:ob'=some c:=(List.mem_singleton.1 hc).symm;rw[this];simp)) (fun c hc=>.inr (h2 c (by simpa using hc)))
 ·rw[hs] at k9 ⊢
  refine wp_cond_true (k9.truth_at (t:=25) rfl) ?_
  refine wp_seq (e7_bad t u _ _ _ _ _ _ k9 (fun g10 a10 W10 k10=>?_))
  refine wp_ret ?_
  exact told_end (c:=nilS) (l:=[]) (n:=1) k10 k10.defers (by kernel_rfl) (fun y hy=>nil_row hy) (eall k10)
theorem eval_con (f:Fm) (t:Tr) (hf:Fine f) (ht:∀x∈t.l,x.ok) (hb:t.l.length≤100000):Con Tryz.prog 7 [.agg f.c,.agg t.c] (.tup [.one (brow (evalB f t)),num (evalE f t)]):=by
 cases hr:rightN 40 f with
 |true=>exact .inl (eval_right f t hf hr ht hb)
 |false =>
  have h:=eval_bad f t hf hr;unfold evalB evalE;rw[hr,Bool.false_and];rcases h with h|h
  ·refine .inl ⟨h.1,fun ok us w hA=>(h.2 ok us w hA).mono ?_⟩
   rintro e W ⟨u,rfl,⟨us,rfl,hsz,hT⟩,hB⟩
   refine⟨_,rfl,⟨us,rfl,hsz,fun j x y hx hy=>?_⟩,hB⟩
   match j with
   |0=>cases hx;exact nil_row (show TC [] _ _ nilS y from hT 0 _ y rfl hy)
   |1=>cases hx;exact hT 1 _ y rfl hy
   |j+2=>simp at hx
  ·refine .inr fun ok us w hA=>?_
   obtain⟨u,W,hrun,⟨us,rfl,hsz,hT⟩,hB⟩:=h ok us w hA;refine⟨_,W,hrun,⟨us,rfl,hsz,fun j x y hx hy=>?_⟩,hB⟩
   match j with
   |0=>cases hx;exact nil_row (show TC [] _ _ nilS y from hT 0 _ y rfl hy)
   |1=>cases hx;exact hT 1 _ y rfl hy
   |j+2=>simp at hx
end
section
structure N3.raw (r:N3):Prop where
 n:lim r.2.1
 d:lim r.2.2
 ln:r.2.1.length≤140737488355328
 ld:r.2.2.length≤140737488355328
inductive Raw:Fm→Prop
 |mk {k o:Int} {p:ByteArray} {n:N3} {a:List Fm} {b:Bool} {w:N3}:n.raw→w.raw→a.length≤140737488355328→(∀x∈a,Raw x)→Raw (.mk k o p n a b w)
theorem add_wr {a b:List Int} (ha:a.length≤140737488355328) (hb:b.length≤140737488355328):IntKind.i64.wrap ((a.length:Int)+(b.length:Int))=(a.length:Int)+(b.length:Int):=wr (by omega) (by omega)
def longN (m:Int) (r:N3):Bool:=decide ((r.2.1.length:Int)+(r.2.2.length:Int)>m)
def bigF (f:Fm):Bool:=decide ((f.op.size:Int)>200)||(longN 8 f.num||longN 8 f.within)
mutual
def szF:Fm→Int→Int
 | .mk k o p m a b w,n=>if bigF (.mk k o p m a b w)=true then -1 else szL a (n-1)
def szL:List Fm→Int→Int
 |[],n=>n
 |f::r,n=>if n<0 then n else if bigF f=true then -1 else szL r (szF f n)
end
def S59 (l:List Fm) (n i:Int):St:=⟨sparse 70 [(0,.g (.one (frow l))),(1,.g (num n)),(5,.g (num i))],[],0⟩
def S59x (v:Int):St:=⟨sparse 70 [(1,.g (num v))],[],0⟩
def S59r (v:Int):St:=⟨sparse 70 [(4,.g (num v))],[],0⟩
theorem size_loop (l:List Fm) (hl:l.length≤140737488355328) (hr:∀x∈l,Raw x) (hb:∀x∈l,∀n,0≤n→n≤1000→bigF x=false→Con Tryz.prog 19 [.one (frow x.args),num (n-1)] (num (szF x n) |> .g) ∧ -1≤szF x n∧szF x n≤n):∀(d i:Nat) (n:Int),i+d=l.length → -1≤n→n≤1000 →
  (Rounds Tryz.prog (lp Tryz.f19 0) (S59 l n i) (.exit 0) (S59x (szL (l.drop i) n))∨(szL (l.drop i) n = -1∧Rounds Tryz.prog (lp Tryz.f19 0) (S59 l n i) .ret (S59r (-1)))) ∧ -1≤szL (l.drop i) n∧szL (l.drop i) n≤n
 |0,i,n,h,h0,h1=>by
  have:i=l.length:=by omega
  subst this;rw[List.drop_eq_nil_of_le (Nat.le_refl _)];exact⟨.inl (Rounds.out (atU _ _ [ends (show decide ((l.length:Int)<(l.length:Int))=false by simp),ends (rfl:false=false)] (by kernel_rfl)) (by simp)),h0,Int.le_refl _⟩
 |d+1,i,n,h,h0,h1=>by
  have hi:i<l.length:=by omega
  have hlt:decide ((i:Int)<(l.length:Int))=true:=by rw[decide_eq_true_iff];omega
  have hx:=fcs_at hi;have hraw:=hr _ (List.getElem_mem hi);have hbx:=hb _ (List.getElem_mem hi);rw[List.drop_eq_getElem_cons hi];have ih:=fun m=>size_loop l hl hr hb d (i+1) m (by omega)
  generalize l[i]=x at hx hraw hbx ⊢;obtain⟨k,o,op,nn,xs,b,w⟩:=x;cases hraw with
  |mk hn hw hxs hsub =>
   have en:=add_wr hn.ln hn.ld;have ew:=add_wr hw.ln hw.ld;by_cases hneg:n<0
   ·have e:szL (Fm.mk k o op nn xs b w::l.drop (i+1)) n=n:=by rw[szL,if_pos hneg]
    rw[e];exact⟨.inl (Rounds.out (atU _ _ [ends hlt,ends (show decide (n≥0)=false by rw[decide_eq_false_iff_not];omega)] (by kernel_rfl)) (by simp)),h0,Int.le_refl _⟩
   ·have hge:decide (n≥0)=true:=by rw[decide_eq_true_iff];omega
    have e:szL (Fm.mk k o op nn xs b w::l.drop (i+1)) n=if bigF (Fm.mk k o op nn xs b w)=true then -1 else szL (l.drop (i+1)) (szF (Fm.mk k o op nn xs b w) n):=by rw[szL,if_neg hneg]
    rw[e];have eb:bigF (Fm.mk k o op nn xs b w)=(decide ((op.size:Int)>200)||(decide (IntKind.i64.wrap ((nn.2.1.length:Int)+(nn.2.2.length:Int))>8)||decide (IntKind.i64.wrap ((w.2.1.length:Int)+(w.2.2.length:Int))>8))):=by
     rw[en,ew];rfl
    rcases bc (decide ((op.size:Int)>200)) with g1|g1
    ·rw[eb,g1,Bool.true_or,if_pos rfl]
     exact⟨.inr ⟨rfl,Rounds.out (atU _ _ [ends hlt,ends hge,elem hx,ends g1,ends (rfl:true=true),ends (rfl:true=true)] (by kernel_rfl)) (by simp)⟩,by omega,by omega⟩
    rcases bc (decide (IntKind.i64.wrap ((nn.2.1.length:Int)+(nn.2.2.length:Int))>8)) with g2|g2
    ·rw[eb,g1,g2,Bool.false_or,Bool.true_or,if_pos rfl]
     exact⟨.inr ⟨rfl,Rounds.out (atU _ _ [ends hlt,ends hge,elem hx,ends g1,elem hx,elem hx,ends g2,ends (rfl:true=true)] (by kernel_rfl)) (by simp)⟩,by omega,by omega⟩
    rcases bc (decide (IntKind.i64.wrap ((w.2.1.length:Int)+(w.2.2.length:Int))>8)) with g3|g3
    ·rw[eb,g1,g2,g3,Bool.false_or,Bool.false_or,if_pos rfl]
     exact⟨.inr ⟨rfl,Rounds.out (atU _ _ [ends hlt,ends hge,elem hx,ends g1,elem hx,elem hx,ends g2,elem hx,elem hx,ends g3] (by kernel_rfl)) (by simp)⟩,by omega,by omega⟩
    ·rw[eb,g1,g2,g3,Bool.false_or,Bool.false_or,if_neg (by decide)]
     have hnb:bigF (Fm.mk k o op nn xs b w)=false:=by rw[eb,g1,g2,g3];rfl
     obtain⟨hC,hm,hM⟩:=hbx n (by omega) h1 hnb;generalize szF (Fm.mk k o op nn xs b w) n=m at hC hm hM ⊢;have hC:Con Tryz.prog 19 [.one (frow xs),num (IntKind.i64.wrap (n-1))] (.g (num m)):=by rw[wr (by omega) (by omega)];exact hC
     have step:=atU (c:=lp Tryz.f19 0) (p:=S59 l n i) .normal (S59 l m (IntKind.i64.wrap ((i:Int)+1))) [ends hlt,ends hge,elem hx,ends g1,elem hx,elem hx,ends g2,elem hx,elem hx,ends g3,elem hx,gives hC] (by kernel_rfl);rw[next_i i (by omega)] at step;obtain⟨i1,i2,i3⟩:=ih m hm (by omega);exact⟨i1.imp (fun h=>h.step' step) (fun h=>⟨h.1,h.2.step' step⟩),i2,by omega⟩
theorem size_row (l:List Fm) (hl:l.length≤140737488355328) (hr:∀x∈l,Raw x) (hb:∀x∈l,∀n,0≤n→n≤1000→bigF x=false→Con Tryz.prog 19 [.one (frow x.args),num (n-1)] (num (szF x n) |> .g) ∧ -1≤szF x n∧szF x n≤n) (n:Int) (h0 : -1≤n) (h1:n≤1000):Con Tryz.prog 19 [.one (frow l),num n] (.g (num (szL l n))) ∧ -1≤szL l n∧szL l n≤n:=by
 obtain⟨h,h2,h3⟩:=size_loop l hl hr hb l.length 0 n (by omega) h0 h1;rw[List.drop_zero] at h h2 h3;refine⟨?_,h2,h3⟩
 rcases h with h|⟨e,h⟩
 ·exact byU _ Tryz.func19 rfl [goes h.loop] (by kernel_rfl)
 ·rw[e]
  exact byU _ Tryz.func19 rfl [goes h.loop] (by kernel_rfl)
theorem size_sub {f:Fm} (h:Raw f):∀n,0≤n→n≤1000→bigF f=false→Con Tryz.prog 19 [.one (frow f.args),num (n-1)] (num (szF f n) |> .g) ∧ -1≤szF f n∧szF f n≤n:=by
 induction h with
 | @mk k o p nn a b w hn hw ha hx ih =>
   intro n h0 h1 hb;have e:szF (.mk k o p nn a b w) n=szL a (n-1):=by rw[szF,if_neg (by rw[hb];decide)]
   rw[e];obtain⟨c1,c2,c3⟩:=size_row a ha hx ih (n-1) (by omega) (by omega);exact⟨c1,c2,by omega⟩
theorem size_con (l:List Fm) (hl:l.length≤140737488355328) (hr:∀x∈l,Raw x) (n:Int) (h0 : -1≤n) (h1:n≤1000):Con Tryz.prog 19 [.one (frow l),num n] (.g (num (szL l n))):=(size_row l hl hr (fun x hx=>size_sub (hr x hx)) n h0 h1).1
end
section
mutual
def dpF:Fm→Nat
 | .mk k o p m a b w=>dpL a+1
def dpL:List Fm→Nat
 |[]=>0
 |f::r=>max (dpF f) (dpL r)
end
theorem dpL_mem:∀{l:List Fm} {x:Fm},x∈l→dpF x≤dpL l
 |f::r,x,h=>by
  rw[dpL];rcases List.mem_cons.1 h with rfl|h
  ·exact Nat.le_max_left _ _
  ·exact Nat.le_trans (dpL_mem h) (Nat.le_max_right _ _)
theorem maxI_nat (a b:Nat):maxI (a:Int) (b:Int)=((max a b:Nat):Int):=by
 unfold maxI;split<;>omega
def S60 (f:Fm) (m i:Int):St:=⟨sparse 22 [(1,.g (.one (.ptr 0 0))),(3,.g (num m)),(4,.g (num i))],[some (false,f.c)],0⟩
def S60x (m:Int):St:=⟨sparse 22 [(3,.g (num m))],[],0⟩
theorem deep_loop (k o:Int) (p:ByteArray) (nn:N3) (l:List Fm) (b:Bool) (w:N3) (hl:l.length≤140737488355328) (hc:∀x∈l,Con Tryz.prog 20 [.agg x.c] (.g (num (dpF x)))):∀(d i m:Nat),i+d=l.length →
  Rounds Tryz.prog (lp Tryz.f20 0) (S60 (.mk k o p nn l b w) m i) (.exit 0) (S60x ((max m (dpL (l.drop i)):Nat):Int))
 |0,i,m,h=>by
  have:i=l.length:=by omega
  subst this;rw[List.drop_eq_nil_of_le (Nat.le_refl _),dpL,Nat.max_zero];exact Rounds.out (atU _ _ [ends (show decide ((l.length:Int)<(l.length:Int))=false by simp)] (by kernel_rfl)) (by simp)
 |d+1,i,m,h=>by
  have hi:i<l.length:=by omega
  have hlt:decide ((i:Int)<(l.length:Int))=true:=by rw[decide_eq_true_iff];omega
  have hx:=fcs_at hi;have hC:=hc _ (List.getElem_mem hi);have ih:=deep_loop k o p nn l b w hl hc d (i+1) (max m (dpF l[i])) (by omega);rw[List.drop_eq_getElem_cons hi,dpL,←Nat.max_assoc];generalize l[i]=x at hx hC ih ⊢;rw[←maxI_nat] at ih;generalize dpF x=e at hC ih ⊢;obtain⟨k',o',p',n',xs,b',w'⟩:=x;have step:=atU (c:=lp Tryz.f20 0) (p:=S60 (.mk k o p nn l b w) m i) .normal (S60 (.mk k o p nn l b w) (maxI (m:Int) (e:Int)) (IntKind.i64.wrap ((i:Int)+1))) [ends hlt,elem hx,gives hC] (by kernel_rfl);rw[next_i i (by omega)] at step;exact ih.step' step
theorem deep_con {f:Fm} (h:Raw f):dpF f≤1000→Con Tryz.prog 20 [.agg f.c] (.g (num (dpF f))):=by
 induction h with
 | @mk k o p nn a b w hn hw ha hx ih =>
   intro hd;have e:dpF (.mk k o p nn a b w)=dpL a+1:=by rw[dpF]
   have L:=deep_loop k o p nn a b w ha (fun x hxa=>ih x hxa (by have:=dpL_mem hxa;omega)) a.length 0 0 (by omega);rw[List.drop_zero,Nat.zero_max] at L;have res:=byU (.g (num (IntKind.i64.wrap ((dpL a:Int)+1)))) Tryz.func20 rfl (xs:=[.agg (Fm.mk k o p nn a b w).c]) [goes L.loop] (by kernel_rfl);rw[wr (by omega) (by omega)] at res;rw[e];exact res
theorem szL_neg:∀(l:List Fm) (n:Int),n<0→szL l n<0
 |[],n,h=>by rw[szL];exact h
 |f::r,n,h=>by rw[szL,if_pos h];exact h
mutual
theorem dpF_le:∀(f:Fm) (n:Int),0≤n→0≤szF f n→bigF f=false→(dpF f:Int)+szF f n≤n
 | .mk k o p m a b w,n,h,hs,hb=>by
   have e:szF (.mk k o p m a b w) n=szL a (n-1):=by rw[szF,if_neg (by rw[hb];decide)]
   rw[e] at hs ⊢;rw[dpF];have h1:0≤n-1:=by
    by_cases hn:0≤n-1
    ·exact hn
    ·have:=szL_neg a (n-1) (by omega);omega
   have:=dpL_le a (n-1) h1 hs;omega
theorem dpL_le:∀(l:List Fm) (n:Int),0≤n→0≤szL l n→(dpL l:Int)+szL l n≤n
 |[],n,h,hs=>by rw[szL,dpL];omega
 |f::r,n,h,hs=>by
  rw[szL,if_neg (by omega)] at hs ⊢;by_cases hb:bigF f=true
  ·rw[if_pos hb] at hs;omega
  ·rw[if_neg hb] at hs ⊢
   have hb:bigF f=false:=by simpa using hb
   have hm:0≤szF f n:=by
    by_cases hm:0≤szF f n
    ·exact hm
    ·have:=szL_neg r (szF f n) (by omega);omega
   have h1:=dpF_le f n h hm hb;have h2:=dpL_le r (szF f n) hm hs;rw[dpL];omega
end
structure Vl.raw (v:Vl):Prop where
 num:v.num.raw
structure En.raw (e:En):Prop where
 time:e.time.raw
 outs:e.outs.length≤140737488355328
 each:∀v∈e.outs,v.raw
structure Tr.raw (t:Tr):Prop where
 l:t.l.length≤140737488355328
 each:∀e∈t.l,e.raw
 q:t.q.raw
theorem long_con20 (r:N3) (h:r.raw):Con Tryz.prog 34 [.agg r.c] (.g (truth (longN 8 r))):=by
 have e:longN 8 r=decide (IntKind.i64.wrap ((r.2.1.length:Int)+(r.2.2.length:Int))>8):=by rw[add_wr h.ln h.ld];rfl
 rw[e];exact byU _ Tryz.func34 rfl [] (by kernel_rfl)
def bigV (v:Vl):Bool:=longN 8 v.num||decide ((v.name.size:Int)>200)
def bigE (e:En):Bool:=decide ((e.outs.length:Int)>10)||longN 8 e.time
def fewE (e:En):Bool:=!bigE e&&e.outs.all fun v=>!bigV v
def few20F (t:Tr):Bool:=!(decide ((t.l.length:Int)>30)||longN 8 t.q)&&t.l.all fewE
def T0 (t:Tr) (i:Int):St:=⟨sparse 60 [(1,.g (.one (.ptr 0 0))),(3,.g (num i))],[some (false,t.c)],0⟩
def T0x:St:=⟨sparse 60 [],[],0⟩
def T1 (t:Tr) (i:Int) (e:En) (j:Int):St:=⟨sparse 60 [(1,.g (.one (.ptr 0 0))),(3,.g (num i)),(4,.g (.one (.ptr 1 0))),(5,.g (num j))],[some (false,t.c),some (false,e.c)],0⟩
def Tr0:St:=⟨sparse 60 [(2,.g (truth false))],[],0⟩
theorem few_inner (t:Tr) (i:Int) (e:En) (hl:e.outs.length≤140737488355328) (he:∀v∈e.outs,v.raw):∀(d j:Nat),j+d=e.outs.length →
  ((e.outs.drop j).all (fun v=>!bigV v)=true→Rounds Tryz.prog (lp Tryz.f21 1) (T1 t i e j) (.exit 2) (T0 t i))∧((e.outs.drop j).all (fun v=>!bigV v)=false→Rounds Tryz.prog (lp Tryz.f21 1) (T1 t i e j) .ret Tr0)
 |0,j,h=>by
  have:j=e.outs.length:=by omega
  subst this;rw[List.drop_eq_nil_of_le (Nat.le_refl _)];exact⟨fun _=>Rounds.out (atU _ _ [ends (show decide ((e.outs.length:Int)<(e.outs.length:Int))=false by simp)] (by kernel_rfl)) (by simp),fun h=>by cases h⟩
 |d+1,j,h=>by
  have hj:j<e.outs.length:=by omega
  have hlt:decide ((j:Int)<(e.outs.length:Int))=true:=by rw[decide_eq_true_iff];omega
  have hx:=vls_at hj;have hraw:=he _ (List.getElem_mem hj);have ih:=few_inner t i e hl he d (j+1) (by omega);rw[List.drop_eq_getElem_cons hj,List.all_cons];generalize e.outs[j]=v at hx hraw ⊢;have hC:=long_con20 v.num hraw.num;unfold bigV;rcases bc (longN 8 v.num) with g1|g1
  ·rw[g1] at hC ⊢
   exact⟨fun h=>by simp at h,fun _=>Rounds.out (atU _ _ [ends hlt,elem hx,gives hC,ends (rfl:true=true),ends (rfl:true=true)] (by kernel_rfl)) (by simp)⟩
  ·rw[g1] at hC ⊢
   rcases bc (decide ((v.name.size:Int)>200)) with g2|g2
   ·rw[g2]
    exact⟨fun h=>by simp at h,fun _=>Rounds.out (atU _ _ [ends hlt,elem hx,gives hC,ends (rfl:false=false),elem hx,ends g2] (by kernel_rfl)) (by simp)⟩
   ·rw[g2]
    have step:=atU (c:=lp Tryz.f21 1) (p:=T1 t i e j) .normal (T1 t i e (IntKind.i64.wrap ((j:Int)+1))) [ends hlt,elem hx,gives hC,ends (rfl:false=false),elem hx,ends g2] (by kernel_rfl);rw[next_i j (by omega)] at step;exact⟨fun h=>(ih.1 (by simpa[bigV] using h)).step' step,fun h=>(ih.2 (by simpa[bigV] using h)).step' step⟩
theorem few_outer (t:Tr) (hl:t.l.length≤140737488355328) (he:∀e∈t.l,e.raw):∀(d i:Nat),i+d=t.l.length →
  ((t.l.drop i).all fewE=true→Rounds Tryz.prog (lp Tryz.f21 0) (T0 t i) (.exit 0) T0x)∧((t.l.drop i).all fewE=false→Rounds Tryz.prog (lp Tryz.f21 0) (T0 t i) .ret Tr0)
 |0,i,h=>by
  have:i=t.l.length:=by omega
  subst this;rw[List.drop_eq_nil_of_le (Nat.le_refl _)];exact⟨fun _=>Rounds.out (atU _ _ [ends (show decide ((t.l.length:Int)<(t.l.length:Int))=false by simp)] (by kernel_rfl)) (by simp),fun h=>by cases h⟩
 |d+1,i,h=>by
  have hi:i<t.l.length:=by omega
  have hlt:decide ((i:Int)<(t.l.length:Int))=true:=by rw[decide_eq_true_iff];omega
  have hx:=ens_at hi;have hraw:=he _ (List.getElem_mem hi);have ih:=few_outer t hl he d (i+1) (by omega);rw[List.drop_eq_getElem_cons hi,List.all_cons];generalize t.l[i]=e at hx hraw ⊢;have hC:=long_con20 e.time hraw.time;unfold fewE bigE;rcases bc (decide ((e.outs.length:Int)>10)) with g1|g1
  ·rw[g1]
   exact⟨fun h=>by simp at h,fun _=>Rounds.out (atU _ _ [ends hlt,elem hx,ends g1,ends (rfl:true=true)] (by kernel_rfl)) (by simp)⟩
  ·rcases bc (longN 8 e.time) with g2|g2
   ·rw[g2] at hC
    rw[g1,g2];exact⟨fun h=>by simp at h,fun _=>Rounds.out (atU _ _ [ends hlt,elem hx,ends g1,gives hC,ends (rfl:true=true)] (by kernel_rfl)) (by simp)⟩
   ·rw[g2] at hC
    rw[g1,g2];have L:=few_inner t i e hraw.outs hraw.each e.outs.length 0 (by omega);rw[List.drop_zero] at L;rcases bc (e.outs.all fun v=>!bigV v) with g3|g3
    ·have step:=atU (c:=lp Tryz.f21 0) (p:=T0 t i) .normal (T0 t (IntKind.i64.wrap ((i:Int)+1))) [ends hlt,elem hx,ends g1,gives hC,ends (rfl:false=false),goes (L.1 g3).loop] (by kernel_rfl)
     rw[next_i i (by omega)] at step;exact⟨fun h=>(ih.1 (by rw[g3] at h;simpa[fewE,bigE] using h)).step' step,fun h=>(ih.2 (by rw[g3] at h;simpa[fewE,bigE] using h)).step' step⟩
    ·rw[g3]
     exact⟨fun h=>by simp at h,fun _=>Rounds.out (atU _ _ [ends hlt,elem hx,ends g1,gives hC,ends (rfl:false=false),goes (L.2 g3).loop] (by kernel_rfl)) (by simp)⟩
theorem few20_con (t:Tr) (h:t.raw):Con Tryz.prog 21 [.agg t.c] (.g (truth (few20F t))):=by
 have hC:=long_con20 t.q h.q;unfold few20F;rcases bc (decide ((t.l.length:Int)>30)) with g1|g1
 ·rw[g1]
  exact byU (.g (truth false)) Tryz.func21 rfl [ends g1,ends (rfl:true=true)] (by kernel_rfl)
 ·rcases bc (longN 8 t.q) with g2|g2
  ·rw[g2] at hC
   rw[g1,g2];exact byU (.g (truth false)) Tryz.func21 rfl [ends g1,gives hC,ends (rfl:true=true)] (by kernel_rfl)
  ·rw[g2] at hC
   rw[g1,g2];have L:=few_outer t h.l h.each t.l.length 0 (by omega);rw[List.drop_zero] at L;rcases bc (t.l.all fewE) with g3|g3
   ·rw[g3]
    exact byU (.g (truth true)) Tryz.func21 rfl [ends g1,gives hC,ends (rfl:false=false),goes (L.1 g3).loop] (by kernel_rfl)
   ·rw[g3]
    exact byU (.g (truth false)) Tryz.func21 rfl [ends g1,gives hC,ends (rfl:false=false),goes (L.2 g3).loop] (by kernel_rfl)
end
section
def FewF (f:Fm) (t:Tr):Bool:=decide (szL [f] 15≥0)&&(decide ((dpF f:Int)≤5)&&(few20F t&&decide ((t.l.length:Int)≤10)))
theorem Few_con (f:Fm) (t:Tr) (hf:Raw f) (ht:t.raw):Con Tryz.prog 6 [.agg f.c,.agg t.c] (.g (truth (FewF f t))):=by
 have h1:=size_con [f] (by simp) (fun x hx=>by rw[List.mem_singleton.1 hx];exact hf) 15 (by decide) (by decide);have h2:=deep_con hf;have h3:=few20_con t ht;have hd:szL [f] 15≥0→(dpF f:Int)≤15:=fun h=>by
  have:=dpL_le [f] 15 (by decide) h;rw[dpL,dpL] at this;omega
 unfold FewF;obtain⟨k,o,p,n,a,b,w⟩:=f;rcases bc (decide (szL [Fm.mk k o p n a b w] 15≥0)) with g1|g1
 ·rw[g1,Bool.true_and]
  have h2:=h2 (by have:=hd (of_decide_eq_true g1);omega);rcases bc (decide ((dpF (Fm.mk k o p n a b w):Int)≤5)) with g2|g2
  ·rw[g2,Bool.true_and]
   rcases bc (few20F t) with g3|g3
   ·rw[g3] at h3 ⊢
    exact byU (.g (truth (decide ((t.l.length:Int)≤10)))) Tryz.func6 rfl [gives h1,ends g1,gives h2,ends g2,gives h3,ends (rfl:true=true)] (by kernel_rfl)
   ·rw[g3] at h3 ⊢
    exact byU (.g (truth false)) Tryz.func6 rfl [gives h1,ends g1,gives h2,ends g2,gives h3,ends (rfl:false=false)] (by kernel_rfl)
  ·rw[g2]
   exact byU (.g (truth false)) Tryz.func6 rfl [gives h1,ends g1,gives h2,ends g2,ends (rfl:false=false)] (by kernel_rfl)
 ·rw[g1]
  exact byU (.g (truth false)) Tryz.func6 rfl [gives h1,ends g1,ends (rfl:false=false),ends (rfl:false=false)] (by kernel_rfl)
theorem N3.raw.ok {r:N3} (h:r.raw) {m:Int} (hm:m≤8) (hl:longN m r=false):few 8 r.2.1∧few 8 r.2.2:=by
 have:=of_decide_eq_false hl;exact⟨⟨h.n,by omega⟩,⟨h.d,by omega⟩⟩
theorem N3.ok_of {r:N3} (h:few 8 r.2.1∧few 8 r.2.2):r.ok:=⟨few_up h.1 (by decide),few_up h.2 (by decide)⟩
mutual
theorem fineF:∀(f:Fm) (n:Int),Raw f→bigF f=false→0≤szF f n→n≤1000→Fine f
 | .mk k o p m a b w,n,.mk hn hw ha hx,hb,hs,hN=>by
   have e:szF (.mk k o p m a b w) n=szL a (n-1):=by rw[szF,if_neg (by rw[hb];decide)]
   rw[e] at hs;unfold bigF at hb;rw[Bool.or_eq_false_iff,Bool.or_eq_false_iff] at hb;exact .mk (N3.ok_of (hn.ok (by decide) hb.2.1)) (N3.ok_of (hw.ok (by decide) hb.2.2)) (by omega) (fineL a (n-1) hx hs (by omega))
theorem fineL:∀(l:List Fm) (n:Int),(∀x∈l,Raw x)→0≤szL l n→n≤1000→∀x∈l,Fine x
 |[],n,_,_,_=>fun x hx=>by cases hx
 |f::r,n,hr,hs,hN=>by
  have hn:0≤n:=by
   by_cases h:0≤n
   ·exact h
   ·have:=szL_neg (f::r) n (by omega);omega
  rw[szL,if_neg (by omega)] at hs;by_cases hb:bigF f=true
  ·rw[if_pos hb] at hs;omega
  ·rw[if_neg hb] at hs
   have hb:bigF f=false:=by simpa using hb
   have hm:0≤szF f n:=by
    by_cases hm:0≤szF f n
    ·exact hm
    ·have:=szL_neg r (szF f n) (by omega);omega
   have h1:=dpF_le f n hn hm hb;intro x hx;rcases List.mem_cons.1 hx with e|hx
   ·rw[e];exact fineF f n (hr f (by simp)) hb hm hN
   ·exact fineL r (szF f n) (fun x hx=>hr x (by simp[hx])) hs (by omega) x hx
end
theorem few_fine {f:Fm} {t:Tr} (hf:Raw f) (ht:t.raw) (h:FewF f t=true):Fine f∧(∀e∈t.l,e.ok)∧t.l.length≤10:=by
 unfold FewF at h;rw[Bool.and_eq_true,Bool.and_eq_true,Bool.and_eq_true] at h;obtain⟨h1,_,h3,h4⟩:=h;refine⟨fineL [f] 15 (fun x hx=>by rw[List.mem_singleton.1 hx];exact hf) (of_decide_eq_true h1) (by decide) f (by simp),fun e he=>?_,by have:=of_decide_eq_true h4;omega⟩
 unfold few20F at h3;rw[Bool.and_eq_true] at h3;have h5:=List.all_eq_true.1 h3.2 e he;unfold fewE bigE at h5;rw[Bool.and_eq_true,Bool.not_eq_true',Bool.or_eq_false_iff] at h5;have hr:=ht.each e he;have ht8:=hr.time.ok (by decide) h5.1.2;refine⟨N3.ok_of ht8,short_rv (few_up ht8.1 (by decide)) (few_up ht8.2 (by decide)) (by decide),fun v hv=>?_⟩
 have h6:=List.all_eq_true.1 h5.2 v hv;unfold bigV at h6;rw[Bool.not_eq_true',Bool.or_eq_false_iff] at h6;exact N3.ok_of ((hr.each v hv).num.ok (by decide) h6.1)
def z3:N3:=(false,[],[])
theorem z3_ok:z3.ok:=⟨⟨fun x hx=>(by cases hx),by decide⟩,⟨fun x hx=>(by cases hx),by decide⟩⟩
def mkF (k:Int) (a:List Fm) (b:Bool) (w:N3):Fm:=.mk k 0 ⟨#[]⟩ z3 a b w
theorem fine_mk {k:Int} {a:List Fm} {b:Bool} {w:N3} (hw:w.ok) (ha:a.length<4000000000000000000) (hx:∀x∈a,Fine x):Fine (mkF k a b w):=.mk z3_ok hw ha hx
theorem brow_at {l:List Bool} {i:Nat} (h:i<l.length):(0:Int)≤(i:Int)∧(l.map fun b=>[AC.v (.bool b)])[(i:Int).toNat]?=some [.v (.bool l[i])]:=⟨by omega,by simp[h]⟩
def S30 (a b:List Bool) (i:Int):St:=⟨sparse 26 [(0,.g (.one (brow a))),(1,.g (.one (brow b))),(5,.g (num i))],[],0⟩
theorem samb_loop (a b:List Bool) (hl:a.length=b.length) (hb:a.length<4000000000000000000):∀(d i:Nat),i+d=a.length →
  (a.drop i=b.drop i→Rounds Tryz.prog (lp Tryz.f9 0) (S30 a b i) (.exit 0) ⟨sparse 26 [],[],0⟩)∧(a.drop i≠b.drop i→Rounds Tryz.prog (lp Tryz.f9 0) (S30 a b i) .ret ⟨sparse 26 [(4,.g (truth false))],[],0⟩)
 |0,i,h=>by
  have:i=a.length:=by omega
  subst this;refine⟨fun _=>Rounds.out (atU _ _ [ends (show decide ((a.length:Int)<(a.length:Int))=false by simp)] (by kernel_rfl)) (by simp),fun h=>?_⟩
  rw[List.drop_eq_nil_of_le (Nat.le_refl _),List.drop_eq_nil_of_le (by omega)] at h;exact absurd rfl h
 |d+1,i,h=>by
  have hi:i<a.length:=by omega
  have hj:i<b.length:=by omega
  have hlt:decide ((i:Int)<(a.length:Int))=true:=by rw[decide_eq_true_iff];omega
  have h1:=brow_at hi;have h2:=brow_at hj;have ih:=samb_loop a b hl hb d (i+1) (by omega);rw[List.drop_eq_getElem_cons hi,List.drop_eq_getElem_cons hj];generalize a[i]=x at h1 ⊢;generalize b[i]=y at h2 ⊢;rcases bc (!(x==y)) with g|g
  ·refine⟨fun h=>?_,fun _=>Rounds.out (atU _ _ [ends hlt,elem h1,elem h2,ends g] (by kernel_rfl)) (by simp)⟩
   have:x=y:=(List.cons.inj h).1;subst this;simp at g
  ·have e:x=y:=by simpa using g
   subst e;have step:=atU (c:=lp Tryz.f9 0) (p:=S30 a b i) .normal (S30 a b (IntKind.i64.wrap ((i:Int)+1))) [ends hlt,elem h1,elem h2,ends g] (by kernel_rfl);rw[next_i i (by omega)] at step;exact⟨fun h=>(ih.1 (List.cons.inj h).2).step' step,fun h=>(ih.2 (fun e=>h (by rw[e]))).step' step⟩
theorem samb_con (a b:List Bool) (hb:a.length<4000000000000000000):Con Tryz.prog 9 [.one (brow a),.one (brow b)] (.g (truth (decide (a=b)))):=by
 rcases bc ((a.length:Int) != (b.length:Int)) with g|g
 ·have:a≠b:=fun e=>by subst e;simp at g
  rw[decide_eq_false this];exact byU _ Tryz.func9 rfl [ends g] (by kernel_rfl)
 ·have hl:a.length=b.length:=by
   have:(a.length:Int)=(b.length:Int):=by simpa using g
   omega
  have L:=samb_loop a b hl hb a.length 0 (by omega);rw[List.drop_zero,List.drop_zero] at L;by_cases e:a=b
  ·rw[decide_eq_true e]
   exact byU _ Tryz.func9 rfl [ends g,goes (L.1 e).loop] (by kernel_rfl)
  ·rw[decide_eq_false e]
   exact byU _ Tryz.func9 rfl [ends g,goes (L.2 e).loop] (by kernel_rfl)
end
section
section
variable (b:Bool) (l d:List Int)
end
theorem rOf {n:Int} (h0 : -9223372036854775808≤n) (h1:n<9223372036854775808):Con Tryz.prog 28 [num n] (.g (ra (n:Rat))):=by
 have e:ra (n:Rat)=rat (decide (n<0)) (ofN n.natAbs) [1]:=by unfold ra;rw[Rat.num_intCast,Rat.den_intCast,one1];rfl
 rw[e];by_cases h:n<0
 ·exact by_ _ Tryz.func28 rfl [ends (decide_eq_true h),gives (rLimbs (X:=IntKind.u64.wrap (0-IntKind.u64.wrap n)) (by rw[Int.zero_sub];exact u64n h0 h) (by omega))] (by kernel_rfl)
 ·exact by_ _ Tryz.func28 rfl [ends (decide_eq_false h),gives (rLimbs (X:=IntKind.u64.wrap n) (n:=n.natAbs) (by rw[u64 (by omega) (by omega)];omega) (by omega))] (by kernel_rfl)
theorem bt_at {s:ByteArray} (h:0<s.size):(0:Int)≤0∧∃u:UInt8,s[(0:Int).toNat]?=some u∧bt s 0=(u.toNat:Int):=⟨by omega,s[0],by simp[h],by unfold bt;rw[dif_pos (by simpa using h)];rfl⟩
end
section
def LV:Lays:=(32,⟨6,[.v (.slice none 0 0),.v (.int .i64 0),.v (.bool false),.row 1 0 [],.row 1 0 [],.v (.int .i64 0)],.st [(0,30),(1,3),(2,26),(5,3)]⟩)::LU
theorem LV_ok:LaysOk Tryz.prog LV:=lays_ok (by kernel_rfl) (by kernel_rfl)
def DV:Drawn:=drawn LV
theorem DV_ok:DrawnOk Tryz.prog DV:=drawn_ok (by kernel_rfl) LV_ok
theorem byV {f:FuncId} {fn:Func} {c:Code} {xs:List AG} (r:AV) (hf:Tryz.prog.funcs[f]?=some fn) (hb:fn.body=some c) (pf:List (Prf Tryz.prog)) (h:evF LV DV fn c xs (Prf.ans pf)=some (r,[],Prf.dem pf)) (hname:(fn.name == "runtime.NumGoroutine")=false:=by kernel_rfl):Con Tryz.prog f xs r :=
 con_of LV_ok DV_ok pf hf hname hb h
theorem atVm (ms:List Nat) {c:Code} {p:St} (e:Exit) (q:St) (pf:List (Prf Tryz.prog)) (pl:List (List AC)) (hp:∀cs∈pl,Plain cs) (h:(match runC LV DV c p (Prf.ans pf) with
 |some (e',q',az,ds)=>(some (e',fit q q' ms,az,ds):Option (Exit×(St×List (List AC))×List Ans×List Dem))
 |none=>none)=some (e,(q,pl),[],Prf.dem pf)):CodeCon Tryz.prog c p e q:=code_of LV_ok DV_ok pf ms hp h
def raN (x:Rat):N3:=((ofZ x.num).1,(ofZ x.num).2,ofN x.den)
theorem raN_c (x:Rat):ra x=.agg (raN x).c:=rfl
theorem raN_q (x:Rat):(raN x).q=x:=rv_told x
theorem raN_ok {x:Rat} (h:short 600 x):(raN x).ok:=⟨few_up h.num (by decide),few_up h.den (by decide)⟩
def nV (x:Rat):Vl:=⟨2,raN x,⟨#[]⟩⟩
theorem num_con (x:Rat) (h:short 600 x):Con Tryz.prog 29 [.agg (raN x).c] (.g (.agg (nV x).c)):=by
 have N1:=rNorm (ofZ x.num).1 (ofZ x.num).2 (ofN x.den) (few_up h.num (by decide)) (few_up h.den (by decide));rw[rv_told,raN_c] at N1;exact byU _ Tryz.func29 rfl [gives N1] (by kernel_rfl)
def eA (a v:Int):En:=⟨raN (a:Rat),0,[nV (v:Rat)]⟩
theorem e1p (e:En):∀cs∈[e.c],Plain cs:=fun cs hc=>by rw[List.mem_singleton.1 hc];exact en_plain e
def el6:List (List AC):=[[.v (.int .i64 0)],[.v (.int .i64 1)],[.v (.int .i64 1)],[.v (.int .i64 5)],[.v (.int .i64 3)],[.v (.int .i64 2)]]
def row6:AC:=.row 1 6 el6
theorem at6 (i:Nat) (x:Int) (h:el6[i]?=some [.v (.int .i64 x)]):(0:Int)≤(i:Int)∧el6[(i:Int).toNat]?=some [.v (.int .i64 x)]:=⟨by omega,h⟩
def tC (c:AC):List AC:=[c,.v (.int .i64 0),.v (.bool false),.row 1 0 [],.row 1 0 [],.v (.int .i64 0)]
def Aw0:St:=⟨sparse 68 [(1,.g (.one (.ptr 0 0))),(2,.g (.one row6)),(3,.g (num 0))],[some (false,tC nilS)],0⟩
def AwN (n:Nat) (i:Int) (cs:List AC):St:=⟨sparse 68 [(1,.g (.one (.ptr 0 0))),(2,.g (.one row6)),(3,.g (num i))],[some (false,tC (.sl 1 48 5 n)),some (false,cs)],0⟩
theorem of_n (n:Int) (h:0≤n∧n<100):Con Tryz.prog 28 [num n] (.g (.agg (raN (n:Rat)).c)):=by
 have:=rOf (n:=n) (by omega) (by omega);rw[raN_c] at this;exact this
theorem sh_n (n:Int) (h:0≤n∧n<100):short 600 (n:Rat):=by
 refine⟨?_,?_⟩
 ·rw[Rat.num_intCast]
  exact Nat.le_trans (len_ofN_le (k:=1) (by simp;omega)) (by decide)
 ·rw[Rat.den_intCast,one1];decide
theorem aw0:CodeCon Tryz.prog (lp Tryz.f12 0) Aw0 .normal (AwN 1 2 (eA 0 1).c) :=
 atVm [] _ _ [ends (rfl:true=true),roomy 1,elem (at6 0 0 rfl),gives (of_n 0 (by decide)),elem (at6 1 1 rfl),gives (of_n 1 (by decide)),gives (num_con (1:Int) (sh_n 1 (by decide))),more (cs:=[]) (n:=0) (k:=5) (m:=1) (es:=[(eA 0 1).c]) (ds:=(eA 0 1).c) ⟨rfl,by decide,by decide,by simp⟩] [(eA 0 1).c] (e1p _) (by kernel_rfl)
def c2:List AC:=(eA 0 1).c++(eA 1 5).c
def c3:List AC:=c2++(eA 3 2).c
theorem app_plain {a b:List AC} (h:Plain a) (k:Plain b):∀cs∈[a++b],Plain cs:=fun cs hc c h2=>by
 rw[List.mem_singleton.1 hc] at h2;exact (List.mem_append.1 h2).elim (h c) (k c)
theorem p2:∀cs∈[c2],Plain cs:=app_plain (en_plain _) (en_plain _)
theorem p3:∀cs∈[c3],Plain cs:=app_plain (p2 _ (by simp)) (en_plain _)
theorem aw1:CodeCon Tryz.prog (lp Tryz.f12 0) (AwN 1 2 (eA 0 1).c) .normal (AwN 2 4 c2) :=
 atVm [] _ _ [ends (rfl:true=true),roomy 1,elem (at6 2 1 rfl),gives (of_n 1 (by decide)),elem (at6 3 5 rfl),gives (of_n 5 (by decide)),gives (num_con (5:Int) (sh_n 5 (by decide))),more (cs:=(eA 0 1).c) (n:=1) (k:=5) (m:=1) (es:=[(eA 1 5).c]) (ds:=c2) ⟨rfl,by decide,by decide,by simp[c2]⟩] [c2] p2 (by kernel_rfl)
theorem aw2:CodeCon Tryz.prog (lp Tryz.f12 0) (AwN 2 4 c2) .normal (AwN 3 6 c3) :=
 atVm [] _ _ [ends (rfl:true=true),roomy 1,elem (at6 4 3 rfl),gives (of_n 3 (by decide)),elem (at6 5 2 rfl),gives (of_n 2 (by decide)),gives (num_con (2:Int) (sh_n 2 (by decide))),more (cs:=c2) (n:=2) (k:=5) (m:=1) (es:=[(eA 3 2).c]) (ds:=c3) ⟨rfl,by decide,by decide,by simp[c3]⟩] [c3] p3 (by kernel_rfl)
def AwX:St:=⟨sparse 68 [(1,.g (.one (.ptr 0 0)))],[some (false,tC (.sl 1 48 5 3)),some (false,c3)],0⟩
theorem aw3:CodeCon Tryz.prog (lp Tryz.f12 0) (AwN 3 6 c3) (.exit 0) AwX :=
 atVm [] _ _ [ends (rfl:false=false)] [c3] p3 (by kernel_rfl)
theorem awl:CodeCon Tryz.prog (.loop (lp Tryz.f12 0)) Aw0 (.exit 0) AwX:=((((Rounds.out aw3 (by simp)).step' aw2).step' aw1).step' aw0).loop
def fC:Fm:=.mk 2 0 ⟨#[62]⟩ (raN ((3:Int):Rat)) [] false z3
def fO (b:Bool) (w:N3):Fm:=mkF 8 [fC] b w
def tE:Tr:=⟨[eA 0 1,eA 1 5,eA 3 2],0,z3,0⟩
theorem fO_fine (b:Bool) {w:N3} (hw:w.ok):Fine (fO b w):=fine_mk hw (by simp) (fun x hx=>by
 rw[List.mem_singleton.1 hx];exact .mk (raN_ok (sh_n 3 (by decide))) z3_ok (by simp) (fun x hx=>by cases hx))
theorem eA_ok {a v:Int} (ha:0≤a∧a<100) (hv:0≤v∧v<100):(eA a v).ok:=⟨raN_ok (sh_n a ha),by show short 600 (raN _).q;rw[raN_q];exact sh_n a ha,fun x hx=>by
 rw[List.mem_singleton.1 hx];exact raN_ok (sh_n v hv)⟩
theorem tE_ok:∀x∈tE.l,x.ok:=fun x hx=>by
 simp only[tE,List.mem_cons,List.not_mem_nil,or_false] at hx;rcases hx with rfl|rfl|rfl
 ·exact eA_ok (by decide) (by decide)
 ·exact eA_ok (by decide) (by decide)
 ·exact eA_ok (by decide) (by decide)
theorem z3_q:z3.q=0:=by
 show rv _ _ _=0
 unfold rv z3;rw[show val ([]:List Int)=0 from rfl,Rat.mkRat_zero]
theorem gt_list:(⟨#[62]⟩:ByteArray).toList=[62]:=by kernel_rfl
theorem fC_right (d:Nat):rightN (d+1) fC=true:=by
 show (match kinds 2 ⟨#[62]⟩ with
  |none=>false
  |some n=>((([]:List Fm).length:Int)==n)&&(decide (sgn z3.q.num≥0)&&!([]:List Fm).any fun x=>!rightN d x))=true
 rw[show kinds 2 ⟨#[62]⟩=some 0 by kernel_rfl,z3_q];rfl
theorem fO_right (b:Bool) (w:N3) (h:w.q=0∨w.q=1):rightN 40 (fO b w)=true:=by
 show (match kinds 8 ⟨#[]⟩ with
  |none=>false
  |some n=>(([fC].length:Int)==n)&&(decide (sgn w.q.num≥0)&&![fC].any fun x=>!rightN 39 x))=true
 rw[show kinds 8 ⟨#[]⟩=some 1 by kernel_rfl];simp only[List.any_cons,List.any_nil,fC_right 38,Bool.not_true,Bool.or_false,Bool.not_false,Bool.and_true];rcases h with h|h<;>rw[h]<;>rfl
theorem tE_sorted:sortedF tE.l=true:=by
 show srt _ 2=true
 simp[srt,tE,eA,raN_q,cmpR]
 decide
theorem at_c (v a:Int):atomF fC (eA a v)=decide (cmpR (v:Rat) ((3:Int):Rat)>0):=by
 have:atomF fC (eA a v)=compareF ⟨#[62]⟩ (raN (v:Rat)).q (raN ((3:Int):Rat)).q:=by rfl
 rw[this,raN_q,raN_q];unfold compareF;rw[gt_list];rfl
theorem q_of (a v:Int):(eA a v).time.q=(a:Rat):=raN_q _
theorem fO_run (b:Bool) (w:N3):runB (ofF (fO b w)) tE.l=[false,!b||decide (cmpR (((1:Int):Rat)-((1:Int):Rat)) w.q≤0),!b||decide (cmpR (((3:Int):Rat)-((1:Int):Rat)) w.q≤0)]:=by
 have e:ofF (fO b w)=.once (fO b w) none (.atom fC):=by
  simp[fO,mkF,ofF,ofL,ofK,Fm.kind,fC]
 rw[e];have d1:decide (cmpR (((1:Int)):Rat) ((3:Int):Rat)>0)=false:=by decide
 have d5:decide (cmpR (((5:Int)):Rat) ((3:Int):Rat)>0)=true:=by decide
 have d2:decide (cmpR (((2:Int)):Rat) ((3:Int):Rat)>0)=false:=by decide
 simp only[tE,runB,Wt.run,at_c,d1,d5,d2,cond_true,cond_false,countsF,q_of];rfl
theorem evalB_fO (b:Bool) (w:N3) (h:w.q=0∨w.q=1):evalB (fO b w) tE=[false,!b||decide (cmpR (((1:Int):Rat)-((1:Int):Rat)) w.q≤0),!b||decide (cmpR (((3:Int):Rat)-((1:Int):Rat)) w.q≤0)]:=by
 unfold evalB;rw[fO_right b w h,tE_sorted];exact fO_run b w
theorem evalE_fO (b:Bool) (w:N3) (h:w.q=0∨w.q=1):evalE (fO b w) tE=0:=by
 unfold evalE;rw[fO_right b w h,tE_sorted];rfl
theorem aw_eval1:Con Tryz.prog 7 [.agg (fO false z3).c,.agg tE.c] (.tup [.one (brow [false,true,true]),num 0]):=by
 have:=eval_con (fO false z3) tE (fO_fine _ z3_ok) tE_ok (by decide);rw[evalB_fO _ _ (.inl z3_q),evalE_fO _ _ (.inl z3_q)] at this;exact this
theorem aw_eval2:Con Tryz.prog 7 [.agg (fO true (raN ((1:Int):Rat))).c,.agg tE.c] (.tup [.one (brow [false,true,false]),num 0]):=by
 have:=eval_con (fO true (raN ((1:Int):Rat))) tE (fO_fine _ (raN_ok (sh_n 1 (by decide)))) tE_ok (by decide);have h1:(raN ((1:Int):Rat)).q=1:=by rw[raN_q];rfl
 rw[evalB_fO _ _ (.inr h1),evalE_fO _ _ (.inr h1),raN_q] at this;rw[show [false,!true||decide (cmpR (((1:Int):Rat)-((1:Int):Rat)) ((1:Int):Rat)≤0),!true||decide (cmpR (((3:Int):Rat)-((1:Int):Rat)) ((1:Int):Rat)≤0)]=[false,true,false] by decide +kernel] at this;exact this
theorem awake27:Con Tryz.prog 12 [] (.g (truth true)):=byV (.g (truth true)) Tryz.func12 rfl
 [goes awl,gives (of_n 3 (by decide)),frozen 1 3 5 1 [(eA 0 1).c,(eA 1 5).c,(eA 3 2).c] (show c3=_ by simp[c3,c2]) (fun x hx=>by
   simp only[List.mem_cons,List.not_mem_nil,or_false] at hx;rcases hx with rfl|rfl|rfl<;>rfl) rfl (fun x hx c hc=>by
   simp only[List.mem_cons,List.not_mem_nil,or_false] at hx;rcases hx with rfl|rfl|rfl<;>exact en_plain _ c hc),gives aw_eval1,gives (of_n 1 (by decide)),gives aw_eval2,ends (rfl:true=true),ends (rfl:true=true),gives (samb_con [false,true,true] [false,true,true] (by decide)),ends (rfl:true=true),gives (samb_con [false,true,false] [false,true,false] (by decide))] (by kernel_rfl)
end
section
theorem runB_len:∀(es:List En) (x:Wt),(runB x es).length=es.length
 |[],x=>rfl
 |e::r,x=>by simp[runB,runB_len r]
theorem evalB_len (f:Fm) (t:Tr):(evalB f t).length≤t.l.length:=by
 unfold evalB;cases rightN 40 f&&sortedF t.l with
 |true=>rw[cond_true,runB_len];exact Nat.le_refl _
 |false=>exact Nat.zero_le _
end
section
def anyN (q:Nat→Bool):Nat→Nat→Bool
 |0,_=>false
 |d+1,k=>q k||anyN q d (k+1)
def sncN (c p q:Nat→Bool):Nat→Bool
 |0=>false
 |k+1=>(c k&&q k)||(p k&&sncN c p q k)
def cntF (f:Fm) (l:List En) (i k:Nat):Bool:=match l[i]?,l[k]? with
 |some x,some y=>!f.bound||decide (cmpR (x.time.q-y.time.q) f.within.q≤0)
 |_,_=>false
def hK (f:Fm) (l:List En) (p q:Nat→Bool) (i:Nat):Bool :=
 if f.kind=1∨f.kind=2∨f.kind=3 then (match l[i]? with
  |some e=>atomF f e
  |none=>false)
 else if f.kind=4 then !p i
 else if f.kind=5 then p i&&q i
 else if f.kind=6 then p i||q i
 else if f.kind=7 then decide (0<i)&&p (i-1)
 else if f.kind=8 then anyN (fun j=>cntF f l i j&&p j) (i+1) 0
 else if f.kind=9 then !anyN (fun j=>cntF f l i j&&!p j) (i+1) 0
 else sncN (cntF f l i) p q (i+1)
def hN (l:List En):Nat→Fm→Nat→Bool
 |0,_,_=>false
 |d+1,f,i=>hK f l (fun k=>match f.args[0]? with
  |some g=>hN l d g k
  |none=>false) (fun k=>match f.args[1]? with
  |some g=>hN l d g k
  |none=>false) i
def Tells (x:Wt) (es:List En) (p:Nat→Bool):Prop:=∀i,i<es.length→(runB x es)[i]?=some (p i)
theorem tells_cons {x:Wt} {e:En} {r:List En} {p:Nat→Bool}:Tells x (e::r) p↔(x.run e).1=p 0∧Tells (x.run e).2 r (fun i=>p (i+1)):=by
 refine⟨fun h=>⟨?_,fun i hi=>?_⟩,fun h i hi=>?_⟩
 ·have:=h 0 (by simp)
  simpa[runB] using this
 ·have:=h (i+1) (by simpa using hi)
  simpa[runB] using this
 ·cases i with
  |zero=>simp[runB,h.1]
  |succ i =>
   have:=h.2 i (by simpa using hi);simpa[runB] using this
theorem tells_not:∀{es:List En} {x:Wt} {p:Nat→Bool},Tells x es p→Tells (.not x) es (fun i=>!p i)
 |[],x,p,_=>fun i hi=>by cases hi
 |e::r,x,p,h=>by
  obtain⟨h1,h2⟩:=tells_cons.1 h;exact tells_cons.2 ⟨by simp[Wt.run,h1],by simpa[Wt.run] using tells_not h2⟩
theorem tells_both (an:Bool):∀{es:List En} {x y:Wt} {p q:Nat→Bool},Tells x es p→Tells y es q→Tells (.both an x y) es (fun i=>bif an then p i&&q i else p i||q i)
 |[],x,y,p,q,_,_=>fun i hi=>by cases hi
 |e::r,x,y,p,q,h,k=>by
  obtain⟨h1,h2⟩:=tells_cons.1 h;obtain⟨k1,k2⟩:=tells_cons.1 k;exact tells_cons.2 ⟨by simp[Wt.run,h1,k1],by simpa[Wt.run] using tells_both an h2 k2⟩
theorem tells_prev:∀{es:List En} {x:Wt} {p:Nat→Bool} {b:Bool},Tells x es p→Tells (.prev b x) es (fun i=>match i with
  |0=>b
  |i+1=>p i)
 |[],x,p,b,_=>fun i hi=>by cases hi
 |e::r,x,p,b,h=>by
  obtain⟨h1,h2⟩:=tells_cons.1 h;refine tells_cons.2 ⟨rfl,?_⟩
  have:=tells_prev (b:=p 0) h2;simp only[Wt.run,h1];intro i hi;rw[this i hi];cases i<;>rfl
def stp (o:Option N3) (p q:Bool) (t:N3):Option N3:=bif q then some t else bif p then o else none
def lastS (es:List En) (p q:Nat→Bool) (o:Option N3):Nat→Option N3
 |0=>(es[0]?).bind fun e=>stp o (p 0) (q 0) e.time
 |k+1=>(es[k+1]?).bind fun e=>stp (lastS es p q o k) (p (k+1)) (q (k+1)) e.time
theorem last_cons {e:En} {r:List En} {p q:Nat→Bool} {o:Option N3}:∀i,lastS (e::r) p q o (i+1)=lastS r (fun i=>p (i+1)) (fun i=>q (i+1)) (stp o (p 0) (q 0) e.time) i
 |0=>rfl
 |i+1=>by
  rw[lastS,last_cons i];rfl
theorem tells_since (F:Fm):∀{es:List En} {x y:Wt} {p q:Nat→Bool} {o:Option N3},Tells x es p→Tells y es q→Tells (.since F o x y) es (fun i=>match es[i]? with
  |some e=>countsF F (lastS es p q o i) e.time
  |none=>false)
 |[],x,y,p,q,o,_,_=>fun i hi=>by cases hi
 |e::r,x,y,p,q,o,h,k=>by
  obtain⟨h1,h2⟩:=tells_cons.1 h;obtain⟨k1,k2⟩:=tells_cons.1 k;refine tells_cons.2 ⟨by simp[Wt.run,h1,k1,lastS,stp],?_⟩
  have:=tells_since F (o:=stp o (p 0) (q 0) e.time) h2 k2;simp only[Wt.run,h1,k1];intro i hi;have t:=this i hi;simp only[stp] at t ⊢;rw[t];simp only[List.getElem?_cons_succ];rw[last_cons i];rfl
theorem once_is (F:Fm) (x:Wt):∀(es:List En) (l:Option N3) (x y:Wt),runB (.once F l y) es=runB (.since F l (.both false x (.not x)) y) es
 |[],l,x,y=>rfl
 |e::r,l,x,y=>by
  simp only[runB,Wt.run,cond_false];have:((x.run e).1||!(x.run e).1)=true:=by cases (x.run e).1<;>rfl
  rw[once_is F (x.run e).2 r _ (x.run e).2 (y.run e).2,this,cond_true]
theorem tells_once (F:Fm) {es:List En} {x:Wt} {p:Nat→Bool} (h:Tells x es p):Tells (.once F none x) es (fun i=>match es[i]? with
  |some e=>countsF F (lastS es (fun _=>true) p none i) e.time
  |none=>false):=by
 intro i hi;rw[once_is F x es none x x];refine tells_since F (p:=fun _=>true) (fun i hi=>?_) h i hi
 have:=tells_both false h (tells_not h) i hi;rw[this];simp only[cond_false];cases p i<;>rfl
theorem srt_at_ {l:List En} (h:sortedF l=true):∀j,j<l.length→srt l j=true:=by
 intro j hj;unfold sortedF at h;have key:∀d j,j+d<l.length→srt l (j+d)=true→srt l j=true:=by
  intro d
  induction d with
  |zero=>exact fun j _ h=>h
  |succ d ih =>
   intro j hl h;have h2:srt l ((j+d)+1)=true:=h;unfold srt at h2;rw[List.getElem?_eq_getElem (by omega),List.getElem?_eq_getElem (by omega)] at h2;simp only at h2;refine ih j (by omega) ?_
   cases hc:decide (cmpR l[j+d+1].time.q l[j+d].time.q<0) with
   |true=>rw[hc] at h2;cases h2
   |false=>rw[hc] at h2;exact h2
 exact key (l.length-1-j) j (by omega) (by rw[show j+(l.length-1-j)=l.length-1 by omega];exact h)
theorem cmpR_nlt {x y:Rat}:¬cmpR x y<0↔y≤x:=by
 unfold cmpR;rw[←Rat.not_lt];by_cases h1:x<y
 ·rw[if_pos h1];exact⟨fun h=>absurd (by decide) h,fun h=>absurd h1 h⟩
 ·rw[if_neg h1]
  by_cases h2:y<x
  ·rw[if_pos h2];exact⟨fun _=>h1,fun _=>by decide⟩
  ·rw[if_neg h2];exact⟨fun _=>h1,fun _=>by decide⟩
theorem time_step {l:List En} (h:sortedF l=true) {j:Nat} (hj:j+1<l.length):l[j].time.q≤l[j+1].time.q:=by
 have h2:=srt_at_ h (j+1) hj;unfold srt at h2;rw[List.getElem?_eq_getElem hj,List.getElem?_eq_getElem (by omega)] at h2;simp only at h2;cases hc:decide (cmpR l[j+1].time.q l[j].time.q<0) with
 |true=>rw[hc] at h2;cases h2
 |false=>exact cmpR_nlt.1 (of_decide_eq_false hc)
theorem time_le {l:List En} (h:sortedF l=true):∀d j (hj:j+d<l.length),(l[j]'(by omega)).time.q≤(l[j+d]).time.q
 |0,j,hj=>Rat.le_refl
 |d+1,j,hj=>Rat.le_trans (time_le h d j (by omega)) (time_step h (j:=j+d) hj)
theorem cnt_mono {f:Fm} {l:List En} (h:sortedF l=true) {i j k:Nat} (hjk:j≤k) (hk:k<l.length) (hc:cntF f l i j=true):cntF f l i k=true:=by
 unfold cntF at *;cases hi:l[i]? with
 |none=>rw[hi] at hc;cases hc
 |some x =>
  rw[hi,List.getElem?_eq_getElem (show j<l.length by omega)] at hc;rw[List.getElem?_eq_getElem hk];simp only at hc ⊢;rw[Bool.or_eq_true] at hc ⊢;refine hc.imp id (fun hd=>?_)
  rw[decide_eq_true_iff] at hd ⊢;have ht:=time_le h (k-j) j (by omega);have e:l[j+(k-j)]'(by omega)=l[k]:=by congr 1;omega
  rw[e] at ht;have key:x.time.q-l[k].time.q≤x.time.q-l[j].time.q:=by grind
  have a1:x.time.q-l[j].time.q≤f.within.q:=by
   have:¬cmpR f.within.q (x.time.q-l[j].time.q)<0:=by rw[cmpR_anti];omega
   exact cmpR_nlt.1 this
  have:¬cmpR f.within.q (x.time.q-l[k].time.q)<0:=cmpR_nlt.2 (Rat.le_trans key a1);rw[cmpR_anti] at this;omega
theorem snc_some {c p q:Nat→Bool}:∀{m:Nat},sncN c p q m=true→∃j,j<m∧c j=true
 |0,h=>by cases h
 |k+1,h=>by
  unfold sncN at h;rw[Bool.or_eq_true,Bool.and_eq_true,Bool.and_eq_true] at h;rcases h with h|h
  ·exact⟨k,by omega,h.1⟩
  ·obtain⟨j,hj,hc⟩:=snc_some h.2
   exact⟨j,by omega,hc⟩
theorem any_snc {c q:Nat→Bool} (m:Nat):anyN (fun j=>c j&&q j) m 0=sncN c (fun _=>true) q m:=by
 have key:∀(r:Nat→Bool) d k,anyN r (d+1) k=(anyN r d k||r (k+d)):=by
  intro r d
  induction d with
  |zero=>intro k;simp[anyN]
  |succ d ih =>
   intro k;rw[anyN,ih (k+1),anyN,Bool.or_assoc];rw[show k+1+d=k+(d+1) by omega]
 induction m with
 |zero=>rfl
 |succ m ih=>rw[key,ih,sncN,Nat.zero_add,Bool.true_and,Bool.or_comm]
theorem since_is {f:Fm} {l:List En} {p q:Nat→Bool} (h:sortedF l=true) {i:Nat} (hi:i<l.length):∀k,k≤i→countsF f (lastS l p q none k) l[i].time=sncN (cntF f l i) p q (k+1):=by
 have one:∀k (hk:k<l.length),countsF f (some l[k].time) l[i].time=cntF f l i k:=fun k hk=>by
  unfold countsF cntF;rw[List.getElem?_eq_getElem hi,List.getElem?_eq_getElem hk]
 intro k
 induction k with
 |zero =>
  intro hk;rw[lastS,sncN,sncN,List.getElem?_eq_getElem (by omega),Bool.and_false,Bool.or_false];show countsF f (stp none (p 0) (q 0) _) _=_
  unfold stp;cases q 0 with
  |true=>rw[cond_true,Bool.and_true];exact one 0 (by omega)
  |false=>cases p 0<;>simp[countsF]
 |succ k ih =>
  intro hk;have ih:=ih (by omega);rw[lastS,sncN,List.getElem?_eq_getElem (by omega)];show countsF f (stp _ (p (k+1)) (q (k+1)) _) _=_
  unfold stp;cases hq:q (k+1) with
  |true =>
   rw[cond_true,Bool.and_true,one (k+1) (by omega)];cases hc:cntF f l i (k+1) with
   |true=>rfl
   |false =>
    cases hs:sncN (cntF f l i) p q (k+1) with
    |false=>simp
    |true =>
     obtain⟨j,hj,hcj⟩:=snc_some hs;rw[cnt_mono h (show j≤k+1 by omega) (by omega) hcj] at hc;cases hc
  |false =>
   rw[cond_false,Bool.and_false,Bool.false_or];cases p (k+1) with
   |true=>rw[cond_true,Bool.true_and];exact ih
   |false=>rw[cond_false,Bool.false_and];rfl
theorem Tells.to {x:Wt} {es:List En} {p q:Nat→Bool} (h:Tells x es p) (e:∀i,i<es.length→p i=q i):Tells x es q:=fun i hi=>by rw[h i hi,e i hi]
theorem right_cases {d:Nat} {k o:Int} {p:ByteArray} {n:N3} {a:List Fm} {b:Bool} {w:N3} (hr:rightN (d+1) (.mk k o p n a b w)=true) :
  ((k=1∨k=2∨k=3)∧a=[])∨(∃x,a=[x]∧(k=4∨k=7∨k=8∨k=9)∧rightN d x=true)∨∃x y,a=[x,y]∧(k=5∨k=6∨k=10)∧rightN d x=true∧rightN d y=true:=by
 have hr:(match kinds k p with
  |none=>false
  |some n=>((a.length:Int)==n)&&(decide (sgn w.q.num≥0)&&!a.any fun x=>!rightN d x))=true:=hr
 cases hk:kinds k p with
 |none=>rw[hk] at hr;cases hr
 |some m =>
  rw[hk] at hr;simp only[Bool.and_eq_true,beq_iff_eq] at hr;obtain⟨h1,_,h3⟩:=hr;have h3:∀x∈a,rightN d x=true:=fun x hx=>by
   simp only[Bool.not_eq_true',List.any_eq_false,Bool.not_eq_true] at h3;simpa using h3 x hx
  unfold kinds at hk;split at hk
  ·rename_i hh
   cases hk;refine .inl ⟨by omega,List.eq_nil_of_length_eq_zero (by omega)⟩
  ·split at hk
   ·split at hk
    ·cases hk
     exact .inl ⟨by omega,List.eq_nil_of_length_eq_zero (by omega)⟩
    ·cases hk
   ·split at hk
    ·rename_i hh
     cases hk;obtain⟨x,rfl⟩:=List.length_eq_one_iff.1 (show a.length=1 by omega);exact .inr (.inl ⟨x,rfl,hh,h3 x (by simp)⟩)
    ·split at hk
     ·rename_i hh
      cases hk
      match a,h1 with
      |[x,y],_=>exact .inr (.inr ⟨x,y,rfl,hh,h3 x (by simp),h3 y (by simp)⟩)
     ·cases hk
theorem tells_atom (f:Fm):∀(es:List En),Tells (.atom f) es (fun i=>match es[i]? with
  |some e=>atomF f e
  |none=>false)
 |[]=>fun i hi=>by cases hi
 |e::r=>tells_cons.2 ⟨rfl,tells_atom f r⟩
theorem holds_is {l:List En} (h:sortedF l=true):∀(d:Nat) (f:Fm),rightN d f=true→Tells (ofF f) l (hN l d f)
 |0,f,hr=>by cases hr
 |d+1,.mk k o p n a b w,hr=>by
  have e:∀i (hi:i<l.length) (o':Option N3) (g:Fm),(match l[i]? with
   |some e=>countsF g o' e.time
   |none=>false)=countsF g o' l[i].time:=fun i hi o' g=>by rw[List.getElem?_eq_getElem hi]
  rcases right_cases hr with⟨hk,rfl⟩|⟨x,rfl,hk,hx⟩|⟨x,y,rfl,hk,hx,hy⟩
  ·refine Tells.to (show Tells (ofF (.mk k o p n [] b w)) l _ from tells_atom _ l) (fun i hi=>?_)
   show _=hK _ _ _ _ _
   unfold hK;rw[if_pos (by exact hk)]
  ·have ih:=holds_is h d x hx
   rcases hk with rfl|rfl|rfl|rfl
   ·exact Tells.to (show Tells (ofF (.mk 4 o p n [x] b w)) l _ from tells_not ih) (fun i hi=>rfl)
   ·refine Tells.to (show Tells (ofF (.mk 7 o p n [x] b w)) l _ from tells_prev (b:=false) ih) (fun i hi=>?_)
    cases i<;>rfl
   ·refine Tells.to (show Tells (ofF (.mk 8 o p n [x] b w)) l _ from tells_once (.mk 8 o p n [x] b w) ih) (fun i hi=>?_)
    show _=anyN (fun j=>cntF (.mk 8 o p n [x] b w) l i j&&hN l d x j) (i+1) 0
    rw[e i hi,since_is h hi i (Nat.le_refl _),any_snc]
   ·refine Tells.to (show Tells (ofF (.mk 9 o p n [x] b w)) l _ from tells_not (tells_once (.mk 9 o p n [x] b w) (tells_not ih))) (fun i hi=>?_)
    show (!_)=!anyN (fun j=>cntF (.mk 9 o p n [x] b w) l i j&&!hN l d x j) (i+1) 0
    rw[e i hi,since_is h hi i (Nat.le_refl _),any_snc]
  ·have ih:=holds_is h d x hx
   have ik:=holds_is h d y hy;rcases hk with rfl|rfl|rfl
   ·exact Tells.to (show Tells (ofF (.mk 5 o p n [x,y] b w)) l _ from tells_both true ih ik) (fun i hi=>rfl)
   ·exact Tells.to (show Tells (ofF (.mk 6 o p n [x,y] b w)) l _ from tells_both false ih ik) (fun i hi=>rfl)
   ·refine Tells.to (show Tells (ofF (.mk 10 o p n [x,y] b w)) l _ from tells_since (.mk 10 o p n [x,y] b w) ih ik) (fun i hi=>?_)
    show _=sncN (cntF (.mk 10 o p n [x,y] b w) l i) (hN l d x) (hN l d y) (i+1)
    rw[e i hi,since_is h hi i (Nat.le_refl _)]
theorem run_holds {l:List En} (h:sortedF l=true) {d:Nat} {f:Fm} (hr:rightN d f=true):runB (ofF f) l=(List.range l.length).map (hN l d f):=by
 have:=holds_is h d f hr;refine List.ext_getElem? (fun i=>?_)
 rcases Nat.lt_or_ge i l.length with hi|hi
 ·rw[this i hi,List.getElem?_map,List.getElem?_range hi]
  rfl
 ·rw[List.getElem?_eq_none (by rw[runB_len];exact hi),List.getElem?_eq_none (by simpa using hi)]
end
section
def argsF (k:Int):Int:=if k=1∨k=2∨k=3 then 0 else if k=4∨k=7∨k=8∨k=9 then 1 else if k=5∨k=6∨k=10 then 2 else -1
theorem args_con (k:Int):Con Tryz.prog 45 [num k] (.g (num (argsF k))):=by
 by_cases h1:k=1∨k=2∨k=3∨k=4∨k=7∨k=8∨k=9∨k=5∨k=6∨k=10
 ·rcases h1 with rfl|rfl|rfl|rfl|rfl|rfl|rfl|rfl|rfl|rfl
  ·exact byU (.g (num 0)) Tryz.func45 rfl [ends (rfl:((1:Int)==1)=true),ends (rfl:((1:Int)==1)=true)] (by kernel_rfl)
  ·exact byU (.g (num 0)) Tryz.func45 rfl [ends (rfl:((2:Int)==1)=false),ends (rfl:((2:Int)==2)=true),ends (rfl:((2:Int)==2)=true)] (by kernel_rfl)
  ·exact byU (.g (num 0)) Tryz.func45 rfl [ends (rfl:((3:Int)==1)=false),ends (rfl:((3:Int)==2)=false),ends (rfl:((3:Int)==3)=true)] (by kernel_rfl)
  ·exact byU (.g (num 1)) Tryz.func45 rfl [ends (rfl:((4:Int)==1)=false),ends (rfl:((4:Int)==2)=false),ends (rfl:((4:Int)==3)=false),ends (rfl:((4:Int)==4)=true),ends (rfl:((4:Int)==4)=true)] (by kernel_rfl)
  ·exact byU (.g (num 1)) Tryz.func45 rfl [ends (rfl:((7:Int)==1)=false),ends (rfl:((7:Int)==2)=false),ends (rfl:((7:Int)==3)=false),ends (rfl:((7:Int)==4)=false),ends (rfl:((7:Int)==7)=true),ends (rfl:((7:Int)==7)=true)] (by kernel_rfl)
  ·exact byU (.g (num 1)) Tryz.func45 rfl [ends (rfl:((8:Int)==1)=false),ends (rfl:((8:Int)==2)=false),ends (rfl:((8:Int)==3)=false),ends (rfl:((8:Int)==4)=false),ends (rfl:((8:Int)==7)=false),ends (rfl:((8:Int)==8)=true),ends (rfl:((8:Int)==8)=true)] (by kernel_rfl)
  ·exact byU (.g (num 1)) Tryz.func45 rfl [ends (rfl:((9:Int)==1)=false),ends (rfl:((9:Int)==2)=false),ends (rfl:((9:Int)==3)=false),ends (rfl:((9:Int)==4)=false),ends (rfl:((9:Int)==7)=false),ends (rfl:((9:Int)==8)=false),ends (rfl:((9:Int)==9)=true)] (by kernel_rfl)
  ·exact byU (.g (num 2)) Tryz.func45 rfl [ends (rfl:((5:Int)==1)=false),ends (rfl:((5:Int)==2)=false),ends (rfl:((5:Int)==3)=false),ends (rfl:((5:Int)==4)=false),ends (rfl:((5:Int)==7)=false),ends (rfl:((5:Int)==8)=false),ends (rfl:((5:Int)==9)=false),ends (rfl:((5:Int)==5)=true),ends (rfl:((5:Int)==5)=true)] (by kernel_rfl)
  ·exact byU (.g (num 2)) Tryz.func45 rfl [ends (rfl:((6:Int)==1)=false),ends (rfl:((6:Int)==2)=false),ends (rfl:((6:Int)==3)=false),ends (rfl:((6:Int)==4)=false),ends (rfl:((6:Int)==7)=false),ends (rfl:((6:Int)==8)=false),ends (rfl:((6:Int)==9)=false),ends (rfl:((6:Int)==5)=false),ends (rfl:((6:Int)==6)=true),ends (rfl:((6:Int)==6)=true)] (by kernel_rfl)
  ·exact byU (.g (num 2)) Tryz.func45 rfl [ends (rfl:((10:Int)==1)=false),ends (rfl:((10:Int)==2)=false),ends (rfl:((10:Int)==3)=false),ends (rfl:((10:Int)==4)=false),ends (rfl:((10:Int)==7)=false),ends (rfl:((10:Int)==8)=false),ends (rfl:((10:Int)==9)=false),ends (rfl:((10:Int)==5)=false),ends (rfl:((10:Int)==6)=false),ends (rfl:((10:Int)==10)=true)] (by kernel_rfl)
 ·have ne:∀c:Int,k≠c→(k==c)=false:=fun c h=>by rw[beq_eq_false_iff_ne];exact h
  have e:argsF k = -1:=by unfold argsF;rw[if_neg (by omega),if_neg (by omega),if_neg (by omega)]
  rw[e];exact byU (.g (num (-1))) Tryz.func45 rfl [ends (ne 1 (by omega)),ends (ne 2 (by omega)),ends (ne 3 (by omega)),ends (ne 4 (by omega)),ends (ne 7 (by omega)),ends (ne 8 (by omega)),ends (ne 9 (by omega)),ends (ne 5 (by omega)),ends (ne 6 (by omega)),ends (ne 10 (by omega))] (by kernel_rfl)
def sixF (p:ByteArray):Bool:=p.toList==[60]||(p.toList==[60,61]||(p.toList==[62]||(p.toList==[62,61]||(p.toList==[61,61]||p.toList==[33,61]))))
theorem compared_con (p:ByteArray):Con Tryz.prog 46 [.one (.v (.string p))] (.g (truth (sixF p))):=by
 unfold sixF;rcases bc (p.toList==[60]) with h0|h0
 ·rw[h0]
  exact byU (.g (truth true)) Tryz.func46 rfl [ends h0,ends (rfl:true=true),ends (rfl:true=true),ends (rfl:true=true),ends (rfl:true=true)] (by kernel_rfl)
 rcases bc (p.toList==[60,61]) with h1|h1
 ·rw[h0,h1]
  exact byU (.g (truth true)) Tryz.func46 rfl [ends h0,ends h1,ends (rfl:true=true),ends (rfl:true=true),ends (rfl:true=true)] (by kernel_rfl)
 rcases bc (p.toList==[62]) with h2|h2
 ·rw[h0,h1,h2]
  exact byU (.g (truth true)) Tryz.func46 rfl [ends h0,ends h1,ends h2,ends (rfl:true=true),ends (rfl:true=true)] (by kernel_rfl)
 rcases bc (p.toList==[62,61]) with h3|h3
 ·rw[h0,h1,h2,h3]
  exact byU (.g (truth true)) Tryz.func46 rfl [ends h0,ends h1,ends h2,ends h3,ends (rfl:true=true)] (by kernel_rfl)
 rcases bc (p.toList==[61,61]) with h4|h4
 ·rw[h0,h1,h2,h3,h4]
  exact byU (.g (truth true)) Tryz.func46 rfl [ends h0,ends h1,ends h2,ends h3,ends h4] (by kernel_rfl)
 rw[h0,h1,h2,h3,h4];exact byU (.g (truth (p.toList==[33,61]))) Tryz.func46 rfl [ends h0,ends h1,ends h2,ends h3,ends h4] (by kernel_rfl)
def LZ:Lays:=(102,⟨3,[.v (.int .i64 0),.v (.bool false),.v (.bool false)],.st [(0,3),(1,4),(2,4)]⟩)::(100,⟨1,[.v (.pointer none)],.pt⟩)::LU
theorem LZ_ok:LaysOk Tryz.prog LZ:=lays_ok (by kernel_rfl) (by kernel_rfl)
def DZ:Drawn:=drawn LZ
theorem DZ_ok:DrawnOk Tryz.prog DZ:=drawn_ok (by kernel_rfl) LZ_ok
theorem byZ {f:FuncId} {fn:Func} {c:Code} {xs:List AG} (r:AV) (hf:Tryz.prog.funcs[f]?=some fn) (hb:fn.body=some c) (pf:List (Prf Tryz.prog)) (h:evF LZ DZ fn c xs (Prf.ans pf)=some (r,[],Prf.dem pf)) (hname:(fn.name == "runtime.NumGoroutine")=false:=by kernel_rfl):Con Tryz.prog f xs r :=
 con_of LZ_ok DZ_ok pf hf hname hb h
theorem byZH {f:FuncId} {fn:Func} {c:Code} {xs:List AG} {own:List (Option (Bool×List AC))} (r:AV) (out:List (Option (Bool×List AC))) (hf:Tryz.prog.funcs[f]?=some fn) (hb:fn.body=some c) (pf:List (Prf Tryz.prog)) (h:evH LZ DZ fn c xs own r out (Prf.ans pf)=some ([some r],out,[],Prf.dem pf)) (hname:(fn.name == "runtime.NumGoroutine")=false:=by kernel_rfl):ConH Tryz.prog f xs own r out :=
 conH_of LZ_ok DZ_ok pf hf hname hb h
def tV (b:Bool):Vl:=⟨1,raN (((bif b then 1 else 0:Int):Int):Rat),⟨#[]⟩⟩
theorem truth_con (b:Bool):Con Tryz.prog 97 [truth b] (.g (.agg (tV b).c)):=by
 cases b with
 |false=>exact byU _ Tryz.func97 rfl [ends (rfl:false=false),gives (of_n 0 (by decide))] (by kernel_rfl)
 |true=>exact byU _ Tryz.func97 rfl [ends (rfl:true=true),gives (of_n 1 (by decide))] (by kernel_rfl)
def isF (v:Vl):Bool:=v.kind==1&&sgn v.num.q.num != 0
theorem is_con (v:Vl) (h:v.num.ok):Con Tryz.prog 38 [.agg v.c] (.g (truth (isF v))):=by
 have S:=rSign v.num.1 v.num.2.1 v.num.2.2 h.n h.d;unfold isF;rcases bc (v.kind==1) with g|g
 ·rw[g,Bool.true_and]
  exact byU (.g (truth (!(sgn (rv v.num.1 v.num.2.1 v.num.2.2).num==0)))) Tryz.func38 rfl [ends g,gives S] (by kernel_rfl)
 ·rw[g,Bool.false_and]
  exact byU (.g (truth false)) Tryz.func38 rfl [ends g] (by kernel_rfl)
theorem number_con (a:N3) (h:a.ok):Con Tryz.prog 29 [.agg a.c] (.g (.agg (nV a.q).c)):=by
 have N1:=rNorm a.1 a.2.1 a.2.2 (few_up h.n (by decide)) (few_up h.d (by decide));rw[raN_c] at N1;exact byU (.g (.agg (nV (rv a.1 a.2.1 a.2.2)).c)) Tryz.func29 rfl [gives N1] (by kernel_rfl)
def faults:List AC:=[.v (.int .i64 1073741824),.v (.bool false),.v (.bool false)]
theorem vsame_con (a b:Rat) (ha:short 2000 a) (hb:short 2000 b):Con Tryz.prog 98 [.agg (nV a).c,.agg (nV b).c] (.g (truth (cmpR a b==0))):=by
 have K:=rCmp (ofZ a.num).1 _ _ (ofZ b.num).1 _ _ (few_up ha.num (Nat.le_refl _)) (few_up ha.den (Nat.le_refl _)) (few_up hb.num (Nat.le_refl _)) (few_up hb.den (Nat.le_refl _));rw[rv_told,rv_told] at K;exact byU _ Tryz.func98 rfl [ends (rfl:(!((2:Int)==2))=false),ends (rfl:((2:Int)==1)=false),ends (rfl:((2:Int)==2)=true),gives K] (by kernel_rfl)
theorem bin_0 (p:ByteArray) (h:p.toList=[60]) (a b:Rat) (ha:short 2000 a) (hb:short 2000 b):ConH Tryz.prog 65 [.one (.ptr 0 0),.one (.v (.string p)),.agg (nV a).c,.agg (nV b).c] [some (true,faults)] (.g (.agg (tV (decide (cmpR a b<0))).c)) [some (true,faults)]:=by
 have K:=rCmp (ofZ a.num).1 _ _ (ofZ b.num).1 _ _ (few_up ha.num (Nat.le_refl _)) (few_up ha.den (Nat.le_refl _)) (few_up hb.num (Nat.le_refl _)) (few_up hb.den (Nat.le_refl _));rw[rv_told,rv_told] at K;exact byZH _ _ Tryz.func65 rfl [ends (rfl:((2:Int)==0)=false),ends (rfl:((2:Int)==0)=false),gives K,ends (show (p.toList==[43])=false by rw[h];rfl),ends (show (p.toList==[45])=false by rw[h];rfl),ends (show (p.toList==[42])=false by rw[h];rfl),ends (show (p.toList==[47])=false by rw[h];rfl),ends (show (p.toList==[100,105,118])=false by rw[h];rfl),ends (show (p.toList==[109,111,100])=false by rw[h];rfl),ends (show (p.toList==[60])=true by rw[h];rfl),gives (truth_con (decide (cmpR a b<0))),fact (p:=∀cs∈([]:List (List AC)),Plain cs) none_] (by kernel_rfl)
theorem bin_1 (p:ByteArray) (h:p.toList=[60,61]) (a b:Rat) (ha:short 2000 a) (hb:short 2000 b):ConH Tryz.prog 65 [.one (.ptr 0 0),.one (.v (.string p)),.agg (nV a).c,.agg (nV b).c] [some (true,faults)] (.g (.agg (tV (decide (cmpR a b≤0))).c)) [some (true,faults)]:=by
 have K:=rCmp (ofZ a.num).1 _ _ (ofZ b.num).1 _ _ (few_up ha.num (Nat.le_refl _)) (few_up ha.den (Nat.le_refl _)) (few_up hb.num (Nat.le_refl _)) (few_up hb.den (Nat.le_refl _));rw[rv_told,rv_told] at K;exact byZH _ _ Tryz.func65 rfl [ends (rfl:((2:Int)==0)=false),ends (rfl:((2:Int)==0)=false),gives K,ends (show (p.toList==[43])=false by rw[h];rfl),ends (show (p.toList==[45])=false by rw[h];rfl),ends (show (p.toList==[42])=false by rw[h];rfl),ends (show (p.toList==[47])=false by rw[h];rfl),ends (show (p.toList==[100,105,118])=false by rw[h];rfl),ends (show (p.toList==[109,111,100])=false by rw[h];rfl),ends (show (p.toList==[60])=false by rw[h];rfl),ends (show (p.toList==[60,61])=true by rw[h];rfl),gives (truth_con (decide (cmpR a b≤0))),fact (p:=∀cs∈([]:List (List AC)),Plain cs) none_] (by kernel_rfl)
theorem bin_2 (p:ByteArray) (h:p.toList=[62]) (a b:Rat) (ha:short 2000 a) (hb:short 2000 b):ConH Tryz.prog 65 [.one (.ptr 0 0),.one (.v (.string p)),.agg (nV a).c,.agg (nV b).c] [some (true,faults)] (.g (.agg (tV (decide (cmpR a b>0))).c)) [some (true,faults)]:=by
 have K:=rCmp (ofZ a.num).1 _ _ (ofZ b.num).1 _ _ (few_up ha.num (Nat.le_refl _)) (few_up ha.den (Nat.le_refl _)) (few_up hb.num (Nat.le_refl _)) (few_up hb.den (Nat.le_refl _));rw[rv_told,rv_told] at K;exact byZH _ _ Tryz.func65 rfl [ends (rfl:((2:Int)==0)=false),ends (rfl:((2:Int)==0)=false),gives K,ends (show (p.toList==[43])=false by rw[h];rfl),ends (show (p.toList==[45])=false by rw[h];rfl),ends (show (p.toList==[42])=false by rw[h];rfl),ends (show (p.toList==[47])=false by rw[h];rfl),ends (show (p.toList==[100,105,118])=false by rw[h];rfl),ends (show (p.toList==[109,111,100])=false by rw[h];rfl),ends (show (p.toList==[60])=false by rw[h];rfl),ends (show (p.toList==[60,61])=false by rw[h];rfl),ends (show (p.toList==[62])=true by rw[h];rfl),gives (truth_con (decide (cmpR a b>0))),fact (p:=∀cs∈([]:List (List AC)),Plain cs) none_] (by kernel_rfl)
theorem bin_3 (p:ByteArray) (h:p.toList=[62,61]) (a b:Rat) (ha:short 2000 a) (hb:short 2000 b):ConH Tryz.prog 65 [.one (.ptr 0 0),.one (.v (.string p)),.agg (nV a).c,.agg (nV b).c] [some (true,faults)] (.g (.agg (tV (decide (cmpR a b≥0))).c)) [some (true,faults)]:=by
 have K:=rCmp (ofZ a.num).1 _ _ (ofZ b.num).1 _ _ (few_up ha.num (Nat.le_refl _)) (few_up ha.den (Nat.le_refl _)) (few_up hb.num (Nat.le_refl _)) (few_up hb.den (Nat.le_refl _));rw[rv_told,rv_told] at K;exact byZH _ _ Tryz.func65 rfl [ends (rfl:((2:Int)==0)=false),ends (rfl:((2:Int)==0)=false),gives K,ends (show (p.toList==[43])=false by rw[h];rfl),ends (show (p.toList==[45])=false by rw[h];rfl),ends (show (p.toList==[42])=false by rw[h];rfl),ends (show (p.toList==[47])=false by rw[h];rfl),ends (show (p.toList==[100,105,118])=false by rw[h];rfl),ends (show (p.toList==[109,111,100])=false by rw[h];rfl),ends (show (p.toList==[60])=false by rw[h];rfl),ends (show (p.toList==[60,61])=false by rw[h];rfl),ends (show (p.toList==[62])=false by rw[h];rfl),ends (show (p.toList==[62,61])=true by rw[h];rfl),gives (truth_con (decide (cmpR a b≥0))),fact (p:=∀cs∈([]:List (List AC)),Plain cs) none_] (by kernel_rfl)
theorem bin_4 (p:ByteArray) (h:p.toList=[61,61]) (a b:Rat) (ha:short 2000 a) (hb:short 2000 b):ConH Tryz.prog 65 [.one (.ptr 0 0),.one (.v (.string p)),.agg (nV a).c,.agg (nV b).c] [some (true,faults)] (.g (.agg (tV (cmpR a b==0)).c)) [some (true,faults)]:=by
 have K:=rCmp (ofZ a.num).1 _ _ (ofZ b.num).1 _ _ (few_up ha.num (Nat.le_refl _)) (few_up ha.den (Nat.le_refl _)) (few_up hb.num (Nat.le_refl _)) (few_up hb.den (Nat.le_refl _));rw[rv_told,rv_told] at K;have S:=vsame_con a b ha hb;exact byZH _ _ Tryz.func65 rfl [ends (rfl:((2:Int)==0)=false),ends (rfl:((2:Int)==0)=false),gives K,ends (show (p.toList==[43])=false by rw[h];rfl),ends (show (p.toList==[45])=false by rw[h];rfl),ends (show (p.toList==[42])=false by rw[h];rfl),ends (show (p.toList==[47])=false by rw[h];rfl),ends (show (p.toList==[100,105,118])=false by rw[h];rfl),ends (show (p.toList==[109,111,100])=false by rw[h];rfl),ends (show (p.toList==[60])=false by rw[h];rfl),ends (show (p.toList==[60,61])=false by rw[h];rfl),ends (show (p.toList==[62])=false by rw[h];rfl),ends (show (p.toList==[62,61])=false by rw[h];rfl),ends (show (p.toList==[61,61])=true by rw[h];rfl),gives S,gives (truth_con (cmpR a b==0)),fact (p:=∀cs∈([]:List (List AC)),Plain cs) none_] (by kernel_rfl)
theorem bin_5 (p:ByteArray) (h:p.toList=[33,61]) (a b:Rat) (ha:short 2000 a) (hb:short 2000 b):ConH Tryz.prog 65 [.one (.ptr 0 0),.one (.v (.string p)),.agg (nV a).c,.agg (nV b).c] [some (true,faults)] (.g (.agg (tV (!(cmpR a b==0))).c)) [some (true,faults)]:=by
 have K:=rCmp (ofZ a.num).1 _ _ (ofZ b.num).1 _ _ (few_up ha.num (Nat.le_refl _)) (few_up ha.den (Nat.le_refl _)) (few_up hb.num (Nat.le_refl _)) (few_up hb.den (Nat.le_refl _));rw[rv_told,rv_told] at K;have S:=vsame_con a b ha hb;exact byZH _ _ Tryz.func65 rfl [ends (rfl:((2:Int)==0)=false),ends (rfl:((2:Int)==0)=false),gives K,ends (show (p.toList==[43])=false by rw[h];rfl),ends (show (p.toList==[45])=false by rw[h];rfl),ends (show (p.toList==[42])=false by rw[h];rfl),ends (show (p.toList==[47])=false by rw[h];rfl),ends (show (p.toList==[100,105,118])=false by rw[h];rfl),ends (show (p.toList==[109,111,100])=false by rw[h];rfl),ends (show (p.toList==[60])=false by rw[h];rfl),ends (show (p.toList==[60,61])=false by rw[h];rfl),ends (show (p.toList==[62])=false by rw[h];rfl),ends (show (p.toList==[62,61])=false by rw[h];rfl),ends (show (p.toList==[61,61])=false by rw[h];rfl),ends (show (p.toList==[33,61])=true by rw[h];rfl),gives S,gives (truth_con (!(cmpR a b==0))),fact (p:=∀cs∈([]:List (List AC)),Plain cs) none_] (by kernel_rfl)
theorem isF_tV (b:Bool):isF (tV b)=b:=by
 unfold isF tV;simp only[raN_q];cases b with
 |false=>rfl
 |true=>rfl
theorem tV_ok (b:Bool):(tV b).num.ok:=raN_ok (by cases b<;>exact sh_n _ (by decide))
theorem cmp_of (p:ByteArray) (a b:N3) (ha:a.ok) (hb:b.ok) (v:Bool) (h:ConH Tryz.prog 65 [.one (.ptr 0 0),.one (.v (.string p)),.agg (nV a.q).c,.agg (nV b.q).c] [some (true,faults)] (.g (.agg (tV v).c)) [some (true,faults)]):Con Tryz.prog 39 [.one (.v (.string p)),.agg a.c,.agg b.c] (.g (truth v)):=by
 have I:=is_con (tV v) (tV_ok v);rw[isF_tV] at I;exact byZ _ Tryz.func39 rfl [gives (number_con a ha),gives (number_con b hb),bare0,hands [2] [] h,gives I] (by kernel_rfl)
theorem cmp_con (p:ByteArray) (hp:sixF p=true) (a b:N3) (ha:a.ok) (hb:b.ok):Con Tryz.prog 39 [.one (.v (.string p)),.agg a.c,.agg b.c] (.g (truth (compareF p a.q b.q))):=by
 have sa:short 2000 a.q:=short_rv ha.n ha.d (by decide);have sb:short 2000 b.q:=short_rv hb.n hb.d (by decide);unfold sixF at hp;simp only[Bool.or_eq_true,beq_iff_eq] at hp;rcases hp with h|h|h|h|h|h
 ·have:=cmp_of p a b ha hb _ (bin_0 p h a.q b.q sa sb)
  unfold compareF;rw[h];exact this
 ·have:=cmp_of p a b ha hb _ (bin_1 p h a.q b.q sa sb)
  unfold compareF;rw[h];exact this
 ·have:=cmp_of p a b ha hb _ (bin_2 p h a.q b.q sa sb)
  unfold compareF;rw[h];exact this
 ·have:=cmp_of p a b ha hb _ (bin_3 p h a.q b.q sa sb)
  unfold compareF;rw[h];exact this
 ·have:=cmp_of p a b ha hb _ (bin_4 p h a.q b.q sa sb)
  unfold compareF;rw[h];exact this
 ·have:=cmp_of p a b ha hb _ (bin_5 p h a.q b.q sa sb)
  unfold compareF;rw[h];exact this
end
section
def rrN:Nat→Fm→Bool
 |0,_=>false
 |d+1,f=>bif !((f.args.length:Int)==argsF f.kind) then false else bif (f.kind==2)&&!sixF f.op then false else bif decide (sgn f.within.q.num<0) then false else f.args.all (rrN d)
theorem six_is (p:ByteArray):six.any (fun b=>p.toList==b.toList)=sixF p:=by
 have e:six.map ByteArray.toList=[[60],[60,61],[62],[62,61],[61,61],[33,61]]:=by kernel_rfl
 have:six.any (fun b=>p.toList==b.toList)=(six.map ByteArray.toList).any (fun l=>p.toList==l):=by rw[List.any_map];rfl
 rw[this,e];simp only[List.any_cons,List.any_nil,Bool.or_false];rfl
theorem rr_is:∀(d:Nat) (f:Fm),rrN d f=rightN d f
 |0,f=>rfl
 |d+1,.mk k o p n a b w=>by
  have ih:∀x,rrN d x=rightN d x:=rr_is d;have ea:(a.all (rrN d))=!a.any fun x=>!rightN d x:=by
   rw[List.not_any_eq_all_not];congr 1
   funext x
   rw[ih x,Bool.not_not]
  show (bif !((a.length:Int)==argsF k) then false else bif (k==2)&&!sixF p then false else bif decide (sgn w.q.num<0) then false else a.all (rrN d))=(match kinds k p with
   |none=>false
   |some m=>((a.length:Int)==m)&&(decide (sgn w.q.num≥0)&&!a.any fun x=>!rightN d x))
  rw[ea];have es:(bif decide (sgn w.q.num<0) then false else !a.any fun x=>!rightN d x)=(decide (sgn w.q.num≥0)&&!a.any fun x=>!rightN d x):=by
   by_cases h:sgn w.q.num<0
   ·rw[decide_eq_true h,decide_eq_false (by omega)];rfl
   ·rw[decide_eq_false h,decide_eq_true (by omega)];rfl
  rw[es];generalize (decide (sgn w.q.num≥0)&&!a.any fun x=>!rightN d x)=z;unfold kinds argsF;rw[six_is];by_cases h1:k=1∨k=3
  ·rw[if_pos (show k=1∨k=2∨k=3 by omega),if_pos h1,show (k==2)=false by rw[beq_eq_false_iff_ne];omega]
   show (bif !((a.length:Int)==0) then false else z)=(((a.length:Int)==0)&&z)
   cases ((a.length:Int)==0)<;>rfl
  ·rw[if_neg h1]
   by_cases h2:k=2
   ·subst h2
    rw[if_pos (show (2:Int)=1∨(2:Int)=2∨(2:Int)=3 by decide),if_pos rfl,show ((2:Int)==2)=true from rfl,Bool.true_and];cases sixF p with
    |true =>
     show (bif !((a.length:Int)==0) then false else z)=(((a.length:Int)==0)&&z)
     cases ((a.length:Int)==0)<;>rfl
    |false =>
     show (bif !((a.length:Int)==0) then false else false)=false
     cases ((a.length:Int)==0)<;>rfl
   ·rw[if_neg (show ¬(k=1∨k=2∨k=3) by omega),if_neg h2,show (k==2)=false by rw[beq_eq_false_iff_ne];exact h2]
    by_cases h3:k=4∨k=7∨k=8∨k=9
    ·rw[if_pos h3,if_pos h3]
     show (bif !((a.length:Int)==1) then false else z)=(((a.length:Int)==1)&&z)
     cases ((a.length:Int)==1)<;>rfl
    ·rw[if_neg h3,if_neg h3]
     by_cases h4:k=5∨k=6∨k=10
     ·rw[if_pos h4,if_pos h4]
      show (bif !((a.length:Int)==2) then false else z)=(((a.length:Int)==2)&&z)
      cases ((a.length:Int)==2)<;>rfl
     ·rw[if_neg h4,if_neg h4,show ((a.length:Int) == -1)=false by rw[beq_eq_false_iff_ne];omega]
      rfl
def RS (f:Fm) (d:Int) (i:Int):St:=⟨sparse 50 [(1,.g (num d)),(2,.g (.one (.ptr 0 0))),(5,.g (num i))],[some (false,f.c)],0⟩
def RX (f:Fm):St:=⟨sparse 50 [],[some (false,f.c)],0⟩
def RR (f:Fm) (b:Bool):St:=⟨sparse 50 [(4,.g (truth b))],[some (false,f.c)],0⟩
theorem right_loop {k o:Int} {p:ByteArray} {n:N3} {a:List Fm} {b:Bool} {w:N3} {e:Int} (q:Fm→Bool) (hb:a.length<4000000000000000000) (ih:∀x∈a,Con Tryz.prog 27 [.agg x.c,num (IntKind.i64.wrap (e-1))] (.g (truth (q x)))):∀(m i:Nat),i+m=a.length →
  ((a.drop i).all q=true→Rounds Tryz.prog (lp Tryz.f27 0) (RS (.mk k o p n a b w) e i) (.exit 0) (RX (.mk k o p n a b w)))∧((a.drop i).all q=false→Rounds Tryz.prog (lp Tryz.f27 0) (RS (.mk k o p n a b w) e i) .ret (RR (.mk k o p n a b w) false))
 |0,i,h=>by
  refine⟨fun _=>Rounds.out (atU _ _ [ends (show decide ((i:Int)<(a.length:Int))=false by rw[decide_eq_false_iff_not];omega)] (by kernel_rfl)) (by simp),fun h'=>?_⟩
  rw[List.drop_eq_nil_of_le (by omega)] at h';cases h'
 |m+1,i,h=>by
  have hi:i<a.length:=by omega
  have hlt:decide ((i:Int)<(a.length:Int))=true:=by rw[decide_eq_true_iff];omega
  have hel:=fcs_at hi;have hx:=ih _ (List.getElem_mem hi);have ih2:=right_loop (k:=k) (o:=o) (p:=p) (n:=n) (b:=b) (w:=w) q hb ih m (i+1) (by omega);rw[List.drop_eq_getElem_cons hi,List.all_cons];generalize a[i]=x at hel hx ⊢;obtain⟨k',o',p',n',a',b',w'⟩:=x;rcases bc (q (.mk k' o' p' n' a' b' w')) with g|g
  ·rw[g] at hx
   have step:=atU (c:=lp Tryz.f27 0) (p:=RS (.mk k o p n a b w) e i) .normal (RS (.mk k o p n a b w) e (IntKind.i64.wrap ((i:Int)+1))) [ends hlt,elem hel,gives hx,ends (rfl:(!true)=false)] (by kernel_rfl);rw[next_i i (by omega)] at step;rw[g,Bool.true_and];exact⟨fun h=>(ih2.1 h).step' step,fun h=>(ih2.2 h).step' step⟩
  ·rw[g] at hx
   rw[g,Bool.false_and];exact⟨fun h=>(by cases h),fun _=>Rounds.out (atU _ _ [ends hlt,elem hel,gives hx,ends (rfl:(!false)=true)] (by kernel_rfl)) (by simp)⟩
theorem right27:∀(d:Nat),d≤100→∀(f:Fm),Fine f→Con Tryz.prog 27 [.agg f.c,num (d:Int)] (.g (truth (rrN d f)))
 |0,_,.mk k o p n a b w,hf=>byU (.g (truth false)) Tryz.func27 rfl [ends (rfl:decide ((0:Int)≤0)=true),ends (rfl:true=true),ends (rfl:true=true),ends (rfl:true=true)] (by kernel_rfl)
 |d+1,hd,.mk k o p n a b w,hf=>by
  have e1:IntKind.i64.wrap (((d+1:Nat):Int)-1)=(d:Int):=by rw[wr (by omega) (by omega)];omega
  have h0:decide (((d+1:Nat):Int)≤0)=false:=by rw[decide_eq_false_iff_not];omega
  cases hf with
  |mk hn hw ha hx =>
  have A:=args_con k;have ih:∀x∈a,Con Tryz.prog 27 [.agg x.c,num (IntKind.i64.wrap (((d+1:Nat):Int)-1))] (.g (truth (rrN d x))):=fun x hxa=>by
   rw[e1];exact right27 d (by omega) x (hx x hxa)
  have L:=right_loop (k:=k) (o:=o) (p:=p) (n:=n) (b:=b) (w:=w) (rrN d) ha ih a.length 0 (by omega);rw[List.drop_zero] at L;have C:=compared_con p;have S:Con Tryz.prog 32 [.agg w.c] (.g (num (sgn w.q.num))):=rSign w.1 w.2.1 w.2.2 hw.n hw.d;show Con Tryz.prog _ _ (.g (truth (bif !((a.length:Int)==argsF k) then false else bif (k==2)&&!sixF p then false else bif decide (sgn w.q.num<0) then false else a.all (rrN d))))
  rcases bc (!((a.length:Int)==argsF k)) with g1|g1
  ·rw[g1,cond_true]
   exact byU (.g (truth false)) Tryz.func27 rfl [ends h0,gives A,ends g1,ends (rfl:true=true),ends (rfl:true=true)] (by kernel_rfl)
  rw[g1,cond_false];have last:∀pf:List (Prf Tryz.prog),True:=fun _=>trivial
  rcases bc (k==2) with g2|g2
  ·rw[g2,Bool.true_and]
   rcases bc (sixF p) with g3|g3
   ·rw[g3] at C ⊢
    rw[Bool.not_true,cond_false];rcases bc (decide (sgn w.q.num<0)) with g4|g4
    ·rw[g4,cond_true]
     exact byU (.g (truth false)) Tryz.func27 rfl [ends h0,gives A,ends g1,ends g2,gives C,ends (rfl:(!true)=false),gives S,ends g4] (by kernel_rfl)
    ·rw[g4,cond_false]
     rcases bc (a.all (rrN d)) with g5|g5
     ·rw[g5]
      exact byU (.g (truth true)) Tryz.func27 rfl [ends h0,gives A,ends g1,ends g2,gives C,ends (rfl:(!true)=false),gives S,ends g4,goes (L.1 g5).loop] (by kernel_rfl)
     ·rw[g5]
      exact byU (.g (truth false)) Tryz.func27 rfl [ends h0,gives A,ends g1,ends g2,gives C,ends (rfl:(!true)=false),gives S,ends g4,goes (L.2 g5).loop] (by kernel_rfl)
   ·rw[g3] at C ⊢
    rw[Bool.not_false,cond_true];exact byU (.g (truth false)) Tryz.func27 rfl [ends h0,gives A,ends g1,ends g2,gives C,ends (rfl:(!false)=true),ends (rfl:true=true)] (by kernel_rfl)
  ·rw[g2,Bool.false_and,cond_false]
   rcases bc (decide (sgn w.q.num<0)) with g4|g4
   ·rw[g4,cond_true]
    exact byU (.g (truth false)) Tryz.func27 rfl [ends h0,gives A,ends g1,ends g2,ends (rfl:false=false),gives S,ends g4] (by kernel_rfl)
   ·rw[g4,cond_false]
    rcases bc (a.all (rrN d)) with g5|g5
    ·rw[g5]
     exact byU (.g (truth true)) Tryz.func27 rfl [ends h0,gives A,ends g1,ends g2,ends (rfl:false=false),gives S,ends g4,goes (L.1 g5).loop] (by kernel_rfl)
    ·rw[g5]
     exact byU (.g (truth false)) Tryz.func27 rfl [ends h0,gives A,ends g1,ends g2,ends (rfl:false=false),gives S,ends g4,goes (L.2 g5).loop] (by kernel_rfl)
theorem Right27 (f:Fm) (hf:Fine f):Con Tryz.prog 11 [.agg f.c] (.g (truth (rightN 40 f))):=by
 have h:=right27 40 (by decide) f hf;rw[rr_is] at h;obtain⟨k,o,p,n,a,b,w⟩:=f;exact byU _ Tryz.func11 rfl [gives h] (by kernel_rfl)
theorem counts27 (f:Fm) (hf:f.within.ok) (t:Tr) (ht:∀x∈t.l,x.ok) {i k:Nat} (hi:i<t.l.length) (hk:k<t.l.length):Con Tryz.prog 40 [.agg f.c,.agg t.c,num (i:Int),num (k:Int)] (.g (truth (cntF f t.l i k))):=by
 have h1:=ens_at hi;have h2:=ens_at hk;have hx:=ht _ (List.getElem_mem hi);have hy:=ht _ (List.getElem_mem hk);unfold cntF;rw[List.getElem?_eq_getElem hi,List.getElem?_eq_getElem hk];generalize t.l[i]=x at *;generalize t.l[k]=y at *;have S:=rSub x.time.1 x.time.2.1 x.time.2.2 y.time.1 y.time.2.1 y.time.2.2 hx.time.n hx.time.d hy.time.n hy.time.d;rw[raN_c] at S;have S:Con Tryz.prog 33 [.agg x.time.c,.agg y.time.c] (.g (.agg (raN (x.time.q-y.time.q)).c)):=S;have hs:short 2000 (x.time.q-y.time.q):=short_up (short_sub hx.sh hy.sh) (by decide);have K:=rCmp (ofZ (x.time.q-y.time.q).num).1 _ _ f.within.1 f.within.2.1 f.within.2.2 (few_up hs.num (Nat.le_refl _)) (few_up hs.den (Nat.le_refl _)) hf.n hf.d;rw[rv_told] at K;have K:Con Tryz.prog 16 [.agg (raN (x.time.q-y.time.q)).c,.agg f.within.c] (.g (num (cmpR (x.time.q-y.time.q) f.within.q))):=K;simp only;generalize x.time.q-y.time.q=d at *;obtain⟨kk,o,p,n,a,b,w⟩:=f;cases b with
 |true=>exact byU (.g (truth (decide (cmpR d w.q≤0)))) Tryz.func40 rfl [elem h1,elem h2,gives S,ends (rfl:(!true)=false),gives K] (by kernel_rfl)
 |false=>exact byU (.g (truth true)) Tryz.func40 rfl [elem h1,elem h2,gives S,ends (rfl:(!false)=true)] (by kernel_rfl)
end
section
def HS (r:Nat) (f:Fm) (t:Tr) (i j:Int):St:=⟨sparse 219 [(2,.g (num i)),(3,.g (.one (.ptr 0 0))),(4,.g (.one (.ptr 1 0))),(r,.g (num j))],[some (false,f.c),some (false,t.c)],0⟩
def HX (f:Fm) (t:Tr):St:=⟨sparse 219 [],[some (false,f.c),some (false,t.c)],0⟩
def HR (f:Fm) (t:Tr) (b:Bool):St:=⟨sparse 219 [(6,.g (truth b))],[some (false,f.c),some (false,t.c)],0⟩
theorem fc0 (x:Fm) (r:List Fm):(0:Int)≤0∧(fcs (x::r))[(0:Int).toNat]?=some x.c:=⟨by decide,rfl⟩
theorem fc1 (x y:Fm) (r:List Fm):(0:Int)≤1∧(fcs (x::y::r))[(1:Int).toNat]?=some y.c:=⟨by decide,rfl⟩
section
variable {k o:Int} {p:ByteArray} {n:N3} {x y:Fm} {b:Bool} {w:N3} {t:Tr} {i:Nat} (c q s:Nat→Bool)
theorem once_loop (hi:i<100000) (hc:∀j,j≤i→Con Tryz.prog 40 [.agg (Fm.mk k o p n [x] b w).c,.agg t.c,num (i:Int),num (j:Int)] (.g (truth (c j)))) (hq:∀j,j≤i→Con Tryz.prog 25 [.agg x.c,.agg t.c,num (j:Int)] (.g (truth (q j)))):∀m j,j+m=i+1 →
  (anyN (fun j=>c j&&q j) m j=true→Rounds Tryz.prog (lp Tryz.f25 0) (HS 9 (.mk k o p n [x] b w) t i j) .ret (HR (.mk k o p n [x] b w) t true))∧(anyN (fun j=>c j&&q j) m j=false→Rounds Tryz.prog (lp Tryz.f25 0) (HS 9 (.mk k o p n [x] b w) t i j) (.exit 1) (HX (.mk k o p n [x] b w) t))
 |0,j,h=>⟨fun h=>(by cases h),fun _=>Rounds.out (atU _ _ [ends (show decide ((j:Int)≤(i:Int))=false by rw[decide_eq_false_iff_not];omega)] (by kernel_rfl)) (by simp)⟩
 |m+1,j,h=>by
  have hle:decide ((j:Int)≤(i:Int))=true:=by rw[decide_eq_true_iff];omega
  have ih:=once_loop hi hc hq m (j+1) (by omega);have h1:=hc j (by omega);have h2:=hq j (by omega);have h0:=fc0 x [];rw[anyN];obtain⟨k',o',p',n',a',b',w'⟩:=x;have go:(c j&&q j)=false→CodeCon Tryz.prog (lp Tryz.f25 0) (HS 9 (.mk k o p n [.mk k' o' p' n' a' b' w'] b w) t i j) .normal (HS 9 (.mk k o p n [.mk k' o' p' n' a' b' w'] b w) t i (IntKind.i64.wrap ((j:Int)+1))):=by
   intro g;cases hcj:c j with
   |false =>
    rw[hcj] at h1;exact atU _ _ [ends hle,gives h1,ends (rfl:false=false),ends (rfl:false=false)] (by kernel_rfl)
   |true =>
    rw[hcj] at h1 g;exact atU _ _ [ends hle,gives h1,ends (rfl:true=true),elem h0,gives h2,ends (show (q j)=false from g)] (by kernel_rfl)
  rcases bc (c j&&q j) with g|g
  ·have g':=Bool.and_eq_true_iff.1 g
   have hcj:=g'.1;rw[hcj] at h1;simp only[g,Bool.true_or];exact⟨fun _=>Rounds.out (atU _ _ [ends hle,gives h1,ends (rfl:true=true),elem h0,gives h2,ends (show (q j)=true from g'.2)] (by kernel_rfl)) (by simp),fun h=>by cases h⟩
  ·have step:=go g
   rw[next_i j (by omega)] at step;simp only[g,Bool.false_or];exact⟨fun h=>(ih.1 h).step' step,fun h=>(ih.2 h).step' step⟩
theorem always_loop (hi:i<100000) (hc:∀j,j≤i→Con Tryz.prog 40 [.agg (Fm.mk k o p n [x] b w).c,.agg t.c,num (i:Int),num (j:Int)] (.g (truth (c j)))) (hq:∀j,j≤i→Con Tryz.prog 25 [.agg x.c,.agg t.c,num (j:Int)] (.g (truth (q j)))):∀m j,j+m=i+1 →
  (anyN (fun j=>c j&&!q j) m j=true→Rounds Tryz.prog (lp Tryz.f25 1) (HS 10 (.mk k o p n [x] b w) t i j) .ret (HR (.mk k o p n [x] b w) t false))∧(anyN (fun j=>c j&&!q j) m j=false→Rounds Tryz.prog (lp Tryz.f25 1) (HS 10 (.mk k o p n [x] b w) t i j) (.exit 3) (HX (.mk k o p n [x] b w) t))
 |0,j,h=>⟨fun h=>(by cases h),fun _=>Rounds.out (atU _ _ [ends (show decide ((j:Int)≤(i:Int))=false by rw[decide_eq_false_iff_not];omega)] (by kernel_rfl)) (by simp)⟩
 |m+1,j,h=>by
  have hle:decide ((j:Int)≤(i:Int))=true:=by rw[decide_eq_true_iff];omega
  have ih:=always_loop hi hc hq m (j+1) (by omega);have h1:=hc j (by omega);have h2:=hq j (by omega);have h0:=fc0 x [];rw[anyN];obtain⟨k',o',p',n',a',b',w'⟩:=x;have go:(c j&&!q j)=false→CodeCon Tryz.prog (lp Tryz.f25 1) (HS 10 (.mk k o p n [.mk k' o' p' n' a' b' w'] b w) t i j) .normal (HS 10 (.mk k o p n [.mk k' o' p' n' a' b' w'] b w) t i (IntKind.i64.wrap ((j:Int)+1))):=by
   intro g;cases hcj:c j with
   |false =>
    rw[hcj] at h1;exact atU _ _ [ends hle,gives h1,ends (rfl:false=false),ends (rfl:false=false)] (by kernel_rfl)
   |true =>
    rw[hcj] at h1 g;exact atU _ _ [ends hle,gives h1,ends (rfl:true=true),elem h0,gives h2,ends (show (!q j)=false from g)] (by kernel_rfl)
  rcases bc (c j&&!q j) with g|g
  ·have g':=Bool.and_eq_true_iff.1 g
   have hcj:=g'.1;rw[hcj] at h1;simp only[g,Bool.true_or];exact⟨fun _=>Rounds.out (atU _ _ [ends hle,gives h1,ends (rfl:true=true),elem h0,gives h2,ends (show (!q j)=true from g'.2)] (by kernel_rfl)) (by simp),fun h=>by cases h⟩
  ·have step:=go g
   rw[next_i j (by omega)] at step;simp only[g,Bool.false_or];exact⟨fun h=>(ih.1 h).step' step,fun h=>(ih.2 h).step' step⟩
theorem since_loop (hi:i<100000) (hc:∀j,j≤i→Con Tryz.prog 40 [.agg (Fm.mk k o p n [x,y] b w).c,.agg t.c,num (i:Int),num (j:Int)] (.g (truth (c j)))) (hs:∀j,j≤i→Con Tryz.prog 25 [.agg x.c,.agg t.c,num (j:Int)] (.g (truth (s j)))) (hq:∀j,j≤i→Con Tryz.prog 25 [.agg y.c,.agg t.c,num (j:Int)] (.g (truth (q j)))):∀m,m≤i+1 →
  (sncN c s q m=true→Rounds Tryz.prog (lp Tryz.f25 2) (HS 11 (.mk k o p n [x,y] b w) t i ((m:Int)-1)) .ret (HR (.mk k o p n [x,y] b w) t true))∧(sncN c s q m=false→Rounds Tryz.prog (lp Tryz.f25 2) (HS 11 (.mk k o p n [x,y] b w) t i ((m:Int)-1)) (.exit 5) (HX (.mk k o p n [x,y] b w) t)∨Rounds Tryz.prog (lp Tryz.f25 2) (HS 11 (.mk k o p n [x,y] b w) t i ((m:Int)-1)) .ret (HR (.mk k o p n [x,y] b w) t false))
 |0,h=>⟨fun h=>(by cases h),fun _=>.inl (Rounds.out (atU _ _ [ends (rfl:decide ((((0:Nat):Int)-1)≥0)=false)] (by kernel_rfl)) (by simp))⟩
 |j+1,h=>by
  have ej:(((j+1:Nat):Int)-1)=(j:Int):=by omega
  rw[ej];have hge:decide ((j:Int)≥0)=true:=by rw[decide_eq_true_iff];omega
  have ew:IntKind.i64.wrap ((j:Int)-1)=(j:Int)-1:=wr (by omega) (by omega);have ih:=since_loop hi hc hs hq j (by omega);have h1:=hc j (by omega);have h2:=hs j (by omega);have h3:=hq j (by omega);have e0:=fc0 x [y];have e1:=fc1 x y [];rw[sncN];obtain⟨k',o',p',n',a',b',w'⟩:=x;obtain⟨k2,o2,p2,n2,a2,b2,w2⟩:=y;have found:c j=true→q j=true→Rounds Tryz.prog (lp Tryz.f25 2) (HS 11 (.mk k o p n [.mk k' o' p' n' a' b' w',.mk k2 o2 p2 n2 a2 b2 w2] b w) t i j) .ret (HR (.mk k o p n [.mk k' o' p' n' a' b' w',.mk k2 o2 p2 n2 a2 b2 w2] b w) t true):=by
   intro g1 g2;rw[g1] at h1;exact Rounds.out (atU _ _ [ends hge,gives h1,ends (rfl:true=true),elem e1,gives h3,ends g2] (by kernel_rfl)) (by simp)
  have stop:(c j&&q j)=false→s j=false→Rounds Tryz.prog (lp Tryz.f25 2) (HS 11 (.mk k o p n [.mk k' o' p' n' a' b' w',.mk k2 o2 p2 n2 a2 b2 w2] b w) t i j) .ret (HR (.mk k o p n [.mk k' o' p' n' a' b' w',.mk k2 o2 p2 n2 a2 b2 w2] b w) t false):=by
   intro g g3;rw[g3] at h2;cases hcj:c j with
   |false =>
    rw[hcj] at h1;exact Rounds.out (atU _ _ [ends hge,gives h1,ends (rfl:false=false),ends (rfl:false=false),elem e0,gives h2,ends (rfl:(!false)=true)] (by kernel_rfl)) (by simp)
   |true =>
    rw[hcj] at h1 g;exact Rounds.out (atU _ _ [ends hge,gives h1,ends (rfl:true=true),elem e1,gives h3,ends (show q j=false from g),elem e0,gives h2,ends (rfl:(!false)=true)] (by kernel_rfl)) (by simp)
  have go:(c j&&q j)=false→s j=true→CodeCon Tryz.prog (lp Tryz.f25 2) (HS 11 (.mk k o p n [.mk k' o' p' n' a' b' w',.mk k2 o2 p2 n2 a2 b2 w2] b w) t i j) .normal (HS 11 (.mk k o p n [.mk k' o' p' n' a' b' w',.mk k2 o2 p2 n2 a2 b2 w2] b w) t i (IntKind.i64.wrap ((j:Int)-1))):=by
   intro g g3;rw[g3] at h2;cases hcj:c j with
   |false =>
    rw[hcj] at h1;exact atU _ _ [ends hge,gives h1,ends (rfl:false=false),ends (rfl:false=false),elem e0,gives h2,ends (rfl:(!true)=false)] (by kernel_rfl)
   |true =>
    rw[hcj] at h1 g;exact atU _ _ [ends hge,gives h1,ends (rfl:true=true),elem e1,gives h3,ends (show q j=false from g),elem e0,gives h2,ends (rfl:(!true)=false)] (by kernel_rfl)
  rcases bc (c j&&q j) with g|g
  ·have g':=Bool.and_eq_true_iff.1 g
   rw[g,Bool.true_or];exact⟨fun _=>found g'.1 g'.2,fun h=>by cases h⟩
  ·rw[g,Bool.false_or]
   rcases bc (s j) with g3|g3
   ·have step:=go g g3
    rw[ew] at step;rw[g3,Bool.true_and];exact⟨fun h=>(ih.1 h).step' step,fun h=>(ih.2 h).imp (fun r=>r.step' step) (fun r=>r.step' step)⟩
   ·rw[g3,Bool.false_and]
    exact⟨fun h=>(by cases h),fun _=>.inr (stop g g3)⟩
end
theorem op_six {d:Nat} {o:Int} {p:ByteArray} {n:N3} {a:List Fm} {b:Bool} {w:N3} (hr:rightN (d+1) (.mk 2 o p n a b w)=true):sixF p=true:=by
 have hr:(match kinds 2 p with
  |none=>false
  |some m=>((a.length:Int)==m)&&(decide (sgn w.q.num≥0)&&!a.any fun x=>!rightN d x))=true:=hr
 unfold kinds at hr;rw[if_neg (by decide),if_pos rfl,six_is] at hr;cases h:sixF p with
 |true=>rfl
 |false=>rw[h] at hr;cases hr
theorem atom27 {k o:Int} {p:ByteArray} {n:N3} {b:Bool} {w:N3} (hk:k=1∨k=2∨k=3) (hp:k=2→sixF p=true) (hn:n.ok) (t:Tr) (ht:∀x∈t.l,x.ok) {i:Nat} (hi:i<t.l.length):Con Tryz.prog 25 [.agg (Fm.mk k o p n [] b w).c,.agg t.c,num (i:Int)] (.g (truth (atomG k o p n t.l[i]))):=by
 have h1:=ens_at hi;have hx:=ht _ (List.getElem_mem hi);generalize t.l[i]=e at *;unfold atomG;rcases bc (decide (o≥0)) with g1|g1
 ·have go:decide (o<0)=false:=by rw[decide_eq_false_iff_not];have:=of_decide_eq_true g1;omega
  rw[go,Bool.false_or];rcases bc (decide (o<(e.outs.length:Int))) with g2|g2
  ·have gl:decide (o≥(e.outs.length:Int))=false:=by rw[decide_eq_false_iff_not];have:=of_decide_eq_true g2;omega
   rw[gl,cond_false];have hlt:o.toNat<e.outs.length:=by
    have a1:=of_decide_eq_true g1;have a2:=of_decide_eq_true g2;omega
   have hel:0≤o∧(e.outs.map Vl.c)[o.toNat]?=some e.outs[o.toNat].c:=⟨of_decide_eq_true g1,by simp[hlt]⟩;rw[List.getElem?_eq_getElem hlt];have hv:=hx.outs _ (List.getElem_mem hlt);generalize e.outs[o.toNat]=v at *;simp only;rcases hk with rfl|rfl|rfl
   ·have I:=is_con v hv
    show Con Tryz.prog _ _ (.g (truth (isF v)))
    exact byU _ Tryz.func25 rfl [elem h1,ends g1,ends (rfl:((1:Int)==1)=true),ends g2,elem hel,gives I] (by kernel_rfl)
   ·have C:=cmp_con p (hp rfl) v.num n hv hn
    show Con Tryz.prog _ _ (.g (truth (v.kind==2&&compareF p v.num.q n.q)))
    rcases bc (v.kind==2) with g3|g3
    ·rw[g3,Bool.true_and]
     exact byU _ Tryz.func25 rfl [elem h1,ends g1,ends (rfl:((2:Int)==1)=false),ends (rfl:((2:Int)==2)=true),ends g2,elem hel,ends g3,elem hel,gives C] (by kernel_rfl)
    ·rw[g3,Bool.false_and]
     exact byU (.g (truth false)) Tryz.func25 rfl [elem h1,ends g1,ends (rfl:((2:Int)==1)=false),ends (rfl:((2:Int)==2)=true),ends g2,elem hel,ends g3] (by kernel_rfl)
   ·show Con Tryz.prog _ _ (.g (truth (v.kind==3&&v.name.toList==p.toList)))
    rcases bc (v.kind==3) with g3|g3
    ·rw[g3,Bool.true_and]
     exact byU _ Tryz.func25 rfl [elem h1,ends g1,ends (rfl:((3:Int)==1)=false),ends (rfl:((3:Int)==2)=false),ends (rfl:((3:Int)==3)=true),ends g2,elem hel,ends g3,elem hel] (by kernel_rfl)
    ·rw[g3,Bool.false_and]
     exact byU (.g (truth false)) Tryz.func25 rfl [elem h1,ends g1,ends (rfl:((3:Int)==1)=false),ends (rfl:((3:Int)==2)=false),ends (rfl:((3:Int)==3)=true),ends g2,elem hel,ends g3] (by kernel_rfl)
  ·have gl:decide (o≥(e.outs.length:Int))=true:=by rw[decide_eq_true_iff];have:=of_decide_eq_false g2;omega
   rw[gl,cond_true];rcases hk with rfl|rfl|rfl
   ·exact byU (.g (truth false)) Tryz.func25 rfl [elem h1,ends g1,ends (rfl:((1:Int)==1)=true),ends g2] (by kernel_rfl)
   ·exact byU (.g (truth false)) Tryz.func25 rfl [elem h1,ends g1,ends (rfl:((2:Int)==1)=false),ends (rfl:((2:Int)==2)=true),ends g2,ends (rfl:false=false)] (by kernel_rfl)
   ·exact byU (.g (truth false)) Tryz.func25 rfl [elem h1,ends g1,ends (rfl:((3:Int)==1)=false),ends (rfl:((3:Int)==2)=false),ends (rfl:((3:Int)==3)=true),ends g2,ends (rfl:false=false)] (by kernel_rfl)
 ·have go:decide (o<0)=true:=by rw[decide_eq_true_iff];have:=of_decide_eq_false g1;omega
  rw[go,Bool.true_or,cond_true];rcases hk with rfl|rfl|rfl
  ·exact byU (.g (truth false)) Tryz.func25 rfl [elem h1,ends g1,ends (rfl:((1:Int)==1)=true),ends (rfl:false=false)] (by kernel_rfl)
  ·exact byU (.g (truth false)) Tryz.func25 rfl [elem h1,ends g1,ends (rfl:((2:Int)==1)=false),ends (rfl:((2:Int)==2)=true),ends (rfl:false=false),ends (rfl:false=false)] (by kernel_rfl)
  ·exact byU (.g (truth false)) Tryz.func25 rfl [elem h1,ends g1,ends (rfl:((3:Int)==1)=false),ends (rfl:((3:Int)==2)=false),ends (rfl:((3:Int)==3)=true),ends (rfl:false=false),ends (rfl:false=false)] (by kernel_rfl)
theorem holds27 (t:Tr) (ht:∀x∈t.l,x.ok) (hb:t.l.length≤100000):∀(d:Nat) (f:Fm),Fine f→rightN d f=true→∀i,i<t.l.length→Con Tryz.prog 25 [.agg f.c,.agg t.c,num (i:Int)] (.g (truth (hN t.l d f i)))
 |0,f,_,hr,_,_=>by cases hr
 |d+1,.mk k o p n a b w,hf,hr,i,hi=>by
  cases hf with
  |mk hn hw ha hx =>
  have h1:=ens_at hi;rcases bc (decide (o≥0)) with g0|g0
  all_goals
   rcases right_cases hr with⟨hk,rfl⟩|⟨x,rfl,hk,hrx⟩|⟨x,y,rfl,hk,hrx,hry⟩
   ·have A:=atom27 (b:=b) (w:=w) (o:=o) hk (fun e=>by subst e;exact op_six hr) hn t ht hi
    have e:hN t.l (d+1) (.mk k o p n [] b w) i=atomG k o p n t.l[i]:=by
     show hK _ _ _ _ _=_
     unfold hK;rw[if_pos (by exact hk),List.getElem?_eq_getElem hi];rfl
    rw[e];exact A
   ·have fx:=hx x (by simp)
    have ih:∀j,j<t.l.length→Con Tryz.prog 25 [.agg x.c,.agg t.c,num (j:Int)] (.g (truth (hN t.l d x j))):=fun j hj=>holds27 t ht hb d x fx hrx j hj
    have hC:∀(k:Int) j,j≤i→Con Tryz.prog 40 [.agg (Fm.mk k o p n [x] b w).c,.agg t.c,num (i:Int),num (j:Int)] (.g (truth (cntF (.mk k o p n [x] b w) t.l i j))):=fun k j hj=>counts27 (.mk k o p n [x] b w) hw t ht hi (by omega)
    have L8:=once_loop (cntF (.mk 8 o p n [x] b w) t.l i) (hN t.l d x) (by omega) (hC 8) (fun j hj=>ih j (by omega)) (i+1) 0 (by omega);have L9:=always_loop (cntF (.mk 9 o p n [x] b w) t.l i) (hN t.l d x) (by omega) (hC 9) (fun j hj=>ih j (by omega)) (i+1) 0 (by omega);have h2:=ih i hi;have h3:=fun hj=>ih (i-1) hj
    have e0:=fc0 x [];generalize t.l[i]=e at h1;generalize hP:hN t.l d x=P at *;obtain⟨k',o',p',n',a',b',w'⟩:=x;rcases hk with rfl|rfl|rfl|rfl
    ·have e:hN t.l (d+1) (.mk 4 o p n [.mk k' o' p' n' a' b' w'] b w) i=!P i:=by rw[←hP];rfl
     rw[e];exact byU _ Tryz.func25 rfl [elem h1,ends g0,ends (rfl:((4:Int)==1)=false),ends (rfl:((4:Int)==2)=false),ends (rfl:((4:Int)==3)=false),ends (rfl:((4:Int)==4)=true),elem e0,gives h2] (by kernel_rfl)
    ·have e:hN t.l (d+1) (.mk 7 o p n [.mk k' o' p' n' a' b' w'] b w) i=(decide (0<i)&&P (i-1)):=by rw[←hP];rfl
     rw[e];by_cases hi0:0<i
     ·have h3:=h3 (by omega)
      have ej:((i-1:Nat):Int)=IntKind.i64.wrap ((i:Int)-1):=by rw[wr (by omega) (by omega)];omega
      rw[ej] at h3;rw[decide_eq_true hi0,Bool.true_and];exact byU _ Tryz.func25 rfl [elem h1,ends g0,ends (rfl:((7:Int)==1)=false),ends (rfl:((7:Int)==2)=false),ends (rfl:((7:Int)==3)=false),ends (rfl:((7:Int)==4)=false),ends (rfl:((7:Int)==5)=false),ends (rfl:((7:Int)==6)=false),ends (rfl:((7:Int)==7)=true),ends (show decide ((i:Int)>0)=true by rw[decide_eq_true_iff];omega),elem e0,gives h3] (by kernel_rfl)
     ·rw[decide_eq_false hi0,Bool.false_and]
      exact byU (.g (truth false)) Tryz.func25 rfl [elem h1,ends g0,ends (rfl:((7:Int)==1)=false),ends (rfl:((7:Int)==2)=false),ends (rfl:((7:Int)==3)=false),ends (rfl:((7:Int)==4)=false),ends (rfl:((7:Int)==5)=false),ends (rfl:((7:Int)==6)=false),ends (rfl:((7:Int)==7)=true),ends (show decide ((i:Int)>0)=false by rw[decide_eq_false_iff_not];omega)] (by kernel_rfl)
    ·have e:hN t.l (d+1) (.mk 8 o p n [.mk k' o' p' n' a' b' w'] b w) i=anyN (fun j=>cntF (.mk 8 o p n [.mk k' o' p' n' a' b' w'] b w) t.l i j&&P j) (i+1) 0:=by rw[←hP];rfl
     rw[e];rcases bc (anyN (fun j=>cntF (.mk 8 o p n [.mk k' o' p' n' a' b' w'] b w) t.l i j&&P j) (i+1) 0) with g|g
     ·rw[g]
      exact byU (.g (truth true)) Tryz.func25 rfl [elem h1,ends g0,ends (rfl:((8:Int)==1)=false),ends (rfl:((8:Int)==2)=false),ends (rfl:((8:Int)==3)=false),ends (rfl:((8:Int)==4)=false),ends (rfl:((8:Int)==5)=false),ends (rfl:((8:Int)==6)=false),ends (rfl:((8:Int)==7)=false),ends (rfl:((8:Int)==8)=true),goes (L8.1 g).loop] (by kernel_rfl)
     ·rw[g]
      exact byU (.g (truth false)) Tryz.func25 rfl [elem h1,ends g0,ends (rfl:((8:Int)==1)=false),ends (rfl:((8:Int)==2)=false),ends (rfl:((8:Int)==3)=false),ends (rfl:((8:Int)==4)=false),ends (rfl:((8:Int)==5)=false),ends (rfl:((8:Int)==6)=false),ends (rfl:((8:Int)==7)=false),ends (rfl:((8:Int)==8)=true),goes (L8.2 g).loop] (by kernel_rfl)
    ·have e:hN t.l (d+1) (.mk 9 o p n [.mk k' o' p' n' a' b' w'] b w) i=!anyN (fun j=>cntF (.mk 9 o p n [.mk k' o' p' n' a' b' w'] b w) t.l i j&&!P j) (i+1) 0:=by rw[←hP];rfl
     rw[e];rcases bc (anyN (fun j=>cntF (.mk 9 o p n [.mk k' o' p' n' a' b' w'] b w) t.l i j&&!P j) (i+1) 0) with g|g
     ·rw[g]
      exact byU (.g (truth false)) Tryz.func25 rfl [elem h1,ends g0,ends (rfl:((9:Int)==1)=false),ends (rfl:((9:Int)==2)=false),ends (rfl:((9:Int)==3)=false),ends (rfl:((9:Int)==4)=false),ends (rfl:((9:Int)==5)=false),ends (rfl:((9:Int)==6)=false),ends (rfl:((9:Int)==7)=false),ends (rfl:((9:Int)==8)=false),ends (rfl:((9:Int)==9)=true),goes (L9.1 g).loop] (by kernel_rfl)
     ·rw[g]
      exact byU (.g (truth true)) Tryz.func25 rfl [elem h1,ends g0,ends (rfl:((9:Int)==1)=false),ends (rfl:((9:Int)==2)=false),ends (rfl:((9:Int)==3)=false),ends (rfl:((9:Int)==4)=false),ends (rfl:((9:Int)==5)=false),ends (rfl:((9:Int)==6)=false),ends (rfl:((9:Int)==7)=false),ends (rfl:((9:Int)==8)=false),ends (rfl:((9:Int)==9)=true),goes (L9.2 g).loop] (by kernel_rfl)
   ·have fx:=hx x (by simp)
    have fy:=hx y (by simp);have ih:∀j,j<t.l.length→Con Tryz.prog 25 [.agg x.c,.agg t.c,num (j:Int)] (.g (truth (hN t.l d x j))):=fun j hj=>holds27 t ht hb d x fx hrx j hj
    have ik:∀j,j<t.l.length→Con Tryz.prog 25 [.agg y.c,.agg t.c,num (j:Int)] (.g (truth (hN t.l d y j))):=fun j hj=>holds27 t ht hb d y fy hry j hj
    have hC:∀j,j≤i→Con Tryz.prog 40 [.agg (Fm.mk 10 o p n [x,y] b w).c,.agg t.c,num (i:Int),num (j:Int)] (.g (truth (cntF (.mk 10 o p n [x,y] b w) t.l i j))):=fun j hj=>counts27 (.mk 10 o p n [x,y] b w) hw t ht hi (by omega)
    have L:=since_loop (cntF (.mk 10 o p n [x,y] b w) t.l i) (hN t.l d y) (hN t.l d x) (by omega) hC (fun j hj=>ih j (by omega)) (fun j hj=>ik j (by omega)) (i+1) (Nat.le_refl _);rw[show (((i+1:Nat):Int)-1)=(i:Int) by omega] at L;have h2:=ih i hi;have h3:=ik i hi;have e0:=fc0 x [y];have e1:=fc1 x y [];generalize t.l[i]=e at h1;generalize hP:hN t.l d x=P at *;generalize hQ:hN t.l d y=Q at *;obtain⟨k',o',p',n',a',b',w'⟩:=x;obtain⟨k2,o2,p2,n2,a2,b2,w2⟩:=y;rcases hk with rfl|rfl|rfl
    ·have e:hN t.l (d+1) (.mk 5 o p n [.mk k' o' p' n' a' b' w',.mk k2 o2 p2 n2 a2 b2 w2] b w) i=(P i&&Q i):=by rw[←hP,←hQ];rfl
     rw[e];rcases bc (P i) with g|g
     ·rw[g,Bool.true_and]
      exact byU _ Tryz.func25 rfl [elem h1,ends g0,ends (rfl:((5:Int)==1)=false),ends (rfl:((5:Int)==2)=false),ends (rfl:((5:Int)==3)=false),ends (rfl:((5:Int)==4)=false),ends (rfl:((5:Int)==5)=true),elem e0,gives h2,ends g,elem e1,gives h3] (by kernel_rfl)
     ·rw[g,Bool.false_and]
      exact byU (.g (truth false)) Tryz.func25 rfl [elem h1,ends g0,ends (rfl:((5:Int)==1)=false),ends (rfl:((5:Int)==2)=false),ends (rfl:((5:Int)==3)=false),ends (rfl:((5:Int)==4)=false),ends (rfl:((5:Int)==5)=true),elem e0,gives h2,ends g] (by kernel_rfl)
    ·have e:hN t.l (d+1) (.mk 6 o p n [.mk k' o' p' n' a' b' w',.mk k2 o2 p2 n2 a2 b2 w2] b w) i=(P i||Q i):=by rw[←hP,←hQ];rfl
     rw[e];rcases bc (P i) with g|g
     ·rw[g,Bool.true_or]
      exact byU (.g (truth true)) Tryz.func25 rfl [elem h1,ends g0,ends (rfl:((6:Int)==1)=false),ends (rfl:((6:Int)==2)=false),ends (rfl:((6:Int)==3)=false),ends (rfl:((6:Int)==4)=false),ends (rfl:((6:Int)==5)=false),ends (rfl:((6:Int)==6)=true),elem e0,gives h2,ends g] (by kernel_rfl)
     ·rw[g,Bool.false_or]
      exact byU _ Tryz.func25 rfl [elem h1,ends g0,ends (rfl:((6:Int)==1)=false),ends (rfl:((6:Int)==2)=false),ends (rfl:((6:Int)==3)=false),ends (rfl:((6:Int)==4)=false),ends (rfl:((6:Int)==5)=false),ends (rfl:((6:Int)==6)=true),elem e0,gives h2,ends g,elem e1,gives h3] (by kernel_rfl)
    ·have e:hN t.l (d+1) (.mk 10 o p n [.mk k' o' p' n' a' b' w',.mk k2 o2 p2 n2 a2 b2 w2] b w) i=sncN (cntF (.mk 10 o p n [.mk k' o' p' n' a' b' w',.mk k2 o2 p2 n2 a2 b2 w2] b w) t.l i) P Q (i+1):=by rw[←hP,←hQ];rfl
     rw[e];rcases bc (sncN (cntF (.mk 10 o p n [.mk k' o' p' n' a' b' w',.mk k2 o2 p2 n2 a2 b2 w2] b w) t.l i) P Q (i+1)) with g|g
     ·rw[g]
      exact byU (.g (truth true)) Tryz.func25 rfl [elem h1,ends g0,ends (rfl:((10:Int)==1)=false),ends (rfl:((10:Int)==2)=false),ends (rfl:((10:Int)==3)=false),ends (rfl:((10:Int)==4)=false),ends (rfl:((10:Int)==5)=false),ends (rfl:((10:Int)==6)=false),ends (rfl:((10:Int)==7)=false),ends (rfl:((10:Int)==8)=false),ends (rfl:((10:Int)==9)=false),goes (L.1 g).loop] (by kernel_rfl)
     ·rw[g]
      rcases L.2 g with R|R
      ·exact byU (.g (truth false)) Tryz.func25 rfl [elem h1,ends g0,ends (rfl:((10:Int)==1)=false),ends (rfl:((10:Int)==2)=false),ends (rfl:((10:Int)==3)=false),ends (rfl:((10:Int)==4)=false),ends (rfl:((10:Int)==5)=false),ends (rfl:((10:Int)==6)=false),ends (rfl:((10:Int)==7)=false),ends (rfl:((10:Int)==8)=false),ends (rfl:((10:Int)==9)=false),goes R.loop] (by kernel_rfl)
      ·exact byU (.g (truth false)) Tryz.func25 rfl [elem h1,ends g0,ends (rfl:((10:Int)==1)=false),ends (rfl:((10:Int)==2)=false),ends (rfl:((10:Int)==3)=false),ends (rfl:((10:Int)==4)=false),ends (rfl:((10:Int)==5)=false),ends (rfl:((10:Int)==6)=false),ends (rfl:((10:Int)==7)=false),ends (rfl:((10:Int)==8)=false),ends (rfl:((10:Int)==9)=false),goes R.loop] (by kernel_rfl)
end
section
def ordAt (l:List En) (j:Nat):Bool:=match l[j+1]?,l[j]? with
 |some x,some y=>!decide (cmpR x.time.q y.time.q<0)
 |_,_=>true
def tmF (l:List En):Nat→Nat→Bool
 |0,_=>true
 |d+1,j=>ordAt l j&&tmF l d (j+1)
theorem srt_succ {l:List En} {j:Nat} (h:j+1<l.length):srt l (j+1)=(ordAt l j&&srt l j):=by
 show (match l[j+1]?,l[j]? with
  |some x,some y=>bif decide (cmpR x.time.q y.time.q<0) then false else srt l j
  |_,_=>true)=_
 unfold ordAt;rw[List.getElem?_eq_getElem h,List.getElem?_eq_getElem (by omega)];simp only;cases decide (cmpR l[j+1].time.q l[j].time.q<0)<;>rfl
theorem tm_srt {l:List En}:∀d j,j+d+1≤l.length→(tmF l d j&&srt l j)=srt l (j+d)
 |0,j,h=>by simp[tmF]
 |d+1,j,h=>by
  have:=tm_srt (l:=l) d (j+1) (by omega);rw[srt_succ (by omega)] at this;rw[show j+(d+1)=j+1+d by omega,←this];simp only[tmF];cases ordAt l j<;>cases tmF l d (j+1)<;>cases srt l j<;>rfl
theorem tm_sorted (l:List En):tmF l (l.length-1) 0=sortedF l:=by
 cases l with
 |nil=>rfl
 |cons x r =>
  have:=tm_srt (l:=x::r) ((x::r).length-1) 0 (by simp);rw[show srt (x::r) 0=true from rfl,Bool.and_true,Nat.zero_add] at this;exact this
def TS (t:Tr) (i:Int):St:=⟨sparse 26 [(1,.g (.one (.ptr 0 0))),(3,.g (num i))],[some (false,t.c)],0⟩
def TX (t:Tr):St:=⟨sparse 26 [],[some (false,t.c)],0⟩
def TR (t:Tr):St:=⟨sparse 26 [(2,.g (truth false))],[some (false,t.c)],0⟩
theorem tm_loop (t:Tr) (ht:∀x∈t.l,x.ok) (hb:t.l.length<4000000000000000000):∀d j,j+1+d=t.l.length →
  (tmF t.l d j=true→Rounds Tryz.prog (lp Tryz.f13 0) (TS t ((j+1:Nat):Int)) (.exit 0) (TX t))∧(tmF t.l d j=false→Rounds Tryz.prog (lp Tryz.f13 0) (TS t ((j+1:Nat):Int)) .ret (TR t))
 |0,j,h=>⟨fun _=>Rounds.out (atU _ _ [ends (show decide (((j+1:Nat):Int)<(t.l.length:Int))=false by rw[decide_eq_false_iff_not];omega)] (by kernel_rfl)) (by simp),fun h=>by cases h⟩
 |d+1,j,h=>by
  have hi:j+1<t.l.length:=by omega
  have hlt:decide (((j+1:Nat):Int)<(t.l.length:Int))=true:=by rw[decide_eq_true_iff];omega
  have h2:=ens_at hi;have h1:=ens_at (l:=t.l) (i:=j) (by omega);have e2:IntKind.i64.wrap (((j+1:Nat):Int)-1)=(j:Int):=by rw[wr (by omega) (by omega)];omega
  rw[←e2] at h1;have hx:=ht _ (List.getElem_mem hi);have hy:=ht _ (List.getElem_mem (show j<t.l.length by omega));have eo:ordAt t.l j=!decide (cmpR t.l[j+1].time.q t.l[j].time.q<0):=by
   unfold ordAt;rw[List.getElem?_eq_getElem hi,List.getElem?_eq_getElem (by omega)]
  have ih:=tm_loop t ht hb d (j+1) (by omega);rw[tmF,eo];generalize t.l[j+1]=x at *;generalize t.l[j]=y at *;have hC:=rCmp y.time.1 y.time.2.1 y.time.2.2 x.time.1 x.time.2.1 x.time.2.2 (few_up hy.time.n (by decide)) (few_up hy.time.d (by decide)) (few_up hx.time.n (by decide)) (few_up hx.time.d (by decide));have ea:cmpR x.time.q y.time.q = -cmpR y.time.q x.time.q:=cmpR_anti _ _;rcases bc (decide (cmpR (rv y.time.1 y.time.2.1 y.time.2.2) (rv x.time.1 x.time.2.1 x.time.2.2)>0)) with hp|hp
  ·have hq:cmpR y.time.q x.time.q>0:=of_decide_eq_true hp
   rw[decide_eq_true (show cmpR x.time.q y.time.q<0 by omega)];exact⟨fun h=>(by simp at h),fun _=>Rounds.out (atU _ _ [ends hlt,elem h1,elem h2,gives hC,ends hp] (by kernel_rfl)) (by simp)⟩
  ·have hq:¬cmpR y.time.q x.time.q>0:=of_decide_eq_false hp
   rw[decide_eq_false (show ¬cmpR x.time.q y.time.q<0 by omega)];have step:=atU (c:=lp Tryz.f13 0) (p:=TS t ((j+1:Nat):Int)) .normal (TS t (IntKind.i64.wrap (((j+1:Nat):Int)+1))) [ends hlt,elem h1,elem h2,gives hC,ends hp] (by kernel_rfl);rw[next_i (j+1) (by omega)] at step;exact⟨fun h=>(ih.1 (by simpa using h)).step' step,fun h=>(ih.2 (by simpa using h)).step' step⟩
theorem timely_con (t:Tr) (ht:∀x∈t.l,x.ok) (hb:t.l.length<4000000000000000000):Con Tryz.prog 13 [.agg t.c] (.g (truth (sortedF t.l))):=by
 rw[←tm_sorted];by_cases h0:t.l.length=0
 ·have L:Rounds Tryz.prog (lp Tryz.f13 0) (TS t 1) (.exit 0) (TX t):=Rounds.out (atU _ _ [ends (show decide ((1:Int)<(t.l.length:Int))=false by rw[decide_eq_false_iff_not];omega)] (by kernel_rfl)) (by simp)
  rw[h0];exact byU (.g (truth true)) Tryz.func13 rfl [goes L.loop] (by kernel_rfl)
 ·have L:=tm_loop t ht hb (t.l.length-1) 0 (by omega)
  rcases bc (tmF t.l (t.l.length-1) 0) with h|h
  ·rw[h]
   exact byU (.g (truth true)) Tryz.func13 rfl [goes (L.1 h).loop] (by kernel_rfl)
  ·rw[h]
   exact byU (.g (truth false)) Tryz.func13 rfl [goes (L.2 h).loop] (by kernel_rfl)
end
section
theorem nil_tup {f:FuncId} {xs:List AG} {n:Int} (h:Con Tryz.prog f xs (.tup [.one nilS,num n])):Con Tryz.prog f xs (.tup [.one (brow []),num n]):=by
 rcases h with h|h
 ·refine .inl ⟨h.1,fun ok us w hA=>(h.2 ok us w hA).mono ?_⟩
  rintro e W ⟨u,rfl,⟨us,rfl,hsz,hT⟩,hB⟩
  refine⟨_,rfl,⟨us,rfl,hsz,fun j x y hx hy=>?_⟩,hB⟩
  match j with
  |0=>cases hx;exact nil_row (show TC [] _ _ nilS y from hT 0 _ y rfl hy)
  |1=>cases hx;exact hT 1 _ y rfl hy
  |j+2=>simp at hx
 ·refine .inr fun ok us w hA=>?_
  obtain⟨u,W,hrun,⟨us,rfl,hsz,hT⟩,hB⟩:=h ok us w hA;refine⟨_,W,hrun,⟨us,rfl,hsz,fun j x y hx hy=>?_⟩,hB⟩
  match j with
  |0=>cases hx;exact nil_row (show TC [] _ _ nilS y from hT 0 _ y rfl hy)
  |1=>cases hx;exact hT 1 _ y rfl hy
  |j+2=>simp at hx
theorem bcl_flat (l:List Bool):bcl l=(l.map fun b=>[AC.v (.bool b)]).flatten:=by
 induction l with
 |nil=>rfl
 |cons b r ih=>simp only[bcl,List.map_cons,List.flatten_cons] at ih ⊢;rw[ih];rfl
def PE (f:Fm) (t:Tr) (bs:List Bool) (i:Nat) (z:Int):St:=⟨sparse 31 [(2,.g (.one (.ptr 0 0))),(3,.g (.one (.ptr 1 0))),(6,.g (.one (.sl 2 4 1 i))),(7,.g (num z))],[some (false,f.c),some (false,t.c),some (false,bcl bs)],0⟩
theorem reval_loop (f:Fm) (t:Tr) (hb:t.l.length≤100000) (q:Nat→Bool) (hq:∀i,i<t.l.length→Con Tryz.prog 25 [.agg f.c,.agg t.c,num (i:Int)] (.g (truth (q i)))):∀(d i:Nat) (bs:List Bool),i+d=t.l.length→bs.length=i →
  Rounds Tryz.prog (lp Tryz.f8 0) (PE f t bs i i) (.exit 0) (PE f t (bs++(List.range' i d).map q) t.l.length t.l.length)
 |0,i,bs,h,hn=>by
  have:i=t.l.length:=by omega
  subst this;simp only[List.range'_zero,List.map_nil,List.append_nil];obtain⟨k,o,p,n,a,b,w⟩:=f;exact Rounds.out (atUm [] _ _ [ends (show decide ((t.l.length:Int)<(t.l.length:Int))=false by simp)] [bcl bs] (bcl1 bs) (by kernel_rfl)) (by simp)
 |d+1,i,bs,h,hn=>by
  have hi:i<t.l.length:=by omega
  have hlt:decide ((i:Int)<(t.l.length:Int))=true:=by rw[decide_eq_true_iff];omega
  have ih:=reval_loop f t hb q hq d (i+1) (bs++[q i]) (by omega) (by simp[hn]);rw[List.append_assoc] at ih;rw[List.range'_succ,List.map_cons];have H:=hq i hi;obtain⟨k,o,p,n,a,b,w⟩:=f;have step:=atUm [] (c:=lp Tryz.f8 0) (p:=PE (.mk k o p n a b w) t bs i i) .normal (PE (.mk k o p n a b w) t (bs++[q i]) (i+1) (IntKind.i64.wrap ((i:Int)+1))) [ends hlt,gives H,more (cs:=bcl bs) (n:=i) (k:=1) (m:=1) (es:=[[.v (.bool (q i))]]) (ds:=bcl (bs++[q i])) ⟨by simp[bcl,hn],by omega,by omega,by simp[bcl]⟩] [bcl (bs++[q i])] (bcl1 _) (by kernel_rfl);rw[next_i i (by omega)] at step;exact ih.step' step
theorem reval_con (f:Fm) (t:Tr) (hf:Fine f) (ht:∀x∈t.l,x.ok) (hb:t.l.length≤100000):Con Tryz.prog 8 [.agg f.c,.agg t.c] (.tup [.one (brow (evalB f t)),num (evalE f t)]):=by
 have R:=Right27 f hf;have T:=timely_con t ht (by omega);unfold evalB evalE;rcases bc (rightN 40 f) with g1|g1
 ·rcases bc (sortedF t.l) with g2|g2
  ·have L:=reval_loop f t hb (hN t.l 40 f) (fun i hi=>holds27 t ht hb 40 f hf g1 i hi) t.l.length 0 [] (by omega) rfl
   rw[List.nil_append,←List.range_eq_range',←run_holds g2 g1] at L;have ln:=runB_len t.l (ofF f);rw[g1] at R;rw[g2] at T;rw[g1,g2,Bool.true_and,cond_true,cond_true];generalize runB (ofF f) t.l=l at *;obtain⟨k,o,p,n,a,b,w⟩:=f;have res:=byU (.tup [.one (.row 1 t.l.length (l.map fun b=>[.v (.bool b)])),num 0]) Tryz.func8 rfl (xs:=[.agg (Fm.mk k o p n a b w).c,.agg t.c]) [gives R,ends (rfl:(!true)=false),gives T,ends (rfl:(!true)=false),goes L.loop 0 [],frozen 2 t.l.length 1 1 (l.map fun b=>[.v (.bool b)]) (bcl_flat l) (fun x hx=>by obtain⟨b,_,rfl⟩:=List.mem_map.1 hx;rfl) (by simp[ln]) (fun x hx c hc=>by obtain⟨b,_,rfl⟩:=List.mem_map.1 hx;rw[List.mem_singleton.1 hc];rfl)] (by kernel_rfl);exact res.to (by unfold brow;rw[ln])
  ·rw[g1] at R
   rw[g2] at T;rw[g2,Bool.and_false];obtain⟨k,o,p,n,a,b,w⟩:=f;exact nil_tup (byU _ Tryz.func8 rfl [gives R,ends (rfl:(!true)=false),gives T,ends (rfl:(!false)=true)] (by kernel_rfl))
 ·rw[g1] at R
  rw[g1,Bool.false_and];obtain⟨k,o,p,n,a,b,w⟩:=f;exact nil_tup (byU _ Tryz.func8 rfl [gives R,ends (rfl:(!false)=true),ends (rfl:true=true)] (by kernel_rfl))
theorem specEval_holds (f:Fm) (hf:Raw f) (t:Tr) (ht:t.raw):ConF Tryz.prog 3 [.agg f.c,.agg t.c] (.g (truth true)):=by
 have h1:=Few_con f t hf ht;rcases bc (FewF f t) with g1|g1
 ·rw[g1] at h1
  obtain⟨f1,t1,l1⟩:=few_fine hf ht g1;have E1:=eval_con f t f1 t1 (by omega);have E2:=reval_con f t f1 t1 (by omega);have S:=samb_con (evalB f t) (evalB f t) (by have:=evalB_len f t;omega);rw[decide_eq_true rfl] at S;have R1:=Right_con f f1;have R2:=Right27 f f1;have eB:∀b:Bool,(b==b)=true:=fun b=>by cases b<;>rfl
  generalize evalB f t=a at *;generalize evalE f t=e at *;generalize rightN 40 f=r at *;obtain⟨k,o,p,n,x,y,z⟩:=f;exact byUF (.g (truth true)) Tryz.func3 rfl [gives h1,ends (rfl:(!true)=false),gives E1,gives E2,gives S,ends (rfl:true=true),ends (show (e==e)=true by simp),gives R1,gives R2,ends (eB r),gives awake27] (by kernel_rfl)
 ·rw[g1] at h1
  obtain⟨k,o,p,n,x,y,z⟩:=f;exact byUF (.g (truth true)) Tryz.func3 rfl [gives h1,ends (rfl:(!false)=true)] (by kernel_rfl)
end
end Go.Proofs.YtjfkhbkddenfoaaGreat.Ev
