import Derived.Test.YtjfkhbkddenfoaaGreatQmcnhmiofcbM
import Derived.Deep.Slices
import Derived.SizedLaws
import Derived.Deep.Fields
import Derived.ChangeSame
import Derived.ChangeArms
import Derived.DataReads
import Derived.Test.YtjfkhbkddenfoaaGreatQmhhliacnbhM
set_option linter.unusedVariables false
set_option linter.unusedSimpArgs false
namespace Go.Proofs.YtjfkhbkddenfoaaGreat.Ev
open Go Go.RowKit Go.ChangeShapes Go.WideShapes Go.Deep Go.Proofs.YtjfkhbkddenfoaaGreatW.PrintWords Go.Proofs.YtjfkhbkddenfoaaGreatW.PrintLast
section
def szs (L:Lays) (t:Nat):Nat:=match lay L t with
 |some y=>y.size
 |none=>0
def tight (L:Lays):Nat→List (Nat×Nat)→Option Nat
 |n,[]=>some n
 |n,(o,t)::r=>bif Nat.beq o n&&(lay L t).isSome then tight L (n+szs L t) r else none
def tights (L:Lays):Bool:=L.all fun p=>match p.2.kind with
 | .st fl=>(match tight L 0 fl with
   |some n=>Nat.beq n p.2.size
   |none=>false)
 | .sl e=>(lay L e).isSome&&Nat.blt 0 (szs L e)
 | .sc=>false
 | .pt=>false
 | .fu=>false
 | .ar _ _=>false
 |_=>true
inductive Shp (L:Lays) (M:Nat):Nat→List AC→Prop
 |bool {t:Nat} {sz:Nat} {z:List AC} (b:Bool):lay L t=some ⟨sz,z,.bool⟩→Shp L M t [.v (.bool b)]
 |int {t:Nat} {sz:Nat} {z:List AC} {k:IntKind} (x:Int):lay L t=some ⟨sz,z,.int k⟩→(Lit.int k x).wf=true→Shp L M t [.v (.int k x)]
 |str {t:Nat} {sz:Nat} {z:List AC} (x:ByteArray):lay L t=some ⟨sz,z,.str⟩→x.size≤maxLen→Shp L M t [.v (.string x)]
 |st {t:Nat} {sz:Nat} {z:List AC} {fl:List (Nat×Nat)} (ps:List (List AC)):lay L t=some ⟨sz,z,.st fl⟩→ps.length=fl.length→(∀(j:Nat) p o u,ps[j]?=some p→fl[j]?=some (o,u)→Shp L M u p)→Shp L M t ps.flatten
 |sl {t:Nat} {sz:Nat} {z:List AC} {e:Nat} (es:List (List AC)):lay L t=some ⟨sz,z,.sl e⟩→es.length≤M→(∀c∈es,Shp L M e c)→Shp L M t [.row (szs L e) es.length es]
theorem Shp.of_bool {L:Lays} {M:Nat} {t sz:Nat} {z:List AC} {cs:List AC} (h:Shp L M t cs) (hl:lay L t=some ⟨sz,z,.bool⟩):∃b,cs=[.v (.bool b)]:=by
 cases h with
 |bool b _=>exact⟨b,rfl⟩
 |_=>simp_all
theorem Shp.of_int {L:Lays} {M:Nat} {t sz:Nat} {z:List AC} {k:IntKind} {cs:List AC} (h:Shp L M t cs) (hl:lay L t=some ⟨sz,z,.int k⟩):∃x,cs=[.v (.int k x)]∧(Lit.int k x).wf=true:=by
 cases h with
 |int x h1 h2=>rw[hl] at h1;cases h1;exact⟨x,rfl,h2⟩
 |_=>simp_all
theorem Shp.of_str {L:Lays} {M:Nat} {t sz:Nat} {z:List AC} {cs:List AC} (h:Shp L M t cs) (hl:lay L t=some ⟨sz,z,.str⟩):∃x:ByteArray,cs=[.v (.string x)]∧x.size≤maxLen:=by
 cases h with
 |str x h1 h2=>exact⟨x,rfl,h2⟩
 |_=>simp_all
theorem Shp.of_st {L:Lays} {M:Nat} {t sz:Nat} {z:List AC} {fl:List (Nat×Nat)} {cs:List AC} (h:Shp L M t cs) (hl:lay L t=some ⟨sz,z,.st fl⟩):∃ps:List (List AC),cs=ps.flatten∧ps.length=fl.length∧∀(j:Nat) p o u,ps[j]?=some p→fl[j]?=some (o,u)→Shp L M u p:=by
 cases h with
 |st ps h1 h2 h3=>rw[hl] at h1;cases h1;exact⟨ps,rfl,h2,h3⟩
 |_=>simp_all
theorem Shp.of_sl {L:Lays} {M:Nat} {t sz:Nat} {z:List AC} {e:Nat} {cs:List AC} (h:Shp L M t cs) (hl:lay L t=some ⟨sz,z,.sl e⟩):∃es:List (List AC),cs=[.row (szs L e) es.length es]∧es.length≤M∧∀c∈es,Shp L M e c:=by
 cases h with
 |sl es h1 h2 h3=>rw[hl] at h1;cases h1;exact⟨es,rfl,h2,h3⟩
 |_=>simp_all
section
variable {H:Type} {enc:TypeId×Value→H} {P:Program} {L:Lays} {M:Nat} {W:World} {base:Nat} {spare:Nat→Bool} {held:Bool}
theorem cells_lay (hL:LaysOk P L) {t:Nat} {y:Lay} (h:lay L t=some y):P.cellsOf t=y.size:=by
 obtain⟨i,hi,hs,_⟩:=(hL t y h).info;unfold Program.cellsOf;rw[hi];exact hs
theorem choose_list {α:Type} {p:Nat→α→Prop}:∀n:Nat,(∀i,i<n→∃x,p i x)→∃l:List α,l.length=n∧∀(i:Nat) x,l[i]?=some x→p i x
 |0,_=>⟨[],rfl,fun i x h=>by cases h⟩
 |n+1,h=>by
  obtain⟨l,h1,h2⟩:=choose_list n (fun i hi=>h i (by omega));obtain⟨x,hx⟩:=h n (by omega);refine⟨l++[x],by simp[h1],fun i y hy=>?_⟩
  by_cases hi:i<l.length
  ·rw[List.getElem?_append_left hi] at hy;exact h2 i y hy
  ·rw[List.getElem?_append_right (by omega)] at hy
   have:i=n:=by
    have:=(List.getElem?_eq_some_iff.1 hy).1;simp at this;omega
   subst this;simp[h1] at hy;exact hy▸hx
theorem tight_at:∀{fl:List (Nat×Nat)} {n m:Nat},tight L n fl=some m→n≤m∧∀(j:Nat) o u,fl[j]?=some (o,u)→∃y,lay L u=some y∧n≤o∧o+y.size≤m
 |[],n,m,h=>by cases h;exact⟨Nat.le_refl _,fun j o u h=>by cases h⟩
 | (o,t)::r,n,m,h=>by
   unfold tight at h;cases hb:(Nat.beq o n&&(lay L t).isSome) with
   |false=>rw[hb] at h;cases h
   |true =>
    rw[hb] at h;rw[Bool.and_eq_true] at hb;have e:=Nat.eq_of_beq_eq_true hb.1;subst e;obtain⟨y,hy⟩:=Option.isSome_iff_exists.1 hb.2;have hs:szs L t=y.size:=by unfold szs;rw[hy]
    obtain⟨h1,h2⟩:=tight_at (by simpa using h);rw[hs] at h1 h2;refine⟨by omega,fun j o' u hj=>?_⟩
    cases j with
    |zero=>cases hj;exact⟨y,hy,Nat.le_refl _,h1⟩
    |succ j =>
     obtain⟨y',h3,h4,h5⟩:=h2 j o' u (by simpa using hj);exact⟨y',h3,by omega,h5⟩
theorem parts_at {ok:Nat→Prop} {us:List Value}:∀{fl:List (Nat×Nat)} {n m:Nat} {ps:List (List AC)},tight L n fl=some m→m≤us.length→ps.length=fl.length →
  (∀(j:Nat) p o u,ps[j]?=some p→fl[j]?=some (o,u)→TL [] ok W p ((us.drop o).take (szs L u)))→TL [] ok W ps.flatten ((us.drop n).take (m-n))
 |[],n,m,ps,h,hm,hl,hT=>by
  cases h;have:ps=[]:=List.eq_nil_of_length_eq_zero hl;subst this;simp only[Nat.sub_self,List.take_zero,List.flatten_nil];exact⟨rfl,fun j c u hc=>by cases hc⟩
 | (o,t)::r,n,m,[],h,hm,hl,hT=>by simp at hl
 | (o,t)::r,n,m,p::ps,h,hm,hl,hT=>by
   have h0:=h;unfold tight at h;cases hb:(Nat.beq o n&&(lay L t).isSome) with
   |false=>rw[hb] at h;cases h
   |true =>
    rw[hb] at h;rw[Bool.and_eq_true] at hb;have e:=Nat.eq_of_beq_eq_true hb.1;subst e;have h1:=hT 0 p o t rfl rfl;have h2:=parts_at (ps:=ps) (by simpa using h) hm (by simpa using hl) (fun j p o u hp hf=>hT (j+1) p o u (by simpa using hp) (by simpa using hf));have h3:=(tight_at (by simpa using h:tight L (o+szs L t) r=some m)).1;have h4:=h1.append h2;rw[List.flatten_cons];have e2:(us.drop o).take (m-o)=(us.drop o).take (szs L t)++((us.drop (o+szs L t)).take (m-(o+szs L t))):=by
     rw[show m-o=szs L t+(m-(o+szs L t)) by omega,List.take_add,List.drop_drop]
    rw[e2];exact h4
theorem lays_mem {t:Nat} {y:Lay} (h:lay L t=some y):(t,y)∈L:=lay_mem h
theorem trod_lt_cell {b:Addr} {n:Nat} {cs:List Value} (h:W.cells? base b n=some cs) {j:Nat} (hj:j<n):b.block<W.heap.size:=by
 obtain⟨_,hl,hat⟩:=World.cells?_some h;have:=hat j hj;rw[List.getElem?_eq_getElem (by omega)] at this;rw[←add_block b j];unfold World.cell? at this;split at this
 ·rename_i heq
  exact (Array.getElem?_eq_some_iff.1 heq).1
 ·cases this
theorem TL.of {ok:Nat→Prop} {c:AC} {u:Value} (h:TC [] ok W c u):TL [] ok W [c] [u]:=⟨rfl,fun j a b ha hb=>by
 cases j with
 |zero=>cases ha;cases hb;exact h
 |succ j=>cases ha⟩
theorem Shp.plain {t:Nat} {cs:List AC} (h:Shp L M t cs):∀c∈cs,c.noptr=true:=by
 induction h with
 |bool b _=>intro c hc;rw[List.mem_singleton.1 hc];rfl
 |int x _ _=>intro c hc;rw[List.mem_singleton.1 hc];rfl
 |str x _ _=>intro c hc;rw[List.mem_singleton.1 hc];rfl
 | @st t sz z fl ps hl hn _ ih =>
   intro c hc;obtain⟨p,hp,hcp⟩:=List.mem_flatten.1 hc;obtain⟨j,hj,he⟩:=List.mem_iff_getElem.1 hp;exact ih j p _ _ (he▸List.getElem?_eq_getElem hj) (List.getElem?_eq_getElem (show j<fl.length by omega)) c hcp
 |sl es _ _ _ _=>intro c hc;rw[List.mem_singleton.1 hc];rfl
theorem row_told {k len cap:Nat} {a:Addr} {qs:List (List AC×List Value)} (hl:qs.length=len) (hc:len≤cap) (hm:cap≤maxLen) (hk:0<k) (h:∀(i:Nat) q,qs[i]?=some q→W.cells? base (a.add (i*k)) k=some q.2∧TL [] (fun b=>b<W.heap.size) W q.1 q.2∧∀c∈q.1,c.noptr=true) :
  TC [] (fun b=>b<W.heap.size) W (.row k len (qs.map Prod.fst)) (.slice (some a) len cap):=by
 show Foot (fun W=>Rd W _ _) W _
 refine foot_mk fun W' hW'=>?_
 have at_:∀(i:Nat) us,(qs.map Prod.snd)[i]?=some us→us.length=k∧∀(j:Nat) u,us[j]?=some u→W'.cell? (a.add (i*k+j))=some u:=fun i us hus=>by
  rw[List.getElem?_map,Option.map_eq_some_iff] at hus;obtain⟨q,hq,rfl⟩:=hus;obtain⟨h1,h2,_⟩:=h i q hq;obtain⟨_,h3,h4⟩:=World.cells?_some h1;refine⟨h3,fun j u hu=>?_⟩
  have hj:j<k:=by rw[←h3];exact (List.getElem?_eq_some_iff.1 hu).1
  have h5:=(h4 j hj).trans hu;rw[add_add] at h5;rw[←h5];refine cell_block (hW' _ ?_ ?_)
  all_goals
   rw[add_block];have:=trod_lt_cell h1 hk;rw[add_block] at this;exact this
 refine Rd.row k len _ a cap (qs.map Prod.snd) (by simp[hl]) hc (Nat.le_trans (Nat.le_trans hc hm) (by decide)) (by simp[hl]) at_ (fun i cs hcs=>?_) (fun i cs us j c u hcs hus hc hu=>?_)
 ·have hq:∃q,qs[i]?=some q∧q.1=cs:=by
   rw[List.getElem?_map,Option.map_eq_some_iff] at hcs;exact hcs
  obtain⟨q,hq,rfl⟩:=hq;have h1:=(at_ i q.2 (by rw[List.getElem?_map,hq];rfl)).1;have h2:=(h i q hq).2.1.1;omega
 ·rw[List.getElem?_map,Option.map_eq_some_iff] at hcs hus
  obtain⟨q,hq,rfl⟩:=hcs;obtain⟨q',hq',rfl⟩:=hus;rw[hq] at hq';cases hq';have h9:=(h i q hq).2.1.2 j c u hc hu;exact h9.rd ((h i q hq).2.2 c (List.mem_of_getElem? hc)) (fun b hb hlt=>hW' b hb hlt)
def heavy (P:Program) (L:Lays):Bool:=L.all fun p=>match p.2.kind with
 | .sl e=>Nat.blt 0 (P.bytesOf e)
 |_=>true
theorem weights_all {e:TypeId}:∀{ds:List (DataW H)} {d:DataW H},d∈ds→∀n∈d.weights P e,n∈DataW.weightsAll P e ds
 |d0::ds,d,hd,n,hn=>by
  unfold DataW.weightsAll;rcases List.mem_cons.1 hd with rfl|hd
  ·exact List.mem_append_left _ hn
  ·exact List.mem_append_right _ (weights_all hd n hn)
structure Bounded (P:Program) (M:Nat) (Q:TypeId→DataW H→Prop):Prop where
 agg:∀{t:TypeId} {fs:Array Field} {ds:List (DataW H)},P.underlying t=some (.struct fs)→Q t (.agg ds)→∀(j:Nat) f d,fs.toList[j]?=some f→ds[j]?=some d→Q f.type d
 sl:∀{t e:TypeId} {el rest:List (DataW H)},P.underlying t=some (.slice e)→0<P.bytesOf e→Q t (.slice el rest)→el.length≤M∧∀d∈el,Q e d
theorem bounded_weights:Bounded (H:=H) P M fun t d=>∀n∈d.weights P t,n≤M where
 agg:=fun {t fs ds} hd h j f d hf hj n hn=>h n (by
  have e9:DataW.weights P t (.agg ds)=DataW.weightsEach P (fs.toList.map (·.type)) ds:=by
   unfold DataW.weights;rw[hd]
  rw[e9];exact DataW.weights_mem_each (j:=j) (t:=f.type) (d:=d) (by rw[List.getElem?_map,hf];rfl) hj n hn)
 sl:=fun {t e el rest} hd hby h=>by
  have e9:DataW.weights P t (.slice el rest:DataW H)=(el.length+rest.length)*P.bytesOf e::(DataW.weightsAll P e el++DataW.weightsAll P e rest):=by
   rw[DataW.weights,hd]
  refine⟨?_,fun d hd n hn=>h n (by rw[e9];exact List.mem_cons_of_mem _ (List.mem_append_left _ (weights_all hd n hn)))⟩
  have h1:=h _ (by rw[e9];exact List.mem_cons_self);have h2:(el.length+rest.length)*1≤(el.length+rest.length)*P.bytesOf e:=Nat.mul_le_mul_left _ hby;omega
theorem trod_told {Q:TypeId→DataW H→Prop} (hQ:Bounded P M Q) (hL:LaysOk P L) (ht:tights L=true) (hB:heavy P L=true):∀(fuel:Nat) {t:Nat} {y:Lay} {us:List Value} {x:DataW H×List MemPlace},lay L t=some y→Q t x.1→DataW.trod enc P W base spare held fuel t us=some x →
  ∃cs,Shp L M t cs∧TL [] (fun k=>k<W.heap.size) W cs us
 |0,t,y,us,x,hy,hz,h=>by simp[DataW.trod] at h
 |n+1,t,y,us,x,hy,hz,h=>by
  have lit:∀{v:Value},v.oneCell'=true→TL [] (fun k=>k<W.heap.size) W [.v v] [v]:=fun {v} hv=>TL.of (TC.of_v hv)
  obtain⟨d,hd,hk⟩:=(hL t y hy).under;have htt:=List.all_eq_true.1 ht (t,y) (lays_mem hy);obtain⟨sz,z,kd⟩:=y;cases kd with
  |sc=>cases htt
  |pt=>cases htt
  |fu=>cases htt
  |ar=>cases htt
  |bool =>
   cases hk;obtain⟨b,rfl,_⟩:=DataW.trod_bool hd h;exact⟨_,.bool b hy,lit rfl⟩
  |int k =>
   cases hk;obtain⟨b,rfl,_,hw⟩:=DataW.trod_int hd h;exact⟨_,.int b hy hw,lit rfl⟩
  |str =>
   cases hk;obtain⟨b,rfl,_,hw⟩:=DataW.trod_string hd h;exact⟨_,.str b hy hw,lit rfl⟩
  |st fl =>
   obtain⟨fs,rfl,hfl⟩:=hk;obtain⟨xs,m,hm,hxx,hlen,hxl,hf⟩:=DataW.trod_struct hd h;cases hm;subst hxx;have htt:(match tight L 0 fl with
    |some n=>Nat.beq n sz
    |none=>false)=true:=htt
   cases hti:tight L 0 fl with
   |none=>rw[hti] at htt;cases htt
   |some sz' =>
    rw[hti] at htt;have e:sz'=sz:=Nat.eq_of_beq_eq_true htt;subst e;have hcs:us.length=sz':=hlen.trans (cells_lay hL hy);have hfs:fl.length=fs.size:=by rw[←hfl];simp
    have each:∀j,j<fl.length→∃p:List AC,∀o u,fl[j]?=some (o,u)→Shp L M u p∧TL [] (fun k=>k<W.heap.size) W p ((us.drop o).take (szs L u)):=fun j hj=>by
     have hfj:j<fs.size:=by omega
     have e1:fl[j]?=some (fs[j].offset,fs[j].type):=by
      rw[←hfl,List.getElem?_map];have:fs.toList[j]?=some fs[j]:=by simp[hfj]
      rw[this];rfl
     obtain⟨y',hy',_,_⟩:=(tight_at hti).2 j _ _ e1;have h1:=hf j fs[j] (Array.getElem?_eq_getElem hfj);have h2:xs[j]?=some xs[j]:=List.getElem?_eq_getElem (by omega);rw[h2] at h1;obtain⟨p,hp1,hp2⟩:=trod_told hQ hL ht hB n hy' (hQ.agg hd hz j fs[j] xs[j].1 (by simp[hfj]) (by simp[show j<xs.length by omega])) h1;refine⟨p,fun o u hou=>?_⟩
     rw[e1] at hou;cases hou;refine⟨hp1,?_⟩
     rw[cells_lay hL hy'] at hp2;unfold szs;rw[hy'];exact hp2
    obtain⟨ps,hps,hp⟩:=choose_list fl.length each;refine⟨ps.flatten,.st ps hy hps (fun j p o u hpj hfj=>(hp j p hpj o u hfj).1),?_⟩
    have:=parts_at (W:=W) (ok:=fun k=>k<W.heap.size) (us:=us) hti (by omega) hps (fun j p o u hpj hfj=>(hp j p hpj o u hfj).2);rw[List.drop_zero,Nat.sub_zero,List.take_of_length_le (by omega)] at this;exact this
  |sl e =>
   cases hk;have htt:((lay L e).isSome&&Nat.blt 0 (szs L e))=true:=htt;rw[Bool.and_eq_true] at htt;obtain⟨ye,hye⟩:=Option.isSome_iff_exists.1 htt.1;have hpos:=of_decide_eq_true ((show decide (0<szs L e)=Nat.blt 0 (szs L e) by rw[Bool.eq_iff_iff,decide_eq_true_iff,Nat.blt_eq]).trans htt.2);have hsz:szs L e=ye.size:=by unfold szs;rw[hye]
   have hce:P.cellsOf e=szs L e:=(cells_lay hL hye).trans hsz.symm;rcases DataW.trod_slice hd h with⟨rfl,_⟩|⟨a,len,cap,el,rest,m,hm,rfl,hxx,hb,hlc,hcm,hel,hi,_,_⟩
   ·exact⟨_,.sl [] hy (Nat.zero_le _) (fun c hc=>by cases hc),TL.of (foot_mk fun W' _=>Rd.nil _ none 0:Foot (fun W=>Rd W (.row _ 0 []) (.slice none 0 0)) W _)⟩
   ·cases hm
    subst hxx;rw[hce] at hi;have hby:0<P.bytesOf e:=by
     have:=List.all_eq_true.1 hB _ (lays_mem hy);exact Nat.le_of_ble_eq_true this
    obtain⟨hl0,hel0⟩:=hQ.sl hd hby hz;have hlen:len≤M:=by rw[List.length_map] at hl0;omega
    have each:∀i,i<len→∃q:List AC×List Value,(W.cells? base (a.add (i*szs L e)) (szs L e)=some q.2∧TL [] (fun k=>k<W.heap.size) W q.1 q.2∧∀c∈q.1,c.noptr=true)∧Shp L M e q.1:=fun i hlt=>by
     have h1:=hi i hlt;rw[List.getElem?_eq_getElem (by omega)] at h1;obtain⟨us,h2,h3⟩:=Option.bind_eq_some_iff.1 h1;obtain⟨cs,h4,h5⟩:=trod_told hQ hL ht hB n hye (hel0 _ (List.mem_map.2 ⟨el[i],List.getElem_mem _,rfl⟩)) h3;exact⟨(cs,us),⟨h2,h5,h4.plain⟩,h4⟩
    obtain⟨qs,hql,hq⟩:=choose_list len each;have hr:=row_told (W:=W) (base:=base) (a:=a) hql hlc hcm hpos (fun i q hiq=>(hq i q hiq).1);refine⟨[.row (szs L e) (qs.map Prod.fst).length (qs.map Prod.fst)],.sl _ hy (by rw[List.length_map,hql];exact hlen) (fun c hc=>?_),TL.of (by rw[List.length_map,hql];exact hr)⟩
    obtain⟨q,hqm,rfl⟩:=List.mem_map.1 hc;obtain⟨i,hi2,he⟩:=List.mem_iff_getElem.1 hqm;exact (hq i q (he▸List.getElem?_eq_getElem hi2)).2
end
end
end Go.Proofs.YtjfkhbkddenfoaaGreat.Ev
namespace Go.Proofs.YtjfkhbkddenfoaaGreat.Ev
open Go Go.RowKit Go.ChangeShapes Go.WideShapes Go.Proofs.YtjfkhbkddenfoaaGreatW.PrintWords Go.Proofs.YtjfkhbkddenfoaaGreatW.PrintLast Go.Proofs.YtjfkhbkddenfoaaGreat Go.Proofs.YtjfkhbkddenfoaaGreat.Nt
section
def LR:Lays:=[(4,⟨1,[.v (.bool false)],.bool⟩),
 (3,⟨1,[.v (.int .i64 0)],.int .i64⟩),
 (9,⟨1,[.v (.string ⟨#[]⟩)],.str⟩),
 (88,⟨1,[.v (.int .u32 0)],.int .u32⟩),
 (22,⟨1,[.row 1 0 []],.sl 88⟩),
 (24,⟨2,[.v (.bool false),.row 1 0 []],.st [(0,4),(1,22)]⟩),
 (26,⟨3,[.v (.bool false),.row 1 0 [],.row 1 0 []],.st [(0,24),(2,22)]⟩),
 (64,⟨5,[.v (.int .i64 0),.v (.bool false),.row 1 0 [],.row 1 0 [],.v (.string ⟨#[]⟩)],.st [(0,3),(1,26),(4,9)]⟩),
 (46,⟨1,[.row 5 0 []],.sl 64⟩),
 (48,⟨5,[.v (.bool false),.row 1 0 [],.row 1 0 [],.v (.int .i64 0),.row 5 0 []],.st [(0,26),(3,3),(4,46)]⟩),
 (30,⟨1,[.row 5 0 []],.sl 48⟩),
 (32,⟨6,[.row 5 0 [],.v (.int .i64 0),.v (.bool false),.row 1 0 [],.row 1 0 [],.v (.int .i64 0)],.st [(0,30),(1,3),(2,26),(5,3)]⟩),
 (29,⟨11,[.v (.int .i64 0),.v (.int .i64 0),.v (.string ⟨#[]⟩),.v (.bool false),.row 1 0 [],.row 1 0 [],.row 11 0 [],.v (.bool false),.v (.bool false),.row 1 0 [],.row 1 0 []],.st [(0,3),(1,3),(2,9),(3,26),(6,27),(7,4),(8,26)]⟩),
 (27,⟨1,[.row 11 0 []],.sl 29⟩)]
theorem LR_ok:LaysOk Tryz.prog LR:=lays_ok (by kernel_rfl) (by kernel_rfl)
theorem LR_tight:tights LR=true:=by kernel_rfl
theorem LR_heavy:heavy Tryz.prog LR=true:=by kernel_rfl
theorem map_of {α:Type} {p:List AC→Prop} {f:α→List AC} {q:α→Prop} (h:∀c,p c→∃x,c=f x∧q x):∀es:List (List AC),(∀c∈es,p c)→∃l:List α,es=l.map f∧∀x∈l,q x
 |[],_=>⟨[],rfl,fun x hx=>by cases hx⟩
 |c::es,hp=>by
  obtain⟨x,rfl,hx⟩:=h c (hp c (List.mem_cons_self ..));obtain⟨l,rfl,hl⟩:=map_of h es (fun c hc=>hp c (List.mem_cons_of_mem _ hc));exact⟨x::l,rfl,fun y hy=>by
   rcases List.mem_cons.1 hy with rfl|hy
   ·exact hx
   ·exact hl y hy⟩
theorem u32_wf {x:Int} (h:(Lit.int .u32 x).wf=true):0≤x∧x<4294967296:=by
 simp only[Lit.wf,Bool.and_eq_true,decide_eq_true_eq] at h;have h1:IntKind.u32.min=0:=rfl;have h2:IntKind.u32.max=4294967295:=rfl;omega
theorem rb {n:Nat} (h:n≤reachBytes):n≤140737488355328:=Nat.le_trans h (by decide)
theorem shp_u32 {cs:List AC} (h:Shp LR reachBytes 88 cs):∃x,cs=[.v (.int .u32 x)]∧0≤x∧x<4294967296:=by
 obtain⟨x,h,hw⟩:=h.of_int rfl;exact⟨x,h,u32_wf hw⟩
theorem shp_int {cs:List AC} (h:Shp LR reachBytes 3 cs):∃x,cs=[.v (.int .i64 x)]:=by
 obtain⟨x,h,hw⟩:=h.of_int rfl;exact⟨x,h⟩
theorem shp_bool {cs:List AC} (h:Shp LR reachBytes 4 cs):∃x,cs=[.v (.bool x)]:=h.of_bool rfl
theorem shp_str {cs:List AC} (h:Shp LR reachBytes 9 cs):∃x,cs=[.v (.string x)]:=by
 obtain⟨x,h,_⟩:=h.of_str rfl;exact⟨x,h⟩
theorem shp_limbs {cs:List AC} (h:Shp LR reachBytes 22 cs):∃l,cs=[limbs l]∧lim l∧l.length≤140737488355328:=by
 obtain⟨es,rfl,hl,he⟩:=h.of_sl rfl;obtain⟨l,rfl,hl2⟩:=map_of (fun c hc=>shp_u32 hc) es he;rw[List.length_map] at hl;exact⟨l,by unfold limbs;rw[List.length_map];rfl,hl2,rb hl⟩
theorem shp_Int {cs:List AC} (h:Shp LR reachBytes 24 cs):∃b l,cs=[.v (.bool b),limbs l]∧lim l∧l.length≤140737488355328:=by
 obtain⟨ps,rfl,hl,h⟩:=h.of_st rfl
 match ps,hl with
 |[p0,p1],_ =>
  obtain⟨b,rfl⟩:=shp_bool (h 0 _ _ _ rfl rfl);obtain⟨l,rfl,hl⟩:=shp_limbs (h 1 _ _ _ rfl rfl);exact⟨b,l,rfl,hl⟩
theorem shp_Rat {cs:List AC} (h:Shp LR reachBytes 26 cs):∃r:N3,cs=r.c∧r.raw:=by
 obtain⟨ps,rfl,hl,h⟩:=h.of_st rfl
 match ps,hl with
 |[p0,p1],_ =>
  obtain⟨b,l,rfl,h1,h2⟩:=shp_Int (h 0 _ _ _ rfl rfl);obtain⟨m,rfl,h3,h4⟩:=shp_limbs (h 1 _ _ _ rfl rfl);exact⟨(b,l,m),rfl,h1,h3,h2,h4⟩
theorem shp_Value {cs:List AC} (h:Shp LR reachBytes 64 cs):∃v:Vl,cs=v.c∧v.raw:=by
 obtain⟨ps,rfl,hl,h⟩:=h.of_st rfl
 match ps,hl with
 |[p0,p1,p2],_ =>
  obtain⟨k,rfl⟩:=shp_int (h 0 _ _ _ rfl rfl);obtain⟨r,rfl,hr⟩:=shp_Rat (h 1 _ _ _ rfl rfl);obtain⟨s,rfl⟩:=shp_str (h 2 _ _ _ rfl rfl);exact⟨⟨k,r,s⟩,rfl,⟨hr⟩⟩
theorem shp_Values {cs:List AC} (h:Shp LR reachBytes 46 cs):∃l:List Vl,cs=[vls l]∧l.length≤140737488355328∧∀v∈l,v.raw:=by
 obtain⟨es,rfl,hl,he⟩:=h.of_sl rfl;obtain⟨l,rfl,hl2⟩:=map_of (fun c hc=>shp_Value hc) es he;rw[List.length_map] at hl;exact⟨l,by unfold vls;rw[List.length_map];rfl,rb hl,hl2⟩
theorem shp_Entry {cs:List AC} (h:Shp LR reachBytes 48 cs):∃e:En,cs=e.c∧e.raw:=by
 obtain⟨ps,rfl,hl,h⟩:=h.of_st rfl
 match ps,hl with
 |[p0,p1,p2],_ =>
  obtain⟨r,rfl,hr⟩:=shp_Rat (h 0 _ _ _ rfl rfl);obtain⟨k,rfl⟩:=shp_int (h 1 _ _ _ rfl rfl);obtain⟨l,rfl,h1,h2⟩:=shp_Values (h 2 _ _ _ rfl rfl);exact⟨⟨r,k,l⟩,rfl,hr,h1,h2⟩
theorem shp_Entries {cs:List AC} (h:Shp LR reachBytes 30 cs):∃l:List En,cs=[ens l]∧l.length≤140737488355328∧∀v∈l,v.raw:=by
 obtain⟨es,rfl,hl,he⟩:=h.of_sl rfl;obtain⟨l,rfl,hl2⟩:=map_of (fun c hc=>shp_Entry hc) es he;rw[List.length_map] at hl;exact⟨l,by unfold ens;rw[List.length_map];rfl,rb hl,hl2⟩
theorem shp_Trace {cs:List AC} (h:Shp LR reachBytes 32 cs):∃t:Tr,cs=t.c∧t.raw:=by
 obtain⟨ps,rfl,hl,h⟩:=h.of_st rfl
 match ps,hl with
 |[p0,p1,p2,p3],_ =>
  obtain⟨l,rfl,h1,h2⟩:=shp_Entries (h 0 _ _ _ rfl rfl);obtain⟨k,rfl⟩:=shp_int (h 1 _ _ _ rfl rfl);obtain⟨r,rfl,hr⟩:=shp_Rat (h 2 _ _ _ rfl rfl);obtain⟨j,rfl⟩:=shp_int (h 3 _ _ _ rfl rfl);exact⟨⟨l,k,r,j⟩,rfl,h1,h2,hr⟩
theorem shp_fm {t:Nat} {cs:List AC} (h:Shp LR reachBytes t cs):(t=29→∃f:Fm,cs=f.c∧Raw f)∧(t=27→∃l:List Fm,cs=[frow l]∧l.length≤140737488355328∧∀x∈l,Raw x):=by
 induction h with
 |bool b hy=>exact⟨fun e=>(by subst e;cases hy),fun e=>(by subst e;cases hy)⟩
 |int x hy hw=>exact⟨fun e=>(by subst e;cases hy),fun e=>(by subst e;cases hy)⟩
 |str x hy hw=>exact⟨fun e=>(by subst e;cases hy),fun e=>(by subst e;cases hy)⟩
 | @st t sz z fl ps hy hl hp ih =>
   refine⟨fun e=>?_,fun e=>(by subst e;cases hy)⟩
   subst e;have e2:fl=[(0,3),(1,3),(2,9),(3,26),(6,27),(7,4),(8,26)]:=by
    have:lay LR 29=some ⟨sz,z,.st fl⟩:=hy;have e3:(lay LR 29).map (·.kind)=some (.st fl):=by rw[this];rfl
    have e4:(lay LR 29).map (·.kind)=some (.st [(0,3),(1,3),(2,9),(3,26),(6,27),(7,4),(8,26)]):=rfl;rw[e4] at e3;injection e3 with e3;injection e3 with e3;exact e3.symm
   subst e2
   match ps,hl with
   |[p0,p1,p2,p3,p4,p5,p6],_ =>
    obtain⟨k,rfl⟩:=shp_int (hp 0 _ _ _ rfl rfl);obtain⟨o,rfl⟩:=shp_int (hp 1 _ _ _ rfl rfl);obtain⟨s,rfl⟩:=shp_str (hp 2 _ _ _ rfl rfl);obtain⟨n,rfl,hn⟩:=shp_Rat (hp 3 _ _ _ rfl rfl);obtain⟨a,rfl,h1,h2⟩:=(ih 4 p4 6 _ rfl rfl).2 rfl;obtain⟨b,rfl⟩:=shp_bool (hp 5 _ _ _ rfl rfl);obtain⟨w,rfl,hw⟩:=shp_Rat (hp 6 _ _ _ rfl rfl);exact⟨.mk k o s n a b w,rfl,.mk hn hw h1 h2⟩
 | @sl t sz z e es hy hl hp ih =>
   refine⟨fun e=>(by subst e;cases hy),fun et=>?_⟩
   subst et;have e2:e=29:=by
    have:lay LR 27=some ⟨sz,z,.sl e⟩:=hy;have e3:(lay LR 27).map (·.kind)=some (.sl e):=by rw[this];rfl
    have e4:(lay LR 27).map (·.kind)=some (.sl 29):=rfl;rw[e4] at e3;injection e3 with e3;injection e3 with e3;exact e3.symm
   subst e2;obtain⟨l,rfl,hl2⟩:=map_of (fun c hc=>hc) es (fun c hc=>(ih c hc).1 rfl);rw[List.length_map] at hl;exact⟨l,by unfold frow;rw[List.length_map,fcs_map];rfl,rb hl,hl2⟩
section
variable {H:Type} {enc:TypeId×Value→H} {W:World} {base:Nat} {spare:Nat→Bool} {held:Bool} {r:Reach} {b0:Nat}
set_option maxRecDepth 100000 in
theorem tr_told {v:Value} {d:DataW H} {p:List MemPlace} (hv:Value.okWide Tryz.prog W r b0 32 v) (hz:∀n∈d.weights Tryz.prog 32,n≤reachBytes) (h:DataW.Trod enc Tryz.prog W base spare held 32 v d p) :
  ∃c:Tr,TG [] (fun k=>k<W.heap.size) W (.agg c.c) v∧c.raw:=by
 obtain⟨cs,rfl,hcs⟩:=okWide_struct Tryz.underlying32 hv;obtain⟨fuel,hf⟩:=h;obtain⟨ac,hs,hT⟩:=trod_told bounded_weights LR_ok LR_tight LR_heavy fuel (t:=32) rfl hz hf;obtain⟨c,rfl,h1⟩:=shp_Trace hs;exact⟨c,⟨cs,rfl,hT⟩,h1⟩
set_option maxRecDepth 100000 in
theorem fm_told {v:Value} {d:DataW H} {p:List MemPlace} (hv:Value.okWide Tryz.prog W r b0 29 v) (hz:∀n∈d.weights Tryz.prog 29,n≤reachBytes) (h:DataW.Trod enc Tryz.prog W base spare held 29 v d p) :
  ∃c:Fm,TG [] (fun k=>k<W.heap.size) W (.agg c.c) v∧Raw c:=by
 obtain⟨cs,rfl,hcs⟩:=okWide_struct Tryz.underlying29 hv;obtain⟨fuel,hf⟩:=h;obtain⟨ac,hs,hT⟩:=trod_told bounded_weights LR_ok LR_tight LR_heavy fuel (t:=29) rfl hz hf;obtain⟨c,rfl,h1⟩:=(shp_fm hs).1 rfl;exact⟨c,⟨cs,rfl,hT⟩,h1⟩
end
theorem args1 {ok:Nat→Prop} {w:World} {x:AG} {u:Value} (h:TG [] ok w x u):TA ok w [x] #[u]:=⟨rfl,fun j a b ha hb=>by
 match j with
 |0=>cases ha;simp at hb;subst hb;exact h
 |j+1=>simp at ha⟩
theorem args_cons {ok:Nat→Prop} {w:World} {x:AG} {u:Value} {xs:List AG} {us:Array Value} (h:TG [] ok w x u) (hs:TA ok w xs us):TA ok w (x::xs) (#[u]++us):=TB.append (args1 h) hs
end
end Go.Proofs.YtjfkhbkddenfoaaGreat.Ev
