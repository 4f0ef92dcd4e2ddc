import Derived.Test.YtjfkhbkddenfoaaGreatRows
import Derived.ProofKit
import Derived.JoinedOf
import Derived.KernelRfl
import Derived.Test.YtjfkhbkddenfoaaGreatQgoapcpfdbnM
import Derived.Laws.CopyRow
import Derived.Laws.Cells
import Derived.Laws.Small
import Derived.Laws.World
import Derived.Laws.Tables
import Derived.Great.BuildSlice
import Derived.Laws.MakeOwn
import Derived.Laws.AppendOwn
import Derived.Laws.Append
set_option linter.unusedVariables false
set_option linter.unusedSimpArgs false
namespace Go.Proofs.YtjfkhbkddenfoaaGreat.Io
section
theorem ws_word:∀(w l:List Char),(∀c∈w,c≠Char.ofNat 32)→wordsSigns (w++Char.ofNat 32::l)=w::wordsSigns l
 |[],l,_=>rfl
 |c::w,l,h=>by
  have ih:=ws_word w l (fun x hx=>h x (by simp[hx]));rw[List.cons_append,wordsSigns,ih];intro e;exact h c (by simp) e
def ioH:List Nat:=[104,97,114,110,101,115,115]
def ioS:List Nat:=[97,53,48,50,101,50,57,102,99,55,100,54,102,57,51,99,54,102,56,53,50,102,53,56,52,51,50,52,54,100,101,102,100,97,57,100,55,51,50,102,101,100,50,52,55,101,99,100,102,57,98,57,48,57,57,54,52,55,57,53,99,52,53,52]
def ioC:List Nat:=[99,117,116]
def ioR:List Nat:=[97,116,32,102,111,108,105,111,116,47,102,111,108,105,111,116,108,97,119,50,55,46,83,112,101,99,69,118,97,108,32,102,111,108,105,111,116,47,102,111,108,105,111,116,108,97,119,50,55,46,83,112,101,99,87,97,116,99,104,32,102,111,108,105,111,116,47,102,111,108,105,111,116,108,97,119,50,55,46,83,112,101,99,77,111,114,101]
theorem io:Tryz.checked.prog.initOrder=String.ofList (ioH.map Char.ofNat++Char.ofNat 32::(ioS.map Char.ofNat++Char.ofNat 32::(ioC.map Char.ofNat++Char.ofNat 32::ioR.map Char.ofNat))):=by kernel_rfl
theorem words:wordsSigns Tryz.checked.prog.initOrder.toList=ioH.map Char.ofNat::ioS.map Char.ofNat::ioC.map Char.ofNat::wordsSigns (ioR.map Char.ofNat):=by
 rw[io,String.toList_ofList,ws_word _ _ (by decide +kernel),ws_word _ _ (by decide +kernel),ws_word _ _ (by decide +kernel)]
theorem behind (R:List (List Char)):behindMainWord (ioH.map Char.ofNat::ioS.map Char.ofNat::ioC.map Char.ofNat::R)=ioC.map Char.ofNat::R:=by kernel_rfl
theorem make_gen (P:Program) (C:List Char) (R:List (List Char)) (h:behindMainWord (wordsSigns P.initOrder.toList)=C::R) (h1:(C == "gc".toList)=false) (h2:(C == "spec".toList)=false) (h3:(C == "cut".toList)=true):P.make=some Make.cut:=by
 unfold Program.make;rw[h];simp only[h1,h2,h3,Bool.or_self,Bool.true_or,if_true,Bool.false_eq_true,if_false]
theorem may_gen (P:Program) (C:List Char) (R:List (List Char)) (h:behindMainWord (wordsSigns P.initOrder.toList)=C::R) (h3:(C == "cut".toList)=true) (hs:stripLifts liftWords (C::R)=([],C::R)) (hl:P.laysLater=false) (hb:P.bearsReflect=false) (hd:P.doorFits []=true):P.mayEnter=true:=by
 have h4:((C::R).head? == some "cut".toList)=true:=by
  rw[List.head?_cons];exact h3
 unfold Program.mayEnter;rw[h];simp only[hs,hl,hb,hd,h4,List.contains_nil,Bool.not_false,Bool.or_true,Bool.and_self]
theorem lifts_gen (P:Program) (C:List Char) (R:List (List Char)) (h:behindMainWord (wordsSigns P.initOrder.toList)=C::R) (h4:(C == "carried".toList)=false) (hs:stripLifts liftWords (C::R)=([],C::R)):P.liftsFinal=false:=by
 have h5:((C::R).head? == some "carried".toList)=false:=by
  rw[List.head?_cons];exact h4
 unfold Program.liftsFinal Program.headLifts;rw[h];simp only[hs,h5,Bool.false_and,Bool.false_or];split<;>rfl
theorem strip (R:List (List Char)):stripLifts liftWords (ioC.map Char.ofNat::R)=([],ioC.map Char.ofNat::R):=by kernel_rfl
theorem bh:behindMainWord (wordsSigns Tryz.checked.prog.initOrder.toList)=ioC.map Char.ofNat::wordsSigns (ioR.map Char.ofNat):=by rw[words,behind]
theorem make_cut:Tryz.checked.prog.make=some Make.cut:=make_gen _ _ _ bh (by kernel_rfl) (by kernel_rfl) (by kernel_rfl)
theorem may_enter:Tryz.checked.prog.mayEnter=true:=may_gen _ _ _ bh (by kernel_rfl) (strip _) (by kernel_rfl) (by kernel_rfl) (by kernel_rfl)
theorem lifts_final:Tryz.checked.prog.liftsFinal=false:=lifts_gen _ _ _ bh (by kernel_rfl) (strip _)
end
end Go.Proofs.YtjfkhbkddenfoaaGreat.Io
namespace Go.Proofs.YtjfkhbkddenfoaaGreat.Ev
open Go Go.RowKit Go.Proofs.YtjfkhbkddenfoaaGreatW.PrintWords Go.Proofs.YtjfkhbkddenfoaaGreatW.PrintLast
section
inductive FC where
 |ptr (i off:Nat)
 |val (x:Value)
inductive AC where
 |v (x:Value)
 |row (k n:Nat) (es:List (List AC))
 |pe (cs:List AC)
 |ptr (i off:Nat)
 |fn (f:FuncId) (fi ca:List FC)
 |sl (i e k n:Nat)
 |el (i k j off:Nat)
 |any
inductive AG where
 |one (c:AC)
 |agg (cs:List AC)
inductive AV where
 |g (x:AG)
 |tup (xs:List AG)
def setAt {α:Type} (l:List α) (n:Nat) (x:α):List α:=bif Nat.blt n l.length then l.set n x else l++[x]
theorem setAt_get {α:Type} {l:List α} {n:Nat} {x:α} (h:n≤l.length) (i:Nat):(setAt l n x)[i]?=if i=n then some x else l[i]?:=by
 unfold setAt;cases hb:Nat.blt n l.length with
 |true =>
  have hlt:n<l.length:=Nat.le_of_ble_eq_true hb;simp only[cond_true,List.getElem?_set,hlt,if_true];by_cases hi:i=n
  ·subst hi;simp
  ·rw[if_neg (fun e=>hi e.symm),if_neg hi]
 |false =>
  have hn:n=l.length:=by
   have:¬n<l.length:=fun h'=>by rw[show Nat.blt n l.length=true from Nat.ble_eq_true_of_le h'] at hb;cases hb
   omega
  subst hn;simp only[cond_false];by_cases hi:i=l.length
  ·subst hi;simp
  ·rw[if_neg hi]
   by_cases h2:i<l.length
   ·rw[List.getElem?_append_left h2]
   ·rw[List.getElem?_eq_none (by simp;omega),List.getElem?_eq_none (by omega)]
theorem mem_setAt {α:Type} {l:List α} {n:Nat} {x y:α} (h:n≤l.length) (hy:y∈setAt l n x):y∈l∨y=x:=by
 obtain⟨i,hi⟩:=List.mem_iff_getElem?.1 hy;rw[setAt_get h] at hi;split at hi
 ·cases hi;exact .inr rfl
 ·exact .inl (List.mem_iff_getElem?.2 ⟨i,hi⟩)
theorem setAt_len {α β:Type} {l:List α} {m:List β} {n:Nat} {x:α} {y:β} (h:l.length=m.length):(setAt l n x).length=(setAt m n y).length:=by
 unfold setAt;rw[h];cases Nat.blt n m.length<;>simp[h]
inductive Rd (W:World):AC→Value→Prop
 |v (x:Value):x.oneCell'=true→Rd W (.v x) x
 |nil (k:Nat) (A:Option Addr) (cap:Nat):Rd W (.row k 0 []) (.slice A 0 cap)
 |row (k n:Nat) (es:List (List AC)) (ad:Addr) (cap:Nat) (vs:List (List Value)):es.length=n→n≤cap→n≤9223372036854775807→vs.length=n →
   (∀(i:Nat) us,vs[i]?=some us→us.length=k∧∀(j:Nat) u,us[j]?=some u→W.cell? (ad.add (i*k+j))=some u) →
   (∀(i:Nat) cs,es[i]?=some cs→cs.length=k) →
   (∀(i:Nat) cs us (j:Nat) c u,es[i]?=some cs→vs[i]?=some us→cs[j]?=some c→us[j]?=some u→Rd W c u)→Rd W (.row k n es) (.slice (some ad) n cap)
 |pe (cs:List AC) (ad:Addr) (vs:List Value):vs.length=cs.length →
   (∀(j:Nat) u,vs[j]?=some u→W.cell? (ad.add j)=some u)→(∀(j:Nat) c u,cs[j]?=some c→vs[j]?=some u→Rd W c u)→Rd W (.pe cs) (.pointer (some ad))
 |any (u:Value):u.oneCell'=true→Rd W .any u
theorem Rd.one {W:World} {c:AC} {u:Value} (h:Rd W c u):u.oneCell'=true:=by
 cases h<;>first|assumption|rfl
def SlOk (g:List (Option Nat)) (w:World) (i e k n:Nat) (u:Value):Prop:=(n=0∧∃A,u=.slice A 0 0) ∨
 (0<n∧∃b cap cur,g[i]?=some (some b)∧u=.slice (some ⟨b,0,none⟩) n cap∧n≤cap∧cap≤maxLen∧w.heap[b]?=some (.cells cur e (0,0))∧cur.size=cap*k)
def FCok (g:List (Option Nat)):FC→Value→Prop
 | .ptr i off,u=>∃b,g[i]?=some (some b)∧u=.pointer (some ⟨b,off,none⟩)
 | .val x,u=>u=x∧x.oneCell'=true
def FL (g:List (Option Nat)) (fs:List FC) (us:List Value):Prop:=us.length=fs.length∧∀(j:Nat) f u,fs[j]?=some f→us[j]?=some u→FCok g f u
def TC (g:List (Option Nat)) (ok:Nat→Prop) (w:World):AC→Value→Prop
 | .ptr i off,u=>∃b,g[i]?=some (some b)∧u=.pointer (some ⟨b,off,none⟩)
 | .fn f fi ca,u=>∃us vs:Array Value,u=.func (.func f) us vs∧FL g fi us.toList∧FL g ca vs.toList
 | .sl i e k n,u=>SlOk g w i e k n u
 | .el i k j off,u=>∃b,g[i]?=some (some b)∧u=.pointer (some ⟨b,j*k+off,none⟩)
 |c,u=>Foot (fun W=>Rd W c u) w ok
def TL (g:List (Option Nat)) (ok:Nat→Prop) (w:World) (cs:List AC) (us:List Value):Prop:=us.length=cs.length∧∀(j:Nat) c u,cs[j]?=some c→us[j]?=some u→TC g ok w c u
def TG (g:List (Option Nat)) (ok:Nat→Prop) (w:World):AG→Value→Prop
 | .one c,u=>TC g ok w c u
 | .agg cs,u=>∃us:Array Value,u=.agg us∧TL g ok w cs us.toList
def TV (g:List (Option Nat)) (ok:Nat→Prop) (w:World):AV→Value→Prop
 | .g x,u=>TG g ok w x u
 | .tup xs,u=>∃us:Array Value,u=.tuple us∧us.size=xs.length∧∀(j:Nat) (x:AG) y,xs[j]?=some x→us[j]?=some y→TG g ok w x y
section
variable {g g':List (Option Nat)} {ok ok':Nat→Prop} {w w':World}
structure Mv (g g':List (Option Nat)) (ok ok':Nat→Prop) (w w':World):Prop where
 own:∀(i:Nat) b,g[i]?=some (some b)→g'[i]?=some (some b)
 keep:∀k,ok k→k<w.heap.size→w'.heap[k]?=w.heap[k]?
 foot:∀k,ok k→k<w.heap.size→ok' k
 form:∀(i:Nat) b cur e,g[i]?=some (some b)→w.heap[b]?=some (.cells cur e (0,0))→∃cur':Array Value,w'.heap[b]?=some (.cells cur' e (0,0))∧cur'.size=cur.size
theorem foot_mv {P:World→Prop} (m:Mv g g' ok ok' w w') (h:Foot P w ok):Foot P w' ok':=by
 refine Foot.mono (Foot.step (Foot.bound h) (fun k hk _=>m.keep k hk.1 hk.2)) (fun k hk=>m.foot k hk.1 hk.2)
theorem FL.mono (m:∀(i:Nat) b,g[i]?=some (some b)→g'[i]?=some (some b)) {fs:List FC} {us:List Value} (h:FL g fs us):FL g' fs us:=by
 refine⟨h.1,fun j f u hf hu=>?_⟩
 have h1:=h.2 j f u hf hu;cases f with
 |ptr i off=>obtain⟨b,hb,e⟩:=h1;exact⟨b,m i b hb,e⟩
 |val x=>exact h1
theorem TC.mv (m:Mv g g' ok ok' w w') {c:AC} {u:Value} (h:TC g ok w c u):TC g' ok' w' c u:=by
 cases c with
 |ptr i off =>
  obtain⟨b,hb,rfl⟩:=h;exact⟨b,m.own i b hb,rfl⟩
 |fn f fi ca =>
  obtain⟨us,vs,rfl,h1,h2⟩:=h;exact⟨us,vs,rfl,h1.mono m.own,h2.mono m.own⟩
 |sl i e k n =>
  rcases h with h|⟨h0,b,cap,cur,hb,rfl,h1,h2,h3,h4⟩
  ·exact .inl h
  ·obtain⟨cur',h5,h6⟩:=m.form i b cur e hb h3
   exact .inr ⟨h0,b,cap,cur',m.own i b hb,rfl,h1,h2,h5,h6.trans h4⟩
 |el i k j off =>
  obtain⟨b,hb,rfl⟩:=h;exact⟨b,m.own i b hb,rfl⟩
 |v x=>exact foot_mv m h
 |row k n es=>exact foot_mv m h
 |pe cs=>exact foot_mv m h
 |any=>exact foot_mv m h
theorem TL.mv (m:Mv g g' ok ok' w w') {cs:List AC} {us:List Value} (h:TL g ok w cs us):TL g' ok' w' cs us:=⟨h.1,fun j c u hc hu=>(h.2 j c u hc hu).mv m⟩
theorem TG.mv (m:Mv g g' ok ok' w w') {x:AG} {u:Value} (h:TG g ok w x u):TG g' ok' w' x u:=by
 cases x with
 |one c=>exact TC.mv m h
 |agg cs =>
  obtain⟨us,rfl,h⟩:=h;exact⟨us,rfl,h.mv m⟩
theorem TV.mv (m:Mv g g' ok ok' w w') {x:AV} {u:Value} (h:TV g ok w x u):TV g' ok' w' x u:=by
 cases x with
 |g x=>exact TG.mv m h
 |tup xs =>
  obtain⟨us,rfl,hl,h⟩:=h;exact⟨us,rfl,hl,fun j x y hx hy=>(h j x y hx hy).mv m⟩
theorem TC.one {c:AC} {u:Value} (h:TC g ok w c u):u.oneCell'=true:=by
 cases c with
 |ptr i off =>
  obtain⟨b,hb,rfl⟩:=h;rfl
 |fn f fi ca =>
  obtain⟨us,vs,rfl,_⟩:=h;rfl
 |sl i e k n =>
  rcases h with⟨_,A,rfl⟩|⟨_,b,cap,cur,hb,rfl,_⟩<;>rfl
 |el i k j off =>
  obtain⟨b,hb,rfl⟩:=h;rfl
 |v x=>exact (Foot.now h).one
 |row k n es=>exact (Foot.now h).one
 |pe cs=>exact (Foot.now h).one
 |any=>exact (Foot.now h).one
theorem TC.v_eq {x u:Value} (h:TC g ok w (.v x) u):u=x:=by
 have:=Foot.now h;cases this;rfl
theorem TC.of_any {x:Value} (h:x.oneCell'=true):TC g ok w .any x:=fun _ _=>Rd.any x h
theorem TC.of_v {x:Value} (h:x.oneCell'=true):TC g ok w (.v x) x:=fun _ _=>Rd.v x h
end
def renF (f:Nat→Option Nat):List FC→Option (List FC)
 |[]=>some []
 | .ptr i off::r=>match f i,renF f r with
   |some j,some r'=>some (.ptr j off::r')
   |_,_=>none
 | .val x::r=>match renF f r with
   |some r'=>some (.val x::r')
   |none=>none
def ren (f:Nat→Option Nat):AC→AC
 | .ptr i off=>match f i with
   |some j=>.ptr j off
   |none=>.any
 | .sl i e k n=>match f i with
   |some j=>.sl j e k n
   |none=>bif Nat.beq n 0 then .sl 0 e k 0 else .any
 | .el i k j off=>match f i with
   |some i'=>.el i' k j off
   |none=>.any
 | .fn h fi ca=>match renF f fi,renF f ca with
   |some fi',some ca'=>.fn h fi' ca'
   |_,_=>.any
 |c=>c
def renG (f:Nat→Option Nat):AG→AG
 | .one c=>.one (ren f c)
 | .agg cs=>.agg (cs.map (ren f))
def renV (f:Nat→Option Nat):AV→AV
 | .g x=>.g (renG f x)
 | .tup xs=>.tup (xs.map (renG f))
section
variable {g g':List (Option Nat)} {ok ok':Nat→Prop} {w:World} {f:Nat→Option Nat}
theorem FL.ren (m:∀i j b,f i=some j→g[i]?=some (some b)→g'[j]?=some (some b)):∀{fs fs':List FC} {us:List Value},renF f fs=some fs'→FL g fs us→FL g' fs' us
 |[],fs',us,h,hF=>by
  cases h;exact⟨hF.1,fun j f u hf=>by cases hf⟩
 | .ptr i off::r,fs',[],h,hF=>by have:=hF.1;simp at this
 | .val x::r,fs',[],h,hF=>by have:=hF.1;simp at this
 | .ptr i off::r,fs',u::us,h,hF=>by
   unfold renF at h;split at h
   ·rename_i j r' hj hr
    cases h;obtain⟨b,hb,e⟩:=(show FCok g (.ptr i off) u from hF.2 0 _ _ rfl rfl);have h2:=FL.ren m hr (⟨by simpa using hF.1,fun j f u hf hu=>hF.2 (j+1) f u (by simpa using hf) (by simpa using hu)⟩:FL g r us);refine⟨by simp[h2.1],fun k f u hf hu=>?_⟩
    cases k with
    |zero=>cases hf;cases hu;exact⟨b,m i j b hj hb,e⟩
    |succ k=>exact h2.2 k f u (by simpa using hf) (by simpa using hu)
   ·cases h
 | .val x::r,fs',u::us,h,hF=>by
   unfold renF at h;split at h
   ·rename_i r' hr
    cases h;have h0:=hF.2 0 _ _ rfl rfl;have h2:=FL.ren m hr (⟨by simpa using hF.1,fun j f u hf hu=>hF.2 (j+1) f u (by simpa using hf) (by simpa using hu)⟩:FL g r us);refine⟨by simp[h2.1],fun k f u hf hu=>?_⟩
    cases k with
    |zero=>cases hf;cases hu;exact h0
    |succ k=>exact h2.2 k f u (by simpa using hf) (by simpa using hu)
   ·cases h
theorem TC.ren (m:∀i j b,f i=some j→g[i]?=some (some b)→g'[j]?=some (some b)) (hf:∀k,ok k→k<w.heap.size→ok' k) {c:AC} {u:Value} (h:TC g ok w c u):TC g' ok' w (ren f c) u:=by
 have foot:∀{c:AC},Foot (fun W=>Rd W c u) w ok→Foot (fun W=>Rd W c u) w ok':=fun h=>Foot.mono (Foot.bound h) (fun k hk=>hf k hk.1 hk.2)
 have lost:u.oneCell'=true:=TC.one h;cases c with
 |ptr i off =>
  unfold Ev.ren;simp only;split
  ·rename_i j hj
   obtain⟨b,hb,rfl⟩:=h;exact⟨b,m i j b hj hb,rfl⟩
  ·exact TC.of_any lost
 |sl i e k n =>
  unfold Ev.ren;simp only;split
  ·rename_i j hj
   rcases (show SlOk g w i e k n u from h) with h|⟨h0,b,cap,cur,hb,h⟩
   ·exact .inl h
   ·exact .inr ⟨h0,b,cap,cur,m i j b hj hb,h⟩
  ·cases hb:Nat.beq n 0 with
   |false=>exact TC.of_any lost
   |true =>
    have:=Nat.eq_of_beq_eq_true hb;subst this;rcases (show SlOk g w i e k 0 u from h) with h|⟨h0,_⟩
    ·exact .inl h
    ·exact absurd h0 (Nat.lt_irrefl 0)
 |el i k j off =>
  unfold Ev.ren;simp only;split
  ·rename_i i' hi
   obtain⟨b,hb,rfl⟩:=h;exact⟨b,m i i' b hi hb,rfl⟩
  ·exact TC.of_any lost
 |fn h' fi ca =>
  unfold Ev.ren;simp only;split
  ·rename_i fi' ca' h1 h2
   obtain⟨us,vs,rfl,h3,h4⟩:=h;exact⟨us,vs,rfl,h3.ren m h1,h4.ren m h2⟩
  ·exact TC.of_any lost
 |v x=>exact foot h
 |row k n es=>exact foot h
 |pe cs=>exact foot h
 |any=>exact foot h
theorem TL.ren (m:∀i j b,f i=some j→g[i]?=some (some b)→g'[j]?=some (some b)) (hf:∀k,ok k→k<w.heap.size→ok' k) {cs:List AC} {us:List Value} (h:TL g ok w cs us):TL g' ok' w (cs.map (Ev.ren f)) us:=by
 refine⟨by simp[h.1],fun j c u hc hu=>?_⟩
 rw[List.getElem?_map] at hc;obtain⟨c',hc',rfl⟩:=Option.map_eq_some_iff.1 hc;exact (h.2 j c' u hc' hu).ren m hf
theorem TG.ren (m:∀i j b,f i=some j→g[i]?=some (some b)→g'[j]?=some (some b)) (hf:∀k,ok k→k<w.heap.size→ok' k) {x:AG} {u:Value} (h:TG g ok w x u):TG g' ok' w (renG f x) u:=by
 cases x with
 |one c=>exact TC.ren m hf h
 |agg cs =>
  obtain⟨us,rfl,h⟩:=h;exact⟨us,rfl,h.ren m hf⟩
theorem TV.ren (m:∀i j b,f i=some j→g[i]?=some (some b)→g'[j]?=some (some b)) (hf:∀k,ok k→k<w.heap.size→ok' k) {x:AV} {u:Value} (h:TV g ok w x u):TV g' ok' w (renV f x) u:=by
 cases x with
 |g x=>exact TG.ren m hf h
 |tup xs =>
  obtain⟨us,rfl,hl,h⟩:=h;refine⟨us,rfl,by simp[hl],fun j x y hx hy=>?_⟩
  rw[List.getElem?_map] at hx;obtain⟨x',hx',rfl⟩:=Option.map_eq_some_iff.1 hx;exact (h j x' y hx' hy).ren m hf
end
end
section
inductive TK where
 |sc
 |int (k:IntKind)
 |str
 |bool
 |st (fl:List (Nat×Nat))
 |sl (e:Nat)
 |pt
 |fu
 |ar (n e:Nat)
structure Lay where
 size:Nat
 zero:List AC
 kind:TK
abbrev Lays:=List (Nat×Lay)
def lay:Lays→Nat→Option Lay
 |[],_=>none
 | (k,y)::r,t=>bif Nat.beq k t then some y else lay r t
def TK.ok (d:TypeDesc):TK→Prop
 | .sc=>(match d with|.struct _|.array _ _=>true|_=>false)=false
 | .int k=>d=.int k
 | .str=>d=.string
 | .bool=>d=.bool
 | .st fl=>∃fs,d=.struct fs∧fs.toList.map (fun f=>(f.offset,f.type))=fl
 | .sl e=>d=.slice e
 | .pt=>∃e,d=.pointer e
 | .fu=>∃a b c,d=.func a b c
 | .ar n e=>d=.array n e
def AC.zval:AC→Value
 | .v x=>x
 |_=>.slice none 0 0
def AC.zok:AC→Bool
 | .v x=>x.oneCell'
 | .row _ 0 []=>true
 |_=>false
structure LayOk (P:Program) (t:Nat) (y:Lay):Prop where
 info:∃i,P.info? t=some i∧i.size=y.size∧∃z,i.zero=some z∧z.cells.toList=y.zero.map AC.zval
 small:∃i,P.info? t=some i∧i.bytes≤1048576
 size:y.zero.length=y.size
 ones:∀u∈y.zero,u.zok=true
 under:∃d,P.underlying t=some d∧y.kind.ok d
def LaysOk (P:Program) (L:Lays):Prop:=∀t y,lay L t=some y→LayOk P t y
structure St where
 regs:List (Option AV)
 own:List (Option (Bool×List AC))
 fix:Nat
def St.put (s:St) (d:Option Nat) (v:Option AV):St:=match d with
 |none=>s
 |some t=>{ s with regs:=s.regs.set t v }
def St.at (s:St) (i:Nat):Option (List AC):=match s.own[i]? with
 |some (some (_,cs))=>some cs
 |_=>none
inductive Eff where
 |val (v:AV)
 |new (cs:List AC)
 |put (i o:Nat) (cs:List AC)
 |call (f:FuncId) (args:List AG)
 |callP (f:FuncId) (args:List AG)
 |hand (f:FuncId) (args:List AG) (hs:List Nat) (fl:List Bool) (r:AV) (out:List (Option (Bool×List AC)))
 |row (kill:Option Nat) (e k n:Nat) (cs:List AC)
 |set (i:Nat) (cs:List AC)
inductive Ans where
 |res (v:AV)
 |test (b:Bool)
 |el (cs:List AC)
 |is (z:Value)
 |own (cs:List AC)
 |at (j:Nat)
 |rows (es:List (List AC))
 |cut (n:Nat) (es:List (List AC))
 |mine
 |room (m:Nat)
 |hand (hs:List Nat) (fl:List Bool) (r:AV) (out:List (Option (Bool×List AC)))
 |frz (i n k c:Nat) (es:List (List AC)) (js:List Nat)
 |code (k:Nat) (p:St) (e:Exit) (q:St) (ms:List Nat)
def st (regs:List (Option AV)) (own:List (List AC)):St:=⟨regs,own.map fun cs=>some (false,cs),0⟩
def markOf (own:List (Option (Bool×List AC))) (i:Nat):Bool:=match own[i]? with
 |some (some (m,_))=>m
 |_=>false
def cellsOf (own:List (Option (Bool×List AC))) (i:Nat):List AC:=match own[i]? with
 |some (some (_,cs))=>cs
 |_=>[]
def St.get (s:St):Operand→Option AG
 | .tmp t=>match s.regs[t]? with
   |some (some (.g x))=>some x
   |_=>none
 | .const (.tuple _)|.const (.agg _)=>none
 | .const x=>some (.one (.v x))
 | .func f=>some (.one (.v (.func (.func f) #[] #[])))
 | .global _=>none
def AG.cells:AG→List AC
 | .one c=>[c]
 | .agg cs=>cs
def AC.rows (k:Nat):AC→Option (List (List AC))
 | .row k' _ es=>bif Nat.beq k' k then some es else none
 | .v (.slice none 0 0)=>some []
 |_=>none
def cut (cs:List AC) (o n:Nat):Option (List AC):=bif Nat.ble (o+n) cs.length then some ((cs.drop o).take n) else none
def AC.noptr:AC→Bool
 | .ptr _ _=>false
 | .fn _ _ _=>false
 | .sl _ _ _ _=>false
 | .el _ _ _ _=>false
 |_=>true
def AG.noptr (x:AG):Bool:=x.cells.all AC.noptr
def ofCells (y:Lay) (cs:List AC):Option AG:=match y.kind with
 | .st _=>some (.agg cs)
 | .ar _ _=>some (.agg cs)
 |_=>match cs with
  |[c]=>some (.one c)
  |_=>none
def over (cs:List AC) (o:Nat) (new:List AC):List AC:=cs.take o++(new++cs.drop (o+new.length))
def placesOf (L:Lays):List (Nat×Nat)→Option (List (Nat×Nat))
 |[]=>some []
 | (o,t)::r=>match lay L t,placesOf L r with
   |some y,some ys=>some ((o,y.size)::ys)
   |_,_=>none
def fillG (pl:Nat→Option (Nat×Nat)):List AC→List (Nat×AG)→Option (List AC)
 |cs,[]=>some cs
 |cs,(i,x)::r=>match pl i with
  |none=>none
  |some (o,n)=>bif Nat.beq x.cells.length n&&Nat.ble (o+n) cs.length then fillG pl (over cs o x.cells) r else none
def chunk (n:Nat):Nat→List AC→List (List AC)
 |0,_=>[]
 |k+1,cs=>cs.take n::chunk n k (cs.drop n)
def reps (z:List AC):Nat→List AC
 |0=>[]
 |n+1=>z++reps z n
def St.getV (s:St):Operand→Option AV
 | .tmp t=>match s.regs[t]? with
   |some (some x)=>some x
   |_=>none
 |x=>match s.get x with
  |some y=>some (.g y)
  |none=>none
def parts (s:St):List (Nat×Operand)→Option (List (Nat×AG))
 |[]=>some []
 | (i,x)::r=>match s.get x,parts s r with
   |some y,some ys=>some ((i,y)::ys)
   |_,_=>none
def one (x:Value):AG:=.one (.v x)
def vals (s:St):List Operand→Option (List Value)
 |[]=>some []
 |x::r=>match s.get x,vals s r with
  |some (.one (.v y)),some ys=>some (y::ys)
  |_,_=>none
def holds (s:St):List Operand→Option (List FC)
 |[]=>some []
 |x::r=>match s.get x,holds s r with
  |some (.one (.ptr i off)),some ys=>some (.ptr i off::ys)
  |some (.one (.v y)),some ys=>some (.val y::ys)
  |_,_=>none
def argv (s:St):List Operand→Option (List AG)
 |[]=>some []
 |x::r=>match s.get x,argv s r with
  |some y,some ys=>some (y::ys)
  |_,_=>none
def FC.ac:FC→AC
 | .ptr i off=>.ptr i off
 | .val x=>.v x
def fnOf:AC→Option (FuncId×List AC×List AC)
 | .v (.func (.func f) fi ca)=>bif fi.toList.all Value.oneCell'&&ca.toList.all Value.oneCell' then some (f,fi.toList.map .v,ca.toList.map .v) else none
 | .fn f fi ca=>some (f,fi.map FC.ac,ca.map FC.ac)
 |_=>none
def peek (s:St) (az:List Ans):AC→Option (AC×List Prop×List Ans)
 | .ptr i off=>match s.at i with
   |some cs=>bif cs.all AC.noptr then some (.pe (cs.drop off),[],az) else none
   |none=>none
 | .sl i _ k n=>match s.at i,az with
   |some cs,.rows es::az=>some (.row k n es,[es.length=n∧(∀c∈es,c.length=k)∧cs=es.flatten∧∀c∈cs,c.noptr=true],az)
   |_,_=>none
 | .any=>none
 |c=>bif c.noptr then some (c,[],az) else none
def peekL (s:St):List Ans→List AC→Option (List AC×List Prop×List Ans)
 |az,[]=>some ([],[],az)
 |az,c::r=>match peek s az c with
  |some (c',ps,az)=>match peekL s az r with
   |some (r',qs,az)=>some (c'::r',ps++qs,az)
   |none=>none
  |none=>none
def peekG (s:St) (az:List Ans):AG→Option (AG×List Prop×List Ans)
 | .one c=>match peek s az c with
   |some (c',ps,az)=>some (.one c',ps,az)
   |none=>none
 | .agg cs=>match peekL s az cs with
   |some (cs',ps,az)=>some (.agg cs',ps,az)
   |none=>none
def peekA (s:St):List Ans→List AG→Option (List AG×List Prop×List Ans)
 |az,[]=>some ([],[],az)
 |az,x::r=>match peekG s az x with
  |some (x',ps,az)=>match peekA s az r with
   |some (r',qs,az)=>some (x'::r',ps++qs,az)
   |none=>none
  |none=>none
def AC.scal:AC→Bool
 | .v _=>true
 |_=>false
def AG.scal (x:AG):Bool:=x.cells.all AC.scal
def AV.scal:AV→Bool
 | .g x=>x.scal
 | .tup xs=>xs.all AG.scal
def allP:List Prop→Prop
 |[]=>True
 |p::r=>p∧allP r
def binV (op:BinOp):Value→Value→Option (List Prop×Value)
 | .int k a,.int k' b=>bif decide (k=k') then (match op with
   | .add=>some ([],.int k (k.wrap (a+b)))
   | .sub=>some ([],.int k (k.wrap (a-b)))
   | .mul=>some ([],.int k (k.wrap (a*b)))
   | .quo=>some ([b≠0],.int k (k.wrap (a.tdiv b)))
   | .rem=>some ([b≠0],.int k (a.tmod b))
   | .eql=>some ([],.bool (a==b))
   | .neq=>some ([],.bool (a != b))
   | .lss=>some ([],.bool (a<b))
   | .leq=>some ([],.bool (a≤b))
   | .gtr=>some ([],.bool (a>b))
   | .geq=>some ([],.bool (a≥b))
   |_=>none) else none
 | .string a,.string b=>match op with
   | .add=>some ([((a.size+b.size:Nat):Int)≤IntKind.i64.max],.string (a++b))
   | .eql=>some ([],.bool (a.toList==b.toList))
   | .neq=>some ([],.bool !(a.toList==b.toList))
   |_=>none
 |_,_=>none
def unV (op:UnOp):Value→Option Value
 | .int k n=>match op with
   | .neg=>some (.int k (k.wrap (0-n)))
   |_=>none
 | .bool b=>match op with
   | .not=>some (.bool !b)
   |_=>none
 |_=>none
abbrev Out:=Option (List Prop×Eff×List Ans)
def yes (az:List Ans) (x:Option AG):Out:=match x with
 |some x=>some ([],.val (.g x),az)
 |none=>none
def distN:List Nat→Bool
 |[]=>true
 |i::r=>!(r.any (Nat.beq i))&&distN r
def handPl (own:List (Option (Bool×List AC))):List Nat→List Bool→List (List AC)
 |[],_=>[]
 |i::r,fl=>bif fl.headD false then cellsOf own i::handPl own r fl.tail else handPl own r fl.tail
def outPl:List (Option (Bool×List AC))→List Bool→List (List AC)
 |[],_=>[]
 |none::r,fl=>outPl r fl.tail
 |some (_,cs)::r,fl=>bif fl.headD false then cs::outPl r fl.tail else outPl r fl.tail
def idxF:Nat→List Nat→Nat→Option Nat
 |_,[],_=>none
 |k,j::r,i=>bif Nat.beq j i then some k else idxF (k+1) r i
def unrow (b:Bool) (f:Nat→Option Nat) (cs:List AC):List AC:=bif b then cs else cs.map (ren f)
def tell (f:Nat→Option Nat) (mk:Bool→Bool) (row:Bool):Option (Bool×List AC)→Option (Bool×List AC)
 |none=>none
 |some (m,cs)=>some (mk m,unrow row f cs)
def handIn (own:List (Option (Bool×List AC))) (f:Nat→Option Nat):List Nat→List Bool→List (Option (Bool×List AC))
 |[],_=>[]
 |i::r,fl=>some (true,unrow (fl.headD false) f (cellsOf own i))::handIn own f r fl.tail
def backN (hs:List Nat) (nx k:Nat):Option Nat:=match hs[k]? with
 |some i=>some i
 |none=>some (nx+(k-hs.length))
def handA (own:List (Option (Bool×List AC))) (f:Nat→Option Nat):List Nat→List (Option (Bool×List AC))→List Bool→List (Nat×Option (Bool×List AC))
 |i::r,x::out,fl=>(i,tell f (fun _=>markOf own i) (fl.headD false) x)::handA own f r out fl.tail
 |_,_,_=>[]
def tellL (f:Nat→Option Nat) (mk:Bool→Bool):List (Option (Bool×List AC))→List Bool→List (Option (Bool×List AC))
 |[],_=>[]
 |x::r,fl=>tell f mk (fl.headD false) x::tellL f mk r fl.tail
def addL {α:Type}:Nat→List α→List (Nat×α)
 |_,[]=>[]
 |n,x::r=>(n,x)::addL (n+1) r
def handSets (own:List (Option (Bool×List AC))) (nx:Nat) (hs:List Nat) (fl:List Bool) (out:List (Option (Bool×List AC))):List (Nat×Option (Bool×List AC)) :=
 handA own (backN hs nx) hs out fl++addL nx (tellL (backN hs nx) (fun m=>m&&hs.any (markOf own)) (out.drop hs.length) (fl.drop hs.length))
def evCall (s:St) (az:List Ans) (f:FuncId) (xs:List AG):Out:=match az with
 | .hand hs fl r out::az=>bif distN hs&&(hs.all (fun i=>(s.at i).isSome)&&Nat.ble hs.length out.length) then some ([∀cs∈handPl s.own hs fl++outPl out fl,∀c∈cs,c.noptr=true],.hand f xs hs fl r out,az) else none
 |az=>bif xs.all AG.noptr then some ([],.call f xs,az) else match peekA s az xs with
  |some (ys,ps,az)=>some (ps,.callP f ys,az)
  |none=>none
def evAt (L:Lays) (t f:Nat):Option (Nat×Lay):=match lay L t with
 |some ⟨_,_,.st fl⟩=>match fl[f]? with
  |some (o,u)=>match lay L u with
   |some y=>bif Nat.blt 0 y.size then some (o,y) else none
   |none=>none
  |none=>none
 |_=>none
def evEl (L:Lays) (t:Nat):Option Lay:=match lay L t with
 |some ⟨_,_,.sl e⟩=>lay L e
 |_=>none
def evAr (L:Lays) (t:Nat):Option (Nat×Lay):=match lay L t with
 |some ⟨_,_,.ar n e⟩=>match lay L e with
  |some y=>some (n,y)
  |none=>none
 |_=>none
def evElT (L:Lays) (t:Nat):Option (Nat×Lay):=match lay L t with
 |some ⟨_,_,.sl e⟩=>match lay L e with
  |some y=>bif Nat.blt 0 y.size then some (e,y) else none
  |none=>none
 |_=>none
def evLoad (s:St) (az:List Ans) (y:Lay):AG→Out
 | .one (.ptr i off)=>match s.at i with
   |some cs=>match cut cs off y.size with
    |some ds=>yes az (ofCells y ds)
    |none=>none
   |none=>none
 | .one (.pe cs)=>match cut cs 0 y.size with
   |some ds=>yes az (ofCells y ds)
   |none=>none
 | .one (.el i k j off)=>match s.at i,az with
   |some cs,.el ds::az=>bif Nat.beq ds.length y.size then (match ofCells y ds with
    |some x=>some ([(cs.drop (j*k+off)).take y.size=ds],.val (.g x),az)
    |none=>none) else none
   |_,_=>none
 |_=>none
def evStore (s:St) (az:List Ans) (y:Lay):AG→AG→Out
 | .one (.ptr i off),x=>match s.at i with
   |some cs=>bif Nat.beq x.cells.length y.size&&(Nat.ble (off+y.size) cs.length&&Nat.blt 0 y.size) then some ([],.put i off x.cells,az) else none
   |none=>none
 | .one (.el i k j off),x=>match s.at i,az with
   |some cs,.own ds::az=>bif Nat.beq x.cells.length y.size&&Nat.blt 0 y.size then some ([j*k+off+y.size≤cs.length∧over cs (j*k+off) x.cells=ds],.set i ds,az) else none
   |_,_=>none
 |_,_=>none
def evLen (y:Lay):AC→Option AG
 | .v (.string b)=>match y.kind with
   | .str=>some (.one (.v (.int .i64 b.size)))
   |_=>none
 | .row _ n _=>match y.kind with
   | .sl _=>some (.one (.v (.int .i64 n)))
   |_=>none
 | .v (.slice none 0 0)=>match y.kind with
   | .sl _=>some (.one (.v (.int .i64 0)))
   |_=>none
 | .sl _ _ _ n=>match y.kind with
   | .sl _=>some (.one (.v (.int .i64 n)))
   |_=>none
 |_=>none
def appTo (s:St) (e k:Nat):AC→Option (Option Nat×Nat×List AC)
 | .v (.slice none 0 0)=>some (none,0,[])
 | .sl i e' k' n=>bif Nat.beq e' e&&Nat.beq k' k then (match s.at i with
   |some cs=>some (some i,n,cs)
   |none=>none) else none
 |_=>none
def evApp (s:St) (az:List Ans) (e k:Nat):AC→AC→Out
 |c,.row k' m es=>match appTo s e k c,az with
  |some (kill,n,cs),.own ds::az=>bif Nat.beq k' k then some ([cs.length=n*k∧0<m∧n+m≤134217728∧cs++es.flatten=ds],.row kill e k (n+m) ds,az) else none
  |some _,.mine::az=>some ([m=0],.val (.g (.one c)),az)
  |_,_=>none
 |_,_=>none
def evIndex (az:List Ans) (y:Lay):AG→AG→Out
 | .one (.v (.string b)),.one (.v (.int _ n))=>match y.kind,az with
   | .str,.is (.int .u8 z)::az=>some ([0≤n∧∃c:UInt8,b[n.toNat]?=some c∧z=(c.toNat:Int)],.val (.g (.one (.v (.int .u8 z)))),az)
   |_,_=>none
 |_,_=>none
def bound (s:St) (d:Int):Option Operand→Option Int
 |none=>some d
 |some x=>match s.get x with
  |some (.one (.v (.int _ n)))=>some n
  |_=>none
def evCut (az:List Ans) (y:Lay) (b:ByteArray) (l h:Int):Out:=match y.kind,az with
 | .str,.is (.string z)::az=>some ([0≤l∧l≤h∧h≤b.size∧z=b.extract l.toNat h.toNat],.val (.g (.one (.v (.string z)))),az)
 |_,_=>none
def evBits (op:BinOp) (az:List Ans):Value→Value→Out
 | .int k a,.int k' b=>match az with
   | .is z::az=>bif z.oneCell' then some ([∀(P:Program) (t:TypeId) (w:World),(binOp op t (.int k a) (.int k' b)).run P w=.ok z w],.val (.g (.one (.v z))),az) else none
   |_=>none
 |_,_=>none
def nilPt:AC→Option Bool
 | .v (.pointer none)=>some true
 | .v (.pointer (some _))=>some false
 | .pe _=>some false
 | .ptr _ _=>some false
 | .el _ _ _ _=>some false
 |_=>none
def nilFu:AC→Option Bool
 | .v .nilFunc=>some true
 | .v (.func _ _ _)=>some false
 | .fn _ _ _=>some false
 |_=>none
def evNil2 (op:BinOp) (az:List Ans):Option Bool→Option Bool→Out
 |some a,some b=>bif a||b then (match op with
  | .eql=>some ([],.val (.g (.one (.v (.bool (a&&b))))),az)
  | .neq=>some ([],.val (.g (.one (.v (.bool !(a&&b))))),az)
  |_=>none) else none
 |_,_=>none
def evNil (L:Lays) (t:Nat) (op:BinOp) (az:List Ans) (c d:AC):Out:=match lay L t with
 |some ⟨_,_,.pt⟩=>evNil2 op az (nilPt c) (nilPt d)
 |some ⟨_,_,.fu⟩=>evNil2 op az (nilFu c) (nilFu d)
 |_=>none
def evMore (L:Lays) (t:Nat) (op:BinOp) (az:List Ans):Value→Value→Out
 | .bool a,.bool b=>match lay L t,op with
   |some ⟨_,_,.bool⟩,.eql=>some ([],.val (.g (.one (.v (.bool (a==b))))),az)
   |some ⟨_,_,.bool⟩,.neq=>some ([],.val (.g (.one (.v (.bool !(a==b))))),az)
   |_,_=>none
 | .int k a,.int k' b=>evBits op az (.int k a) (.int k' b)
 |a,b=>evNil L t op az (.v a) (.v b)
def evMax (s:St) (az:List Ans) (f:Int→Int→Int):List Operand→Out
 |[x,y]=>match s.get x,s.get y with
  |some (.one (.v (.int k a))),some (.one (.v (.int _ b)))=>some ([],.val (.g (.one (.v (.int k (f a b))))),az)
  |_,_=>none
 |_=>none
def maxI (a b:Int):Int:=if b>a then b else a
def minI (a b:Int):Int:=if b<a then b else a
def evLit (e:Nat) (y:Lay) (n:Nat) (ps:List (Nat×AG)) (az:List Ans):Out:=bif Nat.ble (n*y.size) 16777216 then (match fillG (fun i=>some (i*y.size,y.size)) (reps y.zero n) ps with
 |some cs=>(match az with
  | .mine::az=>some ([True],.row none e y.size n cs,az)
  |az=>bif Nat.blt 0 (n*y.size)&&cs.all AC.noptr then some ([],.val (.g (.one (.row y.size n (chunk y.size n cs)))),az) else none)
 |none=>none) else none
def evOp (L:Lays) (s:St) (az:List Ans) (o:Oper):Out:=match o.op with
 | .move x|.assign x=>match s.getV x with
   |some v=>some ([],.val v,az)
   |none=>none
 | .nilCheck x=>match s.get x with
   |some (.one (.ptr i off))=>some ([],.val (.g (.one (.ptr i off))),az)
   |some (.one (.el i k j off))=>some ([],.val (.g (.one (.el i k j off))),az)
   |some (.one (.pe cs))=>some ([],.val (.g (.one (.pe cs))),az)
   |_=>none
 | .pick c a b=>match s.get c with
   |some (.one (.v (.bool t)))=>match s.getV (bif t then a else b) with
    |some v=>some ([],.val v,az)
    |none=>none
   |_=>none
 | .alloc t=>match lay L t with
   |some y=>some ([],.new y.zero,az)
   |none=>none
 | .box _ x=>match s.get x with
   |some x=>some ([],.new x.cells,az)
   |none=>none
 | .build t ps=>match lay L t with
   |some ⟨_,z,.st fl⟩=>match parts s ps.toList,placesOf L fl with
    |some ps,some pl=>match fillG (fun i=>pl[i]?) z ps with
     |some cs=>some ([],.val (.g (.agg cs)),az)
     |none=>none
    |_,_=>none
   |_=>none
 | .buildSlice t n ps=>match evElT L t with
   |some (e,y)=>match parts s ps.toList with
    |some ps=>evLit e y n ps az
    |none=>none
   |none=>none
 | .load t a=>match lay L t,s.get a with
   |some y,some x=>evLoad s az y x
   |_,_=>none
 | .store t a x=>match lay L t,s.get a,s.get x with
   |some y,some a,some x=>evStore s az y a x
   |_,_,_=>none
 | .fieldAddr t x f=>match evAt L t f,s.get x with
   |some (o,_),some (.one (.ptr i off))=>some ([],.val (.g (.one (.ptr i (off+o)))),az)
   |some (o,_),some (.one (.pe cs))=>some ([],.val (.g (.one (.pe (cs.drop o)))),az)
   |some (o,_),some (.one (.el i k j off))=>some ([],.val (.g (.one (.el i k j (off+o)))),az)
   |_,_=>none
 | .field t x f=>match evAt L t f,s.get x with
   |some (o,y),some (.agg cs)=>match cut cs o y.size with
    |some ds=>yes az (ofCells y ds)
    |none=>none
   |_,_=>none
 | .makeSlice t x y=>match evElT L t,s.get x,s.get y,az with
   |some (e,ly),some (.one (.v (.int _ n))),some (.one (.v (.int _ m))),.at N::.own ds::az=>some ([n=N∧m=N∧N≤134217728∧reps ly.zero N=ds],.row none e ly.size N ds,az)
   |some (e,ly),some (.one (.v (.int _ n))),some (.one (.v (.int _ m))),.at N::az=>some ([n=N∧m=N∧N≤134217728],.row none e ly.size N (reps ly.zero N),az)
   |_,_,_,_=>none
 | .indexAddr t x i=>match evAr L t with
   |some (n,y)=>match s.get x,s.get i with
    |some (.one (.ptr b o)),some (.one (.v (.int _ (.ofNat j))))=>bif Nat.blt j n then some ([],.val (.g (.one (.ptr b (o+j*y.size)))),az) else none
    |_,_=>none
   |none=>match evEl L t,s.get x,s.get i with
    |some y,some (.one (.sl b _ k m)),some (.one (.v (.int _ n)))=>match az with
     | .at j::az=>bif Nat.beq k y.size then some ([n=j∧j<m],.val (.g (.one (.el b k j 0))),az) else none
     |_=>none
    |some y,some (.one c),some (.one (.v (.int _ n)))=>match c.rows y.size,az with
     |some es,.el cs::az=>some ([0≤n∧es[n.toNat]?=some cs],.val (.g (.one (.pe cs))),az)
     |_,_=>none
    |_,_,_=>none
 | .binOp op t x y _=>match s.get x,s.get y with
   |some (.one (.v a)),some (.one (.v b))=>match binV op a b with
    |some (p,z)=>some (p,.val (.g (.one (.v z))),az)
    |none=>evMore L t op az a b
   |some (.one c),some (.one d)=>evNil L t op az c d
   |_,_=>none
 | .makeFunc fn fi ca=>match vals s fi.toList,vals s ca.toList with
   |some us,some vs=>some ([],.val (.g (.one (.v (.func fn us.toArray vs.toArray)))),az)
   |_,_=>match fn,holds s fi.toList,holds s ca.toList with
    | .func f,some us,some vs=>some ([],.val (.g (.one (.fn f us vs))),az)
    |_,_,_=>none
 | .index t x i=>match lay L t,s.get x,s.get i with
   |some y,some x,some i=>evIndex az y x i
   |_,_,_=>none
 | .slice t x lo hi none=>match lay L t,s.get x with
   |some y,some (.one (.v (.string b)))=>match bound s 0 lo,bound s b.size hi with
    |some l,some h=>evCut az y b l h
    |_,_=>none
   |some y,some (.one (.row k n es))=>match bound s 0 lo,bound s n hi,y.kind,az with
    |some l,some h,.sl e,.cut m ds::az=>match lay L e with
     |some ly=>bif Nat.beq ly.size k then some ([0≤l∧l≤h∧h≤n∧h-l=m∧ds=(es.drop l.toNat).take m],.val (.g (.one (.row k m ds))),az) else none
     |none=>none
    |_,_,_,_=>none
   |_,_=>none
 | .unOp op _ x=>match s.get x with
   |some (.one (.v a))=>match unV op a with
    |some z=>some ([],.val (.g (.one (.v z))),az)
    |none=>none
   |_=>none
 | .convert src dst x=>match lay L src,lay L dst,s.get x with
   |some _,some ⟨_,_,.int k⟩,some (.one (.v (.int _ n)))=>some ([],.val (.g (.one (.v (.int k (k.wrap n))))),az)
   |_,_,_=>none
 | .extract x i=>match s.getV x with
   |some (.tup xs)=>yes az xs[i]?
   |_=>none
 | .call c=>match c.callee with
   | .value x=>match s.get x with
     |some (.one z)=>match fnOf z,argv s c.args.toList with
      |some (f,fi,ca),some xs=>evCall s az f (fi.map .one++(xs++ca.map .one))
      |_,_=>none
     |_=>none
   | .builtin .append=>match c.args.toList,c.argTypes.toList with
     |[x,y],[t,t']=>bif Nat.beq t t' then (match evElT L t,s.get x,s.get y with
      |some (e,ly),some (.one c),some (.one d)=>evApp s az e ly.size c d
      |_,_,_=>none) else none
     |_,_=>none
   | .builtin .max=>evMax s az maxI c.args.toList
   | .builtin .min=>evMax s az minI c.args.toList
   | .builtin .len=>match c.args.toList,c.argTypes[0]? with
     |[x],some t=>match lay L t,s.get x with
      |some y,some (.one c)=>yes az (evLen y c)
      |_,_=>none
     |_,_=>none
   |_=>none
 |_=>none
theorem binV_ok {P:Program} {op:BinOp} {x y:Value} {t:TypeId} {p:List Prop} {z:Value} (h:binV op x y=some (p,z)) (hp:allP p) (w:World):(binOp op t x y).run P w=.ok z w:=by
 unfold binV at h;split at h
 ·rename_i k a k' b
  cases hk:decide (k=k') with
  |false=>rw[hk] at h;cases h
  |true =>
   rw[hk] at h;have hk':k=k':=of_decide_eq_true hk;subst hk';cases op<;>simp only[cond_true,Option.some.injEq,Prod.mk.injEq,reduceCtorEq] at h<;>obtain⟨rfl,rfl⟩:=h<;>(try simp only[allP,ne_eq,and_true] at hp)<;>simp[binOp,Op.intArith,Op.intDiv,Op.intCmp,hp]
 ·rename_i a b
  cases op<;>simp only[Option.some.injEq,Prod.mk.injEq,reduceCtorEq] at h<;>obtain⟨rfl,rfl⟩:=h<;>(try simp only[allP,and_true,show IntKind.i64.max=9223372036854775807 from rfl] at hp)<;>simp[binOp,Op.stringOp]<;>omega
 ·cases h
theorem unV_ok {P:Program} {op:UnOp} {x z:Value} (h:unV op x=some z) (w:World):(Op.unary op x).run P w=.ok z w:=by
 unfold unV at h;split at h
 ·cases op<;>simp only[Option.some.injEq,reduceCtorEq] at h<;>subst h<;>simp[Op.unary,Op.intArith]
 ·cases op<;>simp only[Option.some.injEq,reduceCtorEq] at h<;>subst h<;>simp[Op.unary]
 ·cases h
end
section
def RegsOk (g:List (Option Nat)) (ok:Nat→Prop) (w:World) (regs:List (Option AV)) (tm:Array Value):Prop :=
 tm.size=regs.length∧∀(t:Nat) x,regs[t]?=some (some x)→∃u,tm[t]?=some u∧TV g ok w x u
def OwnOk (g:List (Option Nat)) (ok:Nat→Prop) (w:World) (own:List (Option (Bool×List AC))):Prop :=
 own.length=g.length∧∀(i:Nat) m cs b,own[i]?=some (some (m,cs))→g[i]?=some (some b)→∃cells e,w.heap[b]?=some (.cells cells e (0,0))∧TL g ok w cs (cells.toList.take cs.length)
section
variable {P:Program} {L:Lays} {g:List (Option Nat)} {ok:Nat→Prop} {w:World} {s:St} {a:Act}
theorem getV_ok {x:Operand} {y:AV} (h:s.getV x=some y) (hr:RegsOk g ok w s.regs a.tmps) (hc:∀v,x=.const v→s.get x≠none→v.oneCell'=true):TV g ok w y (a.eval x):=by
 unfold St.getV at h;split at h
 ·rename_i t
  split at h
  ·rename_i x hx
   cases h;obtain⟨u,hu,hv⟩:=hr.2 t _ hx;have:a.eval (.tmp t)=u:=by simp[Act.eval,Array.getD_eq_getD_getElem?,hu]
   rw[this];exact hv
  ·cases h
 ·split at h
  ·rename_i y hy
   cases h;unfold St.get at hy;split at hy
   ·rename_i t hne
    exact absurd rfl (hne t)
   ·cases hy
   ·cases hy
   ·cases hy
    exact (TC.of_v (hc _ rfl (by unfold St.get;simp)):TC g ok w _ _)
   ·cases hy
    exact (TC.of_v (x:=.func (.func _) #[] #[]) rfl:TC g ok w _ _)
   ·cases hy
  ·cases h
theorem one_of_get {v:Value} (h:s.get (.const v)≠none):v.oneCell'=true:=by
 cases v<;>first|rfl|(exact absurd rfl h)
theorem getV_at {x:Operand} {y:AV} (h:s.getV x=some y) (hr:RegsOk g ok w s.regs a.tmps):TV g ok w y (a.eval x) :=
 getV_ok h hr (fun v hv hn=>by subst hv;exact one_of_get hn)
theorem get_at {x:Operand} {y:AG} (h:s.get x=some y) (hr:RegsOk g ok w s.regs a.tmps):TG g ok w y (a.eval x):=by
 have:s.getV x=some (.g y):=by
  cases x with
  |tmp t =>
   unfold St.get at h;unfold St.getV;simp only at h ⊢;split at h
   ·rename_i x hx
    cases h;rw[hx]
   ·cases h
  |const v=>unfold St.getV;simp only[h]
  |func f=>unfold St.getV;simp only[h]
  |global f=>unfold St.getV;simp only[h]
 exact getV_at this hr
theorem TC.noptr {c:AC} {u:Value} (hn:c.noptr=true) (h:TC g ok w c u):TC [] ok w c u:=by
 cases c with
 |ptr i off=>cases hn
 |fn f fi ca=>cases hn
 |sl i e k n=>cases hn
 |el i k j off=>cases hn
 |v x=>exact h
 |row k n es=>exact h
 |pe cs=>exact h
 |any=>exact h
theorem TG.noptr {x:AG} {u:Value} (hn:x.noptr=true) (h:TG g ok w x u):TG [] ok w x u:=by
 cases x with
 |one c =>
  refine TC.noptr ?_ h
  simpa[AG.noptr,AG.cells] using hn
 |agg cs =>
  obtain⟨us,rfl,hl,h⟩:=h;refine⟨us,rfl,hl,fun j c u hc hu=>TC.noptr ?_ (h j c u hc hu)⟩
  exact List.all_eq_true.1 hn c (List.mem_of_getElem? hc)
theorem at_own {i:Nat} {cs:List AC} (h:s.at i=some cs):∃m,s.own[i]?=some (some (m,cs)):=by
 unfold St.at at h;split at h
 ·rename_i m cs' hc
  cases h;exact⟨m,hc⟩
 ·cases h
theorem OwnOk.at (ho:OwnOk g ok w s.own) {i b:Nat} {cs:List AC} (h:s.at i=some cs) (hb:g[i]?=some (some b)):∃cells e,w.heap[b]?=some (.cells cells e (0,0))∧TL g ok w cs (cells.toList.take cs.length):=by
 obtain⟨m,h⟩:=at_own h;exact ho.2 i m cs b h hb
def TB (g:List (Option Nat)) (ok:Nat→Prop) (w:World) (xs:List AG) (us:Array Value):Prop:=us.size=xs.length∧∀(j:Nat) x u,xs[j]?=some x→us[j]?=some u→TG g ok w x u
def TA (ok:Nat→Prop) (w:World) (xs:List AG) (us:Array Value):Prop:=us.size=xs.length∧∀(j:Nat) x u,xs[j]?=some x→us[j]?=some u→TG [] ok w x u
theorem argv_at:∀{l:List Operand} {xs:List AG},argv s l=some xs→RegsOk g ok w s.regs a.tmps→TB g ok w xs (l.toArray.map a.eval)
 |[],xs,h,_=>by cases h;exact⟨by simp,fun j x u hx=>by cases hx⟩
 |x::r,xs,h,hr=>by
  unfold argv at h;split at h
  ·rename_i y ys hy hys
   cases h;obtain⟨h1,h2⟩:=argv_at hys hr;refine⟨by simpa using h1,fun j x' u hx hu=>?_⟩
   cases j with
   |zero =>
    simp at hx hu;subst hx;subst hu;exact get_at hy hr
   |succ j=>exact h2 j x' u (by simpa using hx) (by simpa using hu)
  ·cases h
theorem TB.noptr {xs:List AG} {us:Array Value} (hn:xs.all AG.noptr=true) (h:TB g ok w xs us):TA ok w xs us :=
 ⟨h.1,fun j x u hx hu=>(h.2 j x u hx hu).noptr (List.all_eq_true.1 hn x (List.mem_of_getElem? hx))⟩
end
end
section
section
variable {P:Program} {L:Lays} {g:List (Option Nat)} {ok:Nat→Prop} {w:World} {s:St} {a:Act}
theorem isAgg_at {t:Nat} {y:Lay} (h:LayOk P t y) (w:World):(isAgg t).run P w=.ok (match y.kind with|.st _=>true|.ar _ _=>true|_=>false) w:=by
 obtain⟨d,hd,hk⟩:=h.under;unfold isAgg;simp only[underlying,program,Sem.run_bind,Sem.run,Result.andThen,hd];cases hkk:y.kind with
 |st fl=>rw[hkk] at hk;obtain⟨fs,rfl,_⟩:=hk;rfl
 |sc =>
  rw[hkk] at hk;cases d<;>first|rfl|(cases hk)
 |int k=>rw[hkk] at hk;cases hk;rfl
 |str=>rw[hkk] at hk;cases hk;rfl
 |bool=>rw[hkk] at hk;cases hk;rfl
 |sl e=>rw[hkk] at hk;cases hk;rfl
 |pt=>rw[hkk] at hk;obtain⟨e,rfl⟩:=hk;rfl
 |fu=>rw[hkk] at hk;obtain⟨a,b,c,rfl⟩:=hk;rfl
 |ar n e=>rw[hkk] at hk;cases hk;rfl
theorem sizeOf_at {t:Nat} {y:Lay} (h:LayOk P t y) (w:World):(sizeOf t).run P w=.ok y.size w:=by
 obtain⟨i,hi,hs,_⟩:=h.info;simp[sizeOf,typeInfo,program,Sem.run,hi,hs]
theorem zero_at {t:Nat} {y:Lay} (h:LayOk P t y) (w:World):∃z,(zeroValue t).run P w=.ok z w∧z.cells.toList=y.zero.map AC.zval:=by
 obtain⟨i,hi,hs,z,hz,he⟩:=h.info;exact⟨z,by simp[zeroValue,typeInfo,program,Sem.run,hi,hz],he⟩
theorem under_st {t:Nat} {y:Lay} {fl:List (Nat×Nat)} (h:LayOk P t y) (hk:y.kind=.st fl):∃fs,P.underlying t=some (.struct fs)∧fs.toList.map (fun f=>(f.offset,f.type))=fl:=by
 obtain⟨d,hd,hkk⟩:=h.under;rw[hk] at hkk;obtain⟨fs,rfl,hf⟩:=hkk;exact⟨fs,hd,hf⟩
theorem under_sl {t e:Nat} {y:Lay} (h:LayOk P t y) (hk:y.kind=.sl e):P.underlying t=some (.slice e):=by
 obtain⟨d,hd,hkk⟩:=h.under;rw[hk] at hkk;cases hkk;exact hd
theorem loadVar_at {t:Nat} {y:Lay} (h:LayOk P t y) {cs:List AC} {x:AG} (hx:ofCells y cs=some x) {us:List Value} {ad:Addr} (hl:cs.length=y.size) (hT:TL g ok w cs us) (hc:∀(j:Nat) u,us[j]?=some u→w.cell? (ad.add j)=some u) :
  ∃u,(loadVar t ad).run P w=.ok u w∧TG g ok w x u:=by
 unfold loadVar;simp only[Sem.run_bind,isAgg_at h,Result.andThen_ok];have hul:us.length=y.size:=hT.1.trans hl;cases hk:y.kind with
 |st fl =>
  simp only[if_true,Sem.run_bind,sizeOf_at h,Result.andThen_ok];rw[←hul,run_loadCells_list w ad us hc];refine⟨.agg us.toArray,rfl,?_⟩
  unfold ofCells at hx;rw[hk] at hx;cases hx;exact⟨us.toArray,rfl,by simpa using hT⟩
 |ar n e =>
  simp only[if_true,Sem.run_bind,sizeOf_at h,Result.andThen_ok];rw[←hul,run_loadCells_list w ad us hc];refine⟨.agg us.toArray,rfl,?_⟩
  unfold ofCells at hx;rw[hk] at hx;cases hx;exact⟨us.toArray,rfl,by simpa using hT⟩
 |_ =>
  unfold ofCells at hx;rw[hk] at hx;simp only at hx;split at hx
  ·rename_i c
   cases hx;obtain⟨u,rfl⟩:=List.length_eq_one_iff.1 hT.1;have h0:=hc 0 u rfl;simp only[Addr.add,if_true] at h0;refine⟨u,?_,hT.2 0 c u rfl rfl⟩
   simp[load,Sem.run,h0]
  ·cases hx
theorem TL.cut_at {cs ds:List AC} {us:List Value} {o n:Nat} (h:cut cs o n=some ds) (hT:TL g ok w cs us):ds.length=n∧TL g ok w ds ((us.drop o).take n):=by
 unfold cut at h;cases hb:Nat.ble (o+n) cs.length with
 |false=>rw[hb] at h;cases h
 |true =>
  rw[hb] at h;cases h;have hle:=Nat.le_of_ble_eq_true hb;refine⟨by simp;omega,by simp[hT.1],fun j c u hc hu=>?_⟩
  rw[List.getElem?_take] at hc hu;split at hc
  ·rename_i hj
   rw[if_pos hj] at hu;rw[List.getElem?_drop] at hc hu;exact hT.2 _ c u hc hu
  ·cases hc
theorem own_at (ho:OwnOk g ok w s.own) {i:Nat} {cs:List AC} (h:s.at i=some cs) {off:Nat} {u:Value} (hu:TC g ok w (.ptr i off) u) :
  ∃b cells e,g[i]?=some (some b)∧u=.pointer (some ⟨b,off,none⟩)∧w.heap[b]?=some (.cells cells e (0,0))∧TL g ok w cs (cells.toList.take cs.length):=by
 obtain⟨b,hb,rfl⟩:=hu;obtain⟨cells,e,hw,hT⟩:=ho.at h hb;exact⟨b,cells,e,hb,rfl,hw,hT⟩
theorem add_off (b o j:Nat):(⟨b,o,none⟩:Addr).add j=⟨b,o+j,none⟩:=by unfold Addr.add;split<;>simp_all
theorem take_cell {W:World} {b e:Nat} {cells:Array Value} (hw:W.heap[b]?=some (.cells cells e (0,0))) {m o n j:Nat} {v:Value} (hv:(((cells.toList.take m).drop o).take n)[j]?=some v):W.cell? ((⟨b,o,none⟩:Addr).add j)=some v:=by
 rw[add_off];rw[List.getElem?_take] at hv;split at hv
 ·rw[List.getElem?_drop,List.getElem?_take] at hv
  split at hv
  ·simp[World.cell?,hw]
   simpa using hv
  ·cases hv
 ·cases hv
theorem TL.mid {cs:List AC} {us:List Value} (o n:Nat) (hT:TL g ok w cs us):TL g ok w ((cs.drop o).take n) ((us.drop o).take n):=by
 refine⟨by simp[hT.1],fun j c u hc hu=>?_⟩
 rw[List.getElem?_take] at hc hu;split at hc
 ·rename_i hj
  rw[if_pos hj] at hu;rw[List.getElem?_drop] at hc hu;exact hT.2 _ c u hc hu
 ·cases hc
def Yes (P:Program) (g:List (Option Nat)) (ok:Nat→Prop) (w:World) (a:Act) (o:Oper) (v:AV):Prop:=∃u,(execOp a.eval o).run P w=.ok (.value u) w∧TV g ok w v u
theorem cell_block {W W':World} {ad:Addr} (h:W'.heap[ad.block]?=W.heap[ad.block]?):W'.cell? ad=W.cell? ad:=by
 unfold World.cell?;rw[h]
theorem add_block (ad:Addr) (j:Nat):(ad.add j).block=ad.block:=by unfold Addr.add;split<;>rfl
theorem add_add (ad:Addr) (i j:Nat):(ad.add i).add j=ad.add (i+j):=by
 unfold Addr.add;by_cases hi:i=0
 ·simp[hi]
 ·by_cases hj:j=0
  ·simp[hj,hi]
  ·simp[hi,hj,Nat.add_assoc]
theorem pe_at {cs:List AC} {u:Value} (h:TC g ok w (.pe cs) u):∃ad us,u=.pointer (some ad)∧TL g ok w cs us∧∀(j:Nat) v,us[j]?=some v→w.cell? (ad.add j)=some v:=by
 have h:Foot (fun W=>Rd W (.pe cs) u) w ok:=h;have h0:=Foot.now h;cases h0 with
 |pe _ ad vs hl hc hr =>
  refine⟨ad,vs,rfl,⟨hl,fun j c v hcj hvj=>?_⟩,hc⟩
  have hcell:=hc j v hvj;have hlt:ad.block<w.heap.size:=by
   rw[←add_block ad j];unfold World.cell? at hcell;split at hcell
   ·rename_i heq
    exact (Array.getElem?_eq_some_iff.1 heq).1
   ·cases hcell
  have hok:ok ad.block:=by
   refine Classical.byContradiction fun hn=>?_
   obtain⟨W',hW',hno⟩:=Kd.emptied w ad.block;have h1:=h W' (fun k hk _=>hW' k (fun e=>hn (e▸hk)));cases h1 with
   |pe _ _ vs' hl' hc' hr' =>
    have:j<vs'.length:=by rw[hl',←hl];exact (List.getElem?_eq_some_iff.1 hvj).1
    have h2:=hc' j _ (List.getElem?_eq_getElem this);rw[hno _ (add_block ad j)] at h2;cases h2
  have key:∀W':World,(∀k,ok k→k<w.heap.size→W'.heap[k]?=w.heap[k]?)→Rd W' c v:=by
   intro W' hW';have h1:=h W' hW';cases h1 with
   |pe _ _ vs' hl' hc' hr' =>
    have hj:j<vs'.length:=by rw[hl',←hl];exact (List.getElem?_eq_some_iff.1 hvj).1
    have h2:=hc' j _ (List.getElem?_eq_getElem hj);have h3:W'.cell? (ad.add j)=w.cell? (ad.add j):=cell_block (by rw[add_block];exact hW' _ hok hlt);rw[h3,hcell] at h2;cases h2;exact hr' j c _ hcj (List.getElem?_eq_getElem hj)
  cases c with
  |ptr i off=>have:=key w (fun _ _ _=>rfl);cases this
  |fn f fi ca=>have:=key w (fun _ _ _=>rfl);cases this
  |sl i e k n=>have:=key w (fun _ _ _=>rfl);cases this
  |el i k j off=>have:=key w (fun _ _ _=>rfl);cases this
  |v x=>exact key
  |row k n es=>exact key
  |pe cs=>exact key
  |any=>exact key
theorem row_at {k n:Nat} {es:List (List AC)} {u:Value} (h:TC g ok w (.row k n es) u):∃A cap,u=.slice A n cap∧n≤cap∧es.length=n∧∀(i:Nat) cs,es[i]?=some cs→∃ad,A=some ad∧cs.length=k∧TC g ok w (.pe cs) (.pointer (some (ad.add (i*k)))):=by
 have h:Foot (fun W=>Rd W (.row k n es) u) w ok:=h;have h0:=Foot.now h;cases h0 with
 |nil _ A cap=>exact⟨A,cap,rfl,by simp,rfl,fun i cs hi=>by cases hi⟩
 |row _ _ _ ad cap vs h0 h1 h2 h3 h4 h5 h6 =>
  refine⟨some ad,cap,rfl,h1,h0,fun i cs hi=>⟨ad,rfl,h5 i cs hi,?_⟩⟩
  show Foot (fun W=>Rd W (.pe cs) _) w ok
  refine fun W' hW'=>?_
  have h7:=h W' hW';cases h7 with
  |nil=>cases hi
  |row _ _ _ _ _ vs' h0 h1 h2 h3 h4 h5 h6 =>
   have hi':i<vs'.length:=by rw[h3,←h0];exact (List.getElem?_eq_some_iff.1 hi).1
   have hv:=List.getElem?_eq_getElem hi';obtain⟨h8,h9⟩:=h4 i _ hv;refine Rd.pe cs _ vs'[i] (h8.trans (h5 i cs hi).symm) (fun j u hu=>?_) (fun j c u hc hu=>h6 i cs _ j c u hi hv hc hu)
   rw[add_add];exact h9 j u hu
theorem load_ok {t:Nat} {x:Operand} {y:Lay} {xv:AG} {az as':List Ans} {p:List Prop} {e:Eff} {o:Oper} (hop:o.op=.load t x) (hy:LayOk P t y) (hx:s.get x=some xv) (h:evLoad s az y xv=some (p,e,as')) (hr:RegsOk g ok w s.regs a.tmps) (ho:OwnOk g ok w s.own) (hp:allP p) :
  ∃v,e=.val v∧Yes P g ok w a o v:=by
 have hu:=get_at hx hr;have key:∀{cs:List AC} {us:List Value} {ad:Addr},a.eval x=.pointer (some ad)→cs.length=y.size→TL g ok w cs us→(∀(j:Nat) v,us[j]?=some v→w.cell? (ad.add j)=some v)→yes az (ofCells y cs)=some (p,e,as')→∃v,e=.val v∧Yes P g ok w a o v:=by
  intro cs us ad he hl hT hc h;unfold yes at h;split at h
  ·rename_i z hz
   cases h;obtain⟨u,hrun,hu⟩:=loadVar_at hy hz hl hT hc;refine⟨_,rfl,u,?_,hu⟩
   unfold execOp;simp[hop,he,Instr.loadAt,Instr.sureAddr,hrun]
  ·cases h
 unfold evLoad at h;split at h
 ·rename_i i off
  split at h
  ·rename_i cs hcs
   split at h
   ·rename_i ds hds
    obtain⟨b,cells,el,hb,he,hw,hT⟩:=own_at ho hcs hu;obtain⟨hl,hT'⟩:=hT.cut_at hds;exact key he hl hT' (fun j v hv=>take_cell hw hv) h
   ·cases h
  ·cases h
 ·rename_i cs
  split at h
  ·rename_i ds hds
   obtain⟨ad,us,he,hT,hc⟩:=pe_at hu;obtain⟨hl,hT'⟩:=hT.cut_at hds;refine key he hl hT' (fun j v hv=>?_) h
   rw[List.getElem?_take] at hv;split at hv
   ·rw[List.getElem?_drop,Nat.zero_add] at hv
    exact hc j v hv
   ·cases hv
  ·cases h
 ·rename_i i k j off
  split at h
  ·rename_i cs ds as2 hcs
   cases hb:Nat.beq ds.length y.size with
   |false=>rw[hb] at h;cases h
   |true =>
    rw[hb] at h;simp only[cond_true] at h;split at h
    ·rename_i z hz
     cases h;obtain⟨b,hgb,he⟩:=(show TC g ok w (.el i k j off) _ from hu);obtain⟨cells,el,hw,hT⟩:=ho.at hcs hgb;have hT':=hT.mid (j*k+off) y.size;rw[hp.1] at hT';obtain⟨u,hrun,hu⟩:=loadVar_at hy hz (Nat.eq_of_beq_eq_true hb) hT' (ad:=⟨b,j*k+off,none⟩) (fun j v hv=>take_cell hw hv);refine⟨_,rfl,u,?_,hu⟩
     unfold execOp;simp[hop,he,Instr.loadAt,Instr.sureAddr,hrun]
    ·cases h
  ·cases h
 ·cases h
theorem yes_of {o:Oper} {x:AG} {u:Value} (h:(execOp a.eval o).run P w=.ok (.value u) w) (hu:TG g ok w x u):Yes P g ok w a o (.g x):=⟨u,h,hu⟩
theorem field_of {t f off:Nat} {y:Lay} (hL:LaysOk P L) (h:evAt L t f=some (off,y)):∃fs fd,P.underlying t=some (.struct fs)∧fs[f]?=some fd∧fd.offset=off∧LayOk P fd.type y∧0<y.size:=by
 unfold evAt at h;split at h
 ·rename_i sz z fl hl
  split at h
  ·rename_i o u hf
   split at h
   ·rename_i y' hy'
    cases hb:Nat.blt 0 y'.size with
    |false=>rw[hb] at h;cases h
    |true =>
     rw[hb] at h;cases h;obtain⟨fs,hu,hfl⟩:=under_st (hL _ _ hl) rfl;rw[←hfl,List.getElem?_map] at hf;obtain⟨fd,hfd,he⟩:=Option.map_eq_some_iff.1 hf;cases he;refine⟨fs,fd,hu,by simpa using hfd,rfl,hL _ _ hy',?_⟩
     have:=Nat.le_of_ble_eq_true hb;omega
   ·cases h
  ·cases h
 ·cases h
theorem fieldPlace_at {fd:Field} {y:Lay} (h:LayOk P fd.type y) (hs:0<y.size) (ad:Addr) (w:World):(fieldPlace ad fd).run P w=.ok (ad.add fd.offset) w:=by
 unfold fieldPlace;simp only[Sem.run_bind,sizeOf_at h,Result.andThen_ok];rw[if_neg (by omega)];rfl
theorem fieldAddr_run {t f off:Nat} {y:Lay} {x:Operand} {ad:Addr} {o:Oper} (hL:LaysOk P L) (h:evAt L t f=some (off,y)) (hop:o.op=.fieldAddr t x f) (hx:a.eval x=.pointer (some ad)):(execOp a.eval o).run P w=.ok (.value (.pointer (some (ad.add off)))) w:=by
 obtain⟨fs,fd,hu,hf,rfl,hy,hs⟩:=field_of hL h;unfold execOp;simp[hop,hx,Instr.fieldAt,Instr.sureAddr,run_underlying hu,hf,fieldPlace_at hy hs]
theorem TL.drop_at {cs:List AC} {us:List Value} (n:Nat) (hT:TL g ok w cs us):TL g ok w (cs.drop n) (us.drop n) :=
 ⟨by simp[hT.1],fun j c u hc hu=>hT.2 (n+j) c u (by simpa[List.getElem?_drop] using hc) (by simpa[List.getElem?_drop] using hu)⟩
theorem foot_mk {P:World→Prop} {W:World} {ok:Nat→Prop} (h:∀W',(∀k,ok k→k<W.heap.size→W'.heap[k]?=W.heap[k]?)→P W'):Foot P W ok:=h
theorem pe_drop {cs:List AC} {ad:Addr} (n:Nat) (h:TC g ok w (.pe cs) (.pointer (some ad))):TC g ok w (.pe (cs.drop n)) (.pointer (some (ad.add n))):=by
 have h:Foot (fun W=>Rd W (.pe cs) (.pointer (some ad))) w ok:=h;show Foot (fun W=>Rd W (.pe (cs.drop n)) _) w ok
 refine foot_mk fun W' hW'=>?_
 have h1:=h W' hW';cases h1 with
 |pe _ _ vs hl hc hr =>
  refine Rd.pe _ _ (vs.drop n) (by simp[hl]) (fun j u hu=>?_) (fun j c u hc' hu=>?_)
  ·rw[List.getElem?_drop] at hu
   rw[add_add];exact hc _ u hu
  ·rw[List.getElem?_drop] at hu hc'
   exact hr _ c u hc' hu
theorem fieldAddr_ok {t f:Nat} {x:Operand} {o:Oper} {az as':List Ans} {p:List Prop} {e:Eff} (hL:LaysOk P L) (hop:o.op=.fieldAddr t x f) (hr:RegsOk g ok w s.regs a.tmps) (h:evOp L s az o=some (p,e,as')):∃v,e=.val v∧Yes P g ok w a o v:=by
 unfold evOp at h;rw[hop] at h;simp only at h;split at h
 ·rename_i off y i o' hA hx
  cases h;have hu:=get_at hx hr;obtain⟨b,hb,he⟩:=(show TC g ok w (.ptr i o') _ from hu);exact⟨_,rfl,yes_of (fieldAddr_run hL hA hop he) (by rw[add_off];exact⟨b,hb,rfl⟩)⟩
 ·rename_i off y cs hA hx
  cases h;have hu:=get_at hx hr;obtain⟨ad,us,he,_,_⟩:=pe_at (g:=g) hu;exact⟨_,rfl,yes_of (fieldAddr_run hL hA hop he) (pe_drop (g:=g) off (by rw[←he];exact hu))⟩
 ·rename_i o2 y i k j off hA hx
  cases h;obtain⟨b,hb,he⟩:=(show TC g ok w (.el i k j off) _ from get_at hx hr);exact⟨_,rfl,yes_of (fieldAddr_run hL hA hop he) (by rw[add_off,Nat.add_assoc];exact⟨b,hb,rfl⟩)⟩
 ·cases h
theorem part_at {t:Nat} {y:Lay} (h:LayOk P t y) {cs:List AC} {us:Array Value} {off:Nat} {ds:List AC} {x:AG} (hc:cut cs off y.size=some ds) (hx:ofCells y ds=some x) (hT:TL g ok w cs us.toList):∃u,(part t us off).run P w=.ok u w∧TG g ok w x u:=by
 obtain⟨hl,hT'⟩:=hT.cut_at hc;unfold part;simp only[Sem.run_bind,isAgg_at h,Result.andThen_ok];cases hk:y.kind with
 |st fl =>
  simp only[if_true,Sem.run_bind,sizeOf_at h,Result.andThen_ok];refine⟨.agg (us.extract off (off+y.size)),rfl,?_⟩
  unfold ofCells at hx;rw[hk] at hx;cases hx;refine⟨_,rfl,?_⟩
  rw[Array.toList_extract,List.extract_eq_take_drop,show off+y.size-off=y.size by omega];exact hT'
 |ar n e =>
  simp only[if_true,Sem.run_bind,sizeOf_at h,Result.andThen_ok];refine⟨.agg (us.extract off (off+y.size)),rfl,?_⟩
  unfold ofCells at hx;rw[hk] at hx;cases hx;refine⟨_,rfl,?_⟩
  rw[Array.toList_extract,List.extract_eq_take_drop,show off+y.size-off=y.size by omega];exact hT'
 |_ =>
  unfold ofCells at hx;rw[hk] at hx;simp only at hx;split at hx
  ·rename_i c
   cases hx;obtain⟨u,hu⟩:=List.length_eq_one_iff.1 hT'.1;have hs:y.size=1:=hl.symm;have h0:us[off]?=some u:=by
    have h1:((us.toList.drop off).take y.size)[0]?=some u:=by rw[hu];rfl
    rw[List.getElem?_take,if_pos (by omega),List.getElem?_drop] at h1;simpa using h1
   refine⟨u,?_,hT'.2 0 c u rfl (by rw[hu];rfl)⟩
   simp[h0,Sem.run]
  ·cases hx
theorem field_ok {t f:Nat} {x:Operand} {o:Oper} {az as':List Ans} {p:List Prop} {e:Eff} (hL:LaysOk P L) (hop:o.op=.field t x f) (hr:RegsOk g ok w s.regs a.tmps) (h:evOp L s az o=some (p,e,as')):∃v,e=.val v∧Yes P g ok w a o v:=by
 unfold evOp at h;rw[hop] at h;simp only at h;split at h
 ·rename_i off y cs hA hx
  split at h
  ·rename_i ds hds
   unfold yes at h;split at h
   ·rename_i z hz
    cases h;obtain⟨us,he,hT⟩:=get_at hx hr;obtain⟨fs,fd,hu,hf,rfl,hy,hs⟩:=field_of hL hA;obtain⟨u,hrun,hu'⟩:=part_at hy hds hz hT;refine⟨_,rfl,yes_of ?_ hu'⟩
    unfold execOp;simp[hop,he,Instr.field,run_underlying hu,hf,asAgg,hrun]
   ·cases h
  ·cases h
 ·cases h
theorem evEl_of {t:Nat} {y:Lay} (hL:LaysOk P L) (h:evEl L t=some y):∃e,P.underlying t=some (.slice e)∧LayOk P e y:=by
 unfold evEl at h;split at h
 ·rename_i sz z e hl
  exact⟨e,under_sl (hL _ _ hl) rfl,hL _ _ h⟩
 ·cases h
theorem rows_at {c:AC} {k:Nat} {es:List (List AC)} {u:Value} (h:c.rows k=some es) (hT:TC g ok w c u):∃n,TC g ok w (.row k n es) u:=by
 unfold AC.rows at h;split at h
 ·rename_i k' n es'
  cases hb:Nat.beq k' k with
  |false=>rw[hb] at h;cases h
  |true =>
   rw[hb] at h;cases h;have:=Nat.eq_of_beq_eq_true hb;subst this;exact⟨n,hT⟩
 ·cases h
  have:=hT.v_eq;subst this;exact⟨0,foot_mk fun W' _=>Rd.nil k none 0⟩
 ·cases h
theorem evAr_of {t n:Nat} {y:Lay} (hL:LaysOk P L) (h:evAr L t=some (n,y)):∃e,P.underlying t=some (.array n e)∧LayOk P e y:=by
 unfold evAr at h;split at h
 ·rename_i sz z n' e hl
  split at h
  ·rename_i y' hy
   cases h;obtain⟨d,hd,hk⟩:=(hL _ _ hl).under;have hk:d=.array n e:=hk;subst hk;exact⟨e,hd,hL _ _ hy⟩
  ·cases h
 ·cases h
theorem indexAddr_ok {t:Nat} {x i:Operand} {o:Oper} {az as':List Ans} {p:List Prop} {e:Eff} (hL:LaysOk P L) (hop:o.op=.indexAddr t x i) (hr:RegsOk g ok w s.regs a.tmps) (h:evOp L s az o=some (p,e,as')) (hp:allP p):∃v,e=.val v∧Yes P g ok w a o v:=by
 unfold evOp at h;rw[hop] at h;simp only at h;split at h
 ·rename_i n y hA
  split at h
  ·rename_i b off kk j hx hi
   cases hb:Nat.blt j n with
   |false=>rw[hb] at h;cases h
   |true =>
    rw[hb] at h;cases h;have hlt:j<n:=Nat.le_of_ble_eq_true hb;obtain⟨el,hu,hy⟩:=evAr_of hL hA;have hi':=TC.v_eq (show TC g ok w _ _ from get_at hi hr);obtain⟨bb,hg,he⟩:=(show ∃bb,g[b]?=some (some bb)∧_=Value.pointer (some ⟨bb,off,none⟩) from get_at hx hr);refine⟨_,rfl,yes_of (u:=.pointer (some ⟨bb,off+j*y.size,none⟩)) ?_ ⟨bb,hg,rfl⟩⟩
    unfold execOp;simp[hop,he,hi',Instr.indexAt,asIntOf,run_underlying hu,hlt,sizeOf_at hy,Instr.sureAddr,add_off]
  ·cases h
 ·rename_i hA
  split at h
  ·rename_i y b ee k m kk n hA hx hi
   split at h
   ·rename_i j as2
    cases hb:Nat.beq k y.size with
    |false=>rw[hb] at h;cases h
    |true =>
     rw[hb] at h;cases h;obtain⟨⟨rfl,hlt⟩,_⟩:=hp;have hk:=Nat.eq_of_beq_eq_true hb;obtain⟨el,hu,hy⟩:=evEl_of hL hA;have hi':=TC.v_eq (show TC g ok w _ _ from get_at hi hr);rcases (show SlOk g w b ee k m _ from get_at hx hr) with⟨h0,_⟩|⟨_,bb,cap,cur,hb,he,h1,h2,h3,h4⟩
     ·omega
     ·refine⟨_,rfl,yes_of (u:=.pointer (some ⟨bb,j*k+0,none⟩)) ?_ ⟨bb,hb,rfl⟩⟩
      have hlt':(j:Int)<(m:Int):=by omega
      unfold execOp;simp[hop,he,hi',Instr.indexAt,asIntOf,run_underlying hu,hlt',hlt,sizeOf_at hy,add_off,hk]
   ·cases h
  ·rename_i y c k n hne hA hx hi
   split at h
   ·rename_i es cs as2 hes
    cases h;obtain⟨⟨h0,hn⟩,_⟩:=hp;obtain⟨el,hu,hy⟩:=evEl_of hL hA;obtain⟨m,hrow⟩:=rows_at hes (get_at hx hr);obtain⟨A,cap,he,hcap,hlen,hel⟩:=row_at hrow;obtain⟨ad,rfl,hk,hT⟩:=hel _ _ hn;have hi':=TC.v_eq (show TC g ok w _ _ from get_at hi hr);have hlt:n<m:=by
     have:=(List.getElem?_eq_some_iff.1 hn).1;omega
    refine⟨_,rfl,yes_of ?_ hT⟩
    unfold execOp;simp[hop,he,hi',Instr.indexAt,asIntOf,run_underlying hu,h0,hlt,sizeOf_at hy]
   ·cases h
  ·cases h
theorem nilPt_ok {c:AC} {u:Value} {b:Bool} (h:nilPt c=some b) (hT:TC g ok w c u):∃o,u=.pointer o∧o.isNone=b:=by
 cases c with
 |v x =>
  have e:=TC.v_eq hT;subst e;cases u<;>simp only[nilPt,reduceCtorEq] at h
  rename_i o;cases o<;>simp only[nilPt,Option.some.injEq] at h<;>subst h<;>exact⟨_,rfl,rfl⟩
 |pe cs =>
  cases h;have h1:Rd w (.pe cs) u:=Foot.now (show Foot (fun W=>Rd W (.pe cs) u) w ok from hT);cases h1;exact⟨_,rfl,rfl⟩
 |ptr i off=>cases h;obtain⟨b,_,rfl⟩:=hT;exact⟨_,rfl,rfl⟩
 |el i k j off=>cases h;obtain⟨b,_,rfl⟩:=hT;exact⟨_,rfl,rfl⟩
 |_=>cases h
theorem nilFu_ok {c:AC} {u:Value} {b:Bool} (h:nilFu c=some b) (hT:TC g ok w c u):(u=.nilFunc∧b=true)∨(∃f x y,u=.func f x y∧b=false):=by
 cases c with
 |v x =>
  have e:=TC.v_eq hT;subst e;cases u<;>simp only[nilFu,reduceCtorEq,Option.some.injEq] at h<;>subst h
  all_goals first|exact .inl ⟨rfl,rfl⟩|exact .inr ⟨_,_,_,rfl,rfl⟩
 |fn f fi ca=>cases h;obtain⟨us,vs,rfl,_⟩:=hT;exact .inr ⟨_,_,_,rfl,rfl⟩
 |_=>cases h
theorem run_nil_pt {t e:TypeId} {o o':Option Addr} (w:World) (hu:P.underlying t=some (.pointer e)) (h:(o.isNone||o'.isNone)=true):(Op.equal t (.pointer o) (.pointer o')).run P w=.ok (o.isNone&&o'.isNone) w:=by
 have key:∀d:Nat,(Op.equalIn (d+1) t (.pointer o) (.pointer o')).run P w=.ok (o.isNone&&o'.isNone) w:=fun d=>by
  cases o<;>cases o'<;>first|(cases h;done)|simp[Op.equalIn,run_underlying hu]
 exact key 9999
theorem run_nil_fu {t:TypeId} {a b:Array TypeId} {c:Bool} {x y:Value} {p q:Bool} (w:World) (hu:P.underlying t=some (.func a b c)) (hx:(x=.nilFunc∧p=true)∨(∃f z z',x=.func f z z'∧p=false)) (hy:(y=.nilFunc∧q=true)∨(∃f z z',y=.func f z z'∧q=false)) (h:(p||q)=true):(Op.equal t x y).run P w=.ok (p&&q) w:=by
 have key:∀d:Nat,(Op.equalIn (d+1) t x y).run P w=.ok (p&&q) w:=fun d=>by
  rcases hx with⟨rfl,rfl⟩|⟨f,z,z',rfl,rfl⟩<;>rcases hy with⟨rfl,rfl⟩|⟨f',z1,z2,rfl,rfl⟩<;>first|(cases h;done)|simp[Op.equalIn,run_underlying hu]
 exact key 9999
theorem evNil_ok {o:Oper} {az as':List Ans} {p:List Prop} {e:Eff} {c d:AC} {f:BinOp} {t:Nat} {x y:Operand} {u:TypeId} (hL:LaysOk P L) (hop:o.op=.binOp f t x y u) (h1:TC g ok w c (a.eval x)) (h2:TC g ok w d (a.eval y)) (h:evNil L t f az c d=some (p,e,as')):∃v,e=.val v∧Yes P g ok w a o v:=by
 unfold evNil at h;have fin:∀(A B:Option Bool),evNil2 f az A B=some (p,e,as')→(∀p q,A=some p→B=some q→(p||q)=true→(Op.equal t (a.eval x) (a.eval y)).run P w=.ok (p&&q) w)→(eqGuard f t x y (a.eval x) (a.eval y)).run P w=.ok () w→(∀(op:BinOp),op=.eql∨op=.neq→(binOp op t (a.eval x) (a.eval y))=(match op with|.eql=>(do pure (.bool (←Op.equal t (a.eval x) (a.eval y))))|_=>(do pure (.bool (!(←Op.equal t (a.eval x) (a.eval y)))))))→∃v,e=.val v∧Yes P g ok w a o v:=by
  intro A B hE hr hg hb;unfold evNil2 at hE;split at hE
  ·rename_i p' q'
   cases hpq:(p'||q') with
   |false=>rw[hpq] at hE;cases hE
   |true =>
    rw[hpq] at hE;simp only[cond_true] at hE;have hrun:=hr p' q' rfl rfl hpq;split at hE
    ·cases hE
     refine⟨_,rfl,yes_of (u:=.bool (p'&&q')) ?_ (TC.of_v rfl:TC g ok w (.v (.bool (p'&&q'))) _)⟩
     unfold execOp;simp[hop,hg,hb .eql (.inl rfl),hrun]
    ·cases hE
     refine⟨_,rfl,yes_of (u:=.bool !(p'&&q')) ?_ (TC.of_v rfl:TC g ok w (.v (.bool !(p'&&q'))) _)⟩
     unfold execOp;simp[hop,hg,hb .neq (.inr rfl),hrun]
    ·cases hE
  ·cases hE
 split at h
 ·rename_i hy
  obtain⟨dd,hd1,hd2⟩:=(hL _ _ hy).under;obtain⟨el,rfl⟩:=hd2;cases hA:nilPt c with
  |none=>rw[hA] at h;cases h
  |some p1 =>
   cases hB:nilPt d with
   |none=>rw[hA,hB] at h;cases h
   |some q1 =>
    rw[hA,hB] at h;obtain⟨o1,e1,e3⟩:=nilPt_ok hA h1;obtain⟨o2,e2,e4⟩:=nilPt_ok hB h2;refine fin _ _ h (fun p q hp hq hpq=>?_) ?_ ?_
    ·cases hp;cases hq
     rw[e1,e2,←e3,←e4];exact run_nil_pt w hd1 (by rw[e3,e4];exact hpq)
    ·rw[e1,e2];unfold eqGuard;cases f<;>simp
    ·rintro op (rfl|rfl)<;>rw[e1,e2]<;>rfl
 ·rename_i hy
  obtain⟨dd,hd1,hd2⟩:=(hL _ _ hy).under;obtain⟨e1,e2,e3,rfl⟩:=hd2;cases hA:nilFu c with
  |none=>rw[hA] at h;cases h
  |some p1 =>
   cases hB:nilFu d with
   |none=>rw[hA,hB] at h;cases h
   |some q1 =>
    rw[hA,hB] at h;have x1:=nilFu_ok hA h1;have x2:=nilFu_ok hB h2;refine fin _ _ h (fun p q hp hq hpq=>?_) ?_ ?_
    ·cases hp;cases hq
     exact run_nil_fu w hd1 x1 x2 hpq
    ·generalize a.eval x=vx at x1 ⊢
     generalize a.eval y=vy at x2 ⊢;rcases x1 with⟨rfl,_⟩|⟨f1,z,z',rfl,_⟩<;>rcases x2 with⟨rfl,_⟩|⟨f',z1,z2,rfl,_⟩<;>unfold eqGuard<;>cases f<;>simp
    ·generalize a.eval x=vx at x1 ⊢
     generalize a.eval y=vy at x2 ⊢;rintro op (rfl|rfl)<;>rcases x1 with⟨rfl,_⟩|⟨f1,z,z',rfl,_⟩<;>rcases x2 with⟨rfl,_⟩|⟨f',z1,z2,rfl,_⟩<;>rfl
 ·cases h
theorem small_ok {o:Oper} {az as':List Ans} {p:List Prop} {e:Eff} (hL:LaysOk P L) (hr:RegsOk g ok w s.regs a.tmps) (hp:allP p) (h:evOp L s az o=some (p,e,as'))
  (hop:(∃x,o.op=.move x)∨(∃x,o.op=.assign x)∨(∃c x y,o.op=.pick c x y)∨(∃f t x y u,o.op=.binOp f t x y u)∨(∃f t x,o.op=.unOp f t x)):∃v,e=.val v∧Yes P g ok w a o v:=by
 rcases hop with⟨x,hop⟩|⟨x,hop⟩|⟨c,x,y,hop⟩|⟨f,t,x,y,u,hop⟩|⟨f,t,x,hop⟩
 ·simp only[evOp,hop] at h
  split at h
  ·rename_i v hv
   cases h;exact⟨v,rfl,a.eval x,by unfold execOp;simp[hop],getV_at hv hr⟩
  ·cases h
 ·simp only[evOp,hop] at h
  split at h
  ·rename_i v hv
   cases h;exact⟨v,rfl,a.eval x,by unfold execOp;simp[hop],getV_at hv hr⟩
  ·cases h
 ·simp only[evOp,hop] at h
  split at h
  ·rename_i t hc
   split at h
   ·rename_i v hv
    cases h;have hb:=TC.v_eq (show TC g ok w _ _ from get_at hc hr);refine⟨v,rfl,_,?_,getV_at hv hr⟩
    unfold execOp;cases t<;>simp[hop,hb,asBool]
   ·cases h
  ·cases h
 ·simp only[evOp,hop] at h
  split at h
  ·rename_i v1 v2 h1 h2
   split at h
   ·rename_i p' z hz
    cases h;have e1:=TC.v_eq (show TC g ok w _ _ from get_at h1 hr);have e2:=TC.v_eq (show TC g ok w _ _ from get_at h2 hr);have hz1:z.oneCell'=true∧(eqGuard f t x y v1 v2).run P w=.ok () w:=by
     unfold binV at hz;split at hz
     ·rename_i k n k' m
      refine⟨?_,by unfold eqGuard;cases f<;>simp⟩
      cases hk:decide (k=k') with
      |false=>rw[hk] at hz;cases hz
      |true=>rw[hk] at hz;cases f<;>simp only[cond_true,Option.some.injEq,Prod.mk.injEq,reduceCtorEq] at hz<;>obtain⟨_,rfl⟩:=hz<;>rfl
     ·refine⟨?_,by unfold eqGuard;cases f<;>simp⟩
      cases f<;>simp only[Option.some.injEq,Prod.mk.injEq,reduceCtorEq] at hz<;>obtain⟨_,rfl⟩:=hz<;>rfl
     ·cases hz
    refine⟨_,rfl,yes_of (u:=z) ?_ (TC.of_v hz1.1:TC g ok w _ _)⟩
    unfold execOp;simp[hop,e1,e2,hz1.2,binV_ok (P:=P) (t:=t) hz hp w]
   ·rename_i hnone
    clear hnone;have e1:=TC.v_eq (show TC g ok w _ _ from get_at h1 hr);have e2:=TC.v_eq (show TC g ok w _ _ from get_at h2 hr);unfold evMore at h;split at h
    ·rename_i b1 b2
     split at h
     ·rename_i hy
      cases h;obtain⟨d,hd1,hd2⟩:=(hL _ _ hy).under;cases hd2;refine⟨_,rfl,yes_of (u:=.bool (b1==b2)) ?_ (TC.of_v rfl:TC g ok w (.v (.bool (b1==b2))) _)⟩
      unfold execOp;simp[hop,e1,e2,eqGuard,run_eql_bool w t b1 b2 hd1]
     ·rename_i hy
      cases h;obtain⟨d,hd1,hd2⟩:=(hL _ _ hy).under;cases hd2;refine⟨_,rfl,yes_of (u:=.bool !(b1==b2)) ?_ (TC.of_v rfl:TC g ok w (.v (.bool !(b1==b2))) _)⟩
      unfold execOp;simp[hop,e1,e2,eqGuard,run_neq_bool w t b1 b2 hd1]
     ·cases h
    ·rename_i k n k' m
     simp only[evBits] at h;split at h
     ·rename_i z as1
      cases hz1:z.oneCell' with
      |false=>rw[hz1] at h;cases h
      |true =>
       rw[hz1] at h;cases h;have hrun:=hp.1 P t w;have hg:(eqGuard f t x y (.int k n) (.int k' m)).run P w=.ok () w:=by unfold eqGuard;cases f<;>simp
       refine⟨_,rfl,yes_of (u:=z) ?_ (TC.of_v hz1:TC g ok w _ _)⟩
       unfold execOp;simp[hop,e1,e2,hrun,hg]
     ·cases h
    ·exact evNil_ok (c:=.v v1) (d:=.v v2) hL hop (get_at h1 hr) (get_at h2 hr) h
  ·rename_i c d _ h1 h2
   exact evNil_ok (c:=c) (d:=d) hL hop (get_at h1 hr) (get_at h2 hr) h
  ·cases h
 ·simp only[evOp,hop] at h
  split at h
  ·rename_i v1 h1
   split at h
   ·rename_i z hz
    cases h;have e1:=TC.v_eq (show TC g ok w _ _ from get_at h1 hr);have hz1:z.oneCell'=true:=by
     unfold unV at hz;split at hz
     ·cases f<;>simp only[Option.some.injEq,reduceCtorEq] at hz<;>subst hz<;>rfl
     ·cases f<;>simp only[Option.some.injEq,reduceCtorEq] at hz<;>subst hz<;>rfl
     ·cases hz
    refine⟨_,rfl,yes_of (u:=z) ?_ (TC.of_v hz1:TC g ok w _ _)⟩
    unfold execOp;simp[hop,e1,unV_ok (P:=P) hz w]
   ·cases h
  ·cases h
theorem nil_ok {x:Operand} {o:Oper} {az as':List Ans} {p:List Prop} {e:Eff} (hop:o.op=.nilCheck x) (hr:RegsOk g ok w s.regs a.tmps) (h:evOp L s az o=some (p,e,as')):∃v,e=.val v∧Yes P g ok w a o v:=by
 have key:∀{c:AC} {ad:Addr},a.eval x=.pointer (some ad)→TC g ok w c (a.eval x)→Yes P g ok w a o (.g (.one c)):=fun {c ad} he hT=>by
  refine⟨a.eval x,?_,hT⟩
  unfold execOp;simp[hop,he]
 simp only[evOp,hop] at h;split at h
 ·rename_i i off hx
  cases h;have hT:=(show TC g ok w (.ptr i off) _ from get_at hx hr);obtain⟨b,hb,he⟩:=hT;exact⟨_,rfl,key he ⟨b,hb,he⟩⟩
 ·rename_i i k j off hx
  cases h;have hT:=(show TC g ok w (.el i k j off) _ from get_at hx hr);obtain⟨b,hb,he⟩:=hT;exact⟨_,rfl,key he ⟨b,hb,he⟩⟩
 ·rename_i cs hx
  cases h;have hT:=(show TC g ok w (.pe cs) _ from get_at hx hr);obtain⟨ad,us,he,_⟩:=pe_at hT;exact⟨_,rfl,key he hT⟩
 ·cases h
theorem conv_ok {src dst:Nat} {x:Operand} {o:Oper} {az as':List Ans} {p:List Prop} {e:Eff} (hL:LaysOk P L) (hop:o.op=.convert src dst x) (hr:RegsOk g ok w s.regs a.tmps) (h:evOp L s az o=some (p,e,as')):∃v,e=.val v∧Yes P g ok w a o v:=by
 simp only[evOp,hop] at h;split at h
 ·rename_i y sz z k k' n hs hd hx
  cases h;have e1:=TC.v_eq (show TC g ok w _ _ from get_at hx hr);obtain⟨d,hd1,_⟩:=(hL _ _ hs).under;obtain⟨d2,hd2,hk2⟩:=(hL _ _ hd).under;cases hk2;refine⟨_,rfl,yes_of (u:=.int k (k.wrap n)) ?_ (TC.of_v rfl:TC g ok w (.v (.int k (k.wrap n))) _)⟩
  unfold execOp;simp[hop,e1,convert,run_underlying hd1,run_underlying hd2,Conv.intToInt]
 ·cases h
theorem extract_ok {x:Operand} {j:Nat} {o:Oper} {az as':List Ans} {p:List Prop} {e:Eff} (hop:o.op=.extract x j) (hr:RegsOk g ok w s.regs a.tmps) (h:evOp L s az o=some (p,e,as')):∃v,e=.val v∧Yes P g ok w a o v:=by
 simp only[evOp,hop] at h;split at h
 ·rename_i xs hx
  unfold yes at h;split at h
  ·rename_i z hz
   cases h;obtain⟨us,he,hl,hT⟩:=getV_at hx hr;have hj:j<us.size:=by rw[hl];exact (List.getElem?_eq_some_iff.1 hz).1
   refine⟨_,rfl,yes_of (u:=us[j]) ?_ (hT j z _ hz (Array.getElem?_eq_getElem hj))⟩
   unfold execOp;simp[hop,he,Instr.extract,hj]
  ·cases h
 ·cases h
theorem len_ok {x:AC} {y:Lay} {t ty:Nat} {z:AG} {u:Value} (hy:LayOk P t y) (h:evLen y x=some z) (hu:TC g ok w x u):∃v,(Builtin.len_ #[t] ty #[u]).run P w=.ok v w∧TG g ok w z v:=by
 obtain⟨d,hd,hk⟩:=hy.under;unfold evLen at h;split at h
 ·rename_i b
  split at h
  ·rename_i hkk
   cases h;rw[hkk] at hk;cases hk;have:=TC.v_eq hu;subst this;exact⟨.int .i64 b.size,by simp[Builtin.len_,run_underlying hd,goInt],(TC.of_v rfl:TC g ok w (.v _) _)⟩
  ·cases h
 ·rename_i k n es
  split at h
  ·rename_i el hkk
   cases h;rw[hkk] at hk;cases hk;obtain⟨A,cap,rfl,_⟩:=row_at hu;exact⟨.int .i64 n,by simp[Builtin.len_,run_underlying hd,goInt],(TC.of_v rfl:TC g ok w (.v _) _)⟩
  ·cases h
 ·split at h
  ·rename_i el hkk
   cases h;rw[hkk] at hk;cases hk;have:=TC.v_eq hu;subst this;exact⟨.int .i64 0,by simp[Builtin.len_,run_underlying hd,goInt],(TC.of_v rfl:TC g ok w (.v _) _)⟩
  ·cases h
 ·rename_i i e k n
  split at h
  ·rename_i el hkk
   cases h;rw[hkk] at hk;cases hk;have:∃A cap,u=.slice A n cap:=by
    rcases (show SlOk g w i e k n u from hu) with⟨rfl,A,rfl⟩|⟨_,b,cap,cur,_,rfl,_⟩
    ·exact⟨A,0,rfl⟩
    ·exact⟨_,cap,rfl⟩
   obtain⟨A,cap,rfl⟩:=this;exact⟨.int .i64 n,by simp[Builtin.len_,run_underlying hd,goInt],(TC.of_v rfl:TC g ok w (.v _) _)⟩
  ·cases h
 ·cases h
theorem call_len_ok {c:Call} {o:Oper} {az as':List Ans} {p:List Prop} {e:Eff} (hL:LaysOk P L) (hop:o.op=.call c) (hc:c.callee=.builtin .len) (hr:RegsOk g ok w s.regs a.tmps) (h:evOp L s az o=some (p,e,as')):∃v,e=.val v∧Yes P g ok w a o v:=by
 simp only[evOp,hop,hc] at h;split at h
 ·rename_i x t hxs ht
  split at h
  ·rename_i y c' hy hx
   unfold yes at h;split at h
   ·rename_i z hz
    cases h;obtain⟨v,hrun,hv⟩:=len_ok (ty:=o.type) (hL _ _ hy) hz (show TC g ok w _ _ from get_at hx hr);refine⟨_,rfl,yes_of ?_ hv⟩
    have hargs:c.args=#[x]:=by
     apply Array.ext'
     exact hxs
    have hb:(Builtin.len_ c.argTypes o.type #[a.eval x]).run P w=.ok v w:=by
     rw[←hrun];unfold Builtin.len_;simp only[ht];rfl
    unfold execOp;simp[hop,resolve,hc,invoke,builtin,hargs,hb]
   ·cases h
  ·cases h
 ·cases h
theorem index_ok {t:Nat} {x i:Operand} {o:Oper} {az as':List Ans} {p:List Prop} {e:Eff} (hL:LaysOk P L) (hop:o.op=.index t x i) (hr:RegsOk g ok w s.regs a.tmps) (h:evOp L s az o=some (p,e,as')) (hp:allP p):∃v,e=.val v∧Yes P g ok w a o v:=by
 simp only[evOp,hop] at h;split at h
 ·rename_i y xv iv hy hx hi
  unfold evIndex at h;split at h
  ·rename_i b k n
   split at h
   ·rename_i z as1 hk
    cases h;have e1:=TC.v_eq (show TC g ok w _ _ from get_at hx hr);have e2:=TC.v_eq (show TC g ok w _ _ from get_at hi hr);obtain⟨d,hd1,hd2⟩:=(hL _ _ hy).under;rw[hk] at hd2;cases hd2;obtain⟨⟨h0,c,hc,rfl⟩,_⟩:=hp;refine⟨_,rfl,yes_of (u:=.int .u8 c.toNat) ?_ (TC.of_v rfl:TC g ok w (.v (.int .u8 c.toNat)) _)⟩
    unfold execOp;simp[hop,e1,e2,Instr.index,asIntOf,run_underlying hd1,h0,hc]
   ·cases h
  ·cases h
 ·cases h
theorem bound_at {d n:Int} {x:Option Operand} (h:bound s d x=some n) (hr:RegsOk g ok w s.regs a.tmps):(x=none∧n=d)∨∃y k,x=some y∧a.eval y=.int k n:=by
 unfold bound at h;split at h
 ·cases h;exact .inl ⟨rfl,rfl⟩
 ·rename_i y
  split at h
  ·rename_i k n' hy
   cases h;exact .inr ⟨y,k,rfl,TC.v_eq (show TC g ok w _ _ from get_at hy hr)⟩
  ·cases h
theorem rows_cut {k n l m:Nat} {es ds:List (List AC)} {A:Option Addr} {cap:Nat} (h:TC g ok w (.row k n es) (.slice A n cap)) (hlm:l+m≤n) (hds:ds=(es.drop l).take m) (hcap:n≤cap) :
  TC g ok w (.row k m ds) (.slice (if cap=l then A else A.map (·.add (l*k))) m (cap-l)):=by
 have h:Foot (fun W=>Rd W (.row k n es) (.slice A n cap)) w ok:=h;show Foot (fun W=>Rd W (.row k m ds) _) w ok
 refine foot_mk fun W' hW'=>?_
 have h1:=h W' hW';by_cases hm:m=0
 ·subst hm
  have:ds=[]:=by rw[hds];simp
  subst this;exact Rd.nil k _ _
 ·cases h1 with
  |nil=>omega
  |row _ _ _ ad _ vs h0 h1 h2 h3 h4 h5 h6 =>
   rw[if_neg (by omega)];have hdl:ds.length=m:=by rw[hds];simp;omega
   have hg:∀(i:Nat) x,ds[i]?=some x→es[l+i]?=some x:=fun i x hx=>by
    rw[hds,List.getElem?_take] at hx;split at hx
    ·rwa [List.getElem?_drop] at hx
    ·cases hx
   have hv:∀(i:Nat) x,((vs.drop l).take m)[i]?=some x→vs[l+i]?=some x:=fun i x hx=>by
    rw[List.getElem?_take] at hx;split at hx
    ·rwa [List.getElem?_drop] at hx
    ·cases hx
   refine Rd.row k m ds (ad.add (l*k)) (cap-l) ((vs.drop l).take m) hdl (by omega) (by omega) (by simp;omega) (fun i us hi=>?_) (fun i cs hi=>h5 _ cs (hg i cs hi)) (fun i cs us j c u hi hu hc hju=>h6 _ cs us j c u (hg i cs hi) (hv i us hu) hc hju)
   obtain⟨h7,h8⟩:=h4 _ us (hv i us hi);refine⟨h7,fun j u hu=>?_⟩
   rw[add_add,show l*k+(i*k+j)=(l+i)*k+j by rw[Nat.add_mul];omega];exact h8 j u hu
theorem slice_ok {t:Nat} {x:Operand} {lo hi:Option Operand} {o:Oper} {az as':List Ans} {p:List Prop} {e:Eff} (hL:LaysOk P L) (hop:o.op=.slice t x lo hi none) (hr:RegsOk g ok w s.regs a.tmps) (h:evOp L s az o=some (p,e,as')) (hp:allP p):∃v,e=.val v∧Yes P g ok w a o v:=by
 simp only[evOp,hop] at h;split at h
 ·rename_i y b hy hx
  split at h
  ·rename_i l h' hl hh
   unfold evCut at h;split at h
   ·rename_i z as1 hk
    cases h;have e1:=TC.v_eq (show TC g ok w _ _ from get_at hx hr);obtain⟨d,hd1,hd2⟩:=(hL _ _ hy).under;rw[hk] at hd2;cases hd2;obtain⟨⟨h0,h1,h2,rfl⟩,_⟩:=hp;refine⟨_,rfl,yes_of (u:=.string (b.extract l.toNat h'.toNat)) ?_ (TC.of_v rfl:TC g ok w (.v (.string (b.extract l.toNat h'.toNat))) _)⟩
    have hh2:(h'.toNat:Int)=h':=Int.toNat_of_nonneg (by omega);have h3:0≤h':=by omega
    rcases bound_at hl hr with⟨rfl,rfl⟩|⟨yl,kl,rfl,el⟩<;>rcases bound_at hh hr with⟨rfl,rfl⟩|⟨yh,kh,rfl,eh⟩<;>unfold execOp <;>
     simp only[hop,Option.map_none,Option.map_some]<;>(try rw[el])<;>(try rw[eh])<;>simp[e1,Instr.sliceAt,Instr.slice,Instr.sliceBounds,run_underlying hd1,run_sliceBound,h0,h1,h2,h3,hh2]
   ·cases h
  ·cases h
 ·rename_i y k n es hy hx
  split at h
  ·rename_i l h' ety m ds as2 hl hh hk
   split at h
   ·rename_i ly hly
    cases hb:Nat.beq ly.size k with
    |false=>rw[hb] at h;cases h
    |true =>
     rw[hb] at h;cases h;have hk2:=Nat.eq_of_beq_eq_true hb;subst hk2;obtain⟨⟨h0,h1,h2,h3,h4⟩,_⟩:=hp;have hu:=under_sl (hL _ _ hy) hk;have hT:TC g ok w (.row ly.size n es) (a.eval x):=get_at hx hr;obtain⟨A,cap,e1,hcap,hel,_⟩:=row_at hT;rw[e1] at hT;have e5:(l.toNat:Int)=l:=Int.toNat_of_nonneg h0;have e6:(h'.toNat:Int)=h':=Int.toNat_of_nonneg (by omega);have hsz:=sizeOf_at (hL _ _ hly) w;refine⟨_,rfl,yes_of (u:=.slice (if cap=l.toNat then A else A.map (·.add (l.toNat*ly.size))) m (cap-l.toNat)) ?_ (rows_cut hT (by omega) h4 hcap)⟩
     have hml:h'.toNat-l.toNat=m:=by omega
     have hhc:h'≤(cap:Int):=by omega
     have h9:0≤h':=by omega
     have h10:(l.toNat:Int)≤(h'.toNat:Int):=by omega
     rcases bound_at hl hr with⟨rfl,rfl⟩|⟨yl,kl,rfl,el⟩<;>rcases bound_at hh hr with⟨rfl,rfl⟩|⟨yh,kh,rfl,eh⟩<;>unfold execOp <;>
      simp only[hop,Option.map_none,Option.map_some]<;>(try rw[el])<;>(try rw[eh])<;>simp[e1,Instr.sliceAt,Instr.slice,Instr.sliceBounds,run_underlying hu,run_sliceBound,h0,h1,h2,h9,e6,e5,hhc,hsz]<;>(try omega)
   ·cases h
  ·cases h
 ·cases h
theorem max_ok {c:Call} {b:Builtin} {o:Oper} {az as':List Ans} {p:List Prop} {e:Eff} (hop:o.op=.call c) (hc:c.callee=.builtin b) (hb:b=.max∨b=.min) (hr:RegsOk g ok w s.regs a.tmps) (h:evOp L s az o=some (p,e,as')):∃v,e=.val v∧Yes P g ok w a o v:=by
 rcases hb with rfl|rfl<;>simp only[evOp,hop,hc] at h<;>unfold evMax at h<;>split at h
 ·rename_i x y hxs
  split at h
  ·rename_i k n k' m hx hy
   cases h;have e1:=TC.v_eq (show TC g ok w _ _ from get_at hx hr);have e2:=TC.v_eq (show TC g ok w _ _ from get_at hy hr);have hargs:c.args=#[x,y]:=by apply Array.ext';exact hxs
   refine⟨_,rfl,yes_of (u:=.int k (maxI n m)) ?_ (TC.of_v rfl:TC g ok w (.v (.int k (maxI n m))) _)⟩
   unfold execOp;simp[hop,resolve,hc,invoke,builtin,hargs,e1,e2,Builtin.max_,Builtin.max2,maxI]
  ·cases h
 ·cases h
 ·rename_i x y hxs
  split at h
  ·rename_i k n k' m hx hy
   cases h;have e1:=TC.v_eq (show TC g ok w _ _ from get_at hx hr);have e2:=TC.v_eq (show TC g ok w _ _ from get_at hy hr);have hargs:c.args=#[x,y]:=by apply Array.ext';exact hxs
   refine⟨_,rfl,yes_of (u:=.int k (minI n m)) ?_ (TC.of_v rfl:TC g ok w (.v (.int k (minI n m))) _)⟩
   unfold execOp;simp[hop,resolve,hc,invoke,builtin,hargs,e1,e2,Builtin.min_,Builtin.min2,minI]
  ·cases h
 ·cases h
end
end
section
section
variable {P:Program} {L:Lays} {g:List (Option Nat)} {ok:Nat→Prop} {w:World} {s:St} {a:Act}
def News (P:Program) (g:List (Option Nat)) (ok:Nat→Prop) (w:World) (a:Act) (o:Oper) (cs:List AC):Prop :=
 ∃cells t,(execOp a.eval o).run P w=.ok (.value (.pointer (some ⟨w.heap.size,0,none⟩))) (w.alloc (.cells cells t (0,0)))∧TL g ok w cs cells.toList
theorem TC_zero {c:AC} (h:c.zok=true):TC g ok w c c.zval:=by
 cases c with
 |v x=>exact TC.of_v h
 |row k n es =>
  unfold AC.zok at h;split at h
  ·rename_i he;cases he
  ·rename_i he;cases he;exact foot_mk fun W' _=>Rd.nil k none 0
  ·cases h
 |pe cs=>cases h
 |ptr i off=>cases h
 |fn f fi ca=>cases h
 |sl i e k n=>cases h
 |el i k j off=>cases h
 |any=>cases h
theorem TL_zero {cs:List AC} (h:∀u∈cs,u.zok=true):TL g ok w cs (cs.map AC.zval):=by
 refine⟨by simp,fun j c u hc hu=>?_⟩
 rw[List.getElem?_map,hc] at hu;cases hu;exact TC_zero (h c (List.mem_of_getElem? hc))
theorem TG.cells {x:AG} {u:Value} (h:TG g ok w x u):TL g ok w x.cells u.cells.toList:=by
 cases x with
 |one c =>
  have h1:=TC.one (show TC g ok w c u from h);have h2:u.cells=#[u]:=by cases u<;>first|rfl|cases h1
  rw[h2];refine⟨rfl,fun j c' u' hc hu=>?_⟩
  cases j with
  |zero=>simp[AG.cells] at hc hu;subst hc;subst hu;exact h
  |succ j=>simp at hu
 |agg cs =>
  obtain⟨us,rfl,h⟩:=h;exact h
theorem TL.one {cs:List AC} {us:List Value} (h:TL g ok w cs us):∀u∈us,u.oneCell'=true:=by
 intro u hu;obtain⟨j,hj,rfl⟩:=List.mem_iff_getElem.1 hu;have hc:j<cs.length:=by rw[←h.1];exact hj
 exact (h.2 j _ _ (List.getElem?_eq_getElem hc) (List.getElem?_eq_getElem hj)).one
theorem alloc_ok {t:Nat} {o:Oper} {az as':List Ans} {p:List Prop} {e:Eff} (hL:LaysOk P L) (hop:o.op=.alloc t) (h:evOp L s az o=some (p,e,as')):∃cs,e=.new cs∧News P g ok w a o cs:=by
 simp only[evOp,hop] at h;split at h
 ·rename_i y hy
  cases h;obtain⟨z,hz,he⟩:=zero_at (hL _ _ hy) w;refine⟨_,rfl,z.cells,t,?_,?_⟩
  ·unfold execOp
   simp[hop,Instr.alloc,hz,newVar,newRow,newObj,Sem.run]
  ·rw[he]
   exact TL_zero (hL _ _ hy).ones
 ·cases h
theorem box_ok {t:Nat} {x:Operand} {o:Oper} {az as':List Ans} {p:List Prop} {e:Eff} (hop:o.op=.box t x) (hr:RegsOk g ok w s.regs a.tmps) (h:evOp L s az o=some (p,e,as')):∃cs,e=.new cs∧News P g ok w a o cs:=by
 simp only[evOp,hop] at h;split at h
 ·rename_i z hz
  cases h;refine⟨_,rfl,(a.eval x).cells,t,?_,(get_at hz hr).cells⟩
  unfold execOp;simp[hop,Instr.box,newVar,newRow,newObj,Sem.run]
 ·cases h
def Puts (P:Program) (g:List (Option Nat)) (ok:Nat→Prop) (w:World) (s:St) (a:Act) (o:Oper) (i off:Nat) (cs:List AC):Prop :=
 ∃b cells t us old,g[i]?=some (some b)∧s.at i=some old∧(0<cs.length∧off+cs.length≤old.length)∧w.heap[b]?=some (.cells cells t (0,0))∧TL g ok w old (cells.toList.take old.length)∧TL g ok w cs us ∧
  (execOp a.eval o).run P w=.ok .skip (w.setRow b (cells.toList.take off++us++cells.toList.drop (off+us.length)).toArray)
theorem put_run {t:Nat} {x y:Operand} {o:Oper} {ly:Lay} {i off b:Nat} {xv:AG} {old:List AC} {cells:Array Value} {el:Nat} (hL:LaysOk P L) (hop:o.op=.store t x y) (hy:lay L t=some ly) (hx:s.get y=some xv) (hr:RegsOk g ok w s.regs a.tmps)
  (hs:xv.cells.length=ly.size) (h0:0<ly.size) (hle:off+ly.size≤old.length) (hold:s.at i=some old) (hgb:g[i]?=some (some b)) (he:a.eval x=.pointer (some ⟨b,off,none⟩)) (hw:w.heap[b]?=some (.cells cells el (0,0))) (hT:TL g ok w old (cells.toList.take old.length)):Puts P g ok w s a o i off xv.cells:=by
 have hc:=(get_at hx hr).cells;refine⟨b,cells,el,(a.eval y).cells.toList,old,hgb,hold,⟨by omega,by omega⟩,hw,hT,hc,?_⟩
 have h1:(a.eval y).cells.size=ly.size:=by have:=hc.1;simpa[hs] using this
 have hlen:old.length≤cells.size:=by have:=hT.1;simp at this;omega
 have h2:=run_storeCells_at (P:=P) b off el (a.eval y).cells.toList 0 cells w hw (by simp;omega) hc.one;unfold execOp;simp[hop,he,Instr.storeAt,Instr.sureAddr,storeVar,sizeOf_at (hL _ _ hy),h1];rw[h2];simp[h1]
theorem store_ok {t:Nat} {x y:Operand} {o:Oper} {az as':List Ans} {p:List Prop} {e:Eff} (hL:LaysOk P L) (hop:o.op=.store t x y) (hr:RegsOk g ok w s.regs a.tmps) (ho:OwnOk g ok w s.own) (hp:allP p) (h:evOp L s az o=some (p,e,as')) :
  ∃i off cs,Puts P g ok w s a o i off cs∧(e=.put i off cs∨∃old,s.at i=some old∧e=.set i (over old off cs)):=by
 simp only[evOp,hop] at h;split at h
 ·rename_i ly av xv hy ha hx
  unfold evStore at h;split at h
  ·rename_i i off
   split at h
   ·rename_i old hold
    cases hb:(Nat.beq xv.cells.length ly.size&&(Nat.ble (off+ly.size) old.length&&Nat.blt 0 ly.size)) with
    |false=>rw[hb] at h;cases h
    |true =>
     rw[hb] at h;cases h;rw[Bool.and_eq_true,Bool.and_eq_true] at hb;have hs:=Nat.eq_of_beq_eq_true hb.1;have hle:=Nat.le_of_ble_eq_true hb.2.1;obtain⟨b,cells,el,hgb,he,hw,hT⟩:=own_at ho hold (show TC g ok w _ _ from get_at ha hr);exact⟨i,off,_,put_run hL hop hy hx hr hs (Nat.le_of_ble_eq_true hb.2.2) hle hold hgb he hw hT,.inl rfl⟩
   ·cases h
  ·rename_i i k j off
   split at h
   ·rename_i old ds as2 hold
    cases hb:(Nat.beq xv.cells.length ly.size&&Nat.blt 0 ly.size) with
    |false=>rw[hb] at h;cases h
    |true =>
     rw[hb] at h;cases h;obtain⟨⟨hle,rfl⟩,_⟩:=hp;rw[Bool.and_eq_true] at hb;have hs:=Nat.eq_of_beq_eq_true hb.1;obtain⟨b,hgb,he⟩:=(show TC g ok w (.el i k j off) _ from get_at ha hr);obtain⟨cells,el,hw,hT⟩:=ho.at hold hgb;exact⟨i,j*k+off,_,put_run hL hop hy hx hr hs (Nat.le_of_ble_eq_true hb.2) hle hold hgb he hw hT,.inr ⟨old,hold,rfl⟩⟩
   ·cases h
  ·cases h
 ·cases h
theorem vals_at {ok:Nat→Prop} (hr:RegsOk g ok w s.regs a.tmps):∀{l:List Operand} {vs:List Value},vals s l=some vs→l.map a.eval=vs
 |[],vs,h=>by cases h;rfl
 |x::r,vs,h=>by
  unfold vals at h;split at h
  ·rename_i y ys hy hys
   cases h;rw[List.map_cons,vals_at hr hys,TC.v_eq (show TC g ok w _ _ from get_at hy hr)]
  ·cases h
theorem TC.rd {c:AC} {u:Value} (hn:c.noptr=true) (h:TC g ok w c u) {W':World} (hW':∀k,ok k→k<w.heap.size→W'.heap[k]?=w.heap[k]?):Rd W' c u:=by
 cases c with
 |ptr i off=>cases hn
 |fn f fi ca=>cases hn
 |sl i e k n=>cases hn
 |el i k j off=>cases hn
 |v x=>exact h W' hW'
 |row k n es=>exact h W' hW'
 |pe cs=>exact h W' hW'
 |any=>exact h W' hW'
theorem holds_at {ok:Nat→Prop} (hr:RegsOk g ok w s.regs a.tmps):∀{l:List Operand} {fs:List FC},holds s l=some fs→FL g fs (l.map a.eval)
 |[],fs,h=>by cases h;exact⟨rfl,fun j f v h=>by cases h⟩
 |x::r,fs,h=>by
  unfold holds at h;have key:∀{f:FC} {ys:List FC},FCok g f (a.eval x)→FL g ys (r.map a.eval)→FL g (f::ys) ((x::r).map a.eval):=fun {f ys} h0 h1=>⟨by simp[h1.1],fun j f' v hf hv=>by
   cases j with
   |zero =>
    cases hf;simp only[List.map_cons,List.getElem?_cons_zero,Option.some.injEq] at hv;subst hv;exact h0
   |succ j=>exact h1.2 j f' v (by simpa using hf) (by simpa using hv)⟩
  split at h
  ·rename_i i off ys hx hys
   cases h;exact key (show TC g ok w (.ptr _ _) _ from get_at hx hr) (holds_at hr hys)
  ·rename_i y ys hx hys
   cases h;have h1:=(show TC g ok w (.v y) _ from get_at hx hr);exact key ⟨h1.v_eq,h1.v_eq▸h1.one⟩ (holds_at hr hys)
  ·cases h
theorem flatten_get {k:Nat}:∀{es:List (List AC)} {i j:Nat} {cs:List AC} {c:AC},(∀x∈es,x.length=k)→es[i]?=some cs→cs[j]?=some c→es.flatten[i*k+j]?=some c
 |[],i,j,cs,c,_,h,_=>by cases h
 |x::r,0,j,cs,c,hk,h,hc=>by
  cases h;have:=(List.getElem?_eq_some_iff.1 hc).1;rw[List.flatten_cons,Nat.zero_mul,Nat.zero_add,List.getElem?_append_left this,hc]
 |x::r,i+1,j,cs,c,hk,h,hc=>by
  have hx:=hk x List.mem_cons_self;have e:(i+1)*k+j=x.length+(i*k+j):=by rw[hx,Nat.add_mul];omega
  rw[List.flatten_cons,e,List.getElem?_append_right (by omega),Nat.add_sub_cancel_left];exact flatten_get (fun y hy=>hk y (List.mem_cons_of_mem _ hy)) (by simpa using h) hc
theorem flatten_len {k:Nat}:∀{es:List (List AC)},(∀x∈es,x.length=k)→es.flatten.length=es.length*k
 |[],_=>by simp
 |x::r,h=>by
  rw[List.flatten_cons,List.length_append,h x List.mem_cons_self,flatten_len (fun y hy=>h y (List.mem_cons_of_mem _ hy)),List.length_cons,Nat.add_mul];omega
theorem row_of {W:World} {b el n k cap:Nat} {cells:Array Value} {es:List (List AC)} (hb:W.heap[b]?=some (.cells cells el (0,0))) (hl:es.length=n) (hk:∀c∈es,c.length=k) (hs:n*k≤cells.size) (hn:n≤cap) (hmax:n≤9223372036854775807)
  (hrd:∀(j:Nat) c u,es.flatten[j]?=some c→cells[j]?=some u→Rd W c u):Rd W (.row k n es) (.slice (some ⟨b,0,none⟩) n cap):=by
 have hik:∀i,i<n→i*k+k≤n*k:=fun i hi=>by
  have:=Nat.mul_le_mul_right k (show i+1≤n from hi);rw[Nat.add_mul,Nat.one_mul] at this;exact this
 have get:∀(i j:Nat) us u,((List.range n).map fun i=>(cells.toList.drop (i*k)).take k)[i]?=some us→us[j]?=some u→i<n∧us.length=k∧cells[i*k+j]?=some u:=fun i j us u hi hu=>by
  rw[List.getElem?_map] at hi;obtain⟨i',hi',rfl⟩:=Option.map_eq_some_iff.1 hi;obtain⟨hin,rfl⟩:i<n∧i=i':=by
   obtain⟨h2,h3⟩:=List.getElem?_eq_some_iff.1 hi';simp at h2 h3;exact⟨h2,h3⟩
  have:=hik i hin;refine⟨hin,by simp only[List.length_take,List.length_drop,Array.length_toList];omega,?_⟩
  rw[List.getElem?_take] at hu;split at hu
  ·rw[List.getElem?_drop] at hu
   simpa using hu
  ·cases hu
 refine Rd.row k n es ⟨b,0,none⟩ cap ((List.range n).map fun i=>(cells.toList.drop (i*k)).take k) hl hn hmax (by simp) (fun i us hi=>⟨?_,fun j u hu=>?_⟩) (fun i cs hi=>hk cs (List.mem_of_getElem? hi)) (fun i cs us j c u hi hu hc huj=>hrd (i*k+j) c u (flatten_get hk hi hc) (get i j us u hu huj).2.2)
 ·rw[List.getElem?_map] at hi
  obtain⟨i',hi',rfl⟩:=Option.map_eq_some_iff.1 hi;obtain⟨h2,h3⟩:=List.getElem?_eq_some_iff.1 hi';simp at h2 h3;subst h3;have:=hik i h2;simp only[List.length_take,List.length_drop,Array.length_toList];omega
 ·obtain⟨_,_,h3⟩:=get i j us u hi hu
  rw[add_off,Nat.zero_add];simp only[World.cell?,hb,h3]
  first|rfl|simp[h3]
theorem peek_at (ho:OwnOk g ok w s.own) {az as':List Ans} {c c':AC} {ps:List Prop} {u:Value} (h:peek s az c=some (c',ps,as')) (hp:allP ps) (hT:TC g ok w c u):TC [] (fun k=>ok k∨some k∈g) w c' u:=by
 have plain:∀{c:AC},c.noptr=true→TC g ok w c u→TC [] (fun k=>ok k∨some k∈g) w c u:=fun hn h =>
  (h.noptr hn).mv (⟨fun _ _ h=>h,fun _ _ _=>rfl,fun k h _=>.inl h,fun i b cur e hb=>by cases hb⟩:Mv [] [] ok (fun k=>ok k∨some k∈g) w w)
 unfold peek at h;split at h
 ·rename_i i off
  split at h
  ·rename_i cs hcs
   cases hn:cs.all AC.noptr with
   |false=>rw[hn] at h;cases h
   |true =>
    rw[hn] at h;cases h;obtain⟨b,hb,rfl⟩:=(show TC g ok w (.ptr i off) u from hT);obtain⟨cells,e,hw,hT⟩:=ho.at hcs hb;show Foot (fun W=>Rd W (.pe (cs.drop off)) _) w _
    refine foot_mk fun W' hW'=>?_
    have hblk:W'.heap[b]?=some (.cells cells e (0,0)):=by
     refine (hW' b (.inr (List.mem_of_getElem? hb)) ?_).trans hw
     exact (Array.getElem?_eq_some_iff.1 hw).1
    refine Rd.pe _ _ ((cells.toList.take cs.length).drop off) ?_ (fun j u hu=>?_) (fun j c u hc hu=>?_)
    ·have:=hT.1
     simp only[List.length_drop];omega
    ·have h9:(((cells.toList.take cs.length).drop off).take (cs.length))[j]?=some u:=by
      rw[List.getElem?_take,if_pos,hu];have:=(List.getElem?_eq_some_iff.1 hu).1;simp only[List.length_drop,List.length_take] at this;omega
     exact take_cell hblk h9
    ·rw[List.getElem?_drop] at hc hu
     have hT2:=hT.2 _ c u hc hu;have hnc:c.noptr=true:=List.all_eq_true.1 hn c (List.mem_of_getElem? hc);exact hT2.rd hnc (fun k hk hlt=>hW' k (.inl hk) hlt)
  ·cases h
 ·rename_i i e0 k n
  split at h
  ·rename_i cs es as2 hcs
   cases h;obtain⟨⟨hl,hk,rfl,hn⟩,_⟩:=hp;rcases (show SlOk g w i e0 k n u from hT) with⟨h0,A,rfl⟩|⟨h0,b,cap,cur,hb,rfl,h1,h2,h3,h4⟩
   ·subst h0
    have:=List.eq_nil_of_length_eq_zero hl;subst this;exact (foot_mk fun W' _=>Rd.nil k A 0:Foot (fun W=>Rd W (.row k 0 []) (.slice A 0 0)) w _)
   ·obtain⟨cells,e,hw,hT⟩:=ho.at hcs hb
    show Foot (fun W=>Rd W (.row k n es) _) w _
    refine foot_mk fun W' hW'=>?_
    have hblk:W'.heap[b]?=some (.cells cells e (0,0)):=by
     refine (hW' b (.inr (List.mem_of_getElem? hb)) ?_).trans hw
     exact (Array.getElem?_eq_some_iff.1 hw).1
    have hlen:=flatten_len hk;have hT1:=hT.1;simp only[List.length_take,Array.length_toList] at hT1;refine row_of hblk hl hk (by rw[←hl,←hlen];omega) h1 (by simp only[maxLen] at h2;omega) (fun j c v hc hv=>?_)
    have hj:=(List.getElem?_eq_some_iff.1 hc).1;have hv':(cells.toList.take es.flatten.length)[j]?=some v:=by rw[List.getElem?_take,if_pos hj];simpa using hv
    exact (hT.2 j c v hc hv').rd (hn c (List.mem_of_getElem? hc)) (fun k hk hlt=>hW' k (.inl hk) hlt)
  ·cases h
 ·cases h
 ·cases hn:c.noptr with
  |false=>rw[hn] at h;cases h
  |true=>rw[hn] at h;cases h;exact plain hn hT
theorem allP_app:∀{ps qs:List Prop},allP (ps++qs)→allP ps∧allP qs
 |[],qs,h=>⟨trivial,h⟩
 |p::ps,qs,h=>⟨⟨h.1,(allP_app h.2).1⟩,(allP_app h.2).2⟩
theorem peekL_at (ho:OwnOk g ok w s.own):∀{cs cs':List AC} {az as':List Ans} {ps:List Prop} {us:List Value},peekL s az cs=some (cs',ps,as')→allP ps→TL g ok w cs us→TL [] (fun k=>ok k∨some k∈g) w cs' us
 |[],cs',az,as',ps,us,h,hp,hT=>by
  cases h;exact⟨hT.1,fun j c u hc=>by cases hc⟩
 |c::r,cs',az,as',ps,[],h,hp,hT=>by have:=hT.1;simp at this
 |c::r,cs',az,as',ps,u::us,h,hp,hT=>by
  unfold peekL at h;split at h
  ·rename_i c1 ps1 as1 h1
   split at h
   ·rename_i r1 ps2 as2 h2
    cases h;obtain⟨hp1,hp2⟩:=allP_app hp;have h3:=peek_at ho h1 hp1 (hT.2 0 c u rfl rfl);have h4:=peekL_at ho h2 hp2 (⟨by simpa using hT.1,fun j c u hc hu=>hT.2 (j+1) c u (by simpa using hc) (by simpa using hu)⟩:TL g ok w r us);refine⟨by simp[h4.1],fun j c u hc hu=>?_⟩
    cases j with
    |zero=>cases hc;cases hu;exact h3
    |succ j=>exact h4.2 j c u (by simpa using hc) (by simpa using hu)
   ·cases h
  ·cases h
theorem peekG_at (ho:OwnOk g ok w s.own) {x x':AG} {az as':List Ans} {ps:List Prop} {u:Value} (h:peekG s az x=some (x',ps,as')) (hp:allP ps) (hT:TG g ok w x u):TG [] (fun k=>ok k∨some k∈g) w x' u:=by
 unfold peekG at h;split at h
 ·split at h
  ·rename_i c1 ps1 as1 h1
   cases h;exact peek_at ho h1 hp hT
  ·cases h
 ·split at h
  ·rename_i c1 ps1 as1 h1
   cases h;obtain⟨us,rfl,hT⟩:=hT;exact⟨us,rfl,peekL_at ho h1 hp hT⟩
  ·cases h
theorem peekA_at (ho:OwnOk g ok w s.own):∀{xs xs':List AG} {az as':List Ans} {ps:List Prop} {us:List Value},peekA s az xs=some (xs',ps,as')→allP ps→TB g ok w xs us.toArray→TA (fun k=>ok k∨some k∈g) w xs' us.toArray
 |[],xs',az,as',ps,us,h,hp,hT=>by
  cases h;exact⟨hT.1,fun j c u hc=>by cases hc⟩
 |c::r,xs',az,as',ps,[],h,hp,hT=>by have:=hT.1;simp at this
 |c::r,xs',az,as',ps,u::us,h,hp,hT=>by
  unfold peekA at h;split at h
  ·rename_i c1 ps1 as1 h1
   split at h
   ·rename_i r1 ps2 as2 h2
    cases h;obtain⟨hp1,hp2⟩:=allP_app hp;have h3:=peekG_at ho h1 hp1 (hT.2 0 c u rfl rfl);have h4:=peekA_at ho h2 hp2 (⟨by simpa using hT.1,fun j c u hc hu=>hT.2 (j+1) c u (by simpa using hc) (by simpa using hu)⟩:TB g ok w r us.toArray);refine⟨by simpa using h4.1,fun j c u hc hu=>?_⟩
    cases j with
    |zero=>cases hc;simp at hu;subst hu;exact h3
    |succ j=>exact h4.2 j c u (by simpa using hc) (by simpa using hu)
   ·cases h
  ·cases h
theorem TA.mono {ok ok':Nat→Prop} {xs:List AG} {us:Array Value} (h:TA ok w xs us) (hk:∀k,ok k→ok' k):TA ok' w xs us :=
 ⟨h.1,fun j x u hx hu=>(h.2 j x u hx hu).mv (⟨fun _ _ h=>h,fun _ _ _=>rfl,fun k h _=>hk k h,fun i b cur e hb=>by cases hb⟩:Mv [] [] ok ok' w w)⟩
theorem makeFunc_ok {fn:Fn} {fi ca:Array Operand} {o:Oper} {az as':List Ans} {p:List Prop} {e:Eff} (hop:o.op=.makeFunc fn fi ca) (hr:RegsOk g ok w s.regs a.tmps) (h:evOp L s az o=some (p,e,as')):∃v,e=.val v∧Yes P g ok w a o v:=by
 simp only[evOp,hop] at h;split at h
 ·rename_i us vs hus hvs
  cases h;have e1:fi.map a.eval=us.toArray:=by apply Array.ext';simpa using vals_at hr hus
  have e2:ca.map a.eval=vs.toArray:=by apply Array.ext';simpa using vals_at hr hvs
  refine⟨_,rfl,yes_of (u:=.func fn us.toArray vs.toArray) ?_ (TC.of_v rfl:TC g ok w (.v (.func fn us.toArray vs.toArray)) _)⟩
  unfold execOp;simp only[hop,e1,e2,Instr.makeFunc];rfl
 ·split at h
  ·rename_i f us vs hfi hca
   cases h;refine⟨_,rfl,yes_of (u:=.func (.func f) (fi.map a.eval) (ca.map a.eval)) ?_ (show TC g ok w (.fn f us vs) _ from ⟨_,_,rfl,by simpa using holds_at hr hfi,by simpa using holds_at hr hca⟩)⟩
   unfold execOp;simp only[hop,Instr.makeFunc];rfl
  ·cases h
theorem TB.append {xs ys:List AG} {us vs:Array Value} (h1:TB g ok w xs us) (h2:TB g ok w ys vs):TB g ok w (xs++ys) (us++vs):=by
 refine⟨by simp[h1.1,h2.1],fun j x u hx hu=>?_⟩
 by_cases hj:j<xs.length
 ·rw[List.getElem?_append_left hj] at hx
  rw[Array.getElem?_append_left (by rw[h1.1];exact hj)] at hu;exact h1.2 j x u hx hu
 ·rw[List.getElem?_append_right (by omega)] at hx
  rw[Array.getElem?_append_right (by rw[h1.1];omega),h1.1] at hu;exact h2.2 _ x u hx hu
theorem TB.cells {cs:List AC} {vs:Array Value} (h:TL g ok w cs vs.toList):TB g ok w (cs.map .one) vs:=by
 refine⟨by have:=h.1;simpa using this,fun j x u hx hu=>?_⟩
 rw[List.getElem?_map] at hx;obtain⟨c,hc,rfl⟩:=Option.map_eq_some_iff.1 hx;exact h.2 j c u hc (by simpa using hu)
theorem FL.cells {fs:List FC} {us:List Value} (h:FL g fs us):TL g ok w (fs.map FC.ac) us:=by
 refine⟨by simp[h.1],fun j c u hc hu=>?_⟩
 rw[List.getElem?_map] at hc;obtain⟨f,hf,rfl⟩:=Option.map_eq_some_iff.1 hc;have:=h.2 j f u hf hu;cases f with
 |ptr i off=>exact this
 |val x=>obtain⟨rfl,h⟩:=this;exact TC.of_v h
theorem TL.ones {vs:List Value} (h:vs.all Value.oneCell'=true):TL g ok w (vs.map .v) vs:=by
 refine⟨by simp,fun j c u hc hu=>?_⟩
 rw[List.getElem?_map,hu] at hc;cases hc;exact TC.of_v (List.all_eq_true.1 h u (List.mem_of_getElem? hu))
theorem fnOf_at {z:AC} {f:FuncId} {fi ca:List AC} {u:Value} (h:fnOf z=some (f,fi,ca)) (hT:TC g ok w z u):∃us vs:Array Value,u=.func (.func f) us vs∧TL g ok w fi us.toList∧TL g ok w ca vs.toList:=by
 unfold fnOf at h;split at h
 ·rename_i f' us vs
  cases hone:(us.toList.all Value.oneCell'&&vs.toList.all Value.oneCell') with
  |false=>rw[hone] at h;cases h
  |true =>
   rw[hone] at h;cases h;rw[Bool.and_eq_true] at hone;exact⟨us,vs,hT.v_eq,TL.ones hone.1,TL.ones hone.2⟩
 ·cases h
  obtain⟨us,vs,rfl,h1,h2⟩:=hT;exact⟨us,vs,rfl,h1.cells,h2.cells⟩
 ·cases h
theorem call_ok {c:Call} {x:Operand} {o:Oper} {az as':List Ans} {p:List Prop} {e:Eff} (hop:o.op=.call c) (hc:c.callee=.value x) (hr:RegsOk g ok w s.regs a.tmps) (ho:OwnOk g ok w s.own) (h:evOp L s az o=some (p,e,as')) (hp:allP p) :
  ∃f us,(execOp a.eval o).run P w=(callFunc f us).run P w∧((∃xs,e=.call f xs∧TA ok w xs us)∨(∃xs,e=.callP f xs∧TA (fun k=>ok k∨some k∈g) w xs us)∨∃xs hs fl r out,e=.hand f xs hs fl r out∧TB g ok w xs us∧distN hs=true∧(∀i∈hs,∃cs,s.at i=some cs)∧hs.length≤out.length∧∀cs∈handPl s.own hs fl++outPl out fl,∀c∈cs,c.noptr=true):=by
 simp only[evOp,hop,hc] at h;split at h
 ·rename_i z hx
  split at h
  ·rename_i f fi ca xs hf hxs
   obtain⟨us,vs,e1,hU,hV⟩:=fnOf_at hf (show TC g ok w _ _ from get_at hx hr);have hA:=(TB.cells hU).append ((argv_at hxs hr).append (TB.cells hV));refine⟨f,us++(c.args.map a.eval++vs),?_,?_⟩
   ·unfold execOp
    simp only[hop,resolve,hc,e1,Deferred.ofValue,Sem.run_bind,Sem.run_pure,Result.andThen_ok,invoke,Array.append_assoc]
   ·have hA':TB g ok w (fi.map .one++(xs++ca.map .one)) (us++(c.args.map a.eval++vs)):=by simpa using hA
    generalize fi.map AG.one++(xs++ca.map AG.one)=ys at h hA';unfold evCall at h;split at h
    ·rename_i hs fl r out as2
     cases hb:(distN hs&&(hs.all (fun i=>(s.at i).isSome)&&Nat.ble hs.length out.length)) with
     |false=>rw[hb] at h;cases h
     |true =>
      rw[hb] at h;cases h;simp only[Bool.and_eq_true] at hb;refine .inr (.inr ⟨_,_,_,_,_,rfl,hA',hb.1,fun i hi=>?_,Nat.le_of_ble_eq_true hb.2.2,hp.1⟩)
      have:=List.all_eq_true.1 hb.2.1 i hi;exact Option.isSome_iff_exists.1 this
    ·cases hn:ys.all AG.noptr with
     |true=>rw[hn] at h;cases h;exact .inl ⟨_,rfl,hA'.noptr hn⟩
     |false =>
      rw[hn] at h;simp only[cond_false] at h;split at h
      ·rename_i zs ps as2 h2
       cases h;have h3:=peekA_at ho (us:=(us++(c.args.map a.eval++vs)).toList) h2 hp (by rw[Array.toArray_toList];exact hA');rw[Array.toArray_toList] at h3;exact .inr (.inl ⟨_,rfl,h3⟩)
      ·cases h
  ·cases h
 ·cases h
theorem TL.append {cs ds:List AC} {us vs:List Value} (h1:TL g ok w cs us) (h2:TL g ok w ds vs):TL g ok w (cs++ds) (us++vs):=by
 refine⟨by simp[h1.1,h2.1],fun j c u hc hu=>?_⟩
 by_cases hj:j<cs.length
 ·rw[List.getElem?_append_left hj] at hc
  rw[List.getElem?_append_left (by rw[h1.1];exact hj)] at hu;exact h1.2 j c u hc hu
 ·rw[List.getElem?_append_right (by omega)] at hc
  rw[List.getElem?_append_right (by rw[h1.1];omega),h1.1] at hu;exact h2.2 _ c u hc hu
theorem TL.take_at {cs:List AC} {us:List Value} (n:Nat) (hT:TL g ok w cs us):TL g ok w (cs.take n) (us.take n):=by
 refine⟨by simp[hT.1],fun j c u hc hu=>?_⟩
 rw[List.getElem?_take] at hc hu;split at hc
 ·rename_i hj
  rw[if_pos hj] at hu;exact hT.2 j c u hc hu
 ·cases hc
theorem TL.over_at {cs new:List AC} {us vs:List Value} (o:Nat) (h1:TL g ok w cs us) (h2:TL g ok w new vs):TL g ok w (over cs o new) (us.take o++(vs++us.drop (o+vs.length))):=by
 unfold over;rw[h2.1];exact (h1.take_at o).append (h2.append (h1.drop_at _))
theorem foldl_over:∀(vs:List Value) (k off:Nat) (cells:Array Value),off+k+vs.length≤cells.size →
  ((vs.zipIdx k).foldl (fun (cs:Array Value) x=>cs.setIfInBounds (off+x.2) x.1) cells).toList=cells.toList.take (off+k)++(vs++cells.toList.drop (off+k+vs.length))
 |[],k,off,cells,_=>by simp
 |v::r,k,off,cells,h=>by
  simp only[List.zipIdx_cons,List.foldl_cons];rw[foldl_over r (k+1) off _ (by simp at h ⊢;omega)];have hlt:off+k<cells.toList.length:=by simp at h ⊢;omega
  rw[Array.toList_setIfInBounds,show off+(k+1)=off+k+1 by omega,List.take_set,List.drop_set,if_pos (by omega)];rw[List.take_succ_eq_append_getElem hlt,List.set_append_right _ _ (by simp;omega)];simp only[List.length_take,List.length_cons,Nat.min_eq_left (Nat.le_of_lt hlt),Nat.sub_self,List.set_cons_zero,List.append_assoc,List.singleton_append,List.cons_append,List.nil_append];rw[show off+k+1+r.length=off+k+(r.length+1) by omega]
theorem zip_over {v:Value} {cells:Array Value} {off:Nat} (h:off+v.cells.size≤cells.size):(v.cells.zipIdx.foldl (fun (cs:Array Value) (x:Value×Nat)=>cs.setIfInBounds (off+x.2) x.1) cells).toList=cells.toList.take off++(v.cells.toList++cells.toList.drop (off+v.cells.toList.length)):=by
 have:=foldl_over v.cells.toList 0 off cells (by simpa using h);rw[←Array.foldl_toList,Array.toList_zipIdx];simpa using this
theorem fill_at {pl:Nat→Option (Nat×Nat)} (hr:RegsOk g ok w s.regs a.tmps):∀{l:List (Nat×Operand)} {ps:List (Nat×AG)} {cs ds:List AC} {cells:Array Value},parts s l=some ps→fillG pl cs ps=some ds→TL g ok w cs cells.toList →
  ∃cells',Instr.fill pl cells (l.map fun x=>(x.1,a.eval x.2))=some cells'∧TL g ok w ds cells'.toList
 |[],ps,cs,ds,cells,hps,hf,hT=>by
  cases hps;cases hf;exact⟨cells,rfl,hT⟩
 | (i,x)::r,ps,cs,ds,cells,hps,hf,hT=>by
   unfold parts at hps;split at hps
   ·rename_i y ys hy hys
    cases hps;unfold fillG at hf;split at hf
    ·cases hf
    ·rename_i o n hpl
     cases hb:(Nat.beq y.cells.length n&&Nat.ble (o+n) cs.length) with
     |false=>rw[hb] at hf;cases hf
     |true =>
      rw[hb] at hf;rw[Bool.and_eq_true] at hb;have h1:=Nat.eq_of_beq_eq_true hb.1;have h2:=Nat.le_of_ble_eq_true hb.2;have hc:=(get_at hy hr).cells;have h3:(a.eval x).cells.size=n:=by have:=hc.1;simpa[h1] using this
      have h4:o+(a.eval x).cells.size≤cells.size:=by have:=hT.1;simp at this;omega
      have hT':=hT.over_at o hc;rw[←zip_over h4] at hT';obtain⟨cells',hrun,hT''⟩:=fill_at hr hys hf hT';refine⟨cells',?_,hT''⟩
      simp only[List.map_cons,Instr.fill,hpl];rw[if_neg (by simp;omega)];exact hrun
   ·cases hps
theorem places_at (hL:LaysOk P L):∀{fs:List Field} {pl:List (Nat×Nat)},placesOf L (fs.map fun f=>(f.offset,f.type))=some pl→fs.mapM (fun f=>(P.info? f.type).map fun i=>(f.offset,i.size))=some pl
 |[],pl,h=>by cases h;rfl
 |f::r,pl,h=>by
  simp only[List.map_cons,placesOf] at h;split at h
  ·rename_i y ys hy hys
   cases h;obtain⟨i,hi,hs,_⟩:=(hL _ _ hy).info;simp[List.mapM_cons,hi,places_at hL hys,hs]
  ·cases h
theorem build_ok {t:Nat} {prs:Array (Nat×Operand)} {o:Oper} {az as':List Ans} {p:List Prop} {e:Eff} (hL:LaysOk P L) (hop:o.op=.build t prs) (hr:RegsOk g ok w s.regs a.tmps) (h:evOp L s az o=some (p,e,as')):∃v,e=.val v∧Yes P g ok w a o v:=by
 simp only[evOp,hop] at h;split at h
 ·rename_i sz z fl hl
  split at h
  ·rename_i ps pl hps hpl
   split at h
   ·rename_i cs hf
    cases h;have hy:=hL _ _ hl;obtain⟨i,hi,hsz,zz,hz,he⟩:=hy.info;obtain⟨fs,hu,hfl⟩:=under_st hy rfl;rw[←hfl] at hpl;have hones:TL g ok w z zz.cells.toList:=by rw[he];exact TL_zero hy.ones
    obtain⟨cells',hrun,hT⟩:=fill_at hr hps hf hones;refine⟨_,rfl,.agg cells',?_,⟨cells',rfl,hT⟩⟩
    unfold execOp;simp only[hop];have hb:P.built t (prs.map fun x=>(x.1,a.eval x.2)).toList=some cells':=by
     unfold Program.built;rw[hi,hu];simp only[hz,places_at hL hpl];rw[Array.toList_map];simpa using hrun
    simp[run_build w t _ cells' hb]
   ·cases h
  ·cases h
 ·cases h
def YesNew (P:Program) (g:List (Option Nat)) (ok:Nat→Prop) (w:World) (a:Act) (o:Oper) (v:AV):Prop:=∃u ob,(execOp a.eval o).run P w=.ok (.value u) (w.alloc ob)∧TV g ok (w.alloc ob) v u
theorem chunk_get {α:Type} {f:Nat→List α→List (List α)} (h0:∀l,f 0 l=[]) {k:Nat} (hs:∀n l,f (n+1) l=l.take k::f n (l.drop k)):∀(n i:Nat) (l:List α),(f n l)[i]?=if i<n then some ((l.drop (i*k)).take k) else none
 |0,i,l=>by simp[h0]
 |n+1,0,l=>by simp[hs]
 |n+1,i+1,l=>by
  rw[hs,List.getElem?_cons_succ,chunk_get h0 hs n i,List.drop_drop];by_cases h:i<n
  ·rw[if_pos h,if_pos (by omega),Nat.add_mul,Nat.one_mul,Nat.add_comm]
  ·rw[if_neg h,if_neg (by omega)]
theorem chunk_length:∀(k n:Nat) (cs:List AC),(chunk k n cs).length=n
 |_,0,_=>rfl
 |k,n+1,cs=>by simp[chunk,chunk_length k n]
theorem reps_get (z:List AC):∀(n j:Nat),0<z.length→(reps z n)[j]?=if j<n*z.length then z[j%z.length]? else none
 |0,j,_=>by simp[reps]
 |n+1,j,h=>by
  unfold reps;by_cases hj:j<z.length
  ·rw[List.getElem?_append_left hj,if_pos (by rw[Nat.add_mul];omega),Nat.mod_eq_of_lt hj]
  ·rw[List.getElem?_append_right (by omega),reps_get z n _ h]
   have:j-z.length<n*z.length↔j<(n+1)*z.length:=by rw[Nat.add_mul];omega
   by_cases h2:j-z.length<n*z.length
   ·rw[if_pos h2,if_pos (this.1 h2)]
    rw[Nat.mod_eq_sub_mod (by omega:j≥z.length)]
   ·rw[if_neg h2,if_neg (fun h3=>h2 (this.2 h3))]
theorem reps_length (z:List AC):∀n:Nat,(reps z n).length=n*z.length
 |0=>by simp[reps]
 |n+1=>by simp[reps,reps_length z n,Nat.add_mul,Nat.add_comm]
theorem over_length {cs new:List AC} {o:Nat} (h:o+new.length≤cs.length):(over cs o new).length=cs.length:=by
 unfold over;simp
 omega
theorem fillG_length {pl:Nat→Option (Nat×Nat)}:∀{ps:List (Nat×AG)} {cs ds:List AC},fillG pl cs ps=some ds→ds.length=cs.length
 |[],cs,ds,h=>by cases h;rfl
 | (i,x)::r,cs,ds,h=>by
   unfold fillG at h;split at h
   ·cases h
   ·rename_i o n hpl
    cases hb:(Nat.beq x.cells.length n&&Nat.ble (o+n) cs.length) with
    |false=>rw[hb] at h;cases h
    |true =>
     rw[hb] at h;rw[Bool.and_eq_true] at hb;have h1:=Nat.eq_of_beq_eq_true hb.1;have h2:=Nat.le_of_ble_eq_true hb.2;exact (fillG_length h).trans (over_length (by omega))
theorem alloc_size (w:World) (o:Obj):(w.alloc o).heap.size=w.heap.size+1:=Array.size_push _
theorem alloc_self (w:World) (o:Obj):(w.alloc o).heap[w.heap.size]?=some o:=by show (w.heap.push o)[w.heap.size]?=_;simp
theorem alloc_old {w:World} (o:Obj) {k:Nat} (h:k<w.heap.size):(w.alloc o).heap[k]?=w.heap[k]?:=by show (w.heap.push o)[k]?=_;rw[Array.getElem?_push,if_neg (Nat.ne_of_lt h)]
theorem row_new {k n:Nat} {cs:List AC} {cells:Array Value} {el:Nat} (hnew:∀k,w.heap.size≤k→ok k) (hT:TL g ok w cs cells.toList) (hnp:cs.all AC.noptr=true) (hl:cs.length=n*k) (hn:n≤9223372036854775807) :
  TC g ok (w.alloc (.cells cells el (0,0))) (.row k n (chunk k n cs)) (.slice (some ⟨w.heap.size,0,none⟩) n n):=by
 have hcl:cells.toList.length=n*k:=hT.1.trans hl;show Foot (fun W=>Rd W (.row k n (chunk k n cs)) _) (w.alloc (.cells cells el (0,0))) ok
 refine foot_mk fun W' hW'=>?_
 have hblk:W'.heap[w.heap.size]?=some (.cells cells el (0,0)):=(hW' w.heap.size (hnew _ (Nat.le_refl _)) (by rw[alloc_size];omega)).trans (alloc_self _ _);have hold:∀b,ok b→b<w.heap.size→W'.heap[b]?=w.heap[b]?:=fun b hb hlt=>(hW' b hb (by rw[alloc_size];omega)).trans (alloc_old _ hlt)
 have hch:∀i:Nat,(chunk k n cs)[i]?=if i<n then some ((cs.drop (i*k)).take k) else none:=fun i=>chunk_get (f:=chunk k) (fun _=>rfl) (fun _ _=>rfl) n i cs
 have hik:∀i,i<n→i*k+k≤n*k:=fun i hi=>by
  have:=Nat.mul_le_mul_right k (show i+1≤n from hi);rw[Nat.add_mul,Nat.one_mul] at this;exact this
 have hlen:=chunk_length k n cs;have key:=Rd.row (W:=W') k n (chunk k n cs) ⟨w.heap.size,0,none⟩ n ((List.range n).map fun i=>(cells.toList.drop (i*k)).take k) hlen (by omega) (by omega) (by simp) ?_ ?_ ?_
 ·exact key
 ·intro i us hi
  rw[List.getElem?_map] at hi;obtain⟨i',hi',rfl⟩:=Option.map_eq_some_iff.1 hi;obtain⟨hin,rfl⟩:i<n∧i=i':=by
   have h1:=List.getElem?_eq_some_iff.1 hi';obtain⟨h2,h3⟩:=h1;simp at h2 h3;exact⟨h2,h3⟩
  have:=hik i hin;refine⟨by simp only[List.length_take,List.length_drop];omega,fun j u hu=>?_⟩
  rw[List.getElem?_take] at hu;split at hu
  ·rw[List.getElem?_drop] at hu
   rw[add_off,Nat.zero_add];simp[World.cell?,hblk];simpa using hu
  ·cases hu
 ·intro i ds hi
  rw[hch] at hi;split at hi
  ·rename_i hin
   cases hi;have:=hik i hin;simp only[List.length_take,List.length_drop];omega
  ·cases hi
 ·intro i ds us j c u hi hu hc huj
  rw[hch] at hi;split at hi
  ·rename_i hin
   cases hi;rw[List.getElem?_map,List.getElem?_range hin] at hu;cases hu;rw[List.getElem?_take] at hc huj;split at hc
   ·rename_i hj
    rw[if_pos hj] at huj;rw[List.getElem?_drop] at hc huj;exact (hT.2 _ c u hc huj).rd (List.all_eq_true.1 hnp c (List.mem_of_getElem? hc)) hold
   ·cases hc
  ·cases hi
def Made (P:Program) (g:List (Option Nat)) (ok:Nat→Prop) (w:World) (s:St) (a:Act) (o:Oper) (kill:Option Nat) (e k n:Nat) (cs:List AC):Prop :=
 (∀i,kill=some i→∃c,s.at i=some c)∧∃b cap cells w',(execOp a.eval o).run P w=.ok (.value (.slice (some ⟨b,0,none⟩) n cap)) w'∧n≤cap∧cap≤maxLen∧(0<n∨cap=0)∧Array.size cells=cap*k∧TL g ok w cs (cells.toList.take cs.length) ∧
  ((b=w.heap.size∧(w'=w.alloc (.cells cells e (0,0))∨w'=w.drew.alloc (.cells cells e (0,0)))) ∨
   ∃i old c0,kill=some i∧g[i]?=some (some b)∧s.at i=some c0∧w.heap[b]?=some (.cells old e (0,0))∧old.size=cells.size∧w'=w.setRow b cells)
theorem evElT_of {t e:Nat} {y:Lay} (hL:LaysOk P L) (h:evElT L t=some (e,y)):P.underlying t=some (.slice e)∧LayOk P e y∧0<y.size:=by
 unfold evElT at h;split at h
 ·rename_i sz z e' hl
  split at h
  ·rename_i y' hy
   cases hb:Nat.blt 0 y'.size with
   |false=>rw[hb] at h;cases h
   |true =>
    rw[hb] at h;cases h;exact⟨under_sl (hL _ _ hl) rfl,hL _ _ hy,Nat.le_of_ble_eq_true hb⟩
  ·cases h
 ·cases h
theorem zeros_at {y:Lay} {t:Nat} {i:TypeInfo} {z:Value} (hy:LayOk P t y) (he:z.cells.toList=y.zero.map AC.zval) (hsz:i.size=y.size) (hys:0<y.size) (n:Nat):TL g ok w (reps y.zero n) ((Array.range (n*i.size)).map (z.cells[· % z.cells.size]!)).toList:=by
 have hzs:z.cells.size=y.size:=by rw[←Array.length_toList,he,List.length_map,hy.size]
 refine⟨by simp[reps_length,hy.size,hsz],fun j c u hc hu=>?_⟩
 rw[reps_get _ _ _ (by simp[hy.size];exact hys)] at hc;split at hc
 ·rename_i hj
  simp only[List.length_map,hy.size] at hc hj;have hr2:(List.range (n*y.size))[j]?=some j:=List.getElem?_range hj;rw[hsz] at hu;simp only[Array.toList_map,List.getElem?_map,Array.toList_range,hr2,Option.map_some,Option.some.injEq] at hu;have hm:j%y.size<z.cells.size:=by rw[hzs];exact Nat.mod_lt _ hys
  rw[hzs,getElem!_pos z.cells (j%y.size) hm] at hu;have h9:(y.zero.map AC.zval)[j%y.size]?=some u:=by
   rw[←he,List.getElem?_eq_getElem (by simpa using hm)];simpa using hu
  rw[List.getElem?_map,hc] at h9;cases h9;exact TC_zero (hy.ones c (List.mem_of_getElem? hc))
 ·cases hc
theorem run_lit (w:World) (t e:TypeId) (len:Nat) (parts:Array (Nat×Value)) (cells:Array Value) (ie:TypeInfo) (z:Value)
  (hu:P.underlying t=some (.slice e)) (hie:P.info? e=some ie) (hz:ie.zero=some z) (hsmall:¬len*ie.size>2 ^ 24)
  (h:Instr.fill (fun i=>some (i*ie.size,ie.size)) ((Array.range (len*ie.size)).map (z.cells[· % z.cells.size]!)) parts.toList=some cells) :
  (Instr.buildSlice t len parts).run P w=.ok (.slice (some ⟨w.heap.size,0,none⟩) len len) (w.alloc (.cells cells e)):=by
 by_cases hpos:len*ie.size=0
 ·rw[hpos] at h
  have h':Instr.fill (fun i=>some (i*ie.size,ie.size)) #[] parts.toList=some cells:=by
   rw[←h];congr 1
   simp
  have e0:∀f:Nat→Value,(Array.range 0).map f=#[]:=fun f=>by simp
  simp only[Instr.buildSlice,run_underlying hu,sizeOf,typeInfo,hie,hpos,Sem.run_bind,Sem.run_pure,Result.andThen_ok];simp[hie,hpos,e0,h',newRow]
 ·exact run_buildSlice w t e len parts cells ie z hu hie hz hsmall hpos h
theorem buildSlice_ok {t n:Nat} {prs:Array (Nat×Operand)} {o:Oper} {az as':List Ans} {p:List Prop} {e:Eff} (hL:LaysOk P L) (hop:o.op=.buildSlice t n prs) (hr:RegsOk g ok w s.regs a.tmps) (hnew:∀k,w.heap.size≤k→ok k) (h:evOp L s az o=some (p,e,as')) :
  (∃v,e=.val v∧YesNew P g ok w a o v)∨∃kill e' k n cs,e=.row kill e' k n cs∧Made P g ok w s a o kill e' k n cs:=by
 simp only[evOp,hop] at h;split at h
 ·rename_i el y hA
  split at h
  ·rename_i ps hps
   unfold evLit at h;cases hb:Nat.ble (n*y.size) 16777216 with
   |false=>rw[hb] at h;cases h
   |true =>
    rw[hb] at h;simp only[cond_true] at h;have hle:=Nat.le_of_ble_eq_true hb;obtain⟨hu,hy,hys⟩:=evElT_of hL hA;obtain⟨i,hi,hsz,z,hz,he⟩:=hy.info;have hn:n≤n*y.size:=Nat.le_mul_of_pos_right n hys;split at h
    ·rename_i cs hf
     have hzero:=zeros_at (g:=g) (ok:=ok) (w:=w) hy he hsz hys n;obtain⟨cells',hrun,hT⟩:=fill_at hr hps hf hzero;have hb2:=run_lit (P:=P) w t el n (prs.map fun x=>(x.1,a.eval x.2)) cells' i z hu hi hz (by rw[hsz];omega) (by rw[hsz];rw[hsz] at hrun;rw[Array.toList_map];simpa using hrun);have hsize:cs.length=n*y.size:=by rw[fillG_length hf,reps_length,hy.size]
     have hex:(execOp a.eval o).run P w=.ok (.value (.slice (some ⟨w.heap.size,0,none⟩) n n)) (w.alloc (.cells cells' el (0,0))):=by
      unfold execOp;simp only[hop];simp[hb2]
     split at h
     ·cases h
      refine .inr ⟨_,_,_,_,_,rfl,(fun i hi=>by cases hi),w.heap.size,n,cells',_,hex,Nat.le_refl _,by simp only[maxLen];omega,by omega,?_,?_,.inl ⟨rfl,.inl rfl⟩⟩
      ·have:=hT.1;simpa[hsize] using this
      ·rw[List.take_of_length_le (by rw[hT.1];exact Nat.le_refl _)]
       exact hT
     ·cases hnp:(Nat.blt 0 (n*y.size)&&cs.all AC.noptr) with
      |false=>rw[hnp] at h;cases h
      |true =>
       rw[hnp] at h;cases h;rw[Bool.and_eq_true] at hnp;exact .inl ⟨_,rfl,.slice (some ⟨w.heap.size,0,none⟩) n n,.cells cells' el (0,0),hex,row_new hnew hT hnp.2 hsize (by omega)⟩
    ·cases h
  ·cases h
 ·cases h
theorem makeSlice_ok {t:Nat} {x z:Operand} {o:Oper} {az as':List Ans} {p:List Prop} {e:Eff} (hL:LaysOk P L) (hop:o.op=.makeSlice t x z) (hr:RegsOk g ok w s.regs a.tmps) (h:evOp L s az o=some (p,e,as')) (hp:allP p):∃kill e' k n cs,e=.row kill e' k n cs∧Made P g ok w s a o kill e' k n cs:=by
 have key:∀{el:Nat} {ly:Lay} {kx ky:IntKind} {n m:Int} {N:Nat},evElT L t=some (el,ly)→s.get x=some (.one (.v (.int kx n)))→s.get z=some (.one (.v (.int ky m)))→n=N∧m=N∧N≤134217728→Made P g ok w s a o none el ly.size N (reps ly.zero N):=by
  intro el ly kx ky n m N hA hx hz hp;obtain⟨rfl,rfl,hN⟩:=hp;obtain⟨hu,hy,hys⟩:=evElT_of hL hA;obtain⟨i,hi,hsz,zz,hzz,he⟩:=hy.info;obtain⟨i',hi',hby⟩:=hy.small;rw[hi] at hi';cases hi';have ex:=TC.v_eq (show TC g ok w _ _ from get_at hx hr);have ez:=TC.v_eq (show TC g ok w _ _ from get_at hz hr);have hb:(i.bytes:Int)*(N:Int)≤281474976710656:=by
   have:i.bytes*N≤1048576*134217728:=Nat.mul_le_mul hby hN;have h2:((i.bytes*N:Nat):Int)=(i.bytes:Int)*(N:Int):=by simp
   omega
  have hrun:=run_make (P:=P) w t el i zz hu hi hzz kx ky N N (by omega) (Int.le_refl _) hb (by omega);have hT:=zeros_at (g:=g) (ok:=ok) (w:=w) hy he hsz hys N;rw[hsz] at hrun hT;simp only[Int.toNat_natCast] at hrun;have hlen:(reps ly.zero N).length=N*ly.size:=by rw[reps_length,hy.size]
  refine⟨(fun i hi=>by cases hi),w.heap.size,N,madeCells zz.cells (N*ly.size),_,?_,Nat.le_refl _,by simp only[maxLen];omega,by omega,by simp[madeCells],?_,.inl ⟨rfl,.inl rfl⟩⟩
  ·unfold execOp
   simp[hop,ex,ez,hrun]
  ·rw[hlen,List.take_of_length_le (by simp[madeCells])]
   exact hT
 simp only[evOp,hop] at h;split at h
 ·rename_i hA hx hz
  cases h;obtain⟨⟨h1,h2,h3,rfl⟩,_⟩:=hp;exact⟨_,_,_,_,_,rfl,key hA hx hz ⟨h1,h2,h3⟩⟩
 ·rename_i hA hx hz
  cases h;exact⟨_,_,_,_,_,rfl,key hA hx hz hp.1⟩
 ·cases h
theorem flat_at {k:Nat}:∀(es:List (List AC)) (ad:Addr),(∀(i:Nat) cs,es[i]?=some cs→cs.length=k∧TC g ok w (.pe cs) (.pointer (some (ad.add (i*k))))) →
  ∃news:List Value,news.length=es.length*k∧TL g ok w es.flatten news∧∀(j:Nat) v,news[j]?=some v→w.cell? (ad.add j)=some v
 |[],ad,_=>⟨[],by simp,⟨rfl,fun j c u hc=>by cases hc⟩,fun j v hv=>by cases hv⟩
 |c::r,ad,h=>by
  obtain⟨hl,hp⟩:=h 0 c rfl;obtain⟨ad',us,he,hT,hc⟩:=pe_at hp;cases he;obtain⟨news,h1,h2,h3⟩:=flat_at r (ad.add k) (fun i cs hi=>by
   obtain⟨h4,h5⟩:=h (i+1) cs (by simpa using hi);refine⟨h4,?_⟩
   rw[add_add,show k+i*k=(i+1)*k by rw[Nat.add_mul];omega];exact h5)
  have hus:us.length=k:=hT.1.trans hl;refine⟨us++news,by simp[hus,h1,Nat.add_mul];omega,hT.append h2,fun j v hv=>?_⟩
  by_cases hj:j<k
  ·rw[List.getElem?_append_left (by omega)] at hv
   have:=hc j v hv
   rwa [add_add,Nat.zero_mul,Nat.zero_add] at this
  ·rw[List.getElem?_append_right (by omega),hus] at hv
   have:=h3 _ v hv
   rwa [add_add,show k+(j-k)=j by omega] at this
theorem run_append_none {P:Program} {w:World} (t ty e:TypeId) (i:TypeInfo) (hu:P.underlying t=some (.slice e)) (hi:P.info? e=some i) (A:Option Addr) (n cap:Nat) (hc:n≤cap) (A2:Option Addr) (cap2:Nat) :
  (Builtin.append_ #[t,t] ty #[.slice A n cap,.slice A2 0 cap2]).run P w=.ok (.slice A n cap) w:=by
 have h1:(Builtin.firstCells i.size 0 (.slice A2 0 cap2)).run P w=.ok #[] w:=by
  cases A2 with
  |none=>rfl
  |some a =>
   have:=run_firstCells_some (P:=P) w i.size 0 a 0 cap2 [] (by simp) (fun j u hj=>by cases hj);simpa using this
 cases A with
 |none=>simp[Builtin.append_,run_underlying hu,sizeOf,typeInfo,hi,Builtin.lenOf,hc,h1]
 |some a=>simp[Builtin.append_,run_underlying hu,sizeOf,typeInfo,hi,Builtin.lenOf,hc,h1,storeCells]
theorem append_ok {c:Call} {o:Oper} {az as':List Ans} {p:List Prop} {e:Eff} (hL:LaysOk P L) (hop:o.op=.call c) (hc:c.callee=.builtin .append) (hr:RegsOk g ok w s.regs a.tmps) (ho:OwnOk g ok w s.own) (h:evOp L s az o=some (p,e,as')) (hp:allP p):(∃v,e=.val v∧Yes P g ok w a o v)∨∃kill e' k n cs,e=.row kill e' k n cs∧Made P g ok w s a o kill e' k n cs:=by
 simp only[evOp,hop,hc] at h;split at h
 ·rename_i x y t t' hxs hts
  cases hb:Nat.beq t t' with
  |false=>rw[hb] at h;cases h
  |true =>
   rw[hb] at h;have htt:=Nat.eq_of_beq_eq_true hb;subst htt;simp only[cond_true] at h;split at h
   ·rename_i el ly cx cy hA hx hy
    unfold evApp at h;split at h
    ·rename_i k' m es
     split at h
     ·rename_i kill n cs ds as2 hto
      cases hb2:Nat.beq k' ly.size with
      |false=>rw[hb2] at h;cases h
      |true =>
       rw[hb2] at h;have hk:=Nat.eq_of_beq_eq_true hb2;subst hk;cases h
       right
       obtain⟨⟨hlen,hm,hnm,rfl⟩,_⟩:=hp;obtain⟨hu,hly,hys⟩:=evElT_of hL hA;obtain⟨i,hi,hsz,zz,hzz,he⟩:=hly.info;obtain⟨i',hi',hby⟩:=hly.small;rw[hi] at hi';cases hi';have hargs:c.args=#[x,y]:=by apply Array.ext';exact hxs
       have htys:c.argTypes=#[t,t]:=by apply Array.ext';exact hts
       obtain⟨A,cap2,hye,_,hes,hel⟩:=row_at (show TC g ok w _ _ from get_at hy hr);obtain⟨ad,rfl⟩:∃ad,A=some ad:=by
        obtain⟨ad,h1,_⟩:=hel 0 es[0] (List.getElem?_eq_getElem (by omega));exact⟨ad,h1⟩
       obtain⟨news,hnl,hnT,hnc⟩:=flat_at (g:=g) (ok:=ok) (w:=w) (k:=ly.size) es ad (fun i cs hi=>by
        obtain⟨ad',h1,h2,h3⟩:=hel i cs hi;cases h1;exact⟨h2,h3⟩)
       rw[hes] at hnl;have hbytes:(n+m)*i.bytes≤140737488355328:=by
        have:(n+m)*i.bytes≤134217728*1048576:=Nat.mul_le_mul hnm hby;omega
       have run:∀{u:Value} {v:Value} {w':World},a.eval x=u→(Builtin.append_ #[t,t] o.type #[u,.slice (some ad) m cap2]).run P w=.ok v w'→(execOp a.eval o).run P w=.ok (.value v) w':=by
        intro u v w' hxe hrun;unfold execOp;simp only[hop,resolve,invoke,builtin,Sem.run_bind,Sem.run_pure,Result.andThen_ok,hargs,htys,hc,List.map_toArray,List.map_cons,List.map_nil,hxe,hye,hrun]
       have hzs:zz.cells.size=ly.size:=by rw[←Array.length_toList,he,List.length_map,hly.size]
       have hgc:=fun old (h9:old<n+m)=>grownCap_ge w (n+m) old el
       have hgm:=fun old=>grownCap_le_maxLen w (n+m) old el (by simp only[maxLen];omega)
       have lim:n+m≤9223372036854775807:=by omega
       have hkill:∀i,kill=some i→∃c,s.at i=some c:=fun i hi=>by
        subst hi;unfold appTo at hto;split at hto
        ·cases hto
        ·rename_i i1 e1 k1 n1
         cases hb3:(Nat.beq e1 el&&Nat.beq k1 ly.size) with
         |false=>rw[hb3] at hto;cases hto
         |true =>
          rw[hb3] at hto;simp only[cond_true] at hto;split at hto
          ·rename_i cs0 hown
           cases hto;exact⟨_,hown⟩
          ·cases hto
        ·cases hto
       -- a block made anew
       have anew:∀(old:Nat) (olds:List Value) {v:Value},TL g ok w cs olds→(execOp a.eval o).run P w=.ok (.value (.slice (some ⟨w.heap.size,0,none⟩) (n+m) (grownCap w (n+m) old el))) (w.drew.alloc (.cells (olds.toArray++news.toArray++Builtin.zeroCells zz.cells (grownCap w (n+m) old el-(n+m))) el)) →
         Made P g ok w s a o kill el ly.size (n+m) (cs++es.flatten):=by
        intro old olds v hT hrun;have h1:=hT.append hnT;have hge:=grownCap_ge w (n+m) old el;refine⟨hkill,_,_,_,_,hrun,hge,hgm old,.inl (by omega),?_,?_,.inl ⟨rfl,.inr rfl⟩⟩
        ·have:=hT.1
         simp only[Array.size_append,List.size_toArray,size_zeroCells,hzs,hnl,this,hlen,←Nat.add_mul];congr 1
         omega
        ·have h2:(olds.toArray++news.toArray++Builtin.zeroCells zz.cells (grownCap w (n+m) old el-(n+m))).toList.take (cs++es.flatten).length=olds++news:=by
          rw[←h1.1,Array.toList_append,Array.toList_append];exact List.take_left
         rw[h2];exact h1
       unfold appTo at hto;split at hto
       ·cases hto
        have hxe:=TC.v_eq (show TC g ok w _ _ from get_at hx hr);have hcs:TL g ok w ([]:List AC) []:=⟨rfl,fun j c u hc=>by cases hc⟩;refine⟨_,_,_,_,_,rfl,anew 0 [] (v:=.slice none 0 0) hcs ?_⟩
        have:=run_append_nil (P:=P) w t o.type el i zz hu hi hzz ad m cap2 news (by rw[hsz];exact hnl) hnc hm (by omega) (by have:=hbytes;simp only[Nat.zero_add] at this;omega);have h3:=run hxe this;simpa using h3
       ·rename_i i1 e1 k1 n1
        cases hb3:(Nat.beq e1 el&&Nat.beq k1 ly.size) with
        |false=>rw[hb3] at hto;cases hto
        |true =>
         rw[hb3] at hto;rw[Bool.and_eq_true] at hb3;have q1:=Nat.eq_of_beq_eq_true hb3.1;have q2:=Nat.eq_of_beq_eq_true hb3.2;subst q1;subst q2;simp only[cond_true] at hto;split at hto
         ·rename_i cs0 hown
          cases hto;rcases (show SlOk g w i1 e1 ly.size n _ from get_at hx hr) with⟨rfl,A1,hxe⟩|⟨h0,b,cap,cur,hgb,hxe,h1,h2,h3,h4⟩
          ·have hnil:cs=[]:=List.eq_nil_of_length_eq_zero (by simpa using hlen)
           subst hnil;have hcs:TL g ok w ([]:List AC) []:=⟨rfl,fun j c u hc=>by cases hc⟩;refine⟨_,_,_,_,_,rfl,anew 0 [] (v:=.slice none 0 0) hcs ?_⟩
           cases A1 with
           |none =>
            have:=run_append_nil (P:=P) w t o.type e1 i zz hu hi hzz ad m cap2 news (by rw[hsz];exact hnl) hnc hm (by omega) (by have:=hbytes;simp only[Nat.zero_add] at this;omega);have h3:=run hxe this;simpa using h3
           |some A1 =>
            have:=run_append_grow (P:=P) w t o.type e1 i zz hu hi hzz A1 0 0 [] (by simp) (fun j v hv=>by cases hv) ad m cap2 news (by rw[hsz];exact hnl) hnc (by omega) (by omega) (growslice_fits (by omega) hbytes);exact run hxe this
          ·obtain⟨cells,e2,hw,hT⟩:=ho.at hown hgb
           rw[h3] at hw;cases hw;have hpos:0<n*ly.size:=Nat.mul_pos h0 hys;have hcl:n*ly.size≤cur.size:=by rw[h4];exact Nat.mul_le_mul_right _ h1
           by_cases hroom:n+m≤cap
           ·have hfit:n*i.size+news.length≤cur.size:=by rw[hsz,hnl,h4,←Nat.add_mul];exact Nat.mul_le_mul_right _ hroom
            have hrun:=run hxe (run_append_room (P:=P) w t o.type e1 i hu hi b n cap cur h3 ad m cap2 news (by rw[hsz];exact hnl) hnc hnT.one hroom hfit);have hsame:(cur.toList.take (n*i.size)++news++cur.toList.drop (n*i.size+news.length)).toArray.size=cur.size:=by
             simp
             omega
            refine⟨_,_,_,_,_,rfl,hkill,b,cap,_,_,hrun,hroom,h2,.inl (by omega),by rw[hsame,h4],?_,.inr ⟨i1,cur,cs,rfl,hgb,hown,h3,hsame.symm,rfl⟩⟩
            have hT1:=hT.append hnT;rw[hlen] at hT1;have h5:(cur.toList.take (n*i.size)++news++cur.toList.drop (n*i.size+news.length)).take (cs++es.flatten).length=cur.toList.take (n*ly.size)++news:=by
             rw[←hT1.1,hsz];exact List.take_left
            rw[show (cur.toList.take (n*i.size)++news++cur.toList.drop (n*i.size+news.length)).toArray.toList=cur.toList.take (n*i.size)++news++cur.toList.drop (n*i.size+news.length) from rfl,h5];exact hT1
           ·rw[hlen] at hT
            refine⟨_,_,_,_,_,rfl,anew cap (cur.toList.take (n*ly.size)) (v:=.slice none 0 0) hT ?_⟩
            exact run hxe (run_append_grow (P:=P) w t o.type e1 i zz hu hi hzz ⟨b,0,none⟩ n cap (cur.toList.take (n*ly.size)) (by rw[hsz];simp;omega) (fun j v hv=>by
             have h9:(((cur.toList.take (n*ly.size)).drop 0).take (n*ly.size))[j]?=some v:=by
              rw[List.drop_zero,List.take_take,Nat.min_self];exact hv
             exact take_cell h3 h9) ad m cap2 news (by rw[hsz];exact hnl) hnc (by omega) (by omega) (growslice_fits (by omega) hbytes))
         ·cases hto
       ·cases hto
     ·rename_i p0 as2 hto
      cases h;obtain⟨hm0,_⟩:=hp;obtain⟨hu,hly,hys⟩:=evElT_of hL hA;obtain⟨i,hi,_⟩:=hly.info;have hargs:c.args=#[x,y]:=by apply Array.ext';exact hxs
      have htys:c.argTypes=#[t,t]:=by apply Array.ext';exact hts
      have hTx:TC g ok w cx (a.eval x):=get_at hx hr;obtain⟨A2,cap2,hye,_⟩:=row_at (show TC g ok w _ _ from get_at hy hr);subst hm0;have hsl:∃A n cap,a.eval x=.slice A n cap∧n≤cap:=by
       unfold appTo at hto;split at hto
       ·exact⟨_,_,_,TC.v_eq hTx,Nat.le_refl _⟩
       ·rcases (show SlOk g w _ _ _ _ _ from hTx) with⟨h0,A,hA'⟩|⟨_,b,cap,cur,_,hA',hle,_⟩
        ·exact⟨A,0,0,hA',Nat.le_refl _⟩
        ·exact⟨_,_,_,hA',hle⟩
       ·cases hto
      obtain⟨A,n,cap,hxe,hle⟩:=hsl;have hrun:=run_append_none (P:=P) (w:=w) t o.type el i hu hi A n cap hle A2 cap2;rw[hxe] at hTx;refine .inl ⟨_,rfl,yes_of (u:=.slice A n cap) ?_ hTx⟩
      unfold execOp;simp only[hop,resolve,invoke,builtin,Sem.run_bind,Sem.run_pure,Result.andThen_ok,hargs,htys,hc,List.map_toArray,List.map_cons,List.map_nil,hxe,hye,hrun]
     ·cases h
    ·cases h
   ·cases h
 ·cases h
end
end
section
def FP (ok0:Nat→Prop) (n:Nat) (g:List (Option Nat)):Nat→Prop:=fun k=>(ok0 k∨n≤k)∧some k ∉ g
structure Base where
 w:World
 h:List (Option Nat)
 ds:List Deferred
def Base.X (b:Base) (k:Nat):Prop:=some k∈b.h
abbrev Base.heap (b:Base):=b.w.heap
structure Keep (b:Base) (w:World):Prop where
 os:w.os=b.w.os
 tape:w.tape=b.w.tape
 output:w.output=b.w.output
 size:b.w.heap.size≤w.heap.size
 block:∀k,k<b.w.heap.size→¬b.X k→w.heap[k]?=b.w.heap[k]?
 form:∀(k:Nat) cur e,b.w.heap[k]?=some (.cells cur e (0,0))→∃cur':Array Value,w.heap[k]?=some (.cells cur' e (0,0))∧cur'.size=cur.size
def Base.none (w:World):Base:=⟨w,[],[]⟩
theorem Keep.below {w w':World} (h:Keep (Base.none w) w'):Below w.heap.size w w':=⟨h.os,h.tape,h.output,h.size,fun k hk=>h.block k hk (fun hx=>by cases hx)⟩
theorem Keep.refl (b:Base):Keep b b.w:=⟨rfl,rfl,rfl,Nat.le_refl _,fun _ _ _=>rfl,fun k cur e h=>⟨cur,h,rfl⟩⟩
def Live (s:St) (i:Nat):Prop:=∃m cs,s.own[i]?=some (some (m,cs))
structure Ok (ok0:Nat→Prop) (w0:Base) (g:List (Option Nat)) (s:St) (a:Act) (w:World):Prop where
 regs:RegsOk g (FP ok0 w0.heap.size g) w s.regs a.tmps
 own:OwnOk g (FP ok0 w0.heap.size g) w s.own
 nodup:∀(i j:Nat) b,g[i]?=some (some b)→g[j]?=some (some b)→Live s i→Live s j→i=j
 base:∀b,some b∈g→(w0.heap.size≤b∨w0.X b)∧b<w.heap.size
 below:Keep w0 w
 defers:a.defers=w0.ds
 fixd:w0.h.length=s.fix∧∀i,i<s.fix→∃x,g[i]?=some x∧w0.h[i]?=some x
 mark:∀(i:Nat) b m cs,g[i]?=some (some b)→w0.X b→s.own[i]?=some (some (m,cs))→m=true
 has:∀(i:Nat) m c cs,s.own[i]?=some (some (m,c::cs))→∃b,g[i]?=some (some b)
def ConF (P:Program) (f:FuncId) (xs:List AG) (r:AV):Prop :=
 (∃fn,P.funcs[f]?=some fn∧(fn.name == "runtime.NumGoroutine")=false∧fn.body.isSome=true) ∧
 ∀(ok:Nat→Prop) (us:Array Value) (w:World),TA ok w xs us→Calls P f us w fun e w'=>∃u,e=.returned u∧TV [] (fun k=>ok k∨w.heap.size≤k) w' r u∧Below w.heap.size w w'
def ConX (P:Program) (f:FuncId) (xs:List AG) (r:AV):Prop :=
 ∀(ok:Nat→Prop) (us:Array Value) (w:World),TA ok w xs us→∃u w',(callFunc f us).run P w=.ok (.value u) w'∧TV [] (fun k=>ok k∨w.heap.size≤k) w' r u∧Below w.heap.size w w'
def Con (P:Program) (f:FuncId) (xs:List AG) (r:AV):Prop:=ConF P f xs r∨ConX P f xs r
def ConH (P:Program) (f:FuncId) (xs:List AG) (own:List (Option (Bool×List AC))) (r:AV) (out:List (Option (Bool×List AC))):Prop :=
 (∃fn,P.funcs[f]?=some fn∧(fn.name == "runtime.NumGoroutine")=false∧fn.body.isSome=true) ∧
 ∀(ok:Nat→Prop) (us:Array Value) (w:World) (g:List (Option Nat)),Ok ok ⟨w,g,[]⟩ g ⟨xs.map (fun x=>some (.g x)),own,own.length⟩ ⟨us,[]⟩ w →
  Calls P f us w fun e w'=>∃u g',e=.returned u∧Ok ok ⟨w,g,[]⟩ g' ⟨[some r],out,own.length⟩ ⟨#[u],[]⟩ w'
section
variable {P:Program} {L:Lays} {ok0:Nat→Prop} {w0:Base} {w w':World} {g:List (Option Nat)} {s:St} {a:Act}
theorem RegsOk.mv {g g':List (Option Nat)} {ok ok':Nat→Prop} {regs:List (Option AV)} {tm:Array Value} (m:Mv g g' ok ok' w w') (h:RegsOk g ok w regs tm):RegsOk g' ok' w' regs tm :=
 ⟨h.1,fun t x hx=>let ⟨u,hu,hT⟩:=h.2 t x hx;⟨u,hu,hT.mv m⟩⟩
theorem RegsOk.put {g:List (Option Nat)} {ok:Nat→Prop} (h:RegsOk g ok w s.regs a.tmps) {d:Option Tmp} {x:Option AV} {u:Value} (hx:∀v,x=some v→TV g ok w v u):RegsOk g ok w (s.put d x).regs (a.put d u).tmps:=by
 cases d with
 |none=>exact h
 |some t =>
  refine⟨by simp[St.put,Act.put,h.1],fun t' v hv=>?_⟩
  simp only[St.put,Act.put] at hv ⊢;rw[List.getElem?_set] at hv;rw[Array.getElem?_setIfInBounds];split at hv
  ·rename_i he
   subst he;split at hv
   ·rename_i hlt
    rw[if_pos rfl,if_pos (by rw[h.1];exact hlt)];exact⟨u,rfl,hx v (by simpa using hv)⟩
   ·cases hv
  ·rename_i hne
   rw[if_neg hne];exact h.2 t' v hv
theorem put_defers {d:Option Tmp} {u:Value}:(a.put d u).defers=a.defers:=by cases d<;>rfl
theorem put_own {d:Option Tmp} {x:Option AV}:(s.put d x).own=s.own:=by cases d<;>rfl
theorem put_fix {d:Option Tmp} {x:Option AV}:(s.put d x).fix=s.fix:=by cases d<;>rfl
theorem put_live {d:Option Tmp} {x:Option AV} {i:Nat}:Live (s.put d x) i↔Live s i:=by unfold Live;rw[put_own]
theorem Ok.notX (h:Ok ok0 w0 g s a w) {b:Nat} (hb:w.heap.size≤b):¬w0.X b:=fun hx=>by
 obtain⟨i,hi⟩:=List.mem_iff_getElem?.1 hx;have hlt:i<s.fix:=by rw[←h.fixd.1];exact (List.getElem?_eq_some_iff.1 hi).1
 obtain⟨b',h1,h2⟩:=h.fixd.2 i hlt;rw[hi] at h2;cases h2;have:=(h.base b (List.mem_of_getElem? h1)).2;omega
theorem Ok.new (h:Ok ok0 w0 g s a w):∀k,w.heap.size≤k→FP ok0 w0.heap.size g k:=fun k hk =>
 ⟨.inr (Nat.le_trans h.below.size hk),fun hg=>by have:=(h.base k hg).2;omega⟩
theorem Keep.more (h:Keep w0 w) (hb:Below w.heap.size w w'):Keep w0 w':=by
 refine⟨hb.os.trans h.os,hb.tape.trans h.tape,hb.output.trans h.output,Nat.le_trans h.size hb.size,fun k hk hx=>(hb.block k (Nat.lt_of_lt_of_le hk h.size)).trans (h.block k hk hx),fun k cur e hk=>?_⟩
 obtain⟨cur',h1,h2⟩:=h.form k cur e hk;exact⟨cur',(hb.block k (Array.getElem?_eq_some_iff.1 h1).1).trans h1,h2⟩
theorem form_of {b e b' e':Nat} {old new cur:Array Value} (hw:w.heap[b]?=some (.cells old e (0,0))) (hs:new.size=old.size) (h:w.heap[b']?=some (.cells cur e' (0,0))):∃cur':Array Value,(w.setRow b new).heap[b']?=some (.cells cur' e' (0,0))∧cur'.size=cur.size:=by
 by_cases hb:b'=b
 ·subst hb
  rw[hw] at h;cases h;exact⟨new,setRow_heap w b' old new e (0,0) hw,hs⟩
 ·exact⟨cur,(setRow_other w b b' new hb).trans h,rfl⟩
theorem Keep.row (h:Keep w0 w) {b e:Nat} {old new:Array Value} (hx:w0.heap.size≤b∨w0.X b) (hw:w.heap[b]?=some (.cells old e (0,0))) (hs:new.size=old.size):Keep w0 (w.setRow b new):=by
 refine⟨h.os,h.tape,h.output,by rw[size_setRow];exact h.size,fun k hk hxk=>(setRow_other w b k new (fun e=>?_)).trans (h.block k hk hxk),fun k cur e' hk=>?_⟩
 ·subst e
  rcases hx with hx|hx
  ·exact Nat.lt_irrefl _ (Nat.lt_of_lt_of_le hk hx)
  ·exact hxk hx
 ·obtain⟨cur',h1,h2⟩:=h.form k cur e' hk
  obtain⟨c2,h3,h4⟩:=form_of hw hs h1;exact⟨c2,h3,h4.trans h2⟩
theorem Ok.move (h:Ok ok0 w0 g s a w) (hb:Below w.heap.size w w'):Ok ok0 w0 g s a w':=by
 have m:Mv g g (FP ok0 w0.heap.size g) (FP ok0 w0.heap.size g) w w':=⟨fun _ _ h=>h,fun k _ hk=>hb.block k hk,fun k hk _=>hk,fun i b cur e _ hw=>⟨cur,(hb.block b (Array.getElem?_eq_some_iff.1 hw).1).trans hw,rfl⟩⟩;refine⟨h.regs.mv m,⟨h.own.1,fun i mk cs b hi hg=>?_⟩,h.nodup,fun b hm=>⟨(h.base b hm).1,Nat.lt_of_lt_of_le (h.base b hm).2 hb.size⟩,h.below.more hb,h.defers,h.fixd,h.mark,h.has⟩
 obtain⟨cells,e,hw,hT⟩:=h.own.2 i mk cs b hi hg;exact⟨cells,e,(hb.block b (h.base b (List.mem_of_getElem? hg)).2).trans hw,hT.mv m⟩
theorem Ok.val (h:Ok ok0 w0 g s a w) {d:Option Tmp} {x:Option AV} {u:Value} (hx:∀v,x=some v→TV g (FP ok0 w0.heap.size g) w v u):Ok ok0 w0 g (s.put d x) (a.put d u) w :=
 ⟨h.regs.put hx,by rw[put_own];exact h.own,fun i j b hi hj li lj=>h.nodup i j b hi hj (put_live.1 li) (put_live.1 lj),h.base,h.below,by rw[put_defers];exact h.defers,by rw[put_fix];exact h.fixd,by rw[put_own];exact h.mark,by rw[put_own];exact h.has⟩
theorem below_of_alloc (w:World) (o:Obj):Below w.heap.size w (w.alloc o):=⟨rfl,rfl,rfl,by rw[alloc_size];omega,fun k hk=>alloc_old o hk⟩
def letGo (kill:Option Nat) (own:List (Option (Bool×List AC))):List (Option (Bool×List AC)):=match kill with
 |none=>own
 |some i=>own.set i none
theorem letGo_len {kill:Option Nat} {own:List (Option (Bool×List AC))}:(letGo kill own).length=own.length:=by cases kill<;>simp[letGo]
theorem letGo_get {kill:Option Nat} {own:List (Option (Bool×List AC))} {i:Nat} {x:Bool×List AC} (h:(letGo kill own)[i]?=some (some x)):own[i]?=some (some x)∧kill≠some i:=by
 cases kill with
 |none=>exact⟨h,by simp⟩
 |some j =>
  simp only[letGo,List.getElem?_set] at h;split at h
  ·split at h<;>cases h
  ·rename_i hne
   exact⟨h,fun e=>hne (by injection e)⟩
theorem Ok.kill (h:Ok ok0 w0 g s a w) (kill:Option Nat):Ok ok0 w0 g { s with own:=letGo kill s.own } a w:=by
 have lv:∀i,Live { s with own:=letGo kill s.own } i→Live s i:=fun i ⟨m,cs,hi⟩=>⟨m,cs,(letGo_get hi).1⟩
 exact⟨h.regs,⟨letGo_len.trans h.own.1,fun i m cs b hi hg=>h.own.2 i m cs b (letGo_get hi).1 hg⟩,fun i j b hi hj li lj=>h.nodup i j b hi hj (lv i li) (lv j lj),h.base,h.below,h.defers,h.fixd,fun i b m cs hg hx hi=>h.mark i b m cs hg hx (letGo_get hi).1,fun i m c cs hi=>h.has i m c cs (letGo_get hi).1⟩
def Spot (g:List (Option Nat)) (s:St) (n:Nat):Prop:=n=s.own.length∨(g[n]?=some none∧s.fix≤n)
theorem Spot.le (h:Ok ok0 w0 g s a w) {n:Nat} (hn:Spot g s n):n≤g.length∧n≤s.own.length:=by
 rw[h.own.1];rcases hn with rfl|⟨hn,_⟩
 ·rw[h.own.1];exact⟨Nat.le_refl _,Nat.le_refl _⟩
 ·have:=Nat.le_of_lt (List.getElem?_eq_some_iff.1 hn).1
  exact⟨this,this⟩
theorem Spot.free (h:Ok ok0 w0 g s a w) {n:Nat} (hn:Spot g s n) (b:Nat):g[n]?≠some (some b):=fun e=>by
 rcases hn with rfl|⟨hn,_⟩
 ·rw[h.own.1,List.getElem?_eq_none (Nat.le_refl _)] at e;cases e
 ·rw[hn] at e;cases e
theorem Spot.fixed (h:Ok ok0 w0 g s a w) {n:Nat} (hn:Spot g s n) {i:Nat} (hi:i<s.fix):i≠n:=fun e=>by
 subst e;obtain⟨x,h1,_⟩:=h.fixd.2 i hi;rcases hn with rfl|⟨_,hn⟩
 ·rw[h.own.1,List.getElem?_eq_none (Nat.le_refl _)] at h1;cases h1
 ·omega
theorem fix_setAt (h:Ok ok0 w0 g s a w) {n:Nat} (hn:Spot g s n) (x:Option Nat):w0.h.length=s.fix∧∀i,i<s.fix→∃y,(setAt g n x)[i]?=some y∧w0.h[i]?=some y :=
 ⟨h.fixd.1,fun i hi=>by
   obtain⟨b,h1,h2⟩:=h.fixd.2 i hi;exact⟨b,by rw[setAt_get (hn.le h).1,if_neg (hn.fixed h hi)];exact h1,h2⟩⟩
theorem Ok.grow (h:Ok ok0 w0 g s a w) {n:Nat} (hn:Spot g s n) (mk:Bool) {cs:List AC} {cells:Array Value} {t:Nat} (hT:TL g (FP ok0 w0.heap.size g) w cs (cells.toList.take cs.length)) :
  Ok ok0 w0 (setAt g n (some w.heap.size)) { s with own:=setAt s.own n (some (mk,cs)) } a (w.alloc (.cells cells t (0,0))):=by
 obtain⟨hnl,hnl'⟩:=hn.le h;have hno:=hn.free h;have m:Mv g (setAt g n (some w.heap.size)) (FP ok0 w0.heap.size g) (FP ok0 w0.heap.size (setAt g n (some w.heap.size))) w (w.alloc (.cells cells t (0,0))):=by
  refine⟨fun i b hb=>?_,fun k _ hk=>alloc_old _ hk,fun k hk hlt=>⟨hk.1,fun hm=>?_⟩,fun i b cur e _ hw=>⟨cur,(alloc_old _ (Array.getElem?_eq_some_iff.1 hw).1).trans hw,rfl⟩⟩
  ·rw[setAt_get hnl,if_neg (fun e=>hno b (by rw[←e];exact hb))];exact hb
  ·rcases mem_setAt hnl hm with hm|hm
   ·exact hk.2 hm
   ·injection hm with hm;omega
 have old:∀i,i≠n→(Live { s with own:=setAt s.own n (some (mk,cs)) } i→Live s i):=fun i hi ⟨m',cs',hl⟩=>⟨m',cs',by simpa only[setAt_get hnl',if_neg hi] using hl⟩
 refine⟨h.regs.mv m,⟨setAt_len h.own.1,fun i mk' ds b hi hg=>?_⟩,fun i j b hi hj li lj=>?_,fun b hm=>?_,h.below.more (below_of_alloc w _),h.defers,fix_setAt h hn _,fun i b m' cs' hg hx hi=>?_,fun i m' c' cs' li=>?_⟩
 ·simp only at hi
  rw[setAt_get hnl'] at hi;rw[setAt_get hnl] at hg;by_cases e:i=n
  ·rw[if_pos e] at hi hg
   cases hi;cases hg;exact⟨cells,t,alloc_self _ _,hT.mv m⟩
  ·rw[if_neg e] at hi hg
   obtain⟨cells',e,hw,hT'⟩:=h.own.2 i mk' ds b hi hg;exact⟨cells',e,(alloc_old _ (h.base b (List.mem_of_getElem? hg)).2).trans hw,hT'.mv m⟩
 ·rw[setAt_get hnl] at hi hj
  by_cases ei:i=n<;>by_cases ej:j=n
  ·omega
  ·rw[if_pos ei] at hi
   rw[if_neg ej] at hj;cases hi;have:=(h.base _ (List.mem_of_getElem? hj)).2;omega
  ·rw[if_neg ei] at hi
   rw[if_pos ej] at hj;cases hj;have:=(h.base _ (List.mem_of_getElem? hi)).2;omega
  ·rw[if_neg ei] at hi
   rw[if_neg ej] at hj;exact h.nodup i j b hi hj (old i ei li) (old j ej lj)
 ·rcases mem_setAt hnl hm with hm|hm
  ·exact⟨(h.base b hm).1,by rw[alloc_size];have:=(h.base b hm).2;omega⟩
  ·injection hm with hm
   subst hm;rw[alloc_size];exact⟨.inl h.below.size,by omega⟩
 ·simp only at hi
  rw[setAt_get hnl'] at hi;rw[setAt_get hnl] at hg;by_cases e:i=n
  ·rw[if_pos e] at hg
   cases hg;exact absurd hx (h.notX (Nat.le_refl _))
  ·rw[if_neg e] at hi hg
   exact h.mark i b m' cs' hg hx hi
 ·by_cases e:i=n
  ·exact⟨w.heap.size,by rw[setAt_get hnl,if_pos e]⟩
  ·simp only[setAt_get hnl',if_neg e] at li
   obtain⟨b,hb⟩:=h.has i m' c' cs' li;exact⟨b,by rw[setAt_get hnl,if_neg e];exact hb⟩
theorem take_over {off:Nat} {us:List Value} {old cs:List AC} {cells:List Value} (h1:us.length=cs.length) (h2:off+cs.length≤old.length) (h3:(cells.take old.length).length=old.length) :
  (cells.take old.length).take off++(us++(cells.take old.length).drop (off+us.length))=(cells.take off++us++cells.drop (off+us.length)).take (over old off cs).length:=by
 rw[over_length h2,List.take_take,Nat.min_eq_left (by omega),List.append_assoc];have hlt:old.length≤cells.length:=by simp at h3;omega
 rw[List.take_append,List.take_append,List.length_take,Nat.min_eq_left (by omega),List.take_of_length_le (by simp;omega:(cells.take off).length≤old.length),List.take_of_length_le (by omega:us.length≤old.length-off),List.drop_take];rw[show old.length-(off+us.length)=old.length-off-us.length by omega]
theorem Ok.stored (h:Ok ok0 w0 g s a w) {i off b t:Nat} {old cs:List AC} {us:List Value} {cells:Array Value} (hgb:g[i]?=some (some b)) (hold:s.at i=some old) (hle:0<cs.length∧off+cs.length≤old.length) (hw:w.heap[b]?=some (.cells cells t (0,0)))
  (hT:TL g (FP ok0 w0.heap.size g) w old (cells.toList.take old.length)) (hc:TL g (FP ok0 w0.heap.size g) w cs us) :
  Ok ok0 w0 g { s with own:=s.own.set i (some (markOf s.own i,over old off cs)) } a (w.setRow b (cells.toList.take off++us++cells.toList.drop (off+us.length)).toArray):=by
 have hbm:=List.mem_of_getElem? hgb;obtain⟨mi,hoi⟩:=at_own hold;have hmk:markOf s.own i=mi:=by unfold markOf;rw[hoi]
 have hli:Live s i:=⟨mi,old,hoi⟩;have hol:old.length≤cells.toList.length:=by have:=hT.1;simp at this ⊢;omega
 have hsz:(cells.toList.take off++us++cells.toList.drop (off+us.length)).toArray.size=cells.size:=by
  have:=hc.1;simp at hol ⊢;omega
 have e:(cells.toList.take off++us++cells.toList.drop (off+us.length))=(cells.toList.take off++us++cells.toList.drop (off+us.length)).toArray.toList:=rfl;have hTn:=hT.over_at off hc;rw[take_over hc.1 hle.2 hT.1,e] at hTn;generalize (cells.toList.take off++us++cells.toList.drop (off+us.length)).toArray=new at hsz hTn;have hkeep:∀k,k≠b→(w.setRow b new).heap[k]?=w.heap[k]?:=fun k hk=>setRow_other w b k new hk
 have m:Mv g g (FP ok0 w0.heap.size g) (FP ok0 w0.heap.size g) w (w.setRow b new):=⟨fun _ _ h=>h,fun k hk _=>hkeep k (fun e=>hk.2 (e▸hbm)),fun k hk _=>hk,fun i b' cur e _ hw'=>form_of hw hsz hw'⟩;have lv:∀j,Live { s with own:=s.own.set i (some (markOf s.own i,over old off cs)) } j→Live s j:=fun j ⟨m',cs',hl⟩=>by
  by_cases hij:i=j
  ·subst hij;exact hli
  ·exact⟨m',cs',by simpa only[List.getElem?_set_ne hij] using hl⟩
 refine⟨h.regs.mv m,⟨by simp[h.own.1],fun j mk ds b' hj hg=>?_⟩,fun i' j b' hi hj li lj=>h.nodup i' j b' hi hj (lv i' li) (lv j lj),fun b' hm=>by rw[size_setRow];exact h.base b' hm,h.below.row (h.base b hbm).1 hw hsz,h.defers,h.fixd,fun j b' m' cs' hg hx hj=>?_,fun j m' c' cs' lj=>?_⟩
 ·simp only at hj
  rw[List.getElem?_set] at hj;split at hj
  ·rename_i he
   subst he;split at hj
   ·cases hj
    rw[hgb] at hg;cases hg;exact⟨new,t,setRow_heap w b cells new t (0,0) hw,hTn.mv m⟩
   ·cases hj
  ·rename_i hne'
   have hbb:b'≠b:=fun e=>hne' (h.nodup i j b hgb (e▸hg) hli ⟨mk,ds,hj⟩)
   obtain⟨cells',e,hw',hT'⟩:=h.own.2 j mk ds b' hj hg;exact⟨cells',e,(hkeep b' hbb).trans hw',hT'.mv m⟩
 ·simp only at hj
  rw[List.getElem?_set] at hj;split at hj
  ·rename_i he
   subst he;split at hj
   ·cases hj
    rw[hmk];exact h.mark i b' mi old hg hx hoi
   ·cases hj
  ·exact h.mark j b' m' cs' hg hx hj
 ·by_cases hij:i=j
  ·subst hij;exact⟨b,hgb⟩
  ·simp only[List.getElem?_set_ne hij] at lj
   exact h.has j m' c' cs' lj
theorem Ok.taken (h:Ok ok0 w0 g s a w) {n i b t:Nat} (hn:Spot g s n) {c0 cs:List AC} {old cells:Array Value} (hgb:g[i]?=some (some b)) (hold:s.at i=some c0) (hw:w.heap[b]?=some (.cells old t (0,0))) (hsz:old.size=cells.size)
  (hT:TL g (FP ok0 w0.heap.size g) w cs (cells.toList.take cs.length)) :
  Ok ok0 w0 (setAt g n (some b)) { s with own:=setAt (letGo (some i) s.own) n (some (markOf s.own i,cs)) } a (w.setRow b cells):=by
 have hbm:=List.mem_of_getElem? hgb;obtain⟨hnl,_⟩:=hn.le h;have hno:=hn.free h;obtain⟨mi,hoi⟩:=at_own hold;have hmk:markOf s.own i=mi:=by unfold markOf;rw[hoi]
 have hli:Live s i:=⟨mi,c0,hoi⟩;have hin:i≠n:=fun e=>hno b (e▸hgb)
 have hnl':n≤(letGo (some i) s.own).length:=by rw[letGo_len,h.own.1];exact hnl
 have hkeep:∀k,k≠b→(w.setRow b cells).heap[k]?=w.heap[k]?:=fun k hk=>setRow_other w b k cells hk
 have hmem:∀k,some k∈setAt g n (some b)→some k∈g:=fun k hk=>by
  rcases mem_setAt hnl hk with hk|hk
  ·exact hk
  ·rw[hk];exact hbm
 have m:Mv g (setAt g n (some b)) (FP ok0 w0.heap.size g) (FP ok0 w0.heap.size (setAt g n (some b))) w (w.setRow b cells) :=
  ⟨fun i b hb=>by rw[setAt_get hnl,if_neg (fun e=>hno b (by rw[←e];exact hb))];exact hb,fun k hk _=>hkeep k (fun e=>hk.2 (e▸hbm)),fun k hk _=>⟨hk.1,fun hm=>hk.2 (hmem k hm)⟩,fun i b' cur e _ hw'=>form_of hw hsz.symm hw'⟩
 have live:∀j mk ds,j≠n→(setAt (letGo (some i) s.own) n (some (markOf s.own i,cs)))[j]?=some (some (mk,ds))→s.own[j]?=some (some (mk,ds))∧j≠i:=fun j mk ds hj ho=>by
  rw[setAt_get hnl',if_neg hj] at ho;obtain⟨h1,h2⟩:=letGo_get ho;exact⟨h1,fun e=>h2 (by rw[e])⟩
 have same:∀j,g[j]?=some (some b)→Live s j→j=i:=fun j hg ho=>h.nodup j i b hg hgb ho hli
 have gn:(setAt g n (some b))[n]?=some (some b):=by rw[setAt_get hnl,if_pos rfl]
 have go:∀j,j≠n→(setAt g n (some b))[j]?=g[j]?:=fun j hj=>by rw[setAt_get hnl,if_neg hj]
 refine⟨h.regs.mv m,⟨setAt_len (letGo_len.trans h.own.1),fun j mk ds b' hj hg=>?_⟩,fun j k b' hj hk lj lk=>?_,fun b' hm=>by rw[size_setRow];exact h.base b' (hmem b' hm),h.below.row (h.base b hbm).1 hw hsz.symm,h.defers,fix_setAt h hn _,fun j b' m' cs' hg hx hj=>?_,fun j mq dc ds lj=>?_⟩
 ·simp only at hj
  by_cases e:j=n
  ·subst e
   rw[setAt_get hnl',if_pos rfl] at hj;rw[gn] at hg;cases hj;cases hg;exact⟨cells,t,setRow_heap w b old cells t (0,0) hw,hT.mv m⟩
  ·obtain⟨ho,hji⟩:=live j mk ds e hj
   rw[go j e] at hg;have hbb:b'≠b:=fun e=>hji (same j (e▸hg) ⟨mk,ds,ho⟩)
   obtain⟨c2,e2,hw2,hT2⟩:=h.own.2 j mk ds b' ho hg;exact⟨c2,e2,(hkeep b' hbb).trans hw2,hT2.mv m⟩
 ·obtain⟨m1,d1,l1⟩:=lj
  obtain⟨m2,d2,l2⟩:=lk;by_cases ej:j=n<;>by_cases ek:k=n
  ·omega
  ·obtain⟨ho,hki⟩:=live k m2 d2 ek l2
   rw[go k ek] at hk;rw[ej,gn] at hj;cases hj;exact absurd (same k hk ⟨m2,d2,ho⟩) hki
  ·obtain⟨ho,hji⟩:=live j m1 d1 ej l1
   rw[go j ej] at hj;rw[ek,gn] at hk;cases hk;exact absurd (same j hj ⟨m1,d1,ho⟩) hji
  ·rw[go j ej] at hj
   rw[go k ek] at hk;exact h.nodup j k b' hj hk ⟨m1,d1,(live j m1 d1 ej l1).1⟩ ⟨m2,d2,(live k m2 d2 ek l2).1⟩
 ·simp only at hj
  by_cases e:j=n
  ·subst e
   rw[setAt_get hnl',if_pos rfl] at hj;rw[gn] at hg;cases hj;cases hg;rw[hmk];exact h.mark i b mi c0 hgb hx hoi
  ·rw[go j e] at hg
   exact h.mark j b' m' cs' hg hx (live j m' cs' e hj).1
 ·by_cases e:j=n
  ·exact⟨b,by rw[e];exact gn⟩
  ·obtain⟨b',hb'⟩:=h.has j mq dc ds (live j mq (dc::ds) e lj).1
   exact⟨b',by rw[go j e];exact hb'⟩
theorem Ok.result (h:Ok ok0 w0 g s a w) {d:Option Tmp} {r:AV} {u:Value} (hb:Below w.heap.size w w') (hT:TV [] (fun k=>FP ok0 w0.heap.size g k∨w.heap.size≤k) w' r u):Ok ok0 w0 g (s.put d (some r)) (a.put d u) w':=by
 refine (h.move hb).val (fun v hv=>?_)
 cases hv;have m:Mv [] g (fun k=>FP ok0 w0.heap.size g k∨w.heap.size≤k) (FP ok0 w0.heap.size g) w' w':=⟨fun i b hb=>(by cases hb),fun _ _ _=>rfl,fun k hk _=>hk.elim id (fun hk=>h.new k hk),fun i b cur e hb=>(by cases hb)⟩;exact hT.mv m
structure Upd where
 d:Option Tmp
 v:Option AV
 sets:List (Nat×Option (Bool×List AC))
 fresh:List Nat
 needs:List Nat
def setL {α:Type}:List α→List (Nat×α)→List α
 |own,[]=>own
 |own,(i,x)::r=>setL (setAt own i x) r
def St.app (s:St) (u:Upd):St:=({ s with own:=setL s.own u.sets }:St).put u.d u.v
def Eff.upd (s:St) (nx:Nat) (d:Option Tmp) (r:Option AV):Eff→Upd
 | .val v=>⟨d,some v,[],[],[]⟩
 | .new cs=>⟨d,some (.g (.one (.ptr nx 0))),[(nx,some (false,cs))],[nx],[]⟩
 | .put i off cs=>⟨d,none,[(i,some (markOf s.own i,over (cellsOf s.own i) off cs))],[],[i]⟩
 | .call _ _=>⟨d,r,[],[],[]⟩
 | .callP _ _=>⟨d,r,[],[],[]⟩
 | .hand _ _ hs fl _ out=>⟨d,r,handSets s.own nx hs fl out,(List.range (out.length-hs.length)).map (nx+·),hs⟩
 | .row (some i) e k n cs=>⟨d,some (.g (.one (.sl nx e k n))),[(i,none),(nx,some (markOf s.own i,cs))],[nx],[i]⟩
 | .row none e k n cs=>⟨d,some (.g (.one (.sl nx e k n))),[(nx,some (false,cs))],[nx],[]⟩
 | .set i cs=>⟨d,none,[(i,some (markOf s.own i,cs))],[],[i]⟩
def Gr (u:Upd) (g g':List (Option Nat)):Prop:=∀i,i ∉ u.fresh→g'[i]?=g[i]?
def Eff.ob (P:Program) (s:St) (nx:Nat) (r:Option AV):Eff→Prop
 | .call f xs=>∃r',r=some r'∧Con P f xs r'
 | .callP f xs=>∃r',r=some r'∧Con P f xs r'∧r'.scal=true
 | .hand f xs hs fl r' out=>(∀i∈hs,i<nx)∧r=some (renV (backN hs nx) r')∧ConH P f (xs.map (renG (idxF 0 hs))) (handIn s.own (idxF 0 hs) hs fl) r' out
 |_=>True
def Spots (g:List (Option Nat)) (s:St) (nx:Nat) (u:Upd):Prop:=nx=s.own.length∨(nx≤s.own.length∧s.fix≤nx∧∀n∈u.fresh,g[n]?=some none)
theorem addL_get {α:Type}:∀(xs own:List α) (nx:Nat),nx≤own.length→(nx=own.length∨nx+xs.length≤own.length) →
  (setL own (addL nx xs)).length=(if own.length≤nx+xs.length then nx+xs.length else own.length)∧∀i:Nat,(setL own (addL nx xs))[i]?=if nx≤i∧i<nx+xs.length then xs[i-nx]? else own[i]?
 |[],own,nx,h,h2=>by
  refine⟨?_,fun i=>?_⟩
  ·show own.length=_
   simp only[List.length_nil,Nat.add_zero];split<;>omega
  ·rw[if_neg (by simp only[List.length_nil];omega)];rfl
 |x::r,own,nx,h,h2=>by
  have hlen:(setAt own nx x).length=if own.length≤nx then nx+1 else own.length:=by
   unfold setAt;cases hb:Nat.blt nx own.length with
   |true =>
    have:nx<own.length:=Nat.le_of_ble_eq_true hb;simp only[cond_true,List.length_set];rw[if_neg (by omega)]
   |false =>
    have:¬nx<own.length:=fun h'=>by rw[show Nat.blt nx own.length=true from Nat.ble_eq_true_of_le h'] at hb;cases hb
    simp only[cond_false,List.length_append,List.length_singleton];rw[if_pos (by omega)];omega
  simp only[List.length_cons] at h2;obtain⟨h3,h4⟩:=addL_get r (setAt own nx x) (nx+1) (by rw[hlen];split<;>omega) (by rw[hlen];split<;>omega);simp only[addL,setL];refine⟨?_,fun i=>?_⟩
  ·rw[h3,hlen]
   simp only[List.length_cons];split<;>split<;>(try split)<;>omega
  ·rw[h4,setAt_get h]
   simp only[List.length_cons];by_cases e:i=nx
   ·subst e
    rw[if_neg (by omega),if_pos rfl,if_pos (by omega),Nat.sub_self];rfl
   ·by_cases h5:nx+1≤i∧i<nx+1+r.length
    ·rw[if_pos h5,if_pos (by omega),show i-nx=(i-(nx+1))+1 by omega,List.getElem?_cons_succ]
    ·rw[if_neg h5,if_neg e,if_neg (by omega)]
theorem setL_app {α:Type}:∀(own:List α) (a b:List (Nat×α)),setL own (a++b)=setL (setL own a) b
 |own,[],b=>rfl
 |own,(i,x)::a,b=>setL_app (setAt own i x) a b
theorem distN_at:∀{hs:List Nat} {i j:Nat} {x:Nat},distN hs=true→hs[i]?=some x→hs[j]?=some x→i=j
 |[],i,j,x,_,h,_=>by cases h
 |y::r,0,0,x,_,_,_=>rfl
 |y::r,0,j+1,x,hd,h,h'=>by
  cases h;unfold distN at hd;rw[Bool.and_eq_true] at hd;have:r.any (Nat.beq y)=true:=List.any_eq_true.2 ⟨y,List.mem_of_getElem? (by simpa using h'),Nat.beq_refl y⟩;rw[this] at hd;simp at hd
 |y::r,i+1,0,x,hd,h,h'=>by
  cases h';unfold distN at hd;rw[Bool.and_eq_true] at hd;have:r.any (Nat.beq y)=true:=List.any_eq_true.2 ⟨y,List.mem_of_getElem? (by simpa using h),Nat.beq_refl y⟩;rw[this] at hd;simp at hd
 |y::r,i+1,j+1,x,hd,h,h'=>by
  unfold distN at hd;rw[Bool.and_eq_true] at hd;have:=distN_at (hs:=r) (i:=i) (j:=j) (x:=x) hd.2 (by simpa using h) (by simpa using h');omega
theorem idxF_at:∀{hs:List Nat} {k0 k i:Nat},idxF k0 hs i=some k→k0≤k∧hs[k-k0]?=some i
 |[],k0,k,i,h=>by cases h
 |j::r,k0,k,i,h=>by
  unfold idxF at h;cases hb:Nat.beq j i with
  |true =>
   rw[hb] at h;cases h;exact⟨Nat.le_refl _,by simp[Nat.eq_of_beq_eq_true hb]⟩
  |false =>
   rw[hb] at h;obtain⟨h1,h2⟩:=idxF_at (hs:=r) h;exact⟨by omega,by rw[show k-k0=(k-(k0+1))+1 by omega,List.getElem?_cons_succ];exact h2⟩
theorem handIn_get {own:List (Option (Bool×List AC))} {f:Nat→Option Nat}:∀{hs:List Nat} {fl:List Bool} {k:Nat} {x:Option (Bool×List AC)},(handIn own f hs fl)[k]?=some x →
  ∃(i:Nat) (b:Bool),hs[k]?=some i∧x=some (true,unrow b f (cellsOf own i))∧(b=true→cellsOf own i∈handPl own hs fl)
 |[],fl,k,x,h=>by cases h
 |i::r,fl,0,x,h=>by
  cases h;refine⟨i,fl.headD false,rfl,rfl,fun (hb:fl.headD false=true)=>?_⟩
  unfold handPl;rw[hb];exact List.mem_cons_self
 |i::r,fl,k+1,x,h=>by
  obtain⟨j,b,h1,h2,h3⟩:=handIn_get (hs:=r) (fl:=fl.tail) (k:=k) (by simpa[handIn] using h);refine⟨j,b,by simpa using h1,h2,fun hb=>?_⟩
  unfold handPl;cases fl.headD false with
  |true=>exact List.mem_cons_of_mem _ (h3 hb)
  |false=>exact h3 hb
theorem handIn_len {own:List (Option (Bool×List AC))} {f:Nat→Option Nat}:∀(hs:List Nat) (fl:List Bool),(handIn own f hs fl).length=hs.length
 |[],_=>rfl
 |i::r,fl=>by simp[handIn,handIn_len r]
theorem handA_get {own:List (Option (Bool×List AC))} {f:Nat→Option Nat}:∀{hs:List Nat} {out:List (Option (Bool×List AC))} {fl:List Bool} {i:Nat} {y:Option (Bool×List AC)},(i,y)∈handA own f hs out fl →
  ∃(k:Nat) (x:Option (Bool×List AC)) (b:Bool),hs[k]?=some i∧out[k]?=some x∧y=tell f (fun _=>markOf own i) b x∧(b=true→∀m cs,x=some (m,cs)→cs∈outPl out fl)
 |[],out,fl,i,y,h=>by cases out<;>cases h
 |j::r,[],fl,i,y,h=>by cases h
 |j::r,x::out,fl,i,y,h=>by
  have step:∀z,z∈outPl out fl.tail→z∈outPl (x::out) fl:=fun z hz=>by
   cases x with
   |none=>exact hz
   |some mc =>
    obtain⟨m,cs⟩:=mc;simp only[outPl];cases fl.headD false with
    |true=>exact List.mem_cons_of_mem _ hz
    |false=>exact hz
  rcases List.mem_cons.1 h with h|h
  ·cases h
   refine⟨0,x,fl.headD false,rfl,rfl,rfl,fun hb m cs hx=>?_⟩
   subst hx;simp only[outPl,hb];exact List.mem_cons_self
  ·obtain⟨k,x',b,h1,h2,h3,h4⟩:=handA_get h
   exact⟨k+1,x',b,by simpa using h1,by simpa using h2,h3,fun hb m cs hx=>step _ (h4 hb m cs hx)⟩
theorem handA_key {own:List (Option (Bool×List AC))} {f:Nat→Option Nat}:∀{hs:List Nat} {out:List (Option (Bool×List AC))} {fl:List Bool} {k i:Nat},hs.length≤out.length→hs[k]?=some i→∃y,(i,y)∈handA own f hs out fl
 |[],out,fl,k,i,_,h=>by cases h
 |j::r,[],fl,k,i,hl,h=>by simp at hl
 |j::r,x::out,fl,0,i,hl,h=>by cases h;exact⟨_,List.mem_cons_self⟩
 |j::r,x::out,fl,k+1,i,hl,h=>by
  obtain⟨y,hy⟩:=handA_key (own:=own) (f:=f) (fl:=fl.tail) (k:=k) (by simpa using hl) (by simpa using h);exact⟨y,List.mem_cons_of_mem _ hy⟩
theorem tellL_get {f:Nat→Option Nat} {mk:Bool→Bool}:∀{out:List (Option (Bool×List AC))} {fl:List Bool} {k:Nat} {y:Option (Bool×List AC)},(tellL f mk out fl)[k]?=some y →
  ∃(x:Option (Bool×List AC)) (b:Bool),out[k]?=some x∧y=tell f mk b x∧(b=true→∀m cs,x=some (m,cs)→cs∈outPl out fl)
 |[],fl,k,y,h=>by cases h
 |x::r,fl,0,y,h=>by
  cases h;refine⟨x,fl.headD false,rfl,rfl,fun hb m cs hx=>?_⟩
  subst hx;simp only[outPl,hb];exact List.mem_cons_self
 |x::r,fl,k+1,y,h=>by
  obtain⟨x',b,h1,h2,h3⟩:=tellL_get (out:=r) (fl:=fl.tail) (k:=k) (by simpa[tellL] using h);refine⟨x',b,by simpa using h1,h2,fun hb m cs hx=>?_⟩
  have:=h3 hb m cs hx;cases x with
  |none=>exact this
  |some mc =>
   obtain⟨m',cs'⟩:=mc;simp only[outPl];cases fl.headD false with
   |true=>exact List.mem_cons_of_mem _ this
   |false=>exact this
theorem tellL_len {f:Nat→Option Nat} {mk:Bool→Bool}:∀(out:List (Option (Bool×List AC))) (fl:List Bool),(tellL f mk out fl).length=out.length
 |[],_=>rfl
 |x::r,fl=>by simp[tellL,tellL_len r]
theorem outPl_drop:∀(n:Nat) (out:List (Option (Bool×List AC))) (fl:List Bool) (z:List AC),z∈outPl (out.drop n) (fl.drop n)→z∈outPl out fl
 |0,out,fl,z,h=>h
 |n+1,[],fl,z,h=>by simp[outPl] at h
 |n+1,x::out,fl,z,h=>by
  have h1:z∈outPl out fl.tail:=outPl_drop n out fl.tail z (by
   cases fl with
   |nil=>simpa using h
   |cons b r=>simpa using h)
  cases x with
  |none=>exact h1
  |some mc =>
   obtain⟨m,cs⟩:=mc;simp only[outPl];cases fl.headD false with
   |true=>exact List.mem_cons_of_mem _ h1
   |false=>exact h1
theorem putL_get {α:Type}:∀(ps:List (Nat×α)) (own:List α),(∀p∈ps,p.1<own.length)→(∀(i j:Nat) p q,ps[i]?=some p→ps[j]?=some q→p.1=q.1→i=j) →
  (setL own ps).length=own.length∧(∀i x,(i,x)∈ps→(setL own ps)[i]?=some x)∧∀i,(∀x,(i,x) ∉ ps)→(setL own ps)[i]?=own[i]?
 |[],own,_,_=>⟨rfl,fun i x h=>(by cases h),fun i _=>rfl⟩
 | (j,y)::r,own,h,hd=>by
   have hj:j<own.length:=h (j,y) List.mem_cons_self;have hl:(setAt own j y).length=own.length:=by
    unfold setAt;rw[show Nat.blt j own.length=true from Nat.ble_eq_true_of_le hj];simp
   obtain⟨h1,h2,h3⟩:=putL_get r (setAt own j y) (fun p hp=>by rw[hl];exact h p (List.mem_cons_of_mem _ hp)) (fun i k p q hi hk he=>by
    have:=hd (i+1) (k+1) p q (by simpa using hi) (by simpa using hk) he;omega)
   refine⟨h1.trans hl,fun i x hx=>?_,fun i hi=>?_⟩
   ·rcases List.mem_cons.1 hx with hx|hx
    ·have e1:i=j:=congrArg Prod.fst hx
     have e2:x=y:=congrArg Prod.snd hx;subst e1;subst e2;have hno:∀x,(i,x) ∉ r:=fun x hx=>by
      obtain⟨k,hk⟩:=List.mem_iff_getElem?.1 hx;have:=hd 0 (k+1) (i,_) (i,x) rfl (by simpa using hk) rfl;omega
     show (setL (setAt own i x) r)[i]?=some x
     rw[h3 i hno,setAt_get (Nat.le_of_lt hj),if_pos rfl]
    ·exact h2 i x hx
   ·show (setL (setAt own j y) r)[i]?=own[i]?
    rw[h3 i (fun x hx=>hi x (List.mem_cons_of_mem _ hx)),setAt_get (Nat.le_of_lt hj),if_neg (fun e=>by subst e;exact hi y List.mem_cons_self)]
def gOfN (g:List (Option Nat)) (hs:List Nat):List (Option Nat):=hs.map fun i=>g.getD i none
theorem gOfN_get {g:List (Option Nat)} {hs:List Nat} {k:Nat} {y:Option Nat} (h:(gOfN g hs)[k]?=some y):∃i,hs[k]?=some i∧y=g.getD i none:=by
 unfold gOfN at h;rw[List.getElem?_map] at h;obtain⟨i,hi,rfl⟩:=Option.map_eq_some_iff.1 h;exact⟨i,hi,rfl⟩
theorem getD_some {g:List (Option Nat)} {i b:Nat} (h:g[i]?=some (some b)):g.getD i none=some b:=by simp[List.getD_eq_getElem?_getD,h]
theorem getD_of {g:List (Option Nat)} {i b:Nat} (h:g.getD i none=some b):g[i]?=some (some b):=by
 rw[List.getD_eq_getElem?_getD] at h;cases hg:g[i]? with
 |none=>rw[hg] at h;cases h
 |some y=>rw[hg] at h;simp at h;rw[h]
theorem cellsOf_at {own:List (Option (Bool×List AC))} {i:Nat} {m:Bool} {cs:List AC} (h:own[i]?=some (some (m,cs))):cellsOf own i=cs:=by unfold cellsOf;rw[h]
theorem TL.plain {ok':Nat→Prop} {g':List (Option Nat)} (hf:∀k,ok0 k→k<w.heap.size→ok' k) {cs:List AC} {us:List Value} (hp:∀c∈cs,c.noptr=true) (h:TL g ok0 w cs us):TL g' ok' w cs us:=by
 refine⟨h.1,fun j c u hc hu=>?_⟩
 have h1:=(h.2 j c u hc hu).noptr (hp c (List.mem_of_getElem? hc));exact h1.mv (⟨fun i b hb=>(by cases hb),fun _ _ _=>rfl,fun k hk hlt=>hf k hk hlt,fun i b cur e hb=>(by cases hb)⟩:Mv [] g' ok0 ok' w w)
theorem unrow_len {b:Bool} {f:Nat→Option Nat} {cs:List AC}:(unrow b f cs).length=cs.length:=by cases b<;>simp[unrow]
theorem TL.unrow {ok ok':Nat→Prop} {g':List (Option Nat)} {f:Nat→Option Nat} (m:∀i j b,f i=some j→g[i]?=some (some b)→g'[j]?=some (some b)) (hf:∀k,ok k→k<w.heap.size→ok' k) {b:Bool} {cs:List AC} {us:List Value} (hp:b=true→∀c∈cs,c.noptr=true) (h:TL g ok w cs us):TL g' ok' w (Ev.unrow b f cs) us:=by
 cases b with
 |true=>exact TL.plain (g:=g) hf (hp rfl) h
 |false=>exact h.ren m hf
theorem Ok.hand_in (h:Ok ok0 w0 g s a w) {hs:List Nat} {fl:List Bool} {xs:List AG} {us:Array Value} (hd:distN hs=true) (hl:∀i∈hs,∃cs,s.at i=some cs) (hp:∀cs∈handPl s.own hs fl,∀c∈cs,c.noptr=true) (hA:TB g (FP ok0 w0.heap.size g) w xs us) :
  Ok (FP ok0 w0.heap.size g) ⟨w,gOfN g hs,[]⟩ (gOfN g hs) ⟨(xs.map (renG (idxF 0 hs))).map (fun x=>some (.g x)),handIn s.own (idxF 0 hs) hs fl,(handIn s.own (idxF 0 hs) hs fl).length⟩ ⟨us,[]⟩ w:=by
 have mem:∀k,some k∈gOfN g hs→some k∈g:=fun k hk=>by
  obtain⟨j,hj⟩:=List.mem_iff_getElem?.1 hk;obtain⟨i,_,hy⟩:=gOfN_get hj;exact List.mem_of_getElem? (getD_of hy.symm)
 have there:∀(k:Nat) i,hs[k]?=some i→∃m cs,(gOfN g hs)[k]?=some (g.getD i none)∧s.own[i]?=some (some (m,cs)):=fun k i hk=>by
  obtain⟨cs,hc⟩:=hl i (List.mem_of_getElem? hk);obtain⟨m,ho⟩:=at_own hc;exact⟨m,cs,by unfold gOfN;rw[List.getElem?_map,hk];rfl,ho⟩
 have m:∀i j b,idxF 0 hs i=some j→g[i]?=some (some b)→(gOfN g hs)[j]?=some (some b):=fun i j b hij hb=>by
  obtain⟨_,h2⟩:=idxF_at hij;unfold gOfN;rw[List.getElem?_map,show hs[j]?=some i by simpa using h2];simp only[Option.map_some,getD_some hb]
 have hf:∀k,FP ok0 w0.heap.size g k→k<w.heap.size→FP (FP ok0 w0.heap.size g) w.heap.size (gOfN g hs) k:=fun k hk _=>⟨.inl hk,fun hm=>hk.2 (mem k hm)⟩
 have live:∀(k:Nat) b,(gOfN g hs)[k]?=some (some b)→∃i,hs[k]?=some i∧g[i]?=some (some b)∧Live s i:=fun k b hk=>by
  obtain⟨i,hi,hy⟩:=gOfN_get hk;obtain⟨mm,cs,_,ho⟩:=there k i hi;exact⟨i,hi,getD_of hy.symm,mm,cs,ho⟩
 refine⟨⟨by simp[hA.1],fun t x hx=>?_⟩,⟨by simp[handIn_len,gOfN],fun k mk cs b hk hgb=>?_⟩,fun i j b hi hj _ _=>?_,fun b hb=>⟨.inr hb,(h.base b (mem b hb)).2⟩,Keep.refl _,rfl,⟨by simp[handIn_len,gOfN],fun k hk=>?_⟩,fun k b mk cs hgb hX hk=>?_,fun k mq cc cs hk=>?_⟩
 ·rw[List.getElem?_map,List.getElem?_map] at hx
  obtain⟨y,hy,he⟩:=Option.map_eq_some_iff.1 hx;obtain⟨z,hz,rfl⟩:=Option.map_eq_some_iff.1 hy;cases he;have hlt:t<us.size:=by rw[hA.1];exact (List.getElem?_eq_some_iff.1 hz).1
  exact⟨us[t],Array.getElem?_eq_getElem hlt,(hA.2 t z _ hz (Array.getElem?_eq_getElem hlt)).ren m hf⟩
 ·obtain⟨i,bb,hi,he,hpl⟩:=handIn_get hk
  injection he with he;injection he with _ he;subst he;obtain⟨mm,cs0,hg2,ho⟩:=there k i hi;rw[hgb] at hg2;injection hg2 with hg2;have hb':=getD_of hg2.symm;obtain⟨cells,e,hw,hT⟩:=h.own.2 i mm cs0 b ho hb';rw[cellsOf_at ho] at hpl ⊢;refine⟨cells,e,hw,?_⟩
  rw[unrow_len];exact TL.unrow m hf (fun hb=>hp _ (hpl hb)) hT
 ·obtain⟨x,hx,hgx,lx⟩:=live i b hi
  obtain⟨y,hy,hgy,ly⟩:=live j b hj;have:=h.nodup x y b hgx hgy lx ly;subst this;exact distN_at hd hx hy
 ·simp only[handIn_len] at hk
  obtain⟨_,_,hg2,_⟩:=there k _ (List.getElem?_eq_getElem hk);exact⟨_,hg2,hg2⟩
 ·obtain⟨i,bb,hi,he,_⟩:=handIn_get hk
  injection he with he;injection he with he _
 ·obtain⟨i,bb,hi,he,_⟩:=handIn_get hk
  obtain⟨m0,cs0,hg2,ho⟩:=there k i hi;injection he with he;injection he with _ he;rw[cellsOf_at ho] at he;cases cs0 with
  |nil=>cases bb<;>cases he
  |cons c0 cs0 =>
   obtain⟨b,hb⟩:=h.has i m0 c0 cs0 ho;rw[getD_some hb] at hg2;exact⟨b,hg2⟩
theorem Ok.hand_out (h:Ok ok0 w0 g s a w) {hs:List Nat} {fl:List Bool} {r:AV} {out:List (Option (Bool×List AC))} {d:Option Tmp} {u:Value} {g1:List (Option Nat)} {nx:Nat} (hd:distN hs=true) (hl:∀i∈hs,∃cs,s.at i=some cs) (hle:hs.length≤out.length) (hlt:∀i∈hs,i<nx)
  (hp:∀cs∈outPl out fl,∀c∈cs,c.noptr=true) (hn:nx=s.own.length∨(nx≤s.own.length∧s.fix≤nx∧∀j,j<out.length-hs.length→g[nx+j]?=some none)) (fr ne:List Nat)
  (hk:Ok (FP ok0 w0.heap.size g) ⟨w,gOfN g hs,[]⟩ g1 ⟨[some r],out,hs.length⟩ ⟨#[u],[]⟩ w') :
  Ok ok0 w0 (setL g (addL nx (g1.drop hs.length))) (s.app ⟨d,some (renV (backN hs nx) r),handSets s.own nx hs fl out,fr,ne⟩) (a.put d u) w':=by
 have hgl:g.length=s.own.length:=h.own.1.symm;have hol:out.length=g1.length:=hk.own.1;have hsp:nx≤g.length∧(nx=g.length∨nx+(g1.drop hs.length).length≤g.length):=by
  rw[List.length_drop,←hol];rcases hn with hn|⟨hn1,_,hn⟩
  ·omega
  ·by_cases h0:out.length-hs.length=0
   ·omega
   ·have:=(List.getElem?_eq_some_iff.1 (hn (out.length-hs.length-1) (by omega))).1
    omega
 -- the names
 obtain⟨hGl,hG⟩:=addL_get (g1.drop hs.length) g nx hsp.1 hsp.2;have hfree:∀j b,nx≤j→j<nx+(out.length-hs.length)→g[j]?≠some (some b):=fun j b h1 h2 e=>by
  rcases hn with hn|⟨_,_,hn⟩
  ·rw[List.getElem?_eq_none (by omega)] at e;cases e
  ·have:=hn (j-nx) (by omega)
   rw[show nx+(j-nx)=j by omega,e] at this;cases this
 have hdl:(g1.drop hs.length).length=out.length-hs.length:=by rw[List.length_drop,hol]
 have hG0:∀i,¬(nx≤i∧i<nx+(out.length-hs.length))→(setL g (addL nx (g1.drop hs.length)))[i]?=g[i]?:=fun i hi=>by rw[hG,hdl,if_neg hi]
 have hG1:∀k,hs.length≤k→k<out.length→(setL g (addL nx (g1.drop hs.length)))[nx+(k-hs.length)]?=g1[k]?:=fun k h1 h2=>by
  rw[hG,hdl,if_pos (by omega),List.getElem?_drop,show hs.length+(nx+(k-hs.length)-nx)=k by omega]
 have hGo:∀i b,g[i]?=some (some b)→(setL g (addL nx (g1.drop hs.length)))[i]?=some (some b):=fun i b hb=>by
  rw[hG0 i (fun hi=>hfree i b hi.1 hi.2 hb)];exact hb
 have hGc:∀i b,(setL g (addL nx (g1.drop hs.length)))[i]?=some (some b)→g[i]?=some (some b)∨∃k,hs.length≤k∧k<out.length∧i=nx+(k-hs.length)∧g1[k]?=some (some b):=fun i b hb=>by
  by_cases hi:nx≤i∧i<nx+(out.length-hs.length)
  ·refine .inr ⟨i-nx+hs.length,by omega,by omega,by omega,?_⟩
   rw[←hG1 _ (by omega) (by omega),show nx+(i-nx+hs.length-hs.length)=i by omega];exact hb
  ·rw[hG0 i hi] at hb;exact .inl hb
 generalize hGG:setL g (addL nx (g1.drop hs.length))=G at *;have hmem:∀k,some k∈G→some k∈g∨some k∈g1:=fun k hk'=>by
  obtain⟨i,hi⟩:=List.mem_iff_getElem?.1 hk';rcases hGc i k hi with h1|⟨j,_,_,_,h1⟩
  ·exact .inl (List.mem_of_getElem? h1)
  ·exact .inr (List.mem_of_getElem? h1)
 have memN:∀k,some k∈gOfN g hs→some k∈g:=fun k hk=>by
  obtain⟨j,hj⟩:=List.mem_iff_getElem?.1 hk;obtain⟨i,_,hy⟩:=gOfN_get hj;exact List.mem_of_getElem? (getD_of hy.symm)
 have hbase1:∀b,some b∈g1→(w.heap.size≤b∨some b∈gOfN g hs)∧b<w'.heap.size:=fun b hb=>hk.base b hb
 have hsize:w.heap.size≤w'.heap.size:=hk.below.size;have there:∀(k:Nat) i,hs[k]?=some i→∃m cs,g1[k]?=some (g.getD i none)∧s.own[i]?=some (some (m,cs)):=fun k i hki=>by
  obtain⟨cs,hc⟩:=hl i (List.mem_of_getElem? hki);obtain⟨m,ho⟩:=at_own hc;obtain⟨x,h1,h2⟩:=hk.fixd.2 k (by simpa using (List.getElem?_eq_some_iff.1 hki).1);obtain⟨i',hi',hy⟩:=gOfN_get h2;rw[hki] at hi';cases hi';exact⟨m,cs,by rw[h1,hy],ho⟩
 have same1:∀(k:Nat) i b,hs[k]?=some i→(g1[k]?=some (some b)↔g[i]?=some (some b)):=fun k i b hki=>by
  obtain⟨m,cs,h1,_⟩:=there k i hki;rw[h1];constructor
  ·intro h2
   injection h2 with h2;exact getD_of h2
  ·intro h2
   rw[getD_some h2]
 -- what comes back lies among what is known
 have foot1:∀k,FP (FP ok0 w0.heap.size g) w.heap.size g1 k→k<w'.heap.size→FP ok0 w0.heap.size G k:=fun k hk' _=>by
  obtain⟨h1,h2⟩:=hk';have h3:some k ∉ g:=fun hm=>by
   rcases h1 with h1|h1
   ·exact h1.2 hm
   ·have:=(h.base k hm).2
    exact Nat.lt_irrefl _ (Nat.lt_of_lt_of_le this h1)
  refine⟨?_,fun hm=>(hmem k hm).elim h3 h2⟩
  rcases h1 with h1|h1
  ·exact h1.1
  ·exact .inr (Nat.le_trans h.below.size h1)
 have hkeep:∀k,k<w.heap.size→some k ∉ gOfN g hs→w'.heap[k]?=w.heap[k]?:=fun k h1 h2=>hk.below.block k h1 h2
 have mv:Mv g G (FP ok0 w0.heap.size g) (FP ok0 w0.heap.size G) w w':=by
  refine⟨hGo,fun k hk1 hlt=>hkeep k hlt (fun hm=>hk1.2 (memN k hm)),fun k hk1 hlt=>⟨hk1.1,fun hm=>?_⟩,fun i b cur e hb hw=>hk.below.form b cur e hw⟩
  rcases hmem k hm with hm|hm
  ·exact hk1.2 hm
  ·rcases (hbase1 k hm).1 with h9|h9
   ·omega
   ·exact hk1.2 (memN k h9)
 have back:∀i j b,backN hs nx i=some j→g1[i]?=some (some b)→G[j]?=some (some b):=fun i j b hij hb=>by
  unfold backN at hij;have hil:i<out.length:=by rw[hol];exact (List.getElem?_eq_some_iff.1 hb).1
  split at hij
  ·rename_i x hx
   cases hij;exact hGo j b ((same1 i j b hx).1 hb)
  ·rename_i hx
   cases hij;have:hs.length≤i:=List.getElem?_eq_none_iff.1 hx;rw[hG1 i this hil];exact hb
 -- own blocks
 have hAlt:∀p∈handA s.own (backN hs nx) hs out fl,p.1<s.own.length:=fun p hpm=>by
  obtain⟨i,y⟩:=p;obtain⟨k,x,b,h1,_⟩:=handA_get hpm;obtain⟨m,cs,_,ho⟩:=there k i h1;exact (List.getElem?_eq_some_iff.1 ho).1
 have hAd:∀{hs:List Nat} {out:List (Option (Bool×List AC))} {fl:List Bool} {i:Nat} {p:Nat×Option (Bool×List AC)},(handA s.own (backN hs nx) hs out fl)[i]?=some p→True:=fun _=>trivial
 have hAi:∀{f:Nat→Option Nat} {hs:List Nat} {out:List (Option (Bool×List AC))} {fl:List Bool} {i:Nat} {p:Nat×Option (Bool×List AC)},(handA s.own f hs out fl)[i]?=some p→hs[i]?=some p.1:=by
  intro f hs
  induction hs with
  |nil=>intro out fl i p hi;cases out<;>cases hi
  |cons x r ih =>
   intro out fl i p hi;cases out with
   |nil=>cases hi
   |cons y out =>
    cases i with
    |zero=>cases hi;rfl
    |succ i=>exact ih (by simpa[handA] using hi)
 obtain⟨hPl,hP1,hP2⟩:=putL_get (handA s.own (backN hs nx) hs out fl) s.own hAlt (fun i j p q hi hj he=>distN_at hd (hAi hi) (by rw[he];exact hAi hj));have hBl:(tellL (backN hs nx) (fun m=>m&&hs.any (markOf s.own)) (out.drop hs.length) (fl.drop hs.length)).length=out.length-hs.length:=by rw[tellL_len,List.length_drop]
 obtain⟨hQl,hQ⟩:=addL_get (tellL (backN hs nx) (fun m=>m&&hs.any (markOf s.own)) (out.drop hs.length) (fl.drop hs.length)) (setL s.own (handA s.own (backN hs nx) hs out fl)) nx (by rw[hPl];omega) (by rw[hPl,hBl];rw[hdl] at hsp;omega);have hO:setL s.own (handSets s.own nx hs fl out)=setL (setL s.own (handA s.own (backN hs nx) hs out fl)) (addL nx (tellL (backN hs nx) (fun m=>m&&hs.any (markOf s.own)) (out.drop hs.length) (fl.drop hs.length))):=by unfold handSets;rw[setL_app]
 -- a live name,behind the call: one that was handed over,a new one,another one
 have cases3:∀i m cs,(setL s.own (handSets s.own nx hs fl out))[i]?=some (some (m,cs)) →
   (∃k m1 cs1 b,k<out.length∧out[k]?=some (some (m1,cs1))∧cs=unrow b (backN hs nx) cs1∧(b=true→∀c∈cs1,c.noptr=true)∧((hs[k]?=some i∧m=markOf s.own i)∨(hs.length≤k∧i=nx+(k-hs.length)∧m=(m1&&hs.any (markOf s.own))))) ∨
   (s.own[i]?=some (some (m,cs))∧(∀k:Nat,hs[k]?≠some i)∧¬(nx≤i∧i<nx+(out.length-hs.length))):=fun i m cs hi=>by
  rw[hO,hQ,hBl] at hi;by_cases h1:nx≤i∧i<nx+(out.length-hs.length)
  ·rw[if_pos h1] at hi
   obtain⟨x,b,h2,h3,h4⟩:=tellL_get hi;rw[List.getElem?_drop] at h2;cases x with
   |none=>cases h3
   |some mc =>
    obtain⟨m1,cs1⟩:=mc;simp only[tell,Option.some.injEq,Prod.mk.injEq] at h3;exact .inl ⟨hs.length+(i-nx),m1,cs1,b,by omega,h2,h3.2,fun hb=>hp _ (outPl_drop _ _ _ _ (h4 hb m1 cs1 rfl)),.inr ⟨by omega,by omega,h3.1⟩⟩
  ·rw[if_neg h1] at hi
   by_cases h2:∃y,(i,y)∈handA s.own (backN hs nx) hs out fl
   ·obtain⟨y,hy⟩:=h2
    rw[hP1 i y hy] at hi;cases hi;obtain⟨k,x,b,h3,h4,h5,h6⟩:=handA_get hy;cases x with
    |none=>cases h5
    |some mc =>
     obtain⟨m1,cs1⟩:=mc;simp only[tell,Option.some.injEq,Prod.mk.injEq] at h5;exact .inl ⟨k,m1,cs1,b,(List.getElem?_eq_some_iff.1 h4).1,h4,h5.2,fun hb=>hp _ (h6 hb m1 cs1 rfl),.inl ⟨h3,h5.1⟩⟩
   ·rw[hP2 i (fun x hx=>h2 ⟨x,hx⟩)] at hi
    exact .inr ⟨hi,fun k hk'=>h2 (handA_key hle hk'),h1⟩
 -- a name among what came back: its block
 have blkOf:∀k i b,k<out.length→(hs[k]?=some i∨(hs.length≤k∧i=nx+(k-hs.length)))→G[i]?=some (some b)→g1[k]?=some (some b):=fun k i b hkl hki hb=>by
  rcases hki with h1|⟨h1,rfl⟩
  ·by_cases hir:nx≤i∧i<nx+(out.length-hs.length)
   ·have:=hlt i (List.mem_of_getElem? h1)
    omega
   ·rw[hG0 i hir] at hb
    exact (same1 k i b h1).2 hb
  ·rw[hG1 k h1 hkl] at hb
   exact hb
 have nodupO:∀i j b,G[i]?=some (some b)→G[j]?=some (some b)→Live (s.app ⟨d,some (renV (backN hs nx) r),handSets s.own nx hs fl out,fr,ne⟩) i→Live (s.app ⟨d,some (renV (backN hs nx) r),handSets s.own nx hs fl out,fr,ne⟩) j→i=j:=by
  intro i j b hi hj ⟨mi,ci,li⟩ ⟨mj,cj,lj⟩;simp only[St.app,put_own] at li lj;have far:∀i j k m1 cs1 mj cj,G[i]?=some (some b)→G[j]?=some (some b)→k<out.length→out[k]?=some (some (m1,cs1))→(hs[k]?=some i∨(hs.length≤k∧i=nx+(k-hs.length)))→s.own[j]?=some (some (mj,cj))→(∀k:Nat,hs[k]?≠some j)→¬(nx≤j∧j<nx+(out.length-hs.length))→False:=by
   intro i j k m1 cs1 mj cj hi hj hkl hok hki hjo hjn hjr;rw[hG0 j hjr] at hj;have h1:=blkOf k i b hkl hki hi;rcases (hbase1 b (List.mem_of_getElem? h1)).1 with h2|h2
   ·have:=(h.base b (List.mem_of_getElem? hj)).2
    omega
   ·obtain⟨k',hk'⟩:=List.mem_iff_getElem?.1 h2
    obtain⟨i',hi',hy⟩:=gOfN_get hk';obtain⟨m,cs,_,h4⟩:=there k' i' hi';have h3:=getD_of hy.symm;have:=h.nodup i' j b h3 hj ⟨m,cs,h4⟩ ⟨mj,cj,hjo⟩;subst this;exact hjn k' hi'
  rcases cases3 i mi ci li with⟨k,m1,c1,b1,hkl,hok,_,_,hki⟩|⟨hio,hin,hir⟩<;>rcases cases3 j mj cj lj with⟨k',m1',c1',b1',hkl',hok',_,_,hki'⟩|⟨hjo,hjn,hjr⟩
  ·have hki2:hs[k]?=some i∨(hs.length≤k∧i=nx+(k-hs.length)):=hki.imp (fun h=>h.1) (fun h=>⟨h.1,h.2.1⟩)
   have hki2':hs[k']?=some j∨(hs.length≤k'∧j=nx+(k'-hs.length)):=hki'.imp (fun h=>h.1) (fun h=>⟨h.1,h.2.1⟩);have:=hk.nodup k k' b (blkOf k i b hkl hki2 hi) (blkOf k' j b hkl' hki2' hj) ⟨m1,c1,hok⟩ ⟨m1',c1',hok'⟩;subst this;rcases hki2 with h1|⟨h1,rfl⟩<;>rcases hki2' with h2|⟨h2,rfl⟩
   ·rw[h1] at h2;cases h2;rfl
   ·have:=(List.getElem?_eq_some_iff.1 h1).1;omega
   ·have:=(List.getElem?_eq_some_iff.1 h2).1;omega
   ·rfl
  ·exact (far i j k m1 c1 mj cj hi hj hkl hok (hki.imp (fun h=>h.1) (fun h=>⟨h.1,h.2.1⟩)) hjo hjn hjr).elim
  ·exact (far j i k' m1' c1' mi ci hj hi hkl' hok' (hki'.imp (fun h=>h.1) (fun h=>⟨h.1,h.2.1⟩)) hio hin hir).elim
  ·rw[hG0 i hir] at hi
   rw[hG0 j hjr] at hj;exact h.nodup i j b hi hj ⟨mi,ci,hio⟩ ⟨mj,cj,hjo⟩
 obtain⟨u',hu',hTu⟩:=hk.regs.2 0 r rfl;cases hu';have key:Ok ok0 w0 G { s with own:=setL s.own (handSets s.own nx hs fl out) } a w':=by
  refine⟨h.regs.mv mv,⟨?_,fun i m cs b hi hg=>?_⟩,fun i j b hi hj li lj=>nodupO i j b hi hj (by simpa only[St.app,Live,put_own] using li) (by simpa only[St.app,Live,put_own] using lj),fun b hb=>?_,?_,h.defers,⟨h.fixd.1,fun i hi=>?_⟩,fun i b m cs hg hX hi=>?_,fun i m cc cs hi=>?_⟩
  ·simp only[hO,hQl,hPl,hBl,←hGG]
   rw[(addL_get (g1.drop hs.length) g nx hsp.1 hsp.2).1,hdl,hgl]
  ·rcases cases3 i m cs hi with⟨k,m1,c1,b1,hkl,hok,rfl,hpl,hki⟩|⟨hio,hin,hir⟩
   ·have hki2:hs[k]?=some i∨(hs.length≤k∧i=nx+(k-hs.length)):=hki.imp (fun h=>h.1) (fun h=>⟨h.1,h.2.1⟩)
    obtain⟨cells,e,hw,hT⟩:=hk.own.2 k m1 c1 b hok (blkOf k i b hkl hki2 hg);refine⟨cells,e,hw,?_⟩
    rw[unrow_len];exact TL.unrow back foot1 hpl hT
   ·rw[hG0 i hir] at hg
    obtain⟨cells,e,hw,hT⟩:=h.own.2 i m cs b hio hg;refine⟨cells,e,(hkeep b (Array.getElem?_eq_some_iff.1 hw).1 (fun hm=>?_)).trans hw,hT.mv mv⟩
    obtain⟨k',hk'⟩:=List.mem_iff_getElem?.1 hm;obtain⟨i',hi',hy⟩:=gOfN_get hk';obtain⟨m',cs',_,h4⟩:=there k' i' hi';have h3:=getD_of hy.symm;have:=h.nodup i' i b h3 hg ⟨m',cs',h4⟩ ⟨m,cs,hio⟩;subst this;exact hin k' hi'
  ·rcases hmem b hb with hb|hb
   ·exact⟨(h.base b hb).1,Nat.lt_of_lt_of_le (h.base b hb).2 hsize⟩
   ·obtain⟨h1,h2⟩:=hbase1 b hb
    refine⟨?_,h2⟩
    rcases h1 with h1|h1
    ·exact .inl (Nat.le_trans h.below.size h1)
    ·exact (h.base b (memN b h1)).1
  ·refine⟨hk.below.os.trans h.below.os,hk.below.tape.trans h.below.tape,hk.below.output.trans h.below.output,Nat.le_trans h.below.size hsize,fun k hk1 hX=>?_,fun k cur e hk1=>?_⟩
   ·refine (hkeep k (Nat.lt_of_lt_of_le hk1 h.below.size) (fun hm=>?_)).trans (h.below.block k hk1 hX)
    rcases (h.base k (memN k hm)).1 with h1|h1
    ·exact Nat.lt_irrefl _ (Nat.lt_of_lt_of_le hk1 h1)
    ·exact hX h1
   ·obtain⟨c1,h1,h2⟩:=h.below.form k cur e hk1
    obtain⟨c2,h3,h4⟩:=hk.below.form k c1 e h1;exact⟨c2,h3,h4.trans h2⟩
  ·obtain⟨b,h1,h2⟩:=h.fixd.2 i hi
   have h3:=(List.getElem?_eq_some_iff.1 h1).1;simp only at hi;exact⟨b,by rw[hG0 i (by rcases hn with hn|⟨_,hn,_⟩<;>omega)];exact h1,h2⟩
  ·simp only at hi
   rcases cases3 i m cs hi with⟨k,m1,c1,b1,hkl,hok,_,_,hki⟩|⟨hio,hin,hir⟩
   ·rcases hki with⟨h1,rfl⟩|⟨h1,h2,rfl⟩
    ·obtain⟨m',cs',_,h4⟩:=there k i h1
     have h3:=(same1 k i b h1).1 (blkOf k i b hkl (.inl h1) hg);have:=h.mark i b m' cs' h3 hX h4;unfold markOf;rw[h4];exact this
    ·have hgk:=blkOf k i b hkl (.inr ⟨h1,h2⟩) hg
     rcases (hbase1 b (List.mem_of_getElem? hgk)).1 with h3|h3
     ·exact absurd hX (h.notX h3)
     ·have hm1:m1=true:=hk.mark k b m1 c1 hgk h3 hok
      rw[hm1,Bool.true_and,List.any_eq_true];obtain⟨k',hk'⟩:=List.mem_iff_getElem?.1 h3;obtain⟨i',hi',hy⟩:=gOfN_get hk';obtain⟨m',cs',_,h5⟩:=there k' i' hi';have h4:=getD_of hy.symm;have:=h.mark i' b m' cs' h4 hX h5;refine⟨i',List.mem_of_getElem? hi',?_⟩
      unfold markOf;rw[h5];exact this
   ·rw[hG0 i hir] at hg
    exact h.mark i b m cs hg hX hio
  ·rcases cases3 i m (cc::cs) hi with⟨k,m1,c1,b1,hkl,hok,hcc,_,hki⟩|⟨hio,hin,hir⟩
   ·obtain⟨b,hb⟩:∃b,g1[k]?=some (some b):=by
     cases c1 with
     |nil=>cases b1<;>cases hcc
     |cons c0 c1=>exact hk.has k m1 c0 c1 hok
    refine⟨b,back k i b ?_ hb⟩
    unfold backN;rcases hki with⟨h1,_⟩|⟨h1,h2,_⟩
    ·rw[h1]
    ·rw[List.getElem?_eq_none h1,h2]
   ·obtain⟨b,hb⟩:=h.has i m cc cs hio
    exact⟨b,hGo i b hb⟩
 exact key.val (fun v hv=>by
  cases hv;exact hTu.ren back foot1)
theorem run_val {nx:Nat} {o:Oper} {v:AV} {Q:Exit→Act→World→Prop} {K:Act→World→Prop} {r:Option AV} (h:Ok ok0 w0 g s a w) (hy:Yes P g (FP ok0 w0.heap.size g) w a o v)
  (hK:∀g' u w',Gr (Eff.upd s nx o.dst r (.val v)) g g'→Ok ok0 w0 g' (s.app (Eff.upd s nx o.dst r (.val v))) (a.put o.dst u) w'→K (a.put o.dst u) w'):Oper.wp P o a w K Q:=by
 obtain⟨u,hrun,hu⟩:=hy;unfold Oper.wp;rw[hrun,Oper.upon_value];exact hK g u w (fun _ _=>rfl) (h.val (fun v' hv=>by cases hv;exact hu))
theorem run_valNew {nx:Nat} {o:Oper} {v:AV} {Q:Exit→Act→World→Prop} {K:Act→World→Prop} {r:Option AV} (h:Ok ok0 w0 g s a w) (hy:YesNew P g (FP ok0 w0.heap.size g) w a o v)
  (hK:∀g' u w',Gr (Eff.upd s nx o.dst r (.val v)) g g'→Ok ok0 w0 g' (s.app (Eff.upd s nx o.dst r (.val v))) (a.put o.dst u) w'→K (a.put o.dst u) w'):Oper.wp P o a w K Q:=by
 obtain⟨u,ob,hrun,hu⟩:=hy;unfold Oper.wp;rw[hrun,Oper.upon_value];exact hK g u _ (fun _ _=>rfl) ((h.move (below_of_alloc w ob)).val (fun v' hv=>by cases hv;exact hu))
theorem Spots.one {u:Upd} {nx:Nat} (hn:Spots g s nx u) (hf:u.fresh=[nx]):Spot g s nx:=hn.imp id (fun h=>⟨h.2.2 nx (by rw[hf];exact List.mem_cons_self),h.2.1⟩)
theorem run_new {nx:Nat} {o:Oper} {cs:List AC} {Q:Exit→Act→World→Prop} {K:Act→World→Prop} {r:Option AV} (h:Ok ok0 w0 g s a w) (hn:Spot g s nx) (hy:News P g (FP ok0 w0.heap.size g) w a o cs)
  (hK:∀g' u w',Gr (Eff.upd s nx o.dst r (.new cs)) g g'→Ok ok0 w0 g' (s.app (Eff.upd s nx o.dst r (.new cs))) (a.put o.dst u) w'→K (a.put o.dst u) w'):Oper.wp P o a w K Q:=by
 obtain⟨cells,t,hrun,hT⟩:=hy;unfold Oper.wp;rw[hrun,Oper.upon_value];obtain⟨hnl,_⟩:=hn.le h;refine hK (setAt g nx (some w.heap.size)) _ _ (fun i hi=>by rw[setAt_get hnl,if_neg (fun e=>hi (by rw[e];exact List.mem_cons_self))]) ((h.grow hn false (t:=t) (by rw[List.take_of_length_le (by rw[hT.1];exact Nat.le_refl _)];exact hT)).val (fun v' hv=>?_))
 cases hv;exact⟨w.heap.size,by rw[setAt_get hnl,if_pos rfl],rfl⟩
theorem Ok.drew' (h:Ok ok0 w0 g s a w):Ok ok0 w0 g s a w.drew:=h.move ⟨rfl,rfl,rfl,Nat.le_refl _,fun _ _=>rfl⟩
def markK (s:St):Option Nat→Bool
 |none=>false
 |some i=>markOf s.own i
theorem row_app {nx:Nat} {d:Option Tmp} {kill:Option Nat} {e k n:Nat} {cs:List AC} {r:Option AV} (hk:∀i,kill=some i→i<s.own.length):s.app (Eff.upd s nx d r (.row kill e k n cs))=({ s with own:=setAt (letGo kill s.own) nx (some (markK s kill,cs)) }:St).put d (some (.g (.one (.sl nx e k n)))):=by
 cases kill with
 |none=>rfl
 |some i =>
  simp only[Eff.upd,St.app,setL,letGo,markK];rw[show setAt s.own i none=s.own.set i none by unfold setAt;rw[show Nat.blt i s.own.length=true from Nat.ble_eq_true_of_le (hk i rfl)];rfl]
theorem row_fresh {nx:Nat} {d:Option Tmp} {kill:Option Nat} {e k n:Nat} {cs:List AC} {r:Option AV}:(Eff.upd s nx d r (.row kill e k n cs)).fresh=[nx]:=by cases kill<;>rfl
theorem run_row {nx:Nat} {o:Oper} {kill:Option Nat} {e k n:Nat} {cs:List AC} {Q:Exit→Act→World→Prop} {K:Act→World→Prop} {r:Option AV} (h:Ok ok0 w0 g s a w) (hn:Spot g s nx) (hy:Made P g (FP ok0 w0.heap.size g) w s a o kill e k n cs) (hkl:∀i,kill=some i→i<s.own.length)
  (hK:∀g' u w',Gr (Eff.upd s nx o.dst r (.row kill e k n cs)) g g'→Ok ok0 w0 g' (s.app (Eff.upd s nx o.dst r (.row kill e k n cs))) (a.put o.dst u) w'→K (a.put o.dst u) w'):Oper.wp P o a w K Q:=by
 obtain⟨_,b,cap,cells,w',hrun,hnc,hcm,hpos,hsz,hT,hw'⟩:=hy;unfold Oper.wp;rw[hrun,Oper.upon_value];rw[row_app hkl] at hK;simp only[Gr,row_fresh] at hK;obtain⟨hnl,_⟩:=hn.le h;have hne:∀(x:Option Nat) i,i ∉ [nx]→(setAt g nx x)[i]?=g[i]?:=fun x i hi=>by rw[setAt_get hnl,if_neg (fun e=>hi (by rw[e];exact List.mem_cons_self))]
 have sl:∀{b:Nat} {w':World},w'.heap[b]?=some (.cells cells e (0,0))→SlOk (setAt g nx (some b)) w' nx e k n (.slice (some ⟨b,0,none⟩) n cap):=fun {b w'} hh=>by
  rcases hpos with h0|h0
  ·exact .inr ⟨h0,b,cap,cells,by rw[setAt_get hnl,if_pos rfl],rfl,hnc,hcm,hh,hsz⟩
  ·have:n=0:=by omega
   subst this;subst h0;exact .inl ⟨rfl,_,rfl⟩
 have hns:Spot g { s with own:=letGo kill s.own } nx:=hn.imp (fun e=>e.trans letGo_len.symm) id;rcases hw' with⟨rfl,rfl|rfl⟩|⟨i,old,c0,rfl,hgb,hown,hwb,hso,rfl⟩
 ·refine hK (setAt g nx (some w.heap.size)) _ _ (hne _) (((h.kill kill).grow hns (markK s kill) (t:=e) hT).val (fun v' hv=>?_))
  cases hv;exact sl (alloc_self _ _)
 ·have hT':TL g (FP ok0 w0.heap.size g) w.drew cs (cells.toList.take cs.length):=hT.mv (⟨fun _ _ h=>h,fun _ _ _=>rfl,fun _ h _=>h,fun i b cur e _ hw=>⟨cur,hw,rfl⟩⟩:Mv g g (FP ok0 w0.heap.size g) (FP ok0 w0.heap.size g) w w.drew)
  refine hK (setAt g nx (some w.drew.heap.size)) _ _ (hne _) (((h.kill kill).drew'.grow hns (markK s kill) (t:=e) hT').val (fun v' hv=>?_))
  cases hv;exact sl (b:=w.drew.heap.size) (alloc_self _ _)
 ·refine hK (setAt g nx (some b)) _ _ (hne _) ((h.taken hn hgb hown hwb hso hT).val (fun v' hv=>?_))
  cases hv;exact sl (setRow_heap w b old cells e (0,0) hwb)
theorem at_lt {i:Nat} {cs:List AC} (h:s.at i=some cs):i<s.own.length:=by
 obtain⟨m,h⟩:=at_own h;exact (List.getElem?_eq_some_iff.1 h).1
theorem setL_one {α:Type} {own:List α} {i:Nat} {x:α} (h:i<own.length):setL own [(i,x)]=own.set i x:=by
 simp only[setL];unfold setAt;rw[show Nat.blt i own.length=true from Nat.ble_eq_true_of_le h];rfl
theorem run_put {nx:Nat} {o:Oper} {i off:Nat} {cs:List AC} {Q:Exit→Act→World→Prop} {K:Act→World→Prop} {r:Option AV} (h:Ok ok0 w0 g s a w) (hy:Puts P g (FP ok0 w0.heap.size g) w s a o i off cs)
  (hK:∀g' u w',Gr (Eff.upd s nx o.dst r (.put i off cs)) g g'→Ok ok0 w0 g' (s.app (Eff.upd s nx o.dst r (.put i off cs))) (a.put o.dst u) w'→K (a.put o.dst u) w'):Oper.wp P o a w K Q:=by
 obtain⟨b,cells,t,us,old,hgb,hold,hle,hw,hT,hc,hrun⟩:=hy;unfold Oper.wp;rw[hrun,Oper.upon_skip];refine hK g _ _ (fun _ _=>rfl) ?_
 have:=(h.stored hgb hold hle hw hT hc).val (d:=o.dst) (x:=none) (u:=undef) (fun v hv=>by cases hv);obtain⟨m,ho⟩:=at_own hold;simp only[Eff.upd,St.app];rw[setL_one (at_lt hold),cellsOf_at ho];exact this
theorem run_set {nx:Nat} {o:Oper} {i off:Nat} {cs old:List AC} {Q:Exit→Act→World→Prop} {K:Act→World→Prop} {r:Option AV} (h:Ok ok0 w0 g s a w) (hy:Puts P g (FP ok0 w0.heap.size g) w s a o i off cs) (hold:s.at i=some old)
  (hK:∀g' u w',Gr (Eff.upd s nx o.dst r (.set i (over old off cs))) g g'→Ok ok0 w0 g' (s.app (Eff.upd s nx o.dst r (.set i (over old off cs)))) (a.put o.dst u) w'→K (a.put o.dst u) w'):Oper.wp P o a w K Q:=by
 obtain⟨b,cells,t,us,old',hgb,hold',hle,hw,hT,hc,hrun⟩:=hy;rw[hold] at hold';cases hold';unfold Oper.wp;rw[hrun,Oper.upon_skip];refine hK g _ _ (fun _ _=>rfl) ?_
 simp only[Eff.upd,St.app];rw[setL_one (at_lt hold)];exact (h.stored hgb hold hle hw hT hc).val (d:=o.dst) (x:=none) (u:=undef) (fun v hv=>by cases hv)
theorem run_call {nx:Nat} {o:Oper} {f:FuncId} {xs:List AG} {us:Array Value} {Q:Exit→Act→World→Prop} {K:Act→World→Prop} {r:Option AV} (h:Ok ok0 w0 g s a w) (hA:TA (FP ok0 w0.heap.size g) w xs us)
  (hrun:(execOp a.eval o).run P w=(callFunc f us).run P w) (ho:(Eff.call f xs).ob P s nx r)
  (hK:∀g' u w',Gr (Eff.upd s nx o.dst r (.call f xs)) g g'→Ok ok0 w0 g' (s.app (Eff.upd s nx o.dst r (.call f xs))) (a.put o.dst u) w'→K (a.put o.dst u) w'):Oper.wp P o a w K Q:=by
 obtain⟨r',rfl,⟨⟨fn,hf,hname,hb⟩,hcon⟩|hcon⟩:=ho
 ·unfold Oper.wp
  rw[hrun,enters_ hf hname hb us w,Oper.upon_enter];refine (hcon _ us w hA).mono ?_
  rintro e w' ⟨u,rfl,hT,hbelow⟩
  exact hK g u w' (fun _ _=>rfl) (h.result hbelow hT)
 ·obtain⟨u,w',h1,hT,hbelow⟩:=hcon _ us w hA
  unfold Oper.wp;rw[hrun,h1,Oper.upon_value];exact hK g u w' (fun _ _=>rfl) (h.result hbelow hT)
theorem run_hand {nx:Nat} {o:Oper} {f:FuncId} {xs:List AG} {hs:List Nat} {fl:List Bool} {r':AV} {out:List (Option (Bool×List AC))} {us:Array Value} {Q:Exit→Act→World→Prop} {K:Act→World→Prop} {r:Option AV} (h:Ok ok0 w0 g s a w) (hn:Spots g s nx (Eff.upd s nx o.dst r (.hand f xs hs fl r' out))) (hA:TB g (FP ok0 w0.heap.size g) w xs us)
  (hd:distN hs=true) (hl:∀i∈hs,∃cs,s.at i=some cs) (hle:hs.length≤out.length) (hp:∀cs∈handPl s.own hs fl++outPl out fl,∀c∈cs,c.noptr=true)
  (hrun:(execOp a.eval o).run P w=(callFunc f us).run P w) (ho:(Eff.hand f xs hs fl r' out).ob P s nx r)
  (hK:∀g' u w',Gr (Eff.upd s nx o.dst r (.hand f xs hs fl r' out)) g g'→Ok ok0 w0 g' (s.app (Eff.upd s nx o.dst r (.hand f xs hs fl r' out))) (a.put o.dst u) w'→K (a.put o.dst u) w'):Oper.wp P o a w K Q:=by
 obtain⟨hlt,rfl,⟨fn,hf,hname,hb⟩,hcon⟩:=ho;unfold Oper.wp;rw[hrun,enters_ hf hname hb us w,Oper.upon_enter];refine (hcon _ us w (gOfN g hs) (h.hand_in hd hl (fun cs hc=>hp cs (List.mem_append_left _ hc)) hA)).mono ?_
 rintro e w' ⟨u,g1,rfl,hk⟩
 rw[handIn_len] at hk;have hn':nx=s.own.length∨(nx≤s.own.length∧s.fix≤nx∧∀j,j<out.length-hs.length→g[nx+j]?=some none):=hn.imp id (fun⟨h1,h3,h2⟩=>⟨h1,h3,fun j hj=>h2 _ (List.mem_map.2 ⟨j,List.mem_range.2 hj,rfl⟩)⟩);have hol:out.length=g1.length:=hk.own.1;refine hK _ u w' (fun i hi=>?_) (h.hand_out hd hl hle hlt (fun cs hc=>hp cs (List.mem_append_right _ hc)) hn' _ _ hk)
 have hgl:g.length=s.own.length:=h.own.1.symm;have hdl:(g1.drop hs.length).length=out.length-hs.length:=by rw[List.length_drop,hol]
 rw[(addL_get (g1.drop hs.length) g nx (by rcases hn' with hn'|hn'<;>omega) (by
  rcases hn' with hn'|⟨h1,_,h2⟩
  ·omega
  ·by_cases h0:out.length-hs.length=0
   ·omega
   ·have:=(List.getElem?_eq_some_iff.1 (h2 (out.length-hs.length-1) (by omega))).1
    omega)).2,hdl,if_neg]
 rintro⟨h1,h2⟩
 exact hi (List.mem_map.2 ⟨i-nx,List.mem_range.2 (by omega),by omega⟩)
theorem TG.scal {ok ok':Nat→Prop} {x:AG} {u:Value} (hs:x.scal=true) (h:TG [] ok w x u):TG [] ok' w x u:=by
 have key:∀(c:AC) v,c.scal=true→TC [] ok w c v→TC [] ok' w c v:=fun c v hc ht=>by
  cases c with
  |v y =>
   have:=ht.v_eq;subst this;exact TC.of_v ht.one
  |_=>cases hc
 cases x with
 |one c=>exact key c u (by simpa[AG.scal,AG.cells] using hs) h
 |agg cs =>
  obtain⟨us,rfl,hl,h⟩:=h;exact⟨us,rfl,hl,fun j c v hc hv=>key c v (List.all_eq_true.1 hs c (List.mem_of_getElem? hc)) (h j c v hc hv)⟩
theorem TV.scal {ok ok':Nat→Prop} {r:AV} {u:Value} (hs:r.scal=true) (h:TV [] ok w r u):TV [] ok' w r u:=by
 cases r with
 |g x=>exact TG.scal hs h
 |tup xs =>
  obtain⟨us,rfl,hl,h⟩:=h;exact⟨us,rfl,hl,fun j x y hx hy=>TG.scal (List.all_eq_true.1 hs x (List.mem_of_getElem? hx)) (h j x y hx hy)⟩
theorem run_callP {nx:Nat} {o:Oper} {f:FuncId} {xs:List AG} {us:Array Value} {Q:Exit→Act→World→Prop} {K:Act→World→Prop} {r:Option AV} (h:Ok ok0 w0 g s a w) (hA:TA (fun k=>FP ok0 w0.heap.size g k∨some k∈g) w xs us)
  (hrun:(execOp a.eval o).run P w=(callFunc f us).run P w) (ho:(Eff.callP f xs).ob P s nx r)
  (hK:∀g' u w',Gr (Eff.upd s nx o.dst r (.callP f xs)) g g'→Ok ok0 w0 g' (s.app (Eff.upd s nx o.dst r (.callP f xs))) (a.put o.dst u) w'→K (a.put o.dst u) w'):Oper.wp P o a w K Q:=by
 obtain⟨r',rfl,⟨⟨fn,hf,hname,hb⟩,hcon⟩|hcon,hs⟩:=ho
 ·unfold Oper.wp
  rw[hrun,enters_ hf hname hb us w,Oper.upon_enter];refine (hcon _ us w hA).mono ?_
  rintro e w' ⟨u,rfl,hT,hbelow⟩
  exact hK g u w' (fun _ _=>rfl) (h.result hbelow (hT.scal hs))
 ·obtain⟨u,w',h1,hT,hbelow⟩:=hcon _ us w hA
  unfold Oper.wp;rw[hrun,h1,Oper.upon_value];exact hK g u w' (fun _ _=>rfl) (h.result hbelow (hT.scal hs))
theorem oper_ok {nx:Nat} {o:Oper} {az as':List Ans} {p:List Prop} {e:Eff} {Q:Exit→Act→World→Prop} {K:Act→World→Prop} {r:Option AV} (hL:LaysOk P L) (h:Ok ok0 w0 g s a w) (hn:Spots g s nx (e.upd s nx o.dst r)) (he:evOp L s az o=some (p,e,as')) (hp:allP p) (ho:e.ob P s nx r)
  (hK:∀g' u w',Gr (e.upd s nx o.dst r) g g'→Ok ok0 w0 g' (s.app (e.upd s nx o.dst r)) (a.put o.dst u) w'→K (a.put o.dst u) w'):Oper.wp P o a w K Q:=by
 have vals:(∃v,e=.val v∧Yes P g (FP ok0 w0.heap.size g) w a o v)→Oper.wp P o a w K Q:=by
  rintro⟨v,rfl,hy⟩
  exact run_val h hy hK
 have rows:∀kill t k n cs,e=.row kill t k n cs→Made P g (FP ok0 w0.heap.size g) w s a o kill t k n cs→Oper.wp P o a w K Q:=by
  rintro kill t k n cs rfl hy
  refine run_row h (hn.one row_fresh) hy (fun i hi=>?_) hK
  subst hi;obtain⟨c,hc⟩:=hy.1 i rfl;exact at_lt hc
 cases hop:o.op with
 |nilCheck x=>exact vals (nil_ok hop h.regs he)
 |move x=>exact vals (small_ok hL h.regs hp he (.inl ⟨x,hop⟩))
 |assign x=>exact vals (small_ok hL h.regs hp he (.inr (.inl ⟨x,hop⟩)))
 |pick c x y=>exact vals (small_ok hL h.regs hp he (.inr (.inr (.inl ⟨c,x,y,hop⟩))))
 |binOp f t x y u=>exact vals (small_ok hL h.regs hp he (.inr (.inr (.inr (.inl ⟨f,t,x,y,u,hop⟩)))))
 |unOp f t x=>exact vals (small_ok hL h.regs hp he (.inr (.inr (.inr (.inr ⟨f,t,x,hop⟩)))))
 |fieldAddr t x f=>exact vals (fieldAddr_ok hL hop h.regs he)
 |field t x f=>exact vals (field_ok hL hop h.regs he)
 |indexAddr t x i=>exact vals (indexAddr_ok hL hop h.regs he hp)
 |convert t u x=>exact vals (conv_ok hL hop h.regs he)
 |extract x i=>exact vals (extract_ok hop h.regs he)
 |makeFunc fn fi ca=>exact vals (makeFunc_ok hop h.regs he)
 |index t x i=>exact vals (index_ok hL hop h.regs he hp)
 |slice t x lo hi mx =>
  cases mx with
  |none=>exact vals (slice_ok hL hop h.regs he hp)
  |some m=>simp only[evOp,hop] at he;cases he
 |build t ps=>exact vals (build_ok hL hop h.regs he)
 |load t x =>
  simp only[evOp,hop] at he;split at he
  ·rename_i y xv hy hx
   exact vals (load_ok hop (hL _ _ hy) hx he h.regs h.own hp)
  ·cases he
 |buildSlice t n ps =>
  rcases buildSlice_ok hL hop h.regs h.new he with⟨v,rfl,hy⟩|⟨kill,t',k,n,cs,rfl,hy⟩
  ·exact run_valNew h hy hK
  ·exact rows kill t' k n cs rfl hy
 |alloc t =>
  obtain⟨cs,rfl,hy⟩:=alloc_ok (g:=g) (ok:=FP ok0 w0.heap.size g) (w:=w) (a:=a) hL hop he;exact run_new h (hn.one rfl) hy hK
 |makeSlice t x y =>
  obtain⟨kill,t',k,n,cs,rfl,hy⟩:=makeSlice_ok hL hop h.regs he hp;exact rows kill t' k n cs rfl hy
 |box t x =>
  obtain⟨cs,rfl,hy⟩:=box_ok hop h.regs he;exact run_new h (hn.one rfl) hy hK
 |store t x y =>
  obtain⟨i,off,cs,hy,rfl|⟨old,hold,rfl⟩⟩:=store_ok hL hop h.regs h.own hp he
  ·exact run_put h hy hK
  ·exact run_set h hy hold hK
 |call c =>
  cases hc:c.callee with
  |value x =>
   obtain⟨f,us,hrun,⟨xs,rfl,hA⟩|⟨xs,rfl,hA⟩|⟨xs,hs,fl,r',out,rfl,hA,h1,h2,h3,h4⟩⟩:=call_ok hop hc h.regs h.own he hp
   ·exact run_call h hA hrun ho hK
   ·exact run_callP h hA hrun ho hK
   ·exact run_hand h hn hA h1 h2 h3 h4 hrun ho hK
  |builtin b =>
   cases b with
   |append =>
    rcases append_ok hL hop hc h.regs h.own he hp with h9|⟨kill,t',k,n,cs,rfl,hy⟩
    ·exact vals h9
    ·exact rows kill t' k n cs rfl hy
   |len=>exact vals (call_len_ok hL hop hc h.regs he)
   |max=>exact vals (max_ok hop hc (.inl rfl) h.regs he)
   |min=>exact vals (max_ok hop hc (.inr rfl) h.regs he)
   |_=>simp only[evOp,hop,hc] at he;cases he
  |invoke x m=>simp only[evOp,hop,hc] at he;cases he
 |_=>simp only[evOp,hop] at he;cases he
end
end
section
def St.bool (s:St) (t:Tmp):Option Bool:=match s.regs[t]? with
 |some (some (.g (.one (.v (.bool b)))))=>some b
 |_=>none
def want (s:St) (ops:Array Oper) (o:Oper):Option Bool:=match o.guard with
 |none=>some true
 |some (j,x)=>match (ops[j]?).bind (·.dst) with
  |some t=>match s.regs[t]? with
   |some (some (.g (.one (.v (.bool b)))))=>some (bif x then b else !b)
   |some (some (.tup []))=>some false
   |_=>none
  |none=>none
def isG (ops:List Oper) (i:Nat):Bool:=ops.any fun o=>match o.guard with
 |some (j,_)=>Nat.beq j i
 |none=>false
inductive Dem where
 |call (f:FuncId) (xs:List AG) (r:AV)
 |hand (f:FuncId) (xs:List AG) (own:List (Option (Bool×List AC))) (r:AV) (out:List (Option (Bool×List AC)))
 |test (b b':Bool)
 |prop (p:Prop)
 |code (c:Code) (p:St) (e:Exit) (q:St) (pl:List (List AC))
def CodeCon (P:Program) (c:Code) (p:St) (e:Exit) (q:St):Prop:=∀(ok0:Nat→Prop) (w0:Base) (g:List (Option Nat)) (a:Act) (w:World) (Q:Exit→Act→World→Prop),Ok ok0 w0 g p a w→(∀g' a' w',Ok ok0 w0 g' q a' w'→Q e a' w')→c.wp P Q a w
def Dem.so (P:Program):Dem→Prop
 | .call f xs r=>Con P f xs r
 | .hand f xs own r out=>ConH P f xs own r out
 | .test b b'=>b=b'
 | .prop p=>p
 | .code c p e q pl=>CodeCon P c p e q∧∀cs∈pl,∀c∈cs,c.noptr=true
def Sos (P:Program) (ds:List Dem):Prop:=∀d∈ds,d.so P
structure Prf (P:Program) where
 az:List Ans
 d:Dem
 so:d.so P
def Prf.ans {P:Program}:List (Prf P)→List Ans
 |[]=>[]
 |p::r=>p.az++Prf.ans r
def Prf.dem {P:Program}:List (Prf P)→List Dem
 |[]=>[]
 |p::r=>p.d::Prf.dem r
theorem Prf.sos {P:Program}:∀l:List (Prf P),Sos P (Prf.dem l)
 |[],d,h=>by cases h
 |p::r,d,h=>by
  rcases List.mem_cons.1 h with rfl|h
  ·exact p.so
  ·exact Prf.sos r d h
def tested (g:Bool) (u:Upd) (az:List Ans) (ds:List Dem):Option (Upd×List Ans×List Dem):=bif g then (match u.v,az with
 |some (.g (.one (.v (.bool b)))),.test b'::az=>some (⟨u.d,some (.g (.one (.v (.bool b')))),u.sets,u.fresh,u.needs⟩,az,ds++[.test b b'])
 |_,_=>none) else some (u,az,ds)
def news:List Oper→Nat
 |[]=>0
 |o::r=>match o.op with
  | .alloc _=>news r+1
  | .box _ _=>news r+1
  | .makeSlice _ _ _=>news r+1
  | .call c=>(match c.callee with
    | .builtin .append=>news r+1
    |_=>news r)
  |_=>news r
def step1 (L:Lays) (ops:Array Oper) (nx:Nat) (g:Bool) (o:Oper) (s:St) (az:List Ans):Option (Upd×List Ans×List Dem):=match want s ops o with
 |none=>none
 |some t=>bif t then (match evOp L s az o with
  |none=>none
  |some (ps,e,az)=>match e with
   | .call f xs=>(match az with
     | .res r::az=>tested g (Eff.upd s nx o.dst (some r) (.call f xs)) az (ps.map .prop++[.call f xs r])
     |_=>none)
   | .callP f xs=>(match az with
     | .res r::az=>bif r.scal then tested g (Eff.upd s nx o.dst (some r) (.callP f xs)) az (ps.map .prop++[.call f xs r]) else none
     |_=>none)
   | .hand f xs hs fl r out=>bif !(hs.all fun i=>Nat.blt i nx) then none else tested g (Eff.upd s nx o.dst (some (renV (backN hs nx) r)) (.hand f xs hs fl r out)) az (ps.map .prop++[.hand f (xs.map (renG (idxF 0 hs))) (handIn s.own (idxF 0 hs) hs fl) r out])
   |e=>tested g (Eff.upd s nx o.dst none e) az (ps.map .prop)) else some (⟨o.dst,some (.tup []),[],[],[]⟩,az,[])
def runL (L:Lays) (ops:Array Oper):Nat→List Oper→St→List Ans→Option (St×List Ans×List Dem)
 |_,[],s,az=>some (s,az,[])
 |i,o::r,s,az=>match step1 L ops s.own.length (isG ops.toList i) o s az with
  |none=>none
  |some (u,az,ds)=>match runL L ops (i+1) r (s.app u) az with
   |none=>none
   |some (s,az,ds')=>some (s,az,ds++ds')
section
variable {P:Program} {L:Lays} {ok ok0:Nat→Prop} {w0:Base} {w w':World} {g:List (Option Nat)} {s:St} {a:Act} {ops:Array Oper}
theorem bool_at {t:Tmp} {b:Bool} (h:s.bool t=some b) (hr:RegsOk g ok w s.regs a.tmps):a.tmps[t]?=some (.bool b):=by
 unfold St.bool at h;split at h
 ·rename_i b' hb
  cases h;obtain⟨u,hu,hT⟩:=hr.2 t _ hb;have:=TC.v_eq (show TC g ok w _ _ from hT);rw[hu,this]
 ·cases h
theorem want_at {o:Oper} {t:Bool} (h:want s ops o=some t) (hr:RegsOk g ok w s.regs a.tmps):Region.wanted o (yielded ops a.tmps)=t:=by
 unfold want at h;unfold Region.wanted;split at h
 ·rename_i hg
  rw[hg];cases h;rfl
 ·rename_i j x hg
  rw[hg];split at h
  ·rename_i t' ht
   split at h
   ·rename_i b hb
    cases h;have:=bool_at (t:=t') (b:=b) (by unfold St.bool;rw[hb]) hr;simp only[yielded,ht,Option.bind_some,this];cases x<;>cases b<;>rfl
   ·rename_i hb
    cases h;obtain⟨u,hu,us,rfl,_,_⟩:=hr.2 t' _ hb;simp only[yielded,ht,Option.bind_some,hu];cases x<;>rfl
   ·cases h
  ·cases h
theorem Sos.left {ds ds':List Dem} (h:Sos P (ds++ds')):Sos P ds:=fun d hd=>h d (List.mem_append_left _ hd)
theorem Sos.right {ds ds':List Dem} (h:Sos P (ds++ds')):Sos P ds':=fun d hd=>h d (List.mem_append_right _ hd)
theorem Sos.props {ps:List Prop} {ds:List Dem} (h:Sos P (ps.map .prop++ds)):allP ps:=by
 induction ps with
 |nil=>trivial
 |cons p r ih=>exact⟨h (.prop p) List.mem_cons_self,ih (fun d hd=>h d (List.mem_cons_of_mem _ hd))⟩
theorem tested_at {gd:Bool} {az as':List Ans} {ds ds':List Dem} {u u0:Upd} (h:tested gd u0 az ds=some (u,as',ds')):(∃r,ds'=ds++r)∧(Sos P ds'→u=u0):=by
 unfold tested at h;cases gd with
 |false=>cases h;exact⟨⟨[],by simp⟩,fun _=>rfl⟩
 |true =>
  simp only[cond_true] at h;split at h
  ·rename_i b b' as3 hv
   cases h;refine⟨⟨_,rfl⟩,fun hs=>?_⟩
   have:b=b':=hs (.test b b') (by simp);rw[←this,←hv]
  ·cases h
theorem step1_at {nx:Nat} {gd:Bool} {o:Oper} {az as':List Ans} {ds:List Dem} {u:Upd} {Q:Exit→Act→World→Prop} {N:Act→World→Prop} (hL:LaysOk P L) (hok:Ok ok0 w0 g s a w) (hn:Spots g s nx u) (h:step1 L ops nx gd o s az=some (u,as',ds)) (hd:Sos P ds)
  (hN:∀g' v w',Gr u g g'→Ok ok0 w0 g' (s.app u) (a.put o.dst v) w'→N (a.put o.dst v) w'):if Region.wanted o (yielded ops a.tmps)=true then Oper.wp P o a w N Q else N (a.put o.dst undef) w:=by
 unfold step1 at h;split at h
 ·cases h
 ·rename_i t ht
  rw[want_at ht hok.regs];cases t with
  |false =>
   cases h;exact hN g undef w (fun _ _=>rfl) (hok.val (fun v hv=>by cases hv;exact⟨#[],rfl,rfl,fun j x y hx=>by cases hx⟩))
  |true =>
   simp only[cond_true] at h;rw[if_pos rfl];split at h
   ·cases h
   ·rename_i ps e as1 he
    have fin:∀{r:Option AV} {ds0:List Dem} {as1:List Ans},tested gd (Eff.upd s nx o.dst r e) as1 (ps.map .prop++ds0)=some (u,as',ds)→(Sos P ds0→e.ob P s nx r)→Oper.wp P o a w N Q:=by
     intro r ds0 as1 ht ho;obtain⟨⟨x,hx⟩,hu⟩:=tested_at (P:=P) ht;have:=hu hd;subst this;rw[hx] at hd;have hd:=hd.left;exact oper_ok hL hok hn he hd.props (ho hd.right) hN
    split at h
    ·rename_i f xs
     split at h
     ·rename_i r as2
      exact fin h (fun hs=>⟨r,rfl,hs (.call f xs r) (by simp)⟩)
     ·cases h
    ·rename_i f xs
     split at h
     ·rename_i r as2
      cases hsc:r.scal with
      |false=>rw[hsc] at h;cases h
      |true =>
       rw[hsc] at h;exact fin h (fun hs=>⟨r,rfl,hs (.call f xs r) (by simp),hsc⟩)
     ·cases h
    ·rename_i f xs hs fl r out
     cases hb:hs.all fun i=>Nat.blt i nx with
     |false=>rw[hb] at h;cases h
     |true =>
      rw[hb] at h;exact fin h (fun hs'=>⟨fun i hi=>Nat.le_of_ble_eq_true (List.all_eq_true.1 hb i hi),rfl,hs' (.hand f _ _ r out) (by simp)⟩)
    ·rename_i h1 h2 h3
     refine fin (r:=none) (ds0:=[]) (by simpa using h) (fun _=>?_)
     cases e with
     |call f xs=>exact absurd rfl (h1 _ _)
     |callP f xs=>exact absurd rfl (h2 _ _)
     |hand f xs hs fl r out=>exact absurd rfl (h3 _ _ _ _ _ _)
     |_=>trivial
theorem runL_at {Q:Exit→Act→World→Prop} (hL:LaysOk P L):∀{l:List Oper} {i:Nat} {s s':St} {az as':List Ans} {ds:List Dem} {g:List (Option Nat)} {a:Act} {w:World},Ok ok0 w0 g s a w→runL L ops i l s az=some (s',as',ds)→Sos P ds →
  (∀g' a' w',Ok ok0 w0 g' s' a' w'→Q .normal a' w')→wpList P ops Q l a w
 |[],i,s,s',az,as',ds,g,a,w,hok,h,hd,hQ=>by
  cases h;exact hQ _ _ _ hok
 |o::r,i,s,s',az,as',ds,g,a,w,hok,h,hd,hQ=>by
  unfold runL at h;split at h
  ·cases h
  ·rename_i u as1 ds1 h1
   split at h
   ·cases h
   ·rename_i s2 as2 ds2 h2
    cases h;exact wpList_step fun N hN=>step1_at hL hok (.inl rfl) h1 hd.left (fun g' v w' _ hk=>hN _ _ (runL_at hL hk h2 hd.right hQ))
end
end
end Go.Proofs.YtjfkhbkddenfoaaGreat.Ev
