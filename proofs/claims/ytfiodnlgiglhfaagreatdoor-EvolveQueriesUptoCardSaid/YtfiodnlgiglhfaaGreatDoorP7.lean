/- Rows of the call's own whose elements have rows. -/
import Derived.Test.YtfiodnlgiglhfaaGreatDoorP5
namespace Go.Proofs.YtfiodnlgiglhfaaGreatDoor
set_option maxRecDepth 100000
set_option maxHeartbeats 16000000
open Go.RowKit Go.Deep
set_option linter.unusedVariables false
set_option linter.unusedSimpArgs false
structure RK (α:Type)where
 e:Nat
 size:Nat
 es:Nat
 ss:Nat
 f:α×Value→List D
 n:α→Nat
 ds:α→List D
structure RW {α:Type}(K:RK α)(w:World)(B:Nat)(v:Value)(l:List (α×Value)):Prop where
 kr:OL w B NoB K.e K.size v l.length (l.flatMap K.f)
 fr:∀p∈l,OL w B NoB K.es K.ss p.2 (K.n p.1) (K.ds p.1)
 ne:∀(i j:Nat)(p q:α×Value),l[i]? =some p→l[j]? =some q→i≠j→p.2.ownBlock=none∨p.2.ownBlock≠q.2.ownBlock
section
variable {α:Type}{K:RK α}{w:World}{B:Nat}{v:Value}{l:List (α×Value)}
theorem RW.nil (K:RK α)(w:World)(B:Nat):RW K w B (.slice none 0 0) []:=⟨.nil _ _ _ _ _,fun p hp=>by simp at hp,fun i j p q hp=>by simp at hp⟩
theorem RW.stay {w2:World}(h:RW K w B v l)(hb:Bw w w2):RW K w2 B v l:=⟨h.kr.stay hb,fun p hp=>(h.fr p hp).stay hb,h.ne⟩
theorem RW.far {p:Addr}{x:Value}(h:RW K w B v l)(hp:p.block<B):RW K (w.setCell p x) B v l:=
 ⟨h.kr.setCell (fun e=>by have:=(h.kr.lt _ e).1;omega) (fun h=>h) _,fun q hq=>(h.fr q hq).setCell (fun e=>by have:=((h.fr q hq).lt _ e).1;omega) (fun h=>h) _,h.ne⟩
theorem RW.base {B':Nat}(h:RW K w B v l)(hB:B'≤B):RW K w B' v l:=⟨h.kr.base hB,fun p hp=>(h.fr p hp).base hB,h.ne⟩
theorem RW.kept {w1:World}{row:Option Nat}(h:RW K w B v l)(hg:w.grownBy w1 row)(h1:v.ownBlock=none∨v.ownBlock≠row)(h2:∀p∈l,p.2.ownBlock=none∨p.2.ownBlock≠row):RW K w1 B v l:=
 ⟨h.kr.kept hg h1 (fun _ hb=>hb.elim),fun p hp=>(h.fr p hp).kept hg (h2 p hp) (fun _ hb=>hb.elim),h.ne⟩
theorem get_snoc {β:Type}{l:List β}{y:β}{a:Nat}{x:β}(hx:(l++[y])[a]? =some x):(a<l.length∧l[a]? =some x)∨(a=l.length∧x=y):=by
 by_cases ha:a<l.length
 ·rw[zS ha]at hx;exact .inl ⟨ha,hx⟩
 ·rw[zP (by omega)]at hx;have:=(zC.1 hx).1;simp at this;have e:a-l.length=0:=by omega
  rw[e]at hx;exact .inr ⟨by omega,by simpa using hx.symm⟩
theorem RW.snoc {w1:World}{v' u:Value}{t:α}(hK:K.e≠K.es)(h:RW K w B v l)(hg:w.grownBy w1 v.ownBlock)(hv:OL w1 B NoB K.e K.size v' (l.length+1) (l.flatMap K.f++K.f (t,u)))
  (hu:OL w B NoB K.es K.ss u (K.n t) (K.ds t))(hne:∀p∈l,u.ownBlock=none∨u.ownBlock≠p.2.ownBlock):RW K w1 B v' (l++[(t,u)]):=by
 refine⟨by simpa using hv,fun p hp=>?_,?_⟩
 ·rcases zM.1 hp with hp |hp
  ·exact(h.fr p hp).kept hg ((h.fr p hp).ne h.kr (fun e=>hK e.symm)) (fun _ hb=>hb.elim)
  ·simp at hp;subst hp;exact hu.kept hg (hu.ne h.kr (fun e=>hK e.symm)) (fun _ hb=>hb.elim)
 ·intro a b x y hx hy hab;rcases get_snoc hx with⟨h1,h2⟩|⟨h1,rfl⟩
  ·rcases get_snoc hy with⟨h3,h4⟩|⟨h3,rfl⟩
   ·exact h.ne a b x y h2 h4 hab
   ·exact ne_sym (hne x (zA h2))
  ·rcases get_snoc hy with⟨h3,h4⟩|⟨h3,rfl⟩
   ·exact hne y (zA h4)
   ·omega
end
def icD (p:It×Value):List D:=[.v (.bool p.1.neg),.v p.2,.v (.string p.1.v),.v (.int .i64 p.1.lo),.v (.int .i64 p.1.hi)]
def rcD (p:List Nd×Value):List D:=[.v p.2]
def KI:RK It:=⟨54,5,9,1,icD,fun x=>x.tys.length,fun x=>x.tys.flatMap strD⟩
def KR:RK (List Nd):=⟨29,1,81,6,rcD,fun t=>t.length,fun t=>t.flatMap ndD⟩
theorem KI_ne:KI.e≠KI.es:=by decide
theorem KR_ne:KR.e≠KR.es:=by decide
theorem elIt:ElT Tryz.prog 26 54 5 64:=.of Tryz.underlying26 (by kernel_rfl) (by omega)
theorem elRe:ElT Tryz.prog 30 29 1 24:=.of Tryz.underlying30 (by kernel_rfl) (by omega)
theorem ic_rd (w:World)(G:Nat→Prop)(x:It)(A:Option Addr)(n c:Nat):RdL w G (itV x (.slice A n c)) (icD (x,.slice A n c)):=⟨.v _ rfl,.v _ rfl,.v _ rfl,.v _ rfl,.v _ rfl,trivial⟩
theorem rc_rd (w:World)(G:Nat→Prop)(t:List Nd)(A:Option Addr)(n c:Nat):RdL w G [.slice A n c] (rcD (t,.slice A n c)):=⟨.v _ rfl,trivial⟩
def quV (q:Qy)(v1 v2 v3:Value)(by_:ByteArray):List Value:=[v1,.int .i64 q.mode,.int .i64 q.after,v2,.int .i64 q.within,.string by_,v3]
def zqV:List Value:=[.slice none 0 0,.int .i64 0,.int .i64 0,.slice none 0 0,.int .i64 0,.string ⟨#[]⟩,.slice none 0 0]
theorem aggQu:AggT Tryz.prog 32 7:=⟨_,Tryz.underlying32,rfl,by kernel_rfl⟩
structure OQ (w:World)(B:Nat)(v1 v2 v3:Value)(l:List (It×Value))(wh:List Nd)(rl:List (List Nd×Value)):Prop where
 i:RW KI w B v1 l
 wr:OL w B NoB 81 6 v2 wh.length (wh.flatMap ndD)
 r:RW KR w B v3 rl
 ne:∀p∈rl,v2.ownBlock=none∨v2.ownBlock≠p.2.ownBlock
theorem OQ.stay {w w2:World}{B:Nat}{v1 v2 v3:Value}{l:List (It×Value)}{wh:List Nd}{rl:List (List Nd×Value)}(h:OQ w B v1 v2 v3 l wh rl)(hb:Bw w w2):OQ w2 B v1 v2 v3 l wh rl:=⟨h.i.stay hb,h.wr.stay hb,h.r.stay hb,h.ne⟩
theorem OQ.base {w:World}{B B':Nat}{v1 v2 v3:Value}{l:List (It×Value)}{wh:List Nd}{rl:List (List Nd×Value)}(h:OQ w B v1 v2 v3 l wh rl)(hB:B'≤B):OQ w B' v1 v2 v3 l wh rl:=⟨h.i.base hB,h.wr.base hB,h.r.base hB,h.ne⟩
def TQPost (o:Option Qy)(w:World)(e:Ending)(w':World):Prop:=∃vs,e=.returned (.tuple #[.agg ⟨vs⟩,.bool o.isSome])∧(o=none→vs=zqV)∧(∀q,o=some q→∃v1 v2 v3 l rl,vs=quV q v1 v2 v3 q.by_∧OQ w' w.heap.size v1 v2 v3 l q.wh rl∧l.map (·.1)=q.items∧rl.map (·.1)=q.ret)∧Bw w w'
section
variable {w0 w W w1:World}{B gt g:Nat}{F:Nat→Prop}{A:Option Addr}{c:Nat}{S:List Td}{T:List Kd}{nl:List Ls}{q:Qy}{s:Sl3}{vs:List Value}
end
structure QB2 (w0 w:World)(vs:List Value):Prop where
 hb:Bw w0 w
 b2:Blk w w0.heap.size 32 zqV
 b4:Blk w (w0.heap.size+1) 32 vs
section
variable {w0 w W w1:World}{vs:List Value}
theorem QB2.stay (h:QB2 w0 w vs)(hb:Bw w W):QB2 w0 W vs:=⟨h.hb.trans (hb.mono h.hb.size),h.b2.stay hb,h.b4.stay hb⟩
theorem QB2.grown {row:Option Nat}(h:QB2 w0 w vs)(hg:w.grownBy w1 row)(hr:∀q,row=some q→w0.heap.size+1+1≤q):QB2 w0 w1 vs:=
 ⟨h.hb.grown hg h.hb.size (fun q hq=>by have:=hr q hq;omega),h.b2.grown hg (fun e=>by have:=hr _ e.symm;omega),h.b4.grown hg (fun e=>by have:=hr _ e.symm;omega)⟩
theorem QB2.put (h:QB2 w0 w vs)(k:Nat)(x:Value):QB2 w0 (w.setCell ⟨w0.heap.size+1,k,none⟩ x) (vs.set k x):=
 ⟨h.hb.setCell (by show w0.heap.size≤w0.heap.size+1;omega) _,h.b2.far (by show w0.heap.size≠w0.heap.size+1;omega) _,h.b4.set_ k x⟩
end
def AT (q:Qy)(j:Nat):List ByteArray:=(q.items.take j).flatMap (·.tys)
theorem AT_next {q:Qy}{j:Nat}{it:It}(h:q.items[j]? =some it):AT q (j+1)=AT q j++it.tys:=by
 unfold AT;rw[zJ,h,xD];simp
theorem AT_len (q:Qy)(j:Nat):(AT q j).length≤(q.items.map fun x=>x.tys.length).sum:=by
 unfold AT;rw[List.length_flatMap];have h1:(q.items.take j).map (fun x=>x.tys.length)=(q.items.map fun x=>x.tys.length).take j:=by rw[List.map_take]
 rw[h1];clear h1;generalize (q.items.map fun x=>x.tys.length)=m;induction m generalizing j with
 |nil=>simp
 |cons a m ih=>
  cases j with
  |zero=>simp
  |succ j=>rw[List.take_succ_cons,List.sum_cons,List.sum_cons];have:=ih j;omega
structure L1 (w0 w:World)(S:List Td)(T:List Kd)(q:Qy)(v2:Value)(j:Nat)(va v1:Value)(l:List (It×Value)):Prop where
 qs:QB2 w0 w (quV q v1 v2 (.slice none 0 0) q.by_)
 it:RW KI w (w0.heap.size+1+1) v1 l
 al:OL w (w0.heap.size+1+1) NoB 9 1 va (AT q j).length ((AT q j).flatMap strD)
 na:∀p∈l,p.2.ownBlock=none∨p.2.ownBlock≠va.ownBlock
 eq:l.map (·.1)=(q.items.take j).map (itT S T)
section
variable {w0 w W w1:World}{S:List Td}{T:List Kd}{q:Qy}{v2:Value}{j:Nat}{va v1:Value}{l:List (It×Value)}
theorem L1.stay (h:L1 w0 w S T q v2 j va v1 l)(hb:Bw w W):L1 w0 W S T q v2 j va v1 l:=⟨h.qs.stay hb,h.it.stay hb,h.al.stay hb,h.na,h.eq⟩
theorem L1.all {it:It}{va':Value}(h:L1 w0 w S T q v2 j va v1 l)(hi:q.items[j]? =some it)(hg:w.grownBy w1 va.ownBlock)(hO:OL w1 (w0.heap.size+1+1) NoB 9 1 va' ((AT q j).length+it.tys.length) ((AT q j).flatMap strD++it.tys.flatMap strD))(ha:va'.ownBlock=va.ownBlock∨va'.ownBlock=some w.heap.size):
  QB2 w0 w1 (quV q v1 v2 (.slice none 0 0) q.by_)∧RW KI w1 (w0.heap.size+1+1) v1 l∧OL w1 (w0.heap.size+1+1) NoB 9 1 va' (AT q (j+1)).length ((AT q (j+1)).flatMap strD)∧(∀p∈l,p.2.ownBlock=none∨p.2.ownBlock≠va'.ownBlock):=by
 refine⟨h.qs.grown hg (fun q hq=>(h.al.lt q hq).1),h.it.kept hg (h.it.kr.ne h.al (by decide)) h.na,by rw[AT_next hi,zH,xD];exact hO,fun p hp=>?_⟩;rcases ha with e |e
 ·rw[e];exact h.na p hp
 ·rw[e];cases hq:p.2.ownBlock with
  |none=>exact .inl rfl
  |some q=>
   refine .inr fun he=>?_
   injection he with he
   have:=((h.it.fr p hp).lt q hq).2;omega
end
structure IN (W2 w:World)(gi:Nat)(it:It)(k:Nat)(T:List ByteArray)(u:Value):Prop where
 hg:W2.grownBy w (some gi)
 bi:Blk w gi 54 [.bool it.neg,u,.string it.v,.int .i64 it.lo,.int .i64 it.hi]
 ou:OL w W2.heap.size NoB 9 1 u k ((T.take k).flatMap strD)
 lt:gi<W2.heap.size
section
variable {W2 w W w1:World}{gi k:Nat}{it:It}{T:List ByteArray}{u v':Value}
theorem grown_ext {row:Option Nat}{g:Nat}(h:W2.grownBy w (some g))(hg:w.grownBy w1 row)(hr:∀q,row=some q→W2.heap.size≤q∨q=g):W2.grownBy w1 (some g):=
 ⟨hg.os.trans h.os,hg.tape.trans h.tape,hg.output.trans h.output,zU h.size hg.size,fun k hk hne=>by
  refine(hg.block k (zF hk h.size) fun e=>?_).trans (h.block k hk hne);rcases hr k e.symm with h1 |h1
  ·omega
  ·exact hne (by rw[h1])⟩
theorem IN.stay (h:IN W2 w gi it k T u)(hb:Bw w W):IN W2 W gi it k T u:=⟨grown_ext h.hg (row:=none) (Below.grown_none hb) (fun q hq=>by cases hq),h.bi.stay hb,h.ou.stay hb,h.lt⟩
theorem IN.put {s:ByteArray}{o:Obj}(h:IN W2 w gi it k T u)(hT:T[k]? =some s)(hg:(w.alloc o).grownBy w1 u.ownBlock)(hO:OL w1 W2.heap.size NoB 9 1 v' (k+1) ((T.take k).flatMap strD++strD s)):
  w1.cell? ⟨gi,1,none⟩=some u∧w1.frozen? ⟨gi,1,none⟩=false∧IN W2 (w1.setCell ⟨gi,1,none⟩ v') gi it (k+1) T v':=by
 have hlt:=h.lt;have ha:=h.stay ((bR).alloc nR o);have hne:some gi≠u.ownBlock:=fun e=>by have:=(h.ou.lt gi e.symm).1;omega
 have hb1:=ha.bi.grown hg hne;refine⟨hb1.cell 1,hb1.frozen 1,grown_ext (grown_ext ha.hg hg fun q hq=>.inl (h.ou.lt q hq).1) grown_set fun q hq=>.inr (by injection hq with hq;exact hq.symm),?_,?_,hlt⟩
 ·have:=hb1.set_ 1 v';simpa using this
 ·have hO2:OL w1 W2.heap.size NoB 9 1 v' (k+1) ((T.take (k+1)).flatMap strD):=by rw[zJ,hT,xD];exact hO
  exact hO2.setCell (p:=⟨gi,1,none⟩) (fun e=>by have:=(hO2.lt gi e).1;omega) (fun h=>h) _
end
structure L2 (w0 w:World)(q:Qy)(va v1 v2 v3:Value)(l:List (It×Value))(wh:List Nd)(rl:List (List Nd×Value)):Prop where
 qs:QB2 w0 w (quV q v1 v2 v3 q.by_)
 oq:OQ w (w0.heap.size+1+1) v1 v2 v3 l wh rl
 al:OL w (w0.heap.size+1+1) NoB 9 1 va (allT q).length ((allT q).flatMap strD)
section
variable {w0 w W w1:World}{q:Qy}{va v1 v2 v3 v3' u:Value}{l:List (It×Value)}{wh t:List Nd}{rl:List (List Nd×Value)}
theorem L2.stay (h:L2 w0 w q va v1 v2 v3 l wh rl)(hb:Bw w W):L2 w0 W q va v1 v2 v3 l wh rl:=⟨h.qs.stay hb,h.oq.stay hb,h.al.stay hb⟩
theorem OQ.far {B:Nat}{p:Addr}{x:Value}(h:OQ w B v1 v2 v3 l wh rl)(hp:p.block<B):OQ (w.setCell p x) B v1 v2 v3 l wh rl:=
 ⟨h.i.far hp,h.wr.setCell (fun e=>by have:=(h.wr.lt _ e).1;omega) (fun h=>h) _,h.r.far hp,h.ne⟩
theorem L2.put {o:Obj}{b:Nat}(h:L2 w0 w q va v1 v2 v3 l wh rl)(hu:OL (w.alloc o) b NoB 81 6 u t.length (t.flatMap ndD))(hub:∀q,u.ownBlock=some q→(∀p∈rl,p.2.ownBlock≠some q)∧v2.ownBlock≠some q)(hb:w0.heap.size+1+1≤b)
  (hg:(w.alloc o).grownBy w1 v3.ownBlock)(hO:OL w1 (w0.heap.size+1+1) NoB 29 1 v3' (rl.length+1) (rl.flatMap rcD++rcD (t,u))):
  w1.cell? ⟨w0.heap.size+1,6,none⟩=some v3∧w1.frozen? ⟨w0.heap.size+1,6,none⟩=false∧L2 w0 (w1.setCell ⟨w0.heap.size+1,6,none⟩ v3') q va v1 v2 v3' l wh (rl++[(t,u)]):=by
 have ha:=h.stay ((bR).alloc nR o);have hq1:=ha.qs.grown hg (fun q hq=>(ha.oq.r.kr.lt q hq).1);have hdis:∀p∈rl,u.ownBlock=none∨u.ownBlock≠p.2.ownBlock:=fun p hp=>by
  cases hq:u.ownBlock with
  |none=>exact .inl rfl
  |some q=>exact .inr fun e=>(hub q hq).1 p hp e.symm
 have hr2:RW KR w1 (w0.heap.size+1+1) v3' (rl++[(t,u)]):=ha.oq.r.snoc KR_ne hg hO (hu.base hb) hdis;have hlt:(⟨w0.heap.size+1,6,none⟩:Addr).block<w0.heap.size+1+1:=by show w0.heap.size+1<_;omega
 have hi1:RW KI w1 (w0.heap.size+1+1) v1 l:=ha.oq.i.kept hg (ha.oq.i.kr.ne ha.oq.r.kr (by decide)) (fun p hp=>(ha.oq.i.fr p hp).ne ha.oq.r.kr (by decide));have hw1:OL w1 (w0.heap.size+1+1) NoB 81 6 v2 wh.length (wh.flatMap ndD):=ha.oq.wr.kept hg (ha.oq.wr.ne ha.oq.r.kr (by decide)) (fun _ hb=>hb.elim);have hal1:=ha.al.kept hg (ha.al.ne ha.oq.r.kr (by decide)) (fun _ hb=>hb.elim);refine⟨hq1.b4.cell 6,hq1.b4.frozen 6,hq1.put 6 v3',OQ.far ⟨hi1,hw1,hr2,fun p hp=>?_⟩ hlt,hal1.setCell (fun e=>by have:=(hal1.lt _ e).1;omega) (fun h=>h) _⟩;rcases zM.1 hp with hp |hp
 ·exact h.oq.ne p hp
 ·rw[xB]at hp;subst hp;cases hq:v2.ownBlock with
  |none=>exact .inl rfl
  |some q=>exact .inr fun e=>(hub q e.symm).2 hq
end
section
variable {w0 w W w1:World}{S:List Td}{T:List Kd}{q:Qy}{va v1 v2 v3 v' u:Value}{j:Nat}{l:List (It×Value)}{wh:List Nd}{rl:List (List Nd×Value)}
theorem L1.item {o:Obj}{it:It}(hq:QB2 w0 w (quV q v1 v2 (.slice none 0 0) q.by_))(hr:RW KI w (w0.heap.size+1+1) v1 l)(hal:OL w (w0.heap.size+1+1) NoB 9 1 va (AT q (j+1)).length ((AT q (j+1)).flatMap strD))(hna:∀p∈l,p.2.ownBlock=none∨p.2.ownBlock≠va.ownBlock)
  (heq:l.map (·.1)=(q.items.take j).map (itT S T))(hi:q.items[j]? =some it)(hu:OL w (w0.heap.size+1+1) NoB 9 1 u it.tys.length ((it.tys.map (typeNm S T)).flatMap strD))(hud:∀q,u.ownBlock=some q→(∀p∈l,p.2.ownBlock≠some q)∧va.ownBlock≠some q)
  (hg:(w.alloc o).grownBy w1 v1.ownBlock)(hO:OL w1 (w0.heap.size+1+1) NoB 54 5 v' (l.length+1) (l.flatMap icD++icD (itT S T it,u))):
  w1.cell? ⟨w0.heap.size+1,0,none⟩=some v1∧w1.frozen? ⟨w0.heap.size+1,0,none⟩=false∧L1 w0 (w1.setCell ⟨w0.heap.size+1,0,none⟩ v') S T q v2 (j+1) va v' (l++[(itT S T it,u)]):=by
 have hA:Bw w (w.alloc o):=(bR).alloc nR o;have hr1:=hr.stay hA;have hu1:=hu.stay hA;have ha1:=hal.stay hA;have hq1:=(hq.stay hA).grown hg (fun q hq=>(hr1.kr.lt q hq).1);have hlt:(⟨w0.heap.size+1,0,none⟩:Addr).block<w0.heap.size+1+1:=by show w0.heap.size+1<_;omega
 have hdis:∀p∈l,u.ownBlock=none∨u.ownBlock≠p.2.ownBlock:=fun p hp=>by
  cases hq:u.ownBlock with
  |none=>exact .inl rfl
  |some q=>exact .inr fun e=>(hud q hq).1 p hp e.symm
 have hu2:OL (w.alloc o) (w0.heap.size+1+1) NoB KI.es KI.ss u (KI.n (itT S T it)) (KI.ds (itT S T it)):=by
  show OL _ _ _ _ _ _ (it.tys.map (typeNm S T)).length _
  rw[xC];exact hu1
 have hr2:RW KI w1 (w0.heap.size+1+1) v' (l++[(itT S T it,u)]):=hr1.snoc KI_ne hg hO hu2 hdis;have ha2:=ha1.kept hg (ha1.ne hr1.kr (by decide)) (fun _ hb=>hb.elim);refine⟨hq1.b4.cell 0,hq1.b4.frozen 0,hq1.put 0 v',hr2.far hlt,ha2.setCell (fun e=>by have:=(ha2.lt _ e).1;omega) (fun h=>h) _,fun p hp=>?_,?_⟩
 ·rcases zM.1 hp with hp |hp
  ·exact hna p hp
  ·rw[xB]at hp;subst hp;cases hq:u.ownBlock with
   |none=>exact .inl rfl
   |some q=>exact .inr fun e=>(hud q hq).2 e.symm
 ·rw[xR,heq,zJ,hi,xR];rfl
theorem AT_all (q:Qy):AT q q.items.length=allT q:=by unfold AT allT;rw[zL]
theorem L2.of {va2:Value}(h:L1 w0 w S T q va2 q.items.length va v1 l)(hb:Bw w W)(hO:OL W w.heap.size NoF 81 6 v' wh.length (wh.flatMap ndD)):L2 w0 (W.setCell ⟨w0.heap.size+1,3,none⟩ v') q va v1 v' (.slice none 0 0) l wh []:=by
 have hs:=h.stay hb;have hlt:(⟨w0.heap.size+1,3,none⟩:Addr).block<w0.heap.size+1+1:=by show w0.heap.size+1<_;omega
 have hb4:=h.qs.b4.lt;have hO2:OL W (w0.heap.size+1+1) NoB 81 6 v' wh.length (wh.flatMap ndD):=hO.base (by omega);have hal:=hs.al;rw[AT_all]at hal;exact⟨hs.qs.put 3 v',⟨hs.it.far hlt,hO2.setCell (fun e=>by have:=(hO2.lt _ e).1;omega) (fun h=>h) _,RW.nil _ _ _,fun p hp=>by simp at hp⟩,hal.setCell (fun e=>by have:=(hal.lt _ e).1;omega) (fun h=>h) _⟩
theorem OQ.under {B g:Nat}(h:OQ w B v1 v2 v3 l wh rl)(hg:w.grownBy w1 (some g))(hlt:g<B):OQ w1 B v1 v2 v3 l wh rl:=by
 have hn:∀{e size n:Nat}{v:Value}{ds:List D},OL w B NoB e size v n ds→v.ownBlock=none∨v.ownBlock≠some g:=fun ho=>.inr fun e=>by have:=(ho.lt _ e).1;omega
 exact⟨h.i.kept hg (hn h.i.kr) (fun p hp=>hn (h.i.fr p hp)),h.wr.kept hg (hn h.wr) (fun _ hb=>hb.elim),h.r.kept hg (hn h.r.kr) (fun p hp=>hn (h.r.fr p hp)),h.ne⟩
end
theorem TQPost.no {o:Option Qy}{w w':World}(h:o=none)(hb:Bw w w'):TQPost o w (.returned (.tuple #[.agg ⟨zqV⟩,.bool false])) w':=by
 subst h;exact⟨_,rfl,fun _=>rfl,fun q h=>(by cases h),hb⟩
theorem TQPost.yes {o:Option Qy}{q:Qy}{w w':World}{v1 v2 v3:Value}{l:List (It×Value)}{rl:List (List Nd×Value)}(h:o=some q)(hO:OQ w' w.heap.size v1 v2 v3 l q.wh rl)(hl:l.map (·.1)=q.items)(hr:rl.map (·.1)=q.ret)(hb:Bw w w'):TQPost o w (.returned (.tuple #[.agg ⟨quV q v1 v2 v3 q.by_⟩,.bool true])) w':=by
 subst h;exact⟨_,rfl,fun h=>(by cases h),fun q2 h=>(by injection h with h;subst h;exact⟨v1,v2,v3,l,rl,rfl,hO,hl,hr⟩),hb⟩
theorem ret_step {S:List Td}{T:List Kd}{q:Qy}{t:List (List Nd)}{ys:List (List Nd)}{j:Nat}{x y:List Nd}(hx:t[j]? =some x)(hy:treeO S T q x=some y)(h:retO S T q t=(retO S T q (t.drop j)).map (ys++ ·)):retO S T q t=(retO S T q (t.drop (j+1))).map ((ys++[y])++ ·):=by
 rw[h,drop_at hx,retO,hy];cases retO S T q (t.drop (j+1))with
 |none=>rfl
 |some a=>simp
theorem ret_stop {S:List Td}{T:List Kd}{q:Qy}{t:List (List Nd)}{ys:List (List Nd)}{j:Nat}{x:List Nd}(hx:t[j]? =some x)(hy:treeO S T q x=none)(h:retO S T q t=(retO S T q (t.drop j)).map (ys++ ·)):retO S T q t=none:=by
 rw[h,drop_at hx,retO,hy];rfl
end Go.Proofs.YtfiodnlgiglhfaaGreatDoor
