/- Rows of the call's own whose elements have rows. -/
import Derived.Test.YtjbcbibkhalagaaGreatDoorP3
namespace Go.Proofs.YtjbcbibkhalagaaGreatDoor
set_option maxRecDepth 100000
set_option maxHeartbeats 16000000
open Proofs.Tryz Go.RowKit Go.Deep
set_option linter.unusedVariables false
set_option linter.unusedSimpArgs false
structure RK (α:Type)where
 e:Nat
 size:Nat
 es:Nat
 ss:Nat
 f:α×Value->List D
 n:α->Nat
 ds:α->List D
structure RW {α:Type}(K:RK α)(w:World)(B:Nat)(v:Value)(l:List (α×Value)):Prop where
 kr:OL w B bE K.e K.size v l.length (l.flatMap K.f)
 fr:∀p∈l,OL w B bE K.es K.ss p.2 (K.n p.1) (K.ds p.1)
 ne:∀(i j:Nat)(p q:α×Value),l[i]? =some p->l[j]? =some q->i≠j->p.2.ownBlock=none\/p.2.ownBlock≠q.2.ownBlock
section
variable {α:Type}{K:RK α}{w:World}{B:Nat}{v:Value}{l:List (α×Value)}
theorem RW.nil (K:RK α)(w B):RW K w B (.slice none 0 0) []:=⟨.nil _ _ _ _ _,λp hp=>by simp at hp,λi j p q hp=>by simp at hp⟩
theorem RW.stay {w2}(h:RW K w B v l)(hb:Bw w w2):RW K w2 B v l:=⟨h.kr.stay hb,λp hp=>(h.fr p hp).stay hb,h.ne⟩
theorem RW.far {p x}(h:RW K w B v l)(hp:p.block<B):RW K (w.setCell p x) B v l:=
 ⟨h.kr.setCell (λe=>by have:=(h.kr.lt _ e).1;omega) (λh=>h) _,λq hq=>(h.fr q hq).setCell (λe=>by have:=((h.fr q hq).lt _ e).1;omega) (λh=>h) _,h.ne⟩
theorem RW.base {B'}(h:RW K w B v l)(hB:B'<=B):RW K w B' v l:=⟨h.kr.base hB,λp hp=>(h.fr p hp).base hB,h.ne⟩
theorem RW.kept {w1 row}(h:RW K w B v l)(hg:w.grownBy w1 row)(h1:v.ownBlock=none\/v.ownBlock≠row)(h2:∀p∈l,p.2.ownBlock=none\/p.2.ownBlock≠row):RW K w1 B v l:=
 ⟨h.kr.kept hg h1 (λ_ hb=>hb.elim),λp hp=>(h.fr p hp).kept hg (h2 p hp) (λ_ hb=>hb.elim),h.ne⟩
theorem oW {β:Type}{l y a}{x:β}(hx:(l++[y])[a]? =some x):(a<l.length/\l[a]? =some x)\/(a=l.length/\x=y):=by
 by_cases ha:a<l.length
 .rw[zS ha]at hx;exact .inl ⟨ha,hx⟩
 .rw[zP oQ]at hx;have:=(zC.1 hx).1;simp at this;have e:a-l.length=0:=oQ;rw[e]at hx;exact .inr ⟨oQ,by simpa using hx.symm⟩
theorem RW.snoc {w1 v' u t}(hK:K.e≠K.es)(h:RW K w B v l)(hg:w.grownBy w1 v.ownBlock)(hv:OL w1 B bE K.e K.size v' (l.length+1) (l.flatMap K.f++K.f (t,u)))(hu:OL w B bE K.es K.ss u (K.n t) (K.ds t))(hne:∀p∈l,u.ownBlock=none\/u.ownBlock≠p.2.ownBlock):RW K w1 B v' (l++[(t,u)]):=by
 refine⟨by simpa using hv,λp hp=>?_,?_⟩
 .rcases zM.1 hp with hp |hp
  .exact(h.fr p hp).kept hg ((h.fr p hp).ne h.kr (λe=>hK e.symm)) (λ_ hb=>hb.elim)
  .simp at hp;subst hp;exact hu.kept hg (hu.ne h.kr (λe=>hK e.symm)) (λ_ hb=>hb.elim)
 .intro a b x y hx hy jX;rcases oW hx with⟨h1,h2⟩|⟨h1,rfl⟩
  .rcases oW hy with⟨h3,h4⟩|⟨h3,rfl⟩
   .exact h.ne a b x y h2 h4 jX
   .exact kF (hne x (zA h2))
  .rcases oW hy with⟨h3,h4⟩|⟨h3,rfl⟩
   .exact hne y (zA h4)
   .omega
theorem RW.newer {u:Value}{b}(h:RW K w B v l)(hb:w.heap.size<=b)(hu:∀q,u.ownBlock=some q->b<=q):∀p∈l,u.ownBlock=none\/u.ownBlock≠p.2.ownBlock:=λp hp=>by
 cases hq:u.ownBlock with
 |none=>exact .inl rfl
 |some q=>
  refine .inr λhe=>?_
  have h1:=hu q hq;have h2:=((h.fr p hp).lt q he.symm).2;omega
end
def Ci (p:It×Value):List D:=[.v (.bool p.1.neg),.v p.2,.v (.string p.1.v),.v (.int .i64 p.1.lo),.v (.int .i64 p.1.hi)]
def J8 (p:List Nd×Value):List D:=[.v p.2]
def KI:RK It:=⟨60,5,9,1,Ci,λx=>x.ah.length,λx=>x.ah.flatMap aG⟩
def KR:RK (List Nd):=⟨28,1,63,6,J8,λt=>t.length,λt=>t.flatMap b9⟩
theorem ME:KI.e≠KI.es:=dQ
theorem MF:KR.e≠KR.es:=dQ
theorem Vn:nW prog 25 60 5 64:=.of underlying25 kQ oQ
theorem Vo:nW prog 29 28 1 24:=.of underlying29 kQ oQ
theorem MG (w G x A n c):fB w G (dX x (.slice A n c)) (Ci (x,.slice A n c)):=⟨.v _ rfl,.v _ rfl,.v _ rfl,.v _ rfl,.v _ rfl,trivial⟩
theorem MH (w G t A n c):fB w G [.slice A n c] (J8 (t,.slice A n c)):=⟨.v _ rfl,trivial⟩
def l8 (q:Qy)(v1 v2 v3:Value)(au:ByteArray):List Value:=[v1,.int .i64 q.mode,.int .i64 q.after,v2,.int .i64 q.within,.string au,v3]
def lT:List Value:=[.slice none 0 0,.int .i64 0,.int .i64 0,.slice none 0 0,.int .i64 0,.string ⟨#[]⟩,.slice none 0 0]
theorem cB:jV prog 31 7:=⟨_,underlying31,rfl,kQ⟩
structure OQ (w:World)(B:Nat)(v1 v2 v3:Value)(l:List (It×Value))(wh:List Nd)(rl:List (List Nd×Value)):Prop where
 i:RW KI w B v1 l
 wr:OL w B bE 63 6 v2 wh.length (wh.flatMap b9)
 r:RW KR w B v3 rl
 ne:∀p∈rl,v2.ownBlock=none\/v2.ownBlock≠p.2.ownBlock
theorem OQ.stay {w w2 B v1 v2 v3 l wh rl}(h:OQ w B v1 v2 v3 l wh rl)(hb:Bw w w2):OQ w2 B v1 v2 v3 l wh rl:=⟨h.i.stay hb,h.wr.stay hb,h.r.stay hb,h.ne⟩
theorem OQ.base {w B B' v1 v2 v3 l wh rl}(h:OQ w B v1 v2 v3 l wh rl)(hB:B'<=B):OQ w B' v1 v2 v3 l wh rl:=⟨h.i.base hB,h.wr.base hB,h.r.base hB,h.ne⟩
def lU (o:Option Qy)(w:World)(e:Ending)(w':World):Prop:=∃vs,e=.returned (.tuple #[.agg ⟨vs⟩,.bool o.isSome])/\(o=none->vs=lT)/\(∀q,o=some q->∃v1 v2 v3 l rl,vs=l8 q v1 v2 v3 q.au/\OQ w' w.heap.size v1 v2 v3 l q.wh rl/\l.map (·.1)=q.items/\rl.map (·.1)=q.ret)/\Bw w w'
structure QS (w0 w:World)(B gt g:Nat)(F:Nat->Prop)(A:Option Addr)(c:Nat)(S:List Td)(T:List Kd)(nl:List Ls)(q:Qy)(s:fV)(vs:List Value):Prop where
 tx:TX w B gt g F A c S T nl q s
 hb:Bw w0 w
 b2:ao w w0.heap.size 31 lT
 b4:ao w (w0.heap.size+1) 31 vs
section
variable {w0 w W w1:World}{B gt g:Nat}{F:Nat->Prop}{A:Option Addr}{c:Nat}{S:List Td}{T:List Kd}{nl:List Ls}{q:Qy}{s:fV}{vs:List Value}
theorem QS.stay (h:QS w0 w B gt g F A c S T nl q s vs)(hb:Bw w W):QS w0 W B gt g F A c S T nl q s vs:=⟨h.tx.stay hb,h.hb.trans (hb.mono h.hb.size),h.b2.stay hb,h.b4.stay hb⟩
end
structure Hw (w0 w:World)(vs:List Value):Prop where
 hb:Bw w0 w
 b2:ao w w0.heap.size 31 lT
 b4:ao w (w0.heap.size+1) 31 vs
section
variable {w0 w W w1:World}{vs:List Value}
theorem Hw.stay (h:Hw w0 w vs)(hb:Bw w W):Hw w0 W vs:=⟨h.hb.trans (hb.mono h.hb.size),h.b2.stay hb,h.b4.stay hb⟩
theorem Hw.grown {row}(h:Hw w0 w vs)(hg:w.grownBy w1 row)(hr:∀q,row=some q->w0.heap.size+1+1<=q):Hw w0 w1 vs:=
 ⟨h.hb.grown hg h.hb.size (λq hq=>by have:=hr q hq;omega),h.b2.grown hg (λe=>by have:=hr _ e.symm;omega),h.b4.grown hg (λe=>by have:=hr _ e.symm;omega)⟩
theorem Hw.put (h:Hw w0 w vs)(k x):Hw w0 (w.setCell ⟨w0.heap.size+1,k,none⟩ x) (vs.set k x):=
 ⟨h.hb.setCell (by show w0.heap.size<=w0.heap.size+1;omega) _,h.b2.far (by show w0.heap.size≠w0.heap.size+1;omega) _,h.b4.dz k x⟩
end
def AT (q:Qy)(j:Nat):List ByteArray:=(q.items.take j).flatMap (·.ah)
theorem AW {q j it}(h:q.items[j]? =some it):AT q (j+1)=AT q j++it.ah:=by
 unfold AT;rw[zJ,h,xD];simp
theorem AX (q j):(AT q j).length<=(q.items.map λx=>x.ah.length).sum:=by
 unfold AT;rw[List.length_flatMap];have h1:(q.items.take j).map (λx=>x.ah.length)=(q.items.map λx=>x.ah.length).take j:=by rw[List.map_take]
 rw[h1];clear h1;generalize (q.items.map λx=>x.ah.length)=m;induction m generalizing j with
 |nil=>simp
 |cons a m ih=>
  cases j with
  |zero=>simp
  |succ j=>rw[List.take_succ_cons,List.sum_cons,List.sum_cons];have:=ih j;omega
structure L1 (w0 w:World)(S:List Td)(T:List Kd)(q:Qy)(v2:Value)(j:Nat)(va v1:Value)(l:List (It×Value)):Prop where
 qs:Hw w0 w (l8 q v1 v2 (.slice none 0 0) q.au)
 it:RW KI w (w0.heap.size+1+1) v1 l
 al:OL w (w0.heap.size+1+1) bE 9 1 va (AT q j).length ((AT q j).flatMap aG)
 na:∀p∈l,p.2.ownBlock=none\/p.2.ownBlock≠va.ownBlock
 eq:l.map (·.1)=(q.items.take j).map (wA S T)
section
variable {w0 w W w1:World}{S:List Td}{T:List Kd}{q:Qy}{v2:Value}{j:Nat}{va v1:Value}{l:List (It×Value)}
theorem L1.stay (h:L1 w0 w S T q v2 j va v1 l)(hb:Bw w W):L1 w0 W S T q v2 j va v1 l:=⟨h.qs.stay hb,h.it.stay hb,h.al.stay hb,h.na,h.eq⟩
theorem L1.kept {row}(h:L1 w0 w S T q v2 j va v1 l)(hg:w.grownBy w1 row)(hr:∀q,row=some q->w0.heap.size+1+1<=q)(h1:v1.ownBlock=none\/v1.ownBlock≠row)(h2:∀p∈l,p.2.ownBlock=none\/p.2.ownBlock≠row)(h3:va.ownBlock=none\/va.ownBlock≠row):L1 w0 w1 S T q v2 j va v1 l:=
 ⟨h.qs.grown hg hr,h.it.kept hg h1 h2,h.al.kept hg h3 (λ_ hb=>hb.elim),h.na,h.eq⟩
theorem L1.all {it J9}(h:L1 w0 w S T q v2 j va v1 l)(hi:q.items[j]? =some it)(hg:w.grownBy w1 va.ownBlock)(hO:OL w1 (w0.heap.size+1+1) bE 9 1 J9 ((AT q j).length+it.ah.length) ((AT q j).flatMap aG++it.ah.flatMap aG))(ha:J9.ownBlock=va.ownBlock\/J9.ownBlock=some w.heap.size):
  Hw w0 w1 (l8 q v1 v2 (.slice none 0 0) q.au)/\RW KI w1 (w0.heap.size+1+1) v1 l/\OL w1 (w0.heap.size+1+1) bE 9 1 J9 (AT q (j+1)).length ((AT q (j+1)).flatMap aG)/\(∀p∈l,p.2.ownBlock=none\/p.2.ownBlock≠J9.ownBlock):=by
 refine⟨h.qs.grown hg (λq hq=>(h.al.lt q hq).1),h.it.kept hg (h.it.kr.ne h.al dQ) h.na,by rw[AW hi,zH,xD];exact hO,λp hp=>?_⟩;rcases ha with e |e
 .rw[e];exact h.na p hp
 .rw[e];cases hq:p.2.ownBlock with
  |none=>exact .inl rfl
  |some q=>
   refine .inr λhe=>?_
   injection he with he
   have:=((h.it.fr p hp).lt q hq).2;omega
end
structure IN (W2 w:World)(gi:Nat)(it:It)(k:Nat)(T:List ByteArray)(u:Value):Prop where
 hg:W2.grownBy w (some gi)
 bi:ao w gi 60 [.bool it.neg,u,.string it.v,.int .i64 it.lo,.int .i64 it.hi]
 ou:OL w W2.heap.size bE 9 1 u k ((T.take k).flatMap aG)
 lt:gi<W2.heap.size
section
variable {W2 w W w1:World}{gi k:Nat}{it:It}{T:List ByteArray}{u v':Value}
theorem jU {row}(h:Bw w W):w.grownBy W row:=⟨h.os,h.tape,h.output,h.size,λk hk _=>h.block k hk⟩
theorem sZ {row g}(h:W2.grownBy w (some g))(hg:w.grownBy w1 row)(hr:∀q,row=some q->W2.heap.size<=q\/q=g):W2.grownBy w1 (some g):=
 ⟨hg.os.trans h.os,hg.tape.trans h.tape,hg.output.trans h.output,zU h.size hg.size,λk hk hne=>by
  refine(hg.block k (zF hk h.size) λe=>?_).trans (h.block k hk hne);rcases hr k e.symm with h1 |h1
  .omega
  .exact hne (by rw[h1])⟩
theorem IN.stay (h:IN W2 w gi it k T u)(hb:Bw w W):IN W2 W gi it k T u:=⟨sZ h.hg (row:=none) (Below.jU hb) (λq hq=>by cases hq),h.bi.stay hb,h.ou.stay hb,h.lt⟩
theorem IN.put {s o}(h:IN W2 w gi it k T u)(hT:T[k]? =some s)(hg:(w.alloc o).grownBy w1 u.ownBlock)(hO:OL w1 W2.heap.size bE 9 1 v' (k+1) ((T.take k).flatMap aG++aG s)):
  w1.cell? ⟨gi,1,none⟩=some u/\w1.frozen? ⟨gi,1,none⟩=false/\IN W2 (w1.setCell ⟨gi,1,none⟩ v') gi it (k+1) T v':=by
 have hlt:=h.lt;have ha:=h.stay ((bR).alloc nR o);have hne:some gi≠u.ownBlock:=λe=>by have:=(h.ou.lt gi e.symm).1;omega
 have ch:=ha.bi.grown hg hne;refine⟨ch.cell 1,ch.frozen 1,sZ (sZ ha.hg hg λq hq=>.inl (h.ou.lt q hq).1) mR λq hq=>.inr (by injection hq with hq;exact hq.symm),?_,?_,hlt⟩
 .have:=ch.dz 1 v';simpa using this
 .have iK:OL w1 W2.heap.size bE 9 1 v' (k+1) ((T.take (k+1)).flatMap aG):=by rw[zJ,hT,xD];exact hO
  exact iK.setCell (p:=⟨gi,1,none⟩) (λe=>by have:=(iK.lt gi e).1;omega) (λh=>h) _
end
structure L2 (w0 w:World)(q:Qy)(va v1 v2 v3:Value)(l:List (It×Value))(wh:List Nd)(rl:List (List Nd×Value)):Prop where
 qs:Hw w0 w (l8 q v1 v2 v3 q.au)
 oq:OQ w (w0.heap.size+1+1) v1 v2 v3 l wh rl
 al:OL w (w0.heap.size+1+1) bE 9 1 va (dP q).length ((dP q).flatMap aG)
section
variable {w0 w W w1:World}{q:Qy}{va v1 v2 v3 v3' u:Value}{l:List (It×Value)}{wh t:List Nd}{rl:List (List Nd×Value)}
theorem L2.stay (h:L2 w0 w q va v1 v2 v3 l wh rl)(hb:Bw w W):L2 w0 W q va v1 v2 v3 l wh rl:=⟨h.qs.stay hb,h.oq.stay hb,h.al.stay hb⟩
theorem OQ.far {B p x}(h:OQ w B v1 v2 v3 l wh rl)(hp:p.block<B):OQ (w.setCell p x) B v1 v2 v3 l wh rl:=
 ⟨h.i.far hp,h.wr.setCell (λe=>by have:=(h.wr.lt _ e).1;omega) (λh=>h) _,h.r.far hp,h.ne⟩
theorem L2.put {o b}(h:L2 w0 w q va v1 v2 v3 l wh rl)(hu:OL (w.alloc o) b bE 63 6 u t.length (t.flatMap b9))(Fb:∀q,u.ownBlock=some q->(∀p∈rl,p.2.ownBlock≠some q)/\v2.ownBlock≠some q)(hb:w0.heap.size+1+1<=b)(hg:(w.alloc o).grownBy w1 v3.ownBlock)(hO:OL w1 (w0.heap.size+1+1) bE 28 1 v3' (rl.length+1) (rl.flatMap J8++J8 (t,u))):
  w1.cell? ⟨w0.heap.size+1,6,none⟩=some v3/\w1.frozen? ⟨w0.heap.size+1,6,none⟩=false/\L2 w0 (w1.setCell ⟨w0.heap.size+1,6,none⟩ v3') q va v1 v2 v3' l wh (rl++[(t,u)]):=by
 have ha:=h.stay ((bR).alloc nR o);have oU:=ha.qs.grown hg (λq hq=>(ha.oq.r.kr.lt q hq).1);have vC:∀p∈rl,u.ownBlock=none\/u.ownBlock≠p.2.ownBlock:=λp hp=>by
  cases hq:u.ownBlock with
  |none=>exact .inl rfl
  |some q=>exact .inr λe=>(Fb q hq).1 p hp e.symm
 have wI:RW KR w1 (w0.heap.size+1+1) v3' (rl++[(t,u)]):=ha.oq.r.snoc MF hg hO (hu.base hb) vC;have hlt:(⟨w0.heap.size+1,6,none⟩:Addr).block<w0.heap.size+1+1:=by show w0.heap.size+1<_;omega
 have Xz:RW KI w1 (w0.heap.size+1+1) v1 l:=ha.oq.i.kept hg (ha.oq.i.kr.ne ha.oq.r.kr dQ) (λp hp=>(ha.oq.i.fr p hp).ne ha.oq.r.kr dQ);have Er:OL w1 (w0.heap.size+1+1) bE 63 6 v2 wh.length (wh.flatMap b9):=ha.oq.wr.kept hg (ha.oq.wr.ne ha.oq.r.kr dQ) (λ_ hb=>hb.elim);have Zf:=ha.al.kept hg (ha.al.ne ha.oq.r.kr dQ) (λ_ hb=>hb.elim);refine⟨oU.b4.cell 6,oU.b4.frozen 6,oU.put 6 v3',OQ.far ⟨Xz,Er,wI,λp hp=>?_⟩ hlt,Zf.setCell (λe=>by have:=(Zf.lt _ e).1;omega) (λh=>h) _⟩;rcases zM.1 hp with hp |hp
 .exact h.oq.ne p hp
 .rw[xB]at hp;subst hp;cases hq:v2.ownBlock with
  |none=>exact .inl rfl
  |some q=>exact .inr λe=>(Fb q e.symm).2 hq
end
section
variable {w0 w W w1:World}{S:List Td}{T:List Kd}{q:Qy}{va v1 v2 v3 v' u:Value}{j:Nat}{l:List (It×Value)}{wh:List Nd}{rl:List (List Nd×Value)}
theorem L1.item {o it}(hq:Hw w0 w (l8 q v1 v2 (.slice none 0 0) q.au))(hr:RW KI w (w0.heap.size+1+1) v1 l)(Et:OL w (w0.heap.size+1+1) bE 9 1 va (AT q (j+1)).length ((AT q (j+1)).flatMap aG))(Yu:∀p∈l,p.2.ownBlock=none\/p.2.ownBlock≠va.ownBlock)(heq:l.map (·.1)=(q.items.take j).map (wA S T))(hi:q.items[j]? =some it)(hu:OL w (w0.heap.size+1+1) bE 9 1 u it.ah.length ((it.ah.map (eZ S T)).flatMap aG))(F1:∀q,u.ownBlock=some q->(∀p∈l,p.2.ownBlock≠some q)/\va.ownBlock≠some q)(hg:(w.alloc o).grownBy w1 v1.ownBlock)(hO:OL w1 (w0.heap.size+1+1) bE 60 5 v' (l.length+1) (l.flatMap Ci++Ci (wA S T it,u))):
  w1.cell? ⟨w0.heap.size+1,0,none⟩=some v1/\w1.frozen? ⟨w0.heap.size+1,0,none⟩=false/\L1 w0 (w1.setCell ⟨w0.heap.size+1,0,none⟩ v') S T q v2 (j+1) va v' (l++[(wA S T it,u)]):=by
 have hA:Bw w (w.alloc o):=(bR).alloc nR o;have MJ:=hr.stay hA;have F2:=hu.stay hA;have bu:=Et.stay hA;have oU:=(hq.stay hA).grown hg (λq hq=>(MJ.kr.lt q hq).1);have hlt:(⟨w0.heap.size+1,0,none⟩:Addr).block<w0.heap.size+1+1:=by show w0.heap.size+1<_;omega
 have vC:∀p∈l,u.ownBlock=none\/u.ownBlock≠p.2.ownBlock:=λp hp=>by
  cases hq:u.ownBlock with
  |none=>exact .inl rfl
  |some q=>exact .inr λe=>(F1 q hq).1 p hp e.symm
 have wE:OL (w.alloc o) (w0.heap.size+1+1) bE KI.es KI.ss u (KI.n (wA S T it)) (KI.ds (wA S T it)):=by
  show OL _ _ _ _ _ _ (it.ah.map (eZ S T)).length _
  rw[xC];exact F2
 have wI:RW KI w1 (w0.heap.size+1+1) v' (l++[(wA S T it,u)]):=MJ.snoc ME hg hO wE vC;have n7:=bu.kept hg (bu.ne MJ.kr dQ) (λ_ hb=>hb.elim);refine⟨oU.b4.cell 0,oU.b4.frozen 0,oU.put 0 v',wI.far hlt,n7.setCell (λe=>by have:=(n7.lt _ e).1;omega) (λh=>h) _,λp hp=>?_,?_⟩
 .rcases zM.1 hp with hp |hp
  .exact Yu p hp
  .rw[xB]at hp;subst hp;cases hq:u.ownBlock with
   |none=>exact .inl rfl
   |some q=>exact .inr λe=>(F1 q hq).2 e.symm
 .rw[xR,heq,zJ,hi,xR];rfl
theorem qG (q):AT q q.items.length=dP q:=by unfold AT dP;rw[zL]
theorem L2.of {va2}(h:L1 w0 w S T q va2 q.items.length va v1 l)(hb:Bw w W)(hO:OL W w.heap.size eL 63 6 v' wh.length (wh.flatMap b9)):L2 w0 (W.setCell ⟨w0.heap.size+1,3,none⟩ v') q va v1 v' (.slice none 0 0) l wh []:=by
 have hs:=h.stay hb;have hlt:(⟨w0.heap.size+1,3,none⟩:Addr).block<w0.heap.size+1+1:=by show w0.heap.size+1<_;omega
 have jJ:=h.qs.b4.lt;have iK:OL W (w0.heap.size+1+1) bE 63 6 v' wh.length (wh.flatMap b9):=hO.base oQ;have Et:=hs.al;rw[qG]at Et;exact⟨hs.qs.put 3 v',⟨hs.it.far hlt,iK.setCell (λe=>by have:=(iK.lt _ e).1;omega) (λh=>h) _,RW.nil _ _ _,λp hp=>by simp at hp⟩,Et.setCell (λe=>by have:=(Et.lt _ e).1;omega) (λh=>h) _⟩
theorem OQ.under {B g}(h:OQ w B v1 v2 v3 l wh rl)(hg:w.grownBy w1 (some g))(hlt:g<B):OQ w1 B v1 v2 v3 l wh rl:=by
 have hn:∀{e size n:Nat}{v:Value}{ds:List D},OL w B bE e size v n ds->v.ownBlock=none\/v.ownBlock≠some g:=λho=>.inr λe=>by have:=(ho.lt _ e).1;omega
 exact⟨h.i.kept hg (hn h.i.kr) (λp hp=>hn (h.i.fr p hp)),h.wr.kept hg (hn h.wr) (λ_ hb=>hb.elim),h.r.kept hg (hn h.r.kr) (λp hp=>hn (h.r.fr p hp)),h.ne⟩
end
theorem lU.no {o w w'}(h:o=none)(hb:Bw w w'):lU o w (.returned (.tuple #[.agg ⟨lT⟩,.bool false])) w':=by
 subst h;exact⟨_,rfl,λ_=>rfl,λq h=>(by cases h),hb⟩
theorem lU.yes {o q w w' v1 v2 v3 l rl}(h:o=some q)(hO:OQ w' w.heap.size v1 v2 v3 l q.wh rl)(hl:l.map (·.1)=q.items)(hr:rl.map (·.1)=q.ret)(hb:Bw w w'):lU o w (.returned (.tuple #[.agg ⟨l8 q v1 v2 v3 q.au⟩,.bool true])) w':=by
 subst h;exact⟨_,rfl,λh=>(by cases h),λq2 h=>(by injection h with h;subst h;exact⟨v1,v2,v3,l,rl,rfl,hO,hl,hr⟩),hb⟩
theorem MK {S T q t ys j x y}(hx:t[j]? =some x)(hy:bB S T q x=some y)(h:fT S T q t=(fT S T q (t.drop j)).map (ys++ ·)):fT S T q t=(fT S T q (t.drop (j+1))).map ((ys++[y])++ ·):=by
 rw[h,lE hx,fT,hy];cases fT S T q (t.drop (j+1))with
 |none=>rfl
 |some a=>simp
theorem ML {S T q t ys j x}(hx:t[j]? =some x)(hy:bB S T q x=none)(h:fT S T q t=(fT S T q (t.drop j)).map (ys++ ·)):fT S T q t=none:=by
 rw[h,lE hx,fT,hy];rfl
