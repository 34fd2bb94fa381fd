/- The document's turned query on its way. -/
import Derived.Test.YtfiodnlgiglhfaaGreatDoorR4
namespace Go.Proofs.YtfiodnlgiglhfaaGreatDoor
set_option maxRecDepth 100000
set_option maxHeartbeats 16000000
open Go.RowKit Go.Deep
set_option linter.unusedVariables false
set_option linter.unusedSimpArgs false
def itR (S:List Td)(T:List Kd)(it:It):It:={it with tys:=it.tys.map (cn S T emp)}
structure Q4 (A:Option Addr)(c n:Nat)(q:Qy)(s:Sl3)(w w1:World)(vs:List Value):Prop where
 hb:Bw w w1
 b0:Blk w1 w.heap.size 24 [.slice A n c]
 b1:Blk w1 (w.heap.size+1) 32 (qV q s)
 b2:Blk w1 (w.heap.size+1+1) 32 zqV
 b4:Blk w1 (w.heap.size+1+1+1) 32 vs
section
variable {A:Option Addr}{c n:Nat}{q:Qy}{s:Sl3}{w0 w W w1:World}{vs:List Value}
theorem Q4.stay (h:Q4 A c n q s w0 w vs)(hb:Bw w W):Q4 A c n q s w0 W vs:=⟨h.hb.trans (hb.mono h.hb.size),h.b0.stay hb,h.b1.stay hb,h.b2.stay hb,h.b4.stay hb⟩
theorem Q4.grown {row:Option Nat}(h:Q4 A c n q s w0 w vs)(hg:w.grownBy w1 row)(hr:∀q,row=some q→w0.heap.size+1+1+1+1≤q):Q4 A c n q s w0 w1 vs:=
 ⟨h.hb.grown hg h.hb.size (fun q hq=>by have:=hr q hq;omega),h.b0.grown hg (fun e=>by have:=hr _ e.symm;omega),h.b1.grown hg (fun e=>by have:=hr _ e.symm;omega),h.b2.grown hg (fun e=>by have:=hr _ e.symm;omega),h.b4.grown hg (fun e=>by have:=hr _ e.symm;omega)⟩
theorem Q4.put (h:Q4 A c n q s w0 w vs)(k:Nat)(x:Value):Q4 A c n q s w0 (w.setCell ⟨w0.heap.size+1+1+1,k,none⟩ x) (vs.set k x):=
 ⟨h.hb.setCell (by show w0.heap.size≤w0.heap.size+1+1+1;omega) _,h.b0.far (by show w0.heap.size≠w0.heap.size+1+1+1;omega) _,h.b1.far (by show w0.heap.size+1≠w0.heap.size+1+1+1;omega) _,h.b2.far (by show w0.heap.size+1+1≠w0.heap.size+1+1+1;omega) _,h.b4.set_ k x⟩
end
structure M1 (A:Option Addr)(c:Nat)(S:List Td)(T:List Kd)(q:Qy)(s:Sl3)(w0 w:World)(j:Nat)(v1:Value)(l:List (It×Value)):Prop where
 q4:Q4 A c S.length q s w0 w (quV q v1 (.slice none 0 0) (.slice none 0 0) emp)
 it:RW KI w (w0.heap.size+1+1+1+1) v1 l
 eq:l.map (·.1)=(q.items.take j).map (itR S T)
structure M2 (A:Option Addr)(c n:Nat)(q:Qy)(s:Sl3)(w0 w:World)(v1 v2 v3:Value)(l:List (It×Value))(wh:List Nd)(rl:List (List Nd×Value)):Prop where
 q4:Q4 A c n q s w0 w (quV q v1 v2 v3 emp)
 oq:OQ w (w0.heap.size+1+1+1+1) v1 v2 v3 l wh rl
section
variable {A:Option Addr}{c n:Nat}{s:Sl3}{w0 w W w1:World}{S:List Td}{T:List Kd}{q:Qy}{v1 v2 v3 v3' v' u:Value}{j:Nat}{l:List (It×Value)}{wh t:List Nd}{rl:List (List Nd×Value)}
theorem M1.stay (h:M1 A c S T q s w0 w j v1 l)(hb:Bw w W):M1 A c S T q s w0 W j v1 l:=⟨h.q4.stay hb,h.it.stay hb,h.eq⟩
theorem M2.stay (h:M2 A c n q s w0 w v1 v2 v3 l wh rl)(hb:Bw w W):M2 A c n q s w0 W v1 v2 v3 l wh rl:=⟨h.q4.stay hb,h.oq.stay hb⟩
theorem M1.item {o:Obj}{it:It}(hq:Q4 A c S.length q s w0 w (quV q v1 (.slice none 0 0) (.slice none 0 0) emp))(hr:RW KI w (w0.heap.size+1+1+1+1) v1 l)
  (heq:l.map (·.1)=(q.items.take j).map (itR S T))(hi:q.items[j]? =some it)(hu:OL w (w0.heap.size+1+1+1+1) NoB 9 1 u it.tys.length ((it.tys.map (cn S T emp)).flatMap strD))(hud:∀q,u.ownBlock=some q→∀p∈l,p.2.ownBlock≠some q)
  (hg:(w.alloc o).grownBy w1 v1.ownBlock)(hO:OL w1 (w0.heap.size+1+1+1+1) NoB 54 5 v' (l.length+1) (l.flatMap icD++icD (itR S T it,u))):
  w1.cell? ⟨w0.heap.size+1+1+1,0,none⟩=some v1∧w1.frozen? ⟨w0.heap.size+1+1+1,0,none⟩=false∧M1 A c S T q s w0 (w1.setCell ⟨w0.heap.size+1+1+1,0,none⟩ v') (j+1) v' (l++[(itR S T it,u)]):=by
 have hA:Bw w (w.alloc o):=(bR).alloc nR o;have hr1:=hr.stay hA;have hu1:=hu.stay hA;have hq1:=(hq.stay hA).grown hg (fun q hq=>(hr1.kr.lt q hq).1);have hlt:(⟨w0.heap.size+1+1+1,0,none⟩:Addr).block<w0.heap.size+1+1+1+1:=by show w0.heap.size+1+1+1<_;omega
 have hdis:∀p∈l,u.ownBlock=none∨u.ownBlock≠p.2.ownBlock:=fun p hp=>by
  cases hq:u.ownBlock with
  |none=>exact .inl rfl
  |some q=>exact .inr fun e=>hud q hq p hp e.symm
 have hu2:OL (w.alloc o) (w0.heap.size+1+1+1+1) NoB KI.es KI.ss u (KI.n (itR S T it)) (KI.ds (itR S T it)):=by
  show OL _ _ _ _ _ _ (it.tys.map (cn S T emp)).length _
  rw[xC];exact hu1
 have hr2:RW KI w1 (w0.heap.size+1+1+1+1) v' (l++[(itR S T it,u)]):=hr1.snoc KI_ne hg hO hu2 hdis;refine⟨hq1.b4.cell 0,hq1.b4.frozen 0,hq1.put 0 v',hr2.far hlt,?_⟩;rw[xR,heq,zJ,hi,xR];rfl
theorem M2.of (h:M1 A c S T q s w0 w q.items.length v1 l)(hb:Bw w W)(hO:OL W w.heap.size NoF 81 6 v' wh.length (wh.flatMap ndD)):M2 A c S.length q s w0 (W.setCell ⟨w0.heap.size+1+1+1,3,none⟩ v') v1 v' (.slice none 0 0) l wh []:=by
 have hs:=h.stay hb;have hlt:(⟨w0.heap.size+1+1+1,3,none⟩:Addr).block<w0.heap.size+1+1+1+1:=by show w0.heap.size+1+1+1<_;omega
 have hb4:=h.q4.b4.lt;have hO2:OL W (w0.heap.size+1+1+1+1) NoB 81 6 v' wh.length (wh.flatMap ndD):=hO.base (by omega);exact⟨hs.q4.put 3 v',⟨hs.it.far hlt,hO2.setCell (fun e=>by have:=(hO2.lt _ e).1;omega) (fun h=>h) _,RW.nil _ _ _,fun p hp=>by simp at hp⟩⟩
theorem M2.put {o:Obj}{b:Nat}(h:M2 A c n q s w0 w v1 v2 v3 l wh rl)(hu:OL (w.alloc o) b NoB 81 6 u t.length (t.flatMap ndD))(hub:∀q,u.ownBlock=some q→(∀p∈rl,p.2.ownBlock≠some q)∧v2.ownBlock≠some q)(hb:w0.heap.size+1+1+1+1≤b)
  (hg:(w.alloc o).grownBy w1 v3.ownBlock)(hO:OL w1 (w0.heap.size+1+1+1+1) NoB 29 1 v3' (rl.length+1) (rl.flatMap rcD++rcD (t,u))):
  w1.cell? ⟨w0.heap.size+1+1+1,6,none⟩=some v3∧w1.frozen? ⟨w0.heap.size+1+1+1,6,none⟩=false∧M2 A c n q s w0 (w1.setCell ⟨w0.heap.size+1+1+1,6,none⟩ v3') v1 v2 v3' l wh (rl++[(t,u)]):=by
 have ha:=h.stay ((bR).alloc nR o);have hq1:=ha.q4.grown hg (fun q hq=>(ha.oq.r.kr.lt q hq).1);have hdis:∀p∈rl,u.ownBlock=none∨u.ownBlock≠p.2.ownBlock:=fun p hp=>by
  cases hq:u.ownBlock with
  |none=>exact .inl rfl
  |some q=>exact .inr fun e=>(hub q hq).1 p hp e.symm
 have hr2:RW KR w1 (w0.heap.size+1+1+1+1) v3' (rl++[(t,u)]):=ha.oq.r.snoc KR_ne hg hO (hu.base hb) hdis;have hlt:(⟨w0.heap.size+1+1+1,6,none⟩:Addr).block<w0.heap.size+1+1+1+1:=by show w0.heap.size+1+1+1<_;omega
 have hi1:RW KI w1 (w0.heap.size+1+1+1+1) v1 l:=ha.oq.i.kept hg (ha.oq.i.kr.ne ha.oq.r.kr (by decide)) (fun p hp=>(ha.oq.i.fr p hp).ne ha.oq.r.kr (by decide));have hw1:OL w1 (w0.heap.size+1+1+1+1) NoB 81 6 v2 wh.length (wh.flatMap ndD):=ha.oq.wr.kept hg (ha.oq.wr.ne ha.oq.r.kr (by decide)) (fun _ hb=>hb.elim);refine⟨hq1.b4.cell 6,hq1.b4.frozen 6,hq1.put 6 v3',OQ.far ⟨hi1,hw1,hr2,fun p hp=>?_⟩ hlt⟩;rcases zM.1 hp with hp |hp
 ·exact h.oq.ne p hp
 ·rw[xB]at hp;subst hp;cases hq:v2.ownBlock with
  |none=>exact .inl rfl
  |some q=>exact .inr fun e=>(hub q e.symm).2 hq
end
def RQPost (q:Qy)(w:World)(e:Ending)(w':World):Prop:=∃v1 v2 v3 l rl,e=.returned (.agg ⟨quV q v1 v2 v3 q.by_⟩)∧OQ w' w.heap.size v1 v2 v3 l q.wh rl∧l.map (·.1)=q.items∧rl.map (·.1)=q.ret∧Bw w w'
theorem turnQ_0 {S:List Td}{T:List Kd}{q:Qy}(h:q.by_=emp):turnQ S T q={q with items:=q.items.map (itR S T),wh:=q.wh.map (turnN S T q),ret:=q.ret.map (fun t=>t.map (turnN S T q)),by_:=emp}:=by unfold turnQ;rw[if_pos h];rfl
theorem turnQ_1 {S:List Td}{T:List Kd}{q:Qy}(h:q.by_≠emp):turnQ S T q={q with items:=q.items.map (itR S T),wh:=q.wh.map (turnN S T q),ret:=q.ret.map (fun t=>t.map (turnN S T q)),by_:=cn S T q.by_ ((q.items.headD ⟨false,[],emp,0,0⟩).tys.headD emp)}:=by unfold turnQ;rw[if_neg h];rfl
namespace refW
open nmW ckW
theorem rTurned_k (A At:Option Addr)(c ct:Nat)(F G:Nat→Prop)(S:List Td)(T:List Kd)(q:Qy)(s:Sl3)(hS:SzT S)(hT:T.length≤1048576)(hTf:∀k∈T,k.fs.length≤1048576)(hs:SzQ q)(hty:∀x∈q.items,0<x.tys.length)(hq0:0<q.items.length)(w:World)(hG:∀b,G b→b<w.heap.size)
  (r:Rd w F (.slice A S.length c) (.sl S.length (S.flatMap tdD)))(rt:Rd w G (.slice At T.length ct) (.sl T.length (T.flatMap kdD)))(R:QR w F q s):
  Calls Tryz.prog 26 #[.agg ⟨[.slice A S.length c]⟩,.slice At T.length ct,.agg ⟨qV q s⟩] w (RQPost (turnQ S T q) w):=by
 have hF:=R.lt;have kit:=fun(i:Nat) it (hi:q.items[i]? =some it)=>it_at R.r1 hi
 have kre:=fun(i:Nat) t (hi:q.ret[i]? =some t)=>re_at R.r3 hi
 have kk:=fun n a W (hW:Bw w W)=>called_k A At c ct F G S T n a hS hT hTf W (fun b h=>zF (hF b h) hW.size) (fun b h=>zF (hG b h) hW.size) (r.under hW hF) (rt.under hW hG)
 have kw:=fun(Ax:Option Addr)(cx:Nat) t (hl:t.length≤1048576)(rx:Rd w F (.slice Ax t.length cx) (.sl t.length (t.flatMap ndD))) W (hW:Bw w W)=>turnedTree_k A At Ax c ct cx F G F S T q s t hS hT hTf hs hty hl W (fun b h=>zF (hG b h) hW.size) (fun b h=>zF (hF b h) hW.size) (r.under hW hF) (rt.under hW hG) (R.under hW) (rx.under hW hF)
 have kww:=kw s.a2 s.c2 q.wh hs.wh.1 R.r2;have hil:=hs.il;have hrl:=hs.rl;have hits:=hs.it;have hres:=hs.re;obtain⟨R0,hR0⟩:∃R,R=turnQ S T q:=⟨_,rfl⟩
 rw[←hR0];have e0:q.by_=emp→R0=_:=fun h=>hR0.trans (turnQ_0 h)
 have e1:q.by_≠emp→R0=_:=fun h=>hR0.trans (turnQ_1 h)
 clear hR0;obtain⟨A1,c1,A2,c2,A3,c3⟩:=s;have h0:M1 A c S T q ⟨A1,c1,A2,c2,A3,c3⟩ w ((((w.alloc (.cells ⟨[.slice A S.length c]⟩ 24)).alloc (.cells ⟨qV q ⟨A1,c1,A2,c2,A3,c3⟩⟩ 32)).alloc (.cells ⟨zqV⟩ 32)).alloc (.cells ⟨quV q (.slice none 0 0) (.slice none 0 0) (.slice none 0 0) emp⟩ 32)) 0 (.slice none 0 0) []:=
  ⟨⟨(((bA).alloc (by simp) _).alloc (by simp;omega) _).alloc (by simp;omega) _,(((Blk.new _ _ _).alloc _).alloc _).alloc _,((Blk.new' (by simp)).alloc _).alloc _,(Blk.new' (by simp)).alloc _,Blk.new' (by simp)⟩,RW.nil _ _ _,rfl⟩
 simp only[qV,zqV,quV,emp]at h0 ⊢;try simp only at kit kre kww
 replace h0:=Hd h0;replace hF:=Hd hF;replace kit:=Hd kit;replace kre:=Hd kre;replace kk:=Hd kk;replace kw:=Hd kw;replace kww:=Hd kww;replace hty:=Hd hty;replace hits:=Hd hits;replace hres:=Hd hres;replace e0:=Hd e0;replace e1:=Hd e1;clear R r rt hS hT hTf hs hG;go_enter Tryz.func26,Tryz.ntmps26;go_wp2;go_loopw [8] (fun i wr=>∃(j:Nat)(v1:Value)(l:List (It×Value)),j≤q.items.length∧i=.int .i64 j∧M1 A c S T q ⟨A1,c1,A2,c2,A3,c3⟩ w wr j v1 l) (fun i _=>q.items.length- (intOf i).toNat)
 case atStart=>exact⟨0,.slice none 0 0,[],zE _,rfl,h0.out⟩
 case round=>
  clear h0;obtain⟨j,v1,l,hj,rfl,hL⟩:=hrel;obtain⟨Ai,ci,rfl⟩:=hL.it.kr.form;have hB:=hL.q4.hb;have hbw:=hB.size;have hb4:=hL.q4.b4.lt;have hll:l.length≤q.items.length:=by
   have:=congrArg List.length hL.eq;rw[xC,xC,zO]at this;omega
  have y0:wr.cell? ⟨w.heap.size+1,0,none⟩=some (.slice A1 q.items.length c1):=hL.q4.b1.cell 0;by_cases hlt:j<q.items.length
  ·obtain⟨it,hi⟩:=getx hlt;have him:=zA hi;have htl:=(hits.out it him).1.1;obtain⟨gI,oI,A5,c5,eI,hFI,rx0,b0,b1,b2,b3,b4⟩:=kit.out j it hi;try simp only at eI
   subst eI;have hgI:=hF.out gI hFI;have a0:=(hB.cell (p:=⟨gI,oI+j*5,none⟩) hgI).trans b0;have a1:=(hB.cell (p:=⟨gI,oI+j*5+1,none⟩) hgI).trans b1;have a2:=(hB.cell (p:=⟨gI,oI+j*5+2,none⟩) hgI).trans b2;have a3:=(hB.cell (p:=⟨gI,oI+j*5+3,none⟩) hgI).trans b3;have a4:=(hB.cell (p:=⟨gI,oI+j*5+4,none⟩) hgI).trans b4;replace rx0:=Hd rx0;clear b0 b1 b2 b3 b4;have g0:(0:Int)≤(j:Int):=by omega
   have g1:(j:Int)<q.items.length:=by omega
   obtain⟨wo,hwo⟩:∃wo:World,wo=wr:=⟨_,rfl⟩
   subst hwo;obtain⟨W1,hW1⟩:∃W1,W1=wo.alloc (.cells ⟨itV it (.slice A5 it.tys.length c5)⟩ 54):=⟨_,rfl⟩
   have hB1:Bw wo W1:=by rw[hW1];exact bA
   have hb9:Blk W1 wo.heap.size 54 (itV it (.slice A5 it.tys.length c5)):=by rw[hW1];exact Blk.new wo _ _
   have hs1:wo.heap.size<W1.heap.size:=hb9.lt;have hL1:=hL.stay hB1;simp only[itV]at hW1;have hWW:=Hd hW1;have d0:W1.cell? ⟨wo.heap.size,0,none⟩=some (.bool it.neg):=hb9.cell 0;have d2:W1.cell? ⟨wo.heap.size,2,none⟩=some (.string it.v):=hb9.cell 2;have d3:W1.cell? ⟨wo.heap.size,3,none⟩=some (.int .i64 it.lo):=hb9.cell 3;have d4:W1.cell? ⟨wo.heap.size,4,none⟩=some (.int .i64 it.hi):=hb9.cell 4;obtain⟨W2,hW2⟩:∃W2,W2=W1.alloc (.cells ⟨[.bool it.neg,.slice none 0 0,.string it.v,.int .i64 it.lo,.int .i64 it.hi]⟩ 54):=⟨_,rfl⟩
   have hB2:Bw W1 W2:=by rw[hW2];exact bA
   have hbA:Blk W2 W1.heap.size 54 [.bool it.neg,.slice none 0 0,.string it.v,.int .i64 it.lo,.int .i64 it.hi]:=by rw[hW2];exact Blk.new W1 _ _
   have hs2:W1.heap.size<W2.heap.size:=hbA.lt;have hL2:=hL1.stay hB2;have hb92:=hb9.stay hB2;have hIN0:Hid (IN W2 (W1.alloc (.cells ⟨[.bool it.neg,.slice none 0 0,.string it.v,.int .i64 it.lo,.int .i64 it.hi]⟩ 54)) W1.heap.size it 0 (it.tys.map (cn S T emp)) (.slice none 0 0)):=by
    show IN _ _ _ _ _ _ _
    rw[←hW2];exact⟨World.grownBy.refl _ _,hbA,.nil _ _ _ _ _,hs2⟩
   have h1L:=Hd hL1;replace hL2:=Hd hL2;replace hb92:=Hd hb92;replace hW2:=Hd hW2;replace him:=Hd him;replace hi:=Hd hi;clear hW1 hL hb9 hbA hL1 hB1 hB2;go_upto_region 6 with fail
   rw[←hWW.out];clear a0 a1 a2 a3 a4 y0;go_wp2;clear d0 d2 d3 d4;go_loopw [11] (fun i wr=>∃(k:Nat)(u:Value),k≤it.tys.length∧i=.int .i64 k∧IN W2 wr W1.heap.size it k (it.tys.map (cn S T emp)) u) (fun i _=>it.tys.length- (intOf i).toNat)
   case atStart=>exact⟨0,.slice none 0 0,zE _,rfl,hIN0.out⟩
   case round=>
    clear hIN0;obtain⟨k,u,hk,rfl,hI⟩:=hrel;obtain⟨Au,cu,rfl⟩:=hI.ou.form;have hQr:=hL2.out.q4.grown hI.hg (fun q hq=>by injection hq with hq;omega);have hb9r:=hb92.out.grown hI.hg (fun e=>by injection e with e;omega);have hBr:=hQr.hb;have hwl:=hI.bi.lt;have hws:=hI.hg.size;have n9:wr.cell? ⟨wo.heap.size,1,none⟩=some (.slice A5 it.tys.length c5):=hb9r.cell 1;by_cases hltk:k<it.tys.length
    ·obtain⟨n,hn⟩:=getx hltk;obtain⟨b5,o5,rfl,hF5,n0⟩:=str_at (rx0.out.under hBr hF.out) hn;have hg5:=hF.out b5 hF5;have p0:(0:Int)≤(k:Int):=by omega
     have p1:(k:Int)<it.tys.length:=(by omega);have hTk:(it.tys.map (cn S T emp))[k]? =some ((calld S n emp T).getD emp):=by rw[zG,hn];rfl
     have knn:=kk.out n emp wr.drew hBr.drew;generalize calld S n emp T=o at knn hTk;have hBs:=hBr.size;have kS:=fun W (hW:Bw wr W)=>xW ((hQr.stay hW).b0.cell 0) (xW ((hb9r.stay hW).cell 1) ((hW.cell (p:=⟨b5,o5+k,none⟩) (by show b5<_;omega)).trans n0))
     have hSS:=xW (kS wr.drew (bR).drew) trivial;replace kS:=Hd kS;replace knn:=Hd knn;replace hTk:=Hd hTk;replace hn:=Hd hn;replace hI:=Hd hI;replace hQr:=Hd hQr;replace hBr:=Hd hBr;replace hb9r:=Hd hb9r;go_upto_region 10 with fail
     clear n0 n9;refine G_region (p:=100) (S0:=fun W=>W.cell? ⟨w.heap.size,0,none⟩=some (.slice A S.length c)∧W.cell? ⟨wo.heap.size,1,none⟩=some (.slice (some ⟨b5,o5,none⟩) it.tys.length c5)∧W.cell? ⟨b5,o5+k,none⟩=some (.string n)) (S1:=fun _=>True) (by kernel_rfl) ?_;refine' TkA 0 rfl hSS ?_;refine' TkA 1 rfl hSS ?_;refine' TkA 2 rfl hSS ?_;refine' TkA 3 rfl hSS ?_;refine' TkA 4 rfl hSS ?_;refine' TkA 5 rfl hSS ?_;refine' TkA 6 rfl hSS ?_;try simp only[Act.put,TkS]
     refine Gs 7 rfl fun K hK=>?_
     go_simp;go_at_call 57;refine(knn.out).mono ?_;rintro e W4 ⟨rfl,hBW4⟩;have hUW4:=Hd ((zB wr.heap.size wr).drew.trans hBW4);refine hK.out _ _ ⟨kS.out W4 hUW4.out,fun _=>trivial⟩ ?_;have hST:=xW (kS.out W4 hUW4.out) trivial;clear hK K hSS hBW4;refine' TkA 8 rfl hST ?_;refine' TkA 9 rfl hST ?_;refine' TkA 10 rfl hST ?_;try simp only[Act.put,TkS]
     refine Gs 11 rfl fun K hK=>?_
     go_simp;refine hK.out _ _ ⟨hST.1,fun _=>trivial⟩ ?_;clear hK K;refine Gs 12 rfl fun K hK=>?_
     go_simp;refine hK.out _ _ ⟨hST.1,fun _=>trivial⟩ ?_;clear hK K;clear hST;refine Gd _ ?_;try simp only[Act.put,TkS]
     have hI4:=Hd (hI.out.stay hUW4.out);have c4:W4.cell? ⟨W1.heap.size,1,none⟩=some (.slice Au k cu):=hI4.out.bi.cell 1;have hwl4:=hI4.out.bi.lt;have hws4:=hI4.out.hg.size;go_wp2_with (at_builtin;refine wpa rfl (.tmp 65) (.tmp 67) _ rfl (m:=1) (news:=strD (o.getD emp)) elStr (hI4.out.ou.alloc _) rfl rfl (Src.lit (show RdL W4 _ [.string (o.getD emp)] (strD (o.getD emp))from⟨.v _ rfl,trivial⟩)) rfl (by omega) (by omega) (by simp;omega) ?_;intro v5 w5 hO5 hg5 ha5;obtain⟨B5,d5,rfl⟩:=hO5.form;obtain⟨t1,t2,t3⟩:=hI4.out.put hTk.out hg5 hO5;replace t3:=Hd t3;clear hO5 hg5 ha5);go_roundw
     case rel=>exact⟨k+1,_,by omega,by go_num,t3.out⟩
     case measure=>simp[intOf];omega
    ·obtain rfl:k=it.tys.length:=by omega
     have hou:=hI.ou;rw[xH (by simp)]at hou;have j0:wr.cell? ⟨W1.heap.size,0,none⟩=some (.bool it.neg):=hI.bi.cell 0;have j1:wr.cell? ⟨W1.heap.size,1,none⟩=some (.slice Au it.tys.length cu):=hI.bi.cell 1;have j2:wr.cell? ⟨W1.heap.size,2,none⟩=some (.string it.v):=hI.bi.cell 2;have j3:wr.cell? ⟨W1.heap.size,3,none⟩=some (.int .i64 it.lo):=hI.bi.cell 3;have j4:wr.cell? ⟨W1.heap.size,4,none⟩=some (.int .i64 it.hi):=hI.bi.cell 4;have q0:wr.cell? ⟨w.heap.size+1+1+1,0,none⟩=some (.slice Ai l.length ci):=hQr.b4.cell 0;have q0l:=hQr.b4.lt;have hnei:∀{e size n:Nat}{v:Value}{ds:List D},OL W1 (w.heap.size+1+1+1+1) NoB e size v n ds→v.ownBlock=none∨v.ownBlock≠some W1.heap.size:=fun ho=>.inr fun e=>by have:=(ho.lt _ e).2;omega
     have hIr:RW KI wr (w.heap.size+1+1+1+1) (.slice Ai l.length ci) l:=hL2.out.it.kept hI.hg (hnei h1L.out.it.kr) (fun p hp=>hnei (h1L.out.it.fr p hp));have hu:OL wr (w.heap.size+1+1+1+1) NoB 9 1 (.slice Au it.tys.length cu) it.tys.length ((it.tys.map (cn S T emp)).flatMap strD):=hou.base (by omega);have hud:∀qq,(Value.slice Au it.tys.length cu).ownBlock=some qq→∀p∈l,p.2.ownBlock≠some qq:=fun qq hq p hp e=>by
      have h1:=(hou.lt qq hq).1;have:=((hL2.out.it.fr p hp).lt qq e).2;omega
     have hpost2:=fun w1 v' (hg:(wr.alloc (.cells ⟨[.bool it.neg,.slice Au it.tys.length cu,.string it.v,.int .i64 it.lo,.int .i64 it.hi]⟩ 54)).grownBy w1 (Value.slice Ai l.length ci).ownBlock)(hO:OL w1 (w.heap.size+1+1+1+1) NoB 54 5 v' (l.length+1) (l.flatMap icD++icD (itR S T it,.slice Au it.tys.length cu)))=>M1.item hQr hIr hL2.out.eq hi.out hu hud hg hO
     have hkr:=Hd (hIr.kr.alloc (.cells ⟨[.bool it.neg,.slice Au it.tys.length cu,.string it.v,.int .i64 it.lo,.int .i64 it.hi]⟩ 54));replace hpost2:=Hd hpost2;replace hb9r:=Hd hb9r;clear hou hIr hu hud hI hQr;go_wp2_with (at_builtin;refine wpa rfl (.tmp 71) (.tmp 73) _ rfl (m:=1) (news:=icD (itR S T it,.slice Au it.tys.length cu)) elIt hkr.out rfl rfl (Src.lit (ic_rd wr _ (itR S T it) Au it.tys.length cu)) rfl (by omega) (by omega) (by simp;omega) ?_;intro v' w7 hO7 hg7 ha7;obtain⟨B7,d7,rfl⟩:=hO7.form;obtain⟨t1,t2,t3⟩:=hpost2.out _ _ hg7 hO7;replace t3:=Hd t3;clear hO7 hg7 ha7);go_roundw
     case rel=>exact⟨j+1,_,_,by omega,by go_num,t3.out⟩
     case measure=>simp[intOf];omega
  ·obtain rfl:j=q.items.length:=by omega
   have hleq:=hL.eq;rw[zL]at hleq;have x0:wr.cell? ⟨w.heap.size,0,none⟩=some (.slice A S.length c):=hL.q4.b0.cell 0;have y1:wr.cell? ⟨w.heap.size+1,1,none⟩=some (.int .i64 q.mode):=hL.q4.b1.cell 1;have y2:wr.cell? ⟨w.heap.size+1,2,none⟩=some (.int .i64 q.after):=hL.q4.b1.cell 2;have y3:wr.cell? ⟨w.heap.size+1,3,none⟩=some (.slice A2 q.wh.length c2):=hL.q4.b1.cell 3;have y4:wr.cell? ⟨w.heap.size+1,4,none⟩=some (.int .i64 q.within):=hL.q4.b1.cell 4;have y5:wr.cell? ⟨w.heap.size+1,5,none⟩=some (.string q.by_):=hL.q4.b1.cell 5;have y6:wr.cell? ⟨w.heap.size+1,6,none⟩=some (.slice A3 q.ret.length c3):=hL.q4.b1.cell 6;have kwh:=kww.out wr hB;obtain⟨wh',hwh⟩:∃wh',wh'=q.wh.map (turnN S T q):=⟨_,rfl⟩
   rw[←hwh]at kwh;replace kwh:=Hd kwh;replace hwh:=Hd hwh;replace hleq:=Hd hleq;replace hL:=Hd hL;go_upto_region 14 with(go_at_call 58;refine kwh.out.mono ?_;rintro e W6 ⟨v6,rfl,hO6,hB6⟩;obtain⟨A6,c6,rfl⟩:=hO6.form;have hq6:=hL.out.q4.stay hB6;have s3:W6.cell? ⟨w.heap.size+1+1+1,3,none⟩=some (.slice none 0 0):=hq6.b4.cell 3;have s4:=hq6.b4.frozen 3;have hM0:=M2.of hL.out hB6 hO6;clear hq6 hO6)
   obtain⟨W7,hW7⟩:∃W7,W7=W6.setCell ⟨w.heap.size+1+1+1,3,none⟩ (.slice A6 wh'.length c6):=⟨_,rfl⟩
   rw[←hW7]at hM0 ⊢;clear y0 y1 y2 y3 y4 y5 y6 x0 s3 s4 hB6;replace hW7:=Hd hW7;replace hM0:=Hd hM0;go_wp2;go_loopw [14] (fun i wr=>∃(kj:Nat)(v3:Value)(rl:List (List Nd×Value)),kj≤q.ret.length∧rl.length=kj∧i=.int .i64 kj∧M2 A c S.length q ⟨A1,c1,A2,c2,A3,c3⟩ w wr (.slice Ai l.length ci) (.slice A6 wh'.length c6) v3 l wh' rl∧Hid (rl.map (·.1)=(q.ret.take kj).map (fun t=>t.map (turnN S T q)))) (fun i _=>q.ret.length- (intOf i).toNat)
   case atStart=>exact⟨0,.slice none 0 0,[],zE _,rfl,rfl,hM0.out,rfl⟩
   case round=>
    clear hM0;obtain⟨kj,v3,rl,hkj,hrll,rfl,hM,hp3⟩:=hrel;obtain⟨Ar,cr,rfl⟩:=hM.oq.r.kr.form;have hBr:=hM.q4.hb;have hbr:=hBr.size;have y6:wr.cell? ⟨w.heap.size+1,6,none⟩=some (.slice A3 q.ret.length c3):=hM.q4.b1.cell 6;by_cases hlt3:kj<q.ret.length
    ·obtain⟨t,ht⟩:=getx hlt3;have htm:=zA ht;obtain⟨gR,oR,At5,ct5,eR,hFR,rt0,r0⟩:=kre.out kj t ht;try simp only at eR
     subst eR;have hgR:=hF.out gR hFR;have p0:(0:Int)≤(kj:Int):=by omega
     have p1:(kj:Int)<q.ret.length:=(by omega);have kS:=fun W (hW:Bw wr W)=>xW ((hM.q4.stay hW).b0.cell 0) (xW ((hM.q4.stay hW).b1.cell 0) (xW ((hM.q4.stay hW).b1.cell 1) (xW ((hM.q4.stay hW).b1.cell 2) (xW ((hM.q4.stay hW).b1.cell 3) (xW ((hM.q4.stay hW).b1.cell 4) (xW ((hM.q4.stay hW).b1.cell 5) (xW ((hM.q4.stay hW).b1.cell 6) ((hW.cell (p:=⟨gR,oR+kj,none⟩) (by show gR<_;omega)).trans ((hBr.cell (p:=⟨gR,oR+kj,none⟩) hgR).trans r0)))))))))
     have hSS:=xW (kS wr.drew (bR).drew) trivial;have ktt:=kw.out At5 ct5 t (hres.out t htm).1 rt0 wr.drew hBr.drew;have hst:(rl.map (·.1)++[t.map (turnN S T q)])=(q.ret.take (kj+1)).map (fun t=>t.map (turnN S T q)):=by rw[zJ,ht,xR,←hp3.out];rfl
     obtain⟨t',ht'⟩:∃t',t'=t.map (turnN S T q):=⟨_,rfl⟩
     rw[←ht']at ktt hst;have hrl2:rl.length≤1048576:=by omega
     replace hst:=Hd hst;replace ht':=Hd ht';replace kS:=Hd kS;replace ktt:=Hd ktt;replace hrll:=Hd hrll;replace ht:=Hd ht;replace htm:=Hd htm;replace rt0:=Hd rt0;replace hM:=Hd hM;replace hBr:=Hd hBr;try simp only[qV]at ktt
     have y61:wr.drew.cell? ⟨w.heap.size+1,6,none⟩=some (.slice (some ⟨gR,oR,none⟩) q.ret.length c3):=y6;clear y61;go_upto_region 17 with fail
     clear y6 r0;refine G_region (p:=100) (S0:=fun W=>W.cell? ⟨w.heap.size,0,none⟩=some (.slice A S.length c)∧W.cell? ⟨w.heap.size+1,0,none⟩=some (.slice A1 q.items.length c1)∧W.cell? ⟨w.heap.size+1,1,none⟩=some (.int .i64 q.mode)∧W.cell? ⟨w.heap.size+1,2,none⟩=some (.int .i64 q.after)∧W.cell? ⟨w.heap.size+1,3,none⟩=some (.slice A2 q.wh.length c2)∧W.cell? ⟨w.heap.size+1,4,none⟩=some (.int .i64 q.within)∧W.cell? ⟨w.heap.size+1,5,none⟩=some (.string q.by_)∧W.cell? ⟨w.heap.size+1,6,none⟩=some (.slice (some ⟨gR,oR,none⟩) q.ret.length c3)∧W.cell? ⟨gR,oR+kj,none⟩=some (.slice At5 t.length ct5)) (S1:=fun _=>True) (by kernel_rfl) ?_;refine' TkA 0 rfl hSS ?_;refine' TkA 1 rfl hSS ?_;refine' TkA 2 rfl hSS ?_;refine' TkA 3 rfl hSS ?_;refine' TkA 4 rfl hSS ?_;refine' TkA 5 rfl hSS ?_;refine' TkA 6 rfl hSS ?_;refine' TkA 7 rfl hSS ?_;try simp only[Act.put,TkS]
     refine Gs 8 rfl fun K hK=>?_
     go_simp;go_at_call 58;refine(ktt.out).mono ?_;rintro e W8 ⟨vW8,rfl,hOW8,hBW8⟩;have hUW8:=Hd ((zB wr.heap.size wr).drew.trans hBW8);refine hK.out _ _ ⟨kS.out W8 hUW8.out,fun _=>trivial⟩ ?_;have hST:=xW (kS.out W8 hUW8.out) trivial;clear hK K hSS hBW8;try simp only[Act.put,TkS]
     refine Gs 9 rfl fun K hK=>?_
     go_simp;refine hK.out _ _ ⟨hST.1,fun _=>trivial⟩ ?_;clear hK K;clear hST;refine Gd _ ?_;try simp only[Act.put,TkS]
     obtain⟨A8,c8,rfl⟩:=hOW8.form;have hM8:=hM.out.stay hUW8.out;have q6:W8.cell? ⟨w.heap.size+1+1+1,6,none⟩=some (.slice Ar rl.length cr):=hM8.q4.b4.cell 6;have q6l:=hM8.q4.b4.lt;have hz8:=hM8.q4.hb.size;have hpost3:=fun w1 v' (hg:(W8.alloc (.cells ⟨[.slice A8 t'.length c8]⟩ 29)).grownBy w1 (Value.slice Ar rl.length cr).ownBlock) hO=>M2.put (t:=t') (u:=.slice A8 t'.length c8) (b:=wr.heap.size) (v3':=v') hM8 (hOW8.alloc (.cells ⟨[.slice A8 t'.length c8]⟩ 29)) (fun qq hq=>⟨fun p hp e=>(by have h1:=(hOW8.lt qq hq).1;have h2:=((hM.out.oq.r.fr p hp).lt qq e).2;simp at h1;omega),fun e=>(by have h1:=(hOW8.lt qq hq).1;have h2:=(hM.out.oq.wr.lt qq e).2;simp at h1;omega)⟩) (by have:=hM.out.q4.b4.lt;omega) hg hO
     have hkr:=Hd (hM8.oq.r.kr.alloc (.cells ⟨[.slice A8 t'.length c8]⟩ 29));replace hpost3:=Hd hpost3;clear hM8 hOW8;go_wp2_with (at_builtin;refine wpa rfl (.tmp 100) (.tmp 102) _ rfl (m:=1) (news:=rcD (t',.slice A8 t'.length c8)) elRe hkr.out rfl rfl (Src.lit (rc_rd W8 _ t' A8 t'.length c8)) rfl (by omega) (by omega) (by simp;omega) ?_;intro v' w9 hO9 hg9 ha9;obtain⟨B9,d9,rfl⟩:=hO9.form;obtain⟨t1,t2,t3⟩:=hpost3.out _ _ hg9 hO9;replace t3:=Hd t3;clear hO9 hg9 ha9);go_roundw
     case rel=>exact⟨kj+1,_,rl++[(t',.slice A8 t'.length c8)],by omega,by rw[zH,hrll.out];rfl,by go_num,t3.out,by show _=_;rw[←hst.out];simp⟩
     case measure=>simp[intOf];omega
    ·obtain rfl:kj=q.ret.length:=by omega
     have hret:=hp3.out;rw[zL]at hret;have y5:wr.cell? ⟨w.heap.size+1,5,none⟩=some (.string q.by_):=hM.q4.b1.cell 5;have b0:wr.cell? ⟨w.heap.size+1+1+1,0,none⟩=some (.slice Ai l.length ci):=hM.q4.b4.cell 0;have b1:wr.cell? ⟨w.heap.size+1+1+1,1,none⟩=some (.int .i64 q.mode):=hM.q4.b4.cell 1;have b2:wr.cell? ⟨w.heap.size+1+1+1,2,none⟩=some (.int .i64 q.after):=hM.q4.b4.cell 2;have b3:wr.cell? ⟨w.heap.size+1+1+1,3,none⟩=some (.slice A6 wh'.length c6):=hM.q4.b4.cell 3;have b4:wr.cell? ⟨w.heap.size+1+1+1,4,none⟩=some (.int .i64 q.within):=hM.q4.b4.cell 4;have b5:wr.cell? ⟨w.heap.size+1+1+1,5,none⟩=some (.string ⟨#[]⟩):=hM.q4.b4.cell 5;have b6:wr.cell? ⟨w.heap.size+1+1+1,6,none⟩=some (.slice Ar rl.length cr):=hM.q4.b4.cell 6;by_cases hby:q.by_=emp
     ·have f1:(q.by_.toList==([]:List UInt8))=true:=(by rw[emp_eq];exact zW hby);have f2:(q.by_.toList != ([]:List UInt8))=false:=by rw[bne,f1];rfl
      have f3:q.by_.toList.isEmpty=true:=(by rw[hby,show emp.toList=[] by rw[ByteArray.toList_eq];rfl];rfl);have hR:R0={q with items:=l.map (·.1),wh:=wh',ret:=rl.map (·.1),by_:=emp}:=by rw[e0.out hby,hleq.out,hwh.out,hret]
      replace hby:=Hd hby;replace hret:=Hd hret;replace hrll:=Hd hrll;replace hM:=Hd hM;go_wp2_with (refine at_op (.store 32 (.tmp 6) (.tmp 125)) rfl ?_;refine wsb rfl 32 (.tmp 6) (.tmp 125) rfl (cs':=quV q (.slice Ai l.length ci) (.slice A6 wh'.length c6) (.slice Ar rl.length cr) emp) hM.out.q4.b2 aggQu rfl rfl rfl rfl ?_;intro w8 hz8 hg8);exact bpa rfl hz8 aggQu rfl rfl (by rw[hR];exact⟨_,_,_,l,rl,rfl,(hM.out.oq.under hg8 (show w.heap.size+1+1<w.heap.size+1+1+1+1 by omega)).base (by omega),rfl,rfl,hM.out.q4.hb.grown hg8 hM.out.q4.hb.size (fun qq hq=>by injection hq with hq;omega)⟩)
     ·have f1:(q.by_.toList==([]:List UInt8))=false:=(by rw[emp_eq];exact zV hby);have f2:(q.by_.toList != ([]:List UInt8))=true:=by rw[bne,f1];rfl
      have f3:q.by_.toList.isEmpty=false:=by
       cases ho:q.by_.toList with
       |nil=>rw[ho]at f1;simp at f1
       |cons=>rfl
      obtain⟨it,hi⟩:=getx hq0;obtain⟨gI,oI,A5,c5,eI,hFI,rx0,_,i1,_,_,_⟩:=kit.out 0 it hi;try simp only at eI
      subst eI;have hty0:=hty.out it (zA hi);obtain⟨n,hn⟩:=getx (l:=it.tys) (i:=0) hty0;obtain⟨gT,oT,rfl,hFT,t0⟩:=str_at rx0 hn;rw[Nat.add_zero]at t0;rw[Nat.zero_mul,Nat.add_zero]at i1;have hgI:=hF.out gI hFI;have hgT:=hF.out gT hFT;have hhd:(q.items.headD ⟨false,[],emp,0,0⟩).tys.headD emp=n:=by
       have e1:q.items.headD ⟨false,[],emp,0,0⟩=it:=by
        cases hd2:q.items with
        |nil=>rw[hd2]at hi;cases hi
        |cons a r=>rw[hd2]at hi;injection hi
       rw[e1];cases hd2:it.tys with
       |nil=>rw[hd2]at hn;cases hn
       |cons a r=>rw[hd2]at hn;injection hn
      have kkn:=kk.out n q.by_ wr.drew hBr.drew;have hR:R0={q with items:=l.map (·.1),wh:=wh',ret:=rl.map (·.1),by_:=(calld S n q.by_ T).getD emp}:=by rw[e1.out hby,hleq.out,hwh.out,hret,hhd];rfl
      generalize calld S n q.by_ T=o at kkn hR;have kS:=fun W (hW:Bw wr W)=>xW ((hM.q4.stay hW).b0.cell 0) (xW ((hM.q4.stay hW).b1.cell 0) (xW ((hM.q4.stay hW).b1.cell 5) (xW ((hW.cell (p:=⟨gI,oI+1,none⟩) (by show gI<_;omega)).trans ((hBr.cell (p:=⟨gI,oI+1,none⟩) hgI).trans i1)) ((hW.cell (p:=⟨gT,oT,none⟩) (by show gT<_;omega)).trans ((hBr.cell (p:=⟨gT,oT,none⟩) hgT).trans t0)))))
      have hSS:=xW (kS wr.drew (bR).drew) trivial;replace kkn:=Hd kkn;replace kS:=Hd kS;replace hR:=Hd hR;replace hi:=Hd hi;replace hn:=Hd hn;replace hhd:=Hd hhd;replace rx0:=Hd rx0;replace hby:=Hd hby;replace hret:=Hd hret;replace hrll:=Hd hrll;replace hM:=Hd hM;replace hBr:=Hd hBr;clear b0 b1 b2 b3 b4 b5 b6 i1 t0;go_upto_region 20 with fail
      clear y5 y6;refine G_region (p:=100) (S0:=fun W=>W.cell? ⟨w.heap.size,0,none⟩=some (.slice A S.length c)∧W.cell? ⟨w.heap.size+1,0,none⟩=some (.slice (some ⟨gI,oI,none⟩) q.items.length c1)∧W.cell? ⟨w.heap.size+1,5,none⟩=some (.string q.by_)∧W.cell? ⟨gI,oI+1,none⟩=some (.slice (some ⟨gT,oT,none⟩) it.tys.length c5)∧W.cell? ⟨gT,oT,none⟩=some (.string n)) (S1:=fun _=>True) (by kernel_rfl) ?_;refine' TkA 0 rfl hSS ?_;refine' TkA 1 rfl hSS ?_;refine' TkA 2 rfl hSS ?_;refine' TkA 3 rfl hSS ?_;refine' TkA 4 rfl hSS ?_;refine' TkA 5 rfl hSS ?_;refine' TkA 6 rfl hSS ?_;refine' TkA 7 rfl hSS ?_;refine' TkA 8 rfl hSS ?_;refine' TkA 9 rfl hSS ?_;refine' TkA 10 rfl hSS ?_;try simp only[Act.put,TkS]
      refine Gs 11 rfl fun K hK=>?_
      go_simp;go_at_call 57;refine(kkn.out).mono ?_;rintro e W4 ⟨rfl,hBW4⟩;have hUW4:=Hd ((zB wr.heap.size wr).drew.trans hBW4);refine hK.out _ _ ⟨kS.out W4 hUW4.out,fun _=>trivial⟩ ?_;have hST:=xW (kS.out W4 hUW4.out) trivial;clear hK K hSS hBW4;refine' TkA 12 rfl hST ?_;refine' TkA 13 rfl hST ?_;refine' TkA 14 rfl hST ?_;try simp only[Act.put,TkS]
      refine Gs 15 rfl fun K hK=>?_
      go_simp;refine hK.out _ _ ⟨hST.1,fun _=>trivial⟩ ?_;clear hK K;refine Gs 16 rfl fun K hK=>?_
      go_simp;refine hK.out _ _ ⟨hST.1,fun _=>trivial⟩ ?_;clear hK K;clear hST;refine Gd _ ?_;try simp only[Act.put,TkS]
      have hM4:=hM.out.stay hUW4.out;have hq6:=hM4.q4;have hoq:=Hd (OQ.far (x:=.string (o.getD emp)) (p:=⟨w.heap.size+1+1+1,5,none⟩) hM4.oq (by show w.heap.size+1+1+1<_;omega));have b0:W4.cell? ⟨w.heap.size+1+1+1,0,none⟩=some (.slice Ai l.length ci):=hq6.b4.cell 0;have b1:W4.cell? ⟨w.heap.size+1+1+1,1,none⟩=some (.int .i64 q.mode):=hq6.b4.cell 1;have b2:W4.cell? ⟨w.heap.size+1+1+1,2,none⟩=some (.int .i64 q.after):=hq6.b4.cell 2;have b3:W4.cell? ⟨w.heap.size+1+1+1,3,none⟩=some (.slice A6 wh'.length c6):=hq6.b4.cell 3;have b4:W4.cell? ⟨w.heap.size+1+1+1,4,none⟩=some (.int .i64 q.within):=hq6.b4.cell 4;have b5:W4.cell? ⟨w.heap.size+1+1+1,5,none⟩=some (.string ⟨#[]⟩):=hq6.b4.cell 5;have b6:W4.cell? ⟨w.heap.size+1+1+1,6,none⟩=some (.slice Ar rl.length cr):=hq6.b4.cell 6;have s4:=hq6.b4.frozen 5;replace hq6:=Hd (hq6.put 5 (.string (o.getD emp)));clear hM4;go_wp2_with (refine at_op (.store 32 (.tmp 6) (.tmp 125)) rfl ?_;refine wsb rfl 32 (.tmp 6) (.tmp 125) rfl (cs':=quV q (.slice Ai l.length ci) (.slice A6 wh'.length c6) (.slice Ar rl.length cr) (o.getD emp)) hq6.out.b2 aggQu rfl rfl rfl rfl ?_;intro w8 hz8 hg8);exact bpa rfl hz8 aggQu rfl rfl (by rw[hR.out];exact⟨_,_,_,l,rl,rfl,(hoq.out.under hg8 (show w.heap.size+1+1<w.heap.size+1+1+1+1 by omega)).base (by omega),rfl,rfl,hq6.out.hb.grown hg8 hq6.out.hb.size (fun qq hq=>by injection hq with hq;omega)⟩)
end refW
end Go.Proofs.YtfiodnlgiglhfaaGreatDoor
