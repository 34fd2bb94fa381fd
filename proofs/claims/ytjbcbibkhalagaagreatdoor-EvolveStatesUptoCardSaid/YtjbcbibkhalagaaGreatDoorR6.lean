/- The document's turned query on its way. -/
import Derived.Test.YtjbcbibkhalagaaGreatDoorR4
namespace Go.Proofs.YtjbcbibkhalagaaGreatDoor
set_option maxRecDepth 100000
set_option maxHeartbeats 16000000
open Proofs.Tryz Go.RowKit Go.Deep
set_option linter.unusedVariables false
set_option linter.unusedSimpArgs false
def Kg (S:List Td)(T:List Kd)(it:It):It:={it with ah:=it.ah.map (cn S T emp)}
structure Q4 (A:Option Addr)(c n:Nat)(q:Qy)(s:fV)(w w1:World)(vs:List Value):Prop where
 hb:Bw w w1
 b0:ao w1 w.heap.size 24 [.slice A n c]
 b1:ao w1 (w.heap.size+1) 31 (qV q s)
 b2:ao w1 (w.heap.size+1+1) 31 lT
 b4:ao w1 (w.heap.size+1+1+1) 31 vs
section
variable {A:Option Addr}{c n:Nat}{q:Qy}{s:fV}{w0 w W w1:World}{vs:List Value}
theorem Q4.stay (h:Q4 A c n q s w0 w vs)(hb:Bw w W):Q4 A c n q s w0 W vs:=⟨h.hb.trans (hb.mono h.hb.size),h.b0.stay hb,h.b1.stay hb,h.b2.stay hb,h.b4.stay hb⟩
theorem Q4.grown {row}(h:Q4 A c n q s w0 w vs)(hg:w.grownBy w1 row)(hr:∀q,row=some q->w0.heap.size+1+1+1+1<=q):Q4 A c n q s w0 w1 vs:=
 ⟨h.hb.grown hg h.hb.size (λq hq=>by have:=hr q hq;omega),h.b0.grown hg (λe=>by have:=hr _ e.symm;omega),h.b1.grown hg (λe=>by have:=hr _ e.symm;omega),h.b2.grown hg (λe=>by have:=hr _ e.symm;omega),h.b4.grown hg (λe=>by have:=hr _ e.symm;omega)⟩
theorem Q4.put (h:Q4 A c n q s w0 w vs)(k x):Q4 A c n q s w0 (w.setCell ⟨w0.heap.size+1+1+1,k,none⟩ x) (vs.set k x):=
 ⟨h.hb.setCell (by show w0.heap.size<=w0.heap.size+1+1+1;omega) _,h.b0.far (by show w0.heap.size≠w0.heap.size+1+1+1;omega) _,h.b1.far (by show w0.heap.size+1≠w0.heap.size+1+1+1;omega) _,h.b2.far (by show w0.heap.size+1+1≠w0.heap.size+1+1+1;omega) _,h.b4.dz k x⟩
end
structure M1 (A:Option Addr)(c:Nat)(S:List Td)(T:List Kd)(q:Qy)(s:fV)(w0 w:World)(j:Nat)(v1:Value)(l:List (It×Value)):Prop where
 q4:Q4 A c S.length q s w0 w (l8 q v1 (.slice none 0 0) (.slice none 0 0) emp)
 it:RW KI w (w0.heap.size+1+1+1+1) v1 l
 eq:l.map (·.1)=(q.items.take j).map (Kg S T)
structure M2 (A:Option Addr)(c n:Nat)(q:Qy)(s:fV)(w0 w:World)(v1 v2 v3:Value)(l:List (It×Value))(wh:List Nd)(rl:List (List Nd×Value)):Prop where
 q4:Q4 A c n q s w0 w (l8 q v1 v2 v3 emp)
 oq:OQ w (w0.heap.size+1+1+1+1) v1 v2 v3 l wh rl
section
variable {A:Option Addr}{c n:Nat}{s:fV}{w0 w W w1:World}{S:List Td}{T:List Kd}{q:Qy}{v1 v2 v3 v3' v' u:Value}{j:Nat}{l:List (It×Value)}{wh t:List Nd}{rl:List (List Nd×Value)}
theorem M1.stay (h:M1 A c S T q s w0 w j v1 l)(hb:Bw w W):M1 A c S T q s w0 W j v1 l:=⟨h.q4.stay hb,h.it.stay hb,h.eq⟩
theorem M2.stay (h:M2 A c n q s w0 w v1 v2 v3 l wh rl)(hb:Bw w W):M2 A c n q s w0 W v1 v2 v3 l wh rl:=⟨h.q4.stay hb,h.oq.stay hb⟩
theorem M1.item {o it}(hq:Q4 A c S.length q s w0 w (l8 q v1 (.slice none 0 0) (.slice none 0 0) emp))(hr:RW KI w (w0.heap.size+1+1+1+1) v1 l)(heq:l.map (·.1)=(q.items.take j).map (Kg S T))(hi:q.items[j]? =some it)(hu:OL w (w0.heap.size+1+1+1+1) bE 9 1 u it.ah.length ((it.ah.map (cn S T emp)).flatMap aG))(F1:∀q,u.ownBlock=some q->∀p∈l,p.2.ownBlock≠some q)(hg:(w.alloc o).grownBy w1 v1.ownBlock)(hO:OL w1 (w0.heap.size+1+1+1+1) bE 60 5 v' (l.length+1) (l.flatMap Ci++Ci (Kg S T it,u))):
  w1.cell? ⟨w0.heap.size+1+1+1,0,none⟩=some v1/\w1.frozen? ⟨w0.heap.size+1+1+1,0,none⟩=false/\M1 A c S T q s w0 (w1.setCell ⟨w0.heap.size+1+1+1,0,none⟩ v') (j+1) v' (l++[(Kg S T it,u)]):=by
 have hA:Bw w (w.alloc o):=(bR).alloc nR o;have MJ:=hr.stay hA;have F2:=hu.stay hA;have oU:=(hq.stay hA).grown hg (λq hq=>(MJ.kr.lt q hq).1);have hlt:(⟨w0.heap.size+1+1+1,0,none⟩:Addr).block<w0.heap.size+1+1+1+1:=by show w0.heap.size+1+1+1<_;omega
 have vC:∀p∈l,u.ownBlock=none\/u.ownBlock≠p.2.ownBlock:=λp hp=>by
  cases hq:u.ownBlock with
  |none=>exact .inl rfl
  |some q=>exact .inr λe=>F1 q hq p hp e.symm
 have wE:OL (w.alloc o) (w0.heap.size+1+1+1+1) bE KI.es KI.ss u (KI.n (Kg S T it)) (KI.ds (Kg S T it)):=by
  show OL _ _ _ _ _ _ (it.ah.map (cn S T emp)).length _
  rw[xC];exact F2
 have wI:RW KI w1 (w0.heap.size+1+1+1+1) v' (l++[(Kg S T it,u)]):=MJ.snoc ME hg hO wE vC;refine⟨oU.b4.cell 0,oU.b4.frozen 0,oU.put 0 v',wI.far hlt,?_⟩;rw[xR,heq,zJ,hi,xR];rfl
theorem M2.of (h:M1 A c S T q s w0 w q.items.length v1 l)(hb:Bw w W)(hO:OL W w.heap.size eL 63 6 v' wh.length (wh.flatMap b9)):M2 A c S.length q s w0 (W.setCell ⟨w0.heap.size+1+1+1,3,none⟩ v') v1 v' (.slice none 0 0) l wh []:=by
 have hs:=h.stay hb;have hlt:(⟨w0.heap.size+1+1+1,3,none⟩:Addr).block<w0.heap.size+1+1+1+1:=by show w0.heap.size+1+1+1<_;omega
 have jJ:=h.q4.b4.lt;have iK:OL W (w0.heap.size+1+1+1+1) bE 63 6 v' wh.length (wh.flatMap b9):=hO.base oQ;exact⟨hs.q4.put 3 v',⟨hs.it.far hlt,iK.setCell (λe=>by have:=(iK.lt _ e).1;omega) (λh=>h) _,RW.nil _ _ _,λp hp=>by simp at hp⟩⟩
theorem M2.put {o b}(h:M2 A c n q s w0 w v1 v2 v3 l wh rl)(hu:OL (w.alloc o) b bE 63 6 u t.length (t.flatMap b9))(Fb:∀q,u.ownBlock=some q->(∀p∈rl,p.2.ownBlock≠some q)/\v2.ownBlock≠some q)(hb:w0.heap.size+1+1+1+1<=b)(hg:(w.alloc o).grownBy w1 v3.ownBlock)(hO:OL w1 (w0.heap.size+1+1+1+1) bE 28 1 v3' (rl.length+1) (rl.flatMap J8++J8 (t,u))):
  w1.cell? ⟨w0.heap.size+1+1+1,6,none⟩=some v3/\w1.frozen? ⟨w0.heap.size+1+1+1,6,none⟩=false/\M2 A c n q s w0 (w1.setCell ⟨w0.heap.size+1+1+1,6,none⟩ v3') v1 v2 v3' l wh (rl++[(t,u)]):=by
 have ha:=h.stay ((bR).alloc nR o);have oU:=ha.q4.grown hg (λq hq=>(ha.oq.r.kr.lt q hq).1);have vC:∀p∈rl,u.ownBlock=none\/u.ownBlock≠p.2.ownBlock:=λp hp=>by
  cases hq:u.ownBlock with
  |none=>exact .inl rfl
  |some q=>exact .inr λe=>(Fb q hq).1 p hp e.symm
 have wI:RW KR w1 (w0.heap.size+1+1+1+1) v3' (rl++[(t,u)]):=ha.oq.r.snoc MF hg hO (hu.base hb) vC;have hlt:(⟨w0.heap.size+1+1+1,6,none⟩:Addr).block<w0.heap.size+1+1+1+1:=by show w0.heap.size+1+1+1<_;omega
 have Xz:RW KI w1 (w0.heap.size+1+1+1+1) v1 l:=ha.oq.i.kept hg (ha.oq.i.kr.ne ha.oq.r.kr dQ) (λp hp=>(ha.oq.i.fr p hp).ne ha.oq.r.kr dQ);have Er:OL w1 (w0.heap.size+1+1+1+1) bE 63 6 v2 wh.length (wh.flatMap b9):=ha.oq.wr.kept hg (ha.oq.wr.ne ha.oq.r.kr dQ) (λ_ hb=>hb.elim);refine⟨oU.b4.cell 6,oU.b4.frozen 6,oU.put 6 v3',OQ.far ⟨Xz,Er,wI,λp hp=>?_⟩ hlt⟩;rcases zM.1 hp with hp |hp
 .exact h.oq.ne p hp
 .rw[xB]at hp;subst hp;cases hq:v2.ownBlock with
  |none=>exact .inl rfl
  |some q=>exact .inr λe=>(Fb q e.symm).2 hq
end
def M' (q:Qy)(w:World)(e:Ending)(w':World):Prop:=∃v1 v2 v3 l rl,e=.returned (.agg ⟨l8 q v1 v2 v3 q.au⟩)/\OQ w' w.heap.size v1 v2 v3 l q.wh rl/\l.map (·.1)=q.items/\rl.map (·.1)=q.ret/\Bw w w'
theorem RB {S T q}(h:q.au=emp):mG S T q={q with items:=q.items.map (Kg S T),wh:=q.wh.map (cz S T q),ret:=q.ret.map (λt=>t.map (cz S T q)),au:=emp}:=by unfold mG;rw[if_pos h];rfl
theorem RD {S T q}(h:q.au≠emp):mG S T q={q with items:=q.items.map (Kg S T),wh:=q.wh.map (cz S T q),ret:=q.ret.map (λt=>t.map (cz S T q)),au:=cn S T q.au ((q.items.headD ⟨false,[],emp,0,0⟩).ah.headD emp)}:=by unfold mG;rw[if_neg h];rfl
namespace pX
open cH dR
theorem Ju (A At c ct F G S T q s)(hS:iI S)(hT:T.length<=1048576)(sj:∀k∈T,k.fs.length<=1048576)(hs:jE q)(hty:∀x∈q.items,0<x.ah.length)(Ah:0<q.items.length)(w)(hG:∀b,G b->b<w.heap.size)(r:Rd w F (.slice A S.length c) (.sl S.length (S.flatMap fj)))(rt:Rd w G (.slice At T.length ct) (.sl T.length (T.flatMap lW)))(R:QR w F q s):
  Cl 47 #[.agg ⟨[.slice A S.length c]⟩,.slice At T.length ct,.agg ⟨qV q s⟩] w (M' (mG S T q) w):=by
 have hF:=R.lt;have mP:=λ(i:Nat) it (hi:q.items[i]? =some it)=>eV R.r1 hi
 have sk:=λ(i:Nat) t (hi:q.ret[i]? =some t)=>nM R.r3 hi
 have kk:=λn a W (hW:Bw w W)=>rP A At c ct F G S T n a hS hT sj W (λb h=>zF (hF b h) hW.size) (λb h=>zF (hG b h) hW.size) (r.under hW hF) (rt.under hW hG)
 have kw:=λ(Ax:Option Addr)(cx:Nat) t (hl:t.length<=1048576)(rx:Rd w F (.slice Ax t.length cx) (.sl t.length (t.flatMap b9))) W (hW:Bw w W)=>Bf A At Ax c ct cx F G F S T q s t hS hT sj hs hty hl W (λb h=>zF (hG b h) hW.size) (λb h=>zF (hF b h) hW.size) (r.under hW hF) (rt.under hW hG) (R.under hW) (rx.under hW hF)
 have xc:=kw s.a2 s.c2 q.wh hs.wh.1 R.r2;have iT:=hs.il;have BQ:=hs.rl;have hits:=hs.it;have qH:=hs.re;obtain⟨R0,ek⟩:=aB (mG S T q)
 rw[<-ek];have e0:q.au=emp->R0=_:=λh=>ek.trans (RB h)
 have e1:q.au≠emp->R0=_:=λh=>ek.trans (RD h)
 clear ek;obtain⟨A1,c1,A2,c2,A3,c3⟩:=s;have h0:M1 A c S T q ⟨A1,c1,A2,c2,A3,c3⟩ w ((((w.alloc (.cells ⟨[.slice A S.length c]⟩ 24)).alloc (.cells ⟨qV q ⟨A1,c1,A2,c2,A3,c3⟩⟩ 31)).alloc (.cells ⟨lT⟩ 31)).alloc (.cells ⟨l8 q (.slice none 0 0) (.slice none 0 0) (.slice none 0 0) emp⟩ 31)) 0 (.slice none 0 0) []:=
  ⟨⟨(((bA).alloc sJ _).alloc (by simp;omega) _).alloc (by simp;omega) _,(((ao.new _ _ _).alloc _).alloc _).alloc _,((ao.new' sJ).alloc _).alloc _,(ao.new' sJ).alloc _,ao.new' sJ⟩,RW.nil _ _ _,rfl⟩
 simp only[qV,lT,l8,emp]at h0 |-;try simp only at mP sk xc
 replace⟨h0,hF,mP,sk,kk,kw,xc,hty,hits,qH,e0,e1⟩:=uM h0 hF mP sk kk kw xc hty hits qH e0 e1;clear R r rt hS hT sj hs hG;go_enter func47,ntmps47;go_wp2;go_loopw [8] (λi wr=>∃(j:Nat)(v1:Value)(l:List (It×Value)),j<=q.items.length/\i=.int .i64 j/\M1 A c S T q ⟨A1,c1,A2,c2,A3,c3⟩ w wr j v1 l) (λi _=>q.items.length- (intOf i).toNat)
 .exact⟨0,.slice none 0 0,[],zE _,rfl,h0.o⟩
 clear h0;obtain⟨j,v1,l,hj,rfl,hL⟩:=hrel;obtain⟨Ai,ci,rfl⟩:=hL.it.kr.form;have hB:=hL.q4.hb;have rA:=hB.size;have jJ:=hL.q4.b4.lt;have yA:l.length<=q.items.length:=by
  have:=congrArg List.length hL.eq;rw[xC,xC,zO]at this;omega
 have y0:wr.cell? ⟨w.heap.size+1,0,none⟩=some (.slice A1 q.items.length c1):=hL.q4.b1.cell 0;by_cases hlt:j<q.items.length
 .obtain⟨it,hi⟩:=av hlt;have uG:=zA hi;have BZ:=(hits.o it uG).1.1;obtain⟨gI,oI,A5,c5,eI,sg,uA,b0,b1,b2,b3,b4⟩:=mP.o j it hi;try simp only at eI
  subst eI;have pA:=hF.o gI sg;have a0:=(hB.cell (p:=⟨gI,oI+j*5,none⟩) pA).trans b0;have a1:=(hB.cell (p:=⟨gI,oI+j*5+1,none⟩) pA).trans b1;have a2:=(hB.cell (p:=⟨gI,oI+j*5+2,none⟩) pA).trans b2;have a3:=(hB.cell (p:=⟨gI,oI+j*5+3,none⟩) pA).trans b3;have a4:=(hB.cell (p:=⟨gI,oI+j*5+4,none⟩) pA).trans b4;replace uA:=Hd uA;clear b0 b1 b2 b3 b4;have g0:=aH j;have g1:=aV j q.items.length;obtain⟨wo,gU⟩:=aB wr
  subst gU;obtain⟨W1,a9⟩:=aB (wo.alloc (.cells ⟨dX it (.slice A5 it.ah.length c5)⟩ 60))
  have az:Bw wo W1:=by rw[a9];exact bA
  have DC:ao W1 wo.heap.size 60 (dX it (.slice A5 it.ah.length c5)):=by rw[a9];exact ao.new wo _ _
  have eC:wo.heap.size<W1.heap.size:=DC.lt;have Hb:=hL.stay az;simp only[dX]at a9;have qd:=Hd a9;have d0:W1.cell? ⟨wo.heap.size,0,none⟩=some (.bool it.neg):=DC.cell 0;have d2:W1.cell? ⟨wo.heap.size,2,none⟩=some (.string it.v):=DC.cell 2;have d3:W1.cell? ⟨wo.heap.size,3,none⟩=some (.int .i64 it.lo):=DC.cell 3;have d4:W1.cell? ⟨wo.heap.size,4,none⟩=some (.int .i64 it.hi):=DC.cell 4;obtain⟨W2,aX⟩:=aB (W1.alloc (.cells ⟨[.bool it.neg,.slice none 0 0,.string it.v,.int .i64 it.lo,.int .i64 it.hi]⟩ 60))
  have cD:Bw W1 W2:=by rw[aX];exact bA
  have hbA:ao W2 W1.heap.size 60 [.bool it.neg,.slice none 0 0,.string it.v,.int .i64 it.lo,.int .i64 it.hi]:=by rw[aX];exact ao.new W1 _ _
  have ia:W1.heap.size<W2.heap.size:=hbA.lt;have jn:=Hb.stay cD;have VC:=DC.stay cD;have MP:Hid (IN W2 (W1.alloc (.cells ⟨[.bool it.neg,.slice none 0 0,.string it.v,.int .i64 it.lo,.int .i64 it.hi]⟩ 60)) W1.heap.size it 0 (it.ah.map (cn S T emp)) (.slice none 0 0)):=by
   show IN _ _ _ _ _ _ _
   rw[<-aX];exact⟨World.grownBy.refl _ _,hbA,.nil _ _ _ _ _,ia⟩
  have h1L:=Hd Hb;replace⟨jn,VC,aX,uG,hi⟩:=H5 jn VC aX uG hi;clear a9 hL DC hbA Hb az cD;go_upto_region 6 with fail
  rw[<-qd.o];clear a0 a1 a2 a3 a4 y0;go_wp2;clear d0 d2 d3 d4;go_loopw [11] (λi wr=>∃(k:Nat)(u:Value),k<=it.ah.length/\i=.int .i64 k/\IN W2 wr W1.heap.size it k (it.ah.map (cn S T emp)) u) (λi _=>it.ah.length- (intOf i).toNat)
  .exact⟨0,.slice none 0 0,zE _,rfl,MP.o⟩
  clear MP;obtain⟨k,u,hk,rfl,hI⟩:=hrel;obtain⟨Au,cu,rfl⟩:=hI.ou.form;have rO:=jn.o.q4.grown hI.hg (λq hq=>by injection hq with hq;omega);have Jv:=VC.o.grown hI.hg (λe=>by injection e with e;omega);have fy:=rO.hb;have Pb:=hI.bi.lt;have IZ:=hI.hg.size;have n9:wr.cell? ⟨wo.heap.size,1,none⟩=some (.slice A5 it.ah.length c5):=Jv.cell 1;by_cases s9:k<it.ah.length
  .obtain⟨n,hn⟩:=av s9;obtain⟨b5,o5,rfl,AA,n0⟩:=dN (uA.o.under fy hF.o) hn;have qQ:=hF.o b5 AA;have p0:=aH k;have p1:=aV k it.ah.length;have Rn:(it.ah.map (cn S T emp))[k]? =some ((aF S n emp T).getD emp):=by rw[zG,hn];rfl
   have Ht:=kk.o n emp wr.drew fy.drew;generalize aF S n emp T=o at Ht Rn;have hBs:=fy.size;have kS:=λW (hW:Bw wr W)=>xW ((rO.stay hW).b0.cell 0) (xW ((Jv.stay hW).cell 1) ((hW.cell (p:=⟨b5,o5+k,none⟩) (by show b5<_;omega)).trans n0))
   have ak:=xW (kS wr.drew (bR).drew) trivial;replace⟨kS,Ht,Rn,hn,hI,rO,fy,Jv⟩:=H8 kS Ht Rn hn hI rO fy Jv;go_upto_region 10 with fail
   clear n0 n9;refine aC (p:=100) (S0:=λW=>W.cell? ⟨w.heap.size,0,none⟩=some (.slice A S.length c)/\W.cell? ⟨wo.heap.size,1,none⟩=some (.slice (some ⟨b5,o5,none⟩) it.ah.length c5)/\W.cell? ⟨b5,o5+k,none⟩=some (.string n)) (S1:=λ_=>True) kQ ?_;refine' aq 0 rfl ak ?_;refine' aq 1 rfl ak ?_;refine' aq 2 rfl ak ?_;refine' aq 3 rfl ak ?_;refine' aq 4 rfl ak ?_;refine' aq 5 rfl ak ?_;refine' aq 6 rfl ak ?_;try simp only[Act.put,aK]
   refine Gs 7 rfl λK hK=>?_
   go_simp;go_at_call 86;refine(Ht.o).eQ λW4 oX=>?_;have jo:=Hd ((zB wr.heap.size wr).drew.trans oX);refine hK.o _ _ ⟨kS.o W4 jo.o,λ_=>trivial⟩ ?_;have bF:=xW (kS.o W4 jo.o) trivial;clear hK K ak oX;refine' aq 8 rfl bF ?_;refine' aq 9 rfl bF ?_;refine' aq 10 rfl bF ?_;try simp only[Act.put,aK]
   refine Gs 11 rfl λK hK=>?_
   go_simp;refine hK.o _ _ ⟨bF.1,λ_=>trivial⟩ ?_;clear hK K;refine Gs 12 rfl λK hK=>?_
   go_simp;refine hK.o _ _ ⟨bF.1,λ_=>trivial⟩ ?_;clear hK K;clear bF;refine Gd _ ?_;try simp only[Act.put,aK]
   have np:=Hd (hI.o.stay jo.o);have c4:W4.cell? ⟨W1.heap.size,1,none⟩=some (.slice Au k cu):=np.o.bi.cell 1;have adI:=np.o.bi.lt;have adJ:=np.o.hg.size;go_wp2_with (at_builtin;refine ez rfl (.tmp 65) (.tmp 67) _ rfl (m:=1) (news:=aG (o.getD emp)) rm (np.o.ou.alloc _) rfl rfl (Src.lit (show fB W4 _ [.string (o.getD emp)] (aG (o.getD emp))from⟨.v _ rfl,trivial⟩)) rfl oQ oQ (by simp;omega) ?_;intro v5 w5 iM qQ AY;obtain⟨B5,d5,rfl⟩:=iM.form;obtain⟨t1,t2,t3⟩:=np.o.put Rn.o qQ iM;replace t3:=Hd t3;clear iM qQ AY);go_roundw
   .exact⟨k+1,_,oQ,gQ,t3.o⟩
   exact mQ
  .obtain rfl:k=it.ah.length:=oQ;have Ro:=hI.ou;rw[xH sJ]at Ro;have j0:wr.cell? ⟨W1.heap.size,0,none⟩=some (.bool it.neg):=hI.bi.cell 0;have j1:wr.cell? ⟨W1.heap.size,1,none⟩=some (.slice Au it.ah.length cu):=hI.bi.cell 1;have j2:wr.cell? ⟨W1.heap.size,2,none⟩=some (.string it.v):=hI.bi.cell 2;have j3:wr.cell? ⟨W1.heap.size,3,none⟩=some (.int .i64 it.lo):=hI.bi.cell 3;have j4:wr.cell? ⟨W1.heap.size,4,none⟩=some (.int .i64 it.hi):=hI.bi.cell 4;have q0:wr.cell? ⟨w.heap.size+1+1+1,0,none⟩=some (.slice Ai l.length ci):=rO.b4.cell 0;have q0l:=rO.b4.lt;have Dy:∀{e size n:Nat}{v:Value}{ds:List D},OL W1 (w.heap.size+1+1+1+1) bE e size v n ds->v.ownBlock=none\/v.ownBlock≠some W1.heap.size:=λho=>.inr λe=>by have:=(ho.lt _ e).2;omega
   have Vr:RW KI wr (w.heap.size+1+1+1+1) (.slice Ai l.length ci) l:=jn.o.it.kept hI.hg (Dy h1L.o.it.kr) (λp hp=>Dy (h1L.o.it.fr p hp));have hu:OL wr (w.heap.size+1+1+1+1) bE 9 1 (.slice Au it.ah.length cu) it.ah.length ((it.ah.map (cn S T emp)).flatMap aG):=Ro.base oQ;have F1:∀qq,(Value.slice Au it.ah.length cu).ownBlock=some qq->∀p∈l,p.2.ownBlock≠some qq:=λqq hq p hp e=>by
    have h1:=(Ro.lt qq hq).1;have:=((jn.o.it.fr p hp).lt qq e).2;omega
   have kG:=λw1 v' (hg:(wr.alloc (.cells ⟨[.bool it.neg,.slice Au it.ah.length cu,.string it.v,.int .i64 it.lo,.int .i64 it.hi]⟩ 60)).grownBy w1 (Value.slice Ai l.length ci).ownBlock)(hO:OL w1 (w.heap.size+1+1+1+1) bE 60 5 v' (l.length+1) (l.flatMap Ci++Ci (Kg S T it,.slice Au it.ah.length cu)))=>M1.item rO Vr jn.o.eq hi.o hu F1 hg hO
   have kT:=Hd (Vr.kr.alloc (.cells ⟨[.bool it.neg,.slice Au it.ah.length cu,.string it.v,.int .i64 it.lo,.int .i64 it.hi]⟩ 60));replace⟨kG,Jv⟩:=H2 kG Jv;clear Ro Vr hu F1 hI rO;go_wp2_with (at_builtin;refine ez rfl (.tmp 71) (.tmp 73) _ rfl (m:=1) (news:=Ci (Kg S T it,.slice Au it.ah.length cu)) Vn kT.o rfl rfl (Src.lit (MG wr _ (Kg S T it) Au it.ah.length cu)) rfl oQ oQ (by simp;omega) ?_;intro v' w7 vD xb Zg;obtain⟨B7,d7,rfl⟩:=vD.form;obtain⟨t1,t2,t3⟩:=kG.o _ _ xb vD;replace t3:=Hd t3;clear vD xb Zg);go_roundw
   .exact⟨j+1,_,_,oQ,gQ,t3.o⟩
   exact mQ
 .obtain rfl:j=q.items.length:=oQ;have pW:=hL.eq;rw[zL]at pW;have x0:wr.cell? ⟨w.heap.size,0,none⟩=some (.slice A S.length c):=hL.q4.b0.cell 0;have y1:wr.cell? ⟨w.heap.size+1,1,none⟩=some (.int .i64 q.mode):=hL.q4.b1.cell 1;have y2:wr.cell? ⟨w.heap.size+1,2,none⟩=some (.int .i64 q.after):=hL.q4.b1.cell 2;have y3:wr.cell? ⟨w.heap.size+1,3,none⟩=some (.slice A2 q.wh.length c2):=hL.q4.b1.cell 3;have y4:wr.cell? ⟨w.heap.size+1,4,none⟩=some (.int .i64 q.within):=hL.q4.b1.cell 4;have y5:wr.cell? ⟨w.heap.size+1,5,none⟩=some (.string q.au):=hL.q4.b1.cell 5;have y6:wr.cell? ⟨w.heap.size+1,6,none⟩=some (.slice A3 q.ret.length c3):=hL.q4.b1.cell 6;have kwh:=xc.o wr hB;obtain⟨Cj,VD⟩:=aB (q.wh.map (cz S T q))
  rw[<-VD]at kwh;replace⟨kwh,VD,pW,hL⟩:=H4 kwh VD pW hL;go_upto_region 14 with(go_at_call 87;refine kwh.o.mono ?_;rintro e W6 ⟨v6,rfl,sP,mE⟩;obtain⟨A6,c6,rfl⟩:=sP.form;have iC:=hL.o.q4.stay mE;have s3:W6.cell? ⟨w.heap.size+1+1+1,3,none⟩=some (.slice none 0 0):=iC.b4.cell 3;have s4:=iC.b4.frozen 3;have vE:=M2.of hL.o mE sP;clear iC sP)
  obtain⟨W7,yl⟩:=aB (W6.setCell ⟨w.heap.size+1+1+1,3,none⟩ (.slice A6 Cj.length c6))
  rw[<-yl]at vE |-;clear y0 y1 y2 y3 y4 y5 y6 x0 s3 s4 mE;replace⟨yl,vE⟩:=H2 yl vE;go_wp2;go_loopw [14] (λi wr=>∃(kj:Nat)(v3:Value)(rl:List (List Nd×Value)),kj<=q.ret.length/\rl.length=kj/\i=.int .i64 kj/\M2 A c S.length q ⟨A1,c1,A2,c2,A3,c3⟩ w wr (.slice Ai l.length ci) (.slice A6 Cj.length c6) v3 l Cj rl/\Hid (rl.map (·.1)=(q.ret.take kj).map (λt=>t.map (cz S T q)))) (λi _=>q.ret.length- (intOf i).toNat)
  .exact⟨0,.slice none 0 0,[],zE _,rfl,rfl,vE.o,rfl⟩
  clear vE;obtain⟨kj,v3,rl,hkj,jN,rfl,hM,MQ⟩:=hrel;obtain⟨Ar,cr,rfl⟩:=hM.oq.r.kr.form;have fy:=hM.q4.hb;have Cw:=fy.size;have y6:wr.cell? ⟨w.heap.size+1,6,none⟩=some (.slice A3 q.ret.length c3):=hM.q4.b1.cell 6;by_cases tY:kj<q.ret.length
  .obtain⟨t,ht⟩:=av tY;have nj:=zA ht;obtain⟨gR,oR,At5,ct5,eR,Rw,F7,r0⟩:=sk.o kj t ht;try simp only at eR
   subst eR;have Rx:=hF.o gR Rw;have p0:=aH kj;have p1:=aV kj q.ret.length;have kS:=λW (hW:Bw wr W)=>xW ((hM.q4.stay hW).b0.cell 0) (xW ((hM.q4.stay hW).b1.cell 0) (xW ((hM.q4.stay hW).b1.cell 1) (xW ((hM.q4.stay hW).b1.cell 2) (xW ((hM.q4.stay hW).b1.cell 3) (xW ((hM.q4.stay hW).b1.cell 4) (xW ((hM.q4.stay hW).b1.cell 5) (xW ((hM.q4.stay hW).b1.cell 6) ((hW.cell (p:=⟨gR,oR+kj,none⟩) (by show gR<_;omega)).trans ((fy.cell (p:=⟨gR,oR+kj,none⟩) Rx).trans r0)))))))))
   have ak:=xW (kS wr.drew (bR).drew) trivial;have rE:=kw.o At5 ct5 t (qH.o t nj).1 F7 wr.drew fy.drew;have hst:(rl.map (·.1)++[t.map (cz S T q)])=(q.ret.take (kj+1)).map (λt=>t.map (cz S T q)):=by rw[zJ,ht,xR,<-MQ.o];rfl
   obtain⟨t',XT⟩:=aB (t.map (cz S T q))
   rw[<-XT]at rE hst;have ad6:rl.length<=1048576:=oQ;replace⟨hst,XT,kS,rE,jN,ht,nj,F7,hM,fy⟩:=yX hst XT kS rE jN ht nj F7 hM fy;try simp only[qV]at rE
   have y61:wr.drew.cell? ⟨w.heap.size+1,6,none⟩=some (.slice (some ⟨gR,oR,none⟩) q.ret.length c3):=y6;clear y61;go_upto_region 17 with fail
   clear y6 r0;refine aC (p:=100) (S0:=λW=>W.cell? ⟨w.heap.size,0,none⟩=some (.slice A S.length c)/\W.cell? ⟨w.heap.size+1,0,none⟩=some (.slice A1 q.items.length c1)/\W.cell? ⟨w.heap.size+1,1,none⟩=some (.int .i64 q.mode)/\W.cell? ⟨w.heap.size+1,2,none⟩=some (.int .i64 q.after)/\W.cell? ⟨w.heap.size+1,3,none⟩=some (.slice A2 q.wh.length c2)/\W.cell? ⟨w.heap.size+1,4,none⟩=some (.int .i64 q.within)/\W.cell? ⟨w.heap.size+1,5,none⟩=some (.string q.au)/\W.cell? ⟨w.heap.size+1,6,none⟩=some (.slice (some ⟨gR,oR,none⟩) q.ret.length c3)/\W.cell? ⟨gR,oR+kj,none⟩=some (.slice At5 t.length ct5)) (S1:=λ_=>True) kQ ?_;refine' aq 0 rfl ak ?_;refine' aq 1 rfl ak ?_;refine' aq 2 rfl ak ?_;refine' aq 3 rfl ak ?_;refine' aq 4 rfl ak ?_;refine' aq 5 rfl ak ?_;refine' aq 6 rfl ak ?_;refine' aq 7 rfl ak ?_;try simp only[Act.put,aK]
   refine Gs 8 rfl λK hK=>?_
   go_simp;go_at_call 87;refine(rE.o).mono ?_;rintro e W8 ⟨vW8,rfl,Na,Zv⟩;have VE:=Hd ((zB wr.heap.size wr).drew.trans Zv);refine hK.o _ _ ⟨kS.o W8 VE.o,λ_=>trivial⟩ ?_;have bF:=xW (kS.o W8 VE.o) trivial;clear hK K ak Zv;try simp only[Act.put,aK]
   refine Gs 9 rfl λK hK=>?_
   go_simp;refine hK.o _ _ ⟨bF.1,λ_=>trivial⟩ ?_;clear hK K;clear bF;refine Gd _ ?_;try simp only[Act.put,aK]
   obtain⟨A8,c8,rfl⟩:=Na.form;have yE:=hM.o.stay VE.o;have q6:W8.cell? ⟨w.heap.size+1+1+1,6,none⟩=some (.slice Ar rl.length cr):=yE.q4.b4.cell 6;have q6l:=yE.q4.b4.lt;have eX:=yE.q4.hb.size;have kH:=λw1 v' (hg:(W8.alloc (.cells ⟨[.slice A8 t'.length c8]⟩ 28)).grownBy w1 (Value.slice Ar rl.length cr).ownBlock) hO=>M2.put (t:=t') (u:=.slice A8 t'.length c8) (b:=wr.heap.size) (v3':=v') yE (Na.alloc (.cells ⟨[.slice A8 t'.length c8]⟩ 28)) (λqq hq=>⟨λp hp e=>(by have h1:=(Na.lt qq hq).1;have h2:=((hM.o.oq.r.fr p hp).lt qq e).2;simp at h1;omega),λe=>(by have h1:=(Na.lt qq hq).1;have h2:=(hM.o.oq.wr.lt qq e).2;simp at h1;omega)⟩) (by have:=hM.o.q4.b4.lt;omega) hg hO
   have kT:=Hd (yE.oq.r.kr.alloc (.cells ⟨[.slice A8 t'.length c8]⟩ 28));replace kH:=Hd kH;clear yE Na;go_wp2_with (at_builtin;refine ez rfl (.tmp 100) (.tmp 102) _ rfl (m:=1) (news:=J8 (t',.slice A8 t'.length c8)) Vo kT.o rfl rfl (Src.lit (MH W8 _ t' A8 t'.length c8)) rfl oQ oQ (by simp;omega) ?_;intro v' w9 EC Tm Zh;obtain⟨B9,d9,rfl⟩:=EC.form;obtain⟨t1,t2,t3⟩:=kH.o _ _ Tm EC;replace t3:=Hd t3;clear EC Tm Zh);go_roundw
   .exact⟨kj+1,_,rl++[(t',.slice A8 t'.length c8)],oQ,by rw[zH,jN.o];rfl,gQ,t3.o,by show _=_;rw[<-hst.o];simp⟩
   exact mQ
  .obtain rfl:kj=q.ret.length:=oQ;have iA:=MQ.o;rw[zL]at iA;have y5:wr.cell? ⟨w.heap.size+1,5,none⟩=some (.string q.au):=hM.q4.b1.cell 5;have b0:wr.cell? ⟨w.heap.size+1+1+1,0,none⟩=some (.slice Ai l.length ci):=hM.q4.b4.cell 0;have b1:wr.cell? ⟨w.heap.size+1+1+1,1,none⟩=some (.int .i64 q.mode):=hM.q4.b4.cell 1;have b2:wr.cell? ⟨w.heap.size+1+1+1,2,none⟩=some (.int .i64 q.after):=hM.q4.b4.cell 2;have b3:wr.cell? ⟨w.heap.size+1+1+1,3,none⟩=some (.slice A6 Cj.length c6):=hM.q4.b4.cell 3;have b4:wr.cell? ⟨w.heap.size+1+1+1,4,none⟩=some (.int .i64 q.within):=hM.q4.b4.cell 4;have b5:wr.cell? ⟨w.heap.size+1+1+1,5,none⟩=some (.string ⟨#[]⟩):=hM.q4.b4.cell 5;have b6:wr.cell? ⟨w.heap.size+1+1+1,6,none⟩=some (.slice Ar rl.length cr):=hM.q4.b4.cell 6;by_cases ju:q.au=emp
   .have f1:(q.au.toList==([]:List UInt8))=true:=(by rw[aN];exact zW ju);have f2:(q.au.toList != ([]:List UInt8))=false:=by rw[bne,f1];rfl
    have f3:q.au.toList.isEmpty=true:=(by rw[ju,show emp.toList=[] by rw[ByteArray.toList_eq];rfl];rfl);have hR:R0={q with items:=l.map (·.1),wh:=Cj,ret:=rl.map (·.1),au:=emp}:=by rw[e0.o ju,pW.o,VD.o,iA]
    replace⟨ju,iA,jN,hM⟩:=H4 ju iA jN hM;go_wp2_with (refine ay (.store 31 (.tmp 6) (.tmp 125)) rfl ?_;refine eU rfl 31 (.tmp 6) (.tmp 125) rfl (cs':=l8 q (.slice Ai l.length ci) (.slice A6 Cj.length c6) (.slice Ar rl.length cr) emp) hM.o.q4.b2 cB rfl rfl rfl rfl ?_;intro w8 eX eY);exact l5 rfl eX cB rfl rfl (by rw[hR];exact⟨_,_,_,l,rl,rfl,(hM.o.oq.under eY (show w.heap.size+1+1<w.heap.size+1+1+1+1 by omega)).base oQ,rfl,rfl,hM.o.q4.hb.grown eY hM.o.q4.hb.size (λqq hq=>by injection hq with hq;omega)⟩)
   .have f1:(q.au.toList==([]:List UInt8))=false:=(by rw[aN];exact zV ju);have f2:(q.au.toList != ([]:List UInt8))=true:=by rw[bne,f1];rfl
    have f3:q.au.toList.isEmpty=false:=by
     cases ho:q.au.toList with
     |nil=>rw[ho]at f1;simp at f1
     |cons=>rfl
    obtain⟨it,hi⟩:=av Ah;obtain⟨gI,oI,A5,c5,eI,sg,uA,_,i1,_,_,_⟩:=mP.o 0 it hi;try simp only at eI
    subst eI;have VB:=hty.o it (zA hi);obtain⟨n,hn⟩:=av (l:=it.ah) (i:=0) VB;obtain⟨gT,oT,rfl,Zn,t0⟩:=dN uA hn;rw[Nat.add_zero]at t0;rw[Nat.zero_mul,Nat.add_zero]at i1;have pA:=hF.o gI sg;have HA:=hF.o gT Zn;have Kf:(q.items.headD ⟨false,[],emp,0,0⟩).ah.headD emp=n:=by
     have e1:q.items.headD ⟨false,[],emp,0,0⟩=it:=by
      cases HE:q.items with
      |nil=>rw[HE]at hi;cases hi
      |cons a r=>rw[HE]at hi;injection hi
     rw[e1];cases HE:it.ah with
     |nil=>rw[HE]at hn;cases hn
     |cons a r=>rw[HE]at hn;injection hn
    have Be:=kk.o n q.au wr.drew fy.drew;have hR:R0={q with items:=l.map (·.1),wh:=Cj,ret:=rl.map (·.1),au:=(aF S n q.au T).getD emp}:=by rw[e1.o ju,pW.o,VD.o,iA,Kf];rfl
    generalize aF S n q.au T=o at Be hR;have kS:=λW (hW:Bw wr W)=>xW ((hM.q4.stay hW).b0.cell 0) (xW ((hM.q4.stay hW).b1.cell 0) (xW ((hM.q4.stay hW).b1.cell 5) (xW ((hW.cell (p:=⟨gI,oI+1,none⟩) (by show gI<_;omega)).trans ((fy.cell (p:=⟨gI,oI+1,none⟩) pA).trans i1)) ((hW.cell (p:=⟨gT,oT,none⟩) (by show gT<_;omega)).trans ((fy.cell (p:=⟨gT,oT,none⟩) HA).trans t0)))))
    have ak:=xW (kS wr.drew (bR).drew) trivial;replace⟨Be,kS,hR,hi,hn,Kf,uA,ju,iA,jN,hM,fy⟩:=uM Be kS hR hi hn Kf uA ju iA jN hM fy;clear b0 b1 b2 b3 b4 b5 b6 i1 t0;go_upto_region 20 with fail
    clear y5 y6;refine aC (p:=100) (S0:=λW=>W.cell? ⟨w.heap.size,0,none⟩=some (.slice A S.length c)/\W.cell? ⟨w.heap.size+1,0,none⟩=some (.slice (some ⟨gI,oI,none⟩) q.items.length c1)/\W.cell? ⟨w.heap.size+1,5,none⟩=some (.string q.au)/\W.cell? ⟨gI,oI+1,none⟩=some (.slice (some ⟨gT,oT,none⟩) it.ah.length c5)/\W.cell? ⟨gT,oT,none⟩=some (.string n)) (S1:=λ_=>True) kQ ?_;refine' aq 0 rfl ak ?_;refine' aq 1 rfl ak ?_;refine' aq 2 rfl ak ?_;refine' aq 3 rfl ak ?_;refine' aq 4 rfl ak ?_;refine' aq 5 rfl ak ?_;refine' aq 6 rfl ak ?_;refine' aq 7 rfl ak ?_;refine' aq 8 rfl ak ?_;refine' aq 9 rfl ak ?_;refine' aq 10 rfl ak ?_;try simp only[Act.put,aK]
    refine Gs 11 rfl λK hK=>?_
    go_simp;go_at_call 86;refine(Be.o).eQ λW4 oX=>?_;have jo:=Hd ((zB wr.heap.size wr).drew.trans oX);refine hK.o _ _ ⟨kS.o W4 jo.o,λ_=>trivial⟩ ?_;have bF:=xW (kS.o W4 jo.o) trivial;clear hK K ak oX;refine' aq 12 rfl bF ?_;refine' aq 13 rfl bF ?_;refine' aq 14 rfl bF ?_;try simp only[Act.put,aK]
    refine Gs 15 rfl λK hK=>?_
    go_simp;refine hK.o _ _ ⟨bF.1,λ_=>trivial⟩ ?_;clear hK K;refine Gs 16 rfl λK hK=>?_
    go_simp;refine hK.o _ _ ⟨bF.1,λ_=>trivial⟩ ?_;clear hK K;clear bF;refine Gd _ ?_;try simp only[Act.put,aK]
    have hM4:=hM.o.stay jo.o;have iC:=hM4.q4;have hoq:=Hd (OQ.far (x:=.string (o.getD emp)) (p:=⟨w.heap.size+1+1+1,5,none⟩) hM4.oq (by show w.heap.size+1+1+1<_;omega));have b0:W4.cell? ⟨w.heap.size+1+1+1,0,none⟩=some (.slice Ai l.length ci):=iC.b4.cell 0;have b1:W4.cell? ⟨w.heap.size+1+1+1,1,none⟩=some (.int .i64 q.mode):=iC.b4.cell 1;have b2:W4.cell? ⟨w.heap.size+1+1+1,2,none⟩=some (.int .i64 q.after):=iC.b4.cell 2;have b3:W4.cell? ⟨w.heap.size+1+1+1,3,none⟩=some (.slice A6 Cj.length c6):=iC.b4.cell 3;have b4:W4.cell? ⟨w.heap.size+1+1+1,4,none⟩=some (.int .i64 q.within):=iC.b4.cell 4;have b5:W4.cell? ⟨w.heap.size+1+1+1,5,none⟩=some (.string ⟨#[]⟩):=iC.b4.cell 5;have b6:W4.cell? ⟨w.heap.size+1+1+1,6,none⟩=some (.slice Ar rl.length cr):=iC.b4.cell 6;have s4:=iC.b4.frozen 5;replace iC:=Hd (iC.put 5 (.string (o.getD emp)));clear hM4;go_wp2_with (refine ay (.store 31 (.tmp 6) (.tmp 125)) rfl ?_;refine eU rfl 31 (.tmp 6) (.tmp 125) rfl (cs':=l8 q (.slice Ai l.length ci) (.slice A6 Cj.length c6) (.slice Ar rl.length cr) (o.getD emp)) iC.o.b2 cB rfl rfl rfl rfl ?_;intro w8 eX eY);exact l5 rfl eX cB rfl rfl (by rw[hR.o];exact⟨_,_,_,l,rl,rfl,(hoq.o.under eY (show w.heap.size+1+1<w.heap.size+1+1+1+1 by omega)).base oQ,rfl,rfl,iC.o.hb.grown eY iC.o.hb.size (λqq hq=>by injection hq with hq;omega)⟩)
end pX
