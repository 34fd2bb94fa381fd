/- The document's findings on a node. -/
import Derived.Test.YtjbcbibkhalagaaGreatDoorGh
namespace Go.Proofs.YtjbcbibkhalagaaGreatDoor
set_option maxRecDepth 100000
set_option maxHeartbeats 16000000
open Proofs.Tryz Go.RowKit Go.Deep Go.Maps
set_option linter.unusedVariables false
set_option linter.unusedSimpArgs false
namespace dR
open cH
theorem LD (A c F l q s A5 c5 t)(i:Nat)(x res)(hl:iI l)(hs:jE q)(ht:tT t)(hx:t[i]? =some x)(BP:x.a<t.length)(bQ:x.b<t.length)(w)(hF:∀b,F b->b<w.heap.size)(r:Rd w F (.slice A l.length c) (.sl l.length (l.flatMap fj)))(R:QR w F q s)(rt:Rd w F (.slice A5 t.length c5) (.sl t.length (t.flatMap b9)))(qg:¬(bC x.op=false/\dm x.op=false))(Ey:aM q x.v<0):
  Cl 130 #[.agg ⟨[.slice A l.length c]⟩,.agg ⟨qV q s⟩,.slice A5 t.length c5,.int .i64 i,.bool res] w (gV (dA l q t res x) w):=by
 have h0:=NS.new l A c q s x w;have ki:∀W,Bw w W->Cl 129 #[.agg ⟨qV q s⟩,.string x.v] W λe w'=>e=.returned (.int .i64 (aM q x.v))/\Bw W w':=λW hW=>ox q s F x.v hs.il W (R.under hW).lt (R.under hW).r1
 have ke:∀(it:It) A2 c2 W,it∈q.items->Bw w W->Rd W F (.slice A2 it.ah.length c2) (.sl it.ah.length (it.ah.flatMap aG))->Cl 135 #[.agg ⟨[.slice A l.length c]⟩,.agg ⟨dX it (.slice A2 it.ah.length c2)⟩,.string x.at_] W λe w'=>e=.returned (.bool (hasB l it.ah x.at_))/\Bw W w':=λit A2 c2 W hx hW rx=>ur A c F l it A2 c2 x.at_ hl (hs.it it hx).1.1 W (λb h=>zF (hF b h) hW.size) (r.under hW hF) rx
 have jJ:Bw w ((((w.alloc (.cells ⟨[.slice A l.length c]⟩ 24)).alloc (.cells ⟨qV q s⟩ 31)).alloc (.cells ⟨rM 0 0 0 0⟩ 209)).alloc (.cells ⟨rM 0 0 0 0⟩ 209)):=(((bA).alloc sJ _).alloc (by simp;omega) _).alloc (by simp;omega) _;obtain⟨gt,I4,rfl,qe,z0,z1,z2,z3,z4,z5⟩:=dk (rt.under jJ hF) hx;have tC:=hF gt qe;have hop:∀(j:Nat) W,j<t.length->Bw w W->W.cell? ⟨gt,I4+j*6,none⟩=some (.int .i64 (opAt t j)):=λj W hj hW=>by
  obtain⟨y,hy⟩:=av hj;obtain⟨_,_,e,_,q0,_⟩:=dk (rt.under hW hF) hy;injection e with e
  injection e with e1 e2
  subst e1 e2;rw[dY hy];exact q0
 have iT:=hs.il;have BZ:=ht.1;have j7:=R.r1;have YR:=(zC.1 hx).1;obtain⟨E,hE⟩:=aB (dA l q t res x)
 rw[<-hE];unfold dA at hE;obtain⟨ba,fk⟩:=aB (bC x.op)
 obtain⟨ag,et⟩:=aB (dm x.op)
 rw[<-fk,<-et]at hE;have zq:¬(ba=false/\ag=false):=by rw[fk,et];exact qg
 clear qg;have kb:∀W,Cl 158 #[.int .i64 x.op] W λe w'=>e=.returned (.bool ba)/\w'=W:=λW=>by rw[fk];exact rf x.op W
 have ka:∀W,Cl 159 #[.int .i64 x.op] W λe w'=>e=.returned (.bool ag)/\w'=W:=λW=>by rw[et];exact lh x.op W
 have kt:∀(o:Int) W,Cl 131 #[.int .i64 o] W λe w'=>e=.returned (.bool (aQ o))/\w'=W:=λo W=>ow o W
 have ua:∀it,fG x it res<->((ag=true/\it.neg=true)\/(x.op=11/\ld it=false)\/(res=true/\ba=true/\(it.neg=true\/ld it=true))):=λit=>by rw[fk,et];exact Iff.rfl
 have tV:∃b,b=ie x.op:=⟨_,rfl⟩
 have Fz:cF t x=(mU t (ie x.op) x.a&&mU t (ie x.op) x.b):=rfl;have cc:∀{W a1 a2 a3 a4},NS l A c q s x w W a1 a2 a3 a4->_:=λ {W a1 a2 a3 a4} (h:NS l A c q s x w W a1 a2 a3 a4)=>nU h.sq.b1
 obtain⟨op,n,v,at_,a,bb⟩:=x;obtain⟨A1,c1,A2,c2,A3,c3⟩:=s;simp only[qV,cJ,rM]at h0 ki ke ua tV Fz kb ka fk et BP bQ z0 z1 z2 z3 z4 z5 hE |-;obtain⟨wt,tU⟩:=tV;rw[<-tU]at Fz;have hg0:=aH i;have aw:=aV i t.length;replace⟨h0,kb,ka,ki,ke,kt,j7,hF,hop,hE,fk,et⟩:=uM h0 kb ka ki ke kt j7 hF hop hE fk et;replace⟨ua,tU,Fz,hx⟩:=H4 ua tU Fz hx;clear hs R r rt ht jJ;go_enter func130,ntmps130;go_upto_region 3 with fail
 clear z0 z1 z2 z3 z4 z5;obtain⟨x0,⟨y0,y2,y3,y4,y5⟩,_⟩:=h0.o.cells;simp only at y0 y2 y3 y4 y5;go_cut [29] (λs wx=>s=.bool (ba||ag)/\NS l A c q ⟨A1,c1,A2,c2,A3,c3⟩ ⟨op,n,v,at_,a,bb⟩ w wx 0 0 0 0)
 .cases ba with
  |true=>
   go_wp2_with (go_at_call 158;refine(kb.o _).aR ?_)
   all_goals(go_meet;exact⟨rfl,h0.o⟩)
  |false=>
   go_wp2_with (first
    |(go_at_call 158;refine(kb.o _).aR ?_)
    |(go_at_call 159;refine(ka.o _).aR ?_))
   all_goals(go_meet;exact⟨rfl,h0.o⟩)
 obtain⟨FC,hI⟩:=hcut;clear x0 y0 y2 y3 y4 y5 h0;obtain⟨x0,⟨y0,y2,y3,y4,y5⟩,e0,e1,e2,e3,e4⟩:=hI.cells;obtain⟨q0,q1,q2,q3,q4,q5,q6⟩:=cc hI;simp only at y0 y2 y3 y4 y5;try simp only at q0 q3 q6
 have hIs:=hI.hb.size;have O6:=hI.b3.frozen;have QC:=hI.b4.lt;have wO:(ba||ag)=true:=by cases ba<;>cases ag<;>simp at zq |-
 rw[wO]at FC;subst FC;have LG:E=match mY q v with |none=>[68,0,0,0]|some it=>[0,if op≠5/\hasB l it.ah at_=false then 69 else 0,if fG ⟨op,n,v,at_,a,bb⟩ it res then 76 else 0,0]:=by rw[hE.o];exact if_neg zq
 clear zq wO;have Qz:=Hd (ki.o wc hI.hb);have hu:aM q v<0:=Ey;rw[tB hu]at LG;replace LG:=Hd LG;have UO:∀W,NS l A c q ⟨A1,c1,A2,c2,A3,c3⟩ ⟨op,n,v,at_,a,bb⟩ w W 0 0 0 0->NS l A c q ⟨A1,c1,A2,c2,A3,c3⟩ ⟨op,n,v,at_,a,bb⟩ w (W.setCell ⟨w.heap.size+1+1+1,1,none⟩ (.int .i64 68)) 68 0 0 0:=λW h=>h.set (i:=1) (v:=68) rfl
 replace⟨UO,hI⟩:=H2 UO hI;clear O6;go_wp2_with (first
  |(go_at_call 129;refine Qz.o.mono ?_;rintro e W ⟨rfl,hW⟩;have hJ:=hI.o.stay hW;obtain⟨x0,⟨y0,y2,y3,y4,y5⟩,e0,e1,e2,e3,e4⟩:=hJ.cells;have I3:=hJ.b3.frozen 1;have hK:=Hd (UO.o W hJ);replace hJ:=Hd hJ;clear hW)
  |(refine ay (.store 209 (.tmp 10) (.tmp 37)) rfl ?_;refine eU rfl 209 (.tmp 10) (.tmp 37) rfl (cs':=rM 68 0 0 0) hK.o.b2 lP rfl rfl rfl rfl ?_;intro w1 cL aw))
 exact l5 rfl cL lP rfl rfl (gV.mk LG.o (hK.o.fin aw))
open cH
theorem LH (A c F l q s A5 c5 t)(i:Nat)(x res)(hl:iI l)(hs:jE q)(ht:tT t)(hx:t[i]? =some x)(BP:x.a<t.length)(bQ:x.b<t.length)(w)(hF:∀b,F b->b<w.heap.size)(r:Rd w F (.slice A l.length c) (.sl l.length (l.flatMap fj)))(R:QR w F q s)(rt:Rd w F (.slice A5 t.length c5) (.sl t.length (t.flatMap b9)))(qg:¬(bC x.op=false/\dm x.op=false))(Ey:¬aM q x.v<0):
  Cl 130 #[.agg ⟨[.slice A l.length c]⟩,.agg ⟨qV q s⟩,.slice A5 t.length c5,.int .i64 i,.bool res] w (gV (dA l q t res x) w):=by
 have h0:=NS.new l A c q s x w;have ki:∀W,Bw w W->Cl 129 #[.agg ⟨qV q s⟩,.string x.v] W λe w'=>e=.returned (.int .i64 (aM q x.v))/\Bw W w':=λW hW=>ox q s F x.v hs.il W (R.under hW).lt (R.under hW).r1
 have ke:∀(it:It) A2 c2 W,it∈q.items->Bw w W->Rd W F (.slice A2 it.ah.length c2) (.sl it.ah.length (it.ah.flatMap aG))->Cl 135 #[.agg ⟨[.slice A l.length c]⟩,.agg ⟨dX it (.slice A2 it.ah.length c2)⟩,.string x.at_] W λe w'=>e=.returned (.bool (hasB l it.ah x.at_))/\Bw W w':=λit A2 c2 W hx hW rx=>ur A c F l it A2 c2 x.at_ hl (hs.it it hx).1.1 W (λb h=>zF (hF b h) hW.size) (r.under hW hF) rx
 have jJ:Bw w ((((w.alloc (.cells ⟨[.slice A l.length c]⟩ 24)).alloc (.cells ⟨qV q s⟩ 31)).alloc (.cells ⟨rM 0 0 0 0⟩ 209)).alloc (.cells ⟨rM 0 0 0 0⟩ 209)):=(((bA).alloc sJ _).alloc (by simp;omega) _).alloc (by simp;omega) _;obtain⟨gt,I4,rfl,qe,z0,z1,z2,z3,z4,z5⟩:=dk (rt.under jJ hF) hx;have tC:=hF gt qe;have hop:∀(j:Nat) W,j<t.length->Bw w W->W.cell? ⟨gt,I4+j*6,none⟩=some (.int .i64 (opAt t j)):=λj W hj hW=>by
  obtain⟨y,hy⟩:=av hj;obtain⟨_,_,e,_,q0,_⟩:=dk (rt.under hW hF) hy;injection e with e
  injection e with e1 e2
  subst e1 e2;rw[dY hy];exact q0
 have iT:=hs.il;have BZ:=ht.1;have j7:=R.r1;have YR:=(zC.1 hx).1;obtain⟨E,hE⟩:=aB (dA l q t res x)
 rw[<-hE];unfold dA at hE;obtain⟨ba,fk⟩:=aB (bC x.op)
 obtain⟨ag,et⟩:=aB (dm x.op)
 rw[<-fk,<-et]at hE;have zq:¬(ba=false/\ag=false):=by rw[fk,et];exact qg
 clear qg;have kb:∀W,Cl 158 #[.int .i64 x.op] W λe w'=>e=.returned (.bool ba)/\w'=W:=λW=>by rw[fk];exact rf x.op W
 have ka:∀W,Cl 159 #[.int .i64 x.op] W λe w'=>e=.returned (.bool ag)/\w'=W:=λW=>by rw[et];exact lh x.op W
 have kt:∀(o:Int) W,Cl 131 #[.int .i64 o] W λe w'=>e=.returned (.bool (aQ o))/\w'=W:=λo W=>ow o W
 have ua:∀it,fG x it res<->((ag=true/\it.neg=true)\/(x.op=11/\ld it=false)\/(res=true/\ba=true/\(it.neg=true\/ld it=true))):=λit=>by rw[fk,et];exact Iff.rfl
 have tV:∃b,b=ie x.op:=⟨_,rfl⟩
 have Fz:cF t x=(mU t (ie x.op) x.a&&mU t (ie x.op) x.b):=rfl;have cc:∀{W a1 a2 a3 a4},NS l A c q s x w W a1 a2 a3 a4->_:=λ {W a1 a2 a3 a4} (h:NS l A c q s x w W a1 a2 a3 a4)=>nU h.sq.b1
 obtain⟨op,n,v,at_,a,bb⟩:=x;obtain⟨A1,c1,A2,c2,A3,c3⟩:=s;simp only[qV,cJ,rM]at h0 ki ke ua tV Fz kb ka fk et BP bQ z0 z1 z2 z3 z4 z5 hE |-;obtain⟨wt,tU⟩:=tV;rw[<-tU]at Fz;have hg0:=aH i;have aw:=aV i t.length;replace⟨h0,kb,ka,ki,ke,kt,j7,hF,hop,hE,fk,et⟩:=uM h0 kb ka ki ke kt j7 hF hop hE fk et;replace⟨ua,tU,Fz,hx⟩:=H4 ua tU Fz hx;clear hs R r rt ht jJ;go_enter func130,ntmps130;go_upto_region 3 with fail
 clear z0 z1 z2 z3 z4 z5;obtain⟨x0,⟨y0,y2,y3,y4,y5⟩,_⟩:=h0.o.cells;simp only at y0 y2 y3 y4 y5;go_cut [29] (λs wx=>s=.bool (ba||ag)/\NS l A c q ⟨A1,c1,A2,c2,A3,c3⟩ ⟨op,n,v,at_,a,bb⟩ w wx 0 0 0 0)
 .cases ba with
  |true=>
   go_wp2_with (go_at_call 158;refine(kb.o _).aR ?_)
   all_goals(go_meet;exact⟨rfl,h0.o⟩)
  |false=>
   go_wp2_with (first
    |(go_at_call 158;refine(kb.o _).aR ?_)
    |(go_at_call 159;refine(ka.o _).aR ?_))
   all_goals(go_meet;exact⟨rfl,h0.o⟩)
 obtain⟨FC,hI⟩:=hcut;clear x0 y0 y2 y3 y4 y5 h0;obtain⟨x0,⟨y0,y2,y3,y4,y5⟩,e0,e1,e2,e3,e4⟩:=hI.cells;obtain⟨q0,q1,q2,q3,q4,q5,q6⟩:=cc hI;simp only at y0 y2 y3 y4 y5;try simp only at q0 q3 q6
 have hIs:=hI.hb.size;have O6:=hI.b3.frozen;have QC:=hI.b4.lt;have wO:(ba||ag)=true:=by cases ba<;>cases ag<;>simp at zq |-
 rw[wO]at FC;subst FC;have LG:E=match mY q v with |none=>[68,0,0,0]|some it=>[0,if op≠5/\hasB l it.ah at_=false then 69 else 0,if fG ⟨op,n,v,at_,a,bb⟩ it res then 76 else 0,0]:=by rw[hE.o];exact if_neg zq
 clear zq wO;have Qz:=Hd (ki.o wc hI.hb);have hu:¬aM q v<0:=Ey;obtain⟨k,it,hk,ux,hit,Ep⟩:=uX (Int.not_lt.1 hu);rw[Ep]at LG;replace LG:E=[0,if op≠5/\hasB l it.ah at_=false then 69 else 0,if fG ⟨op,n,v,at_,a,bb⟩ it res then 76 else 0,0]:=LG;rw[hk]at Qz;obtain⟨g,off,B2,d2,rfl,PW,rx,a0,a1,a2,a3,a4⟩:=eV j7.o hit;have I5:=hF.o g PW;have gE:∀W,Bw w W->W.cell? ⟨g,off+k*5,none⟩=some (.bool it.neg)/\W.cell? ⟨g,off+k*5+1,none⟩=some (.slice B2 it.ah.length d2)/\W.cell? ⟨g,off+k*5+2,none⟩=some (.string it.v)/\W.cell? ⟨g,off+k*5+3,none⟩=some (.int .i64 it.lo)/\W.cell? ⟨g,off+k*5+4,none⟩=some (.int .i64 it.hi):=λW hW=>
  ⟨(hW.cell (p:=⟨g,off+k*5,none⟩) I5).trans a0,(hW.cell (p:=⟨g,off+k*5+1,none⟩) I5).trans a1,(hW.cell (p:=⟨g,off+k*5+2,none⟩) I5).trans a2,(hW.cell (p:=⟨g,off+k*5+3,none⟩) I5).trans a3,(hW.cell (p:=⟨g,off+k*5+4,none⟩) I5).trans a4⟩
 clear a0 a1 a2 a3 a4;have LI:=λW (hW:Bw w W)=>ke.o it B2 d2 W (zA hit) hW (rx.under hW hF.o)
 have kr:∀W,Cl 160 #[.agg ⟨dX it (.slice B2 it.ah.length d2)⟩] W λe w'=>e=.returned (.bool (ld it))/\Bw W w':=λW=>EX it _ W
 have Fb:=ua.o it;obtain⟨hh,Uh⟩:=aB (hasB l it.ah at_)
 rw[<-Uh]at LI LG;obtain⟨mb,sH⟩:=aB (ld it)
 rw[<-sH]at kr Fb;obtain⟨ub,UQ⟩:=aB (decide (fG ⟨op,n,v,at_,a,bb⟩ it res))
 have hE3:E=[0,if op≠5/\hh=false then 69 else 0,if ub=true then 76 else 0,0]:=by rw[LG,UQ];simp only[decide_eq_true_eq]
 have UR:ub=(ag&&it.neg||(decide (op=11)&& !mb)||(res&&ba&&(it.neg||mb))):=by
  rw[UQ,Bool.eq_iff_iff,decide_eq_true_iff,Fb];cases ag<;>cases it.neg<;>cases mb<;>cases res<;>cases ba<;>simp
 clear Fb UQ LG;simp only[dX]at LI kr;have g0:=aH k;have g1:=aV k q.items.length;replace⟨hk,hit,Ep,Uh,sH,gE,LI,kr,hE3,UR,rx,hI⟩:=uM hk hit Ep Uh sH gE LI kr hE3 UR rx hI;clear hu O6 ux;generalize XA:it.neg=ng at*;replace XA:=Hd XA;go_upto_region 8 with(go_at_call 129;refine Qz.o.mono ?_;rintro e W ⟨rfl,hW⟩;have hJ:=hI.o.stay hW;clear hW)
 clear x0 y0 y2 y3 y4 y5 e0 e1 e2 e3 e4 q0 q1 q2 q3 q4 q5 q6;obtain⟨q0,q1,q2,q3,q4,q5,q6⟩:=cc hJ;try simp only at q0 q3 q6
 obtain⟨a0,a1,a2,a3,a4⟩:=gE.o W hJ.hb;have YS:=hJ.stay (bX (.cells ⟨[.bool ng,.slice B2 it.ah.length d2,.string it.v,.int .i64 it.lo,.int .i64 it.hi]⟩ 60));have sd:ao (W.alloc (.cells ⟨[.bool ng,.slice B2 it.ah.length d2,.string it.v,.int .i64 it.lo,.int .i64 it.hi]⟩ 60)) W.heap.size 60 [.bool ng,.slice B2 it.ah.length d2,.string it.v,.int .i64 it.lo,.int .i64 it.hi]:=ao.new _ _ _;have ke2:=Hd (LI.o _ YS.hb);obtain⟨x0,⟨y0,y2,y3,y4,y5⟩,_⟩:=YS.cells;simp only at y0 y3;have hWl:w.heap.size+1+1+1+1<W.heap.size:=hJ.b4.lt;replace⟨hJ,YS,sd⟩:=H3 hJ YS sd;obtain⟨gi,Eo⟩:=aB W.heap.size
 rw[<-Eo]at sd hWl;replace Eo:=Hd Eo.symm;have ac0:=Eo.o;go_upto_region 10 with(go_at_call 135;refine ke2.o.mono ?_;rintro e W2 ⟨rfl,aX⟩;have hK:=YS.o.stay aX;have nT:=sd.o.stay aX;clear aX)
 clear ac0 x0 y0 y2 y3 y4 y5 q0 q1 q2 q3 q4 q5 q6 a0 a1 a2 a3 a4;obtain⟨x0,⟨y0,y2,y3,y4,y5⟩,e0,e1,e2,e3,e4⟩:=hK.cells;have PL:=hK.b3.frozen 2;have i0:=nT.cell 0;have i1:=nT.cell 1;have i2:=nT.cell 2;have i3:=nT.cell 3;have i4:=nT.cell 4;simp only[zY,xA]at y0 i0 i1 i2 i3 i4;replace⟨hK,nT⟩:=H2 hK nT;go_cut [54] (λs wx=>s=.bool (!decide (op=5)&& !hh)/\wx=W2)
 .by_cases h5:op=5
  .subst h5;go_wp2
   all_goals(go_meet;exact⟨rfl,rfl⟩)
  .have f6:=gL h5;have PX:decide (op=5)=false:=zV h5;replace h5:=Hd h5;cases hh with
   |true=>
    go_wp2
    all_goals(go_meet;exact⟨by rw[PX];rfl,rfl⟩)
   |false=>
    go_wp2
    all_goals(go_meet;exact⟨by rw[PX];rfl,rfl⟩)
 obtain⟨YT,tW⟩:=hcut;obtain rfl:=tW.symm;clear tW;obtain⟨e69,QD⟩:=aB (!decide (op=5)&& !hh)
 rw[<-QD]at YT;subst YT;have YU:E=[0,if e69=true then 69 else 0,if ub=true then 76 else 0,0]:=by
  rw[hE3.o,QD];congr 2;by_cases h5:op=5
  .rw[if_neg (λh=>h.1 h5),zW h5];rfl
  .cases hh with
   |true=>rw[if_neg (λh=>by cases h.2)];simp
   |false=>rw[if_pos ⟨h5,rfl⟩,zV h5];rfl
 replace⟨QD,YU⟩:=H2 QD YU;clear hE3;go_upto_if 54 with fail
 go_cut [15] (λs wx=>∃d69:Int,Hid (d69=if e69=true then 69 else 0)/\NS l A c q ⟨some ⟨g,off,none⟩,c1,A2,c2,A3,c3⟩ ⟨op,n,v,at_,a,bb⟩ w wx 0 d69 0 0/\ao wx gi 60 [.bool ng,.slice B2 it.ah.length d2,.string it.v,.int .i64 it.lo,.int .i64 it.hi])
 .cases e69 with
  |true=>
   have hK2:=Hd (hK.o.set (i:=2) (v:=69) (e1:=0) (e2:=69) (e3:=0) (e4:=0) rfl);have l4:=Hd (nT.o.far (p:=⟨w.heap.size+1+1+1,2,none⟩) (by show gi≠w.heap.size+1+1+1;omega) (.int .i64 69));go_wp2
   all_goals(go_meet;exact⟨69,rfl,hK2.o,l4.o⟩)
  |false=>
   go_wp2
   all_goals(go_meet;exact⟨0,rfl,hK.o,nT.o⟩)
 obtain⟨d69,ac2,hK3,l4⟩:=hcut;rw[<-ac2.o]at YU;clear x0 y0 y2 y3 y4 y5 e0 e1 e2 e3 e4 i0 i1 i2 i3 i4 PL hK nT;have i0:=l4.cell 0;have i1:=l4.cell 1;have i2:=l4.cell 2;have i3:=l4.cell 3;have i4:=l4.cell 4;simp only[zY,xA]at i0 i1 i2 i3 i4;replace⟨hK3,l4⟩:=H2 hK3 l4;go_upto_region 13 with(go_at_call 160;refine(kr.o _).eQ λW3 jv=>?_;have UT:=hK3.o.stay jv;have jJ:=l4.o.stay jv;clear jv)
 clear i0 i1 i2 i3 i4;have i0:=jJ.cell 0;simp only[zY]at i0;obtain⟨x0,⟨y0,y2,y3,y4,y5⟩,e0,e1,e2,e3,e4⟩:=UT.cells;have XH:=UT.b3.frozen 3;simp only at y0;replace⟨UT,jJ⟩:=H2 UT jJ;go_cut [88] (λs wx=>s=.bool ub/\wx=W3)
 .have cj:=UR.o;obtain⟨d11,sO⟩:=aB (decide (op=11))
  rw[<-sO]at cj;cases ag with
  |true=>
   cases ng with
   |true=>
    have eP:Hid (ub=true):=by show _=_;rw[cj];rfl
    clear cj;go_wp2_with (first
     |(go_at_call 159;refine(ka.o _).aR ?_)
     |(go_at_call 158;refine(kb.o _).aR ?_))
    all_goals(go_meet;exact⟨by rw[eP.o],rfl⟩)
   |false=>
    by_cases h11:op=11
    .obtain rfl:d11=true:=by rw[sO];exact zW h11
     have f11:=mf h11;replace⟨h11,sO⟩:=H2 h11 sO;cases mb with
     |false=>
      have eP:Hid (ub=true):=by show _=_;rw[cj];rfl
      clear cj;go_wp2_with (first
       |(go_at_call 159;refine(ka.o _).aR ?_)
       |(go_at_call 158;refine(kb.o _).aR ?_))
      all_goals(go_meet;exact⟨by rw[eP.o],rfl⟩)
     |true=>
      cases res with
      |false=>
       have eP:Hid (ub=false):=by show _=_;rw[cj];rfl
       clear cj;go_wp2_with (first
        |(go_at_call 159;refine(ka.o _).aR ?_)
        |(go_at_call 158;refine(kb.o _).aR ?_))
       all_goals(go_meet;exact⟨by rw[eP.o],rfl⟩)
      |true=>
       cases ba with
       |false=>
        have eP:Hid (ub=false):=by show _=_;rw[cj];rfl
        clear cj;go_wp2_with (first
         |(go_at_call 159;refine(ka.o _).aR ?_)
         |(go_at_call 158;refine(kb.o _).aR ?_))
        all_goals(go_meet;exact⟨by rw[eP.o],rfl⟩)
       |true=>
        have eP:Hid (ub=true):=by show _=_;rw[cj];rfl
        clear cj;go_wp2_with (first
         |(go_at_call 159;refine(ka.o _).aR ?_)
         |(go_at_call 158;refine(kb.o _).aR ?_))
        all_goals(go_meet;exact⟨by rw[eP.o],rfl⟩)
    .obtain rfl:d11=false:=by rw[sO];exact zV h11
     have f11:=cM h11;replace⟨h11,sO⟩:=H2 h11 sO;cases res with
     |false=>
      have eP:Hid (ub=false):=by show _=_;rw[cj];rfl
      clear cj;go_wp2_with (first
       |(go_at_call 159;refine(ka.o _).aR ?_)
       |(go_at_call 158;refine(kb.o _).aR ?_))
      all_goals(go_meet;exact⟨by rw[eP.o],rfl⟩)
     |true=>
      cases ba with
      |false=>
       have eP:Hid (ub=false):=by show _=_;rw[cj];rfl
       clear cj;go_wp2_with (first
        |(go_at_call 159;refine(ka.o _).aR ?_)
        |(go_at_call 158;refine(kb.o _).aR ?_))
       all_goals(go_meet;exact⟨by rw[eP.o],rfl⟩)
      |true=>
       cases mb with
       |true=>
        have eP:Hid (ub=true):=by show _=_;rw[cj];rfl
        clear cj;go_wp2_with (first
         |(go_at_call 159;refine(ka.o _).aR ?_)
         |(go_at_call 158;refine(kb.o _).aR ?_))
        all_goals(go_meet;exact⟨by rw[eP.o],rfl⟩)
       |false=>
        have eP:Hid (ub=false):=by show _=_;rw[cj];rfl
        clear cj;go_wp2_with (first
         |(go_at_call 159;refine(ka.o _).aR ?_)
         |(go_at_call 158;refine(kb.o _).aR ?_))
        all_goals(go_meet;exact⟨by rw[eP.o],rfl⟩)
  |false=>
   by_cases h11:op=11
   .obtain rfl:d11=true:=by rw[sO];exact zW h11
    have f11:=mf h11;replace⟨h11,sO⟩:=H2 h11 sO;cases mb with
    |false=>
     have eP:Hid (ub=true):=by show _=_;rw[cj];rfl
     clear cj;go_wp2_with (first
      |(go_at_call 159;refine(ka.o _).aR ?_)
      |(go_at_call 158;refine(kb.o _).aR ?_))
     all_goals(go_meet;exact⟨by rw[eP.o],rfl⟩)
    |true=>
     cases res with
     |false=>
      have eP:Hid (ub=false):=by show _=_;rw[cj];rfl
      clear cj;go_wp2_with (first
       |(go_at_call 159;refine(ka.o _).aR ?_)
       |(go_at_call 158;refine(kb.o _).aR ?_))
      all_goals(go_meet;exact⟨by rw[eP.o],rfl⟩)
     |true=>
      cases ba with
      |false=>
       have eP:Hid (ub=false):=by show _=_;rw[cj];rfl
       clear cj;go_wp2_with (first
        |(go_at_call 159;refine(ka.o _).aR ?_)
        |(go_at_call 158;refine(kb.o _).aR ?_))
       all_goals(go_meet;exact⟨by rw[eP.o],rfl⟩)
      |true=>
       cases ng with
       |true=>
        have eP:Hid (ub=true):=by show _=_;rw[cj];rfl
        clear cj;go_wp2_with (first
         |(go_at_call 159;refine(ka.o _).aR ?_)
         |(go_at_call 158;refine(kb.o _).aR ?_))
        all_goals(go_meet;exact⟨by rw[eP.o],rfl⟩)
       |false=>
        have eP:Hid (ub=true):=by show _=_;rw[cj];rfl
        clear cj;go_wp2_with (first
         |(go_at_call 159;refine(ka.o _).aR ?_)
         |(go_at_call 158;refine(kb.o _).aR ?_))
        all_goals(go_meet;exact⟨by rw[eP.o],rfl⟩)
   .obtain rfl:d11=false:=by rw[sO];exact zV h11
    have f11:=cM h11;replace⟨h11,sO⟩:=H2 h11 sO;cases res with
    |false=>
     have eP:Hid (ub=false):=by show _=_;rw[cj];rfl
     clear cj;go_wp2_with (first
      |(go_at_call 159;refine(ka.o _).aR ?_)
      |(go_at_call 158;refine(kb.o _).aR ?_))
     all_goals(go_meet;exact⟨by rw[eP.o],rfl⟩)
    |true=>
     cases ba with
     |false=>
      have eP:Hid (ub=false):=by show _=_;rw[cj];rfl
      clear cj;go_wp2_with (first
       |(go_at_call 159;refine(ka.o _).aR ?_)
       |(go_at_call 158;refine(kb.o _).aR ?_))
      all_goals(go_meet;exact⟨by rw[eP.o],rfl⟩)
     |true=>
      cases ng with
      |true=>
       have eP:Hid (ub=true):=by show _=_;rw[cj];rfl
       clear cj;go_wp2_with (first
        |(go_at_call 159;refine(ka.o _).aR ?_)
        |(go_at_call 158;refine(kb.o _).aR ?_))
       all_goals(go_meet;exact⟨by rw[eP.o],rfl⟩)
      |false=>
       cases mb with
       |true=>
        have eP:Hid (ub=true):=by show _=_;rw[cj];rfl
        clear cj;go_wp2_with (first
         |(go_at_call 159;refine(ka.o _).aR ?_)
         |(go_at_call 158;refine(kb.o _).aR ?_))
        all_goals(go_meet;exact⟨by rw[eP.o],rfl⟩)
       |false=>
        have eP:Hid (ub=false):=by show _=_;rw[cj];rfl
        clear cj;go_wp2_with (first
         |(go_at_call 159;refine(ka.o _).aR ?_)
         |(go_at_call 158;refine(kb.o _).aR ?_))
        all_goals(go_meet;exact⟨by rw[eP.o],rfl⟩)
 obtain⟨rfl,tW⟩:=hcut;obtain rfl:=tW.symm;clear tW;have hK5:=Hd (UT.o.set (i:=3) (v:=76) (e1:=0) (e2:=d69) (e3:=76) (e4:=0) rfl);cases ub with
 |true=>
  go_wp2_with (refine ay (.store 209 (.tmp 10) (.tmp 90)) rfl ?_;refine eU rfl 209 (.tmp 10) (.tmp 90) rfl (cs':=rM 0 d69 76 0) hK5.o.b2 lP rfl rfl rfl rfl ?_;intro w1 cL aw);exact l5 rfl cL lP rfl rfl (gV.mk YU.o (hK5.o.fin aw))
 |false=>
  go_wp2_with (refine ay (.store 209 (.tmp 10) (.tmp 90)) rfl ?_;refine eU rfl 209 (.tmp 10) (.tmp 90) rfl (cs':=rM 0 d69 0 0) UT.o.b2 lP rfl rfl rfl rfl ?_;intro w1 cL aw);exact l5 rfl cL lP rfl rfl (gV.mk YU.o (UT.o.fin aw))
theorem C8 (A c F l q s A5 c5 t)(i:Nat)(x res)(hl:iI l)(hs:jE q)(ht:tT t)(hx:t[i]? =some x)(BP:x.a<t.length)(bQ:x.b<t.length)(w)(hF:∀b,F b->b<w.heap.size)(r:Rd w F (.slice A l.length c) (.sl l.length (l.flatMap fj)))(R:QR w F q s)(rt:Rd w F (.slice A5 t.length c5) (.sl t.length (t.flatMap b9))):
  Cl 130 #[.agg ⟨[.slice A l.length c]⟩,.agg ⟨qV q s⟩,.slice A5 t.length c5,.int .i64 i,.bool res] w (gV (dA l q t res x) w):=by
 by_cases h:bC x.op=false/\dm x.op=false
 .exact LC A c F l q s A5 c5 t i x res hl hs ht hx BP bQ w hF r R rt h
 .by_cases h2:aM q x.v<0
  .exact LD A c F l q s A5 c5 t i x res hl hs ht hx BP bQ w hF r R rt h h2
  .exact LH A c F l q s A5 c5 t i x res hl hs ht hx BP bQ w hF r R rt h h2
end dR
