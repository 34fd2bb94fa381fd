/- What is wrong with a node's variable. -/
import Derived.Test.YtjbcbibkhalagaaGreatDoorG2
namespace Go.Proofs.YtjbcbibkhalagaaGreatDoor
set_option maxRecDepth 100000
set_option maxHeartbeats 16000000
open Proofs.Tryz Go.RowKit Go.Deep Go.Maps
set_option linter.unusedVariables false
set_option linter.unusedSimpArgs false
theorem uX {q v}(h:0<=aM q v):∃(k:Nat)(it:It),aM q v=k/\k<q.items.length/\q.items[k]? =some it/\mY q v=some it:=by
 have h1:=yg (lZ q) v;rw[uu]at h1;obtain⟨k,hk⟩:∃k:Nat,aM q v=k:=⟨(aM q v).toNat,oQ⟩
 have h2:k<q.items.length:=by unfold aM at hk;omega
 obtain⟨it,hit⟩:=av h2;refine⟨k,it,hk,h2,hit,?_⟩;unfold mY;rw[if_neg oQ,hk,Int.toNat_natCast,hit]
theorem tB {q v}(h:aM q v<0):mY q v=none:=if_pos h
structure MS (l:List Td)(A:Option Addr)(c:Nat)(q:Qy)(s:fV)(x:Nd)(w wr:World):Prop where
 hb:Bw w wr
 b0:ao wr w.heap.size 24 [.slice A l.length c]
 b1:ao wr (w.heap.size+1) 31 (qV q s)
 b2:ao wr (w.heap.size+1+1) 63 (cJ x)
theorem MS.stay {l A c q s x w wr W}(h:MS l A c q s x w wr)(hb:Bw wr W):MS l A c q s x w W:=
 ⟨h.hb.trans (hb.mono h.hb.size),h.b0.stay hb,h.b1.stay hb,h.b2.stay hb⟩
theorem MS.new (l A c q s x w):MS l A c q s x w (((w.alloc (.cells ⟨[.slice A l.length c]⟩ 24)).alloc (.cells ⟨qV q s⟩ 31)).alloc (.cells ⟨cJ x⟩ 63)):=
 ⟨((bA).alloc sJ _).alloc (by simp;omega) _,(((ao.new w _ _).alloc _).alloc _),(((ao.new' sJ).alloc _)),(ao.new' sJ)⟩
theorem MS.cells {l A c q s x w wr}(h:MS l A c q s x w wr):wr.cell? ⟨w.heap.size,0,none⟩=some (.slice A l.length c)/\wr.cell? ⟨w.heap.size+1,0,none⟩=some (.slice s.a1 q.items.length s.c1)/\
  wr.cell? ⟨w.heap.size+1+1,0,none⟩=some (.int .i64 x.op)/\wr.cell? ⟨w.heap.size+1+1,2,none⟩=some (.string x.v)/\wr.cell? ⟨w.heap.size+1+1,3,none⟩=some (.string x.at_):=
 ⟨h.b0.cell 0,h.b1.cell 0,h.b2.cell 0,h.b2.cell 2,h.b2.cell 3⟩
structure MI (l:List Td)(A:Option Addr)(c:Nat)(q:Qy)(s:fV)(x:Nd)(it:It)(u:Value)(w wr:World):Prop where
 ms:MS l A c q s x w wr
 bi:ao wr (w.heap.size+1+1+1) 60 (dX it u)
theorem MI.stay {l A c q s x it u w wr W}(h:MI l A c q s x it u w wr)(hb:Bw wr W):MI l A c q s x it u w W:=⟨h.ms.stay hb,h.bi.stay hb⟩
theorem MI.new {l A c q s x w wr}(h:MS l A c q s x w wr)(hw:wr.heap.size=w.heap.size+1+1+1)(it u):MI l A c q s x it u w (wr.alloc (.cells ⟨dX it u⟩ 60)):=⟨h.stay bA,ao.new' hw⟩
theorem MI.cells {l A c q s x it u w wr}(h:MI l A c q s x it u w wr):wr.cell? ⟨w.heap.size+1+1+1,0,none⟩=some (.bool it.neg)/\wr.cell? ⟨w.heap.size+1+1+1,1,none⟩=some u/\wr.cell? ⟨w.heap.size+1+1+1,2,none⟩=some (.string it.v)/\
 wr.cell? ⟨w.heap.size+1+1+1,3,none⟩=some (.int .i64 it.lo)/\wr.cell? ⟨w.heap.size+1+1+1,4,none⟩=some (.int .i64 it.hi):=⟨h.bi.cell 0,h.bi.cell 1,h.bi.cell 2,h.bi.cell 3,h.bi.cell 4⟩
namespace dR
open cH
theorem IG (A c F l q s x res m f)(hl:iI l)(hs:jE q)(wN:x.v.size<=1048576)(w)(hF:∀b,F b->b<w.heap.size)(r:Rd w F (.slice A l.length c) (.sl l.length (l.flatMap fj)))(R:QR w F q s)(hM:cV 9 w m q.items.length f)(hN:ni (lZ q) f):
  Cl 56 #[.agg ⟨[.slice A l.length c]⟩,.agg ⟨qV q s⟩,.map (some m),.agg ⟨cJ x⟩,.bool res] w λe w'=>e=.returned (.int .i64 (j6 l q res x))/\Bw w w':=by
 have h0:=MS.new l A c q s x w;have lk:=(hM.stay h0.hb).look wN;rw[hN x.v,fW]at lk;obtain⟨b,hc⟩:=aB (j6 l q res x)
 rw[<-hc];unfold j6 at hc;obtain⟨ba,fk⟩:=aB (bC x.op)
 obtain⟨ag,et⟩:=aB (dm x.op)
 rw[<-fk,<-et]at hc;have kb:∀W,Cl 91 #[.int .i64 x.op] W λe w'=>e=.returned (.bool ba)/\w'=W:=λW=>by rw[fk];exact CM x.op W
 have ka:∀W,Cl 92 #[.int .i64 x.op] W λe w'=>e=.returned (.bool ag)/\w'=W:=λW=>by rw[et];exact GN x.op W
 have r1:=R.r1;have kh:∀(it:It) A2 c2 W,it∈q.items->Bw w W->Rd W F (.slice A2 it.ah.length c2) (.sl it.ah.length (it.ah.flatMap aG))->Cl 93 #[.agg ⟨[.slice A l.length c]⟩,.agg ⟨dX it (.slice A2 it.ah.length c2)⟩,.string x.at_] W λe w'=>e=.returned (.bool (hasB l it.ah x.at_))/\Bw W w':=λit A2 c2 W hx hW rx=>SY A c F l it A2 c2 x.at_ hl (hs.it it hx).1.1 W (λb h=>zF (hF b h) hW.size) (r.under hW hF) rx
 obtain⟨n0,n1,n2,n3,n4⟩:=h0.cells;obtain⟨op,n,v,at_,a,bb⟩:=x;obtain⟨A1,c1,A2,c2,A3,c3⟩:=s;simp only[qV,cJ]at h0 hc fk et kb ka lk n0 n1 n2 n3 n4 r1 kh |-;replace⟨h0,kb,ka,kh,r1,hF⟩:=H6 h0 kb ka kh r1 hF;clear hs R r hM wN hN;by_cases zq:ba=false/\ag=false
 .rw[if_pos zq]at hc;obtain⟨rfl,rfl⟩:=zq;replace⟨hc,fk,et⟩:=H3 hc fk et;clear n0 n1 n2 n3 n4 lk;go_enter func56,ntmps56;go_wp2_with (first
   |(go_at_call 91;refine(kb.o _).aR ?_)
   |(go_at_call 92;refine(ka.o _).aR ?_))
  go_ret;exact⟨hY hc.o.symm,h0.o.hb⟩
 rw[if_neg zq]at hc;by_cases hu:aM q v<0
 .rw[tB hu]at hc;rw[show decide (0<=aj (lZ q) v)=false from zV (by unfold aM at hu;omega)]at lk;replace⟨hc,fk,et,hu⟩:=H4 hc fk et hu;clear n0 n1;cases ba with
  |true=>
   clear zq;go_enter func56,ntmps56;go_wp2_with (first
    |(go_at_call 91;refine(kb.o _).aR ?_))
   go_ret;exact⟨hY hc.o.symm,h0.o.hb⟩
  |false=>
   obtain rfl:ag=true:=by simpa using zq
   clear zq;go_enter func56,ntmps56;go_wp2_with (first
    |(go_at_call 91;refine(kb.o _).aR ?_)
    |(go_at_call 92;refine(ka.o _).aR ?_))
   go_ret;exact⟨hY hc.o.symm,h0.o.hb⟩
 obtain⟨k,it,hk,ux,hit,Ep⟩:=uX (Int.not_lt.1 hu);rw[Ep]at hc;replace hc:b=if op≠5/\hasB l it.ah at_=false then 69 else if fG ⟨op,n,v,at_,a,bb⟩ it res then 76 else 0:=hc
 unfold aM at hk;rw[hk,yf oQ,show decide (0<=(k:Int))=true from zW oQ]at lk;obtain⟨g,off,B2,d2,rfl,PW,rx,a0,a1,a2,a3,a4⟩:=eV r1.o hit;have tC:=hF.o g PW;have qL:=λ(i:Nat)=>h0.o.hb.cell (p:=⟨g,i,none⟩) tC
 rw[<-qL]at a0 a1 a2 a3 a4;clear qL PW tC;have hI:=MI.new h0.o sJ it (.slice B2 it.ah.length d2);have Yt:=λW (hW:Bw w W)=>kh.o it B2 d2 W (zA hit) hW (rx.under hW hF.o)
 obtain⟨y0,y1,y2,y3,y4⟩:=hI.cells;obtain⟨z0,z1,z2,z3,z4⟩:=hI.ms.cells;obtain⟨hh,Uh⟩:=aB (hasB l it.ah at_)
 rw[<-Uh]at Yt hc;obtain⟨mb,sH⟩:=aB (ld it)
 have Fb:fG ⟨op,n,v,at_,a,bb⟩ it res<->((ag=true/\it.neg=true)\/(op=11/\mb=false)\/(res=true/\ba=true/\(it.neg=true\/mb=true))):=by rw[fk,et,sH];exact Iff.rfl
 simp only[dX,cJ,qV]at hI Yt y0 y1 y2 y3 y4 z0 z1 z2 z3 z4;have h69:op≠5->hh=false->b=69:=λh1 h2=>by rw[hc];exact if_pos ⟨h1,h2⟩
 have h76:(op=5\/hh=true)->fG ⟨op,n,v,at_,a,bb⟩ it res->b=76:=λh1 h2=>by rw[hc,if_neg (λh=>h1.elim h.1 (λe=>by rw[h.2]at e;cases e))];exact if_pos h2
 have h00:(op=5\/hh=true)->¬fG ⟨op,n,v,at_,a,bb⟩ it res->b=0:=λh1 h2=>by rw[hc,if_neg (λh=>h1.elim h.1 (λe=>by rw[h.2]at e;cases e))];exact if_neg h2
 rw[Fb]at h76 h00;clear Fb hc;have g0:=aH k;have g1:=aV k q.items.length;replace⟨hI,Yt,h69,h76,h00,fk,et,hk,hit,Ep,Uh,sH⟩:=uM hI Yt h69 h76 h00 fk et hk hit Ep Uh sH;replace rx:=Hd rx;clear hu ux;have wO:(ba||ag)=true:=by cases ba<;>cases ag<;>simp at zq |-
 clear zq;replace wO:=Hd wO;have Yf:=h0.o;have hsz:(((w.alloc (.cells ⟨[.slice A l.length c]⟩ 24)).alloc (.cells ⟨[.slice (some ⟨g,off,none⟩) q.items.length c1,.int .i64 q.mode,.int .i64 q.after,.slice A2 q.wh.length c2,.int .i64 q.within,.string q.au,.slice A3 q.ret.length c3]⟩ 31)).alloc (.cells ⟨[.int .i64 op,.int .i64 n,.string v,.string at_,.int .i64 a,.int .i64 bb]⟩ 63)).heap.size=w.heap.size+1+1+1:=sJ;generalize cg:(((w.alloc (.cells ⟨[.slice A l.length c]⟩ 24)).alloc (.cells ⟨[.slice (some ⟨g,off,none⟩) q.items.length c1,.int .i64 q.mode,.int .i64 q.after,.slice A2 q.wh.length c2,.int .i64 q.within,.string q.au,.slice A3 q.ret.length c3]⟩ 31)).alloc (.cells ⟨[.int .i64 op,.int .i64 n,.string v,.string at_,.int .i64 a,.int .i64 bb]⟩ 63))=W0 at*;replace⟨Yf,cg⟩:=H2 Yf cg;have acn:=Hd hsz;clear hsz;go_enter func56,ntmps56;go_upto_region 1 with fail
 rw[cg.o];go_cut [24] (λs wx=>s=.bool false/\wx=W0)
 .cases ba with
  |true=>
   go_wp2_with (first
    |(go_at_call 91;refine(kb.o _).aR ?_))
   all_goals(go_meet;exact⟨rfl,rfl⟩)
  |false=>
   have aco:ag=true:=by simpa using wO.o
   subst aco;go_wp2_with (first
    |(go_at_call 91;refine(kb.o _).aR ?_)
    |(go_at_call 92;refine(ka.o _).aR ?_))
   all_goals(go_meet;exact⟨rfl,rfl⟩)
 obtain⟨rfl,tW⟩:=hcut;obtain rfl:=tW.symm;clear tW;have hsz:=acn.o;have hX:∀W,Bw W0 W->Bw w W:=λW hW=>Yf.o.hb.trans (hW.mono Yf.o.hb.size)
 replace hX:=Hd hX;go_upto_region 7 with fail
 go_cut [14] (λs wx=>s=.bool mb/\MI l A c q ⟨some ⟨g,off,none⟩,c1,A2,c2,A3,c3⟩ ⟨op,n,v,at_,a,bb⟩ it (.slice B2 it.ah.length d2) w wx)
 .obtain⟨neg,ah,iv,lo,hi⟩:=it;cases neg with
  |true=>
   have CV:mb=false:=by rw[sH.o];rfl
   subst CV;go_wp2
   all_goals(go_meet;exact⟨rfl,hI.o⟩)
  |false=>
   by_cases h1:1<hi
   .have CV:mb=true:=(by rw[sH.o];exact zW h1);subst CV;go_wp2
    all_goals(go_meet;exact⟨rfl,hI.o⟩)
   .have CV:mb=false:=(by rw[sH.o];exact zV h1);subst CV;go_wp2
    all_goals(go_meet;exact⟨rfl,hI.o⟩)
 obtain⟨rfl,II⟩:=hcut;clear y0 y1 y2 y3 y4 z0 z1 z2 z3 z4 a0 a1 a2 a3 a4 hI hsz hX lk n0 n1 n2 n3 n4;obtain⟨z0,_,z2,z3,z4⟩:=II.ms.cells;obtain⟨y0,y1,y2,y3,y4⟩:=II.cells;simp only at z2 z3 z4;have kh2:=Hd (Yt.o wc II.ms.hb);replace II:=Hd II;go_upto_region 8 with fail
 go_cut [47] (λs wy=>s=.bool (!decide (op=5)&& !hh)/\MI l A c q ⟨some ⟨g,off,none⟩,c1,A2,c2,A3,c3⟩ ⟨op,n,v,at_,a,bb⟩ it (.slice B2 it.ah.length d2) w wy)
 .by_cases h5:op=5
  .subst h5;go_wp2
   all_goals(go_meet;exact⟨rfl,II.o⟩)
  .have f5:=cM h5;have f6:=gL h5;have PX:decide (op=5)=false:=zV h5;replace h5:=Hd h5;cases hh with
   |true=>
    go_wp2_with (go_at_call 93;refine kh2.o.mono ?_;rintro e W ⟨rfl,hW⟩;replace II:=Hd (II.o.stay hW);clear hW)
    all_goals(go_meet;exact⟨by rw[PX];rfl,II.o⟩)
   |false=>
    go_wp2_with (go_at_call 93;refine kh2.o.mono ?_;rintro e W ⟨rfl,hW⟩;replace II:=Hd (II.o.stay hW);clear hW)
    all_goals(go_meet;exact⟨by rw[PX];rfl,II.o⟩)
 obtain⟨PY,GZ⟩:=hcut;clear y0 y1 y2 y3 y4 z0 z2 z3 z4 II kh2;obtain⟨z0,_,z2,z3,z4⟩:=GZ.ms.cells;obtain⟨y0,y1,y2,y3,y4⟩:=GZ.cells;simp only at z2 z3 z4;replace GZ:=Hd GZ;by_cases h8:op≠5/\hh=false
 .have e8:(!decide (op=5)&& !hh)=true:=by rw[h8.2,zV h8.1];rfl
  rw[e8]at PY;subst PY;have ae:=Hd (h69.o h8.1 h8.2);clear h8 e8;go_wp2;go_ret;exact⟨hY ae.o.symm,GZ.o.ms.hb⟩
 have Ui:op=5\/hh=true:=by
  by_cases h5:op=5
  .exact .inl h5
  .cases hh with
   |true=>exact .inr rfl
   |false=>exact absurd ⟨h5,rfl⟩ h8
 have e8:(!decide (op=5)&& !hh)=false:=by rcases Ui with h |h<;>simp[h]
 rw[e8]at PY;subst PY;have Uj:=Hd (h76.o Ui);have acq:=Hd (h00.o Ui);clear h8 e8 Ui h69 h76 h00;go_upto_region 10 with fail
 go_cut [59] (λs wy2=>s=.bool (ag&&it.neg)/\MI l A c q ⟨some ⟨g,off,none⟩,c1,A2,c2,A3,c3⟩ ⟨op,n,v,at_,a,bb⟩ it (.slice B2 it.ah.length d2) w wy2)
 .cases ag with
  |true=>
   go_wp2_with (go_at_call 92;refine(ka.o _).aR ?_)
   all_goals(go_meet;exact⟨rfl,GZ.o⟩)
  |false=>
   go_wp2_with (go_at_call 92;refine(ka.o _).aR ?_)
   all_goals(go_meet;exact⟨rfl,GZ.o⟩)
 obtain⟨PZ,G0⟩:=hcut;clear y0 y1 y2 y3 y4 z0 z2 z3 z4 GZ;obtain⟨z0,_,z2,z3,z4⟩:=G0.ms.cells;obtain⟨y0,y1,y2,y3,y4⟩:=G0.cells;simp only at z2 z3 z4;have GZ:=Hd G0;clear G0;cases h10:(ag&&it.neg)with
 |true=>
  rw[h10]at PZ;subst PZ;have ae:=Hd (Uj.o (.inl (by simpa using h10)));replace h10:=Hd h10;go_wp2;go_ret;exact⟨hY ae.o.symm,GZ.o.ms.hb⟩
 |false=>
 rw[h10]at PZ;subst PZ;have Yu:¬(ag=true/\it.neg=true):=by intro h;rw[h.1,h.2]at h10;cases h10
 replace Yu:=Hd Yu;clear h10;by_cases h11:op=11/\mb=false
 .obtain⟨h11,rfl⟩:=h11;have ae:=Hd (Uj.o (.inr (.inl ⟨h11,rfl⟩)));have f11:=mf h11;replace h11:=Hd h11;go_wp2;go_ret;exact⟨hY ae.o.symm,GZ.o.ms.hb⟩
 have Uk:res=true/\ba=true/\(it.neg=true\/mb=true)\/¬(res=true/\ba=true/\(it.neg=true\/mb=true)):=Classical.em _;obtain⟨rv,OY⟩:=aB (res&&(ba&&(it.neg||mb)))
 have ae:b=if rv=true then 76 else 0:=by
  by_cases hr:res=true/\ba=true/\(it.neg=true\/mb=true)
  .rw[Uj.o (.inr (.inr hr)),if_pos (by rw[OY,hr.1,hr.2.1];simpa using hr.2.2)]
  .rw[acq.o (λh=>h.elim Yu.o (λh=>h.elim h11 hr)),if_neg (λh=>hr (by rw[OY]at h;simpa using h))]
 clear Uk;replace⟨ae,OY⟩:=H2 ae OY;have Ul:op=11->mb=true:=λh=>by cases mb with
  |true=>rfl
  |false=>exact absurd ⟨h,rfl⟩ h11
 replace Ul:=Hd Ul;clear h11;go_upto_region 11 with fail
 go_cut [59] (λs wy2=>s=.bool false/\MI l A c q ⟨some ⟨g,off,none⟩,c1,A2,c2,A3,c3⟩ ⟨op,n,v,at_,a,bb⟩ it (.slice B2 it.ah.length d2) w wy2)
 .by_cases h11:op=11
  .obtain rfl:mb=true:=Ul.o h11;subst h11;go_wp2
   all_goals(go_meet;exact⟨rfl,GZ.o⟩)
  .have f11:=cM h11;replace h11:=Hd h11;go_wp2
   all_goals(go_meet;exact⟨rfl,GZ.o⟩)
 obtain⟨rfl,G0⟩:=hcut;clear y0 y1 y2 y3 y4 z0 z2 z3 z4 GZ;obtain⟨z0,_,z2,z3,z4⟩:=G0.ms.cells;obtain⟨y0,y1,y2,y3,y4⟩:=G0.cells;simp only at z2 z3 z4;replace G0:=Hd G0;generalize XA:it.neg=ng at y0;rw[XA]at OY;replace XA:=Hd XA;cases res with
 |false=>
  have JZ:rv=false:=OY.o;subst JZ;go_wp2;go_ret;exact⟨hY ae.o.symm,G0.o.ms.hb⟩
 |true=>
  cases ba with
  |false=>
   have JZ:rv=false:=OY.o;subst JZ;go_wp2_with (go_at_call 91;refine(kb.o _).aR ?_);go_ret;exact⟨hY ae.o.symm,G0.o.ms.hb⟩
  |true=>
   cases ng with
   |true=>
    have JZ:rv=true:=OY.o;subst JZ;go_wp2_with (go_at_call 91;refine(kb.o _).aR ?_);go_ret;exact⟨hY ae.o.symm,G0.o.ms.hb⟩
   |false=>
    cases mb with
    |true=>
     have JZ:rv=true:=OY.o;subst JZ;go_wp2_with (go_at_call 91;refine(kb.o _).aR ?_);go_ret;exact⟨hY ae.o.symm,G0.o.ms.hb⟩
    |false=>
     have JZ:rv=false:=OY.o;subst JZ;go_wp2_with (go_at_call 91;refine(kb.o _).aR ?_);go_ret;exact⟨hY ae.o.symm,G0.o.ms.hb⟩
end dR
structure SQ (l:List Td)(A:Option Addr)(c:Nat)(q:Qy)(s:fV)(w wr:World):Prop where
 hb:Bw w wr
 b0:ao wr w.heap.size 24 [.slice A l.length c]
 b1:ao wr (w.heap.size+1) 31 (qV q s)
theorem SQ.stay {l A c q s w wr W}(h:SQ l A c q s w wr)(hb:Bw wr W):SQ l A c q s w W:=⟨h.hb.trans (hb.mono h.hb.size),h.b0.stay hb,h.b1.stay hb⟩
theorem SQ.new (l A c q s w):SQ l A c q s w ((w.alloc (.cells ⟨[.slice A l.length c]⟩ 24)).alloc (.cells ⟨qV q s⟩ 31)):=
 ⟨(bA).alloc sJ _,(ao.new w _ _).alloc _,ao.new' sJ⟩
theorem SQ.cells {l A c q s w wr}(h:SQ l A c q s w wr):wr.cell? ⟨w.heap.size,0,none⟩=some (.slice A l.length c)/\wr.cell? ⟨w.heap.size+1,0,none⟩=some (.slice s.a1 q.items.length s.c1)/\wr.cell? ⟨w.heap.size+1,5,none⟩=some (.string q.au):=⟨h.b0.cell 0,h.b1.cell 0,h.b1.cell 5⟩
structure AB (l:List Td)(A:Option Addr)(c:Nat)(q:Qy)(s:fV)(F:Nat->Prop)(bs bq bv m:Nat)(W:World):Prop where
 b0:ao W bs 24 [.slice A l.length c]
 b1:ao W bq 31 (qV q s)
 b2:ao W bv 134 [.map (some m)]
 mp:∃f,cV 9 W m q.items.length f/\ni (lZ q) f
 rd:Rd W F (.slice A l.length c) (.sl l.length (l.flatMap fj))
 qr:QR W F q s
theorem AB.stay {l A c q s F bs bq bv m W W'}(h:AB l A c q s F bs bq bv m W)(hb:Bw W W'):AB l A c q s F bs bq bv m W':=
 ⟨h.b0.stay hb,h.b1.stay hb,h.b2.stay hb,let ⟨f,h1,h2⟩:=h.mp;⟨f,h1.stay hb,h2⟩,h.rd.under hb h.qr.lt,h.qr.under hb⟩
def jm (t:List Nd)(g:Nd->Int)(w:World)(e:Ending)(w':World):Prop:=∃i c:Int,e=.returned (.tuple #[.int .i64 i,.int .i64 c])/\c=fz (t.map λx=>fz [g x,if cF t x=true then 0 else 75])/\Bw w w'
theorem jm.mk {t g w w' i c}(h:c=fz (t.map λx=>fz [g x,if cF t x=true then 0 else 75]))(hb:Bw w w'):jm t g w (.returned (.tuple #[.int .i64 i,.int .i64 c])) w':=⟨i,c,rfl,h,hb⟩
theorem sK {α:Type}{g}{l:List α}{j x}(hx:l[j]? =some x)(h:∀(i:Nat) y,l[i]? =some y->i<j->g y=0)(hne:g x≠0):fz (l.map g)=g x:=by
 rw[<-oC g l 0];exact uV (g:=λ_ x=>g x) hx h rfl hne
theorem qo {α:Type}{g}{l:List α}(h:∀(i:Nat) y,l[i]? =some y->i<l.length->g y=0):fz (l.map g)=0:=by
 rw[<-oC g l 0];exact tA (g:=λ_ x=>g x) λi x hx=>h i x hx (zC.1 hx).1
theorem fz2 (a b):fz [a,b]=if a=0 then b else a:=by unfold fz;rw[EY]
namespace dR
open cH
theorem Fc (A c F l q s)(hl:iI l)(hs:jE q)(w)(hF:∀b,F b->b<w.heap.size)(r:Rd w F (.slice A l.length c) (.sl l.length (l.flatMap fj)))(R:QR w F q s):
  Cl 58 #[.agg ⟨[.slice A l.length c]⟩,.agg ⟨qV q s⟩] w λe w'=>e=.returned (.bool (mh l q))/\Bw w w':=by
 have h0:=SQ.new l A c q s w;have kh:∀(it:It) A2 c2 W,it∈q.items->Bw w W->Rd W F (.slice A2 it.ah.length c2) (.sl it.ah.length (it.ah.flatMap aG))->Cl 93 #[.agg ⟨[.slice A l.length c]⟩,.agg ⟨dX it (.slice A2 it.ah.length c2)⟩,.string q.au] W λe w'=>e=.returned (.bool (hasB l it.ah q.au))/\Bw W w':=λit A2 c2 W hx hW rx=>SY A c F l it A2 c2 q.au hl (hs.it it hx).1.1 W (λb h=>zF (hF b h) hW.size) (r.under hW hF) rx
 have iT:=hs.il;obtain⟨b,hc⟩:=aB (mh l q)
 rw[<-hc];unfold mh at hc;obtain⟨A1,c1,A2,c2,A3,c3⟩:=s;have j7:=R.r1;obtain⟨x0,x1,x2⟩:=h0.cells;simp only[qV]at h0 j7 x0 x1 x2 |-;replace⟨j7,hF,kh,h0⟩:=H4 j7 hF kh h0;clear hs R r;by_cases p0:q.au=jk
 .have ae:b=false:=by rw[hc,zW p0];rfl
  have la:=jF p0;replace⟨ae,p0⟩:=H2 ae p0;clear hc x0 x1;go_enter func58,ntmps58;go_wp2;go_ret;exact⟨fZ ae.o.symm,h0.o.hb⟩
 have la:=gK p0;have jj:b=q.items.all λx=>hasB l x.ah q.au:=by rw[hc,zV p0];rfl
 replace⟨p0,jj⟩:=H2 p0 jj;clear hc;go_enter func58,ntmps58;go_wp2;clear x0 x1 x2;go_loopw [13] (λi wr=>∃j:Nat,j<=q.items.length/\i=.int .i64 j/\SQ l A c q ⟨A1,c1,A2,c2,A3,c3⟩ w wr/\Hid ((q.items.take j).all (λx=>hasB l x.ah q.au)=true)) (λi _=>q.items.length- (intOf i).toNat)
 .exact⟨0,zE _,rfl,h0.o,rfl⟩
 clear h0;obtain⟨j,hj,rfl,hI,hp⟩:=hrel;by_cases hlt:j<q.items.length
 .obtain⟨x,hx⟩:=av hlt;obtain⟨g,off,B2,d2,rfl,_,rx,a0,a1,a2,a3,a4⟩:=eV (j7.o.under hI.hb hF.o) hx;have g1:=aH j;have g2:=aV j q.items.length;have BV:Bw wr (wr.alloc (.cells ⟨dX x (.slice B2 x.ah.length d2)⟩ 60)):=bA;have eE:=hI.stay BV;have kx:=kh.o x B2 d2 _ (zA hx) eE.hb (rx.alloc _);obtain⟨x0,x1,x2⟩:=eE.cells;simp only[dX]at eE kx x0 x1 x2;replace⟨rx,eE,hI,BV,hx⟩:=H5 rx eE hI BV hx;cases hb:hasB l x.ah q.au with
  |false=>
   rw[hb]at kx;have ae:b=false:=by rw[jj.o];exact ea hx.o hb
   replace⟨hb,kx,ae⟩:=H3 hb kx ae;go_wp2_with (go_at_call 93;refine kx.o.mono ?_;rintro e W ⟨rfl,hW⟩;replace eE:=Hd (eE.o.stay hW);clear hW);go_ret;exact⟨fZ ae.o.symm,eE.o.hb⟩
  |true=>
   rw[hb]at kx;have ej:=Hd (dG hx.o hp.o hb);replace⟨hb,kx⟩:=H2 hb kx;go_wp2_with (go_at_call 93;refine kx.o.mono ?_;rintro e W ⟨rfl,hW⟩;replace eE:=Hd (eE.o.stay hW);clear hW);go_roundw
   .exact⟨j+1,oQ,gQ,eE.o,ej⟩
   exact mQ
 .have g1:=jS j q.items.length;obtain rfl:j=q.items.length:=oQ;have ae:b=true:=by rw[jj.o];exact ft hp.o
  replace⟨ae,hI⟩:=H2 ae hI;go_wp2;go_ret;exact⟨fZ ae.o.symm,hI.o.hb⟩
theorem S4 {A c F l q s bs bq bv m}(hl:iI l)(hs:jE q)(x res)(wN:x.v.size<=1048576){w}(h:AB l A c q s F bs bq bv m w):
  Cl 55 #[.agg ⟨cJ x⟩,.bool res,.pointer (some ⟨bs,0,none⟩),.pointer (some ⟨bq,0,none⟩),.pointer (some ⟨bv,0,none⟩)] w λe w'=>e=.returned (.int .i64 (j6 l q res x))/\Bw w w':=by
 have hb:Bw w (w.alloc (.cells ⟨cJ x⟩ 63)):=bA;have h1:=h.stay hb;obtain⟨f,hM,hN⟩:=h1.mp;have km:=IG A c F l q s x res m f hl hs wN _ h1.qr.lt h1.rd h1.qr hM hN;have y0:=h1.b0.cell 0;have y1:∀i,_:=λi=>h1.b1.cell i
 have z0:=y1 0;have z1:=y1 1;have z2:=y1 2;have z3:=y1 3;have z4:=y1 4;have z5:=y1 5;have z6:=y1 6;have y2:=h1.b2.cell 0;obtain⟨op,n,v,at_,a,bb⟩:=x;obtain⟨A1,c1,A2,c2,A3,c3⟩:=s;simp only[qV,cJ,zY,xA]at km hb y0 z0 z1 z2 z3 z4 z5 z6 y2 |-;replace⟨km,hb⟩:=H2 km hb;clear h h1 hM hN y1;go_enter func55,ntmps55;go_wp2_with (go_at_call 56;refine km.o.mono ?_;rintro e W ⟨rfl,hW⟩;replace hW:=Hd (hb.o.trans (hW.mono hb.o.size)));go_ret;exact⟨rfl,hW.o⟩
theorem Fe {A c F l q s bs bq bv m ba}(hl:iI l)(hs:jE q)(x)(wN:x.v.size<=1048576){w}(h:AB l A c q s F bs bq bv m w)(ha:ao w ba 137 [.func (.func 55) #[] #[.pointer (some ⟨bs,0,none⟩),.pointer (some ⟨bq,0,none⟩),.pointer (some ⟨bv,0,none⟩)]]):
  Cl 95 #[.agg ⟨cJ x⟩,.pointer (some ⟨ba,0,none⟩)] w λe w'=>e=.returned (.int .i64 (j6 l q false x))/\Bw w w':=by
 have hb:Bw w (w.alloc (.cells ⟨cJ x⟩ 63)):=bA;have h1:=h.stay hb;have km:=S4 hl hs x false wN h1;have y0:=(ha.stay hb).cell 0;obtain⟨op,n,v,at_,a,bb⟩:=x;simp only[cJ,zY,xA]at km hb y0 |-;replace⟨km,hb⟩:=H2 km hb;clear h h1 ha;go_enter func95,ntmps95;go_wp2_with (go_at_call 55;refine km.o.mono ?_;rintro e W ⟨rfl,hW⟩;replace hW:=Hd (hb.o.trans (hW.mono hb.o.size)));go_ret;exact⟨rfl,hW.o⟩
theorem CW (A c F t g ba)(hl:t.length<=1048576)(jX:∀x∈t,x.a<t.length/\x.b<t.length)(w)(hF:∀b,F b->b<w.heap.size)(r:Rd w F (.slice A t.length c) (.sl t.length (t.flatMap b9)))(hk:∀x∈t,∀W,Bw w W->Cl 95 #[.agg ⟨cJ x⟩,.pointer (some ⟨ba,0,none⟩)] W λe w'=>e=.returned (.int .i64 (g x))/\Bw W w'):
  Cl 94 #[.slice A t.length c,.func (.func 95) #[] #[.pointer (some ⟨ba,0,none⟩)]] w (jm t g w):=by
 have k2:∀x∈t,∀W,Bw w W->Cl 139 #[.slice A t.length c,.agg ⟨cJ x⟩] W λe w'=>e=.returned (.bool (cF t x))/\Bw W w':=λx hx W hW=>GR A c F t x hl (jX x hx).1 (jX x hx).2 W (λb h=>zF (hF b h) hW.size) (r.under hW hF)
 replace⟨r,hF,hk,k2⟩:=H4 r hF hk k2;clear jX;go_enter func94,ntmps94;go_wp2;go_loopw [11] (λi wr=>∃j:Nat,j<=t.length/\i=.int .i64 j/\Bw w wr/\Hid (∀(i:Nat) y,t[i]? =some y->i<j->fz [g y,if cF t y=true then 0 else 75]=0)) (λi _=>t.length- (intOf i).toNat)
 .exact⟨0,zE _,rfl,bR,λi y hy hi=>by omega⟩
 obtain⟨j,hj,rfl,hI,hp⟩:=hrel;by_cases hlt:j<t.length
 .obtain⟨x,hx⟩:=av hlt;have uW:=zA hx;obtain⟨b,off,rfl,_,a0,a1,a2,a3,a4,a5⟩:=dk (r.o.under hI hF.o) hx;have g1:=aH j;have g2:=aV j t.length;have BV:Bw wr (wr.alloc (.cells ⟨cJ x⟩ 63)):=bA;have eE:=hI.trans (BV.mono hI.size);have eW:=hk.o x uW _ eE;have pw:ao (wr.alloc (.cells ⟨cJ x⟩ 63)) wr.heap.size 63 (cJ x):=ao.new _ _ _;have fS:=λW hW=>k2.o x uW W hW
  have qc:∀c:Int,c≠0->fz [g x,if cF t x=true then 0 else 75]=c->c=fz (t.map λx=>fz [g x,if cF t x=true then 0 else 75]):=λc hne hc=>by
   rw[<-hc];exact(sK hx hp.o (by rw[hc];exact hne)).symm
  have mB:fz [g x,if cF t x=true then 0 else 75]=0->∀(i:Nat) y,t[i]? =some y->i<j+1->fz [g y,if cF t y=true then 0 else 75]=0:=λh i y hy hi=>by
   by_cases e:i=j
   .subst e;obtain rfl:x=y:=by rw[hy]at hx;exact(eO hx).symm
    exact h
   .exact hp.o i y hy oQ
  rw[fz2]at qc mB;obtain⟨gx,hgx⟩:=aB (g x)
  obtain⟨kb,Um⟩:=aB (cF t x)
  rw[<-hgx]at eW qc mB;rw[<-Um]at fS qc mB;simp only[cJ]at eW fS eE BV pw;replace⟨eW,fS,qc,mB,hgx,Um,hx,eE,BV,pw,hI⟩:=SI eW fS qc mB hgx Um hx eE BV pw hI;by_cases hz:gx=0
  .subst hz;cases kb with
   |true=>
    have ej:=Hd (mB.o rfl);go_wp2_with (first
     |(go_at_call 95;refine eW.o.mono ?_;rintro e W ⟨rfl,hW⟩;have bn:=eE.o.trans (hW.mono eE.o.size);have k3:=fS.o W bn;have dJ:=pw.o.stay hW;have c0:=dJ.cell 0;have c1:=dJ.cell 1;have c2:=dJ.cell 2;have c3:=dJ.cell 3;have c4:=dJ.cell 4;have c5:=dJ.cell 5;simp only[zY,xA]at c0 c1 c2 c3 c4 c5;replace⟨bn,k3⟩:=H2 bn k3;clear dJ hW)
     |(go_at_call 139;refine k3.o.mono ?_;rintro e W ⟨rfl,hW⟩;have dB:=Hd (bn.o.trans (hW.mono bn.o.size));clear hW))
    go_roundw
    .exact⟨j+1,oQ,gQ,dB.o,ej⟩
    exact mQ
   |false=>
    have ae:=Hd (qc.o 75 dQ rfl);go_wp2_with (first
     |(go_at_call 95;refine eW.o.mono ?_;rintro e W ⟨rfl,hW⟩;have bn:=eE.o.trans (hW.mono eE.o.size);have k3:=fS.o W bn;have dJ:=pw.o.stay hW;have c0:=dJ.cell 0;have c1:=dJ.cell 1;have c2:=dJ.cell 2;have c3:=dJ.cell 3;have c4:=dJ.cell 4;have c5:=dJ.cell 5;simp only[zY,xA]at c0 c1 c2 c3 c4 c5;replace⟨bn,k3⟩:=H2 bn k3;clear dJ hW)
     |(go_at_call 139;refine k3.o.mono ?_;rintro e W ⟨rfl,hW⟩;have dB:=Hd (bn.o.trans (hW.mono bn.o.size));clear hW))
    go_ret2;exact jm.mk ae.o dB.o
  .have ae:=Hd (qc.o gx hz (if_neg hz));have f1:=cM hz;have f2:=gL hz;replace hz:=Hd hz;go_wp2_with (first
    |(go_at_call 95;refine eW.o.mono ?_;rintro e W ⟨rfl,hW⟩;have bn:=Hd (eE.o.trans (hW.mono eE.o.size));clear hW))
   go_ret2;exact jm.mk ae.o bn.o
 .have g1:=jS j t.length;obtain rfl:j=t.length:=oQ;have ae:=Hd (qo hp.o);replace hI:=Hd hI;go_wp2;go_ret2;exact jm.mk ae.o.symm hI.o
theorem IJ {A c F l q s bs bq bv m ba}(hl:iI l)(hs:jE q)(x)(wN:x.v.size<=1048576){w}(h:AB l A c q s F bs bq bv m w)(ha:ao w ba 137 [.func (.func 55) #[] #[.pointer (some ⟨bs,0,none⟩),.pointer (some ⟨bq,0,none⟩),.pointer (some ⟨bv,0,none⟩)]]):
  Cl 101 #[.agg ⟨cJ x⟩,.pointer (some ⟨ba,0,none⟩)] w λe w'=>e=.returned (.int .i64 (j6 l q true x))/\Bw w w':=by
 have hb:Bw w (w.alloc (.cells ⟨cJ x⟩ 63)):=bA;have h1:=h.stay hb;have km:=S4 hl hs x true wN h1;have y0:=(ha.stay hb).cell 0;obtain⟨op,n,v,at_,a,bb⟩:=x;simp only[cJ,zY,xA]at km hb y0 |-;replace⟨km,hb⟩:=H2 km hb;clear h h1 ha;go_enter func101,ntmps101;go_wp2_with (go_at_call 55;refine km.o.mono ?_;rintro e W ⟨rfl,hW⟩;replace hW:=Hd (hb.o.trans (hW.mono hb.o.size)));go_ret;exact⟨rfl,hW.o⟩
theorem Ff (A c F t g ba)(hl:t.length<=1048576)(jX:∀x∈t,x.a<t.length/\x.b<t.length)(w)(hF:∀b,F b->b<w.heap.size)(r:Rd w F (.slice A t.length c) (.sl t.length (t.flatMap b9)))(hk:∀x∈t,∀W,Bw w W->Cl 101 #[.agg ⟨cJ x⟩,.pointer (some ⟨ba,0,none⟩)] W λe w'=>e=.returned (.int .i64 (g x))/\Bw W w'):
  Cl 94 #[.slice A t.length c,.func (.func 101) #[] #[.pointer (some ⟨ba,0,none⟩)]] w (jm t g w):=by
 have k2:∀x∈t,∀W,Bw w W->Cl 139 #[.slice A t.length c,.agg ⟨cJ x⟩] W λe w'=>e=.returned (.bool (cF t x))/\Bw W w':=λx hx W hW=>GR A c F t x hl (jX x hx).1 (jX x hx).2 W (λb h=>zF (hF b h) hW.size) (r.under hW hF)
 replace⟨r,hF,hk,k2⟩:=H4 r hF hk k2;clear jX;go_enter func94,ntmps94;go_wp2;go_loopw [11] (λi wr=>∃j:Nat,j<=t.length/\i=.int .i64 j/\Bw w wr/\Hid (∀(i:Nat) y,t[i]? =some y->i<j->fz [g y,if cF t y=true then 0 else 75]=0)) (λi _=>t.length- (intOf i).toNat)
 .exact⟨0,zE _,rfl,bR,λi y hy hi=>by omega⟩
 obtain⟨j,hj,rfl,hI,hp⟩:=hrel;by_cases hlt:j<t.length
 .obtain⟨x,hx⟩:=av hlt;have uW:=zA hx;obtain⟨b,off,rfl,_,a0,a1,a2,a3,a4,a5⟩:=dk (r.o.under hI hF.o) hx;have g1:=aH j;have g2:=aV j t.length;have BV:Bw wr (wr.alloc (.cells ⟨cJ x⟩ 63)):=bA;have eE:=hI.trans (BV.mono hI.size);have eW:=hk.o x uW _ eE;have pw:ao (wr.alloc (.cells ⟨cJ x⟩ 63)) wr.heap.size 63 (cJ x):=ao.new _ _ _;have fS:=λW hW=>k2.o x uW W hW
  have qc:∀c:Int,c≠0->fz [g x,if cF t x=true then 0 else 75]=c->c=fz (t.map λx=>fz [g x,if cF t x=true then 0 else 75]):=λc hne hc=>by
   rw[<-hc];exact(sK hx hp.o (by rw[hc];exact hne)).symm
  have mB:fz [g x,if cF t x=true then 0 else 75]=0->∀(i:Nat) y,t[i]? =some y->i<j+1->fz [g y,if cF t y=true then 0 else 75]=0:=λh i y hy hi=>by
   by_cases e:i=j
   .subst e;obtain rfl:x=y:=by rw[hy]at hx;exact(eO hx).symm
    exact h
   .exact hp.o i y hy oQ
  rw[fz2]at qc mB;obtain⟨gx,hgx⟩:=aB (g x)
  obtain⟨kb,Um⟩:=aB (cF t x)
  rw[<-hgx]at eW qc mB;rw[<-Um]at fS qc mB;simp only[cJ]at eW fS eE BV pw;replace⟨eW,fS,qc,mB,hgx,Um,hx,eE,BV,pw,hI⟩:=SI eW fS qc mB hgx Um hx eE BV pw hI;by_cases hz:gx=0
  .subst hz;cases kb with
   |true=>
    have ej:=Hd (mB.o rfl);go_wp2_with (first
     |(go_at_call 101;refine eW.o.mono ?_;rintro e W ⟨rfl,hW⟩;have bn:=eE.o.trans (hW.mono eE.o.size);have k3:=fS.o W bn;have dJ:=pw.o.stay hW;have c0:=dJ.cell 0;have c1:=dJ.cell 1;have c2:=dJ.cell 2;have c3:=dJ.cell 3;have c4:=dJ.cell 4;have c5:=dJ.cell 5;simp only[zY,xA]at c0 c1 c2 c3 c4 c5;replace⟨bn,k3⟩:=H2 bn k3;clear dJ hW)
     |(go_at_call 139;refine k3.o.mono ?_;rintro e W ⟨rfl,hW⟩;have dB:=Hd (bn.o.trans (hW.mono bn.o.size));clear hW))
    go_roundw
    .exact⟨j+1,oQ,gQ,dB.o,ej⟩
    exact mQ
   |false=>
    have ae:=Hd (qc.o 75 dQ rfl);go_wp2_with (first
     |(go_at_call 101;refine eW.o.mono ?_;rintro e W ⟨rfl,hW⟩;have bn:=eE.o.trans (hW.mono eE.o.size);have k3:=fS.o W bn;have dJ:=pw.o.stay hW;have c0:=dJ.cell 0;have c1:=dJ.cell 1;have c2:=dJ.cell 2;have c3:=dJ.cell 3;have c4:=dJ.cell 4;have c5:=dJ.cell 5;simp only[zY,xA]at c0 c1 c2 c3 c4 c5;replace⟨bn,k3⟩:=H2 bn k3;clear dJ hW)
     |(go_at_call 139;refine k3.o.mono ?_;rintro e W ⟨rfl,hW⟩;have dB:=Hd (bn.o.trans (hW.mono bn.o.size));clear hW))
    go_ret2;exact jm.mk ae.o dB.o
  .have ae:=Hd (qc.o gx hz (if_neg hz));have f1:=cM hz;have f2:=gL hz;replace hz:=Hd hz;go_wp2_with (first
    |(go_at_call 101;refine eW.o.mono ?_;rintro e W ⟨rfl,hW⟩;have bn:=Hd (eE.o.trans (hW.mono eE.o.size));clear hW))
   go_ret2;exact jm.mk ae.o bn.o
 .have g1:=jS j t.length;obtain rfl:j=t.length:=oQ;have ae:=Hd (qo hp.o);replace hI:=Hd hI;go_wp2;go_ret2;exact jm.mk ae.o.symm hI.o
end dR
