/- The query with the names in the end. -/
import Derived.Test.YtjbcbibkhalagaaGreatDoorP7
namespace Go.Proofs.YtjbcbibkhalagaaGreatDoor
set_option maxRecDepth 100000
set_option maxHeartbeats 16000000
open Proofs.Tryz Go.RowKit Go.Deep
set_option linter.unusedVariables false
set_option linter.unusedSimpArgs false
theorem to1 {S T q}(h:bB S T q q.wh=none):bK S T q=none:=by unfold bK;rw[h]
theorem to2 {S T q wh}(h:bB S T q q.wh=some wh)(h2:fT S T q q.ret=none):bK S T q=none:=by unfold bK;rw[h];simp only[h2]
theorem to3 {S T q wh rt}(h:bB S T q q.wh=some wh)(h2:fT S T q q.ret=some rt)(h3:q.au=emp):bK S T q=some {q with items:=q.items.map (wA S T),wh:=wh,ret:=rt}:=by unfold bK;rw[h];simp only[h2];rw[if_pos h3]
theorem to4 {S T q wh rt}(h:bB S T q q.wh=some wh)(h2:fT S T q q.ret=some rt)(h3:q.au≠emp)(h4:bJ S T (dP q) q.au=none):bK S T q=none:=by unfold bK;rw[h];simp only[h2];rw[if_neg h3,h4]
theorem to5 {S T q wh rt b}(h:bB S T q q.wh=some wh)(h2:fT S T q q.ret=some rt)(h3:q.au≠emp)(h4:bJ S T (dP q) q.au=some b):bK S T q=some {q with items:=q.items.map (wA S T),wh:=wh,ret:=rt,au:=b}:=by unfold bK;rw[h];simp only[h2];rw[if_neg h3,h4]
namespace di
open cH dR
theorem MN {w B gt g F A c S T nl q s}(h:TX w B gt g F A c S T nl q s)(hs:jE q)(mF:Cc q)(hS:iI S)(hT:T.length<=1048576)(sj:∀k∈T,k.fs.length<=1048576)(hit:∀t,t=q.wh\/t∈q.ret->∀x∈t,x.at_=emp\/∃it∈q.items,it.v=x.v):
  Cl 37 #[.pointer (some ⟨gt,0,none⟩)] w (lU (bK S T q) w):=by
 have Hs:=h;obtain⟨x0,x1,x2,x3,x4,x5,x6,x7,x8⟩:=h.cells;have qe:=h.bt.lt;have iT:=hs.il;have BQ:=hs.rl;have hits:=hs.it;have vB:=h.qr.lt;have wZ:=λj=>zU (AX q j) mF.ty
 have kx:=λW (hW:Bw w W)=>xW ((h.stay hW).cells.2.2.1) (xW ((h.stay hW).cells.2.2.2.2.2.1) ((h.stay hW).cells.2.2.2.2.2.2.2.2))
 have kn:=λW (hW:Bw w W) n=>FW (h.stay hW) hS hT n
 have ka:=λW (hW:Bw w W)(A5:Option Addr)(c5:Nat) ah a (h1:ah.length<=1048576) r=>vy (h.stay hW) hS hT sj A5 c5 (λb=>b<W.heap.size) ah a h1 (λb hb=>hb) r
 have kw:=λW (hW:Bw w W)=>sx (h.stay hW) hs hS hT sj s.a2 s.c2 F q.wh hs.wh.1 (h.stay hW).qr.r2 (hit q.wh (.inl rfl))
 have kt:=λW (hW:Bw w W)(A5:Option Addr)(c5:Nat) t (ht:t∈q.ret) r=>sx (h.stay hW) hs hS hT sj A5 c5 F t (hs.re t ht).1 r (hit t (.inr ht))
 have mP:=λW (hW:Bw w W)(i:Nat) it (hi:q.items[i]? =some it)=>eV (h.stay hW).qr.r1 hi
 have sk:=λW (hW:Bw w W)(i:Nat) t (hi:q.ret[i]? =some t)=>nM (h.stay hW).qr.r3 hi
 obtain⟨R0,ek⟩:=aB (bK S T q)
 rw[<-ek];have e1:bB S T q q.wh=none->R0=none:=λh=>by rw[ek];exact to1 h
 have e2:∀wh,bB S T q q.wh=some wh->fT S T q q.ret=none->R0=none:=λwh h h2=>by rw[ek];exact to2 h h2
 have e3:∀wh rt,bB S T q q.wh=some wh->fT S T q q.ret=some rt->q.au=emp->R0=some {q with items:=q.items.map (wA S T),wh:=wh,ret:=rt}:=λwh rt h h2 h3=>by rw[ek];exact to3 h h2 h3
 have e4:∀wh rt,bB S T q q.wh=some wh->fT S T q q.ret=some rt->q.au≠emp->bJ S T (dP q) q.au=none->R0=none:=λwh rt h h2 h3 h4=>by rw[ek];exact to4 h h2 h3 h4
 have e5:∀wh rt b,bB S T q q.wh=some wh->fT S T q q.ret=some rt->q.au≠emp->bJ S T (dP q) q.au=some b->R0=some {q with items:=q.items.map (wA S T),wh:=wh,ret:=rt,au:=b}:=λwh rt b h h2 h3 h4=>by rw[ek];exact to5 h h2 h3 h4
 clear ek;obtain⟨A1,c1,A2,c2,A3,c3⟩:=s;simp only at x2 x5 x8 kx kw;have hst:L1 w ((w.alloc (.cells ⟨lT⟩ 31)).alloc (.cells ⟨l8 q (.slice none 0 0) (.slice A2 q.wh.length c2) (.slice none 0 0) q.au⟩ 31)) S T q (.slice A2 q.wh.length c2) 0 (.slice none 0 0) (.slice none 0 0) []:=
  ⟨⟨(bA).alloc sJ _,(ao.new _ _ _).alloc _,ao.new' sJ⟩,RW.nil _ _ _,.nil _ _ _ _ _,λp hp=>by simp at hp,rfl⟩
 simp only[lT,l8]at hst;replace⟨Hs,hits,vB,wZ,kx,kn,ka,kw,kt,mP,sk,e1⟩:=uM Hs hits vB wZ kx kn ka kw kt mP sk e1;replace⟨e2,e3,e4,e5,hst⟩:=H5 e2 e3 e4 e5 hst;clear h hs hS hT sj mF hit;go_enter func37,ntmps37;go_wp2;clear x0 x1 x2 x3 x4 x5 x6 x7 x8;go_loopw [5,28] (λa i wr=>∃(j:Nat)(v1:Value)(l:List (It×Value)),j<=q.items.length/\i=.int .i64 j/\L1 w wr S T q (.slice A2 q.wh.length c2) j a v1 l) (λ_ i _=>q.items.length- (intOf i).toNat)
 .exact⟨0,.slice none 0 0,[],zE _,rfl,hst.o⟩
 clear hst;obtain⟨j,v1,l,hj,rfl,hL⟩:=hrel;obtain⟨Aa,ca,rfl⟩:=hL.al.form;obtain⟨Ai,ci,rfl⟩:=hL.it.kr.form;have hB:=hL.qs.hb;have rA:=hB.size;have yA:l.length<=q.items.length:=by
  have:=congrArg List.length hL.eq;rw[xC,xC,zO]at this;omega
 by_cases hlt:j<q.items.length
 .obtain⟨it,hi⟩:=av hlt;have uG:=zA hi;have BZ:=(hits.o it uG).1.1;obtain⟨gI,oI,A5,c5,eI,sg,uA,b0,b1,b2,b3,b4⟩:=mP.o w bR j it hi;try simp only at eI
  subst eI;have pA:=vB.o gI sg;have a0:=(hB.cell (p:=⟨gI,oI+j*5,none⟩) pA).trans b0;have a1:=(hB.cell (p:=⟨gI,oI+j*5+1,none⟩) pA).trans b1;have a2:=(hB.cell (p:=⟨gI,oI+j*5+2,none⟩) pA).trans b2;have a3:=(hB.cell (p:=⟨gI,oI+j*5+3,none⟩) pA).trans b3;have a4:=(hB.cell (p:=⟨gI,oI+j*5+4,none⟩) pA).trans b4;have rx:=uA.under hB vB.o;replace uA:=Hd uA;clear b0 b1 b2 b3 b4;have g0:=aH j;have g1:=aV j q.items.length;have hsm:=wZ.o (j+1);rw[AW hi,zH]at hsm;have hBI:Bw wr (wr.alloc (.cells ⟨dX it (.slice A5 it.ah.length c5)⟩ 60)):=bA;have J':=hL.stay hBI;have sd:=ao.new wr 60 (dX it (.slice A5 it.ah.length c5));have Vp:=rx.under hBI (λb hb=>zF (vB.o b hb) hB.size);have Hx:∀w1 v',(wr.alloc (.cells ⟨dX it (.slice A5 it.ah.length c5)⟩ 60)).grownBy w1 (Value.slice Aa (AT q j).length ca).ownBlock->OL w1 (w.heap.size+1+1) bE 9 1 v' ((AT q j).length+it.ah.length) ((AT q j).flatMap aG++it.ah.flatMap aG)->(v'.ownBlock=(Value.slice Aa (AT q j).length ca).ownBlock\/v'.ownBlock=some (wr.alloc (.cells ⟨dX it (.slice A5 it.ah.length c5)⟩ 60)).heap.size)->
    w1.cell? ⟨wr.heap.size,1,none⟩=some (.slice A5 it.ah.length c5)/\w1.frozen? ⟨wr.heap.size,1,none⟩=false/\wr.heap.size<w1.heap.size/\Hw w (w1.setCell ⟨wr.heap.size,1,none⟩ (.slice none 0 0)) (l8 q (.slice Ai l.length ci) (.slice A2 q.wh.length c2) (.slice none 0 0) q.au)/\RW KI (w1.setCell ⟨wr.heap.size,1,none⟩ (.slice none 0 0)) (w.heap.size+1+1) (.slice Ai l.length ci) l/\
    OL (w1.setCell ⟨wr.heap.size,1,none⟩ (.slice none 0 0)) (w.heap.size+1+1) bE 9 1 v' (AT q (j+1)).length ((AT q (j+1)).flatMap aG)/\(∀p∈l,p.2.ownBlock=none\/p.2.ownBlock≠v'.ownBlock)/\ao (w1.setCell ⟨wr.heap.size,1,none⟩ (.slice none 0 0)) wr.heap.size 60 [.bool it.neg,.slice none 0 0,.string it.v,.int .i64 it.lo,.int .i64 it.hi]:=λw1 v' hg hO ha=>by
   obtain⟨p1,p2,p3,p4⟩:=J'.all hi hg hO ha;have hne:some wr.heap.size≠(Value.slice Aa (AT q j).length ca).ownBlock:=λe=>by have:=(hL.al.lt _ e.symm).2;omega
   have ch:=sd.grown hg hne;have df:=hL.qs.b4.lt;have Dy:∀{e size n:Nat}{v:Value}{ds:List D},OL wr (w.heap.size+1+1) bE e size v n ds->v.ownBlock≠some wr.heap.size:=λho e=>by have:=(ho.lt _ e).2;omega
   have hv':v'.ownBlock≠some wr.heap.size:=λe=>by
    rcases ha with e2 |e2
    .rw[e2]at e;exact hne e.symm
    .rw[e2]at e;injection e with e;simp at e
   have hgs:w1.grownBy (w1.setCell ⟨wr.heap.size,1,none⟩ (.slice none 0 0)) (some wr.heap.size):=mR;refine⟨ch.cell 1,ch.frozen 1,ch.lt,p1.grown hgs (λq hq=>by injection hq with hq;omega),p2.kept hgs (.inr (Dy hL.it.kr)) (λp hp=>.inr (Dy (hL.it.fr p hp))),p3.kept hgs (.inr hv') (λ_ hb=>hb.elim),p4,?_⟩;have:=ch.dz 1 (.slice none 0 0);simpa[dX] using this
  have Et:=Hd J'.al;replace⟨Hx,Vp⟩:=H2 Hx Vp;have gp:=hL.qs.b4.lt;replace⟨uG,J'⟩:=H2 uG J';have xa:=Hd hL;clear hL sd;simp only[dX]at Vp Hx Et;obtain⟨wo,gU⟩:=aB wr
  subst gU;go_upto_region 10 with(at_builtin;refine ez rfl (.tmp 32) (.tmp 34) _ rfl (m:=it.ah.length) (news:=it.ah.flatMap aG) rm Et.o rfl rfl (Rd.Ie (fD.flatMap Rl it.ah) Vp.o) (MO it.ah) oQ oQ (by simp;omega) ?_;intro v' w1 ax aw bu;obtain⟨B3,d3,rfl⟩:=ax.form;obtain⟨z1,z2,z5,z3⟩:=Hx.o _ _ aw ax bu;replace z3:=Hd z3;clear ax aw bu)
  obtain⟨W2,Rm⟩:=aB (w1.setCell ⟨wo.heap.size,1,none⟩ (.slice none 0 0))
  rw[<-Rm]at z3 |-;have ia:w1.heap.size=W2.heap.size:=by rw[Rm];simp[World.setCell]
  have MP:Hid (IN W2 W2 wo.heap.size it 0 (it.ah.map (eZ S T)) (.slice none 0 0)):=⟨World.grownBy.refl _ _,z3.o.2.2.2.2,.nil _ _ _ _ _,oQ⟩;have oK:wo.heap.size<W2.heap.size:=oQ;clear z1 z2 a0 a1 a2 a3 a4 Et;replace⟨Rm,ia⟩:=H2 Rm ia;go_wp2;go_loopw [41] (λi wr=>∃(k:Nat)(u:Value),k<=it.ah.length/\i=.int .i64 k/\IN W2 wr wo.heap.size it k (it.ah.map (eZ S T)) u) (λi _=>it.ah.length- (intOf i).toNat)
  .exact⟨0,.slice none 0 0,zE _,rfl,MP.o⟩
  clear MP;obtain⟨k,u,hk,rfl,hI⟩:=hrel;obtain⟨Au,cu,rfl⟩:=hI.ou.form;have rO:=z3.o.1.grown hI.hg (λq hq=>by injection hq with hq;omega);have fy:=rO.hb;have Pb:=hI.bi.lt;have IZ:=hI.hg.size;by_cases s9:k<it.ah.length
  .obtain⟨n,hn⟩:=av s9;obtain⟨b5,o5,rfl,_,n0⟩:=dN (uA.o.under fy vB.o) hn;have p0:=aH k;have p1:=aV k it.ah.length;have Rn:(it.ah.map (eZ S T))[k]? =some (eZ S T n):=by rw[zG,hn];rfl
   have Y9:wr.cell? ⟨wo.heap.size,1,none⟩=some (.slice Au k cu):=hI.bi.cell 1;have Ht:=kn.o wr.drew fy.drew n;generalize eZ S T n=nm at Ht Rn;replace⟨Ht,Rn,hn,hI,rO,fy⟩:=H6 Ht Rn hn hI rO fy;go_upto_region 13 with fail
   clear n0;have ak:True/\wr.drew.cell? ⟨wo.heap.size,1,none⟩=some (.slice Au k cu):=⟨trivial,Y9⟩;refine aC (p:=6) (S0:=λ_=>True) (S1:=λW=>W.cell? ⟨wo.heap.size,1,none⟩=some (.slice Au k cu)) kQ ?_;refine' aq 0 rfl ak ?_;try simp only[Act.put,aK]
   refine' jM (i:=1) (v:=_) rfl dQ kQ kQ kQ rfl kQ kQ (λ_ _ _ h=>h) ak (.inl ⟨by first|(with_reducible rfl)|go_simp,?adH⟩) ?Vq
   case adH=>(intro W hW;(try dsimp only at hW);go_simp<;>with_reducible rfl)
   refine' aq 2 rfl ak ?_;refine' aq 3 rfl ak ?_;try simp only[Act.put,aK]
   refine Gs 4 rfl λK hK=>?_
   go_simp;go_at_call 62;refine Ht.o.mono ?_;rintro e W4 ⟨rfl,fI⟩;have np:=Hd ((hI.o.stay (bR).drew).stay fI);have hc4:W4.cell? ⟨wo.heap.size,1,none⟩=some (.slice Au k cu):=np.o.bi.cell 1;have adI:=np.o.bi.lt;have adJ:=np.o.hg.size;refine hK.o _ _ ⟨trivial,λ_=>hc4⟩ ?_;clear hK K ak fI;refine Gs 5 rfl λK hK=>?_
   go_simp;refine hK.o _ _ ⟨trivial,λ_=>(np.o.stay bA).bi.cell 1⟩ ?_;clear hK K;refine Gs 6 rfl λK hK=>?_
   refine dj (by rfl) (.tmp 46) (.tmp 50) _ (by rfl) (m:=1) (news:=aG nm) rm (by exact np.o.ou.alloc _) (by rfl) (by rfl) (by exact Src.lit (show fB W4 _ [.string nm] (aG nm)from⟨.v _ rfl,trivial⟩)) rfl oQ oQ (by simp;omega) ?_;intro v5 w5 iM qQ AY;obtain⟨B5,d5,rfl⟩:=iM.form;obtain⟨t1,t2,t3⟩:=np.o.put Rn.o qQ iM;replace t3:=Hd t3;refine hK.o _ _ ⟨trivial,λ_=>t1⟩ ?_;have Pg:True/\w5.cell? ⟨wo.heap.size,1,none⟩=some (.slice Au k cu):=⟨trivial,t1⟩;clear hK K iM qQ AY;refine' aq 7 rfl Pg ?_;try simp only[Act.put,aK]
   refine Gs 8 rfl λK hK=>?_
   go_simp;refine hK.o _ _ ⟨trivial,λh=>absurd (h.symm.trans (by kernel_rfl:_=true)) sJ⟩ ?_;clear hK K;refine Gd _ ?_;try simp only[Act.put,aK]
   go_wp2;go_roundw
   .exact⟨k+1,_,oQ,gQ,t3.o⟩
   exact mQ
  .obtain rfl:k=it.ah.length:=oQ;have Ro:=hI.ou;rw[xH sJ]at Ro;have j0:wr.cell? ⟨wo.heap.size,0,none⟩=some (.bool it.neg):=hI.bi.cell 0;have j1:wr.cell? ⟨wo.heap.size,1,none⟩=some (.slice Au it.ah.length cu):=hI.bi.cell 1;have j2:wr.cell? ⟨wo.heap.size,2,none⟩=some (.string it.v):=hI.bi.cell 2;have j3:wr.cell? ⟨wo.heap.size,3,none⟩=some (.int .i64 it.lo):=hI.bi.cell 3;have j4:wr.cell? ⟨wo.heap.size,4,none⟩=some (.int .i64 it.hi):=hI.bi.cell 4;have q0:wr.cell? ⟨w.heap.size+1,0,none⟩=some (.slice Ai l.length ci):=rO.b4.cell 0;have q0l:=rO.b4.lt;obtain⟨_,m1,m2,m3,m4⟩:=z3.o;have Dy:∀{e size n:Nat}{v:Value}{ds:List D},OL wo (w.heap.size+1+1) bE e size v n ds->v.ownBlock=none\/v.ownBlock≠some wo.heap.size:=λho=>.inr λe=>by have:=(ho.lt _ e).2;omega
   have Vr:RW KI wr (w.heap.size+1+1) (.slice Ai l.length ci) l:=m1.kept hI.hg (Dy xa.o.it.kr) (λp hp=>Dy (xa.o.it.fr p hp));have hAr:=m2.kept hI.hg (.inr (m2.aU m4 dQ)) (λ_ hb=>hb.elim);have hu:OL wr (w.heap.size+1+1) bE 9 1 (.slice Au it.ah.length cu) it.ah.length ((it.ah.map (eZ S T)).flatMap aG):=Ro.base oQ;have F1:∀qq,(Value.slice Au it.ah.length cu).ownBlock=some qq->(∀p∈l,p.2.ownBlock≠some qq)/\(Value.slice B3 ((AT q j).length+it.ah.length) d3).ownBlock≠some qq:=λqq hq=>by
    have h1:=(Ro.lt qq hq).1;exact⟨λp hp e=>by have:=((m1.fr p hp).lt qq e).2;omega,λe=>by have:=(m2.lt qq e).2;omega⟩
   have kG:=λw1 v' (hg:(wr.alloc (.cells ⟨[.bool it.neg,.slice Au it.ah.length cu,.string it.v,.int .i64 it.lo,.int .i64 it.hi]⟩ 60)).grownBy w1 (Value.slice Ai l.length ci).ownBlock)(hO:OL w1 (w.heap.size+1+1) bE 60 5 v' (l.length+1) (l.flatMap Ci++Ci (wA S T it,.slice Au it.ah.length cu)))=>L1.item rO Vr hAr m3 xa.o.eq hi hu F1 hg hO
   have kT:=Hd (Vr.kr.alloc (.cells ⟨[.bool it.neg,.slice Au it.ah.length cu,.string it.v,.int .i64 it.lo,.int .i64 it.hi]⟩ 60));replace kG:=Hd kG;clear Ro m1 m2 m3 m4 Vr hAr hu F1 hI rO;go_wp2_with (at_builtin;refine ez rfl (.tmp 55) (.tmp 57) _ rfl (m:=1) (news:=Ci (wA S T it,.slice Au it.ah.length cu)) Vn kT.o rfl rfl (Src.lit (MG wr _ (wA S T it) Au it.ah.length cu)) rfl oQ oQ (by simp;omega) ?_;intro v' w7 vD xb Zg;obtain⟨B7,d7,rfl⟩:=vD.form;obtain⟨t1,t2,t3⟩:=kG.o _ _ xb vD;replace t3:=Hd t3;clear vD xb Zg);go_roundw
   .exact⟨j+1,_,_,oQ,gQ,t3.o⟩
   exact mQ
 .obtain rfl:j=q.items.length:=oQ;rw[qG]at hL |-;obtain⟨y2,y5,y8⟩:=kx.o wr hB;have xc:=kw.o wr hB;have pW:=hL.eq;rw[zL]at pW;replace pW:=Hd pW;have XP:=wZ.o q.items.length;rw[qG]at XP;replace hL:=Hd hL;cases hA:bB S T q q.wh with
  |none=>
   have hR:=Hd (e1.o hA);rw[hA]at xc;replace⟨hA,xc⟩:=H2 hA xc;go_wp2_with (first
    |(go_at_call 63;refine xc.o.mono ?_;rintro e W6 ⟨v6,rfl,_,⟨A6,n6,c6,rfl⟩,mE⟩;simp only[Option.isSome_none];have iC:=hL.o.qs.stay mE;have s3:W6.cell? ⟨w.heap.size+1,3,none⟩=some (.slice A2 q.wh.length c2):=iC.b4.cell 3;have s4:=iC.b4.frozen 3;replace iC:=Hd (iC.put 3 (.slice A6 n6 c6));clear mE)
    |(refine ay (.store 31 (.tmp 2) (.tmp 74)) rfl ?_;refine eU rfl 31 (.tmp 2) (.tmp 74) rfl (cs':=lT) iC.o.b2 cB rfl rfl rfl rfl ?_;intro w8 eX eY))
   exact Kv rfl eX cB rfl rfl rfl (lU.no hR.o (iC.o.hb.grown eY iC.o.hb.size (λqq hq=>by injection hq with hq;omega)))
  |some Cj=>
   rw[hA]at xc;replace xc:=Hd xc;go_upto_region 21 with(go_at_call 63;refine xc.o.mono ?_;rintro e W6 ⟨v6,rfl,sP,⟨A6,n6,c6,rfl⟩,mE⟩;simp only[Option.isSome_some];have iC:=hL.o.qs.stay mE;have s3:W6.cell? ⟨w.heap.size+1,3,none⟩=some (.slice A2 q.wh.length c2):=iC.b4.cell 3;have s4:=iC.b4.frozen 3;have vE:=L2.of hL.o mE (sP Cj rfl);clear iC sP)
   have Ph:=Hd hA;obtain⟨W7,yl⟩:=aB (W6.setCell ⟨w.heap.size+1,3,none⟩ (.slice A6 n6 c6))
   rw[<-yl]at vE |-;clear y2 y5 y8 s3 s4 mE hA;obtain⟨y2,y5,y8⟩:=kx.o W7 vE.qs.hb;replace⟨yl,vE⟩:=H2 yl vE;go_wp2;go_loopw [81] (λi wr=>∃(kj:Nat)(v3:Value)(rl:List (List Nd×Value)),kj<=q.ret.length/\rl.length=kj/\i=.int .i64 kj/\L2 w wr q (.slice Aa (dP q).length ca) (.slice Ai l.length ci) (.slice A6 n6 c6) v3 l Cj rl/\Hid (fT S T q q.ret=(fT S T q (q.ret.drop kj)).map (rl.map (·.1)++ ·))) (λi _=>q.ret.length- (intOf i).toNat)
   .exact⟨0,.slice none 0 0,[],zE _,rfl,rfl,vE.o,by show _=_;simp⟩
   clear vE y2 y5 y8;obtain⟨kj,v3,rl,hkj,jN,rfl,hM,MQ⟩:=hrel;obtain⟨Ar,cr,rfl⟩:=hM.oq.r.kr.form;have fy:=hM.qs.hb;have Cw:=fy.size;by_cases tY:kj<q.ret.length
   .obtain⟨t,ht⟩:=av tY;have nj:=zA ht;obtain⟨gR,oR,At,ct,eR,_,rt,r0⟩:=sk.o wr fy kj t ht;try simp only at eR
    subst eR;have p0:=aH kj;have p1:=aV kj q.ret.length;have rE:=kt.o wr fy At ct t nj rt;replace jN:=Hd jN;cases hA3:bB S T q t with
    |none=>
     rw[hA3]at rE;have hR:=Hd (e2.o Cj Ph.o (ML ht hA3 MQ.o));replace⟨rE,hA3,ht,nj,rt,hM⟩:=H6 rE hA3 ht nj rt hM;go_wp2_with (first
      |(go_at_call 63;refine rE.o.mono ?_;rintro e W8 ⟨v8,rfl,_,⟨A8,n8,c8,rfl⟩,uC⟩;simp only[Option.isSome_none];have iC:=Hd (hM.o.qs.stay uC);clear uC)
      |(refine ay (.store 31 (.tmp 2) (.tmp 93)) rfl ?_;refine eU rfl 31 (.tmp 2) (.tmp 93) rfl (cs':=lT) iC.o.b2 cB rfl rfl rfl rfl ?_;intro w8 eX eY))
     exact Kv rfl eX cB rfl rfl rfl (lU.no hR.o (iC.o.hb.grown eY iC.o.hb.size (λqq hq=>by injection hq with hq;omega)))
    |some t'=>
     rw[hA3]at rE;have hst:=Hd (MK ht hA3 MQ.o);replace⟨rE,hA3,ht,nj,rt,hM⟩:=H6 rE hA3 ht nj rt hM;go_wp2_with (first
      |(go_at_call 63;refine rE.o.mono ?_;rintro e W8 ⟨v8,rfl,Jn,⟨A8,n8,c8,rfl⟩,uC⟩;simp only[Option.isSome_some];have yE:=hM.o.stay uC;have q6:W8.cell? ⟨w.heap.size+1,6,none⟩=some (.slice Ar rl.length cr):=yE.qs.b4.cell 6;have q6l:=yE.qs.b4.lt;have EC:=Jn t' rfl;have eX:=yE.qs.hb.size;have kH:=λw1 v' (hg:(W8.alloc (.cells ⟨[.slice A8 n8 c8]⟩ 28)).grownBy w1 (Value.slice Ar rl.length cr).ownBlock) hO=>L2.put (t:=t') (u:=.slice A8 n8 c8) (b:=wr.heap.size) (v3':=v') yE (EC.alloc (.cells ⟨[.slice A8 n8 c8]⟩ 28)) (λqq hq=>⟨λp hp e=>(by have h1:=(EC.lt qq hq).1;have h2:=((hM.o.oq.r.fr p hp).lt qq e).2;omega),λe=>(by have h1:=(EC.lt qq hq).1;have h2:=(hM.o.oq.wr.lt qq e).2;omega)⟩) (by have:=hM.o.qs.b4.lt;omega) hg hO;have kT:=Hd (yE.oq.r.kr.alloc (.cells ⟨[.slice A8 n8 c8]⟩ 28));replace kH:=Hd kH;clear uC yE Jn EC)
      |(at_builtin;refine ez rfl (.tmp 95) (.tmp 97) _ rfl (m:=1) (news:=J8 (t',.slice A8 n8 c8)) Vo kT.o rfl rfl (Src.lit (MH W8 _ t' A8 n8 c8)) rfl (by have:=jN.o;omega) oQ (by simp;omega) ?_;intro v' w9 EC Tm Zh;obtain⟨B9,d9,rfl⟩:=EC.form;obtain⟨t1,t2,t3⟩:=kH.o _ _ Tm EC;replace t3:=Hd t3;clear EC Tm Zh))
     go_roundw
     .exact⟨kj+1,_,rl++[(t',.slice A8 n8 c8)],oQ,by rw[zH,jN.o];rfl,gQ,t3.o,by show _=_;rw[hst.o];simp⟩
     exact mQ
   .obtain rfl:kj=q.ret.length:=oQ;have iA:fT S T q q.ret=some (rl.map (·.1)):=by rw[MQ.o,List.drop_length];simp[fT]
    have b0:wr.cell? ⟨w.heap.size+1,0,none⟩=some (.slice Ai l.length ci):=hM.qs.b4.cell 0;have b1:wr.cell? ⟨w.heap.size+1,1,none⟩=some (.int .i64 q.mode):=hM.qs.b4.cell 1;have b2:wr.cell? ⟨w.heap.size+1,2,none⟩=some (.int .i64 q.after):=hM.qs.b4.cell 2;have b3:wr.cell? ⟨w.heap.size+1,3,none⟩=some (.slice A6 n6 c6):=hM.qs.b4.cell 3;have b4:wr.cell? ⟨w.heap.size+1,4,none⟩=some (.int .i64 q.within):=hM.qs.b4.cell 4;have b5:wr.cell? ⟨w.heap.size+1,5,none⟩=some (.string q.au):=hM.qs.b4.cell 5;have b6:wr.cell? ⟨w.heap.size+1,6,none⟩=some (.slice Ar rl.length cr):=hM.qs.b4.cell 6;by_cases ju:q.au=emp
    .have f1:(q.au.toList==([]:List UInt8))=true:=(by rw[aN];exact zW ju);have f2:(q.au.toList != ([]:List UInt8))=false:=by rw[bne,f1];rfl
     have f3:q.au.toList.isEmpty=true:=(by rw[ju,show emp.toList=[] by rw[ByteArray.toList_eq];rfl];rfl);have hR:=Hd (e3.o Cj _ Ph.o iA ju);replace⟨ju,iA,jN,hM⟩:=H4 ju iA jN hM;go_wp2_with (refine ay (.store 31 (.tmp 2) (.tmp 116)) rfl ?_;refine eU rfl 31 (.tmp 2) (.tmp 116) rfl (cs':=l8 q (.slice Ai l.length ci) (.slice A6 n6 c6) (.slice Ar rl.length cr) q.au) hM.o.qs.b2 cB rfl rfl rfl rfl ?_;intro w8 eX eY);exact Kv rfl eX cB rfl rfl rfl (lU.yes (q:={q with items:=q.items.map (wA S T),wh:=Cj,ret:=rl.map (·.1)}) hR.o ((hM.o.oq.under eY (show w.heap.size<w.heap.size+1+1 by omega)).base oQ) pW.o rfl (hM.o.qs.hb.grown eY hM.o.qs.hb.size (λqq hq=>by injection hq with hq;omega)))
    .have f1:(q.au.toList==([]:List UInt8))=false:=(by rw[aN];exact zV ju);have f2:(q.au.toList != ([]:List UInt8))=true:=by rw[bne,f1];rfl
     have f3:q.au.toList.isEmpty=false:=by
      cases ho:q.au.toList with
      |nil=>rw[ho]at f1;simp at f1
      |cons=>rfl
     have Tn:=ka.o wr fy Aa ca (dP q) q.au oQ (hM.al.rd (λb hb _=>hb.elim) (λb _ hb=>hb));cases hA4:bJ S T (dP q) q.au with
     |none=>
      rw[hA4]at Tn;have hR:=Hd (e4.o Cj _ Ph.o iA ju hA4);replace⟨Tn,hA4,ju,iA,jN,hM⟩:=H6 Tn hA4 ju iA jN hM;go_wp2_with (first
       |(go_at_call 64;refine Tn.o.mono ?_;rintro e W8 ⟨rfl,uC⟩;simp only[Option.isSome_none,Option.getD_none];have iC:=hM.o.qs.stay uC;have s3:W8.cell? ⟨w.heap.size+1,5,none⟩=some (.string q.au):=iC.b4.cell 5;have s4:=iC.b4.frozen 5;replace iC:=Hd (iC.put 5 (.string emp));clear uC b0 b1 b2 b3 b4 b5 b6)
       |(refine ay (.store 31 (.tmp 2) (.tmp 115)) rfl ?_;refine eU rfl 31 (.tmp 2) (.tmp 115) rfl (cs':=lT) iC.o.b2 cB rfl rfl rfl rfl ?_;intro w8 eX eY))
      exact Kv rfl eX cB rfl rfl rfl (lU.no hR.o (iC.o.hb.grown eY iC.o.hb.size (λqq hq=>by injection hq with hq;omega)))
     |some b=>
      rw[hA4]at Tn;have hR:=Hd (e5.o Cj _ b Ph.o iA ju hA4);replace⟨Tn,hA4,ju,iA,jN,hM⟩:=H6 Tn hA4 ju iA jN hM;go_wp2_with (first
       |(go_at_call 64;refine Tn.o.mono ?_;rintro e W8 ⟨rfl,uC⟩;simp only[Option.isSome_some,Option.getD_some];have iC:=hM.o.qs.stay uC;have hoq:=Hd (OQ.far (x:=.string b) (p:=⟨w.heap.size+1,5,none⟩) (hM.o.stay uC).oq (by show w.heap.size+1<_;omega));clear b0 b1 b2 b3 b4 b5 b6;have s5:W8.cell? ⟨w.heap.size+1,5,none⟩=some (.string q.au):=iC.b4.cell 5;have s4:=iC.b4.frozen 5;have b0:W8.cell? ⟨w.heap.size+1,0,none⟩=some (.slice Ai l.length ci):=iC.b4.cell 0;have b1:W8.cell? ⟨w.heap.size+1,1,none⟩=some (.int .i64 q.mode):=iC.b4.cell 1;have b2:W8.cell? ⟨w.heap.size+1,2,none⟩=some (.int .i64 q.after):=iC.b4.cell 2;have b3:W8.cell? ⟨w.heap.size+1,3,none⟩=some (.slice A6 n6 c6):=iC.b4.cell 3;have b4:W8.cell? ⟨w.heap.size+1,4,none⟩=some (.int .i64 q.within):=iC.b4.cell 4;have b6:W8.cell? ⟨w.heap.size+1,6,none⟩=some (.slice Ar rl.length cr):=iC.b4.cell 6;replace iC:=Hd (iC.put 5 (.string b));clear uC)
       |(refine ay (.store 31 (.tmp 2) (.tmp 116)) rfl ?_;refine eU rfl 31 (.tmp 2) (.tmp 116) rfl (cs':=l8 q (.slice Ai l.length ci) (.slice A6 n6 c6) (.slice Ar rl.length cr) b) iC.o.b2 cB rfl rfl rfl rfl ?_;intro w8 eX eY))
      exact Kv rfl eX cB rfl rfl rfl (lU.yes (q:={q with items:=q.items.map (wA S T),wh:=Cj,ret:=rl.map (·.1),au:=b}) hR.o ((hoq.o.under eY (show w.heap.size<w.heap.size+1+1 by omega)).base oQ) pW.o rfl (iC.o.hb.grown eY iC.o.hb.size (λqq hq=>by injection hq with hq;omega)))
end di
