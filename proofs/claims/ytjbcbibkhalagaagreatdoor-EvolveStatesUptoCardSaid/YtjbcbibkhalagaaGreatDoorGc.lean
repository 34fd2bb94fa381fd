/- The program's results and Check. -/
import Derived.Test.YtjbcbibkhalagaaGreatDoorGb
namespace Go.Proofs.YtjbcbibkhalagaaGreatDoor
set_option maxRecDepth 100000
set_option maxHeartbeats 16000000
open Proofs.Tryz Go.RowKit Go.Deep Go.Maps
set_option linter.unusedVariables false
set_option linter.unusedSimpArgs false
def uY (l:List Td)(q:Qy)(t:List Nd):Int:=fz [fC l q t true,if aE t=true then 75 else 0]
theorem IP {l q}(h:8<q.ret.length):mq l q=78:=if_pos h
theorem Qi {l q}(h:¬8<q.ret.length){j t c}(hx:q.ret[j]? =some t)(ha:∀(i:Nat) y,q.ret[i]? =some y->i<j->uY l q y=0)(hc:uY l q t=c)(hne:c≠0):mq l q=c:=by
 unfold mq;rw[if_neg h];have:=sK (g:=uY l q) hx ha (by rw[hc];exact hne);rw[hc]at this;exact this
theorem Li {l q}(h:¬8<q.ret.length)(ha:∀(i:Nat) y,q.ret[i]? =some y->i<q.ret.length->uY l q y=0):mq l q=0:=by
 unfold mq;rw[if_neg h];exact qo (g:=uY l q) ha
theorem IQ {t}(h:aE t=true):0<t.length:=by
 unfold aE at h;by_cases h0:0<t.length
 .exact h0
 .rw[zV h0]at h;cases h
structure CB (l:List Td)(A:Option Addr)(c:Nat)(q:Qy)(s:fV)(w wr:World):Prop where
 sq:SQ l A c q s w wr
 b2:ao wr (w.heap.size+1+1) 99 (jH 0 0 0 0)
section
variable {l:List Td}{A:Option Addr}{c:Nat}{q:Qy}{s:fV}{w wr W w1:World}
theorem CB.stay (h:CB l A c q s w wr)(hb:Bw wr W):CB l A c q s w W:=⟨h.sq.stay hb,h.b2.stay hb⟩
theorem CB.new (l A c q s w):CB l A c q s w (((w.alloc (.cells ⟨[.slice A l.length c]⟩ 24)).alloc (.cells ⟨qV q s⟩ 31)).alloc (.cells ⟨jH 0 0 0 0⟩ 99)):=
 ⟨(SQ.new l A c q s w).stay bA,ao.new' sJ⟩
theorem CB.fin (h:CB l A c q s w wr)(hg:wr.grownBy w1 (some (w.heap.size+1+1))):Bw w w1:=h.sq.hb.grown hg h.sq.hb.size (λq hq=>by injection hq with hq;omega)
end
section
variable {sc:Int}{l:List Td}{q:Qy}
theorem ck1 (h:sc≠0):bf sc l q=sc:=by unfold bf;unfold fz;exact if_neg h
theorem ck2 (h:aL q=false):bf 0 l q=50:=by unfold bf;simp[fz,h]
theorem ck3 (h:aL q=true)(h2:bM l q≠0):bf 0 l q=bM l q:=by unfold bf;simp[fz,h,h2]
theorem ck4 (h:aL q=true)(h2:bM l q=0)(h3:cA l q≠0):bf 0 l q=cA l q:=by unfold bf;simp[fz,h,h2,h3]
theorem ck5 (h:aL q=true)(h2:bM l q=0)(h3:cA l q=0)(h4:1099511627776<q.within):bf 0 l q=66:=by unfold bf ll;simp[fz,h,h2,h3,h4]
theorem ck6 (h:aL q=true)(h2:bM l q=0)(h3:cA l q=0)(h4:¬1099511627776<q.within)(h5:mj l q=67):bf 0 l q=67:=by unfold bf ll;rw[if_neg h4];simp[fz,h,h2,h3,h5]
theorem ck7 (h:aL q=true)(h2:bM l q=0)(h3:cA l q=0)(h4:¬1099511627776<q.within)(h5:mj l q=0):bf 0 l q=mq l q:=by
 unfold bf ll;rw[if_neg h4];simp only[fz,h,h2,h3,h5];by_cases hr:mq l q=0<;>simp[hr]
end
theorem mC {q}(h:aL q=true):(q.wh=[]\/aW q.wh=true)/\∀t∈q.ret,aW t=true:=by
 unfold aL at h;simp only[xK,Bool.or_eq_true,decide_eq_true_eq]at h;obtain⟨_,_,_,_,_,_,_,h2,_,h3⟩:=h;exact⟨h2.imp (λe=>List.eq_nil_of_length_eq_zero e) id,λt ht=>xP.1 h3 t ht⟩
namespace dR
open cH
theorem IU {A c F l q s bs bq bv m}(hl:iI l)(hs:jE q)(rD:∀t∈q.ret,aW t=true){w}(h:AB l A c q s F bs bq bv m w):
  Cl 59 #[.agg ⟨qV q s⟩,sN bs bq bv] w (bN (mq l q) w):=by
 have h0:=WB.new q s bs bq bv w;have hA0:=h.stay (show Bw w _ from h0.hb);obtain⟨y0,y1,y2,y3,y4,y5,y6⟩:=nU h0.b0;have z1:=h0.b1.cell 0;obtain⟨b,hc⟩:=aB (mq l q)
 rw[<-hc];by_cases h8:8<q.ret.length
 .have ae:(78:Int)=b:=by rw[hc,IP h8]
  have f0:(8:Int)<q.ret.length:=oQ;obtain⟨A1,c1,A2,c2,A3,c3⟩:=s;simp only[qV,sN,jH,zY]at h0 y6 z1 |-;replace⟨h0,ae⟩:=H2 h0 ae;clear hc h hA0 hs rD h8 y0 y1 y2 y3 y4 y5;go_enter func59,ntmps59;go_wp2_with (refine ay (.store 99 (.tmp 4) (.tmp 13)) rfl ?_;refine eU rfl 99 (.tmp 4) (.tmp 13) rfl (cs':=jH 78 5 8 0) h0.o.b2 aZ rfl rfl rfl rfl ?_;intro w1 cL aw);exact l5 rfl cL aZ rfl rfl (bN.mk ae.o (λh=>by have:=ae.o;omega) (h0.o.fin aw))
 have f0:¬(8:Int)<q.ret.length:=oQ;obtain⟨W0,cg⟩:=aB (((w.alloc (.cells ⟨qV q s⟩ 31)).alloc (.cells ⟨[sN bs bq bv]⟩ 137)).alloc (.cells ⟨jH 0 0 0 0⟩ 99))
 rw[<-cg]at h0 hA0 y0 y1 y2 y3 y4 y5 y6 z1;have kw:∀(W:World)(t:List Nd) A' c',t∈q.ret->Bw W0 W->Rd W F (.slice A' t.length c') (.sl t.length (t.flatMap b9))->Cl 94 #[.slice A' t.length c',.func (.func 101) #[] #[.pointer (some ⟨w.heap.size+1,0,none⟩)]] W (jm t (j6 l q true) W):=λW t A' c' ht hW rd=>by
  have jX:=j8 (rD t ht);exact Ff A' c' F t (j6 l q true) (w.heap.size+1) (hs.re t ht).1 (λx hx=>⟨(jX x hx).1.2,(jX x hx).2.2⟩) W (hA0.qr.under hW).lt rd λx hx W2 aX=>IJ hl hs x ((hs.re t ht).2 x hx).1 (hA0.stay (hW.trans (aX.mono hW.size))) (h0.b1.stay (hW.trans (aX.mono hW.size)))
 have kt:∀(W:World)(t:List Nd) A' c',t∈q.ret->Rd W F (.slice A' t.length c') (.sl t.length (t.flatMap b9))->Cl 96 #[.slice A' t.length c'] W λe w'=>e=.returned (.bool (aE t))/\w'=W:=λW t A' c' ht rd=>yb A' c' F t (hs.re t ht).1 W rd
 have hrt:=hs.re;have BQ:=hs.rl;have hQ:=hA0.qr;obtain⟨A1,c1,A2,c2,A3,c3⟩:=s;simp only[qV,sN,jH,zY]at h0 cg y6 z1 |-;have qd:=Hd cg;replace⟨h0,kw,kt,hrt,hQ,hc⟩:=H6 h0 kw kt hrt hQ hc;have Ui:=Hd h8;clear h hA0 hs rD cg y0 y1 y2 y3 y4 y5 h8;have CV:=tS
 go_enter func59,ntmps59;go_upto_region 1 with fail
 rw[<-qd.o];go_wp2;clear y6 z1;go_loopw [17] (λi wr=>∃j:Nat,j<=q.ret.length/\i=.int .i64 j/\Bw W0 wr/\Hid (∀(i:Nat) y,q.ret[i]? =some y->i<j->uY l q y=0)) (λi _=>q.ret.length- (intOf i).toNat)
 .exact⟨0,zE _,rfl,bR,λi y hy hi=>by omega⟩
 obtain⟨j,hj,rfl,hB,hp⟩:=hrel;have h3:=h0.o.stay hB;by_cases hlt:j<q.ret.length
 .obtain⟨t,ht⟩:=av hlt;have nj:=zA ht;obtain⟨g,off,B2,d2,e,_,rx,a0⟩:=nM (hQ.o.under hB).r3 ht;simp only at e;subst e;have g1:=aH j;have g2:=aV j q.ret.length;have BZ:=(hrt.o t nj).1;have kw':=kw.o wr t B2 d2 nj hB rx;have kt':∀W,Bw wr W->_:=λW hW=>kt.o W t B2 d2 nj (rx.under hW (λb hb=>zF (hQ.o.lt b hb) hB.size))
  have qc:∀c:Int,uY l q t=c->c≠0->b=c:=λc h1 h2=>by rw[hc.o];exact Qi Ui.o ht hp.o h1 h2
  have mB:uY l q t=0->∀(i:Nat) y,q.ret[i]? =some y->i<j+1->uY l q y=0:=λh i y hy hi=>by
   by_cases e:i=j
   .subst e;obtain rfl:t=y:=by rw[hy]at ht;exact(eO ht).symm
    exact h
   .exact hp.o i y hy oQ
  have lN:=λh=>IQ (t:=t) h
  unfold uY at qc mB;rw[fz2]at qc;rw[show fz [fC l q t true,if aE t=true then 75 else 0]=if fC l q t true=0 then(if aE t=true then 75 else 0)else fC l q t true from fz2 _ _]at mB;generalize aE t=tb at*;replace⟨h3,kw',kt',qc,mB,lN,hB,ht,rx⟩:=H9 h3 kw' kt' qc mB lN hB ht rx;go_upto_region 7 with(go_at_call 94;refine kw'.o.mono ?_;rintro e W1 ⟨i,cv,rfl,hcv,a9⟩;replace hcv:=Hd (show cv=fC l q t true from hcv))
  have h4:=Hd (h3.o.stay a9);have k3:=Hd (kt'.o W1 a9);replace a9:=Hd a9;clear a0;by_cases fH:cv=0
  .subst fH;cases tb with
   |true=>
    have ae:=Hd (qc.o 75 (by rw[<-hcv.o];rfl) dQ);have hp0:=lN.o rfl;go_wp2_with (first
     |(go_at_call 96;refine k3.o.mono ?_;rintro e W2 ⟨rfl,aX⟩;subst W2)
     |(refine ay (.store 99 (.tmp 4) (.tmp 42)) rfl ?_;refine eU rfl 99 (.tmp 4) (.tmp 42) rfl (cs':=jH 75 5 j ((t.length:Int) -1)) h4.o.b2 aZ rfl rfl rfl rfl ?_;intro w1 cL aw))
    exact l5 rfl cL aZ rfl rfl (bN.mk ae.o.symm (λh=>by have:=ae.o;omega) (h4.o.fin aw))
   |false=>
    have ej:Hid (∀(i:Nat) y,q.ret[i]? =some y->i<j+1->uY l q y=0):=mB.o (by rw[<-hcv.o];rfl);go_wp2_with (go_at_call 96;refine k3.o.mono ?_;rintro e W2 ⟨rfl,aX⟩;subst W2);go_roundw
    .exact⟨j+1,oQ,gQ,hB.o.trans (a9.o.mono hB.o.size),ej⟩
    exact mQ
  .have ae:=Hd (qc.o cv (by rw[<-hcv.o];exact if_neg fH) fH);have f1:=cM fH;have f2:=gL fH;have sa:=Hd fH;clear fH;go_wp2_with (refine ay (.store 99 (.tmp 4) (.tmp 42)) rfl ?_;refine eU rfl 99 (.tmp 4) (.tmp 42) rfl (cs':=jH cv 5 j i) h4.o.b2 aZ rfl rfl rfl rfl ?_;intro w1 cL aw);exact l5 rfl cL aZ rfl rfl (bN.mk ae.o.symm (λh=>absurd (ae.o.symm.trans h) sa.o) (h4.o.fin aw))
 .have g1:=jS j q.ret.length;obtain rfl:j=q.ret.length:=oQ;have ae:(0:Int)=b:=by rw[hc.o,Li Ui.o hp.o]
  replace⟨ae,h3⟩:=H2 ae h3;go_wp2_with (refine ay (.store 99 (.tmp 4) (.tmp 44)) rfl ?_;refine eU rfl 99 (.tmp 4) (.tmp 44) rfl (cs':=jH 0 0 0 0) h3.o.b2 aZ rfl rfl rfl rfl ?_;intro w1 cL aw);exact l5 rfl cL aZ rfl rfl (bN.mk ae.o (λh=>⟨rfl,rfl,rfl⟩) (h3.o.fin aw))
theorem Qj (A c F l q s)(hl:iI l)(hs:jE q)(w)(hK:cW w)(R:QR w F q s)(r:Rd w F (.slice A l.length c) (.sl l.length (l.flatMap fj))):
  Cl 35 #[.agg ⟨[.slice A l.length c]⟩,.agg ⟨qV q s⟩] w (bN (bf (dy l) l q) w):=by
 have h0:=CB.new l A c q s w;obtain⟨y0,y1,y2,y3,y4,y5,y6⟩:=nU h0.sq.b1;have x0:=h0.sq.b0.cell 0;obtain⟨W0,cg⟩:=aB (((w.alloc (.cells ⟨[.slice A l.length c]⟩ 24)).alloc (.cells ⟨qV q s⟩ 31)).alloc (.cells ⟨jH 0 0 0 0⟩ 99))
 rw[<-cg]at h0 y0 y1 y2 y3 y4 y5 y6 x0;have bL:=h0.sq.hb;have wQ:∀W,Bw W0 W->Bw w W:=λW hW=>bL.trans (hW.mono bL.size)
 have cells:∀W,Bw W0 W->CB l A c q s w W:=λW hW=>h0.stay hW
 have k1:Cl 38 #[.agg #[.slice A l.length c]] W0 λe w'=>e=.returned (.int .i64 (dy l))/\Bw W0 w':=iL A c F l hl W0 (hK.stay bL) (R.under bL).lt (r.under bL R.lt)
 have k2:∀W,Bw W0 W->Cl 52 #[.agg ⟨qV q s⟩] W λe w'=>e=.returned (.bool (aL q))/\Bw W w':=λW hW=>KW q s F hs W (hK.stay (wQ W hW)) (R.under (wQ W hW))
 have k3:∀W,Bw W0 W->Cl 53 #[.agg ⟨[.slice A l.length c]⟩,.agg ⟨qV q s⟩] W (bN (bM l q) W):=λW hW=>PU A c F l q s hl hs W (R.under (wQ W hW)).lt (r.under (wQ W hW) R.lt) (R.under (wQ W hW))
 have k4:∀W,Bw W0 W->Cl 54 #[.agg ⟨qV q s⟩] W λe w'=>e=.returned (.map (some (W.heap.size+1)))/\(∃f,cV 9 w' (W.heap.size+1) q.items.length f/\ni (lZ q) f)/\Bw W w':=λW hW=>CS q s F hs.il (λx hx=>(hs.it x hx).2) W (R.under (wQ W hW)).lt (R.under (wQ W hW)).r1
 have kA:∀W m,Bw W0 W->(∃f,cV 9 W m q.items.length f/\ni (lZ q) f)->AB l A c q s F w.heap.size (w.heap.size+1) W.heap.size m (W.alloc (.cells ⟨[.map (some m)]⟩ 134)):=λW m hW hm=>by
  have hC:=(cells W hW).stay (bX (.cells ⟨[.map (some m)]⟩ 134));obtain⟨f,h1,h2⟩:=hm;exact⟨hC.sq.b0,hC.sq.b1,ao.new _ _ _,⟨f,h1.stay bA,h2⟩,(r.under (wQ W hW) R.lt).alloc _,R.under ((wQ W hW).trans ((bA).mono (wQ W hW).size))⟩
 have k5:aL q=true->∀bv m W,Bw W0 W->AB l A c q s F w.heap.size (w.heap.size+1) bv m W->Cl 57 #[.agg ⟨qV q s⟩,sN w.heap.size (w.heap.size+1) bv] W (bN (cA l q) W):=λrD bv m W hW hA=>Qg hl hs (mC rD).1 (hK.stay (wQ W hW)) hA
 have k6:∀W,Bw W0 W->Cl 58 #[.agg ⟨[.slice A l.length c]⟩,.agg ⟨qV q s⟩] W λe w'=>e=.returned (.bool (mh l q))/\Bw W w':=λW hW=>Fc A c F l q s hl hs W (R.under (wQ W hW)).lt (r.under (wQ W hW) R.lt) (R.under (wQ W hW))
 have k7:aL q=true->∀bv m W,AB l A c q s F w.heap.size (w.heap.size+1) bv m W->Cl 59 #[.agg ⟨qV q s⟩,sN w.heap.size (w.heap.size+1) bv] W (bN (mq l q) W):=λrD bv m W hA=>IU hl hs (mC rD).2 hA
 obtain⟨b,hc⟩:=aB (bf (dy l) l q)
 rw[<-hc];generalize dy l=sc at*;have e1:sc≠0->b=sc:=λh=>by rw[hc,ck1 h]
 have e2:sc=0->aL q=false->b=50:=λh h2=>by rw[hc,h,ck2 h2]
 have e3:sc=0->aL q=true->bM l q≠0->b=bM l q:=λh h2 h3=>by rw[hc,h,ck3 h2 h3]
 have e4:sc=0->aL q=true->bM l q=0->cA l q≠0->b=cA l q:=λh h2 h3 h4=>by rw[hc,h,ck4 h2 h3 h4]
 have e5:sc=0->aL q=true->bM l q=0->cA l q=0->1099511627776<q.within->b=66:=λh h2 h3 h4 h5=>by rw[hc,h,ck5 h2 h3 h4 h5]
 have e6:sc=0->aL q=true->bM l q=0->cA l q=0->¬1099511627776<q.within->q.au≠emp->mh l q=false->b=67:=λh h2 h3 h4 h5 h6 h7=>by rw[hc,h,ck6 h2 h3 h4 h5 (by unfold mj;rw[if_neg h6,h7];rfl)]
 have e7:sc=0->aL q=true->bM l q=0->cA l q=0->¬1099511627776<q.within->(q.au=emp\/mh l q=true)->b=mq l q:=λh h2 h3 h4 h5 h6=>by
  rw[hc,h,ck7 h2 h3 h4 h5];unfold mj;by_cases hb:q.au=emp
  .rw[if_pos hb]
  .rw[if_neg hb,if_pos (h6.resolve_left hb)]
 clear hc;generalize bM l q=ic at*;generalize cA l q=wc0 at*;generalize mq l q=rc at*;generalize aL q=sb at*;generalize mh l q=pb at*;obtain⟨A1,c1,A2,c2,A3,c3⟩:=s;simp only[qV,sN,jH,zY]at cg y0 y1 y2 y3 y4 y5 y6 x0 k2 k3 k4 k5 k6 k7 |-;have qd:=Hd cg;replace⟨cells,k1,k2,k3,k4,k5,k6,k7,kA,e1,e2,e3⟩:=uM cells k1 k2 k3 k4 k5 k6 k7 kA e1 e2 e3;replace⟨e4,e5,e6,e7⟩:=H4 e4 e5 e6 e7;clear hl hs hK R r h0 wQ cg bL;have CV:=tS
 go_enter func35,ntmps35;go_upto_region 1 with fail
 rw[<-qd.o];go_upto_region 2 with(go_at_call 38;refine k1.o.mono ?_;rintro e W1 ⟨rfl,a9⟩)
 clear x0 y0 y1 y2 y3 y4 y5 y6;have Eu:=cells.o W1 a9;obtain⟨y0,y1,y2,y3,y4,y5,y6⟩:=nU Eu.sq.b1;have x0:=Eu.sq.b0.cell 0;simp only[zY]at x0 y0 y3 y6;replace Eu:=Hd Eu;have fS:=Hd (k2.o W1 a9);by_cases gp:sc=0
 case neg=>
  have ae:=Hd (e1.o gp);have f1:=cM gp;have f2:=gL gp;have sa:=Hd gp;replace a9:=Hd a9;clear gp x0 y0 y1 y2 y3 y4 y5 y6;go_wp2_with (refine ay (.store 99 (.tmp 4) (.tmp 15)) rfl ?_;refine eU rfl 99 (.tmp 4) (.tmp 15) rfl (cs':=jH sc 0 0 0) Eu.o.b2 aZ rfl rfl rfl rfl ?_;intro w1 cL aw);exact l5 rfl cL aZ rfl rfl (bN.mk ae.o.symm (λh=>⟨rfl,rfl,rfl⟩) (Eu.o.fin aw))
 subst gp;replace a9:=Hd a9;cases sb with
 |false=>
  have ae:=Hd (e2.o (by trivial) (by trivial));go_wp2_with (first
   |(go_at_call 52;refine fS.o.mono ?_;rintro e W2 ⟨rfl,aX⟩;have se:=Hd (Eu.o.stay aX);clear aX)
   |(refine ay (.store 99 (.tmp 4) (.tmp 19)) rfl ?_;refine eU rfl 99 (.tmp 4) (.tmp 19) rfl (cs':=jH 50 0 0 0) se.o.b2 aZ rfl rfl rfl rfl ?_;intro w1 cL aw))
  exact l5 rfl cL aZ rfl rfl (bN.mk ae.o.symm (λh=>⟨rfl,rfl,rfl⟩) (se.o.fin aw))
 |true=>
 go_upto_region 6 with(go_at_call 52;refine fS.o.mono ?_;rintro e W2 ⟨rfl,aX⟩;have yk:=a9.o.trans (aX.mono a9.o.size);clear aX)
 clear x0 y0 y1 y2 y3 y4 y5 y6;have se:=cells.o W2 yk;obtain⟨y0,y1,y2,y3,y4,y5,y6⟩:=nU se.sq.b1;have x0:=se.sq.b0.cell 0;simp only[zY]at x0 y0 y3 y6;have Ag:=Hd (k3.o W2 yk);clear se;replace yk:=Hd yk;go_upto_region 7 with(go_at_call 53;refine Ag.o.mono ?_;rintro e W3 ⟨p3,i3,s3,rfl,hz3,jv⟩;have qw:=yk.o.trans (jv.mono yk.o.size);clear jv)
 clear x0 y0 y1 y2 y3 y4 y5 y6;have Fp:Bw W0 (W3.alloc (.cells ⟨[.int .i64 ic,.int .i64 p3,.int .i64 i3,.int .i64 s3]⟩ 99)):=qw.alloc qw.size _;have Fj:=cells.o _ Fp;obtain⟨y0,y1,y2,y3,y4,y5,y6⟩:=nU Fj.sq.b1;have x0:=Fj.sq.b0.cell 0;simp only[zY]at x0 y0 y3 y6;replace⟨Fj,hz3⟩:=H2 Fj hz3;by_cases qa:ic=0
 case neg=>
  have ae:=Hd (e3.o (by trivial) (by trivial) qa);have f1:=cM qa;have f2:=gL qa;have sa:=Hd qa;replace⟨qw,Fp⟩:=H2 qw Fp;clear qa x0 y0 y1 y2 y3 y4 y5 y6;go_wp2_with (refine ay (.store 99 (.tmp 4) (.tmp 26)) rfl ?_;refine eU rfl 99 (.tmp 4) (.tmp 26) rfl (cs':=jH ic p3 i3 s3) Fj.o.b2 aZ rfl rfl rfl rfl ?_;intro w1 cL aw);exact l5 rfl cL aZ rfl rfl (bN.mk ae.o.symm (λh=>absurd (ae.o.symm.trans h) sa.o) (Fj.o.fin aw))
 subst qa;obtain⟨W4,fP⟩:=aB (W3.alloc (.cells ⟨[.int .i64 0,.int .i64 p3,.int .i64 i3,.int .i64 s3]⟩ 99))
 rw[<-fP]at Fp Fj;have Ca:=k4.o W4 Fp;rw[fP]at Ca;have YH:(W3.alloc (.cells ⟨[.int .i64 0,.int .i64 p3,.int .i64 i3,.int .i64 s3]⟩ 99)).heap.size=W3.heap.size+1:=sJ;try unfold Bw at Ca
 rw[YH]at Ca;rw[fP]at Fp;replace⟨Ca,qw,Fp,fP⟩:=H4 Ca qw Fp fP;clear YH Fj;go_upto_region 10 with(go_at_call 54;refine Ca.o.mono ?_;rintro e W5 ⟨rfl,YI,sf⟩)
 have J2:Bw W0 W5:=Fp.o.trans (sf.mono (by have:=qw.o.size;omega));have hA5:=kA.o W5 _ J2 YI;have UA:Bw W0 (W5.alloc (.cells ⟨[.map (some (W3.heap.size+1+1))]⟩ 134)):=J2.alloc J2.size _;have J3:=k5.o (by trivial) _ _ _ UA hA5;clear x0 y0 y1 y2 y3 y4 y5 y6;have Qk:=cells.o _ UA;obtain⟨y0,y1,y2,y3,y4,y5,y6⟩:=nU Qk.sq.b1;have x0:=Qk.sq.b0.cell 0;simp only[zY]at x0 y0 y3 y6;replace⟨Qk,J3,hA5,UA,J2,sf,YI⟩:=H7 Qk J3 hA5 UA J2 sf YI;go_upto_region 12 with(go_at_call 57;refine J3.o.mono ?_;rintro e W6 ⟨p6,i6,s6,rfl,XD,lO⟩)
 have hA6:=hA5.o.stay (lO.trans ((bX (.cells ⟨[.int .i64 wc0,.int .i64 p6,.int .i64 i6,.int .i64 s6]⟩ 99)).mono lO.size));have S8:Bw W0 (W6.alloc (.cells ⟨[.int .i64 wc0,.int .i64 p6,.int .i64 i6,.int .i64 s6]⟩ 99)):=(UA.o.trans (lO.mono UA.o.size)).alloc (by have h1:=UA.o.size;have h2:=lO.size;omega) _;clear x0 y0 y1 y2 y3 y4 y5 y6;have Cb:=cells.o _ S8;obtain⟨y0,y1,y2,y3,y4,y5,y6⟩:=nU Cb.sq.b1;have x0:=Cb.sq.b0.cell 0;simp only[zY]at x0 y0 y3 y6;replace⟨Cb,XD⟩:=H2 Cb XD;by_cases qa:wc0=0
 case neg=>
  have ae:=Hd (e4.o (by trivial) (by trivial) (by trivial) qa);have f1:=cM qa;have f2:=gL qa;have sa:=Hd qa;replace⟨S8,hA6,lO⟩:=H3 S8 hA6 lO;clear qa x0 y0 y1 y2 y3 y4 y5 y6;go_wp2_with (refine ay (.store 99 (.tmp 4) (.tmp 36)) rfl ?_;refine eU rfl 99 (.tmp 4) (.tmp 36) rfl (cs':=jH wc0 p6 i6 s6) Cb.o.b2 aZ rfl rfl rfl rfl ?_;intro w1 cL aw);exact l5 rfl cL aZ rfl rfl (bN.mk ae.o.symm (λh=>absurd (ae.o.symm.trans h) sa.o) (Cb.o.fin aw))
 subst qa;have YJ:=Hd (k6.o _ S8);have k7':=Hd (λW (hW:Below (W6.alloc (.cells ⟨[.int .i64 0,.int .i64 p6,.int .i64 i6,.int .i64 s6]⟩ 99)).heap.size (W6.alloc (.cells ⟨[.int .i64 0,.int .i64 p6,.int .i64 i6,.int .i64 s6]⟩ 99)) W)=>k7.o (by trivial) _ _ W (hA6.stay hW));have Ft:∀W,Below (W6.alloc (.cells ⟨[.int .i64 0,.int .i64 p6,.int .i64 i6,.int .i64 s6]⟩ 99)).heap.size (W6.alloc (.cells ⟨[.int .i64 0,.int .i64 p6,.int .i64 i6,.int .i64 s6]⟩ 99)) W->CB l A c q ⟨A1,c1,A2,c2,A3,c3⟩ w W:=λW hW=>cells.o W (S8.trans (hW.mono S8.size))
 replace⟨Ft,S8,hA6,lO⟩:=H4 Ft S8 hA6 lO;by_cases XE:1099511627776<q.within
 .have ae:=Hd (e5.o (by trivial) (by trivial) (by trivial) (by trivial) XE);go_wp2_with (refine ay (.store 99 (.tmp 4) (.tmp 40)) rfl ?_;refine eU rfl 99 (.tmp 4) (.tmp 40) rfl (cs':=jH 66 2 0 0) Cb.o.b2 aZ rfl rfl rfl rfl ?_;intro w1 cL aw);exact l5 rfl cL aZ rfl rfl (bN.mk ae.o.symm (λh=>by have:=ae.o;omega) (Cb.o.fin aw))
 by_cases Ew:q.au=emp
 .have f5:(q.au.toList==([]:List UInt8))=true:=by rw[aN];exact zW Ew
  have SW:(q.au.toList != ([]:List UInt8))=false:=by rw[bne,f5];rfl
  have ae:=Hd (e7.o (by trivial) (by trivial) (by trivial) (by trivial) oQ (.inl Ew));have k8:=Hd (k7'.o _ bR);replace Ew:=Hd Ew;go_wp2_with (first
   |(go_at_call 59;refine k8.o.mono ?_;rintro e W8 ⟨p8,i8,s8,rfl,eX,Lj⟩;have S9:=Hd (Cb.o.stay Lj);replace⟨eX,Lj⟩:=H2 eX Lj)
   |(refine ay (.store 99 (.tmp 4) (.tmp 53)) rfl ?_;refine eU rfl 99 (.tmp 4) (.tmp 53) rfl (cs':=jH rc p8 i8 s8) S9.o.b2 aZ rfl rfl rfl rfl ?_;intro w1 cL aw))
  exact l5 rfl cL aZ rfl rfl (bN.mk ae.o.symm (λh=>eX.o (ae.o.symm.trans h)) (S9.o.fin aw))
 have f5:(q.au.toList==([]:List UInt8))=false:=by rw[aN];exact zV Ew
 have SW:(q.au.toList != ([]:List UInt8))=true:=by rw[bne,f5];rfl
 cases pb with
 |false=>
  have ae:=Hd (e6.o (by trivial) (by trivial) (by trivial) (by trivial) oQ Ew (by trivial));replace Ew:=Hd Ew;go_wp2_with (first
   |(go_at_call 58;refine YJ.o.mono ?_;rintro e W8 ⟨rfl,Lj⟩;have S9:=Hd (Cb.o.stay Lj);replace Lj:=Hd Lj)
   |(refine ay (.store 99 (.tmp 4) (.tmp 50)) rfl ?_;refine eU rfl 99 (.tmp 4) (.tmp 50) rfl (cs':=jH 67 3 0 0) S9.o.b2 aZ rfl rfl rfl rfl ?_;intro w1 cL aw))
  exact l5 rfl cL aZ rfl rfl (bN.mk ae.o.symm (λh=>by have:=ae.o;omega) (S9.o.fin aw))
 |true=>
  have ae:=Hd (e7.o (by trivial) (by trivial) (by trivial) (by trivial) oQ (.inr (by trivial)));replace Ew:=Hd Ew;go_wp2_with (first
   |(go_at_call 58;refine YJ.o.mono ?_;rintro e W7 ⟨rfl,yl⟩;have k8:=Hd (k7'.o _ yl);have hC7:=Ft.o _ yl;obtain⟨u0,u1,u2,u3,u4,u5,u6⟩:=nU hC7.sq.b1;simp only at u0 u3 u6;replace⟨hC7,yl⟩:=H2 hC7 yl)
   |(go_at_call 59;refine k8.o.mono ?_;rintro e W8 ⟨p8,i8,s8,rfl,eX,Lj⟩;have S9:=Hd (hC7.o.stay Lj);replace⟨eX,Lj⟩:=H2 eX Lj)
   |(refine ay (.store 99 (.tmp 4) (.tmp 53)) rfl ?_;refine eU rfl 99 (.tmp 4) (.tmp 53) rfl (cs':=jH rc p8 i8 s8) S9.o.b2 aZ rfl rfl rfl rfl ?_;intro w1 cL aw))
  exact l5 rfl cL aZ rfl rfl (bN.mk ae.o.symm (λh=>eX.o (ae.o.symm.trans h)) (S9.o.fin aw))
end dR
section
variable {P:Program}{w:World}
theorem Ll {B t ty e size bytes n m c:Nat}{F v ds news A}(T:nW P t e size bytes)(dv:OL w B F e size v n ds)(ik:Src w A news (λb=>F b/\some b≠v.ownBlock))(hl:news.length=m*size)(h63:n+m<=maxLen)(jg:(n+m)*bytes<=140737488355328)(hB:B<=w.heap.size):
  ∃v' w',(Builtin.append_ #[t,t] ty #[v,.slice A m c]).run P w=.ok v' w'/\OL w' B F e size v' (n+m) (ds++news)/\w.grownBy w' v.ownBlock/\(v'.ownBlock=v.ownBlock\/v'.ownBlock=some w.heap.size):=by
 obtain⟨ht,⟨i,z,hi,hz,nK,ju,EH⟩,hp⟩:=T;obtain⟨cells,h1,h2,h3⟩:=dv;by_cases hne:news=[]
 .subst hne;have hm:m=0:=by
   rcases Nat.eq_zero_or_pos m with h |h
   .exact h
   .have:=Nat.mul_pos h hp;simp at hl;omega
  subst hm;rcases A with _ |ad
  .exact⟨v,w,kV B t ty e i size ht hi v n cells h1 c,⟨cells,by simpa using h1,by simpa using h2,by simpa using h3⟩,World.grownBy.refl w _,.inl rfl⟩
  .obtain⟨v',w',hr,a1,a2,_,a4⟩:=run_append_own_at (P:=P) w B t ty e i z size bytes ht hi hz nK ju EH hp v n cells h1 ad 0 c [] sJ (λj u h=>by simp at h) (λu h=>by simp at h) h63 jg hB;refine⟨v',w',hr,⟨cells,by simpa using a1,by simpa using h2,λk d hd=>?_⟩,a2,a4⟩;simp at hd;obtain⟨u,hu,hx⟩:=h3 k d hd;exact⟨u,hu,hx.sw a2 a4⟩
 .obtain⟨b,off,rfl,hc⟩:=ik hne;have hex:∀k,k<news.length->∃u,w.cell? ⟨b,off+k,none⟩=some u/\∀d,news[k]? =some d->Rd w (λb=>F b/\some b≠v.ownBlock) u d:=λk hk=>by
   obtain⟨u,h4,h5⟩:=hc k news[k] (zI hk);refine⟨u,h4,λd hd=>?_⟩;rw[zI hk]at hd;injection hd with hd
   subst hd;exact h5
  obtain⟨g,hg⟩:=choose_lt hex;have Kt:∀(k:Nat)(u:Value),((List.range news.length).map g)[k]? =some u->k<news.length/\u=g k:=λk u h=>by
   rw[zG]at h;rcases Nat.lt_or_ge k news.length with hk |hk
   .rw[List.getElem?_range hk]at h;simp at h;exact⟨hk,h.symm⟩
   .rw[xO (by simpa using hk)]at h;simp at h
  obtain⟨v',w',hr,a1,a2,_,a4⟩:=run_append_own_at (P:=P) w B t ty e i z size bytes ht hi hz nK ju EH hp v n cells h1 ⟨b,off,none⟩ m c ((List.range news.length).map g) (by simpa using hl)
   (λj u h=>by
    obtain⟨hk,rfl⟩:=Kt j u h;rw[jT];exact(hg j hk).1)
   (λu h=>by
    obtain⟨j,hj⟩:=zN h;obtain⟨hk,rfl⟩:=Kt j u hj;exact((hg j hk).2 _ (zI hk)).one)
   h63 jg hB
  refine⟨v',w',hr,⟨_,a1,by simp[h2],λk d hd=>?_⟩,a2,a4⟩;rcases Nat.lt_or_ge k ds.length with hk |hk
  .rw[zS hk]at hd;obtain⟨u,hu,hx⟩:=h3 k d hd;exact⟨u,by rw[zS oQ];exact hu,hx.sw a2 a4⟩
  .rw[zP hk]at hd;have gC:=(zC.1 hd).1;refine⟨g (k-ds.length),?_,((hg _ gC).2 d hd).sw a2 a4⟩;rw[zP oQ,<-h2,zG,List.getElem?_range gC];rfl
theorem Ql {o:Oper}{a K Q}(s x t)(ho:o.op=.call {callee:=.builtin .append,args:=#[s,x],argTypes:=#[t,t]}){B e size bytes n m c F v ds news A}(T:nW P t e size bytes)(dv:OL w B F e size v n ds)(hs:a.eval s=v)(hx:a.eval x=.slice A m c)(ik:Src w A news (λb=>F b/\some b≠v.ownBlock))(hl:news.length=m*size)(h63:n+m<=maxLen)(jg:(n+m)*bytes<=140737488355328)(hB:B<=w.heap.size)(h:∀v' w',OL w' B F e size v' (n+m) (ds++news)->w.grownBy w' v.ownBlock->(v'.ownBlock=v.ownBlock\/v'.ownBlock=some w.heap.size)->K (a.put o.dst v') w'):o.wp P a w K Q:=by
 obtain⟨v',w',hrun,h2,h3,h4⟩:=Ll (P:=P) (ty:=o.type) T dv ik hl h63 jg hB (c:=c);unfold Oper.wp execOp;simp only[ho,resolve,invoke,builtin,Sem.run_bind,Sem.run_pure,Result.andThen_ok,List.map_toArray,List.map_cons,List.map_nil,hs,hx,hrun];exact h v' w' h2 h3 h4
theorem Fu {ops rest}{o:Oper}{a Q}(EI:o.guard=none)(s x t)(ho:o.op=.call {callee:=.builtin .append,args:=#[s,x],argTypes:=#[t,t]}){B e size bytes n m c F v ds news A}(T:nW P t e size bytes)(dv:OL w B F e size v n ds)(hs:a.eval s=v)(hx:a.eval x=.slice A m c)(ik:Src w A news (λb=>F b/\some b≠v.ownBlock))(hl:news.length=m*size)(h63:n+m<=maxLen)(jg:(n+m)*bytes<=140737488355328)(hB:B<=w.heap.size)(h:∀v' w',OL w' B F e size v' (n+m) (ds++news)->w.grownBy w' v.ownBlock->(v'.ownBlock=v.ownBlock\/v'.ownBlock=some w.heap.size)->wpList P ops Q rest (a.put o.dst v') w'):wpList P ops Q (o::rest) a w:=
 wpList_plain EI λ_ hK=>Ql s x t ho T dv hs hx ik hl h63 jg hB λv' w' h2 h3 h4=>hK _ _ (h v' w' h2 h3 h4)
end
def wR (f:Fg):List Value:=[.int .i64 f.rule,.int .i64 f.pL,.int .i64 f.code,.int .i64 f.part,.int .i64 f.idx,.int .i64 f.sub]
def nZ (f:Fg):List D:=[.v (.int .i64 f.rule),.v (.int .i64 f.pL),.v (.int .i64 f.code),.v (.int .i64 f.part),.v (.int .i64 f.idx),.v (.int .i64 f.sub)]
theorem qx:nW prog 159 162 6 48:=.of underlying159 kQ oQ
theorem Ln:jV prog 162 6:=⟨_,underlying162,rfl,kQ⟩
theorem lu {w G}(f):fB w G (wR f) (nZ f):=⟨.v _ rfl,.v _ rfl,.v _ rfl,.v _ rfl,.v _ rfl,.v _ rfl,trivial⟩
def gg:Nat:=2932031007402
theorem lz {n}(h:n+1<=gg):n+1<=maxLen:=by unfold gg at h;unfold maxLen;omega
theorem lA {n}(h:n+1<=gg):(n+1)*48<=140737488355328:=by unfold gg at h;omega
structure FO (l:List Td)(A:Option Addr)(c:Nat)(q:Qy)(s:fV)(w wr:World)(v:Value)(L:List Fg):Prop where
 sq:SQ l A c q s w wr
 ol:OL wr w.heap.size eL 162 6 v L.length (L.flatMap nZ)
section
variable {l:List Td}{A:Option Addr}{c:Nat}{q:Qy}{s:fV}{w wr W w1:World}{v v':Value}{L:List Fg}
theorem FO.stay (h:FO l A c q s w wr v L)(hb:Bw wr W):FO l A c q s w W v L:=⟨h.sq.stay hb,h.ol.stay hb⟩
theorem FO.new (l A c q s w):FO l A c q s w ((w.alloc (.cells ⟨[.slice A l.length c]⟩ 24)).alloc (.cells ⟨qV q s⟩ 31)) (.slice none 0 0) []:=⟨SQ.new l A c q s w,OL.nil _ _ _ _ _⟩
theorem FO.hb (h:FO l A c q s w wr v L):Bw w wr:=h.sq.hb
theorem FO.app {o f}(h:FO l A c q s w wr v L)(hg:(wr.alloc o).grownBy w1 v.ownBlock)(hO:OL w1 w.heap.size eL 162 6 v' (L.length+1) (L.flatMap nZ++nZ f)):FO l A c q s w w1 v' (L++[f]):=by
 have hs:=h.hb.size;refine⟨⟨(h.hb.alloc hs o).grown hg (by simp;omega) (λq hq=>(h.ol.lt q hq).1),(h.sq.b0.alloc o).grown hg (λe=>h.ol.aU h.sq.b0 dQ e.symm),(h.sq.b1.alloc o).grown hg (λe=>h.ol.aU h.sq.b1 dQ e.symm)⟩,?_⟩;rw[zH,xD];simpa using hO
theorem FO.keep {g t cs o}(h:FO l A c q s w wr v L)(hb:ao wr g t cs)(ht:162≠t)(hg:(wr.alloc o).grownBy w1 v.ownBlock):ao w1 g t cs:=(hb.alloc o).grown hg (λe=>h.ol.aU hb ht e.symm)
end
def iy (L:List Fg)(w:World)(e:Ending)(w':World):Prop:=∃v,e=.returned v/\OL w' w.heap.size eL 162 6 v L.length (L.flatMap nZ)/\Bw w w'
theorem iy.mk {L L' w w' v}(hL:L'=L)(h:OL w' w.heap.size eL 162 6 v L'.length (L'.flatMap nZ))(hb:Bw w w'):iy L w (.returned v) w':=hL▸⟨v,rfl,h,hb⟩
namespace dR
open cH
theorem rF (f w):Cl 127 #[.int .i64 f.rule,.int .i64 f.pL,.int .i64 f.code,.int .i64 f.part,.int .i64 f.idx,.int .i64 f.sub] w λe w'=>e=.returned (.agg ⟨wR f⟩)/\Bw w w':=by
 have hb:Bw w (w.alloc (.cells ⟨wR ⟨0,0,0,0,0,0⟩⟩ 162)):=bA;have hB:ao (w.alloc (.cells ⟨wR ⟨0,0,0,0,0,0⟩⟩ 162)) w.heap.size 162 (wR ⟨0,0,0,0,0,0⟩):=ao.new _ _ _;simp only[wR]at hb hB |-;replace⟨hb,hB⟩:=H2 hb hB;go_enter func127,ntmps127;go_wp2_with (refine ay (.store 162 (.tmp 12) (.tmp 20)) rfl ?_;refine eU rfl 162 (.tmp 12) (.tmp 20) rfl (cs':=wR f) hB.o Ln rfl rfl rfl rfl ?_;intro w1 cL aw);exact l5 rfl cL Ln rfl rfl ⟨rfl,hb.o.grown aw hb.o.size (λq hq=>by injection hq with hq;omega)⟩
theorem Qm (a b w):Cl 84 #[.agg ⟨wR a⟩,.agg ⟨wR b⟩] w λe w'=>e=.returned (.bool (decide (pO a b)))/\Bw w w':=by
 have hb:Bw w ((w.alloc (.cells ⟨wR a⟩ 162)).alloc (.cells ⟨wR b⟩ 162)):=(bA).alloc sJ _;obtain⟨r,hr⟩:=aB (decide (pO a b))
 rw[<-hr];obtain⟨a1,a2,a3,a4,a5,a6⟩:=a;obtain⟨b1,b2,b3,b4,b5,b6⟩:=b;have qZ:r=if a1≠b1 then decide (a1<b1)else if a5≠b5 then decide (a5<b5)else if a6≠b6 then decide (a6<b6)else decide (a2<b2):=by
  rw[hr,Bool.eq_iff_iff,decide_eq_true_iff];unfold pO;simp only;by_cases h1:a1≠b1
  .rw[if_pos h1,if_pos h1,decide_eq_true_iff]
  .rw[if_neg h1,if_neg h1];by_cases h2:a5≠b5
   .rw[if_pos h2,if_pos h2,decide_eq_true_iff]
   .rw[if_neg h2,if_neg h2];by_cases h3:a6≠b6
    .rw[if_pos h3,if_pos h3,decide_eq_true_iff]
    .rw[if_neg h3,if_neg h3,decide_eq_true_iff]
 clear hr;simp only[wR]at hb |-;replace hb:=Hd hb;by_cases h1:a1=b1
 case neg=>
  rw[if_pos h1]at qZ;have f1:=cM h1;have f2:=gL h1;replace⟨h1,qZ⟩:=H2 h1 qZ;go_enter func84,ntmps84;go_wp2;go_ret;exact⟨fZ qZ.o.symm,hb.o⟩
 rw[if_neg (λh=>h h1)]at qZ;subst h1;by_cases h1:a5=b5
 case neg=>
  rw[if_pos h1]at qZ;have f1:=cM h1;have f2:=gL h1;replace⟨h1,qZ⟩:=H2 h1 qZ;go_enter func84,ntmps84;go_wp2;go_ret;exact⟨fZ qZ.o.symm,hb.o⟩
 rw[if_neg (λh=>h h1)]at qZ;subst h1;by_cases h1:a6=b6
 case neg=>
  rw[if_pos h1]at qZ;have f1:=cM h1;have f2:=gL h1;replace⟨h1,qZ⟩:=H2 h1 qZ;go_enter func84,ntmps84;go_wp2;go_ret;exact⟨fZ qZ.o.symm,hb.o⟩
 rw[if_neg (λh=>h h1)]at qZ;subst h1;replace qZ:=Hd qZ;go_enter func84,ntmps84;go_wp2;go_ret;exact⟨fZ qZ.o.symm,hb.o⟩
end dR
