/- What is wrong with WHERE's expression. -/
import Derived.Test.YtjbcbibkhalagaaGreatDoorGa
namespace Go.Proofs.YtjbcbibkhalagaaGreatDoor
set_option maxRecDepth 100000
set_option maxHeartbeats 16000000
open Proofs.Tryz Go.RowKit Go.Deep Go.Maps
set_option linter.unusedVariables false
set_option linter.unusedSimpArgs false
def sN (bs bq bv:Nat):Value:=.func (.func 55) #[] #[.pointer (some ⟨bs,0,none⟩),.pointer (some ⟨bq,0,none⟩),.pointer (some ⟨bv,0,none⟩)]
structure WB (q:Qy)(s:fV)(bs bq bv:Nat)(w W:World):Prop where
 hb:Bw w W
 b0:ao W w.heap.size 31 (qV q s)
 b1:ao W (w.heap.size+1) 137 [sN bs bq bv]
 b2:ao W (w.heap.size+1+1) 99 (jH 0 0 0 0)
section
variable {q:Qy}{s:fV}{bs bq bv:Nat}{w W W' w1:World}
theorem WB.stay (h:WB q s bs bq bv w W)(hb:Bw W W'):WB q s bs bq bv w W':=⟨h.hb.trans (hb.mono h.hb.size),h.b0.stay hb,h.b1.stay hb,h.b2.stay hb⟩
theorem WB.new (q s bs bq bv w):WB q s bs bq bv w (((w.alloc (.cells ⟨qV q s⟩ 31)).alloc (.cells ⟨[sN bs bq bv]⟩ 137)).alloc (.cells ⟨jH 0 0 0 0⟩ 99)):=
 ⟨((bA).alloc sJ _).alloc (by simp;omega) _,(((ao.new w _ _).alloc _).alloc _),(((ao.new' sJ).alloc _)),(ao.new' sJ)⟩
theorem WB.fin (h:WB q s bs bq bv w W)(hg:W.grownBy w1 (some (w.heap.size+1+1))):Bw w w1:=h.hb.grown hg h.hb.size (λq hq=>by injection hq with hq;omega)
theorem nU {g}(h:ao W g 31 (qV q s)):W.cell? ⟨g,0,none⟩=some (.slice s.a1 q.items.length s.c1)/\W.cell? ⟨g,1,none⟩=some (.int .i64 q.mode)/\W.cell? ⟨g,2,none⟩=some (.int .i64 q.after)/\
  W.cell? ⟨g,3,none⟩=some (.slice s.a2 q.wh.length s.c2)/\W.cell? ⟨g,4,none⟩=some (.int .i64 q.within)/\W.cell? ⟨g,5,none⟩=some (.string q.au)/\W.cell? ⟨g,6,none⟩=some (.slice s.a3 q.ret.length s.c3):=
 ⟨h.cell 0,h.cell 1,h.cell 2,h.cell 3,h.cell 4,h.cell 5,h.cell 6⟩
end
theorem Uy {t b r}(h:Sp t b r):∀{n i:Nat},r-b<=n->i∈pY t n r->i<=r:=by
 induction h with
 |lf hx h1 h2 h3=>
  intro n i _ hi;rw[qu (by rw[dY hx];simp[dg]at h1;omega)]at hi;simp at hi;omega
 |un hx h1 h2 h3 h4 ih=>
  intro n i _ hi;rw[qu (by rw[dY hx];simp[fm]at h1;omega)]at hi;simp at hi;omega
 |bi hx h1 h2 h3 h4 h5 Im zd=>
  rename_i b m j x;intro n i hn hi;have l1:=h4.le;have l2:=h5.le;by_cases ho:opAt t (j+1)=25
  .rw[Fi ho (by unfold wF;rw[hx];simp[h2]) (by unfold wG;rw[hx];simp[h3]) h4 h5 oQ]at hi;rcases zM.1 hi with hi |hi
   .have:=Im (n:=n) oQ hi;omega
   .have:=zd (n:=n) oQ hi;omega
  .rw[qu ho]at hi;simp at hi;omega
theorem CZ {t}(h:aW t=true){i}(hi:i∈cI t):∃b,Sp t b i:=by
 obtain⟨⟨n,hn,hsp⟩,ha,_⟩:=dF h;unfold cI at hi;rw[show t.length-1=n by omega]at hi;have:=Uy hsp oQ hi;exact ha i oQ
theorem Lf {t b r}(h:Sp t b r):(dW t b r).length=r+1-b:=by
 have:=h.lt;have:=h.le;unfold dW;rw[xC,zO,List.length_drop];omega
theorem G5 {t b r}(h:Sp t b r)(hs:tT t):tT (dW t b r):=by
 refine⟨by rw[Lf h];have:=h.lt;have:=hs.1;omega,λx hx=>?_⟩;unfold dW at hx;obtain⟨y,hy,rfl⟩:=List.mem_map.1 hx;exact hs.2 y (List.mem_of_mem_drop (List.mem_of_mem_take hy))
theorem Fq {l q}(h:q.wh=[]):cA l q=0:=if_pos h
theorem C0 {l q}(h:q.wh≠ []){c}(hc:c=fC l q q.wh false)(hne:c≠0):cA l q=c:=by
 unfold cA;rw[if_neg h,<-hc];unfold fz;exact if_neg hne
theorem Ae {l q}(h:q.wh≠ [])(hc:0=fC l q q.wh false)(ht:aE q.wh=false):cA l q=75:=by
 unfold cA;rw[if_neg h,<-hc,ht];rfl
theorem Fs {l q}(h:q.wh≠ [])(hc:0=fC l q q.wh false)(ht:aE q.wh=true):cA l q=if(cI q.wh).any (λr=>iw q (oz q.wh r))=true then 77 else 0:=by
 unfold cA;rw[if_neg h,<-hc,ht];simp[fz]
namespace dR
open cH
theorem Qg {A c F l q s bs bq bv m}(hl:iI l)(hs:jE q)(rD:q.wh=[]\/aW q.wh=true){w}(hK:cW w)(h:AB l A c q s F bs bq bv m w):
  Cl 57 #[.agg ⟨qV q s⟩,sN bs bq bv] w (bN (cA l q) w):=by
 have h0:=WB.new q s bs bq bv w;have hA0:=h.stay (show Bw w _ from h0.hb);have T9:=hK.stay h0.hb;obtain⟨y0,y1,y2,y3,y4,y5,y6⟩:=nU h0.b0;have z1:=h0.b1.cell 0;obtain⟨b,hc⟩:=aB (cA l q)
 rw[<-hc];by_cases hn:q.wh=[]
 .have ae:(0:Int)=b:=by rw[hc,Fq hn]
  have Qh:q.wh.length=0:=by rw[hn];rfl
  have f0:((q.wh.length:Int)==0)=true:=mf oQ;obtain⟨A1,c1,A2,c2,A3,c3⟩:=s;simp only[qV,sN,jH,zY]at h0 y0 y3 z1 |-;replace⟨h0,ae,Qh,hn⟩:=H4 h0 ae Qh hn;clear hc h hA0 T9 hK hs rD;go_enter func57,ntmps57;go_wp2_with (refine ay (.store 99 (.tmp 4) (.tmp 13)) rfl ?_;refine eU rfl 99 (.tmp 4) (.tmp 13) rfl (cs':=jH 0 0 0 0) h0.o.b2 aZ rfl rfl rfl rfl ?_;intro w1 cL aw);exact l5 rfl cL aZ rfl rfl (bN.mk ae.o (λh=>⟨rfl,rfl,rfl⟩) (h0.o.fin aw))
 have ht:=rD.resolve_left hn;have qK:0<q.wh.length:=List.length_pos_iff.2 hn;have lp:=hs.wh.1;have f0:((q.wh.length:Int)==0)=false:=cM oQ;obtain⟨W0,cg⟩:=aB (((w.alloc (.cells ⟨qV q s⟩ 31)).alloc (.cells ⟨[sN bs bq bv]⟩ 137)).alloc (.cells ⟨jH 0 0 0 0⟩ 99))
 rw[<-cg]at h0 hA0 T9 y0 y1 y2 y3 y4 y5 y6 z1;have jX:=j8 ht;have kw:Cl 94 #[.slice s.a2 q.wh.length s.c2,.func (.func 95) #[] #[.pointer (some ⟨w.heap.size+1,0,none⟩)]] W0 (jm q.wh (j6 l q false) W0):=
  CW s.a2 s.c2 F q.wh (j6 l q false) (w.heap.size+1) lp (λx hx=>⟨(jX x hx).1.2,(jX x hx).2.2⟩) W0 hA0.qr.lt hA0.qr.r2 λx hx W hW=>Fe hl hs x (hs.wh.2 x hx).1 (hA0.stay hW) (h0.b1.stay hW)
 have kt:∀W,Bw W0 W->Cl 96 #[.slice s.a2 q.wh.length s.c2] W λe w'=>e=.returned (.bool (aE q.wh))/\w'=W:=λW hW=>yb s.a2 s.c2 F q.wh lp W (hA0.qr.under hW).r2
 have kj:∀W,Bw W0 W->Cl 97 #[.slice s.a2 q.wh.length s.c2] W (j9 (cI q.wh) W):=λW hW=>Uq s.a2 s.c2 F q.wh hs.wh W (T9.stay hW) (hA0.qr.under hW).lt (hA0.qr.under hW).r2 ht
 have ks:∀W (b r:Nat),Bw W0 W->Sp q.wh b r->Cl 100 #[.slice s.a2 q.wh.length s.c2,.int .i64 r] W (lL (dW q.wh b r) W):=λW b r hW hsp=>Yw s.a2 s.c2 F q.wh hs.wh W (T9.stay hW) (hA0.qr.under hW).lt (hA0.qr.under hW).r2 ht hsp
 have ku:∀W (b r:Nat) A' c',Bw W0 W->Sp q.wh b r->Rd W (λb=>b<W.heap.size) (.slice A' (dW q.wh b r).length c') (.sl (dW q.wh b r).length ((dW q.wh b r).flatMap b9))->Cl 99 #[.agg ⟨qV q s⟩,.slice A' (dW q.wh b r).length c'] W (oG q (dW q.wh b r) W):=λW b r A' c' hW hsp rd=>Ur q s A' c' _ F (dW q.wh b r) hs (G5 hsp hs.wh) W (hA0.qr.under hW) (λb h=>h) rd
 have km:∀W (b r:Nat) v1 v2 v3,Bw W0 W->Rd W (λb=>b<W.heap.size) v1 (.sl (dn q (dW q.wh b r)).length ((dn q (dW q.wh b r)).map iJ))->(∃A n c,v2=.slice A n c)->(∃A n c,v3=.slice A n c)->Cl 98 #[.agg ⟨qV q s⟩,.agg #[v1,v2,v3]] W λe w'=>e=.returned (.bool (iw q (dW q.wh b r)))/\Bw W w':=λW b r v1 v2 v3 hW rd h2 h3=>Qf q s (dW q.wh b r) F _ v1 v2 v3 hs W (hA0.qr.under hW) (λb h=>h) rd h2 h3
 have hcs:∀(j r:Nat),(cI q.wh)[j]? =some r->∃b,Sp q.wh b r/\iw q (oz q.wh r)=iw q (dW q.wh b r)/\r<q.wh.length:=λj r h=>by
  obtain⟨b,hb⟩:=CZ ht (zA h);exact⟨b,hb,by unfold oz;rw[SZ hb],hb.lt⟩
 have gE:(cI q.wh).length<=1048576:=by
  obtain⟨⟨n,hn,hsp⟩,_,_⟩:=dF ht;unfold cI;have:=zr hsp (n:=q.wh.length) oQ;rw[show q.wh.length-1=n by omega];omega
 have wc1:∀c:Int,c=fC l q q.wh false->c≠0->b=c:=λc h1 h2=>by rw[hc,C0 hn h1 h2]
 have wc2:0=fC l q q.wh false->aE q.wh=false->b=75:=λh1 h2=>by rw[hc,Ae hn h1 h2]
 have wc3:0=fC l q q.wh false->aE q.wh=true->b=if(cI q.wh).any (λr=>iw q (oz q.wh r))=true then 77 else 0:=λh1 h2=>by rw[hc,Fs hn h1 h2]
 generalize aE q.wh=tb at*;generalize cI q.wh=L at*;obtain⟨A1,c1,A2,c2,A3,c3⟩:=s;simp only[qV,sN,jH,zY]at h0 cg ku km kw kt kj ks y0 y1 y2 y3 y4 y5 y6 z1 |-;have qd:=Hd cg;replace⟨h0,kw,kt,kj,ks,ku,km,hcs,wc1,wc2,wc3,hn⟩:=uM h0 kw kt kj ks ku km hcs wc1 wc2 wc3 hn;clear hc h hA0 T9 hK hs rD jX ht cg;have CV:=tS
 go_enter func57,ntmps57;go_upto_region 1 with fail
 rw[<-qd.o];go_upto_region 4 with(go_at_call 94;refine kw.o.mono ?_;rintro e W1 ⟨i,cv,rfl,hcv,a9⟩;replace hcv:=Hd (show cv=fC l q q.wh false from hcv))
 have h1:=h0.o.stay a9;clear y0 y1 y2 y3 y4 y5 y6 z1;obtain⟨y0,y1,y2,y3,y4,y5,y6⟩:=nU h1.b0;simp only at y0 y3 y6;replace⟨h1,a9⟩:=H2 h1 a9;by_cases fH:cv=0
 .subst fH;have rE:=Hd (kt.o W1 a9.o);cases tb with
  |false=>
   have ae:=Hd (wc2.o hcv.o rfl);go_wp2_with (first
    |(go_at_call 96;refine rE.o.mono ?_;rintro e W2 ⟨rfl,aX⟩;subst W2)
    |(refine ay (.store 99 (.tmp 4) (.tmp 37)) rfl ?_;refine eU rfl 99 (.tmp 4) (.tmp 37) rfl (cs':=jH 75 4 ((q.wh.length:Int) -1) 0) h1.o.b2 aZ rfl rfl rfl rfl ?_;intro w1 cL aw))
   exact l5 rfl cL aZ rfl rfl (bN.mk ae.o.symm (λh=>by have:=ae.o;omega) (h1.o.fin aw))
  |true=>
  have l4:=Hd (wc3.o hcv.o rfl);have kjj:=Hd (kj.o W1 a9.o);go_wp2_with (first
   |(go_at_call 96;refine rE.o.mono ?_;rintro e W2 ⟨rfl,aX⟩;subst W2)
   |(go_at_call 97;refine kjj.o.mono ?_;rintro e W2 ⟨v,rfl,hO,aX⟩;obtain⟨A5,c5,rfl⟩:=hO.form;have rL:=Hd (hO.rd (G:=λb=>b<W2.heap.size) (λb h=>h.elim) (λb _ h=>h));have h2:=Hd (h1.o.stay aX);have yk:=Hd (a9.o.trans (aX.mono a9.o.size));clear hO aX))
  clear y0 y1 y2 y3 y4 y5 y6;go_loopw [42] (λi wr=>∃j:Nat,j<=L.length/\i=.int .i64 j/\Bw W2 wr/\Hid ((L.take j).any (λr=>iw q (oz q.wh r))=false)) (λi _=>L.length- (intOf i).toNat)
  .exact⟨0,zE _,rfl,bR,rfl⟩
  obtain⟨j,hj,rfl,hB,hp⟩:=hrel;have h3:=h2.o.stay hB;have qw:=yk.o.trans (hB.mono yk.o.size);have rA:=qw.size;by_cases hlt:j<L.length
  .obtain⟨r,hr⟩:=av hlt;obtain⟨bb,hsp,hmx,BQ⟩:=hcs.o j r hr;obtain⟨g5,ahK,rfl,_,q0⟩:=(rL.o.under hB (λb h=>h)).at1 (i:=j) (y:=.int .i64 r) (by rw[zG,hr];rfl);have g1:=aH j;have g2:=aV j L.length;have C4:(L.take (j+1)).any (λr=>iw q (oz q.wh r))=iw q (oz q.wh r):=by
    rw[zJ,hr,List.any_append,hp.o];simp
   rw[hmx]at C4;have Lg:iw q (dW q.wh bb r)=true->L.any (λr=>iw q (oz q.wh r))=true:=λh=>by
    rw[xM];exact⟨r,zA hr,by rw[hmx];exact h⟩
   have Uz:∀W,Bw wr W->_:=λW hW=>ks.o W bb r (qw.trans (hW.mono rA)) hsp
   have ku':∀W A' c',Bw wr W->_->_:=λW A' c' hW rd=>ku.o W bb r A' c' (qw.trans (hW.mono rA)) hsp rd
   have km':∀W v1 v2 v3,Bw wr W->_->_->_->_:=λW v1 v2 v3 hW rd a b=>km.o W bb r v1 v2 v3 (qw.trans (hW.mono rA)) rd a b
   generalize iw q (dW q.wh bb r)=mb at*;generalize dW q.wh bb r=t' at*;obtain⟨y0,y1,y2,y3,y4,y5,y6⟩:=nU h3.b0;simp only at y0 y3 y6;have yy:∀W,Bw wr W->W.cell? ⟨w.heap.size,0,none⟩=some (.slice A1 q.items.length c1)/\W.cell? ⟨w.heap.size,1,none⟩=some (.int .i64 q.mode)/\W.cell? ⟨w.heap.size,2,none⟩=some (.int .i64 q.after)/\W.cell? ⟨w.heap.size,3,none⟩=some (.slice A2 q.wh.length c2)/\W.cell? ⟨w.heap.size,4,none⟩=some (.int .i64 q.within)/\W.cell? ⟨w.heap.size,5,none⟩=some (.string q.au)/\W.cell? ⟨w.heap.size,6,none⟩=some (.slice A3 q.ret.length c3):=λW hW=>nU (h3.b0.stay hW)
   have acH:r<=1048576:=oQ;replace⟨h3,qw,hB,Uz,ku',km',C4,Lg,hr,hmx,hsp,yy⟩:=uM h3 qw hB Uz ku' km' C4 Lg hr hmx hsp yy;have dh:=True.intro;go_upto_region 11 with fail
   go_cut [53] (λs wx=>s=.bool mb/\Bw wr wx)
   .go_region_law ((go_simp;first
     |(go_at_call 100;refine(Uz.o _ (by first|exact bR |exact(bR).drew |exact below_drewN bR _)).mono ?_;rintro e X1 ⟨v,rfl,ax,hY1⟩;obtain⟨A6,c6,rfl⟩:=ax.form;have Lh:Bw wr X1:=(by first|exact hY1 |exact(bR).drew.trans hY1 |exact(below_drewN bR _).trans hY1);have XC:=Hd (ax.rd (G:=λb=>b<X1.heap.size) (λb h=>h.elim) (λb _ h=>h));obtain⟨x0,x1,x2,x3,x4,x5,x6⟩:=yy.o _ Lh;replace Lh:=Hd Lh;clear ax hY1)
     |(go_at_call 99;refine(ku'.o _ _ _ Lh.o XC.o).mono ?_;rintro e X2 ⟨v1,v2,v3,L2,L3,rfl,ax,iK,qM,hY2⟩;obtain⟨A7,c7,rfl⟩:=ax.form;obtain⟨A8,c8,rfl⟩:=iK.form;obtain⟨A9,c9,rfl⟩:=qM.form;have O4:=Lh.o.trans (hY2.mono Lh.o.size);have rd2:=Hd (ax.rd (G:=λb=>b<X2.heap.size) (λb h=>h.elim) (λb _ h=>h));obtain⟨x0,x1,x2,x3,x4,x5,x6⟩:=yy.o _ O4;replace O4:=Hd O4;clear ax iK qM hY2)
     |(go_at_call 98;refine(km'.o _ _ _ _ O4.o rd2.o ⟨_,_,_,rfl⟩ ⟨_,_,_,rfl⟩).eQ λX3 hY3=>?_;have hZ3:=Hd (O4.o.trans (hY3.mono O4.o.size));clear hY3)))
    all_goals(go_wp2;all_goals(go_meet;exact⟨rfl,hZ3.o⟩))
   obtain⟨rfl,hZ⟩:=hcut;have h4:=Hd (h3.o.stay hZ);replace hZ:=Hd hZ;clear y0 y1 y2 y3 y4 y5 y6 q0;cases mb with
   |true=>
    have ae:=Hd (show (77:Int)=b by rw[l4.o,if_pos (Lg.o rfl)]);go_wp2_with (refine ay (.store 99 (.tmp 4) (.tmp 55)) rfl ?_;refine eU rfl 99 (.tmp 4) (.tmp 55) rfl (cs':=jH 77 4 r 0) h4.o.b2 aZ rfl rfl rfl rfl ?_;intro w1 cL aw);exact l5 rfl cL aZ rfl rfl (bN.mk ae.o (λh=>by have:=ae.o;omega) (h4.o.fin aw))
   |false=>
    go_wp2;go_roundw
    .exact⟨j+1,oQ,gQ,hB.o.trans (hZ.o.mono hB.o.size),C4⟩
    exact mQ
  .have g1:=jS j L.length;obtain rfl:j=L.length:=oQ;have ej:=hp.o;rw[zL]at ej;have ae:(0:Int)=b:=by rw[l4.o,if_neg (by rw[ej];decide)]
   replace⟨ae,h3,ej⟩:=H3 ae h3 ej;go_wp2_with (refine ay (.store 99 (.tmp 4) (.tmp 57)) rfl ?_;refine eU rfl 99 (.tmp 4) (.tmp 57) rfl (cs':=jH 0 0 0 0) h3.o.b2 aZ rfl rfl rfl rfl ?_;intro w1 cL aw);exact l5 rfl cL aZ rfl rfl (bN.mk ae.o (λh=>⟨rfl,rfl,rfl⟩) (h3.o.fin aw))
 .have ae:=Hd (wc1.o cv hcv.o fH);have f1:=cM fH;have f2:=gL fH;have sa:=Hd fH;clear fH;go_wp2_with (refine ay (.store 99 (.tmp 4) (.tmp 37)) rfl ?_;refine eU rfl 99 (.tmp 4) (.tmp 37) rfl (cs':=jH cv 4 i 0) h1.o.b2 aZ rfl rfl rfl rfl ?_;intro w1 cL aw);exact l5 rfl cL aZ rfl rfl (bN.mk ae.o.symm (λh=>absurd (ae.o.symm.trans h) sa.o) (h1.o.fin aw))
end dR
