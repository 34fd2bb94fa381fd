/- The document's Check. -/
import Derived.Test.YtjbcbibkhalagaaGreatDoorGm
import Derived.Test.YtjbcbibkhalagaaGreatDoorK1
namespace Go.Proofs.YtjbcbibkhalagaaGreatDoor
set_option maxRecDepth 100000
set_option maxHeartbeats 16000000
open Proofs.Tryz Go.RowKit Go.Deep Go.Maps
set_option linter.unusedVariables false
set_option linter.unusedSimpArgs false
theorem U0 {w B v}{L:List Fg}{G}(h:OL w B eL 162 6 v L.length (L.flatMap nZ)){A n c}(e:v=.slice A n c):Src w A (L.flatMap nZ) G:=by
 have h1:Rd w (λb=>b<w.heap.size) v (.sl L.length (L.flatMap nZ)):=h.rd (λb hb _=>hb.elim) (λb _ h=>h);subst e;obtain⟨A',c',e,_⟩:=h1.cU;injection e with e1 e2 e3
 subst e1 e2 e3;exact Rd.Ie (fD.flatMap LW L) h1
namespace dR
open cH
theorem LY (A c F l q s)(hl:iI l)(hs:jE q)(mF:Cc q)(w)(hK:cW w)(R:QR w F q s)(r:Rd w F (.slice A l.length c) (.sl l.length (l.flatMap fj))):
  Cl 43 #[.agg ⟨[.slice A l.length c]⟩,.agg ⟨qV q s⟩] w (qA (bf (dy l) l q) w):=by
 have h0:=CB.new l A c q s w;obtain⟨y0,y1,y2,y3,y4,y5,y6⟩:=nU h0.sq.b1;have x0:=h0.sq.b0.cell 0;obtain⟨W0,cg⟩:=aB (((w.alloc (.cells ⟨[.slice A l.length c]⟩ 24)).alloc (.cells ⟨qV q s⟩ 31)).alloc (.cells ⟨jH 0 0 0 0⟩ 99))
 rw[<-cg]at h0 y0 y1 y2 y3 y4 y5 y6 x0;have bL:=h0.sq.hb;have wQ:∀W,Bw W0 W->Bw w W:=λW hW=>bL.trans (hW.mono bL.size)
 have cells:∀W,Bw W0 W->CB l A c q s w W:=λW hW=>h0.stay hW
 have k1:Cl 77 #[.agg #[.slice A l.length c]] W0 λe w'=>e=.returned (.int .i64 (dy l))/\Bw W0 w':=gW A c F l hl W0 (hK.stay bL) (R.under bL).lt (r.under bL R.lt)
 have k2:∀W,Bw W0 W->Cl 80 #[.agg ⟨qV q s⟩] W λe w'=>e=.returned (.bool (aL q))/\Bw W w':=λW hW=>CD q s F hs W (hK.stay (wQ W hW)) (R.under (wQ W hW))
 have k3:∀W,Bw w W->Cl 81 #[.agg ⟨[.slice A l.length c]⟩,.agg ⟨qV q s⟩] W (iy (gO l q) W):=λW hW=>IW A c F l q s hl hs mF W (R.under hW).lt (r.under hW R.lt) (R.under hW)
 have k4:aL q=true->∀W,Bw w W->Cl 82 #[.agg ⟨[.slice A l.length c]⟩,.agg ⟨qV q s⟩] W (iy (gP l q) W):=λrD W hW=>I6 A c F l q s hl hs (mC rD).1 W (hK.stay hW) (r.under hW R.lt) (R.under hW)
 have k5:aL q=true->∀W,Bw w W->Cl 83 #[.agg ⟨[.slice A l.length c]⟩,.agg ⟨qV q s⟩] W (iy (mv l q) W):=λrD W hW=>LV A c F l q s hl hs mF (mC rD).2 W (r.under hW R.lt) (R.under hW)
 have wl:aL q=true->(gP l q).length<=6291458:=λrD=>FH l q hs (mC rD).1
 have rl:=Ja l q hs mF;obtain⟨b,hc⟩:=aB (bf (dy l) l q)
 rw[<-hc];have e3:dy l=0->aL q=true->∀L:List Fg,L=(if gO l q=[]then gP l q++mv l q else gO l q)->dI L=b:=λh h2 L hL=>by rw[hc];exact Jb h h2 hL
 generalize dy l=sc at*;have e1:sc≠0->b=sc:=λh=>by rw[hc,ck1 h]
 have e2:sc=0->aL q=false->b=50:=λh h2=>by rw[hc,h,ck2 h2]
 clear hc;generalize gO l q=IF at*;generalize gP l q=WF at*;generalize mv l q=RF at*;generalize aL q=sb at*;obtain⟨A1,c1,A2,c2,A3,c3⟩:=s;simp only[qV,jH,zY]at cg y0 y1 y2 y3 y4 y5 y6 x0 k2 k3 k4 k5 |-;have qd:=Hd cg;replace⟨cells,k1,k2,k3,k4,k5,wl,e1,e2,e3⟩:=yX cells k1 k2 k3 k4 k5 wl e1 e2 e3;clear hl hs hK R r h0 wQ cg bL mF;go_enter func43,ntmps43;go_upto_region 1 with fail
 rw[<-qd.o];go_upto_region 2 with(go_at_call 77;refine k1.o.mono ?_;rintro e W1 ⟨rfl,a9⟩)
 clear x0 y0 y1 y2 y3 y4 y5 y6;have Eu:=cells.o W1 a9;obtain⟨y0,y1,y2,y3,y4,y5,y6⟩:=nU Eu.sq.b1;have x0:=Eu.sq.b0.cell 0;simp only[zY]at x0 y0 y3 y6;replace Eu:=Hd Eu;have fS:=Hd (k2.o W1 a9);by_cases gp:sc=0
 case neg=>
  have ae:=Hd (e1.o gp);have f1:=cM gp;have f2:=gL gp;have sa:=Hd gp;replace a9:=Hd a9;clear gp x0 y0 y1 y2 y3 y4 y5 y6;go_wp2_with (refine ay (.store 99 (.tmp 4) (.tmp 18)) rfl ?_;refine eU rfl 99 (.tmp 4) (.tmp 18) rfl (cs':=jH sc 0 0 0) Eu.o.b2 aZ rfl rfl rfl rfl ?_;intro w1 cL aw);exact l5 rfl cL aZ rfl rfl (qA.mk ae.o.symm (Eu.o.fin aw))
 subst gp;go_upto_region 5 with(go_at_call 80;refine fS.o.mono ?_;rintro e W2 ⟨rfl,aX⟩)
 clear x0 y0 y1 y2 y3 y4 y5 y6;have se:=Eu.o.stay aX;obtain⟨y0,y1,y2,y3,y4,y5,y6⟩:=nU se.sq.b1;have x0:=se.sq.b0.cell 0;simp only[zY]at x0 y0 y3 y6;have Ag:=Hd (k3.o W2 se.sq.hb);replace se:=Hd se;clear a9 aX Eu;cases sb with
 |false=>
  have ae:=Hd (e2.o sJ sJ);clear x0 y0 y1 y2 y3 y4 y5 y6;go_wp2_with (refine ay (.store 99 (.tmp 4) (.tmp 23)) rfl ?_;refine eU rfl 99 (.tmp 4) (.tmp 23) rfl (cs':=jH 50 0 0 0) se.o.b2 aZ rfl rfl rfl rfl ?_;intro w1 cL aw);exact l5 rfl cL aZ rfl rfl (qA.mk ae.o.symm (se.o.fin aw))
 |true=>
  have e3':=Hd (e3.o sJ sJ);have Ca:=Hd (k4.o sJ);have J3:=Hd (k5.o sJ);have wl':=wl.o sJ;clear e1 e2 e3 k4 k5 wl k1 k2;go_upto_region 8 with(go_at_call 81;refine Ag.o.mono ?_;rintro e W3 ⟨v3,rfl,qM,jv⟩)
  obtain⟨A3',c3',rfl⟩:=qM.form;have lQ:CF l A c q ⟨A1,c1,A2,c2,A3,c3⟩ w W3 (.slice A3' IF.length c3') IF:=⟨se.o.stay jv,qM.base se.o.sq.hb.size⟩;clear x0 y0 y1 y2 y3 y4 y5 y6 jv qM se;obtain⟨y0,y1,y2,y3,y4,y5,y6⟩:=nU lQ.cb.sq.b1;have x0:=lQ.cb.sq.b0.cell 0;simp only[zY]at x0 y0 y3 y6;have YY:=Hd (Ca.o W3 lQ.cb.sq.hb);replace lQ:=Hd lQ;go_upto_if 29 with fail
  go_cut [7] (λv wx=>∃L,Hid (L=if IF=[]then WF++RF else IF)/\CF l A c q ⟨A1,c1,A2,c2,A3,c3⟩ w wx v L)
  .by_cases hne:IF=[]
   .have f0:((IF.length:Int)==0)=true:=mf (by rw[hne];rfl);have hlz:IF.length=0:=by rw[hne];rfl
    replace hlz:=Hd hlz;have hL:=Hd (show WF++RF=if IF=[]then WF++RF else IF by rw[if_pos hne]);replace hne:=Hd hne;go_wp2_with (first
     |(go_at_call 82;refine YY.o.mono ?_;rintro e W4 ⟨v4,rfl,lR,fP⟩;obtain⟨A4,c4,rfl⟩:=lR.form;have wU:Hid (CF l A c q ⟨A1,c1,A2,c2,A3,c3⟩ w W4 (.slice A4 WF.length c4) WF):=Hd ⟨lQ.o.cb.stay fP,lR.base lQ.o.cb.sq.hb.size⟩;clear x0 y0 y1 y2 y3 y4 y5 y6 lR fP;obtain⟨y0,y1,y2,y3,y4,y5,y6⟩:=nU wU.o.cb.sq.b1;have x0:=wU.o.cb.sq.b0.cell 0;simp only[zY]at x0 y0 y3 y6)
     |(go_at_call 83;refine(J3.o _ wU.o.cb.sq.hb).mono ?_;rintro e W5 ⟨v5,rfl,iM,sf⟩;obtain⟨A5,c5,rfl⟩:=iM.form;have AA:=Hd (wU.o.stay sf);replace iM:=Hd iM;clear x0 y0 y1 y2 y3 y4 y5 y6 sf)
     |(at_builtin;refine Fu rfl (.tmp 36) (.tmp 37) _ rfl (m:=RF.length) (news:=RF.flatMap nZ) qx AA.o.ol rfl rfl (U0 iM.o rfl) (BO (f:=nZ) (m:=6) (λ_=>rfl) RF) (by unfold maxLen;omega) oQ AA.o.cb.sq.hb.size ?_;intro v' w1 ax aw bu;obtain⟨B3,d3,rfl⟩:=ax.form;have hcb:=Hd (CF.mk (⟨⟨AA.o.cb.sq.hb.grown aw AA.o.cb.sq.hb.size (λq hq=>(AA.o.ol.lt q hq).1),AA.o.cb.sq.b0.grown aw (λe=>AA.o.ol.aU AA.o.cb.sq.b0 dQ e.symm),AA.o.cb.sq.b1.grown aw (λe=>AA.o.ol.aU AA.o.cb.sq.b1 dQ e.symm)⟩,AA.o.cb.b2.grown aw (λe=>AA.o.ol.aU AA.o.cb.b2 dQ e.symm)⟩:CB l A c q ⟨A1,c1,A2,c2,A3,c3⟩ w w1) (show OL w1 w.heap.size eL 162 6 (.slice B3 (WF.length+RF.length) d3) (WF++RF).length ((WF++RF).flatMap nZ) by rw[zH,xD];exact ax));clear ax aw bu))
    all_goals(go_meet;exact⟨WF++RF,hL,hcb.o⟩)
   .have f0:((IF.length:Int)==0)=false:=cM (by have:=List.length_pos_iff.2 hne;omega);have hL:=Hd (show IF=if IF=[]then WF++RF else IF by rw[if_neg hne]);replace hne:=Hd hne;go_wp2
    all_goals(go_meet;exact⟨IF,hL,lQ.o⟩)
  obtain⟨L,hL,hF⟩:=hcut;have hb:=e3'.o L hL.o;clear x0 y0 y1 y2 y3 y4 y5 y6 hL lQ e3' YY Ag k3 Ca J3;obtain⟨A4,c4,rfl⟩:=hF.ol.form;cases L with
  |nil=>
   have fA:=Hd (show(0:Int)=b from hb);replace hF:=Hd hF;clear hb;go_wp2_with (refine ay (.store 99 (.tmp 4) (.tmp 42)) rfl ?_;refine eU rfl 99 (.tmp 4) (.tmp 42) rfl (cs':=jH 0 0 0 0) hF.o.cb.b2 aZ rfl rfl rfl rfl ?_;intro w1 cL aw);exact l5 rfl cL aZ rfl rfl (qA.mk fA.o (hF.o.cb.fin aw))
  |cons z R=>
   have hmx:(z::R).length<=maxLen:=by
    obtain⟨_,_,e,h1,h2⟩:=(hF.ol.rd (G:=λb=>b<wc.heap.size) (λb hb _=>hb.elim) (λb _ h=>h)).cU;injection e with e1 e2 e3
    omega
   have O2:(z::R).length=R.length+1:=rfl;rw[O2]at hmx;unfold maxLen at hmx;have fA:Hid ((cX z R).code=b):=Hd hb;obtain⟨g,cap,e,gl,gf,p0,p1,p2,p3,p4,p5⟩:=Te (i:=0) (x:=z) hF.ol rfl;simp only[O2,Nat.zero_mul,Nat.zero_add]at e p0 p1 p2 p3 p4 p5;injection e with e1 e2 e3
   subst e1;simp only[O2]at hF |-;have Fk:∀(k:Nat) x W,R[k]? =some x->CF l A c q ⟨A1,c1,A2,c2,A3,c3⟩ w W (.slice (some ⟨g,0,none⟩) (R.length+1) c4) (z::R)->_:=λk x W hx h=>Te (i:=k+1) (x:=x) h.ol hx
   replace⟨hF,Fk,O2⟩:=H3 hF Fk O2;clear hb e2 e3;have iz:Hid (CX l A c q ⟨A1,c1,A2,c2,A3,c3⟩ wc.heap.size (cX z (R.take 0)) w (wc.alloc (.cells ⟨wR z⟩ 162)) (.slice (some ⟨g,0,none⟩) (R.length+1) c4) (z::R)):=
    ⟨hF.o.stay bA,ao.new _ _ _,by have:=hF.o.cb.b2.lt;omega⟩
   have aiA:g<wc.heap.size:=gl;simp only[wR]at iz;go_wp2;clear p0 p1 p2 p3 p4 p5 gf gl;go_loopw [11] (λi wr=>∃k:Nat,k<=R.length/\i=.int .i64 ((k+1:Nat):Int)/\CX l A c q ⟨A1,c1,A2,c2,A3,c3⟩ wc.heap.size (cX z (R.take k)) w wr (.slice (some ⟨g,0,none⟩) (R.length+1) c4) (z::R)) (λi _=>R.length+1- (intOf i).toNat)
   .exact⟨0,zE _,rfl,iz.o⟩
   clear iz hF;obtain⟨k,hk,rfl,hX⟩:=hrel;by_cases hlt:k<R.length
   .obtain⟨x,hx⟩:=av hlt;have bz:=FK (b:=z) hx;obtain⟨g',cap',e,_,_,p0,p1,p2,p3,p4,p5⟩:=Fk.o k x wr hx hX.cf;injection e with e1 e2 e3
    injection e1 with e1
    injection e1 with e1 e4 e5
    clear e2 e3 e4 e5;subst e1;have q1:((k+1:Nat):Int)<(R.length:Int)+1:=oQ;have q2:(0:Int)<=((k+1:Nat):Int):=oQ;have q3:((k+1:Nat):Int)<((R.length+1:Nat):Int):=oQ;have uv:k+1<=R.length:=oQ;generalize cX z (R.take k)=bk at*;obtain⟨r0,r1,r2,r3,r4,r5⟩:=De hX.bb;have yp:∀W,Cl 84 #[.agg ⟨wR x⟩,.agg ⟨wR bk⟩] W λe w'=>e=.returned (.bool (decide (pO x bk)))/\Bw W w':=λW=>Qm x bk W
    have xx:=λW (hX:CX l A c q ⟨A1,c1,A2,c2,A3,c3⟩ wc.heap.size bk w W (.slice (some ⟨g,0,none⟩) (R.length+1) c4) (z::R))=>Fk.o k x W hx hX.cf
    obtain⟨kl,ux⟩:=aB (decide (pO x bk))
    rw[<-ux]at yp;have YZ:Hid (cX z (R.take (k+1))=if kl=true then x else bk):=by show _=_;rw[bz,ux];simp
    clear bz ux;generalize qy:k+1=kn at*;obtain⟨x1,x2,x3,x4,x5,x6⟩:=x;obtain⟨b1,b2,b3,b4,b5,b6⟩:=bk;simp only[wR]at yp p0 p1 p2 p3 p4 p5 r0 r1 r2 r3 r4 r5;replace⟨yp,xx,qy,hx,hX⟩:=H5 yp xx qy hx hX;go_upto_region 18 with fail
    go_cut [12] (λs wx=>s=.bool kl/\CX l A c q ⟨A1,c1,A2,c2,A3,c3⟩ wc.heap.size ⟨b1,b2,b3,b4,b5,b6⟩ w wx (.slice (some ⟨g,0,none⟩) (R.length+1) c4) (z::R))
    .go_region_law ((go_simp;(go_at_call 84;refine(yp.o _).eQ λW hW=>?_;replace hX:=Hd (hX.o.stay (by first|exact hW |exact(bR).drew.trans hW |exact(below_drewN bR _).trans hW));clear hW)))
     all_goals(go_wp2;all_goals(go_meet;exact⟨rfl,hX.o⟩))
    obtain⟨rfl,yk⟩:=hcut;clear p0 p1 p2 p3 p4 p5 r0 r1 r2 r3 r4 r5 hX;obtain⟨g',cap',e,I5,_,p0,p1,p2,p3,p4,p5⟩:=xx.o _ yk;injection e with e1 e2 e3
    injection e1 with e1
    injection e1 with e1 e4 e5
    clear e2 e3 e4 e5;subst e1;have hX:=Hd yk;clear yk xx yp;cases kl with
    |true=>
     have wm:Hid (cX z (R.take kn)=⟨x1,x2,x3,x4,x5,x6⟩):=by show _=_;rw[YZ.o,if_pos rfl]
     go_wp2_with (refine ay (.store 162 (.tmp 10) (.tmp 62)) rfl ?_;refine eU rfl 162 (.tmp 10) (.tmp 62) rfl (cs':=wR ⟨x1,x2,x3,x4,x5,x6⟩) hX.o.bb Ln rfl rfl rfl rfl ?_;intro w1 cL aw;have Fp:=Hd (hX.o.put (by simp[Value.ownBlock];omega) aw cL);clear cL aw);go_roundw
     .exact⟨kn,uv,gQ,by rw[wm.o];exact Fp.o⟩
     exact mQ
    |false=>
     have wm:Hid (cX z (R.take kn)=⟨b1,b2,b3,b4,b5,b6⟩):=by show _=_;rw[YZ.o,if_neg sJ]
     go_wp2;go_roundw
     .exact⟨kn,uv,gQ,by rw[wm.o];exact hX.o⟩
     exact mQ
   .obtain rfl:k=R.length:=oQ;rw[zL]at hX;obtain⟨r0,r1,r2,r3,r4,r5⟩:=De hX.bb;replace hX:=Hd hX;generalize cX z R=bk at*;obtain⟨b1,b2,b3,b4,b5,b6⟩:=bk;go_wp2_with (refine ay (.store 99 (.tmp 4) (.tmp 64)) rfl ?_;refine eU rfl 99 (.tmp 4) (.tmp 64) rfl (cs':=jH b3 b4 b5 b6) hX.o.cf.cb.b2 aZ rfl rfl rfl rfl ?_;intro w1 cL aw);exact l5 rfl cL aZ rfl rfl (qA.mk fA.o (hX.o.cf.cb.fin aw))
end dR
theorem qB {a}(h:fz a=0):∀c∈a,c=0:=by
 induction a with
 |nil=>intro c hc;cases hc
 |cons x r ih=>
  unfold fz at h;by_cases hx:x=0
  .rw[if_pos hx]at h;intro c hc;rcases List.mem_cons.1 hc with rfl |hc
   .exact hx
   .exact ih h c hc
  .rw[if_neg hx]at h;exact absurd h hx
theorem Df {α β f}:∀{l:List α}{n i:Nat}{x:α}{b:β},l[i]? =some x->b∈f (n+i) x->b∈aO f n l
 | [],_,_,_,_,h,_=>by cases h
 |y::r,n,0,x,b,h,hb=>by
  injection h with h;subst h
  exact List.mem_append_left _ hb
 |y::r,n,i+1,x,b,h,hb=>xN _ (Df (n:=n+1) (i:=i) h (by rw[show n+1+i=n+(i+1) by omega];exact hb))
theorem LZ {S q}(h:bM S q=0):q.items.length<=10/\∀(i:Nat) x,q.items[i]? =some x->fN S x=0/\(i:Int)<=aM q x.v:=by
 unfold bM at h;by_cases h1:10<q.items.length
 .rw[if_pos h1]at h;omega
 rw[if_neg h1,zi]at h;refine⟨oQ,λi x hx=>?_⟩;have h2:fz (aO (λi x=>[if fN S x≠0 then fN S x else if aM q x.v<(i:Int)then 64 else 0]) 0 q.items)=0:=by
  split at h
  .assumption
  .assumption
 have h3:=qB h2 _ (Df (f:=λ(i:Nat) x=>[if fN S x≠0 then fN S x else if aM q x.v<(i:Int)then 64 else 0]) (n:=0) hx (xB.2 rfl));by_cases h4:fN S x=0
 .rw[if_neg (by simpa using h4)]at h3;refine⟨h4,?_⟩;by_cases h5:aM q x.v<((0+i:Nat):Int)
  .rw[if_pos h5]at h3;omega
  .omega
 .rw[if_pos h4]at h3;exact absurd h3 h4
theorem Dg {q}{i:Nat}{x}(h:q.items[i]? =some x):aM q x.v<=i:=yq (j:=i) (by unfold lZ;rw[zG,h];rfl)
theorem Hc {S q t res}(h:fC S q t res=0):∀x∈t,j6 S q res x=0:=λx hx=>by
 have h1:=qB h _ (xJ hx);unfold GU at h1;exact qB h1 _ xS
theorem He {S q res x}(hf:bI x=true)(h:j6 S q res x=0):x.at_=emp\/∃it∈q.items,it.v=x.v/\hasB S it.ah x.at_=true:=by
 unfold bI at hf;simp only[xK]at hf;obtain⟨_,ha⟩:=hf;by_cases hi:qW x.op=true
 .rw[if_pos hi]at ha;unfold qW isVar at hi;simp only[xK,decide_eq_true_eq,Bool.not_eq_true',decide_eq_false_iff_not]at hi;obtain⟨⟨h4,h11⟩,h5⟩:=hi;unfold j6 at h;rw[if_neg (by unfold bC dm;simp;omega)]at h;unfold mY at h;by_cases hn:aM q x.v<0
  .rw[if_pos hn]at h;simp at h
  rw[if_neg hn]at h;cases hit:q.items[(aM q x.v).toNat]? with
  |none=>rw[hit]at h;simp at h
  |some it=>
   rw[hit]at h;simp only at h;refine .inr ⟨it,zA hit,?_,?_⟩
   .obtain⟨i,h1,h2⟩:=nr (l:=lZ q) (s:=x.v) (by unfold aM at hn;omega);unfold lZ at h2;rw[zG]at h2;have e:(aM q x.v).toNat=i:=by unfold aM;rw[h1];omega
    rw[e]at hit;rw[hit]at h2;simpa using h2
   .by_cases hb:hasB S it.ah x.at_=true
    .exact hb
    .rw[if_pos ⟨h5,by simpa using hb⟩]at h;omega
 .rw[if_neg hi]at ha;exact .inl (of_decide_eq_true ha)
theorem qC {S q}(h:bf (dy S) S q=0):dy S=0/\aL q=true/\q.items.length<=10/\q.ret.length<=8/\O' S q:=by
 have hz:=qB h;have z1:dy S=0:=hz _ sJ;have z2:(if aL q=true then(0:Int)else 50)=0:=hz _ sJ;have z3:bM S q=0:=hz _ sJ;have z4:cA S q=0:=hz _ sJ;have z5:mj S q=0:=hz _ sJ;have z6:mq S q=0:=hz _ sJ;have rD:aL q=true:=by
  by_cases h1:aL q=true
  .exact h1
  .rw[if_neg h1]at z2;omega
 have U1:=rD;unfold aL at U1;simp only[xK,Bool.or_eq_true,decide_eq_true_eq]at U1;obtain⟨i0,_,_,_,_,_,hi,hw,ju,hr⟩:=U1;obtain⟨iT,hit⟩:=LZ z3;have r8:¬8<q.ret.length:=λh8=>by unfold mq at z6;rw[if_pos h8]at z6;omega
 refine⟨z1,rD,iT,oQ,?_,?_,i0,?_,?_⟩
 .intro x hx;have h1:=xP.1 hi x hx;unfold me at h1;simp only[xK,decide_eq_true_eq]at h1;obtain⟨i,hxi⟩:=zN hx;have h2:=(hit i x hxi).1;refine⟨h1.1,λn hn=>?_⟩;unfold fN at h2;by_cases h3:x.ah.any (λn=>decide (lJ S n))=true
  .rw[if_pos h3]at h2;omega
  .rw[xM]at h3;have h4:¬lJ S n:=λh4=>h3 ⟨n,hn,zW h4⟩
   unfold lJ at h4;omega
 .intro i j x y hx hy e;have h1:=(hit i x hx).2;have h2:=(hit j y hy).2;have h3:=Dg hx;have h4:=Dg hy;rw[e]at h1 h3;omega
 .by_cases he:q.au=emp
  .exact .inl he
  .unfold mj at z5;rw[if_neg he]at z5;by_cases hp:mh S q=true
   .unfold mh at hp;simp only[xK,Bool.not_eq_true',decide_eq_false_iff_not]at hp;exact .inr ⟨hp.1,λx hx=>xP.1 hp.2 x hx⟩
   .rw[if_neg hp]at z5;omega
 .intro t ht x hx;rcases ht with rfl |ht
  .have hne:q.wh≠ []:=λe=>by rw[e]at hx;cases hx
   unfold cA at z4;rw[if_neg hne]at z4;have h1:=qB z4 (fC S q q.wh false) sJ;have Iq:aW q.wh=true:=hw.resolve_left λe=>hne (List.eq_nil_of_length_eq_zero e)
   exact He ((dF Iq).2.2 x hx) (Hc h1 x hx)
  .unfold mq at z6;rw[if_neg r8]at z6;have h1:=qB z6 _ (xJ ht);have h2:=qB h1 (fC S q t true) sJ;exact He ((dF (xP.1 hr t ht)).2.2 x hx) (Hc h2 x hx)
def nu (ty fr:Int):List Kd->ByteArray->Option ByteArray
 | [],out=>some out
 |k::r,out=>if k.fr≠ty then nu ty fr r out else match k.fs.find? (λf=>decide (f.fr=fr))with
  |none=>none
  |some f=>if out≠emp/\f.nm≠out then none else nu ty fr r f.nm
def vq (S:List Td)(T:List Kd)(a:ByteArray):List ByteArray->ByteArray->Option ByteArray
 | [],out=>some out
 |n::r,out=>match nu (aj (aY S) n) (bG S (aj (aY S) n) a) T out with
  |none=>none
  |some o=>vq S T a r o
def bJ (S:List Td)(T:List Kd)(ah:List ByteArray)(a:ByteArray):Option ByteArray:=if a=jk then some jk else match vq S T a ah emp with
 |none=>none
 |some o=>if o=emp then none else some o
def eZ (S:List Td)(T:List Kd)(n:ByteArray):ByteArray:=match T.find? (λk=>decide (k.fr=aj (aY S) n))with
 |some k=>k.nm
 |none=>emp
def ij (S:List Td)(T:List Kd)(q:Qy)(x:Nd):Option Nd:=if x.at_=emp then some x else match q.items[(aM q x.v).toNat]? with
 |none=>none
 |some it=>(bJ S T it.ah x.at_).map λa=>{x with at_:=a}
def bB (S:List Td)(T:List Kd)(q:Qy):List Nd->Option (List Nd)
 | []=>some []
 |x::r=>match ij S T q x with
  |none=>none
  |some y=>(bB S T q r).map (y:: ·)
def fT (S:List Td)(T:List Kd)(q:Qy):List (List Nd)->Option (List (List Nd))
 | []=>some []
 |x::r=>match bB S T q x with
  |none=>none
  |some y=>(fT S T q r).map (y:: ·)
def wA (S:List Td)(T:List Kd)(it:It):It:={it with ah:=it.ah.map (eZ S T)}
def dP (q:Qy):List ByteArray:=q.items.flatMap (·.ah)
def bK (S:List Td)(T:List Kd)(q:Qy):Option Qy:=match bB S T q q.wh with
 |none=>none
 |some wh=>match fT S T q q.ret with
  |none=>none
  |some ret=>if q.au=emp then some {q with items:=q.items.map (wA S T),wh:=wh,ret:=ret}else match bJ S T (dP q) q.au with
   |none=>none
   |some b=>some {q with items:=q.items.map (wA S T),wh:=wh,ret:=ret,au:=b}
def cn (S:List Td)(T:List Kd)(a n:ByteArray):ByteArray:=(aF S n a T).getD emp
def cz (S:List Td)(T:List Kd)(q:Qy)(x:Nd):Nd:=if x.at_=emp\/x.at_=jk then x else match q.items.find? (λit=>decide (it.v=x.v))with
 |none=>x
 |some it=>{x with at_:=cn S T x.at_ (it.ah.headD emp)}
def mG (S:List Td)(T:List Kd)(q:Qy):Qy:=
 {q with items:=q.items.map (λit=>{it with ah:=it.ah.map (cn S T emp)}),wh:=q.wh.map (cz S T q),ret:=q.ret.map (λt=>t.map (cz S T q)),au:=if q.au=emp then emp else cn S T q.au ((q.items.headD ⟨false,[],emp,0,0⟩).ah.headD emp)}
structure qh (S:List Td)(T:List Kd)(q:Qy):Prop where
 uq:Jc T
 nm:∀k∈T,k.nm≠emp/\∀f∈k.fs,f.nm≠emp
 th:dp S T (aI q)=true
 ok:O' S q
 sc:dy S=0
theorem QK (ty fr l m out):nu ty fr (l++m) out=(nu ty fr l out).bind (nu ty fr m):=by
 induction l generalizing out with
 |nil=>rfl
 |cons k r ih=>
  show(if k.fr≠ty then nu ty fr (r++m) out else match k.fs.find? (λf=>decide (f.fr=fr))with |none=>none |some f=>if out≠emp/\f.nm≠out then none else nu ty fr (r++m) f.nm)=(if k.fr≠ty then nu ty fr r out else match k.fs.find? (λf=>decide (f.fr=fr))with |none=>none |some f=>if out≠emp/\f.nm≠out then none else nu ty fr r f.nm).bind (nu ty fr m)
  by_cases h:k.fr≠ty
  .rw[if_pos h,if_pos h,ih]
  .rw[if_neg h,if_neg h];cases k.fs.find? (λf=>decide (f.fr=fr))with
   |none=>rfl
   |some f=>
    simp only;by_cases h2:out≠emp/\f.nm≠out
    .rw[if_pos h2,if_pos h2];rfl
    .rw[if_neg h2,if_neg h2,ih]
theorem Dh {ty fr l}(h:∀k∈l,k.fr≠ty)(out):nu ty fr l out=some out:=by
 induction l with
 |nil=>rfl
 |cons k r ih=>
  unfold nu;rw[if_pos (h k xS)];exact ih λk hk=>h k (xU _ hk)
theorem L5 {T}(hu:Jc T){a:Nat}(h:ny T a):∃l k r,T=l++k::r/\k.fr=(a:Int)/\(∀y∈l,y.fr≠(a:Int))/\∀y∈r,y.fr≠(a:Int):=by
 obtain⟨k,hk,e⟩:=h;obtain⟨l,r,rfl⟩:=List.append_of_mem hk;refine⟨l,k,r,rfl,e,λy hy e2=>?_,λy hy e2=>?_⟩
 .have:=hu.kd;rw[xR,List.pairwise_append]at this;exact this.2.2 y.fr (xJ hy) k.fr sJ oQ oQ
 .have:=hu.kd;rw[xR,List.pairwise_append,List.map_cons,List.pairwise_cons]at this;exact this.2.1.1 y.fr (xJ hy) oQ oQ
theorem vr {S n a l m}(h:∀k∈l,k.fr≠aj (aY S) n):aF S n a (l++m)=aF S n a m:=by
 induction l with
 |nil=>rfl
 |cons k r ih=>
  show aF S n a (k::(r++m))=_
  rw[aF,if_pos (h k xS)];exact ih λk hk=>h k (xU _ hk)
theorem L6 {S T n a}(hu:Jc T)(ha:a≠emp){p:Nat}(hp:aj (aY S) n=p)(h:(aF S n a T).isSome=true)(out):nu (aj (aY S) n) (bG S (aj (aY S) n) a) T out=if out≠emp/\cn S T a n≠out then none else some (cn S T a n):=by
 have h2:=(AE ha).1 h;rw[hp]at h2;obtain⟨l,k,r,rfl,e,e1,e2⟩:=L5 hu (a:=p) (by obtain⟨k,hk,e,_⟩:=h2;exact⟨k,hk,e⟩);have h3:aF S n a (l++k::r)=aF S n a (k::r):=vr (by rw[hp];exact e1);have h4:aF S n a r=none:=by
  have:=vr (S:=S) (n:=n) (a:=a) (l:=r) (m:=[]) (by rw[hp];exact e2);rw[zT]at this;rw[this];rfl
 rw[aF,if_neg (by rw[hp];simpa using e),if_neg ha]at h3;rw[QK,Dh (by rw[hp];exact e1)];show nu _ _ (k::r) out=_
 rw[nu,if_neg (by rw[hp];simpa using e)];unfold cn;rw[h3]at h |-;cases hf:k.fs.find? (λf=>decide (f.fr=bG S (aj (aY S) n) a))with
 |none=>rw[hf]at h;simp only at h;rw[h4]at h;cases h
 |some f=>
  simp only[Option.getD_some];by_cases h5:out≠emp/\f.nm≠out
  .rw[if_pos h5,if_pos h5]
  .rw[if_neg h5,if_neg h5,Dh (by rw[hp];exact e2)]
theorem Y0 {S T n a}(hn:∀k∈T,k.nm≠emp/\∀f∈k.fs,f.nm≠emp)(h:(aF S n a T).isSome=true):cn S T a n≠emp:=by
 unfold cn;induction T with
 |nil=>cases h
 |cons k r ih=>
  have K0:=ih λk hk=>hn k (xU _ hk)
  have hk:=hn k xS;unfold aF at h |-;by_cases h1:k.fr≠aj (aY S) n
  .rw[if_pos h1]at h |-;exact K0 h
  .rw[if_neg h1]at h |-;by_cases h2:a=emp
   .rw[if_pos h2];exact hk.1
   .rw[if_neg h2]at h |-;cases hf:k.fs.find? (λf=>decide (f.fr=bG S (aj (aY S) n) a))with
    |none=>rw[hf]at h;exact K0 h
    |some f=>exact hk.2 f (List.mem_of_find?_eq_some hf)
theorem L9 {S T a}(hu:Jc T)(hn:∀k∈T,k.nm≠emp/\∀f∈k.fs,f.nm≠emp)(ha:a≠emp):∀(ah:List ByteArray)(out:ByteArray),(∀n∈ah,0<=aj (aY S) n/\(aF S n a T).isSome=true)->out≠emp->vq S T a ah out=if ah.all (λn=>decide (cn S T a n=out))=true then some out else none
 | [],out,_,_=>rfl
 |n::r,out,h,ho=>by
  obtain⟨h1,h2⟩:=h n xS;obtain⟨p,hp⟩:∃p:Nat,aj (aY S) n=p:=⟨_,(Int.toNat_of_nonneg h1).symm⟩
  unfold vq;rw[L6 hu ha hp h2];by_cases h3:cn S T a n=out
  .rw[if_neg (λh=>h.2 h3),h3];simp only;rw[L9 hu hn ha r out (λm hm=>h m (xU _ hm)) ho,List.all_cons,zW h3,xE]
  .rw[if_pos ⟨ho,h3⟩,List.all_cons,zV h3];rfl
theorem Jd {S T a}(hu:Jc T)(hn:∀k∈T,k.nm≠emp/\∀f∈k.fs,f.nm≠emp)(ha:a≠emp)(gw:a≠jk){ah}(hl:0<ah.length)(h:∀n∈ah,0<=aj (aY S) n/\(aF S n a T).isSome=true):
  bJ S T ah a=if ah.all (λn=>decide (cn S T a n=cn S T a (ah.headD emp)))=true then some (cn S T a (ah.headD emp))else none:=by
 cases ah with
 |nil=>simp at hl
 |cons n r=>
  obtain⟨h1,h2⟩:=h n xS;obtain⟨p,hp⟩:∃p:Nat,aj (aY S) n=p:=⟨_,(Int.toNat_of_nonneg h1).symm⟩
  have hne:=Y0 hn h2;unfold bJ;rw[if_neg gw];unfold vq;rw[L6 hu ha hp h2,if_neg (λh=>h.1 rfl)];simp only;rw[L9 hu hn ha r _ (λm hm=>h m (xU _ hm)) hne];show _=if(n::r).all (λm=>decide (cn S T a m=cn S T a n))=true then some (cn S T a n)else none
  rw[List.all_cons,zW rfl,xE];by_cases hA:r.all (λm=>decide (cn S T a m=cn S T a n))=true
  .rw[if_pos hA];exact if_neg hne
  .rw[if_neg hA]
theorem Je {S T n}(h:(aF S n emp T).isSome=true):eZ S T n=cn S T emp n:=by
 unfold eZ cn;induction T with
 |nil=>cases h
 |cons k r ih=>
  unfold aF at h |-;by_cases h1:k.fr≠aj (aY S) n
  .rw[if_pos h1]at h |-;rw[List.find?_cons_of_neg (by simpa using h1)];exact ih h
  .rw[if_neg h1,if_pos rfl,List.find?_cons_of_pos (by simpa using h1)];rfl
section
variable {S:List Td}{T:List Kd}{q:Qy}
theorem qh.call (F:qh S T q){d}(hd:d∈aI q){n}(hn:n∈d.ah):0<=aj (aY S) n/\(aF S n d.at_ T).isSome=true:=by
 obtain⟨a,t,h1,_⟩:=uD F.sc F.ok hd hn;exact⟨oQ,xP.1 (xP.1 F.th d hd) n hn⟩
theorem qh.Tf (F:qh S T q){d}(hd:d∈aI q)(ha:d.at_≠emp)(gw:d.at_≠jk)(hl:0<d.ah.length):bJ S T d.ah d.at_=if d.ah.all (λn=>decide (cn S T d.at_ n=cn S T d.at_ (d.ah.headD emp)))=true then some (cn S T d.at_ (d.ah.headD emp))else none:=
 Jd F.uq F.nm ha gw hl λn hn=>F.call hd hn
theorem Di (h:O' S q){it}(hit:it∈q.items){v}(hv:it.v=v):q.items[(aM q v).toNat]? =some it/\q.items.find? (λx=>decide (x.v=v))=some it:=by
 obtain⟨i,hi⟩:=zN hit;have hvi:(lZ q)[i]? =some v:=by unfold lZ;rw[zG,hi,<-hv];rfl
 have h1:aM q v=i:=dC hvi λj a hj sQ e=>by
  unfold lZ at hj;rw[zG]at hj;obtain⟨y,hy,e2⟩:=xG.1 hj;have:=h.vars j i y it hy hi (by rw[e2,e,hv]);omega
 refine⟨by rw[h1,Int.toNat_natCast];exact hi,?_⟩;cases hf:q.items.find? (λx=>decide (x.v=v))with
 |none=>
  have:=List.find?_eq_none.1 hf it hit;simp[hv]at this
 |some y=>
  have h2:=List.mem_of_find?_eq_some hf;have h3:=List.find?_some hf;rw[decide_eq_true_eq]at h3;obtain⟨j,hj⟩:=zN h2;have:=h.vars i j it y hi hj (by rw[h3,hv]);subst this;rw[hi]at hj;injection hj with hj;rw[hj]
theorem QL (F:qh S T q){t}(ht:t=q.wh\/t∈q.ret){x}(hx:x∈t):(kD q x).all (λd=>d.ah.all λn=>decide ((aF S n d.at_ T).getD emp=(aF S (d.ah.headD emp) d.at_ T).getD emp))=true/\ij S T q x=some (cz S T q x)\/
  (kD q x).all (λd=>d.ah.all λn=>decide ((aF S n d.at_ T).getD emp=(aF S (d.ah.headD emp) d.at_ T).getD emp))=false/\ij S T q x=none:=by
 rcases F.ok.nd t ht x hx with h |⟨it,hit,hv,hb⟩
 .refine .inl ⟨?_,?_⟩
  .unfold kD;rw[if_pos (.inl h)];rfl
  .unfold ij cz;rw[if_pos h,if_pos (.inl h)]
 obtain⟨g1,g2⟩:=Di F.ok hit hv;by_cases he:x.at_=emp
 .refine .inl ⟨?_,?_⟩
  .unfold kD;rw[if_pos (.inl he)];rfl
  .unfold ij cz;rw[if_pos he,if_pos (.inl he)]
 by_cases hs:x.at_=jk
 .refine .inl ⟨?_,?_⟩
  .unfold kD;rw[if_pos (.inr hs)];rfl
  .unfold ij cz bJ;rw[if_neg he,if_pos (.inr hs),g1];simp only;rw[if_pos hs];simp only[Option.map_some];rw[<-hs]
 have hd:∀Tg∈q.items,Tg.v=x.v->Tg=it:=λTg h1 h2=>by
  have:=(Di F.ok h1 h2).1;rw[g1]at this;injection this with this;exact this.symm
 have pP:(⟨it.ah,x.at_⟩:py)∈kD q x:=by
  unfold kD;rw[if_neg (λh=>h.elim he hs)];exact List.mem_map.2 ⟨it,List.mem_filter.2 ⟨hit,by simpa using hv⟩,rfl⟩
 have Y1:(⟨it.ah,x.at_⟩:py)∈aI q:=by
  unfold aI;refine xN _ (xN _ ?_);rcases ht with rfl |ht
  .exact List.mem_append_left _ (xF.2 ⟨x,hx,pP⟩)
  .exact xN _ (xF.2 ⟨t,ht,xF.2 ⟨x,hx,pP⟩⟩)
 have lK:(kD q x).all (λd=>d.ah.all λn=>decide ((aF S n d.at_ T).getD emp=(aF S (d.ah.headD emp) d.at_ T).getD emp))=it.ah.all λn=>decide (cn S T x.at_ n=cn S T x.at_ (it.ah.headD emp)):=by
  rw[Bool.eq_iff_iff];constructor
  .intro h;exact xP.1 h _ pP
  .intro h;refine xP.2 λd XJ=>?_
   unfold kD at XJ;rw[if_neg (λh=>h.elim he hs)]at XJ;obtain⟨Tg,h2,rfl⟩:=List.mem_map.1 XJ;obtain⟨h3,h4⟩:=List.mem_filter.1 h2;rw[hd Tg h3 (of_decide_eq_true h4)];exact h
 have si:=F.Tf Y1 he hs (F.ok.ah it hit).1;simp only at si;rw[lK];unfold ij cz;rw[if_neg he,if_neg (λh=>h.elim he hs),g1,g2];simp only;rw[si];cases hA:it.ah.all λn=>decide (cn S T x.at_ n=cn S T x.at_ (it.ah.headD emp))with
 |true=>exact .inl ⟨rfl,by rw[if_pos rfl];rfl⟩
 |false=>exact .inr ⟨rfl,by rw[if_neg sJ];rfl⟩
theorem Hf (F:qh S T q){t}(ht:t=q.wh\/t∈q.ret):bW S T (aA q t)=true/\bB S T q t=some (t.map (cz S T q))\/bW S T (aA q t)=false/\bB S T q t=none:=by
 suffices hs:∀l:List Nd,(∀x∈l,x∈t)->bW S T (aA q l)=true/\bB S T q l=some (l.map (cz S T q))\/bW S T (aA q l)=false/\bB S T q l=none from hs t λx hx=>hx
 intro l;induction l with
 |nil=>intro _;exact .inl ⟨rfl,rfl⟩
 |cons x r ih=>
  intro h;have K0:=ih λy hy=>h y (xU _ hy)
  have J7:bW S T (aA q (x::r))=((kD q x).all (λd=>d.ah.all λn=>decide ((aF S n d.at_ T).getD emp=(aF S (d.ah.headD emp) d.at_ T).getD emp))&&bW S T (aA q r)):=by
   unfold bW aA;rw[zK,List.all_append]
  rw[J7];unfold bB;rcases QL F ht (h x xS)with⟨h1,h2⟩|⟨h1,h2⟩
  .rw[h1,h2];rcases K0 with⟨h3,h4⟩|⟨h3,h4⟩
   .exact .inl ⟨by rw[h3];rfl,by simp only;rw[h4];rfl⟩
   .exact .inr ⟨by rw[h3];rfl,by simp only;rw[h4];rfl⟩
  .exact .inr ⟨by rw[h1];rfl,by rw[h2]⟩
theorem U2 (F:qh S T q):bW S T (q.ret.flatMap (aA q))=true/\fT S T q q.ret=some (q.ret.map λt=>t.map (cz S T q))\/bW S T (q.ret.flatMap (aA q))=false/\fT S T q q.ret=none:=by
 suffices hs:∀l:List (List Nd),(∀x∈l,x∈q.ret)->bW S T (l.flatMap (aA q))=true/\fT S T q l=some (l.map λt=>t.map (cz S T q))\/bW S T (l.flatMap (aA q))=false/\fT S T q l=none from hs q.ret λx hx=>hx
 intro l;induction l with
 |nil=>intro _;exact .inl ⟨rfl,rfl⟩
 |cons x r ih=>
  intro h;have K0:=ih λy hy=>h y (xU _ hy)
  have J7:bW S T ((x::r).flatMap (aA q))=(bW S T (aA q x)&&bW S T (r.flatMap (aA q))):=by
   unfold bW;rw[zK,List.all_append]
  rw[J7];unfold fT;rcases Hf F (.inr (h x xS))with⟨h1,h2⟩|⟨h1,h2⟩
  .rw[h1,h2];rcases K0 with⟨h3,h4⟩|⟨h3,h4⟩
   .exact .inl ⟨by rw[h3];rfl,by simp only;rw[h4];rfl⟩
   .exact .inr ⟨by rw[h3];rfl,by simp only;rw[h4];rfl⟩
  .exact .inr ⟨by rw[h1];rfl,by rw[h2]⟩
theorem U4 (F:qh S T q):q.items.map (wA S T)=q.items.map (λit=>{it with ah:=it.ah.map (cn S T emp)}):=by
 apply List.map_congr_left;intro it hit;unfold wA;congr 1;apply List.map_congr_left;intro n hn;have hd:(⟨[n],emp⟩:py)∈aI q:=by
  unfold aI;exact List.mem_append_left _ (xF.2 ⟨it,hit,List.mem_map.2 ⟨n,hn,rfl⟩⟩)
 exact Je (F.call hd (xB.2 rfl)).2
theorem Ma (h:O' S q):0<(dP q).length/\(dP q).headD emp=((q.items.headD ⟨false,[],emp,0,0⟩).ah.headD emp):=by
 have h1:=h.il;have h2:=h.ah;unfold dP;cases hi:q.items with
 |nil=>rw[hi]at h1;simp at h1
 |cons it r=>
  have h3:=(h2 it (by rw[hi];simp)).1;rw[zK];cases ht:it.ah with
  |nil=>rw[ht]at h3;simp at h3
  |cons n m=>simp[ht]
theorem yr (F:qh S T q):bK S T q=if bW S T (aI q)=true then some (mG S T q)else none:=by
 have Et:bW S T (aI q)=((if q.au=emp then true else(dP q).all (λn=>decide (cn S T q.au n=cn S T q.au ((dP q).headD emp))))&&(bW S T (aA q q.wh)&&bW S T (q.ret.flatMap (aA q)))):=by
  unfold bW aI;rw[List.all_append,List.all_append,List.all_append];have h1:(q.items.flatMap (λit=>it.ah.map λn=>(⟨[n],emp⟩:py))).all (λd=>d.ah.all λn=>decide ((aF S n d.at_ T).getD emp=(aF S (d.ah.headD emp) d.at_ T).getD emp))=true:=by
   refine xP.2 λd hd=>?_
   obtain⟨it,_,hd⟩:=xF.1 hd;obtain⟨n,_,rfl⟩:=List.mem_map.1 hd;simp
  rw[h1,xE];congr 1;by_cases hb:q.au=emp
  .rw[if_pos hb,if_pos hb];rfl
  .rw[if_neg hb,if_neg hb,List.all_cons,List.all_nil,Bool.and_true];rfl
 rw[Et];unfold bK;rcases Hf F (t:=q.wh) (.inl rfl)with⟨h1,h2⟩|⟨h1,h2⟩
 .rw[h1,h2];simp only;rcases U2 F with⟨h3,h4⟩|⟨h3,h4⟩
  .rw[h3,h4];simp only;rw[U4 F];by_cases hb:q.au=emp
   .rw[if_pos hb,if_pos hb,if_pos (by rfl)];unfold mG;rw[if_pos hb];congr 1;rw[<-hb]
   .rw[if_neg hb,if_neg hb];obtain⟨a1,a2⟩:=Ma F.ok;have hd:(⟨dP q,q.au⟩:py)∈aI q:=by
     unfold aI;refine xN _ (List.mem_append_left _ ?_);rw[if_neg hb];exact xB.2 rfl
    have gw:q.au≠jk:=(F.ok.au.resolve_left hb).1;have si:=F.Tf hd hb gw a1;simp only at si;rw[si];cases hA:(dP q).all (λn=>decide (cn S T q.au n=cn S T q.au ((dP q).headD emp)))with
    |true=>
     rw[if_pos (by rfl),if_pos (by rfl)];unfold mG;rw[if_neg hb,a2]
    |false=>
     rw[if_neg sJ,if_neg sJ]
  .rw[h3,h4,if_neg sJ]
 .rw[h1,h2,if_neg sJ]
end
