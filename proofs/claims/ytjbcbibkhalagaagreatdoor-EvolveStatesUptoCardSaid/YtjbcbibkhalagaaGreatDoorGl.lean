/- The document's findings on WHERE. -/
import Derived.Test.YtjbcbibkhalagaaGreatDoorGj
import Derived.BigRegion
namespace Go.Proofs.YtjbcbibkhalagaaGreatDoor
set_option maxRecDepth 100000
set_option maxHeartbeats 16000000
open Proofs.Tryz Go.RowKit Go.Deep Go.Maps
set_option linter.unusedVariables false
set_option linter.unusedSimpArgs false
structure FR (l:List Td)(A:Option Addr)(c:Nat)(q:Qy)(s:fV)(gb:Nat)(a1 a2 a3 a4:Int)(w wr:World)(v:Value)(L:List Fg):Prop where
 fo:FO l A c q s w wr v L
 bb:ao wr gb 209 (rM a1 a2 a3 a4)
section
variable {l:List Td}{A:Option Addr}{c:Nat}{q:Qy}{s:fV}{gb:Nat}{a1 a2 a3 a4:Int}{w wr W w1:World}{v v':Value}{L:List Fg}
theorem FR.stay (h:FR l A c q s gb a1 a2 a3 a4 w wr v L)(hb:Bw wr W):FR l A c q s gb a1 a2 a3 a4 w W v L:=⟨h.fo.stay hb,h.bb.stay hb⟩
theorem FR.app {o f}(h:FR l A c q s gb a1 a2 a3 a4 w wr v L)(hg:(wr.alloc o).grownBy w1 v.ownBlock)(hO:OL w1 w.heap.size eL 162 6 v' (L.length+1) (L.flatMap nZ++nZ f)):FR l A c q s gb a1 a2 a3 a4 w w1 v' (L++[f]):=⟨h.fo.app hg hO,h.fo.keep h.bb dQ hg⟩
theorem LJ {k c}(h:[a1,a2,a3,a4][k]? =some c):(rM a1 a2 a3 a4)[k+1]? =some (.int .i64 c):=by
 match k,h with
 |0,h=>injection h with h;subst h;rfl
 |1,h=>injection h with h;subst h;rfl
 |2,h=>injection h with h;subst h;rfl
 |3,h=>injection h with h;subst h;rfl
 |n+4,h=>simp at h
end
theorem LK (rule part idx sub e n):(aO (λ(r:Nat) c=>if c≠0 then [(⟨rule,(r:Int)+1,c,part,idx,sub⟩:Fg)]else []) n e).length<=e.length:=by
 have:=oH (f:=λ(r:Nat)(c:Int)=>if c≠0 then [(⟨rule,(r:Int)+1,c,part,idx,sub⟩:Fg)]else []) (g:=λ_=>0*0+1) e (λi x _=>eh _) n;rw[rG]at this;omega
theorem uB {f:Nat->Nd->List Int}(rule part)(g:Nat->Int×Int)(t)(hf:∀i x,(f i x).length<=4):(aO (λi x=>eF rule part (g i).1 (g i).2 (f i x)) 0 t).length<=t.length*4:=by
 have:=oH (f:=λi x=>eF rule part (g i).1 (g i).2 (f i x)) (g:=λ_=>0*0+4) t (λi x _=>zU (LK _ _ _ _ _ 0) (hf i x)) 0;rw[rG]at this;omega
def eG (rule part idx sub:Int)(r:Nat)(c:Int):List Fg:=if c≠0 then [⟨rule,(r:Int)+1,c,part,idx,sub⟩]else []
theorem agi (rule part idx sub e):eF rule part idx sub e=aO (eG rule part idx sub) 0 e:=rfl
theorem LL (rule part idx sub a1 a2 a3 a4 k):(aO (eG rule part idx sub) 0 ([a1,a2,a3,a4].take k)).length<=4:=by
 have:=LK rule part idx sub ([a1,a2,a3,a4].take k) 0;rw[zO]at this;have h:[a1,a2,a3,a4].length=4:=rfl;unfold eG;omega
noncomputable def LM (q:Qy)(r:Nat):List Fg:=if iw q (oz q.wh r)=true then [⟨8,0,77,4,r,0⟩]else []
theorem LN (q)(L:List Nat):(L.flatMap (LM q)).length<=L.length:=mD L λx=>eh _
theorem G8 {t n x}(hn:t.length=n+1)(hx:t[n]? =some x):aE t=aQ x.op:=by
 unfold aE;rw[zW oQ,xE,show t.length-1=n by omega,dY hx]
structure G9 (W0:World)(neg:Bool)(hi:Int)(gi:Nat)(wx:World):Prop where
 hb:Bw W0 wx
 c0:wx.cell? ⟨gi,0,none⟩=some (.bool neg)
 c4:wx.cell? ⟨gi,4,none⟩=some (.int .i64 hi)
theorem G9.new {W0 wr x u}(h:Bw W0 wr):G9 W0 x.neg x.hi wr.heap.size (wr.alloc (.cells ⟨dX x u⟩ 60)).drew:=by
 have hb:ao (wr.alloc (.cells ⟨dX x u⟩ 60)) wr.heap.size 60 (dX x u):=ao.new _ _ _;exact⟨(h.alloc h.size _).drew,hb.cell 0,hb.cell 4⟩
namespace dR
open cH
theorem I6 (A c F l q s)(hl:iI l)(hs:jE q)(rD:q.wh=[]\/aW q.wh=true)(w)(hK:cW w)(r:Rd w F (.slice A l.length c) (.sl l.length (l.flatMap fj)))(R:QR w F q s):
  Cl 82 #[.agg ⟨[.slice A l.length c]⟩,.agg ⟨qV q s⟩] w (iy (gP l q) w):=by
 have h0:=FO.new l A c q s w;have lp:=hs.wh.1;have kn:∀(i:Nat)(x:Nd) W,q.wh[i]? =some x->Bw w W->Cl 130 #[.agg ⟨[.slice A l.length c]⟩,.agg ⟨qV q s⟩,.slice s.a2 q.wh.length s.c2,.int .i64 i,.bool false] W (gV (dA l q q.wh false x) W):=λi x W hx hW=>by
  have hne:q.wh≠ []:=λe=>by rw[e]at hx;cases hx
  have jX:=j8 (rD.resolve_left hne) x (zA hx);exact C8 A c F l q s s.a2 s.c2 q.wh i x false hl hs hs.wh hx jX.1.2 jX.2.2 W (R.under hW).lt (r.under hW R.lt) (R.under hW) (R.under hW).r2
 have kc:q.wh≠ []->∀W,Bw w W->Cl 132 #[.slice s.a2 q.wh.length s.c2] W (j9 (cI q.wh) W):=λhne W hW=>Qu s.a2 s.c2 F q.wh hs.wh (rD.resolve_left hne) W (hK.stay hW) (R.under hW).lt (R.under hW).r2
 have ks:q.wh≠ []->∀W (b r:Nat),Bw w W->Sp q.wh b r->Cl 133 #[.slice s.a2 q.wh.length s.c2,.int .i64 r] W (lL (dW q.wh b r) W):=λhne W b r hW hsp=>UJ s.a2 s.c2 F q.wh hs.wh (rD.resolve_left hne) hsp W (hK.stay hW) (R.under hW).lt (R.under hW).r2
 have ku:∀W (b r:Nat) A' c',Bw w W->Sp q.wh b r->Rd W (λb=>b<W.heap.size) (.slice A' (dW q.wh b r).length c') (.sl (dW q.wh b r).length ((dW q.wh b r).flatMap b9))->Cl 134 #[.agg ⟨qV q s⟩,.slice A' (dW q.wh b r).length c'] W (oG q (dW q.wh b r) W):=λW b r A' c' hW hsp rd=>Qw q s A' c' _ F (dW q.wh b r) hs (G5 hsp hs.wh) W (R.under hW) (λb h=>h) rd
 have hcs:q.wh≠ []->∀(j r:Nat),(cI q.wh)[j]? =some r->∃b,Sp q.wh b r/\iw q (oz q.wh r)=iw q (dW q.wh b r)/\r<q.wh.length:=λhne j r h=>by
  obtain⟨b,hb⟩:=CZ (rD.resolve_left hne) (zA h);exact⟨b,hb,by unfold oz;rw[SZ hb],hb.lt⟩
 have gE:q.wh≠ []->(cI q.wh).length<=1048576:=λhne=>by
  obtain⟨⟨n,hn,hsp⟩,_,_⟩:=dF (rD.resolve_left hne);unfold cI;have:=zr hsp (n:=q.wh.length) oQ;rw[show q.wh.length-1=n by omega];omega
 have kt:∀(o:Int) W,Cl 131 #[.int .i64 o] W λe w'=>e=.returned (.bool (aQ o))/\w'=W:=λo W=>ow o W
 have hit:=λ(i:Nat)(h:i<q.items.length)=>av (l:=q.items) h
 have j7:=R.r1;have O8:=R.r2;have hF:=R.lt;have iT:=hs.il;obtain⟨R0,ek⟩:=aB (gP l q)
 rw[<-ek];have Fv:R0=aO (λi x=>eF 6 4 i 0 (dA l q q.wh false x)) 0 q.wh++(if q.wh=[]then []else(if aE q.wh=false then [⟨7,0,75,4,(q.wh.length:Int) -1,0⟩]else [])++(cI q.wh).flatMap (LM q)):=ek;clear ek;have kf:∀(ru rk cd ix:Int) W,Cl 127 #[.int .i64 ru,.int .i64 rk,.int .i64 cd,.int .i64 4,.int .i64 ix,.int .i64 0] W λe w'=>e=.returned (.agg ⟨[.int .i64 ru,.int .i64 rk,.int .i64 cd,.int .i64 4,.int .i64 ix,.int .i64 0]⟩)/\Bw W w':=λru rk cd ix W=>rF ⟨ru,rk,cd,4,ix,0⟩ W
 have cc:∀{W v L},FO l A c q s w W v L->_:=λ {W v L} (h:FO l A c q s w W v L)=>nU h.sq.b1
 obtain⟨x0,x1,x2,x3,x4,x5,x6⟩:=cc h0;obtain⟨A1,c1,A2,c2,A3,c3⟩:=s;simp only[qV]at h0 kn kc ks ku x0 x3 x6 j7 O8 |-;replace⟨j7,O8,hF,kn,kc,ks,ku,kf,kt,hit,hcs,gE⟩:=uM j7 O8 hF kn kc ks ku kf kt hit hcs gE;replace⟨h0,Fv⟩:=H2 h0 Fv;clear hs R r hl hK rD;go_enter func82,ntmps82;go_wp2;clear x0 x1 x2 x3 x4 x5 x6;go_loopw [5,7] (λv i wr=>∃(j:Nat)(L:List Fg),j<=q.wh.length/\i=.int .i64 j/\Hid (L=aO (λi x=>eF 6 4 i 0 (dA l q q.wh false x)) 0 (q.wh.take j))/\FO l A c q ⟨A1,c1,A2,c2,A3,c3⟩ w wr v L) (λ_ i _=>q.wh.length- (intOf i).toNat)
 .exact⟨0,[],zE _,rfl,rfl,h0.o⟩
 clear h0;obtain⟨j,L,hj,rfl,hL,hI⟩:=hrel;have P9:L.length<=4194304:=by
  rw[hL.o];have:(aO (λi x=>eF 6 4 i 0 (dA l q q.wh false x)) 0 (q.wh.take j)).length<=(q.wh.take j).length*4:=uB (f:=λ_ x=>dA l q q.wh false x) 6 4 (λi=>((i:Int),0)) (q.wh.take j) (λ_ x=>by rw[my];omega);rw[zO]at this;omega
 obtain⟨A4,c4,rfl⟩:=hI.ol.form;obtain⟨x0,x1,x2,x3,x4,x5,x6⟩:=cc hI;have y0:wr.cell? ⟨w.heap.size,0,none⟩=some (.slice A l.length c):=hI.sq.b0.cell 0;try simp only at x0 x3 x6
 have Lt:=hI.hb.size;by_cases hlt:j<q.wh.length
 .obtain⟨x,hx⟩:=av hlt;have g1:=aH j;have g2:=aV j q.wh.length;have QE:=kn.o j x wr hx hI.hb;have Fw:=iu (λi x=>eF 6 4 i 0 (dA l q q.wh false x)) hx;rw[<-hL.o]at Fw;generalize dA l q q.wh false x=e at QE Fw;replace⟨QE,Fw,hI,hx⟩:=H4 QE Fw hI hx;go_upto_region 7 with(go_at_call 130;refine QE.o.mono ?_;rintro e W ⟨a1,a2,a3,a4,rfl,rfl,hW⟩)
  have vm:FR l A c q ⟨A1,c1,A2,c2,A3,c3⟩ W.heap.size a1 a2 a3 a4 w (W.alloc (.cells ⟨rM a1 a2 a3 a4⟩ 209)) (.slice A4 L.length c4) L:=⟨(hI.o.stay hW).stay bA,ao.new _ _ _⟩;simp only[rM]at vm;replace vm:=Hd vm;clear hW x0 x1 x2 x3 x4 x5 x6 y0;obtain⟨wo,gU⟩:=aB wr
  subst gU;go_wp2;go_loopw [5,9] (λv i wr=>∃(k:Nat)(Lk:List Fg),k<=4/\i=.int .i64 ((k+1:Nat):Int)/\Hid (Lk=L++aO (eG 6 4 j 0) 0 ([a1,a2,a3,a4].take k))/\FR l A c q ⟨A1,c1,A2,c2,A3,c3⟩ W.heap.size a1 a2 a3 a4 w wr v Lk) (λ_ i _=>5- (intOf i).toNat)
  .exact⟨0,L,oQ,rfl,(zT L).symm,vm.o⟩
  clear vm;obtain⟨k,Lk,hk,rfl,IY,hF2⟩:=hrel;have YK:Lk.length<=4194308:=by
   rw[IY.o,zH];have:=LL 6 4 j 0 a1 a2 a3 a4 k;omega
  obtain⟨A5,c5,rfl⟩:=hF2.fo.ol.form;have I7:=hF2.fo.hb.size;by_cases hk4:k<4
  .obtain⟨cv,hcv⟩:=av (l:=[a1,a2,a3,a4]) (i:=k) (by simpa using hk4);have q0:=(hF2.bb.cell (k+1)).trans (LJ hcv);have bz:=iu (eG 6 4 j 0) hcv;have p1:((k+1:Nat):Int)<=4:=oQ;have p2:(0:Int)<=((k+1:Nat):Int):=oQ;have p3:((k+1:Nat):Int)<5:=oQ;have fX:Lk.length+1<=gg:=by unfold gg;omega
   have pv:((k:Int)+1)=((k+1:Nat):Int):=oQ;have uv:k+1+1<=5:=oQ;generalize qy:k+1=Az at*;replace⟨fX,hcv,qy,pv,hF2⟩:=H5 fX hcv qy pv hF2;by_cases fH:cv=0
   .have jn:Hid (Lk=L++aO (eG 6 4 j 0) 0 ([a1,a2,a3,a4].take Az)):=by
     show _=_
     rw[bz,IY.o];unfold eG;rw[if_neg (λh=>h fH),zT]
    subst fH;replace bz:=Hd bz;go_wp2;go_roundw
    .exact⟨Az,Lk,oQ,gQ,jn,hF2.o⟩
    exact mQ
   .have f1:=gL fH;have f2:=cM fH;have jn:Hid (Lk++[⟨6,(Az:Int),cv,4,j,0⟩]=L++aO (eG 6 4 j 0) 0 ([a1,a2,a3,a4].take Az)):=by
     show _=_
     rw[bz,IY.o];unfold eG;rw[if_pos fH,pv.o,zR]
    replace⟨bz,fH⟩:=H2 bz fH;go_wp2_with (first
     |(go_at_call 127;refine(kf.o 6 Az cv j _).eQ λW2 hW=>?_;have lQ:=Hd (hF2.o.stay hW);clear hW)
     |(at_builtin;refine Fu rfl (.tmp 38) (.tmp 45) _ rfl (m:=1) (news:=nZ ⟨6,Az,cv,4,j,0⟩) qx (lQ.o.fo.ol.alloc _) rfl rfl (Src.lit (lu ⟨6,Az,cv,4,j,0⟩)) rfl (lz fX.o) (lA fX.o) (by have:=lQ.o.fo.hb.size;simp;omega) ?_;intro v' w1 ax aw bu;obtain⟨B3,d3,rfl⟩:=ax.form;have wU:=Hd (lQ.o.app (f:=⟨6,Az,cv,4,j,0⟩) aw ax);clear ax aw bu))
    go_roundw
    .exact⟨Az,_,oQ,gQ,jn,wU.o⟩
    exact mQ
  .obtain rfl:k=4:=oQ;have jn:Hid (Lk=aO (λi x=>eF 6 4 i 0 (dA l q q.wh false x)) 0 (q.wh.take (j+1))):=by
    show _=_
    rw[Fw.o,IY.o];rfl
   replace hF2:=Hd hF2;go_wp2;go_roundw
   .exact⟨j+1,Lk,oQ,gQ,jn,hF2.o.fo⟩
   exact mQ
 .have g1:=jS j q.wh.length;obtain rfl:j=q.wh.length:=oQ;have uc:R0=L++(if q.wh=[]then []else(if aE q.wh=false then [⟨7,0,75,4,(q.wh.length:Int) -1,0⟩]else [])++(cI q.wh).flatMap (LM q)):=by rw[Fv.o,hL.o,zL]
  clear hL;by_cases hne:q.wh=[]
  .rw[if_pos hne,zT]at uc;have Qh:q.wh.length=0:=by rw[hne];rfl
   have f0:((q.wh.length:Int)==0)=true:=mf oQ;have ac4:=Hd uc.symm;replace⟨Qh,hne,hI⟩:=H3 Qh hne hI;clear uc;go_wp2;go_ret;exact iy.mk ac4.o hI.o.ol hI.o.hb
  rw[if_neg hne]at uc;have hlp:0<q.wh.length:=List.length_pos_iff.2 hne;have f0:((q.wh.length:Int)==0)=false:=cM oQ;obtain⟨n,hn⟩:∃n,q.wh.length=n+1:=⟨q.wh.length-1,oQ⟩
  obtain⟨x,hx⟩:=av (l:=q.wh) (i:=n) oQ;have FE:=G8 hn hx;obtain⟨g,off,rfl,_,z0,_⟩:=dk (O8.o.under hI.hb hF.o) hx;rw[FE]at uc;have aid:=gE.o hne;have kc':=λW hW=>kc.o hne W hW
  have Uz:=λW b r hW hsp=>ks.o hne W b r hW hsp
  have UU:=λj r h=>hcs.o hne j r h
  have n1:=aH n;have n3:(n:Int)<(q.wh.length:Int):=oQ;have nw:(q.wh.length:Int) -1=(n:Int):=oQ;have nw2:IntKind.i64.wrap ((q.wh.length:Int) -1)=(n:Int):=by rw[xI];omega
  rw[nw]at uc;generalize cI q.wh=C at*;replace⟨uc,FE,hn,hx,hne,kc',Uz,UU,hI,nw⟩:=yX uc FE hn hx hne kc' Uz UU hI nw;clear gE;generalize Ez:aQ x.op=tb at uc;replace Ez:=Hd Ez;go_upto_region 14 with fail
  go_cut [59] (λs wx=>s=.bool (!tb)/\FO l A c q ⟨A1,c1,some ⟨g,off,none⟩,c2,A3,c3⟩ w wx (.slice A4 L.length c4) L)
  .go_wp2_with (go_at_call 131;refine(kt.o _ _).aR ?_;rw[Ez.o])
   all_goals(go_meet;exact⟨rfl,hI.o⟩)
  obtain⟨rfl,bn⟩:=hcut;clear x0 x1 x2 x3 x4 x5 x6 y0 z0 hI;have I7:=bn.hb.size;have hI:=Hd bn;clear bn;go_upto_if 59 with fail
  go_cut [5] (λv wx=>∃L2,Hid (L2=L++if tb=false then [⟨7,0,75,4,(n:Int),0⟩]else [])/\FO l A c q ⟨A1,c1,some ⟨g,off,none⟩,c2,A3,c3⟩ w wx v L2)
  .cases tb with
   |false=>
    have fX:L.length+1<=gg:=(by unfold gg;omega);replace fX:=Hd fX;go_wp2_with (first
     |(go_at_call 127;refine(kf.o 7 0 75 n _).eQ λW2 hW=>?_;have lQ:=Hd (hI.o.stay hW);clear hW)
     |(at_builtin;refine Fu rfl (.tmp 60) (.tmp 65) _ rfl (m:=1) (news:=nZ ⟨7,0,75,4,n,0⟩) qx (lQ.o.ol.alloc _) rfl rfl (Src.lit (lu ⟨7,0,75,4,n,0⟩)) rfl (lz fX.o) (lA fX.o) (by have:=lQ.o.hb.size;simp;omega) ?_;intro v' w1 ax aw bu;obtain⟨B3,d3,rfl⟩:=ax.form;have wU:=Hd (lQ.o.app (f:=⟨7,0,75,4,n,0⟩) aw ax);clear ax aw bu))
    all_goals(go_meet;exact⟨_,rfl,wU.o⟩)
   |true=>
    go_wp2
    all_goals(go_meet;exact⟨_,(zT L).symm,hI.o⟩)
  obtain⟨L2,jn,bn⟩:=hcut;have UB:L2.length<=4194305:=by
   rw[jn.o,zH];have:(if tb=false then [(⟨7,0,75,4,(n:Int),0⟩:Fg)]else []).length<=1:=eh _;omega
  have ac6:Hid (R0=L2++C.flatMap (LM q)):=by show _=_;rw[uc.o,jn.o,zR]
  clear uc hI;obtain⟨A7,c7,rfl⟩:=bn.ol.form;have kcc:=Hd (kc'.o _ bn.hb);replace bn:=Hd bn;go_wp2_with (go_at_call 132;refine kcc.o.mono ?_;rintro e W1 ⟨vc,rfl,hC,a9⟩;obtain⟨A8,c8,rfl⟩:=hC.form;have dB:=Hd (bn.o.stay a9);have Fj:=Hd (hC.base bn.o.hb.size);clear hC a9);go_loopw [5,11] (λv i wr=>∃(j:Nat)(L3:List Fg),j<=C.length/\i=.int .i64 j/\Hid (L3=L2++(C.take j).flatMap (LM q))/\FO l A c q ⟨A1,c1,some ⟨g,off,none⟩,c2,A3,c3⟩ w wr v L3/\OL wr w.heap.size eL 3 1 (.slice A8 C.length c8) C.length (C.map iJ)) (λ_ i _=>C.length- (intOf i).toNat)
  .exact⟨0,L2,zE _,rfl,(by show L2=_;simp),dB.o,Fj.o⟩
  clear dB Fj;obtain⟨j,L3,hj,rfl,Tb,hI,hC⟩:=hrel;have ac7:L3.length<=5242881:=by
   rw[Tb.o,zH];have:=LN q (C.take j);rw[zO]at this;omega
  obtain⟨A9,c9,rfl⟩:=hI.ol.form;have ac8:=hI.hb.size;by_cases tY:j<C.length
  .obtain⟨r,hr⟩:=av tY;obtain⟨bb,hsp,hmx,BQ⟩:=UU.o j r hr;obtain⟨g5,aih,e5,_,_,_,hcell⟩:=hC.row oQ;injection e5 with e5 _ e5c
   subst e5 e5c;obtain⟨u5,hu5,YV⟩:=hcell j (iJ r) (by rw[zG,hr];rfl);rw[YV.bH]at hu5;have g3:=aH j;have g4:=aV j C.length;have bz:(C.take (j+1)).flatMap (LM q)=(C.take j).flatMap (LM q)++if iw q (dW q.wh bb r)=true then [⟨8,0,77,4,r,0⟩]else []:=by
    rw[zJ,hr,xD,<-hmx];simp[LM]
   have ksx:=Uz.o wr bb r hI.hb hsp;have kux:=λW A' c' (hW:Bw w W) rd=>ku.o W bb r A' c' hW hsp rd
   have qL:(dn q (dW q.wh bb r)).length<=1048576:=zU (ky (p:=λi=>(dW q.wh bb r).any λx=>decide (aM q x.v=(i:Int))&&bC x.op) q.items.length) iT;have UW:∀(m k:Nat),(dn q (dW q.wh bb r))[m]? =some k->k<q.items.length:=λm k h=>by
    have:=zA h;unfold dn at this;exact List.mem_range.1 (List.mem_filter.1 this).1
   have sH:iw q (dW q.wh bb r)=decide (1<pQ q (dn q (dW q.wh bb r)) (dn q (dW q.wh bb r)).length):=(by unfold iw pQ;rw[zL]);generalize iw q (dW q.wh bb r)=mb at*;generalize dW q.wh bb r=t' at*;have acH:r<=1048576:=oQ;replace⟨bz,ksx,kux,sH,hmx,hsp,UW,hr,YV,hcell⟩:=yX bz ksx kux sH hmx hsp UW hr YV hcell;have IX:=Hd hI;have hCH:=Hd hC;clear hI hC;go_upto_region 21 with(go_at_call 133;refine ksx.o.mono ?_;rintro e W2 ⟨vt,rfl,hT,aX⟩)
   obtain⟨E1,e1,rfl⟩:=hT.form;have np:=IX.o.stay aX;have hC4:=Hd (hCH.o.stay aX);have kuu:=Hd (kux.o W2 E1 e1 np.hb (hT.rd (G:=λb=>b<W2.heap.size) (λb h=>h.elim) (λb _ h=>h)));obtain⟨x0,x1,x2,x3,x4,x5,x6⟩:=cc np;try simp only at x0 x3 x6
   replace np:=Hd np;clear aX hT;go_upto_region 23 with(go_at_call 134;refine kuu.o.mono ?_;rintro e W3 ⟨v1,v2,v3,M2,M3,rfl,ax,iK,qM,jv⟩;obtain⟨D1,d1,rfl⟩:=ax.form;obtain⟨D2,d2,rfl⟩:=iK.form;obtain⟨D3,d3,rfl⟩:=qM.form)
   have hXa:Bw W3 (W3.alloc (.cells ⟨[.slice D1 (dn q t').length d1,.slice D2 M2.length d2,.slice D3 M3.length d3]⟩ 184)):=bA;have QF:=(np.o.stay jv).stay hXa;have Qk:=(hC4.o.stay jv).stay hXa;have nN:ao (W3.alloc (.cells ⟨[.slice D1 (dn q t').length d1,.slice D2 M2.length d2,.slice D3 M3.length d3]⟩ 184)) W3.heap.size 184 [.slice D1 (dn q t').length d1,.slice D2 M2.length d2,.slice D3 M3.length d3]:=ao.new _ _ _;have iM:=ax.stay hXa;generalize dn q t'=Bs at*;obtain⟨Wx,hWx⟩:=aB (W3.alloc (.cells ⟨[.slice D1 Bs.length d1,.slice D2 M2.length d2,.slice D3 M3.length d3]⟩ 184))
   rw[<-hWx]at QF Qk nN iM;have ade:=Hd hWx.symm;clear hWx hXa jv ax iK qM x0 x1 x2 x3 x4 x5 x6;replace⟨QF,Qk,nN,iM⟩:=H4 QF Qk nN iM;rw[ade.o];obtain⟨wo,gU⟩:=aB wr
   subst gU;go_wp2;go_loopw [14,15] (λn i wr=>∃m cn:Nat,m<=Bs.length/\i=.int .i64 m/\n=.int .i64 cn/\cn<=m/\Hid (cn=pQ q Bs m)/\Bw Wx wr) (λ_ i _=>Bs.length- (intOf i).toNat)
   .exact⟨0,0,zE _,rfl,rfl,nR,rfl,bR⟩
   obtain⟨m,cn,hm,rfl,rfl,hcm,Ac,hB⟩:=hrel;have LO:=QF.o.stay hB;have Cb:=Qk.o.stay hB;have mE:=nN.o.stay hB;have sP:=iM.o.stay hB;obtain⟨x0,x1,x2,x3,x4,x5,x6⟩:=cc LO;try simp only at x0 x3 x6
   have u0:=mE.cell 0;simp only[zY]at u0;by_cases QC:m<Bs.length
   .obtain⟨k,hk⟩:=av QC;have C9:=UW.o m k hk;obtain⟨it,QG⟩:=av (l:=q.items) C9;obtain⟨gq,ain,E2,e2,rfl,_,_,a0,a1,a2,a3,a4⟩:=eV (j7.o.under LO.hb hF.o) QG;obtain⟨g6,aio,e6,_,_,_,FF⟩:=sP.row oQ;injection e6 with e6 _ e6c
    subst e6 e6c;obtain⟨u6,UX,Cf⟩:=FF m (iJ k) (by rw[zG,hk];rfl);rw[Cf.bH]at UX;have p1:=aH m;have p2:=aV m Bs.length;have p3:=aH k;have p4:=aV k q.items.length;have Da:=yj (q:=q) hk;have Ux:mZ q k=(it.neg||decide (1<it.hi)):=by unfold mZ;rw[QG]
    rw[Ux]at Da;have Db:=hB;have O9:Bw wr (wr.alloc (.cells ⟨[.bool false,.slice none 0 0,.string ⟨#[]⟩,.int .i64 0,.int .i64 0]⟩ 60)):=bA;obtain⟨xx0,_,_,_,_,_,_⟩:=cc (LO.stay O9);try simp only at xx0
    have uu0:=(mE.stay O9).cell 0;simp only[zY]at uu0;have Tc:∀b o v,wr.cell? ⟨b,o,none⟩=some v->(wr.alloc (.cells ⟨[.bool false,.slice none 0 0,.string ⟨#[]⟩,.int .i64 0,.int .i64 0]⟩ 60)).cell? ⟨b,o,none⟩=some v:=λb o v h=>(O9.cell (p:=⟨b,o,none⟩) (zX wr _ h)).trans h
    have hu7:=Tc _ _ _ UX;have b0:=Tc _ _ _ a0;have b1:=Tc _ _ _ a1;have b2:=Tc _ _ _ a2;have b3:=Tc _ _ _ a3;have b4:=Tc _ _ _ a4;clear Tc O9;have p5:cn<=1048576:=oQ;replace⟨LO,Cb,mE,sP,hk,QG,Ux,Da,FF,Cf,Db,hB⟩:=uM LO Cb mE sP hk QG Ux Da FF Cf Db hB;go_upto_region 26 with fail
    go_cut [16] (λs wx=>s=.pointer (some ⟨wr.heap.size,0,none⟩)/\G9 Wx it.neg it.hi wr.heap.size wx)
    .go_region
     all_goals(go_wp2;all_goals(go_meet;exact⟨rfl,G9.new (x:=it) hB.o⟩))
    obtain⟨rfl,uC,w0,w4⟩:=hcut;clear x0 x1 x2 x3 x4 x5 x6 u0 a0 a1 a2 a3 a4 UX xx0 uu0 hu7 b0 b1 b2 b3 b4;replace uC:=Hd uC;generalize it.neg=ng at*;generalize it.hi=ih at*;cases ng with
    |true=>
     have jj:Hid (cn+1=pQ q Bs (m+1)):=by show _=_;rw[Da.o,<-Ac.o];simp
     go_wp2;go_roundw
     .exact⟨m+1,cn+1,oQ,gQ,gQ,oQ,jj,uC.o⟩
     exact mQ
    |false=>
     by_cases h1:1<ih
     .have jj:Hid (cn+1=pQ q Bs (m+1)):=by show _=_;rw[Da.o,<-Ac.o];simp[h1]
      go_wp2;go_roundw
      .exact⟨m+1,cn+1,oQ,gQ,gQ,oQ,jj,uC.o⟩
      exact mQ
     .have jj:Hid (cn=pQ q Bs (m+1)):=by show _=_;rw[Da.o,<-Ac.o];simp[h1]
      go_wp2;go_roundw
      .exact⟨m+1,cn,oQ,gQ,rfl,oQ,jj,uC.o⟩
      exact mQ
   .have p2:=jS m Bs.length;obtain rfl:m=Bs.length:=oQ;obtain⟨g7,LP,e7,_,_,_,FG⟩:=Cb.row oQ;injection e7 with e7 _ e7c
    subst e7c;injection e7 with e7
    injection e7 with e7 _
    subst e7;obtain⟨u7,hu7,YW⟩:=FG j (iJ r) (by rw[zG,hr.o];rfl);rw[YW.bH]at hu7;have LQ:∀W (hW:Bw wr W),FO l A c q ⟨A1,c1,some ⟨g,off,none⟩,c2,A3,c3⟩ w W (.slice A9 L3.length c9) L3/\OL W w.heap.size eL 3 1 (.slice (some ⟨g5,0,none⟩) C.length c8) C.length (C.map iJ):=λW hW=>⟨LO.stay hW,Cb.stay hW⟩
    have I8:mb=decide (1<cn):=(by rw[sH.o,<-Ac.o]);have fX:L3.length+1<=gg:=by unfold gg;omega
    have UY:∀(W:World),FO l A c q ⟨A1,c1,some ⟨g,off,none⟩,c2,A3,c3⟩ w W (.slice A9 L3.length c9) L3->OL W w.heap.size eL 3 1 (.slice (some ⟨g5,0,none⟩) C.length c8) C.length (C.map iJ)->∀(o:Obj)(w1:World),(W.alloc o).grownBy w1 (Value.slice A9 L3.length c9).ownBlock->OL w1 w.heap.size eL 3 1 (.slice (some ⟨g5,0,none⟩) C.length c8) C.length (C.map iJ):=λW h1 h2 o w1 hg=>(h2.alloc o).kept hg (h2.ne h1.ol dQ) (λ_ h=>h.elim)
    have air:cn<=1048576:=oQ;replace⟨fX,LQ,LO,Cb,mE,sP,hB,YW,FG,UY⟩:=yX fX LQ LO Cb mE sP hB YW FG UY;clear x0 x1 x2 x3 x4 x5 x6;by_cases h1:1<cn
    .have hd:mb=true:=(by rw[I8];exact zW h1);have h1i:(1:Int)<(cn:Int):=oQ;have Ha:Hid (L3++[⟨8,0,77,4,r,0⟩]=L2++(C.take (j+1)).flatMap (LM q)):=by show _=_;rw[bz.o,if_pos hd,Tb.o,zR]
     replace⟨hd,I8⟩:=H2 hd I8;go_wp2_with (first
      |(go_at_call 127;refine(kf.o 8 0 77 r _).eQ λW5 hW=>?_;have lQ:=Hd (LQ.o W5 hW);clear hW)
      |(at_builtin;refine Fu rfl (.tmp 111) (.tmp 117) _ rfl (m:=1) (news:=nZ ⟨8,0,77,4,r,0⟩) qx (lQ.o.1.ol.alloc _) rfl rfl (Src.lit (lu ⟨8,0,77,4,r,0⟩)) rfl (lz fX.o) (lA fX.o) (by have:=lQ.o.1.hb.size;simp;omega) ?_;intro v' w1 ax aw bu;obtain⟨B3,d3,rfl⟩:=ax.form;have wU:=Hd (lQ.o.1.app (f:=⟨8,0,77,4,r,0⟩) aw ax);have AA:=Hd (UY.o _ lQ.o.1 lQ.o.2 _ _ aw);clear ax aw bu))
     go_roundw
     .first|exact⟨j+1,_,oQ,gQ,Ha,wU.o,AA.o⟩|((repeat apply Exists.intro);exact⟨⟨j+1,_,oQ,gQ,Ha,wU.o,AA.o⟩,rfl⟩)
     exact mQ
    .have hd:mb=false:=(by rw[I8];exact zV h1);have h1i:¬(1:Int)<(cn:Int):=oQ;have Ha:Hid (L3=L2++(C.take (j+1)).flatMap (LM q)):=by show _=_;rw[bz.o,hd,Tb.o];simp
     replace⟨hd,I8⟩:=H2 hd I8;go_wp2;go_roundw
     .exact⟨j+1,L3,oQ,gQ,Ha,LO.o,Cb.o⟩
     exact mQ
  .have g4:=jS j C.length;obtain rfl:j=C.length:=oQ;have ae:Hid (L3=R0):=by show _=_;rw[ac6.o,Tb.o,zL]
   replace⟨hI,hC⟩:=H2 hI hC;go_wp2;go_ret;exact iy.mk ae.o hI.o.ol hI.o.hb
end dR
