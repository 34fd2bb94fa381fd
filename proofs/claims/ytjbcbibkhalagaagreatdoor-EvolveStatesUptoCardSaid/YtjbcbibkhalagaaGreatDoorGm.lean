/- The document's findings on the rest. -/
import Derived.Test.YtjbcbibkhalagaaGreatDoorGl
namespace Go.Proofs.YtjbcbibkhalagaaGreatDoor
set_option maxRecDepth 100000
set_option maxHeartbeats 16000000
open Proofs.Tryz Go.RowKit Go.Deep Go.Maps
set_option linter.unusedVariables false
set_option linter.unusedSimpArgs false
theorem LR (l q k t):(mr l q k t).length<=t.length*4+1:=by
 unfold mr;rw[zH];have h1:(aO (λi x=>eF 12 5 k i (dA l q t true x)) 0 t).length<=t.length*4:=uB (f:=λ_ x=>dA l q t true x) 12 5 (λi=>((k:Int),(i:Int))) t (λ_ x=>by rw[my];omega);have h2:(if aE t=true then [(⟨12,5,75,5,k,(t.length:Int) -1⟩:Fg)]else []).length<=1:=eh _;omega
theorem Dc (l q)(hs:jE q)(hB:Cc q)(j):(aO (mr l q) 0 (q.ret.take j)).length<=5242880:=by
 have h1:=oH (f:=mr l q) (g:=λx=>x.length*4+1) (q.ret.take j) (λi x hx=>LR l q i x) 0;rw[rG]at h1;have h2:=uZ List.length q.ret j;have h3:(q.ret.map List.length).sum<=1048576:=hB.rt;have h5:((q.ret.take j).map λt=>t.length).sum=((q.ret.take j).map List.length).sum:=rfl;have h4:(q.ret.take j).length<=1048576:=by rw[zO];have:=hs.rl;omega
 omega
noncomputable def I9 (l:List Td)(q:Qy)(x:It):List Fg:=if hasB l x.ah q.au=false\/q.au=jk then [⟨10,0,67,3,0,0⟩]else []
theorem Dd (l q):mv l q=(if 1099511627776<q.within then [⟨9,0,66,2,0,0⟩]else [])++((if q.au=emp then []else q.items.flatMap (I9 l q))++((if 8<q.ret.length then [⟨11,0,78,5,8,0⟩]else [])++aO (mr l q) 0 q.ret)):=rfl
theorem LU {l}{q:Qy}{j x}(h:q.items[j]? =some x):(q.items.take (j+1)).flatMap (I9 l q)=(q.items.take j).flatMap (I9 l q)++if hasB l x.ah q.au=false\/q.au=jk then [⟨10,0,67,3,0,0⟩]else []:=by
 rw[zJ,h,xD];simp[I9]
theorem QH {t n x}(hn:t.length=n+1)(hx:t[n]? =some x):aE t=aQ x.op:=G8 hn hx
namespace dR
open cH
theorem LV (A c F l q s)(hl:iI l)(hs:jE q)(mF:Cc q)(hrt:∀t∈q.ret,aW t=true)(w)(r:Rd w F (.slice A l.length c) (.sl l.length (l.flatMap fj)))(R:QR w F q s):
  Cl 83 #[.agg ⟨[.slice A l.length c]⟩,.agg ⟨qV q s⟩] w (iy (mv l q) w):=by
 have h0:=FO.new l A c q s w;have kn:∀(t:List Nd)(i:Nat)(x:Nd) A5 c5 W,t∈q.ret->t[i]? =some x->Bw w W->Rd W F (.slice A5 t.length c5) (.sl t.length (t.flatMap b9))->Cl 130 #[.agg ⟨[.slice A l.length c]⟩,.agg ⟨qV q s⟩,.slice A5 t.length c5,.int .i64 i,.bool true] W (gV (dA l q t true x) W):=λt i x A5 c5 W ht hx hW rt=>by
  have jX:=j8 (hrt t ht) x (zA hx);exact C8 A c F l q s A5 c5 t i x true hl hs (hs.re t ht) hx jX.1.2 jX.2.2 W (R.under hW).lt (r.under hW R.lt) (R.under hW) rt
 have ke:∀(it:It) A2 c2 W,it∈q.items->Bw w W->Rd W F (.slice A2 it.ah.length c2) (.sl it.ah.length (it.ah.flatMap aG))->Cl 135 #[.agg ⟨[.slice A l.length c]⟩,.agg ⟨dX it (.slice A2 it.ah.length c2)⟩,.string q.au] W λe w'=>e=.returned (.bool (hasB l it.ah q.au))/\Bw W w':=λit A2 c2 W hx hW rx=>ur A c F l it A2 c2 q.au hl (hs.it it hx).1.1 W (λb h=>zF (R.lt b h) hW.size) (r.under hW R.lt) rx
 have kt:∀(o:Int) W,Cl 131 #[.int .i64 o] W λe w'=>e=.returned (.bool (aQ o))/\w'=W:=λo W=>ow o W
 have j7:=R.r1;have hR3:=R.r3;have hF:=R.lt;have iT:=hs.il;have BQ:=hs.rl;have hre:∀t∈q.ret,t.length<=1048576:=λt ht=>(hs.re t ht).1
 have S5:∀t∈q.ret,∃n,t.length=n+1:=λt ht=>by obtain⟨⟨n,hn,_⟩,_,_⟩:=dF (hrt t ht);exact⟨n,hn⟩
 have UZ:=Dc l q hs mF;obtain⟨R0,ek⟩:=aB (mv l q)
 rw[<-ek];rw[Dd]at ek;have kf:∀(ru rk cd pa ix su:Int) W,Cl 127 #[.int .i64 ru,.int .i64 rk,.int .i64 cd,.int .i64 pa,.int .i64 ix,.int .i64 su] W λe w'=>e=.returned (.agg ⟨[.int .i64 ru,.int .i64 rk,.int .i64 cd,.int .i64 pa,.int .i64 ix,.int .i64 su]⟩)/\Bw W w':=λru rk cd pa ix su W=>rF ⟨ru,rk,cd,pa,ix,su⟩ W
 have cc:∀{W v L},FO l A c q s w W v L->_:=λ {W v L} (h:FO l A c q s w W v L)=>nU h.sq.b1
 obtain⟨x0,x1,x2,x3,x4,x5,x6⟩:=cc h0;obtain⟨A1,c1,A2,c2,A3,c3⟩:=s;simp only[qV]at h0 kn x0 x3 x6 j7 hR3 |-;replace⟨j7,hR3,hF,kn,ke,kf,kt,hre,S5,UZ,h0,ek⟩:=uM j7 hR3 hF kn ke kf kt hre S5 UZ h0 ek;clear hs R r hl hrt mF;go_enter func83,ntmps83;go_upto_if 15 with fail
 go_cut [5] (λv wx=>∃L2,Hid (L2=if 1099511627776<q.within then [⟨9,0,66,2,0,0⟩]else [])/\FO l A c q ⟨A1,c1,A2,c2,A3,c3⟩ w wx v L2)
 .by_cases h1:1099511627776<q.within
  .have fX:([]:List Fg).length+1<=gg:=by unfold gg;simp
   replace fX:=Hd fX;go_wp2_with (first
     |(go_at_call 127;refine(kf.o 9 0 66 2 0 0 _).eQ λW2 hW=>?_;have lQ:=Hd (h0.o.stay hW);clear hW)
     |(at_builtin;refine Fu rfl (.tmp 16) (.tmp 18) _ rfl (m:=1) (news:=nZ ⟨9,0,66,2,0,0⟩) qx (lQ.o.ol.alloc _) rfl rfl (Src.lit (lu ⟨9,0,66,2,0,0⟩)) rfl (lz fX.o) (lA fX.o) (by have:=lQ.o.hb.size;simp;omega) ?_;intro v' w1 ax aw bu;obtain⟨B3,d3,rfl⟩:=ax.form;have wU:=Hd (lQ.o.app (f:=⟨9,0,66,2,0,0⟩) aw ax);clear ax aw bu))
   all_goals(go_meet;exact⟨_,(if_pos h1).symm,wU.o⟩)
  .have h1n:=Hd h1;go_wp2
   all_goals(go_meet;exact⟨_,(if_neg (by have:=h1n.o;omega)).symm,h0.o⟩)
 obtain⟨L1,Hb,hI⟩:=hcut;have ait:L1.length<=1:=by rw[Hb.o];exact eh _
 rw[<-Hb.o]at ek;clear h0 Hb x0 x1 x2 x3 x4 x5 x6;have h0:=Hd hI;clear hI;obtain⟨pe,uw⟩:=aB (decide (q.au=emp))
 have adi:=Hd uw;have f5:(q.au.toList==([]:List UInt8))=pe:=by rw[uw];exact aN _
 have SW:(q.au.toList != ([]:List UInt8))= !pe:=by rw[bne,f5]
 obtain⟨B1,b1,rfl⟩:=h0.o.ol.form;obtain⟨x0,x1,x2,x3,x4,x5,x6⟩:=cc h0.o;try simp only at x0 x3 x6
 go_upto_block 0 with fail
 go_cut [5] (λv wx=>∃L2,Hid (L2=L1++if q.au=emp then []else q.items.flatMap (I9 l q))/\FO l A c q ⟨A1,c1,A2,c2,A3,c3⟩ w wx v L2)
 .cases pe with
  |true=>
   have ju:q.au=emp:=of_decide_eq_true uw.symm;have QI:=Hd ju;replace uw:=Hd uw;clear ju;go_wp2;go_loopw [5,6] (λv i wr=>v=.slice B1 L1.length b1/\i=.int .i64 0/\FO l A c q ⟨A1,c1,A2,c2,A3,c3⟩ w wr v L1) (λ_ i _=>q.items.length- (intOf i).toNat)
   .exact⟨rfl,rfl,h0.o⟩
   clear h0;obtain⟨rfl,rfl,hI⟩:=hrel;obtain⟨x0,x1,x2,x3,x4,x5,x6⟩:=cc hI;try simp only at x0 x3 x6
   replace hI:=Hd hI;by_cases hlt:0<q.items.length
   .have g1:(0:Int)<q.items.length:=oQ;go_wp2
    all_goals(go_meet;exact⟨_,(by show L1=_;rw[if_pos QI.o,zT]),hI.o⟩)
   .have g1:¬(0:Int)<q.items.length:=oQ;go_wp2
    all_goals(go_meet;exact⟨_,(by show L1=_;rw[if_pos QI.o,zT]),hI.o⟩)
  |false=>
   have ju:¬q.au=emp:=of_decide_eq_false uw.symm;have QI:=Hd ju;replace uw:=Hd uw;clear ju;obtain⟨tb,Iq⟩:=aB (decide (q.au=jk))
   have gw:(q.au.toList== [116,115])=tb:=by
    rw[Iq];by_cases h:q.au=jk
    .rw[jF h,zW h]
    .rw[gK h,zV h]
   have adj:=Hd Iq;clear Iq;go_wp2;go_loopw [5,6] (λv i wr=>∃(j:Nat)(L:List Fg),j<=q.items.length/\i=.int .i64 j/\Hid (L=L1++(q.items.take j).flatMap (I9 l q))/\FO l A c q ⟨A1,c1,A2,c2,A3,c3⟩ w wr v L) (λ_ i _=>q.items.length- (intOf i).toNat)
   .exact⟨0,L1,zE _,rfl,(by show L1=_;simp),h0.o⟩
   clear h0;obtain⟨j,L,hj,rfl,hL,hI⟩:=hrel;have P9:L.length<=1048577:=by
    rw[hL.o,zH];have:=mD (f:=I9 l q) (q.items.take j) (λx=>eh _);rw[zO]at this;omega
   obtain⟨A5,c5,rfl⟩:=hI.ol.form;obtain⟨x0,x1,x2,x3,x4,x5,x6⟩:=cc hI;try simp only at x0 x3 x6
   have y0:wr.cell? ⟨w.heap.size,0,none⟩=some (.slice A l.length c):=hI.sq.b0.cell 0;by_cases hlt:j<q.items.length
   .obtain⟨x,hx⟩:=av hlt;have uW:=zA hx;have bz:=LU (l:=l) hx;obtain⟨g,off,B2,d2,rfl,_,rx,a0,a1,a2,a3,a4⟩:=eV (j7.o.under hI.hb hF.o) hx;have g1:=aH j;have g2:=aV j q.items.length;have LI:∀W,Bw wr W->Cl 135 #[.agg ⟨[.slice A l.length c]⟩,.agg ⟨dX x (.slice B2 x.ah.length d2)⟩,.string q.au] W λe w'=>e=.returned (.bool (hasB l x.ah q.au))/\Bw W w':=λW hW=>ke.o x B2 d2 W uW (hI.hb.trans (hW.mono hI.hb.size)) (by obtain⟨_,_,_,_,h1,_,h2,h3,_⟩:=eV (j7.o.under hI.hb hF.o) hx;injection h1 with h1;injection h1 with h1 h1b;subst h1 h1b;exact(rx.under hW λb hb=>zF (hF.o b hb) hI.hb.size))
    obtain⟨hb,hhb⟩:=aB (hasB l x.ah q.au)
    rw[<-hhb]at LI bz;obtain⟨neg,ah,iv,lo,hi⟩:=x;simp only[dX]at LI a0 a1 a2 a3 a4;have hxI:=Hd hx;clear hx uW rx;replace⟨LI,hhb,bz⟩:=H3 LI hhb bz;have BT:=Hd hI;replace hI:=Hd hI;go_upto_region 7 with fail
    go_cut [7] (λs wx=>s=.bool hb/\FO l A c q ⟨some ⟨g,off,none⟩,c1,A2,c2,A3,c3⟩ w wx (.slice A5 L.length c5) L)
    .go_region_law ((go_simp;(go_at_call 135;refine(LI.o _ (by first|exact bR |exact(bR).drew |exact below_drewN bR _)).eQ λW hW=>?_;replace hI:=Hd (hI.o.stay (by first|exact hW |exact(bR).drew.trans hW |exact(below_drewN bR _).trans hW));clear hW)))
     all_goals(go_wp2;all_goals(go_meet;exact⟨rfl,hI.o⟩))
    obtain⟨rfl,eE⟩:=hcut;clear x0 x1 x2 x3 x4 x5 x6 y0 a0 a1 a2 a3 a4 hI BT;have hI:=Hd eE;clear eE;obtain⟨x0,x1,x2,x3,x4,x5,x6⟩:=cc hI.o;try simp only at x0 x3 x6
    go_upto_region 8 with fail
    go_cut [47] (λs wx=>s=.bool (!hb||tb)/\wx=wc)
    .cases hb with
     |true=>
      go_wp2
      all_goals(go_meet;exact⟨rfl,rfl⟩)
     |false=>
      go_wp2
      all_goals(go_meet;exact⟨rfl,rfl⟩)
    obtain⟨rfl,tW⟩:=hcut;obtain rfl:=tW.symm;clear tW;have hcd:(hb=false\/q.au=jk)<->(!hb||tb)=true:=by rw[adj.o];cases hb<;>simp
    generalize (!hb||tb)=gb at*;have fX:L.length+1<=gg:=by unfold gg;omega
    replace⟨fX,hcd⟩:=H2 fX hcd;cases gb with
    |true=>
     have jn:Hid (L++[⟨10,0,67,3,0,0⟩]=L1++(q.items.take (j+1)).flatMap (I9 l q)):=by
      show _=_
      rw[bz.o,if_pos (hcd.o.2 rfl),hL.o,zR]
     go_wp2_with (first
       |(go_at_call 127;refine(kf.o 10 0 67 3 0 0 _).eQ λW2 hW=>?_;have lQ:=Hd (hI.o.stay hW);clear hW)
       |(at_builtin;refine Fu rfl (.tmp 48) (.tmp 50) _ rfl (m:=1) (news:=nZ ⟨10,0,67,3,0,0⟩) qx (lQ.o.ol.alloc _) rfl rfl (Src.lit (lu ⟨10,0,67,3,0,0⟩)) rfl (lz fX.o) (lA fX.o) (by have:=lQ.o.hb.size;simp;omega) ?_;intro v' w1 ax aw bu;obtain⟨B3,d3,rfl⟩:=ax.form;have wU:=Hd (lQ.o.app (f:=⟨10,0,67,3,0,0⟩) aw ax);clear ax aw bu))
     go_roundw
     .exact⟨j+1,_,oQ,gQ,jn,wU.o⟩
     exact mQ
    |false=>
     have jn:Hid (L=L1++(q.items.take (j+1)).flatMap (I9 l q)):=by
      show _=_
      rw[bz.o,if_neg (λh=>by have:=hcd.o.1 h;cases this),hL.o,zT]
     go_wp2;go_roundw
     .exact⟨j+1,L,oQ,gQ,jn,hI.o⟩
     exact mQ
   .have g2:=jS j q.items.length;obtain rfl:j=q.items.length:=oQ;have jn:Hid (L=L1++q.items.flatMap (I9 l q)):=by show _=_;rw[hL.o,zL]
    replace hI:=Hd hI;go_wp2
    all_goals(go_meet;exact⟨L,(by show L=_;rw[if_neg QI.o];exact jn.o),hI.o⟩)
 clear x0 x1 x2 x3 x4 x5 x6;obtain⟨L2,jn,hI⟩:=hcut;have UB:L2.length<=1048577:=by
  rw[jn.o,zH];have:=mD (f:=I9 l q) q.items (λx=>eh _);split
  .simp;omega
  .omega
 rw[<-zR,<-jn.o]at ek;clear h0 jn uw adi f5;obtain⟨A6,c6,rfl⟩:=hI.ol.form;obtain⟨x0,x1,x2,x3,x4,x5,x6⟩:=cc hI;try simp only at x0 x3 x6
 have h0:=Hd hI;clear hI;replace ek:=Hd ek;go_upto_if 55 with fail
 go_cut [5] (λv wx=>∃L3,Hid (L3=L2++if 8<q.ret.length then [⟨11,0,78,5,8,0⟩]else [])/\FO l A c q ⟨A1,c1,A2,c2,A3,c3⟩ w wx v L3)
 .by_cases h1:8<q.ret.length
  .have h1i:(8:Int)<q.ret.length:=oQ;have fX:L2.length+1<=gg:=by unfold gg;omega
   replace fX:=Hd fX;go_wp2_with (first
     |(go_at_call 127;refine(kf.o 11 0 78 5 8 0 _).eQ λW2 hW=>?_;have lQ:=Hd (h0.o.stay hW);clear hW)
     |(at_builtin;refine Fu rfl (.tmp 56) (.tmp 58) _ rfl (m:=1) (news:=nZ ⟨11,0,78,5,8,0⟩) qx (lQ.o.ol.alloc _) rfl rfl (Src.lit (lu ⟨11,0,78,5,8,0⟩)) rfl (lz fX.o) (lA fX.o) (by have:=lQ.o.hb.size;simp;omega) ?_;intro v' w1 ax aw bu;obtain⟨B3,d3,rfl⟩:=ax.form;have wU:=Hd (lQ.o.app (f:=⟨11,0,78,5,8,0⟩) aw ax);clear ax aw bu))
   all_goals(go_meet;exact⟨_,(by show _=_;rw[if_pos h1]),wU.o⟩)
  .have h1i:¬(8:Int)<q.ret.length:=oQ;have hlz:Hid (L2=L2++if 8<q.ret.length then [⟨11,0,78,5,8,0⟩]else []):=by show _=_;rw[if_neg h1,zT]
   go_wp2
   all_goals(go_meet;exact⟨_,hlz,h0.o⟩)
 obtain⟨L3,Tb,hI⟩:=hcut;have ac7:L3.length<=1048578:=by
  rw[Tb.o,zH];have:(if 8<q.ret.length then [(⟨11,0,78,5,8,0⟩:Fg)]else []).length<=1:=eh _;omega
 have uc:Hid (R0=L3++aO (mr l q) 0 q.ret):=by
  show _=_
  rw[ek.o,Tb.o,zR]
 clear h0 Tb ek x0 x1 x2 x3 x4 x5 x6;have h0:=Hd hI;clear hI;go_wp2;go_loopw [5,8] (λv i wr=>∃(j:Nat)(L:List Fg),j<=q.ret.length/\i=.int .i64 j/\Hid (L=L3++aO (mr l q) 0 (q.ret.take j))/\FO l A c q ⟨A1,c1,A2,c2,A3,c3⟩ w wr v L) (λ_ i _=>q.ret.length- (intOf i).toNat)
 .exact⟨0,L3,zE _,rfl,(by show L3=_;simp[aO]),h0.o⟩
 clear h0;obtain⟨kj,L,hkj,rfl,hL,hI⟩:=hrel;have P9:L.length<=6291458:=by
  rw[hL.o,zH];have:=UZ.o kj;omega
 obtain⟨A7,c7,rfl⟩:=hI.ol.form;obtain⟨x0,x1,x2,x3,x4,x5,x6⟩:=cc hI;try simp only at x0 x3 x6
 by_cases hlt:kj<q.ret.length
 .obtain⟨t,ht⟩:=av hlt;have nj:=zA ht;have BZ:=hre.o t nj;obtain⟨nt,J4⟩:=S5.o t nj;obtain⟨g,off,B2,d2,rfl,PW,rx,a0⟩:=nM hR3.o ht;replace a0:=(hI.hb.cell (p:=⟨g,off+kj,none⟩) (hF.o g PW)).trans a0;have XI:∀W,Bw w W->Rd W F (.slice B2 t.length d2) (.sl t.length (t.flatMap b9)):=λW hW=>rx.under hW hF.o
  have qy:∀(i:Nat)(x:Nd)(W:World),t[i]? =some x->Bw w W->Cl 130 #[.agg ⟨[.slice A l.length c]⟩,.agg ⟨[.slice A1 q.items.length c1,.int .i64 q.mode,.int .i64 q.after,.slice A2 q.wh.length c2,.int .i64 q.within,.string q.au,.slice (some ⟨g,off,none⟩) q.ret.length c3]⟩,.slice B2 t.length d2,.int .i64 i,.bool true] W (gV (dA l q t true x) W):=λi x W hx hW=>kn.o t i x B2 d2 W nj hx hW (XI W hW)
  have g1:=aH kj;have g2:=aV kj q.ret.length;have Fw:=iu (mr l q) ht;have iA:mr l q kj t=aO (λi x=>eF 12 5 kj i (dA l q t true x)) 0 t++(if aE t=true then [⟨12,5,75,5,kj,(t.length:Int) -1⟩]else []):=rfl;rw[iA,<-zR]at Fw;replace Fw:Hid (L3++aO (mr l q) 0 (q.ret.take (kj+1))=L++(aO (λi x=>eF 12 5 kj i (dA l q t true x)) 0 t++(if aE t=true then [⟨12,5,75,5,kj,(t.length:Int) -1⟩]else []))):=by
   show _=_
   rw[Fw,hL.o];simp only[zR]
  replace⟨qy,XI,J4⟩:=H3 qy XI J4;clear iA rx;replace⟨ht,nj⟩:=H2 ht nj;have IX:=Hd hI;clear hI;obtain⟨wo,gU⟩:=aB wr
  subst gU;go_wp2;clear x0 x1 x2 x3 x4 x5 x6 a0;go_loopw [5,10] (λv i wr=>∃(j:Nat)(L4:List Fg),j<=t.length/\i=.int .i64 j/\Hid (L4=L++aO (λi x=>eF 12 5 kj i (dA l q t true x)) 0 (t.take j))/\FO l A c q ⟨A1,c1,A2,c2,some ⟨g,off,none⟩,c3⟩ w wr v L4) (λ_ i _=>t.length- (intOf i).toNat)
  .exact⟨0,L,zE _,rfl,(by show L=_;simp[aO]),IX.o⟩
  clear IX;obtain⟨j,L4,hj,rfl,Ha,hI⟩:=hrel;have aiv:L4.length<=10485762:=by
   rw[Ha.o,zH];have:(aO (λi x=>eF 12 5 kj i (dA l q t true x)) 0 (t.take j)).length<=(t.take j).length*4:=uB (f:=λ_ x=>dA l q t true x) 12 5 (λi=>((kj:Int),(i:Int))) (t.take j) (λ_ x=>by rw[my];omega);rw[zO]at this;omega
  obtain⟨A4,c4,rfl⟩:=hI.ol.form;obtain⟨x0,x1,x2,x3,x4,x5,x6⟩:=cc hI;try simp only at x0 x3 x6
  have y0:wr.cell? ⟨w.heap.size,0,none⟩=some (.slice A l.length c):=hI.sq.b0.cell 0;have Lt:=hI.hb.size;by_cases oK:j<t.length
  .obtain⟨x,hx⟩:=av oK;have p1:=aH j;have p2:=aV j t.length;have QE:=qy.o j x wr hx hI.hb;have I':=iu (λi x=>eF 12 5 kj i (dA l q t true x)) hx;replace I':L++aO (λi x=>eF 12 5 kj i (dA l q t true x)) 0 (t.take (j+1))=L4++eF 12 5 kj j (dA l q t true x):=by rw[I',Ha.o,zR]
   generalize dA l q t true x=e at QE I';replace⟨QE,I',hI,hx⟩:=H4 QE I' hI hx;go_upto_region 20 with(go_at_call 130;refine QE.o.mono ?_;rintro e W ⟨a1,a2,a3,a4,rfl,rfl,hW⟩)
   have vm:FR l A c q ⟨A1,c1,A2,c2,some ⟨g,off,none⟩,c3⟩ W.heap.size a1 a2 a3 a4 w (W.alloc (.cells ⟨rM a1 a2 a3 a4⟩ 209)) (.slice A4 L4.length c4) L4:=⟨(hI.o.stay hW).stay bA,ao.new _ _ _⟩;simp only[rM]at vm;replace vm:=Hd vm;clear hW x0 x1 x2 x3 x4 x5 x6 y0;obtain⟨wi,hwi⟩:=aB wr
   subst hwi;go_wp2;go_loopw [5,12] (λv i wr=>∃(k:Nat)(Lk:List Fg),k<=4/\i=.int .i64 ((k+1:Nat):Int)/\Hid (Lk=L4++aO (eG 12 5 kj j) 0 ([a1,a2,a3,a4].take k))/\FR l A c q ⟨A1,c1,A2,c2,some ⟨g,off,none⟩,c3⟩ W.heap.size a1 a2 a3 a4 w wr v Lk) (λ_ i _=>5- (intOf i).toNat)
   .exact⟨0,L4,oQ,rfl,(zT L4).symm,vm.o⟩
   clear vm;obtain⟨k,Lk,hk,rfl,IY,hF2⟩:=hrel;have YK:Lk.length<=10485766:=by
    rw[IY.o,zH];have:=LL 12 5 kj j a1 a2 a3 a4 k;omega
   obtain⟨A5,c5,rfl⟩:=hF2.fo.ol.form;have I7:=hF2.fo.hb.size;by_cases hk4:k<4
   .obtain⟨cv,hcv⟩:=av (l:=[a1,a2,a3,a4]) (i:=k) (by simpa using hk4);have q0:=(hF2.bb.cell (k+1)).trans (LJ hcv);have bz:=iu (eG 12 5 kj j) hcv;have p1:((k+1:Nat):Int)<=4:=oQ;have p2:(0:Int)<=((k+1:Nat):Int):=oQ;have p3:((k+1:Nat):Int)<5:=oQ;have fX:Lk.length+1<=gg:=by unfold gg;omega
    have pv:((k:Int)+1)=((k+1:Nat):Int):=oQ;have uv:k+1+1<=5:=oQ;generalize YX:k+1=Az at*;replace⟨fX,hcv,YX,pv,hF2⟩:=H5 fX hcv YX pv hF2;by_cases fH:cv=0
    .have jn:Hid (Lk=L4++aO (eG 12 5 kj j) 0 ([a1,a2,a3,a4].take Az)):=by
      show _=_
      rw[bz,IY.o];unfold eG;rw[if_neg (λh=>h fH),zT]
     subst fH;replace bz:=Hd bz;go_wp2;go_roundw
     .exact⟨Az,Lk,oQ,gQ,jn,hF2.o⟩
     exact mQ
    .have f1:=gL fH;have f2:=cM fH;have jn:Hid (Lk++[⟨12,(Az:Int),cv,5,kj,j⟩]=L4++aO (eG 12 5 kj j) 0 ([a1,a2,a3,a4].take Az)):=by
      show _=_
      rw[bz,IY.o];unfold eG;rw[if_pos fH,pv.o,zR]
     replace⟨bz,fH⟩:=H2 bz fH;go_wp2_with (first
       |(go_at_call 127;refine(kf.o 12 Az cv 5 kj j _).eQ λW2 hW=>?_;have lQ:=Hd (hF2.o.stay hW);clear hW)
       |(at_builtin;refine Fu rfl (.tmp 91) (.tmp 99) _ rfl (m:=1) (news:=nZ ⟨12,Az,cv,5,kj,j⟩) qx (lQ.o.fo.ol.alloc _) rfl rfl (Src.lit (lu ⟨12,Az,cv,5,kj,j⟩)) rfl (lz fX.o) (lA fX.o) (by have:=lQ.o.fo.hb.size;simp;omega) ?_;intro v' w1 ax aw bu;obtain⟨B3,d3,rfl⟩:=ax.form;have wU:=Hd (lQ.o.app (f:=⟨12,Az,cv,5,kj,j⟩) aw ax);clear ax aw bu))
     go_roundw
     .exact⟨Az,_,oQ,gQ,jn,wU.o⟩
     exact mQ
   .obtain rfl:k=4:=oQ;have jn:Hid (Lk=L++aO (λi x=>eF 12 5 kj i (dA l q t true x)) 0 (t.take (j+1))):=by
     show _=_
     rw[I'.o,IY.o];rfl
    replace hF2:=Hd hF2;go_wp2;go_roundw
    .exact⟨j+1,Lk,oQ,gQ,jn,hF2.o.fo⟩
    exact mQ
  .have p2:=jS j t.length;obtain rfl:j=t.length:=oQ;rw[zL]at Ha;have QJ:Hid (L3++aO (mr l q) 0 (q.ret.take (kj+1))=L4++if aE t=true then [⟨12,5,75,5,kj,(t.length:Int) -1⟩]else []):=by
    show _=_
    rw[Fw.o,Ha.o,zR]
   obtain⟨xl,xx⟩:=av (l:=t) (i:=nt) (by have:=J4.o;omega);have FE:=QH J4.o xx;obtain⟨g9,aix,rfl,_,z0,_⟩:=dk (XI.o wr hI.hb) xx;have hlp:0<t.length:=by have:=J4.o;omega
   have n0:(0:Int)<(t.length:Int):=oQ;have n1:=aH nt;have n3:(nt:Int)<(t.length:Int):=by have:=J4.o;omega
   have nw:(t.length:Int) -1=(nt:Int):=(by have:=J4.o;omega);have nw2:IntKind.i64.wrap ((t.length:Int) -1)=(nt:Int):=by rw[xI];omega
   rw[FE,nw]at QJ;generalize Ez:aQ xl.op=tb at QJ;replace⟨Ez,FE,xx,nw,hI⟩:=H5 Ez FE xx nw hI;go_upto_region 25 with fail
   go_cut [113] (λs wx=>s=.bool tb/\FO l A c q ⟨A1,c1,A2,c2,some ⟨g,off,none⟩,c3⟩ w wx (.slice A4 L4.length c4) L4)
   .go_wp2_with (go_at_call 131;refine(kt.o _ _).aR ?_;rw[Ez.o])
    all_goals(go_meet;exact⟨rfl,hI.o⟩)
   obtain⟨rfl,bn⟩:=hcut;clear x0 x1 x2 x3 x4 x5 x6 y0 z0 hI Ha;have hI:=Hd bn;clear bn;cases tb with
   |true=>
    have fX:=Hd (show L4.length+1<=gg by unfold gg;omega);have jn:Hid (L4++[⟨12,5,75,5,kj,(nt:Int)⟩]=L3++aO (mr l q) 0 (q.ret.take (kj+1))):=by
     show _=_
     rw[QJ.o,if_pos rfl]
    go_wp2_with (first
       |(go_at_call 127;refine(kf.o 12 5 75 5 kj nt _).eQ λW2 hW=>?_;have lQ:=Hd (hI.o.stay hW);clear hW)
       |(at_builtin;refine Fu rfl (.tmp 114) (.tmp 120) _ rfl (m:=1) (news:=nZ ⟨12,5,75,5,kj,(nt:Int)⟩) qx (lQ.o.ol.alloc _) rfl rfl (Src.lit (lu ⟨12,5,75,5,kj,(nt:Int)⟩)) rfl (lz fX.o) (lA fX.o) (by have:=lQ.o.hb.size;simp;omega) ?_;intro v' w1 ax aw bu;obtain⟨B3,d3,rfl⟩:=ax.form;have wU:=Hd (lQ.o.app (f:=⟨12,5,75,5,kj,(nt:Int)⟩) aw ax);clear ax aw bu))
    go_roundw
    .exact⟨kj+1,_,oQ,gQ,jn,wU.o⟩
    exact mQ
   |false=>
    have jn:Hid (L4=L3++aO (mr l q) 0 (q.ret.take (kj+1))):=by
     show _=_
     rw[QJ.o,if_neg sJ,zT]
    go_wp2;go_roundw
    .exact⟨kj+1,L4,oQ,gQ,jn,hI.o⟩
    exact mQ
 .have g2:=jS kj q.ret.length;obtain rfl:kj=q.ret.length:=oQ;have ae:Hid (L=R0):=by show _=_;rw[uc.o,hL.o,zL]
  replace hI:=Hd hI;go_wp2;go_ret;exact iy.mk ae.o hI.o.ol hI.o.hb
end dR
theorem FH (l q)(hs:jE q)(rD:q.wh=[]\/aW q.wh=true):(gP l q).length<=6291458:=by
 have e:gP l q=aO (λi x=>eF 6 4 i 0 (dA l q q.wh false x)) 0 q.wh++(if q.wh=[]then []else(if aE q.wh=false then [⟨7,0,75,4,(q.wh.length:Int) -1,0⟩]else [])++(cI q.wh).flatMap (LM q)):=rfl;have h1:(aO (λi x=>eF 6 4 i 0 (dA l q q.wh false x)) 0 q.wh).length<=q.wh.length*4:=uB (f:=λ_ x=>dA l q q.wh false x) 6 4 (λi=>((i:Int),0)) q.wh (λ_ x=>by rw[my];omega);have hl:=hs.wh.1;rw[e,zH];by_cases hne:q.wh=[]
 .rw[if_pos hne];simp;omega
 .rw[if_neg hne,zH];have h2:(if aE q.wh=false then [(⟨7,0,75,4,(q.wh.length:Int) -1,0⟩:Fg)]else []).length<=1:=eh _;have h3:=LN q (cI q.wh);have h4:(cI q.wh).length<=1048576:=by
   obtain⟨⟨n,hn,hsp⟩,_,_⟩:=dF (rD.resolve_left hne);unfold cI;have:=zr hsp (n:=q.wh.length) oQ;rw[show q.wh.length-1=n by omega];omega
  omega
theorem Ja (l q)(hs:jE q)(hB:Cc q):(mv l q).length<=6291460:=by
 rw[Dd,zH,zH,zH];have h1:(if 1099511627776<q.within then [(⟨9,0,66,2,0,0⟩:Fg)]else []).length<=1:=eh _;have h2:(if q.au=emp then []else q.items.flatMap (I9 l q)).length<=1048576:=by
  by_cases h:q.au=emp
  .rw[if_pos h];simp
  .rw[if_neg h];have:=mD (f:=I9 l q) q.items (λx=>eh _);have:=hs.il;omega
 have h3:(if 8<q.ret.length then [(⟨11,0,78,5,8,0⟩:Fg)]else []).length<=1:=eh _;have h4:=Dc l q hs hB q.ret.length;rw[zL]at h4;omega
def qA (c:Int)(w:World)(e:Ending)(w':World):Prop:=∃p i s,e=.returned (.agg #[.int .i64 c,.int .i64 p,.int .i64 i,.int .i64 s])/\Bw w w'
theorem qA.mk {c d p i s w w'}(hc:d=c)(hb:Bw w w'):qA c w (.returned (.agg ⟨jH d p i s⟩)) w':=by subst hc;exact⟨p,i,s,rfl,hb⟩
structure CF (l:List Td)(A:Option Addr)(c:Nat)(q:Qy)(s:fV)(w wr:World)(v:Value)(L:List Fg):Prop where
 cb:CB l A c q s w wr
 ol:OL wr w.heap.size eL 162 6 v L.length (L.flatMap nZ)
structure CX (l:List Td)(A:Option Addr)(c:Nat)(q:Qy)(s:fV)(gb:Nat)(b:Fg)(w wr:World)(v:Value)(L:List Fg):Prop where
 cf:CF l A c q s w wr v L
 bb:ao wr gb 162 (wR b)
 gl:w.heap.size+1+1<gb
section
variable {l:List Td}{A:Option Addr}{c:Nat}{q:Qy}{s:fV}{gb:Nat}{b b':Fg}{w wr W w1:World}{v v':Value}{L:List Fg}
theorem CF.stay (h:CF l A c q s w wr v L)(hb:Bw wr W):CF l A c q s w W v L:=⟨h.cb.stay hb,h.ol.stay hb⟩
theorem CX.stay (h:CX l A c q s gb b w wr v L)(hb:Bw wr W):CX l A c q s gb b w W v L:=⟨h.cf.stay hb,h.bb.stay hb,h.gl⟩
theorem CX.put (h:CX l A c q s gb b w wr v L)(hn:v.ownBlock≠some gb)(hg:wr.grownBy w1 (some gb))(hb:ao w1 gb 162 (wR b')):CX l A c q s gb b' w w1 v L:=by
 have tC:=h.gl;refine⟨⟨⟨⟨h.cf.cb.sq.hb.grown hg h.cf.cb.sq.hb.size (λq hq=>by injection hq with hq;omega),h.cf.cb.sq.b0.grown hg (λe=>by injection e with e;omega),h.cf.cb.sq.b1.grown hg (λe=>by injection e with e;omega)⟩,h.cf.cb.b2.grown hg (λe=>by injection e with e;omega)⟩,?_⟩,hb,tC⟩;exact h.cf.ol.kept hg (.inr hn) (λ_ hb=>hb.elim)
theorem De (h:ao wr gb 162 (wR b)):wr.cell? ⟨gb,0,none⟩=some (.int .i64 b.rule)/\wr.cell? ⟨gb,1,none⟩=some (.int .i64 b.pL)/\wr.cell? ⟨gb,2,none⟩=some (.int .i64 b.code)/\wr.cell? ⟨gb,3,none⟩=some (.int .i64 b.part)/\wr.cell? ⟨gb,4,none⟩=some (.int .i64 b.idx)/\wr.cell? ⟨gb,5,none⟩=some (.int .i64 b.sub):=
 ⟨h.cell 0,h.cell 1,h.cell 2,h.cell 3,h.cell 4,h.cell 5⟩
theorem Te {B i x}(h:OL wr B eL 162 6 v L.length (L.flatMap nZ))(hx:L[i]? =some x):∃g cap,v=.slice (some ⟨g,0,none⟩) L.length cap/\g<wr.heap.size/\(∀j,wr.frozen? ⟨g,j,none⟩=false)/\
  wr.cell? ⟨g,i*6,none⟩=some (.int .i64 x.rule)/\wr.cell? ⟨g,i*6+1,none⟩=some (.int .i64 x.pL)/\wr.cell? ⟨g,i*6+2,none⟩=some (.int .i64 x.code)/\wr.cell? ⟨g,i*6+3,none⟩=some (.int .i64 x.part)/\wr.cell? ⟨g,i*6+4,none⟩=some (.int .i64 x.idx)/\wr.cell? ⟨g,i*6+5,none⟩=some (.int .i64 x.sub):=by
 obtain⟨g,cap,e,_,h2,h3,h4⟩:=h.row (by have:=(zC.1 hx).1;omega);have key:∀(j:Nat)(y:Value),(nZ x)[j]? =some (.v y)->wr.cell? ⟨g,i*6+j,none⟩=some y:=λj y hj=>by
  obtain⟨u,hu,hr⟩:=h4 (i*6+j) _ (po (f:=nZ) (m:=6) (λ_=>rfl) hx hj);rw[hr.bH]at hu;exact hu
 exact⟨g,cap,e,h2,h3,key 0 _ rfl,key 1 _ rfl,key 2 _ rfl,key 3 _ rfl,key 4 _ rfl,key 5 _ rfl⟩
end
theorem LW (f):fD (nZ f):=λd hd=>by
 simp only[nZ,List.mem_cons,List.not_mem_nil,or_false]at hd;rcases hd with rfl |rfl |rfl |rfl |rfl |rfl<;>exact⟨_,rfl⟩
theorem FJ (b r x):cX b (r++[x])=if pO x (cX b r)then x else cX b r:=by
 rw[yc];rfl
theorem FK {b x}{r:List Fg}{k}(h:r[k]? =some x):cX b (r.take (k+1))=if pO x (cX b (r.take k))then x else cX b (r.take k):=by
 rw[zJ,h];exact FJ b (r.take k) x
theorem Jb {l q}(hc:dy l=0)(hs:aL q=true){L}(hL:L=if gO l q=[]then gP l q++mv l q else gO l q):dI L=bf (dy l) l q:=by
 have h:=PR (l:=l) hs;unfold Uc at h;rw[<-apply_ite dI]at h;rw[hL];unfold bf;rw[hc,if_pos hs,h];simp[fz]
