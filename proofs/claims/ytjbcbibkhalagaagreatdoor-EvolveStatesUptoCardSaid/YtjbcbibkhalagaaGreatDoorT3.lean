/- The law's copies of events, names, matches, a. -/
import Derived.Test.YtjbcbibkhalagaaGreatDoorYq
namespace Go.Proofs.YtjbcbibkhalagaaGreatDoor
set_option maxRecDepth 100000
set_option maxHeartbeats 16000000
open Proofs.Tryz Go.RowKit Go.Deep
set_option linter.unusedVariables false
set_option linter.unusedSimpArgs false
theorem ZH:jV prog 51 2:=⟨_,underlying51,rfl,kQ⟩
theorem agT:jV prog 57 2:=⟨_,underlying57,rfl,kQ⟩
theorem Gc {w F A c i}{t:List RG}{x}(r:Rd w F (.slice A t.length c) (.sl t.length (t.flatMap qi)))(hp:t[i]? =some x):∃b off,A=some ⟨b,off,none⟩/\F b/\b<w.heap.size/\w.rangeAt b (off+i*2) (EF x):=by
 obtain⟨b,off,rfl,hF,ha,_⟩:=r.cP (m:=2) (λ_=>rfl) hp oQ;refine⟨b,off,rfl,hF,zX w _ (ha 0 _ rfl),λj v hv=>?_⟩;match j,hv with
 |0,hv |1,hv=>exact(ha _ _ rfl).trans hv
 |j+2,hv=>simp[EF]at hv
theorem Nv {w F A c i}{t:List XU}{x}(r:Rd w F (.slice A t.length c) (.sl t.length (t.flatMap uh)))(hp:t[i]? =some x):∃b off,A=some ⟨b,off,none⟩/\F b/\b<w.heap.size/\w.rangeAt b (off+i*2) (Jx x):=by
 obtain⟨b,off,rfl,hF,ha,_⟩:=r.cP (m:=2) (λ_=>rfl) hp oQ;refine⟨b,off,rfl,hF,zX w _ (ha 0 _ rfl),λj v hv=>?_⟩;match j,hv with
 |0,hv |1,hv=>exact(ha _ _ rfl).trans hv
 |j+2,hv=>simp[Jx]at hv
theorem Nw {w F A c i}{t:List Int}{x}(r:Rd w F (.slice A t.length c) (.sl t.length (t.flatMap (jf .i64))))(hp:t[i]? =some x):∃b off,A=some ⟨b,off,none⟩/\F b/\b<w.heap.size/\w.cell? ⟨b,off+i,none⟩=some (.int .i64 x):=by
 obtain⟨b,off,rfl,hF,ha,_⟩:=r.cP (m:=1) (λ_=>rfl) hp oQ;have h:=ha 0 _ rfl;rw[Nat.mul_one,Nat.add_zero]at h;exact⟨b,off,rfl,hF,zX w _ h,h⟩
theorem VW (w G x):fB w G (EF x) (qi x):=⟨.v _ rfl,.v _ rfl,trivial⟩
theorem aev (w G x):fB w G (Jx x) (uh x):=⟨.v _ rfl,.v _ rfl,trivial⟩
theorem VX (w G x):fB w G (cS x) (oc x):=⟨.v _ rfl,.v _ rfl,.v _ rfl,.v _ rfl,.v _ rfl,.v _ rfl,.v _ rfl,.v _ rfl,.v _ rfl,.v _ rfl,.v _ rfl,trivial⟩
structure Kl (x:Mt)(wo w:World)(g:Nat)(u1:Value)(j:Nat)(u2:Value)(k:Nat)(u3:Value):Prop where
 hb:Bw wo w
 b:ao w g 55 [.int .i64 x.dec,u1,u2,u3]
 lt:wo.heap.size<=g
 o1:OL w wo.heap.size bE 51 2 u1 x.iE.length (x.iE.flatMap qi)
 o2:OL w wo.heap.size bE 3 1 u2 j ((x.lens.take j).flatMap (jf .i64))
 o3:OL w wo.heap.size bE 57 2 u3 k ((x.vals.take k).flatMap uh)
section
variable {x:Mt}{wo w W w1:World}{g j k:Nat}{u1 u2 u3 u':Value}
theorem Kl.stay (h:Kl x wo w g u1 j u2 k u3)(hb:Bw w W):Kl x wo W g u1 j u2 k u3:=⟨h.hb.trans (hb.mono h.hb.size),h.b.stay hb,h.lt,h.o1.stay hb,h.o2.stay hb,h.o3.stay hb⟩
theorem Kl.lens {o y}(h:Kl x wo w g u1 j u2 k u3)(hy:x.lens[j]? =some y)(hg:(w.alloc o).grownBy w1 u2.ownBlock)(hv:OL w1 wo.heap.size bE 3 1 u' (j+1) ((x.lens.take j).flatMap (jf .i64)++jf .i64 y)):
  w1.cell? ⟨g,2,none⟩=some u2/\w1.frozen? ⟨g,2,none⟩=false/\Bw wo w1/\Kl x wo (w1.setCell ⟨g,2,none⟩ u') g u1 (j+1) u' k u3:=by
 have s:=h.stay ((bR).alloc nR o);have hT:lX [3] (w.alloc o) w1:=.row s.o2 hg;have b:=hT.vM s.b;have hb:=s.hb.grown hg s.hb.size (λq hq=>(s.o2.lt q hq).1);have hs:lX [55] w1 (w1.setCell ⟨g,2,none⟩ u'):=.set b 2 u';refine⟨b.cell 2,b.frozen 2,hb,hb.setCell h.lt _,b.dz 2 u',h.lt,(s.o1.dM hT).dM hs,?_,(s.o3.dM hT).dM hs⟩;rw[zJ,hy,xD];exact(show OL w1 _ _ _ _ _ _ ((x.lens.take j).flatMap (jf .i64)++(Option.toList (some y)).flatMap (jf .i64)) by simpa using hv).dM hs
theorem Kl.vals {o y}(h:Kl x wo w g u1 j u2 k u3)(hy:x.vals[k]? =some y)(hg:(w.alloc o).grownBy w1 u3.ownBlock)(hv:OL w1 wo.heap.size bE 57 2 u' (k+1) ((x.vals.take k).flatMap uh++uh y)):
  w1.cell? ⟨g,3,none⟩=some u3/\w1.frozen? ⟨g,3,none⟩=false/\Bw wo w1/\Kl x wo (w1.setCell ⟨g,3,none⟩ u') g u1 j u2 (k+1) u':=by
 have s:=h.stay ((bR).alloc nR o);have hT:lX [57] (w.alloc o) w1:=.row s.o3 hg;have b:=hT.vM s.b;have hb:=s.hb.grown hg s.hb.size (λq hq=>(s.o3.lt q hq).1);have hs:lX [55] w1 (w1.setCell ⟨g,3,none⟩ u'):=.set b 3 u';refine⟨b.cell 3,b.frozen 3,hb,hb.setCell h.lt _,b.dz 3 u',h.lt,(s.o1.dM hT).dM hs,(s.o2.dM hT).dM hs,?_⟩;rw[zJ,hy,xD];exact(show OL w1 _ _ _ _ _ _ ((x.vals.take k).flatMap uh++(Option.toList (some y)).flatMap uh) by simpa using hv).dM hs
end
namespace rS
open cH dR di
theorem rT (A c F)(l:List Ev)(hl:l.length<=1048576)(w)(hF:∀b,F b->b<w.heap.size)(r:Rd w F (.slice A l.length c) (.sl l.length (l.flatMap oc))):
  Cl 14 #[.slice A l.length c] w λe w'=>∃v,e=.returned v/\OL w' w.heap.size bE 49 11 v l.length (l.flatMap oc)/\Bw w w':=by
 replace⟨r,hF⟩:=H2 r hF;go_enter func14,ntmps14;go_wp2;go_loopw [3,4] (λv x wr=>∃(j:Nat)(s3:Value),s3=v/\j<=l.length/\x=.int .i64 j/\OL wr w.heap.size bE 49 11 s3 j ((l.take j).flatMap oc)/\Bw w wr) (λ_ x _=>l.length- (intOf x).toNat)
 .exact⟨0,_,rfl,zE _,rfl,.nil _ _ _ _ _,bR⟩
 obtain⟨j,s3,rfl,hj,rfl,hO,hB⟩:=hrel;by_cases hlt:j<l.length
 .obtain⟨x,hx⟩:=av hlt;obtain⟨b,off,rfl,pZ,qL,nQ⟩:=DL (r.o.under hB hF.o) hx;have g0:=aH j;have g1:=aV j l.length;have tM:(l.take (j+1)).flatMap oc=(l.take j).flatMap oc++oc x:=by rw[zJ,hx];simp
  have hsz:=hB.size;replace⟨tM,hB,nQ⟩:=H3 tM hB nQ;clear hx;go_wp2_with (first
   |(refine ay (.load 49 (.tmp 14)) rfl ?_;refine fQ rfl 49 (.tmp 14) rfl nQ.o dU rfl ?_;simp only[cS])
   |(at_builtin;refine ez rfl (.tmp 11) (.tmp 16) _ rfl (m:=1) (news:=oc x) yN (hO.alloc (.cells ⟨cS x⟩ 49)) rfl rfl (Src.lit (VX wr _ x)) rfl oQ oQ (by simp;omega) ?_;intro v' w1 ax aw bu))
  go_roundw
  .exact⟨j+1,_,rfl,oQ,gQ,by rw[tM.o];exact ax,(hB.o.alloc hB.o.size (.cells ⟨cS x⟩ 49)).grown aw (by simp;omega) (λq hq=>(hO.lt q hq).1)⟩
  exact mQ
 .obtain rfl:j=l.length:=oQ;rw[zL]at hO;replace⟨hO,hB⟩:=H2 hO hB;go_wp2;go_ret;exact⟨_,rfl,hO.o,hB.o⟩
theorem tN (A c F)(l:List RG)(hl:l.length<=1048576)(w)(hF:∀b,F b->b<w.heap.size)(r:Rd w F (.slice A l.length c) (.sl l.length (l.flatMap qi))):
  Cl 16 #[.slice A l.length c] w λe w'=>∃v,e=.returned v/\OL w' w.heap.size bE 51 2 v l.length (l.flatMap qi)/\Bw w w':=by
 replace⟨r,hF⟩:=H2 r hF;go_enter func16,ntmps16;go_wp2;go_loopw [3,4] (λv x wr=>∃(j:Nat)(s3:Value),s3=v/\j<=l.length/\x=.int .i64 j/\OL wr w.heap.size bE 51 2 s3 j ((l.take j).flatMap qi)/\Bw w wr) (λ_ x _=>l.length- (intOf x).toNat)
 .exact⟨0,_,rfl,zE _,rfl,.nil _ _ _ _ _,bR⟩
 obtain⟨j,s3,rfl,hj,rfl,hO,hB⟩:=hrel;by_cases hlt:j<l.length
 .obtain⟨x,hx⟩:=av hlt;obtain⟨b,off,rfl,pZ,qL,nQ⟩:=Gc (r.o.under hB hF.o) hx;have g0:=aH j;have g1:=aV j l.length;have tM:(l.take (j+1)).flatMap qi=(l.take j).flatMap qi++qi x:=by rw[zJ,hx];simp
  have hsz:=hB.size;replace⟨tM,hB,nQ⟩:=H3 tM hB nQ;clear hx;go_wp2_with (first
   |(refine ay (.load 51 (.tmp 14)) rfl ?_;refine fQ rfl 51 (.tmp 14) rfl nQ.o ZH rfl ?_;simp only[EF])
   |(at_builtin;refine ez rfl (.tmp 11) (.tmp 16) _ rfl (m:=1) (news:=qi x) VL (hO.alloc (.cells ⟨EF x⟩ 51)) rfl rfl (Src.lit (VW wr _ x)) rfl oQ oQ (by simp;omega) ?_;intro v' w1 ax aw bu))
  go_roundw
  .exact⟨j+1,_,rfl,oQ,gQ,by rw[tM.o];exact ax,(hB.o.alloc hB.o.size (.cells ⟨EF x⟩ 51)).grown aw (by simp;omega) (λq hq=>(hO.lt q hq).1)⟩
  exact mQ
 .obtain rfl:j=l.length:=oQ;rw[zL]at hO;replace⟨hO,hB⟩:=H2 hO hB;go_wp2;go_ret;exact⟨_,rfl,hO.o,hB.o⟩
theorem xj (A c F l)(hl:l.length<=1048576)(ud:∀t∈l,t.iE.length<=1048576/\t.lens.length<=1048576/\t.vals.length<=1048576)(w)(hF:∀b,F b->b<w.heap.size)(r:Rd w F (.slice A l.length c) (.sl l.length (l.flatMap Pk))):
  Cl 15 #[.slice A l.length c] w λe w'=>∃v m,e=.returned v/\RM w' w.heap.size v m/\m.map (·.1)=l/\Bw w w':=by
 replace⟨r,hF,ud⟩:=H3 r hF ud;go_enter func15,ntmps15;go_wp2;go_loopw [3,4] (λv i wx=>∃(j:Nat)(m:List (Mt×Value×Value×Value)),j<=l.length/\i=.int .i64 j/\RM wx w.heap.size v m/\m.map (·.1)=l.take j/\Bw w wx) (λ_ i _=>l.length- (intOf i).toNat)
 .exact⟨0,[],zE _,rfl,.nil _ _,rfl,bR⟩
 obtain⟨i,m,hi,rfl,hO,hm,hB⟩:=hrel;by_cases hlt:i<l.length
 .obtain⟨x,hx⟩:=av hlt;obtain⟨cL,Rf,hz3⟩:=ud.o x (zA hx);obtain⟨b,off,B1,e1,B2,e2,B3,e3,eA,pZ,qL,nQ,r1,r2,r3⟩:=HJ (r.o.under hB hF.o) hx;subst eA;have Tx:∀b,F b->b<wr.heap.size:=λb hb=>zF (hF.o b hb) hB.size
  have kn:=Hd (λW (hW:Bw wr W)=>tN B1 e1 F x.iE cL W (λb hb=>zF (Tx b hb) hW.size) (r1.under hW Tx));have kS:∀W,Bw wr W->W.cell? ⟨b,off+i*4,none⟩=some (.int .i64 x.dec)/\W.cell? ⟨b,off+i*4+1,none⟩=some (.slice B1 x.iE.length e1):=λW hW=>⟨(hW.cell (p:=⟨b,off+i*4,none⟩) qL).trans (nQ 0 _ rfl),(hW.cell (p:=⟨b,off+i*4+1,none⟩) qL).trans (nQ 1 _ rfl)⟩
  have g0:=aH i;have g1:=aV i l.length;have jR:l.take (i+1)=l.take i++[x]:=by rw[zJ,hx];rfl
  have B0:m.length<=1048576:=by
   have:=congrArg List.length hm;simp only[xC,zO]at this;omega
  have hsz:=hB.size;have ak:=xW (kS wr.drew (bR).drew) trivial;have hU:Bw wr wr.drew:=(bR).drew;obtain⟨C3,f3,e⟩:=hO.kr.form;subst e;replace⟨hU,kS,jR,nQ,hO,hm,hB,r2,r3⟩:=H9 hU kS jR nQ hO hm hB r2 r3;clear hx r1 Tx pZ cL;obtain⟨wo,gU⟩:=aB wr
  subst gU;go_upto_region 5 with fail
  go_cut [5] (λv wx=>∃(g:Nat)(u1:Value),v=.pointer (some ⟨g,0,none⟩)/\Kl x wo wx g u1 0 (.slice none 0 0) 0 (.slice none 0 0))
  .refine aC (p:=100) (S0:=λW=>W.cell? ⟨b,off+i*4,none⟩=some (.int .i64 x.dec)/\W.cell? ⟨b,off+i*4+1,none⟩=some (.slice B1 x.iE.length e1)) (S1:=λ_=>True) kQ ?_;generalize wo.drew=U at ak hU |-;refine' aq 0 rfl ak ?_;refine' aq 1 rfl ak ?_;refine' aq 2 rfl ak ?_;refine' aq 3 rfl ak ?_;refine' aq 4 rfl ak ?_;refine' aq 5 rfl ak ?_;refine' aq 6 rfl ak ?_;refine' aq 7 rfl ak ?_;refine' aq 8 rfl ak ?_;refine' aq 9 rfl ak ?_;try simp only[Act.put,aK]
   refine sW (k1:=10) (k2:=12) kQ rfl rfl (λK hK=>?_) (λK hK=>?_)
   .go_simp;go_at_call 16;refine(kn.o U hU.o).mono ?_;rintro e V1 ⟨u1,rfl,hu,hB⟩;obtain⟨P1,p1,e⟩:=hu.form;subst e;have xh:=Hd (hU.o.trans (hB.mono hU.o.size));replace hu:=Hd (hu.base hU.o.size);refine hK.o _ _ ⟨kS.o V1 xh.o,λ_=>trivial⟩ ?_;replace ak:=xW (kS.o V1 xh.o) trivial;clear hK K hB;refine' aq 11 rfl ak ?_;try simp only[Act.put,aK]
    refine Gs 12 rfl λK hK=>?_
    go_simp;have hz:=ao.new V1 55 [.int .i64 0,.slice none 0 0,.slice none 0 0,.slice none 0 0];have hB:Bw V1 (V1.alloc (.cells ⟨[.int .i64 0,.slice none 0 0,.slice none 0 0,.slice none 0 0]⟩ 55)):=bA;have DW:=xh.o.size;generalize V1.alloc (.cells ⟨[.int .i64 0,.slice none 0 0,.slice none 0 0,.slice none 0 0]⟩ 55)=V2 at hz hB |-;obtain⟨gz,oL⟩:=aB V1.heap.size
    rw[<-oL]at hz DW |-;clear oL;have HK:=Hd (xh.o.trans (hB.mono xh.o.size));replace hu:=hu.o.stay hB;refine hK.o _ _ ⟨kS.o V2 HK.o,λ_=>trivial⟩ ?_;clear hK K hB ak;refine Gs 13 rfl λK hK=>?_
    refine bh (by rfl) 55 _ _ (by rfl) (cs':=[.int .i64 x.dec,.slice P1 x.iE.length p1,.slice none 0 0,.slice none 0 0]) hz DY rfl (by rfl) (by rfl) rfl ?_;intro W6 sX wY;have lO:=HK.o.grown wY HK.o.size (λq hq=>by injection hq with hq;omega);have UX:=hu.dM (.grown hz wY:lX [55] V2 W6);refine hK.o _ _ ⟨kS.o _ lO,λ_=>trivial⟩ ?_;clear hK K;refine Gd _ ?_;go_simp;go_wp2
    all_goals(go_meet;exact⟨gz,_,rfl,lO,sX,DW,UX,.nil _ _ _ _ _,.nil _ _ _ _ _⟩)
   .go_simp;have hz:=ao.new U 55 [.int .i64 0,.slice none 0 0,.slice none 0 0,.slice none 0 0];have hB:Bw U (U.alloc (.cells ⟨[.int .i64 0,.slice none 0 0,.slice none 0 0,.slice none 0 0]⟩ 55)):=bA;have DW:=hU.o.size;generalize U.alloc (.cells ⟨[.int .i64 0,.slice none 0 0,.slice none 0 0,.slice none 0 0]⟩ 55)=V1 at hz hB |-;obtain⟨gz,oL⟩:=aB U.heap.size
    rw[<-oL]at hz DW |-;clear oL;have xh:=Hd (hU.o.trans (hB.mono hU.o.size));refine hK.o _ _ ⟨kS.o V1 xh.o,λ_=>trivial⟩ ?_;clear hK K hB ak;try simp only[Act.put,aK]
    refine Gs 10 rfl λK hK=>?_
    go_simp;go_at_call 16;refine(kn.o V1 xh.o).mono ?_;rintro e V2 ⟨u1,rfl,hu,hB⟩;obtain⟨P1,p1,e⟩:=hu.form;subst e;have HK:=Hd (xh.o.trans (hB.mono xh.o.size));replace hu:=hu.base xh.o.size;replace hz:=hz.stay hB;refine hK.o _ _ ⟨kS.o V2 HK.o,λ_=>trivial⟩ ?_;have ak:=xW (kS.o V2 HK.o) trivial;clear hK K hB;refine' aq 11 rfl ak ?_;try simp only[Act.put,aK]
    clear ak;refine Gs 13 rfl λK hK=>?_
    refine bh (by rfl) 55 _ _ (by rfl) (cs':=[.int .i64 x.dec,.slice P1 x.iE.length p1,.slice none 0 0,.slice none 0 0]) hz DY rfl (by rfl) (by rfl) rfl ?_;intro W6 sX wY;have lO:=HK.o.grown wY HK.o.size (λq hq=>by injection hq with hq;omega);have UX:=hu.dM (.grown hz wY:lX [55] V2 W6);refine hK.o _ _ ⟨kS.o _ lO,λ_=>trivial⟩ ?_;clear hK K;refine Gd _ ?_;go_simp;go_wp2
    all_goals(go_meet;exact⟨gz,_,rfl,lO,sX,DW,UX,.nil _ _ _ _ _,.nil _ _ _ _ _⟩)
  obtain⟨g,u1,rfl,hM⟩:=hcut;replace hM:=Hd hM;clear kn kS ak hU;go_wp2;go_loopw [6] (λi' wx=>∃(k:Nat)(v:Value),k<=x.lens.length/\i'=.int .i64 k/\Kl x wo wx g u1 k v 0 (.slice none 0 0)) (λi' _=>x.lens.length- (intOf i').toNat)
  .exact⟨0,_,zE _,rfl,hM.o⟩
  clear hM;obtain⟨k,v,hk,rfl,hM⟩:=hrel;have c0:wr.cell? ⟨b,off+i*4+2,none⟩=some (.slice B2 x.lens.length e2):=(hM.hb.cell (p:=⟨b,off+i*4+2,none⟩) qL).trans (nQ.o 2 _ rfl);by_cases kW:k<x.lens.length
  .obtain⟨y,hy⟩:=av kW;obtain⟨b2,o2,e,hF2,df,wI⟩:=Nw r2.o hy;subst e;have kS:∀W,Bw wo W->W.cell? ⟨b,off+i*4+2,none⟩=some (.slice (some ⟨b2,o2,none⟩) x.lens.length e2)/\W.cell? ⟨b2,o2+k,none⟩=some (.int .i64 y):=λW hW=>⟨(hW.cell (p:=⟨b,off+i*4+2,none⟩) qL).trans (nQ.o 2 _ rfl),(hW.cell (p:=⟨b2,o2+k,none⟩) df).trans wI⟩
   have g0:=aH i;have g1:=aV i l.length;have g2:=aH k;have g3:=aV k x.lens.length;obtain⟨C,f,e⟩:=hM.o2.form;subst e;have Ge:=hM.stay (bR).drew;have hwr:=hM.hb.size;have tC:=hM.lt;have Fy:=hM.b.lt;replace⟨kS,hM,hy⟩:=H3 kS hM hy;clear wI hF2;go_upto_region 9 with fail
   clear c0;have ak:=xW (kS.o _ Ge.hb) (Ge.b.cell 2:wr.drew.cell? ⟨g,2,none⟩=some (.slice C k f));replace Ge:=Hd Ge;refine aC (p:=11) (S0:=λW=>W.cell? ⟨b,off+i*4+2,none⟩=some (.slice (some ⟨b2,o2,none⟩) x.lens.length e2)/\W.cell? ⟨b2,o2+k,none⟩=some (.int .i64 y)) (S1:=λW=>W.cell? ⟨g,2,none⟩=some (.slice C k f)) kQ ?_;generalize wr.drew=U at ak Ge |-;refine' aq 0 rfl ak ?_;try simp only[Act.put,aK]
   refine' jM (i:=1) (v:=_) rfl dQ kQ kQ kQ rfl kQ kQ (λ_ _ _ h=>h) ak (.inl ⟨by first|(with_reducible rfl)|go_simp,?VT⟩) ?VU
   case VT=>(intro W hW;(try dsimp only at hW);go_simp<;>with_reducible rfl)
   refine' aq 2 rfl ak ?_;refine' aq 3 rfl ak ?_;refine' aq 4 rfl ak ?_;refine' aq 5 rfl ak ?_;refine' aq 6 rfl ak ?_;refine' aq 7 rfl ak ?_;refine' aq 8 rfl ak ?_;refine' aq 9 rfl ak ?_;try simp only[Act.put,aK]
   refine Gs 10 rfl λK hK=>?_
   go_simp;have Nx:=Ge.o.stay (bX (.cells ⟨[.int .i64 y]⟩ 3));refine hK.o _ _ ⟨kS.o _ Nx.hb,λ_=>Nx.b.cell 2⟩ ?_;clear hK K ak;refine Gs 11 rfl λK hK=>?_
   refine dj (by rfl) (.tmp 37) (.tmp 46) _ (by rfl) (m:=1) (news:=jf .i64 y) dS (by exact Nx.o2) (by rfl) (by rfl) (by exact Src.lit (show fB U _ [.int .i64 y] (jf .i64 y)from⟨.v _ rfl,trivial⟩)) rfl oQ oQ (by have:=Nx.hb.size;omega) ?_;intro v9 W5 iM qQ AY;obtain⟨B5,d5,e⟩:=iM.form;subst e;obtain⟨t1,t2,t4,t3⟩:=Ge.o.lens hy.o qQ iM;have VY:=kS.o _ t3.hb;replace t3:=Hd t3;have F4:=kS.o _ t4;refine hK.o _ _ ⟨F4,λ_=>t1⟩ ?_;have Pg:=xW F4 t1;replace VY:=Hd VY;clear hK K iM qQ AY Nx F4 t4;refine' aq 12 rfl Pg ?_;try simp only[Act.put,aK]
   refine Gs 13 rfl λK hK=>?_
   go_simp;refine hK.o _ _ ⟨VY.o,λh=>absurd (h.symm.trans (by kernel_rfl:_=true)) sJ⟩ ?_;clear hK K;refine Gd _ ?_;try simp only[Act.put,aK]
   go_wp2;go_roundw
   .exact⟨k+1,_,oQ,gQ,t3.o⟩
   exact mQ
  .obtain rfl:k=x.lens.length:=oQ;replace hM:=Hd hM;obtain⟨u2,wE⟩:=aB v
   subst wE;go_wp2;clear c0;go_loopw [7] (λi' wx=>∃(k:Nat)(v:Value),k<=x.vals.length/\i'=.int .i64 k/\Kl x wo wx g u1 x.lens.length u2 k v) (λi' _=>x.vals.length- (intOf i').toNat)
   .exact⟨0,_,zE _,rfl,hM.o⟩
   clear hM;obtain⟨k,v,hk,rfl,hM⟩:=hrel;have c0:wr.cell? ⟨b,off+i*4+3,none⟩=some (.slice B3 x.vals.length e3):=(hM.hb.cell (p:=⟨b,off+i*4+3,none⟩) qL).trans (nQ.o 3 _ rfl);by_cases kW:k<x.vals.length
   .obtain⟨y,hy⟩:=av kW;obtain⟨b2,o2,e,hF2,df,wI⟩:=Nv r3.o hy;subst e;have kS:∀W,Bw wo W->W.cell? ⟨b,off+i*4+3,none⟩=some (.slice (some ⟨b2,o2,none⟩) x.vals.length e3)/\W.rangeAt b2 (o2+k*2) [.bool y.kn,.int .i64 y.n]:=λW hW=>⟨(hW.cell (p:=⟨b,off+i*4+3,none⟩) qL).trans (nQ.o 3 _ rfl),λq z hz=>(hW.cell (p:=⟨b2,o2+k*2+q,none⟩) df).trans (wI q z hz)⟩
    have g0:=aH i;have g1:=aV i l.length;have g2:=aH k;have g3:=aV k x.vals.length;obtain⟨C,f,e⟩:=hM.o3.form;subst e;have Ge:=hM.stay (bR).drew;have hwr:=hM.hb.size;have tC:=hM.lt;have Fy:=hM.b.lt;replace⟨kS,hM,hy⟩:=H3 kS hM hy;clear wI hF2;go_upto_region 13 with fail
    clear c0;have ak:=xW (kS.o _ Ge.hb) (Ge.b.cell 3:wr.drew.cell? ⟨g,3,none⟩=some (.slice C k f));replace Ge:=Hd Ge;refine aC (p:=11) (S0:=λW=>W.cell? ⟨b,off+i*4+3,none⟩=some (.slice (some ⟨b2,o2,none⟩) x.vals.length e3)/\W.rangeAt b2 (o2+k*2) [.bool y.kn,.int .i64 y.n]) (S1:=λW=>W.cell? ⟨g,3,none⟩=some (.slice C k f)) kQ ?_;generalize wr.drew=U at ak Ge |-;refine' aq 0 rfl ak ?_;try simp only[Act.put,aK]
    refine' jM (i:=1) (v:=_) rfl dQ kQ kQ kQ rfl kQ kQ (λ_ _ _ h=>h) ak (.inl ⟨by first|(with_reducible rfl)|go_simp,?VZ⟩) ?V9
    case VZ=>(intro W hW;(try dsimp only at hW);go_simp<;>with_reducible rfl)
    refine' aq 2 rfl ak ?_;refine' aq 3 rfl ak ?_;refine' aq 4 rfl ak ?_;refine' aq 5 rfl ak ?_;refine' aq 6 rfl ak ?_;refine' aq 7 rfl ak ?_;refine' aq 8 rfl ak ?_;try simp only[Act.put,aK]
    go_simp;refine' bm (i:=9) (v:=_) rfl dQ kQ kQ kQ (λ_ _ _ h=>h) ak (yieldsIf_load_mid (by first|(with_reducible rfl)|go_simp) 57 (.tmp 67) rfl b2 (o2+k*2) (by first|rfl |go_simp) [.bool y.kn,.int .i64 y.n] _ (λW h=>h.2) underlying57 rfl kQ) ?aew;try simp only[Act.put,aK]
    refine Gs 10 rfl λK hK=>?_
    go_simp;have Nx:=Ge.o.stay (bX (.cells ⟨[.bool y.kn,.int .i64 y.n]⟩ 57));refine hK.o _ _ ⟨kS.o _ Nx.hb,λ_=>Nx.b.cell 3⟩ ?_;clear hK K ak;refine Gs 11 rfl λK hK=>?_
    refine dj (by rfl) (.tmp 60) (.tmp 69) _ (by rfl) (m:=1) (news:=uh y) Zy (by exact Nx.o3) (by rfl) (by rfl) (by exact Src.lit (show fB U _ [.bool y.kn,.int .i64 y.n] (uh y)from⟨.v _ rfl,.v _ rfl,trivial⟩)) rfl oQ oQ (by have:=Nx.hb.size;omega) ?_;intro v9 W5 iM qQ AY;obtain⟨B5,d5,e⟩:=iM.form;subst e;obtain⟨t1,t2,t4,t3⟩:=Ge.o.vals hy.o qQ iM;have VY:=kS.o _ t3.hb;replace t3:=Hd t3;have F4:=kS.o _ t4;refine hK.o _ _ ⟨F4,λ_=>t1⟩ ?_;have Pg:=xW F4 t1;replace VY:=Hd VY;clear hK K iM qQ AY Nx F4 t4;refine' aq 12 rfl Pg ?_;try simp only[Act.put,aK]
    refine Gs 13 rfl λK hK=>?_
    go_simp;refine hK.o _ _ ⟨VY.o,λh=>absurd (h.symm.trans (by kernel_rfl:_=true)) sJ⟩ ?_;clear hK K;refine Gd _ ?_;try simp only[Act.put,aK]
    go_wp2;go_roundw
    .exact⟨k+1,_,oQ,gQ,t3.o⟩
    exact mQ
   .obtain rfl:k=x.vals.length:=oQ;have Zc:=hM.o1;have wX:=hM.o2;have ho3:=hM.o3;rw[zL]at wX ho3;have hb:=hM.b;have hMb:=hM.hb;have Jr:=hMb.size;obtain⟨P1,p1,e⟩:=Zc.form;subst e;obtain⟨P2,p2,e⟩:=wX.form;subst e;obtain⟨P3,p3,e⟩:=ho3.form;subst e;have cY:∀(w5:World)(v':Value)(o:Obj),(wr.alloc o).grownBy w5 (Value.slice C3 m.length f3).ownBlock->OL w5 w.heap.size bE 55 4 v' (m.length+1) ((m.flatMap λp=>[.v (.int .i64 p.1.dec),.v p.2.1,.v p.2.2.1,.v p.2.2.2])++[.v (.int .i64 x.dec),.v (.slice P1 x.iE.length p1),.v (.slice P2 x.lens.length p2),.v (.slice P3 x.vals.length p3)])->RM w5 w.heap.size v' (m++[(x,.slice P1 x.iE.length p1,.slice P2 x.lens.length p2,.slice P3 x.vals.length p3)])/\Bw w w5:=λw5 v' o hg hv=>by
     have ha:Bw wr (wr.alloc o):=(bR).alloc nR o;have fk:=hMb.trans (ha.mono Jr);exact⟨hO.o.snoc fk hg hv hsz (Zc.stay ha) (wX.stay ha) (ho3.stay ha),(hB.o.trans (fk.mono hsz)).grown hg (zU hsz fk.size) (λq hq=>(hO.o.kr.lt q hq).1)⟩
    have kT:=Hd (hO.o.kr.stay hMb);replace cY:=Hd cY;clear hM Zc wX ho3 hMb;go_wp2_with (first
     |(refine ay (.load 55 (.tmp 5)) rfl ?_;refine aJ rfl 55 (.tmp 5) rfl hb DY rfl ?_)
     |(at_builtin;refine ez rfl (.tmp 72) (.tmp 74) _ rfl (m:=1) (news:=[.v (.int .i64 x.dec),.v (.slice P1 x.iE.length p1),.v (.slice P2 x.lens.length p2),.v (.slice P3 x.vals.length p3)]) VM (kT.o.alloc _) rfl rfl (Src.lit (show fB wr _ [.int .i64 x.dec,.slice P1 x.iE.length p1,.slice P2 x.lens.length p2,.slice P3 x.vals.length p3] [.v (.int .i64 x.dec),.v (.slice P1 x.iE.length p1),.v (.slice P2 x.lens.length p2),.v (.slice P3 x.vals.length p3)]from⟨.v _ rfl,.v _ rfl,.v _ rfl,.v _ rfl,trivial⟩)) rfl oQ oQ (by simp;omega) ?_;intro v' w5 iM qQ AY;obtain⟨t1,t2⟩:=cY.o _ _ _ qQ iM;replace⟨t1,t2⟩:=H2 t1 t2;clear iM qQ AY))
    go_roundw
    .exact⟨i+1,_,oQ,gQ,t1.o,by rw[jR.o,xR,hm.o];rfl,t2.o⟩
    exact mQ
 .obtain rfl:i=l.length:=oQ;rw[zL]at hm;replace⟨hm,hO,hB⟩:=H3 hm hO hB;go_wp2;go_ret;exact⟨_,_,rfl,hO.o,hm.o,hB.o⟩
end rS
