/- The statement's own helpers. -/
import Derived.Laws.BytesArg
import Derived.Test.YtjbcbibkhalagaaGreatDoorG4
import Derived.Test.YtjbcbibkhalagaaGreatDoorWa
import Derived.Laws.MakeOwn
namespace Go.Proofs.YtjbcbibkhalagaaGreatDoor
set_option maxRecDepth 100000
set_option maxHeartbeats 16000000
open Proofs.Tryz Go.RowKit Go.Deep
set_option linter.unusedVariables false
theorem Sy {l:List ByteArray}{k a}(h:l[k]? =some a):(l.take (k+1)).flatMap aG=(l.take k).flatMap aG++aG a:=by
 rw[zJ,h];simp
namespace di
open cH
theorem o9 (A c F)(l:List ByteArray)(hl:l.length<=1048576)(w)(hF:∀b,F b->b<w.heap.size)(r:Rd w F (.slice A l.length c) (.sl l.length (l.flatMap aG))):
  Cl 17 #[.slice A l.length c] w λe w'=>∃v,e=.returned v/\OL w' w.heap.size (λ_=>False) 9 1 v l.length (l.flatMap aG)/\Bw w w':=by
 replace⟨r,hF⟩:=H2 r hF;go_enter func17,ntmps17;go_wp2;go_loopw [3,4] (λv x wr=>∃(j:Nat)(s3:Value),s3=v/\j<=l.length/\x=.int .i64 j/\OL wr w.heap.size (λ_=>False) 9 1 s3 j ((l.take j).flatMap aG)/\Bw w wr) (λ_ x _=>l.length- (intOf x).toNat)
 .exact⟨0,_,rfl,zE _,rfl,.nil _ _ _ _ _,bR⟩
 obtain⟨j,s3,rfl,hj,rfl,hO,hB⟩:=hrel;by_cases hlt:j<l.length
 .obtain⟨a,ha⟩:=av hlt;obtain⟨b,off,rfl,pZ,n7⟩:=(r.o.under hB hF.o).at_ ha;have q0:wr.cell? ⟨b,off+j,none⟩=some (.string a):=n7;have g0:=aH j;have g1:=aV j l.length;have tM:=Hd (Sy ha);have hsz:=hB.size;replace hB:=Hd hB;clear ha n7;go_wp2_with (at_builtin;refine ez rfl (.tmp 11) (.tmp 16) _ rfl (m:=1) (news:=aG a) rm (hO.alloc (.cells ⟨[.string a]⟩ 9)) rfl rfl (Src.lit (show fB wr _ [.string a] (aG a)from⟨.v _ rfl,trivial⟩)) rfl oQ oQ (by simp;omega) ?_;intro v' w1 ax aw bu);go_roundw
  .exact⟨j+1,_,rfl,oQ,gQ,by rw[tM.o];exact ax,(hB.o.alloc hB.o.size (.cells ⟨[.string a]⟩ 9)).grown aw (by simp;omega) (λq hq=>(hO.lt q hq).1)⟩
  exact mQ
 .obtain rfl:j=l.length:=oQ;rw[zL]at hO;replace⟨hO,hB⟩:=H2 hO hB;go_wp2;go_ret;exact⟨_,rfl,hO.o,hB.o⟩
end di
set_option linter.unusedVariables false
set_option linter.unusedSimpArgs false
structure TS (w wr:World)(v u:Value)(k:Nat)(ds:List D):Prop where
 hb:Bw w wr
 b0:ao wr w.heap.size 24 [v]
 b1:ao wr (w.heap.size+1) 24 [.slice none 0 0]
 b2:ao wr (w.heap.size+1+1) 24 [u]
 ol:OL wr (w.heap.size+1+1+1) (λb=>w.heap.size+1+1+1<=b) 95 2 u k ds
theorem TS.stay {w wr w2 v u k ds}(h:TS w wr v u k ds)(hb:Bw wr w2):TS w w2 v u k ds:=
 ⟨h.hb.trans (hb.mono h.hb.size),h.b0.stay hb,h.b1.stay hb,h.b2.stay hb,h.ol.stay hb⟩
theorem TS.put {w wr w1 v u v' k m ds BM}(h:TS w wr v u k ds)(hg:wr.grownBy w1 u.ownBlock)(hO:OL w1 (w.heap.size+1+1+1) (λb=>w.heap.size+1+1+1<=b) 95 2 v' m BM):
  (w1.cell? ⟨w.heap.size+1+1,0,none⟩=some u/\w1.frozen? ⟨w.heap.size+1+1,0,none⟩=false/\w1.cell? ⟨w.heap.size,0,none⟩=some v)/\TS w (w1.setCell ⟨w.heap.size+1+1,0,none⟩ v') v v' m BM:=by
 have hne:∀q,q<w.heap.size+1+1+1->some q≠u.ownBlock:=λq hq he=>by have:=(h.ol.lt q he.symm).1;omega
 have jD:∀q,u.ownBlock=some q->w.heap.size<=q:=λq hq=>by have:=(h.ol.lt q hq).1;omega
 have t0:=h.b2.grown hg (hne _ oQ);have t1:=h.b0.grown hg (hne _ oQ);refine⟨⟨t0.cell 0,t0.frozen 0,t1.cell 0⟩,?_⟩;refine⟨(h.hb.grown hg h.hb.size jD).setCell (by simp;omega) _,t1.far (by simp;omega) _,(h.b1.grown hg (hne _ oQ)).far sJ _,t0.dz 0 _,hO.setCell (λh=>?_) sJ _⟩;exact absurd (hO.lt _ h).1 (by show¬(_<=w.heap.size+1+1);omega)
namespace di
open cH
theorem Bn (A c F l)(hl:iI l)(w)(hF:∀b,F b->b<w.heap.size)(r:Rd w F (.slice A l.length c) (.sl l.length (l.flatMap fj))):
  Cl 12 #[.agg #[.slice A l.length c]] w λe w'=>∃v,e=.returned (.agg #[v])/\OL w' w.heap.size (λb=>w.heap.size<=b) 95 2 v l.length (l.flatMap fj)/\Bw w w':=by
 obtain⟨qK,lp⟩:=hl;replace⟨lp,hF,r⟩:=H3 lp hF r;go_enter func12,ntmps12;go_wp2;go_loopw [4] (λx wr=>∃(j:Nat)(u:Value),j<=l.length/\x=.int .i64 j/\TS w wr (.slice A l.length c) u j ((l.take j).flatMap fj)) (λx _=>l.length- (intOf x).toNat)
 .refine⟨0,.slice none 0 0,zE _,rfl,?_,?_,?_,?_,.nil _ _ _ _ _⟩
  .exact((bA).alloc sJ _).alloc (by simp;omega) _
  .exact((ao.new _ _ _).alloc _).alloc _
  .exact(ao.new' sJ).alloc _
  .exact ao.new' sJ
 obtain⟨j,u,hj,rfl,hT⟩:=hrel;have z0:wr.cell? ⟨w.heap.size,0,none⟩=some (.slice A l.length c):=hT.b0.cell 0;have o0:wr.cell? ⟨w.heap.size+1+1,0,none⟩=some u:=hT.b2.cell 0;by_cases hlt:j<l.length
 .obtain⟨t,ht⟩:=av hlt;obtain⟨eC,ia,EP⟩:=lp.o t (zA ht);obtain⟨b,off,rfl,pZ,hv,hsl⟩:=r.o.cP (m:=2) (λ_=>rfl) ht oQ;have kO:=hF.o b pZ;obtain⟨A2,c2,a1,r2⟩:=hsl 1 _ _ rfl;have kS:∀W,Bw w W->W.cell? ⟨b,off+j*2,none⟩=some (.string t.name)/\W.cell? ⟨b,off+j*2+1,none⟩=some (.slice A2 t.attrs.length c2):=λW hW=>⟨(hW.cell (p:=⟨b,off+j*2,none⟩) kO).trans (hv 0 _ rfl),(hW.cell (p:=⟨b,off+j*2+1,none⟩) kO).trans a1⟩
  have g0:=aH j;have g1:=aV j l.length;have vL:(l.take (j+1)).flatMap fj=(l.take j).flatMap fj++fj t:=by rw[zJ,ht];simp
  have kt:=Hd (o9 A2 c2 F t.attrs ia wr.drew (λb hb=>zF (hF.o b hb) hT.hb.size) ((r2.under hT.hb hF.o).drew));have ak:(wr.drew.cell? ⟨w.heap.size,0,none⟩=some (.slice (some ⟨b,off,none⟩) l.length c)/\wr.drew.cell? ⟨b,off+j*2,none⟩=some (.string t.name)/\wr.drew.cell? ⟨b,off+j*2+1,none⟩=some (.slice A2 t.attrs.length c2))/\wr.drew.cell? ⟨w.heap.size+1+1,0,none⟩=some u:=⟨⟨z0,kS wr hT.hb⟩,o0⟩;have hsz:=hT.b2.lt;have hsB:b<w.heap.size:=kO;replace⟨kS,vL⟩:=H2 kS vL;have iH:=Hd hT;clear hv hsl hT ht r2 a1;go_upto_region 5 with fail
  clear z0 o0;refine aC (p:=17) (S0:=λW=>W.cell? ⟨w.heap.size,0,none⟩=some (.slice (some ⟨b,off,none⟩) l.length c)/\W.cell? ⟨b,off+j*2,none⟩=some (.string t.name)/\W.cell? ⟨b,off+j*2+1,none⟩=some (.slice A2 t.attrs.length c2)) (S1:=λW=>W.cell? ⟨w.heap.size+1+1,0,none⟩=some u) kQ ?_;refine' dw 0 rfl ak ?_;try simp only[Act.put,aK]
  refine' jM (i:=1) (v:=_) rfl dQ kQ kQ kQ rfl kQ kQ (λ_ _ _ h=>h) ak (.inl ⟨by rfl,?hy1⟩) ?ahn
  case hy1=>(intro W hW;(try dsimp only at hW);go_simp<;>with_reducible rfl)
  refine' dw 2 rfl ak ?_;refine' dw 3 rfl ak ?_;refine' dw 4 rfl ak ?_;refine' dw 5 rfl ak ?_;refine' dw 6 rfl ak ?_;refine' dw 7 rfl ak ?_;refine' dw 8 rfl ak ?_;refine' dw 9 rfl ak ?_;refine' dw 10 rfl ak ?_;refine' dw 11 rfl ak ?_;refine' dw 12 rfl ak ?_;refine' dw 13 rfl ak ?_;try simp only[Act.put,aK]
  refine Gs 14 rfl λK hK=>?_
  go_simp;go_at_call 17;refine kt.o.mono ?_;rintro e W ⟨v1,rfl,ax,hW⟩;obtain⟨B1,d1,rfl⟩:=ax.form;have jz:=iH.o.stay (show Bw wr W from(bR).drew.trans hW);have Cn:(W.cell? ⟨w.heap.size,0,none⟩=some (.slice (some ⟨b,off,none⟩) l.length c)/\W.cell? ⟨b,off+j*2,none⟩=some (.string t.name)/\W.cell? ⟨b,off+j*2+1,none⟩=some (.slice A2 t.attrs.length c2))/\W.cell? ⟨w.heap.size+1+1,0,none⟩=some u:=⟨⟨jz.b0.cell 0,kS.o W jz.hb⟩,jz.b2.cell 0⟩;refine hK.o _ _ ⟨Cn.1,λ_=>Cn.2⟩ ?_;have hL:=Hd (show fB W (λb=>w.heap.size+1+1+1<=b/\some b≠u.ownBlock) [.string t.name,.slice B1 t.attrs.length d1] (fj t) from ⟨.v _ rfl,ax.Kr (λ_ h _=>h.elim) (λb he hB hlt=>⟨by have:=iH.o.b2.lt;simp at hB;omega,λhu=>by have:=(iH.o.ol.lt b hu.symm).2;simp at hB;omega⟩),trivial⟩);have adB:=jz.b2.lt;have TU:=Hd (jz.stay (bX (.cells ⟨[.string t.name,.slice B1 t.attrs.length d1]⟩ 95)));replace jz:=Hd jz;clear hK K ak ax hW kt;refine' dw 15 rfl Cn ?_;try simp only[Act.put,aK]
  refine Gs 16 rfl λK hK=>?_
  go_simp;refine hK.o _ _ ⟨⟨TU.o.b0.cell 0,kS.o _ TU.o.hb⟩,λ_=>TU.o.b2.cell 0⟩ ?_;refine Gs 17 rfl λK hK=>?_
  refine dj (by rfl) (.tmp 13) (.tmp 28) _ (by rfl) (m:=1) (news:=fj t) VO (by exact TU.o.ol) (by rfl) (by rfl) (by exact Src.lit hL.o) rfl oQ oQ (by simp;omega) ?_;intro v' w1 ax aw bu;obtain⟨B3,d3,rfl⟩:=ax.form;obtain⟨⟨t0,t1,t2⟩,t3⟩:=TU.o.put aw ax;have ch:Bw w w1:=TU.o.hb.grown aw TU.o.hb.size (λq hq=>by have:=(TU.o.ol.lt q hq).1;omega);have wb:(w1.cell? ⟨w.heap.size,0,none⟩=some (.slice (some ⟨b,off,none⟩) l.length c)/\w1.cell? ⟨b,off+j*2,none⟩=some (.string t.name)/\w1.cell? ⟨b,off+j*2+1,none⟩=some (.slice A2 t.attrs.length c2))/\w1.cell? ⟨w.heap.size+1+1,0,none⟩=some u:=⟨⟨t2,kS.o w1 ch⟩,t0⟩;refine hK.o _ _ ⟨wb.1,λ_=>wb.2⟩ ?_;rw[<-vL.o]at t3;replace t3:=Hd t3;clear hK K Cn ax aw bu;refine' dw 18 rfl wb ?_;try simp only[Act.put,aK]
  refine Gs 19 rfl λK hK=>?_
  go_simp;refine hK.o _ _ ⟨⟨t3.o.b0.cell 0,kS.o _ t3.o.hb⟩,λh=>absurd (h.symm.trans (by kernel_rfl:_=true)) sJ⟩ ?_;refine Gd _ ?_;try simp only[Act.put,aK]
  clear hK K wb t0 t1 t2;go_wp2;go_roundw
  .exact⟨j+1,_,oQ,gQ,t3.o⟩
  exact mQ
 .obtain rfl:j=l.length:=oQ;rw[zL]at hT;obtain⟨h1,h2,h3,h4,h5⟩:=hT;have hsz:=h4.lt;obtain⟨U,cu,rfl⟩:=h5.form;have p0:wr.cell? ⟨w.heap.size+1,0,none⟩=some (.slice none 0 0):=h3.cell 0;have f0:wr.frozen? ⟨w.heap.size+1,0,none⟩=false:=h3.frozen 0;have e1:ao (wr.setCell ⟨w.heap.size+1,0,none⟩ (.slice U l.length cu)) (w.heap.size+1) 24 [.slice U l.length cu]:=h3.dz 0 _;have e2:OL (wr.setCell ⟨w.heap.size+1,0,none⟩ (.slice U l.length cu)) w.heap.size (λb=>w.heap.size<=b) 95 2 (.slice U l.length cu) l.length (l.flatMap fj):=
   ((h5.setCell (p:=⟨w.heap.size+1,0,none⟩) (λh=>absurd (h5.lt _ h).1 (by show¬(_<=w.heap.size+1);omega)) (by show¬(_<=w.heap.size+1);omega) _).base oQ).mono λb h=>by omega
  have e3:=Hd (h1.setCell (p:=⟨w.heap.size+1,0,none⟩) sJ (.slice U l.length cu));replace⟨e1,e2⟩:=H2 e1 e2;clear h1 h2 h3 h4 h5;go_wp2;exact l5 rfl e1.o DT rfl rfl ⟨_,rfl,e2.o,e3.o⟩
end di
set_option linter.unusedVariables false
theorem DG:nW prog 37 73 6 88:=.of underlying37 kQ oQ
theorem Sz {l:List Cg}{k c}(h:l[k]? =some c):(l.take (k+1)).flatMap pB=(l.take k).flatMap pB++pB c:=by
 rw[zJ,h];simp
def Em (w:World)(l:List Cg)(v x:Value)(wr:World):Prop:=∃j:Nat,j<=l.length/\x=.int .i64 j/\OL wr w.heap.size (λb=>w.heap.size<=b) 73 6 v j ((l.take j).flatMap pB)/\Bw w wr
theorem Em.mk {w l v x wr}(j)(h1:j<=l.length)(h2:x=.int .i64 j)(h3:OL wr w.heap.size (λb=>w.heap.size<=b) 73 6 v j ((l.take j).flatMap pB))(h4:Bw w wr):Em w l v x wr:=⟨j,h1,h2,h3,h4⟩
namespace di
open cH
theorem xp (A ca F)(l:List Cg)(hl:l.length<=1048576)(hC:∀c∈l,ED c)(w)(hF:∀b,F b->b<w.heap.size)(r:Rd w F (.slice A l.length ca) (.sl l.length (l.flatMap pB))):
  Cl 6 #[.slice A l.length ca] w λe w'=>∃v,e=.returned v/\OL w' w.heap.size (λb=>w.heap.size<=b) 73 6 v l.length (l.flatMap pB)/\Bw w w':=by
 replace⟨hC,hF,r⟩:=H3 hC hF r;go_enter func6,ntmps6;go_wp2;go_loopw [3,4] (λv x wr=>Em w l v x wr) (λ_ x _=>l.length- (intOf x).toNat)
 .exact Em.mk 0 (zE _) rfl (.nil _ _ _ _ _) bR
 obtain⟨j,hj,rfl,hO,hB⟩:=hrel;by_cases hlt:j<l.length
 .obtain⟨c,hc⟩:=av hlt;have hcs:=hC.o c (zA hc);obtain⟨b,off,rfl,pZ,hv,hsl⟩:=r.o.cP (m:=6) (λ_=>rfl) hc oQ;have kO:=hF.o b pZ;obtain⟨A2,c2,a4,r4⟩:=hsl 4 _ _ rfl;have v0:wr.cell? ⟨b,off+j*6,none⟩=some (.int .i64 c.kd):=(hB.cell (p:=⟨b,off+j*6,none⟩) kO).trans (hv 0 _ rfl);have v1:wr.cell? ⟨b,off+j*6+1,none⟩=some (.string c.ty):=(hB.cell (p:=⟨b,off+j*6+1,none⟩) kO).trans (hv 1 _ rfl);have v2:wr.cell? ⟨b,off+j*6+2,none⟩=some (.string c.at_):=(hB.cell (p:=⟨b,off+j*6+2,none⟩) kO).trans (hv 2 _ rfl);have v3:wr.cell? ⟨b,off+j*6+3,none⟩=some (.string c.nm):=(hB.cell (p:=⟨b,off+j*6+3,none⟩) kO).trans (hv 3 _ rfl);have v4:wr.cell? ⟨b,off+j*6+4,none⟩=some (.slice A2 c.ats.length c2):=(hB.cell (p:=⟨b,off+j*6+4,none⟩) kO).trans a4;have v5:wr.cell? ⟨b,off+j*6+5,none⟩=some (.int .i64 c.n):=(hB.cell (p:=⟨b,off+j*6+5,none⟩) kO).trans (hv 5 _ rfl);have g0:=aH j;have g1:=aV j l.length;have tD:b<wr.heap.size:=zF kO hB.size;have vL:=Sz hc;have hsz:=hB.size;obtain⟨wo,gU⟩:=aB wr
  subst gU;have fk:Bw wo (wo.alloc (.cells ⟨je c A2 c2⟩ 73)):=bA;have rA:Bw w (wo.alloc (.cells ⟨je c A2 c2⟩ 73)):=hB.alloc hB.size _;have kt:=Hd (o9 A2 c2 F c.ats hcs.ats.1 (wo.alloc (.cells ⟨je c A2 c2⟩ 73)) (λb hb=>zF (hF.o b hb) rA.size) (r4.under rA hF.o));have uQ:=Hd (ao.new wo 73 (je c A2 c2));replace⟨fk,vL,hO,hB⟩:=H4 fk vL hO hB;clear hv hsl a4 hc r4 rA;go_wp2_with (first
   |(go_at_call 17;refine kt.o.mono ?_;rintro e w1 ⟨u,rfl,ax,az⟩;obtain⟨A3,c3,rfl⟩:=ax.form;have t:=uQ.o.stay az;have t0:w1.cell? ⟨wo.heap.size,0,none⟩=some (.int .i64 c.kd):=t.cell 0;have t1:w1.cell? ⟨wo.heap.size,1,none⟩=some (.string c.ty):=t.cell 1;have t2:w1.cell? ⟨wo.heap.size,2,none⟩=some (.string c.at_):=t.cell 2;have t3:w1.cell? ⟨wo.heap.size,3,none⟩=some (.string c.nm):=t.cell 3;have t4:w1.cell? ⟨wo.heap.size,4,none⟩=some (.slice A2 c.ats.length c2):=t.cell 4;have t5:w1.cell? ⟨wo.heap.size,5,none⟩=some (.int .i64 c.n):=t.cell 5;have t6:w1.frozen? ⟨wo.heap.size,4,none⟩=false:=t.frozen 4;have ZW:wo.heap.size+1<=w1.heap.size:=t.lt;have cD:=Hd ((fk.o.trans (az.mono fk.o.size)).setCell (p:=⟨wo.heap.size,4,none⟩) nR (.slice A3 c.ats.length c3));have iK:=Hd (ax.setCell (p:=⟨wo.heap.size,4,none⟩) (λe=>by have:=(ax.lt _ e).1;simp at this;omega) (λh=>h) (.slice A3 c.ats.length c3));clear t az)
   |(at_builtin;refine ez rfl (.tmp 23) (.tmp 25) _ rfl (m:=1) (news:=pB c) DG ((hO.o.stay cD.o).alloc (.cells ⟨je c A3 c3⟩ 73)) rfl rfl (Src.F6 sJ (show fB (w1.setCell ⟨wo.heap.size,4,none⟩ (.slice A3 c.ats.length c3)) _ (je c A3 c3) (pB c)from⟨.v _ rfl,.v _ rfl,.v _ rfl,.v _ rfl,iK.o.Kr (λb h _=>h.elim) (λb hb h1 h2=>⟨by simp at h1;omega,λe=>by have:=(hO.o.lt b e.symm).2;simp at h1;omega⟩),.v _ rfl,trivial⟩)) rfl oQ oQ (by simp;omega) ?_;intro v' w2 qM aw bu))
  have uP:=((hB.o.trans (cD.o.mono hB.o.size)).alloc (by have:=(hB.o.trans (cD.o.mono hB.o.size)).size;exact this) (.cells ⟨je c A3 c3⟩ 73)).grown aw (by have:=(hB.o.trans (cD.o.mono hB.o.size)).size;simp at this |-;omega) (λq hq=>(hO.o.lt q hq).1);rw[<-vL.o]at qM;replace⟨qM,uP⟩:=H2 qM uP;go_roundw
  .exact Em.mk (j+1) oQ gQ qM.o uP.o
  exact mQ
 .obtain rfl:j=l.length:=oQ;rw[zL]at hO;replace⟨hO,hB⟩:=H2 hO hB;go_wp2;go_ret;exact⟨_,rfl,hO.o,hB.o⟩
end di
set_option linter.unusedVariables false
def Km (w wr:World)(v u:Value):Prop:=Bw w wr/\ao wr w.heap.size 24 [v]/\ao wr (w.heap.size+1) 24 [u]
theorem Km.stay {w wr w2 v u}(h:Km w wr v u)(hb:Bw wr w2):Km w w2 v u:=⟨h.1.trans (hb.mono h.1.size),h.2.1.stay hb,h.2.2.stay hb⟩
theorem Km.drewN {w wr v u}(h:Km w wr v u)(k):Km w (wr.drewN k) v u:=h.stay (below_drewN bR k)
namespace di
open cH
theorem pn (A B c d F G)(l:List ByteArray)(hl:l.length<=1048576)(w)(r:Rd w F (.slice A l.length c) (.sl l.length (l.flatMap aG)))(s:Rd w G (.slice B l.length d) (.sl l.length (l.flatMap aG))):
  Cl 33 #[.slice A l.length c,.slice B l.length d] w λe w'=>e=.returned (.bool true)/\∃q,w'=w.drewN q:=by
 go_enter func33,ntmps33;go_wp2;go_loopw [5] (λx wr=>∃k q:Nat,k<=l.length/\x=.int .i64 k/\wr=w.drewN q) (λx _=>l.length- (intOf x).toNat)
 .exact⟨0,0,zE _,rfl,by first|rfl |simp[World.drewN]⟩
 obtain⟨k,q,hk,rfl,rfl⟩:=hrel;by_cases hlt:k<l.length
 .obtain⟨x,hx⟩:=av hlt;obtain⟨b,off,rfl,pZ,a0⟩:=r.at_ hx;obtain⟨b',tX,rfl,Ke,b0⟩:=s.at_ hx;have g0:=aH k;have g1:=aV k l.length;clear hx;go_wp2;go_quiet (fail);go_wp2;go_roundw
  .exact⟨k+1,_,oQ,gQ,by first|rfl |simp⟩
  exact mQ
 .obtain rfl:k=l.length:=oQ;go_wp2;go_ret;exact⟨rfl,_,rfl⟩
theorem Bp (A B c d F G)(l:List Td)(hl:l.length<=1048576)(lp:∀t∈l,t.attrs.length<=1048576)(w)(hF:∀b,F b->b<w.heap.size)(hG:∀b,G b->b<w.heap.size)(r:Rd w F (.slice A l.length c) (.sl l.length (l.flatMap fj)))(s:Rd w G (.slice B l.length d) (.sl l.length (l.flatMap fj))):
  Cl 28 #[.agg #[.slice A l.length c],.agg #[.slice B l.length d]] w λe w'=>e=.returned (.bool true)/\Bw w w':=by
 have k1:=Hd pn;replace⟨lp,hF,hG,r,s⟩:=H5 lp hF hG r s;go_enter func28,ntmps28;go_wp2;go_loopw [5] (λx wr=>∃k:Nat,k<=l.length/\x=.int .i64 k/\Km w wr (.slice A l.length c) (.slice B l.length d)) (λx _=>l.length- (intOf x).toNat)
 .exact⟨0,zE _,rfl,(bA).alloc sJ _,(ao.new _ _ _).alloc _,ao.new' sJ⟩
 obtain⟨k,hk,rfl,hS⟩:=hrel;have z0:wr.cell? ⟨w.heap.size,0,none⟩=some (.slice A l.length c):=hS.2.1.cell 0;have z1:wr.cell? ⟨w.heap.size+1,0,none⟩=some (.slice B l.length d):=hS.2.2.cell 0;by_cases hlt:k<l.length
 .obtain⟨t,ht⟩:=av hlt;have ia:=lp.o t (zA ht);obtain⟨b,off,rfl,pZ,hv,hsl⟩:=(r.o.under hS.1 hF.o).cP (m:=2) (λ_=>rfl) ht oQ;obtain⟨A2,c2,a1,r2⟩:=hsl 1 _ _ rfl;have a0:wr.cell? ⟨b,off+k*2,none⟩=some (.string t.name):=hv 0 _ rfl;obtain⟨b',tX,rfl,Ke,hv',OA⟩:=(s.o.under hS.1 hG.o).cP (m:=2) (λ_=>rfl) ht oQ;obtain⟨B2,d2,b1,s2⟩:=OA 1 _ _ rfl;have b0:wr.cell? ⟨b',tX+k*2,none⟩=some (.string t.name):=hv' 0 _ rfl;have g0:=aH k;have g1:=aV k l.length;replace⟨r2,s2⟩:=H2 r2 s2;have Pm:=Hd hS;clear hv hsl hv' OA hS ht;have e0:=(zX wr _ a0);have e1:=(zX wr _ b0);go_wp2;go_quiet ((go_at_call 33;exact Calls.quiet_of (k1.o _ _ _ _ _ _ _ ia _ (r2.o.drewN _) (s2.o.drewN _))));go_wp2;go_roundw
  .exact⟨k+1,oQ,gQ,Pm.o.drewN _⟩
  exact mQ
 .obtain rfl:k=l.length:=oQ;go_wp2;go_ret;exact⟨rfl,hS.1⟩
theorem xq (A B c d F G)(l:List Cg)(hl:l.length<=1048576)(hC:∀c∈l,ED c)(w)(hF:∀b,F b->b<w.heap.size)(hG:∀b,G b->b<w.heap.size)(r:Rd w F (.slice A l.length c) (.sl l.length (l.flatMap pB)))(s:Rd w G (.slice B l.length d) (.sl l.length (l.flatMap pB))):
  Cl 10 #[.slice A l.length c,.slice B l.length d] w λe w'=>e=.returned (.bool true)/\Bw w w':=by
 have k1:=Hd pn;replace⟨hC,hF,hG,r,s⟩:=H5 hC hF hG r s;go_enter func10,ntmps10;go_wp2;go_loopw [5] (λx wr=>∃k:Nat,k<=l.length/\x=.int .i64 k/\Bw w wr) (λx _=>l.length- (intOf x).toNat)
 .exact⟨0,zE _,rfl,bR⟩
 obtain⟨k,hk,rfl,hB⟩:=hrel;by_cases hlt:k<l.length
 .obtain⟨x,hx⟩:=av hlt;have wK:=(hC.o x (zA hx)).ats.1;obtain⟨b,off,rfl,pZ,hv,hsl⟩:=(r.o.under hB hF.o).cP (m:=6) (λ_=>rfl) hx oQ;obtain⟨A2,c2,a4,r2⟩:=hsl 4 _ _ rfl;have a0:wr.cell? ⟨b,off+k*6,none⟩=some (.int .i64 x.kd):=hv 0 _ rfl;have a1:wr.cell? ⟨b,off+k*6+1,none⟩=some (.string x.ty):=hv 1 _ rfl;have a2:wr.cell? ⟨b,off+k*6+2,none⟩=some (.string x.at_):=hv 2 _ rfl;have a3:wr.cell? ⟨b,off+k*6+3,none⟩=some (.string x.nm):=hv 3 _ rfl;replace a4:wr.cell? ⟨b,off+k*6+4,none⟩=some (.slice A2 x.ats.length c2):=a4;have a5:wr.cell? ⟨b,off+k*6+5,none⟩=some (.int .i64 x.n):=hv 5 _ rfl;obtain⟨b',tX,rfl,Ke,hv',OA⟩:=(s.o.under hB hG.o).cP (m:=6) (λ_=>rfl) hx oQ;obtain⟨B2,d2,b4,s2⟩:=OA 4 _ _ rfl;have b0:wr.cell? ⟨b',tX+k*6,none⟩=some (.int .i64 x.kd):=hv' 0 _ rfl;have b1:wr.cell? ⟨b',tX+k*6+1,none⟩=some (.string x.ty):=hv' 1 _ rfl;have b2:wr.cell? ⟨b',tX+k*6+2,none⟩=some (.string x.at_):=hv' 2 _ rfl;have b3:wr.cell? ⟨b',tX+k*6+3,none⟩=some (.string x.nm):=hv' 3 _ rfl;replace b4:wr.cell? ⟨b',tX+k*6+4,none⟩=some (.slice B2 x.ats.length d2):=b4;have b5:wr.cell? ⟨b',tX+k*6+5,none⟩=some (.int .i64 x.n):=hv' 5 _ rfl;have g0:=aH k;have g1:=aV k l.length;have e0:=(zX wr _ a0);have e1:=(zX wr _ b0);have df:Bw w ((wr.alloc (.cells ⟨je x A2 c2⟩ 73)).alloc (.cells ⟨je x B2 d2⟩ 73)):=(hB.alloc hB.size _).alloc (by have:=hB.size;simp;omega) _;have kk:Cl 33 #[.slice A2 x.ats.length c2,.slice B2 x.ats.length d2] ((wr.alloc (.cells ⟨je x A2 c2⟩ 73)).alloc (.cells ⟨je x B2 d2⟩ 73)) λe w'=>e=.returned (.bool true)/\∃q,w'=((wr.alloc (.cells ⟨je x A2 c2⟩ 73)).alloc (.cells ⟨je x B2 d2⟩ 73)).drewN q:=
   k1.o _ _ _ _ _ _ _ wK _ ((r2.alloc _).alloc _) ((s2.alloc _).alloc _)
  replace⟨kk,df⟩:=H2 kk df;clear hv hsl hv' OA hx r2 s2;go_wp2_with (go_at_call 33;refine kk.o.mono ?_;rintro e w2 ⟨rfl,q,rfl⟩);go_roundw
  .exact⟨k+1,oQ,gQ,below_drewN df.o q⟩
  exact mQ
 .obtain rfl:k=l.length:=oQ;go_wp2;go_ret;exact⟨rfl,hB⟩
end di
open Go.Maps
set_option linter.unusedSimpArgs false
theorem Sp.inv {t b r}(h:Sp t b r):∃x,t[r]? =some x/\((dg x.op=true/\x.a= -1/\x.b= -1/\b=r)\/(∃j:Nat,fm x.op=true/\x.a=j/\x.b= -1/\Sp t b j/\j+1=r)\/(∃m j:Nat,gD x.op=true/\x.a=m/\x.b=j/\Sp t b m/\Sp t (m+1) j/\j+1=r)):=by
 cases h with
 |lf hx h1 h2 h3=>exact⟨_,hx,.inl ⟨h1,h2,h3,rfl⟩⟩
 |un hx h1 h2 h3 h4=>exact⟨_,hx,.inr (.inl ⟨_,h1,h2,h3,h4,rfl⟩)⟩
 |bi hx h1 h2 h3 h4 h5=>exact⟨_,hx,.inr (.inr ⟨_,_,h1,h2,h3,h4,h5,rfl⟩)⟩
theorem rz {P t e size bytes}(T:nW P t e size bytes)(n)(hn:n<=1048576)(hb:bytes<=1024):∃zs:List Value,zs.length=n*size/\∀w:World,(Instr.makeSlice t (.int .i64 (n:Int)) (.int .i64 (n:Int))).run P w=.ok (.slice (some ⟨w.heap.size,0,none⟩) n n) (w.alloc (.cells ⟨zs⟩ e)):=by
 obtain⟨hs,⟨i,z,hi,hz,hsz,ju,EH⟩,hp⟩:=T;subst hsz ju;refine⟨(madeCells z.cells (n*i.size)).toList,?_,λw=>?_⟩
 .rw[Array.length_toList];exact size_madeCells _ _
 .have BR:(i.bytes:Int)*(n:Int)<=281474976710656:=by
   have h:i.bytes*n<=1024*1048576:=Nat.mul_le_mul hb hn;have:((i.bytes*n:Nat):Int)<=281474976710656:=oQ;rwa [Int.natCast_mul]at this
  have hr:=run_make (P:=P) w t e i z hs hi hz .i64 .i64 n n oQ (Int.le_refl _) BR oQ;simp only[Int.toNat_natCast]at hr;exact hr
theorem K6 {P t e size bytes}(T:nW P t e size bytes)(g off n cap b)(h1:b<cap)(h2:b<=n)(h3:n<=cap)(W):(Instr.slice t (.slice (some ⟨g,off,none⟩) n cap) (some (.int .i64 (b:Int))) none none).run P W=.ok (.slice (some ⟨g,off+b*size,none⟩) (n-b) (cap-b)) W:=by
 obtain⟨hs,⟨i,z,hi,hz,hsz,hb,EH⟩,hp⟩:=T;have h0:=aH b;have g1:(b:Int)<=(n:Int):=oQ;have g2:(n:Int)<=(cap:Int):=oQ;have g3:¬b=cap:=oQ;have g4:¬cap=b:=oQ;simp[Instr.slice,run_underlying hs,Instr.sliceBounds,run_sliceBound,sizeOf,typeInfo,hi,h0,g1,g2,g3,g4,h2,h3,Addr.add,hsz]
def qp (t:List Nd)(b n:Nat):List Nd:=(t.drop b).take n
theorem G3 {t b n i x}(h:(qp t b n)[i]? =some x):t[b+i]? =some x/\i<n:=by
 unfold qp at h;rw[zZ]at h;split at h
 .rename_i hi;rw[xT]at h;exact⟨h,hi⟩
 .cases h
theorem G2 {t b n}(h:b+n<=t.length):(qp t b n).length=n:=by unfold qp;rw[zO,List.length_drop];omega
theorem jI (x):(cJ x).length=6:=rfl
theorem Fh {t b n j v}(h:((qp t b n).flatMap cJ)[j]? =some v):(t.flatMap b9)[b*6+j]? =some (.v v)/\v.oneCell'=true:=by
 have hj:=(zC.1 h).1;rw[BO (m:=6) jI]at hj;obtain⟨x,hx⟩:=av (l:=qp t b n) (i:=j / 6) oQ;have hc:j % 6<6:=Nat.mod_lt _ oQ;have e:j / 6*6+j % 6=j:=oQ;obtain⟨u,hu⟩:∃u,(cJ x)[j % 6]? =some u:=av (by rw[jI];exact hc)
 have h1:=po jI hx hu;rw[e,h]at h1;injection h1 with h1
 subst h1;have h2:(b9 x)[j % 6]? =some (.v v):=by
  have:b9 x=(cJ x).map .v:=rfl;rw[this,zG,hu];rfl
 have h3:=po (f:=b9) (m:=6) (λ_=>rfl) (G3 hx).1 h2;refine⟨by rw[<-h3];congr 1;omega,?_⟩;have:v∈cJ x:=zA hu;simp only[cJ,List.mem_cons,List.not_mem_nil,or_false]at this;rcases this with h |h |h |h |h |h<;>rw[h]<;>rfl
theorem uy {c p p' x}(hc:c<6)(h:cJ p'=(cJ p).set c x):∀{l:List Nd}{i:Nat},l[i]? =some p->(l.flatMap cJ).set (i*6+c) x=(l.set i p').flatMap cJ:=by
 intro l;induction l with
 |nil=>intro i hp;simp at hp
 |cons a l ih=>
  intro i hp;cases i with
  |zero=>
   simp only[zY,Option.some.injEq]at hp;subst hp;rw[List.set_cons_zero,zK,zK,h,List.set_append,jI,if_pos oQ,Nat.zero_mul,Nat.zero_add]
  |succ k=>
   simp only[xA]at hp;rw[List.set_cons_succ,zK,zK,<-ih hp,List.set_append,jI,if_neg oQ,show(k+1)*6+c-6=k*6+c by omega]
def BW (L:List Nd)(b j:Nat):List Nd:=(L.take j).map (cE b)++L.drop j
theorem G1 {L b j x}(h:L[j]? =some x):(BW L b j)[j]? =some x/\(BW L b j).set j (cE b x)=BW L b (j+1):=by
 obtain⟨h1,h2⟩:=zC.1 h;have hl:((L.take j).map (cE b)).length=j:=by rw[xC,zO];omega
 unfold BW;rw[List.drop_eq_getElem_cons h1,h2];constructor
 .rw[zP oQ,hl,Nat.sub_self];rfl
 .rw[List.set_append_right _ _ oQ,hl,Nat.sub_self,List.set_cons_zero,zJ,h,xR];simp
theorem Qb (L b):BW L b L.length=L.map (cE b):=by unfold BW;rw[zL,List.drop_length,zT]
theorem ab0 (L b j):(BW L b j).length=L.length:=by unfold BW;rw[zH,xC,zO,List.length_drop];omega
def lL (L:List Nd)(w:World)(e:Ending)(w':World):Prop:=∃v,e=.returned v/\OL w' w.heap.size eL 63 6 v L.length (L.flatMap b9)/\Bw w w'
theorem lL.mk {L w w' v}(h:OL w' w.heap.size eL 63 6 v L.length (L.flatMap b9))(hb:Bw w w'):lL L w (.returned v) w':=⟨v,rfl,h,hb⟩
theorem K7 {w B g}{L:List Nd}(hB:B<=g)(hb:ao w g 63 (L.flatMap cJ))(hl:L.length<=1048576):OL w B eL 63 6 (.slice (some ⟨g,0,none⟩) L.length L.length) L.length (L.flatMap b9):=by
 refine OL.Gv hB hb nR (by unfold maxLen;omega) (BO jI _) (BO (f:=b9) (m:=6) (λ_=>rfl) _) λk d hd=>?_
 have e:L.flatMap b9=(L.flatMap cJ).map .v:=by rw[List.map_flatMap];rfl
 rw[e,zG]at hd;obtain⟨v,hv,rfl⟩:=xG.1 hd;have:v.oneCell'=true:=by
  have h2:((qp L 0 L.length).flatMap cJ)[k]? =some v:=by unfold qp;rw[List.drop_zero,zL];exact hv
  exact(Fh h2).2
 exact⟨v,hv,.v _ this⟩
namespace dR
open cH
theorem Xd (A c F t)(hl:t.length<=1048576)(w)(r:Rd w F (.slice A t.length c) (.sl t.length (t.flatMap b9))):∀(n b rt:Nat),rt<n->Sp t b rt->
  Cl 163 #[.slice A t.length c,.int .i64 rt] w λe w'=>e=.returned (.int .i64 ((rt+1-b:Nat):Int))/\w'=w:=by
 intro n;induction n with
 |zero=>intro b rt h;omega
 |succ n ih=>
  intro b rt hn hsp;have hle:=hsp.le;have hlt:=hsp.lt;obtain⟨x,hx,hcs⟩:=hsp.inv;obtain⟨g,off,rfl,_,z0,z1,z2,z3,z4,z5⟩:=dk r hx;have g0:=aH rt;have g1:=aV rt t.length;obtain⟨R,hR⟩:=aB (rt+1-b:Nat)
  rw[<-hR];rcases hcs with⟨_,ha,hb,he⟩|⟨j,_,ha,hb,hs,he⟩|⟨m,j,_,ha,hb,eC,ia,he⟩
  .rw[ha]at z4;rw[hb]at z5;have ae:=Hd (show (1:Int)=R from oQ);clear ih hsp ha hb he hx hR r z0 z1 z2 z3;go_enter func163,ntmps163;go_wp2_with fail;go_ret;exact⟨hY ae.o,rfl⟩
  .have tE:=hs.le;have k1:=ih b j oQ hs;obtain⟨n1,uz⟩:=aB (j+1-b:Nat)
   rw[<-uz]at k1;rw[ha]at z4;rw[hb]at z5;have ae:=Hd (show (1:Int)+n1=R from oQ);have p1:=aH j;have p2:(n1:Int)<=1048576:=oQ;replace k1:=Hd k1;clear ih hsp ha hb he hx hR r z0 z1 z2 z3 uz hs;go_enter func163,ntmps163;go_wp2_with (go_at_call 163;refine k1.o.mono ?_;rintro e W ⟨rfl,hW⟩;subst W);go_ret;exact⟨hY ae.o,rfl⟩
  .have tE:=eC.le;have K8:=ia.le;have k1:=ih b m oQ eC;have k2:=ih (m+1) j oQ ia;obtain⟨n1,uz⟩:=aB (m+1-b:Nat)
   rw[<-uz]at k1;obtain⟨n2,wm⟩:=aB (j+1- (m+1):Nat)
   rw[<-wm]at k2;rw[ha]at z4;rw[hb]at z5;have ae:(1:Int)+n1+n2=R:=oQ;have p1:=aH j;have p0:=aH m;have p2:(n1:Int)<=1048576:=oQ;have p3:(n2:Int)<=1048576:=oQ;have dh:=True.intro;replace⟨ae,k1,k2⟩:=H3 ae k1 k2;clear ih hsp ha hb he hx hR r z0 z1 z2 z3 uz wm eC ia;go_enter func163,ntmps163;go_wp2_with (first
    |(go_at_call 163;have _t:=dh;clear dh;refine k1.o.mono ?_;rintro e W ⟨rfl,hW⟩;subst W)
    |(go_at_call 163;refine k2.o.mono ?_;rintro e W ⟨rfl,hW⟩;subst W))
   go_ret;exact⟨hY ae.o,rfl⟩
theorem Un (A c F t)(hs:tT t)(w)(hK:cW w)(hF:∀b,F b->b<w.heap.size)(r:Rd w F (.slice A t.length c) (.sl t.length (t.flatMap b9)))(ht:aW t=true){b rt}(hsp:Sp t b rt):
  Cl 143 #[.slice A t.length c,.int .i64 rt] w λe w'=>e=.returned (.int .i64 ((rt+1-b:Nat):Int))/\Bw w w':=by
 have k1:=sx A c F t hs w hK hF r;rw[ht]at k1;have k2:∀W,Bw w W->_:=λW hW=>Xd A c F t hs.1 W (r.under hW hF) (rt+1) b rt oQ hsp
 have hlt:=hsp.lt;have g0:¬(rt:Int)<0:=oQ;have g1:¬(t.length:Int)<=(rt:Int):=oQ;have g2:¬t.length<=rt:=oQ;have g3:decide (t.length<=rt)=false:=zV g2;generalize rt+1-b=R at k2 |-;replace⟨k1,k2⟩:=H2 k1 k2;clear hs hK hF r ht hsp hlt;go_enter func143,ntmps143;go_wp2_with (first
  |(go_at_call 89;refine k1.o.mono ?_;rintro e W ⟨rfl,hW⟩;have k3:=Hd (k2.o W hW);replace hW:=Hd hW)
  |(go_at_call 163;refine k3.o.mono ?_;rintro e W2 ⟨rfl,aX⟩;subst W2))
 go_ret;exact⟨rfl,hW.o⟩
end dR
