/- The design behind a row of changes. -/
import Derived.Test.YtjbcbibkhalagaaGreatDoorWd
namespace Go.Proofs.YtjbcbibkhalagaaGreatDoor
set_option maxRecDepth 100000
set_option maxHeartbeats 16000000
open Proofs.Tryz Go.RowKit Go.Deep
set_option linter.unusedVariables false
def lY (S:List Td)(L:List Cg)(w:World)(e:Ending)(w':World):Prop:=∃v code at_ T,e=.returned (.tuple #[v,.int .i64 code,.int .i64 at_])/\fJ S L T code at_/\
 (∀t,T=some t->nO t/\∃g,v=.pointer (some ⟨g,0,none⟩)/\DS w' w.heap.size g t (dr S L L.length))/\Bw w w'
theorem lY.bad {S L w w' v code at_}(h:fJ S L none code at_)(hb:Bw w w'):lY S L w (.returned (.tuple #[v,.int .i64 code,.int .i64 at_])) w':=
 ⟨v,code,at_,none,rfl,h,(λt h=>by cases h),hb⟩
def Oy (w:World)(B g:Nat)(S:List Td)(x:Value)(wr:World):Prop:=∃(j:Nat)(vk:Value)(lj:List (Kd×Value)),j<=S.length/\x=.int .i64 j/\DX wr B g vk (.slice none 0 0) 0 [] lj/\lj.map (·.1)=(fu S).take j/\Below B w wr
theorem Oy.mk {w B g S x wr}(j vk lj)(h1:j<=S.length)(h2:x=.int .i64 j)(h3:DX wr B g vk (.slice none 0 0) 0 [] lj)(h4:lj.map (·.1)=(fu S).take j)(h5:Below B w wr):Oy w B g S x wr:=⟨j,vk,lj,h1,h2,h3,h4,h5⟩
def Oz (w:World)(B g:Nat)(S:List Td)(L:List Cg)(x:Value)(wr:World):Prop:=∃j:Nat,j<=L.length/\x=.int .i64 j/\DS wr B g (aD S L j) (dr S L j)/\(∀i,i<j->eH S L i)/\Below B w wr
theorem Oz.mk {w B g S L x wr}(j)(h1:j<=L.length)(h2:x=.int .i64 j)(h3:DS wr B g (aD S L j) (dr S L j))(h4:∀i,i<j->eH S L i)(h5:Below B w wr):Oz w B g S L x wr:=⟨j,h1,h2,h3,h4,h5⟩
theorem Ss {S j t}(h:S[j]? =some t):(fu S).take (j+1)=(fu S).take j++[⟨t.name,j,e9 t.attrs⟩]:=by
 rw[zJ,fu,xQ,h];rfl
namespace di
open cH
theorem MR (A B ca cb F G S L)(hS:iI S)(hL:L.length<=1048576)(hC:∀c∈L,ED c)(w)(hK:cW w)(hF:∀b,F b->b<w.heap.size)(hG:∀b,G b->b<w.heap.size)(r:Rd w F (.slice A S.length ca) (.sl S.length (S.flatMap fj)))(rc:Rd w G (.slice B L.length cb) (.sl L.length (L.flatMap pB))):
  Cl 19 #[.agg #[.slice A S.length ca],.slice B L.length cb] w (lY S L w):=by
 have h0:Bw w (w.alloc (.cells ⟨[.slice A S.length ca]⟩ 24)):=bA;have k1:Cl 38 #[.agg #[.slice A S.length ca]] (w.alloc (.cells ⟨[.slice A S.length ca]⟩ 24)) λe w'=>e=.returned (.int .i64 (dy S))/\Below (w.alloc (.cells ⟨[.slice A S.length ca]⟩ 24)).heap.size (w.alloc (.cells ⟨[.slice A S.length ca]⟩ 24)) w':=
  iL A ca F S hS _ (hK.stay h0) (λb h=>zF (hF b h) h0.size) (r.under h0 hF)
 replace⟨k1,h0⟩:=H2 k1 h0;by_cases hs:dy S=0
 .by_cases hlen:32<L.length
  .have vJ:fJ S L none 290 32:=.inr (.inl ⟨hs,hlen,rfl,rfl,rfl⟩);rw[hs]at k1;have g0:(L.length:Int)>32:=oQ;replace vJ:=Hd vJ;clear r rc hC hS hK hF hG;go_enter func19,ntmps19;go_wp2_with (go_at_call 38;refine k1.o.mono ?_;rintro e w' ⟨rfl,az⟩);go_ret3;exact lY.bad vJ.o (h0.o.trans (az.mono h0.o.size))
  .have g0:¬(L.length:Int)>32:=oQ;rw[hs]at k1;obtain⟨hS1,aaj,St⟩:=oP hs;have Gt:∀i,i<0->eH S L i:=λi hi=>by omega
   have vW:∀j,j<L.length->(∀i,i<j->eH S L i)->¬eH S L j->fJ S L none 290 j:=λj hj h1 h2=>.inr (.inr (.inl ⟨hs,oQ,j,hj,h1,h2,rfl,rfl,rfl⟩))
   have ae:(∀i,i<L.length->eH S L i)->fJ S L (some (aD S L L.length)) 0 0:=λh1=>.inr (.inr (.inr ⟨hs,oQ,h1,rfl,rfl,rfl⟩))
   have hsm:∀j,(∀i,i<j->eH S L i)->nO (aD S L j):=λj h=>nO.of (Dm hs h)
   have Vs:L.length<=32:=oQ;replace⟨vW,ae,hsm,Gt,St,hC,hK,hF,hG,r,rc⟩:=SI vW ae hsm Gt St hC hK hF hG r rc;have tu:=Hd (ao.new w 24 [.slice A S.length ca]);clear hlen hs hS;go_enter func19,ntmps19;go_wp2_with (go_at_call 38;refine k1.o.mono ?_;rintro e w' ⟨rfl,az⟩;have uL:=Hd (h0.o.trans (az.mono h0.o.size));have y0:w'.cell? ⟨w.heap.size,0,none⟩=some (.slice A S.length ca):=(tu.o.stay az).cell 0;have y1:w.heap.size<w'.heap.size:=(tu.o.stay az).lt;clear az);have Gn:w.heap.size<=w'.heap.size:=oQ;obtain⟨g,hg⟩:=aB w'.heap.size
   rw[<-hg];have tC:w.heap.size<=g:=oQ;replace hg:=Hd hg;go_loopw [9,30] (λ_ x wr=>Oy w w.heap.size g S x wr) (λ_ x _=>S.length- (intOf x).toNat)
   .refine Oy.mk 0 (.slice none 0 0) [] (zE _) rfl ?_ rfl (uL.o.alloc uL.o.size _);exact⟨tC,by rw[hg.o];exact ao.new _ _ _,.nil _ _ _ _ _,λp hp=>by simp at hp,λi j p q hp=>by simp at hp,.nil _ _ _ _ _⟩
   obtain⟨j,vk,lj,hj,rfl,hD,tE,hB⟩:=hrel;have Ow:lj.length=j:=by
    have:=congrArg List.length tE;rw[xC,zO,vT]at this;omega
   have afm:lj.length<=1048576:=oQ;replace Ow:=Hd Ow;by_cases hlt:j<S.length
   .obtain⟨t,ht⟩:=av hlt;have hta:t.attrs.length<=8:=(St.o t (zA ht)).2.1;obtain⟨b,off,rfl,pZ,hv,hsl⟩:=r.o.cP (m:=2) (λ_=>rfl) ht oQ;have kO:=hF.o b pZ;obtain⟨A2,c2,a1,r2⟩:=hsl 1 _ _ rfl;have v0:wr.cell? ⟨b,off+j*2,none⟩=some (.string t.name):=(hB.cell (p:=⟨b,off+j*2,none⟩) kO).trans (hv 0 _ rfl);have v1:wr.cell? ⟨b,off+j*2+1,none⟩=some (.slice A2 t.attrs.length c2):=(hB.cell (p:=⟨b,off+j*2+1,none⟩) kO).trans a1;have g1:=aH j;have g2:=aV j S.length;have hft:=Ss ht;obtain⟨wo,gU⟩:=aB wr
    subst gU;obtain⟨W1,a9⟩:=aB (wo.alloc (.cells ⟨[.string t.name,.slice A2 t.attrs.length c2]⟩ 95))
    have eC:W1.heap.size=wo.heap.size+1:=(by rw[a9];simp);have az:Bw wo W1:=by rw[a9];exact bA
    have WZ:IB W1 ((wo.alloc (.cells ⟨[.string t.name,.slice A2 t.attrs.length c2]⟩ 95)).alloc (.cells ⟨[.string t.name,.int .i64 j,.slice none 0 0]⟩ 115)) 115 t.name j (.slice none 0 0) 117 0 []:=by
     rw[<-a9];exact⟨bA,ao.new _ _ _,.nil _ _ _ _ _⟩
    have Tw:=hD.bx.lt;have IZ:=hB.size;have hD':=Hd hD;replace⟨hB,WZ,eC,az,hft,tE⟩:=H6 hB WZ eC az hft tE;clear hv hsl ht a1 a9 hD;go_wp2;go_loopw [12,13,42] (λ_ _ y wr=>∃(k:Nat)(u:Value),k<=t.attrs.length/\y=.int .i64 k/\IB W1 wr 115 t.name j u 117 k (((e9 t.attrs).take k).flatMap dt)) (λ_ _ y _=>t.attrs.length- (intOf y).toNat)
    .exact⟨0,.slice none 0 0,zE _,rfl,WZ.o⟩
    obtain⟨k,u,hk,rfl,hI⟩:=hrel;have yP:Bw wo wr:=az.o.trans (hI.hb.mono az.o.size);have Gu:Bw w wr:=hB.o.trans (yP.mono hB.o.size);have i2:wr.cell? ⟨wo.heap.size+1,2,none⟩=some u:=by rw[<-eC.o];exact hI.bx.cell 2
    have hz:wo.heap.size+1<wr.heap.size:=(by rw[<-eC.o];exact hI.bx.lt);clear v0 v1;by_cases kW:k<t.attrs.length
    .obtain⟨a,ha⟩:=av kW;obtain⟨b2,jG,rfl,Sg,n7⟩:=(r2.under Gu hF.o).at_ ha;have q0:wr.cell? ⟨b2,jG+k,none⟩=some (.string a):=n7;have g3:=aH k;have g4:=aV k t.attrs.length;have tM:=yU ha;have cY:∀(w1:World)(v':Value),(wr.alloc (.cells ⟨jA ⟨a,k,0⟩⟩ 117)).grownBy w1 u.ownBlock->OL w1 (W1.heap.size+1) bE 117 3 v' (k+1) (((e9 t.attrs).take k).flatMap dt++dt ⟨a,k,0⟩)->w1.cell? ⟨wo.heap.size+1,2,none⟩=some u/\w1.frozen? ⟨wo.heap.size+1,2,none⟩=false/\
       IB W1 (w1.setCell ⟨wo.heap.size+1,2,none⟩ v') 115 t.name j v' 117 (k+1) (((e9 t.attrs).take (k+1)).flatMap dt):=λw1 v' hg hO=>by
      have hB:=hI.stay (bX (.cells ⟨jA ⟨a,k,0⟩⟩ 117));have t0:=hB.bx.grown hg (λe=>by have:=(hI.ol.lt _ e.symm).1;omega);have:=hB.put hg (λq hq=>(hI.ol.lt q hq).1) hO;rw[<-eC.o,tM];exact⟨t0.cell 2,t0.frozen 2,this⟩
     have sB:=Hd hI.ol;replace cY:=Hd cY;have hs9:W1.heap.size+1<=wr.heap.size:=hI.bx.lt;clear n7 ha hI tM yP Gu;go_wp2_with (at_builtin;refine ez rfl (.tmp 48) (.tmp 52) _ rfl (m:=1) (news:=dt ⟨a,k,0⟩) gZ (sB.o.alloc (.cells ⟨jA ⟨a,k,0⟩⟩ 117)) rfl rfl (Src.lit (gY wr _ ⟨a,k,0⟩)) rfl oQ oQ (by simp;omega) ?_;intro v' w1 ax aw bu;obtain⟨B3,d3,rfl⟩:=ax.form;obtain⟨t1,t2,t3⟩:=cY.o _ _ aw ax;replace t3:=Hd t3);go_roundw
     .exact⟨k+1,_,oQ,gQ,t3.o⟩
     exact mQ
    .have qy:k=t.attrs.length:=oQ;subst qy;have jR:(e9 t.attrs).take t.attrs.length=e9 t.attrs:=xH (by rw[vS];omega);rw[jR]at hI;obtain⟨U,cu,rfl⟩:=hI.ol.form;have i0:wr.cell? ⟨wo.heap.size+1,0,none⟩=some (.string t.name):=by rw[<-eC.o];exact hI.bx.cell 0
     have i1:wr.cell? ⟨wo.heap.size+1,1,none⟩=some (.int .i64 j):=(by rw[<-eC.o];exact hI.bx.cell 1);have Dv:=hD'.o.stay yP;have q0:=Dv.c0;have wH:g<wr.heap.size:=Dv.bx.lt;obtain⟨A4,c4,rfl⟩:=Dv.kr.form;have aal:Bw wo (wr.alloc (.cells ⟨[.string t.name,.int .i64 j,.slice U t.attrs.length cu]⟩ 115)):=yP.alloc yP.size _;have EG:=hD'.o.stay aal;have aX:Bw w (wr.alloc (.cells ⟨[.string t.name,.int .i64 j,.slice U t.attrs.length cu]⟩ 115)):=Gu.alloc Gu.size _;have TP:OL (wr.alloc (.cells ⟨[.string t.name,.int .i64 j,.slice U t.attrs.length cu]⟩ 115)) w.heap.size bE 117 3 (.slice U t.attrs.length cu) (e9 t.attrs).length ((e9 t.attrs).flatMap dt):=by
      have:=(hI.ol.base (B':=w.heap.size) (by have:=eC.o;omega)).alloc (.cells ⟨[.string t.name,.int .i64 j,.slice U t.attrs.length cu]⟩ 115);rw[vS];exact this
     have J7:∀p∈lj,(Value.slice U t.attrs.length cu).ownBlock=none\/(Value.slice U t.attrs.length cu).ownBlock≠p.2.ownBlock:=λp hp=>by
      cases hq:(Value.slice U t.attrs.length cu).ownBlock with
      |none=>exact .inl rfl
      |some q=>
       refine .inr λhe=>?_
       have h1:=(hI.ol.lt q hq).1;have h2:=((hD'.o.fr p hp).lt q he.symm).2;have:=eC.o;omega
     have kT:=Hd EG.kr;have Om:=λ(w1:World)(hg:(wr.alloc (.cells ⟨[.string t.name,.int .i64 j,.slice U t.attrs.length cu]⟩ 115)).grownBy w1 (Value.slice A4 lj.length c4).ownBlock)=>EG.Ok hg
     have yC:=λ(w1:World)(v':Value)(hg:(wr.alloc (.cells ⟨[.string t.name,.int .i64 j,.slice U t.attrs.length cu]⟩ 115)).grownBy w1 (Value.slice A4 lj.length c4).ownBlock) hv=>xW (EG.TN (vk':=v') (k:=⟨t.name,j,e9 t.attrs⟩) hg hv TP J7) (EG.Gy (x:=v') aX hg)
     replace⟨Om,yC⟩:=H2 Om yC;clear hI jR Dv EG TP J7 aX aal yP Gu;go_upto_region 16 with fail
     go_region_law ((refine dj (by rfl) (.tmp 60) (.tmp 62) _ (by rfl) (m:=1) (news:=ug (⟨t.name,j,e9 t.attrs⟩,.slice U t.attrs.length cu)) vX (by exact kT.o.drew) (by rfl) (by rfl) (by exact(Src.lit (TM wr _ t.name j _ U t.attrs.length cu)).drew) rfl oQ oQ (by simp;omega) ?_;intro v' w1 ax aw bu;obtain⟨B3,d3,rfl⟩:=ax.form;have mc:=iD aw;obtain⟨t0,t1⟩:=Om.o _ mc))
     all_goals
      obtain⟨f1,f2⟩:=yC.o _ _ mc ax;replace⟨f1,f2⟩:=H2 f1 f2;clear aw mc ax bu;go_wp2;go_roundw
      .exact Oy.mk (j+1) _ _ oQ gQ f1.o (by rw[hft.o,xR,tE.o];rfl) f2.o
      exact mQ
   .have Ki:j=S.length:=oQ;have hD0:=Hd (show DS wr w.heap.size g (aD S L 0) (dr S L 0) from ⟨_,_,_,_,hD,by rw[tE,xH (by rw[vT];omega)];rfl⟩);replace hB:=Hd hB;clear hD tE Ki;go_wp2;go_loopw [14,69] (λ_ x wr=>Oz w w.heap.size g S L x wr) (λ_ x _=>L.length- (intOf x).toNat)
    .exact Oz.mk 0 (zE _) rfl hD0.o Gt.o hB.o
    obtain⟨j,hj,rfl,XQ,cK,hB⟩:=hrel;obtain⟨vk,vl,au,lj,hD,tE⟩:=XQ;obtain⟨nl,tK⟩:=aB (dr S L j)
    rw[<-tK]at hD;have afo:nl.length<=1048576:=by rw[tK];have:=vF S L j;omega
    replace tK:=Hd tK;have hm:nO (lj.map (·.1)):=by rw[tE];exact hsm.o j cK
    by_cases hlt:j<L.length
    .obtain⟨c,hc⟩:=av hlt;have hcs:=hC.o c (zA hc);obtain⟨b,off,rfl,Ke,hv,hsl⟩:=rc.o.cP (m:=6) (λ_=>rfl) hc oQ;have Gn:=hG.o b Ke;obtain⟨B2,d2,a4,r4⟩:=hsl 4 _ _ rfl;have v0:wr.cell? ⟨b,off+j*6,none⟩=some (.int .i64 c.kd):=(hB.cell (p:=⟨b,off+j*6,none⟩) Gn).trans (hv 0 _ rfl);have v1:wr.cell? ⟨b,off+j*6+1,none⟩=some (.string c.ty):=(hB.cell (p:=⟨b,off+j*6+1,none⟩) Gn).trans (hv 1 _ rfl);have v2:wr.cell? ⟨b,off+j*6+2,none⟩=some (.string c.at_):=(hB.cell (p:=⟨b,off+j*6+2,none⟩) Gn).trans (hv 2 _ rfl);have v3:wr.cell? ⟨b,off+j*6+3,none⟩=some (.string c.nm):=(hB.cell (p:=⟨b,off+j*6+3,none⟩) Gn).trans (hv 3 _ rfl);have v4:wr.cell? ⟨b,off+j*6+4,none⟩=some (.slice B2 c.ats.length d2):=(hB.cell (p:=⟨b,off+j*6+4,none⟩) Gn).trans a4;have v5:wr.cell? ⟨b,off+j*6+5,none⟩=some (.int .i64 c.n):=(hB.cell (p:=⟨b,off+j*6+5,none⟩) Gn).trans (hv 5 _ rfl);have g1:=aH j;have g2:=aV j L.length;have nB:=λh=>vW.o j hlt cK h
     have d2c:=hD.c2;have d2f:wr.frozen? ⟨g,2,none⟩=false:=hD.bx.frozen 2;have Fy:=hD.bx.lt;have afp:w.heap.size<=g:=hD.gB;have ud:=Hd (show nl++iX (aD S L j) c j=dr S L (j+1) by rw[tK.o];exact sS hc);have J5:=Hd (hsm.o j cK);have pR:∀w1,Below ((wr.setCell ⟨g,2,none⟩ (.int .i64 (j:Int))).alloc (.cells ⟨je c B2 d2⟩ 73)).heap.size ((wr.setCell ⟨g,2,none⟩ (.int .i64 (j:Int))).alloc (.cells ⟨je c B2 d2⟩ 73)) w1->
       DX (w1.alloc (.cells ⟨kM⟩ 119)) w.heap.size g vk vl j nl lj/\ao (w1.alloc (.cells ⟨kM⟩ 119)) wr.heap.size 73 (je c B2 d2)/\
       ao (w1.alloc (.cells ⟨kM⟩ 119)) w1.heap.size 119 kM/\Bw w (w1.alloc (.cells ⟨kM⟩ 119))/\ao w1 wr.heap.size 73 (je c B2 d2):=λw1 az=>by
      have df:Bw w1 (w1.alloc (.cells ⟨kM⟩ 119)):=bA;have hDa:=(((hD.afd j).stay (bX (.cells ⟨je c B2 d2⟩ 73))).stay az).stay df;have hBa:Bw w ((wr.setCell ⟨g,2,none⟩ (.int .i64 (j:Int))).alloc (.cells ⟨je c B2 d2⟩ 73)):=(hB.setCell afp _).alloc (by simpa using hB.size) _;exact⟨hDa,(((ao.new' (w:=wr.setCell ⟨g,2,none⟩ (.int .i64 (j:Int))) sJ).stay az).stay df),ao.new _ _ _,(hBa.trans (az.mono hBa.size)).trans (df.mono (hBa.trans (az.mono hBa.size)).size),(ao.new' (w:=wr.setCell ⟨g,2,none⟩ (.int .i64 (j:Int))) sJ).stay az⟩
     obtain⟨wo,gU⟩:=aB wr
     subst gU;have IZ:=hB.size;replace⟨pR,nB,cK,hcs,tE,hm,r4,hB⟩:=H8 pR nB cK hcs tE hm r4 hB;clear hv hsl a4 hD;by_cases hkq:1<=c.kd/\c.kd<=7
     .obtain⟨q,hq⟩:∃q:Nat,c.kd=q:=⟨c.kd.toNat,oQ⟩
      rw[hq]at v0;have oU:1<=q:=oQ;have hq7:q<=7:=oQ;have m0:=aH q;have m1:(q:Int)<8:=oQ;have n0:decide ((q:Int)<0)=false:=zV oQ;have n1:decide ((q:Int)>=8)=false:=zV oQ;have n1':decide (8<=(q:Int))=false:=zV oQ;have O5:je c B2 d2=[.int .i64 (q:Int),.string c.ty,.string c.at_,.string c.nm,.slice B2 c.ats.length d2,.int .i64 c.n]:=by unfold je;rw[hq]
      rw[O5]at pR;have hdo:∀W,DX W w.heap.size g vk vl j nl lj->Bw w W->El q c B2 d2 g W.drew (dV (aD S L j) c w.heap.size g (nl++iX (aD S L j) c j) W.drew):=λW hDW X'=>by
       have hm':nO (lj.map (·.1)):=hm.o;have:=Xc (hDW.stay (bR).drew) hm' afo c q hq oU hq7 hcs.o.ats.1 B2 d2 G (λb hb=>zF (hG.o b hb) X'.size) ((r4.o.under X' hG.o).drew);rw[tE.o]at this;exact this
      have Sv:∀W t N,t.length<=17->(∀k∈t,Gr k)->DS W w.heap.size g t N->Cl 20 #[.pointer (some ⟨g,0,none⟩)] W (Ou (t.map cR) W):=λW t N h1 h2 Pu=>by
       obtain⟨_,_,_,l',hD',rfl⟩:=Pu;refine DV hD' (by simp at h1;omega) (λp hp=>(h2 p.1 (xJ hp)).fs.1)
      have Sw:∀(W:World)(T:List Td)(v:Value)(ls:List (Td×Value))(B':Nat),iI T->sn W B' v ls->ls.map (·.1)=T->Bw w W->Cl 38 #[.agg #[v]] W λe w'=>e=.returned (.int .i64 (dy T))/\Bw W w':=λW T v ls B' hT hO hl X'=>by
       subst hl;obtain⟨A',c',rfl⟩:=hO.kr.form;have hr:=hO.rd (G:=λb=>b<W.heap.size) (λb _ h=>h);have yA:ls.length=(ls.map (·.1)).length:=sJ;rw[yA]at hr |-;exact iL A' c' _ (ls.map (·.1)) hT W (hK.o.stay X') (λ_ h=>h) hr
      replace⟨hdo,Sv,Sw⟩:=H3 hdo Sv Sw;have Sx:∀W W2 t N,DS W w.heap.size g t N->Bw W W2->DS W2 w.heap.size g t N:=λW W2 t N h hb=>by
       obtain⟨vk,vl,au,l,hD,h1⟩:=h;exact⟨vk,vl,au,l,hD.stay hb,h1⟩
      replace⟨Sx,hq⟩:=H2 Sx hq;go_upto_region 23 with(go_at_call 39;refine(rZ _).eQ λw1 az=>?_;have hQ:=pR.o w1 az;replace hQ:=Hd hQ;clear az;simp only[kM])
      have x0:w1.cell? ⟨wo.heap.size,0,none⟩=some (.int .i64 (q:Int)):=hQ.o.2.2.2.2.cell 0;have x1:w1.cell? ⟨wo.heap.size,1,none⟩=some (.string c.ty):=hQ.o.2.2.2.2.cell 1;have x2:w1.cell? ⟨wo.heap.size,2,none⟩=some (.string c.at_):=hQ.o.2.2.2.2.cell 2;have x3:w1.cell? ⟨wo.heap.size,3,none⟩=some (.string c.nm):=hQ.o.2.2.2.2.cell 3;have x4:w1.cell? ⟨wo.heap.size,4,none⟩=some (.slice B2 c.ats.length d2):=hQ.o.2.2.2.2.cell 4;have x5:w1.cell? ⟨wo.heap.size,5,none⟩=some (.int .i64 c.n):=hQ.o.2.2.2.2.cell 5;have xx:wo.heap.size<w1.heap.size:=hQ.o.2.2.2.2.lt;obtain⟨f,I3,PL,XH⟩:=hdo.o _ hQ.o.1 hQ.o.2.2.2.1;have hfc:=I3;simp only[kM]at hfc;have he:=Xb;replace XH:=Hd XH;clear v0 v1 v2 v3 v4 v5 I3;cases hch:l6 (aD S L j) c with
      |none=>
       have hno:=Hd (nB.o (N8 hc hch));replace⟨hc,hch⟩:=H2 hc hch;first|go_region_law ((go_simp;go_at_fn f;refine XH.o.mono ?_;rintro e w2 ⟨b2,rfl,_,bL,cD⟩;obtain rfl:=bL hch.o;clear bL))|fail
       all_goals
        go_wp2;go_ret3;exact lY.bad hno.o ((hQ.o.2.2.2.1.drew).trans cD)
      |some l'=>
       obtain⟨s1,s2⟩:=NZ J5.o hcs.o hch;have hT:=Hd (Ef s1 s2);replace s2:=Hd s2;by_cases BD:dy (l'.map cR)=0
       .have WH:=Hd (Oa hc hch BD cK.o);have vJ:=Hd (mI hc hch);replace⟨hch,hc⟩:=H2 hch hc;first|go_region_law ((go_simp;first
         |(go_at_fn f;refine XH.o.mono ?_;rintro e w2 ⟨b2,rfl,gp,_,cD⟩;obtain⟨rfl,Pu⟩:=gp l' hch.o;clear gp;have aX:=Hd ((hQ.o.2.2.2.1.drew).trans cD);replace Pu:=Hd Pu)
         |(go_at_call 20;refine(Sv.o w2 l' _ s1 s2.o Pu.o).mono ?_;rintro e w3 ⟨v,ls,rfl,qM,Qx,ig⟩;have jv:=Hd (aX.o.trans (ig.mono aX.o.size));replace⟨qM,Qx,ig⟩:=H3 qM Qx ig)
         |(go_at_call 38;refine(Sw.o w3 (l'.map cR) v ls w2.heap.size hT.o qM.o Qx.o jv.o).eQ λw4 fI=>?_;replace fI:=Hd fI;rw[BD])))|fail
        all_goals
         have hDf:=Sx.o w3 w4 _ _ (Sx.o w2 w3 _ _ Pu.o ig.o) fI.o;rw[<-vJ.o,ud.o]at hDf;have afs:=Hd hDf;clear hDf;go_wp2;go_roundw
         .exact Oz.mk (j+1) oQ gQ afs.o WH.o (jv.o.trans (fI.o.mono jv.o.size))
         exact mQ
       .have hno:=Hd (nB.o (N9 hc hch BD));have hne:(dy (l'.map cR)==0)=false:=by simpa using BD
        replace⟨hch,hc⟩:=H2 hch hc;first|go_region_law ((go_simp;first
         |(go_at_fn f;refine XH.o.mono ?_;rintro e w2 ⟨b2,rfl,gp,_,cD⟩;obtain⟨rfl,Pu⟩:=gp l' hch.o;clear gp;have aX:=Hd ((hQ.o.2.2.2.1.drew).trans cD);replace Pu:=Hd Pu)
         |(go_at_call 20;refine(Sv.o w2 l' _ s1 s2.o Pu.o).mono ?_;rintro e w3 ⟨v,ls,rfl,qM,Qx,ig⟩;have jv:=Hd (aX.o.trans (ig.mono aX.o.size));replace⟨qM,Qx,ig⟩:=H3 qM Qx ig)
         |(go_at_call 38;refine(Sw.o w3 (l'.map cR) v ls w2.heap.size hT.o qM.o Qx.o jv.o).eQ λw4 fI=>?_;replace fI:=Hd fI)))|fail
        all_goals
         go_wp2;go_ret3;exact lY.bad hno.o (jv.o.trans (fI.o.mono jv.o.size))
     .have hch:l6 (aD S L j) c=none:=HZ oQ;have hno:=Hd (nB.o (N8 hc hch));replace⟨hc,hch⟩:=H2 hc hch;have qg:c.kd<0\/c.kd=0\/8<=c.kd:=oQ;clear hkq;rcases qg with hk |hk |hk
      .have n0:decide (c.kd<0)=true:=zW hk;go_upto_region 23 with(go_at_call 39;refine(rZ _).eQ λw1 az=>?_;have hQ:=pR.o w1 az;replace hQ:=Hd hQ;clear az;simp only[kM])
       have x0:w1.cell? ⟨wo.heap.size,0,none⟩=some (.int .i64 c.kd):=hQ.o.2.2.2.2.cell 0;have xx:wo.heap.size<w1.heap.size:=hQ.o.2.2.2.2.lt;go_quiet (fail);go_wp2;go_ret3;exact lY.bad hno.o (below_drewN hQ.o.2.2.2.1 _)
      .have he:=Sr;have m0:(0:Int)<=c.kd:=oQ;have m1:c.kd<8:=oQ;have m2:c.kd.toNat=0:=oQ;replace hk:=Hd hk;have n0:decide (c.kd<0)=false:=zV oQ;have n1:decide (c.kd>=8)=false:=zV oQ;have n1':decide (8<=c.kd)=false:=zV oQ;go_upto_region 23 with(go_at_call 39;refine(rZ _).eQ λw1 az=>?_;have hQ:=pR.o w1 az;replace hQ:=Hd hQ;clear az;simp only[kM])
       have x0:w1.cell? ⟨wo.heap.size,0,none⟩=some (.int .i64 c.kd):=hQ.o.2.2.2.2.cell 0;have xx:wo.heap.size<w1.heap.size:=hQ.o.2.2.2.2.lt;go_quiet (fail);go_wp2;go_ret3;exact lY.bad hno.o (below_drewN hQ.o.2.2.2.1 _)
      .have n0:decide (c.kd<0)=false:=zV oQ;have n1:decide (c.kd>=8)=true:=zW hk;have n1':decide (8<=c.kd)=true:=zW hk;go_upto_region 23 with(go_at_call 39;refine(rZ _).eQ λw1 az=>?_;have hQ:=pR.o w1 az;replace hQ:=Hd hQ;clear az;simp only[kM])
       have x0:w1.cell? ⟨wo.heap.size,0,none⟩=some (.int .i64 c.kd):=hQ.o.2.2.2.2.cell 0;have xx:wo.heap.size<w1.heap.size:=hQ.o.2.2.2.2.lt;go_quiet (fail);go_wp2;go_ret3;exact lY.bad hno.o (below_drewN hQ.o.2.2.2.1 _)
    .obtain rfl:j=L.length:=oQ;have hf:=Hd (ae.o cK);have hD9:DS wr w.heap.size g (aD S L L.length) (dr S L L.length):=by rw[<-tK.o];exact⟨vk,vl,au,lj,hD,tE⟩
     have hm9:=Hd (hsm.o _ cK);replace⟨hD9,hB⟩:=H2 hD9 hB;clear hD tE cK hm;go_wp2;go_ret3;exact⟨_,_,_,_,rfl,hf.o,λt h=>by injection h with h;subst h;exact⟨hm9.o,g,rfl,hD9.o⟩,hB.o⟩
 .have vJ:fJ S L none (dy S) 0:=.inl ⟨hs,rfl,rfl,rfl⟩;have hne:(dy S==0)=false:=by simpa using hs
  replace vJ:=Hd vJ;clear r rc hC hS hK hF hG;go_enter func19,ntmps19;go_wp2_with (go_at_call 38;refine k1.o.mono ?_;rintro e w' ⟨rfl,az⟩);go_ret3;exact lY.bad vJ.o (h0.o.trans (az.mono h0.o.size))
end di
