/- The document's Tree. -/
import Derived.Test.YtjbcbibkhalagaaGreatDoorC7
namespace Go.Proofs.YtjbcbibkhalagaaGreatDoor
set_option maxRecDepth 100000
set_option maxHeartbeats 16000000
open Proofs.Tryz Go.RowKit Go.Deep
set_option linter.unusedVariables false
set_option linter.unusedSimpArgs false
def nL (x:Nd):Bool:=decide (x.n=0)&&(decide (x.v=emp)&&decide (x.at_=emp))
def KO (b:Nat):D:=.v (.int .i64 (b:Nat))
theorem sA {x}(h:dg x.op=false)(h2:1<=x.op):bI x=nL x:=by
 have h3:11<x.op:=by simp[dg]at h;omega
 unfold bI nL;rw[if_neg oQ,if_neg (by rw[ep (.inr h3)];decide),if_neg (by rw[jC (.inr (.inl h3))];decide),Bool.and_assoc]
theorem SU {o}(h:fm o=true):dg o=false/\1<=o:=by simp[fm]at h;simp[dg];omega
theorem KP {o}(h:gD o=true):dg o=false/\fm o=false/\1<=o:=by simp[gD]at h;simp[dg,fm];omega
theorem PG {i stk x}(h:cy x=true):stepT i stk x=some ((i,i)::stk):=by
 unfold cy at h;simp only[xK,decide_eq_true_eq]at h;unfold stepT;rw[if_neg (by rw[h.2.2.2];decide),if_pos h.2.2.1,if_pos ⟨h.1,h.2.1⟩]
theorem PH {i stk x}(h:cy x=false)(h1:fm x.op=false)(h2:gD x.op=false):stepT i stk x=none:=by
 unfold stepT;by_cases hf:bI x=false
 .rw[if_pos hf]
 .rw[if_neg hf];by_cases hl:dg x.op=true
  .rw[if_pos hl];by_cases jX:x.a= -1/\x.b= -1
   .exfalso;unfold cy at h;rw[zW jX.1,zW jX.2,hl,show bI x=true by simpa using hf]at h;cases h
   .rw[if_neg jX]
  .rw[if_neg hl,if_neg (by rw[h1];decide),if_neg (by rw[h2];decide)]
theorem gG.top {t i stk}(h:gG t (i+1) stk):∃b s,stk=(b,i)::s/\Sp t b i/\gG t b s:=by
 cases h with
 |cons h1 h2=>exact⟨_,_,rfl,h1,h2⟩
theorem gG.bot {t stk}(h:gG t 0 stk):stk=[]:=by cases h;rfl
theorem Yj {t i bt stk x}(hs:gG t (i+1) stk)(hb:Sp t bt i)(h1:fm x.op=true):stepT (i+1) stk x=if nL x=true/\x.a=(i:Int)/\x.b= -1 then some ((bt,i+1)::stk.tail)else none:=by
 obtain⟨b,s,rfl,h2,h3⟩:=hs.top;obtain rfl:=hb.Pz h2;obtain⟨h4,h5⟩:=SU h1;unfold stepT;rw[sA h4 h5,h4,h1];cases nL x<;>simp
theorem KQ {stk t x}(hs:gG t 0 stk)(h1:fm x.op=true\/gD x.op=true):stepT 0 stk x=none:=by
 obtain rfl:=hs.bot;unfold stepT;have h4:dg x.op=false:=h1.elim (λh=>(SU h).1) (λh=>(KP h).1);rw[h4];cases bI x<;>cases fm x.op<;>cases gD x.op<;>simp
theorem Yk {t i bt stk x}(hs:gG t (i+1) stk)(hb:Sp t bt i)(h1:gD x.op=true)(hn:¬(nL x=true/\x.b=(i:Int)/\1<=bt/\x.a=(bt:Int) -1)):stepT (i+1) stk x=none:=by
 obtain⟨b,s,rfl,h2,h3⟩:=hs.top;obtain rfl:=hb.Pz h2;obtain⟨h4,h5,h6⟩:=KP h1;unfold stepT;rw[sA h4 h6,h4,h5,h1];by_cases Cy:nL x=true
 .rw[Cy];cases bt with
  |zero=>
   obtain rfl:=h3.bot;simp
  |succ m=>
   obtain⟨b2,s2,rfl,h7,h8⟩:=h3.top;simp;intro e1 e2;exact hn ⟨Cy,e2,oQ,by rw[e1];omega⟩
 .have:nL x=false:=by simpa using Cy
  rw[this];simp
theorem T0 {t i m b2 stk x}(hs:gG t (i+1) stk)(hb:Sp t (m+1) i)(df:Sp t b2 m)(h1:gD x.op=true)(Cy:nL x=true)(bQ:x.b=(i:Int))(BP:x.a=(m:Int)):stepT (i+1) stk x=some ((b2,i+1)::stk.tail.tail):=by
 obtain⟨b,s,rfl,h2,h3⟩:=hs.top;obtain rfl:=hb.Pz h2;obtain⟨b3,s2,rfl,h7,h8⟩:=h3.top;obtain rfl:=df.Pz h7;obtain⟨h4,h5,h6⟩:=KP h1;unfold stepT;rw[sA h4 h6,h4,h5,h1,Cy];simp[BP,bQ]
structure BI (t:List Nd)(w wr:World)(i:Nat)(stk:List (Nat×Nat))(v:Value)(bl:List Nat):Prop where
 hi:i<=t.length
 hb:Bw w wr
 ol:OL wr w.heap.size eL 3 1 v i (bl.map KO)
 hl:bl.length=i
 st:gG t i stk
 al:iR t i
 bg:∀(r b:Nat),bl[r]? =some b->Sp t b r
 eq:runT 0 [] t=runT i stk (t.drop i)
def T1 (t:List Nd)(w:World)(x y:Value)(wr:World):Prop:=∃i stk bl,y=.int .i64 (i:Nat)/\BI t w wr i stk x bl
theorem T1.mk {t w wr x y}(i stk bl)(h1:y=.int .i64 i)(h2:BI t w wr i stk x bl):T1 t w x y wr:=⟨i,stk,bl,h1,h2⟩
def KS (t:List Nd)(w:World)(e:Ending)(w':World):Prop:=
 ∃v ok,e=.returned (.tuple #[v,.bool ok])/\Bw w w'/\((ok=false/\runT 0 [] t=none)\/(ok=true/\∃stk bl,runT 0 [] t=some stk/\BI t w w' t.length stk v bl))
theorem BI.dead {t w wr W i stk v bl x}(h:BI t w wr i stk v bl)(hx:t[i]? =some x)(hs:stepT i stk x=none)(hb:Bw w W):KS t w (.returned (.tuple #[.slice none 0 0,.bool false])) W:=by
 obtain⟨h1,h2⟩:=zC.1 hx;refine⟨_,_,rfl,hb,.inl ⟨rfl,?_⟩⟩;rw[h.eq,List.drop_eq_getElem_cons h1,h2];unfold runT;rw[hs]
theorem BI.push {t w wr w2 w3 i nb stk stk' v v' bl x o}(h:BI t w wr i stk v bl)(hx:t[i]? =some x)(hs:stepT i stk x=some stk')(hsp:Sp t nb i)(hb:Bw wr w2)(hg:(w2.alloc o).grownBy w3 v.ownBlock)(hO:OL w3 w.heap.size eL 3 1 v' (i+1) (bl.map KO++[KO nb])):BI t w w3 (i+1) stk' v' (bl++[nb]):=by
 obtain⟨h1,h2⟩:=zC.1 hx;obtain⟨h3,h4,_⟩:=Cz hx h.st h.al hs;have eC:=h.hb.size;have ia:=hb.size;refine⟨h1,((h.hb.trans (hb.mono eC)).alloc oQ o).grown hg (by simp;omega) (λq hq=>(h.ol.lt q hq).1),by simpa using hO,by simp[h.hl],h3,h4,λr b hr=>?_,?_⟩
 .by_cases BQ:r<bl.length
  .rw[zS BQ]at hr;exact h.bg r b hr
  .rw[zP oQ]at hr;have:=(zC.1 hr).1;simp at this;have Ye:r=i:=by have:=h.hl;omega
   subst Ye;have e:r-bl.length=0:=by have:=h.hl;omega
   rw[e]at hr;injection hr with hr
   subst hr;exact hsp
 .rw[h.eq,List.drop_eq_getElem_cons h1,h2];show runT i stk (x::_)=_
  rw[runT,hs]
theorem BI.at_ {t w wr i stk A n c bl}(h:BI t w wr i stk (.slice A n c) bl){r}(hr:r<i):∃g b,A=some ⟨g,0,none⟩/\Sp t b r/\∀W,Bw wr W->W.cell? ⟨g,r,none⟩=some (.int .i64 (b:Nat)):=by
 have BQ:r<bl.length:=by have:=h.hl;omega
 have hb:=zI BQ;obtain⟨g,cap,e,_⟩:=h.ol.row oQ;injection e with e1 e2 e3
 subst e1;refine⟨g,bl[r],rfl,h.bg r _ hb,λW hW=>?_⟩;obtain⟨g',cap',e',_,_,_,hc⟩:=(h.ol.stay hW).row oQ;injection e' with e1 _ _
 injection e1 with e1
 injection e1 with e1 _
 subst e1;obtain⟨u,hu,wI⟩:=hc r (KO bl[r]) (by rw[zG,hb];rfl);rw[wI.bH]at hu;exact hu
namespace dR
open cH
theorem KT (A c F t)(hs:tT t)(w)(hK:cW w)(hF:∀b,F b->b<w.heap.size)(r:Rd w F (.slice A t.length c) (.sl t.length (t.flatMap b9))):
  Cl 157 #[.slice A t.length c] w (KS t w):=by
 have k2:=Hd Yh;have k3:=Hd Yi;obtain⟨eC,ia⟩:=hs;have h0:=Hd (show BI t w w 0 [] (.slice none 0 0) [] from ⟨zE _,bR,.nil _ _ _ _ _,rfl,.nil,λr h=>by omega,λr b h=>by simp at h,rfl⟩);replace ia:=Hd ia;have r':=Hd r;replace⟨hF,hK⟩:=H2 hF hK;clear r;go_enter func157,ntmps157;go_wp2;go_loopw [4,5,6,7] (λx y _ _ wr=>T1 t w x y wr) (λ_ y _ _ _=>t.length- (intOf y).toNat)
 .exact .mk 0 [] [] rfl h0.o
 obtain⟨i,stk,bl,hy,hI⟩:=hrel;subst hy;obtain⟨A2,c2,rfl⟩:=hI.ol.form;by_cases hlt:i<t.length
 .obtain⟨x,hx⟩:=av hlt;obtain⟨bb0,off,rfl,pZ,z0,z1,z2,z3,z4,z5⟩:=dk (r'.o.under hI.hb hF.o) hx;have kl:∀W,Bw w W->Cl 166 #[.agg ⟨cJ x⟩] W λe w'=>e=.returned (.bool (cy x))/\Bw W w':=λW hW=>TY x W (hK.o.stay hW)
  obtain⟨bb,BR⟩:=aB (nL x)
  have uQ:∃y:Nd,y=x:=⟨_,rfl⟩
  obtain⟨y,hyx⟩:=uQ;have CA:=λ(nb:Nat)(stk':List (Nat×Nat))(w2:World)(w3:World)(v':Value)(o:Obj)(hb:Bw wr w2)(hst:stepT i stk x=some stk')(hsp:Sp t nb i) hg hO=>hI.push (o:=o) (w2:=w2) (w3:=w3) (v':=v') hx hst hsp hb hg hO
  have cq:=λ(W:World)(hst:stepT i stk x=none)(hW:Bw wr W)=>hI.dead hx hst (hI.hb.trans (hW.mono hI.hb.size))
  have KU:=λr hr=>hI.at_ (r:=r) hr
  have sB:∀W,Bw wr W->∀o,OL (W.alloc o) w.heap.size eL 3 1 (.slice A2 i c2) i (bl.map KO):=λW hW o=>(hI.ol.stay hW).alloc o
  have hsz:=Hd hI.hb.size;have Yl:=Hd hI.st;have T3:=λ(b:Nat)(h1:dg x.op=true)(h2:x.a= -1)(h3:x.b= -1)=>Sp.lf hx h1 h2 h3
  have T4:=λ(b j:Nat)(hj:i=j+1)(h1:fm x.op=true)(h2:x.a=(j:Int))(h3:x.b= -1)(h4:Sp t b j)=>(by subst hj;exact Sp.un hx h1 h2 h3 h4:Sp t b i)
  have T5:=λ(b m j:Nat)(hj:i=j+1)(h1:gD x.op=true)(h2:x.a=(m:Int))(h3:x.b=(j:Int))(h4:Sp t b m)(h5:Sp t (m+1) j)=>(by subst hj;exact Sp.bi hx h1 h2 h3 h4 h5:Sp t b i)
  have pK:=hI.hb.alloc hI.hb.size (.cells ⟨cJ x⟩ 63);have BS:Bw wr (wr.alloc (.cells ⟨cJ x⟩ 63)):=bA;have nS:ao (wr.alloc (.cells ⟨cJ x⟩ 63)) wr.heap.size 63 (cJ x):=ao.new _ _ _;obtain⟨op,n,v,at_,a,b⟩:=x;simp only[cJ]at kl z0 z1 z2 z3 z4 z5 pK BS nS;replace⟨kl,CA,cq,KU,sB,T3,T4,T5,pK,BS,nS,hx⟩:=uM kl CA cq KU sB T3 T4 T5 pK BS nS hx;replace hyx:=Hd hyx;have Ip:=Hd BR;have g0:=aH i;have g1:=aV i t.length;have hi6:i<=1048576:=oQ;clear hI;go_upto_region 6 with fail
  go_cut [7] (λs7 wx=>s7=.bool bb/\wx=(wr.alloc (.cells ⟨[.int .i64 op,.int .i64 n,.string v,.string at_,.int .i64 a,.int .i64 b]⟩ 63)))
  .clear BR;by_cases hn:n=0
   .subst hn;by_cases fU:v=emp
    .have fv:(v.toList==([]:List UInt8))=true:=(by rw[aN];exact zW fU);have fa:(at_.toList==([]:List UInt8))=bb:=by rw[aN,Ip.o];unfold nL;simp[fU]
     replace fU:=Hd fU;go_wp2_with fail
     all_goals(go_meet;exact⟨rfl,rfl⟩)
    .have fv:(v.toList==([]:List UInt8))=false:=(by rw[aN];exact zV fU);obtain rfl:bb=false:=by rw[Ip.o];unfold nL;simp[fU]
     replace fU:=Hd fU;go_wp2_with fail
     all_goals(go_meet;exact⟨rfl,rfl⟩)
   .have fn:(n==0)=false:=(by rw[xV];exact hn);obtain rfl:bb=false:=by rw[Ip.o];unfold nL;simp[hn]
    replace hn:=Hd hn;go_wp2_with fail
    all_goals(go_meet;exact⟨rfl,rfl⟩)
  obtain⟨rfl,rfl⟩:=hcut;clear z0 z1 z2 z3 z4 z5 BR;cases pG:cy ⟨op,n,v,at_,a,b⟩with
  |true=>
   have hst:=PG (i:=i) (stk:=stk) pG;have cY:∀(w2 w3:World)(v':Value)(o:Obj)(hb:Bw wr w2) hg hO,BI t w w3 (i+1) ((i,i)::stk) v' (bl++[i]):=λw2 w3 v' o hb hg hO=>CA.o i _ w2 w3 v' o hb hst (T3.o 0 (by unfold cy at pG;simp only[xK,decide_eq_true_eq]at pG;exact pG.2.2.1) (by unfold cy at pG;simp only[xK,decide_eq_true_eq]at pG;exact pG.1) (by unfold cy at pG;simp only[xK,decide_eq_true_eq]at pG;exact pG.2.1)) hg hO
   replace⟨cY,hst,pG⟩:=H3 cY hst pG;go_wp2_with first
    |(go_at_call 166;refine(kl.o _ pK.o).mono ?_;rw[pG.o];rintro e W ⟨rfl,hW⟩;have cO:Bw wr W:=BS.o.trans (hW.mono sJ);have bQ:ao W wr.heap.size 63 [.int .i64 op,.int .i64 n,.string v,.string at_,.int .i64 a,.int .i64 b]:=nS.o.stay hW;have x0:W.cell? ⟨wr.heap.size,0,none⟩=some (.int .i64 op):=bQ.cell 0;have x4:W.cell? ⟨wr.heap.size,4,none⟩=some (.int .i64 a):=bQ.cell 4;have x5:W.cell? ⟨wr.heap.size,5,none⟩=some (.int .i64 b):=bQ.cell 5;have _z:=True.intro;replace⟨cO,bQ⟩:=H2 cO bQ;clear hW)
    |(at_builtin;refine ez rfl (.tmp 34) (.tmp 36) _ rfl (m:=1) (news:=[KO i]) dS (sB.o _ cO.o (.cells ⟨[.int .i64 (i:Nat)]⟩ 3)) rfl rfl (Src.lit (show fB _ _ [.int .i64 (i:Nat)] [KO i]from⟨.v _ rfl,trivial⟩)) rfl oQ oQ (by have h1:=cO.o.size;have h2:=hsz.o;first|(simp;omega)|(simp at h1;simp;omega)) ?_;intro v' w1 ax aw bu;obtain⟨B3,d3,rfl⟩:=ax.form;have dB:=Hd (cY.o _ _ _ _ cO.o aw ax);clear ax aw bu)
   go_roundw
   .exact .mk (i+1) _ _ gQ dB.o
   exact mQ
  |false=>
   cases uR:fm op with
   |true=>
    cases i with
    |zero=>
     have hD:=Hd (λW hW=>cq.o W (KQ Yl.o (.inl uR)) hW);replace⟨pG,uR⟩:=H2 pG uR;cases bb with
     |false=>
      go_wp2_with first
       |(go_at_call 166;refine(kl.o _ pK.o).mono ?_;rw[pG.o];rintro e W ⟨rfl,hW⟩;have cO:Bw wr W:=BS.o.trans (hW.mono sJ);have bQ:ao W wr.heap.size 63 [.int .i64 op,.int .i64 n,.string v,.string at_,.int .i64 a,.int .i64 b]:=nS.o.stay hW;have x0:W.cell? ⟨wr.heap.size,0,none⟩=some (.int .i64 op):=bQ.cell 0;have x4:W.cell? ⟨wr.heap.size,4,none⟩=some (.int .i64 a):=bQ.cell 4;have x5:W.cell? ⟨wr.heap.size,5,none⟩=some (.int .i64 b):=bQ.cell 5;have _z:=True.intro;replace⟨cO,bQ⟩:=H2 cO bQ;clear hW)
       |(go_at_call 167;refine(k2.o op _).aR ?_;rw[uR.o])
      refine bodyPost_ret (results_tmp2 rfl _ _ _) rfl ?_;exact hD.o _ cO.o
     |true=>
      go_wp2_with first
       |(go_at_call 166;refine(kl.o _ pK.o).mono ?_;rw[pG.o];rintro e W ⟨rfl,hW⟩;have cO:Bw wr W:=BS.o.trans (hW.mono sJ);have bQ:ao W wr.heap.size 63 [.int .i64 op,.int .i64 n,.string v,.string at_,.int .i64 a,.int .i64 b]:=nS.o.stay hW;have x0:W.cell? ⟨wr.heap.size,0,none⟩=some (.int .i64 op):=bQ.cell 0;have x4:W.cell? ⟨wr.heap.size,4,none⟩=some (.int .i64 a):=bQ.cell 4;have x5:W.cell? ⟨wr.heap.size,5,none⟩=some (.int .i64 b):=bQ.cell 5;have _z:=True.intro;replace⟨cO,bQ⟩:=H2 cO bQ;clear hW)
       |(go_at_call 167;refine(k2.o op _).aR ?_;rw[uR.o])
      refine bodyPost_ret (results_tmp2 rfl _ _ _) rfl ?_;exact hD.o _ cO.o
    |succ j=>
     obtain⟨g,bt,hA2,sC,xy⟩:=KU.o j oQ;subst hA2;have hst:=Yj (x:=⟨op,n,v,at_,a,b⟩) Yl.o sC uR;have uS:=Hd uR;have wJ:=Hd pG;replace xy:=Hd xy;clear uR pG;simp only at hst;have j0:=aH j;have j1:(j:Int)<(j:Int)+1:=oQ;have j2:¬((j:Int)+1<1):=oQ;rw[<-Ip.o]at hst;cases bb with
     |false=>
      have hD:=Hd (λW hW=>cq.o W (by rw[hst,if_neg (λh=>by cases h.1)]) hW);clear hst;go_wp2_with first
       |(go_at_call 166;refine(kl.o _ pK.o).mono ?_;rw[wJ.o];rintro e W ⟨rfl,hW⟩;have cO:Bw wr W:=BS.o.trans (hW.mono sJ);have bQ:ao W wr.heap.size 63 [.int .i64 op,.int .i64 n,.string v,.string at_,.int .i64 a,.int .i64 b]:=nS.o.stay hW;have x0:W.cell? ⟨wr.heap.size,0,none⟩=some (.int .i64 op):=bQ.cell 0;have x4:W.cell? ⟨wr.heap.size,4,none⟩=some (.int .i64 a):=bQ.cell 4;have x5:W.cell? ⟨wr.heap.size,5,none⟩=some (.int .i64 b):=bQ.cell 5;have _z:=True.intro;replace⟨cO,bQ⟩:=H2 cO bQ;clear hW)
       |(go_at_call 167;refine(k2.o op _).aR ?_;rw[uS.o])
      refine bodyPost_ret (results_tmp2 rfl _ _ _) rfl ?_;exact hD.o _ cO.o
     |true=>
      by_cases ha:a=(j:Int)
      .by_cases hb:b= -1
       .rw[if_pos ⟨rfl,ha,hb⟩]at hst;have fa:(a==(j:Int))=true:=by rw[beq_iff_eq];exact ha
        have fan:(a != (j:Int))=false:=(by rw[bne,fa];rfl);have fb:(b== -1)=true:=by rw[beq_iff_eq];exact hb
        have fbn:(b != -1)=false:=(by rw[bne,fb];rfl);have cY:∀(w2 w3:World)(v':Value)(o:Obj)(hb:Bw wr w2) hg hO,BI t w w3 (j+1+1) ((bt,j+1)::stk.tail) v' (bl++[bt]):=λw2 w3 v' o df hg hO=>CA.o bt _ w2 w3 v' o df hst (T4.o bt j rfl uS.o ha hb sC) hg hO
        replace⟨cY,hst,ha,hb,sC⟩:=H5 cY hst ha hb sC;go_wp2_with first
         |(go_at_call 166;refine(kl.o _ pK.o).mono ?_;rw[wJ.o];rintro e W ⟨rfl,hW⟩;have cO:Bw wr W:=BS.o.trans (hW.mono sJ);have bQ:ao W wr.heap.size 63 [.int .i64 op,.int .i64 n,.string v,.string at_,.int .i64 a,.int .i64 b]:=nS.o.stay hW;have x0:W.cell? ⟨wr.heap.size,0,none⟩=some (.int .i64 op):=bQ.cell 0;have x4:W.cell? ⟨wr.heap.size,4,none⟩=some (.int .i64 a):=bQ.cell 4;have x5:W.cell? ⟨wr.heap.size,5,none⟩=some (.int .i64 b):=bQ.cell 5;have y1:=xy.o W cO;replace⟨cO,bQ⟩:=H2 cO bQ;clear hW)
         |(go_at_call 167;refine(k2.o op _).aR ?_;rw[uS.o])
         |(at_builtin;refine ez rfl (.tmp 60) (.tmp 66) _ rfl (m:=1) (news:=[KO bt]) dS (sB.o _ cO.o (.cells ⟨[.int .i64 (bt:Nat)]⟩ 3)) rfl rfl (Src.lit (show fB _ _ [.int .i64 (bt:Nat)] [KO bt]from⟨.v _ rfl,trivial⟩)) rfl oQ oQ (by have h1:=cO.o.size;have h2:=hsz.o;first|(simp;omega)|(simp at h1;simp;omega)) ?_;intro v' w1 ax aw bu;obtain⟨B3,d3,rfl⟩:=ax.form;have dB:=Hd (cY.o _ _ _ _ cO.o aw ax);clear ax aw bu)
        go_roundw
        .exact .mk ((j+1)+1) _ _ gQ dB.o
        exact mQ
       .have hD:=Hd (λW hW=>cq.o W (by rw[hst,if_neg (λh=>hb h.2.2)]) hW);have fa:(a==(j:Int))=true:=by rw[beq_iff_eq];exact ha
        have fan:(a != (j:Int))=false:=(by rw[bne,fa];rfl);have fb:(b== -1)=false:=by rw[xV];exact hb
        have fbn:(b != -1)=true:=(by rw[bne,fb];rfl);replace⟨ha,hb⟩:=H2 ha hb;clear hst;go_wp2_with first
         |(go_at_call 166;refine(kl.o _ pK.o).mono ?_;rw[wJ.o];rintro e W ⟨rfl,hW⟩;have cO:Bw wr W:=BS.o.trans (hW.mono sJ);have bQ:ao W wr.heap.size 63 [.int .i64 op,.int .i64 n,.string v,.string at_,.int .i64 a,.int .i64 b]:=nS.o.stay hW;have x0:W.cell? ⟨wr.heap.size,0,none⟩=some (.int .i64 op):=bQ.cell 0;have x4:W.cell? ⟨wr.heap.size,4,none⟩=some (.int .i64 a):=bQ.cell 4;have x5:W.cell? ⟨wr.heap.size,5,none⟩=some (.int .i64 b):=bQ.cell 5;have _z:=True.intro;replace⟨cO,bQ⟩:=H2 cO bQ;clear hW)
         |(go_at_call 167;refine(k2.o op _).aR ?_;rw[uS.o])
        refine bodyPost_ret (results_tmp2 rfl _ _ _) rfl ?_;exact hD.o _ cO.o
      .have hD:=Hd (λW hW=>cq.o W (by rw[hst,if_neg (λh=>ha h.2.1)]) hW);have fa:(a==(j:Int))=false:=by rw[xV];exact ha
       have fan:(a != (j:Int))=true:=(by rw[bne,fa];rfl);replace ha:=Hd ha;clear hst;go_wp2_with first
        |(go_at_call 166;refine(kl.o _ pK.o).mono ?_;rw[wJ.o];rintro e W ⟨rfl,hW⟩;have cO:Bw wr W:=BS.o.trans (hW.mono sJ);have bQ:ao W wr.heap.size 63 [.int .i64 op,.int .i64 n,.string v,.string at_,.int .i64 a,.int .i64 b]:=nS.o.stay hW;have x0:W.cell? ⟨wr.heap.size,0,none⟩=some (.int .i64 op):=bQ.cell 0;have x4:W.cell? ⟨wr.heap.size,4,none⟩=some (.int .i64 a):=bQ.cell 4;have x5:W.cell? ⟨wr.heap.size,5,none⟩=some (.int .i64 b):=bQ.cell 5;have _z:=True.intro;replace⟨cO,bQ⟩:=H2 cO bQ;clear hW)
        |(go_at_call 167;refine(k2.o op _).aR ?_;rw[uS.o])
       refine bodyPost_ret (results_tmp2 rfl _ _ _) rfl ?_;exact hD.o _ cO.o
   |false=>
    cases sd:gD op with
    |false=>
     have hD:=Hd (λW hW=>cq.o W (PH pG uR sd) hW);replace⟨pG,uR,sd⟩:=H3 pG uR sd;go_wp2_with first
      |(go_at_call 166;refine(kl.o _ pK.o).mono ?_;rw[pG.o];rintro e W ⟨rfl,hW⟩;have cO:Bw wr W:=BS.o.trans (hW.mono sJ);have bQ:ao W wr.heap.size 63 [.int .i64 op,.int .i64 n,.string v,.string at_,.int .i64 a,.int .i64 b]:=nS.o.stay hW;have x0:W.cell? ⟨wr.heap.size,0,none⟩=some (.int .i64 op):=bQ.cell 0;have x4:W.cell? ⟨wr.heap.size,4,none⟩=some (.int .i64 a):=bQ.cell 4;have x5:W.cell? ⟨wr.heap.size,5,none⟩=some (.int .i64 b):=bQ.cell 5;have _z:=True.intro;replace⟨cO,bQ⟩:=H2 cO bQ;clear hW)
      |(go_at_call 167;refine(k2.o op _).aR ?_;rw[uR.o])
      |(go_at_call 168;refine(k3.o op _).aR ?_;rw[sd.o])
     refine bodyPost_ret (results_tmp2 rfl _ _ _) rfl ?_;exact hD.o _ cO.o
    |true=>
     cases i with
     |zero=>
      have hD:=Hd (λW hW=>cq.o W (KQ Yl.o (.inr sd)) hW);replace⟨pG,uR,sd⟩:=H3 pG uR sd;cases bb with
      |false=>
       go_upto_region 15 with first
        |(go_at_call 166;refine(kl.o _ pK.o).mono ?_;rw[pG.o];rintro e W ⟨rfl,hW⟩;have cO:Bw wr W:=BS.o.trans (hW.mono sJ);have bQ:ao W wr.heap.size 63 [.int .i64 op,.int .i64 n,.string v,.string at_,.int .i64 a,.int .i64 b]:=nS.o.stay hW;have x0:W.cell? ⟨wr.heap.size,0,none⟩=some (.int .i64 op):=bQ.cell 0;have x4:W.cell? ⟨wr.heap.size,4,none⟩=some (.int .i64 a):=bQ.cell 4;have x5:W.cell? ⟨wr.heap.size,5,none⟩=some (.int .i64 b):=bQ.cell 5;have _z:=True.intro;replace⟨cO,bQ⟩:=H2 cO bQ;clear hW)
        |(go_at_call 167;refine(k2.o op _).aR ?_;rw[uR.o])
        |(go_at_call 168;refine(k3.o op _).aR ?_;rw[sd.o])
       go_quiet (fail);go_wp2;refine bodyPost_ret (results_tmp2 rfl _ _ _) rfl ?_;exact hD.o _ (below_drewN cO.o _)
      |true=>
       go_upto_region 15 with first
        |(go_at_call 166;refine(kl.o _ pK.o).mono ?_;rw[pG.o];rintro e W ⟨rfl,hW⟩;have cO:Bw wr W:=BS.o.trans (hW.mono sJ);have bQ:ao W wr.heap.size 63 [.int .i64 op,.int .i64 n,.string v,.string at_,.int .i64 a,.int .i64 b]:=nS.o.stay hW;have x0:W.cell? ⟨wr.heap.size,0,none⟩=some (.int .i64 op):=bQ.cell 0;have x4:W.cell? ⟨wr.heap.size,4,none⟩=some (.int .i64 a):=bQ.cell 4;have x5:W.cell? ⟨wr.heap.size,5,none⟩=some (.int .i64 b):=bQ.cell 5;have _z:=True.intro;replace⟨cO,bQ⟩:=H2 cO bQ;clear hW)
        |(go_at_call 167;refine(k2.o op _).aR ?_;rw[uR.o])
        |(go_at_call 168;refine(k3.o op _).aR ?_;rw[sd.o])
       go_quiet (fail);go_wp2;refine bodyPost_ret (results_tmp2 rfl _ _ _) rfl ?_;exact hD.o _ (below_drewN cO.o _)
     |succ j=>
      obtain⟨g,bt,hA2,sC,xy⟩:=KU.o j oQ;subst hA2;have hst:=λh=>Yk (x:=⟨op,n,v,at_,a,b⟩) Yl.o sC sd h
      have nT:=Hd sd;have uS:=Hd uR;have wJ:=Hd pG;replace xy:=Hd xy;clear uR pG sd;simp only at hst;have j0:=aH j;have j1:(j:Int)<(j:Int)+1:=oQ;have j2:¬((j:Int)+1<1):=oQ;have j2d:decide ((j:Int)+1<1)=false:=zV j2;have jw:IntKind.i64.wrap (j:Int)=j:=by rw[xI];omega
      rw[<-Ip.o]at hst;cases bb with
      |false=>
       have hD:=Hd (λW hW=>cq.o W (hst (λh=>by cases h.1)) hW);clear hst;go_upto_region 15 with first
        |(go_at_call 166;refine(kl.o _ pK.o).mono ?_;rw[wJ.o];rintro e W ⟨rfl,hW⟩;have cO:Bw wr W:=BS.o.trans (hW.mono sJ);have bQ:ao W wr.heap.size 63 [.int .i64 op,.int .i64 n,.string v,.string at_,.int .i64 a,.int .i64 b]:=nS.o.stay hW;have x0:W.cell? ⟨wr.heap.size,0,none⟩=some (.int .i64 op):=bQ.cell 0;have x4:W.cell? ⟨wr.heap.size,4,none⟩=some (.int .i64 a):=bQ.cell 4;have x5:W.cell? ⟨wr.heap.size,5,none⟩=some (.int .i64 b):=bQ.cell 5;have _z:=True.intro;replace⟨cO,bQ⟩:=H2 cO bQ;clear hW)
        |(go_at_call 167;refine(k2.o op _).aR ?_;rw[uS.o])
        |(go_at_call 168;refine(k3.o op _).aR ?_;rw[nT.o])
       go_quiet (fail);go_wp2;refine bodyPost_ret (results_tmp2 rfl _ _ _) rfl ?_;exact hD.o _ (below_drewN cO.o _)
      |true=>
       by_cases hb:b=(j:Int)
       .have fb:(b==(j:Int))=true:=(by rw[beq_iff_eq];exact hb);have fbn:(b != (j:Int))=false:=by rw[bne,fb];rfl
        cases bt with
        |zero=>
         have hD:=Hd (λW hW=>cq.o W (hst (λh=>by have:=h.2.2.1;omega)) hW);replace⟨sC,hb⟩:=H2 sC hb;clear hst;go_upto_region 15 with first
          |(go_at_call 166;refine(kl.o _ pK.o).mono ?_;rw[wJ.o];rintro e W ⟨rfl,hW⟩;have cO:Bw wr W:=BS.o.trans (hW.mono sJ);have bQ:ao W wr.heap.size 63 [.int .i64 op,.int .i64 n,.string v,.string at_,.int .i64 a,.int .i64 b]:=nS.o.stay hW;have x0:W.cell? ⟨wr.heap.size,0,none⟩=some (.int .i64 op):=bQ.cell 0;have x4:W.cell? ⟨wr.heap.size,4,none⟩=some (.int .i64 a):=bQ.cell 4;have x5:W.cell? ⟨wr.heap.size,5,none⟩=some (.int .i64 b):=bQ.cell 5;have y1:W.cell? ⟨g,j,none⟩=some (.int .i64 0):=xy.o W cO;replace⟨cO,bQ⟩:=H2 cO bQ;clear hW)
          |(go_at_call 167;refine(k2.o op _).aR ?_;rw[uS.o])
          |(go_at_call 168;refine(k3.o op _).aR ?_;rw[nT.o])
         go_quiet (fail);go_wp2;refine bodyPost_ret (results_tmp2 rfl _ _ _) rfl ?_;exact hD.o _ (below_drewN cO.o _)
        |succ m=>
         have m0:¬((m:Int)+1<1):=oQ;have m0d:decide ((m:Int)+1<1)=false:=zV m0;have m1:=aH m;have Ym:=sC.le;have mw:IntKind.i64.wrap (m:Int)=m:=by rw[xI];omega
         by_cases ha:a=(m:Int)
         .have fa:(a==(m:Int))=true:=(by rw[beq_iff_eq];exact ha);have fan:(a != (m:Int))=false:=by rw[bne,fa];rfl
          obtain⟨g',b2,hA3,GM,T7⟩:=KU.o m oQ;injection hA3 with hA3
          injection hA3 with hA3 _
          subst hA3;have T8:=T0 (x:=⟨op,n,v,at_,a,b⟩) Yl.o sC GM nT.o Ip.o.symm hb ha;have cY:∀(w2 w3:World)(v':Value)(o:Obj)(hb:Bw wr w2) hg hO,BI t w w3 (j+1+1) ((b2,j+1)::stk.tail.tail) v' (bl++[b2]):=λw2 w3 v' o df hg hO=>CA.o b2 _ w2 w3 v' o df T8 (T5.o b2 m j rfl nT.o ha hb GM sC) hg hO
          have m2:(m:Int)<(j:Int)+1:=oQ;have m3:m<j+1:=oQ;replace⟨T7,cY,T8⟩:=H3 T7 cY T8;subst ha;replace⟨hb,sC,GM⟩:=H3 hb sC GM;clear hst Ym;go_upto_region 15 with first
           |(go_at_call 166;refine(kl.o _ pK.o).mono ?_;rw[wJ.o];rintro e W ⟨rfl,hW⟩;have cO:Bw wr W:=BS.o.trans (hW.mono sJ);have bQ:ao W wr.heap.size 63 [.int .i64 op,.int .i64 n,.string v,.string at_,.int .i64 (m:Int),.int .i64 b]:=nS.o.stay hW;have x0:W.cell? ⟨wr.heap.size,0,none⟩=some (.int .i64 op):=bQ.cell 0;have x4:W.cell? ⟨wr.heap.size,4,none⟩=some (.int .i64 (m:Int)):=bQ.cell 4;have x5:W.cell? ⟨wr.heap.size,5,none⟩=some (.int .i64 b):=bQ.cell 5;have y1:W.cell? ⟨g,j,none⟩=some (.int .i64 ((m:Int)+1)):=xy.o W cO;have y2:W.cell? ⟨g,m,none⟩=some (.int .i64 (b2:Nat)):=T7.o W cO;replace⟨cO,bQ⟩:=H2 cO bQ;clear hW)
           |(go_at_call 167;refine(k2.o op _).aR ?_;rw[uS.o])
           |(go_at_call 168;refine(k3.o op _).aR ?_;rw[nT.o])
          go_quiet (fail);replace cO:=Hd (below_drewN cO.o nq);go_wp2_with first
           |(at_builtin;refine ez rfl (.tmp 104) (.tmp 110) _ rfl (m:=1) (news:=[KO b2]) dS (sB.o _ cO.o (.cells ⟨[.int .i64 (b2:Nat)]⟩ 3)) rfl rfl (Src.lit (show fB _ _ [.int .i64 (b2:Nat)] [KO b2]from⟨.v _ rfl,trivial⟩)) rfl oQ oQ (by have h1:=cO.o.size;have h2:=hsz.o;first|(simp;omega)|(simp at h1;simp;omega)) ?_;intro v' w1 ax aw bu;obtain⟨B3,d3,rfl⟩:=ax.form;have dB:=Hd (cY.o _ _ _ _ cO.o aw ax);clear ax aw bu)
          go_roundw
          .exact .mk ((j+1)+1) _ _ gQ dB.o
          exact mQ
         .have fa:(a==(m:Int))=false:=(by rw[xV];exact ha);have fan:(a != (m:Int))=true:=by rw[bne,fa];rfl
          have hD:=Hd (λW hW=>cq.o W (hst (λh=>ha (by have:=h.2.2.2;omega))) hW);replace⟨ha,hb⟩:=H2 ha hb;clear hst;go_upto_region 15 with first
           |(go_at_call 166;refine(kl.o _ pK.o).mono ?_;rw[wJ.o];rintro e W ⟨rfl,hW⟩;have cO:Bw wr W:=BS.o.trans (hW.mono sJ);have bQ:ao W wr.heap.size 63 [.int .i64 op,.int .i64 n,.string v,.string at_,.int .i64 a,.int .i64 b]:=nS.o.stay hW;have x0:W.cell? ⟨wr.heap.size,0,none⟩=some (.int .i64 op):=bQ.cell 0;have x4:W.cell? ⟨wr.heap.size,4,none⟩=some (.int .i64 a):=bQ.cell 4;have x5:W.cell? ⟨wr.heap.size,5,none⟩=some (.int .i64 b):=bQ.cell 5;have y1:W.cell? ⟨g,j,none⟩=some (.int .i64 ((m:Int)+1)):=xy.o W cO;replace⟨cO,bQ⟩:=H2 cO bQ;clear hW)
           |(go_at_call 167;refine(k2.o op _).aR ?_;rw[uS.o])
           |(go_at_call 168;refine(k3.o op _).aR ?_;rw[nT.o])
          go_quiet (fail);go_wp2;refine bodyPost_ret (results_tmp2 rfl _ _ _) rfl ?_;exact hD.o _ (below_drewN cO.o _)
       .have fb:(b==(j:Int))=false:=(by rw[xV];exact hb);have fbn:(b != (j:Int))=true:=by rw[bne,fb];rfl
        have hD:=Hd (λW hW=>cq.o W (hst (λh=>hb h.2.1)) hW);replace hb:=Hd hb;clear hst;go_upto_region 15 with first
         |(go_at_call 166;refine(kl.o _ pK.o).mono ?_;rw[wJ.o];rintro e W ⟨rfl,hW⟩;have cO:Bw wr W:=BS.o.trans (hW.mono sJ);have bQ:ao W wr.heap.size 63 [.int .i64 op,.int .i64 n,.string v,.string at_,.int .i64 a,.int .i64 b]:=nS.o.stay hW;have x0:W.cell? ⟨wr.heap.size,0,none⟩=some (.int .i64 op):=bQ.cell 0;have x4:W.cell? ⟨wr.heap.size,4,none⟩=some (.int .i64 a):=bQ.cell 4;have x5:W.cell? ⟨wr.heap.size,5,none⟩=some (.int .i64 b):=bQ.cell 5;have _z:=True.intro;replace⟨cO,bQ⟩:=H2 cO bQ;clear hW)
         |(go_at_call 167;refine(k2.o op _).aR ?_;rw[uS.o])
         |(go_at_call 168;refine(k3.o op _).aR ?_;rw[nT.o])
        go_quiet (fail);go_wp2;refine bodyPost_ret (results_tmp2 rfl _ _ _) rfl ?_;exact hD.o _ (below_drewN cO.o _)
 .have hi:=hI.hi;obtain rfl:i=t.length:=oQ;have g1:¬(t.length:Int)<t.length:=oQ;have he:=hI.eq;rw[List.drop_length]at he;have hP:=Hd (show KS t w (.returned (.tuple #[.slice A2 t.length c2,.bool true])) wr from ⟨_,_,rfl,hI.hb,.inr ⟨rfl,stk,bl,he,hI⟩⟩);clear hI he;go_wp2;refine bodyPost_ret (results_tmp2 rfl _ _ _) rfl ?_;exact hP.o
end dR
theorem gG.tree {t n b stk}(h:gG t (n+1) stk)(heq:runT 0 [] t=some stk)(hb:Sp t b n):aW t=decide (b=0):=by
 obtain⟨b',s,rfl,hsp,hs⟩:=h.top;obtain rfl:=hb.Pz hsp;unfold aW;rw[heq];cases b with
 |zero=>rw[hs.bot];rfl
 |succ m=>
  cases hs with
  |cons h1 h2=>simp
namespace dR
open cH
theorem sD (A c F t)(hs:tT t)(w)(hK:cW w)(hF:∀b,F b->b<w.heap.size)(r:Rd w F (.slice A t.length c) (.sl t.length (t.flatMap b9))):
  Cl 126 #[.slice A t.length c] w λe w'=>e=.returned (.bool (aW t))/\Bw w w':=by
 have kb:=KT A c F t hs w hK hF r;have eC:=hs.1;clear r hF hK hs;cases hr:runT 0 [] t with
 |none=>
  have KV:Cl 157 #[.slice A t.length c] w λe W=>∃v,e=.returned (.tuple #[v,.bool false])/\Bw w W:=kb.mono λe W h=>by
   obtain⟨v,ok,he,hb,h⟩:=h;rcases h with⟨rfl,_⟩|⟨_,stk,bl,h,_⟩
   .exact⟨v,he,hb⟩
   .rw[hr]at h;cases h
  clear kb;have ht:aW t=false:=by unfold aW;rw[hr]
  rw[ht];replace KV:=Hd KV;clear hr ht;go_enter func126,ntmps126;go_wp2_with first
   |(go_at_call 157;refine KV.o.mono ?_;rintro e W ⟨v,rfl,hW⟩;replace hW:=Hd hW)
  go_ret;exact⟨rfl,hW.o⟩
 |some stk=>
  have KV:Cl 157 #[.slice A t.length c] w λe W=>∃v bl,e=.returned (.tuple #[v,.bool true])/\Bw w W/\BI t w W t.length stk v bl:=kb.mono λe W h=>by
   obtain⟨v,ok,he,hb,h⟩:=h;rcases h with⟨_,h⟩|⟨rfl,ahz,bl,h,hI⟩
   .rw[hr]at h;cases h
   .rw[hr]at h;injection h with h;subst h;exact⟨v,bl,he,hb,hI⟩
  clear kb;by_cases hn:t.length=0
  .have ht:aW t=false:=by obtain rfl:=List.eq_nil_of_length_eq_zero hn;rfl
   rw[ht];replace KV:=Hd KV;have g0:¬(0<(t.length:Int)):=oQ;clear hr ht;replace hn:=Hd hn;go_enter func126,ntmps126;go_wp2_with first
    |(go_at_call 157;refine KV.o.mono ?_;rintro e W ⟨v,bl,rfl,hW,hI⟩;replace⟨hW,hI⟩:=H2 hW hI)
   go_ret;exact⟨rfl,hW.o⟩
  .obtain⟨n,hn⟩:∃n,t.length=n+1:=⟨t.length-1,oQ⟩
   rw[hn]at KV |-;replace KV:=Hd KV;have qZ:=Hd hr;have n1:(0:Int)<(n:Int)+1:=oQ;have n2:=aH n;have n3:(n:Int)<(n:Int)+1:=oQ;have nw:IntKind.i64.wrap (n:Int)=n:=by rw[xI];omega
   have n4:n<=1048576:=oQ;clear hr eC;replace hn:=Hd hn;go_enter func126,ntmps126;go_wp2_with first
    |(go_at_call 157;refine KV.o.mono ?_;rintro e W ⟨v,bl,rfl,hW,hI⟩;obtain⟨A2,c2,rfl⟩:=hI.ol.form;obtain⟨g,b,rfl,hsp,xy⟩:=hI.at_ (r:=n) (Nat.lt_succ_self n);have q1:=xy W bR;have hb:aW t=decide (b=0):=hI.st.tree qZ.o hsp;clear xy hsp hI;replace⟨hW,hb⟩:=H2 hW hb)
   go_ret;have ae:aW t=((b:Int)==0):=by rw[hb.o];by_cases h:b=0<;>simp[h]
   exact⟨fZ ae.symm,hW.o⟩
end dR
