/- The program's Tree, walked. -/
import Derived.Test.YtjbcbibkhalagaaGreatDoorC2
namespace Go.Proofs.YtjbcbibkhalagaaGreatDoor
set_option maxRecDepth 100000
set_option maxHeartbeats 16000000
open Proofs.Tryz Go.RowKit Go.Deep
set_option linter.unusedVariables false
set_option linter.unusedSimpArgs false
namespace dR
open cH
theorem sx (A c F t)(hs:tT t)(w)(hK:cW w)(hF:∀b,F b->b<w.heap.size)(r:Rd w F (.slice A t.length c) (.sl t.length (t.flatMap b9))):
  Cl 89 #[.slice A t.length c] w λe w'=>e=.returned (.bool (aW t))/\Bw w w':=by
 have k1:=Hd EM;have xy:=λA hA n cap m hm W=>PA (P:=prog) dS (A:=A) hA n cap m hm W
 obtain⟨eC,ia⟩:=hs;have h0:=Hd (show TI t w w 0 [] (.slice none 0 0) from ⟨zE _,sJ,bR,.nil _ _ _ _ _,rfl⟩);replace⟨ia,xy⟩:=H2 ia xy;have r':=Hd r;replace⟨hF,hK⟩:=H2 hF hK;clear r;go_enter func89,ntmps89;go_wp2;go_loopw [3,4,5,6,7,8,11] (λx _ _ _ _ _ y wr=>KM t w x y wr) (λ_ _ _ _ _ _ y _=>t.length- (intOf y).toNat)
 .exact .mk 0 [] rfl h0.o
 obtain⟨i,stk,hy,hT⟩:=hrel;subst hy;obtain⟨A2,c2,hv⟩:=hT.ol.form;by_cases hlt:i<t.length
 .obtain⟨x,hx⟩:=av hlt;obtain⟨zv,za⟩:=ia.o x (zA hx);obtain⟨bb,off,rfl,pZ,z0,z1,z2,z3,z4,z5⟩:=dk (r'.o.under hT.hb hF.o) hx;have kf:∀W,Bw w W->Cl 138 #[.agg ⟨cJ x⟩] W λe w'=>e=.returned (.bool (bI x))/\Bw W w':=λW hW=>KJ x W (hK.o.stay hW) zv za
  obtain⟨op,n,v,at_,a,b⟩:=x;simp only[cJ]at kf z0 z1 z2 z3 z4 z5;replace kf:=Hd kf;have g0:=aH i;have g1:=aV i t.length;have PD:=hT.ol;rw[hv]at PD;have PE:=PD.cap;have KN:=PD.addr;clear PD;clear zv za;have cs:KH op= -1/\dg op=false/\fm op=false/\gD op=false\/KH op=0/\dg op=true\/KH op=1/\dg op=false/\fm op=true\/KH op=2/\dg op=false/\fm op=false/\gD op=true:=by
   unfold KH;cases dg op<;>cases fm op<;>cases gD op<;>simp
  rcases cs with⟨hk,sa,jj,OX⟩|⟨hk,gE⟩|⟨hk,sa,gE⟩|⟨hk,sa,jj,gE⟩
  .subst hv;have cq:=hT.dead hx (by unfold stepT;simp only;rw[sa,jj,OX];simp);replace⟨hT,hx⟩:=H2 hT hx;go_wp2_with first
    |(go_at_call 137;refine(k1.o op _).aR ?_;rw[hk])
   go_ret;exact⟨by rw[cq];rfl,(hT.o.hb.alloc hT.o.hb.size _)⟩
  .obtain⟨n0,iU⟩:=aB stk.length
   rw[<-iU]at hv PE;subst hv;replace iU:=Hd iU;have PF:=xy.o A2 KN n0 c2 n0 oQ;have q0:¬(n0:Int)<0:=oQ;cases hf:bI ⟨op,n,v,at_,a,b⟩with
   |false=>
    have cq:=Hd (hT.dead hx (by unfold stepT;rw[if_pos hf]));replace⟨hf,hT,hx⟩:=H3 hf hT hx;go_wp2_with first
     |(go_at_call 137;refine(k1.o op _).aR ?_;rw[hk])
     |(go_at_call 138;refine(kf.o _ (hT.o.hb.alloc hT.o.hb.size _)).mono ?_;rw[hf.o];rintro e W ⟨rfl,hW⟩)
    go_ret;exact⟨by rw[cq.o];rfl,hT.o.hb.trans (((bA).trans (hW.mono sJ)).mono hT.o.hb.size)⟩
   |true=>
    have EN:=Hd hf;replace hf:=Hd hf;have iH:=hT;replace hT:=Hd hT;go_upto_region 14 with first
     |(go_at_call 137;refine(k1.o op _).aR ?_;rw[hk])
     |(go_at_call 138;refine(kf.o _ (hT.o.hb.alloc hT.o.hb.size _)).mono ?_;rw[hf.o];rintro e W ⟨rfl,hW⟩)
    have cO:Bw wr W:=(bA).trans (hW.mono sJ);have bQ:ao W wr.heap.size 63 [.int .i64 op,.int .i64 n,.string v,.string at_,.int .i64 a,.int .i64 b]:=(ao.new _ _ _).stay hW;have x4:W.cell? ⟨wr.heap.size,4,none⟩=some (.int .i64 a):=bQ.cell 4;have x5:W.cell? ⟨wr.heap.size,5,none⟩=some (.int .i64 b):=bQ.cell 5;by_cases ha:a=(-1)
    .have fa:(a==(-1))=true:=(by rw[beq_iff_eq];exact ha);by_cases hb:b=(-1)
     .have fb:(b==(-1))=true:=(by rw[beq_iff_eq];exact hb);have oh:=iH.live hx (stk':=(i,i)::stk) (by unfold stepT;rw[if_neg (by rw[EN.o];decide)];simp only;rw[if_pos gE,if_pos ⟨ha,hb⟩]);have dv:OL (W.alloc (.cells ⟨[.int .i64 i]⟩ 3)) w.heap.size eL 3 1 (.slice A2 n0 c2) n0 ((stk.reverse.map uO).take (n0*1)):=((by have h:=iH.ol.stay cO;rw[show(stk).length=n0 by simp[iU.o]]at h;exact h:OL W w.heap.size eL 3 1 (.slice A2 (n0) c2) (n0) (stk.reverse.map uO)).KL (m:=n0) oQ).alloc _;have cY:=λ(v':Value)(w3:World) hg hO=>iH.push (o:=.cells ⟨[.int .i64 i]⟩ 3) (w2:=W) (w3:=w3) (v':=v') (m:=n0) (stk':=(i,i)::stk) hlt cO (by simp[iU.o];try omega) hg hO (by simp[iU.o]) (by rw[xH (by simp[iU.o])];simp[uO]) oh
      have wH:=cO.size;have Io:=iH.hb.size;have hli:n0<=i:=by
       have h:=iH.hl;have h2:=iU.o;try simp only[List.length_cons]at h
       omega
      replace⟨dv,cY,oh,ha,hb,hx⟩:=H6 dv cY oh ha hb hx;clear iH cO bQ hW;go_wp2_with (at_builtin;refine ez rfl (.tmp 70) (.tmp 72) _ rfl (m:=1) (news:=[uO (0,i)]) dS dv.o rfl rfl (Src.lit (show fB W _ [.int .i64 i] [uO (0,i)]from⟨.v _ rfl,trivial⟩)) rfl oQ oQ (by simp;omega) ?_;intro v' w1 ax aw bu;obtain⟨B3,d3,rfl⟩:=ax.form;have Yg:=Hd (cY.o _ _ aw ax);clear ax aw bu);go_roundw
      .exact .mk (i+1) _ gQ Yg.o
      exact mQ
     .have fb:(b==(-1))=false:=(by rw[xV];exact hb);have cq:=Hd (iH.dead hx (by unfold stepT;rw[if_neg (by rw[EN.o];decide)];simp only;rw[if_pos gE,if_neg (λh=>hb h.2)]));have uP:=Hd (iH.hb.trans (cO.mono iH.hb.size));replace hx:=Hd hx;clear iH cO bQ hW;go_wp2;go_ret;exact⟨by rw[cq.o];rfl,uP.o⟩
    .have fa:(a==(-1))=false:=(by rw[xV];exact ha);have cq:=Hd (iH.dead hx (by unfold stepT;rw[if_neg (by rw[EN.o];decide)];simp only;rw[if_pos gE,if_neg (λh=>ha h.1)]));have uP:=Hd (iH.hb.trans (cO.mono iH.hb.size));replace hx:=Hd hx;clear iH cO bQ hW;go_wp2;go_ret;exact⟨by rw[cq.o];rfl,uP.o⟩
  .have EO:¬dg op=true:=(by rw[sa];decide);cases stk with
   |nil=>
    subst hv;have cq:=hT.dead hx (by unfold stepT;simp only;rw[sa,gE];simp);replace⟨hT,hx⟩:=H2 hT hx;go_wp2_with first
     |(go_at_call 137;refine(k1.o op _).aR ?_;rw[hk])
    go_ret;exact⟨by rw[cq];rfl,(hT.o.hb.alloc hT.o.hb.size _)⟩
   |cons p0 s=>
    obtain⟨b0,r0⟩:=p0;obtain⟨n0,iU⟩:=aB s.length
    rw[List.length_cons,<-iU]at hv;subst hv;replace iU:=Hd iU;have wm:n0<=1048576:=by
     have h1:=hT.hl;have h2:=iU.o;rw[List.length_cons]at h1;omega
    have PF:=xy.o A2 KN (n0+1) c2 n0 (by have h2:=iU.o;simp at PE;omega);obtain⟨g,cap',e',_⟩:=hT.ol.row sJ;injection e' with e1 e2 e3
    subst e1;clear e2 e3;have jD:∀W,Bw wr W->∀(k:Nat)(p:Nat×Nat),((b0,r0)::s).reverse[k]? =some p->W.cell? ⟨g,k,none⟩=some (.int .i64 (p.2:Nat)):=λW hW k p hp=>by
     obtain⟨g',acb,e'',_,_,_,hcell⟩:=(hT.ol.stay hW).row sJ;injection e'' with e1 _ _
     injection e1 with e1
     injection e1 with e1 _
     subst e1;obtain⟨u,hu,hr⟩:=hcell k (uO p) (by rw[zG,hp];rfl);rw[hr.bH]at hu;exact hu
    replace jD:=Hd jD;have q0:¬(1:Int)>((n0:Int)+1):=oQ;have q1:¬((n0:Int)+1<1):=oQ;cases hf:bI ⟨op,n,v,at_,a,b⟩with
    |false=>
     have cq:=Hd (hT.dead hx (by unfold stepT;rw[if_pos hf]));replace⟨hf,hT,hx⟩:=H3 hf hT hx;go_wp2_with first
      |(go_at_call 137;refine(k1.o op _).aR ?_;rw[hk])
      |(go_at_call 138;refine(kf.o _ (hT.o.hb.alloc hT.o.hb.size _)).mono ?_;rw[hf.o];rintro e W ⟨rfl,hW⟩)
     go_ret;exact⟨by rw[cq.o];rfl,hT.o.hb.trans (((bA).trans (hW.mono sJ)).mono hT.o.hb.size)⟩
    |true=>
     have EN:=Hd hf;replace hf:=Hd hf;have iH:=hT;replace hT:=Hd hT;go_upto_region 11 with first
      |(go_at_call 137;refine(k1.o op _).aR ?_;rw[hk])
      |(go_at_call 138;refine(kf.o _ (hT.o.hb.alloc hT.o.hb.size _)).mono ?_;rw[hf.o];rintro e W ⟨rfl,hW⟩)
     have cO:Bw wr W:=(bA).trans (hW.mono sJ);have bQ:ao W wr.heap.size 63 [.int .i64 op,.int .i64 n,.string v,.string at_,.int .i64 a,.int .i64 b]:=(ao.new _ _ _).stay hW;have y1:W.cell? ⟨g,n0,none⟩=some (.int .i64 (r0:Nat)):=jD.o W cO n0 (b0,r0) (by simp[iU.o]);have q5:=aH n0;have q6:(n0:Int)<(n0:Int)+1:=oQ;clear hW;go_upto_region 14 with fail
     have x4:W.cell? ⟨wr.heap.size,4,none⟩=some (.int .i64 a):=bQ.cell 4;have x5:W.cell? ⟨wr.heap.size,5,none⟩=some (.int .i64 b):=bQ.cell 5;by_cases ha:a=(r0:Int)
     .have fa:(a==(r0:Int))=true:=(by rw[beq_iff_eq];exact ha);by_cases hb:b=(-1)
      .have fb:(b==(-1))=true:=(by rw[beq_iff_eq];exact hb);have oh:=iH.live hx (stk':=(b0,i)::s) (by unfold stepT;rw[if_neg (by rw[EN.o];decide)];simp only;rw[if_neg EO,if_pos gE,if_pos ⟨ha,hb⟩]);have dv:OL (W.alloc (.cells ⟨[.int .i64 i]⟩ 3)) w.heap.size eL 3 1 (.slice (some ⟨g,0,none⟩) n0 c2) n0 ((((b0,r0)::s).reverse.map uO).take (n0*1)):=((by have h:=iH.ol.stay cO;rw[show(((b0,r0)::s)).length=n0+1 by simp[iU.o]]at h;exact h:OL W w.heap.size eL 3 1 (.slice (some ⟨g,0,none⟩) (n0+1) c2) (n0+1) (((b0,r0)::s).reverse.map uO)).KL (m:=n0) oQ).alloc _;have cY:=λ(v':Value)(w3:World) hg hO=>iH.push (o:=.cells ⟨[.int .i64 i]⟩ 3) (w2:=W) (w3:=w3) (v':=v') (m:=n0) (stk':=(b0,i)::s) hlt cO (by simp[iU.o];try omega) hg hO (by simp[iU.o]) (by simp[iU.o,uO]) oh
       have wH:=cO.size;have Io:=iH.hb.size;have hli:n0<=i:=by
        have h:=iH.hl;have h2:=iU.o;try simp only[List.length_cons]at h
        omega
       replace⟨dv,cY,oh,ha,hb,hx⟩:=H6 dv cY oh ha hb hx;clear iH cO bQ;go_wp2_with (at_builtin;refine ez rfl (.tmp 70) (.tmp 72) _ rfl (m:=1) (news:=[uO (0,i)]) dS dv.o rfl rfl (Src.lit (show fB W _ [.int .i64 i] [uO (0,i)]from⟨.v _ rfl,trivial⟩)) rfl oQ oQ (by simp;omega) ?_;intro v' w1 ax aw bu;obtain⟨B3,d3,rfl⟩:=ax.form;have Yg:=Hd (cY.o _ _ aw ax);clear ax aw bu);go_roundw
       .exact .mk (i+1) _ gQ Yg.o
       exact mQ
      .have fb:(b==(-1))=false:=(by rw[xV];exact hb);have cq:=Hd (iH.dead hx (by unfold stepT;rw[if_neg (by rw[EN.o];decide)];simp only;rw[if_neg EO,if_pos gE,if_neg (λh=>hb h.2)]));have uP:=Hd (iH.hb.trans (cO.mono iH.hb.size));replace hx:=Hd hx;clear iH cO bQ;go_wp2;go_ret;exact⟨by rw[cq.o];rfl,uP.o⟩
     .have fa:(a==(r0:Int))=false:=(by rw[xV];exact ha);have cq:=Hd (iH.dead hx (by unfold stepT;rw[if_neg (by rw[EN.o];decide)];simp only;rw[if_neg EO,if_pos gE,if_neg (λh=>ha h.1)]));have uP:=Hd (iH.hb.trans (cO.mono iH.hb.size));replace hx:=Hd hx;clear iH cO bQ;go_wp2;go_ret;exact⟨by rw[cq.o];rfl,uP.o⟩
  .have EO:¬dg op=true:=(by rw[sa];decide);have ql:¬fm op=true:=by rw[jj];decide
   cases stk with
   |nil=>
    subst hv;have cq:=hT.dead hx (by unfold stepT;simp only;rw[sa,jj,gE];simp);replace⟨hT,hx⟩:=H2 hT hx;go_wp2_with first
     |(go_at_call 137;refine(k1.o op _).aR ?_;rw[hk])
    go_ret;exact⟨by rw[cq];rfl,(hT.o.hb.alloc hT.o.hb.size _)⟩
   |cons p1 s0=>
    cases s0 with
    |nil=>
     subst hv;have cq:=hT.dead hx (by unfold stepT;simp only;rw[sa,jj,gE];simp);replace⟨hT,hx⟩:=H2 hT hx;go_wp2_with first
      |(go_at_call 137;refine(k1.o op _).aR ?_;rw[hk])
     go_ret;exact⟨by rw[cq];rfl,(hT.o.hb.alloc hT.o.hb.size _)⟩
    |cons p2 s=>
     obtain⟨b1,r1⟩:=p1;obtain⟨b2,r2⟩:=p2;obtain⟨n0,iU⟩:=aB s.length
     rw[List.length_cons,List.length_cons,<-iU]at hv;subst hv;replace iU:=Hd iU;have wm:n0<=1048576:=by
      have h1:=hT.hl;have h2:=iU.o;rw[List.length_cons,List.length_cons]at h1;omega
     have PF:∀W,(Instr.slice 52 (.slice A2 (n0+1+1) c2) none (some (.int .i64 ((n0:Int)+1+1-2))) none).run prog W=.ok (.slice A2 n0 c2) W:=λW=>by
      rw[show((n0:Int)+1+1-2)=(n0:Int) by omega];exact xy.o A2 KN (n0+1+1) c2 n0 (by have h2:=iU.o;simp at PE;omega) W
     obtain⟨g,cap',e',_⟩:=hT.ol.row sJ;injection e' with e1 e2 e3
     subst e1;clear e2 e3;have jD:∀W,Bw wr W->∀(k:Nat)(p:Nat×Nat),((b1,r1)::(b2,r2)::s).reverse[k]? =some p->W.cell? ⟨g,k,none⟩=some (.int .i64 (p.2:Nat)):=λW hW k p hp=>by
      obtain⟨g',acb,e'',_,_,_,hcell⟩:=(hT.ol.stay hW).row sJ;injection e'' with e1 _ _
      injection e1 with e1
      injection e1 with e1 _
      subst e1;obtain⟨u,hu,hr⟩:=hcell k (uO p) (by rw[zG,hp];rfl);rw[hr.bH]at hu;exact hu
     replace jD:=Hd jD;have q1:¬((n0:Int)+1+1<2):=oQ;cases hf:bI ⟨op,n,v,at_,a,b⟩with
     |false=>
      have cq:=Hd (hT.dead hx (by unfold stepT;rw[if_pos hf]));replace⟨hf,hT,hx⟩:=H3 hf hT hx;go_wp2_with first
       |(go_at_call 137;refine(k1.o op _).aR ?_;rw[hk])
       |(go_at_call 138;refine(kf.o _ (hT.o.hb.alloc hT.o.hb.size _)).mono ?_;rw[hf.o];rintro e W ⟨rfl,hW⟩)
      go_ret;exact⟨by rw[cq.o];rfl,hT.o.hb.trans (((bA).trans (hW.mono sJ)).mono hT.o.hb.size)⟩
     |true=>
      have EN:=Hd hf;replace hf:=Hd hf;have iH:=hT;replace hT:=Hd hT;go_upto_region 13 with first
       |(go_at_call 137;refine(k1.o op _).aR ?_;rw[hk])
       |(go_at_call 138;refine(kf.o _ (hT.o.hb.alloc hT.o.hb.size _)).mono ?_;rw[hf.o];rintro e W ⟨rfl,hW⟩)
      have cO:Bw wr W:=(bA).trans (hW.mono sJ);have bQ:ao W wr.heap.size 63 [.int .i64 op,.int .i64 n,.string v,.string at_,.int .i64 a,.int .i64 b]:=(ao.new _ _ _).stay hW;have y1:W.cell? ⟨g,n0+1,none⟩=some (.int .i64 (r1:Nat)):=jD.o W cO (n0+1) (b1,r1) (by simp[iU.o]);have y2:W.cell? ⟨g,n0,none⟩=some (.int .i64 (r2:Nat)):=jD.o W cO n0 (b2,r2) (by simp[iU.o]);have q5:=aH n0;have q6:(n0:Int)<(n0:Int)+1+1:=oQ;have q7:(0:Int)<=(n0:Int)+1:=oQ;have q8:(n0:Int)+1<(n0:Int)+1+1:=oQ;clear hW;go_quiet (fail);replace bQ:=bQ.drewN nq;replace cO:=below_drewN cO nq;generalize W.drewN nq=W2 at*;clear y1 y2;have x4:W2.cell? ⟨wr.heap.size,4,none⟩=some (.int .i64 a):=bQ.cell 4;have x5:W2.cell? ⟨wr.heap.size,5,none⟩=some (.int .i64 b):=bQ.cell 5;by_cases ha:a=(r2:Int)
      .have fa:(a==(r2:Int))=true:=(by rw[beq_iff_eq];exact ha);by_cases hb:b=(r1:Int)
       .have fb:(b==(r1:Int))=true:=(by rw[beq_iff_eq];exact hb);have oh:=iH.live hx (stk':=(b2,i)::s) (by unfold stepT;rw[if_neg (by rw[EN.o];decide)];simp only;rw[if_neg EO,if_neg ql,if_pos gE,if_pos ⟨ha,hb⟩]);have dv:OL (W2.alloc (.cells ⟨[.int .i64 i]⟩ 3)) w.heap.size eL 3 1 (.slice (some ⟨g,0,none⟩) n0 c2) n0 ((((b1,r1)::(b2,r2)::s).reverse.map uO).take (n0*1)):=((by have h:=iH.ol.stay cO;rw[show(((b1,r1)::(b2,r2)::s)).length=n0+1+1 by simp[iU.o]]at h;exact h:OL W2 w.heap.size eL 3 1 (.slice (some ⟨g,0,none⟩) (n0+1+1) c2) (n0+1+1) (((b1,r1)::(b2,r2)::s).reverse.map uO)).KL (m:=n0) oQ).alloc _;have cY:=λ(v':Value)(w3:World) hg hO=>iH.push (o:=.cells ⟨[.int .i64 i]⟩ 3) (w2:=W2) (w3:=w3) (v':=v') (m:=n0) (stk':=(b2,i)::s) hlt cO (by simp[iU.o];try omega) hg hO (by simp[iU.o]) (by simp[iU.o,uO]) oh
        have wH:=cO.size;have Io:=iH.hb.size;have hli:n0<=i:=by
         have h:=iH.hl;have h2:=iU.o;try simp only[List.length_cons]at h
         omega
        replace⟨dv,cY,oh,ha,hb,hx⟩:=H6 dv cY oh ha hb hx;clear iH cO bQ;go_wp2_with (at_builtin;refine ez rfl (.tmp 70) (.tmp 72) _ rfl (m:=1) (news:=[uO (0,i)]) dS dv.o rfl rfl (Src.lit (show fB W2 _ [.int .i64 i] [uO (0,i)]from⟨.v _ rfl,trivial⟩)) rfl oQ oQ (by simp;omega) ?_;intro v' w1 ax aw bu;obtain⟨B3,d3,rfl⟩:=ax.form;have Yg:=Hd (cY.o _ _ aw ax);clear ax aw bu);go_roundw
        .exact .mk (i+1) _ gQ Yg.o
        exact mQ
       .have fb:(b==(r1:Int))=false:=(by rw[xV];exact hb);have cq:=Hd (iH.dead hx (by unfold stepT;rw[if_neg (by rw[EN.o];decide)];simp only;rw[if_neg EO,if_neg ql,if_pos gE,if_neg (λh=>hb h.2)]));have uP:=Hd (iH.hb.trans (cO.mono iH.hb.size));replace hx:=Hd hx;clear iH cO bQ;go_wp2;go_ret;exact⟨by rw[cq.o];rfl,uP.o⟩
      .have fa:(a==(r2:Int))=false:=(by rw[xV];exact ha);have cq:=Hd (iH.dead hx (by unfold stepT;rw[if_neg (by rw[EN.o];decide)];simp only;rw[if_neg EO,if_neg ql,if_pos gE,if_neg (λh=>ha h.1)]));have uP:=Hd (iH.hb.trans (cO.mono iH.hb.size));replace hx:=Hd hx;clear iH cO bQ;go_wp2;go_ret;exact⟨by rw[cq.o];rfl,uP.o⟩
 .subst hv;have hi:=hT.hi;obtain rfl:i=t.length:=oQ;have g1:¬(t.length:Int)<t.length:=oQ;have he:=hT.eq;rw[List.drop_length]at he;have hP:(((stk.length:Int)==1)=aW t):=by
   unfold aW;rw[he];match stk with
   | []=>rfl
   | [_]=>rfl
   |_::_::s=>simp[runT];omega
  have uP:=Hd hT.hb;clear hT he;go_wp2;go_ret;exact⟨by rw[<-hP];rfl,uP.o⟩
end dR
noncomputable def cy (x:Nd):Bool:=decide (x.a= -1)&&(decide (x.b= -1)&&(dg x.op&&bI x))
namespace dR
open cH
theorem TY (x w)(hK:cW w):Cl 166 #[.agg ⟨cJ x⟩] w λe w'=>e=.returned (.bool (cy x))/\Bw w w':=by
 obtain⟨op,n,v,at_,a,b⟩:=x;have k1:=Hd k9;have cN:Bw w (w.alloc (.cells ⟨cJ ⟨op,n,v,at_,a,b⟩⟩ 63)):=bA;replace hK:=hK.stay cN;simp only[cJ]at cN hK |-;have dh:=True.intro;replace⟨cN,hK⟩:=H2 cN hK;by_cases ha:a= -1
 .by_cases hb:b= -1
  .subst ha hb;generalize hF:bI ⟨op,n,v,at_,-1,-1⟩=F;have cs:(op<1\/11<op)\/op=1\/op=2\/op=3\/op=4\/op=5\/op=6\/op=7\/op=8\/op=9\/op=10\/op=11:=oQ;rcases cs with h |rfl |rfl |rfl |rfl |rfl |rfl |rfl |rfl |rfl |rfl |rfl
   .have hl:cy ⟨op,n,v,at_,-1,-1⟩=false:=(by unfold cy;simp[dg];omega);rw[hl];have f1:(op==1)=false:=by rw[xV];omega
    have f2:(op==2)=false:=(by rw[xV];omega);have f3:(op==3)=false:=by rw[xV];omega
    have f4:(op==4)=false:=(by rw[xV];omega);have f5:(op==5)=false:=by rw[xV];omega
    have f6:(op==6)=false:=(by rw[xV];omega);have f7:(op==7)=false:=by rw[xV];omega
    have f8:(op==8)=false:=(by rw[xV];omega);have f9:(op==9)=false:=by rw[xV];omega
    have f10:(op==10)=false:=(by rw[xV];omega);have f11:(op==11)=false:=by rw[xV];omega
    clear hl hF;go_enter func166,ntmps166;go_wp2;go_ret;exact⟨rfl,cN.o⟩
   .have hl:cy ⟨1,n,v,at_,-1,-1⟩=F:=(by unfold cy;rw[hF];simp[dg]);rw[hl];clear hl;by_cases hn:n<0
    .obtain rfl:F=false:=by rw[<-hF];exact pH (by simp;omega)
     clear hF;go_enter func166,ntmps166;go_wp2;go_ret;exact⟨rfl,cN.o⟩
    by_cases fU:v=emp
    .have fv:(v.toList==([]:List UInt8))=true:=(by rw[aN];exact zW fU);have hF2:=(pJ (by simp;omega) (by simp only;rw[if_neg (by rw[(ep oQ)];decide)];exact zW fU)).symm.trans hF;replace fU:=Hd fU;clear hF;simp only at hF2;rw[if_neg (by rw[jC oQ];decide)]at hF2;have fa:(at_.toList==([]:List UInt8))=F:=by rw[aN];exact hF2
     clear hF2;go_enter func166,ntmps166;go_wp2;go_ret;exact⟨rfl,cN.o⟩
    .have fv:(v.toList==([]:List UInt8))=false:=(by rw[aN];exact zV fU);obtain rfl:F=false:=by rw[<-hF];exact pI (by simp only;rw[if_neg (by rw[(ep oQ)];decide)];exact zV fU)
     replace fU:=Hd fU;clear hF;go_enter func166,ntmps166;go_wp2;go_ret;exact⟨rfl,cN.o⟩
   .have hl:cy ⟨2,n,v,at_,-1,-1⟩=F:=(by unfold cy;rw[hF];simp[dg]);rw[hl];clear hl;by_cases hn:¬n=0
    .obtain rfl:F=false:=by rw[<-hF];exact pH (by simp only;rw[if_neg oQ];exact zV oQ)
     have fn:(n==0)=false:=(by rw[xV];exact hn);clear hF;go_enter func166,ntmps166;go_wp2;go_ret;exact⟨rfl,cN.o⟩
    obtain rfl:n=0:=oQ;by_cases fU:v=emp
    .have fv:(v.toList==([]:List UInt8))=true:=(by rw[aN];exact zW fU);have hF2:=(pJ (by simp only;rw[if_neg oQ];first|exact zW trivial |simp) (by simp only;rw[if_neg (by rw[(ep oQ)];decide)];exact zW fU)).symm.trans hF;replace fU:=Hd fU;clear hF;simp only at hF2;rw[if_neg (by rw[jC oQ];decide)]at hF2;have fa:(at_.toList==([]:List UInt8))=F:=by rw[aN];exact hF2
     clear hF2;go_enter func166,ntmps166;go_wp2;go_ret;exact⟨rfl,cN.o⟩
    .have fv:(v.toList==([]:List UInt8))=false:=(by rw[aN];exact zV fU);obtain rfl:F=false:=by rw[<-hF];exact pI (by simp only;rw[if_neg (by rw[(ep oQ)];decide)];exact zV fU)
     replace fU:=Hd fU;clear hF;go_enter func166,ntmps166;go_wp2;go_ret;exact⟨rfl,cN.o⟩
   .have hl:cy ⟨3,n,v,at_,-1,-1⟩=F:=(by unfold cy;rw[hF];simp[dg]);rw[hl];clear hl;by_cases hn:¬n=0
    .obtain rfl:F=false:=by rw[<-hF];exact pH (by simp only;rw[if_neg oQ];exact zV oQ)
     have fn:(n==0)=false:=(by rw[xV];exact hn);clear hF;go_enter func166,ntmps166;go_wp2;go_ret;exact⟨rfl,cN.o⟩
    obtain rfl:n=0:=oQ;by_cases fU:v=emp
    .have fv:(v.toList==([]:List UInt8))=true:=(by rw[aN];exact zW fU);have hF2:=(pJ (by simp only;rw[if_neg oQ];first|exact zW trivial |simp) (by simp only;rw[if_neg (by rw[(ep oQ)];decide)];exact zW fU)).symm.trans hF;replace fU:=Hd fU;clear hF;simp only at hF2;rw[if_neg (by rw[jC oQ];decide)]at hF2;have fa:(at_.toList==([]:List UInt8))=F:=by rw[aN];exact hF2
     clear hF2;go_enter func166,ntmps166;go_wp2;go_ret;exact⟨rfl,cN.o⟩
    .have fv:(v.toList==([]:List UInt8))=false:=(by rw[aN];exact zV fU);obtain rfl:F=false:=by rw[<-hF];exact pI (by simp only;rw[if_neg (by rw[(ep oQ)];decide)];exact zV fU)
     replace fU:=Hd fU;clear hF;go_enter func166,ntmps166;go_wp2;go_ret;exact⟨rfl,cN.o⟩
   .have hl:cy ⟨4,n,v,at_,-1,-1⟩=F:=(by unfold cy;rw[hF];simp[dg]);rw[hl];clear hl;by_cases hn:¬n=0
    .obtain rfl:F=false:=by rw[<-hF];exact pH (by simp only;rw[if_neg oQ];exact zV oQ)
     have fn:(n==0)=false:=(by rw[xV];exact hn);clear hF;go_enter func166,ntmps166;go_wp2;go_ret;exact⟨rfl,cN.o⟩
    obtain rfl:n=0:=oQ;cases hi:br v with
    |false=>
     obtain rfl:F=false:=by rw[<-hF];exact pI (by simp only;rw[if_pos (cT oQ oQ)];exact hi)
     replace hi:=Hd hi;clear hF;go_enter func166,ntmps166;go_wp2_with (have _t:=dh;clear dh;go_at_call 125;refine(k1.o v _ hK.o).aR ?_;rw[hi.o]);go_ret;exact⟨rfl,cN.o⟩
    |true=>
     have hF2:=(pJ (by simp only;rw[if_neg oQ];first|exact zW trivial |simp) (by simp only;rw[if_pos (cT oQ oQ)];exact hi)).symm.trans hF;replace hi:=Hd hi;clear hF;simp only at hF2;rw[if_pos (kY oQ oQ oQ)]at hF2;replace hF2:=Hd hF2;go_enter func166,ntmps166;go_wp2_with first
      |(have _t:=dh;clear dh;go_at_call 125;refine(k1.o v _ hK.o).aR ?_;rw[hi.o])
      |(go_at_call 125;refine(k1.o at_ _ hK.o).aR ?_;rw[hF2.o])
     go_ret;exact⟨rfl,cN.o⟩
   .have hl:cy ⟨5,n,v,at_,-1,-1⟩=F:=(by unfold cy;rw[hF];simp[dg]);rw[hl];clear hl;by_cases hn:¬n=0
    .obtain rfl:F=false:=by rw[<-hF];exact pH (by simp only;rw[if_neg oQ];exact zV oQ)
     have fn:(n==0)=false:=(by rw[xV];exact hn);clear hF;go_enter func166,ntmps166;go_wp2;go_ret;exact⟨rfl,cN.o⟩
    obtain rfl:n=0:=oQ;cases hi:br v with
    |false=>
     obtain rfl:F=false:=by rw[<-hF];exact pI (by simp only;rw[if_pos (cT oQ oQ)];exact hi)
     replace hi:=Hd hi;clear hF;go_enter func166,ntmps166;go_wp2_with (have _t:=dh;clear dh;go_at_call 125;refine(k1.o v _ hK.o).aR ?_;rw[hi.o]);go_ret;exact⟨rfl,cN.o⟩
    |true=>
     have hF2:=(pJ (by simp only;rw[if_neg oQ];first|exact zW trivial |simp) (by simp only;rw[if_pos (cT oQ oQ)];exact hi)).symm.trans hF;replace hi:=Hd hi;clear hF;simp only at hF2;rw[if_neg (by rw[jC oQ];decide)]at hF2;have fa:(at_.toList==([]:List UInt8))=F:=by rw[aN];exact hF2
     clear hF2;go_enter func166,ntmps166;go_wp2_with (have _t:=dh;clear dh;go_at_call 125;refine(k1.o v _ hK.o).aR ?_;rw[hi.o]);go_ret;exact⟨rfl,cN.o⟩
   .have hl:cy ⟨6,n,v,at_,-1,-1⟩=F:=(by unfold cy;rw[hF];simp[dg]);rw[hl];clear hl;by_cases hn:¬n=0
    .obtain rfl:F=false:=by rw[<-hF];exact pH (by simp only;rw[if_neg oQ];exact zV oQ)
     have fn:(n==0)=false:=(by rw[xV];exact hn);clear hF;go_enter func166,ntmps166;go_wp2;go_ret;exact⟨rfl,cN.o⟩
    obtain rfl:n=0:=oQ;cases hi:br v with
    |false=>
     obtain rfl:F=false:=by rw[<-hF];exact pI (by simp only;rw[if_pos (cT oQ oQ)];exact hi)
     replace hi:=Hd hi;clear hF;go_enter func166,ntmps166;go_wp2_with (have _t:=dh;clear dh;go_at_call 125;refine(k1.o v _ hK.o).aR ?_;rw[hi.o]);go_ret;exact⟨rfl,cN.o⟩
    |true=>
     have hF2:=(pJ (by simp only;rw[if_neg oQ];first|exact zW trivial |simp) (by simp only;rw[if_pos (cT oQ oQ)];exact hi)).symm.trans hF;replace hi:=Hd hi;clear hF;simp only at hF2;rw[if_pos (kY oQ oQ oQ)]at hF2;replace hF2:=Hd hF2;go_enter func166,ntmps166;go_wp2_with first
      |(have _t:=dh;clear dh;go_at_call 125;refine(k1.o v _ hK.o).aR ?_;rw[hi.o])
      |(go_at_call 125;refine(k1.o at_ _ hK.o).aR ?_;rw[hF2.o])
     go_ret;exact⟨rfl,cN.o⟩
   .have hl:cy ⟨7,n,v,at_,-1,-1⟩=F:=(by unfold cy;rw[hF];simp[dg]);rw[hl];clear hl;by_cases hn:¬n=0
    .obtain rfl:F=false:=by rw[<-hF];exact pH (by simp only;rw[if_neg oQ];exact zV oQ)
     have fn:(n==0)=false:=(by rw[xV];exact hn);clear hF;go_enter func166,ntmps166;go_wp2;go_ret;exact⟨rfl,cN.o⟩
    obtain rfl:n=0:=oQ;cases hi:br v with
    |false=>
     obtain rfl:F=false:=by rw[<-hF];exact pI (by simp only;rw[if_pos (cT oQ oQ)];exact hi)
     replace hi:=Hd hi;clear hF;go_enter func166,ntmps166;go_wp2_with (have _t:=dh;clear dh;go_at_call 125;refine(k1.o v _ hK.o).aR ?_;rw[hi.o]);go_ret;exact⟨rfl,cN.o⟩
    |true=>
     have hF2:=(pJ (by simp only;rw[if_neg oQ];first|exact zW trivial |simp) (by simp only;rw[if_pos (cT oQ oQ)];exact hi)).symm.trans hF;replace hi:=Hd hi;clear hF;simp only at hF2;rw[if_pos (kY oQ oQ oQ)]at hF2;replace hF2:=Hd hF2;go_enter func166,ntmps166;go_wp2_with first
      |(have _t:=dh;clear dh;go_at_call 125;refine(k1.o v _ hK.o).aR ?_;rw[hi.o])
      |(go_at_call 125;refine(k1.o at_ _ hK.o).aR ?_;rw[hF2.o])
     go_ret;exact⟨rfl,cN.o⟩
   .have hl:cy ⟨8,n,v,at_,-1,-1⟩=F:=(by unfold cy;rw[hF];simp[dg]);rw[hl];clear hl;by_cases hn:¬n=0
    .obtain rfl:F=false:=by rw[<-hF];exact pH (by simp only;rw[if_neg oQ];exact zV oQ)
     have fn:(n==0)=false:=(by rw[xV];exact hn);clear hF;go_enter func166,ntmps166;go_wp2;go_ret;exact⟨rfl,cN.o⟩
    obtain rfl:n=0:=oQ;cases hi:br v with
    |false=>
     obtain rfl:F=false:=by rw[<-hF];exact pI (by simp only;rw[if_pos (cT oQ oQ)];exact hi)
     replace hi:=Hd hi;clear hF;go_enter func166,ntmps166;go_wp2_with (have _t:=dh;clear dh;go_at_call 125;refine(k1.o v _ hK.o).aR ?_;rw[hi.o]);go_ret;exact⟨rfl,cN.o⟩
    |true=>
     have hF2:=(pJ (by simp only;rw[if_neg oQ];first|exact zW trivial |simp) (by simp only;rw[if_pos (cT oQ oQ)];exact hi)).symm.trans hF;replace hi:=Hd hi;clear hF;simp only at hF2;rw[if_pos (kY oQ oQ oQ)]at hF2;replace hF2:=Hd hF2;go_enter func166,ntmps166;go_wp2_with first
      |(have _t:=dh;clear dh;go_at_call 125;refine(k1.o v _ hK.o).aR ?_;rw[hi.o])
      |(go_at_call 125;refine(k1.o at_ _ hK.o).aR ?_;rw[hF2.o])
     go_ret;exact⟨rfl,cN.o⟩
   .have hl:cy ⟨9,n,v,at_,-1,-1⟩=F:=(by unfold cy;rw[hF];simp[dg]);rw[hl];clear hl;by_cases hn:¬n=0
    .obtain rfl:F=false:=by rw[<-hF];exact pH (by simp only;rw[if_neg oQ];exact zV oQ)
     have fn:(n==0)=false:=(by rw[xV];exact hn);clear hF;go_enter func166,ntmps166;go_wp2;go_ret;exact⟨rfl,cN.o⟩
    obtain rfl:n=0:=oQ;cases hi:br v with
    |false=>
     obtain rfl:F=false:=by rw[<-hF];exact pI (by simp only;rw[if_pos (cT oQ oQ)];exact hi)
     replace hi:=Hd hi;clear hF;go_enter func166,ntmps166;go_wp2_with (have _t:=dh;clear dh;go_at_call 125;refine(k1.o v _ hK.o).aR ?_;rw[hi.o]);go_ret;exact⟨rfl,cN.o⟩
    |true=>
     have hF2:=(pJ (by simp only;rw[if_neg oQ];first|exact zW trivial |simp) (by simp only;rw[if_pos (cT oQ oQ)];exact hi)).symm.trans hF;replace hi:=Hd hi;clear hF;simp only at hF2;rw[if_pos (kY oQ oQ oQ)]at hF2;replace hF2:=Hd hF2;go_enter func166,ntmps166;go_wp2_with first
      |(have _t:=dh;clear dh;go_at_call 125;refine(k1.o v _ hK.o).aR ?_;rw[hi.o])
      |(go_at_call 125;refine(k1.o at_ _ hK.o).aR ?_;rw[hF2.o])
     go_ret;exact⟨rfl,cN.o⟩
   .have hl:cy ⟨10,n,v,at_,-1,-1⟩=F:=(by unfold cy;rw[hF];simp[dg]);rw[hl];clear hl;by_cases hn:¬n=0
    .obtain rfl:F=false:=by rw[<-hF];exact pH (by simp only;rw[if_neg oQ];exact zV oQ)
     have fn:(n==0)=false:=(by rw[xV];exact hn);clear hF;go_enter func166,ntmps166;go_wp2;go_ret;exact⟨rfl,cN.o⟩
    obtain rfl:n=0:=oQ;cases hi:br v with
    |false=>
     obtain rfl:F=false:=by rw[<-hF];exact pI (by simp only;rw[if_pos (cT oQ oQ)];exact hi)
     replace hi:=Hd hi;clear hF;go_enter func166,ntmps166;go_wp2_with (have _t:=dh;clear dh;go_at_call 125;refine(k1.o v _ hK.o).aR ?_;rw[hi.o]);go_ret;exact⟨rfl,cN.o⟩
    |true=>
     have hF2:=(pJ (by simp only;rw[if_neg oQ];first|exact zW trivial |simp) (by simp only;rw[if_pos (cT oQ oQ)];exact hi)).symm.trans hF;replace hi:=Hd hi;clear hF;simp only at hF2;rw[if_pos (kY oQ oQ oQ)]at hF2;replace hF2:=Hd hF2;go_enter func166,ntmps166;go_wp2_with first
      |(have _t:=dh;clear dh;go_at_call 125;refine(k1.o v _ hK.o).aR ?_;rw[hi.o])
      |(go_at_call 125;refine(k1.o at_ _ hK.o).aR ?_;rw[hF2.o])
     go_ret;exact⟨rfl,cN.o⟩
   .have hl:cy ⟨11,n,v,at_,-1,-1⟩=F:=(by unfold cy;rw[hF];simp[dg]);rw[hl];clear hl;by_cases hn:¬n=0
    .obtain rfl:F=false:=by rw[<-hF];exact pH (by simp only;rw[if_neg oQ];exact zV oQ)
     have fn:(n==0)=false:=(by rw[xV];exact hn);clear hF;go_enter func166,ntmps166;go_wp2;go_ret;exact⟨rfl,cN.o⟩
    obtain rfl:n=0:=oQ;cases hi:br v with
    |false=>
     obtain rfl:F=false:=by rw[<-hF];exact pI (by simp only;rw[if_pos (cT oQ oQ)];exact hi)
     replace hi:=Hd hi;clear hF;go_enter func166,ntmps166;go_wp2_with (have _t:=dh;clear dh;go_at_call 125;refine(k1.o v _ hK.o).aR ?_;rw[hi.o]);go_ret;exact⟨rfl,cN.o⟩
    |true=>
     have hF2:=(pJ (by simp only;rw[if_neg oQ];first|exact zW trivial |simp) (by simp only;rw[if_pos (cT oQ oQ)];exact hi)).symm.trans hF;replace hi:=Hd hi;clear hF;simp only at hF2;rw[if_pos (kY oQ oQ oQ)]at hF2;replace hF2:=Hd hF2;go_enter func166,ntmps166;go_wp2_with first
      |(have _t:=dh;clear dh;go_at_call 125;refine(k1.o v _ hK.o).aR ?_;rw[hi.o])
      |(go_at_call 125;refine(k1.o at_ _ hK.o).aR ?_;rw[hF2.o])
     go_ret;exact⟨rfl,cN.o⟩
  .have hl:cy ⟨op,n,v,at_,a,b⟩=false:=by unfold cy;simp[hb]
   have fb:(b== -1)=false:=by rw[xV];exact hb
   subst ha;rw[hl];clear hl;go_enter func166,ntmps166;go_wp2;go_ret;exact⟨rfl,cN.o⟩
 .have hl:cy ⟨op,n,v,at_,a,b⟩=false:=by unfold cy;simp[ha]
  have fa:(a== -1)=false:=by rw[xV];exact ha
  rw[hl];clear hl;go_enter func166,ntmps166;go_wp2;go_ret;exact⟨rfl,cN.o⟩
theorem Yh (o w):Cl 167 #[.int .i64 o] w λe w'=>e=.returned (.bool (fm o))/\w'=w:=by
 by_cases h1:o=12
 .subst h1;go_enter func167,ntmps167;go_wp2;go_ret;exact⟨rfl,rfl⟩
 .have hl:fm o=(o==13):=by unfold fm;rw[zV h1,Bool.false_or];by_cases h:o=13<;>simp[h]
  have f1:(o==12)=false:=by rw[xV];exact h1
  rw[hl];clear hl;go_enter func167,ntmps167;go_wp2;go_ret;exact⟨rfl,rfl⟩
theorem Yi (o w):Cl 168 #[.int .i64 o] w λe w'=>e=.returned (.bool (gD o))/\w'=w:=by
 by_cases h1:14<=o
 .have hl:gD o=decide (o<=26):=by unfold gD;rw[zW h1,xE]
  rw[hl];clear hl;go_enter func168,ntmps168;go_wp2;go_ret;exact⟨rfl,rfl⟩
 .have hl:gD o=false:=by unfold gD;rw[zV h1];rfl
  rw[hl];clear hl;go_enter func168,ntmps168;go_wp2;go_ret;exact⟨rfl,rfl⟩
end dR
