/- The program's Tree, walked. -/
import Derived.Test.YthaabihjeomipaaGreatDoorQD1
namespace Go.Proofs.YthaabihjeomipaaGreatDoor
set_option maxRecDepth 100000
set_option maxHeartbeats 16000000
open Go.RowKit Go.Deep
set_option linter.unusedVariables false
set_option linter.unusedSimpArgs false
namespace ckW
open nmW
theorem tree_k (A:Option Addr)(c:Nat)(F:Nat→Prop)(t:List Nd)(hs:SzN t)(w:World)(hK:KwIs w)(hF:∀b,F b→b<w.heap.size)(r:Rd w F (.slice A t.length c) (.sl t.length (t.flatMap ndD))):
  Calls Tryz.prog 75 #[.slice A t.length c] w fun e w'=>e=.returned (.bool (treeB t))∧Bw w w':=by
 have k1:=Hd operands_k;have hct:=fun A hA n cap m hm W=>run_cut (P:=Tryz.prog) elInt (A:=A) hA n cap m hm W
 obtain⟨hs1,hs2⟩:=hs;have h0:=Hd (show TI t w w 0 [] (.slice none 0 0) from ⟨zE _,sJ,bR,.nil _ _ _ _ _,rfl⟩);replace hs2:=Hd hs2;replace hct:=Hd hct;have r':=Hd r;replace hF:=Hd hF;replace hK:=Hd hK;clear r;go_enter Tryz.func75,Tryz.ntmps75;go_wp2;go_loopw [3,4,5,6,7,8,11] (fun x _ _ _ _ _ y wr=>TkRel t w x y wr) (fun _ _ _ _ _ _ y _=>t.length- (intOf y).toNat)
 case atStart=>exact .mk 0 [] rfl h0.out
 case round=>
  obtain⟨i,stk,hy,hT⟩:=hrel;subst hy;obtain⟨A2,c2,hv⟩:=hT.ol.form;by_cases hlt:i<t.length
  ·obtain⟨x,hx⟩:=getx hlt;obtain⟨zv,za⟩:=hs2.out x (zA hx);obtain⟨bb,off,rfl,hFb,z0,z1,z2,z3,z4,z5⟩:=nd_at (r'.out.under hT.hb hF.out) hx;have kf:∀W,Bw w W→Calls Tryz.prog 120 #[.agg ⟨ndV x⟩] W fun e w'=>e=.returned (.bool (fieldsB x))∧Bw W w':=fun W hW=>fields_k x W (hK.out.stay hW) zv za
   obtain⟨op,n,v,at_,a,b⟩:=x;simp only[ndV]at kf z0 z1 z2 z3 z4 z5;replace kf:=Hd kf;have g0:(0:Int)≤(i:Int):=oQ;have g1:(i:Int)<t.length:=oQ;have hol0:=hT.ol;rw[hv]at hol0;have hcap:=hol0.cap;have haddr:=hol0.addr;clear hol0;clear zv za;have cs:arI op= -1∧isLf op=false∧isUn op=false∧isBi op=false∨arI op=0∧isLf op=true∨arI op=1∧isLf op=false∧isUn op=true∨arI op=2∧isLf op=false∧isUn op=false∧isBi op=true:=by
    unfold arI;cases isLf op<;>cases isUn op<;>cases isBi op<;>simp
   rcases cs with⟨hk,hc1,hc2,hc3⟩|⟨hk,hcl⟩|⟨hk,hc1,hcl⟩|⟨hk,hc1,hc2,hcl⟩
   ·subst hv;have hdead:=hT.dead hx (by unfold stepT;simp only;rw[hc1,hc2,hc3];simp);replace hT:=Hd hT;replace hx:=Hd hx;go_wp2_with first
     |(go_at_call 119;refine(k1.out op _).mono ?_;rw[hk];rintro e W0 ⟨rfl,hW0⟩;obtain rfl:=hW0.symm)
    go_ret;exact⟨by rw[hdead];rfl,(hT.out.hb.alloc hT.out.hb.size _)⟩
   ·obtain⟨n0,hn0⟩:∃n0,n0=stk.length:=⟨_,rfl⟩
    rw[←hn0]at hv hcap;subst hv;replace hn0:=Hd hn0;have hsc:=hct.out A2 haddr n0 c2 n0 oQ;have q0:¬(n0:Int)<0:=oQ;cases hf:fieldsB ⟨op,n,v,at_,a,b⟩with
    |false=>
     have hdead:=Hd (hT.dead hx (by unfold stepT;rw[if_pos hf]));replace hf:=Hd hf;replace hT:=Hd hT;replace hx:=Hd hx;go_wp2_with first
      |(go_at_call 119;refine(k1.out op _).mono ?_;rw[hk];rintro e W0 ⟨rfl,hW0⟩;obtain rfl:=hW0.symm)
      |(go_at_call 120;refine(kf.out _ (hT.out.hb.alloc hT.out.hb.size _)).mono ?_;rw[hf.out];rintro e W ⟨rfl,hW⟩)
     go_ret;exact⟨by rw[hdead.out];rfl,hT.out.hb.trans (((bA).trans (hW.mono sJ)).mono hT.out.hb.size)⟩
    |true=>
     have hf':=Hd hf;replace hf:=Hd hf;have hT':=hT;replace hT:=Hd hT;go_upto_region 14 with first
      |(go_at_call 119;refine(k1.out op _).mono ?_;rw[hk];rintro e W0 ⟨rfl,hW0⟩;obtain rfl:=hW0.symm)
      |(go_at_call 120;refine(kf.out _ (hT.out.hb.alloc hT.out.hb.size _)).mono ?_;rw[hf.out];rintro e W ⟨rfl,hW⟩)
     have hWb:Bw wr W:=(bA).trans (hW.mono sJ);have hxb:Blk W wr.heap.size 96 [.int .i64 op,.int .i64 n,.string v,.string at_,.int .i64 a,.int .i64 b]:=(Blk.new _ _ _).stay hW;have x4:W.cell? ⟨wr.heap.size,4,none⟩=some (.int .i64 a):=hxb.cell 4;have x5:W.cell? ⟨wr.heap.size,5,none⟩=some (.int .i64 b):=hxb.cell 5;by_cases ha:a=(-1)
     ·have fa:(a==(-1))=true:=(by rw[beq_iff_eq];exact ha);by_cases hb:b=(-1)
      ·have fb:(b==(-1))=true:=(by rw[beq_iff_eq];exact hb);have hlive:=hT'.live hx (stk':=(i,i)::stk) (by unfold stepT;rw[if_neg (by rw[hf'.out];decide)];simp only;rw[if_pos hcl,if_pos ⟨ha,hb⟩]);have hown:OL (W.alloc (.cells ⟨[.int .i64 i]⟩ 3)) w.heap.size NoF 3 1 (.slice A2 n0 c2) n0 ((stk.reverse.map rtD).take (n0*1)):=((by have h:=hT'.ol.stay hWb;rw[show(stk).length=n0 by simp[hn0.out]]at h;exact h:OL W w.heap.size NoF 3 1 (.slice A2 (n0) c2) (n0) (stk.reverse.map rtD)).trunc (m:=n0) oQ).alloc _;have hup:=fun(v':Value)(w3:World) hg hO=>hT'.push (o:=.cells ⟨[.int .i64 i]⟩ 3) (w2:=W) (w3:=w3) (v':=v') (m:=n0) (stk':=(i,i)::stk) hlt hWb (by simp[hn0.out];try omega) hg hO (by simp[hn0.out]) (by rw[xH (by simp[hn0.out])];simp[rtD]) hlive
       have hsz2:=hWb.size;have hsz1:=hT'.hb.size;have hli:n0≤i:=by
        have h:=hT'.hl;have h2:=hn0.out;try simp only[List.length_cons]at h
        omega
       replace hown:=Hd hown;replace hup:=Hd hup;replace hlive:=Hd hlive;replace ha:=Hd ha;replace hb:=Hd hb;replace hx:=Hd hx;clear hT' hWb hxb hW;go_wp2_with (at_builtin;refine wpa rfl (.tmp 70) (.tmp 72) _ rfl (m:=1) (news:=[rtD (0,i)]) elInt hown.out rfl rfl (Src.lit (show RdL W _ [.int .i64 i] [rtD (0,i)]from⟨.v _ rfl,trivial⟩)) rfl oQ oQ (by simp;omega) ?_;intro v' w1 hO1 hg1 ha1;obtain⟨B3,d3,rfl⟩:=hO1.form;have hT3:=Hd (hup.out _ _ hg1 hO1);clear hO1 hg1 ha1);go_roundw
       case rel=>exact .mk (i+1) _ gQ hT3.out
       case measure=>exact mQ
      ·have fb:(b==(-1))=false:=(by rw[xV];exact hb);have hdead:=Hd (hT'.dead hx (by unfold stepT;rw[if_neg (by rw[hf'.out];decide)];simp only;rw[if_pos hcl,if_neg (fun h=>hb h.2)]));have hBf:=Hd (hT'.hb.trans (hWb.mono hT'.hb.size));replace hx:=Hd hx;clear hT' hWb hxb hW;go_wp2;go_ret;exact⟨by rw[hdead.out];rfl,hBf.out⟩
     ·have fa:(a==(-1))=false:=(by rw[xV];exact ha);have hdead:=Hd (hT'.dead hx (by unfold stepT;rw[if_neg (by rw[hf'.out];decide)];simp only;rw[if_pos hcl,if_neg (fun h=>ha h.1)]));have hBf:=Hd (hT'.hb.trans (hWb.mono hT'.hb.size));replace hx:=Hd hx;clear hT' hWb hxb hW;go_wp2;go_ret;exact⟨by rw[hdead.out];rfl,hBf.out⟩
   ·have hcl1:¬isLf op=true:=(by rw[hc1];decide);cases stk with
    |nil=>
     subst hv;have hdead:=hT.dead hx (by unfold stepT;simp only;rw[hc1,hcl];simp);replace hT:=Hd hT;replace hx:=Hd hx;go_wp2_with first
      |(go_at_call 119;refine(k1.out op _).mono ?_;rw[hk];rintro e W0 ⟨rfl,hW0⟩;obtain rfl:=hW0.symm)
     go_ret;exact⟨by rw[hdead];rfl,(hT.out.hb.alloc hT.out.hb.size _)⟩
    |cons p0 s=>
     obtain⟨b0,r0⟩:=p0;obtain⟨n0,hn0⟩:∃n0,n0=s.length:=⟨_,rfl⟩
     rw[List.length_cons,←hn0]at hv;subst hv;replace hn0:=Hd hn0;have hn2:n0≤1048576:=by
      have h1:=hT.hl;have h2:=hn0.out;rw[List.length_cons]at h1;omega
     have hsc:=hct.out A2 haddr (n0+1) c2 n0 (by have h2:=hn0.out;simp at hcap;omega);obtain⟨g,cap',e',_⟩:=hT.ol.row sJ;injection e' with e1 e2 e3
     subst e1;clear e2 e3;have hrow:∀W,Bw wr W→∀(k:Nat)(p:Nat×Nat),((b0,r0)::s).reverse[k]? =some p→W.cell? ⟨g,k,none⟩=some (.int .i64 (p.2:Nat)):=fun W hW k p hp=>by
      obtain⟨g',cap2,e'',_,_,_,hcell⟩:=(hT.ol.stay hW).row sJ;injection e'' with e1 _ _
      injection e1 with e1
      injection e1 with e1 _
      subst e1;obtain⟨u,hu,hr⟩:=hcell k (rtD p) (by rw[zG,hp];rfl);rw[hr.v_inv]at hu;exact hu
     replace hrow:=Hd hrow;have q0:¬(1:Int)>((n0:Int)+1):=oQ;have q1:¬((n0:Int)+1<1):=oQ;cases hf:fieldsB ⟨op,n,v,at_,a,b⟩with
     |false=>
      have hdead:=Hd (hT.dead hx (by unfold stepT;rw[if_pos hf]));replace hf:=Hd hf;replace hT:=Hd hT;replace hx:=Hd hx;go_wp2_with first
       |(go_at_call 119;refine(k1.out op _).mono ?_;rw[hk];rintro e W0 ⟨rfl,hW0⟩;obtain rfl:=hW0.symm)
       |(go_at_call 120;refine(kf.out _ (hT.out.hb.alloc hT.out.hb.size _)).mono ?_;rw[hf.out];rintro e W ⟨rfl,hW⟩)
      go_ret;exact⟨by rw[hdead.out];rfl,hT.out.hb.trans (((bA).trans (hW.mono sJ)).mono hT.out.hb.size)⟩
     |true=>
      have hf':=Hd hf;replace hf:=Hd hf;have hT':=hT;replace hT:=Hd hT;go_upto_region 11 with first
       |(go_at_call 119;refine(k1.out op _).mono ?_;rw[hk];rintro e W0 ⟨rfl,hW0⟩;obtain rfl:=hW0.symm)
       |(go_at_call 120;refine(kf.out _ (hT.out.hb.alloc hT.out.hb.size _)).mono ?_;rw[hf.out];rintro e W ⟨rfl,hW⟩)
      have hWb:Bw wr W:=(bA).trans (hW.mono sJ);have hxb:Blk W wr.heap.size 96 [.int .i64 op,.int .i64 n,.string v,.string at_,.int .i64 a,.int .i64 b]:=(Blk.new _ _ _).stay hW;have y1:W.cell? ⟨g,n0,none⟩=some (.int .i64 (r0:Nat)):=hrow.out W hWb n0 (b0,r0) (by simp[hn0.out]);have q5:(0:Int)≤(n0:Int):=oQ;have q6:(n0:Int)<(n0:Int)+1:=oQ;clear hW;go_upto_region 14 with fail
      have x4:W.cell? ⟨wr.heap.size,4,none⟩=some (.int .i64 a):=hxb.cell 4;have x5:W.cell? ⟨wr.heap.size,5,none⟩=some (.int .i64 b):=hxb.cell 5;by_cases ha:a=(r0:Int)
      ·have fa:(a==(r0:Int))=true:=(by rw[beq_iff_eq];exact ha);by_cases hb:b=(-1)
       ·have fb:(b==(-1))=true:=(by rw[beq_iff_eq];exact hb);have hlive:=hT'.live hx (stk':=(b0,i)::s) (by unfold stepT;rw[if_neg (by rw[hf'.out];decide)];simp only;rw[if_neg hcl1,if_pos hcl,if_pos ⟨ha,hb⟩]);have hown:OL (W.alloc (.cells ⟨[.int .i64 i]⟩ 3)) w.heap.size NoF 3 1 (.slice (some ⟨g,0,none⟩) n0 c2) n0 ((((b0,r0)::s).reverse.map rtD).take (n0*1)):=((by have h:=hT'.ol.stay hWb;rw[show(((b0,r0)::s)).length=n0+1 by simp[hn0.out]]at h;exact h:OL W w.heap.size NoF 3 1 (.slice (some ⟨g,0,none⟩) (n0+1) c2) (n0+1) (((b0,r0)::s).reverse.map rtD)).trunc (m:=n0) oQ).alloc _;have hup:=fun(v':Value)(w3:World) hg hO=>hT'.push (o:=.cells ⟨[.int .i64 i]⟩ 3) (w2:=W) (w3:=w3) (v':=v') (m:=n0) (stk':=(b0,i)::s) hlt hWb (by simp[hn0.out];try omega) hg hO (by simp[hn0.out]) (by simp[hn0.out,rtD]) hlive
        have hsz2:=hWb.size;have hsz1:=hT'.hb.size;have hli:n0≤i:=by
         have h:=hT'.hl;have h2:=hn0.out;try simp only[List.length_cons]at h
         omega
        replace hown:=Hd hown;replace hup:=Hd hup;replace hlive:=Hd hlive;replace ha:=Hd ha;replace hb:=Hd hb;replace hx:=Hd hx;clear hT' hWb hxb;go_wp2_with (at_builtin;refine wpa rfl (.tmp 70) (.tmp 72) _ rfl (m:=1) (news:=[rtD (0,i)]) elInt hown.out rfl rfl (Src.lit (show RdL W _ [.int .i64 i] [rtD (0,i)]from⟨.v _ rfl,trivial⟩)) rfl oQ oQ (by simp;omega) ?_;intro v' w1 hO1 hg1 ha1;obtain⟨B3,d3,rfl⟩:=hO1.form;have hT3:=Hd (hup.out _ _ hg1 hO1);clear hO1 hg1 ha1);go_roundw
        case rel=>exact .mk (i+1) _ gQ hT3.out
        case measure=>exact mQ
       ·have fb:(b==(-1))=false:=(by rw[xV];exact hb);have hdead:=Hd (hT'.dead hx (by unfold stepT;rw[if_neg (by rw[hf'.out];decide)];simp only;rw[if_neg hcl1,if_pos hcl,if_neg (fun h=>hb h.2)]));have hBf:=Hd (hT'.hb.trans (hWb.mono hT'.hb.size));replace hx:=Hd hx;clear hT' hWb hxb;go_wp2;go_ret;exact⟨by rw[hdead.out];rfl,hBf.out⟩
      ·have fa:(a==(r0:Int))=false:=(by rw[xV];exact ha);have hdead:=Hd (hT'.dead hx (by unfold stepT;rw[if_neg (by rw[hf'.out];decide)];simp only;rw[if_neg hcl1,if_pos hcl,if_neg (fun h=>ha h.1)]));have hBf:=Hd (hT'.hb.trans (hWb.mono hT'.hb.size));replace hx:=Hd hx;clear hT' hWb hxb;go_wp2;go_ret;exact⟨by rw[hdead.out];rfl,hBf.out⟩
   ·have hcl1:¬isLf op=true:=(by rw[hc1];decide);have hcl2:¬isUn op=true:=by rw[hc2];decide
    cases stk with
    |nil=>
     subst hv;have hdead:=hT.dead hx (by unfold stepT;simp only;rw[hc1,hc2,hcl];simp);replace hT:=Hd hT;replace hx:=Hd hx;go_wp2_with first
      |(go_at_call 119;refine(k1.out op _).mono ?_;rw[hk];rintro e W0 ⟨rfl,hW0⟩;obtain rfl:=hW0.symm)
     go_ret;exact⟨by rw[hdead];rfl,(hT.out.hb.alloc hT.out.hb.size _)⟩
    |cons p1 s0=>
     cases s0 with
     |nil=>
      subst hv;have hdead:=hT.dead hx (by unfold stepT;simp only;rw[hc1,hc2,hcl];simp);replace hT:=Hd hT;replace hx:=Hd hx;go_wp2_with first
       |(go_at_call 119;refine(k1.out op _).mono ?_;rw[hk];rintro e W0 ⟨rfl,hW0⟩;obtain rfl:=hW0.symm)
      go_ret;exact⟨by rw[hdead];rfl,(hT.out.hb.alloc hT.out.hb.size _)⟩
     |cons p2 s=>
      obtain⟨b1,r1⟩:=p1;obtain⟨b2,r2⟩:=p2;obtain⟨n0,hn0⟩:∃n0,n0=s.length:=⟨_,rfl⟩
      rw[List.length_cons,List.length_cons,←hn0]at hv;subst hv;replace hn0:=Hd hn0;have hn2:n0≤1048576:=by
       have h1:=hT.hl;have h2:=hn0.out;rw[List.length_cons,List.length_cons]at h1;omega
      have hsc:∀W,(Instr.slice 62 (.slice A2 (n0+1+1) c2) none (some (.int .i64 ((n0:Int)+1+1-2))) none).run Tryz.prog W=.ok (.slice A2 n0 c2) W:=fun W=>by
       rw[show((n0:Int)+1+1-2)=(n0:Int) by omega];exact hct.out A2 haddr (n0+1+1) c2 n0 (by have h2:=hn0.out;simp at hcap;omega) W
      obtain⟨g,cap',e',_⟩:=hT.ol.row sJ;injection e' with e1 e2 e3
      subst e1;clear e2 e3;have hrow:∀W,Bw wr W→∀(k:Nat)(p:Nat×Nat),((b1,r1)::(b2,r2)::s).reverse[k]? =some p→W.cell? ⟨g,k,none⟩=some (.int .i64 (p.2:Nat)):=fun W hW k p hp=>by
       obtain⟨g',cap2,e'',_,_,_,hcell⟩:=(hT.ol.stay hW).row sJ;injection e'' with e1 _ _
       injection e1 with e1
       injection e1 with e1 _
       subst e1;obtain⟨u,hu,hr⟩:=hcell k (rtD p) (by rw[zG,hp];rfl);rw[hr.v_inv]at hu;exact hu
      replace hrow:=Hd hrow;have q1:¬((n0:Int)+1+1<2):=oQ;cases hf:fieldsB ⟨op,n,v,at_,a,b⟩with
      |false=>
       have hdead:=Hd (hT.dead hx (by unfold stepT;rw[if_pos hf]));replace hf:=Hd hf;replace hT:=Hd hT;replace hx:=Hd hx;go_wp2_with first
        |(go_at_call 119;refine(k1.out op _).mono ?_;rw[hk];rintro e W0 ⟨rfl,hW0⟩;obtain rfl:=hW0.symm)
        |(go_at_call 120;refine(kf.out _ (hT.out.hb.alloc hT.out.hb.size _)).mono ?_;rw[hf.out];rintro e W ⟨rfl,hW⟩)
       go_ret;exact⟨by rw[hdead.out];rfl,hT.out.hb.trans (((bA).trans (hW.mono sJ)).mono hT.out.hb.size)⟩
      |true=>
       have hf':=Hd hf;replace hf:=Hd hf;have hT':=hT;replace hT:=Hd hT;go_upto_region 13 with first
        |(go_at_call 119;refine(k1.out op _).mono ?_;rw[hk];rintro e W0 ⟨rfl,hW0⟩;obtain rfl:=hW0.symm)
        |(go_at_call 120;refine(kf.out _ (hT.out.hb.alloc hT.out.hb.size _)).mono ?_;rw[hf.out];rintro e W ⟨rfl,hW⟩)
       have hWb:Bw wr W:=(bA).trans (hW.mono sJ);have hxb:Blk W wr.heap.size 96 [.int .i64 op,.int .i64 n,.string v,.string at_,.int .i64 a,.int .i64 b]:=(Blk.new _ _ _).stay hW;have y1:W.cell? ⟨g,n0+1,none⟩=some (.int .i64 (r1:Nat)):=hrow.out W hWb (n0+1) (b1,r1) (by simp[hn0.out]);have y2:W.cell? ⟨g,n0,none⟩=some (.int .i64 (r2:Nat)):=hrow.out W hWb n0 (b2,r2) (by simp[hn0.out]);have q5:(0:Int)≤(n0:Int):=oQ;have q6:(n0:Int)<(n0:Int)+1+1:=oQ;have q7:(0:Int)≤(n0:Int)+1:=oQ;have q8:(n0:Int)+1<(n0:Int)+1+1:=oQ;clear hW;go_quiet (fail);replace hxb:=hxb.drewN nq;replace hWb:=below_drewN hWb nq;generalize W.drewN nq=W2 at*;clear y1 y2;have x4:W2.cell? ⟨wr.heap.size,4,none⟩=some (.int .i64 a):=hxb.cell 4;have x5:W2.cell? ⟨wr.heap.size,5,none⟩=some (.int .i64 b):=hxb.cell 5;by_cases ha:a=(r2:Int)
       ·have fa:(a==(r2:Int))=true:=(by rw[beq_iff_eq];exact ha);by_cases hb:b=(r1:Int)
        ·have fb:(b==(r1:Int))=true:=(by rw[beq_iff_eq];exact hb);have hlive:=hT'.live hx (stk':=(b2,i)::s) (by unfold stepT;rw[if_neg (by rw[hf'.out];decide)];simp only;rw[if_neg hcl1,if_neg hcl2,if_pos hcl,if_pos ⟨ha,hb⟩]);have hown:OL (W2.alloc (.cells ⟨[.int .i64 i]⟩ 3)) w.heap.size NoF 3 1 (.slice (some ⟨g,0,none⟩) n0 c2) n0 ((((b1,r1)::(b2,r2)::s).reverse.map rtD).take (n0*1)):=((by have h:=hT'.ol.stay hWb;rw[show(((b1,r1)::(b2,r2)::s)).length=n0+1+1 by simp[hn0.out]]at h;exact h:OL W2 w.heap.size NoF 3 1 (.slice (some ⟨g,0,none⟩) (n0+1+1) c2) (n0+1+1) (((b1,r1)::(b2,r2)::s).reverse.map rtD)).trunc (m:=n0) oQ).alloc _;have hup:=fun(v':Value)(w3:World) hg hO=>hT'.push (o:=.cells ⟨[.int .i64 i]⟩ 3) (w2:=W2) (w3:=w3) (v':=v') (m:=n0) (stk':=(b2,i)::s) hlt hWb (by simp[hn0.out];try omega) hg hO (by simp[hn0.out]) (by simp[hn0.out,rtD]) hlive
         have hsz2:=hWb.size;have hsz1:=hT'.hb.size;have hli:n0≤i:=by
          have h:=hT'.hl;have h2:=hn0.out;try simp only[List.length_cons]at h
          omega
         replace hown:=Hd hown;replace hup:=Hd hup;replace hlive:=Hd hlive;replace ha:=Hd ha;replace hb:=Hd hb;replace hx:=Hd hx;clear hT' hWb hxb;go_wp2_with (at_builtin;refine wpa rfl (.tmp 70) (.tmp 72) _ rfl (m:=1) (news:=[rtD (0,i)]) elInt hown.out rfl rfl (Src.lit (show RdL W2 _ [.int .i64 i] [rtD (0,i)]from⟨.v _ rfl,trivial⟩)) rfl oQ oQ (by simp;omega) ?_;intro v' w1 hO1 hg1 ha1;obtain⟨B3,d3,rfl⟩:=hO1.form;have hT3:=Hd (hup.out _ _ hg1 hO1);clear hO1 hg1 ha1);go_roundw
         case rel=>exact .mk (i+1) _ gQ hT3.out
         case measure=>exact mQ
        ·have fb:(b==(r1:Int))=false:=(by rw[xV];exact hb);have hdead:=Hd (hT'.dead hx (by unfold stepT;rw[if_neg (by rw[hf'.out];decide)];simp only;rw[if_neg hcl1,if_neg hcl2,if_pos hcl,if_neg (fun h=>hb h.2)]));have hBf:=Hd (hT'.hb.trans (hWb.mono hT'.hb.size));replace hx:=Hd hx;clear hT' hWb hxb;go_wp2;go_ret;exact⟨by rw[hdead.out];rfl,hBf.out⟩
       ·have fa:(a==(r2:Int))=false:=(by rw[xV];exact ha);have hdead:=Hd (hT'.dead hx (by unfold stepT;rw[if_neg (by rw[hf'.out];decide)];simp only;rw[if_neg hcl1,if_neg hcl2,if_pos hcl,if_neg (fun h=>ha h.1)]));have hBf:=Hd (hT'.hb.trans (hWb.mono hT'.hb.size));replace hx:=Hd hx;clear hT' hWb hxb;go_wp2;go_ret;exact⟨by rw[hdead.out];rfl,hBf.out⟩
  ·subst hv;have hi:=hT.hi;obtain rfl:i=t.length:=oQ;have g1:¬(t.length:Int)<t.length:=oQ;have he:=hT.eq;rw[List.drop_length]at he;have hP:(((stk.length:Int)==1)=treeB t):=by
    unfold treeB;rw[he];match stk with
    | []=>rfl
    | [_]=>rfl
    |_::_::s=>simp[runT];omega
   have hBf:=Hd hT.hb;clear hT he;go_wp2;go_ret;exact⟨by rw[←hP];rfl,hBf.out⟩
end ckW
structure Sl3 where
 a1:Option Addr
 c1:Nat
 a2:Option Addr
 c2:Nat
 a3:Option Addr
 c3:Nat
def qV (q:Qy)(s:Sl3):List Value:=[.slice s.a1 q.items.length s.c1,.int .i64 q.mode,.int .i64 q.after,.slice s.a2 q.wh.length s.c2,.int .i64 q.within,.string q.by_,.slice s.a3 q.ret.length s.c3]
structure QR (w:World)(F:Nat→Prop)(q:Qy)(s:Sl3):Prop where
 r1:Rd w F (.slice s.a1 q.items.length s.c1) (.sl q.items.length (q.items.flatMap itD))
 r2:Rd w F (.slice s.a2 q.wh.length s.c2) (.sl q.wh.length (q.wh.flatMap ndD))
 r3:Rd w F (.slice s.a3 q.ret.length s.c3) (.sl q.ret.length (q.ret.flatMap reD))
 lt:∀b,F b→b<w.heap.size
theorem QR.under {w w':World}{F:Nat→Prop}{q:Qy}{s:Sl3}(h:QR w F q s)(hb:Bw w w'):QR w' F q s:=
 ⟨h.r1.under hb h.lt,h.r2.under hb h.lt,h.r3.under hb h.lt,fun b hb'=>zF (h.lt b hb') hb.size⟩
def QB (q:Qy)(s:Sl3)(w wr:World):Prop:=Bw w wr∧Blk wr w.heap.size 31 (qV q s)
theorem QB.stay {q:Qy}{s:Sl3}{w wr W:World}(h:QB q s w wr)(hb:Bw wr W):QB q s w W:=⟨h.1.trans (hb.mono h.1.size),h.2.stay hb⟩
theorem QB.new (q:Qy)(s:Sl3)(w:World):QB q s w (w.alloc (.cells ⟨qV q s⟩ 31)):=⟨bA,Blk.new _ _ _⟩
theorem QB.cells {q:Qy}{s:Sl3}{w wr:World}(h:QB q s w wr):wr.cell? ⟨w.heap.size,0,none⟩=some (.slice s.a1 q.items.length s.c1)∧wr.cell? ⟨w.heap.size,1,none⟩=some (.int .i64 q.mode)∧wr.cell? ⟨w.heap.size,2,none⟩=some (.int .i64 q.after)∧
  wr.cell? ⟨w.heap.size,3,none⟩=some (.slice s.a2 q.wh.length s.c2)∧wr.cell? ⟨w.heap.size,4,none⟩=some (.int .i64 q.within)∧wr.cell? ⟨w.heap.size,5,none⟩=some (.string q.by_)∧wr.cell? ⟨w.heap.size,6,none⟩=some (.slice s.a3 q.ret.length s.c3):=
 ⟨h.2.cell 0,h.2.cell 1,h.2.cell 2,h.2.cell 3,h.2.cell 4,h.2.cell 5,h.2.cell 6⟩
namespace ckW
open nmW
theorem shaped_k (q:Qy)(s:Sl3)(F:Nat→Prop)(hs:SzQ q)(w:World)(hK:KwIs w)(R:QR w F q s):
  Calls Tryz.prog 67 #[.agg ⟨qV q s⟩] w fun e w'=>e=.returned (.bool (shapedB q))∧Bw w w':=by
 have k1:=Hd isName_k;have k2:=Hd shapedItem_k;have k3:=Hd tree_k;have h0:=QB.new q s w;obtain⟨sb,hsb⟩:∃b,b=shapedB q:=⟨_,rfl⟩
 rw[←hsb];unfold shapedB at hsb;obtain⟨A1,c1,A2,c2,A3,c3⟩:=s;simp only[qV]at h0 ⊢;have n1:q.items.length≤1048576:=hs.il;have n2:q.wh.length≤1048576:=hs.wh.1;have n3:q.ret.length≤1048576:=hs.rl;replace hs:=Hd hs;replace hK:=Hd hK;replace R:=Hd R;replace h0:=Hd h0;by_cases p0:q.items.length=0
 ·have d:decide (0<q.items.length)=false:=zV oQ;rw[d,Bool.false_and]at hsb;clear d;replace hsb:=Hd hsb;have f0:((q.items.length:Int)==0)=true:=by rw[beq_iff_eq];omega
  replace p0:=Hd p0;go_enter Tryz.func67,Tryz.ntmps67;go_wp2;go_ret;exact⟨rtB hsb.out.symm,h0.out.1⟩
 have f0:((q.items.length:Int)==0)=false:=by rw[xV];omega
 rw[zW (show 0<q.items.length by omega),xE]at hsb;replace p0:=Hd p0;by_cases p1:q.mode<0
 ·have d:decide (0≤q.mode)=false:=zV oQ;rw[d,Bool.false_and]at hsb;clear d;replace hsb:=Hd hsb;go_enter Tryz.func67,Tryz.ntmps67;go_wp2;go_ret;exact⟨rtB hsb.out.symm,h0.out.1⟩
 rw[zW (show 0≤q.mode by omega),xE]at hsb;by_cases p2:2<q.mode
 ·have d:decide (q.mode≤2)=false:=zV oQ;rw[d,Bool.false_and]at hsb;clear d;replace hsb:=Hd hsb;go_enter Tryz.func67,Tryz.ntmps67;go_wp2;go_ret;exact⟨rtB hsb.out.symm,h0.out.1⟩
 rw[zW (show q.mode≤2 by omega),xE]at hsb;by_cases p3:q.after<0
 ·have d:decide (0≤q.after)=false:=zV oQ;rw[d,Bool.false_and]at hsb;clear d;replace hsb:=Hd hsb;go_enter Tryz.func67,Tryz.ntmps67;go_wp2;go_ret;exact⟨rtB hsb.out.symm,h0.out.1⟩
 rw[zW (show 0≤q.after by omega),xE]at hsb;by_cases p4:3<q.after
 ·have d:decide (q.after≤3)=false:=zV oQ;rw[d,Bool.false_and]at hsb;clear d;replace hsb:=Hd hsb;go_enter Tryz.func67,Tryz.ntmps67;go_wp2;go_ret;exact⟨rtB hsb.out.symm,h0.out.1⟩
 rw[zW (show q.after≤3 by omega),xE]at hsb;by_cases p5:q.within<0
 ·have d:decide (0≤q.within)=false:=zV oQ;rw[d,Bool.false_and]at hsb;clear d;replace hsb:=Hd hsb;go_enter Tryz.func67,Tryz.ntmps67;go_wp2;go_ret;exact⟨rtB hsb.out.symm,h0.out.1⟩
 rw[zW (show 0≤q.within by omega),xE]at hsb;replace hsb:=Hd hsb;go_enter Tryz.func67,Tryz.ntmps67;go_wp2;clear p1 p2 p3 p4 p5;go_loopw [39] (fun i wr=>∃j:Nat,j≤q.items.length∧i=.int .i64 j∧QB q ⟨A1,c1,A2,c2,A3,c3⟩ w wr∧Hid ((q.items.take j).all itemB=true)) (fun i _=>q.items.length- (intOf i).toNat)
 case atStart=>exact⟨0,zE _,rfl,h0.out,rfl⟩
 case round=>
  clear h0;obtain⟨j,hj,rfl,hI,hp⟩:=hrel;by_cases hlt:j<q.items.length
  ·obtain⟨x,hx⟩:=getx hlt;obtain⟨b,off,B2,d2,e,_,rx,a0,a1,a2,a3,a4⟩:=it_at (R.out.under hI.1).r1 hx;simp only at e;subst e;have g0:(0:Int)≤(j:Int):=oQ;have g1:(j:Int)<q.items.length:=oQ;have hI2:=hI.stay (bX (.cells ⟨itV x (.slice B2 x.tys.length d2)⟩ 53));have kx:=k2.out x B2 d2 F (hs.out.it x (zA hx)) _ (hK.out.stay hI2.1) (R.out.under hI2.1).lt (rx.alloc _);simp only[itV]at kx hI2;replace hx:=Hd hx;replace rx:=Hd rx;replace hI:=Hd hI;replace hI2:=Hd hI2;cases hb:itemB x with
   |false=>
    rw[hb]at kx;have hfin:sb=false:=by rw[hsb.out,all_fail hx.out hb];rfl
    replace hb:=Hd hb;replace kx:=Hd kx;replace hfin:=Hd hfin;go_wp2_with (go_at_call 111;refine kx.out.mono ?_;rintro e W ⟨rfl,hW⟩;replace hW:=Hd (hI2.out.stay hW));go_ret;exact⟨rtB hfin.out.symm,hW.out.1⟩
   |true=>
    rw[hb]at kx;have hp2:=Hd (all_next hx.out hp.out hb);replace hb:=Hd hb;replace kx:=Hd kx;go_wp2_with (go_at_call 111;refine kx.out.mono ?_;rintro e W ⟨rfl,hW⟩;replace hW:=Hd (hI2.out.stay hW));go_roundw
    case rel=>exact⟨j+1,oQ,gQ,hW.out,hp2⟩
    case measure=>exact mQ
  ·obtain rfl:j=q.items.length:=oQ;have g1:¬(q.items.length:Int)<q.items.length:=oQ;have hsb1:sb=((decide (q.wh.length=0)||treeB q.wh)&&((decide (q.by_=emp)||isNm q.by_)&&q.ret.all treeB)):=by rw[hsb.out,all_end hp.out,xE]
   clear hsb hp hlt hj;obtain⟨_,_,_,y3,_,y5,y6⟩:=hI.cells;simp only at y3 y5 y6;have kt:=k3.out A2 c2 F q.wh hs.out.wh wr (hK.out.stay hI.1) (R.out.under hI.1).lt (R.out.under hI.1).r2;obtain⟨tb,htb⟩:∃b,b=treeB q.wh:=⟨_,rfl⟩
   rw[←htb]at kt hsb1;replace htb:=Hd htb;replace kt:=Hd kt;obtain⟨nb,hnb⟩:∃b,b=isNm q.by_:=⟨_,rfl⟩
   have kn:∀W,QB q ⟨A1,c1,A2,c2,A3,c3⟩ w W→Calls Tryz.prog 108 #[.string q.by_] W fun e w'=>e=.returned (.bool nb)∧Bw W w':=fun W hW=>by rw[hnb];exact k1.out _ W (hK.out.stay hW.1) hs.out.by_
   rw[←hnb]at hsb1;replace hnb:=Hd hnb;replace kn:=Hd kn;obtain⟨ob,hob⟩:∃b,b=((decide (q.wh.length=0)||tb)&&(decide (q.by_=emp)||nb)):=⟨_,rfl⟩
   have hsb2:sb=(ob&&q.ret.all treeB):=by rw[hsb1,hob,Bool.and_assoc]
   replace hsb2:=Hd hsb2;clear hsb1;have hI0:=Hd hI;replace hI:=Hd hI;go_upto_region 9 with fail
   go_cut [67] (fun s7 wx=>s7=.bool (!ob)∧QB q ⟨A1,c1,A2,c2,A3,c3⟩ w wx)
   case first=>
    by_cases h3:q.wh.length=0
    ·have h3i:¬0<(q.wh.length:Int):=oQ;have h3n:¬0<q.wh.length:=oQ;rw[zW h3,Bool.true_or,xE]at hob;replace h3:=Hd h3;by_cases h5:q.by_=emp
     ·have f5:(q.by_.toList==([]:List UInt8))=true:=(by rw[emp_eq];exact zW h5);have f5n:(q.by_.toList != ([]:List UInt8))=false:=by rw[bne,f5];rfl
      have ho:ob=true:=(by rw[hob,zW h5];simp);clear hob;subst ho;replace h5:=Hd h5;go_wp2_with first
       |(go_at_call 75;refine kt.out.mono ?_;rintro e W ⟨rfl,hW⟩;replace hI:=Hd (hI.out.stay hW);clear hW;obtain⟨_,_,_,_,_,y5,y6⟩:=hI.out.cells;simp only at y5 y6)
       |(go_at_call 108;refine(kn.out _ hI.out).mono ?_;rintro e W2 ⟨rfl,hW⟩;replace hI:=Hd (hI.out.stay hW);clear hW)
      all_goals(go_meet;exact⟨rfl,hI.out⟩)
     ·have f5:(q.by_.toList==([]:List UInt8))=false:=(by rw[emp_eq];exact zV h5);have f5n:(q.by_.toList != ([]:List UInt8))=true:=by rw[bne,f5];rfl
      have ho:ob=nb:=(by rw[hob,zV h5];simp);clear hob;subst ho;replace h5:=Hd h5;cases ob with
      |true=>
       go_wp2_with first
        |(go_at_call 75;refine kt.out.mono ?_;rintro e W ⟨rfl,hW⟩;replace hI:=Hd (hI.out.stay hW);clear hW;obtain⟨_,_,_,_,_,y5,y6⟩:=hI.out.cells;simp only at y5 y6)
        |(go_at_call 108;refine(kn.out _ hI.out).mono ?_;rintro e W2 ⟨rfl,hW⟩;replace hI:=Hd (hI.out.stay hW);clear hW)
       all_goals(go_meet;exact⟨rfl,hI.out⟩)
      |false=>
       go_wp2_with first
        |(go_at_call 75;refine kt.out.mono ?_;rintro e W ⟨rfl,hW⟩;replace hI:=Hd (hI.out.stay hW);clear hW;obtain⟨_,_,_,_,_,y5,y6⟩:=hI.out.cells;simp only at y5 y6)
        |(go_at_call 108;refine(kn.out _ hI.out).mono ?_;rintro e W2 ⟨rfl,hW⟩;replace hI:=Hd (hI.out.stay hW);clear hW)
       all_goals(go_meet;exact⟨rfl,hI.out⟩)
    ·have h3i:0<(q.wh.length:Int):=oQ;have h3n:0<q.wh.length:=oQ;cases tb with
     |false=>
      have ho:ob=false:=(by rw[hob,zV h3];rfl);clear hob;subst ho;replace h3:=Hd h3;go_wp2_with first
       |(go_at_call 75;refine kt.out.mono ?_;rintro e W ⟨rfl,hW⟩;replace hI:=Hd (hI.out.stay hW);clear hW;obtain⟨_,_,_,_,_,y5,y6⟩:=hI.out.cells;simp only at y5 y6)
       |(go_at_call 108;refine(kn.out _ hI.out).mono ?_;rintro e W2 ⟨rfl,hW⟩;replace hI:=Hd (hI.out.stay hW);clear hW)
      all_goals(go_meet;exact⟨rfl,hI.out⟩)
     |true=>
      rw[zV h3,Bool.false_or,xE]at hob;replace h3:=Hd h3;by_cases h5:q.by_=emp
      ·have f5:(q.by_.toList==([]:List UInt8))=true:=(by rw[emp_eq];exact zW h5);have f5n:(q.by_.toList != ([]:List UInt8))=false:=by rw[bne,f5];rfl
       have ho:ob=true:=(by rw[hob,zW h5];simp);clear hob;subst ho;replace h5:=Hd h5;go_wp2_with first
        |(go_at_call 75;refine kt.out.mono ?_;rintro e W ⟨rfl,hW⟩;replace hI:=Hd (hI.out.stay hW);clear hW;obtain⟨_,_,_,_,_,y5,y6⟩:=hI.out.cells;simp only at y5 y6)
        |(go_at_call 108;refine(kn.out _ hI.out).mono ?_;rintro e W2 ⟨rfl,hW⟩;replace hI:=Hd (hI.out.stay hW);clear hW)
       all_goals(go_meet;exact⟨rfl,hI.out⟩)
      ·have f5:(q.by_.toList==([]:List UInt8))=false:=(by rw[emp_eq];exact zV h5);have f5n:(q.by_.toList != ([]:List UInt8))=true:=by rw[bne,f5];rfl
       have ho:ob=nb:=(by rw[hob,zV h5];simp);clear hob;subst ho;replace h5:=Hd h5;cases ob with
       |true=>
        go_wp2_with first
         |(go_at_call 75;refine kt.out.mono ?_;rintro e W ⟨rfl,hW⟩;replace hI:=Hd (hI.out.stay hW);clear hW;obtain⟨_,_,_,_,_,y5,y6⟩:=hI.out.cells;simp only at y5 y6)
         |(go_at_call 108;refine(kn.out _ hI.out).mono ?_;rintro e W2 ⟨rfl,hW⟩;replace hI:=Hd (hI.out.stay hW);clear hW)
        all_goals(go_meet;exact⟨rfl,hI.out⟩)
       |false=>
        go_wp2_with first
         |(go_at_call 75;refine kt.out.mono ?_;rintro e W ⟨rfl,hW⟩;replace hI:=Hd (hI.out.stay hW);clear hW;obtain⟨_,_,_,_,_,y5,y6⟩:=hI.out.cells;simp only at y5 y6)
         |(go_at_call 108;refine(kn.out _ hI.out).mono ?_;rintro e W2 ⟨rfl,hW⟩;replace hI:=Hd (hI.out.stay hW);clear hW)
        all_goals(go_meet;exact⟨rfl,hI.out⟩)
   case rest=>
    obtain⟨rfl,hI⟩:=hcut;clear y3 y5 y6 hI0 hob;obtain⟨_,_,_,_,_,_,y6⟩:=hI.cells;simp only at y6;cases ob with
    |false=>
     rw[Bool.false_and]at hsb2;replace hI:=Hd hI;go_wp2;go_ret;exact⟨rtB hsb2.out.symm,hI.out.1⟩
    |true=>
     rw[xE]at hsb2;replace hI:=Hd hI;go_wp2;clear y6;go_loopw [71] (fun i wr=>∃j:Nat,j≤q.ret.length∧i=.int .i64 j∧QB q ⟨A1,c1,A2,c2,A3,c3⟩ w wr∧Hid ((q.ret.take j).all treeB=true)) (fun i _=>q.ret.length- (intOf i).toNat)
     case atStart=>exact⟨0,zE _,rfl,hI.out,rfl⟩
     case round=>
      clear hI;obtain⟨j,hj,rfl,hI,hp⟩:=hrel;by_cases hlt:j<q.ret.length
      ·obtain⟨x,hx⟩:=getx hlt;obtain⟨b,off,B2,d2,e,_,rx,a0⟩:=re_at (R.out.under hI.1).r3 hx;simp only at e;subst e;have g0:(0:Int)≤(j:Int):=oQ;have g1:(j:Int)<q.ret.length:=oQ;have kx:=k3.out B2 d2 F x (hs.out.re x (zA hx)) _ (hK.out.stay hI.1) (R.out.under hI.1).lt rx;replace hx:=Hd hx;replace rx:=Hd rx;replace hI:=Hd hI;cases hb:treeB x with
       |false=>
        rw[hb]at kx;have hfin:sb=false:=by rw[hsb2.out,all_fail hx.out hb]
        replace hb:=Hd hb;replace kx:=Hd kx;replace hfin:=Hd hfin;go_wp2_with (go_at_call 75;refine kx.out.mono ?_;rintro e W ⟨rfl,hW⟩;replace hW:=Hd (hI.out.stay hW));go_ret;exact⟨rtB hfin.out.symm,hW.out.1⟩
       |true=>
        rw[hb]at kx;have hp2:=Hd (all_next hx.out hp.out hb);replace hb:=Hd hb;replace kx:=Hd kx;go_wp2_with (go_at_call 75;refine kx.out.mono ?_;rintro e W ⟨rfl,hW⟩;replace hW:=Hd (hI.out.stay hW));go_roundw
        case rel=>exact⟨j+1,oQ,gQ,hW.out,hp2⟩
        case measure=>exact mQ
      ·obtain rfl:j=q.ret.length:=oQ;have g1:¬(q.ret.length:Int)<q.ret.length:=oQ;have hfin:sb=true:=by rw[hsb2.out,all_end hp.out]
       replace hfin:=Hd hfin;replace hI:=Hd hI;go_wp2;go_ret;exact⟨rtB hfin.out.symm,hI.out.1⟩
end ckW
end Go.Proofs.YthaabihjeomipaaGreatDoor
