/- The program's Tree, walked. -/
import Derived.Test.YtfiodnlgiglhfaaGreatDoorC2
namespace Go.Proofs.YtfiodnlgiglhfaaGreatDoor
set_option maxRecDepth 100000
set_option maxHeartbeats 16000000
open Go.RowKit Go.Deep
set_option linter.unusedVariables false
set_option linter.unusedSimpArgs false
namespace ckW
open nmW
theorem tree_k (A:Option Addr)(c:Nat)(F:Nat→Prop)(t:List Nd)(hs:SzN t)(w:World)(hK:KwIs w)(hF:∀b,F b→b<w.heap.size)(r:Rd w F (.slice A t.length c) (.sl t.length (t.flatMap ndD))):
  Calls Tryz.prog 70 #[.slice A t.length c] w fun e w'=>e=.returned (.bool (treeB t))∧Bw w w':=by
 have k1:=Hd operands_k;have hct:=fun A hA n cap m hm W=>run_cut (P:=Tryz.prog) elInt (A:=A) hA n cap m hm W
 obtain⟨hs1,hs2⟩:=hs;have h0:=Hd (show TI t w w 0 [] (.slice none 0 0) from ⟨zE _,by simp,bR,.nil _ _ _ _ _,rfl⟩);replace hs2:=Hd hs2;replace hct:=Hd hct;have r':=Hd r;replace hF:=Hd hF;replace hK:=Hd hK;clear r;go_enter Tryz.func70,Tryz.ntmps70;go_wp2;go_loopw [3,4,5,6,7,8,11] (fun x _ _ _ _ _ y wr=>TkRel t w x y wr) (fun _ _ _ _ _ _ y _=>t.length- (intOf y).toNat)
 case atStart=>exact .mk 0 [] rfl h0.out
 case round=>
  obtain⟨i,stk,hy,hT⟩:=hrel;subst hy;obtain⟨A2,c2,hv⟩:=hT.ol.form;by_cases hlt:i<t.length
  ·obtain⟨x,hx⟩:=getx hlt;obtain⟨zv,za⟩:=hs2.out x (zA hx);obtain⟨bb,off,rfl,hFb,z0,z1,z2,z3,z4,z5⟩:=nd_at (r'.out.under hT.hb hF.out) hx;have kf:∀W,Bw w W→Calls Tryz.prog 120 #[.agg ⟨ndV x⟩] W fun e w'=>e=.returned (.bool (fieldsB x))∧Bw W w':=fun W hW=>fields_k x W (hK.out.stay hW) zv za
   obtain⟨op,n,v,at_,a,b⟩:=x;simp only[ndV]at kf z0 z1 z2 z3 z4 z5;replace kf:=Hd kf;have g0:(0:Int)≤(i:Int):=by omega
   have g1:(i:Int)<t.length:=by omega
   have hol0:=hT.ol;rw[hv]at hol0;have hcap:=hol0.cap;have haddr:=hol0.addr;clear hol0;clear zv za;have cs:arI op= -1∧isLf op=false∧isUn op=false∧isBi op=false∨arI op=0∧isLf op=true∨arI op=1∧isLf op=false∧isUn op=true∨arI op=2∧isLf op=false∧isUn op=false∧isBi op=true:=by
    unfold arI;cases isLf op<;>cases isUn op<;>cases isBi op<;>simp
   rcases cs with⟨hk,hc1,hc2,hc3⟩|⟨hk,hcl⟩|⟨hk,hc1,hcl⟩|⟨hk,hc1,hc2,hcl⟩
   ·subst hv;have hdead:=hT.dead hx (by unfold stepT;simp only;rw[hc1,hc2,hc3];simp);replace hT:=Hd hT;replace hx:=Hd hx;go_wp2_with first
     |(go_at_call 119;refine(k1.out op _).mono ?_;rw[hk];rintro e W0 ⟨rfl,hW0⟩;obtain rfl:=hW0.symm)
    go_ret;exact⟨by rw[hdead];rfl,(hT.out.hb.alloc hT.out.hb.size _)⟩
   ·obtain⟨n0,hn0⟩:∃n0,n0=stk.length:=⟨_,rfl⟩
    rw[←hn0]at hv hcap;subst hv;replace hn0:=Hd hn0;have hsc:=hct.out A2 haddr n0 c2 n0 (by omega);have q0:¬(n0:Int)<0:=by omega
    cases hf:fieldsB ⟨op,n,v,at_,a,b⟩with
    |false=>
     have hdead:=Hd (hT.dead hx (by unfold stepT;rw[if_pos hf]));replace hf:=Hd hf;replace hT:=Hd hT;replace hx:=Hd hx;go_wp2_with first
      |(go_at_call 119;refine(k1.out op _).mono ?_;rw[hk];rintro e W0 ⟨rfl,hW0⟩;obtain rfl:=hW0.symm)
      |(go_at_call 120;refine(kf.out _ (hT.out.hb.alloc hT.out.hb.size _)).mono ?_;rw[hf.out];rintro e W ⟨rfl,hW⟩)
     go_ret;exact⟨by rw[hdead.out];rfl,hT.out.hb.trans (((bA).trans (hW.mono (by simp))).mono hT.out.hb.size)⟩
    |true=>
     have hf':=Hd hf;replace hf:=Hd hf;have hT':=hT;replace hT:=Hd hT;go_upto_region 14 with first
      |(go_at_call 119;refine(k1.out op _).mono ?_;rw[hk];rintro e W0 ⟨rfl,hW0⟩;obtain rfl:=hW0.symm)
      |(go_at_call 120;refine(kf.out _ (hT.out.hb.alloc hT.out.hb.size _)).mono ?_;rw[hf.out];rintro e W ⟨rfl,hW⟩)
     have hWb:Bw wr W:=(bA).trans (hW.mono (by simp));have hxb:Blk W wr.heap.size 81 [.int .i64 op,.int .i64 n,.string v,.string at_,.int .i64 a,.int .i64 b]:=(Blk.new _ _ _).stay hW;have x4:W.cell? ⟨wr.heap.size,4,none⟩=some (.int .i64 a):=hxb.cell 4;have x5:W.cell? ⟨wr.heap.size,5,none⟩=some (.int .i64 b):=hxb.cell 5;by_cases ha:a=(-1)
     ·have fa:(a==(-1))=true:=(by rw[beq_iff_eq];exact ha);by_cases hb:b=(-1)
      ·have fb:(b==(-1))=true:=(by rw[beq_iff_eq];exact hb);have hlive:=hT'.live hx (stk':=(i,i)::stk) (by unfold stepT;rw[if_neg (by rw[hf'.out];decide)];simp only;rw[if_pos hcl,if_pos ⟨ha,hb⟩]);have hown:OL (W.alloc (.cells ⟨[.int .i64 i]⟩ 3)) w.heap.size NoF 3 1 (.slice A2 n0 c2) n0 ((stk.reverse.map rtD).take (n0*1)):=((by have h:=hT'.ol.stay hWb;rw[show(stk).length=n0 by simp[hn0.out]]at h;exact h:OL W w.heap.size NoF 3 1 (.slice A2 (n0) c2) (n0) (stk.reverse.map rtD)).trunc (m:=n0) (by omega)).alloc _;have hup:=fun(v':Value)(w3:World) hg hO=>hT'.push (o:=.cells ⟨[.int .i64 i]⟩ 3) (w2:=W) (w3:=w3) (v':=v') (m:=n0) (stk':=(i,i)::stk) hlt hWb (by simp[hn0.out];try omega) hg hO (by simp[hn0.out]) (by rw[xH (by simp[hn0.out])];simp[rtD]) hlive
       have hsz2:=hWb.size;have hsz1:=hT'.hb.size;have hli:n0≤i:=by
        have h:=hT'.hl;have h2:=hn0.out;try simp only[List.length_cons]at h
        omega
       replace hown:=Hd hown;replace hup:=Hd hup;replace hlive:=Hd hlive;replace ha:=Hd ha;replace hb:=Hd hb;replace hx:=Hd hx;clear hT' hWb hxb hW;go_wp2_with (at_builtin;refine wpa rfl (.tmp 70) (.tmp 72) _ rfl (m:=1) (news:=[rtD (0,i)]) elInt hown.out rfl rfl (Src.lit (show RdL W _ [.int .i64 i] [rtD (0,i)]from⟨.v _ rfl,trivial⟩)) rfl (by omega) (by omega) (by simp;omega) ?_;intro v' w1 hO1 hg1 ha1;obtain⟨B3,d3,rfl⟩:=hO1.form;have hT3:=Hd (hup.out _ _ hg1 hO1);clear hO1 hg1 ha1);go_roundw
       case rel=>exact .mk (i+1) _ (by go_num) hT3.out
       case measure=>simp[intOf];omega
      ·have fb:(b==(-1))=false:=(by rw[xV];exact hb);have hdead:=Hd (hT'.dead hx (by unfold stepT;rw[if_neg (by rw[hf'.out];decide)];simp only;rw[if_pos hcl,if_neg (fun h=>hb h.2)]));have hBf:=Hd (hT'.hb.trans (hWb.mono hT'.hb.size));replace hx:=Hd hx;clear hT' hWb hxb hW;go_wp2;go_ret;exact⟨by rw[hdead.out];rfl,hBf.out⟩
     ·have fa:(a==(-1))=false:=(by rw[xV];exact ha);have hdead:=Hd (hT'.dead hx (by unfold stepT;rw[if_neg (by rw[hf'.out];decide)];simp only;rw[if_pos hcl,if_neg (fun h=>ha h.1)]));have hBf:=Hd (hT'.hb.trans (hWb.mono hT'.hb.size));replace hx:=Hd hx;clear hT' hWb hxb hW;go_wp2;go_ret;exact⟨by rw[hdead.out];rfl,hBf.out⟩
   ·have hcl1:¬isLf op=true:=(by rw[hc1];decide);cases stk with
    |nil=>
     subst hv;have hdead:=hT.dead hx (by unfold stepT;simp only;rw[hc1,hcl];simp);replace hT:=Hd hT;replace hx:=Hd hx;go_wp2_with first
      |(go_at_call 119;refine(k1.out op _).mono ?_;rw[hk];rintro e W0 ⟨rfl,hW0⟩;obtain rfl:=hW0.symm)
     go_ret;exact⟨by rw[hdead];rfl,(hT.out.hb.alloc hT.out.hb.size _)⟩
    |cons p0 s=>
     obtain⟨b0,r0⟩:=p0;obtain⟨n0,hn0⟩:∃n0,n0=s.length:=⟨_,rfl⟩
     rw[List.length_cons,←hn0]at hv;subst hv;replace hn0:=Hd hn0;have hn2:n0≤1048576:=by
      have h1:=hT.hl;have h2:=hn0.out;rw[List.length_cons]at h1;omega
     have hsc:=hct.out A2 haddr (n0+1) c2 n0 (by have h2:=hn0.out;simp at hcap;omega);obtain⟨g,cap',e',_⟩:=hT.ol.row (by simp);injection e' with e1 e2 e3
     subst e1;clear e2 e3;have hrow:∀W,Bw wr W→∀(k:Nat)(p:Nat×Nat),((b0,r0)::s).reverse[k]? =some p→W.cell? ⟨g,k,none⟩=some (.int .i64 (p.2:Nat)):=fun W hW k p hp=>by
      obtain⟨g',cap2,e'',_,_,_,hcell⟩:=(hT.ol.stay hW).row (by simp);injection e'' with e1 _ _
      injection e1 with e1
      injection e1 with e1 _
      subst e1;obtain⟨u,hu,hr⟩:=hcell k (rtD p) (by rw[zG,hp];rfl);rw[hr.v_inv]at hu;exact hu
     replace hrow:=Hd hrow;have q0:¬(1:Int)>((n0:Int)+1):=by omega
     have q1:¬((n0:Int)+1<1):=(by omega);cases hf:fieldsB ⟨op,n,v,at_,a,b⟩with
     |false=>
      have hdead:=Hd (hT.dead hx (by unfold stepT;rw[if_pos hf]));replace hf:=Hd hf;replace hT:=Hd hT;replace hx:=Hd hx;go_wp2_with first
       |(go_at_call 119;refine(k1.out op _).mono ?_;rw[hk];rintro e W0 ⟨rfl,hW0⟩;obtain rfl:=hW0.symm)
       |(go_at_call 120;refine(kf.out _ (hT.out.hb.alloc hT.out.hb.size _)).mono ?_;rw[hf.out];rintro e W ⟨rfl,hW⟩)
      go_ret;exact⟨by rw[hdead.out];rfl,hT.out.hb.trans (((bA).trans (hW.mono (by simp))).mono hT.out.hb.size)⟩
     |true=>
      have hf':=Hd hf;replace hf:=Hd hf;have hT':=hT;replace hT:=Hd hT;go_upto_region 11 with first
       |(go_at_call 119;refine(k1.out op _).mono ?_;rw[hk];rintro e W0 ⟨rfl,hW0⟩;obtain rfl:=hW0.symm)
       |(go_at_call 120;refine(kf.out _ (hT.out.hb.alloc hT.out.hb.size _)).mono ?_;rw[hf.out];rintro e W ⟨rfl,hW⟩)
      have hWb:Bw wr W:=(bA).trans (hW.mono (by simp));have hxb:Blk W wr.heap.size 81 [.int .i64 op,.int .i64 n,.string v,.string at_,.int .i64 a,.int .i64 b]:=(Blk.new _ _ _).stay hW;have y1:W.cell? ⟨g,n0,none⟩=some (.int .i64 (r0:Nat)):=hrow.out W hWb n0 (b0,r0) (by simp[hn0.out]);have q5:(0:Int)≤(n0:Int):=by omega
      have q6:(n0:Int)<(n0:Int)+1:=(by omega);clear hW;go_upto_region 14 with fail
      have x4:W.cell? ⟨wr.heap.size,4,none⟩=some (.int .i64 a):=hxb.cell 4;have x5:W.cell? ⟨wr.heap.size,5,none⟩=some (.int .i64 b):=hxb.cell 5;by_cases ha:a=(r0:Int)
      ·have fa:(a==(r0:Int))=true:=(by rw[beq_iff_eq];exact ha);by_cases hb:b=(-1)
       ·have fb:(b==(-1))=true:=(by rw[beq_iff_eq];exact hb);have hlive:=hT'.live hx (stk':=(b0,i)::s) (by unfold stepT;rw[if_neg (by rw[hf'.out];decide)];simp only;rw[if_neg hcl1,if_pos hcl,if_pos ⟨ha,hb⟩]);have hown:OL (W.alloc (.cells ⟨[.int .i64 i]⟩ 3)) w.heap.size NoF 3 1 (.slice (some ⟨g,0,none⟩) n0 c2) n0 ((((b0,r0)::s).reverse.map rtD).take (n0*1)):=((by have h:=hT'.ol.stay hWb;rw[show(((b0,r0)::s)).length=n0+1 by simp[hn0.out]]at h;exact h:OL W w.heap.size NoF 3 1 (.slice (some ⟨g,0,none⟩) (n0+1) c2) (n0+1) (((b0,r0)::s).reverse.map rtD)).trunc (m:=n0) (by omega)).alloc _;have hup:=fun(v':Value)(w3:World) hg hO=>hT'.push (o:=.cells ⟨[.int .i64 i]⟩ 3) (w2:=W) (w3:=w3) (v':=v') (m:=n0) (stk':=(b0,i)::s) hlt hWb (by simp[hn0.out];try omega) hg hO (by simp[hn0.out]) (by simp[hn0.out,rtD]) hlive
        have hsz2:=hWb.size;have hsz1:=hT'.hb.size;have hli:n0≤i:=by
         have h:=hT'.hl;have h2:=hn0.out;try simp only[List.length_cons]at h
         omega
        replace hown:=Hd hown;replace hup:=Hd hup;replace hlive:=Hd hlive;replace ha:=Hd ha;replace hb:=Hd hb;replace hx:=Hd hx;clear hT' hWb hxb;go_wp2_with (at_builtin;refine wpa rfl (.tmp 70) (.tmp 72) _ rfl (m:=1) (news:=[rtD (0,i)]) elInt hown.out rfl rfl (Src.lit (show RdL W _ [.int .i64 i] [rtD (0,i)]from⟨.v _ rfl,trivial⟩)) rfl (by omega) (by omega) (by simp;omega) ?_;intro v' w1 hO1 hg1 ha1;obtain⟨B3,d3,rfl⟩:=hO1.form;have hT3:=Hd (hup.out _ _ hg1 hO1);clear hO1 hg1 ha1);go_roundw
        case rel=>exact .mk (i+1) _ (by go_num) hT3.out
        case measure=>simp[intOf];omega
       ·have fb:(b==(-1))=false:=(by rw[xV];exact hb);have hdead:=Hd (hT'.dead hx (by unfold stepT;rw[if_neg (by rw[hf'.out];decide)];simp only;rw[if_neg hcl1,if_pos hcl,if_neg (fun h=>hb h.2)]));have hBf:=Hd (hT'.hb.trans (hWb.mono hT'.hb.size));replace hx:=Hd hx;clear hT' hWb hxb;go_wp2;go_ret;exact⟨by rw[hdead.out];rfl,hBf.out⟩
      ·have fa:(a==(r0:Int))=false:=(by rw[xV];exact ha);have hdead:=Hd (hT'.dead hx (by unfold stepT;rw[if_neg (by rw[hf'.out];decide)];simp only;rw[if_neg hcl1,if_pos hcl,if_neg (fun h=>ha h.1)]));have hBf:=Hd (hT'.hb.trans (hWb.mono hT'.hb.size));replace hx:=Hd hx;clear hT' hWb hxb;go_wp2;go_ret;exact⟨by rw[hdead.out];rfl,hBf.out⟩
   ·have hcl1:¬isLf op=true:=(by rw[hc1];decide);have hcl2:¬isUn op=true:=by rw[hc2];decide
    cases stk with
    |nil=>
     subst hv;have hdead:=hT.dead hx (by unfold stepT;simp only;rw[hc1,hc2,hcl];simp);replace hT:=Hd hT;replace hx:=Hd hx;go_wp2_with first
      |(go_at_call 119;refine(k1.out op _).mono ?_;rw[hk];rintro e W0 ⟨rfl,hW0⟩;obtain rfl:=hW0.symm)
     go_ret;exact⟨by rw[hdead];rfl,(hT.out.hb.alloc hT.out.hb.size _)⟩
    |cons p1 s0=>
     cases s0 with
     |nil=>
      subst hv;have hdead:=hT.dead hx (by unfold stepT;simp only;rw[hc1,hc2,hcl];simp);replace hT:=Hd hT;replace hx:=Hd hx;go_wp2_with first
       |(go_at_call 119;refine(k1.out op _).mono ?_;rw[hk];rintro e W0 ⟨rfl,hW0⟩;obtain rfl:=hW0.symm)
      go_ret;exact⟨by rw[hdead];rfl,(hT.out.hb.alloc hT.out.hb.size _)⟩
     |cons p2 s=>
      obtain⟨b1,r1⟩:=p1;obtain⟨b2,r2⟩:=p2;obtain⟨n0,hn0⟩:∃n0,n0=s.length:=⟨_,rfl⟩
      rw[List.length_cons,List.length_cons,←hn0]at hv;subst hv;replace hn0:=Hd hn0;have hn2:n0≤1048576:=by
       have h1:=hT.hl;have h2:=hn0.out;rw[List.length_cons,List.length_cons]at h1;omega
      have hsc:∀W,(Instr.slice 82 (.slice A2 (n0+1+1) c2) none (some (.int .i64 ((n0:Int)+1+1-2))) none).run Tryz.prog W=.ok (.slice A2 n0 c2) W:=fun W=>by
       rw[show((n0:Int)+1+1-2)=(n0:Int) by omega];exact hct.out A2 haddr (n0+1+1) c2 n0 (by have h2:=hn0.out;simp at hcap;omega) W
      obtain⟨g,cap',e',_⟩:=hT.ol.row (by simp);injection e' with e1 e2 e3
      subst e1;clear e2 e3;have hrow:∀W,Bw wr W→∀(k:Nat)(p:Nat×Nat),((b1,r1)::(b2,r2)::s).reverse[k]? =some p→W.cell? ⟨g,k,none⟩=some (.int .i64 (p.2:Nat)):=fun W hW k p hp=>by
       obtain⟨g',cap2,e'',_,_,_,hcell⟩:=(hT.ol.stay hW).row (by simp);injection e'' with e1 _ _
       injection e1 with e1
       injection e1 with e1 _
       subst e1;obtain⟨u,hu,hr⟩:=hcell k (rtD p) (by rw[zG,hp];rfl);rw[hr.v_inv]at hu;exact hu
      replace hrow:=Hd hrow;have q1:¬((n0:Int)+1+1<2):=by omega
      cases hf:fieldsB ⟨op,n,v,at_,a,b⟩with
      |false=>
       have hdead:=Hd (hT.dead hx (by unfold stepT;rw[if_pos hf]));replace hf:=Hd hf;replace hT:=Hd hT;replace hx:=Hd hx;go_wp2_with first
        |(go_at_call 119;refine(k1.out op _).mono ?_;rw[hk];rintro e W0 ⟨rfl,hW0⟩;obtain rfl:=hW0.symm)
        |(go_at_call 120;refine(kf.out _ (hT.out.hb.alloc hT.out.hb.size _)).mono ?_;rw[hf.out];rintro e W ⟨rfl,hW⟩)
       go_ret;exact⟨by rw[hdead.out];rfl,hT.out.hb.trans (((bA).trans (hW.mono (by simp))).mono hT.out.hb.size)⟩
      |true=>
       have hf':=Hd hf;replace hf:=Hd hf;have hT':=hT;replace hT:=Hd hT;go_upto_region 13 with first
        |(go_at_call 119;refine(k1.out op _).mono ?_;rw[hk];rintro e W0 ⟨rfl,hW0⟩;obtain rfl:=hW0.symm)
        |(go_at_call 120;refine(kf.out _ (hT.out.hb.alloc hT.out.hb.size _)).mono ?_;rw[hf.out];rintro e W ⟨rfl,hW⟩)
       have hWb:Bw wr W:=(bA).trans (hW.mono (by simp));have hxb:Blk W wr.heap.size 81 [.int .i64 op,.int .i64 n,.string v,.string at_,.int .i64 a,.int .i64 b]:=(Blk.new _ _ _).stay hW;have y1:W.cell? ⟨g,n0+1,none⟩=some (.int .i64 (r1:Nat)):=hrow.out W hWb (n0+1) (b1,r1) (by simp[hn0.out]);have y2:W.cell? ⟨g,n0,none⟩=some (.int .i64 (r2:Nat)):=hrow.out W hWb n0 (b2,r2) (by simp[hn0.out]);have q5:(0:Int)≤(n0:Int):=by omega
       have q6:(n0:Int)<(n0:Int)+1+1:=(by omega);have q7:(0:Int)≤(n0:Int)+1:=by omega
       have q8:(n0:Int)+1<(n0:Int)+1+1:=(by omega);clear hW;go_quiet (fail);replace hxb:=hxb.drewN nq;replace hWb:=below_drewN hWb nq;generalize W.drewN nq=W2 at*;clear y1 y2;have x4:W2.cell? ⟨wr.heap.size,4,none⟩=some (.int .i64 a):=hxb.cell 4;have x5:W2.cell? ⟨wr.heap.size,5,none⟩=some (.int .i64 b):=hxb.cell 5;by_cases ha:a=(r2:Int)
       ·have fa:(a==(r2:Int))=true:=(by rw[beq_iff_eq];exact ha);by_cases hb:b=(r1:Int)
        ·have fb:(b==(r1:Int))=true:=(by rw[beq_iff_eq];exact hb);have hlive:=hT'.live hx (stk':=(b2,i)::s) (by unfold stepT;rw[if_neg (by rw[hf'.out];decide)];simp only;rw[if_neg hcl1,if_neg hcl2,if_pos hcl,if_pos ⟨ha,hb⟩]);have hown:OL (W2.alloc (.cells ⟨[.int .i64 i]⟩ 3)) w.heap.size NoF 3 1 (.slice (some ⟨g,0,none⟩) n0 c2) n0 ((((b1,r1)::(b2,r2)::s).reverse.map rtD).take (n0*1)):=((by have h:=hT'.ol.stay hWb;rw[show(((b1,r1)::(b2,r2)::s)).length=n0+1+1 by simp[hn0.out]]at h;exact h:OL W2 w.heap.size NoF 3 1 (.slice (some ⟨g,0,none⟩) (n0+1+1) c2) (n0+1+1) (((b1,r1)::(b2,r2)::s).reverse.map rtD)).trunc (m:=n0) (by omega)).alloc _;have hup:=fun(v':Value)(w3:World) hg hO=>hT'.push (o:=.cells ⟨[.int .i64 i]⟩ 3) (w2:=W2) (w3:=w3) (v':=v') (m:=n0) (stk':=(b2,i)::s) hlt hWb (by simp[hn0.out];try omega) hg hO (by simp[hn0.out]) (by simp[hn0.out,rtD]) hlive
         have hsz2:=hWb.size;have hsz1:=hT'.hb.size;have hli:n0≤i:=by
          have h:=hT'.hl;have h2:=hn0.out;try simp only[List.length_cons]at h
          omega
         replace hown:=Hd hown;replace hup:=Hd hup;replace hlive:=Hd hlive;replace ha:=Hd ha;replace hb:=Hd hb;replace hx:=Hd hx;clear hT' hWb hxb;go_wp2_with (at_builtin;refine wpa rfl (.tmp 70) (.tmp 72) _ rfl (m:=1) (news:=[rtD (0,i)]) elInt hown.out rfl rfl (Src.lit (show RdL W2 _ [.int .i64 i] [rtD (0,i)]from⟨.v _ rfl,trivial⟩)) rfl (by omega) (by omega) (by simp;omega) ?_;intro v' w1 hO1 hg1 ha1;obtain⟨B3,d3,rfl⟩:=hO1.form;have hT3:=Hd (hup.out _ _ hg1 hO1);clear hO1 hg1 ha1);go_roundw
         case rel=>exact .mk (i+1) _ (by go_num) hT3.out
         case measure=>simp[intOf];omega
        ·have fb:(b==(r1:Int))=false:=(by rw[xV];exact hb);have hdead:=Hd (hT'.dead hx (by unfold stepT;rw[if_neg (by rw[hf'.out];decide)];simp only;rw[if_neg hcl1,if_neg hcl2,if_pos hcl,if_neg (fun h=>hb h.2)]));have hBf:=Hd (hT'.hb.trans (hWb.mono hT'.hb.size));replace hx:=Hd hx;clear hT' hWb hxb;go_wp2;go_ret;exact⟨by rw[hdead.out];rfl,hBf.out⟩
       ·have fa:(a==(r2:Int))=false:=(by rw[xV];exact ha);have hdead:=Hd (hT'.dead hx (by unfold stepT;rw[if_neg (by rw[hf'.out];decide)];simp only;rw[if_neg hcl1,if_neg hcl2,if_pos hcl,if_neg (fun h=>ha h.1)]));have hBf:=Hd (hT'.hb.trans (hWb.mono hT'.hb.size));replace hx:=Hd hx;clear hT' hWb hxb;go_wp2;go_ret;exact⟨by rw[hdead.out];rfl,hBf.out⟩
  ·subst hv;have hi:=hT.hi;obtain rfl:i=t.length:=by omega
   have g1:¬(t.length:Int)<t.length:=by omega
   have he:=hT.eq;rw[List.drop_length]at he;have hP:(((stk.length:Int)==1)=treeB t):=by
    unfold treeB;rw[he];match stk with
    | []=>rfl
    | [_]=>rfl
    |_::_::s=>simp[runT];omega
   have hBf:=Hd hT.hb;clear hT he;go_wp2;go_ret;exact⟨by rw[←hP];rfl,hBf.out⟩
end ckW
noncomputable def leafB (x:Nd):Bool:=decide (x.a= -1)&&(decide (x.b= -1)&&(isLf x.op&&fieldsB x))
namespace ckW
open nmW
theorem leaf_k (x:Nd)(w:World)(hK:KwIs w):Calls Tryz.prog 147 #[.agg ⟨ndV x⟩] w fun e w'=>e=.returned (.bool (leafB x))∧Bw w w':=by
 obtain⟨op,n,v,at_,a,b⟩:=x;have k1:=Hd refIsName_k;have hB0:Bw w (w.alloc (.cells ⟨ndV ⟨op,n,v,at_,a,b⟩⟩ 81)):=bA;replace hK:=hK.stay hB0;simp only[ndV]at hB0 hK ⊢;have tok0:=True.intro;replace hB0:=Hd hB0;replace hK:=Hd hK;by_cases ha:a= -1
 ·by_cases hb:b= -1
  ·subst ha hb;generalize hF:fieldsB ⟨op,n,v,at_,-1,-1⟩=F;have cs:(op<1∨11<op)∨op=1∨op=2∨op=3∨op=4∨op=5∨op=6∨op=7∨op=8∨op=9∨op=10∨op=11:=by omega
   rcases cs with h |rfl |rfl |rfl |rfl |rfl |rfl |rfl |rfl |rfl |rfl |rfl
   ·have hl:leafB ⟨op,n,v,at_,-1,-1⟩=false:=(by unfold leafB;simp[isLf];omega);rw[hl];have f1:(op==1)=false:=by rw[xV];omega
    have f2:(op==2)=false:=(by rw[xV];omega);have f3:(op==3)=false:=by rw[xV];omega
    have f4:(op==4)=false:=(by rw[xV];omega);have f5:(op==5)=false:=by rw[xV];omega
    have f6:(op==6)=false:=(by rw[xV];omega);have f7:(op==7)=false:=by rw[xV];omega
    have f8:(op==8)=false:=(by rw[xV];omega);have f9:(op==9)=false:=by rw[xV];omega
    have f10:(op==10)=false:=(by rw[xV];omega);have f11:(op==11)=false:=by rw[xV];omega
    clear hl hF;go_enter Tryz.func147,Tryz.ntmps147;go_wp2;go_ret;exact⟨rfl,hB0.out⟩
   ·have hl:leafB ⟨1,n,v,at_,-1,-1⟩=F:=(by unfold leafB;rw[hF];simp[isLf]);rw[hl];clear hl;by_cases hn:n<0
    ·obtain rfl:F=false:=by rw[←hF];exact fb_n (by simp;omega)
     clear hF;go_enter Tryz.func147,Tryz.ntmps147;go_wp2;go_ret;exact⟨rfl,hB0.out⟩
    by_cases hve:v=emp
    ·have fv:(v.toList==([]:List UInt8))=true:=(by rw[emp_eq];exact zW hve);have hF2:=(fb_a (by simp;omega) (by simp only;rw[if_neg (by rw[(isVar_f (by omega))];decide)];exact zW hve)).symm.trans hF;replace hve:=Hd hve;clear hF;simp only at hF2;rw[if_neg (by rw[isAtt_f (by omega)];decide)]at hF2;have fa:(at_.toList==([]:List UInt8))=F:=by rw[emp_eq];exact hF2
     clear hF2;go_enter Tryz.func147,Tryz.ntmps147;go_wp2;go_ret;exact⟨rfl,hB0.out⟩
    ·have fv:(v.toList==([]:List UInt8))=false:=(by rw[emp_eq];exact zV hve);obtain rfl:F=false:=by rw[←hF];exact fb_v (by simp only;rw[if_neg (by rw[(isVar_f (by omega))];decide)];exact zV hve)
     replace hve:=Hd hve;clear hF;go_enter Tryz.func147,Tryz.ntmps147;go_wp2;go_ret;exact⟨rfl,hB0.out⟩
   ·have hl:leafB ⟨2,n,v,at_,-1,-1⟩=F:=(by unfold leafB;rw[hF];simp[isLf]);rw[hl];clear hl;by_cases hn:¬n=0
    ·obtain rfl:F=false:=by rw[←hF];exact fb_n (by simp only;rw[if_neg (by omega)];exact zV (by omega))
     have fn:(n==0)=false:=(by rw[xV];exact hn);clear hF;go_enter Tryz.func147,Tryz.ntmps147;go_wp2;go_ret;exact⟨rfl,hB0.out⟩
    obtain rfl:n=0:=by omega
    by_cases hve:v=emp
    ·have fv:(v.toList==([]:List UInt8))=true:=(by rw[emp_eq];exact zW hve);have hF2:=(fb_a (by simp only;rw[if_neg (by omega)];first|exact zW trivial |simp) (by simp only;rw[if_neg (by rw[(isVar_f (by omega))];decide)];exact zW hve)).symm.trans hF;replace hve:=Hd hve;clear hF;simp only at hF2;rw[if_neg (by rw[isAtt_f (by omega)];decide)]at hF2;have fa:(at_.toList==([]:List UInt8))=F:=by rw[emp_eq];exact hF2
     clear hF2;go_enter Tryz.func147,Tryz.ntmps147;go_wp2;go_ret;exact⟨rfl,hB0.out⟩
    ·have fv:(v.toList==([]:List UInt8))=false:=(by rw[emp_eq];exact zV hve);obtain rfl:F=false:=by rw[←hF];exact fb_v (by simp only;rw[if_neg (by rw[(isVar_f (by omega))];decide)];exact zV hve)
     replace hve:=Hd hve;clear hF;go_enter Tryz.func147,Tryz.ntmps147;go_wp2;go_ret;exact⟨rfl,hB0.out⟩
   ·have hl:leafB ⟨3,n,v,at_,-1,-1⟩=F:=(by unfold leafB;rw[hF];simp[isLf]);rw[hl];clear hl;by_cases hn:¬n=0
    ·obtain rfl:F=false:=by rw[←hF];exact fb_n (by simp only;rw[if_neg (by omega)];exact zV (by omega))
     have fn:(n==0)=false:=(by rw[xV];exact hn);clear hF;go_enter Tryz.func147,Tryz.ntmps147;go_wp2;go_ret;exact⟨rfl,hB0.out⟩
    obtain rfl:n=0:=by omega
    by_cases hve:v=emp
    ·have fv:(v.toList==([]:List UInt8))=true:=(by rw[emp_eq];exact zW hve);have hF2:=(fb_a (by simp only;rw[if_neg (by omega)];first|exact zW trivial |simp) (by simp only;rw[if_neg (by rw[(isVar_f (by omega))];decide)];exact zW hve)).symm.trans hF;replace hve:=Hd hve;clear hF;simp only at hF2;rw[if_neg (by rw[isAtt_f (by omega)];decide)]at hF2;have fa:(at_.toList==([]:List UInt8))=F:=by rw[emp_eq];exact hF2
     clear hF2;go_enter Tryz.func147,Tryz.ntmps147;go_wp2;go_ret;exact⟨rfl,hB0.out⟩
    ·have fv:(v.toList==([]:List UInt8))=false:=(by rw[emp_eq];exact zV hve);obtain rfl:F=false:=by rw[←hF];exact fb_v (by simp only;rw[if_neg (by rw[(isVar_f (by omega))];decide)];exact zV hve)
     replace hve:=Hd hve;clear hF;go_enter Tryz.func147,Tryz.ntmps147;go_wp2;go_ret;exact⟨rfl,hB0.out⟩
   ·have hl:leafB ⟨4,n,v,at_,-1,-1⟩=F:=(by unfold leafB;rw[hF];simp[isLf]);rw[hl];clear hl;by_cases hn:¬n=0
    ·obtain rfl:F=false:=by rw[←hF];exact fb_n (by simp only;rw[if_neg (by omega)];exact zV (by omega))
     have fn:(n==0)=false:=(by rw[xV];exact hn);clear hF;go_enter Tryz.func147,Tryz.ntmps147;go_wp2;go_ret;exact⟨rfl,hB0.out⟩
    obtain rfl:n=0:=by omega
    cases hi:isNm v with
    |false=>
     obtain rfl:F=false:=by rw[←hF];exact fb_v (by simp only;rw[if_pos (isVar_t (by omega) (by omega))];exact hi)
     replace hi:=Hd hi;clear hF;go_enter Tryz.func147,Tryz.ntmps147;go_wp2_with (have _t:=tok0;clear tok0;go_at_call 100;refine(k1.out v _ hK.out).mono ?_;rw[hi.out];rintro e W ⟨rfl,hW⟩;obtain rfl:=hW.symm);go_ret;exact⟨rfl,hB0.out⟩
    |true=>
     have hF2:=(fb_a (by simp only;rw[if_neg (by omega)];first|exact zW trivial |simp) (by simp only;rw[if_pos (isVar_t (by omega) (by omega))];exact hi)).symm.trans hF;replace hi:=Hd hi;clear hF;simp only at hF2;rw[if_pos (isAtt_t (by omega) (by omega) (by omega))]at hF2;replace hF2:=Hd hF2;go_enter Tryz.func147,Tryz.ntmps147;go_wp2_with first
      |(have _t:=tok0;clear tok0;go_at_call 100;refine(k1.out v _ hK.out).mono ?_;rw[hi.out];rintro e W ⟨rfl,hW⟩;obtain rfl:=hW.symm)
      |(go_at_call 100;refine(k1.out at_ _ hK.out).mono ?_;rw[hF2.out];rintro e W ⟨rfl,hW⟩;obtain rfl:=hW.symm)
     go_ret;exact⟨rfl,hB0.out⟩
   ·have hl:leafB ⟨5,n,v,at_,-1,-1⟩=F:=(by unfold leafB;rw[hF];simp[isLf]);rw[hl];clear hl;by_cases hn:¬n=0
    ·obtain rfl:F=false:=by rw[←hF];exact fb_n (by simp only;rw[if_neg (by omega)];exact zV (by omega))
     have fn:(n==0)=false:=(by rw[xV];exact hn);clear hF;go_enter Tryz.func147,Tryz.ntmps147;go_wp2;go_ret;exact⟨rfl,hB0.out⟩
    obtain rfl:n=0:=by omega
    cases hi:isNm v with
    |false=>
     obtain rfl:F=false:=by rw[←hF];exact fb_v (by simp only;rw[if_pos (isVar_t (by omega) (by omega))];exact hi)
     replace hi:=Hd hi;clear hF;go_enter Tryz.func147,Tryz.ntmps147;go_wp2_with (have _t:=tok0;clear tok0;go_at_call 100;refine(k1.out v _ hK.out).mono ?_;rw[hi.out];rintro e W ⟨rfl,hW⟩;obtain rfl:=hW.symm);go_ret;exact⟨rfl,hB0.out⟩
    |true=>
     have hF2:=(fb_a (by simp only;rw[if_neg (by omega)];first|exact zW trivial |simp) (by simp only;rw[if_pos (isVar_t (by omega) (by omega))];exact hi)).symm.trans hF;replace hi:=Hd hi;clear hF;simp only at hF2;rw[if_neg (by rw[isAtt_f (by omega)];decide)]at hF2;have fa:(at_.toList==([]:List UInt8))=F:=by rw[emp_eq];exact hF2
     clear hF2;go_enter Tryz.func147,Tryz.ntmps147;go_wp2_with (have _t:=tok0;clear tok0;go_at_call 100;refine(k1.out v _ hK.out).mono ?_;rw[hi.out];rintro e W ⟨rfl,hW⟩;obtain rfl:=hW.symm);go_ret;exact⟨rfl,hB0.out⟩
   ·have hl:leafB ⟨6,n,v,at_,-1,-1⟩=F:=(by unfold leafB;rw[hF];simp[isLf]);rw[hl];clear hl;by_cases hn:¬n=0
    ·obtain rfl:F=false:=by rw[←hF];exact fb_n (by simp only;rw[if_neg (by omega)];exact zV (by omega))
     have fn:(n==0)=false:=(by rw[xV];exact hn);clear hF;go_enter Tryz.func147,Tryz.ntmps147;go_wp2;go_ret;exact⟨rfl,hB0.out⟩
    obtain rfl:n=0:=by omega
    cases hi:isNm v with
    |false=>
     obtain rfl:F=false:=by rw[←hF];exact fb_v (by simp only;rw[if_pos (isVar_t (by omega) (by omega))];exact hi)
     replace hi:=Hd hi;clear hF;go_enter Tryz.func147,Tryz.ntmps147;go_wp2_with (have _t:=tok0;clear tok0;go_at_call 100;refine(k1.out v _ hK.out).mono ?_;rw[hi.out];rintro e W ⟨rfl,hW⟩;obtain rfl:=hW.symm);go_ret;exact⟨rfl,hB0.out⟩
    |true=>
     have hF2:=(fb_a (by simp only;rw[if_neg (by omega)];first|exact zW trivial |simp) (by simp only;rw[if_pos (isVar_t (by omega) (by omega))];exact hi)).symm.trans hF;replace hi:=Hd hi;clear hF;simp only at hF2;rw[if_pos (isAtt_t (by omega) (by omega) (by omega))]at hF2;replace hF2:=Hd hF2;go_enter Tryz.func147,Tryz.ntmps147;go_wp2_with first
      |(have _t:=tok0;clear tok0;go_at_call 100;refine(k1.out v _ hK.out).mono ?_;rw[hi.out];rintro e W ⟨rfl,hW⟩;obtain rfl:=hW.symm)
      |(go_at_call 100;refine(k1.out at_ _ hK.out).mono ?_;rw[hF2.out];rintro e W ⟨rfl,hW⟩;obtain rfl:=hW.symm)
     go_ret;exact⟨rfl,hB0.out⟩
   ·have hl:leafB ⟨7,n,v,at_,-1,-1⟩=F:=(by unfold leafB;rw[hF];simp[isLf]);rw[hl];clear hl;by_cases hn:¬n=0
    ·obtain rfl:F=false:=by rw[←hF];exact fb_n (by simp only;rw[if_neg (by omega)];exact zV (by omega))
     have fn:(n==0)=false:=(by rw[xV];exact hn);clear hF;go_enter Tryz.func147,Tryz.ntmps147;go_wp2;go_ret;exact⟨rfl,hB0.out⟩
    obtain rfl:n=0:=by omega
    cases hi:isNm v with
    |false=>
     obtain rfl:F=false:=by rw[←hF];exact fb_v (by simp only;rw[if_pos (isVar_t (by omega) (by omega))];exact hi)
     replace hi:=Hd hi;clear hF;go_enter Tryz.func147,Tryz.ntmps147;go_wp2_with (have _t:=tok0;clear tok0;go_at_call 100;refine(k1.out v _ hK.out).mono ?_;rw[hi.out];rintro e W ⟨rfl,hW⟩;obtain rfl:=hW.symm);go_ret;exact⟨rfl,hB0.out⟩
    |true=>
     have hF2:=(fb_a (by simp only;rw[if_neg (by omega)];first|exact zW trivial |simp) (by simp only;rw[if_pos (isVar_t (by omega) (by omega))];exact hi)).symm.trans hF;replace hi:=Hd hi;clear hF;simp only at hF2;rw[if_pos (isAtt_t (by omega) (by omega) (by omega))]at hF2;replace hF2:=Hd hF2;go_enter Tryz.func147,Tryz.ntmps147;go_wp2_with first
      |(have _t:=tok0;clear tok0;go_at_call 100;refine(k1.out v _ hK.out).mono ?_;rw[hi.out];rintro e W ⟨rfl,hW⟩;obtain rfl:=hW.symm)
      |(go_at_call 100;refine(k1.out at_ _ hK.out).mono ?_;rw[hF2.out];rintro e W ⟨rfl,hW⟩;obtain rfl:=hW.symm)
     go_ret;exact⟨rfl,hB0.out⟩
   ·have hl:leafB ⟨8,n,v,at_,-1,-1⟩=F:=(by unfold leafB;rw[hF];simp[isLf]);rw[hl];clear hl;by_cases hn:¬n=0
    ·obtain rfl:F=false:=by rw[←hF];exact fb_n (by simp only;rw[if_neg (by omega)];exact zV (by omega))
     have fn:(n==0)=false:=(by rw[xV];exact hn);clear hF;go_enter Tryz.func147,Tryz.ntmps147;go_wp2;go_ret;exact⟨rfl,hB0.out⟩
    obtain rfl:n=0:=by omega
    cases hi:isNm v with
    |false=>
     obtain rfl:F=false:=by rw[←hF];exact fb_v (by simp only;rw[if_pos (isVar_t (by omega) (by omega))];exact hi)
     replace hi:=Hd hi;clear hF;go_enter Tryz.func147,Tryz.ntmps147;go_wp2_with (have _t:=tok0;clear tok0;go_at_call 100;refine(k1.out v _ hK.out).mono ?_;rw[hi.out];rintro e W ⟨rfl,hW⟩;obtain rfl:=hW.symm);go_ret;exact⟨rfl,hB0.out⟩
    |true=>
     have hF2:=(fb_a (by simp only;rw[if_neg (by omega)];first|exact zW trivial |simp) (by simp only;rw[if_pos (isVar_t (by omega) (by omega))];exact hi)).symm.trans hF;replace hi:=Hd hi;clear hF;simp only at hF2;rw[if_pos (isAtt_t (by omega) (by omega) (by omega))]at hF2;replace hF2:=Hd hF2;go_enter Tryz.func147,Tryz.ntmps147;go_wp2_with first
      |(have _t:=tok0;clear tok0;go_at_call 100;refine(k1.out v _ hK.out).mono ?_;rw[hi.out];rintro e W ⟨rfl,hW⟩;obtain rfl:=hW.symm)
      |(go_at_call 100;refine(k1.out at_ _ hK.out).mono ?_;rw[hF2.out];rintro e W ⟨rfl,hW⟩;obtain rfl:=hW.symm)
     go_ret;exact⟨rfl,hB0.out⟩
   ·have hl:leafB ⟨9,n,v,at_,-1,-1⟩=F:=(by unfold leafB;rw[hF];simp[isLf]);rw[hl];clear hl;by_cases hn:¬n=0
    ·obtain rfl:F=false:=by rw[←hF];exact fb_n (by simp only;rw[if_neg (by omega)];exact zV (by omega))
     have fn:(n==0)=false:=(by rw[xV];exact hn);clear hF;go_enter Tryz.func147,Tryz.ntmps147;go_wp2;go_ret;exact⟨rfl,hB0.out⟩
    obtain rfl:n=0:=by omega
    cases hi:isNm v with
    |false=>
     obtain rfl:F=false:=by rw[←hF];exact fb_v (by simp only;rw[if_pos (isVar_t (by omega) (by omega))];exact hi)
     replace hi:=Hd hi;clear hF;go_enter Tryz.func147,Tryz.ntmps147;go_wp2_with (have _t:=tok0;clear tok0;go_at_call 100;refine(k1.out v _ hK.out).mono ?_;rw[hi.out];rintro e W ⟨rfl,hW⟩;obtain rfl:=hW.symm);go_ret;exact⟨rfl,hB0.out⟩
    |true=>
     have hF2:=(fb_a (by simp only;rw[if_neg (by omega)];first|exact zW trivial |simp) (by simp only;rw[if_pos (isVar_t (by omega) (by omega))];exact hi)).symm.trans hF;replace hi:=Hd hi;clear hF;simp only at hF2;rw[if_pos (isAtt_t (by omega) (by omega) (by omega))]at hF2;replace hF2:=Hd hF2;go_enter Tryz.func147,Tryz.ntmps147;go_wp2_with first
      |(have _t:=tok0;clear tok0;go_at_call 100;refine(k1.out v _ hK.out).mono ?_;rw[hi.out];rintro e W ⟨rfl,hW⟩;obtain rfl:=hW.symm)
      |(go_at_call 100;refine(k1.out at_ _ hK.out).mono ?_;rw[hF2.out];rintro e W ⟨rfl,hW⟩;obtain rfl:=hW.symm)
     go_ret;exact⟨rfl,hB0.out⟩
   ·have hl:leafB ⟨10,n,v,at_,-1,-1⟩=F:=(by unfold leafB;rw[hF];simp[isLf]);rw[hl];clear hl;by_cases hn:¬n=0
    ·obtain rfl:F=false:=by rw[←hF];exact fb_n (by simp only;rw[if_neg (by omega)];exact zV (by omega))
     have fn:(n==0)=false:=(by rw[xV];exact hn);clear hF;go_enter Tryz.func147,Tryz.ntmps147;go_wp2;go_ret;exact⟨rfl,hB0.out⟩
    obtain rfl:n=0:=by omega
    cases hi:isNm v with
    |false=>
     obtain rfl:F=false:=by rw[←hF];exact fb_v (by simp only;rw[if_pos (isVar_t (by omega) (by omega))];exact hi)
     replace hi:=Hd hi;clear hF;go_enter Tryz.func147,Tryz.ntmps147;go_wp2_with (have _t:=tok0;clear tok0;go_at_call 100;refine(k1.out v _ hK.out).mono ?_;rw[hi.out];rintro e W ⟨rfl,hW⟩;obtain rfl:=hW.symm);go_ret;exact⟨rfl,hB0.out⟩
    |true=>
     have hF2:=(fb_a (by simp only;rw[if_neg (by omega)];first|exact zW trivial |simp) (by simp only;rw[if_pos (isVar_t (by omega) (by omega))];exact hi)).symm.trans hF;replace hi:=Hd hi;clear hF;simp only at hF2;rw[if_pos (isAtt_t (by omega) (by omega) (by omega))]at hF2;replace hF2:=Hd hF2;go_enter Tryz.func147,Tryz.ntmps147;go_wp2_with first
      |(have _t:=tok0;clear tok0;go_at_call 100;refine(k1.out v _ hK.out).mono ?_;rw[hi.out];rintro e W ⟨rfl,hW⟩;obtain rfl:=hW.symm)
      |(go_at_call 100;refine(k1.out at_ _ hK.out).mono ?_;rw[hF2.out];rintro e W ⟨rfl,hW⟩;obtain rfl:=hW.symm)
     go_ret;exact⟨rfl,hB0.out⟩
   ·have hl:leafB ⟨11,n,v,at_,-1,-1⟩=F:=(by unfold leafB;rw[hF];simp[isLf]);rw[hl];clear hl;by_cases hn:¬n=0
    ·obtain rfl:F=false:=by rw[←hF];exact fb_n (by simp only;rw[if_neg (by omega)];exact zV (by omega))
     have fn:(n==0)=false:=(by rw[xV];exact hn);clear hF;go_enter Tryz.func147,Tryz.ntmps147;go_wp2;go_ret;exact⟨rfl,hB0.out⟩
    obtain rfl:n=0:=by omega
    cases hi:isNm v with
    |false=>
     obtain rfl:F=false:=by rw[←hF];exact fb_v (by simp only;rw[if_pos (isVar_t (by omega) (by omega))];exact hi)
     replace hi:=Hd hi;clear hF;go_enter Tryz.func147,Tryz.ntmps147;go_wp2_with (have _t:=tok0;clear tok0;go_at_call 100;refine(k1.out v _ hK.out).mono ?_;rw[hi.out];rintro e W ⟨rfl,hW⟩;obtain rfl:=hW.symm);go_ret;exact⟨rfl,hB0.out⟩
    |true=>
     have hF2:=(fb_a (by simp only;rw[if_neg (by omega)];first|exact zW trivial |simp) (by simp only;rw[if_pos (isVar_t (by omega) (by omega))];exact hi)).symm.trans hF;replace hi:=Hd hi;clear hF;simp only at hF2;rw[if_pos (isAtt_t (by omega) (by omega) (by omega))]at hF2;replace hF2:=Hd hF2;go_enter Tryz.func147,Tryz.ntmps147;go_wp2_with first
      |(have _t:=tok0;clear tok0;go_at_call 100;refine(k1.out v _ hK.out).mono ?_;rw[hi.out];rintro e W ⟨rfl,hW⟩;obtain rfl:=hW.symm)
      |(go_at_call 100;refine(k1.out at_ _ hK.out).mono ?_;rw[hF2.out];rintro e W ⟨rfl,hW⟩;obtain rfl:=hW.symm)
     go_ret;exact⟨rfl,hB0.out⟩
  ·have hl:leafB ⟨op,n,v,at_,a,b⟩=false:=by unfold leafB;simp[hb]
   have fb:(b== -1)=false:=by rw[xV];exact hb
   subst ha;rw[hl];clear hl;go_enter Tryz.func147,Tryz.ntmps147;go_wp2;go_ret;exact⟨rfl,hB0.out⟩
 ·have hl:leafB ⟨op,n,v,at_,a,b⟩=false:=by unfold leafB;simp[ha]
  have fa:(a== -1)=false:=by rw[xV];exact ha
  rw[hl];clear hl;go_enter Tryz.func147,Tryz.ntmps147;go_wp2;go_ret;exact⟨rfl,hB0.out⟩
theorem one_k (o:Int)(w:World):Calls Tryz.prog 148 #[.int .i64 o] w fun e w'=>e=.returned (.bool (isUn o))∧w'=w:=by
 by_cases h1:o=12
 ·subst h1;go_enter Tryz.func148,Tryz.ntmps148;go_wp2;go_ret;exact⟨rfl,rfl⟩
 ·have hl:isUn o=(o==13):=by unfold isUn;rw[zV h1,Bool.false_or];by_cases h:o=13<;>simp[h]
  have f1:(o==12)=false:=by rw[xV];exact h1
  rw[hl];clear hl;go_enter Tryz.func148,Tryz.ntmps148;go_wp2;go_ret;exact⟨rfl,rfl⟩
theorem two_k (o:Int)(w:World):Calls Tryz.prog 149 #[.int .i64 o] w fun e w'=>e=.returned (.bool (isBi o))∧w'=w:=by
 by_cases h1:14≤o
 ·have hl:isBi o=decide (o≤26):=by unfold isBi;rw[zW h1,xE]
  rw[hl];clear hl;go_enter Tryz.func149,Tryz.ntmps149;go_wp2;go_ret;exact⟨rfl,rfl⟩
 ·have hl:isBi o=false:=by unfold isBi;rw[zV h1];rfl
  rw[hl];clear hl;go_enter Tryz.func149,Tryz.ntmps149;go_wp2;go_ret;exact⟨rfl,rfl⟩
end ckW
end Go.Proofs.YtfiodnlgiglhfaaGreatDoor
