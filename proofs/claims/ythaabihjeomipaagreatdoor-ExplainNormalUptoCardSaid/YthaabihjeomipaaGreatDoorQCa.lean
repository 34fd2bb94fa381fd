/- The document's Tree, walked. -/
import Derived.Test.YthaabihjeomipaaGreatDoorQC8
namespace Go.Proofs.YthaabihjeomipaaGreatDoor
set_option maxRecDepth 100000
set_option maxHeartbeats 16000000
open Go.RowKit Go.Deep
set_option linter.unusedVariables false
set_option linter.unusedSimpArgs false
namespace ckW
open nmW
theorem begins_k (A:Option Addr)(c:Nat)(F:Nat→Prop)(t:List Nd)(hs:SzN t)(w:World)(hK:KwIs w)(hF:∀b,F b→b<w.heap.size)(r:Rd w F (.slice A t.length c) (.sl t.length (t.flatMap ndD))):
  Calls Tryz.prog 102 #[.slice A t.length c] w (BPost t w):=by
 have k2:=Hd one_k;have k3:=Hd two_k;obtain⟨hs1,hs2⟩:=hs;have h0:=Hd (show BI t w w 0 [] (.slice none 0 0) [] from ⟨zE _,bR,.nil _ _ _ _ _,rfl,.nil,fun r h=>by omega,fun r b h=>by simp at h,rfl⟩);replace hs2:=Hd hs2;have r':=Hd r;replace hF:=Hd hF;replace hK:=Hd hK;clear r;go_enter Tryz.func102,Tryz.ntmps102;go_wp2;go_loopw [4,5,6,7] (fun x y _ _ wr=>BRel t w x y wr) (fun _ y _ _ _=>t.length- (intOf y).toNat)
 case atStart=>exact .mk 0 [] [] rfl h0.out
 case round=>
  obtain⟨i,stk,bl,hy,hI⟩:=hrel;subst hy;obtain⟨A2,c2,rfl⟩:=hI.ol.form;by_cases hlt:i<t.length
  ·obtain⟨x,hx⟩:=getx hlt;obtain⟨bb0,off,rfl,hFb,z0,z1,z2,z3,z4,z5⟩:=nd_at (r'.out.under hI.hb hF.out) hx;have kl:∀W,Bw w W→Calls Tryz.prog 146 #[.agg ⟨ndV x⟩] W fun e w'=>e=.returned (.bool (leafB x))∧Bw W w':=fun W hW=>leaf_k x W (hK.out.stay hW)
   obtain⟨bb,hbb⟩:∃bb,bb=bareB x:=⟨_,rfl⟩
   have hbx:∃y:Nd,y=x:=⟨_,rfl⟩
   obtain⟨y,hyx⟩:=hbx;have hpush:=fun(nb:Nat)(stk':List (Nat×Nat))(w2:World)(w3:World)(v':Value)(o:Obj)(hb:Bw wr w2)(hst:stepT i stk x=some stk')(hsp:Sp t nb i) hg hO=>hI.push (o:=o) (w2:=w2) (w3:=w3) (v':=v') hx hst hsp hb hg hO
   have hdead:=fun(W:World)(hst:stepT i stk x=none)(hW:Bw wr W)=>hI.dead hx hst (hI.hb.trans (hW.mono hI.hb.size))
   have hbeg:=fun r hr=>hI.at_ (r:=r) hr
   have hol:∀W,Bw wr W→∀o,OL (W.alloc o) w.heap.size NoF 3 1 (.slice A2 i c2) i (bl.map btD):=fun W hW o=>(hI.ol.stay hW).alloc o
   have hsz:=Hd hI.hb.size;have hSt:=Hd hI.st;have hsfx:=fun(b:Nat)(h1:isLf x.op=true)(h2:x.a= -1)(h3:x.b= -1)=>Sp.lf hx h1 h2 h3
   have hspu:=fun(b j:Nat)(hj:i=j+1)(h1:isUn x.op=true)(h2:x.a=(j:Int))(h3:x.b= -1)(h4:Sp t b j)=>(by subst hj;exact Sp.un hx h1 h2 h3 h4:Sp t b i)
   have hspb:=fun(b m j:Nat)(hj:i=j+1)(h1:isBi x.op=true)(h2:x.a=(m:Int))(h3:x.b=(j:Int))(h4:Sp t b m)(h5:Sp t (m+1) j)=>(by subst hj;exact Sp.bi hx h1 h2 h3 h4 h5:Sp t b i)
   have hBx:=hI.hb.alloc hI.hb.size (.cells ⟨ndV x⟩ 96);have hBy:Bw wr (wr.alloc (.cells ⟨ndV x⟩ 96)):=bA;have hxb0:Blk (wr.alloc (.cells ⟨ndV x⟩ 96)) wr.heap.size 96 (ndV x):=Blk.new _ _ _;obtain⟨op,n,v,at_,a,b⟩:=x;simp only[ndV]at kl z0 z1 z2 z3 z4 z5 hBx hBy hxb0;replace kl:=Hd kl;replace hpush:=Hd hpush;replace hdead:=Hd hdead;replace hbeg:=Hd hbeg;replace hol:=Hd hol;replace hsfx:=Hd hsfx;replace hspu:=Hd hspu;replace hspb:=Hd hspb;replace hBx:=Hd hBx;replace hBy:=Hd hBy;replace hxb0:=Hd hxb0;replace hx:=Hd hx;replace hyx:=Hd hyx;have hbb':=Hd hbb;have g0:(0:Int)≤(i:Int):=oQ;have g1:(i:Int)<t.length:=oQ;have hi6:i≤1048576:=oQ;clear hI;go_upto_region 6 with fail
   go_cut [7] (fun s7 wx=>s7=.bool bb∧wx=(wr.alloc (.cells ⟨[.int .i64 op,.int .i64 n,.string v,.string at_,.int .i64 a,.int .i64 b]⟩ 96)))
   case first=>
    clear hbb;by_cases hn:n=0
    ·subst hn;by_cases hve:v=emp
     ·have fv:(v.toList==([]:List UInt8))=true:=(by rw[emp_eq];exact zW hve);have fa:(at_.toList==([]:List UInt8))=bb:=by rw[emp_eq,hbb'.out];unfold bareB;simp[hve]
      replace hve:=Hd hve;go_wp2_with fail
      all_goals(go_meet;exact⟨rfl,rfl⟩)
     ·have fv:(v.toList==([]:List UInt8))=false:=(by rw[emp_eq];exact zV hve);obtain rfl:bb=false:=by rw[hbb'.out];unfold bareB;simp[hve]
      replace hve:=Hd hve;go_wp2_with fail
      all_goals(go_meet;exact⟨rfl,rfl⟩)
    ·have fn:(n==0)=false:=(by rw[xV];exact hn);obtain rfl:bb=false:=by rw[hbb'.out];unfold bareB;simp[hn]
     replace hn:=Hd hn;go_wp2_with fail
     all_goals(go_meet;exact⟨rfl,rfl⟩)
   case rest=>
    obtain⟨rfl,rfl⟩:=hcut;clear z0 z1 z2 z3 z4 z5 hbb;cases hlf:leafB ⟨op,n,v,at_,a,b⟩with
    |true=>
     have hst:=st_leaf (i:=i) (stk:=stk) hlf;have hup:∀(w2 w3:World)(v':Value)(o:Obj)(hb:Bw wr w2) hg hO,BI t w w3 (i+1) ((i,i)::stk) v' (bl++[i]):=fun w2 w3 v' o hb hg hO=>hpush.out i _ w2 w3 v' o hb hst (hsfx.out 0 (by unfold leafB at hlf;simp only[xK,decide_eq_true_eq]at hlf;exact hlf.2.2.1) (by unfold leafB at hlf;simp only[xK,decide_eq_true_eq]at hlf;exact hlf.1) (by unfold leafB at hlf;simp only[xK,decide_eq_true_eq]at hlf;exact hlf.2.1)) hg hO
     replace hup:=Hd hup;replace hst:=Hd hst;replace hlf:=Hd hlf;go_wp2_with first
      |(go_at_call 146;refine(kl.out _ hBx.out).mono ?_;rw[hlf.out];rintro e W ⟨rfl,hW⟩;have hWb:Bw wr W:=hBy.out.trans (hW.mono sJ);have hxb:Blk W wr.heap.size 96 [.int .i64 op,.int .i64 n,.string v,.string at_,.int .i64 a,.int .i64 b]:=hxb0.out.stay hW;have x0:W.cell? ⟨wr.heap.size,0,none⟩=some (.int .i64 op):=hxb.cell 0;have x4:W.cell? ⟨wr.heap.size,4,none⟩=some (.int .i64 a):=hxb.cell 4;have x5:W.cell? ⟨wr.heap.size,5,none⟩=some (.int .i64 b):=hxb.cell 5;have _z:=True.intro;replace hWb:=Hd hWb;replace hxb:=Hd hxb;clear hW)
      |(at_builtin;refine wpa rfl (.tmp 34) (.tmp 36) _ rfl (m:=1) (news:=[btD i]) elInt (hol.out _ hWb.out (.cells ⟨[.int .i64 (i:Nat)]⟩ 3)) rfl rfl (Src.lit (show RdL _ _ [.int .i64 (i:Nat)] [btD i]from⟨.v _ rfl,trivial⟩)) rfl oQ oQ (by have h1:=hWb.out.size;have h2:=hsz.out;first|(simp;omega)|(simp at h1;simp;omega)) ?_;intro v' w1 hO1 hg1 ha1;obtain⟨B3,d3,rfl⟩:=hO1.form;have hI3:=Hd (hup.out _ _ _ _ hWb.out hg1 hO1);clear hO1 hg1 ha1)
     go_roundw
     case rel=>exact .mk (i+1) _ _ gQ hI3.out
     case measure=>exact mQ
    |false=>
     cases hun:isUn op with
     |true=>
      cases i with
      |zero=>
       have hD:=Hd (fun W hW=>hdead.out W (st_un0 hSt.out (.inl hun)) hW);replace hlf:=Hd hlf;replace hun:=Hd hun;cases bb with
       |false=>
        go_wp2_with first
         |(go_at_call 146;refine(kl.out _ hBx.out).mono ?_;rw[hlf.out];rintro e W ⟨rfl,hW⟩;have hWb:Bw wr W:=hBy.out.trans (hW.mono sJ);have hxb:Blk W wr.heap.size 96 [.int .i64 op,.int .i64 n,.string v,.string at_,.int .i64 a,.int .i64 b]:=hxb0.out.stay hW;have x0:W.cell? ⟨wr.heap.size,0,none⟩=some (.int .i64 op):=hxb.cell 0;have x4:W.cell? ⟨wr.heap.size,4,none⟩=some (.int .i64 a):=hxb.cell 4;have x5:W.cell? ⟨wr.heap.size,5,none⟩=some (.int .i64 b):=hxb.cell 5;have _z:=True.intro;replace hWb:=Hd hWb;replace hxb:=Hd hxb;clear hW)
         |(go_at_call 147;refine(k2.out op _).mono ?_;rw[hun.out];rintro e W0 ⟨rfl,hW0⟩;obtain rfl:=hW0.symm)
        refine bodyPost_ret (results_tmp2 rfl _ _ _) rfl ?_;exact hD.out _ hWb.out
       |true=>
        go_wp2_with first
         |(go_at_call 146;refine(kl.out _ hBx.out).mono ?_;rw[hlf.out];rintro e W ⟨rfl,hW⟩;have hWb:Bw wr W:=hBy.out.trans (hW.mono sJ);have hxb:Blk W wr.heap.size 96 [.int .i64 op,.int .i64 n,.string v,.string at_,.int .i64 a,.int .i64 b]:=hxb0.out.stay hW;have x0:W.cell? ⟨wr.heap.size,0,none⟩=some (.int .i64 op):=hxb.cell 0;have x4:W.cell? ⟨wr.heap.size,4,none⟩=some (.int .i64 a):=hxb.cell 4;have x5:W.cell? ⟨wr.heap.size,5,none⟩=some (.int .i64 b):=hxb.cell 5;have _z:=True.intro;replace hWb:=Hd hWb;replace hxb:=Hd hxb;clear hW)
         |(go_at_call 147;refine(k2.out op _).mono ?_;rw[hun.out];rintro e W0 ⟨rfl,hW0⟩;obtain rfl:=hW0.symm)
        refine bodyPost_ret (results_tmp2 rfl _ _ _) rfl ?_;exact hD.out _ hWb.out
      |succ j=>
       obtain⟨g,bt,hA2,hspt,hct⟩:=hbeg.out j oQ;subst hA2;have hst:=st_un (x:=⟨op,n,v,at_,a,b⟩) hSt.out hspt hun;have hun2:=Hd hun;have hlf2:=Hd hlf;replace hct:=Hd hct;clear hun hlf;simp only at hst;have j0:(0:Int)≤(j:Int):=oQ;have j1:(j:Int)<(j:Int)+1:=oQ;have j2:¬((j:Int)+1<1):=oQ;rw[←hbb'.out]at hst;cases bb with
       |false=>
        have hD:=Hd (fun W hW=>hdead.out W (by rw[hst,if_neg (fun h=>by cases h.1)]) hW);clear hst;go_wp2_with first
         |(go_at_call 146;refine(kl.out _ hBx.out).mono ?_;rw[hlf2.out];rintro e W ⟨rfl,hW⟩;have hWb:Bw wr W:=hBy.out.trans (hW.mono sJ);have hxb:Blk W wr.heap.size 96 [.int .i64 op,.int .i64 n,.string v,.string at_,.int .i64 a,.int .i64 b]:=hxb0.out.stay hW;have x0:W.cell? ⟨wr.heap.size,0,none⟩=some (.int .i64 op):=hxb.cell 0;have x4:W.cell? ⟨wr.heap.size,4,none⟩=some (.int .i64 a):=hxb.cell 4;have x5:W.cell? ⟨wr.heap.size,5,none⟩=some (.int .i64 b):=hxb.cell 5;have _z:=True.intro;replace hWb:=Hd hWb;replace hxb:=Hd hxb;clear hW)
         |(go_at_call 147;refine(k2.out op _).mono ?_;rw[hun2.out];rintro e W0 ⟨rfl,hW0⟩;obtain rfl:=hW0.symm)
        refine bodyPost_ret (results_tmp2 rfl _ _ _) rfl ?_;exact hD.out _ hWb.out
       |true=>
        by_cases ha:a=(j:Int)
        ·by_cases hb:b= -1
         ·rw[if_pos ⟨rfl,ha,hb⟩]at hst;have fa:(a==(j:Int))=true:=by rw[beq_iff_eq];exact ha
          have fan:(a != (j:Int))=false:=(by rw[bne,fa];rfl);have fb:(b== -1)=true:=by rw[beq_iff_eq];exact hb
          have fbn:(b != -1)=false:=(by rw[bne,fb];rfl);have hup:∀(w2 w3:World)(v':Value)(o:Obj)(hb:Bw wr w2) hg hO,BI t w w3 (j+1+1) ((bt,j+1)::stk.tail) v' (bl++[bt]):=fun w2 w3 v' o hb2 hg hO=>hpush.out bt _ w2 w3 v' o hb2 hst (hspu.out bt j rfl hun2.out ha hb hspt) hg hO
          replace hup:=Hd hup;replace hst:=Hd hst;replace ha:=Hd ha;replace hb:=Hd hb;replace hspt:=Hd hspt;go_wp2_with first
           |(go_at_call 146;refine(kl.out _ hBx.out).mono ?_;rw[hlf2.out];rintro e W ⟨rfl,hW⟩;have hWb:Bw wr W:=hBy.out.trans (hW.mono sJ);have hxb:Blk W wr.heap.size 96 [.int .i64 op,.int .i64 n,.string v,.string at_,.int .i64 a,.int .i64 b]:=hxb0.out.stay hW;have x0:W.cell? ⟨wr.heap.size,0,none⟩=some (.int .i64 op):=hxb.cell 0;have x4:W.cell? ⟨wr.heap.size,4,none⟩=some (.int .i64 a):=hxb.cell 4;have x5:W.cell? ⟨wr.heap.size,5,none⟩=some (.int .i64 b):=hxb.cell 5;have y1:=hct.out W hWb;replace hWb:=Hd hWb;replace hxb:=Hd hxb;clear hW)
           |(go_at_call 147;refine(k2.out op _).mono ?_;rw[hun2.out];rintro e W0 ⟨rfl,hW0⟩;obtain rfl:=hW0.symm)
           |(at_builtin;refine wpa rfl (.tmp 60) (.tmp 66) _ rfl (m:=1) (news:=[btD bt]) elInt (hol.out _ hWb.out (.cells ⟨[.int .i64 (bt:Nat)]⟩ 3)) rfl rfl (Src.lit (show RdL _ _ [.int .i64 (bt:Nat)] [btD bt]from⟨.v _ rfl,trivial⟩)) rfl oQ oQ (by have h1:=hWb.out.size;have h2:=hsz.out;first|(simp;omega)|(simp at h1;simp;omega)) ?_;intro v' w1 hO1 hg1 ha1;obtain⟨B3,d3,rfl⟩:=hO1.form;have hI3:=Hd (hup.out _ _ _ _ hWb.out hg1 hO1);clear hO1 hg1 ha1)
          go_roundw
          case rel=>exact .mk ((j+1)+1) _ _ gQ hI3.out
          case measure=>exact mQ
         ·have hD:=Hd (fun W hW=>hdead.out W (by rw[hst,if_neg (fun h=>hb h.2.2)]) hW);have fa:(a==(j:Int))=true:=by rw[beq_iff_eq];exact ha
          have fan:(a != (j:Int))=false:=(by rw[bne,fa];rfl);have fb:(b== -1)=false:=by rw[xV];exact hb
          have fbn:(b != -1)=true:=(by rw[bne,fb];rfl);replace ha:=Hd ha;replace hb:=Hd hb;clear hst;go_wp2_with first
           |(go_at_call 146;refine(kl.out _ hBx.out).mono ?_;rw[hlf2.out];rintro e W ⟨rfl,hW⟩;have hWb:Bw wr W:=hBy.out.trans (hW.mono sJ);have hxb:Blk W wr.heap.size 96 [.int .i64 op,.int .i64 n,.string v,.string at_,.int .i64 a,.int .i64 b]:=hxb0.out.stay hW;have x0:W.cell? ⟨wr.heap.size,0,none⟩=some (.int .i64 op):=hxb.cell 0;have x4:W.cell? ⟨wr.heap.size,4,none⟩=some (.int .i64 a):=hxb.cell 4;have x5:W.cell? ⟨wr.heap.size,5,none⟩=some (.int .i64 b):=hxb.cell 5;have _z:=True.intro;replace hWb:=Hd hWb;replace hxb:=Hd hxb;clear hW)
           |(go_at_call 147;refine(k2.out op _).mono ?_;rw[hun2.out];rintro e W0 ⟨rfl,hW0⟩;obtain rfl:=hW0.symm)
          refine bodyPost_ret (results_tmp2 rfl _ _ _) rfl ?_;exact hD.out _ hWb.out
        ·have hD:=Hd (fun W hW=>hdead.out W (by rw[hst,if_neg (fun h=>ha h.2.1)]) hW);have fa:(a==(j:Int))=false:=by rw[xV];exact ha
         have fan:(a != (j:Int))=true:=(by rw[bne,fa];rfl);replace ha:=Hd ha;clear hst;go_wp2_with first
          |(go_at_call 146;refine(kl.out _ hBx.out).mono ?_;rw[hlf2.out];rintro e W ⟨rfl,hW⟩;have hWb:Bw wr W:=hBy.out.trans (hW.mono sJ);have hxb:Blk W wr.heap.size 96 [.int .i64 op,.int .i64 n,.string v,.string at_,.int .i64 a,.int .i64 b]:=hxb0.out.stay hW;have x0:W.cell? ⟨wr.heap.size,0,none⟩=some (.int .i64 op):=hxb.cell 0;have x4:W.cell? ⟨wr.heap.size,4,none⟩=some (.int .i64 a):=hxb.cell 4;have x5:W.cell? ⟨wr.heap.size,5,none⟩=some (.int .i64 b):=hxb.cell 5;have _z:=True.intro;replace hWb:=Hd hWb;replace hxb:=Hd hxb;clear hW)
          |(go_at_call 147;refine(k2.out op _).mono ?_;rw[hun2.out];rintro e W0 ⟨rfl,hW0⟩;obtain rfl:=hW0.symm)
         refine bodyPost_ret (results_tmp2 rfl _ _ _) rfl ?_;exact hD.out _ hWb.out
     |false=>
      cases hbi:isBi op with
      |false=>
       have hD:=Hd (fun W hW=>hdead.out W (st_none hlf hun hbi) hW);replace hlf:=Hd hlf;replace hun:=Hd hun;replace hbi:=Hd hbi;go_wp2_with first
        |(go_at_call 146;refine(kl.out _ hBx.out).mono ?_;rw[hlf.out];rintro e W ⟨rfl,hW⟩;have hWb:Bw wr W:=hBy.out.trans (hW.mono sJ);have hxb:Blk W wr.heap.size 96 [.int .i64 op,.int .i64 n,.string v,.string at_,.int .i64 a,.int .i64 b]:=hxb0.out.stay hW;have x0:W.cell? ⟨wr.heap.size,0,none⟩=some (.int .i64 op):=hxb.cell 0;have x4:W.cell? ⟨wr.heap.size,4,none⟩=some (.int .i64 a):=hxb.cell 4;have x5:W.cell? ⟨wr.heap.size,5,none⟩=some (.int .i64 b):=hxb.cell 5;have _z:=True.intro;replace hWb:=Hd hWb;replace hxb:=Hd hxb;clear hW)
        |(go_at_call 147;refine(k2.out op _).mono ?_;rw[hun.out];rintro e W0 ⟨rfl,hW0⟩;obtain rfl:=hW0.symm)
        |(go_at_call 148;refine(k3.out op _).mono ?_;rw[hbi.out];rintro e W0 ⟨rfl,hW0⟩;obtain rfl:=hW0.symm)
       refine bodyPost_ret (results_tmp2 rfl _ _ _) rfl ?_;exact hD.out _ hWb.out
      |true=>
       cases i with
       |zero=>
        have hD:=Hd (fun W hW=>hdead.out W (st_un0 hSt.out (.inr hbi)) hW);replace hlf:=Hd hlf;replace hun:=Hd hun;replace hbi:=Hd hbi;cases bb with
        |false=>
         go_upto_region 15 with first
          |(go_at_call 146;refine(kl.out _ hBx.out).mono ?_;rw[hlf.out];rintro e W ⟨rfl,hW⟩;have hWb:Bw wr W:=hBy.out.trans (hW.mono sJ);have hxb:Blk W wr.heap.size 96 [.int .i64 op,.int .i64 n,.string v,.string at_,.int .i64 a,.int .i64 b]:=hxb0.out.stay hW;have x0:W.cell? ⟨wr.heap.size,0,none⟩=some (.int .i64 op):=hxb.cell 0;have x4:W.cell? ⟨wr.heap.size,4,none⟩=some (.int .i64 a):=hxb.cell 4;have x5:W.cell? ⟨wr.heap.size,5,none⟩=some (.int .i64 b):=hxb.cell 5;have _z:=True.intro;replace hWb:=Hd hWb;replace hxb:=Hd hxb;clear hW)
          |(go_at_call 147;refine(k2.out op _).mono ?_;rw[hun.out];rintro e W0 ⟨rfl,hW0⟩;obtain rfl:=hW0.symm)
          |(go_at_call 148;refine(k3.out op _).mono ?_;rw[hbi.out];rintro e W0 ⟨rfl,hW0⟩;obtain rfl:=hW0.symm)
         go_quiet (fail);go_wp2;refine bodyPost_ret (results_tmp2 rfl _ _ _) rfl ?_;exact hD.out _ (below_drewN hWb.out _)
        |true=>
         go_upto_region 15 with first
          |(go_at_call 146;refine(kl.out _ hBx.out).mono ?_;rw[hlf.out];rintro e W ⟨rfl,hW⟩;have hWb:Bw wr W:=hBy.out.trans (hW.mono sJ);have hxb:Blk W wr.heap.size 96 [.int .i64 op,.int .i64 n,.string v,.string at_,.int .i64 a,.int .i64 b]:=hxb0.out.stay hW;have x0:W.cell? ⟨wr.heap.size,0,none⟩=some (.int .i64 op):=hxb.cell 0;have x4:W.cell? ⟨wr.heap.size,4,none⟩=some (.int .i64 a):=hxb.cell 4;have x5:W.cell? ⟨wr.heap.size,5,none⟩=some (.int .i64 b):=hxb.cell 5;have _z:=True.intro;replace hWb:=Hd hWb;replace hxb:=Hd hxb;clear hW)
          |(go_at_call 147;refine(k2.out op _).mono ?_;rw[hun.out];rintro e W0 ⟨rfl,hW0⟩;obtain rfl:=hW0.symm)
          |(go_at_call 148;refine(k3.out op _).mono ?_;rw[hbi.out];rintro e W0 ⟨rfl,hW0⟩;obtain rfl:=hW0.symm)
         go_quiet (fail);go_wp2;refine bodyPost_ret (results_tmp2 rfl _ _ _) rfl ?_;exact hD.out _ (below_drewN hWb.out _)
       |succ j=>
        obtain⟨g,bt,hA2,hspt,hct⟩:=hbeg.out j oQ;subst hA2;have hst:=fun h=>st_bi (x:=⟨op,n,v,at_,a,b⟩) hSt.out hspt hbi h
        have hbi2:=Hd hbi;have hun2:=Hd hun;have hlf2:=Hd hlf;replace hct:=Hd hct;clear hun hlf hbi;simp only at hst;have j0:(0:Int)≤(j:Int):=oQ;have j1:(j:Int)<(j:Int)+1:=oQ;have j2:¬((j:Int)+1<1):=oQ;have j2d:decide ((j:Int)+1<1)=false:=zV j2;have jw:IntKind.i64.wrap (j:Int)=j:=by rw[xI];omega
        rw[←hbb'.out]at hst;cases bb with
        |false=>
         have hD:=Hd (fun W hW=>hdead.out W (hst (fun h=>by cases h.1)) hW);clear hst;go_upto_region 15 with first
          |(go_at_call 146;refine(kl.out _ hBx.out).mono ?_;rw[hlf2.out];rintro e W ⟨rfl,hW⟩;have hWb:Bw wr W:=hBy.out.trans (hW.mono sJ);have hxb:Blk W wr.heap.size 96 [.int .i64 op,.int .i64 n,.string v,.string at_,.int .i64 a,.int .i64 b]:=hxb0.out.stay hW;have x0:W.cell? ⟨wr.heap.size,0,none⟩=some (.int .i64 op):=hxb.cell 0;have x4:W.cell? ⟨wr.heap.size,4,none⟩=some (.int .i64 a):=hxb.cell 4;have x5:W.cell? ⟨wr.heap.size,5,none⟩=some (.int .i64 b):=hxb.cell 5;have _z:=True.intro;replace hWb:=Hd hWb;replace hxb:=Hd hxb;clear hW)
          |(go_at_call 147;refine(k2.out op _).mono ?_;rw[hun2.out];rintro e W0 ⟨rfl,hW0⟩;obtain rfl:=hW0.symm)
          |(go_at_call 148;refine(k3.out op _).mono ?_;rw[hbi2.out];rintro e W0 ⟨rfl,hW0⟩;obtain rfl:=hW0.symm)
         go_quiet (fail);go_wp2;refine bodyPost_ret (results_tmp2 rfl _ _ _) rfl ?_;exact hD.out _ (below_drewN hWb.out _)
        |true=>
         by_cases hb:b=(j:Int)
         ·have fb:(b==(j:Int))=true:=(by rw[beq_iff_eq];exact hb);have fbn:(b != (j:Int))=false:=by rw[bne,fb];rfl
          cases bt with
          |zero=>
           have hD:=Hd (fun W hW=>hdead.out W (hst (fun h=>by have:=h.2.2.1;omega)) hW);replace hspt:=Hd hspt;replace hb:=Hd hb;clear hst;go_upto_region 15 with first
            |(go_at_call 146;refine(kl.out _ hBx.out).mono ?_;rw[hlf2.out];rintro e W ⟨rfl,hW⟩;have hWb:Bw wr W:=hBy.out.trans (hW.mono sJ);have hxb:Blk W wr.heap.size 96 [.int .i64 op,.int .i64 n,.string v,.string at_,.int .i64 a,.int .i64 b]:=hxb0.out.stay hW;have x0:W.cell? ⟨wr.heap.size,0,none⟩=some (.int .i64 op):=hxb.cell 0;have x4:W.cell? ⟨wr.heap.size,4,none⟩=some (.int .i64 a):=hxb.cell 4;have x5:W.cell? ⟨wr.heap.size,5,none⟩=some (.int .i64 b):=hxb.cell 5;have y1:W.cell? ⟨g,j,none⟩=some (.int .i64 0):=hct.out W hWb;replace hWb:=Hd hWb;replace hxb:=Hd hxb;clear hW)
            |(go_at_call 147;refine(k2.out op _).mono ?_;rw[hun2.out];rintro e W0 ⟨rfl,hW0⟩;obtain rfl:=hW0.symm)
            |(go_at_call 148;refine(k3.out op _).mono ?_;rw[hbi2.out];rintro e W0 ⟨rfl,hW0⟩;obtain rfl:=hW0.symm)
           go_quiet (fail);go_wp2;refine bodyPost_ret (results_tmp2 rfl _ _ _) rfl ?_;exact hD.out _ (below_drewN hWb.out _)
          |succ m=>
           have m0:¬((m:Int)+1<1):=oQ;have m0d:decide ((m:Int)+1<1)=false:=zV m0;have m1:(0:Int)≤(m:Int):=oQ;have hmj:=hspt.le;have mw:IntKind.i64.wrap (m:Int)=m:=by rw[xI];omega
           by_cases ha:a=(m:Int)
           ·have fa:(a==(m:Int))=true:=(by rw[beq_iff_eq];exact ha);have fan:(a != (m:Int))=false:=by rw[bne,fa];rfl
            obtain⟨g',b2,hA3,hspt2,hct2⟩:=hbeg.out m oQ;injection hA3 with hA3
            injection hA3 with hA3 _
            subst hA3;have hst1:=st_bi1 (x:=⟨op,n,v,at_,a,b⟩) hSt.out hspt hspt2 hbi2.out hbb'.out.symm hb ha;have hup:∀(w2 w3:World)(v':Value)(o:Obj)(hb:Bw wr w2) hg hO,BI t w w3 (j+1+1) ((b2,j+1)::stk.tail.tail) v' (bl++[b2]):=fun w2 w3 v' o hb2 hg hO=>hpush.out b2 _ w2 w3 v' o hb2 hst1 (hspb.out b2 m j rfl hbi2.out ha hb hspt2 hspt) hg hO
            have m2:(m:Int)<(j:Int)+1:=oQ;have m3:m<j+1:=oQ;replace hct2:=Hd hct2;replace hup:=Hd hup;replace hst1:=Hd hst1;subst ha;replace hb:=Hd hb;replace hspt:=Hd hspt;replace hspt2:=Hd hspt2;clear hst hmj;go_upto_region 15 with first
             |(go_at_call 146;refine(kl.out _ hBx.out).mono ?_;rw[hlf2.out];rintro e W ⟨rfl,hW⟩;have hWb:Bw wr W:=hBy.out.trans (hW.mono sJ);have hxb:Blk W wr.heap.size 96 [.int .i64 op,.int .i64 n,.string v,.string at_,.int .i64 (m:Int),.int .i64 b]:=hxb0.out.stay hW;have x0:W.cell? ⟨wr.heap.size,0,none⟩=some (.int .i64 op):=hxb.cell 0;have x4:W.cell? ⟨wr.heap.size,4,none⟩=some (.int .i64 (m:Int)):=hxb.cell 4;have x5:W.cell? ⟨wr.heap.size,5,none⟩=some (.int .i64 b):=hxb.cell 5;have y1:W.cell? ⟨g,j,none⟩=some (.int .i64 ((m:Int)+1)):=hct.out W hWb;have y2:W.cell? ⟨g,m,none⟩=some (.int .i64 (b2:Nat)):=hct2.out W hWb;replace hWb:=Hd hWb;replace hxb:=Hd hxb;clear hW)
             |(go_at_call 147;refine(k2.out op _).mono ?_;rw[hun2.out];rintro e W0 ⟨rfl,hW0⟩;obtain rfl:=hW0.symm)
             |(go_at_call 148;refine(k3.out op _).mono ?_;rw[hbi2.out];rintro e W0 ⟨rfl,hW0⟩;obtain rfl:=hW0.symm)
            go_quiet (fail);replace hWb:=Hd (below_drewN hWb.out nq);go_wp2_with first
             |(at_builtin;refine wpa rfl (.tmp 104) (.tmp 110) _ rfl (m:=1) (news:=[btD b2]) elInt (hol.out _ hWb.out (.cells ⟨[.int .i64 (b2:Nat)]⟩ 3)) rfl rfl (Src.lit (show RdL _ _ [.int .i64 (b2:Nat)] [btD b2]from⟨.v _ rfl,trivial⟩)) rfl oQ oQ (by have h1:=hWb.out.size;have h2:=hsz.out;first|(simp;omega)|(simp at h1;simp;omega)) ?_;intro v' w1 hO1 hg1 ha1;obtain⟨B3,d3,rfl⟩:=hO1.form;have hI3:=Hd (hup.out _ _ _ _ hWb.out hg1 hO1);clear hO1 hg1 ha1)
            go_roundw
            case rel=>exact .mk ((j+1)+1) _ _ gQ hI3.out
            case measure=>exact mQ
           ·have fa:(a==(m:Int))=false:=(by rw[xV];exact ha);have fan:(a != (m:Int))=true:=by rw[bne,fa];rfl
            have hD:=Hd (fun W hW=>hdead.out W (hst (fun h=>ha (by have:=h.2.2.2;omega))) hW);replace ha:=Hd ha;replace hb:=Hd hb;clear hst;go_upto_region 15 with first
             |(go_at_call 146;refine(kl.out _ hBx.out).mono ?_;rw[hlf2.out];rintro e W ⟨rfl,hW⟩;have hWb:Bw wr W:=hBy.out.trans (hW.mono sJ);have hxb:Blk W wr.heap.size 96 [.int .i64 op,.int .i64 n,.string v,.string at_,.int .i64 a,.int .i64 b]:=hxb0.out.stay hW;have x0:W.cell? ⟨wr.heap.size,0,none⟩=some (.int .i64 op):=hxb.cell 0;have x4:W.cell? ⟨wr.heap.size,4,none⟩=some (.int .i64 a):=hxb.cell 4;have x5:W.cell? ⟨wr.heap.size,5,none⟩=some (.int .i64 b):=hxb.cell 5;have y1:W.cell? ⟨g,j,none⟩=some (.int .i64 ((m:Int)+1)):=hct.out W hWb;replace hWb:=Hd hWb;replace hxb:=Hd hxb;clear hW)
             |(go_at_call 147;refine(k2.out op _).mono ?_;rw[hun2.out];rintro e W0 ⟨rfl,hW0⟩;obtain rfl:=hW0.symm)
             |(go_at_call 148;refine(k3.out op _).mono ?_;rw[hbi2.out];rintro e W0 ⟨rfl,hW0⟩;obtain rfl:=hW0.symm)
            go_quiet (fail);go_wp2;refine bodyPost_ret (results_tmp2 rfl _ _ _) rfl ?_;exact hD.out _ (below_drewN hWb.out _)
         ·have fb:(b==(j:Int))=false:=(by rw[xV];exact hb);have fbn:(b != (j:Int))=true:=by rw[bne,fb];rfl
          have hD:=Hd (fun W hW=>hdead.out W (hst (fun h=>hb h.2.1)) hW);replace hb:=Hd hb;clear hst;go_upto_region 15 with first
           |(go_at_call 146;refine(kl.out _ hBx.out).mono ?_;rw[hlf2.out];rintro e W ⟨rfl,hW⟩;have hWb:Bw wr W:=hBy.out.trans (hW.mono sJ);have hxb:Blk W wr.heap.size 96 [.int .i64 op,.int .i64 n,.string v,.string at_,.int .i64 a,.int .i64 b]:=hxb0.out.stay hW;have x0:W.cell? ⟨wr.heap.size,0,none⟩=some (.int .i64 op):=hxb.cell 0;have x4:W.cell? ⟨wr.heap.size,4,none⟩=some (.int .i64 a):=hxb.cell 4;have x5:W.cell? ⟨wr.heap.size,5,none⟩=some (.int .i64 b):=hxb.cell 5;have _z:=True.intro;replace hWb:=Hd hWb;replace hxb:=Hd hxb;clear hW)
           |(go_at_call 147;refine(k2.out op _).mono ?_;rw[hun2.out];rintro e W0 ⟨rfl,hW0⟩;obtain rfl:=hW0.symm)
           |(go_at_call 148;refine(k3.out op _).mono ?_;rw[hbi2.out];rintro e W0 ⟨rfl,hW0⟩;obtain rfl:=hW0.symm)
          go_quiet (fail);go_wp2;refine bodyPost_ret (results_tmp2 rfl _ _ _) rfl ?_;exact hD.out _ (below_drewN hWb.out _)
  ·have hi:=hI.hi;obtain rfl:i=t.length:=oQ;have g1:¬(t.length:Int)<t.length:=oQ;have he:=hI.eq;rw[List.drop_length]at he;have hP:=Hd (show BPost t w (.returned (.tuple #[.slice A2 t.length c2,.bool true])) wr from ⟨_,_,rfl,hI.hb,.inr ⟨rfl,stk,bl,he,hI⟩⟩);clear hI he;go_wp2;refine bodyPost_ret (results_tmp2 rfl _ _ _) rfl ?_;exact hP.out
end ckW
theorem StkOk.tree {t:List Nd}{n b:Nat}{stk:List (Nat×Nat)}(h:StkOk t (n+1) stk)(heq:runT 0 [] t=some stk)(hb:Sp t b n):treeB t=decide (b=0):=by
 obtain⟨b',s,rfl,hsp,hs⟩:=h.top;obtain rfl:=hb.det hsp;unfold treeB;rw[heq];cases b with
 |zero=>rw[hs.bot];rfl
 |succ m=>
  cases hs with
  |cons h1 h2=>simp
namespace ckW
open nmW
theorem refTree_k (A:Option Addr)(c:Nat)(F:Nat→Prop)(t:List Nd)(hs:SzN t)(w:World)(hK:KwIs w)(hF:∀b,F b→b<w.heap.size)(r:Rd w F (.slice A t.length c) (.sl t.length (t.flatMap ndD))):
  Calls Tryz.prog 58 #[.slice A t.length c] w fun e w'=>e=.returned (.bool (treeB t))∧Bw w w':=by
 have kb:=begins_k A c F t hs w hK hF r;have hs1:=hs.1;clear r hF hK hs;cases hr:runT 0 [] t with
 |none=>
  have kb':Calls Tryz.prog 102 #[.slice A t.length c] w fun e W=>∃v,e=.returned (.tuple #[v,.bool false])∧Bw w W:=kb.mono fun e W h=>by
   obtain⟨v,ok,he,hb,h⟩:=h;rcases h with⟨rfl,_⟩|⟨_,stk,bl,h,_⟩
   ·exact⟨v,he,hb⟩
   ·rw[hr]at h;cases h
  clear kb;have ht:treeB t=false:=by unfold treeB;rw[hr]
  rw[ht];replace kb':=Hd kb';clear hr ht;go_enter Tryz.func58,Tryz.ntmps58;go_wp2_with first
   |(go_at_call 102;refine kb'.out.mono ?_;rintro e W ⟨v,rfl,hW⟩;replace hW:=Hd hW)
  go_ret;exact⟨rfl,hW.out⟩
 |some stk=>
  have kb':Calls Tryz.prog 102 #[.slice A t.length c] w fun e W=>∃v bl,e=.returned (.tuple #[v,.bool true])∧Bw w W∧BI t w W t.length stk v bl:=kb.mono fun e W h=>by
   obtain⟨v,ok,he,hb,h⟩:=h;rcases h with⟨_,h⟩|⟨rfl,stk2,bl,h,hI⟩
   ·rw[hr]at h;cases h
   ·rw[hr]at h;injection h with h;subst h;exact⟨v,bl,he,hb,hI⟩
  clear kb;by_cases hn:t.length=0
  ·have ht:treeB t=false:=by obtain rfl:=List.eq_nil_of_length_eq_zero hn;rfl
   rw[ht];replace kb':=Hd kb';have g0:¬(0<(t.length:Int)):=oQ;clear hr ht;replace hn:=Hd hn;go_enter Tryz.func58,Tryz.ntmps58;go_wp2_with first
    |(go_at_call 102;refine kb'.out.mono ?_;rintro e W ⟨v,bl,rfl,hW,hI⟩;replace hW:=Hd hW;replace hI:=Hd hI)
   go_ret;exact⟨rfl,hW.out⟩
  ·obtain⟨n,hn⟩:∃n,t.length=n+1:=⟨t.length-1,oQ⟩
   rw[hn]at kb' ⊢;replace kb':=Hd kb';have hr':=Hd hr;have n1:(0:Int)<(n:Int)+1:=oQ;have n2:(0:Int)≤(n:Int):=oQ;have n3:(n:Int)<(n:Int)+1:=oQ;have nw:IntKind.i64.wrap (n:Int)=n:=by rw[xI];omega
   have n4:n≤1048576:=oQ;clear hr hs1;replace hn:=Hd hn;go_enter Tryz.func58,Tryz.ntmps58;go_wp2_with first
    |(go_at_call 102;refine kb'.out.mono ?_;rintro e W ⟨v,bl,rfl,hW,hI⟩;obtain⟨A2,c2,rfl⟩:=hI.ol.form;obtain⟨g,b,rfl,hsp,hct⟩:=hI.at_ (r:=n) (Nat.lt_succ_self n);have q1:=hct W bR;have hb:treeB t=decide (b=0):=hI.st.tree hr'.out hsp;clear hct hsp hI;replace hW:=Hd hW;replace hb:=Hd hb)
   go_ret;have hfin:treeB t=((b:Int)==0):=by rw[hb.out];by_cases h:b=0<;>simp[h]
   exact⟨rtB hfin.symm,hW.out⟩
end ckW
end Go.Proofs.YthaabihjeomipaaGreatDoor
