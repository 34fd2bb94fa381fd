/- The document's Tree. -/
import Derived.Test.YtfiodnlgiglhfaaGreatDoorC7
namespace Go.Proofs.YtfiodnlgiglhfaaGreatDoor
set_option maxRecDepth 100000
set_option maxHeartbeats 16000000
open Go.RowKit Go.Deep
set_option linter.unusedVariables false
set_option linter.unusedSimpArgs false
def bareB (x:Nd):Bool:=decide (x.n=0)&&(decide (x.v=emp)&&decide (x.at_=emp))
def btD (b:Nat):D:=.v (.int .i64 (b:Nat))
theorem fields_ub {x:Nd}(h:isLf x.op=false)(h2:1≤x.op):fieldsB x=bareB x:=by
 have h3:11<x.op:=by simp[isLf]at h;omega
 unfold fieldsB bareB;rw[if_neg (by omega),if_neg (by rw[isVar_f (.inr h3)];decide),if_neg (by rw[isAtt_f (.inr (.inl h3))];decide),Bool.and_assoc]
theorem un_lf {o:Int}(h:isUn o=true):isLf o=false∧1≤o:=by simp[isUn]at h;simp[isLf];omega
theorem bi_lf {o:Int}(h:isBi o=true):isLf o=false∧isUn o=false∧1≤o:=by simp[isBi]at h;simp[isLf,isUn];omega
theorem st_leaf {i:Nat}{stk:List (Nat×Nat)}{x:Nd}(h:leafB x=true):stepT i stk x=some ((i,i)::stk):=by
 unfold leafB at h;simp only[xK,decide_eq_true_eq]at h;unfold stepT;rw[if_neg (by rw[h.2.2.2];decide),if_pos h.2.2.1,if_pos ⟨h.1,h.2.1⟩]
theorem st_none {i:Nat}{stk:List (Nat×Nat)}{x:Nd}(h:leafB x=false)(h1:isUn x.op=false)(h2:isBi x.op=false):stepT i stk x=none:=by
 unfold stepT;by_cases hf:fieldsB x=false
 ·rw[if_pos hf]
 ·rw[if_neg hf];by_cases hl:isLf x.op=true
  ·rw[if_pos hl];by_cases hab:x.a= -1∧x.b= -1
   ·exfalso;unfold leafB at h;rw[zW hab.1,zW hab.2,hl,show fieldsB x=true by simpa using hf]at h;cases h
   ·rw[if_neg hab]
  ·rw[if_neg hl,if_neg (by rw[h1];decide),if_neg (by rw[h2];decide)]
theorem StkOk.top {t:List Nd}{i:Nat}{stk:List (Nat×Nat)}(h:StkOk t (i+1) stk):∃b s,stk=(b,i)::s∧Sp t b i∧StkOk t b s:=by
 cases h with
 |cons h1 h2=>exact⟨_,_,rfl,h1,h2⟩
theorem StkOk.bot {t:List Nd}{stk:List (Nat×Nat)}(h:StkOk t 0 stk):stk=[]:=by cases h;rfl
theorem st_un {t:List Nd}{i bt:Nat}{stk:List (Nat×Nat)}{x:Nd}(hs:StkOk t (i+1) stk)(hb:Sp t bt i)(h1:isUn x.op=true):stepT (i+1) stk x=if bareB x=true∧x.a=(i:Int)∧x.b= -1 then some ((bt,i+1)::stk.tail)else none:=by
 obtain⟨b,s,rfl,h2,h3⟩:=hs.top;obtain rfl:=hb.det h2;obtain⟨h4,h5⟩:=un_lf h1;unfold stepT;rw[fields_ub h4 h5,h4,h1];cases bareB x<;>simp
theorem st_un0 {stk:List (Nat×Nat)}{t:List Nd}{x:Nd}(hs:StkOk t 0 stk)(h1:isUn x.op=true∨isBi x.op=true):stepT 0 stk x=none:=by
 obtain rfl:=hs.bot;unfold stepT;have h4:isLf x.op=false:=h1.elim (fun h=>(un_lf h).1) (fun h=>(bi_lf h).1);rw[h4];cases fieldsB x<;>cases isUn x.op<;>cases isBi x.op<;>simp
theorem st_bi {t:List Nd}{i bt:Nat}{stk:List (Nat×Nat)}{x:Nd}(hs:StkOk t (i+1) stk)(hb:Sp t bt i)(h1:isBi x.op=true)(hn:¬(bareB x=true∧x.b=(i:Int)∧1≤bt∧x.a=(bt:Int) -1)):stepT (i+1) stk x=none:=by
 obtain⟨b,s,rfl,h2,h3⟩:=hs.top;obtain rfl:=hb.det h2;obtain⟨h4,h5,h6⟩:=bi_lf h1;unfold stepT;rw[fields_ub h4 h6,h4,h5,h1];by_cases hbare:bareB x=true
 ·rw[hbare];cases bt with
  |zero=>
   obtain rfl:=h3.bot;simp
  |succ m=>
   obtain⟨b2,s2,rfl,h7,h8⟩:=h3.top;simp;intro e1 e2;exact hn ⟨hbare,e2,by omega,by rw[e1];omega⟩
 ·have:bareB x=false:=by simpa using hbare
  rw[this];simp
theorem st_bi1 {t:List Nd}{i m b2:Nat}{stk:List (Nat×Nat)}{x:Nd}(hs:StkOk t (i+1) stk)(hb:Sp t (m+1) i)(hb2:Sp t b2 m)(h1:isBi x.op=true)(hbare:bareB x=true)(hxb:x.b=(i:Int))(hxa:x.a=(m:Int)):stepT (i+1) stk x=some ((b2,i+1)::stk.tail.tail):=by
 obtain⟨b,s,rfl,h2,h3⟩:=hs.top;obtain rfl:=hb.det h2;obtain⟨b3,s2,rfl,h7,h8⟩:=h3.top;obtain rfl:=hb2.det h7;obtain⟨h4,h5,h6⟩:=bi_lf h1;unfold stepT;rw[fields_ub h4 h6,h4,h5,h1,hbare];simp[hxa,hxb]
structure BI (t:List Nd)(w wr:World)(i:Nat)(stk:List (Nat×Nat))(v:Value)(bl:List Nat):Prop where
 hi:i≤t.length
 hb:Bw w wr
 ol:OL wr w.heap.size NoF 3 1 v i (bl.map btD)
 hl:bl.length=i
 st:StkOk t i stk
 al:AllSp t i
 bg:∀(r b:Nat),bl[r]? =some b→Sp t b r
 eq:runT 0 [] t=runT i stk (t.drop i)
def BRel (t:List Nd)(w:World)(x y:Value)(wr:World):Prop:=∃i stk bl,y=.int .i64 (i:Nat)∧BI t w wr i stk x bl
theorem BRel.mk {t:List Nd}{w wr:World}{x y:Value}(i:Nat)(stk:List (Nat×Nat))(bl:List Nat)(h1:y=.int .i64 i)(h2:BI t w wr i stk x bl):BRel t w x y wr:=⟨i,stk,bl,h1,h2⟩
def BPost (t:List Nd)(w:World)(e:Ending)(w':World):Prop:=
 ∃v ok,e=.returned (.tuple #[v,.bool ok])∧Bw w w'∧((ok=false∧runT 0 [] t=none)∨(ok=true∧∃stk bl,runT 0 [] t=some stk∧BI t w w' t.length stk v bl))
theorem BI.dead {t:List Nd}{w wr W:World}{i:Nat}{stk:List (Nat×Nat)}{v:Value}{bl:List Nat}{x:Nd}(h:BI t w wr i stk v bl)(hx:t[i]? =some x)(hs:stepT i stk x=none)(hb:Bw w W):BPost t w (.returned (.tuple #[.slice none 0 0,.bool false])) W:=by
 obtain⟨h1,h2⟩:=zC.1 hx;refine⟨_,_,rfl,hb,.inl ⟨rfl,?_⟩⟩;rw[h.eq,List.drop_eq_getElem_cons h1,h2];unfold runT;rw[hs]
theorem BI.push {t:List Nd}{w wr w2 w3:World}{i nb:Nat}{stk stk':List (Nat×Nat)}{v v':Value}{bl:List Nat}{x:Nd}{o:Obj}(h:BI t w wr i stk v bl)(hx:t[i]? =some x)(hs:stepT i stk x=some stk')(hsp:Sp t nb i)(hb:Bw wr w2)(hg:(w2.alloc o).grownBy w3 v.ownBlock)
  (hO:OL w3 w.heap.size NoF 3 1 v' (i+1) (bl.map btD++[btD nb])):BI t w w3 (i+1) stk' v' (bl++[nb]):=by
 obtain⟨h1,h2⟩:=zC.1 hx;obtain⟨h3,h4,_⟩:=stepT_ok hx h.st h.al hs;have hs1:=h.hb.size;have hs2:=hb.size;refine⟨h1,((h.hb.trans (hb.mono hs1)).alloc (by omega) o).grown hg (by simp;omega) (fun q hq=>(h.ol.lt q hq).1),by simpa using hO,by simp[h.hl],h3,h4,fun r b hr=>?_,?_⟩
 ·by_cases hrl:r<bl.length
  ·rw[zS hrl]at hr;exact h.bg r b hr
  ·rw[zP (by omega)]at hr;have:=(zC.1 hr).1;simp at this;have hri:r=i:=by have:=h.hl;omega
   subst hri;have e:r-bl.length=0:=by have:=h.hl;omega
   rw[e]at hr;injection hr with hr
   subst hr;exact hsp
 ·rw[h.eq,List.drop_eq_getElem_cons h1,h2];show runT i stk (x::_)=_
  rw[runT,hs]
theorem BI.at_ {t:List Nd}{w wr:World}{i:Nat}{stk:List (Nat×Nat)}{A:Option Addr}{n c:Nat}{bl:List Nat}(h:BI t w wr i stk (.slice A n c) bl){r:Nat}(hr:r<i):∃g b,A=some ⟨g,0,none⟩∧Sp t b r∧∀W,Bw wr W→W.cell? ⟨g,r,none⟩=some (.int .i64 (b:Nat)):=by
 have hrl:r<bl.length:=by have:=h.hl;omega
 have hb:=zI hrl;obtain⟨g,cap,e,_⟩:=h.ol.row (by omega);injection e with e1 e2 e3
 subst e1;refine⟨g,bl[r],rfl,h.bg r _ hb,fun W hW=>?_⟩;obtain⟨g',cap',e',_,_,_,hc⟩:=(h.ol.stay hW).row (by omega);injection e' with e1 _ _
 injection e1 with e1
 injection e1 with e1 _
 subst e1;obtain⟨u,hu,hr2⟩:=hc r (btD bl[r]) (by rw[zG,hb];rfl);rw[hr2.v_inv]at hu;exact hu
namespace ckW
open nmW
theorem begins_k (A:Option Addr)(c:Nat)(F:Nat→Prop)(t:List Nd)(hs:SzN t)(w:World)(hK:KwIs w)(hF:∀b,F b→b<w.heap.size)(r:Rd w F (.slice A t.length c) (.sl t.length (t.flatMap ndD))):
  Calls Tryz.prog 135 #[.slice A t.length c] w (BPost t w):=by
 have k2:=Hd one_k;have k3:=Hd two_k;obtain⟨hs1,hs2⟩:=hs;have h0:=Hd (show BI t w w 0 [] (.slice none 0 0) [] from ⟨zE _,bR,.nil _ _ _ _ _,rfl,.nil,fun r h=>by omega,fun r b h=>by simp at h,rfl⟩);replace hs2:=Hd hs2;have r':=Hd r;replace hF:=Hd hF;replace hK:=Hd hK;clear r;go_enter Tryz.func135,Tryz.ntmps135;go_wp2;go_loopw [4,5,6,7] (fun x y _ _ wr=>BRel t w x y wr) (fun _ y _ _ _=>t.length- (intOf y).toNat)
 case atStart=>exact .mk 0 [] [] rfl h0.out
 case round=>
  obtain⟨i,stk,bl,hy,hI⟩:=hrel;subst hy;obtain⟨A2,c2,rfl⟩:=hI.ol.form;by_cases hlt:i<t.length
  ·obtain⟨x,hx⟩:=getx hlt;obtain⟨bb0,off,rfl,hFb,z0,z1,z2,z3,z4,z5⟩:=nd_at (r'.out.under hI.hb hF.out) hx;have kl:∀W,Bw w W→Calls Tryz.prog 147 #[.agg ⟨ndV x⟩] W fun e w'=>e=.returned (.bool (leafB x))∧Bw W w':=fun W hW=>leaf_k x W (hK.out.stay hW)
   obtain⟨bb,hbb⟩:∃bb,bb=bareB x:=⟨_,rfl⟩
   have hbx:∃y:Nd,y=x:=⟨_,rfl⟩
   obtain⟨y,hyx⟩:=hbx;have hpush:=fun(nb:Nat)(stk':List (Nat×Nat))(w2:World)(w3:World)(v':Value)(o:Obj)(hb:Bw wr w2)(hst:stepT i stk x=some stk')(hsp:Sp t nb i) hg hO=>hI.push (o:=o) (w2:=w2) (w3:=w3) (v':=v') hx hst hsp hb hg hO
   have hdead:=fun(W:World)(hst:stepT i stk x=none)(hW:Bw wr W)=>hI.dead hx hst (hI.hb.trans (hW.mono hI.hb.size))
   have hbeg:=fun r hr=>hI.at_ (r:=r) hr
   have hol:∀W,Bw wr W→∀o,OL (W.alloc o) w.heap.size NoF 3 1 (.slice A2 i c2) i (bl.map btD):=fun W hW o=>(hI.ol.stay hW).alloc o
   have hsz:=Hd hI.hb.size;have hSt:=Hd hI.st;have hsfx:=fun(b:Nat)(h1:isLf x.op=true)(h2:x.a= -1)(h3:x.b= -1)=>Sp.lf hx h1 h2 h3
   have hspu:=fun(b j:Nat)(hj:i=j+1)(h1:isUn x.op=true)(h2:x.a=(j:Int))(h3:x.b= -1)(h4:Sp t b j)=>(by subst hj;exact Sp.un hx h1 h2 h3 h4:Sp t b i)
   have hspb:=fun(b m j:Nat)(hj:i=j+1)(h1:isBi x.op=true)(h2:x.a=(m:Int))(h3:x.b=(j:Int))(h4:Sp t b m)(h5:Sp t (m+1) j)=>(by subst hj;exact Sp.bi hx h1 h2 h3 h4 h5:Sp t b i)
   have hBx:=hI.hb.alloc hI.hb.size (.cells ⟨ndV x⟩ 81);have hBy:Bw wr (wr.alloc (.cells ⟨ndV x⟩ 81)):=bA;have hxb0:Blk (wr.alloc (.cells ⟨ndV x⟩ 81)) wr.heap.size 81 (ndV x):=Blk.new _ _ _;obtain⟨op,n,v,at_,a,b⟩:=x;simp only[ndV]at kl z0 z1 z2 z3 z4 z5 hBx hBy hxb0;replace kl:=Hd kl;replace hpush:=Hd hpush;replace hdead:=Hd hdead;replace hbeg:=Hd hbeg;replace hol:=Hd hol;replace hsfx:=Hd hsfx;replace hspu:=Hd hspu;replace hspb:=Hd hspb;replace hBx:=Hd hBx;replace hBy:=Hd hBy;replace hxb0:=Hd hxb0;replace hx:=Hd hx;replace hyx:=Hd hyx;have hbb':=Hd hbb;have g0:(0:Int)≤(i:Int):=by omega
   have g1:(i:Int)<t.length:=by omega
   have hi6:i≤1048576:=by omega
   clear hI;go_upto_region 6 with fail
   go_cut [7] (fun s7 wx=>s7=.bool bb∧wx=(wr.alloc (.cells ⟨[.int .i64 op,.int .i64 n,.string v,.string at_,.int .i64 a,.int .i64 b]⟩ 81)))
   case first=>
    clear hbb;by_cases hn:n=0
    ·subst hn;by_cases hve:v=emp
     ·have fv:(v.toList==([]:List UInt8))=true:=(by rw[emp_eq];exact zW hve);have fa:(at_.toList==([]:List UInt8))=bb:=by rw[emp_eq,hbb'.out];unfold bareB;simp[hve]
      replace hve:=Hd hve;go_wp2_with fail
      all_goals(go_meet;exact⟨rfl,rfl⟩)
     ·have fv:(v.toList==([]:List UInt8))=false:=(by rw[emp_eq];exact zV hve);obtain rfl:bb=false:=by rw[hbb'.out];unfold bareB;simp[hve]
      replace hve:=Hd hve;go_wp2_with fail
      all_goals(go_meet;exact⟨rfl,rfl⟩)
    ·have fn:(n==0)=false:=(by rw[xV];exact hn);obtain rfl:bb=false:=by rw[hbb'.out];unfold bareB;simp[hn]
     replace hn:=Hd hn;go_wp2_with fail
     all_goals(go_meet;exact⟨rfl,rfl⟩)
   case rest=>
    obtain⟨rfl,rfl⟩:=hcut;clear z0 z1 z2 z3 z4 z5 hbb;cases hlf:leafB ⟨op,n,v,at_,a,b⟩with
    |true=>
     have hst:=st_leaf (i:=i) (stk:=stk) hlf;have hup:∀(w2 w3:World)(v':Value)(o:Obj)(hb:Bw wr w2) hg hO,BI t w w3 (i+1) ((i,i)::stk) v' (bl++[i]):=fun w2 w3 v' o hb hg hO=>hpush.out i _ w2 w3 v' o hb hst (hsfx.out 0 (by unfold leafB at hlf;simp only[xK,decide_eq_true_eq]at hlf;exact hlf.2.2.1) (by unfold leafB at hlf;simp only[xK,decide_eq_true_eq]at hlf;exact hlf.1) (by unfold leafB at hlf;simp only[xK,decide_eq_true_eq]at hlf;exact hlf.2.1)) hg hO
     replace hup:=Hd hup;replace hst:=Hd hst;replace hlf:=Hd hlf;go_wp2_with first
      |(go_at_call 147;refine(kl.out _ hBx.out).mono ?_;rw[hlf.out];rintro e W ⟨rfl,hW⟩;have hWb:Bw wr W:=hBy.out.trans (hW.mono (by simp));have hxb:Blk W wr.heap.size 81 [.int .i64 op,.int .i64 n,.string v,.string at_,.int .i64 a,.int .i64 b]:=hxb0.out.stay hW;have x0:W.cell? ⟨wr.heap.size,0,none⟩=some (.int .i64 op):=hxb.cell 0;have x4:W.cell? ⟨wr.heap.size,4,none⟩=some (.int .i64 a):=hxb.cell 4;have x5:W.cell? ⟨wr.heap.size,5,none⟩=some (.int .i64 b):=hxb.cell 5;have _z:=True.intro;replace hWb:=Hd hWb;replace hxb:=Hd hxb;clear hW)
      |(at_builtin;refine wpa rfl (.tmp 34) (.tmp 36) _ rfl (m:=1) (news:=[btD i]) elInt (hol.out _ hWb.out (.cells ⟨[.int .i64 (i:Nat)]⟩ 3)) rfl rfl (Src.lit (show RdL _ _ [.int .i64 (i:Nat)] [btD i]from⟨.v _ rfl,trivial⟩)) rfl (by omega) (by omega) (by have h1:=hWb.out.size;have h2:=hsz.out;first|(simp;omega)|(simp at h1;simp;omega)) ?_;intro v' w1 hO1 hg1 ha1;obtain⟨B3,d3,rfl⟩:=hO1.form;have hI3:=Hd (hup.out _ _ _ _ hWb.out hg1 hO1);clear hO1 hg1 ha1)
     go_roundw
     case rel=>exact .mk (i+1) _ _ (by go_num) hI3.out
     case measure=>simp[intOf];omega
    |false=>
     cases hun:isUn op with
     |true=>
      cases i with
      |zero=>
       have hD:=Hd (fun W hW=>hdead.out W (st_un0 hSt.out (.inl hun)) hW);replace hlf:=Hd hlf;replace hun:=Hd hun;cases bb with
       |false=>
        go_wp2_with first
         |(go_at_call 147;refine(kl.out _ hBx.out).mono ?_;rw[hlf.out];rintro e W ⟨rfl,hW⟩;have hWb:Bw wr W:=hBy.out.trans (hW.mono (by simp));have hxb:Blk W wr.heap.size 81 [.int .i64 op,.int .i64 n,.string v,.string at_,.int .i64 a,.int .i64 b]:=hxb0.out.stay hW;have x0:W.cell? ⟨wr.heap.size,0,none⟩=some (.int .i64 op):=hxb.cell 0;have x4:W.cell? ⟨wr.heap.size,4,none⟩=some (.int .i64 a):=hxb.cell 4;have x5:W.cell? ⟨wr.heap.size,5,none⟩=some (.int .i64 b):=hxb.cell 5;have _z:=True.intro;replace hWb:=Hd hWb;replace hxb:=Hd hxb;clear hW)
         |(go_at_call 148;refine(k2.out op _).mono ?_;rw[hun.out];rintro e W0 ⟨rfl,hW0⟩;obtain rfl:=hW0.symm)
        refine bodyPost_ret (results_tmp2 rfl _ _ _) rfl ?_;exact hD.out _ hWb.out
       |true=>
        go_wp2_with first
         |(go_at_call 147;refine(kl.out _ hBx.out).mono ?_;rw[hlf.out];rintro e W ⟨rfl,hW⟩;have hWb:Bw wr W:=hBy.out.trans (hW.mono (by simp));have hxb:Blk W wr.heap.size 81 [.int .i64 op,.int .i64 n,.string v,.string at_,.int .i64 a,.int .i64 b]:=hxb0.out.stay hW;have x0:W.cell? ⟨wr.heap.size,0,none⟩=some (.int .i64 op):=hxb.cell 0;have x4:W.cell? ⟨wr.heap.size,4,none⟩=some (.int .i64 a):=hxb.cell 4;have x5:W.cell? ⟨wr.heap.size,5,none⟩=some (.int .i64 b):=hxb.cell 5;have _z:=True.intro;replace hWb:=Hd hWb;replace hxb:=Hd hxb;clear hW)
         |(go_at_call 148;refine(k2.out op _).mono ?_;rw[hun.out];rintro e W0 ⟨rfl,hW0⟩;obtain rfl:=hW0.symm)
        refine bodyPost_ret (results_tmp2 rfl _ _ _) rfl ?_;exact hD.out _ hWb.out
      |succ j=>
       obtain⟨g,bt,hA2,hspt,hct⟩:=hbeg.out j (by omega);subst hA2;have hst:=st_un (x:=⟨op,n,v,at_,a,b⟩) hSt.out hspt hun;have hun2:=Hd hun;have hlf2:=Hd hlf;replace hct:=Hd hct;clear hun hlf;simp only at hst;have j0:(0:Int)≤(j:Int):=by omega
       have j1:(j:Int)<(j:Int)+1:=(by omega);have j2:¬((j:Int)+1<1):=by omega
       rw[←hbb'.out]at hst;cases bb with
       |false=>
        have hD:=Hd (fun W hW=>hdead.out W (by rw[hst,if_neg (fun h=>by cases h.1)]) hW);clear hst;go_wp2_with first
         |(go_at_call 147;refine(kl.out _ hBx.out).mono ?_;rw[hlf2.out];rintro e W ⟨rfl,hW⟩;have hWb:Bw wr W:=hBy.out.trans (hW.mono (by simp));have hxb:Blk W wr.heap.size 81 [.int .i64 op,.int .i64 n,.string v,.string at_,.int .i64 a,.int .i64 b]:=hxb0.out.stay hW;have x0:W.cell? ⟨wr.heap.size,0,none⟩=some (.int .i64 op):=hxb.cell 0;have x4:W.cell? ⟨wr.heap.size,4,none⟩=some (.int .i64 a):=hxb.cell 4;have x5:W.cell? ⟨wr.heap.size,5,none⟩=some (.int .i64 b):=hxb.cell 5;have _z:=True.intro;replace hWb:=Hd hWb;replace hxb:=Hd hxb;clear hW)
         |(go_at_call 148;refine(k2.out op _).mono ?_;rw[hun2.out];rintro e W0 ⟨rfl,hW0⟩;obtain rfl:=hW0.symm)
        refine bodyPost_ret (results_tmp2 rfl _ _ _) rfl ?_;exact hD.out _ hWb.out
       |true=>
        by_cases ha:a=(j:Int)
        ·by_cases hb:b= -1
         ·rw[if_pos ⟨rfl,ha,hb⟩]at hst;have fa:(a==(j:Int))=true:=by rw[beq_iff_eq];exact ha
          have fan:(a != (j:Int))=false:=(by rw[bne,fa];rfl);have fb:(b== -1)=true:=by rw[beq_iff_eq];exact hb
          have fbn:(b != -1)=false:=(by rw[bne,fb];rfl);have hup:∀(w2 w3:World)(v':Value)(o:Obj)(hb:Bw wr w2) hg hO,BI t w w3 (j+1+1) ((bt,j+1)::stk.tail) v' (bl++[bt]):=fun w2 w3 v' o hb2 hg hO=>hpush.out bt _ w2 w3 v' o hb2 hst (hspu.out bt j rfl hun2.out ha hb hspt) hg hO
          replace hup:=Hd hup;replace hst:=Hd hst;replace ha:=Hd ha;replace hb:=Hd hb;replace hspt:=Hd hspt;go_wp2_with first
           |(go_at_call 147;refine(kl.out _ hBx.out).mono ?_;rw[hlf2.out];rintro e W ⟨rfl,hW⟩;have hWb:Bw wr W:=hBy.out.trans (hW.mono (by simp));have hxb:Blk W wr.heap.size 81 [.int .i64 op,.int .i64 n,.string v,.string at_,.int .i64 a,.int .i64 b]:=hxb0.out.stay hW;have x0:W.cell? ⟨wr.heap.size,0,none⟩=some (.int .i64 op):=hxb.cell 0;have x4:W.cell? ⟨wr.heap.size,4,none⟩=some (.int .i64 a):=hxb.cell 4;have x5:W.cell? ⟨wr.heap.size,5,none⟩=some (.int .i64 b):=hxb.cell 5;have y1:=hct.out W hWb;replace hWb:=Hd hWb;replace hxb:=Hd hxb;clear hW)
           |(go_at_call 148;refine(k2.out op _).mono ?_;rw[hun2.out];rintro e W0 ⟨rfl,hW0⟩;obtain rfl:=hW0.symm)
           |(at_builtin;refine wpa rfl (.tmp 60) (.tmp 66) _ rfl (m:=1) (news:=[btD bt]) elInt (hol.out _ hWb.out (.cells ⟨[.int .i64 (bt:Nat)]⟩ 3)) rfl rfl (Src.lit (show RdL _ _ [.int .i64 (bt:Nat)] [btD bt]from⟨.v _ rfl,trivial⟩)) rfl (by omega) (by omega) (by have h1:=hWb.out.size;have h2:=hsz.out;first|(simp;omega)|(simp at h1;simp;omega)) ?_;intro v' w1 hO1 hg1 ha1;obtain⟨B3,d3,rfl⟩:=hO1.form;have hI3:=Hd (hup.out _ _ _ _ hWb.out hg1 hO1);clear hO1 hg1 ha1)
          go_roundw
          case rel=>exact .mk ((j+1)+1) _ _ (by go_num) hI3.out
          case measure=>simp[intOf];omega
         ·have hD:=Hd (fun W hW=>hdead.out W (by rw[hst,if_neg (fun h=>hb h.2.2)]) hW);have fa:(a==(j:Int))=true:=by rw[beq_iff_eq];exact ha
          have fan:(a != (j:Int))=false:=(by rw[bne,fa];rfl);have fb:(b== -1)=false:=by rw[xV];exact hb
          have fbn:(b != -1)=true:=(by rw[bne,fb];rfl);replace ha:=Hd ha;replace hb:=Hd hb;clear hst;go_wp2_with first
           |(go_at_call 147;refine(kl.out _ hBx.out).mono ?_;rw[hlf2.out];rintro e W ⟨rfl,hW⟩;have hWb:Bw wr W:=hBy.out.trans (hW.mono (by simp));have hxb:Blk W wr.heap.size 81 [.int .i64 op,.int .i64 n,.string v,.string at_,.int .i64 a,.int .i64 b]:=hxb0.out.stay hW;have x0:W.cell? ⟨wr.heap.size,0,none⟩=some (.int .i64 op):=hxb.cell 0;have x4:W.cell? ⟨wr.heap.size,4,none⟩=some (.int .i64 a):=hxb.cell 4;have x5:W.cell? ⟨wr.heap.size,5,none⟩=some (.int .i64 b):=hxb.cell 5;have _z:=True.intro;replace hWb:=Hd hWb;replace hxb:=Hd hxb;clear hW)
           |(go_at_call 148;refine(k2.out op _).mono ?_;rw[hun2.out];rintro e W0 ⟨rfl,hW0⟩;obtain rfl:=hW0.symm)
          refine bodyPost_ret (results_tmp2 rfl _ _ _) rfl ?_;exact hD.out _ hWb.out
        ·have hD:=Hd (fun W hW=>hdead.out W (by rw[hst,if_neg (fun h=>ha h.2.1)]) hW);have fa:(a==(j:Int))=false:=by rw[xV];exact ha
         have fan:(a != (j:Int))=true:=(by rw[bne,fa];rfl);replace ha:=Hd ha;clear hst;go_wp2_with first
          |(go_at_call 147;refine(kl.out _ hBx.out).mono ?_;rw[hlf2.out];rintro e W ⟨rfl,hW⟩;have hWb:Bw wr W:=hBy.out.trans (hW.mono (by simp));have hxb:Blk W wr.heap.size 81 [.int .i64 op,.int .i64 n,.string v,.string at_,.int .i64 a,.int .i64 b]:=hxb0.out.stay hW;have x0:W.cell? ⟨wr.heap.size,0,none⟩=some (.int .i64 op):=hxb.cell 0;have x4:W.cell? ⟨wr.heap.size,4,none⟩=some (.int .i64 a):=hxb.cell 4;have x5:W.cell? ⟨wr.heap.size,5,none⟩=some (.int .i64 b):=hxb.cell 5;have _z:=True.intro;replace hWb:=Hd hWb;replace hxb:=Hd hxb;clear hW)
          |(go_at_call 148;refine(k2.out op _).mono ?_;rw[hun2.out];rintro e W0 ⟨rfl,hW0⟩;obtain rfl:=hW0.symm)
         refine bodyPost_ret (results_tmp2 rfl _ _ _) rfl ?_;exact hD.out _ hWb.out
     |false=>
      cases hbi:isBi op with
      |false=>
       have hD:=Hd (fun W hW=>hdead.out W (st_none hlf hun hbi) hW);replace hlf:=Hd hlf;replace hun:=Hd hun;replace hbi:=Hd hbi;go_wp2_with first
        |(go_at_call 147;refine(kl.out _ hBx.out).mono ?_;rw[hlf.out];rintro e W ⟨rfl,hW⟩;have hWb:Bw wr W:=hBy.out.trans (hW.mono (by simp));have hxb:Blk W wr.heap.size 81 [.int .i64 op,.int .i64 n,.string v,.string at_,.int .i64 a,.int .i64 b]:=hxb0.out.stay hW;have x0:W.cell? ⟨wr.heap.size,0,none⟩=some (.int .i64 op):=hxb.cell 0;have x4:W.cell? ⟨wr.heap.size,4,none⟩=some (.int .i64 a):=hxb.cell 4;have x5:W.cell? ⟨wr.heap.size,5,none⟩=some (.int .i64 b):=hxb.cell 5;have _z:=True.intro;replace hWb:=Hd hWb;replace hxb:=Hd hxb;clear hW)
        |(go_at_call 148;refine(k2.out op _).mono ?_;rw[hun.out];rintro e W0 ⟨rfl,hW0⟩;obtain rfl:=hW0.symm)
        |(go_at_call 149;refine(k3.out op _).mono ?_;rw[hbi.out];rintro e W0 ⟨rfl,hW0⟩;obtain rfl:=hW0.symm)
       refine bodyPost_ret (results_tmp2 rfl _ _ _) rfl ?_;exact hD.out _ hWb.out
      |true=>
       cases i with
       |zero=>
        have hD:=Hd (fun W hW=>hdead.out W (st_un0 hSt.out (.inr hbi)) hW);replace hlf:=Hd hlf;replace hun:=Hd hun;replace hbi:=Hd hbi;cases bb with
        |false=>
         go_upto_region 15 with first
          |(go_at_call 147;refine(kl.out _ hBx.out).mono ?_;rw[hlf.out];rintro e W ⟨rfl,hW⟩;have hWb:Bw wr W:=hBy.out.trans (hW.mono (by simp));have hxb:Blk W wr.heap.size 81 [.int .i64 op,.int .i64 n,.string v,.string at_,.int .i64 a,.int .i64 b]:=hxb0.out.stay hW;have x0:W.cell? ⟨wr.heap.size,0,none⟩=some (.int .i64 op):=hxb.cell 0;have x4:W.cell? ⟨wr.heap.size,4,none⟩=some (.int .i64 a):=hxb.cell 4;have x5:W.cell? ⟨wr.heap.size,5,none⟩=some (.int .i64 b):=hxb.cell 5;have _z:=True.intro;replace hWb:=Hd hWb;replace hxb:=Hd hxb;clear hW)
          |(go_at_call 148;refine(k2.out op _).mono ?_;rw[hun.out];rintro e W0 ⟨rfl,hW0⟩;obtain rfl:=hW0.symm)
          |(go_at_call 149;refine(k3.out op _).mono ?_;rw[hbi.out];rintro e W0 ⟨rfl,hW0⟩;obtain rfl:=hW0.symm)
         go_quiet (fail);go_wp2;refine bodyPost_ret (results_tmp2 rfl _ _ _) rfl ?_;exact hD.out _ (below_drewN hWb.out _)
        |true=>
         go_upto_region 15 with first
          |(go_at_call 147;refine(kl.out _ hBx.out).mono ?_;rw[hlf.out];rintro e W ⟨rfl,hW⟩;have hWb:Bw wr W:=hBy.out.trans (hW.mono (by simp));have hxb:Blk W wr.heap.size 81 [.int .i64 op,.int .i64 n,.string v,.string at_,.int .i64 a,.int .i64 b]:=hxb0.out.stay hW;have x0:W.cell? ⟨wr.heap.size,0,none⟩=some (.int .i64 op):=hxb.cell 0;have x4:W.cell? ⟨wr.heap.size,4,none⟩=some (.int .i64 a):=hxb.cell 4;have x5:W.cell? ⟨wr.heap.size,5,none⟩=some (.int .i64 b):=hxb.cell 5;have _z:=True.intro;replace hWb:=Hd hWb;replace hxb:=Hd hxb;clear hW)
          |(go_at_call 148;refine(k2.out op _).mono ?_;rw[hun.out];rintro e W0 ⟨rfl,hW0⟩;obtain rfl:=hW0.symm)
          |(go_at_call 149;refine(k3.out op _).mono ?_;rw[hbi.out];rintro e W0 ⟨rfl,hW0⟩;obtain rfl:=hW0.symm)
         go_quiet (fail);go_wp2;refine bodyPost_ret (results_tmp2 rfl _ _ _) rfl ?_;exact hD.out _ (below_drewN hWb.out _)
       |succ j=>
        obtain⟨g,bt,hA2,hspt,hct⟩:=hbeg.out j (by omega);subst hA2;have hst:=fun h=>st_bi (x:=⟨op,n,v,at_,a,b⟩) hSt.out hspt hbi h
        have hbi2:=Hd hbi;have hun2:=Hd hun;have hlf2:=Hd hlf;replace hct:=Hd hct;clear hun hlf hbi;simp only at hst;have j0:(0:Int)≤(j:Int):=by omega
        have j1:(j:Int)<(j:Int)+1:=(by omega);have j2:¬((j:Int)+1<1):=by omega
        have j2d:decide ((j:Int)+1<1)=false:=zV j2;have jw:IntKind.i64.wrap (j:Int)=j:=by rw[xI];omega
        rw[←hbb'.out]at hst;cases bb with
        |false=>
         have hD:=Hd (fun W hW=>hdead.out W (hst (fun h=>by cases h.1)) hW);clear hst;go_upto_region 15 with first
          |(go_at_call 147;refine(kl.out _ hBx.out).mono ?_;rw[hlf2.out];rintro e W ⟨rfl,hW⟩;have hWb:Bw wr W:=hBy.out.trans (hW.mono (by simp));have hxb:Blk W wr.heap.size 81 [.int .i64 op,.int .i64 n,.string v,.string at_,.int .i64 a,.int .i64 b]:=hxb0.out.stay hW;have x0:W.cell? ⟨wr.heap.size,0,none⟩=some (.int .i64 op):=hxb.cell 0;have x4:W.cell? ⟨wr.heap.size,4,none⟩=some (.int .i64 a):=hxb.cell 4;have x5:W.cell? ⟨wr.heap.size,5,none⟩=some (.int .i64 b):=hxb.cell 5;have _z:=True.intro;replace hWb:=Hd hWb;replace hxb:=Hd hxb;clear hW)
          |(go_at_call 148;refine(k2.out op _).mono ?_;rw[hun2.out];rintro e W0 ⟨rfl,hW0⟩;obtain rfl:=hW0.symm)
          |(go_at_call 149;refine(k3.out op _).mono ?_;rw[hbi2.out];rintro e W0 ⟨rfl,hW0⟩;obtain rfl:=hW0.symm)
         go_quiet (fail);go_wp2;refine bodyPost_ret (results_tmp2 rfl _ _ _) rfl ?_;exact hD.out _ (below_drewN hWb.out _)
        |true=>
         by_cases hb:b=(j:Int)
         ·have fb:(b==(j:Int))=true:=(by rw[beq_iff_eq];exact hb);have fbn:(b != (j:Int))=false:=by rw[bne,fb];rfl
          cases bt with
          |zero=>
           have hD:=Hd (fun W hW=>hdead.out W (hst (fun h=>by have:=h.2.2.1;omega)) hW);replace hspt:=Hd hspt;replace hb:=Hd hb;clear hst;go_upto_region 15 with first
            |(go_at_call 147;refine(kl.out _ hBx.out).mono ?_;rw[hlf2.out];rintro e W ⟨rfl,hW⟩;have hWb:Bw wr W:=hBy.out.trans (hW.mono (by simp));have hxb:Blk W wr.heap.size 81 [.int .i64 op,.int .i64 n,.string v,.string at_,.int .i64 a,.int .i64 b]:=hxb0.out.stay hW;have x0:W.cell? ⟨wr.heap.size,0,none⟩=some (.int .i64 op):=hxb.cell 0;have x4:W.cell? ⟨wr.heap.size,4,none⟩=some (.int .i64 a):=hxb.cell 4;have x5:W.cell? ⟨wr.heap.size,5,none⟩=some (.int .i64 b):=hxb.cell 5;have y1:W.cell? ⟨g,j,none⟩=some (.int .i64 0):=hct.out W hWb;replace hWb:=Hd hWb;replace hxb:=Hd hxb;clear hW)
            |(go_at_call 148;refine(k2.out op _).mono ?_;rw[hun2.out];rintro e W0 ⟨rfl,hW0⟩;obtain rfl:=hW0.symm)
            |(go_at_call 149;refine(k3.out op _).mono ?_;rw[hbi2.out];rintro e W0 ⟨rfl,hW0⟩;obtain rfl:=hW0.symm)
           go_quiet (fail);go_wp2;refine bodyPost_ret (results_tmp2 rfl _ _ _) rfl ?_;exact hD.out _ (below_drewN hWb.out _)
          |succ m=>
           have m0:¬((m:Int)+1<1):=(by omega);have m0d:decide ((m:Int)+1<1)=false:=zV m0;have m1:(0:Int)≤(m:Int):=by omega
           have hmj:=hspt.le;have mw:IntKind.i64.wrap (m:Int)=m:=by rw[xI];omega
           by_cases ha:a=(m:Int)
           ·have fa:(a==(m:Int))=true:=(by rw[beq_iff_eq];exact ha);have fan:(a != (m:Int))=false:=by rw[bne,fa];rfl
            obtain⟨g',b2,hA3,hspt2,hct2⟩:=hbeg.out m (by omega);injection hA3 with hA3
            injection hA3 with hA3 _
            subst hA3;have hst1:=st_bi1 (x:=⟨op,n,v,at_,a,b⟩) hSt.out hspt hspt2 hbi2.out hbb'.out.symm hb ha;have hup:∀(w2 w3:World)(v':Value)(o:Obj)(hb:Bw wr w2) hg hO,BI t w w3 (j+1+1) ((b2,j+1)::stk.tail.tail) v' (bl++[b2]):=fun w2 w3 v' o hb2 hg hO=>hpush.out b2 _ w2 w3 v' o hb2 hst1 (hspb.out b2 m j rfl hbi2.out ha hb hspt2 hspt) hg hO
            have m2:(m:Int)<(j:Int)+1:=(by omega);have m3:m<j+1:=by omega
            replace hct2:=Hd hct2;replace hup:=Hd hup;replace hst1:=Hd hst1;subst ha;replace hb:=Hd hb;replace hspt:=Hd hspt;replace hspt2:=Hd hspt2;clear hst hmj;go_upto_region 15 with first
             |(go_at_call 147;refine(kl.out _ hBx.out).mono ?_;rw[hlf2.out];rintro e W ⟨rfl,hW⟩;have hWb:Bw wr W:=hBy.out.trans (hW.mono (by simp));have hxb:Blk W wr.heap.size 81 [.int .i64 op,.int .i64 n,.string v,.string at_,.int .i64 (m:Int),.int .i64 b]:=hxb0.out.stay hW;have x0:W.cell? ⟨wr.heap.size,0,none⟩=some (.int .i64 op):=hxb.cell 0;have x4:W.cell? ⟨wr.heap.size,4,none⟩=some (.int .i64 (m:Int)):=hxb.cell 4;have x5:W.cell? ⟨wr.heap.size,5,none⟩=some (.int .i64 b):=hxb.cell 5;have y1:W.cell? ⟨g,j,none⟩=some (.int .i64 ((m:Int)+1)):=hct.out W hWb;have y2:W.cell? ⟨g,m,none⟩=some (.int .i64 (b2:Nat)):=hct2.out W hWb;replace hWb:=Hd hWb;replace hxb:=Hd hxb;clear hW)
             |(go_at_call 148;refine(k2.out op _).mono ?_;rw[hun2.out];rintro e W0 ⟨rfl,hW0⟩;obtain rfl:=hW0.symm)
             |(go_at_call 149;refine(k3.out op _).mono ?_;rw[hbi2.out];rintro e W0 ⟨rfl,hW0⟩;obtain rfl:=hW0.symm)
            go_quiet (fail);replace hWb:=Hd (below_drewN hWb.out nq);go_wp2_with first
             |(at_builtin;refine wpa rfl (.tmp 104) (.tmp 110) _ rfl (m:=1) (news:=[btD b2]) elInt (hol.out _ hWb.out (.cells ⟨[.int .i64 (b2:Nat)]⟩ 3)) rfl rfl (Src.lit (show RdL _ _ [.int .i64 (b2:Nat)] [btD b2]from⟨.v _ rfl,trivial⟩)) rfl (by omega) (by omega) (by have h1:=hWb.out.size;have h2:=hsz.out;first|(simp;omega)|(simp at h1;simp;omega)) ?_;intro v' w1 hO1 hg1 ha1;obtain⟨B3,d3,rfl⟩:=hO1.form;have hI3:=Hd (hup.out _ _ _ _ hWb.out hg1 hO1);clear hO1 hg1 ha1)
            go_roundw
            case rel=>exact .mk ((j+1)+1) _ _ (by go_num) hI3.out
            case measure=>simp[intOf];omega
           ·have fa:(a==(m:Int))=false:=(by rw[xV];exact ha);have fan:(a != (m:Int))=true:=by rw[bne,fa];rfl
            have hD:=Hd (fun W hW=>hdead.out W (hst (fun h=>ha (by have:=h.2.2.2;omega))) hW);replace ha:=Hd ha;replace hb:=Hd hb;clear hst;go_upto_region 15 with first
             |(go_at_call 147;refine(kl.out _ hBx.out).mono ?_;rw[hlf2.out];rintro e W ⟨rfl,hW⟩;have hWb:Bw wr W:=hBy.out.trans (hW.mono (by simp));have hxb:Blk W wr.heap.size 81 [.int .i64 op,.int .i64 n,.string v,.string at_,.int .i64 a,.int .i64 b]:=hxb0.out.stay hW;have x0:W.cell? ⟨wr.heap.size,0,none⟩=some (.int .i64 op):=hxb.cell 0;have x4:W.cell? ⟨wr.heap.size,4,none⟩=some (.int .i64 a):=hxb.cell 4;have x5:W.cell? ⟨wr.heap.size,5,none⟩=some (.int .i64 b):=hxb.cell 5;have y1:W.cell? ⟨g,j,none⟩=some (.int .i64 ((m:Int)+1)):=hct.out W hWb;replace hWb:=Hd hWb;replace hxb:=Hd hxb;clear hW)
             |(go_at_call 148;refine(k2.out op _).mono ?_;rw[hun2.out];rintro e W0 ⟨rfl,hW0⟩;obtain rfl:=hW0.symm)
             |(go_at_call 149;refine(k3.out op _).mono ?_;rw[hbi2.out];rintro e W0 ⟨rfl,hW0⟩;obtain rfl:=hW0.symm)
            go_quiet (fail);go_wp2;refine bodyPost_ret (results_tmp2 rfl _ _ _) rfl ?_;exact hD.out _ (below_drewN hWb.out _)
         ·have fb:(b==(j:Int))=false:=(by rw[xV];exact hb);have fbn:(b != (j:Int))=true:=by rw[bne,fb];rfl
          have hD:=Hd (fun W hW=>hdead.out W (hst (fun h=>hb h.2.1)) hW);replace hb:=Hd hb;clear hst;go_upto_region 15 with first
           |(go_at_call 147;refine(kl.out _ hBx.out).mono ?_;rw[hlf2.out];rintro e W ⟨rfl,hW⟩;have hWb:Bw wr W:=hBy.out.trans (hW.mono (by simp));have hxb:Blk W wr.heap.size 81 [.int .i64 op,.int .i64 n,.string v,.string at_,.int .i64 a,.int .i64 b]:=hxb0.out.stay hW;have x0:W.cell? ⟨wr.heap.size,0,none⟩=some (.int .i64 op):=hxb.cell 0;have x4:W.cell? ⟨wr.heap.size,4,none⟩=some (.int .i64 a):=hxb.cell 4;have x5:W.cell? ⟨wr.heap.size,5,none⟩=some (.int .i64 b):=hxb.cell 5;have _z:=True.intro;replace hWb:=Hd hWb;replace hxb:=Hd hxb;clear hW)
           |(go_at_call 148;refine(k2.out op _).mono ?_;rw[hun2.out];rintro e W0 ⟨rfl,hW0⟩;obtain rfl:=hW0.symm)
           |(go_at_call 149;refine(k3.out op _).mono ?_;rw[hbi2.out];rintro e W0 ⟨rfl,hW0⟩;obtain rfl:=hW0.symm)
          go_quiet (fail);go_wp2;refine bodyPost_ret (results_tmp2 rfl _ _ _) rfl ?_;exact hD.out _ (below_drewN hWb.out _)
  ·have hi:=hI.hi;obtain rfl:i=t.length:=by omega
   have g1:¬(t.length:Int)<t.length:=by omega
   have he:=hI.eq;rw[List.drop_length]at he;have hP:=Hd (show BPost t w (.returned (.tuple #[.slice A2 t.length c2,.bool true])) wr from ⟨_,_,rfl,hI.hb,.inr ⟨rfl,stk,bl,he,hI⟩⟩);clear hI he;go_wp2;refine bodyPost_ret (results_tmp2 rfl _ _ _) rfl ?_;exact hP.out
end ckW
theorem StkOk.tree {t:List Nd}{n b:Nat}{stk:List (Nat×Nat)}(h:StkOk t (n+1) stk)(heq:runT 0 [] t=some stk)(hb:Sp t b n):treeB t=decide (b=0):=by
 obtain⟨b',s,rfl,hsp,hs⟩:=h.top;obtain rfl:=hb.det hsp;unfold treeB;rw[heq];cases b with
 |zero=>rw[hs.bot];rfl
 |succ m=>
  cases hs with
  |cons h1 h2=>simp
namespace ckW
open nmW
theorem refTree_k (A:Option Addr)(c:Nat)(F:Nat→Prop)(t:List Nd)(hs:SzN t)(w:World)(hK:KwIs w)(hF:∀b,F b→b<w.heap.size)(r:Rd w F (.slice A t.length c) (.sl t.length (t.flatMap ndD))):
  Calls Tryz.prog 101 #[.slice A t.length c] w fun e w'=>e=.returned (.bool (treeB t))∧Bw w w':=by
 have kb:=begins_k A c F t hs w hK hF r;have hs1:=hs.1;clear r hF hK hs;cases hr:runT 0 [] t with
 |none=>
  have kb':Calls Tryz.prog 135 #[.slice A t.length c] w fun e W=>∃v,e=.returned (.tuple #[v,.bool false])∧Bw w W:=kb.mono fun e W h=>by
   obtain⟨v,ok,he,hb,h⟩:=h;rcases h with⟨rfl,_⟩|⟨_,stk,bl,h,_⟩
   ·exact⟨v,he,hb⟩
   ·rw[hr]at h;cases h
  clear kb;have ht:treeB t=false:=by unfold treeB;rw[hr]
  rw[ht];replace kb':=Hd kb';clear hr ht;go_enter Tryz.func101,Tryz.ntmps101;go_wp2_with first
   |(go_at_call 135;refine kb'.out.mono ?_;rintro e W ⟨v,rfl,hW⟩;replace hW:=Hd hW)
  go_ret;exact⟨rfl,hW.out⟩
 |some stk=>
  have kb':Calls Tryz.prog 135 #[.slice A t.length c] w fun e W=>∃v bl,e=.returned (.tuple #[v,.bool true])∧Bw w W∧BI t w W t.length stk v bl:=kb.mono fun e W h=>by
   obtain⟨v,ok,he,hb,h⟩:=h;rcases h with⟨_,h⟩|⟨rfl,stk2,bl,h,hI⟩
   ·rw[hr]at h;cases h
   ·rw[hr]at h;injection h with h;subst h;exact⟨v,bl,he,hb,hI⟩
  clear kb;by_cases hn:t.length=0
  ·have ht:treeB t=false:=by obtain rfl:=List.eq_nil_of_length_eq_zero hn;rfl
   rw[ht];replace kb':=Hd kb';have g0:¬(0<(t.length:Int)):=by omega
   clear hr ht;replace hn:=Hd hn;go_enter Tryz.func101,Tryz.ntmps101;go_wp2_with first
    |(go_at_call 135;refine kb'.out.mono ?_;rintro e W ⟨v,bl,rfl,hW,hI⟩;replace hW:=Hd hW;replace hI:=Hd hI)
   go_ret;exact⟨rfl,hW.out⟩
  ·obtain⟨n,hn⟩:∃n,t.length=n+1:=⟨t.length-1,by omega⟩
   rw[hn]at kb' ⊢;replace kb':=Hd kb';have hr':=Hd hr;have n1:(0:Int)<(n:Int)+1:=by omega
   have n2:(0:Int)≤(n:Int):=by omega
   have n3:(n:Int)<(n:Int)+1:=by omega
   have nw:IntKind.i64.wrap (n:Int)=n:=by rw[xI];omega
   have n4:n≤1048576:=by omega
   clear hr hs1;replace hn:=Hd hn;go_enter Tryz.func101,Tryz.ntmps101;go_wp2_with first
    |(go_at_call 135;refine kb'.out.mono ?_;rintro e W ⟨v,bl,rfl,hW,hI⟩;obtain⟨A2,c2,rfl⟩:=hI.ol.form;obtain⟨g,b,rfl,hsp,hct⟩:=hI.at_ (r:=n) (Nat.lt_succ_self n);have q1:=hct W bR;have hb:treeB t=decide (b=0):=hI.st.tree hr'.out hsp;clear hct hsp hI;replace hW:=Hd hW;replace hb:=Hd hb)
   go_ret;have hfin:treeB t=((b:Int)==0):=by rw[hb.out];by_cases h:b=0<;>simp[h]
   exact⟨rtB hfin.symm,hW.out⟩
end ckW
end Go.Proofs.YtfiodnlgiglhfaaGreatDoor
