/- The law's look at a query's depth. -/
import Derived.Test.YtfiodnlgiglhfaaGreatDoorY1
import Derived.Deep.DeepAppendRoom
namespace Go.Proofs.YtfiodnlgiglhfaaGreatDoor
set_option maxRecDepth 100000
set_option maxHeartbeats 16000000
open Go.RowKit Go.Deep
set_option linter.unusedVariables false
set_option linter.unusedSimpArgs false
def ABl (w w':World)(e:Ending):Prop:=∃b:Bool,e=.returned (.bool b)∧Bw w w'
def DepL (L:List D):Prop:=∀x∈L,∃d:Int,x=.v (.int .i64 d)∧0≤d∧d≤65536
theorem DepL.snoc {L:List D}{d:Int}(h:DepL L)(h0:0≤d)(h1:d≤65536):DepL (L++[.v (.int .i64 d)]):=fun x hx=>by
 rcases zM.1 hx with hx |hx
 ·exact h x hx
 ·rw[xB]at hx;exact⟨d,hx,h0,h1⟩
namespace lawW
open nmW ckW
theorem beyond_k (A:Option Addr)(c:Nat)(F:Nat→Prop)(t:List Nd)(hl:t.length≤1048576)(w:World)(hF:∀b,F b→b<w.heap.size)(r:Rd w F (.slice A t.length c) (.sl t.length (t.flatMap ndD))):
  Calls Tryz.prog 14 #[.slice A t.length c] w fun e w'=>ABl w w' e:=by
 replace r:=Hd r;replace hF:=Hd hF;go_enter Tryz.func14,Tryz.ntmps14;go_wp2;go_loopw [3,4] (fun v x wr=>∃(j:Nat)(L:List D),j≤t.length∧x=.int .i64 j∧OL wr w.heap.size NoF 3 1 v j L∧DepL L∧Bw w wr) (fun _ x _=>t.length- (intOf x).toNat)
 case atStart=>exact⟨0,[],zE _,rfl,.nil _ _ _ _ _,fun x hx=>by simp at hx,bR⟩
 case round=>
  obtain⟨j,L,hj,rfl,hO,hD,hB⟩:=hrel;by_cases hlt:j<t.length
  ·obtain⟨⟨op,nn,vv,at_,a,b⟩,hx⟩:=getx hlt;obtain⟨gN,oN,rfl,hFN,n0,n1,n2,n3,n4,n5⟩:=nd_at r.out hx;have hgN:=hF.out gN hFN;have a4:=(hB.cell (p:=⟨gN,oN+j*6+4,none⟩) hgN).trans n4;have a5:=(hB.cell (p:=⟨gN,oN+j*6+5,none⟩) hgN).trans n5;simp only at a4 a5;clear n0 n1 n2 n3 n4 n5;have g0:(0:Int)≤(j:Int):=by omega
   have g1:(j:Int)<t.length:=by omega
   obtain⟨Ao,co,rfl⟩:=hO.form;have hll:=hO.len;have get:∀m:Nat,m<j→∃(g:Nat)(d:Int),Ao=some ⟨g,0,none⟩∧wr.cell? ⟨g,m,none⟩=some (.int .i64 d)∧0≤d∧d≤65536:=fun m hm=>by
    obtain⟨g,cap,e,_,_,_,hc⟩:=hO.row (by omega);injection e with e _ _
    obtain⟨x,hxm⟩:=getx (l:=L) (i:=m) (by omega);obtain⟨d,rfl,h0,h1⟩:=hD x (zA hxm);obtain⟨u,hu,hr⟩:=hc m _ hxm;rw[hr.v_inv]at hu;exact⟨g,d,e,hu,h0,h1⟩
   have hsz:=hB.size;have hOc:=Hd hO;replace hD:=Hd hD;replace hB:=Hd hB;clear hx hO;have hA:(a<0)∨(0≤a∧(j:Int)≤a)∨∃m:Nat,a=m∧m<j:=by
    by_cases h:a<0
    ·exact .inl h
    ·by_cases h2:(j:Int)≤a
     ·exact .inr (.inl ⟨by omega,h2⟩)
     ·exact .inr (.inr ⟨a.toNat,by omega,by omega⟩)
   have hBc:(b<0)∨(0≤b∧(j:Int)≤b)∨∃m:Nat,b=m∧m<j:=by
    by_cases h:b<0
    ·exact .inl h
    ·by_cases h2:(j:Int)≤b
     ·exact .inr (.inl ⟨by omega,h2⟩)
     ·exact .inr (.inr ⟨b.toNat,by omega,by omega⟩)
   obtain⟨g,hg⟩:∃g,0<j→Ao=some ⟨g,0,none⟩:=by
    by_cases h:0<j
    ·obtain⟨g,_,e,_⟩:=get 0 h;exact⟨g,fun _=>e⟩
    ·exact⟨0,fun h2=>absurd h2 h⟩
   replace get:∀m:Nat,m<j→∃d:Int,wr.cell? ⟨g,m,none⟩=some (.int .i64 d)∧0≤d∧d≤65536:=fun m hm=>by
    obtain⟨g2,d,e,h⟩:=get m hm;rw[hg (by omega)]at e;injection e with e
    injection e with e
    subst e;exact⟨d,h⟩
   rcases hA with ha |⟨ha,ha2⟩|⟨ma,rfl,hma⟩
   ·have e1:¬(0≤a):=(by omega);rcases hBc with hb |⟨hb,hb2⟩|⟨mb,rfl,hmb⟩
    ·have f1:¬(0≤b):=(by omega);go_wp2_with (at_builtin;refine wpa rfl (.tmp 72) (.tmp 75) _ rfl (m:=1) (news:=[D.v (.int .i64 (1))]) elInt (hOc.out.alloc _) rfl rfl (Src.lit (show RdL wr _ [.int .i64 (1)] [D.v (.int .i64 (1))]from⟨.v _ rfl,trivial⟩)) rfl (by omega) (by omega) (by simp;omega) ?_;intro v' w1 hO1 hg1 ha1;have hB1:=Hd ((hB.out.alloc hB.out.size _).grown hg1 (by simp;omega) (fun q hq=>(hOc.out.lt q hq).1)));go_roundw
     case rel=>exact⟨j+1,_,by omega,by go_num,hO1,hD.out.snoc (by omega) (by omega),hB1.out⟩
     case measure=>simp[intOf];omega
    ·have f1:¬(b<(j:Int)):=(by omega);go_wp2_with (at_builtin;refine wpa rfl (.tmp 72) (.tmp 75) _ rfl (m:=1) (news:=[D.v (.int .i64 (1))]) elInt (hOc.out.alloc _) rfl rfl (Src.lit (show RdL wr _ [.int .i64 (1)] [D.v (.int .i64 (1))]from⟨.v _ rfl,trivial⟩)) rfl (by omega) (by omega) (by simp;omega) ?_;intro v' w1 hO1 hg1 ha1;have hB1:=Hd ((hB.out.alloc hB.out.size _).grown hg1 (by simp;omega) (fun q hq=>(hOc.out.lt q hq).1)));go_roundw
     case rel=>exact⟨j+1,_,by omega,by go_num,hO1,hD.out.snoc (by omega) (by omega),hB1.out⟩
     case measure=>simp[intOf];omega
    ·obtain⟨db,cb,db0,db1⟩:=get mb hmb;have eB:=hg (by omega);try subst eB
     have k0:(0:Int)≤(mb:Int):=(by omega);have k1:(mb:Int)<(j:Int):=by omega
     by_cases hgt:0<db
     ·have hgt2:db>0:=hgt;by_cases hE:65536≤db
      ·have hE2:db≥65536:=hE;go_wp2;go_ret;exact⟨_,rfl,hB.out⟩
      ·have hE2:¬db≥65536:=hE;have nw:IntKind.i64.wrap (db+1)=db+1:=by rw[xI];omega
       go_wp2_with (at_builtin;refine wpa rfl (.tmp 72) (.tmp 75) _ rfl (m:=1) (news:=[D.v (.int .i64 (db+1))]) elInt (hOc.out.alloc _) rfl rfl (Src.lit (show RdL wr _ [.int .i64 (db+1)] [D.v (.int .i64 (db+1))]from⟨.v _ rfl,trivial⟩)) rfl (by omega) (by omega) (by simp;omega) ?_;intro v' w1 hO1 hg1 ha1;have hB1:=Hd ((hB.out.alloc hB.out.size _).grown hg1 (by simp;omega) (fun q hq=>(hOc.out.lt q hq).1)));go_roundw
       case rel=>exact⟨j+1,_,by omega,by go_num,hO1,hD.out.snoc (by omega) (by omega),hB1.out⟩
       case measure=>simp[intOf];omega
     ·have hgt2:¬db>0:=hgt;go_wp2_with (at_builtin;refine wpa rfl (.tmp 72) (.tmp 75) _ rfl (m:=1) (news:=[D.v (.int .i64 (1))]) elInt (hOc.out.alloc _) rfl rfl (Src.lit (show RdL wr _ [.int .i64 (1)] [D.v (.int .i64 (1))]from⟨.v _ rfl,trivial⟩)) rfl (by omega) (by omega) (by simp;omega) ?_;intro v' w1 hO1 hg1 ha1;have hB1:=Hd ((hB.out.alloc hB.out.size _).grown hg1 (by simp;omega) (fun q hq=>(hOc.out.lt q hq).1)));go_roundw
      case rel=>exact⟨j+1,_,by omega,by go_num,hO1,hD.out.snoc (by omega) (by omega),hB1.out⟩
      case measure=>simp[intOf];omega
   ·have e1:¬(a<(j:Int)):=(by omega);rcases hBc with hb |⟨hb,hb2⟩|⟨mb,rfl,hmb⟩
    ·have f1:¬(0≤b):=(by omega);go_wp2_with (at_builtin;refine wpa rfl (.tmp 72) (.tmp 75) _ rfl (m:=1) (news:=[D.v (.int .i64 (1))]) elInt (hOc.out.alloc _) rfl rfl (Src.lit (show RdL wr _ [.int .i64 (1)] [D.v (.int .i64 (1))]from⟨.v _ rfl,trivial⟩)) rfl (by omega) (by omega) (by simp;omega) ?_;intro v' w1 hO1 hg1 ha1;have hB1:=Hd ((hB.out.alloc hB.out.size _).grown hg1 (by simp;omega) (fun q hq=>(hOc.out.lt q hq).1)));go_roundw
     case rel=>exact⟨j+1,_,by omega,by go_num,hO1,hD.out.snoc (by omega) (by omega),hB1.out⟩
     case measure=>simp[intOf];omega
    ·have f1:¬(b<(j:Int)):=(by omega);go_wp2_with (at_builtin;refine wpa rfl (.tmp 72) (.tmp 75) _ rfl (m:=1) (news:=[D.v (.int .i64 (1))]) elInt (hOc.out.alloc _) rfl rfl (Src.lit (show RdL wr _ [.int .i64 (1)] [D.v (.int .i64 (1))]from⟨.v _ rfl,trivial⟩)) rfl (by omega) (by omega) (by simp;omega) ?_;intro v' w1 hO1 hg1 ha1;have hB1:=Hd ((hB.out.alloc hB.out.size _).grown hg1 (by simp;omega) (fun q hq=>(hOc.out.lt q hq).1)));go_roundw
     case rel=>exact⟨j+1,_,by omega,by go_num,hO1,hD.out.snoc (by omega) (by omega),hB1.out⟩
     case measure=>simp[intOf];omega
    ·obtain⟨db,cb,db0,db1⟩:=get mb hmb;have eB:=hg (by omega);try subst eB
     have k0:(0:Int)≤(mb:Int):=(by omega);have k1:(mb:Int)<(j:Int):=by omega
     by_cases hgt:0<db
     ·have hgt2:db>0:=hgt;by_cases hE:65536≤db
      ·have hE2:db≥65536:=hE;go_wp2;go_ret;exact⟨_,rfl,hB.out⟩
      ·have hE2:¬db≥65536:=hE;have nw:IntKind.i64.wrap (db+1)=db+1:=by rw[xI];omega
       go_wp2_with (at_builtin;refine wpa rfl (.tmp 72) (.tmp 75) _ rfl (m:=1) (news:=[D.v (.int .i64 (db+1))]) elInt (hOc.out.alloc _) rfl rfl (Src.lit (show RdL wr _ [.int .i64 (db+1)] [D.v (.int .i64 (db+1))]from⟨.v _ rfl,trivial⟩)) rfl (by omega) (by omega) (by simp;omega) ?_;intro v' w1 hO1 hg1 ha1;have hB1:=Hd ((hB.out.alloc hB.out.size _).grown hg1 (by simp;omega) (fun q hq=>(hOc.out.lt q hq).1)));go_roundw
       case rel=>exact⟨j+1,_,by omega,by go_num,hO1,hD.out.snoc (by omega) (by omega),hB1.out⟩
       case measure=>simp[intOf];omega
     ·have hgt2:¬db>0:=hgt;go_wp2_with (at_builtin;refine wpa rfl (.tmp 72) (.tmp 75) _ rfl (m:=1) (news:=[D.v (.int .i64 (1))]) elInt (hOc.out.alloc _) rfl rfl (Src.lit (show RdL wr _ [.int .i64 (1)] [D.v (.int .i64 (1))]from⟨.v _ rfl,trivial⟩)) rfl (by omega) (by omega) (by simp;omega) ?_;intro v' w1 hO1 hg1 ha1;have hB1:=Hd ((hB.out.alloc hB.out.size _).grown hg1 (by simp;omega) (fun q hq=>(hOc.out.lt q hq).1)));go_roundw
      case rel=>exact⟨j+1,_,by omega,by go_num,hO1,hD.out.snoc (by omega) (by omega),hB1.out⟩
      case measure=>simp[intOf];omega
   ·obtain⟨da,ca,da0,da1⟩:=get ma hma;have eA:=hg (by omega);subst eA;have i0:(0:Int)≤(ma:Int):=by omega
    have i1:(ma:Int)<(j:Int):=(by omega);rcases hBc with hb |⟨hb,hb2⟩|⟨mb,rfl,hmb⟩
    ·have f1:¬(0≤b):=(by omega);by_cases hE:65536≤da
     ·have hE2:da≥65536:=hE;go_wp2;go_ret;exact⟨_,rfl,hB.out⟩
     ·have hE2:¬da≥65536:=hE;have nw:IntKind.i64.wrap (da+1)=da+1:=by rw[xI];omega
      go_wp2_with (at_builtin;refine wpa rfl (.tmp 72) (.tmp 75) _ rfl (m:=1) (news:=[D.v (.int .i64 (da+1))]) elInt (hOc.out.alloc _) rfl rfl (Src.lit (show RdL wr _ [.int .i64 (da+1)] [D.v (.int .i64 (da+1))]from⟨.v _ rfl,trivial⟩)) rfl (by omega) (by omega) (by simp;omega) ?_;intro v' w1 hO1 hg1 ha1;have hB1:=Hd ((hB.out.alloc hB.out.size _).grown hg1 (by simp;omega) (fun q hq=>(hOc.out.lt q hq).1)));go_roundw
      case rel=>exact⟨j+1,_,by omega,by go_num,hO1,hD.out.snoc (by omega) (by omega),hB1.out⟩
      case measure=>simp[intOf];omega
    ·have f1:¬(b<(j:Int)):=(by omega);by_cases hE:65536≤da
     ·have hE2:da≥65536:=hE;go_wp2;go_ret;exact⟨_,rfl,hB.out⟩
     ·have hE2:¬da≥65536:=hE;have nw:IntKind.i64.wrap (da+1)=da+1:=by rw[xI];omega
      go_wp2_with (at_builtin;refine wpa rfl (.tmp 72) (.tmp 75) _ rfl (m:=1) (news:=[D.v (.int .i64 (da+1))]) elInt (hOc.out.alloc _) rfl rfl (Src.lit (show RdL wr _ [.int .i64 (da+1)] [D.v (.int .i64 (da+1))]from⟨.v _ rfl,trivial⟩)) rfl (by omega) (by omega) (by simp;omega) ?_;intro v' w1 hO1 hg1 ha1;have hB1:=Hd ((hB.out.alloc hB.out.size _).grown hg1 (by simp;omega) (fun q hq=>(hOc.out.lt q hq).1)));go_roundw
      case rel=>exact⟨j+1,_,by omega,by go_num,hO1,hD.out.snoc (by omega) (by omega),hB1.out⟩
      case measure=>simp[intOf];omega
    ·obtain⟨db,cb,db0,db1⟩:=get mb hmb;have eB:=hg (by omega);try subst eB
     have k0:(0:Int)≤(mb:Int):=(by omega);have k1:(mb:Int)<(j:Int):=by omega
     by_cases hgt:da<db
     ·have hgt2:db>da:=hgt;by_cases hE:65536≤db
      ·have hE2:db≥65536:=hE;go_wp2;go_ret;exact⟨_,rfl,hB.out⟩
      ·have hE2:¬db≥65536:=hE;have nw:IntKind.i64.wrap (db+1)=db+1:=by rw[xI];omega
       go_wp2_with (at_builtin;refine wpa rfl (.tmp 72) (.tmp 75) _ rfl (m:=1) (news:=[D.v (.int .i64 (db+1))]) elInt (hOc.out.alloc _) rfl rfl (Src.lit (show RdL wr _ [.int .i64 (db+1)] [D.v (.int .i64 (db+1))]from⟨.v _ rfl,trivial⟩)) rfl (by omega) (by omega) (by simp;omega) ?_;intro v' w1 hO1 hg1 ha1;have hB1:=Hd ((hB.out.alloc hB.out.size _).grown hg1 (by simp;omega) (fun q hq=>(hOc.out.lt q hq).1)));go_roundw
       case rel=>exact⟨j+1,_,by omega,by go_num,hO1,hD.out.snoc (by omega) (by omega),hB1.out⟩
       case measure=>simp[intOf];omega
     ·have hgt2:¬db>da:=hgt;by_cases hE:65536≤da
      ·have hE2:da≥65536:=hE;go_wp2;go_ret;exact⟨_,rfl,hB.out⟩
      ·have hE2:¬da≥65536:=hE;have nw:IntKind.i64.wrap (da+1)=da+1:=by rw[xI];omega
       go_wp2_with (at_builtin;refine wpa rfl (.tmp 72) (.tmp 75) _ rfl (m:=1) (news:=[D.v (.int .i64 (da+1))]) elInt (hOc.out.alloc _) rfl rfl (Src.lit (show RdL wr _ [.int .i64 (da+1)] [D.v (.int .i64 (da+1))]from⟨.v _ rfl,trivial⟩)) rfl (by omega) (by omega) (by simp;omega) ?_;intro v' w1 hO1 hg1 ha1;have hB1:=Hd ((hB.out.alloc hB.out.size _).grown hg1 (by simp;omega) (fun q hq=>(hOc.out.lt q hq).1)));go_roundw
       case rel=>exact⟨j+1,_,by omega,by go_num,hO1,hD.out.snoc (by omega) (by omega),hB1.out⟩
       case measure=>simp[intOf];omega
  ·obtain rfl:j=t.length:=by omega
   replace hO:=Hd hO;replace hB:=Hd hB;replace hD:=Hd hD;go_wp2;go_ret;exact⟨_,rfl,hB.out⟩
theorem queryBeyond_k (F:Nat→Prop)(q:Qy)(s:Sl3)(hs:SzQ q)(w:World)(R:QR w F q s):
  Calls Tryz.prog 4 #[.agg ⟨qV q s⟩] w fun e w'=>ABl w w' e:=by
 have h0:=QB.new q s w;have hF:=R.lt;have kre:=fun(i:Nat) t (hi:q.ret[i]? =some t)=>re_at R.r3 hi
 have kb:=fun(A:Option Addr)(c:Nat) t (hl:t.length≤1048576)(r1:Rd w F (.slice A t.length c) (.sl t.length (t.flatMap ndD))) W (hW:Bw w W)=>beyond_k A c F t hl W (fun b h=>zF (hF b h) hW.size) (r1.under hW hF)
 have kw:=kb s.a2 s.c2 q.wh hs.wh.1 R.r2 _ h0.1;have hrl:=hs.rl;have hres:=hs.re;obtain⟨A1,c1,A2,c2,A3,c3⟩:=s;try simp only at kre kw
 simp only[qV]at h0 kw ⊢;replace h0:=Hd h0;replace hF:=Hd hF;replace kre:=Hd kre;replace kb:=Hd kb;replace kw:=Hd kw;replace hres:=Hd hres;clear R hs;go_enter Tryz.func4,Tryz.ntmps4;go_upto_region 2 with(go_at_call 14;refine kw.out.mono ?_;rintro e W1 ⟨b1,rfl,hB1⟩)
 have hQ1:=Hd (h0.out.stay hB1);clear hB1 kw h0;go_wp2;go_loopw [3,4] (fun v i wr=>∃(k:Nat)(b:Bool),k≤q.ret.length∧i=.int .i64 k∧v=.bool b∧QB q ⟨A1,c1,A2,c2,A3,c3⟩ w wr) (fun _ i _=>q.ret.length- (intOf i).toNat)
 case atStart=>exact⟨0,_,zE _,rfl,rfl,hQ1.out⟩
 case round=>
  clear hQ1;obtain⟨k,b,hk,rfl,rfl,hQ⟩:=hrel;have hBr:=hQ.1;have hbr:=hBr.size;have y6:wr.cell? ⟨w.heap.size,6,none⟩=some (.slice A3 q.ret.length c3):=hQ.2.cell 6;by_cases hlt3:k<q.ret.length
  ·obtain⟨t,ht⟩:=getx hlt3;have htm:=zA ht;obtain⟨gR,oR,A6,c6,eR,hFR,rt0,r0⟩:=kre.out k t ht;try simp only at eR
   subst eR;have hgR:=hF.out gR hFR;have r1:=(hBr.cell (p:=⟨gR,oR+k,none⟩) hgR).trans r0;have p0:(0:Int)≤(k:Int):=by omega
   have p1:(k:Int)<q.ret.length:=by omega
   have ktt:=Hd (kb.out A6 c6 t (hres.out t htm).1 rt0 wr hBr);replace ht:=Hd ht;replace htm:=Hd htm;replace rt0:=Hd rt0;replace hQ:=Hd hQ;replace hBr:=Hd hBr;clear r0;go_upto_region 6 with(go_at_call 14;refine ktt.out.mono ?_;rintro e W8 ⟨b8,rfl,hB8⟩)
   have hQ8:=Hd (hQ.out.stay hB8);clear hB8 y6 r1;cases b with
   |true=>
    go_wp2;go_roundw
    case rel=>exact⟨k+1,_,by omega,by go_num,rfl,hQ8.out⟩
    case measure=>simp[intOf];omega
   |false=>
    go_wp2;go_roundw
    case rel=>exact⟨k+1,_,by omega,by go_num,rfl,hQ8.out⟩
    case measure=>simp[intOf];omega
  ·obtain rfl:k=q.ret.length:=by omega
   replace hQ:=Hd hQ;replace hBr:=Hd hBr;go_wp2;go_ret;exact⟨_,rfl,hBr.out⟩
end lawW
def mk {β:Type}(a:β)(m:Nat)(t:List β):List β:=List.replicate m a++t.drop m
theorem mk_0 {β:Type}(a:β)(t:List β):mk a 0 t=t:=by simp[mk]
theorem mk_len {β:Type}(a:β){m:Nat}{t:List β}(h:m≤t.length):(mk a m t).length=t.length:=by simp[mk];omega
theorem mk_set {β:Type}(a:β){m:Nat}{t:List β}(h:m<t.length):(mk a m t).set m a=mk a (m+1) t:=by
 unfold mk;rw[List.set_append_right _ _ (by simp),List.length_replicate,Nat.sub_self,List.drop_eq_getElem_cons h,List.set_cons_zero,List.replicate_succ',zR];rfl
theorem mk_all {β:Type}(a:β)(t:List β):mk a t.length t=List.replicate t.length a:=by simp[mk]
theorem mk_get {β:Type}(a:β){m:Nat}{t:List β}{x:β}(h:t[m]? =some x):(mk a m t)[m]? =some x:=by
 unfold mk;rw[zP (by simp),List.length_replicate,Nat.sub_self,xT];exact h
section
variable {α:Type}{f:Nat→Nat→α→α}{n:α→Nat}{l:List (α×Value)}{i j k:Nat}{p:α×Value}
def mapF (f:Nat→Nat→α→α)(n:α→Nat)(l:List (α×Value))(i j:Nat):List (α×Value):=l.mapIdx fun k p=>if k<i then(f k (n p.1) p.1,p.2)else if k=i then(f k j p.1,p.2)else p
theorem mapF_len (f:Nat→Nat→α→α)(n:α→Nat)(l:List (α×Value))(i j:Nat):(mapF f n l i j).length=l.length:=by simp[mapF]
theorem mapF_get (h:l[k]? =some p):(mapF f n l i j)[k]? =some (if k<i then(f k (n p.1) p.1,p.2)else if k=i then(f k j p.1,p.2)else p):=by unfold mapF;rw[xQ,h];rfl
theorem mapF_at (h:l[i]? =some p):(mapF f n l i j)[i]? =some (f i j p.1,p.2):=by rw[mapF_get h,if_neg (Nat.lt_irrefl i),if_pos rfl]
theorem mapF_set (h:l[i]? =some p):(mapF f n l i j).set i (f i (j+1) p.1,p.2)=mapF f n l i (j+1):=by
 apply List.ext_getElem?;intro k;rw[xL];by_cases hk:i=k
 ·subst hk;have hi:=(zC.1 h).1;rw[if_pos rfl,mapF_at h,if_pos (by rw[mapF_len];exact hi)]
 ·rw[if_neg hk];unfold mapF;rw[xQ,xQ];by_cases h1:k<i
  ·simp only[if_pos h1]
  ·simp only[if_neg h1,if_neg (fun e:k=i=>hk e.symm)]
theorem mapF_next (hf:∀k x,f k 0 x=x)(h:l[i]? =some p):mapF f n l i (n p.1)=mapF f n l (i+1) 0:=by
 apply List.ext_getElem?;intro k;cases hk:l[k]? with
 |none=>
  unfold mapF;rw[xQ,xQ,hk];rfl
 |some x=>
  rw[mapF_get hk,mapF_get hk];rcases Nat.lt_trichotomy k i with h1 |h1 |h1
  ·rw[if_pos h1,if_pos (show k<i+1 by omega)]
  ·subst h1;rw[h]at hk;injection hk with hk;subst hk
   rw[if_neg (Nat.lt_irrefl k),if_pos rfl,if_pos (Nat.lt_succ_self k)]
  ·rw[if_neg (by omega),if_neg (by omega),if_neg (show¬k<i+1 by omega)];by_cases h2:k=i+1
   ·rw[if_pos h2,hf]
   ·rw[if_neg h2]
theorem mapF_00 (hf:∀k x,f k 0 x=x):mapF f n l 0 0=l:=by
 apply List.ext_getElem?;intro k;cases hk:l[k]? with
 |none=>
  unfold mapF;rw[xQ,hk];rfl
 |some x=>
  rw[mapF_get hk,if_neg (by omega)];by_cases h2:k=0
  ·rw[if_pos h2,hf]
  ·rw[if_neg h2]
end
def fIt (k m:Nat)(it:It):It:={it with tys:=mk (evW.mkS k) m it.tys}
def nIt (it:It):Nat:=it.tys.length
theorem fIt_0 (k:Nat)(x:It):fIt k 0 x=x:=by unfold fIt;rw[mk_0]
def ndA (a:Int):Nd:=⟨0,0,emp,emp,a,0⟩
def fRe (k m:Nat)(t:List Nd):List Nd:=mk (ndA (900+(k:Int))) m t
theorem fRe_0 (k:Nat)(x:List Nd):fRe k 0 x=x:=mk_0 _ _
def setL:List D→Nat→List D→List D
 |ds,_,[]=>ds
 |ds,k,d::r=>setL (ds.set k d) (k+1) r
theorem setL_app (p:List D):∀(us R:List D)(k:Nat),setL (p++R) (p.length+k) us=p++setL R k us
 | [],R,k=>rfl
 |d::r,R,k=>by
  rw[setL,setL,List.set_append_right _ _ (by omega),show p.length+k-p.length=k by omega,show p.length+k+1=p.length+(k+1) by omega];exact setL_app p r (R.set k d) (k+1)
theorem nd_sets {y:Nd}:∀{t:List Nd}{j:Nat}{x:Nd},t[j]? =some x→setL (t.flatMap ndD) (j*6) (ndD y)=(t.set j y).flatMap ndD:=by
 intro t;induction t with
 |nil=>intro j x h;simp at h
 |cons a t ih=>
  intro j x h;cases j with
  |zero=>rfl
  |succ j=>
   rw[List.set_cons_succ,zK,zK,show(j+1)*6=(ndD a).length+j*6 by show(j+1)*6=6+j*6;omega,setL_app];rw[ih (by simpa using h)]
theorem OL.sets {B e size n g cap:Nat}:∀(vs:List Value)(w:World)(ds:List D)(k:Nat),OL w B NoB e size (.slice (some ⟨g,0,none⟩) n cap) n ds→(∀u∈vs,u.oneCell'=true)→
  OL (w.setCells g k vs) B NoB e size (.slice (some ⟨g,0,none⟩) n cap) n (setL ds k (vs.map .v))∧w.grownBy (w.setCells g k vs) (some g)
 | [],w,ds,k,h,_=>⟨h,World.grownBy.refl _ _⟩
 |u::r,w,ds,k,h,hu=>by
  obtain⟨h1,h2⟩:=OL.sets r (w.setCell ⟨g,k,none⟩ u) (ds.set k (.v u)) (k+1) (h.set (.v _ (hu u (by simp)))) (fun x hx=>hu x (by simp[hx]));exact⟨h1,grown_ext grown_set h2 fun q hq=>.inr (by injection hq with hq;exact hq.symm)⟩
section
variable {α:Type}{K:RK α}{w w1:World}{B g cap i:Nat}{v:Value}{l:List (α×Value)}{p:α×Value}{p':α}
theorem set_get {a:Nat}{x:α×Value}(hp:l[i]? =some p)(hx:(l.set i (p',p.2))[a]? =some x):∃x',l[a]? =some x'∧x.2=x'.2:=by
 rw[xL]at hx;by_cases ha:i=a
 ·rw[if_pos ha]at hx;split at hx
  ·injection hx with hx;subst hx;subst ha;exact⟨p,hp,rfl⟩
  ·cases hx
 ·rw[if_neg ha]at hx;exact⟨x,hx,rfl⟩
theorem set_flat {f:α×Value→List D}:∀{l:List (α×Value)}{i:Nat},l[i]? =some p→f (p',p.2)=f p→(l.set i (p',p.2)).flatMap f=l.flatMap f:=by
 intro l;induction l with
 |nil=>intro i hp;simp at hp
 |cons a l ih=>
  intro i hp hf;cases i with
  |zero=>
   simp only[zY,Option.some.injEq]at hp;subst hp;rw[List.set_cons_zero,zK,zK,hf]
  |succ k=>
   simp only[xA]at hp;rw[List.set_cons_succ,zK,zK,ih hp hf]
theorem RW.setF (hK:K.e≠K.es)(h:RW K w B v l)(hp:l[i]? =some p)(hf:K.f (p',p.2)=K.f p)(hg:w.grownBy w1 p.2.ownBlock)(hO:OL w1 B NoB K.es K.ss p.2 (K.n p') (K.ds p')):RW K w1 B v (l.set i (p',p.2)):=by
 have hfp:=h.fr p (zA hp);refine⟨?_,fun q hq=>?_,fun a b x y hx hy hab=>?_⟩
 ·rw[set_flat hp hf,List.length_set];exact h.kr.kept hg (h.kr.ne hfp hK) (fun _ hb=>hb.elim)
 ·obtain⟨j,hj⟩:=zN hq;rw[xL]at hj;by_cases hij:i=j
  ·rw[if_pos hij]at hj;split at hj
   ·injection hj with hj;subst hj;exact hO
   ·cases hj
  ·rw[if_neg hij]at hj;exact(h.fr q (zA hj)).kept hg (h.ne j i q p hj hp (fun e=>hij e.symm)) (fun _ hb=>hb.elim)
 ·obtain⟨x',hx',e1⟩:=set_get hp hx;obtain⟨y',hy',e2⟩:=set_get hp hy;rw[e1,e2];exact h.ne a b x' y' hx' hy' hab
end
section
variable {w w1:World}{B i:Nat}{v1 v2 v3:Value}{l:List (It×Value)}{wh wh':List Nd}{rl:List (List Nd×Value)}
theorem OQ.setI {p:It×Value}{p':It}(h:OQ w B v1 v2 v3 l wh rl)(hp:l[i]? =some p)(hf:icD (p',p.2)=icD p)(hg:w.grownBy w1 p.2.ownBlock)(hO:OL w1 B NoB 9 1 p.2 p'.tys.length (p'.tys.flatMap strD)):OQ w1 B v1 v2 v3 (l.set i (p',p.2)) wh rl:=by
 have hfp:OL w B NoB 9 1 p.2 p.1.tys.length (p.1.tys.flatMap strD):=h.i.fr p (zA hp);exact⟨h.i.setF KI_ne hp hf hg hO,h.wr.kept hg (h.wr.ne hfp (by decide)) (fun _ hb=>hb.elim),h.r.kept hg (h.r.kr.ne hfp (by decide)) (fun q hq=>(h.r.fr q hq).ne hfp (by decide)),h.ne⟩
theorem OQ.setW (h:OQ w B v1 v2 v3 l wh rl)(hg:w.grownBy w1 v2.ownBlock)(hO:OL w1 B NoB 81 6 v2 wh'.length (wh'.flatMap ndD)):OQ w1 B v1 v2 v3 l wh' rl:=
 ⟨h.i.kept hg (h.i.kr.ne h.wr (by decide)) (fun q hq=>(h.i.fr q hq).ne h.wr (by decide)),hO,h.r.kept hg (h.r.kr.ne h.wr (by decide)) (fun q hq=>ne_sym (h.ne q hq)),h.ne⟩
theorem OQ.setR {p:List Nd×Value}{p':List Nd}(h:OQ w B v1 v2 v3 l wh rl)(hp:rl[i]? =some p)(hg:w.grownBy w1 p.2.ownBlock)(hO:OL w1 B NoB 81 6 p.2 p'.length (p'.flatMap ndD)):OQ w1 B v1 v2 v3 l wh (rl.set i (p',p.2)):=by
 have hpm:=zA hp;have hfp:OL w B NoB 81 6 p.2 p.1.length (p.1.flatMap ndD):=h.r.fr p hpm;refine⟨h.i.kept hg (h.i.kr.ne hfp (by decide)) (fun q hq=>(h.i.fr q hq).ne hfp (by decide)),h.wr.kept hg (h.ne p hpm) (fun _ hb=>hb.elim),h.r.setF KR_ne hp rfl hg hO,fun q hq=>?_⟩;obtain⟨j,hj⟩:=zN hq;obtain⟨q',hq',e⟩:=set_get hp hj;rw[e];exact h.ne q' (zA hq')
end
structure Kp (w w':World)(Bg Eg:Nat):Prop where
 os:w'.os=w.os
 tape:w'.tape=w.tape
 output:w'.output=w.output
 sz:w.heap.size≤w'.heap.size
 ag:∀b,b<w.heap.size→(b<Bg∨Eg≤b)→w'.heap[b]? =w.heap[b]?
section
variable {w w1 w2:World}{Bg Eg:Nat}
theorem Kp.refl (w:World)(Bg Eg:Nat):Kp w w Bg Eg:=⟨rfl,rfl,rfl,nR,fun _ _ _=>rfl⟩
theorem Kp.write {row:Option Nat}(h:Kp w w1 Bg Eg)(hg:w1.grownBy w2 row)(hr:∀q,row=some q→(Bg≤q∧q<Eg)∨w.heap.size≤q):Kp w w2 Bg Eg:=
 ⟨hg.os.trans h.os,hg.tape.trans h.tape,hg.output.trans h.output,zU h.sz hg.size,fun b hb ho=>(hg.block b (zF hb h.sz) (fun e=>by rcases hr b e.symm with h1 |h1<;>omega)).trans (h.ag b hb ho)⟩
theorem Kp.below (h:Kp w w1 Bg Eg)(hb:Bw w1 w2):Kp w w2 Bg Eg:=h.write (row:=none) (Below.grown_none hb) (fun q hq=>by cases hq)
end
theorem OL.fore {w:World}{B e size n m g cap:Nat}{F:Nat→Prop}{ds:List D}(h:OL w B F e size (.slice (some ⟨g,0,none⟩) m cap) m ds)(hn:n≤m):OL w B F e size (.slice (some ⟨g,0,none⟩) n cap) n (ds.take (n*size)):=by
 obtain⟨cells,⟨h1,h2⟩,h3,h4⟩:=h;have hmul:n*size≤m*size:=Nat.mul_le_mul hn nR;refine⟨cells.take (n*size),⟨by rw[zO,h1];exact Nat.min_eq_left hmul,?_⟩,by rw[zO,zO,h3],fun k d hd=>?_⟩
 ·rcases h2 with⟨h2,_⟩|⟨g',cap',cur,e1,hB,hg,hnc,hm,hs,ht⟩
  ·cases h2
  ·injection e1 with e1 e2 e3
   injection e1 with e1
   injection e1 with e1 e4
   subst e1 e3;refine .inr ⟨g,cap,cur,rfl,hB,hg,by omega,hm,hs,?_⟩;rw[←ht,List.take_take,Nat.min_eq_left hmul]
 ·rw[zZ]at hd ⊢;split at hd
  ·rename_i hk;obtain⟨u,hu,hr⟩:=h4 k d hd;exact⟨u,by rw[if_pos hk];exact hu,hr⟩
  ·cases hd
structure GR (w:World)(B e size n m:Nat)(v v':Value)(ds ds':List D):Prop where
 a:OL w B NoB e size v n ds
 b:OL w B NoB e size v' m ds'
 p:ds'.take (n*size)=ds
 r:(v'.ownBlock=none∨v'.ownBlock≠v.ownBlock)∨∃g cap,v=.slice (some ⟨g,0,none⟩) n cap∧v'=.slice (some ⟨g,0,none⟩) m cap
 le:n≤m
section
variable {P:Program}{w w1 W:World}{B e size n m:Nat}{v v':Value}{ds ds':List D}
theorem GR.start (h:OL w B NoB e size v n ds):GR w B e size n n v v ds ds:=by
 refine⟨h,h,by rw[←h.len];exact zL,?_,nR⟩;obtain⟨cells,h1,_⟩:=h;rcases h1.2 with⟨rfl,_⟩|⟨g,cap,cur,rfl,_⟩
 ·exact .inl (.inl rfl)
 ·exact .inr ⟨g,cap,rfl,rfl⟩
theorem GR.stay (h:GR w B e size n m v v' ds ds')(hb:Bw w W):GR W B e size n m v v' ds ds':=⟨h.a.stay hb,h.b.stay hb,h.p,h.r,h.le⟩
theorem GR.kept {row:Option Nat}(h:GR w B e size n m v v' ds ds')(hg:w.grownBy w1 row)(h1:v.ownBlock=none∨v.ownBlock≠row)(h2:v'.ownBlock=none∨v'.ownBlock≠row):GR w1 B e size n m v v' ds ds':=⟨h.a.kept hg h1 (fun _ hb=>hb.elim),h.b.kept hg h2 (fun _ hb=>hb.elim),h.p,h.r,h.le⟩
theorem run_gr {t ty bytes c:Nat}{news:List D}{newsV:List Value}{ad:Addr}(T:ElT P t e size bytes)(h:GR w B e size n m v v' ds ds')(hsrc:Src w (some ad) news (fun b=>NoB b∧some b≠v'.ownBlock))
  (hl:newsV.length=1*size)(hnews:∀j u,newsV[j]? =some u→w.cell? (ad.add j)=some u)(h1:∀u∈newsV,u.oneCell'=true)(hln:news.length=1*size)(hn:m+1≤4294967296)(hb:bytes≤32768)(hB:B≤w.heap.size):
  ∃v'' w1,(Builtin.append_ #[t,t] ty #[v',.slice (some ad) 1 c]).run P w=.ok v'' w1∧GR w1 B e size n (m+1) v v'' ds (ds'++news)∧w.grownBy w1 v'.ownBlock∧(v''.ownBlock=v'.ownBlock∨v''.ownBlock=some w.heap.size):=by
 obtain⟨v'',w1,hrun,hO,hg,ha⟩:=run_app (P:=P) (ty:=ty) (c:=c) T h.b hsrc hln hn hb hB;have hle:=h.le;have hp:(ds'++news).take (n*size)=ds:=by
  rw[List.take_append_of_le_length (by rw[h.b.len];exact Nat.mul_le_mul hle nR)];exact h.p
 have key:OL w1 B NoB e size v n ds∧((v''.ownBlock=none∨v''.ownBlock≠v.ownBlock)∨∃g cap,v=.slice (some ⟨g,0,none⟩) n cap∧v''=.slice (some ⟨g,0,none⟩) (m+1) cap):=by
  have hnew:v''.ownBlock=some w.heap.size→(v''.ownBlock=none∨v''.ownBlock≠v.ownBlock):=fun e=>.inr fun e2=>by
   rw[e]at e2;have:=(h.a.lt _ e2.symm).2;omega
  rcases h.r with hr |⟨g,cap,ev,ev'⟩
  ·refine⟨h.a.kept hg (ne_sym hr) (fun _ hb=>hb.elim),.inl ?_⟩;rcases ha with e |e
   ·rw[e];exact hr
   ·exact hnew e
  ·subst ev ev';obtain⟨ht,⟨i,z,hi,hz,hsize,hby,hzs⟩,hpz⟩:=T;have hbytes:(m+1)*i.bytes≤140737488355328:=zU (Nat.mul_le_mul hn (by omega:i.bytes≤32768)) (by decide);have hb':=h.b;obtain⟨cells',ho',hlen',hr'⟩:=h.b;by_cases hroom:m+1≤cap
   ·obtain⟨w',hrun2,ho2,hg2⟩:=run_append_own_spare (P:=P) w B t ty e i size ht hi hsize g m cap cells' ho' ad 1 c newsV hl hnews h1 hroom;rw[hrun]at hrun2;injection hrun2 with e1 e2
    subst e1;have hpre:=hO.fore (n:=n) (by omega);rw[hp]at hpre;exact⟨hpre,.inr ⟨g,cap,rfl,rfl⟩⟩
   ·subst hsize;have holds:∀j u,cells'[j]? =some u→w.cell? ((⟨g,0,none⟩:Addr).add j)=some u:=ho'.cells (g:=g) rfl
    have hrun2:=run_append_grow (P:=P) w t ty e i z ht hi hz ⟨g,0,none⟩ m cap cells' ho'.1 holds ad 1 c newsV hl hnews (by omega) (by omega) (growslice_fits (by omega) hbytes);rw[hrun]at hrun2;injection hrun2 with e1 e2
    subst e1 e2;refine⟨h.a.stay ⟨rfl,rfl,rfl,by simp,fun k hk=>Below.heap_alloc w.drew _ k hk⟩,.inl (hnew ?_)⟩;rcases ha with e |e
    ·have:=(hb'.lt g rfl).2;simp[Value.ownBlock]at e;omega
    ·exact e
 exact⟨v'',w1,hrun,⟨key.1,hO,hp,key.2,by omega⟩,hg,ha⟩
theorem wpList_gr {ops:Array Oper}{rest:List Oper}{o:Oper}{a:Act}{Q:Exit→Act→World→Prop}(hgd:o.guard=none)(s x:Operand)(t:TypeId)
  (ho:o.op=.call {callee:=.builtin .append,args:=#[s,x],argTypes:=#[t,t]}){bytes c g2 t2:Nat}{newsV:List Value}(T:ElT P t e size bytes)(h:GR w B e size n m v v' ds ds')(hs:a.eval s=v')(hx:a.eval x=.slice (some ⟨g2,0,none⟩) 1 c)
  (hbk:Blk w g2 t2 newsV)(hl:newsV.length=1*size)(h1:∀u∈newsV,u.oneCell'=true)(hn:m+1≤4294967296)(hb:bytes≤32768)(hB:B≤w.heap.size)
  (hk:∀v'' w1,GR w1 B e size n (m+1) v v'' ds (ds'++newsV.map .v)→w.grownBy w1 v'.ownBlock→(v''.ownBlock=v'.ownBlock∨v''.ownBlock=some w.heap.size)→wpList P ops Q rest (a.put o.dst v'') w1):wpList P ops Q (o::rest) a w:=by
 refine wpList_plain hgd fun K hK=>?_
 have hnews:∀(j:Nat)(u:Value),newsV[j]? =some u→w.cell? ((⟨g2,0,none⟩:Addr).add j)=some u:=fun j u hj=>by rw[addr_add0,hbk.cell];exact hj
 have hsrc:Src w (some ⟨g2,0,none⟩) (newsV.map .v) (fun b=>NoB b∧some b≠v'.ownBlock):=fun _=>⟨g2,0,rfl,fun k d hd=>by
  rw[zG]at hd;obtain⟨u,hu,rfl⟩:=xG.1 hd;exact⟨u,by rw[Nat.zero_add,hbk.cell];exact hu,.v _ (h1 u (zA hu))⟩⟩
 obtain⟨v'',w1,hrun,h2,h3,h4⟩:=run_gr (P:=P) (ty:=o.type) T h hsrc hl hnews h1 (by rw[xC];exact hl) hn hb hB (c:=c);unfold Oper.wp execOp;simp only[ho,resolve,invoke,builtin,Sem.run_bind,Sem.run_pure,Result.andThen_ok,List.map_toArray,List.map_cons,List.map_nil,hs,hx,hrun];exact hK _ _ (hk v'' w1 h2 h3 h4)
end
end Go.Proofs.YtfiodnlgiglhfaaGreatDoor
