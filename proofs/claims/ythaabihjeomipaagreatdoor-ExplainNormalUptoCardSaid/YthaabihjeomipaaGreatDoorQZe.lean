/- The law's look at a query's depth. -/
import Derived.Test.YthaabihjeomipaaGreatDoorQOg
import Derived.Test.YthaabihjeomipaaGreatDoorQOk
namespace Go.Proofs.YthaabihjeomipaaGreatDoor
set_option maxRecDepth 100000
set_option maxHeartbeats 16000000
open Go.RowKit Go.Deep
set_option linter.unusedVariables false
set_option linter.unusedSimpArgs false
def ABl (w w':World)(e:Ending):Prop:=∃b:Bool,e=.returned (.bool b)∧Bw w w'
def DepL (L:List D):Prop:=∀x∈L,∃d:Int,x=.v (.int .i64 d)∧0≤d∧d≤65536
theorem DepL.snoc {L:List D}{d:Int}(h:DepL L)(h0:0≤d)(h1:d≤65536):DepL (L++[.v (.int .i64 d)]):=fun x hx=>by
 rcases zM.1 hx with hx |hx
 ·exact h x hx
 ·rw[xB]at hx;exact⟨d,hx,h0,h1⟩
namespace lawW
open nmW ckW
theorem beyond_k (A:Option Addr)(c:Nat)(F:Nat→Prop)(t:List Nd)(hl:t.length≤1048576)(w:World)(hF:∀b,F b→b<w.heap.size)(r:Rd w F (.slice A t.length c) (.sl t.length (t.flatMap ndD))):
  Calls Tryz.prog 20 #[.slice A t.length c] w fun e w'=>ABl w w' e:=by
 replace r:=Hd r;replace hF:=Hd hF;go_enter Tryz.func20,Tryz.ntmps20;go_wp2;go_loopw [3,4] (fun v x wr=>∃(j:Nat)(L:List D),j≤t.length∧x=.int .i64 j∧OL wr w.heap.size NoF 3 1 v j L∧DepL L∧Bw w wr) (fun _ x _=>t.length- (intOf x).toNat)
 case atStart=>exact⟨0,[],zE _,rfl,.nil _ _ _ _ _,fun x hx=>by simp at hx,bR⟩
 case round=>
  obtain⟨j,L,hj,rfl,hO,hD,hB⟩:=hrel;by_cases hlt:j<t.length
  ·obtain⟨⟨op,nn,vv,at_,a,b⟩,hx⟩:=getx hlt;obtain⟨gN,oN,rfl,hFN,n0,n1,n2,n3,n4,n5⟩:=nd_at r.out hx;have hgN:=hF.out gN hFN;have a4:=(hB.cell (p:=⟨gN,oN+j*6+4,none⟩) hgN).trans n4;have a5:=(hB.cell (p:=⟨gN,oN+j*6+5,none⟩) hgN).trans n5;simp only at a4 a5;clear n0 n1 n2 n3 n4 n5;have g0:(0:Int)≤(j:Int):=oQ;have g1:(j:Int)<t.length:=oQ;obtain⟨Ao,co,rfl⟩:=hO.form;have hll:=hO.len;have get:∀m:Nat,m<j→∃(g:Nat)(d:Int),Ao=some ⟨g,0,none⟩∧wr.cell? ⟨g,m,none⟩=some (.int .i64 d)∧0≤d∧d≤65536:=fun m hm=>by
    obtain⟨g,cap,e,_,_,_,hc⟩:=hO.row oQ;injection e with e _ _
    obtain⟨x,hxm⟩:=getx (l:=L) (i:=m) oQ;obtain⟨d,rfl,h0,h1⟩:=hD x (zA hxm);obtain⟨u,hu,hr⟩:=hc m _ hxm;rw[hr.v_inv]at hu;exact⟨g,d,e,hu,h0,h1⟩
   have hsz:=hB.size;have hOc:=Hd hO;replace hD:=Hd hD;replace hB:=Hd hB;clear hx hO;have hA:(a<0)∨(0≤a∧(j:Int)≤a)∨∃m:Nat,a=m∧m<j:=by
    by_cases h:a<0
    ·exact .inl h
    ·by_cases h2:(j:Int)≤a
     ·exact .inr (.inl ⟨oQ,h2⟩)
     ·exact .inr (.inr ⟨a.toNat,oQ,oQ⟩)
   have hBc:(b<0)∨(0≤b∧(j:Int)≤b)∨∃m:Nat,b=m∧m<j:=by
    by_cases h:b<0
    ·exact .inl h
    ·by_cases h2:(j:Int)≤b
     ·exact .inr (.inl ⟨oQ,h2⟩)
     ·exact .inr (.inr ⟨b.toNat,oQ,oQ⟩)
   obtain⟨g,hg⟩:∃g,0<j→Ao=some ⟨g,0,none⟩:=by
    by_cases h:0<j
    ·obtain⟨g,_,e,_⟩:=get 0 h;exact⟨g,fun _=>e⟩
    ·exact⟨0,fun h2=>absurd h2 h⟩
   replace get:∀m:Nat,m<j→∃d:Int,wr.cell? ⟨g,m,none⟩=some (.int .i64 d)∧0≤d∧d≤65536:=fun m hm=>by
    obtain⟨g2,d,e,h⟩:=get m hm;rw[hg oQ]at e;injection e with e
    injection e with e
    subst e;exact⟨d,h⟩
   rcases hA with ha |⟨ha,ha2⟩|⟨ma,rfl,hma⟩
   ·have e1:¬(0≤a):=oQ;rcases hBc with hb |⟨hb,hb2⟩|⟨mb,rfl,hmb⟩
    ·have f1:¬(0≤b):=oQ;go_wp2_with (at_builtin;refine wpa rfl (.tmp 72) (.tmp 75) _ rfl (m:=1) (news:=[D.v (.int .i64 (1))]) elInt (hOc.out.alloc _) rfl rfl (Src.lit (show RdL wr _ [.int .i64 (1)] [D.v (.int .i64 (1))]from⟨.v _ rfl,trivial⟩)) rfl oQ oQ (by simp;omega) ?_;intro v' w1 hO1 hg1 ha1;have hB1:=Hd ((hB.out.alloc hB.out.size _).grown hg1 (by simp;omega) (fun q hq=>(hOc.out.lt q hq).1)));go_roundw
     case rel=>exact⟨j+1,_,oQ,gQ,hO1,hD.out.snoc oQ oQ,hB1.out⟩
     case measure=>exact mQ
    ·have f1:¬(b<(j:Int)):=oQ;go_wp2_with (at_builtin;refine wpa rfl (.tmp 72) (.tmp 75) _ rfl (m:=1) (news:=[D.v (.int .i64 (1))]) elInt (hOc.out.alloc _) rfl rfl (Src.lit (show RdL wr _ [.int .i64 (1)] [D.v (.int .i64 (1))]from⟨.v _ rfl,trivial⟩)) rfl oQ oQ (by simp;omega) ?_;intro v' w1 hO1 hg1 ha1;have hB1:=Hd ((hB.out.alloc hB.out.size _).grown hg1 (by simp;omega) (fun q hq=>(hOc.out.lt q hq).1)));go_roundw
     case rel=>exact⟨j+1,_,oQ,gQ,hO1,hD.out.snoc oQ oQ,hB1.out⟩
     case measure=>exact mQ
    ·obtain⟨db,cb,db0,db1⟩:=get mb hmb;have eB:=hg oQ;try subst eB
     have k0:(0:Int)≤(mb:Int):=oQ;have k1:(mb:Int)<(j:Int):=oQ;by_cases hgt:0<db
     ·have hgt2:db>0:=hgt;by_cases hE:65536≤db
      ·have hE2:db≥65536:=hE;go_wp2;go_ret;exact⟨_,rfl,hB.out⟩
      ·have hE2:¬db≥65536:=hE;have nw:IntKind.i64.wrap (db+1)=db+1:=by rw[xI];omega
       go_wp2_with (at_builtin;refine wpa rfl (.tmp 72) (.tmp 75) _ rfl (m:=1) (news:=[D.v (.int .i64 (db+1))]) elInt (hOc.out.alloc _) rfl rfl (Src.lit (show RdL wr _ [.int .i64 (db+1)] [D.v (.int .i64 (db+1))]from⟨.v _ rfl,trivial⟩)) rfl oQ oQ (by simp;omega) ?_;intro v' w1 hO1 hg1 ha1;have hB1:=Hd ((hB.out.alloc hB.out.size _).grown hg1 (by simp;omega) (fun q hq=>(hOc.out.lt q hq).1)));go_roundw
       case rel=>exact⟨j+1,_,oQ,gQ,hO1,hD.out.snoc oQ oQ,hB1.out⟩
       case measure=>exact mQ
     ·have hgt2:¬db>0:=hgt;go_wp2_with (at_builtin;refine wpa rfl (.tmp 72) (.tmp 75) _ rfl (m:=1) (news:=[D.v (.int .i64 (1))]) elInt (hOc.out.alloc _) rfl rfl (Src.lit (show RdL wr _ [.int .i64 (1)] [D.v (.int .i64 (1))]from⟨.v _ rfl,trivial⟩)) rfl oQ oQ (by simp;omega) ?_;intro v' w1 hO1 hg1 ha1;have hB1:=Hd ((hB.out.alloc hB.out.size _).grown hg1 (by simp;omega) (fun q hq=>(hOc.out.lt q hq).1)));go_roundw
      case rel=>exact⟨j+1,_,oQ,gQ,hO1,hD.out.snoc oQ oQ,hB1.out⟩
      case measure=>exact mQ
   ·have e1:¬(a<(j:Int)):=oQ;rcases hBc with hb |⟨hb,hb2⟩|⟨mb,rfl,hmb⟩
    ·have f1:¬(0≤b):=oQ;go_wp2_with (at_builtin;refine wpa rfl (.tmp 72) (.tmp 75) _ rfl (m:=1) (news:=[D.v (.int .i64 (1))]) elInt (hOc.out.alloc _) rfl rfl (Src.lit (show RdL wr _ [.int .i64 (1)] [D.v (.int .i64 (1))]from⟨.v _ rfl,trivial⟩)) rfl oQ oQ (by simp;omega) ?_;intro v' w1 hO1 hg1 ha1;have hB1:=Hd ((hB.out.alloc hB.out.size _).grown hg1 (by simp;omega) (fun q hq=>(hOc.out.lt q hq).1)));go_roundw
     case rel=>exact⟨j+1,_,oQ,gQ,hO1,hD.out.snoc oQ oQ,hB1.out⟩
     case measure=>exact mQ
    ·have f1:¬(b<(j:Int)):=oQ;go_wp2_with (at_builtin;refine wpa rfl (.tmp 72) (.tmp 75) _ rfl (m:=1) (news:=[D.v (.int .i64 (1))]) elInt (hOc.out.alloc _) rfl rfl (Src.lit (show RdL wr _ [.int .i64 (1)] [D.v (.int .i64 (1))]from⟨.v _ rfl,trivial⟩)) rfl oQ oQ (by simp;omega) ?_;intro v' w1 hO1 hg1 ha1;have hB1:=Hd ((hB.out.alloc hB.out.size _).grown hg1 (by simp;omega) (fun q hq=>(hOc.out.lt q hq).1)));go_roundw
     case rel=>exact⟨j+1,_,oQ,gQ,hO1,hD.out.snoc oQ oQ,hB1.out⟩
     case measure=>exact mQ
    ·obtain⟨db,cb,db0,db1⟩:=get mb hmb;have eB:=hg oQ;try subst eB
     have k0:(0:Int)≤(mb:Int):=oQ;have k1:(mb:Int)<(j:Int):=oQ;by_cases hgt:0<db
     ·have hgt2:db>0:=hgt;by_cases hE:65536≤db
      ·have hE2:db≥65536:=hE;go_wp2;go_ret;exact⟨_,rfl,hB.out⟩
      ·have hE2:¬db≥65536:=hE;have nw:IntKind.i64.wrap (db+1)=db+1:=by rw[xI];omega
       go_wp2_with (at_builtin;refine wpa rfl (.tmp 72) (.tmp 75) _ rfl (m:=1) (news:=[D.v (.int .i64 (db+1))]) elInt (hOc.out.alloc _) rfl rfl (Src.lit (show RdL wr _ [.int .i64 (db+1)] [D.v (.int .i64 (db+1))]from⟨.v _ rfl,trivial⟩)) rfl oQ oQ (by simp;omega) ?_;intro v' w1 hO1 hg1 ha1;have hB1:=Hd ((hB.out.alloc hB.out.size _).grown hg1 (by simp;omega) (fun q hq=>(hOc.out.lt q hq).1)));go_roundw
       case rel=>exact⟨j+1,_,oQ,gQ,hO1,hD.out.snoc oQ oQ,hB1.out⟩
       case measure=>exact mQ
     ·have hgt2:¬db>0:=hgt;go_wp2_with (at_builtin;refine wpa rfl (.tmp 72) (.tmp 75) _ rfl (m:=1) (news:=[D.v (.int .i64 (1))]) elInt (hOc.out.alloc _) rfl rfl (Src.lit (show RdL wr _ [.int .i64 (1)] [D.v (.int .i64 (1))]from⟨.v _ rfl,trivial⟩)) rfl oQ oQ (by simp;omega) ?_;intro v' w1 hO1 hg1 ha1;have hB1:=Hd ((hB.out.alloc hB.out.size _).grown hg1 (by simp;omega) (fun q hq=>(hOc.out.lt q hq).1)));go_roundw
      case rel=>exact⟨j+1,_,oQ,gQ,hO1,hD.out.snoc oQ oQ,hB1.out⟩
      case measure=>exact mQ
   ·obtain⟨da,ca,da0,da1⟩:=get ma hma;have eA:=hg oQ;subst eA;have i0:(0:Int)≤(ma:Int):=oQ;have i1:(ma:Int)<(j:Int):=oQ;rcases hBc with hb |⟨hb,hb2⟩|⟨mb,rfl,hmb⟩
    ·have f1:¬(0≤b):=oQ;by_cases hE:65536≤da
     ·have hE2:da≥65536:=hE;go_wp2;go_ret;exact⟨_,rfl,hB.out⟩
     ·have hE2:¬da≥65536:=hE;have nw:IntKind.i64.wrap (da+1)=da+1:=by rw[xI];omega
      go_wp2_with (at_builtin;refine wpa rfl (.tmp 72) (.tmp 75) _ rfl (m:=1) (news:=[D.v (.int .i64 (da+1))]) elInt (hOc.out.alloc _) rfl rfl (Src.lit (show RdL wr _ [.int .i64 (da+1)] [D.v (.int .i64 (da+1))]from⟨.v _ rfl,trivial⟩)) rfl oQ oQ (by simp;omega) ?_;intro v' w1 hO1 hg1 ha1;have hB1:=Hd ((hB.out.alloc hB.out.size _).grown hg1 (by simp;omega) (fun q hq=>(hOc.out.lt q hq).1)));go_roundw
      case rel=>exact⟨j+1,_,oQ,gQ,hO1,hD.out.snoc oQ oQ,hB1.out⟩
      case measure=>exact mQ
    ·have f1:¬(b<(j:Int)):=oQ;by_cases hE:65536≤da
     ·have hE2:da≥65536:=hE;go_wp2;go_ret;exact⟨_,rfl,hB.out⟩
     ·have hE2:¬da≥65536:=hE;have nw:IntKind.i64.wrap (da+1)=da+1:=by rw[xI];omega
      go_wp2_with (at_builtin;refine wpa rfl (.tmp 72) (.tmp 75) _ rfl (m:=1) (news:=[D.v (.int .i64 (da+1))]) elInt (hOc.out.alloc _) rfl rfl (Src.lit (show RdL wr _ [.int .i64 (da+1)] [D.v (.int .i64 (da+1))]from⟨.v _ rfl,trivial⟩)) rfl oQ oQ (by simp;omega) ?_;intro v' w1 hO1 hg1 ha1;have hB1:=Hd ((hB.out.alloc hB.out.size _).grown hg1 (by simp;omega) (fun q hq=>(hOc.out.lt q hq).1)));go_roundw
      case rel=>exact⟨j+1,_,oQ,gQ,hO1,hD.out.snoc oQ oQ,hB1.out⟩
      case measure=>exact mQ
    ·obtain⟨db,cb,db0,db1⟩:=get mb hmb;have eB:=hg oQ;try subst eB
     have k0:(0:Int)≤(mb:Int):=oQ;have k1:(mb:Int)<(j:Int):=oQ;by_cases hgt:da<db
     ·have hgt2:db>da:=hgt;by_cases hE:65536≤db
      ·have hE2:db≥65536:=hE;go_wp2;go_ret;exact⟨_,rfl,hB.out⟩
      ·have hE2:¬db≥65536:=hE;have nw:IntKind.i64.wrap (db+1)=db+1:=by rw[xI];omega
       go_wp2_with (at_builtin;refine wpa rfl (.tmp 72) (.tmp 75) _ rfl (m:=1) (news:=[D.v (.int .i64 (db+1))]) elInt (hOc.out.alloc _) rfl rfl (Src.lit (show RdL wr _ [.int .i64 (db+1)] [D.v (.int .i64 (db+1))]from⟨.v _ rfl,trivial⟩)) rfl oQ oQ (by simp;omega) ?_;intro v' w1 hO1 hg1 ha1;have hB1:=Hd ((hB.out.alloc hB.out.size _).grown hg1 (by simp;omega) (fun q hq=>(hOc.out.lt q hq).1)));go_roundw
       case rel=>exact⟨j+1,_,oQ,gQ,hO1,hD.out.snoc oQ oQ,hB1.out⟩
       case measure=>exact mQ
     ·have hgt2:¬db>da:=hgt;by_cases hE:65536≤da
      ·have hE2:da≥65536:=hE;go_wp2;go_ret;exact⟨_,rfl,hB.out⟩
      ·have hE2:¬da≥65536:=hE;have nw:IntKind.i64.wrap (da+1)=da+1:=by rw[xI];omega
       go_wp2_with (at_builtin;refine wpa rfl (.tmp 72) (.tmp 75) _ rfl (m:=1) (news:=[D.v (.int .i64 (da+1))]) elInt (hOc.out.alloc _) rfl rfl (Src.lit (show RdL wr _ [.int .i64 (da+1)] [D.v (.int .i64 (da+1))]from⟨.v _ rfl,trivial⟩)) rfl oQ oQ (by simp;omega) ?_;intro v' w1 hO1 hg1 ha1;have hB1:=Hd ((hB.out.alloc hB.out.size _).grown hg1 (by simp;omega) (fun q hq=>(hOc.out.lt q hq).1)));go_roundw
       case rel=>exact⟨j+1,_,oQ,gQ,hO1,hD.out.snoc oQ oQ,hB1.out⟩
       case measure=>exact mQ
  ·obtain rfl:j=t.length:=oQ;replace hO:=Hd hO;replace hB:=Hd hB;replace hD:=Hd hD;go_wp2;go_ret;exact⟨_,rfl,hB.out⟩
theorem queryBeyond_k (F:Nat→Prop)(q:Qy)(s:Sl3)(hs:SzQ q)(w:World)(R:QR w F q s):
  Calls Tryz.prog 7 #[.agg ⟨qV q s⟩] w fun e w'=>ABl w w' e:=by
 have h0:=QB.new q s w;have hF:=R.lt;have kre:=fun(i:Nat) t (hi:q.ret[i]? =some t)=>re_at R.r3 hi
 have kb:=fun(A:Option Addr)(c:Nat) t (hl:t.length≤1048576)(r1:Rd w F (.slice A t.length c) (.sl t.length (t.flatMap ndD))) W (hW:Bw w W)=>beyond_k A c F t hl W (fun b h=>zF (hF b h) hW.size) (r1.under hW hF)
 have kw:=kb s.a2 s.c2 q.wh hs.wh.1 R.r2 _ h0.1;have hrl:=hs.rl;have hres:=hs.re;obtain⟨A1,c1,A2,c2,A3,c3⟩:=s;try simp only at kre kw
 simp only[qV]at h0 kw ⊢;replace h0:=Hd h0;replace hF:=Hd hF;replace kre:=Hd kre;replace kb:=Hd kb;replace kw:=Hd kw;replace hres:=Hd hres;clear R hs;go_enter Tryz.func7,Tryz.ntmps7;go_upto_region 2 with(go_at_call 20;refine kw.out.mono ?_;rintro e W1 ⟨b1,rfl,hB1⟩)
 have hQ1:=Hd (h0.out.stay hB1);clear hB1 kw h0;go_wp2;go_loopw [3,4] (fun v i wr=>∃(k:Nat)(b:Bool),k≤q.ret.length∧i=.int .i64 k∧v=.bool b∧QB q ⟨A1,c1,A2,c2,A3,c3⟩ w wr) (fun _ i _=>q.ret.length- (intOf i).toNat)
 case atStart=>exact⟨0,_,zE _,rfl,rfl,hQ1.out⟩
 case round=>
  clear hQ1;obtain⟨k,b,hk,rfl,rfl,hQ⟩:=hrel;have hBr:=hQ.1;have hbr:=hBr.size;have y6:wr.cell? ⟨w.heap.size,6,none⟩=some (.slice A3 q.ret.length c3):=hQ.2.cell 6;by_cases hlt3:k<q.ret.length
  ·obtain⟨t,ht⟩:=getx hlt3;have htm:=zA ht;obtain⟨gR,oR,A6,c6,eR,hFR,rt0,r0⟩:=kre.out k t ht;try simp only at eR
   subst eR;have hgR:=hF.out gR hFR;have r1:=(hBr.cell (p:=⟨gR,oR+k,none⟩) hgR).trans r0;have p0:(0:Int)≤(k:Int):=oQ;have p1:(k:Int)<q.ret.length:=oQ;have ktt:=Hd (kb.out A6 c6 t (hres.out t htm).1 rt0 wr hBr);replace ht:=Hd ht;replace htm:=Hd htm;replace rt0:=Hd rt0;replace hQ:=Hd hQ;replace hBr:=Hd hBr;clear r0;go_upto_region 6 with(go_at_call 20;refine ktt.out.mono ?_;rintro e W8 ⟨b8,rfl,hB8⟩)
   have hQ8:=Hd (hQ.out.stay hB8);clear hB8 y6 r1;cases b with
   |true=>
    go_wp2;go_roundw
    case rel=>exact⟨k+1,_,oQ,gQ,rfl,hQ8.out⟩
    case measure=>exact mQ
   |false=>
    go_wp2;go_roundw
    case rel=>exact⟨k+1,_,oQ,gQ,rfl,hQ8.out⟩
    case measure=>exact mQ
  ·obtain rfl:k=q.ret.length:=oQ;replace hQ:=Hd hQ;replace hBr:=Hd hBr;go_wp2;go_ret;exact⟨_,rfl,hBr.out⟩
end lawW
structure NX (S:List Td)(q p:Qy)(w:World)(A:Option Addr)(ca:Nat)(s:Sl3)(g:Nat)(u:Sl3)(W:World):Prop where
 sq:SQ S A ca q s w W
 b5:Blk W g 31 (qV p u)
 pq:QR W (fun b=>b<W.heap.size) p u
theorem NX.stay {S:List Td}{q p:Qy}{w W W':World}{A:Option Addr}{ca:Nat}{s u:Sl3}{g:Nat}(h:NX S q p w A ca s g u W)(hb:Bw W W'):NX S q p w A ca s g u W':=
 ⟨h.sq.stay hb,h.b5.stay hb,(h.pq.under hb).mono (fun b h _=>zF h hb.size) (fun b h=>h)⟩
namespace lawW
open nmW ckW
theorem lawN_k (A:Option Addr)(ca:Nat)(F:Nat→Prop)(S:List Td)(q:Qy)(s:Sl3)(hS:SzT S)(hs:SzQ q)(h3:3*q.wh.length≤1048576)(hSB:SzB q)(hmw:SzM q.wh)(hmr:∀t∈q.ret,SzM t)(w:World)(hT:XT w)(hR:RT w)(hM:MT w)
  (r:Rd w F (.slice A S.length ca) (.sl S.length (S.flatMap tdD)))(R:QR w F q s):
  Calls Tryz.prog 6 #[.agg #[.slice A S.length ca],.agg ⟨qV q s⟩] w fun e w'=>e=.returned (.bool true)∧Bw w w':=by
 obtain⟨W0,hW0⟩:∃W0,W0=((w.alloc (.cells ⟨[.slice A S.length ca]⟩ 24)).alloc (.cells ⟨qV q s⟩ 31)):=⟨_,rfl⟩
 have h0:SQ S A ca q s w W0:=by rw[hW0];exact SQ.new S A ca q s w
 have hF:=R.lt;have k1:=queryBeyond_k F q s hs W0 (R.under h0.hb);have k2:=fun W (hW:Bw w W)=>evW.twinSchema_k A ca F S hS W (fun b h=>zF (hF b h) hW.size) (r.under hW hF)
 have k4:=fun W (hW:Bw w W)=>twinQuery_k F q s hs W (R.under hW)
 have kx:=fun W (hW:Bw w W)(A':Option Addr)(c':Nat)(s':Sl3)(r':Rd W (fun b=>b<W.heap.size) (.slice A' S.length c') (.sl S.length (S.flatMap tdD)))(R':QR W (fun b=>b<W.heap.size) q s')=>shR.rexplain_k A' c' _ S q s' hS hs hSB hmw hmr W (hT.stay hW) (hR.stay hW) R' r'
 have k5:=fun W (hW:Bw w W)=>shW.explain_k A ca F S q s hS hs hmw hmr W (hT.stay hW) (hM.stay hW) (R.under hW) (r.under hW hF)
 have k19:=fun W (hW:Bw w W)=>other_k F q s hs h3 W (hT.stay hW).kw (hT.stay hW).pw (R.under hW)
 have hp:=szq_ot hs h3;have hpw:=szm_ot hmw;have hpr:=szr_ot hmr;have hl0:=fun(h:linC S q=0)=>(lin_ot h).1
 have htx:=fun(h:linC S q=0)=>tx_ot h
 have hsm:=fun(h:linC S q=0)=>smb_ot h
 have htp:=fun(h:linC S q=0)=>tx_pos h
 have htn:linC S q≠0→txC S q=emp:=fun h=>by unfold txC;rw[if_neg h]
 obtain⟨p,hpe⟩:∃p,p=otQ q:=⟨_,rfl⟩
 rw[←hpe]at hp hpw hpr hl0 htx hsm k19;have kp7:=fun(u:Sl3) W (R':QR W (fun b=>b<W.heap.size) p u)=>queryBeyond_k _ p u hp W R'
 have kp5:=fun(u:Sl3) W (hW:Bw w W)(R':QR W (fun b=>b<W.heap.size) p u)=>shW.explain_k A ca _ S p u hS hp hpw hpr W (hT.stay hW) (hM.stay hW) R' ((r.under hW hF).mono fun b _ h=>h)
 have kp14:=fun(u:Sl3)(h:linC S q=0) W (hW:Bw w W)(R':QR W (fun b=>b<W.heap.size) p u)=>shW.same_k A ca _ S q p s u hS hs hmw hmr hp hpw hpr W (hT.stay hW) (hM.stay hW) ((R.under hW).mono (G:=fun b=>b<W.heap.size) (fun b _ h=>h) (fun b h=>h)) R' ((r.under hW hF).mono fun b _ h=>h) true ⟨fun _=>hsm h,fun _=>rfl⟩
 have hz1:∀(W1:World),Bw W0 W1→SQ S A ca q s w W1:=fun W1 h=>h0.stay h
 have cs:=fun W (h:SQ S A ca q s w W)=>xW (h.b0.cell 0) (qbc h.b1)
 have cc:=fun(g:Nat)(u:Sl3) W (h:NX S q p w A ca s g u W)=>xW (h.sq.b0.cell 0) (xW (qbc h.sq.b1) (qbc h.b5))
 obtain⟨a1,ac1,a2,ac2,a3,ac3⟩:=s;simp only[qV,zY]at hW0 k1 k4 k5 k19 kx kp7 kp5 kp14 cs cc ⊢;have hWW:=Hd hW0;obtain⟨x0,y0,y1,y2,y3,y4,y5,y6⟩:=cs W0 h0;replace h0:=Hd h0;replace k1:=Hd k1;replace k2:=Hd k2;replace k4:=Hd k4;replace k5:=Hd k5;replace k19:=Hd k19;replace kx:=Hd kx;replace kp7:=Hd kp7;replace kp5:=Hd kp5;replace kp14:=Hd kp14;replace cs:=Hd cs;replace cc:=Hd cc;replace hz1:=Hd hz1;replace hl0:=Hd hl0;replace htx:=Hd htx;replace htp:=Hd htp;replace htn:=Hd htn;clear hSB r R hF hW0 hS hs hmw hmr hT hR hM hp hpw hpr hsm hpe h3;go_enter Tryz.func6,Tryz.ntmps6;go_upto_region 1 with fail
 rw[←hWW.out];go_upto_region 3 with(go_at_call 7;refine k1.out.mono ?_;rintro e W1 ⟨b,rfl,hB1⟩)
 ·go_ret;exact⟨rfl,(hz1.out W1 hB1).hb⟩
 clear x0 y0 y1 y2 y3 y4 y5 y6;have hS1:=Hd (hz1.out W1 hB1);clear hB1 k1 h0 hz1 hWW;obtain⟨x0,y0,y1,y2,y3,y4,y5,y6⟩:=cs.out W1 hS1.out;go_upto_region 4 with(go_at_call 19;refine(k19.out _ hS1.out.hb).mono ?_;rintro e W4 ⟨t1,t2,t3,lt,rt,rfl,hOt,hlt,hrt,hB4⟩;obtain⟨u,eu,R2⟩:=hOt.part hlt hrt bR (P:=fun b=>b<W4.heap.size) (fun b _ h=>h) (fun b h=>h);obtain⟨b1,bc1,b2,bc2,b3,bc3⟩:=u;simp only[eu,qV])
 clear x0 y0 y1 y2 y3 y4 y5 y6;obtain⟨W4a,hW4a⟩:∃W',W'=W4.alloc (.cells ⟨[.slice b1 p.items.length bc1,.int .i64 p.mode,.int .i64 p.after,.slice b2 p.wh.length bc2,.int .i64 p.within,.string p.by_,.slice b3 p.ret.length bc3]⟩ 31):=⟨_,rfl⟩
 rw[←hW4a];have hB4b:Bw W4 W4a:=by rw[hW4a];exact bA
 have hL4:NX S q p w A ca ⟨a1,ac1,a2,ac2,a3,ac3⟩ W4.heap.size ⟨b1,bc1,b2,bc2,b3,bc3⟩ W4a:=
  ⟨hS1.out.stay (hB4.trans (hB4b.mono hB4.size)),by rw[hW4a];exact Blk.new _ _ _,(R2.under hB4b).mono (fun b h _=>zF h hB4b.size) (fun b h=>h)⟩
 obtain⟨g5,hg5⟩:∃g,g=W4.heap.size:=⟨_,rfl⟩
 rw[←hg5]at hL4 ⊢;have k7:=Hd (kp7.out _ W4a hL4.pq);have cd:=Hd (fun W h=>cc.out g5 ⟨b1,bc1,b2,bc2,b3,bc3⟩ W h);try simp only at k7 cd
 obtain⟨x0,⟨y0,y1,y2,y3,y4,y5,y6⟩,z0,z1,z2,z3,z4,z5,z6⟩:=cd.out W4a hL4;replace hL4:=Hd hL4;clear hW4a hOt hlt hrt hB4 hB4b R2 hS1 lt rt hg5 k19 kp7 eu cs;go_upto_region 6 with(go_at_call 7;refine k7.out.mono ?_;rintro e W5 ⟨b,rfl,hB5⟩)
 ·go_ret;exact⟨rfl,(hL4.out.stay hB5).sq.hb⟩
 clear x0 y0 y1 y2 y3 y4 y5 y6 z0 z1 z2 z3 z4 z5 z6 k7;have hL5:=hL4.out.stay hB5;obtain⟨w1,hw1⟩:∃w1:World,w1=W5:=⟨_,rfl⟩
 rw[←hw1]at hL5 ⊢;obtain⟨x0,⟨y0,y1,y2,y3,y4,y5,y6⟩,-⟩:=cd.out w1 hL5;have kS:=Hd (fun W (hW:Bw w1 W)=>(show W.cell? ⟨w.heap.size,0,none⟩=some (.slice A S.length ca)∧W.cell? ⟨w.heap.size+1,0,none⟩=some (.slice a1 q.items.length ac1)∧W.cell? ⟨w.heap.size+1,1,none⟩=some (.int .i64 q.mode)∧W.cell? ⟨w.heap.size+1,2,none⟩=some (.int .i64 q.after)∧W.cell? ⟨w.heap.size+1,3,none⟩=some (.slice a2 q.wh.length ac2)∧W.cell? ⟨w.heap.size+1,4,none⟩=some (.int .i64 q.within)∧W.cell? ⟨w.heap.size+1,5,none⟩=some (.string q.by_)∧W.cell? ⟨w.heap.size+1,6,none⟩=some (.slice a3 q.ret.length ac3)from⟨(cd.out W (hL5.stay hW)).1,(cd.out W (hL5.stay hW)).2.1⟩));have hXb:=Hd hL5.sq.hb;replace hL5:=Hd hL5;replace hw1:=Hd hw1;clear hB5 hL4;go_cut [6,7] (fun v c W=>v=.string (txC S q)∧c=.int .i64 (linC S q)∧Bw w1 W)
 case first=>
  have hSS:=xW (kS.out w1.drew (bR).drew) trivial;refine G_region (p:=100) (S0:=fun W=>W.cell? ⟨w.heap.size,0,none⟩=some (.slice A S.length ca)∧W.cell? ⟨w.heap.size+1,0,none⟩=some (.slice a1 q.items.length ac1)∧W.cell? ⟨w.heap.size+1,1,none⟩=some (.int .i64 q.mode)∧W.cell? ⟨w.heap.size+1,2,none⟩=some (.int .i64 q.after)∧W.cell? ⟨w.heap.size+1,3,none⟩=some (.slice a2 q.wh.length ac2)∧W.cell? ⟨w.heap.size+1,4,none⟩=some (.int .i64 q.within)∧W.cell? ⟨w.heap.size+1,5,none⟩=some (.string q.by_)∧W.cell? ⟨w.heap.size+1,6,none⟩=some (.slice a3 q.ret.length ac3)) (S1:=fun _=>True) kQ ?_;refine' TkB 0 rfl hSS ?_;try go_simp
  refine' TkB 2 rfl hSS ?_;try go_simp
  refine Gs 1 rfl fun K hK=>?_
  go_simp;go_at_call 8;refine(k2.out w1.drew (hXb.out.trans (((zB w1.heap.size w1).drew).mono hXb.out.size))).mono ?_;rintro e W11 ⟨v1,rfl,hO1,hB11⟩;obtain⟨A1,c1,rfl⟩:=hO1.form;have hU11:Bw w1 W11:=((zB w1.heap.size w1).drew).trans (hB11.mono ((zB w1.heap.size w1).drew).size);have p1:Rd W11 (fun b=>b<W11.heap.size) (.slice A1 S.length c1) (.sl S.length (S.flatMap tdD)):=hO1.rd (fun b _ h=>h) (fun b _ h=>h);refine hK.out _ _ ⟨kS.out _ hU11,fun _=>trivial⟩ ?_;clear hK K hSS;refine Gs 3 rfl fun K hK=>?_
  go_simp;go_at_call 9;refine(k4.out W11 (hXb.out.trans ((hU11).mono hXb.out.size))).mono ?_;rintro e W12 ⟨t1,t2,t3,lt,rt,rfl,hOt,hlt,hrt,hB12⟩;obtain⟨s2,es2,R2⟩:=hOt.part hlt hrt bR (P:=fun b=>b<W12.heap.size) (fun b _ h=>h) (fun b h=>h);obtain⟨b1,bc1,b2,bc2,b3,bc3⟩:=s2;simp only[es2,qV];have hU12:Bw w1 W12:=(hU11).trans (hB12.mono (hU11).size);have p2:=(p1.under hB12 (fun b h=>h)).mono (G:=fun b=>b<W12.heap.size) (fun b h _=>zF h hB12.size);have kx3:=Hd (kx.out W12 (hXb.out.trans (hU12.mono hXb.out.size)) A1 c1 _ p2 R2);replace hU12:=Hd hU12;clear hOt hlt hrt es2 R2 p1 p2 hO1 hB11 hB12 lt rt hU11;refine hK.out _ _ ⟨kS.out _ hU12.out,fun _=>trivial⟩ ?_;clear hK K;refine Gs 4 rfl fun K hK=>?_
  go_simp;go_at_call 10;refine kx3.out.mono ?_;rintro e W13 ⟨rfl,hB13⟩;have hU13:=Hd (hU12.out.trans (hB13.mono hU12.out.size));clear hB13 hU12 kx3;have hSS:=xW (kS.out _ hU13.out) trivial;refine hK.out _ _ ⟨hSS.1,fun _=>trivial⟩ ?_;clear hK K;try go_simp
  refine' TkB 5 rfl hSS ?_;try go_simp
  refine' TkB 6 rfl hSS ?_;try go_simp
  refine' TkB 7 rfl hSS ?_;try go_simp
  refine' TkB 8 rfl hSS ?_;try go_simp
  refine' TkB 9 rfl hSS ?_;try go_simp
  refine Gd _ ?_;go_wp2;go_meet;exact⟨rfl,rfl,hU13.out⟩
 case rest=>
 obtain⟨rfl,rfl,hU1⟩:=hcut;have hX2:=hL5.out.stay hU1;clear kS x0 y0 y1 y2 y3 y4 y5 y6 hXb hL5 hU1 k2 k4 kx;obtain⟨w2,hw2⟩:∃w2:World,w2=wc:=⟨_,rfl⟩
 subst hw2;obtain⟨x0,⟨y0,y1,y2,y3,y4,y5,y6⟩,z0,z1,z2,z3,z4,z5,z6⟩:=cd.out w2 hX2;have k10:=Hd (k5.out w2 hX2.sq.hb);replace hX2:=Hd hX2;clear k5;go_upto_region 8 with(go_at_call 11;refine k10.out.mono ?_;rintro e W6 ⟨rfl,hB6⟩)
 clear x0 y0 y1 y2 y3 y4 y5 y6 z0 z1 z2 z3 z4 z5 z6 k10;have hX3:=hX2.out.stay hB6;have e1:(linC S q==linC S q)=true:=beqT rfl;have e2:(linC S q != linC S q)=false:=bneF rfl;clear hB6 hX2;by_cases hz:linC S q=0
 ·have hl:=hl0.out hz;have ht:=htx.out hz;have htp1:=htp.out hz;have kpp:=kp5.out ⟨b1,bc1,b2,bc2,b3,bc3⟩ W6 hX3.sq.hb hX3.pq;have kq:=fun W (hW:Bw W6 W)=>kp14.out ⟨b1,bc1,b2,bc2,b3,bc3⟩ hz W (hX3.stay hW).sq.hb (hX3.stay hW).pq
  try simp only at kpp kq
  unfold TxP at kpp;rw[hl,ht]at kpp;have c5:=Hd (fun W (hW:Bw W6 W)=>cd.out W (hX3.stay hW));rw[hz]at e1 e2 ⊢;obtain⟨x0,⟨y0,y1,y2,y3,y4,y5,y6⟩,z0,z1,z2,z3,z4,z5,z6⟩:=cd.out W6 hX3;have e3:((txC S q).toList==(txC S q).toList)=true:=by rw[bqb];simp
  have e4:(0:Int)<((txC S q).size:Int):=oQ;generalize txC S q=et at*;replace kpp:=Hd kpp;replace kq:=Hd kq;replace hX3:=Hd hX3;replace hz:=Hd hz;replace hl:=Hd hl;replace ht:=Hd ht;clear kp5 kp14 hl0 htx htp htn;go_upto_region 13 with(go_at_call 11;refine kpp.out.mono ?_;rintro e W7 ⟨rfl,hB7⟩)
  clear x0 y0 y1 y2 y3 y4 y5 y6 z0 z1 z2 z3 z4 z5 z6 kpp;obtain⟨x0,⟨y0,y1,y2,y3,y4,y5,y6⟩,z0,z1,z2,z3,z4,z5,z6⟩:=c5.out W7 hB7;have kq7:=Hd (kq.out W7 hB7);have hX4:=Hd (hX3.out.stay hB7);clear hB7 kq hX3;go_wp2_with (go_at_call 14;refine kq7.out.mono ?_;rintro e W8 ⟨rfl,hB8⟩);go_ret;exact⟨rfl,(hX4.out.stay hB8).sq.hb⟩
 ·have hte:=htn.out hz;obtain⟨f1,f2,f3,f4⟩:=emp_t hte;have e5:(linC S q != 0)=true:=bneT hz;have e6:(linC S q==0)=false:=beqF hz;replace hX3:=Hd hX3;replace hte:=Hd hte;generalize txC S q=et at*;generalize linC S q=ec at*;replace hz:=Hd hz;clear kp5 kp14 hl0 htx htp htn;go_wp2;go_ret;exact⟨rfl,hX3.out.sq.hb⟩
end lawW
end Go.Proofs.YthaabihjeomipaaGreatDoor
