/- The law's look at a query's depth. -/
import Derived.Test.YtjbcbibkhalagaaGreatDoorY1
namespace Go.Proofs.YtjbcbibkhalagaaGreatDoor
set_option maxRecDepth 100000
set_option maxHeartbeats 16000000
open Proofs.Tryz Go.RowKit Go.Deep
set_option linter.unusedVariables false
set_option linter.unusedSimpArgs false
def ABl (w w':World)(e:Ending):Prop:=∃b:Bool,e=.returned (.bool b)/\Bw w w'
def SD (L:List D):Prop:=∀x∈L,∃d:Int,x=.v (.int .i64 d)/\0<=d/\d<=65536
theorem SD.snoc {L d}(h:SD L)(h0:0<=d)(h1:d<=65536):SD (L++[.v (.int .i64 d)]):=λx hx=>by
 rcases zM.1 hx with hx |hx
 .exact h x hx
 .rw[xB]at hx;exact⟨d,hx,h0,h1⟩
namespace rS
open cH dR
theorem OD (A c F)(t:List Nd)(hl:t.length<=1048576)(w)(hF:∀b,F b->b<w.heap.size)(r:Rd w F (.slice A t.length c) (.sl t.length (t.flatMap b9))):
  Cl 11 #[.slice A t.length c] w λe w'=>ABl w w' e:=by
 replace⟨r,hF⟩:=H2 r hF;go_enter func11,ntmps11;go_wp2;go_loopw [3,4] (λv x wr=>∃(j:Nat)(L:List D),j<=t.length/\x=.int .i64 j/\OL wr w.heap.size eL 3 1 v j L/\SD L/\Bw w wr) (λ_ x _=>t.length- (intOf x).toNat)
 .exact⟨0,[],zE _,rfl,.nil _ _ _ _ _,λx hx=>by simp at hx,bR⟩
 obtain⟨j,L,hj,rfl,hO,hD,hB⟩:=hrel;by_cases hlt:j<t.length
 .obtain⟨⟨op,nn,vv,at_,a,b⟩,hx⟩:=av hlt;obtain⟨gN,oN,rfl,Zk,n0,n1,n2,n3,n4,n5⟩:=dk r.o hx;have pC:=hF.o gN Zk;have a4:=(hB.cell (p:=⟨gN,oN+j*6+4,none⟩) pC).trans n4;have a5:=(hB.cell (p:=⟨gN,oN+j*6+5,none⟩) pC).trans n5;simp only at a4 a5;clear n0 n1 n2 n3 n4 n5;have g0:=aH j;have g1:=aV j t.length;obtain⟨Ao,co,rfl⟩:=hO.form;have yA:=hO.len;have get:∀m:Nat,m<j->∃(g:Nat)(d:Int),Ao=some ⟨g,0,none⟩/\wr.cell? ⟨g,m,none⟩=some (.int .i64 d)/\0<=d/\d<=65536:=λm hm=>by
   obtain⟨g,cap,e,_,_,_,hc⟩:=hO.row oQ;injection e with e _ _
   obtain⟨x,uW⟩:=av (l:=L) (i:=m) oQ;obtain⟨d,rfl,h0,h1⟩:=hD x (zA uW);obtain⟨u,hu,hr⟩:=hc m _ uW;rw[hr.bH]at hu;exact⟨g,d,e,hu,h0,h1⟩
  have hsz:=hB.size;have sY:=Hd hO;replace⟨hD,hB⟩:=H2 hD hB;clear hx hO;have hA:(a<0)\/(0<=a/\(j:Int)<=a)\/∃m:Nat,a=m/\m<j:=by
   by_cases h:a<0
   .exact .inl h
   .by_cases h2:(j:Int)<=a
    .exact .inr (.inl ⟨oQ,h2⟩)
    .exact .inr (.inr ⟨a.toNat,oQ,oQ⟩)
  have Hv:(b<0)\/(0<=b/\(j:Int)<=b)\/∃m:Nat,b=m/\m<j:=by
   by_cases h:b<0
   .exact .inl h
   .by_cases h2:(j:Int)<=b
    .exact .inr (.inl ⟨oQ,h2⟩)
    .exact .inr (.inr ⟨b.toNat,oQ,oQ⟩)
  obtain⟨g,hg⟩:∃g,0<j->Ao=some ⟨g,0,none⟩:=by
   by_cases h:0<j
   .obtain⟨g,_,e,_⟩:=get 0 h;exact⟨g,λ_=>e⟩
   .exact⟨0,λh2=>absurd h2 h⟩
  replace get:∀m:Nat,m<j->∃d:Int,wr.cell? ⟨g,m,none⟩=some (.int .i64 d)/\0<=d/\d<=65536:=λm hm=>by
   obtain⟨g2,d,e,h⟩:=get m hm;rw[hg oQ]at e;injection e with e
   injection e with e
   subst e;exact⟨d,h⟩
  rcases hA with ha |⟨ha,n7⟩|⟨ma,rfl,hma⟩
  .have e1:¬(0<=a):=oQ;rcases Hv with hb |⟨hb,df⟩|⟨mb,rfl,sH⟩
   .have f1:¬(0<=b):=oQ;go_wp2_with (at_builtin;refine ez rfl (.tmp 72) (.tmp 75) _ rfl (m:=1) (news:=[D.v (.int .i64 (1))]) dS (sY.o.alloc _) rfl rfl (Src.lit (show fB wr _ [.int .i64 (1)] [D.v (.int .i64 (1))]from⟨.v _ rfl,trivial⟩)) rfl oQ oQ (by simp;omega) ?_;intro v' w1 ax aw bu;have az:=Hd ((hB.o.alloc hB.o.size _).grown aw (by simp;omega) (λq hq=>(sY.o.lt q hq).1)));go_roundw
    .exact⟨j+1,_,oQ,gQ,ax,hD.o.snoc oQ oQ,az.o⟩
    exact mQ
   .have f1:¬(b<(j:Int)):=oQ;go_wp2_with (at_builtin;refine ez rfl (.tmp 72) (.tmp 75) _ rfl (m:=1) (news:=[D.v (.int .i64 (1))]) dS (sY.o.alloc _) rfl rfl (Src.lit (show fB wr _ [.int .i64 (1)] [D.v (.int .i64 (1))]from⟨.v _ rfl,trivial⟩)) rfl oQ oQ (by simp;omega) ?_;intro v' w1 ax aw bu;have az:=Hd ((hB.o.alloc hB.o.size _).grown aw (by simp;omega) (λq hq=>(sY.o.lt q hq).1)));go_roundw
    .exact⟨j+1,_,oQ,gQ,ax,hD.o.snoc oQ oQ,az.o⟩
    exact mQ
   .obtain⟨db,cb,db0,db1⟩:=get mb sH;have eB:=hg oQ;try subst eB
    have k0:=aH mb;have k1:(mb:Int)<(j:Int):=oQ;by_cases qe:0<db
    .have I1:db>0:=qe;by_cases hE:65536<=db
     .have Ce:db>=65536:=hE;go_wp2;go_ret;exact⟨_,rfl,hB.o⟩
     .have Ce:¬db>=65536:=hE;have nw:IntKind.i64.wrap (db+1)=db+1:=by rw[xI];omega
      go_wp2_with (at_builtin;refine ez rfl (.tmp 72) (.tmp 75) _ rfl (m:=1) (news:=[D.v (.int .i64 (db+1))]) dS (sY.o.alloc _) rfl rfl (Src.lit (show fB wr _ [.int .i64 (db+1)] [D.v (.int .i64 (db+1))]from⟨.v _ rfl,trivial⟩)) rfl oQ oQ (by simp;omega) ?_;intro v' w1 ax aw bu;have az:=Hd ((hB.o.alloc hB.o.size _).grown aw (by simp;omega) (λq hq=>(sY.o.lt q hq).1)));go_roundw
      .exact⟨j+1,_,oQ,gQ,ax,hD.o.snoc oQ oQ,az.o⟩
      exact mQ
    .have I1:¬db>0:=qe;go_wp2_with (at_builtin;refine ez rfl (.tmp 72) (.tmp 75) _ rfl (m:=1) (news:=[D.v (.int .i64 (1))]) dS (sY.o.alloc _) rfl rfl (Src.lit (show fB wr _ [.int .i64 (1)] [D.v (.int .i64 (1))]from⟨.v _ rfl,trivial⟩)) rfl oQ oQ (by simp;omega) ?_;intro v' w1 ax aw bu;have az:=Hd ((hB.o.alloc hB.o.size _).grown aw (by simp;omega) (λq hq=>(sY.o.lt q hq).1)));go_roundw
     .exact⟨j+1,_,oQ,gQ,ax,hD.o.snoc oQ oQ,az.o⟩
     exact mQ
  .have e1:¬(a<(j:Int)):=oQ;rcases Hv with hb |⟨hb,df⟩|⟨mb,rfl,sH⟩
   .have f1:¬(0<=b):=oQ;go_wp2_with (at_builtin;refine ez rfl (.tmp 72) (.tmp 75) _ rfl (m:=1) (news:=[D.v (.int .i64 (1))]) dS (sY.o.alloc _) rfl rfl (Src.lit (show fB wr _ [.int .i64 (1)] [D.v (.int .i64 (1))]from⟨.v _ rfl,trivial⟩)) rfl oQ oQ (by simp;omega) ?_;intro v' w1 ax aw bu;have az:=Hd ((hB.o.alloc hB.o.size _).grown aw (by simp;omega) (λq hq=>(sY.o.lt q hq).1)));go_roundw
    .exact⟨j+1,_,oQ,gQ,ax,hD.o.snoc oQ oQ,az.o⟩
    exact mQ
   .have f1:¬(b<(j:Int)):=oQ;go_wp2_with (at_builtin;refine ez rfl (.tmp 72) (.tmp 75) _ rfl (m:=1) (news:=[D.v (.int .i64 (1))]) dS (sY.o.alloc _) rfl rfl (Src.lit (show fB wr _ [.int .i64 (1)] [D.v (.int .i64 (1))]from⟨.v _ rfl,trivial⟩)) rfl oQ oQ (by simp;omega) ?_;intro v' w1 ax aw bu;have az:=Hd ((hB.o.alloc hB.o.size _).grown aw (by simp;omega) (λq hq=>(sY.o.lt q hq).1)));go_roundw
    .exact⟨j+1,_,oQ,gQ,ax,hD.o.snoc oQ oQ,az.o⟩
    exact mQ
   .obtain⟨db,cb,db0,db1⟩:=get mb sH;have eB:=hg oQ;try subst eB
    have k0:=aH mb;have k1:(mb:Int)<(j:Int):=oQ;by_cases qe:0<db
    .have I1:db>0:=qe;by_cases hE:65536<=db
     .have Ce:db>=65536:=hE;go_wp2;go_ret;exact⟨_,rfl,hB.o⟩
     .have Ce:¬db>=65536:=hE;have nw:IntKind.i64.wrap (db+1)=db+1:=by rw[xI];omega
      go_wp2_with (at_builtin;refine ez rfl (.tmp 72) (.tmp 75) _ rfl (m:=1) (news:=[D.v (.int .i64 (db+1))]) dS (sY.o.alloc _) rfl rfl (Src.lit (show fB wr _ [.int .i64 (db+1)] [D.v (.int .i64 (db+1))]from⟨.v _ rfl,trivial⟩)) rfl oQ oQ (by simp;omega) ?_;intro v' w1 ax aw bu;have az:=Hd ((hB.o.alloc hB.o.size _).grown aw (by simp;omega) (λq hq=>(sY.o.lt q hq).1)));go_roundw
      .exact⟨j+1,_,oQ,gQ,ax,hD.o.snoc oQ oQ,az.o⟩
      exact mQ
    .have I1:¬db>0:=qe;go_wp2_with (at_builtin;refine ez rfl (.tmp 72) (.tmp 75) _ rfl (m:=1) (news:=[D.v (.int .i64 (1))]) dS (sY.o.alloc _) rfl rfl (Src.lit (show fB wr _ [.int .i64 (1)] [D.v (.int .i64 (1))]from⟨.v _ rfl,trivial⟩)) rfl oQ oQ (by simp;omega) ?_;intro v' w1 ax aw bu;have az:=Hd ((hB.o.alloc hB.o.size _).grown aw (by simp;omega) (λq hq=>(sY.o.lt q hq).1)));go_roundw
     .exact⟨j+1,_,oQ,gQ,ax,hD.o.snoc oQ oQ,az.o⟩
     exact mQ
  .obtain⟨da,ca,da0,da1⟩:=get ma hma;have eA:=hg oQ;subst eA;have i0:=aH ma;have i1:(ma:Int)<(j:Int):=oQ;rcases Hv with hb |⟨hb,df⟩|⟨mb,rfl,sH⟩
   .have f1:¬(0<=b):=oQ;by_cases hE:65536<=da
    .have Ce:da>=65536:=hE;go_wp2;go_ret;exact⟨_,rfl,hB.o⟩
    .have Ce:¬da>=65536:=hE;have nw:IntKind.i64.wrap (da+1)=da+1:=by rw[xI];omega
     go_wp2_with (at_builtin;refine ez rfl (.tmp 72) (.tmp 75) _ rfl (m:=1) (news:=[D.v (.int .i64 (da+1))]) dS (sY.o.alloc _) rfl rfl (Src.lit (show fB wr _ [.int .i64 (da+1)] [D.v (.int .i64 (da+1))]from⟨.v _ rfl,trivial⟩)) rfl oQ oQ (by simp;omega) ?_;intro v' w1 ax aw bu;have az:=Hd ((hB.o.alloc hB.o.size _).grown aw (by simp;omega) (λq hq=>(sY.o.lt q hq).1)));go_roundw
     .exact⟨j+1,_,oQ,gQ,ax,hD.o.snoc oQ oQ,az.o⟩
     exact mQ
   .have f1:¬(b<(j:Int)):=oQ;by_cases hE:65536<=da
    .have Ce:da>=65536:=hE;go_wp2;go_ret;exact⟨_,rfl,hB.o⟩
    .have Ce:¬da>=65536:=hE;have nw:IntKind.i64.wrap (da+1)=da+1:=by rw[xI];omega
     go_wp2_with (at_builtin;refine ez rfl (.tmp 72) (.tmp 75) _ rfl (m:=1) (news:=[D.v (.int .i64 (da+1))]) dS (sY.o.alloc _) rfl rfl (Src.lit (show fB wr _ [.int .i64 (da+1)] [D.v (.int .i64 (da+1))]from⟨.v _ rfl,trivial⟩)) rfl oQ oQ (by simp;omega) ?_;intro v' w1 ax aw bu;have az:=Hd ((hB.o.alloc hB.o.size _).grown aw (by simp;omega) (λq hq=>(sY.o.lt q hq).1)));go_roundw
     .exact⟨j+1,_,oQ,gQ,ax,hD.o.snoc oQ oQ,az.o⟩
     exact mQ
   .obtain⟨db,cb,db0,db1⟩:=get mb sH;have eB:=hg oQ;try subst eB
    have k0:=aH mb;have k1:(mb:Int)<(j:Int):=oQ;by_cases qe:da<db
    .have I1:db>da:=qe;by_cases hE:65536<=db
     .have Ce:db>=65536:=hE;go_wp2;go_ret;exact⟨_,rfl,hB.o⟩
     .have Ce:¬db>=65536:=hE;have nw:IntKind.i64.wrap (db+1)=db+1:=by rw[xI];omega
      go_wp2_with (at_builtin;refine ez rfl (.tmp 72) (.tmp 75) _ rfl (m:=1) (news:=[D.v (.int .i64 (db+1))]) dS (sY.o.alloc _) rfl rfl (Src.lit (show fB wr _ [.int .i64 (db+1)] [D.v (.int .i64 (db+1))]from⟨.v _ rfl,trivial⟩)) rfl oQ oQ (by simp;omega) ?_;intro v' w1 ax aw bu;have az:=Hd ((hB.o.alloc hB.o.size _).grown aw (by simp;omega) (λq hq=>(sY.o.lt q hq).1)));go_roundw
      .exact⟨j+1,_,oQ,gQ,ax,hD.o.snoc oQ oQ,az.o⟩
      exact mQ
    .have I1:¬db>da:=qe;by_cases hE:65536<=da
     .have Ce:da>=65536:=hE;go_wp2;go_ret;exact⟨_,rfl,hB.o⟩
     .have Ce:¬da>=65536:=hE;have nw:IntKind.i64.wrap (da+1)=da+1:=by rw[xI];omega
      go_wp2_with (at_builtin;refine ez rfl (.tmp 72) (.tmp 75) _ rfl (m:=1) (news:=[D.v (.int .i64 (da+1))]) dS (sY.o.alloc _) rfl rfl (Src.lit (show fB wr _ [.int .i64 (da+1)] [D.v (.int .i64 (da+1))]from⟨.v _ rfl,trivial⟩)) rfl oQ oQ (by simp;omega) ?_;intro v' w1 ax aw bu;have az:=Hd ((hB.o.alloc hB.o.size _).grown aw (by simp;omega) (λq hq=>(sY.o.lt q hq).1)));go_roundw
      .exact⟨j+1,_,oQ,gQ,ax,hD.o.snoc oQ oQ,az.o⟩
      exact mQ
 .obtain rfl:j=t.length:=oQ;replace⟨hO,hB,hD⟩:=H3 hO hB hD;go_wp2;go_ret;exact⟨_,rfl,hB.o⟩
theorem xo (F q s)(hs:jE q)(w)(R:QR w F q s):
  Cl 4 #[.agg ⟨qV q s⟩] w λe w'=>ABl w w' e:=by
 have h0:=QB.new q s w;have hF:=R.lt;have sk:=λ(i:Nat) t (hi:q.ret[i]? =some t)=>nM R.r3 hi
 have kb:=λ(A:Option Addr)(c:Nat) t (hl:t.length<=1048576)(r1:Rd w F (.slice A t.length c) (.sl t.length (t.flatMap b9))) W (hW:Bw w W)=>OD A c F t hl W (λb h=>zF (hF b h) hW.size) (r1.under hW hF)
 have kw:=kb s.a2 s.c2 q.wh hs.wh.1 R.r2 _ h0.1;have BQ:=hs.rl;have qH:=hs.re;obtain⟨A1,c1,A2,c2,A3,c3⟩:=s;try simp only at sk kw
 simp only[qV]at h0 kw |-;replace⟨h0,hF,sk,kb,kw,qH⟩:=H6 h0 hF sk kb kw qH;clear R hs;go_enter func4,ntmps4;go_upto_region 2 with(go_at_call 11;refine kw.o.mono ?_;rintro e W1 ⟨b1,rfl,az⟩)
 have qm:=Hd (h0.o.stay az);clear az kw h0;go_wp2;go_loopw [3,4] (λv i wr=>∃(k:Nat)(b:Bool),k<=q.ret.length/\i=.int .i64 k/\v=.bool b/\QB q ⟨A1,c1,A2,c2,A3,c3⟩ w wr) (λ_ i _=>q.ret.length- (intOf i).toNat)
 .exact⟨0,_,zE _,rfl,rfl,qm.o⟩
 clear qm;obtain⟨k,b,hk,rfl,rfl,hQ⟩:=hrel;have fy:=hQ.1;have Cw:=fy.size;have y6:wr.cell? ⟨w.heap.size,6,none⟩=some (.slice A3 q.ret.length c3):=hQ.2.cell 6;by_cases tY:k<q.ret.length
 .obtain⟨t,ht⟩:=av tY;have nj:=zA ht;obtain⟨gR,oR,A6,c6,eR,Rw,F7,r0⟩:=sk.o k t ht;try simp only at eR
  subst eR;have Rx:=hF.o gR Rw;have r1:=(fy.cell (p:=⟨gR,oR+k,none⟩) Rx).trans r0;have p0:=aH k;have p1:=aV k q.ret.length;have rE:=Hd (kb.o A6 c6 t (qH.o t nj).1 F7 wr fy);replace⟨ht,nj,F7,hQ,fy⟩:=H5 ht nj F7 hQ fy;clear r0;go_upto_region 6 with(go_at_call 11;refine rE.o.mono ?_;rintro e W8 ⟨b8,rfl,uC⟩)
  have hQ8:=Hd (hQ.o.stay uC);clear uC y6 r1;cases b with
  |true=>
   go_wp2;go_roundw
   .exact⟨k+1,_,oQ,gQ,rfl,hQ8.o⟩
   exact mQ
  |false=>
   go_wp2;go_roundw
   .exact⟨k+1,_,oQ,gQ,rfl,hQ8.o⟩
   exact mQ
 .obtain rfl:k=q.ret.length:=oQ;replace⟨hQ,fy⟩:=H2 hQ fy;go_wp2;go_ret;exact⟨_,rfl,fy.o⟩
end rS
structure Ev where
 ts:Int
 id:Int
 typ:Int
 a0:Int
 a1:Int
 a2:Int
 a3:Int
 a4:Int
 a5:Int
 a6:Int
 a7:Int
def cS (e:Ev):List Value:=[.int .i64 e.ts,.int .u64 e.id,.int .i64 e.typ,.int .i64 e.a0,.int .i64 e.a1,.int .i64 e.a2,.int .i64 e.a3,.int .i64 e.a4,.int .i64 e.a5,.int .i64 e.a6,.int .i64 e.a7]
def Cr (e:Ev):List Int:=[e.a0,e.a1,e.a2,e.a3,e.a4,e.a5,e.a6,e.a7]
theorem Bi {e k x}(h:(Cr e)[k]? =some x):(cS e)[3+k]? =some (.int .i64 x):=by
 match k with
 |0 |1 |2 |3 |4 |5 |6 |7=>injection h with h;subst h;rfl
 |k+8=>simp[Cr]at h
theorem uI {e k}(h:k<8):∃x,(Cr e)[k]? =some x:=av (l:=Cr e) h
theorem dU:jV prog 49 11:=⟨_,underlying49,rfl,kQ⟩
def OE (t:Int):Prop:=t< -1152921504606846976\/1152921504606846976<t
open Classical in
noncomputable def tj (S:List Td)(e:Ev):Int:=if dy S≠0 then dy S else if e.typ<0\/(S.length:Int)<=e.typ then 27 else
 match S[e.typ.toNat]? with
 |none=>0
 |some t=>if∃k x,t.attrs.length<=k/\(Cr e)[k]? =some x/\x≠0 then 28 else if OE e.ts then 29 else 0
open Classical in
theorem OG {S e}(h:dy S≠0):tj S e=dy S:=if_pos h
open Classical in
theorem OH {S e}(h:dy S=0)(h2:e.typ<0\/(S.length:Int)<=e.typ):tj S e=27:=by
 unfold tj;rw[if_neg (by simpa using h),if_pos h2]
open Classical in
theorem OI {S}{e:Ev}{i k:Nat}{t x}(h:dy S=0)(hi:e.typ=i)(ht:S[i]? =some t)(hk:t.attrs.length<=k)(hx:(Cr e)[k]? =some x)(tu:x≠0):tj S e=28:=by
 have:=(zC.1 ht).1;unfold tj;rw[if_neg (by simpa using h),if_neg oQ,show e.typ.toNat=i by omega,ht];exact if_pos ⟨k,x,hk,hx,tu⟩
open Classical in
theorem OJ {S}{e:Ev}{i:Nat}{t}(h:dy S=0)(hi:e.typ=i)(ht:S[i]? =some t)(hz:∀(k:Nat) x,t.attrs.length<=k->(Cr e)[k]? =some x->x=0)(c)(hc:OE e.ts/\c=29\/¬OE e.ts/\c=0):tj S e=c:=by
 have:=(zC.1 ht).1;unfold tj;rw[if_neg (by simpa using h),if_neg oQ,show e.typ.toNat=i by omega,ht];have hn:¬∃(k:Nat)(x:Int),t.attrs.length<=k/\(Cr e)[k]? =some x/\x≠0:=λ⟨k,x,h1,h2,h3⟩=>h3 (hz k x h1 h2)
 show(if _ then _ else if _ then _ else _)=_
 rw[if_neg hn];rcases hc with⟨h1,h2⟩|⟨h1,h2⟩
 .rw[if_pos h1,h2]
 .rw[if_neg h1,h2]
def EB (w wr:World)(v:Value)(e:Ev):Prop:=Bw w wr/\ao wr w.heap.size 24 [v]/\ao wr (w.heap.size+1) 49 (cS e)
theorem EB.stay {w wr w2 v e}(h:EB w wr v e)(hb:Bw wr w2):EB w w2 v e:=⟨h.1.trans (hb.mono h.1.size),h.2.1.stay hb,h.2.2.stay hb⟩
namespace di
open cH
theorem nP (A c F S e)(hl:iI S)(w)(hK:cW w)(hF:∀b,F b->b<w.heap.size)(r:Rd w F (.slice A S.length c) (.sl S.length (S.flatMap fj))):
  Cl 49 #[.agg #[.slice A S.length c],.agg #[.int .i64 e.ts,.int .u64 e.id,.int .i64 e.typ,.int .i64 e.a0,.int .i64 e.a1,.int .i64 e.a2,.int .i64 e.a3,.int .i64 e.a4,.int .i64 e.a5,.int .i64 e.a6,.int .i64 e.a7]] w λx w'=>x=.returned (.int .i64 (tj S e))/\Bw w w':=by
 have OM:EB w ((w.alloc (.cells ⟨[.slice A S.length c]⟩ 24)).alloc (.cells ⟨cS e⟩ 49)) (.slice A S.length c) e:=⟨(bA).alloc sJ _,(ao.new _ _ _).alloc _,ao.new' sJ⟩;have k1:=Hd (gW A c F S hl ((w.alloc (.cells ⟨[.slice A S.length c]⟩ 24)).alloc (.cells ⟨cS e⟩ 49)) (hK.stay OM.1) (λb h=>zF (hF b h) OM.1.size) (r.under OM.1 hF));have hF':=Hd hF;have r':=Hd r;have BK:=Hd OM;clear OM hF r hK;by_cases hs:dy S=0
 .obtain⟨_,aaj,St⟩:=oP hs;rw[hs]at k1;by_cases h27:e.typ<0\/(S.length:Int)<=e.typ
  .have hce:=Hd (OH hs h27);clear hl hs;rcases h27 with h |h
   .have d0:decide (e.typ<0)=true:=zW h;go_enter func49,ntmps49;go_wp2_with (go_at_call 77;refine k1.o.mono ?_;rintro x w' ⟨rfl,az⟩;have hE:=BK.o.stay az;have y1:w'.cell? ⟨w.heap.size+1,2,none⟩=some (.int .i64 e.typ):=hE.2.2.cell 2;replace hE:=Hd hE;clear az);go_ret;exact⟨by rw[hce.o];rfl,hE.o.1⟩
   .by_cases ry:e.typ<0
    .omega
    .have d0:decide (e.typ<0)=false:=zV ry;have d1:decide (e.typ>=(S.length:Int))=true:=zW h;have d1':decide ((S.length:Int)<=e.typ)=true:=zW h;go_enter func49,ntmps49;go_wp2_with (go_at_call 77;refine k1.o.mono ?_;rintro x w' ⟨rfl,az⟩;have hE:=BK.o.stay az;have y1:w'.cell? ⟨w.heap.size+1,2,none⟩=some (.int .i64 e.typ):=hE.2.2.cell 2;have y0:w'.cell? ⟨w.heap.size,0,none⟩=some (.slice A S.length c):=hE.2.1.cell 0;replace hE:=Hd hE;clear az);go_ret;exact⟨by rw[hce.o];rfl,hE.o.1⟩
  .obtain⟨i,hi⟩:∃i:Nat,e.typ=i:=⟨e.typ.toNat,oQ⟩
   have iT:i<S.length:=oQ;obtain⟨t,ht⟩:=av iT;have hta:t.attrs.length<=8:=(St t (zA ht)).2.1;have Xh:=λk x h1 h2 h3=>OI (e:=e) (k:=k) (x:=x) hs hi ht h1 h2 h3
   have cat:=λhz c hc=>OJ (e:=e) hs hi ht hz c hc
   obtain⟨b,off,rfl,pZ,hv,hsl⟩:=r'.o.cP (m:=2) (λ_=>rfl) ht oQ;obtain⟨A2,c2,a1,r2⟩:=hsl 1 _ _ rfl;have kO:=hF'.o b pZ;have d0:decide ((i:Int)<0)=false:=zV oQ;have d1:decide ((i:Int)>=(S.length:Int))=false:=zV oQ;have d1':decide ((S.length:Int)<=(i:Int))=false:=zV oQ;have g0:=aH i;have g1:=aV i S.length;have kf:∀W,EB w W (.slice (some ⟨b,off,none⟩) S.length c) e->W.cell? ⟨w.heap.size,0,none⟩=some (.slice (some ⟨b,off,none⟩) S.length c)/\W.cell? ⟨w.heap.size+1,2,none⟩=some (.int .i64 (i:Int))/\W.cell? ⟨w.heap.size+1,0,none⟩=some (.int .i64 e.ts)/\W.cell? ⟨b,off+i*2+1,none⟩=some (.slice A2 t.attrs.length c2):=λW hW=>
    ⟨hW.2.1.cell 0,by rw[<-hi];exact hW.2.2.cell 2,hW.2.2.cell 0,(hW.1.cell (p:=⟨b,off+i*2+1,none⟩) kO).trans a1⟩
   have ka:∀W (k:Nat) x,EB w W (.slice (some ⟨b,off,none⟩) S.length c) e->(Cr e)[k]? =some x->W.cell? ⟨w.heap.size+1,3+k,none⟩=some (.int .i64 x):=λW k x hW hx=>(hW.2.2.cell (3+k)).trans (Bi hx)
   replace⟨kf,ka,Xh,cat⟩:=H4 kf ka Xh cat;clear hv hsl ht a1 r2 hs h27 hl hi St;go_enter func49,ntmps49;go_wp2_with (go_at_call 77;refine k1.o.mono ?_;rintro x w' ⟨rfl,az⟩;have hE:=BK.o.stay az;obtain⟨y0,y1,y2,y3⟩:=kf.o w' hE;replace hE:=Hd hE;clear az);go_loopw [6] (λx wr=>∃k:Nat,t.attrs.length<=k/\k<=8/\x=.int .i64 k/\wr=w'/\(∀(m:Nat) x,t.attrs.length<=m->m<k->(Cr e)[m]? =some x->x=0)) (λx _=>8- (intOf x).toNat)
   .exact⟨t.attrs.length,nR,hta,rfl,rfl,λm x h1 h2=>by omega⟩
   obtain⟨k,fM,oY,rfl,rfl,hz⟩:=hrel;replace hz:=Hd hz;by_cases hlt:k<8
   .obtain⟨x,hx⟩:=uI (e:=e) hlt;have q0:wr.cell? ⟨w.heap.size+1,3+k,none⟩=some (.int .i64 x):=ka.o _ _ _ hE.o hx;have q0':wr.cell? ⟨w.heap.size+1,k+3,none⟩=some (.int .i64 x):=(Nat.add_comm 3 k)▸q0;have h0:=aH k;have h1:(k:Int)<8:=oQ;by_cases tu:x=0
    .subst tu;replace hx:=Hd hx;go_wp2;go_roundw
     .refine⟨k+1,oQ,oQ,gQ,trivial,λm x h1 h2 h3=>?_⟩;by_cases Qa:m=k
      .subst Qa;have:=hx.o;rw[h3]at this;exact eO this
      .exact hz.o m x h1 oQ h3
     exact mQ
    .have hce:=Hd (Xh.o k x fM hx tu);have bQ:(x==0)=false:=by simpa using tu
     clear hx tu;go_wp2;go_ret;exact⟨by rw[hce.o];rfl,hE.o.1⟩
   .have hk8:k=8:=oQ;have eX:∀(m:Nat) x,t.attrs.length<=m->(Cr e)[m]? =some x->x=0:=λm x h1 h2=>hz.o m x h1 (by have:=(zC.1 h2).1;simp[Cr]at this;omega) h2
    have hcc:=λc hc=>cat.o eX c hc
    replace hcc:=Hd hcc;subst hk8;clear eX hz hlt;by_cases t1:e.ts< -1152921504606846976
    .have t1d:decide (e.ts< -1152921504606846976)=true:=zW t1;have hce:=Hd (hcc.o 29 (.inl ⟨.inl t1,rfl⟩));clear t1;go_wp2;go_ret;exact⟨by rw[hce.o];rfl,hE.o.1⟩
    .have t1d:decide (e.ts< -1152921504606846976)=false:=zV t1;by_cases t2:1152921504606846976<e.ts
     .have t2d:decide (e.ts>1152921504606846976)=true:=zW t2;have Xi:decide (1152921504606846976<e.ts)=true:=zW t2;have hce:=Hd (hcc.o 29 (.inl ⟨.inr t2,rfl⟩));clear t1 t2;go_wp2;go_ret;exact⟨by rw[hce.o];rfl,hE.o.1⟩
     .have t2d:decide (e.ts>1152921504606846976)=false:=zV t2;have Xi:decide (1152921504606846976<e.ts)=false:=zV t2;have hce:=Hd (hcc.o 0 (.inr ⟨λh=>h.elim t1 t2,rfl⟩));clear t1 t2;go_wp2;go_ret;exact⟨by rw[hce.o];rfl,hE.o.1⟩
 .have hce:=Hd (OG (e:=e) hs);have hne:(dy S==0)=false:=by simpa using hs
  clear hl hs;go_enter func49,ntmps49;go_wp2_with (go_at_call 77;refine k1.o.mono ?_;rintro x w' ⟨rfl,az⟩;have hE:=Hd (BK.o.stay az);clear az);go_ret;exact⟨by rw[hce.o];rfl,hE.o.1⟩
end di
set_option linter.unusedVariables false
def sl8 (a:Addr)(n:Nat):Addr:=if 8=n then a else a.add n
theorem SE (w a)(n:Nat)(hn:n<=8):(Instr.sliceAt 47 (.pointer (some a)) (some (.int .i64 (n:Int))) none none).run prog w=.ok (.slice (some (sl8 a n)) (8-n) (8-n)) w:=by
 have h8:prog.arrayLen 47=8:=kQ;rw[run_sliceAt_array_l w _ a (by rw[h8];kernel_rfl) .i64 n oQ (by rw[h8];omega)];have hs:(sizeOf (prog.elem 47)).run prog w=.ok 1 w:=kQ;rw[hs];show Result.ok (slicedAt a n (prog.arrayLen 47) (prog.arrayLen 47) 1) w=_
 rw[h8];simp only[slicedAt,sl8,Nat.mul_one]
theorem OO {w:World}{g n k v}(h:n+k<8)(hc:w.cell? ⟨g,3+(n+k),none⟩=some v):w.cell? ((sl8 ⟨g,3,none⟩ n).add k)=some v:=by
 rw[sl8,if_neg oQ,Addr.add_mid,Addr.add_mid,Nat.add_assoc];exact hc
namespace di
open cH
theorem Bj (A c F S e)(hl:iI S)(w)(hK:cW w)(hF:∀b,F b->b<w.heap.size)(r:Rd w F (.slice A S.length c) (.sl S.length (S.flatMap fj))):
  Cl 40 #[.agg #[.slice A S.length c],.agg #[.int .i64 e.ts,.int .u64 e.id,.int .i64 e.typ,.int .i64 e.a0,.int .i64 e.a1,.int .i64 e.a2,.int .i64 e.a3,.int .i64 e.a4,.int .i64 e.a5,.int .i64 e.a6,.int .i64 e.a7]] w λx w'=>x=.returned (.int .i64 (tj S e))/\Bw w w':=by
 have OM:EB w ((w.alloc (.cells ⟨[.slice A S.length c]⟩ 24)).alloc (.cells ⟨cS e⟩ 49)) (.slice A S.length c) e:=⟨(bA).alloc sJ _,(ao.new _ _ _).alloc _,ao.new' sJ⟩;have k1:=Hd (iL A c F S hl ((w.alloc (.cells ⟨[.slice A S.length c]⟩ 24)).alloc (.cells ⟨cS e⟩ 49)) (hK.stay OM.1) (λb h=>zF (hF b h) OM.1.size) (r.under OM.1 hF));have hF':=Hd hF;have r':=Hd r;have BK:=Hd OM;clear OM hF r hK;by_cases hs:dy S=0
 .obtain⟨_,aaj,St⟩:=oP hs;rw[hs]at k1;by_cases h27:e.typ<0\/(S.length:Int)<=e.typ
  .have hce:=Hd (OH hs h27);clear hl hs;rcases h27 with h |h
   .have d0:decide (e.typ<0)=true:=zW h;go_enter func40,ntmps40;go_wp2_with (go_at_call 38;refine k1.o.mono ?_;rintro x w' ⟨rfl,az⟩;have hE:=BK.o.stay az;have y1:w'.cell? ⟨w.heap.size+1,2,none⟩=some (.int .i64 e.typ):=hE.2.2.cell 2;replace hE:=Hd hE;clear az);go_ret;exact⟨by rw[hce.o];rfl,hE.o.1⟩
   .by_cases ry:e.typ<0
    .omega
    .have d0:decide (e.typ<0)=false:=zV ry;have d1:decide (e.typ>=(S.length:Int))=true:=zW h;have d1':decide ((S.length:Int)<=e.typ)=true:=zW h;go_enter func40,ntmps40;go_wp2_with (go_at_call 38;refine k1.o.mono ?_;rintro x w' ⟨rfl,az⟩;have hE:=BK.o.stay az;have y1:w'.cell? ⟨w.heap.size+1,2,none⟩=some (.int .i64 e.typ):=hE.2.2.cell 2;have y0:w'.cell? ⟨w.heap.size,0,none⟩=some (.slice A S.length c):=hE.2.1.cell 0;replace hE:=Hd hE;clear az);go_ret;exact⟨by rw[hce.o];rfl,hE.o.1⟩
  .obtain⟨i,hi⟩:∃i:Nat,e.typ=i:=⟨e.typ.toNat,oQ⟩
   have iT:i<S.length:=oQ;obtain⟨t,ht⟩:=av iT;have hta:t.attrs.length<=8:=(St t (zA ht)).2.1;have Xh:=λk x h1 h2 h3=>OI (e:=e) (k:=k) (x:=x) hs hi ht h1 h2 h3
   have cat:=λhz c hc=>OJ (e:=e) hs hi ht hz c hc
   obtain⟨b,off,rfl,pZ,hv,hsl⟩:=r'.o.cP (m:=2) (λ_=>rfl) ht oQ;obtain⟨A2,c2,a1,r2⟩:=hsl 1 _ _ rfl;have kO:=hF'.o b pZ;have d0:decide ((i:Int)<0)=false:=zV oQ;have d1:decide ((i:Int)>=(S.length:Int))=false:=zV oQ;have d1':decide ((S.length:Int)<=(i:Int))=false:=zV oQ;have g0:=aH i;have g1:=aV i S.length;have kf:∀W,EB w W (.slice (some ⟨b,off,none⟩) S.length c) e->W.cell? ⟨w.heap.size,0,none⟩=some (.slice (some ⟨b,off,none⟩) S.length c)/\W.cell? ⟨w.heap.size+1,2,none⟩=some (.int .i64 (i:Int))/\W.cell? ⟨w.heap.size+1,0,none⟩=some (.int .i64 e.ts)/\W.cell? ⟨b,off+i*2+1,none⟩=some (.slice A2 t.attrs.length c2):=λW hW=>
    ⟨hW.2.1.cell 0,by rw[<-hi];exact hW.2.2.cell 2,hW.2.2.cell 0,(hW.1.cell (p:=⟨b,off+i*2+1,none⟩) kO).trans a1⟩
   have ka:∀W (k:Nat) x,EB w W (.slice (some ⟨b,off,none⟩) S.length c) e->(Cr e)[k]? =some x->W.cell? ⟨w.heap.size+1,3+k,none⟩=some (.int .i64 x):=λW k x hW hx=>(hW.2.2.cell (3+k)).trans (Bi hx)
   replace⟨kf,ka,Xh,cat⟩:=H4 kf ka Xh cat;clear hv hsl ht a1 r2 hs h27 hl hi St;go_enter func40,ntmps40;go_wp2_with (go_at_call 38;refine k1.o.mono ?_;rintro x w' ⟨rfl,az⟩;have hE:=BK.o.stay az;obtain⟨y0,y1,y2,y3⟩:=kf.o w' hE;have y4:=SE w' ⟨w.heap.size+1,3,none⟩ t.attrs.length hta;replace hE:=Hd hE;clear az);go_loopw [7,35] (λ_ x wr=>∃k:Nat,t.attrs.length+k<=8/\x=.int .i64 k/\wr=w'/\(∀(m:Nat) x,t.attrs.length<=m->m<t.attrs.length+k->(Cr e)[m]? =some x->x=0)) (λ_ x _=>8- (intOf x).toNat)
   .exact⟨0,oQ,rfl,rfl,λm x h1 h2=>by omega⟩
   obtain⟨k,oY,rfl,rfl,hz⟩:=hrel;replace hz:=Hd hz;by_cases hlt:t.attrs.length+k<8
   .obtain⟨x,hx⟩:=uI (e:=e) hlt;have q0:wr.cell? ((sl8 ⟨w.heap.size+1,3,none⟩ t.attrs.length).add k)=some (.int .i64 x):=OO hlt (ka.o _ _ _ hE.o hx);have h0:=aH k;have h1:(k:Int)<((8-t.attrs.length:Nat):Int):=oQ;have h2:k<8-t.attrs.length:=oQ;have WA:=Hd hx;clear hx;by_cases tu:x=0
    .subst tu;go_wp2;go_roundw
     .refine⟨k+1,oQ,gQ,trivial,λm x h1 h2 h3=>?_⟩;by_cases Qa:m=t.attrs.length+k
      .subst Qa;have:=WA.o;rw[h3]at this;exact eO this
      .exact hz.o m x h1 oQ h3
     exact mQ
    .have hce:=Hd (Xh.o _ x (Nat.le_add_right _ _) WA.o tu);have bQ:(x==0)=false:=by simpa using tu
     clear tu;go_wp2;go_ret;exact⟨by rw[hce.o];rfl,hE.o.1⟩
   .have hk8:t.attrs.length+k=8:=oQ;have h2:¬k<8-t.attrs.length:=oQ;have h2':¬(k:Int)<((8-t.attrs.length:Nat):Int):=oQ;have eX:∀(m:Nat) x,t.attrs.length<=m->(Cr e)[m]? =some x->x=0:=λm x h1 h2=>hz.o m x h1 (by have:=(zC.1 h2).1;simp[Cr]at this;omega) h2
    have hcc:=λc hc=>cat.o eX c hc
    replace hcc:=Hd hcc;clear eX hz hlt;by_cases t1:e.ts< -1152921504606846976
    .have t1d:decide (e.ts< -1152921504606846976)=true:=zW t1;have hce:=Hd (hcc.o 29 (.inl ⟨.inl t1,rfl⟩));clear t1;go_wp2;go_ret;exact⟨by rw[hce.o];rfl,hE.o.1⟩
    .have t1d:decide (e.ts< -1152921504606846976)=false:=zV t1;by_cases t2:1152921504606846976<e.ts
     .have t2d:decide (e.ts>1152921504606846976)=true:=zW t2;have Xi:decide (1152921504606846976<e.ts)=true:=zW t2;have hce:=Hd (hcc.o 29 (.inl ⟨.inr t2,rfl⟩));clear t1 t2;go_wp2;go_ret;exact⟨by rw[hce.o];rfl,hE.o.1⟩
     .have t2d:decide (e.ts>1152921504606846976)=false:=zV t2;have Xi:decide (1152921504606846976<e.ts)=false:=zV t2;have hce:=Hd (hcc.o 0 (.inr ⟨λh=>h.elim t1 t2,rfl⟩));clear t1 t2;go_wp2;go_ret;exact⟨by rw[hce.o];rfl,hE.o.1⟩
 .have hce:=Hd (OG (e:=e) hs);have hne:(dy S==0)=false:=by simpa using hs
  clear hl hs;go_enter func40,ntmps40;go_wp2_with (go_at_call 38;refine k1.o.mono ?_;rintro x w' ⟨rfl,az⟩;have hE:=Hd (BK.o.stay az);clear az);go_ret;exact⟨by rw[hce.o];rfl,hE.o.1⟩
end di
def DN (t:List Kd):Prop:=∀k∈t,∀f∈k.fs,f.fr<8
theorem Xj {l c fs}(hl:∀f∈l,f.fr<8)(h:jx l c=some fs):∀f∈fs,f.fr<8:=by
 unfold jx at h;split at h
 .injection h with h
  subst h;intro f hf;rcases zM.1 hf with hf |hf
  .exact hl f hf
  .simp at hf;subst hf;show(-1:Int)<8;omega
 .split at h
  .cases h
  .split at h
   .injection h with h
    subst h;exact λf hf=>hl f (cZ hf)
   .split at h
    .injection h with h
     subst h;intro f hf;rcases mem_modify hf with hf |⟨y,hy,rfl⟩
     .exact hl f hf
     .exact hl y hy
    .split at h
     .injection h with h
      subst h;intro f hf;unfold yu at hf;rcases zM.1 hf with hf |hf
      .exact hl f (cZ (List.mem_of_mem_take hf))
      .rcases zM.1 hf with hf |hf
       .exact hl f (zA (by simpa using hf))
       .exact hl f (cZ (List.mem_of_mem_drop hf))
     .cases h
theorem Xk {l l' c}(hl:DN l)(h:l6 l c=some l'):DN l':=by
 unfold l6 at h;split at h
 .injection h with h
  subst h;intro k hk;rcases zM.1 hk with hk |hk
  .exact hl k hk
  .simp at hk;subst hk;intro f hf;simp[lS]at hf;obtain⟨a,ha,rfl⟩:=hf;show(-1:Int)<8
   omega
 .split at h
  .split at h
   .cases h
   .split at h
    .injection h with h
     subst h;exact λk hk=>hl k (cZ hk)
    .split at h
     .injection h with h
      subst h;intro k hk;rcases mem_modify hk with hk |⟨y,hy,rfl⟩
      .exact hl k hk
      .exact hl y hy
     .split at h
      .cases h
      .rename_i k hk;obtain⟨fs,hfs,rfl⟩:=xG.1 h;intro x hx;rcases iW hx with hx |rfl
       .exact hl x hx
       .exact Xj (hl k (zA hk)) hfs
  .cases h
theorem Ic {S L}(h0:dy S=0):∀k,(∀j,j<k->eH S L j)->DN (aD S L k)
 |0,_=>λk hk f hf=>by
  rw[show aD S L 0=fu S from rfl,fu]at hk;obtain⟨i,hi,rfl⟩:=List.mem_mapIdx.1 hk;have h8:=((oP h0).2.2 _ (List.getElem_mem hi)).2.1;obtain⟨j,hj,rfl⟩:=List.mem_mapIdx.1 hf;show(j:Int)<8
  omega
 |k+1,h=>by
  obtain⟨c,l,h1,h2,h3⟩:=h k oQ;rw[mI h1 h2];exact Xk (Ic h0 k λj hj=>h j oQ) h2
theorem fJ.fr {S L t c a}(h:fJ S L (some t) c a):DN t:=by
 rcases h with⟨_,h,_⟩|⟨_,_,h,_,_⟩|⟨_,_,k,_,_,_,h,_⟩|⟨h0,_,h1,h2,_⟩
 .cases h
 .cases h
 .cases h
 .injection h2 with h2
  subst h2;exact Ic h0 _ h1
def uk (t:List Kd)(x:Int):Option Nat:=t.findIdx? (λk=>decide (k.fr=x))
theorem yM {t x}(h:∀(i:Nat) k,t[i]? =some k->k.fr≠x):uk t x=none:=by
 rw[uk,List.findIdx?_eq_none_iff];intro a ha;obtain⟨i,hi⟩:=zN ha;simpa using h i a hi
theorem yK {t x j k}(h:t[j]? =some k)(hk:k.fr=x)(hp:∀(i:Nat) a,t[i]? =some a->i<j->a.fr≠x):uk t x=some j:=by
 rw[uk,List.findIdx?_eq_some_iff_getElem];obtain⟨hj,e⟩:=zC.1 h;refine⟨hj,by simpa[e] using hk,λi hi=>?_⟩;simpa using hp i t[i] (zI oQ) hi
theorem SF {t x j}(h:uk t x=some j):j<t.length:=by
 rw[uk,List.findIdx?_eq_some_iff_getElem]at h;exact h.1
def BL (fs:List Fd)(e:Ev)(k:Nat):Int:=match fs[k]? with
 |none=>0
 |some f=>if 0<=f.fr then((Cr e)[f.fr.toNat]?).getD 0 else f.fl
def eK:Ev:=⟨0,0,0,0,0,0,0,0,0,0,0⟩
def Np (fs:List Fd)(e:Ev)(i:Nat):Ev:=⟨e.ts,e.id,i,BL fs e 0,BL fs e 1,BL fs e 2,BL fs e 3,BL fs e 4,BL fs e 5,BL fs e 6,BL fs e 7⟩
def oZ (t:List Kd)(e:Ev):Ev×Bool:=match uk t e.typ with
 |none=>(eK,false)
 |some i=>match t[i]? with
  |none=>(eK,false)
  |some k=>(Np k.fs e i,true)
theorem yL {t e}(h:uk t e.typ=none):oZ t e=(eK,false):=by unfold oZ;rw[h]
theorem yJ {t e i k}(h:uk t e.typ=some i)(hk:t[i]? =some k):oZ t e=(Np k.fs e i,true):=by unfold oZ;rw[h];simp only[hk]
theorem OP {fs e k}(h:fs.length<=k):BL fs e k=0:=by
 unfold BL;rw[xO h]
theorem Nn {fs e k f}(h:fs[k]? =some f)(hf:¬0<=f.fr):BL fs e k=f.fl:=by
 unfold BL;rw[h];exact if_neg hf
theorem Nm {fs e}{k m:Nat}{f:Fd}{x}(h:fs[k]? =some f)(hf:f.fr=m)(hx:(Cr e)[m]? =some x):BL fs e k=x:=by
 unfold BL;rw[h];show(if 0<=f.fr then _ else _)=_
 rw[if_pos oQ,show f.fr.toNat=m by omega,hx];rfl
def nD (fs:List Fd)(e:Ev)(i j:Nat):List Value:=[.int .i64 e.ts,.int .u64 e.id,.int .i64 i]++(List.range 8).map λk=>.int .i64 (if k<j then BL fs e k else 0)
theorem afC (fs e i):nD fs e i 0=[.int .i64 e.ts,.int .u64 e.id,.int .i64 i,.int .i64 0,.int .i64 0,.int .i64 0,.int .i64 0,.int .i64 0,.int .i64 0,.int .i64 0,.int .i64 0]:=rfl
theorem DK {fs}(e i)(h:fs.length<=8):nD fs e i fs.length=cS (Np fs e i):=by
 have hk:∀k,(if k<fs.length then BL fs e k else 0)=BL fs e k:=λk=>by
  by_cases h:k<fs.length
  .rw[if_pos h]
  .rw[if_neg h,OP oQ]
 unfold nD;simp only[hk];rfl
theorem wk (fs e i j):(nD fs e i j).length=11:=rfl
theorem rQ {fs e i j k}(h:k<8):(nD fs e i j)[3+k]? =some (.int .i64 (if k<j then BL fs e k else 0)):=by
 unfold nD;rw[zP (by show 3<=3+k;omega)];show(List.map _ _)[3+k-3]? =_
 rw[show 3+k-3=k by omega,zG,List.getElem?_range h];rfl
theorem pD {fs e i j}(h:j<8):(nD fs e i j).set (3+j) (.int .i64 (BL fs e j))=nD fs e i (j+1):=by
 apply List.ext_getElem?;intro m;rw[xL];by_cases hm:m<3
 .rw[if_neg oQ];match m,hm with
  |0,_=>rfl
  |1,_=>rfl
  |2,_=>rfl
 .obtain⟨k,rfl⟩:∃k,m=3+k:=⟨m-3,oQ⟩
  by_cases hk:k<8
  .rw[rQ hk,rQ hk,wk];by_cases e1:j=k
   .subst e1;rw[if_pos rfl,if_pos oQ,if_pos oQ]
   .rw[if_neg oQ];by_cases h2:k<j
    .rw[if_pos h2,if_pos oQ]
    .rw[if_neg h2,if_neg oQ]
  .rw[if_neg oQ,xO (by rw[wk];omega),xO (by rw[wk];omega)]
def DJ (E:Ev×Bool)(w:World)(x:Ending)(w':World):Prop:=x=.returned (.tuple #[.agg ⟨cS E.1⟩,.bool E.2])/\Bw w w'
theorem DJ.mk' {E w w' cs b}(hc:cs=cS E.1)(hb:b=E.2)(h:Bw w w'):DJ E w (.returned (.tuple #[.agg ⟨cs⟩,.bool b])) w':=by
 subst hc;subst hb;exact⟨rfl,h⟩
structure ES (w wr:World)(g7:Nat)(e:Ev)(cs:List Value):Prop where
 hb:Bw w wr
 b3:ao wr w.heap.size 49 (cS e)
 b4:ao wr (w.heap.size+1) 49 (cS eK)
 b7:ao wr g7 49 cs
 lt:w.heap.size+1<g7
theorem ES.stay {w wr w2 g7 e cs}(h:ES w wr g7 e cs)(hb:Bw wr w2):ES w w2 g7 e cs:=
 ⟨h.hb.trans (hb.mono h.hb.size),h.b3.stay hb,h.b4.stay hb,h.b7.stay hb,h.lt⟩
theorem ES.put {w wr g7 e cs}(h:ES w wr g7 e cs)(i v):ES w (wr.setCell ⟨g7,i,none⟩ v) g7 e (cs.set i v):=
 ⟨h.hb.setCell (by have:=h.lt;show _<=g7;omega) _,h.b3.far (by have:=h.lt;show _≠g7;omega) _,h.b4.far (by have:=h.lt;show _≠g7;omega) _,h.b7.dz i v,h.lt⟩
namespace di
open cH
theorem OT (nm fr x v q W)(hq:W.cell? ⟨q,2,none⟩=some (.int .i64 x)):
  Cl 76 #[.agg #[.string nm,.int .i64 fr,v],.pointer (some ⟨q,0,none⟩)] W λe w'=>e=.returned (.bool (fr==x))/\Bw W w':=by
 have hb:=Hd ((zB W.heap.size W).alloc nR (.cells ⟨[.string nm,.int .i64 fr,v]⟩ 115));have mV:=zX W _ hq;have hne:q≠W.heap.size:=by simp at mV;omega
 go_enter func76,ntmps76;go_wp2;go_ret;exact⟨rfl,hb.o⟩
theorem Xl (A c F)(l:List (Kd×Value))(y q)(hl:l.length<=1048576)(w)(hF:∀b,F b->b<w.heap.size)(r:Rd w F (.slice A l.length c) (.sl l.length (l.flatMap ug)))(hq:w.cell? ⟨q,2,none⟩=some (.int .i64 y)):
  Cl 75 #[.slice A l.length c,.func (.func 76) #[] #[.pointer (some ⟨q,0,none⟩)]] w λe w'=>e=.returned (.int .i64 (cm (uk (l.map (·.1)) y)))/\Bw w w':=by
 generalize hc:uk (l.map (·.1)) y=b;have Z2:q<w.heap.size:=zX w _ hq;have hk:∀W,Bw w W->∀nm fr v,Cl 76 #[.agg #[.string nm,.int .i64 fr,v],.pointer (some ⟨q,0,none⟩)] W λe w'=>e=.returned (.bool (fr==y))/\Bw W w':=λW hW nm fr v=>
  OT nm fr y v q W ((hW.cell (p:=⟨q,2,none⟩) Z2).trans hq)
 replace⟨r,hc,hk,hF⟩:=H4 r hc hk hF;clear hq;go_enter func75,ntmps75;go_wp2;go_loopw [5,8] (λ_ i wr=>∃j:Nat,j<=l.length/\i=.int .i64 j/\Bw w wr/\(∀(i:Nat) a,(l.map (·.1))[i]? =some a->i<j->a.fr≠y)) (λ_ i _=>l.length- (intOf i).toNat)
 .exact⟨0,zE _,rfl,bR,λi a h h3=>by omega⟩
 obtain⟨j,hj,rfl,hB,hp⟩:=hrel;replace hp:=Hd hp;by_cases hlt:j<l.length
 .obtain⟨x,hx⟩:=av hlt;obtain⟨g,off,rfl,_,ha,_⟩:=(r.o.under hB hF.o).cP (m:=3) (λ_=>rfl) hx oQ;have a0:wr.cell? ⟨g,off+j*3,none⟩=some (.string x.1.nm):=ha 0 _ rfl;have a1:wr.cell? ⟨g,off+j*3+1,none⟩=some (.int .i64 x.1.fr):=ha 1 _ rfl;have a2:wr.cell? ⟨g,off+j*3+2,none⟩=some x.2:=ha 2 _ rfl;have g0:=aH j;have g1:=aV j l.length;have iq:(l.map (·.1))[j]? =some x.1:=by rw[zG,hx];rfl
  have gC:=Hd (hk.o wr hB x.1.nm x.1.fr x.2);replace iq:=Hd iq;clear ha hx;by_cases hu:x.1.fr=y
  .have la:(x.1.fr==y)=true:=(by simpa using hu);obtain rfl:b=some j:=by rw[<-hc.o];exact yK iq.o hu hp.o
   replace hu:=Hd hu;go_wp2_with (go_at_call 76;refine gC.o.mono ?_;rintro e w' ⟨rfl,az⟩);go_ret;exact⟨rfl,hB.trans (az.mono hB.size)⟩
  .have la:(x.1.fr==y)=false:=(by simpa using hu);replace hu:=Hd hu;go_wp2_with (go_at_call 76;refine gC.o.mono ?_;rintro e w' ⟨rfl,az⟩);go_roundw
   .refine⟨j+1,oQ,gQ,hB.trans (az.mono hB.size),λi a h h3=>?_⟩;by_cases dE:i=j
    .subst dE;obtain rfl:x.1=a:=by have:=iq.o;rw[h]at this;exact(eO this).symm
     exact hu.o
    .exact hp.o i a h oQ
   exact mQ
 .have g1:=jS j l.length;obtain rfl:b=none:=by
   rw[<-hc.o];exact yM λi a h=>hp.o i a h (by have:=(zC.1 h).1;simp at this;omega)
  go_wp2;go_ret;exact⟨rfl,hB⟩
end di
set_option linter.unusedVariables false
namespace di
open cH
theorem RI {w B g nl vk vl au l}(h:DX w B g vk vl au nl l)(hm:nO (l.map (·.1)))(sV:DN (l.map (·.1)))(e):
  Cl 41 #[.pointer (some ⟨g,0,none⟩),.agg #[.int .i64 e.ts,.int .u64 e.id,.int .i64 e.typ,.int .i64 e.a0,.int .i64 e.a1,.int .i64 e.a2,.int .i64 e.a3,.int .i64 e.a4,.int .i64 e.a5,.int .i64 e.a6,.int .i64 e.a7]] w (DJ (oZ (l.map (·.1)) e) w):=by
 obtain⟨A,c,rfl⟩:=h.kr.form;have yA:l.length<=1048576:=by have:=hm.len;simp at this;omega
 obtain⟨W0,cg⟩:=aB ((w.alloc (.cells ⟨cS e⟩ 49)).alloc (.cells ⟨cS eK⟩ 49))
 have h0:Bw w W0:=by rw[cg];exact(bA).alloc sJ _
 have gp:W0.heap.size=w.heap.size+1+1:=by rw[cg];simp
 have b3:ao W0 w.heap.size 49 (cS e):=by rw[cg];exact(ao.new _ _ _).alloc _
 have b4:ao W0 (w.heap.size+1) 49 (cS eK):=by rw[cg];exact ao.new' sJ
 have hk:=Xl A c (λb=>b<w.heap.size) l e.typ w.heap.size yA W0 (λb hb=>by have:=h0.size;omega) ((h.kr.rd (G:=λb=>b<w.heap.size) (λb hb _=>hb.elim) (λb _ hb=>hb)).under h0 (λb hb=>hb)) (b3.cell 2);have hg:=h.bx.lt;have g0:=h.c0;have CV:=tS
 rw[cg]at hk;cases FP:uk (l.map (·.1)) e.typ with
 |none=>
  rw[FP,show cm none= -1 from rfl]at hk;have hE:=Hd (yL FP);replace hk:=Hd hk;have cN:=Hd h0;have jJ:=Hd b4;clear h hm sV h0 b3 b4 FP;go_enter func41,ntmps41;go_wp2_with (first
   |(go_at_call 75;refine hk.o.mono ?_;rintro e' w' ⟨rfl,az⟩;rw[<-cg]at az;have Yv:=Hd (jJ.o.stay az);have uL:=Hd (cN.o.trans (az.mono cN.o.size)))
   |(refine ay (.store 49 (.tmp 4) (.tmp 18)) rfl ?_;refine eU rfl 49 (.tmp 4) (.tmp 18) rfl (cs':=cS eK) Yv.o dU rfl rfl rfl rfl ?_;intro w1 cL aw))
  refine Kv (v:=.bool false) rfl cL dU rfl rfl rfl ?_;rw[hE.o];exact .mk' rfl rfl (uL.o.grown aw uL.o.size (λq hq=>by injection hq with hq;omega))
 |some i=>
  rw[FP,show cm (some i)=(i:Int)from rfl]at hk;have iT:=SF FP;obtain⟨p1,fR⟩:=av iT;rw[zG]at fR;obtain⟨p,hp,rfl⟩:=xG.1 fR;have fR:(l.map (·.1))[i]? =some p.1:=by rw[zG,hp];rfl
  have hE:=yJ FP fR;have fe:=zA hp;have yB:p.1.fs.length<=8:=hm.fl p.1 (xJ fe);have Ko:∀f∈p.1.fs,f.fr<8:=sV p.1 (xJ fe)
  have BG:i<l.length:=(zC.1 hp).1;have i0:=aH i;have i1:=aV i l.length;obtain⟨gk,cap,hvk,h1,h2,h3,k0,k1,k2⟩:=h.at_ hp;injection hvk with hA1 hA2 hA3
  subst hA1 hA3;have hf:=h.fr p fe;obtain⟨A2,c2,pT⟩:=hf.form;rw[pT]at k2;have kc:∀W,Bw w W->W.cell? ⟨g,0,none⟩=some (.slice (some ⟨gk,0,none⟩) l.length c)/\W.cell? ⟨gk,i*3+2,none⟩=some (.slice A2 p.1.fs.length c2):=λW hW=>⟨(hW.cell (p:=⟨g,0,none⟩) hg).trans h.c0,(hW.cell (p:=⟨gk,i*3+2,none⟩) h2).trans k2⟩
  have Xa:∀W (k:Nat)(x:Fd),Bw w W->p.1.fs[k]? =some x->∃gf,A2=some ⟨gf,0,none⟩/\gf<w.heap.size/\W.cell? ⟨gf,k*3,none⟩=some (.string x.nm)/\W.cell? ⟨gf,k*3+1,none⟩=some (.int .i64 x.fr)/\W.cell? ⟨gf,k*3+2,none⟩=some (.int .i64 x.fl):=λW k x hW hx=>by
   have hk:=(zC.1 hx).1;have F0:=hf;rw[pT]at F0;obtain⟨gf,gX,e,_,h5,_,h6⟩:=F0.row oQ;injection e with e1 e2 e3
   obtain⟨u0,b0,r0⟩:=h6 (k*3+0) _ (po (f:=dt) (m:=3) (λ_=>rfl) hx rfl);obtain⟨u1,b1,r1⟩:=h6 (k*3+1) _ (po (f:=dt) (m:=3) (λ_=>rfl) hx rfl);obtain⟨u2,b2,r2⟩:=h6 (k*3+2) _ (po (f:=dt) (m:=3) (λ_=>rfl) hx rfl);rw[r0.bH]at b0;rw[r1.bH]at b1;rw[r2.bH]at b2;exact⟨gf,e1,h5,(hW.cell (p:=⟨gf,k*3,none⟩) h5).trans b0,(hW.cell (p:=⟨gf,k*3+1,none⟩) h5).trans b1,(hW.cell (p:=⟨gf,k*3+2,none⟩) h5).trans b2⟩
  have hES:∀W,Bw W0 W->W.cell? ⟨w.heap.size,0,none⟩=some (.int .i64 e.ts)/\W.cell? ⟨w.heap.size,1,none⟩=some (.int .u64 e.id)/\ES w (W.alloc (.cells ⟨nD p.1.fs e i 0⟩ 49)) W.heap.size e (nD p.1.fs e i 0):=λW hW=>by
   have hz:=hW.size;have uL:=h0.trans (hW.mono h0.size);have d3:=b3.stay hW;have d4:=b4.stay hW;exact⟨d3.cell 0,d3.cell 1,uL.alloc uL.size _,d3.alloc _,d4.alloc _,ao.new _ _ _,oQ⟩
  replace⟨hE,hk⟩:=H2 hE hk;have cN:=Hd h0;replace⟨Ko,kc,Xa,hES,gp⟩:=H5 Ko kc Xa hES gp;clear h hm sV h0 b3 b4 FP hf hp fR fe k0 k1 k2 h3;go_enter func41,ntmps41;go_wp2_with (go_at_call 75;refine hk.o.mono ?_;rintro e' w' ⟨rfl,az⟩;rw[<-cg]at az;obtain⟨z0,z1,Xm⟩:=hES.o w' az;obtain⟨z2,z3⟩:=kc.o w' (cN.o.trans (az.mono cN.o.size));have ZW:=az.size;rw[gp.o]at ZW;have zg:g<w'.heap.size:=zF hg (zU (Nat.le_add_right _ 2) ZW);have zk:gk<w'.heap.size:=zF h2 (zU (Nat.le_add_right _ 2) ZW);replace Xm:=Hd Xm;clear az);clear z0 z1;go_loopw [8,9,34] (λ_ _ x wr=>∃j:Nat,j<=p.1.fs.length/\x=.int .i64 j/\ES w wr w'.heap.size e (nD p.1.fs e i j)) (λ_ _ x _=>p.1.fs.length- (intOf x).toNat)
  .exact⟨0,zE _,rfl,Xm.o⟩
  obtain⟨j,hj,rfl,hS⟩:=hrel;by_cases hlt:j<p.1.fs.length
  .obtain⟨f,hf⟩:=av hlt;have hj8:j<8:=oQ;obtain⟨gf,rfl,hgf,q0,q1,q2⟩:=Xa.o wr j f hS.hb hf;have hf8:=Ko.o f (zA hf);have g1:=aH j;have g2:(j:Int)<p.1.fs.length:=oQ;have g3:(j:Int)<8:=oQ;have RH:=rQ (fs:=p.1.fs) (e:=e) (i:=i) (j:=j) hj8;rw[if_neg oQ]at RH;have y7:wr.cell? ⟨w'.heap.size,3+j,none⟩=some (.int .i64 0):=(hS.b7.cell _).trans RH;have y7f:wr.frozen? ⟨w'.heap.size,3+j,none⟩=false:=hS.b7.frozen _;have hl7:=hS.b7.lt;have Qx:=hS.b3.lt;by_cases vK:0<=f.fr
   .obtain⟨m,hm⟩:∃m:Nat,f.fr=m:=⟨f.fr.toNat,oQ⟩
    have ZD:m<8:=oQ;obtain⟨x,hx⟩:=uI (e:=e) ZD;have y3:wr.cell? ⟨w.heap.size,3+m,none⟩=some (.int .i64 x):=(hS.b3.cell _).trans (Bi hx);have hv:=Nm (e:=e) hf hm hx;have m0:=aH m;have m1:(m:Int)<8:=oQ;have hne:¬w.heap.size=w'.heap.size:=oQ;rw[hm]at q1;have fY:ES w ((wr.setCell ⟨w'.heap.size,3+j,none⟩ (.int .i64 f.fl)).setCell ⟨w'.heap.size,3+j,none⟩ (.int .i64 x)) w'.heap.size e (nD p.1.fs e i (j+1)):=by
     have:=(hS.put (3+j) (.int .i64 f.fl)).put (3+j) (.int .i64 x);rw[List.set_set,<-hv,pD hj8]at this;rw[<-hv];exact this
    replace fY:=Hd fY;clear hS hf RH hx hv vK hm;go_wp2;go_roundw
    .exact⟨j+1,oQ,gQ,fY.o.stay bA⟩
    exact mQ
   .have hv:=Nn (e:=e) hf vK;have m1:decide (f.fr>=0)=false:=zV vK;have m2:decide (0<=f.fr)=false:=zV vK;have fY:ES w (wr.setCell ⟨w'.heap.size,3+j,none⟩ (.int .i64 f.fl)) w'.heap.size e (nD p.1.fs e i (j+1)):=by
     have:=hS.put (3+j) (.int .i64 f.fl);rw[<-hv,pD hj8]at this;rw[<-hv];exact this
    replace fY:=Hd fY;clear hS hf RH hv vK;go_wp2;go_roundw
    .exact⟨j+1,oQ,gQ,fY.o.stay bA⟩
    exact mQ
  .have Ki:j=p.1.fs.length:=oQ;subst Ki;rw[DK e i yB]at hS;have Pm:=Hd hS;clear hS;go_wp2_with (first
    |(refine ay (.load 49 (.tmp 7)) rfl ?_;refine aJ rfl 49 (.tmp 7) rfl Pm.o.b7 dU rfl ?_)
    |(refine ay (.store 49 (.tmp 4) (.tmp 56)) rfl ?_;refine eU rfl 49 (.tmp 4) (.tmp 56) rfl (cs':=cS (Np p.1.fs e i)) Pm.o.b4 dU rfl rfl rfl rfl ?_;intro w1 cL aw))
   refine Kv (v:=.bool true) rfl cL dU rfl rfl rfl ?_;rw[hE.o];exact .mk' rfl rfl (Pm.o.hb.grown aw Pm.o.hb.size (λq hq=>by injection hq with hq;omega))
end di
