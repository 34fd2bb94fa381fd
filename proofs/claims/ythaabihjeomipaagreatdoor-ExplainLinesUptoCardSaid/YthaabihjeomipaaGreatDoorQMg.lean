/- The program's Explain and Same. -/
import Derived.Test.YthaabihjeomipaaGreatDoorQMf
namespace Go.Proofs.YthaabihjeomipaaGreatDoor
set_option maxRecDepth 100000
set_option maxHeartbeats 16000000
open Go.RowKit Go.Deep
set_option linter.unusedVariables false
set_option linter.unusedSimpArgs false
theorem lin_sum {l:List Td}{q:Qy}(hok:LnOk l q)(hs:SzQ q)(hmw:SzM q.wh)(hmr:∀t∈q.ret,SzM t):szS (linL q)≤140737488355328:=by
 have hz:=lin_size hok hs hmw hmr;have hr:=row_size hok hs hmw;have hil:=hok.il;have hrl:=hok.rl;have hR:(rowsQ q).length≤1048576:=by unfold rowsQ;rw[xC];exact zU (roots_len hok) hs.wh.1
 have hly:∀k o h,h.size≤7→szS (layL (rowsQ q) k o h)≤26008*1048576:=fun k o h hh=>by
  have h1:=szS_le (l:=layL (rowsQ q) k o h) (b:=26007) (fun x hx=>by have:=lay_size hr hx;omega);have h2:=lay_len (rowsQ q) k o h;exact zU h1 (Nat.mul_le_mul nR (zU h2 hR))
 have one:∀x:ByteArray,x.size≤33554432→szS [x]≤33554433:=fun x hx=>by
  show x.size+1+0≤_
  omega
 have h2:∀j,j≤q.items.length→szS (L2 q j)≤33554433+j*(33554433+2*(26008*1048576)):=by
  intro j;induction j with
  |zero=>
   intro _;have e:L2 q 0=[headL q]:=by unfold L2;rw[List.take_zero];rfl
   rw[e];exact zU (one _ (hz _ (xS ..))) oQ
  |succ j ih=>
   intro hj;obtain⟨x,hx⟩:=getx (l:=q.items) (i:=j) oQ;have hi:=one (itemL q j x) (hz _ (xU _ (List.mem_append_left _ (mapI_mem (n:=0) hx (by rw[Nat.zero_add];exact xS ..)))));have h3:=hly (j:Int) true ownB dQ;have h4:=hly (j:Int) false asksB dQ;have h5:=ih oQ;rw[L2_next hx,szS_app,szS_app,szS_app,Nat.succ_mul];omega
 have h6:=h2 q.items.length nR;have h7:=hly (-1) false alwB dQ;have h8:szS (q.ret.map fun t=>resB++exT (pln q t))≤33554433*8:=by
  have h1:=szS_le (l:=q.ret.map fun t=>resB++exT (pln q t)) (b:=33554432) (fun x hx=>hz x (xU _ (xN _ (xN _ hx))));refine zU h1 (Nat.mul_le_mul nR ?_);rw[xC];exact hrl
 have h9:q.items.length*(33554433+2*(26008*1048576))≤10*(33554433+2*(26008*1048576)):=Nat.mul_le_mul hil nR;rw[←L3_all];unfold L3;rw[zL,szS_app,szS_app];omega
theorem lin_ne (q:Qy):linL q≠ []:=fun h=>by unfold linL at h;cases h
def SmB (l:List Td)(q r:Qy):Prop:=linC l q=0∧linC l r=0∧txC l q=txC l r
namespace shW
open nmW ckW shR
theorem explain_k (A:Option Addr)(c:Nat)(F:Nat→Prop)(l:List Td)(q:Qy)(s:Sl3)(hl:SzT l)(hs:SzQ q)(hmw:SzM q.wh)(hmr:∀t∈q.ret,SzM t)(w:World)(hT:XT w)(hM:MT w)(R:QR w F q s)(r:Rd w F (.slice A l.length c) (.sl l.length (l.flatMap tdD))):
  Calls Tryz.prog 11 #[.agg ⟨[.slice A l.length c]⟩,.agg ⟨qV q s⟩] w (TxP l q w):=by
 have h0:=SQ.new l A c q s w;obtain⟨W0,hW0⟩:∃W0,W0=((w.alloc (.cells ⟨[.slice A l.length c]⟩ 24)).alloc (.cells ⟨qV q s⟩ 31)):=⟨_,rfl⟩
 rw[←hW0]at h0;have hb0:=h0.hb;obtain⟨y0,y1,y2,y3,y4,y5,y6⟩:=qbc h0.b1;have x0:=h0.b0.cell 0;have kl:=lines_k A c F l q s hl hs hmw hmr W0 (hT.stay hb0) (hM.stay hb0) (R.under hb0) (r.under hb0 R.lt);have kj:linC l q=0→∀v W,OL W W0.heap.size NoF 9 1 v (linL q).length ((linL q).flatMap strD)→Calls Tryz.prog 23 #[v,.string nlB] W (StP (jnW nlB (linL q)) W):=fun h v W hO=>by
  have hok:=ln_ok (lin_chk0 h);refine join_s W0.heap.size v (linL q) nlB W rfl hO ?_ (lin_sum hok hs hmw hmr);rw[←L3_all];exact zU (L3_len _ hok.il hok.rl (by unfold rowsQ;rw[xC];exact zU (roots_len hok) hs.wh.1)) oQ
 have hjz:linC l q=0→(jnW nlB (linL q)).size≤140737488355328:=fun h=>zU (jnW_sz rfl _) (lin_sum (ln_ok (lin_chk0 h)) hs hmw hmr)
 have htj:=txt_jn (linL q) (lin_ne q);unfold LnP at kl;obtain⟨ec,hec⟩:∃ec,ec=linC l q:=⟨_,rfl⟩
 obtain⟨tx,htx⟩:∃tx,tx=txC l q:=⟨_,rfl⟩
 have htx0:ec=0→tx=jnW nlB (linL q)++⟨#[10]⟩:=fun h=>by rw[htx];unfold txC;rw[if_pos (hec▸h)];exact htj.symm
 have htx1:ec≠0→tx=emp:=fun h=>by rw[htx];unfold txC;rw[if_neg (hec▸h)]
 unfold TxP;rw[←hec]at kl kj hjz ⊢;rw[←htx];generalize linL q=L at kl kj hjz htx0;generalize jnW nlB L=J at kj hjz htx0;unfold nlB at kj;obtain⟨A1,c1,A2,c2,A3,c3⟩:=s;simp only[qV,zY]at hW0 y0 y1 y2 y3 y4 y5 y6 x0 kl ⊢;replace kl:=Hd kl;replace kj:=Hd kj;replace hjz:=Hd hjz;have hWW:=Hd hW0;replace hb0:=Hd hb0;replace htx0:=Hd htx0;replace htx1:=Hd htx1;clear hW0 h0 hec htx hT hM R r hl hs hmw hmr htj;go_enter Tryz.func11,Tryz.ntmps11;go_upto_region 1 with fail
 rw[←hWW.out];go_upto_region 2 with(go_at_call 16;refine kl.out.mono ?_;rintro e W1 ⟨vl,rfl,h1,h2,hX1⟩)
 have hB1:=hb0.out.trans (hX1.mono hb0.out.size);clear hX1 kl hWW hb0 x0 y0 y1 y2 y3 y4 y5 y6;by_cases hs0:ec=0
 case neg=>
  have f2:=bneT hs0;have hd:=htx1.out hs0;subst hd;replace hs0:=Hd hs0;replace h1:=Hd h1;replace h2:=Hd h2;go_wp2;refine bodyPost_ret (results_tmp2 rfl _ _ _) rfl ?_;exact⟨rfl,hB1⟩
 have hO:=h1 hs0;have htxt:=htx0.out hs0;have hz:=hjz.out hs0;have kj1:=Hd (kj.out hs0 vl W1 hO);subst hs0;have hss:J.size+(⟨#[10]⟩:ByteArray).size≤9223372036854775807:=by show J.size+1≤_;omega
 replace hB1:=Hd hB1;replace htxt:=Hd htxt;clear hO h1 h2 htx0 htx1 hjz kj;go_wp2_with (go_at_call 23;refine kj1.out.mono ?_;rintro e W2 ⟨rfl,hX2⟩);refine bodyPost_ret (results_tmp2 rfl _ _ _) rfl ?_;exact⟨by rw[htxt.out];rfl,hB1.out.and1 nR hX2⟩
theorem same_k (A:Option Addr)(c:Nat)(F:Nat→Prop)(l:List Td)(q p:Qy)(s u:Sl3)(hl:SzT l)(hs:SzQ q)(hmw:SzM q.wh)(hmr:∀t∈q.ret,SzM t)(hp:SzQ p)(hpw:SzM p.wh)(hpr:∀t∈p.ret,SzM t)(w:World)(hT:XT w)(hM:MT w)(R:QR w F q s)(P:QR w F p u)(r:Rd w F (.slice A l.length c) (.sl l.length (l.flatMap tdD))):
  ∀b:Bool,(b=true↔SmB l q p)→Calls Tryz.prog 14 #[.agg ⟨[.slice A l.length c]⟩,.agg ⟨qV q s⟩,.agg ⟨qV p u⟩] w fun e w'=>e=.returned (.bool b)∧Bw w w':=by
 intro b hb;obtain⟨W0,hW0⟩:∃W0,W0=(((w.alloc (.cells ⟨[.slice A l.length c]⟩ 24)).alloc (.cells ⟨qV q s⟩ 31)).alloc (.cells ⟨qV p u⟩ 31)):=⟨_,rfl⟩
 have b0:Blk W0 w.heap.size 24 [.slice A l.length c]:=by rw[hW0];exact((Blk.new _ _ _).alloc _).alloc _
 have b1:Blk W0 (w.heap.size+1) 31 (qV q s):=by rw[hW0];exact(Blk.new' sJ).alloc _
 have b2:Blk W0 (w.heap.size+1+1) 31 (qV p u):=by rw[hW0];exact Blk.new' sJ
 have hb0:Bw w W0:=by rw[hW0];exact((bA).alloc sJ _).alloc (by simp;omega) _
 obtain⟨y0,y1,y2,y3,y4,y5,y6⟩:=qbc b1;have x0:=b0.cell 0;have k1:=explain_k A c F l q s hl hs hmw hmr W0 (hT.stay hb0) (hM.stay hb0) (R.under hb0) (r.under hb0 R.lt);have k2:=fun W (h:Bw w W)=>explain_k A c F l p u hl hp hpw hpr W (hT.stay h) (hM.stay h) (P.under h) (r.under h P.lt)
 have cc:=fun W (h:Bw W0 W)=>xW ((b0.stay h).cell 0) (qbc (b2.stay h))
 unfold SmB at hb;obtain⟨A1,c1,A2,c2,A3,c3⟩:=s;obtain⟨D1,d1,D2,d2,D3,d3⟩:=u;simp only[qV,zY]at hW0 y0 y1 y2 y3 y4 y5 y6 x0 k1 k2 cc ⊢;unfold TxP at k1 k2;generalize linC l q=ec at k1 hb;generalize linC l p=ed at k2 hb;generalize txC l q=ta at k1 hb;generalize txC l p=tb at k2 hb;replace k1:=Hd k1;replace k2:=Hd k2;replace cc:=Hd cc;replace hb:=Hd hb;have hWW:=Hd hW0;replace hb0:=Hd hb0;clear hW0 b0 b1 b2 hT hM R P r hl hs hmw hmr hp hpw hpr;go_enter Tryz.func14,Tryz.ntmps14;go_upto_region 1 with fail
 rw[←hWW.out];go_upto_region 2 with(go_at_call 11;refine k1.out.mono ?_;rintro e W1 ⟨rfl,hX1⟩)
 have hB1:=hb0.out.trans (hX1.mono hb0.out.size);have k3:=Hd (k2.out W1 hB1);clear y0 y1 y2 y3 y4 y5 y6 x0 k1 k2;obtain⟨x0,y0,y1,y2,y3,y4,y5,y6⟩:=cc.out W1 hX1;replace hB1:=Hd hB1;clear hX1 cc hWW hb0;go_upto_region 3 with(go_at_call 11;refine k3.out.mono ?_;rintro e W2 ⟨rfl,hX2⟩)
 have hB2:=Hd (hB1.out.and1 nR hX2);clear k3 hX2 hB1 x0 y0 y1 y2 y3 y4 y5 y6;by_cases h1:ec=0
 ·have f1:=beqT h1;by_cases h2:ed=0
  ·have f2:=beqT h2;by_cases h3:ta=tb
   ·have f3:(ta.toList==tb.toList)=true:=(by rw[bqb,zW h3]);have hfin:=Hd (show b=true from hb.out.2 ⟨h1,h2,h3⟩);replace h1:=Hd h1;replace h2:=Hd h2;replace h3:=Hd h3;go_wp2;go_ret;exact⟨by rw[hfin.out];rfl,hB2.out⟩
   ·have f3:(ta.toList==tb.toList)=false:=(by rw[bqb,zV h3]);have hfin:b=false:=by cases hbb:b with |false=>rfl |true=>exact absurd (hb.out.1 hbb).2.2 h3
    replace h1:=Hd h1;replace h2:=Hd h2;replace h3:=Hd h3;replace hfin:=Hd hfin;go_wp2;go_ret;exact⟨by rw[hfin.out];rfl,hB2.out⟩
  ·have f2:=beqF h2;have hfin:b=false:=by cases hbb:b with |false=>rfl |true=>exact absurd (hb.out.1 hbb).2.1 h2
   replace h1:=Hd h1;replace h2:=Hd h2;replace hfin:=Hd hfin;go_wp2;go_ret;exact⟨by rw[hfin.out];rfl,hB2.out⟩
 ·have f1:=beqF h1;have hfin:b=false:=by cases hbb:b with |false=>rfl |true=>exact absurd (hb.out.1 hbb).1 h1
  replace h1:=Hd h1;replace hfin:=Hd hfin;go_wp2;go_ret;exact⟨by rw[hfin.out];rfl,hB2.out⟩
end shW
abbrev NoB:Nat→Prop:=fun _=>False
theorem ne_sym {v u:Value}(h:v.ownBlock=none∨v.ownBlock≠u.ownBlock):u.ownBlock=none∨u.ownBlock≠v.ownBlock:=by
 rcases h with h |h
 ·rw[h];cases hu:u.ownBlock with
  |none=>exact .inl rfl
  |some q=>exact .inr sJ
 ·exact .inr (fun e=>h e.symm)
structure RK (α:Type)where
 e:Nat
 size:Nat
 es:Nat
 ss:Nat
 f:α×Value→List D
 n:α→Nat
 ds:α→List D
structure RW {α:Type}(K:RK α)(w:World)(B:Nat)(v:Value)(l:List (α×Value)):Prop where
 kr:OL w B NoB K.e K.size v l.length (l.flatMap K.f)
 fr:∀p∈l,OL w B NoB K.es K.ss p.2 (K.n p.1) (K.ds p.1)
 ne:∀(i j:Nat)(p q:α×Value),l[i]? =some p→l[j]? =some q→i≠j→p.2.ownBlock=none∨p.2.ownBlock≠q.2.ownBlock
section
variable {α:Type}{K:RK α}{w:World}{B:Nat}{v:Value}{l:List (α×Value)}
theorem RW.nil (K:RK α)(w:World)(B:Nat):RW K w B (.slice none 0 0) []:=⟨.nil _ _ _ _ _,fun p hp=>by simp at hp,fun i j p q hp=>by simp at hp⟩
theorem RW.stay {w2:World}(h:RW K w B v l)(hb:Bw w w2):RW K w2 B v l:=⟨h.kr.stay hb,fun p hp=>(h.fr p hp).stay hb,h.ne⟩
theorem RW.far {p:Addr}{x:Value}(h:RW K w B v l)(hp:p.block<B):RW K (w.setCell p x) B v l:=
 ⟨h.kr.setCell (fun e=>by have:=(h.kr.lt _ e).1;omega) (fun h=>h) _,fun q hq=>(h.fr q hq).setCell (fun e=>by have:=((h.fr q hq).lt _ e).1;omega) (fun h=>h) _,h.ne⟩
theorem RW.base {B':Nat}(h:RW K w B v l)(hB:B'≤B):RW K w B' v l:=⟨h.kr.base hB,fun p hp=>(h.fr p hp).base hB,h.ne⟩
theorem RW.kept {w1:World}{row:Option Nat}(h:RW K w B v l)(hg:w.grownBy w1 row)(h1:v.ownBlock=none∨v.ownBlock≠row)(h2:∀p∈l,p.2.ownBlock=none∨p.2.ownBlock≠row):RW K w1 B v l:=
 ⟨h.kr.kept hg h1 (fun _ hb=>hb.elim),fun p hp=>(h.fr p hp).kept hg (h2 p hp) (fun _ hb=>hb.elim),h.ne⟩
theorem get_snoc {β:Type}{l:List β}{y:β}{a:Nat}{x:β}(hx:(l++[y])[a]? =some x):(a<l.length∧l[a]? =some x)∨(a=l.length∧x=y):=by
 by_cases ha:a<l.length
 ·rw[zS ha]at hx;exact .inl ⟨ha,hx⟩
 ·rw[zP oQ]at hx;have:=(zC.1 hx).1;simp at this;have e:a-l.length=0:=oQ;rw[e]at hx;exact .inr ⟨oQ,by simpa using hx.symm⟩
theorem RW.snoc {w1:World}{v' u:Value}{t:α}(hK:K.e≠K.es)(h:RW K w B v l)(hg:w.grownBy w1 v.ownBlock)(hv:OL w1 B NoB K.e K.size v' (l.length+1) (l.flatMap K.f++K.f (t,u)))
  (hu:OL w B NoB K.es K.ss u (K.n t) (K.ds t))(hne:∀p∈l,u.ownBlock=none∨u.ownBlock≠p.2.ownBlock):RW K w1 B v' (l++[(t,u)]):=by
 refine⟨by simpa using hv,fun p hp=>?_,?_⟩
 ·rcases zM.1 hp with hp |hp
  ·exact(h.fr p hp).kept hg ((h.fr p hp).ne h.kr (fun e=>hK e.symm)) (fun _ hb=>hb.elim)
  ·simp at hp;subst hp;exact hu.kept hg (hu.ne h.kr (fun e=>hK e.symm)) (fun _ hb=>hb.elim)
 ·intro a b x y hx hy hab;rcases get_snoc hx with⟨h1,h2⟩|⟨h1,rfl⟩
  ·rcases get_snoc hy with⟨h3,h4⟩|⟨h3,rfl⟩
   ·exact h.ne a b x y h2 h4 hab
   ·exact ne_sym (hne x (zA h2))
  ·rcases get_snoc hy with⟨h3,h4⟩|⟨h3,rfl⟩
   ·exact hne y (zA h4)
   ·omega
theorem RW.newer {u:Value}{b:Nat}(h:RW K w B v l)(hb:w.heap.size≤b)(hu:∀q,u.ownBlock=some q→b≤q):∀p∈l,u.ownBlock=none∨u.ownBlock≠p.2.ownBlock:=fun p hp=>by
 cases hq:u.ownBlock with
 |none=>exact .inl rfl
 |some q=>
  refine .inr fun he=>?_
  have h1:=hu q hq;have h2:=((h.fr p hp).lt q he.symm).2;omega
end
def icD (p:It×Value):List D:=[.v (.bool p.1.neg),.v p.2,.v (.string p.1.v),.v (.int .i64 p.1.lo),.v (.int .i64 p.1.hi)]
def rcD (p:List Nd×Value):List D:=[.v p.2]
def KI:RK It:=⟨53,5,9,1,icD,fun x=>x.tys.length,fun x=>x.tys.flatMap strD⟩
def KR:RK (List Nd):=⟨28,1,96,6,rcD,fun t=>t.length,fun t=>t.flatMap ndD⟩
theorem KI_ne:KI.e≠KI.es:=dQ
theorem KR_ne:KR.e≠KR.es:=dQ
theorem elIt:ElT Tryz.prog 25 53 5 64:=.of Tryz.underlying25 kQ oQ
theorem elRe:ElT Tryz.prog 29 28 1 24:=.of Tryz.underlying29 kQ oQ
theorem ic_rd (w:World)(G:Nat→Prop)(x:It)(A:Option Addr)(n c:Nat):RdL w G (itV x (.slice A n c)) (icD (x,.slice A n c)):=⟨.v _ rfl,.v _ rfl,.v _ rfl,.v _ rfl,.v _ rfl,trivial⟩
theorem rc_rd (w:World)(G:Nat→Prop)(t:List Nd)(A:Option Addr)(n c:Nat):RdL w G [.slice A n c] (rcD (t,.slice A n c)):=⟨.v _ rfl,trivial⟩
def quV (q:Qy)(v1 v2 v3:Value)(by_:ByteArray):List Value:=[v1,.int .i64 q.mode,.int .i64 q.after,v2,.int .i64 q.within,.string by_,v3]
def zqV:List Value:=[.slice none 0 0,.int .i64 0,.int .i64 0,.slice none 0 0,.int .i64 0,.string ⟨#[]⟩,.slice none 0 0]
theorem aggQu:AggT Tryz.prog 31 7:=⟨_,Tryz.underlying31,rfl,kQ⟩
structure OQ (w:World)(B:Nat)(v1 v2 v3:Value)(l:List (It×Value))(wh:List Nd)(rl:List (List Nd×Value)):Prop where
 i:RW KI w B v1 l
 wr:OL w B NoB 96 6 v2 wh.length (wh.flatMap ndD)
 r:RW KR w B v3 rl
 ne:∀p∈rl,v2.ownBlock=none∨v2.ownBlock≠p.2.ownBlock
theorem OQ.stay {w w2:World}{B:Nat}{v1 v2 v3:Value}{l:List (It×Value)}{wh:List Nd}{rl:List (List Nd×Value)}(h:OQ w B v1 v2 v3 l wh rl)(hb:Bw w w2):OQ w2 B v1 v2 v3 l wh rl:=⟨h.i.stay hb,h.wr.stay hb,h.r.stay hb,h.ne⟩
theorem OQ.base {w:World}{B B':Nat}{v1 v2 v3:Value}{l:List (It×Value)}{wh:List Nd}{rl:List (List Nd×Value)}(h:OQ w B v1 v2 v3 l wh rl)(hB:B'≤B):OQ w B' v1 v2 v3 l wh rl:=⟨h.i.base hB,h.wr.base hB,h.r.base hB,h.ne⟩
section
variable {α:Type}
theorem fl_get {f:α×Value→List D}{g:α→List D}{n:α→Nat}{ds:α→List D}{m:Nat}(hf:∀p,(f p).length=m)(hg:∀x,(g x).length=m)
  (hp:∀(p:α×Value)(k:Nat)(d:D),(g p.1)[k]? =some d→∃d',(f p)[k]? =some d'∧(d'=d∨(d'=.v p.2∧d=.sl (n p.1) (ds p.1)))):∀{l:List (α×Value)}{k:Nat}{d:D},((l.map (·.1)).flatMap g)[k]? =some d→∃d',(l.flatMap f)[k]? =some d'∧(d'=d∨∃p∈l,d'=.v p.2∧d=.sl (n p.1) (ds p.1)):=by
 intro l;induction l with
 |nil=>intro k d h;simp at h
 |cons a l ih=>
  intro k d h;rw[List.map_cons,zK]at h;rw[zK];by_cases hk:k<m
  ·rw[zS (by rw[hg];omega)]at h;rw[zS (by rw[hf];omega)];obtain⟨d',h1,h2⟩:=hp a k d h;refine⟨d',h1,?_⟩;rcases h2 with h2 |h2
   ·exact .inl h2
   ·exact .inr ⟨a,xS,h2⟩
  ·rw[zP (by rw[hg];omega),hg]at h;rw[zP (by rw[hf];omega),hf];obtain⟨d',h1,h2⟩:=ih h;refine⟨d',h1,?_⟩;rcases h2 with h2 |⟨p,hp,h3⟩
   ·exact .inl h2
   ·exact .inr ⟨p,xU _ hp,h3⟩
theorem RW.rd {K:RK α}{w:World}{B:Nat}{v:Value}{l:List (α×Value)}{G:Nat→Prop}{g:α→List D}(h:RW K w B v l)(hK:K.es≠K.e)(hf:∀p,(K.f p).length=K.size)(hg:∀x,(g x).length=K.size)
  (hp:∀(p:α×Value)(k:Nat)(d:D),(g p.1)[k]? =some d→∃d',(K.f p)[k]? =some d'∧(d'=d∨(d'=.v p.2∧d=.sl (K.n p.1) (K.ds p.1))))(hG:∀b,B≤b→b<w.heap.size→G b):Rd w G v (.sl l.length ((l.map (·.1)).flatMap g)):=by
 have hO:OL w B G K.e K.size v l.length ((l.map (·.1)).flatMap g):=by
  obtain⟨cells,h1,h2,h3⟩:=h.kr;refine⟨cells,h1,by rw[fml (f:=g) hg,xC,h1.1],fun k d hd=>?_⟩;obtain⟨d',hd',hor⟩:=fl_get hf hg hp hd;obtain⟨u,hu,hr⟩:=h3 k d' hd';refine⟨u,hu,?_⟩;rcases hor with rfl |⟨p,hp,rfl,rfl⟩
  ·exact hr.mono fun b hb _=>hb.1.elim
  ·have hv:=hr.v_inv;subst hv;refine(h.fr p hp).rd' (fun b hb _=>hb.elim) (fun b hb h1 h2=>⟨hG b h1 h2,fun e=>?_⟩);rcases(h.fr p hp).ne h.kr hK with e2 |e2
   ·rw[hb]at e2;cases e2
   ·exact e2 (by rw[hb,e])
 exact hO.rd (fun b hb _=>hb) hG
end
theorem OQ.qr {w:World}{B:Nat}{v1 v2 v3:Value}{l:List (It×Value)}{rl:List (List Nd×Value)}{q:Qy}{G:Nat→Prop}(h:OQ w B v1 v2 v3 l q.wh rl)(hl:l.map (·.1)=q.items)(hr:rl.map (·.1)=q.ret)(hG:∀b,B≤b→b<w.heap.size→G b)(hlt:∀b,G b→b<w.heap.size):
  ∃s,quV q v1 v2 v3 q.by_=qV q s∧QR w G q s:=by
 have e1:l.length=q.items.length:=by rw[←hl,xC]
 have e3:rl.length=q.ret.length:=by rw[←hr,xC]
 have r1:=h.i.rd (G:=G) (g:=itD) dQ (fun _=>rfl) (fun _=>rfl) (fun p k d hd=>by
  match k,hd with
  |0,hd=>exact⟨_,rfl,.inl (zq9 hd)⟩
  |1,hd=>exact⟨_,rfl,.inr ⟨rfl,(zq9 hd).symm⟩⟩
  |2,hd=>exact⟨_,rfl,.inl (zq9 hd)⟩
  |3,hd=>exact⟨_,rfl,.inl (zq9 hd)⟩
  |4,hd=>exact⟨_,rfl,.inl (zq9 hd)⟩
  |k+5,hd=>simp[itD]at hd) hG
 have r3:=h.r.rd (G:=G) (g:=reD) dQ (fun _=>rfl) (fun _=>rfl) (fun p k d hd=>by
  match k,hd with
  |0,hd=>exact⟨_,rfl,.inr ⟨rfl,(zq9 hd).symm⟩⟩
  |k+1,hd=>simp[reD]at hd) hG
 have r2:=h.wr.rd (G:=G) (fun b hb _=>hb.elim) hG;obtain⟨A1,c1,rfl⟩:=h.i.kr.form;obtain⟨A2,c2,rfl⟩:=h.wr.form;obtain⟨A3,c3,rfl⟩:=h.r.kr.form;rw[hl,e1]at r1;rw[hr,e3]at r3;exact⟨⟨A1,c1,A2,c2,A3,c3⟩,by rw[e1,e3];rfl,⟨r1,r2,r3,hlt⟩⟩
theorem QR.mono {W:World}{q:Qy}{s:Sl3}{F G:Nat→Prop}(h:QR W F q s)(hk:∀b,F b→b<W.heap.size→G b)(hG:∀b,G b→b<W.heap.size):QR W G q s:=⟨h.r1.mono hk,h.r2.mono hk,h.r3.mono hk,hG⟩
section
variable {q:Qy}{w w' W W2:World}{e:Ending}{Bg Eg g t:Nat}{cs:List Value}{s:Sl3}
theorem qu_cells {v1 v2 v3:Value}(h:Blk W g 31 (quV q v1 v2 v3 q.by_)):W.cell? ⟨g,0,none⟩=some v1∧W.cell? ⟨g,1,none⟩=some (.int .i64 q.mode)∧W.cell? ⟨g,2,none⟩=some (.int .i64 q.after)∧
  W.cell? ⟨g,3,none⟩=some v2∧W.cell? ⟨g,4,none⟩=some (.int .i64 q.within)∧W.cell? ⟨g,5,none⟩=some (.string q.by_)∧W.cell? ⟨g,6,none⟩=some v3:=
 ⟨h.cell 0,h.cell 1,h.cell 2,h.cell 3,h.cell 4,h.cell 5,h.cell 6⟩
theorem OQ.part {v1 v2 v3:Value}{l:List (It×Value)}{rl:List (List Nd×Value)}{lo:Nat}{P:Nat→Prop}(h:OQ W lo v1 v2 v3 l q.wh rl)(hl:l.map (·.1)=q.items)(hr:rl.map (·.1)=q.ret)(hW:Bw W W2)(hP:∀b,lo≤b→b<W.heap.size→P b)(hP2:∀b,P b→b<W2.heap.size):
  ∃s,quV q v1 v2 v3 q.by_=qV q s∧QR W2 P q s:=by
 obtain⟨s,e,R⟩:=h.qr (G:=fun b=>lo≤b∧b<W.heap.size) hl hr (fun b h1 h2=>⟨h1,h2⟩) (fun b h=>h.2);exact⟨s,e,(R.under hW).mono (fun b hb _=>hP b hb.1 hb.2) hP2⟩
end
theorem st_next {l:List ByteArray}{k:Nat}{a:ByteArray}(h:l[k]? =some a):(l.take (k+1)).flatMap strD=(l.take k).flatMap strD++strD a:=by
 rw[zJ,h];simp
namespace evW
open nmW
theorem twinTexts_k (A:Option Addr)(c:Nat)(F:Nat→Prop)(l:List ByteArray)(hl:l.length≤1048576)(w:World)(hF:∀b,F b→b<w.heap.size)(r:Rd w F (.slice A l.length c) (.sl l.length (l.flatMap strD))):
  Calls Tryz.prog 21 #[.slice A l.length c] w fun e w'=>∃v,e=.returned v∧OL w' w.heap.size (fun _=>False) 9 1 v l.length (l.flatMap strD)∧Bw w w':=by
 replace r:=Hd r;replace hF:=Hd hF;go_enter Tryz.func21,Tryz.ntmps21;go_wp2;go_loopw [3,4] (fun v x wr=>∃(j:Nat)(s3:Value),s3=v∧j≤l.length∧x=.int .i64 j∧OL wr w.heap.size (fun _=>False) 9 1 s3 j ((l.take j).flatMap strD)∧Bw w wr) (fun _ x _=>l.length- (intOf x).toNat)
 case atStart=>exact⟨0,_,rfl,zE _,rfl,.nil _ _ _ _ _,bR⟩
 case round=>
  obtain⟨j,s3,rfl,hj,rfl,hO,hB⟩:=hrel;by_cases hlt:j<l.length
  ·obtain⟨a,ha⟩:=getx hlt;obtain⟨b,off,rfl,hFb,ha2⟩:=(r.out.under hB hF.out).at_ ha;have q0:wr.cell? ⟨b,off+j,none⟩=some (.string a):=ha2;have g0:(0:Int)≤(j:Int):=oQ;have g1:(j:Int)<l.length:=oQ;have hfk:=Hd (st_next ha);have hsz:=hB.size;replace hB:=Hd hB;clear ha ha2;go_wp2_with (at_builtin;refine wpa rfl (.tmp 11) (.tmp 16) _ rfl (m:=1) (news:=strD a) elStr (hO.alloc (.cells ⟨[.string a]⟩ 9)) rfl rfl (Src.lit (show RdL wr _ [.string a] (strD a)from⟨.v _ rfl,trivial⟩)) rfl oQ oQ (by simp;omega) ?_;intro v' w1 hO1 hg1 ha1);go_roundw
   case rel=>exact⟨j+1,_,rfl,oQ,gQ,by rw[hfk.out];exact hO1,(hB.out.alloc hB.out.size (.cells ⟨[.string a]⟩ 9)).grown hg1 (by simp;omega) (fun q hq=>(hO.lt q hq).1)⟩
   case measure=>exact mQ
  ·obtain rfl:j=l.length:=oQ;rw[zL]at hO;replace hO:=Hd hO;replace hB:=Hd hB;go_wp2;go_ret;exact⟨_,rfl,hO.out,hB.out⟩
end evW
end Go.Proofs.YthaabihjeomipaaGreatDoor
namespace Go.Proofs.YthaabihjeomipaaGreatDoor
open Go.RowKit Go.Deep
set_option linter.unusedVariables false
set_option linter.unusedSimpArgs false
structure TS (w wr:World)(v u:Value)(k:Nat)(ds:List D):Prop where
 hb:Bw w wr
 b0:Blk wr w.heap.size 24 [v]
 b1:Blk wr (w.heap.size+1) 24 [.slice none 0 0]
 b2:Blk wr (w.heap.size+1+1) 24 [u]
 ol:OL wr (w.heap.size+1+1+1) (fun b=>w.heap.size+1+1+1≤b) 50 2 u k ds
theorem TS.stay {w wr w2:World}{v u:Value}{k:Nat}{ds:List D}(h:TS w wr v u k ds)(hb:Bw wr w2):TS w w2 v u k ds:=
 ⟨h.hb.trans (hb.mono h.hb.size),h.b0.stay hb,h.b1.stay hb,h.b2.stay hb,h.ol.stay hb⟩
theorem TS.put {w wr w1:World}{v u v':Value}{k m:Nat}{ds ds':List D}(h:TS w wr v u k ds)(hg:wr.grownBy w1 u.ownBlock)(hO:OL w1 (w.heap.size+1+1+1) (fun b=>w.heap.size+1+1+1≤b) 50 2 v' m ds'):
  (w1.cell? ⟨w.heap.size+1+1,0,none⟩=some u∧w1.frozen? ⟨w.heap.size+1+1,0,none⟩=false∧w1.cell? ⟨w.heap.size,0,none⟩=some v)∧TS w (w1.setCell ⟨w.heap.size+1+1,0,none⟩ v') v v' m ds':=by
 have hne:∀q,q<w.heap.size+1+1+1→some q≠u.ownBlock:=fun q hq he=>by have:=(h.ol.lt q he.symm).1;omega
 have hrow:∀q,u.ownBlock=some q→w.heap.size≤q:=fun q hq=>by have:=(h.ol.lt q hq).1;omega
 have t0:=h.b2.grown hg (hne _ oQ);have t1:=h.b0.grown hg (hne _ oQ);refine⟨⟨t0.cell 0,t0.frozen 0,t1.cell 0⟩,?_⟩;refine⟨(h.hb.grown hg h.hb.size hrow).setCell (by simp;omega) _,t1.far (by simp;omega) _,(h.b1.grown hg (hne _ oQ)).far sJ _,t0.set_ 0 _,hO.setCell (fun h=>?_) sJ _⟩;exact absurd (hO.lt _ h).1 (by show¬(_≤w.heap.size+1+1);omega)
namespace evW
open nmW
theorem twinSchema_k (A:Option Addr)(c:Nat)(F:Nat→Prop)(l:List Td)(hl:SzT l)(w:World)(hF:∀b,F b→b<w.heap.size)(r:Rd w F (.slice A l.length c) (.sl l.length (l.flatMap tdD))):
  Calls Tryz.prog 8 #[.agg #[.slice A l.length c]] w fun e w'=>∃v,e=.returned (.agg #[v])∧OL w' w.heap.size (fun b=>w.heap.size≤b) 50 2 v l.length (l.flatMap tdD)∧Bw w w':=by
 obtain⟨hl1,hl2⟩:=hl;replace hl2:=Hd hl2;replace hF:=Hd hF;replace r:=Hd r;go_enter Tryz.func8,Tryz.ntmps8;go_wp2;go_loopw [4] (fun x wr=>∃(j:Nat)(u:Value),j≤l.length∧x=.int .i64 j∧TS w wr (.slice A l.length c) u j ((l.take j).flatMap tdD)) (fun x _=>l.length- (intOf x).toNat)
 case atStart=>
  refine⟨0,.slice none 0 0,zE _,rfl,?_,?_,?_,?_,.nil _ _ _ _ _⟩
  ·exact((bA).alloc sJ _).alloc (by simp;omega) _
  ·exact((Blk.new _ _ _).alloc _).alloc _
  ·exact(Blk.new' sJ).alloc _
  ·exact Blk.new' sJ
 case round=>
  obtain⟨j,u,hj,rfl,hT⟩:=hrel;have z0:wr.cell? ⟨w.heap.size,0,none⟩=some (.slice A l.length c):=hT.b0.cell 0;have o0:wr.cell? ⟨w.heap.size+1+1,0,none⟩=some u:=hT.b2.cell 0;by_cases hlt:j<l.length
  ·obtain⟨t,ht⟩:=getx hlt;obtain⟨hs1,hs2,hs3⟩:=hl2.out t (zA ht);obtain⟨b,off,rfl,hFb,hv,hsl⟩:=r.out.rowv (m:=2) (fun _=>rfl) ht oQ;have hfB:=hF.out b hFb;obtain⟨A2,c2,a1,r2⟩:=hsl 1 _ _ rfl;have kS:∀W,Bw w W→W.cell? ⟨b,off+j*2,none⟩=some (.string t.name)∧W.cell? ⟨b,off+j*2+1,none⟩=some (.slice A2 t.attrs.length c2):=fun W hW=>⟨(hW.cell (p:=⟨b,off+j*2,none⟩) hfB).trans (hv 0 _ rfl),(hW.cell (p:=⟨b,off+j*2+1,none⟩) hfB).trans a1⟩
   have g0:(0:Int)≤(j:Int):=oQ;have g1:(j:Int)<l.length:=oQ;have hfm:(l.take (j+1)).flatMap tdD=(l.take j).flatMap tdD++tdD t:=by rw[zJ,ht];simp
   have kt:=Hd (twinTexts_k A2 c2 F t.attrs hs2 wr.drew (fun b hb=>zF (hF.out b hb) hT.hb.size) ((r2.under hT.hb hF.out).drew));have hSS:(wr.drew.cell? ⟨w.heap.size,0,none⟩=some (.slice (some ⟨b,off,none⟩) l.length c)∧wr.drew.cell? ⟨b,off+j*2,none⟩=some (.string t.name)∧wr.drew.cell? ⟨b,off+j*2+1,none⟩=some (.slice A2 t.attrs.length c2))∧wr.drew.cell? ⟨w.heap.size+1+1,0,none⟩=some u:=⟨⟨z0,kS wr hT.hb⟩,o0⟩;have hsz:=hT.b2.lt;have hsB:b<w.heap.size:=hfB;replace kS:=Hd kS;replace hfm:=Hd hfm;have hT':=Hd hT;clear hv hsl hT ht r2 a1;go_upto_region 5 with fail
   clear z0 o0;refine G_region (p:=17) (S0:=fun W=>W.cell? ⟨w.heap.size,0,none⟩=some (.slice (some ⟨b,off,none⟩) l.length c)∧W.cell? ⟨b,off+j*2,none⟩=some (.string t.name)∧W.cell? ⟨b,off+j*2+1,none⟩=some (.slice A2 t.attrs.length c2)) (S1:=fun W=>W.cell? ⟨w.heap.size+1+1,0,none⟩=some u) kQ ?_;refine' TkB 0 rfl hSS ?_;try simp only[Act.put,TkS]
   refine' G_take1 (i:=1) (v:=_) rfl dQ kQ kQ kQ rfl kQ kQ (fun _ _ _ h=>h) hSS (.inl ⟨by rfl,?hy1⟩) ?rest1
   case hy1=>(intro W hW;(try dsimp only at hW);go_simp<;>with_reducible rfl)
   refine' TkB 2 rfl hSS ?_;refine' TkB 3 rfl hSS ?_;refine' TkB 4 rfl hSS ?_;refine' TkB 5 rfl hSS ?_;refine' TkB 6 rfl hSS ?_;refine' TkB 7 rfl hSS ?_;refine' TkB 8 rfl hSS ?_;refine' TkB 9 rfl hSS ?_;refine' TkB 10 rfl hSS ?_;refine' TkB 11 rfl hSS ?_;refine' TkB 12 rfl hSS ?_;refine' TkB 13 rfl hSS ?_;try simp only[Act.put,TkS]
   refine Gs 14 rfl fun K hK=>?_
   go_simp;go_at_call 21;refine kt.out.mono ?_;rintro e W ⟨v1,rfl,hO1,hW⟩;obtain⟨B1,d1,rfl⟩:=hO1.form;have hTW:=hT'.out.stay (show Bw wr W from(bR).drew.trans hW);have hS2:(W.cell? ⟨w.heap.size,0,none⟩=some (.slice (some ⟨b,off,none⟩) l.length c)∧W.cell? ⟨b,off+j*2,none⟩=some (.string t.name)∧W.cell? ⟨b,off+j*2+1,none⟩=some (.slice A2 t.attrs.length c2))∧W.cell? ⟨w.heap.size+1+1,0,none⟩=some u:=⟨⟨hTW.b0.cell 0,kS.out W hTW.hb⟩,hTW.b2.cell 0⟩;refine hK.out _ _ ⟨hS2.1,fun _=>hS2.2⟩ ?_;have hL:=Hd (show RdL W (fun b=>w.heap.size+1+1+1≤b∧some b≠u.ownBlock) [.string t.name,.slice B1 t.attrs.length d1] (tdD t) from ⟨.v _ rfl,hO1.rd' (fun _ h _=>h.elim) (fun b he hB hlt=>⟨by have:=hT'.out.b2.lt;simp at hB;omega,fun hu=>by have:=(hT'.out.ol.lt b hu.symm).2;simp at hB;omega⟩),trivial⟩);have hszW:=hTW.b2.lt;have hTa:=Hd (hTW.stay (bX (.cells ⟨[.string t.name,.slice B1 t.attrs.length d1]⟩ 50)));replace hTW:=Hd hTW;clear hK K hSS hO1 hW kt;refine' TkB 15 rfl hS2 ?_;try simp only[Act.put,TkS]
   refine Gs 16 rfl fun K hK=>?_
   go_simp;refine hK.out _ _ ⟨⟨hTa.out.b0.cell 0,kS.out _ hTa.out.hb⟩,fun _=>hTa.out.b2.cell 0⟩ ?_;refine Gs 17 rfl fun K hK=>?_
   refine step_app (by rfl) (.tmp 13) (.tmp 28) _ (by rfl) (m:=1) (news:=tdD t) elTd (by exact hTa.out.ol) (by rfl) (by rfl) (by exact Src.lit hL.out) rfl oQ oQ (by simp;omega) ?_;intro v' w1 hO1 hg1 ha1;obtain⟨B3,d3,rfl⟩:=hO1.form;obtain⟨⟨t0,t1,t2⟩,t3⟩:=hTa.out.put hg1 hO1;have hb1:Bw w w1:=hTa.out.hb.grown hg1 hTa.out.hb.size (fun q hq=>by have:=(hTa.out.ol.lt q hq).1;omega);have hS3:(w1.cell? ⟨w.heap.size,0,none⟩=some (.slice (some ⟨b,off,none⟩) l.length c)∧w1.cell? ⟨b,off+j*2,none⟩=some (.string t.name)∧w1.cell? ⟨b,off+j*2+1,none⟩=some (.slice A2 t.attrs.length c2))∧w1.cell? ⟨w.heap.size+1+1,0,none⟩=some u:=⟨⟨t2,kS.out w1 hb1⟩,t0⟩;refine hK.out _ _ ⟨hS3.1,fun _=>hS3.2⟩ ?_;rw[←hfm.out]at t3;replace t3:=Hd t3;clear hK K hS2 hO1 hg1 ha1;refine' TkB 18 rfl hS3 ?_;try simp only[Act.put,TkS]
   refine Gs 19 rfl fun K hK=>?_
   go_simp;refine hK.out _ _ ⟨⟨t3.out.b0.cell 0,kS.out _ t3.out.hb⟩,fun h=>absurd (h.symm.trans (by kernel_rfl:_=true)) sJ⟩ ?_;refine Gd _ ?_;try simp only[Act.put,TkS]
   clear hK K hS3 t0 t1 t2;go_wp2;go_roundw
   case rel=>exact⟨j+1,_,oQ,gQ,t3.out⟩
   case measure=>exact mQ
  ·obtain rfl:j=l.length:=oQ;rw[zL]at hT;obtain⟨h1,h2,h3,h4,h5⟩:=hT;have hsz:=h4.lt;obtain⟨U,cu,rfl⟩:=h5.form;have p0:wr.cell? ⟨w.heap.size+1,0,none⟩=some (.slice none 0 0):=h3.cell 0;have f0:wr.frozen? ⟨w.heap.size+1,0,none⟩=false:=h3.frozen 0;have e1:Blk (wr.setCell ⟨w.heap.size+1,0,none⟩ (.slice U l.length cu)) (w.heap.size+1) 24 [.slice U l.length cu]:=h3.set_ 0 _;have e2:OL (wr.setCell ⟨w.heap.size+1,0,none⟩ (.slice U l.length cu)) w.heap.size (fun b=>w.heap.size≤b) 50 2 (.slice U l.length cu) l.length (l.flatMap tdD):=
    ((h5.setCell (p:=⟨w.heap.size+1,0,none⟩) (fun h=>absurd (h5.lt _ h).1 (by show¬(_≤w.heap.size+1);omega)) (by show¬(_≤w.heap.size+1);omega) _).base oQ).mono fun b h=>by omega
   have e3:=Hd (h1.setCell (p:=⟨w.heap.size+1,0,none⟩) sJ (.slice U l.length cu));replace e1:=Hd e1;replace e2:=Hd e2;clear h1 h2 h3 h4 h5;go_wp2;exact bpa rfl e1.out aggSc rfl rfl ⟨_,rfl,e2.out,e3.out⟩
end evW
end Go.Proofs.YthaabihjeomipaaGreatDoor
namespace Go.Proofs.YthaabihjeomipaaGreatDoor
open Go.RowKit Go.Deep
set_option linter.unusedVariables false
def SB2 (w wr:World)(v u:Value):Prop:=Bw w wr∧Blk wr w.heap.size 24 [v]∧Blk wr (w.heap.size+1) 24 [u]
theorem SB2.stay {w wr w2:World}{v u:Value}(h:SB2 w wr v u)(hb:Bw wr w2):SB2 w w2 v u:=⟨h.1.trans (hb.mono h.1.size),h.2.1.stay hb,h.2.2.stay hb⟩
theorem SB2.drewN {w wr:World}{v u:Value}(h:SB2 w wr v u)(k:Nat):SB2 w (wr.drewN k) v u:=h.stay (below_drewN bR k)
namespace evW
open nmW
theorem sameTexts_q (A B:Option Addr)(c d:Nat)(F G:Nat→Prop)(l:List ByteArray)(hl:l.length≤1048576)(w:World)(r:Rd w F (.slice A l.length c) (.sl l.length (l.flatMap strD)))(s:Rd w G (.slice B l.length d) (.sl l.length (l.flatMap strD))):
  Calls Tryz.prog 17 #[.slice A l.length c,.slice B l.length d] w fun e w'=>e=.returned (.bool true)∧∃q,w'=w.drewN q:=by
 go_enter Tryz.func17,Tryz.ntmps17;go_wp2;go_loopw [5] (fun x wr=>∃k q:Nat,k≤l.length∧x=.int .i64 k∧wr=w.drewN q) (fun x _=>l.length- (intOf x).toNat)
 case atStart=>exact⟨0,0,zE _,rfl,by first|rfl |simp[World.drewN]⟩
 case round=>
  obtain⟨k,q,hk,rfl,rfl⟩:=hrel;by_cases hlt:k<l.length
  ·obtain⟨x,hx⟩:=getx hlt;obtain⟨b,off,rfl,hFb,a0⟩:=r.at_ hx;obtain⟨b',off',rfl,hGb,b0⟩:=s.at_ hx;have g0:(0:Int)≤(k:Int):=oQ;have g1:(k:Int)<l.length:=oQ;clear hx;go_wp2;go_quiet (fail);go_wp2;go_roundw
   case rel=>exact⟨k+1,_,oQ,gQ,by first|rfl |simp⟩
   case measure=>exact mQ
  ·obtain rfl:k=l.length:=oQ;go_wp2;go_ret;exact⟨rfl,_,rfl⟩
theorem sameSchema_k (A B:Option Addr)(c d:Nat)(F G:Nat→Prop)(l:List Td)(hl:l.length≤1048576)(hl2:∀t∈l,t.attrs.length≤1048576)(w:World)(hF:∀b,F b→b<w.heap.size)(hG:∀b,G b→b<w.heap.size)(r:Rd w F (.slice A l.length c) (.sl l.length (l.flatMap tdD)))(s:Rd w G (.slice B l.length d) (.sl l.length (l.flatMap tdD))):
  Calls Tryz.prog 12 #[.agg #[.slice A l.length c],.agg #[.slice B l.length d]] w fun e w'=>e=.returned (.bool true)∧Bw w w':=by
 have k1:=Hd sameTexts_q;replace hl2:=Hd hl2;replace hF:=Hd hF;replace hG:=Hd hG;replace r:=Hd r;replace s:=Hd s;go_enter Tryz.func12,Tryz.ntmps12;go_wp2;go_loopw [5] (fun x wr=>∃k:Nat,k≤l.length∧x=.int .i64 k∧SB2 w wr (.slice A l.length c) (.slice B l.length d)) (fun x _=>l.length- (intOf x).toNat)
 case atStart=>exact⟨0,zE _,rfl,(bA).alloc sJ _,(Blk.new _ _ _).alloc _,Blk.new' sJ⟩
 case round=>
  obtain⟨k,hk,rfl,hS⟩:=hrel;have z0:wr.cell? ⟨w.heap.size,0,none⟩=some (.slice A l.length c):=hS.2.1.cell 0;have z1:wr.cell? ⟨w.heap.size+1,0,none⟩=some (.slice B l.length d):=hS.2.2.cell 0;by_cases hlt:k<l.length
  ·obtain⟨t,ht⟩:=getx hlt;have hs2:=hl2.out t (zA ht);obtain⟨b,off,rfl,hFb,hv,hsl⟩:=(r.out.under hS.1 hF.out).rowv (m:=2) (fun _=>rfl) ht oQ;obtain⟨A2,c2,a1,r2⟩:=hsl 1 _ _ rfl;have a0:wr.cell? ⟨b,off+k*2,none⟩=some (.string t.name):=hv 0 _ rfl;obtain⟨b',off',rfl,hGb,hv',hsl'⟩:=(s.out.under hS.1 hG.out).rowv (m:=2) (fun _=>rfl) ht oQ;obtain⟨B2,d2,b1,s2⟩:=hsl' 1 _ _ rfl;have b0:wr.cell? ⟨b',off'+k*2,none⟩=some (.string t.name):=hv' 0 _ rfl;have g0:(0:Int)≤(k:Int):=oQ;have g1:(k:Int)<l.length:=oQ;replace r2:=Hd r2;replace s2:=Hd s2;have hS':=Hd hS;clear hv hsl hv' hsl' hS ht;have e0:=(zX wr _ a0);have e1:=(zX wr _ b0);go_wp2;go_quiet ((go_at_call 17;exact Calls.quiet_of (k1.out _ _ _ _ _ _ _ hs2 _ (r2.out.drewN _) (s2.out.drewN _))));go_wp2;go_roundw
   case rel=>exact⟨k+1,oQ,gQ,hS'.out.drewN _⟩
   case measure=>exact mQ
  ·obtain rfl:k=l.length:=oQ;go_wp2;go_ret;exact⟨rfl,hS.1⟩
end evW
end Go.Proofs.YthaabihjeomipaaGreatDoor
