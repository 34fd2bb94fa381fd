/- The program's Explain and Same. -/
import Derived.Test.YthaabihjeomipaaGreatDoorQMf
namespace Go.Proofs.YthaabihjeomipaaGreatDoor
set_option maxRecDepth 100000
set_option maxHeartbeats 16000000
open Go.RowKit Go.Deep
set_option linter.unusedVariables false
set_option linter.unusedSimpArgs false
theorem lin_sum {l:List Td}{q:Qy}(hok:LnOk l q)(hs:SzQ q)(hmw:SzM q.wh)(hmr:∀t∈q.ret,SzM t):szS (linL q)≤140737488355328:=by
 have hz:=lin_size hok hs hmw hmr;have hr:=row_size hok hs hmw;have hil:=hok.il;have hrl:=hok.rl;have hR:(rowsQ q).length≤1048576:=by unfold rowsQ;rw[xC];exact zU (roots_len hok) hs.wh.1
 have hly:∀k o h,h.size≤7→szS (layL (rowsQ q) k o h)≤26008*1048576:=fun k o h hh=>by
  have h1:=szS_le (l:=layL (rowsQ q) k o h) (b:=26007) (fun x hx=>by have:=lay_size hr hx;omega);have h2:=lay_len (rowsQ q) k o h;exact zU h1 (Nat.mul_le_mul nR (zU h2 hR))
 have one:∀x:ByteArray,x.size≤33554432→szS [x]≤33554433:=fun x hx=>by
  show x.size+1+0≤_
  omega
 have h2:∀j,j≤q.items.length→szS (L2 q j)≤33554433+j*(33554433+2*(26008*1048576)):=by
  intro j;induction j with
  |zero=>
   intro _;have e:L2 q 0=[headL q]:=by unfold L2;rw[List.take_zero];rfl
   rw[e];exact zU (one _ (hz _ (xS ..))) oQ
  |succ j ih=>
   intro hj;obtain⟨x,hx⟩:=getx (l:=q.items) (i:=j) oQ;have hi:=one (itemL q j x) (hz _ (xU _ (List.mem_append_left _ (mapI_mem (n:=0) hx (by rw[Nat.zero_add];exact xS ..)))));have h3:=hly (j:Int) true ownB dQ;have h4:=hly (j:Int) false asksB dQ;have h5:=ih oQ;rw[L2_next hx,szS_app,szS_app,szS_app,Nat.succ_mul];omega
 have h6:=h2 q.items.length nR;have h7:=hly (-1) false alwB dQ;have h8:szS (q.ret.map fun t=>resB++exT (pln q t))≤33554433*8:=by
  have h1:=szS_le (l:=q.ret.map fun t=>resB++exT (pln q t)) (b:=33554432) (fun x hx=>hz x (xU _ (xN _ (xN _ hx))));refine zU h1 (Nat.mul_le_mul nR ?_);rw[xC];exact hrl
 have h9:q.items.length*(33554433+2*(26008*1048576))≤10*(33554433+2*(26008*1048576)):=Nat.mul_le_mul hil nR;rw[←L3_all];unfold L3;rw[zL,szS_app,szS_app];omega
theorem lin_ne (q:Qy):linL q≠ []:=fun h=>by unfold linL at h;cases h
def SmB (l:List Td)(q r:Qy):Prop:=linC l q=0∧linC l r=0∧txC l q=txC l r
namespace shW
open nmW ckW shR
theorem explain_k (A:Option Addr)(c:Nat)(F:Nat→Prop)(l:List Td)(q:Qy)(s:Sl3)(hl:SzT l)(hs:SzQ q)(hmw:SzM q.wh)(hmr:∀t∈q.ret,SzM t)(w:World)(hT:XT w)(hM:MT w)(R:QR w F q s)(r:Rd w F (.slice A l.length c) (.sl l.length (l.flatMap tdD))):
  Calls Tryz.prog 11 #[.agg ⟨[.slice A l.length c]⟩,.agg ⟨qV q s⟩] w (TxP l q w):=by
 have h0:=SQ.new l A c q s w;obtain⟨W0,hW0⟩:∃W0,W0=((w.alloc (.cells ⟨[.slice A l.length c]⟩ 24)).alloc (.cells ⟨qV q s⟩ 31)):=⟨_,rfl⟩
 rw[←hW0]at h0;have hb0:=h0.hb;obtain⟨y0,y1,y2,y3,y4,y5,y6⟩:=qbc h0.b1;have x0:=h0.b0.cell 0;have kl:=lines_k A c F l q s hl hs hmw hmr W0 (hT.stay hb0) (hM.stay hb0) (R.under hb0) (r.under hb0 R.lt);have kj:linC l q=0→∀v W,OL W W0.heap.size NoF 9 1 v (linL q).length ((linL q).flatMap strD)→Calls Tryz.prog 23 #[v,.string nlB] W (StP (jnW nlB (linL q)) W):=fun h v W hO=>by
  have hok:=ln_ok (lin_chk0 h);refine join_s W0.heap.size v (linL q) nlB W rfl hO ?_ (lin_sum hok hs hmw hmr);rw[←L3_all];exact zU (L3_len _ hok.il hok.rl (by unfold rowsQ;rw[xC];exact zU (roots_len hok) hs.wh.1)) oQ
 have hjz:linC l q=0→(jnW nlB (linL q)).size≤140737488355328:=fun h=>zU (jnW_sz rfl _) (lin_sum (ln_ok (lin_chk0 h)) hs hmw hmr)
 have htj:=txt_jn (linL q) (lin_ne q);unfold LnP at kl;obtain⟨ec,hec⟩:∃ec,ec=linC l q:=⟨_,rfl⟩
 obtain⟨tx,htx⟩:∃tx,tx=txC l q:=⟨_,rfl⟩
 have htx0:ec=0→tx=jnW nlB (linL q)++⟨#[10]⟩:=fun h=>by rw[htx];unfold txC;rw[if_pos (hec▸h)];exact htj.symm
 have htx1:ec≠0→tx=emp:=fun h=>by rw[htx];unfold txC;rw[if_neg (hec▸h)]
 unfold TxP;rw[←hec]at kl kj hjz ⊢;rw[←htx];generalize linL q=L at kl kj hjz htx0;generalize jnW nlB L=J at kj hjz htx0;unfold nlB at kj;obtain⟨A1,c1,A2,c2,A3,c3⟩:=s;simp only[qV,zY]at hW0 y0 y1 y2 y3 y4 y5 y6 x0 kl ⊢;replace kl:=Hd kl;replace kj:=Hd kj;replace hjz:=Hd hjz;have hWW:=Hd hW0;replace hb0:=Hd hb0;replace htx0:=Hd htx0;replace htx1:=Hd htx1;clear hW0 h0 hec htx hT hM R r hl hs hmw hmr htj;go_enter Tryz.func11,Tryz.ntmps11;go_upto_region 1 with fail
 rw[←hWW.out];go_upto_region 2 with(go_at_call 16;refine kl.out.mono ?_;rintro e W1 ⟨vl,rfl,h1,h2,hX1⟩)
 have hB1:=hb0.out.trans (hX1.mono hb0.out.size);clear hX1 kl hWW hb0 x0 y0 y1 y2 y3 y4 y5 y6;by_cases hs0:ec=0
 case neg=>
  have f2:=bneT hs0;have hd:=htx1.out hs0;subst hd;replace hs0:=Hd hs0;replace h1:=Hd h1;replace h2:=Hd h2;go_wp2;refine bodyPost_ret (results_tmp2 rfl _ _ _) rfl ?_;exact⟨rfl,hB1⟩
 have hO:=h1 hs0;have htxt:=htx0.out hs0;have hz:=hjz.out hs0;have kj1:=Hd (kj.out hs0 vl W1 hO);subst hs0;have hss:J.size+(⟨#[10]⟩:ByteArray).size≤9223372036854775807:=by show J.size+1≤_;omega
 replace hB1:=Hd hB1;replace htxt:=Hd htxt;clear hO h1 h2 htx0 htx1 hjz kj;go_wp2_with (go_at_call 23;refine kj1.out.mono ?_;rintro e W2 ⟨rfl,hX2⟩);refine bodyPost_ret (results_tmp2 rfl _ _ _) rfl ?_;exact⟨by rw[htxt.out];rfl,hB1.out.and1 nR hX2⟩
theorem same_k (A:Option Addr)(c:Nat)(F:Nat→Prop)(l:List Td)(q p:Qy)(s u:Sl3)(hl:SzT l)(hs:SzQ q)(hmw:SzM q.wh)(hmr:∀t∈q.ret,SzM t)(hp:SzQ p)(hpw:SzM p.wh)(hpr:∀t∈p.ret,SzM t)(w:World)(hT:XT w)(hM:MT w)(R:QR w F q s)(P:QR w F p u)(r:Rd w F (.slice A l.length c) (.sl l.length (l.flatMap tdD))):
  ∀b:Bool,(b=true↔SmB l q p)→Calls Tryz.prog 14 #[.agg ⟨[.slice A l.length c]⟩,.agg ⟨qV q s⟩,.agg ⟨qV p u⟩] w fun e w'=>e=.returned (.bool b)∧Bw w w':=by
 intro b hb;obtain⟨W0,hW0⟩:∃W0,W0=(((w.alloc (.cells ⟨[.slice A l.length c]⟩ 24)).alloc (.cells ⟨qV q s⟩ 31)).alloc (.cells ⟨qV p u⟩ 31)):=⟨_,rfl⟩
 have b0:Blk W0 w.heap.size 24 [.slice A l.length c]:=by rw[hW0];exact((Blk.new _ _ _).alloc _).alloc _
 have b1:Blk W0 (w.heap.size+1) 31 (qV q s):=by rw[hW0];exact(Blk.new' sJ).alloc _
 have b2:Blk W0 (w.heap.size+1+1) 31 (qV p u):=by rw[hW0];exact Blk.new' sJ
 have hb0:Bw w W0:=by rw[hW0];exact((bA).alloc sJ _).alloc (by simp;omega) _
 obtain⟨y0,y1,y2,y3,y4,y5,y6⟩:=qbc b1;have x0:=b0.cell 0;have k1:=explain_k A c F l q s hl hs hmw hmr W0 (hT.stay hb0) (hM.stay hb0) (R.under hb0) (r.under hb0 R.lt);have k2:=fun W (h:Bw w W)=>explain_k A c F l p u hl hp hpw hpr W (hT.stay h) (hM.stay h) (P.under h) (r.under h P.lt)
 have cc:=fun W (h:Bw W0 W)=>xW ((b0.stay h).cell 0) (qbc (b2.stay h))
 unfold SmB at hb;obtain⟨A1,c1,A2,c2,A3,c3⟩:=s;obtain⟨D1,d1,D2,d2,D3,d3⟩:=u;simp only[qV,zY]at hW0 y0 y1 y2 y3 y4 y5 y6 x0 k1 k2 cc ⊢;unfold TxP at k1 k2;generalize linC l q=ec at k1 hb;generalize linC l p=ed at k2 hb;generalize txC l q=ta at k1 hb;generalize txC l p=tb at k2 hb;replace k1:=Hd k1;replace k2:=Hd k2;replace cc:=Hd cc;replace hb:=Hd hb;have hWW:=Hd hW0;replace hb0:=Hd hb0;clear hW0 b0 b1 b2 hT hM R P r hl hs hmw hmr hp hpw hpr;go_enter Tryz.func14,Tryz.ntmps14;go_upto_region 1 with fail
 rw[←hWW.out];go_upto_region 2 with(go_at_call 11;refine k1.out.mono ?_;rintro e W1 ⟨rfl,hX1⟩)
 have hB1:=hb0.out.trans (hX1.mono hb0.out.size);have k3:=Hd (k2.out W1 hB1);clear y0 y1 y2 y3 y4 y5 y6 x0 k1 k2;obtain⟨x0,y0,y1,y2,y3,y4,y5,y6⟩:=cc.out W1 hX1;replace hB1:=Hd hB1;clear hX1 cc hWW hb0;go_upto_region 3 with(go_at_call 11;refine k3.out.mono ?_;rintro e W2 ⟨rfl,hX2⟩)
 have hB2:=Hd (hB1.out.and1 nR hX2);clear k3 hX2 hB1 x0 y0 y1 y2 y3 y4 y5 y6;by_cases h1:ec=0
 ·have f1:=beqT h1;by_cases h2:ed=0
  ·have f2:=beqT h2;by_cases h3:ta=tb
   ·have f3:(ta.toList==tb.toList)=true:=(by rw[bqb,zW h3]);have hfin:=Hd (show b=true from hb.out.2 ⟨h1,h2,h3⟩);replace h1:=Hd h1;replace h2:=Hd h2;replace h3:=Hd h3;go_wp2;go_ret;exact⟨by rw[hfin.out];rfl,hB2.out⟩
   ·have f3:(ta.toList==tb.toList)=false:=(by rw[bqb,zV h3]);have hfin:b=false:=by cases hbb:b with |false=>rfl |true=>exact absurd (hb.out.1 hbb).2.2 h3
    replace h1:=Hd h1;replace h2:=Hd h2;replace h3:=Hd h3;replace hfin:=Hd hfin;go_wp2;go_ret;exact⟨by rw[hfin.out];rfl,hB2.out⟩
  ·have f2:=beqF h2;have hfin:b=false:=by cases hbb:b with |false=>rfl |true=>exact absurd (hb.out.1 hbb).2.1 h2
   replace h1:=Hd h1;replace h2:=Hd h2;replace hfin:=Hd hfin;go_wp2;go_ret;exact⟨by rw[hfin.out];rfl,hB2.out⟩
 ·have f1:=beqF h1;have hfin:b=false:=by cases hbb:b with |false=>rfl |true=>exact absurd (hb.out.1 hbb).1 h1
  replace h1:=Hd h1;replace hfin:=Hd hfin;go_wp2;go_ret;exact⟨by rw[hfin.out];rfl,hB2.out⟩
end shW
def nmW (i:Nat):ByteArray:=⟨#[119,95]⟩++itoaB i
theorem nmW_at {i:Nat}(h:i<10):nmW i=⟨#[119,95,UInt8.ofNat (48+i)]⟩:=by
 have e:Lib.itoa (i:Nat)=[UInt8.ofNat (48+i)]:=by
  unfold Lib.itoa;rw[if_neg oQ,Int.toNat_natCast];match i,h with
  |0,_=>rw[Lib.decDigits];rfl
  |1,_=>rw[Lib.decDigits];rfl
  |2,_=>rw[Lib.decDigits];rfl
  |3,_=>rw[Lib.decDigits];rfl
  |4,_=>rw[Lib.decDigits];rfl
  |5,_=>rw[Lib.decDigits];rfl
  |6,_=>rw[Lib.decDigits];rfl
  |7,_=>rw[Lib.decDigits];rfl
  |8,_=>rw[Lib.decDigits];rfl
  |9,_=>rw[Lib.decDigits];rfl
 unfold nmW itoaB;rw[e];rfl
theorem nmW_inj {i j:Nat}(hi:i<10)(hj:j<10)(h:nmW i=nmW j):i=j:=by
 rw[nmW_at hi,nmW_at hj]at h;have h1:=congrArg (fun b:ByteArray=>b.data.toList[2]?) h;simp only[xA,zY,Option.some.injEq]at h1;have h2:=congrArg UInt8.toNat h1;simp at h2;omega
theorem nmW_ne (i:Nat):nmW i≠emp:=fun h=>by
 have:=congrArg ByteArray.size h;unfold nmW at this;rw[ByteArray.size_append]at this;have h2:(⟨#[119,95]⟩:ByteArray).size=2:=rfl;have h3:emp.size=0:=rfl;omega
def rnW (q:Qy)(x:Nd):Nd:=if x.v≠emp∧0≤itemI q x.v then {x with v:=nmW (itemI q x.v).toNat}else x
def rot {α:Type}:List α→List α
 | []=>[]
 |x::r=>r++[x]
theorem mem_rot {α:Type}{l:List α}{x:α}:x∈rot l↔x∈l:=by
 cases l with
 |nil=>exact Iff.rfl
 |cons a r=>unfold rot;rw[zM,xB,List.mem_cons];exact Or.comm
theorem rot_len {α:Type}(l:List α):(rot l).length=l.length:=by
 cases l with
 |nil=>rfl
 |cons a r=>unfold rot;simp
theorem rot_nodup {α:Type}{l:List α}(h:l.Nodup):(rot l).Nodup:=by
 cases l with
 |nil=>exact h
 |cons a r=>
  unfold rot;rw[List.nodup_cons]at h;refine List.nodup_append.2 ⟨h.2,sJ,fun x hx y hy e=>?_⟩;rw[xB]at hy;subst hy e;exact h.1 hx
theorem srt_rot (l:List ByteArray):srt (rot l)=srt l:=SS.uniq (srt_ss _) (srt_ss _) fun x=>by rw[mem_srt,mem_srt,mem_rot]
def otI (q:Qy):List It:=mapI (fun i x=>[{x with v:=nmW i,tys:=rot x.tys}]) 0 q.items
theorem mapI1_get {α β:Type}{f:Nat→α→β}:∀{l:List α}{n i:Nat},(mapI (fun i x=>[f i x]) n l)[i]? =(l[i]?).map (f (n+i))
 | [],n,i=>by simp[mapI]
 |x::r,n,0=>by show([f n x]++mapI _ (n+1) r)[0]? =_;rfl
 |x::r,n,i+1=>by
  show([f n x]++mapI _ (n+1) r)[i+1]? =_
  rw[List.singleton_append,xA,xA,mapI1_get,show n+1+i=n+(i+1) by omega]
theorem otI_get {q:Qy}{i:Nat}:(otI q)[i]? =(q.items[i]?).map fun x=>{x with v:=nmW i,tys:=rot x.tys}:=by
 unfold otI;rw[mapI1_get,Nat.zero_add]
theorem otI_len (q:Qy):(otI q).length=q.items.length:=by
 have h:∀i,i<(otI q).length↔i<q.items.length:=fun i=>by
  have h1:=otI_get (q:=q) (i:=i);constructor
  ·intro h;rw[zI h]at h1;cases h2:q.items[i]? with
   |none=>rw[h2]at h1;cases h1
   |some x=>exact(zC.1 h2).1
  ·intro h;rw[zI h]at h1;exact(zC.1 h1).1
 have h1:=h (otI q).length;have h2:=h q.items.length;omega
structure OtP (q p:Qy):Prop where
 it:p.items=otI q
 il:q.items.length≤10
def WvT (q:Qy)(t:List Nd):Prop:=∀x∈t,fieldsB x=true∧(isVar x.op=true→0≤itemI q x.v∧itemI q x.v<(q.items.length:Int))
theorem itemI_ot {q p:Qy}(h:OtP q p){i:Nat}(hi:i<q.items.length):itemI p (nmW i)=i:=by
 have hil:=h.il;have hv:∀k:Nat,(vrs p)[k]? =(q.items[k]?).map fun _=>nmW k:=fun k=>by
  unfold vrs;rw[zG,h.it,otI_get,Option.map_map];rfl
 refine placeI_at (by rw[hv,zI hi];rfl) fun k a hk hki e=>?_
 rw[hv]at hk;obtain⟨x,hx,rfl⟩:=xG.1 hk;have:=(zC.1 hx).1;have:=nmW_inj oQ oQ e;omega
theorem rn_op (q:Qy)(x:Nd):(rnW q x).op=x.op:=by unfold rnW;split<;>rfl
theorem rn_n (q:Qy)(x:Nd):(rnW q x).n=x.n:=by unfold rnW;split<;>rfl
theorem rn_at (q:Qy)(x:Nd):(rnW q x).at_=x.at_:=by unfold rnW;split<;>rfl
theorem rn_a (q:Qy)(x:Nd):(rnW q x).a=x.a:=by unfold rnW;split<;>rfl
theorem rn_b (q:Qy)(x:Nd):(rnW q x).b=x.b:=by unfold rnW;split<;>rfl
theorem rn_var {q:Qy}{x:Nd}(hf:fieldsB x=true)(hv:isVar x.op=true)(h0:0≤itemI q x.v):rnW q x={x with v:=nmW (itemI q x.v).toNat}:=by
 unfold rnW;rw[if_pos ⟨fun e=>(by rw[(fields_v hf).1 e]at hv;cases hv),h0⟩]
theorem rn_no {q:Qy}{x:Nd}(hf:fieldsB x=true)(hv:isVar x.op=false):rnW q x=x:=by
 unfold rnW;rw[if_neg fun h=>h.1 ((fields_v hf).2 hv)]
theorem itemI_rn {q p:Qy}(h:OtP q p){x:Nd}(hf:fieldsB x=true)(hv:isVar x.op=true)(hb:0≤itemI q x.v∧itemI q x.v<(q.items.length:Int)):itemI p (rnW q x).v=itemI q x.v:=by
 rw[rn_var hf hv hb.1];show itemI p (nmW (itemI q x.v).toNat)=_
 rw[itemI_ot h oQ];omega
theorem rnv_ot {q p:Qy}(h:OtP q p){x:Nd}(hf:fieldsB x=true)(hb:isVar x.op=true→0≤itemI q x.v∧itemI q x.v<(q.items.length:Int)):rnv p (rnW q x)=rnv q x:=by
 by_cases hv:isVar x.op=true
 ·have e:=itemI_rn h hf hv (hb hv);unfold rnv;rw[rn_op,if_pos hv,if_pos hv,e];rw[rn_var hf hv (hb hv).1]
 ·have hv':isVar x.op=false:=by simpa using hv
  rw[rn_no hf hv'];unfold rnv;rw[if_neg hv,if_neg hv]
theorem pln_ot {q p:Qy}(h:OtP q p){t:List Nd}(ht:WvT q t):pln p (t.map (rnW q))=pln q t:=by
 unfold pln;rw[List.map_map];exact List.map_congr_left fun x hx=>rnv_ot h (ht x hx).1 (ht x hx).2
theorem uses_ot {q p:Qy}(h:OtP q p){t:List Nd}(ht:WvT q t){P:Nd→Bool}(h1:∀x,P x=true→isVar x.op=true)(h2:∀x,P (rnW q x)=P x):usesL p (t.map (rnW q)) P=usesL q t P:=by
 unfold usesL;rw[h.it,otI_len];refine List.filter_congr fun i _=>?_
 rw[List.any_map,Bool.eq_iff_iff,xM,xM];refine exists_congr fun x=>and_congr_right fun hx=>?_
 simp only[Function.comp_apply,xK,decide_eq_true_eq,h2];refine and_congr_left fun hP=>?_
 rw[itemI_rn h (ht x hx).1 (h1 x hP) ((ht x hx).2 (h1 x hP))]
theorem bares_ot {q p:Qy}(h:OtP q p){t:List Nd}(ht:WvT q t):bares p (t.map (rnW q))=bares q t:=by
 rw[bares_eq,bares_eq];exact uses_ot h ht (fun x hx=>bare_var hx) fun x=>by rw[rn_op]
theorem aggs_ot {q p:Qy}(h:OtP q p){t:List Nd}(ht:WvT q t):aggs p (t.map (rnW q))=aggs q t:=uses_ot h ht (fun x hx=>agg_var hx) fun x=>by rw[rn_op]
theorem prevs_ot {q p:Qy}(h:OtP q p){t:List Nd}(ht:WvT q t):prevs p (t.map (rnW q))=prevs q t:=
 uses_ot h ht (fun x hx=>by have:=of_decide_eq_true hx;rw[this];rfl) fun x=>by rw[rn_op]
theorem negAt_ot {q p:Qy}(h:OtP q p):negAt p=negAt q:=by
 funext i
 unfold negAt;rw[h.it,otI_get];cases q.items[i]? <;>rfl
theorem homeP_ot {q p:Qy}(h:OtP q p){t:List Nd}(ht:WvT q t):homeP p (t.map (rnW q))=homeP q t:=by
 unfold homeP;rw[bares_ot h ht,aggs_ot h ht,prevs_ot h ht,negAt_ot h]
theorem touchy_ot {q p:Qy}(h:OtP q p):touchy p=touchy q:=by
 funext i
 unfold touchy;rw[h.it,otI_get];cases q.items[i]? <;>rfl
theorem mixB_ot {q p:Qy}(h:OtP q p){t:List Nd}(ht:WvT q t):mixB p (t.map (rnW q))=mixB q t:=by
 unfold mixB;rw[bares_ot h ht,touchy_ot h]
theorem tysT_ot (x:It)(v:ByteArray):tysT {x with v:=v,tys:=rot x.tys}=tysT x:=by
 unfold tysT;rw[srt_rot]
def upN (k:Nat)(x:Nd):Nd:={x with a:=if 0≤x.a then x.a+k else x.a,b:=if 0≤x.b then x.b+k else x.b}
def andN (la lb:Nat):Nd:=⟨25,0,emp,emp,(la:Int) -1,(la:Int)+lb-1⟩
def cjn (a b:List Nd):List Nd:=a++b.map (upN a.length)++[andN a.length b.length]
theorem cjn_len (a b:List Nd):(cjn a b).length=a.length+b.length+1:=by unfold cjn;simp;omega
theorem runT_app:∀(l1 l2:List Nd)(i:Nat)(s:List (Nat×Nat)),runT i s (l1++l2)=(runT i s l1).bind fun s'=>runT (i+l1.length) s' l2
 | [],l2,i,s=>rfl
 |x::r,l2,i,s=>by
  show(match stepT i s x with |none=>none |some s'=>runT (i+1) s' (r++l2))=((match stepT i s x with |none=>none |some s'=>runT (i+1) s' r):Option _).bind _
  cases stepT i s x with
  |none=>rfl
  |some s'=>
   show runT (i+1) s' (r++l2)=(runT (i+1) s' r).bind _
   rw[runT_app r l2 (i+1) s',List.length_cons,show i+(r.length+1)=i+1+r.length by omega]
theorem seg_snoc {t:List Nd}{b j:Nat}{x:Nd}(h:t[j+1]? =some x)(hb:b≤j+1):(t.drop b).take (j+1+1-b)=(t.drop b).take (j+1-b)++[x]:=by
 rw[show j+1+1-b=(j+1-b)+1 by omega,zJ,xT,show b+(j+1-b)=j+1 by omega,h];rfl
theorem seg_cut {t:List Nd}{b m j:Nat}(h1:b≤m)(h2:m+1≤j+1):(t.drop b).take (j+1-b)=(t.drop b).take (m+1-b)++(t.drop (m+1)).take (j+1- (m+1)):=by
 have e:=(List.take_append_drop (m+1-b) ((t.drop b).take (j+1-b))).symm;rw[List.take_take,Nat.min_eq_left oQ,List.drop_take,List.drop_drop,show b+(m+1-b)=m+1 by omega,show j+1-b- (m+1-b)=j+1- (m+1) by omega]at e;exact e
theorem seg_len {t:List Nd}{b r:Nat}(hr:r<t.length)(hb:b≤r+1):((t.drop b).take (r+1-b)).length=r+1-b:=by
 rw[zO,List.length_drop];omega
theorem Sp.run {t:List Nd}{b r:Nat}(h:Sp t b r)(hf:∀x∈t,fieldsB x=true):∀s,runT b s ((t.drop b).take (r+1-b))=some ((b,r)::s):=by
 induction h with
 |lf hx h1 h2 h3=>
  rename_i i x;intro s;have e:(t.drop i).take (i+1-i)=[x]:=by
   rw[show i+1-i=0+1 by omega,zJ,xT,Nat.add_zero,hx];rfl
  rw[e];have hfx:=hf x (zA hx);show(match stepT i s x with |none=>none |some s'=>runT (i+1) s' [])=_
  unfold stepT;rw[if_neg (by rw[hfx];simp),if_pos h1,if_pos ⟨h2,h3⟩];rfl
 |un hx h1 h2 h3 hs ih=>
  rename_i b j x;intro s;have hle:=hs.le;have hlt:=hs.lt;have hfx:=hf x (zA hx);rw[seg_snoc hx oQ,runT_app,ih s,seg_len hlt oQ];show(match stepT (b+(j+1-b)) ((b,j)::s) x with |none=>none |some s'=>runT _ s' [])=_
  have hnl:¬isLf x.op=true:=by simp[isUn]at h1;simp[isLf];omega
  unfold stepT;rw[if_neg (by rw[hfx];simp),if_neg hnl,if_pos h1];simp only;rw[if_pos ⟨h2,h3⟩,show b+(j+1-b)=j+1 by omega];rfl
 |bi hx h1 h2 h3 hs1 hs2 ih1 ih2=>
  rename_i b m j x;intro s;have hle1:=hs1.le;have hle2:=hs2.le;have hlt1:=hs1.lt;have hlt2:=hs2.lt;have hfx:=hf x (zA hx);rw[seg_snoc hx oQ,seg_cut (m:=m) oQ oQ,runT_app,runT_app,ih1 s];show((runT (b+_) ((b,m)::s) _).bind _)=_
  rw[seg_len hlt1 oQ,show b+(m+1-b)=m+1 by omega,ih2];show(match stepT _ ((m+1,j)::(b,m)::s) x with |none=>none |some s'=>runT _ s' [])=_
  rw[zH,seg_len hlt1 oQ,seg_len hlt2 oQ,show b+(m+1-b+(j+1- (m+1)))=j+1 by omega];have hnl:¬isLf x.op=true:=by simp[isBi]at h1;simp[isLf];omega
  have hnu:¬isUn x.op=true:=by simp[isBi]at h1;simp[isUn];omega
  unfold stepT;rw[if_neg (by rw[hfx];simp),if_neg hnl,if_neg hnu,if_pos h1];simp only;rw[if_pos ⟨h2,h3⟩];rfl
theorem treeB_of {t:List Nd}{n:Nat}(h:Sp t 0 n)(hn:t.length=n+1)(hf:∀x∈t,fieldsB x=true):treeB t=true:=by
 have h1:=h.run hf [];rw[List.drop_zero,Nat.sub_zero,←hn,zL]at h1;unfold treeB;rw[h1]
theorem Sp.appL {t c:List Nd}{b r:Nat}(h:Sp t b r):Sp (t++c) b r:=by
 have g:∀{i:Nat}{x:Nd},t[i]? =some x→(t++c)[i]? =some x:=fun {i x} hx=>by
  rw[zS (zC.1 hx).1];exact hx
 induction h with
 |lf hx h1 h2 h3=>exact .lf (g hx) h1 h2 h3
 |un hx h1 h2 h3 _ ih=>exact .un (g hx) h1 h2 h3 ih
 |bi hx h1 h2 h3 _ _ ih1 ih2=>exact .bi (g hx) h1 h2 h3 ih1 ih2
theorem Sp.appR {t a:List Nd}{b r:Nat}(h:Sp t b r):Sp (a++t.map (upN a.length)) (b+a.length) (r+a.length):=by
 have g:∀{i:Nat}{x:Nd},t[i]? =some x→(a++t.map (upN a.length))[i+a.length]? =some (upN a.length x):=fun {i x} hx=>by
  rw[zP oQ,show i+a.length-a.length=i by omega,zG,hx];rfl
 induction h with
 |lf hx h1 h2 h3=>exact .lf (g hx) h1 (by show(if 0≤_ then _ else _)=_;rw[h2];rfl) (by show(if 0≤_ then _ else _)=_;rw[h3];rfl)
 |un hx h1 h2 h3 hs ih=>
  rename_i b j x;have:=g hx;rw[show j+1+a.length=(j+a.length)+1 by omega]at this ⊢;exact .un this h1 (by show(if 0≤x.a then x.a+_ else _)=_;rw[h2,if_pos oQ];omega) (by show(if 0≤x.b then _ else _)=_;rw[h3];rfl) ih
 |bi hx h1 h2 h3 hs1 hs2 ih1 ih2=>
  rename_i b m j x;have:=g hx;rw[show j+1+a.length=(j+a.length)+1 by omega]at this ⊢;rw[show m+1+a.length=m+a.length+1 by omega]at ih2;exact .bi this h1 (by show(if 0≤x.a then x.a+_ else _)=_;rw[h2,if_pos oQ];omega) (by show(if 0≤x.b then x.b+_ else _)=_;rw[h3,if_pos oQ];omega) ih1 ih2
theorem and_sp {a b:List Nd}{n m:Nat}(ha:Sp a 0 n)(hn:a.length=n+1)(hb:Sp b 0 m)(hm:b.length=m+1):Sp (cjn a b) 0 (a.length+b.length):=by
 have h1:Sp (cjn a b) 0 n:=by unfold cjn;exact(ha.appL).appL
 have h2:Sp (cjn a b) (n+1) (m+a.length):=by
  have:=(hb.appR (a:=a)).appL (c:=[andN a.length b.length]);rw[Nat.zero_add,hn]at this;unfold cjn;rw[hn];exact this
 have hx:(cjn a b)[(m+a.length)+1]? =some (andN a.length b.length):=by
  unfold cjn;rw[zP (by simp;omega),show m+a.length+1- (a++b.map (upN a.length)).length=0 by rw[zH,xC];omega];rfl
 rw[show a.length+b.length=(m+a.length)+1 by omega];exact .bi hx rfl (by show(a.length:Int) -1=_;omega) (by show(a.length:Int)+b.length-1=_;omega) h1 h2
theorem and_fields {a b:List Nd}(ha:∀x∈a,fieldsB x=true)(hb:∀x∈b,fieldsB x=true):∀x∈cjn a b,fieldsB x=true:=fun x hx=>by
 unfold cjn at hx;rcases zM.1 hx with hx |hx
 ·rcases zM.1 hx with hx |hx
  ·exact ha x hx
  ·obtain⟨y,hy,rfl⟩:=List.mem_map.1 hx;exact hb y hy
 ·rw[xB]at hx;subst hx;unfold fieldsB andN;simp[isVar,isAtt]
theorem and_tree {a b:List Nd}(ha:treeB a=true)(hb:treeB b=true):treeB (cjn a b)=true:=by
 obtain⟨⟨n,hn,hsa⟩,_,hfa⟩:=treeB_sp ha;obtain⟨⟨m,hm,hsb⟩,_,hfb⟩:=treeB_sp hb;exact treeB_of (and_sp hsa hn hsb hm) (by rw[cjn_len]) (and_fields hfa hfb)
def upI (k:Nat)(a:Int):Int:=if 0≤a then a+k else a
def Emb (k:Nat)(t t':List Nd):Prop:=∀(i:Nat) x,t[i]? =some x→∃y,t'[i+k]? =some y∧y.op=x.op∧y.a=upI k x.a∧y.b=upI k x.b
theorem upI_m {k:Nat}{a:Int}(h:a= -1):upI k a= -1:=by subst h;rfl
theorem upI_n {k m:Nat}{a:Int}(h:a=(m:Int)):upI k a=((m+k:Nat):Int):=by unfold upI;rw[if_pos oQ];omega
theorem Emb.sp {k:Nat}{t t':List Nd}(e:Emb k t t'){b r:Nat}(h:Sp t b r):Sp t' (b+k) (r+k):=by
 induction h with
 |lf hx h1 h2 h3=>
  obtain⟨y,hy,e1,e2,e3⟩:=e _ _ hx;exact .lf hy (by rw[e1];exact h1) (by rw[e2,upI_m h2]) (by rw[e3,upI_m h3])
 |un hx h1 h2 h3 hs ih=>
  rename_i b j x;obtain⟨y,hy,e1,e2,e3⟩:=e _ _ hx;rw[show j+1+k=(j+k)+1 by omega]at hy ⊢;exact .un hy (by rw[e1];exact h1) (by rw[e2,upI_n h2]) (by rw[e3,upI_m h3]) ih
 |bi hx h1 h2 h3 hs1 hs2 ih1 ih2=>
  rename_i b m j x;obtain⟨y,hy,e1,e2,e3⟩:=e _ _ hx;rw[show j+1+k=(j+k)+1 by omega]at hy ⊢;rw[show m+1+k=m+k+1 by omega]at ih2;exact .bi hy (by rw[e1];exact h1) (by rw[e2,upI_n h2]) (by rw[e3,upI_n h3]) ih1 ih2
theorem Emb.op {k:Nat}{t t':List Nd}(e:Emb k t t'){i:Nat}(h:i<t.length):opAt t' (i+k)=opAt t i:=by
 obtain⟨x,hx⟩:=getx h;obtain⟨y,hy,e1,_⟩:=e _ _ hx;rw[opAt_of hx,opAt_of hy,e1]
theorem Emb.cj {k:Nat}{t t':List Nd}(e:Emb k t t'){b r:Nat}(h:Sp t b r):∀{n:Nat},r-b≤n→cjF t' n (r+k)=(cjF t n r).map (· +k):=by
 induction h with
 |lf hx h1 h2 h3=>
  rename_i i x;intro n _;have ho:opAt t i≠25:=by rw[opAt_of hx];simp[isLf]at h1 ⊢;omega
  rw[cj_one ho,cj_one (by rw[e.op (zC.1 hx).1];exact ho)];rfl
 |un hx h1 h2 h3 hs ih=>
  rename_i b j x;intro n _;have ho:opAt t (j+1)≠25:=by rw[opAt_of hx];simp[isUn]at h1 ⊢;omega
  rw[cj_one ho,cj_one (by rw[e.op (zC.1 hx).1];exact ho)];rfl
 |bi hx h1 h2 h3 hs1 hs2 ih1 ih2=>
  rename_i b m j x;intro n hn;have hle1:=hs1.le;have hle2:=hs2.le;by_cases ho:opAt t (j+1)=25
  ·obtain⟨y,hy,e1,e2,e3⟩:=e _ _ hx;have ho':opAt t' (j+1+k)=25:=by rw[e.op (zC.1 hx).1];exact ho
   have s2:=e.sp hs2;rw[show m+1+k=m+k+1 by omega]at s2;rw[show j+1+k=(j+k)+1 by omega]at ho' hy ⊢;have a1:kidA t (j+1)=m:=by unfold kidA;rw[hx];show x.a.toNat=m;omega
   have b1:kidB t (j+1)=j:=by unfold kidB;rw[hx];show x.b.toNat=j;omega
   have a2:kidA t' (j+k+1)=m+k:=by unfold kidA;rw[hy];show y.a.toNat=m+k;rw[e2,upI_n h2];omega
   have b2:kidB t' (j+k+1)=j+k:=by unfold kidB;rw[hy];show y.b.toNat=j+k;rw[e3,upI_n h3];omega
   rw[cj_two ho a1 b1 hs1 hs2 hn,cj_two ho' a2 b2 (e.sp hs1) s2 oQ,xR,ih1 oQ,ih2 oQ]
  ·rw[cj_one ho,cj_one (by rw[e.op (zC.1 hx).1];exact ho)];rfl
theorem cj_ne {t:List Nd}{b r:Nat}(h:Sp t b r):∀{n i:Nat},r-b≤n→i∈cjF t n r→opAt t i≠25:=by
 induction h with
 |lf hx h1 h2 h3=>
  rename_i i x;intro n i' _ hi;have ho:opAt t i≠25:=by rw[opAt_of hx];simp[isLf]at h1 ⊢;omega
  rw[cj_one ho,xB]at hi;rw[hi];exact ho
 |un hx h1 h2 h3 hs ih=>
  rename_i b j x;intro n i' _ hi;have ho:opAt t (j+1)≠25:=by rw[opAt_of hx];simp[isUn]at h1 ⊢;omega
  rw[cj_one ho,xB]at hi;rw[hi];exact ho
 |bi hx h1 h2 h3 hs1 hs2 ih1 ih2=>
  rename_i b m j x;intro n i' hn hi;have hle1:=hs1.le;have hle2:=hs2.le;by_cases ho:opAt t (j+1)=25
  ·have a1:kidA t (j+1)=m:=by unfold kidA;rw[hx];show x.a.toNat=m;omega
   have b1:kidB t (j+1)=j:=by unfold kidB;rw[hx];show x.b.toNat=j;omega
   rw[cj_two ho a1 b1 hs1 hs2 hn]at hi;rcases zM.1 hi with hi |hi
   ·exact ih1 oQ hi
   ·exact ih2 oQ hi
  ·rw[cj_one ho,xB]at hi;rw[hi];exact ho
theorem Sp.sub {t:List Nd}{b r b0 r0:Nat}(h:Sp t b r)(h0:b0≤b)(h1:r≤r0):Sp (subL t b0 r0) (b-b0) (r-b0):=by
 have g:∀{i:Nat}{x:Nd},t[i]? =some x→b0≤i→i≤r0→(subL t b0 r0)[i-b0]? =some (shiftN b0 x):=fun {i x} hx c1 c2=>by
  unfold subL;rw[zG,zZ,if_pos oQ,xT,show b0+(i-b0)=i by omega,hx];rfl
 have sm:∀{a:Int},a= -1→(if 0≤a then a- (b0:Int)else a)= -1:=fun {a} h=>by subst h;rfl
 have sn:∀{a:Int}{m:Nat},a=(m:Int)→b0≤m→(if 0≤a then a- (b0:Int)else a)=((m-b0:Nat):Int):=fun {a m} h hm=>by rw[if_pos oQ];omega
 induction h with
 |lf hx e1 e2 e3=>exact .lf (g hx h0 h1) e1 (sm e2) (sm e3)
 |un hx e1 e2 e3 hs ih=>
  rename_i b j x;have hle:=hs.le;have:=g hx oQ h1;rw[show j+1-b0=(j-b0)+1 by omega]at this ⊢;exact .un this e1 (sn e2 oQ) (sm e3) (ih h0 oQ)
 |bi hx e1 e2 e3 hs1 hs2 ih1 ih2=>
  rename_i b m j x;have hle1:=hs1.le;have hle2:=hs2.le;have:=g hx oQ h1;have i2:=ih2 oQ oQ;rw[show j+1-b0=(j-b0)+1 by omega]at this ⊢;rw[show m+1-b0=m-b0+1 by omega]at i2;exact .bi this e1 (sn e2 oQ) (sn e3 oQ) (ih1 h0 oQ) i2
theorem shiftN_zero (x:Nd):shiftN 0 x=x:=by
 obtain⟨op,n,v,at_,a,b⟩:=x;unfold shiftN;simp
theorem subL_all {t:List Nd}{n:Nat}(h:t.length=n+1):subL t 0 n=t:=by
 unfold subL;rw[List.drop_zero,Nat.sub_zero,←h,zL];conv=>rhs;rw[←List.map_id t]
 exact List.map_congr_left fun x _=>shiftN_zero x
theorem shift_up (b k:Nat)(x:Nd):shiftN (b+k) (upN k x)=shiftN b x:=by
 obtain⟨op,n,v,at_,a,c⟩:=x;unfold shiftN upN;simp only[Nd.mk.injEq,true_and];constructor
 ·by_cases h:0≤a
  ·rw[if_pos h,if_pos oQ,if_pos h];omega
  ·rw[if_neg h,if_neg h,if_neg h]
 ·by_cases h:0≤c
  ·rw[if_pos h,if_pos oQ,if_pos h];omega
  ·rw[if_neg h,if_neg h,if_neg h]
structure CT (t:List Nd)(L:List (List Nd)):Prop where
 tr:treeB t=true
 cj:(conjs t).map (subT t)=L
theorem subT_sp {t:List Nd}{b r:Nat}(h:Sp t b r):subT t r=subL t b r:=by unfold subT;rw[bg_sp h]
theorem ct_one {t:List Nd}(h:treeB t=true){r:Nat}(hr:r∈conjs t):CT (subT t r) [subT t r]:=by
 obtain⟨b,hsp⟩:=conjs_sp h hr;obtain⟨⟨n,hn,hs0⟩,_,hf⟩:=treeB_sp h;have hne:opAt t r≠25:=cj_ne hs0 (n:=t.length) oQ (by have:=hr;unfold conjs at this;rwa [show t.length-1=n by omega]at this);rw[subT_sp hsp];have hle:=hsp.le;have hlen:=subL_len hsp;have hlen':(subL t b r).length=(r-b)+1:=oQ;have s1:=hsp.sub (zD b) (zD r);rw[Nat.sub_self]at s1;refine⟨treeB_of s1 hlen' (fields_sub hf),?_⟩;have ho:opAt (subL t b r) (r-b)≠25:=by
  have hlt:=hsp.lt;obtain⟨x,hx⟩:=getx hlt;have:(subL t b r)[r-b]? =some (shiftN b x):=by
   unfold subL;rw[zG,zZ,if_pos oQ,xT,show b+(r-b)=r by omega,hx];rfl
  rw[opAt_of this];rw[opAt_of hx]at hne;exact hne
 have e:conjs (subL t b r)=[r-b]:=by
  unfold conjs;rw[hlen',show r-b+1-1=r-b by omega,cj_one ho]
 rw[e,List.map_singleton,subT_sp s1,subL_all hlen']
theorem emb_l (a b:List Nd):Emb 0 a (cjn a b):=fun i x hx=>by
 refine⟨x,?_,rfl,?_,?_⟩
 ·unfold cjn;rw[Nat.add_zero,zR,zS (zC.1 hx).1,hx]
 ·unfold upI;split<;>omega
 ·unfold upI;split<;>omega
theorem emb_r (a b:List Nd):Emb a.length b (cjn a b):=fun i x hx=>by
 refine⟨upN a.length x,?_,rfl,rfl,rfl⟩;unfold cjn;have:=(zC.1 hx).1;rw[zS (by rw[zH,xC];omega),zP oQ,show i+a.length-a.length=i by omega,zG,hx];rfl
theorem emb_map {f:Nd→Nd}(h:∀x,(f x).op=x.op∧(f x).a=x.a∧(f x).b=x.b)(t:List Nd):Emb 0 t (t.map f):=fun i x hx=>by
 obtain⟨h1,h2,h3⟩:=h x;refine⟨f x,by rw[Nat.add_zero,zG,hx];rfl,h1,?_,?_⟩
 ·rw[h2];unfold upI;split<;>omega
 ·rw[h3];unfold upI;split<;>omega
theorem sub_l {a b:List Nd}{c r:Nat}(h:Sp a c r):subT (cjn a b) r=subT a r:=by
 have hlt:=h.lt;have hle:=h.le;have e:=(emb_l a b).sp h;rw[Nat.add_zero,Nat.add_zero]at e;rw[subT_sp h,subT_sp e];unfold subL cjn;rw[zR,List.drop_append_of_le_length oQ,List.take_append_of_le_length (by rw[List.length_drop];omega)]
theorem sub_r {a b:List Nd}{c r:Nat}(h:Sp b c r):subT (cjn a b) (r+a.length)=subT b r:=by
 have hlt:=h.lt;have hle:=h.le;rw[subT_sp h,subT_sp ((emb_r a b).sp h)];unfold subL cjn;rw[show r+a.length+1- (c+a.length)=r+1-c by omega,List.drop_append_of_le_length (by rw[zH,xC];omega),show c+a.length=a.length+c by omega,←List.drop_drop,List.drop_left,←List.map_drop,
  List.take_append_of_le_length (by rw[xC,List.length_drop];omega),←List.map_take,List.map_map]
 refine List.map_congr_left fun x _=>?_
 show shiftN (a.length+c) (upN a.length x)=_
 rw[show a.length+c=c+a.length by omega,shift_up]
theorem ct_and {a b:List Nd}{L M:List (List Nd)}(ha:CT a L)(hb:CT b M):CT (cjn a b) (L++M):=by
 obtain⟨⟨n,hn,sa⟩,_,_⟩:=treeB_sp ha.tr;obtain⟨⟨m,hm,sb⟩,_,_⟩:=treeB_sp hb.tr;have e1:=(emb_l a b).sp sa;have e2:=(emb_r a b).sp sb;rw[Nat.add_zero,Nat.add_zero]at e1;rw[show 0+a.length=n+1 by omega]at e2;have hx:(cjn a b)[(m+a.length)+1]? =some (andN a.length b.length):=by
  unfold cjn;rw[zP (by simp;omega),show m+a.length+1- (a++b.map (upN a.length)).length=0 by rw[zH,xC];omega];rfl
 have ho:opAt (cjn a b) (m+a.length+1)=25:=opAt_of hx;have k1:kidA (cjn a b) (m+a.length+1)=n:=by unfold kidA;rw[hx];show((a.length:Int) -1).toNat=n;omega
 have k2:kidB (cjn a b) (m+a.length+1)=m+a.length:=by unfold kidB;rw[hx];show((a.length:Int)+b.length-1).toNat=m+a.length;omega
 refine⟨and_tree ha.tr hb.tr,?_⟩;have hc:conjs (cjn a b)=conjs a++(conjs b).map (· +a.length):=by
  unfold conjs;rw[cjn_len,show a.length+b.length+1-1=m+a.length+1 by omega,cj_two ho k1 k2 e1 e2 oQ];have c1:=(emb_l a b).cj sa (n:=a.length+b.length+1) oQ;have c2:=(emb_r a b).cj sb (n:=a.length+b.length+1) oQ;rw[show n+0=n from rfl]at c1;have c0:(cjF a (a.length+b.length+1) n).map (· +0)=cjF a (a.length+b.length+1) n:=List.map_id _;rw[c0]at c1;rw[c1,c2,cjF_mono sa (n:=a.length+b.length+1) (m:=a.length) oQ oQ,cjF_mono sb (n:=a.length+b.length+1) (m:=b.length) oQ oQ,show a.length-1=n by omega,show b.length-1=m by omega]
 rw[hc,xR,←ha.cj,←hb.cj,List.map_map];congr 1
 ·refine List.map_congr_left fun r hr=>?_
  obtain⟨c,hs⟩:=conjs_sp ha.tr hr;exact sub_l hs
 ·refine List.map_congr_left fun r hr=>?_
  obtain⟨c,hs⟩:=conjs_sp hb.tr hr;exact sub_r hs
theorem rn_opab (q:Qy)(x:Nd):(rnW q x).op=x.op∧(rnW q x).a=x.a∧(rnW q x).b=x.b:=⟨rn_op q x,rn_a q x,rn_b q x⟩
theorem rn_shift (q:Qy)(b:Nat)(x:Nd):rnW q (shiftN b x)=shiftN b (rnW q x):=by
 unfold rnW;by_cases h:x.v≠emp∧0≤itemI q x.v
 ·rw[if_pos h,if_pos (show(shiftN b x).v≠emp∧0≤itemI q (shiftN b x).v from h)];rfl
 ·rw[if_neg h,if_neg (show¬((shiftN b x).v≠emp∧0≤itemI q (shiftN b x).v)from h)]
theorem sub_rn {q:Qy}{t:List Nd}{b r:Nat}(h:Sp t b r):subT (t.map (rnW q)) r=(subT t r).map (rnW q):=by
 have e:=(emb_map (rn_opab q) t).sp h;rw[Nat.add_zero,Nat.add_zero]at e;rw[subT_sp h,subT_sp e];unfold subL;rw[←List.map_drop,←List.map_take,List.map_map,List.map_map];exact List.map_congr_left fun x _=>(rn_shift q b x).symm
theorem conjs_rn {q:Qy}{t:List Nd}(h:treeB t=true):conjs (t.map (rnW q))=conjs t:=by
 obtain⟨⟨n,hn,hs⟩,_,_⟩:=treeB_sp h;have:=(emb_map (rn_opab q) t).cj hs (n:=t.length) oQ;rw[Nat.add_zero]at this;unfold conjs;rw[xC,show t.length-1=n by omega,this];exact List.map_id _
end Go.Proofs.YthaabihjeomipaaGreatDoor
