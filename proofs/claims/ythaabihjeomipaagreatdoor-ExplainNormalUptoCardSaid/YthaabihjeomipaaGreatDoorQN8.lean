/- The document's Lines. -/
import Derived.Test.YthaabihjeomipaaGreatDoorQChg
namespace Go.Proofs.YthaabihjeomipaaGreatDoor
set_option maxRecDepth 100000
set_option maxHeartbeats 16000000
open Go.RowKit Go.Deep
set_option linter.unusedVariables false
set_option linter.unusedSimpArgs false
theorem elRw:ElT Tryz.prog 61 69 3 32:=.of Tryz.underlying61 kQ oQ
theorem rdlRw {w:World}{G:Nat→Prop}(r:Rw):RdL w G (rwV r) (rwD r):=⟨.v _ rfl,.v _ rfl,.v _ rfl,trivial⟩
def LnP (l:List Td)(q:Qy)(w:World)(e:Ending)(w':World):Prop:=∃v,e=.returned (.tuple #[v,.int .i64 (linC l q)])∧(linC l q=0→OL w' w.heap.size NoF 9 1 v (linL q).length ((linL q).flatMap strD))∧(linC l q≠0→v=.slice none 0 0)∧Bw w w'
theorem LnP.err {l:List Td}{q:Qy}{w w':World}{c:Int}(h:linC l q=c)(hc:c≠0)(hb:Bw w w'):LnP l q w (.returned (.tuple #[.slice none 0 0,.int .i64 c])) w':=⟨_,by rw[h],fun e=>absurd (h▸e) hc,fun _=>rfl,hb⟩
theorem LnP.ok {l:List Td}{q:Qy}{w w':World}{v:Value}(h:linC l q=0)(hO:OL w' w.heap.size NoF 9 1 v (linL q).length ((linL q).flatMap strD))(hb:Bw w w'):LnP l q w (.returned (.tuple #[v,.int .i64 0])) w':=⟨_,by rw[h],fun _=>hO,fun e=>absurd h e,hb⟩
noncomputable def rcC (q:Qy)(r:Nat):Int:=exC (pln q (subT q.wh r))
noncomputable def tcC (q:Qy)(t:List Nd):Int:=exC (pln q t)
theorem lin_chk {l:List Td}{q:Qy}(h:checkC (scC l) l q≠0):linC l q=checkC (scC l) l q:=by unfold linC fz;rw[if_neg h]
theorem lin_fz {l:List Td}{q:Qy}(h:checkC (scC l) l q=0):linC l q=if fz ((rootsQ q).map (rcC q))=0 then fz (q.ret.map (tcC q))else fz ((rootsQ q).map (rcC q)):=by
 unfold linC;rw[fz,if_pos h,fz_app];rfl
theorem lin_root {l:List Td}{q:Qy}(h:checkC (scC l) l q=0){j r:Nat}(hr:(rootsQ q)[j]? =some r)(hb:∀i∈(rootsQ q).take j,rcC q i=0)(hne:rcC q r≠0):linC l q=rcC q r:=by
 have h1:fz ((rootsQ q).map (rcC q))=rcC q r:=fz_map_at hr (fun i y hy hi=>hb y (zA (i:=i) (by rw[zZ,if_pos hi];exact hy))) hne;rw[lin_fz h,h1,if_neg hne]
theorem lin_roots {q:Qy}(hb:∀i∈rootsQ q,rcC q i=0):fz ((rootsQ q).map (rcC q))=0:=fz_zero fun c hc=>by
 obtain⟨i,hi,rfl⟩:=List.mem_map.1 hc;exact hb i hi
theorem lin_ret {l:List Td}{q:Qy}(h:checkC (scC l) l q=0)(hb:∀i∈rootsQ q,rcC q i=0){k:Nat}{t:List Nd}(ht:q.ret[k]? =some t)(hb2:∀u∈q.ret.take k,tcC q u=0)(hne:tcC q t≠0):linC l q=tcC q t:=by
 rw[lin_fz h,if_pos (lin_roots hb)];exact fz_map_at ht (fun i y hy hi=>hb2 y (zA (i:=i) (by rw[zZ,if_pos hi];exact hy))) hne
theorem lin_ok {l:List Td}{q:Qy}(h:checkC (scC l) l q=0)(hb:∀i∈rootsQ q,rcC q i=0)(hb2:∀u∈q.ret,tcC q u=0):linC l q=0:=by
 rw[lin_fz h,if_pos (lin_roots hb)];exact fz_zero fun c hc=>by
  obtain⟨i,hi,rfl⟩:=List.mem_map.1 hc;exact hb2 i hi
noncomputable def RQ (q:Qy)(j:Nat):List Rw:=((rootsQ q).take j).map (rowQ q)
theorem RQ_next {q:Qy}{j r:Nat}(h:(rootsQ q)[j]? =some r):RQ q (j+1)=RQ q j++[rowQ q r]:=by
 unfold RQ;rw[zJ,h,xR];rfl
theorem RQ_len {q:Qy}{j:Nat}(h:j≤(rootsQ q).length):(RQ q j).length=j:=by unfold RQ;rw[xC,zO];omega
structure LI (l:List Td)(A:Option Addr)(c:Nat)(q:Qy)(s:Sl3)(v8:Value)(w wr:World)(vr:Value)(j:Nat):Prop where
 sq:SQ l A c q s w wr
 o8:OL wr w.heap.size NoF 3 1 v8 (rootsQ q).length ((rootsQ q).map cjD)
 ol:OL wr w.heap.size NoF 69 3 vr j ((RQ q j).flatMap rwD)
section
variable {l:List Td}{A:Option Addr}{c:Nat}{q:Qy}{s:Sl3}{v8 vr vr':Value}{w wr W w1:World}{j r:Nat}
theorem LI.stay (h:LI l A c q s v8 w wr vr j)(hb:Bw wr W):LI l A c q s v8 w W vr j:=⟨h.sq.stay hb,h.o8.stay hb,h.ol.stay hb⟩
theorem LI.app (h:LI l A c q s v8 w wr vr j)(hr:(rootsQ q)[j]? =some r)(hg:wr.grownBy w1 vr.ownBlock)(hO:OL w1 w.heap.size NoF 69 3 vr' (j+1) ((RQ q j).flatMap rwD++rwD (rowQ q r))):LI l A c q s v8 w w1 vr' (j+1):=by
 have hs:=h.sq.hb.size;refine⟨⟨h.sq.hb.grown hg hs (fun q hq=>(h.ol.lt q hq).1),h.sq.b0.grown hg (fun e=>h.ol.neBlk h.sq.b0 dQ e.symm),h.sq.b1.grown hg (fun e=>h.ol.neBlk h.sq.b1 dQ e.symm)⟩,h.o8.kept hg (h.o8.ne h.ol dQ) (fun b hb=>hb.elim),?_⟩;rw[RQ_next hr,xD];exact hO
end
def keyT (q:Qy):ByteArray:=if q.by_=emp then dashB else q.by_
theorem modW_size (m:Int):(modW m).size≤6:=by
 unfold modW;by_cases h1:m=1
 ·rw[if_pos h1];decide
 ·rw[if_neg h1];by_cases h2:m=2
  ·rw[if_pos h2];decide
  ·rw[if_neg h2];decide
theorem aftW_size (m:Int):(aftW m).size≤4:=by
 unfold aftW;by_cases h1:m=1
 ·rw[if_pos h1];decide
 ·rw[if_neg h1];by_cases h2:m=2
  ·rw[if_pos h2];decide
  ·rw[if_neg h2];by_cases h3:m=3
   ·rw[if_pos h3];decide
   ·rw[if_neg h3];decide
section
variable {P:Program}{w:World}{o:Oper}{a:Act}{K:Act→World→Prop}{Q:Exit→Act→World→Prop}
theorem op_cat (x y:Operand)(t t':TypeId){A B C:ByteArray}(ho:o.op=.binOp .add t x y t')(hx:a.eval x=.string A)(hy:a.eval y=.string B)(hs:A.size+B.size≤9223372036854775807)(he:A++B=C)(h:K (a.put o.dst (.string C)) w):o.wp P a w K Q:=by
 subst he;have e:(execOp a.eval o).run P w=.ok (.value (.string (A++B))) w:=by
  simp[execOp,ho,hx,hy,binOp,eqGuard,run_string_add_sum w A B hs]
 unfold Oper.wp;rw[e];exact h
end
theorem emp_b (s:ByteArray):s.toList.isEmpty=decide (s=emp):=by
 by_cases h:s=emp
 ·rw[(emp_t h).2.2.1,zW h]
 ·rw[(emp_f h).2.2.1,zV h]
theorem keyT_size {q:Qy}(h:q.by_.size≤1048576):(keyT q).size≤1048576:=by
 unfold keyT;split
 ·decide
 ·exact h
theorem headL_eq (q:Qy):headL q=⟨#[109,111,100,101,32]⟩++modW q.mode++⟨#[32,97,102,116,101,114,32]⟩++aftW q.after++⟨#[32,119,105,110,100,111,119,32]⟩++itoaB q.within++⟨#[32,107,101,121,32]⟩++keyT q:=rfl
def LnR1 (l:List Td)(A:Option Addr)(c:Nat)(q:Qy)(s:Sl3)(v8:Value)(w:World)(vr i:Value)(wr:World):Prop:=∃j:Nat,j≤(rootsQ q).length∧i=.int .i64 j∧LI l A c q s v8 w wr vr j∧Hid (∀i∈(rootsQ q).take j,rcC q i=0)
noncomputable def L2 (q:Qy)(j:Nat):List ByteArray:=headL q::mapI (itmL q (rowsQ q)) 0 (q.items.take j)
theorem L2_next {q:Qy}{j:Nat}{x:It}(h:q.items[j]? =some x):L2 q (j+1)=L2 q j++[itemL q j x]++layL (rowsQ q) j true ownB++layL (rowsQ q) j false asksB:=by
 unfold L2;rw[mapI_take _ h];show headL q::(_++(itemL q j x::(layL (rowsQ q) j true ownB++layL (rowsQ q) j false asksB)))=_
 simp[zR]
theorem srt_len (l:List ByteArray):(srt l).length≤l.length:=by
 unfold srt toB Lib.compact Lib.compactUpTo;rw[xC,xC];refine zU (List.length_filter_le _ _) ?_;rw[List.length_range,List.length_mergeSort];unfold ofB;rw[xC];exact nR
theorem tysT_size {x:It}(h:∀y∈x.tys,y.size≤16):(tysT x).size≤17*x.tys.length:=by
 have h1:=jnW_size (l:=srt x.tys) (s:=barB) (b:=16) (fun y hy=>h y (mem_srt.1 hy)) (srt x.tys).length;rw[zL,show 16+barB.size=17 from rfl]at h1;have:=srt_len x.tys;unfold tysT;omega
theorem lay_len (R:List Rw)(k:Int)(o:Bool)(h:ByteArray):(layL R k o h).length≤R.length:=by
 unfold layL;rw[xC];have h1:(srt (selR R k o)).length≤(selR R k o).length:=srt_len _;have h2:(selR R k o).length≤R.length:=by unfold selR;rw[xC];exact List.length_filter_le _ _
 omega
theorem L2_len {q:Qy}(j:Nat)(h:j≤q.items.length)(hi:q.items.length≤10)(hr:(rowsQ q).length≤1048576):(L2 q j).length≤1+2097153*j:=by
 induction j with
 |zero=>unfold L2;rw[List.take_zero];exact nR
 |succ j ih=>
  obtain⟨x,hx⟩:=getx (l:=q.items) (i:=j) oQ;have h1:=lay_len (rowsQ q) j true ownB;have h2:=lay_len (rowsQ q) j false asksB;have:=ih oQ;rw[L2_next hx];simp only[zH,List.length_singleton];omega
structure LI2 (l:List Td)(A:Option Addr)(c:Nat)(q:Qy)(s:Sl3)(vR:Value)(w wr:World)(v:Value)(L:List ByteArray):Prop where
 sq:SQ l A c q s w wr
 rw_:RwR wr w.heap.size vR (rowsQ q)
 ol:OL wr w.heap.size NoF 9 1 v L.length (L.flatMap strD)
section
variable {l:List Td}{A:Option Addr}{c:Nat}{q:Qy}{s:Sl3}{vR v v':Value}{w wr W w1:World}{L L':List ByteArray}{x:ByteArray}
theorem LI2.stay (h:LI2 l A c q s vR w wr v L)(hb:Bw wr W):LI2 l A c q s vR w W v L:=⟨h.sq.stay hb,h.rw_.kps (Kps.of hb),h.ol.stay hb⟩
theorem LI2.app (h:LI2 l A c q s vR w wr v L)(hg:wr.grownBy w1 v.ownBlock)(hO:OL w1 w.heap.size NoF 9 1 v' (L.length+1) (L.flatMap strD++strD x)):LI2 l A c q s vR w w1 v' (L++[x]):=by
 have hs:=h.sq.hb.size;have hk:Kps wr w1:=fun k t cs a hx=>hx.grown hg (fun e=>h.ol.neBlk hx (fun e=>a e.symm) e.symm)
 refine⟨⟨h.sq.hb.grown hg hs (fun q hq=>(h.ol.lt q hq).1),hk _ _ _ dQ h.sq.b0,hk _ _ _ dQ h.sq.b1⟩,h.rw_.kps hk,?_⟩;rw[zH,xD];exact hO
theorem LI2.lay (h:LI2 l A c q s vR w wr v L)(hO:OL w1 w.heap.size NoF 9 1 v' L'.length (L'.flatMap strD))(hb:Below w.heap.size wr w1)(hk:Kps wr w1):LI2 l A c q s vR w w1 v' L':=
 ⟨⟨h.sq.hb.trans hb,hk _ _ _ dQ h.sq.b0,hk _ _ _ dQ h.sq.b1⟩,h.rw_.kps hk,hO⟩
end
def LnR2 (l:List Td)(A:Option Addr)(c:Nat)(q:Qy)(s:Sl3)(vR:Value)(w:World)(v n i:Value)(wr:World):Prop:=∃j:Nat,j≤q.items.length∧i=.int .i64 j∧n=.int .i64 (cmpN q j)∧LI2 l A c q s vR w wr v (L2 q j)
noncomputable def L3 (q:Qy)(k:Nat):List ByteArray:=L2 q q.items.length++layL (rowsQ q) (-1) false alwB++(q.ret.take k).map fun t=>resB++exT (pln q t)
theorem L3_next {q:Qy}{k:Nat}{t:List Nd}(h:q.ret[k]? =some t):L3 q (k+1)=L3 q k++[resB++exT (pln q t)]:=by
 unfold L3;rw[zJ,h,xR,←zR];rfl
theorem L3_all (q:Qy):L3 q q.ret.length=linL q:=by
 unfold L3 L2 linL;rw[zL,zL];simp[zR]
theorem L3_len {q:Qy}(k:Nat)(hi:q.items.length≤10)(hk:k≤8)(hr:(rowsQ q).length≤1048576):(L3 q k).length≤33554432:=by
 have h1:=L2_len (q:=q) q.items.length nR hi hr;have h2:=lay_len (rowsQ q) (-1) false alwB;unfold L3;simp only[zH,xC,zO];omega
def LnR3 (l:List Td)(A:Option Addr)(c:Nat)(q:Qy)(s:Sl3)(vR:Value)(w:World)(v i:Value)(wr:World):Prop:=∃k:Nat,k≤q.ret.length∧i=.int .i64 k∧LI2 l A c q s vR w wr v (L3 q k)∧Hid (∀u∈q.ret.take k,tcC q u=0)
namespace shR
open nmW shW ckW
theorem rConjE_k (w:World)(hK:KwIs w)(A:Option Addr)(c:Nat)(F:Nat→Prop)(hF:∀b,F b→b<w.heap.size)(r:Rd w F (.slice A 0 c) (.sl 0 [])):
  Calls Tryz.prog 26 #[.slice A 0 c] w (IlPost [] w):=by
 have k0:=refTree_k A c F [] ⟨zE _,fun _ h=>by cases h⟩ w hK hF r;rw[show treeB []=false by unfold treeB;rfl]at k0;replace k0:=Hd k0;go_enter Tryz.func26,Tryz.ntmps26;go_wp2_with (go_at_call 58;refine k0.out.mono ?_;rintro e W ⟨rfl,hX⟩;replace hX:=Hd hX);go_ret;exact IlPost.mk (OL.nil _ _ _ _ _) hX.out
theorem rlines_k (A:Option Addr)(c:Nat)(F:Nat→Prop)(l:List Td)(q:Qy)(s:Sl3)(hl:SzT l)(hs:SzQ q)(hSB:SzB q)(hmw:SzM q.wh)(hmr:∀t∈q.ret,SzM t)(w:World)(hT:XT w)(hR:RT w)(R:QR w F q s)(r:Rd w F (.slice A l.length c) (.sl l.length (l.flatMap tdD))):
  Calls Tryz.prog 15 #[.agg ⟨[.slice A l.length c]⟩,.agg ⟨qV q s⟩] w (LnP l q w):=by
 have h0:=SQ.new l A c q s w;have hb0:=h0.hb;obtain⟨W0,hW0⟩:∃W0,W0=((w.alloc (.cells ⟨[.slice A l.length c]⟩ 24)).alloc (.cells ⟨qV q s⟩ 31)):=⟨_,rfl⟩
 rw[←hW0]at h0 hb0;obtain⟨y0,y1,y2,y3,y4,y5,y6⟩:=qbc h0.b1;have x0:=h0.b0.cell 0;have k1:=rCheck_k A c F l q s hl hs hSB W0 (hT.stay hb0).kw (R.under hb0) (r.under hb0 R.lt);have kcc:checkC (scC l) l q=0→∀W,Bw w W→Calls Tryz.prog 26 #[.slice s.a2 q.wh.length s.c2] W (IlPost (rootsQ q) W):=fun h W hW=>by
  have hok:=ln_ok h;unfold rootsQ;by_cases hne:q.wh=[]
  ·rw[if_pos hne];have:=(R.under hW).r2;rw[hne]at this ⊢;exact rConjE_k W (hT.stay hW).kw _ _ F (R.under hW).lt this
  ·rw[if_neg hne];exact rConj_k s.a2 s.c2 F q.wh hs.wh (hok.wh.resolve_left hne) W (hT.stay hW).kw (R.under hW).lt (R.under hW).r2
 have ksx:LnOk l q→∀W (j r:Nat),Bw w W→(rootsQ q)[j]? =some r→Calls Tryz.prog 27 #[.slice s.a2 q.wh.length s.c2,.int .i64 r] W (TrPost (subT q.wh r) W):=fun hok W j r hW hj=>by
  obtain⟨hne,ht,b,hsp,e,_⟩:=conj_at hok hj;rw[e];exact rSub_k s.a2 s.c2 F q.wh hs.wh ht hsp W (hT.stay hW).kw (R.under hW).lt (R.under hW).r2
 have kpx:LnOk l q→∀W (j r:Nat) A' c',Bw w W→(rootsQ q)[j]? =some r→Rd W (fun b=>b<W.heap.size) (.slice A' (subT q.wh r).length c') (.sl (subT q.wh r).length ((subT q.wh r).flatMap ndD))→Calls Tryz.prog 28 #[.agg ⟨qV q s⟩,.slice A' (subT q.wh r).length c'] W (ExP (pln q (subT q.wh r)) W):=fun hok W j r A' c' hW hj rd=>by
  obtain⟨hne,ht,b,hsp,e,_⟩:=conj_at hok hj;rw[e]at rd ⊢;exact rplain_k q s A' c' _ F (subL q.wh b r) hs (subL_sz hsp hs.wh) (ndok_sub (nd_ok ht hmw)) W (hT.stay hW) (hR.stay hW) (R.under hW) (fun b h=>h) rd
 have kbx:LnOk l q→∀W (j r:Nat) A' c',Bw w W→(rootsQ q)[j]? =some r→Rd W (fun b=>b<W.heap.size) (.slice A' (subT q.wh r).length c') (.sl (subT q.wh r).length ((subT q.wh r).flatMap ndD))→Calls Tryz.prog 29 #[.agg ⟨qV q s⟩,.slice A' (subT q.wh r).length c'] W (BeP (homeP q (subT q.wh r)) W):=fun hok W j r A' c' hW hj rd=>by
  obtain⟨hne,ht,b,hsp,e,hm⟩:=conj_at hok hj;rw[e]at rd ⊢;rw[home_eq (wv_sub hok.wv) hm];exact belongs_k q s A' c' _ F (subL q.wh b r) hs (subL_sz hsp hs.wh) (wv_sub hok.wv) W (R.under hW) (fun b h=>h) rd
 have hrl:LnOk l q→(rootsQ q).length≤1048576:=fun hok=>zU (roots_len hok) hs.wh.1
 have cc:=fun W (h:SQ l A c q s w W)=>qbc h.b1
 obtain⟨b,hc⟩:∃b,b=checkC (scC l) l q:=⟨_,rfl⟩
 have hL:=fun h:b≠0=>(lin_chk (hc▸h)).trans hc.symm
 obtain⟨A1,c1,A2,c2,A3,c3⟩:=s;simp only[qV,zY]at hW0 y0 y1 y2 y3 y4 y5 y6 x0 k1 kcc ksx kpx kbx cc ⊢;rw[←hc]at k1 kcc;replace k1:=Hd k1;replace kcc:=Hd kcc;replace ksx:=Hd ksx;replace kpx:=Hd kpx;replace kbx:=Hd kbx;replace cc:=Hd cc;replace hrl:=Hd hrl;have hWW:=Hd hW0;replace h0:=Hd h0;replace hc:=Hd hc;replace hb0:=Hd hb0;replace hL:=Hd hL;clear hW0;go_enter Tryz.func15,Tryz.ntmps15;go_upto_region 1 with fail
 rw[←hWW.out];go_upto_region 2 with(first
  |(go_at_call 25;refine k1.out.mono ?_;rintro e W1 ⟨fp,fi,fs,rfl,hX1⟩;have h1:=Hd (h0.out.stay hX1);clear hX1 x0 y0 y1 y2 y3 y4 y5 y6)
  |(refine at_op (.store 59 (.tmp 6) (.tmp 25)) rfl ?_;refine wsb rfl 59 (.tmp 6) (.tmp 25) rfl (cs':=flV b fp fi fs) (Blk.new _ _ _) aggFl rfl rfl rfl rfl ?_;intro w2 hz2 hg2))
 have hX2:Bw W1 w2:=by
  have h2:Bw W1 (W1.alloc (.cells ⟨flV 0 0 0 0⟩ 59)):=bA;exact h2.grown hg2 h2.size (fun q hq=>by injection hq with hq;omega)
 have h2:=h1.out.stay hX2;have e0:=hz2.cell 0;simp only[flV,zY]at e0;obtain⟨gf,hgf⟩:∃gf,gf=W1.heap.size:=⟨_,rfl⟩
 rw[←hgf]at e0 ⊢;clear hX2 hz2 hg2 h1 hgf hb0 h0 hWW;by_cases hs0:b=0
 case neg=>
  have f2:=bneT hs0;have f1:=beqF hs0;have hfin:=Hd (fun(W:World)(hW:Bw w W)=>LnP.err (w':=W) (hL.out hs0) hs0 hW);have hbb:=Hd h2.hb;replace hs0:=Hd hs0;clear h2 kcc k1;go_upto_region 3 with fail
  go_quiet (fail);go_wp2;refine bodyPost_ret (results_tmp2 rfl _ _ _) rfl ?_;first|exact hfin.out _ hbb.out |exact hfin.out _ hbb.out.drew |exact hfin.out _ (below_drewN hbb.out _)
 subst hs0;have hok:=ln_ok hc.out.symm;have hrl':=hrl.out hok;have ks1:=Hd (ksx.out hok);have kp1:=Hd (kpx.out hok);have kb1:=Hd (kbx.out hok);clear ksx kpx kbx hrl;replace hok:=Hd hok;have kcx:=Hd (kcc.out rfl w2 h2.hb);replace h2:=Hd h2;obtain⟨y0,y1,y2,y3,y4,y5,y6⟩:=qbc h2.out.b1;go_upto_region 6 with(go_at_call 26;refine kcx.out.mono ?_;rintro e W3 ⟨v8,rfl,hO8,hX3⟩)
 have hI3:=Hd (show LI l A c q ⟨A1,c1,A2,c2,A3,c3⟩ v8 w W3 (.slice none 0 0) 0 from ⟨h2.out.stay hX3,hO8.base h2.out.hb.size,OL.nil _ _ _ _ _⟩);obtain⟨A8,c8,rfl⟩:=hO8.form;clear hO8 hX3 h2 e0 kcx kcc k1 hL;go_wp2;go_loopw [7,9] (fun a i wr=>LnR1 l A c q ⟨A1,c1,A2,c2,A3,c3⟩ (.slice A8 (rootsQ q).length c8) w a i wr) (fun _ i _=>(rootsQ q).length- (intOf i).toNat)
 case atStart=>exact⟨0,zE _,rfl,hI3.out,fun i hi=>by rw[List.take_zero]at hi;cases hi⟩
 case round=>
 clear hI3;obtain⟨j,hj,rfl,hI,hz⟩:=hrel;obtain⟨A7,c7,rfl⟩:=hI.ol.form;by_cases hlt:j<(rootsQ q).length
 ·obtain⟨r,hr⟩:=getx hlt;obtain⟨b8,o8,rfl,u8⟩:=cj_at (hI.o8.rd (G:=fun _=>True) (fun _ h _=>h.elim) (fun _ _ _=>trivial)) hr;obtain⟨y0,y1,y2,y3,y4,y5,y6⟩:=cc.out wr hI.sq;have ks2:=fun W h=>ks1.out W j r h hr
  have hbw:=Hd hI.sq.hb;have kp2:=fun W A' c' h1 h2=>kp1.out W j r A' c' h1 hr h2
  have kb2:=fun W A' c' h1 h2=>kb1.out W j r A' c' h1 hr h2
  have hap:=fun(v' v9:Value) W w1 (h:LI l A c q ⟨A1,c1,A2,c2,A3,c3⟩ (.slice (some ⟨b8,o8,none⟩) (rootsQ q).length c8) w W v9 j) hg hO=>h.app (w1:=w1) (vr':=v') hr hg hO
  have hlin:=fun h=>lin_root hc.out.symm hr hz.out h
  have hz2:rcC q r=0→∀i∈(rootsQ q).take (j+1),rcC q i=0:=fun h i hi=>by
   rw[zJ,hr]at hi;rcases zM.1 hi with h2 |h2
   ·exact hz.out i h2
   ·rw[Option.toList_some,xB]at h2;rw[h2];exact h
  have hrw:rowQ q r=⟨exT (pln q (subT q.wh r)),(homeP q (subT q.wh r)).1,(homeP q (subT q.wh r)).2⟩:=rfl;have hrc:rcC q r=exC (pln q (subT q.wh r)):=rfl;have hrb:(r:Int)=r:=rfl;have g0:(0:Int)≤(j:Int):=oQ;have g1:(j:Int)<(rootsQ q).length:=oQ;rw[hrw]at hap;rw[hrc]at hlin hz2;generalize subT q.wh r=t' at ks2 kp2 kb2 hap hlin hz2;replace ks2:=Hd ks2;replace kp2:=Hd kp2;replace kb2:=Hd kb2;replace hap:=Hd hap;replace hlin:=Hd hlin;replace hz2:=Hd hz2;replace hr:=Hd hr;have hIH:=Hd hI;clear hI hrw hrc hz hrb;go_upto_region 9 with fail
  go_cut [10] (fun v W=>OL W wr.drew.heap.size NoF 96 6 v t'.length (t'.flatMap ndD)∧Below wr.drew.heap.size wr.drew W)
  case first=>
   go_region_law ((go_simp;go_at_call 27;refine(ks2.out _ (by first|exact hbw.out |exact hbw.out.drew)).mono ?_;rintro e W1 ⟨vt,rfl,hTt,hX1⟩))
   all_goals(go_wp2;all_goals(go_meet;exact⟨hTt,hX1⟩))
  case rest=>
  obtain⟨hTt,hX1⟩:=hcut;clear u8 y0 y1 y2 y3 y4 y5 y6 ks2 hbw;obtain⟨At,ct,rfl⟩:=hTt.form;have hrt:=hTt.rd (G:=fun b=>b<wc.heap.size) (fun b h=>h.elim) (fun b _ h=>h);have hI1:=hIH.out.stay ((bR).drew.trans hX1);have kp3:=Hd (kp2.out wc At ct hI1.sq.hb hrt);obtain⟨y0,y1,y2,y3,y4,y5,y6⟩:=cc.out wc hI1.sq;replace hI1:=Hd hI1;replace hrt:=Hd hrt;clear hTt hX1 kp2 hIH;go_upto_region 11 with(go_at_call 28;refine kp3.out.mono ?_;rintro e W2 ⟨rfl,hX2⟩)
  have hI2:=hI1.out.stay hX2;have hrt2:=Hd ((hrt.out.under hX2 (fun b h=>h)).mono (G:=fun b=>b<W2.heap.size) (fun b h _=>zF h hX2.size));have kb3:=Hd (kb2.out W2 At ct hI2.sq.hb hrt2.out);clear y0 y1 y2 y3 y4 y5 y6;obtain⟨y0,y1,y2,y3,y4,y5,y6⟩:=cc.out W2 hI2.sq;have hes:Hid (exC (pln q t')=exC (pln q t')):=rfl;clear hrt hrt2 kb2 hI1 hX2 kp3;generalize exC (pln q t')=ec at hlin hz2 ⊢;generalize exT (pln q t')=et at hap ⊢;generalize homeP q t'=hm at hap kb3;by_cases hec:ec=0
  ·have f2:=bneF hec;have hz3:=Hd (hz2.out hec);subst hec;replace hI2:=Hd hI2;clear hlin hz2 hes;go_upto_region 14 with(go_at_call 29;refine kb3.out.mono ?_;rintro e W3 ⟨rfl,hX3⟩)
   have hI3:=hI2.out.stay hX3;have hB4:Bw W3 (W3.alloc (.cells ⟨rwV ⟨et,hm.1,hm.2⟩⟩ 69)):=bA;have hI4:=hI3.stay hB4;have hsr:=Src.at1 (w:=W3) (t:=69) (g:=W3.heap.size) rfl (show RdL W3 (fun b=>NoF b∧some b≠(Value.slice A7 j c7).ownBlock) (rwV ⟨et,hm.1,hm.2⟩) (rwD ⟨et,hm.1,hm.2⟩)from rdlRw _);have hs4:=hI4.sq.hb.size;simp only[rwV]at hI4 hsr hs4;replace hI3:=Hd hI3;replace hI4:=Hd hI4;replace hsr:=Hd hsr;clear hB4 hX3 hI2 y0 y1 y2 y3 y4 y5 y6 kb3;go_wp2_with (at_builtin;refine wpa rfl (.tmp 62) (.tmp 67) _ rfl (m:=1) (news:=rwD ⟨et,hm.1,hm.2⟩) elRw hI4.out.ol rfl rfl hsr.out rfl oQ oQ hs4 ?_;intro v' w1 hO2 hg2 _;obtain⟨B9,d9,rfl⟩:=hO2.form;have hI5:=Hd (hap.out _ _ _ w1 hI4.out hg2 hO2);clear hO2 hg2);go_roundw
   case rel=>exact⟨j+1,oQ,gQ,hI5.out,hz3.out⟩
   case measure=>exact mQ
  ·have f2:=bneT hec;have hfin:=Hd (fun(W:World)(hW:Bw w W)=>LnP.err (w':=W) (hlin.out hec) hec hW);have hbb:=Hd hI2.sq.hb;replace hec:=Hd hec;clear hI2 hap hz2 kb3 y0 y1 y2 y3 y4 y5 y6;go_wp2;refine bodyPost_ret (results_tmp2 rfl _ _ _) rfl ?_;first|exact hfin.out _ hbb.out |exact hfin.out _ hbb.out.drew |exact hfin.out _ (below_drewN hbb.out _)
 obtain rfl:j=(rootsQ q).length:=oQ;have g1:¬((rootsQ q).length:Int)<(rootsQ q).length:=oQ;have hz:∀i∈rootsQ q,rcC q i=0:=by
  have:=hz.out;rw[zL]at this;exact this
 have hRW:RwR wr w.heap.size (.slice A7 (rootsQ q).length c7) (rowsQ q):=by
  have h:=hI.ol;have e:RQ q (rootsQ q).length=rowsQ q:=by unfold RQ;rw[zL];rfl
  have e2:(rowsQ q).length=(rootsQ q).length:=by unfold rowsQ;rw[xC]
  rw[e,←e2]at h;have:=RwR.of h;rw[e2]at this;exact this
 have hS:=hI.sq;obtain⟨y0,y1,y2,y3,y4,y5,y6⟩:=cc.out wr hS;have km:=fun W=>mode_k q.mode W
 have kaf:=fun W=>after_k q.after W
 have kfi:∀W,Bw w W→Calls Tryz.prog 32 #[.int .i64 q.within,.int .i64 10] W (StP (itoaB q.within) W):=fun W h=>by
  have hb:=hok.out.wi;refine(Tryz.strconv_FormatInt_10 q.within oQ oQ W (hT.stay h).pw).mono ?_;rintro e w' ⟨rfl,k,os,rfl⟩;exact⟨rfl,below_grown W k os⟩
 have zm:=modW_size q.mode;have za:=aftW_size q.after;have zi:=itoaB_size q.within (by have:=hok.out.wi;omega) (by have:=hok.out.wi;omega);have zk:=keyT_size hs.by_;have hH:=headL_eq q;obtain⟨K,hK⟩:∃K,K=keyT q:=⟨_,rfl⟩
 rw[←hK]at hH zk;unfold keyT at hK;generalize modW q.mode=M at km zm hH;generalize aftW q.after=AF at kaf za hH;generalize itoaB q.within=I at kfi zi hH;have hbw:=Hd hS.hb;replace hS:=Hd hS;replace hRW:=Hd hRW;replace hz:=Hd hz;replace km:=Hd km;replace kaf:=Hd kaf;replace kfi:=Hd kfi;replace hH:=Hd hH;replace hK:=Hd hK;clear hI ks1 kp1 kb1;go_upto_region 16 with fail
 go_cut [72] (fun v W=>v=.bool (decide (q.by_=emp))∧W=wr)
 case first=>
  go_wp2;go_meet;exact⟨by rw[emp_b],rfl⟩
 case rest=>
 obtain⟨rfl,hwc⟩:=hcut;obtain rfl:=hwc.symm;clear hwc;rename_i K2 hK2;refine hK2 _ _ ?_;clear hK2 K2;go_cut [15] (fun v W=>v=.string K∧W=wr)
 case first=>
  by_cases h:q.by_=emp
  ·have hd:=hK.out;rw[if_pos h]at hd;have h3:=zW h;replace h:=Hd h;generalize decide (q.by_=emp)=bb at h3;subst h3;go_wp2;go_meet;exact⟨by rw[hd];rfl,rfl⟩
  ·have hd:=hK.out;rw[if_neg h]at hd;have h3:=zV h;replace h:=Hd h;generalize decide (q.by_=emp)=bb at h3;subst h3;go_wp2;go_meet;exact⟨by rw[hd],rfl⟩
 case rest=>
 obtain⟨rfl,hwc⟩:=hcut;obtain rfl:=hwc.symm;clear hwc;have s1:¬9223372036854775807<5+M.size:=oQ;have s2:¬9223372036854775807<5+M.size+7:=oQ;have s3:¬9223372036854775807<5+M.size+7+AF.size:=oQ;have s4:¬9223372036854775807<5+M.size+7+AF.size+8:=oQ;have s5:¬9223372036854775807<5+M.size+7+AF.size+8+I.size:=oQ;have s6:¬9223372036854775807<5+M.size+7+AF.size+8+I.size+5:=oQ;have s7:¬9223372036854775807<5+M.size+7+AF.size+8+I.size+5+K.size:=oQ;go_upto_region 18 with fail
 go_cut [16] (fun v W=>OL W w.heap.size NoF 9 1 v 1 (strD (headL q))∧Bw wr W)
 case first=>
  have hSI:=Hd (fun W (h:Bw wr W)=>(show W.cell? ⟨w.heap.size+1,1,none⟩=some (.int .i64 q.mode)∧W.cell? ⟨w.heap.size+1,2,none⟩=some (.int .i64 q.after)∧W.cell? ⟨w.heap.size+1,4,none⟩=some (.int .i64 q.within)from by
   obtain⟨_,e1,e2,_,e4,_,_⟩:=cc.out W (hS.out.stay h);exact⟨e1,e2,e4⟩))
  have hSS:=xW (hSI.out wr.drew ((bR).drew)) trivial;obtain⟨T8,hT8⟩:∃T,T=(⟨#[109,111,100,101,32]⟩++M++⟨#[32,97,102,116,101,114,32]⟩++AF:ByteArray):=⟨_,rfl⟩
  obtain⟨HD,hHD⟩:∃T,T=(T8++⟨#[32,119,105,110,100,111,119,32]⟩++I++⟨#[32,107,101,121,32]⟩++K:ByteArray):=⟨_,rfl⟩
  have q1:(⟨#[109,111,100,101,32]⟩:ByteArray).size=5:=rfl;have q2:(⟨#[32,97,102,116,101,114,32]⟩:ByteArray).size=7:=rfl;have q3:(⟨#[32,119,105,110,100,111,119,32]⟩:ByteArray).size=8:=rfl;have q4:(⟨#[32,107,101,121,32]⟩:ByteArray).size=5:=rfl;have hT8z:T8.size≤100:=by rw[hT8];simp only[ByteArray.size_append,q1,q2];omega
  replace hT8:=Hd hT8;replace hHD:=Hd hHD;clear y0 y1 y2 y3 y4 y5 y6 s1 s2 s3 s4 s5 s6 s7;refine G_region (p:=100) (S0:=fun W=>W.cell? ⟨w.heap.size+1,1,none⟩=some (.int .i64 q.mode)∧W.cell? ⟨w.heap.size+1,2,none⟩=some (.int .i64 q.after)∧W.cell? ⟨w.heap.size+1,4,none⟩=some (.int .i64 q.within)) (S1:=fun _=>True) kQ ?_;refine' TkB 0 rfl hSS ?_;try go_simp
  refine' TkB 1 rfl hSS ?_;try go_simp
  refine' TkB 5 rfl hSS ?_;try go_simp
  refine' TkB 6 rfl hSS ?_;try go_simp
  refine' TkB 10 rfl hSS ?_;try go_simp
  refine' TkB 11 rfl hSS ?_;try go_simp
  refine' TkB 15 rfl hSS ?_;try go_simp
  refine G_some (m:=2) [(2,75),(3,76),(4,77),(7,80),(8,81),(9,82),(12,85),(13,86),(14,87),(16,89)] (fun k=>match k with |2=>.string M |3=>.string (⟨#[109,111,100,101,32]⟩++M)|4=>.string (⟨#[109,111,100,101,32]⟩++M++⟨#[32,97,102,116,101,114,32]⟩)|7=>.string AF |8=>.string T8 |9=>.string (T8++⟨#[32,119,105,110,100,111,119,32]⟩)|12=>.string I |13=>.string (T8++⟨#[32,119,105,110,100,111,119,32]⟩++I)|14=>.string (T8++⟨#[32,119,105,110,100,111,119,32]⟩++I++⟨#[32,107,101,121,32]⟩)|16=>.string HD |_=>undef) (fun W=>Bw wr W) kQ kQ kQ (fun W h=>⟨hSI.out W h,trivial⟩) ((bR).drew) ?Ha ?Ea
  case Ha=>
   intro p hp;simp only[List.mem_cons,List.not_mem_nil,or_false]at hp;rcases hp with rfl |rfl |rfl |rfl |rfl |rfl |rfl |rfl |rfl |rfl
   ·(intro o ho b W hW hag hT K hK;obtain rfl:_=o:=zq9 ho;exact⟨by rfl,op_c [(74,.int .i64 q.mode)] 30 #[.int .i64 q.mode] (fun p hp=>by simp only[List.mem_cons,List.not_mem_nil,or_false]at hp;rcases hp with rfl;exact hag 74 dQ) kQ (km.out W) (fun e w' h=>by obtain⟨rfl,hX⟩:=h;exact⟨_,rfl,hK.out _ (by rw[hX];exact hW)⟩)⟩)
   ·(intro o ho b W hW hag hT K hK;obtain rfl:_=o:=zq9 ho;exact⟨by rfl,op_cat _ (.tmp 75) _ _ rfl rfl (hT (2,75) dQ kQ) (by simp only[ByteArray.size_append,q1,q2,q3,q4];omega) (rfl) (hK.out _ hW)⟩)
   ·(intro o ho b W hW hag hT K hK;obtain rfl:_=o:=zq9 ho;exact⟨by rfl,op_cat (.tmp 76) _ _ _ rfl (hT (3,76) dQ kQ) rfl (by simp only[ByteArray.size_append,q1,q2,q3,q4];omega) (rfl) (hK.out _ hW)⟩)
   ·(intro o ho b W hW hag hT K hK;obtain rfl:_=o:=zq9 ho;exact⟨by rfl,op_c [(79,.int .i64 q.after)] 31 #[.int .i64 q.after] (fun p hp=>by simp only[List.mem_cons,List.not_mem_nil,or_false]at hp;rcases hp with rfl;exact hag 79 dQ) kQ (kaf.out W) (fun e w' h=>by obtain⟨rfl,hX⟩:=h;exact⟨_,rfl,hK.out _ (by rw[hX];exact hW)⟩)⟩)
   ·(intro o ho b W hW hag hT K hK;obtain rfl:_=o:=zq9 ho;exact⟨by rfl,op_cat (.tmp 77) (.tmp 80) _ _ rfl (hT (4,77) dQ kQ) (hT (7,80) dQ kQ) (by simp only[ByteArray.size_append,q1,q2,q3,q4];omega) (hT8.out.symm) (hK.out _ hW)⟩)
   ·(intro o ho b W hW hag hT K hK;obtain rfl:_=o:=zq9 ho;exact⟨by rfl,op_cat (.tmp 81) _ _ _ rfl (hT (8,81) dQ kQ) rfl (by simp only[ByteArray.size_append,q1,q2,q3,q4];omega) (rfl) (hK.out _ hW)⟩)
   ·(intro o ho b W hW hag hT K hK;obtain rfl:_=o:=zq9 ho;exact⟨by rfl,op_c [(84,.int .i64 q.within)] 32 #[.int .i64 q.within,.int .i64 10] (fun p hp=>by simp only[List.mem_cons,List.not_mem_nil,or_false]at hp;rcases hp with rfl;exact hag 84 dQ) kQ (kfi.out W (hbw.out.trans (hW.mono hbw.out.size))) (fun e w' h=>by obtain⟨rfl,hX⟩:=h;exact⟨_,rfl,hK.out _ (hW.trans (hX.mono hW.size))⟩)⟩)
   ·(intro o ho b W hW hag hT K hK;obtain rfl:_=o:=zq9 ho;exact⟨by rfl,op_cat (.tmp 82) (.tmp 85) _ _ rfl (hT (9,82) dQ kQ) (hT (12,85) dQ kQ) (by simp only[ByteArray.size_append,q1,q2,q3,q4];omega) (rfl) (hK.out _ hW)⟩)
   ·(intro o ho b W hW hag hT K hK;obtain rfl:_=o:=zq9 ho;exact⟨by rfl,op_cat (.tmp 86) _ _ _ rfl (hT (13,86) dQ kQ) rfl (by simp only[ByteArray.size_append,q1,q2,q3,q4];omega) (rfl) (hK.out _ hW)⟩)
   ·(intro o ho b W hW hag hT K hK;obtain rfl:_=o:=zq9 ho;exact⟨by rfl,op_cat (.tmp 87) (.tmp 88) _ _ rfl (hT (14,87) dQ kQ) (hag 88 dQ) (by simp only[ByteArray.size_append,q1,q2,q3,q4];omega) (hHD.out.symm) (hK.out _ hW)⟩)
  case Ea=>
   intro W hW;have hb2:=hbw.out.trans (hW.mono hbw.out.size);have hnw:OL (W.alloc (.cells ⟨[.string HD]⟩ 9)) w.heap.size NoF 9 1 (.slice (some ⟨W.heap.size,0,none⟩) 1 1) 1 (strD HD):=by
    refine OL.of_blk hb2.size (Blk.new _ _ _) nR dQ rfl rfl fun k d hd=>?_
    rcases k with _ |k
    ·injection hd with hd;subst hd;exact⟨_,rfl,.v _ rfl⟩
    ·cases hd
   have hB3:Bw wr (W.alloc (.cells ⟨[.string HD]⟩ 9)):=hW.alloc hW.size _;have hSI3:=hSI.out _ hB3;have hfin:=Hd (show HD=headL q by rw[hHD.out,hT8.out,hH.out]);simp only[upP,putP,List.foldl];try go_simp
   refine G_step (k:=17) kQ rfl (fun K' hK'=>?_);go_simp;refine hK'.out _ _ ⟨hSI3,fun _=>trivial⟩ ?_;refine G_step (k:=18) kQ rfl (fun K' hK'=>?_);go_simp;refine hK'.out _ _ ⟨hSI3,fun _=>trivial⟩ ?_;refine Gd _ ?_;replace hnw:=Hd hnw;replace hB3:=Hd hB3;go_wp2;go_meet;exact⟨by rw[←hfin.out];exact hnw.out,hB3.out⟩
 case rest=>
 obtain⟨hO1,hX1⟩:=hcut;have hI0:LI2 l A c q ⟨A1,c1,A2,c2,A3,c3⟩ (.slice A7 (rootsQ q).length c7) w wc u16 (L2 q 0):=⟨hS.out.stay hX1,hRW.out.kps (Kps.of hX1),by
  have:L2 q 0=[headL q]:=by unfold L2;rw[List.take_zero];rfl
  rw[this];simpa using hO1⟩
 obtain⟨A6,c6,rfl⟩:=hI0.ol.form;have hin:=hok.out.il;have hRl:(rowsQ q).length≤1048576:=by unfold rowsQ;rw[xC];exact hrl'
 have hRz:∀r∈rowsQ q,r.tx.size≤1048576:=fun r hr=>by
  unfold rowsQ at hr;obtain⟨i,hi,rfl⟩:=List.mem_map.1 hr;obtain⟨j,hj⟩:=zN hi;obtain⟨hne,ht,b,hsp,e,_⟩:=conj_at hok.out hj;have hil:q.items.length≤1048576:=hs.il;have h1:=(pln_ok (q:=q) hil (subL_sz hsp hs.wh) (ndok_sub (nd_ok ht hmw))).2;have h2:=exT_size h1;show(exT (pln q (subT q.wh i))).size≤_
  rw[e];omega
 have kl:=fun(v:Value)(L:List ByteArray)(k:Int)(o:Bool)(h:ByteArray) W (hW:LI2 l A c q ⟨A1,c1,A2,c2,A3,c3⟩ (.slice A7 (rootsQ q).length c7) w W v L)(hL:L.length≤33554432)(hh:h.size≤1048576)=>
  lay_k w.heap.size v (.slice A7 (rootsQ q).length c7) L (rowsQ q) k o h W hW.sq.hb.size hL hRl hRz hh hW.ol hW.rw_
 have ki:∀(n:Int) W,Bw w W→ -9223372036854775808≤n→n≤9223372036854775807→Calls Tryz.prog 33 #[.int .i64 n] W (StP (itoaB n) W):=fun n W h h1 h2=>by
  refine(Tryz.strconv_Itoa n h1 h2 W (hT.stay h).pw).mono ?_;rintro e w' ⟨rfl,k,os,rfl⟩;exact⟨rfl,below_grown W k os⟩
 have kt:∀(x:It)(A':Option Addr)(c':Nat) W,x∈q.items→Bw w W→Rd W F (.slice A' x.tys.length c') (.sl x.tys.length (x.tys.flatMap strD))→Calls Tryz.prog 34 #[.agg ⟨itV x (.slice A' x.tys.length c')⟩] W (StP (tysT x) W):=fun x A' c' W hx hW hr=>
  types_k x A' c' F W (hs.it x hx).1.1 (fun y hy=>by have:=hok.out.ty x hx y hy;omega) (R.under hW).lt hr
 replace hI0:=Hd hI0;replace kl:=Hd kl;replace ki:=Hd ki;replace kt:=Hd kt;replace hRz:=Hd hRz;clear hO1 hX1 hRW hS km kaf kfi zm za zi zk hH hK hbw y0 y1 y2 y3 y4 y5 y6 s1 s2 s3 s4 s5 s6 s7;go_wp2;go_loopw [16,17,18] (fun v n i wr=>LnR2 l A c q ⟨A1,c1,A2,c2,A3,c3⟩ (.slice A7 (rootsQ q).length c7) w v n i wr) (fun _ _ i _=>q.items.length- (intOf i).toNat)
 case atStart=>exact⟨0,zE _,rfl,rfl,hI0.out⟩
 case round=>
 clear hI0;obtain⟨j,hj,rfl,rfl,hI⟩:=hrel;obtain⟨A5,c5,rfl⟩:=hI.ol.form;by_cases hlt:j<q.items.length
 ·obtain⟨x,hx⟩:=getx hlt;obtain⟨gi,off,At,ct,rfl,hFi,hrt,a0,a1,a2,a3,a4⟩:=it_at ((R.under hI.sq.hb).r1) hx;have g0:(0:Int)≤(j:Int):=oQ;have g1:(j:Int)<q.items.length:=oQ;obtain⟨y0,y1,y2,y3,y4,y5,y6⟩:=cc.out wr hI.sq;have hB1:Bw wr (wr.alloc (.cells ⟨itV x (.slice At x.tys.length ct)⟩ 53)):=bA;have hI1:=hI.stay hB1;have hbi:Blk (wr.alloc (.cells ⟨itV x (.slice At x.tys.length ct)⟩ 53)) wr.heap.size 53 (itV x (.slice At x.tys.length ct)):=Blk.new _ _ _;obtain⟨ng,tys,vv,lo,hi⟩:=x;simp only[itV]at hB1 hI1 hbi;simp only at hrt a0 a1 a2 a3 a4;obtain⟨W0',hW0'⟩:∃W0',W0'=wr.alloc (.cells ⟨[.bool ng,.slice At tys.length ct,.string vv,.int .i64 lo,.int .i64 hi]⟩ 53):=⟨_,rfl⟩
  rw[←hW0']at hB1 hI1 hbi;have hIH:=Hd hI;clear hI;go_upto_region 24 with fail
  rw[←hW0'];have hbi':=Hd hbi;have hxm:=zA hx;have hnt:=hok.out.nt _ hxm;have htz:=tysT_size (hok.out.ty _ hxm);have hcn1:=cmpN_next hx;have hng:=cmp_ng q j oQ;have hjz:(tysT ⟨ng,tys,vv,lo,hi⟩).size≤17825792:=by have:=(hs.it _ hxm).1.1;simp only at this htz;omega
  have kT:∀W,Bw W0' W→Calls Tryz.prog 34 #[.agg ⟨itV ⟨ng,tys,vv,lo,hi⟩ (.slice At tys.length ct)⟩] W (StP (tysT ⟨ng,tys,vv,lo,hi⟩) W):=fun W hW=>
   kt.out ⟨ng,tys,vv,lo,hi⟩ At ct W hxm (hI1.sq.hb.trans (hW.mono hI1.sq.hb.size)) ((hrt.under hB1 (R.under hIH.out.sq.hb).lt).under hW (fun b hb=>zF ((R.under hIH.out.sq.hb).lt b hb) hB1.size))
  have kI:∀(n:Int),-9223372036854775808≤n→n≤9223372036854775807→∀W,Bw W0' W→Calls Tryz.prog 33 #[.int .i64 n] W (StP (itoaB n) W):=fun n h1 h2 W hW=>ki.out n W (hI1.sq.hb.trans (hW.mono hI1.sq.hb.size)) h1 h2
  have hLL:=L2_len (q:=q) j oQ hin hRl;have hnx:=L2_next hx;obtain⟨gI,hgI⟩:∃gI,gI=wr.heap.size:=⟨_,rfl⟩
  rw[←hgI]at hbi ⊢;clear hgI;have b0:=hbi.cell 0;simp only[zY]at b0;simp only at hnt hcn1;have hI1':=Hd hI1;replace hbi:=Hd hbi;replace kT:=Hd kT;replace kI:=Hd kI;replace hnx:=Hd hnx;replace hx:=Hd hx;replace hxm:=Hd hxm;replace hrt:=Hd hrt;clear hI1 hIH hB1 hW0' hbi' y0 y1 y2 y3 y4 y5 y6 a0 a1 a2 a3 a4 htz;have hI1:=hI1';clear hI1';obtain⟨W0x,hW0x⟩:∃W0x:World,W0x=W0':=⟨_,rfl⟩
  subst hW0x;go_cut [104] (fun v W=>v=.bool ng∧W=W0x)
  case first=>
   go_wp2;go_meet;exact⟨rfl,rfl⟩
  case rest=>
  obtain⟨rfl,hwc⟩:=hcut;obtain rfl:=hwc.symm;clear hwc;rename_i K2 hK2;refine hK2 _ _ ?_;clear hK2 K2;go_cut [16,17] (fun v n W=>LI2 l A c q ⟨some ⟨gi,off,none⟩,c1,A2,c2,A3,c3⟩ (.slice A7 (rootsQ q).length c7) w W v (L2 q j++[itemL q j ⟨ng,tys,vv,lo,hi⟩])∧n=.int .i64 (cmpN q (j+1)))
  case first=>
   have hSI:=Hd (fun W (h:Blk W gI 53 [.bool ng,.slice At tys.length ct,.string vv,.int .i64 lo,.int .i64 hi])=>(show W.cell? ⟨gI,0,none⟩=some (.bool ng)∧W.cell? ⟨gI,1,none⟩=some (.slice At tys.length ct)∧W.cell? ⟨gI,2,none⟩=some (.string vv)∧W.cell? ⟨gI,3,none⟩=some (.int .i64 lo)∧W.cell? ⟨gI,4,none⟩=some (.int .i64 hi)from
    ⟨h.cell 0,h.cell 1,h.cell 2,h.cell 3,h.cell 4⟩))
   have hSS:=xW (hSI.out W0x.drew (hbi.out.stay (bR).drew)) trivial;have hw1:IntKind.i64.wrap ((j:Int) - (cmpN q j:Int))=(ngN q j:Int):=by rw[xI]<;>omega
   have hw2:IntKind.i64.wrap ((cmpN q j:Int)+1)=((cmpN q j+1:Nat):Int):=by rw[xI]<;>omega
   have q1:(⟨#[110,101,103,97,116,101,100,32]⟩:ByteArray).size=8:=rfl;have q2:(⟨#[32]⟩:ByteArray).size=1:=rfl;have q3:(⟨#[99,111,109,112,111,110,101,110,116,32]⟩:ByteArray).size=10:=rfl;obtain⟨LN,hLN⟩:∃LN,LN=itemL q j ⟨ng,tys,vv,lo,hi⟩:=⟨_,rfl⟩
   cases ng with
   |true=>
    have hcn:cmpN q (j+1)=cmpN q j:=(by rw[hcn1];rfl);have zI:=itoaB_size (ngN q j:Nat) oQ oQ;have hLN2:⟨#[110,101,103,97,116,101,100,32]⟩++itoaB (ngN q j:Nat)++⟨#[32]⟩++tysT ⟨true,tys,vv,lo,hi⟩=LN:=hLN.symm;replace kI:=Hd (kI.out (ngN q j:Nat) oQ oQ);generalize itoaB (ngN q j:Nat)=I at*;generalize tysT ⟨true,tys,vv,lo,hi⟩=T at*;replace hLN:=Hd hLN;replace hLN2:=Hd hLN2;replace hcn1:=Hd hcn1;go_upto_region 25 with fail
    refine G_region (p:=100) (S0:=fun W=>W.cell? ⟨gI,0,none⟩=some (.bool true)∧W.cell? ⟨gI,1,none⟩=some (.slice At tys.length ct)∧W.cell? ⟨gI,2,none⟩=some (.string vv)∧W.cell? ⟨gI,3,none⟩=some (.int .i64 lo)∧W.cell? ⟨gI,4,none⟩=some (.int .i64 hi)) (S1:=fun _=>True) kQ ?_;refine' TkB 0 rfl hSS ?_;try go_simp
    refine' TkB 1 rfl hSS ?_;try go_simp
    refine' TkB 2 rfl hSS ?_;try go_simp
    refine' TkB 3 rfl hSS ?_;try go_simp
    refine' TkB 7 rfl hSS ?_;try go_simp
    refine G_some (m:=3) [(4,109),(5,110),(6,111),(8,113),(9,114)] (fun k=>match k with |4=>.string I |5=>.string (⟨#[110,101,103,97,116,101,100,32]⟩++I)|6=>.string (⟨#[110,101,103,97,116,101,100,32]⟩++I++⟨#[32]⟩)|8=>.string T |9=>.string LN |_=>undef) (fun W=>Bw W0x W) kQ kQ kQ (fun W h=>⟨hSI.out W (hbi.out.stay h),trivial⟩) (bR).drew ?Hb ?Eb
    case Hb=>
     intro p hp;simp only[List.mem_cons,List.not_mem_nil,or_false]at hp;rcases hp with rfl |rfl |rfl |rfl |rfl
     ·(intro o ho b W hW hag hT K hK;obtain rfl:_=o:=zq9 ho;exact⟨by rfl,op_c [(108,.int .i64 (ngN q j:Nat))] 33 #[.int .i64 (ngN q j:Nat)] (fun p hp=>by simp only[List.mem_cons,List.not_mem_nil,or_false]at hp;rcases hp with rfl;exact hag 108 dQ) kQ (kI.out W hW) (fun e w' h=>by obtain⟨rfl,hX⟩:=h;exact⟨_,rfl,hK.out _ (hW.trans (hX.mono hW.size))⟩)⟩)
     ·(intro o ho b W hW hag hT K hK;obtain rfl:_=o:=zq9 ho;exact⟨by rfl,op_cat _ (.tmp 109) _ _ rfl rfl (hT (4,109) dQ kQ) (by simp only[ByteArray.size_append,q1,q2,q3];omega) (rfl) (hK.out _ hW)⟩)
     ·(intro o ho b W hW hag hT K hK;obtain rfl:_=o:=zq9 ho;exact⟨by rfl,op_cat (.tmp 110) _ _ _ rfl (hT (5,110) dQ kQ) rfl (by simp only[ByteArray.size_append,q1,q2,q3];omega) (rfl) (hK.out _ hW)⟩)
     ·(intro o ho b W hW hag hT K hK;obtain rfl:_=o:=zq9 ho;exact⟨by rfl,op_c [(112,.agg ⟨itV ⟨true,tys,vv,lo,hi⟩ (.slice At tys.length ct)⟩)] 34 #[.agg ⟨itV ⟨true,tys,vv,lo,hi⟩ (.slice At tys.length ct)⟩] (fun p hp=>by simp only[List.mem_cons,List.not_mem_nil,or_false]at hp;rcases hp with rfl;exact hag 112 dQ) kQ (kT.out W hW) (fun e w' h=>by obtain⟨rfl,hX⟩:=h;exact⟨_,rfl,hK.out _ (hW.trans (hX.mono hW.size))⟩)⟩)
     ·(intro o ho b W hW hag hT K hK;obtain rfl:_=o:=zq9 ho;exact⟨by rfl,op_cat (.tmp 111) (.tmp 113) _ _ rfl (hT (6,111) dQ kQ) (hT (8,113) dQ kQ) (by simp only[ByteArray.size_append,q1,q2,q3];omega) (hLN2.out) (hK.out _ hW)⟩)
    case Eb=>
     intro W hW;have hIW:=hI1.out.stay hW;have hBa:Bw W (W.alloc (.cells ⟨[.string LN]⟩ 9)):=bA;have hIa:=Hd (hIW.stay hBa);have hba:=Hd ((hbi.out.stay hW).stay hBa);have hsr:=Hd (SrcLit (w:=W) (t:=9) (G:=fun b=>NoF b∧some b≠(Value.slice A5 (L2 q j).length c5).ownBlock) rfl (show RdL W (fun b=>NoF b∧some b≠(Value.slice A5 (L2 q j).length c5).ownBlock) [.string LN] (strD LN)from⟨.v _ rfl,trivial⟩));have hsz:=hIa.out.sq.hb.size;have hSa:=hSI.out _ hba.out;clear hIW hBa;simp only[upP,putP,List.foldl];try go_simp
     refine G_step (k:=10) kQ rfl (fun K' hK'=>?_);go_simp;refine hK'.out _ _ ⟨hSa,fun _=>trivial⟩ ?_;clear hK' K';refine G_step (k:=11) kQ rfl (fun K' hK'=>?_);refine step_app (by rfl) (.tmp 105) (.tmp 115) _ (by rfl) (m:=1) (news:=strD LN) elStr (by exact hIa.out.ol) (by rfl) (by rfl) (by exact hsr.out) rfl oQ oQ (by exact hsz) ?_;intro v' w1 hO2 hg2 _;have hI2:=Hd (hIa.out.app hg2 hO2);have hb2:=hba.out.grown hg2 (fun e=>hIa.out.ol.neBlk hba.out dQ e.symm);have hS2:=hSI.out _ hb2;clear hO2 hg2 hb2;refine hK'.out _ _ ⟨hS2,fun _=>trivial⟩ ?_;clear hK' K';try go_simp
     refine G_step (k:=12) kQ rfl (fun K' hK'=>?_);go_simp;refine hK'.out _ _ ⟨hS2,fun _=>trivial⟩ ?_;clear hK' K';refine Gd _ ?_;go_wp2;go_meet;exact⟨by rw[←hLN.out];exact hI2.out,by rw[hcn]⟩
   |false=>
    have hcn:cmpN q (j+1)=cmpN q j+1:=(by rw[hcn1];rfl);have zI:=itoaB_size (cmpN q j:Nat) oQ oQ;have zL:=itoaB_size lo oQ oQ;have zH:=itoaB_size hi oQ oQ;obtain⟨T2,hT2⟩:∃T2,T2=⟨#[99,111,109,112,111,110,101,110,116,32]⟩++itoaB (cmpN q j:Nat)++⟨#[32]⟩++tysT ⟨false,tys,vv,lo,hi⟩:=⟨_,rfl⟩
    have hLN2:T2++⟨#[32]⟩++itoaB lo++⟨#[32]⟩++itoaB hi=LN:=(by rw[hT2];exact hLN.symm);have zT2:T2.size≤17825900:=by rw[hT2];simp only[ByteArray.size_append,q2,q3];omega
    replace hT2:=Hd hT2.symm;have kIL:=Hd (kI.out lo oQ oQ);have kIH:=Hd (kI.out hi oQ oQ);replace kI:=Hd (kI.out (cmpN q j:Nat) oQ oQ);generalize itoaB (cmpN q j:Nat)=I at*;generalize itoaB lo=IL at*;generalize itoaB hi=IH at*;generalize tysT ⟨false,tys,vv,lo,hi⟩=T at*;replace hLN:=Hd hLN;replace hLN2:=Hd hLN2;replace hcn1:=Hd hcn1;go_upto_region 26 with fail
    refine G_region (p:=100) (S0:=fun W=>W.cell? ⟨gI,0,none⟩=some (.bool false)∧W.cell? ⟨gI,1,none⟩=some (.slice At tys.length ct)∧W.cell? ⟨gI,2,none⟩=some (.string vv)∧W.cell? ⟨gI,3,none⟩=some (.int .i64 lo)∧W.cell? ⟨gI,4,none⟩=some (.int .i64 hi)) (S1:=fun _=>True) kQ ?_;refine' TkB 0 rfl hSS ?_;try go_simp
    refine' TkB 1 rfl hSS ?_;try go_simp
    refine' TkB 5 rfl hSS ?_;try go_simp
    refine' TkB 9 rfl hSS ?_;try go_simp
    refine' TkB 10 rfl hSS ?_;try go_simp
    refine' TkB 14 rfl hSS ?_;try go_simp
    refine' TkB 15 rfl hSS ?_;try go_simp
    refine G_some (m:=3) [(2,119),(3,120),(4,121),(6,123),(7,124),(8,125),(11,128),(12,129),(13,130),(16,133),(17,134)] (fun k=>match k with |2=>.string I |3=>.string (⟨#[99,111,109,112,111,110,101,110,116,32]⟩++I)|4=>.string (⟨#[99,111,109,112,111,110,101,110,116,32]⟩++I++⟨#[32]⟩)|6=>.string T |7=>.string T2 |8=>.string (T2++⟨#[32]⟩)|11=>.string IL |12=>.string (T2++⟨#[32]⟩++IL)|13=>.string (T2++⟨#[32]⟩++IL++⟨#[32]⟩)|16=>.string IH |17=>.string LN |_=>undef) (fun W=>Bw W0x W) kQ kQ kQ (fun W h=>⟨hSI.out W (hbi.out.stay h),trivial⟩) (bR).drew ?Hc ?Ec
    case Hc=>
     intro p hp;simp only[List.mem_cons,List.not_mem_nil,or_false]at hp;rcases hp with rfl |rfl |rfl |rfl |rfl |rfl |rfl |rfl |rfl |rfl |rfl
     ·(intro o ho b W hW hag hT K hK;obtain rfl:_=o:=zq9 ho;exact⟨by rfl,op_c [(118,.int .i64 (cmpN q j:Nat))] 33 #[.int .i64 (cmpN q j:Nat)] (fun p hp=>by simp only[List.mem_cons,List.not_mem_nil,or_false]at hp;rcases hp with rfl;exact hag 118 dQ) kQ (kI.out W hW) (fun e w' h=>by obtain⟨rfl,hX⟩:=h;exact⟨_,rfl,hK.out _ (hW.trans (hX.mono hW.size))⟩)⟩)
     ·(intro o ho b W hW hag hT K hK;obtain rfl:_=o:=zq9 ho;exact⟨by rfl,op_cat _ (.tmp 119) _ _ rfl rfl (hT (2,119) dQ kQ) (by simp only[ByteArray.size_append,q1,q2,q3];omega) (rfl) (hK.out _ hW)⟩)
     ·(intro o ho b W hW hag hT K hK;obtain rfl:_=o:=zq9 ho;exact⟨by rfl,op_cat (.tmp 120) _ _ _ rfl (hT (3,120) dQ kQ) rfl (by simp only[ByteArray.size_append,q1,q2,q3];omega) (rfl) (hK.out _ hW)⟩)
     ·(intro o ho b W hW hag hT K hK;obtain rfl:_=o:=zq9 ho;exact⟨by rfl,op_c [(122,.agg ⟨itV ⟨false,tys,vv,lo,hi⟩ (.slice At tys.length ct)⟩)] 34 #[.agg ⟨itV ⟨false,tys,vv,lo,hi⟩ (.slice At tys.length ct)⟩] (fun p hp=>by simp only[List.mem_cons,List.not_mem_nil,or_false]at hp;rcases hp with rfl;exact hag 122 dQ) kQ (kT.out W hW) (fun e w' h=>by obtain⟨rfl,hX⟩:=h;exact⟨_,rfl,hK.out _ (hW.trans (hX.mono hW.size))⟩)⟩)
     ·(intro o ho b W hW hag hT K hK;obtain rfl:_=o:=zq9 ho;exact⟨by rfl,op_cat (.tmp 121) (.tmp 123) _ _ rfl (hT (4,121) dQ kQ) (hT (6,123) dQ kQ) (by simp only[ByteArray.size_append,q1,q2,q3];omega) (hT2.out) (hK.out _ hW)⟩)
     ·(intro o ho b W hW hag hT K hK;obtain rfl:_=o:=zq9 ho;exact⟨by rfl,op_cat (.tmp 124) _ _ _ rfl (hT (7,124) dQ kQ) rfl (by simp only[ByteArray.size_append,q1,q2,q3];omega) (rfl) (hK.out _ hW)⟩)
     ·(intro o ho b W hW hag hT K hK;obtain rfl:_=o:=zq9 ho;exact⟨by rfl,op_c [(127,.int .i64 lo)] 33 #[.int .i64 lo] (fun p hp=>by simp only[List.mem_cons,List.not_mem_nil,or_false]at hp;rcases hp with rfl;exact hag 127 dQ) kQ (kIL.out W hW) (fun e w' h=>by obtain⟨rfl,hX⟩:=h;exact⟨_,rfl,hK.out _ (hW.trans (hX.mono hW.size))⟩)⟩)
     ·(intro o ho b W hW hag hT K hK;obtain rfl:_=o:=zq9 ho;exact⟨by rfl,op_cat (.tmp 125) (.tmp 128) _ _ rfl (hT (8,125) dQ kQ) (hT (11,128) dQ kQ) (by simp only[ByteArray.size_append,q1,q2,q3];omega) (rfl) (hK.out _ hW)⟩)
     ·(intro o ho b W hW hag hT K hK;obtain rfl:_=o:=zq9 ho;exact⟨by rfl,op_cat (.tmp 129) _ _ _ rfl (hT (12,129) dQ kQ) rfl (by simp only[ByteArray.size_append,q1,q2,q3];omega) (rfl) (hK.out _ hW)⟩)
     ·(intro o ho b W hW hag hT K hK;obtain rfl:_=o:=zq9 ho;exact⟨by rfl,op_c [(132,.int .i64 hi)] 33 #[.int .i64 hi] (fun p hp=>by simp only[List.mem_cons,List.not_mem_nil,or_false]at hp;rcases hp with rfl;exact hag 132 dQ) kQ (kIH.out W hW) (fun e w' h=>by obtain⟨rfl,hX⟩:=h;exact⟨_,rfl,hK.out _ (hW.trans (hX.mono hW.size))⟩)⟩)
     ·(intro o ho b W hW hag hT K hK;obtain rfl:_=o:=zq9 ho;exact⟨by rfl,op_cat (.tmp 130) (.tmp 133) _ _ rfl (hT (13,130) dQ kQ) (hT (16,133) dQ kQ) (by simp only[ByteArray.size_append,q1,q2,q3];omega) (hLN2.out) (hK.out _ hW)⟩)
    case Ec=>
     intro W hW;have hIW:=hI1.out.stay hW;have hBa:Bw W (W.alloc (.cells ⟨[.string LN]⟩ 9)):=bA;have hIa:=Hd (hIW.stay hBa);have hba:=Hd ((hbi.out.stay hW).stay hBa);have hsr:=Hd (SrcLit (w:=W) (t:=9) (G:=fun b=>NoF b∧some b≠(Value.slice A5 (L2 q j).length c5).ownBlock) rfl (show RdL W (fun b=>NoF b∧some b≠(Value.slice A5 (L2 q j).length c5).ownBlock) [.string LN] (strD LN)from⟨.v _ rfl,trivial⟩));have hsz:=hIa.out.sq.hb.size;have hSa:=hSI.out _ hba.out;clear hIW hBa;simp only[upP,putP,List.foldl];try go_simp
     refine G_step (k:=18) kQ rfl (fun K' hK'=>?_);go_simp;refine hK'.out _ _ ⟨hSa,fun _=>trivial⟩ ?_;clear hK' K';refine G_step (k:=19) kQ rfl (fun K' hK'=>?_);refine step_app (by rfl) (.tmp 117) (.tmp 135) _ (by rfl) (m:=1) (news:=strD LN) elStr (by exact hIa.out.ol) (by rfl) (by rfl) (by exact hsr.out) rfl oQ oQ (by exact hsz) ?_;intro v' w1 hO2 hg2 _;have hI2:=Hd (hIa.out.app hg2 hO2);have hb2:=hba.out.grown hg2 (fun e=>hIa.out.ol.neBlk hba.out dQ e.symm);have hS2:=hSI.out _ hb2;clear hO2 hg2 hb2;refine hK'.out _ _ ⟨hS2,fun _=>trivial⟩ ?_;clear hK' K';try go_simp
     refine G_step (k:=20) kQ rfl (fun K' hK'=>?_);go_simp;refine hK'.out _ _ ⟨hS2,fun _=>trivial⟩ ?_;clear hK' K';refine Gd _ ?_;go_wp2;go_meet;exact⟨by rw[←hLN.out];exact hI2.out,by rw[hcn];rfl⟩
  case rest=>
  obtain⟨hI2,rfl⟩:=hcut;clear hI1 hbi kT kI b0 hnt hng hcn1;obtain⟨A4,c4,rfl⟩:=hI2.ol.form;have hl2:(L2 q j++[itemL q j ⟨ng,tys,vv,lo,hi⟩]).length≤33554432:=by simp only[zH,List.length_singleton];omega
  have hl1:=lay_len (rowsQ q) j true ownB;have kl1:=Hd (kl.out _ _ (j:Int) true ⟨#[32,32,111,119,110,32]⟩ wc hI2 hl2 dQ);have kl2:=fun v W (h:LI2 l A c q ⟨some ⟨gi,off,none⟩,c1,A2,c2,A3,c3⟩ (.slice A7 (rootsQ q).length c7) w W v (L2 q j++[itemL q j ⟨ng,tys,vv,lo,hi⟩]++layL (rowsQ q) j true ownB))=>kl.out v _ (j:Int) false ⟨#[32,32,97,115,107,115,32]⟩ W h (by rw[zH];simp only[zH,List.length_singleton];omega) dQ
  replace hI2:=Hd hI2;replace kl2:=Hd kl2;obtain⟨LA,hLA⟩:∃LA,LA=L2 q j++[itemL q j ⟨ng,tys,vv,lo,hi⟩]:=⟨_,rfl⟩
  obtain⟨NA,hNA⟩:∃NA,NA=LA.length:=⟨_,rfl⟩
  rw[←hLA]at hI2 kl1 kl2 hnx ⊢;rw[←hNA]at kl1 ⊢;replace hLA:=Hd hLA;replace hNA:=Hd hNA;go_upto_region 29 with(go_at_call 35;refine kl1.out.mono ?_;rintro e W1 ⟨v1,rfl,hO1,hB1,hK1⟩;have hI3:=hI2.out.lay hO1 hB1 hK1;have kl3:=Hd (kl2.out v1 W1 hI3);replace hI3:=Hd hI3;clear hO1 hB1 hK1 kl1)
  clear hI2 kl2;go_upto_region 22 with(go_at_call 35;refine kl3.out.mono ?_;rintro e W2 ⟨v2,rfl,hP2⟩)
  have hI4:LI2 l A c q ⟨some ⟨gi,off,none⟩,c1,A2,c2,A3,c3⟩ (.slice A7 (rootsQ q).length c7) w W2 v2 (L2 q (j+1)):=by
   rw[hnx.out];exact hI3.out.lay hP2.1 hP2.2.1 hP2.2.2
  replace hI4:=Hd hI4;clear hI3 hP2 hnx kl3;go_wp2;go_roundw
  case rel=>exact⟨j+1,oQ,gQ,rfl,hI4.out⟩
  case measure=>exact mQ
 obtain rfl:j=q.items.length:=oQ;have g1:¬(q.items.length:Int)<q.items.length:=oQ;have hll:=L2_len (q:=q) q.items.length nR hin hRl;have kl1:=Hd (kl.out _ _ (-1) false ⟨#[97,108,119,97,121,115,32]⟩ wr hI oQ dQ);obtain⟨y0,y1,y2,y3,y4,y5,y6⟩:=cc.out wr hI.sq;have kpr:∀(t:List Nd)(A':Option Addr)(c':Nat) W,t∈q.ret→Bw w W→Rd W F (.slice A' t.length c') (.sl t.length (t.flatMap ndD))→Calls Tryz.prog 28 #[.agg ⟨qV q ⟨A1,c1,A2,c2,A3,c3⟩⟩,.slice A' t.length c'] W (ExP (pln q t) W):=fun t A' c' W ht hW rd=>
  rplain_k q ⟨A1,c1,A2,c2,A3,c3⟩ A' c' F F t hs (hs.re t ht) (nd_ok (hok.out.re t ht) (hmr t ht)) W (hT.stay hW) (hR.stay hW) (R.under hW) (R.under hW).lt rd
 simp only[qV]at kpr;have hrz:∀t∈q.ret,(exT (pln q t)).size≤26000:=fun t ht=>exT_size (pln_ok (q:=q) hs.il (hs.re t ht) (nd_ok (hok.out.re t ht) (hmr t ht))).2
 replace kpr:=Hd kpr;replace hrz:=Hd hrz;have hIH:=Hd hI;clear hI ki kt kl;go_upto_region 31 with(go_at_call 35;refine kl1.out.mono ?_;rintro e W4 ⟨v4,rfl,hP4⟩)
 have hI4:LI2 l A c q ⟨A1,c1,A2,c2,A3,c3⟩ (.slice A7 (rootsQ q).length c7) w W4 v4 (L3 q 0):=by
  have:L3 q 0=L2 q q.items.length++layL (rowsQ q) (-1) false alwB:=by unfold L3;rw[List.take_zero];simp
  rw[this];exact hIH.out.lay hP4.1 hP4.2.1 hP4.2.2
 obtain⟨A4,c4,rfl⟩:=hI4.ol.form;replace hI4:=Hd hI4;clear hIH hP4 kl1 y0 y1 y2 y3 y4 y5 y6 g1 hll;obtain⟨w5,hw5⟩:∃w5:World,w5=wr:=⟨_,rfl⟩
 subst hw5;go_wp2;go_loopw [16,20] (fun v i wr=>LnR3 l A c q ⟨A1,c1,A2,c2,A3,c3⟩ (.slice A7 (rootsQ q).length c7) w v i wr) (fun _ i _=>q.ret.length- (intOf i).toNat)
 case atStart=>exact⟨0,zE _,rfl,hI4.out,fun i hi=>by rw[List.take_zero]at hi;cases hi⟩
 case round=>
 clear hI4;obtain⟨k,hk,rfl,hI,hzr⟩:=hrel;obtain⟨A5,c5,rfl⟩:=hI.ol.form;obtain⟨y0,y1,y2,y3,y4,y5,y6⟩:=cc.out wr hI.sq;have hret8:=hok.out.rl;by_cases hlt:k<q.ret.length
 ·obtain⟨t,ht⟩:=getx hlt;have htm:=zA ht;obtain⟨gr,off,At,ct,rfl,hFr,hrt,a0⟩:=re_at ((R.under hI.sq.hb).r3) ht;have g0:(0:Int)≤(k:Int):=oQ;have g1:(k:Int)<q.ret.length:=oQ;have hRl2:=(R.under hI.sq.hb).lt;have kp1:∀W,Bw wr W→_:=fun W hW=>kpr.out t At ct W htm (hI.sq.hb.trans (hW.mono hI.sq.hb.size)) (hrt.under hW hRl2)
  have hnx:=L3_next ht;have hln:=L3_len (q:=q) k hin oQ hRl;have htz:=hrz.out t htm;have hlr:=fun h=>lin_ret hc.out.symm hz.out ht hzr.out h
  have hz2:tcC q t=0→∀u∈q.ret.take (k+1),tcC q u=0:=fun h u hu=>by
   rw[zJ,ht]at hu;rcases zM.1 hu with h2 |h2
   ·exact hzr.out u h2
   ·rw[Option.toList_some,xB]at h2;rw[h2];exact h
  have htc:tcC q t=exC (pln q t):=rfl;rw[htc]at hlr hz2;have hq1:(⟨#[114,101,115,117,108,116,32]⟩:ByteArray).size+(exT (pln q t)).size≤9223372036854775807:=by show 7+_≤_;omega
  have hrB:(⟨#[114,101,115,117,108,116,32]⟩:ByteArray)=resB:=rfl;unfold ExP at kp1;generalize exC (pln q t)=ec at hlr hz2 kp1;generalize exT (pln q t)=et at hnx htz hq1 kp1;have hIH:=Hd hI;replace hlr:=Hd hlr;replace hz2:=Hd hz2;replace hnx:=Hd hnx;replace kp1:=Hd kp1;replace hrB:=Hd hrB;replace ht:=Hd ht;clear hI hrt htc hzr hRl2;go_upto_region 34 with fail
  go_cut [21,22] (fun v e W=>v=.string et∧e=.int .i64 ec∧Bw wr W)
  case first=>
   go_region_law ((go_simp;go_at_call 28;refine(kp1.out _ (by first|exact bR |exact(bR).drew)).mono ?_;rintro e W1 ⟨rfl,hX1⟩;replace hX1:=Hd hX1))
   all_goals(go_wp2;all_goals(go_meet;exact⟨rfl,rfl,(bR).drew.trans hX1.out⟩))
  case rest=>
  obtain⟨rfl,rfl,hX1⟩:=hcut;have hI1:=hIH.out.stay hX1;clear hIH hX1 kp1 y0 y1 y2 y3 y4 y5 y6 a0;by_cases hec:ec=0
  ·have f2:=bneF hec;have hz3:=Hd (hz2.out hec);subst hec;obtain⟨LN,hLN⟩:∃LN,LN=(⟨#[114,101,115,117,108,116,32]⟩++et:ByteArray):=⟨_,rfl⟩
   have hB4:Bw wc (wc.alloc (.cells ⟨[.string (⟨#[114,101,115,117,108,116,32]⟩++et)]⟩ 9)):=bA;have hI4:=hI1.stay hB4;have hsr:=Hd (SrcLit (w:=wc) (t:=9) (G:=fun b=>NoF b∧some b≠(Value.slice A5 (L3 q k).length c5).ownBlock) rfl (show RdL wc (fun b=>NoF b∧some b≠(Value.slice A5 (L3 q k).length c5).ownBlock) [.string (⟨#[114,101,115,117,108,116,32]⟩++et)] (strD (⟨#[114,101,115,117,108,116,32]⟩++et))from⟨.v _ rfl,trivial⟩));have hs4:=hI4.sq.hb.size;replace hI4:=Hd hI4;replace hLN:=Hd hLN;clear hB4 hI1 hlr hz2;go_wp2_with (at_builtin;refine wpa rfl (.tmp 170) (.tmp 173) _ rfl (m:=1) (news:=strD (⟨#[114,101,115,117,108,116,32]⟩++et)) elStr hI4.out.ol rfl rfl hsr.out rfl oQ oQ hs4 ?_;intro v' w1 hO2 hg2 _;have hI5:=Hd (hI4.out.app hg2 hO2);clear hO2 hg2);go_roundw
   case rel=>exact⟨k+1,oQ,gQ,by rw[hnx.out];exact hI5.out,hz3.out⟩
   case measure=>exact mQ
  ·have f2:=bneT hec;have hfin:=Hd (fun(W:World)(hW:Bw w W)=>LnP.err (w':=W) (hlr.out hec) hec hW);have hbb:=Hd hI1.sq.hb;replace hec:=Hd hec;clear hI1 hz2 hlr;go_wp2;refine bodyPost_ret (results_tmp2 rfl _ _ _) rfl ?_;first|exact hfin.out _ hbb.out |exact hfin.out _ hbb.out.drew |exact hfin.out _ (below_drewN hbb.out _)
 obtain rfl:k=q.ret.length:=oQ;have g1:¬(q.ret.length:Int)<q.ret.length:=oQ;have hlin:=lin_ok hc.out.symm hz.out (by have:=hzr.out;rw[zL]at this;exact this);have hfin:=Hd (show LnP l q w (.returned (.tuple #[.slice A5 (L3 q q.ret.length).length c5,.int .i64 0])) wr from LnP.ok hlin (by have:=hI.ol;rw[L3_all]at this ⊢;exact this) hI.sq.hb);clear hI hlin;go_wp2;refine bodyPost_ret (results_tmp2 rfl _ _ _) rfl ?_;exact hfin.out
end shR
end Go.Proofs.YthaabihjeomipaaGreatDoor
