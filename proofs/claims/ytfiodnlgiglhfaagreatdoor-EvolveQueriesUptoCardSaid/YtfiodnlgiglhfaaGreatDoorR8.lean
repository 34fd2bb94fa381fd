/- The document's Query. -/
import Derived.Test.YtfiodnlgiglhfaaGreatDoorR6
namespace Go.Proofs.YtfiodnlgiglhfaaGreatDoor
set_option maxRecDepth 100000
set_option maxHeartbeats 16000000
open Go.RowKit Go.Deep
set_option linter.unusedVariables false
set_option linter.unusedSimpArgs false
theorem mdTo_pre {S:List Td}{L:List Cg}{m:Nat}:∀{k:Nat},k≤m→mdTo S (L.take m) k=mdTo S L k
 |0,_=>rfl
 |k+1,h=>by rw[mdTo,mdTo,List.getElem?_take_of_lt (by omega),mdTo_pre (k:=k) (by omega)]
theorem okAt_pre {S:List Td}{L:List Cg}{m k:Nat}(h:k<m):okAt S (L.take m) k↔okAt S L k:=by
 unfold okAt;rw[List.getElem?_take_of_lt h,mdTo_pre (by omega)]
theorem md_pre {S:List Td}{L:List Cg}{j:Nat}(z:scC S=0)(hl:L.length≤32)(hok:∀i,i<L.length→okAt S L i)(hj:j<L.length):MdIs S (L.take (j+1)) (some (mdTo S L (j+1))) 0 0:=by
 have e:(L.take (j+1)).length=j+1:=by rw[zO];omega
 refine .inr (.inr (.inr ⟨z,by omega,fun i hi=>(okAt_pre (by omega)).2 (hok i (by omega)),?_,rfl,rfl⟩));rw[e,mdTo_pre nR]
theorem needs_len {q:Qy}(hs:SzB q)(hw:q.wh.length≤1048576)(h:q.items.length≤10):(needsN q).length≤33554432:=by
 unfold needsN;rw[←need1_all,zH,zH,zH,need1_len];have h1:=zU (AT_len q q.items.length) hs.ty;have h2:=ofTreeN_len q q.wh h;have h3:=rets_needs q hs h q.ret.length;rw[zL]at h3;have h4:(if q.by_=emp then([]:List Ned)else [⟨q.items.flatMap (·.tys),q.by_⟩]).length≤1:=by split<;>simp
 omega
theorem needs_ty {q:Qy}(hq:SzQ q)(hs:SzB q):∀d∈needsN q,d.tys.length≤1048576:=by
 have key:∀t d,d∈ofTreeN q t→d.tys.length≤1048576:=fun t d hd=>by
  obtain⟨x,_,hd⟩:=xF.1 hd;unfold ofTN at hd;split at hd
  ·cases hd
  ·obtain⟨it,hit,rfl⟩:=List.mem_map.1 hd;exact(hq.it it (List.mem_filter.1 hit).1).1.1
 intro d hd;unfold needsN at hd;rcases zM.1 hd with hd |hd
 ·obtain⟨it,_,hd⟩:=xF.1 hd;obtain⟨n,_,rfl⟩:=List.mem_map.1 hd;show(1:Nat)≤_
  omega
 ·rcases zM.1 hd with hd |hd
  ·split at hd
   ·cases hd
   ·rw[xB]at hd;subst hd;have h1:=zU (AT_len q q.items.length) hs.ty;rw[AT_all]at h1;exact h1
  ·rcases zM.1 hd with hd |hd
   ·exact key _ _ hd
   ·obtain⟨t,_,hd⟩:=xF.1 hd;exact key _ _ hd
theorem SmK.big {l:List Kd}(h:SmK l):l.length≤1048576∧∀k∈l,k.fs.length≤1048576:=⟨by have:=h.len;omega,fun k hk=>by have:=h.fl k hk;omega⟩
theorem rd_pre {w:World}{F:Nat→Prop}{A:Option Addr}{c m:Nat}{L:List Cg}(h:Rd w F (.slice A L.length c) (.sl L.length (L.flatMap cgD)))(hm:m≤L.length):Rd w F (.slice A (L.take m).length c) (.sl (L.take m).length ((L.take m).flatMap cgD)):=by
 have e:(L.take m).length=m:=by rw[zO];omega
 have e2:∀(l:List Cg) m,(l.take m).flatMap cgD=(l.flatMap cgD).take (m*6):=by
  intro l;induction l with
  |nil=>intro m;simp
  |cons a l ih=>
   intro m;cases m with
   |zero=>simp
   |succ m=>
    rw[List.take_succ_cons,zK,zK,ih,List.take_append];have h1:(cgD a).length=6:=rfl;rw[h1,show(m+1)*6-6=m*6 by omega,show(cgD a).take ((m+1)*6)=cgD a from xH (by rw[h1];omega)]
 rw[e,e2];exact h.take _ hm
namespace refW
open nmW ckW
theorem rQuery_k (A B:Option Addr)(ca cb:Nat)(F G:Nat→Prop)(S:List Td)(L:List Cg)(q:Qy)(s:Sl3)(hS:SzT S)(hL:L.length≤1048576)(hC:∀c∈L,SzC c)(hs:SzQ q)(hSB:SzB q)(w:World)(hK:KwIs w)(hG:∀b,G b→b<w.heap.size)
  (r:Rd w F (.slice A S.length ca) (.sl S.length (S.flatMap tdD)))(rc:Rd w G (.slice B L.length cb) (.sl L.length (L.flatMap cgD)))(R:QR w F q s):
  Calls Tryz.prog 9 #[.agg ⟨[.slice A S.length ca]⟩,.slice B L.length cb,.agg ⟨qV q s⟩] w (QPost S L q w):=by
 obtain⟨W0,hW0⟩:∃W0,W0=(((w.alloc (.cells ⟨[.slice A S.length ca]⟩ 24)).alloc (.cells ⟨qV q s⟩ 32)).alloc (.cells ⟨zqV⟩ 32)):=⟨_,rfl⟩
 have h0:Q3 S A ca q s w W0:=by
  rw[hW0];exact⟨(SQ.new S A ca q s w).stay bA,Blk.new' (by simp)⟩
 obtain⟨y0,y1,y2,y3,y4,y5,y6⟩:=qbc h0.sq.b1;have x0:=h0.sq.b0.cell 0;have hF:=R.lt;have hb0:=h0.sq.hb;have k1:=fun j (hj:j≤L.length) W (hW:Bw w W)=>evW.table_k A B ca cb F G S (L.take j) hS (by rw[zO];omega) (fun c hc=>hC c (List.mem_of_mem_take hc)) W (hK.stay hW) (fun b h=>zF (hF b h) hW.size) (fun b h=>zF (hG b h) hW.size) (r.under hW hF) ((rd_pre rc hj).under hW hG)
 have k10:=evW.table_k A B ca cb F G S L hS hL hC W0 (hK.stay hb0) (fun b h=>zF (hF b h) hb0.size) (fun b h=>zF (hG b h) hb0.size) (r.under hb0 hF) (rc.under hb0 hG);have k2:=fun W (hW:Bw w W)=>rCheck_k A ca F S q s hS hs hSB W (hK.stay hW) (R.under hW) (r.under hW hF)
 have k3:=fun h10 W (hW:Bw w W)=>needs_k q s F h10 hs hSB W (R.under hW)
 have k4:=fun h10 (At An:Option Addr) ct cn (T:List Kd)(hT:SmK T) W (hW:Bw w W) rt rn=>there_k A At An ca ct cn F (fun b=>b<W.heap.size) (fun b=>b<W.heap.size) S T (needsN q) hS hT.big.1 hT.big.2 (needs_len hSB hs.wh.1 h10) (needs_ty hs hSB) W (fun b h=>zF (hF b h) hW.size) (fun b h=>h) (fun b h=>h) (r.under hW hF) rt rn
 have k5:=fun h10 (At An:Option Addr) ct cn (T:List Kd)(hT:SmK T) W (hW:Bw w W) rt rn=>alike_k A At An ca ct cn F (fun b=>b<W.heap.size) (fun b=>b<W.heap.size) S T (needsN q) hS hT.big.1 hT.big.2 (needs_len hSB hs.wh.1 h10) (needs_ty hs hSB) W (fun b h=>zF (hF b h) hW.size) (fun b h=>h) (fun b h=>h) (r.under hW hF) rt rn
 have k6:=fun hty hq0 (At:Option Addr) ct (T:List Kd)(hT:SmK T) W (hW:Bw w W) rt=>rTurned_k A At ca ct F (fun b=>b<W.heap.size) S T q s hS hT.big.1 hT.big.2 hs hty hq0 W (fun b h=>h) (r.under hW hF) rt (R.under hW)
 have hcap:L.length≤cb:=by
  obtain⟨_,_,e,h1,_⟩:=rc.sl_inv;injection e with _ e1 e2
  omega
 have hBf:L≠ []→∃gB oB,B=some ⟨gB,oB,none⟩:=fun hne=>by
  obtain⟨b,off,e,_⟩:=rc.cells (by
   cases L with
   |nil=>exact absurd rfl hne
   |cons a l=>simp[cgD])
  exact⟨b,off,e⟩
 obtain⟨A1,c1,A2,c2,A3,c3⟩:=s;simp only[qV,zqV,zY]at hW0 y0 y1 y2 y3 y4 y5 y6 x0 k2 k3 k6 ⊢;have hWW:=Hd hW0;replace h0:=Hd h0;replace k1:=Hd k1;replace k10:=Hd k10;replace k2:=Hd k2;replace k3:=Hd k3;replace k4:=Hd k4;replace k5:=Hd k5;replace k6:=Hd k6;replace hSB:=Hd hSB;replace hs:=Hd hs;replace hS:=Hd hS;replace hBf:=Hd hBf;clear hC hK hG r rc R hb0 hW0 hL hF;go_enter Tryz.func9,Tryz.ntmps9;go_upto_region 1 with fail
 rw[←hWW.out];go_upto_region 2 with(go_at_call 21;refine k10.out.mono ?_;rintro e W1 ⟨v,code,at_,T,rfl,hM,hT,hW1⟩;simp only)
 clear x0 y0 y1 y2 y3 y4 y5 y6;have hQ1:=Hd (h0.out.stay hW1);cases T with
 |none=>
  have hc0:=md_bad hM;have f1:=beqF hc0;have f2:=bneT hc0;have hfin:Hid (QAns S L q none code at_):=.inl ⟨hM,rfl⟩;replace hc0:=Hd hc0;replace hM:=Hd hM;replace hW1:=Hd hW1;clear hT;go_wp2_with (refine at_op (.store 32 (.tmp 6) (.tmp 27)) rfl ?_;refine wsb rfl 32 (.tmp 6) (.tmp 27) rfl (cs':=zqV) hQ1.out.b2 aggQu rfl rfl rfl rfl ?_;intro w8 hz8 hg8);exact bpc rfl hz8 aggQu rfl rfl rfl rfl (QPost.no hfin.out (hQ1.out.fin hg8))
 |some t=>
  obtain⟨hSm,hrt⟩:=hT t rfl;obtain⟨hsc,hL32,hok,hTe,rfl,rfl⟩:=md_ok hM;obtain⟨At,ct,rfl,_,_⟩:=hrt.sl_inv;clear hT;have hb1:=hQ1.out.sq.hb;obtain⟨y0,y1,y2,y3,y4,y5,y6⟩:=qbc hQ1.out.sq.b1;have x0:=hQ1.out.sq.b0.cell 0;simp only[zY]at x0 y0 y3 y6;have k2':=k2.out W1 hb1;obtain⟨cc,hcc⟩:∃cc,cc=checkC (scC S) S q:=⟨_,rfl⟩
  rw[←hcc]at k2';have q1:cc≠0→QAns S L q none cc 0:=fun h=>.inr ⟨hTe▸hM,by rw[ans_check (by rw[←hcc];exact h),←hcc]⟩
  have q2:∀i,cc=0→i<L.length→(∀j,j<i→thereB S (mdTo S L (j+1)) (needsN q)=true)→thereB S (mdTo S L (i+1)) (needsN q)=false→QAns S L q none 291 (i:Int):=fun i h h1 h2 h3=>.inr ⟨hTe▸hM,by rw[ans_lostR (by rw[←hcc];exact h) hok h1 h2 h3]⟩
  have q3:cc=0→(∀j,j<L.length→thereB S (mdTo S L (j+1)) (needsN q)=true)→alikeB S t (needsN q)=false→QAns S L q none 291 L.length:=fun h h2 h3=>.inr ⟨hTe▸hM,by rw[ans_unlikeR (by rw[←hcc];exact h) hok h2 (by rw[←hTe];exact h3)]⟩
  have q4:cc=0→(∀j,j<L.length→thereB S (mdTo S L (j+1)) (needsN q)=true)→alikeB S t (needsN q)=true→QAns S L q (some (turnQ S t q)) 0 0:=fun h h2 h3=>.inr ⟨hTe▸hM,by rw[ans_turnR (by rw[←hcc];exact h) hok h2 (by rw[←hTe];exact h3),hTe]⟩
  have hqok:cc=0→q.items.length≤10∧QOk S q:=fun h=>⟨(qok_of (by rw[←hcc];exact h)).2.2.1,(qok_of (by rw[←hcc];exact h)).2.2.2.2⟩
  have hmd:=fun j (hj:j<L.length)=>md_pre hsc hL32 hok hj
  have hb1s:=hb1.size;have hqs1:=hQ1.out.b2.lt;replace hmd:=Hd hmd;replace k2':=Hd k2';replace q1:=Hd q1;replace q2:=Hd q2;replace q3:=Hd q3;replace q4:=Hd q4;replace hqok:=Hd hqok;replace hTe:=Hd hTe;replace hM:=Hd hM;replace hcc:=Hd hcc;replace hsc:=Hd hsc;replace hok:=Hd hok;replace hW1:=Hd hW1;replace hrt:=Hd hrt;replace hSm:=Hd hSm;go_upto_region 5 with(go_at_call 22;refine k2'.out.mono ?_;rintro e W2 ⟨fp,fi,fs,rfl,hW2⟩)
  clear x0 y0 y1 y2 y3 y4 y5 y6;have hB3:Bw W1 (W2.alloc (.cells ⟨[.int .i64 cc,.int .i64 fp,.int .i64 fi,.int .i64 fs]⟩ 60)):=hW2.alloc hW2.size _;have hbf:=Blk.new W2 60 [.int .i64 cc,.int .i64 fp,.int .i64 fi,.int .i64 fs];have hs23:W2.heap.size<(W2.alloc (.cells ⟨[.int .i64 cc,.int .i64 fp,.int .i64 fi,.int .i64 fs]⟩ 60)).heap.size:=hbf.lt;have hs12:=hW2.size;obtain⟨W3,hW3⟩:∃W3,W3=(W2.alloc (.cells ⟨[.int .i64 cc,.int .i64 fp,.int .i64 fi,.int .i64 fs]⟩ 60)):=⟨_,rfl⟩
  rw[←hW3]at hB3 hbf hs23 ⊢;have hQ3:=Hd (hQ1.out.stay hB3);have z0:W3.cell? ⟨W2.heap.size,0,none⟩=some (.int .i64 cc):=hbf.cell 0;have hs3:=hB3.size;replace hW3:=Hd hW3;replace hB3:=Hd hB3;replace hbf:=Hd hbf;clear hW2 k2' hQ1;by_cases hc0:cc=0
  case neg=>
   have f1:=beqF hc0;have f2:=bneT hc0;have hfin:=Hd (q1.out hc0);replace hc0:=Hd hc0;go_upto_region 6 with fail
   have hSS:W3.drew.cell? ⟨W2.heap.size,0,none⟩=some (.int .i64 cc)∧True:=⟨z0,trivial⟩;refine G_region (p:=100) (S0:=fun W=>W.cell? ⟨W2.heap.size,0,none⟩=some (.int .i64 cc)) (S1:=fun _=>True) (by kernel_rfl) ?_;refine' TkA 0 rfl hSS ?_;refine' TkA 1 rfl hSS ?_;refine' TkA 2 rfl hSS ?_;try simp only[Act.put,TkS]
   refine Gs 3 rfl fun K hK=>?_
   refine step_store_blk (by rfl) 32 (.tmp 6) (.tmp 36) (by rfl) (cs':=zqV) (hQ3.out.b2.stay (bR).drew) aggQu rfl (by rfl) (by rfl) rfl ?_;intro w8 hz8 hg8;have hc8:w8.cell? ⟨W2.heap.size,0,none⟩=some (.int .i64 cc):=((hbf.out.stay (bR).drew).grown hg8 (fun e=>by injection e with e;omega)).cell 0;refine hK.out _ _ ⟨hc8,fun _=>trivial⟩ ?_;have hfb:=Hd ((hQ3.out.stay (bR).drew).fin hg8);have hST:w8.cell? ⟨W2.heap.size,0,none⟩=some (.int .i64 cc)∧True:=⟨hc8,trivial⟩;replace hz8:=Hd hz8;clear hK K hSS hg8;try simp only[Act.put,TkS]
   refine Gs 4 rfl fun K hK=>?_
   go_simp;refine hK.out _ _ ⟨hST.1,fun _=>trivial⟩ ?_;clear hK K;refine Gs 5 rfl fun K hK=>?_
   go_simp;refine hK.out _ _ ⟨hST.1,fun _=>trivial⟩ ?_;clear hK K hST;refine Gd _ ?_;go_wp2;exact bpc rfl hz8.out aggQu rfl rfl rfl rfl (QPost.no hfin.out hfb.out)
  subst hc0;obtain⟨h10,hqk⟩:=hqok.out rfl;have hty:∀x∈q.items,0<x.tys.length:=fun x hx=>(hqk.tys x hx).1
  have hq0:=hqk.il;obtain⟨y0,y1,y2,y3,y4,y5,y6⟩:=qbc hQ3.out.sq.b1;have x0:=hQ3.out.sq.b0.cell 0;simp only[zY]at x0 y0 y3 y6;have k3':=Hd (k3.out h10 W3 hQ3.out.sq.hb);replace hty:=Hd hty;replace hqk:=Hd hqk;clear hqok;go_upto_region 8 with(go_at_call 23;refine k3'.out.mono ?_;rintro e W5 ⟨vn,rfl,hO5,hB5⟩;simp only)
  clear x0 y0 y1 y2 y3 y4 y5 y6 z0;have hQ5:=Hd (hQ3.out.stay hB5);have hrn0:=hO5.rd (G:=fun b=>b<W5.heap.size) (fun b _ h=>h) (fun b _ h=>h);obtain⟨An,cn,rfl⟩:=hO5.form;have hn0:=Hd hrn0;have hs5:=hB5.size;have hrt5:=Hd (((hrt.out.under hB3.out (fun b h=>h)).under (hB5.mono hB3.out.size) (fun b h=>h)).mono (G:=fun b=>b<W5.heap.size) fun b hb _=>by omega);replace hB5:=Hd hB5;clear hO5 hrn0 hbf;go_wp2;go_loopw [14] (fun i wr=>∃j:Nat,j≤L.length∧i=.int .i64 j∧Bw W5 wr∧Hid (∀m,m<j→thereB S (mdTo S L (m+1)) (needsN q)=true)) (fun i _=>L.length- (intOf i).toNat)
  case atStart=>exact⟨0,zE _,rfl,bR,fun m h=>by omega⟩
  case round=>
   obtain⟨j,hj,rfl,hBr,hp⟩:=hrel;have hQr:=hQ5.out.stay hBr;have hbr:=hQr.sq.hb;have hrs:=hBr.size;have x0:wr.cell? ⟨w.heap.size,0,none⟩=some (.slice A S.length ca):=hQr.sq.b0.cell 0;have hrnr:=(hn0.out.under hBr (fun b h=>h)).mono (G:=fun b=>b<wr.heap.size) fun b hb _=>by omega
   have hrtr:=(hrt5.out.under hBr (fun b h=>h)).mono (G:=fun b=>b<wr.heap.size) fun b hb _=>by omega
   by_cases hlt:j<L.length
   ·have g0:(0:Int)≤(j:Int):=(by omega);have g1:(j:Int)<L.length:=by omega
    have g2:(L.length:Int)≤32:=(by omega);obtain⟨gB,oB,eB⟩:=hBf.out (fun e=>by rw[e]at hlt;simp at hlt);subst eB;have elj:(L.take (j+1)).length=j+1:=by rw[zO];omega
    have k1':=k1.out (j+1) (by omega) wr.drew hbr.drew;rw[elj]at k1';have nw:IntKind.i64.wrap ((j:Int)+1)=(j:Int)+1:=by rw[xI];omega
    have nc:(j:Int)+1≤(cb:Int):=(by omega);have nz:(0:Int)≤(j:Int)+1:=by omega
    have nt:((j:Int)+1).toNat=j+1:=(by omega);have hcut:∀W,(Instr.slice 25 (.slice (some ⟨gB,oB,none⟩) L.length cb) none (some (.int .i64 ((j:Int)+1))) none).run Tryz.prog W=.ok (.slice (some ⟨gB,oB,none⟩) (j+1) cb) W:=fun W=>by
     have:=run_cutF (P:=Tryz.prog) elChange (A:=some ⟨gB,oB,none⟩) L.length cb (j+1) (by omega) W (.inr ⟨_,_,rfl⟩);simpa using this
    have hmj:=hmd.out j hlt;have hSmj:∀(W:World) v T,(∀t,T=some t→SmK t∧Rd W (fun b=>b<W.heap.size) v (.sl t.length (t.flatMap kdD)))→∀c a,MdIs S (L.take (j+1)) T c a→c=0∧a=0∧SmK (mdTo S L (j+1))∧Rd W (fun b=>b<W.heap.size) v (.sl (mdTo S L (j+1)).length ((mdTo S L (j+1)).flatMap kdD)):=fun W v T hT c a hm=>by
     obtain⟨e1,e2,e3⟩:=hmj.uniq hm;obtain⟨h1,h2⟩:=hT _ e1;exact⟨e2,e3,h1,h2⟩
    have kS:=fun W (hW:Bw wr W)=>(hQr.stay hW).sq.b0.cell 0
    have hSS:=xW (kS wr.drew (bR).drew) trivial;have qf:thereB S (mdTo S L (j+1)) (needsN q)=false→QAns S L q none 291 (j:Int):=fun h=>q2.out j trivial hlt hp.out h
    have qt:thereB S (mdTo S L (j+1)) (needsN q)=true→∀m,m<j+1→thereB S (mdTo S L (m+1)) (needsN q)=true:=fun h m hm=>by
     by_cases e:m=j
     ·subst e;exact h
     ·exact hp.out m (by omega)
    replace qf:=Hd qf;replace qt:=Hd qt;replace k1':=Hd k1';replace hSmj:=Hd hSmj;replace kS:=Hd kS;replace hmj:=Hd hmj;replace hQr:=Hd hQr;replace hbr:=Hd hbr;replace hBr:=Hd hBr;replace hrnr:=Hd hrnr;clear hrtr;go_upto_region 11 with fail
    clear x0;refine G_region (p:=100) (S0:=fun W=>W.cell? ⟨w.heap.size,0,none⟩=some (.slice A S.length ca)) (S1:=fun _=>True) (by kernel_rfl) ?_;refine' TkA 0 rfl hSS ?_;refine' TkA 1 rfl hSS ?_;refine' TkA 2 rfl hSS ?_;refine' TkA 3 rfl hSS ?_;refine' TkA 4 rfl hSS ?_;try simp only[Act.put,TkS]
    clear hcut;refine Gs 5 rfl fun K hK=>?_
    go_simp;go_at_call 21;refine(k1'.out).mono ?_;rintro e W6 ⟨v6,c6,a6,T6,rfl,hM6,hT6,hBW6⟩;obtain⟨rfl,rfl,hSm6,hr6⟩:=hSmj.out W6 v6 T6 hT6 c6 a6 hM6;obtain⟨A6,d6,rfl,_,_⟩:=hr6.sl_inv;have hU6:=Hd ((zB wr.heap.size wr).drew.trans hBW6);refine hK.out _ _ ⟨kS.out W6 hU6.out,fun _=>trivial⟩ ?_;have hST:=xW (kS.out W6 hU6.out) trivial;replace hr6:=Hd hr6;replace hSm6:=Hd hSm6;clear hK K hSS hBW6 hM6 hT6;refine' TkA 6 rfl hST ?_;refine' TkA 7 rfl hST ?_;refine' TkA 8 rfl hST ?_;refine' TkA 9 rfl hST ?_;try simp only[Act.put,TkS]
    refine Gs 10 rfl fun K hK=>?_
    go_simp;refine hK.out _ _ ⟨hST.1,fun _=>trivial⟩ ?_;clear hK K;refine Gs 11 rfl fun K hK=>?_
    go_simp;refine hK.out _ _ ⟨hST.1,fun _=>trivial⟩ ?_;clear hK K;refine Gs 12 rfl fun K hK=>?_
    go_simp;refine hK.out _ _ ⟨hST.1,fun _=>trivial⟩ ?_;clear hK K;clear hST;refine Gd _ ?_;try simp only[Act.put,TkS]
    have hQ6:=hQr.out.stay hU6.out;have hb6:=hQ6.sq.hb;have x6:W6.cell? ⟨w.heap.size,0,none⟩=some (.slice A S.length ca):=hQ6.sq.b0.cell 0;have hs6:=hU6.out.size;have hrn6:=(hrnr.out.under hU6.out (fun b h=>h)).mono (G:=fun b=>b<W6.heap.size) fun b hb _=>by omega
    have k4':=k4.out h10 A6 An d6 cn _ hSm6.out W6 hb6 hr6.out hrn6;obtain⟨bt,hbt⟩:∃b,b=thereB S (mdTo S L (j+1)) (needsN q):=⟨_,rfl⟩
    rw[←hbt]at k4';have hB6:=Hd (hBr.out.trans (hU6.out.mono hBr.out.size));replace hQ6:=Hd hQ6;replace hb6:=Hd hb6;replace k4':=Hd k4';replace hrn6:=Hd hrn6;replace hbt:=Hd hbt;cases bt with
    |true=>
     have hgo:=Hd (qt.out hbt.out.symm);go_wp2_with (go_at_call 24;refine k4'.out.mono ?_;rintro e W7 ⟨rfl,hB7⟩;have hB77:=Hd (hB6.out.trans (hB7.mono hB6.out.size));clear hB7);go_roundw
     case rel=>exact⟨j+1,by omega,by go_num,hB77.out,hgo.out⟩
     case measure=>simp[intOf];omega
    |false=>
     have hfin:=Hd (qf.out hbt.out.symm);go_wp2_with (first
      |(go_at_call 24;refine k4'.out.mono ?_;rintro e W7 ⟨rfl,hB7⟩;have hQ7:=Hd (hQ6.out.stay hB7);clear hB7)
      |(refine at_op (.store 32 (.tmp 6) (.tmp 62)) rfl ?_;refine wsb rfl 32 (.tmp 6) (.tmp 62) rfl (cs':=zqV) hQ7.out.b2 aggQu rfl rfl rfl rfl ?_;intro w8 hz8 hg8))
     exact bpc rfl hz8 aggQu rfl rfl rfl rfl (QPost.no hfin.out (hQ7.out.fin hg8))
   ·obtain rfl:j=L.length:=by omega
    have k5':=k5.out h10 At An ct cn t hSm.out wr hbr hrtr hrnr;have qf:alikeB S t (needsN q)=false→QAns S L q none 291 L.length:=fun h=>q3.out trivial hp.out h
    have qt:alikeB S t (needsN q)=true→QAns S L q (some (turnQ S t q)) 0 0:=fun h=>q4.out trivial hp.out h
    obtain⟨ba,hba⟩:∃b,b=alikeB S t (needsN q):=⟨_,rfl⟩
    rw[←hba]at k5';replace qf:=Hd qf;replace qt:=Hd qt;replace k5':=Hd k5';replace hba:=Hd hba;replace hrnr:=Hd hrnr;cases ba with
    |false=>
     have hfin:=Hd (qf.out hba.out.symm);replace hQr:=Hd hQr;replace hbr:=Hd hbr;replace hBr:=Hd hBr;replace hrtr:=Hd hrtr;go_wp2_with (first
      |(go_at_call 25;refine k5'.out.mono ?_;rintro e W7 ⟨rfl,hB7⟩;have hQ7:=Hd (hQr.out.stay hB7);clear hB7)
      |(refine at_op (.store 32 (.tmp 6) (.tmp 69)) rfl ?_;refine wsb rfl 32 (.tmp 6) (.tmp 69) rfl (cs':=zqV) hQ7.out.b2 aggQu rfl rfl rfl rfl ?_;intro w8 hz8 hg8))
     exact bpc rfl hz8 aggQu rfl rfl rfl rfl (QPost.no hfin.out (hQ7.out.fin hg8))
    |true=>
     have hfin:=Hd (qt.out hba.out.symm);obtain⟨Q',hQ'⟩:∃Q',Q'=turnQ S t q:=⟨_,rfl⟩
     have k6':=fun W (hW:Bw wr W)=>k6.out hty.out hq0 At ct t hSm.out W (hbr.trans (hW.mono hbr.size)) ((hrtr.under hW (fun b h=>h)).mono (G:=fun b=>b<W.heap.size) fun b hb _=>by have:=hW.size;omega)
     rw[←hQ']at hfin;have k6'':=fun W (hW:Bw wr W)=>hQ'▸k6' W hW
     replace k6'':=Hd k6'';replace hQ':=Hd hQ';replace hQr:=Hd hQr;replace hbr:=Hd hbr;replace hBr:=Hd hBr;replace hrtr:=Hd hrtr;clear k6';go_wp2_with (first
      |(go_at_call 25;refine k5'.out.mono ?_;rintro e W7 ⟨rfl,hB7⟩;have hQ7:=Hd (hQr.out.stay hB7);have k67:=Hd (k6''.out W7 hB7);obtain⟨y0,y1,y2,y3,y4,y5,y6⟩:=qbc hQ7.out.sq.b1;have x7:W7.cell? ⟨w.heap.size,0,none⟩=some (.slice A S.length ca):=hQ7.out.sq.b0.cell 0;simp only[zY]at y0 y3 y6;clear hB7)
      |(go_at_call 26;refine k67.out.mono ?_;rintro e W9 ⟨v1,v2,v3,l,rl,rfl,hO6,hl6,hr6,hB9⟩;obtain⟨Ai,ci,rfl⟩:=hO6.i.kr.form;obtain⟨Aw,cw,rfl⟩:=hO6.wr.form;obtain⟨Ar,cr,rfl⟩:=hO6.r.kr.form;have hQ9:=Hd (hQ7.out.stay hB9);have hq7:=hQ7.out.b2.lt;simp only[quV];replace hl6:=Hd hl6;replace hr6:=Hd hr6;replace hO6:=Hd hO6;clear hB9)
      |(refine at_op (.store 32 (.tmp 6) (.tmp 75)) rfl ?_;refine wsb rfl 32 (.tmp 6) (.tmp 75) rfl (cs':=quV Q' (.slice Ai l.length ci) (.slice Aw Q'.wh.length cw) (.slice Ar rl.length cr) Q'.by_) hQ9.out.b2 aggQu rfl rfl rfl rfl ?_;intro w8 hz8 hg8))
     exact bpc rfl hz8 aggQu rfl rfl rfl rfl ⟨_,_,_,some Q',rfl,hfin.out,fun h=>(by cases h),fun q2 h=>(by injection h with h;subst h;exact⟨_,_,_,l,rl,rfl,(hO6.out.under hg8 (show w.heap.size+1+1<W7.heap.size from hq7)).base (by have:=hQ7.out.sq.hb.size;omega),hl6.out,hr6.out⟩),hQ9.out.fin hg8⟩
end refW
end Go.Proofs.YtfiodnlgiglhfaaGreatDoor
