/- What each kind of change does to the design. -/
import Derived.Test.YtfiodnlgiglhfaaGreatDoorWa
import Derived.Laws.EntriesVeiled
import Derived.Shelf.Abstract
namespace Go.Proofs.YtfiodnlgiglhfaaGreatDoor
set_option maxRecDepth 100000
set_option maxHeartbeats 16000000
open Go.RowKit Go.Deep
set_option linter.unusedVariables false
set_option linter.unusedSimpArgs false
theorem flat_take {α β:Type}{f:α→List β}{m:Nat}(hf:∀x,(f x).length=m):∀(l:List α)(i:Nat),(l.flatMap f).take (i*m)=(l.take i).flatMap f:=by
 intro l;induction l with
 |nil=>intro i;simp
 |cons a l ih=>
  intro i;cases i with
  |zero=>simp
  |succ i=>
   have e1:(i+1)*m=m+i*m:=by rw[Nat.succ_mul];omega
   rw[List.take_succ_cons,zK,zK,←ih i,e1,List.take_append,hf a,xH (by rw[hf a];omega),show m+i*m-m=i*m by omega]
theorem flat_drop {α β:Type}{f:α→List β}{m:Nat}(hf:∀x,(f x).length=m):∀(l:List α)(i:Nat),(l.flatMap f).drop (i*m)=(l.drop i).flatMap f:=by
 intro l;induction l with
 |nil=>intro i;simp
 |cons a l ih=>
  intro i;cases i with
  |zero=>simp
  |succ i=>
   have e1:(i+1)*m=m+i*m:=by rw[Nat.succ_mul];omega
   rw[List.drop_succ_cons,zK,←ih i,e1,List.drop_append,hf a,List.drop_of_length_le (by rw[hf a];omega),List.nil_append,show m+i*m-m=i*m by omega]
theorem mv_flat {l:List Fd}{k n:Nat}{x:Fd}(hx:l[k]? =some x):((l.eraseIdx k).flatMap fdD).take (n*3)++fdD x++((l.eraseIdx k).flatMap fdD).drop (n*3)=(mvF l k n).flatMap fdD:=by
 rw[flat_take (m:=3) (fun _=>rfl),flat_drop (m:=3) (fun _=>rfl),mvF,hx];simp
theorem mv_len {l:List Fd}{k n:Nat}(hk:k<l.length):(mvF l k n).length=l.length:=by
 obtain⟨x,hx⟩:=getx hk;rw[mvF,hx];simp[List.length_eraseIdx_of_lt hk];omega
theorem chF_7 {l:List Fd}{c:Cg}{k N:Nat}(h:c.kd=7)(hf:flAt l c.at_=some k)(hN:c.n=N)(hl:N<l.length):chF l c=some (mvF l k N):=by
 unfold chF;rw[if_neg (by omega),hf];show(if _ then _ else if _ then _ else if _ then _ else _)=_
 rw[if_neg (by omega),if_neg (by omega),if_pos (by omega),show c.n.toNat=N by omega]
theorem chF_7no {l:List Fd}{c:Cg}{k:Nat}(h:c.kd=7)(hf:flAt l c.at_=some k)(hN:¬(0≤c.n∧c.n<l.length)):chF l c=none:=by
 unfold chF;rw[if_neg (by omega),hf];show(if _ then _ else if _ then _ else if _ then _ else _)=_
 rw[if_neg (by omega),if_neg (by omega),if_neg hN]
namespace evW
open nmW
theorem moveAttr_k {w:World}{B g:Nat}{nl:List Ls}{vk vl:Value}{by_:Int}{l:List (Kd×Value)}(h:DX w B g vk vl by_ nl l)(hm:SmK (l.map (·.1)))(c:Cg)(hc:c.kd=7)(A:Option Addr)(d:Nat):
  Calls Tryz.prog 68 #[.pointer (some ⟨g,0,none⟩),.agg #[.int .i64 c.kd,.string c.ty,.string c.at_,.string c.nm,.slice A c.ats.length d,.int .i64 c.n]] w (DPost (l.map (·.1)) c B g nl w):=by
 have h0:Bw w (w.alloc (.cells ⟨cgC c A d⟩ 51)):=bA;have hX0:Blk (w.alloc (.cells ⟨cgC c A d⟩ 51)) w.heap.size 51 (cgC c A d):=Blk.new _ _ _;have hk1:=at_k (h.stay h0) hm c A d;have hg:=h.bx.lt;have hBg:B≤w.heap.size:=zU h.gB (Nat.le_of_lt hg);by_cases hok:AtOk (l.map (·.1)) c
 ·obtain⟨i,p,k,x,ht,hp,hp1,hf,hx⟩:=hok.pair;have hpm:=zA hp;have hilt:i<l.length:=(zC.1 hp).1;have hklt:k<p.1.fs.length:=(zC.1 hx).1;have hfl:p.1.fs.length≤8:=hm.fl p.1 (xJ hpm);have g0:(0:Int)≤(i:Int):=by omega
  have g1:(i:Int)<l.length:=by omega
  have g2:(0:Int)≤(k:Int):=by omega
  have g3:(k:Int)<p.1.fs.length:=by omega
  have hwk:IntKind.i64.wrap ((k:Int)+1)=(k:Int)+1:=by rw[xI];omega
  have hwl:IntKind.i64.wrap ((p.1.fs.length:Int) -1)=(p.1.fs.length:Int) -1:=by rw[xI];omega
  obtain⟨gk,cap,rfl,h1,h2,_⟩:=h.at_ hp;obtain⟨gf,capf,hv,h3,h4,h5,h6⟩:=(h.fr p hpm).row (by omega);have hk2:=fun(i2 k2:Int)(b:Bool)(hI:AtIs (l.map (·.1)) c i2 k2 b)=>hI.good ht hp1 hf
  have kc:∀W,Bw w W→W.cell? ⟨g,0,none⟩=some (.slice (some ⟨gk,0,none⟩) l.length cap)∧W.cell? ⟨gk,i*3+2,none⟩=some (.slice (some ⟨gf,0,none⟩) p.1.fs.length capf)∧
    W.cell? ⟨gf,k*3,none⟩=some (.string x.nm)∧W.cell? ⟨gf,k*3+1,none⟩=some (.int .i64 x.fr)∧W.cell? ⟨gf,k*3+2,none⟩=some (.int .i64 x.fl):=fun W hW=>by
   obtain⟨a1,_,_,a2,_⟩:=(h.stay hW).at' hp;rw[hv]at a2;obtain⟨u0,b0,r0⟩:=h6 (k*3+0) _ (fmg (f:=fdD) (m:=3) (fun _=>rfl) hx rfl);obtain⟨u1,b1,r1⟩:=h6 (k*3+1) _ (fmg (f:=fdD) (m:=3) (fun _=>rfl) hx rfl);obtain⟨u2,b2,r2⟩:=h6 (k*3+2) _ (fmg (f:=fdD) (m:=3) (fun _=>rfl) hx rfl);rw[r0.v_inv]at b0;rw[r1.v_inv]at b1;rw[r2.v_inv]at b2;exact⟨a1,a2,(hW.cell (p:=⟨gf,k*3,none⟩) h4).trans b0,(hW.cell (p:=⟨gf,k*3+1,none⟩) h4).trans b1,(hW.cell (p:=⟨gf,k*3+2,none⟩) h4).trans b2⟩
  by_cases hN:0≤c.n∧c.n<p.1.fs.length
  ·obtain⟨N,hNn⟩:∃N:Nat,c.n=N:=⟨c.n.toNat,by omega⟩
   have hNl:N<p.1.fs.length:=by omega
   have hch:=chK_4 (by omega) (by omega) ht hp1 (chF_7 hc hf hNn hNl);have n0:decide ((N:Int)<0)=false:=zV (by omega);have n0':¬(N:Int)<0:=by omega
   have n1:decide ((N:Int)>(p.1.fs.length:Int) -1)=false:=zV (by omega);have n1':¬(p.1.fs.length:Int) -1<(N:Int):=by omega
   have hmp:∀v:Value,(l.set i ({p.1 with fs:=mvF p.1.fs k N},v)).map (·.1)=(l.map (·.1)).set i {p.1 with fs:=mvF p.1.fs k N}:=fun v=>map_set_fst
   have hne1:gk≠g:=fun e=>h.kr.neBlk h.bx (by decide) (by rw[←e];rfl)
   have hsec:∀W,Bw w W→w.heap.size<W.heap.size→W.cell? ⟨w.heap.size,5,none⟩=some (.int .i64 (N:Int))→
     Calls Tryz.prog 117 #[.slice (some ⟨gf,0,none⟩) p.1.fs.length capf,.int .i64 (k:Int),.int .i64 ((k:Int)+1)] (W.alloc (.cells ⟨fdV x⟩ 92)) fun e w2=>e=.returned (.slice (some ⟨gf,0,none⟩) (p.1.fs.length-1) capf)∧
      (w2.cell? ⟨g,0,none⟩=some (.slice (some ⟨gk,0,none⟩) l.length cap)∧w2.cell? ⟨w.heap.size,5,none⟩=some (.int .i64 (N:Int))∧w2.cell? ⟨W.heap.size,0,none⟩=some (.string x.nm)∧w2.cell? ⟨W.heap.size,1,none⟩=some (.int .i64 x.fr)∧w2.cell? ⟨W.heap.size,2,none⟩=some (.int .i64 x.fl))∧w.heap.size<w2.heap.size∧
      Calls Tryz.prog 118 #[.slice (some ⟨gf,0,none⟩) (p.1.fs.length-1) capf,.int .i64 (N:Int),.slice (some ⟨w2.heap.size,0,none⟩) 1 1] (w2.drew.alloc (.cells ⟨fdV x⟩ 92)) fun e w4=>∃A4 n4 c4,e=.returned (.slice A4 n4 c4)∧
       (w4.cell? ⟨g,0,none⟩=some (.slice (some ⟨gk,0,none⟩) l.length cap)∧w4.cell? ⟨w.heap.size,5,none⟩=some (.int .i64 (N:Int))∧w4.cell? ⟨W.heap.size,0,none⟩=some (.string x.nm)∧w4.cell? ⟨W.heap.size,1,none⟩=some (.int .i64 x.fr)∧w4.cell? ⟨W.heap.size,2,none⟩=some (.int .i64 x.fl))∧w4.cell? ⟨gk,i*3+2,none⟩=some (.slice (some ⟨gf,0,none⟩) p.1.fs.length capf)∧w4.frozen? ⟨gk,i*3+2,none⟩=false∧
       DX (w4.setCell ⟨gk,i*3+2,none⟩ (.slice A4 n4 c4)) B g (.slice (some ⟨gk,0,none⟩) l.length cap) vl by_ nl (l.set i ({p.1 with fs:=mvF p.1.fs k N},.slice A4 n4 c4))∧Below B w (w4.setCell ⟨gk,i*3+2,none⟩ (.slice A4 n4 c4)):=fun W hW hWs hX5=>by
    have hWa:Bw w (W.alloc (.cells ⟨fdV x⟩ 92)):=hW.alloc hW.size _;have hD1:=h.stay hWa;have ho:=hD1.fr p hpm;rw[hv]at ho;have hcapf:p.1.fs.length≤capf:=by obtain⟨cs,_,_,a,_⟩:=ho.blk;exact a
    have key:∀w2,(W.alloc (.cells ⟨fdV x⟩ 92)).grownBy w2 (some gf)→(w2.cell? ⟨g,0,none⟩=some (.slice (some ⟨gk,0,none⟩) l.length cap)∧w2.cell? ⟨w.heap.size,5,none⟩=some (.int .i64 (N:Int))∧w2.cell? ⟨W.heap.size,0,none⟩=some (.string x.nm)∧w2.cell? ⟨W.heap.size,1,none⟩=some (.int .i64 x.fr)∧w2.cell? ⟨W.heap.size,2,none⟩=some (.int .i64 x.fl)):=fun w2 hgw=>by
     have hbf:=(Blk.new W 92 (fdV x)).grown hgw (by simp;omega);have hgw':(W.alloc (.cells ⟨fdV x⟩ 92)).grownBy w2 p.2.ownBlock:=by rw[hv];exact hgw
     refine⟨(hD1.overF hp hgw').1,?_,hbf.cell 0,hbf.cell 1,hbf.cell 2⟩;exact hgw.cell (World.cell?_alloc_lt _ _ _ hWs |>.trans hX5) (by simp;omega)
    refine(delField_k B gf capf p.1.fs.length k NoB _ _ ho hklt).mono ?_;rintro e w2 ⟨rfl,hO,hgw⟩;rw[flat_erase (f:=fdD) (m:=3) (fun _=>rfl)]at hO;have hs2:W.heap.size<w2.heap.size:=by have:=hgw.size;simp at this;omega
    refine⟨rfl,key w2 hgw,by omega,?_⟩;have hO2:=(hO.drew).alloc (.cells ⟨fdV x⟩ 92);refine(insField_k B gf capf (p.1.fs.length-1) N w2.heap.size NoB _ x _ hO2 (by omega) (by omega) (by omega) (by omega) (Blk.new w2.drew _ _)).mono ?_;rintro e w4 ⟨v',rfl,hO4,hg4,hv4⟩;obtain⟨A4,c4,rfl⟩:=hO4.form;have hg24:(W.alloc (.cells ⟨fdV x⟩ 92)).grownBy w4 (some gf):=grown_trans hgw (undrew (grown_trans (World.grownBy_alloc w2.drew _ _) hg4));have hg24':(W.alloc (.cells ⟨fdV x⟩ 92)).grownBy w4 p.2.ownBlock:=by rw[hv];exact hg24
    rw[mv_flat hx]at hO4;have hln:p.1.fs.length-1+1=(mvF p.1.fs k N).length:=by rw[mv_len hklt];omega
    obtain⟨_,b2,b3⟩:=hD1.overF hp hg24';rw[hv]at b2;refine⟨_,_,_,rfl,key w4 hg24,b2,b3,hD1.putF hp hg24' (.inr rfl) (by rw[←hln];exact hO4) ?_,hD1.belowF hp (hWa.mono hBg) hg24'⟩;rcases hv4 with e |e
    ·rw[hv];exact .inl e
    ·refine .inr fun q hq=>?_
     rw[e]at hq;injection hq with hq
     simp at hq ⊢;omega
   have kX:∀w',Below (w.alloc (.cells ⟨cgC c A d⟩ 51)).heap.size (w.alloc (.cells ⟨cgC c A d⟩ 51)) w'→w.heap.size<w'.heap.size∧w'.cell? ⟨w.heap.size,5,none⟩=some (.int .i64 (N:Int)):=fun w' hB=>by
    refine⟨(hX0.stay hB).lt,?_⟩;rw[←hNn];exact(hX0.stay hB).cell 5
   replace hsec:=Hd hsec;replace hch:=Hd hch;replace hk1:=Hd hk1;replace hk2:=Hd hk2;replace h0:=Hd h0;replace kc:=Hd kc;replace kX:=Hd kX;replace hmp:=Hd hmp;clear h hm hok hp hp1 hpm hx hf ht hc h6 hv h5 h3 hN hX0 hNn;go_enter Tryz.func68,Tryz.ntmps68;go_upto_region 2 with(go_at_call 116;refine hk1.out.mono ?_;rintro e w' ⟨i2,k2,b2,rfl,hI,hB1⟩;obtain⟨rfl,rfl,rfl⟩:=hk2.out i2 k2 b2 hI;clear hI)
   have hW1:=Hd (h0.out.trans (hB1.mono h0.out.size));obtain⟨q0,q1,_,_,_⟩:=kc.out w' hW1.out;obtain⟨hsz,q5⟩:=kX.out w' hB1;clear hB1;go_quiet (fail);have hWq:=Hd (below_drewN hW1.out nq);have q5':(w'.drewN nq).cell? ⟨w.heap.size,5,none⟩=some (.int .i64 (N:Int)):=by simpa using q5
   have hszq:w.heap.size<(w'.drewN nq).heap.size:=by simpa using hsz
   clear q0 q1 q5 hsz hW1;generalize w'.drewN nq=wq at*;obtain⟨q0,q1,q2,q3,q4⟩:=kc.out wq hWq.out;have hs:=Hd (hsec.out wq hWq.out hszq q5');have hsz1:gk<wq.heap.size:=by omega
   have hsz2:g<wq.heap.size:=by omega
   have hsz3:gf<wq.heap.size:=by omega
   go_wp2_with (go_at_call 117;refine hs.out.mono ?_;rintro e w2 ⟨rfl,hS2,hs2,hins⟩;replace hins:=Hd hins;clear q0 q1 q2 q3 q4 q5');have hSS:(w2.drew.cell? ⟨g,0,none⟩=some (.slice (some ⟨gk,0,none⟩) l.length cap)∧w2.drew.cell? ⟨w.heap.size,5,none⟩=some (.int .i64 (N:Int))∧w2.drew.cell? ⟨wq.heap.size,0,none⟩=some (.string x.nm)∧w2.drew.cell? ⟨wq.heap.size,1,none⟩=some (.int .i64 x.fr)∧w2.drew.cell? ⟨wq.heap.size,2,none⟩=some (.int .i64 x.fl))∧True:=⟨hS2,trivial⟩;refine G_region (p:=10) (S0:=fun W=>W.cell? ⟨g,0,none⟩=some (.slice (some ⟨gk,0,none⟩) l.length cap)∧W.cell? ⟨w.heap.size,5,none⟩=some (.int .i64 (N:Int))∧W.cell? ⟨wq.heap.size,0,none⟩=some (.string x.nm)∧W.cell? ⟨wq.heap.size,1,none⟩=some (.int .i64 x.fr)∧W.cell? ⟨wq.heap.size,2,none⟩=some (.int .i64 x.fl)) (S1:=fun _=>True) (by kernel_rfl) ?_;refine' TkB 0 rfl hSS ?_;refine' TkB 1 rfl hSS ?_;refine' TkB 2 rfl hSS ?_;refine' TkB 3 rfl hSS ?_;refine' TkB 4 rfl hSS ?_;refine' TkB 5 rfl hSS ?_;refine' TkB 6 rfl hSS ?_;refine' TkB 7 rfl hSS ?_;refine' TkB 8 rfl hSS ?_;try simp only[Act.put,TkS]
   refine Gs 9 rfl fun K hK=>?_
   go_simp;refine hK.out _ _ ⟨?_,fun _=>trivial⟩ ?_
   ·obtain⟨a0,a1,a2,a3,a4⟩:=hS2;exact⟨(World.cell?_alloc_some w2.drew ⟨g,0,none⟩ _ (by show(w2.cell? _).isSome=true;rw[a0];rfl)).trans a0,(World.cell?_alloc_some w2.drew ⟨w.heap.size,5,none⟩ _ (by show(w2.cell? _).isSome=true;rw[a1];rfl)).trans a1,
     (World.cell?_alloc_some w2.drew ⟨wq.heap.size,0,none⟩ _ (by show(w2.cell? _).isSome=true;rw[a2];rfl)).trans a2,(World.cell?_alloc_some w2.drew ⟨wq.heap.size,1,none⟩ _ (by show(w2.cell? _).isSome=true;rw[a3];rfl)).trans a3,
     (World.cell?_alloc_some w2.drew ⟨wq.heap.size,2,none⟩ _ (by show(w2.cell? _).isSome=true;rw[a4];rfl)).trans a4⟩
   refine Gs 10 rfl fun K hK=>?_
   go_simp;go_at_call 118;refine hins.out.mono ?_;rintro e w4 ⟨A4,n4,c4,rfl,hS4,u1,u2,f1,f2⟩;replace f1:=Hd f1;replace f2:=Hd f2;refine hK.out _ _ ⟨hS4,fun _=>trivial⟩ ?_;have hST:(w4.cell? ⟨g,0,none⟩=some (.slice (some ⟨gk,0,none⟩) l.length cap)∧w4.cell? ⟨w.heap.size,5,none⟩=some (.int .i64 (N:Int))∧w4.cell? ⟨wq.heap.size,0,none⟩=some (.string x.nm)∧w4.cell? ⟨wq.heap.size,1,none⟩=some (.int .i64 x.fr)∧w4.cell? ⟨wq.heap.size,2,none⟩=some (.int .i64 x.fl))∧True:=⟨hS4,trivial⟩;clear hK K hSS hS2 hins;refine' TkB 11 rfl hST ?_;refine' TkB 12 rfl hST ?_;try simp only[Act.put,TkS]
   refine Gs 13 rfl fun K hK=>?_
   go_simp;refine hK.out _ _ ⟨?_,fun _=>trivial⟩ ?_
   ·obtain⟨a0,a1,a2,a3,a4⟩:=hS4;refine⟨?_,?_,?_,?_,?_⟩
    ·rw[World.cell?_setCell_far _ _ _ _ (by show gk≠g;exact hne1)];exact a0
    ·rw[World.cell?_setCell_far _ _ _ _ (by show gk≠w.heap.size;omega)];exact a1
    ·rw[World.cell?_setCell_far _ _ _ _ (by show gk≠wq.heap.size;omega)];exact a2
    ·rw[World.cell?_setCell_far _ _ _ _ (by show gk≠wq.heap.size;omega)];exact a3
    ·rw[World.cell?_setCell_far _ _ _ _ (by show gk≠wq.heap.size;omega)];exact a4
   refine Gd _ ?_;try simp only[Act.put,TkS]
   clear hK K hST hS4 u1 u2;go_wp2;go_ret;exact DPost.mk_some hch.out f1.out (hmp.out _) rfl f2.out
  ·have hch:=chK_none (by omega) ht hp1 (chF_7no hc hf hN);have kX:∀w',Below (w.alloc (.cells ⟨cgC c A d⟩ 51)).heap.size (w.alloc (.cells ⟨cgC c A d⟩ 51)) w'→w'.cell? ⟨w.heap.size,5,none⟩=some (.int .i64 c.n):=fun w' hB=>(hX0.stay hB).cell 5
   replace hch:=Hd hch;replace hk1:=Hd hk1;replace hk2:=Hd hk2;replace h0:=Hd h0;replace kc:=Hd kc;replace kX:=Hd kX;clear h hm hok hp hp1 hpm hx hf ht hc h6 hv h5 h3 hX0;have hNN:c.n<0∨(0≤c.n∧(p.1.fs.length:Int)≤c.n):=by omega
   clear hN;rcases hNN with hlo |⟨hhi1,hhi2⟩
   ·have n0:decide (c.n<0)=true:=zW hlo;go_enter Tryz.func68,Tryz.ntmps68;go_upto_region 2 with(go_at_call 116;refine hk1.out.mono ?_;rintro e w' ⟨i2,k2,b2,rfl,hI,hB1⟩;obtain⟨rfl,rfl,rfl⟩:=hk2.out i2 k2 b2 hI;clear hI)
    have hW1:=Hd (h0.out.trans (hB1.mono h0.out.size));have q5:=kX.out w' hB1;clear hB1;go_quiet (fail);go_wp2;go_ret;exact DPost.mk_none hch.out ((below_drewN hW1.out _).mono hBg)
   ·have n0:decide (c.n<0)=false:=zV (by omega);have n0':¬c.n<0:=by omega
    have n1:decide (c.n>(p.1.fs.length:Int) -1)=true:=zW (by omega);have n1':(p.1.fs.length:Int) -1<c.n:=by omega
    go_enter Tryz.func68,Tryz.ntmps68;go_upto_region 2 with(go_at_call 116;refine hk1.out.mono ?_;rintro e w' ⟨i2,k2,b2,rfl,hI,hB1⟩;obtain⟨rfl,rfl,rfl⟩:=hk2.out i2 k2 b2 hI;clear hI)
    have hW1:=Hd (h0.out.trans (hB1.mono h0.out.size));have q5:=kX.out w' hB1;obtain⟨q0,q1,_,_,_⟩:=kc.out w' hW1.out;clear hB1;go_quiet (fail);go_wp2;go_ret;exact DPost.mk_none hch.out ((below_drewN hW1.out _).mono hBg)
 ·have hch:=chK_noAt (by omega) (by omega) hok;have hk2:=fun(i2 k2:Int)(b:Bool)(hI:AtIs (l.map (·.1)) c i2 k2 b)=>hI.bad hok
  replace hch:=Hd hch;replace hk1:=Hd hk1;replace hk2:=Hd hk2;replace h0:=Hd h0;clear h hm hok hc hX0;go_enter Tryz.func68,Tryz.ntmps68;go_upto_region 2 with(go_at_call 116;refine hk1.out.mono ?_;rintro e w' ⟨i2,k2,b2,rfl,hI,hB1⟩;obtain rfl:=hk2.out i2 k2 b2 hI;clear hI)
  go_quiet (fail);go_wp2;go_ret;exact DPost.mk_none hch.out ((below_drewN (h0.out.trans (hB1.mono h0.out.size)) _).mono hBg)
end evW
def tcD (p:Td×Value):List D:=[.v (.string p.1.name),.v p.2]
structure OSc (w:World)(B:Nat)(v:Value)(l:List (Td×Value)):Prop where
 kr:OL w B NoB 47 2 v l.length (l.flatMap tcD)
 fr:∀p∈l,OL w B NoB 9 1 p.2 p.1.attrs.length (p.1.attrs.flatMap strD)
 ne:∀(i j:Nat)(p q:Td×Value),l[i]? =some p→l[j]? =some q→i≠j→p.2.ownBlock=none∨p.2.ownBlock≠q.2.ownBlock
section
variable {w:World}{B:Nat}{v:Value}{l:List (Td×Value)}
theorem OSc.nil (w:World)(B:Nat):OSc w B (.slice none 0 0) []:=⟨.nil _ _ _ _ _,fun p hp=>by simp at hp,fun i j p q hp=>by simp at hp⟩
theorem OSc.stay {w2:World}(h:OSc w B v l)(hb:Bw w w2):OSc w2 B v l:=⟨h.kr.stay hb,fun p hp=>(h.fr p hp).stay hb,h.ne⟩
theorem OSc.far {p:Addr}{x:Value}(h:OSc w B v l)(hp:p.block<B):OSc (w.setCell p x) B v l:=
 ⟨h.kr.setCell (fun e=>by have:=(h.kr.lt _ e).1;omega) (fun h=>h) _,fun q hq=>(h.fr q hq).setCell (fun e=>by have:=((h.fr q hq).lt _ e).1;omega) (fun h=>h) _,h.ne⟩
theorem OSc.base {B':Nat}(h:OSc w B v l)(hB:B'≤B):OSc w B' v l:=⟨h.kr.base hB,fun p hp=>(h.fr p hp).base hB,h.ne⟩
theorem OSc.snoc {w1:World}{v' u:Value}{t:Td}(h:OSc w B v l)(hg:w.grownBy w1 v.ownBlock)(hv:OL w1 B NoB 47 2 v' (l.length+1) (l.flatMap tcD++tcD (t,u)))
  (hu:OL w B NoB 9 1 u t.attrs.length (t.attrs.flatMap strD))(hne:∀p∈l,u.ownBlock=none∨u.ownBlock≠p.2.ownBlock):OSc w1 B v' (l++[(t,u)]):=by
 refine⟨by simpa using hv,fun p hp=>?_,?_⟩
 ·rcases zM.1 hp with hp |hp
  ·exact(h.fr p hp).kept hg ((h.fr p hp).ne h.kr (by decide)) (fun _ hb=>hb.elim)
  ·simp at hp;subst hp;exact hu.kept hg (hu.ne h.kr (by decide)) (fun _ hb=>hb.elim)
 ·intro a b x y hx hy hab;have get:∀{a:Nat} {x},(l++[(t,u)])[a]? =some x→(a<l.length∧l[a]? =some x)∨(a=l.length∧x=(t,u)):=fun {a x} hx=>by
   by_cases ha:a<l.length
   ·rw[zS ha]at hx;exact .inl ⟨ha,hx⟩
   ·rw[zP (by omega)]at hx;have:=(zC.1 hx).1;simp at this;have e:a-l.length=0:=by omega
    rw[e]at hx;exact .inr ⟨by omega,by simpa using hx.symm⟩
  rcases get hx with⟨h1,h2⟩|⟨h1,rfl⟩
  ·rcases get hy with⟨h3,h4⟩|⟨h3,rfl⟩
   ·exact h.ne a b x y h2 h4 hab
   ·exact ne_sym (hne x (zA h2))
  ·rcases get hy with⟨h3,h4⟩|⟨h3,rfl⟩
   ·exact hne y (zA h4)
   ·omega
theorem tc_get {l:List (Td×Value)}{k:Nat}{d:D}(h:((l.map (·.1)).flatMap tdD)[k]? =some d):∃d',(l.flatMap tcD)[k]? =some d'∧(d'=d∨∃p∈l,d'=.v p.2∧d=.sl p.1.attrs.length (p.1.attrs.flatMap strD)):=by
 induction l generalizing k with
 |nil=>simp at h
 |cons a l ih=>
  rw[List.map_cons,zK]at h;rw[zK];by_cases hk:k<2
  ·rw[zS (by show k<2;omega)]at h;rw[zS (by show k<2;omega)];match k,hk with
   |0,_=>exact⟨_,rfl,.inl (zq9 h)⟩
   |1,_=>exact⟨_,rfl,.inr ⟨a,xS,rfl,(zq9 h).symm⟩⟩
  ·rw[zP (by show 2≤k;omega)]at h;rw[zP (by show 2≤k;omega)];obtain⟨d',h1,h2⟩:=ih h;refine⟨d',h1,?_⟩;rcases h2 with h2 |⟨p,hp,h3⟩
   ·exact .inl h2
   ·exact .inr ⟨p,xU _ hp,h3⟩
theorem td_len (l:List Td):(l.flatMap tdD).length=l.length*2:=fml (f:=tdD) (m:=2) (fun _=>rfl) l
theorem OSc.ol {G:Nat→Prop}(h:OSc w B v l)(hG:∀b,B≤b→b<w.heap.size→G b):OL w B G 47 2 v l.length ((l.map (·.1)).flatMap tdD):=by
 obtain⟨cells,h1,h2,h3⟩:=h.kr;refine⟨cells,h1,by rw[td_len,xC,h1.1],fun k d hd=>?_⟩;obtain⟨d',hd',hor⟩:=tc_get hd;obtain⟨u,hu,hr⟩:=h3 k d' hd';refine⟨u,hu,?_⟩;rcases hor with rfl |⟨p,hp,rfl,rfl⟩
 ·exact hr.mono fun b hb _=>hb.1.elim
 ·have hv:=hr.v_inv;subst hv;refine(h.fr p hp).rd' (fun b hb _=>hb.elim) (fun b hb h1 h2=>⟨hG b h1 h2,fun e=>?_⟩);rcases(h.fr p hp).ne h.kr (by decide)with e2 |e2
  ·rw[hb]at e2;cases e2
  ·exact e2 (by rw[hb,e])
theorem OSc.rd {G:Nat→Prop}(h:OSc w B v l)(hG:∀b,B≤b→b<w.heap.size→G b):Rd w G v (.sl l.length ((l.map (·.1)).flatMap tdD)):=
 (h.ol (G:=G) hG).rd (fun b hb _=>hb) hG
end
structure PS (w wr:World)(u:Value)(l:List (Td×Value)):Prop where
 hb:Bw w wr
 b0:Blk wr w.heap.size 24 [.slice none 0 0]
 b1:Blk wr (w.heap.size+1) 24 [u]
 os:OSc wr (w.heap.size+1+1) u l
theorem PS.stay {w wr w2:World}{u:Value}{l:List (Td×Value)}(h:PS w wr u l)(hb:Bw wr w2):PS w w2 u l:=
 ⟨h.hb.trans (hb.mono h.hb.size),h.b0.stay hb,h.b1.stay hb,h.os.stay hb⟩
theorem PS.put {w wr w1:World}{u v:Value}{l l':List (Td×Value)}(h:PS w wr u l)(hg:wr.grownBy w1 u.ownBlock)(hO:OSc w1 (w.heap.size+1+1) v l'):PS w (w1.setCell ⟨w.heap.size+1,0,none⟩ v) v l':=by
 have hr:∀q,u.ownBlock=some q→w.heap.size+1<q:=fun q hq=>(h.os.kr.lt q hq).1
 exact⟨(h.hb.grown hg h.hb.size (fun q hq=>by have:=hr q hq;omega)).setCell (by show _≤w.heap.size+1;omega) _,(h.b0.grown hg (fun e=>by have:=hr _ e.symm;omega)).far (by show w.heap.size≠w.heap.size+1;omega) _,(h.b1.grown hg (fun e=>by have:=hr _ e.symm;omega)).set_ 0 v,hO.far (by show w.heap.size+1<_;omega)⟩
def OSPost (T:List Td)(w:World)(e:Ending)(w':World):Prop:=∃v l,e=.returned (.agg #[v])∧OSc w' w.heap.size v l∧l.map (·.1)=T∧Bw w w'
def SRel (w:World)(T:List Td)(x:Value)(wr:World):Prop:=∃(j:Nat)(u:Value)(lj:List (Td×Value)),j≤T.length∧x=.int .i64 j∧PS w wr u lj∧lj.map (·.1)=T.take j
theorem SRel.mk {w:World}{T:List Td}{x:Value}{wr:World}(j:Nat)(u:Value)(lj:List (Td×Value))(h1:j≤T.length)(h2:x=.int .i64 j)(h3:PS w wr u lj)(h4:lj.map (·.1)=T.take j):SRel w T x wr:=⟨j,u,lj,h1,h2,h3,h4⟩
end Go.Proofs.YtfiodnlgiglhfaaGreatDoor
namespace Go.Proofs.YtfiodnlgiglhfaaGreatDoor
open Go.RowKit Go.Deep
set_option linter.unusedVariables false
theorem kn_take {l:List (Kd×Value)}{j:Nat}{p:Kd×Value}(h:l[j]? =some p):((l.map (·.1)).map tdOf).take (j+1)=((l.map (·.1)).map tdOf).take j++[tdOf p.1]:=by
 rw[zJ,zG,zG,h];rfl
namespace evW
open nmW
theorem schema_k {w:World}{B g:Nat}{nl:List Ls}{vk vl:Value}{by_:Int}{l:List (Kd×Value)}(h:DX w B g vk vl by_ nl l)(hl:l.length≤1048576)(hl2:∀p∈l,p.1.fs.length≤1048576):
  Calls Tryz.prog 33 #[.pointer (some ⟨g,0,none⟩)] w (OSPost ((l.map (·.1)).map tdOf) w):=by
 obtain⟨A,ca,rfl⟩:=h.kr.form;have hg:=h.bx.lt;have hT:((l.map (·.1)).map tdOf).length=l.length:=by simp
 have g0:∀W,Bw w W→W.cell? ⟨g,0,none⟩=some (.slice A l.length ca):=fun W hW=>(h.stay hW).c0
 have kd:=fun W (hW:Bw w W)=>h.stay hW
 have c0:=h.c0;have hst:PS w ((w.alloc (.cells ⟨[.slice none 0 0]⟩ 24)).alloc (.cells ⟨[.slice none 0 0]⟩ 24)) (.slice none 0 0) []:=
  ⟨(bA).alloc (by simp) _,(Blk.new _ _ _).alloc _,Blk.new' (by simp),.nil _ _⟩
 replace hst:=Hd hst;replace kd:=Hd kd;replace hl2:=Hd hl2;replace hT:=Hd hT;clear h g0;go_enter Tryz.func33,Tryz.ntmps33;go_wp2;go_loopw [14] (fun x wr=>SRel w ((l.map (·.1)).map tdOf) x wr) (fun x _=>l.length- (intOf x).toNat)
 case atStart=>exact SRel.mk 0 _ [] (zE _) rfl hst.out rfl
 case round=>
  obtain⟨j,s3,lj,hj,rfl,hP,hlj⟩:=hrel;rw[hT.out]at hj;have hljl:lj.length=j:=by
   have:=congrArg List.length hlj;rw[xC,zO,hT.out]at this;omega
  have hlj5:lj.length≤1048576:=by omega
  replace hljl:=Hd hljl;have hDr:=kd.out wr hP.hb;by_cases hlt:j<l.length
  ·obtain⟨p,hp⟩:=getx hlt;have hpm:=zA hp;have hs2:=hl2.out p hpm;obtain⟨gk,cap,hA,h1,h2,_,v0,v1,v2⟩:=hDr.at_ hp;injection hA with hA1 hA2 hA3
   subst hA1 hA3;obtain⟨A2,c2,hv2⟩:=(hDr.fr p hpm).form;rw[hv2]at v2;have g0:(0:Int)≤(j:Int):=by omega
   have g1:(j:Int)<l.length:=by omega
   have hkt:=kn_take hp;obtain⟨wo,hwo⟩:∃wo:World,wo=wr:=⟨_,rfl⟩
   subst hwo;obtain⟨W1,hW1⟩:∃W1,W1=wo.alloc (.cells ⟨[.string p.1.nm,.int .i64 p.1.fr,.slice A2 p.1.fs.length c2]⟩ 90):=⟨_,rfl⟩
   have hs1:W1.heap.size=wo.heap.size+1:=by rw[hW1];simp
   have hB1:Bw wo W1:=by rw[hW1];exact bA
   have hsi:IC W1 ((wo.alloc (.cells ⟨[.string p.1.nm,.int .i64 p.1.fr,.slice A2 p.1.fs.length c2]⟩ 90)).alloc (.cells ⟨[.string p.1.nm,.slice none 0 0]⟩ 47)) 47 p.1.nm (.slice none 0 0) 9 0 []:=by
    rw[←hW1];exact⟨bA,Blk.new _ _ _,.nil _ _ _ _ _⟩
   have hkf:∀W (k:Nat)(x:Fd),Bw wo W→p.1.fs[k]? =some x→∃gf,A2=some ⟨gf,0,none⟩∧W.cell? ⟨gf,k*3,none⟩=some (.string x.nm)∧W.cell? ⟨gf,k*3+1,none⟩=some (.int .i64 x.fr)∧W.cell? ⟨gf,k*3+2,none⟩=some (.int .i64 x.fl):=fun W k x hW hx=>by
    have hk:=(zC.1 hx).1;have hff:=(hDr.stay hW).fr p hpm;rw[hv2]at hff;obtain⟨gf,capf,e,_,_,_,h6⟩:=hff.row (by omega);injection e with e1 e2 e3
    obtain⟨u0,b0,r0⟩:=h6 (k*3+0) _ (fmg (f:=fdD) (m:=3) (fun _=>rfl) hx rfl);obtain⟨u1,b1,r1⟩:=h6 (k*3+1) _ (fmg (f:=fdD) (m:=3) (fun _=>rfl) hx rfl);obtain⟨u2,b2,r2⟩:=h6 (k*3+2) _ (fmg (f:=fdD) (m:=3) (fun _=>rfl) hx rfl);rw[r0.v_inv]at b0;rw[r1.v_inv]at b1;rw[r2.v_inv]at b2;exact⟨gf,e1,b0,b1,b2⟩
   have hw0:=hP.b1.lt;have hP':=Hd hP;replace hsi:=Hd hsi;replace hkf:=Hd hkf;replace hs1:=Hd hs1;replace hB1:=Hd hB1;replace hkt:=Hd hkt;replace hlj:=Hd hlj;clear hp hpm hDr hW1 hv2 hP;go_wp2;go_loopw [24] (fun y wr=>∃(k:Nat)(u:Value),k≤p.1.fs.length∧y=.int .i64 k∧IC W1 wr 47 p.1.nm u 9 k (((p.1.fs.map (·.nm)).take k).flatMap strD)) (fun y _=>p.1.fs.length- (intOf y).toNat)
   case atStart=>exact⟨0,.slice none 0 0,zE _,rfl,hsi.out⟩
   case round=>
    obtain⟨k,u,hk,rfl,hI⟩:=hrel;have hBo:Bw wo wr:=hB1.out.trans (hI.hb.mono hB1.out.size);have i2:wr.cell? ⟨wo.heap.size+1,1,none⟩=some u:=by rw[←hs1.out];exact hI.bx.cell 1
    have i3:wr.frozen? ⟨wo.heap.size+1,1,none⟩=false:=(by rw[←hs1.out];exact hI.bx.frozen 1);have hz:wo.heap.size+1<wr.heap.size:=by rw[←hs1.out];exact hI.bx.lt
    clear v0 v1 v2;by_cases hlk:k<p.1.fs.length
    ·obtain⟨x,hx⟩:=getx hlk;obtain⟨gf,rfl,q0,q1,q2⟩:=hkf.out wr k x hBo hx;have g2:(0:Int)≤(k:Int):=by omega
     have g3:(k:Int)<p.1.fs.length:=(by omega);have hfk:=fdN_next hx;have hup:∀(w1:World)(v':Value),((wr.alloc (.cells ⟨fdV x⟩ 92)).alloc (.cells ⟨[.string x.nm]⟩ 9)).grownBy w1 u.ownBlock→OL w1 (W1.heap.size+1) NoB 9 1 v' (k+1) (((p.1.fs.map (·.nm)).take k).flatMap strD++strD x.nm)→w1.cell? ⟨wo.heap.size+1,1,none⟩=some u∧w1.frozen? ⟨wo.heap.size+1,1,none⟩=false∧
       IC W1 (w1.setCell ⟨wo.heap.size+1,1,none⟩ v') 47 p.1.nm v' 9 (k+1) (((p.1.fs.map (·.nm)).take (k+1)).flatMap strD):=fun w1 v' hg hO=>by
      have hB:=hI.stay ((bX (.cells ⟨fdV x⟩ 92)).alloc (by simp) (.cells ⟨[.string x.nm]⟩ 9));have t0:=hB.bx.grown hg (fun e=>by have:=(hI.ol.lt _ e.symm).1;omega);have:=hB.put hg (fun q hq=>(hI.ol.lt q hq).1) hO;rw[←hs1.out,hfk];exact⟨t0.cell 1,t0.frozen 1,this⟩
     have hol:=Hd hI.ol;replace hup:=Hd hup;have hs9:W1.heap.size+1≤wr.heap.size:=hI.bx.lt;clear hx hI hfk hBo;go_wp2_with (at_builtin;refine wpa rfl (.tmp 29) (.tmp 32) _ rfl (m:=1) (news:=strD x.nm) elStr ((hol.out.alloc (.cells ⟨fdV x⟩ 92)).alloc (.cells ⟨[.string x.nm]⟩ 9)) rfl rfl (Src.lit' (by simp) (show RdL (wr.alloc (.cells ⟨fdV x⟩ 92)) _ [.string x.nm] (strD x.nm)from⟨.v _ rfl,trivial⟩)) rfl (by omega) (by omega) (by simp;omega) ?_;intro v' w1 hO1 hg1 ha1;obtain⟨B3,d3,rfl⟩:=hO1.form;obtain⟨t1,t2,t3⟩:=hup.out _ _ hg1 hO1;replace t3:=Hd t3);go_roundw
     case rel=>exact⟨k+1,_,by omega,by go_num,t3.out⟩
     case measure=>simp[intOf];omega
    ·have hkn:k=p.1.fs.length:=(by omega);subst hkn;have htk:(p.1.fs.map (·.nm)).take p.1.fs.length=p.1.fs.map (·.nm):=xH (by simp);rw[htk]at hI;obtain⟨U,cu,rfl⟩:=hI.ol.form;have i0:wr.cell? ⟨wo.heap.size+1,0,none⟩=some (.string p.1.nm):=by rw[←hs1.out];exact hI.bx.cell 0
     have hPr:=hP'.out.stay hBo;have z1:wr.cell? ⟨w.heap.size+1,0,none⟩=some s3:=hPr.b1.cell 0;have hPa:=hPr.stay (bX (.cells ⟨[.string p.1.nm,.slice U p.1.fs.length cu]⟩ 47));have hfu:OL (wr.alloc (.cells ⟨[.string p.1.nm,.slice U p.1.fs.length cu]⟩ 47)) (w.heap.size+1+1) NoB 9 1 (.slice U p.1.fs.length cu) (tdOf p.1).attrs.length ((tdOf p.1).attrs.flatMap strD):=by
      have:=(hI.ol.base (B':=w.heap.size+1+1) (by have:=hs1.out;omega)).alloc (.cells ⟨[.string p.1.nm,.slice U p.1.fs.length cu]⟩ 47);simpa[tdOf] using this
     have hap:∀q∈lj,(Value.slice U p.1.fs.length cu).ownBlock=none∨(Value.slice U p.1.fs.length cu).ownBlock≠q.2.ownBlock:=fun q hq=>by
      cases hb:(Value.slice U p.1.fs.length cu).ownBlock with
      |none=>exact .inl rfl
      |some b=>
       refine .inr fun he=>?_
       have h1:=(hI.ol.lt b hb).1;have h2:=((hP'.out.os.fr q hq).lt b he.symm).2;have:=hs1.out;omega
     obtain⟨A3,c3,rfl⟩:=hPr.os.kr.form;have hkr:=Hd hPa.os.kr;have hup:∀(w1:World)(v':Value),(wr.alloc (.cells ⟨[.string p.1.nm,.slice U p.1.fs.length cu]⟩ 47)).grownBy w1 (Value.slice A3 lj.length c3).ownBlock→OL w1 (w.heap.size+1+1) NoB 47 2 v' (lj.length+1) (lj.flatMap tcD++tcD (tdOf p.1,.slice U p.1.fs.length cu))→
       w1.cell? ⟨w.heap.size+1,0,none⟩=some (.slice A3 lj.length c3)∧w1.frozen? ⟨w.heap.size+1,0,none⟩=false∧PS w (w1.setCell ⟨w.heap.size+1,0,none⟩ v') v' (lj++[(tdOf p.1,.slice U p.1.fs.length cu)]):=fun w1 v' hg hO=>by
      have hlow:∀q,(Value.slice A3 lj.length c3).ownBlock=some q→w.heap.size+1<q:=fun q hq=>(hPr.os.kr.lt q hq).1
      have t0:=hPa.b1.grown hg (fun e=>by have:=hlow _ e.symm;omega);exact⟨t0.cell 0,t0.frozen 0,hPa.put hg (hPa.os.snoc hg hO hfu hap)⟩
     have hsz9:w.heap.size+1+1≤wr.heap.size:=(by omega);replace hup:=Hd hup;clear hI htk hPr hPa hfu hap hBo;go_wp2_with (at_builtin;refine wpa rfl (.tmp 37) (.tmp 39) _ rfl (m:=1) (news:=tcD (tdOf p.1,.slice U p.1.fs.length cu)) elTd hkr.out rfl rfl (Src.lit (show RdL wr _ [.string p.1.nm,.slice U p.1.fs.length cu] (tcD (tdOf p.1,.slice U p.1.fs.length cu))from⟨.v _ rfl,.v _ rfl,trivial⟩)) rfl (by omega) (by omega) (by simp;omega) ?_;intro v' w1 hO1 hg1 ha1;obtain⟨B3,d3,rfl⟩:=hO1.form;obtain⟨t0,t1,t2⟩:=hup.out _ _ hg1 hO1;replace t2:=Hd t2);go_roundw
     case rel=>exact SRel.mk (j+1) _ _ (by have:=hT.out;omega) (by go_num) t2.out (by rw[hkt.out,xR,hlj.out];rfl)
     case measure=>simp[intOf];omega
  ·have hjn:j=l.length:=by omega
   have hlj2:lj.map (·.1)=(l.map (·.1)).map tdOf:=by rw[hlj,xH (by rw[hT.out];omega)]
   obtain⟨U,cu,rfl⟩:=hP.os.kr.form;have z1:wr.cell? ⟨w.heap.size+1,0,none⟩=some (.slice U lj.length cu):=hP.b1.cell 0;have p0:wr.cell? ⟨w.heap.size,0,none⟩=some (.slice none 0 0):=hP.b0.cell 0;have f0:wr.frozen? ⟨w.heap.size,0,none⟩=false:=hP.b0.frozen 0;have e1:Blk (wr.setCell ⟨w.heap.size,0,none⟩ (.slice U lj.length cu)) w.heap.size 24 [.slice U lj.length cu]:=hP.b0.set_ 0 _;have e2:OSc (wr.setCell ⟨w.heap.size,0,none⟩ (.slice U lj.length cu)) w.heap.size (.slice U lj.length cu) lj:=(hP.os.far (by show w.heap.size<_;omega)).base (by omega);have e3:=Hd (hP.hb.setCell (p:=⟨w.heap.size,0,none⟩) (by simp) (.slice U lj.length cu));replace e1:=Hd e1;replace e2:=Hd e2;replace hlj2:=Hd hlj2;clear hP hDr hlj;go_wp2;exact bpa rfl e1.out aggSc rfl rfl ⟨_,_,rfl,e2.out,hlj2.out,e3.out⟩
end evW
def doesV:List Value:=[.nilFunc,.func (.func 62) #[] #[],.func (.func 63) #[] #[],.func (.func 64) #[] #[],.func (.func 65) #[] #[],
 .func (.func 66) #[] #[],.func (.func 67) #[] #[],.func (.func 68) #[] #[]]
theorem aggDoes:AggT Tryz.prog 94 8:=⟨_,Tryz.underlying94,rfl,by kernel_rfl⟩
namespace evW
open nmW
theorem tableP_k (w:World):Calls Tryz.prog 32 #[] w fun e w'=>e=.returned (.agg ⟨doesV⟩)∧Bw w w':=by
 have h0':=Hd ((zB w.heap.size w).alloc nR (.cells ⟨doesV⟩ 94));go_enter Tryz.func32,Tryz.ntmps32;go_wp2;exact bpa rfl (Blk.new w _ doesV) aggDoes rfl rfl ⟨rfl,h0'.out⟩
end evW
def DoesPost (q:Nat)(c:Cg)(A:Option Addr)(d g:Nat)(W:World)(R:Ending→World→Prop):Prop:=∃f,doesV[q]? =some (.func (.func f) #[] #[])∧(∀args w,(callFunc f args).run Tryz.prog w=.ok (.enter f args) w)∧
 Calls Tryz.prog f #[.pointer (some ⟨g,0,none⟩),.agg #[.int .i64 (q:Int),.string c.ty,.string c.at_,.string c.nm,.slice A c.ats.length d,.int .i64 c.n]] W R
theorem eqIn_nil (w:World)(d:Nat):(Op.equalIn (d+1) 93 .nilFunc .nilFunc).run Tryz.prog w=.ok true w:=by
 simp[Op.equalIn,run_underlying Tryz.underlying93]
theorem eqIn_fn (w:World)(d f:Nat):(Op.equalIn (d+1) 93 (.func (.func f) #[] #[]) .nilFunc).run Tryz.prog w=.ok false w:=by
 simp[Op.equalIn,run_underlying Tryz.underlying93]
theorem eql_nil (w:World):(binOp .eql 93 .nilFunc .nilFunc).run Tryz.prog w=.ok (.bool true) w:=by
 simp only[binOp];simp[Op.equal,Op.maxDepth,eqIn_nil w 9999]
theorem eql_fn (w:World)(f:Nat):(binOp .eql 93 (.func (.func f) #[] #[]) .nilFunc).run Tryz.prog w=.ok (.bool false) w:=by
 simp only[binOp];simp[Op.equal,Op.maxDepth,eqIn_fn w 9999]
namespace evW
open nmW
theorem does_k {w:World}{B g:Nat}{nl:List Ls}{vk vl:Value}{by_:Int}{l:List (Kd×Value)}(h:DX w B g vk vl by_ nl l)(hm:SmK (l.map (·.1)))(hnl:nl.length≤1048576)(c:Cg)(q:Nat)(hq:c.kd=q)(h1:1≤q)(h7:q≤7)(hc2:c.ats.length≤1048576)(A:Option Addr)(d:Nat)(G:Nat→Prop)(hG:∀b,G b→b<w.heap.size)
  (rc:Rd w G (.slice A c.ats.length d) (.sl c.ats.length (c.ats.flatMap strD))):DoesPost q c A d g w (DPost (l.map (·.1)) c B g (nl++lsOf (l.map (·.1)) c by_) w):=by
 have e:q=1∨q=2∨q=3∨q=4∨q=5∨q=6∨q=7:=by omega
 rcases e with rfl |rfl |rfl |rfl |rfl |rfl |rfl
 ·rw[lsOf_no (by omega) (by omega),zT];exact⟨_,rfl,enters_of Tryz.func62 (by kernel_rfl) rfl,hq▸addType_k h hm c hq hc2 A d G hG rc⟩
 ·exact⟨_,rfl,enters_of Tryz.func63 (by kernel_rfl) rfl,hq▸dropType_k h hm hnl c hq A d⟩
 ·rw[lsOf_no (by omega) (by omega),zT];exact⟨_,rfl,enters_of Tryz.func64 (by kernel_rfl) rfl,hq▸renameType_k h hm c hq A d⟩
 ·rw[lsOf_no (by omega) (by omega),zT];exact⟨_,rfl,enters_of Tryz.func65 (by kernel_rfl) rfl,hq▸addAttr_k h hm c hq A d⟩
 ·exact⟨_,rfl,enters_of Tryz.func66 (by kernel_rfl) rfl,hq▸dropAttr_k h hm hnl c hq A d⟩
 ·rw[lsOf_no (by omega) (by omega),zT];exact⟨_,rfl,enters_of Tryz.func67 (by kernel_rfl) rfl,hq▸renameAttr_k h hm c hq A d⟩
 ·rw[lsOf_no (by omega) (by omega),zT];exact⟨_,rfl,enters_of Tryz.func68 (by kernel_rfl) rfl,hq▸moveAttr_k h hm c hq A d⟩
end evW
end Go.Proofs.YtfiodnlgiglhfaaGreatDoor
