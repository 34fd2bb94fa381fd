/- Subtrees of the program. -/
import Derived.Test.YthaabihjeomipaaGreatDoorQG6
import Derived.Laws.EntriesVeiled
namespace Go.Proofs.YthaabihjeomipaaGreatDoor
set_option maxRecDepth 100000
set_option maxHeartbeats 16000000
open Go.RowKit Go.Deep Go.Maps
set_option linter.unusedVariables false
set_option linter.unusedSimpArgs false
theorem treeB_lt {t:List Nd}(h:treeB t=true):∀x∈t,(-1≤x.a∧x.a<t.length)∧(-1≤x.b∧x.b<t.length):=by
 obtain⟨_,ha,_⟩:=treeB_sp h;intro x hx;obtain⟨i,hi⟩:=List.mem_iff_getElem?.1 hx;have hil:=(zC.1 hi).1;obtain⟨b,hb⟩:=ha i hil;obtain⟨y,hy,hcs⟩:=hb.inv;rw[hi]at hy;obtain rfl:=zq9 hy;rcases hcs with⟨_,h1,h2,_⟩|⟨j,_,h1,h2,_,_⟩|⟨m,j,_,h1,h2,h3,h4,_⟩
 ·omega
 ·omega
 ·have:=h4.le;omega
theorem sh_step {L:List Nd}{b j g:Nat}{x:Nd}{W:World}(h:L[j]? =some x)(hb:Blk W g 96 ((shR L b j).flatMap ndV)):
  (0≤x.a→0≤x.b→Blk ((W.setCell ⟨g,j*6+4,none⟩ (.int .i64 (x.a-b))).setCell ⟨g,j*6+5,none⟩ (.int .i64 (x.b-b))) g 96 ((shR L b (j+1)).flatMap ndV))∧
  (0≤x.a→¬0≤x.b→Blk (W.setCell ⟨g,j*6+4,none⟩ (.int .i64 (x.a-b))) g 96 ((shR L b (j+1)).flatMap ndV))∧
  (¬0≤x.a→0≤x.b→Blk (W.setCell ⟨g,j*6+5,none⟩ (.int .i64 (x.b-b))) g 96 ((shR L b (j+1)).flatMap ndV))∧
  (¬0≤x.a→¬0≤x.b→Blk W g 96 ((shR L b (j+1)).flatMap ndV)):=by
 obtain⟨h1,h2⟩:=shR_get (b:=b) h;refine⟨fun p q=>?_,fun p q=>?_,fun p q=>?_,fun p q=>?_⟩
 ·have e1:=ndV_set (c:=4) (p:=x) (p':={x with a:=x.a-b}) (x:=.int .i64 (x.a-b)) oQ rfl h1;have h3:((shR L b j).set j {x with a:=x.a-b})[j]? =some {x with a:=x.a-b}:=by
   rw[List.getElem?_set_self];exact(zC.1 h1).1
  have e2:=ndV_set (c:=5) (p':=shiftN b x) (x:=.int .i64 (x.b-b)) oQ (by unfold shiftN;rw[if_pos p,if_pos q];rfl) h3;rw[List.set_set,h2]at e2;have:=(hb.set_ (j*6+4) (.int .i64 (x.a-b))).set_ (j*6+5) (.int .i64 (x.b-b));rw[e1,e2]at this;exact this
 ·have e1:=ndV_set (c:=4) (p':=shiftN b x) (x:=.int .i64 (x.a-b)) oQ (by unfold shiftN;rw[if_pos p,if_neg q];rfl) h1;have:=hb.set_ (j*6+4) (.int .i64 (x.a-b));rw[e1,h2]at this;exact this
 ·have e1:=ndV_set (c:=5) (p':=shiftN b x) (x:=.int .i64 (x.b-b)) oQ (by unfold shiftN;rw[if_neg p,if_pos q];rfl) h1;have:=hb.set_ (j*6+5) (.int .i64 (x.b-b));rw[e1,h2]at this;exact this
 ·have e:shiftN b x=x:=by unfold shiftN;rw[if_neg p,if_neg q]
  rw[e]at h2;rw[←h2];have:(shR L b j).set j x=shR L b j:=by
   obtain⟨h3,h4⟩:=zC.1 h1;rw[←h4];exact List.set_getElem_self h3
  rw[this];exact hb
theorem cp_nodes {t:List Nd}{w W:World}{F:Nat→Prop}{g off c b n:Nat}(r:Rd W F (.slice (some ⟨g,off,none⟩) t.length c) (.sl t.length (t.flatMap ndD)))(hF:∀b,F b→b<W.heap.size){zs:List Value}(hz:zs.length=n*6)(hn:b+n≤t.length)(ty:Nat):
  ∃W2,(Builtin.copy_ #[28,28] ty #[.slice (some ⟨W.heap.size,0,none⟩) n n,.slice (some ⟨g,off+b*6,none⟩) (t.length-b) (c-b)]).run Tryz.prog (W.alloc (.cells ⟨zs⟩ 96))=.ok (goInt n) W2∧Blk W2 W.heap.size 96 ((NdL t b n).flatMap ndV)∧(W.alloc (.cells ⟨zs⟩ 96)).grownBy W2 (some W.heap.size):=by
 have hl:((NdL t b n).flatMap ndV).length=n*6:=by rw[fml ndV_len,NdL_len hn]
 have hbz:Blk (W.alloc (.cells ⟨zs⟩ 96)) W.heap.size 96 zs:=Blk.new _ _ _;have hra:=r.alloc (.cells ⟨zs⟩ 96);have hs:=Blk.setCells ((NdL t b n).flatMap ndV) 0 _ _ hbz oQ;refine⟨_,run_copy_row ty elNd _ W.heap.size 0 n n ⟨g,off+b*6,none⟩ (t.length-b) (c-b) n ((NdL t b n).flatMap ndV) (by show n=min (t.length-b) n;omega) hl (fun j v hj=>?_) (fun j hj=>?_) (fun j hj=>hbz.frozen _) (fun v hv=>?_),?_,hs.2⟩
 ·obtain⟨h1,_⟩:=nd_src hj;obtain⟨g2,off2,e,_,hc⟩:=hra.cells (ne_nil_of_get h1);injection e with e
  injection e with e1 e2
  subst e1 e2;obtain⟨u,hu,hr⟩:=hc _ _ h1;rw[hr.v_inv]at hu;rw[addr_add,Nat.add_assoc];exact hu
 ·rw[hbz.cell,zI oQ];rfl
 ·obtain⟨j,hj⟩:=zN hv;exact(nd_src hj).2
 ·have h1:=hs.1;have e:zs.take 0++(NdL t b n).flatMap ndV++zs.drop (0+((NdL t b n).flatMap ndV).length)=(NdL t b n).flatMap ndV:=by
   rw[List.take_zero,List.nil_append,List.drop_eq_nil_of_le oQ,zT]
  rw[e]at h1;exact h1
namespace ckW
open nmW
theorem sub_k (A:Option Addr)(c:Nat)(F:Nat→Prop)(t:List Nd)(hs:SzN t)(w:World)(hK:KwIs w)(hF:∀b,F b→b<w.heap.size)(r:Rd w F (.slice A t.length c) (.sl t.length (t.flatMap ndD)))(ht:treeB t=true){b rt:Nat}(hsp:Sp t b rt):
  Calls Tryz.prog 38 #[.slice A t.length c,.int .i64 rt] w (TrPost (subL t b rt) w):=by
 have k1:=Size_k A c F t hs w hK hF r ht hsp;have hlt:=hsp.lt;have hle:=hsp.le;have hs1:=hs.1;have hab:=treeB_lt ht;have htc:t.length≤c:=by obtain⟨_,_,e,h1,_⟩:=r.sl_inv;injection e with _ _ e;subst e;exact h1
 obtain⟨n,hn⟩:∃n:Nat,n=rt+1-b:=⟨_,rfl⟩
 obtain⟨x0,hx0⟩:=getx hlt;obtain⟨g,off,rfl,_⟩:=nd_at r hx0;have hsub:subL t b rt=(NdL t b n).map (shiftN b):=by unfold subL NdL;rw[hn]
 have hLl:(NdL t b n).length=n:=NdL_len oQ;rw[←hn]at k1;rw[hsub];obtain⟨zs,hz,hmk⟩:=run_made (P:=Tryz.prog) elNd n oQ oQ;have htl:=run_tail (P:=Tryz.prog) elNd g off t.length c b oQ oQ htc;have hcp:∀W ty,Bw w W→∃W2,_:=fun W ty hW=>cp_nodes (w:=w) (r.under hW hF) (fun b h=>zF (hF b h) hW.size) hz (by omega:b+n≤t.length) ty
 have f0:((n:Int)==0)=false:=beqF oQ;have f1:((n:Int) != 0)=true:=bneT oQ;have q1:(0:Int)≤(b:Int):=oQ;have q2:(b:Int)≤1048576:=oQ;have hfb:(rt:Int) -n+1=b:=oQ;have hal:∀(j:Nat) x,(NdL t b n)[j]? =some x→(-1≤x.a∧x.a<1048577)∧(-1≤x.b∧x.b<1048577):=fun j x h=>by
  have:=hab x (zA (NdL_get h).1);omega
 have hnn:n≤1048576:=oQ;have hn1:0<n:=oQ;have hrn:(n:Int)≤rt+1:=oQ;have hrt:(rt:Int)≤1048576:=oQ;generalize NdL t b n=L at*;replace k1:=Hd k1;replace hcp:=Hd hcp;replace hfb:=Hd hfb;replace hal:=Hd hal;replace hLl:=Hd hLl;clear hs hK r ht hsp hab hx0 hsub hn hF hz hle hlt htc hs1;go_enter Tryz.func38,Tryz.ntmps38;go_upto_region 4 with(go_at_call 77;refine k1.out.mono ?_;rintro e W ⟨rfl,hW⟩;replace hW:=Hd hW)
 go_cut [6] (fun s wx=>s=.int .i64 (b:Nat)∧wx=W)
 case first=>
  go_wp2
  all_goals(go_meet;exact⟨by rw[hfb.out],rfl⟩)
 case rest=>
 obtain⟨rfl,hwx⟩:=hcut;obtain rfl:=hwx.symm;clear hwx;have hWs:=hW.out.size;go_wp2_with (refine at_op (.call {callee:=.builtin .copy,args:=#[.tmp 20,.tmp 23],argTypes:=#[28,28]}) rfl ?_;obtain⟨W2,hrun,hb2,hg2⟩:=hcp.out W _ hW.out;refine wpList_copy_r _ rfl (.tmp 20) (.tmp 23) 28 28 rfl _ _ rfl rfl hrun ?_;replace hb2:=Hd hb2;replace hg2:=Hd hg2;clear hrun);have hB2:=Hd (show Bw w W2 from (hW.out.alloc hW.out.size _).grown hg2.out (by simp;omega) (fun q hq=>by injection hq with hq;omega));have hsz2:W.heap.size<W2.heap.size:=hb2.out.lt;go_loopw [27] (fun i wr=>∃j:Nat,j≤n∧i=.int .i64 j∧Bw w wr∧Blk wr W.heap.size 96 ((shR L b j).flatMap ndV)) (fun i _=>n- (intOf i).toNat)
 case atStart=>exact⟨0,zE _,rfl,hB2.out,by have:=hb2.out;unfold shR;simpa using this⟩
 case round=>
  clear hB2 hb2 hg2 hsz2;obtain⟨j,hj,rfl,hB,hb⟩:=hrel;by_cases hlt:j<n
  ·obtain⟨x,hx⟩:=getx (l:=L) (i:=j) (by rw[hLl.out];exact hlt);have hst:=Hd (sh_step hx hb);obtain⟨⟨xa1,xa2⟩,xb1,xb2⟩:=hal.out j x hx;have hrow:=(shR_get (b:=b) hx).1;have c4:wr.cell? ⟨W.heap.size,j*6+4,none⟩=some (.int .i64 x.a):=(hb.cell _).trans (fmg ndV_len hrow rfl);have c5:wr.cell? ⟨W.heap.size,j*6+5,none⟩=some (.int .i64 x.b):=(hb.cell _).trans (fmg ndV_len hrow rfl);have d4:=hb.frozen (j*6+4);have d5:=hb.frozen (j*6+5);have g1:(0:Int)≤(j:Int):=oQ;have g2:(j:Int)<n:=oQ;replace hB:=Hd hB;replace hb:=Hd hb;clear hx hrow;by_cases pa:0≤x.a
   ·by_cases pb:0≤x.b
    ·have hfin:=Hd (hst.out.1 pa pb);go_wp2;go_roundw
     case rel=>exact⟨j+1,oQ,gQ,(hB.out.setCell (p:=⟨W.heap.size,j*6+4,none⟩) (by simpa using hWs) _).setCell (p:=⟨W.heap.size,j*6+5,none⟩) (by simpa using hWs) _,hfin.out⟩
     case measure=>exact mQ
    ·have hfin:=Hd (hst.out.2.1 pa pb);go_wp2;go_roundw
     case rel=>exact⟨j+1,oQ,gQ,(hB.out.setCell (p:=⟨W.heap.size,j*6+4,none⟩) (by simpa using hWs) _),hfin.out⟩
     case measure=>exact mQ
   ·by_cases pb:0≤x.b
    ·have hfin:=Hd (hst.out.2.2.1 pa pb);go_wp2;go_roundw
     case rel=>exact⟨j+1,oQ,gQ,(hB.out.setCell (p:=⟨W.heap.size,j*6+5,none⟩) (by simpa using hWs) _),hfin.out⟩
     case measure=>exact mQ
    ·have hfin:=Hd (hst.out.2.2.2 pa pb);go_wp2;go_roundw
     case rel=>exact⟨j+1,oQ,gQ,hB.out,hfin.out⟩
     case measure=>exact mQ
  ·have g1:¬(j:Int)<n:=oQ;obtain rfl:j=n:=oQ;have hfin:OL wr w.heap.size NoF 96 6 (.slice (some ⟨W.heap.size,0,none⟩) j j) (L.map (shiftN b)).length ((L.map (shiftN b)).flatMap ndD):=by
    have h1:=hLl.out;have:=ol_nodes hWs (L:=L.map (shiftN b)) (g:=W.heap.size) (w:=wr) (by have e:=shR_end L b;rw[h1]at e;rw[←e];exact hb) (by rw[xC];omega);rw[xC,h1]at this;rw[xC,h1];exact this
   replace hfin:=Hd hfin;replace hB:=Hd hB;replace hb:=Hd hb;go_wp2;go_ret;exact TrPost.mk hfin.out hB.out
end ckW
theorem cj_one {t:List Nd}{r n:Nat}(h:opAt t r≠25):cjF t n r=[r]:=by
 cases n with
 |zero=>rfl
 |succ n=>unfold cjF;exact if_neg h
theorem cj_two {t:List Nd}{b m j f:Nat}(ho:opAt t (j+1)=25)(hA:kidA t (j+1)=m)(hB:kidB t (j+1)=j)(h1:Sp t b m)(h2:Sp t (m+1) j)(hf:j+1-b≤f):cjF t f (j+1)=cjF t f m++cjF t f j:=by
 have l1:=h1.le;have l2:=h2.le;cases f with
 |zero=>omega
 |succ f=>
  have e:cjF t (f+1) (j+1)=cjF t f (kidA t (j+1))++cjF t f (kidB t (j+1)):=by
   show(if opAt t (j+1)=25 then _ else _)=_
   exact if_pos ho
  rw[e,hA,hB,cjF_mono h1 (n:=f) (m:=f+1) oQ oQ,cjF_mono h2 (n:=f) (m:=f+1) oQ oQ]
theorem cj_len {t:List Nd}{b r:Nat}(h:Sp t b r):∀{n:Nat},r-b≤n→(cjF t n r).length≤r+1-b:=by
 induction h with
 |lf hx h1 h2 h3=>
  intro n _;rw[cj_one (by rw[opAt_of hx];simp[isLf]at h1;omega)];simp
 |un hx h1 h2 h3 h4 ih=>
  intro n _;have:=h4.le;rw[cj_one (by rw[opAt_of hx];simp[isUn]at h1;omega)];simp;omega
 |bi hx h1 h2 h3 h4 h5 ih1 ih2=>
  rename_i b m j x;intro n hn;have l1:=h4.le;have l2:=h5.le;by_cases ho:opAt t (j+1)=25
  ·rw[cj_two ho (by unfold kidA;rw[hx];simp[h2]) (by unfold kidB;rw[hx];simp[h3]) h4 h5 oQ,zH];have:=ih1 (n:=n) oQ;have:=ih2 (n:=n) oQ;omega
  ·rw[cj_one ho];simp;omega
def cjD (i:Nat):D:=.v (.int .i64 (i:Nat))
structure CJ (t:List Nd)(A:Option Addr)(c B bt bo bs:Nat)(W:World)(v:Value)(L:List Nat):Prop where
 bT:Blk W bt 28 [.slice A t.length c]
 bO:Blk W bo 62 [v]
 bS:Blk W bs 101 [.func (.func 76) #[] #[.pointer (some ⟨bt,0,none⟩),.pointer (some ⟨bo,0,none⟩),.pointer (some ⟨bs,0,none⟩)]]
 ol:OL W B NoF 3 1 v L.length (L.map cjD)
 lo:B≤bo
 bw:B≤W.heap.size
 ne:bt≠bo∧bs≠bo
section
variable {t:List Nd}{A:Option Addr}{c B bt bo bs:Nat}{W W' w1:World}{v v':Value}{L:List Nat}
theorem CJ.stay (h:CJ t A c B bt bo bs W v L)(hb:Bw W W'):CJ t A c B bt bo bs W' v L:=⟨h.bT.stay hb,h.bO.stay hb,h.bS.stay hb,h.ol.stay hb,h.lo,zU h.bw hb.size,h.ne⟩
theorem CJ.app {o:Obj}{i:Nat}(h:CJ t A c B bt bo bs W v L)(hg:(W.alloc o).grownBy w1 v.ownBlock)(hO:OL w1 B NoF 3 1 v' (L.length+1) (L.map cjD++[cjD i])):
  Blk w1 bo 62 [v]∧CJ t A c B bt bo bs (w1.setCell ⟨bo,0,none⟩ v') v' (L++[i])∧Below B W (w1.setCell ⟨bo,0,none⟩ v'):=by
 have h1:=(h.bO.alloc o).grown hg (fun e=>h.ol.neBlk h.bO dQ e.symm);have h2:=(h.bT.alloc o).grown hg (fun e=>h.ol.neBlk h.bT dQ e.symm);have h3:=(h.bS.alloc o).grown hg (fun e=>h.ol.neBlk h.bS dQ e.symm);have hbb:Below B W w1:=((zB B W).alloc h.bw o).grown hg (by have:=h.bw;simp;omega) (fun q hq=>(h.ol.lt q hq).1);refine⟨h1,⟨h2.far h.ne.1 _,h1.set_ 0 _,h3.far h.ne.2 _,?_,h.lo,?_,h.ne⟩,hbb.setCell (p:=⟨bo,0,none⟩) h.lo _⟩
 ·have:=hO.setCell (p:=⟨bo,0,none⟩) (hO.neBlk h1 dQ) (fun h=>h) v';simpa using this
 ·have:=hbb.size;have:=h.bw;simp[World.setCell];omega
end
def CjPost (t:List Nd)(A:Option Addr)(c B bt bo bs:Nat)(w:World)(L:List Nat)(e:Ending)(w':World):Prop:=e=.returned (.tuple #[])∧∃v,CJ t A c B bt bo bs w' v L∧Below B w w'
theorem CjPost.mk {t:List Nd}{A:Option Addr}{c B bt bo bs:Nat}{w w':World}{v:Value}{L L':List Nat}(hL:L'=L)(h:CJ t A c B bt bo bs w' v L')(hb:Below B w w'):CjPost t A c B bt bo bs w L (.returned (.tuple #[])) w':=hL▸⟨rfl,v,h,hb⟩
namespace ckW
open nmW
theorem split_k (A:Option Addr)(c:Nat)(F:Nat→Prop)(t:List Nd)(hl:t.length≤1048576)(B bt bo bs:Nat)(w0:World)(hF:∀b,F b→b<B)(hB0:B≤w0.heap.size)(r:Rd w0 F (.slice A t.length c) (.sl t.length (t.flatMap ndD))):
  ∀(n b rt:Nat),rt<n→Sp t b rt→∀(w:World)(v:Value)(L:List Nat),Below B w0 w→CJ t A c B bt bo bs w v L→L.length+(rt+1-b)≤2097152→
  Calls Tryz.prog 76 #[.int .i64 rt,.pointer (some ⟨bt,0,none⟩),.pointer (some ⟨bo,0,none⟩),.pointer (some ⟨bs,0,none⟩)] w (CjPost t A c B bt bo bs w (L++cjF t t.length rt)):=by
 intro n;induction n with
 |zero=>intro b rt h;omega
 |succ n ih=>
  intro b rt hn hsp w v L hB h hL;have hle:=hsp.le;have hlt:=hsp.lt;obtain⟨x,hx,hcs⟩:=hsp.inv;obtain⟨g,off,rfl,_,z0,z1,z2,z3,z4,z5⟩:=nd_at (r.under hB hF) hx;have g0:(0:Int)≤(rt:Int):=oQ;have g1:(rt:Int)<t.length:=oQ;have yT:=h.bT.cell 0;have yO:=h.bO.cell 0;have yS:=h.bS.cell 0;have fO:=h.bO.frozen 0;simp only[zY]at yT yO yS;by_cases ho:x.op=25
  ·have hoa:opAt t rt=25:=by rw[opAt_of hx];exact ho
   rcases hcs with⟨h1,_⟩|⟨j,h1,_⟩|⟨m,j,_,ha,hb,hs1,hs2,he⟩
   ·rw[ho]at h1;cases h1
   ·rw[ho]at h1;cases h1
   ·have hlj:=hs1.le;have hlj2:=hs2.le;have hcj:cjF t t.length rt=cjF t t.length m++cjF t t.length j:=by
     subst he;exact cj_two hoa (by unfold kidA;rw[hx];simp[ha]) (by unfold kidB;rw[hx];simp[hb]) hs1 hs2 oQ
    have hc1:=cj_len hs1 (n:=t.length) oQ;have k1:∀W,Bw w W→_:=fun W hW=>ih b m oQ hs1 W v L (hB.trans (hW.mono (zU hB0 hB.size))) (h.stay hW) oQ
    have k2:∀W v2,Below B w0 W→CJ t (some ⟨g,off,none⟩) c B bt bo bs W v2 (L++cjF t t.length m)→_:=fun W v2 hW hc=>ih (m+1) j oQ hs2 W v2 (L++cjF t t.length m) hW hc (by rw[zH];omega)
    have zz:∀W,Below B w0 W→W.cell? ⟨g,off+rt*6+5,none⟩=some (.int .i64 (j:Nat)):=fun W hW=>by
     obtain⟨g',off',e,_,_,_,_,_,_,q⟩:=nd_at (r.under hW hF) hx;injection e with e
     injection e with e1 e2
     subst e1 e2;rw[hb]at q;exact q
    rw[ha]at z4;have p1:(0:Int)≤(j:Int):=oQ;have p0:(0:Int)≤(m:Int):=oQ;have f1:(x.op != 25)=false:=bneF ho;have hsz0:=zU hB0 hB.size;have tok0:=True.intro;have hB':=Hd hB;replace hcj:=Hd hcj;replace k1:=Hd k1;replace k2:=Hd k2;replace zz:=Hd zz;have h':=Hd h;replace ho:=Hd ho;clear ih hsp ha hb he hx r z1 z2 z3 z5 hs1 hs2 hB h hoa hL hc1;go_enter Tryz.func76,Tryz.ntmps76;go_upto_region 2 with fail
    go_cut [21] (fun s wx=>s=.tuple #[]∧∃v,CJ t (some ⟨g,off,none⟩) c B bt bo bs wx v (L++cjF t t.length m)∧Below B w wx)
    case first=>
     go_region_law ((go_simp;(go_at_call 76;refine(k1.out _ (by first|exact bR |exact below_drewN bR _ |exact(bR).drew)).mono ?_;rintro e W ⟨rfl,v2,hC2,hW2⟩;replace hC2:=Hd hC2;replace hW2:=Hd hW2)))
     all_goals(go_wp2;all_goals(go_meet;exact⟨rfl,v2,hC2.out,(by first|exact hW2.out |exact(bR).drew.trans hW2.out |exact(below_drewN bR _).trans hW2.out)⟩))
    case rest=>
    obtain⟨rfl,v2,hC2,hW2⟩:=hcut;have zz2:=zz.out _ (hB'.out.trans hW2);have k3:=Hd (fun W (hW:Bw wc W)=>k2.out W v2 ((hB'.out.trans hW2).trans (hW.mono (zU hsz0 hW2.size))) (hC2.stay hW));clear yT yO yS fO z0 z4;have yT:=hC2.bT.cell 0;have yO:=hC2.bO.cell 0;have yS:=hC2.bS.cell 0;simp only[zY]at yT yO yS;replace hC2:=Hd hC2;replace hW2:=Hd hW2;go_upto_region 3 with fail
    go_region_law ((go_simp;(go_at_call 76;refine(k3.out _ (by first|exact bR |exact below_drewN bR _ |exact(bR).drew)).mono ?_;rintro e W ⟨rfl,v3,hC3,hW3⟩;replace hC3:=Hd hC3;replace hW3:=Hd (hW2.out.trans (by first|exact hW3 |exact(bR).drew.trans hW3 |exact(below_drewN bR _).trans hW3)))))
    all_goals(go_wp2;first|refine bodyPost_ret (results_none rfl _ _ _) rfl ?_ |refine bodyPost_end (results_none rfl _ _ _) rfl ?_)
    all_goals exact CjPost.mk (by rw[hcj.out,zR]) hC3.out hW3.out
  ·have hcj:cjF t t.length rt=[rt]:=cj_one (by rw[opAt_of hx];exact ho);have f1:(x.op != 25)=true:=bneT ho;have f2:(x.op==25)=false:=beqF ho;obtain⟨A2,c2,rfl⟩:=h.ol.form;have hB':=Hd hB;have hbw:=h.bw;have hown:=Hd (h.ol.alloc (.cells ⟨[.int .i64 rt]⟩ 3));have hup:∀v' w1,(w.alloc (.cells ⟨[.int .i64 rt]⟩ 3)).grownBy w1 (Value.slice A2 L.length c2).ownBlock→OL w1 B NoF 3 1 v' (L.length+1) (L.map cjD++[cjD rt])→_:=fun v' w1 hg hO=>h.app hg hO
   replace hup:=Hd hup;have hLL:L.length≤2097152:=oQ;replace hcj:=Hd hcj;replace ho:=Hd ho;clear ih hsp hcs hx r z1 z2 z3 z4 z5 hB h yS hL;go_enter Tryz.func76,Tryz.ntmps76;go_wp2_with (at_builtin;refine wpa rfl (.tmp 11) (.tmp 13) _ rfl (m:=1) (news:=[cjD rt]) elInt hown.out rfl rfl (Src.lit (show RdL w _ [.int .i64 rt] [cjD rt]from⟨.v _ rfl,trivial⟩)) rfl oQ oQ (by simp;omega) ?_;intro v' w1 hO1 hg1 ha1;obtain⟨B3,d3,rfl⟩:=hO1.form;obtain⟨hp1,hp2⟩:=hup.out _ _ hg1 hO1;have q1:=hp1.cell 0;have q2:=hp1.frozen 0;simp only[zY]at q1;replace hp2:=Hd hp2;clear hO1 hg1 ha1 hp1);first|refine bodyPost_ret (results_none rfl _ _ _) rfl ?_ |refine bodyPost_end (results_none rfl _ _ _) rfl ?_
   exact CjPost.mk (by rw[hcj.out]) hp2.out.1 hp2.out.2
end ckW
def IlPost (L:List Nat)(w:World)(e:Ending)(w':World):Prop:=∃v,e=.returned v∧OL w' w.heap.size NoF 3 1 v L.length (L.map cjD)∧Bw w w'
theorem IlPost.mk {L:List Nat}{w w':World}{v:Value}(h:OL w' w.heap.size NoF 3 1 v L.length (L.map cjD))(hb:Bw w w'):IlPost L w (.returned v) w':=⟨v,rfl,h,hb⟩
theorem CJ.new {t:List Nd}{A:Option Addr}{c:Nat}{w W:World}(hW:Bw w W){bt:Nat}(hbt:Blk W bt 28 [.slice A t.length c]):
  CJ t A c w.heap.size bt W.heap.size (W.heap.size+1) ((W.alloc (.cells ⟨[.slice none 0 0]⟩ 62)).alloc (.cells ⟨[.func (.func 76) #[] #[.pointer (some ⟨bt,0,none⟩),.pointer (some ⟨W.heap.size,0,none⟩),.pointer (some ⟨W.heap.size+1,0,none⟩)]]⟩ 101)) (.slice none 0 0) []:=
 ⟨(hbt.alloc _).alloc _,(Blk.new W _ _).alloc _,Blk.new' sJ,OL.nil _ _ _ _ _,hW.size,by have:=hW.size;simp;omega,by have:=hbt.lt;omega,oQ⟩
theorem zeroI' (w:World):(zeroValue 3).run Tryz.prog w=.ok (.int .i64 0) w:=kQ
def ki (i:Nat):Lit:=.int .i64 (i:Int)
theorem ki_wf {i:Nat}(h:i≤4194304):(Lit.int .i64 (i:Int)).wf=true:=WalkArith.wf_i64 oQ
theorem ki_key {i:Nat}(h:i≤4194304):keyOf Tryz.prog 3 (.int .i64 (i:Int))=some (ki i):=keyOf_int_mk Tryz.underlying3 (ki_wf h)
theorem ki_ne {i k:Nat}(h:i≠k):ki i≠ki k:=fun e=>h (by unfold ki at e;injection e with _ e;omega)
theorem MapG.lookI {w:World}{m n:Nat}{f:Lit→Option Int}(h:MapG 3 w m n f){i:Nat}(hi:i≤4194304):(Instr.lookup 128 (.map (some m)) (.int .i64 (i:Int)) false).run Tryz.prog w=.ok (.int .i64 ((f (ki i)).getD 0)) w:=by
 obtain⟨D,h1,h2⟩:=h;obtain⟨c,hrun,hat,_⟩:=h1.lookup_int keyI Tryz.underlying128 Tryz.underlying3 (zeroI' w) (ki_key hi);have e:=(h2 (ki i)).2;rw[hat]at e;have e2:c=(f (ki i)).getD 0:=(Lit.int.inj (DataW.lit.inj e)).2;rw[hrun,e2]
theorem wpList_putI {w:World}{ops:Array Oper}{rest:List Oper}{o:Oper}{a:Act}{Q:Exit→Act→World→Prop}(hg:o.guard=none)(m x v:Operand)(hop:o.op=Op.mapUpdate 128 m x v)
  {b n i:Nat}{f:Lit→Option Int}{k:Int}(hm:a.eval m=.map (some b))(h:MapG 3 w b n f)(hn:n≤1048576)(hx:a.eval x=.int .i64 (i:Int))(hv:a.eval v=.int .i64 k)(hi:i≤4194304)(hk:(Lit.int .i64 k).wf=true)
  (hK:∀w',MapG 3 w' b (n+1) (putM f (ki i) k)→w.grownBy w' (some b)→wpList Tryz.prog ops Q rest (a.put o.dst undef) w'):wpList Tryz.prog ops Q (o::rest) a w:=by
 obtain⟨D,h1,h2⟩:=h;refine wpList_mapUpdate_own w hg m x v _ hop 3 3 keyI Tryz.underlying128 _ b n D hm h1 (by unfold maxLen;omega) _ _ (ki i) hx hv (ki_key hi) _ [] (plainElem_int Tryz.underlying3 hk) fun w' h3 h4=>hK w' ⟨_,h3,fun t=>?_⟩ h4
 by_cases e:t=ki i
 ·subst e;rw[has_put_same h1.isMap (by unfold ki;trivial),atKey_put_same h1.isMap (by unfold ki;trivial),putM_same];exact⟨rfl,rfl⟩
 ·rw[has_put_other e,atKey_put_other e,putM_other e];exact h2 t
def posM (f:Lit→Option Int)(i:Nat):Bool:=decide (0<(f (ki i)).getD 0)
theorem filt_next {p:Nat→Bool}(j:Nat):(List.range (j+1)).filter p=(List.range j).filter p++if p j=true then [j]else []:=by
 rw[List.range_succ,List.filter_append];cases h:p j<;>simp[h]
theorem filt_len {p:Nat→Bool}(j:Nat):((List.range j).filter p).length≤j:=by have:=List.length_filter_le p (List.range j);simpa using this
def touN (q:Qy)(L:List Nat)(j:Nat):Nat:=((L.take j).filter (touchy q)).length
theorem touN_next {q:Qy}{L:List Nat}{j i:Nat}(h:L[j]? =some i):touN q L (j+1)=touN q L j+if touchy q i=true then 1 else 0:=by
 unfold touN;rw[zJ,h,List.filter_append,zH];cases hx:touchy q i<;>simp[hx]
namespace ckW
open nmW
theorem conj_k (A:Option Addr)(c:Nat)(F:Nat→Prop)(t:List Nd)(hs:SzN t)(w:World)(hK:KwIs w)(hF:∀b,F b→b<w.heap.size)(r:Rd w F (.slice A t.length c) (.sl t.length (t.flatMap ndD)))(ht:treeB t=true):
  Calls Tryz.prog 37 #[.slice A t.length c] w (IlPost (conjs t) w):=by
 have hb0:Bw w (w.alloc (.cells ⟨[.slice A t.length c]⟩ 28)):=bA;have k1:=tree_k A c F t hs _ (hK.stay hb0) (fun b h=>zF (hF b h) hb0.size) (r.under hb0 hF);rw[ht]at k1;obtain⟨⟨n,hn,hsp⟩,_,_⟩:=treeB_sp ht;have hs1:=hs.1;have hbt:Blk (w.alloc (.cells ⟨[.slice A t.length c]⟩ 28)) w.heap.size 28 [.slice A t.length c]:=Blk.new _ _ _;have kc:∀W,Below (w.alloc (.cells ⟨[.slice A t.length c]⟩ 28)).heap.size (w.alloc (.cells ⟨[.slice A t.length c]⟩ 28)) W→
   Calls Tryz.prog 76 #[.int .i64 n,.pointer (some ⟨w.heap.size,0,none⟩),.pointer (some ⟨W.heap.size,0,none⟩),.pointer (some ⟨W.heap.size+1,0,none⟩)] ((W.alloc (.cells ⟨[.slice none 0 0]⟩ 62)).alloc (.cells ⟨[.func (.func 76) #[] #[.pointer (some ⟨w.heap.size,0,none⟩),.pointer (some ⟨W.heap.size,0,none⟩),.pointer (some ⟨W.heap.size+1,0,none⟩)]]⟩ 101))
    (CjPost t A c w.heap.size w.heap.size W.heap.size (W.heap.size+1) ((W.alloc (.cells ⟨[.slice none 0 0]⟩ 62)).alloc (.cells ⟨[.func (.func 76) #[] #[.pointer (some ⟨w.heap.size,0,none⟩),.pointer (some ⟨W.heap.size,0,none⟩),.pointer (some ⟨W.heap.size+1,0,none⟩)]]⟩ 101)) (conjs t))∧Bw w ((W.alloc (.cells ⟨[.slice none 0 0]⟩ 62)).alloc (.cells ⟨[.func (.func 76) #[] #[.pointer (some ⟨w.heap.size,0,none⟩),.pointer (some ⟨W.heap.size,0,none⟩),.pointer (some ⟨W.heap.size+1,0,none⟩)]]⟩ 101)):=fun W hW=>by
  have hW2:=hb0.trans (hW.mono hb0.size);have hC:=CJ.new hW2 (hbt.stay hW);have hB:=(hW2.alloc hW2.size (.cells ⟨[.slice none 0 0]⟩ 62)).alloc (by have:=hW2.size;simp;omega) (.cells ⟨[.func (.func 76) #[] #[.pointer (some ⟨w.heap.size,0,none⟩),.pointer (some ⟨W.heap.size,0,none⟩),.pointer (some ⟨W.heap.size+1,0,none⟩)]]⟩ 101);have:=split_k A c F t hs1 w.heap.size w.heap.size W.heap.size (W.heap.size+1) w hF nR r (n+1) 0 n oQ hsp _ _ [] hB hC (by simp;omega);rw[List.nil_append]at this;have e:cjF t t.length n=conjs t:=by unfold conjs;rw[show t.length-1=n by omega]
  rw[e]at this;exact⟨this,hB⟩
 have hmf:∀(fn:Fn) (first cap:Array Value) (w:World),(Instr.makeFunc fn first cap).run Tryz.prog w=.ok (.func fn first cap) w:=fun _ _ _ _=>rfl
 have y0:∀W,Below (w.alloc (.cells ⟨[.slice A t.length c]⟩ 28)).heap.size (w.alloc (.cells ⟨[.slice A t.length c]⟩ 28)) W→((W.alloc (.cells ⟨[.slice none 0 0]⟩ 62)).alloc (.cells ⟨[.func (.func 76) #[] #[.pointer (some ⟨w.heap.size,0,none⟩),.pointer (some ⟨W.heap.size,0,none⟩),.pointer (some ⟨W.heap.size+1,0,none⟩)]]⟩ 101)).cell? ⟨w.heap.size,0,none⟩=some (.slice A t.length c):=fun W hW=>((((hbt.stay hW).alloc _).alloc _).cell 0)
 have nw:IntKind.i64.wrap (n:Int)=n:=by rw[xI];omega
 have n0:(0:Int)≤(n:Int):=oQ;have n1:n≤1048576:=oQ;replace k1:=Hd k1;replace kc:=Hd kc;replace y0:=Hd y0;clear r hs hK hF ht hsp hs1 hbt hb0;rw[hn]at k1 kc y0 ⊢;generalize conjs t=L at*;replace hn:=Hd hn;go_enter Tryz.func37,Tryz.ntmps37;go_upto_region 6 with(go_at_call 75;refine k1.out.mono ?_;rintro e W ⟨rfl,hW⟩;have y1:=y0.out W hW;have k2:=Hd (kc.out W hW);replace hW:=Hd hW)
 go_wp2_with (go_at_call 76;refine k2.out.1.mono ?_;rintro e W2 ⟨rfl,v,hC,hW2⟩;obtain⟨A2,c2,rfl⟩:=hC.ol.form;have z0:=hC.bO.cell 0;simp only[zY]at z0;replace hC:=Hd hC;replace hW2:=Hd (k2.out.2.trans hW2));go_ret;exact IlPost.mk hC.out.ol hW2.out
theorem rising_k (q:Qy)(s:Sl3)(bq m n:Nat)(f:Lit→Option Int)(hl:q.items.length≤1048576)(w:World)(hq:Blk w bq 31 (qV q s))(hM:MapG 3 w m n f):
  Calls Tryz.prog 86 #[.map (some m),.pointer (some ⟨bq,0,none⟩)] w (IlPost ((List.range q.items.length).filter (posM f)) w):=by
 have y0:=hq.cell 0;have hml:=hM.lt;obtain⟨A1,c1,A2,c2,A3,c3⟩:=s;simp only[qV,zY]at y0;replace hM:=Hd hM;clear hq;go_enter Tryz.func86,Tryz.ntmps86;go_wp2;clear y0;go_loopw [4,9] (fun v i wr=>∃j:Nat,j≤q.items.length∧i=.int .i64 j∧Bw w wr∧OL wr w.heap.size NoF 3 1 v ((List.range j).filter (posM f)).length (((List.range j).filter (posM f)).map cjD)) (fun _ i _=>q.items.length- (intOf i).toNat)
 case atStart=>exact⟨0,zE _,rfl,bR,OL.nil _ _ _ _ _⟩
 case round=>
  obtain⟨j,hj,rfl,hB,hO⟩:=hrel;have hnx:=filt_next (p:=posM f) j;have hln:=filt_len (p:=posM f) j;obtain⟨A4,c4,rfl⟩:=hO.form;by_cases hlt:j<q.items.length
  ·have g1:(0:Int)≤(j:Int):=oQ;have g2:(j:Int)<q.items.length:=oQ;have hM1:=hM.out.kept (row:=none) (w':=wr) ⟨hB.os,hB.tape,hB.output,hB.size,fun k hk _=>hB.block k hk⟩ sJ;have lk:=hM1.lookI (i:=j) oQ;generalize hL:(List.range j).filter (posM f)=L at*;generalize hL2:(List.range (j+1)).filter (posM f)=L2 at*;have hpv:posM f j=decide (0<(f (ki j)).getD 0):=rfl;generalize (f (ki j)).getD 0=cv at lk hpv;have hbw:=hB.size;by_cases hp:0<cv
   ·have hd:posM f j=true:=(by rw[hpv];exact zW hp);rw[if_pos hd]at hnx;have hup:∀v' w1,(wr.alloc (.cells ⟨[.int .i64 (j:Nat)]⟩ 3)).grownBy w1 (Value.slice A4 L.length c4).ownBlock→OL w1 w.heap.size NoF 3 1 v' (L.length+1) (L.map cjD++[cjD j])→Bw w w1∧OL w1 w.heap.size NoF 3 1 v' L2.length (L2.map cjD):=fun v' w1 hg hO1=>by
     refine⟨(hB.alloc hbw _).grown hg (by simp;omega) (fun q hq=>(hO.lt q hq).1),?_⟩;rw[hnx,zH,xR];exact hO1
    have hown:=Hd (hO.alloc (.cells ⟨[.int .i64 (j:Nat)]⟩ 3));have hLL:L.length≤1048576:=oQ;replace hup:=Hd hup;replace hnx:=Hd hnx;replace hL:=Hd hL;replace hL2:=Hd hL2;replace hd:=Hd hd;clear hpv hM1 hO hB;go_wp2_with (at_builtin;refine wpa rfl (.tmp 16) (.tmp 18) _ rfl (m:=1) (news:=[cjD j]) elInt hown.out rfl rfl (Src.lit (show RdL wr _ [.int .i64 j] [cjD j]from⟨.v _ rfl,trivial⟩)) rfl oQ oQ (by simp;omega) ?_;intro v' w1 hO1 hg1 ha1;obtain⟨B3,d3,rfl⟩:=hO1.form;have hI3:=Hd (hup.out _ _ hg1 hO1);clear hO1 hg1 ha1);go_roundw
    case rel=>exact⟨j+1,oQ,gQ,hI3.out.1,by rw[hL2.out];exact hI3.out.2⟩
    case measure=>exact mQ
   ·have hd:¬posM f j=true:=(by rw[hpv];simp;omega);rw[if_neg hd,zT]at hnx;replace hnx:=Hd hnx;replace hL:=Hd hL;replace hL2:=Hd hL2;replace hd:=Hd hd;replace hB:=Hd hB;replace hO:=Hd hO;clear hpv hM1;go_wp2;go_roundw
    case rel=>exact⟨j+1,oQ,gQ,hB.out,by rw[hL2.out,hnx.out];exact hO.out⟩
    case measure=>exact mQ
  ·have g1:¬(j:Int)<q.items.length:=oQ;obtain rfl:j=q.items.length:=oQ;replace hB:=Hd hB;replace hO:=Hd hO;replace hnx:=Hd hnx;go_wp2;go_ret;exact IlPost.mk hO.out hB.out
end ckW
end Go.Proofs.YthaabihjeomipaaGreatDoor
