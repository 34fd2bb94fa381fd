/- What is wrong with WHERE's expression. -/
import Derived.Test.YthaabihjeomipaaGreatDoorQGa
namespace Go.Proofs.YthaabihjeomipaaGreatDoor
set_option maxRecDepth 100000
set_option maxHeartbeats 16000000
open Go.RowKit Go.Deep Go.Maps
set_option linter.unusedVariables false
set_option linter.unusedSimpArgs false
def askV (bs bq bv:Nat):Value:=.func (.func 70) #[] #[.pointer (some ⟨bs,0,none⟩),.pointer (some ⟨bq,0,none⟩),.pointer (some ⟨bv,0,none⟩)]
structure WB (q:Qy)(s:Sl3)(bs bq bv:Nat)(w W:World):Prop where
 hb:Bw w W
 b0:Blk W w.heap.size 31 (qV q s)
 b1:Blk W (w.heap.size+1) 121 [askV bs bq bv]
 b2:Blk W (w.heap.size+1+1) 59 (flV 0 0 0 0)
section
variable {q:Qy}{s:Sl3}{bs bq bv:Nat}{w W W' w1:World}
theorem WB.stay (h:WB q s bs bq bv w W)(hb:Bw W W'):WB q s bs bq bv w W':=⟨h.hb.trans (hb.mono h.hb.size),h.b0.stay hb,h.b1.stay hb,h.b2.stay hb⟩
theorem WB.new (q:Qy)(s:Sl3)(bs bq bv:Nat)(w:World):WB q s bs bq bv w (((w.alloc (.cells ⟨qV q s⟩ 31)).alloc (.cells ⟨[askV bs bq bv]⟩ 121)).alloc (.cells ⟨flV 0 0 0 0⟩ 59)):=
 ⟨((bA).alloc sJ _).alloc (by simp;omega) _,(((Blk.new w _ _).alloc _).alloc _),(((Blk.new' sJ).alloc _)),(Blk.new' sJ)⟩
theorem WB.fin (h:WB q s bs bq bv w W)(hg:W.grownBy w1 (some (w.heap.size+1+1))):Bw w w1:=h.hb.grown hg h.hb.size (fun q hq=>by injection hq with hq;omega)
theorem qbc {g:Nat}(h:Blk W g 31 (qV q s)):W.cell? ⟨g,0,none⟩=some (.slice s.a1 q.items.length s.c1)∧W.cell? ⟨g,1,none⟩=some (.int .i64 q.mode)∧W.cell? ⟨g,2,none⟩=some (.int .i64 q.after)∧
  W.cell? ⟨g,3,none⟩=some (.slice s.a2 q.wh.length s.c2)∧W.cell? ⟨g,4,none⟩=some (.int .i64 q.within)∧W.cell? ⟨g,5,none⟩=some (.string q.by_)∧W.cell? ⟨g,6,none⟩=some (.slice s.a3 q.ret.length s.c3):=
 ⟨h.cell 0,h.cell 1,h.cell 2,h.cell 3,h.cell 4,h.cell 5,h.cell 6⟩
end
theorem cj_mem {t:List Nd}{b r:Nat}(h:Sp t b r):∀{n i:Nat},r-b≤n→i∈cjF t n r→i≤r:=by
 induction h with
 |lf hx h1 h2 h3=>
  intro n i _ hi;rw[cj_one (by rw[opAt_of hx];simp[isLf]at h1;omega)]at hi;simp at hi;omega
 |un hx h1 h2 h3 h4 ih=>
  intro n i _ hi;rw[cj_one (by rw[opAt_of hx];simp[isUn]at h1;omega)]at hi;simp at hi;omega
 |bi hx h1 h2 h3 h4 h5 ih1 ih2=>
  rename_i b m j x;intro n i hn hi;have l1:=h4.le;have l2:=h5.le;by_cases ho:opAt t (j+1)=25
  ·rw[cj_two ho (by unfold kidA;rw[hx];simp[h2]) (by unfold kidB;rw[hx];simp[h3]) h4 h5 oQ]at hi;rcases zM.1 hi with hi |hi
   ·have:=ih1 (n:=n) oQ hi;omega
   ·have:=ih2 (n:=n) oQ hi;omega
  ·rw[cj_one ho]at hi;simp at hi;omega
theorem conjs_sp {t:List Nd}(h:treeB t=true){i:Nat}(hi:i∈conjs t):∃b,Sp t b i:=by
 obtain⟨⟨n,hn,hsp⟩,ha,_⟩:=treeB_sp h;unfold conjs at hi;rw[show t.length-1=n by omega]at hi;have:=cj_mem hsp oQ hi;exact ha i oQ
theorem subL_len {t:List Nd}{b r:Nat}(h:Sp t b r):(subL t b r).length=r+1-b:=by
 have:=h.lt;have:=h.le;unfold subL;rw[xC,zO,List.length_drop];omega
theorem subL_sz {t:List Nd}{b r:Nat}(h:Sp t b r)(hs:SzN t):SzN (subL t b r):=by
 refine⟨by rw[subL_len h];have:=h.lt;have:=hs.1;omega,fun x hx=>?_⟩;unfold subL at hx;obtain⟨y,hy,rfl⟩:=List.mem_map.1 hx;exact hs.2 y (List.mem_of_mem_drop (List.mem_of_mem_take hy))
theorem whereC_nil {l:List Td}{q:Qy}(h:q.wh=[]):whereC l q=0:=if_pos h
theorem whereC_walk {l:List Td}{q:Qy}(h:q.wh≠ []){c:Int}(hc:c=walkC l q q.wh false)(hne:c≠0):whereC l q=c:=by
 unfold whereC;rw[if_neg h,←hc];unfold fz;exact if_neg hne
theorem whereC_truth {l:List Td}{q:Qy}(h:q.wh≠ [])(hc:0=walkC l q q.wh false)(ht:isTruthB q.wh=false):whereC l q=75:=by
 unfold whereC;rw[if_neg h,←hc,ht];rfl
theorem whereC_mix {l:List Td}{q:Qy}(h:q.wh≠ [])(hc:0=walkC l q q.wh false)(ht:isTruthB q.wh=true):whereC l q=if(conjs q.wh).any (fun r=>mixB q (subT q.wh r))=true then 77 else 0:=by
 unfold whereC;rw[if_neg h,←hc,ht];simp[fz]
namespace ckW
open nmW
theorem where_k {A:Option Addr}{c:Nat}{F:Nat→Prop}{l:List Td}{q:Qy}{s:Sl3}{bs bq bv m:Nat}(hl:SzT l)(hs:SzQ q)(hsh:q.wh=[]∨treeB q.wh=true){w:World}(hK:KwIs w)(h:AB l A c q s F bs bq bv m w):
  Calls Tryz.prog 72 #[.agg ⟨qV q s⟩,askV bs bq bv] w (FwPost (whereC l q) w):=by
 have h0:=WB.new q s bs bq bv w;have hA0:=h.stay (show Bw w _ from h0.hb);have hK0:=hK.stay h0.hb;obtain⟨y0,y1,y2,y3,y4,y5,y6⟩:=qbc h0.b0;have z1:=h0.b1.cell 0;obtain⟨b,hc⟩:∃b,b=whereC l q:=⟨_,rfl⟩
 rw[←hc];by_cases hn:q.wh=[]
 ·have hfin:(0:Int)=b:=by rw[hc,whereC_nil hn]
  have hl0:q.wh.length=0:=by rw[hn];rfl
  have f0:((q.wh.length:Int)==0)=true:=beqT oQ;obtain⟨A1,c1,A2,c2,A3,c3⟩:=s;simp only[qV,askV,flV,zY]at h0 y0 y3 z1 ⊢;replace h0:=Hd h0;replace hfin:=Hd hfin;replace hl0:=Hd hl0;replace hn:=Hd hn;clear hc h hA0 hK0 hK hs hsh;go_enter Tryz.func72,Tryz.ntmps72;go_wp2_with (refine at_op (.store 59 (.tmp 4) (.tmp 13)) rfl ?_;refine wsb rfl 59 (.tmp 4) (.tmp 13) rfl (cs':=flV 0 0 0 0) h0.out.b2 aggFl rfl rfl rfl rfl ?_;intro w1 hz1 hg1);exact bpa rfl hz1 aggFl rfl rfl (FwPost.mk hfin.out (fun h=>⟨rfl,rfl,rfl⟩) (h0.out.fin hg1))
 have ht:=hsh.resolve_left hn;have hl1:0<q.wh.length:=List.length_pos_iff.2 hn;have hl2:=hs.wh.1;have f0:((q.wh.length:Int)==0)=false:=beqF oQ;obtain⟨W0,hW0⟩:∃W0,W0=(((w.alloc (.cells ⟨qV q s⟩ 31)).alloc (.cells ⟨[askV bs bq bv]⟩ 121)).alloc (.cells ⟨flV 0 0 0 0⟩ 59)):=⟨_,rfl⟩
 rw[←hW0]at h0 hA0 hK0 y0 y1 y2 y3 y4 y5 y6 z1;have hab:=treeB_lt ht;have kw:Calls Tryz.prog 114 #[.slice s.a2 q.wh.length s.c2,.func (.func 115) #[] #[.pointer (some ⟨w.heap.size+1,0,none⟩)]] W0 (WkPost q.wh (mentC l q false) W0):=
  walkfalse_k s.a2 s.c2 F q.wh (mentC l q false) (w.heap.size+1) hl2 (fun x hx=>⟨(hab x hx).1.2,(hab x hx).2.2⟩) W0 hA0.qr.lt hA0.qr.r2 fun x hx W hW=>askfalse_k hl hs x (hs.wh.2 x hx).1 (hA0.stay hW) (h0.b1.stay hW)
 have kt:∀W,Bw W0 W→Calls Tryz.prog 116 #[.slice s.a2 q.wh.length s.c2] W fun e w'=>e=.returned (.bool (isTruthB q.wh))∧w'=W:=fun W hW=>isTruth_k s.a2 s.c2 F q.wh hl2 W (hA0.qr.under hW).r2
 have kj:∀W,Bw W0 W→Calls Tryz.prog 37 #[.slice s.a2 q.wh.length s.c2] W (IlPost (conjs q.wh) W):=fun W hW=>conj_k s.a2 s.c2 F q.wh hs.wh W (hK0.stay hW) (hA0.qr.under hW).lt (hA0.qr.under hW).r2 ht
 have ks:∀W (b r:Nat),Bw W0 W→Sp q.wh b r→Calls Tryz.prog 38 #[.slice s.a2 q.wh.length s.c2,.int .i64 r] W (TrPost (subL q.wh b r) W):=fun W b r hW hsp=>sub_k s.a2 s.c2 F q.wh hs.wh W (hK0.stay hW) (hA0.qr.under hW).lt (hA0.qr.under hW).r2 ht hsp
 have ku:∀W (b r:Nat) A' c',Bw W0 W→Sp q.wh b r→Rd W (fun b=>b<W.heap.size) (.slice A' (subL q.wh b r).length c') (.sl (subL q.wh b r).length ((subL q.wh b r).flatMap ndD))→Calls Tryz.prog 41 #[.agg ⟨qV q s⟩,.slice A' (subL q.wh b r).length c'] W (UsPost q (subL q.wh b r) W):=fun W b r A' c' hW hsp rd=>uses_k q s A' c' _ F (subL q.wh b r) hs (subL_sz hsp hs.wh) W (hA0.qr.under hW) (fun b h=>h) rd
 have km:∀W (b r:Nat) v1 v2 v3,Bw W0 W→Rd W (fun b=>b<W.heap.size) v1 (.sl (bares q (subL q.wh b r)).length ((bares q (subL q.wh b r)).map cjD))→(∃A n c,v2=.slice A n c)→(∃A n c,v3=.slice A n c)→Calls Tryz.prog 117 #[.agg ⟨qV q s⟩,.agg #[v1,v2,v3]] W fun e w'=>e=.returned (.bool (mixB q (subL q.wh b r)))∧Bw W w':=fun W b r v1 v2 v3 hW rd h2 h3=>mixed_k q s (subL q.wh b r) F _ v1 v2 v3 hs W (hA0.qr.under hW) (fun b h=>h) rd h2 h3
 have hcs:∀(j r:Nat),(conjs q.wh)[j]? =some r→∃b,Sp q.wh b r∧mixB q (subT q.wh r)=mixB q (subL q.wh b r)∧r<q.wh.length:=fun j r h=>by
  obtain⟨b,hb⟩:=conjs_sp ht (zA h);exact⟨b,hb,by unfold subT;rw[bg_sp hb],hb.lt⟩
 have hcl:(conjs q.wh).length≤1048576:=by
  obtain⟨⟨n,hn,hsp⟩,_,_⟩:=treeB_sp ht;unfold conjs;have:=cj_len hsp (n:=q.wh.length) oQ;rw[show q.wh.length-1=n by omega];omega
 have wc1:∀c:Int,c=walkC l q q.wh false→c≠0→b=c:=fun c h1 h2=>by rw[hc,whereC_walk hn h1 h2]
 have wc2:0=walkC l q q.wh false→isTruthB q.wh=false→b=75:=fun h1 h2=>by rw[hc,whereC_truth hn h1 h2]
 have wc3:0=walkC l q q.wh false→isTruthB q.wh=true→b=if(conjs q.wh).any (fun r=>mixB q (subT q.wh r))=true then 77 else 0:=fun h1 h2=>by rw[hc,whereC_mix hn h1 h2]
 generalize isTruthB q.wh=tb at*;generalize conjs q.wh=L at*;obtain⟨A1,c1,A2,c2,A3,c3⟩:=s;simp only[qV,askV,flV,zY]at h0 hW0 ku km kw kt kj ks y0 y1 y2 y3 y4 y5 y6 z1 ⊢;have hWW:=Hd hW0;replace h0:=Hd h0;replace kw:=Hd kw;replace kt:=Hd kt;replace kj:=Hd kj;replace ks:=Hd ks;replace ku:=Hd ku;replace km:=Hd km;replace hcs:=Hd hcs;replace wc1:=Hd wc1;replace wc2:=Hd wc2;replace wc3:=Hd wc3;replace hn:=Hd hn;clear hc h hA0 hK0 hK hs hsh hab ht hW0;have hmf:∀(fn:Fn) (first cap:Array Value) (w:World),(Instr.makeFunc fn first cap).run Tryz.prog w=.ok (.func fn first cap) w:=fun _ _ _ _=>rfl
 go_enter Tryz.func72,Tryz.ntmps72;go_upto_region 1 with fail
 rw[←hWW.out];go_upto_region 4 with(go_at_call 114;refine kw.out.mono ?_;rintro e W1 ⟨i,cv,rfl,hcv,hW1⟩;replace hcv:=Hd (show cv=walkC l q q.wh false from hcv))
 have h1:=h0.out.stay hW1;clear y0 y1 y2 y3 y4 y5 y6 z1;obtain⟨y0,y1,y2,y3,y4,y5,y6⟩:=qbc h1.b0;simp only at y0 y3 y6;replace h1:=Hd h1;replace hW1:=Hd hW1;by_cases hc0:cv=0
 ·subst hc0;have ktt:=Hd (kt.out W1 hW1.out);cases tb with
  |false=>
   have hfin:=Hd (wc2.out hcv.out rfl);go_wp2_with (first
    |(go_at_call 116;refine ktt.out.mono ?_;rintro e W2 ⟨rfl,hW2⟩;subst W2)
    |(refine at_op (.store 59 (.tmp 4) (.tmp 37)) rfl ?_;refine wsb rfl 59 (.tmp 4) (.tmp 37) rfl (cs':=flV 75 4 ((q.wh.length:Int) -1) 0) h1.out.b2 aggFl rfl rfl rfl rfl ?_;intro w1 hz1 hg1))
   exact bpa rfl hz1 aggFl rfl rfl (FwPost.mk hfin.out.symm (fun h=>by have:=hfin.out;omega) (h1.out.fin hg1))
  |true=>
  have hb3:=Hd (wc3.out hcv.out rfl);have kjj:=Hd (kj.out W1 hW1.out);go_wp2_with (first
   |(go_at_call 116;refine ktt.out.mono ?_;rintro e W2 ⟨rfl,hW2⟩;subst W2)
   |(go_at_call 37;refine kjj.out.mono ?_;rintro e W2 ⟨v,rfl,hO,hW2⟩;obtain⟨A5,c5,rfl⟩:=hO.form;have rL:=Hd (hO.rd (G:=fun b=>b<W2.heap.size) (fun b h=>h.elim) (fun b _ h=>h));have h2:=Hd (h1.out.stay hW2);have hX2:=Hd (hW1.out.trans (hW2.mono hW1.out.size));clear hO hW2))
  clear y0 y1 y2 y3 y4 y5 y6;go_loopw [42] (fun i wr=>∃j:Nat,j≤L.length∧i=.int .i64 j∧Bw W2 wr∧Hid ((L.take j).any (fun r=>mixB q (subT q.wh r))=false)) (fun i _=>L.length- (intOf i).toNat)
  case atStart=>exact⟨0,zE _,rfl,bR,rfl⟩
  case round=>
   obtain⟨j,hj,rfl,hB,hp⟩:=hrel;have h3:=h2.out.stay hB;have hX3:=hX2.out.trans (hB.mono hX2.out.size);have hbw:=hX3.size;by_cases hlt:j<L.length
   ·obtain⟨r,hr⟩:=getx hlt;obtain⟨bb,hsp,hmx,hrl⟩:=hcs.out j r hr;obtain⟨g5,off5,rfl,_,q0⟩:=(rL.out.under hB (fun b h=>h)).at1 (i:=j) (y:=.int .i64 r) (by rw[zG,hr];rfl);have g1:(0:Int)≤(j:Int):=oQ;have g2:(j:Int)<L.length:=oQ;have hany:(L.take (j+1)).any (fun r=>mixB q (subT q.wh r))=mixB q (subT q.wh r):=by
     rw[zJ,hr,List.any_append,hp.out];simp
    rw[hmx]at hany;have hany2:mixB q (subL q.wh bb r)=true→L.any (fun r=>mixB q (subT q.wh r))=true:=fun h=>by
     rw[xM];exact⟨r,zA hr,by rw[hmx];exact h⟩
    have ks':∀W,Bw wr W→_:=fun W hW=>ks.out W bb r (hX3.trans (hW.mono hbw)) hsp
    have ku':∀W A' c',Bw wr W→_→_:=fun W A' c' hW rd=>ku.out W bb r A' c' (hX3.trans (hW.mono hbw)) hsp rd
    have km':∀W v1 v2 v3,Bw wr W→_→_→_→_:=fun W v1 v2 v3 hW rd a b=>km.out W bb r v1 v2 v3 (hX3.trans (hW.mono hbw)) rd a b
    generalize mixB q (subL q.wh bb r)=mb at*;generalize subL q.wh bb r=t' at*;obtain⟨y0,y1,y2,y3,y4,y5,y6⟩:=qbc h3.b0;simp only at y0 y3 y6;have yy:∀W,Bw wr W→W.cell? ⟨w.heap.size,0,none⟩=some (.slice A1 q.items.length c1)∧W.cell? ⟨w.heap.size,1,none⟩=some (.int .i64 q.mode)∧W.cell? ⟨w.heap.size,2,none⟩=some (.int .i64 q.after)∧W.cell? ⟨w.heap.size,3,none⟩=some (.slice A2 q.wh.length c2)∧W.cell? ⟨w.heap.size,4,none⟩=some (.int .i64 q.within)∧W.cell? ⟨w.heap.size,5,none⟩=some (.string q.by_)∧W.cell? ⟨w.heap.size,6,none⟩=some (.slice A3 q.ret.length c3):=fun W hW=>qbc (h3.b0.stay hW)
    have hrl':r≤1048576:=oQ;replace h3:=Hd h3;replace hX3:=Hd hX3;replace hB:=Hd hB;replace ks':=Hd ks';replace ku':=Hd ku';replace km':=Hd km';replace hany:=Hd hany;replace hany2:=Hd hany2;replace hr:=Hd hr;replace hmx:=Hd hmx;replace hsp:=Hd hsp;replace yy:=Hd yy;have tok0:=True.intro;go_upto_region 11 with fail
    go_cut [53] (fun s wx=>s=.bool mb∧Bw wr wx)
    case first=>
     go_region_law ((go_simp;first
      |(go_at_call 38;refine(ks'.out _ (by first|exact bR |exact(bR).drew |exact below_drewN bR _)).mono ?_;rintro e X1 ⟨v,rfl,hO1,hY1⟩;obtain⟨A6,c6,rfl⟩:=hO1.form;have hZ1:Bw wr X1:=(by first|exact hY1 |exact(bR).drew.trans hY1 |exact(below_drewN bR _).trans hY1);have rd1:=Hd (hO1.rd (G:=fun b=>b<X1.heap.size) (fun b h=>h.elim) (fun b _ h=>h));obtain⟨x0,x1,x2,x3,x4,x5,x6⟩:=yy.out _ hZ1;replace hZ1:=Hd hZ1;clear hO1 hY1)
      |(go_at_call 41;refine(ku'.out _ _ _ hZ1.out rd1.out).mono ?_;rintro e X2 ⟨v1,v2,v3,L2,L3,rfl,hO1,hO2,hO3,hY2⟩;obtain⟨A7,c7,rfl⟩:=hO1.form;obtain⟨A8,c8,rfl⟩:=hO2.form;obtain⟨A9,c9,rfl⟩:=hO3.form;have hZ2:=hZ1.out.trans (hY2.mono hZ1.out.size);have rd2:=Hd (hO1.rd (G:=fun b=>b<X2.heap.size) (fun b h=>h.elim) (fun b _ h=>h));obtain⟨x0,x1,x2,x3,x4,x5,x6⟩:=yy.out _ hZ2;replace hZ2:=Hd hZ2;clear hO1 hO2 hO3 hY2)
      |(go_at_call 117;refine(km'.out _ _ _ _ hZ2.out rd2.out ⟨_,_,_,rfl⟩ ⟨_,_,_,rfl⟩).mono ?_;rintro e X3 ⟨rfl,hY3⟩;have hZ3:=Hd (hZ2.out.trans (hY3.mono hZ2.out.size));clear hY3)))
     all_goals(go_wp2;all_goals(go_meet;exact⟨rfl,hZ3.out⟩))
    case rest=>
    obtain⟨rfl,hZ⟩:=hcut;have h4:=Hd (h3.out.stay hZ);replace hZ:=Hd hZ;clear y0 y1 y2 y3 y4 y5 y6 q0;cases mb with
    |true=>
     have hfin:=Hd (show (77:Int)=b by rw[hb3.out,if_pos (hany2.out rfl)]);go_wp2_with (refine at_op (.store 59 (.tmp 4) (.tmp 55)) rfl ?_;refine wsb rfl 59 (.tmp 4) (.tmp 55) rfl (cs':=flV 77 4 r 0) h4.out.b2 aggFl rfl rfl rfl rfl ?_;intro w1 hz1 hg1);exact bpa rfl hz1 aggFl rfl rfl (FwPost.mk hfin.out (fun h=>by have:=hfin.out;omega) (h4.out.fin hg1))
    |false=>
     go_wp2;go_roundw
     case rel=>exact⟨j+1,oQ,gQ,hB.out.trans (hZ.out.mono hB.out.size),hany⟩
     case measure=>exact mQ
   ·have g1:¬(j:Int)<L.length:=oQ;obtain rfl:j=L.length:=oQ;have hp2:=hp.out;rw[zL]at hp2;have hfin:(0:Int)=b:=by rw[hb3.out,if_neg (by rw[hp2];decide)]
    replace hfin:=Hd hfin;replace h3:=Hd h3;replace hp2:=Hd hp2;go_wp2_with (refine at_op (.store 59 (.tmp 4) (.tmp 57)) rfl ?_;refine wsb rfl 59 (.tmp 4) (.tmp 57) rfl (cs':=flV 0 0 0 0) h3.out.b2 aggFl rfl rfl rfl rfl ?_;intro w1 hz1 hg1);exact bpa rfl hz1 aggFl rfl rfl (FwPost.mk hfin.out (fun h=>⟨rfl,rfl,rfl⟩) (h3.out.fin hg1))
 ·have hfin:=Hd (wc1.out cv hcv.out hc0);have f1:=beqF hc0;have f2:=bneT hc0;have hc1:=Hd hc0;clear hc0;go_wp2_with (refine at_op (.store 59 (.tmp 4) (.tmp 37)) rfl ?_;refine wsb rfl 59 (.tmp 4) (.tmp 37) rfl (cs':=flV cv 4 i 0) h1.out.b2 aggFl rfl rfl rfl rfl ?_;intro w1 hz1 hg1);exact bpa rfl hz1 aggFl rfl rfl (FwPost.mk hfin.out.symm (fun h=>absurd (hfin.out.symm.trans h) hc1.out) (h1.out.fin hg1))
end ckW
def retG (l:List Td)(q:Qy)(t:List Nd):Int:=fz [walkC l q t true,if isTruthB t=true then 75 else 0]
theorem retC_many {l:List Td}{q:Qy}(h:8<q.ret.length):retC l q=78:=if_pos h
theorem retC_at {l:List Td}{q:Qy}(h:¬8<q.ret.length){j:Nat}{t:List Nd}{c:Int}(hx:q.ret[j]? =some t)(ha:∀(i:Nat) y,q.ret[i]? =some y→i<j→retG l q y=0)(hc:retG l q t=c)(hne:c≠0):retC l q=c:=by
 unfold retC;rw[if_neg h];have:=fz_map_at (g:=retG l q) hx ha (by rw[hc];exact hne);rw[hc]at this;exact this
theorem retC_end {l:List Td}{q:Qy}(h:¬8<q.ret.length)(ha:∀(i:Nat) y,q.ret[i]? =some y→i<q.ret.length→retG l q y=0):retC l q=0:=by
 unfold retC;rw[if_neg h];exact fz_map_all (g:=retG l q) ha
theorem truth_pos {t:List Nd}(h:isTruthB t=true):0<t.length:=by
 unfold isTruthB at h;by_cases h0:0<t.length
 ·exact h0
 ·rw[zV h0]at h;cases h
structure CB (l:List Td)(A:Option Addr)(c:Nat)(q:Qy)(s:Sl3)(w wr:World):Prop where
 sq:SQ l A c q s w wr
 b2:Blk wr (w.heap.size+1+1) 59 (flV 0 0 0 0)
section
variable {l:List Td}{A:Option Addr}{c:Nat}{q:Qy}{s:Sl3}{w wr W w1:World}
theorem CB.stay (h:CB l A c q s w wr)(hb:Bw wr W):CB l A c q s w W:=⟨h.sq.stay hb,h.b2.stay hb⟩
theorem CB.new (l:List Td)(A:Option Addr)(c:Nat)(q:Qy)(s:Sl3)(w:World):CB l A c q s w (((w.alloc (.cells ⟨[.slice A l.length c]⟩ 24)).alloc (.cells ⟨qV q s⟩ 31)).alloc (.cells ⟨flV 0 0 0 0⟩ 59)):=
 ⟨(SQ.new l A c q s w).stay bA,Blk.new' sJ⟩
theorem CB.fin (h:CB l A c q s w wr)(hg:wr.grownBy w1 (some (w.heap.size+1+1))):Bw w w1:=h.sq.hb.grown hg h.sq.hb.size (fun q hq=>by injection hq with hq;omega)
end
section
variable {sc:Int}{l:List Td}{q:Qy}
theorem ck1 (h:sc≠0):checkC sc l q=sc:=by unfold checkC;unfold fz;exact if_neg h
theorem ck2 (h:shapedB q=false):checkC 0 l q=50:=by unfold checkC;simp[fz,h]
theorem ck3 (h:shapedB q=true)(h2:itemsC l q≠0):checkC 0 l q=itemsC l q:=by unfold checkC;simp[fz,h,h2]
theorem ck4 (h:shapedB q=true)(h2:itemsC l q=0)(h3:whereC l q≠0):checkC 0 l q=whereC l q:=by unfold checkC;simp[fz,h,h2,h3]
theorem ck5 (h:shapedB q=true)(h2:itemsC l q=0)(h3:whereC l q=0)(h4:1099511627776<q.within):checkC 0 l q=66:=by unfold checkC withinC;simp[fz,h,h2,h3,h4]
theorem ck6 (h:shapedB q=true)(h2:itemsC l q=0)(h3:whereC l q=0)(h4:¬1099511627776<q.within)(h5:partC l q=67):checkC 0 l q=67:=by unfold checkC withinC;rw[if_neg h4];simp[fz,h,h2,h3,h5]
theorem ck7 (h:shapedB q=true)(h2:itemsC l q=0)(h3:whereC l q=0)(h4:¬1099511627776<q.within)(h5:partC l q=0):checkC 0 l q=retC l q:=by
 unfold checkC withinC;rw[if_neg h4];simp only[fz,h,h2,h3,h5];by_cases hr:retC l q=0<;>simp[hr]
end
theorem shaped_wh {q:Qy}(h:shapedB q=true):(q.wh=[]∨treeB q.wh=true)∧∀t∈q.ret,treeB t=true:=by
 unfold shapedB at h;simp only[xK,Bool.or_eq_true,decide_eq_true_eq]at h;obtain⟨_,_,_,_,_,_,_,h2,_,h3⟩:=h;exact⟨h2.imp (fun e=>List.eq_nil_of_length_eq_zero e) id,fun t ht=>xP.1 h3 t ht⟩
namespace ckW
open nmW
theorem results_k {A:Option Addr}{c:Nat}{F:Nat→Prop}{l:List Td}{q:Qy}{s:Sl3}{bs bq bv m:Nat}(hl:SzT l)(hs:SzQ q)(hsh:∀t∈q.ret,treeB t=true){w:World}(h:AB l A c q s F bs bq bv m w):
  Calls Tryz.prog 74 #[.agg ⟨qV q s⟩,askV bs bq bv] w (FwPost (retC l q) w):=by
 have h0:=WB.new q s bs bq bv w;have hA0:=h.stay (show Bw w _ from h0.hb);obtain⟨y0,y1,y2,y3,y4,y5,y6⟩:=qbc h0.b0;have z1:=h0.b1.cell 0;obtain⟨b,hc⟩:∃b,b=retC l q:=⟨_,rfl⟩
 rw[←hc];by_cases h8:8<q.ret.length
 ·have hfin:(78:Int)=b:=by rw[hc,retC_many h8]
  have f0:(8:Int)<q.ret.length:=oQ;obtain⟨A1,c1,A2,c2,A3,c3⟩:=s;simp only[qV,askV,flV,zY]at h0 y6 z1 ⊢;replace h0:=Hd h0;replace hfin:=Hd hfin;clear hc h hA0 hs hsh h8 y0 y1 y2 y3 y4 y5;go_enter Tryz.func74,Tryz.ntmps74;go_wp2_with (refine at_op (.store 59 (.tmp 4) (.tmp 13)) rfl ?_;refine wsb rfl 59 (.tmp 4) (.tmp 13) rfl (cs':=flV 78 5 8 0) h0.out.b2 aggFl rfl rfl rfl rfl ?_;intro w1 hz1 hg1);exact bpa rfl hz1 aggFl rfl rfl (FwPost.mk hfin.out (fun h=>by have:=hfin.out;omega) (h0.out.fin hg1))
 have f0:¬(8:Int)<q.ret.length:=oQ;obtain⟨W0,hW0⟩:∃W0,W0=(((w.alloc (.cells ⟨qV q s⟩ 31)).alloc (.cells ⟨[askV bs bq bv]⟩ 121)).alloc (.cells ⟨flV 0 0 0 0⟩ 59)):=⟨_,rfl⟩
 rw[←hW0]at h0 hA0 y0 y1 y2 y3 y4 y5 y6 z1;have kw:∀(W:World)(t:List Nd) A' c',t∈q.ret→Bw W0 W→Rd W F (.slice A' t.length c') (.sl t.length (t.flatMap ndD))→Calls Tryz.prog 114 #[.slice A' t.length c',.func (.func 118) #[] #[.pointer (some ⟨w.heap.size+1,0,none⟩)]] W (WkPost t (mentC l q true) W):=fun W t A' c' ht hW rd=>by
  have hab:=treeB_lt (hsh t ht);exact walktrue_k A' c' F t (mentC l q true) (w.heap.size+1) (hs.re t ht).1 (fun x hx=>⟨(hab x hx).1.2,(hab x hx).2.2⟩) W (hA0.qr.under hW).lt rd fun x hx W2 hW2=>asktrue_k hl hs x ((hs.re t ht).2 x hx).1 (hA0.stay (hW.trans (hW2.mono hW.size))) (h0.b1.stay (hW.trans (hW2.mono hW.size)))
 have kt:∀(W:World)(t:List Nd) A' c',t∈q.ret→Rd W F (.slice A' t.length c') (.sl t.length (t.flatMap ndD))→Calls Tryz.prog 116 #[.slice A' t.length c'] W fun e w'=>e=.returned (.bool (isTruthB t))∧w'=W:=fun W t A' c' ht rd=>isTruth_k A' c' F t (hs.re t ht).1 W rd
 have hrt:=hs.re;have hrl:=hs.rl;have hQ:=hA0.qr;obtain⟨A1,c1,A2,c2,A3,c3⟩:=s;simp only[qV,askV,flV,zY]at h0 hW0 y6 z1 ⊢;have hWW:=Hd hW0;replace h0:=Hd h0;replace kw:=Hd kw;replace kt:=Hd kt;replace hrt:=Hd hrt;replace hQ:=Hd hQ;replace hc:=Hd hc;have h8':=Hd h8;clear h hA0 hs hsh hW0 y0 y1 y2 y3 y4 y5 h8;have hmf:∀(fn:Fn) (first cap:Array Value) (w:World),(Instr.makeFunc fn first cap).run Tryz.prog w=.ok (.func fn first cap) w:=fun _ _ _ _=>rfl
 go_enter Tryz.func74,Tryz.ntmps74;go_upto_region 1 with fail
 rw[←hWW.out];go_wp2;clear y6 z1;go_loopw [17] (fun i wr=>∃j:Nat,j≤q.ret.length∧i=.int .i64 j∧Bw W0 wr∧Hid (∀(i:Nat) y,q.ret[i]? =some y→i<j→retG l q y=0)) (fun i _=>q.ret.length- (intOf i).toNat)
 case atStart=>exact⟨0,zE _,rfl,bR,fun i y hy hi=>by omega⟩
 case round=>
  obtain⟨j,hj,rfl,hB,hp⟩:=hrel;have h3:=h0.out.stay hB;by_cases hlt:j<q.ret.length
  ·obtain⟨t,ht⟩:=getx hlt;have htm:=zA ht;obtain⟨g,off,B2,d2,e,_,rx,a0⟩:=re_at (hQ.out.under hB).r3 ht;simp only at e;subst e;have g1:(0:Int)≤(j:Int):=oQ;have g2:(j:Int)<q.ret.length:=oQ;have htl:=(hrt.out t htm).1;have kw':=kw.out wr t B2 d2 htm hB rx;have kt':∀W,Bw wr W→_:=fun W hW=>kt.out W t B2 d2 htm (rx.under hW (fun b hb=>zF (hQ.out.lt b hb) hB.size))
   have hfx:∀c:Int,retG l q t=c→c≠0→b=c:=fun c h1 h2=>by rw[hc.out];exact retC_at h8'.out ht hp.out h1 h2
   have hpx:retG l q t=0→∀(i:Nat) y,q.ret[i]? =some y→i<j+1→retG l q y=0:=fun h i y hy hi=>by
    by_cases e:i=j
    ·subst e;obtain rfl:t=y:=by rw[hy]at ht;exact(zq9 ht).symm
     exact h
    ·exact hp.out i y hy oQ
   have hpos:=fun h=>truth_pos (t:=t) h
   unfold retG at hfx hpx;rw[fz2]at hfx;rw[show fz [walkC l q t true,if isTruthB t=true then 75 else 0]=if walkC l q t true=0 then(if isTruthB t=true then 75 else 0)else walkC l q t true from fz2 _ _]at hpx;generalize isTruthB t=tb at*;replace h3:=Hd h3;replace kw':=Hd kw';replace kt':=Hd kt';replace hfx:=Hd hfx;replace hpx:=Hd hpx;replace hpos:=Hd hpos;replace hB:=Hd hB;replace ht:=Hd ht;replace rx:=Hd rx;go_upto_region 7 with(go_at_call 114;refine kw'.out.mono ?_;rintro e W1 ⟨i,cv,rfl,hcv,hW1⟩;replace hcv:=Hd (show cv=walkC l q t true from hcv))
   have h4:=Hd (h3.out.stay hW1);have k3:=Hd (kt'.out W1 hW1);replace hW1:=Hd hW1;clear a0;by_cases hc0:cv=0
   ·subst hc0;cases tb with
    |true=>
     have hfin:=Hd (hfx.out 75 (by rw[←hcv.out];rfl) dQ);have hp0:=hpos.out rfl;go_wp2_with (first
      |(go_at_call 116;refine k3.out.mono ?_;rintro e W2 ⟨rfl,hW2⟩;subst W2)
      |(refine at_op (.store 59 (.tmp 4) (.tmp 42)) rfl ?_;refine wsb rfl 59 (.tmp 4) (.tmp 42) rfl (cs':=flV 75 5 j ((t.length:Int) -1)) h4.out.b2 aggFl rfl rfl rfl rfl ?_;intro w1 hz1 hg1))
     exact bpa rfl hz1 aggFl rfl rfl (FwPost.mk hfin.out.symm (fun h=>by have:=hfin.out;omega) (h4.out.fin hg1))
    |false=>
     have hp2:Hid (∀(i:Nat) y,q.ret[i]? =some y→i<j+1→retG l q y=0):=hpx.out (by rw[←hcv.out];rfl);go_wp2_with (go_at_call 116;refine k3.out.mono ?_;rintro e W2 ⟨rfl,hW2⟩;subst W2);go_roundw
     case rel=>exact⟨j+1,oQ,gQ,hB.out.trans (hW1.out.mono hB.out.size),hp2⟩
     case measure=>exact mQ
   ·have hfin:=Hd (hfx.out cv (by rw[←hcv.out];exact if_neg hc0) hc0);have f1:=beqF hc0;have f2:=bneT hc0;have hc1:=Hd hc0;clear hc0;go_wp2_with (refine at_op (.store 59 (.tmp 4) (.tmp 42)) rfl ?_;refine wsb rfl 59 (.tmp 4) (.tmp 42) rfl (cs':=flV cv 5 j i) h4.out.b2 aggFl rfl rfl rfl rfl ?_;intro w1 hz1 hg1);exact bpa rfl hz1 aggFl rfl rfl (FwPost.mk hfin.out.symm (fun h=>absurd (hfin.out.symm.trans h) hc1.out) (h4.out.fin hg1))
  ·have g1:¬(j:Int)<q.ret.length:=oQ;obtain rfl:j=q.ret.length:=oQ;have hfin:(0:Int)=b:=by rw[hc.out,retC_end h8'.out hp.out]
   replace hfin:=Hd hfin;replace h3:=Hd h3;go_wp2_with (refine at_op (.store 59 (.tmp 4) (.tmp 44)) rfl ?_;refine wsb rfl 59 (.tmp 4) (.tmp 44) rfl (cs':=flV 0 0 0 0) h3.out.b2 aggFl rfl rfl rfl rfl ?_;intro w1 hz1 hg1);exact bpa rfl hz1 aggFl rfl rfl (FwPost.mk hfin.out (fun h=>⟨rfl,rfl,rfl⟩) (h3.out.fin hg1))
theorem check_k (A:Option Addr)(c:Nat)(F:Nat→Prop)(l:List Td)(q:Qy)(s:Sl3)(hl:SzT l)(hs:SzQ q)(w:World)(hK:KwIs w)(R:QR w F q s)(r:Rd w F (.slice A l.length c) (.sl l.length (l.flatMap tdD))):
  Calls Tryz.prog 36 #[.agg ⟨[.slice A l.length c]⟩,.agg ⟨qV q s⟩] w (FwPost (checkC (scC l) l q) w):=by
 have h0:=CB.new l A c q s w;obtain⟨y0,y1,y2,y3,y4,y5,y6⟩:=qbc h0.sq.b1;have x0:=h0.sq.b0.cell 0;obtain⟨W0,hW0⟩:∃W0,W0=(((w.alloc (.cells ⟨[.slice A l.length c]⟩ 24)).alloc (.cells ⟨qV q s⟩ 31)).alloc (.cells ⟨flV 0 0 0 0⟩ 59)):=⟨_,rfl⟩
 rw[←hW0]at h0 y0 y1 y2 y3 y4 y5 y6 x0;have hb0:=h0.sq.hb;have lt0:∀W,Bw W0 W→Bw w W:=fun W hW=>hb0.trans (hW.mono hb0.size)
 have cells:∀W,Bw W0 W→CB l A c q s w W:=fun W hW=>h0.stay hW
 have k1:Calls Tryz.prog 66 #[.agg #[.slice A l.length c]] W0 fun e w'=>e=.returned (.int .i64 (scC l))∧Bw W0 w':=checkSchema_k A c F l hl W0 (hK.stay hb0) (R.under hb0).lt (r.under hb0 R.lt)
 have k2:∀W,Bw W0 W→Calls Tryz.prog 67 #[.agg ⟨qV q s⟩] W fun e w'=>e=.returned (.bool (shapedB q))∧Bw W w':=fun W hW=>shaped_k q s F hs W (hK.stay (lt0 W hW)) (R.under (lt0 W hW))
 have k3:∀W,Bw W0 W→Calls Tryz.prog 68 #[.agg ⟨[.slice A l.length c]⟩,.agg ⟨qV q s⟩] W (FwPost (itemsC l q) W):=fun W hW=>items_k A c F l q s hl hs W (R.under (lt0 W hW)).lt (r.under (lt0 W hW) R.lt) (R.under (lt0 W hW))
 have k4:∀W,Bw W0 W→Calls Tryz.prog 69 #[.agg ⟨qV q s⟩] W fun e w'=>e=.returned (.map (some (W.heap.size+1)))∧(∃f,MapG 9 w' (W.heap.size+1) q.items.length f∧NmIs (vrs q) f)∧Bw W w':=fun W hW=>byName_k q s F hs.il (fun x hx=>(hs.it x hx).2) W (R.under (lt0 W hW)).lt (R.under (lt0 W hW)).r1
 have kA:∀W m,Bw W0 W→(∃f,MapG 9 W m q.items.length f∧NmIs (vrs q) f)→AB l A c q s F w.heap.size (w.heap.size+1) W.heap.size m (W.alloc (.cells ⟨[.map (some m)]⟩ 118)):=fun W m hW hm=>by
  have hC:=(cells W hW).stay (bX (.cells ⟨[.map (some m)]⟩ 118));obtain⟨f,h1,h2⟩:=hm;exact⟨hC.sq.b0,hC.sq.b1,Blk.new _ _ _,⟨f,h1.stay bA,h2⟩,(r.under (lt0 W hW) R.lt).alloc _,R.under ((lt0 W hW).trans ((bA).mono (lt0 W hW).size))⟩
 have k5:shapedB q=true→∀bv m W,Bw W0 W→AB l A c q s F w.heap.size (w.heap.size+1) bv m W→Calls Tryz.prog 72 #[.agg ⟨qV q s⟩,askV w.heap.size (w.heap.size+1) bv] W (FwPost (whereC l q) W):=fun hsh bv m W hW hA=>where_k hl hs (shaped_wh hsh).1 (hK.stay (lt0 W hW)) hA
 have k6:∀W,Bw W0 W→Calls Tryz.prog 73 #[.agg ⟨[.slice A l.length c]⟩,.agg ⟨qV q s⟩] W fun e w'=>e=.returned (.bool (partB l q))∧Bw W w':=fun W hW=>partable_k A c F l q s hl hs W (R.under (lt0 W hW)).lt (r.under (lt0 W hW) R.lt) (R.under (lt0 W hW))
 have k7:shapedB q=true→∀bv m W,AB l A c q s F w.heap.size (w.heap.size+1) bv m W→Calls Tryz.prog 74 #[.agg ⟨qV q s⟩,askV w.heap.size (w.heap.size+1) bv] W (FwPost (retC l q) W):=fun hsh bv m W hA=>results_k hl hs (shaped_wh hsh).2 hA
 obtain⟨b,hc⟩:∃b,b=checkC (scC l) l q:=⟨_,rfl⟩
 rw[←hc];generalize scC l=sc at*;have e1:sc≠0→b=sc:=fun h=>by rw[hc,ck1 h]
 have e2:sc=0→shapedB q=false→b=50:=fun h h2=>by rw[hc,h,ck2 h2]
 have e3:sc=0→shapedB q=true→itemsC l q≠0→b=itemsC l q:=fun h h2 h3=>by rw[hc,h,ck3 h2 h3]
 have e4:sc=0→shapedB q=true→itemsC l q=0→whereC l q≠0→b=whereC l q:=fun h h2 h3 h4=>by rw[hc,h,ck4 h2 h3 h4]
 have e5:sc=0→shapedB q=true→itemsC l q=0→whereC l q=0→1099511627776<q.within→b=66:=fun h h2 h3 h4 h5=>by rw[hc,h,ck5 h2 h3 h4 h5]
 have e6:sc=0→shapedB q=true→itemsC l q=0→whereC l q=0→¬1099511627776<q.within→q.by_≠emp→partB l q=false→b=67:=fun h h2 h3 h4 h5 h6 h7=>by rw[hc,h,ck6 h2 h3 h4 h5 (by unfold partC;rw[if_neg h6,h7];rfl)]
 have e7:sc=0→shapedB q=true→itemsC l q=0→whereC l q=0→¬1099511627776<q.within→(q.by_=emp∨partB l q=true)→b=retC l q:=fun h h2 h3 h4 h5 h6=>by
  rw[hc,h,ck7 h2 h3 h4 h5];unfold partC;by_cases hb:q.by_=emp
  ·rw[if_pos hb]
  ·rw[if_neg hb,if_pos (h6.resolve_left hb)]
 clear hc;generalize itemsC l q=ic at*;generalize whereC l q=wc0 at*;generalize retC l q=rc at*;generalize shapedB q=sb at*;generalize partB l q=pb at*;obtain⟨A1,c1,A2,c2,A3,c3⟩:=s;simp only[qV,askV,flV,zY]at hW0 y0 y1 y2 y3 y4 y5 y6 x0 k2 k3 k4 k5 k6 k7 ⊢;have hWW:=Hd hW0;replace cells:=Hd cells;replace k1:=Hd k1;replace k2:=Hd k2;replace k3:=Hd k3;replace k4:=Hd k4;replace k5:=Hd k5;replace k6:=Hd k6;replace k7:=Hd k7;replace kA:=Hd kA;replace e1:=Hd e1;replace e2:=Hd e2;replace e3:=Hd e3;replace e4:=Hd e4;replace e5:=Hd e5;replace e6:=Hd e6;replace e7:=Hd e7;clear hl hs hK R r h0 lt0 hW0 hb0;have hmf:∀(fn:Fn) (first cap:Array Value) (w:World),(Instr.makeFunc fn first cap).run Tryz.prog w=.ok (.func fn first cap) w:=fun _ _ _ _=>rfl
 go_enter Tryz.func36,Tryz.ntmps36;go_upto_region 1 with fail
 rw[←hWW.out];go_upto_region 2 with(go_at_call 66;refine k1.out.mono ?_;rintro e W1 ⟨rfl,hW1⟩)
 clear x0 y0 y1 y2 y3 y4 y5 y6;have hC1:=cells.out W1 hW1;obtain⟨y0,y1,y2,y3,y4,y5,y6⟩:=qbc hC1.sq.b1;have x0:=hC1.sq.b0.cell 0;simp only[zY]at x0 y0 y3 y6;replace hC1:=Hd hC1;have k2':=Hd (k2.out W1 hW1);by_cases hs0:sc=0
 case neg=>
  have hfin:=Hd (e1.out hs0);have f1:=beqF hs0;have f2:=bneT hs0;have hc1:=Hd hs0;replace hW1:=Hd hW1;clear hs0 x0 y0 y1 y2 y3 y4 y5 y6;go_wp2_with (refine at_op (.store 59 (.tmp 4) (.tmp 15)) rfl ?_;refine wsb rfl 59 (.tmp 4) (.tmp 15) rfl (cs':=flV sc 0 0 0) hC1.out.b2 aggFl rfl rfl rfl rfl ?_;intro w1 hz1 hg1);exact bpa rfl hz1 aggFl rfl rfl (FwPost.mk hfin.out.symm (fun h=>⟨rfl,rfl,rfl⟩) (hC1.out.fin hg1))
 subst hs0;replace hW1:=Hd hW1;cases sb with
 |false=>
  have hfin:=Hd (e2.out (by trivial) (by trivial));go_wp2_with (first
   |(go_at_call 67;refine k2'.out.mono ?_;rintro e W2 ⟨rfl,hW2⟩;have hC2:=Hd (hC1.out.stay hW2);clear hW2)
   |(refine at_op (.store 59 (.tmp 4) (.tmp 19)) rfl ?_;refine wsb rfl 59 (.tmp 4) (.tmp 19) rfl (cs':=flV 50 0 0 0) hC2.out.b2 aggFl rfl rfl rfl rfl ?_;intro w1 hz1 hg1))
  exact bpa rfl hz1 aggFl rfl rfl (FwPost.mk hfin.out.symm (fun h=>⟨rfl,rfl,rfl⟩) (hC2.out.fin hg1))
 |true=>
 go_upto_region 6 with(go_at_call 67;refine k2'.out.mono ?_;rintro e W2 ⟨rfl,hW2⟩;have hX2:=hW1.out.trans (hW2.mono hW1.out.size);clear hW2)
 clear x0 y0 y1 y2 y3 y4 y5 y6;have hC2:=cells.out W2 hX2;obtain⟨y0,y1,y2,y3,y4,y5,y6⟩:=qbc hC2.sq.b1;have x0:=hC2.sq.b0.cell 0;simp only[zY]at x0 y0 y3 y6;have k3':=Hd (k3.out W2 hX2);clear hC2;replace hX2:=Hd hX2;go_upto_region 7 with(go_at_call 68;refine k3'.out.mono ?_;rintro e W3 ⟨p3,i3,s3,rfl,hz3,hW3⟩;have hX3:=hX2.out.trans (hW3.mono hX2.out.size);clear hW3)
 clear x0 y0 y1 y2 y3 y4 y5 y6;have hX4:Bw W0 (W3.alloc (.cells ⟨[.int .i64 ic,.int .i64 p3,.int .i64 i3,.int .i64 s3]⟩ 59)):=hX3.alloc hX3.size _;have hC3:=cells.out _ hX4;obtain⟨y0,y1,y2,y3,y4,y5,y6⟩:=qbc hC3.sq.b1;have x0:=hC3.sq.b0.cell 0;simp only[zY]at x0 y0 y3 y6;replace hC3:=Hd hC3;replace hz3:=Hd hz3;by_cases hi0:ic=0
 case neg=>
  have hfin:=Hd (e3.out (by trivial) (by trivial) hi0);have f1:=beqF hi0;have f2:=bneT hi0;have hc1:=Hd hi0;replace hX3:=Hd hX3;replace hX4:=Hd hX4;clear hi0 x0 y0 y1 y2 y3 y4 y5 y6;go_wp2_with (refine at_op (.store 59 (.tmp 4) (.tmp 26)) rfl ?_;refine wsb rfl 59 (.tmp 4) (.tmp 26) rfl (cs':=flV ic p3 i3 s3) hC3.out.b2 aggFl rfl rfl rfl rfl ?_;intro w1 hz1 hg1);exact bpa rfl hz1 aggFl rfl rfl (FwPost.mk hfin.out.symm (fun h=>absurd (hfin.out.symm.trans h) hc1.out) (hC3.out.fin hg1))
 subst hi0;obtain⟨W4,hW4⟩:∃W,W=(W3.alloc (.cells ⟨[.int .i64 0,.int .i64 p3,.int .i64 i3,.int .i64 s3]⟩ 59)):=⟨_,rfl⟩
 rw[←hW4]at hX4 hC3;have k4':=k4.out W4 hX4;rw[hW4]at k4';have hsz4:(W3.alloc (.cells ⟨[.int .i64 0,.int .i64 p3,.int .i64 i3,.int .i64 s3]⟩ 59)).heap.size=W3.heap.size+1:=sJ;try unfold Bw at k4'
 rw[hsz4]at k4';rw[hW4]at hX4;replace k4':=Hd k4';replace hX3:=Hd hX3;replace hX4:=Hd hX4;replace hW4:=Hd hW4;clear hsz4 hC3;go_upto_region 10 with(go_at_call 69;refine k4'.out.mono ?_;rintro e W5 ⟨rfl,hm5,hW5⟩)
 have hX5:Bw W0 W5:=hX4.out.trans (hW5.mono (by have:=hX3.out.size;omega));have hA5:=kA.out W5 _ hX5 hm5;have hX6:Bw W0 (W5.alloc (.cells ⟨[.map (some (W3.heap.size+1+1))]⟩ 118)):=hX5.alloc hX5.size _;have k5':=k5.out (by trivial) _ _ _ hX6 hA5;clear x0 y0 y1 y2 y3 y4 y5 y6;have hC5:=cells.out _ hX6;obtain⟨y0,y1,y2,y3,y4,y5,y6⟩:=qbc hC5.sq.b1;have x0:=hC5.sq.b0.cell 0;simp only[zY]at x0 y0 y3 y6;replace hC5:=Hd hC5;replace k5':=Hd k5';replace hA5:=Hd hA5;replace hX6:=Hd hX6;replace hX5:=Hd hX5;replace hW5:=Hd hW5;replace hm5:=Hd hm5;go_upto_region 12 with(go_at_call 72;refine k5'.out.mono ?_;rintro e W6 ⟨p6,i6,s6,rfl,hz6,hW6⟩)
 have hA6:=hA5.out.stay (hW6.trans ((bX (.cells ⟨[.int .i64 wc0,.int .i64 p6,.int .i64 i6,.int .i64 s6]⟩ 59)).mono hW6.size));have hX7:Bw W0 (W6.alloc (.cells ⟨[.int .i64 wc0,.int .i64 p6,.int .i64 i6,.int .i64 s6]⟩ 59)):=(hX6.out.trans (hW6.mono hX6.out.size)).alloc (by have h1:=hX6.out.size;have h2:=hW6.size;omega) _;clear x0 y0 y1 y2 y3 y4 y5 y6;have hC6:=cells.out _ hX7;obtain⟨y0,y1,y2,y3,y4,y5,y6⟩:=qbc hC6.sq.b1;have x0:=hC6.sq.b0.cell 0;simp only[zY]at x0 y0 y3 y6;replace hC6:=Hd hC6;replace hz6:=Hd hz6;by_cases hi0:wc0=0
 case neg=>
  have hfin:=Hd (e4.out (by trivial) (by trivial) (by trivial) hi0);have f1:=beqF hi0;have f2:=bneT hi0;have hc1:=Hd hi0;replace hX7:=Hd hX7;replace hA6:=Hd hA6;replace hW6:=Hd hW6;clear hi0 x0 y0 y1 y2 y3 y4 y5 y6;go_wp2_with (refine at_op (.store 59 (.tmp 4) (.tmp 36)) rfl ?_;refine wsb rfl 59 (.tmp 4) (.tmp 36) rfl (cs':=flV wc0 p6 i6 s6) hC6.out.b2 aggFl rfl rfl rfl rfl ?_;intro w1 hz1 hg1);exact bpa rfl hz1 aggFl rfl rfl (FwPost.mk hfin.out.symm (fun h=>absurd (hfin.out.symm.trans h) hc1.out) (hC6.out.fin hg1))
 subst hi0;have k6':=Hd (k6.out _ hX7);have k7':=Hd (fun W (hW:Below (W6.alloc (.cells ⟨[.int .i64 0,.int .i64 p6,.int .i64 i6,.int .i64 s6]⟩ 59)).heap.size (W6.alloc (.cells ⟨[.int .i64 0,.int .i64 p6,.int .i64 i6,.int .i64 s6]⟩ 59)) W)=>k7.out (by trivial) _ _ W (hA6.stay hW));have cellsW:∀W,Below (W6.alloc (.cells ⟨[.int .i64 0,.int .i64 p6,.int .i64 i6,.int .i64 s6]⟩ 59)).heap.size (W6.alloc (.cells ⟨[.int .i64 0,.int .i64 p6,.int .i64 i6,.int .i64 s6]⟩ 59)) W→CB l A c q ⟨A1,c1,A2,c2,A3,c3⟩ w W:=fun W hW=>cells.out W (hX7.trans (hW.mono hX7.size))
 replace cellsW:=Hd cellsW;replace hX7:=Hd hX7;replace hA6:=Hd hA6;replace hW6:=Hd hW6;by_cases hwn:1099511627776<q.within
 ·have hfin:=Hd (e5.out (by trivial) (by trivial) (by trivial) (by trivial) hwn);go_wp2_with (refine at_op (.store 59 (.tmp 4) (.tmp 40)) rfl ?_;refine wsb rfl 59 (.tmp 4) (.tmp 40) rfl (cs':=flV 66 2 0 0) hC6.out.b2 aggFl rfl rfl rfl rfl ?_;intro w1 hz1 hg1);exact bpa rfl hz1 aggFl rfl rfl (FwPost.mk hfin.out.symm (fun h=>by have:=hfin.out;omega) (hC6.out.fin hg1))
 by_cases hbe:q.by_=emp
 ·have f5:(q.by_.toList==([]:List UInt8))=true:=by rw[emp_eq];exact zW hbe
  have f5n:(q.by_.toList != ([]:List UInt8))=false:=by rw[bne,f5];rfl
  have hfin:=Hd (e7.out (by trivial) (by trivial) (by trivial) (by trivial) oQ (.inl hbe));have k8:=Hd (k7'.out _ bR);replace hbe:=Hd hbe;go_wp2_with (first
   |(go_at_call 74;refine k8.out.mono ?_;rintro e W8 ⟨p8,i8,s8,rfl,hz8,hW8⟩;have hC8:=Hd (hC6.out.stay hW8);replace hz8:=Hd hz8;replace hW8:=Hd hW8)
   |(refine at_op (.store 59 (.tmp 4) (.tmp 53)) rfl ?_;refine wsb rfl 59 (.tmp 4) (.tmp 53) rfl (cs':=flV rc p8 i8 s8) hC8.out.b2 aggFl rfl rfl rfl rfl ?_;intro w1 hz1 hg1))
  exact bpa rfl hz1 aggFl rfl rfl (FwPost.mk hfin.out.symm (fun h=>hz8.out (hfin.out.symm.trans h)) (hC8.out.fin hg1))
 have f5:(q.by_.toList==([]:List UInt8))=false:=by rw[emp_eq];exact zV hbe
 have f5n:(q.by_.toList != ([]:List UInt8))=true:=by rw[bne,f5];rfl
 cases pb with
 |false=>
  have hfin:=Hd (e6.out (by trivial) (by trivial) (by trivial) (by trivial) oQ hbe (by trivial));replace hbe:=Hd hbe;go_wp2_with (first
   |(go_at_call 73;refine k6'.out.mono ?_;rintro e W8 ⟨rfl,hW8⟩;have hC8:=Hd (hC6.out.stay hW8);replace hW8:=Hd hW8)
   |(refine at_op (.store 59 (.tmp 4) (.tmp 50)) rfl ?_;refine wsb rfl 59 (.tmp 4) (.tmp 50) rfl (cs':=flV 67 3 0 0) hC8.out.b2 aggFl rfl rfl rfl rfl ?_;intro w1 hz1 hg1))
  exact bpa rfl hz1 aggFl rfl rfl (FwPost.mk hfin.out.symm (fun h=>by have:=hfin.out;omega) (hC8.out.fin hg1))
 |true=>
  have hfin:=Hd (e7.out (by trivial) (by trivial) (by trivial) (by trivial) oQ (.inr (by trivial)));replace hbe:=Hd hbe;go_wp2_with (first
   |(go_at_call 73;refine k6'.out.mono ?_;rintro e W7 ⟨rfl,hW7⟩;have k8:=Hd (k7'.out _ hW7);have hC7:=cellsW.out _ hW7;obtain⟨u0,u1,u2,u3,u4,u5,u6⟩:=qbc hC7.sq.b1;simp only at u0 u3 u6;replace hC7:=Hd hC7;replace hW7:=Hd hW7)
   |(go_at_call 74;refine k8.out.mono ?_;rintro e W8 ⟨p8,i8,s8,rfl,hz8,hW8⟩;have hC8:=Hd (hC7.out.stay hW8);replace hz8:=Hd hz8;replace hW8:=Hd hW8)
   |(refine at_op (.store 59 (.tmp 4) (.tmp 53)) rfl ?_;refine wsb rfl 59 (.tmp 4) (.tmp 53) rfl (cs':=flV rc p8 i8 s8) hC8.out.b2 aggFl rfl rfl rfl rfl ?_;intro w1 hz1 hg1))
  exact bpa rfl hz1 aggFl rfl rfl (FwPost.mk hfin.out.symm (fun h=>hz8.out (hfin.out.symm.trans h)) (hC8.out.fin hg1))
end ckW
end Go.Proofs.YthaabihjeomipaaGreatDoor
