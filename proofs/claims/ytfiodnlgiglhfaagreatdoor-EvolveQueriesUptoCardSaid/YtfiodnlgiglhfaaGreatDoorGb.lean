/- What is wrong with WHERE's expression. -/
import Derived.Test.YtfiodnlgiglhfaaGreatDoorGa
namespace Go.Proofs.YtfiodnlgiglhfaaGreatDoor
set_option maxRecDepth 100000
set_option maxHeartbeats 16000000
open Go.RowKit Go.Deep Go.Maps
set_option linter.unusedVariables false
set_option linter.unusedSimpArgs false
def askV (bs bq bv:Nat):Value:=.func (.func 37) #[] #[.pointer (some ⟨bs,0,none⟩),.pointer (some ⟨bq,0,none⟩),.pointer (some ⟨bv,0,none⟩)]
structure WB (q:Qy)(s:Sl3)(bs bq bv:Nat)(w W:World):Prop where
 hb:Bw w W
 b0:Blk W w.heap.size 32 (qV q s)
 b1:Blk W (w.heap.size+1) 100 [askV bs bq bv]
 b2:Blk W (w.heap.size+1+1) 60 (flV 0 0 0 0)
section
variable {q:Qy}{s:Sl3}{bs bq bv:Nat}{w W W' w1:World}
theorem WB.stay (h:WB q s bs bq bv w W)(hb:Bw W W'):WB q s bs bq bv w W':=⟨h.hb.trans (hb.mono h.hb.size),h.b0.stay hb,h.b1.stay hb,h.b2.stay hb⟩
theorem WB.new (q:Qy)(s:Sl3)(bs bq bv:Nat)(w:World):WB q s bs bq bv w (((w.alloc (.cells ⟨qV q s⟩ 32)).alloc (.cells ⟨[askV bs bq bv]⟩ 100)).alloc (.cells ⟨flV 0 0 0 0⟩ 60)):=
 ⟨((bA).alloc (by simp) _).alloc (by simp;omega) _,(((Blk.new w _ _).alloc _).alloc _),(((Blk.new' (by simp)).alloc _)),(Blk.new' (by simp))⟩
theorem WB.fin (h:WB q s bs bq bv w W)(hg:W.grownBy w1 (some (w.heap.size+1+1))):Bw w w1:=h.hb.grown hg h.hb.size (fun q hq=>by injection hq with hq;omega)
theorem qbc {g:Nat}(h:Blk W g 32 (qV q s)):W.cell? ⟨g,0,none⟩=some (.slice s.a1 q.items.length s.c1)∧W.cell? ⟨g,1,none⟩=some (.int .i64 q.mode)∧W.cell? ⟨g,2,none⟩=some (.int .i64 q.after)∧
  W.cell? ⟨g,3,none⟩=some (.slice s.a2 q.wh.length s.c2)∧W.cell? ⟨g,4,none⟩=some (.int .i64 q.within)∧W.cell? ⟨g,5,none⟩=some (.string q.by_)∧W.cell? ⟨g,6,none⟩=some (.slice s.a3 q.ret.length s.c3):=
 ⟨h.cell 0,h.cell 1,h.cell 2,h.cell 3,h.cell 4,h.cell 5,h.cell 6⟩
end
theorem cj_mem {t:List Nd}{b r:Nat}(h:Sp t b r):∀{n i:Nat},r-b≤n→i∈cjF t n r→i≤r:=by
 induction h with
 |lf hx h1 h2 h3=>
  intro n i _ hi;rw[cj_one (by rw[opAt_of hx];simp[isLf]at h1;omega)]at hi;simp at hi;omega
 |un hx h1 h2 h3 h4 ih=>
  intro n i _ hi;rw[cj_one (by rw[opAt_of hx];simp[isUn]at h1;omega)]at hi;simp at hi;omega
 |bi hx h1 h2 h3 h4 h5 ih1 ih2=>
  rename_i b m j x;intro n i hn hi;have l1:=h4.le;have l2:=h5.le;by_cases ho:opAt t (j+1)=25
  ·rw[cj_two ho (by unfold kidA;rw[hx];simp[h2]) (by unfold kidB;rw[hx];simp[h3]) h4 h5 (by omega)]at hi;rcases zM.1 hi with hi |hi
   ·have:=ih1 (n:=n) (by omega) hi;omega
   ·have:=ih2 (n:=n) (by omega) hi;omega
  ·rw[cj_one ho]at hi;simp at hi;omega
theorem conjs_sp {t:List Nd}(h:treeB t=true){i:Nat}(hi:i∈conjs t):∃b,Sp t b i:=by
 obtain⟨⟨n,hn,hsp⟩,ha,_⟩:=treeB_sp h;unfold conjs at hi;rw[show t.length-1=n by omega]at hi;have:=cj_mem hsp (by omega) hi;exact ha i (by omega)
theorem subL_len {t:List Nd}{b r:Nat}(h:Sp t b r):(subL t b r).length=r+1-b:=by
 have:=h.lt;have:=h.le;unfold subL;rw[xC,zO,List.length_drop];omega
theorem subL_sz {t:List Nd}{b r:Nat}(h:Sp t b r)(hs:SzN t):SzN (subL t b r):=by
 refine⟨by rw[subL_len h];have:=h.lt;have:=hs.1;omega,fun x hx=>?_⟩;unfold subL at hx;obtain⟨y,hy,rfl⟩:=List.mem_map.1 hx;exact hs.2 y (List.mem_of_mem_drop (List.mem_of_mem_take hy))
theorem whereC_nil {l:List Td}{q:Qy}(h:q.wh=[]):whereC l q=0:=if_pos h
theorem whereC_walk {l:List Td}{q:Qy}(h:q.wh≠ []){c:Int}(hc:c=walkC l q q.wh false)(hne:c≠0):whereC l q=c:=by
 unfold whereC;rw[if_neg h,←hc];unfold fz;exact if_neg hne
theorem whereC_truth {l:List Td}{q:Qy}(h:q.wh≠ [])(hc:0=walkC l q q.wh false)(ht:isTruthB q.wh=false):whereC l q=75:=by
 unfold whereC;rw[if_neg h,←hc,ht];rfl
theorem whereC_mix {l:List Td}{q:Qy}(h:q.wh≠ [])(hc:0=walkC l q q.wh false)(ht:isTruthB q.wh=true):whereC l q=if(conjs q.wh).any (fun r=>mixB q (subT q.wh r))=true then 77 else 0:=by
 unfold whereC;rw[if_neg h,←hc,ht];simp[fz]
namespace ckW
open nmW
theorem where_k {A:Option Addr}{c:Nat}{F:Nat→Prop}{l:List Td}{q:Qy}{s:Sl3}{bs bq bv m:Nat}(hl:SzT l)(hs:SzQ q)(hsh:q.wh=[]∨treeB q.wh=true){w:World}(hK:KwIs w)(h:AB l A c q s F bs bq bv m w):
  Calls Tryz.prog 39 #[.agg ⟨qV q s⟩,askV bs bq bv] w (FwPost (whereC l q) w):=by
 have h0:=WB.new q s bs bq bv w;have hA0:=h.stay (show Bw w _ from h0.hb);have hK0:=hK.stay h0.hb;obtain⟨y0,y1,y2,y3,y4,y5,y6⟩:=qbc h0.b0;have z1:=h0.b1.cell 0;obtain⟨b,hc⟩:∃b,b=whereC l q:=⟨_,rfl⟩
 rw[←hc];by_cases hn:q.wh=[]
 ·have hfin:(0:Int)=b:=by rw[hc,whereC_nil hn]
  have hl0:q.wh.length=0:=by rw[hn];rfl
  have f0:((q.wh.length:Int)==0)=true:=beqT (by omega);obtain⟨A1,c1,A2,c2,A3,c3⟩:=s;simp only[qV,askV,flV,zY]at h0 y0 y3 z1 ⊢;replace h0:=Hd h0;replace hfin:=Hd hfin;replace hl0:=Hd hl0;replace hn:=Hd hn;clear hc h hA0 hK0 hK hs hsh;go_enter Tryz.func39,Tryz.ntmps39;go_wp2_with (refine at_op (.store 60 (.tmp 4) (.tmp 13)) rfl ?_;refine wsb rfl 60 (.tmp 4) (.tmp 13) rfl (cs':=flV 0 0 0 0) h0.out.b2 aggFl rfl rfl rfl rfl ?_;intro w1 hz1 hg1);exact bpa rfl hz1 aggFl rfl rfl (FwPost.mk hfin.out (fun h=>⟨rfl,rfl,rfl⟩) (h0.out.fin hg1))
 have ht:=hsh.resolve_left hn;have hl1:0<q.wh.length:=List.length_pos_iff.2 hn;have hl2:=hs.wh.1;have f0:((q.wh.length:Int)==0)=false:=beqF (by omega);obtain⟨W0,hW0⟩:∃W0,W0=(((w.alloc (.cells ⟨qV q s⟩ 32)).alloc (.cells ⟨[askV bs bq bv]⟩ 100)).alloc (.cells ⟨flV 0 0 0 0⟩ 60)):=⟨_,rfl⟩
 rw[←hW0]at h0 hA0 hK0 y0 y1 y2 y3 y4 y5 y6 z1;have hab:=treeB_lt ht;have kw:Calls Tryz.prog 75 #[.slice s.a2 q.wh.length s.c2,.func (.func 76) #[] #[.pointer (some ⟨w.heap.size+1,0,none⟩)]] W0 (WkPost q.wh (mentC l q false) W0):=
  walkfalse_k s.a2 s.c2 F q.wh (mentC l q false) (w.heap.size+1) hl2 (fun x hx=>⟨(hab x hx).1.2,(hab x hx).2.2⟩) W0 hA0.qr.lt hA0.qr.r2 fun x hx W hW=>askfalse_k hl hs x (hs.wh.2 x hx).1 (hA0.stay hW) (h0.b1.stay hW)
 have kt:∀W,Bw W0 W→Calls Tryz.prog 77 #[.slice s.a2 q.wh.length s.c2] W fun e w'=>e=.returned (.bool (isTruthB q.wh))∧w'=W:=fun W hW=>isTruth_k s.a2 s.c2 F q.wh hl2 W (hA0.qr.under hW).r2
 have kj:∀W,Bw W0 W→Calls Tryz.prog 78 #[.slice s.a2 q.wh.length s.c2] W (IlPost (conjs q.wh) W):=fun W hW=>conj_k s.a2 s.c2 F q.wh hs.wh W (hK0.stay hW) (hA0.qr.under hW).lt (hA0.qr.under hW).r2 ht
 have ks:∀W (b r:Nat),Bw W0 W→Sp q.wh b r→Calls Tryz.prog 81 #[.slice s.a2 q.wh.length s.c2,.int .i64 r] W (TrPost (subL q.wh b r) W):=fun W b r hW hsp=>sub_k s.a2 s.c2 F q.wh hs.wh W (hK0.stay hW) (hA0.qr.under hW).lt (hA0.qr.under hW).r2 ht hsp
 have ku:∀W (b r:Nat) A' c',Bw W0 W→Sp q.wh b r→Rd W (fun b=>b<W.heap.size) (.slice A' (subL q.wh b r).length c') (.sl (subL q.wh b r).length ((subL q.wh b r).flatMap ndD))→Calls Tryz.prog 80 #[.agg ⟨qV q s⟩,.slice A' (subL q.wh b r).length c'] W (UsPost q (subL q.wh b r) W):=fun W b r A' c' hW hsp rd=>uses_k q s A' c' _ F (subL q.wh b r) hs (subL_sz hsp hs.wh) W (hA0.qr.under hW) (fun b h=>h) rd
 have km:∀W (b r:Nat) v1 v2 v3,Bw W0 W→Rd W (fun b=>b<W.heap.size) v1 (.sl (bares q (subL q.wh b r)).length ((bares q (subL q.wh b r)).map cjD))→(∃A n c,v2=.slice A n c)→(∃A n c,v3=.slice A n c)→Calls Tryz.prog 79 #[.agg ⟨qV q s⟩,.agg #[v1,v2,v3]] W fun e w'=>e=.returned (.bool (mixB q (subL q.wh b r)))∧Bw W w':=fun W b r v1 v2 v3 hW rd h2 h3=>mixed_k q s (subL q.wh b r) F _ v1 v2 v3 hs W (hA0.qr.under hW) (fun b h=>h) rd h2 h3
 have hcs:∀(j r:Nat),(conjs q.wh)[j]? =some r→∃b,Sp q.wh b r∧mixB q (subT q.wh r)=mixB q (subL q.wh b r)∧r<q.wh.length:=fun j r h=>by
  obtain⟨b,hb⟩:=conjs_sp ht (zA h);exact⟨b,hb,by unfold subT;rw[bg_sp hb],hb.lt⟩
 have hcl:(conjs q.wh).length≤1048576:=by
  obtain⟨⟨n,hn,hsp⟩,_,_⟩:=treeB_sp ht;unfold conjs;have:=cj_len hsp (n:=q.wh.length) (by omega);rw[show q.wh.length-1=n by omega];omega
 have wc1:∀c:Int,c=walkC l q q.wh false→c≠0→b=c:=fun c h1 h2=>by rw[hc,whereC_walk hn h1 h2]
 have wc2:0=walkC l q q.wh false→isTruthB q.wh=false→b=75:=fun h1 h2=>by rw[hc,whereC_truth hn h1 h2]
 have wc3:0=walkC l q q.wh false→isTruthB q.wh=true→b=if(conjs q.wh).any (fun r=>mixB q (subT q.wh r))=true then 77 else 0:=fun h1 h2=>by rw[hc,whereC_mix hn h1 h2]
 generalize isTruthB q.wh=tb at*;generalize conjs q.wh=L at*;obtain⟨A1,c1,A2,c2,A3,c3⟩:=s;simp only[qV,askV,flV,zY]at h0 hW0 ku km kw kt kj ks y0 y1 y2 y3 y4 y5 y6 z1 ⊢;have hWW:=Hd hW0;replace h0:=Hd h0;replace kw:=Hd kw;replace kt:=Hd kt;replace kj:=Hd kj;replace ks:=Hd ks;replace ku:=Hd ku;replace km:=Hd km;replace hcs:=Hd hcs;replace wc1:=Hd wc1;replace wc2:=Hd wc2;replace wc3:=Hd wc3;replace hn:=Hd hn;clear hc h hA0 hK0 hK hs hsh hab ht hW0;have hmf:∀(fn:Fn) (first cap:Array Value) (w:World),(Instr.makeFunc fn first cap).run Tryz.prog w=.ok (.func fn first cap) w:=fun _ _ _ _=>rfl
 go_enter Tryz.func39,Tryz.ntmps39;go_upto_region 1 with fail
 rw[←hWW.out];go_upto_region 4 with(go_at_call 75;refine kw.out.mono ?_;rintro e W1 ⟨i,cv,rfl,hcv,hW1⟩;replace hcv:=Hd (show cv=walkC l q q.wh false from hcv))
 have h1:=h0.out.stay hW1;clear y0 y1 y2 y3 y4 y5 y6 z1;obtain⟨y0,y1,y2,y3,y4,y5,y6⟩:=qbc h1.b0;simp only at y0 y3 y6;replace h1:=Hd h1;replace hW1:=Hd hW1;by_cases hc0:cv=0
 ·subst hc0;have ktt:=Hd (kt.out W1 hW1.out);cases tb with
  |false=>
   have hfin:=Hd (wc2.out hcv.out rfl);go_wp2_with (first
    |(go_at_call 77;refine ktt.out.mono ?_;rintro e W2 ⟨rfl,hW2⟩;subst W2)
    |(refine at_op (.store 60 (.tmp 4) (.tmp 37)) rfl ?_;refine wsb rfl 60 (.tmp 4) (.tmp 37) rfl (cs':=flV 75 4 ((q.wh.length:Int) -1) 0) h1.out.b2 aggFl rfl rfl rfl rfl ?_;intro w1 hz1 hg1))
   exact bpa rfl hz1 aggFl rfl rfl (FwPost.mk hfin.out.symm (fun h=>by have:=hfin.out;omega) (h1.out.fin hg1))
  |true=>
  have hb3:=Hd (wc3.out hcv.out rfl);have kjj:=Hd (kj.out W1 hW1.out);go_wp2_with (first
   |(go_at_call 77;refine ktt.out.mono ?_;rintro e W2 ⟨rfl,hW2⟩;subst W2)
   |(go_at_call 78;refine kjj.out.mono ?_;rintro e W2 ⟨v,rfl,hO,hW2⟩;obtain⟨A5,c5,rfl⟩:=hO.form;have rL:=Hd (hO.rd (G:=fun b=>b<W2.heap.size) (fun b h=>h.elim) (fun b _ h=>h));have h2:=Hd (h1.out.stay hW2);have hX2:=Hd (hW1.out.trans (hW2.mono hW1.out.size));clear hO hW2))
  clear y0 y1 y2 y3 y4 y5 y6;go_loopw [42] (fun i wr=>∃j:Nat,j≤L.length∧i=.int .i64 j∧Bw W2 wr∧Hid ((L.take j).any (fun r=>mixB q (subT q.wh r))=false)) (fun i _=>L.length- (intOf i).toNat)
  case atStart=>exact⟨0,zE _,rfl,bR,rfl⟩
  case round=>
   obtain⟨j,hj,rfl,hB,hp⟩:=hrel;have h3:=h2.out.stay hB;have hX3:=hX2.out.trans (hB.mono hX2.out.size);have hbw:=hX3.size;by_cases hlt:j<L.length
   ·obtain⟨r,hr⟩:=getx hlt;obtain⟨bb,hsp,hmx,hrl⟩:=hcs.out j r hr;obtain⟨g5,off5,rfl,_,q0⟩:=(rL.out.under hB (fun b h=>h)).at1 (i:=j) (y:=.int .i64 r) (by rw[zG,hr];rfl);have g1:(0:Int)≤(j:Int):=by omega
    have g2:(j:Int)<L.length:=(by omega);have hany:(L.take (j+1)).any (fun r=>mixB q (subT q.wh r))=mixB q (subT q.wh r):=by
     rw[zJ,hr,List.any_append,hp.out];simp
    rw[hmx]at hany;have hany2:mixB q (subL q.wh bb r)=true→L.any (fun r=>mixB q (subT q.wh r))=true:=fun h=>by
     rw[xM];exact⟨r,zA hr,by rw[hmx];exact h⟩
    have ks':∀W,Bw wr W→_:=fun W hW=>ks.out W bb r (hX3.trans (hW.mono hbw)) hsp
    have ku':∀W A' c',Bw wr W→_→_:=fun W A' c' hW rd=>ku.out W bb r A' c' (hX3.trans (hW.mono hbw)) hsp rd
    have km':∀W v1 v2 v3,Bw wr W→_→_→_→_:=fun W v1 v2 v3 hW rd a b=>km.out W bb r v1 v2 v3 (hX3.trans (hW.mono hbw)) rd a b
    generalize mixB q (subL q.wh bb r)=mb at*;generalize subL q.wh bb r=t' at*;obtain⟨y0,y1,y2,y3,y4,y5,y6⟩:=qbc h3.b0;simp only at y0 y3 y6;have yy:∀W,Bw wr W→W.cell? ⟨w.heap.size,0,none⟩=some (.slice A1 q.items.length c1)∧W.cell? ⟨w.heap.size,1,none⟩=some (.int .i64 q.mode)∧W.cell? ⟨w.heap.size,2,none⟩=some (.int .i64 q.after)∧W.cell? ⟨w.heap.size,3,none⟩=some (.slice A2 q.wh.length c2)∧W.cell? ⟨w.heap.size,4,none⟩=some (.int .i64 q.within)∧W.cell? ⟨w.heap.size,5,none⟩=some (.string q.by_)∧W.cell? ⟨w.heap.size,6,none⟩=some (.slice A3 q.ret.length c3):=fun W hW=>qbc (h3.b0.stay hW)
    have hrl':r≤1048576:=(by omega);replace h3:=Hd h3;replace hX3:=Hd hX3;replace hB:=Hd hB;replace ks':=Hd ks';replace ku':=Hd ku';replace km':=Hd km';replace hany:=Hd hany;replace hany2:=Hd hany2;replace hr:=Hd hr;replace hmx:=Hd hmx;replace hsp:=Hd hsp;replace yy:=Hd yy;have tok0:=True.intro;go_upto_region 11 with fail
    go_cut [53] (fun s wx=>s=.bool mb∧Bw wr wx)
    case first=>
     go_region_law ((go_simp;first
      |(go_at_call 81;refine(ks'.out _ (by first|exact bR |exact(bR).drew |exact below_drewN bR _)).mono ?_;rintro e X1 ⟨v,rfl,hO1,hY1⟩;obtain⟨A6,c6,rfl⟩:=hO1.form;have hZ1:Bw wr X1:=(by first|exact hY1 |exact(bR).drew.trans hY1 |exact(below_drewN bR _).trans hY1);have rd1:=Hd (hO1.rd (G:=fun b=>b<X1.heap.size) (fun b h=>h.elim) (fun b _ h=>h));obtain⟨x0,x1,x2,x3,x4,x5,x6⟩:=yy.out _ hZ1;replace hZ1:=Hd hZ1;clear hO1 hY1)
      |(go_at_call 80;refine(ku'.out _ _ _ hZ1.out rd1.out).mono ?_;rintro e X2 ⟨v1,v2,v3,L2,L3,rfl,hO1,hO2,hO3,hY2⟩;obtain⟨A7,c7,rfl⟩:=hO1.form;obtain⟨A8,c8,rfl⟩:=hO2.form;obtain⟨A9,c9,rfl⟩:=hO3.form;have hZ2:=hZ1.out.trans (hY2.mono hZ1.out.size);have rd2:=Hd (hO1.rd (G:=fun b=>b<X2.heap.size) (fun b h=>h.elim) (fun b _ h=>h));obtain⟨x0,x1,x2,x3,x4,x5,x6⟩:=yy.out _ hZ2;replace hZ2:=Hd hZ2;clear hO1 hO2 hO3 hY2)
      |(go_at_call 79;refine(km'.out _ _ _ _ hZ2.out rd2.out ⟨_,_,_,rfl⟩ ⟨_,_,_,rfl⟩).mono ?_;rintro e X3 ⟨rfl,hY3⟩;have hZ3:=Hd (hZ2.out.trans (hY3.mono hZ2.out.size));clear hY3)))
     all_goals(go_wp2;all_goals(go_meet;exact⟨rfl,hZ3.out⟩))
    case rest=>
    obtain⟨rfl,hZ⟩:=hcut;have h4:=Hd (h3.out.stay hZ);replace hZ:=Hd hZ;clear y0 y1 y2 y3 y4 y5 y6 q0;cases mb with
    |true=>
     have hfin:=Hd (show (77:Int)=b by rw[hb3.out,if_pos (hany2.out rfl)]);go_wp2_with (refine at_op (.store 60 (.tmp 4) (.tmp 55)) rfl ?_;refine wsb rfl 60 (.tmp 4) (.tmp 55) rfl (cs':=flV 77 4 r 0) h4.out.b2 aggFl rfl rfl rfl rfl ?_;intro w1 hz1 hg1);exact bpa rfl hz1 aggFl rfl rfl (FwPost.mk hfin.out (fun h=>by have:=hfin.out;omega) (h4.out.fin hg1))
    |false=>
     go_wp2;go_roundw
     case rel=>exact⟨j+1,by omega,by go_num,hB.out.trans (hZ.out.mono hB.out.size),hany⟩
     case measure=>simp[intOf];omega
   ·have g1:¬(j:Int)<L.length:=(by omega);obtain rfl:j=L.length:=by omega
    have hp2:=hp.out;rw[zL]at hp2;have hfin:(0:Int)=b:=by rw[hb3.out,if_neg (by rw[hp2];decide)]
    replace hfin:=Hd hfin;replace h3:=Hd h3;replace hp2:=Hd hp2;go_wp2_with (refine at_op (.store 60 (.tmp 4) (.tmp 57)) rfl ?_;refine wsb rfl 60 (.tmp 4) (.tmp 57) rfl (cs':=flV 0 0 0 0) h3.out.b2 aggFl rfl rfl rfl rfl ?_;intro w1 hz1 hg1);exact bpa rfl hz1 aggFl rfl rfl (FwPost.mk hfin.out (fun h=>⟨rfl,rfl,rfl⟩) (h3.out.fin hg1))
 ·have hfin:=Hd (wc1.out cv hcv.out hc0);have f1:=beqF hc0;have f2:=bneT hc0;have hc1:=Hd hc0;clear hc0;go_wp2_with (refine at_op (.store 60 (.tmp 4) (.tmp 37)) rfl ?_;refine wsb rfl 60 (.tmp 4) (.tmp 37) rfl (cs':=flV cv 4 i 0) h1.out.b2 aggFl rfl rfl rfl rfl ?_;intro w1 hz1 hg1);exact bpa rfl hz1 aggFl rfl rfl (FwPost.mk hfin.out.symm (fun h=>absurd (hfin.out.symm.trans h) hc1.out) (h1.out.fin hg1))
end ckW
end Go.Proofs.YtfiodnlgiglhfaaGreatDoor
