/- The document's Check. -/
import Derived.Test.YtfiodnlgiglhfaaGreatDoorGm
import Derived.Test.YtfiodnlgiglhfaaGreatDoorK1
namespace Go.Proofs.YtfiodnlgiglhfaaGreatDoor
set_option maxRecDepth 100000
set_option maxHeartbeats 16000000
open Go.RowKit Go.Deep Go.Maps
set_option linter.unusedVariables false
set_option linter.unusedSimpArgs false
theorem fg_src {w:World}{B:Nat}{v:Value}{L:List Fg}{G:Nat→Prop}(h:OL w B NoF 119 6 v L.length (L.flatMap fgD)){A:Option Addr}{n c:Nat}(e:v=.slice A n c):Src w A (L.flatMap fgD) G:=by
 have h1:Rd w (fun b=>b<w.heap.size) v (.sl L.length (L.flatMap fgD)):=h.rd (fun b hb _=>hb.elim) (fun b _ h=>h);subst e;obtain⟨A',c',e,_⟩:=h1.sl_inv;injection e with e1 e2 e3
 subst e1 e2 e3;exact Rd.srcq (PlainL.flatMap fg_plain L) h1
namespace ckW
open nmW
theorem rCheck_k (A:Option Addr)(c:Nat)(F:Nat→Prop)(l:List Td)(q:Qy)(s:Sl3)(hl:SzT l)(hs:SzQ q)(hSB:SzB q)(w:World)(hK:KwIs w)(R:QR w F q s)(r:Rd w F (.slice A l.length c) (.sl l.length (l.flatMap tdD))):
  Calls Tryz.prog 22 #[.agg ⟨[.slice A l.length c]⟩,.agg ⟨qV q s⟩] w (RfPost (checkC (scC l) l q) w):=by
 have h0:=CB.new l A c q s w;obtain⟨y0,y1,y2,y3,y4,y5,y6⟩:=qbc h0.sq.b1;have x0:=h0.sq.b0.cell 0;obtain⟨W0,hW0⟩:∃W0,W0=(((w.alloc (.cells ⟨[.slice A l.length c]⟩ 24)).alloc (.cells ⟨qV q s⟩ 32)).alloc (.cells ⟨flV 0 0 0 0⟩ 60)):=⟨_,rfl⟩
 rw[←hW0]at h0 y0 y1 y2 y3 y4 y5 y6 x0;have hb0:=h0.sq.hb;have lt0:∀W,Bw W0 W→Bw w W:=fun W hW=>hb0.trans (hW.mono hb0.size)
 have cells:∀W,Bw W0 W→CB l A c q s w W:=fun W hW=>h0.stay hW
 have k1:Calls Tryz.prog 47 #[.agg #[.slice A l.length c]] W0 fun e w'=>e=.returned (.int .i64 (scC l))∧Bw W0 w':=rCheckSchema_k A c F l hl W0 (hK.stay hb0) (R.under hb0).lt (r.under hb0 R.lt)
 have k2:∀W,Bw W0 W→Calls Tryz.prog 51 #[.agg ⟨qV q s⟩] W fun e w'=>e=.returned (.bool (shapedB q))∧Bw W w':=fun W hW=>refShaped_k q s F hs W (hK.stay (lt0 W hW)) (R.under (lt0 W hW))
 have k3:∀W,Bw w W→Calls Tryz.prog 52 #[.agg ⟨[.slice A l.length c]⟩,.agg ⟨qV q s⟩] W (FgPost (itemsF l q) W):=fun W hW=>ofItems_k A c F l q s hl hs hSB W (R.under hW).lt (r.under hW R.lt) (R.under hW)
 have k4:shapedB q=true→∀W,Bw w W→Calls Tryz.prog 53 #[.agg ⟨[.slice A l.length c]⟩,.agg ⟨qV q s⟩] W (FgPost (whereF l q) W):=fun hsh W hW=>ofWhere_k A c F l q s hl hs (shaped_wh hsh).1 W (hK.stay hW) (r.under hW R.lt) (R.under hW)
 have k5:shapedB q=true→∀W,Bw w W→Calls Tryz.prog 54 #[.agg ⟨[.slice A l.length c]⟩,.agg ⟨qV q s⟩] W (FgPost (restF l q) W):=fun hsh W hW=>ofRest_k A c F l q s hl hs hSB (shaped_wh hsh).2 W (r.under hW R.lt) (R.under hW)
 have wl:shapedB q=true→(whereF l q).length≤6291458:=fun hsh=>whereF_len l q hs (shaped_wh hsh).1
 have rl:=restF_len l q hs hSB;obtain⟨b,hc⟩:∃b,b=checkC (scC l) l q:=⟨_,rfl⟩
 rw[←hc];have e3:scC l=0→shapedB q=true→∀L:List Fg,L=(if itemsF l q=[]then whereF l q++restF l q else itemsF l q)→bestC L=b:=fun h h2 L hL=>by rw[hc];exact refC_code h h2 hL
 generalize scC l=sc at*;have e1:sc≠0→b=sc:=fun h=>by rw[hc,ck1 h]
 have e2:sc=0→shapedB q=false→b=50:=fun h h2=>by rw[hc,h,ck2 h2]
 clear hc;generalize itemsF l q=IF at*;generalize whereF l q=WF at*;generalize restF l q=RF at*;generalize shapedB q=sb at*;obtain⟨A1,c1,A2,c2,A3,c3⟩:=s;simp only[qV,flV,zY]at hW0 y0 y1 y2 y3 y4 y5 y6 x0 k2 k3 k4 k5 ⊢;have hWW:=Hd hW0;replace cells:=Hd cells;replace k1:=Hd k1;replace k2:=Hd k2;replace k3:=Hd k3;replace k4:=Hd k4;replace k5:=Hd k5;replace wl:=Hd wl;replace e1:=Hd e1;replace e2:=Hd e2;replace e3:=Hd e3;clear hl hs hK R r h0 lt0 hW0 hb0 hSB;go_enter Tryz.func22,Tryz.ntmps22;go_upto_region 1 with fail
 rw[←hWW.out];go_upto_region 2 with(go_at_call 47;refine k1.out.mono ?_;rintro e W1 ⟨rfl,hW1⟩)
 clear x0 y0 y1 y2 y3 y4 y5 y6;have hC1:=cells.out W1 hW1;obtain⟨y0,y1,y2,y3,y4,y5,y6⟩:=qbc hC1.sq.b1;have x0:=hC1.sq.b0.cell 0;simp only[zY]at x0 y0 y3 y6;replace hC1:=Hd hC1;have k2':=Hd (k2.out W1 hW1);by_cases hs0:sc=0
 case neg=>
  have hfin:=Hd (e1.out hs0);have f1:=beqF hs0;have f2:=bneT hs0;have hc1:=Hd hs0;replace hW1:=Hd hW1;clear hs0 x0 y0 y1 y2 y3 y4 y5 y6;go_wp2_with (refine at_op (.store 60 (.tmp 4) (.tmp 18)) rfl ?_;refine wsb rfl 60 (.tmp 4) (.tmp 18) rfl (cs':=flV sc 0 0 0) hC1.out.b2 aggFl rfl rfl rfl rfl ?_;intro w1 hz1 hg1);exact bpa rfl hz1 aggFl rfl rfl (RfPost.mk hfin.out.symm (hC1.out.fin hg1))
 subst hs0;go_upto_region 5 with(go_at_call 51;refine k2'.out.mono ?_;rintro e W2 ⟨rfl,hW2⟩)
 clear x0 y0 y1 y2 y3 y4 y5 y6;have hC2:=hC1.out.stay hW2;obtain⟨y0,y1,y2,y3,y4,y5,y6⟩:=qbc hC2.sq.b1;have x0:=hC2.sq.b0.cell 0;simp only[zY]at x0 y0 y3 y6;have k3':=Hd (k3.out W2 hC2.sq.hb);replace hC2:=Hd hC2;clear hW1 hW2 hC1;cases sb with
 |false=>
  have hfin:=Hd (e2.out (by simp) (by simp));clear x0 y0 y1 y2 y3 y4 y5 y6;go_wp2_with (refine at_op (.store 60 (.tmp 4) (.tmp 23)) rfl ?_;refine wsb rfl 60 (.tmp 4) (.tmp 23) rfl (cs':=flV 50 0 0 0) hC2.out.b2 aggFl rfl rfl rfl rfl ?_;intro w1 hz1 hg1);exact bpa rfl hz1 aggFl rfl rfl (RfPost.mk hfin.out.symm (hC2.out.fin hg1))
 |true=>
  have e3':=Hd (e3.out (by simp) (by simp));have k4':=Hd (k4.out (by simp));have k5':=Hd (k5.out (by simp));have wl':=wl.out (by simp);clear e1 e2 e3 k4 k5 wl k1 k2;go_upto_region 8 with(go_at_call 52;refine k3'.out.mono ?_;rintro e W3 ⟨v3,rfl,hO3,hW3⟩)
  obtain⟨A3',c3',rfl⟩:=hO3.form;have hF3:CF l A c q ⟨A1,c1,A2,c2,A3,c3⟩ w W3 (.slice A3' IF.length c3') IF:=⟨hC2.out.stay hW3,hO3.base hC2.out.sq.hb.size⟩;clear x0 y0 y1 y2 y3 y4 y5 y6 hW3 hO3 hC2;obtain⟨y0,y1,y2,y3,y4,y5,y6⟩:=qbc hF3.cb.sq.b1;have x0:=hF3.cb.sq.b0.cell 0;simp only[zY]at x0 y0 y3 y6;have k4'':=Hd (k4'.out W3 hF3.cb.sq.hb);replace hF3:=Hd hF3;go_upto_if 29 with fail
  go_cut [7] (fun v wx=>∃L,Hid (L=if IF=[]then WF++RF else IF)∧CF l A c q ⟨A1,c1,A2,c2,A3,c3⟩ w wx v L)
  case first=>
   by_cases hne:IF=[]
   ·have f0:((IF.length:Int)==0)=true:=beqT (by rw[hne];rfl);have hlz:IF.length=0:=by rw[hne];rfl
    replace hlz:=Hd hlz;have hL:=Hd (show WF++RF=if IF=[]then WF++RF else IF by rw[if_pos hne]);replace hne:=Hd hne;go_wp2_with (first
     |(go_at_call 53;refine k4''.out.mono ?_;rintro e W4 ⟨v4,rfl,hO4,hW4⟩;obtain⟨A4,c4,rfl⟩:=hO4.form;have hF4:Hid (CF l A c q ⟨A1,c1,A2,c2,A3,c3⟩ w W4 (.slice A4 WF.length c4) WF):=Hd ⟨hF3.out.cb.stay hW4,hO4.base hF3.out.cb.sq.hb.size⟩;clear x0 y0 y1 y2 y3 y4 y5 y6 hO4 hW4;obtain⟨y0,y1,y2,y3,y4,y5,y6⟩:=qbc hF4.out.cb.sq.b1;have x0:=hF4.out.cb.sq.b0.cell 0;simp only[zY]at x0 y0 y3 y6)
     |(go_at_call 54;refine(k5'.out _ hF4.out.cb.sq.hb).mono ?_;rintro e W5 ⟨v5,rfl,hO5,hW5⟩;obtain⟨A5,c5,rfl⟩:=hO5.form;have hF5:=Hd (hF4.out.stay hW5);replace hO5:=Hd hO5;clear x0 y0 y1 y2 y3 y4 y5 y6 hW5)
     |(at_builtin;refine wpB rfl (.tmp 36) (.tmp 37) _ rfl (m:=RF.length) (news:=RF.flatMap fgD) elFg hF5.out.ol rfl rfl (fg_src hO5.out rfl) (fml (f:=fgD) (m:=6) (fun _=>rfl) RF) (by unfold maxLen;omega) (by omega) hF5.out.cb.sq.hb.size ?_;intro v' w1 hO1 hg1 ha1;obtain⟨B3,d3,rfl⟩:=hO1.form;have hcb:=Hd (CF.mk (⟨⟨hF5.out.cb.sq.hb.grown hg1 hF5.out.cb.sq.hb.size (fun q hq=>(hF5.out.ol.lt q hq).1),hF5.out.cb.sq.b0.grown hg1 (fun e=>hF5.out.ol.neBlk hF5.out.cb.sq.b0 (by decide) e.symm),hF5.out.cb.sq.b1.grown hg1 (fun e=>hF5.out.ol.neBlk hF5.out.cb.sq.b1 (by decide) e.symm)⟩,hF5.out.cb.b2.grown hg1 (fun e=>hF5.out.ol.neBlk hF5.out.cb.b2 (by decide) e.symm)⟩:CB l A c q ⟨A1,c1,A2,c2,A3,c3⟩ w w1) (show OL w1 w.heap.size NoF 119 6 (.slice B3 (WF.length+RF.length) d3) (WF++RF).length ((WF++RF).flatMap fgD) by rw[zH,xD];exact hO1));clear hO1 hg1 ha1))
    all_goals(go_meet;exact⟨WF++RF,hL,hcb.out⟩)
   ·have f0:((IF.length:Int)==0)=false:=beqF (by have:=List.length_pos_iff.2 hne;omega);have hL:=Hd (show IF=if IF=[]then WF++RF else IF by rw[if_neg hne]);replace hne:=Hd hne;go_wp2
    all_goals(go_meet;exact⟨IF,hL,hF3.out⟩)
  case rest=>
  obtain⟨L,hL,hF⟩:=hcut;have hb:=e3'.out L hL.out;clear x0 y0 y1 y2 y3 y4 y5 y6 hL hF3 e3' k4'' k3' k3 k4' k5';obtain⟨A4,c4,rfl⟩:=hF.ol.form;cases L with
  |nil=>
   have hb':=Hd (show(0:Int)=b from hb);replace hF:=Hd hF;clear hb;go_wp2_with (refine at_op (.store 60 (.tmp 4) (.tmp 42)) rfl ?_;refine wsb rfl 60 (.tmp 4) (.tmp 42) rfl (cs':=flV 0 0 0 0) hF.out.cb.b2 aggFl rfl rfl rfl rfl ?_;intro w1 hz1 hg1);exact bpa rfl hz1 aggFl rfl rfl (RfPost.mk hb'.out (hF.out.cb.fin hg1))
  |cons z R=>
   have hmx:(z::R).length≤maxLen:=by
    obtain⟨_,_,e,h1,h2⟩:=(hF.ol.rd (G:=fun b=>b<wc.heap.size) (fun b hb _=>hb.elim) (fun b _ h=>h)).sl_inv;injection e with e1 e2 e3
    omega
   have hln:(z::R).length=R.length+1:=rfl;rw[hln]at hmx;unfold maxLen at hmx;have hb':Hid ((bestF z R).code=b):=Hd hb;obtain⟨g,cap,e,gl,gf,p0,p1,p2,p3,p4,p5⟩:=fg_at (i:=0) (x:=z) hF.ol rfl;simp only[hln,Nat.zero_mul,Nat.zero_add]at e p0 p1 p2 p3 p4 p5;injection e with e1 e2 e3
   subst e1;simp only[hln]at hF ⊢;have hat:∀(k:Nat) x W,R[k]? =some x→CF l A c q ⟨A1,c1,A2,c2,A3,c3⟩ w W (.slice (some ⟨g,0,none⟩) (R.length+1) c4) (z::R)→_:=fun k x W hx h=>fg_at (i:=k+1) (x:=x) h.ol hx
   replace hF:=Hd hF;replace hat:=Hd hat;replace hln:=Hd hln;clear hb e2 e3;have hX0:Hid (CX l A c q ⟨A1,c1,A2,c2,A3,c3⟩ wc.heap.size (bestF z (R.take 0)) w (wc.alloc (.cells ⟨fgV z⟩ 119)) (.slice (some ⟨g,0,none⟩) (R.length+1) c4) (z::R)):=
    ⟨hF.out.stay bA,Blk.new _ _ _,by have:=hF.out.cb.b2.lt;omega⟩
   have hglw:g<wc.heap.size:=gl;simp only[fgV]at hX0;go_wp2;clear p0 p1 p2 p3 p4 p5 gf gl;go_loopw [11] (fun i wr=>∃k:Nat,k≤R.length∧i=.int .i64 ((k+1:Nat):Int)∧CX l A c q ⟨A1,c1,A2,c2,A3,c3⟩ wc.heap.size (bestF z (R.take k)) w wr (.slice (some ⟨g,0,none⟩) (R.length+1) c4) (z::R)) (fun i _=>R.length+1- (intOf i).toNat)
   case atStart=>exact⟨0,zE _,rfl,hX0.out⟩
   case round=>
    clear hX0 hF;obtain⟨k,hk,rfl,hX⟩:=hrel;by_cases hlt:k<R.length
    ·obtain⟨x,hx⟩:=getx hlt;have hnx:=bestF_take (b:=z) hx;obtain⟨g',cap',e,_,_,p0,p1,p2,p3,p4,p5⟩:=hat.out k x wr hx hX.cf;injection e with e1 e2 e3
     injection e1 with e1
     injection e1 with e1 e4 e5
     clear e2 e3 e4 e5;subst e1;have q1:((k+1:Nat):Int)<(R.length:Int)+1:=by omega
     have q2:(0:Int)≤((k+1:Nat):Int):=(by omega);have q3:((k+1:Nat):Int)<((R.length+1:Nat):Int):=by omega
     have hm1:k+1≤R.length:=(by omega);generalize bestF z (R.take k)=bk at*;obtain⟨r0,r1,r2,r3,r4,r5⟩:=fg_cells hX.bb;have hkt:∀W,Calls Tryz.prog 55 #[.agg ⟨fgV x⟩,.agg ⟨fgV bk⟩] W fun e w'=>e=.returned (.bool (decide (Klt x bk)))∧Bw W w':=fun W=>ahead_k x bk W
     have hxl:=fun W (hX:CX l A c q ⟨A1,c1,A2,c2,A3,c3⟩ wc.heap.size bk w W (.slice (some ⟨g,0,none⟩) (R.length+1) c4) (z::R))=>hat.out k x W hx hX.cf
     obtain⟨kl,hkl⟩:∃v,v=decide (Klt x bk):=⟨_,rfl⟩
     rw[←hkl]at hkt;have hnx':Hid (bestF z (R.take (k+1))=if kl=true then x else bk):=by show _=_;rw[hnx,hkl];simp
     clear hnx hkl;generalize hkn:k+1=kn at*;obtain⟨x1,x2,x3,x4,x5,x6⟩:=x;obtain⟨b1,b2,b3,b4,b5,b6⟩:=bk;simp only[fgV]at hkt p0 p1 p2 p3 p4 p5 r0 r1 r2 r3 r4 r5;replace hkt:=Hd hkt;replace hxl:=Hd hxl;replace hkn:=Hd hkn;replace hx:=Hd hx;replace hX:=Hd hX;go_upto_region 18 with fail
     go_cut [12] (fun s wx=>s=.bool kl∧CX l A c q ⟨A1,c1,A2,c2,A3,c3⟩ wc.heap.size ⟨b1,b2,b3,b4,b5,b6⟩ w wx (.slice (some ⟨g,0,none⟩) (R.length+1) c4) (z::R))
     case first=>
      go_region_law ((go_simp;(go_at_call 55;refine(hkt.out _).mono ?_;rintro e W ⟨rfl,hW⟩;replace hX:=Hd (hX.out.stay (by first|exact hW |exact(bR).drew.trans hW |exact(below_drewN bR _).trans hW));clear hW)))
      all_goals(go_wp2;all_goals(go_meet;exact⟨rfl,hX.out⟩))
     case rest=>
     obtain⟨rfl,hX2⟩:=hcut;clear p0 p1 p2 p3 p4 p5 r0 r1 r2 r3 r4 r5 hX;obtain⟨g',cap',e,hgl2,_,p0,p1,p2,p3,p4,p5⟩:=hxl.out _ hX2;injection e with e1 e2 e3
     injection e1 with e1
     injection e1 with e1 e4 e5
     clear e2 e3 e4 e5;subst e1;have hX:=Hd hX2;clear hX2 hxl hkt;cases kl with
     |true=>
      have hn2:Hid (bestF z (R.take kn)=⟨x1,x2,x3,x4,x5,x6⟩):=by show _=_;rw[hnx'.out,if_pos rfl]
      go_wp2_with (refine at_op (.store 119 (.tmp 10) (.tmp 62)) rfl ?_;refine wsb rfl 119 (.tmp 10) (.tmp 62) rfl (cs':=fgV ⟨x1,x2,x3,x4,x5,x6⟩) hX.out.bb aggFg rfl rfl rfl rfl ?_;intro w1 hz1 hg1;have hX4:=Hd (hX.out.put (by simp[Value.ownBlock];omega) hg1 hz1);clear hz1 hg1);go_roundw
      case rel=>exact⟨kn,hm1,by go_num,by rw[hn2.out];exact hX4.out⟩
      case measure=>simp[intOf];omega
     |false=>
      have hn2:Hid (bestF z (R.take kn)=⟨b1,b2,b3,b4,b5,b6⟩):=by show _=_;rw[hnx'.out,if_neg (by simp)]
      go_wp2;go_roundw
      case rel=>exact⟨kn,hm1,by go_num,by rw[hn2.out];exact hX.out⟩
      case measure=>simp[intOf];omega
    ·obtain rfl:k=R.length:=by omega
     rw[zL]at hX;obtain⟨r0,r1,r2,r3,r4,r5⟩:=fg_cells hX.bb;replace hX:=Hd hX;generalize bestF z R=bk at*;obtain⟨b1,b2,b3,b4,b5,b6⟩:=bk;go_wp2_with (refine at_op (.store 60 (.tmp 4) (.tmp 64)) rfl ?_;refine wsb rfl 60 (.tmp 4) (.tmp 64) rfl (cs':=flV b3 b4 b5 b6) hX.out.cf.cb.b2 aggFl rfl rfl rfl rfl ?_;intro w1 hz1 hg1);exact bpa rfl hz1 aggFl rfl rfl (RfPost.mk hb'.out (hX.out.cf.cb.fin hg1))
end ckW
open Go.RowKit Go.Deep
theorem fz_inv {a:List Int}(h:fz a=0):∀c∈a,c=0:=by
 induction a with
 |nil=>intro c hc;cases hc
 |cons x r ih=>
  unfold fz at h;by_cases hx:x=0
  ·rw[if_pos hx]at h;intro c hc;rcases List.mem_cons.1 hc with rfl |hc
   ·exact hx
   ·exact ih h c hc
  ·rw[if_neg hx]at h;exact absurd h hx
theorem mapI_mem {α β:Type}{f:Nat→α→List β}:∀{l:List α}{n i:Nat}{x:α}{b:β},l[i]? =some x→b∈f (n+i) x→b∈mapI f n l
 | [],_,_,_,_,h,_=>by cases h
 |y::r,n,0,x,b,h,hb=>by
  injection h with h;subst h
  exact List.mem_append_left _ hb
 |y::r,n,i+1,x,b,h,hb=>xN _ (mapI_mem (n:=n+1) (i:=i) h (by rw[show n+1+i=n+(i+1) by omega];exact hb))
theorem items_ok {S:List Td}{q:Qy}(h:itemsC S q=0):q.items.length≤10∧∀(i:Nat) x,q.items[i]? =some x→itemC S x=0∧(i:Int)≤itemI q x.v:=by
 unfold itemsC at h;by_cases h1:10<q.items.length
 ·rw[if_pos h1]at h;omega
 rw[if_neg h1,fz_app]at h;refine⟨by omega,fun i x hx=>?_⟩;have h2:fz (mapI (fun i x=>[if itemC S x≠0 then itemC S x else if itemI q x.v<(i:Int)then 64 else 0]) 0 q.items)=0:=by
  split at h
  ·assumption
  ·assumption
 have h3:=fz_inv h2 _ (mapI_mem (f:=fun(i:Nat) x=>[if itemC S x≠0 then itemC S x else if itemI q x.v<(i:Int)then 64 else 0]) (n:=0) hx (xB.2 rfl));by_cases h4:itemC S x=0
 ·rw[if_neg (by simpa using h4)]at h3;refine⟨h4,?_⟩;by_cases h5:itemI q x.v<((0+i:Nat):Int)
  ·rw[if_pos h5]at h3;omega
  ·omega
 ·rw[if_pos h4]at h3;exact absurd h3 h4
theorem itemI_le {q:Qy}{i:Nat}{x:It}(h:q.items[i]? =some x):itemI q x.v≤i:=placeI_le (j:=i) (by unfold vrs;rw[zG,h];rfl)
theorem walk_ok {S:List Td}{q:Qy}{t:List Nd}{res:Bool}(h:walkC S q t res=0):∀x∈t,mentC S q res x=0:=fun x hx=>by
 have h1:=fz_inv h _ (xJ hx);unfold nodeC at h1;exact fz_inv h1 _ xS
theorem ment_at {S:List Td}{q:Qy}{res:Bool}{x:Nd}(hf:fieldsB x=true)(h:mentC S q res x=0):x.at_=emp∨∃it∈q.items,it.v=x.v∧hasB S it.tys x.at_=true:=by
 unfold fieldsB at hf;simp only[xK]at hf;obtain⟨_,ha⟩:=hf;by_cases hi:isAtt x.op=true
 ·rw[if_pos hi]at ha;unfold isAtt isVar at hi;simp only[xK,decide_eq_true_eq,Bool.not_eq_true',decide_eq_false_iff_not]at hi;obtain⟨⟨h4,h11⟩,h5⟩:=hi;unfold mentC at h;rw[if_neg (by unfold bareO aggO;simp;omega)]at h;unfold itemAt at h;by_cases hn:itemI q x.v<0
  ·rw[if_pos hn]at h;simp at h
  rw[if_neg hn]at h;cases hit:q.items[(itemI q x.v).toNat]? with
  |none=>rw[hit]at h;simp at h
  |some it=>
   rw[hit]at h;simp only at h;refine .inr ⟨it,zA hit,?_,?_⟩
   ·obtain⟨i,h1,h2⟩:=placeI_get (l:=vrs q) (s:=x.v) (by unfold itemI at hn;omega);unfold vrs at h2;rw[zG]at h2;have e:(itemI q x.v).toNat=i:=by unfold itemI;rw[h1];omega
    rw[e]at hit;rw[hit]at h2;simpa using h2
   ·by_cases hb:hasB S it.tys x.at_=true
    ·exact hb
    ·rw[if_pos ⟨h5,by simpa using hb⟩]at h;omega
 ·rw[if_neg hi]at ha;exact .inl (of_decide_eq_true ha)
theorem qok_of {S:List Td}{q:Qy}(h:checkC (scC S) S q=0):scC S=0∧shapedB q=true∧q.items.length≤10∧q.ret.length≤8∧QOk S q:=by
 have hz:=fz_inv h;have z1:scC S=0:=hz _ (by simp);have z2:(if shapedB q=true then(0:Int)else 50)=0:=hz _ (by simp);have z3:itemsC S q=0:=hz _ (by simp);have z4:whereC S q=0:=hz _ (by simp);have z5:partC S q=0:=hz _ (by simp);have z6:retC S q=0:=hz _ (by simp);have hsh:shapedB q=true:=by
  by_cases h1:shapedB q=true
  ·exact h1
  ·rw[if_neg h1]at z2;omega
 have hsh2:=hsh;unfold shapedB at hsh2;simp only[xK,Bool.or_eq_true,decide_eq_true_eq]at hsh2;obtain⟨i0,_,_,_,_,_,hi,hw,hby,hr⟩:=hsh2;obtain⟨hil,hit⟩:=items_ok z3;have r8:¬8<q.ret.length:=fun h8=>by unfold retC at z6;rw[if_pos h8]at z6;omega
 refine⟨z1,hsh,hil,by omega,?_,?_,i0,?_,?_⟩
 ·intro x hx;have h1:=xP.1 hi x hx;unfold itemB at h1;simp only[xK,decide_eq_true_eq]at h1;obtain⟨i,hxi⟩:=zN hx;have h2:=(hit i x hxi).1;refine⟨h1.1,fun n hn=>?_⟩;unfold itemC at h2;by_cases h3:x.tys.any (fun n=>decide (noTy S n))=true
  ·rw[if_pos h3]at h2;omega
  ·rw[xM]at h3;have h4:¬noTy S n:=fun h4=>h3 ⟨n,hn,zW h4⟩
   unfold noTy at h4;omega
 ·intro i j x y hx hy e;have h1:=(hit i x hx).2;have h2:=(hit j y hy).2;have h3:=itemI_le hx;have h4:=itemI_le hy;rw[e]at h1 h3;omega
 ·by_cases he:q.by_=emp
  ·exact .inl he
  ·unfold partC at z5;rw[if_neg he]at z5;by_cases hp:partB S q=true
   ·unfold partB at hp;simp only[xK,Bool.not_eq_true',decide_eq_false_iff_not]at hp;exact .inr ⟨hp.1,fun x hx=>xP.1 hp.2 x hx⟩
   ·rw[if_neg hp]at z5;omega
 ·intro t ht x hx;rcases ht with rfl |ht
  ·have hne:q.wh≠ []:=fun e=>by rw[e]at hx;cases hx
   unfold whereC at z4;rw[if_neg hne]at z4;have h1:=fz_inv z4 (walkC S q q.wh false) (by simp);have htb:treeB q.wh=true:=hw.resolve_left fun e=>hne (List.eq_nil_of_length_eq_zero e)
   exact ment_at ((treeB_sp htb).2.2 x hx) (walk_ok h1 x hx)
  ·unfold retC at z6;rw[if_neg r8]at z6;have h1:=fz_inv z6 _ (xJ ht);have h2:=fz_inv h1 (walkC S q t true) (by simp);exact ment_at ((treeB_sp (xP.1 hr t ht)).2.2 x hx) (walk_ok h2 x hx)
def anK (ty fr:Int):List Kd→ByteArray→Option ByteArray
 | [],out=>some out
 |k::r,out=>if k.fr≠ty then anK ty fr r out else match k.fs.find? (fun f=>decide (f.fr=fr))with
  |none=>none
  |some f=>if out≠emp∧f.nm≠out then none else anK ty fr r f.nm
def anT (S:List Td)(T:List Kd)(a:ByteArray):List ByteArray→ByteArray→Option ByteArray
 | [],out=>some out
 |n::r,out=>match anK (placeI (nmsT S) n) (attrI S (placeI (nmsT S) n) a) T out with
  |none=>none
  |some o=>anT S T a r o
def attrNmO (S:List Td)(T:List Kd)(tys:List ByteArray)(a:ByteArray):Option ByteArray:=if a=tsB then some tsB else match anT S T a tys emp with
 |none=>none
 |some o=>if o=emp then none else some o
def typeNm (S:List Td)(T:List Kd)(n:ByteArray):ByteArray:=match T.find? (fun k=>decide (k.fr=placeI (nmsT S) n))with
 |some k=>k.nm
 |none=>emp
def nodeO (S:List Td)(T:List Kd)(q:Qy)(x:Nd):Option Nd:=if x.at_=emp then some x else match q.items[(itemI q x.v).toNat]? with
 |none=>none
 |some it=>(attrNmO S T it.tys x.at_).map fun a=>{x with at_:=a}
def treeO (S:List Td)(T:List Kd)(q:Qy):List Nd→Option (List Nd)
 | []=>some []
 |x::r=>match nodeO S T q x with
  |none=>none
  |some y=>(treeO S T q r).map (y:: ·)
def retO (S:List Td)(T:List Kd)(q:Qy):List (List Nd)→Option (List (List Nd))
 | []=>some []
 |x::r=>match treeO S T q x with
  |none=>none
  |some y=>(retO S T q r).map (y:: ·)
def itT (S:List Td)(T:List Kd)(it:It):It:={it with tys:=it.tys.map (typeNm S T)}
def allT (q:Qy):List ByteArray:=q.items.flatMap (·.tys)
def turnedO (S:List Td)(T:List Kd)(q:Qy):Option Qy:=match treeO S T q q.wh with
 |none=>none
 |some wh=>match retO S T q q.ret with
  |none=>none
  |some ret=>if q.by_=emp then some {q with items:=q.items.map (itT S T),wh:=wh,ret:=ret}else match attrNmO S T (allT q) q.by_ with
   |none=>none
   |some b=>some {q with items:=q.items.map (itT S T),wh:=wh,ret:=ret,by_:=b}
def cn (S:List Td)(T:List Kd)(a n:ByteArray):ByteArray:=(calld S n a T).getD emp
def turnN (S:List Td)(T:List Kd)(q:Qy)(x:Nd):Nd:=if x.at_=emp∨x.at_=tsB then x else match q.items.find? (fun it=>decide (it.v=x.v))with
 |none=>x
 |some it=>{x with at_:=cn S T x.at_ (it.tys.headD emp)}
def turnQ (S:List Td)(T:List Kd)(q:Qy):Qy:=
 {q with items:=q.items.map (fun it=>{it with tys:=it.tys.map (cn S T emp)}),wh:=q.wh.map (turnN S T q),ret:=q.ret.map (fun t=>t.map (turnN S T q)),by_:=if q.by_=emp then emp else cn S T q.by_ ((q.items.headD ⟨false,[],emp,0,0⟩).tys.headD emp)}
structure Final (S:List Td)(T:List Kd)(q:Qy):Prop where
 uq:UqK T
 nm:∀k∈T,k.nm≠emp∧∀f∈k.fs,f.nm≠emp
 th:thereB S T (needsN q)=true
 ok:QOk S q
 sc:scC S=0
theorem anK_app (ty fr:Int)(l m:List Kd)(out:ByteArray):anK ty fr (l++m) out=(anK ty fr l out).bind (anK ty fr m):=by
 induction l generalizing out with
 |nil=>rfl
 |cons k r ih=>
  show(if k.fr≠ty then anK ty fr (r++m) out else match k.fs.find? (fun f=>decide (f.fr=fr))with |none=>none |some f=>if out≠emp∧f.nm≠out then none else anK ty fr (r++m) f.nm)=(if k.fr≠ty then anK ty fr r out else match k.fs.find? (fun f=>decide (f.fr=fr))with |none=>none |some f=>if out≠emp∧f.nm≠out then none else anK ty fr r f.nm).bind (anK ty fr m)
  by_cases h:k.fr≠ty
  ·rw[if_pos h,if_pos h,ih]
  ·rw[if_neg h,if_neg h];cases k.fs.find? (fun f=>decide (f.fr=fr))with
   |none=>rfl
   |some f=>
    simp only;by_cases h2:out≠emp∧f.nm≠out
    ·rw[if_pos h2,if_pos h2];rfl
    ·rw[if_neg h2,if_neg h2,ih]
theorem anK_skip {ty fr:Int}{l:List Kd}(h:∀k∈l,k.fr≠ty)(out:ByteArray):anK ty fr l out=some out:=by
 induction l with
 |nil=>rfl
 |cons k r ih=>
  unfold anK;rw[if_pos (h k xS)];exact ih fun k hk=>h k (xU _ hk)
theorem kd_split {T:List Kd}(hu:UqK T){a:Nat}(h:hasK T a):∃l k r,T=l++k::r∧k.fr=(a:Int)∧(∀y∈l,y.fr≠(a:Int))∧∀y∈r,y.fr≠(a:Int):=by
 obtain⟨k,hk,e⟩:=h;obtain⟨l,r,rfl⟩:=List.append_of_mem hk;refine⟨l,k,r,rfl,e,fun y hy e2=>?_,fun y hy e2=>?_⟩
 ·have:=hu.kd;rw[xR,List.pairwise_append]at this;exact this.2.2 y.fr (xJ hy) k.fr (by simp) (by omega) (by omega)
 ·have:=hu.kd;rw[xR,List.pairwise_append,List.map_cons,List.pairwise_cons]at this;exact this.2.1.1 y.fr (xJ hy) (by omega) (by omega)
theorem calld_skip {S:List Td}{n a:ByteArray}{l m:List Kd}(h:∀k∈l,k.fr≠placeI (nmsT S) n):calld S n a (l++m)=calld S n a m:=by
 induction l with
 |nil=>rfl
 |cons k r ih=>
  show calld S n a (k::(r++m))=_
  rw[calld,if_pos (h k xS)];exact ih fun k hk=>h k (xU _ hk)
theorem anK_is {S:List Td}{T:List Kd}{n a:ByteArray}(hu:UqK T)(ha:a≠emp){p:Nat}(hp:placeI (nmsT S) n=p)(h:(calld S n a T).isSome=true)(out:ByteArray):anK (placeI (nmsT S) n) (attrI S (placeI (nmsT S) n) a) T out=if out≠emp∧cn S T a n≠out then none else some (cn S T a n):=by
 have h2:=(calld_F ha).1 h;rw[hp]at h2;obtain⟨l,k,r,rfl,e,e1,e2⟩:=kd_split hu (a:=p) (by obtain⟨k,hk,e,_⟩:=h2;exact⟨k,hk,e⟩);have h3:calld S n a (l++k::r)=calld S n a (k::r):=calld_skip (by rw[hp];exact e1);have h4:calld S n a r=none:=by
  have:=calld_skip (S:=S) (n:=n) (a:=a) (l:=r) (m:=[]) (by rw[hp];exact e2);rw[zT]at this;rw[this];rfl
 rw[calld,if_neg (by rw[hp];simpa using e),if_neg ha]at h3;rw[anK_app,anK_skip (by rw[hp];exact e1)];show anK _ _ (k::r) out=_
 rw[anK,if_neg (by rw[hp];simpa using e)];unfold cn;rw[h3]at h ⊢;cases hf:k.fs.find? (fun f=>decide (f.fr=attrI S (placeI (nmsT S) n) a))with
 |none=>rw[hf]at h;simp only at h;rw[h4]at h;cases h
 |some f=>
  simp only[Option.getD_some];by_cases h5:out≠emp∧f.nm≠out
  ·rw[if_pos h5,if_pos h5]
  ·rw[if_neg h5,if_neg h5,anK_skip (by rw[hp];exact e2)]
theorem cn_ne {S:List Td}{T:List Kd}{n a:ByteArray}(hn:∀k∈T,k.nm≠emp∧∀f∈k.fs,f.nm≠emp)(h:(calld S n a T).isSome=true):cn S T a n≠emp:=by
 unfold cn;induction T with
 |nil=>cases h
 |cons k r ih=>
  have ih':=ih fun k hk=>hn k (xU _ hk)
  have hk:=hn k xS;unfold calld at h ⊢;by_cases h1:k.fr≠placeI (nmsT S) n
  ·rw[if_pos h1]at h ⊢;exact ih' h
  ·rw[if_neg h1]at h ⊢;by_cases h2:a=emp
   ·rw[if_pos h2];exact hk.1
   ·rw[if_neg h2]at h ⊢;cases hf:k.fs.find? (fun f=>decide (f.fr=attrI S (placeI (nmsT S) n) a))with
    |none=>rw[hf]at h;exact ih' h
    |some f=>exact hk.2 f (List.mem_of_find?_eq_some hf)
theorem anT_is {S:List Td}{T:List Kd}{a:ByteArray}(hu:UqK T)(hn:∀k∈T,k.nm≠emp∧∀f∈k.fs,f.nm≠emp)(ha:a≠emp):∀(tys:List ByteArray)(out:ByteArray),(∀n∈tys,0≤placeI (nmsT S) n∧(calld S n a T).isSome=true)→out≠emp→anT S T a tys out=if tys.all (fun n=>decide (cn S T a n=out))=true then some out else none
 | [],out,_,_=>rfl
 |n::r,out,h,ho=>by
  obtain⟨h1,h2⟩:=h n xS;obtain⟨p,hp⟩:∃p:Nat,placeI (nmsT S) n=p:=⟨_,(Int.toNat_of_nonneg h1).symm⟩
  unfold anT;rw[anK_is hu ha hp h2];by_cases h3:cn S T a n=out
  ·rw[if_neg (fun h=>h.2 h3),h3];simp only;rw[anT_is hu hn ha r out (fun m hm=>h m (xU _ hm)) ho,List.all_cons,zW h3,xE]
  ·rw[if_pos ⟨ho,h3⟩,List.all_cons,zV h3];rfl
theorem attrNm_is {S:List Td}{T:List Kd}{a:ByteArray}(hu:UqK T)(hn:∀k∈T,k.nm≠emp∧∀f∈k.fs,f.nm≠emp)(ha:a≠emp)(hts:a≠tsB){tys:List ByteArray}(hl:0<tys.length)(h:∀n∈tys,0≤placeI (nmsT S) n∧(calld S n a T).isSome=true):
  attrNmO S T tys a=if tys.all (fun n=>decide (cn S T a n=cn S T a (tys.headD emp)))=true then some (cn S T a (tys.headD emp))else none:=by
 cases tys with
 |nil=>simp at hl
 |cons n r=>
  obtain⟨h1,h2⟩:=h n xS;obtain⟨p,hp⟩:∃p:Nat,placeI (nmsT S) n=p:=⟨_,(Int.toNat_of_nonneg h1).symm⟩
  have hne:=cn_ne hn h2;unfold attrNmO;rw[if_neg hts];unfold anT;rw[anK_is hu ha hp h2,if_neg (fun h=>h.1 rfl)];simp only;rw[anT_is hu hn ha r _ (fun m hm=>h m (xU _ hm)) hne];show _=if(n::r).all (fun m=>decide (cn S T a m=cn S T a n))=true then some (cn S T a n)else none
  rw[List.all_cons,zW rfl,xE];by_cases hA:r.all (fun m=>decide (cn S T a m=cn S T a n))=true
  ·rw[if_pos hA];exact if_neg hne
  ·rw[if_neg hA]
theorem typeNm_is {S:List Td}{T:List Kd}{n:ByteArray}(h:(calld S n emp T).isSome=true):typeNm S T n=cn S T emp n:=by
 unfold typeNm cn;induction T with
 |nil=>cases h
 |cons k r ih=>
  unfold calld at h ⊢;by_cases h1:k.fr≠placeI (nmsT S) n
  ·rw[if_pos h1]at h ⊢;rw[List.find?_cons_of_neg (by simpa using h1)];exact ih h
  ·rw[if_neg h1,if_pos rfl,List.find?_cons_of_pos (by simpa using h1)];rfl
section
variable {S:List Td}{T:List Kd}{q:Qy}
theorem Final.call (F:Final S T q){d:Ned}(hd:d∈needsN q){n:ByteArray}(hn:n∈d.tys):0≤placeI (nmsT S) n∧(calld S n d.at_ T).isSome=true:=by
 obtain⟨a,t,h1,_⟩:=need_ok F.sc F.ok hd hn;exact⟨by omega,xP.1 (xP.1 F.th d hd) n hn⟩
theorem Final.nm_of (F:Final S T q){d:Ned}(hd:d∈needsN q)(ha:d.at_≠emp)(hts:d.at_≠tsB)(hl:0<d.tys.length):attrNmO S T d.tys d.at_=if d.tys.all (fun n=>decide (cn S T d.at_ n=cn S T d.at_ (d.tys.headD emp)))=true then some (cn S T d.at_ (d.tys.headD emp))else none:=
 attrNm_is F.uq F.nm ha hts hl fun n hn=>F.call hd hn
theorem item_get (h:QOk S q){it:It}(hit:it∈q.items){v:ByteArray}(hv:it.v=v):q.items[(itemI q v).toNat]? =some it∧q.items.find? (fun x=>decide (x.v=v))=some it:=by
 obtain⟨i,hi⟩:=zN hit;have hvi:(vrs q)[i]? =some v:=by unfold vrs;rw[zG,hi,←hv];rfl
 have h1:itemI q v=i:=placeI_at hvi fun j a hj hji e=>by
  unfold vrs at hj;rw[zG]at hj;obtain⟨y,hy,e2⟩:=xG.1 hj;have:=h.vars j i y it hy hi (by rw[e2,e,hv]);omega
 refine⟨by rw[h1,Int.toNat_natCast];exact hi,?_⟩;cases hf:q.items.find? (fun x=>decide (x.v=v))with
 |none=>
  have:=List.find?_eq_none.1 hf it hit;simp[hv]at this
 |some y=>
  have h2:=List.mem_of_find?_eq_some hf;have h3:=List.find?_some hf;rw[decide_eq_true_eq]at h3;obtain⟨j,hj⟩:=zN h2;have:=h.vars i j it y hi hj (by rw[h3,hv]);subst this;rw[hi]at hj;injection hj with hj;rw[hj]
theorem node_is (F:Final S T q){t:List Nd}(ht:t=q.wh∨t∈q.ret){x:Nd}(hx:x∈t):(ofTN q x).all (fun d=>d.tys.all fun n=>decide ((calld S n d.at_ T).getD emp=(calld S (d.tys.headD emp) d.at_ T).getD emp))=true∧nodeO S T q x=some (turnN S T q x)∨
  (ofTN q x).all (fun d=>d.tys.all fun n=>decide ((calld S n d.at_ T).getD emp=(calld S (d.tys.headD emp) d.at_ T).getD emp))=false∧nodeO S T q x=none:=by
 rcases F.ok.nd t ht x hx with h |⟨it,hit,hv,hb⟩
 ·refine .inl ⟨?_,?_⟩
  ·unfold ofTN;rw[if_pos (.inl h)];rfl
  ·unfold nodeO turnN;rw[if_pos h,if_pos (.inl h)]
 obtain⟨g1,g2⟩:=item_get F.ok hit hv;by_cases he:x.at_=emp
 ·refine .inl ⟨?_,?_⟩
  ·unfold ofTN;rw[if_pos (.inl he)];rfl
  ·unfold nodeO turnN;rw[if_pos he,if_pos (.inl he)]
 by_cases hs:x.at_=tsB
 ·refine .inl ⟨?_,?_⟩
  ·unfold ofTN;rw[if_pos (.inr hs)];rfl
  ·unfold nodeO turnN attrNmO;rw[if_neg he,if_pos (.inr hs),g1];simp only;rw[if_pos hs];simp only[Option.map_some];rw[←hs]
 have hd:∀it2∈q.items,it2.v=x.v→it2=it:=fun it2 h1 h2=>by
  have:=(item_get F.ok h1 h2).1;rw[g1]at this;injection this with this;exact this.symm
 have hmem:(⟨it.tys,x.at_⟩:Ned)∈ofTN q x:=by
  unfold ofTN;rw[if_neg (fun h=>h.elim he hs)];exact List.mem_map.2 ⟨it,List.mem_filter.2 ⟨hit,by simpa using hv⟩,rfl⟩
 have hneed:(⟨it.tys,x.at_⟩:Ned)∈needsN q:=by
  unfold needsN;refine xN _ (xN _ ?_);rcases ht with rfl |ht
  ·exact List.mem_append_left _ (xF.2 ⟨x,hx,hmem⟩)
  ·exact xN _ (xF.2 ⟨t,ht,xF.2 ⟨x,hx,hmem⟩⟩)
 have hall:(ofTN q x).all (fun d=>d.tys.all fun n=>decide ((calld S n d.at_ T).getD emp=(calld S (d.tys.headD emp) d.at_ T).getD emp))=it.tys.all fun n=>decide (cn S T x.at_ n=cn S T x.at_ (it.tys.headD emp)):=by
  rw[Bool.eq_iff_iff];constructor
  ·intro h;exact xP.1 h _ hmem
  ·intro h;refine xP.2 fun d hdm=>?_
   unfold ofTN at hdm;rw[if_neg (fun h=>h.elim he hs)]at hdm;obtain⟨it2,h2,rfl⟩:=List.mem_map.1 hdm;obtain⟨h3,h4⟩:=List.mem_filter.1 h2;rw[hd it2 h3 (of_decide_eq_true h4)];exact h
 have hnm:=F.nm_of hneed he hs (F.ok.tys it hit).1;simp only at hnm;rw[hall];unfold nodeO turnN;rw[if_neg he,if_neg (fun h=>h.elim he hs),g1,g2];simp only;rw[hnm];cases hA:it.tys.all fun n=>decide (cn S T x.at_ n=cn S T x.at_ (it.tys.headD emp))with
 |true=>exact .inl ⟨rfl,by rw[if_pos rfl];rfl⟩
 |false=>exact .inr ⟨rfl,by rw[if_neg (by simp)];rfl⟩
theorem tree_is (F:Final S T q){t:List Nd}(ht:t=q.wh∨t∈q.ret):alikeB S T (ofTreeN q t)=true∧treeO S T q t=some (t.map (turnN S T q))∨alikeB S T (ofTreeN q t)=false∧treeO S T q t=none:=by
 suffices hs:∀l:List Nd,(∀x∈l,x∈t)→alikeB S T (ofTreeN q l)=true∧treeO S T q l=some (l.map (turnN S T q))∨alikeB S T (ofTreeN q l)=false∧treeO S T q l=none from hs t fun x hx=>hx
 intro l;induction l with
 |nil=>intro _;exact .inl ⟨rfl,rfl⟩
 |cons x r ih=>
  intro h;have ih':=ih fun y hy=>h y (xU _ hy)
  have hap:alikeB S T (ofTreeN q (x::r))=((ofTN q x).all (fun d=>d.tys.all fun n=>decide ((calld S n d.at_ T).getD emp=(calld S (d.tys.headD emp) d.at_ T).getD emp))&&alikeB S T (ofTreeN q r)):=by
   unfold alikeB ofTreeN;rw[zK,List.all_append]
  rw[hap];unfold treeO;rcases node_is F ht (h x xS)with⟨h1,h2⟩|⟨h1,h2⟩
  ·rw[h1,h2];rcases ih' with⟨h3,h4⟩|⟨h3,h4⟩
   ·exact .inl ⟨by rw[h3];rfl,by simp only;rw[h4];rfl⟩
   ·exact .inr ⟨by rw[h3];rfl,by simp only;rw[h4];rfl⟩
  ·exact .inr ⟨by rw[h1];rfl,by rw[h2]⟩
theorem ret_is (F:Final S T q):alikeB S T (q.ret.flatMap (ofTreeN q))=true∧retO S T q q.ret=some (q.ret.map fun t=>t.map (turnN S T q))∨alikeB S T (q.ret.flatMap (ofTreeN q))=false∧retO S T q q.ret=none:=by
 suffices hs:∀l:List (List Nd),(∀x∈l,x∈q.ret)→alikeB S T (l.flatMap (ofTreeN q))=true∧retO S T q l=some (l.map fun t=>t.map (turnN S T q))∨alikeB S T (l.flatMap (ofTreeN q))=false∧retO S T q l=none from hs q.ret fun x hx=>hx
 intro l;induction l with
 |nil=>intro _;exact .inl ⟨rfl,rfl⟩
 |cons x r ih=>
  intro h;have ih':=ih fun y hy=>h y (xU _ hy)
  have hap:alikeB S T ((x::r).flatMap (ofTreeN q))=(alikeB S T (ofTreeN q x)&&alikeB S T (r.flatMap (ofTreeN q))):=by
   unfold alikeB;rw[zK,List.all_append]
  rw[hap];unfold retO;rcases tree_is F (.inr (h x xS))with⟨h1,h2⟩|⟨h1,h2⟩
  ·rw[h1,h2];rcases ih' with⟨h3,h4⟩|⟨h3,h4⟩
   ·exact .inl ⟨by rw[h3];rfl,by simp only;rw[h4];rfl⟩
   ·exact .inr ⟨by rw[h3];rfl,by simp only;rw[h4];rfl⟩
  ·exact .inr ⟨by rw[h1];rfl,by rw[h2]⟩
theorem itT_is (F:Final S T q):q.items.map (itT S T)=q.items.map (fun it=>{it with tys:=it.tys.map (cn S T emp)}):=by
 apply List.map_congr_left;intro it hit;unfold itT;congr 1;apply List.map_congr_left;intro n hn;have hd:(⟨[n],emp⟩:Ned)∈needsN q:=by
  unfold needsN;exact List.mem_append_left _ (xF.2 ⟨it,hit,List.mem_map.2 ⟨n,hn,rfl⟩⟩)
 exact typeNm_is (F.call hd (xB.2 rfl)).2
theorem all_head (h:QOk S q):0<(allT q).length∧(allT q).headD emp=((q.items.headD ⟨false,[],emp,0,0⟩).tys.headD emp):=by
 have h1:=h.il;have h2:=h.tys;unfold allT;cases hi:q.items with
 |nil=>rw[hi]at h1;simp at h1
 |cons it r=>
  have h3:=(h2 it (by rw[hi];simp)).1;rw[zK];cases ht:it.tys with
  |nil=>rw[ht]at h3;simp at h3
  |cons n m=>simp[ht]
theorem turned_is (F:Final S T q):turnedO S T q=if alikeB S T (needsN q)=true then some (turnQ S T q)else none:=by
 have hal:alikeB S T (needsN q)=((if q.by_=emp then true else(allT q).all (fun n=>decide (cn S T q.by_ n=cn S T q.by_ ((allT q).headD emp))))&&(alikeB S T (ofTreeN q q.wh)&&alikeB S T (q.ret.flatMap (ofTreeN q)))):=by
  unfold alikeB needsN;rw[List.all_append,List.all_append,List.all_append];have h1:(q.items.flatMap (fun it=>it.tys.map fun n=>(⟨[n],emp⟩:Ned))).all (fun d=>d.tys.all fun n=>decide ((calld S n d.at_ T).getD emp=(calld S (d.tys.headD emp) d.at_ T).getD emp))=true:=by
   refine xP.2 fun d hd=>?_
   obtain⟨it,_,hd⟩:=xF.1 hd;obtain⟨n,_,rfl⟩:=List.mem_map.1 hd;simp
  rw[h1,xE];congr 1;by_cases hb:q.by_=emp
  ·rw[if_pos hb,if_pos hb];rfl
  ·rw[if_neg hb,if_neg hb,List.all_cons,List.all_nil,Bool.and_true];rfl
 rw[hal];unfold turnedO;rcases tree_is F (t:=q.wh) (.inl rfl)with⟨h1,h2⟩|⟨h1,h2⟩
 ·rw[h1,h2];simp only;rcases ret_is F with⟨h3,h4⟩|⟨h3,h4⟩
  ·rw[h3,h4];simp only;rw[itT_is F];by_cases hb:q.by_=emp
   ·rw[if_pos hb,if_pos hb,if_pos (by rfl)];unfold turnQ;rw[if_pos hb];congr 1;rw[←hb]
   ·rw[if_neg hb,if_neg hb];obtain⟨a1,a2⟩:=all_head F.ok;have hd:(⟨allT q,q.by_⟩:Ned)∈needsN q:=by
     unfold needsN;refine xN _ (List.mem_append_left _ ?_);rw[if_neg hb];exact xB.2 rfl
    have hts:q.by_≠tsB:=(F.ok.by_.resolve_left hb).1;have hnm:=F.nm_of hd hb hts a1;simp only at hnm;rw[hnm];cases hA:(allT q).all (fun n=>decide (cn S T q.by_ n=cn S T q.by_ ((allT q).headD emp)))with
    |true=>
     rw[if_pos (by rfl),if_pos (by rfl)];unfold turnQ;rw[if_neg hb,a2]
    |false=>
     rw[if_neg (by simp),if_neg (by simp)]
  ·rw[h3,h4,if_neg (by simp)]
 ·rw[h1,h2,if_neg (by simp)]
end
end Go.Proofs.YtfiodnlgiglhfaaGreatDoor
