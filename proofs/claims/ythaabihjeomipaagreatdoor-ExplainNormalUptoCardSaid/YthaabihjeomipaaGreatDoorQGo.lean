/- The document's Check. -/
import Derived.Test.YthaabihjeomipaaGreatDoorQGm
namespace Go.Proofs.YthaabihjeomipaaGreatDoor
set_option maxRecDepth 100000
set_option maxHeartbeats 16000000
open Go.RowKit Go.Deep Go.Maps
set_option linter.unusedVariables false
set_option linter.unusedSimpArgs false
theorem fg_src {w:World}{B:Nat}{v:Value}{L:List Fg}{G:Nat→Prop}(h:OL w B NoF 111 6 v L.length (L.flatMap fgD)){A:Option Addr}{n c:Nat}(e:v=.slice A n c):Src w A (L.flatMap fgD) G:=by
 have h1:Rd w (fun b=>b<w.heap.size) v (.sl L.length (L.flatMap fgD)):=h.rd (fun b hb _=>hb.elim) (fun b _ h=>h);subst e;obtain⟨A',c',e,_⟩:=h1.sl_inv;injection e with e1 e2 e3
 subst e1 e2 e3;exact Rd.srcq (PlainL.flatMap fg_plain L) h1
namespace ckW
open nmW
theorem rCheck_k (A:Option Addr)(c:Nat)(F:Nat→Prop)(l:List Td)(q:Qy)(s:Sl3)(hl:SzT l)(hs:SzQ q)(hSB:SzB q)(w:World)(hK:KwIs w)(R:QR w F q s)(r:Rd w F (.slice A l.length c) (.sl l.length (l.flatMap tdD))):
  Calls Tryz.prog 25 #[.agg ⟨[.slice A l.length c]⟩,.agg ⟨qV q s⟩] w (RfPost (checkC (scC l) l q) w):=by
 have h0:=CB.new l A c q s w;obtain⟨y0,y1,y2,y3,y4,y5,y6⟩:=qbc h0.sq.b1;have x0:=h0.sq.b0.cell 0;obtain⟨W0,hW0⟩:∃W0,W0=(((w.alloc (.cells ⟨[.slice A l.length c]⟩ 24)).alloc (.cells ⟨qV q s⟩ 31)).alloc (.cells ⟨flV 0 0 0 0⟩ 59)):=⟨_,rfl⟩
 rw[←hW0]at h0 y0 y1 y2 y3 y4 y5 y6 x0;have hb0:=h0.sq.hb;have lt0:∀W,Bw W0 W→Bw w W:=fun W hW=>hb0.trans (hW.mono hb0.size)
 have cells:∀W,Bw W0 W→CB l A c q s w W:=fun W hW=>h0.stay hW
 have k1:Calls Tryz.prog 52 #[.agg #[.slice A l.length c]] W0 fun e w'=>e=.returned (.int .i64 (scC l))∧Bw W0 w':=rCheckSchema_k A c F l hl W0 (hK.stay hb0) (R.under hb0).lt (r.under hb0 R.lt)
 have k2:∀W,Bw W0 W→Calls Tryz.prog 53 #[.agg ⟨qV q s⟩] W fun e w'=>e=.returned (.bool (shapedB q))∧Bw W w':=fun W hW=>refShaped_k q s F hs W (hK.stay (lt0 W hW)) (R.under (lt0 W hW))
 have k3:∀W,Bw w W→Calls Tryz.prog 54 #[.agg ⟨[.slice A l.length c]⟩,.agg ⟨qV q s⟩] W (FgPost (itemsF l q) W):=fun W hW=>ofItems_k A c F l q s hl hs hSB W (R.under hW).lt (r.under hW R.lt) (R.under hW)
 have k4:shapedB q=true→∀W,Bw w W→Calls Tryz.prog 55 #[.agg ⟨[.slice A l.length c]⟩,.agg ⟨qV q s⟩] W (FgPost (whereF l q) W):=fun hsh W hW=>ofWhere_k A c F l q s hl hs (shaped_wh hsh).1 W (hK.stay hW) (r.under hW R.lt) (R.under hW)
 have k5:shapedB q=true→∀W,Bw w W→Calls Tryz.prog 56 #[.agg ⟨[.slice A l.length c]⟩,.agg ⟨qV q s⟩] W (FgPost (restF l q) W):=fun hsh W hW=>ofRest_k A c F l q s hl hs hSB (shaped_wh hsh).2 W (r.under hW R.lt) (R.under hW)
 have wl:shapedB q=true→(whereF l q).length≤6291458:=fun hsh=>whereF_len l q hs (shaped_wh hsh).1
 have rl:=restF_len l q hs hSB;obtain⟨b,hc⟩:∃b,b=checkC (scC l) l q:=⟨_,rfl⟩
 rw[←hc];have e3:scC l=0→shapedB q=true→∀L:List Fg,L=(if itemsF l q=[]then whereF l q++restF l q else itemsF l q)→bestC L=b:=fun h h2 L hL=>by rw[hc];exact refC_code h h2 hL
 generalize scC l=sc at*;have e1:sc≠0→b=sc:=fun h=>by rw[hc,ck1 h]
 have e2:sc=0→shapedB q=false→b=50:=fun h h2=>by rw[hc,h,ck2 h2]
 clear hc;generalize itemsF l q=IF at*;generalize whereF l q=WF at*;generalize restF l q=RF at*;generalize shapedB q=sb at*;obtain⟨A1,c1,A2,c2,A3,c3⟩:=s;simp only[qV,flV,zY]at hW0 y0 y1 y2 y3 y4 y5 y6 x0 k2 k3 k4 k5 ⊢;have hWW:=Hd hW0;replace cells:=Hd cells;replace k1:=Hd k1;replace k2:=Hd k2;replace k3:=Hd k3;replace k4:=Hd k4;replace k5:=Hd k5;replace wl:=Hd wl;replace e1:=Hd e1;replace e2:=Hd e2;replace e3:=Hd e3;clear hl hs hK R r h0 lt0 hW0 hb0 hSB;go_enter Tryz.func25,Tryz.ntmps25;go_upto_region 1 with fail
 rw[←hWW.out];go_upto_region 2 with(go_at_call 52;refine k1.out.mono ?_;rintro e W1 ⟨rfl,hW1⟩)
 clear x0 y0 y1 y2 y3 y4 y5 y6;have hC1:=cells.out W1 hW1;obtain⟨y0,y1,y2,y3,y4,y5,y6⟩:=qbc hC1.sq.b1;have x0:=hC1.sq.b0.cell 0;simp only[zY]at x0 y0 y3 y6;replace hC1:=Hd hC1;have k2':=Hd (k2.out W1 hW1);by_cases hs0:sc=0
 case neg=>
  have hfin:=Hd (e1.out hs0);have f1:=beqF hs0;have f2:=bneT hs0;have hc1:=Hd hs0;replace hW1:=Hd hW1;clear hs0 x0 y0 y1 y2 y3 y4 y5 y6;go_wp2_with (refine at_op (.store 59 (.tmp 4) (.tmp 18)) rfl ?_;refine wsb rfl 59 (.tmp 4) (.tmp 18) rfl (cs':=flV sc 0 0 0) hC1.out.b2 aggFl rfl rfl rfl rfl ?_;intro w1 hz1 hg1);exact bpa rfl hz1 aggFl rfl rfl (RfPost.mk hfin.out.symm (hC1.out.fin hg1))
 subst hs0;go_upto_region 5 with(go_at_call 53;refine k2'.out.mono ?_;rintro e W2 ⟨rfl,hW2⟩)
 clear x0 y0 y1 y2 y3 y4 y5 y6;have hC2:=hC1.out.stay hW2;obtain⟨y0,y1,y2,y3,y4,y5,y6⟩:=qbc hC2.sq.b1;have x0:=hC2.sq.b0.cell 0;simp only[zY]at x0 y0 y3 y6;have k3':=Hd (k3.out W2 hC2.sq.hb);replace hC2:=Hd hC2;clear hW1 hW2 hC1;cases sb with
 |false=>
  have hfin:=Hd (e2.out sJ sJ);clear x0 y0 y1 y2 y3 y4 y5 y6;go_wp2_with (refine at_op (.store 59 (.tmp 4) (.tmp 23)) rfl ?_;refine wsb rfl 59 (.tmp 4) (.tmp 23) rfl (cs':=flV 50 0 0 0) hC2.out.b2 aggFl rfl rfl rfl rfl ?_;intro w1 hz1 hg1);exact bpa rfl hz1 aggFl rfl rfl (RfPost.mk hfin.out.symm (hC2.out.fin hg1))
 |true=>
  have e3':=Hd (e3.out sJ sJ);have k4':=Hd (k4.out sJ);have k5':=Hd (k5.out sJ);have wl':=wl.out sJ;clear e1 e2 e3 k4 k5 wl k1 k2;go_upto_region 8 with(go_at_call 54;refine k3'.out.mono ?_;rintro e W3 ⟨v3,rfl,hO3,hW3⟩)
  obtain⟨A3',c3',rfl⟩:=hO3.form;have hF3:CF l A c q ⟨A1,c1,A2,c2,A3,c3⟩ w W3 (.slice A3' IF.length c3') IF:=⟨hC2.out.stay hW3,hO3.base hC2.out.sq.hb.size⟩;clear x0 y0 y1 y2 y3 y4 y5 y6 hW3 hO3 hC2;obtain⟨y0,y1,y2,y3,y4,y5,y6⟩:=qbc hF3.cb.sq.b1;have x0:=hF3.cb.sq.b0.cell 0;simp only[zY]at x0 y0 y3 y6;have k4'':=Hd (k4'.out W3 hF3.cb.sq.hb);replace hF3:=Hd hF3;go_upto_if 29 with fail
  go_cut [7] (fun v wx=>∃L,Hid (L=if IF=[]then WF++RF else IF)∧CF l A c q ⟨A1,c1,A2,c2,A3,c3⟩ w wx v L)
  case first=>
   by_cases hne:IF=[]
   ·have f0:((IF.length:Int)==0)=true:=beqT (by rw[hne];rfl);have hlz:IF.length=0:=by rw[hne];rfl
    replace hlz:=Hd hlz;have hL:=Hd (show WF++RF=if IF=[]then WF++RF else IF by rw[if_pos hne]);replace hne:=Hd hne;go_wp2_with (first
     |(go_at_call 55;refine k4''.out.mono ?_;rintro e W4 ⟨v4,rfl,hO4,hW4⟩;obtain⟨A4,c4,rfl⟩:=hO4.form;have hF4:Hid (CF l A c q ⟨A1,c1,A2,c2,A3,c3⟩ w W4 (.slice A4 WF.length c4) WF):=Hd ⟨hF3.out.cb.stay hW4,hO4.base hF3.out.cb.sq.hb.size⟩;clear x0 y0 y1 y2 y3 y4 y5 y6 hO4 hW4;obtain⟨y0,y1,y2,y3,y4,y5,y6⟩:=qbc hF4.out.cb.sq.b1;have x0:=hF4.out.cb.sq.b0.cell 0;simp only[zY]at x0 y0 y3 y6)
     |(go_at_call 56;refine(k5'.out _ hF4.out.cb.sq.hb).mono ?_;rintro e W5 ⟨v5,rfl,hO5,hW5⟩;obtain⟨A5,c5,rfl⟩:=hO5.form;have hF5:=Hd (hF4.out.stay hW5);replace hO5:=Hd hO5;clear x0 y0 y1 y2 y3 y4 y5 y6 hW5)
     |(at_builtin;refine wpB rfl (.tmp 36) (.tmp 37) _ rfl (m:=RF.length) (news:=RF.flatMap fgD) elFg hF5.out.ol rfl rfl (fg_src hO5.out rfl) (fml (f:=fgD) (m:=6) (fun _=>rfl) RF) (by unfold maxLen;omega) oQ hF5.out.cb.sq.hb.size ?_;intro v' w1 hO1 hg1 ha1;obtain⟨B3,d3,rfl⟩:=hO1.form;have hcb:=Hd (CF.mk (⟨⟨hF5.out.cb.sq.hb.grown hg1 hF5.out.cb.sq.hb.size (fun q hq=>(hF5.out.ol.lt q hq).1),hF5.out.cb.sq.b0.grown hg1 (fun e=>hF5.out.ol.neBlk hF5.out.cb.sq.b0 dQ e.symm),hF5.out.cb.sq.b1.grown hg1 (fun e=>hF5.out.ol.neBlk hF5.out.cb.sq.b1 dQ e.symm)⟩,hF5.out.cb.b2.grown hg1 (fun e=>hF5.out.ol.neBlk hF5.out.cb.b2 dQ e.symm)⟩:CB l A c q ⟨A1,c1,A2,c2,A3,c3⟩ w w1) (show OL w1 w.heap.size NoF 111 6 (.slice B3 (WF.length+RF.length) d3) (WF++RF).length ((WF++RF).flatMap fgD) by rw[zH,xD];exact hO1));clear hO1 hg1 ha1))
    all_goals(go_meet;exact⟨WF++RF,hL,hcb.out⟩)
   ·have f0:((IF.length:Int)==0)=false:=beqF (by have:=List.length_pos_iff.2 hne;omega);have hL:=Hd (show IF=if IF=[]then WF++RF else IF by rw[if_neg hne]);replace hne:=Hd hne;go_wp2
    all_goals(go_meet;exact⟨IF,hL,hF3.out⟩)
  case rest=>
  obtain⟨L,hL,hF⟩:=hcut;have hb:=e3'.out L hL.out;clear x0 y0 y1 y2 y3 y4 y5 y6 hL hF3 e3' k4'' k3' k3 k4' k5';obtain⟨A4,c4,rfl⟩:=hF.ol.form;cases L with
  |nil=>
   have hb':=Hd (show(0:Int)=b from hb);replace hF:=Hd hF;clear hb;go_wp2_with (refine at_op (.store 59 (.tmp 4) (.tmp 42)) rfl ?_;refine wsb rfl 59 (.tmp 4) (.tmp 42) rfl (cs':=flV 0 0 0 0) hF.out.cb.b2 aggFl rfl rfl rfl rfl ?_;intro w1 hz1 hg1);exact bpa rfl hz1 aggFl rfl rfl (RfPost.mk hb'.out (hF.out.cb.fin hg1))
  |cons z R=>
   have hmx:(z::R).length≤maxLen:=by
    obtain⟨_,_,e,h1,h2⟩:=(hF.ol.rd (G:=fun b=>b<wc.heap.size) (fun b hb _=>hb.elim) (fun b _ h=>h)).sl_inv;injection e with e1 e2 e3
    omega
   have hln:(z::R).length=R.length+1:=rfl;rw[hln]at hmx;unfold maxLen at hmx;have hb':Hid ((bestF z R).code=b):=Hd hb;obtain⟨g,cap,e,gl,gf,p0,p1,p2,p3,p4,p5⟩:=fg_at (i:=0) (x:=z) hF.ol rfl;simp only[hln,Nat.zero_mul,Nat.zero_add]at e p0 p1 p2 p3 p4 p5;injection e with e1 e2 e3
   subst e1;simp only[hln]at hF ⊢;have hat:∀(k:Nat) x W,R[k]? =some x→CF l A c q ⟨A1,c1,A2,c2,A3,c3⟩ w W (.slice (some ⟨g,0,none⟩) (R.length+1) c4) (z::R)→_:=fun k x W hx h=>fg_at (i:=k+1) (x:=x) h.ol hx
   replace hF:=Hd hF;replace hat:=Hd hat;replace hln:=Hd hln;clear hb e2 e3;have hX0:Hid (CX l A c q ⟨A1,c1,A2,c2,A3,c3⟩ wc.heap.size (bestF z (R.take 0)) w (wc.alloc (.cells ⟨fgV z⟩ 111)) (.slice (some ⟨g,0,none⟩) (R.length+1) c4) (z::R)):=
    ⟨hF.out.stay bA,Blk.new _ _ _,by have:=hF.out.cb.b2.lt;omega⟩
   have hglw:g<wc.heap.size:=gl;simp only[fgV]at hX0;go_wp2;clear p0 p1 p2 p3 p4 p5 gf gl;go_loopw [11] (fun i wr=>∃k:Nat,k≤R.length∧i=.int .i64 ((k+1:Nat):Int)∧CX l A c q ⟨A1,c1,A2,c2,A3,c3⟩ wc.heap.size (bestF z (R.take k)) w wr (.slice (some ⟨g,0,none⟩) (R.length+1) c4) (z::R)) (fun i _=>R.length+1- (intOf i).toNat)
   case atStart=>exact⟨0,zE _,rfl,hX0.out⟩
   case round=>
    clear hX0 hF;obtain⟨k,hk,rfl,hX⟩:=hrel;by_cases hlt:k<R.length
    ·obtain⟨x,hx⟩:=getx hlt;have hnx:=bestF_take (b:=z) hx;obtain⟨g',cap',e,_,_,p0,p1,p2,p3,p4,p5⟩:=hat.out k x wr hx hX.cf;injection e with e1 e2 e3
     injection e1 with e1
     injection e1 with e1 e4 e5
     clear e2 e3 e4 e5;subst e1;have q1:((k+1:Nat):Int)<(R.length:Int)+1:=oQ;have q2:(0:Int)≤((k+1:Nat):Int):=oQ;have q3:((k+1:Nat):Int)<((R.length+1:Nat):Int):=oQ;have hm1:k+1≤R.length:=oQ;generalize bestF z (R.take k)=bk at*;obtain⟨r0,r1,r2,r3,r4,r5⟩:=fg_cells hX.bb;have hkt:∀W,Calls Tryz.prog 57 #[.agg ⟨fgV x⟩,.agg ⟨fgV bk⟩] W fun e w'=>e=.returned (.bool (decide (Klt x bk)))∧Bw W w':=fun W=>ahead_k x bk W
     have hxl:=fun W (hX:CX l A c q ⟨A1,c1,A2,c2,A3,c3⟩ wc.heap.size bk w W (.slice (some ⟨g,0,none⟩) (R.length+1) c4) (z::R))=>hat.out k x W hx hX.cf
     obtain⟨kl,hkl⟩:∃v,v=decide (Klt x bk):=⟨_,rfl⟩
     rw[←hkl]at hkt;have hnx':Hid (bestF z (R.take (k+1))=if kl=true then x else bk):=by show _=_;rw[hnx,hkl];simp
     clear hnx hkl;generalize hkn:k+1=kn at*;obtain⟨x1,x2,x3,x4,x5,x6⟩:=x;obtain⟨b1,b2,b3,b4,b5,b6⟩:=bk;simp only[fgV]at hkt p0 p1 p2 p3 p4 p5 r0 r1 r2 r3 r4 r5;replace hkt:=Hd hkt;replace hxl:=Hd hxl;replace hkn:=Hd hkn;replace hx:=Hd hx;replace hX:=Hd hX;go_upto_region 18 with fail
     go_cut [12] (fun s wx=>s=.bool kl∧CX l A c q ⟨A1,c1,A2,c2,A3,c3⟩ wc.heap.size ⟨b1,b2,b3,b4,b5,b6⟩ w wx (.slice (some ⟨g,0,none⟩) (R.length+1) c4) (z::R))
     case first=>
      go_region_law ((go_simp;(go_at_call 57;refine(hkt.out _).mono ?_;rintro e W ⟨rfl,hW⟩;replace hX:=Hd (hX.out.stay (by first|exact hW |exact(bR).drew.trans hW |exact(below_drewN bR _).trans hW));clear hW)))
      all_goals(go_wp2;all_goals(go_meet;exact⟨rfl,hX.out⟩))
     case rest=>
     obtain⟨rfl,hX2⟩:=hcut;clear p0 p1 p2 p3 p4 p5 r0 r1 r2 r3 r4 r5 hX;obtain⟨g',cap',e,hgl2,_,p0,p1,p2,p3,p4,p5⟩:=hxl.out _ hX2;injection e with e1 e2 e3
     injection e1 with e1
     injection e1 with e1 e4 e5
     clear e2 e3 e4 e5;subst e1;have hX:=Hd hX2;clear hX2 hxl hkt;cases kl with
     |true=>
      have hn2:Hid (bestF z (R.take kn)=⟨x1,x2,x3,x4,x5,x6⟩):=by show _=_;rw[hnx'.out,if_pos rfl]
      go_wp2_with (refine at_op (.store 111 (.tmp 10) (.tmp 62)) rfl ?_;refine wsb rfl 111 (.tmp 10) (.tmp 62) rfl (cs':=fgV ⟨x1,x2,x3,x4,x5,x6⟩) hX.out.bb aggFg rfl rfl rfl rfl ?_;intro w1 hz1 hg1;have hX4:=Hd (hX.out.put (by simp[Value.ownBlock];omega) hg1 hz1);clear hz1 hg1);go_roundw
      case rel=>exact⟨kn,hm1,gQ,by rw[hn2.out];exact hX4.out⟩
      case measure=>exact mQ
     |false=>
      have hn2:Hid (bestF z (R.take kn)=⟨b1,b2,b3,b4,b5,b6⟩):=by show _=_;rw[hnx'.out,if_neg sJ]
      go_wp2;go_roundw
      case rel=>exact⟨kn,hm1,gQ,by rw[hn2.out];exact hX.out⟩
      case measure=>exact mQ
    ·obtain rfl:k=R.length:=oQ;rw[zL]at hX;obtain⟨r0,r1,r2,r3,r4,r5⟩:=fg_cells hX.bb;replace hX:=Hd hX;generalize bestF z R=bk at*;obtain⟨b1,b2,b3,b4,b5,b6⟩:=bk;go_wp2_with (refine at_op (.store 59 (.tmp 4) (.tmp 64)) rfl ?_;refine wsb rfl 59 (.tmp 4) (.tmp 64) rfl (cs':=flV b3 b4 b5 b6) hX.out.cf.cb.b2 aggFl rfl rfl rfl rfl ?_;intro w1 hz1 hg1);exact bpa rfl hz1 aggFl rfl rfl (RfPost.mk hb'.out (hX.out.cf.cb.fin hg1))
end ckW
end Go.Proofs.YthaabihjeomipaaGreatDoor
