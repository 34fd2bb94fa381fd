/- The program's results and Check. -/
import Derived.Test.YtfiodnlgiglhfaaGreatDoorGb
namespace Go.Proofs.YtfiodnlgiglhfaaGreatDoor
set_option maxRecDepth 100000
set_option maxHeartbeats 16000000
open Go.RowKit Go.Deep Go.Maps
set_option linter.unusedVariables false
set_option linter.unusedSimpArgs false
def retG (l:List Td)(q:Qy)(t:List Nd):Int:=fz [walkC l q t true,if isTruthB t=true then 75 else 0]
theorem retC_many {l:List Td}{q:Qy}(h:8<q.ret.length):retC l q=78:=if_pos h
theorem retC_at {l:List Td}{q:Qy}(h:¬8<q.ret.length){j:Nat}{t:List Nd}{c:Int}(hx:q.ret[j]? =some t)(ha:∀(i:Nat) y,q.ret[i]? =some y→i<j→retG l q y=0)(hc:retG l q t=c)(hne:c≠0):retC l q=c:=by
 unfold retC;rw[if_neg h];have:=fz_map_at (g:=retG l q) hx ha (by rw[hc];exact hne);rw[hc]at this;exact this
theorem retC_end {l:List Td}{q:Qy}(h:¬8<q.ret.length)(ha:∀(i:Nat) y,q.ret[i]? =some y→i<q.ret.length→retG l q y=0):retC l q=0:=by
 unfold retC;rw[if_neg h];exact fz_map_all (g:=retG l q) ha
theorem truth_pos {t:List Nd}(h:isTruthB t=true):0<t.length:=by
 unfold isTruthB at h;by_cases h0:0<t.length
 ·exact h0
 ·rw[zV h0]at h;cases h
structure CB (l:List Td)(A:Option Addr)(c:Nat)(q:Qy)(s:Sl3)(w wr:World):Prop where
 sq:SQ l A c q s w wr
 b2:Blk wr (w.heap.size+1+1) 60 (flV 0 0 0 0)
section
variable {l:List Td}{A:Option Addr}{c:Nat}{q:Qy}{s:Sl3}{w wr W w1:World}
theorem CB.stay (h:CB l A c q s w wr)(hb:Bw wr W):CB l A c q s w W:=⟨h.sq.stay hb,h.b2.stay hb⟩
theorem CB.new (l:List Td)(A:Option Addr)(c:Nat)(q:Qy)(s:Sl3)(w:World):CB l A c q s w (((w.alloc (.cells ⟨[.slice A l.length c]⟩ 24)).alloc (.cells ⟨qV q s⟩ 32)).alloc (.cells ⟨flV 0 0 0 0⟩ 60)):=
 ⟨(SQ.new l A c q s w).stay bA,Blk.new' (by simp)⟩
theorem CB.fin (h:CB l A c q s w wr)(hg:wr.grownBy w1 (some (w.heap.size+1+1))):Bw w w1:=h.sq.hb.grown hg h.sq.hb.size (fun q hq=>by injection hq with hq;omega)
end
section
variable {sc:Int}{l:List Td}{q:Qy}
theorem ck1 (h:sc≠0):checkC sc l q=sc:=by unfold checkC;unfold fz;exact if_neg h
theorem ck2 (h:shapedB q=false):checkC 0 l q=50:=by unfold checkC;simp[fz,h]
theorem ck3 (h:shapedB q=true)(h2:itemsC l q≠0):checkC 0 l q=itemsC l q:=by unfold checkC;simp[fz,h,h2]
theorem ck4 (h:shapedB q=true)(h2:itemsC l q=0)(h3:whereC l q≠0):checkC 0 l q=whereC l q:=by unfold checkC;simp[fz,h,h2,h3]
theorem ck5 (h:shapedB q=true)(h2:itemsC l q=0)(h3:whereC l q=0)(h4:1099511627776<q.within):checkC 0 l q=66:=by unfold checkC withinC;simp[fz,h,h2,h3,h4]
theorem ck6 (h:shapedB q=true)(h2:itemsC l q=0)(h3:whereC l q=0)(h4:¬1099511627776<q.within)(h5:partC l q=67):checkC 0 l q=67:=by unfold checkC withinC;rw[if_neg h4];simp[fz,h,h2,h3,h5]
theorem ck7 (h:shapedB q=true)(h2:itemsC l q=0)(h3:whereC l q=0)(h4:¬1099511627776<q.within)(h5:partC l q=0):checkC 0 l q=retC l q:=by
 unfold checkC withinC;rw[if_neg h4];simp only[fz,h,h2,h3,h5];by_cases hr:retC l q=0<;>simp[hr]
end
theorem shaped_wh {q:Qy}(h:shapedB q=true):(q.wh=[]∨treeB q.wh=true)∧∀t∈q.ret,treeB t=true:=by
 unfold shapedB at h;simp only[xK,Bool.or_eq_true,decide_eq_true_eq]at h;obtain⟨_,_,_,_,_,_,_,h2,_,h3⟩:=h;exact⟨h2.imp (fun e=>List.eq_nil_of_length_eq_zero e) id,fun t ht=>xP.1 h3 t ht⟩
namespace ckW
open nmW
theorem results_k {A:Option Addr}{c:Nat}{F:Nat→Prop}{l:List Td}{q:Qy}{s:Sl3}{bs bq bv m:Nat}(hl:SzT l)(hs:SzQ q)(hsh:∀t∈q.ret,treeB t=true){w:World}(h:AB l A c q s F bs bq bv m w):
  Calls Tryz.prog 41 #[.agg ⟨qV q s⟩,askV bs bq bv] w (FwPost (retC l q) w):=by
 have h0:=WB.new q s bs bq bv w;have hA0:=h.stay (show Bw w _ from h0.hb);obtain⟨y0,y1,y2,y3,y4,y5,y6⟩:=qbc h0.b0;have z1:=h0.b1.cell 0;obtain⟨b,hc⟩:∃b,b=retC l q:=⟨_,rfl⟩
 rw[←hc];by_cases h8:8<q.ret.length
 ·have hfin:(78:Int)=b:=by rw[hc,retC_many h8]
  have f0:(8:Int)<q.ret.length:=by omega
  obtain⟨A1,c1,A2,c2,A3,c3⟩:=s;simp only[qV,askV,flV,zY]at h0 y6 z1 ⊢;replace h0:=Hd h0;replace hfin:=Hd hfin;clear hc h hA0 hs hsh h8 y0 y1 y2 y3 y4 y5;go_enter Tryz.func41,Tryz.ntmps41;go_wp2_with (refine at_op (.store 60 (.tmp 4) (.tmp 13)) rfl ?_;refine wsb rfl 60 (.tmp 4) (.tmp 13) rfl (cs':=flV 78 5 8 0) h0.out.b2 aggFl rfl rfl rfl rfl ?_;intro w1 hz1 hg1);exact bpa rfl hz1 aggFl rfl rfl (FwPost.mk hfin.out (fun h=>by have:=hfin.out;omega) (h0.out.fin hg1))
 have f0:¬(8:Int)<q.ret.length:=by omega
 obtain⟨W0,hW0⟩:∃W0,W0=(((w.alloc (.cells ⟨qV q s⟩ 32)).alloc (.cells ⟨[askV bs bq bv]⟩ 100)).alloc (.cells ⟨flV 0 0 0 0⟩ 60)):=⟨_,rfl⟩
 rw[←hW0]at h0 hA0 y0 y1 y2 y3 y4 y5 y6 z1;have kw:∀(W:World)(t:List Nd) A' c',t∈q.ret→Bw W0 W→Rd W F (.slice A' t.length c') (.sl t.length (t.flatMap ndD))→Calls Tryz.prog 75 #[.slice A' t.length c',.func (.func 82) #[] #[.pointer (some ⟨w.heap.size+1,0,none⟩)]] W (WkPost t (mentC l q true) W):=fun W t A' c' ht hW rd=>by
  have hab:=treeB_lt (hsh t ht);exact walktrue_k A' c' F t (mentC l q true) (w.heap.size+1) (hs.re t ht).1 (fun x hx=>⟨(hab x hx).1.2,(hab x hx).2.2⟩) W (hA0.qr.under hW).lt rd fun x hx W2 hW2=>asktrue_k hl hs x ((hs.re t ht).2 x hx).1 (hA0.stay (hW.trans (hW2.mono hW.size))) (h0.b1.stay (hW.trans (hW2.mono hW.size)))
 have kt:∀(W:World)(t:List Nd) A' c',t∈q.ret→Rd W F (.slice A' t.length c') (.sl t.length (t.flatMap ndD))→Calls Tryz.prog 77 #[.slice A' t.length c'] W fun e w'=>e=.returned (.bool (isTruthB t))∧w'=W:=fun W t A' c' ht rd=>isTruth_k A' c' F t (hs.re t ht).1 W rd
 have hrt:=hs.re;have hrl:=hs.rl;have hQ:=hA0.qr;obtain⟨A1,c1,A2,c2,A3,c3⟩:=s;simp only[qV,askV,flV,zY]at h0 hW0 y6 z1 ⊢;have hWW:=Hd hW0;replace h0:=Hd h0;replace kw:=Hd kw;replace kt:=Hd kt;replace hrt:=Hd hrt;replace hQ:=Hd hQ;replace hc:=Hd hc;have h8':=Hd h8;clear h hA0 hs hsh hW0 y0 y1 y2 y3 y4 y5 h8;have hmf:∀(fn:Fn) (first cap:Array Value) (w:World),(Instr.makeFunc fn first cap).run Tryz.prog w=.ok (.func fn first cap) w:=fun _ _ _ _=>rfl
 go_enter Tryz.func41,Tryz.ntmps41;go_upto_region 1 with fail
 rw[←hWW.out];go_wp2;clear y6 z1;go_loopw [17] (fun i wr=>∃j:Nat,j≤q.ret.length∧i=.int .i64 j∧Bw W0 wr∧Hid (∀(i:Nat) y,q.ret[i]? =some y→i<j→retG l q y=0)) (fun i _=>q.ret.length- (intOf i).toNat)
 case atStart=>exact⟨0,zE _,rfl,bR,fun i y hy hi=>by omega⟩
 case round=>
  obtain⟨j,hj,rfl,hB,hp⟩:=hrel;have h3:=h0.out.stay hB;by_cases hlt:j<q.ret.length
  ·obtain⟨t,ht⟩:=getx hlt;have htm:=zA ht;obtain⟨g,off,B2,d2,e,_,rx,a0⟩:=re_at (hQ.out.under hB).r3 ht;simp only at e;subst e;have g1:(0:Int)≤(j:Int):=by omega
   have g2:(j:Int)<q.ret.length:=by omega
   have htl:=(hrt.out t htm).1;have kw':=kw.out wr t B2 d2 htm hB rx;have kt':∀W,Bw wr W→_:=fun W hW=>kt.out W t B2 d2 htm (rx.under hW (fun b hb=>zF (hQ.out.lt b hb) hB.size))
   have hfx:∀c:Int,retG l q t=c→c≠0→b=c:=fun c h1 h2=>by rw[hc.out];exact retC_at h8'.out ht hp.out h1 h2
   have hpx:retG l q t=0→∀(i:Nat) y,q.ret[i]? =some y→i<j+1→retG l q y=0:=fun h i y hy hi=>by
    by_cases e:i=j
    ·subst e;obtain rfl:t=y:=by rw[hy]at ht;exact(zq9 ht).symm
     exact h
    ·exact hp.out i y hy (by omega)
   have hpos:=fun h=>truth_pos (t:=t) h
   unfold retG at hfx hpx;rw[fz2]at hfx;rw[show fz [walkC l q t true,if isTruthB t=true then 75 else 0]=if walkC l q t true=0 then(if isTruthB t=true then 75 else 0)else walkC l q t true from fz2 _ _]at hpx;generalize isTruthB t=tb at*;replace h3:=Hd h3;replace kw':=Hd kw';replace kt':=Hd kt';replace hfx:=Hd hfx;replace hpx:=Hd hpx;replace hpos:=Hd hpos;replace hB:=Hd hB;replace ht:=Hd ht;replace rx:=Hd rx;go_upto_region 7 with(go_at_call 75;refine kw'.out.mono ?_;rintro e W1 ⟨i,cv,rfl,hcv,hW1⟩;replace hcv:=Hd (show cv=walkC l q t true from hcv))
   have h4:=Hd (h3.out.stay hW1);have k3:=Hd (kt'.out W1 hW1);replace hW1:=Hd hW1;clear a0;by_cases hc0:cv=0
   ·subst hc0;cases tb with
    |true=>
     have hfin:=Hd (hfx.out 75 (by rw[←hcv.out];rfl) (by decide));have hp0:=hpos.out rfl;go_wp2_with (first
      |(go_at_call 77;refine k3.out.mono ?_;rintro e W2 ⟨rfl,hW2⟩;subst W2)
      |(refine at_op (.store 60 (.tmp 4) (.tmp 42)) rfl ?_;refine wsb rfl 60 (.tmp 4) (.tmp 42) rfl (cs':=flV 75 5 j ((t.length:Int) -1)) h4.out.b2 aggFl rfl rfl rfl rfl ?_;intro w1 hz1 hg1))
     exact bpa rfl hz1 aggFl rfl rfl (FwPost.mk hfin.out.symm (fun h=>by have:=hfin.out;omega) (h4.out.fin hg1))
    |false=>
     have hp2:Hid (∀(i:Nat) y,q.ret[i]? =some y→i<j+1→retG l q y=0):=hpx.out (by rw[←hcv.out];rfl);go_wp2_with (go_at_call 77;refine k3.out.mono ?_;rintro e W2 ⟨rfl,hW2⟩;subst W2);go_roundw
     case rel=>exact⟨j+1,by omega,by go_num,hB.out.trans (hW1.out.mono hB.out.size),hp2⟩
     case measure=>simp[intOf];omega
   ·have hfin:=Hd (hfx.out cv (by rw[←hcv.out];exact if_neg hc0) hc0);have f1:=beqF hc0;have f2:=bneT hc0;have hc1:=Hd hc0;clear hc0;go_wp2_with (refine at_op (.store 60 (.tmp 4) (.tmp 42)) rfl ?_;refine wsb rfl 60 (.tmp 4) (.tmp 42) rfl (cs':=flV cv 5 j i) h4.out.b2 aggFl rfl rfl rfl rfl ?_;intro w1 hz1 hg1);exact bpa rfl hz1 aggFl rfl rfl (FwPost.mk hfin.out.symm (fun h=>absurd (hfin.out.symm.trans h) hc1.out) (h4.out.fin hg1))
  ·have g1:¬(j:Int)<q.ret.length:=by omega
   obtain rfl:j=q.ret.length:=by omega
   have hfin:(0:Int)=b:=by rw[hc.out,retC_end h8'.out hp.out]
   replace hfin:=Hd hfin;replace h3:=Hd h3;go_wp2_with (refine at_op (.store 60 (.tmp 4) (.tmp 44)) rfl ?_;refine wsb rfl 60 (.tmp 4) (.tmp 44) rfl (cs':=flV 0 0 0 0) h3.out.b2 aggFl rfl rfl rfl rfl ?_;intro w1 hz1 hg1);exact bpa rfl hz1 aggFl rfl rfl (FwPost.mk hfin.out (fun h=>⟨rfl,rfl,rfl⟩) (h3.out.fin hg1))
theorem check_k (A:Option Addr)(c:Nat)(F:Nat→Prop)(l:List Td)(q:Qy)(s:Sl3)(hl:SzT l)(hs:SzQ q)(w:World)(hK:KwIs w)(R:QR w F q s)(r:Rd w F (.slice A l.length c) (.sl l.length (l.flatMap tdD))):
  Calls Tryz.prog 18 #[.agg ⟨[.slice A l.length c]⟩,.agg ⟨qV q s⟩] w (FwPost (checkC (scC l) l q) w):=by
 have h0:=CB.new l A c q s w;obtain⟨y0,y1,y2,y3,y4,y5,y6⟩:=qbc h0.sq.b1;have x0:=h0.sq.b0.cell 0;obtain⟨W0,hW0⟩:∃W0,W0=(((w.alloc (.cells ⟨[.slice A l.length c]⟩ 24)).alloc (.cells ⟨qV q s⟩ 32)).alloc (.cells ⟨flV 0 0 0 0⟩ 60)):=⟨_,rfl⟩
 rw[←hW0]at h0 y0 y1 y2 y3 y4 y5 y6 x0;have hb0:=h0.sq.hb;have lt0:∀W,Bw W0 W→Bw w W:=fun W hW=>hb0.trans (hW.mono hb0.size)
 have cells:∀W,Bw W0 W→CB l A c q s w W:=fun W hW=>h0.stay hW
 have k1:Calls Tryz.prog 31 #[.agg #[.slice A l.length c]] W0 fun e w'=>e=.returned (.int .i64 (scC l))∧Bw W0 w':=checkSchema_k A c F l hl W0 (hK.stay hb0) (R.under hb0).lt (r.under hb0 R.lt)
 have k2:∀W,Bw W0 W→Calls Tryz.prog 34 #[.agg ⟨qV q s⟩] W fun e w'=>e=.returned (.bool (shapedB q))∧Bw W w':=fun W hW=>shaped_k q s F hs W (hK.stay (lt0 W hW)) (R.under (lt0 W hW))
 have k3:∀W,Bw W0 W→Calls Tryz.prog 35 #[.agg ⟨[.slice A l.length c]⟩,.agg ⟨qV q s⟩] W (FwPost (itemsC l q) W):=fun W hW=>items_k A c F l q s hl hs W (R.under (lt0 W hW)).lt (r.under (lt0 W hW) R.lt) (R.under (lt0 W hW))
 have k4:∀W,Bw W0 W→Calls Tryz.prog 36 #[.agg ⟨qV q s⟩] W fun e w'=>e=.returned (.map (some (W.heap.size+1)))∧(∃f,MapG 9 w' (W.heap.size+1) q.items.length f∧NmIs (vrs q) f)∧Bw W w':=fun W hW=>byName_k q s F hs.il (fun x hx=>(hs.it x hx).2) W (R.under (lt0 W hW)).lt (R.under (lt0 W hW)).r1
 have kA:∀W m,Bw W0 W→(∃f,MapG 9 W m q.items.length f∧NmIs (vrs q) f)→AB l A c q s F w.heap.size (w.heap.size+1) W.heap.size m (W.alloc (.cells ⟨[.map (some m)]⟩ 97)):=fun W m hW hm=>by
  have hC:=(cells W hW).stay (bX (.cells ⟨[.map (some m)]⟩ 97));obtain⟨f,h1,h2⟩:=hm;exact⟨hC.sq.b0,hC.sq.b1,Blk.new _ _ _,⟨f,h1.stay bA,h2⟩,(r.under (lt0 W hW) R.lt).alloc _,R.under ((lt0 W hW).trans ((bA).mono (lt0 W hW).size))⟩
 have k5:shapedB q=true→∀bv m W,Bw W0 W→AB l A c q s F w.heap.size (w.heap.size+1) bv m W→Calls Tryz.prog 39 #[.agg ⟨qV q s⟩,askV w.heap.size (w.heap.size+1) bv] W (FwPost (whereC l q) W):=fun hsh bv m W hW hA=>where_k hl hs (shaped_wh hsh).1 (hK.stay (lt0 W hW)) hA
 have k6:∀W,Bw W0 W→Calls Tryz.prog 40 #[.agg ⟨[.slice A l.length c]⟩,.agg ⟨qV q s⟩] W fun e w'=>e=.returned (.bool (partB l q))∧Bw W w':=fun W hW=>partable_k A c F l q s hl hs W (R.under (lt0 W hW)).lt (r.under (lt0 W hW) R.lt) (R.under (lt0 W hW))
 have k7:shapedB q=true→∀bv m W,AB l A c q s F w.heap.size (w.heap.size+1) bv m W→Calls Tryz.prog 41 #[.agg ⟨qV q s⟩,askV w.heap.size (w.heap.size+1) bv] W (FwPost (retC l q) W):=fun hsh bv m W hA=>results_k hl hs (shaped_wh hsh).2 hA
 obtain⟨b,hc⟩:∃b,b=checkC (scC l) l q:=⟨_,rfl⟩
 rw[←hc];generalize scC l=sc at*;have e1:sc≠0→b=sc:=fun h=>by rw[hc,ck1 h]
 have e2:sc=0→shapedB q=false→b=50:=fun h h2=>by rw[hc,h,ck2 h2]
 have e3:sc=0→shapedB q=true→itemsC l q≠0→b=itemsC l q:=fun h h2 h3=>by rw[hc,h,ck3 h2 h3]
 have e4:sc=0→shapedB q=true→itemsC l q=0→whereC l q≠0→b=whereC l q:=fun h h2 h3 h4=>by rw[hc,h,ck4 h2 h3 h4]
 have e5:sc=0→shapedB q=true→itemsC l q=0→whereC l q=0→1099511627776<q.within→b=66:=fun h h2 h3 h4 h5=>by rw[hc,h,ck5 h2 h3 h4 h5]
 have e6:sc=0→shapedB q=true→itemsC l q=0→whereC l q=0→¬1099511627776<q.within→q.by_≠emp→partB l q=false→b=67:=fun h h2 h3 h4 h5 h6 h7=>by rw[hc,h,ck6 h2 h3 h4 h5 (by unfold partC;rw[if_neg h6,h7];rfl)]
 have e7:sc=0→shapedB q=true→itemsC l q=0→whereC l q=0→¬1099511627776<q.within→(q.by_=emp∨partB l q=true)→b=retC l q:=fun h h2 h3 h4 h5 h6=>by
  rw[hc,h,ck7 h2 h3 h4 h5];unfold partC;by_cases hb:q.by_=emp
  ·rw[if_pos hb]
  ·rw[if_neg hb,if_pos (h6.resolve_left hb)]
 clear hc;generalize itemsC l q=ic at*;generalize whereC l q=wc0 at*;generalize retC l q=rc at*;generalize shapedB q=sb at*;generalize partB l q=pb at*;obtain⟨A1,c1,A2,c2,A3,c3⟩:=s;simp only[qV,askV,flV,zY]at hW0 y0 y1 y2 y3 y4 y5 y6 x0 k2 k3 k4 k5 k6 k7 ⊢;have hWW:=Hd hW0;replace cells:=Hd cells;replace k1:=Hd k1;replace k2:=Hd k2;replace k3:=Hd k3;replace k4:=Hd k4;replace k5:=Hd k5;replace k6:=Hd k6;replace k7:=Hd k7;replace kA:=Hd kA;replace e1:=Hd e1;replace e2:=Hd e2;replace e3:=Hd e3;replace e4:=Hd e4;replace e5:=Hd e5;replace e6:=Hd e6;replace e7:=Hd e7;clear hl hs hK R r h0 lt0 hW0 hb0;have hmf:∀(fn:Fn) (first cap:Array Value) (w:World),(Instr.makeFunc fn first cap).run Tryz.prog w=.ok (.func fn first cap) w:=fun _ _ _ _=>rfl
 go_enter Tryz.func18,Tryz.ntmps18;go_upto_region 1 with fail
 rw[←hWW.out];go_upto_region 2 with(go_at_call 31;refine k1.out.mono ?_;rintro e W1 ⟨rfl,hW1⟩)
 clear x0 y0 y1 y2 y3 y4 y5 y6;have hC1:=cells.out W1 hW1;obtain⟨y0,y1,y2,y3,y4,y5,y6⟩:=qbc hC1.sq.b1;have x0:=hC1.sq.b0.cell 0;simp only[zY]at x0 y0 y3 y6;replace hC1:=Hd hC1;have k2':=Hd (k2.out W1 hW1);by_cases hs0:sc=0
 case neg=>
  have hfin:=Hd (e1.out hs0);have f1:=beqF hs0;have f2:=bneT hs0;have hc1:=Hd hs0;replace hW1:=Hd hW1;clear hs0 x0 y0 y1 y2 y3 y4 y5 y6;go_wp2_with (refine at_op (.store 60 (.tmp 4) (.tmp 15)) rfl ?_;refine wsb rfl 60 (.tmp 4) (.tmp 15) rfl (cs':=flV sc 0 0 0) hC1.out.b2 aggFl rfl rfl rfl rfl ?_;intro w1 hz1 hg1);exact bpa rfl hz1 aggFl rfl rfl (FwPost.mk hfin.out.symm (fun h=>⟨rfl,rfl,rfl⟩) (hC1.out.fin hg1))
 subst hs0;replace hW1:=Hd hW1;cases sb with
 |false=>
  have hfin:=Hd (e2.out (by trivial) (by trivial));go_wp2_with (first
   |(go_at_call 34;refine k2'.out.mono ?_;rintro e W2 ⟨rfl,hW2⟩;have hC2:=Hd (hC1.out.stay hW2);clear hW2)
   |(refine at_op (.store 60 (.tmp 4) (.tmp 19)) rfl ?_;refine wsb rfl 60 (.tmp 4) (.tmp 19) rfl (cs':=flV 50 0 0 0) hC2.out.b2 aggFl rfl rfl rfl rfl ?_;intro w1 hz1 hg1))
  exact bpa rfl hz1 aggFl rfl rfl (FwPost.mk hfin.out.symm (fun h=>⟨rfl,rfl,rfl⟩) (hC2.out.fin hg1))
 |true=>
 go_upto_region 6 with(go_at_call 34;refine k2'.out.mono ?_;rintro e W2 ⟨rfl,hW2⟩;have hX2:=hW1.out.trans (hW2.mono hW1.out.size);clear hW2)
 clear x0 y0 y1 y2 y3 y4 y5 y6;have hC2:=cells.out W2 hX2;obtain⟨y0,y1,y2,y3,y4,y5,y6⟩:=qbc hC2.sq.b1;have x0:=hC2.sq.b0.cell 0;simp only[zY]at x0 y0 y3 y6;have k3':=Hd (k3.out W2 hX2);clear hC2;replace hX2:=Hd hX2;go_upto_region 7 with(go_at_call 35;refine k3'.out.mono ?_;rintro e W3 ⟨p3,i3,s3,rfl,hz3,hW3⟩;have hX3:=hX2.out.trans (hW3.mono hX2.out.size);clear hW3)
 clear x0 y0 y1 y2 y3 y4 y5 y6;have hX4:Bw W0 (W3.alloc (.cells ⟨[.int .i64 ic,.int .i64 p3,.int .i64 i3,.int .i64 s3]⟩ 60)):=hX3.alloc hX3.size _;have hC3:=cells.out _ hX4;obtain⟨y0,y1,y2,y3,y4,y5,y6⟩:=qbc hC3.sq.b1;have x0:=hC3.sq.b0.cell 0;simp only[zY]at x0 y0 y3 y6;replace hC3:=Hd hC3;replace hz3:=Hd hz3;by_cases hi0:ic=0
 case neg=>
  have hfin:=Hd (e3.out (by trivial) (by trivial) hi0);have f1:=beqF hi0;have f2:=bneT hi0;have hc1:=Hd hi0;replace hX3:=Hd hX3;replace hX4:=Hd hX4;clear hi0 x0 y0 y1 y2 y3 y4 y5 y6;go_wp2_with (refine at_op (.store 60 (.tmp 4) (.tmp 26)) rfl ?_;refine wsb rfl 60 (.tmp 4) (.tmp 26) rfl (cs':=flV ic p3 i3 s3) hC3.out.b2 aggFl rfl rfl rfl rfl ?_;intro w1 hz1 hg1);exact bpa rfl hz1 aggFl rfl rfl (FwPost.mk hfin.out.symm (fun h=>absurd (hfin.out.symm.trans h) hc1.out) (hC3.out.fin hg1))
 subst hi0;obtain⟨W4,hW4⟩:∃W,W=(W3.alloc (.cells ⟨[.int .i64 0,.int .i64 p3,.int .i64 i3,.int .i64 s3]⟩ 60)):=⟨_,rfl⟩
 rw[←hW4]at hX4 hC3;have k4':=k4.out W4 hX4;rw[hW4]at k4';have hsz4:(W3.alloc (.cells ⟨[.int .i64 0,.int .i64 p3,.int .i64 i3,.int .i64 s3]⟩ 60)).heap.size=W3.heap.size+1:=by simp
 try unfold Bw at k4'
 rw[hsz4]at k4';rw[hW4]at hX4;replace k4':=Hd k4';replace hX3:=Hd hX3;replace hX4:=Hd hX4;replace hW4:=Hd hW4;clear hsz4 hC3;go_upto_region 10 with(go_at_call 36;refine k4'.out.mono ?_;rintro e W5 ⟨rfl,hm5,hW5⟩)
 have hX5:Bw W0 W5:=hX4.out.trans (hW5.mono (by have:=hX3.out.size;omega));have hA5:=kA.out W5 _ hX5 hm5;have hX6:Bw W0 (W5.alloc (.cells ⟨[.map (some (W3.heap.size+1+1))]⟩ 97)):=hX5.alloc hX5.size _;have k5':=k5.out (by trivial) _ _ _ hX6 hA5;clear x0 y0 y1 y2 y3 y4 y5 y6;have hC5:=cells.out _ hX6;obtain⟨y0,y1,y2,y3,y4,y5,y6⟩:=qbc hC5.sq.b1;have x0:=hC5.sq.b0.cell 0;simp only[zY]at x0 y0 y3 y6;replace hC5:=Hd hC5;replace k5':=Hd k5';replace hA5:=Hd hA5;replace hX6:=Hd hX6;replace hX5:=Hd hX5;replace hW5:=Hd hW5;replace hm5:=Hd hm5;go_upto_region 12 with(go_at_call 39;refine k5'.out.mono ?_;rintro e W6 ⟨p6,i6,s6,rfl,hz6,hW6⟩)
 have hA6:=hA5.out.stay (hW6.trans ((bX (.cells ⟨[.int .i64 wc0,.int .i64 p6,.int .i64 i6,.int .i64 s6]⟩ 60)).mono hW6.size));have hX7:Bw W0 (W6.alloc (.cells ⟨[.int .i64 wc0,.int .i64 p6,.int .i64 i6,.int .i64 s6]⟩ 60)):=(hX6.out.trans (hW6.mono hX6.out.size)).alloc (by have h1:=hX6.out.size;have h2:=hW6.size;omega) _;clear x0 y0 y1 y2 y3 y4 y5 y6;have hC6:=cells.out _ hX7;obtain⟨y0,y1,y2,y3,y4,y5,y6⟩:=qbc hC6.sq.b1;have x0:=hC6.sq.b0.cell 0;simp only[zY]at x0 y0 y3 y6;replace hC6:=Hd hC6;replace hz6:=Hd hz6;by_cases hi0:wc0=0
 case neg=>
  have hfin:=Hd (e4.out (by trivial) (by trivial) (by trivial) hi0);have f1:=beqF hi0;have f2:=bneT hi0;have hc1:=Hd hi0;replace hX7:=Hd hX7;replace hA6:=Hd hA6;replace hW6:=Hd hW6;clear hi0 x0 y0 y1 y2 y3 y4 y5 y6;go_wp2_with (refine at_op (.store 60 (.tmp 4) (.tmp 36)) rfl ?_;refine wsb rfl 60 (.tmp 4) (.tmp 36) rfl (cs':=flV wc0 p6 i6 s6) hC6.out.b2 aggFl rfl rfl rfl rfl ?_;intro w1 hz1 hg1);exact bpa rfl hz1 aggFl rfl rfl (FwPost.mk hfin.out.symm (fun h=>absurd (hfin.out.symm.trans h) hc1.out) (hC6.out.fin hg1))
 subst hi0;have k6':=Hd (k6.out _ hX7);have k7':=Hd (fun W (hW:Below (W6.alloc (.cells ⟨[.int .i64 0,.int .i64 p6,.int .i64 i6,.int .i64 s6]⟩ 60)).heap.size (W6.alloc (.cells ⟨[.int .i64 0,.int .i64 p6,.int .i64 i6,.int .i64 s6]⟩ 60)) W)=>k7.out (by trivial) _ _ W (hA6.stay hW));have cellsW:∀W,Below (W6.alloc (.cells ⟨[.int .i64 0,.int .i64 p6,.int .i64 i6,.int .i64 s6]⟩ 60)).heap.size (W6.alloc (.cells ⟨[.int .i64 0,.int .i64 p6,.int .i64 i6,.int .i64 s6]⟩ 60)) W→CB l A c q ⟨A1,c1,A2,c2,A3,c3⟩ w W:=fun W hW=>cells.out W (hX7.trans (hW.mono hX7.size))
 replace cellsW:=Hd cellsW;replace hX7:=Hd hX7;replace hA6:=Hd hA6;replace hW6:=Hd hW6;by_cases hwn:1099511627776<q.within
 ·have hfin:=Hd (e5.out (by trivial) (by trivial) (by trivial) (by trivial) hwn);go_wp2_with (refine at_op (.store 60 (.tmp 4) (.tmp 40)) rfl ?_;refine wsb rfl 60 (.tmp 4) (.tmp 40) rfl (cs':=flV 66 2 0 0) hC6.out.b2 aggFl rfl rfl rfl rfl ?_;intro w1 hz1 hg1);exact bpa rfl hz1 aggFl rfl rfl (FwPost.mk hfin.out.symm (fun h=>by have:=hfin.out;omega) (hC6.out.fin hg1))
 by_cases hbe:q.by_=emp
 ·have f5:(q.by_.toList==([]:List UInt8))=true:=by rw[emp_eq];exact zW hbe
  have f5n:(q.by_.toList != ([]:List UInt8))=false:=by rw[bne,f5];rfl
  have hfin:=Hd (e7.out (by trivial) (by trivial) (by trivial) (by trivial) (by omega) (.inl hbe));have k8:=Hd (k7'.out _ bR);replace hbe:=Hd hbe;go_wp2_with (first
   |(go_at_call 41;refine k8.out.mono ?_;rintro e W8 ⟨p8,i8,s8,rfl,hz8,hW8⟩;have hC8:=Hd (hC6.out.stay hW8);replace hz8:=Hd hz8;replace hW8:=Hd hW8)
   |(refine at_op (.store 60 (.tmp 4) (.tmp 53)) rfl ?_;refine wsb rfl 60 (.tmp 4) (.tmp 53) rfl (cs':=flV rc p8 i8 s8) hC8.out.b2 aggFl rfl rfl rfl rfl ?_;intro w1 hz1 hg1))
  exact bpa rfl hz1 aggFl rfl rfl (FwPost.mk hfin.out.symm (fun h=>hz8.out (hfin.out.symm.trans h)) (hC8.out.fin hg1))
 have f5:(q.by_.toList==([]:List UInt8))=false:=by rw[emp_eq];exact zV hbe
 have f5n:(q.by_.toList != ([]:List UInt8))=true:=by rw[bne,f5];rfl
 cases pb with
 |false=>
  have hfin:=Hd (e6.out (by trivial) (by trivial) (by trivial) (by trivial) (by omega) hbe (by trivial));replace hbe:=Hd hbe;go_wp2_with (first
   |(go_at_call 40;refine k6'.out.mono ?_;rintro e W8 ⟨rfl,hW8⟩;have hC8:=Hd (hC6.out.stay hW8);replace hW8:=Hd hW8)
   |(refine at_op (.store 60 (.tmp 4) (.tmp 50)) rfl ?_;refine wsb rfl 60 (.tmp 4) (.tmp 50) rfl (cs':=flV 67 3 0 0) hC8.out.b2 aggFl rfl rfl rfl rfl ?_;intro w1 hz1 hg1))
  exact bpa rfl hz1 aggFl rfl rfl (FwPost.mk hfin.out.symm (fun h=>by have:=hfin.out;omega) (hC8.out.fin hg1))
 |true=>
  have hfin:=Hd (e7.out (by trivial) (by trivial) (by trivial) (by trivial) (by omega) (.inr (by trivial)));replace hbe:=Hd hbe;go_wp2_with (first
   |(go_at_call 40;refine k6'.out.mono ?_;rintro e W7 ⟨rfl,hW7⟩;have k8:=Hd (k7'.out _ hW7);have hC7:=cellsW.out _ hW7;obtain⟨u0,u1,u2,u3,u4,u5,u6⟩:=qbc hC7.sq.b1;simp only at u0 u3 u6;replace hC7:=Hd hC7;replace hW7:=Hd hW7)
   |(go_at_call 41;refine k8.out.mono ?_;rintro e W8 ⟨p8,i8,s8,rfl,hz8,hW8⟩;have hC8:=Hd (hC7.out.stay hW8);replace hz8:=Hd hz8;replace hW8:=Hd hW8)
   |(refine at_op (.store 60 (.tmp 4) (.tmp 53)) rfl ?_;refine wsb rfl 60 (.tmp 4) (.tmp 53) rfl (cs':=flV rc p8 i8 s8) hC8.out.b2 aggFl rfl rfl rfl rfl ?_;intro w1 hz1 hg1))
  exact bpa rfl hz1 aggFl rfl rfl (FwPost.mk hfin.out.symm (fun h=>hz8.out (hfin.out.symm.trans h)) (hC8.out.fin hg1))
end ckW
section
variable {P:Program}{w:World}
theorem run_appB {B t ty e size bytes n m c:Nat}{F:Nat→Prop}{v:Value}{ds news:List D}{A:Option Addr}(T:ElT P t e size bytes)(hown:OL w B F e size v n ds)
  (hsrc:Src w A news (fun b=>F b∧some b≠v.ownBlock))(hl:news.length=m*size)(h63:n+m≤maxLen)(hbytes:(n+m)*bytes≤140737488355328)(hB:B≤w.heap.size):
  ∃v' w',(Builtin.append_ #[t,t] ty #[v,.slice A m c]).run P w=.ok v' w'∧OL w' B F e size v' (n+m) (ds++news)∧w.grownBy w' v.ownBlock∧(v'.ownBlock=v.ownBlock∨v'.ownBlock=some w.heap.size):=by
 obtain⟨ht,⟨i,z,hi,hz,hsize,hby,hzs⟩,hp⟩:=T;obtain⟨cells,h1,h2,h3⟩:=hown;by_cases hne:news=[]
 ·subst hne;have hm:m=0:=by
   rcases Nat.eq_zero_or_pos m with h |h
   ·exact h
   ·have:=Nat.mul_pos h hp;simp at hl;omega
  subst hm;rcases A with _ |ad
  ·exact⟨v,w,run_append_of_nil B t ty e i size ht hi v n cells h1 c,⟨cells,by simpa using h1,by simpa using h2,by simpa using h3⟩,World.grownBy.refl w _,.inl rfl⟩
  ·obtain⟨v',w',hr,a1,a2,_,a4⟩:=run_append_own_at (P:=P) w B t ty e i z size bytes ht hi hz hsize hby hzs hp v n cells h1 ad 0 c [] (by simp) (fun j u h=>by simp at h) (fun u h=>by simp at h) h63 hbytes hB;refine⟨v',w',hr,⟨cells,by simpa using a1,by simpa using h2,fun k d hd=>?_⟩,a2,a4⟩;simp at hd;obtain⟨u,hu,hx⟩:=h3 k d hd;exact⟨u,hu,hx.regrow a2 a4⟩
 ·obtain⟨b,off,rfl,hc⟩:=hsrc hne;have hex:∀k,k<news.length→∃u,w.cell? ⟨b,off+k,none⟩=some u∧∀d,news[k]? =some d→Rd w (fun b=>F b∧some b≠v.ownBlock) u d:=fun k hk=>by
   obtain⟨u,h4,h5⟩:=hc k news[k] (zI hk);refine⟨u,h4,fun d hd=>?_⟩;rw[zI hk]at hd;injection hd with hd
   subst hd;exact h5
  obtain⟨g,hg⟩:=choose_lt hex;have hget:∀(k:Nat)(u:Value),((List.range news.length).map g)[k]? =some u→k<news.length∧u=g k:=fun k u h=>by
   rw[zG]at h;rcases Nat.lt_or_ge k news.length with hk |hk
   ·rw[List.getElem?_range hk]at h;simp at h;exact⟨hk,h.symm⟩
   ·rw[xO (by simpa using hk)]at h;simp at h
  obtain⟨v',w',hr,a1,a2,_,a4⟩:=run_append_own_at (P:=P) w B t ty e i z size bytes ht hi hz hsize hby hzs hp v n cells h1 ⟨b,off,none⟩ m c ((List.range news.length).map g) (by simpa using hl)
   (fun j u h=>by
    obtain⟨hk,rfl⟩:=hget j u h;rw[addr_add];exact(hg j hk).1)
   (fun u h=>by
    obtain⟨j,hj⟩:=zN h;obtain⟨hk,rfl⟩:=hget j u hj;exact((hg j hk).2 _ (zI hk)).one)
   h63 hbytes hB
  refine⟨v',w',hr,⟨_,a1,by simp[h2],fun k d hd=>?_⟩,a2,a4⟩;rcases Nat.lt_or_ge k ds.length with hk |hk
  ·rw[zS hk]at hd;obtain⟨u,hu,hx⟩:=h3 k d hd;exact⟨u,by rw[zS (by omega)];exact hu,hx.regrow a2 a4⟩
  ·rw[zP hk]at hd;have hk':=(zC.1 hd).1;refine⟨g (k-ds.length),?_,((hg _ hk').2 d hd).regrow a2 a4⟩;rw[zP (by omega),←h2,zG,List.getElem?_range hk'];rfl
theorem wp_appB {o:Oper}{a:Act}{K:Act→World→Prop}{Q:Exit→Act→World→Prop}(s x:Operand)(t:TypeId)
  (ho:o.op=.call {callee:=.builtin .append,args:=#[s,x],argTypes:=#[t,t]})
  {B e size bytes n m c:Nat}{F:Nat→Prop}{v:Value}{ds news:List D}{A:Option Addr}(T:ElT P t e size bytes)(hown:OL w B F e size v n ds)(hs:a.eval s=v)(hx:a.eval x=.slice A m c)
  (hsrc:Src w A news (fun b=>F b∧some b≠v.ownBlock))(hl:news.length=m*size)(h63:n+m≤maxLen)(hbytes:(n+m)*bytes≤140737488355328)(hB:B≤w.heap.size)
  (h:∀v' w',OL w' B F e size v' (n+m) (ds++news)→w.grownBy w' v.ownBlock→(v'.ownBlock=v.ownBlock∨v'.ownBlock=some w.heap.size)→K (a.put o.dst v') w'):o.wp P a w K Q:=by
 obtain⟨v',w',hrun,h2,h3,h4⟩:=run_appB (P:=P) (ty:=o.type) T hown hsrc hl h63 hbytes hB (c:=c);unfold Oper.wp execOp;simp only[ho,resolve,invoke,builtin,Sem.run_bind,Sem.run_pure,Result.andThen_ok,List.map_toArray,List.map_cons,List.map_nil,hs,hx,hrun];exact h v' w' h2 h3 h4
theorem wpB {ops:Array Oper}{rest:List Oper}{o:Oper}{a:Act}{Q:Exit→Act→World→Prop}(hgd:o.guard=none)(s x:Operand)(t:TypeId)
  (ho:o.op=.call {callee:=.builtin .append,args:=#[s,x],argTypes:=#[t,t]})
  {B e size bytes n m c:Nat}{F:Nat→Prop}{v:Value}{ds news:List D}{A:Option Addr}(T:ElT P t e size bytes)(hown:OL w B F e size v n ds)(hs:a.eval s=v)(hx:a.eval x=.slice A m c)
  (hsrc:Src w A news (fun b=>F b∧some b≠v.ownBlock))(hl:news.length=m*size)(h63:n+m≤maxLen)(hbytes:(n+m)*bytes≤140737488355328)(hB:B≤w.heap.size)
  (h:∀v' w',OL w' B F e size v' (n+m) (ds++news)→w.grownBy w' v.ownBlock→(v'.ownBlock=v.ownBlock∨v'.ownBlock=some w.heap.size)→wpList P ops Q rest (a.put o.dst v') w'):wpList P ops Q (o::rest) a w:=
 wpList_plain hgd fun _ hK=>wp_appB s x t ho T hown hs hx hsrc hl h63 hbytes hB fun v' w' h2 h3 h4=>hK _ _ (h v' w' h2 h3 h4)
end
def fgV (f:Fg):List Value:=[.int .i64 f.rule,.int .i64 f.rank,.int .i64 f.code,.int .i64 f.part,.int .i64 f.idx,.int .i64 f.sub]
def fgD (f:Fg):List D:=[.v (.int .i64 f.rule),.v (.int .i64 f.rank),.v (.int .i64 f.code),.v (.int .i64 f.part),.v (.int .i64 f.idx),.v (.int .i64 f.sub)]
theorem elFg:ElT Tryz.prog 116 119 6 48:=.of Tryz.underlying116 (by kernel_rfl) (by omega)
theorem aggFg:AggT Tryz.prog 119 6:=⟨_,Tryz.underlying119,rfl,by kernel_rfl⟩
theorem rdlFg {w:World}{G:Nat→Prop}(f:Fg):RdL w G (fgV f) (fgD f):=⟨.v _ rfl,.v _ rfl,.v _ rfl,.v _ rfl,.v _ rfl,.v _ rfl,trivial⟩
def BigF:Nat:=2932031007402
theorem big63 {n:Nat}(h:n+1≤BigF):n+1≤maxLen:=by unfold BigF at h;unfold maxLen;omega
theorem bigBy {n:Nat}(h:n+1≤BigF):(n+1)*48≤140737488355328:=by unfold BigF at h;omega
structure FO (l:List Td)(A:Option Addr)(c:Nat)(q:Qy)(s:Sl3)(w wr:World)(v:Value)(L:List Fg):Prop where
 sq:SQ l A c q s w wr
 ol:OL wr w.heap.size NoF 119 6 v L.length (L.flatMap fgD)
section
variable {l:List Td}{A:Option Addr}{c:Nat}{q:Qy}{s:Sl3}{w wr W w1:World}{v v':Value}{L:List Fg}
theorem FO.stay (h:FO l A c q s w wr v L)(hb:Bw wr W):FO l A c q s w W v L:=⟨h.sq.stay hb,h.ol.stay hb⟩
theorem FO.new (l:List Td)(A:Option Addr)(c:Nat)(q:Qy)(s:Sl3)(w:World):FO l A c q s w ((w.alloc (.cells ⟨[.slice A l.length c]⟩ 24)).alloc (.cells ⟨qV q s⟩ 32)) (.slice none 0 0) []:=⟨SQ.new l A c q s w,OL.nil _ _ _ _ _⟩
theorem FO.hb (h:FO l A c q s w wr v L):Bw w wr:=h.sq.hb
theorem FO.app {o:Obj}{f:Fg}(h:FO l A c q s w wr v L)(hg:(wr.alloc o).grownBy w1 v.ownBlock)(hO:OL w1 w.heap.size NoF 119 6 v' (L.length+1) (L.flatMap fgD++fgD f)):FO l A c q s w w1 v' (L++[f]):=by
 have hs:=h.hb.size;refine⟨⟨(h.hb.alloc hs o).grown hg (by simp;omega) (fun q hq=>(h.ol.lt q hq).1),(h.sq.b0.alloc o).grown hg (fun e=>h.ol.neBlk h.sq.b0 (by decide) e.symm),(h.sq.b1.alloc o).grown hg (fun e=>h.ol.neBlk h.sq.b1 (by decide) e.symm)⟩,?_⟩;rw[zH,xD];simpa using hO
theorem FO.keep {g t:Nat}{cs:List Value}{o:Obj}(h:FO l A c q s w wr v L)(hb:Blk wr g t cs)(ht:119≠t)(hg:(wr.alloc o).grownBy w1 v.ownBlock):Blk w1 g t cs:=(hb.alloc o).grown hg (fun e=>h.ol.neBlk hb ht e.symm)
end
def FgPost (L:List Fg)(w:World)(e:Ending)(w':World):Prop:=∃v,e=.returned v∧OL w' w.heap.size NoF 119 6 v L.length (L.flatMap fgD)∧Bw w w'
theorem FgPost.mk {L L':List Fg}{w w':World}{v:Value}(hL:L'=L)(h:OL w' w.heap.size NoF 119 6 v L'.length (L'.flatMap fgD))(hb:Bw w w'):FgPost L w (.returned v) w':=hL▸⟨v,rfl,h,hb⟩
namespace ckW
open nmW
theorem found_k (f:Fg)(w:World):Calls Tryz.prog 102 #[.int .i64 f.rule,.int .i64 f.rank,.int .i64 f.code,.int .i64 f.part,.int .i64 f.idx,.int .i64 f.sub] w fun e w'=>e=.returned (.agg ⟨fgV f⟩)∧Bw w w':=by
 have hb:Bw w (w.alloc (.cells ⟨fgV ⟨0,0,0,0,0,0⟩⟩ 119)):=bA;have hB:Blk (w.alloc (.cells ⟨fgV ⟨0,0,0,0,0,0⟩⟩ 119)) w.heap.size 119 (fgV ⟨0,0,0,0,0,0⟩):=Blk.new _ _ _;simp only[fgV]at hb hB ⊢;replace hb:=Hd hb;replace hB:=Hd hB;go_enter Tryz.func102,Tryz.ntmps102;go_wp2_with (refine at_op (.store 119 (.tmp 12) (.tmp 20)) rfl ?_;refine wsb rfl 119 (.tmp 12) (.tmp 20) rfl (cs':=fgV f) hB.out aggFg rfl rfl rfl rfl ?_;intro w1 hz1 hg1);exact bpa rfl hz1 aggFg rfl rfl ⟨rfl,hb.out.grown hg1 hb.out.size (fun q hq=>by injection hq with hq;omega)⟩
theorem ahead_k (a b:Fg)(w:World):Calls Tryz.prog 55 #[.agg ⟨fgV a⟩,.agg ⟨fgV b⟩] w fun e w'=>e=.returned (.bool (decide (Klt a b)))∧Bw w w':=by
 have hb:Bw w ((w.alloc (.cells ⟨fgV a⟩ 119)).alloc (.cells ⟨fgV b⟩ 119)):=(bA).alloc (by simp) _;obtain⟨r,hr⟩:∃r,r=decide (Klt a b):=⟨_,rfl⟩
 rw[←hr];obtain⟨a1,a2,a3,a4,a5,a6⟩:=a;obtain⟨b1,b2,b3,b4,b5,b6⟩:=b;have hr':r=if a1≠b1 then decide (a1<b1)else if a5≠b5 then decide (a5<b5)else if a6≠b6 then decide (a6<b6)else decide (a2<b2):=by
  rw[hr,Bool.eq_iff_iff,decide_eq_true_iff];unfold Klt;simp only;by_cases h1:a1≠b1
  ·rw[if_pos h1,if_pos h1,decide_eq_true_iff]
  ·rw[if_neg h1,if_neg h1];by_cases h2:a5≠b5
   ·rw[if_pos h2,if_pos h2,decide_eq_true_iff]
   ·rw[if_neg h2,if_neg h2];by_cases h3:a6≠b6
    ·rw[if_pos h3,if_pos h3,decide_eq_true_iff]
    ·rw[if_neg h3,if_neg h3,decide_eq_true_iff]
 clear hr;simp only[fgV]at hb ⊢;replace hb:=Hd hb;by_cases h1:a1=b1
 case neg=>
  rw[if_pos h1]at hr';have f1:=beqF h1;have f2:=bneT h1;replace h1:=Hd h1;replace hr':=Hd hr';go_enter Tryz.func55,Tryz.ntmps55;go_wp2;go_ret;exact⟨rtB hr'.out.symm,hb.out⟩
 rw[if_neg (fun h=>h h1)]at hr';subst h1;by_cases h1:a5=b5
 case neg=>
  rw[if_pos h1]at hr';have f1:=beqF h1;have f2:=bneT h1;replace h1:=Hd h1;replace hr':=Hd hr';go_enter Tryz.func55,Tryz.ntmps55;go_wp2;go_ret;exact⟨rtB hr'.out.symm,hb.out⟩
 rw[if_neg (fun h=>h h1)]at hr';subst h1;by_cases h1:a6=b6
 case neg=>
  rw[if_pos h1]at hr';have f1:=beqF h1;have f2:=bneT h1;replace h1:=Hd h1;replace hr':=Hd hr';go_enter Tryz.func55,Tryz.ntmps55;go_wp2;go_ret;exact⟨rtB hr'.out.symm,hb.out⟩
 rw[if_neg (fun h=>h h1)]at hr';subst h1;replace hr':=Hd hr';go_enter Tryz.func55,Tryz.ntmps55;go_wp2;go_ret;exact⟨rtB hr'.out.symm,hb.out⟩
end ckW
end Go.Proofs.YtfiodnlgiglhfaaGreatDoor
