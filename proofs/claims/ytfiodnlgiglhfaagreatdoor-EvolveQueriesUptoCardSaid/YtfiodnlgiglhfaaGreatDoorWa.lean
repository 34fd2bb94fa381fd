/- What each kind of change does to the design. -/
import Derived.Test.YtfiodnlgiglhfaaGreatDoorW7
import Derived.Laws.Externs
namespace Go.Proofs.YtfiodnlgiglhfaaGreatDoor
set_option maxRecDepth 100000
set_option maxHeartbeats 16000000
open Go.RowKit Go.Deep
set_option linter.unusedVariables false
theorem kc_rd (w:World)(G:Nat→Prop)(nm:ByteArray)(fr:Int)(fs:List Fd)(A:Option Addr)(n c:Nat):RdL w G [.string nm,.int .i64 fr,.slice A n c] (kcD (⟨nm,fr,fs⟩,.slice A n c)):=⟨.v _ rfl,.v _ rfl,.v _ rfl,trivial⟩
theorem DX.addK_ {w W1:World}{B g:Nat}{nl:List Ls}{vk vl vk' u:Value}{by_:Int}{l:List (Kd×Value)}{k:Kd}(h:DX w B g vk vl by_ nl l)(hg:w.grownBy W1 vk.ownBlock)(hv:OL W1 B NoB 90 3 vk' (l.length+1) (l.flatMap kcD++kcD (k,u)))
  (hu:OL w B NoB 92 3 u k.fs.length (k.fs.flatMap fdD))(hne:∀p∈l,u.ownBlock=none∨u.ownBlock≠p.2.ownBlock):DX (W1.setCell ⟨g,0,none⟩ vk') B g vk' vl by_ nl (l++[(k,u)]):=by
 refine h.putK hg (by simpa using hv) (fun p hp=>?_) ?_
 ·rcases zM.1 hp with hp |hp
  ·exact .inl hp
  ·simp at hp;subst hp;exact .inr (hu.kept hg (hu.ne h.kr (by decide)) (fun _ hb=>hb.elim))
 ·intro a b x y hx hy hab;have get:∀{a:Nat} {x},(l++[(k,u)])[a]? =some x→(a<l.length∧l[a]? =some x)∨(a=l.length∧x=(k,u)):=fun {a x} hx=>by
   by_cases ha:a<l.length
   ·rw[zS ha]at hx;exact .inl ⟨ha,hx⟩
   ·rw[zP (by omega)]at hx;have:=(zC.1 hx).1;simp at this;have e:a-l.length=0:=by omega
    rw[e]at hx;exact .inr ⟨by omega,by simpa using hx.symm⟩
  rcases get hx with⟨h1,h2⟩|⟨h1,rfl⟩
  ·rcases get hy with⟨h3,h4⟩|⟨h3,rfl⟩
   ·exact h.ne a b x y h2 h4 hab
   ·exact ne_sym (hne x (zA h2))
  ·rcases get hy with⟨h3,h4⟩|⟨h3,rfl⟩
   ·exact hne y (zA h4)
   ·omega
namespace evW
open nmW
theorem addType_k {w:World}{B g:Nat}{nl:List Ls}{vk vl:Value}{by_:Int}{l:List (Kd×Value)}(h:DX w B g vk vl by_ nl l)(hm:SmK (l.map (·.1)))(c:Cg)(hc:c.kd=1)(hc2:c.ats.length≤1048576)(A:Option Addr)(d:Nat)(G:Nat→Prop)(hG:∀b,G b→b<w.heap.size)(rc:Rd w G (.slice A c.ats.length d) (.sl c.ats.length (c.ats.flatMap strD))):
  Calls Tryz.prog 62 #[.pointer (some ⟨g,0,none⟩),.agg #[.int .i64 c.kd,.string c.ty,.string c.at_,.string c.nm,.slice A c.ats.length d,.int .i64 c.n]] w (DPost (l.map (·.1)) c B g nl w):=by
 have hll:l.length≤16:=by have:=hm.len;simpa using this
 have hg:=h.bx.lt;have hBg:B≤w.heap.size:=zU h.gB (Nat.le_of_lt hg);have hch:=chK_1 (l:=l.map (·.1)) hc;have hmp:∀u:Value,(l++[(addK c,u)]).map (·.1)=l.map (·.1)++[addK c]:=fun u=>by simp
 obtain⟨W0,hW0⟩:∃W0,W0=w.alloc (.cells ⟨cgC c A d⟩ 51):=⟨_,rfl⟩
 have hs0:W0.heap.size=w.heap.size+1:=by rw[hW0];simp
 have h0:Bw w W0:=by rw[hW0];exact bA
 have hst:IB W0 ((w.alloc (.cells ⟨cgC c A d⟩ 51)).alloc (.cells ⟨[.string c.ty,.int .i64 (-1),.slice none 0 0]⟩ 90)) 90 c.ty (-1) (.slice none 0 0) 92 0 []:=by
  rw[←hW0];exact⟨bA,Blk.new _ _ _,.nil _ _ _ _ _⟩
 have kd:=fun W (hW:Bw w W)=>h.stay hW
 replace hs0:=Hd hs0;replace h0:=Hd h0;replace hst:=Hd hst;replace hch:=Hd hch;replace hmp:=Hd hmp;replace kd:=Hd kd;replace rc:=Hd rc;replace hG:=Hd hG;clear h hm hc hW0;go_enter Tryz.func62,Tryz.ntmps62;go_wp2;go_loopw [7,14] (fun _ y wr=>∃(k:Nat)(u:Value),k≤c.ats.length∧y=.int .i64 k∧IB W0 wr 90 c.ty (-1) u 92 k (((c.ats.map fun a=>(⟨a,-1,0⟩:Fd)).take k).flatMap fdD)) (fun _ y _=>c.ats.length- (intOf y).toNat)
 case atStart=>exact⟨0,.slice none 0 0,zE _,rfl,hst.out⟩
 case round=>
  obtain⟨k,u,hk,rfl,hI⟩:=hrel;have hBw:Bw w wr:=h0.out.trans (hI.hb.mono h0.out.size);have i2:wr.cell? ⟨w.heap.size+1,2,none⟩=some u:=by rw[←hs0.out];exact hI.bx.cell 2
  have hz:w.heap.size+1<wr.heap.size:=by rw[←hs0.out];exact hI.bx.lt
  by_cases hlk:k<c.ats.length
  ·obtain⟨a,ha⟩:=getx hlk;obtain⟨b2,off2,rfl,hFb2,ha2⟩:=(rc.out.under hBw hG.out).at_ ha;have q0:wr.cell? ⟨b2,off2+k,none⟩=some (.string a):=ha2;have g2:(0:Int)≤(k:Int):=by omega
   have g3:(k:Int)<c.ats.length:=by omega
   have hfk:=ad_next ha;have f2:wr.frozen? ⟨w.heap.size+1,2,none⟩=false:=by rw[←hs0.out];exact hI.bx.frozen 2
   have hup:∀(w1:World)(v':Value),(wr.alloc (.cells ⟨fdV ⟨a,-1,0⟩⟩ 92)).grownBy w1 u.ownBlock→OL w1 (W0.heap.size+1) NoB 92 3 v' (k+1) (((c.ats.map fun a=>(⟨a,-1,0⟩:Fd)).take k).flatMap fdD++fdD ⟨a,-1,0⟩)→w1.cell? ⟨w.heap.size+1,2,none⟩=some u∧w1.frozen? ⟨w.heap.size+1,2,none⟩=false∧
     IB W0 (w1.setCell ⟨w.heap.size+1,2,none⟩ v') 90 c.ty (-1) v' 92 (k+1) (((c.ats.map fun a=>(⟨a,-1,0⟩:Fd)).take (k+1)).flatMap fdD):=fun w1 v' hg hO=>by
    have hB:=hI.stay (bX (.cells ⟨fdV ⟨a,-1,0⟩⟩ 92));have t0:=hB.bx.grown hg (fun e=>by have:=(hI.ol.lt _ e.symm).1;omega);have:=hB.put hg (fun q hq=>(hI.ol.lt q hq).1) hO;rw[←hs0.out,hfk];exact⟨t0.cell 2,t0.frozen 2,this⟩
   have hol:=Hd hI.ol;replace hup:=Hd hup;have hs1:W0.heap.size+1≤wr.heap.size:=hI.bx.lt;clear ha2 ha hI hfk hBw;go_wp2_with (at_builtin;refine wpa rfl (.tmp 19) (.tmp 22) _ rfl (m:=1) (news:=fdD ⟨a,-1,0⟩) elField (hol.out.alloc (.cells ⟨fdV ⟨a,-1,0⟩⟩ 92)) rfl rfl (Src.lit (fdD_rd wr _ ⟨a,-1,0⟩)) rfl (by omega) (by omega) (by simp;omega) ?_;intro v' w1 hO1 hg1 ha1;obtain⟨B3,d3,rfl⟩:=hO1.form;obtain⟨t1,t2,t3⟩:=hup.out _ _ hg1 hO1;replace t3:=Hd t3);go_roundw
   case rel=>exact⟨k+1,_,by omega,by go_num,t3.out⟩
   case measure=>simp[intOf];omega
  ·have hkn:k=c.ats.length:=by omega
   subst hkn;have htk:(c.ats.map fun a=>(⟨a,-1,0⟩:Fd)).take c.ats.length=c.ats.map fun a=>(⟨a,-1,0⟩:Fd):=xH (by simp)
   rw[htk]at hI;obtain⟨U,cu,rfl⟩:=hI.ol.form;have i0:wr.cell? ⟨w.heap.size+1,0,none⟩=some (.string c.ty):=by rw[←hs0.out];exact hI.bx.cell 0
   have i1:wr.cell? ⟨w.heap.size+1,1,none⟩=some (.int .i64 (-1)):=by rw[←hs0.out];exact hI.bx.cell 1
   have hD:=kd.out wr hBw;have q0:=hD.c0;have hsz2:g<wr.heap.size:=hD.bx.lt;obtain⟨A4,c4,rfl⟩:=hD.kr.form;have hW2:Bw w (wr.alloc (.cells ⟨[.string c.ty,.int .i64 (-1),.slice U c.ats.length cu]⟩ 90)):=hBw.alloc hBw.size _;have hD2:=kd.out _ hW2;have hfu:OL (wr.alloc (.cells ⟨[.string c.ty,.int .i64 (-1),.slice U c.ats.length cu]⟩ 90)) B NoB 92 3 (.slice U c.ats.length cu) (addK c).fs.length ((addK c).fs.flatMap fdD):=by
    have:=(hI.ol.base (B':=B) (by have:=hs0.out;omega)).alloc (.cells ⟨[.string c.ty,.int .i64 (-1),.slice U c.ats.length cu]⟩ 90);simpa[addK] using this
   have hap:∀p∈l,(Value.slice U c.ats.length cu).ownBlock=none∨(Value.slice U c.ats.length cu).ownBlock≠p.2.ownBlock:=fun p hp=>by
    cases hq:(Value.slice U c.ats.length cu).ownBlock with
    |none=>exact .inl rfl
    |some q=>
     refine .inr fun he=>?_
     have h1:=(hI.ol.lt q hq).1;have h2:=(((kd.out w bR).fr p hp).lt q he.symm).2;have:=hs0.out;omega
   have hkr:=Hd hD2.kr;have hov:=fun(w1:World)(hg:(wr.alloc (.cells ⟨[.string c.ty,.int .i64 (-1),.slice U c.ats.length cu]⟩ 90)).grownBy w1 (Value.slice A4 l.length c4).ownBlock)=>hD2.overK hg
   have hfi:=fun(w1:World)(v':Value)(hg:(wr.alloc (.cells ⟨[.string c.ty,.int .i64 (-1),.slice U c.ats.length cu]⟩ 90)).grownBy w1 (Value.slice A4 l.length c4).ownBlock) hv=>xW (hD2.addK_ (vk':=v') hg hv hfu hap) (hD2.belowK (x:=v') (hW2.mono hBg) hg)
   have hs1:B≤wr.heap.size:=zU hBg hBw.size;replace hov:=Hd hov;replace hfi:=Hd hfi;clear hI htk hD hD2 hfu hap hW2 hBw;go_upto_region 7 with fail
   go_region_law ((refine step_app (by rfl) (.tmp 30) (.tmp 32) _ (by rfl) (m:=1) (news:=kcD (addK c,.slice U c.ats.length cu)) elKind (by exact hkr.out.drew) (by rfl) (by rfl) (by exact(Src.lit (kc_rd wr _ c.ty (-1) _ U c.ats.length cu)).drew) rfl (by omega) (by omega) (by simp;omega) ?_;intro v' w1 hO1 hg1 ha1;obtain⟨B3,d3,rfl⟩:=hO1.form;have hg2:=undrew hg1;obtain⟨t0,t1⟩:=hov.out _ hg2))
   all_goals
    obtain⟨f1,f2⟩:=hfi.out _ _ hg2 hO1;replace f1:=Hd f1;replace f2:=Hd f2;go_wp2;go_ret;exact DPost.mk_some hch.out f1.out (hmp.out _) rfl f2.out
end evW
set_option linter.unusedSimpArgs false
theorem chF_5 {l:List Fd}{c:Cg}{k:Nat}(h:c.kd=5)(hf:flAt l c.at_=some k):chF l c=some (l.eraseIdx k):=by
 unfold chF;rw[if_neg (by omega),hf];exact if_pos h
section
variable {w:World}{B g:Nat}{nl:List Ls}{vk vl:Value}{by_:Int}{l:List (Kd×Value)}
theorem DX.overF {gk cap i:Nat}{p:Kd×Value}{W1:World}(h:DX w B g (.slice (some ⟨gk,0,none⟩) l.length cap) vl by_ nl l)(hp:l[i]? =some p)(hg:w.grownBy W1 p.2.ownBlock):
  W1.cell? ⟨g,0,none⟩=some (.slice (some ⟨gk,0,none⟩) l.length cap)∧W1.cell? ⟨gk,i*3+2,none⟩=some p.2∧W1.frozen? ⟨gk,i*3+2,none⟩=false:=by
 obtain⟨a1,_,_,a2,a3⟩:=h.at' hp;have hf:=h.fr p (zA hp);have n1:p.2.ownBlock≠some g:=hf.neBlk h.bx (by decide);have n2:p.2.ownBlock≠some gk:=hf.offRow h.kr (by decide);have hgk:=(h.kr.lt gk rfl).2;have hb1:W1.heap[gk]? =w.heap[gk]? :=hg.block gk hgk (fun e=>n2 e.symm);exact⟨hg.cell a1 (fun e=>n1 e.symm),(World.cell?_of_block (a:=⟨gk,i*3+2,none⟩) hb1).trans a2,(World.frozen?_of_block (a:=⟨gk,i*3+2,none⟩) hb1).trans (a3 _)⟩
theorem DX.belowF {gk cap i:Nat}{p:Kd×Value}{w0 W1:World}{x:Value}(h:DX w B g (.slice (some ⟨gk,0,none⟩) l.length cap) vl by_ nl l)(hp:l[i]? =some p)(hb:Below B w0 w)(hg:w.grownBy W1 p.2.ownBlock):Below B w0 (W1.setCell ⟨gk,i*3+2,none⟩ x):=
 (hb.grown hg (zU h.gB (Nat.le_of_lt h.bx.lt)) (fun q hq=>((h.fr p (zA hp)).lt q hq).1)).setCell (h.kr.lt gk rfl).1 _
end
namespace evW
open nmW
theorem dropAttr_k {w:World}{B g:Nat}{nl:List Ls}{vk vl:Value}{by_:Int}{l:List (Kd×Value)}(h:DX w B g vk vl by_ nl l)(hm:SmK (l.map (·.1)))(hnl:nl.length≤1048576)(c:Cg)(hc:c.kd=5)(A:Option Addr)(d:Nat):
  Calls Tryz.prog 66 #[.pointer (some ⟨g,0,none⟩),.agg #[.int .i64 c.kd,.string c.ty,.string c.at_,.string c.nm,.slice A c.ats.length d,.int .i64 c.n]] w (DPost (l.map (·.1)) c B g (nl++lsOf (l.map (·.1)) c by_) w):=by
 have h0:Bw w (w.alloc (.cells ⟨cgC c A d⟩ 51)):=bA;have hk1:=at_k (h.stay h0) hm c A d;have hg:=h.bx.lt;have hBg:B≤w.heap.size:=zU h.gB (Nat.le_of_lt hg);by_cases hok:AtOk (l.map (·.1)) c
 ·obtain⟨i,p,k,x,ht,hp,hp1,hf,hx⟩:=hok.pair;have hch:=chK_4 (by omega) (by omega) ht hp1 (chF_5 hc hf);have hls:=Hd (show nl++[⟨p.1.fr,x.fr,by_⟩]=nl++lsOf (l.map (·.1)) c by_ by rw[lsOf_5 hc ht hp1 hf hx]);have hpm:=zA hp;have hilt:i<l.length:=(zC.1 hp).1;have hklt:k<p.1.fs.length:=(zC.1 hx).1;have g0:(0:Int)≤(i:Int):=by omega
  have g1:(i:Int)<l.length:=by omega
  have g2:(0:Int)≤(k:Int):=by omega
  have g3:(k:Int)<p.1.fs.length:=by omega
  have hfl:p.1.fs.length≤8:=hm.fl p.1 (xJ hpm);have hwk:IntKind.i64.wrap ((k:Int)+1)=(k:Int)+1:=by rw[xI];omega
  obtain⟨gk,cap,rfl,h1,h2,_⟩:=h.at_ hp;obtain⟨gf,capf,hv,h3,h4,h5,h6⟩:=(h.fr p hpm).row (by omega);have hlr:=h.lr;obtain⟨A3,c3,rfl⟩:=hlr.form;have hk2:=fun(i2 k2:Int)(b:Bool)(hI:AtIs (l.map (·.1)) c i2 k2 b)=>hI.good ht hp1 hf
  obtain⟨u,hu,hru⟩:=h6 (k*3+1) _ (fmg (f:=fdD) (m:=3) (fun _=>rfl) hx rfl);rw[hru.v_inv]at hu;have kc:∀W,Bw w W→W.cell? ⟨g,0,none⟩=some (.slice (some ⟨gk,0,none⟩) l.length cap)∧W.cell? ⟨g,1,none⟩=some (.slice A3 nl.length c3)∧W.cell? ⟨g,2,none⟩=some (.int .i64 by_)∧W.cell? ⟨gk,i*3+1,none⟩=some (.int .i64 p.1.fr)∧W.cell? ⟨gk,i*3+2,none⟩=some (.slice (some ⟨gf,0,none⟩) p.1.fs.length capf)∧W.cell? ⟨gf,k*3+1,none⟩=some (.int .i64 x.fr):=fun W hW=>by
   have hx:=h.stay hW;obtain⟨a1,_,a2,a3,_⟩:=hx.at' hp;rw[hv]at a3;exact⟨a1,hx.c1,hx.c2,a2,a3,(hW.cell (p:=⟨gf,k*3+1,none⟩) h4).trans hu⟩
  have ko:∀W,Bw w W→OL W B NoB 104 3 (.slice A3 nl.length c3) nl.length (nl.flatMap lsDD):=fun W hW=>hlr.stay hW
  have kd:=fun W (hW:Bw w W)=>h.stay hW
  have hne1:g≠gk:=fun e=>h.kr.neBlk h.bx (by decide) (by rw[e];rfl)
  have hne2:g≠gf:=fun e=>(h.fr p hpm).neBlk h.bx (by decide) (by rw[hv,e];rfl)
  have kn:∀W W1,Bw w W→W.grownBy W1 (Value.slice A3 nl.length c3).ownBlock→((W1.cell? ⟨g,0,none⟩=some (.slice (some ⟨gk,0,none⟩) l.length cap)∧W1.cell? ⟨g,2,none⟩=some (.int .i64 by_)∧W1.cell? ⟨gk,i*3+1,none⟩=some (.int .i64 p.1.fr)∧W1.cell? ⟨gk,i*3+2,none⟩=some (.slice (some ⟨gf,0,none⟩) p.1.fs.length capf)∧W1.cell? ⟨gf,k*3+1,none⟩=some (.int .i64 x.fr))∧W1.cell? ⟨g,1,none⟩=some (.slice A3 nl.length c3))∧W1.frozen? ⟨g,1,none⟩=false:=fun W W1 hW hgr=>by
   have hx:=h.stay hW;obtain⟨a0,a1,a2,a3,a4,a5⟩:=kc W hW;obtain⟨b0,b1,b2⟩:=hx.overL hgr;have hl:=ko W hW;have n1:(Value.slice A3 nl.length c3).ownBlock≠some g:=hl.neBlk hx.bx (by decide);have n2:(Value.slice A3 nl.length c3).ownBlock≠some gk:=hl.offRow hx.kr (by decide);have hff:=hx.fr p hpm;rw[hv]at hff;have n3:(Value.slice A3 nl.length c3).ownBlock≠some gf:=hl.offRow hff (by decide);exact⟨⟨⟨b0,hgr.cell a2 (fun e=>n1 e.symm),hgr.cell a3 (fun e=>n2 e.symm),hgr.cell a4 (fun e=>n2 e.symm),hgr.cell a5 (fun e=>n3 e.symm)⟩,b1⟩,b2⟩
  have hmp:∀v:Value,(l.set i ({p.1 with fs:=p.1.fs.eraseIdx k},v)).map (·.1)=(l.map (·.1)).set i {p.1 with fs:=p.1.fs.eraseIdx k}:=fun v=>map_set_fst
  have hel:(p.1.fs.eraseIdx k).length=p.1.fs.length-1:=List.length_eraseIdx_of_lt hklt;have hsec:∀(W:World)(v:Value)(n:List Ls),DX W B g (.slice (some ⟨gk,0,none⟩) l.length cap) v by_ n l→Below B w W→
    W.cell? ⟨g,0,none⟩=some (.slice (some ⟨gk,0,none⟩) l.length cap)∧W.cell? ⟨gk,i*3+2,none⟩=some (.slice (some ⟨gf,0,none⟩) p.1.fs.length capf)∧
    Calls Tryz.prog 117 #[.slice (some ⟨gf,0,none⟩) p.1.fs.length capf,.int .i64 (k:Int),.int .i64 ((k:Int)+1)] W.drew fun e w'=>e=.returned (.slice (some ⟨gf,0,none⟩) (p.1.fs.length-1) capf)∧
     w'.cell? ⟨g,0,none⟩=some (.slice (some ⟨gk,0,none⟩) l.length cap)∧w'.cell? ⟨gk,i*3+2,none⟩=some (.slice (some ⟨gf,0,none⟩) p.1.fs.length capf)∧w'.frozen? ⟨gk,i*3+2,none⟩=false∧
     DX (w'.setCell ⟨gk,i*3+2,none⟩ (.slice (some ⟨gf,0,none⟩) (p.1.fs.length-1) capf)) B g (.slice (some ⟨gk,0,none⟩) l.length cap) v by_ n (l.set i ({p.1 with fs:=p.1.fs.eraseIdx k},.slice (some ⟨gf,0,none⟩) (p.1.fs.length-1) capf))∧
     Below B w (w'.setCell ⟨gk,i*3+2,none⟩ (.slice (some ⟨gf,0,none⟩) (p.1.fs.length-1) capf)):=fun W v n hD hBW=>by
   obtain⟨a1,_,_,a2,_⟩:=hD.at' hp;rw[hv]at a2;have hD2:=hD.stay (bR).drew;have ho:=hD2.fr p hpm;rw[hv]at ho;refine⟨a1,a2,(delField_k B gf capf p.1.fs.length k NoB _ _ ho hklt).mono ?_⟩;rintro e w' ⟨rfl,hO,hgw⟩;rw[flat_erase (f:=fdD) (m:=3) (fun _=>rfl)]at hO;have hgw':W.drew.grownBy w' p.2.ownBlock:=by rw[hv];exact hgw
   obtain⟨b1,b2,b3⟩:=hD2.overF hp hgw';rw[hv]at b2;refine⟨rfl,b1,b2,b3,hD2.putF hp hgw' (.inr rfl) (by rw[hel];exact hO) (.inl (by rw[hv];rfl)),hD2.belowF hp hBW.drew hgw'⟩
  replace hsec:=Hd hsec;replace hch:=Hd hch;replace hk1:=Hd hk1;replace hk2:=Hd hk2;replace h0:=Hd h0;replace kc:=Hd kc;replace ko:=Hd ko;replace kd:=Hd kd;replace kn:=Hd kn;replace hmp:=Hd hmp;clear h hm hok hp hp1 hpm hx hf ht hc h6 hu hru hv hlr hel h5 h3;go_enter Tryz.func66,Tryz.ntmps66;go_upto_region 4 with(go_at_call 116;refine hk1.out.mono ?_;rintro e w' ⟨i2,k2,b2,rfl,hI,hB1⟩;obtain⟨rfl,rfl,rfl⟩:=hk2.out i2 k2 b2 hI;clear hI)
  have hW1:=Hd (h0.out.trans (hB1.mono h0.out.size));obtain⟨q0,q1,q2,q3,q4,q5⟩:=kc.out w' hW1.out;have hW2:=Hd (show Bw w (w'.alloc (.cells ⟨lsV p.1.fr x.fr by_⟩ 104))from hW1.out.alloc hW1.out.size _);have hsz:w.heap.size≤w'.heap.size:=hW1.out.size;have hsz1:gk<w'.heap.size:=by omega
  have hsz2:g<w'.heap.size:=by omega
  have hsz3:gf<w'.heap.size:=by omega
  clear hB1;have hSS:(w'.drew.cell? ⟨g,0,none⟩=some (.slice (some ⟨gk,0,none⟩) l.length cap)∧w'.drew.cell? ⟨g,2,none⟩=some (.int .i64 by_)∧w'.drew.cell? ⟨gk,i*3+1,none⟩=some (.int .i64 p.1.fr)∧w'.drew.cell? ⟨gk,i*3+2,none⟩=some (.slice (some ⟨gf,0,none⟩) p.1.fs.length capf)∧w'.drew.cell? ⟨gf,k*3+1,none⟩=some (.int .i64 x.fr))∧w'.drew.cell? ⟨g,1,none⟩=some (.slice A3 nl.length c3):=⟨⟨q0,q2,q3,q4,q5⟩,q1⟩;refine G_region (p:=31) (S0:=fun W=>W.cell? ⟨g,0,none⟩=some (.slice (some ⟨gk,0,none⟩) l.length cap)∧W.cell? ⟨g,2,none⟩=some (.int .i64 by_)∧W.cell? ⟨gk,i*3+1,none⟩=some (.int .i64 p.1.fr)∧W.cell? ⟨gk,i*3+2,none⟩=some (.slice (some ⟨gf,0,none⟩) p.1.fs.length capf)∧W.cell? ⟨gf,k*3+1,none⟩=some (.int .i64 x.fr)) (S1:=fun W=>W.cell? ⟨g,1,none⟩=some (.slice A3 nl.length c3)) (by kernel_rfl) ?_;refine' TkB 0 rfl hSS ?_;refine' TkB 1 rfl hSS ?_;refine' TkB 2 rfl hSS ?_;refine' TkB 3 rfl hSS ?_;try simp only[Act.put,TkS]
  refine' G_take1 (i:=4) (v:=_) rfl (by decide) (by kernel_rfl) (by kernel_rfl) (by kernel_rfl) rfl (by kernel_rfl) (by kernel_rfl) (fun _ _ _ h=>h) hSS (.inl ⟨by rfl,?hy4⟩) ?rest4
  case hy4=>(intro W hW;(try dsimp only at hW);go_simp<;>with_reducible rfl)
  refine' TkB 5 rfl hSS ?_;refine' TkB 6 rfl hSS ?_;refine' TkB 7 rfl hSS ?_;refine' TkB 8 rfl hSS ?_;refine' TkB 9 rfl hSS ?_;refine' TkB 10 rfl hSS ?_;refine' TkB 11 rfl hSS ?_;refine' TkB 12 rfl hSS ?_;refine' TkB 13 rfl hSS ?_;refine' TkB 14 rfl hSS ?_;refine' TkB 15 rfl hSS ?_;refine' TkB 16 rfl hSS ?_;refine' TkB 17 rfl hSS ?_;refine' TkB 18 rfl hSS ?_;refine' TkB 19 rfl hSS ?_;refine' TkB 20 rfl hSS ?_;refine' TkB 21 rfl hSS ?_;refine' TkB 22 rfl hSS ?_;refine' TkB 23 rfl hSS ?_;refine' TkB 24 rfl hSS ?_;refine' TkB 25 rfl hSS ?_;refine' TkB 26 rfl hSS ?_;refine' TkB 27 rfl hSS ?_;refine' TkB 28 rfl hSS ?_;refine' TkB 29 rfl hSS ?_;try simp only[Act.put,TkS]
  refine Gs 30 rfl fun K hK=>?_
  go_simp;have hkc:=kc.out _ hW2.out;refine hK.out _ _ ⟨⟨hkc.1,hkc.2.2.1,hkc.2.2.2.1,hkc.2.2.2.2.1,hkc.2.2.2.2.2⟩,fun _=>hkc.2.1⟩ ?_;refine Gs 31 rfl fun K hK=>?_
  refine step_app (by rfl) (.tmp 21) (.tmp 47) _ (by rfl) (m:=1) (news:=lsD p.1.fr x.fr by_) elLoss (by exact(ko.out _ hW2.out).drew) (by rfl) (by rfl) (by exact(Src.lit (ls_rd w' _ p.1.fr x.fr by_)).drew) rfl (by omega) (by omega) (by simp;omega) ?_;intro v' w1 hO1 hg1 ha1;obtain⟨B3,d3,rfl⟩:=hO1.form;have hg2:=undrew hg1;obtain⟨hS3,t2⟩:=kn.out _ _ hW2.out hg2;refine hK.out _ _ ⟨hS3.1,fun _=>hS3.2⟩ ?_;have hD:=(kd.out _ hW2.out).putL (nl':=nl++[⟨p.1.fr,x.fr,by_⟩]) hg2 (by rw[zH,xD];exact hO1);have hBB:=(kd.out _ hW2.out).belowL (x:=.slice B3 (nl.length+1) d3) (hW2.out.mono hBg) hg2;obtain⟨s0,s1,hdel⟩:=hsec.out _ _ _ hD hBB;replace hdel:=Hd hdel;clear hg1 hg2 hO1 ha1 hD hBB hK K hkc;refine' TkB 32 rfl hS3 ?_;refine' TkB 33 rfl hS3 ?_;try simp only[Act.put,TkS]
  refine Gs 34 rfl fun K hK=>?_
  go_simp;refine hK.out _ _ ⟨?_,fun h=>absurd (h.symm.trans (by kernel_rfl:_=true)) (by simp)⟩ ?_
  ·obtain⟨⟨a0,a1,a2,a3,a4⟩,_⟩:=hS3;refine⟨s0,?_,?_,s1,?_⟩
   ·rw[World.cell?_setCell_other _ _ _ _ (by simp)];exact a1
   ·rw[World.cell?_setCell_far _ _ _ _ (by show g≠gk;exact hne1)];exact a2
   ·rw[World.cell?_setCell_far _ _ _ _ (by show g≠gf;exact hne2)];exact a4
  refine Gd _ ?_;try simp only[Act.put,TkS]
  clear hK K hS3 hSS t2 q0 q1 q2 q3 q4 q5;generalize w1.setCell ⟨g,1,none⟩ (.slice B3 (nl.length+1) d3)=W3 at*;go_upto_region 5 with fail
  have hST:(W3.drew.cell? ⟨g,0,none⟩=some (.slice (some ⟨gk,0,none⟩) l.length cap))∧W3.drew.cell? ⟨gk,i*3+2,none⟩=some (.slice (some ⟨gf,0,none⟩) p.1.fs.length capf):=⟨s0,s1⟩;refine G_region (p:=16) (S0:=fun W=>W.cell? ⟨g,0,none⟩=some (.slice (some ⟨gk,0,none⟩) l.length cap)) (S1:=fun W=>W.cell? ⟨gk,i*3+2,none⟩=some (.slice (some ⟨gf,0,none⟩) p.1.fs.length capf)) (by kernel_rfl) ?_;refine' TkB 0 rfl hST ?_;refine' TkB 1 rfl hST ?_;refine' TkB 2 rfl hST ?_;refine' TkB 3 rfl hST ?_;refine' TkB 4 rfl hST ?_;refine' TkB 5 rfl hST ?_;refine' TkB 6 rfl hST ?_;refine' TkB 7 rfl hST ?_;refine' TkB 8 rfl hST ?_;refine' TkB 9 rfl hST ?_;refine' TkB 10 rfl hST ?_;refine' TkB 11 rfl hST ?_;try simp only[Act.put,TkS]
  refine' G_take1 (i:=12) (v:=_) rfl (by decide) (by kernel_rfl) (by kernel_rfl) (by kernel_rfl) rfl (by kernel_rfl) (by kernel_rfl) (fun _ _ _ h=>h) hST (.inl ⟨by rfl,?hyb12⟩) ?restb12
  case hyb12=>(intro W hW;(try dsimp only at hW);go_simp<;>with_reducible rfl)
  refine' TkB 13 rfl hST ?_;refine' TkB 14 rfl hST ?_;refine' TkB 15 rfl hST ?_;try simp only[Act.put,TkS]
  refine Gs 16 rfl fun K hK=>?_
  go_simp;go_at_call 117;refine hdel.out.mono ?_;rintro e w3 ⟨rfl,u0,u1,u2,f1,f2⟩;replace f1:=Hd f1;replace f2:=Hd f2;refine hK.out _ _ ⟨u0,fun _=>u1⟩ ?_;have hSU:w3.cell? ⟨g,0,none⟩=some (.slice (some ⟨gk,0,none⟩) l.length cap)∧w3.cell? ⟨gk,i*3+2,none⟩=some (.slice (some ⟨gf,0,none⟩) p.1.fs.length capf):=⟨u0,u1⟩;clear hK K hST hdel s0 s1;refine' TkB 17 rfl hSU ?_;refine' TkB 18 rfl hSU ?_;try simp only[Act.put,TkS]
  refine Gs 19 rfl fun K hK=>?_
  go_simp;refine hK.out _ _ ⟨?_,fun h=>absurd (h.symm.trans (by kernel_rfl:_=true)) (by simp)⟩ ?_
  ·dsimp only;rw[World.cell?_setCell_far _ _ _ _ (by show gk≠g;exact fun e=>hne1 e.symm)];exact u0
  refine Gd _ ?_;try simp only[Act.put,TkS]
  clear hK K hSU u0 u1 u2;go_wp2;go_ret;exact DPost.mk_some hch.out f1.out (hmp.out _) hls.out f2.out
 ·have hch:=chK_noAt (by omega) (by omega) hok;have hk2:=fun(i2 k2:Int)(b:Bool)(hI:AtIs (l.map (·.1)) c i2 k2 b)=>hI.bad hok
  replace hch:=Hd hch;replace hk1:=Hd hk1;replace hk2:=Hd hk2;replace h0:=Hd h0;clear h hm hok hc;go_enter Tryz.func66,Tryz.ntmps66;go_wp2_with (go_at_call 116;refine hk1.out.mono ?_;rintro e w' ⟨i2,k2,b2,rfl,hI,hB1⟩;obtain rfl:=hk2.out i2 k2 b2 hI;clear hI);go_ret;exact DPost.mk_none hch.out ((h0.out.trans (hB1.mono h0.out.size)).mono hBg)
end evW
theorem step_copy_r {P:Program}{ops:Array Oper}{o:Oper}{a:Act}{w:World}{K:Act→World→Prop}{Q:Exit→Act→World→Prop}{E:Prop}
  (hg:o.guard=none)(d x:Operand)(dT sT:TypeId)(hop:o.op=Op.call {callee:=Callee.builtin Builtin.copy,args:=#[d,x],argTypes:=#[dT,sT]})
  (v u:Value)(hd:a.eval d=v)(hx:a.eval x=u){v':Value}{w':World}(hr:(Builtin.copy_ #[dT,sT] o.type #[v,u]).run P w=.ok v' w')(hK:K (a.put o.dst v') w'):
  if Region.wanted o (yielded ops a.tmps)=true then Oper.wp P o a w K Q else E:=by
 have hw:Region.wanted o (yielded ops a.tmps)=true:=by simp[Region.wanted,hg]
 rw[if_pos hw];unfold Oper.wp;simp[execOp,hop,resolve,invoke,builtin,hd,hx,hr,Result.andThen];exact hK
theorem wpList_copy_r {P:Program}(w:World){ops:Array Oper}{rest:List Oper}{o:Oper}{a:Act}{Q:Exit→Act→World→Prop}(hgd:o.guard=none)(d s:Operand)(t t':TypeId)
  (ho:o.op=.call {callee:=.builtin .copy,args:=#[d,s],argTypes:=#[t,t']})(v u:Value)(hd:a.eval d=v)(hs:a.eval s=u){v':Value}{w':World}
  (hr:(Builtin.copy_ #[t,t'] o.type #[v,u]).run P w=.ok v' w')(h:wpList P ops Q rest (a.put o.dst v') w'):wpList P ops Q (o::rest) a w:=
 wpList_plain hgd fun _ hK=>by
  unfold Oper.wp execOp;simp only[ho,resolve,invoke,builtin,Sem.run_bind,Sem.run_pure,Result.andThen_ok,List.map_toArray,List.map_cons,List.map_nil,hd,hs,hr];exact hK _ _ h
theorem Blk.shape {w:World}{g t:Nat}{cs:List Value}(h:Blk w g t cs):w.shape? g=some (t,cs.length):=by
 unfold Blk at h;simp[World.shape?,h]
theorem Blk.one {w:World}{n:Nat}{F:Nat→Prop}{cs:List Value}{ds:List D}(hd:ds.length=n)(hr:∀(k:Nat)(d:D),ds[k]? =some d→∃u,cs[k]? =some u∧Rd w F u d):∀u∈cs.take n,u.oneCell'=true:=by
 intro u hu;obtain⟨j,hj⟩:=zN hu;rw[zZ]at hj;split at hj
 ·obtain⟨u',hu',hx⟩:=hr j _ (zI (by omega));rw[hj]at hu';injection hu' with e;subst e
  exact hx.one
 ·cases hj
theorem ins_cells {cs vs A:List Value}{a n:Nat}(ha:a≤n)(hn:n+vs.length≤cs.length)(hA:A=(cs.take n).drop a):
  let c1:=cs.take (a+vs.length)++A++cs.drop (a+vs.length+A.length)
  (c1.take a++vs++c1.drop (a+vs.length)).take (n+vs.length)=cs.take a++vs++(cs.take n).drop a:=by
 intro c1;have hAl:A.length=n-a:=by rw[hA];simp;omega
 have e1:(cs.take (a+vs.length)).length=a+vs.length:=by simp;omega
 have e2:c1.take a=cs.take a:=by
  show(cs.take (a+vs.length)++A++cs.drop (a+vs.length+A.length)).take a=_
  rw[zR,List.take_append_of_le_length (by omega),List.take_take,Nat.min_eq_left (by omega)]
 have e3:c1.drop (a+vs.length)=A++cs.drop (a+vs.length+A.length):=by
  show(cs.take (a+vs.length)++A++cs.drop (a+vs.length+A.length)).drop (a+vs.length)=_
  rw[zR];have:=List.drop_left (l₁:=cs.take (a+vs.length)) (l₂:=A++cs.drop (a+vs.length+A.length));rw[e1]at this;exact this
 rw[e2,e3,←hA];have e4:(cs.take a++vs++A).length=n+vs.length:=by simp;omega
 rw[←zR (cs.take a++vs),←e4,List.take_left]
def InsPost (w:World)(B g n k:Nat)(F:Nat→Prop)(ds vd:List D)(e:Ending)(w':World):Prop:=
 ∃v',e=.returned v'∧OL w' B F 92 3 v' (n+1) (ds.take (k*3)++vd++ds.drop (k*3))∧w.grownBy w' (some g)∧(v'.ownBlock=some g∨v'.ownBlock=some w.heap.size)
namespace evW
open nmW
theorem insField_k (B g cap n k vb:Nat)(F:Nat→Prop)(ds:List D)(x:Fd)(w:World)(h:OL w B F 92 3 (.slice (some ⟨g,0,none⟩) n cap) n ds)(hk:k≤n)(hroom:n+1≤cap)(hn:n≤1048576)
  (hvb:vb≠g)(hv:Blk w vb 92 (fdV x)):
  Calls Tryz.prog 118 #[.slice (some ⟨g,0,none⟩) n cap,.int .i64 (k:Int),.slice (some ⟨vb,0,none⟩) 1 1] w (InsPost w B g n k F ds (fdD x)):=by
 have hlt:=h.lt g rfl;have hdl:=h.len;by_cases hkn:k=n
 ·subst hkn;have e1:ds.take (k*3)++fdD x++ds.drop (k*3)=ds++fdD x:=by rw[xH (by omega),List.drop_of_length_le (by omega),zT]
  have hsrc:Src w (some ⟨vb,0,none⟩) (fdD x) (fun b=>F b∧some b≠(Value.slice (some ⟨g,0,none⟩) k cap).ownBlock):=fun _=>⟨vb,0,rfl,fun j d hd=>by
   obtain⟨u,hu,hr⟩:=(fdD_rd w (fun b=>F b∧some b≠(Value.slice (some ⟨g,0,none⟩) k cap).ownBlock) x).get hd;exact⟨u,by rw[Nat.zero_add,hv.cell];exact hu,hr⟩⟩
  have hol:=Hd h;replace hsrc:=Hd hsrc;replace e1:=Hd e1;have hB:=hlt.1;have hB2:=hlt.2;clear h hv hlt;go_enter Tryz.func118,Tryz.ntmps118;go_wp2_with (at_builtin;refine wpa rfl (.tmp 23) (.tmp 24) _ rfl (m:=1) (news:=fdD x) elField hol.out rfl rfl hsrc.out rfl (by omega) (by omega) (by omega) ?_;intro v' w1 hO1 hg1 ha1);go_ret;exact⟨_,rfl,by rw[e1.out];exact hO1,hg1,ha1⟩
 ·obtain⟨cs,hB,hb,hnc,hm,hlen,hd,hr⟩:=h.blk;obtain⟨A,hA⟩:∃A,A=(cs.take (n*3)).drop (k*3):=⟨_,rfl⟩
  have hAl:A.length=(n-k)*3:=by rw[hA];simp;omega
  have hone:∀u∈A,u.oneCell'=true:=fun u hu=>Blk.one hd hr u (by rw[hA]at hu;exact List.mem_of_mem_drop hu)
  have hone2:∀u∈fdV x,u.oneCell'=true:=by intro u hu;simp[fdV]at hu;rcases hu with rfl |rfl |rfl<;>rfl
  have hb1:=Blk.setCells A (k*3+3) w.drew cs hb (by rw[hAl,hlen];omega);obtain⟨W1,hW1⟩:∃W1,W1=w.drew.setCells g (k*3+3) A:=⟨_,rfl⟩
  rw[←hW1]at hb1;obtain⟨hb1,hg1⟩:=hb1;have hl1:(cs.take (k*3+3)++A++cs.drop (k*3+3+A.length)).length=cs.length:=by simp;omega
  have hb2:=Blk.setCells (fdV x) (k*3) W1 _ hb1 (by rw[hl1,hlen];show k*3+3≤_;omega);have hv1:Blk W1 vb 92 (fdV x):=(show Blk w.drew _ _ _ from hv).grown hg1 (by simpa using hvb);have hov:∀lb cb,(callFunc 143 #[.slice (some ⟨vb,0,none⟩) 1 1,.slice (some ⟨g,k*3+3,none⟩) lb cb]).run Tryz.prog w=.ok (.value (.bool false)) w:=fun lb cb=>by
   rw[run_callFunc_extern Tryz.func143 (by kernel_rfl) (by kernel_rfl) (by kernel_rfl) (e:=Extern.SlicesOverlaps.overlaps #[88,88] #[4]) (by kernel_rfl),
    Lib.run_overlaps_apart w 88 4 92 elField.sl 3 (fun W=>by obtain⟨i,z,hi,_,hs,_⟩:=elField.info;simp[sizeOf,typeInfo,hi,hs]) ⟨vb,0,none⟩ ⟨g,k*3+3,none⟩ 1 1 lb cb hvb _ _ _ _ hv.shape hb.shape (by omega) (hv.frozen _) (hv.frozen _)]
   rfl
  have hcp1:∀ty dc sc,(Builtin.copy_ #[88,88] ty #[.slice (some ⟨g,k*3+3,none⟩) (n-k) dc,.slice (some ⟨g,k*3,none⟩) (n+1-k) sc]).run Tryz.prog w.drew=.ok (goInt ((n-k:Nat):Int)) W1:=fun ty dc sc=>by
   rw[hW1];refine run_copy_row ty elField w.drew g (k*3+3) (n-k) dc ⟨g,k*3,none⟩ (n+1-k) sc (n-k) A ?_ hAl ?_ ?_ ?_ hone
   ·show n-k=min (n+1-k) (n-k);omega
   ·intro j v hj;rw[addr_add];show w.cell? _=_
    rw[hb.cell];rw[hA,xT,zZ]at hj;split at hj
    ·exact hj
    ·cases hj
   ·intro j hj;show(w.cell? _).isSome=true;rw[hb.cell];simp;omega
   ·intro j hj;exact hb.frozen _
  have hcp2:∀ty dc,(Builtin.copy_ #[88,88] ty #[.slice (some ⟨g,k*3,none⟩) (n+1-k) dc,.slice (some ⟨vb,0,none⟩) 1 1]).run Tryz.prog W1=.ok (goInt 1) (W1.setCells g (k*3) (fdV x)):=fun ty dc=>by
   refine run_copy_row ty elField W1 g (k*3) (n+1-k) dc ⟨vb,0,none⟩ 1 1 1 (fdV x) ?_ rfl ?_ ?_ ?_ hone2
   ·show 1=min 1 (n+1-k);omega
   ·intro j v hj;rw[addr_add,hv1.cell,Nat.zero_add];exact hj
   ·intro j hj;rw[hb1.cell];have:j<3:=hj;simp;omega
   ·intro j hj;exact hb1.frozen _
  have hg2:w.grownBy (W1.setCells g (k*3) (fdV x)) (some g):=by
   have hg1':w.grownBy W1 (some g):=undrew hg1;have h2:=hb2.2;exact⟨h2.os.trans hg1'.os,h2.tape.trans hg1'.tape,h2.output.trans hg1'.output,zU hg1'.size h2.size,fun j hj hne=>(h2.block j (zF hj hg1'.size) hne).trans (hg1'.block j hj hne)⟩
  have hfin:InsPost w B g n k F ds (fdD x) (.returned (.slice (some ⟨g,0,none⟩) (n+1) cap)) (W1.setCells g (k*3) (fdV x)):=by
   refine⟨_,rfl,h.put_in hg2 hk hroom hb hb2.1 ?_ rfl rfl (fun j d hd=>(fdD_rd w _ x).get hd) ?_,hg2,.inl rfl⟩
   ·have:(fdV x).length=3:=rfl;simp[this];omega
   ·have:=ins_cells (cs:=cs) (vs:=fdV x) (A:=A) (a:=k*3) (n:=n*3) (by omega) (by show n*3+3≤_;omega) hA;rw[show(n+1)*3=n*3+3 by omega];exact this
  have hwk:IntKind.i64.wrap ((k:Int)+1)=(k:Int)+1:=by rw[xI];omega
  have htn:((k:Int)+1).toNat=k+1:=by omega
  have z1:¬(k:Int)=(n:Int):=by omega
  have z2:((k:Int)==(n:Int))=false:=by simp;omega
  have z3:(0:Int)≤(k:Int):=by omega
  have z4:(k:Int)≤(n:Int):=by omega
  have z5:(k:Int)+1≤(n:Int)+1:=by omega
  have z6:(0:Int)≤(k:Int)+1:=by omega
  have z7:¬cap=k:=by omega
  have z8:¬cap=k+1:=by omega
  have z9:(n:Int)+1≤(cap:Int):=by omega
  have z10:¬(n:Int)+1>(cap:Int):=by omega
  have z11:(k:Int)≤(n:Int)+1:=by omega
  have z12:(0:Int)≤(n:Int)+1:=by omega
  have z13:n+1- (k+1)=n-k:=by omega
  have z14:(k+1)*3=k*3+3:=by omega
  replace hov:=Hd hov;replace hcp1:=Hd hcp1;replace hcp2:=Hd hcp2;replace hfin:=Hd hfin;replace hlen:=Hd hlen;clear h hr hb hb1 hb2 hg1 hg2 hv hv1 hW1 hone hone2 hA hAl hl1 hdl hlt hd;go_enter Tryz.func118,Tryz.ntmps118;go_upto_region 15 with(simp only[hov.out])
  go_region_law ((refine step_copy_r (by rfl) (.tmp 73) (.tmp 76) 88 88 (by rfl) _ _ (by simp[Act.eval,Act.put]) (by simp[Act.eval,Act.put]) (hcp1.out _ (cap- (k+1)) (cap-k)) ?_))
  all_goals
   go_wp2_with (simp only[hcp2.out]);go_ret;exact hfin.out
end evW
end Go.Proofs.YtfiodnlgiglhfaaGreatDoor
