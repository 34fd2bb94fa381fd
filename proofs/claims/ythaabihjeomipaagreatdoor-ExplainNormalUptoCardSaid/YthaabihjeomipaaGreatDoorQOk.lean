/- The law's other form of a query, walked. -/
import Derived.Test.YthaabihjeomipaaGreatDoorQOj
namespace Go.Proofs.YthaabihjeomipaaGreatDoor
set_option maxRecDepth 100000
set_option maxHeartbeats 16000000
open Go.RowKit Go.Deep
set_option linter.unusedVariables false
set_option linter.unusedSimpArgs false
section
variable {P:Program}{ops:Array Oper}{Q:Exit→Act→World→Prop}{md:Region.Mode}{S0 S1:World→Prop}{p:Nat}
theorem G_fork {k1 k2:Nat}{o1 o2:Oper}{n:Nat}{L:Array Bool}{a:Act}{w:World}(hr:Region.ready md ops L=[k1,k2])(ho1:ops[k1]? =some o1)(ho2:ops[k2]? =some o2)
  (h1:∀K':Act→World→Prop,Hid (∀a w',SG p S0 S1 (L.setIfInBounds k1 true) w'→anyG P md ops Q (SG p S0 S1) n (L.setIfInBounds k1 true) a w'→K' a w')→if Region.wanted o1 (yielded ops a.tmps)=true then Oper.wp P o1 a w K' Q else K' (a.put o1.dst undef) w)
  (h2:∀K':Act→World→Prop,Hid (∀a w',SG p S0 S1 (L.setIfInBounds k2 true) w'→anyG P md ops Q (SG p S0 S1) n (L.setIfInBounds k2 true) a w'→K' a w')→if Region.wanted o2 (yielded ops a.tmps)=true then Oper.wp P o2 a w K' Q else K' (a.put o2.dst undef) w):anyG P md ops Q (SG p S0 S1) (n+1) L a w:=by
 refine⟨(fun h0=>by rw[h0]at hr;cases hr),fun i hi=>?_⟩;rw[hr]at hi;rcases List.mem_cons.1 hi with rfl |hi
 ·exact wpOp_step ho1 fun K' hK=>h1 K' (Hd fun a w' h1 h2=>hK a w' ⟨h1,h2⟩)
 ·rcases xB.1 hi with rfl
  exact wpOp_step ho2 fun K' hK=>h2 K' (Hd fun a w' h1 h2=>hK a w' ⟨h1,h2⟩)
end
theorem OL.tailS {w:World}{B g n cap:Nat}{a:ByteArray}{r:List ByteArray}(h:OL w B NoB 9 1 (.slice (some ⟨g,0,none⟩) n cap) n ((a::r).flatMap strD))(hn:n=r.length+1):
  Rd w (fun b=>b<w.heap.size) (.slice (some ⟨g,1,none⟩) r.length (cap-1)) (.sl r.length (r.flatMap strD)):=by
 obtain⟨cs,hB,hb,hnc,hm,hcl,hdl,hr⟩:=h.blk;have hk:∀(k:Nat) d,(r.flatMap strD)[k]? =some d→∃u,cs[1+k]? =some u∧Rd w (fun b=>b<w.heap.size) u d:=fun k d hd=>by
  obtain⟨u,h1,h2⟩:=hr (1+k) d (by rw[zK,zP (by show 1≤1+k;omega),show 1+k- (strD a).length=k by show 1+k-1=k;omega];exact hd);exact⟨u,h1,h2.mono fun b hb _=>hb.1.elim⟩
 refine .sl _ _ _ g 1 _ (fun k=>(cs[1+k]?).getD undef) oQ oQ (fun _=>⟨rfl,hb.lt⟩) (fun k d hd=>?_) (fun k d hd=>?_)
 ·obtain⟨u,h1,_⟩:=hk k d hd;rw[hb.cell,h1];rfl
 ·obtain⟨u,h1,h2⟩:=hk k d hd;rw[h1];exact h2
theorem Src.blkS {w:World}{G:Nat→Prop}{b t:Nat}{a:ByteArray}(h:Blk w b t [.string a]):Src w (some ⟨b,0,none⟩) (strD a) G:=fun _=>⟨b,0,rfl,fun k d hd=>by
 match k,hd with
 |0,hd=>exact⟨_,h.cell 0,by rw[←zq9 hd];exact .v _ rfl⟩
 |k+1,hd=>simp[strD]at hd⟩
theorem flat_get {α:Type}{f:α→List D}{m c:Nat}{d:D}(hf:∀x,(f x).length=m):∀{l:List α}{j:Nat}{x:α},l[j]? =some x→(f x)[c]? =some d→c<m→(l.flatMap f)[j*m+c]? =some d:=by
 intro l;induction l with
 |nil=>intro j x h;simp at h
 |cons a t ih=>
  intro j x h hy hc;cases j with
  |zero=>
   simp only[zY,Option.some.injEq]at h;subst h;rw[zK,show 0*m+c=c by omega,zS (by rw[hf];exact hc),hy]
  |succ j=>
   rw[zK,show(j+1)*m+c=(f a).length+(j*m+c) by rw[hf,Nat.succ_mul];omega,zP oQ,show(f a).length+(j*m+c) - (f a).length=j*m+c by omega];exact ih (by simpa using h) hy hc
theorem OL.icell {W:World}{B g n cap j c:Nat}{l:List (It×Value)}{p:It×Value}{x:Value}(h:OL W B NoB 53 5 (.slice (some ⟨g,0,none⟩) n cap) n (l.flatMap icD))(hp:l[j]? =some p)(hx:(icD p)[c]? =some (.v x))(hc:c<5):W.cell? ⟨g,j*5+c,none⟩=some x∧W.frozen? ⟨g,j*5+c,none⟩=false:=by
 obtain⟨cs,hB,hb,hnc,hm,hcl,hdl,hr⟩:=h.blk;obtain⟨u,h1,h2⟩:=hr _ _ (flat_get (f:=icD) (m:=5) (fun _=>rfl) hp hx hc);refine⟨?_,hb.frozen _⟩;rw[hb.cell,h1,h2.v_inv]
theorem OL.rcell {W:World}{B g n cap j:Nat}{l:List (List Nd×Value)}{p:List Nd×Value}(h:OL W B NoB 28 1 (.slice (some ⟨g,0,none⟩) n cap) n (l.flatMap rcD))(hp:l[j]? =some p):W.cell? ⟨g,j,none⟩=some p.2∧W.frozen? ⟨g,j,none⟩=false:=by
 obtain⟨cs,hB,hb,hnc,hm,hcl,hdl,hr⟩:=h.blk;obtain⟨u,h1,h2⟩:=hr _ _ (flat_get (f:=rcD) (m:=1) (c:=0) (d:=.v p.2) (fun _=>rfl) hp rfl oQ);rw[Nat.mul_one,Nat.add_zero]at h1;refine⟨?_,hb.frozen _⟩;rw[hb.cell,h1,h2.v_inv]
theorem OL.ccell {W:World}{B g n cap j x:Nat}{l:List Nat}(h:OL W B NoB 3 1 (.slice (some ⟨g,0,none⟩) n cap) n (l.map cjD))(hp:l[j]? =some x):W.cell? ⟨g,j,none⟩=some (.int .i64 (x:Nat)):=by
 obtain⟨cs,hB,hb,hnc,hm,hcl,hdl,hr⟩:=h.blk;obtain⟨u,h1,h2⟩:=hr j (cjD x) (by rw[zG,hp];rfl);rw[hb.cell,h1,h2.v_inv]
structure O3 (q:Qy)(s:Sl3)(w0 w:World)(g:Nat)(v1 v2 v3:Value)(l:List (It×Value))(wh:List Nd)(rl:List (List Nd×Value))(Aw Ar:Option Addr)(cw cr:Nat)(t:List Nd)(rs:List Nat):Prop where
 o:O2 q s w0 w g v1 v2 v3 l wh rl
 ww:OL w (w0.heap.size+1+1) NoB 96 6 (.slice Aw t.length cw) t.length (t.flatMap ndD)
 rr:OL w (w0.heap.size+1+1) NoB 3 1 (.slice Ar rs.length cr) rs.length (rs.map cjD)
section
variable {q:Qy}{s:Sl3}{w0 w W:World}{g:Nat}{v1 v2 v2' v3:Value}{l:List (It×Value)}{wh wh':List Nd}{rl:List (List Nd×Value)}{Aw Ar:Option Addr}{cw cr:Nat}{t:List Nd}{rs:List Nat}
theorem O3.stay (h:O3 q s w0 w g v1 v2 v3 l wh rl Aw Ar cw cr t rs)(hb:Bw w W):O3 q s w0 W g v1 v2 v3 l wh rl Aw Ar cw cr t rs:=⟨h.o.stay hb,h.ww.stay hb,h.rr.stay hb⟩
theorem O3.putWh (h:O3 q s w0 w g v1 v2 v3 l wh rl Aw Ar cw cr t rs)(hO:OL w (w0.heap.size+1+1) NoB 96 6 v2' wh'.length (wh'.flatMap ndD))(hne:∀p∈rl,v2'.ownBlock=none∨v2'.ownBlock≠p.2.ownBlock):
  O3 q s w0 (w.setCell ⟨g,3,none⟩ v2') g v1 v2' v3 l wh' rl Aw Ar cw cr t rs:=
 ⟨h.o.putWh hO hne,h.ww.setCell (p:=⟨g,3,none⟩) (h.ww.neBlk h.o.q5.b4 dQ) (fun h=>h) _,h.rr.setCell (p:=⟨g,3,none⟩) (h.rr.neBlk h.o.q5.b4 dQ) (fun h=>h) _⟩
theorem O2.fresh {u:Value}{b:Nat}(h:O2 q s w0 w g v1 v2 v3 l wh rl)(hb:w.heap.size≤b)(hu:∀k,u.ownBlock=some k→b≤k):∀p∈rl,u.ownBlock=none∨u.ownBlock≠p.2.ownBlock:=h.oq.r.newer hb hu
end
theorem other_fin {q:Qy}{w w8:World}{v1 v2 v3:Value}{l:List (It×Value)}{wh:List Nd}{rl:List (List Nd×Value)}(h:OQ w8 w.heap.size v1 v2 v3 l wh rl)(hw:wh=(otQ q).wh)(hl:l.map (·.1)=otI q)(hr:rl.map (·.1)=q.ret.map fun t=>t.map (rnW q))(hb:Bw w w8):RQPost (otQ q) w (.returned (.agg ⟨quV q v1 v2 v3 q.by_⟩)) w8:=by
 subst hw;exact⟨v1,v2,v3,l,rl,rfl,h,hl,hr,hb⟩
theorem len_sum {α:Type}(f:α→Nat)(l:List α):l.length≤(l.map fun x=>f x+1).sum:=by
 induction l with
 |nil=>simp
 |cons a l ih=>simp;omega
theorem conjs_len {t:List Nd}(h:treeB t=true):(conjs t).length≤2*t.length:=zU (len_sum (fun i=>(subT t i).length) _) (conjs_sum h)
theorem sub_ab {t:List Nd}(h:treeB t=true){r:Nat}(hr:r∈conjs t):∀x∈subT t r,x.a<((subT t r).length:Int)∧x.b<((subT t r).length:Int):=fun x hx=>by
 obtain⟨h1,h2⟩:=nd_ab (ct_one h hr).tr hx;constructor
 ·rcases h1 with e |⟨j,e,hj⟩
  ·rw[e];omega
  ·rw[e];omega
 ·rcases h2 with e |⟨j,e,hj⟩
  ·rw[e];omega
  ·rw[e];omega
def otX (j:Nat)(x:It):It:={x with v:=nmW j,tys:=rot x.tys}
theorem otI_at {q:Qy}{j:Nat}{x:It}(h:q.items[j]? =some x):(otI q)[j]? =some (otX j x):=by rw[otI_get,h];rfl
theorem ot_same {x:It}{j:Nat}(h:¬1<x.tys.length):otX j x={x with v:=nmW j}:=by
 have:rot x.tys=x.tys:=by
  match x.tys,h with
  | [],_=>rfl
  | [a],_=>rfl
  |a::b::r,h=>exact absurd sJ h
 unfold otX;rw[this]
namespace lawW
open nmW ckW
theorem other_k (F:Nat→Prop)(q:Qy)(s:Sl3)(hs:SzQ q)(h3:3*q.wh.length≤1048576)(w:World)(hK:KwIs w)(hP:PwT w)(R:QR w F q s):
  Calls Tryz.prog 19 #[.agg ⟨qV q s⟩] w (RQPost (otQ q) w):=by
 have hF:=R.lt;have kre:=fun(i:Nat) t (hi:q.ret[i]? =some t)=>re_at R.r3 hi
 have k9:=fun W (hW:Bw w W)=>twinQuery_k F q s hs W (R.under hW)
 have k46:=fun(m:Nat)(hm:m≤1048576) W (hW:Bw w W)=>called_k m hm W (hP.stay hW)
 have k47:=fun(Ax:Option Addr)(cx:Nat) t (hl:t.length≤1048576)(rx:Rd w F (.slice Ax t.length cx) (.sl t.length (t.flatMap ndD))) W (hW:Bw w W)=>renamed_k Ax cx F q s t hs.il hl W (hP.stay hW) (R.under hW) (rx.under hW hF)
 have k47w:=k47 s.a2 s.c2 q.wh hs.wh.1 R.r2;have k26T:=fun(A:Option Addr)(c:Nat)(t:List Nd)(h1:SzN t)(h2:treeB t=true) W (hW:Bw w W) r=>rConj_k A c (fun b=>b<W.heap.size) t h1 h2 W (hK.stay hW) (fun _ h=>h) r
 have k26F:=fun(A:Option Addr)(c:Nat)(t:List Nd)(h1:SzN t)(h2:treeB t=false) W (hW:Bw w W) r=>conjF_k A c (fun b=>b<W.heap.size) t h1 h2 W (hK.stay hW) (fun _ h=>h) r
 have k27:=fun(A:Option Addr)(c:Nat)(t:List Nd)(h1:SzN t)(h2:treeB t=true)(x:Nat)(hx:x∈conjs t) W (hW:Bw w W) r=>(show Calls Tryz.prog 27 #[.slice A t.length c,.int .i64 x] W (TrPost (subT t x) W)from by
  obtain⟨b,hsp⟩:=conjs_sp h2 hx;rw[subT_sp hsp];exact rSub_k A c (fun b=>b<W.heap.size) t h1 h2 hsp W (hK.stay hW) (fun _ h=>h) r)
 have hil:=hs.il;have hrl:=hs.rl;have hits:=hs.it;have hres:=hs.re;have hwN:SzN (q.wh.map (rnW q)):=szN_rn hil hs.wh;obtain⟨tw,htw⟩:∃t,t=q.wh.map (rnW q):=⟨_,rfl⟩
 rw[←htw]at hwN;have hk47w:=fun W (hW:Bw w W)=>(show Calls Tryz.prog 47 _ W (TrPost tw W)from by rw[htw];exact k47w W hW)
 have htl:3*tw.length≤1048576:=by rw[htw,xC];exact h3
 obtain⟨W0,hW0⟩:∃W0,W0=((w.alloc (.cells ⟨qV q s⟩ 31)).alloc (.cells ⟨zqV⟩ 31)):=⟨_,rfl⟩
 have hb0:Bw w W0:=by rw[hW0];exact(bA).alloc sJ _
 have hb1:Blk W0 w.heap.size 31 (qV q s):=by rw[hW0];exact(Blk.new _ _ _).alloc _
 have hb2:Blk W0 (w.heap.size+1) 31 zqV:=by rw[hW0];exact Blk.new' sJ
 have hs0:W0.heap.size=w.heap.size+1+1:=by rw[hW0];simp
 replace hs0:=Hd hs0;have cq:=fun {W:World}{g:Nat}{vs:List Value}(h:Y5 q s w W g vs)=>qbc h.b1
 obtain⟨A1,c1,A2,c2,A3,c3⟩:=s;obtain⟨y0,y1,y2,y3,y4,y5,y6⟩:=qbc hb1;simp only[zY]at y0 y1 y2 y3 y4 y5 y6;simp only[qV,zqV]at hW0 ⊢;try simp only[qV]at kre k9 k47 hk47w cq
 have hWW:=Hd hW0;replace hF:=Hd hF;replace kre:=Hd kre;replace k9:=Hd k9;replace k46:=Hd k46;replace k47:=Hd k47;replace hk47w:=Hd hk47w;clear k47w;replace k26T:=Hd k26T;replace k26F:=Hd k26F;replace k27:=Hd k27;replace hits:=Hd hits;replace hres:=Hd hres;replace hb0:=Hd hb0;replace hb1:=Hd hb1;replace hb2:=Hd hb2;replace hwN:=Hd hwN;replace htw:=Hd htw;replace htl:=Hd htl;clear h3;clear R hs hW0 hK hP;go_enter Tryz.func19,Tryz.ntmps19;go_upto_region 1 with fail
 rw[←hWW.out];clear hWW;go_upto_region 2 with(go_at_call 9;refine(k9.out W0 hb0.out).mono ?_;rintro e W4 ⟨t1,t2,t3,lt,rt,rfl,hOt,hlt,hrt,hB4⟩;obtain⟨B1,d1,rfl⟩:=hOt.i.kr.form;obtain⟨B2,d2,rfl⟩:=hOt.wr.form;obtain⟨B3,d3,rfl⟩:=hOt.r.kr.form;simp only[quV])
 clear y0 y1 y2 y3 y4 y5 y6 k9;obtain⟨W1,hW1⟩:∃W',W'=W4.alloc (.cells ⟨[.slice B1 lt.length d1,.int .i64 q.mode,.int .i64 q.after,.slice B2 q.wh.length d2,.int .i64 q.within,.string q.by_,.slice B3 rt.length d3]⟩ 31):=⟨_,rfl⟩
 rw[←hW1];have hO2:O2 q ⟨A1,c1,A2,c2,A3,c3⟩ w W1 W4.heap.size (.slice B1 lt.length d1) (.slice B2 q.wh.length d2) (.slice B3 rt.length d3) lt q.wh rt:=by
  have hba:Bw W4 W1:=by rw[hW1];exact bA
  have hbw:Bw W0 W1:=hB4.trans (hba.mono hB4.size);refine⟨⟨hb0.out.trans (hbw.mono hb0.out.size),hb1.out.stay hbw,hb2.out.stay hbw,?_,?_⟩,(hOt.stay hba).base (by have:=hs0.out;omega)⟩
  ·rw[hW1];exact Blk.new _ _ _
  ·have:=hs0.out;have:=hB4.size;omega
 have hltl:lt.length=q.items.length:=by rw[←hlt,xC]
 have hrtl:rt.length=q.ret.length:=by rw[←hrt,xC]
 obtain⟨n1,hn1⟩:∃n,n=lt.length:=⟨_,rfl⟩
 obtain⟨n3,hn3⟩:∃n,n=rt.length:=⟨_,rfl⟩
 rw[←hn1,←hn3]at hO2;simp only[←hn1,←hn3];rw[←hn1]at hltl;rw[←hn3]at hrtl;obtain⟨g,hg⟩:∃g,g=W4.heap.size:=⟨_,rfl⟩
 rw[←hg]at hO2 ⊢;have hil1:n1≤1048576:=oQ;have hrl3:n3≤1048576:=oQ;replace hO2:=Hd hO2;replace hltl:=Hd hltl;replace hrtl:=Hd hrtl;replace hn1:=Hd hn1;replace hn3:=Hd hn3;replace hlt:=Hd hlt;replace hrt:=Hd hrt;replace hg:=Hd hg;clear hW1 hOt hB4 hb0 hb1 hb2 hil hrl hs0;go_wp2;go_loopw [4] (fun i wr=>∃(j:Nat)(l:List (It×Value)),j≤n1∧i=.int .i64 j∧O2 q ⟨A1,c1,A2,c2,A3,c3⟩ w wr g (.slice B1 n1 d1) (.slice B2 q.wh.length d2) (.slice B3 n3 d3) l q.wh rt∧Hid (l.map (·.1)=tkd (otI q) q.items j)) (fun i _=>n1- (intOf i).toNat)
 case atStart=>exact⟨0,lt,zE _,rfl,hO2.out,(by show _=_;rw[tkd_0];exact hlt.out)⟩
 case round=>
 clear hO2 hlt;obtain⟨j,l,hj,rfl,hO2,hlm⟩:=hrel;have z0:wr.cell? ⟨g,0,none⟩=some (.slice B1 n1 d1):=hO2.q5.b4.cell 0;have hll:l.length=n1:=by
  have:=congrArg List.length hlm.out;unfold tkd at this;rw[xC,zH,zO,List.length_drop,otI_len]at this;have:=hltl.out;omega
 by_cases hlt:j<n1
 ·have g0:(0:Int)≤(j:Int):=oQ;have g1:(j:Int)<n1:=oQ;obtain⟨it,hit⟩:=getx (l:=q.items) (i:=j) (by have:=hltl.out;omega);obtain⟨p,hp⟩:=getx (l:=l) (i:=j) oQ;have hpe:p.1=it:=by
   have h1:=tkd_get (a:=otI q) hit (otI_len q);rw[←hlm.out,zG,hp]at h1;exact zq9 h1
  obtain⟨px,u⟩:=p;obtain rfl:px=it:=hpe;have hou:OL wr (w.heap.size+1+1) NoB 9 1 u px.tys.length (px.tys.flatMap strD):=hO2.oq.i.fr (px,u) (zA hp);obtain⟨Au,cu,rfl⟩:=hou.form;have hnx:=tkd_set (b:=q.items) (otI_at hit) (otI_len q);rw[←hlm.out]at hnx;obtain⟨gI,cI,eI,_⟩:=hO2.oq.i.kr.row (show 0<l.length by omega);injection eI with e1 e2 e3
  subst e1 e3;clear e2;have hgI:gI≠g:=fun e=>hO2.oq.i.kr.neBlk hO2.q5.b4 dQ (by rw[e];rfl)
  have hgB:=(hO2.oq.i.kr.lt gI rfl);have hkc:=k46.out j oQ wr.drew (hO2.q5.hb.trans ((bR).drew.mono hO2.q5.hb.size));have hO2d:=hO2.stay (zB wr.heap.size wr).drew;have kS:=fun W (hW:Bw wr W)=>(show W.cell? ⟨g,0,none⟩=some (.slice (some ⟨gI,0,none⟩) n1 d1)from(hO2.stay hW).q5.b4.cell 0)
  have hnm:=fun W (hW:Bw wr W)=>(show(∃x,W.cell? ⟨gI,j*5+2,none⟩=some x)∧W.frozen? ⟨gI,j*5+2,none⟩=false∧O2 q ⟨A1,c1,A2,c2,A3,c3⟩ w (W.setCell ⟨gI,j*5+2,none⟩ (.string (nmW j))) g (.slice (some ⟨gI,0,none⟩) n1 d1) (.slice B2 q.wh.length d2) (.slice B3 n3 d3) (l.set j ({px with v:=nmW j},.slice Au px.tys.length cu)) q.wh rt from by
   have hW2:=hO2.stay hW;obtain⟨cs,hB1,hbk,hnc,_,hcl,_,_⟩:=(show OL W (w.heap.size+1+1) NoB 53 5 (.slice (some ⟨gI,0,none⟩) n1 d1) n1 (l.flatMap icD)from hll▸hW2.oq.i.kr).blk;obtain⟨x,hx⟩:=getx (l:=cs) (i:=j*5+2) oQ;exact⟨⟨x,(hbk.cell _).trans hx⟩,hbk.frozen _,hW2.nm hll hp⟩)
  have hSS:=xW (kS wr.drew (bR).drew) trivial;obtain⟨wo,hwo⟩:∃wo:World,wo=wr:=⟨_,rfl⟩
  subst hwo;have hbO:=Hd hO2.q5.hb;replace kS:=Hd kS;replace hnm:=Hd hnm;replace hkc:=Hd hkc;replace hnx:=Hd hnx;replace hlm:=Hd hlm;replace hit:=Hd hit;replace hp:=Hd hp;replace hll:=Hd hll;replace hgB:=Hd hgB;clear hO2d hou hO2;go_upto_region 5 with fail
  clear z0;go_cut [] (fun W=>O2 q ⟨A1,c1,A2,c2,A3,c3⟩ w W g (.slice (some ⟨gI,0,none⟩) n1 d1) (.slice B2 q.wh.length d2) (.slice B3 n3 d3) (l.set j ({px with v:=nmW j},.slice Au px.tys.length cu)) q.wh rt)
  case first=>
   refine G_region (p:=100) (S0:=fun W=>W.cell? ⟨g,0,none⟩=some (.slice (some ⟨gI,0,none⟩) n1 d1)) (S1:=fun _=>True) kQ ?_;refine' TkB 0 rfl hSS ?_;try go_simp
   refine' TkB 1 rfl hSS ?_;try go_simp
   refine' TkB 2 rfl hSS ?_;try go_simp
   refine' TkB 3 rfl hSS ?_;try go_simp
   refine Gs 4 rfl fun K hK=>?_
   go_simp;go_at_call 46;refine hkc.out.mono ?_;rintro e W5 ⟨rfl,hB5⟩;have hU5:=(zB wo.heap.size wo).drew.trans hB5;obtain⟨⟨x5,c5⟩,f5,hO5⟩:=hnm.out W5 hU5;refine hK.out _ _ ⟨kS.out _ hU5,fun _=>trivial⟩ ?_;have hS6:(W5.setCell ⟨gI,j*5+2,none⟩ (.string (nmW j))).cell? ⟨g,0,none⟩=some (.slice (some ⟨gI,0,none⟩) n1 d1):=hO5.q5.b4.cell 0;replace hO5:=Hd hO5;clear hK K hSS hB5;have hSS:=xW (kS.out _ hU5) trivial;replace hU5:=Hd hU5;try go_simp
   refine' TkB 5 rfl hSS ?_;try go_simp
   refine' TkB 6 rfl hSS ?_;try go_simp
   refine Gs 7 rfl fun K hK=>?_
   go_simp;refine hK.out _ _ ⟨hS6,fun _=>trivial⟩ ?_;clear hK K;refine Gd _ ?_;go_wp2;go_meet;exact hO5.out
  case rest=>
  have hO6:=hcut;obtain⟨w6,hw6⟩:∃w6:World,w6=wc:=⟨_,rfl⟩
  subst hw6;obtain⟨l6,hl6⟩:∃l',l'=l.set j ({px with v:=nmW j},.slice Au px.tys.length cu):=⟨_,rfl⟩
  rw[←hl6]at hO6;have hp6:l6[j]? =some ({px with v:=nmW j},.slice Au px.tys.length cu):=by rw[hl6,xL,if_pos rfl,if_pos (by have:=hll.out;omega)]
  have hll6:l6.length=n1:=by rw[hl6,List.length_set];exact hll.out
  have hm6:l6.map (·.1)=(l.map (·.1)).set j {px with v:=nmW j}:=by rw[hl6,List.map_set]
  have hu6:OL w6 (w.heap.size+1+1) NoB 9 1 (.slice Au px.tys.length cu) px.tys.length (px.tys.flatMap strD):=hO6.oq.i.fr _ (zA hp6);have z0:w6.cell? ⟨g,0,none⟩=some (.slice (some ⟨gI,0,none⟩) n1 d1):=hO6.q5.b4.cell 0;have hor:∀W,O2 q ⟨A1,c1,A2,c2,A3,c3⟩ w W g (.slice (some ⟨gI,0,none⟩) n1 d1) (.slice B2 q.wh.length d2) (.slice B3 n3 d3) l6 q.wh rt→OL W (w.heap.size+1+1) NoB 53 5 (.slice (some ⟨gI,0,none⟩) n1 d1) n1 (l6.flatMap icD):=fun W h=>hll6▸h.oq.i.kr
  have z1:=((hor w6 hO6).icell hp6 (c:=1) (x:=.slice Au px.tys.length cu) rfl oQ).1;clear hcut;by_cases h1:1<px.tys.length
  ·have f1:(1:Int)<(px.tys.length:Int):=oQ;obtain⟨a,r,har⟩:∃a r,px.tys=a::r:=by
    cases hc:px.tys with
    |nil=>rw[hc]at h1;simp at h1
    |cons a r=>exact⟨a,r,rfl⟩
   have hrl:r.length=px.tys.length-1:=by rw[har];simp
   have hrot:(rot px.tys).flatMap strD=r.flatMap strD++strD a:=by rw[har];unfold rot;simp
   have hrtl2:(rot px.tys).length=px.tys.length:=rot_len _;have htyl:px.tys.length≤1048576:=(hits.out px (zA hit.out)).1.1;obtain⟨gu,capu,eu,_⟩:=hu6.row oQ;injection eu with e1 e2 e3
   subst e1 e3;clear e2;have htail:=fun W (hW:Bw w6 W)=>OL.tailS (r:=r) (a:=a) (by rw[←har];exact hu6.stay hW) oQ
   have hcap:px.tys.length≤cu:=by obtain⟨cs,_,_,h,_⟩:=hu6.blk;exact h
   have ka:=fun W (hW:Bw w6 W)=>(show W.cell? ⟨gu,0,none⟩=some (.string a)from by
    obtain⟨cs,hB,hb,hnc,hm,hcl,hdl,hr⟩:=(hu6.stay hW).blk;obtain⟨u,h2,h3⟩:=hr 0 (.v (.string a)) (by rw[har];rfl);rw[hb.cell,h2,h3.v_inv])
   rw[hrl]at htail;have k21:=fun W (hW:Bw w6 W)=>(show Calls Tryz.prog 21 #[.slice (some ⟨gu,1,none⟩) (px.tys.length-1) (cu-1)] W fun e w'=>∃v,e=.returned v∧OL w' W.heap.size NoB 9 1 v (px.tys.length-1) (r.flatMap strD)∧Bw W w' from by
    have:=evW.twinTexts_k (some ⟨gu,1,none⟩) (cu-1) (fun b=>b<W.heap.size) r oQ W (fun _ h=>h) (by rw[hrl];exact htail W hW);rw[hrl]at this;exact this)
   have hsz6:=hO6.q5.hb.size;have hlt6:=hO6.q5.lt;have hfin:=fun W (A':Option Addr)(c':Nat)(hW:Bw w6 W)(hv:OL W w6.heap.size NoB 9 1 (.slice A' px.tys.length c') px.tys.length (r.flatMap strD++strD a))=>(show(∃x,W.cell? ⟨gI,j*5+1,none⟩=some x)∧W.frozen? ⟨gI,j*5+1,none⟩=false∧O2 q ⟨A1,c1,A2,c2,A3,c3⟩ w (W.setCell ⟨gI,j*5+1,none⟩ (.slice A' px.tys.length c')) g (.slice (some ⟨gI,0,none⟩) n1 d1) (.slice B2 q.wh.length d2) (.slice B3 n3 d3) (l6.set j (otX j px,.slice A' px.tys.length c')) q.wh rt from by
    have hO7:=hO6.stay hW;have hc:=(hor W hO7).icell hp6 (c:=1) (x:=.slice (some ⟨gu,0,none⟩) px.tys.length cu) rfl oQ;refine⟨⟨_,hc.1⟩,hc.2,O2.ty (it:={px with v:=nmW j}) (tys:=rot px.tys) hO7 hll6 hp6 ?_ (hO6.oq.i.newer nR fun k hk=>(hv.lt k hk).1) rfl⟩;rw[hrtl2,hrot];exact hv.base oQ)
   have hnx6:Hid (∀A' c',(l6.set j (otX j px,Value.slice A' px.tys.length c')).map (·.1)=tkd (otI q) q.items (j+1)):=by
    show∀A' c',_
    intro A' c';rw[List.map_set,hm6,List.set_set];exact hnx.out
   have kS6:=fun W (hW:Bw w6 W)=>(show W.cell? ⟨g,0,none⟩=some (.slice (some ⟨gI,0,none⟩) n1 d1)∧W.cell? ⟨gu,0,none⟩=some (.string a)from⟨(hO6.stay hW).q5.b4.cell 0,ka W hW⟩)
   have hgu:gu≠gI:=fun e=>by
    rcases hu6.ne hO6.oq.i.kr dQ with h |h
    ·cases h
    ·exact h (by show some gu=some gI;rw[e])
   have kS7:=fun(W:World)(x:Value)(h:W.cell? ⟨g,0,none⟩=some (.slice (some ⟨gI,0,none⟩) n1 d1)∧W.cell? ⟨gu,0,none⟩=some (.string a))=>(show(W.setCell ⟨gI,j*5+1,none⟩ x).cell? ⟨g,0,none⟩=some (.slice (some ⟨gI,0,none⟩) n1 d1)∧(W.setCell ⟨gI,j*5+1,none⟩ x).cell? ⟨gu,0,none⟩=some (.string a)from by
    refine⟨?_,?_⟩
    ·rw[World.cell?_setCell_far _ _ _ _ (by show gI≠g;exact hgI)];exact h.1
    ·rw[World.cell?_setCell_far _ _ _ _ (by show gI≠gu;exact fun e=>hgu e.symm)];exact h.2)
   have hSS:=kS6 w6.drew (bR).drew;have hcap0:(1:Int)≤(cu:Int):=oQ;have hcap1:(px.tys.length:Int)≤(cu:Int):=oQ;have f2:(1:Int)≤(px.tys.length:Int):=oQ;have f3:(0:Int)<(px.tys.length:Int):=oQ;have f4:0<px.tys.length:=oQ;have f5:¬cu=1:=oQ;obtain⟨nt,hnt⟩:∃n,n=px.tys.length:=⟨_,rfl⟩
   simp only[←hnt]at*;replace kS6:=Hd kS6;replace kS7:=Hd kS7;replace k21:=Hd k21;replace hfin:=Hd hfin;replace hnt:=Hd hnt;replace har:=Hd har;replace hrl:=Hd hrl;replace hrot:=Hd hrot;replace hrtl2:=Hd hrtl2;replace hll6:=Hd hll6;replace hp6:=Hd hp6;replace hm6:=Hd hm6;replace hl6:=Hd hl6;replace hgI:=Hd hgI;replace hgu:=Hd hgu;clear htail ka hor hu6 hO6;go_upto_region 8 with fail
   clear z0 z1
   ·refine G_region (p:=100) (S0:=fun W=>W.cell? ⟨g,0,none⟩=some (.slice (some ⟨gI,0,none⟩) n1 d1)∧W.cell? ⟨gu,0,none⟩=some (.string a)) (S1:=fun _=>True) kQ ?_;replace hSS:=xW hSS trivial;refine' TkB 0 rfl hSS ?_;try go_simp
    refine' TkB 1 rfl hSS ?_;try go_simp
    refine' TkB 2 rfl hSS ?_;try go_simp
    refine' TkB 3 rfl hSS ?_;try go_simp
    refine' TkB 4 rfl hSS ?_;try go_simp
    refine' TkB 6 rfl hSS ?_;try go_simp
    refine' TkB 7 rfl hSS ?_;try go_simp
    refine' TkB 8 rfl hSS ?_;try go_simp
    refine G_fork (k1:=5) (k2:=9) kQ rfl rfl (fun K hK=>?_) (fun K hK=>?_)
    ·go_simp;go_at_call 21;refine(k21.out w6.drew (bR).drew).mono ?_;rintro e W8 ⟨v8,rfl,hO8,hB8⟩;obtain⟨A8,c8,rfl⟩:=hO8.form;have hU8:Bw w6 W8:=(zB w6.heap.size w6).drew.trans hB8;have hO8':OL W8 w6.heap.size NoB 9 1 (.slice A8 (nt-1) c8) (nt-1) (r.flatMap strD):=hO8;have hUa:Bw w6 (W8.alloc (.cells ⟨[.string a]⟩ 9)):=hU8.alloc hU8.size _;have hOa:=hO8'.alloc (.cells ⟨[.string a]⟩ 9);refine hK.out _ _ ⟨kS6.out _ hU8,fun _=>trivial⟩ ?_;have hSa:=kS6.out _ hUa;clear hK K hSS hB8 hO8 hO8';replace hUa:=Hd hUa;replace hU8:=Hd hU8;replace hOa:=Hd hOa;try go_simp
     refine Gs 9 rfl fun K hK=>?_
     go_simp;refine hK.out _ _ ⟨hSa,fun _=>trivial⟩ ?_;clear hK K;refine Gs 10 rfl fun K hK=>?_
     refine step_app (by rfl) (.tmp 40) (.tmp 44) _ (by rfl) (m:=1) (news:=strD a) elStr (hOa.out) (by rfl) (by rfl) (Src.lit (show RdL _ _ [.string a] (strD a)from⟨.v _ rfl,trivial⟩)) rfl oQ oQ (hUa.out.size) ?_;intro v' w9 hO9 hg9 ha9;rw[show nt-1+1=nt by omega]at hO9;obtain⟨A9,c9,rfl⟩:=hO9.form;have hU9:Bw w6 w9:=hUa.out.grown hg9 hUa.out.size (fun k hk=>((hOa.out).lt k hk).1);obtain⟨⟨x9,c9x⟩,f9,hO9f⟩:=hfin.out w9 A9 c9 hU9 hO9;have hS9:=kS6.out w9 hU9;have hS10:=kS7.out w9 (.slice A9 nt c9) hS9;refine hK.out _ _ ⟨hS9,fun _=>trivial⟩ ?_;replace hO9f:=Hd hO9f;clear hK K hO9 hg9 ha9 hU9;have hSS:=xW hS9 trivial;try go_simp
     refine' TkB 11 rfl hSS ?_;try go_simp
     refine' TkB 12 rfl hSS ?_;try go_simp
     refine Gs 13 rfl fun K hK=>?_
     go_simp;refine hK.out _ _ ⟨hS10,fun _=>trivial⟩ ?_;clear hK K;refine Gd _ ?_;go_wp2;go_roundw
     case rel=>exact⟨j+1,_,oQ,gQ,hO9f.out,hnx6.out A9 c9⟩
     case measure=>exact mQ
    ·go_simp;have hUa:Bw w6 (w6.alloc (.cells ⟨[.string a]⟩ 9)).drew:=((zB w6.heap.size w6).alloc nR _).drew;have hBa:Blk (w6.alloc (.cells ⟨[.string a]⟩ 9)).drew w6.heap.size 9 [.string a]:=(Blk.new w6 9 [.string a]).stay (bR).drew;refine hK.out _ _ ⟨kS6.out _ hUa,fun _=>trivial⟩ ?_;generalize (w6.alloc (.cells ⟨[.string a]⟩ 9)).drew=W7 at*;clear hK K hSS;replace hUa:=Hd hUa;replace hBa:=Hd hBa;try go_simp
     refine Gs 5 rfl fun K hK=>?_
     go_simp;go_at_call 21;refine(k21.out W7 hUa.out).mono ?_;rintro e W8 ⟨v8,rfl,hO8,hB8⟩;obtain⟨A8,c8,rfl⟩:=hO8.form;have hU8:=Hd (hUa.out.trans (hB8.mono hUa.out.size));have hB8':=Hd (hBa.out.stay hB8);have hOa:=Hd (hO8.base hUa.out.size);refine hK.out _ _ ⟨kS6.out _ hU8.out,fun _=>trivial⟩ ?_;clear hK K hB8 hO8;try go_simp
     refine Gs 10 rfl fun K hK=>?_
     refine step_app (by rfl) (.tmp 40) (.tmp 44) _ (by rfl) (m:=1) (news:=strD a) elStr (hOa.out) (by rfl) (by rfl) (Src.blkS hB8'.out) rfl oQ oQ (hU8.out.size) ?_;intro v' w9 hO9 hg9 ha9;rw[show nt-1+1=nt by omega]at hO9;obtain⟨A9,c9,rfl⟩:=hO9.form;have hU9:Bw w6 w9:=hU8.out.grown hg9 hU8.out.size (fun k hk=>((hOa.out).lt k hk).1);obtain⟨⟨x9,c9x⟩,f9,hO9f⟩:=hfin.out w9 A9 c9 hU9 hO9;have hS9:=kS6.out w9 hU9;have hS10:=kS7.out w9 (.slice A9 nt c9) hS9;refine hK.out _ _ ⟨hS9,fun _=>trivial⟩ ?_;replace hO9f:=Hd hO9f;clear hK K hO9 hg9 ha9 hU9;have hSS:=xW hS9 trivial;try go_simp
     refine' TkB 11 rfl hSS ?_;try go_simp
     refine' TkB 12 rfl hSS ?_;try go_simp
     refine Gs 13 rfl fun K hK=>?_
     go_simp;refine hK.out _ _ ⟨hS10,fun _=>trivial⟩ ?_;clear hK K;refine Gd _ ?_;go_wp2;go_roundw
     case rel=>exact⟨j+1,_,oQ,gQ,hO9f.out,hnx6.out A9 c9⟩
     case measure=>exact mQ
  ·have f1:¬(1:Int)<(px.tys.length:Int):=oQ;have hnx6:Hid (l6.map (·.1)=tkd (otI q) q.items (j+1)):=by
    show _=_
    rw[hm6,←ot_same (j:=j) h1];exact hnx.out
   replace hO6:=Hd hO6;replace hl6:=Hd hl6;replace hp6:=Hd hp6;replace hll6:=Hd hll6;replace hm6:=Hd hm6;replace hgI:=Hd hgI;clear hor hu6;go_wp2;go_roundw
   case rel=>exact⟨j+1,l6,oQ,gQ,hO6.out,hnx6⟩
   case measure=>exact mQ
 have g1:¬(j:Int)<n1:=oQ;obtain rfl:j=n1:=oQ;have hlm2:l.map (·.1)=otI q:=by
  rw[hlm.out];exact tkd_end (by rw[otI_len];exact hltl.out.symm) hltl.out.symm
 obtain⟨f,hf⟩:∃f:List Nd→List Nd,f=fun t=>t.map (rnW q):=⟨_,rfl⟩
 have k47f:=fun(Ax:Option Addr)(cx:Nat) t hl rx W hW=>(show Calls Tryz.prog 47 _ W (TrPost (f t) W)from by rw[hf];exact k47.out Ax cx t hl rx W hW)
 replace hlm2:=Hd hlm2;replace hf:=Hd hf;replace hll:=Hd hll;replace k47f:=Hd k47f;replace hO2:=Hd hO2;clear k47 hlm g1;obtain⟨wo,hwo⟩:∃wo:World,wo=wr:=⟨_,rfl⟩
 subst hwo;go_wp2;clear z0;go_loopw [6] (fun i wr=>∃(k:Nat)(rl:List (List Nd×Value)),k≤n3∧i=.int .i64 k∧O2 q ⟨A1,c1,A2,c2,A3,c3⟩ w wr g (.slice B1 j d1) (.slice B2 q.wh.length d2) (.slice B3 n3 d3) l q.wh rl∧Hid (rl.map (·.1)=tkd (q.ret.map f) q.ret k)) (fun i _=>n3- (intOf i).toNat)
 case atStart=>exact⟨0,rt,zE _,rfl,hO2.out,(by show _=_;rw[tkd_0];exact hrt.out)⟩
 case round=>
 clear hO2 hrt;obtain⟨k,rl,hk,rfl,hO2,hrm⟩:=hrel;have z6:wr.cell? ⟨g,6,none⟩=some (.slice B3 n3 d3):=hO2.q5.b4.cell 6;have hrll:rl.length=n3:=by
  have:=congrArg List.length hrm.out;unfold tkd at this;rw[xC,zH,zO,List.length_drop,xC]at this;have:=hrtl.out;omega
 by_cases hlt3:k<n3
 ·have g0:(0:Int)≤(k:Int):=oQ;have g1:(k:Int)<n3:=oQ;obtain⟨t,ht⟩:=getx (l:=q.ret) (i:=k) (by have:=hrtl.out;omega);have g2:(k:Int)<q.ret.length:=by have:=(zC.1 ht).1;omega
  obtain⟨p,hp⟩:=getx (l:=rl) (i:=k) oQ;obtain⟨px,u⟩:=p;have hnx:=tkd_set (a:=q.ret.map f) (b:=q.ret) (j:=k) (x:=f t) (by rw[zG,ht];rfl) (by rw[xC]);rw[←hrm.out]at hnx;obtain⟨gR,oR,At5,ct5,eR,hFR,rt0,r0⟩:=kre.out k t ht;try simp only at eR
  subst eR;have hgR:=hF.out gR hFR;obtain⟨g3,cI,eI,_⟩:=hO2.oq.r.kr.row (show 0<rl.length by omega);injection eI with e1 e2 e3
  subst e1 e3;clear e2;have hgg:g3≠g:=fun e=>hO2.oq.r.kr.neBlk hO2.q5.b4 dQ (by rw[e];rfl)
  have hgB:=(hO2.oq.r.kr.lt g3 rfl);have hbw:=hO2.q5.hb.size;have hkc:=k47f.out At5 ct5 t (hres.out t (zA ht)).1 rt0 wr.drew (hO2.q5.hb.trans ((bR).drew.mono hO2.q5.hb.size));have kS:=fun W (hW:Bw wr W)=>(show(W.cell? ⟨w.heap.size,0,none⟩=some (.slice A1 q.items.length c1)∧W.cell? ⟨w.heap.size,1,none⟩=some (.int .i64 q.mode)∧W.cell? ⟨w.heap.size,2,none⟩=some (.int .i64 q.after)∧W.cell? ⟨w.heap.size,3,none⟩=some (.slice A2 q.wh.length c2)∧W.cell? ⟨w.heap.size,4,none⟩=some (.int .i64 q.within)∧W.cell? ⟨w.heap.size,5,none⟩=some (.string q.by_)∧W.cell? ⟨w.heap.size,6,none⟩=some (.slice (some ⟨gR,oR,none⟩) q.ret.length c3))∧W.cell? ⟨g,6,none⟩=some (.slice (some ⟨g3,0,none⟩) n3 d3)∧W.cell? ⟨gR,oR+k,none⟩=some (.slice At5 t.length ct5)from⟨cq (hO2.stay hW).q5,(hO2.stay hW).q5.b4.cell 6,((hO2.stay hW).q5.hb.cell (p:=⟨gR,oR+k,none⟩) hgR).trans r0⟩)
  have hre:=fun W (A':Option Addr)(c':Nat)(hW:Bw wr W)(hv:OL W wr.heap.size NoB 96 6 (.slice A' (f t).length c') (f t).length ((f t).flatMap ndD))=>(show(∃x,W.cell? ⟨g3,k,none⟩=some x)∧W.frozen? ⟨g3,k,none⟩=false∧O2 q ⟨A1,c1,A2,c2,some ⟨gR,oR,none⟩,c3⟩ w (W.setCell ⟨g3,k,none⟩ (.slice A' (f t).length c')) g (.slice B1 j d1) (.slice B2 q.wh.length d2) (.slice (some ⟨g3,0,none⟩) n3 d3) l q.wh (rl.set k (f t,.slice A' (f t).length c'))from by
   have hW2:=hO2.stay hW;have hc:=OL.rcell (show OL W (w.heap.size+1+1) NoB 28 1 (.slice (some ⟨g3,0,none⟩) n3 d3) n3 (rl.flatMap rcD)from hrll▸hW2.oq.r.kr) hp;have hlt6:=hO2.q5.lt;refine⟨⟨_,hc.1⟩,hc.2,hW2.re hrll hp (hv.base oQ) (hO2.oq.r.newer nR fun b hb=>(hv.lt b hb).1) (ne_sym ?_) rfl⟩;cases hq:(Value.slice A' (f t).length c').ownBlock with
   |none=>exact .inl rfl
   |some b=>exact .inr fun e=>(by have h1:=(hv.lt b hq).1;have h2:=(hO2.oq.wr.lt b e.symm).2;omega))
  have kS7:=fun(W:World)(x:Value)(h:(W.cell? ⟨w.heap.size,0,none⟩=some (.slice A1 q.items.length c1)∧W.cell? ⟨w.heap.size,1,none⟩=some (.int .i64 q.mode)∧W.cell? ⟨w.heap.size,2,none⟩=some (.int .i64 q.after)∧W.cell? ⟨w.heap.size,3,none⟩=some (.slice A2 q.wh.length c2)∧W.cell? ⟨w.heap.size,4,none⟩=some (.int .i64 q.within)∧W.cell? ⟨w.heap.size,5,none⟩=some (.string q.by_)∧W.cell? ⟨w.heap.size,6,none⟩=some (.slice (some ⟨gR,oR,none⟩) q.ret.length c3))∧W.cell? ⟨g,6,none⟩=some (.slice (some ⟨g3,0,none⟩) n3 d3)∧W.cell? ⟨gR,oR+k,none⟩=some (.slice At5 t.length ct5))=>(show((W.setCell ⟨g3,k,none⟩ x).cell? ⟨w.heap.size,0,none⟩=some (.slice A1 q.items.length c1)∧(W.setCell ⟨g3,k,none⟩ x).cell? ⟨w.heap.size,1,none⟩=some (.int .i64 q.mode)∧(W.setCell ⟨g3,k,none⟩ x).cell? ⟨w.heap.size,2,none⟩=some (.int .i64 q.after)∧(W.setCell ⟨g3,k,none⟩ x).cell? ⟨w.heap.size,3,none⟩=some (.slice A2 q.wh.length c2)∧(W.setCell ⟨g3,k,none⟩ x).cell? ⟨w.heap.size,4,none⟩=some (.int .i64 q.within)∧(W.setCell ⟨g3,k,none⟩ x).cell? ⟨w.heap.size,5,none⟩=some (.string q.by_)∧(W.setCell ⟨g3,k,none⟩ x).cell? ⟨w.heap.size,6,none⟩=some (.slice (some ⟨gR,oR,none⟩) q.ret.length c3))∧(W.setCell ⟨g3,k,none⟩ x).cell? ⟨g,6,none⟩=some (.slice (some ⟨g3,0,none⟩) n3 d3)∧(W.setCell ⟨g3,k,none⟩ x).cell? ⟨gR,oR+k,none⟩=some (.slice At5 t.length ct5)from by
   have a1:w.heap.size≠g3:=oQ;have a2:g3≠gR:=oQ;obtain⟨⟨h0,h1,h2,h3,h4,h5,h6⟩,h7,h8⟩:=h;refine⟨⟨?_,?_,?_,?_,?_,?_,?_⟩,?_,?_⟩<;>rw[World.cell?_setCell_far _ _ _ _ (by first|(show g3≠w.heap.size;omega)|(show g3≠g;exact hgg)|(show g3≠gR;omega))]<;>assumption)
  have hSS:=kS wr.drew (bR).drew;have hnx6:Hid (∀A' c',(rl.set k (f t,Value.slice A' (f t).length c')).map (·.1)=tkd (q.ret.map f) q.ret (k+1)):=by
   show∀A' c',_
   intro A' c';rw[List.map_set];exact hnx
  obtain⟨wo2,hwo2⟩:∃wo:World,wo=wr:=⟨_,rfl⟩
  subst hwo2;replace hSS:=xW hSS trivial;replace kS:=Hd kS;replace kS7:=Hd kS7;replace hre:=Hd hre;replace hkc:=Hd hkc;replace hnx:=Hd hnx;replace hrm:=Hd hrm;replace ht:=Hd ht;replace hp:=Hd hp;replace hrll:=Hd hrll;replace hgB:=Hd hgB;replace hgg:=Hd hgg;replace rt0:=Hd rt0;clear hO2 r0;go_upto_region 12 with fail
  clear z6
  ·refine G_region (p:=100) (S0:=fun W=>(W.cell? ⟨w.heap.size,0,none⟩=some (.slice A1 q.items.length c1)∧W.cell? ⟨w.heap.size,1,none⟩=some (.int .i64 q.mode)∧W.cell? ⟨w.heap.size,2,none⟩=some (.int .i64 q.after)∧W.cell? ⟨w.heap.size,3,none⟩=some (.slice A2 q.wh.length c2)∧W.cell? ⟨w.heap.size,4,none⟩=some (.int .i64 q.within)∧W.cell? ⟨w.heap.size,5,none⟩=some (.string q.by_)∧W.cell? ⟨w.heap.size,6,none⟩=some (.slice (some ⟨gR,oR,none⟩) q.ret.length c3))∧W.cell? ⟨g,6,none⟩=some (.slice (some ⟨g3,0,none⟩) n3 d3)∧W.cell? ⟨gR,oR+k,none⟩=some (.slice At5 t.length ct5)) (S1:=fun _=>True) kQ ?_;refine' TkB 0 rfl hSS ?_;try go_simp
   refine' TkB 1 rfl hSS ?_;try go_simp
   refine' TkB 2 rfl hSS ?_;try go_simp
   refine' TkB 3 rfl hSS ?_;try go_simp
   refine' TkB 4 rfl hSS ?_;try go_simp
   refine' TkB 5 rfl hSS ?_;try go_simp
   refine' TkB 6 rfl hSS ?_;try go_simp
   refine' TkB 7 rfl hSS ?_;try go_simp
   refine' TkB 8 rfl hSS ?_;try go_simp
   refine Gs 9 rfl fun K hK=>?_
   go_simp;go_at_call 47;refine hkc.out.mono ?_;rintro e W8 ⟨v8,rfl,hO8,hB8⟩;obtain⟨A8,c8,rfl⟩:=hO8.form;have hU8:Bw wo2 W8:=(zB wo2.heap.size wo2).drew.trans hB8;obtain⟨⟨x9,c9x⟩,f9,hO9⟩:=hre.out W8 A8 c8 hU8 hO8;have hS8:=kS.out _ hU8;have hS9:=kS7.out W8 (.slice A8 (f t).length c8) hS8;refine hK.out _ _ ⟨hS8,fun _=>trivial⟩ ?_;replace hO9:=Hd hO9;clear hK K hSS hB8 hO8 hU8;have hSS:=xW hS8 trivial;try go_simp
   refine' TkB 10 rfl hSS ?_;try go_simp
   refine Gs 11 rfl fun K hK=>?_
   go_simp;refine hK.out _ _ ⟨hS9,fun _=>trivial⟩ ?_;clear hK K;refine Gd _ ?_;go_wp2;go_roundw
   case rel=>exact⟨k+1,_,oQ,gQ,hO9.out,hnx6.out A8 c8⟩
   case measure=>exact mQ
 have g1:¬(k:Int)<n3:=oQ;obtain rfl:k=n3:=oQ;have hrm2:rl.map (·.1)=q.ret.map f:=by
  rw[hrm.out];exact tkd_end (by rw[xC];exact hrtl.out.symm) hrtl.out.symm
 rw[hf.out]at hrm2;obtain⟨w5,hw5⟩:∃w5:World,w5=wr:=⟨_,rfl⟩
 subst hw5;obtain⟨y0,y1,y2,y3,y4,y5,y6⟩:=cq hO2.q5;have hkw:=Hd (hk47w.out w5 hO2.q5.hb);replace hO2:=Hd hO2;replace hrm2:=Hd hrm2;replace hrll:=Hd hrll;clear hrm hk47w;go_upto_region 14 with(go_at_call 47;refine hkw.out.mono ?_;rintro e W6 ⟨v6,rfl,hO6,hB6⟩;obtain⟨Aw,cw,rfl⟩:=hO6.form)
 clear y0 y1 y2 y3 y4 y5 y6 z6 hkw;have hO26:=hO2.out.stay hB6;have hb5:=hO2.out.q5.hb.size;have hlg5:=hO2.out.q5.lt;have hlg6:=hO2.out.q5.b4.lt;have hww:OL W6 (w.heap.size+1+1) NoB 96 6 (.slice Aw tw.length cw) tw.length (tw.flatMap ndD):=hO6.base oQ;have hrd6:Rd W6 (fun b=>b<W6.heap.size) (.slice Aw tw.length cw) (.sl tw.length (tw.flatMap ndD)):=hO6.rd (fun b hb _=>hb.elim) (fun b _ h=>h);have hsz6:=hB6.size;cases htb:treeB tw with
 |false=>
  have hk:=Hd (k26F.out Aw cw tw hwN.out htb W6 hO26.q5.hb hrd6);have hwq:q.wh=(otQ q).wh:=by
   show q.wh=othW (q.wh.map (rnW q)) q.wh
   rw[oth_no (by rw[←htw.out];exact htb)]
  replace hO26:=Hd hO26;replace hwq:=Hd hwq;replace htb:=Hd htb;clear hww hrd6 hO6 hB6 hO2;go_upto_region 15 with(go_at_call 26;refine hk.out.mono ?_;rintro e W7 ⟨v7,rfl,hO7,hB7⟩;obtain⟨Ar,cr,rfl⟩:=hO7.form;replace hO7:=Hd hO7)
  have hM:=hO26.out.stay hB7;obtain⟨b0,b1,b2,b3,b4,b5,b6⟩:=qu_cells hM.q5.b4;replace hM:=Hd hM;clear hk hB7 hO26;go_wp2_with (refine at_op (.store 31 (.tmp 2) (.tmp 75)) rfl ?_;refine wsb rfl 31 (.tmp 2) (.tmp 75) rfl (cs':=quV q (.slice B1 j d1) (.slice B2 q.wh.length d2) (.slice B3 k d3) q.by_) hM.out.q5.b2 aggQu rfl rfl rfl rfl ?_;intro w8 hz8 hg8);exact bpa rfl hz8 aggQu rfl rfl (other_fin ((hM.out.oq.under hg8 (show w.heap.size+1<w.heap.size+1+1 by omega)).base oQ) hwq.out hlm2.out hrm2.out (hM.out.q5.hb.grown hg8 hM.out.q5.hb.size (fun qq hq=>by injection hq with hq;omega)))
 |true=>
  have hk:=Hd (k26T.out Aw cw tw hwN.out htb W6 hO26.q5.hb hrd6);obtain⟨r,rest,hcr⟩:∃r rest,conjs tw=r::rest:=by
   cases hc:conjs tw with
   |nil=>exact absurd hc (cjF_ne _ _ _)
   |cons r rs=>exact⟨r,rs,rfl⟩
  have hwq:ptW tw (conjs tw) r 0=(otQ q).wh:=by
   show _=othW (q.wh.map (rnW q)) q.wh
   rw[←htw.out,oth_yes htb hcr]
  have hcl:=conjs_len htb;have hmem:∀(i x:Nat),(conjs tw)[i]? =some x→x∈conjs tw:=fun i x h=>zA h
  have hr0:(conjs tw)[0]? =some r:=by rw[hcr];rfl
  have hrm:=hmem 0 r hr0;have hpl:=fun m=>ptW_len htb hrm (k:=m)
  have hpn:=fun(m x:Nat)(h:(conjs tw)[m]? =some x)=>ptW_next (t:=tw) (l:=conjs tw) (r:=r) h
  have hpe:=ptW_end (t:=tw) (r:=r) (zD (conjs tw).length);have ksub:=fun(x:Nat)(hx:x∈conjs tw) W (hW:Bw w W) rd=>k27.out Aw cw tw hwN.out htb x hx W hW rd
  have hab:=fun(x:Nat)(hx:x∈conjs tw)=>sub_ab htb hx
  obtain⟨rs,hrs⟩:∃rs,rs=conjs tw:=⟨_,rfl⟩
  rw[←hrs]at hk hwq hcl hmem hr0 hrm hpl hpn hpe ksub hab;have hrl0:0<rs.length:=(zC.1 hr0).1;have nw:IntKind.i64.wrap ((rs.length:Int) -1)=(rs.length:Int) -1:=by rw[xI];have:=htl.out;omega
  have hrb:rs.length≤1048576:=by have:=htl.out;omega
  have r0:(0:Int)<(rs.length:Int):=oQ;have r1:¬((rs.length:Int)=0):=oQ;have r2:=beqF r1;replace hO26:=Hd hO26;replace hwq:=Hd hwq;replace htb:=Hd htb;replace hww:=Hd hww;replace hcr:=Hd hcr;replace hmem:=Hd hmem;replace hpl:=Hd hpl;replace hpn:=Hd hpn;replace hpe:=Hd hpe;replace ksub:=Hd ksub;replace hab:=Hd hab;replace hrs:=Hd hrs;replace hcl:=Hd hcl;clear hrd6 hO6 hB6 hO2;go_upto_region 15 with(go_at_call 26;refine hk.out.mono ?_;rintro e W7 ⟨v7,rfl,hO7,hB7⟩;obtain⟨gr,cr,rfl,_⟩:=hO7.row hrl0)
  have hI7:O3 q ⟨A1,c1,A2,c2,A3,c3⟩ w W7 g (.slice B1 j d1) (.slice B2 q.wh.length d2) (.slice B3 k d3) l q.wh rl Aw (some ⟨gr,0,none⟩) cw cr tw rs:=⟨hO26.out.stay hB7,hww.out.stay hB7,hO7.base oQ⟩;have x0:=hI7.rr.ccell hr0;have hk2:=Hd (ksub.out r hrm W7 hI7.o.q5.hb (hI7.ww.rd (fun b hb _=>hb.elim) (fun b _ h=>h)));have hsz7:=hI7.o.q5.hb.size;replace hI7:=Hd hI7;clear hk hB7 hO26 hO7 hww;go_upto_region 18 with(go_at_call 27;refine hk2.out.mono ?_;rintro e W8 ⟨v8,rfl,hO8,hB8⟩;obtain⟨A8,c8,rfl⟩:=hO8.form;have z3:=(hI7.out.stay hB8).o.q5.b4.cell 3;have fz3:=(hI7.out.stay hB8).o.q5.b4.frozen 3)
  have hI8:=(hI7.out.stay hB8).putWh (hO8.base (by have:=hI7.out.o.q5.b4.lt;have:=hI7.out.o.q5.lt;omega)) (hI7.out.o.fresh nR fun b hb=>(hO8.lt b hb).1);rw[show subT tw r=ptW tw rs r rs.length from hpe.out.symm]at hI8 ⊢;generalize W8.setCell _ _=W9 at*;replace hI8:=Hd hI8;clear hI7 hO8 hB8 z3 fz3 hk2 x0;go_wp2;go_loopw [9] (fun i wr=>∃(m:Nat)(A':Option Addr)(c':Nat),m≤rs.length∧i=.int .i64 ((m:Int) -1)∧O3 q ⟨A1,c1,A2,c2,A3,c3⟩ w wr g (.slice B1 j d1) (.slice A' (ptW tw rs r m).length c') (.slice B3 k d3) l (ptW tw rs r m) rl Aw (some ⟨gr,0,none⟩) cw cr tw rs) (fun i _=>(intOf i+1).toNat)
  case atStart=>exact⟨rs.length,A8,c8,nR,rfl,hI8.out⟩
  case round=>
  clear hI8;obtain⟨m,A',c',hm,hi,hI⟩:=hrel;by_cases hm0:m=0
  ·subst hm0;obtain rfl:=(hi.trans rfl:_=Value.int .i64 (-1));clear hi;obtain⟨b0,b1,b2,b3,b4,b5,b6⟩:=qu_cells hI.o.q5.b4;replace hI:=Hd hI;go_wp2_with (refine at_op (.store 31 (.tmp 2) (.tmp 99)) rfl ?_;refine wsb rfl 31 (.tmp 2) (.tmp 99) rfl (cs':=quV q (.slice B1 j d1) (.slice A' (ptW tw rs r 0).length c') (.slice B3 k d3) q.by_) hI.out.o.q5.b2 aggQu rfl rfl rfl rfl ?_;intro w8 hz8 hg8);exact bpa rfl hz8 aggQu rfl rfl (other_fin ((hI.out.o.oq.under hg8 (show w.heap.size+1<w.heap.size+1+1 by omega)).base oQ) hwq.out hlm2.out hrm2.out (hI.out.o.q5.hb.grown hg8 hI.out.o.q5.hb.size (fun qq hq=>by injection hq with hq;omega)))
  obtain⟨i,rfl⟩:∃i,m=i+1:=⟨m-1,oQ⟩
  obtain rfl:=(hi.trans (by congr 1;omega):_=Value.int .i64 (i:Int));clear hi hm0;obtain⟨x,hx⟩:=getx (l:=rs) (i:=i) oQ;have hxm:=hmem.out i x hx;have hnx:=hpn.out i x hx;have hpl0:=hpl.out i;have hpl1:=hpl.out (i+1);have q0:(0:Int)≤(i:Int):=oQ;have q1:(i:Int)<rs.length:=oQ;have hxr:=hI.rr.ccell hx;have hbs:=hI.o.q5.hb.size;have hlt6:=hI.o.q5.lt;have hgl6:=hI.o.q5.b4.lt;have kS:=fun W (hW:Bw wr W)=>(show W.cell? ⟨gr,i,none⟩=some (.int .i64 (x:Nat))from(hI.stay hW).rr.ccell hx)
  have kS1:=fun W (hW:Bw wr W)=>(show W.cell? ⟨g,3,none⟩=some (.slice A' (ptW tw rs r (i+1)).length c')from(hI.stay hW).o.q5.b4.cell 3)
  have hk3:=Hd (ksub.out x hxm wr.drew (hI.o.q5.hb.trans ((bR).drew.mono hbs)) ((hI.stay (bR).drew).ww.rd (fun b hb _=>hb.elim) (fun b _ h=>h)));have hlen:(ptW tw rs r (i+1)).length+(subT tw x).length+1≤1048576:=by
   rw[hnx,cjn_len]at hpl0;have:=htl.out;omega
  have kcj:=fun W (A8:Option Addr)(c8:Nat)(hW:Bw wr W)(hv:OL W wr.heap.size NoB 96 6 (.slice A8 (subT tw x).length c8) (subT tw x).length ((subT tw x).flatMap ndD))=>(show Calls Tryz.prog 48 #[.slice A' (ptW tw rs r (i+1)).length c',.slice A8 (subT tw x).length c8] W (TrPost (ptW tw rs r i) W)from by
   rw[hnx];exact conjoined_k A' A8 c' c8 (fun b=>b<W.heap.size) _ _ hlen (hab.out x hxm) W (fun _ h=>h) ((hI.stay hW).o.oq.wr.rd (fun b hb _=>hb.elim) (fun b _ h=>h)) (hv.rd (fun b hb _=>hb.elim) (fun b _ h=>h)))
  have hfin:=fun W (A9:Option Addr)(c9:Nat)(hW:Bw wr W)(hv:OL W wr.heap.size NoB 96 6 (.slice A9 (ptW tw rs r i).length c9) (ptW tw rs r i).length ((ptW tw rs r i).flatMap ndD))=>(show(∃y,W.cell? ⟨g,3,none⟩=some y)∧W.frozen? ⟨g,3,none⟩=false∧O3 q ⟨A1,c1,A2,c2,A3,c3⟩ w (W.setCell ⟨g,3,none⟩ (.slice A9 (ptW tw rs r i).length c9)) g (.slice B1 j d1) (.slice A9 (ptW tw rs r i).length c9) (.slice B3 k d3) l (ptW tw rs r i) rl Aw (some ⟨gr,0,none⟩) cw cr tw rs from
   ⟨⟨_,kS1 W hW⟩,(hI.stay hW).o.q5.b4.frozen 3,(hI.stay hW).putWh (hv.base oQ) (hI.o.fresh nR fun b hb=>(hv.lt b hb).1)⟩)
  have hgr:gr≠g:=fun e=>hI.rr.neBlk hI.o.q5.b4 dQ (by rw[e];rfl)
  have kS7:=fun(W:World)(y:Value)(h:W.cell? ⟨gr,i,none⟩=some (.int .i64 (x:Nat)))=>(show(W.setCell ⟨g,3,none⟩ y).cell? ⟨gr,i,none⟩=some (.int .i64 (x:Nat))from by
   rw[World.cell?_setCell_far _ _ _ _ (by show g≠gr;exact fun e=>hgr e.symm)];exact h)
  have hSS:=xW (kS wr.drew (bR).drew) (kS1 wr.drew (bR).drew);obtain⟨wo2,hwo2⟩:∃wo:World,wo=wr:=⟨_,rfl⟩
  subst hwo2;obtain⟨sb,hsb⟩:∃sb,sb=subT tw x:=⟨_,rfl⟩
  rw[←hsb]at hk3 kcj;obtain⟨pn,hpn2⟩:∃pn,pn=ptW tw rs r i:=⟨_,rfl⟩
  rw[←hpn2]at kcj hfin;obtain⟨po,hpo⟩:∃po,po=ptW tw rs r (i+1):=⟨_,rfl⟩
  rw[←hpo]at kcj hSS kS1;have hki:i≤rs.length:=oQ;replace kS:=Hd kS;replace kS1:=Hd kS1;replace kS7:=Hd kS7;replace kcj:=Hd kcj;replace hfin:=Hd hfin;replace hsb:=Hd hsb;replace hpn2:=Hd hpn2;replace hpo:=Hd hpo;replace hx:=Hd hx;replace hxm:=Hd hxm;replace hnx:=Hd hnx;replace hpl0:=Hd hpl0;replace hpl1:=Hd hpl1;replace hlen:=Hd hlen;replace hgr:=Hd hgr;clear hI hxr;go_upto_region 21 with fail
  ·refine G_region (p:=8) (S0:=fun W=>W.cell? ⟨gr,i,none⟩=some (.int .i64 (x:Nat))) (S1:=fun W=>W.cell? ⟨g,3,none⟩=some (.slice A' po.length c')) kQ ?_;refine' TkB 0 rfl hSS ?_;try go_simp
   refine' G_take1 (i:=1) (v:=_) rfl dQ kQ kQ kQ rfl kQ kQ (fun _ _ _ h=>h) hSS (.inl ⟨by rfl,?hyd1⟩) ?restd1
   case hyd1=>(intro W hW;(try dsimp only at hW);go_simp<;>with_reducible rfl)
   try go_simp
   refine' TkB 2 rfl hSS ?_;try go_simp
   refine' TkB 3 rfl hSS ?_;try go_simp
   refine' TkB 4 rfl hSS ?_;try go_simp
   refine' TkB 5 rfl hSS ?_;try go_simp
   refine' TkB 6 rfl hSS ?_;try go_simp
   clear hSS;refine Gs 7 rfl fun K hK=>?_
   go_simp;go_at_call 27;refine hk3.out.mono ?_;rintro e W8 ⟨v8,rfl,hO8,hB8⟩;obtain⟨A8,c8,rfl⟩:=hO8.form;have hU8:Bw wo2 W8:=(zB wo2.heap.size wo2).drew.trans hB8;have hk4:=Hd (kcj.out W8 A8 c8 hU8 hO8);refine hK.out _ _ ⟨kS.out _ hU8,fun _=>kS1.out _ hU8⟩ ?_;replace hU8:=Hd hU8;clear hK K hB8 hO8;try go_simp
   refine Gs 8 rfl fun K hK=>?_
   go_simp;go_at_call 48;refine hk4.out.mono ?_;rintro e W9 ⟨v9,rfl,hO9,hB9⟩;obtain⟨A9,c9,rfl⟩:=hO9.form;have hU9:Bw wo2 W9:=hU8.out.trans (hB9.mono hU8.out.size);obtain⟨⟨y9,z9⟩,f9,hI9⟩:=hfin.out W9 A9 c9 hU9 (hO9.base hU8.out.size);have hS9:=kS.out _ hU9;have hS10:=kS7.out W9 (.slice A9 pn.length c9) hS9;refine hK.out _ _ ⟨hS9,fun h=>absurd (h.symm.trans (by kernel_rfl:_=true)) sJ⟩ ?_;replace hI9:=Hd hI9;clear hK K hB9 hO9 hU9;try go_simp
   refine Gs 9 rfl fun K hK=>?_
   go_simp;refine hK.out _ _ ⟨hS9,fun h=>absurd (h.symm.trans (by kernel_rfl:_=true)) sJ⟩ ?_;clear hK K;refine Gs 10 rfl fun K hK=>?_
   go_simp;refine hK.out _ _ ⟨hS10,fun h=>absurd (h.symm.trans (by kernel_rfl:_=true)) sJ⟩ ?_;clear hK K;refine Gd _ ?_;have hI10:=hI9.out;rw[hpn2.out]at hI10;replace hI10:=Hd hI10;go_wp2;go_roundw
   case rel=>exact⟨i,A9,c9,oQ,by first|go_num |rfl,by rw[←hpn2.out];exact hI9.out⟩
   case measure=>simp[intOf]
end lawW
end Go.Proofs.YthaabihjeomipaaGreatDoor
