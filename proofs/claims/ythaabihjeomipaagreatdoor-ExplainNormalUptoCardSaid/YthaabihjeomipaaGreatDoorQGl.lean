/- The document's findings on WHERE. -/
import Derived.Test.YthaabihjeomipaaGreatDoorQGj
import Derived.BigRegion
namespace Go.Proofs.YthaabihjeomipaaGreatDoor
set_option maxRecDepth 100000
set_option maxHeartbeats 16000000
open Go.RowKit Go.Deep Go.Maps
set_option linter.unusedVariables false
set_option linter.unusedSimpArgs false
structure FR (l:List Td)(A:Option Addr)(c:Nat)(q:Qy)(s:Sl3)(gb:Nat)(a1 a2 a3 a4:Int)(w wr:World)(v:Value)(L:List Fg):Prop where
 fo:FO l A c q s w wr v L
 bb:Blk wr gb 140 (erV a1 a2 a3 a4)
section
variable {l:List Td}{A:Option Addr}{c:Nat}{q:Qy}{s:Sl3}{gb:Nat}{a1 a2 a3 a4:Int}{w wr W w1:World}{v v':Value}{L:List Fg}
theorem FR.stay (h:FR l A c q s gb a1 a2 a3 a4 w wr v L)(hb:Bw wr W):FR l A c q s gb a1 a2 a3 a4 w W v L:=⟨h.fo.stay hb,h.bb.stay hb⟩
theorem FR.app {o:Obj}{f:Fg}(h:FR l A c q s gb a1 a2 a3 a4 w wr v L)(hg:(wr.alloc o).grownBy w1 v.ownBlock)(hO:OL w1 w.heap.size NoF 111 6 v' (L.length+1) (L.flatMap fgD++fgD f)):FR l A c q s gb a1 a2 a3 a4 w w1 v' (L++[f]):=⟨h.fo.app hg hO,h.fo.keep h.bb dQ hg⟩
theorem er_get {k:Nat}{c:Int}(h:[a1,a2,a3,a4][k]? =some c):(erV a1 a2 a3 a4)[k+1]? =some (.int .i64 c):=by
 match k,h with
 |0,h=>injection h with h;subst h;rfl
 |1,h=>injection h with h;subst h;rfl
 |2,h=>injection h with h;subst h;rfl
 |3,h=>injection h with h;subst h;rfl
 |n+4,h=>simp at h
end
theorem eF_len (rule part idx sub:Int)(e:List Int)(n:Nat):(mapI (fun(r:Nat) c=>if c≠0 then [(⟨rule,(r:Int)+1,c,part,idx,sub⟩:Fg)]else []) n e).length≤e.length:=by
 have:=mapI_len (f:=fun(r:Nat)(c:Int)=>if c≠0 then [(⟨rule,(r:Int)+1,c,part,idx,sub⟩:Fg)]else []) (g:=fun _=>0*0+1) e (fun i x _=>if_len _) n;rw[sum_aff]at this;omega
theorem eFs_len {f:Nat→Nd→List Int}(rule part:Int)(g:Nat→Int×Int)(t:List Nd)(hf:∀i x,(f i x).length≤4):(mapI (fun i x=>eF rule part (g i).1 (g i).2 (f i x)) 0 t).length≤t.length*4:=by
 have:=mapI_len (f:=fun i x=>eF rule part (g i).1 (g i).2 (f i x)) (g:=fun _=>0*0+4) t (fun i x _=>zU (eF_len _ _ _ _ _ 0) (hf i x)) 0;rw[sum_aff]at this;omega
def eG (rule part idx sub:Int)(r:Nat)(c:Int):List Fg:=if c≠0 then [⟨rule,(r:Int)+1,c,part,idx,sub⟩]else []
theorem eF_eG (rule part idx sub:Int)(e:List Int):eF rule part idx sub e=mapI (eG rule part idx sub) 0 e:=rfl
theorem eG_len (rule part idx sub:Int)(a1 a2 a3 a4:Int)(k:Nat):(mapI (eG rule part idx sub) 0 ([a1,a2,a3,a4].take k)).length≤4:=by
 have:=eF_len rule part idx sub ([a1,a2,a3,a4].take k) 0;rw[zO]at this;have h:[a1,a2,a3,a4].length=4:=rfl;unfold eG;omega
noncomputable def mxF (q:Qy)(r:Nat):List Fg:=if mixB q (subT q.wh r)=true then [⟨8,0,77,4,r,0⟩]else []
theorem mx_len (q:Qy)(L:List Nat):(L.flatMap (mxF q)).length≤L.length:=flat_len L fun x=>if_len _
theorem wh_last {t:List Nd}{n:Nat}{x:Nd}(hn:t.length=n+1)(hx:t[n]? =some x):isTruthB t=truthO x.op:=by
 unfold isTruthB;rw[zW oQ,xE,show t.length-1=n by omega,opAt_of hx]
structure ItBox (W0:World)(neg:Bool)(hi:Int)(gi:Nat)(wx:World):Prop where
 hb:Bw W0 wx
 c0:wx.cell? ⟨gi,0,none⟩=some (.bool neg)
 c4:wx.cell? ⟨gi,4,none⟩=some (.int .i64 hi)
theorem ItBox.new {W0 wr:World}{x:It}{u:Value}(h:Bw W0 wr):ItBox W0 x.neg x.hi wr.heap.size (wr.alloc (.cells ⟨itV x u⟩ 53)).drew:=by
 have hb:Blk (wr.alloc (.cells ⟨itV x u⟩ 53)) wr.heap.size 53 (itV x u):=Blk.new _ _ _;exact⟨(h.alloc h.size _).drew,hb.cell 0,hb.cell 4⟩
namespace ckW
open nmW
theorem ofWhere_k (A:Option Addr)(c:Nat)(F:Nat→Prop)(l:List Td)(q:Qy)(s:Sl3)(hl:SzT l)(hs:SzQ q)(hsh:q.wh=[]∨treeB q.wh=true)(w:World)(hK:KwIs w)(r:Rd w F (.slice A l.length c) (.sl l.length (l.flatMap tdD)))(R:QR w F q s):
  Calls Tryz.prog 55 #[.agg ⟨[.slice A l.length c]⟩,.agg ⟨qV q s⟩] w (FgPost (whereF l q) w):=by
 have h0:=FO.new l A c q s w;have hl2:=hs.wh.1;have kn:∀(i:Nat)(x:Nd) W,q.wh[i]? =some x→Bw w W→Calls Tryz.prog 98 #[.agg ⟨[.slice A l.length c]⟩,.agg ⟨qV q s⟩,.slice s.a2 q.wh.length s.c2,.int .i64 i,.bool false] W (NdPost (errs l q q.wh false x) W):=fun i x W hx hW=>by
  have hne:q.wh≠ []:=fun e=>by rw[e]at hx;cases hx
  have hab:=treeB_lt (hsh.resolve_left hne) x (zA hx);exact ofNode_k A c F l q s s.a2 s.c2 q.wh i x false hl hs hs.wh hx hab.1.2 hab.2.2 W (R.under hW).lt (r.under hW R.lt) (R.under hW) (R.under hW).r2
 have kc:q.wh≠ []→∀W,Bw w W→Calls Tryz.prog 26 #[.slice s.a2 q.wh.length s.c2] W (IlPost (conjs q.wh) W):=fun hne W hW=>rConj_k s.a2 s.c2 F q.wh hs.wh (hsh.resolve_left hne) W (hK.stay hW) (R.under hW).lt (R.under hW).r2
 have ks:q.wh≠ []→∀W (b r:Nat),Bw w W→Sp q.wh b r→Calls Tryz.prog 27 #[.slice s.a2 q.wh.length s.c2,.int .i64 r] W (TrPost (subL q.wh b r) W):=fun hne W b r hW hsp=>rSub_k s.a2 s.c2 F q.wh hs.wh (hsh.resolve_left hne) hsp W (hK.stay hW) (R.under hW).lt (R.under hW).r2
 have ku:∀W (b r:Nat) A' c',Bw w W→Sp q.wh b r→Rd W (fun b=>b<W.heap.size) (.slice A' (subL q.wh b r).length c') (.sl (subL q.wh b r).length ((subL q.wh b r).flatMap ndD))→Calls Tryz.prog 100 #[.agg ⟨qV q s⟩,.slice A' (subL q.wh b r).length c'] W (UsPost q (subL q.wh b r) W):=fun W b r A' c' hW hsp rd=>rUses_k q s A' c' _ F (subL q.wh b r) hs (subL_sz hsp hs.wh) W (R.under hW) (fun b h=>h) rd
 have hcs:q.wh≠ []→∀(j r:Nat),(conjs q.wh)[j]? =some r→∃b,Sp q.wh b r∧mixB q (subT q.wh r)=mixB q (subL q.wh b r)∧r<q.wh.length:=fun hne j r h=>by
  obtain⟨b,hb⟩:=conjs_sp (hsh.resolve_left hne) (zA h);exact⟨b,hb,by unfold subT;rw[bg_sp hb],hb.lt⟩
 have hcl:q.wh≠ []→(conjs q.wh).length≤1048576:=fun hne=>by
  obtain⟨⟨n,hn,hsp⟩,_,_⟩:=treeB_sp (hsh.resolve_left hne);unfold conjs;have:=cj_len hsp (n:=q.wh.length) oQ;rw[show q.wh.length-1=n by omega];omega
 have kt:∀(o:Int) W,Calls Tryz.prog 99 #[.int .i64 o] W fun e w'=>e=.returned (.bool (truthO o))∧w'=W:=fun o W=>rtruth_k o W
 have hit:=fun(i:Nat)(h:i<q.items.length)=>getx (l:=q.items) h
 have hR1:=R.r1;have hR2:=R.r2;have hF:=R.lt;have hil:=hs.il;obtain⟨R0,hR0⟩:∃R,R=whereF l q:=⟨_,rfl⟩
 rw[←hR0];have hR0':R0=mapI (fun i x=>eF 6 4 i 0 (errs l q q.wh false x)) 0 q.wh++(if q.wh=[]then []else(if isTruthB q.wh=false then [⟨7,0,75,4,(q.wh.length:Int) -1,0⟩]else [])++(conjs q.wh).flatMap (mxF q)):=hR0;clear hR0;have kf:∀(ru rk cd ix:Int) W,Calls Tryz.prog 95 #[.int .i64 ru,.int .i64 rk,.int .i64 cd,.int .i64 4,.int .i64 ix,.int .i64 0] W fun e w'=>e=.returned (.agg ⟨[.int .i64 ru,.int .i64 rk,.int .i64 cd,.int .i64 4,.int .i64 ix,.int .i64 0]⟩)∧Bw W w':=fun ru rk cd ix W=>found_k ⟨ru,rk,cd,4,ix,0⟩ W
 have cc:∀{W v L},FO l A c q s w W v L→_:=fun {W v L} (h:FO l A c q s w W v L)=>qbc h.sq.b1
 obtain⟨x0,x1,x2,x3,x4,x5,x6⟩:=cc h0;obtain⟨A1,c1,A2,c2,A3,c3⟩:=s;simp only[qV]at h0 kn kc ks ku x0 x3 x6 hR1 hR2 ⊢;replace hR1:=Hd hR1;replace hR2:=Hd hR2;replace hF:=Hd hF;replace kn:=Hd kn;replace kc:=Hd kc;replace ks:=Hd ks;replace ku:=Hd ku;replace kf:=Hd kf;replace kt:=Hd kt;replace hit:=Hd hit;replace hcs:=Hd hcs;replace hcl:=Hd hcl;replace h0:=Hd h0;replace hR0':=Hd hR0';clear hs R r hl hK hsh;go_enter Tryz.func55,Tryz.ntmps55;go_wp2;clear x0 x1 x2 x3 x4 x5 x6;go_loopw [5,7] (fun v i wr=>∃(j:Nat)(L:List Fg),j≤q.wh.length∧i=.int .i64 j∧Hid (L=mapI (fun i x=>eF 6 4 i 0 (errs l q q.wh false x)) 0 (q.wh.take j))∧FO l A c q ⟨A1,c1,A2,c2,A3,c3⟩ w wr v L) (fun _ i _=>q.wh.length- (intOf i).toNat)
 case atStart=>exact⟨0,[],zE _,rfl,rfl,h0.out⟩
 case round=>
  clear h0;obtain⟨j,L,hj,rfl,hL,hI⟩:=hrel;have hLl:L.length≤4194304:=by
   rw[hL.out];have:(mapI (fun i x=>eF 6 4 i 0 (errs l q q.wh false x)) 0 (q.wh.take j)).length≤(q.wh.take j).length*4:=eFs_len (f:=fun _ x=>errs l q q.wh false x) 6 4 (fun i=>((i:Int),0)) (q.wh.take j) (fun _ x=>by rw[errs_len];omega);rw[zO]at this;omega
  obtain⟨A4,c4,rfl⟩:=hI.ol.form;obtain⟨x0,x1,x2,x3,x4,x5,x6⟩:=cc hI;have y0:wr.cell? ⟨w.heap.size,0,none⟩=some (.slice A l.length c):=hI.sq.b0.cell 0;try simp only at x0 x3 x6
  have hbs:=hI.hb.size;by_cases hlt:j<q.wh.length
  ·obtain⟨x,hx⟩:=getx hlt;have g1:(0:Int)≤(j:Int):=oQ;have g2:(j:Int)<q.wh.length:=oQ;have kn':=kn.out j x wr hx hI.hb;have hLn:=mapI_take (fun i x=>eF 6 4 i 0 (errs l q q.wh false x)) hx;rw[←hL.out]at hLn;generalize errs l q q.wh false x=e at kn' hLn;replace kn':=Hd kn';replace hLn:=Hd hLn;replace hI:=Hd hI;replace hx:=Hd hx;go_upto_region 7 with(go_at_call 98;refine kn'.out.mono ?_;rintro e W ⟨a1,a2,a3,a4,rfl,rfl,hW⟩)
   have hFR0:FR l A c q ⟨A1,c1,A2,c2,A3,c3⟩ W.heap.size a1 a2 a3 a4 w (W.alloc (.cells ⟨erV a1 a2 a3 a4⟩ 140)) (.slice A4 L.length c4) L:=⟨(hI.out.stay hW).stay bA,Blk.new _ _ _⟩;simp only[erV]at hFR0;replace hFR0:=Hd hFR0;clear hW x0 x1 x2 x3 x4 x5 x6 y0;obtain⟨wo,hwo⟩:∃wo:World,wo=wr:=⟨_,rfl⟩
   subst hwo;go_wp2;go_loopw [5,9] (fun v i wr=>∃(k:Nat)(Lk:List Fg),k≤4∧i=.int .i64 ((k+1:Nat):Int)∧Hid (Lk=L++mapI (eG 6 4 j 0) 0 ([a1,a2,a3,a4].take k))∧FR l A c q ⟨A1,c1,A2,c2,A3,c3⟩ W.heap.size a1 a2 a3 a4 w wr v Lk) (fun _ i _=>5- (intOf i).toNat)
   case atStart=>exact⟨0,L,oQ,rfl,(zT L).symm,hFR0.out⟩
   case round=>
    clear hFR0;obtain⟨k,Lk,hk,rfl,hLk,hF2⟩:=hrel;have hLkl:Lk.length≤4194308:=by
     rw[hLk.out,zH];have:=eG_len 6 4 j 0 a1 a2 a3 a4 k;omega
    obtain⟨A5,c5,rfl⟩:=hF2.fo.ol.form;have hbs2:=hF2.fo.hb.size;by_cases hk4:k<4
    ·obtain⟨cv,hcv⟩:=getx (l:=[a1,a2,a3,a4]) (i:=k) (by simpa using hk4);have q0:=(hF2.bb.cell (k+1)).trans (er_get hcv);have hnx:=mapI_take (eG 6 4 j 0) hcv;have p1:((k+1:Nat):Int)≤4:=oQ;have p2:(0:Int)≤((k+1:Nat):Int):=oQ;have p3:((k+1:Nat):Int)<5:=oQ;have hbg:Lk.length+1≤BigF:=by unfold BigF;omega
     have hkk:((k:Int)+1)=((k+1:Nat):Int):=oQ;have hm1:k+1+1≤5:=oQ;generalize hkn:k+1=kn1 at*;replace hbg:=Hd hbg;replace hcv:=Hd hcv;replace hkn:=Hd hkn;replace hkk:=Hd hkk;replace hF2:=Hd hF2;by_cases hc0:cv=0
     ·have hL2:Hid (Lk=L++mapI (eG 6 4 j 0) 0 ([a1,a2,a3,a4].take kn1)):=by
       show _=_
       rw[hnx,hLk.out];unfold eG;rw[if_neg (fun h=>h hc0),zT]
      subst hc0;replace hnx:=Hd hnx;go_wp2;go_roundw
      case rel=>exact⟨kn1,Lk,oQ,gQ,hL2,hF2.out⟩
      case measure=>exact mQ
     ·have f1:=bneT hc0;have f2:=beqF hc0;have hL2:Hid (Lk++[⟨6,(kn1:Int),cv,4,j,0⟩]=L++mapI (eG 6 4 j 0) 0 ([a1,a2,a3,a4].take kn1)):=by
       show _=_
       rw[hnx,hLk.out];unfold eG;rw[if_pos hc0,hkk.out,zR]
      replace hnx:=Hd hnx;replace hc0:=Hd hc0;go_wp2_with (first
       |(go_at_call 95;refine(kf.out 6 kn1 cv j _).mono ?_;rintro e W2 ⟨rfl,hW⟩;have hF3:=Hd (hF2.out.stay hW);clear hW)
       |(at_builtin;refine wpB rfl (.tmp 38) (.tmp 45) _ rfl (m:=1) (news:=fgD ⟨6,kn1,cv,4,j,0⟩) elFg (hF3.out.fo.ol.alloc _) rfl rfl (Src.lit (rdlFg ⟨6,kn1,cv,4,j,0⟩)) rfl (big63 hbg.out) (bigBy hbg.out) (by have:=hF3.out.fo.hb.size;simp;omega) ?_;intro v' w1 hO1 hg1 ha1;obtain⟨B3,d3,rfl⟩:=hO1.form;have hF4:=Hd (hF3.out.app (f:=⟨6,kn1,cv,4,j,0⟩) hg1 hO1);clear hO1 hg1 ha1))
      go_roundw
      case rel=>exact⟨kn1,_,oQ,gQ,hL2,hF4.out⟩
      case measure=>exact mQ
    ·obtain rfl:k=4:=oQ;have hL2:Hid (Lk=mapI (fun i x=>eF 6 4 i 0 (errs l q q.wh false x)) 0 (q.wh.take (j+1))):=by
      show _=_
      rw[hLn.out,hLk.out];rfl
     replace hF2:=Hd hF2;go_wp2;go_roundw
     case rel=>exact⟨j+1,Lk,oQ,gQ,hL2,hF2.out.fo⟩
     case measure=>exact mQ
  ·have g1:¬(j:Int)<q.wh.length:=oQ;obtain rfl:j=q.wh.length:=oQ;have hRL:R0=L++(if q.wh=[]then []else(if isTruthB q.wh=false then [⟨7,0,75,4,(q.wh.length:Int) -1,0⟩]else [])++(conjs q.wh).flatMap (mxF q)):=by rw[hR0'.out,hL.out,zL]
   clear hL;by_cases hne:q.wh=[]
   ·rw[if_pos hne,zT]at hRL;have hl0:q.wh.length=0:=by rw[hne];rfl
    have f0:((q.wh.length:Int)==0)=true:=beqT oQ;have hRL':=Hd hRL.symm;replace hl0:=Hd hl0;replace hne:=Hd hne;replace hI:=Hd hI;clear hRL;go_wp2;go_ret;exact FgPost.mk hRL'.out hI.out.ol hI.out.hb
   rw[if_neg hne]at hRL;have hlp:0<q.wh.length:=List.length_pos_iff.2 hne;have f0:((q.wh.length:Int)==0)=false:=beqF oQ;obtain⟨n,hn⟩:∃n,q.wh.length=n+1:=⟨q.wh.length-1,oQ⟩
   obtain⟨x,hx⟩:=getx (l:=q.wh) (i:=n) oQ;have htr:=wh_last hn hx;obtain⟨g,off,rfl,_,z0,_⟩:=nd_at (hR2.out.under hI.hb hF.out) hx;rw[htr]at hRL;have hcl':=hcl.out hne;have kc':=fun W hW=>kc.out hne W hW
   have ks':=fun W b r hW hsp=>ks.out hne W b r hW hsp
   have hcs':=fun j r h=>hcs.out hne j r h
   have n1:(0:Int)≤(n:Int):=oQ;have n3:(n:Int)<(q.wh.length:Int):=oQ;have nw:(q.wh.length:Int) -1=(n:Int):=oQ;have nw2:IntKind.i64.wrap ((q.wh.length:Int) -1)=(n:Int):=by rw[xI];omega
   rw[nw]at hRL;generalize conjs q.wh=C at*;replace hRL:=Hd hRL;replace htr:=Hd htr;replace hn:=Hd hn;replace hx:=Hd hx;replace hne:=Hd hne;replace kc':=Hd kc';replace ks':=Hd ks';replace hcs':=Hd hcs';replace hI:=Hd hI;replace nw:=Hd nw;clear hcl;generalize hto:truthO x.op=tb at hRL;replace hto:=Hd hto;go_upto_region 14 with fail
   go_cut [59] (fun s wx=>s=.bool (!tb)∧FO l A c q ⟨A1,c1,some ⟨g,off,none⟩,c2,A3,c3⟩ w wx (.slice A4 L.length c4) L)
   case first=>
    go_wp2_with (go_at_call 99;refine(kt.out _ _).mono ?_;rw[hto.out];rintro e W ⟨rfl,hW⟩;subst W)
    all_goals(go_meet;exact⟨rfl,hI.out⟩)
   case rest=>
   obtain⟨rfl,hI2⟩:=hcut;clear x0 x1 x2 x3 x4 x5 x6 y0 z0 hI;have hbs2:=hI2.hb.size;have hI:=Hd hI2;clear hI2;go_upto_if 59 with fail
   go_cut [5] (fun v wx=>∃L2,Hid (L2=L++if tb=false then [⟨7,0,75,4,(n:Int),0⟩]else [])∧FO l A c q ⟨A1,c1,some ⟨g,off,none⟩,c2,A3,c3⟩ w wx v L2)
   case first=>
    cases tb with
    |false=>
     have hbg:L.length+1≤BigF:=(by unfold BigF;omega);replace hbg:=Hd hbg;go_wp2_with (first
      |(go_at_call 95;refine(kf.out 7 0 75 n _).mono ?_;rintro e W2 ⟨rfl,hW⟩;have hF3:=Hd (hI.out.stay hW);clear hW)
      |(at_builtin;refine wpB rfl (.tmp 60) (.tmp 65) _ rfl (m:=1) (news:=fgD ⟨7,0,75,4,n,0⟩) elFg (hF3.out.ol.alloc _) rfl rfl (Src.lit (rdlFg ⟨7,0,75,4,n,0⟩)) rfl (big63 hbg.out) (bigBy hbg.out) (by have:=hF3.out.hb.size;simp;omega) ?_;intro v' w1 hO1 hg1 ha1;obtain⟨B3,d3,rfl⟩:=hO1.form;have hF4:=Hd (hF3.out.app (f:=⟨7,0,75,4,n,0⟩) hg1 hO1);clear hO1 hg1 ha1))
     all_goals(go_meet;exact⟨_,rfl,hF4.out⟩)
    |true=>
     go_wp2
     all_goals(go_meet;exact⟨_,(zT L).symm,hI.out⟩)
   case rest=>
   obtain⟨L2,hL2,hI2⟩:=hcut;have hL2l:L2.length≤4194305:=by
    rw[hL2.out,zH];have:(if tb=false then [(⟨7,0,75,4,(n:Int),0⟩:Fg)]else []).length≤1:=if_len _;omega
   have hRL2:Hid (R0=L2++C.flatMap (mxF q)):=by show _=_;rw[hRL.out,hL2.out,zR]
   clear hRL hI;obtain⟨A7,c7,rfl⟩:=hI2.ol.form;have kcc:=Hd (kc'.out _ hI2.hb);replace hI2:=Hd hI2;go_wp2_with (go_at_call 26;refine kcc.out.mono ?_;rintro e W1 ⟨vc,rfl,hC,hW1⟩;obtain⟨A8,c8,rfl⟩:=hC.form;have hI3:=Hd (hI2.out.stay hW1);have hC3:=Hd (hC.base hI2.out.hb.size);clear hC hW1);go_loopw [5,11] (fun v i wr=>∃(j:Nat)(L3:List Fg),j≤C.length∧i=.int .i64 j∧Hid (L3=L2++(C.take j).flatMap (mxF q))∧FO l A c q ⟨A1,c1,some ⟨g,off,none⟩,c2,A3,c3⟩ w wr v L3∧OL wr w.heap.size NoF 3 1 (.slice A8 C.length c8) C.length (C.map cjD)) (fun _ i _=>C.length- (intOf i).toNat)
   case atStart=>exact⟨0,L2,zE _,rfl,(by show L2=_;simp),hI3.out,hC3.out⟩
   case round=>
    clear hI3 hC3;obtain⟨j,L3,hj,rfl,hL3,hI,hC⟩:=hrel;have hL3l:L3.length≤5242881:=by
     rw[hL3.out,zH];have:=mx_len q (C.take j);rw[zO]at this;omega
    obtain⟨A9,c9,rfl⟩:=hI.ol.form;have hbs3:=hI.hb.size;by_cases hlt3:j<C.length
    ·obtain⟨r,hr⟩:=getx hlt3;obtain⟨bb,hsp,hmx,hrl⟩:=hcs'.out j r hr;obtain⟨g5,cap5,e5,_,_,_,hcell⟩:=hC.row oQ;injection e5 with e5 _ e5c
     subst e5 e5c;obtain⟨u5,hu5,hr5⟩:=hcell j (cjD r) (by rw[zG,hr];rfl);rw[hr5.v_inv]at hu5;have g3:(0:Int)≤(j:Int):=oQ;have g4:(j:Int)<C.length:=oQ;have hnx:(C.take (j+1)).flatMap (mxF q)=(C.take j).flatMap (mxF q)++if mixB q (subL q.wh bb r)=true then [⟨8,0,77,4,r,0⟩]else []:=by
      rw[zJ,hr,xD,←hmx];simp[mxF]
     have ksx:=ks'.out wr bb r hI.hb hsp;have kux:=fun W A' c' (hW:Bw w W) rd=>ku.out W bb r A' c' hW hsp rd
     have hbl:(bares q (subL q.wh bb r)).length≤1048576:=zU (filt_len (p:=fun i=>(subL q.wh bb r).any fun x=>decide (itemI q x.v=(i:Int))&&bareO x.op) q.items.length) hil;have hblt:∀(m k:Nat),(bares q (subL q.wh bb r))[m]? =some k→k<q.items.length:=fun m k h=>by
      have:=zA h;unfold bares at this;exact List.mem_range.1 (List.mem_filter.1 this).1
     have hmb:mixB q (subL q.wh bb r)=decide (1<touN q (bares q (subL q.wh bb r)) (bares q (subL q.wh bb r)).length):=(by unfold mixB touN;rw[zL]);generalize mixB q (subL q.wh bb r)=mb at*;generalize subL q.wh bb r=t' at*;have hrl':r≤1048576:=oQ;replace hnx:=Hd hnx;replace ksx:=Hd ksx;replace kux:=Hd kux;replace hmb:=Hd hmb;replace hmx:=Hd hmx;replace hsp:=Hd hsp;replace hblt:=Hd hblt;replace hr:=Hd hr;replace hr5:=Hd hr5;replace hcell:=Hd hcell;have hIH:=Hd hI;have hCH:=Hd hC;clear hI hC;go_upto_region 21 with(go_at_call 27;refine ksx.out.mono ?_;rintro e W2 ⟨vt,rfl,hT,hW2⟩)
     obtain⟨E1,e1,rfl⟩:=hT.form;have hI4:=hIH.out.stay hW2;have hC4:=Hd (hCH.out.stay hW2);have kuu:=Hd (kux.out W2 E1 e1 hI4.hb (hT.rd (G:=fun b=>b<W2.heap.size) (fun b h=>h.elim) (fun b _ h=>h)));obtain⟨x0,x1,x2,x3,x4,x5,x6⟩:=cc hI4;try simp only at x0 x3 x6
     replace hI4:=Hd hI4;clear hW2 hT;go_upto_region 23 with(go_at_call 100;refine kuu.out.mono ?_;rintro e W3 ⟨v1,v2,v3,M2,M3,rfl,hO1,hO2,hO3,hW3⟩;obtain⟨D1,d1,rfl⟩:=hO1.form;obtain⟨D2,d2,rfl⟩:=hO2.form;obtain⟨D3,d3,rfl⟩:=hO3.form)
     have hXa:Bw W3 (W3.alloc (.cells ⟨[.slice D1 (bares q t').length d1,.slice D2 M2.length d2,.slice D3 M3.length d3]⟩ 82)):=bA;have hI5:=(hI4.out.stay hW3).stay hXa;have hC5:=(hC4.out.stay hW3).stay hXa;have hB5:Blk (W3.alloc (.cells ⟨[.slice D1 (bares q t').length d1,.slice D2 M2.length d2,.slice D3 M3.length d3]⟩ 82)) W3.heap.size 82 [.slice D1 (bares q t').length d1,.slice D2 M2.length d2,.slice D3 M3.length d3]:=Blk.new _ _ _;have hO5:=hO1.stay hXa;generalize bares q t'=Bs at*;obtain⟨Wx,hWx⟩:∃Wx,Wx=W3.alloc (.cells ⟨[.slice D1 Bs.length d1,.slice D2 M2.length d2,.slice D3 M3.length d3]⟩ 82):=⟨_,rfl⟩
     rw[←hWx]at hI5 hC5 hB5 hO5;have hWx2:=Hd hWx.symm;clear hWx hXa hW3 hO1 hO2 hO3 x0 x1 x2 x3 x4 x5 x6;replace hI5:=Hd hI5;replace hC5:=Hd hC5;replace hB5:=Hd hB5;replace hO5:=Hd hO5;rw[hWx2.out];obtain⟨wo,hwo⟩:∃wo:World,wo=wr:=⟨_,rfl⟩
     subst hwo;go_wp2;go_loopw [14,15] (fun n i wr=>∃m cn:Nat,m≤Bs.length∧i=.int .i64 m∧n=.int .i64 cn∧cn≤m∧Hid (cn=touN q Bs m)∧Bw Wx wr) (fun _ i _=>Bs.length- (intOf i).toNat)
     case atStart=>exact⟨0,0,zE _,rfl,rfl,nR,rfl,bR⟩
     case round=>
      obtain⟨m,cn,hm,rfl,rfl,hcm,hcnt,hB⟩:=hrel;have hI6:=hI5.out.stay hB;have hC6:=hC5.out.stay hB;have hB6:=hB5.out.stay hB;have hO6:=hO5.out.stay hB;obtain⟨x0,x1,x2,x3,x4,x5,x6⟩:=cc hI6;try simp only at x0 x3 x6
      have u0:=hB6.cell 0;simp only[zY]at u0;by_cases hlt4:m<Bs.length
      ·obtain⟨k,hk⟩:=getx hlt4;have hki:=hblt.out m k hk;obtain⟨it,hitm⟩:=getx (l:=q.items) hki;obtain⟨gq,offq,E2,e2,rfl,_,_,a0,a1,a2,a3,a4⟩:=it_at (hR1.out.under hI6.hb hF.out) hitm;obtain⟨g6,cap6,e6,_,_,_,hcell6⟩:=hO6.row oQ;injection e6 with e6 _ e6c
       subst e6 e6c;obtain⟨u6,hu6,hr6⟩:=hcell6 m (cjD k) (by rw[zG,hk];rfl);rw[hr6.v_inv]at hu6;have p1:(0:Int)≤(m:Int):=oQ;have p2:(m:Int)<Bs.length:=oQ;have p3:(0:Int)≤(k:Int):=oQ;have p4:(k:Int)<q.items.length:=oQ;have htn:=touN_next (q:=q) hk;have htt:touchy q k=(it.neg||decide (1<it.hi)):=by unfold touchy;rw[hitm]
       rw[htt]at htn;have hB7:=hB;have hzz:Bw wr (wr.alloc (.cells ⟨[.bool false,.slice none 0 0,.string ⟨#[]⟩,.int .i64 0,.int .i64 0]⟩ 53)):=bA;obtain⟨xx0,_,_,_,_,_,_⟩:=cc (hI6.stay hzz);try simp only at xx0
       have uu0:=(hB6.stay hzz).cell 0;simp only[zY]at uu0;have hbk:∀b o v,wr.cell? ⟨b,o,none⟩=some v→(wr.alloc (.cells ⟨[.bool false,.slice none 0 0,.string ⟨#[]⟩,.int .i64 0,.int .i64 0]⟩ 53)).cell? ⟨b,o,none⟩=some v:=fun b o v h=>(hzz.cell (p:=⟨b,o,none⟩) (zX wr _ h)).trans h
       have hu7:=hbk _ _ _ hu6;have b0:=hbk _ _ _ a0;have b1:=hbk _ _ _ a1;have b2:=hbk _ _ _ a2;have b3:=hbk _ _ _ a3;have b4:=hbk _ _ _ a4;clear hbk hzz;have p5:cn≤1048576:=oQ;replace hI6:=Hd hI6;replace hC6:=Hd hC6;replace hB6:=Hd hB6;replace hO6:=Hd hO6;replace hk:=Hd hk;replace hitm:=Hd hitm;replace htt:=Hd htt;replace htn:=Hd htn;replace hcell6:=Hd hcell6;replace hr6:=Hd hr6;replace hB7:=Hd hB7;replace hB:=Hd hB;go_upto_region 26 with fail
       go_cut [16] (fun s wx=>s=.pointer (some ⟨wr.heap.size,0,none⟩)∧ItBox Wx it.neg it.hi wr.heap.size wx)
       case first=>
        go_region
        all_goals(go_wp2;all_goals(go_meet;exact⟨rfl,ItBox.new (x:=it) hB.out⟩))
       case rest=>
       obtain⟨rfl,hB8,w0,w4⟩:=hcut;clear x0 x1 x2 x3 x4 x5 x6 u0 a0 a1 a2 a3 a4 hu6 xx0 uu0 hu7 b0 b1 b2 b3 b4;replace hB8:=Hd hB8;generalize it.neg=ng at*;generalize it.hi=ih at*;cases ng with
       |true=>
        have hc2:Hid (cn+1=touN q Bs (m+1)):=by show _=_;rw[htn.out,←hcnt.out];simp
        go_wp2;go_roundw
        case rel=>exact⟨m+1,cn+1,oQ,gQ,gQ,oQ,hc2,hB8.out⟩
        case measure=>exact mQ
       |false=>
        by_cases h1:1<ih
        ·have hc2:Hid (cn+1=touN q Bs (m+1)):=by show _=_;rw[htn.out,←hcnt.out];simp[h1]
         go_wp2;go_roundw
         case rel=>exact⟨m+1,cn+1,oQ,gQ,gQ,oQ,hc2,hB8.out⟩
         case measure=>exact mQ
        ·have hc2:Hid (cn=touN q Bs (m+1)):=by show _=_;rw[htn.out,←hcnt.out];simp[h1]
         go_wp2;go_roundw
         case rel=>exact⟨m+1,cn,oQ,gQ,rfl,oQ,hc2,hB8.out⟩
         case measure=>exact mQ
      ·have p2:¬(m:Int)<Bs.length:=oQ;obtain rfl:m=Bs.length:=oQ;obtain⟨g7,cap7,e7,_,_,_,hcell7⟩:=hC6.row oQ;injection e7 with e7 _ e7c
       subst e7c;injection e7 with e7
       injection e7 with e7 _
       subst e7;obtain⟨u7,hu7,hr7⟩:=hcell7 j (cjD r) (by rw[zG,hr.out];rfl);rw[hr7.v_inv]at hu7;have hkeep:∀W (hW:Bw wr W),FO l A c q ⟨A1,c1,some ⟨g,off,none⟩,c2,A3,c3⟩ w W (.slice A9 L3.length c9) L3∧OL W w.heap.size NoF 3 1 (.slice (some ⟨g5,0,none⟩) C.length c8) C.length (C.map cjD):=fun W hW=>⟨hI6.stay hW,hC6.stay hW⟩
       have hmb2:mb=decide (1<cn):=(by rw[hmb.out,←hcnt.out]);have hbg:L3.length+1≤BigF:=by unfold BigF;omega
       have hIne:∀(W:World),FO l A c q ⟨A1,c1,some ⟨g,off,none⟩,c2,A3,c3⟩ w W (.slice A9 L3.length c9) L3→OL W w.heap.size NoF 3 1 (.slice (some ⟨g5,0,none⟩) C.length c8) C.length (C.map cjD)→∀(o:Obj)(w1:World),(W.alloc o).grownBy w1 (Value.slice A9 L3.length c9).ownBlock→OL w1 w.heap.size NoF 3 1 (.slice (some ⟨g5,0,none⟩) C.length c8) C.length (C.map cjD):=fun W h1 h2 o w1 hg=>(h2.alloc o).kept hg (h2.ne h1.ol dQ) (fun _ h=>h.elim)
       have hcn1:cn≤1048576:=oQ;replace hbg:=Hd hbg;replace hkeep:=Hd hkeep;replace hI6:=Hd hI6;replace hC6:=Hd hC6;replace hB6:=Hd hB6;replace hO6:=Hd hO6;replace hB:=Hd hB;replace hr7:=Hd hr7;replace hcell7:=Hd hcell7;replace hIne:=Hd hIne;clear x0 x1 x2 x3 x4 x5 x6;by_cases h1:1<cn
       ·have hd:mb=true:=(by rw[hmb2];exact zW h1);have h1i:(1:Int)<(cn:Int):=oQ;have hL4:Hid (L3++[⟨8,0,77,4,r,0⟩]=L2++(C.take (j+1)).flatMap (mxF q)):=by show _=_;rw[hnx.out,if_pos hd,hL3.out,zR]
        replace hd:=Hd hd;replace hmb2:=Hd hmb2;go_wp2_with (first
         |(go_at_call 95;refine(kf.out 8 0 77 r _).mono ?_;rintro e W5 ⟨rfl,hW⟩;have hF3:=Hd (hkeep.out W5 hW);clear hW)
         |(at_builtin;refine wpB rfl (.tmp 111) (.tmp 117) _ rfl (m:=1) (news:=fgD ⟨8,0,77,4,r,0⟩) elFg (hF3.out.1.ol.alloc _) rfl rfl (Src.lit (rdlFg ⟨8,0,77,4,r,0⟩)) rfl (big63 hbg.out) (bigBy hbg.out) (by have:=hF3.out.1.hb.size;simp;omega) ?_;intro v' w1 hO1 hg1 ha1;obtain⟨B3,d3,rfl⟩:=hO1.form;have hF4:=Hd (hF3.out.1.app (f:=⟨8,0,77,4,r,0⟩) hg1 hO1);have hF5:=Hd (hIne.out _ hF3.out.1 hF3.out.2 _ _ hg1);clear hO1 hg1 ha1))
        go_roundw
        case rel=>first|exact⟨j+1,_,oQ,gQ,hL4,hF4.out,hF5.out⟩|((repeat apply Exists.intro);exact⟨⟨j+1,_,oQ,gQ,hL4,hF4.out,hF5.out⟩,rfl⟩)
        case measure=>exact mQ
       ·have hd:mb=false:=(by rw[hmb2];exact zV h1);have h1i:¬(1:Int)<(cn:Int):=oQ;have hL4:Hid (L3=L2++(C.take (j+1)).flatMap (mxF q)):=by show _=_;rw[hnx.out,hd,hL3.out];simp
        replace hd:=Hd hd;replace hmb2:=Hd hmb2;go_wp2;go_roundw
        case rel=>exact⟨j+1,L3,oQ,gQ,hL4,hI6.out,hC6.out⟩
        case measure=>exact mQ
    ·have g4:¬(j:Int)<C.length:=oQ;obtain rfl:j=C.length:=oQ;have hfin:Hid (L3=R0):=by show _=_;rw[hRL2.out,hL3.out,zL]
     replace hI:=Hd hI;replace hC:=Hd hC;go_wp2;go_ret;exact FgPost.mk hfin.out hI.out.ol hI.out.hb
end ckW
end Go.Proofs.YthaabihjeomipaaGreatDoor
