/- The document's findings on the rest. -/
import Derived.Test.YthaabihjeomipaaGreatDoorQGl
namespace Go.Proofs.YthaabihjeomipaaGreatDoor
set_option maxRecDepth 100000
set_option maxHeartbeats 16000000
open Go.RowKit Go.Deep Go.Maps
set_option linter.unusedVariables false
set_option linter.unusedSimpArgs false
theorem retF_len (l:List Td)(q:Qy)(k:Nat)(t:List Nd):(retF l q k t).length≤t.length*4+1:=by
 unfold retF;rw[zH];have h1:(mapI (fun i x=>eF 12 5 k i (errs l q t true x)) 0 t).length≤t.length*4:=eFs_len (f:=fun _ x=>errs l q t true x) 12 5 (fun i=>((k:Int),(i:Int))) t (fun _ x=>by rw[errs_len];omega);have h2:(if isTruthB t=true then [(⟨12,5,75,5,k,(t.length:Int) -1⟩:Fg)]else []).length≤1:=if_len _;omega
theorem rets_len (l:List Td)(q:Qy)(hs:SzQ q)(hB:SzB q)(j:Nat):(mapI (retF l q) 0 (q.ret.take j)).length≤5242880:=by
 have h1:=mapI_len (f:=retF l q) (g:=fun x=>x.length*4+1) (q.ret.take j) (fun i x hx=>retF_len l q i x) 0;rw[sum_aff]at h1;have h2:=sum_take List.length q.ret j;have h3:(q.ret.map List.length).sum≤1048576:=hB.rt;have h5:((q.ret.take j).map fun t=>t.length).sum=((q.ret.take j).map List.length).sum:=rfl;have h4:(q.ret.take j).length≤1048576:=by rw[zO];have:=hs.rl;omega
 omega
noncomputable def paF (l:List Td)(q:Qy)(x:It):List Fg:=if hasB l x.tys q.by_=false∨q.by_=tsB then [⟨10,0,67,3,0,0⟩]else []
theorem restF_eq (l:List Td)(q:Qy):restF l q=(if 1099511627776<q.within then [⟨9,0,66,2,0,0⟩]else [])++((if q.by_=emp then []else q.items.flatMap (paF l q))++((if 8<q.ret.length then [⟨11,0,78,5,8,0⟩]else [])++mapI (retF l q) 0 q.ret)):=rfl
theorem paF_next {l:List Td}{q:Qy}{j:Nat}{x:It}(h:q.items[j]? =some x):(q.items.take (j+1)).flatMap (paF l q)=(q.items.take j).flatMap (paF l q)++if hasB l x.tys q.by_=false∨q.by_=tsB then [⟨10,0,67,3,0,0⟩]else []:=by
 rw[zJ,h,xD];simp[paF]
theorem tr_last {t:List Nd}{n:Nat}{x:Nd}(hn:t.length=n+1)(hx:t[n]? =some x):isTruthB t=truthO x.op:=wh_last hn hx
namespace ckW
open nmW
theorem ofRest_k (A:Option Addr)(c:Nat)(F:Nat→Prop)(l:List Td)(q:Qy)(s:Sl3)(hl:SzT l)(hs:SzQ q)(hSB:SzB q)(hrt:∀t∈q.ret,treeB t=true)(w:World)(r:Rd w F (.slice A l.length c) (.sl l.length (l.flatMap tdD)))(R:QR w F q s):
  Calls Tryz.prog 56 #[.agg ⟨[.slice A l.length c]⟩,.agg ⟨qV q s⟩] w (FgPost (restF l q) w):=by
 have h0:=FO.new l A c q s w;have kn:∀(t:List Nd)(i:Nat)(x:Nd) A5 c5 W,t∈q.ret→t[i]? =some x→Bw w W→Rd W F (.slice A5 t.length c5) (.sl t.length (t.flatMap ndD))→Calls Tryz.prog 98 #[.agg ⟨[.slice A l.length c]⟩,.agg ⟨qV q s⟩,.slice A5 t.length c5,.int .i64 i,.bool true] W (NdPost (errs l q t true x) W):=fun t i x A5 c5 W ht hx hW rt=>by
  have hab:=treeB_lt (hrt t ht) x (zA hx);exact ofNode_k A c F l q s A5 c5 t i x true hl hs (hs.re t ht) hx hab.1.2 hab.2.2 W (R.under hW).lt (r.under hW R.lt) (R.under hW) rt
 have ke:∀(it:It) A2 c2 W,it∈q.items→Bw w W→Rd W F (.slice A2 it.tys.length c2) (.sl it.tys.length (it.tys.flatMap strD))→Calls Tryz.prog 101 #[.agg ⟨[.slice A l.length c]⟩,.agg ⟨itV it (.slice A2 it.tys.length c2)⟩,.string q.by_] W fun e w'=>e=.returned (.bool (hasB l it.tys q.by_))∧Bw W w':=fun it A2 c2 W hx hW rx=>every_k A c F l it A2 c2 q.by_ hl (hs.it it hx).1.1 W (fun b h=>zF (R.lt b h) hW.size) (r.under hW R.lt) rx
 have kt:∀(o:Int) W,Calls Tryz.prog 99 #[.int .i64 o] W fun e w'=>e=.returned (.bool (truthO o))∧w'=W:=fun o W=>rtruth_k o W
 have hR1:=R.r1;have hR3:=R.r3;have hF:=R.lt;have hil:=hs.il;have hrl:=hs.rl;have hre:∀t∈q.ret,t.length≤1048576:=fun t ht=>(hs.re t ht).1
 have hrn:∀t∈q.ret,∃n,t.length=n+1:=fun t ht=>by obtain⟨⟨n,hn,_⟩,_,_⟩:=treeB_sp (hrt t ht);exact⟨n,hn⟩
 have hrln:=rets_len l q hs hSB;obtain⟨R0,hR0⟩:∃R,R=restF l q:=⟨_,rfl⟩
 rw[←hR0];rw[restF_eq]at hR0;have kf:∀(ru rk cd pa ix su:Int) W,Calls Tryz.prog 95 #[.int .i64 ru,.int .i64 rk,.int .i64 cd,.int .i64 pa,.int .i64 ix,.int .i64 su] W fun e w'=>e=.returned (.agg ⟨[.int .i64 ru,.int .i64 rk,.int .i64 cd,.int .i64 pa,.int .i64 ix,.int .i64 su]⟩)∧Bw W w':=fun ru rk cd pa ix su W=>found_k ⟨ru,rk,cd,pa,ix,su⟩ W
 have cc:∀{W v L},FO l A c q s w W v L→_:=fun {W v L} (h:FO l A c q s w W v L)=>qbc h.sq.b1
 obtain⟨x0,x1,x2,x3,x4,x5,x6⟩:=cc h0;obtain⟨A1,c1,A2,c2,A3,c3⟩:=s;simp only[qV]at h0 kn x0 x3 x6 hR1 hR3 ⊢;replace hR1:=Hd hR1;replace hR3:=Hd hR3;replace hF:=Hd hF;replace kn:=Hd kn;replace ke:=Hd ke;replace kf:=Hd kf;replace kt:=Hd kt;replace hre:=Hd hre;replace hrn:=Hd hrn;replace hrln:=Hd hrln;replace h0:=Hd h0;replace hR0:=Hd hR0;clear hs R r hl hrt hSB;go_enter Tryz.func56,Tryz.ntmps56;go_upto_if 15 with fail
 go_cut [5] (fun v wx=>∃L2,Hid (L2=if 1099511627776<q.within then [⟨9,0,66,2,0,0⟩]else [])∧FO l A c q ⟨A1,c1,A2,c2,A3,c3⟩ w wx v L2)
 case first=>
  by_cases h1:1099511627776<q.within
  ·have hbg:([]:List Fg).length+1≤BigF:=by unfold BigF;simp
   replace hbg:=Hd hbg;go_wp2_with (first
     |(go_at_call 95;refine(kf.out 9 0 66 2 0 0 _).mono ?_;rintro e W2 ⟨rfl,hW⟩;have hF3:=Hd (h0.out.stay hW);clear hW)
     |(at_builtin;refine wpB rfl (.tmp 16) (.tmp 18) _ rfl (m:=1) (news:=fgD ⟨9,0,66,2,0,0⟩) elFg (hF3.out.ol.alloc _) rfl rfl (Src.lit (rdlFg ⟨9,0,66,2,0,0⟩)) rfl (big63 hbg.out) (bigBy hbg.out) (by have:=hF3.out.hb.size;simp;omega) ?_;intro v' w1 hO1 hg1 ha1;obtain⟨B3,d3,rfl⟩:=hO1.form;have hF4:=Hd (hF3.out.app (f:=⟨9,0,66,2,0,0⟩) hg1 hO1);clear hO1 hg1 ha1))
   all_goals(go_meet;exact⟨_,(if_pos h1).symm,hF4.out⟩)
  ·have h1n:=Hd h1;go_wp2
   all_goals(go_meet;exact⟨_,(if_neg (by have:=h1n.out;omega)).symm,h0.out⟩)
 case rest=>
 obtain⟨L1,hL1,hI⟩:=hcut;have hL1l:L1.length≤1:=by rw[hL1.out];exact if_len _
 rw[←hL1.out]at hR0;clear h0 hL1 x0 x1 x2 x3 x4 x5 x6;have h0:=Hd hI;clear hI;obtain⟨pe,hpe⟩:∃b,b=decide (q.by_=emp):=⟨_,rfl⟩
 have hpe2:=Hd hpe;have f5:(q.by_.toList==([]:List UInt8))=pe:=by rw[hpe];exact emp_eq _
 have f5n:(q.by_.toList != ([]:List UInt8))= !pe:=by rw[bne,f5]
 obtain⟨B1,b1,rfl⟩:=h0.out.ol.form;obtain⟨x0,x1,x2,x3,x4,x5,x6⟩:=cc h0.out;try simp only at x0 x3 x6
 go_upto_block 0 with fail
 go_cut [5] (fun v wx=>∃L2,Hid (L2=L1++if q.by_=emp then []else q.items.flatMap (paF l q))∧FO l A c q ⟨A1,c1,A2,c2,A3,c3⟩ w wx v L2)
 case first=>
  cases pe with
  |true=>
   have hby:q.by_=emp:=of_decide_eq_true hpe.symm;have hby2:=Hd hby;replace hpe:=Hd hpe;clear hby;go_wp2;go_loopw [5,6] (fun v i wr=>v=.slice B1 L1.length b1∧i=.int .i64 0∧FO l A c q ⟨A1,c1,A2,c2,A3,c3⟩ w wr v L1) (fun _ i _=>q.items.length- (intOf i).toNat)
   case atStart=>exact⟨rfl,rfl,h0.out⟩
   case round=>
    clear h0;obtain⟨rfl,rfl,hI⟩:=hrel;obtain⟨x0,x1,x2,x3,x4,x5,x6⟩:=cc hI;try simp only at x0 x3 x6
    replace hI:=Hd hI;by_cases hlt:0<q.items.length
    ·have g1:(0:Int)<q.items.length:=oQ;go_wp2
     all_goals(go_meet;exact⟨_,(by show L1=_;rw[if_pos hby2.out,zT]),hI.out⟩)
    ·have g1:¬(0:Int)<q.items.length:=oQ;go_wp2
     all_goals(go_meet;exact⟨_,(by show L1=_;rw[if_pos hby2.out,zT]),hI.out⟩)
  |false=>
   have hby:¬q.by_=emp:=of_decide_eq_false hpe.symm;have hby2:=Hd hby;replace hpe:=Hd hpe;clear hby;obtain⟨tb,htb⟩:∃b,b=decide (q.by_=tsB):=⟨_,rfl⟩
   have hts:(q.by_.toList== [116,115])=tb:=by
    rw[htb];by_cases h:q.by_=tsB
    ·rw[ts_true h,zW h]
    ·rw[ts_false h,zV h]
   have htb2:=Hd htb;clear htb;go_wp2;go_loopw [5,6] (fun v i wr=>∃(j:Nat)(L:List Fg),j≤q.items.length∧i=.int .i64 j∧Hid (L=L1++(q.items.take j).flatMap (paF l q))∧FO l A c q ⟨A1,c1,A2,c2,A3,c3⟩ w wr v L) (fun _ i _=>q.items.length- (intOf i).toNat)
   case atStart=>exact⟨0,L1,zE _,rfl,(by show L1=_;simp),h0.out⟩
   case round=>
    clear h0;obtain⟨j,L,hj,rfl,hL,hI⟩:=hrel;have hLl:L.length≤1048577:=by
     rw[hL.out,zH];have:=flat_len (f:=paF l q) (q.items.take j) (fun x=>if_len _);rw[zO]at this;omega
    obtain⟨A5,c5,rfl⟩:=hI.ol.form;obtain⟨x0,x1,x2,x3,x4,x5,x6⟩:=cc hI;try simp only at x0 x3 x6
    have y0:wr.cell? ⟨w.heap.size,0,none⟩=some (.slice A l.length c):=hI.sq.b0.cell 0;by_cases hlt:j<q.items.length
    ·obtain⟨x,hx⟩:=getx hlt;have hxm:=zA hx;have hnx:=paF_next (l:=l) hx;obtain⟨g,off,B2,d2,rfl,_,rx,a0,a1,a2,a3,a4⟩:=it_at (hR1.out.under hI.hb hF.out) hx;have g1:(0:Int)≤(j:Int):=oQ;have g2:(j:Int)<q.items.length:=oQ;have ke':∀W,Bw wr W→Calls Tryz.prog 101 #[.agg ⟨[.slice A l.length c]⟩,.agg ⟨itV x (.slice B2 x.tys.length d2)⟩,.string q.by_] W fun e w'=>e=.returned (.bool (hasB l x.tys q.by_))∧Bw W w':=fun W hW=>ke.out x B2 d2 W hxm (hI.hb.trans (hW.mono hI.hb.size)) (by obtain⟨_,_,_,_,h1,_,h2,h3,_⟩:=it_at (hR1.out.under hI.hb hF.out) hx;injection h1 with h1;injection h1 with h1 h1b;subst h1 h1b;exact(rx.under hW fun b hb=>zF (hF.out b hb) hI.hb.size))
     obtain⟨hb,hhb⟩:∃b,b=hasB l x.tys q.by_:=⟨_,rfl⟩
     rw[←hhb]at ke' hnx;obtain⟨neg,tys,iv,lo,hi⟩:=x;simp only[itV]at ke' a0 a1 a2 a3 a4;have hxI:=Hd hx;clear hx hxm rx;replace ke':=Hd ke';replace hhb:=Hd hhb;replace hnx:=Hd hnx;have hI0:=Hd hI;replace hI:=Hd hI;go_upto_region 7 with fail
     go_cut [7] (fun s wx=>s=.bool hb∧FO l A c q ⟨some ⟨g,off,none⟩,c1,A2,c2,A3,c3⟩ w wx (.slice A5 L.length c5) L)
     case first=>
      go_region_law ((go_simp;(go_at_call 101;refine(ke'.out _ (by first|exact bR |exact(bR).drew |exact below_drewN bR _)).mono ?_;rintro e W ⟨rfl,hW⟩;replace hI:=Hd (hI.out.stay (by first|exact hW |exact(bR).drew.trans hW |exact(below_drewN bR _).trans hW));clear hW)))
      all_goals(go_wp2;all_goals(go_meet;exact⟨rfl,hI.out⟩))
     case rest=>
     obtain⟨rfl,hI1⟩:=hcut;clear x0 x1 x2 x3 x4 x5 x6 y0 a0 a1 a2 a3 a4 hI hI0;have hI:=Hd hI1;clear hI1;obtain⟨x0,x1,x2,x3,x4,x5,x6⟩:=cc hI.out;try simp only at x0 x3 x6
     go_upto_region 8 with fail
     go_cut [47] (fun s wx=>s=.bool (!hb||tb)∧wx=wc)
     case first=>
      cases hb with
      |true=>
       go_wp2
       all_goals(go_meet;exact⟨rfl,rfl⟩)
      |false=>
       go_wp2
       all_goals(go_meet;exact⟨rfl,rfl⟩)
     case rest=>
     obtain⟨rfl,hwx⟩:=hcut;obtain rfl:=hwx.symm;clear hwx;have hcd:(hb=false∨q.by_=tsB)↔(!hb||tb)=true:=by rw[htb2.out];cases hb<;>simp
     generalize (!hb||tb)=gb at*;have hbg:L.length+1≤BigF:=by unfold BigF;omega
     replace hbg:=Hd hbg;replace hcd:=Hd hcd;cases gb with
     |true=>
      have hL2:Hid (L++[⟨10,0,67,3,0,0⟩]=L1++(q.items.take (j+1)).flatMap (paF l q)):=by
       show _=_
       rw[hnx.out,if_pos (hcd.out.2 rfl),hL.out,zR]
      go_wp2_with (first
        |(go_at_call 95;refine(kf.out 10 0 67 3 0 0 _).mono ?_;rintro e W2 ⟨rfl,hW⟩;have hF3:=Hd (hI.out.stay hW);clear hW)
        |(at_builtin;refine wpB rfl (.tmp 48) (.tmp 50) _ rfl (m:=1) (news:=fgD ⟨10,0,67,3,0,0⟩) elFg (hF3.out.ol.alloc _) rfl rfl (Src.lit (rdlFg ⟨10,0,67,3,0,0⟩)) rfl (big63 hbg.out) (bigBy hbg.out) (by have:=hF3.out.hb.size;simp;omega) ?_;intro v' w1 hO1 hg1 ha1;obtain⟨B3,d3,rfl⟩:=hO1.form;have hF4:=Hd (hF3.out.app (f:=⟨10,0,67,3,0,0⟩) hg1 hO1);clear hO1 hg1 ha1))
      go_roundw
      case rel=>exact⟨j+1,_,oQ,gQ,hL2,hF4.out⟩
      case measure=>exact mQ
     |false=>
      have hL2:Hid (L=L1++(q.items.take (j+1)).flatMap (paF l q)):=by
       show _=_
       rw[hnx.out,if_neg (fun h=>by have:=hcd.out.1 h;cases this),hL.out,zT]
      go_wp2;go_roundw
      case rel=>exact⟨j+1,L,oQ,gQ,hL2,hI.out⟩
      case measure=>exact mQ
    ·have g2:¬(j:Int)<q.items.length:=oQ;obtain rfl:j=q.items.length:=oQ;have hL2:Hid (L=L1++q.items.flatMap (paF l q)):=by show _=_;rw[hL.out,zL]
     replace hI:=Hd hI;go_wp2
     all_goals(go_meet;exact⟨L,(by show L=_;rw[if_neg hby2.out];exact hL2.out),hI.out⟩)
 case rest=>
 clear x0 x1 x2 x3 x4 x5 x6;obtain⟨L2,hL2,hI⟩:=hcut;have hL2l:L2.length≤1048577:=by
  rw[hL2.out,zH];have:=flat_len (f:=paF l q) q.items (fun x=>if_len _);split
  ·simp;omega
  ·omega
 rw[←zR,←hL2.out]at hR0;clear h0 hL2 hpe hpe2 f5;obtain⟨A6,c6,rfl⟩:=hI.ol.form;obtain⟨x0,x1,x2,x3,x4,x5,x6⟩:=cc hI;try simp only at x0 x3 x6
 have h0:=Hd hI;clear hI;replace hR0:=Hd hR0;go_upto_if 55 with fail
 go_cut [5] (fun v wx=>∃L3,Hid (L3=L2++if 8<q.ret.length then [⟨11,0,78,5,8,0⟩]else [])∧FO l A c q ⟨A1,c1,A2,c2,A3,c3⟩ w wx v L3)
 case first=>
  by_cases h1:8<q.ret.length
  ·have h1i:(8:Int)<q.ret.length:=oQ;have hbg:L2.length+1≤BigF:=by unfold BigF;omega
   replace hbg:=Hd hbg;go_wp2_with (first
     |(go_at_call 95;refine(kf.out 11 0 78 5 8 0 _).mono ?_;rintro e W2 ⟨rfl,hW⟩;have hF3:=Hd (h0.out.stay hW);clear hW)
     |(at_builtin;refine wpB rfl (.tmp 56) (.tmp 58) _ rfl (m:=1) (news:=fgD ⟨11,0,78,5,8,0⟩) elFg (hF3.out.ol.alloc _) rfl rfl (Src.lit (rdlFg ⟨11,0,78,5,8,0⟩)) rfl (big63 hbg.out) (bigBy hbg.out) (by have:=hF3.out.hb.size;simp;omega) ?_;intro v' w1 hO1 hg1 ha1;obtain⟨B3,d3,rfl⟩:=hO1.form;have hF4:=Hd (hF3.out.app (f:=⟨11,0,78,5,8,0⟩) hg1 hO1);clear hO1 hg1 ha1))
   all_goals(go_meet;exact⟨_,(by show _=_;rw[if_pos h1]),hF4.out⟩)
  ·have h1i:¬(8:Int)<q.ret.length:=oQ;have hlz:Hid (L2=L2++if 8<q.ret.length then [⟨11,0,78,5,8,0⟩]else []):=by show _=_;rw[if_neg h1,zT]
   go_wp2
   all_goals(go_meet;exact⟨_,hlz,h0.out⟩)
 case rest=>
 obtain⟨L3,hL3,hI⟩:=hcut;have hL3l:L3.length≤1048578:=by
  rw[hL3.out,zH];have:(if 8<q.ret.length then [(⟨11,0,78,5,8,0⟩:Fg)]else []).length≤1:=if_len _;omega
 have hRL:Hid (R0=L3++mapI (retF l q) 0 q.ret):=by
  show _=_
  rw[hR0.out,hL3.out,zR]
 clear h0 hL3 hR0 x0 x1 x2 x3 x4 x5 x6;have h0:=Hd hI;clear hI;go_wp2;go_loopw [5,8] (fun v i wr=>∃(j:Nat)(L:List Fg),j≤q.ret.length∧i=.int .i64 j∧Hid (L=L3++mapI (retF l q) 0 (q.ret.take j))∧FO l A c q ⟨A1,c1,A2,c2,A3,c3⟩ w wr v L) (fun _ i _=>q.ret.length- (intOf i).toNat)
 case atStart=>exact⟨0,L3,zE _,rfl,(by show L3=_;simp[mapI]),h0.out⟩
 case round=>
  clear h0;obtain⟨kj,L,hkj,rfl,hL,hI⟩:=hrel;have hLl:L.length≤6291458:=by
   rw[hL.out,zH];have:=hrln.out kj;omega
  obtain⟨A7,c7,rfl⟩:=hI.ol.form;obtain⟨x0,x1,x2,x3,x4,x5,x6⟩:=cc hI;try simp only at x0 x3 x6
  by_cases hlt:kj<q.ret.length
  ·obtain⟨t,ht⟩:=getx hlt;have htm:=zA ht;have htl:=hre.out t htm;obtain⟨nt,hnt⟩:=hrn.out t htm;obtain⟨g,off,B2,d2,rfl,hgF,rx,a0⟩:=re_at hR3.out ht;replace a0:=(hI.hb.cell (p:=⟨g,off+kj,none⟩) (hF.out g hgF)).trans a0;have hrx:∀W,Bw w W→Rd W F (.slice B2 t.length d2) (.sl t.length (t.flatMap ndD)):=fun W hW=>rx.under hW hF.out
   have hkn:∀(i:Nat)(x:Nd)(W:World),t[i]? =some x→Bw w W→Calls Tryz.prog 98 #[.agg ⟨[.slice A l.length c]⟩,.agg ⟨[.slice A1 q.items.length c1,.int .i64 q.mode,.int .i64 q.after,.slice A2 q.wh.length c2,.int .i64 q.within,.string q.by_,.slice (some ⟨g,off,none⟩) q.ret.length c3]⟩,.slice B2 t.length d2,.int .i64 i,.bool true] W (NdPost (errs l q t true x) W):=fun i x W hx hW=>kn.out t i x B2 d2 W htm hx hW (hrx W hW)
   have g1:(0:Int)≤(kj:Int):=oQ;have g2:(kj:Int)<q.ret.length:=oQ;have hLn:=mapI_take (retF l q) ht;have hret:retF l q kj t=mapI (fun i x=>eF 12 5 kj i (errs l q t true x)) 0 t++(if isTruthB t=true then [⟨12,5,75,5,kj,(t.length:Int) -1⟩]else []):=rfl;rw[hret,←zR]at hLn;replace hLn:Hid (L3++mapI (retF l q) 0 (q.ret.take (kj+1))=L++(mapI (fun i x=>eF 12 5 kj i (errs l q t true x)) 0 t++(if isTruthB t=true then [⟨12,5,75,5,kj,(t.length:Int) -1⟩]else []))):=by
    show _=_
    rw[hLn,hL.out];simp only[zR]
   replace hkn:=Hd hkn;replace hrx:=Hd hrx;replace hnt:=Hd hnt;clear hret rx;replace ht:=Hd ht;replace htm:=Hd htm;have hIH:=Hd hI;clear hI;obtain⟨wo,hwo⟩:∃wo:World,wo=wr:=⟨_,rfl⟩
   subst hwo;go_wp2;clear x0 x1 x2 x3 x4 x5 x6 a0;go_loopw [5,10] (fun v i wr=>∃(j:Nat)(L4:List Fg),j≤t.length∧i=.int .i64 j∧Hid (L4=L++mapI (fun i x=>eF 12 5 kj i (errs l q t true x)) 0 (t.take j))∧FO l A c q ⟨A1,c1,A2,c2,some ⟨g,off,none⟩,c3⟩ w wr v L4) (fun _ i _=>t.length- (intOf i).toNat)
   case atStart=>exact⟨0,L,zE _,rfl,(by show L=_;simp[mapI]),hIH.out⟩
   case round=>
    clear hIH;obtain⟨j,L4,hj,rfl,hL4,hI⟩:=hrel;have hL4l:L4.length≤10485762:=by
     rw[hL4.out,zH];have:(mapI (fun i x=>eF 12 5 kj i (errs l q t true x)) 0 (t.take j)).length≤(t.take j).length*4:=eFs_len (f:=fun _ x=>errs l q t true x) 12 5 (fun i=>((kj:Int),(i:Int))) (t.take j) (fun _ x=>by rw[errs_len];omega);rw[zO]at this;omega
    obtain⟨A4,c4,rfl⟩:=hI.ol.form;obtain⟨x0,x1,x2,x3,x4,x5,x6⟩:=cc hI;try simp only at x0 x3 x6
    have y0:wr.cell? ⟨w.heap.size,0,none⟩=some (.slice A l.length c):=hI.sq.b0.cell 0;have hbs:=hI.hb.size;by_cases hlt2:j<t.length
    ·obtain⟨x,hx⟩:=getx hlt2;have p1:(0:Int)≤(j:Int):=oQ;have p2:(j:Int)<t.length:=oQ;have kn':=hkn.out j x wr hx hI.hb;have hLn2:=mapI_take (fun i x=>eF 12 5 kj i (errs l q t true x)) hx;replace hLn2:L++mapI (fun i x=>eF 12 5 kj i (errs l q t true x)) 0 (t.take (j+1))=L4++eF 12 5 kj j (errs l q t true x):=by rw[hLn2,hL4.out,zR]
     generalize errs l q t true x=e at kn' hLn2;replace kn':=Hd kn';replace hLn2:=Hd hLn2;replace hI:=Hd hI;replace hx:=Hd hx;go_upto_region 20 with(go_at_call 98;refine kn'.out.mono ?_;rintro e W ⟨a1,a2,a3,a4,rfl,rfl,hW⟩)
     have hFR0:FR l A c q ⟨A1,c1,A2,c2,some ⟨g,off,none⟩,c3⟩ W.heap.size a1 a2 a3 a4 w (W.alloc (.cells ⟨erV a1 a2 a3 a4⟩ 140)) (.slice A4 L4.length c4) L4:=⟨(hI.out.stay hW).stay bA,Blk.new _ _ _⟩;simp only[erV]at hFR0;replace hFR0:=Hd hFR0;clear hW x0 x1 x2 x3 x4 x5 x6 y0;obtain⟨wi,hwi⟩:∃wi:World,wi=wr:=⟨_,rfl⟩
     subst hwi;go_wp2;go_loopw [5,12] (fun v i wr=>∃(k:Nat)(Lk:List Fg),k≤4∧i=.int .i64 ((k+1:Nat):Int)∧Hid (Lk=L4++mapI (eG 12 5 kj j) 0 ([a1,a2,a3,a4].take k))∧FR l A c q ⟨A1,c1,A2,c2,some ⟨g,off,none⟩,c3⟩ W.heap.size a1 a2 a3 a4 w wr v Lk) (fun _ i _=>5- (intOf i).toNat)
     case atStart=>exact⟨0,L4,oQ,rfl,(zT L4).symm,hFR0.out⟩
     case round=>
      clear hFR0;obtain⟨k,Lk,hk,rfl,hLk,hF2⟩:=hrel;have hLkl:Lk.length≤10485766:=by
       rw[hLk.out,zH];have:=eG_len 12 5 kj j a1 a2 a3 a4 k;omega
      obtain⟨A5,c5,rfl⟩:=hF2.fo.ol.form;have hbs2:=hF2.fo.hb.size;by_cases hk4:k<4
      ·obtain⟨cv,hcv⟩:=getx (l:=[a1,a2,a3,a4]) (i:=k) (by simpa using hk4);have q0:=(hF2.bb.cell (k+1)).trans (er_get hcv);have hnx:=mapI_take (eG 12 5 kj j) hcv;have p1:((k+1:Nat):Int)≤4:=oQ;have p2:(0:Int)≤((k+1:Nat):Int):=oQ;have p3:((k+1:Nat):Int)<5:=oQ;have hbg:Lk.length+1≤BigF:=by unfold BigF;omega
       have hkk:((k:Int)+1)=((k+1:Nat):Int):=oQ;have hm1:k+1+1≤5:=oQ;generalize hkn1:k+1=kn1 at*;replace hbg:=Hd hbg;replace hcv:=Hd hcv;replace hkn1:=Hd hkn1;replace hkk:=Hd hkk;replace hF2:=Hd hF2;by_cases hc0:cv=0
       ·have hL2:Hid (Lk=L4++mapI (eG 12 5 kj j) 0 ([a1,a2,a3,a4].take kn1)):=by
         show _=_
         rw[hnx,hLk.out];unfold eG;rw[if_neg (fun h=>h hc0),zT]
        subst hc0;replace hnx:=Hd hnx;go_wp2;go_roundw
        case rel=>exact⟨kn1,Lk,oQ,gQ,hL2,hF2.out⟩
        case measure=>exact mQ
       ·have f1:=bneT hc0;have f2:=beqF hc0;have hL2:Hid (Lk++[⟨12,(kn1:Int),cv,5,kj,j⟩]=L4++mapI (eG 12 5 kj j) 0 ([a1,a2,a3,a4].take kn1)):=by
         show _=_
         rw[hnx,hLk.out];unfold eG;rw[if_pos hc0,hkk.out,zR]
        replace hnx:=Hd hnx;replace hc0:=Hd hc0;go_wp2_with (first
          |(go_at_call 95;refine(kf.out 12 kn1 cv 5 kj j _).mono ?_;rintro e W2 ⟨rfl,hW⟩;have hF3:=Hd (hF2.out.stay hW);clear hW)
          |(at_builtin;refine wpB rfl (.tmp 91) (.tmp 99) _ rfl (m:=1) (news:=fgD ⟨12,kn1,cv,5,kj,j⟩) elFg (hF3.out.fo.ol.alloc _) rfl rfl (Src.lit (rdlFg ⟨12,kn1,cv,5,kj,j⟩)) rfl (big63 hbg.out) (bigBy hbg.out) (by have:=hF3.out.fo.hb.size;simp;omega) ?_;intro v' w1 hO1 hg1 ha1;obtain⟨B3,d3,rfl⟩:=hO1.form;have hF4:=Hd (hF3.out.app (f:=⟨12,kn1,cv,5,kj,j⟩) hg1 hO1);clear hO1 hg1 ha1))
        go_roundw
        case rel=>exact⟨kn1,_,oQ,gQ,hL2,hF4.out⟩
        case measure=>exact mQ
      ·obtain rfl:k=4:=oQ;have hL2:Hid (Lk=L++mapI (fun i x=>eF 12 5 kj i (errs l q t true x)) 0 (t.take (j+1))):=by
        show _=_
        rw[hLn2.out,hLk.out];rfl
       replace hF2:=Hd hF2;go_wp2;go_roundw
       case rel=>exact⟨j+1,Lk,oQ,gQ,hL2,hF2.out.fo⟩
       case measure=>exact mQ
    ·have p2:¬(j:Int)<t.length:=oQ;obtain rfl:j=t.length:=oQ;rw[zL]at hL4;have hLn3:Hid (L3++mapI (retF l q) 0 (q.ret.take (kj+1))=L4++if isTruthB t=true then [⟨12,5,75,5,kj,(t.length:Int) -1⟩]else []):=by
      show _=_
      rw[hLn.out,hL4.out,zR]
     obtain⟨xl,hxl⟩:=getx (l:=t) (i:=nt) (by have:=hnt.out;omega);have htr:=tr_last hnt.out hxl;obtain⟨g9,off9,rfl,_,z0,_⟩:=nd_at (hrx.out wr hI.hb) hxl;have hlp:0<t.length:=by have:=hnt.out;omega
     have n0:(0:Int)<(t.length:Int):=oQ;have n1:(0:Int)≤(nt:Int):=oQ;have n3:(nt:Int)<(t.length:Int):=by have:=hnt.out;omega
     have nw:(t.length:Int) -1=(nt:Int):=(by have:=hnt.out;omega);have nw2:IntKind.i64.wrap ((t.length:Int) -1)=(nt:Int):=by rw[xI];omega
     rw[htr,nw]at hLn3;generalize hto:truthO xl.op=tb at hLn3;replace hto:=Hd hto;replace htr:=Hd htr;replace hxl:=Hd hxl;replace nw:=Hd nw;replace hI:=Hd hI;go_upto_region 25 with fail
     go_cut [113] (fun s wx=>s=.bool tb∧FO l A c q ⟨A1,c1,A2,c2,some ⟨g,off,none⟩,c3⟩ w wx (.slice A4 L4.length c4) L4)
     case first=>
      go_wp2_with (go_at_call 99;refine(kt.out _ _).mono ?_;rw[hto.out];rintro e W ⟨rfl,hW⟩;subst W)
      all_goals(go_meet;exact⟨rfl,hI.out⟩)
     case rest=>
     obtain⟨rfl,hI2⟩:=hcut;clear x0 x1 x2 x3 x4 x5 x6 y0 z0 hI hL4;have hI:=Hd hI2;clear hI2;cases tb with
     |true=>
      have hbg:=Hd (show L4.length+1≤BigF by unfold BigF;omega);have hL2:Hid (L4++[⟨12,5,75,5,kj,(nt:Int)⟩]=L3++mapI (retF l q) 0 (q.ret.take (kj+1))):=by
       show _=_
       rw[hLn3.out,if_pos rfl]
      go_wp2_with (first
         |(go_at_call 95;refine(kf.out 12 5 75 5 kj nt _).mono ?_;rintro e W2 ⟨rfl,hW⟩;have hF3:=Hd (hI.out.stay hW);clear hW)
         |(at_builtin;refine wpB rfl (.tmp 114) (.tmp 120) _ rfl (m:=1) (news:=fgD ⟨12,5,75,5,kj,(nt:Int)⟩) elFg (hF3.out.ol.alloc _) rfl rfl (Src.lit (rdlFg ⟨12,5,75,5,kj,(nt:Int)⟩)) rfl (big63 hbg.out) (bigBy hbg.out) (by have:=hF3.out.hb.size;simp;omega) ?_;intro v' w1 hO1 hg1 ha1;obtain⟨B3,d3,rfl⟩:=hO1.form;have hF4:=Hd (hF3.out.app (f:=⟨12,5,75,5,kj,(nt:Int)⟩) hg1 hO1);clear hO1 hg1 ha1))
      go_roundw
      case rel=>exact⟨kj+1,_,oQ,gQ,hL2,hF4.out⟩
      case measure=>exact mQ
     |false=>
      have hL2:Hid (L4=L3++mapI (retF l q) 0 (q.ret.take (kj+1))):=by
       show _=_
       rw[hLn3.out,if_neg sJ,zT]
      go_wp2;go_roundw
      case rel=>exact⟨kj+1,L4,oQ,gQ,hL2,hI.out⟩
      case measure=>exact mQ
  ·have g2:¬(kj:Int)<q.ret.length:=oQ;obtain rfl:kj=q.ret.length:=oQ;have hfin:Hid (L=R0):=by show _=_;rw[hRL.out,hL.out,zL]
   replace hI:=Hd hI;go_wp2;go_ret;exact FgPost.mk hfin.out hI.out.ol hI.out.hb
end ckW
theorem whereF_len (l:List Td)(q:Qy)(hs:SzQ q)(hsh:q.wh=[]∨treeB q.wh=true):(whereF l q).length≤6291458:=by
 have e:whereF l q=mapI (fun i x=>eF 6 4 i 0 (errs l q q.wh false x)) 0 q.wh++(if q.wh=[]then []else(if isTruthB q.wh=false then [⟨7,0,75,4,(q.wh.length:Int) -1,0⟩]else [])++(conjs q.wh).flatMap (mxF q)):=rfl;have h1:(mapI (fun i x=>eF 6 4 i 0 (errs l q q.wh false x)) 0 q.wh).length≤q.wh.length*4:=eFs_len (f:=fun _ x=>errs l q q.wh false x) 6 4 (fun i=>((i:Int),0)) q.wh (fun _ x=>by rw[errs_len];omega);have hl:=hs.wh.1;rw[e,zH];by_cases hne:q.wh=[]
 ·rw[if_pos hne];simp;omega
 ·rw[if_neg hne,zH];have h2:(if isTruthB q.wh=false then [(⟨7,0,75,4,(q.wh.length:Int) -1,0⟩:Fg)]else []).length≤1:=if_len _;have h3:=mx_len q (conjs q.wh);have h4:(conjs q.wh).length≤1048576:=by
   obtain⟨⟨n,hn,hsp⟩,_,_⟩:=treeB_sp (hsh.resolve_left hne);unfold conjs;have:=cj_len hsp (n:=q.wh.length) oQ;rw[show q.wh.length-1=n by omega];omega
  omega
theorem restF_len (l:List Td)(q:Qy)(hs:SzQ q)(hB:SzB q):(restF l q).length≤6291460:=by
 rw[restF_eq,zH,zH,zH];have h1:(if 1099511627776<q.within then [(⟨9,0,66,2,0,0⟩:Fg)]else []).length≤1:=if_len _;have h2:(if q.by_=emp then []else q.items.flatMap (paF l q)).length≤1048576:=by
  by_cases h:q.by_=emp
  ·rw[if_pos h];simp
  ·rw[if_neg h];have:=flat_len (f:=paF l q) q.items (fun x=>if_len _);have:=hs.il;omega
 have h3:(if 8<q.ret.length then [(⟨11,0,78,5,8,0⟩:Fg)]else []).length≤1:=if_len _;have h4:=rets_len l q hs hB q.ret.length;rw[zL]at h4;omega
def RfPost (c:Int)(w:World)(e:Ending)(w':World):Prop:=∃p i s,e=.returned (.agg #[.int .i64 c,.int .i64 p,.int .i64 i,.int .i64 s])∧Bw w w'
theorem RfPost.mk {c d p i s:Int}{w w':World}(hc:d=c)(hb:Bw w w'):RfPost c w (.returned (.agg ⟨flV d p i s⟩)) w':=by subst hc;exact⟨p,i,s,rfl,hb⟩
structure CF (l:List Td)(A:Option Addr)(c:Nat)(q:Qy)(s:Sl3)(w wr:World)(v:Value)(L:List Fg):Prop where
 cb:CB l A c q s w wr
 ol:OL wr w.heap.size NoF 111 6 v L.length (L.flatMap fgD)
structure CX (l:List Td)(A:Option Addr)(c:Nat)(q:Qy)(s:Sl3)(gb:Nat)(b:Fg)(w wr:World)(v:Value)(L:List Fg):Prop where
 cf:CF l A c q s w wr v L
 bb:Blk wr gb 111 (fgV b)
 gl:w.heap.size+1+1<gb
section
variable {l:List Td}{A:Option Addr}{c:Nat}{q:Qy}{s:Sl3}{gb:Nat}{b b':Fg}{w wr W w1:World}{v v':Value}{L:List Fg}
theorem CF.stay (h:CF l A c q s w wr v L)(hb:Bw wr W):CF l A c q s w W v L:=⟨h.cb.stay hb,h.ol.stay hb⟩
theorem CX.stay (h:CX l A c q s gb b w wr v L)(hb:Bw wr W):CX l A c q s gb b w W v L:=⟨h.cf.stay hb,h.bb.stay hb,h.gl⟩
theorem CX.put (h:CX l A c q s gb b w wr v L)(hn:v.ownBlock≠some gb)(hg:wr.grownBy w1 (some gb))(hb:Blk w1 gb 111 (fgV b')):CX l A c q s gb b' w w1 v L:=by
 have hgl:=h.gl;refine⟨⟨⟨⟨h.cf.cb.sq.hb.grown hg h.cf.cb.sq.hb.size (fun q hq=>by injection hq with hq;omega),h.cf.cb.sq.b0.grown hg (fun e=>by injection e with e;omega),h.cf.cb.sq.b1.grown hg (fun e=>by injection e with e;omega)⟩,h.cf.cb.b2.grown hg (fun e=>by injection e with e;omega)⟩,?_⟩,hb,hgl⟩;exact h.cf.ol.kept hg (.inr hn) (fun _ hb=>hb.elim)
theorem fg_cells (h:Blk wr gb 111 (fgV b)):wr.cell? ⟨gb,0,none⟩=some (.int .i64 b.rule)∧wr.cell? ⟨gb,1,none⟩=some (.int .i64 b.rank)∧wr.cell? ⟨gb,2,none⟩=some (.int .i64 b.code)∧wr.cell? ⟨gb,3,none⟩=some (.int .i64 b.part)∧wr.cell? ⟨gb,4,none⟩=some (.int .i64 b.idx)∧wr.cell? ⟨gb,5,none⟩=some (.int .i64 b.sub):=
 ⟨h.cell 0,h.cell 1,h.cell 2,h.cell 3,h.cell 4,h.cell 5⟩
theorem fg_at {B i:Nat}{x:Fg}(h:OL wr B NoF 111 6 v L.length (L.flatMap fgD))(hx:L[i]? =some x):∃g cap,v=.slice (some ⟨g,0,none⟩) L.length cap∧g<wr.heap.size∧(∀j,wr.frozen? ⟨g,j,none⟩=false)∧
  wr.cell? ⟨g,i*6,none⟩=some (.int .i64 x.rule)∧wr.cell? ⟨g,i*6+1,none⟩=some (.int .i64 x.rank)∧wr.cell? ⟨g,i*6+2,none⟩=some (.int .i64 x.code)∧wr.cell? ⟨g,i*6+3,none⟩=some (.int .i64 x.part)∧wr.cell? ⟨g,i*6+4,none⟩=some (.int .i64 x.idx)∧wr.cell? ⟨g,i*6+5,none⟩=some (.int .i64 x.sub):=by
 obtain⟨g,cap,e,_,h2,h3,h4⟩:=h.row (by have:=(zC.1 hx).1;omega);have key:∀(j:Nat)(y:Value),(fgD x)[j]? =some (.v y)→wr.cell? ⟨g,i*6+j,none⟩=some y:=fun j y hj=>by
  obtain⟨u,hu,hr⟩:=h4 (i*6+j) _ (fmg (f:=fgD) (m:=6) (fun _=>rfl) hx hj);rw[hr.v_inv]at hu;exact hu
 exact⟨g,cap,e,h2,h3,key 0 _ rfl,key 1 _ rfl,key 2 _ rfl,key 3 _ rfl,key 4 _ rfl,key 5 _ rfl⟩
end
theorem fg_plain (f:Fg):PlainL (fgD f):=fun d hd=>by
 simp only[fgD,List.mem_cons,List.not_mem_nil,or_false]at hd;rcases hd with rfl |rfl |rfl |rfl |rfl |rfl<;>exact⟨_,rfl⟩
theorem bestF_snoc (b:Fg)(r:List Fg)(x:Fg):bestF b (r++[x])=if Klt x (bestF b r)then x else bestF b r:=by
 rw[bestF_app];rfl
theorem bestF_take {b x:Fg}{r:List Fg}{k:Nat}(h:r[k]? =some x):bestF b (r.take (k+1))=if Klt x (bestF b (r.take k))then x else bestF b (r.take k):=by
 rw[zJ,h];exact bestF_snoc b (r.take k) x
theorem refC_code {l:List Td}{q:Qy}(hc:scC l=0)(hs:shapedB q=true){L:List Fg}(hL:L=if itemsF l q=[]then whereF l q++restF l q else itemsF l q):bestC L=checkC (scC l) l q:=by
 have h:=refC_eq (l:=l) hs;unfold refC at h;rw[←apply_ite bestC]at h;rw[hL];unfold checkC;rw[hc,if_pos hs,h];simp[fz]
end Go.Proofs.YthaabihjeomipaaGreatDoor
