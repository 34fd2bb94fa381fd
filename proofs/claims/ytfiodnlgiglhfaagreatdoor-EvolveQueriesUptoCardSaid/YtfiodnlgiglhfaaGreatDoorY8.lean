/- The law's writing over the answer. -/
import Derived.Test.YtfiodnlgiglhfaaGreatDoorY6
namespace Go.Proofs.YtfiodnlgiglhfaaGreatDoor
set_option maxRecDepth 100000
set_option maxHeartbeats 16000000
open Go.RowKit Go.Deep
set_option linter.unusedVariables false
set_option linter.unusedSimpArgs false
def moIt:List Value:=[.bool false,.slice none 0 0,.string ⟨#[109,111,114,101]⟩,.int .i64 0,.int .i64 0]
def moRe:List Value:=[.slice none 0 0]
def moStr:List Value:=[.string ⟨#[109,111,114,101]⟩]
theorem moIt_one:∀u∈moIt,u.oneCell'=true:=fun u hu=>by simp[moIt]at hu;rcases hu with rfl |rfl |rfl |rfl<;>rfl
theorem moRe_one:∀u∈moRe,u.oneCell'=true:=fun u hu=>by simp[moRe]at hu;subst hu;rfl
theorem moStr_one:∀u∈moStr,u.oneCell'=true:=fun u hu=>by simp[moStr]at hu;subst hu;rfl
theorem ndA_one (a:Int):∀u∈ndV (ndA a),u.oneCell'=true:=fun u hu=>by simp[ndV]at hu;rcases hu with rfl |rfl |rfl |rfl |rfl |rfl<;>rfl
def L7 (n b:Nat)(nv x:Value)(S:Prop):Prop:=∃i N:Nat,i≤n∧x=.int .i64 i∧nv=.int .i64 (N:Int)∧210≤N∧N≤b+i*2000000∧S
theorem L7.mk {n b:Nat}{nv x:Value}{S:Prop}(i N:Nat)(h1:i≤n)(h2:x=.int .i64 i)(h3:nv=.int .i64 (N:Int))(h4:210≤N)(h5:N≤b+i*2000000)(h6:S):L7 n b nv x S:=⟨i,N,h1,h2,h3,h4,h5,h6⟩
def L6 (x:Value)(S:Nat→Prop):Prop:=∃k:Nat,k≤70∧x=.int .i64 k∧S k
theorem L6.mk {x:Value}{S:Nat→Prop}(k:Nat)(h1:k≤70)(h2:x=.int .i64 k)(h3:S k):L6 x S:=⟨k,h1,h2,h3⟩
namespace lawW
open nmW ckW evW
theorem keeps_k (q:Qy)(w:World)(Bg Eg:Nat)(v1 v2 v3:Value)(l:List (It×Value))(rl:List (List Nd×Value))(hO:OQ w Bg v1 v2 v3 l q.wh rl)(hl:l.map (·.1)=q.items)(hr:rl.map (·.1)=q.ret)(hs:SzQ q)(hil:l.length≤20)(hrl:rl.length≤20)
  (hE:Eg≤w.heap.size)(hB:Bg≤w.heap.size)(own:OwnLt Eg v1 v2 v3 l rl):
  Calls Tryz.prog 13 #[.agg ⟨quV q v1 v2 v3 q.by_⟩] w fun e w'=>e=.returned (.bool true)∧Kp w w' Bg Eg:=by
 have h0:KS q w (w.alloc (.cells ⟨quV q v1 v2 v3 q.by_⟩ 32)) Bg Eg v1 v2 v3 (mapF fIt nIt l 0 0) q.wh rl:=by
  rw[mapF_00 fIt_0];exact⟨(Kp.refl _ _ _).below bA,Blk.new _ _ _,hO.stay bA⟩
 obtain⟨A1,c1,rfl⟩:=hO.i.kr.form;obtain⟨A2,c2,rfl⟩:=hO.wr.form;obtain⟨A3,c3,rfl⟩:=hO.r.kr.form;have htl:∀p∈l,p.1.tys.length≤1048576:=fun p hp=>(hs.it p.1 (by rw[←hl];exact xJ hp)).1.1
 have htr:∀p∈rl,p.1.length≤1048576:=fun p hp=>(hs.re p.1 (by rw[←hr];exact xJ hp)).1
 have hwl:=hs.wh.1;simp only[quV]at h0 ⊢;replace h0:=Hd h0;replace htl:=Hd htl;replace htr:=Hd htr;replace hO:=Hd hO;replace own:=Hd own;replace hl:=Hd hl;replace hr:=Hd hr;replace hs:=Hd hs;go_enter Tryz.func13,Tryz.ntmps13;go_wp2;go_loopw [3] (fun x wr=>∃i:Nat,i≤l.length∧x=.int .i64 i∧KS q w wr Bg Eg (.slice A1 l.length c1) (.slice A2 q.wh.length c2) (.slice A3 rl.length c3) (mapF fIt nIt l i 0) q.wh rl) (fun x _=>l.length- (intOf x).toNat)
 case atStart=>exact⟨0,zE _,rfl,h0.out⟩
 case round=>
  clear h0;obtain⟨i,hi,rfl,hK⟩:=hrel;have y0:wr.cell? ⟨w.heap.size,0,none⟩=some (.slice A1 l.length c1):=hK.bx.cell 0;by_cases hlt:i<l.length
  ·obtain⟨p,hp⟩:=getx hlt;have htp:=htl.out p (zA hp);have hi26:i<26:=by omega
   have g0:(0:Int)≤(i:Int):=by omega
   have g1:(i:Int)<l.length:=by omega
   obtain⟨Ap,cp,hv⟩:=(hO.out.i.fr p (zA hp)).form;have hv':=Hd (show p.2=.slice Ap p.1.tys.length cp from hv);have hK0:=Hd hK;clear hK hv;go_wp2;clear y0;go_loopw [4] (fun x wr=>∃j:Nat,j≤p.1.tys.length∧x=.int .i64 j∧KS q w wr Bg Eg (.slice A1 l.length c1) (.slice A2 q.wh.length c2) (.slice A3 rl.length c3) (mapF fIt nIt l i j) q.wh rl) (fun x _=>p.1.tys.length- (intOf x).toNat)
   case atStart=>exact⟨0,zE _,rfl,hK0.out⟩
   case round=>
    clear hK0;obtain⟨j,hj,rfl,hK⟩:=hrel;obtain⟨gk,capk,eA,hgk,y1⟩:=hK.oq.itc (mapF_at hp);rw[mapF_len]at eA;injection eA with eA1 eA2 eA3
    subst eA1 eA3;clear eA2;have y0:wr.cell? ⟨w.heap.size,0,none⟩=some (.slice (some ⟨gk,0,none⟩) l.length c1):=hK.bx.cell 0;rw[show((fIt i j p.1,p.2):It×Value).2=p.2 from rfl,hv'.out]at y1;by_cases hlj:j<p.1.tys.length
    ·have hm:=mapF_at (f:=fIt) (n:=nIt) (j:=j) hp;have hfr:OL wr Bg NoB 9 1 p.2 (fIt i j p.1).tys.length ((fIt i j p.1).tys.flatMap strD):=hK.oq.i.fr _ (zA hm);have hln:(fIt i j p.1).tys.length=p.1.tys.length:=mk_len _ (by omega);obtain⟨ga,capa,eP,_,hga,_,hcell⟩:=hfr.row (by omega);have eP2:=hv'.out.symm.trans eP;injection eP2 with eP3 eP4 eP5
     subst eP3;have kf:∀W,Bw wr W→W.frozen? ⟨ga,j,none⟩=false:=fun W hW=>by
      obtain⟨ga',_,e,_,_,hz,_⟩:=(hfr.stay hW).row (by omega);have e2:=hv'.out.symm.trans e;injection e2 with e3 _ _
      injection e3 with e3
      injection e3 with e3 _
      subst e3;exact hz j
     obtain⟨x,hx⟩:=getx (l:=(fIt i j p.1).tys) (i:=j) (by omega);obtain⟨u,hu,_⟩:=hcell j (.v (.string x)) (by
      have:=fmg (f:=strD) (m:=1) (fun _=>rfl) hx (j:=0) rfl;simpa using this)
     have p0:(0:Int)≤(j:Int):=(by omega);have p1:(j:Int)<p.1.tys.length:=by omega
     have kS:=fun W (hW:Bw wr W)=>xW ((hK.stay hW).bx.cell 0) ((hW.cell (p:=⟨gk,i*5+1,none⟩) hgk).trans y1)
     have ku:=fun W (hW:Bw wr W)=>(hW.cell (p:=⟨ga,j,none⟩) hga).trans hu
     have hSS:=xW (kS wr.drew (bR).drew) trivial;have kmk:=mark_k i hi26 wr.drew;have kT:=fun W (hW:Bw wr W)=>(hK.stay hW).setT hE hB own.out hp hv'.out hlj
     replace kS:=Hd kS;replace ku:=Hd ku;replace kf:=Hd kf;replace kT:=Hd kT;replace kmk:=Hd kmk;replace hK:=Hd hK;replace hm:=Hd hm;replace hp:=Hd hp;replace hx:=Hd hx;clear hcell hfr hu eP eP4 eP5;go_upto_region 7 with fail
     clear y0 y1;refine G_region (p:=100) (S0:=fun W=>W.cell? ⟨w.heap.size,0,none⟩=some (.slice (some ⟨gk,0,none⟩) l.length c1)∧W.cell? ⟨gk,i*5+1,none⟩=some (.slice (some ⟨ga,0,none⟩) p.1.tys.length cp)) (S1:=fun _=>True) (by kernel_rfl) ?_;refine' TkA 0 rfl hSS ?_;refine' TkA 1 rfl hSS ?_;refine' TkA 2 rfl hSS ?_;refine' TkA 3 rfl hSS ?_;refine' TkA 4 rfl hSS ?_;refine' TkA 5 rfl hSS ?_;refine' TkA 6 rfl hSS ?_;refine' TkA 7 rfl hSS ?_;try simp only[Act.put,TkS]
     refine Gs 8 rfl fun K hK=>?_
     go_simp;go_at_call 29;refine kmk.out.mono ?_;rintro e W4 ⟨rfl,hBW4⟩;have hU4:=Hd ((zB wr.heap.size wr).drew.trans hBW4);refine hK.out _ _ ⟨kS.out W4 hU4.out,fun _=>trivial⟩ ?_;have hST:=xW (kS.out W4 hU4.out) trivial;clear hK K hSS hBW4;refine' TkA 9 rfl hST ?_;try simp only[Act.put,TkS]
     have z1:=ku.out W4 hU4.out;have z2:=kf.out W4 hU4.out;have hk2:=kT.out W4 hU4.out;have hS2:(W4.setCell ⟨ga,j,none⟩ (.string (mkS i))).cell? ⟨w.heap.size,0,none⟩=some (.slice (some ⟨gk,0,none⟩) l.length c1)∧(W4.setCell ⟨ga,j,none⟩ (.string (mkS i))).cell? ⟨gk,i*5+1,none⟩=some (.slice (some ⟨ga,0,none⟩) p.1.tys.length cp):=by
      obtain⟨g',cap',e,_,hc⟩:=hk2.oq.itc (mapF_at hp.out);rw[mapF_len]at e;injection e with e _ _
      injection e with e
      injection e with e _
      subst e;rw[show((fIt i (j+1) p.1,p.2):It×Value).2=p.2 from rfl,hv'.out]at hc;exact⟨hk2.bx.cell 0,hc⟩
     replace hk2:=Hd hk2;replace hS2:=Hd hS2;refine Gs 10 rfl fun K hK=>?_
     go_simp;refine hK.out _ _ ⟨hS2.out,fun _=>trivial⟩ ?_;clear hK K hST;refine Gd _ ?_;try simp only[Act.put,TkS]
     go_wp2;go_roundw
     case rel=>exact⟨j+1,by omega,by go_num,hk2.out⟩
     case measure=>simp[intOf];omega
    ·obtain rfl:j=p.1.tys.length:=by omega
     have hnx:=hK;rw[show p.1.tys.length=nIt p.1 from rfl,mapF_next fIt_0 hp]at hnx;replace hnx:=Hd hnx;replace hK:=Hd hK;go_wp2;go_roundw
     case rel=>exact⟨i+1,by omega,by go_num,hnx.out⟩
     case measure=>simp[intOf];omega
  ·obtain rfl:i=l.length:=by omega
   obtain⟨lE,hlE⟩:∃lE,lE=mapF fIt nIt l l.length 0:=⟨_,rfl⟩
   rw[←hlE]at hK;replace hlE:=Hd hlE;have hK0:=Hd hK;clear hK;go_wp2;clear y0;go_loopw [5] (fun x wr=>∃j:Nat,j≤q.wh.length∧x=.int .i64 j∧KS q w wr Bg Eg (.slice A1 l.length c1) (.slice A2 q.wh.length c2) (.slice A3 rl.length c3) lE (mk (ndA 899) j q.wh) rl) (fun x _=>q.wh.length- (intOf x).toNat)
   case atStart=>exact⟨0,zE _,rfl,by rw[mk_0];exact hK0.out⟩
   case round=>
    clear hK0;obtain⟨j,hj,rfl,hK⟩:=hrel;have y3:wr.cell? ⟨w.heap.size,3,none⟩=some (.slice A2 q.wh.length c2):=hK.bx.cell 3;by_cases hlj:j<q.wh.length
    ·obtain⟨x,hx⟩:=getx hlj;have hlen:=mk_len (ndA 899) (m:=j) (t:=q.wh) (by omega);obtain⟨gw,capw,eW,_,hgw,hfz,hcell⟩:=hK.oq.wr.row (by omega);injection eW with e1 e2 e3
     subst e1;clear e2 e3;replace hlen:=Hd hlen;have hth:wr.there gw (j*6) 6:=fun k hk=>by
      obtain⟨u,hu,_⟩:=hcell (j*6+k) _ (zI (by rw[nd_len,hlen.out];omega));exact⟨by rw[hu];rfl,hfz _⟩
     have hnx:=hK.setW hE own.out hx;have p0:(0:Int)≤(j:Int):=by omega
     have p1:(j:Int)<q.wh.length:=(by omega);replace hnx:=Hd hnx;replace hK:=Hd hK;replace hx:=Hd hx;replace hth:=Hd hth;clear hcell hfz;go_wp2_with (refine at_op (.store 81 (.tmp 59) (.tmp 58)) rfl ?_;refine wpList_store_mid rfl 81 (.tmp 59) (.tmp 58) rfl gw (j*6) ⟨ndV (ndA 899)⟩ rfl rfl hth.out (by kernel_rfl) (all_oneCell_toArray (ndA_one 899)) ?_);go_roundw
     case rel=>exact⟨j+1,by omega,by go_num,hnx.out⟩
     case measure=>simp[intOf];omega
    ·obtain rfl:j=q.wh.length:=by omega
     obtain⟨wE,hwE⟩:∃wE,wE=mk (ndA 899) q.wh.length q.wh:=⟨_,rfl⟩
     rw[←hwE]at hK;replace hwE:=Hd hwE;have hK0:=Hd hK;clear hK;go_wp2;clear y3;go_loopw [6] (fun x wr=>∃i:Nat,i≤rl.length∧x=.int .i64 i∧KS q w wr Bg Eg (.slice A1 l.length c1) (.slice A2 q.wh.length c2) (.slice A3 rl.length c3) lE wE (mapF fRe List.length rl i 0)) (fun x _=>rl.length- (intOf x).toNat)
     case atStart=>exact⟨0,zE _,rfl,by rw[mapF_00 fRe_0];exact hK0.out⟩
     case round=>
      clear hK0;obtain⟨i,hi,rfl,hK⟩:=hrel;have y6:wr.cell? ⟨w.heap.size,6,none⟩=some (.slice A3 rl.length c3):=hK.bx.cell 6;by_cases hlt:i<rl.length
      ·obtain⟨p,hp⟩:=getx hlt;have htp:=htr.out p (zA hp);have g0:(0:Int)≤(i:Int):=by omega
       have g1:(i:Int)<rl.length:=(by omega);have hw9:IntKind.i64.wrap (900+(i:Int))=900+(i:Int):=by rw[xI];omega
       obtain⟨Ap,cp,hv⟩:=(hO.out.r.fr p (zA hp)).form;have hv':=Hd (show p.2=.slice Ap p.1.length cp from hv);have hK0:=Hd hK;clear hK hv;go_wp2;clear y6;go_loopw [7] (fun x wr=>∃j:Nat,j≤p.1.length∧x=.int .i64 j∧KS q w wr Bg Eg (.slice A1 l.length c1) (.slice A2 q.wh.length c2) (.slice A3 rl.length c3) lE wE (mapF fRe List.length rl i j)) (fun x _=>p.1.length- (intOf x).toNat)
       case atStart=>exact⟨0,zE _,rfl,hK0.out⟩
       case round=>
        clear hK0;obtain⟨j,hj,rfl,hK⟩:=hrel;obtain⟨gk,capk,eA,hgk,y1⟩:=hK.oq.rec_ (mapF_at hp);rw[mapF_len]at eA;injection eA with eA1 eA2 eA3
        subst eA1 eA3;clear eA2;have y6:wr.cell? ⟨w.heap.size,6,none⟩=some (.slice (some ⟨gk,0,none⟩) rl.length c3):=hK.bx.cell 6;rw[show((fRe i j p.1,p.2):List Nd×Value).2=p.2 from rfl,hv'.out]at y1;by_cases hlj:j<p.1.length
        ·obtain⟨x,hx⟩:=getx hlj;have hm:=mapF_at (f:=fRe) (n:=List.length) (j:=j) hp;have hfr:OL wr Bg NoB 81 6 p.2 (fRe i j p.1).length ((fRe i j p.1).flatMap ndD):=hK.oq.r.fr _ (zA hm);have hln:(fRe i j p.1).length=p.1.length:=mk_len _ (by omega);obtain⟨ga,capa,eP,_,hga,hfz,hcell⟩:=hfr.row (by omega);have eP2:=hv'.out.symm.trans eP;injection eP2 with eP3 eP4 eP5
         subst eP3;have hth:wr.there ga (j*6) 6:=fun k hk=>by
          obtain⟨u,hu,_⟩:=hcell (j*6+k) _ (zI (by rw[nd_len,hln];omega));exact⟨by rw[hu];rfl,hfz _⟩
         have hnx:=hK.setR hE own.out hp hv'.out hx;have p0:(0:Int)≤(j:Int):=by omega
         have p1:(j:Int)<p.1.length:=(by omega);replace hnx:=Hd hnx;replace hK:=Hd hK;replace hx:=Hd hx;replace hp:=Hd hp;replace hth:=Hd hth;clear hcell hfz hfr hln hm eP eP4 eP5;go_wp2_with (refine at_op (.store 81 (.tmp 86) (.tmp 85)) rfl ?_;refine wpList_store_mid rfl 81 (.tmp 86) (.tmp 85) rfl ga (j*6) ⟨ndV (ndA (900+(i:Int)))⟩ rfl rfl hth.out (by kernel_rfl) (all_oneCell_toArray (ndA_one _)) ?_);go_roundw
         case rel=>exact⟨j+1,by omega,by go_num,hnx.out⟩
         case measure=>simp[intOf];omega
        ·obtain rfl:j=p.1.length:=by omega
         have hnx:=hK;rw[mapF_next fRe_0 hp]at hnx;replace hnx:=Hd hnx;replace hK:=Hd hK;go_wp2;go_roundw
         case rel=>exact⟨i+1,by omega,by go_num,hnx.out⟩
         case measure=>simp[intOf];omega
      ·obtain rfl:i=rl.length:=by omega
       obtain⟨rE,hrE⟩:∃rE,rE=mapF fRe List.length rl rl.length 0:=⟨_,rfl⟩
       rw[←hrE]at hK;replace hrE:=Hd hrE;have own2:OwnLt Eg (.slice A1 l.length c1) (.slice A2 q.wh.length c2) (.slice A3 rl.length c3) lE rE:=by rw[hlE.out,hrE.out];exact own.out.mapF
       have nl:lE.length=l.length:=(by rw[hlE.out,mapF_len]);have nw:wE.length=q.wh.length:=by rw[hwE.out];exact mk_len _ nR
       have nr:rE.length=rl.length:=(by rw[hrE.out,mapF_len]);have bl:lE.length≤20:=by omega
       have bw:wE.length≤1048576:=(by omega);have br:rE.length≤20:=by omega
       replace own2:=Hd own2;replace nl:=Hd nl;replace nw:=Hd nw;replace nr:=Hd nr;have y0:wr.cell? ⟨w.heap.size,0,none⟩=some (.slice A1 l.length c1):=hK.bx.cell 0;have y3:wr.cell? ⟨w.heap.size,3,none⟩=some (.slice A2 q.wh.length c2):=hK.bx.cell 3;have hG0:=Hd (G3.start hK);clear hK own;go_wp2;clear y0 y3 y6;go_loopw [8,9,10,11] (fun a b c x wr=>L6 x fun k=>G3 q w wr Bg Eg (.slice A1 l.length c1) (.slice A2 q.wh.length c2) (.slice A3 rl.length c3) lE wE rE k k k a b c) (fun _ _ _ x _=>70- (intOf x).toNat)
       case atStart=>exact L6.mk 0 (zE _) rfl hG0.out
       case round=>
        clear hG0;obtain⟨k,hk,rfl,hG⟩:=hrel;by_cases hlt:k<70
        ·have hwb:Bg≤wr.heap.size:=(by have:=hG.lt;omega);have hGa:=hG.stay (bX (.cells ⟨moIt⟩ 54));obtain⟨d1,gA⟩:=hGa.a;have b1:=Hd (Blk.new wr 54 moIt);replace hGa:=Hd hGa;replace gA:=Hd gA;clear hG;go_wp2_with (first
          |(at_builtin;refine wpList_gr rfl (.tmp 97) (.tmp 99) _ rfl elIt gA.out rfl rfl b1.out rfl moIt_one (by omega) (by omega) (by simp;omega) ?_;intro u1 W1 hG1 hg1 ha1;have hK1:=hGa.out.itA hE own2.out hG1 hg1 ha1;clear hGa gA b1 hG1 hg1 ha1;have hwb1:Bg≤W1.heap.size:=(by have:=hK1.lt;omega);have hGb:=hK1.stay (bX (.cells ⟨moRe⟩ 29));obtain⟨d2,gB⟩:=hGb.b;have b2:=Hd (Blk.new W1 29 moRe);replace hGb:=Hd hGb;replace gB:=Hd gB;clear hK1)
          |(at_builtin;refine wpList_gr rfl (.tmp 101) (.tmp 102) _ rfl elRe gB.out rfl rfl b2.out rfl moRe_one (by omega) (by omega) (by simp;omega) ?_;intro u3 W2 hG2 hg2 ha2;have hK2:=hGb.out.reA hE own2.out hG2 hg2 ha2;clear hGb gB b2 hG2 hg2 ha2;have hwb2:Bg≤W2.heap.size:=(by have:=hK2.lt;omega);have hGc:=hK2.stay (bX (.cells ⟨ndV (ndA 7)⟩ 81));obtain⟨d3,gC⟩:=hGc.c;have b3:=Hd (Blk.new W2 81 (ndV (ndA 7)));replace hGc:=Hd hGc;replace gC:=Hd gC;clear hK2)
          |(at_builtin;refine wpList_gr rfl (.tmp 104) (.tmp 106) _ rfl elNd gC.out rfl rfl b3.out rfl (ndA_one 7) (by omega) (by omega) (by simp;omega) ?_;intro u2 W3 hG3 hg3 ha3;have hK3:=Hd (hGc.out.whA hE own2.out hG3 hg3 ha3);clear hGc gC b3 hG3 hg3 ha3))
         go_roundw
         case rel=>exact L6.mk (k+1) (by omega) (by go_num) hK3.out
         case measure=>simp[intOf];omega
        ·have hk70:k=70:=(by omega);have hK:=hG.ks;obtain⟨d1,gA⟩:=hG.a;obtain⟨d2,gB⟩:=hG.b;obtain⟨d3,gC⟩:=hG.c;obtain⟨A8,c8,e8⟩:=gA.b.form;obtain⟨A9,c9,e9⟩:=gB.b.form;obtain⟨A10,c10,e10⟩:=gC.b.form;subst e8 e9 e10;clear gA gB gC hG;generalize hn8:lE.length+k=n8;generalize hn9:rE.length+k=n9;generalize hn10:wE.length+k=n10;have m8:70≤n8∧n8≤90:=by omega
         have m9:70≤n9∧n9≤90:=(by omega);have m10:70≤n10∧n10≤1048646:=by omega
         have hw1:IntKind.i64.wrap ((n8:Int)+(n9:Int))=(n8:Int)+(n9:Int):=(by rw[xI];omega);have hw2:IntKind.i64.wrap ((n8:Int)+(n9:Int)+(n10:Int))=(n8:Int)+(n9:Int)+(n10:Int):=by rw[xI];omega
         have htE:∀(i:Nat) p,lE[i]? =some p→p.1.tys.length≤1048576∧∀j,j<p.1.tys.length→p.1.tys[j]? =some (mkS i):=fun i p hp=>by
          rw[hlE.out]at hp;obtain⟨p0,h0,rfl⟩:=mapF_full hp;have h1:=htl.out p0 (zA h0);have e1:(fIt i (nIt p0.1) p0.1).tys=List.replicate p0.1.tys.length (mkS i):=mk_all _ _;refine⟨by show(fIt i (nIt p0.1) p0.1).tys.length≤_;rw[e1,List.length_replicate];exact h1,fun j hj=>?_⟩;show(fIt i (nIt p0.1) p0.1).tys[j]? =_
          have hj':j<(fIt i (nIt p0.1) p0.1).tys.length:=hj;rw[e1,List.length_replicate]at hj';rw[e1,List.getElem?_replicate,if_pos hj']
         replace htE:=Hd htE;have hK0:=Hd hK;clear hn8 hn9 hn10 hK hk70;go_wp2;clear hw1 hw2;go_loopw [12,13] (fun nv x wr=>L7 lE.length 10000000 nv x (KS q w wr Bg Eg (.slice A1 l.length c1) (.slice A2 q.wh.length c2) (.slice A3 rl.length c3) lE wE rE)) (fun _ x _=>lE.length- (intOf x).toNat)
         case atStart=>exact L7.mk 0 (n8+n9+n10) (zE _) rfl (by go_num) (by omega) (by omega) hK0.out
         case round=>
          clear hK0;obtain⟨i,N,hi,rfl,rfl,hN1,hN2,hK⟩:=hrel;have y0:wr.cell? ⟨w.heap.size,0,none⟩=some (.slice A1 l.length c1):=hK.bx.cell 0;by_cases hlt:i<lE.length
          ·obtain⟨p,hp⟩:=getx hlt;obtain⟨htp,hmk⟩:=htE.out i p hp;have hi26:i<26:=by omega
           have g0:(0:Int)≤(i:Int):=(by omega);have g1:(i:Int)<l.length:=by have:=nl.out;omega
           have nl1:i<l.length:=(by have:=nl.out;omega);obtain⟨gk,capk,eA,hgk,y1⟩:=hK.oq.itc hp;rw[nl.out]at eA;injection eA with eA1 eA2 eA3
           subst eA1 eA3;clear eA2;obtain⟨Ap,cp,hv⟩:=(hK.oq.i.fr p (zA hp)).form;have hv':p.2=.slice Ap p.1.tys.length cp:=hv;rw[hv']at y1;have hGI:=GI.start hK hp;rw[hv']at hGI;have hGI0:=Hd hGI;replace hmk:=Hd hmk;replace hv':=Hd hv';replace hp:=Hd hp;clear hK hGI hv;go_wp2;clear y0 y1;go_loopw [14,15] (fun u y wr=>L6 y fun k=>GI q w wr Bg Eg (.slice (some ⟨gk,0,none⟩) l.length c1) (.slice A2 q.wh.length c2) (.slice A3 rl.length c3) lE wE rE p k u) (fun _ y _=>70- (intOf y).toNat)
           case atStart=>exact L6.mk 0 (zE _) rfl hGI0.out
           case round=>
            clear hGI0;obtain⟨k,hk,rfl,hG⟩:=hrel;by_cases hlt2:k<70
            ·have hwb:Bg≤wr.heap.size:=(by have:=hG.ks.bx.lt;omega);have hGa:=hG.stay (bX (.cells ⟨moStr⟩ 9));obtain⟨d1,gA⟩:=hGa.a;have b1:=Hd (Blk.new wr 9 moStr);replace hGa:=Hd hGa;replace gA:=Hd gA;clear hG;go_wp2_with (at_builtin;refine wpList_gr rfl (.tmp 133) (.tmp 134) _ rfl elStr gA.out rfl rfl b1.out rfl moStr_one (by omega) (by omega) (by simp;omega) ?_;intro u1 W1 hG1 hg1 ha1;have hK1:=Hd (hGa.out.app hp.out hE own2.out hG1 hg1 ha1);clear hGa gA b1 hG1 hg1 ha1);go_roundw
             case rel=>(refine L6.mk (k+1) (by omega) (by go_num) ?_;exact hK1.out)
             case measure=>simp[intOf];omega
            ·have hk70:k=70:=(by omega);have hGI:=Hd hG;obtain⟨d1,gA⟩:=hG.a;obtain⟨Au,cu,eu⟩:=gA.b.form;subst eu;clear gA hG;generalize hm:p.1.tys.length+k=m;rw[hm]at hGI;have m1:p.1.tys.length≤m∧m≤1048646:=by omega
             have hw1:IntKind.i64.wrap ((N:Int)+(m:Int))=(N:Int)+(m:Int):=(by rw[xI];omega);clear hm hk70;go_wp2;clear hw1;go_loopw [16] (fun y wr=>∃j:Nat,j≤p.1.tys.length∧y=.int .i64 j∧GI q w wr Bg Eg (.slice (some ⟨gk,0,none⟩) l.length c1) (.slice A2 q.wh.length c2) (.slice A3 rl.length c3) lE wE rE p k (.slice Au m cu)) (fun y _=>p.1.tys.length- (intOf y).toNat)
             case atStart=>exact⟨0,zE _,rfl,hGI.out⟩
             case round=>
              clear hGI;obtain⟨j,hj,rfl,hG⟩:=hrel;have y0:wr.cell? ⟨w.heap.size,0,none⟩=some (.slice (some ⟨gk,0,none⟩) l.length c1):=hG.ks.bx.cell 0;obtain⟨gk',_,eA,_,y1⟩:=hG.ks.oq.itc hp.out;injection eA with eA e2 e3
              clear e2 e3;injection eA with eA
              injection eA with eA e2
              clear e2;subst eA;rw[hv'.out]at y1;by_cases hlj:j<p.1.tys.length
              ·obtain⟨gu,cu',eu,hgu,hu⟩:=hG.cell (hmk.out j hlj);injection eu with eu e2 e3
               subst eu;clear e2 e3;have p0:(0:Int)≤(j:Int):=by omega
               have p1:(j:Int)<m:=(by omega);have hjm:j<m:=by omega
               have kS:=fun W (hW:Bw wr W)=>(hW.cell (p:=⟨gu,j,none⟩) hgu).trans hu
               have hSS:=xW (kS wr.drew (bR).drew) trivial;have kmk:=mark_k i hi26 wr.drew;generalize mkS i=ms at kmk kS hSS hu;replace kS:=Hd kS;replace kmk:=Hd kmk;replace hG:=Hd hG;clear hu;go_upto_region 41 with fail
               clear y0 y1;refine G_region (p:=100) (S0:=fun W=>W.cell? ⟨gu,j,none⟩=some (.string ms)) (S1:=fun _=>True) (by kernel_rfl) ?_;refine' TkA 0 rfl hSS ?_;refine' TkA 1 rfl hSS ?_;refine' TkA 2 rfl hSS ?_;refine' TkA 3 rfl hSS ?_;refine' TkA 4 rfl hSS ?_;try simp only[Act.put,TkS]
               refine Gs 5 rfl fun K hK=>?_
               go_simp;go_at_call 29;refine kmk.out.mono ?_;rintro e W4 ⟨rfl,hBW4⟩;have hU4:=Hd ((zB wr.heap.size wr).drew.trans hBW4);refine hK.out _ _ ⟨kS.out W4 hU4.out,fun _=>trivial⟩ ?_;have hST:=xW (kS.out W4 hU4.out) trivial;clear hK K hSS hBW4;refine' TkA 6 rfl hST ?_;try simp only[Act.put,TkS]
               clear hST;refine Gd _ ?_;try simp only[Act.put,TkS]
               go_wp2;go_roundw
               case rel=>exact⟨j+1,by omega,by go_num,hG.out.stay hU4.out⟩
               case measure=>simp[intOf];omega
              ·obtain rfl:j=p.1.tys.length:=by omega
               have hK:=Hd hG.ks;clear hG;go_wp2;go_roundw
               case rel=>exact L7.mk (i+1) (N+m) (by omega) (by go_num) (by go_num) (by omega) (by omega) hK.out
               case measure=>simp[intOf];omega
          ·obtain rfl:i=l.length:=by have:=nl.out;omega
           have htr2:∀(i:Nat) p,rE[i]? =some p→p.1.length≤1048576:=fun i p hp=>by
            rw[hrE.out]at hp;obtain⟨p0,h0,rfl⟩:=mapF_full hp;have h1:=htr.out p0 (zA h0);have e1:fRe i p0.1.length p0.1=List.replicate p0.1.length (ndA (900+(i:Int))):=mk_all _ _;show(fRe i p0.1.length p0.1).length≤_
            rw[e1,List.length_replicate];exact h1
           replace htr2:=Hd htr2;have hK0:=Hd hK;clear hK;go_wp2;clear y0;go_loopw [12,17] (fun nv x wr=>L7 rE.length 100000000 nv x (KS q w wr Bg Eg (.slice A1 l.length c1) (.slice A2 q.wh.length c2) (.slice A3 rl.length c3) lE wE rE)) (fun _ x _=>rE.length- (intOf x).toNat)
           case atStart=>exact L7.mk 0 N (zE _) rfl rfl (by omega) (by omega) hK0.out
           case round=>
            clear hK0;obtain⟨i,N,hi,rfl,rfl,hN1,hN2,hK⟩:=hrel;have y6:wr.cell? ⟨w.heap.size,6,none⟩=some (.slice A3 rl.length c3):=hK.bx.cell 6;by_cases hlt:i<rE.length
            ·obtain⟨p,hp⟩:=getx hlt;have htp:=htr2.out i p hp;have g0:(0:Int)≤(i:Int):=by omega
             have g1:(i:Int)<rl.length:=(by have:=nr.out;omega);have nr1:i<rl.length:=by have:=nr.out;omega
             obtain⟨gk,capk,eA,hgk,y1⟩:=hK.oq.rec_ hp;rw[nr.out]at eA;injection eA with eA1 eA2 eA3
             subst eA1 eA3;clear eA2;obtain⟨Ap,cp,hv⟩:=(hK.oq.r.fr p (zA hp)).form;have hv':p.2=.slice Ap p.1.length cp:=hv;rw[hv']at y1;have hGT:=GT.start hK hp;rw[hv']at hGT;have hGT0:=Hd hGT;replace hv':=Hd hv';replace hp:=Hd hp;clear hK hGT hv;go_wp2;clear y6 y1;go_loopw [18,19] (fun u y wr=>L6 y fun k=>GT q w wr Bg Eg (.slice A1 l.length c1) (.slice A2 q.wh.length c2) (.slice (some ⟨gk,0,none⟩) rl.length c3) lE wE rE p k u) (fun _ y _=>70- (intOf y).toNat)
             case atStart=>exact L6.mk 0 (zE _) rfl hGT0.out
             case round=>
              clear hGT0;obtain⟨k,hk,rfl,hG⟩:=hrel;by_cases hlt2:k<70
              ·have hwb:Bg≤wr.heap.size:=(by have:=hG.ks.bx.lt;omega);have hGa:=hG.stay (bX (.cells ⟨ndV (ndA 8)⟩ 81));obtain⟨d1,gA⟩:=hGa.a;have b1:=Hd (Blk.new wr 81 (ndV (ndA 8)));replace hGa:=Hd hGa;replace gA:=Hd gA;clear hG;go_wp2_with (at_builtin;refine wpList_gr rfl (.tmp 174) (.tmp 176) _ rfl elNd gA.out rfl rfl b1.out rfl (ndA_one 8) (by omega) (by omega) (by simp;omega) ?_;intro u1 W1 hG1 hg1 ha1;have hK1:=Hd (hGa.out.app hp.out hE own2.out hG1 hg1 ha1);clear hGa gA b1 hG1 hg1 ha1);go_roundw
               case rel=>(refine L6.mk (k+1) (by omega) (by go_num) ?_;exact hK1.out)
               case measure=>simp[intOf];omega
              ·have hk70:k=70:=(by omega);have hK:=Hd hG.ks;obtain⟨d1,gA⟩:=hG.a;obtain⟨Au,cu,eu⟩:=gA.b.form;subst eu;clear gA hG;generalize hm:p.1.length+k=m;have m1:m≤1048646:=by omega
               have hw1:IntKind.i64.wrap ((N:Int)+(m:Int))=(N:Int)+(m:Int):=(by rw[xI];omega);clear hm hk70;go_wp2;go_roundw
               case rel=>exact L7.mk (i+1) (N+m) (by omega) (by go_num) (by go_num) (by omega) (by omega) hK.out
               case measure=>simp[intOf];omega
            ·obtain rfl:i=rl.length:=by have:=nr.out;omega
             have hd1:decide ((N:Int)≥210)=true:=zW (by omega);have hd2:decide (210≤(N:Int))=true:=zW (by omega);have km:=hK;rw[hlE.out,hwE.out,hrE.out]at km;have kmk:=KS.marks km hl.out hr.out hs.out hil;simp only[quV]at kmk;have y0:wr.cell? ⟨w.heap.size,0,none⟩=some (.slice A1 l.length c1):=hK.bx.cell 0;have y1:wr.cell? ⟨w.heap.size,1,none⟩=some (.int .i64 q.mode):=hK.bx.cell 1;have y2:wr.cell? ⟨w.heap.size,2,none⟩=some (.int .i64 q.after):=hK.bx.cell 2;have y3:wr.cell? ⟨w.heap.size,3,none⟩=some (.slice A2 q.wh.length c2):=hK.bx.cell 3;have y4:wr.cell? ⟨w.heap.size,4,none⟩=some (.int .i64 q.within):=hK.bx.cell 4;have y5:wr.cell? ⟨w.heap.size,5,none⟩=some (.string q.by_):=hK.bx.cell 5;replace kmk:=Hd kmk;replace hK:=Hd hK;clear km;go_wp2_with (go_at_call 30;refine kmk.out.mono ?_;rintro e W1 ⟨rfl,hB1⟩);go_ret;exact⟨rfl,hK.out.kp.below hB1⟩
end lawW
section
variable {S:List Td}{T:List Kd}{q:Qy}{M:Nat}
def SzKs (M:Nat)(T:List Kd):Prop:=∀k∈T,k.nm.size≤M∧∀f∈k.fs,f.nm.size≤M
theorem anK_sz (hT:SzKs M T){ty fr:Int}:∀{out o:ByteArray},out.size≤M→anK ty fr T out=some o→o.size≤M:=by
 induction T with
 |nil=>intro out o ho h;injection h with h;subst h;exact ho
 |cons k r ih=>
  intro out o ho h;have ih':=@ih fun k hk=>hT k (xU _ hk)
  unfold anK at h;split at h
  ·exact ih' ho h
  ·split at h
   ·cases h
   ·rename_i f hf;split at h
    ·cases h
    ·exact ih' ((hT k xS).2 f (List.mem_of_find?_eq_some hf)) h
theorem anT_sz (hT:SzKs M T){a:ByteArray}:∀{tys:List ByteArray}{out o:ByteArray},out.size≤M→anT S T a tys out=some o→o.size≤M:=by
 intro tys;induction tys with
 |nil=>intro out o ho h;injection h with h;subst h;exact ho
 |cons n r ih=>
  intro out o ho h;unfold anT at h;split at h
  ·cases h
  ·rename_i o1 h1;exact ih (anK_sz hT ho h1) h
theorem attrNm_sz (hT:SzKs M T)(hM:2≤M){tys:List ByteArray}{a o:ByteArray}(h:attrNmO S T tys a=some o):o.size≤M:=by
 unfold attrNmO at h;split at h
 ·injection h with h;subst h;exact hM
 ·split at h
  ·cases h
  ·rename_i o1 h1;split at h
   ·cases h
   ·injection h with h
    subst h;exact anT_sz hT (show emp.size≤M from zE _) h1
theorem nodeO_sz (hT:SzKs M T)(hM:2≤M){x y:Nd}(hx:x.at_.size≤M)(h:nodeO S T q x=some y):y.v=x.v∧y.at_.size≤M:=by
 unfold nodeO at h;split at h
 ·injection h with h;subst h;exact⟨rfl,hx⟩
 ·split at h
  ·cases h
  ·obtain⟨a,ha,rfl⟩:=xG.1 h;exact⟨rfl,attrNm_sz hT hM ha⟩
theorem treeO_sz (hT:SzKs 1048576 T):∀{t t':List Nd},SzN t→treeO S T q t=some t'→SzN t'∧t'.length=t.length:=by
 intro t;induction t with
 |nil=>intro t' ht h;injection h with h;subst h;exact⟨ht,rfl⟩
 |cons x r ih=>
  intro t' ht h;have hr:SzN r:=⟨by have:=ht.1;simp at this;omega,fun y hy=>ht.2 y (xU _ hy)⟩;unfold treeO at h;split at h
  ·cases h
  ·rename_i y hy;obtain⟨r',hr',rfl⟩:=xG.1 h;obtain⟨h1,h2⟩:=ih hr hr';obtain⟨e1,e2⟩:=nodeO_sz hT (by decide) (ht.2 x xS).2 hy;have h3:=ht.1;refine⟨⟨by simp at h3 ⊢;omega,fun z hz=>?_⟩,by simp;exact h2⟩;rcases List.mem_cons.1 hz with rfl |hz
   ·exact⟨by rw[e1];exact(ht.2 x xS).1,e2⟩
   ·exact h1.2 z hz
theorem retO_sz (hT:SzKs 1048576 T):∀{l l':List (List Nd)},(∀t∈l,SzN t)→retO S T q l=some l'→(∀t∈l',SzN t)∧l'.length=l.length:=by
 intro l;induction l with
 |nil=>intro l' hl h;injection h with h;subst h;exact⟨hl,rfl⟩
 |cons x r ih=>
  intro l' hl h;unfold retO at h;split at h
  ·cases h
  ·rename_i y hy;obtain⟨r',hr',rfl⟩:=xG.1 h;obtain⟨h1,h2⟩:=ih (fun t ht=>hl t (xU _ ht)) hr';refine⟨fun z hz=>?_,by simp;exact h2⟩;rcases List.mem_cons.1 hz with rfl |hz
   ·exact(treeO_sz hT (hl x xS) hy).1
   ·exact h1 z hz
theorem typeNm_sz (hT:SzKs M T)(n:ByteArray):(typeNm S T n).size≤M:=by
 unfold typeNm;split
 ·rename_i k hk;exact(hT k (List.mem_of_find?_eq_some hk)).1
 ·exact zE _
theorem itT_sz (hT:SzKs 1048576 T){x:It}(hx:SzI x):SzI (itT S T x):=by
 obtain⟨⟨h1,h2⟩,h3⟩:=hx;refine⟨⟨by show(x.tys.map _).length≤_;rw[xC];exact h1,fun a ha=>?_⟩,h3⟩;obtain⟨n,_,rfl⟩:=List.mem_map.1 (show a∈x.tys.map (typeNm S T)from ha);exact typeNm_sz hT n
theorem turnedO_sz (hT:SzKs 1048576 T)(hs:SzQ q){q':Qy}(h:turnedO S T q=some q'):SzQ q'∧q'.items.length=q.items.length∧q'.ret.length=q.ret.length:=by
 unfold turnedO at h;split at h
 ·cases h
 ·rename_i wh hwh;obtain⟨w1,w2⟩:=treeO_sz hT hs.wh hwh;split at h
  ·cases h
  ·rename_i ret hret;obtain⟨r1,r2⟩:=retO_sz hT hs.re hret;have hit:∀x∈q.items.map (itT S T),SzI x:=fun x hx=>by
    obtain⟨y,hy,rfl⟩:=List.mem_map.1 hx;exact itT_sz hT (hs.it y hy)
   split at h
   ·injection h with h
    subst h;exact⟨⟨by simp;exact hs.il,hit,w1,hs.by_,by simp only;rw[r2];exact hs.rl,r1⟩,by simp,r2⟩
   ·split at h
    ·cases h
    ·rename_i b hb;injection h with h
     subst h;exact⟨⟨by simp;exact hs.il,hit,w1,attrNm_sz hT (by decide) hb,by simp only;rw[r2];exact hs.rl,r1⟩,by simp,r2⟩
end
theorem md_szk {S:List Td}{L:List Cg}(h0:scC S=0)(hok:∀j,j<L.length→okAt S L j):SzKs 1048576 (mdTo S L L.length):=fun k hk=>by
 obtain⟨_,_,hall⟩:=scC_ok (md_sc h0 hok);obtain⟨n1,_,n2⟩:=hall (tdOf k) (xJ hk);have a1:=isNm_size n1;refine⟨zU a1 (by decide),fun f hf=>?_⟩;have a2:=isNm_size (n2 _ (xJ hf));exact zU a2 (by decide)
def zQ:Qy:=⟨[],0,0,[],0,emp,[]⟩
theorem zQ_sz:SzQ zQ:=⟨by decide,fun x hx=>(by cases hx),⟨by decide,fun x hx=>(by cases hx)⟩,by decide,by decide,fun x hx=>(by cases hx)⟩
theorem QAns.sz {S:List Td}{L:List Cg}{q:Qy}{R:Option Qy}{c a:Int}(h:QAns S L q R c a)(hs:SzQ q):SzQ (R.getD zQ)∧(R.getD zQ).items.length≤20∧(R.getD zQ).ret.length≤20:=by
 have hz:SzQ ((none:Option Qy).getD zQ)∧((none:Option Qy).getD zQ).items.length≤20∧((none:Option Qy).getD zQ).ret.length≤20:=⟨zQ_sz,by decide,by decide⟩;rcases h with⟨_,rfl⟩|⟨h1,h2⟩
 ·exact hz
 ·obtain⟨m1,_,m3,_⟩:=md_ok h1;by_cases h:checkC (scC S) S q=0
  ·obtain⟨_,_,i1,i2,_⟩:=qok_of h;cases hl:lostO S q (lsTo S L L.length)with
   |some y=>rw[ans_lostP h hl]at h2;injection h2 with h2 _;subst h2;exact hz
   |none=>
    cases ht:turnedO S (mdTo S L L.length) q with
    |none=>rw[ans_noneP h hl ht]at h2;injection h2 with h2 _;subst h2;exact hz
    |some q'=>
     rw[ans_someP h hl ht]at h2;injection h2 with h2 _
     subst h2;obtain⟨s1,s2,s3⟩:=turnedO_sz (md_szk m1 m3) hs ht;exact⟨s1,by show q'.items.length≤20;omega,by show q'.ret.length≤20;omega⟩
  ·rw[ans_check h]at h2;injection h2 with h2 _
   subst h2;exact hz
section
variable {S:List Td}{L:List Cg}{q:Qy}{w w' W W2:World}{e:Ending}
theorem OQ.none (w:World)(B:Nat):OQ w B (.slice none 0 0) (.slice none 0 0) (.slice none 0 0) [] [] []:=⟨RW.nil KI w B,OL.nil _ _ _ _ _,RW.nil KR w B,fun p hp=>by cases hp⟩
theorem QPost.own (h:QPost S L q w e w'):∃code at_ R v1 v2 v3 l rl,e=.returned (.tuple #[.agg ⟨quV (Option.getD R zQ) v1 v2 v3 (Option.getD R zQ).by_⟩,.int .i64 code,.int .i64 at_])∧QAns S L q R code at_∧
  OQ w' w.heap.size v1 v2 v3 l (Option.getD R zQ).wh rl∧l.map (·.1)=(Option.getD R zQ).items∧rl.map (·.1)=(Option.getD R zQ).ret∧Bw w w':=by
 obtain⟨vs,code,at_,R,rfl,h1,h2,h3,h4⟩:=h;cases R with
 |none=>
  rw[h2 rfl];exact⟨code,at_,none,_,_,_,[],[],rfl,h1,OQ.none _ _,rfl,rfl,h4⟩
 |some q'=>
  obtain⟨v1,v2,v3,l,rl,rfl,g1,g2,g3⟩:=h3 q' rfl;exact⟨code,at_,some q',v1,v2,v3,l,rl,rfl,h1,g1,g2,g3,h4⟩
def OutB (W:World)(Bg Eg:Nat):Nat→Prop:=fun b=>b<W.heap.size∧(b<Bg∨Eg≤b)
variable {Bg Eg g t:Nat}{cs:List Value}{s:Sl3}
theorem Kp.blk (h:Kp W W2 Bg Eg)(hb:Blk W g t cs)(ho:g<Bg∨Eg≤g):Blk W2 g t cs:=(h.ag g hb.lt ho).trans hb
theorem Kp.rd {u:Value}{d:D}(h:Kp W W2 Bg Eg)(hr:Rd W (OutB W Bg Eg) u d):Rd W2 (OutB W2 Bg Eg) u d:=
 (hr.keep fun b hb=>h.ag b hb.1 hb.2).mono fun b hb _=>⟨zF hb.1 h.sz,hb.2⟩
theorem Kp.qr (h:Kp W W2 Bg Eg)(hr:QR W (OutB W Bg Eg) q s):QR W2 (OutB W2 Bg Eg) q s:=⟨h.rd hr.r1,h.rd hr.r2,h.rd hr.r3,fun b hb=>hb.1⟩
theorem Kp.of_below (hb:Bw W W2):Kp W W2 Bg Eg:=(Kp.refl W Bg Eg).below hb
theorem Kp.under (h:Kp W W2 Bg Eg)(hb:Bw w W)(hB:w.heap.size≤Bg):Bw w W2:=
 ⟨h.os.trans hb.os,h.tape.trans hb.tape,h.output.trans hb.output,zU hb.size h.sz,fun k hk=>(h.ag k (zF hk hb.size) (.inl (by omega))).trans (hb.block k hk)⟩
theorem QR.mono {F G:Nat→Prop}(h:QR W F q s)(hk:∀b,F b→b<W.heap.size→G b)(hG:∀b,G b→b<W.heap.size):QR W G q s:=⟨h.r1.mono hk,h.r2.mono hk,h.r3.mono hk,hG⟩
structure LW (S:List Td)(L:List Cg)(q Q:Qy)(w:World)(b7 b9 b13 b16 Bg Eg:Nat)(A:Option Addr)(ca:Nat)(B:Option Addr)(cb:Nat)(s:Sl3)(A1:Option Addr)(c1:Nat)(A2:Option Addr)(c2:Nat)(s2 so sw:Sl3)(W:World):Prop where
 hb:Bw w W
 sb:w.heap.size+1<Bg
 x3:Blk W w.heap.size 24 [.slice A S.length ca]
 x5:Blk W (w.heap.size+1) 32 (qV q s)
 x7:Blk W b7 24 [.slice A1 S.length c1]
 x9:Blk W b9 32 (qV q s2)
 x13:Blk W b13 32 (qV Q so)
 x16:Blk W b16 32 (qV Q sw)
 o7:b7<Bg
 o9:b9<Bg
 o13:Eg≤b13
 o16:Eg≤b16
 rs:Rd W (OutB W Bg Eg) (.slice A S.length ca) (.sl S.length (S.flatMap tdD))
 rs2:Rd W (OutB W Bg Eg) (.slice A1 S.length c1) (.sl S.length (S.flatMap tdD))
 rl:Rd W (OutB W Bg Eg) (.slice B L.length cb) (.sl L.length (L.flatMap cgD))
 rl2:Rd W (OutB W Bg Eg) (.slice A2 L.length c2) (.sl L.length (L.flatMap cgD))
 rq:QR W (OutB W Bg Eg) q s
 rq2:QR W (OutB W Bg Eg) q s2
 ro:QR W (OutB W Bg Eg) Q so
 rw_:QR W (OutB W Bg Eg) Q sw
variable {Q:Qy}{b7 b9 b13 b16:Nat}{A:Option Addr}{ca:Nat}{B:Option Addr}{cb:Nat}{A1:Option Addr}{c1:Nat}{A2:Option Addr}{c2:Nat}{s2 so sw:Sl3}
theorem LW.kp (h:LW S L q Q w b7 b9 b13 b16 Bg Eg A ca B cb s A1 c1 A2 c2 s2 so sw W)(k:Kp W W2 Bg Eg):LW S L q Q w b7 b9 b13 b16 Bg Eg A ca B cb s A1 c1 A2 c2 s2 so sw W2:=
 ⟨k.under h.hb (by have:=h.sb;omega),h.sb,k.blk h.x3 (.inl (by have:=h.sb;omega)),k.blk h.x5 (.inl h.sb),k.blk h.x7 (.inl h.o7),k.blk h.x9 (.inl h.o9),k.blk h.x13 (.inr h.o13),k.blk h.x16 (.inr h.o16),h.o7,h.o9,h.o13,h.o16,
  k.rd h.rs,k.rd h.rs2,k.rd h.rl,k.rd h.rl2,k.qr h.rq,k.qr h.rq2,k.qr h.ro,k.qr h.rw_⟩
theorem LW.stay (h:LW S L q Q w b7 b9 b13 b16 Bg Eg A ca B cb s A1 c1 A2 c2 s2 so sw W)(hb:Bw W W2):LW S L q Q w b7 b9 b13 b16 Bg Eg A ca B cb s A1 c1 A2 c2 s2 so sw W2:=h.kp (Kp.of_below hb)
theorem LW.kso (h:LW S L q Q w b7 b9 b13 b16 Bg Eg A ca B cb s A1 c1 A2 c2 s2 so sw W)(hQ:SzQ Q):Calls Tryz.prog 10 #[.agg ⟨qV Q so⟩,.agg ⟨qV Q sw⟩] W fun e w'=>e=.returned (.bool true)∧Bw W w':=lawW.sameQuery_k _ _ Q so sw hQ W h.ro h.rw_
theorem LW.ksq (h:LW S L q Q w b7 b9 b13 b16 Bg Eg A ca B cb s A1 c1 A2 c2 s2 so sw W)(hQ:SzQ q):Calls Tryz.prog 10 #[.agg ⟨qV q s⟩,.agg ⟨qV q s2⟩] W fun e w'=>e=.returned (.bool true)∧Bw W w':=lawW.sameQuery_k _ _ q s s2 hQ W h.rq h.rq2
theorem LW.kss (h:LW S L q Q w b7 b9 b13 b16 Bg Eg A ca B cb s A1 c1 A2 c2 s2 so sw W)(hS:SzT S):Calls Tryz.prog 11 #[.agg #[.slice A S.length ca],.agg #[.slice A1 S.length c1]] W fun e w'=>e=.returned (.bool true)∧Bw W w':=
 evW.sameSchema_k A A1 ca c1 _ _ S hS.1 (fun t ht=>(hS.2 t ht).2.1) W (fun _ h=>h.1) (fun _ h=>h.1) h.rs h.rs2
theorem LW.ksl (h:LW S L q Q w b7 b9 b13 b16 Bg Eg A ca B cb s A1 c1 A2 c2 s2 so sw W)(hL:L.length≤1048576)(hC:∀c∈L,SzC c):Calls Tryz.prog 12 #[.slice B L.length cb,.slice A2 L.length c2] W fun e w'=>e=.returned (.bool true)∧Bw W w':=
 evW.sameChanges_k B A2 cb c2 _ _ L hL hC W (fun _ h=>h.1) (fun _ h=>h.1) h.rl h.rl2
theorem qu_cells {v1 v2 v3:Value}(h:Blk W g 32 (quV q v1 v2 v3 q.by_)):W.cell? ⟨g,0,none⟩=some v1∧W.cell? ⟨g,1,none⟩=some (.int .i64 q.mode)∧W.cell? ⟨g,2,none⟩=some (.int .i64 q.after)∧
  W.cell? ⟨g,3,none⟩=some v2∧W.cell? ⟨g,4,none⟩=some (.int .i64 q.within)∧W.cell? ⟨g,5,none⟩=some (.string q.by_)∧W.cell? ⟨g,6,none⟩=some v3:=
 ⟨h.cell 0,h.cell 1,h.cell 2,h.cell 3,h.cell 4,h.cell 5,h.cell 6⟩
theorem OQ.part {v1 v2 v3:Value}{l:List (It×Value)}{rl:List (List Nd×Value)}{lo:Nat}{P:Nat→Prop}(h:OQ W lo v1 v2 v3 l q.wh rl)(hl:l.map (·.1)=q.items)(hr:rl.map (·.1)=q.ret)(hW:Bw W W2)(hP:∀b,lo≤b→b<W.heap.size→P b)(hP2:∀b,P b→b<W2.heap.size):
  ∃s,quV q v1 v2 v3 q.by_=qV q s∧QR W2 P q s:=by
 obtain⟨s,e,R⟩:=h.qr (G:=fun b=>lo≤b∧b<W.heap.size) hl hr (fun b h1 h2=>⟨h1,h2⟩) (fun b h=>h.2);exact⟨s,e,(R.under hW).mono (fun b hb _=>hP b hb.1 hb.2) hP2⟩
end
end Go.Proofs.YtfiodnlgiglhfaaGreatDoor
