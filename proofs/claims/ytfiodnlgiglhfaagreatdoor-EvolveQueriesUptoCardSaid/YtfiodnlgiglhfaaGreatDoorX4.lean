/- The design behind a row of changes. -/
import Derived.Test.YtfiodnlgiglhfaaGreatDoorWd
namespace Go.Proofs.YtfiodnlgiglhfaaGreatDoor
set_option maxRecDepth 100000
set_option maxHeartbeats 16000000
open Go.RowKit Go.Deep
set_option linter.unusedVariables false
def MdPost (S:List Td)(L:List Cg)(w:World)(e:Ending)(w':World):Prop:=∃v code at_ T,e=.returned (.tuple #[v,.int .i64 code,.int .i64 at_])∧MdIs S L T code at_∧
 (∀t,T=some t→SmK t∧∃g,v=.pointer (some ⟨g,0,none⟩)∧DS w' w.heap.size g t (lsTo S L L.length))∧Bw w w'
theorem MdPost.bad {S:List Td}{L:List Cg}{w w':World}{v:Value}{code at_:Int}(h:MdIs S L none code at_)(hb:Bw w w'):MdPost S L w (.returned (.tuple #[v,.int .i64 code,.int .i64 at_])) w':=
 ⟨v,code,at_,none,rfl,h,(fun t h=>by cases h),hb⟩
def FRel (w:World)(B g:Nat)(S:List Td)(x:Value)(wr:World):Prop:=∃(j:Nat)(vk:Value)(lj:List (Kd×Value)),j≤S.length∧x=.int .i64 j∧DX wr B g vk (.slice none 0 0) 0 [] lj∧lj.map (·.1)=(fstK S).take j∧Below B w wr
theorem FRel.mk {w:World}{B g:Nat}{S:List Td}{x:Value}{wr:World}(j:Nat)(vk:Value)(lj:List (Kd×Value))(h1:j≤S.length)(h2:x=.int .i64 j)(h3:DX wr B g vk (.slice none 0 0) 0 [] lj)(h4:lj.map (·.1)=(fstK S).take j)(h5:Below B w wr):FRel w B g S x wr:=⟨j,vk,lj,h1,h2,h3,h4,h5⟩
def MRel (w:World)(B g:Nat)(S:List Td)(L:List Cg)(x:Value)(wr:World):Prop:=∃j:Nat,j≤L.length∧x=.int .i64 j∧DS wr B g (mdTo S L j) (lsTo S L j)∧(∀i,i<j→okAt S L i)∧Below B w wr
theorem MRel.mk {w:World}{B g:Nat}{S:List Td}{L:List Cg}{x:Value}{wr:World}(j:Nat)(h1:j≤L.length)(h2:x=.int .i64 j)(h3:DS wr B g (mdTo S L j) (lsTo S L j))(h4:∀i,i<j→okAt S L i)(h5:Below B w wr):MRel w B g S L x wr:=⟨j,h1,h2,h3,h4,h5⟩
theorem fs_take {S:List Td}{j:Nat}{t:Td}(h:S[j]? =some t):(fstK S).take (j+1)=(fstK S).take j++[⟨t.name,j,fstF t.attrs⟩]:=by
 rw[zJ,fstK,xQ,h];rfl
namespace evW
open nmW
theorem made_k (A B:Option Addr)(ca cb:Nat)(F G:Nat→Prop)(S:List Td)(L:List Cg)(hS:SzT S)(hL:L.length≤1048576)(hC:∀c∈L,SzC c)(w:World)(hK:KwIs w)(hF:∀b,F b→b<w.heap.size)(hG:∀b,G b→b<w.heap.size)
  (r:Rd w F (.slice A S.length ca) (.sl S.length (S.flatMap tdD)))(rc:Rd w G (.slice B L.length cb) (.sl L.length (L.flatMap cgD))):
  Calls Tryz.prog 17 #[.agg #[.slice A S.length ca],.slice B L.length cb] w (MdPost S L w):=by
 have h0:Bw w (w.alloc (.cells ⟨[.slice A S.length ca]⟩ 24)):=bA;have k1:Calls Tryz.prog 31 #[.agg #[.slice A S.length ca]] (w.alloc (.cells ⟨[.slice A S.length ca]⟩ 24)) fun e w'=>e=.returned (.int .i64 (scC S))∧Below (w.alloc (.cells ⟨[.slice A S.length ca]⟩ 24)).heap.size (w.alloc (.cells ⟨[.slice A S.length ca]⟩ 24)) w':=
  checkSchema_k A ca F S hS _ (hK.stay h0) (fun b h=>zF (hF b h) h0.size) (r.under h0 hF)
 replace k1:=Hd k1;replace h0:=Hd h0;by_cases hs:scC S=0
 ·by_cases hlen:32<L.length
  ·have hmd:MdIs S L none 290 32:=.inr (.inl ⟨hs,hlen,rfl,rfl,rfl⟩);rw[hs]at k1;have g0:(L.length:Int)>32:=by omega
   replace hmd:=Hd hmd;clear r rc hC hS hK hF hG;go_enter Tryz.func17,Tryz.ntmps17;go_wp2_with (go_at_call 31;refine k1.out.mono ?_;rintro e w' ⟨rfl,hB1⟩);go_ret3;exact MdPost.bad hmd.out (h0.out.trans (hB1.mono h0.out.size))
  ·have g0:¬(L.length:Int)>32:=by omega
   rw[hs]at k1;obtain⟨hS1,hS16,hSn⟩:=scC_ok hs;have hok0:∀i,i<0→okAt S L i:=fun i hi=>by omega
   have hgood:∀j,j<L.length→(∀i,i<j→okAt S L i)→¬okAt S L j→MdIs S L none 290 j:=fun j hj h1 h2=>.inr (.inr (.inl ⟨hs,by omega,j,hj,h1,h2,rfl,rfl,rfl⟩))
   have hfin:(∀i,i<L.length→okAt S L i)→MdIs S L (some (mdTo S L L.length)) 0 0:=fun h1=>.inr (.inr (.inr ⟨hs,by omega,h1,rfl,rfl,rfl⟩))
   have hsm:∀j,(∀i,i<j→okAt S L i)→SmK (mdTo S L j):=fun j h=>SmK.of (md_sc hs h)
   have hL32:L.length≤32:=by omega
   replace hgood:=Hd hgood;replace hfin:=Hd hfin;replace hsm:=Hd hsm;replace hok0:=Hd hok0;replace hSn:=Hd hSn;replace hC:=Hd hC;replace hK:=Hd hK;replace hF:=Hd hF;replace hG:=Hd hG;replace r:=Hd r;replace rc:=Hd rc;have hx0:=Hd (Blk.new w 24 [.slice A S.length ca]);clear hlen hs hS;go_enter Tryz.func17,Tryz.ntmps17;go_wp2_with (go_at_call 31;refine k1.out.mono ?_;rintro e w' ⟨rfl,hB1⟩;have hBw:=Hd (h0.out.trans (hB1.mono h0.out.size));have y0:w'.cell? ⟨w.heap.size,0,none⟩=some (.slice A S.length ca):=(hx0.out.stay hB1).cell 0;have y1:w.heap.size<w'.heap.size:=(hx0.out.stay hB1).lt;clear hB1);have hgB:w.heap.size≤w'.heap.size:=by omega
   obtain⟨g,hg⟩:∃g,g=w'.heap.size:=⟨_,rfl⟩
   rw[←hg];have hgl:w.heap.size≤g:=by omega
   replace hg:=Hd hg;go_loopw [9,30] (fun _ x wr=>FRel w w.heap.size g S x wr) (fun _ x _=>S.length- (intOf x).toNat)
   case atStart=>
    refine FRel.mk 0 (.slice none 0 0) [] (zE _) rfl ?_ rfl (hBw.out.alloc hBw.out.size _);exact⟨hgl,by rw[hg.out];exact Blk.new _ _ _,.nil _ _ _ _ _,fun p hp=>by simp at hp,fun i j p q hp=>by simp at hp,.nil _ _ _ _ _⟩
   case round=>
    obtain⟨j,vk,lj,hj,rfl,hD,hlj,hB⟩:=hrel;have hljl:lj.length=j:=by
     have:=congrArg List.length hlj;rw[xC,zO,fstK_len]at this;omega
    have hlj5:lj.length≤1048576:=(by omega);replace hljl:=Hd hljl;by_cases hlt:j<S.length
    ·obtain⟨t,ht⟩:=getx hlt;have hta:t.attrs.length≤8:=(hSn.out t (zA ht)).2.1;obtain⟨b,off,rfl,hFb,hv,hsl⟩:=r.out.rowv (m:=2) (fun _=>rfl) ht (by omega);have hfB:=hF.out b hFb;obtain⟨A2,c2,a1,r2⟩:=hsl 1 _ _ rfl;have v0:wr.cell? ⟨b,off+j*2,none⟩=some (.string t.name):=(hB.cell (p:=⟨b,off+j*2,none⟩) hfB).trans (hv 0 _ rfl);have v1:wr.cell? ⟨b,off+j*2+1,none⟩=some (.slice A2 t.attrs.length c2):=(hB.cell (p:=⟨b,off+j*2+1,none⟩) hfB).trans a1;have g1:(0:Int)≤(j:Int):=by omega
     have g2:(j:Int)<S.length:=(by omega);have hft:=fs_take ht;obtain⟨wo,hwo⟩:∃wo:World,wo=wr:=⟨_,rfl⟩
     subst hwo;obtain⟨W1,hW1⟩:∃W1,W1=wo.alloc (.cells ⟨[.string t.name,.slice A2 t.attrs.length c2]⟩ 47):=⟨_,rfl⟩
     have hs1:W1.heap.size=wo.heap.size+1:=(by rw[hW1];simp);have hB1:Bw wo W1:=by rw[hW1];exact bA
     have hsi:IB W1 ((wo.alloc (.cells ⟨[.string t.name,.slice A2 t.attrs.length c2]⟩ 47)).alloc (.cells ⟨[.string t.name,.int .i64 j,.slice none 0 0]⟩ 90)) 90 t.name j (.slice none 0 0) 92 0 []:=by
      rw[←hW1];exact⟨bA,Blk.new _ _ _,.nil _ _ _ _ _⟩
     have hw0:=hD.bx.lt;have hws:=hB.size;have hD':=Hd hD;replace hB:=Hd hB;replace hsi:=Hd hsi;replace hs1:=Hd hs1;replace hB1:=Hd hB1;replace hft:=Hd hft;replace hlj:=Hd hlj;clear hv hsl ht a1 hW1 hD;go_wp2;go_loopw [12,13,42] (fun _ _ y wr=>∃(k:Nat)(u:Value),k≤t.attrs.length∧y=.int .i64 k∧IB W1 wr 90 t.name j u 92 k (((fstF t.attrs).take k).flatMap fdD)) (fun _ _ y _=>t.attrs.length- (intOf y).toNat)
     case atStart=>exact⟨0,.slice none 0 0,zE _,rfl,hsi.out⟩
     case round=>
      obtain⟨k,u,hk,rfl,hI⟩:=hrel;have hBo:Bw wo wr:=hB1.out.trans (hI.hb.mono hB1.out.size);have hBw2:Bw w wr:=hB.out.trans (hBo.mono hB.out.size);have i2:wr.cell? ⟨wo.heap.size+1,2,none⟩=some u:=by rw[←hs1.out];exact hI.bx.cell 2
      have hz:wo.heap.size+1<wr.heap.size:=(by rw[←hs1.out];exact hI.bx.lt);clear v0 v1;by_cases hlk:k<t.attrs.length
      ·obtain⟨a,ha⟩:=getx hlk;obtain⟨b2,off2,rfl,hFb2,ha2⟩:=(r2.under hBw2 hF.out).at_ ha;have q0:wr.cell? ⟨b2,off2+k,none⟩=some (.string a):=ha2;have g3:(0:Int)≤(k:Int):=by omega
       have g4:(k:Int)<t.attrs.length:=(by omega);have hfk:=fstF_next ha;have hup:∀(w1:World)(v':Value),(wr.alloc (.cells ⟨fdV ⟨a,k,0⟩⟩ 92)).grownBy w1 u.ownBlock→OL w1 (W1.heap.size+1) NoB 92 3 v' (k+1) (((fstF t.attrs).take k).flatMap fdD++fdD ⟨a,k,0⟩)→w1.cell? ⟨wo.heap.size+1,2,none⟩=some u∧w1.frozen? ⟨wo.heap.size+1,2,none⟩=false∧
         IB W1 (w1.setCell ⟨wo.heap.size+1,2,none⟩ v') 90 t.name j v' 92 (k+1) (((fstF t.attrs).take (k+1)).flatMap fdD):=fun w1 v' hg hO=>by
        have hB:=hI.stay (bX (.cells ⟨fdV ⟨a,k,0⟩⟩ 92));have t0:=hB.bx.grown hg (fun e=>by have:=(hI.ol.lt _ e.symm).1;omega);have:=hB.put hg (fun q hq=>(hI.ol.lt q hq).1) hO;rw[←hs1.out,hfk];exact⟨t0.cell 2,t0.frozen 2,this⟩
       have hol:=Hd hI.ol;replace hup:=Hd hup;have hs9:W1.heap.size+1≤wr.heap.size:=hI.bx.lt;clear ha2 ha hI hfk hBo hBw2;go_wp2_with (at_builtin;refine wpa rfl (.tmp 48) (.tmp 52) _ rfl (m:=1) (news:=fdD ⟨a,k,0⟩) elField (hol.out.alloc (.cells ⟨fdV ⟨a,k,0⟩⟩ 92)) rfl rfl (Src.lit (fdD_rd wr _ ⟨a,k,0⟩)) rfl (by omega) (by omega) (by simp;omega) ?_;intro v' w1 hO1 hg1 ha1;obtain⟨B3,d3,rfl⟩:=hO1.form;obtain⟨t1,t2,t3⟩:=hup.out _ _ hg1 hO1;replace t3:=Hd t3);go_roundw
       case rel=>exact⟨k+1,_,by omega,by go_num,t3.out⟩
       case measure=>simp[intOf];omega
      ·have hkn:k=t.attrs.length:=(by omega);subst hkn;have htk:(fstF t.attrs).take t.attrs.length=fstF t.attrs:=xH (by rw[fstF_len];omega);rw[htk]at hI;obtain⟨U,cu,rfl⟩:=hI.ol.form;have i0:wr.cell? ⟨wo.heap.size+1,0,none⟩=some (.string t.name):=by rw[←hs1.out];exact hI.bx.cell 0
       have i1:wr.cell? ⟨wo.heap.size+1,1,none⟩=some (.int .i64 j):=(by rw[←hs1.out];exact hI.bx.cell 1);have hDr:=hD'.out.stay hBo;have q0:=hDr.c0;have hsz2:g<wr.heap.size:=hDr.bx.lt;obtain⟨A4,c4,rfl⟩:=hDr.kr.form;have hWo2:Bw wo (wr.alloc (.cells ⟨[.string t.name,.int .i64 j,.slice U t.attrs.length cu]⟩ 90)):=hBo.alloc hBo.size _;have hD2:=hD'.out.stay hWo2;have hW2:Bw w (wr.alloc (.cells ⟨[.string t.name,.int .i64 j,.slice U t.attrs.length cu]⟩ 90)):=hBw2.alloc hBw2.size _;have hfu:OL (wr.alloc (.cells ⟨[.string t.name,.int .i64 j,.slice U t.attrs.length cu]⟩ 90)) w.heap.size NoB 92 3 (.slice U t.attrs.length cu) (fstF t.attrs).length ((fstF t.attrs).flatMap fdD):=by
        have:=(hI.ol.base (B':=w.heap.size) (by have:=hs1.out;omega)).alloc (.cells ⟨[.string t.name,.int .i64 j,.slice U t.attrs.length cu]⟩ 90);rw[fstF_len];exact this
       have hap:∀p∈lj,(Value.slice U t.attrs.length cu).ownBlock=none∨(Value.slice U t.attrs.length cu).ownBlock≠p.2.ownBlock:=fun p hp=>by
        cases hq:(Value.slice U t.attrs.length cu).ownBlock with
        |none=>exact .inl rfl
        |some q=>
         refine .inr fun he=>?_
         have h1:=(hI.ol.lt q hq).1;have h2:=((hD'.out.fr p hp).lt q he.symm).2;have:=hs1.out;omega
       have hkr:=Hd hD2.kr;have hov:=fun(w1:World)(hg:(wr.alloc (.cells ⟨[.string t.name,.int .i64 j,.slice U t.attrs.length cu]⟩ 90)).grownBy w1 (Value.slice A4 lj.length c4).ownBlock)=>hD2.overK hg
       have hfi:=fun(w1:World)(v':Value)(hg:(wr.alloc (.cells ⟨[.string t.name,.int .i64 j,.slice U t.attrs.length cu]⟩ 90)).grownBy w1 (Value.slice A4 lj.length c4).ownBlock) hv=>xW (hD2.addK_ (vk':=v') (k:=⟨t.name,j,fstF t.attrs⟩) hg hv hfu hap) (hD2.belowK (x:=v') hW2 hg)
       replace hov:=Hd hov;replace hfi:=Hd hfi;clear hI htk hDr hD2 hfu hap hW2 hWo2 hBo hBw2;go_upto_region 16 with fail
       go_region_law ((refine step_app (by rfl) (.tmp 60) (.tmp 62) _ (by rfl) (m:=1) (news:=kcD (⟨t.name,j,fstF t.attrs⟩,.slice U t.attrs.length cu)) elKind (by exact hkr.out.drew) (by rfl) (by rfl) (by exact(Src.lit (kc_rd wr _ t.name j _ U t.attrs.length cu)).drew) rfl (by omega) (by omega) (by simp;omega) ?_;intro v' w1 hO1 hg1 ha1;obtain⟨B3,d3,rfl⟩:=hO1.form;have hg2:=undrew hg1;obtain⟨t0,t1⟩:=hov.out _ hg2))
       all_goals
        obtain⟨f1,f2⟩:=hfi.out _ _ hg2 hO1;replace f1:=Hd f1;replace f2:=Hd f2;clear hg1 hg2 hO1 ha1;go_wp2;go_roundw
        case rel=>exact FRel.mk (j+1) _ _ (by omega) (by go_num) f1.out (by rw[hft.out,xR,hlj.out];rfl) f2.out
        case measure=>simp[intOf];omega
    ·have hjn:j=S.length:=(by omega);have hD0:=Hd (show DS wr w.heap.size g (mdTo S L 0) (lsTo S L 0) from ⟨_,_,_,_,hD,by rw[hlj,xH (by rw[fstK_len];omega)];rfl⟩);replace hB:=Hd hB;clear hD hlj hjn;go_wp2;go_loopw [14,69] (fun _ x wr=>MRel w w.heap.size g S L x wr) (fun _ x _=>L.length- (intOf x).toNat)
     case atStart=>exact MRel.mk 0 (zE _) rfl hD0.out hok0.out hB.out
     case round=>
      obtain⟨j,hj,rfl,hDS,hok,hB⟩:=hrel;obtain⟨vk,vl,by_,lj,hD,hlj⟩:=hDS;obtain⟨nl,hnl⟩:∃nl,nl=lsTo S L j:=⟨_,rfl⟩
      rw[←hnl]at hD;have hnl2:nl.length≤1048576:=by rw[hnl];have:=lsTo_len S L j;omega
      replace hnl:=Hd hnl;have hm:SmK (lj.map (·.1)):=by rw[hlj];exact hsm.out j hok
      by_cases hlt:j<L.length
      ·obtain⟨c,hc⟩:=getx hlt;have hcs:=hC.out c (zA hc);obtain⟨b,off,rfl,hGb,hv,hsl⟩:=rc.out.rowv (m:=6) (fun _=>rfl) hc (by omega);have hgB:=hG.out b hGb;obtain⟨B2,d2,a4,r4⟩:=hsl 4 _ _ rfl;have v0:wr.cell? ⟨b,off+j*6,none⟩=some (.int .i64 c.kd):=(hB.cell (p:=⟨b,off+j*6,none⟩) hgB).trans (hv 0 _ rfl);have v1:wr.cell? ⟨b,off+j*6+1,none⟩=some (.string c.ty):=(hB.cell (p:=⟨b,off+j*6+1,none⟩) hgB).trans (hv 1 _ rfl);have v2:wr.cell? ⟨b,off+j*6+2,none⟩=some (.string c.at_):=(hB.cell (p:=⟨b,off+j*6+2,none⟩) hgB).trans (hv 2 _ rfl);have v3:wr.cell? ⟨b,off+j*6+3,none⟩=some (.string c.nm):=(hB.cell (p:=⟨b,off+j*6+3,none⟩) hgB).trans (hv 3 _ rfl);have v4:wr.cell? ⟨b,off+j*6+4,none⟩=some (.slice B2 c.ats.length d2):=(hB.cell (p:=⟨b,off+j*6+4,none⟩) hgB).trans a4;have v5:wr.cell? ⟨b,off+j*6+5,none⟩=some (.int .i64 c.n):=(hB.cell (p:=⟨b,off+j*6+5,none⟩) hgB).trans (hv 5 _ rfl);have g1:(0:Int)≤(j:Int):=by omega
       have g2:(j:Int)<L.length:=(by omega);have hbad:=fun h=>hgood.out j hlt hok h
       have d2c:=hD.c2;have d2f:wr.frozen? ⟨g,2,none⟩=false:=hD.bx.frozen 2;have hgw:=hD.bx.lt;have hgwB:w.heap.size≤g:=hD.gB;have hls:=Hd (show nl++lsOf (mdTo S L j) c j=lsTo S L (j+1) by rw[hnl.out];exact lsTo_next hc);have hm2:=Hd (hsm.out j hok);have hpre:∀w1,Below ((wr.setCell ⟨g,2,none⟩ (.int .i64 (j:Int))).alloc (.cells ⟨cgC c B2 d2⟩ 51)).heap.size ((wr.setCell ⟨g,2,none⟩ (.int .i64 (j:Int))).alloc (.cells ⟨cgC c B2 d2⟩ 51)) w1→
         DX (w1.alloc (.cells ⟨doesV⟩ 94)) w.heap.size g vk vl j nl lj∧Blk (w1.alloc (.cells ⟨doesV⟩ 94)) wr.heap.size 51 (cgC c B2 d2)∧
         Blk (w1.alloc (.cells ⟨doesV⟩ 94)) w1.heap.size 94 doesV∧Bw w (w1.alloc (.cells ⟨doesV⟩ 94))∧Blk w1 wr.heap.size 51 (cgC c B2 d2):=fun w1 hB1=>by
        have hb2:Bw w1 (w1.alloc (.cells ⟨doesV⟩ 94)):=bA;have hDa:=(((hD.setB j).stay (bX (.cells ⟨cgC c B2 d2⟩ 51))).stay hB1).stay hb2;have hBa:Bw w ((wr.setCell ⟨g,2,none⟩ (.int .i64 (j:Int))).alloc (.cells ⟨cgC c B2 d2⟩ 51)):=(hB.setCell hgwB _).alloc (by simpa using hB.size) _;exact⟨hDa,(((Blk.new' (w:=wr.setCell ⟨g,2,none⟩ (.int .i64 (j:Int))) (by simp)).stay hB1).stay hb2),Blk.new _ _ _,(hBa.trans (hB1.mono hBa.size)).trans (hb2.mono (hBa.trans (hB1.mono hBa.size)).size),(Blk.new' (w:=wr.setCell ⟨g,2,none⟩ (.int .i64 (j:Int))) (by simp)).stay hB1⟩
       obtain⟨wo,hwo⟩:∃wo:World,wo=wr:=⟨_,rfl⟩
       subst hwo;have hws:=hB.size;replace hpre:=Hd hpre;replace hbad:=Hd hbad;replace hok:=Hd hok;replace hcs:=Hd hcs;replace hlj:=Hd hlj;replace hm:=Hd hm;replace r4:=Hd r4;replace hB:=Hd hB;clear hv hsl a4 hD;by_cases hkq:1≤c.kd∧c.kd≤7
       ·obtain⟨q,hq⟩:∃q:Nat,c.kd=q:=⟨c.kd.toNat,by omega⟩
        rw[hq]at v0;have hq1:1≤q:=by omega
        have hq7:q≤7:=(by omega);have m0:(0:Int)≤(q:Int):=by omega
        have m1:(q:Int)<8:=(by omega);have n0:decide ((q:Int)<0)=false:=zV (by omega);have n1:decide ((q:Int)≥8)=false:=zV (by omega);have n1':decide (8≤(q:Int))=false:=zV (by omega);have hcg:cgC c B2 d2=[.int .i64 (q:Int),.string c.ty,.string c.at_,.string c.nm,.slice B2 c.ats.length d2,.int .i64 c.n]:=by unfold cgC;rw[hq]
        rw[hcg]at hpre;have hdo:∀W,DX W w.heap.size g vk vl j nl lj→Bw w W→DoesPost q c B2 d2 g W.drew (DPost (mdTo S L j) c w.heap.size g (nl++lsOf (mdTo S L j) c j) W.drew):=fun W hDW hBW=>by
         have hm':SmK (lj.map (·.1)):=hm.out;have:=does_k (hDW.stay (bR).drew) hm' hnl2 c q hq hq1 hq7 hcs.out.ats.1 B2 d2 G (fun b hb=>zF (hG.out b hb) hBW.size) ((r4.out.under hBW hG.out).drew);rw[hlj.out]at this;exact this
        have hsch:∀W t N,t.length≤17→(∀k∈t,SzKd k)→DS W w.heap.size g t N→Calls Tryz.prog 33 #[.pointer (some ⟨g,0,none⟩)] W (OSPost (t.map tdOf) W):=fun W t N h1 h2 hDt=>by
         obtain⟨_,_,_,l',hD',rfl⟩:=hDt;refine schema_k hD' (by simp at h1;omega) (fun p hp=>(h2 p.1 (xJ hp)).fs.1)
        have hchk:∀(W:World)(T:List Td)(v:Value)(ls:List (Td×Value))(B':Nat),SzT T→OSc W B' v ls→ls.map (·.1)=T→Bw w W→Calls Tryz.prog 31 #[.agg #[v]] W fun e w'=>e=.returned (.int .i64 (scC T))∧Bw W w':=fun W T v ls B' hT hO hl hBW=>by
         subst hl;obtain⟨A',c',rfl⟩:=hO.kr.form;have hr:=hO.rd (G:=fun b=>b<W.heap.size) (fun b _ h=>h);have hll:ls.length=(ls.map (·.1)).length:=by simp
         rw[hll]at hr ⊢;exact checkSchema_k A' c' _ (ls.map (·.1)) hT W (hK.out.stay hBW) (fun _ h=>h) hr
        replace hdo:=Hd hdo;replace hsch:=Hd hsch;replace hchk:=Hd hchk;have hst':∀W W2 t N,DS W w.heap.size g t N→Bw W W2→DS W2 w.heap.size g t N:=fun W W2 t N h hb=>by
         obtain⟨vk,vl,by_,l,hD,h1⟩:=h;exact⟨vk,vl,by_,l,hD.stay hb,h1⟩
        replace hst':=Hd hst';replace hq:=Hd hq;go_upto_region 23 with(go_at_call 32;refine(tableP_k _).mono ?_;rintro e w1 ⟨rfl,hB1⟩;have hQ:=hpre.out w1 hB1;replace hQ:=Hd hQ;clear hB1;simp only[doesV])
        have x0:w1.cell? ⟨wo.heap.size,0,none⟩=some (.int .i64 (q:Int)):=hQ.out.2.2.2.2.cell 0;have x1:w1.cell? ⟨wo.heap.size,1,none⟩=some (.string c.ty):=hQ.out.2.2.2.2.cell 1;have x2:w1.cell? ⟨wo.heap.size,2,none⟩=some (.string c.at_):=hQ.out.2.2.2.2.cell 2;have x3:w1.cell? ⟨wo.heap.size,3,none⟩=some (.string c.nm):=hQ.out.2.2.2.2.cell 3;have x4:w1.cell? ⟨wo.heap.size,4,none⟩=some (.slice B2 c.ats.length d2):=hQ.out.2.2.2.2.cell 4;have x5:w1.cell? ⟨wo.heap.size,5,none⟩=some (.int .i64 c.n):=hQ.out.2.2.2.2.cell 5;have hxl:wo.heap.size<w1.heap.size:=hQ.out.2.2.2.2.lt;obtain⟨f,hf1,hf2,hf3⟩:=hdo.out _ hQ.out.1 hQ.out.2.2.2.1;have hfc:=hf1;simp only[doesV]at hfc;have he:=eql_fn;replace hf3:=Hd hf3;clear v0 v1 v2 v3 v4 v5 hf1;cases hch:chK (mdTo S L j) c with
        |none=>
         have hno:=Hd (hbad.out (no_ok hc hch));replace hc:=Hd hc;replace hch:=Hd hch;first|go_region_law ((go_simp;go_at_fn f;refine hf3.out.mono ?_;rintro e w2 ⟨b2,rfl,_,hb0,hB2⟩;obtain rfl:=hb0 hch.out;clear hb0))|fail
         all_goals
          go_wp2;go_ret3;exact MdPost.bad hno.out ((hQ.out.2.2.2.1.drew).trans hB2)
        |some l'=>
         obtain⟨s1,s2⟩:=chK_sz hm2.out hcs.out hch;have hT:=Hd (szT_tdOf s1 s2);replace s2:=Hd s2;by_cases hsl2:scC (l'.map tdOf)=0
         ·have hok2:=Hd (all_ok hc hch hsl2 hok.out);have hmd:=Hd (mdTo_next hc hch);replace hch:=Hd hch;replace hc:=Hd hc;first|go_region_law ((go_simp;first
           |(go_at_fn f;refine hf3.out.mono ?_;rintro e w2 ⟨b2,rfl,hs0,_,hB2⟩;obtain⟨rfl,hDt⟩:=hs0 l' hch.out;clear hs0;have hW2:=Hd ((hQ.out.2.2.2.1.drew).trans hB2);replace hDt:=Hd hDt)
           |(go_at_call 33;refine(hsch.out w2 l' _ s1 s2.out hDt.out).mono ?_;rintro e w3 ⟨v,ls,rfl,hO3,hl3,hB3⟩;have hW3:=Hd (hW2.out.trans (hB3.mono hW2.out.size));replace hO3:=Hd hO3;replace hl3:=Hd hl3;replace hB3:=Hd hB3)
           |(go_at_call 31;refine(hchk.out w3 (l'.map tdOf) v ls w2.heap.size hT.out hO3.out hl3.out hW3.out).mono ?_;rintro e w4 ⟨rfl,hB4⟩;replace hB4:=Hd hB4;rw[hsl2])))|fail
          all_goals
           have hDf:=hst'.out w3 w4 _ _ (hst'.out w2 w3 _ _ hDt.out hB3.out) hB4.out;rw[←hmd.out,hls.out]at hDf;have hDf2:=Hd hDf;clear hDf;go_wp2;go_roundw
           case rel=>exact MRel.mk (j+1) (by omega) (by go_num) hDf2.out hok2.out (hW3.out.trans (hB4.out.mono hW3.out.size))
           case measure=>simp[intOf];omega
         ·have hno:=Hd (hbad.out (no_ok' hc hch hsl2));have hne:(scC (l'.map tdOf)==0)=false:=by simpa using hsl2
          replace hch:=Hd hch;replace hc:=Hd hc;first|go_region_law ((go_simp;first
           |(go_at_fn f;refine hf3.out.mono ?_;rintro e w2 ⟨b2,rfl,hs0,_,hB2⟩;obtain⟨rfl,hDt⟩:=hs0 l' hch.out;clear hs0;have hW2:=Hd ((hQ.out.2.2.2.1.drew).trans hB2);replace hDt:=Hd hDt)
           |(go_at_call 33;refine(hsch.out w2 l' _ s1 s2.out hDt.out).mono ?_;rintro e w3 ⟨v,ls,rfl,hO3,hl3,hB3⟩;have hW3:=Hd (hW2.out.trans (hB3.mono hW2.out.size));replace hO3:=Hd hO3;replace hl3:=Hd hl3;replace hB3:=Hd hB3)
           |(go_at_call 31;refine(hchk.out w3 (l'.map tdOf) v ls w2.heap.size hT.out hO3.out hl3.out hW3.out).mono ?_;rintro e w4 ⟨rfl,hB4⟩;replace hB4:=Hd hB4)))|fail
          all_goals
           go_wp2;go_ret3;exact MdPost.bad hno.out (hW3.out.trans (hB4.out.mono hW3.out.size))
       ·have hch:chK (mdTo S L j) c=none:=chK_bad (by omega);have hno:=Hd (hbad.out (no_ok hc hch));replace hc:=Hd hc;replace hch:=Hd hch;have hcase:c.kd<0∨c.kd=0∨8≤c.kd:=by omega
        clear hkq;rcases hcase with hk |hk |hk
        ·have n0:decide (c.kd<0)=true:=zW hk;go_upto_region 23 with(go_at_call 32;refine(tableP_k _).mono ?_;rintro e w1 ⟨rfl,hB1⟩;have hQ:=hpre.out w1 hB1;replace hQ:=Hd hQ;clear hB1;simp only[doesV])
         have x0:w1.cell? ⟨wo.heap.size,0,none⟩=some (.int .i64 c.kd):=hQ.out.2.2.2.2.cell 0;have hxl:wo.heap.size<w1.heap.size:=hQ.out.2.2.2.2.lt;go_quiet (fail);go_wp2;go_ret3;exact MdPost.bad hno.out (below_drewN hQ.out.2.2.2.1 _)
        ·have he:=eql_nil;have m0:(0:Int)≤c.kd:=by omega
         have m1:c.kd<8:=(by omega);have m2:c.kd.toNat=0:=by omega
         replace hk:=Hd hk;have n0:decide (c.kd<0)=false:=zV (by omega);have n1:decide (c.kd≥8)=false:=zV (by omega);have n1':decide (8≤c.kd)=false:=zV (by omega);go_upto_region 23 with(go_at_call 32;refine(tableP_k _).mono ?_;rintro e w1 ⟨rfl,hB1⟩;have hQ:=hpre.out w1 hB1;replace hQ:=Hd hQ;clear hB1;simp only[doesV])
         have x0:w1.cell? ⟨wo.heap.size,0,none⟩=some (.int .i64 c.kd):=hQ.out.2.2.2.2.cell 0;have hxl:wo.heap.size<w1.heap.size:=hQ.out.2.2.2.2.lt;go_quiet (fail);go_wp2;go_ret3;exact MdPost.bad hno.out (below_drewN hQ.out.2.2.2.1 _)
        ·have n0:decide (c.kd<0)=false:=zV (by omega);have n1:decide (c.kd≥8)=true:=zW hk;have n1':decide (8≤c.kd)=true:=zW hk;go_upto_region 23 with(go_at_call 32;refine(tableP_k _).mono ?_;rintro e w1 ⟨rfl,hB1⟩;have hQ:=hpre.out w1 hB1;replace hQ:=Hd hQ;clear hB1;simp only[doesV])
         have x0:w1.cell? ⟨wo.heap.size,0,none⟩=some (.int .i64 c.kd):=hQ.out.2.2.2.2.cell 0;have hxl:wo.heap.size<w1.heap.size:=hQ.out.2.2.2.2.lt;go_quiet (fail);go_wp2;go_ret3;exact MdPost.bad hno.out (below_drewN hQ.out.2.2.2.1 _)
      ·obtain rfl:j=L.length:=by omega
       have hf:=Hd (hfin.out hok);have hD9:DS wr w.heap.size g (mdTo S L L.length) (lsTo S L L.length):=by rw[←hnl.out];exact⟨vk,vl,by_,lj,hD,hlj⟩
       have hm9:=Hd (hsm.out _ hok);replace hD9:=Hd hD9;replace hB:=Hd hB;clear hD hlj hok hm;go_wp2;go_ret3;exact⟨_,_,_,_,rfl,hf.out,fun t h=>by injection h with h;subst h;exact⟨hm9.out,g,rfl,hD9.out⟩,hB.out⟩
 ·have hmd:MdIs S L none (scC S) 0:=.inl ⟨hs,rfl,rfl,rfl⟩;have hne:(scC S==0)=false:=by simpa using hs
  replace hmd:=Hd hmd;clear r rc hC hS hK hF hG;go_enter Tryz.func17,Tryz.ntmps17;go_wp2_with (go_at_call 31;refine k1.out.mono ?_;rintro e w' ⟨rfl,hB1⟩);go_ret3;exact MdPost.bad hmd.out (h0.out.trans (hB1.mono h0.out.size))
end evW
end Go.Proofs.YtfiodnlgiglhfaaGreatDoor
