/- The statement's own helpers. -/
import Derived.Laws.BytesArg
import Derived.Test.YtfiodnlgiglhfaaGreatDoorG4
import Derived.Test.YtfiodnlgiglhfaaGreatDoorWa
import Derived.Laws.MakeOwn
namespace Go.Proofs.YtfiodnlgiglhfaaGreatDoor
set_option maxRecDepth 100000
set_option maxHeartbeats 16000000
open Go.RowKit Go.Deep
set_option linter.unusedVariables false
theorem st_next {l:List ByteArray}{k:Nat}{a:ByteArray}(h:l[k]? =some a):(l.take (k+1)).flatMap strD=(l.take k).flatMap strD++strD a:=by
 rw[zJ,h];simp
namespace evW
open nmW
theorem twinTexts_k (A:Option Addr)(c:Nat)(F:Nat→Prop)(l:List ByteArray)(hl:l.length≤1048576)(w:World)(hF:∀b,F b→b<w.heap.size)(r:Rd w F (.slice A l.length c) (.sl l.length (l.flatMap strD))):
  Calls Tryz.prog 15 #[.slice A l.length c] w fun e w'=>∃v,e=.returned v∧OL w' w.heap.size (fun _=>False) 9 1 v l.length (l.flatMap strD)∧Bw w w':=by
 replace r:=Hd r;replace hF:=Hd hF;go_enter Tryz.func15,Tryz.ntmps15;go_wp2;go_loopw [3,4] (fun v x wr=>∃(j:Nat)(s3:Value),s3=v∧j≤l.length∧x=.int .i64 j∧OL wr w.heap.size (fun _=>False) 9 1 s3 j ((l.take j).flatMap strD)∧Bw w wr) (fun _ x _=>l.length- (intOf x).toNat)
 case atStart=>exact⟨0,_,rfl,zE _,rfl,.nil _ _ _ _ _,bR⟩
 case round=>
  obtain⟨j,s3,rfl,hj,rfl,hO,hB⟩:=hrel;by_cases hlt:j<l.length
  ·obtain⟨a,ha⟩:=getx hlt;obtain⟨b,off,rfl,hFb,ha2⟩:=(r.out.under hB hF.out).at_ ha;have q0:wr.cell? ⟨b,off+j,none⟩=some (.string a):=ha2;have g0:(0:Int)≤(j:Int):=by omega
   have g1:(j:Int)<l.length:=by omega
   have hfk:=Hd (st_next ha);have hsz:=hB.size;replace hB:=Hd hB;clear ha ha2;go_wp2_with (at_builtin;refine wpa rfl (.tmp 11) (.tmp 16) _ rfl (m:=1) (news:=strD a) elStr (hO.alloc (.cells ⟨[.string a]⟩ 9)) rfl rfl (Src.lit (show RdL wr _ [.string a] (strD a)from⟨.v _ rfl,trivial⟩)) rfl (by omega) (by omega) (by simp;omega) ?_;intro v' w1 hO1 hg1 ha1);go_roundw
   case rel=>exact⟨j+1,_,rfl,by omega,by go_num,by rw[hfk.out];exact hO1,(hB.out.alloc hB.out.size (.cells ⟨[.string a]⟩ 9)).grown hg1 (by simp;omega) (fun q hq=>(hO.lt q hq).1)⟩
   case measure=>simp[intOf];omega
  ·obtain rfl:j=l.length:=by omega
   rw[zL]at hO;replace hO:=Hd hO;replace hB:=Hd hB;go_wp2;go_ret;exact⟨_,rfl,hO.out,hB.out⟩
def mkN (i:Nat):List Int:=[109,97+(i:Int) % 26,97+(i:Int) / 26 % 26]
def mkS (i:Nat):ByteArray:=strOfNums (mkN i)
theorem mark_k (i:Nat)(hi:i<26)(w:World):Calls Tryz.prog 29 #[.int .i64 (i:Int)] w fun e w'=>e=.returned (.string (mkS i))∧Bw w w':=by
 have hcv:(convert 126 9 (.slice (some ⟨w.heap.size,0,none⟩) 3 3)).run Tryz.prog (w.alloc (.cells #[.int .u8 109,.int .u8 (97+(i:Int) % 26),.int .u8 (97+(i:Int) / 26 % 26)] 5))=.ok (.string (mkS i)) (w.alloc (.cells #[.int .u8 109,.int .u8 (97+(i:Int) % 26),.int .u8 (97+(i:Int) / 26 % 26)] 5)):=
  run_convert_bytes_arg _ 126 5 Tryz.underlying126 Tryz.underlying5 w.heap.size 0 3 3 (mkN i) rfl (fun j hj=>by
   have hb:=Blk.new w 5 [.int .u8 109,.int .u8 (97+(i:Int) % 26),.int .u8 (97+(i:Int) / 26 % 26)];have:=hb.cell (0+j);match j,hj with
   |0,_=>exact this
   |1,_=>exact this
   |2,_=>exact this) 9 Tryz.underlying9
 have hb:=Hd ((zB w.heap.size w).alloc nR (.cells #[.int .u8 109,.int .u8 (97+(i:Int) % 26),.int .u8 (97+(i:Int) / 26 % 26)] 5));go_enter Tryz.func29,Tryz.ntmps29;go_wp2_with (simp only[hcv]);go_ret;exact⟨rfl,hb.out⟩
end evW
end Go.Proofs.YtfiodnlgiglhfaaGreatDoor
namespace Go.Proofs.YtfiodnlgiglhfaaGreatDoor
open Go.RowKit Go.Deep
set_option linter.unusedVariables false
set_option linter.unusedSimpArgs false
structure TS (w wr:World)(v u:Value)(k:Nat)(ds:List D):Prop where
 hb:Bw w wr
 b0:Blk wr w.heap.size 24 [v]
 b1:Blk wr (w.heap.size+1) 24 [.slice none 0 0]
 b2:Blk wr (w.heap.size+1+1) 24 [u]
 ol:OL wr (w.heap.size+1+1+1) (fun b=>w.heap.size+1+1+1≤b) 47 2 u k ds
theorem TS.stay {w wr w2:World}{v u:Value}{k:Nat}{ds:List D}(h:TS w wr v u k ds)(hb:Bw wr w2):TS w w2 v u k ds:=
 ⟨h.hb.trans (hb.mono h.hb.size),h.b0.stay hb,h.b1.stay hb,h.b2.stay hb,h.ol.stay hb⟩
theorem TS.put {w wr w1:World}{v u v':Value}{k m:Nat}{ds ds':List D}(h:TS w wr v u k ds)(hg:wr.grownBy w1 u.ownBlock)(hO:OL w1 (w.heap.size+1+1+1) (fun b=>w.heap.size+1+1+1≤b) 47 2 v' m ds'):
  (w1.cell? ⟨w.heap.size+1+1,0,none⟩=some u∧w1.frozen? ⟨w.heap.size+1+1,0,none⟩=false∧w1.cell? ⟨w.heap.size,0,none⟩=some v)∧TS w (w1.setCell ⟨w.heap.size+1+1,0,none⟩ v') v v' m ds':=by
 have hne:∀q,q<w.heap.size+1+1+1→some q≠u.ownBlock:=fun q hq he=>by have:=(h.ol.lt q he.symm).1;omega
 have hrow:∀q,u.ownBlock=some q→w.heap.size≤q:=fun q hq=>by have:=(h.ol.lt q hq).1;omega
 have t0:=h.b2.grown hg (hne _ (by omega));have t1:=h.b0.grown hg (hne _ (by omega));refine⟨⟨t0.cell 0,t0.frozen 0,t1.cell 0⟩,?_⟩;refine⟨(h.hb.grown hg h.hb.size hrow).setCell (by simp;omega) _,t1.far (by simp;omega) _,(h.b1.grown hg (hne _ (by omega))).far (by simp) _,t0.set_ 0 _,hO.setCell (fun h=>?_) (by simp) _⟩;exact absurd (hO.lt _ h).1 (by show¬(_≤w.heap.size+1+1);omega)
namespace evW
open nmW
theorem twinSchema_k (A:Option Addr)(c:Nat)(F:Nat→Prop)(l:List Td)(hl:SzT l)(w:World)(hF:∀b,F b→b<w.heap.size)(r:Rd w F (.slice A l.length c) (.sl l.length (l.flatMap tdD))):
  Calls Tryz.prog 5 #[.agg #[.slice A l.length c]] w fun e w'=>∃v,e=.returned (.agg #[v])∧OL w' w.heap.size (fun b=>w.heap.size≤b) 47 2 v l.length (l.flatMap tdD)∧Bw w w':=by
 obtain⟨hl1,hl2⟩:=hl;replace hl2:=Hd hl2;replace hF:=Hd hF;replace r:=Hd r;go_enter Tryz.func5,Tryz.ntmps5;go_wp2;go_loopw [4] (fun x wr=>∃(j:Nat)(u:Value),j≤l.length∧x=.int .i64 j∧TS w wr (.slice A l.length c) u j ((l.take j).flatMap tdD)) (fun x _=>l.length- (intOf x).toNat)
 case atStart=>
  refine⟨0,.slice none 0 0,zE _,rfl,?_,?_,?_,?_,.nil _ _ _ _ _⟩
  ·exact((bA).alloc (by simp) _).alloc (by simp;omega) _
  ·exact((Blk.new _ _ _).alloc _).alloc _
  ·exact(Blk.new' (by simp)).alloc _
  ·exact Blk.new' (by simp)
 case round=>
  obtain⟨j,u,hj,rfl,hT⟩:=hrel;have z0:wr.cell? ⟨w.heap.size,0,none⟩=some (.slice A l.length c):=hT.b0.cell 0;have o0:wr.cell? ⟨w.heap.size+1+1,0,none⟩=some u:=hT.b2.cell 0;by_cases hlt:j<l.length
  ·obtain⟨t,ht⟩:=getx hlt;obtain⟨hs1,hs2,hs3⟩:=hl2.out t (zA ht);obtain⟨b,off,rfl,hFb,hv,hsl⟩:=r.out.rowv (m:=2) (fun _=>rfl) ht (by omega);have hfB:=hF.out b hFb;obtain⟨A2,c2,a1,r2⟩:=hsl 1 _ _ rfl;have kS:∀W,Bw w W→W.cell? ⟨b,off+j*2,none⟩=some (.string t.name)∧W.cell? ⟨b,off+j*2+1,none⟩=some (.slice A2 t.attrs.length c2):=fun W hW=>⟨(hW.cell (p:=⟨b,off+j*2,none⟩) hfB).trans (hv 0 _ rfl),(hW.cell (p:=⟨b,off+j*2+1,none⟩) hfB).trans a1⟩
   have g0:(0:Int)≤(j:Int):=by omega
   have g1:(j:Int)<l.length:=by omega
   have hfm:(l.take (j+1)).flatMap tdD=(l.take j).flatMap tdD++tdD t:=by rw[zJ,ht];simp
   have kt:=Hd (twinTexts_k A2 c2 F t.attrs hs2 wr.drew (fun b hb=>zF (hF.out b hb) hT.hb.size) ((r2.under hT.hb hF.out).drew));have hSS:(wr.drew.cell? ⟨w.heap.size,0,none⟩=some (.slice (some ⟨b,off,none⟩) l.length c)∧wr.drew.cell? ⟨b,off+j*2,none⟩=some (.string t.name)∧wr.drew.cell? ⟨b,off+j*2+1,none⟩=some (.slice A2 t.attrs.length c2))∧wr.drew.cell? ⟨w.heap.size+1+1,0,none⟩=some u:=⟨⟨z0,kS wr hT.hb⟩,o0⟩;have hsz:=hT.b2.lt;have hsB:b<w.heap.size:=hfB;replace kS:=Hd kS;replace hfm:=Hd hfm;have hT':=Hd hT;clear hv hsl hT ht r2 a1;go_upto_region 5 with fail
   clear z0 o0;refine G_region (p:=17) (S0:=fun W=>W.cell? ⟨w.heap.size,0,none⟩=some (.slice (some ⟨b,off,none⟩) l.length c)∧W.cell? ⟨b,off+j*2,none⟩=some (.string t.name)∧W.cell? ⟨b,off+j*2+1,none⟩=some (.slice A2 t.attrs.length c2)) (S1:=fun W=>W.cell? ⟨w.heap.size+1+1,0,none⟩=some u) (by kernel_rfl) ?_;refine' TkB 0 rfl hSS ?_;try simp only[Act.put,TkS]
   refine' G_take1 (i:=1) (v:=_) rfl (by decide) (by kernel_rfl) (by kernel_rfl) (by kernel_rfl) rfl (by kernel_rfl) (by kernel_rfl) (fun _ _ _ h=>h) hSS (.inl ⟨by rfl,?hy1⟩) ?rest1
   case hy1=>(intro W hW;(try dsimp only at hW);go_simp<;>with_reducible rfl)
   refine' TkB 2 rfl hSS ?_;refine' TkB 3 rfl hSS ?_;refine' TkB 4 rfl hSS ?_;refine' TkB 5 rfl hSS ?_;refine' TkB 6 rfl hSS ?_;refine' TkB 7 rfl hSS ?_;refine' TkB 8 rfl hSS ?_;refine' TkB 9 rfl hSS ?_;refine' TkB 10 rfl hSS ?_;refine' TkB 11 rfl hSS ?_;refine' TkB 12 rfl hSS ?_;refine' TkB 13 rfl hSS ?_;try simp only[Act.put,TkS]
   refine Gs 14 rfl fun K hK=>?_
   go_simp;go_at_call 15;refine kt.out.mono ?_;rintro e W ⟨v1,rfl,hO1,hW⟩;obtain⟨B1,d1,rfl⟩:=hO1.form;have hTW:=hT'.out.stay (show Bw wr W from(bR).drew.trans hW);have hS2:(W.cell? ⟨w.heap.size,0,none⟩=some (.slice (some ⟨b,off,none⟩) l.length c)∧W.cell? ⟨b,off+j*2,none⟩=some (.string t.name)∧W.cell? ⟨b,off+j*2+1,none⟩=some (.slice A2 t.attrs.length c2))∧W.cell? ⟨w.heap.size+1+1,0,none⟩=some u:=⟨⟨hTW.b0.cell 0,kS.out W hTW.hb⟩,hTW.b2.cell 0⟩;refine hK.out _ _ ⟨hS2.1,fun _=>hS2.2⟩ ?_;have hL:=Hd (show RdL W (fun b=>w.heap.size+1+1+1≤b∧some b≠u.ownBlock) [.string t.name,.slice B1 t.attrs.length d1] (tdD t) from ⟨.v _ rfl,hO1.rd' (fun _ h _=>h.elim) (fun b he hB hlt=>⟨by have:=hT'.out.b2.lt;simp at hB;omega,fun hu=>by have:=(hT'.out.ol.lt b hu.symm).2;simp at hB;omega⟩),trivial⟩);have hszW:=hTW.b2.lt;have hTa:=Hd (hTW.stay (bX (.cells ⟨[.string t.name,.slice B1 t.attrs.length d1]⟩ 47)));replace hTW:=Hd hTW;clear hK K hSS hO1 hW kt;refine' TkB 15 rfl hS2 ?_;try simp only[Act.put,TkS]
   refine Gs 16 rfl fun K hK=>?_
   go_simp;refine hK.out _ _ ⟨⟨hTa.out.b0.cell 0,kS.out _ hTa.out.hb⟩,fun _=>hTa.out.b2.cell 0⟩ ?_;refine Gs 17 rfl fun K hK=>?_
   refine step_app (by rfl) (.tmp 13) (.tmp 28) _ (by rfl) (m:=1) (news:=tdD t) elTd (by exact hTa.out.ol) (by rfl) (by rfl) (by exact Src.lit hL.out) rfl (by omega) (by omega) (by simp;omega) ?_;intro v' w1 hO1 hg1 ha1;obtain⟨B3,d3,rfl⟩:=hO1.form;obtain⟨⟨t0,t1,t2⟩,t3⟩:=hTa.out.put hg1 hO1;have hb1:Bw w w1:=hTa.out.hb.grown hg1 hTa.out.hb.size (fun q hq=>by have:=(hTa.out.ol.lt q hq).1;omega);have hS3:(w1.cell? ⟨w.heap.size,0,none⟩=some (.slice (some ⟨b,off,none⟩) l.length c)∧w1.cell? ⟨b,off+j*2,none⟩=some (.string t.name)∧w1.cell? ⟨b,off+j*2+1,none⟩=some (.slice A2 t.attrs.length c2))∧w1.cell? ⟨w.heap.size+1+1,0,none⟩=some u:=⟨⟨t2,kS.out w1 hb1⟩,t0⟩;refine hK.out _ _ ⟨hS3.1,fun _=>hS3.2⟩ ?_;rw[←hfm.out]at t3;replace t3:=Hd t3;clear hK K hS2 hO1 hg1 ha1;refine' TkB 18 rfl hS3 ?_;try simp only[Act.put,TkS]
   refine Gs 19 rfl fun K hK=>?_
   go_simp;refine hK.out _ _ ⟨⟨t3.out.b0.cell 0,kS.out _ t3.out.hb⟩,fun h=>absurd (h.symm.trans (by kernel_rfl:_=true)) (by simp)⟩ ?_;refine Gd _ ?_;try simp only[Act.put,TkS]
   clear hK K hS3 t0 t1 t2;go_wp2;go_roundw
   case rel=>exact⟨j+1,_,by omega,by go_num,t3.out⟩
   case measure=>simp[intOf];omega
  ·obtain rfl:j=l.length:=by omega
   rw[zL]at hT;obtain⟨h1,h2,h3,h4,h5⟩:=hT;have hsz:=h4.lt;obtain⟨U,cu,rfl⟩:=h5.form;have p0:wr.cell? ⟨w.heap.size+1,0,none⟩=some (.slice none 0 0):=h3.cell 0;have f0:wr.frozen? ⟨w.heap.size+1,0,none⟩=false:=h3.frozen 0;have e1:Blk (wr.setCell ⟨w.heap.size+1,0,none⟩ (.slice U l.length cu)) (w.heap.size+1) 24 [.slice U l.length cu]:=h3.set_ 0 _;have e2:OL (wr.setCell ⟨w.heap.size+1,0,none⟩ (.slice U l.length cu)) w.heap.size (fun b=>w.heap.size≤b) 47 2 (.slice U l.length cu) l.length (l.flatMap tdD):=
    ((h5.setCell (p:=⟨w.heap.size+1,0,none⟩) (fun h=>absurd (h5.lt _ h).1 (by show¬(_≤w.heap.size+1);omega)) (by show¬(_≤w.heap.size+1);omega) _).base (by omega)).mono fun b h=>by omega
   have e3:=Hd (h1.setCell (p:=⟨w.heap.size+1,0,none⟩) (by simp) (.slice U l.length cu));replace e1:=Hd e1;replace e2:=Hd e2;clear h1 h2 h3 h4 h5;go_wp2;exact bpa rfl e1.out aggSc rfl rfl ⟨_,rfl,e2.out,e3.out⟩
end evW
end Go.Proofs.YtfiodnlgiglhfaaGreatDoor
namespace Go.Proofs.YtfiodnlgiglhfaaGreatDoor
open Go.RowKit Go.Deep
set_option linter.unusedVariables false
theorem elChange:ElT Tryz.prog 25 51 6 88:=.of Tryz.underlying25 (by kernel_rfl) (by omega)
theorem cg_next {l:List Cg}{k:Nat}{c:Cg}(h:l[k]? =some c):(l.take (k+1)).flatMap cgD=(l.take k).flatMap cgD++cgD c:=by
 rw[zJ,h];simp
def CTRel (w:World)(l:List Cg)(v x:Value)(wr:World):Prop:=∃j:Nat,j≤l.length∧x=.int .i64 j∧OL wr w.heap.size (fun b=>w.heap.size≤b) 51 6 v j ((l.take j).flatMap cgD)∧Bw w wr
theorem CTRel.mk {w:World}{l:List Cg}{v x:Value}{wr:World}(j:Nat)(h1:j≤l.length)(h2:x=.int .i64 j)(h3:OL wr w.heap.size (fun b=>w.heap.size≤b) 51 6 v j ((l.take j).flatMap cgD))(h4:Bw w wr):CTRel w l v x wr:=⟨j,h1,h2,h3,h4⟩
namespace evW
open nmW
theorem twinChanges_k (A:Option Addr)(ca:Nat)(F:Nat→Prop)(l:List Cg)(hl:l.length≤1048576)(hC:∀c∈l,SzC c)(w:World)(hF:∀b,F b→b<w.heap.size)(r:Rd w F (.slice A l.length ca) (.sl l.length (l.flatMap cgD))):
  Calls Tryz.prog 6 #[.slice A l.length ca] w fun e w'=>∃v,e=.returned v∧OL w' w.heap.size (fun b=>w.heap.size≤b) 51 6 v l.length (l.flatMap cgD)∧Bw w w':=by
 replace hC:=Hd hC;replace hF:=Hd hF;replace r:=Hd r;go_enter Tryz.func6,Tryz.ntmps6;go_wp2;go_loopw [3,4] (fun v x wr=>CTRel w l v x wr) (fun _ x _=>l.length- (intOf x).toNat)
 case atStart=>exact CTRel.mk 0 (zE _) rfl (.nil _ _ _ _ _) bR
 case round=>
  obtain⟨j,hj,rfl,hO,hB⟩:=hrel;by_cases hlt:j<l.length
  ·obtain⟨c,hc⟩:=getx hlt;have hcs:=hC.out c (zA hc);obtain⟨b,off,rfl,hFb,hv,hsl⟩:=r.out.rowv (m:=6) (fun _=>rfl) hc (by omega);have hfB:=hF.out b hFb;obtain⟨A2,c2,a4,r4⟩:=hsl 4 _ _ rfl;have v0:wr.cell? ⟨b,off+j*6,none⟩=some (.int .i64 c.kd):=(hB.cell (p:=⟨b,off+j*6,none⟩) hfB).trans (hv 0 _ rfl);have v1:wr.cell? ⟨b,off+j*6+1,none⟩=some (.string c.ty):=(hB.cell (p:=⟨b,off+j*6+1,none⟩) hfB).trans (hv 1 _ rfl);have v2:wr.cell? ⟨b,off+j*6+2,none⟩=some (.string c.at_):=(hB.cell (p:=⟨b,off+j*6+2,none⟩) hfB).trans (hv 2 _ rfl);have v3:wr.cell? ⟨b,off+j*6+3,none⟩=some (.string c.nm):=(hB.cell (p:=⟨b,off+j*6+3,none⟩) hfB).trans (hv 3 _ rfl);have v4:wr.cell? ⟨b,off+j*6+4,none⟩=some (.slice A2 c.ats.length c2):=(hB.cell (p:=⟨b,off+j*6+4,none⟩) hfB).trans a4;have v5:wr.cell? ⟨b,off+j*6+5,none⟩=some (.int .i64 c.n):=(hB.cell (p:=⟨b,off+j*6+5,none⟩) hfB).trans (hv 5 _ rfl);have g0:(0:Int)≤(j:Int):=by omega
   have g1:(j:Int)<l.length:=by omega
   have hfb:b<wr.heap.size:=zF hfB hB.size;have hfm:=cg_next hc;have hsz:=hB.size;obtain⟨wo,hwo⟩:∃wo:World,wo=wr:=⟨_,rfl⟩
   subst hwo;have hba:Bw wo (wo.alloc (.cells ⟨cgC c A2 c2⟩ 51)):=bA;have hbw:Bw w (wo.alloc (.cells ⟨cgC c A2 c2⟩ 51)):=hB.alloc hB.size _;have kt:=Hd (twinTexts_k A2 c2 F c.ats hcs.ats.1 (wo.alloc (.cells ⟨cgC c A2 c2⟩ 51)) (fun b hb=>zF (hF.out b hb) hbw.size) (r4.under hbw hF.out));have hbx:=Hd (Blk.new wo 51 (cgC c A2 c2));replace hba:=Hd hba;replace hfm:=Hd hfm;replace hO:=Hd hO;replace hB:=Hd hB;clear hv hsl a4 hc r4 hbw;go_wp2_with (first
    |(go_at_call 15;refine kt.out.mono ?_;rintro e w1 ⟨u,rfl,hO1,hB1⟩;obtain⟨A3,c3,rfl⟩:=hO1.form;have t:=hbx.out.stay hB1;have t0:w1.cell? ⟨wo.heap.size,0,none⟩=some (.int .i64 c.kd):=t.cell 0;have t1:w1.cell? ⟨wo.heap.size,1,none⟩=some (.string c.ty):=t.cell 1;have t2:w1.cell? ⟨wo.heap.size,2,none⟩=some (.string c.at_):=t.cell 2;have t3:w1.cell? ⟨wo.heap.size,3,none⟩=some (.string c.nm):=t.cell 3;have t4:w1.cell? ⟨wo.heap.size,4,none⟩=some (.slice A2 c.ats.length c2):=t.cell 4;have t5:w1.cell? ⟨wo.heap.size,5,none⟩=some (.int .i64 c.n):=t.cell 5;have t6:w1.frozen? ⟨wo.heap.size,4,none⟩=false:=t.frozen 4;have hz9:wo.heap.size+1≤w1.heap.size:=t.lt;have hB2:=Hd ((hba.out.trans (hB1.mono hba.out.size)).setCell (p:=⟨wo.heap.size,4,none⟩) nR (.slice A3 c.ats.length c3));have hO2:=Hd (hO1.setCell (p:=⟨wo.heap.size,4,none⟩) (fun e=>by have:=(hO1.lt _ e).1;simp at this;omega) (fun h=>h) (.slice A3 c.ats.length c3));clear t hB1)
    |(at_builtin;refine wpa rfl (.tmp 23) (.tmp 25) _ rfl (m:=1) (news:=cgD c) elChange ((hO.out.stay hB2.out).alloc (.cells ⟨cgC c A3 c3⟩ 51)) rfl rfl (Src.lit' (by simp) (show RdL (w1.setCell ⟨wo.heap.size,4,none⟩ (.slice A3 c.ats.length c3)) _ (cgC c A3 c3) (cgD c)from⟨.v _ rfl,.v _ rfl,.v _ rfl,.v _ rfl,hO2.out.rd' (fun b h _=>h.elim) (fun b hb h1 h2=>⟨by simp at h1;omega,fun e=>by have:=(hO.out.lt b e.symm).2;simp at h1;omega⟩),.v _ rfl,trivial⟩)) rfl (by omega) (by omega) (by simp;omega) ?_;intro v' w2 hO3 hg1 ha1))
   have hBf:=((hB.out.trans (hB2.out.mono hB.out.size)).alloc (by have:=(hB.out.trans (hB2.out.mono hB.out.size)).size;exact this) (.cells ⟨cgC c A3 c3⟩ 51)).grown hg1 (by have:=(hB.out.trans (hB2.out.mono hB.out.size)).size;simp at this ⊢;omega) (fun q hq=>(hO.out.lt q hq).1);rw[←hfm.out]at hO3;replace hO3:=Hd hO3;replace hBf:=Hd hBf;go_roundw
   case rel=>exact CTRel.mk (j+1) (by omega) (by go_num) hO3.out hBf.out
   case measure=>simp[intOf];omega
  ·obtain rfl:j=l.length:=by omega
   rw[zL]at hO;replace hO:=Hd hO;replace hB:=Hd hB;go_wp2;go_ret;exact⟨_,rfl,hO.out,hB.out⟩
end evW
end Go.Proofs.YtfiodnlgiglhfaaGreatDoor
namespace Go.Proofs.YtfiodnlgiglhfaaGreatDoor
open Go.RowKit Go.Deep
set_option linter.unusedVariables false
def SB2 (w wr:World)(v u:Value):Prop:=Bw w wr∧Blk wr w.heap.size 24 [v]∧Blk wr (w.heap.size+1) 24 [u]
theorem SB2.stay {w wr w2:World}{v u:Value}(h:SB2 w wr v u)(hb:Bw wr w2):SB2 w w2 v u:=⟨h.1.trans (hb.mono h.1.size),h.2.1.stay hb,h.2.2.stay hb⟩
theorem SB2.drewN {w wr:World}{v u:Value}(h:SB2 w wr v u)(k:Nat):SB2 w (wr.drewN k) v u:=h.stay (below_drewN bR k)
namespace evW
open nmW
theorem sameTexts_q (A B:Option Addr)(c d:Nat)(F G:Nat→Prop)(l:List ByteArray)(hl:l.length≤1048576)(w:World)(r:Rd w F (.slice A l.length c) (.sl l.length (l.flatMap strD)))(s:Rd w G (.slice B l.length d) (.sl l.length (l.flatMap strD))):
  Calls Tryz.prog 28 #[.slice A l.length c,.slice B l.length d] w fun e w'=>e=.returned (.bool true)∧∃q,w'=w.drewN q:=by
 go_enter Tryz.func28,Tryz.ntmps28;go_wp2;go_loopw [5] (fun x wr=>∃k q:Nat,k≤l.length∧x=.int .i64 k∧wr=w.drewN q) (fun x _=>l.length- (intOf x).toNat)
 case atStart=>exact⟨0,0,zE _,rfl,by first|rfl |simp[World.drewN]⟩
 case round=>
  obtain⟨k,q,hk,rfl,rfl⟩:=hrel;by_cases hlt:k<l.length
  ·obtain⟨x,hx⟩:=getx hlt;obtain⟨b,off,rfl,hFb,a0⟩:=r.at_ hx;obtain⟨b',off',rfl,hGb,b0⟩:=s.at_ hx;have g0:(0:Int)≤(k:Int):=by omega
   have g1:(k:Int)<l.length:=by omega
   clear hx;go_wp2;go_quiet (fail);go_wp2;go_roundw
   case rel=>exact⟨k+1,_,by omega,by go_num,by first|rfl |simp⟩
   case measure=>simp[intOf];omega
  ·obtain rfl:k=l.length:=by omega
   go_wp2;go_ret;exact⟨rfl,_,rfl⟩
theorem sameSchema_k (A B:Option Addr)(c d:Nat)(F G:Nat→Prop)(l:List Td)(hl:l.length≤1048576)(hl2:∀t∈l,t.attrs.length≤1048576)(w:World)(hF:∀b,F b→b<w.heap.size)(hG:∀b,G b→b<w.heap.size)(r:Rd w F (.slice A l.length c) (.sl l.length (l.flatMap tdD)))(s:Rd w G (.slice B l.length d) (.sl l.length (l.flatMap tdD))):
  Calls Tryz.prog 11 #[.agg #[.slice A l.length c],.agg #[.slice B l.length d]] w fun e w'=>e=.returned (.bool true)∧Bw w w':=by
 have k1:=Hd sameTexts_q;replace hl2:=Hd hl2;replace hF:=Hd hF;replace hG:=Hd hG;replace r:=Hd r;replace s:=Hd s;go_enter Tryz.func11,Tryz.ntmps11;go_wp2;go_loopw [5] (fun x wr=>∃k:Nat,k≤l.length∧x=.int .i64 k∧SB2 w wr (.slice A l.length c) (.slice B l.length d)) (fun x _=>l.length- (intOf x).toNat)
 case atStart=>exact⟨0,zE _,rfl,(bA).alloc (by simp) _,(Blk.new _ _ _).alloc _,Blk.new' (by simp)⟩
 case round=>
  obtain⟨k,hk,rfl,hS⟩:=hrel;have z0:wr.cell? ⟨w.heap.size,0,none⟩=some (.slice A l.length c):=hS.2.1.cell 0;have z1:wr.cell? ⟨w.heap.size+1,0,none⟩=some (.slice B l.length d):=hS.2.2.cell 0;by_cases hlt:k<l.length
  ·obtain⟨t,ht⟩:=getx hlt;have hs2:=hl2.out t (zA ht);obtain⟨b,off,rfl,hFb,hv,hsl⟩:=(r.out.under hS.1 hF.out).rowv (m:=2) (fun _=>rfl) ht (by omega);obtain⟨A2,c2,a1,r2⟩:=hsl 1 _ _ rfl;have a0:wr.cell? ⟨b,off+k*2,none⟩=some (.string t.name):=hv 0 _ rfl;obtain⟨b',off',rfl,hGb,hv',hsl'⟩:=(s.out.under hS.1 hG.out).rowv (m:=2) (fun _=>rfl) ht (by omega);obtain⟨B2,d2,b1,s2⟩:=hsl' 1 _ _ rfl;have b0:wr.cell? ⟨b',off'+k*2,none⟩=some (.string t.name):=hv' 0 _ rfl;have g0:(0:Int)≤(k:Int):=by omega
   have g1:(k:Int)<l.length:=by omega
   replace r2:=Hd r2;replace s2:=Hd s2;have hS':=Hd hS;clear hv hsl hv' hsl' hS ht;have e0:=(zX wr _ a0);have e1:=(zX wr _ b0);go_wp2;go_quiet ((go_at_call 28;exact Calls.quiet_of (k1.out _ _ _ _ _ _ _ hs2 _ (r2.out.drewN _) (s2.out.drewN _))));go_wp2;go_roundw
   case rel=>exact⟨k+1,by omega,by go_num,hS'.out.drewN _⟩
   case measure=>simp[intOf];omega
  ·obtain rfl:k=l.length:=by omega
   go_wp2;go_ret;exact⟨rfl,hS.1⟩
theorem sameChanges_k (A B:Option Addr)(c d:Nat)(F G:Nat→Prop)(l:List Cg)(hl:l.length≤1048576)(hC:∀c∈l,SzC c)(w:World)(hF:∀b,F b→b<w.heap.size)(hG:∀b,G b→b<w.heap.size)(r:Rd w F (.slice A l.length c) (.sl l.length (l.flatMap cgD)))(s:Rd w G (.slice B l.length d) (.sl l.length (l.flatMap cgD))):
  Calls Tryz.prog 12 #[.slice A l.length c,.slice B l.length d] w fun e w'=>e=.returned (.bool true)∧Bw w w':=by
 have k1:=Hd sameTexts_q;replace hC:=Hd hC;replace hF:=Hd hF;replace hG:=Hd hG;replace r:=Hd r;replace s:=Hd s;go_enter Tryz.func12,Tryz.ntmps12;go_wp2;go_loopw [5] (fun x wr=>∃k:Nat,k≤l.length∧x=.int .i64 k∧Bw w wr) (fun x _=>l.length- (intOf x).toNat)
 case atStart=>exact⟨0,zE _,rfl,bR⟩
 case round=>
  obtain⟨k,hk,rfl,hB⟩:=hrel;by_cases hlt:k<l.length
  ·obtain⟨x,hx⟩:=getx hlt;have hxs:=(hC.out x (zA hx)).ats.1;obtain⟨b,off,rfl,hFb,hv,hsl⟩:=(r.out.under hB hF.out).rowv (m:=6) (fun _=>rfl) hx (by omega);obtain⟨A2,c2,a4,r2⟩:=hsl 4 _ _ rfl;have a0:wr.cell? ⟨b,off+k*6,none⟩=some (.int .i64 x.kd):=hv 0 _ rfl;have a1:wr.cell? ⟨b,off+k*6+1,none⟩=some (.string x.ty):=hv 1 _ rfl;have a2:wr.cell? ⟨b,off+k*6+2,none⟩=some (.string x.at_):=hv 2 _ rfl;have a3:wr.cell? ⟨b,off+k*6+3,none⟩=some (.string x.nm):=hv 3 _ rfl;replace a4:wr.cell? ⟨b,off+k*6+4,none⟩=some (.slice A2 x.ats.length c2):=a4;have a5:wr.cell? ⟨b,off+k*6+5,none⟩=some (.int .i64 x.n):=hv 5 _ rfl;obtain⟨b',off',rfl,hGb,hv',hsl'⟩:=(s.out.under hB hG.out).rowv (m:=6) (fun _=>rfl) hx (by omega);obtain⟨B2,d2,b4,s2⟩:=hsl' 4 _ _ rfl;have b0:wr.cell? ⟨b',off'+k*6,none⟩=some (.int .i64 x.kd):=hv' 0 _ rfl;have b1:wr.cell? ⟨b',off'+k*6+1,none⟩=some (.string x.ty):=hv' 1 _ rfl;have b2:wr.cell? ⟨b',off'+k*6+2,none⟩=some (.string x.at_):=hv' 2 _ rfl;have b3:wr.cell? ⟨b',off'+k*6+3,none⟩=some (.string x.nm):=hv' 3 _ rfl;replace b4:wr.cell? ⟨b',off'+k*6+4,none⟩=some (.slice B2 x.ats.length d2):=b4;have b5:wr.cell? ⟨b',off'+k*6+5,none⟩=some (.int .i64 x.n):=hv' 5 _ rfl;have g0:(0:Int)≤(k:Int):=by omega
   have g1:(k:Int)<l.length:=by omega
   have e0:=(zX wr _ a0);have e1:=(zX wr _ b0);have hb2:Bw w ((wr.alloc (.cells ⟨cgC x A2 c2⟩ 51)).alloc (.cells ⟨cgC x B2 d2⟩ 51)):=(hB.alloc hB.size _).alloc (by have:=hB.size;simp;omega) _;have kk:Calls Tryz.prog 28 #[.slice A2 x.ats.length c2,.slice B2 x.ats.length d2] ((wr.alloc (.cells ⟨cgC x A2 c2⟩ 51)).alloc (.cells ⟨cgC x B2 d2⟩ 51)) fun e w'=>e=.returned (.bool true)∧∃q,w'=((wr.alloc (.cells ⟨cgC x A2 c2⟩ 51)).alloc (.cells ⟨cgC x B2 d2⟩ 51)).drewN q:=
    k1.out _ _ _ _ _ _ _ hxs _ ((r2.alloc _).alloc _) ((s2.alloc _).alloc _)
   replace kk:=Hd kk;replace hb2:=Hd hb2;clear hv hsl hv' hsl' hx r2 s2;go_wp2_with (go_at_call 28;refine kk.out.mono ?_;rintro e w2 ⟨rfl,q,rfl⟩);go_roundw
   case rel=>exact⟨k+1,by omega,by go_num,below_drewN hb2.out q⟩
   case measure=>simp[intOf];omega
  ·obtain rfl:k=l.length:=by omega
   go_wp2;go_ret;exact⟨rfl,hB⟩
end evW
open Go.RowKit Go.Deep Go.Maps
set_option linter.unusedSimpArgs false
theorem Sp.inv {t:List Nd}{b r:Nat}(h:Sp t b r):∃x,t[r]? =some x∧((isLf x.op=true∧x.a= -1∧x.b= -1∧b=r)∨(∃j:Nat,isUn x.op=true∧x.a=j∧x.b= -1∧Sp t b j∧j+1=r)∨(∃m j:Nat,isBi x.op=true∧x.a=m∧x.b=j∧Sp t b m∧Sp t (m+1) j∧j+1=r)):=by
 cases h with
 |lf hx h1 h2 h3=>exact⟨_,hx,.inl ⟨h1,h2,h3,rfl⟩⟩
 |un hx h1 h2 h3 h4=>exact⟨_,hx,.inr (.inl ⟨_,h1,h2,h3,h4,rfl⟩)⟩
 |bi hx h1 h2 h3 h4 h5=>exact⟨_,hx,.inr (.inr ⟨_,_,h1,h2,h3,h4,h5,rfl⟩)⟩
theorem run_made {P:Program}{t e size bytes:Nat}(T:ElT P t e size bytes)(n:Nat)(hn:n≤1048576)(hb:bytes≤1024):∃zs:List Value,zs.length=n*size∧∀w:World,(Instr.makeSlice t (.int .i64 (n:Int)) (.int .i64 (n:Int))).run P w=.ok (.slice (some ⟨w.heap.size,0,none⟩) n n) (w.alloc (.cells ⟨zs⟩ e)):=by
 obtain⟨hs,⟨i,z,hi,hz,hsz,hby,hzs⟩,hp⟩:=T;subst hsz hby;refine⟨(madeCells z.cells (n*i.size)).toList,?_,fun w=>?_⟩
 ·rw[Array.length_toList];exact size_madeCells _ _
 ·have hbb:(i.bytes:Int)*(n:Int)≤281474976710656:=by
   have h:i.bytes*n≤1024*1048576:=Nat.mul_le_mul hb hn;have:((i.bytes*n:Nat):Int)≤281474976710656:=by omega
   rwa [Int.natCast_mul]at this
  have hr:=run_make (P:=P) w t e i z hs hi hz .i64 .i64 n n (by omega) (Int.le_refl _) hbb (by omega);simp only[Int.toNat_natCast]at hr;exact hr
theorem run_tail {P:Program}{t e size bytes:Nat}(T:ElT P t e size bytes)(g off n cap b:Nat)(h1:b<cap)(h2:b≤n)(h3:n≤cap)(W:World):(Instr.slice t (.slice (some ⟨g,off,none⟩) n cap) (some (.int .i64 (b:Int))) none none).run P W=.ok (.slice (some ⟨g,off+b*size,none⟩) (n-b) (cap-b)) W:=by
 obtain⟨hs,⟨i,z,hi,hz,hsz,hb,hzs⟩,hp⟩:=T;have h0:(0:Int)≤(b:Int):=by omega
 have g1:(b:Int)≤(n:Int):=by omega
 have g2:(n:Int)≤(cap:Int):=by omega
 have g3:¬b=cap:=by omega
 have g4:¬cap=b:=by omega
 simp[Instr.slice,run_underlying hs,Instr.sliceBounds,run_sliceBound,sizeOf,typeInfo,hi,h0,g1,g2,g3,g4,h2,h3,Addr.add,hsz]
def NdL (t:List Nd)(b n:Nat):List Nd:=(t.drop b).take n
theorem NdL_get {t:List Nd}{b n i:Nat}{x:Nd}(h:(NdL t b n)[i]? =some x):t[b+i]? =some x∧i<n:=by
 unfold NdL at h;rw[zZ]at h;split at h
 ·rename_i hi;rw[xT]at h;exact⟨h,hi⟩
 ·cases h
theorem NdL_len {t:List Nd}{b n:Nat}(h:b+n≤t.length):(NdL t b n).length=n:=by unfold NdL;rw[zO,List.length_drop];omega
theorem ndV_len (x:Nd):(ndV x).length=6:=rfl
theorem nd_src {t:List Nd}{b n j:Nat}{v:Value}(h:((NdL t b n).flatMap ndV)[j]? =some v):(t.flatMap ndD)[b*6+j]? =some (.v v)∧v.oneCell'=true:=by
 have hj:=(zC.1 h).1;rw[fml (m:=6) ndV_len]at hj;obtain⟨x,hx⟩:=getx (l:=NdL t b n) (i:=j / 6) (by omega);have hc:j % 6<6:=Nat.mod_lt _ (by omega);have e:j / 6*6+j % 6=j:=by omega
 obtain⟨u,hu⟩:∃u,(ndV x)[j % 6]? =some u:=getx (by rw[ndV_len];exact hc)
 have h1:=fmg ndV_len hx hu;rw[e,h]at h1;injection h1 with h1
 subst h1;have h2:(ndD x)[j % 6]? =some (.v v):=by
  have:ndD x=(ndV x).map .v:=rfl;rw[this,zG,hu];rfl
 have h3:=fmg (f:=ndD) (m:=6) (fun _=>rfl) (NdL_get hx).1 h2;refine⟨by rw[←h3];congr 1;omega,?_⟩;have:v∈ndV x:=zA hu;simp only[ndV,List.mem_cons,List.not_mem_nil,or_false]at this;rcases this with h |h |h |h |h |h<;>rw[h]<;>rfl
theorem ndV_set {c:Nat}{p p':Nd}{x:Value}(hc:c<6)(h:ndV p'=(ndV p).set c x):∀{l:List Nd}{i:Nat},l[i]? =some p→(l.flatMap ndV).set (i*6+c) x=(l.set i p').flatMap ndV:=by
 intro l;induction l with
 |nil=>intro i hp;simp at hp
 |cons a l ih=>
  intro i hp;cases i with
  |zero=>
   simp only[zY,Option.some.injEq]at hp;subst hp;rw[List.set_cons_zero,zK,zK,h,List.set_append,ndV_len,if_pos (by omega),Nat.zero_mul,Nat.zero_add]
  |succ k=>
   simp only[xA]at hp;rw[List.set_cons_succ,zK,zK,←ih hp,List.set_append,ndV_len,if_neg (by omega),show(k+1)*6+c-6=k*6+c by omega]
def shR (L:List Nd)(b j:Nat):List Nd:=(L.take j).map (shiftN b)++L.drop j
theorem shR_get {L:List Nd}{b j:Nat}{x:Nd}(h:L[j]? =some x):(shR L b j)[j]? =some x∧(shR L b j).set j (shiftN b x)=shR L b (j+1):=by
 obtain⟨h1,h2⟩:=zC.1 h;have hl:((L.take j).map (shiftN b)).length=j:=by rw[xC,zO];omega
 unfold shR;rw[List.drop_eq_getElem_cons h1,h2];constructor
 ·rw[zP (by omega),hl,Nat.sub_self];rfl
 ·rw[List.set_append_right _ _ (by omega),hl,Nat.sub_self,List.set_cons_zero,zJ,h,xR];simp
theorem shR_end (L:List Nd)(b:Nat):shR L b L.length=L.map (shiftN b):=by unfold shR;rw[zL,List.drop_length,zT]
def TrPost (L:List Nd)(w:World)(e:Ending)(w':World):Prop:=∃v,e=.returned v∧OL w' w.heap.size NoF 81 6 v L.length (L.flatMap ndD)∧Bw w w'
theorem TrPost.mk {L:List Nd}{w w':World}{v:Value}(h:OL w' w.heap.size NoF 81 6 v L.length (L.flatMap ndD))(hb:Bw w w'):TrPost L w (.returned v) w':=⟨v,rfl,h,hb⟩
theorem ol_nodes {w:World}{B g:Nat}{L:List Nd}(hB:B≤g)(hb:Blk w g 81 (L.flatMap ndV))(hl:L.length≤1048576):OL w B NoF 81 6 (.slice (some ⟨g,0,none⟩) L.length L.length) L.length (L.flatMap ndD):=by
 refine OL.of_blk hB hb nR (by unfold maxLen;omega) (fml ndV_len _) (fml (f:=ndD) (m:=6) (fun _=>rfl) _) fun k d hd=>?_
 have e:L.flatMap ndD=(L.flatMap ndV).map .v:=by rw[List.map_flatMap];rfl
 rw[e,zG]at hd;obtain⟨v,hv,rfl⟩:=xG.1 hd;have:v.oneCell'=true:=by
  have h2:((NdL L 0 L.length).flatMap ndV)[k]? =some v:=by unfold NdL;rw[List.drop_zero,zL];exact hv
  exact(nd_src h2).2
 exact⟨v,hv,.v _ this⟩
namespace ckW
open nmW
theorem size_k (A:Option Addr)(c:Nat)(F:Nat→Prop)(t:List Nd)(hl:t.length≤1048576)(w:World)(r:Rd w F (.slice A t.length c) (.sl t.length (t.flatMap ndD))):∀(n b rt:Nat),rt<n→Sp t b rt→
  Calls Tryz.prog 145 #[.slice A t.length c,.int .i64 rt] w fun e w'=>e=.returned (.int .i64 ((rt+1-b:Nat):Int))∧w'=w:=by
 intro n;induction n with
 |zero=>intro b rt h;omega
 |succ n ih=>
  intro b rt hn hsp;have hle:=hsp.le;have hlt:=hsp.lt;obtain⟨x,hx,hcs⟩:=hsp.inv;obtain⟨g,off,rfl,_,z0,z1,z2,z3,z4,z5⟩:=nd_at r hx;have g0:(0:Int)≤(rt:Int):=by omega
  have g1:(rt:Int)<t.length:=by omega
  obtain⟨R,hR⟩:∃R:Nat,R=rt+1-b:=⟨_,rfl⟩
  rw[←hR];rcases hcs with⟨_,ha,hb,he⟩|⟨j,_,ha,hb,hs,he⟩|⟨m,j,_,ha,hb,hs1,hs2,he⟩
  ·rw[ha]at z4;rw[hb]at z5;have hfin:(1:Int)=R:=by omega
   replace hfin:=Hd hfin;clear ih hsp ha hb he hx hR r z0 z1 z2 z3;go_enter Tryz.func145,Tryz.ntmps145;go_wp2_with fail;go_ret;exact⟨rtI hfin.out,rfl⟩
  ·have hlj:=hs.le;have k1:=ih b j (by omega) hs;obtain⟨n1,hn1⟩:∃n1:Nat,n1=j+1-b:=⟨_,rfl⟩
   rw[←hn1]at k1;rw[ha]at z4;rw[hb]at z5;have hfin:(1:Int)+n1=R:=by omega
   have p1:(0:Int)≤(j:Int):=by omega
   have p2:(n1:Int)≤1048576:=by omega
   replace hfin:=Hd hfin;replace k1:=Hd k1;clear ih hsp ha hb he hx hR r z0 z1 z2 z3 hn1 hs;go_enter Tryz.func145,Tryz.ntmps145;go_wp2_with (go_at_call 145;refine k1.out.mono ?_;rintro e W ⟨rfl,hW⟩;subst W);go_ret;exact⟨rtI hfin.out,rfl⟩
  ·have hlj:=hs1.le;have hlj2:=hs2.le;have k1:=ih b m (by omega) hs1;have k2:=ih (m+1) j (by omega) hs2;obtain⟨n1,hn1⟩:∃n1:Nat,n1=m+1-b:=⟨_,rfl⟩
   rw[←hn1]at k1;obtain⟨n2,hn2⟩:∃n2:Nat,n2=j+1- (m+1):=⟨_,rfl⟩
   rw[←hn2]at k2;rw[ha]at z4;rw[hb]at z5;have hfin:(1:Int)+n1+n2=R:=by omega
   have p1:(0:Int)≤(j:Int):=by omega
   have p0:(0:Int)≤(m:Int):=by omega
   have p2:(n1:Int)≤1048576:=by omega
   have p3:(n2:Int)≤1048576:=by omega
   have tok0:=True.intro;replace hfin:=Hd hfin;replace k1:=Hd k1;replace k2:=Hd k2;clear ih hsp ha hb he hx hR r z0 z1 z2 z3 hn1 hn2 hs1 hs2;go_enter Tryz.func145,Tryz.ntmps145;go_wp2_with (first
    |(go_at_call 145;have _t:=tok0;clear tok0;refine k1.out.mono ?_;rintro e W ⟨rfl,hW⟩;subst W)
    |(go_at_call 145;refine k2.out.mono ?_;rintro e W ⟨rfl,hW⟩;subst W))
   go_ret;exact⟨rtI hfin.out,rfl⟩
theorem Size_k (A:Option Addr)(c:Nat)(F:Nat→Prop)(t:List Nd)(hs:SzN t)(w:World)(hK:KwIs w)(hF:∀b,F b→b<w.heap.size)(r:Rd w F (.slice A t.length c) (.sl t.length (t.flatMap ndD)))(ht:treeB t=true){b rt:Nat}(hsp:Sp t b rt):
  Calls Tryz.prog 125 #[.slice A t.length c,.int .i64 rt] w fun e w'=>e=.returned (.int .i64 ((rt+1-b:Nat):Int))∧Bw w w':=by
 have k1:=tree_k A c F t hs w hK hF r;rw[ht]at k1;have k2:∀W,Bw w W→_:=fun W hW=>size_k A c F t hs.1 W (r.under hW hF) (rt+1) b rt (by omega) hsp
 have hlt:=hsp.lt;have g0:¬(rt:Int)<0:=by omega
 have g1:¬(t.length:Int)≤(rt:Int):=by omega
 have g2:¬t.length≤rt:=by omega
 have g3:decide (t.length≤rt)=false:=zV g2;generalize rt+1-b=R at k2 ⊢;replace k1:=Hd k1;replace k2:=Hd k2;clear hs hK hF r ht hsp hlt;go_enter Tryz.func125,Tryz.ntmps125;go_wp2_with (first
  |(go_at_call 70;refine k1.out.mono ?_;rintro e W ⟨rfl,hW⟩;have k3:=Hd (k2.out W hW);replace hW:=Hd hW)
  |(go_at_call 145;refine k3.out.mono ?_;rintro e W2 ⟨rfl,hW2⟩;subst W2))
 go_ret;exact⟨rfl,hW.out⟩
end ckW
end Go.Proofs.YtfiodnlgiglhfaaGreatDoor
