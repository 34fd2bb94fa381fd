/- The law's copies of texts and schemas; whether. -/
import Derived.Test.YthaabihjeomipaaGreatDoorQOe
namespace Go.Proofs.YthaabihjeomipaaGreatDoor
set_option maxRecDepth 100000
set_option maxHeartbeats 16000000
open Go.RowKit Go.Deep
set_option linter.unusedVariables false
theorem st_next {l:List ByteArray}{k:Nat}{a:ByteArray}(h:l[k]? =some a):(l.take (k+1)).flatMap strD=(l.take k).flatMap strD++strD a:=by
 rw[zJ,h];simp
namespace evW
open nmW
theorem twinTexts_k (A:Option Addr)(c:Nat)(F:Nat→Prop)(l:List ByteArray)(hl:l.length≤1048576)(w:World)(hF:∀b,F b→b<w.heap.size)(r:Rd w F (.slice A l.length c) (.sl l.length (l.flatMap strD))):
  Calls Tryz.prog 21 #[.slice A l.length c] w fun e w'=>∃v,e=.returned v∧OL w' w.heap.size (fun _=>False) 9 1 v l.length (l.flatMap strD)∧Bw w w':=by
 replace r:=Hd r;replace hF:=Hd hF;go_enter Tryz.func21,Tryz.ntmps21;go_wp2;go_loopw [3,4] (fun v x wr=>∃(j:Nat)(s3:Value),s3=v∧j≤l.length∧x=.int .i64 j∧OL wr w.heap.size (fun _=>False) 9 1 s3 j ((l.take j).flatMap strD)∧Bw w wr) (fun _ x _=>l.length- (intOf x).toNat)
 case atStart=>exact⟨0,_,rfl,zE _,rfl,.nil _ _ _ _ _,bR⟩
 case round=>
  obtain⟨j,s3,rfl,hj,rfl,hO,hB⟩:=hrel;by_cases hlt:j<l.length
  ·obtain⟨a,ha⟩:=getx hlt;obtain⟨b,off,rfl,hFb,ha2⟩:=(r.out.under hB hF.out).at_ ha;have q0:wr.cell? ⟨b,off+j,none⟩=some (.string a):=ha2;have g0:(0:Int)≤(j:Int):=oQ;have g1:(j:Int)<l.length:=oQ;have hfk:=Hd (st_next ha);have hsz:=hB.size;replace hB:=Hd hB;clear ha ha2;go_wp2_with (at_builtin;refine wpa rfl (.tmp 11) (.tmp 16) _ rfl (m:=1) (news:=strD a) elStr (hO.alloc (.cells ⟨[.string a]⟩ 9)) rfl rfl (Src.lit (show RdL wr _ [.string a] (strD a)from⟨.v _ rfl,trivial⟩)) rfl oQ oQ (by simp;omega) ?_;intro v' w1 hO1 hg1 ha1);go_roundw
   case rel=>exact⟨j+1,_,rfl,oQ,gQ,by rw[hfk.out];exact hO1,(hB.out.alloc hB.out.size (.cells ⟨[.string a]⟩ 9)).grown hg1 (by simp;omega) (fun q hq=>(hO.lt q hq).1)⟩
   case measure=>exact mQ
  ·obtain rfl:j=l.length:=oQ;rw[zL]at hO;replace hO:=Hd hO;replace hB:=Hd hB;go_wp2;go_ret;exact⟨_,rfl,hO.out,hB.out⟩
end evW
end Go.Proofs.YthaabihjeomipaaGreatDoor
namespace Go.Proofs.YthaabihjeomipaaGreatDoor
open Go.RowKit Go.Deep
set_option linter.unusedVariables false
set_option linter.unusedSimpArgs false
structure TS (w wr:World)(v u:Value)(k:Nat)(ds:List D):Prop where
 hb:Bw w wr
 b0:Blk wr w.heap.size 24 [v]
 b1:Blk wr (w.heap.size+1) 24 [.slice none 0 0]
 b2:Blk wr (w.heap.size+1+1) 24 [u]
 ol:OL wr (w.heap.size+1+1+1) (fun b=>w.heap.size+1+1+1≤b) 50 2 u k ds
theorem TS.stay {w wr w2:World}{v u:Value}{k:Nat}{ds:List D}(h:TS w wr v u k ds)(hb:Bw wr w2):TS w w2 v u k ds:=
 ⟨h.hb.trans (hb.mono h.hb.size),h.b0.stay hb,h.b1.stay hb,h.b2.stay hb,h.ol.stay hb⟩
theorem TS.put {w wr w1:World}{v u v':Value}{k m:Nat}{ds ds':List D}(h:TS w wr v u k ds)(hg:wr.grownBy w1 u.ownBlock)(hO:OL w1 (w.heap.size+1+1+1) (fun b=>w.heap.size+1+1+1≤b) 50 2 v' m ds'):
  (w1.cell? ⟨w.heap.size+1+1,0,none⟩=some u∧w1.frozen? ⟨w.heap.size+1+1,0,none⟩=false∧w1.cell? ⟨w.heap.size,0,none⟩=some v)∧TS w (w1.setCell ⟨w.heap.size+1+1,0,none⟩ v') v v' m ds':=by
 have hne:∀q,q<w.heap.size+1+1+1→some q≠u.ownBlock:=fun q hq he=>by have:=(h.ol.lt q he.symm).1;omega
 have hrow:∀q,u.ownBlock=some q→w.heap.size≤q:=fun q hq=>by have:=(h.ol.lt q hq).1;omega
 have t0:=h.b2.grown hg (hne _ oQ);have t1:=h.b0.grown hg (hne _ oQ);refine⟨⟨t0.cell 0,t0.frozen 0,t1.cell 0⟩,?_⟩;refine⟨(h.hb.grown hg h.hb.size hrow).setCell (by simp;omega) _,t1.far (by simp;omega) _,(h.b1.grown hg (hne _ oQ)).far sJ _,t0.set_ 0 _,hO.setCell (fun h=>?_) sJ _⟩;exact absurd (hO.lt _ h).1 (by show¬(_≤w.heap.size+1+1);omega)
namespace evW
open nmW
theorem twinSchema_k (A:Option Addr)(c:Nat)(F:Nat→Prop)(l:List Td)(hl:SzT l)(w:World)(hF:∀b,F b→b<w.heap.size)(r:Rd w F (.slice A l.length c) (.sl l.length (l.flatMap tdD))):
  Calls Tryz.prog 8 #[.agg #[.slice A l.length c]] w fun e w'=>∃v,e=.returned (.agg #[v])∧OL w' w.heap.size (fun b=>w.heap.size≤b) 50 2 v l.length (l.flatMap tdD)∧Bw w w':=by
 obtain⟨hl1,hl2⟩:=hl;replace hl2:=Hd hl2;replace hF:=Hd hF;replace r:=Hd r;go_enter Tryz.func8,Tryz.ntmps8;go_wp2;go_loopw [4] (fun x wr=>∃(j:Nat)(u:Value),j≤l.length∧x=.int .i64 j∧TS w wr (.slice A l.length c) u j ((l.take j).flatMap tdD)) (fun x _=>l.length- (intOf x).toNat)
 case atStart=>
  refine⟨0,.slice none 0 0,zE _,rfl,?_,?_,?_,?_,.nil _ _ _ _ _⟩
  ·exact((bA).alloc sJ _).alloc (by simp;omega) _
  ·exact((Blk.new _ _ _).alloc _).alloc _
  ·exact(Blk.new' sJ).alloc _
  ·exact Blk.new' sJ
 case round=>
  obtain⟨j,u,hj,rfl,hT⟩:=hrel;have z0:wr.cell? ⟨w.heap.size,0,none⟩=some (.slice A l.length c):=hT.b0.cell 0;have o0:wr.cell? ⟨w.heap.size+1+1,0,none⟩=some u:=hT.b2.cell 0;by_cases hlt:j<l.length
  ·obtain⟨t,ht⟩:=getx hlt;obtain⟨hs1,hs2,hs3⟩:=hl2.out t (zA ht);obtain⟨b,off,rfl,hFb,hv,hsl⟩:=r.out.rowv (m:=2) (fun _=>rfl) ht oQ;have hfB:=hF.out b hFb;obtain⟨A2,c2,a1,r2⟩:=hsl 1 _ _ rfl;have kS:∀W,Bw w W→W.cell? ⟨b,off+j*2,none⟩=some (.string t.name)∧W.cell? ⟨b,off+j*2+1,none⟩=some (.slice A2 t.attrs.length c2):=fun W hW=>⟨(hW.cell (p:=⟨b,off+j*2,none⟩) hfB).trans (hv 0 _ rfl),(hW.cell (p:=⟨b,off+j*2+1,none⟩) hfB).trans a1⟩
   have g0:(0:Int)≤(j:Int):=oQ;have g1:(j:Int)<l.length:=oQ;have hfm:(l.take (j+1)).flatMap tdD=(l.take j).flatMap tdD++tdD t:=by rw[zJ,ht];simp
   have kt:=Hd (twinTexts_k A2 c2 F t.attrs hs2 wr.drew (fun b hb=>zF (hF.out b hb) hT.hb.size) ((r2.under hT.hb hF.out).drew));have hSS:(wr.drew.cell? ⟨w.heap.size,0,none⟩=some (.slice (some ⟨b,off,none⟩) l.length c)∧wr.drew.cell? ⟨b,off+j*2,none⟩=some (.string t.name)∧wr.drew.cell? ⟨b,off+j*2+1,none⟩=some (.slice A2 t.attrs.length c2))∧wr.drew.cell? ⟨w.heap.size+1+1,0,none⟩=some u:=⟨⟨z0,kS wr hT.hb⟩,o0⟩;have hsz:=hT.b2.lt;have hsB:b<w.heap.size:=hfB;replace kS:=Hd kS;replace hfm:=Hd hfm;have hT':=Hd hT;clear hv hsl hT ht r2 a1;go_upto_region 5 with fail
   clear z0 o0;refine G_region (p:=17) (S0:=fun W=>W.cell? ⟨w.heap.size,0,none⟩=some (.slice (some ⟨b,off,none⟩) l.length c)∧W.cell? ⟨b,off+j*2,none⟩=some (.string t.name)∧W.cell? ⟨b,off+j*2+1,none⟩=some (.slice A2 t.attrs.length c2)) (S1:=fun W=>W.cell? ⟨w.heap.size+1+1,0,none⟩=some u) kQ ?_;refine' TkB 0 rfl hSS ?_;try simp only[Act.put,TkS]
   refine' G_take1 (i:=1) (v:=_) rfl dQ kQ kQ kQ rfl kQ kQ (fun _ _ _ h=>h) hSS (.inl ⟨by rfl,?hy1⟩) ?rest1
   case hy1=>(intro W hW;(try dsimp only at hW);go_simp<;>with_reducible rfl)
   refine' TkB 2 rfl hSS ?_;refine' TkB 3 rfl hSS ?_;refine' TkB 4 rfl hSS ?_;refine' TkB 5 rfl hSS ?_;refine' TkB 6 rfl hSS ?_;refine' TkB 7 rfl hSS ?_;refine' TkB 8 rfl hSS ?_;refine' TkB 9 rfl hSS ?_;refine' TkB 10 rfl hSS ?_;refine' TkB 11 rfl hSS ?_;refine' TkB 12 rfl hSS ?_;refine' TkB 13 rfl hSS ?_;try simp only[Act.put,TkS]
   refine Gs 14 rfl fun K hK=>?_
   go_simp;go_at_call 21;refine kt.out.mono ?_;rintro e W ⟨v1,rfl,hO1,hW⟩;obtain⟨B1,d1,rfl⟩:=hO1.form;have hTW:=hT'.out.stay (show Bw wr W from(bR).drew.trans hW);have hS2:(W.cell? ⟨w.heap.size,0,none⟩=some (.slice (some ⟨b,off,none⟩) l.length c)∧W.cell? ⟨b,off+j*2,none⟩=some (.string t.name)∧W.cell? ⟨b,off+j*2+1,none⟩=some (.slice A2 t.attrs.length c2))∧W.cell? ⟨w.heap.size+1+1,0,none⟩=some u:=⟨⟨hTW.b0.cell 0,kS.out W hTW.hb⟩,hTW.b2.cell 0⟩;refine hK.out _ _ ⟨hS2.1,fun _=>hS2.2⟩ ?_;have hL:=Hd (show RdL W (fun b=>w.heap.size+1+1+1≤b∧some b≠u.ownBlock) [.string t.name,.slice B1 t.attrs.length d1] (tdD t) from ⟨.v _ rfl,hO1.rd' (fun _ h _=>h.elim) (fun b he hB hlt=>⟨by have:=hT'.out.b2.lt;simp at hB;omega,fun hu=>by have:=(hT'.out.ol.lt b hu.symm).2;simp at hB;omega⟩),trivial⟩);have hszW:=hTW.b2.lt;have hTa:=Hd (hTW.stay (bX (.cells ⟨[.string t.name,.slice B1 t.attrs.length d1]⟩ 50)));replace hTW:=Hd hTW;clear hK K hSS hO1 hW kt;refine' TkB 15 rfl hS2 ?_;try simp only[Act.put,TkS]
   refine Gs 16 rfl fun K hK=>?_
   go_simp;refine hK.out _ _ ⟨⟨hTa.out.b0.cell 0,kS.out _ hTa.out.hb⟩,fun _=>hTa.out.b2.cell 0⟩ ?_;refine Gs 17 rfl fun K hK=>?_
   refine step_app (by rfl) (.tmp 13) (.tmp 28) _ (by rfl) (m:=1) (news:=tdD t) elTd (by exact hTa.out.ol) (by rfl) (by rfl) (by exact Src.lit hL.out) rfl oQ oQ (by simp;omega) ?_;intro v' w1 hO1 hg1 ha1;obtain⟨B3,d3,rfl⟩:=hO1.form;obtain⟨⟨t0,t1,t2⟩,t3⟩:=hTa.out.put hg1 hO1;have hb1:Bw w w1:=hTa.out.hb.grown hg1 hTa.out.hb.size (fun q hq=>by have:=(hTa.out.ol.lt q hq).1;omega);have hS3:(w1.cell? ⟨w.heap.size,0,none⟩=some (.slice (some ⟨b,off,none⟩) l.length c)∧w1.cell? ⟨b,off+j*2,none⟩=some (.string t.name)∧w1.cell? ⟨b,off+j*2+1,none⟩=some (.slice A2 t.attrs.length c2))∧w1.cell? ⟨w.heap.size+1+1,0,none⟩=some u:=⟨⟨t2,kS.out w1 hb1⟩,t0⟩;refine hK.out _ _ ⟨hS3.1,fun _=>hS3.2⟩ ?_;rw[←hfm.out]at t3;replace t3:=Hd t3;clear hK K hS2 hO1 hg1 ha1;refine' TkB 18 rfl hS3 ?_;try simp only[Act.put,TkS]
   refine Gs 19 rfl fun K hK=>?_
   go_simp;refine hK.out _ _ ⟨⟨t3.out.b0.cell 0,kS.out _ t3.out.hb⟩,fun h=>absurd (h.symm.trans (by kernel_rfl:_=true)) sJ⟩ ?_;refine Gd _ ?_;try simp only[Act.put,TkS]
   clear hK K hS3 t0 t1 t2;go_wp2;go_roundw
   case rel=>exact⟨j+1,_,oQ,gQ,t3.out⟩
   case measure=>exact mQ
  ·obtain rfl:j=l.length:=oQ;rw[zL]at hT;obtain⟨h1,h2,h3,h4,h5⟩:=hT;have hsz:=h4.lt;obtain⟨U,cu,rfl⟩:=h5.form;have p0:wr.cell? ⟨w.heap.size+1,0,none⟩=some (.slice none 0 0):=h3.cell 0;have f0:wr.frozen? ⟨w.heap.size+1,0,none⟩=false:=h3.frozen 0;have e1:Blk (wr.setCell ⟨w.heap.size+1,0,none⟩ (.slice U l.length cu)) (w.heap.size+1) 24 [.slice U l.length cu]:=h3.set_ 0 _;have e2:OL (wr.setCell ⟨w.heap.size+1,0,none⟩ (.slice U l.length cu)) w.heap.size (fun b=>w.heap.size≤b) 50 2 (.slice U l.length cu) l.length (l.flatMap tdD):=
    ((h5.setCell (p:=⟨w.heap.size+1,0,none⟩) (fun h=>absurd (h5.lt _ h).1 (by show¬(_≤w.heap.size+1);omega)) (by show¬(_≤w.heap.size+1);omega) _).base oQ).mono fun b h=>by omega
   have e3:=Hd (h1.setCell (p:=⟨w.heap.size+1,0,none⟩) sJ (.slice U l.length cu));replace e1:=Hd e1;replace e2:=Hd e2;clear h1 h2 h3 h4 h5;go_wp2;exact bpa rfl e1.out aggSc rfl rfl ⟨_,rfl,e2.out,e3.out⟩
end evW
end Go.Proofs.YthaabihjeomipaaGreatDoor
namespace Go.Proofs.YthaabihjeomipaaGreatDoor
open Go.RowKit Go.Deep
set_option linter.unusedVariables false
def SB2 (w wr:World)(v u:Value):Prop:=Bw w wr∧Blk wr w.heap.size 24 [v]∧Blk wr (w.heap.size+1) 24 [u]
theorem SB2.stay {w wr w2:World}{v u:Value}(h:SB2 w wr v u)(hb:Bw wr w2):SB2 w w2 v u:=⟨h.1.trans (hb.mono h.1.size),h.2.1.stay hb,h.2.2.stay hb⟩
theorem SB2.drewN {w wr:World}{v u:Value}(h:SB2 w wr v u)(k:Nat):SB2 w (wr.drewN k) v u:=h.stay (below_drewN bR k)
namespace evW
open nmW
theorem sameTexts_q (A B:Option Addr)(c d:Nat)(F G:Nat→Prop)(l:List ByteArray)(hl:l.length≤1048576)(w:World)(r:Rd w F (.slice A l.length c) (.sl l.length (l.flatMap strD)))(s:Rd w G (.slice B l.length d) (.sl l.length (l.flatMap strD))):
  Calls Tryz.prog 17 #[.slice A l.length c,.slice B l.length d] w fun e w'=>e=.returned (.bool true)∧∃q,w'=w.drewN q:=by
 go_enter Tryz.func17,Tryz.ntmps17;go_wp2;go_loopw [5] (fun x wr=>∃k q:Nat,k≤l.length∧x=.int .i64 k∧wr=w.drewN q) (fun x _=>l.length- (intOf x).toNat)
 case atStart=>exact⟨0,0,zE _,rfl,by first|rfl |simp[World.drewN]⟩
 case round=>
  obtain⟨k,q,hk,rfl,rfl⟩:=hrel;by_cases hlt:k<l.length
  ·obtain⟨x,hx⟩:=getx hlt;obtain⟨b,off,rfl,hFb,a0⟩:=r.at_ hx;obtain⟨b',off',rfl,hGb,b0⟩:=s.at_ hx;have g0:(0:Int)≤(k:Int):=oQ;have g1:(k:Int)<l.length:=oQ;clear hx;go_wp2;go_quiet (fail);go_wp2;go_roundw
   case rel=>exact⟨k+1,_,oQ,gQ,by first|rfl |simp⟩
   case measure=>exact mQ
  ·obtain rfl:k=l.length:=oQ;go_wp2;go_ret;exact⟨rfl,_,rfl⟩
theorem sameSchema_k (A B:Option Addr)(c d:Nat)(F G:Nat→Prop)(l:List Td)(hl:l.length≤1048576)(hl2:∀t∈l,t.attrs.length≤1048576)(w:World)(hF:∀b,F b→b<w.heap.size)(hG:∀b,G b→b<w.heap.size)(r:Rd w F (.slice A l.length c) (.sl l.length (l.flatMap tdD)))(s:Rd w G (.slice B l.length d) (.sl l.length (l.flatMap tdD))):
  Calls Tryz.prog 12 #[.agg #[.slice A l.length c],.agg #[.slice B l.length d]] w fun e w'=>e=.returned (.bool true)∧Bw w w':=by
 have k1:=Hd sameTexts_q;replace hl2:=Hd hl2;replace hF:=Hd hF;replace hG:=Hd hG;replace r:=Hd r;replace s:=Hd s;go_enter Tryz.func12,Tryz.ntmps12;go_wp2;go_loopw [5] (fun x wr=>∃k:Nat,k≤l.length∧x=.int .i64 k∧SB2 w wr (.slice A l.length c) (.slice B l.length d)) (fun x _=>l.length- (intOf x).toNat)
 case atStart=>exact⟨0,zE _,rfl,(bA).alloc sJ _,(Blk.new _ _ _).alloc _,Blk.new' sJ⟩
 case round=>
  obtain⟨k,hk,rfl,hS⟩:=hrel;have z0:wr.cell? ⟨w.heap.size,0,none⟩=some (.slice A l.length c):=hS.2.1.cell 0;have z1:wr.cell? ⟨w.heap.size+1,0,none⟩=some (.slice B l.length d):=hS.2.2.cell 0;by_cases hlt:k<l.length
  ·obtain⟨t,ht⟩:=getx hlt;have hs2:=hl2.out t (zA ht);obtain⟨b,off,rfl,hFb,hv,hsl⟩:=(r.out.under hS.1 hF.out).rowv (m:=2) (fun _=>rfl) ht oQ;obtain⟨A2,c2,a1,r2⟩:=hsl 1 _ _ rfl;have a0:wr.cell? ⟨b,off+k*2,none⟩=some (.string t.name):=hv 0 _ rfl;obtain⟨b',off',rfl,hGb,hv',hsl'⟩:=(s.out.under hS.1 hG.out).rowv (m:=2) (fun _=>rfl) ht oQ;obtain⟨B2,d2,b1,s2⟩:=hsl' 1 _ _ rfl;have b0:wr.cell? ⟨b',off'+k*2,none⟩=some (.string t.name):=hv' 0 _ rfl;have g0:(0:Int)≤(k:Int):=oQ;have g1:(k:Int)<l.length:=oQ;replace r2:=Hd r2;replace s2:=Hd s2;have hS':=Hd hS;clear hv hsl hv' hsl' hS ht;have e0:=(zX wr _ a0);have e1:=(zX wr _ b0);go_wp2;go_quiet ((go_at_call 17;exact Calls.quiet_of (k1.out _ _ _ _ _ _ _ hs2 _ (r2.out.drewN _) (s2.out.drewN _))));go_wp2;go_roundw
   case rel=>exact⟨k+1,oQ,gQ,hS'.out.drewN _⟩
   case measure=>exact mQ
  ·obtain rfl:k=l.length:=oQ;go_wp2;go_ret;exact⟨rfl,hS.1⟩
end evW
end Go.Proofs.YthaabihjeomipaaGreatDoor
