/- The document's side. -/
import Derived.Test.YtfiodnlgiglhfaaGreatDoorR3
namespace Go.Proofs.YtfiodnlgiglhfaaGreatDoor
set_option maxRecDepth 100000
set_option maxHeartbeats 16000000
open Go.RowKit Go.Deep
set_option linter.unusedVariables false
set_option linter.unusedSimpArgs false
def thD (S:List Td)(T:List Kd)(d:Ned):Bool:=d.tys.all fun n=>(calld S n d.at_ T).isSome
def alN (S:List Td)(T:List Kd)(d:Ned)(n:ByteArray):Bool:=decide ((calld S n d.at_ T).getD emp=(calld S (d.tys.headD emp) d.at_ T).getD emp)
def alD (S:List Td)(T:List Kd)(d:Ned):Bool:=d.tys.all (alN S T d)
theorem there_all (S:List Td)(T:List Kd)(N:List Ned):thereB S T N=N.all (thD S T):=rfl
theorem alike_all (S:List Td)(T:List Kd)(N:List Ned):alikeB S T N=N.all (alD S T):=rfl
theorem al_first (S:List Td)(T:List Kd)(d:Ned):(d.tys.take 1).all (alN S T d)=true:=by
 unfold alN;cases d.tys<;>simp
theorem ned_at {w:World}{F:Nat→Prop}{A:Option Addr}{c i:Nat}{N:List Ned}{d:Ned}(r:Rd w F (.slice A N.length c) (.sl N.length (N.flatMap nedD)))(hd:N[i]? =some d):∃b off A2 c2,A=some ⟨b,off,none⟩∧F b∧w.cell? ⟨b,off+i*2,none⟩=some (.slice A2 d.tys.length c2)∧w.cell? ⟨b,off+i*2+1,none⟩=some (.string d.at_)∧Rd w F (.slice A2 d.tys.length c2) (.sl d.tys.length (d.tys.flatMap strD)):=by
 obtain⟨b,off,rfl,hF,ha,hb⟩:=r.rowv (f:=nedD) (m:=2) (fun _=>rfl) hd (by omega);obtain⟨A2,c2,h1,h2⟩:=hb 0 _ _ rfl;exact⟨b,off,A2,c2,rfl,hF,h1,ha 1 _ rfl,h2⟩
namespace refW
open nmW ckW
theorem there_k (A A2 An:Option Addr)(c c2 cn:Nat)(F G H:Nat→Prop)(S:List Td)(T:List Kd)(N:List Ned)(hS:SzT S)(hT:T.length≤1048576)(hTf:∀k∈T,k.fs.length≤1048576)(hN:N.length≤33554432)(hNt:∀d∈N,d.tys.length≤1048576)(w:World)(hF:∀b,F b→b<w.heap.size)(hG:∀b,G b→b<w.heap.size)(hH:∀b,H b→b<w.heap.size)
  (r:Rd w F (.slice A S.length c) (.sl S.length (S.flatMap tdD)))(rt:Rd w G (.slice A2 T.length c2) (.sl T.length (T.flatMap kdD)))(rn:Rd w H (.slice An N.length cn) (.sl N.length (N.flatMap nedD))):
  Calls Tryz.prog 24 #[.agg ⟨[.slice A S.length c]⟩,.slice A2 T.length c2,.slice An N.length cn] w fun e w'=>e=.returned (.bool (thereB S T N))∧Bw w w':=by
 have hb0:=Blk.new w 24 [.slice A S.length c];have hB0:Bw w (w.alloc (.cells ⟨[.slice A S.length c]⟩ 24)):=bA;have kk:=fun n a W (hW:Bw w W)=>called_k A A2 c c2 F G S T n a hS hT hTf W (fun b h=>zF (hF b h) hW.size) (fun b h=>zF (hG b h) hW.size) (r.under hW hF) (rt.under hW hG)
 have kn:=fun(i:Nat) d (hd:N[i]? =some d)=>ned_at rn hd
 obtain⟨R0,hR0⟩:∃R,R=thereB S T N:=⟨_,rfl⟩
 rw[←hR0];rw[there_all]at hR0;replace hb0:=Hd hb0;replace hB0:=Hd hB0;replace kk:=Hd kk;replace kn:=Hd kn;replace hR0:=Hd hR0;replace hNt:=Hd hNt;replace hH:=Hd hH;clear r rt rn hS hF hG hTf;go_enter Tryz.func24,Tryz.ntmps24;go_wp2;go_loopw [7] (fun i wr=>∃j:Nat,j≤N.length∧i=.int .i64 j∧Bw w wr∧Blk wr w.heap.size 24 [.slice A S.length c]∧Hid ((N.take j).all (thD S T)=true)) (fun i _=>N.length- (intOf i).toNat)
 case atStart=>exact⟨0,zE _,rfl,hB0.out,hb0.out,rfl⟩
 case round=>
  clear hB0 hb0;obtain⟨i,hi,rfl,hB,hb,hp⟩:=hrel;by_cases hlt:i<N.length
  ·obtain⟨d,hd⟩:=getx hlt;obtain⟨gN,oN,At,ct,rfl,hHN,n0,n1,rx⟩:=kn.out i d hd;have hgN:=hH.out gN hHN;have hdl:=hNt.out d (zA hd);have g0:(0:Int)≤(i:Int):=by omega
   have g1:(i:Int)<N.length:=by omega
   have kc:=fun W (hW:Bw w W)=>xW ((hW.cell (p:=⟨gN,oN+i*2,none⟩) hgN).trans n0) (xW ((hW.cell (p:=⟨gN,oN+i*2+1,none⟩) hgN).trans n1) (rx.under hW hH.out))
   obtain⟨a0,a1,_⟩:=kc wr hB;have hno:thD S T d=false→R0=false:=fun h=>by rw[hR0.out];exact all_fail hd h
   have hyes:thD S T d=true→Hid ((N.take (i+1)).all (thD S T)=true):=fun h=>all_next hd hp.out h
   replace kc:=Hd kc;replace hno:=Hd hno;replace hyes:=Hd hyes;replace hd:=Hd hd;replace rx:=Hd rx;have hBH:=Hd hB;have hbH:=Hd hb;clear n0 n1 hB hb;obtain⟨wo,hwo⟩:∃wo:World,wo=wr:=⟨_,rfl⟩
   subst hwo;go_wp2;clear a0 a1;go_loopw [8] (fun i wr=>∃k:Nat,k≤d.tys.length∧i=.int .i64 k∧Bw w wr∧Blk wr w.heap.size 24 [.slice A S.length c]∧Hid ((d.tys.take k).all (fun n=>(calld S n d.at_ T).isSome)=true)) (fun i _=>d.tys.length- (intOf i).toNat)
   case atStart=>exact⟨0,zE _,rfl,hBH.out,hbH.out,rfl⟩
   case round=>
    clear hBH hbH;obtain⟨k,hk,rfl,hB,hb,hp2⟩:=hrel;obtain⟨a0,a1,rd⟩:=kc.out wr hB;by_cases hltk:k<d.tys.length
    ·obtain⟨n,hn⟩:=getx hltk;obtain⟨gT,oT,rfl,hHT,t0⟩:=str_at rd hn;have hgT:=hH.out gT hHT;have p0:(0:Int)≤(k:Int):=by omega
     have p1:(k:Int)<d.tys.length:=(by omega);have kS:=fun W (hW:Bw wr W)=>xW ((hb.stay hW).cell 0) (xW (kc.out W (hB.trans (hW.mono hB.size))).1 (xW (kc.out W (hB.trans (hW.mono hB.size))).2.1 (((hW.mono hB.size).cell (p:=⟨gT,oT+k,none⟩) hgT).trans t0)))
     have hSS:=xW (kS wr.drew (bR).drew) trivial;have kkn:=kk.out n d.at_ wr.drew hB.drew;have hn0:(calld S n d.at_ T)=none→R0=false:=fun h=>hno.out (all_fail hn (by rw[h];rfl))
     have hy0:∀x,(calld S n d.at_ T)=some x→Hid ((d.tys.take (k+1)).all (fun n=>(calld S n d.at_ T).isSome)=true):=fun x h=>all_next hn hp2.out (by rw[h];rfl)
     generalize calld S n d.at_ T=o at kkn hn0 hy0;replace kkn:=Hd kkn;replace hn0:=Hd hn0;replace hy0:=Hd hy0;replace kS:=Hd kS;replace hn:=Hd hn;replace rd:=Hd rd;replace hB:=Hd hB;replace hb:=Hd hb;go_upto_region 7 with fail
     clear a0 a1 t0;refine G_region (p:=100) (S0:=fun W=>W.cell? ⟨w.heap.size,0,none⟩=some (.slice A S.length c)∧W.cell? ⟨gN,oN+i*2,none⟩=some (.slice (some ⟨gT,oT,none⟩) d.tys.length ct)∧W.cell? ⟨gN,oN+i*2+1,none⟩=some (.string d.at_)∧W.cell? ⟨gT,oT+k,none⟩=some (.string n)) (S1:=fun _=>True) (by kernel_rfl) ?_;refine' TkA 0 rfl hSS ?_;refine' TkA 1 rfl hSS ?_;refine' TkA 2 rfl hSS ?_;refine' TkA 3 rfl hSS ?_;refine' TkA 4 rfl hSS ?_;refine' TkA 5 rfl hSS ?_;refine' TkA 6 rfl hSS ?_;refine' TkA 7 rfl hSS ?_;refine' TkA 8 rfl hSS ?_;refine' TkA 9 rfl hSS ?_;refine' TkA 10 rfl hSS ?_;refine' TkA 11 rfl hSS ?_;refine' TkA 12 rfl hSS ?_;refine' TkA 13 rfl hSS ?_;refine' TkA 14 rfl hSS ?_;try simp only[Act.put,TkS]
     refine Gs 15 rfl fun K hK=>?_
     go_simp;go_at_call 57;refine(kkn.out).mono ?_;rintro e W4 ⟨rfl,hBW4⟩;have hUW4:=Hd ((zB wr.heap.size wr).drew.trans hBW4);refine hK.out _ _ ⟨kS.out W4 (hUW4.out),fun _=>trivial⟩ ?_;have hST:=xW (kS.out W4 (hUW4.out)) trivial;clear hK K hSS hBW4;refine' TkA 16 rfl hST ?_;refine' TkA 17 rfl hST ?_;refine' TkA 18 rfl hST ?_;try simp only[Act.put,TkS]
     refine Gs 19 rfl fun K hK=>?_
     go_simp;refine hK.out _ _ ⟨hST.1,fun _=>trivial⟩ ?_;clear hK K;refine Gs 20 rfl fun K hK=>?_
     go_simp;refine hK.out _ _ ⟨hST.1,fun _=>trivial⟩ ?_;clear hK K;clear hST;refine Gd _ ?_;have hB5:=Hd (hB.out.trans (hUW4.out.mono hB.out.size));have hb5:=Hd (hb.out.stay hUW4.out);cases o with
     |none=>
      have hfin:=hn0.out rfl;subst hfin;go_wp2;go_ret;exact⟨rfl,hB5.out⟩
     |some x=>
      have hgo:=hy0.out x rfl;go_wp2;go_roundw
      case rel=>exact⟨k+1,by omega,by go_num,hB5.out,hb5.out,hgo⟩
      case measure=>simp[intOf];omega
    ·obtain rfl:k=d.tys.length:=by omega
     have hgo:=hyes.out (all_end hp2.out);replace rd:=Hd rd;go_wp2;go_roundw
     case rel=>exact⟨i+1,by omega,by go_num,hB,hb,hgo⟩
     case measure=>simp[intOf];omega
  ·obtain rfl:i=N.length:=by omega
   have hfin:R0=true:=by rw[hR0.out];exact all_end hp.out
   subst hfin;go_wp2;go_ret;exact⟨rfl,hB⟩
theorem alike_k (A A2 An:Option Addr)(c c2 cn:Nat)(F G H:Nat→Prop)(S:List Td)(T:List Kd)(N:List Ned)(hS:SzT S)(hT:T.length≤1048576)(hTf:∀k∈T,k.fs.length≤1048576)(hN:N.length≤33554432)(hNt:∀d∈N,d.tys.length≤1048576)(w:World)(hF:∀b,F b→b<w.heap.size)(hG:∀b,G b→b<w.heap.size)(hH:∀b,H b→b<w.heap.size)
  (r:Rd w F (.slice A S.length c) (.sl S.length (S.flatMap tdD)))(rt:Rd w G (.slice A2 T.length c2) (.sl T.length (T.flatMap kdD)))(rn:Rd w H (.slice An N.length cn) (.sl N.length (N.flatMap nedD))):
  Calls Tryz.prog 25 #[.agg ⟨[.slice A S.length c]⟩,.slice A2 T.length c2,.slice An N.length cn] w fun e w'=>e=.returned (.bool (alikeB S T N))∧Bw w w':=by
 have hb0:=Blk.new w 24 [.slice A S.length c];have hB0:Bw w (w.alloc (.cells ⟨[.slice A S.length c]⟩ 24)):=bA;have kk:=fun n a W (hW:Bw w W)=>called_k A A2 c c2 F G S T n a hS hT hTf W (fun b h=>zF (hF b h) hW.size) (fun b h=>zF (hG b h) hW.size) (r.under hW hF) (rt.under hW hG)
 have kn:=fun(i:Nat) d (hd:N[i]? =some d)=>ned_at rn hd
 obtain⟨R0,hR0⟩:∃R,R=alikeB S T N:=⟨_,rfl⟩
 rw[←hR0];rw[alike_all]at hR0;replace hb0:=Hd hb0;replace hB0:=Hd hB0;replace kk:=Hd kk;replace kn:=Hd kn;replace hR0:=Hd hR0;replace hNt:=Hd hNt;replace hH:=Hd hH;clear r rt rn hS hF hG hTf;go_enter Tryz.func25,Tryz.ntmps25;go_wp2;go_loopw [7] (fun i wr=>∃j:Nat,j≤N.length∧i=.int .i64 j∧Bw w wr∧Blk wr w.heap.size 24 [.slice A S.length c]∧Hid ((N.take j).all (alD S T)=true)) (fun i _=>N.length- (intOf i).toNat)
 case atStart=>exact⟨0,zE _,rfl,hB0.out,hb0.out,rfl⟩
 case round=>
  clear hB0 hb0;obtain⟨i,hi,rfl,hB,hb,hp⟩:=hrel;by_cases hlt:i<N.length
  ·obtain⟨d,hd⟩:=getx hlt;obtain⟨gN,oN,At,ct,rfl,hHN,n0,n1,rx⟩:=kn.out i d hd;have hgN:=hH.out gN hHN;have hdl:=hNt.out d (zA hd);have g0:(0:Int)≤(i:Int):=by omega
   have g1:(i:Int)<N.length:=by omega
   have kc:=fun W (hW:Bw w W)=>xW ((hW.cell (p:=⟨gN,oN+i*2,none⟩) hgN).trans n0) (xW ((hW.cell (p:=⟨gN,oN+i*2+1,none⟩) hgN).trans n1) (rx.under hW hH.out))
   obtain⟨a0,a1,_⟩:=kc wr hB;have hno:alD S T d=false→R0=false:=fun h=>by rw[hR0.out];exact all_fail hd h
   have hyes:alD S T d=true→Hid ((N.take (i+1)).all (alD S T)=true):=fun h=>all_next hd hp.out h
   replace kc:=Hd kc;replace hno:=Hd hno;replace hyes:=Hd hyes;replace hd:=Hd hd;replace rx:=Hd rx;have hBH:=Hd hB;have hbH:=Hd hb;clear n0 n1 hB hb;obtain⟨wo,hwo⟩:∃wo:World,wo=wr:=⟨_,rfl⟩
   subst hwo;go_wp2;clear a0 a1;go_loopw [8] (fun i wr=>∃k:Nat,1≤k∧k≤1048577∧i=.int .i64 k∧Bw w wr∧Blk wr w.heap.size 24 [.slice A S.length c]∧Hid ((d.tys.take k).all (alN S T d)=true)) (fun i _=>d.tys.length- (intOf i).toNat)
   case atStart=>exact⟨1,nR,by omega,rfl,hBH.out,hbH.out,al_first S T d⟩
   case round=>
    clear hBH hbH;obtain⟨k,hk1,hk2,rfl,hB,hb,hp2⟩:=hrel;obtain⟨a0,a1,rd⟩:=kc.out wr hB;by_cases hltk:k<d.tys.length
    ·obtain⟨n,hn⟩:=getx hltk;obtain⟨m,hm⟩:=getx (l:=d.tys) (i:=0) (by omega);obtain⟨gT,oT,rfl,hHT,t0⟩:=str_at rd hn;obtain⟨gT',oT',eT,_,t1⟩:=str_at rd hm;injection eT with eT
     injection eT with eT1 eT2
     subst eT1 eT2;rw[Nat.add_zero]at t1;have hgT:=hH.out gT hHT;have p0:(0:Int)≤(k:Int):=by omega
     have p1:(k:Int)<d.tys.length:=(by omega);have p2:0<d.tys.length:=by omega
     have kS:=fun W (hW:Bw wr W)=>xW ((hb.stay hW).cell 0) (xW (kc.out W (hB.trans (hW.mono hB.size))).1 (xW (kc.out W (hB.trans (hW.mono hB.size))).2.1 (xW (((hW.mono hB.size).cell (p:=⟨gT,oT,none⟩) hgT).trans t1) (((hW.mono hB.size).cell (p:=⟨gT,oT+k,none⟩) hgT).trans t0))))
     have hSS:=xW (kS wr.drew (bR).drew) trivial;have kkn:=fun W (hW:Bw w W)=>kk.out n d.at_ W hW
     have kkm:=kk.out m d.at_ wr.drew hB.drew;have hhd:d.tys.headD emp=m:=by
      cases hd2:d.tys with
      |nil=>rw[hd2]at hm;cases hm
      |cons a r=>rw[hd2]at hm;injection hm
     have hn0:(calld S n d.at_ T).getD emp≠(calld S m d.at_ T).getD emp→R0=false:=fun h=>hno.out (all_fail hn (by unfold alN;rw[hhd];exact zV h))
     have hy0:(calld S n d.at_ T).getD emp=(calld S m d.at_ T).getD emp→Hid ((d.tys.take (k+1)).all (alN S T d)=true):=fun h=>all_next hn hp2.out (by unfold alN;rw[hhd];exact zW h)
     generalize calld S n d.at_ T=o at kkn hn0 hy0;generalize calld S m d.at_ T=o2 at kkm hn0 hy0;replace kkn:=Hd kkn;replace kkm:=Hd kkm;replace hn0:=Hd hn0;replace hy0:=Hd hy0;replace kS:=Hd kS;replace hn:=Hd hn;replace hm:=Hd hm;replace hhd:=Hd hhd;replace rd:=Hd rd;replace hB:=Hd hB;replace hb:=Hd hb;go_upto_region 7 with fail
     clear a0 a1 t0 t1;refine G_region (p:=100) (S0:=fun W=>W.cell? ⟨w.heap.size,0,none⟩=some (.slice A S.length c)∧W.cell? ⟨gN,oN+i*2,none⟩=some (.slice (some ⟨gT,oT,none⟩) d.tys.length ct)∧W.cell? ⟨gN,oN+i*2+1,none⟩=some (.string d.at_)∧W.cell? ⟨gT,oT,none⟩=some (.string m)∧W.cell? ⟨gT,oT+k,none⟩=some (.string n)) (S1:=fun _=>True) (by kernel_rfl) ?_;refine' TkA 0 rfl hSS ?_;refine' TkA 1 rfl hSS ?_;refine' TkA 2 rfl hSS ?_;refine' TkA 3 rfl hSS ?_;refine' TkA 4 rfl hSS ?_;refine' TkA 5 rfl hSS ?_;refine' TkA 6 rfl hSS ?_;refine' TkA 7 rfl hSS ?_;refine' TkA 8 rfl hSS ?_;refine' TkA 9 rfl hSS ?_;refine' TkA 10 rfl hSS ?_;refine' TkA 11 rfl hSS ?_;refine' TkA 12 rfl hSS ?_;refine' TkA 13 rfl hSS ?_;try simp only[Act.put,TkS]
     refine Gs 14 rfl fun K hK=>?_
     go_simp;go_at_call 57;refine(kkm.out).mono ?_;rintro e W4 ⟨rfl,hBW4⟩;have hUW4:=Hd ((zB wr.heap.size wr).drew.trans hBW4);refine hK.out _ _ ⟨kS.out W4 (hUW4.out),fun _=>trivial⟩ ?_;have hST:=xW (kS.out W4 (hUW4.out)) trivial;clear hK K hSS hBW4;refine' TkA 15 rfl hST ?_;refine' TkA 16 rfl hST ?_;refine' TkA 17 rfl hST ?_;try simp only[Act.put,TkS]
     refine Gs 18 rfl fun K hK=>?_
     go_simp;refine hK.out _ _ ⟨hST.1,fun _=>trivial⟩ ?_;clear hK K;refine Gs 19 rfl fun K hK=>?_
     go_simp;refine hK.out _ _ ⟨hST.1,fun _=>trivial⟩ ?_;clear hK K;clear hST;refine Gd _ ?_;have hB4:=Hd (hB.out.trans (hUW4.out.mono hB.out.size));obtain⟨b0,b1,b2,b3,b4⟩:=kS.out W4 hUW4.out;have kS4:=fun W (hW:Bw W4 W)=>hUW4.out.trans (hW.mono hUW4.out.size)
     replace kS4:=Hd kS4;go_upto_region 8 with fail
     have hSR:=xW (kS.out W4.drew (kS4.out _ (bR).drew)) trivial;clear b0 b1 b2 b3 b4;refine G_region (p:=100) (S0:=fun W=>W.cell? ⟨w.heap.size,0,none⟩=some (.slice A S.length c)∧W.cell? ⟨gN,oN+i*2,none⟩=some (.slice (some ⟨gT,oT,none⟩) d.tys.length ct)∧W.cell? ⟨gN,oN+i*2+1,none⟩=some (.string d.at_)∧W.cell? ⟨gT,oT,none⟩=some (.string m)∧W.cell? ⟨gT,oT+k,none⟩=some (.string n)) (S1:=fun _=>True) (by kernel_rfl) ?_;refine' TkA 0 rfl hSR ?_;refine' TkA 1 rfl hSR ?_;refine' TkA 2 rfl hSR ?_;refine' TkA 3 rfl hSR ?_;refine' TkA 4 rfl hSR ?_;refine' TkA 5 rfl hSR ?_;refine' TkA 6 rfl hSR ?_;refine' TkA 7 rfl hSR ?_;refine' TkA 8 rfl hSR ?_;refine' TkA 9 rfl hSR ?_;refine' TkA 10 rfl hSR ?_;refine' TkA 11 rfl hSR ?_;refine' TkA 12 rfl hSR ?_;refine' TkA 13 rfl hSR ?_;refine' TkA 14 rfl hSR ?_;try simp only[Act.put,TkS]
     refine Gs 15 rfl fun K hK=>?_
     go_simp;go_at_call 57;refine(kkn.out W4.drew hB4.out.drew).mono ?_;rintro e W5 ⟨rfl,hBW5⟩;have hUW5:=Hd ((zB W4.heap.size W4).drew.trans hBW5);refine hK.out _ _ ⟨kS.out W5 (kS4.out _ hUW5.out),fun _=>trivial⟩ ?_;have hST:=xW (kS.out W5 (kS4.out _ hUW5.out)) trivial;clear hK K hSR hBW5;refine' TkA 16 rfl hST ?_;refine' TkA 17 rfl hST ?_;refine' TkA 18 rfl hST ?_;try simp only[Act.put,TkS]
     refine Gs 19 rfl fun K hK=>?_
     go_simp;refine hK.out _ _ ⟨hST.1,fun _=>trivial⟩ ?_;clear hK K;refine Gs 20 rfl fun K hK=>?_
     go_simp;refine hK.out _ _ ⟨hST.1,fun _=>trivial⟩ ?_;clear hK K;clear hST;refine Gd _ ?_;have hB5:=Hd (hB4.out.trans (hUW5.out.mono hB4.out.size));have hb5:=Hd ((hb.out.stay hUW4.out).stay hUW5.out);by_cases heq:o.getD emp=o2.getD emp
     ·have hgo:=hy0.out heq;have f1:((o2.getD emp).toList != (o.getD emp).toList)=false:=by rw[bne,bqb,zW heq.symm];rfl
      have f2:((o2.getD emp).toList==(o.getD emp).toList)=true:=(by rw[bqb,zW heq.symm]);replace heq:=Hd heq;go_wp2;go_roundw
      case rel=>exact⟨k+1,by omega,by omega,by go_num,hB5.out,hb5.out,hgo⟩
      case measure=>simp[intOf];omega
     ·have hfin:=hn0.out heq;have f1:((o2.getD emp).toList != (o.getD emp).toList)=true:=by rw[bne,bqb,zV (fun h=>heq h.symm)];rfl
      have f2:((o2.getD emp).toList==(o.getD emp).toList)=false:=(by rw[bqb,zV (fun h=>heq h.symm)]);replace heq:=Hd heq;subst hfin;go_wp2;go_ret;exact⟨rfl,hB5.out⟩
    ·have p1:¬(k:Int)<d.tys.length:=(by omega);have hgo:=hyes.out (by have:=hp2.out;rwa [xH (by omega)]at this);replace rd:=Hd rd;go_wp2;go_roundw
     case rel=>exact⟨i+1,by omega,by go_num,hB,hb,hgo⟩
     case measure=>simp[intOf];omega
  ·obtain rfl:i=N.length:=by omega
   have hfin:R0=true:=by rw[hR0.out];exact all_end hp.out
   subst hfin;go_wp2;go_ret;exact⟨rfl,hB⟩
end refW
structure TT (A:Option Addr)(c n:Nat)(q:Qy)(s:Sl3)(w wr:World)(v:Value)(L:List Nd):Prop where
 hb:Bw w wr
 b0:Blk wr w.heap.size 24 [.slice A n c]
 b1:Blk wr (w.heap.size+1) 32 (qV q s)
 ol:OL wr w.heap.size NoF 81 6 v L.length (L.flatMap ndD)
section
variable {A:Option Addr}{c n:Nat}{q:Qy}{s:Sl3}{w wr W w1:World}{v v':Value}{L:List Nd}
theorem TT.stay (h:TT A c n q s w wr v L)(hb:Bw wr W):TT A c n q s w W v L:=⟨h.hb.trans (hb.mono h.hb.size),h.b0.stay hb,h.b1.stay hb,h.ol.stay hb⟩
theorem TT.far {p:Addr}{x:Value}(h:TT A c n q s w wr v L)(hp:w.heap.size+1<p.block)(hv:v.ownBlock≠some p.block):TT A c n q s w (wr.setCell p x) v L:=
 ⟨h.hb.setCell (by omega) _,h.b0.far (by omega) _,h.b1.far (by omega) _,h.ol.setCell hv (fun h=>h) _⟩
theorem TT.app {x:Nd}(h:TT A c n q s w wr v L)(hg:wr.grownBy w1 v.ownBlock)(hO:OL w1 w.heap.size NoF 81 6 v' (L.length+1) (L.flatMap ndD++ndD x)):TT A c n q s w w1 v' (L++[x]):=by
 refine⟨h.hb.grown hg h.hb.size (fun q hq=>(h.ol.lt q hq).1),h.b0.grown hg (fun e=>h.ol.neBlk h.b0 (by decide) e.symm),h.b1.grown hg (fun e=>h.ol.neBlk h.b1 (by decide) e.symm),?_⟩;rw[zH,xD];simpa using hO
end
theorem nd_rdl (w:World)(G:Nat→Prop)(x:Nd):RdL w G (ndV x) (ndD x):=⟨.v _ rfl,.v _ rfl,.v _ rfl,.v _ rfl,.v _ rfl,.v _ rfl,trivial⟩
theorem turnN_no {S:List Td}{T:List Kd}{q:Qy}{x:Nd}(h:x.at_=emp∨x.at_=tsB∨∀(i:Nat) y,q.items[i]? =some y→y.v≠x.v):turnN S T q x=x:=by
 unfold turnN;by_cases h1:x.at_=emp∨x.at_=tsB
 ·rw[if_pos h1]
 ·rw[if_neg h1];have h2:∀(i:Nat) y,q.items[i]? =some y→y.v≠x.v:=by
   rcases h with h |h |h
   ·exact absurd (.inl h) h1
   ·exact absurd (.inr h) h1
   ·exact h
  rw[fi_no (fi_none fun i y hy _=>zV (h2 i y hy))]
theorem turnN_at {S:List Td}{T:List Kd}{q:Qy}{x:Nd}{k:Nat}{it:It}(h1:x.at_≠emp)(h2:x.at_≠tsB)(hi:q.items[k]? =some it)(hv:it.v=x.v)(hp:∀(i:Nat) y,q.items[i]? =some y→i<k→y.v≠x.v):turnN S T q x={x with at_:=(calld S (it.tys.headD emp) x.at_ T).getD emp}:=by
 unfold turnN;rw[if_neg (fun h=>h.elim h1 h2),find_at hi (zW hv) (fun i y hy hik=>zV (hp i y hy hik))];rfl
namespace refW
open nmW ckW
theorem turnedTree_k (A At Ax:Option Addr)(c ct cx:Nat)(F G H:Nat→Prop)(S:List Td)(T:List Kd)(q:Qy)(s:Sl3)(t:List Nd)(hS:SzT S)(hT:T.length≤1048576)(hTf:∀k∈T,k.fs.length≤1048576)(hs:SzQ q)(hty:∀x∈q.items,0<x.tys.length)(hl:t.length≤1048576)(w:World)(hG:∀b,G b→b<w.heap.size)(hH:∀b,H b→b<w.heap.size)
  (r:Rd w F (.slice A S.length c) (.sl S.length (S.flatMap tdD)))(rt:Rd w G (.slice At T.length ct) (.sl T.length (T.flatMap kdD)))(R:QR w F q s)(rx:Rd w H (.slice Ax t.length cx) (.sl t.length (t.flatMap ndD))):
  Calls Tryz.prog 58 #[.agg ⟨[.slice A S.length c]⟩,.slice At T.length ct,.agg ⟨qV q s⟩,.slice Ax t.length cx] w (TrPost (t.map (turnN S T q)) w):=by
 have h0:TT A c S.length q s w ((w.alloc (.cells ⟨[.slice A S.length c]⟩ 24)).alloc (.cells ⟨qV q s⟩ 32)) (.slice none 0 0) []:=⟨(bA).alloc (by simp) _,(Blk.new _ _ _).alloc _,Blk.new' (by simp),.nil _ _ _ _ _⟩;have hF:=R.lt;have kit:=fun(i:Nat) it (hi:q.items[i]? =some it)=>it_at R.r1 hi
 have knd:=fun(i:Nat) x (hi:t[i]? =some x)=>nd_at rx hi
 have kk:=fun n a W (hW:Bw w W)=>called_k A At c ct F G S T n a hS hT hTf W (fun b h=>zF (hF b h) hW.size) (fun b h=>zF (hG b h) hW.size) (r.under hW hF) (rt.under hW hG)
 have hil:=hs.il;obtain⟨R0,hR0⟩:∃R,R=t.map (turnN S T q):=⟨_,rfl⟩
 rw[←hR0];obtain⟨A1,c1,A2,c2,A3,c3⟩:=s;simp only[qV]at h0 ⊢;try simp only at kit
 replace h0:=Hd h0;replace hF:=Hd hF;replace hH:=Hd hH;replace kit:=Hd kit;replace knd:=Hd knd;replace kk:=Hd kk;replace hR0:=Hd hR0;replace hty:=Hd hty;clear R rx r rt hS hTf hs hG;go_enter Tryz.func58,Tryz.ntmps58;go_wp2;go_loopw [9,10] (fun v i wr=>∃j:Nat,j≤t.length∧i=.int .i64 j∧TT A c S.length q ⟨A1,c1,A2,c2,A3,c3⟩ w wr v ((t.take j).map (turnN S T q))) (fun _ i _=>t.length- (intOf i).toNat)
 case atStart=>exact⟨0,zE _,rfl,h0.out⟩
 case round=>
  clear h0;obtain⟨j,hj,rfl,hI⟩:=hrel;obtain⟨Ao,co,rfl⟩:=hI.ol.form;have hbs:=hI.b1.lt;by_cases hlt:j<t.length
  ·obtain⟨x,hx⟩:=getx hlt;obtain⟨gN,oN,rfl,hHN,n0,n1,n2,n3,n4,n5⟩:=knd.out j x hx;have hgN:=hH.out gN hHN;have a0:=(hI.hb.cell (p:=⟨gN,oN+j*6,none⟩) hgN).trans n0;have a1:=(hI.hb.cell (p:=⟨gN,oN+j*6+1,none⟩) hgN).trans n1;have a2:=(hI.hb.cell (p:=⟨gN,oN+j*6+2,none⟩) hgN).trans n2;have a3:=(hI.hb.cell (p:=⟨gN,oN+j*6+3,none⟩) hgN).trans n3;have a4:=(hI.hb.cell (p:=⟨gN,oN+j*6+4,none⟩) hgN).trans n4;have a5:=(hI.hb.cell (p:=⟨gN,oN+j*6+5,none⟩) hgN).trans n5;have g0:(0:Int)≤(j:Int):=by omega
   have g1:(j:Int)<t.length:=by omega
   have htk:(t.take (j+1)).map (turnN S T q)=(t.take j).map (turnN S T q)++[turnN S T q x]:=by rw[zJ,hx,xR];rfl
   have hlen:((t.take j).map (turnN S T q)).length=j:=by rw[xC,zO];omega
   have hWn:Bw wr (wr.alloc (.cells ⟨ndV x⟩ 81)):=bA;have hIn:=hI.stay hWn;have hbn:=Blk.new wr 81 (ndV x);have hvo:(Value.slice Ao ((t.take j).map (turnN S T q)).length co).ownBlock≠some wr.heap.size:=fun e=>by have:=(hI.ol.lt _ e).2;omega
   obtain⟨L0,hL0⟩:∃L0,L0=(t.take j).map (turnN S T q):=⟨_,rfl⟩
   rw[←hL0]at hIn hvo hlen htk ⊢;obtain⟨wo,hwo⟩:∃wo:World,wo=wr:=⟨_,rfl⟩
   subst hwo;obtain⟨W0,hW0⟩:∃W0,W0=wo.alloc (.cells ⟨ndV x⟩ 81):=⟨_,rfl⟩
   rw[←hW0]at hIn hbn;simp only[ndV]at hW0;have hWW:=Hd hW0;have hl0:L0.length≤1048576:=by omega
   replace hIn:=Hd hIn;replace hbn:=Hd hbn;replace hvo:=Hd hvo;replace hL0:=Hd hL0;replace htk:=Hd htk;replace hlen:=Hd hlen;replace hx:=Hd hx;clear n0 n1 n2 n3 n4 n5 hI hWn hW0;go_upto_block 2 with fail
   rw[←hWW.out];clear a0 a1 a2 a3 a4 a5;go_cut [12] (fun kk wx=>TT A c S.length q ⟨A1,c1,A2,c2,A3,c3⟩ w wx (.slice Ao L0.length co) L0∧Blk wx wo.heap.size 81 (ndV (turnN S T q x)))
   case first=>
    obtain⟨be,hbe⟩:∃b,b=decide (x.at_=emp):=⟨_,rfl⟩
    obtain⟨bt,hbt⟩:∃b,b=decide (x.at_=tsB):=⟨_,rfl⟩
    have e1:(x.at_.toList==([]:List UInt8))=be:=(by rw[emp_eq,hbe]);have e2:(x.at_.toList != ([]:List UInt8))= !be:=by rw[bne,e1]
    have e3:x.at_.toList.isEmpty=be:=by
     rw[←e1];cases x.at_.toList<;>rfl
    have e4:(x.at_.toList== [116,115])=bt:=by
     rw[hbt];by_cases h:x.at_=tsB
     ·rw[ts_true h,zW h]
     ·rw[ts_false h,zV h]
    have e5:(x.at_.toList != [116,115])= !bt:=(by rw[bne,e4]);replace hbe:=Hd hbe;replace hbt:=Hd hbt;go_wp2;go_loopw [12] (fun i wr=>∃k:Nat,k≤q.items.length∧i=.int .i64 k∧TT A c S.length q ⟨A1,c1,A2,c2,A3,c3⟩ w wr (.slice Ao L0.length co) L0∧Blk wr wo.heap.size 81 (ndV x)∧Hid (be=true∨bt=true∨∀(i:Nat) y,q.items[i]? =some y→i<k→y.v≠x.v)) (fun i _=>q.items.length- (intOf i).toNat)
    case atStart=>exact⟨0,zE _,rfl,hIn.out,hbn.out,.inr (.inr fun i y hy hi=>by omega)⟩
    case round=>
     clear hIn hbn;obtain⟨k,hk,rfl,hI,hb,hp⟩:=hrel;have y0:wr.cell? ⟨w.heap.size+1,0,none⟩=some (.slice A1 q.items.length c1):=hI.b1.cell 0;have z2:wr.cell? ⟨wo.heap.size,2,none⟩=some (.string x.v):=hb.cell 2;have z3:wr.cell? ⟨wo.heap.size,3,none⟩=some (.string x.at_):=hb.cell 3;have hbl:=hb.lt;by_cases hltk:k<q.items.length
     ·obtain⟨it,hi⟩:=getx hltk;have him:=zA hi;obtain⟨gI,oI,A5,c5,eI,hFI,rxi,i0,i1,i2,i3,i4⟩:=kit.out k it hi;try simp only at eI
      subst eI;have hgI:=hF.out gI hFI;have ki:=fun W (hW:Bw w W)=>xW ((hW.cell (p:=⟨gI,oI+k*5+1,none⟩) hgI).trans i1) (xW ((hW.cell (p:=⟨gI,oI+k*5+2,none⟩) hgI).trans i2) (rxi.under hW hF.out))
      obtain⟨b1,b2,_⟩:=ki wr hI.hb;have p0:(0:Int)≤(k:Int):=by omega
      have p1:(k:Int)<q.items.length:=(by omega);obtain⟨bv,hbv⟩:∃b,b=(it.v.toList==x.v.toList):=⟨_,rfl⟩
      have hbv2:bv=decide (it.v=x.v):=(by rw[hbv,bqb]);replace hbv:=hbv.symm;have hnext:(!be&&(!bt&&bv))=false→Hid (be=true∨bt=true∨∀(i:Nat) y,q.items[i]? =some y→i<k+1→y.v≠x.v):=fun h=>by
       cases be with
       |true=>exact .inl rfl
       |false=>
        cases bt with
        |true=>exact .inr (.inl rfl)
        |false=>
         cases bv with
         |true=>cases h
         |false=>
          refine .inr (.inr fun i y hy hi2=>?_);by_cases e:i=k
          ·subst e;rw[hi]at hy;injection hy with hy;subst hy;exact of_decide_eq_false hbv2.symm
          ·rcases hp.out with h |h |h
           ·cases h
           ·cases h
           ·exact h i y hy (by omega)
      have hturn:(!be&&(!bt&&bv))=true→turnN S T q x={x with at_:=(calld S (it.tys.headD emp) x.at_ T).getD emp}:=fun h=>by
       cases be with
       |true=>cases h
       |false=>
        cases bt with
        |true=>cases h
        |false=>
         cases bv with
         |false=>cases h
         |true=>
          refine turnN_at (of_decide_eq_false hbe.out.symm) (of_decide_eq_false hbt.out.symm) hi (of_decide_eq_true hbv2.symm) fun i y hy hi2=>?_
          rcases hp.out with h |h |h
          ·cases h
          ·cases h
          ·exact h i y hy hi2
      have hIb:Hid (TT A c S.length q ⟨some ⟨gI,oI,none⟩,c1,A2,c2,A3,c3⟩ w wr (.slice Ao L0.length co) L0∧Blk wr wo.heap.size 81 (ndV x)):=⟨hI,hb⟩;replace hnext:=Hd hnext;replace hturn:=Hd hturn;replace ki:=Hd ki;replace hi:=Hd hi;replace him:=Hd him;replace rxi:=Hd rxi;replace hbv2:=Hd hbv2;replace hp:=Hd hp;clear i0 i1 i2 i3 i4 hI hb;go_upto_region 9 with fail
      go_cut [50] (fun v wx=>v=.bool (!be&&(!bt&&bv))∧TT A c S.length q ⟨some ⟨gI,oI,none⟩,c1,A2,c2,A3,c3⟩ w wx (.slice Ao L0.length co) L0∧Blk wx wo.heap.size 81 (ndV x))
      case first=>
       cases be with
       |true=>
        go_quiet (fail);go_wp2
        all_goals(go_meet;exact⟨rfl,hIb.out.1.stay (below_drewN bR _),hIb.out.2.stay (below_drewN bR _)⟩)
       |false=>
        cases bt with
        |true=>
         go_quiet (fail);go_wp2
         all_goals(go_meet;exact⟨rfl,hIb.out.1.stay (below_drewN bR _),hIb.out.2.stay (below_drewN bR _)⟩)
        |false=>
         go_quiet (fail);go_wp2
         all_goals(go_meet;exact⟨by simp,hIb.out.1.stay (below_drewN bR _),hIb.out.2.stay (below_drewN bR _)⟩)
      case rest=>
      obtain⟨rfl,hI,hb⟩:=hcut;clear hIb y0 z2 z3 b1 b2 hbv e1 e2 e3 e4 e5 hbl;generalize hmb:(!be&&(!bt&&bv))=mb at*;replace hmb:=Hd hmb;cases mb with
      |false=>
       have hgo:=hnext.out rfl;go_wp2;go_roundw
       case rel=>exact⟨k+1,by omega,by go_num,hI,hb,hgo⟩
       case measure=>simp[intOf];omega
      |true=>
       have htn:=hturn.out rfl;have hty0:=hty.out it him.out;obtain⟨b1,b2,rxc⟩:=ki.out wc hI.hb;obtain⟨n,hn⟩:=getx (l:=it.tys) (i:=0) hty0;obtain⟨gT,oT,rfl,hFT,t0⟩:=str_at rxc hn;rw[Nat.add_zero]at t0;have hgT:=hF.out gT hFT;have hws:=hI.hb.size;have kS:=fun W (hW:Bw wc W)=>xW ((hI.b0.stay hW).cell 0) (xW ((hI.b1.stay hW).cell 0) (xW (ki.out W (hI.hb.trans (hW.mono hI.hb.size))).1 (xW ((hW.cell (p:=⟨gT,oT,none⟩) (by show gT<_;omega)).trans t0) ((hb.stay hW).cell 3))))
       have hSS:=xW (kS wc.drew (bR).drew) trivial;have kkn:=kk.out n x.at_ wc.drew hI.hb.drew;have hhd:it.tys.headD emp=n:=by
        cases hd2:it.tys with
        |nil=>rw[hd2]at hn;cases hn
        |cons a r=>rw[hd2]at hn;injection hn
       rw[hhd]at htn;generalize calld S n x.at_ T=o at kkn htn;replace kkn:=Hd kkn;replace htn:=Hd htn;replace kS:=Hd kS;replace hn:=Hd hn;replace hhd:=Hd hhd;replace rxc:=Hd rxc;replace hI:=Hd hI;replace hb:=Hd hb;clear hnext hturn;go_upto_region 10 with fail
       clear b1 b2 t0;refine G_region (p:=100) (S0:=fun W=>W.cell? ⟨w.heap.size,0,none⟩=some (.slice A S.length c)∧W.cell? ⟨w.heap.size+1,0,none⟩=some (.slice (some ⟨gI,oI,none⟩) q.items.length c1)∧W.cell? ⟨gI,oI+k*5+1,none⟩=some (.slice (some ⟨gT,oT,none⟩) it.tys.length c5)∧W.cell? ⟨gT,oT,none⟩=some (.string n)∧W.cell? ⟨wo.heap.size,3,none⟩=some (.string x.at_)) (S1:=fun _=>True) (by kernel_rfl) ?_;refine' TkA 0 rfl hSS ?_;refine' TkA 1 rfl hSS ?_;refine' TkA 2 rfl hSS ?_;refine' TkA 3 rfl hSS ?_;refine' TkA 4 rfl hSS ?_;refine' TkA 5 rfl hSS ?_;refine' TkA 6 rfl hSS ?_;refine' TkA 7 rfl hSS ?_;refine' TkA 8 rfl hSS ?_;refine' TkA 9 rfl hSS ?_;refine' TkA 10 rfl hSS ?_;refine' TkA 11 rfl hSS ?_;try simp only[Act.put,TkS]
       refine Gs 12 rfl fun K hK=>?_
       go_simp;go_at_call 57;refine(kkn.out).mono ?_;rintro e W4 ⟨rfl,hBW4⟩;have hUW4:=Hd ((zB wc.heap.size wc).drew.trans hBW4);refine hK.out _ _ ⟨kS.out W4 hUW4.out,fun _=>trivial⟩ ?_;have hST:=xW (kS.out W4 hUW4.out) trivial;clear hK K hSS hBW4;refine' TkA 13 rfl hST ?_;refine' TkA 14 rfl hST ?_;refine' TkA 15 rfl hST ?_;try simp only[Act.put,TkS]
       refine Gs 16 rfl fun K hK=>?_
       go_simp;refine hK.out _ _ ⟨hST.1,fun _=>trivial⟩ ?_;clear hK K;refine Gs 17 rfl fun K hK=>?_
       go_simp;refine hK.out _ _ ⟨hST.1,fun _=>trivial⟩ ?_;clear hK K;clear hST;refine Gd _ ?_;have hI4:=Hd (hI.out.stay hUW4.out);have hb4:=Hd (hb.out.stay hUW4.out);have z3:W4.cell? ⟨wo.heap.size,3,none⟩=some (.string x.at_):=hb4.out.cell 3;have z4:=hb4.out.frozen 3;go_wp2
       all_goals(go_meet;exact⟨TT.far hI4.out (by show _<wo.heap.size;exact hbs) hvo.out,by rw[htn.out];exact hb4.out.set_ 3 _⟩)
     ·obtain rfl:k=q.items.length:=by omega
      have htn:turnN S T q x=x:=turnN_no (by
       rcases hp.out with h |h |h
       ·exact .inl (of_decide_eq_true (by rw[←hbe.out];exact h))
       ·exact .inr (.inl (of_decide_eq_true (by rw[←hbt.out];exact h)))
       ·exact .inr (.inr fun i y hy=>h i y hy (zC.1 hy).1))
      rw[←htn]at hb;replace htn:=Hd htn;replace hI:=Hd hI;replace hb:=Hd hb;replace hp:=Hd hp;go_wp2
      all_goals(go_meet;exact⟨hI.out,hb.out⟩)
   case rest=>
   obtain⟨hI,hb⟩:=hcut;clear hIn hbn;obtain⟨y,hy⟩:∃y,y=turnN S T q x:=⟨_,rfl⟩
   replace htk:=htk.out;rw[←hy]at hb htk;replace htk:=Hd htk;replace hy:=Hd hy;have c0:wc.cell? ⟨wo.heap.size,0,none⟩=some (.int .i64 y.op):=hb.cell 0;have c1':wc.cell? ⟨wo.heap.size,1,none⟩=some (.int .i64 y.n):=hb.cell 1;have c2':wc.cell? ⟨wo.heap.size,2,none⟩=some (.string y.v):=hb.cell 2;have c3':wc.cell? ⟨wo.heap.size,3,none⟩=some (.string y.at_):=hb.cell 3;have c4':wc.cell? ⟨wo.heap.size,4,none⟩=some (.int .i64 y.a):=hb.cell 4;have c5':wc.cell? ⟨wo.heap.size,5,none⟩=some (.int .i64 y.b):=hb.cell 5;have hIc:=Hd (hI.stay ((zB wc.heap.size wc).alloc nR (.cells ⟨ndV y⟩ 81)));have hws:=hI.hb.size;simp only[ndV]at hIc;clear hI hb;go_wp2_with (at_builtin;refine wpa rfl (.tmp 69) (.tmp 71) _ rfl (m:=1) (news:=ndD y) elNd hIc.out.ol rfl rfl (Src.lit (nd_rdl wc _ y)) rfl (by omega) (by omega) (by simp;omega) ?_;intro v' w1 hO1 hg1 ha1;obtain⟨B3,d3,rfl⟩:=hO1.form;have hI1:=Hd (hIc.out.app hg1 hO1);clear hO1 hg1 ha1);go_roundw
   case rel=>exact⟨j+1,by omega,by go_num,by rw[htk.out];exact hI1.out⟩
   case measure=>simp[intOf];omega
  ·obtain rfl:j=t.length:=by omega
   rw[zL]at hI;have hfin:Hid (t.map (turnN S T q)=R0):=hR0.out.symm;replace hI:=Hd hI;go_wp2;go_ret;exact⟨_,rfl,by rw[←hfin.out];simpa using hI.out.ol,hI.out.hb⟩
end refW
end Go.Proofs.YtfiodnlgiglhfaaGreatDoor
