/- The document's text of a tree. -/
import Derived.Test.YthaabihjeomipaaGreatDoorQN2
import Derived.Test.YthaabihjeomipaaGreatDoorQCa
namespace Go.Proofs.YthaabihjeomipaaGreatDoor
set_option maxRecDepth 100000
set_option maxHeartbeats 16000000
open Go.RowKit Go.Deep
set_option linter.unusedVariables false
set_option linter.unusedSimpArgs false
def toD (x:To):List D:=[.v (.string x.tx),.v (.int .i64 x.tk),.v (.int .i64 x.dp)]
theorem elTo:ElT Tryz.prog 187 146 3 32:=.of Tryz.underlying187 kQ oQ
theorem brT_len (b:Bool)(X:List Tk×Int):(brT b X).1.length≤X.1.length+2∧(brT b X).2≤X.2+1:=by
 unfold brT;split
 ·exact⟨sJ,Int.le_refl _⟩
 ·exact⟨oQ,oQ⟩
theorem tkW_len {t:List Nd}{b r:Nat}(h:Sp t b r):(tkW t r).1.length+2≤8*(r+1-b)∧(tkW t r).2≤2*((r+1-b:Nat):Int):=by
 induction h with
 |lf hx h1 h2 h3=>
  rename_i i x;unfold tkW;rw[tkF_lf hx h1];have:=leafT_len x;exact⟨by show(leafT x).length+2≤_;omega,by show(0:Int)≤_;omega⟩
 |un hx h1 h2 h3 hs ih=>
  have:=hs.le;unfold tkW;rw[tkF_un hx h1 h2,tkW_eq hs oQ];rename_i j x;have hb:=brT_len (decide (levO (opAt t j)<levO x.op)) (tkW t j);refine⟨?_,?_⟩
  ·simp only[List.length_cons];omega
  ·show _+1≤_;omega
 |bi hx h1 h2 h3 hs hs2 ih ih2=>
  have l1:=hs.le;have l2:=hs2.le;unfold tkW;rw[tkF_bi hx h1 h2 h3,tkW_eq hs oQ,tkW_eq hs2 oQ];rename_i m j x;have hb:=brT_len (decide (levO (opAt t m)<lfL x.op)) (tkW t m);have hb2:=brT_len (decide (levO (opAt t j)<levO x.op+1)) (tkW t j);refine⟨?_,?_⟩
  ·simp only[zH,List.length_cons];omega
  ·show max _ _≤_;omega
theorem toOf_b {t:List Nd}(hN:NdOk t)(hl:t.length≤400){b r:Nat}(h:Sp t b r):ToB (toOf (tkW t r)):=by
 have h1:=tkW_len h;have h2:=tkW_nn t r;have h3:=h.lt;have h4:=jn_size (tkW_ok hN h) (tkW t r).1.length;rw[zL]at h4;refine⟨⟨?_,?_⟩,⟨h2,?_⟩,?_⟩
 ·show(0:Int)≤((tkW t r).1.length:Int);omega
 ·show((tkW t r).1.length:Int)≤_;omega
 ·show(tkW t r).2≤_;omega
 ·show(jn ((tkW t r).1.map spT)).size≤_;omega
def TL (t:List Nd)(j:Nat):List To:=(List.range j).map fun i=>toOf (tkW t i)
theorem TL_len (t:List Nd)(j:Nat):(TL t j).length=j:=by simp[TL]
theorem TL_get {t:List Nd}{i j:Nat}(h:i<j):(TL t j)[i]? =some (toOf (tkW t i)):=by simp[TL,h]
theorem TL_next (t:List Nd)(j:Nat):TL t (j+1)=TL t j++[toOf (tkW t j)]:=by simp[TL,List.range_succ]
def WhRel (t:List Nd)(w:World)(v i:Value)(wr:World):Prop:=∃j:Nat,j≤t.length∧i=.int .i64 j∧OL wr w.heap.size NoF 146 3 v j ((TL t j).flatMap toD)∧Bw w wr
theorem to_at {w:World}{B j i:Nat}{t:List Nd}{v:Value}(h:OL w B NoF 146 3 v j ((TL t j).flatMap toD))(hi:i<j):∃g cap,v=.slice (some ⟨g,0,none⟩) j cap∧g<w.heap.size∧
  w.cell? ⟨g,i*3,none⟩=some (.string (toOf (tkW t i)).tx)∧w.cell? ⟨g,i*3+1,none⟩=some (.int .i64 (toOf (tkW t i)).tk)∧w.cell? ⟨g,i*3+2,none⟩=some (.int .i64 (toOf (tkW t i)).dp):=by
 obtain⟨g,cap,e,_,hl,_,h2⟩:=h.row oQ;have key:∀(k:Nat) x,(toD (toOf (tkW t i)))[k]? =some (.v x)→w.cell? ⟨g,i*3+k,none⟩=some x:=fun k x hk=>by
  obtain⟨u,hu,hr⟩:=h2 _ _ (fmg (f:=toD) (m:=3) (fun _=>rfl) (TL_get (t:=t) hi) hk);rw[hu,hr.v_inv]
 exact⟨g,cap,e,hl,key 0 _ rfl,key 1 _ rfl,key 2 _ rfl⟩
theorem NdOk.at_ {t:List Nd}(h:NdOk t){i:Nat}{x:Nd}(hx:t[i]? =some x):NdS x:=h x (zA hx)
theorem opAt_b {t:List Nd}{b r:Nat}(h:Sp t b r):1≤opAt t r∧opAt t r≤26:=by
 obtain⟨x,hx,hcs⟩:=h.inv;rw[opAt_of hx];rcases hcs with⟨h,_⟩|⟨_,h,_⟩|⟨_,_,h,_⟩
 ·have:=isLf_op h;omega
 ·have:=isUn_op h;omega
 ·have:=isBi_op h;omega
theorem cell3 {w:World}{b i:Nat}{v:Value}(h:w.cell? ⟨b,i,none⟩=some v)(hb:b<w.heap.size):∀o1 o2 o3:Obj,(((w.alloc o1).alloc o2).alloc o3).cell? ⟨b,i,none⟩=some v:=fun o1 o2 o3=>by
 have hB:Bw w (((w.alloc o1).alloc o2).alloc o3):=((bA).alloc sJ _).alloc (by simp;omega) _;rw[World.cell?_of_block (w:=w) (hB.block b hb)];exact h
def to0:To:=⟨⟨#[]⟩,0,0⟩
theorem to0_b:ToB to0:=⟨⟨dQ,dQ⟩,⟨dQ,dQ⟩,dQ⟩
namespace shR
open nmW shW ckW
theorem whole_k (A:Option Addr)(c:Nat)(F:Nat→Prop)(t:List Nd)(ht:treeB t=true)(hl:t.length≤400)(hN:NdOk t)(w:World)(hT:XT w)(hR:RT w)(hF:∀b,F b→b<w.heap.size)(r:Rd w F (.slice A t.length c) (.sl t.length (t.flatMap ndD))):
  Calls Tryz.prog 103 #[.slice A t.length c] w (ToP (toOf (tkW t (t.length-1))) w):=by
 obtain⟨⟨n,hn,_⟩,ha,_⟩:=treeB_sp ht;have hb0:Bw w (w.alloc (.cells ⟨[.string ⟨#[]⟩,.int .i64 0,.int .i64 0]⟩ 146)):=bA;have hz:Blk (w.alloc (.cells ⟨[.string ⟨#[]⟩,.int .i64 0,.int .i64 0]⟩ 146)) w.heap.size 146 [.string ⟨#[]⟩,.int .i64 0,.int .i64 0]:=Blk.new _ _ _;have r1:=r.under hb0 hF;have hF1:∀b,F b→b<(w.alloc (.cells ⟨[.string ⟨#[]⟩,.int .i64 0,.int .i64 0]⟩ 146)).heap.size:=fun b hb=>zF (hF b hb) hb0.size
 have hT1:=hT.stay hb0;have hR1:=hR.stay hb0;obtain⟨w1,hw1⟩:∃w1,w1=w.alloc (.cells ⟨[.string ⟨#[]⟩,.int .i64 0,.int .i64 0]⟩ 146):=⟨_,rfl⟩
 have hwl:w.heap.size<w1.heap.size:=by rw[hw1];simp
 rw[←hw1]at hb0 hz r1 hF1 hT1 hR1;have h0:WhRel t w1 (.slice none 0 0) (.int .i64 0) w1:=⟨0,zE _,rfl,OL.nil ..,bR⟩;have kt:∀(i b:Nat)(x:Nd)(a d:To)(o p:Int),t[i]? =some x→Sp t b i→ToB a→(1≤o∧o≤26)→ToB d→(1≤p∧p≤26)→(∀j:Nat,x.a=(j:Int)→a=toOf (tkW t j)∧o=opAt t j)→(∀j:Nat,x.b=(j:Int)→d=toOf (tkW t j)∧p=opAt t j)→
   ∀W,Bw w1 W→Calls Tryz.prog 149 #[.agg ⟨ndV x⟩,.agg ⟨toV a⟩,.int .i64 o,.agg ⟨toV d⟩,.int .i64 p] W (ToP (toOf (tkW t i)) W):=fun i b x a d o p hx hs h1 h2 h3 h4 h5 h6 W hW=>by
  rw[←told_eq hs hx a d o p h5 h6];have:=opAt_b hs;rw[opAt_of hx]at this;exact told_k x a d o p W this.1 this.2 (hN.at_ hx) (hT1.stay hW) (hR1.stay hW) h1 h2 h3 h4
 have kb:∀(i b:Nat),Sp t b i→ToB (toOf (tkW t i))∧(1≤opAt t i∧opAt t i≤26):=fun i b h=>⟨toOf_b hN hl h,opAt_b h⟩
 have kat:∀(i b:Nat) wr,Sp t b i→Bw w1 wr→∃g off,A=some ⟨g,off,none⟩∧g<wr.heap.size∧wr.cell? ⟨g,off+i*6,none⟩=some (.int .i64 (opAt t i)):=fun i b wr h hb=>by
  obtain⟨x,hx,_⟩:=h.inv;obtain⟨g,off,e,hFg,z0,_⟩:=nd_at (r1.under hb hF1) hx;exact⟨g,off,e,zF (hF1 g hFg) hb.size,by rw[opAt_of hx];exact z0⟩
 replace h0:=Hd h0;replace kt:=Hd kt;replace kb:=Hd kb;replace kat:=Hd kat;replace ha:=Hd ha;replace r1:=Hd r1;replace hF1:=Hd hF1;replace hz:=Hd hz;replace hb0:=Hd hb0;replace hwl:=Hd hwl;clear ht hT hR hF r hT1 hR1 hN;go_enter Tryz.func103,Tryz.ntmps103;go_upto_region 1 with fail
 rw[←hw1];clear hw1;go_wp2;go_loopw [3,4] (fun v i wr=>WhRel t w1 v i wr) (fun _ i _=>t.length- (intOf i).toNat)
 case atStart=>exact h0.out
 case round=>
  clear h0;obtain⟨j,hj,rfl,hO,hB⟩:=hrel;by_cases hlt:j<t.length
  ·obtain⟨b,hsp⟩:=ha.out j hlt;obtain⟨x,hx,hcs⟩:=hsp.inv;obtain⟨g,off,rfl,hFg,z0,z1,z2,z3,z4,z5⟩:=nd_at (r1.out.under hB hF1.out) hx;have hgl:g<wr.heap.size:=zF (hF1.out g hFg) hB.size;have hsz:=hB.size;have g0:(0:Int)≤(j:Int):=oQ;have g1:(j:Int)<t.length:=oQ;have hnx:=TL_next t j;have kt1:=kt.out j b x;obtain⟨R,hRR⟩:∃R,R=toOf (tkW t j):=⟨_,rfl⟩
   rw[←hRR]at kt1 hnx;replace hRR:=Hd hRR;obtain⟨op,nn,vv,at_,na,nb⟩:=x;simp only at hcs z0 z1 z2 z3 z4 z5;have hxx:=Hd hx;obtain⟨R1,R2,R3⟩:=R;unfold ToP at kt1;simp only[ndV,toV]at kt1;obtain⟨A1,c1,rfl⟩:=hO.form;rcases hcs with⟨hlf,rfl,rfl,he⟩|⟨i,hun,rfl,rfl,hs,he⟩|⟨m,i,hbi,rfl,rfl,hs1,hs2,he⟩
   ·have kt1:=kt1 to0 to0 1 1 hx hsp to0_b oQ to0_b oQ (fun k h=>absurd h oQ) (fun k h=>absurd h oQ);simp only[to0]at kt1;have hW3:Bw wr (((wr.alloc (.cells ⟨[.int .i64 op,.int .i64 nn,.string vv,.string at_,.int .i64 (-1),.int .i64 (-1)]⟩ 96)).alloc (.cells ⟨[.string ⟨#[]⟩,.int .i64 0,.int .i64 0]⟩ 146)).alloc (.cells ⟨[.string ⟨#[]⟩,.int .i64 0,.int .i64 0]⟩ 146)):=((bA).alloc sJ _).alloc (by simp;omega) _;have hup:∀W,Below (((wr.alloc (.cells ⟨[.int .i64 op,.int .i64 nn,.string vv,.string at_,.int .i64 (-1),.int .i64 (-1)]⟩ 96)).alloc (.cells ⟨[.string ⟨#[]⟩,.int .i64 0,.int .i64 0]⟩ 146)).alloc (.cells ⟨[.string ⟨#[]⟩,.int .i64 0,.int .i64 0]⟩ 146)).heap.size (((wr.alloc (.cells ⟨[.int .i64 op,.int .i64 nn,.string vv,.string at_,.int .i64 (-1),.int .i64 (-1)]⟩ 96)).alloc (.cells ⟨[.string ⟨#[]⟩,.int .i64 0,.int .i64 0]⟩ 146)).alloc (.cells ⟨[.string ⟨#[]⟩,.int .i64 0,.int .i64 0]⟩ 146)) W→
      Bw wr ((W.alloc (.cells ⟨[.string R1,.int .i64 R2,.int .i64 R3]⟩ 146)).alloc (.cells ⟨[.string R1,.int .i64 R2,.int .i64 R3]⟩ 146)):=fun W h=>by
     have h1:=hW3.trans (h.mono hW3.size);exact(h1.alloc h1.size _).alloc (by have:=h1.size;simp;omega) _
    have hOO:∀W,Bw wr W→OL W w1.heap.size NoF 146 3 (Value.slice A1 j c1) j ((TL t j).flatMap toD):=fun W h=>hO.stay h
    have kt2:=kt1 _ (hB.trans (hW3.mono hsz));replace kt2:=Hd kt2;replace hup:=Hd hup;replace hOO:=Hd hOO;replace hnx:=Hd hnx;replace hB:=Hd hB;clear kt1 hO hx hW3 hsp hn hlf;go_wp2_with (first
     |(go_at_call 149;refine kt2.out.mono ?_;rintro e W ⟨rfl,hX⟩;have hu:=hup.out W hX;have hO3:=Hd (hOO.out _ hu);have hBu:=Hd (hB.out.trans (hu.mono hsz));have hszu:=hBu.out.size;have hsr:=Hd (Src.at1 (w:=W.alloc (.cells ⟨[.string R1,.int .i64 R2,.int .i64 R3]⟩ 146)) (t:=146) (g:=W.heap.size+1) sJ (show RdL _ (fun b=>NoF b∧some b≠(Value.slice A1 j c1).ownBlock) [.string R1,.int .i64 R2,.int .i64 R3] (toD ⟨R1,R2,R3⟩)from⟨.v _ rfl,.v _ rfl,.v _ rfl,trivial⟩));clear hX hu)
     |(at_builtin;refine wpa rfl (.tmp 55) (.tmp 57) _ rfl (m:=1) (news:=toD ⟨R1,R2,R3⟩) elTo hO3.out rfl rfl hsr.out rfl oQ oQ hszu ?_;intro v' w9 hO9 hg9 _;have hB9:=Hd (hBu.out.grown hg9 hszu (fun q hq=>(hO3.out.lt q hq).1));obtain⟨A9,c9,rfl⟩:=hO9.form;replace hO9:=Hd hO9;clear hg9))
    go_roundw
    case rel=>exact⟨j+1,oQ,gQ,by rw[hnx.out,xD];exact hO9.out,hB9.out⟩
    case measure=>exact mQ
   ·have hij:=hs.le;obtain⟨k1,k2⟩:=kb.out i b hs;obtain⟨g2,cap2,e2,gl2,t0,t1,t2⟩:=to_at hO (i:=i) oQ;injection e2 with e2 _ e3
    subst e2 e3;obtain⟨g',off',e',gl',zo⟩:=kat.out i b wr hs hB;injection e' with e';injection e' with e1' e2'
    subst e1' e2';have kt1:=kt1 (toOf (tkW t i)) to0 (opAt t i) 1 hx hsp k1 k2 to0_b oQ (fun k h=>(by omega:i=k)▸⟨rfl,rfl⟩) (fun k h=>absurd h oQ);generalize toOf (tkW t i)=X at kt1 t0 t1 t2 k1;generalize opAt t i=oo at kt1 zo k2;obtain⟨X1,X2,X3⟩:=X;simp only[to0]at kt1 t0 t1 t2;have t0:=cell3 t0 gl2;have t1:=cell3 t1 gl2;have t2:=cell3 t2 gl2;have zo:=cell3 zo gl';have p0:(0:Int)≤(i:Int):=oQ;have p1:(i:Int)<(j:Int):=oQ;have p2:(i:Int)<(t.length:Int):=oQ;clear k1 k2;have hW3:Bw wr (((wr.alloc (.cells ⟨[.int .i64 op,.int .i64 nn,.string vv,.string at_,.int .i64 (i:Nat),.int .i64 (-1)]⟩ 96)).alloc (.cells ⟨[.string X1,.int .i64 X2,.int .i64 X3]⟩ 146)).alloc (.cells ⟨[.string ⟨#[]⟩,.int .i64 0,.int .i64 0]⟩ 146)):=((bA).alloc sJ _).alloc (by simp;omega) _;have hup:∀W,Below (((wr.alloc (.cells ⟨[.int .i64 op,.int .i64 nn,.string vv,.string at_,.int .i64 (i:Nat),.int .i64 (-1)]⟩ 96)).alloc (.cells ⟨[.string X1,.int .i64 X2,.int .i64 X3]⟩ 146)).alloc (.cells ⟨[.string ⟨#[]⟩,.int .i64 0,.int .i64 0]⟩ 146)).heap.size (((wr.alloc (.cells ⟨[.int .i64 op,.int .i64 nn,.string vv,.string at_,.int .i64 (i:Nat),.int .i64 (-1)]⟩ 96)).alloc (.cells ⟨[.string X1,.int .i64 X2,.int .i64 X3]⟩ 146)).alloc (.cells ⟨[.string ⟨#[]⟩,.int .i64 0,.int .i64 0]⟩ 146)) W→
      Bw wr ((W.alloc (.cells ⟨[.string R1,.int .i64 R2,.int .i64 R3]⟩ 146)).alloc (.cells ⟨[.string R1,.int .i64 R2,.int .i64 R3]⟩ 146)):=fun W h=>by
     have h1:=hW3.trans (h.mono hW3.size);exact(h1.alloc h1.size _).alloc (by have:=h1.size;simp;omega) _
    have hOO:∀W,Bw wr W→OL W w1.heap.size NoF 146 3 (Value.slice (some ⟨g2,0,none⟩) j c1) j ((TL t j).flatMap toD):=fun W h=>hO.stay h
    have kt2:=kt1 _ (hB.trans (hW3.mono hsz));replace kt2:=Hd kt2;replace hup:=Hd hup;replace hOO:=Hd hOO;replace hnx:=Hd hnx;replace hB:=Hd hB;clear kt1 hO hx hW3 hsp hn hun hs;go_wp2_with (first
     |(go_at_call 149;refine kt2.out.mono ?_;rintro e W ⟨rfl,hX⟩;have hu:=hup.out W hX;have hO3:=Hd (hOO.out _ hu);have hBu:=Hd (hB.out.trans (hu.mono hsz));have hszu:=hBu.out.size;have hsr:=Hd (Src.at1 (w:=W.alloc (.cells ⟨[.string R1,.int .i64 R2,.int .i64 R3]⟩ 146)) (t:=146) (g:=W.heap.size+1) sJ (show RdL _ (fun b=>NoF b∧some b≠(Value.slice (some ⟨g2,0,none⟩) j c1).ownBlock) [.string R1,.int .i64 R2,.int .i64 R3] (toD ⟨R1,R2,R3⟩)from⟨.v _ rfl,.v _ rfl,.v _ rfl,trivial⟩));clear hX hu)
     |(at_builtin;refine wpa rfl (.tmp 55) (.tmp 57) _ rfl (m:=1) (news:=toD ⟨R1,R2,R3⟩) elTo hO3.out rfl rfl hsr.out rfl oQ oQ hszu ?_;intro v' w9 hO9 hg9 _;have hB9:=Hd (hBu.out.grown hg9 hszu (fun q hq=>(hO3.out.lt q hq).1));obtain⟨A9,c9,rfl⟩:=hO9.form;replace hO9:=Hd hO9;clear hg9))
    go_roundw
    case rel=>exact⟨j+1,oQ,gQ,by rw[hnx.out,xD];exact hO9.out,hB9.out⟩
    case measure=>exact mQ
   ·have hij1:=hs1.le;have hij2:=hs2.le;obtain⟨k1,k2⟩:=kb.out m b hs1;obtain⟨k3,k4⟩:=kb.out i (m+1) hs2;obtain⟨g2,cap2,e2,gl2,t0,t1,t2⟩:=to_at hO (i:=m) oQ;obtain⟨g3,cap3,e3,gl3,t3,t4,t5⟩:=to_at hO (i:=i) oQ;injection e2 with e2 _ e2'
    subst e2 e2';injection e3 with e3 _ e3'
    injection e3 with e3;injection e3 with e3 _
    subst e3 e3';obtain⟨g',off',e',gl',zo⟩:=kat.out m b wr hs1 hB;injection e' with e';injection e' with e1' e2'
    subst e1' e2';obtain⟨g',off',e',gl'',zo2⟩:=kat.out i (m+1) wr hs2 hB;injection e' with e';injection e' with e1' e2'
    subst e1' e2';have kt1:=kt1 (toOf (tkW t m)) (toOf (tkW t i)) (opAt t m) (opAt t i) hx hsp k1 k2 k3 k4 (fun k h=>(by omega:m=k)▸⟨rfl,rfl⟩) (fun k h=>(by omega:i=k)▸⟨rfl,rfl⟩);generalize toOf (tkW t m)=X at kt1 t0 t1 t2 k1;generalize opAt t m=oo at kt1 zo k2;generalize toOf (tkW t i)=Y at kt1 t3 t4 t5 k3;generalize opAt t i=oo2 at kt1 zo2 k4;obtain⟨X1,X2,X3⟩:=X;obtain⟨Y1,Y2,Y3⟩:=Y;simp only at kt1 t0 t1 t2 t3 t4 t5;have t0:=cell3 t0 gl2;have t1:=cell3 t1 gl2;have t2:=cell3 t2 gl2;have t3:=cell3 t3 gl2;have t4:=cell3 t4 gl2;have t5:=cell3 t5 gl2;have zo:=cell3 zo gl';have zo2:=cell3 zo2 gl';have p0:(0:Int)≤(i:Int):=oQ;have p1:(i:Int)<(j:Int):=oQ;have p2:(i:Int)<(t.length:Int):=oQ;have p3:(0:Int)≤(m:Int):=oQ;have p4:(m:Int)<(j:Int):=oQ;have p5:(m:Int)<(t.length:Int):=oQ;clear k1 k2 k3 k4;have hW3:Bw wr (((wr.alloc (.cells ⟨[.int .i64 op,.int .i64 nn,.string vv,.string at_,.int .i64 (m:Nat),.int .i64 (i:Nat)]⟩ 96)).alloc (.cells ⟨[.string X1,.int .i64 X2,.int .i64 X3]⟩ 146)).alloc (.cells ⟨[.string Y1,.int .i64 Y2,.int .i64 Y3]⟩ 146)):=((bA).alloc sJ _).alloc (by simp;omega) _;have hup:∀W,Below (((wr.alloc (.cells ⟨[.int .i64 op,.int .i64 nn,.string vv,.string at_,.int .i64 (m:Nat),.int .i64 (i:Nat)]⟩ 96)).alloc (.cells ⟨[.string X1,.int .i64 X2,.int .i64 X3]⟩ 146)).alloc (.cells ⟨[.string Y1,.int .i64 Y2,.int .i64 Y3]⟩ 146)).heap.size (((wr.alloc (.cells ⟨[.int .i64 op,.int .i64 nn,.string vv,.string at_,.int .i64 (m:Nat),.int .i64 (i:Nat)]⟩ 96)).alloc (.cells ⟨[.string X1,.int .i64 X2,.int .i64 X3]⟩ 146)).alloc (.cells ⟨[.string Y1,.int .i64 Y2,.int .i64 Y3]⟩ 146)) W→
      Bw wr ((W.alloc (.cells ⟨[.string R1,.int .i64 R2,.int .i64 R3]⟩ 146)).alloc (.cells ⟨[.string R1,.int .i64 R2,.int .i64 R3]⟩ 146)):=fun W h=>by
     have h1:=hW3.trans (h.mono hW3.size);exact(h1.alloc h1.size _).alloc (by have:=h1.size;simp;omega) _
    have hOO:∀W,Bw wr W→OL W w1.heap.size NoF 146 3 (Value.slice (some ⟨g2,0,none⟩) j c1) j ((TL t j).flatMap toD):=fun W h=>hO.stay h
    have kt2:=kt1 _ (hB.trans (hW3.mono hsz));replace kt2:=Hd kt2;replace hup:=Hd hup;replace hOO:=Hd hOO;replace hnx:=Hd hnx;replace hB:=Hd hB;clear kt1 hO hx hW3 hsp hn hbi hs1 hs2;go_wp2_with (first
     |(go_at_call 149;refine kt2.out.mono ?_;rintro e W ⟨rfl,hX⟩;have hu:=hup.out W hX;have hO3:=Hd (hOO.out _ hu);have hBu:=Hd (hB.out.trans (hu.mono hsz));have hszu:=hBu.out.size;have hsr:=Hd (Src.at1 (w:=W.alloc (.cells ⟨[.string R1,.int .i64 R2,.int .i64 R3]⟩ 146)) (t:=146) (g:=W.heap.size+1) sJ (show RdL _ (fun b=>NoF b∧some b≠(Value.slice (some ⟨g2,0,none⟩) j c1).ownBlock) [.string R1,.int .i64 R2,.int .i64 R3] (toD ⟨R1,R2,R3⟩)from⟨.v _ rfl,.v _ rfl,.v _ rfl,trivial⟩));clear hX hu)
     |(at_builtin;refine wpa rfl (.tmp 55) (.tmp 57) _ rfl (m:=1) (news:=toD ⟨R1,R2,R3⟩) elTo hO3.out rfl rfl hsr.out rfl oQ oQ hszu ?_;intro v' w9 hO9 hg9 _;have hB9:=Hd (hBu.out.grown hg9 hszu (fun q hq=>(hO3.out.lt q hq).1));obtain⟨A9,c9,rfl⟩:=hO9.form;replace hO9:=Hd hO9;clear hg9))
    go_roundw
    case rel=>exact⟨j+1,oQ,gQ,by rw[hnx.out,xD];exact hO9.out,hB9.out⟩
    case measure=>exact mQ
  ·obtain rfl:j=t.length:=oQ;have g1:¬(t.length:Int)<t.length:=oQ;obtain⟨g2,cap2,e2,gl2,t0,t1,t2⟩:=to_at hO (i:=n) oQ;obtain⟨X,hXe⟩:∃X,X=toOf (tkW t n):=⟨_,rfl⟩
   rw[←hXe]at t0 t1 t2;obtain⟨X1,X2,X3⟩:=X;replace hXe:=Hd hXe;simp only at t0 t1 t2;subst e2;have hzw:=Hd (hz.out.stay hB);have hBw:=Hd (hb0.out.and1 nR hB);have hw1:IntKind.i64.wrap ((t.length:Int) -1)=n:=by rw[xI]<;>omega
   have p0:(0:Int)≤(n:Int):=oQ;have p1:(n:Int)<(t.length:Int):=oQ;have hgw:=Hd (show w.heap.size<wr.heap.size from zF hwl.out hB.size);have hn':=Hd hn;replace hB:=Hd hB;replace hO:=Hd hO;clear hn hlt hj;go_wp2_with (refine at_op (.store 146 (.tmp 2) (.tmp 64)) rfl ?_;refine wsb rfl 146 (.tmp 2) (.tmp 64) rfl (cs':=[.string X1,.int .i64 X2,.int .i64 X3]) hzw.out aggTo rfl rfl rfl rfl ?_;intro w9 hz9 hg9);exact bpa rfl hz9 aggTo rfl rfl ⟨by rw[show t.length-1=n by have:=hn'.out;omega,←hXe.out];rfl,hBw.out.grown hg9 hBw.out.size (fun q hq=>by injection hq with hq;omega)⟩
theorem rexpr_k (A:Option Addr)(c:Nat)(F:Nat→Prop)(t:List Nd)(hs:SzN t)(hN:NdOk t)(w:World)(hT:XT w)(hR:RT w)(hF:∀b,F b→b<w.heap.size)(r:Rd w F (.slice A t.length c) (.sl t.length (t.flatMap ndD))):
  Calls Tryz.prog 62 #[.slice A t.length c] w (ExP t w):=by
 have kt:=refTree_k A c F t hs w hT.kw hF r;obtain⟨C,hC⟩:∃C,C=exC t:=⟨_,rfl⟩
 obtain⟨T,hTx⟩:∃T,T=exT t:=⟨_,rfl⟩
 unfold ExP;rw[←hC,←hTx];unfold exT at hTx;rw[←hC]at hTx;unfold exC at hC;have hl1:=hs.1;by_cases c1:treeB t=false
 ·rw[c1]at kt;rw[if_pos c1]at hC;subst hC;rw[if_neg oQ]at hTx;subst hTx;replace kt:=Hd kt;clear hs hT hF r hN c1;go_enter Tryz.func62,Tryz.ntmps62;go_wp2_with (go_at_call 58;refine kt.out.mono ?_;rintro e W ⟨rfl,hW⟩;replace hW:=Hd hW);refine bodyPost_ret (results_tmp2 rfl _ _ _) rfl ?_;exact⟨rfl,hW.out⟩
 have c1':treeB t=true:=by simpa using c1
 rw[c1']at kt;rw[if_neg c1]at hC;by_cases c2:400<t.length
 ·rw[if_pos c2]at hC;subst hC;rw[if_neg oQ]at hTx;subst hTx;have g0:(400:Int)<(t.length:Int):=oQ;replace kt:=Hd kt;clear hs hT hF r hN c1 c1';go_enter Tryz.func62,Tryz.ntmps62;go_wp2_with (go_at_call 58;refine kt.out.mono ?_;rintro e W ⟨rfl,hW⟩;replace hW:=Hd hW);refine bodyPost_ret (results_tmp2 rfl _ _ _) rfl ?_;exact⟨rfl,hW.out⟩
 rw[if_neg c2]at hC;have g0:¬(400:Int)<(t.length:Int):=oQ;have kw:∀W,Bw w W→Calls Tryz.prog 103 #[.slice A t.length c] W (ToP (toOf (tkW t (t.length-1))) W):=fun W hW=>whole_k A c F t c1' oQ hN W (hT.stay hW) (hR.stay hW) (fun b hb=>zF (hF b hb) hW.size) (r.under hW hF)
 have e1:(toOf (tkW t (t.length-1))).tk=((tkW t (t.length-1)).1.length:Int):=rfl;have e2:(toOf (tkW t (t.length-1))).dp=(tkW t (t.length-1)).2:=rfl;have e3:(toOf (tkW t (t.length-1))).tx=jn ((tkW t (t.length-1)).1.map spT):=rfl;rw[←e3]at hTx;have hC2:C=if 400<(toOf (tkW t (t.length-1))).tk then 51 else if 32<(toOf (tkW t (t.length-1))).dp then 41 else 0:=by
  rw[hC,e1,e2];by_cases c3:400<(tkW t (t.length-1)).1.length
  ·rw[if_pos c3,if_pos oQ]
  ·rw[if_neg c3,if_neg (show¬(400:Int)<((tkW t (t.length-1)).1.length:Int) by omega)]
 clear e1 e2 e3 hC;generalize toOf (tkW t (t.length-1))=X at kw hTx hC2;obtain⟨X1,X2,X3⟩:=X;unfold ToP at kw;simp only[toV]at kw hTx hC2;replace kt:=Hd kt;replace kw:=Hd kw;clear hs hT hR hF r hN c1 c1';by_cases c3:400<X2
 ·rw[if_pos c3]at hC2;subst hC2;rw[if_neg oQ]at hTx;subst hTx;go_enter Tryz.func62,Tryz.ntmps62;go_wp2_with (first
   |(go_at_call 58;refine kt.out.mono ?_;rintro e W ⟨rfl,hW⟩;have kw1:=Hd (kw.out W hW);replace hW:=Hd hW)
   |(go_at_call 103;refine kw1.out.mono ?_;rintro e W2 ⟨rfl,hW2⟩;have hB:=hW.out.and1 nR hW2;replace hB:=Hd (hB.alloc hB.size (.cells ⟨[.string X1,.int .i64 X2,.int .i64 X3]⟩ 146));clear hW2))
  refine bodyPost_ret (results_tmp2 rfl _ _ _) rfl ?_;exact⟨rfl,hB.out⟩
 rw[if_neg c3]at hC2;by_cases c4:32<X3
 ·rw[if_pos c4]at hC2;subst hC2;rw[if_neg oQ]at hTx;subst hTx;go_enter Tryz.func62,Tryz.ntmps62;go_wp2_with (first
   |(go_at_call 58;refine kt.out.mono ?_;rintro e W ⟨rfl,hW⟩;have kw1:=Hd (kw.out W hW);replace hW:=Hd hW)
   |(go_at_call 103;refine kw1.out.mono ?_;rintro e W2 ⟨rfl,hW2⟩;have hB:=hW.out.and1 nR hW2;replace hB:=Hd (hB.alloc hB.size (.cells ⟨[.string X1,.int .i64 X2,.int .i64 X3]⟩ 146));clear hW2))
  refine bodyPost_ret (results_tmp2 rfl _ _ _) rfl ?_;exact⟨rfl,hB.out⟩
 rw[if_neg c4]at hC2;subst hC2;rw[if_pos rfl]at hTx;subst hTx;go_enter Tryz.func62,Tryz.ntmps62;go_wp2_with (first
  |(go_at_call 58;refine kt.out.mono ?_;rintro e W ⟨rfl,hW⟩;have kw1:=Hd (kw.out W hW);replace hW:=Hd hW)
  |(go_at_call 103;refine kw1.out.mono ?_;rintro e W2 ⟨rfl,hW2⟩;have hB:=hW.out.and1 nR hW2;replace hB:=Hd (hB.alloc hB.size (.cells ⟨[.string T,.int .i64 X2,.int .i64 X3]⟩ 146));clear hW2))
 refine bodyPost_ret (results_tmp2 rfl _ _ _) rfl ?_;exact⟨rfl,hB.out⟩
end shR
theorem itemI_b {q:Qy}(hl:q.items.length≤1048576)(v:ByteArray): -1≤itemI q v∧itemI q v≤1048576:=by
 have h1:=placeI_ge (vrs q) v;have h2:=placeI_lt (vrs q) v;have h3:(vrs q).length=q.items.length:=by unfold vrs;rw[xC]
 unfold itemI;omega
theorem vB_size {n:Int}(h0: -1≤n)(h1:n≤1048576):(vB++itoaB n).size≤22:=by
 have:=itoaB_size n oQ oQ;rw[ByteArray.size_append];show 1+(itoaB n).size≤22;omega
theorem pln_ok {q:Qy}{t:List Nd}(hl:q.items.length≤1048576)(hs:SzN t)(hN:NdOk t):SzN (pln q t)∧NdOk (pln q t):=by
 refine⟨⟨by unfold pln;rw[xC];exact hs.1,fun x hx=>?_⟩,fun x hx=>?_⟩
 all_goals
  unfold pln at hx;obtain⟨y,hy,rfl⟩:=List.mem_map.1 hx;obtain⟨a1,a2,a3,a4⟩:=hN y hy;have hb:=itemI_b hl y.v;have hv:=vB_size hb.1 hb.2;unfold rnv;split
 ·exact⟨by show(vB++itoaB (itemI q y.v)).size≤_;omega,(hs.2 y hy).2⟩
 ·exact hs.2 y hy
 ·exact⟨by show(vB++itoaB (itemI q y.v)).size≤_;omega,a2,a3,a4⟩
 ·exact⟨a1,a2,a3,a4⟩
def PlRel (q:Qy)(s:Sl3)(t:List Nd)(w:World)(v i:Value)(wr:World):Prop:=∃j:Nat,j≤t.length∧i=.int .i64 j∧QB q s w wr∧OL wr w.heap.size NoF 96 6 v j (((t.take j).map (rnv q)).flatMap ndD)
theorem pl_next {q:Qy}{t:List Nd}{j:Nat}{x:Nd}(h:t[j]? =some x):(t.take (j+1)).map (rnv q)=(t.take j).map (rnv q)++[rnv q x]:=by
 rw[zJ,h,xR];rfl
namespace shR
open nmW shW ckW
theorem ritem_k (q:Qy)(s:Sl3)(F:Nat→Prop)(v:ByteArray)(hl:q.items.length≤1048576)(w:World)(hF:∀b,F b→b<w.heap.size)(r:Rd w F (.slice s.a1 q.items.length s.c1) (.sl q.items.length (q.items.flatMap itD))):
  Calls Tryz.prog 61 #[.agg ⟨qV q s⟩,.string v] w fun e w'=>e=.returned (.int .i64 (itemI q v))∧Bw w w':=by
 have h0:=QB.new q s w;obtain⟨b,hc⟩:∃b,b=itemI q v:=⟨_,rfl⟩
 rw[←hc];obtain⟨A1,c1,A2,c2,A3,c3⟩:=s;simp only[qV]at h0 r ⊢;replace hc:=Hd hc;replace r:=Hd r;replace hF:=Hd hF;replace h0:=Hd h0;go_enter Tryz.func61,Tryz.ntmps61;go_wp2;go_loopw [5] (fun i wr=>∃j:Nat,j≤q.items.length∧i=.int .i64 j∧QB q ⟨A1,c1,A2,c2,A3,c3⟩ w wr∧Hid (∀(i:Nat) a,(vrs q)[i]? =some a→i<j→a≠v)) (fun i _=>q.items.length- (intOf i).toNat)
 case atStart=>exact⟨0,zE _,rfl,h0.out,fun i a h h3=>by omega⟩
 case round=>
  clear h0;obtain⟨j,hj,rfl,hI,hp⟩:=hrel;obtain⟨y0,_⟩:=hI.cells;simp only at y0;by_cases hlt:j<q.items.length
  ·obtain⟨x,hx⟩:=getx hlt;obtain⟨g,off,B2,d2,rfl,_,_,_,_,a2,_,_⟩:=it_at (r.out.under hI.1 hF.out) hx;have g0:(0:Int)≤(j:Int):=oQ;have g1:(j:Int)<q.items.length:=oQ;have hx2:(vrs q)[j]? =some x.v:=by unfold vrs;rw[zG,hx];rfl
   replace hx2:=Hd hx2;replace hI:=Hd hI;clear hx;by_cases hu:x.v=v
   ·have hu':(x.v.toList==v.toList)=true:=(by rw[bqb];exact zW hu);have hfin:b=(j:Int):=by rw[hc.out];exact placeI_at (by rw[hx2.out,hu]) hp.out
    replace hu:=Hd hu;replace hfin:=Hd hfin;go_wp2;go_ret;exact⟨rtI hfin.out.symm,hI.out.1⟩
   ·have hu':(x.v.toList==v.toList)=false:=(by rw[bqb];exact zV hu);replace hu:=Hd hu;go_wp2;go_roundw
    case rel=>
     refine⟨j+1,oQ,gQ,hI.out,fun i a h h3=>?_⟩;by_cases hij:i=j
     ·subst hij;obtain rfl:x.v=a:=by have:=hx2.out;rw[h]at this;exact(zq9 this).symm
      exact hu.out
     ·exact hp.out i a h oQ
    case measure=>exact mQ
  ·have g1:¬(j:Int)<q.items.length:=oQ;have hfin:b= -1:=by
    rw[hc.out];exact placeI_none fun i a h=>hp.out i a h (by have:=(zC.1 h).1;unfold vrs at this;simp at this;omega)
   replace hfin:=Hd hfin;replace hI:=Hd hI;go_wp2;go_ret;exact⟨rtI hfin.out.symm,hI.out.1⟩
theorem rplain_k (q:Qy)(s:Sl3)(A:Option Addr)(c:Nat)(F G:Nat→Prop)(t:List Nd)(hs:SzQ q)(ht:SzN t)(hN:NdOk t)(w:World)(hT:XT w)(hR:RT w)(Q:QR w G q s)(hF:∀b,F b→b<w.heap.size)(r:Rd w F (.slice A t.length c) (.sl t.length (t.flatMap ndD))):
  Calls Tryz.prog 28 #[.agg ⟨qV q s⟩,.slice A t.length c] w (ExP (pln q t) w):=by
 have h0:=QB.new q s w;have ki:∀(v:ByteArray) W,Bw w W→Calls Tryz.prog 61 #[.agg ⟨qV q s⟩,.string v] W fun e w'=>e=.returned (.int .i64 (itemI q v))∧Bw W w':=fun v W h=>ritem_k q s G v hs.il W (Q.under h).lt (Q.under h).r1
 have kf:∀(v:ByteArray) W,Bw w W→Calls Tryz.prog 33 #[.int .i64 (itemI q v)] W (StP (itoaB (itemI q v)) W):=fun v W h=>by
  have hb:=itemI_b hs.il v;refine(Tryz.strconv_Itoa (itemI q v) oQ oQ W (hT.stay h).pw).mono ?_;rintro e w' ⟨rfl,k,os,rfl⟩;exact⟨rfl,below_grown W k os⟩
 have hbd:=fun v=>itemI_b hs.il v
 obtain⟨hp1,hp2⟩:=pln_ok hs.il ht hN;have kx:∀A' c' W,Bw w W→OL W w.heap.size NoF 96 6 (.slice A' t.length c') t.length ((pln q t).flatMap ndD)→Calls Tryz.prog 62 #[.slice A' t.length c'] W (ExP (pln q t) W):=fun A' c' W hW hO=>by
  have hl:(pln q t).length=t.length:=by unfold pln;rw[xC]
  have:=rexpr_k A' c' (fun b=>b<W.heap.size) (pln q t) hp1 hp2 W (hT.stay hW) (hR.stay hW) (fun b h=>h);rw[hl]at this;exact this (hO.rd (fun b h _=>h.elim) (fun b _ h=>h))
 have hl:=ht.1;obtain⟨A1,c1,A2,c2,A3,c3⟩:=s;simp only[qV]at h0 ki ⊢;replace h0:=Hd h0;replace ki:=Hd ki;replace kf:=Hd kf;replace kx:=Hd kx;replace r:=Hd r;replace hF:=Hd hF;replace hbd:=Hd hbd;clear hs ht hN hT hR Q hp1 hp2;go_enter Tryz.func28,Tryz.ntmps28;go_wp2;go_loopw [6,7] (fun v i wr=>PlRel q ⟨A1,c1,A2,c2,A3,c3⟩ t w v i wr) (fun _ i _=>t.length- (intOf i).toNat)
 case atStart=>exact⟨0,zE _,rfl,h0.out,OL.nil ..⟩
 case round=>
  clear h0;obtain⟨j,hj,rfl,hQ,hO⟩:=hrel;obtain⟨C1,d1,rfl⟩:=hO.form;by_cases hlt:j<t.length
  ·obtain⟨x,hx⟩:=getx hlt;obtain⟨g,off,rfl,hFg,z0,z1,z2,z3,z4,z5⟩:=nd_at (r.out.under hQ.1 hF.out) hx;have hsz:=hQ.1.size;have g0:(0:Int)≤(j:Int):=oQ;have g1:(j:Int)<t.length:=oQ;have hnx:=pl_next (q:=q) hx;have hbl:=hQ.2.lt;have hB1:Bw wr (wr.alloc (.cells ⟨ndV x⟩ 96)):=bA;have hbn:Blk (wr.alloc (.cells ⟨ndV x⟩ 96)) wr.heap.size 96 (ndV x):=Blk.new _ _ _;have hlk:∀k,(Value.slice C1 j d1).ownBlock=some k→w.heap.size≤k∧k<wr.heap.size:=hO.lt
   cases hv:isVar x.op with
   |false=>
    have hrn:rnv q x=x:=(by unfold rnv;rw[hv];rfl);rw[hrn]at hnx;have hgd:decide (4≤x.op)=false∨(decide (4≤x.op)=true∧decide (x.op≤11)=false):=by
     unfold isVar at hv;cases h4:decide (4≤x.op)with
     |false=>exact .inl rfl
     |true=>rw[h4]at hv;exact .inr ⟨rfl,by simpa using hv⟩
    obtain⟨op,nn,vv,at_,na,nb⟩:=x;simp only[ndV]at z0 z1 z2 z3 z4 z5 hbn hB1 hgd;have hB2:Bw wr ((wr.alloc (.cells ⟨[.int .i64 op,.int .i64 nn,.string vv,.string at_,.int .i64 na,.int .i64 nb]⟩ 96)).alloc (.cells ⟨[.int .i64 op,.int .i64 nn,.string vv,.string at_,.int .i64 na,.int .i64 nb]⟩ 96)):=hB1.alloc hB1.size _;have hO3:=hO.stay hB2;have hsz3:=zU hsz hB2.size;have hsr:=Src.at1 (w:=wr.alloc (.cells ⟨[.int .i64 op,.int .i64 nn,.string vv,.string at_,.int .i64 na,.int .i64 nb]⟩ 96)) (t:=96) (g:=wr.heap.size+1) sJ (show RdL _ (fun b=>NoF b∧some b≠(Value.slice C1 j d1).ownBlock) [.int .i64 op,.int .i64 nn,.string vv,.string at_,.int .i64 na,.int .i64 nb] (ndD ⟨op,nn,vv,at_,na,nb⟩)from⟨.v _ rfl,.v _ rfl,.v _ rfl,.v _ rfl,.v _ rfl,.v _ rfl,trivial⟩);have hQ3:=hQ.stay hB2;have hup:∀v' w9,OL w9 w.heap.size NoF 96 6 v' (j+1) (((t.take j).map (rnv q)).flatMap ndD++ndD ⟨op,nn,vv,at_,na,nb⟩)→((wr.alloc (.cells ⟨[.int .i64 op,.int .i64 nn,.string vv,.string at_,.int .i64 na,.int .i64 nb]⟩ 96)).alloc (.cells ⟨[.int .i64 op,.int .i64 nn,.string vv,.string at_,.int .i64 na,.int .i64 nb]⟩ 96)).grownBy w9 (Value.slice C1 j d1).ownBlock→QB q ⟨A1,c1,A2,c2,A3,c3⟩ w w9∧OL w9 w.heap.size NoF 96 6 v' (j+1) (((t.take (j+1)).map (rnv q)).flatMap ndD):=fun v' w9 h1 h2=>
     ⟨⟨hQ3.1.grown h2 hsz3 (fun q hq=>(hlk q hq).1),hQ3.2.grown h2 (fun e=>hO3.neBlk hQ3.2 dQ e.symm)⟩,by rw[hnx,xD,zK,List.flatMap_nil,zT];exact h1⟩
    replace hO3:=Hd hO3;replace hsr:=Hd hsr;replace hup:=Hd hup;replace hnx:=Hd hnx;replace hlk:=Hd hlk;clear hO hQ hQ3 hB1 hB2 hbn hx hrn hv;rcases hgd with h4 |⟨h4,h11⟩
    all_goals
     go_wp2_with (at_builtin;refine wpa rfl (.tmp 34) (.tmp 36) _ rfl (m:=1) (news:=ndD ⟨op,nn,vv,at_,na,nb⟩) elNd hO3.out rfl rfl hsr.out rfl oQ oQ hsz3 ?_;intro v' w9 hO9 hg9 _;obtain⟨hQ9,hO9⟩:=hup.out _ _ hO9 hg9;obtain⟨A9,c9,rfl⟩:=hO9.form;replace hO9:=Hd hO9;replace hQ9:=Hd hQ9;clear hg9);go_roundw
     case rel=>exact⟨j+1,oQ,gQ,hQ9.out,hO9.out⟩
     case measure=>exact mQ
   |true=>
    have hrn:rnv q x={x with v:=vB++itoaB (itemI q x.v)}:=(by unfold rnv;rw[if_pos hv]);rw[hrn]at hnx;have h411:decide (4≤x.op)=true∧decide (x.op≤11)=true:=by unfold isVar at hv;simpa using hv
    obtain⟨h4,h11⟩:=h411;have ki1:=ki.out x.v _ (hQ.1.trans (hB1.mono hsz));have kf1:=kf.out x.v;have hbi:=hbd.out x.v;obtain⟨op,nn,vv,at_,na,nb⟩:=x;simp only[ndV]at z0 z1 z2 z3 z4 z5 hbn hB1 h4 h11 ki1;simp only at kf1 hnx hbi;generalize itemI q vv=I at ki1 kf1 hnx hbi;have hits:=itoaB_size I oQ oQ;generalize itoaB I=S at kf1 hnx hits;have hss:(⟨#[118]⟩:ByteArray).size+S.size≤9223372036854775807:=by show 1+S.size≤_;omega
    obtain⟨y0,y1,y2,y3,y4,y5,y6⟩:=(hQ.stay hB1).cells;simp only at y0 y1 y2 y3 y4 y5 y6;have hO1:=Hd (hO.stay hB1);have hQ1:=Hd (hQ.stay hB1);replace hbn:=Hd hbn;replace ki1:=Hd ki1;replace kf1:=Hd kf1;replace hnx:=Hd hnx;replace hlk:=Hd hlk;replace hB1:=Hd hB1;clear hO hx hrn hv hbi hits hQ;go_upto_region 8 with(first
     |(go_at_call 61;refine ki1.out.mono ?_;rintro e W1 ⟨rfl,hX1⟩;have hB2:=Hd (hQ1.out.1.trans (hX1.mono (zU hsz hB1.out.size)));have kf2:=Hd (kf1.out W1 hB2.out);replace hX1:=Hd hX1;clear y0 y1 y2 y3 y4 y5 y6)
     |(go_at_call 33;refine kf2.out.mono ?_;rintro e W2 ⟨rfl,hX2⟩;have hX:=hX1.out.trans (hX2.mono hX1.out.size);have hbn2:=hbn.out.stay hX;have b2:=hbn2.cell 2;have fb2:=hbn2.frozen 2;simp only[zY,xA]at b2;have hszw:=zU hB1.out.size hX.size;replace hbn2:=Hd hbn2;replace hX:=Hd hX;clear hX1 hX2))
    have hbn3:=hbn2.out.set_ 2 (.string (⟨#[118]⟩++S));have hQ3:QB q ⟨A1,c1,A2,c2,A3,c3⟩ w (W2.setCell ⟨wr.heap.size,2,none⟩ (.string (⟨#[118]⟩++S))):=by
     have h:=hQ1.out.stay hX.out;exact⟨h.1.setCell (p:=⟨wr.heap.size,2,none⟩) hsz _,h.2.far (by show w.heap.size≠wr.heap.size;omega) _⟩
    have hO3:=(hO1.out.stay hX.out).setCell (p:=⟨wr.heap.size,2,none⟩) (fun e=>by have:=hlk.out _ e;simp only at this;omega) (fun h=>h) (.string (⟨#[118]⟩++S));simp only[List.set_cons_zero,List.set_cons_succ]at hbn3;obtain⟨W3,hW3⟩:∃W3,W3=W2.setCell ⟨wr.heap.size,2,none⟩ (.string (⟨#[118]⟩++S)):=⟨_,rfl⟩
    have hss3:wr.heap.size<W3.heap.size:=(by rw[hW3];exact hbn3.lt);rw[←hW3]at hbn3 hQ3 hO3 ⊢;obtain⟨V,hV⟩:∃V,V=(⟨#[118]⟩:ByteArray)++S:=⟨_,rfl⟩
    rw[←hV]at hbn3;have hVx:vB++S=V:=hV.symm;rw[hVx]at hnx;replace hV:=Hd hV;replace hVx:=Hd hVx;clear hW3 hbn2 b2 fb2 hX hbn hO1 hQ1 z0 z1 z2 z3 z4 z5;have y0:=hbn3.cell 0;have y1:=hbn3.cell 1;have y2:=hbn3.cell 2;have y3:=hbn3.cell 3;have y4:=hbn3.cell 4;have y5:=hbn3.cell 5;simp only[zY,xA]at y0 y1 y2 y3 y4 y5;have hB4:Bw W3 (W3.alloc (.cells ⟨[.int .i64 op,.int .i64 nn,.string V,.string at_,.int .i64 na,.int .i64 nb]⟩ 96)):=bA;have hQ4:=hQ3.stay hB4;replace hO3:=hO3.stay hB4;have hsz3:=hQ4.1.size;have hsr:=Src.at1 (w:=W3) (t:=96) (g:=W3.heap.size) rfl (show RdL _ (fun b=>NoF b∧some b≠(Value.slice C1 j d1).ownBlock) [.int .i64 op,.int .i64 nn,.string V,.string at_,.int .i64 na,.int .i64 nb] (ndD ⟨op,nn,V,at_,na,nb⟩)from⟨.v _ rfl,.v _ rfl,.v _ rfl,.v _ rfl,.v _ rfl,.v _ rfl,trivial⟩);have hup:∀v' w9,OL w9 w.heap.size NoF 96 6 v' (j+1) (((t.take j).map (rnv q)).flatMap ndD++ndD ⟨op,nn,V,at_,na,nb⟩)→(W3.alloc (.cells ⟨[.int .i64 op,.int .i64 nn,.string V,.string at_,.int .i64 na,.int .i64 nb]⟩ 96)).grownBy w9 (Value.slice C1 j d1).ownBlock→QB q ⟨A1,c1,A2,c2,A3,c3⟩ w w9∧OL w9 w.heap.size NoF 96 6 v' (j+1) (((t.take (j+1)).map (rnv q)).flatMap ndD):=fun v' w9 h1 h2=>
     ⟨⟨hQ4.1.grown h2 hsz3 (fun q hq=>(hlk.out q hq).1),hQ4.2.grown h2 (fun e=>hO3.neBlk hQ4.2 dQ e.symm)⟩,by rw[hnx.out,xD,zK,List.flatMap_nil,zT];exact h1⟩
    replace hO3:=Hd hO3;replace hsr:=Hd hsr;replace hup:=Hd hup;clear hQ3 hQ4 hbn3 hB4;go_wp2_with (at_builtin;refine wpa rfl (.tmp 34) (.tmp 36) _ rfl (m:=1) (news:=ndD ⟨op,nn,V,at_,na,nb⟩) elNd hO3.out rfl rfl hsr.out rfl oQ oQ hsz3 ?_;intro v' w9 hO9 hg9 _;obtain⟨hQ9,hO9⟩:=hup.out _ _ hO9 hg9;obtain⟨A9,c9,rfl⟩:=hO9.form;replace hO9:=Hd hO9;replace hQ9:=Hd hQ9;clear hg9);go_roundw
    case rel=>exact⟨j+1,oQ,gQ,hQ9.out,hO9.out⟩
    case measure=>exact mQ
  ·obtain rfl:j=t.length:=oQ;have g1:¬(t.length:Int)<t.length:=oQ;rw[zL]at hO;have kx1:=Hd (kx.out C1 d1 wr hQ.1 hO);replace hQ:=Hd hQ;clear hO;go_wp2_with (go_at_call 62;refine kx1.out.mono ?_;rintro e W ⟨rfl,hX⟩;replace hX:=Hd hX);refine bodyPost_ret (results_tmp2 rfl _ _ _) rfl ?_;exact⟨rfl,hQ.out.1.and1 nR hX.out⟩
end shR
end Go.Proofs.YthaabihjeomipaaGreatDoor
