/- The document's Conjuncts and Sub. -/
import Derived.Test.YthaabihjeomipaaGreatDoorQGf
import Derived.Test.YthaabihjeomipaaGreatDoorQD3
namespace Go.Proofs.YthaabihjeomipaaGreatDoor
set_option maxRecDepth 100000
set_option maxHeartbeats 16000000
open Go.RowKit Go.Deep Go.Maps
set_option linter.unusedVariables false
set_option linter.unusedSimpArgs false
def topF (t:List Nd):Nat→Nat→Bool
 |0,_=>true
 |f+1,i=>match upF t t.length i with | .ofNat k=>topF t f k&&decide (opAt t k=25)| .negSucc _=>true
theorem topF_mono {t:List Nd}(ha:AllSp t t.length):∀(f g i:Nat),t.length-i≤f→t.length-i≤g→topF t f i=topF t g i:=by
 intro f;induction f with
 |zero=>
  intro g i h1 h2;cases g with
  |zero=>rfl
  |succ g=>
   unfold topF;rcases upF_cases t t.length i with⟨h,_⟩|⟨k,h⟩
   ·rw[h];rfl
   ·have:=up_gt ha h;omega
 |succ f ih=>
  intro g i h1 h2;cases g with
  |zero=>
   unfold topF;rcases upF_cases t t.length i with⟨h,_⟩|⟨k,h⟩
   ·rw[h];rfl
   ·have:=up_gt ha h;omega
  |succ g=>
   unfold topF;rcases upF_cases t t.length i with⟨h,_⟩|⟨k,h⟩
   ·rw[h];rfl
   ·rw[h];have:=up_gt ha h;show(topF t f k&&_)=(topF t g k&&_)
    rw[ih g k oQ oQ]
def topB (t:List Nd)(i:Nat):Bool:=topF t t.length i
theorem topB_eq {t:List Nd}(ha:AllSp t t.length){i:Nat}(hi:i<t.length):topB t i=(match upF t t.length i with | .ofNat k=>topB t k&&decide (opAt t k=25)| .negSucc _=>true):=by
 unfold topB;obtain⟨n,hn⟩:∃n,t.length=n+1:=⟨t.length-1,oQ⟩
 rw[hn];show(match upF t t.length i with | .ofNat k=>topF t n k&&_ | .negSucc _=>true)=_
 rw[hn];rcases upF_cases t (n+1) i with⟨h,_⟩|⟨k,h⟩
 ·rw[h];rfl
 ·rw[h];have h':upF t t.length i=(k:Int):=by rw[hn];exact h
  have:=up_gt ha h';show(topF t n k&&_)=(topF t (n+1) k&&_)
  rw[topF_mono ha n (n+1) k oQ oQ]
def cjG (t:List Nd)(i:Nat):Bool:=topB t i&& !decide (opAt t i=25)
theorem shN_next {t:List Nd}{b m:Nat}{x:Nd}(h:t[b+m]? =some x):(NdL t b (m+1)).map (shiftN b)=(NdL t b m).map (shiftN b)++[shiftN b x]:=by
 unfold NdL;have:(t.drop b).take (m+1)=(t.drop b).take m++[x]:=by rw[zJ,xT,h];rfl
 rw[this,xR];rfl
theorem rdlNd {w:World}{G:Nat→Prop}(x:Nd):RdL w G (ndV x) (ndD x):=⟨.v _ rfl,.v _ rfl,.v _ rfl,.v _ rfl,.v _ rfl,.v _ rfl,trivial⟩
theorem SrcLit {w:World}{G:Nat→Prop}{cs:List Value}{t g:Nat}{ds:List D}(hg:w.heap.size=g)(h:RdL w G cs ds):Src (w.alloc (.cells ⟨cs⟩ t)) (some ⟨g,0,none⟩) ds G:=hg▸Src.lit h
namespace ckW
open nmW
theorem rConj_k (A:Option Addr)(c:Nat)(F:Nat→Prop)(t:List Nd)(hs:SzN t)(ht:treeB t=true)(w:World)(hK:KwIs w)(hF:∀b,F b→b<w.heap.size)(r:Rd w F (.slice A t.length c) (.sl t.length (t.flatMap ndD))):
  Calls Tryz.prog 26 #[.slice A t.length c] w (IlPost (conjs t) w):=by
 have k0:=refTree_k A c F t hs w hK hF r;rw[ht]at k0;have hl:=hs.1;have k1:∀W,Bw w W→Calls Tryz.prog 59 #[.slice A t.length c] W (RowPost 62 3 t.length (upV t t.length t.length) W):=fun W hW=>parents_k A c F t hl ht W (fun b h=>zF (hF b h) hW.size) (r.under hW hF)
 obtain⟨_,ha,_⟩:=treeB_sp ht;have heq:=fun i=>topB_eq ha (i:=i)
 have hgt:=fun i k=>up_gt ha (i:=i) (k:=k)
 have hge:=fun i=>upF_ge t t.length i
 have hcj:=conjs_eq ht (g:=topB t) (fun i hi=>topB_eq ha hi);have hnd:∀(i:Nat) W,i<t.length→Bw w W→∃g off,A=some ⟨g,off,none⟩∧W.cell? ⟨g,off+i*6,none⟩=some (.int .i64 (opAt t i)):=fun i W hi hW=>by
  obtain⟨x,hx⟩:=getx hi;obtain⟨g,off,e,_,z0,_⟩:=nd_at (r.under hW hF) hx;exact⟨g,off,e,by rw[opAt_of hx];exact z0⟩
 have hpos:0<t.length:=by
  obtain⟨⟨n,hn,_⟩,_,_⟩:=treeB_sp ht;omega
 obtain⟨g,off,rfl,_⟩:=hnd 0 w hpos bR;have hnd2:∀(i:Nat) W,i<t.length→Bw w W→W.cell? ⟨g,off+i*6,none⟩=some (.int .i64 (opAt t i)):=fun i W hi hW=>by
  obtain⟨_,_,e,z⟩:=hnd i W hi hW;injection e with e
  injection e with e1 e2
  subst e1 e2;exact z
 have hgl:g<w.heap.size:=zX w _ (hnd2 0 w hpos bR);obtain⟨zs,hz,hmk⟩:=run_made (P:=Tryz.prog) elBool t.length hl oQ;replace hz:zs.length=t.length:=oQ;have hup0:upV t t.length t.length=(List.range t.length).map fun j=>.int .i64 (upF t t.length j):=rfl
 have hcj2:(List.range t.length).filter (cjG t)=conjs t:=hcj;have hcg:∀i,cjG t i=(topB t i&& !decide (opAt t i=25)):=fun i=>rfl
 generalize hO:opAt t=O at*;generalize hT:topB t=T at*;generalize hG:cjG t=G at*;generalize hC:conjs t=C at*;generalize hn:t.length=n at*;generalize hU:upF t n=U at*;replace heq:=Hd heq;replace hgt:=Hd hgt;replace hge:=Hd hge;replace k0:=Hd k0;replace k1:=Hd k1;replace hup0:=Hd hup0;replace hnd2:=Hd hnd2;replace hcj2:=Hd hcj2;replace hcg:=Hd hcg;clear hU hn hC hG hT hO ht ha r hF hK hs hcj hnd;have nw:IntKind.i64.wrap ((n:Int) -1)=(n:Int) -1:=by rw[xI];omega
 go_enter Tryz.func26,Tryz.ntmps26;go_wp2_with (first
  |(go_at_call 58;refine k0.out.mono ?_;rintro e W0 ⟨rfl,hW0⟩;have k2:=Hd (k1.out W0 hW0);replace hW0:=Hd hW0)
  |(go_at_call 59;refine k2.out.mono ?_;rintro e W ⟨gu,rfl,hgu,hbu,hW⟩;rw[hup0.out]at hbu;have hgul:=hbu.lt;replace hbu:=Hd hbu;replace hW:=Hd (hW0.out.trans (hW.mono hW0.out.size))))
 have hb0:Blk (W.alloc (.cells ⟨zs⟩ 4)) W.heap.size 4 zs:=Blk.new _ _ _;have hX0:Bw W (W.alloc (.cells ⟨zs⟩ 4)):=bA;have hws:=hW.out.size;go_loopw [6] (fun i wr=>∃(m:Nat)(cs:List Value),m≤n∧i=.int .i64 ((m:Int) -1)∧Bw W wr∧Blk wr W.heap.size 4 cs∧cs.length=n∧Hid (∀k,m≤k→k<n→cs[k]? =some (.bool (T k)))) (fun i _=>((intOf i)+1).toNat)
 case atStart=>exact⟨n,zs,nR,rfl,hX0,hb0,hz,fun k hk h2=>by omega⟩
 case round=>
  clear hX0 hb0;obtain⟨m,cs,hm,hi,hB,hb,hcl,hc⟩:=hrel;have hB':Bw w wr:=hW.out.trans (hB.mono hws);by_cases hm0:m=0
  ·subst hm0;obtain rfl:=(hi.trans rfl:_=Value.int .i64 (-1));clear hi;have hcs:cs=(List.range n).map fun i=>.bool (T i):=by
    apply List.ext_getElem?;intro i;by_cases hi:i<n
    ·rw[hc.out i (zE _) hi,rg_get hi]
    ·rw[xO oQ,xO (by simp;omega)]
   rw[hcs]at hb;replace hb:=Hd hb;replace hB':=Hd hB';replace hcs:=Hd hcs;clear hcl hB;have hgt2:w.heap.size≤W.heap.size:=hws;obtain⟨wo,hwo⟩:∃wo:World,wo=wr:=⟨_,rfl⟩
   subst hwo;go_wp2;go_loopw [7,8] (fun v i wr=>∃(j:Nat)(L:List Nat),j≤n∧i=.int .i64 j∧Hid (L=(List.range j).filter G)∧Bw w wr∧Blk wr W.heap.size 4 ((List.range n).map fun i=>.bool (T i))∧OL wr w.heap.size NoF 3 1 v L.length (L.map cjD)) (fun _ i _=>n- (intOf i).toNat)
   case atStart=>exact⟨0,[],zE _,rfl,rfl,hB'.out,hb.out,OL.nil _ _ _ _ _⟩
   case round=>
    clear hB' hb;obtain⟨j,L,hj,rfl,hL,hB,hb,hO⟩:=hrel;have hnx:=filt_next (p:=G) j;have hln:=filt_len (p:=G) j;rw[←hL.out]at hnx hln;obtain⟨A4,c4,rfl⟩:=hO.form;have hbw:=hB.size;by_cases hlt:j<n
    ·have g1:(0:Int)≤(j:Int):=oQ;have g2:(j:Int)<n:=oQ;have q1:=(hb.cell j).trans (rg_get hlt);have q2:=hnd2.out j wr hlt hB;have hgj:=hcg.out j;have hup:∀v' w1,(wr.alloc (.cells ⟨[.int .i64 (j:Nat)]⟩ 3)).grownBy w1 (Value.slice A4 L.length c4).ownBlock→OL w1 w.heap.size NoF 3 1 v' (L.length+1) (L.map cjD++[cjD j])→Bw w w1∧Blk w1 W.heap.size 4 ((List.range n).map fun i=>.bool (T i))∧OL w1 w.heap.size NoF 3 1 v' (L++[j]).length ((L++[j]).map cjD):=fun v' w1 hg hO1=>
      ⟨(hB.alloc hbw _).grown hg (by simp;omega) (fun q hq=>(hO.lt q hq).1),(hb.alloc _).grown hg (fun e=>hO.neBlk hb dQ e.symm),by rw[zH,xR];exact hO1⟩
     have hown:=Hd (hO.alloc (.cells ⟨[.int .i64 (j:Nat)]⟩ 3));have hLL:L.length≤1048576:=oQ;have hgne:g≠W.heap.size:=oQ;replace hup:=Hd hup;replace hB:=Hd hB;replace hb:=Hd hb;replace hO:=Hd hO;generalize T j=tv at*;generalize O j=ov at*;cases tv with
     |false=>
      have hnx2:Hid (L=(List.range (j+1)).filter G):=by show _=_;rw[hnx,hgj];simp
      clear hnx hgj;go_wp2;go_roundw
      case rel=>exact⟨j+1,L,oQ,gQ,hnx2,hB.out,hb.out,hO.out⟩
      case measure=>exact mQ
     |true=>
      by_cases ho:ov=25
      ·have f1:=bneF ho;have hnx2:Hid (L=(List.range (j+1)).filter G):=by show _=_;rw[hnx,hgj,zW ho];simp
       clear hnx hgj;replace ho:=Hd ho;go_wp2;go_roundw
       case rel=>exact⟨j+1,L,oQ,gQ,hnx2,hB.out,hb.out,hO.out⟩
       case measure=>exact mQ
      ·have f1:=bneT ho;have hnx2:Hid (L++[j]=(List.range (j+1)).filter G):=by show _=_;rw[hnx,hgj,zV ho];simp
       clear hnx hgj;replace ho:=Hd ho;go_wp2_with (at_builtin;refine wpa rfl (.tmp 71) (.tmp 73) _ rfl (m:=1) (news:=[cjD j]) elInt hown.out rfl rfl (Src.lit (show RdL wr _ [.int .i64 j] [cjD j]from⟨.v _ rfl,trivial⟩)) rfl oQ oQ (by simp;omega) ?_;intro v' w1 hO1 hg1 ha1;obtain⟨B3,d3,rfl⟩:=hO1.form;have hI3:=Hd (hup.out _ _ hg1 hO1);clear hO1 hg1 ha1);go_roundw
       case rel=>exact⟨j+1,L++[j],oQ,gQ,hnx2,hI3.out.1,hI3.out.2.1,hI3.out.2.2⟩
       case measure=>exact mQ
    ·have g1:¬(j:Int)<n:=oQ;obtain rfl:j=n:=oQ;have hfin:Hid (L=C):=hL.out.trans hcj2.out;replace hB:=Hd hB;replace hO:=Hd hO;replace hb:=Hd hb;go_wp2;go_ret;have hf:=hfin.out;subst hf;exact IlPost.mk hO.out hB.out
  ·obtain⟨k,rfl⟩:∃k,m=k+1:=⟨m-1,oQ⟩
   obtain rfl:=(hi.trans (by congr 1;omega):_=Value.int .i64 (k:Int));clear hi hm0;have hkn:k<n:=oQ;obtain⟨u,hu⟩:=getx (l:=cs) (i:=k) oQ;have c4:=(hb.cell k).trans hu;have d4:=hb.frozen k;have cu:∀j,j<n→wr.cell? ⟨gu,j,none⟩=some (.int .i64 (U j)):=fun j hj=>by
    have h1:=(hbu.out.stay hB).cell j;rw[h1,rg_get hj]
   have q1:=cu k hkn;have hek:=heq.out k hkn;have g1:(0:Int)≤(k:Int):=oQ;have g2:(k:Int)<n:=oQ;have hgne:gu≠W.heap.size:=oQ;have hgne2:g≠W.heap.size:=oQ;have fin:∀v:Bool,v=T k→Hid (∀k',k≤k'→k'<n→(cs.set k (.bool v))[k']? =some (.bool (T k'))):=fun v hv k' hk hk'=>by
    rw[xL];by_cases e:k=k'
    ·subst e;rw[if_pos rfl,if_pos oQ,hv]
    ·rw[if_neg e];exact hc.out k' oQ hk'
   have hb2:=fun v:Bool=>hb.set_ k (.bool v)
   have hB2:=fun v:Bool=>hB.setCell (p:=⟨W.heap.size,k,none⟩) nR (.bool v)
   have hmk2:k≤n:=oQ;have hgg:=hge.out k;replace fin:=Hd fin;replace hb2:=Hd hb2;replace hB2:=Hd hB2;have hcl2:=Hd hcl;by_cases hu0:U k<0
   ·have hum:U k= -1:=oQ;have hv:true=T k:=by rw[hek,hum];rfl
    have hfin:=Hd (fin.out true hv);have hfb:=Hd (hb2.out true);have hfB:=Hd (hB2.out true);rw[hum]at q1;replace hv:=Hd hv;replace hek:=Hd hek;replace hb:=Hd hb;replace hB:=Hd hB;replace hB':=Hd hB';replace hu:=Hd hu;replace hum:=Hd hum;clear hcl cu hgg hu0;go_wp2;go_roundw
    case rel=>exact⟨k,_,hmk2,gQ,hfB.out,hfb.out,by rw[List.length_set];exact hcl2.out,hfin.out⟩
    case measure=>simp[intOf]
   ·obtain⟨p,hp⟩:∃p:Nat,U k=p:=⟨(U k).toNat,oQ⟩
    obtain⟨p1,p2⟩:=hgt.out k p hp;have hcp:=(hb.cell p).trans (hc.out p oQ p2);have q2:=hnd2.out p wr p2 hB';have p3:(p:Int)<n:=oQ;have p4:(0:Int)≤(p:Int):=oQ;have hv:(T p&&decide (O p=25))=T k:=by rw[hek,hp]
    have hfin:=fun v h=>fin.out v h
    have hfb:=fun v=>hb2.out v
    have hfB:=fun v=>hB2.out v
    rw[hp]at q1;generalize T p=vp at*;generalize O p=op at*;have hvH:=Hd hv;replace hfin:=Hd hfin;replace hfb:=Hd hfb;replace hfB:=Hd hfB;replace hek:=Hd hek;replace hb:=Hd hb;replace hB:=Hd hB;replace hB':=Hd hB';replace hu:=Hd hu;replace hp:=Hd hp;clear hcl cu hgg hu0 hv;cases vp with
    |false=>
     have hfin2:=Hd (hfin.out false hvH.out);have hfb2:=Hd (hfb.out false);have hfB2:=Hd (hfB.out false);go_wp2;go_roundw
     case rel=>exact⟨k,_,hmk2,gQ,hfB2.out,hfb2.out,by rw[List.length_set];exact hcl2.out,hfin2.out⟩
     case measure=>simp[intOf]
    |true=>
     by_cases ho:op=25
     ·have f1:=beqT ho;have hfin2:=Hd (hfin.out true (by have:=hvH.out;rwa [zW ho]at this));have hfb2:=Hd (hfb.out true);have hfB2:=Hd (hfB.out true);replace ho:=Hd ho;go_wp2;go_roundw
      case rel=>exact⟨k,_,hmk2,gQ,hfB2.out,hfb2.out,by rw[List.length_set];exact hcl2.out,hfin2.out⟩
      case measure=>simp[intOf]
     ·have f1:=beqF ho;have hfin2:=Hd (hfin.out false (by have:=hvH.out;rwa [zV ho]at this));have hfb2:=Hd (hfb.out false);have hfB2:=Hd (hfB.out false);replace ho:=Hd ho;go_wp2;go_roundw
      case rel=>exact⟨k,_,hmk2,gQ,hfB2.out,hfb2.out,by rw[List.length_set];exact hcl2.out,hfin2.out⟩
      case measure=>simp[intOf]
theorem rSub_k (A:Option Addr)(c:Nat)(F:Nat→Prop)(t:List Nd)(hs:SzN t)(ht:treeB t=true){b rt:Nat}(hsp:Sp t b rt)(w:World)(hK:KwIs w)(hF:∀b,F b→b<w.heap.size)(r:Rd w F (.slice A t.length c) (.sl t.length (t.flatMap ndD))):
  Calls Tryz.prog 27 #[.slice A t.length c,.int .i64 rt] w (TrPost (subL t b rt) w):=by
 have k0:=refTree_k A c F t hs w hK hF r;rw[ht]at k0;have hl:=hs.1;have hrl:=hsp.lt;have hle:=hsp.le;have k1:∀W,Bw w W→Calls Tryz.prog 60 #[.slice A t.length c,.int .i64 rt] W (RowPost 113 4 t.length ((List.range t.length).map fun i=>.bool (inB b rt i)) W):=fun W hW=>below_k A c F t hl ht hsp W (fun b h=>zF (hF b h) hW.size) (r.under hW hF)
 have hab:=treeB_lt ht;have hsub:subL t b rt=(NdL t b (rt+1-b)).map (shiftN b):=rfl;rw[hsub];have hLl:(NdL t b (rt+1-b)).length≤1048576:=by unfold NdL;rw[zO];omega
 replace k0:=Hd k0;replace k1:=Hd k1;replace hab:=Hd hab;replace r:=Hd r;replace hF:=Hd hF;clear ht hsp hK hs hsub;go_enter Tryz.func27,Tryz.ntmps27;go_wp2_with (first
  |(go_at_call 58;refine k0.out.mono ?_;rintro e W0 ⟨rfl,hW0⟩;have k2:=Hd (k1.out W0 hW0);replace hW0:=Hd hW0)
  |(go_at_call 60;refine k2.out.mono ?_;rintro e W ⟨gi,rfl,hgi,hbi,hW⟩;have hgil:=hbi.lt;replace hbi:=Hd hbi;replace hW:=Hd (hW0.out.trans (hW.mono hW0.out.size))))
 go_loopw [7,8,9] (fun v f i wr=>∃(j:Nat)(L:List Nd),j≤t.length∧i=.int .i64 j∧f=.int .i64 (if j≤b then -1 else(b:Int))∧Hid (L=(NdL t b (min j (rt+1) -b)).map (shiftN b))∧Bw w wr∧Blk wr gi 4 ((List.range t.length).map fun i=>.bool (inB b rt i))∧OL wr w.heap.size NoF 96 6 v L.length (L.flatMap ndD)) (fun _ _ i _=>t.length- (intOf i).toNat)
 case atStart=>exact⟨0,[],zE _,rfl,by rw[if_pos (zE _)],by show []=_;rw[show min 0 (rt+1) -b=0 by omega];rfl,hW.out,hbi.out,OL.nil _ _ _ _ _⟩
 case round=>
  obtain⟨j,L,hj,rfl,rfl,hL,hB,hb,hO⟩:=hrel;have hLn:L.length≤1048576:=by
   rw[hL.out,xC];unfold NdL;rw[zO];omega
  obtain⟨A4,c4,rfl⟩:=hO.form;have hbw:=hB.size;have hgw:=hb.lt;by_cases hlt:j<t.length
  ·have g1:(0:Int)≤(j:Int):=oQ;have g2:(j:Int)<t.length:=oQ;have q1:=(hb.cell j).trans (rg_get (f:=fun i=>Value.bool (inB b rt i)) hlt);obtain⟨x,hx⟩:=getx hlt;obtain⟨g,off,rfl,_,z0,z1,z2,z3,z4,z5⟩:=nd_at (r.out.under hB hF.out) hx;obtain⟨⟨xa1,xa2⟩,xb1,xb2⟩:=hab.out x (zA hx);have hup:∀(y:Nd) v' w1 (o:Obj),((wr.alloc o).alloc (.cells ⟨ndV y⟩ 96)).grownBy w1 (Value.slice A4 L.length c4).ownBlock→OL w1 w.heap.size NoF 96 6 v' (L.length+1) (L.flatMap ndD++ndD y)→Bw w w1∧Blk w1 gi 4 ((List.range t.length).map fun i=>.bool (inB b rt i))∧OL w1 w.heap.size NoF 96 6 v' (L++[y]).length ((L++[y]).flatMap ndD):=fun y v' w1 o hg hO1=>
    ⟨((hB.alloc hbw _).alloc (by simp;omega) _).grown hg (by simp;omega) (fun q hq=>(hO.lt q hq).1),((hb.alloc _).alloc _).grown hg (fun e=>hO.neBlk hb dQ e.symm),by rw[zH,xD];simpa using hO1⟩
   by_cases hin:b≤j∧j≤rt
   ·have hv:inB b rt j=true:=(by unfold inB;rw[zW hin.1,zW hin.2];rfl);rw[hv]at q1;have hnx:Hid (L++[shiftN b x]=(NdL t b (min (j+1) (rt+1) -b)).map (shiftN b)):=by
     show _=_
     rw[show min (j+1) (rt+1) -b=(min j (rt+1) -b)+1 by omega,shN_next (x:=x) (by rw[show b+(min j (rt+1) -b)=j by omega];exact hx),hL.out]
    have hsx:shiftN b x={x with a:=if 0≤x.a then x.a-b else x.a,b:=if 0≤x.b then x.b-b else x.b}:=rfl;have hif2:(if j+1≤b then(-1:Int)else(b:Int))=b:=if_neg oQ;have hjb:j≤b→j=b:=fun h=>by omega
    obtain⟨fv,hfv⟩:∃fv:Int,fv=if j≤b then -1 else(b:Int):=⟨_,rfl⟩
    rw[←hfv];have hfc:(fv<0∧j=b)∨fv=(b:Int):=by
     by_cases h:j≤b
     ·left;rw[hfv,if_pos h];omega
     ·right;rw[hfv,if_neg h]
    have hbb:(b:Int)≤1048576:=oQ;have hb0:(0:Int)≤(b:Int):=oQ;replace hup:=Hd hup;replace hB:=Hd hB;replace hb:=Hd hb;replace hO:=Hd hO;replace hv:=Hd hv;replace hif2:=Hd hif2;replace hfv:=Hd hfv;replace hx:=Hd hx;obtain⟨op,nn,v,at_,a,bb⟩:=x;simp only at hsx z0 z1 z2 z3 z4 z5 xa1 xa2 xb1 xb2;obtain⟨a',ha'⟩:∃a',a'=if 0≤a then a- (b:Int)else a:=⟨_,rfl⟩
    obtain⟨b',hb'⟩:∃b',b'=if 0≤bb then bb- (b:Int)else bb:=⟨_,rfl⟩
    rw[←ha',←hb']at hsx;rw[hsx]at hnx;replace hsx:=Hd hsx;rcases hfc with⟨hf0,hf1⟩|hf1
    ·subst hf1;have hjk:(j:Int)≤1048576:=oQ;by_cases pa:0≤a
     ·obtain rfl:a'=a- (j:Int):=by rw[ha'];exact if_pos pa
      replace ha':=Hd ha';by_cases pb:0≤bb
      ·obtain rfl:b'=bb- (j:Int):=by rw[hb'];exact if_pos pb
       replace hb':=Hd hb';go_wp2_with (at_builtin;refine wpa rfl (.tmp 52) (.tmp 54) _ rfl (m:=1) (news:=ndD ⟨op,nn,v,at_,a- (j:Int),bb- (j:Int)⟩) elNd ((hO.out.alloc _).alloc _) rfl rfl (SrcLit sJ (rdlNd ⟨op,nn,v,at_,a- (j:Int),bb- (j:Int)⟩)) rfl oQ oQ (by simp;omega) ?_;intro v' w1 hO1 hg1 ha1;obtain⟨B3,d3,rfl⟩:=hO1.form;have hI3:=Hd (hup.out ⟨op,nn,v,at_,a- (j:Int),bb- (j:Int)⟩ _ _ _ hg1 hO1);clear hO1 hg1 ha1);go_roundw
       case rel=>exact⟨j+1,_,oQ,gQ,by rw[hif2.out],hnx,hI3.out.1,hI3.out.2.1,hI3.out.2.2⟩
       case measure=>exact mQ
      ·obtain rfl:b'=bb:=by rw[hb'];exact if_neg pb
       replace hb':=Hd hb';go_wp2_with (at_builtin;refine wpa rfl (.tmp 52) (.tmp 54) _ rfl (m:=1) (news:=ndD ⟨op,nn,v,at_,a- (j:Int),b'⟩) elNd ((hO.out.alloc _).alloc _) rfl rfl (SrcLit sJ (rdlNd ⟨op,nn,v,at_,a- (j:Int),b'⟩)) rfl oQ oQ (by simp;omega) ?_;intro v' w1 hO1 hg1 ha1;obtain⟨B3,d3,rfl⟩:=hO1.form;have hI3:=Hd (hup.out ⟨op,nn,v,at_,a- (j:Int),b'⟩ _ _ _ hg1 hO1);clear hO1 hg1 ha1);go_roundw
       case rel=>exact⟨j+1,_,oQ,gQ,by rw[hif2.out],hnx,hI3.out.1,hI3.out.2.1,hI3.out.2.2⟩
       case measure=>exact mQ
     ·obtain rfl:a'=a:=by rw[ha'];exact if_neg pa
      replace ha':=Hd ha';by_cases pb:0≤bb
      ·obtain rfl:b'=bb- (j:Int):=by rw[hb'];exact if_pos pb
       replace hb':=Hd hb';go_wp2_with (at_builtin;refine wpa rfl (.tmp 52) (.tmp 54) _ rfl (m:=1) (news:=ndD ⟨op,nn,v,at_,a',bb- (j:Int)⟩) elNd ((hO.out.alloc _).alloc _) rfl rfl (SrcLit sJ (rdlNd ⟨op,nn,v,at_,a',bb- (j:Int)⟩)) rfl oQ oQ (by simp;omega) ?_;intro v' w1 hO1 hg1 ha1;obtain⟨B3,d3,rfl⟩:=hO1.form;have hI3:=Hd (hup.out ⟨op,nn,v,at_,a',bb- (j:Int)⟩ _ _ _ hg1 hO1);clear hO1 hg1 ha1);go_roundw
       case rel=>exact⟨j+1,_,oQ,gQ,by rw[hif2.out],hnx,hI3.out.1,hI3.out.2.1,hI3.out.2.2⟩
       case measure=>exact mQ
      ·obtain rfl:b'=bb:=by rw[hb'];exact if_neg pb
       replace hb':=Hd hb';go_wp2_with (at_builtin;refine wpa rfl (.tmp 52) (.tmp 54) _ rfl (m:=1) (news:=ndD ⟨op,nn,v,at_,a',b'⟩) elNd ((hO.out.alloc _).alloc _) rfl rfl (SrcLit sJ (rdlNd ⟨op,nn,v,at_,a',b'⟩)) rfl oQ oQ (by simp;omega) ?_;intro v' w1 hO1 hg1 ha1;obtain⟨B3,d3,rfl⟩:=hO1.form;have hI3:=Hd (hup.out ⟨op,nn,v,at_,a',b'⟩ _ _ _ hg1 hO1);clear hO1 hg1 ha1);go_roundw
       case rel=>exact⟨j+1,_,oQ,gQ,by rw[hif2.out],hnx,hI3.out.1,hI3.out.2.1,hI3.out.2.2⟩
       case measure=>exact mQ
    ·subst hf1;by_cases pa:0≤a
     ·obtain rfl:a'=a- (b:Int):=by rw[ha'];exact if_pos pa
      replace ha':=Hd ha';by_cases pb:0≤bb
      ·obtain rfl:b'=bb- (b:Int):=by rw[hb'];exact if_pos pb
       replace hb':=Hd hb';go_wp2_with (at_builtin;refine wpa rfl (.tmp 52) (.tmp 54) _ rfl (m:=1) (news:=ndD ⟨op,nn,v,at_,a- (b:Int),bb- (b:Int)⟩) elNd ((hO.out.alloc _).alloc _) rfl rfl (SrcLit sJ (rdlNd ⟨op,nn,v,at_,a- (b:Int),bb- (b:Int)⟩)) rfl oQ oQ (by simp;omega) ?_;intro v' w1 hO1 hg1 ha1;obtain⟨B3,d3,rfl⟩:=hO1.form;have hI3:=Hd (hup.out ⟨op,nn,v,at_,a- (b:Int),bb- (b:Int)⟩ _ _ _ hg1 hO1);clear hO1 hg1 ha1);go_roundw
       case rel=>exact⟨j+1,_,oQ,gQ,by rw[hif2.out],hnx,hI3.out.1,hI3.out.2.1,hI3.out.2.2⟩
       case measure=>exact mQ
      ·obtain rfl:b'=bb:=by rw[hb'];exact if_neg pb
       replace hb':=Hd hb';go_wp2_with (at_builtin;refine wpa rfl (.tmp 52) (.tmp 54) _ rfl (m:=1) (news:=ndD ⟨op,nn,v,at_,a- (b:Int),b'⟩) elNd ((hO.out.alloc _).alloc _) rfl rfl (SrcLit sJ (rdlNd ⟨op,nn,v,at_,a- (b:Int),b'⟩)) rfl oQ oQ (by simp;omega) ?_;intro v' w1 hO1 hg1 ha1;obtain⟨B3,d3,rfl⟩:=hO1.form;have hI3:=Hd (hup.out ⟨op,nn,v,at_,a- (b:Int),b'⟩ _ _ _ hg1 hO1);clear hO1 hg1 ha1);go_roundw
       case rel=>exact⟨j+1,_,oQ,gQ,by rw[hif2.out],hnx,hI3.out.1,hI3.out.2.1,hI3.out.2.2⟩
       case measure=>exact mQ
     ·obtain rfl:a'=a:=by rw[ha'];exact if_neg pa
      replace ha':=Hd ha';by_cases pb:0≤bb
      ·obtain rfl:b'=bb- (b:Int):=by rw[hb'];exact if_pos pb
       replace hb':=Hd hb';go_wp2_with (at_builtin;refine wpa rfl (.tmp 52) (.tmp 54) _ rfl (m:=1) (news:=ndD ⟨op,nn,v,at_,a',bb- (b:Int)⟩) elNd ((hO.out.alloc _).alloc _) rfl rfl (SrcLit sJ (rdlNd ⟨op,nn,v,at_,a',bb- (b:Int)⟩)) rfl oQ oQ (by simp;omega) ?_;intro v' w1 hO1 hg1 ha1;obtain⟨B3,d3,rfl⟩:=hO1.form;have hI3:=Hd (hup.out ⟨op,nn,v,at_,a',bb- (b:Int)⟩ _ _ _ hg1 hO1);clear hO1 hg1 ha1);go_roundw
       case rel=>exact⟨j+1,_,oQ,gQ,by rw[hif2.out],hnx,hI3.out.1,hI3.out.2.1,hI3.out.2.2⟩
       case measure=>exact mQ
      ·obtain rfl:b'=bb:=by rw[hb'];exact if_neg pb
       replace hb':=Hd hb';go_wp2_with (at_builtin;refine wpa rfl (.tmp 52) (.tmp 54) _ rfl (m:=1) (news:=ndD ⟨op,nn,v,at_,a',b'⟩) elNd ((hO.out.alloc _).alloc _) rfl rfl (SrcLit sJ (rdlNd ⟨op,nn,v,at_,a',b'⟩)) rfl oQ oQ (by simp;omega) ?_;intro v' w1 hO1 hg1 ha1;obtain⟨B3,d3,rfl⟩:=hO1.form;have hI3:=Hd (hup.out ⟨op,nn,v,at_,a',b'⟩ _ _ _ hg1 hO1);clear hO1 hg1 ha1);go_roundw
       case rel=>exact⟨j+1,_,oQ,gQ,by rw[hif2.out],hnx,hI3.out.1,hI3.out.2.1,hI3.out.2.2⟩
       case measure=>exact mQ
   ·have hv:inB b rt j=false:=by
     unfold inB;by_cases h1:b≤j
     ·rw[zV (by omega:¬j≤rt),Bool.and_false]
     ·rw[zV h1,Bool.false_and]
    rw[hv]at q1;have hnx:Hid (L=(NdL t b (min (j+1) (rt+1) -b)).map (shiftN b)):=by
     show _=_
     rw[show min (j+1) (rt+1) -b=min j (rt+1) -b by omega,hL.out]
    have hif2:(if j≤b then(-1:Int)else(b:Int))=if j+1≤b then -1 else(b:Int):=by
     by_cases h1:j+1≤b
     ·rw[if_pos h1,if_pos oQ]
     ·rw[if_neg h1,if_neg oQ]
    obtain⟨fv,hfv⟩:∃fv:Int,fv=if j≤b then -1 else(b:Int):=⟨_,rfl⟩
    rw[←hfv]at hif2 ⊢;replace hif2:=Hd hif2;replace hfv:=Hd hfv;replace hB:=Hd hB;replace hb:=Hd hb;replace hO:=Hd hO;replace hv:=Hd hv;replace hx:=Hd hx;clear hup;go_wp2;go_roundw
    case rel=>exact⟨j+1,L,oQ,gQ,by rw[hif2.out],hnx,hB.out,hb.out,hO.out⟩
    case measure=>exact mQ
  ·have g1:¬(j:Int)<t.length:=oQ;obtain rfl:j=t.length:=oQ;have hfin:Hid (L=(NdL t b (rt+1-b)).map (shiftN b)):=by
    show _=_
    rw[hL.out,show min t.length (rt+1) -b=rt+1-b by omega]
   obtain⟨fv,hfv⟩:∃fv:Int,fv=if t.length≤b then -1 else(b:Int):=⟨_,rfl⟩
   rw[←hfv];replace hfv:=Hd hfv;replace hB:=Hd hB;replace hO:=Hd hO;replace hb:=Hd hb;go_wp2;go_ret;have hf:=hfin.out;rw[←hf];exact TrPost.mk hO.out hB.out
end ckW
end Go.Proofs.YthaabihjeomipaaGreatDoor
