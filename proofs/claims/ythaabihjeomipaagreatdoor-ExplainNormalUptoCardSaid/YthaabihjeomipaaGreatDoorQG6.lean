/- Subtrees of the program. -/
import Derived.Test.YthaabihjeomipaaGreatDoorQG4
import Derived.Laws.MakeOwn
namespace Go.Proofs.YthaabihjeomipaaGreatDoor
set_option maxRecDepth 100000
set_option maxHeartbeats 16000000
open Go.RowKit Go.Deep Go.Maps
set_option linter.unusedVariables false
set_option linter.unusedSimpArgs false
theorem Sp.inv {t:List Nd}{b r:Nat}(h:Sp t b r):∃x,t[r]? =some x∧((isLf x.op=true∧x.a= -1∧x.b= -1∧b=r)∨(∃j:Nat,isUn x.op=true∧x.a=j∧x.b= -1∧Sp t b j∧j+1=r)∨(∃m j:Nat,isBi x.op=true∧x.a=m∧x.b=j∧Sp t b m∧Sp t (m+1) j∧j+1=r)):=by
 cases h with
 |lf hx h1 h2 h3=>exact⟨_,hx,.inl ⟨h1,h2,h3,rfl⟩⟩
 |un hx h1 h2 h3 h4=>exact⟨_,hx,.inr (.inl ⟨_,h1,h2,h3,h4,rfl⟩)⟩
 |bi hx h1 h2 h3 h4 h5=>exact⟨_,hx,.inr (.inr ⟨_,_,h1,h2,h3,h4,h5,rfl⟩)⟩
theorem run_made {P:Program}{t e size bytes:Nat}(T:ElT P t e size bytes)(n:Nat)(hn:n≤1048576)(hb:bytes≤1024):∃zs:List Value,zs.length=n*size∧∀w:World,(Instr.makeSlice t (.int .i64 (n:Int)) (.int .i64 (n:Int))).run P w=.ok (.slice (some ⟨w.heap.size,0,none⟩) n n) (w.alloc (.cells ⟨zs⟩ e)):=by
 obtain⟨hs,⟨i,z,hi,hz,hsz,hby,hzs⟩,hp⟩:=T;subst hsz hby;refine⟨(madeCells z.cells (n*i.size)).toList,?_,fun w=>?_⟩
 ·rw[Array.length_toList];exact size_madeCells _ _
 ·have hbb:(i.bytes:Int)*(n:Int)≤281474976710656:=by
   have h:i.bytes*n≤1024*1048576:=Nat.mul_le_mul hb hn;have:((i.bytes*n:Nat):Int)≤281474976710656:=oQ;rwa [Int.natCast_mul]at this
  have hr:=run_make (P:=P) w t e i z hs hi hz .i64 .i64 n n oQ (Int.le_refl _) hbb oQ;simp only[Int.toNat_natCast]at hr;exact hr
theorem run_tail {P:Program}{t e size bytes:Nat}(T:ElT P t e size bytes)(g off n cap b:Nat)(h1:b<cap)(h2:b≤n)(h3:n≤cap)(W:World):(Instr.slice t (.slice (some ⟨g,off,none⟩) n cap) (some (.int .i64 (b:Int))) none none).run P W=.ok (.slice (some ⟨g,off+b*size,none⟩) (n-b) (cap-b)) W:=by
 obtain⟨hs,⟨i,z,hi,hz,hsz,hb,hzs⟩,hp⟩:=T;have h0:(0:Int)≤(b:Int):=oQ;have g1:(b:Int)≤(n:Int):=oQ;have g2:(n:Int)≤(cap:Int):=oQ;have g3:¬b=cap:=oQ;have g4:¬cap=b:=oQ;simp[Instr.slice,run_underlying hs,Instr.sliceBounds,run_sliceBound,sizeOf,typeInfo,hi,h0,g1,g2,g3,g4,h2,h3,Addr.add,hsz]
def NdL (t:List Nd)(b n:Nat):List Nd:=(t.drop b).take n
theorem NdL_get {t:List Nd}{b n i:Nat}{x:Nd}(h:(NdL t b n)[i]? =some x):t[b+i]? =some x∧i<n:=by
 unfold NdL at h;rw[zZ]at h;split at h
 ·rename_i hi;rw[xT]at h;exact⟨h,hi⟩
 ·cases h
theorem NdL_len {t:List Nd}{b n:Nat}(h:b+n≤t.length):(NdL t b n).length=n:=by unfold NdL;rw[zO,List.length_drop];omega
theorem ndV_len (x:Nd):(ndV x).length=6:=rfl
theorem nd_src {t:List Nd}{b n j:Nat}{v:Value}(h:((NdL t b n).flatMap ndV)[j]? =some v):(t.flatMap ndD)[b*6+j]? =some (.v v)∧v.oneCell'=true:=by
 have hj:=(zC.1 h).1;rw[fml (m:=6) ndV_len]at hj;obtain⟨x,hx⟩:=getx (l:=NdL t b n) (i:=j / 6) oQ;have hc:j % 6<6:=Nat.mod_lt _ oQ;have e:j / 6*6+j % 6=j:=oQ;obtain⟨u,hu⟩:∃u,(ndV x)[j % 6]? =some u:=getx (by rw[ndV_len];exact hc)
 have h1:=fmg ndV_len hx hu;rw[e,h]at h1;injection h1 with h1
 subst h1;have h2:(ndD x)[j % 6]? =some (.v v):=by
  have:ndD x=(ndV x).map .v:=rfl;rw[this,zG,hu];rfl
 have h3:=fmg (f:=ndD) (m:=6) (fun _=>rfl) (NdL_get hx).1 h2;refine⟨by rw[←h3];congr 1;omega,?_⟩;have:v∈ndV x:=zA hu;simp only[ndV,List.mem_cons,List.not_mem_nil,or_false]at this;rcases this with h |h |h |h |h |h<;>rw[h]<;>rfl
theorem ndV_set {c:Nat}{p p':Nd}{x:Value}(hc:c<6)(h:ndV p'=(ndV p).set c x):∀{l:List Nd}{i:Nat},l[i]? =some p→(l.flatMap ndV).set (i*6+c) x=(l.set i p').flatMap ndV:=by
 intro l;induction l with
 |nil=>intro i hp;simp at hp
 |cons a l ih=>
  intro i hp;cases i with
  |zero=>
   simp only[zY,Option.some.injEq]at hp;subst hp;rw[List.set_cons_zero,zK,zK,h,List.set_append,ndV_len,if_pos oQ,Nat.zero_mul,Nat.zero_add]
  |succ k=>
   simp only[xA]at hp;rw[List.set_cons_succ,zK,zK,←ih hp,List.set_append,ndV_len,if_neg oQ,show(k+1)*6+c-6=k*6+c by omega]
def shR (L:List Nd)(b j:Nat):List Nd:=(L.take j).map (shiftN b)++L.drop j
theorem shR_get {L:List Nd}{b j:Nat}{x:Nd}(h:L[j]? =some x):(shR L b j)[j]? =some x∧(shR L b j).set j (shiftN b x)=shR L b (j+1):=by
 obtain⟨h1,h2⟩:=zC.1 h;have hl:((L.take j).map (shiftN b)).length=j:=by rw[xC,zO];omega
 unfold shR;rw[List.drop_eq_getElem_cons h1,h2];constructor
 ·rw[zP oQ,hl,Nat.sub_self];rfl
 ·rw[List.set_append_right _ _ oQ,hl,Nat.sub_self,List.set_cons_zero,zJ,h,xR];simp
theorem shR_end (L:List Nd)(b:Nat):shR L b L.length=L.map (shiftN b):=by unfold shR;rw[zL,List.drop_length,zT]
theorem shR_len (L:List Nd)(b j:Nat):(shR L b j).length=L.length:=by unfold shR;rw[zH,xC,zO,List.length_drop];omega
def TrPost (L:List Nd)(w:World)(e:Ending)(w':World):Prop:=∃v,e=.returned v∧OL w' w.heap.size NoF 96 6 v L.length (L.flatMap ndD)∧Bw w w'
theorem TrPost.mk {L:List Nd}{w w':World}{v:Value}(h:OL w' w.heap.size NoF 96 6 v L.length (L.flatMap ndD))(hb:Bw w w'):TrPost L w (.returned v) w':=⟨v,rfl,h,hb⟩
theorem ol_nodes {w:World}{B g:Nat}{L:List Nd}(hB:B≤g)(hb:Blk w g 96 (L.flatMap ndV))(hl:L.length≤1048576):OL w B NoF 96 6 (.slice (some ⟨g,0,none⟩) L.length L.length) L.length (L.flatMap ndD):=by
 refine OL.of_blk hB hb nR (by unfold maxLen;omega) (fml ndV_len _) (fml (f:=ndD) (m:=6) (fun _=>rfl) _) fun k d hd=>?_
 have e:L.flatMap ndD=(L.flatMap ndV).map .v:=by rw[List.map_flatMap];rfl
 rw[e,zG]at hd;obtain⟨v,hv,rfl⟩:=xG.1 hd;have:v.oneCell'=true:=by
  have h2:((NdL L 0 L.length).flatMap ndV)[k]? =some v:=by unfold NdL;rw[List.drop_zero,zL];exact hv
  exact(nd_src h2).2
 exact⟨v,hv,.v _ this⟩
namespace ckW
open nmW
theorem size_k (A:Option Addr)(c:Nat)(F:Nat→Prop)(t:List Nd)(hl:t.length≤1048576)(w:World)(r:Rd w F (.slice A t.length c) (.sl t.length (t.flatMap ndD))):∀(n b rt:Nat),rt<n→Sp t b rt→
  Calls Tryz.prog 121 #[.slice A t.length c,.int .i64 rt] w fun e w'=>e=.returned (.int .i64 ((rt+1-b:Nat):Int))∧w'=w:=by
 intro n;induction n with
 |zero=>intro b rt h;omega
 |succ n ih=>
  intro b rt hn hsp;have hle:=hsp.le;have hlt:=hsp.lt;obtain⟨x,hx,hcs⟩:=hsp.inv;obtain⟨g,off,rfl,_,z0,z1,z2,z3,z4,z5⟩:=nd_at r hx;have g0:(0:Int)≤(rt:Int):=oQ;have g1:(rt:Int)<t.length:=oQ;obtain⟨R,hR⟩:∃R:Nat,R=rt+1-b:=⟨_,rfl⟩
  rw[←hR];rcases hcs with⟨_,ha,hb,he⟩|⟨j,_,ha,hb,hs,he⟩|⟨m,j,_,ha,hb,hs1,hs2,he⟩
  ·rw[ha]at z4;rw[hb]at z5;have hfin:=Hd (show (1:Int)=R from oQ);clear ih hsp ha hb he hx hR r z0 z1 z2 z3;go_enter Tryz.func121,Tryz.ntmps121;go_wp2_with fail;go_ret;exact⟨rtI hfin.out,rfl⟩
  ·have hlj:=hs.le;have k1:=ih b j oQ hs;obtain⟨n1,hn1⟩:∃n1:Nat,n1=j+1-b:=⟨_,rfl⟩
   rw[←hn1]at k1;rw[ha]at z4;rw[hb]at z5;have hfin:=Hd (show (1:Int)+n1=R from oQ);have p1:(0:Int)≤(j:Int):=oQ;have p2:(n1:Int)≤1048576:=oQ;replace k1:=Hd k1;clear ih hsp ha hb he hx hR r z0 z1 z2 z3 hn1 hs;go_enter Tryz.func121,Tryz.ntmps121;go_wp2_with (go_at_call 121;refine k1.out.mono ?_;rintro e W ⟨rfl,hW⟩;subst W);go_ret;exact⟨rtI hfin.out,rfl⟩
  ·have hlj:=hs1.le;have hlj2:=hs2.le;have k1:=ih b m oQ hs1;have k2:=ih (m+1) j oQ hs2;obtain⟨n1,hn1⟩:∃n1:Nat,n1=m+1-b:=⟨_,rfl⟩
   rw[←hn1]at k1;obtain⟨n2,hn2⟩:∃n2:Nat,n2=j+1- (m+1):=⟨_,rfl⟩
   rw[←hn2]at k2;rw[ha]at z4;rw[hb]at z5;have hfin:(1:Int)+n1+n2=R:=oQ;have p1:(0:Int)≤(j:Int):=oQ;have p0:(0:Int)≤(m:Int):=oQ;have p2:(n1:Int)≤1048576:=oQ;have p3:(n2:Int)≤1048576:=oQ;have tok0:=True.intro;replace hfin:=Hd hfin;replace k1:=Hd k1;replace k2:=Hd k2;clear ih hsp ha hb he hx hR r z0 z1 z2 z3 hn1 hn2 hs1 hs2;go_enter Tryz.func121,Tryz.ntmps121;go_wp2_with (first
    |(go_at_call 121;have _t:=tok0;clear tok0;refine k1.out.mono ?_;rintro e W ⟨rfl,hW⟩;subst W)
    |(go_at_call 121;refine k2.out.mono ?_;rintro e W ⟨rfl,hW⟩;subst W))
   go_ret;exact⟨rtI hfin.out,rfl⟩
theorem Size_k (A:Option Addr)(c:Nat)(F:Nat→Prop)(t:List Nd)(hs:SzN t)(w:World)(hK:KwIs w)(hF:∀b,F b→b<w.heap.size)(r:Rd w F (.slice A t.length c) (.sl t.length (t.flatMap ndD)))(ht:treeB t=true){b rt:Nat}(hsp:Sp t b rt):
  Calls Tryz.prog 77 #[.slice A t.length c,.int .i64 rt] w fun e w'=>e=.returned (.int .i64 ((rt+1-b:Nat):Int))∧Bw w w':=by
 have k1:=tree_k A c F t hs w hK hF r;rw[ht]at k1;have k2:∀W,Bw w W→_:=fun W hW=>size_k A c F t hs.1 W (r.under hW hF) (rt+1) b rt oQ hsp
 have hlt:=hsp.lt;have g0:¬(rt:Int)<0:=oQ;have g1:¬(t.length:Int)≤(rt:Int):=oQ;have g2:¬t.length≤rt:=oQ;have g3:decide (t.length≤rt)=false:=zV g2;generalize rt+1-b=R at k2 ⊢;replace k1:=Hd k1;replace k2:=Hd k2;clear hs hK hF r ht hsp hlt;go_enter Tryz.func77,Tryz.ntmps77;go_wp2_with (first
  |(go_at_call 75;refine k1.out.mono ?_;rintro e W ⟨rfl,hW⟩;have k3:=Hd (k2.out W hW);replace hW:=Hd hW)
  |(go_at_call 121;refine k3.out.mono ?_;rintro e W2 ⟨rfl,hW2⟩;subst W2))
 go_ret;exact⟨rfl,hW.out⟩
end ckW
end Go.Proofs.YthaabihjeomipaaGreatDoor
