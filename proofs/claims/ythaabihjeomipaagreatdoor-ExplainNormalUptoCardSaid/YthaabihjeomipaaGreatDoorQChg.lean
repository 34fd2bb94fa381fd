/- What a call may have changed of memory. -/
import Derived.Test.YthaabihjeomipaaGreatDoorQL6
namespace Go.Proofs.YthaabihjeomipaaGreatDoor
set_option maxRecDepth 100000
set_option maxHeartbeats 16000000
open Go.RowKit Go.Deep
set_option linter.unusedVariables false
structure Chg (S:Nat→Prop)(w w':World):Prop where
 os:w'.os=w.os
 tape:w'.tape=w.tape
 output:w'.output=w.output
 size:w.heap.size≤w'.heap.size
 block:∀k,k<w.heap.size→¬S k→w'.heap[k]? =w.heap[k]?
theorem Chg.refl (S:Nat→Prop)(w:World):Chg S w w:=⟨rfl,rfl,rfl,nR,fun _ _ _=>rfl⟩
theorem Chg.trans {S:Nat→Prop}{a b c:World}(h:Chg S a b)(k:Chg S b c):Chg S a c:=
 ⟨k.os.trans h.os,k.tape.trans h.tape,k.output.trans h.output,zU h.size k.size,fun i hi hs=>(k.block i (zF hi h.size) hs).trans (h.block i hi hs)⟩
theorem Chg.mono {S T:Nat→Prop}{a b:World}(h:Chg S a b)(hk:∀k,k<a.heap.size→S k→T k):Chg T a b:=
 ⟨h.os,h.tape,h.output,h.size,fun i hi hs=>h.block i hi fun e=>hs (hk i hi e)⟩
theorem Chg.of_grown {w w':World}{row:Option Nat}(h:w.grownBy w' row):Chg (fun k=>some k=row) w w':=⟨h.os,h.tape,h.output,h.size,fun k hk hs=>h.block k hk hs⟩
theorem Chg.of_below {w w':World}(h:Bw w w'):Chg (fun _=>False) w w':=⟨h.os,h.tape,h.output,h.size,fun k hk _=>h.block k hk⟩
theorem Chg.below {S:Nat→Prop}{B:Nat}{w w':World}(h:Chg S w w')(hB:B≤w.heap.size)(hS:∀k,k<B→¬S k):Below B w w':=
 ⟨h.os,h.tape,h.output,h.size,fun k hk=>h.block k oQ (hS k hk)⟩
theorem Chg.alloc {S:Nat→Prop}{a w:World}(h:Chg S a w)(o:Obj):Chg S a (w.alloc o):=
 h.trans ⟨rfl,rfl,rfl,sJ,fun k hk _=>Below.heap_alloc _ _ _ hk⟩
theorem Chg.drewN {S:Nat→Prop}{a w:World}(h:Chg S a w)(n:Nat):Chg S a (w.drewN n):=
 h.trans ((Chg.of_below (below_drewN bR n)).mono fun _ _ h=>h.elim)
theorem Chg.setCell {S:Nat→Prop}{a w:World}(h:Chg S a w){p:Addr}(hp:S p.block)(u:Value):Chg S a (w.setCell p u):=
 h.trans ⟨rfl,rfl,rfl,by simp[World.setCell],fun k hk hs=>Below.heap_setCell _ _ _ _ (fun e=>hs (e▸hp))⟩
theorem Chg.setCell' {S:Nat→Prop}{a w:World}(h:Chg S a w){p:Addr}(hp:a.heap.size≤p.block)(u:Value):Chg S a (w.setCell p u):=by
 refine⟨h.os,h.tape,h.output,by simpa[World.setCell] using h.size,fun k hk hs=>?_⟩;rw[Below.heap_setCell _ _ _ _ oQ];exact h.block k hk hs
theorem Chg.grown {S:Nat→Prop}{a w w':World}{row:Option Nat}(h:Chg S a w)(hg:w.grownBy w' row)(hr:∀k,row=some k→k<a.heap.size→S k):Chg S a w':=by
 refine⟨hg.os.trans h.os,hg.tape.trans h.tape,hg.output.trans h.output,zU h.size hg.size,fun k hk hs=>?_⟩;rw[hg.block k (zF hk h.size) (fun e=>hs (hr k e.symm hk))];exact h.block k hk hs
section
variable {S:Nat→Prop}{w w':World}
theorem Blk.chg {g t:Nat}{cs:List Value}(h:Blk w g t cs)(hc:Chg S w w')(hg:¬S g):Blk w' g t cs:=(hc.block g h.lt hg).trans h
theorem Rd.chg {F:Nat→Prop}{u:Value}{d:D}(h:Rd w F u d)(hc:Chg S w w')(hF:∀b,F b→b<w.heap.size→¬S b):Rd w' F u d:=
 ((h.mono (G:=fun b=>F b∧b<w.heap.size) fun b a c=>⟨a,c⟩).keep fun b hb'=>hc.block b hb'.2 (hF b hb'.1 hb'.2)).mono fun b a _=>a.1
theorem OL.chg {B e size n:Nat}{F:Nat→Prop}{v:Value}{ds:List D}(h:OL w B F e size v n ds)(hc:Chg S w w')(hv:∀b,v.ownBlock=some b→¬S b)(hF:∀b,F b→b<w.heap.size→¬S b):OL w' B F e size v n ds:=by
 obtain⟨cells,h1,h2,h3⟩:=h;refine⟨cells,?_,h2,fun k d hd=>?_⟩
 ·obtain⟨h4,h5⟩:=h1;refine⟨h4,?_⟩;rcases h5 with hn |⟨g,cap,cur,rfl,hb,hgg,rest⟩
  ·exact .inl hn
  ·refine .inr ⟨g,cap,cur,rfl,hb,?_,rest⟩;rw[hc.block g (Array.getElem?_eq_some_iff.1 hgg).1 (hv g rfl)];exact hgg
 ·obtain⟨u,hu,hr⟩:=h3 k d hd;exact⟨u,hu,hr.chg hc fun b hb hlt=>hF b hb.1 hlt⟩
theorem Chg.cell (hc:Chg S w w'){p:Addr}{v:Value}(h:w.cell? p=some v)(hp:¬S p.block):w'.cell? p=some v:=
 (World.cell?_of_block (w:=w) (hc.block p.block (zX w _ h) hp)).trans h
end
set_option linter.unusedSimpArgs false
def rwV (r:Rw):List Value:=[.string r.tx,.int .i64 r.at_,.bool r.own]
def rwD (r:Rw):List D:=[.v (.string r.tx),.v (.int .i64 r.at_),.v (.bool r.own)]
theorem rwV_len (r:Rw):(rwV r).length=3:=rfl
theorem rwD_map (R:List Rw):R.flatMap rwD=(R.flatMap rwV).map D.v:=by
 induction R with
 |nil=>rfl
 |cons a l ih=>rw[zK,zK,xR,ih];rfl
def RwR (w:World)(B:Nat)(v:Value)(R:List Rw):Prop:=∃A c,v=.slice A R.length c∧(R=[]∨∃g rest,A=some ⟨g,0,none⟩∧B≤g∧Blk w g 69 (R.flatMap rwV++rest))
theorem RwR.of {w:World}{B:Nat}{v:Value}{R:List Rw}(h:OL w B NoF 69 3 v R.length (R.flatMap rwD)):RwR w B v R:=by
 by_cases hn:R=[]
 ·obtain⟨A,c,e⟩:=h.form;exact⟨A,c,e,.inl hn⟩
 ·have hp:=List.length_pos_iff.2 hn;obtain⟨g,cap,e,_,_,_,_⟩:=h.row hp;subst e;obtain⟨cs,hB,hb,hnc,hm,hl,hd,hr⟩:=h.blk;have hvl:(R.flatMap rwV).length=R.length*3:=fml (f:=rwV) (m:=3) rwV_len _;have e:cs.take (R.length*3)=R.flatMap rwV:=by
   refine List.ext_getElem? fun k=>?_
   by_cases hk:k<R.length*3
   ·obtain⟨u,hu⟩:∃u,(R.flatMap rwV)[k]? =some u:=⟨_,zI oQ⟩
    obtain⟨u',hu',hr'⟩:=hr k (.v u) (by rw[rwD_map,zG,hu];rfl);rw[zZ,if_pos hk,hu',hu,hr'.v_inv]
   ·rw[xO (by rw[zO];omega),xO oQ]
  refine⟨_,_,rfl,.inr ⟨g,cs.drop (R.length*3),rfl,hB,?_⟩⟩;rw[←e,List.take_append_drop];exact hb
theorem RwR.kps {w w':World}{B:Nat}{v:Value}{R:List Rw}(h:RwR w B v R)(hk:Kps w w'):RwR w' B v R:=by
 obtain⟨A,c,e,h⟩:=h;exact⟨A,c,e,h.imp id fun⟨g,rest,e2,hB,hb⟩=>⟨g,rest,e2,hB,hk _ _ _ dQ hb⟩⟩
theorem RwR.at_ {w:World}{B:Nat}{v:Value}{R:List Rw}{i:Nat}{r:Rw}(h:RwR w B v R)(hr:R[i]? =some r):∃g c,v=.slice (some ⟨g,0,none⟩) R.length c∧
  w.cell? ⟨g,i*3,none⟩=some (.string r.tx)∧w.cell? ⟨g,i*3+1,none⟩=some (.int .i64 r.at_)∧w.cell? ⟨g,i*3+2,none⟩=some (.bool r.own):=by
 obtain⟨A,c,e,h⟩:=h;rcases h with h |⟨g,rest,rfl,hB,hb⟩
 ·rw[h]at hr;cases hr
 ·have key:∀(k:Nat) u,(rwV r)[k]? =some u→w.cell? ⟨g,i*3+k,none⟩=some u:=fun k u hk=>by
   have h1:=fmg (f:=rwV) (m:=3) rwV_len hr hk;rw[hb.cell,zS (zC.1 h1).1,h1]
  exact⟨g,c,e,key 0 _ rfl,key 1 _ rfl,key 2 _ rfl⟩
def LayP (B:Nat)(L:List ByteArray)(w:World)(e:Ending)(w':World):Prop:=∃v,e=.returned v∧OL w' B NoF 9 1 v L.length (L.flatMap strD)∧Below B w w'∧Kps w w'
def LyRel (B:Nat)(R:List Rw)(l:List ByteArray)(k:Int)(o:Bool)(h:ByteArray)(w:World)(v i:Value)(wr:World):Prop:=
 ∃(j:Nat)(l':List ByteArray),j≤R.length∧i=.int .i64 j∧LaidL l ((selR (R.take j) k o).map (h++ ·)) l'∧l'.length≤l.length+j∧OL wr B NoF 9 1 v l'.length (l'.flatMap strD)∧Below B w wr∧Kps w wr
theorem selR_skip {R:List Rw}{j:Nat}{r:Rw}{k:Int}{o:Bool}(h:R[j]? =some r)(hn:¬(r.at_=k∧r.own=o)):selR (R.take (j+1)) k o=selR (R.take j) k o:=by
 rw[zJ,h];show selR (R.take j++[r]) k o=_
 rw[selR_snoc,if_neg hn,zT]
theorem selR_take {R:List Rw}{j:Nat}{r:Rw}{k:Int}{o:Bool}(h:R[j]? =some r)(hn:r.at_=k∧r.own=o):selR (R.take (j+1)) k o=selR (R.take j) k o++[r.tx]:=by
 rw[zJ,h];show selR (R.take j++[r]) k o=_
 rw[selR_snoc,if_pos hn]
theorem wT {s:ByteArray}(x:ByteArray)(h:x.size≤1048576)(h2:s.size≤1048576):s.size+x.size≤9223372036854775807:=oQ
theorem jnW_take {l:List ByteArray}{s x:ByteArray}{j:Nat}(h:l[j]? =some x):jnW s (l.take (j+1))=if j=0 then x else jnW s (l.take j)++s++x:=by
 have h1:l.take (j+1)=l.take j++[x]:=by rw[zJ,h];rfl
 have hj:=(zC.1 h).1;rw[h1];by_cases c:j=0
 ·subst c;rw[if_pos rfl];rfl
 ·rw[if_neg c];cases e:l.take j with
  |nil=>have:=congrArg List.length e;rw[zO,List.length_nil]at this;omega
  |cons y r=>exact jnW_snoc s y x r
theorem jnW_size {l:List ByteArray}{s:ByteArray}{b:Nat}(h:∀x∈l,x.size≤b):∀j,(jnW s (l.take j)).size≤(b+s.size)*j:=fun j=>by
 induction j with
 |zero=>rw[List.take_zero];exact zE _
 |succ j ih=>
  cases hx:l[j]? with
  |none=>
   have hn:=List.getElem?_eq_none_iff.1 hx;rw[xH oQ];rw[xH hn]at ih;rw[Nat.mul_succ];omega
  |some x=>
   have hb:=h x (zA hx);rw[jnW_take hx,Nat.mul_succ];by_cases c:j=0
   ·rw[if_pos c];omega
   ·rw[if_neg c,ByteArray.size_append,ByteArray.size_append];omega
def TyRel (B:Nat)(l:List ByteArray)(u:Value)(x:It)(w:World)(v i:Value)(wr:World):Prop:=
 ∃(j:Nat)(l':List ByteArray),j≤l.length∧i=.int .i64 j∧LaidL [] (l.take j) l'∧l'.length≤j∧OL wr B NoF 9 1 v l'.length (l'.flatMap strD)∧Below B w wr∧Blk wr B 53 (itV x u)
namespace shR
open nmW shW ckW
theorem lay_k (B:Nat)(v vR:Value)(l:List ByteArray)(R:List Rw)(k:Int)(o:Bool)(h:ByteArray)(w:World)(hB:B≤w.heap.size)(hl:l.length≤33554432)(hR:R.length≤1048576)(hz:∀r∈R,r.tx.size≤1048576)(hh:h.size≤1048576)
  (hv:OL w B NoF 9 1 v l.length (l.flatMap strD))(hr:RwR w B vR R):
  Calls Tryz.prog 35 #[v,vR,.int .i64 k,.bool o,.string h] w (LayP B (l++layL R k o h) w):=by
 have h0:LyRel B R l k o h w v (.int .i64 0) w:=⟨0,l,zE _,rfl,by rw[List.take_zero];exact LaidL.nil l,oQ,hv,bR,Kps.of bR⟩;have kp:∀(x:ByteArray)(sel l':List ByteArray) v' wr,Below B w wr→l'.length≤l.length+R.length→LaidL l sel l'→OL wr B NoF 9 1 v' l'.length (l'.flatMap strD)→Calls Tryz.prog 65 #[v',.int .i64 l.length,.string x] wr (PutP B l' l.length x wr):=fun x sel l' v' wr hb h1 h2 h4=>
  put_k B l.length v' l' x wr (zU hB hb.size) oQ (by obtain⟨m,rfl,_⟩:=h2;simp) h2.ss h4
 obtain⟨A,c,rfl⟩:=hv.form;obtain⟨AR,cR,rfl,hr0⟩:=id hr;have hlen:l.length≤33554432:=hl;replace h0:=Hd h0;replace kp:=Hd kp;replace hr:=Hd hr;clear hr0 hv;go_enter Tryz.func35,Tryz.ntmps35;go_wp2;go_loopw [0,12] (fun a i wr=>LyRel B R l k o h w a i wr) (fun _ i _=>R.length- (intOf i).toNat)
 case atStart=>exact h0.out
 case round=>
  clear h0;obtain⟨j,l',hj,rfl,hL,hle,hO,hB2,hK⟩:=hrel;obtain⟨A',c',rfl⟩:=hO.form;by_cases hlt:j<R.length
  ·obtain⟨r,hx⟩:=getx hlt;obtain⟨g,cc,e,z0,z1,z2⟩:=(hr.out.kps hK).at_ hx;injection e with e1 e2 e3
   clear e2;subst e1 e3;have g0:(0:Int)≤(j:Int):=oQ;have g1:(j:Int)<R.length:=oQ;by_cases hp:r.at_=k∧r.own=o
   ·have hts:=selR_take hx hp;obtain⟨p1,p2⟩:=hp;obtain⟨tx,at_,ow⟩:=r;simp only at p1 p2 z0 z1 z2;subst p1 p2;have hsz:h.size+tx.size≤9223372036854775807:=wT tx (hz _ (zA hx)) hh;have kp1:=Hd (kp.out (h++tx) _ l' _ wr hB2 oQ hL hO);replace hL:=Hd (xW hL hO);replace hts:=Hd hts;replace hB2:=Hd hB2;replace hK:=Hd hK;clear hO kp hr hz hx;go_wp2_with (go_at_call 65;refine kp1.out.mono ?_;rintro e W ⟨v9,l9,rfl,hP,hl9,hO9,hB9,hK9⟩;have hL9:=Hd (hL.out.1.put hP);replace hO9:=Hd hO9;replace hl9:=Hd hl9;replace hB9:=Hd (hB2.out.trans (hB9.mono nR));replace hK9:=Hd (hK.out.trans hK9);clear hP);go_roundw
    case rel=>exact⟨j+1,l9,oQ,gQ,by rw[hts.out,xR];exact hL9.out,by have:=hl9.out;omega,hO9.out,hB9.out,hK9.out⟩
    case measure=>exact mQ
   ·have hts:=selR_skip hx hp;have hrel:=Hd (show LyRel B R l k o h w (.slice A' l'.length c') (.int .i64 ((j+1:Nat):Int)) wr from ⟨j+1,l',oQ,rfl,by rw[hts];exact hL,oQ,hO,hB2,hK⟩);obtain⟨tx,at_,ow⟩:=r;simp only at hp z0 z1 z2;clear hL hO hB2 hK kp hr hz hx hts;by_cases p1:at_=k
    ·subst p1;have p2:ow≠o:=fun e=>hp ⟨rfl,e⟩
     cases ow<;>cases o<;>first
      |exact absurd rfl p2
      |(go_wp2;go_roundw;(case rel=>exact hrel.out);(case measure=>simp[intOf];omega))
    ·go_wp2;go_roundw
     case rel=>exact hrel.out
     case measure=>exact mQ
  ·obtain rfl:j=R.length:=oQ;have g1:¬(R.length:Int)<R.length:=oQ;rw[zL]at hL;have hd:=hL.done;have hfin:=Hd (show LayP B (l++layL R k o h) w (.returned (.slice A' l'.length c')) wr from ⟨_,rfl,by rw[hd]at hO ⊢;exact hO,hB2,hK⟩);clear hL hO hB2 hK kp hr hz hd;go_wp2;go_ret;exact hfin.out
theorem types_k (x:It)(A:Option Addr)(c:Nat)(F:Nat→Prop)(w:World)(hl:x.tys.length≤1048576)(hz:∀y∈x.tys,y.size≤1048576)(hF:∀b,F b→b<w.heap.size)(r:Rd w F (.slice A x.tys.length c) (.sl x.tys.length (x.tys.flatMap strD))):
  Calls Tryz.prog 34 #[.agg ⟨itV x (.slice A x.tys.length c)⟩] w (StP (tysT x) w):=by
 have kp:∀(y:ByteArray)(sel l':List ByteArray) v' wr,Bw w wr→l'.length≤x.tys.length→LaidL [] sel l'→OL wr w.heap.size NoF 9 1 v' l'.length (l'.flatMap strD)→Calls Tryz.prog 65 #[v',.int .i64 0,.string y] wr (PutP w.heap.size l' 0 y wr):=fun y sel l' v' wr hb h1 h2 h4=>
  put_k w.heap.size 0 v' l' y wr hb.size oQ (zE _) h2.ss h4
 have h0:TyRel w.heap.size x.tys (.slice A x.tys.length c) x w (.slice none 0 0) (.int .i64 0) (w.alloc (.cells ⟨itV x (.slice A x.tys.length c)⟩ 53)):=
  ⟨0,[],zE _,rfl,by rw[List.take_zero];exact LaidL.nil [],nR,OL.nil _ _ _ _ _,bA,Blk.new _ _ _⟩
 have hts:∀l',LaidL [] x.tys l'→jnW barB l'=tysT x:=fun l' h=>by unfold tysT;rw[←h.srt]
 have hmem:∀l',LaidL [] x.tys l'→∀y∈l',y.size≤1048576:=fun l' h y hy=>by
  obtain⟨m,rfl,_,h2⟩:=h;exact hz y ((h2 y).1 (by simpa using hy))
 obtain⟨ng,tys,vv,lo,hi⟩:=x;simp only at hl hz r kp h0 hmem;simp only[itV]at h0 ⊢;generalize tysT _=T at hts ⊢;simp only at hts;replace h0:=Hd h0;replace kp:=Hd kp;replace r:=Hd r;replace hts:=Hd hts;replace hmem:=Hd hmem;go_enter Tryz.func34,Tryz.ntmps34;go_wp2;go_loopw [3,4] (fun a i wr=>TyRel w.heap.size tys (.slice A tys.length c) ⟨ng,tys,vv,lo,hi⟩ w a i wr) (fun _ i _=>tys.length- (intOf i).toNat)
 case atStart=>exact h0.out
 case round=>
  clear h0;obtain⟨j,l',hj,rfl,hL,hle,hO,hB2,hb⟩:=hrel;obtain⟨A',c',rfl⟩:=hO.form;have y1:=hb.cell 1;simp only[itV]at y1;replace y1:wr.cell? ⟨w.heap.size,1,none⟩=some (.slice A tys.length c):=y1;by_cases hlt:j<tys.length
  ·obtain⟨y,hx⟩:=getx hlt;obtain⟨g,off,e,_,z0,_⟩:=(r.out.under hB2 hF).rowv (f:=strD) (m:=1) (fun _=>rfl) hx oQ;have z0:=z0 0 _ rfl;simp only[Nat.add_zero,Nat.mul_one]at z0;subst e;have g0:(0:Int)≤(j:Int):=oQ;have g1:(j:Int)<tys.length:=oQ;have kp1:=Hd (kp.out y _ l' _ wr hB2 oQ hL hO);have hts:tys.take (j+1)=tys.take j++[y]:=by rw[zJ,hx];rfl
   replace hts:=Hd hts;replace hL:=Hd hL;replace hB2:=Hd hB2;replace hb:=Hd hb;clear hO kp r hz hx;go_wp2_with (go_at_call 65;refine kp1.out.mono ?_;rintro e W ⟨v9,l9,rfl,hP,hl9,hO9,hB9,hK9⟩;have hL9:=Hd (LaidL.put (l0:=[]) hL.out hP);replace hO9:=Hd hO9;replace hl9:=Hd hl9;replace hB9:=Hd (hB2.out.trans (hB9.mono nR));have hb9:=Hd (hK9 _ _ _ dQ hb.out);clear hP hK9);go_roundw
   case rel=>exact⟨j+1,l9,oQ,gQ,by rw[hts.out];exact hL9.out,by have:=hl9.out;omega,hO9.out,hB9.out,hb9.out⟩
   case measure=>exact mQ
  ·obtain rfl:j=tys.length:=oQ;have g1:¬(tys.length:Int)<tys.length:=oQ;rw[zL]at hL;have hT:=Hd (hts.out l' hL);have hsz:=Hd (jnW_size (s:=barB) (hmem.out l' hL));have hrd:=Hd (hO.rd (G:=fun _=>True) (fun _ h _=>h.elim) (fun _ _ _=>trivial));have hm:=Hd (hmem.out l' hL);replace hB2:=Hd hB2;clear hL hO kp r hts hmem hz hb;go_wp2;go_loopw [5,6] (fun a i w9=>w9=wr∧∃k:Nat,k≤l'.length∧i=.int .i64 k∧a=.string (jnW barB (l'.take k))) (fun _ i _=>l'.length- (intOf i).toNat)
   case atStart=>exact⟨rfl,0,zE _,rfl,rfl⟩
   case round=>
    obtain⟨hwr,k,hk,rfl,rfl⟩:=hrel;obtain rfl:=hwr.symm;clear hwr;by_cases hlt2:k<l'.length
    ·obtain⟨y,hx⟩:=getx hlt2;obtain⟨g,off,e,_,z0,_⟩:=hrd.out.rowv (f:=strD) (m:=1) (fun _=>rfl) hx oQ;have z0:=z0 0 _ rfl;simp only[Nat.add_zero,Nat.mul_one]at z0;subst e;have h0:(0:Int)≤(k:Int):=oQ;have h1:(k:Int)<l'.length:=oQ;have hys:=hm.out y (zA hx);have hjs:(jnW barB (l'.take k)).size≤1048577*k:=hsz.out k;have hjt:=jnW_take (s:=barB) hx;by_cases hk0:k=0
     ·have h3:¬(0:Int)<(k:Int):=oQ;have hS:(jnW barB (l'.take k)).size+y.size≤9223372036854775807:=oQ;have hrel:jnW barB (l'.take k)++y=jnW barB (l'.take (k+1)):=by
       rw[hjt,if_pos hk0,hk0];exact ByteArray.empty_append
      generalize jnW barB (l'.take k)=S at hS hrel ⊢;replace hrel:=Hd hrel;replace hk0:=Hd hk0;clear hjt hjs hx;go_wp2;go_roundw
      case rel=>exact⟨trivial,k+1,oQ,gQ,by rw[hrel.out]⟩
      case measure=>exact mQ
     ·have h3:(0:Int)<(k:Int):=oQ;have hrel:jnW barB (l'.take k)++barB++y=jnW barB (l'.take (k+1)):=by
       rw[hjt,if_neg hk0]
      have hS0:(jnW barB (l'.take k)).size+(⟨#[124]⟩:ByteArray).size≤9223372036854775807:=by show _+1≤_;omega
      have hS:(jnW barB (l'.take k)++⟨#[124]⟩:ByteArray).size+y.size≤9223372036854775807:=by rw[ByteArray.size_append];show _+1+_≤_;omega
      generalize jnW barB (l'.take k)=S at hS hS0 hrel ⊢;replace hrel:=Hd hrel;replace hk0:=Hd hk0;clear hjt hjs hx;go_wp2;go_roundw
      case rel=>exact⟨trivial,k+1,oQ,gQ,by rw[←hrel.out];rfl⟩
      case measure=>exact mQ
    ·obtain rfl:k=l'.length:=oQ;have h1:¬(l'.length:Int)<l'.length:=oQ;rw[zL,hT.out];go_wp2;go_ret;exact⟨rfl,hB2.out⟩
theorem mode_k (m:Int)(w:World):Calls Tryz.prog 30 #[.int .i64 m] w fun e w'=>e=.returned (.string (modW m))∧w'=w:=by
 obtain⟨S,hS⟩:∃S,S=modW m:=⟨_,rfl⟩
 rw[←hS];unfold modW at hS;go_enter Tryz.func30,Tryz.ntmps30;by_cases h1:m=1
 ·subst h1;rw[if_pos rfl]at hS;subst hS;go_wp2;go_ret;exact⟨rfl,rfl⟩
 ·rw[if_neg h1]at hS;by_cases h2:m=2
  ·subst h2;rw[if_pos rfl]at hS;subst hS;go_wp2;go_ret;exact⟨rfl,rfl⟩
  ·rw[if_neg h2]at hS;subst hS;go_wp2;go_ret;exact⟨rfl,rfl⟩
theorem after_k (m:Int)(w:World):Calls Tryz.prog 31 #[.int .i64 m] w fun e w'=>e=.returned (.string (aftW m))∧w'=w:=by
 obtain⟨S,hS⟩:∃S,S=aftW m:=⟨_,rfl⟩
 rw[←hS];unfold aftW at hS;go_enter Tryz.func31,Tryz.ntmps31;by_cases h1:m=1
 ·subst h1;rw[if_pos rfl]at hS;subst hS;go_wp2;go_ret;exact⟨rfl,rfl⟩
 ·rw[if_neg h1]at hS;by_cases h2:m=2
  ·subst h2;rw[if_pos rfl]at hS;subst hS;go_wp2;go_ret;exact⟨rfl,rfl⟩
  ·rw[if_neg h2]at hS;by_cases h3:m=3
   ·subst h3;rw[if_pos rfl]at hS;subst hS;go_wp2;go_ret;exact⟨rfl,rfl⟩
   ·rw[if_neg h3]at hS;subst hS;go_wp2;go_ret;exact⟨rfl,rfl⟩
end shR
section
variable {P:Program}{ops:Array Oper}{Q:Exit→Act→World→Prop}{md:Region.Mode}
def depsP (md:Region.Mode)(ops:Array Oper)(j:Nat):List Nat:=match ops[j]? with
 |some o=>(o.after.toList.filter fun e=>Region.binds md e).map (·.on)
 |none=>[]
def cloP (md:Region.Mode)(ops:Array Oper):Nat→List Nat→List Nat
 |0,s=>s
 |n+1,s=>cloP md ops n (s++s.flatMap (depsP md ops)).eraseDups
def ClP (md:Region.Mode)(ops:Array Oper)(L:Array Bool):Prop:=∀j,L.getD j true=true→∀i∈depsP md ops j,L.getD i true=true
def clB (md:Region.Mode)(ops:Array Oper)(L:Array Bool):Bool:=(List.range ops.size).all fun j=> !L.getD j true||(depsP md ops j).all fun i=>L.getD i true
theorem clB_is {L:Array Bool}(h:clB md ops L=true):ClP md ops L:=fun j hj i hi=>by
 unfold clB at h;by_cases hs:j<ops.size
 ·have:=xP.1 h j (List.mem_range.2 hs);rw[hj]at this;rw[Bool.not_true,Bool.false_or]at this;exact xP.1 this i hi
 ·unfold depsP at hi;rw[Array.getElem?_eq_none oQ]at hi;cases hi
theorem cloP_up {L:Array Bool}(h:ClP md ops L):∀(n:Nat)(s:List Nat),(∀j∈s,L.getD j true=true)→∀j∈cloP md ops n s,L.getD j true=true
 |0,s,hs,j,hj=>hs j hj
 |n+1,s,hs,j,hj=>cloP_up h n _ (fun i hi=>by
  rw[List.mem_eraseDups,zM,xF]at hi;rcases hi with hi |⟨k,hk,hi⟩
  ·exact hs i hi
  ·exact h k (hs k hk) i hi) j hj
theorem ready_deps {L:Array Bool}{i:Nat}(h:i∈Region.ready md ops L):L.getD i true=false∧∀j∈depsP md ops i,L.getD j true=true:=by
 obtain⟨h1,o,h2,h3⟩:=mem_ready.1 h;refine⟨h1,fun j hj=>?_⟩;unfold depsP at hj;rw[h2]at hj;obtain⟨e,he,rfl⟩:=List.mem_map.1 hj;obtain⟨he1,he2⟩:=List.mem_filter.1 he;have:=h3 e (by simpa using he1) he2;simp only[Array.getD_eq_getD_getElem?]at this ⊢;cases hq:L[e.on]? with
 |none=>rfl
 |some b=>rw[hq]at this;exact this
def okP (md:Region.Mode)(ops:Array Oper)(L0:Array Bool)(n:Nat)(kd:List (Nat×Nat)):Bool:=
 (kd.map (·.2)).Nodup&&(kd.map (·.1)).Nodup&&kd.all (fun p=>decide (p.2<n)&& !L0.getD p.1 true&&(ops[p.1]?).any fun o=>o.dst==some p.2)&&
 (List.range ops.size).all (fun k=>((ops[k]?).map fun o=>o.after.all fun e=>decide (e.on<k)).getD true)&&clB md ops L0&&
 (opsLeft ops L0).all fun j=>(kd.map (·.1)).contains j||(kd.map (·.1)).all fun k=>(cloP md ops ops.size (depsP md ops j)).contains k
def upP (kd:List (Nat×Nat))(L0:Array Bool):Array Bool:=kd.foldl (fun L p=>L.setIfInBounds p.1 true) L0
def putP (kd:List (Nat×Nat))(val:Nat→Value)(a0:Act):Act:=kd.foldl (fun b p=>b.put (some p.2) (val p.1)) a0
theorem upP_get:∀(kd:List (Nat×Nat))(L0:Array Bool)(k:Nat),(upP kd L0).getD k true=(L0.getD k true||(kd.map (·.1)).contains k)
 | [],L0,k=>by simp[upP]
 |p::r,L0,k=>by
  have ih:=upP_get r (L0.setIfInBounds p.1 true) k;show(upP r (L0.setIfInBounds p.1 true)).getD k true=_
  rw[ih];by_cases hk:p.1=k
  ·subst hk;have e1:(L0.setIfInBounds p.1 true).getD p.1 true=true:=by simp[Array.getElem?_setIfInBounds];split<;>simp
   rw[e1];simp
  ·rw[getD_set_ne true hk,List.map_cons,List.contains_cons];have:(k==p.1)=false:=by simpa using fun e:k=p.1=>hk e.symm
   rw[this,Bool.false_or]
theorem upP_size:∀(kd:List (Nat×Nat))(L0:Array Bool),(upP kd L0).size=L0.size
 | [],_=>rfl
 |p::r,L0=>by
  show(upP r (L0.setIfInBounds p.1 true)).size=_
  rw[upP_size r];simp
structure FrP (md:Region.Mode)(ops:Array Oper)(L0:Array Bool)(a0:Act)(kd:List (Nat×Nat))(val:Nat→Value)(I:World→Prop)(L:Array Bool)(a:Act)(w:World):Prop where
 i:I w
 sz:L.size=ops.size
 ex:∀k,L0.getD k true=true→L.getD k true=true
 on:∀k,L.getD k true=true→L0.getD k true=true∨k∈kd.map (·.1)
 cl:ClP md ops L
 de:a.defers=a0.defers
 ts:a.tmps.size=a0.tmps.size
 ag:∀j,j∉kd.map (·.2)→a.tmps.getD j undef=a0.tmps.getD j undef
 t:∀p∈kd,L.getD p.1 true=true→a.tmps.getD p.2 undef=val p.1
def leftP (kd:List (Nat×Nat))(L:Array Bool):Nat:=(kd.filter fun p=> !L.getD p.1 true).length
theorem leftP_zero {kd:List (Nat×Nat)}{L:Array Bool}(h:leftP kd L=0):∀p∈kd,L.getD p.1 true=true:=fun p hp=>by
 unfold leftP at h;cases e:L.getD p.1 true with
 |true=>rfl
 |false=>
  have:=List.length_pos_of_mem (List.mem_filter.2 ⟨hp,by rw[e];rfl⟩:p∈kd.filter fun p=> !L.getD p.1 true);omega
theorem leftP_set {L:Array Bool}{i d:Nat}:∀{kd:List (Nat×Nat)},(kd.map (·.1)).Nodup→(i,d)∈kd→L.getD i true=false→leftP kd L=leftP kd (L.setIfInBounds i true)+1
 | [],_,h,_=>by cases h
 |p::r,hn,h,hl=>by
  have hn':=List.nodup_cons.1 hn;unfold leftP;simp only[List.filter_cons];have e1:(L.setIfInBounds i true).getD i true=true:=by simp[Array.getElem?_setIfInBounds];split<;>simp
  rcases List.mem_cons.1 h with e |hm
  ·subst e;rw[hl,e1];have hsame:r.filter (fun p=> !(L.setIfInBounds i true).getD p.1 true)=r.filter (fun p=> !L.getD p.1 true):=List.filter_congr fun p hp=>by
    have:i≠p.1:=fun e=>hn'.1 (List.mem_map.2 ⟨p,hp,e.symm⟩)
    rw[getD_set_ne true this]
   simp only[Bool.not_false,Bool.not_true,if_true];rw[if_neg sJ,hsame];rfl
  ·have hpi:i≠p.1:=fun e=>hn'.1 (List.mem_map.2 ⟨(i,d),hm,e⟩)
   have ih:=leftP_set (kd:=r) hn'.2 hm hl;unfold leftP at ih;rw[getD_set_ne true hpi];split
   ·simp only[List.length_cons];omega
   ·exact ih
theorem put_all {kd:List (Nat×Nat)}{val:Nat→Value}:∀{a a0:Act},(kd.map (·.2)).Nodup→a.defers=a0.defers→a.tmps.size=a0.tmps.size→(∀p∈kd,p.2<a0.tmps.size)→(∀j,j∉kd.map (·.2)→a.tmps.getD j undef=a0.tmps.getD j undef)→(∀p∈kd,a.tmps.getD p.2 undef=val p.1)→a=putP kd val a0:=by
 induction kd with
 |nil=>
  intro a a0 _ h1 h2 _ h3 _;exact act_puts (ds:=[]) h1 h2 (fun j _=>h3 j sJ)
 |cons p r ih=>
  intro a a0 hn h1 h2 hlt h3 h4;have hn':=List.nodup_cons.1 hn;refine ih (a0:=a0.put (some p.2) (val p.1)) hn'.2 (by rw[h1];rfl) (by simp[Act.put,h2]) (fun q hq=>by simp only[Act.put,Array.size_setIfInBounds];exact hlt q (xU _ hq)) (fun j hj=>?_) (fun q hq=>h4 q (xU _ hq));rw[put_get (hlt p xS)];by_cases e:p.2=j
  ·rw[if_pos e,←e];exact h4 p xS
  ·rw[if_neg e];exact h3 j (by simp only[List.map_cons,List.mem_cons];exact fun h=>h.elim (fun h=>e h.symm) hj)
theorem G_part {S:Array Bool→World→Prop}{L0:Array Bool}{a0:Act}{kd:List (Nat×Nat)}{val:Nat→Value}{I:World→Prop}{m:Nat}(hok:okP md ops L0 a0.tmps.size kd=true)(hs0:L0.size=ops.size)(hS:∀L w,I w→S L w)
  (H:∀p∈kd,∀o,ops[p.1]? =some o→∀b W,I W→(∀j,j∉kd.map (·.2)→b.tmps.getD j undef=a0.tmps.getD j undef)→(∀r∈kd,(depsP md ops p.1).contains r.1=true→b.tmps.getD r.2 undef=val r.1)→
   ∀K:Act→World→Prop,Hid (∀W',I W'→K (b.put o.dst (val p.1)) W')→Region.wanted o (yielded ops b.tmps)=true∧Oper.wp P o b W K Q)
  (hend:∀W,I W→anyG P md ops Q S m (upP kd L0) (putP kd val a0) W):
  ∀(n:Nat)(L:Array Bool)(a:Act)(w:World),FrP md ops L0 a0 kd val I L a w→n=m+leftP kd L→anyG P md ops Q S n L a w:=by
 unfold okP at hok;simp only[xK,decide_eq_true_eq,xP,Bool.or_eq_true,Bool.not_eq_true',List.contains_iff_mem]at hok;obtain⟨⟨⟨⟨⟨hnd,hnk⟩,hkd⟩,hac⟩,hcl0⟩,hgate⟩:=hok;have fin:∀L a w,FrP md ops L0 a0 kd val I L a w→leftP kd L=0→anyG P md ops Q S m L a w:=by
  intro L a w hF hz;have hup:=leftP_zero hz;have eL:L=upP kd L0:=by
   have hs:L.size=(upP kd L0).size:=by
    rw[upP_size,hs0];exact hF.sz
   refine Array.ext hs fun k h1 h2=>?_
   have e1:=upP_get kd L0 k;have e3:L.getD k true=(upP kd L0).getD k true:=by
    rw[e1];cases h:L.getD k true with
    |true=>
     rcases hF.on k h with h |h
     ·rw[h];rfl
     ·have:(kd.map (·.1)).contains k=true:=by simpa using h
      rw[this,Bool.or_true]
    |false=>
     symm
     rw[Bool.or_eq_false_iff];constructor
     ·cases h0:L0.getD k true with
      |false=>rfl
      |true=>rw[hF.ex k h0]at h;cases h
     ·cases h0:(kd.map (·.1)).contains k with
      |false=>rfl
      |true=>
       obtain⟨p,hp,e⟩:=List.mem_map.1 (by simpa using h0:k∈kd.map (·.1));have:=hup p hp;rw[e]at this;rw[this]at h;cases h
   simpa[h1,h2] using e3
  have ea:a=putP kd val a0:=put_all hnd hF.de hF.ts (fun p hp=>(hkd p hp).1.1) hF.ag (fun p hp=>hF.t p hp (hup p hp));rw[eL,ea];exact hend w hF.i
 intro n;induction n with
 |zero=>intro L a w hF hn;exact(show m=0 by omega)▸fin L a w hF oQ
 |succ n ih=>
  intro L a w hF hn;by_cases hz:leftP kd L=0
  ·rw[show n+1=m by omega];exact fin L a w hF hz
  have hne:∃p∈kd,L.getD p.1 true=false:=by
   refine Classical.byContradiction fun h=>hz ?_
   unfold leftP;rw[List.length_eq_zero_iff,List.filter_eq_nil_iff];intro p hp e;exact h ⟨p,hp,by simpa using e⟩
  refine⟨fun hr=>?_,fun i hi=>?_⟩
  ·exfalso;have all:∀m k,k<m→k<ops.size→L.getD k true=true:=by
    intro m;induction m with
    |zero=>intro k hk;omega
    |succ m ihm=>
     intro k hk hks;by_cases hkm:k<m
     ·exact ihm k hkm hks
     cases hf:L.getD k true with
     |true=>rfl
     |false=>
      exfalso;obtain⟨o,ho⟩:∃o,ops[k]? =some o:=⟨_,Array.getElem?_eq_getElem hks⟩
      have:k∈Region.ready md ops L:=mem_ready.2 ⟨hf,o,ho,fun e he hb=>by
       have h1:=hac k (List.mem_range.2 hks);rw[ho]at h1;simp only[Option.map_some,Option.getD_some,Array.all_eq_true_iff_forall_mem,decide_eq_true_eq]at h1;have h2:=h1 e he;have h3:=ihm e.on oQ oQ;simp only[Array.getD_eq_getD_getElem?]at h3 ⊢;rw[Array.getElem?_eq_getElem (by rw[hF.sz];omega)]at h3 ⊢;exact h3⟩
      rw[hr]at this;cases this
   obtain⟨p,hp,hf⟩:=hne;have hpo:=(hkd p hp).2;rw[Option.any_eq_true]at hpo;obtain⟨o,ho,_⟩:=hpo;have hps:=(Array.getElem?_eq_some_iff.1 ho).1;rw[all _ p.1 (Nat.lt_succ_self _) hps]at hf;cases hf
  ·obtain⟨h1,hdeps⟩:=ready_deps hi;obtain⟨_,o,h2,h3⟩:=mem_ready.1 hi;have hi0:L0.getD i true=false:=by
    cases h:L0.getD i true with
    |false=>rfl
    |true=>rw[hF.ex i h]at h1;cases h1
   have hik:i∈kd.map (·.1):=by
    rcases hgate i (mem_left h2 hi0)with h |h
    ·exact h
    ·exfalso;obtain⟨p,hp,hf⟩:=hne;have:=cloP_up hF.cl ops.size _ hdeps p.1 (h p.1 (List.mem_map.2 ⟨p,hp,rfl⟩));rw[this]at hf;cases hf
   obtain⟨p,hp,hpi⟩:=List.mem_map.1 hik;obtain⟨k,d⟩:=p;obtain rfl:k=i:=hpi;have hd:o.dst=some d:=by
    have hpo:=(hkd _ hp).2;rw[Option.any_eq_true]at hpo;obtain⟨o',ho,hd⟩:=hpo;rw[h2]at ho;injection ho with ho;subst ho
    simpa using hd
   have hdl:d<a0.tmps.size:=(hkd _ hp).1.1;refine wpOp_step h2 fun K hK=>?_
   have hh:=H (k,d) hp o h2 a w hF.i hF.ag (fun r hr hdr=>hF.t r hr (hdeps r.1 (by simpa using hdr))) K (Hd fun W' hI=>hK _ _ ⟨hS _ _ hI,ih _ _ _ ⟨hI,by simpa using hF.sz,fun j hj=>?_,fun j hj=>?_,fun j hj e he=>?_,?_,?_,fun j hj=>?_,fun r hr hj=>?_⟩ ?_⟩)
   ·rw[if_pos hh.1];exact hh.2
   ·by_cases hk':j=k
    ·subst hk';rw[hi0]at hj;cases hj
    ·rw[getD_set_ne true (Ne.symm hk')];exact hF.ex j hj
   ·by_cases hk':j=k
    ·subst hk';exact .inr hik
    ·rw[getD_set_ne true (Ne.symm hk')]at hj;exact hF.on j hj
   ·have up:∀e,L.getD e true=true→(L.setIfInBounds k true).getD e true=true:=fun e he=>by
     by_cases hek:e=k
     ·subst hek;rw[h1]at he;cases he
     ·rw[getD_set_ne true (Ne.symm hek)];exact he
    by_cases hk':j=k
    ·subst hk';exact up _ (hdeps _ he)
    ·rw[getD_set_ne true (Ne.symm hk')]at hj;exact up _ (hF.cl j hj e he)
   ·rw[hd];exact hF.de
   ·rw[hd];simp[Act.put,hF.ts]
   ·rw[hd,put_get (by rw[hF.ts];exact hdl),if_neg (fun e:d=j=>hj (List.mem_map.2 ⟨_,hp,e⟩))];exact hF.ag j hj
   ·rw[hd,put_get (by rw[hF.ts];exact hdl)];by_cases hrk:r.1=k
    ·have e:r=(k,d):=by
      have h5:=(hkd _ hr).2;rw[hrk,Option.any_eq_true]at h5;obtain⟨o',ho,hd'⟩:=h5;rw[h2]at ho;injection ho with ho;subst ho
      have:d=r.2:=by rw[hd]at hd';simpa using hd'
      rw[←hrk,this]
     rw[e,if_pos rfl]
    ·rw[getD_set_ne true (Ne.symm hrk)]at hj;rw[if_neg ?_]
     ·exact hF.t r hr hj
     ·intro e;exact hrk (congrArg Prod.fst (nodup_inj (f:=fun p:Nat×Nat=>some p.2) (l:=kd) (y:=d) (by rw[List.filterMap_eq_map'];exact hnd) hr hp (by rw[e]) rfl))
   ·have:=leftP_set hnk hp h1;omega
theorem G_some {p n m:Nat}{S0 S1:World→Prop}{a:Act}{w:World}{L:Array Bool}(kd:List (Nat×Nat))(val:Nat→Value)(I:World→Prop)(hok:okP md ops L a.tmps.size kd=true)(hsz:L.size=ops.size)(hn:n=m+kd.length)
  (hS:∀w,I w→S0 w∧S1 w)(hI:I w)
  (H:∀p∈kd,∀o,ops[p.1]? =some o→∀b W,I W→(∀j,j∉kd.map (·.2)→b.tmps.getD j undef=a.tmps.getD j undef)→(∀r∈kd,(depsP md ops p.1).contains r.1=true→b.tmps.getD r.2 undef=val r.1)→
   ∀K:Act→World→Prop,Hid (∀W',I W'→K (b.put o.dst (val p.1)) W')→Region.wanted o (yielded ops b.tmps)=true∧Oper.wp P o b W K Q)
  (hend:∀W,I W→anyG P md ops Q (SG p S0 S1) m (upP kd L) (putP kd val a) W):
  anyG P md ops Q (SG p S0 S1) n L a w:=by
 have hok2:=hok;unfold okP at hok2;simp only[xK,decide_eq_true_eq,xP,Bool.or_eq_true,Bool.not_eq_true']at hok2;obtain⟨⟨⟨⟨⟨hnd,hnk⟩,hkd⟩,hac⟩,hcl0⟩,hgate⟩:=hok2;have hall:∀q∈kd,L.getD q.1 true=false:=fun q hq=>(hkd q hq).1.2
 refine G_part hok hsz (fun _ w h=>⟨(hS w h).1,fun _=>(hS w h).2⟩) H hend n L a w ⟨hI,hsz,fun _ h=>h,fun _ h=>.inl h,clB_is hcl0,rfl,rfl,fun _ _=>rfl,fun q hq h=>by rw[hall q hq]at h;cases h⟩ ?_;have:leftP kd L=kd.length:=by
  unfold leftP;rw[List.filter_eq_self.2 fun q hq=>by rw[hall q hq];rfl]
 omega
end
end Go.Proofs.YthaabihjeomipaaGreatDoor
