/- An append of one text onto a row of the call's. -/
import Derived.Test.YthaabihjeomipaaGreatDoorQZd
import Derived.Laws.Append
namespace Go.Proofs.YthaabihjeomipaaGreatDoor
set_option maxRecDepth 100000
set_option maxHeartbeats 16000000
open Go.RowKit Go.Deep
set_option linter.unusedVariables false
set_option linter.unusedSimpArgs false
def Ap2 (w w':World)(v v':Value)(n:Nat):Prop:=(∃g cap,v=.slice (some ⟨g,0,none⟩) n cap∧v'=.slice (some ⟨g,0,none⟩) (n+1) cap∧w.grownBy w' (some g))∨(v'.ownBlock=some w.heap.size∧Bw w w')
theorem run_app2 {ty B n c:Nat}{v:Value}{ds:List D}{x:ByteArray}{A:Option Addr}(w:World)(hown:OL w B NoF 9 1 v n ds)(hsrc:Src w A (strD x) (fun b=>NoF b∧some b≠v.ownBlock))(hn:n+1≤4294967296)(hB:B≤w.heap.size):
  ∃v' w',(Builtin.append_ #[42,42] ty #[v,.slice A 1 c]).run Tryz.prog w=.ok v' w'∧OL w' B NoF 9 1 v' (n+1) (ds++strD x)∧Ap2 w w' v v' n:=by
 obtain⟨v',w',hr,hO,hg,ha⟩:=run_app (P:=Tryz.prog) (w:=w) (ty:=ty) (c:=c) (m:=1) elStr hown hsrc rfl hn oQ hB;refine⟨v',w',hr,hO,?_⟩;obtain⟨ht,⟨i,z,hi,hz,hsize,hby,hzs⟩,hp⟩:=elStr;obtain⟨b,off,rfl,hc⟩:=hsrc (by simp[strD]);obtain⟨u,hu,hru⟩:=hc 0 (.v (.string x)) rfl;have e:=hru.v_inv;subst e;have hnews:∀(j:Nat) u,([Value.string x]:List Value)[j]? =some u→w.cell? ((⟨b,off,none⟩:Addr).add j)=some u:=fun j u h=>by
  rcases j with _ |j
  ·injection h with h
   subst h;rw[addr_add];exact hu
  ·cases h
 obtain⟨g',cap',hv',_⟩:=hO.row oQ;obtain⟨cells,⟨h1,h2⟩,h3,h4⟩:=id hown;rcases h2 with⟨hv,h0⟩|⟨g,cap,cur,hv,hbg,hgg,hnc,hcm,hcs,htk⟩
 ·subst hv;refine .inr ⟨?_,hg.os,hg.tape,hg.output,hg.size,fun k hk=>hg.block k hk (by simp[Value.ownBlock])⟩;rcases ha with ha |ha
  ·rw[hv']at ha;simp[Value.ownBlock]at ha
  ·exact ha
 ·subst hv;by_cases hroom:n+1≤cap
  ·obtain⟨w2,hr2,_,hg2⟩:=run_append_own_spare (P:=Tryz.prog) w B 42 ty 9 i 1 ht hi hsize g n cap cells ⟨h1,.inr ⟨g,cap,cur,rfl,hbg,hgg,hnc,hcm,hcs,htk⟩⟩ ⟨b,off,none⟩ 1 c [.string x] sJ hnews (fun u h=>by rw[xB]at h;subst h;rfl) hroom;have e:=hr.symm.trans hr2;injection e with e1 e2
   subst e1 e2;exact .inl ⟨g,cap,rfl,rfl,hg2⟩
  ·have holds:∀(j:Nat) u,cells[j]? =some u→w.cell? ((⟨g,0,none⟩:Addr).add j)=some u:=World.ownsRow.cells (w:=w) (base:=B) (e:=9) (size:=1) (v:=.slice (some ⟨g,0,none⟩) n cap) (n:=n) ⟨h1,.inr ⟨g,cap,cur,rfl,hbg,hgg,hnc,hcm,hcs,htk⟩⟩ (g:=g) rfl
   have hbytes:(n+1)*i.bytes≤140737488355328:=by rw[hby];omega
   have hr2:=run_append_grow (P:=Tryz.prog) w 42 ty 9 i z ht hi hz ⟨g,0,none⟩ n cap cells (by rw[hsize];exact h1) holds ⟨b,off,none⟩ 1 c [.string x] (by rw[hsize];rfl) hnews oQ oQ (growslice_fits oQ hbytes);have e:=hr.symm.trans hr2;injection e with e1 e2
   subst e1 e2;exact .inr ⟨rfl,(bR).drew.alloc nR _⟩
theorem wpList_app2 {w:World}{a:Act}{ops:Array Oper}{rest:List Oper}{o:Oper}{Q:Exit→Act→World→Prop}(hgd:o.guard=none)(s y:Operand)
  (ho:o.op=.call {callee:=.builtin .append,args:=#[s,y],argTypes:=#[42,42]})
  {B n c:Nat}{v:Value}{ds:List D}{x:ByteArray}{A:Option Addr}(hown:OL w B NoF 9 1 v n ds)(hs:a.eval s=v)(hx:a.eval y=.slice A 1 c)
  (hsrc:Src w A (strD x) (fun b=>NoF b∧some b≠v.ownBlock))(hn:n+1≤4294967296)(hB:B≤w.heap.size)
  (h:∀v' w',OL w' B NoF 9 1 v' (n+1) (ds++strD x)→Ap2 w w' v v' n→wpList Tryz.prog ops Q rest (a.put o.dst v') w'):wpList Tryz.prog ops Q (o::rest) a w:=
 wpList_plain hgd fun _ hK=>by
  obtain⟨v',w',hrun,h2,h3⟩:=run_app2 (ty:=o.type) (c:=c) w hown hsrc hn hB;unfold Oper.wp execOp;simp only[ho,resolve,invoke,builtin,Sem.run_bind,Sem.run_pure,Result.andThen_ok,List.map_toArray,List.map_cons,List.map_nil,hs,hx,hrun];exact hK _ _ (h v' w' h2 h3)
def goB:ByteArray:=⟨#[103,111,110,101,32]⟩
def mkB (i:Nat):ByteArray:=⟨#[103,111,110,101,32]⟩++itoaB i
def KS:RK (List ByteArray):=⟨42,1,9,1,fun p=>[.v p.2],fun l=>l.length,fun l=>l.flatMap strD⟩
theorem KS_ne:KS.e≠KS.es:=dQ
theorem elSS:ElT Tryz.prog 47 42 1 24:=.of Tryz.underlying47 kQ oQ
def rep (n:Nat)(x:ByteArray):List ByteArray:=List.replicate n x
theorem rep_len (n:Nat)(x:ByteArray):(rep n x).length=n:=List.length_replicate
theorem rep_snoc (n:Nat)(x:ByteArray):(rep n x).flatMap strD++strD x=(rep (n+1) x).flatMap strD:=by
 unfold rep;rw[List.replicate_succ',xD];simp
theorem rep_get {n k:Nat}{x:ByteArray}(h:k<n):((rep n x).flatMap strD)[k]? =some (.v (.string x)):=by
 have h1:=strs_map (rep n x);rw[h1,zG];unfold rep sV;rw[zG,List.getElem?_replicate,if_pos h];rfl
def DR (W:World)(v:Value)(n:Nat)(x:ByteArray):Prop:=n=0∨∃g cap cs,v=.slice (some ⟨g,0,none⟩) n cap∧Blk W g 9 cs∧∀k,k<n→cs[k]? =some (.string x)
theorem DR.grown {W W':World}{v:Value}{n:Nat}{x:ByteArray}{row:Option Nat}(h:DR W v n x)(hg:W.grownBy W' row)(hne:v.ownBlock=none∨v.ownBlock≠row):DR W' v n x:=by
 rcases h with h |⟨g,cap,cs,e,hb,hc⟩
 ·exact .inl h
 ·refine .inr ⟨g,cap,cs,e,hb.grown hg (fun e2=>?_),hc⟩;subst e;rcases hne with h |h
  ·cases h
  ·exact h e2
theorem DR.stay {W W':World}{v:Value}{n:Nat}{x:ByteArray}(h:DR W v n x)(hb:Bw W W'):DR W' v n x:=h.grown (row:=none) (Below.grown_none hb) (by cases v.ownBlock<;>simp)
theorem DR.of {W:World}{B n c g cap:Nat}{x:ByteArray}(h:OL W B NoF 9 1 (.slice (some ⟨g,0,none⟩) c cap) c ((rep c x).flatMap strD))(hn:n≤c):DR W (.slice (some ⟨g,0,none⟩) n cap) n x:=by
 obtain⟨cs,_,hb,_,_,_,_,hd⟩:=h.blk;refine .inr ⟨g,cap,cs,rfl,hb,fun k hk=>?_⟩;obtain⟨u,hu,hr⟩:=hd k _ (rep_get oQ);rw[hu,hr.v_inv]
structure MkI (B g:Nat)(V:Nat→Value)(NN:Nat→Nat)(w W:World)(i:Nat)(vm:Value)(ml:List (List ByteArray×Value)):Prop where
 hb:Below B w W
 b:Blk W g 42 [V 0,V 1,V 2]
 todo:∀j,i<j→j<3→∃l:List ByteArray,OL W B NoF 9 1 (V j) (NN j) (l.flatMap strD)
 done:∀j,j<i→DR W (V j) (NN j) (mkB j)
 vmr:RW KS W B vm ml
 mll:ml.map (·.1)=(List.range i).map fun j=>rep (NN j+70) (mkB j)
 sp:∀p∈ml,∀j,i≤j→j<3→p.2.ownBlock=none∨p.2.ownBlock≠(V j).ownBlock
 vw:∀q,vm.ownBlock=some q→w.heap.size≤q
section
variable {B g:Nat}{V:Nat→Value}{NN:Nat→Nat}{w W W':World}{i:Nat}{vm vm' mv:Value}{ml:List (List ByteArray×Value)}
theorem MkI.grown {row:Option Nat}(h:MkI B g V NN w W i vm ml)(hB:B≤W.heap.size)(hg:W.grownBy W' row)(h0:∀k,row=some k→B≤k)(h1:some g≠row)(h2:∀j,j<3→j≠i→(V j).ownBlock=none∨(V j).ownBlock≠row)(h3:vm.ownBlock=none∨vm.ownBlock≠row)(h4:∀p∈ml,p.2.ownBlock=none∨p.2.ownBlock≠row)(hi:i≤3):MkI B g V NN w W' i vm ml:=
 ⟨h.hb.grown hg hB h0,h.b.grown hg h1,fun j hj hj3=>let ⟨l,ho⟩:=h.todo j hj hj3;⟨l,ho.kept hg (h2 j hj3 oQ) (fun b hb=>hb.elim)⟩,fun j hj=>(h.done j hj).grown hg (h2 j oQ oQ),h.vmr.kept hg h3 h4,h.mll,h.sp,h.vw⟩
theorem MkI.stay (h:MkI B g V NN w W i vm ml)(hb:Bw W W')(hB:B≤W.heap.size):MkI B g V NN w W' i vm ml:=
 ⟨h.hb.trans (hb.mono hB),h.b.stay hb,fun j hj hj3=>let ⟨l,ho⟩:=h.todo j hj hj3;⟨l,ho.stay hb⟩,fun j hj=>(h.done j hj).stay hb,h.vmr.stay hb,h.mll,h.sp,h.vw⟩
structure Mk3 (B g:Nat)(V:Nat→Value)(NN:Nat→Nat)(w W:World)(i:Nat)(vm:Value)(ml:List (List ByteArray×Value))(S1:Nat)(Ai:Option Addr)(ci:Nat)(mk:ByteArray)(c:Nat)(mv:Value):Prop where
 mi:MkI B g V NN w W i vm ml
 dr:DR W (V i) (NN i) mk
 ol:OL W B NoF 9 1 mv c ((rep c mk).flatMap strD)
 ow:mv=.slice Ai c ci∨∃gm,mv.ownBlock=some gm∧S1≤gm
 sz:S1≤W.heap.size
structure Bd (g:Nat)(V:Nat→Value)(vm:Value)(ml:List (List ByteArray×Value))(S1:Nat):Prop where
 v:∀j,j<3→∀q,(V j).ownBlock=some q→q<S1
 m:∀p∈ml,∀q,p.2.ownBlock=some q→q<S1
theorem own_eq (A:Option Addr)(n c m d:Nat):(Value.slice A n c).ownBlock=(Value.slice A m d).ownBlock:=by
 cases A<;>rfl
theorem fr_ne {v mv:Value}{gm S1:Nat}(h:∀q,v.ownBlock=some q→q<S1)(hg:S1≤gm):v.ownBlock=none∨v.ownBlock≠some gm:=by
 cases e:v.ownBlock with
 |none=>exact .inl rfl
 |some q=>exact .inr fun e2=>by injection e2 with e2;have:=h q e;omega
theorem Mk3.step {S1 c ci:Nat}{Ai:Option Addr}{mk:ByteArray}{mv':Value}{w1:World}{o:Obj}(h:Mk3 B g V NN w W i vm ml S1 Ai ci mk c mv)(hi:i<3)(hc:NN i≤c)(hVi:V i=.slice Ai (NN i) ci)(bd:Bd g V vm ml S1)(dV:∀j k,j<3→k<3→j≠k→(V j).ownBlock=none∨(V j).ownBlock≠(V k).ownBlock)(hB:B≤S1)
  (hO:OL w1 B NoF 9 1 mv' (c+1) ((rep c mk).flatMap strD++strD mk))(ha:Ap2 (W.alloc o) w1 mv mv' c):Mk3 B g V NN w w1 i vm ml S1 Ai ci mk (c+1) mv':=by
 have hBa:Bw W (W.alloc o):=(bR).alloc nR o;have hsz:=h.sz;have hmi:=h.mi.stay hBa oQ;have hdr:=h.dr.stay hBa;have hmv:=h.ol.stay hBa;have hsa:S1≤(W.alloc o).heap.size:=zU hsz hBa.size;rw[rep_snoc]at hO;rcases ha with⟨g0,cap,e1,e2,hg⟩|⟨e1,hb⟩
 ·have how:mv.ownBlock=some g0:=by rw[e1];rfl
  have k0:∀k,some g0=some k→B≤k:=fun k e=>by injection e with e;subst e;exact(hmv.lt _ how).1
  have k1:some g≠some g0:=fun e=>hmv.neBlk hmi.b dQ (by rw[how];exact e.symm)
  have k3:vm.ownBlock=none∨vm.ownBlock≠some g0:=by
   have:=hmi.vmr.kr.ne hmv dQ;rw[how]at this;exact this
  rcases h.ow with e |⟨gm,e,hm⟩
  ·rw[e1]at e;injection e with a1 a2 a3
   have hvo:(V i).ownBlock=some g0:=by rw[hVi,←a1];rfl
   refine⟨hmi.grown oQ hg k0 k1 (fun j hj hji=>by rw[←hvo];exact dV j i hj hi hji) k3 (fun p hp=>by rw[←hvo];exact hmi.sp p hp i nR hi) oQ,?_,hO,.inl (by rw[e2,a1,a3]),zU hsa hg.size⟩;rw[hVi,←a1,←a3];rw[e2]at hO;exact DR.of hO oQ
  ·have e3:gm=g0:=by rw[how]at e;injection e with e;exact e.symm
   subst e3;exact⟨hmi.grown oQ hg k0 k1 (fun j hj hji=>fr_ne (mv:=mv) (bd.v j hj) hm) k3 (fun p hp=>fr_ne (mv:=mv) (bd.m p hp) hm) oQ,hdr.grown hg (fr_ne (mv:=mv) (bd.v i hi) hm),hO,.inr ⟨gm,by rw[e2];rfl,hm⟩,zU hsa hg.size⟩
 ·exact⟨hmi.stay hb oQ,hdr.stay hb,hO,.inr ⟨_,e1,hsa⟩,zU hsa hb.size⟩
theorem Mk3.more {S1 ci:Nat}{Ai:Option Addr}{vm':Value}{w1:World}{o:Obj}(h:Mk3 B g V NN w W i vm ml S1 Ai ci (mkB i) (NN i+70) mv)(hi:i<3)(hVi:V i=.slice Ai (NN i) ci)(bd:Bd g V vm ml S1)(dV:∀j k,j<3→k<3→j≠k→(V j).ownBlock=none∨(V j).ownBlock≠(V k).ownBlock)(hB:B≤S1)(hg0:g<w.heap.size)(hVl:∀j,j<3→∀q,(V j).ownBlock=some q→q<w.heap.size)(hwS:w.heap.size≤S1)
  (hg:(W.alloc o).grownBy w1 vm.ownBlock)(hO:OL w1 B NoB KS.e KS.size vm' (ml.length+1) (ml.flatMap KS.f++KS.f (rep (NN i+70) (mkB i),mv)))(ha:vm'.ownBlock=vm.ownBlock∨vm'.ownBlock=some (W.alloc o).heap.size):MkI B g V NN w w1 (i+1) vm' (ml++[(rep (NN i+70) (mkB i),mv)]):=by
 have hBa:Bw W (W.alloc o):=(bR).alloc nR o;have hsz:=h.sz;have hmi:=h.mi.stay hBa oQ;have hdr:=h.dr.stay hBa;have hmv:=h.ol.stay hBa;have hsa:S1≤(W.alloc o).heap.size:=zU hsz hBa.size;have hvv:∀j,j<3→(V j).ownBlock=none∨(V j).ownBlock≠vm.ownBlock:=fun j hj=>by
  cases e:(V j).ownBlock with
  |none=>exact .inl rfl
  |some q=>exact .inr fun e2=>by have h1:=hVl j hj q e;have h2:=hmi.vw q e2.symm;omega
 have how:mv.ownBlock=(V i).ownBlock∨∃gm,mv.ownBlock=some gm∧S1≤gm:=h.ow.imp (fun e=>by rw[e,hVi];exact own_eq _ _ _ _ _) id
 refine⟨hmi.hb.grown hg oQ (fun k hk=>(hmi.vmr.kr.lt k hk).1),hmi.b.grown hg (fun e=>by have:=hmi.vw g e.symm;omega),fun j hj hj3=>?_,fun j hj=>?_,?_,?_,fun p hp j hj hj3=>?_,fun q hq=>?_⟩
 ·obtain⟨l,ho⟩:=hmi.todo j oQ hj3;exact⟨l,ho.kept hg (hvv j hj3) (fun b hb=>hb.elim)⟩
 ·by_cases hji:j=i
  ·subst hji;exact hdr.grown hg (hvv j hi)
  ·exact(hmi.done j oQ).grown hg (hvv j oQ)
 ·refine hmi.vmr.snoc KS_ne hg hO ?_ (fun p hp=>?_)
  ·show OL _ B NoB 9 1 mv (rep (NN i+70) (mkB i)).length _
   rw[rep_len];exact hmv
  ·rcases how with e |⟨gm,e,hm⟩
   ·rw[e];exact ne_sym (hmi.sp p hp i nR hi)
   ·rcases fr_ne (mv:=mv) (bd.m p hp) hm with e2 |e2
    ·exact .inr (by rw[e,e2];simp)
    ·exact .inr (by rw[e];exact fun e3=>e2 e3.symm)
 ·rw[xR,hmi.mll,List.range_succ,xR];rfl
 ·rcases zM.1 hp with hp |hp
  ·exact hmi.sp p hp j oQ hj3
  ·rw[xB]at hp;subst hp;rcases how with e |⟨gm,e,hm⟩
   ·show mv.ownBlock=none∨mv.ownBlock≠_
    rw[e];exact dV i j hi hj3 oQ
   ·show mv.ownBlock=none∨mv.ownBlock≠_
    rcases fr_ne (mv:=mv) (bd.v j hj3) hm with e2 |e2
    ·exact .inr (by rw[e,e2];simp)
    ·exact .inr (by rw[e];exact fun e3=>e2 e3.symm)
 ·rcases ha with ha |ha
  ·exact hmi.vw q (ha▸hq)
  ·rw[ha]at hq;injection hq with hq;omega
end
end Go.Proofs.YthaabihjeomipaaGreatDoor
