/- explain.plain. -/
import Derived.Test.YthaabihjeomipaaGreatDoorQN3
namespace Go.Proofs.YthaabihjeomipaaGreatDoor
set_option maxRecDepth 100000
set_option maxHeartbeats 16000000
open Go.RowKit Go.Deep
set_option linter.unusedVariables false
set_option linter.unusedSimpArgs false
theorem OLe (w:World)(T size:Nat):OL (w.alloc (.cells #[] T)) w.heap.size NoF T size (.slice (some ⟨w.heap.size,0,none⟩) 0 0) 0 []:=
 ⟨[],⟨sJ,.inr ⟨w.heap.size,0,#[],rfl,nR,heap_alloc_new w _,nR,zE _,sJ,sJ⟩⟩,rfl,fun k d h=>by simp at h⟩
theorem ndPl (x:Nd):PlainL (ndD x):=fun d hd=>by
 simp only[ndD,List.mem_cons,List.not_mem_nil,or_false]at hd;rcases hd with rfl |rfl |rfl |rfl |rfl |rfl<;>exact⟨_,rfl⟩
theorem ndLn (l:List Nd):(l.flatMap ndD).length=l.length*6:=fml (f:=ndD) (m:=6) (fun _=>rfl) l
theorem nds_map (L:List Nd):L.flatMap ndD=(L.flatMap ndV).map D.v:=by rw[List.map_flatMap];rfl
theorem ndV_one {L:List Nd}{u:Value}(h:u∈L.flatMap ndV):u.oneCell'=true:=by
 obtain⟨x,hx,hu⟩:=xF.1 h;simp only[ndV,List.mem_cons,List.not_mem_nil,or_false]at hu;rcases hu with rfl |rfl |rfl |rfl |rfl |rfl<;>rfl
theorem emp_t {x:ByteArray}(h:x=emp):(x.toList==([]:List UInt8))=true∧(x.toList != ([]:List UInt8))=false∧x.toList.isEmpty=true∧x.toList=[]:=by
 have e1:(x.toList==([]:List UInt8))=true:=by rw[emp_eq,zW h]
 exact⟨e1,by rw[bne,e1];rfl,by rw[←e1];cases x.toList<;>rfl,by simpa using e1⟩
theorem emp_f {x:ByteArray}(h:x≠emp):(x.toList==([]:List UInt8))=false∧(x.toList != ([]:List UInt8))=true∧x.toList.isEmpty=false∧¬x.toList=[]:=by
 have e1:(x.toList==([]:List UInt8))=false:=by rw[emp_eq,zV h]
 exact⟨e1,by rw[bne,e1];rfl,by rw[←e1];cases x.toList<;>rfl,by simpa using e1⟩
def mpR (f:Nd→Nd)(L:List Nd)(j:Nat):List Nd:=(L.take j).map f++L.drop j
theorem mpR_get {f:Nd→Nd}{L:List Nd}{j:Nat}{x:Nd}(h:L[j]? =some x):(mpR f L j)[j]? =some x∧(mpR f L j).set j (f x)=mpR f L (j+1):=by
 obtain⟨h1,h2⟩:=zC.1 h;have hl:((L.take j).map f).length=j:=by rw[xC,zO];omega
 unfold mpR;rw[List.drop_eq_getElem_cons h1,h2];constructor
 ·rw[zP oQ,hl,Nat.sub_self];rfl
 ·rw[List.set_append_right _ _ oQ,hl,Nat.sub_self,List.set_cons_zero,zJ,h,xR];simp
theorem mpR_end (f:Nd→Nd)(L:List Nd):mpR f L L.length=L.map f:=by unfold mpR;rw[zL,List.drop_length,zT]
theorem mpR_zero (f:Nd→Nd)(L:List Nd):mpR f L 0=L:=by unfold mpR;simp
theorem mpR_len (f:Nd→Nd)(L:List Nd)(j:Nat):(mpR f L j).length=L.length:=by unfold mpR;rw[zH,xC,zO,List.length_drop];omega
theorem mpR_same {f:Nd→Nd}{L:List Nd}{j:Nat}{x:Nd}(h:L[j]? =some x)(hf:f x=x):mpR f L (j+1)=mpR f L j:=by
 obtain⟨h1,h2⟩:=mpR_get (f:=f) h;rw[←h2,hf];obtain⟨h3,h4⟩:=zC.1 h1;rw[←h4];exact List.set_getElem_self h3
def NR (w:World)(B:Nat)(v:Value)(L:List Nd):Prop:=(v=.slice none 0 0∧L=[])∨∃g cap rest,v=.slice (some ⟨g,0,none⟩) L.length cap∧B≤g∧L.length≤cap∧cap≤maxLen∧Blk w g 96 (L.flatMap ndV++rest)
theorem NR.of {w:World}{B:Nat}{v:Value}{L:List Nd}(h:OL w B NoF 96 6 v L.length (L.flatMap ndD)):NR w B v L:=by
 obtain⟨A,c,rfl⟩:=h.form;cases A with
 |none=>
  obtain⟨cells,h1,_⟩:=h;rcases h1.2 with⟨e,h0⟩|⟨g',cap',cur,e,_⟩
  ·injection e with _ e2 e3
   have:L=[]:=List.length_eq_zero_iff.1 h0;subst this;exact .inl ⟨by rw[e3];rfl,rfl⟩
  ·injection e with e _ _;cases e
 |some a=>
  obtain⟨g,hag⟩:∃g,a=⟨g,0,none⟩:=by
   obtain⟨cells,h1,_⟩:=h;rcases h1.2 with⟨e,_⟩|⟨g',cap',cur,e,_⟩
   ·injection e with e _ _;cases e
   ·injection e with e _ _;injection e with e;exact⟨g',e⟩
  subst hag;obtain⟨cs,hB,hb,hn,hm,hl,hd,hr⟩:=h.blk;refine .inr ⟨g,c,cs.drop (L.length*6),rfl,hB,hn,hm,?_⟩;have e:cs.take (L.length*6)=L.flatMap ndV:=by
   refine List.ext_getElem? fun k=>?_
   have hvl:(L.flatMap ndV).length=L.length*6:=fml ndV_len L;by_cases hk:k<L.length*6
   ·obtain⟨u,hu⟩:∃u,(L.flatMap ndV)[k]? =some u:=⟨_,zI oQ⟩
    obtain⟨u',hu',hr'⟩:=hr k (.v u) (by rw[nds_map,zG,hu];rfl);rw[zZ,if_pos hk,hu',hu,hr'.v_inv]
   ·rw[xO (by rw[zO];omega),xO oQ]
  rw[←e,List.take_append_drop];exact hb
theorem NR.stay {w w':World}{B:Nat}{v:Value}{L:List Nd}(h:NR w B v L)(hb:Bw w w'):NR w' B v L:=by
 rcases h with h |⟨g,cap,rest,h1,h2,h3,h4,h5⟩
 ·exact .inl h
 ·exact .inr ⟨g,cap,rest,h1,h2,h3,h4,h5.stay hb⟩
theorem NR.rd {w:World}{B:Nat}{v:Value}{L:List Nd}(h:NR w B v L):Rd w (fun b=>b<w.heap.size) v (.sl L.length (L.flatMap ndD)):=by
 rcases h with⟨rfl,rfl⟩|⟨g,cap,rest,rfl,h2,h3,h4,h5⟩
 ·exact Rd.nil _ _
 ·refine .sl _ _ _ g 0 _ (fun k=>((L.flatMap ndV)[k]?).getD undef) h3 h4 (fun _=>⟨rfl,h5.lt⟩) (fun k d hd=>?_) (fun k d hd=>?_)
  all_goals
   rw[nds_map,zG]at hd;obtain⟨u,hu,rfl⟩:=xG.1 hd
  ·rw[Nat.zero_add,h5.cell k,zS (zC.1 hu).1,hu];rfl
  ·rw[hu];exact .v _ (ndV_one (zA hu))
def PrRel (q:Qy)(s:Sl3)(t:List Nd)(w:World)(v i:Value)(wr:World):Prop:=∃j:Nat,j≤t.length∧i=.int .i64 j∧QB q s w wr∧NR wr w.heap.size v (mpR (rnp q) t j)
namespace shW
open nmW ckW
theorem cloneNd_k (A:Option Addr)(c:Nat)(F:Nat→Prop)(l:List Nd)(hl:l.length≤1048576)(w:World)(r:Rd w F (.slice A l.length c) (.sl l.length (l.flatMap ndD))):
  Calls Tryz.prog 78 #[.slice A l.length c] w fun e w'=>∃v,e=.returned v∧OL w' w.heap.size NoF 96 6 v l.length (l.flatMap ndD)∧Bw w w':=by
 have hl1:=ndLn l;have hcmp:∀(W:World)(a:Option Addr)(n c:Nat),(binOp .eql 28 (.slice a n c) (.slice none 0 0)).run Tryz.prog W=.ok (.bool a.isNone) W:=fun W a n c=>Lib.run_eql_slice_nil W _ _ a n c 0 0 Tryz.underlying28
 cases A with
 |none=>
  obtain rfl:l=[]:=by
   cases l with
   |nil=>rfl
   |cons a l=>obtain⟨b,off,e,_⟩:=r.cells (by simp[ndD]);cases e
  go_enter Tryz.func78,Tryz.ntmps78;go_wp2;go_ret;exact⟨_,rfl,.nil _ _ _ _ _,.refl _ _⟩
 |some a=>
  have r1:=r.alloc (.cells #[] 96);go_enter Tryz.func78,Tryz.ntmps78;go_wp2_with (at_builtin;refine wpa rfl (.tmp 5) (.tmp 6) _ rfl (m:=l.length) (news:=l.flatMap ndD) elNd (OLe w 96 6) rfl rfl (Rd.srcq (PlainL.flatMap ndPl l) r1) hl1 oQ oQ sJ ?_;intro v1 w1 hO1 hg1 ha1;have hb1:Bw w w1:=(bA).grown hg1 sJ (fun q hq=>by simp[Value.ownBlock]at hq;omega));go_ret;exact⟨_,rfl,by simpa using hO1,hb1⟩
theorem pc_k (B2:Option Addr)(d2:Nat)(x:It)(g:Nat)(y:Nd)(w:World)(hg:Blk w g 96 (ndV y)):
  Calls Tryz.prog 80 #[.agg #[.bool x.neg,.slice B2 x.tys.length d2,.string x.v,.int .i64 x.lo,.int .i64 x.hi],.pointer (some ⟨g,0,none⟩)] w fun e w'=>e=.returned (.bool (decide (x.v=y.v)))∧Bw w w':=by
 have hB:Bw w (w.alloc (.cells #[.bool x.neg,.slice B2 x.tys.length d2,.string x.v,.int .i64 x.lo,.int .i64 x.hi] 53)):=bA;have y2:=hg.cell 2;simp only[ndV,zY,xA]at y2;have hgl:=hg.lt;obtain⟨b,hb⟩:∃b,b=decide (x.v=y.v):=⟨_,rfl⟩
 rw[←hb];have h1:(x.v.toList==y.v.toList)=b:=by rw[bqb,hb]
 replace hb:=Hd hb;replace hB:=Hd hB;clear hg;go_enter Tryz.func80,Tryz.ntmps80;go_wp2;go_ret;exact⟨rfl,hB.out⟩
theorem idx_k (q:Qy)(A:Option Addr)(c:Nat)(F:Nat→Prop)(g:Nat)(y:Nd)(hl:q.items.length≤1048576)(w:World)(hF:∀b,F b→b<w.heap.size)(r:Rd w F (.slice A q.items.length c) (.sl q.items.length (q.items.flatMap itD)))(hg:Blk w g 96 (ndV y)):
  Calls Tryz.prog 79 #[.slice A q.items.length c,.func (.func 80) #[] #[.pointer (some ⟨g,0,none⟩)]] w fun e w'=>e=.returned (.int .i64 (itemI q y.v))∧Bw w w':=by
 obtain⟨b,hc⟩:∃b,b=itemI q y.v:=⟨_,rfl⟩
 rw[←hc];replace hc:=Hd hc;replace r:=Hd r;replace hF:=Hd hF;replace hg:=Hd hg;go_enter Tryz.func79,Tryz.ntmps79;go_wp2;go_loopw [8] (fun i wr=>∃j:Nat,j≤q.items.length∧i=.int .i64 j∧Bw w wr∧Hid (∀(i:Nat) a,(vrs q)[i]? =some a→i<j→a≠y.v)) (fun i _=>q.items.length- (intOf i).toNat)
 case atStart=>exact⟨0,zE _,rfl,bR,fun i a h h3=>by omega⟩
 case round=>
  obtain⟨j,hj,rfl,hB,hp⟩:=hrel;by_cases hlt:j<q.items.length
  ·obtain⟨x,hx⟩:=getx hlt;obtain⟨gi,off,B2,d2,rfl,_,_,a0,a1,a2,a3,a4⟩:=it_at (r.out.under hB hF.out) hx;have g0:(0:Int)≤(j:Int):=oQ;have g1:(j:Int)<q.items.length:=oQ;have hx2:(vrs q)[j]? =some x.v:=by unfold vrs;rw[zG,hx];rfl
   have kc:=Hd (pc_k B2 d2 x g y wr (hg.out.stay hB));replace hx2:=Hd hx2;have hB':=Hd hB;clear hx hB;by_cases hu:x.v=y.v
   ·rw[zW hu]at kc;have hfin:b=(j:Int):=by rw[hc.out];exact placeI_at (by rw[hx2.out,hu]) hp.out
    replace hu:=Hd hu;replace hfin:=Hd hfin;go_wp2_with (go_at_call 80;refine kc.out.mono ?_;rintro e W ⟨rfl,hW⟩;have hB2:=Hd (hB'.out.and1 nR hW);clear hW);go_ret;exact⟨rtI hfin.out.symm,hB2.out⟩
   ·rw[zV hu]at kc;replace hu:=Hd hu;go_wp2_with (go_at_call 80;refine kc.out.mono ?_;rintro e W ⟨rfl,hW⟩;have hB2:=Hd (hB'.out.and1 nR hW);clear hW);go_roundw
    case rel=>
     refine⟨j+1,oQ,gQ,hB2.out,fun i a h h3=>?_⟩;by_cases hij:i=j
     ·subst hij;obtain rfl:x.v=a:=by have:=hx2.out;rw[h]at this;exact(zq9 this).symm
      exact hu.out
     ·exact hp.out i a h oQ
    case measure=>exact mQ
  ·have g1:¬(j:Int)<q.items.length:=oQ;have hfin:b= -1:=by
    rw[hc.out];exact placeI_none fun i a h=>hp.out i a h (by have:=(zC.1 h).1;unfold vrs at this;simp at this;omega)
   replace hfin:=Hd hfin;replace hB:=Hd hB;go_wp2;go_ret;exact⟨rtI hfin.out.symm,hB.out⟩
theorem plain_k (q:Qy)(s:Sl3)(A:Option Addr)(c:Nat)(F G:Nat→Prop)(t:List Nd)(hs:SzQ q)(ht:SzN t)(hN:NdOk t)(hf:∀x∈t,fieldsB x=true)(w:World)(hT:XT w)(Q:QR w G q s)(hF:∀b,F b→b<w.heap.size)(r:Rd w F (.slice A t.length c) (.sl t.length (t.flatMap ndD))):
  Calls Tryz.prog 39 #[.agg ⟨qV q s⟩,.slice A t.length c] w (ExP (pln q t) w):=by
 have h0:=QB.new q s w;have kc:=cloneNd_k A c F t ht.1 (w.alloc (.cells ⟨qV q s⟩ 31)) (r.under h0.1 hF);have ki:∀(g:Nat)(y:Nd) W,Bw w W→Blk W g 96 (ndV y)→_:=fun g y W h hb=>idx_k q s.a1 s.c1 G g y hs.il W (Q.under h).lt (Q.under h).r1 hb
 have kf:∀(v:ByteArray) W,Bw w W→Calls Tryz.prog 33 #[.int .i64 (itemI q v)] W (StP (itoaB (itemI q v)) W):=fun v W h=>by
  have hb:=itemI_b hs.il v;refine(Tryz.strconv_Itoa (itemI q v) oQ oQ W (hT.stay h).pw).mono ?_;rintro e w' ⟨rfl,k,os,rfl⟩;exact⟨rfl,below_grown W k os⟩
 have hbd:=fun v=>itemI_b hs.il v
 obtain⟨hp1,hp2⟩:=pln_ok hs.il ht hN;have hmp:t.map (rnp q)=pln q t:=pln_prog hf;have hpl:(pln q t).length=t.length:=by unfold pln;rw[xC]
 have kx:∀v W,Bw w W→NR W w.heap.size v (pln q t)→Calls Tryz.prog 81 #[v] W (ExP (pln q t) W):=fun v W hW hO=>by
  have hr:=hO.rd;obtain⟨A',c',rfl,_,_⟩:=hr.sl_inv;exact expr_k A' c' (fun b=>b<W.heap.size) (pln q t) hp1 hp2 W (hT.stay hW) (fun b h=>h) hr
 have hmf:∀(fn:Fn) (first cap:Array Value) (w:World),(Instr.makeFunc fn first cap).run Tryz.prog w=.ok (.func fn first cap) w:=fun _ _ _ _=>rfl
 have hl:=ht.1;have hv64:∀x∈t,x.v.size≤64:=fun x hx=>(hN x hx).1
 obtain⟨A1,c1,A2,c2,A3,c3⟩:=s;simp only[qV]at h0 ki kc ⊢;replace h0:=Hd h0;replace kc:=Hd kc;replace ki:=Hd ki;replace kf:=Hd kf;replace kx:=Hd kx;replace hbd:=Hd hbd;replace hmp:=Hd hmp;replace hpl:=Hd hpl;clear hs ht hN hT Q hp1 hp2 hf hv64 r hF;go_enter Tryz.func39,Tryz.ntmps39;go_wp2_with (go_at_call 78;refine kc.out.mono ?_;rintro e W0 ⟨v0,rfl,hO0,hX0⟩;have hQ0:=Hd (h0.out.stay hX0);have hN0:=Hd (NR.of (hO0.base h0.out.1.size));obtain⟨C1,d1,rfl⟩:=hO0.form;clear hO0 hX0);go_loopw [13] (fun i wr=>PrRel q ⟨A1,c1,A2,c2,A3,c3⟩ t w (.slice C1 t.length d1) i wr) (fun i _=>t.length- (intOf i).toNat)
 case atStart=>exact⟨0,zE _,rfl,hQ0.out,by rw[mpR_zero];exact hN0.out⟩
 case round=>
  clear hN0 hQ0 h0 kc;obtain⟨j,hj,rfl,hQ,hO⟩:=hrel;by_cases hlt:j<t.length
  ·obtain⟨x,hx⟩:=getx hlt;obtain⟨hm1,hm2⟩:=mpR_get (f:=rnp q) hx;have hml:=mpR_len (rnp q) t j;rcases hO with⟨_,h⟩|⟨g,cap,rest,he,hBg,hcp,hcm,hb⟩
   ·rw[h]at hml;simp at hml;omega
   injection he with he1 he2 he3
   clear he2;subst he1 he3;obtain⟨M,hM⟩:∃M,M=mpR (rnp q) t j:=⟨_,rfl⟩
   rw[←hM]at hm1 hm2 hml hcp hb;have hvl:(M.flatMap ndV).length=t.length*6:=by rw[fml ndV_len,hml]
   have hcell:∀(k:Nat) u,(ndV x)[k]? =some u→wr.cell? ⟨g,j*6+k,none⟩=some u:=fun k u hk=>by
    have h1:=fmg (f:=ndV) (m:=6) ndV_len hm1 hk;rw[hb.cell,zS (zC.1 h1).1,h1]
   have z0:=hcell 0 _ rfl;have z1:=hcell 1 _ rfl;have z2:=hcell 2 _ rfl;have z3:=hcell 3 _ rfl;have z4:=hcell 4 _ rfl;have z5:=hcell 5 _ rfl;simp only[Nat.add_zero]at z0;have hsz:=hQ.1.size;have g0:(0:Int)≤(j:Int):=oQ;have g1:(j:Int)<t.length:=oQ;have hgl:=hb.lt;have hB1:Bw wr (wr.alloc (.cells ⟨ndV x⟩ 96)):=bA;have hbn:Blk (wr.alloc (.cells ⟨ndV x⟩ 96)) wr.heap.size 96 (ndV x):=Blk.new _ _ _;by_cases hv:x.v=emp
   ·have hrn:rnp q x=x:=(by unfold rnp;rw[if_pos hv]);have hsm:=mpR_same hx hrn;obtain⟨e1,e2,e3,e4⟩:=emp_t hv;have hQ1:=Hd (hQ.stay hB1);have hO1:=Hd (show NR (wr.alloc (.cells ⟨ndV x⟩ 96)) w.heap.size (.slice (some ⟨g,0,none⟩) t.length d1) (mpR (rnp q) t (j+1))from by
     rw[hsm,←hM,←hml];exact .inr ⟨g,d1,rest,rfl,hBg,hcp,hcm,hb.stay hB1⟩)
    obtain⟨op,nn,vv,at_,na,nb⟩:=x;simp only[ndV]at z0 z1 z2 z3 z4 z5 hQ1 hO1;simp only at e1 e2 e3 e4;replace hv:=Hd hv;clear hQ hb hM hm1 hm2 hml hvl hcell hB1 hbn hrn hsm hx;go_wp2;go_roundw
    case rel=>exact⟨j+1,oQ,gQ,hQ1.out,hO1.out⟩
    case measure=>exact mQ
   ·have hrn:rnp q x={x with v:=vB++itoaB (itemI q x.v)}:=(by unfold rnp;rw[if_neg hv]);obtain⟨e1,e2,e3,e4⟩:=emp_f hv;have ki1:=ki.out wr.heap.size x _ (hQ.1.trans (hB1.mono hsz)) hbn;have kf1:=kf.out x.v;have hbi:=hbd.out x.v;have hset:=ndV_set (c:=2) (p':=rnp q x) (x:=.string (vB++itoaB (itemI q x.v))) oQ (by rw[hrn];rfl) hm1;rw[hm2]at hset;have hb1:=hb.stay hB1;obtain⟨y0,y1,y2,y3,y4,y5,y6⟩:=(hQ.stay hB1).cells;simp only at y0 y1 y2 y3 y4 y5 y6;obtain⟨op,nn,vv,at_,na,nb⟩:=x;simp only[ndV]at z0 z1 z2 z3 z4 z5 hbn hB1 ki1 hb1 y0 y1 y2 y3 y4 y5 y6;simp only at kf1 hset hbi ki1 e1 e2 e3 e4;generalize itemI q vv=I at ki1 kf1 hset hbi;have hits:=itoaB_size I oQ oQ;generalize itoaB I=S at kf1 hset hits;have hss:(⟨#[118]⟩:ByteArray).size+S.size≤9223372036854775807:=by show 1+S.size≤_;omega
    have hQ1:=Hd (show QB q ⟨A1,c1,A2,c2,A3,c3⟩ w (wr.alloc (.cells ⟨[.int .i64 op,.int .i64 nn,.string vv,.string at_,.int .i64 na,.int .i64 nb]⟩ 96))from hQ.stay hB1);replace hB1:=Hd hB1;replace hb1:=Hd hb1;have hbo:=Hd (xW hb.lt (blk_ne hQ.2 hb dQ));have hset':=Hd hset;have hml':=Hd (xW hml (xW hvl (xW hcp (xW hcm hBg))));replace hM:=Hd hM;replace ki1:=Hd ki1;replace kf1:=Hd kf1;replace hv:=Hd hv;replace hbn:=Hd hbn;clear hQ hb hm1 hm2 hml hvl hcell hrn hx hbi hits hset hcp hcm hBg;go_upto_region 7 with(go_at_call 79;refine ki1.out.mono ?_;rintro e W1 ⟨rfl,hX1⟩;have hB2:=Hd (hQ1.out.1.trans (hX1.mono (zU hsz hB1.out.size)));have kf2:=Hd (kf1.out W1 hB2.out);replace hX1:=Hd hX1;clear y0 y1 y2 y3 y4 y5 y6 z0 z1 z2 z3 z4 z5)
    go_wp2_with (go_at_call 33;refine kf2.out.mono ?_;rintro e W2 ⟨rfl,hX2⟩;have hX:=hX1.out.trans (hX2.mono hX1.out.size);have hb2:=hb1.out.stay hX;have b2:=hb2.cell (j*6+2);have fb2:=hb2.frozen (j*6+2);have hj2:=hml'.out.2.1;rw[zS oQ]at b2;obtain⟨ub,hub⟩:∃u,(M.flatMap ndV)[j*6+2]? =some u:=⟨_,zI oQ⟩;rw[hub]at b2;replace hb2:=Hd hb2;replace hX:=Hd hX;clear hX1 hX2 hub hj2);go_roundw
    case rel=>
     obtain⟨q1,q2,q3,q4,q5⟩:=hml'.out;obtain⟨o1,o2⟩:=hbo.out;have hQ3:=hQ1.out.stay hX.out;have hQ9:QB q ⟨A1,c1,A2,c2,A3,c3⟩ w (W2.setCell ⟨g,j*6+2,none⟩ (.string (⟨#[118]⟩++S))):=⟨Below.setCell (p:=⟨g,j*6+2,none⟩) hQ3.1 q5 _,hQ3.2.far o2 _⟩;refine⟨j+1,oQ,gQ,hQ9,.inr ⟨g,d1,rest,by rw[mpR_len],q5,by rw[mpR_len];rw[q1]at q3;exact q3,q4,?_⟩⟩;have h3:=hb2.out.set_ (j*6+2) (.string (⟨#[118]⟩++S));rw[List.set_append,if_pos oQ]at h3;have e9:(M.flatMap ndV).set (j*6+2) (.string (⟨#[118]⟩++S))=(mpR (rnp q) t (j+1)).flatMap ndV:=hset'.out;rw[e9]at h3;exact h3
    case measure=>exact mQ
  ·obtain rfl:j=t.length:=oQ;have g1:¬(t.length:Int)<t.length:=oQ;rw[mpR_end,hmp.out]at hO;have kx1:=Hd (kx.out _ wr hQ.1 hO);replace hQ:=Hd hQ;clear hO;go_wp2_with (go_at_call 81;refine kx1.out.mono ?_;rintro e W ⟨rfl,hX⟩;replace hX:=Hd hX);refine bodyPost_ret (results_tmp2 rfl _ _ _) rfl ?_;exact⟨rfl,hQ.out.1.and1 nR hX.out⟩
end shW
end Go.Proofs.YthaabihjeomipaaGreatDoor
