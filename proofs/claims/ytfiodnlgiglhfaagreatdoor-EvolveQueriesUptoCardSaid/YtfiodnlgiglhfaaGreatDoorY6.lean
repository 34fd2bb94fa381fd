/- A query of the call's own reads as a query; the. -/
import Derived.Test.YtfiodnlgiglhfaaGreatDoorY3
namespace Go.Proofs.YtfiodnlgiglhfaaGreatDoor
set_option maxRecDepth 100000
set_option maxHeartbeats 16000000
open Go.RowKit Go.Deep
set_option linter.unusedVariables false
set_option linter.unusedSimpArgs false
section
variable {α:Type}
theorem fl_get {f:α×Value→List D}{g:α→List D}{n:α→Nat}{ds:α→List D}{m:Nat}(hf:∀p,(f p).length=m)(hg:∀x,(g x).length=m)
  (hp:∀(p:α×Value)(k:Nat)(d:D),(g p.1)[k]? =some d→∃d',(f p)[k]? =some d'∧(d'=d∨(d'=.v p.2∧d=.sl (n p.1) (ds p.1)))):∀{l:List (α×Value)}{k:Nat}{d:D},((l.map (·.1)).flatMap g)[k]? =some d→∃d',(l.flatMap f)[k]? =some d'∧(d'=d∨∃p∈l,d'=.v p.2∧d=.sl (n p.1) (ds p.1)):=by
 intro l;induction l with
 |nil=>intro k d h;simp at h
 |cons a l ih=>
  intro k d h;rw[List.map_cons,zK]at h;rw[zK];by_cases hk:k<m
  ·rw[zS (by rw[hg];omega)]at h;rw[zS (by rw[hf];omega)];obtain⟨d',h1,h2⟩:=hp a k d h;refine⟨d',h1,?_⟩;rcases h2 with h2 |h2
   ·exact .inl h2
   ·exact .inr ⟨a,xS,h2⟩
  ·rw[zP (by rw[hg];omega),hg]at h;rw[zP (by rw[hf];omega),hf];obtain⟨d',h1,h2⟩:=ih h;refine⟨d',h1,?_⟩;rcases h2 with h2 |⟨p,hp,h3⟩
   ·exact .inl h2
   ·exact .inr ⟨p,xU _ hp,h3⟩
theorem RW.rd {K:RK α}{w:World}{B:Nat}{v:Value}{l:List (α×Value)}{G:Nat→Prop}{g:α→List D}(h:RW K w B v l)(hK:K.es≠K.e)(hf:∀p,(K.f p).length=K.size)(hg:∀x,(g x).length=K.size)
  (hp:∀(p:α×Value)(k:Nat)(d:D),(g p.1)[k]? =some d→∃d',(K.f p)[k]? =some d'∧(d'=d∨(d'=.v p.2∧d=.sl (K.n p.1) (K.ds p.1))))(hG:∀b,B≤b→b<w.heap.size→G b):Rd w G v (.sl l.length ((l.map (·.1)).flatMap g)):=by
 have hO:OL w B G K.e K.size v l.length ((l.map (·.1)).flatMap g):=by
  obtain⟨cells,h1,h2,h3⟩:=h.kr;refine⟨cells,h1,by rw[fml (f:=g) hg,xC,h1.1],fun k d hd=>?_⟩;obtain⟨d',hd',hor⟩:=fl_get hf hg hp hd;obtain⟨u,hu,hr⟩:=h3 k d' hd';refine⟨u,hu,?_⟩;rcases hor with rfl |⟨p,hp,rfl,rfl⟩
  ·exact hr.mono fun b hb _=>hb.1.elim
  ·have hv:=hr.v_inv;subst hv;refine(h.fr p hp).rd' (fun b hb _=>hb.elim) (fun b hb h1 h2=>⟨hG b h1 h2,fun e=>?_⟩);rcases(h.fr p hp).ne h.kr hK with e2 |e2
   ·rw[hb]at e2;cases e2
   ·exact e2 (by rw[hb,e])
 exact hO.rd (fun b hb _=>hb) hG
end
theorem OQ.qr {w:World}{B:Nat}{v1 v2 v3:Value}{l:List (It×Value)}{rl:List (List Nd×Value)}{q:Qy}{G:Nat→Prop}(h:OQ w B v1 v2 v3 l q.wh rl)(hl:l.map (·.1)=q.items)(hr:rl.map (·.1)=q.ret)(hG:∀b,B≤b→b<w.heap.size→G b)(hlt:∀b,G b→b<w.heap.size):
  ∃s,quV q v1 v2 v3 q.by_=qV q s∧QR w G q s:=by
 have e1:l.length=q.items.length:=by rw[←hl,xC]
 have e3:rl.length=q.ret.length:=by rw[←hr,xC]
 have r1:=h.i.rd (G:=G) (g:=itD) (by decide) (fun _=>rfl) (fun _=>rfl) (fun p k d hd=>by
  match k,hd with
  |0,hd=>exact⟨_,rfl,.inl (zq9 hd)⟩
  |1,hd=>exact⟨_,rfl,.inr ⟨rfl,(zq9 hd).symm⟩⟩
  |2,hd=>exact⟨_,rfl,.inl (zq9 hd)⟩
  |3,hd=>exact⟨_,rfl,.inl (zq9 hd)⟩
  |4,hd=>exact⟨_,rfl,.inl (zq9 hd)⟩
  |k+5,hd=>simp[itD]at hd) hG
 have r3:=h.r.rd (G:=G) (g:=reD) (by decide) (fun _=>rfl) (fun _=>rfl) (fun p k d hd=>by
  match k,hd with
  |0,hd=>exact⟨_,rfl,.inr ⟨rfl,(zq9 hd).symm⟩⟩
  |k+1,hd=>simp[reD]at hd) hG
 have r2:=h.wr.rd (G:=G) (fun b hb _=>hb.elim) hG;obtain⟨A1,c1,rfl⟩:=h.i.kr.form;obtain⟨A2,c2,rfl⟩:=h.wr.form;obtain⟨A3,c3,rfl⟩:=h.r.kr.form;rw[hl,e1]at r1;rw[hr,e3]at r3;exact⟨⟨A1,c1,A2,c2,A3,c3⟩,by rw[e1,e3];rfl,⟨r1,r2,r3,hlt⟩⟩
namespace lawW
open nmW ckW evW
theorem marked_k (F:Nat→Prop)(q:Qy)(s:Sl3)(hs:SzQ q)(hil:q.items.length≤20)(hI:∀(i:Nat) it,q.items[i]? =some it→∀x∈it.tys,x=mkS i)(hw:∀x∈q.wh,x.a=899)(hr:∀(i:Nat) t,q.ret[i]? =some t→∀x∈t,x.a=900+(i:Int))(w:World)(R:QR w F q s):
  Calls Tryz.prog 30 #[.agg ⟨qV q s⟩] w fun e w'=>e=.returned (.bool true)∧Bw w w':=by
 have h0:=QB.new q s w;have hF:=R.lt;have kit:=fun(i:Nat) it (hi:q.items[i]? =some it)=>it_at R.r1 hi
 have knd:=fun(i:Nat) x (hi:q.wh[i]? =some x)=>nd_at R.r2 hi
 have kre:=fun(i:Nat) t (hi:q.ret[i]? =some t)=>re_at R.r3 hi
 have hrl:=hs.rl;have hits:=hs.it;have hres:=hs.re;have hwl:=hs.wh.1;obtain⟨A1,c1,A2,c2,A3,c3⟩:=s;try simp only at kit knd kre
 simp only[qV]at h0 ⊢;replace h0:=Hd h0;replace hF:=Hd hF;replace kit:=Hd kit;replace knd:=Hd knd;replace kre:=Hd kre;replace hits:=Hd hits;replace hres:=Hd hres;replace hI:=Hd hI;replace hw:=Hd hw;replace hr:=Hd hr;clear R hs;go_enter Tryz.func30,Tryz.ntmps30;go_wp2;go_loopw [3] (fun i wr=>∃k:Nat,k≤q.items.length∧i=.int .i64 k∧QB q ⟨A1,c1,A2,c2,A3,c3⟩ w wr) (fun i _=>q.items.length- (intOf i).toNat)
 case atStart=>exact⟨0,zE _,rfl,h0.out⟩
 case round=>
  clear h0;obtain⟨i,hi0,rfl,hQ⟩:=hrel;have y0:wr.cell? ⟨w.heap.size,0,none⟩=some (.slice A1 q.items.length c1):=hQ.2.cell 0;by_cases hlt:i<q.items.length
  ·obtain⟨it,hi⟩:=getx hlt;obtain⟨gI,oI,A5,c5,eI,hFI,rx0,_,b1,_,_,_⟩:=kit.out i it hi;try simp only at eI
   subst eI;have hgI:=hF.out gI hFI;have htl:=(hits.out it (zA hi)).1.1;have hmk:=hI.out i it hi;have hi26:i<26:=by omega
   have g0:(0:Int)≤(i:Int):=by omega
   have g1:(i:Int)<q.items.length:=by omega
   have hQ0:=Hd hQ;replace hmk:=Hd hmk;replace hi:=Hd hi;replace rx0:=Hd rx0;clear hQ;go_wp2;clear y0;go_loopw [4] (fun x wr=>∃k:Nat,k≤it.tys.length∧x=.int .i64 k∧QB q ⟨some ⟨gI,oI,none⟩,c1,A2,c2,A3,c3⟩ w wr) (fun x _=>it.tys.length- (intOf x).toNat)
   case atStart=>exact⟨0,zE _,rfl,hQ0.out⟩
   case round=>
    clear hQ0;obtain⟨k,hk,rfl,hQ⟩:=hrel;have hB:=hQ.1;have hbs:=hB.size;have y0:wr.cell? ⟨w.heap.size,0,none⟩=some (.slice (some ⟨gI,oI,none⟩) q.items.length c1):=hQ.2.cell 0;have y1:=(hB.cell (p:=⟨gI,oI+i*5+1,none⟩) hgI).trans b1;by_cases hltk:k<it.tys.length
    ·obtain⟨n,hn⟩:=getx hltk;obtain rfl:=hmk.out n (zA hn);obtain⟨b5,o5,rfl,hF5,n0⟩:=str_at rx0.out hn;have hg5:=hF.out b5 hF5;have p0:(0:Int)≤(k:Int):=by omega
     have p1:(k:Int)<it.tys.length:=(by omega);have kS:=fun W (hW:Bw wr W)=>xW ((hQ.stay hW).2.cell 0) (xW ((hW.cell (p:=⟨gI,oI+i*5+1,none⟩) (by show gI<_;omega)).trans y1) ((hW.cell (p:=⟨b5,o5+k,none⟩) (by show b5<_;omega)).trans ((hB.cell (p:=⟨b5,o5+k,none⟩) hg5).trans n0)))
     have hSS:=xW (kS wr.drew (bR).drew) trivial;have kmk:=mark_k i hi26 wr.drew;generalize mkS i=ms at kmk kS hSS n0 hmk hn;replace kS:=Hd kS;replace kmk:=Hd kmk;replace hn:=Hd hn;replace hQ:=Hd hQ;replace hB:=Hd hB;go_upto_region 7 with fail
     clear y0 y1 n0;refine G_region (p:=100) (S0:=fun W=>W.cell? ⟨w.heap.size,0,none⟩=some (.slice (some ⟨gI,oI,none⟩) q.items.length c1)∧W.cell? ⟨gI,oI+i*5+1,none⟩=some (.slice (some ⟨b5,o5,none⟩) it.tys.length c5)∧W.cell? ⟨b5,o5+k,none⟩=some (.string ms)) (S1:=fun _=>True) (by kernel_rfl) ?_;refine' TkA 0 rfl hSS ?_;refine' TkA 1 rfl hSS ?_;refine' TkA 2 rfl hSS ?_;refine' TkA 3 rfl hSS ?_;refine' TkA 4 rfl hSS ?_;refine' TkA 5 rfl hSS ?_;refine' TkA 6 rfl hSS ?_;refine' TkA 7 rfl hSS ?_;refine' TkA 8 rfl hSS ?_;refine' TkA 9 rfl hSS ?_;try simp only[Act.put,TkS]
     refine Gs 10 rfl fun K hK=>?_
     go_simp;go_at_call 29;refine kmk.out.mono ?_;rintro e W4 ⟨rfl,hBW4⟩;have hU4:=Hd ((zB wr.heap.size wr).drew.trans hBW4);refine hK.out _ _ ⟨kS.out W4 hU4.out,fun _=>trivial⟩ ?_;have hST:=xW (kS.out W4 hU4.out) trivial;clear hK K hSS hBW4;refine' TkA 11 rfl hST ?_;try simp only[Act.put,TkS]
     clear hST;refine Gd _ ?_;try simp only[Act.put,TkS]
     go_wp2;go_roundw
     case rel=>exact⟨k+1,by omega,by go_num,hQ.out.stay hU4.out⟩
     case measure=>simp[intOf];omega
    ·obtain rfl:k=it.tys.length:=by omega
     replace hQ:=Hd hQ;replace hB:=Hd hB;go_wp2;go_roundw
     case rel=>exact⟨i+1,by omega,by go_num,hQ.out⟩
     case measure=>simp[intOf];omega
  ·have hQ0:=Hd hQ;clear hQ;go_wp2;clear y0;go_loopw [5] (fun x wr=>∃k:Nat,k≤q.wh.length∧x=.int .i64 k∧QB q ⟨A1,c1,A2,c2,A3,c3⟩ w wr) (fun x _=>q.wh.length- (intOf x).toNat)
   case atStart=>exact⟨0,zE _,rfl,hQ0.out⟩
   case round=>
    clear hQ0;obtain⟨k,hk,rfl,hQ⟩:=hrel;have hB:=hQ.1;have y3:wr.cell? ⟨w.heap.size,3,none⟩=some (.slice A2 q.wh.length c2):=hQ.2.cell 3;by_cases hltk:k<q.wh.length
    ·obtain⟨x,hx⟩:=getx hltk;obtain⟨gN,oN,eN,hFN,_,_,_,_,n4,_⟩:=knd.out k x hx;subst eN;have hgN:=hF.out gN hFN;rw[hw.out x (zA hx)]at n4;have a4:=(hB.cell (p:=⟨gN,oN+k*6+4,none⟩) hgN).trans n4;have p0:(0:Int)≤(k:Int):=by omega
     have p1:(k:Int)<q.wh.length:=(by omega);replace hx:=Hd hx;replace hQ:=Hd hQ;replace hB:=Hd hB;clear n4;go_wp2;go_roundw
     case rel=>exact⟨k+1,by omega,by go_num,hQ.out⟩
     case measure=>simp[intOf];omega
    ·have hQ0:=Hd hQ;clear hQ hB;go_wp2;clear y3;go_loopw [6] (fun x wr=>∃k:Nat,k≤q.ret.length∧x=.int .i64 k∧QB q ⟨A1,c1,A2,c2,A3,c3⟩ w wr) (fun x _=>q.ret.length- (intOf x).toNat)
     case atStart=>exact⟨0,zE _,rfl,hQ0.out⟩
     case round=>
      clear hQ0;obtain⟨m,hm0,rfl,hQ⟩:=hrel;have y6:wr.cell? ⟨w.heap.size,6,none⟩=some (.slice A3 q.ret.length c3):=hQ.2.cell 6;by_cases hltm:m<q.ret.length
      ·obtain⟨t,ht⟩:=getx hltm;obtain⟨gR,oR,A6,c6,eR,hFR,rt0,r0⟩:=kre.out m t ht;try simp only at eR
       subst eR;have hgR:=hF.out gR hFR;have htl:=(hres.out t (zA ht)).1;have hmk:=hr.out m t ht;have g0:(0:Int)≤(m:Int):=by omega
       have g1:(m:Int)<q.ret.length:=(by omega);have nw:IntKind.i64.wrap (900+(m:Int))=900+(m:Int):=by rw[xI];omega
       have hQ0:=Hd hQ;replace hmk:=Hd hmk;replace ht:=Hd ht;replace rt0:=Hd rt0;clear hQ;go_wp2;clear y6;go_loopw [7] (fun x wr=>∃k:Nat,k≤t.length∧x=.int .i64 k∧QB q ⟨A1,c1,A2,c2,some ⟨gR,oR,none⟩,c3⟩ w wr) (fun x _=>t.length- (intOf x).toNat)
       case atStart=>exact⟨0,zE _,rfl,hQ0.out⟩
       case round=>
        clear hQ0;obtain⟨k,hk,rfl,hQ⟩:=hrel;have hB:=hQ.1;have y6:wr.cell? ⟨w.heap.size,6,none⟩=some (.slice (some ⟨gR,oR,none⟩) q.ret.length c3):=hQ.2.cell 6;have y7:=(hB.cell (p:=⟨gR,oR+m,none⟩) hgR).trans r0;by_cases hltk:k<t.length
        ·obtain⟨x,hx⟩:=getx hltk;obtain⟨gN,oN,rfl,hFN,_,_,_,_,n4,_⟩:=nd_at rt0.out hx;have hgN:=hF.out gN hFN;rw[hmk.out x (zA hx)]at n4;have a4:=(hB.cell (p:=⟨gN,oN+k*6+4,none⟩) hgN).trans n4;have p0:(0:Int)≤(k:Int):=by omega
         have p1:(k:Int)<t.length:=(by omega);replace hx:=Hd hx;replace hQ:=Hd hQ;replace hB:=Hd hB;clear n4;go_wp2;go_roundw
         case rel=>exact⟨k+1,by omega,by go_num,hQ.out⟩
         case measure=>simp[intOf];omega
        ·obtain rfl:k=t.length:=by omega
         replace hQ:=Hd hQ;replace hB:=Hd hB;go_wp2;go_roundw
         case rel=>exact⟨m+1,by omega,by go_num,hQ.out⟩
         case measure=>simp[intOf];omega
      ·have hQ0:=Hd hQ;clear hQ;go_wp2;go_ret;exact⟨rfl,hQ0.out.1⟩
end lawW
theorem strs_set:∀(l:List ByteArray)(k:Nat)(s:ByteArray),(l.flatMap strD).set k (.v (.string s))=(l.set k s).flatMap strD
 | [],_,_=>rfl
 |a::l,0,s=>rfl
 |a::l,k+1,s=>by
  rw[List.set_cons_succ,zK,zK];show D.v (.string a)::(l.flatMap strD).set k _=D.v (.string a)::(l.set k s).flatMap strD
  rw[strs_set l k s]
structure OwnLt (Eg:Nat)(v1 v2 v3:Value)(l:List (It×Value))(rl:List (List Nd×Value)):Prop where
 a:∀q,v1.ownBlock=some q→q<Eg
 b:∀q,v2.ownBlock=some q→q<Eg
 c:∀q,v3.ownBlock=some q→q<Eg
 d:∀p∈l,∀q,p.2.ownBlock=some q→q<Eg
 e:∀p∈rl,∀q,p.2.ownBlock=some q→q<Eg
theorem OQ.own {w:World}{B:Nat}{v1 v2 v3:Value}{l:List (It×Value)}{wh:List Nd}{rl:List (List Nd×Value)}(h:OQ w B v1 v2 v3 l wh rl):OwnLt w.heap.size v1 v2 v3 l rl:=
 ⟨fun q hq=>(h.i.kr.lt q hq).2,fun q hq=>(h.wr.lt q hq).2,fun q hq=>(h.r.kr.lt q hq).2,fun p hp q hq=>((h.i.fr p hp).lt q hq).2,fun p hp q hq=>((h.r.fr p hp).lt q hq).2⟩
structure KS (q:Qy)(w0 w:World)(Bg Eg:Nat)(v1 v2 v3:Value)(lx:List (It×Value))(wx:List Nd)(rx:List (List Nd×Value)):Prop where
 kp:Kp w0 w Bg Eg
 bx:Blk w w0.heap.size 32 (quV q v1 v2 v3 q.by_)
 oq:OQ w Bg v1 v2 v3 lx wx rx
section
variable {q:Qy}{w0 w W w1:World}{Bg Eg i j:Nat}{v1 v2 v3:Value}{l lx:List (It×Value)}{wx:List Nd}{rl rx:List (List Nd×Value)}
theorem KS.stay (h:KS q w0 w Bg Eg v1 v2 v3 lx wx rx)(hb:Bw w W):KS q w0 W Bg Eg v1 v2 v3 lx wx rx:=⟨h.kp.below hb,h.bx.stay hb,h.oq.stay hb⟩
theorem OQ.itc {p:It×Value}(h:OQ w Bg v1 v2 v3 lx wx rx)(hp:lx[i]? =some p):∃g cap,v1=.slice (some ⟨g,0,none⟩) lx.length cap∧g<w.heap.size∧w.cell? ⟨g,i*5+1,none⟩=some p.2:=by
 obtain⟨g,cap,e,_,h2,_,h4⟩:=h.i.kr.row (by have:=(zC.1 hp).1;omega);obtain⟨u,hu,hr⟩:=h4 (i*5+1) _ (fmg (f:=icD) (m:=5) (fun _=>rfl) hp rfl);rw[hr.v_inv]at hu;exact⟨g,cap,e,h2,hu⟩
theorem OQ.rec_ {p:List Nd×Value}(h:OQ w Bg v1 v2 v3 lx wx rx)(hp:rx[i]? =some p):∃g cap,v3=.slice (some ⟨g,0,none⟩) rx.length cap∧g<w.heap.size∧w.cell? ⟨g,i,none⟩=some p.2:=by
 obtain⟨g,cap,e,_,h2,_,h4⟩:=h.r.kr.row (by have:=(zC.1 hp).1;omega);obtain⟨u,hu,hr⟩:=h4 (i*1+0) _ (fmg (f:=rcD) (m:=1) (fun _=>rfl) hp rfl);rw[hr.v_inv]at hu;exact⟨g,cap,e,h2,by rw[Nat.mul_one,Nat.add_zero]at hu;exact hu⟩
theorem KS.setT {p:It×Value}{ga cp:Nat}(h:KS q w0 w Bg Eg v1 v2 v3 (mapF fIt nIt l i j) wx rx)(hE:Eg≤w0.heap.size)(hB:Bg≤w0.heap.size)(own:OwnLt Eg v1 v2 v3 l rl)(hp:l[i]? =some p)(hv:p.2=.slice (some ⟨ga,0,none⟩) p.1.tys.length cp)(hj:j<p.1.tys.length):
  KS q w0 (w.setCell ⟨ga,j,none⟩ (.string (evW.mkS i))) Bg Eg v1 v2 v3 (mapF fIt nIt l i (j+1)) wx rx:=by
 have hx:=mapF_at (f:=fIt) (n:=nIt) (j:=j) hp;have hfr:OL w Bg NoB 9 1 p.2 (fIt i j p.1).tys.length ((fIt i j p.1).tys.flatMap strD):=h.oq.i.fr _ (zA hx);have hlen:(fIt i j p.1).tys.length=p.1.tys.length:=mk_len _ (by omega);have hlen2:(fIt i (j+1) p.1).tys.length=p.1.tys.length:=mk_len _ (by omega);rw[hv,hlen]at hfr;have hg:w.grownBy (w.setCell ⟨ga,j,none⟩ (.string (evW.mkS i))) (some ga):=grown_set;have hga:=hfr.lt ga rfl;have hlt:=own.d p (zA hp) ga (by rw[hv];rfl);have hO:=hfr.set (j:=j) (u:=.string (evW.mkS i)) (d:=.v (.string (evW.mkS i))) (.v _ rfl);rw[strs_set,show(fIt i j p.1).tys.set j (evW.mkS i)=(fIt i (j+1) p.1).tys from mk_set _ hj]at hO;refine⟨h.kp.write hg (fun b hb=>by injection hb with hb;subst hb;exact .inl ⟨hga.1,hlt⟩),h.bx.far (by show w0.heap.size≠ga;omega) _,?_⟩;rw[←mapF_set hp];refine h.oq.setI (p:=(fIt i j p.1,p.2)) hx rfl (by show w.grownBy _ p.2.ownBlock;rw[hv];exact hg) ?_;show OL _ _ _ _ _ p.2 _ _
 rw[hlen2,hv];exact hO
theorem KS.setW {gw cw:Nat}{wh:List Nd}{x:Nd}(h:KS q w0 w Bg Eg v1 (.slice (some ⟨gw,0,none⟩) wh.length cw) v3 lx (Go.Proofs.YtfiodnlgiglhfaaGreatDoor.mk (ndA 899) j wh) rx)(hE:Eg≤w0.heap.size)(own:OwnLt Eg v1 (.slice (some ⟨gw,0,none⟩) wh.length cw) v3 l rl)(hx:wh[j]? =some x):
  KS q w0 (w.setCells gw (j*6) (ndV (ndA 899))) Bg Eg v1 (.slice (some ⟨gw,0,none⟩) wh.length cw) v3 lx (Go.Proofs.YtfiodnlgiglhfaaGreatDoor.mk (ndA 899) (j+1) wh) rx:=by
 have hj:=(zC.1 hx).1;have hw:=h.oq.wr;rw[mk_len _ (by omega)]at hw;obtain⟨h1,h2⟩:=OL.sets (ndV (ndA 899)) w _ (j*6) hw (fun u hu=>by simp[ndV]at hu;rcases hu with rfl |rfl |rfl |rfl |rfl |rfl<;>rfl);have hga:=hw.lt gw rfl;have hlt:=own.b gw rfl;rw[show(ndV (ndA 899)).map D.v=ndD (ndA 899)from rfl,nd_sets (mk_get _ hx),mk_set _ hj]at h1;refine⟨h.kp.write h2 (fun b hb=>by injection hb with hb;subst hb;exact .inl ⟨hga.1,hlt⟩),h.bx.grown h2 (fun e=>by injection e with e;omega),h.oq.setW h2 ?_⟩;rw[mk_len _ (by omega)];exact h1
theorem KS.setR {gr cr:Nat}{p:List Nd×Value}{x:Nd}(h:KS q w0 w Bg Eg v1 v2 v3 lx wx (mapF fRe List.length rl i j))(hE:Eg≤w0.heap.size)(own:OwnLt Eg v1 v2 v3 l rl)(hp:rl[i]? =some p)(hv:p.2=.slice (some ⟨gr,0,none⟩) p.1.length cr)(hx:p.1[j]? =some x):
  KS q w0 (w.setCells gr (j*6) (ndV (ndA (900+(i:Int))))) Bg Eg v1 v2 v3 lx wx (mapF fRe List.length rl i (j+1)):=by
 have hj:=(zC.1 hx).1;have hm:=mapF_at (f:=fRe) (n:=List.length) (j:=j) hp;have hfr:OL w Bg NoB 81 6 p.2 (fRe i j p.1).length ((fRe i j p.1).flatMap ndD):=h.oq.r.fr _ (zA hm);have hlen:(fRe i j p.1).length=p.1.length:=mk_len _ (by omega);have hlen2:(fRe i (j+1) p.1).length=p.1.length:=mk_len _ (by omega);rw[hv,hlen]at hfr;obtain⟨h1,h2⟩:=OL.sets (ndV (ndA (900+(i:Int)))) w _ (j*6) hfr (fun u hu=>by simp[ndV]at hu;rcases hu with rfl |rfl |rfl |rfl |rfl |rfl<;>rfl);have hga:=hfr.lt gr rfl;have hlt:=own.e p (zA hp) gr (by rw[hv];rfl);rw[show(ndV (ndA (900+(i:Int)))).map D.v=ndD (ndA (900+(i:Int)))from rfl,nd_sets (show(fRe i j p.1)[j]? =some x from mk_get _ hx),show(fRe i j p.1).set j (ndA (900+(i:Int)))=fRe i (j+1) p.1 from mk_set _ hj]at h1;refine⟨h.kp.write h2 (fun b hb=>by injection hb with hb;subst hb;exact .inl ⟨hga.1,hlt⟩),h.bx.grown h2 (fun e=>by injection e with e;omega),?_⟩;rw[←mapF_set hp];refine h.oq.setR (p:=(fRe i j p.1,p.2)) hm (by show w.grownBy _ p.2.ownBlock;rw[hv];exact h2) ?_;show OL _ _ _ _ _ p.2 _ _
 rw[hlen2,hv];exact h1
end
def GrB (b0:Nat)(v u:Value):Prop:=u.ownBlock=none∨u.ownBlock=v.ownBlock∨∃b,u.ownBlock=some b∧b0<b
section
variable {b0 s:Nat}{v u u' x:Value}
theorem GrB.start (b0:Nat)(v:Value):GrB b0 v v:=.inr (.inl rfl)
theorem GrB.next (h:GrB b0 v u)(hs:b0<s)(ha:u'.ownBlock=u.ownBlock∨u'.ownBlock=some s):GrB b0 v u':=by
 rcases ha with e |e
 ·unfold GrB;rw[e];exact h
 ·exact .inr (.inr ⟨s,e,hs⟩)
theorem GrB.far (h:GrB b0 v u)(hx:∀q,x.ownBlock=some q→q≤b0)(hne:x.ownBlock=none∨x.ownBlock≠v.ownBlock):x.ownBlock=none∨x.ownBlock≠u.ownBlock:=by
 cases hq:x.ownBlock with
 |none=>exact .inl rfl
 |some q=>
  refine .inr fun e=>?_
  rcases h with h |h |⟨b,h,hb⟩
  ·rw[h]at e;cases e
  ·rcases hne with n |n
   ·rw[n]at hq;cases hq
   ·exact n (by rw[hq,e,h])
  ·rw[h]at e;injection e with e
   have:=hx q hq;omega
theorem GrB.row {Bg Eg:Nat}(h:GrB b0 v u)(hv:∀q,v.ownBlock=some q→Bg≤q∧q<Eg):∀q,u.ownBlock=some q→(Bg≤q∧q<Eg)∨b0<q:=fun q hq=>by
 rcases h with h |h |⟨b,h,hb⟩
 ·rw[h]at hq;cases hq
 ·exact .inl (hv q (by rw[←h,hq]))
 ·rw[h]at hq;injection hq with hq
  subst hq;exact .inr hb
end
theorem mapF_mem {α:Type}{f:Nat→Nat→α→α}{n:α→Nat}{l:List (α×Value)}{i j:Nat}{p:α×Value}(h:p∈mapF f n l i j):∃p'∈l,p.2=p'.2:=by
 obtain⟨k,hk⟩:=zN h;have hkl:=(zC.1 hk).1;rw[mapF_len]at hkl;obtain⟨p',hp'⟩:∃p',l[k]? =some p':=⟨_,zI hkl⟩
 rw[mapF_get hp']at hk;refine⟨p',zA hp',?_⟩;injection hk with hk
 subst hk;split
 ·rfl
 ·split<;>rfl
theorem OwnLt.mapF {Eg:Nat}{v1 v2 v3:Value}{l:List (It×Value)}{rl:List (List Nd×Value)}{f:Nat→Nat→It→It}{n:It→Nat}{g:Nat→Nat→List Nd→List Nd}{m:List Nd→Nat}{i j a b:Nat}(h:OwnLt Eg v1 v2 v3 l rl):OwnLt Eg v1 v2 v3 (Go.Proofs.YtfiodnlgiglhfaaGreatDoor.mapF f n l i j) (Go.Proofs.YtfiodnlgiglhfaaGreatDoor.mapF g m rl a b):=
 ⟨h.a,h.b,h.c,fun p hp q hq=>by obtain⟨p',h1,h2⟩:=mapF_mem hp;rw[h2]at hq;exact h.d p' h1 q hq,fun p hp q hq=>by obtain⟨p',h1,h2⟩:=mapF_mem hp;rw[h2]at hq;exact h.e p' h1 q hq⟩
section
variable {q:Qy}{w0 w w1 W:World}{Bg Eg i:Nat}{v1 v2 v3:Value}{lx:List (It×Value)}{wx:List Nd}{rx:List (List Nd×Value)}
theorem KS.grow {row:Option Nat}(h:KS q w0 w Bg Eg v1 v2 v3 lx wx rx)(hg:w.grownBy w1 row)(hE:Eg≤w0.heap.size)(hr:∀b,row=some b→(Bg≤b∧b<Eg)∨w0.heap.size<b)(hO:OQ w1 Bg v1 v2 v3 lx wx rx):KS q w0 w1 Bg Eg v1 v2 v3 lx wx rx:=
 ⟨h.kp.write hg (fun b hb=>(hr b hb).imp_right (fun h=>Nat.le_of_lt h)),h.bx.grown hg (fun e=>by rcases hr _ e.symm with h |h<;>omega),hO⟩
structure G3 (q:Qy)(w0 w:World)(Bg Eg:Nat)(v1 v2 v3:Value)(lx:List (It×Value))(wx:List Nd)(rx:List (List Nd×Value))(ka kb kc:Nat)(u1 u3 u2:Value):Prop where
 ks:KS q w0 w Bg Eg v1 v2 v3 lx wx rx
 a:∃d,GR w Bg 54 5 lx.length (lx.length+ka) v1 u1 (lx.flatMap icD) d
 b:∃d,GR w Bg 29 1 rx.length (rx.length+kb) v3 u3 (rx.flatMap rcD) d
 c:∃d,GR w Bg 81 6 wx.length (wx.length+kc) v2 u2 (wx.flatMap ndD) d
 fa:GrB w0.heap.size v1 u1
 fb:GrB w0.heap.size v3 u3
 fc:GrB w0.heap.size v2 u2
variable {ka kb kc:Nat}{u1 u2 u3 u u':Value}
theorem G3.start (h:KS q w0 w Bg Eg v1 v2 v3 lx wx rx):G3 q w0 w Bg Eg v1 v2 v3 lx wx rx 0 0 0 v1 v3 v2:=
 ⟨h,⟨_,.start h.oq.i.kr⟩,⟨_,.start h.oq.r.kr⟩,⟨_,.start h.oq.wr⟩,.start _ _,.start _ _,.start _ _⟩
theorem G3.stay (h:G3 q w0 w Bg Eg v1 v2 v3 lx wx rx ka kb kc u1 u3 u2)(hb:Bw w W):G3 q w0 W Bg Eg v1 v2 v3 lx wx rx ka kb kc u1 u3 u2:=by
 obtain⟨ks,⟨d1,a⟩,⟨d2,b⟩,⟨d3,c⟩,fa,fb,fc⟩:=h;exact⟨ks.stay hb,⟨d1,a.stay hb⟩,⟨d2,b.stay hb⟩,⟨d3,c.stay hb⟩,fa,fb,fc⟩
theorem G3.lt (h:G3 q w0 w Bg Eg v1 v2 v3 lx wx rx ka kb kc u1 u3 u2):w0.heap.size<w.heap.size:=h.ks.bx.lt
theorem G3.itA (h:G3 q w0 w Bg Eg v1 v2 v3 lx wx rx ka kb kc u1 u3 u2)(hE:Eg≤w0.heap.size)(own:OwnLt Eg v1 v2 v3 lx rx){d:List D}(hG:GR w1 Bg 54 5 lx.length (lx.length+ka+1) v1 u (lx.flatMap icD) d)(hg:w.grownBy w1 u1.ownBlock)(ha:u.ownBlock=u1.ownBlock∨u.ownBlock=some w.heap.size):
  G3 q w0 w1 Bg Eg v1 v2 v3 lx wx rx (ka+1) kb kc u u3 u2:=by
 have hlt:=h.lt;obtain⟨ks,⟨d1,a⟩,⟨d2,b⟩,⟨d3,c⟩,fa,fb,fc⟩:=h;have hO:=ks.oq;have hfr:∀p∈lx,OL w Bg NoB 9 1 p.2 p.1.tys.length (p.1.tys.flatMap strD):=hO.i.fr
 have hrf:∀p∈rx,OL w Bg NoB 81 6 p.2 p.1.length (p.1.flatMap ndD):=hO.r.fr
 refine⟨ks.grow hg hE (fa.row fun q hq=>⟨(a.a.lt q hq).1,own.a q hq⟩) ⟨⟨hG.a,fun p hp=>(hfr p hp).kept hg ((hfr p hp).ne a.b (by decide)) (fun _ hb=>hb.elim),hO.i.ne⟩,hO.wr.kept hg (hO.wr.ne a.b (by decide)) (fun _ hb=>hb.elim),hO.r.kept hg (b.a.ne a.b (by decide)) (fun p hp=>(hrf p hp).ne a.b (by decide)),hO.ne⟩,
  ⟨d,hG⟩,⟨d2,b.kept hg (b.a.ne a.b (by decide)) (b.b.ne a.b (by decide))⟩,⟨d3,c.kept hg (c.a.ne a.b (by decide)) (c.b.ne a.b (by decide))⟩,fa.next hlt ha,fb,fc⟩
theorem G3.reA (h:G3 q w0 w Bg Eg v1 v2 v3 lx wx rx ka kb kc u1 u3 u2)(hE:Eg≤w0.heap.size)(own:OwnLt Eg v1 v2 v3 lx rx){d:List D}(hG:GR w1 Bg 29 1 rx.length (rx.length+kb+1) v3 u (rx.flatMap rcD) d)(hg:w.grownBy w1 u3.ownBlock)(ha:u.ownBlock=u3.ownBlock∨u.ownBlock=some w.heap.size):
  G3 q w0 w1 Bg Eg v1 v2 v3 lx wx rx ka (kb+1) kc u1 u u2:=by
 have hlt:=h.lt;obtain⟨ks,⟨d1,a⟩,⟨d2,b⟩,⟨d3,c⟩,fa,fb,fc⟩:=h;have hO:=ks.oq;have hfr:∀p∈lx,OL w Bg NoB 9 1 p.2 p.1.tys.length (p.1.tys.flatMap strD):=hO.i.fr
 have hrf:∀p∈rx,OL w Bg NoB 81 6 p.2 p.1.length (p.1.flatMap ndD):=hO.r.fr
 refine⟨ks.grow hg hE (fb.row fun q hq=>⟨(b.a.lt q hq).1,own.c q hq⟩) ⟨hO.i.kept hg (a.a.ne b.b (by decide)) (fun p hp=>(hfr p hp).ne b.b (by decide)),hO.wr.kept hg (hO.wr.ne b.b (by decide)) (fun _ hb=>hb.elim),⟨hG.a,fun p hp=>(hrf p hp).kept hg ((hrf p hp).ne b.b (by decide)) (fun _ hb=>hb.elim),hO.r.ne⟩,hO.ne⟩,
  ⟨d1,a.kept hg (a.a.ne b.b (by decide)) (a.b.ne b.b (by decide))⟩,⟨d,hG⟩,⟨d3,c.kept hg (c.a.ne b.b (by decide)) (c.b.ne b.b (by decide))⟩,fa,fb.next hlt ha,fc⟩
theorem G3.whA (h:G3 q w0 w Bg Eg v1 v2 v3 lx wx rx ka kb kc u1 u3 u2)(hE:Eg≤w0.heap.size)(own:OwnLt Eg v1 v2 v3 lx rx){d:List D}(hG:GR w1 Bg 81 6 wx.length (wx.length+kc+1) v2 u (wx.flatMap ndD) d)(hg:w.grownBy w1 u2.ownBlock)(ha:u.ownBlock=u2.ownBlock∨u.ownBlock=some w.heap.size):
  G3 q w0 w1 Bg Eg v1 v2 v3 lx wx rx ka kb (kc+1) u1 u3 u:=by
 have hlt:=h.lt;obtain⟨ks,⟨d1,a⟩,⟨d2,b⟩,⟨d3,c⟩,fa,fb,fc⟩:=h;have hO:=ks.oq;have hfr:∀p∈lx,OL w Bg NoB 9 1 p.2 p.1.tys.length (p.1.tys.flatMap strD):=hO.i.fr
 refine⟨ks.grow hg hE (fc.row fun q hq=>⟨(c.a.lt q hq).1,own.b q hq⟩) ⟨hO.i.kept hg (a.a.ne c.b (by decide)) (fun p hp=>(hfr p hp).ne c.b (by decide)),hG.a,hO.r.kept hg (b.a.ne c.b (by decide)) (fun p hp=>fc.far (fun q hq=>zU (Nat.le_of_lt (own.e p hp q hq)) hE) (ne_sym (hO.ne p hp))),hO.ne⟩,
  ⟨d1,a.kept hg (a.a.ne c.b (by decide)) (a.b.ne c.b (by decide))⟩,⟨d2,b.kept hg (b.a.ne c.b (by decide)) (b.b.ne c.b (by decide))⟩,⟨d,hG⟩,fa,fb,fc.next hlt ha⟩
structure GI (q:Qy)(w0 w:World)(Bg Eg:Nat)(v1 v2 v3:Value)(lx:List (It×Value))(wx:List Nd)(rx:List (List Nd×Value))(p:It×Value)(k:Nat)(u:Value):Prop where
 ks:KS q w0 w Bg Eg v1 v2 v3 lx wx rx
 a:∃d,GR w Bg 9 1 p.1.tys.length (p.1.tys.length+k) p.2 u (p.1.tys.flatMap strD) d
 f:GrB w0.heap.size p.2 u
variable {p:It×Value}{k:Nat}
theorem GI.start (h:KS q w0 w Bg Eg v1 v2 v3 lx wx rx)(hp:lx[i]? =some p):GI q w0 w Bg Eg v1 v2 v3 lx wx rx p 0 p.2:=
 ⟨h,⟨_,.start (h.oq.i.fr p (zA hp))⟩,.start _ _⟩
theorem GI.stay (h:GI q w0 w Bg Eg v1 v2 v3 lx wx rx p k u)(hb:Bw w W):GI q w0 W Bg Eg v1 v2 v3 lx wx rx p k u:=by
 obtain⟨ks,⟨d,a⟩,f⟩:=h;exact⟨ks.stay hb,⟨d,a.stay hb⟩,f⟩
theorem GI.app (h:GI q w0 w Bg Eg v1 v2 v3 lx wx rx p k u)(hp:lx[i]? =some p)(hE:Eg≤w0.heap.size)(own:OwnLt Eg v1 v2 v3 lx rx){d:List D}(hG:GR w1 Bg 9 1 p.1.tys.length (p.1.tys.length+k+1) p.2 u' (p.1.tys.flatMap strD) d)(hg:w.grownBy w1 u.ownBlock)(ha:u'.ownBlock=u.ownBlock∨u'.ownBlock=some w.heap.size):
  GI q w0 w1 Bg Eg v1 v2 v3 lx wx rx p (k+1) u':=by
 have hlt:=h.ks.bx.lt;obtain⟨ks,⟨d1,a⟩,f⟩:=h;have hO:=ks.oq;have hfr:∀p∈lx,OL w Bg NoB 9 1 p.2 p.1.tys.length (p.1.tys.flatMap strD):=hO.i.fr
 have hrf:∀p∈rx,OL w Bg NoB 81 6 p.2 p.1.length (p.1.flatMap ndD):=hO.r.fr
 have h1:OL w Bg NoB 54 5 v1 lx.length (lx.flatMap icD):=hO.i.kr;have h3:OL w Bg NoB 29 1 v3 rx.length (rx.flatMap rcD):=hO.r.kr;refine⟨ks.grow hg hE (f.row fun q hq=>⟨(a.a.lt q hq).1,own.d p (zA hp) q hq⟩) ⟨⟨h1.kept hg (h1.ne a.b (by decide)) (fun _ hb=>hb.elim),fun p' hp'=>?_,hO.i.ne⟩,hO.wr.kept hg (hO.wr.ne a.b (by decide)) (fun _ hb=>hb.elim),hO.r.kept hg (h3.ne a.b (by decide)) (fun p hp=>(hrf p hp).ne a.b (by decide)),hO.ne⟩,⟨d,hG⟩,f.next hlt ha⟩;obtain⟨j,hj⟩:=zN hp';by_cases hij:j=i
 ·subst hij;rw[hp]at hj;injection hj with hj
  subst hj;exact hG.a
 ·exact(hfr p' hp').kept hg (f.far (fun q hq=>zU (Nat.le_of_lt (own.d p' hp' q hq)) hE) (hO.i.ne j i p' p hj hp hij)) (fun _ hb=>hb.elim)
theorem GI.cell (h:GI q w0 w Bg Eg v1 v2 v3 lx wx rx p k u){j:Nat}{s:ByteArray}(hj:p.1.tys[j]? =some s):∃g cap,u=.slice (some ⟨g,0,none⟩) (p.1.tys.length+k) cap∧g<w.heap.size∧w.cell? ⟨g,j,none⟩=some (.string s):=by
 obtain⟨ks,⟨d,a⟩,f⟩:=h;have hjl:=(zC.1 hj).1;obtain⟨g,cap,e,_,h2,_,h4⟩:=a.b.row (by omega);have hd:(d.take (p.1.tys.length*1))[j]? =some (.v (.string s)):=by
  rw[a.p];have:=fmg (f:=strD) (m:=1) (fun _=>rfl) hj (j:=0) rfl;simpa using this
 rw[zZ]at hd;split at hd
 ·obtain⟨x,hx,hr⟩:=h4 j _ hd;rw[hr.v_inv]at hx;exact⟨g,cap,e,h2,hx⟩
 ·cases hd
structure GT (q:Qy)(w0 w:World)(Bg Eg:Nat)(v1 v2 v3:Value)(lx:List (It×Value))(wx:List Nd)(rx:List (List Nd×Value))(p:List Nd×Value)(k:Nat)(u:Value):Prop where
 ks:KS q w0 w Bg Eg v1 v2 v3 lx wx rx
 a:∃d,GR w Bg 81 6 p.1.length (p.1.length+k) p.2 u (p.1.flatMap ndD) d
 f:GrB w0.heap.size p.2 u
variable {r:List Nd×Value}
theorem GT.start (h:KS q w0 w Bg Eg v1 v2 v3 lx wx rx)(hp:rx[i]? =some r):GT q w0 w Bg Eg v1 v2 v3 lx wx rx r 0 r.2:=
 ⟨h,⟨_,.start (h.oq.r.fr r (zA hp))⟩,.start _ _⟩
theorem GT.stay (h:GT q w0 w Bg Eg v1 v2 v3 lx wx rx r k u)(hb:Bw w W):GT q w0 W Bg Eg v1 v2 v3 lx wx rx r k u:=by
 obtain⟨ks,⟨d,a⟩,f⟩:=h;exact⟨ks.stay hb,⟨d,a.stay hb⟩,f⟩
theorem GT.app (h:GT q w0 w Bg Eg v1 v2 v3 lx wx rx r k u)(hp:rx[i]? =some r)(hE:Eg≤w0.heap.size)(own:OwnLt Eg v1 v2 v3 lx rx){d:List D}(hG:GR w1 Bg 81 6 r.1.length (r.1.length+k+1) r.2 u' (r.1.flatMap ndD) d)(hg:w.grownBy w1 u.ownBlock)(ha:u'.ownBlock=u.ownBlock∨u'.ownBlock=some w.heap.size):
  GT q w0 w1 Bg Eg v1 v2 v3 lx wx rx r (k+1) u':=by
 have hlt:=h.ks.bx.lt;obtain⟨ks,⟨d1,a⟩,f⟩:=h;have hO:=ks.oq;have hfr:∀p∈lx,OL w Bg NoB 9 1 p.2 p.1.tys.length (p.1.tys.flatMap strD):=hO.i.fr
 have hrf:∀p∈rx,OL w Bg NoB 81 6 p.2 p.1.length (p.1.flatMap ndD):=hO.r.fr
 have h1:OL w Bg NoB 54 5 v1 lx.length (lx.flatMap icD):=hO.i.kr;have h3:OL w Bg NoB 29 1 v3 rx.length (rx.flatMap rcD):=hO.r.kr;have hm:=zA hp;refine⟨ks.grow hg hE (f.row fun q hq=>⟨(a.a.lt q hq).1,own.e r hm q hq⟩) ⟨hO.i.kept hg (h1.ne a.b (by decide)) (fun p hp=>(hfr p hp).ne a.b (by decide)),hO.wr.kept hg (f.far (fun q hq=>zU (Nat.le_of_lt (own.b q hq)) hE) (hO.ne r hm)) (fun _ hb=>hb.elim),⟨h3.kept hg (h3.ne a.b (by decide)) (fun _ hb=>hb.elim),fun p' hp'=>?_,hO.r.ne⟩,hO.ne⟩,⟨d,hG⟩,f.next hlt ha⟩;obtain⟨j,hj⟩:=zN hp';by_cases hij:j=i
 ·subst hij;rw[hp]at hj;injection hj with hj
  subst hj;exact hG.a
 ·exact(hrf p' hp').kept hg (f.far (fun q hq=>zU (Nat.le_of_lt (own.e p' hp' q hq)) hE) (hO.r.ne j i p' r hj hp hij)) (fun _ hb=>hb.elim)
end
theorem mapF_full {α:Type}{f:Nat→Nat→α→α}{n:α→Nat}{l:List (α×Value)}{k:Nat}{p:α×Value}(h:(Go.Proofs.YtfiodnlgiglhfaaGreatDoor.mapF f n l l.length 0)[k]? =some p):∃p0,l[k]? =some p0∧p=(f k (n p0.1) p0.1,p0.2):=by
 have hkl:=(zC.1 h).1;rw[mapF_len]at hkl;obtain⟨p',hp'⟩:∃p',l[k]? =some p':=⟨_,zI hkl⟩
 rw[mapF_get hp',if_pos hkl]at h;injection h with h
 exact⟨p',hp',h.symm⟩
theorem mkS_sz (i:Nat):(evW.mkS i).size≤1048576:=by
 show(strOfNums (evW.mkN i)).size≤_
 simp[strOfNums,evW.mkN,ByteArray.size]
theorem KS.marks {q:Qy}{w0 w:World}{Bg Eg:Nat}{v1 v2 v3:Value}{l:List (It×Value)}{rl:List (List Nd×Value)}(h:KS q w0 w Bg Eg v1 v2 v3 (Go.Proofs.YtfiodnlgiglhfaaGreatDoor.mapF fIt nIt l l.length 0) (Go.Proofs.YtfiodnlgiglhfaaGreatDoor.mk (ndA 899) q.wh.length q.wh) (Go.Proofs.YtfiodnlgiglhfaaGreatDoor.mapF fRe List.length rl rl.length 0))(hl:l.map (·.1)=q.items)(hr:rl.map (·.1)=q.ret)(hs:SzQ q)(hil:l.length≤20):
  Calls Tryz.prog 30 #[.agg ⟨quV q v1 v2 v3 q.by_⟩] w fun e w'=>e=.returned (.bool true)∧Bw w w':=by
 obtain⟨q',hq'⟩:∃q':Qy,q'={q with items:=(Go.Proofs.YtfiodnlgiglhfaaGreatDoor.mapF fIt nIt l l.length 0).map (·.1),wh:=Go.Proofs.YtfiodnlgiglhfaaGreatDoor.mk (ndA 899) q.wh.length q.wh,ret:=(Go.Proofs.YtfiodnlgiglhfaaGreatDoor.mapF fRe List.length rl rl.length 0).map (·.1)}:=⟨_,rfl⟩
 have ei:q'.items=(Go.Proofs.YtfiodnlgiglhfaaGreatDoor.mapF fIt nIt l l.length 0).map (·.1):=by rw[hq']
 have ew:q'.wh=Go.Proofs.YtfiodnlgiglhfaaGreatDoor.mk (ndA 899) q.wh.length q.wh:=by rw[hq']
 have er:q'.ret=(Go.Proofs.YtfiodnlgiglhfaaGreatDoor.mapF fRe List.length rl rl.length 0).map (·.1):=by rw[hq']
 have hi:∀(i:Nat) it,q'.items[i]? =some it→∃p0,l[i]? =some p0∧it=fIt i (nIt p0.1) p0.1:=fun i it hi=>by
  rw[ei,zG]at hi;obtain⟨p,hp,rfl⟩:=xG.1 hi;obtain⟨p0,h0,rfl⟩:=mapF_full hp;exact⟨p0,h0,rfl⟩
 have hre:∀(i:Nat) t,q'.ret[i]? =some t→∃p0,rl[i]? =some p0∧t=fRe i p0.1.length p0.1:=fun i t hi=>by
  rw[er,zG]at hi;obtain⟨p,hp,rfl⟩:=xG.1 hi;obtain⟨p0,h0,rfl⟩:=mapF_full hp;exact⟨p0,h0,rfl⟩
 have ety:∀(i:Nat)(x:It),(fIt i (nIt x) x).tys=List.replicate x.tys.length (evW.mkS i):=fun i x=>mk_all _ _
 have ere:∀(i:Nat)(t:List Nd),fRe i t.length t=List.replicate t.length (ndA (900+(i:Int))):=fun i t=>mk_all _ _
 have hs':SzQ q':=by
  refine⟨by rw[ei,xC,mapF_len];omega,fun x hx=>?_,?_,by rw[hq'];exact hs.by_,?_,fun t ht=>?_⟩
  ·obtain⟨k,hk⟩:=zN hx;obtain⟨p0,h0,rfl⟩:=hi k x hk;have h1:=hs.it p0.1 (by rw[←hl];exact xJ (zA h0));refine⟨⟨by rw[ety,List.length_replicate];exact h1.1.1,fun a ha=>?_⟩,h1.2⟩;rw[ety]at ha;rw[List.eq_of_mem_replicate ha];exact mkS_sz k
  ·rw[ew,mk_all];refine⟨by rw[List.length_replicate];exact hs.wh.1,fun x hx=>?_⟩;rw[List.eq_of_mem_replicate hx];exact⟨by decide,by decide⟩
  ·have h2:=hs.rl;rw[←hr,xC]at h2;rw[er,xC,mapF_len];exact h2
  ·obtain⟨k,hk⟩:=zN ht;obtain⟨p0,h0,rfl⟩:=hre k t hk;have h1:=hs.re p0.1 (by rw[←hr];exact xJ (zA h0));rw[ere];refine⟨by rw[List.length_replicate];exact h1.1,fun x hx=>?_⟩;rw[List.eq_of_mem_replicate hx];exact⟨show emp.size≤_ by decide,show emp.size≤_ by decide⟩
 have hO:OQ w Bg v1 v2 v3 (Go.Proofs.YtfiodnlgiglhfaaGreatDoor.mapF fIt nIt l l.length 0) q'.wh (Go.Proofs.YtfiodnlgiglhfaaGreatDoor.mapF fRe List.length rl rl.length 0):=by rw[ew];exact h.oq
 obtain⟨s,e,R⟩:=hO.qr (q:=q') (G:=fun b=>b<w.heap.size) ei.symm er.symm (fun b _ h=>h) (fun _ h=>h);have e':quV q v1 v2 v3 q.by_=qV q' s:=by rw[←e,hq'];rfl
 rw[e'];refine lawW.marked_k _ q' s hs' (by rw[ei,xC,mapF_len];exact hil) (fun i it h1 x hx=>?_) (fun x hx=>?_) (fun i t h1 x hx=>?_) w R
 ·obtain⟨p0,_,rfl⟩:=hi i it h1;rw[ety]at hx;exact List.eq_of_mem_replicate hx
 ·rw[ew,mk_all]at hx;rw[List.eq_of_mem_replicate hx];rfl
 ·obtain⟨p0,_,rfl⟩:=hre i t h1;rw[ere]at hx;rw[List.eq_of_mem_replicate hx];rfl
end Go.Proofs.YtfiodnlgiglhfaaGreatDoor
