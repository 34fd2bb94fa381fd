/- What an attribute of types is called in the end. -/
import Derived.Test.YtfiodnlgiglhfaaGreatDoorP3
namespace Go.Proofs.YtfiodnlgiglhfaaGreatDoor
set_option maxRecDepth 100000
set_option maxHeartbeats 16000000
open Go.RowKit Go.Deep
set_option linter.unusedVariables false
set_option linter.unusedSimpArgs false
theorem anT_next {S:List Td}{T:List Kd}{a n:ByteArray}{r:List ByteArray}{out o:ByteArray}(h:anK (placeI (nmsT S) n) (attrI S (placeI (nmsT S) n) a) T out=some o):anT S T a (n::r) out=anT S T a r o:=by rw[anT,h]
theorem anT_stop {S:List Td}{T:List Kd}{a n:ByteArray}{r:List ByteArray}{out:ByteArray}(h:anK (placeI (nmsT S) n) (attrI S (placeI (nmsT S) n) a) T out=none):anT S T a (n::r) out=none:=by rw[anT,h]
theorem attrNm_none {S:List Td}{T:List Kd}{tys:List ByteArray}{a:ByteArray}(hts:a≠tsB)(h:anT S T a tys emp=none):attrNmO S T tys a=none:=by unfold attrNmO;rw[if_neg hts,h]
theorem attrNm_emp {S:List Td}{T:List Kd}{tys:List ByteArray}{a:ByteArray}(hts:a≠tsB)(h:anT S T a tys emp=some emp):attrNmO S T tys a=none:=by unfold attrNmO;rw[if_neg hts,h];exact if_pos rfl
theorem attrNm_some {S:List Td}{T:List Kd}{tys:List ByteArray}{a o:ByteArray}(hts:a≠tsB)(h:anT S T a tys emp=some o)(ho:o≠emp):attrNmO S T tys a=some o:=by unfold attrNmO;rw[if_neg hts,h];exact if_neg ho
namespace evW
open nmW ckW
theorem attrName_k {w:World}{B gt g:Nat}{F:Nat→Prop}{A:Option Addr}{c:Nat}{S:List Td}{T:List Kd}{nl:List Ls}{q:Qy}{s:Sl3}(h:TX w B gt g F A c S T nl q s)(hS:SzT S)(hT:T.length≤1048576)(hTf:∀k∈T,k.fs.length≤1048576)
  (A5:Option Addr)(c5:Nat)(G:Nat→Prop)(tys:List ByteArray)(a:ByteArray)(hl:tys.length≤1048576)(hG:∀b,G b→b<w.heap.size)(rt:Rd w G (.slice A5 tys.length c5) (.sl tys.length (tys.flatMap strD))):
  Calls Tryz.prog 46 #[.pointer (some ⟨gt,0,none⟩),.slice A5 tys.length c5,.string a] w (APost (attrNmO S T tys a) w):=by
 by_cases hts:a=tsB
 ·have f0:=ts_true hts;have hfin:attrNmO S T tys a=some a:=by unfold attrNmO;rw[if_pos hts,hts]
  replace hts:=Hd hts;replace hfin:=Hd hfin;clear h rt;go_enter Tryz.func46,Tryz.ntmps46;go_wp2;go_ret2;exact APost.yes hfin.out bR
 have f0:=ts_false hts;obtain⟨x0,x1,_,_,_,_,_,_,_⟩:=h.cells;have hgt:=h.bt.lt;obtain⟨vk,vl,by_,l,hD,hlT⟩:=h.ds;have hgg:=hD.bx.lt;obtain⟨Ak,ck,rfl⟩:=hD.kr.form;have hll:l.length≤1048576:=by rw[←hlT]at hT;simpa using hT
 have hllT:l.length=T.length:=by rw[←hlT];simp
 have d0:=hD.c0;have k1:=fun n W (hW:Bw w W)=>typeOf_k A c F S n hS.1 W (h.qr.under hW).lt (h.rs.under hW h.qr.lt)
 have k3:=fun t W (hW:Bw w W)=>attrOf_k A c F S t a hS W (h.qr.under hW).lt (h.rs.under hW h.qr.lt)
 have kx:=fun W (hW:Bw w W)=>xW ((h.stay hW).cells.1) (xW ((h.stay hW).cells.2.1) ((hD.stay hW).c0))
 have kty:=fun(i:Nat) n W (hW:Bw w W)(hn:tys[i]? =some n)=>str_at (rt.under hW hG) hn
 obtain⟨R0,hR0⟩:∃R,R=attrNmO S T tys a:=⟨_,rfl⟩
 rw[←hR0];have e1:anT S T a tys emp=none→R0=none:=fun h=>by rw[hR0];exact attrNm_none hts h
 have e2:anT S T a tys emp=some emp→R0=none:=fun h=>by rw[hR0];exact attrNm_emp hts h
 have e3:∀o,anT S T a tys emp=some o→o≠emp→R0=some o:=fun o h h2=>by rw[hR0];exact attrNm_some hts h h2
 clear hR0;have hmf:∀(fn:Fn) (first cap:Array Value) (w:World),(Instr.makeFunc fn first cap).run Tryz.prog w=.ok (.func fn first cap) w:=fun _ _ _ _=>rfl
 have hD0:=Hd hD;replace k1:=Hd k1;replace k3:=Hd k3;replace kx:=Hd kx;replace kty:=Hd kty;replace e1:=Hd e1;replace e2:=Hd e2;replace e3:=Hd e3;replace hTf:=Hd hTf;replace hlT:=Hd hlT;replace hllT:=Hd hllT;replace hts:=Hd hts;clear h hD hS rt hG x0 x1 d0 hT;go_enter Tryz.func46,Tryz.ntmps46;go_wp2;go_loopw [8,21] (fun v i wr=>∃(k:Nat)(o:ByteArray),k≤tys.length∧v=.string o∧i=.int .i64 k∧Bw w wr∧Hid (anT S T a tys emp=anT S T a (tys.drop k) o)) (fun _ i _=>tys.length- (intOf i).toNat)
 case atStart=>exact⟨0,emp,zE _,rfl,rfl,bR,rfl⟩
 case round=>
  obtain⟨k,o,hk,rfl,rfl,hB,hp⟩:=hrel;by_cases hlt:k<tys.length
  ·obtain⟨n,hn⟩:=getx hlt;obtain⟨b5,o5,rfl,_,a0⟩:=kty.out k n wr hB hn;have g0:(0:Int)≤(k:Int):=by omega
   have g1:(k:Int)<tys.length:=by omega
   have hdr:=drop_at hn;rw[hdr]at hp;have hyes:∀o2,anK (placeI (nmsT S) n) (attrI S (placeI (nmsT S) n) a) T o=some o2→Hid (anT S T a tys emp=anT S T a (tys.drop (k+1)) o2):=fun o2 h=>by show _=_;rw[hp.out,anT_next h]
   have hno:anK (placeI (nmsT S) n) (attrI S (placeI (nmsT S) n) a) T o=none→R0=none:=fun h=>e1.out (by rw[hp.out,anT_stop h])
   obtain⟨ty,hty⟩:∃ty,ty=placeI (nmsT S) n:=⟨_,rfl⟩
   have k1':=k1.out n wr hB;rw[show placeI (S.map (·.name)) n=placeI (nmsT S) n from rfl]at k1';rw[←hty]at k1' hyes hno;have k3':=k3.out ty;obtain⟨fr,hfr⟩:∃fr,fr=attrI S ty a:=⟨_,rfl⟩
   rw[←hfr]at k3' hyes hno;obtain⟨y0,y1,y2⟩:=kx.out wr hB;have hbw:=hB.size;replace k1':=Hd k1';replace k3':=Hd k3';replace hyes:=Hd hyes;replace hno:=Hd hno;replace hn:=Hd hn;replace hdr:=Hd hdr;replace hty:=Hd hty;replace hfr:=Hd hfr;obtain⟨wo,hwo⟩:∃wo:World,wo=wr:=⟨_,rfl⟩
   subst hwo;go_wp2_with (first
    |(go_at_call 60;refine k1'.out.mono ?_;rintro e W1 ⟨rfl,hW1⟩;have hB1:=hB.trans (hW1.mono hB.size);clear y0 y1 y2;obtain⟨y0,y1,y2⟩:=kx.out W1 hB1;replace hB1:=Hd hB1;clear hW1)
    |(go_at_call 93;refine(k3'.out W1 hB1.out).mono ?_;rintro e W2 ⟨rfl,hW2⟩;have hB2:=hB1.out.trans (hW2.mono hB1.out.size);clear y0 y1 y2;obtain⟨y0,y1,y2⟩:=kx.out W2 hB2;have hz0:=hB2.size;have hz1:=zF hgt hB2.size;have hz2:=zF hgg hB2.size;replace hB2:=Hd hB2;clear hW2))
   clear y0 y1 y2 a0;have hq0:Hid (Bw w (W2.alloc (.cells ⟨[.int .i64 fr]⟩ 3))∧Blk (W2.alloc (.cells ⟨[.int .i64 fr]⟩ 3)) W2.heap.size 3 [.int .i64 fr]):=⟨hB2.out.alloc hz0 _,Blk.new _ _ _⟩;go_loopw [8,46] (fun v i wr=>∃(m:Nat)(o2:ByteArray),m≤l.length∧v=.string o2∧i=.int .i64 m∧Bw w wr∧Blk wr W2.heap.size 3 [.int .i64 fr]∧Hid (anK ty fr T o=anK ty fr (T.drop m) o2)) (fun _ i _=>l.length- (intOf i).toNat)
   case atStart=>exact⟨0,o,zE _,rfl,rfl,hq0.out.1,hq0.out.2,rfl⟩
   case round=>
    clear hq0;obtain⟨m,o2,hm,rfl,rfl,hBr,hbq,hp2⟩:=hrel;by_cases hlt2:m<l.length
    ·obtain⟨p,hpm⟩:=getx hlt2;have hTm:T[m]? =some p.1:=by rw[←hlT.out,zG,hpm];rfl
     have hDr:=hD0.out.stay hBr;obtain⟨gk,cap,eA,_,hgk,_,v0,v1,v2⟩:=hDr.at_ hpm;injection eA with e1' e2' e3'
     subst e1' e3';clear e2';have hpl:=zA hpm;have hfl:=hTf.out p.1 (zA hTm);have hfr2:=hDr.fr p hpl;obtain⟨Af,cf,hv2⟩:=hfr2.form;rw[hv2]at v2 hfr2;have g2:(0:Int)≤(m:Int):=by omega
     have g3:(m:Int)<l.length:=(by omega);have hdr2:=drop_at hTm;rw[hdr2]at hp2;have hW3:Bw wr (wr.alloc (.cells ⟨[.string p.1.nm,.int .i64 p.1.fr,.slice Af p.1.fs.length cf]⟩ 90)):=bA;have hbw3:=Hd (hBr.alloc hBr.size (.cells ⟨[.string p.1.nm,.int .i64 p.1.fr,.slice Af p.1.fs.length cf]⟩ 90));have hbq3:=Hd (hbq.alloc (.cells ⟨[.string p.1.nm,.int .i64 p.1.fr,.slice Af p.1.fs.length cf]⟩ 90));by_cases hne:p.1.fr=ty
     ·have f1:(p.1.fr != ty)=false:=(by rw[bne_eq_false_iff_eq];exact hne);have kf:Calls Tryz.prog 94 #[.slice Af p.1.fs.length cf,.func (.func 95) #[] #[.pointer (some ⟨W2.heap.size,0,none⟩)]] (wr.alloc (.cells ⟨[.string p.1.nm,.int .i64 p.1.fr,.slice Af p.1.fs.length cf]⟩ 90)) fun e w'=>e=.returned (.int .i64 (optI (p.1.fs.findIdx? fun f=>decide (f.fr=fr))))∧Below (wr.alloc (.cells ⟨[.string p.1.nm,.int .i64 p.1.fr,.slice Af p.1.fs.length cf]⟩ 90)).heap.size (wr.alloc (.cells ⟨[.string p.1.nm,.int .i64 p.1.fr,.slice Af p.1.fs.length cf]⟩ 90)) w':=by
       refine idxFf_k Af cf (fun b=>b<(wr.alloc (.cells ⟨[.string p.1.nm,.int .i64 p.1.fr,.slice Af p.1.fs.length cf]⟩ 90)).heap.size) p.1.fs (fun f=>decide (f.fr=fr)) W2.heap.size hfl _ (fun b h=>h) ((hfr2.stay hW3).rd (fun b hb _=>hb.elim) (fun b _ hb=>hb)) fun W4 hW4 x _=>fromF_k x.nm x.fr x.fl fr W2.heap.size W4 ?_
       exact(hbq3.out.stay hW4).cell 0
      obtain⟨W3,hW3e⟩:∃W3,W3=wr.alloc (.cells ⟨[.string p.1.nm,.int .i64 p.1.fr,.slice Af p.1.fs.length cf]⟩ 90):=⟨_,rfl⟩
      have hb3:Blk W3 wr.heap.size 90 [.string p.1.nm,.int .i64 p.1.fr,.slice Af p.1.fs.length cf]:=(by rw[hW3e];exact Blk.new _ _ _);rw[←hW3e]at kf hbw3 hbq3 hW3;have hfr3:=hfr2.stay hW3;have hszW:=hW3.size;have hwl3:wr.heap.size<W3.heap.size:=hb3.lt;replace hbw3:=Hd hbw3;replace hb3:=Hd hb3;replace hDr:=Hd hDr;replace hpm:=Hd hpm;replace hTm:=Hd hTm;replace hdr2:=Hd hdr2;replace hW3e:=Hd hW3e.symm;replace hW3:=Hd hW3;cases hfi:p.1.fs.findIdx? (fun f=>decide (f.fr=fr))with
      |none=>
       rw[hfi]at kf;simp only[optI]at kf;have hR:=Hd (hno.out (by rw[hp2.out,anK_no hne (fi_no hfi)]));replace kf:=Hd kf;replace hne:=Hd hne;replace hfi:=Hd hfi;replace hfr2:=Hd hfr2;replace hfr3:=Hd hfr3;replace hv2:=Hd hv2;go_upto_region 13 with fail
       rw[hW3e.out];clear v0 v1 v2;have b2:W3.cell? ⟨wr.heap.size,2,none⟩=some (.slice Af p.1.fs.length cf):=hb3.out.cell 2;go_wp2_with (go_at_call 94;refine kf.out.mono ?_;rintro e W4 ⟨rfl,hW4⟩);go_ret2;exact APost.no hR.out (hbw3.out.out.trans (hW4.mono hbw3.out.out.size))
      |some i=>
       obtain⟨f,hfx,_,hff⟩:=fi_get hfi;rw[hfi]at kf;simp only[optI]at kf;have hil:=(zC.1 hfx).1;obtain⟨gf,capf,eF,_,hgf,_,hcf⟩:=hfr3.row (by omega);injection eF with q1 q2 q3
       subst q1 q3;clear q2;obtain⟨u0,hu0,hru⟩:=hcf (i*3+0) _ (fmg (f:=fdD) (m:=3) (fun _=>rfl) hfx rfl);rw[hru.v_inv]at hu0;have g4:(0:Int)≤(i:Int):=by omega
       have g5:(i:Int)<p.1.fs.length:=(by omega);have kq:=fun W (hW:Bw W3 W)=>xW ((hb3.out.stay hW).cell 2) ((hW.cell (p:=⟨gf,i*3,none⟩) hgf).trans hu0)
       have hbad:o2≠emp→f.nm≠o2→R0=none:=fun h h2=>hno.out (by rw[hp2.out,anK_bad hne hff h h2])
       have hok:(o2=emp∨f.nm=o2)→Hid (anK ty fr T o=anK ty fr (T.drop (m+1)) f.nm):=fun h=>by show _=_;rw[hp2.out,anK_go hne hff h]
       replace kf:=Hd kf;replace kq:=Hd kq;replace hbad:=Hd hbad;replace hok:=Hd hok;replace hne:=Hd hne;replace hfi:=Hd hfi;replace hff:=Hd hff;replace hfx:=Hd hfx;replace hfr2:=Hd hfr2;replace hfr3:=Hd hfr3;replace hv2:=Hd hv2;clear hcf hru hu0;go_upto_region 13 with fail
       rw[hW3e.out];clear v0 v1 v2;obtain⟨b2,b3⟩:=kq.out W3 bR;go_upto_region 14 with(go_at_call 94;refine kf.out.mono ?_;rintro e W4 ⟨rfl,hW4⟩;clear b2 b3;obtain⟨b2,b3⟩:=kq.out W4 hW4;have hB4:=Hd (hbw3.out.out.trans (hW4.mono hbw3.out.out.size));have hq4:=Hd (hbq3.out.stay hW4);clear hW4)
       by_cases ho2:o2=emp
       ·have hgo:=Hd (hok.out (.inl ho2));have f3:o2.toList.isEmpty=true:=by rw[ho2,show emp.toList=[] by rw[ByteArray.toList_eq];rfl];rfl
        have f4:(o2.toList != ([]:List UInt8))=false:=(by rw[bne,emp_eq,zW ho2];rfl);replace ho2:=Hd ho2;go_wp2;go_roundw
        case rel=>exact⟨m+1,f.nm,by omega,rfl,by go_num,hB4.out,hq4.out,hgo.out⟩
        case measure=>simp[intOf];omega
       ·have f3:o2.toList.isEmpty=false:=by
         have:=emp_eq o2;rw[zV ho2]at this;cases ho:o2.toList with
         |nil=>rw[ho]at this;simp at this
         |cons=>rfl
        have f4:(o2.toList != ([]:List UInt8))=true:=(by rw[bne,emp_eq,zV ho2];rfl);by_cases hnm:f.nm=o2
        ·have hgo:=Hd (hok.out (.inr hnm));have f5:(f.nm.toList != o2.toList)=false:=by rw[bne,bqb,zW hnm];rfl
         have f6:(f.nm.toList==o2.toList)=true:=(by rw[bqb,zW hnm]);replace ho2:=Hd ho2;replace hnm:=Hd hnm;go_wp2;go_roundw
         case rel=>exact⟨m+1,f.nm,by omega,rfl,by go_num,hB4.out,hq4.out,hgo.out⟩
         case measure=>simp[intOf];omega
        ·have hR:=Hd (hbad.out ho2 hnm);have f5:(f.nm.toList != o2.toList)=true:=by rw[bne,bqb,zV hnm];rfl
         have f6:(f.nm.toList==o2.toList)=false:=(by rw[bqb,zV hnm]);replace ho2:=Hd ho2;replace hnm:=Hd hnm;go_wp2;go_ret2;exact APost.no hR.out hB4.out
     ·have f1:(p.1.fr != ty)=true:=bneT hne;have hgo:Hid (anK ty fr T o=anK ty fr (T.drop (m+1)) o2):=by show _=_;rw[hp2.out,anK_ne hne]
      replace hne:=Hd hne;replace hpm:=Hd hpm;replace hTm:=Hd hTm;replace hdr2:=Hd hdr2;replace hDr:=Hd hDr;replace hv2:=Hd hv2;go_wp2;go_roundw
      case rel=>exact⟨m+1,o2,by omega,rfl,by go_num,hbw3.out,hbq3.out,hgo.out⟩
      case measure=>simp[intOf];omega
    ·obtain rfl:m=l.length:=by omega
     have hfin:anK ty fr T o=some o2:=(by rw[hp2.out,hllT.out,List.drop_length];rfl);have hgo:=hyes.out o2 hfin;replace hfin:=Hd hfin;go_wp2;go_roundw
     case rel=>exact⟨k+1,o2,by omega,rfl,by go_num,hBr,hgo⟩
     case measure=>simp[intOf];omega
  ·obtain rfl:k=tys.length:=by omega
   have hfin:anT S T a tys emp=some o:=by rw[hp.out,List.drop_length];rfl
   by_cases ho:o=emp
   ·have hR:=Hd (e2.out (by rw[hfin,ho]));subst ho;have f3:emp.toList.isEmpty=true:=by rw[show emp.toList=[] by rw[ByteArray.toList_eq];rfl];rfl
    replace hfin:=Hd hfin;go_wp2;go_ret2;exact APost.no hR.out hB
   ·have hR:=Hd (e3.out o hfin ho);have f1:(o.toList==([]:List UInt8))=false:=by rw[emp_eq];exact zV ho
    have f2:(o.toList != ([]:List UInt8))=true:=(by rw[bne,f1];rfl);replace hfin:=Hd hfin;replace ho:=Hd ho;go_wp2;go_ret2;exact APost.yes hR.out hB
end evW
section
variable {P:Program}{ops:Array Oper}{Q:Exit→Act→World→Prop}{md:Region.Mode}{S0 S1:World→Prop}{p:Nat}
theorem G_fork {k1 k2:Nat}{o1 o2:Oper}{n:Nat}{L:Array Bool}{a:Act}{w:World}(hr:Region.ready md ops L=[k1,k2])(ho1:ops[k1]? =some o1)(ho2:ops[k2]? =some o2)
  (h1:∀K':Act→World→Prop,Hid (∀a w',SG p S0 S1 (L.setIfInBounds k1 true) w'→anyG P md ops Q (SG p S0 S1) n (L.setIfInBounds k1 true) a w'→K' a w')→if Region.wanted o1 (yielded ops a.tmps)=true then Oper.wp P o1 a w K' Q else K' (a.put o1.dst undef) w)
  (h2:∀K':Act→World→Prop,Hid (∀a w',SG p S0 S1 (L.setIfInBounds k2 true) w'→anyG P md ops Q (SG p S0 S1) n (L.setIfInBounds k2 true) a w'→K' a w')→if Region.wanted o2 (yielded ops a.tmps)=true then Oper.wp P o2 a w K' Q else K' (a.put o2.dst undef) w):anyG P md ops Q (SG p S0 S1) (n+1) L a w:=by
 refine⟨(fun h0=>by rw[h0]at hr;cases hr),fun i hi=>?_⟩;rw[hr]at hi;rcases List.mem_cons.1 hi with rfl |hi
 ·exact wpOp_step ho1 fun K' hK=>h1 K' (Hd fun a w' h1 h2=>hK a w' ⟨h1,h2⟩)
 ·rcases xB.1 hi with rfl
  exact wpOp_step ho2 fun K' hK=>h2 K' (Hd fun a w' h1 h2=>hK a w' ⟨h1,h2⟩)
theorem step_store_blk {o:Oper}{a:Act}{w:World}{K:Act→World→Prop}{E:Prop}(hgd:o.guard=none)(ty:TypeId)(x y:Operand)(ho:o.op=.store ty x y)
  {g t:Nat}{cs cs':List Value}(h:Blk w g t cs)(T:AggT P ty cs'.length)(hl:cs'.length=cs.length)(hx:a.eval x=.pointer (some ⟨g,0,none⟩))(hy:a.eval y=.agg ⟨cs'⟩)(h1:cs'.all (·.oneCell')=true)
  (hk:∀w',Blk w' g t cs'→w.grownBy w' (some g)→K (a.put o.dst undef) w'):if Region.wanted o (yielded ops a.tmps)=true then Oper.wp P o a w K Q else E:=by
 have hw:Region.wanted o (yielded ops a.tmps)=true:=by simp[Region.wanted,hgd]
 rw[if_pos hw];obtain⟨d,hu,hd,hi⟩:=T;obtain⟨h2,h3⟩:=setCells_blk cs' 0 w cs h (by omega);refine wp_store_mid ty x y ho g 0 ⟨cs'⟩ hx hy (fun j hj=>?_) hi (by simpa using h1) (hk _ (by simpa using h2) h3);rw[Nat.zero_add];refine⟨?_,h.frozen j⟩;rw[h.cell,zI (by simp at hj;omega)];rfl
end
theorem nd_plain (x:Nd):PlainL (ndD x):=fun d hd=>by
 simp only[ndD,List.mem_cons,List.not_mem_nil,or_false]at hd;rcases hd with rfl |rfl |rfl |rfl |rfl |rfl<;>exact⟨_,rfl⟩
theorem nd_len (l:List Nd):(l.flatMap ndD).length=l.length*6:=fml (f:=ndD) (m:=6) (fun _=>rfl) l
theorem OL.empty' (w:World)(T size:Nat):OL (w.alloc (.cells #[] T)) w.heap.size NoF T size (.slice (some ⟨w.heap.size,0,none⟩) 0 0) 0 []:=
 ⟨[],⟨by simp,.inr ⟨w.heap.size,0,#[],rfl,nR,heap_alloc_new w _,nR,zE _,by simp,by simp⟩⟩,rfl,fun k d h=>by simp at h⟩
theorem aggIt:AggT Tryz.prog 54 5:=⟨_,Tryz.underlying54,rfl,by kernel_rfl⟩
def TPost (o:Option (List Nd))(w:World)(e:Ending)(w':World):Prop:=∃v,e=.returned (.tuple #[v,.bool o.isSome])∧(∀t,o=some t→OL w' w.heap.size NoF 81 6 v t.length (t.flatMap ndD))∧(∃A n c,v=.slice A n c)∧Bw w w'
theorem TPost.no {o:Option (List Nd)}{w w':World}(h:o=none)(hb:Bw w w'):TPost o w (.returned (.tuple #[.slice none 0 0,.bool false])) w':=by subst h;exact⟨_,rfl,fun t h=>(by cases h),⟨_,_,_,rfl⟩,hb⟩
theorem TPost.yes {o:Option (List Nd)}{t:List Nd}{A:Option Addr}{n c:Nat}{w w':World}(h:o=some t)(hO:OL w' w.heap.size NoF 81 6 (.slice A n c) t.length (t.flatMap ndD))(hb:Bw w w'):TPost o w (.returned (.tuple #[.slice A n c,.bool true])) w':=by
 subst h;exact⟨_,rfl,fun t h=>(by injection h with h;subst h;exact hO),⟨_,_,_,rfl⟩,hb⟩
theorem tree_step {S:List Td}{T:List Kd}{q:Qy}{t ys:List Nd}{j:Nat}{x y:Nd}(hx:t[j]? =some x)(hy:nodeO S T q x=some y)(h:treeO S T q t=(treeO S T q (t.drop j)).map (ys++ ·)):treeO S T q t=(treeO S T q (t.drop (j+1))).map ((ys++[y])++ ·):=by
 rw[h,drop_at hx,treeO,hy];cases treeO S T q (t.drop (j+1))with
 |none=>rfl
 |some a=>simp
theorem tree_stop {S:List Td}{T:List Kd}{q:Qy}{t ys:List Nd}{j:Nat}{x:Nd}(hx:t[j]? =some x)(hy:nodeO S T q x=none)(h:treeO S T q t=(treeO S T q (t.drop j)).map (ys++ ·)):treeO S T q t=none:=by
 rw[h,drop_at hx,treeO,hy];rfl
theorem nd_set {ys:List Nd}{x:Nd}{r:List Nd}{s:ByteArray}{j:Nat}(hj:ys.length=j):((ys++x::r).flatMap ndD).set (j*6+3) (.v (.string s))=((ys++[{x with at_:=s}])++r).flatMap ndD:=by
 subst hj;rw[xD,xD,xD,zK,List.set_append,nd_len,if_neg (by omega),zR];congr 1;rw[show ys.length*6+3-ys.length*6=3 by omega,List.set_append,if_pos (by show 3<6;omega)];simp[ndD]
theorem itemI_fi (q:Qy)(v:ByteArray):itemI q v=optI (q.items.findIdx? fun y=>decide (y.v=v)):=by
 unfold itemI placeI vrs;rw[fi_map];cases q.items.findIdx? (fun y=>decide (y.v=v))<;>rfl
theorem fi_some {q:Qy}{v:ByteArray}(h:∃it∈q.items,it.v=v):∃(i:Nat)(it:It),q.items.findIdx? (fun y=>decide (y.v=v))=some i∧q.items[i]? =some it∧q.items[(itemI q v).toNat]? =some it:=by
 cases hf:q.items.findIdx? (fun y=>decide (y.v=v))with
 |none=>
  obtain⟨it,h1,h2⟩:=h;rw[List.findIdx?_eq_none_iff]at hf;have:=hf it h1;simp[h2]at this
 |some i=>
  obtain⟨it,hi,_,_⟩:=fi_get hf;exact⟨i,it,rfl,hi,by rw[itemI_fi,hf];exact hi⟩
theorem node_emp {S:List Td}{T:List Kd}{q:Qy}{x:Nd}(h:x.at_=emp):nodeO S T q x=some x:=by unfold nodeO;rw[if_pos h]
theorem node_at {S:List Td}{T:List Kd}{q:Qy}{x:Nd}{it:It}(h:x.at_≠emp)(h2:q.items[(itemI q x.v).toNat]? =some it):nodeO S T q x=(attrNmO S T it.tys x.at_).map fun a=>{x with at_:=a}:=by unfold nodeO;rw[if_neg h,h2]
namespace evW
open nmW ckW
theorem cloneNd_k (A:Option Addr)(c:Nat)(F:Nat→Prop)(l:List Nd)(hl:l.length≤1048576)(w:World)(r:Rd w F (.slice A l.length c) (.sl l.length (l.flatMap ndD))):
  Calls Tryz.prog 90 #[.slice A l.length c] w fun e w'=>∃v,e=.returned v∧OL w' w.heap.size NoF 81 6 v l.length (l.flatMap ndD)∧Bw w w':=by
 have hl1:=nd_len l;have hcmp:∀(W:World)(a:Option Addr)(n c:Nat),(binOp .eql 29 (.slice a n c) (.slice none 0 0)).run Tryz.prog W=.ok (.bool a.isNone) W:=fun W a n c=>Lib.run_eql_slice_nil W _ _ a n c 0 0 Tryz.underlying29
 cases A with
 |none=>
  obtain rfl:l=[]:=by
   cases l with
   |nil=>rfl
   |cons a l=>obtain⟨b,off,e,_⟩:=r.cells (by simp[ndD]);cases e
  go_enter Tryz.func90,Tryz.ntmps90;go_wp2;go_ret;exact⟨_,rfl,.nil _ _ _ _ _,.refl _ _⟩
 |some a=>
  have r1:=r.alloc (.cells #[] 81);go_enter Tryz.func90,Tryz.ntmps90;go_wp2_with (at_builtin;refine wpa rfl (.tmp 5) (.tmp 6) _ rfl (m:=l.length) (news:=l.flatMap ndD) elNd (OL.empty' w 81 6) rfl rfl (Rd.srcq (PlainL.flatMap nd_plain l) r1) hl1 (by omega) (by omega) (by simp) ?_;intro v1 w1 hO1 hg1 ha1;have hb1:Bw w w1:=(bA).grown hg1 (by simp) (fun q hq=>by simp[Value.ownBlock]at hq;omega));go_ret;exact⟨_,rfl,by simpa using hO1,hb1⟩
theorem varI_k (x:It)(A2:Option Addr)(c2:Nat)(v:ByteArray)(q:Nat)(W:World)(hq:W.cell? ⟨q,2,none⟩=some (.string v)):
  Calls Tryz.prog 92 #[.agg #[.bool x.neg,.slice A2 x.tys.length c2,.string x.v,.int .i64 x.lo,.int .i64 x.hi],.pointer (some ⟨q,0,none⟩)] W fun e w'=>e=.returned (.bool (decide (x.v=v)))∧Bw W w':=by
 rw[←bqb];have hb:=Hd ((zB W.heap.size W).alloc nR (.cells ⟨[.bool x.neg,.slice A2 x.tys.length c2,.string x.v,.int .i64 x.lo,.int .i64 x.hi]⟩ 54));have hq2:q<W.heap.size:=zX W _ hq;have hne:q≠W.heap.size:=by omega
 go_enter Tryz.func92,Tryz.ntmps92;go_wp2;go_ret;exact⟨rfl,hb.out⟩
theorem tree_k {w:World}{B gt g:Nat}{F:Nat→Prop}{A:Option Addr}{c:Nat}{S:List Td}{T:List Kd}{nl:List Ls}{q:Qy}{s:Sl3}(h:TX w B gt g F A c S T nl q s)(hs:SzQ q)(hS:SzT S)(hT:T.length≤1048576)(hTf:∀k∈T,k.fs.length≤1048576)
  (At:Option Addr)(ct:Nat)(G:Nat→Prop)(t:List Nd)(hl:t.length≤1048576)(rt:Rd w G (.slice At t.length ct) (.sl t.length (t.flatMap ndD)))(hit:∀x∈t,x.at_=emp∨∃it∈q.items,it.v=x.v):
  Calls Tryz.prog 45 #[.pointer (some ⟨gt,0,none⟩),.slice At t.length ct] w (TPost (treeO S T q t) w):=by
 have hTX:=h;obtain⟨x0,x1,x2,_,_,_,_,_,_⟩:=h.cells;have hgt:=h.bt.lt;have kc:=cloneNd_k At ct G t hl w rt;have kx:=fun W (hW:Bw w W)=>xW ((h.stay hW).cells.1) (xW ((h.stay hW).cells.2.1) ((h.stay hW).cells.2.2.1))
 have kn:=fun W (hW:Bw w W)(A5:Option Addr)(c5:Nat) tys a (h1:tys.length≤1048576) r=>attrName_k (h.stay hW) hS hT hTf A5 c5 F tys a h1 (h.stay hW).qr.lt r
 have ki:=fun W (hW:Bw w W)(gn:Nat)(v:ByteArray)(hc:W.cell? ⟨gn,2,none⟩=some (.string v))=>idxIt_k s.a1 s.c1 F q.items (fun x=>decide (x.v=v)) gn hs.il W (h.stay hW).qr.lt (h.stay hW).qr.r1 fun W2 hW2 x _ A2 c2=>varI_k x A2 c2 v gn W2 ((hW2.cell (p:=⟨gn,2,none⟩) (zX W _ hc)).trans hc)
 have kit:=fun W (hW:Bw w W)(i:Nat) it (hi:q.items[i]? =some it)=>it_at (h.stay hW).qr.r1 hi
 have hil:=hs.il;have hits:=hs.it;have hFlt:=h.qr.lt;obtain⟨R0,hR0⟩:∃R,R=treeO S T q t:=⟨_,rfl⟩
 rw[←hR0];have hmf:∀(fn:Fn) (first cap:Array Value) (w:World),(Instr.makeFunc fn first cap).run Tryz.prog w=.ok (.func fn first cap) w:=fun _ _ _ _=>rfl
 obtain⟨A1,c1,A2,c2,A3,c3⟩:=s;simp only at x2 kx ki kit;replace hTX:=Hd hTX;replace kc:=Hd kc;replace kx:=Hd kx;replace kn:=Hd kn;replace ki:=Hd ki;replace kit:=Hd kit;replace hR0:=Hd hR0;replace hit:=Hd hit;replace hits:=Hd hits;replace hFlt:=Hd hFlt;clear h hs hS hT hTf rt x0 x1 x2;go_enter Tryz.func45,Tryz.ntmps45;go_wp2_with (go_at_call 90;refine kc.out.mono ?_;rintro e W1 ⟨v1,rfl,hO1,hW1⟩;obtain⟨Ao,co,rfl⟩:=hO1.form;replace hO1:=Hd hO1;replace hW1:=Hd hW1);go_loopw [16] (fun i wr=>∃(j:Nat)(ys:List Nd),j≤t.length∧ys.length=j∧i=.int .i64 j∧Bw w wr∧OL wr w.heap.size NoF 81 6 (.slice Ao t.length co) t.length ((ys++t.drop j).flatMap ndD)∧Hid (treeO S T q t=(treeO S T q (t.drop j)).map (ys++ ·))) (fun i _=>t.length- (intOf i).toNat)
 case atStart=>exact⟨0,[],zE _,rfl,rfl,hW1.out,hO1.out,by show _=_;simp⟩
 case round=>
  clear hO1 hW1;obtain⟨j,ys,hj,hys,rfl,hB,hO,hp⟩:=hrel;replace hys:=Hd hys;by_cases hlt:j<t.length
  ·obtain⟨x,hx⟩:=getx hlt;have hxm:=zA hx;have hdr:=drop_at hx;have hxy:(ys++t.drop j)[j]? =some x:=by rw[hdr,zP (by rw[hys.out];omega),hys.out];simp
   obtain⟨go,capo,eo,hgo1,hgo2,hgo3,hcf⟩:=hO.row (by omega);injection eo with e1 e2 e3
   subst e1 e3;clear e2;have key:∀(k:Nat)(y:Value),(ndD x)[k]? =some (.v y)→wr.cell? ⟨go,j*6+k,none⟩=some y:=fun k y hk=>by
    obtain⟨u,hu,hr⟩:=hcf (j*6+k) _ (fmg (f:=ndD) (m:=6) (fun _=>rfl) hxy hk);rw[hr.v_inv]at hu;exact hu
   have a0:wr.cell? ⟨go,j*6,none⟩=some (.int .i64 x.op):=key 0 _ rfl;have a1:wr.cell? ⟨go,j*6+1,none⟩=some (.int .i64 x.n):=key 1 _ rfl;have a2:wr.cell? ⟨go,j*6+2,none⟩=some (.string x.v):=key 2 _ rfl;have a3:wr.cell? ⟨go,j*6+3,none⟩=some (.string x.at_):=key 3 _ rfl;have a4:wr.cell? ⟨go,j*6+4,none⟩=some (.int .i64 x.a):=key 4 _ rfl;have a5:wr.cell? ⟨go,j*6+5,none⟩=some (.int .i64 x.b):=key 5 _ rfl;have g0:(0:Int)≤(j:Int):=by omega
   have g1:(j:Int)<t.length:=by omega
   have hbw:=hB.size;have hBn:=Hd (hB.alloc hB.size (.cells ⟨ndV x⟩ 81));have hbn:=Hd (Blk.new wr 81 (ndV x));have hOn:=Hd (hO.alloc (.cells ⟨ndV x⟩ 81));by_cases he:x.at_=emp
   ·have f1:(x.at_.toList==([]:List UInt8))=true:=(by rw[emp_eq];exact zW he);have f3:x.at_.toList.isEmpty=true:=by rw[he,show emp.toList=[] by rw[ByteArray.toList_eq];rfl];rfl
    have hst:=Hd (tree_step hx (node_emp he) hp.out);have hOx:Hid (OL (wr.alloc (.cells ⟨ndV x⟩ 81)) w.heap.size NoF 81 6 (.slice (some ⟨go,0,none⟩) t.length co) t.length (((ys++[x])++t.drop (j+1)).flatMap ndD)):=by
     have:=hOn.out;rw[hdr]at this;show OL _ _ _ _ _ _ _ _
     rw[zR];exact this
    simp only[ndV]at hOx hBn;replace he:=Hd he;replace hdr:=Hd hdr;replace hxy:=Hd hxy;replace hx:=Hd hx;clear key hcf hO;go_wp2;go_roundw
    case rel=>exact⟨j+1,ys++[x],by omega,by rw[zH,hys.out];rfl,by go_num,hBn.out,hOx.out,hst.out⟩
    case measure=>simp[intOf];omega
   have f1:(x.at_.toList==([]:List UInt8))=false:=by rw[emp_eq];exact zV he
   have f3:x.at_.toList.isEmpty=false:=by
    cases ho:x.at_.toList with
    |nil=>rw[ho]at f1;simp at f1
    |cons=>rfl
   obtain⟨i,it,hfi,hii,hig⟩:=fi_some ((hit.out x hxm).resolve_left he);have hii2:=(zC.1 hii).1;have hno:=node_at (S:=S) (T:=T) he hig;obtain⟨W3,hW3e⟩:∃W3,W3=wr.alloc (.cells ⟨ndV x⟩ 81):=⟨_,rfl⟩
   rw[←hW3e]at hBn hbn hOn;have hs3:wr.heap.size<W3.heap.size:=hbn.out.lt;have hs3':=hBn.out.size;obtain⟨gI,oI,A5,c5,eI,hFI,rx,i0,i1,i2,i3,i4⟩:=kit.out W3 hBn.out i it hii;try simp only at eI
   subst eI;have hgI:=hFlt.out gI hFI;have hki:=fun W (hW:Bw W3 W)=>ki.out W (hBn.out.trans (hW.mono hBn.out.size)) wr.heap.size x.v ((hbn.out.stay hW).cell 2)
   rw[hfi]at hki;simp only[optI]at hki;obtain⟨y0,y1,y2⟩:=kx.out W3 hBn.out;have kS:=fun W (hW:Bw W3 W)=>xW ((hW.cell (p:=⟨gt,2,none⟩) (by show gt<_;omega)).trans y2) (xW ((hW.cell (p:=⟨gI,oI+i*5,none⟩) (by show gI<_;omega)).trans i0) (xW ((hW.cell (p:=⟨gI,oI+i*5+1,none⟩) (by show gI<_;omega)).trans i1) (xW ((hW.cell (p:=⟨gI,oI+i*5+2,none⟩) (by show gI<_;omega)).trans i2) (xW ((hW.cell (p:=⟨gI,oI+i*5+3,none⟩) (by show gI<_;omega)).trans i3) ((hW.cell (p:=⟨gI,oI+i*5+4,none⟩) (by show gI<_;omega)).trans i4)))))
   have hSS:=xW (kS W3.drew (bR).drew) trivial;have g4:(0:Int)≤(i:Int):=by omega
   have g5:(i:Int)<q.items.length:=by omega
   have hsz:=(hits.out it (zA hii)).1.1;replace hii:=Hd hii;replace hig:=Hd hig;replace hfi:=Hd hfi;replace hno:=Hd hno;replace hki:=Hd hki;replace kS:=Hd kS;replace he:=Hd he;replace hdr:=Hd hdr;replace hxy:=Hd hxy;replace hx:=Hd hx;replace rx:=Hd rx;replace hxm:=Hd hxm;simp only[ndV]at hW3e;have hWW3:=Hd hW3e;clear key hcf hO hW3e i0 i1 i2 i3 i4 y0 y1 y2;go_upto_region 6 with fail
   rw[←hWW3.out];clear a0 a1 a2 a3 a4 a5;go_cut [9] (fun v wx=>∃gi,v=.pointer (some ⟨gi,0,none⟩)∧Bw W3 wx∧Blk wx gi 54 (itV it (.slice A5 it.tys.length c5)))
   case first=>
    refine G_region (p:=100) (S0:=fun W=>W.cell? ⟨gt,2,none⟩=some (.slice (some ⟨gI,oI,none⟩) q.items.length c1)∧W.cell? ⟨gI,oI+i*5,none⟩=some (.bool it.neg)∧W.cell? ⟨gI,oI+i*5+1,none⟩=some (.slice A5 it.tys.length c5)∧W.cell? ⟨gI,oI+i*5+2,none⟩=some (.string it.v)∧W.cell? ⟨gI,oI+i*5+3,none⟩=some (.int .i64 it.lo)∧W.cell? ⟨gI,oI+i*5+4,none⟩=some (.int .i64 it.hi)) (S1:=fun _=>True) (by kernel_rfl) ?_;refine' TkA 0 rfl hSS ?_;refine' TkA 1 rfl hSS ?_;refine' TkA 2 rfl hSS ?_;refine' TkA 3 rfl hSS ?_;refine' TkA 4 rfl hSS ?_;refine' TkA 5 rfl hSS ?_;refine' TkA 6 rfl hSS ?_;refine' TkA 7 rfl hSS ?_;refine' TkA 8 rfl hSS ?_;refine' TkA 9 rfl hSS ?_;refine' TkA 10 rfl hSS ?_;try simp only[Act.put,TkS]
    refine G_fork (k1:=11) (k2:=14) (by kernel_rfl) rfl rfl (fun K hK=>?_) (fun K hK=>?_)
    ·go_simp;go_at_call 91;refine(hki.out W3.drew (bR).drew).mono ?_;rintro e W4 ⟨rfl,hB4⟩;have hW4:=Hd ((zB W3.heap.size W3).drew.trans hB4);refine hK.out _ _ ⟨kS.out _ hW4.out,fun _=>trivial⟩ ?_;have hST:=xW (kS.out _ hW4.out) trivial;clear hK K hSS hB4;refine' TkA 12 rfl hST ?_;refine' TkA 13 rfl hST ?_;try simp only[Act.put,TkS]
     refine Gs 14 rfl fun K hK=>?_
     go_simp;refine hK.out _ _ ⟨kS.out _ (by first|exact hW4.out.alloc hW4.out.size _ |exact(hW4.out.alloc hW4.out.size _).drew),fun _=>trivial⟩ ?_;clear hK K;refine Gs 15 rfl fun K hK=>?_
     go_simp;refine hK.out _ _ ⟨kS.out _ (by first|exact hW4.out.alloc hW4.out.size _ |exact(hW4.out.alloc hW4.out.size _).drew),fun _=>trivial⟩ ?_;clear hK K hST;refine Gd _ ?_;try simp only[Act.put,TkS]
     go_wp2
     all_goals(go_meet;exact⟨W4.heap.size,rfl,hW4.out.alloc hW4.out.size _,Blk.new _ _ _⟩)
    ·go_simp;have hZ:Blk (W3.alloc (.cells ⟨[.bool false,.slice none 0 0,.string ⟨#[]⟩,.int .i64 0,.int .i64 0]⟩ 54)).drew W3.heap.size 54 [.bool false,.slice none 0 0,.string ⟨#[]⟩,.int .i64 0,.int .i64 0]:=(Blk.new W3 54 [.bool false,.slice none 0 0,.string ⟨#[]⟩,.int .i64 0,.int .i64 0]).stay (bR).drew;have hW5:=Hd (((zB W3.heap.size W3).alloc nR (.cells ⟨[.bool false,.slice none 0 0,.string ⟨#[]⟩,.int .i64 0,.int .i64 0]⟩ 54)).drew);refine hK.out _ _ ⟨kS.out _ hW5.out,fun _=>trivial⟩ ?_;generalize (W3.alloc (.cells ⟨[.bool false,.slice none 0 0,.string ⟨#[]⟩,.int .i64 0,.int .i64 0]⟩ 54)).drew=W5 at*;replace hZ:=Hd hZ;have hz5:=hZ.out.lt;clear hK K hSS;try simp only[Act.put,TkS]
     refine Gs 11 rfl fun K hK=>?_
     go_simp;go_at_call 91;refine(hki.out W5 hW5.out).mono ?_;rintro e W4 ⟨rfl,hB4⟩;have hW4:=Hd (hW5.out.trans (hB4.mono hW5.out.size));have hZ4:=Hd (hZ.out.stay hB4);refine hK.out _ _ ⟨kS.out _ hW4.out,fun _=>trivial⟩ ?_;have hST:=xW (kS.out _ hW4.out) trivial;clear hK K hB4;refine' TkA 12 rfl hST ?_;refine' TkA 13 rfl hST ?_;try simp only[Act.put,TkS]
     refine Gs 15 rfl fun K hK=>?_
     refine step_store_blk (by rfl) 54 _ _ (by rfl) (cs':=itV it (.slice A5 it.tys.length c5)) hZ4.out aggIt rfl (by rfl) (by rfl) rfl ?_;intro w6 hb6 hg6;have hW6:=Hd (hW4.out.grown hg6 hW4.out.size (fun q hq=>by injection hq with hq;omega));refine hK.out _ _ ⟨kS.out _ hW6.out,fun _=>trivial⟩ ?_;replace hb6:=Hd hb6;clear hK K hST hg6;refine Gd _ ?_;go_simp;go_wp2
     all_goals(go_meet;exact⟨W3.heap.size,rfl,hW6.out,hb6.out⟩)
   case rest=>
   obtain⟨gi,rfl,hBx,hbi⟩:=hcut;have hBc:=hBn.out.trans (hBx.mono hBn.out.size);have hOc:=Hd (hOn.out.stay hBx);have hbc:=hbn.out.stay hBx;have i1:wc.cell? ⟨gi,1,none⟩=some (.slice A5 it.tys.length c5):=hbi.cell 1;have n3:wc.cell? ⟨wr.heap.size,3,none⟩=some (.string x.at_):=hbc.cell 3;have kk:=kn.out wc hBc A5 c5 it.tys x.at_ hsz (rx.out.under hBx fun b hb=>zF (hFlt.out b hb) hs3');replace hBc:=Hd hBc;clear hSS hBx hbi hbc;cases hA:attrNmO S T it.tys x.at_ with
   |none=>
    rw[hA]at kk;have hst:=Hd (show R0=none by rw[hR0.out];exact tree_stop hx.out (by rw[hno.out,hA];rfl) hp.out);replace kk:=Hd kk;replace hA:=Hd hA;go_wp2_with (go_at_call 46;refine kk.out.mono ?_;rintro e W6 ⟨rfl,hB6⟩;simp only[Option.getD_none,Option.isSome_none]);go_ret2;exact TPost.no hst.out (hBc.out.trans (hB6.mono hBc.out.size))
   |some b=>
    rw[hA]at kk;have hst:=Hd (tree_step (y:={x with at_:=b}) hx.out (by rw[hno.out,hA];rfl) hp.out);have kset:=fun W (hW:Bw wc W)=>xW ((hOc.out.stay hW).row (by omega)) ((hOc.out.stay hW).set (j:=j*6+3) (u:=.string b) (d:=.v (.string b)) (.v _ rfl))
    have hcg:(ys++t.drop j)=ys++x::t.drop (j+1):=(by rw[hdr.out]);rw[hcg]at kset;rw[nd_set hys.out]at kset;have kw:∀W,Bw wc W→W.cell? ⟨go,j*6+3,none⟩=some (.string x.at_)∧W.frozen? ⟨go,j*6+3,none⟩=false∧OL (W.setCell ⟨go,j*6+3,none⟩ (.string b)) w.heap.size NoF 81 6 (.slice (some ⟨go,0,none⟩) t.length co) t.length (((ys++[{x with at_:=b}])++t.drop (j+1)).flatMap ndD):=fun W hW=>by
     obtain⟨⟨g',cap',e,_,_,hf,hc⟩,h2⟩:=kset W hW;injection e with e1 _ _
     injection e1 with e1
     injection e1 with e1
     subst e1;obtain⟨u,hu,hr⟩:=hc (j*6+3) _ (fmg (f:=ndD) (m:=6) (fun _=>rfl) (show(ys++x::t.drop (j+1))[j]? =some x by rw[←hcg];exact hxy.out) (j:=3) rfl);rw[hr.v_inv]at hu;exact⟨hu,hf _,h2⟩
    replace kk:=Hd kk;replace hA:=Hd hA;replace kw:=Hd kw;replace hcg:=Hd hcg;clear kset;go_wp2_with (go_at_call 46;refine kk.out.mono ?_;rintro e W6 ⟨rfl,hB6⟩;simp only[Option.getD_some,Option.isSome_some];have hBf:=Hd (hBc.out.trans (hB6.mono hBc.out.size));obtain⟨z1,z2,z3⟩:=kw.out W6 hB6;replace z3:=Hd z3;clear hB6);go_roundw
    case rel=>exact⟨j+1,ys++[{x with at_:=b}],by omega,by rw[zH,hys.out];rfl,by go_num,hBf.out.setCell hgo1 _,z3.out,hst⟩
    case measure=>simp[intOf];omega
  ·obtain rfl:j=t.length:=by omega
   have hfin:R0=some ys:=by rw[hR0.out,hp.out,List.drop_length];simp[treeO]
   rw[List.drop_length,zT]at hO;have hOx:OL wr w.heap.size NoF 81 6 (.slice Ao t.length co) ys.length (ys.flatMap ndD):=by rw[hys.out];exact hO
   replace hOx:=Hd hOx;replace hfin:=Hd hfin;clear hO;go_wp2;go_ret2;exact TPost.yes hfin.out hOx.out hB
end evW
end Go.Proofs.YtfiodnlgiglhfaaGreatDoor
