/- The document's answer for changed schemas. -/
import Derived.Test.YtfiodnlgiglhfaaGreatDoorV
namespace Go.Proofs.YtfiodnlgiglhfaaGreatDoor
set_option maxRecDepth 100000
set_option maxHeartbeats 16000000
open Go.RowKit Go.Deep
set_option linter.unusedVariables false
structure IC (wo wr:World)(T:Nat)(nm:ByteArray)(u:Value)(E:Nat)(k:Nat)(ds:List D):Prop where
 hb:Bw wo wr
 bx:Blk wr wo.heap.size T [.string nm,u]
 ol:OL wr (wo.heap.size+1) (fun _=>False) E 1 u k ds
theorem IC.stay {wo wr w2:World}{T E k:Nat}{nm:ByteArray}{u:Value}{ds:List D}(h:IC wo wr T nm u E k ds)(hb:Bw wr w2):IC wo w2 T nm u E k ds:=
 ⟨h.hb.trans (hb.mono h.hb.size),h.bx.stay hb,h.ol.stay hb⟩
theorem IC.put {wo wr w1:World}{T E k m:Nat}{nm:ByteArray}{u v:Value}{ds ds':List D}{row:Option Nat}(h:IC wo wr T nm u E k ds)(hg:wr.grownBy w1 row)(hr:∀q,row=some q→wo.heap.size+1≤q)(hO:OL w1 (wo.heap.size+1) (fun _=>False) E 1 v m ds'):
  IC wo (w1.setCell ⟨wo.heap.size,1,none⟩ v) T nm v E m ds':=by
 refine⟨(h.hb.grown hg h.hb.size (fun q hq=>by have:=hr q hq;omega)).setCell nR _,(h.bx.grown hg (fun e=>by have:=hr _ e.symm;omega)).set_ 1 v,hO.setCell (fun e=>by have:=(hO.lt _ e).1;simp at this;omega) (fun h=>h) _⟩
structure PB (w wr:World)(u:Value)(j:Nat)(ds:List D):Prop where
 hb:Bw w wr
 b0:Blk wr w.heap.size 24 [.slice none 0 0]
 b1:Blk wr (w.heap.size+1) 24 [u]
 ol:OL wr (w.heap.size+1+1) (fun b=>w.heap.size+1<b∧b<wr.heap.size) 47 2 u j ds
theorem PB.stay {w wr w2:World}{u:Value}{j:Nat}{ds:List D}(h:PB w wr u j ds)(hb:Bw wr w2):PB w w2 u j ds:=
 ⟨h.hb.trans (hb.mono h.hb.size),h.b0.stay hb,h.b1.stay hb,(h.ol.stay hb).mono fun b h=>⟨h.1,by have:=hb.size;omega⟩⟩
theorem PB.put {w wr w1:World}{u v:Value}{j m:Nat}{ds ds':List D}{row:Option Nat}(h:PB w wr u j ds)(hg:wr.grownBy w1 row)(hr:∀q,row=some q→w.heap.size+1<q)(hO:OL w1 (w.heap.size+1+1) (fun b=>w.heap.size+1<b∧b<w1.heap.size) 47 2 v m ds'):
  PB w (w1.setCell ⟨w.heap.size+1,0,none⟩ v) v m ds':=by
 have hs:(w1.setCell ⟨w.heap.size+1,0,none⟩ v).heap.size=w1.heap.size:=by simp
 refine⟨(h.hb.grown hg h.hb.size (fun q hq=>by have:=hr q hq;omega)).setCell (by show _≤w.heap.size+1;omega) _,(h.b0.grown hg (fun e=>by have:=hr _ e.symm;omega)).far (by show w.heap.size≠w.heap.size+1;omega) _,(h.b1.grown hg (fun e=>by have:=hr _ e.symm;omega)).set_ 0 v,?_⟩;rw[hs];exact hO.setCell (fun e=>by have:=(hO.lt _ e).1;simp at this;omega) (by show¬(w.heap.size+1<w.heap.size+1∧_);omega) _
theorem tdK_next {l:List Kd}{k:Nat}{t:Kd}(h:l[k]? =some t):((l.map tdOf).take (k+1)).flatMap tdD=((l.map tdOf).take k).flatMap tdD++tdD (tdOf t):=by
 rw[zJ,zG,h];simp
theorem fdN_next {l:List Fd}{k:Nat}{t:Fd}(h:l[k]? =some t):((l.map (·.nm)).take (k+1)).flatMap strD=((l.map (·.nm)).take k).flatMap strD++strD t.nm:=by
 rw[zJ,zG,h];simp
def ScPost (T:List Td)(w:World)(e:Ending)(w':World):Prop:=∃v,e=.returned (.agg #[v])∧OL w' w.heap.size (fun b=>w.heap.size≤b∧b<w'.heap.size) 47 2 v T.length (T.flatMap tdD)∧Bw w w'
def SzK (l:List Kd):Prop:=l.length≤1048577∧∀k∈l,k.fs.length≤1048577
namespace evW
open nmW
theorem plain_k (A:Option Addr)(c:Nat)(F:Nat→Prop)(l:List Kd)(hS:SzK l)(w:World)(hF:∀b,F b→b<w.heap.size)(r:Rd w F (.slice A l.length c) (.sl l.length (l.flatMap kdD))):
  Calls Tryz.prog 50 #[.slice A l.length c] w (ScPost (l.map tdOf) w):=by
 obtain⟨hl1,hl2⟩:=hS;replace hl2:=Hd hl2;replace hF:=Hd hF;replace r:=Hd r;go_enter Tryz.func50,Tryz.ntmps50;go_wp2;go_loopw [4] (fun x wr=>∃(j:Nat)(u:Value),j≤l.length∧x=.int .i64 j∧PB w wr u j (((l.map tdOf).take j).flatMap tdD)) (fun x _=>l.length- (intOf x).toNat)
 case atStart=>
  refine⟨0,.slice none 0 0,zE _,rfl,?_,?_,?_,.nil _ _ _ _ _⟩
  ·exact(bA).alloc (by simp) _
  ·exact(Blk.new _ _ _).alloc _
  ·exact Blk.new' (by simp)
 case round=>
  obtain⟨j,s3,hj,rfl,hP⟩:=hrel;by_cases hlt:j<l.length
  ·obtain⟨t,ht⟩:=getx hlt;have hs2:=hl2.out t (zA ht);obtain⟨b,off,rfl,hFb,hv,hsl⟩:=r.out.rowv (m:=3) (fun _=>rfl) ht (by omega);have hfB:=hF.out b hFb;obtain⟨A2,c2,a1,r2⟩:=hsl 2 _ _ rfl;have kc:∀W,Bw w W→W.cell? ⟨b,off+j*3+2,none⟩=some (.slice A2 t.fs.length c2)∧Rd W F (.slice A2 t.fs.length c2) (.sl t.fs.length (t.fs.flatMap fdD)):=fun W hW=>
    ⟨(hW.cell (p:=⟨b,off+j*3+2,none⟩) hfB).trans a1,r2.under hW hF.out⟩
   have v0:wr.cell? ⟨b,off+j*3,none⟩=some (.string t.nm):=(hP.hb.cell (p:=⟨b,off+j*3,none⟩) hfB).trans (hv 0 _ rfl);have g0:(0:Int)≤(j:Int):=by omega
   have g1:(j:Int)<l.length:=by omega
   have hfm:=tdK_next ht;obtain⟨wo,hwo⟩:∃wo:World,wo=wr:=⟨_,rfl⟩
   subst hwo;have hw0:=hP.b1.lt;replace kc:=Hd kc;replace hfm:=Hd hfm;replace hP:=Hd hP;clear hv hsl r2 a1 ht;go_wp2;go_loopw [6] (fun y wr=>∃(k:Nat)(u:Value),k≤t.fs.length∧y=.int .i64 k∧IC wo wr 47 t.nm u 9 k (((t.fs.map (·.nm)).take k).flatMap strD)) (fun y _=>t.fs.length- (intOf y).toNat)
   case atStart=>exact⟨0,.slice none 0 0,zE _,rfl,bA,Blk.new _ _ _,.nil _ _ _ _ _⟩
   case round=>
    obtain⟨k,u,hk,rfl,hI⟩:=hrel;have hPr:=hP.out.stay hI.hb;obtain⟨a1,r3⟩:=kc.out wr hPr.hb;have i2:wr.cell? ⟨wo.heap.size,1,none⟩=some u:=hI.bx.cell 1;clear v0;by_cases hlk:k<t.fs.length
    ·obtain⟨a,ha⟩:=getx hlk;obtain⟨b2,off2,rfl,hFb2,ha2,_⟩:=r3.rowv (m:=3) (fun _=>rfl) ha (by omega);have q0:wr.cell? ⟨b2,off2+k*3,none⟩=some (.string a.nm):=ha2 0 _ rfl;have g2:(0:Int)≤(k:Int):=by omega
     have g3:(k:Int)<t.fs.length:=(by omega);have hfk:=Hd (fdN_next ha);have hz:=hI.bx.lt;have hI':=Hd hI;clear ha2 r3 ha hPr hI;go_upto_region 9 with fail
     go_region_law ((refine step_app (by rfl) (.tmp 30) (.tmp 40) _ (by rfl) (m:=1) (news:=strD a.nm) elStr (by exact(hI'.out.ol.alloc (.cells ⟨[.string a.nm]⟩ 9)).drew) (by rfl) (by rfl) (by exact(Src.lit (show RdL wr _ [.string a.nm] (strD a.nm)from⟨.v _ rfl,trivial⟩)).drew) rfl (by omega) (by omega) (by simp;omega) ?_;intro v' w1 hO1 hg1 ha1;obtain⟨B3,d3,rfl⟩:=hO1.form;have hg:=undrew hg1;have hB:=hI'.out.stay (bX (.cells ⟨[.string a.nm]⟩ 9));have t0:=hB.bx.grown hg (fun e=>by have:=(hI'.out.ol.lt _ e.symm).1;omega);have t1:w1.cell? ⟨wo.heap.size,1,none⟩=some u:=t0.cell 1;have t2:w1.frozen? ⟨wo.heap.size,1,none⟩=false:=t0.frozen 1))
     all_goals
      have hI3:=hB.put hg (fun q hq=>(hI'.out.ol.lt q hq).1) hO1;rw[←hfk.out]at hI3;go_wp2_with fail;go_roundw
      case rel=>exact⟨k+1,_,by omega,by go_num,hI3⟩
      case measure=>simp[intOf];omega
    ·have hkn:k=t.fs.length:=(by omega);subst hkn;have htk:(t.fs.map (·.nm)).take t.fs.length=t.fs.map (·.nm):=xH (by simp);rw[htk]at hI;obtain⟨U,cu,rfl⟩:=hI.ol.form;have i0:wr.cell? ⟨wo.heap.size,0,none⟩=some (.string t.nm):=hI.bx.cell 0;have hz:=hI.bx.lt;have hlow:∀q,s3.ownBlock=some q→w.heap.size+1<q∧q<wo.heap.size:=fun q hq=>hP.out.ol.lt q hq
     have hRL:RdL wr (fun b=>(w.heap.size+1<b∧b<wr.heap.size)∧some b≠s3.ownBlock) [.string t.nm,.slice U t.fs.length cu] (tdD (tdOf t)):=by
      refine⟨.v _ rfl,?_,trivial⟩;show Rd _ _ _ (.sl (t.fs.map (·.nm)).length _)
      rw[xC];exact hI.ol.rd' (fun _ h _=>h.elim) (fun b hb h1 h2=>⟨⟨by omega,h2⟩,fun e=>by have:=hlow b e.symm;omega⟩)
     have z1:wr.cell? ⟨w.heap.size+1,0,none⟩=some s3:=hPr.b1.cell 0;replace hRL:=Hd hRL;have hI':=Hd hI;replace hPr:=Hd hPr;clear hI r3 htk;go_wp2_with (at_builtin;refine wpa rfl (.tmp 44) (.tmp 46) _ rfl (m:=1) (news:=tdD (tdOf t)) elTd (hPr.out.ol.alloc (.cells ⟨[.string t.nm,.slice U t.fs.length cu]⟩ 47)) rfl rfl (Src.lit hRL.out) rfl (by omega) (by omega) (by simp;omega) ?_;intro v' w1 hO1 hg1 ha1;obtain⟨B3,d3,rfl⟩:=hO1.form;have hB:=hPr.out.stay (bX (.cells ⟨[.string t.nm,.slice U t.fs.length cu]⟩ 47));have t0:=hB.b1.grown hg1 (fun e=>by have:=hlow _ e.symm;omega);have t1:w1.cell? ⟨w.heap.size+1,0,none⟩=some s3:=t0.cell 0;have t2:w1.frozen? ⟨w.heap.size+1,0,none⟩=false:=t0.frozen 0);have hP3:=hB.put hg1 (fun q hq=>(hlow q hq).1) (hO1.mono fun b h=>by have:=hg1.size;simp at this;omega);rw[←hfm.out]at hP3;go_roundw
     case rel=>exact⟨j+1,_,by omega,by go_num,hP3⟩
     case measure=>simp[intOf];omega
  ·have hjn:j=l.length:=by omega
   subst hjn;have htk:(l.map tdOf).take l.length=l.map tdOf:=xH (by simp);rw[htk]at hP;obtain⟨U,cu,rfl⟩:=hP.ol.form;have z1:wr.cell? ⟨w.heap.size+1,0,none⟩=some (.slice U l.length cu):=hP.b1.cell 0;have p0:wr.cell? ⟨w.heap.size,0,none⟩=some (.slice none 0 0):=hP.b0.cell 0;have f0:wr.frozen? ⟨w.heap.size,0,none⟩=false:=hP.b0.frozen 0;have e1:Blk (wr.setCell ⟨w.heap.size,0,none⟩ (.slice U l.length cu)) w.heap.size 24 [.slice U l.length cu]:=hP.b0.set_ 0 _;have e2:OL (wr.setCell ⟨w.heap.size,0,none⟩ (.slice U l.length cu)) w.heap.size (fun b=>w.heap.size≤b∧b<(wr.setCell ⟨w.heap.size,0,none⟩ (.slice U l.length cu)).heap.size) 47 2 (.slice U l.length cu) (l.map tdOf).length ((l.map tdOf).flatMap tdD):=by
    rw[xC,show(wr.setCell ⟨w.heap.size,0,none⟩ (.slice U l.length cu)).heap.size=wr.heap.size by simp];exact((hP.ol.setCell (p:=⟨w.heap.size,0,none⟩) (fun e=>by have:=(hP.ol.lt _ e).1;simp at this;omega) (by show¬(_<w.heap.size∧_);omega) _).base (by omega)).mono fun b h=>⟨by omega,h.2⟩
   have e3:=Hd (hP.hb.setCell (p:=⟨w.heap.size,0,none⟩) (by simp) (.slice U l.length cu));replace e1:=Hd e1;replace e2:=Hd e2;clear hP htk;go_wp2;exact bpa rfl e1.out aggSc rfl rfl ⟨_,rfl,e2.out,e3.out⟩
end evW
def mp (f:Kd→List Kd):List Kd→Nat→List Kd
 | [],_=>[]
 |x::r,0=>f x++r
 |x::r,i+1=>x::mp f r i
theorem mp_take (f:Kd→List Kd){l:List Kd}{j i:Nat}{x:Kd}(h:l[j]? =some x):mp f (l.take (j+1)) i=mp f (l.take j) i++(if j=i then f x else [x]):=by
 induction l generalizing i j with
 |nil=>simp at h
 |cons a l ih=>
  cases j with
  |zero=>
   simp only[zY,Option.some.injEq]at h;subst h;cases i with
   |zero=>simp[mp]
   |succ i=>simp[mp]
  |succ j=>
   simp only[xA]at h;rw[List.take_succ_cons,List.take_succ_cons];cases i with
   |zero=>simp[mp,zJ,h]
   |succ i=>simp[mp,ih h]
theorem mp_len (f:Kd→List Kd)(hf:∀x,(f x).length≤1)(l:List Kd)(i:Nat):(mp f l i).length≤l.length:=by
 induction l generalizing i with
 |nil=>simp[mp]
 |cons a l ih=>
  cases i with
  |zero=>have:=hf a;simp[mp];omega
  |succ i=>have:=ih i;simp[mp];omega
theorem mp_erase {f:Kd→List Kd}{l:List Kd}{i:Nat}{x:Kd}(h:l[i]? =some x)(hf:f x=[]):mp f l i=l.eraseIdx i:=by
 induction l generalizing i with
 |nil=>simp at h
 |cons a l ih=>
  cases i with
  |zero=>simp only[zY,Option.some.injEq]at h;subst h;simp[mp,hf]
  |succ i=>simp only[xA]at h;simp[mp,ih h]
theorem mp_set {f:Kd→List Kd}{l:List Kd}{i:Nat}{x y:Kd}(h:l[i]? =some x)(hf:f x=[y]):mp f l i=l.set i y:=by
 induction l generalizing i with
 |nil=>simp at h
 |cons a l ih=>
  cases i with
  |zero=>simp only[zY,Option.some.injEq]at h;subst h;simp[mp,hf]
  |succ i=>simp only[xA]at h;simp[mp,ih h]
theorem mp_id {f:Kd→List Kd}(hf:∀x,f x=[x])(l:List Kd)(i:Nat):mp f l i=l:=by
 induction l generalizing i with
 |nil=>simp[mp]
 |cons a l ih=>cases i<;>simp[mp,hf,ih]
def fK (c:Cg)(x:Kd):List Kd:=if c.kd=2 then []else if c.kd=3 then [{x with nm:=c.nm}]else if 4≤c.kd then(match chF x.fs c with |some fs=>[{x with fs:=fs}]|none=>[x])else [x]
theorem fK_len (c:Cg)(x:Kd):(fK c x).length≤1:=by
 unfold fK;split
 ·simp
 ·split
  ·simp
  ·split
   ·split<;>simp
   ·simp
theorem chK_1 {l:List Kd}{c:Cg}(h:c.kd=1):chK l c=some (l++[addK c]):=if_pos h
theorem chK_bad {l:List Kd}{c:Cg}(h:c.kd<1∨7<c.kd):chK l c=none:=by
 unfold chK;rw[if_neg (by omega),if_neg (by omega)]
theorem chK_no {l:List Kd}{c:Cg}(h:c.kd≠1)(ht:tyAt l c.ty=none):chK l c=none:=by
 unfold chK;rw[if_neg h];split
 ·rw[ht]
 ·rfl
theorem chK_mp {l:List Kd}{c:Cg}{i:Nat}{x:Kd}(h2:2≤c.kd)(h7:c.kd≤7)(ht:tyAt l c.ty=some i)(hx:l[i]? =some x)(hok:4≤c.kd→chF x.fs c≠none):chK l c=some (mp (fK c) l i):=by
 unfold chK;rw[if_neg (by omega),if_pos ⟨h2,h7⟩,ht];show(if _ then _ else if _ then _ else _)=_
 by_cases e2:c.kd=2
 ·rw[if_pos e2,mp_erase hx (by unfold fK;rw[if_pos e2])]
 ·rw[if_neg e2];by_cases e3:c.kd=3
  ·rw[if_pos e3,mp_set hx (y:={x with nm:=c.nm}) (by unfold fK;rw[if_neg e2,if_pos e3]),mod_set hx]
  ·rw[if_neg e3,hx];have h4:4≤c.kd:=by omega
   cases hc:chF x.fs c with
   |none=>exact absurd hc (hok h4)
   |some fs=>rw[mp_set hx (y:={x with fs:=fs}) (by unfold fK;rw[if_neg e2,if_neg e3,if_pos h4,hc])];show Option.map _ (chF x.fs c)=_;rw[hc];rfl
theorem chK_none {l:List Kd}{c:Cg}{i:Nat}{x:Kd}(h2:4≤c.kd)(ht:tyAt l c.ty=some i)(hx:l[i]? =some x)(hok:chF x.fs c=none):chK l c=none:=by
 unfold chK;rw[if_neg (by omega)];split
 ·rw[ht];show(if _ then _ else if _ then _ else _)=_
  rw[if_neg (by omega),if_neg (by omega),hx];show Option.map _ (chF x.fs c)=_
  rw[hok];rfl
 ·rfl
structure BX (w wr:World)(T:Nat)(cs:List Value):Prop where
 hb:Bw w wr
 bx:Blk wr w.heap.size T cs
theorem BX.stay {w wr w2:World}{T:Nat}{cs:List Value}(h:BX w wr T cs)(hb:Bw wr w2):BX w w2 T cs:=⟨h.hb.trans (hb.mono h.hb.size),h.bx.stay hb⟩
theorem BX.grown {w wr w1:World}{T:Nat}{cs:List Value}{row:Option Nat}(h:BX w wr T cs)(hg:wr.grownBy w1 row)(hr:∀q,row=some q→w.heap.size<q):BX w w1 T cs:=
 ⟨h.hb.grown hg h.hb.size (fun q hq=>by have:=hr q hq;omega),h.bx.grown hg (fun e=>by have:=hr _ e.symm;omega)⟩
def ChPost (l:List Kd)(c:Cg)(w:World)(e:Ending)(w':World):Prop:=∃v b,e=.returned (.tuple #[v,.bool b])∧
 (∀l',chK l c=some l'→b=true∧Rd w' (fun b=>b<w'.heap.size) v (.sl l'.length (l'.flatMap kdD)))∧(chK l c=none→b=false)∧Bw w w'
theorem ChPost.mk_some {l l':List Kd}{c:Cg}{w w':World}{v:Value}(h:chK l c=some l')(hO:Rd w' (fun b=>b<w'.heap.size) v (.sl l'.length (l'.flatMap kdD)))(hb:Bw w w'):ChPost l c w (.returned (.tuple #[v,.bool true])) w':=
 ⟨v,true,rfl,fun fs' h'=>by rw[h]at h';injection h' with h';subst h';exact⟨rfl,hO⟩,fun h'=>(by rw[h]at h';cases h'),hb⟩
theorem ChPost.mk_none {l:List Kd}{c:Cg}{w w':World}{v:Value}(h:chK l c=none)(hb:Bw w w'):ChPost l c w (.returned (.tuple #[v,.bool false])) w':=
 ⟨v,false,rfl,fun fs' h'=>(by rw[h]at h';cases h'),fun _=>rfl,hb⟩
theorem kd_rdl {W:World}{G:Nat→Prop}{A:Option Addr}{n c:Nat}{x:Kd}(hn:x.fs.length=n)(h:Rd W G (.slice A n c) (.sl x.fs.length (x.fs.flatMap fdD))):RdL W G [.string x.nm,.int .i64 x.fr,.slice A n c] (kdD x):=⟨.v _ rfl,.v _ rfl,h,trivial⟩
theorem Src.lit' {w:World}{G:Nat→Prop}{cs:List Value}{t g:Nat}{ds:List D}(hg:w.heap.size=g)(h:RdL w G cs ds):Src (w.alloc (.cells ⟨cs⟩ t)) (some ⟨g,0,none⟩) ds G:=by subst hg;exact Src.lit h
theorem fK_plain {c:Cg}(h:c.kd=1)(x:Kd):fK c x=[x]:=by unfold fK;rw[if_neg (by omega),if_neg (by omega),if_neg (by omega)]
theorem fK_2 {c:Cg}(h:c.kd=2)(x:Kd):fK c x=[]:=by unfold fK;rw[if_pos h]
theorem fK_3 {c:Cg}(h:c.kd=3)(x:Kd):fK c x=[{x with nm:=c.nm}]:=by unfold fK;rw[if_neg (by omega),if_pos h]
theorem fK_4 {c:Cg}(h:4≤c.kd){x:Kd}{fs:List Fd}(hc:chF x.fs c=some fs):fK c x=[{x with fs:=fs}]:=by unfold fK;rw[if_neg (by omega),if_neg (by omega),if_pos h,hc]
structure CL (w wr:World)(c:Cg)(B:Option Addr)(d:Nat)(l:List Kd)(i:Nat)(v:Value)(j:Nat):Prop where
 bx:BX w wr 51 (cgC c B d)
 ol:OL wr (w.heap.size+1) (fun b=>b<wr.heap.size) 156 3 v (mp (fK c) (l.take j) i).length ((mp (fK c) (l.take j) i).flatMap kdD)
theorem CL.split {w wr:World}{c:Cg}{B:Option Addr}{d:Nat}{l:List Kd}{i j:Nat}{v:Value}(h:CL w wr c B d l i v j):∃n6,n6=(mp (fK c) (l.take j) i).length∧OL wr (w.heap.size+1) (fun b=>b<wr.heap.size) 156 3 v n6 ((mp (fK c) (l.take j) i).flatMap kdD):=⟨_,rfl,h.ol⟩
theorem CL.next {w wo W w1:World}{c:Cg}{B:Option Addr}{d:Nat}{l:List Kd}{i j:Nat}{v v':Value}{x y:Kd}{o:Obj}(h:CL w wo c B d l i v j)(hW:Bw wo W)(hx:l[j]? =some x)(hy:j=i∧fK c x=[y]∨j≠i∧y=x)
  (hg:(W.alloc o).grownBy w1 v.ownBlock){n6:Nat}(hn:n6=(mp (fK c) (l.take j) i).length)(hO:OL w1 (w.heap.size+1) (fun b=>b<W.heap.size) 156 3 v' (n6+1) ((mp (fK c) (l.take j) i).flatMap kdD++kdD y)):CL w w1 c B d l i v' (j+1):=by
 subst hn;refine⟨((h.bx.stay hW).stay ((bR).alloc nR o)).grown hg (fun q hq=>(h.ol.lt q hq).1),?_⟩;have hy':(if j=i then fK c x else [x])=[y]:=by
  rcases hy with⟨h1,h2⟩|⟨h1,h2⟩
  ·rw[if_pos h1,h2]
  ·rw[if_neg h1,h2]
 rw[mp_take _ hx,hy',zH,xD];have:=hO.mono (G:=fun b=>b<w1.heap.size) fun b h=>by have:=hg.size;simp at this;omega
 simpa using this
theorem CL.skip {w wo W:World}{c:Cg}{B:Option Addr}{d:Nat}{l:List Kd}{i j:Nat}{v:Value}{x:Kd}(h:CL w wo c B d l i v j)(hW:Bw wo W)(hx:l[j]? =some x)(hj:j=i)(hy:fK c x=[]):CL w W c B d l i v (j+1):=by
 refine⟨h.bx.stay hW,?_⟩;rw[mp_take _ hx,if_pos hj,hy,zT];exact(h.ol.stay hW).mono fun b hb=>by have:=hW.size;omega
theorem new_rd {wo w':World}{o:Obj}{v u:Value}{T n B:Nat}{ds:List D}(h:OL w' (wo.alloc o).heap.size (fun _=>False) T 3 v n ds)(hlow:∀q,u.ownBlock=some q→B<q∧q<wo.heap.size){x:Value}:
  Rd (w'.setCell ⟨wo.heap.size,2,none⟩ x) (fun b=>b<(w'.setCell ⟨wo.heap.size,2,none⟩ x).heap.size∧some b≠u.ownBlock) v (.sl n ds):=by
 have h1:=h.setCell (p:=⟨wo.heap.size,2,none⟩) (fun e=>by have:=(h.lt _ e).1;simp at this;omega) (fun h=>h) x;exact h1.rd' (fun _ h _=>h.elim) (fun b hb h1 h2=>⟨h2,fun e=>by have:=(hlow b e.symm).2;simp at h1;omega⟩)
theorem ad_next {l:List ByteArray}{k:Nat}{a:ByteArray}(h:l[k]? =some a):((l.map fun a=>(⟨a,-1,0⟩:Fd)).take (k+1)).flatMap fdD=((l.map fun a=>(⟨a,-1,0⟩:Fd)).take k).flatMap fdD++fdD ⟨a,-1,0⟩:=by
 rw[zJ,zG,h];simp
def CRel (w:World)(c:Cg)(B:Option Addr)(d:Nat)(l:List Kd)(i:Nat)(v x:Value)(wr:World):Prop:=
 ∃j:Nat,j≤l.length∧x=.int .i64 j∧CL w wr c B d l i v j∧(4≤c.kd→i<j→∀x,l[i]? =some x→chF x.fs c≠none)
theorem CRel.mk {w wr:World}{c:Cg}{B:Option Addr}{d:Nat}{l:List Kd}{i:Nat}{v x:Value}(j:Nat)(h1:j≤l.length)(h2:x=.int .i64 j)(h3:CL w wr c B d l i v j)(h4:4≤c.kd→i<j→∀x,l[i]? =some x→chF x.fs c≠none):CRel w c B d l i v x wr:=⟨j,h1,h2,h3,h4⟩
namespace evW
open nmW
theorem change_k (A B:Option Addr)(ca d:Nat)(F G:Nat→Prop)(l:List Kd)(c:Cg)(hl:l.length≤1048576)(hl2:∀k∈l,k.fs.length≤1048576)(hc1:c.ats.length≤1048576)(w:World)(hF:∀b,F b→b<w.heap.size)(hG:∀b,G b→b<w.heap.size)
  (r:Rd w F (.slice A l.length ca) (.sl l.length (l.flatMap kdD)))(rc:Rd w G (.slice B c.ats.length d) (.sl c.ats.length (c.ats.flatMap strD))):
  Calls Tryz.prog 49 #[.slice A l.length ca,.agg #[.int .i64 c.kd,.string c.ty,.string c.at_,.string c.nm,.slice B c.ats.length d,.int .i64 c.n]] w (ChPost l c w):=by
 have kt:∀W,Bw w W→Calls Tryz.prog 97 #[.slice A l.length ca,.string c.ty] W fun e w'=>e=.returned (.int .i64 (optI (tyAt l c.ty)))∧w'=W:=fun W hW=>typeAt_k A ca F l c.ty hl W (r.under hW hF)
 have ka:∀W x V cv,x∈l→4≤c.kd→c.kd≤7→Bw w W→Rd W F (.slice V x.fs.length cv) (.sl x.fs.length (x.fs.flatMap fdD))→Calls Tryz.prog 98 #[.slice V x.fs.length cv,.agg #[.int .i64 c.kd,.string c.ty,.string c.at_,.string c.nm,.slice B c.ats.length d,.int .i64 c.n]] W (AtPost x.fs c W):=fun W x V cv hx h4 h7 hW hr=>
  attrs_k V B cv d F x.fs c h4 h7 (hl2 x hx) W (fun b h=>zF (hF b h) hW.size) hr
 have h0:Bw w (w.alloc (.cells ⟨cgC c B d⟩ 51)):=bA;have y0:(w.alloc (.cells ⟨cgC c B d⟩ 51)).cell? ⟨w.heap.size,0,none⟩=some (.int .i64 c.kd):=(Blk.new _ _ _).cell 0;have y1:(w.alloc (.cells ⟨cgC c B d⟩ 51)).cell? ⟨w.heap.size,1,none⟩=some (.string c.ty):=(Blk.new _ _ _).cell 1;have hX0:BX w (w.alloc (.cells ⟨cgC c B d⟩ 51)) 51 (cgC c B d):=⟨h0,Blk.new _ _ _⟩;by_cases hbad:c.kd<1∨7<c.kd
 ·have hch:=Hd (chK_bad (l:=l) hbad);replace kt:=Hd kt;replace h0:=Hd h0;replace hX0:=Hd hX0;rcases hbad with hlo |hhi
  ·have hd:decide (c.kd<1)=true:=zW hlo;clear ka hl2 hF hG r rc;go_enter Tryz.func49,Tryz.ntmps49;go_wp2_with (go_at_call 97;refine(kt.out _ h0.out).mono ?_;rintro e w' ⟨rfl,rfl⟩);go_ret2;exact ChPost.mk_none hch.out h0.out
  ·have hd:decide (c.kd<1)=false:=zV (by omega);have hd2:decide (7<c.kd)=true:=zW hhi;clear ka hl2 hF hG r rc;go_enter Tryz.func49,Tryz.ntmps49;go_wp2_with (go_at_call 97;refine(kt.out _ h0.out).mono ?_;rintro e w' ⟨rfl,rfl⟩);go_ret2;exact ChPost.mk_none hch.out h0.out
 ·have hd:decide (c.kd<1)=false:=zV (by omega);have hd2:decide (7<c.kd)=false:=zV (by omega);by_cases hno:c.kd≠1∧tyAt l c.ty=none
  ·have hch:=chK_no hno.1 hno.2;rw[hno.2,show optI none= -1 from rfl]at kt;have hne:=hno.1;replace kt:=Hd kt;replace h0:=Hd h0;replace hch:=Hd hch;replace hX0:=Hd hX0;clear ka hl2 hF hG r rc hno hbad;go_enter Tryz.func49,Tryz.ntmps49;go_wp2_with (go_at_call 97;refine(kt.out _ h0.out).mono ?_;rintro e w' ⟨rfl,rfl⟩);go_ret2;exact ChPost.mk_none hch.out h0.out
  ·obtain⟨i,hi⟩:∃i,i=(tyAt l c.ty).getD l.length:=⟨_,rfl⟩
   have ha:∀j,j<l.length→((j:Int)=optI (tyAt l c.ty)↔j=i):=fun j hj=>by
    rw[hi];cases tyAt l c.ty with
    |none=>simp[optI];omega
    |some q=>simp[optI];omega
   have ha2:optI (tyAt l c.ty)<0→c.kd=1:=fun h=>by
    apply Classical.byContradiction;intro h1;refine hno ⟨h1,?_⟩;cases e:tyAt l c.ty with
    |none=>rfl
    |some q=>rw[e]at h;simp[optI]at h;omega
   have hty:c.kd≠1→tyAt l c.ty=some i∧i<l.length:=fun h1=>by
    cases e:tyAt l c.ty with
    |none=>exact absurd ⟨h1,e⟩ hno
    |some q=>rw[e]at hi;subst hi;exact⟨rfl,tyAt_lt e⟩
   generalize optI (tyAt l c.ty)=a at*;replace kt:=Hd kt;replace ka:=Hd ka;replace h0:=Hd h0;replace hX0:=Hd hX0;replace ha:=Hd ha;replace ha2:=Hd ha2;replace hty:=Hd hty;replace hl2:=Hd hl2;replace hF:=Hd hF;replace hG:=Hd hG;replace r:=Hd r;replace rc:=Hd rc;have hkd1:1≤c.kd:=by omega
   have hkd7:c.kd≤7:=by omega
   clear hno hi hbad;have hgo:decide (a<0)=false∨decide (a<0)=true∧(c.kd==1)=true:=by
    by_cases h:a<0
    ·exact .inr ⟨zW h,by have:=ha2.out h;simpa using this⟩
    ·exact .inl (zV h)
   replace hgo:=Hd hgo;go_enter Tryz.func49,Tryz.ntmps49;go_upto_region 3 with(go_at_call 97;refine(kt.out _ h0.out).mono ?_;rintro e w' ⟨rfl,rfl⟩)
   go_cut [34] (fun t wx=>t=.bool false∧wx=w.alloc (.cells ⟨cgC c B d⟩ 51))
   case first=>
    rcases hgo.out with h |⟨h,h'⟩
    ·have h2:¬a<0:=(by simpa using h);go_wp2_with fail
     all_goals(go_meet;exact⟨rfl,rfl⟩)
    ·have h2:a<0:=(by simpa using h);have h3:=ha2.out h2;go_wp2_with fail
     all_goals(go_meet;exact⟨rfl,rfl⟩)
   case rest=>
    obtain⟨rfl,rfl⟩:=hcut;clear hgo ha2;go_wp2;go_loopw [6,8] (fun v x wr=>CRel w c B d l i v x wr) (fun _ x _=>l.length- (intOf x).toNat)
    case atStart=>
     refine CRel.mk 0 (zE _) rfl ⟨hX0.out,?_⟩ (fun _ h=>by omega);show OL _ _ _ _ _ _ (mp (fK c) [] i).length ((mp (fK c) [] i).flatMap kdD)
     rw[show mp (fK c) [] i=[] by simp[mp]];exact .nil _ _ _ _ _
    case round=>
     obtain⟨j,hj,rfl,hC,hz⟩:=hrel;obtain⟨n6,hn6,hol⟩:=hC.split;obtain⟨U6,c6,rfl⟩:=hol.form;replace hz:=Hd hz;have hml:=mp_len (fK c) (fK_len c) (l.take j) i;rw[zO,Nat.min_eq_left hj,←hn6]at hml;have e0:wr.cell? ⟨w.heap.size,0,none⟩=some (.int .i64 c.kd):=hC.bx.bx.cell 0;have e1:wr.cell? ⟨w.heap.size,1,none⟩=some (.string c.ty):=hC.bx.bx.cell 1;have e3:wr.cell? ⟨w.heap.size,3,none⟩=some (.string c.nm):=hC.bx.bx.cell 3;clear y0 y1;by_cases hlt:j<l.length
     ·obtain⟨x,hx⟩:=getx hlt;have hxl:=hl2.out x (zA hx);obtain⟨b,off,rfl,hFb,hv,hsl⟩:=r.out.rowv (m:=3) (fun _=>rfl) hx (by omega);have hfB:=hF.out b hFb;obtain⟨A2,c2,a1,r2⟩:=hsl 2 _ _ rfl;have v0:wr.cell? ⟨b,off+j*3,none⟩=some (.string x.nm):=(hC.bx.hb.cell (p:=⟨b,off+j*3,none⟩) hfB).trans (hv 0 _ rfl);have v1:wr.cell? ⟨b,off+j*3+1,none⟩=some (.int .i64 x.fr):=(hC.bx.hb.cell (p:=⟨b,off+j*3+1,none⟩) hfB).trans (hv 1 _ rfl);have v2:wr.cell? ⟨b,off+j*3+2,none⟩=some (.slice A2 x.fs.length c2):=(hC.bx.hb.cell (p:=⟨b,off+j*3+2,none⟩) hfB).trans a1;have g0:(0:Int)≤(j:Int):=by omega
      have g1:(j:Int)<l.length:=(by omega);have hw0:=hC.bx.bx.lt;have hlow:∀q,(Value.slice U6 n6 c6).ownBlock=some q→w.heap.size<q∧q<wr.heap.size:=fun q hq=>hol.lt q hq
      have hold:∀W,Bw wr W→Rd W (fun b=>b<W.heap.size∧some b≠(Value.slice U6 n6 c6).ownBlock) (.slice A2 x.fs.length c2) (.sl x.fs.length (x.fs.flatMap fdD)):=fun W hW=>by
       have hWw:=hC.bx.hb.trans (hW.mono hC.bx.hb.size);exact(r2.under hWw hF.out).mono fun b hb h=>⟨h,fun e=>by have:=hF.out b hb;have:=(hlow b e.symm).1;omega⟩
      have hO:∀W,Bw wr W→OL W (w.heap.size+1) (fun b=>b<W.heap.size) 156 3 (.slice U6 n6 c6) n6 ((mp (fK c) (l.take j) i).flatMap kdD):=fun W hW=>(hol.stay hW).mono fun b h=>by have:=hW.size;omega
      obtain⟨wo,hwo⟩:∃wo:World,wo=wr:=⟨_,rfl⟩
      subst hwo;have hbox:Bw wo (wo.alloc (.cells ⟨[.string x.nm,.int .i64 x.fr,.slice A2 x.fs.length c2]⟩ 156)):=bA;have hxa:=fun W V cv=>ka.out W x V cv (zA hx)
      replace hxa:=Hd hxa;replace hold:=Hd hold;replace hO:=Hd hO;replace hC:=Hd hC;replace hol:=Hd hol;have hx':=Hd hx;replace hn6:=Hd hn6;replace hbox:=Hd hbox;clear hv hsl a1 hx;by_cases hji:j=i
      ·have hje:((j:Int)==a)=true:=(by simpa using (ha.out j hlt).2 hji);replace hji:=Hd hji;by_cases k1:c.kd=1
       ·have hy:=Hd (fK_plain k1 x);have d2:(c.kd==2)=false:=by simp[k1]
        have d3:(c.kd==3)=false:=(by simp[k1]);have d4:decide (c.kd≥4)=false:=zV (by omega);have d4':decide (4≤c.kd)=false:=zV (by omega);replace k1:=Hd k1;clear r2;go_wp2_with (at_builtin;refine wpa rfl (.tmp 83) (.tmp 85) _ rfl (m:=1) (news:=kdD x) elKd ((hO.out _ hbox.out).alloc (.cells ⟨[.string x.nm,.int .i64 x.fr,.slice A2 x.fs.length c2]⟩ 156)) rfl rfl (Src.lit' (by simp) (kd_rdl (x:=x) rfl (hold.out _ hbox.out))) rfl (by omega) (by omega) (by simp;omega) ?_;intro v' w1 hO1 hg1 ha1);go_roundw
        case rel=>exact CRel.mk (j+1) (by omega) (by go_num) (hC.out.next hbox.out hx'.out (.inl ⟨hji.out,hy.out⟩) hg1 hn6.out hO1) (fun h4 h5=>by have:=k1.out;omega)
        case measure=>simp[intOf];omega
       ·have d1:(c.kd==1)=false:=(by simpa using k1);by_cases k2:c.kd=2
        ·have hy:=Hd (fK_2 k2 x);have d2:(c.kd==2)=true:=by simpa using k2
         replace k2:=Hd k2;clear r2;go_wp2;go_roundw
         case rel=>exact CRel.mk (j+1) (by omega) (by go_num) (hC.out.skip hbox.out hx'.out hji.out hy.out) (fun h4 h5=>by have:=k2.out;omega)
         case measure=>simp[intOf];omega
        ·have d2:(c.kd==2)=false:=(by simpa using k2);by_cases k3:c.kd=3
         ·have hy:=Hd (fK_3 k3 x);have d3:(c.kd==3)=true:=by simpa using k3
          have d4:decide (c.kd≥4)=false:=zV (by omega);have d4':decide (4≤c.kd)=false:=zV (by omega);replace k3:=Hd k3;have hbox3:=Hd (show Bw wo (wo.alloc (.cells ⟨[.string c.nm,.int .i64 x.fr,.slice A2 x.fs.length c2]⟩ 156))from bA);clear r2;go_wp2_with (at_builtin;refine wpa rfl (.tmp 83) (.tmp 85) _ rfl (m:=1) (news:=kdD {x with nm:=c.nm}) elKd ((hO.out _ hbox3.out).alloc (.cells ⟨[.string c.nm,.int .i64 x.fr,.slice A2 x.fs.length c2]⟩ 156)) rfl rfl (Src.lit' (by simp) (kd_rdl (x:={x with nm:=c.nm}) rfl (hold.out _ hbox3.out))) rfl (by omega) (by omega) (by simp;omega) ?_;intro v' w1 hO1 hg1 ha1);go_roundw
          case rel=>exact CRel.mk (j+1) (by omega) (by go_num) (hC.out.next hbox3.out hx'.out (.inl ⟨hji.out,hy.out⟩) hg1 hn6.out hO1) (fun h4 h5=>by have:=k3.out;omega)
          case measure=>simp[intOf];omega
         ·have d3:(c.kd==3)=false:=(by simpa using k3);have k4:4≤c.kd:=by omega
          have d4:decide (c.kd≥4)=true:=zW k4;have d4':decide (4≤c.kd)=true:=zW k4;have e2:wo.cell? ⟨w.heap.size,2,none⟩=some (.string c.at_):=hC.out.bx.bx.cell 2;have e4:wo.cell? ⟨w.heap.size,4,none⟩=some (.slice B c.ats.length d):=hC.out.bx.bx.cell 4;have e5:wo.cell? ⟨w.heap.size,5,none⟩=some (.int .i64 c.n):=hC.out.bx.bx.cell 5;have hxk:Calls Tryz.prog 98 #[.slice A2 x.fs.length c2,.agg #[.int .i64 c.kd,.string c.ty,.string c.at_,.string c.nm,.slice B c.ats.length d,.int .i64 c.n]] (wo.alloc (.cells ⟨[.string x.nm,.int .i64 x.fr,.slice A2 x.fs.length c2]⟩ 156)) (AtPost x.fs c (wo.alloc (.cells ⟨[.string x.nm,.int .i64 x.fr,.slice A2 x.fs.length c2]⟩ 156))):=by
           have hWw:=hC.out.bx.hb.trans (hbox.out.mono hC.out.bx.hb.size);exact hxa.out _ _ _ k4 hkd7 hWw (r2.under hWw hF.out)
          have hBx:=Hd (show Blk (wo.alloc (.cells ⟨[.string x.nm,.int .i64 x.fr,.slice A2 x.fs.length c2]⟩ 156)) wo.heap.size 156 [.string x.nm,.int .i64 x.fr,.slice A2 x.fs.length c2] from Blk.new _ _ _);have hty1:=Hd (hty.out k1);replace hxk:=Hd hxk;clear r2 hxa;cases hcf:chF x.fs c with
          |none=>
           have hch:=Hd (show chK l c=none from chK_none k4 hty1.out.1 (hji.out▸hx'.out) hcf);replace hcf:=Hd hcf;go_wp2_with (go_at_call 98;refine hxk.out.mono ?_;rintro e w' ⟨v,b,rfl,_,hb0,hB1⟩;obtain rfl:=hb0 hcf.out;clear hb0);go_ret2;exact ChPost.mk_none hch.out ((hC.out.bx.hb.trans (hbox.out.mono hC.out.bx.hb.size)).trans (hB1.mono (by have:=hw0;simp;omega)))
          |some fs=>
           have hy:=Hd (fK_4 k4 hcf);replace hcf:=Hd hcf;go_wp2_with (first
            |(go_at_call 98;refine hxk.out.mono ?_;rintro e w' ⟨v,b,rfl,hs0,_,hB1⟩;obtain⟨rfl,hOf⟩:=hs0 fs hcf.out;clear hs0;obtain⟨A3,c3,rfl⟩:=hOf.form;have hz9:wo.heap.size+1≤w'.heap.size:=(by have:=hB1.size;simpa using this);have t0:=hBx.out.stay hB1;have t1:w'.frozen? ⟨wo.heap.size,2,none⟩=false:=t0.frozen 2;have t2:w'.cell? ⟨wo.heap.size,0,none⟩=some (.string x.nm):=t0.cell 0;have t3:w'.cell? ⟨wo.heap.size,1,none⟩=some (.int .i64 x.fr):=t0.cell 1;have t4:w'.cell? ⟨wo.heap.size,2,none⟩=some (.slice A2 x.fs.length c2):=t0.cell 2;have hB2:Bw wo (w'.setCell ⟨wo.heap.size,2,none⟩ (.slice A3 fs.length c3)):=(hbox.out.trans (hB1.mono hbox.out.size)).setCell nR _;replace hB2:=Hd hB2;replace hOf:=Hd hOf)
            |(at_builtin;refine wpa rfl (.tmp 83) (.tmp 85) _ rfl (m:=1) (news:=kdD {x with fs:=fs}) elKd ((hO.out _ hB2.out).alloc (.cells ⟨[.string x.nm,.int .i64 x.fr,.slice A3 fs.length c3]⟩ 156)) rfl rfl (Src.lit' (by simp) (kd_rdl (x:={x with fs:=fs}) rfl (new_rd hOf.out hlow))) rfl (by omega) (by omega) (by simp;omega) ?_;intro v' w1 hO1 hg1 ha1))
           go_roundw
           case rel=>exact CRel.mk (j+1) (by omega) (by go_num) (hC.out.next hB2.out hx'.out (.inl ⟨hji.out,hy.out⟩) hg1 hn6.out hO1) (fun h4 h5 x' hx2=>by rw[←hji.out,hx'.out]at hx2;injection hx2 with hx2;subst hx2;rw[hcf.out];simp)
           case measure=>simp[intOf];omega
      ·have hja:¬(j:Int)=a:=fun e=>hji ((ha.out j hlt).1 e)
       clear r2;go_wp2_with (at_builtin;refine wpa rfl (.tmp 83) (.tmp 85) _ rfl (m:=1) (news:=kdD x) elKd ((hO.out _ hbox.out).alloc (.cells ⟨[.string x.nm,.int .i64 x.fr,.slice A2 x.fs.length c2]⟩ 156)) rfl rfl (Src.lit' (by simp) (kd_rdl rfl (hold.out _ hbox.out))) rfl (by omega) (by omega) (by simp;omega) ?_;intro v' w1 hO1 hg1 ha1);go_roundw
       case rel=>exact CRel.mk (j+1) (by omega) (by go_num) (hC.out.next hbox.out hx'.out (.inr ⟨hji,rfl⟩) hg1 hn6.out hO1) (fun h4 h5=>hz.out h4 (by omega))
       case measure=>simp[intOf];omega
     ·obtain rfl:j=l.length:=by omega
      rw[zL]at hol hn6;by_cases k1:c.kd=1
      ·have hch:=chK_1 (l:=l) k1;rw[mp_id (fK_plain k1)]at hol hn6;subst hn6;obtain⟨wo,hwo⟩:∃wo:World,wo=wr:=⟨_,rfl⟩
       subst hwo;have hw0:=hC.bx.bx.lt;have hlow:∀q,(Value.slice U6 l.length c6).ownBlock=some q→w.heap.size<q∧q<wo.heap.size:=fun q hq=>hol.lt q hq
       have hX:=Hd hC.bx;replace hol:=Hd hol;replace hch:=Hd hch;have d1:(c.kd==1)=true:=by simpa using k1
       replace k1:=Hd k1;clear hC;go_wp2;go_loopw [13] (fun y wr=>∃(k:Nat)(u:Value),k≤c.ats.length∧y=.int .i64 k∧IB wo wr 156 c.ty (-1) u 158 k (((c.ats.map fun a=>(⟨a,-1,0⟩:Fd)).take k).flatMap fdD)) (fun y _=>c.ats.length- (intOf y).toNat)
       case atStart=>exact⟨0,.slice none 0 0,zE _,rfl,bA,Blk.new _ _ _,.nil _ _ _ _ _⟩
       case round=>
        obtain⟨k,u,hk,rfl,hI⟩:=hrel;have hXr:=hX.out.stay hI.hb;have y4:wr.cell? ⟨w.heap.size,4,none⟩=some (.slice B c.ats.length d):=hXr.bx.cell 4;have i2:wr.cell? ⟨wo.heap.size,2,none⟩=some u:=hI.bx.cell 2;clear e0 e1 e3;by_cases hlk:k<c.ats.length
        ·obtain⟨a,ha⟩:=getx hlk;obtain⟨b2,off2,rfl,hFb2,ha2⟩:=(rc.out.under hXr.hb hG.out).at_ ha;have q0:wr.cell? ⟨b2,off2+k,none⟩=some (.string a):=ha2;have g2:(0:Int)≤(k:Int):=by omega
         have g3:(k:Int)<c.ats.length:=(by omega);have hfk:=Hd (ad_next ha);have hz2:=hI.bx.lt;have hI':=Hd hI;clear ha2 ha hXr hI;go_upto_region 23 with fail
         go_region_law ((refine step_app (by rfl) (.tmp 101) (.tmp 108) _ (by rfl) (m:=1) (news:=fdD ⟨a,-1,0⟩) elFd (by exact(hI'.out.ol.alloc (.cells ⟨fdV ⟨a,-1,0⟩⟩ 158)).drew) (by rfl) (by rfl) (by exact(Src.lit (fdD_rd wr _ ⟨a,-1,0⟩)).drew) rfl (by omega) (by omega) (by simp;omega) ?_;intro v' w1 hO1 hg1 ha1;obtain⟨B3,d3,rfl⟩:=hO1.form;have hg:=undrew hg1;have hB:=hI'.out.stay (bX (.cells ⟨fdV ⟨a,-1,0⟩⟩ 158));have t0:=hB.bx.grown hg (fun e=>by have:=(hI'.out.ol.lt _ e.symm).1;omega);have t1:w1.cell? ⟨wo.heap.size,2,none⟩=some u:=t0.cell 2;have t2:w1.frozen? ⟨wo.heap.size,2,none⟩=false:=t0.frozen 2))
         all_goals
          have hI3:=hB.put hg (fun q hq=>(hI'.out.ol.lt q hq).1) hO1;rw[←hfk.out]at hI3;go_wp2_with fail;go_roundw
          case rel=>exact⟨k+1,_,by omega,by go_num,hI3⟩
          case measure=>simp[intOf];omega
        ·have hkn:k=c.ats.length:=(by omega);subst hkn;have htk:(c.ats.map fun a=>(⟨a,-1,0⟩:Fd)).take c.ats.length=c.ats.map fun a=>(⟨a,-1,0⟩:Fd):=xH (by simp)
         rw[htk]at hI;obtain⟨U,cu,rfl⟩:=hI.ol.form;have i0:wr.cell? ⟨wo.heap.size,0,none⟩=some (.string c.ty):=hI.bx.cell 0;have i1:wr.cell? ⟨wo.heap.size,1,none⟩=some (.int .i64 (-1)):=hI.bx.cell 1;have hz2:=hI.bx.lt;have hO2:=(hol.out.stay hI.hb).mono (G:=fun b=>b<wr.heap.size) (fun b h=>by omega);have hRL:RdL wr (fun b=>b<wr.heap.size∧some b≠(Value.slice U6 l.length c6).ownBlock) [.string c.ty,.int .i64 (-1),.slice U c.ats.length cu] (kdD (addK c)):=by
          refine⟨.v _ rfl,.v _ rfl,?_,trivial⟩;show Rd _ _ _ (.sl (c.ats.map fun a=>(⟨a,-1,0⟩:Fd)).length _)
          rw[xC];exact hI.ol.rd' (fun _ h _=>h.elim) (fun b hb h1 h2=>⟨h2,fun e=>by have:=hlow b e.symm;omega⟩)
         replace hRL:=Hd hRL;have hI':=Hd hI;clear hI htk;go_wp2_with (at_builtin;refine wpa rfl (.tmp 111) (.tmp 113) _ rfl (m:=1) (news:=kdD (addK c)) elKd (hO2.alloc (.cells ⟨[.string c.ty,.int .i64 (-1),.slice U c.ats.length cu]⟩ 156)) rfl rfl (Src.lit hRL.out) rfl (by omega) (by omega) (by simp;omega) ?_;intro v' w1 hO1 hg1 ha1);go_ret2;have hB1:=(hXr.hb.alloc hXr.hb.size (.cells ⟨[.string c.ty,.int .i64 (-1),.slice U c.ats.length cu]⟩ 156)).grown hg1 (by have:=hXr.hb.size;simp;omega) (fun q hq=>by have:=(hlow q hq).1;omega);refine ChPost.mk_some hch.out ?_ hB1;have hO4:=hO1.rd (G:=fun b=>b<w1.heap.size) (fun b h h2=>h2) (fun b h h2=>h2);rw[show(l++[addK c]).length=l.length+1 by simp,show(l++[addK c]).flatMap kdD=l.flatMap kdD++kdD (addK c) by simp];exact hO4
      ·obtain⟨ht,hil⟩:=hty.out k1;obtain⟨x,hx⟩:=getx hil;have hch:chK l c=some (mp (fK c) l i):=chK_mp (by omega) hkd7 ht hx (fun h4=>hz.out h4 hil x hx);have d1:(c.kd==1)=false:=by simpa using k1
       subst hn6;have hR:=Hd (hol.rd (G:=fun b=>b<wr.heap.size) (fun b h h2=>h2) (fun b h h2=>h2));have hBB:=Hd hC.bx.hb;replace hch:=Hd hch;clear hC hol hx ht;go_wp2;go_ret2;exact ChPost.mk_some hch.out hR.out hBB.out
end evW
end Go.Proofs.YtfiodnlgiglhfaaGreatDoor
