/- Schemas that change. -/
import Derived.Test.YtfiodnlgiglhfaaGreatDoorV6
import Derived.OwnWalk
import Derived.Lib.SliceRun
import Derived.Lib.Overlaps
import Derived.Laws.IdiomCopy
namespace Go.Proofs.YtfiodnlgiglhfaaGreatDoor
set_option maxRecDepth 100000
set_option maxHeartbeats 16000000
open Go.RowKit Go.Deep
set_option linter.unusedVariables false
theorem isNm_size {s:ByteArray}(h:isNm s=true):s.size≤16:=by
 by_cases hn:IsNm s
 ·exact hn.le
 ·rw[isNm_false hn]at h;cases h
theorem atC_nm {l:List ByteArray}{k:Nat}{a:ByteArray}(h:l[k]? =some a)(h0:atC l k=0):isNm a=true:=by
 cases hn:isNm a with
 |true=>rfl
 |false=>rw[atC_22 h (.inl hn)]at h0;omega
theorem tyC_nm {l:List Td}{i:Nat}{t:Td}(h:l[i]? =some t)(h0:tyC l i=0):isNm t.name=true∧t.attrs.length≤8∧∀a∈t.attrs,isNm a=true:=by
 have h1:isNm t.name=true:=by
  cases hn:isNm t.name with
  |true=>rfl
  |false=>rw[tyC_22 h hn]at h0;omega
 have h3:placeI (l.map (·.name)) t.name=i:=Classical.byContradiction fun h3=>by rw[tyC_25 h h1 h3]at h0;omega
 have h4:¬8<t.attrs.length:=fun h4=>by rw[tyC_24 h h1 h3 h4]at h0;omega
 refine⟨h1,by omega,fun a ha=>?_⟩;rw[tyC_at h h1 h3 h4]at h0;obtain⟨k,hk⟩:=zN ha;exact atC_nm hk (fstC_none h0 k (zC.1 hk).1)
theorem scC_ok {l:List Td}(h:scC l=0):1≤l.length∧l.length≤16∧∀t∈l,isNm t.name=true∧t.attrs.length≤8∧∀a∈t.attrs,isNm a=true:=by
 have h1:¬(l.length<1∨16<l.length):=fun h1=>by rw[scC_23 h1]at h;omega
 refine⟨by omega,by omega,fun t ht=>?_⟩;rw[scC_ty (by omega) (by omega)]at h;obtain⟨k,hk⟩:=zN ht;exact tyC_nm hk (fstC_none h k (zC.1 hk).1)
structure SmK (l:List Kd):Prop where
 len:l.length≤16
 nm:∀k∈l,k.nm.size≤16
 fl:∀k∈l,k.fs.length≤8
 fn:∀k∈l,∀f∈k.fs,f.nm.size≤16
theorem SmK.of {l:List Kd}(h:scC (l.map tdOf)=0):SmK l:=by
 obtain⟨_,h1,h2⟩:=scC_ok h;have h3:∀k∈l,isNm k.nm=true∧(k.fs.map (·.nm)).length≤8∧∀a∈k.fs.map (·.nm),isNm a=true:=fun k hk=>h2 (tdOf k) (xJ hk)
 exact⟨by simpa using h1,fun k hk=>isNm_size (h3 k hk).1,fun k hk=>by simpa using (h3 k hk).2.1,fun k hk f hf=>isNm_size ((h3 k hk).2.2 _ (xJ hf))⟩
structure SzC (c:Cg):Prop where
 ty:c.ty.size≤1048576
 nm:c.nm.size≤1048576
 ats:SzS c.ats
def SzF (l:List Fd):Prop:=l.length≤1048576∧∀f∈l,f.nm.size≤1048576
theorem SzF.szS {l:List Fd}(h:SzF l):SzS (l.map (·.nm)):=⟨by simpa using h.1,fun a ha=>by
 obtain⟨f,hf,rfl⟩:=List.mem_map.1 ha;exact h.2 f hf⟩
structure SzKd (k:Kd):Prop where
 nm:k.nm.size≤1048576
 fs:SzF k.fs
theorem SmK.szKd {l:List Kd}(h:SmK l):∀k∈l,SzKd k:=fun k hk=>⟨by have:=h.nm k hk;omega,by have:=h.fl k hk;omega,fun f hf=>by have:=h.fn k hk f hf;omega⟩
theorem mem_eraseIdx {α:Type}{l:List α}{i:Nat}{x:α}(h:x∈l.eraseIdx i):x∈l:=(List.eraseIdx_sublist l i).mem h
theorem mem_modify {α:Type}{l:List α}{i:Nat}{f:α→α}{x:α}(h:x∈l.modify i f):x∈l∨∃y∈l,x=f y:=by
 obtain⟨j,hj⟩:=zN h;rw[List.getElem?_modify]at hj;obtain⟨y,hy,he⟩:=xG.1 hj;have hm:=zA hy;by_cases e:i=j
 ·rw[if_pos e]at he;exact .inr ⟨y,hm,he.symm⟩
 ·rw[if_neg e]at he;exact .inl (he▸hm)
theorem mem_set_ {α:Type}{l:List α}{i:Nat}{y x:α}(h:x∈l.set i y):x∈l∨x=y:=by
 rcases List.mem_or_eq_of_mem_set h with h |h
 ·exact .inl h
 ·exact .inr h
theorem chF_sz {l:List Fd}{c:Cg}{fs:List Fd}(hl:l.length≤8)(hn:∀f∈l,f.nm.size≤1048576)(hc:SzC c)(h:chF l c=some fs):fs.length≤9∧∀f∈fs,f.nm.size≤1048576:=by
 unfold chF at h;split at h
 ·injection h with h
  subst h;refine⟨by simp;omega,fun f hf=>?_⟩;rcases zM.1 hf with hf |hf
  ·exact hn f hf
  ·simp at hf;subst hf;exact hc.nm
 ·split at h
  ·cases h
  ·rename_i k hk;have hkl:=flAt_lt hk;split at h
   ·injection h with h
    subst h;exact⟨by rw[List.length_eraseIdx_of_lt hkl];omega,fun f hf=>hn f (mem_eraseIdx hf)⟩
   ·split at h
    ·injection h with h
     subst h;refine⟨by simp;omega,fun f hf=>?_⟩;rcases mem_modify hf with hf |⟨y,hy,rfl⟩
     ·exact hn f hf
     ·exact hc.nm
    ·split at h
     ·injection h with h
      subst h;refine⟨?_,fun f hf=>?_⟩
      ·obtain⟨x,hx⟩:=getx hkl;unfold mvF;rw[hx];simp[List.length_eraseIdx_of_lt hkl];omega
      ·unfold mvF at hf;rcases zM.1 hf with hf |hf
       ·exact hn f (mem_eraseIdx (List.mem_of_mem_take hf))
       ·rcases zM.1 hf with hf |hf
        ·exact hn f (zA (by simpa using hf))
        ·exact hn f (mem_eraseIdx (List.mem_of_mem_drop hf))
     ·cases h
theorem chK_sz {l l':List Kd}{c:Cg}(hl:SmK l)(hc:SzC c)(h:chK l c=some l'):l'.length≤17∧∀k∈l',SzKd k:=by
 have h0:=hl.szKd;have hlen:=hl.len;unfold chK at h;split at h
 ·injection h with h
  subst h;refine⟨by simp;omega,fun k hk=>?_⟩;rcases zM.1 hk with hk |hk
  ·exact h0 k hk
  ·simp at hk;subst hk;refine⟨hc.ty,by have:=hc.ats.1;simpa[addK] using this,fun f hf=>?_⟩;simp[addK]at hf;obtain⟨a,ha,rfl⟩:=hf;exact hc.ats.2 a ha
 ·split at h
  ·split at h
   ·cases h
   ·rename_i i hi;have hil:=tyAt_lt hi;split at h
    ·injection h with h
     subst h;exact⟨by rw[List.length_eraseIdx_of_lt hil];omega,fun k hk=>h0 k (mem_eraseIdx hk)⟩
    ·split at h
     ·injection h with h
      subst h;refine⟨by simp;omega,fun k hk=>?_⟩;rcases mem_modify hk with hk |⟨y,hy,rfl⟩
      ·exact h0 k hk
      ·exact⟨hc.nm,(h0 y hy).fs⟩
     ·split at h
      ·cases h
      ·rename_i k hk;obtain⟨fs,hfs,rfl⟩:=xG.1 h;have hkm:=zA hk;obtain⟨s1,s2⟩:=chF_sz (hl.fl k hkm) (fun f hf=>by have:=hl.fn k hkm f hf;omega) hc hfs;refine⟨by simp;omega,fun x hx=>?_⟩;rcases mem_set_ hx with hx |rfl
       ·exact h0 x hx
       ·exact⟨(h0 k hkm).nm,by show fs.length≤_;omega,s2⟩
  ·cases h
theorem szT_tdOf {l:List Kd}(h1:l.length≤17)(h2:∀k∈l,SzKd k):SzT (l.map tdOf):=⟨by simp;omega,fun t ht=>by
 obtain⟨k,hk,rfl⟩:=List.mem_map.1 ht;exact⟨(h2 k hk).nm,(h2 k hk).fs.szS⟩⟩
theorem szK_of {l:List Kd}(h1:l.length≤17)(h2:∀k∈l,SzKd k):SzK l:=⟨by omega,fun k hk=>by have:=(h2 k hk).fs.1;omega⟩
theorem fst_tdOf (S:List Td):(fstK S).map tdOf=S:=by
 apply List.ext_getElem?;intro i;simp only[fstK,zG,xQ];cases S[i]? with
 |none=>rfl
 |some t=>
  show some (Td.mk t.name ((fstF t.attrs).map (·.nm)))=some t
  have:(fstF t.attrs).map (·.nm)=t.attrs:=by
   apply List.ext_getElem?;intro j;simp only[fstF,zG,xQ];cases t.attrs[j]? <;>rfl
  rw[this]
theorem md_sc {S:List Td}{L:List Cg}{k:Nat}(h0:scC S=0)(h:∀j,j<k→okAt S L j):scC ((mdTo S L k).map tdOf)=0:=by
 cases k with
 |zero=>rw[show mdTo S L 0=fstK S from rfl,fst_tdOf];exact h0
 |succ k=>
  obtain⟨c,l,h1,h2,h3⟩:=h k (by omega);rw[mdTo_next h1 h2];exact h3
def TbPost (S:List Td)(L:List Cg)(w:World)(e:Ending)(w':World):Prop:=∃v code at_ T,e=.returned (.tuple #[v,.int .i64 code,.int .i64 at_])∧MdIs S L T code at_∧
 (∀t,T=some t→SmK t∧Rd w' (fun b=>b<w'.heap.size) v (.sl t.length (t.flatMap kdD)))∧Bw w w'
theorem TbPost.bad {S:List Td}{L:List Cg}{w w':World}{v:Value}{code at_:Int}(h:MdIs S L none code at_)(hb:Bw w w'):TbPost S L w (.returned (.tuple #[v,.int .i64 code,.int .i64 at_])) w':=
 ⟨v,code,at_,none,rfl,h,(fun t h=>by cases h),hb⟩
def TRel (w:World)(S:List Td)(L:List Cg)(v x:Value)(wr:World):Prop:=
 ∃j:Nat,j≤L.length∧x=.int .i64 j∧Rd wr (fun b=>b<wr.heap.size) v (.sl (mdTo S L j).length ((mdTo S L j).flatMap kdD))∧(∀i,i<j→okAt S L i)∧Bw w wr
theorem TRel.mk {w:World}{S:List Td}{L:List Cg}{v x:Value}{wr:World}(j:Nat)(h1:j≤L.length)(h2:x=.int .i64 j)(h3:Rd wr (fun b=>b<wr.heap.size) v (.sl (mdTo S L j).length ((mdTo S L j).flatMap kdD)))(h4:∀i,i<j→okAt S L i)(h5:Bw w wr):TRel w S L v x wr:=⟨j,h1,h2,h3,h4,h5⟩
theorem no_ok {S:List Td}{L:List Cg}{j:Nat}{c:Cg}(h:L[j]? =some c)(hc:chK (mdTo S L j) c=none):¬okAt S L j:=by
 rintro⟨c',l,h1,h2,_⟩;rw[h]at h1;injection h1 with h1;subst h1;rw[hc]at h2;cases h2
theorem no_ok' {S:List Td}{L:List Cg}{j:Nat}{c:Cg}{l:List Kd}(h:L[j]? =some c)(hc:chK (mdTo S L j) c=some l)(hs:scC (l.map tdOf)≠0):¬okAt S L j:=by
 rintro⟨c',l',h1,h2,h3⟩;rw[h]at h1;injection h1 with h1;subst h1;rw[hc]at h2;injection h2 with h2;subst h2;exact hs h3
theorem all_ok {S:List Td}{L:List Cg}{j:Nat}{c:Cg}{l:List Kd}(h:L[j]? =some c)(hc:chK (mdTo S L j) c=some l)(hs:scC (l.map tdOf)=0)(ho:∀i,i<j→okAt S L i):∀i,i<j+1→okAt S L i:=fun i hi=>by
 by_cases e:i=j
 ·subst e;exact⟨c,l,h,hc,hs⟩
 ·exact ho i (by omega)
namespace evW
open nmW
theorem table_k (A B:Option Addr)(ca cb:Nat)(F G:Nat→Prop)(S:List Td)(L:List Cg)(hS:SzT S)(hL:L.length≤1048576)(hC:∀c∈L,SzC c)(w:World)(hK:KwIs w)(hF:∀b,F b→b<w.heap.size)(hG:∀b,G b→b<w.heap.size)
  (r:Rd w F (.slice A S.length ca) (.sl S.length (S.flatMap tdD)))(rc:Rd w G (.slice B L.length cb) (.sl L.length (L.flatMap cgD))):
  Calls Tryz.prog 21 #[.agg #[.slice A S.length ca],.slice B L.length cb] w (TbPost S L w):=by
 have h0:Bw w (w.alloc (.cells ⟨[.slice A S.length ca]⟩ 24)):=bA;have k1:Calls Tryz.prog 47 #[.agg #[.slice A S.length ca]] (w.alloc (.cells ⟨[.slice A S.length ca]⟩ 24)) fun e w'=>e=.returned (.int .i64 (scC S))∧Below (w.alloc (.cells ⟨[.slice A S.length ca]⟩ 24)).heap.size (w.alloc (.cells ⟨[.slice A S.length ca]⟩ 24)) w':=
  rCheckSchema_k A ca F S hS _ (hK.stay h0) (fun b h=>zF (hF b h) h0.size) (r.under h0 hF)
 have k2:∀W,Bw w W→Calls Tryz.prog 48 #[.agg #[.slice A S.length ca]] W fun e w'=>∃v,e=.returned v∧OL w' W.heap.size (fun b=>b<w'.heap.size) 156 3 v S.length ((fstK S).flatMap kdD)∧Bw W w':=
  fun W hW=>first_k A ca F S hS W (fun b h=>zF (hF b h) hW.size) (r.under hW hF)
 have k3:∀(W:World)(B':Option Addr)(d':Nat)(l:List Kd)(c:Cg)(A':Option Addr)(c':Nat),SmK l→SzC c→Bw w W→Rd W (fun b=>b<W.heap.size) (.slice A' l.length c') (.sl l.length (l.flatMap kdD))→Rd W G (.slice B' c.ats.length d') (.sl c.ats.length (c.ats.flatMap strD))→
   Calls Tryz.prog 49 #[.slice A' l.length c',.agg #[.int .i64 c.kd,.string c.ty,.string c.at_,.string c.nm,.slice B' c.ats.length d',.int .i64 c.n]] W (ChPost l c W):=fun W B' d' l c A' c' hl hc hW ra rb=>
  change_k A' B' c' d' _ G l c (by have:=hl.len;omega) (fun k hk=>by have:=hl.fl k hk;omega) hc.ats.1 W (fun _ h=>h) (fun b h=>zF (hG b h) hW.size) ra rb
 have k4:∀(W:World)(l:List Kd)(v:Value),l.length≤17→(∀k∈l,SzKd k)→Rd W (fun b=>b<W.heap.size) v (.sl l.length (l.flatMap kdD))→Calls Tryz.prog 50 #[v] W (ScPost (l.map tdOf) W):=fun W l v h1 h2 ra=>by
  obtain⟨A',c',rfl,_⟩:=ra.sl_inv;exact plain_k A' c' _ l (szK_of h1 h2) W (fun _ h=>h) ra
 have k5:∀(W:World)(l:List Kd)(v:Value),l.length≤17→(∀k∈l,SzKd k)→Bw w W→Rd W (fun b=>b<W.heap.size) v (.sl (l.map tdOf).length ((l.map tdOf).flatMap tdD))→Calls Tryz.prog 47 #[.agg #[v]] W fun e w'=>e=.returned (.int .i64 (scC (l.map tdOf)))∧Bw W w':=fun W l v h1 h2 hW ra=>by
  obtain⟨A',c',rfl,_⟩:=ra.sl_inv;exact rCheckSchema_k A' c' _ (l.map tdOf) (szT_tdOf h1 h2) W (hK.stay hW) (fun _ h=>h) ra
 replace k1:=Hd k1;replace k2:=Hd k2;replace k3:=Hd k3;replace k4:=Hd k4;replace k5:=Hd k5;replace hC:=Hd hC;replace hG:=Hd hG;replace h0:=Hd h0;replace rc:=Hd rc;clear r hF hS;by_cases hs:scC S=0
 ·by_cases hlen:32<L.length
  ·have hmd:MdIs S L none 290 32:=.inr (.inl ⟨hs,hlen,rfl,rfl,rfl⟩);rw[hs]at k1;have g0:(L.length:Int)>32:=by omega
   replace hmd:=Hd hmd;go_enter Tryz.func21,Tryz.ntmps21;go_wp2_with (go_at_call 47;refine k1.out.mono ?_;rintro e w' ⟨rfl,hB1⟩);go_ret3;exact TbPost.bad hmd.out (h0.out.trans (hB1.mono h0.out.size))
  ·have g0:¬(L.length:Int)>32:=by omega
   rw[hs]at k1;have hok0:∀i,i<0→okAt S L i:=fun i hi=>by omega
   have hgood:∀j,j<L.length→(∀i,i<j→okAt S L i)→¬okAt S L j→MdIs S L none 290 j:=fun j hj h1 h2=>.inr (.inr (.inl ⟨hs,by omega,j,hj,h1,h2,rfl,rfl,rfl⟩))
   have hfin:(∀i,i<L.length→okAt S L i)→MdIs S L (some (mdTo S L L.length)) 0 0:=fun h1=>.inr (.inr (.inr ⟨hs,by omega,h1,rfl,rfl,rfl⟩))
   have hsm:∀j,(∀i,i<j→okAt S L i)→SmK (mdTo S L j):=fun j h=>SmK.of (md_sc hs h)
   replace hgood:=Hd hgood;replace hfin:=Hd hfin;replace hsm:=Hd hsm;replace hok0:=Hd hok0;go_enter Tryz.func21,Tryz.ntmps21;go_wp2_with (first
    |(go_at_call 47;refine k1.out.mono ?_;rintro e w' ⟨rfl,hB1⟩;have hBw:=Hd (h0.out.trans (hB1.mono h0.out.size));have y0:w'.cell? ⟨w.heap.size,0,none⟩=some (.slice A S.length ca):=(Blk.stay (Blk.new w 24 [.slice A S.length ca]) hB1).cell 0)
    |(go_at_call 48;refine(k2.out _ hBw.out).mono ?_;rintro e w2 ⟨v,rfl,hO1,hB2⟩;have hBw2:=Hd (hBw.out.trans (hB2.mono hBw.out.size));replace hO1:=Hd hO1))
   go_loopw [8,9] (fun v x wr=>TRel w S L v x wr) (fun _ x _=>L.length- (intOf x).toNat)
   case atStart=>
    refine TRel.mk 0 (zE _) rfl ?_ hok0.out hBw2.out;show Rd _ _ _ (.sl (fstK S).length _)
    rw[fstK_len];exact hO1.out.rd (fun b h _=>h) (fun b h h2=>h2)
   case round=>
    obtain⟨j,hj,rfl,hR,hok,hB⟩:=hrel;have hm:=Hd (hsm.out j hok);replace hok:=Hd hok;by_cases hlt:j<L.length
    ·obtain⟨c,hc⟩:=getx hlt;have hcs:=hC.out c (zA hc);obtain⟨b,off,rfl,hGb,hv,hsl⟩:=rc.out.rowv (m:=6) (fun _=>rfl) hc (by omega);have hgB:=hG.out b hGb;obtain⟨B2,d2,a4,r4⟩:=hsl 4 _ _ rfl;have v0:wr.cell? ⟨b,off+j*6,none⟩=some (.int .i64 c.kd):=(hB.cell (p:=⟨b,off+j*6,none⟩) hgB).trans (hv 0 _ rfl);have v1:wr.cell? ⟨b,off+j*6+1,none⟩=some (.string c.ty):=(hB.cell (p:=⟨b,off+j*6+1,none⟩) hgB).trans (hv 1 _ rfl);have v2:wr.cell? ⟨b,off+j*6+2,none⟩=some (.string c.at_):=(hB.cell (p:=⟨b,off+j*6+2,none⟩) hgB).trans (hv 2 _ rfl);have v3:wr.cell? ⟨b,off+j*6+3,none⟩=some (.string c.nm):=(hB.cell (p:=⟨b,off+j*6+3,none⟩) hgB).trans (hv 3 _ rfl);have v4:wr.cell? ⟨b,off+j*6+4,none⟩=some (.slice B2 c.ats.length d2):=(hB.cell (p:=⟨b,off+j*6+4,none⟩) hgB).trans a4;have v5:wr.cell? ⟨b,off+j*6+5,none⟩=some (.int .i64 c.n):=(hB.cell (p:=⟨b,off+j*6+5,none⟩) hgB).trans (hv 5 _ rfl);have g1:(0:Int)≤(j:Int):=by omega
     have g2:(j:Int)<L.length:=(by omega);obtain⟨A',c',rfl,_⟩:=hR.sl_inv;have k3':=Hd (k3.out wr B2 d2 (mdTo S L j) c A' c' hm.out hcs hB hR (r4.under hB hG.out));have hbad:=fun h=>hgood.out j hlt hok.out h
     replace hbad:=Hd hbad;replace hcs:=Hd hcs;clear hv hsl a4 r4;cases hch:chK (mdTo S L j) c with
     |none=>
      have hno:=Hd (hbad.out (no_ok hc hch));replace hch:=Hd hch;clear hc;go_wp2_with (go_at_call 49;refine k3'.out.mono ?_;rintro e w' ⟨v,b,rfl,_,hb0,hB1⟩;obtain rfl:=hb0 hch.out;clear hb0);go_ret3;exact TbPost.bad hno.out (hB.trans (hB1.mono hB.size))
     |some l=>
      obtain⟨s1,s2⟩:=chK_sz hm.out hcs.out hch;replace s2:=Hd s2;by_cases hsl2:scC (l.map tdOf)=0
      ·have hok2:=Hd (all_ok hc hch hsl2 hok.out);have hmd:=Hd (mdTo_next hc hch);replace hch:=Hd hch;clear hc;go_wp2_with (first
        |(go_at_call 49;refine k3'.out.mono ?_;rintro e w' ⟨v,b,rfl,hs0,_,hB1⟩;obtain⟨rfl,hR1⟩:=hs0 l hch.out;clear hs0;have hW1:=Hd (hB.trans (hB1.mono hB.size));replace hR1:=Hd hR1)
        |(go_at_call 50;refine(k4.out _ l _ s1 s2.out hR1.out).mono ?_;rintro e w2 ⟨u,rfl,hO2,hB2⟩;have hW2:=Hd (hW1.out.trans (hB2.mono hW1.out.size));replace hO2:=Hd hO2)
        |(go_at_call 47;refine(k5.out _ l _ s1 s2.out hW2.out (hO2.out.rd (fun b h _=>h.2) (fun b _ h=>h))).mono ?_;rintro e w3 ⟨rfl,hB3⟩;rw[hsl2]))
       go_roundw
       case rel=>
        refine TRel.mk (j+1) (by omega) (by go_num) ?_ hok2.out (hW2.out.trans (hB3.mono hW2.out.size));rw[hmd.out];exact((hR1.out.stay hB2).stay hB3).mono fun b h h2=>h2
       case measure=>simp[intOf];omega
      ·have hno:=Hd (hbad.out (no_ok' hc hch hsl2));have hne:(scC (l.map tdOf)==0)=false:=by simpa using hsl2
       replace hch:=Hd hch;clear hc;go_wp2_with (first
        |(go_at_call 49;refine k3'.out.mono ?_;rintro e w' ⟨v,b,rfl,hs0,_,hB1⟩;obtain⟨rfl,hR1⟩:=hs0 l hch.out;clear hs0;have hW1:=Hd (hB.trans (hB1.mono hB.size));replace hR1:=Hd hR1)
        |(go_at_call 50;refine(k4.out _ l _ s1 s2.out hR1.out).mono ?_;rintro e w2 ⟨u,rfl,hO2,hB2⟩;have hW2:=Hd (hW1.out.trans (hB2.mono hW1.out.size));replace hO2:=Hd hO2)
        |(go_at_call 47;refine(k5.out _ l _ s1 s2.out hW2.out (hO2.out.rd (fun b h _=>h.2) (fun b _ h=>h))).mono ?_;rintro e w3 ⟨rfl,hB3⟩))
       go_ret3;exact TbPost.bad hno.out (hW2.out.trans (hB3.mono hW2.out.size))
    ·obtain rfl:j=L.length:=by omega
     have hf:=Hd (hfin.out hok.out);replace hR:=Hd hR;replace hB:=Hd hB;go_wp2;go_ret3;exact⟨_,_,_,_,rfl,hf.out,fun t h=>by injection h with h;subst h;exact⟨hm.out,hR.out⟩,hB.out⟩
 ·have hmd:MdIs S L none (scC S) 0:=.inl ⟨hs,rfl,rfl,rfl⟩;have hne:(scC S==0)=false:=by simpa using hs
  replace hmd:=Hd hmd;go_enter Tryz.func21,Tryz.ntmps21;go_wp2_with (go_at_call 47;refine k1.out.mono ?_;rintro e w' ⟨rfl,hB1⟩);go_ret3;exact TbPost.bad hmd.out (h0.out.trans (hB1.mono h0.out.size))
end evW
theorem Blk.setCells {g t:Nat}(cs':List Value):∀(o:Nat)(w:World)(cs:List Value),Blk w g t cs→o+cs'.length≤cs.length→Blk (w.setCells g o cs') g t (cs.take o++cs'++cs.drop (o+cs'.length))∧w.grownBy (w.setCells g o cs') (some g):=by
 induction cs' with
 |nil=>
  intro o w cs h hl;simp only[World.setCells,zT,List.length_nil,Nat.add_zero,List.take_append_drop];exact⟨h,World.grownBy.refl w _⟩
 |cons v r ih=>
  intro o w cs h hl;simp only[List.length_cons]at hl;obtain⟨h1,h2⟩:=ih (o+1) (w.setCell ⟨g,o,none⟩ v) (cs.set o v) (h.set_ o v) (by simp;omega);refine⟨?_,?_⟩
  ·have e1:(cs.set o v).take (o+1)=cs.take o++[v]:=by
    rw[zJ,xL,if_pos rfl,if_pos (by omega),List.take_set_of_le nR];rfl
   have e2:(cs.set o v).drop (o+1+r.length)=cs.drop (o+(v::r).length):=by
    rw[List.drop_set_of_lt (by omega),List.length_cons,show o+1+r.length=o+(r.length+1) by omega]
   rw[e1,e2]at h1;simpa[World.setCells] using h1
  ·refine⟨h2.os,h2.tape,h2.output,?_,fun k hk hne=>?_⟩
   ·have:=h2.size;refine zU ?_ this;simp[World.setCell]
   ·show(((w.setCell ⟨g,o,none⟩ v).setCells g (o+1) r).heap[k]?)=_
    rw[h2.block k (by simpa[World.setCell] using hk) hne];exact Below.heap_setCell _ _ _ _ (fun e=>hne (by rw[e]))
theorem run_clear_row {P:Program}{t e size bytes:Nat}(T:ElT P t e size bytes)(h1:((P.info? e).bind (·.zero)).map (fun z=>z.cells.toList.all Value.oneCell')=some true)(n:Nat)(hn:0<n):
  ∃zs:List Value,zs.length=n*size∧∀(ty:Nat)(w:World)(b o c:Nat),(∀j,j<n*size→(w.cell? ⟨b,o+j,none⟩).isSome=true)→(∀j,j<n*size→w.frozen? ⟨b,o+j,none⟩=false)→
   (Builtin.clear_ #[t] ty #[.slice (some ⟨b,o,none⟩) n c]).run P w=.ok (.tuple #[]) (w.setCells b o zs):=by
 obtain⟨ht,⟨i,z,hi,hz,hsize,hby,hzs⟩,hp⟩:=T;rw[hi]at h1;simp only[Option.bind_some,hz,Option.map_some,Option.some.injEq]at h1;have hv:∀w,(zeroValue e).run P w=.ok z w:=fun w=>by simp[zeroValue,typeInfo,hi,hz]
 refine⟨(Builtin.zeroCells z.cells n).toList,by simp[Builtin.zeroCells,hzs],fun ty w b o c hc hf=>?_⟩;have hl:(Builtin.zeroCells z.cells n).toList.length=n*size:=by simp[Builtin.zeroCells,hzs]
 have hone:∀v∈(Builtin.zeroCells z.cells n).toList,v.oneCell'=true:=by
  intro v hv;simp only[Builtin.zeroCells,Array.toList_map,List.mem_map]at hv;obtain⟨k,_,rfl⟩:=hv;have hk:k % z.cells.size<z.cells.size:=Nat.mod_lt _ (by omega);rw[getElem!_pos z.cells _ hk];exact xP.1 h1 _ (Array.getElem_mem_toList hk)
 have hst:=run_storeCells_cells (P:=P) b o (Builtin.zeroCells z.cells n).toList 0 w (by rw[hl];simpa using hc) (by rw[hl];simpa using hf) hone;simp only[Nat.add_zero]at hst;obtain⟨m,rfl⟩:∃m,n=m+1:=⟨n-1,by omega⟩
 simp[Builtin.clear_,run_underlying ht,hv,hst]
theorem run_copy_row {P:Program}{t e size bytes:Nat}(ty:Nat)(T:ElT P t e size bytes)(w:World)(b o dLen dCap:Nat)(a:Addr)(sLen sCap m:Nat)(cs:List Value)(hm:m=Nat.min sLen dLen)(hn:cs.length=m*size)
  (hsrc:∀j v,cs[j]? =some v→w.cell? (a.add j)=some v)(hc:∀j,j<cs.length→(w.cell? ⟨b,o+j,none⟩).isSome=true)(hf:∀j,j<cs.length→w.frozen? ⟨b,o+j,none⟩=false)(h1:∀v∈cs,v.oneCell'=true):
  (Builtin.copy_ #[t,t] ty #[.slice (some ⟨b,o,none⟩) dLen dCap,.slice (some a) sLen sCap]).run P w=.ok (goInt m) (w.setCells b o cs):=by
 obtain⟨ht,⟨i,z,hi,hz,hsize,hby,hzs⟩,hp⟩:=T;have hl:=run_loadCells_list (P:=P) w a cs hsrc;have hst:=run_storeCells_cells (P:=P) b o cs 0 w (by simpa using hc) (by simpa using hf) h1;rw[hn]at hl;simp[Builtin.copy_,run_underlying ht,Builtin.lenOf,Builtin.firstCells,sizeOf,typeInfo,hi,hsize,←hm,hl,hst]
theorem OL.blk {w:World}{B e size n g cap:Nat}{F:Nat→Prop}{ds:List D}(h:OL w B F e size (.slice (some ⟨g,0,none⟩) n cap) n ds):
  ∃cs,B≤g∧Blk w g e cs∧n≤cap∧cap≤maxLen∧cs.length=cap*size∧ds.length=n*size∧∀(k:Nat)(d:D),ds[k]? =some d→∃u,cs[k]? =some u∧Rd w (fun b=>F b∧b≠g) u d:=by
 obtain⟨cells,⟨h1,h2⟩,h3,h4⟩:=h;rcases h2 with⟨h2,_⟩|⟨g',cap',cur,h2,hB,hb,hnc,hm,hs,ht⟩
 ·cases h2
 ·injection h2 with e1 e2 e3
  injection e1 with e1
  injection e1 with e1 e4
  subst e1 e3;refine⟨cur.toList,hB,hb,hnc,hm,by simpa using hs,by rw[h3,h1],fun k d hd=>?_⟩;obtain⟨u,hu,hr⟩:=h4 k d hd;refine⟨u,?_,hr.mono fun b hb' _=>⟨hb'.1,fun e=>hb'.2 (by rw[e];rfl)⟩⟩;rw[←ht,zZ]at hu;split at hu
  ·exact hu
  ·cases hu
theorem OL.of_blk {w:World}{B e size n g cap:Nat}{F:Nat→Prop}{ds:List D}{cs:List Value}(hB:B≤g)(hb:Blk w g e cs)(hn:n≤cap)(hm:cap≤maxLen)(hl:cs.length=cap*size)(hd:ds.length=n*size)
  (h:∀(k:Nat)(d:D),ds[k]? =some d→∃u,cs[k]? =some u∧Rd w (fun b=>F b∧b≠g) u d):OL w B F e size (.slice (some ⟨g,0,none⟩) n cap) n ds:=by
 have hns:n*size≤cap*size:=Nat.mul_le_mul hn nR;refine⟨cs.take (n*size),⟨by simp;omega,.inr ⟨g,cap,⟨cs⟩,rfl,hB,hb,hn,hm,by simpa using hl,rfl⟩⟩,by simp;omega,fun k d hk=>?_⟩;obtain⟨u,hu,hr⟩:=h k d hk;refine⟨u,?_,hr.mono fun b hb' _=>⟨hb'.1,fun e=>hb'.2 (by simpa[Value.ownBlock] using e)⟩⟩;have:=(zC.1 hk).1;rw[zZ,if_pos (by omega)];exact hu
theorem OL.cut {w w2:World}{B e size n g cap k:Nat}{F:Nat→Prop}{ds:List D}{cs cs2:List Value}(h:OL w B F e size (.slice (some ⟨g,0,none⟩) n cap) n ds)(hg:w.grownBy w2 (some g))(hk:k<n)
  (hb:Blk w g e cs)(hb2:Blk w2 g e cs2)(hl:cs2.length=cs.length)(hc:cs2.take ((n-1)*size)=cs.take (k*size)++(cs.take (n*size)).drop ((k+1)*size)):
  OL w2 B F e size (.slice (some ⟨g,0,none⟩) (n-1) cap) (n-1) (ds.take (k*size)++ds.drop ((k+1)*size)):=by
 obtain⟨cs',hB,hb',hnc,hm,hlen,hd,hr⟩:=h.blk;have e1:cs'=cs:=by
  unfold Blk at hb hb';rw[hb]at hb';injection hb' with e;injection e with e;injection e with e;exact e.symm
 subst e1;have hm1:k*size+size≤n*size:=by rw[←Nat.succ_mul];exact Nat.mul_le_mul hk nR
 have hm2:(k+1)*size=k*size+size:=Nat.succ_mul _ _;have hm3:(n-1)*size+size=n*size:=by rw[←Nat.succ_mul,show(n-1).succ=n by omega]
 have hnc2:n*size≤cap*size:=Nat.mul_le_mul hnc nR;refine OL.of_blk hB hb2 (by omega) hm (by omega) (by simp;omega) fun j d hj=>?_
 have hjl:=(zC.1 hj).1;simp at hjl;have hc2:cs2[j]? =(cs2.take ((n-1)*size))[j]? :=by rw[zZ,if_pos (by omega)]
 rw[hc2,hc];have hrg:∀u y,Rd w (fun b=>F b∧b≠g) u y→Rd w2 (fun b=>F b∧b≠g) u y:=fun u y h=>h.grown hg fun b hb=>by simpa using hb.2
 by_cases hjk:j<k*size
 ·rw[zS (by simp;omega),zZ,if_pos hjk]at hj;obtain⟨u,hu,hx⟩:=hr j d hj;exact⟨u,by rw[zS (by simp;omega),zZ,if_pos hjk];exact hu,hrg _ _ hx⟩
 ·have e5:(ds.take (k*size)).length=k*size:=by simp;omega
  have e6:(cs'.take (k*size)).length=k*size:=by simp;omega
  rw[zP (by omega),e5,xT]at hj;obtain⟨u,hu,hx⟩:=hr _ d hj;refine⟨u,?_,hrg _ _ hx⟩;have:=(zC.1 hj).1;rw[zP (by omega),e6,xT,zZ,if_pos (by omega)];exact hu
theorem cut_cells {cs news zs cs3:List Value}{a b X:Nat}(hX:X=a+news.length)(ha:a≤cs.length):((cs.take a++news++cs.drop b).take X++zs++cs3).take X=cs.take a++news:=by
 have e1:(cs.take a).length=a:=by simp;omega
 have e2:(cs.take a++news).length=X:=by rw[zH,e1,hX]
 have e3:(cs.take a++news++cs.drop b).take X=cs.take a++news:=by rw[←e2,List.take_left]
 rw[e3,zR,←e2,List.take_left]
theorem OL.put_in {w w2:World}{B e size n g cap k:Nat}{F:Nat→Prop}{ds vd:List D}{vs cs cs2:List Value}(h:OL w B F e size (.slice (some ⟨g,0,none⟩) n cap) n ds)(hg:w.grownBy w2 (some g))(hk:k≤n)(hnc1:n+1≤cap)
  (hb:Blk w g e cs)(hb2:Blk w2 g e cs2)(hl:cs2.length=cs.length)(hvl:vs.length=size)(hvd:vd.length=size)(hv:∀(j:Nat) d,vd[j]? =some d→∃u,vs[j]? =some u∧Rd w (fun b=>F b∧b≠g) u d)
  (hc:cs2.take ((n+1)*size)=cs.take (k*size)++vs++(cs.take (n*size)).drop (k*size)):
  OL w2 B F e size (.slice (some ⟨g,0,none⟩) (n+1) cap) (n+1) (ds.take (k*size)++vd++ds.drop (k*size)):=by
 obtain⟨cs',hB,hb',hnc,hm,hlen,hd,hr⟩:=h.blk;have e1:cs'=cs:=by
  unfold Blk at hb hb';rw[hb]at hb';injection hb' with e;injection e with e;injection e with e;exact e.symm
 subst e1;have hm1:k*size≤n*size:=Nat.mul_le_mul hk nR;have hm2:(n+1)*size=n*size+size:=Nat.succ_mul _ _;have hnc2:(n+1)*size≤cap*size:=Nat.mul_le_mul hnc1 nR;refine OL.of_blk hB hb2 hnc1 hm (by omega) (by simp;omega) fun j d hj=>?_
 have hjl:=(zC.1 hj).1;simp at hjl;have hc2:cs2[j]? =(cs2.take ((n+1)*size))[j]? :=by rw[zZ,if_pos (by omega)]
 rw[hc2,hc];have hrg:∀u y,Rd w (fun b=>F b∧b≠g) u y→Rd w2 (fun b=>F b∧b≠g) u y:=fun u y h=>h.grown hg fun b hb=>by simpa using hb.2
 have e5:(ds.take (k*size)).length=k*size:=by simp;omega
 have e6:(cs'.take (k*size)).length=k*size:=by simp;omega
 rw[zR]at hj ⊢;by_cases hjk:j<k*size
 ·rw[zS (by omega),zZ,if_pos hjk]at hj;obtain⟨u,hu,hx⟩:=hr j d hj;exact⟨u,by rw[zS (by omega),zZ,if_pos hjk];exact hu,hrg _ _ hx⟩
 ·rw[zP (by omega),e5]at hj;rw[zP (by omega),e6];by_cases hj2:j-k*size<size
  ·rw[zS (by omega)]at hj;obtain⟨u,hu,hx⟩:=hv _ d hj;exact⟨u,by rw[zS (by omega)];exact hu,hrg _ _ hx⟩
  ·rw[zP (by omega),hvd,xT]at hj;obtain⟨u,hu,hx⟩:=hr _ d hj;refine⟨u,?_,hrg _ _ hx⟩;have:=(zC.1 hj).1;rw[zP (by omega),hvl,xT,zZ,if_pos (by omega)];exact hu
theorem elKind:ElT Tryz.prog 84 90 3 48:=.of Tryz.underlying84 (by kernel_rfl) (by omega)
theorem elField:ElT Tryz.prog 88 92 3 32:=.of Tryz.underlying88 (by kernel_rfl) (by omega)
theorem zKind:((Tryz.prog.info? 90).bind (·.zero)).map (fun z=>z.cells.toList.all Value.oneCell')=some true:=by kernel_rfl
theorem zField:((Tryz.prog.info? 92).bind (·.zero)).map (fun z=>z.cells.toList.all Value.oneCell')=some true:=by kernel_rfl
namespace evW
open nmW
theorem delField_k (B g cap n k:Nat)(F:Nat→Prop)(ds:List D)(w:World)(h:OL w B F 92 3 (.slice (some ⟨g,0,none⟩) n cap) n ds)(hk:k<n):
  Calls Tryz.prog 117 #[.slice (some ⟨g,0,none⟩) n cap,.int .i64 (k:Int),.int .i64 ((k:Int)+1)] w fun e w'=>e=.returned (.slice (some ⟨g,0,none⟩) (n-1) cap)∧
   OL w' B F 92 3 (.slice (some ⟨g,0,none⟩) (n-1) cap) (n-1) (ds.take (k*3)++ds.drop ((k+1)*3))∧w.grownBy w' (some g):=by
 obtain⟨cs,hB,hb,hnc,hm,hlen,hd,hr⟩:=h.blk;obtain⟨i0,z0,hi0,hz0,hs0,hb0,hzs0⟩:=elField.info;obtain⟨news,hnews⟩:∃news,news=(cs.take (n*3)).drop ((k+1)*3):=⟨_,rfl⟩
 have hnl:news.length=(n- (k+1))*3:=by rw[hnews];simp;omega
 have hone:∀u∈news,u.oneCell'=true:=by
  intro u hu;rw[hnews]at hu;obtain⟨j,hj⟩:=zN hu;rw[xT,zZ]at hj;split at hj
  ·obtain⟨u',hu',hx⟩:=hr ((k+1)*3+j) _ (zI (by omega));rw[hj]at hu';injection hu' with e;subst e
   exact hx.one
  ·cases hj
 obtain⟨A,hA,hsrc⟩:∃A:Addr,(if cap=k+1 then some (⟨g,0,none⟩:Addr)else some ⟨g,(k+1)*3,none⟩)=some A∧Hid (∀t u,news[t]? =some u→w.drew.cell? (A.add t)=some u):=by
  by_cases hc:cap=k+1
  ·refine⟨⟨g,0,none⟩,by simp[hc],Hd fun t u hu=>?_⟩;have h0:news.length=0:=by rw[hnl];omega
   rw[List.length_eq_zero_iff.1 h0]at hu;simp at hu
  ·refine⟨⟨g,(k+1)*3,none⟩,by simp[hc],Hd fun t u hu=>?_⟩;rw[hnews,xT,zZ]at hu;split at hu
   ·rw[addr_add];exact(hb.cell _).trans hu
   ·cases hu
 have hb1:=Blk.setCells news (k*3) w.drew cs hb (by rw[hnl,hlen];omega);obtain⟨W1,hW1⟩:∃W1,W1=w.drew.setCells g (k*3) news:=⟨_,rfl⟩
 rw[←hW1]at hb1;obtain⟨hb1,hg1⟩:=hb1;obtain⟨zs,hzl,hcl⟩:=run_clear_row (P:=Tryz.prog) elField zField (n- (n-1)) (by omega);have hcs1:(cs.take (k*3)++news++cs.drop (k*3+news.length)).length=cs.length:=by simp;omega
 have hb2:=Blk.setCells zs ((n-1)*3) W1 _ hb1 (by rw[hcs1,hzl];omega);have hrun:∀ty c,(Builtin.clear_ #[88] ty #[.slice (some ⟨g,(n-1)*3,none⟩) (n- (n-1)) c]).run Tryz.prog W1=.ok (.tuple #[]) (W1.setCells g ((n-1)*3) zs):=fun ty c=>
  hcl ty W1 g _ c (fun j hj=>by rw[hb1.cell];simp;omega) (fun j hj=>hb1.frozen _)
 have s1:Hid (news.length=(n- (k+1))*3):=Hd hnl;have s2:=Hd hone;have s3:Hid (∀t,t<news.length→(w.drew.cell? ⟨g,0+k*3+t,none⟩).isSome=true∧w.drew.frozen? ⟨g,0+k*3+t,none⟩=false):=Hd fun t ht=>by
  refine⟨?_,hb.frozen _⟩;show(w.cell? _).isSome=true
  rw[hb.cell];simp;omega
 have hW:Hid (W1=w.drew.setCells g (0+k*3) news):=Hd (by rw[Nat.zero_add];exact hW1);have hfin:OL (W1.setCells g ((n-1)*3) zs) B F 92 3 (.slice (some ⟨g,0,none⟩) (n-1) cap) (n-1) (ds.take (k*3)++ds.drop ((k+1)*3))∧w.grownBy (W1.setCells g ((n-1)*3) zs) (some g):=by
  have hg:w.grownBy (W1.setCells g ((n-1)*3) zs) (some g):=by
   have hg1':w.grownBy W1 (some g):=undrew hg1;exact⟨hb2.2.os.trans hg1'.os,hb2.2.tape.trans hg1'.tape,hb2.2.output.trans hg1'.output,zU hg1'.size hb2.2.size,fun j hj hne=>(hb2.2.block j (zF hj hg1'.size) hne).trans (hg1'.block j hj hne)⟩
  refine⟨h.cut hg hk hb hb2.1 ?_ ?_,hg⟩
  ·simp;omega
  ·rw[cut_cells (X:=(n-1)*3) (a:=k*3) (by omega) (by omega)];rw[hnews]
 have hic:k≤cap:=by omega
 have p0:(0:Int)≤(k:Int)+1:=by omega
 have p1:(k:Int)+1≤(n:Int):=by omega
 have p2:(k:Int)≤(cap:Int):=by omega
 have p3:¬cap=n-1:=by omega
 have hjc:k+1≤cap:=by omega
 have hkn:k+(n- (k+1))=n-1:=by omega
 clear hcl hb2 hb1 hg1 hcs1 hnews hone hW1 hr;replace hrun:=Hd hrun;replace hfin:=Hd hfin;go_enter Tryz.func117,Tryz.ntmps117;go_upto_region 5 with fail
 go_region_law ((refine step_append_room rfl (.tmp 22) (.tmp 25) 88 rfl 92 i0 3 elField.sl hi0 hs0 g 0 k cap (by simp[Act.eval,Act.put]) A (n- (k+1)) (cap- (k+1)) news (by simp[Act.eval,Act.put]) s1.out hsrc.out s2.out (by omega) s3.out ?_;rw[←hW.out]))
 all_goals
  go_wp2_with (simp only[hrun.out]);go_ret;exact⟨rfl,hfin.out⟩
theorem delKind_k (B g cap n k:Nat)(F:Nat→Prop)(ds:List D)(w:World)(h:OL w B F 90 3 (.slice (some ⟨g,0,none⟩) n cap) n ds)(hk:k<n):
  Calls Tryz.prog 115 #[.slice (some ⟨g,0,none⟩) n cap,.int .i64 (k:Int),.int .i64 ((k:Int)+1)] w fun e w'=>e=.returned (.slice (some ⟨g,0,none⟩) (n-1) cap)∧
   OL w' B F 90 3 (.slice (some ⟨g,0,none⟩) (n-1) cap) (n-1) (ds.take (k*3)++ds.drop ((k+1)*3))∧w.grownBy w' (some g):=by
 obtain⟨cs,hB,hb,hnc,hm,hlen,hd,hr⟩:=h.blk;obtain⟨i0,z0,hi0,hz0,hs0,hb0,hzs0⟩:=elKind.info;obtain⟨news,hnews⟩:∃news,news=(cs.take (n*3)).drop ((k+1)*3):=⟨_,rfl⟩
 have hnl:news.length=(n- (k+1))*3:=by rw[hnews];simp;omega
 have hone:∀u∈news,u.oneCell'=true:=by
  intro u hu;rw[hnews]at hu;obtain⟨j,hj⟩:=zN hu;rw[xT,zZ]at hj;split at hj
  ·obtain⟨u',hu',hx⟩:=hr ((k+1)*3+j) _ (zI (by omega));rw[hj]at hu';injection hu' with e;subst e
   exact hx.one
  ·cases hj
 obtain⟨A,hA,hsrc⟩:∃A:Addr,(if cap=k+1 then some (⟨g,0,none⟩:Addr)else some ⟨g,(k+1)*3,none⟩)=some A∧Hid (∀t u,news[t]? =some u→w.drew.cell? (A.add t)=some u):=by
  by_cases hc:cap=k+1
  ·refine⟨⟨g,0,none⟩,by simp[hc],Hd fun t u hu=>?_⟩;have h0:news.length=0:=by rw[hnl];omega
   rw[List.length_eq_zero_iff.1 h0]at hu;simp at hu
  ·refine⟨⟨g,(k+1)*3,none⟩,by simp[hc],Hd fun t u hu=>?_⟩;rw[hnews,xT,zZ]at hu;split at hu
   ·rw[addr_add];exact(hb.cell _).trans hu
   ·cases hu
 have hb1:=Blk.setCells news (k*3) w.drew cs hb (by rw[hnl,hlen];omega);obtain⟨W1,hW1⟩:∃W1,W1=w.drew.setCells g (k*3) news:=⟨_,rfl⟩
 rw[←hW1]at hb1;obtain⟨hb1,hg1⟩:=hb1;obtain⟨zs,hzl,hcl⟩:=run_clear_row (P:=Tryz.prog) elKind zKind (n- (n-1)) (by omega);have hcs1:(cs.take (k*3)++news++cs.drop (k*3+news.length)).length=cs.length:=by simp;omega
 have hb2:=Blk.setCells zs ((n-1)*3) W1 _ hb1 (by rw[hcs1,hzl];omega);have hrun:∀ty c,(Builtin.clear_ #[84] ty #[.slice (some ⟨g,(n-1)*3,none⟩) (n- (n-1)) c]).run Tryz.prog W1=.ok (.tuple #[]) (W1.setCells g ((n-1)*3) zs):=fun ty c=>
  hcl ty W1 g _ c (fun j hj=>by rw[hb1.cell];simp;omega) (fun j hj=>hb1.frozen _)
 have s1:Hid (news.length=(n- (k+1))*3):=Hd hnl;have s2:=Hd hone;have s3:Hid (∀t,t<news.length→(w.drew.cell? ⟨g,0+k*3+t,none⟩).isSome=true∧w.drew.frozen? ⟨g,0+k*3+t,none⟩=false):=Hd fun t ht=>by
  refine⟨?_,hb.frozen _⟩;show(w.cell? _).isSome=true
  rw[hb.cell];simp;omega
 have hW:Hid (W1=w.drew.setCells g (0+k*3) news):=Hd (by rw[Nat.zero_add];exact hW1);have hfin:OL (W1.setCells g ((n-1)*3) zs) B F 90 3 (.slice (some ⟨g,0,none⟩) (n-1) cap) (n-1) (ds.take (k*3)++ds.drop ((k+1)*3))∧w.grownBy (W1.setCells g ((n-1)*3) zs) (some g):=by
  have hg:w.grownBy (W1.setCells g ((n-1)*3) zs) (some g):=by
   have hg1':w.grownBy W1 (some g):=undrew hg1;exact⟨hb2.2.os.trans hg1'.os,hb2.2.tape.trans hg1'.tape,hb2.2.output.trans hg1'.output,zU hg1'.size hb2.2.size,fun j hj hne=>(hb2.2.block j (zF hj hg1'.size) hne).trans (hg1'.block j hj hne)⟩
  refine⟨h.cut hg hk hb hb2.1 ?_ ?_,hg⟩
  ·simp;omega
  ·rw[cut_cells (X:=(n-1)*3) (a:=k*3) (by omega) (by omega)];rw[hnews]
 have hic:k≤cap:=by omega
 have p0:(0:Int)≤(k:Int)+1:=by omega
 have p1:(k:Int)+1≤(n:Int):=by omega
 have p2:(k:Int)≤(cap:Int):=by omega
 have p3:¬cap=n-1:=by omega
 have hjc:k+1≤cap:=by omega
 have hkn:k+(n- (k+1))=n-1:=by omega
 clear hcl hb2 hb1 hg1 hcs1 hnews hone hW1 hr;replace hrun:=Hd hrun;replace hfin:=Hd hfin;go_enter Tryz.func115,Tryz.ntmps115;go_upto_region 5 with fail
 go_region_law ((refine step_append_room rfl (.tmp 22) (.tmp 25) 84 rfl 90 i0 3 elKind.sl hi0 hs0 g 0 k cap (by simp[Act.eval,Act.put]) A (n- (k+1)) (cap- (k+1)) news (by simp[Act.eval,Act.put]) s1.out hsrc.out s2.out (by omega) s3.out ?_;rw[←hW.out]))
 all_goals
  go_wp2_with (simp only[hrun.out]);go_ret;exact⟨rfl,hfin.out⟩
end evW
end Go.Proofs.YtfiodnlgiglhfaaGreatDoor
