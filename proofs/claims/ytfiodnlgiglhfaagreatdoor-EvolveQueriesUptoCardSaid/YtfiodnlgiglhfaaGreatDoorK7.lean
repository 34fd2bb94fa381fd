/- Query's answer. -/
import Derived.Test.YtfiodnlgiglhfaaGreatDoorGo
namespace Go.Proofs.YtfiodnlgiglhfaaGreatDoor
set_option maxRecDepth 100000
set_option maxHeartbeats 16000000
open Go.RowKit Go.Deep
set_option linter.unusedVariables false
set_option linter.unusedSimpArgs false
noncomputable def ansQ (S:List Td)(L:List Cg)(q:Qy):Option Qy×Int×Int:=if checkC (scC S) S q≠0 then(none,checkC (scC S) S q,0)else match lostO S q (lsTo S L L.length)with
 |some y=>(none,291,y)
 |none=>match turnedO S (mdTo S L L.length) q with
  |none=>(none,291,L.length)
  |some q'=>(some q',0,0)
theorem ans_check {S:List Td}{L:List Cg}{q:Qy}(h:checkC (scC S) S q≠0):ansQ S L q=(none,checkC (scC S) S q,0):=by unfold ansQ;rw[if_pos h]
theorem ans_lostP {S:List Td}{L:List Cg}{q:Qy}{y:Int}(h:checkC (scC S) S q=0)(h2:lostO S q (lsTo S L L.length)=some y):ansQ S L q=(none,291,y):=by unfold ansQ;rw[if_neg (by simpa using h),h2]
theorem ans_noneP {S:List Td}{L:List Cg}{q:Qy}(h:checkC (scC S) S q=0)(h2:lostO S q (lsTo S L L.length)=none)(h3:turnedO S (mdTo S L L.length) q=none):ansQ S L q=(none,291,(L.length:Int)):=by unfold ansQ;rw[if_neg (by simpa using h),h2];simp only[h3]
theorem ans_someP {S:List Td}{L:List Cg}{q q':Qy}(h:checkC (scC S) S q=0)(h2:lostO S q (lsTo S L L.length)=none)(h3:turnedO S (mdTo S L L.length) q=some q'):ansQ S L q=(some q',0,0):=by unfold ansQ;rw[if_neg (by simpa using h),h2];simp only[h3]
theorem ans_lostR {S:List Td}{L:List Cg}{q:Qy}(h:checkC (scC S) S q=0)(hok:∀i,i<L.length→okAt S L i){i:Nat}(hi:i<L.length)(h1:∀j,j<i→thereB S (mdTo S L (j+1)) (needsN q)=true)(h2:thereB S (mdTo S L (i+1)) (needsN q)=false):ansQ S L q=(none,291,(i:Int)):=by
 obtain⟨z1,_,_,_,hq⟩:=qok_of h;rcases lost_is z1 hq nR hok with⟨_,g2⟩|⟨k,g1,g2,g3,g4⟩
 ·rw[g2 i hi]at h2;cases h2
 ·have:k=i:=by
   rcases Nat.lt_trichotomy k i with h |h |h
   ·rw[h1 k h]at g4;cases g4
   ·exact h
   ·rw[g3 i h]at h2;cases h2
  subst this;exact ans_lostP h g2
theorem final_of {S:List Td}{L:List Cg}{q:Qy}(h:checkC (scC S) S q=0)(hok:∀i,i<L.length→okAt S L i)(h1:∀j,j<L.length→thereB S (mdTo S L (j+1)) (needsN q)=true):Final S (mdTo S L L.length) q:=by
 obtain⟨z1,_,_,_,hq⟩:=qok_of h;refine⟨(behind nR hok).uq,fun k hk=>?_,?_,hq,z1⟩
 ·obtain⟨_,_,hall⟩:=scC_ok (md_sc z1 hok);obtain⟨n1,_,n2⟩:=hall (tdOf k) (xJ hk);have key:∀s:ByteArray,isNm s=true→s≠emp:=fun s hs e=>by
   subst e;by_cases hn:IsNm emp
   ·exact absurd hn.pos (by decide)
   ·rw[isNm_false hn]at hs;cases hs
  exact⟨key _ n1,fun f hf=>key _ (n2 _ (xJ hf))⟩
 ·by_cases h0:L.length=0
  ·rw[there_iff z1 hq nR hok,h0];intro x hx;cases hx
  ·have:=h1 (L.length-1) (by omega);rwa [show L.length-1+1=L.length by omega]at this
theorem lost_none {S:List Td}{L:List Cg}{q:Qy}(h:checkC (scC S) S q=0)(hok:∀i,i<L.length→okAt S L i)(h1:∀j,j<L.length→thereB S (mdTo S L (j+1)) (needsN q)=true):lostO S q (lsTo S L L.length)=none:=by
 obtain⟨z1,_,_,_,hq⟩:=qok_of h;rcases lost_is z1 hq nR hok with⟨g1,_⟩|⟨k,g1,g2,g3,g4⟩
 ·exact g1
 ·rw[h1 k g1]at g4;cases g4
theorem ans_unlikeR {S:List Td}{L:List Cg}{q:Qy}(h:checkC (scC S) S q=0)(hok:∀i,i<L.length→okAt S L i)(h1:∀j,j<L.length→thereB S (mdTo S L (j+1)) (needsN q)=true)(h2:alikeB S (mdTo S L L.length) (needsN q)=false):ansQ S L q=(none,291,(L.length:Int)):=
 ans_noneP h (lost_none h hok h1) (by rw[turned_is (final_of h hok h1),h2];simp)
theorem ans_turnR {S:List Td}{L:List Cg}{q:Qy}(h:checkC (scC S) S q=0)(hok:∀i,i<L.length→okAt S L i)(h1:∀j,j<L.length→thereB S (mdTo S L (j+1)) (needsN q)=true)(h2:alikeB S (mdTo S L L.length) (needsN q)=true):ansQ S L q=(some (turnQ S (mdTo S L L.length) q),0,0):=
 ans_someP h (lost_none h hok h1) (by rw[turned_is (final_of h hok h1),h2];simp)
def QAns (S:List Td)(L:List Cg)(q:Qy)(R:Option Qy)(c a:Int):Prop:=(MdIs S L none c a∧R=none)∨(MdIs S L (some (mdTo S L L.length)) 0 0∧(R,c,a)=ansQ S L q)
theorem QAns.uniq {S:List Td}{L:List Cg}{q:Qy}{R R':Option Qy}{c c' a a':Int}(h:QAns S L q R c a)(h':QAns S L q R' c' a'):R'=R∧c'=c∧a'=a:=by
 rcases h with⟨h1,rfl⟩|⟨h1,h2⟩<;>rcases h' with⟨g1,rfl⟩|⟨g1,g2⟩
 ·obtain⟨_,e1,e2⟩:=h1.uniq g1;exact⟨rfl,e1,e2⟩
 ·obtain⟨e,_⟩:=h1.uniq g1;cases e
 ·obtain⟨e,_⟩:=h1.uniq g1;cases e
 ·rw[←h2]at g2;injection g2 with e1 e2
  injection e2 with e2 e3
  exact⟨e1,e2,e3⟩
theorem md_ok {S:List Td}{L:List Cg}{T:List Kd}{c a:Int}(h:MdIs S L (some T) c a):scC S=0∧L.length≤32∧(∀j,j<L.length→okAt S L j)∧T=mdTo S L L.length∧c=0∧a=0:=by
 rcases h with⟨_,h,_⟩|⟨_,_,h,_⟩|⟨_,_,_,_,_,_,h,_⟩|⟨h1,h2,h3,h4,h5,h6⟩
 ·cases h
 ·cases h
 ·cases h
 ·injection h4 with h4;exact⟨h1,h2,h3,h4,h5,h6⟩
theorem md_bad {S:List Td}{L:List Cg}{c a:Int}(h:MdIs S L none c a):c≠0:=by
 rcases h with⟨h0,_,rfl,_⟩|⟨_,_,_,rfl,_⟩|⟨_,_,_,_,_,_,_,rfl,_⟩|⟨_,_,_,h,_⟩
 ·exact h0
 ·omega
 ·omega
 ·cases h
theorem fi_at {α:Type}{l:List α}{p:α→Bool}{j:Nat}{x:α}(h:l[j]? =some x)(hp:p x=true)(ha:∀(i:Nat) a,l[i]? =some a→i<j→p a=false):l.findIdx? p=some j:=by
 rw[List.findIdx?_eq_some_iff_getElem];obtain⟨hj,e⟩:=zC.1 h;refine⟨hj,by rw[e];exact hp,fun i hi=>?_⟩;have:=ha i l[i] (zI (by omega)) hi;simp[this]
theorem fi_none {α:Type}{l:List α}{p:α→Bool}(ha:∀(i:Nat) a,l[i]? =some a→i<l.length→p a=false):l.findIdx? p=none:=by
 rw[List.findIdx?_eq_none_iff];intro x hx;obtain⟨i,hi⟩:=zN hx;exact ha i x hi (zC.1 hi).1
theorem fi_get {α:Type}{l:List α}{p:α→Bool}{j:Nat}(h:l.findIdx? p=some j):∃x,l[j]? =some x∧p x=true∧l.find? p=some x:=by
 rw[List.findIdx?_eq_some_iff_getElem]at h;obtain⟨hj,h1,h2⟩:=h;refine⟨l[j],zI hj,h1,?_⟩;rw[List.find?_eq_some_iff_getElem];exact⟨h1,j,hj,rfl,fun i hi=>by have:=h2 i hi;simpa using this⟩
theorem fi_no {α:Type}{l:List α}{p:α→Bool}(h:l.findIdx? p=none):l.find? p=none:=by
 rw[List.findIdx?_eq_none_iff]at h;rw[List.find?_eq_none];intro x hx;simp[h x hx]
theorem fi_any {α:Type}{l:List α}{p:α→Bool}:decide (0≤optI (l.findIdx? p))=l.any p:=by
 cases h:l.findIdx? p with
 |none=>
  rw[List.findIdx?_eq_none_iff]at h;show decide ((0:Int)≤ -1)=_
  symm
  rw[show decide ((0:Int)≤ -1)=false from rfl,List.any_eq_false];intro x hx;simp[h x hx]
 |some j=>
  obtain⟨x,hx,hp,_⟩:=fi_get h;show decide ((0:Int)≤(j:Int))=_
  rw[zW (by omega)];symm;rw[xM];exact⟨x,zA hx,hp⟩
theorem fi_map {α β:Type}{l:List α}{f:α→β}{p:β→Bool}:(l.map f).findIdx? p=l.findIdx? (fun a=>p (f a)):=by
 rw[List.findIdx?_map];rfl
namespace evW
open nmW
theorem idxKf_k (A:Option Addr)(c:Nat)(F:Nat→Prop)(l:List (Kd×Value))(p:(Kd×Value)→Bool)(q:Nat)(hl:l.length≤1048576)(w:World)(hF:∀b,F b→b<w.heap.size)(r:Rd w F (.slice A l.length c) (.sl l.length (l.flatMap kcD)))
  (hk:∀W,Bw w W→∀x∈l,Calls Tryz.prog 89 #[.agg #[.string x.1.nm,.int .i64 x.1.fr,x.2],.pointer (some ⟨q,0,none⟩)] W fun e w'=>e=.returned (.bool (p x))∧Bw W w'):
  Calls Tryz.prog 88 #[.slice A l.length c,.func (.func 89) #[] #[.pointer (some ⟨q,0,none⟩)]] w fun e w'=>e=.returned (.int .i64 (optI (l.findIdx? p)))∧Bw w w':=by
 obtain⟨b,hc⟩:∃b,b=optI (l.findIdx? p):=⟨_,rfl⟩
 rw[←hc];replace r:=Hd r;replace hc:=Hd hc;replace hk:=Hd hk;replace hF:=Hd hF;go_enter Tryz.func88,Tryz.ntmps88;go_wp2;go_loopw [5,8] (fun _ i wr=>∃j:Nat,j≤l.length∧i=.int .i64 j∧Bw w wr∧Hid (∀(i:Nat) a,l[i]? =some a→i<j→p a=false)) (fun _ i _=>l.length- (intOf i).toNat)
 case atStart=>exact⟨0,zE _,rfl,bR,fun i a h h3=>by omega⟩
 case round=>
  obtain⟨j,hj,rfl,hB,hp⟩:=hrel;by_cases hlt:j<l.length
  ·obtain⟨x,hx⟩:=getx hlt;obtain⟨g,off,rfl,_,ha,_⟩:=(r.out.under hB hF.out).rowv (m:=3) (fun _=>rfl) hx (by omega);have a0:wr.cell? ⟨g,off+j*3,none⟩=some (.string x.1.nm):=ha 0 _ rfl;have a1:wr.cell? ⟨g,off+j*3+1,none⟩=some (.int .i64 x.1.fr):=ha 1 _ rfl;have a2:wr.cell? ⟨g,off+j*3+2,none⟩=some (x.2):=ha 2 _ rfl;clear ha;have g0:(0:Int)≤(j:Int):=by omega
   have g1:(j:Int)<l.length:=by omega
   have hk':=hk.out wr hB x (zA hx);obtain⟨pb,hpb⟩:∃pb,pb=p x:=⟨_,rfl⟩
   rw[←hpb]at hk';replace hk':=Hd hk';replace hpb:=Hd hpb;replace hx:=Hd hx;cases pb with
   |true=>
    have hfin:b=(j:Int):=(by rw[hc.out,fi_at hx.out hpb.out.symm hp.out];rfl);subst hfin;go_wp2_with (go_at_call 89;refine hk'.out.mono ?_;rintro e w' ⟨rfl,hB1⟩);go_ret;exact⟨rfl,hB.trans (hB1.mono hB.size)⟩
   |false=>
    go_wp2_with (go_at_call 89;refine hk'.out.mono ?_;rintro e w' ⟨rfl,hB1⟩);go_roundw
    case rel=>
     refine⟨j+1,by omega,by go_num,hB.trans (hB1.mono hB.size),fun i a h h3=>?_⟩;by_cases hij:i=j
     ·subst hij;have:=hx.out;rw[h]at this;obtain rfl:a=x:=zq9 this;exact hpb.out.symm
     ·exact hp.out i a h (by omega)
    case measure=>simp[intOf];omega
  ·have g1:¬(j:Int)<l.length:=by omega
   obtain rfl:j=l.length:=by omega
   obtain rfl:b= -1:=by rw[hc.out,fi_none hp.out];rfl
   go_wp2;go_ret;exact⟨rfl,hB⟩
theorem idxFf_k (A:Option Addr)(c:Nat)(F:Nat→Prop)(l:List Fd)(p:Fd→Bool)(q:Nat)(hl:l.length≤1048576)(w:World)(hF:∀b,F b→b<w.heap.size)(r:Rd w F (.slice A l.length c) (.sl l.length (l.flatMap fdD)))
  (hk:∀W,Bw w W→∀x∈l,Calls Tryz.prog 95 #[.agg #[.string x.nm,.int .i64 x.fr,.int .i64 x.fl],.pointer (some ⟨q,0,none⟩)] W fun e w'=>e=.returned (.bool (p x))∧Bw W w'):
  Calls Tryz.prog 94 #[.slice A l.length c,.func (.func 95) #[] #[.pointer (some ⟨q,0,none⟩)]] w fun e w'=>e=.returned (.int .i64 (optI (l.findIdx? p)))∧Bw w w':=by
 obtain⟨b,hc⟩:∃b,b=optI (l.findIdx? p):=⟨_,rfl⟩
 rw[←hc];replace r:=Hd r;replace hc:=Hd hc;replace hk:=Hd hk;replace hF:=Hd hF;go_enter Tryz.func94,Tryz.ntmps94;go_wp2;go_loopw [5,8] (fun _ i wr=>∃j:Nat,j≤l.length∧i=.int .i64 j∧Bw w wr∧Hid (∀(i:Nat) a,l[i]? =some a→i<j→p a=false)) (fun _ i _=>l.length- (intOf i).toNat)
 case atStart=>exact⟨0,zE _,rfl,bR,fun i a h h3=>by omega⟩
 case round=>
  obtain⟨j,hj,rfl,hB,hp⟩:=hrel;by_cases hlt:j<l.length
  ·obtain⟨x,hx⟩:=getx hlt;obtain⟨g,off,rfl,_,ha,_⟩:=(r.out.under hB hF.out).rowv (m:=3) (fun _=>rfl) hx (by omega);have a0:wr.cell? ⟨g,off+j*3,none⟩=some (.string x.nm):=ha 0 _ rfl;have a1:wr.cell? ⟨g,off+j*3+1,none⟩=some (.int .i64 x.fr):=ha 1 _ rfl;have a2:wr.cell? ⟨g,off+j*3+2,none⟩=some (.int .i64 x.fl):=ha 2 _ rfl;clear ha;have g0:(0:Int)≤(j:Int):=by omega
   have g1:(j:Int)<l.length:=by omega
   have hk':=hk.out wr hB x (zA hx);obtain⟨pb,hpb⟩:∃pb,pb=p x:=⟨_,rfl⟩
   rw[←hpb]at hk';replace hk':=Hd hk';replace hpb:=Hd hpb;replace hx:=Hd hx;cases pb with
   |true=>
    have hfin:b=(j:Int):=(by rw[hc.out,fi_at hx.out hpb.out.symm hp.out];rfl);subst hfin;go_wp2_with (go_at_call 95;refine hk'.out.mono ?_;rintro e w' ⟨rfl,hB1⟩);go_ret;exact⟨rfl,hB.trans (hB1.mono hB.size)⟩
   |false=>
    go_wp2_with (go_at_call 95;refine hk'.out.mono ?_;rintro e w' ⟨rfl,hB1⟩);go_roundw
    case rel=>
     refine⟨j+1,by omega,by go_num,hB.trans (hB1.mono hB.size),fun i a h h3=>?_⟩;by_cases hij:i=j
     ·subst hij;have:=hx.out;rw[h]at this;obtain rfl:a=x:=zq9 this;exact hpb.out.symm
     ·exact hp.out i a h (by omega)
    case measure=>simp[intOf];omega
  ·have g1:¬(j:Int)<l.length:=by omega
   obtain rfl:j=l.length:=by omega
   obtain rfl:b= -1:=by rw[hc.out,fi_none hp.out];rfl
   go_wp2;go_ret;exact⟨rfl,hB⟩
theorem idxNd_k (A:Option Addr)(c:Nat)(F:Nat→Prop)(l:List Nd)(p:Nd→Bool)(q q2:Nat)(hl:l.length≤1048576)(w:World)(hF:∀b,F b→b<w.heap.size)(r:Rd w F (.slice A l.length c) (.sl l.length (l.flatMap ndD)))
  (hk:∀W,Bw w W→∀x∈l,Calls Tryz.prog 84 #[.agg #[.int .i64 x.op,.int .i64 x.n,.string x.v,.string x.at_,.int .i64 x.a,.int .i64 x.b],.pointer (some ⟨q,0,none⟩),.pointer (some ⟨q2,0,none⟩)] W fun e w'=>e=.returned (.bool (p x))∧Bw W w'):
  Calls Tryz.prog 126 #[.slice A l.length c,.func (.func 84) #[] #[.pointer (some ⟨q,0,none⟩),.pointer (some ⟨q2,0,none⟩)]] w fun e w'=>e=.returned (.int .i64 (optI (l.findIdx? p)))∧Bw w w':=by
 obtain⟨b,hc⟩:∃b,b=optI (l.findIdx? p):=⟨_,rfl⟩
 rw[←hc];replace r:=Hd r;replace hc:=Hd hc;replace hk:=Hd hk;replace hF:=Hd hF;go_enter Tryz.func126,Tryz.ntmps126;go_wp2;go_loopw [5,8] (fun _ i wr=>∃j:Nat,j≤l.length∧i=.int .i64 j∧Bw w wr∧Hid (∀(i:Nat) a,l[i]? =some a→i<j→p a=false)) (fun _ i _=>l.length- (intOf i).toNat)
 case atStart=>exact⟨0,zE _,rfl,bR,fun i a h h3=>by omega⟩
 case round=>
  obtain⟨j,hj,rfl,hB,hp⟩:=hrel;by_cases hlt:j<l.length
  ·obtain⟨x,hx⟩:=getx hlt;obtain⟨g,off,rfl,_,ha,_⟩:=(r.out.under hB hF.out).rowv (m:=6) (fun _=>rfl) hx (by omega);have a0:wr.cell? ⟨g,off+j*6,none⟩=some (.int .i64 x.op):=ha 0 _ rfl;have a1:wr.cell? ⟨g,off+j*6+1,none⟩=some (.int .i64 x.n):=ha 1 _ rfl;have a2:wr.cell? ⟨g,off+j*6+2,none⟩=some (.string x.v):=ha 2 _ rfl;have a3:wr.cell? ⟨g,off+j*6+3,none⟩=some (.string x.at_):=ha 3 _ rfl;have a4:wr.cell? ⟨g,off+j*6+4,none⟩=some (.int .i64 x.a):=ha 4 _ rfl;have a5:wr.cell? ⟨g,off+j*6+5,none⟩=some (.int .i64 x.b):=ha 5 _ rfl;clear ha;have g0:(0:Int)≤(j:Int):=by omega
   have g1:(j:Int)<l.length:=by omega
   have hk':=hk.out wr hB x (zA hx);obtain⟨pb,hpb⟩:∃pb,pb=p x:=⟨_,rfl⟩
   rw[←hpb]at hk';replace hk':=Hd hk';replace hpb:=Hd hpb;replace hx:=Hd hx;cases pb with
   |true=>
    have hfin:b=(j:Int):=(by rw[hc.out,fi_at hx.out hpb.out.symm hp.out];rfl);subst hfin;go_wp2_with (go_at_call 84;refine hk'.out.mono ?_;rintro e w' ⟨rfl,hB1⟩);go_ret;exact⟨rfl,hB.trans (hB1.mono hB.size)⟩
   |false=>
    go_wp2_with (go_at_call 84;refine hk'.out.mono ?_;rintro e w' ⟨rfl,hB1⟩);go_roundw
    case rel=>
     refine⟨j+1,by omega,by go_num,hB.trans (hB1.mono hB.size),fun i a h h3=>?_⟩;by_cases hij:i=j
     ·subst hij;have:=hx.out;rw[h]at this;obtain rfl:a=x:=zq9 this;exact hpb.out.symm
     ·exact hp.out i a h (by omega)
    case measure=>simp[intOf];omega
  ·have g1:¬(j:Int)<l.length:=by omega
   obtain rfl:j=l.length:=by omega
   obtain rfl:b= -1:=by rw[hc.out,fi_none hp.out];rfl
   go_wp2;go_ret;exact⟨rfl,hB⟩
theorem idxIt_k (A:Option Addr)(c:Nat)(F:Nat→Prop)(l:List It)(p:It→Bool)(q:Nat)(hl:l.length≤1048576)(w:World)(hF:∀b,F b→b<w.heap.size)(r:Rd w F (.slice A l.length c) (.sl l.length (l.flatMap itD)))
  (hk:∀W,Bw w W→∀x∈l,∀(A2:Option Addr)(c2:Nat),Calls Tryz.prog 92 #[.agg #[.bool x.neg,.slice A2 x.tys.length c2,.string x.v,.int .i64 x.lo,.int .i64 x.hi],.pointer (some ⟨q,0,none⟩)] W fun e w'=>e=.returned (.bool (p x))∧Bw W w'):
  Calls Tryz.prog 91 #[.slice A l.length c,.func (.func 92) #[] #[.pointer (some ⟨q,0,none⟩)]] w fun e w'=>e=.returned (.int .i64 (optI (l.findIdx? p)))∧Bw w w':=by
 obtain⟨b,hc⟩:∃b,b=optI (l.findIdx? p):=⟨_,rfl⟩
 rw[←hc];replace r:=Hd r;replace hc:=Hd hc;replace hk:=Hd hk;replace hF:=Hd hF;go_enter Tryz.func91,Tryz.ntmps91;go_wp2;go_loopw [5,8] (fun _ i wr=>∃j:Nat,j≤l.length∧i=.int .i64 j∧Bw w wr∧Hid (∀(i:Nat) a,l[i]? =some a→i<j→p a=false)) (fun _ i _=>l.length- (intOf i).toNat)
 case atStart=>exact⟨0,zE _,rfl,bR,fun i a h h3=>by omega⟩
 case round=>
  obtain⟨j,hj,rfl,hB,hp⟩:=hrel;by_cases hlt:j<l.length
  ·obtain⟨x,hx⟩:=getx hlt;obtain⟨g,off,A2,c2,rfl,_,_,a0,a1,a2,a3,a4⟩:=it_at (r.out.under hB hF.out) hx;have g0:(0:Int)≤(j:Int):=by omega
   have g1:(j:Int)<l.length:=by omega
   have hk':=hk.out wr hB x (zA hx) A2 c2;obtain⟨pb,hpb⟩:∃pb,pb=p x:=⟨_,rfl⟩
   rw[←hpb]at hk';replace hk':=Hd hk';replace hpb:=Hd hpb;replace hx:=Hd hx;cases pb with
   |true=>
    have hfin:b=(j:Int):=(by rw[hc.out,fi_at hx.out hpb.out.symm hp.out];rfl);subst hfin;go_wp2_with (go_at_call 92;refine hk'.out.mono ?_;rintro e w' ⟨rfl,hB1⟩);go_ret;exact⟨rfl,hB.trans (hB1.mono hB.size)⟩
   |false=>
    go_wp2_with (go_at_call 92;refine hk'.out.mono ?_;rintro e w' ⟨rfl,hB1⟩);go_roundw
    case rel=>
     refine⟨j+1,by omega,by go_num,hB.trans (hB1.mono hB.size),fun i a h h3=>?_⟩;by_cases hij:i=j
     ·subst hij;have:=hx.out;rw[h]at this;obtain rfl:a=x:=zq9 this;exact hpb.out.symm
     ·exact hp.out i a h (by omega)
    case measure=>simp[intOf];omega
  ·have g1:¬(j:Int)<l.length:=by omega
   obtain rfl:j=l.length:=by omega
   obtain rfl:b= -1:=by rw[hc.out,fi_none hp.out];rfl
   go_wp2;go_ret;exact⟨rfl,hB⟩
theorem idxRt_k (A:Option Addr)(c:Nat)(F:Nat→Prop)(l:List (List Nd))(p:(List Nd)→Bool)(q:Nat)(hl:l.length≤1048576)(w:World)(hF:∀b,F b→b<w.heap.size)(r:Rd w F (.slice A l.length c) (.sl l.length (l.flatMap reD)))
  (hk:∀W,Bw w W→∀x∈l,∀(A2:Option Addr)(c2:Nat),Rd W F (.slice A2 x.length c2) (.sl x.length (x.flatMap ndD))→Calls Tryz.prog 87 #[.slice A2 x.length c2,.pointer (some ⟨q,0,none⟩)] W fun e w'=>e=.returned (.bool (p x))∧Bw W w'):
  Calls Tryz.prog 127 #[.slice A l.length c,.func (.func 87) #[] #[.pointer (some ⟨q,0,none⟩)]] w fun e w'=>e=.returned (.int .i64 (optI (l.findIdx? p)))∧Bw w w':=by
 obtain⟨b,hc⟩:∃b,b=optI (l.findIdx? p):=⟨_,rfl⟩
 rw[←hc];replace r:=Hd r;replace hc:=Hd hc;replace hk:=Hd hk;replace hF:=Hd hF;go_enter Tryz.func127,Tryz.ntmps127;go_wp2;go_loopw [5,8] (fun _ i wr=>∃j:Nat,j≤l.length∧i=.int .i64 j∧Bw w wr∧Hid (∀(i:Nat) a,l[i]? =some a→i<j→p a=false)) (fun _ i _=>l.length- (intOf i).toNat)
 case atStart=>exact⟨0,zE _,rfl,bR,fun i a h h3=>by omega⟩
 case round=>
  obtain⟨j,hj,rfl,hB,hp⟩:=hrel;by_cases hlt:j<l.length
  ·obtain⟨x,hx⟩:=getx hlt;obtain⟨g,off,A2,c2,rfl,_,rx,a0⟩:=re_at (r.out.under hB hF.out) hx;have g0:(0:Int)≤(j:Int):=by omega
   have g1:(j:Int)<l.length:=by omega
   have hk':=hk.out wr hB x (zA hx) A2 c2 rx;obtain⟨pb,hpb⟩:∃pb,pb=p x:=⟨_,rfl⟩
   rw[←hpb]at hk';clear rx;replace hk':=Hd hk';replace hpb:=Hd hpb;replace hx:=Hd hx;cases pb with
   |true=>
    have hfin:b=(j:Int):=(by rw[hc.out,fi_at hx.out hpb.out.symm hp.out];rfl);subst hfin;go_wp2_with (go_at_call 87;refine hk'.out.mono ?_;rintro e w' ⟨rfl,hB1⟩);go_ret;exact⟨rfl,hB.trans (hB1.mono hB.size)⟩
   |false=>
    go_wp2_with (go_at_call 87;refine hk'.out.mono ?_;rintro e w' ⟨rfl,hB1⟩);go_roundw
    case rel=>
     refine⟨j+1,by omega,by go_num,hB.trans (hB1.mono hB.size),fun i a h h3=>?_⟩;by_cases hij:i=j
     ·subst hij;have:=hx.out;rw[h]at this;obtain rfl:a=x:=zq9 this;exact hpb.out.symm
     ·exact hp.out i a h (by omega)
    case measure=>simp[intOf];omega
  ·have g1:¬(j:Int)<l.length:=by omega
   obtain rfl:j=l.length:=by omega
   obtain rfl:b= -1:=by rw[hc.out,fi_none hp.out];rfl
   go_wp2;go_ret;exact⟨rfl,hB⟩
theorem conNd_k (A:Option Addr)(c:Nat)(l:List Nd)(p:Nd→Bool)(q q2:Nat)(w:World)
  (hk:Calls Tryz.prog 126 #[.slice A l.length c,.func (.func 84) #[] #[.pointer (some ⟨q,0,none⟩),.pointer (some ⟨q2,0,none⟩)]] w fun e w'=>e=.returned (.int .i64 (optI (l.findIdx? p)))∧Bw w w'):
  Calls Tryz.prog 85 #[.slice A l.length c,.func (.func 84) #[] #[.pointer (some ⟨q,0,none⟩),.pointer (some ⟨q2,0,none⟩)]] w fun e w'=>e=.returned (.bool (l.any p))∧Bw w w':=by
 rw[←fi_any];generalize optI (l.findIdx? p)=b at*;replace hk:=Hd hk;go_enter Tryz.func85,Tryz.ntmps85;go_wp2_with (go_at_call 126;refine hk.out.mono ?_;rintro e w' ⟨rfl,hB1⟩);go_ret;exact⟨rfl,hB1⟩
theorem conRt_k (A:Option Addr)(c:Nat)(l:List (List Nd))(p:(List Nd)→Bool)(q:Nat)(w:World)
  (hk:Calls Tryz.prog 127 #[.slice A l.length c,.func (.func 87) #[] #[.pointer (some ⟨q,0,none⟩)]] w fun e w'=>e=.returned (.int .i64 (optI (l.findIdx? p)))∧Bw w w'):
  Calls Tryz.prog 86 #[.slice A l.length c,.func (.func 87) #[] #[.pointer (some ⟨q,0,none⟩)]] w fun e w'=>e=.returned (.bool (l.any p))∧Bw w w':=by
 rw[←fi_any];generalize optI (l.findIdx? p)=b at*;replace hk:=Hd hk;go_enter Tryz.func86,Tryz.ntmps86;go_wp2_with (go_at_call 127;refine hk.out.mono ?_;rintro e w' ⟨rfl,hB1⟩);go_ret;exact⟨rfl,hB1⟩
theorem index_k (A:Option Addr)(c:Nat)(F:Nat→Prop)(l:List ByteArray)(s:ByteArray)(hl:l.length≤1048576)(w:World)(r:Rd w F (.slice A l.length c) (.sl l.length (l.flatMap strD))):
  Calls Tryz.prog 83 #[.slice A l.length c,.string s] w fun e w'=>e=.returned (.int .i64 (optI (l.findIdx? fun m=>decide (m=s))))∧w'=w:=by
 obtain⟨b,hc⟩:∃b,b=optI (l.findIdx? fun m=>decide (m=s)):=⟨_,rfl⟩
 rw[←hc];replace r:=Hd r;replace hc:=Hd hc;go_enter Tryz.func83,Tryz.ntmps83;go_wp2;go_loopw [5,8] (fun _ i wr=>∃j:Nat,j≤l.length∧i=.int .i64 j∧wr=w∧Hid (∀(i:Nat) a,l[i]? =some a→i<j→decide (a=s)=false)) (fun _ i _=>l.length- (intOf i).toNat)
 case atStart=>exact⟨0,zE _,rfl,rfl,fun i a h h3=>by omega⟩
 case round=>
  obtain⟨j,hj,rfl,rfl,hp⟩:=hrel;by_cases hlt:j<l.length
  ·obtain⟨x,hx⟩:=getx hlt;obtain⟨g,off,rfl,_,a0⟩:=str_at r.out hx;have g0:(0:Int)≤(j:Int):=by omega
   have g1:(j:Int)<l.length:=by omega
   replace hx:=Hd hx;by_cases hu:x=s
   ·have hu':(s.toList==x.toList)=true:=(by rw[bqb];exact zW hu.symm);have hfin:b=(j:Int):=by rw[hc.out,fi_at hx.out (zW hu) hp.out];rfl
    subst hfin;replace hu:=Hd hu;go_wp2;go_ret;exact⟨rfl,rfl⟩
   ·have hu':(s.toList==x.toList)=false:=(by rw[bqb];exact zV (fun e=>hu e.symm));replace hu:=Hd hu;go_wp2;go_roundw
    case rel=>
     refine⟨j+1,by omega,by go_num,by first|exact rfl |exact trivial,fun i a h h3=>?_⟩;by_cases hij:i=j
     ·subst hij;have:=hx.out;rw[h]at this;obtain rfl:a=x:=zq9 this;exact zV hu.out
     ·exact hp.out i a h (by omega)
    case measure=>simp[intOf];omega
  ·have g1:¬(j:Int)<l.length:=by omega
   obtain rfl:j=l.length:=by omega
   obtain rfl:b= -1:=by rw[hc.out,fi_none hp.out];rfl
   go_wp2;go_ret;exact⟨rfl,rfl⟩
theorem contains_k (A:Option Addr)(c:Nat)(F:Nat→Prop)(l:List ByteArray)(s:ByteArray)(hl:l.length≤1048576)(w:World)(r:Rd w F (.slice A l.length c) (.sl l.length (l.flatMap strD))):
  Calls Tryz.prog 42 #[.slice A l.length c,.string s] w fun e w'=>e=.returned (.bool (l.any fun m=>decide (m=s)))∧w'=w:=by
 have hk:=index_k A c F l s hl w r;rw[←fi_any];generalize optI (l.findIdx? fun m=>decide (m=s))=b at*;replace hk:=Hd hk;clear r;go_enter Tryz.func42,Tryz.ntmps42;go_wp2_with (go_at_call 83;refine hk.out.mono ?_;rintro e w' ⟨rfl,rfl⟩);go_ret;exact⟨rfl,rfl⟩
end evW
def tnV (A:Option Addr)(n c g:Nat)(q:Qy)(s:Sl3):List Value:=[.slice A n c,.pointer (some ⟨g,0,none⟩),.slice s.a1 q.items.length s.c1,.int .i64 q.mode,.int .i64 q.after,.slice s.a2 q.wh.length s.c2,.int .i64 q.within,.string q.by_,.slice s.a3 q.ret.length s.c3]
structure TX (w:World)(B gt g:Nat)(F:Nat→Prop)(A:Option Addr)(c:Nat)(S:List Td)(T:List Kd)(nl:List Ls)(q:Qy)(s:Sl3):Prop where
 bt:Blk w gt 64 (tnV A S.length c g q s)
 ds:DS w B g T nl
 rs:Rd w F (.slice A S.length c) (.sl S.length (S.flatMap tdD))
 qr:QR w F q s
section
variable {w W:World}{B gt g:Nat}{F:Nat→Prop}{A:Option Addr}{c:Nat}{S:List Td}{T:List Kd}{nl:List Ls}{q:Qy}{s:Sl3}
theorem DS.stay (h:DS w B g T nl)(hb:Bw w W):DS W B g T nl:=by
 obtain⟨vk,vl,by_,l,hD,h1⟩:=h;exact⟨vk,vl,by_,l,hD.stay hb,h1⟩
theorem TX.stay (h:TX w B gt g F A c S T nl q s)(hb:Bw w W):TX W B gt g F A c S T nl q s:=⟨h.bt.stay hb,h.ds.stay hb,h.rs.under hb h.qr.lt,h.qr.under hb⟩
theorem TX.cells (h:TX w B gt g F A c S T nl q s):w.cell? ⟨gt,0,none⟩=some (.slice A S.length c)∧w.cell? ⟨gt,1,none⟩=some (.pointer (some ⟨g,0,none⟩))∧w.cell? ⟨gt,2,none⟩=some (.slice s.a1 q.items.length s.c1)∧w.cell? ⟨gt,3,none⟩=some (.int .i64 q.mode)∧
  w.cell? ⟨gt,4,none⟩=some (.int .i64 q.after)∧w.cell? ⟨gt,5,none⟩=some (.slice s.a2 q.wh.length s.c2)∧w.cell? ⟨gt,6,none⟩=some (.int .i64 q.within)∧w.cell? ⟨gt,7,none⟩=some (.string q.by_)∧w.cell? ⟨gt,8,none⟩=some (.slice s.a3 q.ret.length s.c3):=
 ⟨h.bt.cell 0,h.bt.cell 1,h.bt.cell 2,h.bt.cell 3,h.bt.cell 4,h.bt.cell 5,h.bt.cell 6,h.bt.cell 7,h.bt.cell 8⟩
end
namespace evW
open nmW
theorem reads_k (x:Nd)(v a:ByteArray)(q q2:Nat)(W:World)(hq:W.cell? ⟨q,2,none⟩=some (.string v))(hq2:W.cell? ⟨q2,0,none⟩=some (.string a)):
  Calls Tryz.prog 84 #[.agg #[.int .i64 x.op,.int .i64 x.n,.string x.v,.string x.at_,.int .i64 x.a,.int .i64 x.b],.pointer (some ⟨q,0,none⟩),.pointer (some ⟨q2,0,none⟩)] W fun e w'=>e=.returned (.bool (readsB v a x))∧Bw W w':=by
 have hb:=Hd ((zB W.heap.size W).alloc nR (.cells ⟨[.int .i64 x.op,.int .i64 x.n,.string x.v,.string x.at_,.int .i64 x.a,.int .i64 x.b]⟩ 81));have h1:=zX W _ hq;have h2:=zX W _ hq2;have h1:q<W.heap.size:=h1;have h2:q2<W.heap.size:=h2;have hne:q≠W.heap.size:=by omega
 have hne2:q2≠W.heap.size:=by omega
 have hr:readsB v a x=((x.v.toList==v.toList)&&(x.at_.toList==a.toList)):=by unfold readsB;rw[bqb,bqb]
 rw[hr];clear hr;obtain⟨b1,hb1⟩:∃b,b=(x.v.toList==v.toList):=⟨_,rfl⟩
 rw[←hb1];replace hb1:=hb1.symm;cases b1 with
 |true=>
  go_enter Tryz.func84,Tryz.ntmps84;go_wp2;go_ret;exact⟨rtB (by simp),hb.out⟩
 |false=>
  go_enter Tryz.func84,Tryz.ntmps84;go_wp2;go_ret;exact⟨rtB (by simp),hb.out⟩
theorem rets_k (A2:Option Addr)(c2:Nat)(F:Nat→Prop)(t:List Nd)(v a:ByteArray)(q q2 q3:Nat)(ht:t.length≤1048576)(W:World)(hF:∀b,F b→b<W.heap.size)(r:Rd W F (.slice A2 t.length c2) (.sl t.length (t.flatMap ndD)))(hq:W.cell? ⟨q,2,none⟩=some (.string v))(hq2:W.cell? ⟨q2,0,none⟩=some (.string a))
  (hq3:W.cell? ⟨q3,0,none⟩=some (.func (.func 84) #[] #[.pointer (some ⟨q,0,none⟩),.pointer (some ⟨q2,0,none⟩)])):
  Calls Tryz.prog 87 #[.slice A2 t.length c2,.pointer (some ⟨q3,0,none⟩)] W fun e w'=>e=.returned (.bool (t.any (readsB v a)))∧Bw W w':=by
 have h1:=zX W _ hq;have h2:=zX W _ hq2;have hk:=Hd (conNd_k A2 c2 t (readsB v a) q q2 W (idxNd_k A2 c2 F t (readsB v a) q q2 ht W hF r fun W2 hW2 x _=>reads_k x v a q q2 W2 ((hW2.cell (p:=⟨q,2,none⟩) h1).trans hq) ((hW2.cell (p:=⟨q2,0,none⟩) h2).trans hq2)));clear r hq hq2 h1 h2;go_enter Tryz.func87,Tryz.ntmps87;go_wp2_with (go_at_call 85;refine hk.out.mono ?_;rintro e w' ⟨rfl,hB1⟩);go_ret;exact⟨rfl,hB1⟩
theorem needs_k {w:World}{B gt g:Nat}{F:Nat→Prop}{A:Option Addr}{c:Nat}{S:List Td}{T:List Kd}{nl:List Ls}{q:Qy}{s:Sl3}(h:TX w B gt g F A c S T nl q s)(hs:SzQ q)(it:It)(u:Value)(hu:u.oneCell'=true)(a:ByteArray):
  Calls Tryz.prog 43 #[.pointer (some ⟨gt,0,none⟩),.agg ⟨itV it u⟩,.string a] w fun e w'=>e=.returned (.bool (ndsA q it.v a))∧Bw w w':=by
 obtain⟨x0,x1,x2,x3,x4,x5,x6,x7,x8⟩:=h.cells;have hgt:=h.bt.lt;obtain⟨W0,hW0⟩:∃W0,W0=(((w.alloc (.cells ⟨itV it u⟩ 54)).alloc (.cells ⟨[.string a]⟩ 9)).alloc (.cells ⟨[.func (.func 84) #[] #[.pointer (some ⟨w.heap.size,0,none⟩),.pointer (some ⟨w.heap.size+1,0,none⟩)]]⟩ 144)):=⟨_,rfl⟩
 have hB0:Bw w W0:=by rw[hW0];exact((bA).alloc (by simp) _).alloc (by simp;omega) _
 have hq1:W0.cell? ⟨w.heap.size,2,none⟩=some (.string it.v):=by rw[hW0];exact(((Blk.new w 54 (itV it u)).alloc _).alloc _).cell 2
 have hq2:W0.cell? ⟨w.heap.size+1,0,none⟩=some (.string a):=by
  rw[hW0];exact((Blk.new' (w:=w.alloc (.cells ⟨itV it u⟩ 54)) (t:=9) (cs:=[.string a]) (by simp)).alloc _).cell 0
 have hq3:W0.cell? ⟨w.heap.size+2,0,none⟩=some (.func (.func 84) #[] #[.pointer (some ⟨w.heap.size,0,none⟩),.pointer (some ⟨w.heap.size+1,0,none⟩)]):=by
  rw[hW0];exact(Blk.new' (w:=(w.alloc (.cells ⟨itV it u⟩ 54)).alloc (.cells ⟨[.string a]⟩ 9)) (t:=144) (cs:=[.func (.func 84) #[] #[.pointer (some ⟨w.heap.size,0,none⟩),.pointer (some ⟨w.heap.size+1,0,none⟩)]]) (by simp)).cell 0
 have hs0:W0.heap.size=w.heap.size+3:=by rw[hW0];simp
 have hX0:=h.stay hB0;obtain⟨y0,y1,y2,y3,y4,y5,y6,y7,y8⟩:=hX0.cells;have kw:∀W,Bw W0 W→Calls Tryz.prog 85 #[.slice s.a2 q.wh.length s.c2,.func (.func 84) #[] #[.pointer (some ⟨w.heap.size,0,none⟩),.pointer (some ⟨w.heap.size+1,0,none⟩)]] W fun e w'=>e=.returned (.bool (q.wh.any (readsB it.v a)))∧Bw W w':=fun W hW=>
  conNd_k s.a2 s.c2 q.wh (readsB it.v a) w.heap.size (w.heap.size+1) W (idxNd_k s.a2 s.c2 F q.wh (readsB it.v a) w.heap.size (w.heap.size+1) hs.wh.1 W (hX0.qr.under hW).lt (hX0.qr.under hW).r2 fun W2 hW2 x _=>reads_k x it.v a w.heap.size (w.heap.size+1) W2 ((hW2.cell (p:=⟨w.heap.size,2,none⟩) (by have:=hW.size;simp;omega)).trans ((hW.cell (p:=⟨w.heap.size,2,none⟩) (by simp;omega)).trans hq1)) ((hW2.cell (p:=⟨w.heap.size+1,0,none⟩) (by have:=hW.size;simp;omega)).trans ((hW.cell (p:=⟨w.heap.size+1,0,none⟩) (by simp;omega)).trans hq2)))
 have kr:∀W,Bw W0 W→Calls Tryz.prog 86 #[.slice s.a3 q.ret.length s.c3,.func (.func 87) #[] #[.pointer (some ⟨w.heap.size+2,0,none⟩)]] W fun e w'=>e=.returned (.bool (q.ret.any fun t=>t.any (readsB it.v a)))∧Bw W w':=fun W hW=>
  conRt_k s.a3 s.c3 q.ret (fun t=>t.any (readsB it.v a)) (w.heap.size+2) W (idxRt_k s.a3 s.c3 F q.ret (fun t=>t.any (readsB it.v a)) (w.heap.size+2) hs.rl W (hX0.qr.under hW).lt (hX0.qr.under hW).r3 fun W2 hW2 t ht A2 c2 rt=>rets_k A2 c2 F t it.v a w.heap.size (w.heap.size+1) (w.heap.size+2) (hs.re t ht).1 W2 (fun b hb=>zF ((hX0.qr.under hW).lt b hb) hW2.size) rt
   ((hW2.cell (p:=⟨w.heap.size,2,none⟩) (by have:=hW.size;simp;omega)).trans ((hW.cell (p:=⟨w.heap.size,2,none⟩) (by simp;omega)).trans hq1)) ((hW2.cell (p:=⟨w.heap.size+1,0,none⟩) (by have:=hW.size;simp;omega)).trans ((hW.cell (p:=⟨w.heap.size+1,0,none⟩) (by simp;omega)).trans hq2)) ((hW2.cell (p:=⟨w.heap.size+2,0,none⟩) (by have:=hW.size;simp;omega)).trans ((hW.cell (p:=⟨w.heap.size+2,0,none⟩) (by simp;omega)).trans hq3)))
 have hmf:∀(fn:Fn) (first cap:Array Value) (w:World),(Instr.makeFunc fn first cap).run Tryz.prog w=.ok (.func fn first cap) w:=fun _ _ _ _=>rfl
 have hnd:ndsA q it.v a=((q.by_.toList==a.toList)||(q.wh.any (readsB it.v a)||q.ret.any fun t=>t.any (readsB it.v a))):=by unfold ndsA;rw[bqb]
 rw[hnd];generalize q.wh.any (readsB it.v a)=b2 at*;generalize (q.ret.any fun t=>t.any (readsB it.v a))=b3 at*;have kc:∀W,Bw W0 W→W.cell? ⟨gt,7,none⟩=some (.string q.by_)∧W.cell? ⟨w.heap.size+1,0,none⟩=some (.string a)∧W.cell? ⟨gt,5,none⟩=some (.slice s.a2 q.wh.length s.c2)∧W.cell? ⟨w.heap.size+2,0,none⟩=some (.func (.func 84) #[] #[.pointer (some ⟨w.heap.size,0,none⟩),.pointer (some ⟨w.heap.size+1,0,none⟩)])∧W.cell? ⟨gt,8,none⟩=some (.slice s.a3 q.ret.length s.c3):=fun W hW=>
  ⟨(hW.cell (p:=⟨gt,7,none⟩) (by simp;omega)).trans y7,(hW.cell (p:=⟨w.heap.size+1,0,none⟩) (by simp;omega)).trans hq2,(hW.cell (p:=⟨gt,5,none⟩) (by simp;omega)).trans y5,(hW.cell (p:=⟨w.heap.size+2,0,none⟩) (by simp;omega)).trans hq3,(hW.cell (p:=⟨gt,8,none⟩) (by simp;omega)).trans y8⟩
 obtain⟨b1,hb1⟩:∃b,b=(q.by_.toList==a.toList):=⟨_,rfl⟩
 rw[←hb1];replace hb1:=hb1.symm;clear x0 x1 x2 x3 x4 x5 x6 x7 x8 y0 y1 y2 y3 y4 y5 y6 y7 y8 hq1 hq2 hq3 hnd hX0 h hs;obtain⟨A1,c1,A2,c2,A3,c3⟩:=s;simp only[itV]at hW0 kw kr kc ⊢;have hWW:=Hd hW0;replace kw:=Hd kw;replace kr:=Hd kr;replace kc:=Hd kc;replace hB0:=Hd hB0;replace hs0:=Hd hs0;clear hW0;go_enter Tryz.func43,Tryz.ntmps43;go_upto_region 2 with fail
 have e2:w.heap.size+1+1=w.heap.size+2:=rfl;rw[e2];rw[←hWW.out];clear e2;obtain⟨y7,z2,y5,z3,y8⟩:=kc.out W0 bR;cases b1 with
 |true=>
  go_quiet (fail);go_wp2;go_ret;exact⟨rtB (by simp),below_drewN hB0.out _⟩
 |false=>
  have hSS:(W0.drew.cell? ⟨gt,7,none⟩=some (.string q.by_)∧W0.drew.cell? ⟨w.heap.size+1,0,none⟩=some (.string a)∧W0.drew.cell? ⟨gt,5,none⟩=some (.slice A2 q.wh.length c2)∧W0.drew.cell? ⟨w.heap.size+2,0,none⟩=some (.func (.func 84) #[] #[.pointer (some ⟨w.heap.size,0,none⟩),.pointer (some ⟨w.heap.size+1,0,none⟩)])∧W0.drew.cell? ⟨gt,8,none⟩=some (.slice A3 q.ret.length c3))∧True:=⟨⟨y7,z2,y5,z3,y8⟩,trivial⟩;refine G_region (p:=100) (S0:=fun W=>W.cell? ⟨gt,7,none⟩=some (.string q.by_)∧W.cell? ⟨w.heap.size+1,0,none⟩=some (.string a)∧W.cell? ⟨gt,5,none⟩=some (.slice A2 q.wh.length c2)∧W.cell? ⟨w.heap.size+2,0,none⟩=some (.func (.func 84) #[] #[.pointer (some ⟨w.heap.size,0,none⟩),.pointer (some ⟨w.heap.size+1,0,none⟩)])∧W.cell? ⟨gt,8,none⟩=some (.slice A3 q.ret.length c3)) (S1:=fun _=>True) (by kernel_rfl) ?_;refine' TkA 0 rfl hSS ?_;refine' TkA 1 rfl hSS ?_;refine' TkA 2 rfl hSS ?_;refine' TkA 3 rfl hSS ?_;refine' TkA 4 rfl hSS ?_;refine' TkA 5 rfl hSS ?_;refine' TkA 6 rfl hSS ?_;refine' TkA 7 rfl hSS ?_;refine' TkA 8 rfl hSS ?_;refine' TkA 9 rfl hSS ?_;refine' TkA 10 rfl hSS ?_;refine' TkA 11 rfl hSS ?_;refine' TkA 12 rfl hSS ?_;refine' TkA 13 rfl hSS ?_;try simp only[Act.put,TkS]
  refine Gs 14 rfl fun K hK=>?_
  go_simp;go_at_call 85;refine(kw.out W0.drew (bR).drew).mono ?_;rintro e w2 ⟨rfl,hB2⟩;have hW2:=Hd ((zB W0.heap.size W0).drew.trans hB2);refine hK.out _ _ ⟨kc.out w2 hW2.out,fun _=>trivial⟩ ?_;have hST:_∧True:=⟨kc.out w2 hW2.out,trivial⟩;clear hK K hSS hB2;try simp only[Act.put,TkS]
  cases b2 with
  |true=>
   refine' TkA 15 rfl hST ?_;refine' TkA 16 rfl hST ?_;try simp only[Act.put,TkS]
   refine' G_take0 (i:=17) (v:=_) rfl (by decide) (by kernel_rfl) (by kernel_rfl) (by kernel_rfl) (fun _ _ _ h=>h) hST (.inr ⟨by go_simp,rfl⟩) ?restb17;try simp only[Act.put,TkS]
   refine' G_take0 (i:=18) (v:=_) rfl (by decide) (by kernel_rfl) (by kernel_rfl) (by kernel_rfl) (fun _ _ _ h=>h) hST (.inr ⟨by go_simp,rfl⟩) ?restb18;try simp only[Act.put,TkS]
   refine' G_take0 (i:=19) (v:=_) rfl (by decide) (by kernel_rfl) (by kernel_rfl) (by kernel_rfl) (fun _ _ _ h=>h) hST (.inr ⟨by go_simp,rfl⟩) ?restb19;try simp only[Act.put,TkS]
   refine' G_take0 (i:=20) (v:=_) rfl (by decide) (by kernel_rfl) (by kernel_rfl) (by kernel_rfl) (fun _ _ _ h=>h) hST (.inr ⟨by go_simp,rfl⟩) ?restb20;try simp only[Act.put,TkS]
   refine' G_take0 (i:=21) (v:=_) rfl (by decide) (by kernel_rfl) (by kernel_rfl) (by kernel_rfl) (fun _ _ _ h=>h) hST (.inr ⟨by go_simp,rfl⟩) ?restb21;try simp only[Act.put,TkS]
   refine' G_take0 (i:=22) (v:=_) rfl (by decide) (by kernel_rfl) (by kernel_rfl) (by kernel_rfl) (fun _ _ _ h=>h) hST (.inr ⟨by go_simp,rfl⟩) ?restb22;try simp only[Act.put,TkS]
   refine' G_take0 (i:=23) (v:=_) rfl (by decide) (by kernel_rfl) (by kernel_rfl) (by kernel_rfl) (fun _ _ _ h=>h) hST (.inr ⟨by go_simp,rfl⟩) ?restb23;refine' TkA 24 rfl hST ?_;try simp only[Act.put,TkS]
   refine Gs 25 rfl fun K hK=>?_
   go_simp;refine hK.out _ _ ⟨hST.1,fun _=>trivial⟩ ?_;clear hK K;refine Gd _ ?_;try simp only[Act.put,TkS]
   clear hST;go_wp2;go_ret;exact⟨rtB (by simp),hB0.out.trans (hW2.out.mono (by rw[hs0.out];omega))⟩
  |false=>
   refine' TkA 15 rfl hST ?_;refine' TkA 16 rfl hST ?_;refine' TkA 17 rfl hST ?_;refine' TkA 18 rfl hST ?_;refine' TkA 19 rfl hST ?_;refine' TkA 20 rfl hST ?_;refine' TkA 21 rfl hST ?_;refine' TkA 22 rfl hST ?_;try simp only[Act.put,TkS]
   refine Gs 23 rfl fun K hK=>?_
   go_simp;go_at_call 86;refine(kr.out w2 hW2.out).mono ?_;rintro e w3 ⟨rfl,hB3⟩;have hW3:=Hd (hW2.out.trans (hB3.mono hW2.out.size));refine hK.out _ _ ⟨kc.out w3 hW3.out,fun _=>trivial⟩ ?_;have hSU:_∧True:=⟨kc.out w3 hW3.out,trivial⟩;clear hK K hST hB3;refine' TkA 24 rfl hSU ?_;try simp only[Act.put,TkS]
   refine Gs 25 rfl fun K hK=>?_
   go_simp;refine hK.out _ _ ⟨hSU.1,fun _=>trivial⟩ ?_;clear hK K;refine Gd _ ?_;try simp only[Act.put,TkS]
   clear hSU;go_wp2;go_ret;exact⟨rtB (by simp),hB0.out.trans (hW3.out.mono (by rw[hs0.out];omega))⟩
end evW
end Go.Proofs.YtfiodnlgiglhfaaGreatDoor
