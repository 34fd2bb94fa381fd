/- The conjuncts of a tree. -/
import Derived.Test.YthaabihjeomipaaGreatDoorQSc5
import Derived.Lib.ItoaNum
namespace Go.Proofs.YthaabihjeomipaaGreatDoor
set_option maxRecDepth 100000
set_option maxHeartbeats 16000000
open Go.RowKit Go.Deep
set_option linter.unusedVariables false
set_option linter.unusedSimpArgs false
def opAt (t:List Nd)(i:Nat):Int:=match t[i]? with |some x=>x.op |none=>0
def kidA (t:List Nd)(i:Nat):Nat:=match t[i]? with |some x=>x.a.toNat |none=>0
def kidB (t:List Nd)(i:Nat):Nat:=match t[i]? with |some x=>x.b.toNat |none=>0
def cjF (t:List Nd):Nat→Nat→List Nat
 |0,r=>[r]
 |n+1,r=>if opAt t r=25 then cjF t n (kidA t r)++cjF t n (kidB t r)else [r]
theorem cjF_mono {t:List Nd}{b r:Nat}(h:Sp t b r):∀{n m:Nat},r-b≤n→r-b≤m→cjF t n r=cjF t m r:=by
 induction h with
 |lf hx h1 h2 h3=>
  rename_i i x;intro n m _ _;have ho:opAt t i≠25:=by unfold opAt;rw[hx];simp[isLf]at h1 ⊢;omega
  cases n<;>cases m<;>simp[cjF,ho]
 |un hx h1 h2 h3 hs ih=>
  rename_i b j x;intro n m _ _;have ho:opAt t (j+1)≠25:=by unfold opAt;rw[hx];simp[isUn]at h1 ⊢;omega
  cases n<;>cases m<;>simp[cjF,ho]
 |bi hx h1 h2 h3 hs1 hs2 ih1 ih2=>
  rename_i b m' j x;intro n m hn hm;have l1:=hs1.le;have l2:=hs2.le;have hA:kidA t (j+1)=m':=by unfold kidA;rw[hx];simp[h2]
  have hB:kidB t (j+1)=j:=by unfold kidB;rw[hx];simp[h3]
  cases n with
  |zero=>omega
  |succ n=>
   cases m with
   |zero=>omega
   |succ m=>
    simp only[cjF,hA,hB];rw[ih1 (n:=n) (m:=m) oQ oQ,ih2 (n:=n) (m:=m) oQ oQ]
theorem range'_split (b m r:Nat)(h1:b≤m+1)(h2:m≤r):List.range' b (r+1-b)=List.range' b (m+1-b)++List.range' (m+1) (r-m):=by
 rw[show r+1-b=(m+1-b)+(r-m) by omega,←List.range'_append_1,show b+(m+1-b)=m+1 by omega]
theorem Sp.conj {t:List Nd}{b r:Nat}(h:Sp t b r)(ha:AllSp t t.length){g:Nat→Bool}(hg:∀i,i<t.length→g i=(match upF t t.length i with | .ofNat k=>g k&&decide (opAt t k=25)| .negSucc _=>true)):
  ∀{n:Nat},r-b≤n→(List.range' b (r+1-b)).filter (fun i=>g i&& !decide (opAt t i=25))=if g r=true then cjF t n r else []:=by
 induction h with
 |lf hx h1 h2 h3=>
  rename_i i x;intro n _;have ho:opAt t i≠25:=by unfold opAt;rw[hx];simp[isLf]at h1 ⊢;omega
  have e:i+1-i=1:=oQ;rw[e];cases n<;>cases hgi:g i<;>simp[List.range',cjF,ho,hgi]
 |un hx h1 h2 h3 hs ih=>
  rename_i b j x;intro n hn;have hl:=hs.le;have ho:opAt t (j+1)≠25:=by unfold opAt;rw[hx];simp[isUn]at h1 ⊢;omega
  have hsp:Sp t b (j+1):=.un hx h1 h2 h3 hs;have hlt:=hsp.lt;have hup:upF t t.length j=((j+1:Nat):Int):=by
   obtain⟨i,a1,a2,a3,_⟩:=hsp.upIn ha (j:=j) oQ oQ;rw[a1];congr 1;omega
  have hgj:g j=false:=by rw[hg j oQ,hup];show(g (j+1)&&decide (opAt t (j+1)=25))=false;rw[zV ho];simp
  rw[range'_split b j (j+1) oQ oQ,List.filter_append,ih (n:=n) oQ,hgj];have e:j+1-j=1:=oQ;rw[e];cases n<;>cases hgi:g (j+1)<;>simp[List.range',cjF,ho,hgi]
 |bi hx h1 h2 h3 hs1 hs2 ih1 ih2=>
  rename_i b m j x;intro n hn;have l1:=hs1.le;have l2:=hs2.le;have hsp:Sp t b (j+1):=.bi hx h1 h2 h3 hs1 hs2;have hlt:=hsp.lt;have hA:kidA t (j+1)=m:=by unfold kidA;rw[hx];simp[h2]
  have hB:kidB t (j+1)=j:=by unfold kidB;rw[hx];simp[h3]
  have hupj:upF t t.length j=((j+1:Nat):Int):=by
   obtain⟨i,a1,a2,a3,_⟩:=hsp.upIn ha (j:=j) oQ oQ;rw[a1];congr 1;omega
  have hupm:upF t t.length m=((j+1:Nat):Int):=by
   obtain⟨i,a1,a2,a3,a4⟩:=hsp.upIn ha (j:=m) oQ oQ;rw[a1];congr 1;rcases Nat.lt_or_ge i (j+1)with h5 |h5
   ·have:=hs2.kidIn ha (i:=i) (j:=m) oQ oQ a4;omega
   ·omega
  have hgj:g j=(g (j+1)&&decide (opAt t (j+1)=25)):=by rw[hg j oQ,hupj]
  have hgm:g m=(g (j+1)&&decide (opAt t (j+1)=25)):=by rw[hg m oQ,hupm]
  rw[range'_split b j (j+1) oQ oQ,range'_split b m j oQ oQ,List.filter_append,List.filter_append];have e1:j-m=j+1- (m+1):=oQ;have e2:j+1-j=1:=oQ;rw[e1,e2];cases n with
  |zero=>omega
  |succ n=>
   rw[ih1 (n:=n) oQ,ih2 (n:=n) oQ,hgj,hgm];by_cases ho:opAt t (j+1)=25
   ·cases hgi:g (j+1)<;>simp[List.range',cjF,ho,hgi,hA,hB]
   ·cases hgi:g (j+1)<;>simp[List.range',cjF,ho,hgi]
def conjs (t:List Nd):List Nat:=cjF t t.length (t.length-1)
theorem conjs_eq {t:List Nd}(h:treeB t=true){g:Nat→Bool}(hg:∀i,i<t.length→g i=(match upF t t.length i with | .ofNat k=>g k&&decide (opAt t k=25)| .negSucc _=>true)):
  (List.range t.length).filter (fun i=>g i&& !decide (opAt t i=25))=conjs t:=by
 obtain⟨⟨n,hn,hsp⟩,ha,_⟩:=treeB_sp h;have:=hsp.conj ha hg (n:=t.length) oQ;rw[hn]at this ⊢;have hr:g n=true:=by
  rw[hg n oQ,hn];rcases upF_cases t (n+1) n with⟨h1,_⟩|⟨i,hi⟩
  ·rw[h1];rfl
  ·obtain⟨c1,c2,_⟩:=upF_some hi;obtain⟨b',hb'⟩:=ha i oQ;have:=(hb'.kids c2).2;omega
 rw[if_pos hr]at this;rw[List.range_eq_range',conjs,hn];simpa using this
def shiftN (b:Nat)(x:Nd):Nd:={x with a:=if 0≤x.a then x.a-b else x.a,b:=if 0≤x.b then x.b-b else x.b}
def subL (t:List Nd)(b r:Nat):List Nd:=((t.drop b).take (r+1-b)).map (shiftN b)
def arI (o:Int):Int:=if isLf o=true then 0 else if isUn o=true then 1 else if isBi o=true then 2 else -1
theorem aggNd:AggT Tryz.prog 96 6:=⟨_,Tryz.underlying96,rfl,kQ⟩
theorem emp_eq (s:ByteArray):(s.toList==([]:List UInt8))=decide (s=emp):=by
 have:=nmW.bqb s emp;rwa [show emp.toList=[] by rw[ByteArray.toList_eq];rfl]at this
theorem fb_n {x:Nd}(h:(if x.op=1 then decide (0≤x.n)else decide (x.n=0))=false):fieldsB x=false:=by unfold fieldsB;rw[h];rfl
theorem fb_v {x:Nd}(h:(if isVar x.op=true then isNm x.v else decide (x.v=emp))=false):fieldsB x=false:=by unfold fieldsB;rw[h,Bool.and_false];rfl
theorem fb_a {x:Nd}(h1:(if x.op=1 then decide (0≤x.n)else decide (x.n=0))=true)(h2:(if isVar x.op=true then isNm x.v else decide (x.v=emp))=true):fieldsB x=(if isAtt x.op=true then isNm x.at_ else decide (x.at_=emp)):=by
 unfold fieldsB;rw[h1,h2,xE,xE]
theorem isVar_t {o:Int}(h1:4≤o)(h2:o≤11):isVar o=true:=by simp[isVar,h1,h2]
theorem isVar_f {o:Int}(h1:o<4∨11<o):isVar o=false:=by simp[isVar];omega
theorem isAtt_t {o:Int}(h1:4≤o)(h2:o≤11)(h3:o≠5):isAtt o=true:=by simp[isAtt,isVar,h1,h2,h3]
theorem isAtt_f {o:Int}(h1:o<4∨11<o∨o=5):isAtt o=false:=by
 rcases h1 with h1 |h1 |h1
 ·simp[isAtt,isVar_f (.inl h1)]
 ·simp[isAtt,isVar_f (.inr h1)]
 ·subst h1;rfl
namespace ckW
open nmW
theorem operands_k (o:Int)(w:World):Calls Tryz.prog 119 #[.int .i64 o] w fun e w'=>e=.returned (.int .i64 (arI o))∧w'=w:=by
 have cs:o<1∨(1≤o∧o≤11)∨o=12∨o=13∨(14≤o∧o≤26)∨26<o:=oQ;generalize hr:arI o=r;rcases cs with h |⟨h,h2⟩|h |h |⟨h,h2⟩|h
 ·obtain rfl:r= -1:=by rw[←hr];simp[arI,isLf,isUn,isBi];omega
  have f1:¬(1:Int)≤o:=oQ;have f2:(o==12)=false:=by rw[xV];omega
  have f3:(o==13)=false:=by rw[xV];omega
  have f4:¬(14:Int)≤o:=oQ;clear hr h;go_enter Tryz.func119,Tryz.ntmps119;go_wp2;go_ret;exact⟨rfl,rfl⟩
 ·obtain rfl:r=0:=by rw[←hr];simp[arI,isLf,isUn,isBi,h,h2]
  clear hr;go_enter Tryz.func119,Tryz.ntmps119;go_wp2;go_ret;exact⟨rfl,rfl⟩
 ·subst h;obtain rfl:r=1:=by rw[←hr];rfl
  clear hr;go_enter Tryz.func119,Tryz.ntmps119;go_wp2;go_ret;exact⟨rfl,rfl⟩
 ·subst h;obtain rfl:r=1:=by rw[←hr];rfl
  clear hr;go_enter Tryz.func119,Tryz.ntmps119;go_wp2;go_ret;exact⟨rfl,rfl⟩
 ·obtain rfl:r=2:=by rw[←hr];simp[arI,isLf,isUn,isBi];omega
  have f1:(1:Int)≤o:=oQ;have f0:¬o≤(11:Int):=oQ;have f2:(o==12)=false:=by rw[xV];omega
  have f3:(o==13)=false:=by rw[xV];omega
  clear hr;go_enter Tryz.func119,Tryz.ntmps119;go_wp2;go_ret;exact⟨rfl,rfl⟩
 ·obtain rfl:r= -1:=by rw[←hr];simp[arI,isLf,isUn,isBi];omega
  have f1:(1:Int)≤o:=oQ;have f0:¬o≤(11:Int):=oQ;have f2:(o==12)=false:=by rw[xV];omega
  have f3:(o==13)=false:=by rw[xV];omega
  have f4:(14:Int)≤o:=oQ;have f5:¬o≤(26:Int):=oQ;clear hr h;go_enter Tryz.func119,Tryz.ntmps119;go_wp2;go_ret;exact⟨rfl,rfl⟩
theorem fields_k (x:Nd)(w:World)(hK:KwIs w)(hv:x.v.size≤1048576)(ha:x.at_.size≤1048576):Calls Tryz.prog 120 #[.agg ⟨ndV x⟩] w fun e w'=>e=.returned (.bool (fieldsB x))∧Bw w w':=by
 obtain⟨op,n,v,at_,a,b⟩:=x;have k1:=Hd isName_k;simp only at hv ha;generalize hF:fieldsB ⟨op,n,v,at_,a,b⟩=F;have hx0:∀m,Blk ((w.alloc (.cells ⟨ndV ⟨op,n,v,at_,a,b⟩⟩ 96)).drewN m) w.heap.size 96 (ndV ⟨op,n,v,at_,a,b⟩):=fun m=>(Blk.new _ _ _).drewN m
 have hB0:∀m,Bw w ((w.alloc (.cells ⟨ndV ⟨op,n,v,at_,a,b⟩⟩ 96)).drewN m):=fun m=>below_drewN bA m
 simp only[ndV]at hx0 hB0 ⊢;replace hx0:=Hd hx0;replace hB0:=Hd hB0;replace hK:=Hd hK;have tok0:=True.intro;have cs:op=1∨(op<4∧op≠1)∨11<op∨op=5∨(4≤op∧op≤11∧op≠5):=oQ;rcases cs with rfl |⟨h1,h2⟩|h1 |rfl |⟨h1,h2,h3⟩
 ·by_cases hn:n<0
  ·obtain rfl:F=false:=by rw[←hF];exact fb_n (by simp;omega)
   clear hF;go_enter Tryz.func120,Tryz.ntmps120;go_upto_region 1 with fail
   go_quiet (fail);go_wp2;go_ret;exact⟨rfl,hB0.out nq⟩
  by_cases hve:v=emp
  ·have fv:(v.toList==([]:List UInt8))=true:=by rw[emp_eq];exact zW hve
   have hF2:=(fb_a (by simp;omega) (by simp only;rw[if_neg (by rw[(isVar_f oQ)];decide)];exact zW hve)).symm.trans hF;clear hF;replace hve:=Hd hve;simp only at hF2;rw[if_neg (by rw[isAtt_f oQ];decide)]at hF2;have fa:(at_.toList==([]:List UInt8))=F:=by rw[emp_eq];exact hF2
   clear hF2;go_enter Tryz.func120,Tryz.ntmps120;go_upto_region 1 with fail
   go_quiet (fail);go_wp2;go_ret;exact⟨rfl,hB0.out nq⟩
  ·have fv:(v.toList==([]:List UInt8))=false:=by rw[emp_eq];exact zV hve
   obtain rfl:F=false:=by rw[←hF];exact fb_v (by simp only;rw[if_neg (by rw[(isVar_f oQ)];decide)];exact zV hve)
   clear hF;replace hve:=Hd hve;go_enter Tryz.func120,Tryz.ntmps120;go_upto_region 1 with fail
   go_quiet (fail);go_wp2;go_ret;exact⟨rfl,hB0.out nq⟩
 ·have f1:(op==1)=false:=by rw[xV];exact h2
  have f2:¬(4:Int)≤op:=oQ;by_cases hn:¬n=0
  ·obtain rfl:F=false:=by rw[←hF];exact fb_n (by simp only;rw[if_neg oQ];exact zV oQ)
   have fn:(n==0)=false:=by rw[xV];exact hn
   clear hF;go_enter Tryz.func120,Tryz.ntmps120;go_upto_region 1 with fail
   go_quiet (fail);go_wp2;go_ret;exact⟨rfl,hB0.out nq⟩
  obtain rfl:n=0:=oQ;by_cases hve:v=emp
  ·have fv:(v.toList==([]:List UInt8))=true:=by rw[emp_eq];exact zW hve
   have hF2:=(fb_a (by simp only;rw[if_neg oQ];first|exact zW trivial |simp) (by simp only;rw[if_neg (by rw[(isVar_f oQ)];decide)];exact zW hve)).symm.trans hF;clear hF;replace hve:=Hd hve;simp only at hF2;rw[if_neg (by rw[isAtt_f oQ];decide)]at hF2;have fa:(at_.toList==([]:List UInt8))=F:=by rw[emp_eq];exact hF2
   clear hF2;go_enter Tryz.func120,Tryz.ntmps120;go_upto_region 1 with fail
   go_quiet (fail);go_wp2;go_ret;exact⟨rfl,hB0.out nq⟩
  ·have fv:(v.toList==([]:List UInt8))=false:=by rw[emp_eq];exact zV hve
   obtain rfl:F=false:=by rw[←hF];exact fb_v (by simp only;rw[if_neg (by rw[(isVar_f oQ)];decide)];exact zV hve)
   clear hF;replace hve:=Hd hve;go_enter Tryz.func120,Tryz.ntmps120;go_upto_region 1 with fail
   go_quiet (fail);go_wp2;go_ret;exact⟨rfl,hB0.out nq⟩
 ·have f1:(op==1)=false:=by rw[xV];omega
  have f2:(4:Int)≤op:=oQ;have f3:¬op≤(11:Int):=oQ;by_cases hn:¬n=0
  ·obtain rfl:F=false:=by rw[←hF];exact fb_n (by simp only;rw[if_neg oQ];exact zV oQ)
   have fn:(n==0)=false:=by rw[xV];exact hn
   clear hF;go_enter Tryz.func120,Tryz.ntmps120;go_upto_region 1 with fail
   go_quiet (fail);go_wp2;go_ret;exact⟨rfl,hB0.out nq⟩
  obtain rfl:n=0:=oQ;by_cases hve:v=emp
  ·have fv:(v.toList==([]:List UInt8))=true:=by rw[emp_eq];exact zW hve
   have hF2:=(fb_a (by simp only;rw[if_neg oQ];first|exact zW trivial |simp) (by simp only;rw[if_neg (by rw[(isVar_f oQ)];decide)];exact zW hve)).symm.trans hF;clear hF;replace hve:=Hd hve;simp only at hF2;rw[if_neg (by rw[isAtt_f oQ];decide)]at hF2;have fa:(at_.toList==([]:List UInt8))=F:=by rw[emp_eq];exact hF2
   clear hF2;go_enter Tryz.func120,Tryz.ntmps120;go_upto_region 1 with fail
   go_quiet (fail);go_wp2;go_ret;exact⟨rfl,hB0.out nq⟩
  ·have fv:(v.toList==([]:List UInt8))=false:=by rw[emp_eq];exact zV hve
   obtain rfl:F=false:=by rw[←hF];exact fb_v (by simp only;rw[if_neg (by rw[(isVar_f oQ)];decide)];exact zV hve)
   clear hF;replace hve:=Hd hve;go_enter Tryz.func120,Tryz.ntmps120;go_upto_region 1 with fail
   go_quiet (fail);go_wp2;go_ret;exact⟨rfl,hB0.out nq⟩
 ·by_cases hn:¬n=0
  ·obtain rfl:F=false:=by rw[←hF];exact fb_n (by simp only;rw[if_neg oQ];exact zV oQ)
   have fn:(n==0)=false:=by rw[xV];exact hn
   clear hF;go_enter Tryz.func120,Tryz.ntmps120;go_upto_region 1 with fail
   go_quiet (fail);go_wp2;go_ret;exact⟨rfl,hB0.out nq⟩
  obtain rfl:n=0:=oQ;cases hi:isNm v with
  |false=>
   obtain rfl:F=false:=by rw[←hF];exact fb_v (by simp only;rw[if_pos (isVar_t oQ oQ)];exact hi)
   replace hi:=Hd hi;clear hF;go_enter Tryz.func120,Tryz.ntmps120;go_upto_region 1 with fail
   go_quiet (fail);go_wp2_with (have _t:=tok0;clear tok0;go_at_call 108;refine(k1.out v _ (hK.out.stay (hB0.out nq)) hv).mono ?_;rw[hi.out];rintro e W ⟨rfl,hW⟩;have hB1:Bw w W:=(hB0.out nq).trans (hW.mono (hB0.out nq).size);have hx1:=(hx0.out nq).stay hW;have y3:W.cell? ⟨w.heap.size,3,none⟩=some (.string at_):=hx1.cell 3;replace hB1:=Hd hB1;replace hx1:=Hd hx1;clear hW);go_ret;exact⟨rfl,hB1.out⟩
  |true=>
   have hF2:=(fb_a (by simp only;rw[if_neg oQ];first|exact zW trivial |simp) (by simp only;rw[if_pos (isVar_t oQ oQ)];exact hi)).symm.trans hF;clear hF;replace hi:=Hd hi;simp only at hF2;rw[if_neg (by rw[isAtt_f oQ];decide)]at hF2;have fa:(at_.toList==([]:List UInt8))=F:=by rw[emp_eq];exact hF2
   clear hF2;go_enter Tryz.func120,Tryz.ntmps120;go_upto_region 1 with fail
   go_quiet (fail);go_wp2_with (have _t:=tok0;clear tok0;go_at_call 108;refine(k1.out v _ (hK.out.stay (hB0.out nq)) hv).mono ?_;rw[hi.out];rintro e W ⟨rfl,hW⟩;have hB1:Bw w W:=(hB0.out nq).trans (hW.mono (hB0.out nq).size);have hx1:=(hx0.out nq).stay hW;have y3:W.cell? ⟨w.heap.size,3,none⟩=some (.string at_):=hx1.cell 3;replace hB1:=Hd hB1;replace hx1:=Hd hx1;clear hW);go_ret;exact⟨rfl,hB1.out⟩
 ·have f1:(op==1)=false:=by rw[xV];omega
  have f2:(op==5)=false:=by rw[xV];exact h3
  by_cases hn:¬n=0
  ·obtain rfl:F=false:=by rw[←hF];exact fb_n (by simp only;rw[if_neg oQ];exact zV oQ)
   have fn:(n==0)=false:=by rw[xV];exact hn
   clear hF;go_enter Tryz.func120,Tryz.ntmps120;go_upto_region 1 with fail
   go_quiet (fail);go_wp2;go_ret;exact⟨rfl,hB0.out nq⟩
  obtain rfl:n=0:=oQ;cases hi:isNm v with
  |false=>
   obtain rfl:F=false:=by rw[←hF];exact fb_v (by simp only;rw[if_pos (isVar_t oQ oQ)];exact hi)
   replace hi:=Hd hi;clear hF;go_enter Tryz.func120,Tryz.ntmps120;go_upto_region 1 with fail
   go_quiet (fail);go_wp2_with (have _t:=tok0;clear tok0;go_at_call 108;refine(k1.out v _ (hK.out.stay (hB0.out nq)) hv).mono ?_;rw[hi.out];rintro e W ⟨rfl,hW⟩;have hB1:Bw w W:=(hB0.out nq).trans (hW.mono (hB0.out nq).size);have hx1:=(hx0.out nq).stay hW;have y3:W.cell? ⟨w.heap.size,3,none⟩=some (.string at_):=hx1.cell 3;replace hB1:=Hd hB1;replace hx1:=Hd hx1;clear hW);go_ret;exact⟨rfl,hB1.out⟩
  |true=>
   have hF2:=(fb_a (by simp only;rw[if_neg oQ];first|exact zW trivial |simp) (by simp only;rw[if_pos (isVar_t oQ oQ)];exact hi)).symm.trans hF;clear hF;replace hi:=Hd hi;simp only at hF2;rw[if_pos (isAtt_t oQ oQ oQ)]at hF2;cases hia:isNm at_ with
   |false=>
    obtain rfl:F=false:=by rw[←hF2,hia]
    replace hia:=Hd hia;clear hF2;go_enter Tryz.func120,Tryz.ntmps120;go_upto_region 1 with fail
    go_quiet (fail);go_wp2_with first
     |(have _t:=tok0;clear tok0;go_at_call 108;refine(k1.out v _ (hK.out.stay (hB0.out nq)) hv).mono ?_;rw[hi.out];rintro e W ⟨rfl,hW⟩;have hB1:Bw w W:=(hB0.out nq).trans (hW.mono (hB0.out nq).size);have hx1:=(hx0.out nq).stay hW;have y3:W.cell? ⟨w.heap.size,3,none⟩=some (.string at_):=hx1.cell 3;replace hB1:=Hd hB1;replace hx1:=Hd hx1;clear hW)
     |(go_at_call 108;refine(k1.out at_ _ (hK.out.stay hB1.out) ha).mono ?_;rw[hia.out];rintro e W2 ⟨rfl,hW2⟩;replace hB1:=Hd (hB1.out.trans (hW2.mono hB1.out.size));clear hW2)
    go_ret;exact⟨rfl,hB1.out⟩
   |true=>
    obtain rfl:F=true:=by rw[←hF2,hia]
    replace hia:=Hd hia;clear hF2;go_enter Tryz.func120,Tryz.ntmps120;go_upto_region 1 with fail
    go_quiet (fail);go_wp2_with first
     |(have _t:=tok0;clear tok0;go_at_call 108;refine(k1.out v _ (hK.out.stay (hB0.out nq)) hv).mono ?_;rw[hi.out];rintro e W ⟨rfl,hW⟩;have hB1:Bw w W:=(hB0.out nq).trans (hW.mono (hB0.out nq).size);have hx1:=(hx0.out nq).stay hW;have y3:W.cell? ⟨w.heap.size,3,none⟩=some (.string at_):=hx1.cell 3;replace hB1:=Hd hB1;replace hx1:=Hd hx1;clear hW)
     |(go_at_call 108;refine(k1.out at_ _ (hK.out.stay hB1.out) ha).mono ?_;rw[hia.out];rintro e W2 ⟨rfl,hW2⟩;replace hB1:=Hd (hB1.out.trans (hW2.mono hB1.out.size));clear hW2)
    go_ret;exact⟨rfl,hB1.out⟩
end ckW
abbrev NoF:Nat→Prop:=fun _=>False
theorem elInt:ElT Tryz.prog 62 3 1 8:=.of Tryz.underlying62 kQ oQ
theorem elNd:ElT Tryz.prog 28 96 6 64:=.of Tryz.underlying28 kQ oQ
theorem OL.addr {w:World}{B e size n c n':Nat}{F:Nat→Prop}{A:Option Addr}{ds:List D}(h:OL w B F e size (.slice A n' c) n ds):A=none∨∃g,A=some ⟨g,0,none⟩:=by
 obtain⟨cells,h1,_⟩:=h;rcases h1.2 with⟨e,_⟩|⟨g,cap,cur,e,_⟩
 ·injection e with e1;exact .inl e1
 ·injection e with e1;exact .inr ⟨g,e1⟩
theorem OL.cap {w:World}{B e size n c n':Nat}{F:Nat→Prop}{A:Option Addr}{ds:List D}(h:OL w B F e size (.slice A n' c) n ds):n'=n∧n≤c:=by
 obtain⟨cells,h1,_⟩:=h;rcases h1.2 with⟨e,h0⟩|⟨g,cap,cur,e,_,_,hnc,_⟩
 ·injection e with _ e2 e3;subst e2 e3;omega
 ·injection e with _ e2 e3;subst e2 e3;exact⟨rfl,hnc⟩
theorem OL.trunc {w:World}{B e size n c m:Nat}{F:Nat→Prop}{A:Option Addr}{ds:List D}(h:OL w B F e size (.slice A n c) n ds)(hm:m≤n):OL w B F e size (.slice A m c) m (ds.take (m*size)):=by
 obtain⟨cells,h1,h2,h3⟩:=h;have hms:m*size≤n*size:=Nat.mul_le_mul hm nR;refine⟨cells.take (m*size),⟨by rw[zO,h1.1];omega,?_⟩,by rw[zO,zO,h2],fun k d hd=>?_⟩
 ·rcases h1.2 with⟨e,h0⟩|⟨g,cap,cur,e,hB,hg,hnc,hx,hs,ht⟩
  ·injection e with e1 e2 e3
   subst e1 e2 e3;obtain rfl:m=0:=oQ;exact .inl ⟨rfl,rfl⟩
  ·injection e with e1 e2 e3
   subst e1 e3;refine .inr ⟨g,_,cur,rfl,hB,hg,oQ,hx,hs,?_⟩;rw[←ht,List.take_take];congr 1;omega
 ·rw[zZ]at hd ⊢;split at hd
  ·rename_i hk;rw[if_pos hk];obtain⟨u,hu,hr⟩:=h3 k d hd;refine⟨u,hu,?_⟩;have eo:(Value.slice A m c).ownBlock=(Value.slice A n c).ownBlock:=by cases A<;>rfl
   rw[eo];exact hr
  ·cases hd
theorem run_cut {P:Program}{t e size bytes:Nat}(T:ElT P t e size bytes){A:Option Addr}(hA:A=none∨∃g,A=some ⟨g,0,none⟩)(n cap m:Nat)(hm:m≤cap)(W:World):(Instr.slice t (.slice A n cap) none (some (.int .i64 m)) none).run P W=.ok (.slice A m cap) W:=by
 obtain⟨hs,⟨i,z,hi,hz,hsz,hb,hzs⟩,hp⟩:=T;have h0:(0:Int)≤(m:Int):=oQ;have h1:(m:Int)≤(cap:Int):=oQ;rcases hA with rfl |⟨g,rfl⟩
 ·simp[Instr.slice,run_underlying hs,Instr.sliceBounds,run_sliceBound,sizeOf,typeInfo,hi,h0,h1,hm]
 ·simp[Instr.slice,run_underlying hs,Instr.sliceBounds,run_sliceBound,sizeOf,typeInfo,hi,h0,h1,hm,addr_add0]
theorem nd_at {w:World}{F:Nat→Prop}{A:Option Addr}{c i:Nat}{t:List Nd}{x:Nd}(r:Rd w F (.slice A t.length c) (.sl t.length (t.flatMap ndD)))(hp:t[i]? =some x):∃b off,A=some ⟨b,off,none⟩∧F b∧
  w.cell? ⟨b,off+i*6,none⟩=some (.int .i64 x.op)∧w.cell? ⟨b,off+i*6+1,none⟩=some (.int .i64 x.n)∧w.cell? ⟨b,off+i*6+2,none⟩=some (.string x.v)∧w.cell? ⟨b,off+i*6+3,none⟩=some (.string x.at_)∧
  w.cell? ⟨b,off+i*6+4,none⟩=some (.int .i64 x.a)∧w.cell? ⟨b,off+i*6+5,none⟩=some (.int .i64 x.b):=by
 obtain⟨b,off,rfl,hF,ha,_⟩:=r.rowv (m:=6) (fun _=>rfl) hp oQ;exact⟨b,off,rfl,hF,ha 0 _ rfl,ha 1 _ rfl,ha 2 _ rfl,ha 3 _ rfl,ha 4 _ rfl,ha 5 _ rfl⟩
def SzN (t:List Nd):Prop:=t.length≤1048576∧∀x∈t,x.v.size≤1048576∧x.at_.size≤1048576
def rtD (p:Nat×Nat):D:=.v (.int .i64 (p.2:Nat))
structure TI (t:List Nd)(w wr:World)(i:Nat)(stk:List (Nat×Nat))(v:Value):Prop where
 hi:i≤t.length
 hl:stk.length≤i
 hb:Bw w wr
 ol:OL wr w.heap.size NoF 3 1 v stk.length (stk.reverse.map rtD)
 eq:runT 0 [] t=runT i stk (t.drop i)
def TkRel (t:List Nd)(w:World)(x y:Value)(wr:World):Prop:=∃i stk,y=.int .i64 (i:Nat)∧TI t w wr i stk x
theorem TkRel.mk {t:List Nd}{w wr:World}{x y:Value}(i:Nat)(stk:List (Nat×Nat))(h1:y=.int .i64 i)(h2:TI t w wr i stk x):TkRel t w x y wr:=⟨i,stk,h1,h2⟩
theorem TI.dead {t:List Nd}{w wr:World}{i:Nat}{stk:List (Nat×Nat)}{v:Value}{x:Nd}(h:TI t w wr i stk v)(hx:t[i]? =some x)(hs:stepT i stk x=none):treeB t=false:=by
 obtain⟨h1,h2⟩:=zC.1 hx;unfold treeB;rw[h.eq,List.drop_eq_getElem_cons h1,h2];unfold runT;rw[hs]
theorem TI.live {t:List Nd}{w wr:World}{i:Nat}{stk stk':List (Nat×Nat)}{v:Value}{x:Nd}(h:TI t w wr i stk v)(hx:t[i]? =some x)(hs:stepT i stk x=some stk'):runT 0 [] t=runT (i+1) stk' (t.drop (i+1)):=by
 obtain⟨h1,h2⟩:=zC.1 hx;rw[h.eq,List.drop_eq_getElem_cons h1,h2];show runT i stk (x::_)=_
 rw[runT,hs]
theorem TI.push {t:List Nd}{w wr w2 w3:World}{i:Nat}{stk stk':List (Nat×Nat)}{A:Option Addr}{n c m:Nat}{v':Value}{o:Obj}(h:TI t w wr i stk (.slice A n c))(hi:i<t.length)(hb:Bw wr w2)(hm:m≤stk.length)(hg:(w2.alloc o).grownBy w3 (Value.slice A n c).ownBlock)
  (hO:OL w3 w.heap.size NoF 3 1 v' (m+1) ((stk.reverse.map rtD).take (m*1)++[rtD (0,i)]))(hl:stk'.length=m+1)(hd:stk'.reverse.map rtD=(stk.reverse.map rtD).take m++[rtD (0,i)])(eq:runT 0 [] t=runT (i+1) stk' (t.drop (i+1))):TI t w w3 (i+1) stk' v':=by
 have hs:=h.hb.size;have hs2:=hb.size;refine⟨hi,by have:=h.hl;omega,((h.hb.trans (hb.mono hs)).alloc oQ o).grown hg (by simp;omega) (fun q hq=>(h.ol.lt q hq).1),?_,eq⟩;rw[hl,hd];simpa using hO
structure Tk where
 kd:Int
 tx:ByteArray
 n:Int
def mkT (k:Int):Tk:=⟨k,emp,0⟩
def nmT (s:ByteArray):Tk:=⟨1,s,0⟩
def levO (o:Int):Int:=if o<12 then 8 else if o=12 then 7 else if o=13 then 3 else if o≤15 then 5 else if o≤18 then 6 else if o≤24 then 4 else if o=25 then 2 else 1
def sgL:List Int:=[12,43,11,12,13,14,15,16,17,18,19,20,21,41,42]
def sgK (o:Int):Int:=(sgL[(o-12).toNat]?).getD 0
def spl:List ByteArray:=[emp,emp,emp,⟨#[40]⟩,⟨#[41]⟩,⟨#[123]⟩,⟨#[125]⟩,⟨#[44]⟩,⟨#[46]⟩,⟨#[33]⟩,⟨#[124]⟩,⟨#[43]⟩,⟨#[45]⟩,⟨#[42]⟩,⟨#[47]⟩,⟨#[37]⟩,⟨#[61]⟩,⟨#[33,61]⟩,⟨#[60]⟩,⟨#[60,61]⟩,⟨#[62]⟩,⟨#[62,61]⟩]
def itoaB (n:Int):ByteArray:=⟨(Lib.itoa n).toArray⟩
def spT (k:Tk):ByteArray:=
 if k.kd=1 then k.tx else if k.kd=2 then itoaB k.n else if 3≤k.kd∧k.kd≤21 then(spl[k.kd.toNat]?).getD emp else(kwds[(k.kd-30).toNat]?).getD emp
def spB:ByteArray:=⟨#[32]⟩
def jnF (a y:ByteArray):ByteArray:=a++spB++y
def jn:List ByteArray→ByteArray
 | []=>emp
 |x::r=>r.foldl jnF x
theorem jn_snoc (x y:ByteArray)(r:List ByteArray):jn (x::r++[y])=jn (x::r)++spB++y:=by
 show(r++[y]).foldl jnF x=jnF (r.foldl jnF x) y
 rw[List.foldl_append];rfl
theorem jnF_app (a b:ByteArray):∀l:List ByteArray,l.foldl jnF (a++b)=a++l.foldl jnF b
 | []=>rfl
 |y::r=>by
  simp only[List.foldl_cons];rw[show jnF (a++b) y=a++jnF b y by simp only[jnF,ByteArray.append_assoc],jnF_app a _ r]
theorem jn_app {l m:List ByteArray}(hl:l≠ [])(hm:m≠ []):jn (l++m)=jn l++spB++jn m:=by
 cases l with
 |nil=>exact absurd rfl hl
 |cons x r=>
  cases m with
  |nil=>exact absurd rfl hm
  |cons y s=>
   show(r++y::s).foldl jnF x=r.foldl jnF x++spB++s.foldl jnF y
   rw[List.foldl_append,List.foldl_cons,←jnF_app];rfl
def leafT (x:Nd):List Tk:=
 if x.op=1 then [⟨2,emp,x.n⟩]else if x.op=2 then [mkT 44]else if x.op=3 then [mkT 45]
 else if x.op=5 then [mkT 46,mkT 3,nmT x.v,mkT 4]else if x.op=4 then [nmT x.v,mkT 8,nmT x.at_]
 else [mkT (41+x.op),mkT 3,nmT x.v,mkT 8,nmT x.at_,mkT 4]
def brT (b:Bool)(X:List Tk×Int):List Tk×Int:=if b=true then(mkT 3::(X.1++[mkT 4]),X.2+1)else X
def lfL (o:Int):Int:=if levO o=4 then 5 else levO o
def tkF (t:List Nd):Nat→Nat→List Tk×Int
 |0,_=>([],0)
 |n+1,r=>
  match t[r]? with
  |none=>([],0)
  |some x=>
   if x.op<12 then(leafT x,0)
   else if x.op<14 then
    (mkT (sgK x.op)::(brT (decide (levO (opAt t x.a.toNat)<levO x.op)) (tkF t n x.a.toNat)).1,(brT (decide (levO (opAt t x.a.toNat)<levO x.op)) (tkF t n x.a.toNat)).2+1)
   else
    ((brT (decide (levO (opAt t x.a.toNat)<lfL x.op)) (tkF t n x.a.toNat)).1++mkT (sgK x.op)::(brT (decide (levO (opAt t x.b.toNat)<levO x.op+1)) (tkF t n x.b.toNat)).1,
     max (brT (decide (levO (opAt t x.a.toNat)<lfL x.op)) (tkF t n x.a.toNat)).2 (brT (decide (levO (opAt t x.b.toNat)<levO x.op+1)) (tkF t n x.b.toNat)).2)
theorem isLf_op {o:Int}(h:isLf o=true):1≤o∧o≤11:=by simpa[isLf] using h
theorem isUn_op {o:Int}(h:isUn o=true):o=12∨o=13:=by simpa[isUn] using h
theorem isBi_op {o:Int}(h:isBi o=true):14≤o∧o≤26:=by simpa[isBi] using h
theorem tkF_lf {t:List Nd}{i:Nat}{x:Nd}(hx:t[i]? =some x)(h:isLf x.op=true)(n:Nat):tkF t (n+1) i=(leafT x,0):=by
 have:=isLf_op h;simp only[tkF,hx];rw[if_pos oQ]
theorem tkF_un {t:List Nd}{j i:Nat}{x:Nd}(hx:t[i]? =some x)(h:isUn x.op=true)(ha:x.a=(j:Int))(n:Nat):
  tkF t (n+1) i=(mkT (sgK x.op)::(brT (decide (levO (opAt t j)<levO x.op)) (tkF t n j)).1,(brT (decide (levO (opAt t j)<levO x.op)) (tkF t n j)).2+1):=by
 have:=isUn_op h;simp only[tkF,hx];rw[if_neg oQ,if_pos oQ,ha,Int.toNat_natCast]
theorem tkF_bi {t:List Nd}{m j i:Nat}{x:Nd}(hx:t[i]? =some x)(h:isBi x.op=true)(ha:x.a=(m:Int))(hb:x.b=(j:Int))(n:Nat):
  tkF t (n+1) i=((brT (decide (levO (opAt t m)<lfL x.op)) (tkF t n m)).1++mkT (sgK x.op)::(brT (decide (levO (opAt t j)<levO x.op+1)) (tkF t n j)).1,
   max (brT (decide (levO (opAt t m)<lfL x.op)) (tkF t n m)).2 (brT (decide (levO (opAt t j)<levO x.op+1)) (tkF t n j)).2):=by
 have:=isBi_op h;simp only[tkF,hx];rw[if_neg oQ,if_neg oQ,ha,hb,Int.toNat_natCast,Int.toNat_natCast]
theorem tkF_mono {t:List Nd}{b r:Nat}(h:Sp t b r):∀{n m:Nat},r-b<n→r-b<m→tkF t n r=tkF t m r:=by
 induction h with
 |lf hx h1 h2 h3=>
  intro n m hn hm;obtain⟨n,rfl⟩:∃k,n=k+1:=⟨n-1,oQ⟩
  obtain⟨m,rfl⟩:∃k,m=k+1:=⟨m-1,oQ⟩
  rw[tkF_lf hx h1,tkF_lf hx h1]
 |un hx h1 h2 h3 hs ih=>
  intro n m hn hm;have:=hs.le;obtain⟨n,rfl⟩:∃k,n=k+1:=⟨n-1,oQ⟩
  obtain⟨m,rfl⟩:∃k,m=k+1:=⟨m-1,oQ⟩
  rw[tkF_un hx h1 h2,tkF_un hx h1 h2,ih (n:=n) (m:=m) oQ oQ]
 |bi hx h1 h2 h3 hs hs2 ih ih2=>
  intro n m hn hm;have l1:=hs.le;have l2:=hs2.le;obtain⟨n,rfl⟩:∃k,n=k+1:=⟨n-1,oQ⟩
  obtain⟨m,rfl⟩:∃k,m=k+1:=⟨m-1,oQ⟩
  rw[tkF_bi hx h1 h2 h3,tkF_bi hx h1 h2 h3,ih (n:=n) (m:=m) oQ oQ,ih2 (n:=n) (m:=m) oQ oQ]
def tkW (t:List Nd)(r:Nat):List Tk×Int:=tkF t (r+1) r
theorem tkW_eq {t:List Nd}{b r n:Nat}(h:Sp t b r)(hn:r<n):tkF t n r=tkW t r:=tkF_mono h oQ oQ
theorem brT_ne {b:Bool}{X:List Tk×Int}(h:X.1≠ []):(brT b X).1≠ []:=by
 cases b<;>simp[brT,h]
theorem tkW_ne {t:List Nd}{b r:Nat}(h:Sp t b r):(tkW t r).1≠ []:=by
 unfold tkW;cases h with
 |lf hx h1 h2 h3=>rw[tkF_lf hx h1];simp only[leafT];(repeat' split)<;>simp
 |un hx h1 h2 h3 hs=>rw[tkF_un hx h1 h2];simp
 |bi hx h1 h2 h3 hs hs2=>rw[tkF_bi hx h1 h2 h3];simp
structure To where
 tx:ByteArray
 tk:Int
 dp:Int
def toOf (X:List Tk×Int):To:=⟨jn (X.1.map spT),X.1.length,X.2⟩
def opdS (x:To)(o n:Int):To:=if n≤levO o then x else⟨⟨#[40,32]⟩++x.tx++⟨#[32,41]⟩,x.tk+2,x.dp+1⟩
def clL:List ByteArray:=[⟨#[67,79,85,78,84]⟩,⟨#[83,85,77]⟩,⟨#[77,73,78]⟩,⟨#[77,65,88]⟩,⟨#[70,73,82,83,84]⟩,⟨#[76,65,83,84]⟩,⟨#[80,82,69,86]⟩]
def siL:List ByteArray:=[⟨#[43]⟩,⟨#[45]⟩,⟨#[42]⟩,⟨#[47]⟩,⟨#[37]⟩,⟨#[61]⟩,⟨#[33,61]⟩,⟨#[60]⟩,⟨#[60,61]⟩,⟨#[62]⟩,⟨#[62,61]⟩,⟨#[65,78,68]⟩,⟨#[79,82]⟩]
def toldS (n:Nd)(a:To)(o:Int)(b:To)(p:Int):To:=
 if n.op=1 then⟨itoaB n.n,1,0⟩else if n.op=2 then⟨⟨#[84,82,85,69]⟩,1,0⟩else if n.op=3 then⟨⟨#[70,65,76,83,69]⟩,1,0⟩
 else if n.op=4 then⟨n.v++⟨#[32,46,32]⟩++n.at_,3,0⟩else if n.op=5 then⟨⟨#[67,79,85,78,84,32,40,32]⟩++n.v++⟨#[32,41]⟩,4,0⟩
 else if n.op=12 then⟨⟨#[45,32]⟩++(opdS a o 7).tx,(opdS a o 7).tk+1,(opdS a o 7).dp+1⟩
 else if n.op=13 then⟨⟨#[78,79,84,32]⟩++(opdS a o 3).tx,(opdS a o 3).tk+1,(opdS a o 3).dp+1⟩
 else if n.op<14 then⟨(clL[(n.op-5).toNat]?).getD emp++⟨#[32,40,32]⟩++n.v++⟨#[32,46,32]⟩++n.at_++⟨#[32,41]⟩,6,0⟩
 else⟨(opdS a o (lfL n.op)).tx++spB++(siL[(n.op-14).toNat]?).getD emp++spB++(opdS b p (levO n.op+1)).tx,(opdS a o (lfL n.op)).tk+1+(opdS b p (levO n.op+1)).tk,
  if(opdS a o (lfL n.op)).dp<(opdS b p (levO n.op+1)).dp then(opdS b p (levO n.op+1)).dp else(opdS a o (lfL n.op)).dp⟩
theorem opdS_eq {X:List Tk×Int}(h:X.1≠ [])(o n:Int):opdS (toOf X) o n=toOf (brT (decide (levO o<n)) X):=by
 unfold opdS;by_cases c:n≤levO o
 ·rw[if_pos c,zV oQ];rfl
 ·rw[if_neg c,zW oQ];show(⟨⟨#[40,32]⟩++jn (X.1.map spT)++⟨#[32,41]⟩,(X.1.length:Int)+2,X.2+1⟩:To)=⟨jn ((mkT 3::(X.1++[mkT 4])).map spT),((mkT 3::(X.1++[mkT 4])).length:Int),X.2+1⟩
  have e1:(mkT 3::(X.1++[mkT 4])).map spT=[⟨#[40]⟩]++(X.1.map spT++[⟨#[41]⟩]):=by
   rw[List.map_cons,xR];rfl
  have hne:X.1.map spT≠ []:=by simpa using h
  rw[e1,jn_app sJ sJ,jn_app hne sJ];have e2:(⟨#[40,32]⟩:ByteArray)=jn [⟨#[40]⟩]++spB:=rfl;have e3:(⟨#[32,41]⟩:ByteArray)=spB++jn [⟨#[41]⟩]:=rfl;rw[e2,e3];simp only[ByteArray.append_assoc,List.length_cons,zH,List.length_nil];congr 1
theorem told_eq {t:List Nd}{b r:Nat}(h:Sp t b r){x:Nd}(hx:t[r]? =some x)(a c:To)(o p:Int)(ha:∀j:Nat,x.a=(j:Int)→a=toOf (tkW t j)∧o=opAt t j)(hb:∀j:Nat,x.b=(j:Int)→c=toOf (tkW t j)∧p=opAt t j):
  toldS x a o c p=toOf (tkW t r):=by
 unfold tkW;cases h with
 |lf hx' h1 h2 h3=>
  obtain rfl:=zq9 (hx.symm.trans hx');rw[tkF_lf hx h1];have hl:=isLf_op h1;unfold toldS leafT;have hk:∀s:ByteArray,spT (nmT s)=s:=fun s=>rfl
  by_cases c1:x.op=1
  ·rw[if_pos c1,if_pos c1];rfl
  rw[if_neg c1,if_neg c1];by_cases c2:x.op=2
  ·rw[if_pos c2,if_pos c2];rfl
  rw[if_neg c2,if_neg c2];by_cases c3:x.op=3
  ·rw[if_pos c3,if_pos c3];rfl
  rw[if_neg c3,if_neg c3];by_cases c4:x.op=4
  ·rw[if_pos c4,if_neg oQ,if_pos c4];show _=(⟨x.v++spB++⟨#[46]⟩++spB++x.at_,3,0⟩:To)
   congr 1
   have e:(⟨#[32,46,32]⟩:ByteArray)=spB++⟨#[46]⟩++spB:=rfl;rw[e];simp only[ByteArray.append_assoc]
  rw[if_neg c4];by_cases c5:x.op=5
  ·rw[if_pos c5,if_pos c5];show _=(⟨(⟨#[67,79,85,78,84]⟩:ByteArray)++spB++⟨#[40]⟩++spB++x.v++spB++⟨#[41]⟩,4,0⟩:To)
   congr 1
   have e:(⟨#[67,79,85,78,84,32,40,32]⟩:ByteArray)=(⟨#[67,79,85,78,84]⟩:ByteArray)++spB++⟨#[40]⟩++spB:=rfl;have e2:(⟨#[32,41]⟩:ByteArray)=spB++⟨#[41]⟩:=rfl;rw[e,e2];simp only[ByteArray.append_assoc]
  rw[if_neg c5,if_neg c5,if_neg c4,if_neg oQ,if_neg oQ,if_pos oQ];have hcl:(clL[(x.op-5).toNat]?).getD emp=spT (mkT (41+x.op)):=by
   have:x.op=6∨x.op=7∨x.op=8∨x.op=9∨x.op=10∨x.op=11:=oQ;rcases this with h |h |h |h |h |h<;>rw[h]<;>rfl
  rw[hcl];show _=(⟨spT (mkT (41+x.op))++spB++⟨#[40]⟩++spB++x.v++spB++⟨#[46]⟩++spB++x.at_++spB++⟨#[41]⟩,6,0⟩:To)
  congr 1
  have e:(⟨#[32,46,32]⟩:ByteArray)=spB++⟨#[46]⟩++spB:=rfl;have e2:(⟨#[32,40,32]⟩:ByteArray)=spB++⟨#[40]⟩++spB:=rfl;have e3:(⟨#[32,41]⟩:ByteArray)=spB++⟨#[41]⟩:=rfl;rw[e,e2,e3];simp only[ByteArray.append_assoc]
 |un hx' h1 h2 h3 hs=>
  rename_i j x';obtain rfl:=zq9 (hx.symm.trans hx');obtain⟨rfl,rfl⟩:=ha j h2;rw[tkF_un hx h1 h2,tkW_eq hs oQ];have hne:=brT_ne (b:=decide (levO (opAt t j)<levO x.op)) (tkW_ne hs);have hne2:(brT (decide (levO (opAt t j)<levO x.op)) (tkW t j)).1.map spT≠ []:=by simpa using hne
  have key:∀s s2:ByteArray,s2=s++spB→spT (mkT (sgK x.op))=s→∀l,levO x.op=l→(⟨s2++(opdS (toOf (tkW t j)) (opAt t j) l).tx,(opdS (toOf (tkW t j)) (opAt t j) l).tk+1,(opdS (toOf (tkW t j)) (opAt t j) l).dp+1⟩:To)=toOf (mkT (sgK x.op)::(brT (decide (levO (opAt t j)<levO x.op)) (tkW t j)).1,(brT (decide (levO (opAt t j)<levO x.op)) (tkW t j)).2+1):=by
   rintro s s2 rfl rfl l rfl;rw[opdS_eq (tkW_ne hs)];unfold toOf;rw[List.map_cons,show∀(a:ByteArray) l,a::l=[a]++l from fun _ _=>rfl,jn_app sJ hne2];simp only[zH,List.length_cons,List.length_nil];congr 1
  unfold toldS;rcases isUn_op h1 with c |c
  ·rw[if_neg oQ,if_neg oQ,if_neg oQ,if_neg oQ,if_neg oQ,if_pos c];exact key ⟨#[45]⟩ _ rfl (by rw[c];rfl) 7 (by rw[c];rfl)
  ·rw[if_neg oQ,if_neg oQ,if_neg oQ,if_neg oQ,if_neg oQ,if_neg oQ,if_pos c];exact key ⟨#[78,79,84]⟩ _ rfl (by rw[c];rfl) 3 (by rw[c];rfl)
 |bi hx' h1 h2 h3 hs hs2=>
  rename_i m j x';obtain rfl:=zq9 (hx.symm.trans hx');obtain⟨rfl,rfl⟩:=ha m h2;obtain⟨rfl,rfl⟩:=hb j h3;have l1:=hs.le;have l2:=hs2.le;rw[tkF_bi hx h1 h2 h3,tkW_eq hs oQ,tkW_eq hs2 oQ];have hne:(brT (decide (levO (opAt t m)<lfL x.op)) (tkW t m)).1.map spT≠ []:=by simpa using brT_ne (tkW_ne hs)
  have hne2:(brT (decide (levO (opAt t j)<levO x.op+1)) (tkW t j)).1.map spT≠ []:=by simpa using brT_ne (tkW_ne hs2)
  have hb:=isBi_op h1;unfold toldS;rw[if_neg oQ,if_neg oQ,if_neg oQ,if_neg oQ,if_neg oQ,if_neg oQ,if_neg oQ,if_neg oQ,opdS_eq (tkW_ne hs),opdS_eq (tkW_ne hs2)];have hsi:(siL[(x.op-14).toNat]?).getD emp=spT (mkT (sgK x.op)):=by
   have:x.op=14∨x.op=15∨x.op=16∨x.op=17∨x.op=18∨x.op=19∨x.op=20∨x.op=21∨x.op=22∨x.op=23∨x.op=24∨x.op=25∨x.op=26:=oQ;rcases this with h |h |h |h |h |h |h |h |h |h |h |h |h<;>rw[h]<;>rfl
  rw[hsi];unfold toOf;simp only[xR,List.map_cons];rw[show∀(a:ByteArray) l,a::l=[a]++l from fun _ _=>rfl,jn_app hne sJ,jn_app sJ hne2];simp only[zH,List.length_cons];congr 1
  ·simp only[ByteArray.append_assoc];rfl
  ·omega
  ·omega
end Go.Proofs.YthaabihjeomipaaGreatDoor
