/- The document's Tree. -/
import Derived.Test.YthaabihjeomipaaGreatDoorQC3
namespace Go.Proofs.YthaabihjeomipaaGreatDoor
set_option maxRecDepth 100000
set_option maxHeartbeats 16000000
open Go.RowKit Go.Deep
set_option linter.unusedVariables false
set_option linter.unusedSimpArgs false
noncomputable def leafB (x:Nd):Bool:=decide (x.a= -1)&&(decide (x.b= -1)&&(isLf x.op&&fieldsB x))
namespace ckW
open nmW
theorem leaf_k (x:Nd)(w:World)(hK:KwIs w):Calls Tryz.prog 146 #[.agg ⟨ndV x⟩] w fun e w'=>e=.returned (.bool (leafB x))∧Bw w w':=by
 obtain⟨op,n,v,at_,a,b⟩:=x;have k1:=Hd refIsName_k;have hB0:Bw w (w.alloc (.cells ⟨ndV ⟨op,n,v,at_,a,b⟩⟩ 96)):=bA;replace hK:=hK.stay hB0;simp only[ndV]at hB0 hK ⊢;have tok0:=True.intro;replace hB0:=Hd hB0;replace hK:=Hd hK;by_cases ha:a= -1
 ·by_cases hb:b= -1
  ·subst ha hb;generalize hF:fieldsB ⟨op,n,v,at_,-1,-1⟩=F;have cs:(op<1∨11<op)∨op=1∨op=2∨op=3∨op=4∨op=5∨op=6∨op=7∨op=8∨op=9∨op=10∨op=11:=oQ;rcases cs with h |rfl |rfl |rfl |rfl |rfl |rfl |rfl |rfl |rfl |rfl |rfl
   ·have hl:leafB ⟨op,n,v,at_,-1,-1⟩=false:=(by unfold leafB;simp[isLf];omega);rw[hl];have f1:(op==1)=false:=by rw[xV];omega
    have f2:(op==2)=false:=(by rw[xV];omega);have f3:(op==3)=false:=by rw[xV];omega
    have f4:(op==4)=false:=(by rw[xV];omega);have f5:(op==5)=false:=by rw[xV];omega
    have f6:(op==6)=false:=(by rw[xV];omega);have f7:(op==7)=false:=by rw[xV];omega
    have f8:(op==8)=false:=(by rw[xV];omega);have f9:(op==9)=false:=by rw[xV];omega
    have f10:(op==10)=false:=(by rw[xV];omega);have f11:(op==11)=false:=by rw[xV];omega
    clear hl hF;go_enter Tryz.func146,Tryz.ntmps146;go_wp2;go_ret;exact⟨rfl,hB0.out⟩
   ·have hl:leafB ⟨1,n,v,at_,-1,-1⟩=F:=(by unfold leafB;rw[hF];simp[isLf]);rw[hl];clear hl;by_cases hn:n<0
    ·obtain rfl:F=false:=by rw[←hF];exact fb_n (by simp;omega)
     clear hF;go_enter Tryz.func146,Tryz.ntmps146;go_wp2;go_ret;exact⟨rfl,hB0.out⟩
    by_cases hve:v=emp
    ·have fv:(v.toList==([]:List UInt8))=true:=(by rw[emp_eq];exact zW hve);have hF2:=(fb_a (by simp;omega) (by simp only;rw[if_neg (by rw[(isVar_f oQ)];decide)];exact zW hve)).symm.trans hF;replace hve:=Hd hve;clear hF;simp only at hF2;rw[if_neg (by rw[isAtt_f oQ];decide)]at hF2;have fa:(at_.toList==([]:List UInt8))=F:=by rw[emp_eq];exact hF2
     clear hF2;go_enter Tryz.func146,Tryz.ntmps146;go_wp2;go_ret;exact⟨rfl,hB0.out⟩
    ·have fv:(v.toList==([]:List UInt8))=false:=(by rw[emp_eq];exact zV hve);obtain rfl:F=false:=by rw[←hF];exact fb_v (by simp only;rw[if_neg (by rw[(isVar_f oQ)];decide)];exact zV hve)
     replace hve:=Hd hve;clear hF;go_enter Tryz.func146,Tryz.ntmps146;go_wp2;go_ret;exact⟨rfl,hB0.out⟩
   ·have hl:leafB ⟨2,n,v,at_,-1,-1⟩=F:=(by unfold leafB;rw[hF];simp[isLf]);rw[hl];clear hl;by_cases hn:¬n=0
    ·obtain rfl:F=false:=by rw[←hF];exact fb_n (by simp only;rw[if_neg oQ];exact zV oQ)
     have fn:(n==0)=false:=(by rw[xV];exact hn);clear hF;go_enter Tryz.func146,Tryz.ntmps146;go_wp2;go_ret;exact⟨rfl,hB0.out⟩
    obtain rfl:n=0:=oQ;by_cases hve:v=emp
    ·have fv:(v.toList==([]:List UInt8))=true:=(by rw[emp_eq];exact zW hve);have hF2:=(fb_a (by simp only;rw[if_neg oQ];first|exact zW trivial |simp) (by simp only;rw[if_neg (by rw[(isVar_f oQ)];decide)];exact zW hve)).symm.trans hF;replace hve:=Hd hve;clear hF;simp only at hF2;rw[if_neg (by rw[isAtt_f oQ];decide)]at hF2;have fa:(at_.toList==([]:List UInt8))=F:=by rw[emp_eq];exact hF2
     clear hF2;go_enter Tryz.func146,Tryz.ntmps146;go_wp2;go_ret;exact⟨rfl,hB0.out⟩
    ·have fv:(v.toList==([]:List UInt8))=false:=(by rw[emp_eq];exact zV hve);obtain rfl:F=false:=by rw[←hF];exact fb_v (by simp only;rw[if_neg (by rw[(isVar_f oQ)];decide)];exact zV hve)
     replace hve:=Hd hve;clear hF;go_enter Tryz.func146,Tryz.ntmps146;go_wp2;go_ret;exact⟨rfl,hB0.out⟩
   ·have hl:leafB ⟨3,n,v,at_,-1,-1⟩=F:=(by unfold leafB;rw[hF];simp[isLf]);rw[hl];clear hl;by_cases hn:¬n=0
    ·obtain rfl:F=false:=by rw[←hF];exact fb_n (by simp only;rw[if_neg oQ];exact zV oQ)
     have fn:(n==0)=false:=(by rw[xV];exact hn);clear hF;go_enter Tryz.func146,Tryz.ntmps146;go_wp2;go_ret;exact⟨rfl,hB0.out⟩
    obtain rfl:n=0:=oQ;by_cases hve:v=emp
    ·have fv:(v.toList==([]:List UInt8))=true:=(by rw[emp_eq];exact zW hve);have hF2:=(fb_a (by simp only;rw[if_neg oQ];first|exact zW trivial |simp) (by simp only;rw[if_neg (by rw[(isVar_f oQ)];decide)];exact zW hve)).symm.trans hF;replace hve:=Hd hve;clear hF;simp only at hF2;rw[if_neg (by rw[isAtt_f oQ];decide)]at hF2;have fa:(at_.toList==([]:List UInt8))=F:=by rw[emp_eq];exact hF2
     clear hF2;go_enter Tryz.func146,Tryz.ntmps146;go_wp2;go_ret;exact⟨rfl,hB0.out⟩
    ·have fv:(v.toList==([]:List UInt8))=false:=(by rw[emp_eq];exact zV hve);obtain rfl:F=false:=by rw[←hF];exact fb_v (by simp only;rw[if_neg (by rw[(isVar_f oQ)];decide)];exact zV hve)
     replace hve:=Hd hve;clear hF;go_enter Tryz.func146,Tryz.ntmps146;go_wp2;go_ret;exact⟨rfl,hB0.out⟩
   ·have hl:leafB ⟨4,n,v,at_,-1,-1⟩=F:=(by unfold leafB;rw[hF];simp[isLf]);rw[hl];clear hl;by_cases hn:¬n=0
    ·obtain rfl:F=false:=by rw[←hF];exact fb_n (by simp only;rw[if_neg oQ];exact zV oQ)
     have fn:(n==0)=false:=(by rw[xV];exact hn);clear hF;go_enter Tryz.func146,Tryz.ntmps146;go_wp2;go_ret;exact⟨rfl,hB0.out⟩
    obtain rfl:n=0:=oQ;cases hi:isNm v with
    |false=>
     obtain rfl:F=false:=by rw[←hF];exact fb_v (by simp only;rw[if_pos (isVar_t oQ oQ)];exact hi)
     replace hi:=Hd hi;clear hF;go_enter Tryz.func146,Tryz.ntmps146;go_wp2_with (have _t:=tok0;clear tok0;go_at_call 94;refine(k1.out v _ hK.out).mono ?_;rw[hi.out];rintro e W ⟨rfl,hW⟩;obtain rfl:=hW.symm);go_ret;exact⟨rfl,hB0.out⟩
    |true=>
     have hF2:=(fb_a (by simp only;rw[if_neg oQ];first|exact zW trivial |simp) (by simp only;rw[if_pos (isVar_t oQ oQ)];exact hi)).symm.trans hF;replace hi:=Hd hi;clear hF;simp only at hF2;rw[if_pos (isAtt_t oQ oQ oQ)]at hF2;replace hF2:=Hd hF2;go_enter Tryz.func146,Tryz.ntmps146;go_wp2_with first
      |(have _t:=tok0;clear tok0;go_at_call 94;refine(k1.out v _ hK.out).mono ?_;rw[hi.out];rintro e W ⟨rfl,hW⟩;obtain rfl:=hW.symm)
      |(go_at_call 94;refine(k1.out at_ _ hK.out).mono ?_;rw[hF2.out];rintro e W ⟨rfl,hW⟩;obtain rfl:=hW.symm)
     go_ret;exact⟨rfl,hB0.out⟩
   ·have hl:leafB ⟨5,n,v,at_,-1,-1⟩=F:=(by unfold leafB;rw[hF];simp[isLf]);rw[hl];clear hl;by_cases hn:¬n=0
    ·obtain rfl:F=false:=by rw[←hF];exact fb_n (by simp only;rw[if_neg oQ];exact zV oQ)
     have fn:(n==0)=false:=(by rw[xV];exact hn);clear hF;go_enter Tryz.func146,Tryz.ntmps146;go_wp2;go_ret;exact⟨rfl,hB0.out⟩
    obtain rfl:n=0:=oQ;cases hi:isNm v with
    |false=>
     obtain rfl:F=false:=by rw[←hF];exact fb_v (by simp only;rw[if_pos (isVar_t oQ oQ)];exact hi)
     replace hi:=Hd hi;clear hF;go_enter Tryz.func146,Tryz.ntmps146;go_wp2_with (have _t:=tok0;clear tok0;go_at_call 94;refine(k1.out v _ hK.out).mono ?_;rw[hi.out];rintro e W ⟨rfl,hW⟩;obtain rfl:=hW.symm);go_ret;exact⟨rfl,hB0.out⟩
    |true=>
     have hF2:=(fb_a (by simp only;rw[if_neg oQ];first|exact zW trivial |simp) (by simp only;rw[if_pos (isVar_t oQ oQ)];exact hi)).symm.trans hF;replace hi:=Hd hi;clear hF;simp only at hF2;rw[if_neg (by rw[isAtt_f oQ];decide)]at hF2;have fa:(at_.toList==([]:List UInt8))=F:=by rw[emp_eq];exact hF2
     clear hF2;go_enter Tryz.func146,Tryz.ntmps146;go_wp2_with (have _t:=tok0;clear tok0;go_at_call 94;refine(k1.out v _ hK.out).mono ?_;rw[hi.out];rintro e W ⟨rfl,hW⟩;obtain rfl:=hW.symm);go_ret;exact⟨rfl,hB0.out⟩
   ·have hl:leafB ⟨6,n,v,at_,-1,-1⟩=F:=(by unfold leafB;rw[hF];simp[isLf]);rw[hl];clear hl;by_cases hn:¬n=0
    ·obtain rfl:F=false:=by rw[←hF];exact fb_n (by simp only;rw[if_neg oQ];exact zV oQ)
     have fn:(n==0)=false:=(by rw[xV];exact hn);clear hF;go_enter Tryz.func146,Tryz.ntmps146;go_wp2;go_ret;exact⟨rfl,hB0.out⟩
    obtain rfl:n=0:=oQ;cases hi:isNm v with
    |false=>
     obtain rfl:F=false:=by rw[←hF];exact fb_v (by simp only;rw[if_pos (isVar_t oQ oQ)];exact hi)
     replace hi:=Hd hi;clear hF;go_enter Tryz.func146,Tryz.ntmps146;go_wp2_with (have _t:=tok0;clear tok0;go_at_call 94;refine(k1.out v _ hK.out).mono ?_;rw[hi.out];rintro e W ⟨rfl,hW⟩;obtain rfl:=hW.symm);go_ret;exact⟨rfl,hB0.out⟩
    |true=>
     have hF2:=(fb_a (by simp only;rw[if_neg oQ];first|exact zW trivial |simp) (by simp only;rw[if_pos (isVar_t oQ oQ)];exact hi)).symm.trans hF;replace hi:=Hd hi;clear hF;simp only at hF2;rw[if_pos (isAtt_t oQ oQ oQ)]at hF2;replace hF2:=Hd hF2;go_enter Tryz.func146,Tryz.ntmps146;go_wp2_with first
      |(have _t:=tok0;clear tok0;go_at_call 94;refine(k1.out v _ hK.out).mono ?_;rw[hi.out];rintro e W ⟨rfl,hW⟩;obtain rfl:=hW.symm)
      |(go_at_call 94;refine(k1.out at_ _ hK.out).mono ?_;rw[hF2.out];rintro e W ⟨rfl,hW⟩;obtain rfl:=hW.symm)
     go_ret;exact⟨rfl,hB0.out⟩
   ·have hl:leafB ⟨7,n,v,at_,-1,-1⟩=F:=(by unfold leafB;rw[hF];simp[isLf]);rw[hl];clear hl;by_cases hn:¬n=0
    ·obtain rfl:F=false:=by rw[←hF];exact fb_n (by simp only;rw[if_neg oQ];exact zV oQ)
     have fn:(n==0)=false:=(by rw[xV];exact hn);clear hF;go_enter Tryz.func146,Tryz.ntmps146;go_wp2;go_ret;exact⟨rfl,hB0.out⟩
    obtain rfl:n=0:=oQ;cases hi:isNm v with
    |false=>
     obtain rfl:F=false:=by rw[←hF];exact fb_v (by simp only;rw[if_pos (isVar_t oQ oQ)];exact hi)
     replace hi:=Hd hi;clear hF;go_enter Tryz.func146,Tryz.ntmps146;go_wp2_with (have _t:=tok0;clear tok0;go_at_call 94;refine(k1.out v _ hK.out).mono ?_;rw[hi.out];rintro e W ⟨rfl,hW⟩;obtain rfl:=hW.symm);go_ret;exact⟨rfl,hB0.out⟩
    |true=>
     have hF2:=(fb_a (by simp only;rw[if_neg oQ];first|exact zW trivial |simp) (by simp only;rw[if_pos (isVar_t oQ oQ)];exact hi)).symm.trans hF;replace hi:=Hd hi;clear hF;simp only at hF2;rw[if_pos (isAtt_t oQ oQ oQ)]at hF2;replace hF2:=Hd hF2;go_enter Tryz.func146,Tryz.ntmps146;go_wp2_with first
      |(have _t:=tok0;clear tok0;go_at_call 94;refine(k1.out v _ hK.out).mono ?_;rw[hi.out];rintro e W ⟨rfl,hW⟩;obtain rfl:=hW.symm)
      |(go_at_call 94;refine(k1.out at_ _ hK.out).mono ?_;rw[hF2.out];rintro e W ⟨rfl,hW⟩;obtain rfl:=hW.symm)
     go_ret;exact⟨rfl,hB0.out⟩
   ·have hl:leafB ⟨8,n,v,at_,-1,-1⟩=F:=(by unfold leafB;rw[hF];simp[isLf]);rw[hl];clear hl;by_cases hn:¬n=0
    ·obtain rfl:F=false:=by rw[←hF];exact fb_n (by simp only;rw[if_neg oQ];exact zV oQ)
     have fn:(n==0)=false:=(by rw[xV];exact hn);clear hF;go_enter Tryz.func146,Tryz.ntmps146;go_wp2;go_ret;exact⟨rfl,hB0.out⟩
    obtain rfl:n=0:=oQ;cases hi:isNm v with
    |false=>
     obtain rfl:F=false:=by rw[←hF];exact fb_v (by simp only;rw[if_pos (isVar_t oQ oQ)];exact hi)
     replace hi:=Hd hi;clear hF;go_enter Tryz.func146,Tryz.ntmps146;go_wp2_with (have _t:=tok0;clear tok0;go_at_call 94;refine(k1.out v _ hK.out).mono ?_;rw[hi.out];rintro e W ⟨rfl,hW⟩;obtain rfl:=hW.symm);go_ret;exact⟨rfl,hB0.out⟩
    |true=>
     have hF2:=(fb_a (by simp only;rw[if_neg oQ];first|exact zW trivial |simp) (by simp only;rw[if_pos (isVar_t oQ oQ)];exact hi)).symm.trans hF;replace hi:=Hd hi;clear hF;simp only at hF2;rw[if_pos (isAtt_t oQ oQ oQ)]at hF2;replace hF2:=Hd hF2;go_enter Tryz.func146,Tryz.ntmps146;go_wp2_with first
      |(have _t:=tok0;clear tok0;go_at_call 94;refine(k1.out v _ hK.out).mono ?_;rw[hi.out];rintro e W ⟨rfl,hW⟩;obtain rfl:=hW.symm)
      |(go_at_call 94;refine(k1.out at_ _ hK.out).mono ?_;rw[hF2.out];rintro e W ⟨rfl,hW⟩;obtain rfl:=hW.symm)
     go_ret;exact⟨rfl,hB0.out⟩
   ·have hl:leafB ⟨9,n,v,at_,-1,-1⟩=F:=(by unfold leafB;rw[hF];simp[isLf]);rw[hl];clear hl;by_cases hn:¬n=0
    ·obtain rfl:F=false:=by rw[←hF];exact fb_n (by simp only;rw[if_neg oQ];exact zV oQ)
     have fn:(n==0)=false:=(by rw[xV];exact hn);clear hF;go_enter Tryz.func146,Tryz.ntmps146;go_wp2;go_ret;exact⟨rfl,hB0.out⟩
    obtain rfl:n=0:=oQ;cases hi:isNm v with
    |false=>
     obtain rfl:F=false:=by rw[←hF];exact fb_v (by simp only;rw[if_pos (isVar_t oQ oQ)];exact hi)
     replace hi:=Hd hi;clear hF;go_enter Tryz.func146,Tryz.ntmps146;go_wp2_with (have _t:=tok0;clear tok0;go_at_call 94;refine(k1.out v _ hK.out).mono ?_;rw[hi.out];rintro e W ⟨rfl,hW⟩;obtain rfl:=hW.symm);go_ret;exact⟨rfl,hB0.out⟩
    |true=>
     have hF2:=(fb_a (by simp only;rw[if_neg oQ];first|exact zW trivial |simp) (by simp only;rw[if_pos (isVar_t oQ oQ)];exact hi)).symm.trans hF;replace hi:=Hd hi;clear hF;simp only at hF2;rw[if_pos (isAtt_t oQ oQ oQ)]at hF2;replace hF2:=Hd hF2;go_enter Tryz.func146,Tryz.ntmps146;go_wp2_with first
      |(have _t:=tok0;clear tok0;go_at_call 94;refine(k1.out v _ hK.out).mono ?_;rw[hi.out];rintro e W ⟨rfl,hW⟩;obtain rfl:=hW.symm)
      |(go_at_call 94;refine(k1.out at_ _ hK.out).mono ?_;rw[hF2.out];rintro e W ⟨rfl,hW⟩;obtain rfl:=hW.symm)
     go_ret;exact⟨rfl,hB0.out⟩
   ·have hl:leafB ⟨10,n,v,at_,-1,-1⟩=F:=(by unfold leafB;rw[hF];simp[isLf]);rw[hl];clear hl;by_cases hn:¬n=0
    ·obtain rfl:F=false:=by rw[←hF];exact fb_n (by simp only;rw[if_neg oQ];exact zV oQ)
     have fn:(n==0)=false:=(by rw[xV];exact hn);clear hF;go_enter Tryz.func146,Tryz.ntmps146;go_wp2;go_ret;exact⟨rfl,hB0.out⟩
    obtain rfl:n=0:=oQ;cases hi:isNm v with
    |false=>
     obtain rfl:F=false:=by rw[←hF];exact fb_v (by simp only;rw[if_pos (isVar_t oQ oQ)];exact hi)
     replace hi:=Hd hi;clear hF;go_enter Tryz.func146,Tryz.ntmps146;go_wp2_with (have _t:=tok0;clear tok0;go_at_call 94;refine(k1.out v _ hK.out).mono ?_;rw[hi.out];rintro e W ⟨rfl,hW⟩;obtain rfl:=hW.symm);go_ret;exact⟨rfl,hB0.out⟩
    |true=>
     have hF2:=(fb_a (by simp only;rw[if_neg oQ];first|exact zW trivial |simp) (by simp only;rw[if_pos (isVar_t oQ oQ)];exact hi)).symm.trans hF;replace hi:=Hd hi;clear hF;simp only at hF2;rw[if_pos (isAtt_t oQ oQ oQ)]at hF2;replace hF2:=Hd hF2;go_enter Tryz.func146,Tryz.ntmps146;go_wp2_with first
      |(have _t:=tok0;clear tok0;go_at_call 94;refine(k1.out v _ hK.out).mono ?_;rw[hi.out];rintro e W ⟨rfl,hW⟩;obtain rfl:=hW.symm)
      |(go_at_call 94;refine(k1.out at_ _ hK.out).mono ?_;rw[hF2.out];rintro e W ⟨rfl,hW⟩;obtain rfl:=hW.symm)
     go_ret;exact⟨rfl,hB0.out⟩
   ·have hl:leafB ⟨11,n,v,at_,-1,-1⟩=F:=(by unfold leafB;rw[hF];simp[isLf]);rw[hl];clear hl;by_cases hn:¬n=0
    ·obtain rfl:F=false:=by rw[←hF];exact fb_n (by simp only;rw[if_neg oQ];exact zV oQ)
     have fn:(n==0)=false:=(by rw[xV];exact hn);clear hF;go_enter Tryz.func146,Tryz.ntmps146;go_wp2;go_ret;exact⟨rfl,hB0.out⟩
    obtain rfl:n=0:=oQ;cases hi:isNm v with
    |false=>
     obtain rfl:F=false:=by rw[←hF];exact fb_v (by simp only;rw[if_pos (isVar_t oQ oQ)];exact hi)
     replace hi:=Hd hi;clear hF;go_enter Tryz.func146,Tryz.ntmps146;go_wp2_with (have _t:=tok0;clear tok0;go_at_call 94;refine(k1.out v _ hK.out).mono ?_;rw[hi.out];rintro e W ⟨rfl,hW⟩;obtain rfl:=hW.symm);go_ret;exact⟨rfl,hB0.out⟩
    |true=>
     have hF2:=(fb_a (by simp only;rw[if_neg oQ];first|exact zW trivial |simp) (by simp only;rw[if_pos (isVar_t oQ oQ)];exact hi)).symm.trans hF;replace hi:=Hd hi;clear hF;simp only at hF2;rw[if_pos (isAtt_t oQ oQ oQ)]at hF2;replace hF2:=Hd hF2;go_enter Tryz.func146,Tryz.ntmps146;go_wp2_with first
      |(have _t:=tok0;clear tok0;go_at_call 94;refine(k1.out v _ hK.out).mono ?_;rw[hi.out];rintro e W ⟨rfl,hW⟩;obtain rfl:=hW.symm)
      |(go_at_call 94;refine(k1.out at_ _ hK.out).mono ?_;rw[hF2.out];rintro e W ⟨rfl,hW⟩;obtain rfl:=hW.symm)
     go_ret;exact⟨rfl,hB0.out⟩
  ·have hl:leafB ⟨op,n,v,at_,a,b⟩=false:=by unfold leafB;simp[hb]
   have fb:(b== -1)=false:=by rw[xV];exact hb
   subst ha;rw[hl];clear hl;go_enter Tryz.func146,Tryz.ntmps146;go_wp2;go_ret;exact⟨rfl,hB0.out⟩
 ·have hl:leafB ⟨op,n,v,at_,a,b⟩=false:=by unfold leafB;simp[ha]
  have fa:(a== -1)=false:=by rw[xV];exact ha
  rw[hl];clear hl;go_enter Tryz.func146,Tryz.ntmps146;go_wp2;go_ret;exact⟨rfl,hB0.out⟩
theorem one_k (o:Int)(w:World):Calls Tryz.prog 147 #[.int .i64 o] w fun e w'=>e=.returned (.bool (isUn o))∧w'=w:=by
 by_cases h1:o=12
 ·subst h1;go_enter Tryz.func147,Tryz.ntmps147;go_wp2;go_ret;exact⟨rfl,rfl⟩
 ·have hl:isUn o=(o==13):=by unfold isUn;rw[zV h1,Bool.false_or];by_cases h:o=13<;>simp[h]
  have f1:(o==12)=false:=by rw[xV];exact h1
  rw[hl];clear hl;go_enter Tryz.func147,Tryz.ntmps147;go_wp2;go_ret;exact⟨rfl,rfl⟩
theorem two_k (o:Int)(w:World):Calls Tryz.prog 148 #[.int .i64 o] w fun e w'=>e=.returned (.bool (isBi o))∧w'=w:=by
 by_cases h1:14≤o
 ·have hl:isBi o=decide (o≤26):=by unfold isBi;rw[zW h1,xE]
  rw[hl];clear hl;go_enter Tryz.func148,Tryz.ntmps148;go_wp2;go_ret;exact⟨rfl,rfl⟩
 ·have hl:isBi o=false:=by unfold isBi;rw[zV h1];rfl
  rw[hl];clear hl;go_enter Tryz.func148,Tryz.ntmps148;go_wp2;go_ret;exact⟨rfl,rfl⟩
end ckW
def bareB (x:Nd):Bool:=decide (x.n=0)&&(decide (x.v=emp)&&decide (x.at_=emp))
def btD (b:Nat):D:=.v (.int .i64 (b:Nat))
theorem fields_ub {x:Nd}(h:isLf x.op=false)(h2:1≤x.op):fieldsB x=bareB x:=by
 have h3:11<x.op:=by simp[isLf]at h;omega
 unfold fieldsB bareB;rw[if_neg oQ,if_neg (by rw[isVar_f (.inr h3)];decide),if_neg (by rw[isAtt_f (.inr (.inl h3))];decide),Bool.and_assoc]
theorem un_lf {o:Int}(h:isUn o=true):isLf o=false∧1≤o:=by simp[isUn]at h;simp[isLf];omega
theorem bi_lf {o:Int}(h:isBi o=true):isLf o=false∧isUn o=false∧1≤o:=by simp[isBi]at h;simp[isLf,isUn];omega
theorem st_leaf {i:Nat}{stk:List (Nat×Nat)}{x:Nd}(h:leafB x=true):stepT i stk x=some ((i,i)::stk):=by
 unfold leafB at h;simp only[xK,decide_eq_true_eq]at h;unfold stepT;rw[if_neg (by rw[h.2.2.2];decide),if_pos h.2.2.1,if_pos ⟨h.1,h.2.1⟩]
theorem st_none {i:Nat}{stk:List (Nat×Nat)}{x:Nd}(h:leafB x=false)(h1:isUn x.op=false)(h2:isBi x.op=false):stepT i stk x=none:=by
 unfold stepT;by_cases hf:fieldsB x=false
 ·rw[if_pos hf]
 ·rw[if_neg hf];by_cases hl:isLf x.op=true
  ·rw[if_pos hl];by_cases hab:x.a= -1∧x.b= -1
   ·exfalso;unfold leafB at h;rw[zW hab.1,zW hab.2,hl,show fieldsB x=true by simpa using hf]at h;cases h
   ·rw[if_neg hab]
  ·rw[if_neg hl,if_neg (by rw[h1];decide),if_neg (by rw[h2];decide)]
theorem StkOk.top {t:List Nd}{i:Nat}{stk:List (Nat×Nat)}(h:StkOk t (i+1) stk):∃b s,stk=(b,i)::s∧Sp t b i∧StkOk t b s:=by
 cases h with
 |cons h1 h2=>exact⟨_,_,rfl,h1,h2⟩
theorem StkOk.bot {t:List Nd}{stk:List (Nat×Nat)}(h:StkOk t 0 stk):stk=[]:=by cases h;rfl
theorem st_un {t:List Nd}{i bt:Nat}{stk:List (Nat×Nat)}{x:Nd}(hs:StkOk t (i+1) stk)(hb:Sp t bt i)(h1:isUn x.op=true):stepT (i+1) stk x=if bareB x=true∧x.a=(i:Int)∧x.b= -1 then some ((bt,i+1)::stk.tail)else none:=by
 obtain⟨b,s,rfl,h2,h3⟩:=hs.top;obtain rfl:=hb.det h2;obtain⟨h4,h5⟩:=un_lf h1;unfold stepT;rw[fields_ub h4 h5,h4,h1];cases bareB x<;>simp
theorem st_un0 {stk:List (Nat×Nat)}{t:List Nd}{x:Nd}(hs:StkOk t 0 stk)(h1:isUn x.op=true∨isBi x.op=true):stepT 0 stk x=none:=by
 obtain rfl:=hs.bot;unfold stepT;have h4:isLf x.op=false:=h1.elim (fun h=>(un_lf h).1) (fun h=>(bi_lf h).1);rw[h4];cases fieldsB x<;>cases isUn x.op<;>cases isBi x.op<;>simp
theorem st_bi {t:List Nd}{i bt:Nat}{stk:List (Nat×Nat)}{x:Nd}(hs:StkOk t (i+1) stk)(hb:Sp t bt i)(h1:isBi x.op=true)(hn:¬(bareB x=true∧x.b=(i:Int)∧1≤bt∧x.a=(bt:Int) -1)):stepT (i+1) stk x=none:=by
 obtain⟨b,s,rfl,h2,h3⟩:=hs.top;obtain rfl:=hb.det h2;obtain⟨h4,h5,h6⟩:=bi_lf h1;unfold stepT;rw[fields_ub h4 h6,h4,h5,h1];by_cases hbare:bareB x=true
 ·rw[hbare];cases bt with
  |zero=>
   obtain rfl:=h3.bot;simp
  |succ m=>
   obtain⟨b2,s2,rfl,h7,h8⟩:=h3.top;simp;intro e1 e2;exact hn ⟨hbare,e2,oQ,by rw[e1];omega⟩
 ·have:bareB x=false:=by simpa using hbare
  rw[this];simp
theorem st_bi1 {t:List Nd}{i m b2:Nat}{stk:List (Nat×Nat)}{x:Nd}(hs:StkOk t (i+1) stk)(hb:Sp t (m+1) i)(hb2:Sp t b2 m)(h1:isBi x.op=true)(hbare:bareB x=true)(hxb:x.b=(i:Int))(hxa:x.a=(m:Int)):stepT (i+1) stk x=some ((b2,i+1)::stk.tail.tail):=by
 obtain⟨b,s,rfl,h2,h3⟩:=hs.top;obtain rfl:=hb.det h2;obtain⟨b3,s2,rfl,h7,h8⟩:=h3.top;obtain rfl:=hb2.det h7;obtain⟨h4,h5,h6⟩:=bi_lf h1;unfold stepT;rw[fields_ub h4 h6,h4,h5,h1,hbare];simp[hxa,hxb]
structure BI (t:List Nd)(w wr:World)(i:Nat)(stk:List (Nat×Nat))(v:Value)(bl:List Nat):Prop where
 hi:i≤t.length
 hb:Bw w wr
 ol:OL wr w.heap.size NoF 3 1 v i (bl.map btD)
 hl:bl.length=i
 st:StkOk t i stk
 al:AllSp t i
 bg:∀(r b:Nat),bl[r]? =some b→Sp t b r
 eq:runT 0 [] t=runT i stk (t.drop i)
def BRel (t:List Nd)(w:World)(x y:Value)(wr:World):Prop:=∃i stk bl,y=.int .i64 (i:Nat)∧BI t w wr i stk x bl
theorem BRel.mk {t:List Nd}{w wr:World}{x y:Value}(i:Nat)(stk:List (Nat×Nat))(bl:List Nat)(h1:y=.int .i64 i)(h2:BI t w wr i stk x bl):BRel t w x y wr:=⟨i,stk,bl,h1,h2⟩
def BPost (t:List Nd)(w:World)(e:Ending)(w':World):Prop:=
 ∃v ok,e=.returned (.tuple #[v,.bool ok])∧Bw w w'∧((ok=false∧runT 0 [] t=none)∨(ok=true∧∃stk bl,runT 0 [] t=some stk∧BI t w w' t.length stk v bl))
theorem BI.dead {t:List Nd}{w wr W:World}{i:Nat}{stk:List (Nat×Nat)}{v:Value}{bl:List Nat}{x:Nd}(h:BI t w wr i stk v bl)(hx:t[i]? =some x)(hs:stepT i stk x=none)(hb:Bw w W):BPost t w (.returned (.tuple #[.slice none 0 0,.bool false])) W:=by
 obtain⟨h1,h2⟩:=zC.1 hx;refine⟨_,_,rfl,hb,.inl ⟨rfl,?_⟩⟩;rw[h.eq,List.drop_eq_getElem_cons h1,h2];unfold runT;rw[hs]
theorem BI.push {t:List Nd}{w wr w2 w3:World}{i nb:Nat}{stk stk':List (Nat×Nat)}{v v':Value}{bl:List Nat}{x:Nd}{o:Obj}(h:BI t w wr i stk v bl)(hx:t[i]? =some x)(hs:stepT i stk x=some stk')(hsp:Sp t nb i)(hb:Bw wr w2)(hg:(w2.alloc o).grownBy w3 v.ownBlock)
  (hO:OL w3 w.heap.size NoF 3 1 v' (i+1) (bl.map btD++[btD nb])):BI t w w3 (i+1) stk' v' (bl++[nb]):=by
 obtain⟨h1,h2⟩:=zC.1 hx;obtain⟨h3,h4,_⟩:=stepT_ok hx h.st h.al hs;have hs1:=h.hb.size;have hs2:=hb.size;refine⟨h1,((h.hb.trans (hb.mono hs1)).alloc oQ o).grown hg (by simp;omega) (fun q hq=>(h.ol.lt q hq).1),by simpa using hO,by simp[h.hl],h3,h4,fun r b hr=>?_,?_⟩
 ·by_cases hrl:r<bl.length
  ·rw[zS hrl]at hr;exact h.bg r b hr
  ·rw[zP oQ]at hr;have:=(zC.1 hr).1;simp at this;have hri:r=i:=by have:=h.hl;omega
   subst hri;have e:r-bl.length=0:=by have:=h.hl;omega
   rw[e]at hr;injection hr with hr
   subst hr;exact hsp
 ·rw[h.eq,List.drop_eq_getElem_cons h1,h2];show runT i stk (x::_)=_
  rw[runT,hs]
theorem BI.at_ {t:List Nd}{w wr:World}{i:Nat}{stk:List (Nat×Nat)}{A:Option Addr}{n c:Nat}{bl:List Nat}(h:BI t w wr i stk (.slice A n c) bl){r:Nat}(hr:r<i):∃g b,A=some ⟨g,0,none⟩∧Sp t b r∧∀W,Bw wr W→W.cell? ⟨g,r,none⟩=some (.int .i64 (b:Nat)):=by
 have hrl:r<bl.length:=by have:=h.hl;omega
 have hb:=zI hrl;obtain⟨g,cap,e,_⟩:=h.ol.row oQ;injection e with e1 e2 e3
 subst e1;refine⟨g,bl[r],rfl,h.bg r _ hb,fun W hW=>?_⟩;obtain⟨g',cap',e',_,_,_,hc⟩:=(h.ol.stay hW).row oQ;injection e' with e1 _ _
 injection e1 with e1
 injection e1 with e1 _
 subst e1;obtain⟨u,hu,hr2⟩:=hc r (btD bl[r]) (by rw[zG,hb];rfl);rw[hr2.v_inv]at hu;exact hu
end Go.Proofs.YthaabihjeomipaaGreatDoor
