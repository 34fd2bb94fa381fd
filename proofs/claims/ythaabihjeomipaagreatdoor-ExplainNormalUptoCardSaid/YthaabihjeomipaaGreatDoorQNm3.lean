/- Names. -/
import Derived.Test.YthaabihjeomipaaGreatDoorQBase
import Derived.Laws.IdiomStrings
import Derived.Laws.RangeAny
import Derived.Lib.OthersKept
import Derived.Deep.MidRow
import Derived.Deep.CutBlock
import Derived.Deep.DeepCutAuto
namespace Go.Proofs.YthaabihjeomipaaGreatDoor
set_option maxRecDepth 100000
set_option maxHeartbeats 16000000
open Go.RowKit Go.Deep
set_option linter.unusedVariables false
def upU (b:UInt8):UInt8:=if 97≤b.toNat∧b.toNat≤122 then b-32 else b
def upB (s:ByteArray):ByteArray:=⟨s.data.map upU⟩
theorem up_toNat (x:UInt8):(upU x).toNat=if 97≤x.toNat∧x.toNat≤122 then x.toNat-32 else x.toNat:=by
 unfold upU;split
 ·rename_i h;rw[UInt8.toNat_sub_of_le _ _ (by rw[UInt8.le_iff_toNat_le];simp;omega)];rfl
 ·rfl
theorem up_iff (x y:UInt8)(h:65≤y.toNat∧y.toNat≤90):upU x=y↔letN x.toNat=true∧x.toNat % 32=y.toNat % 32:=by
 rw[←UInt8.toNat_inj,up_toNat];simp only[letN,Bool.or_eq_true,xK,decide_eq_true_eq];have:=x.toNat_lt;split<;>omega
theorem upB_eq (s k:ByteArray):upB s=k↔s.size=k.size∧∀i (h:i<s.size)(h2:i<k.size),upU s[i]=k[i]:=by
 constructor
 ·rintro rfl;refine⟨by show s.data.size=(s.data.map upU).size;simp,fun i h h2=>?_⟩;show _=(s.data.map upU)[i]'(by simpa using h)
  rw[Array.getElem_map];rfl
 ·rintro⟨h1,h2⟩;apply ByteArray.ext;apply Array.ext
  ·show(s.data.map upU).size=_
   simpa using h1
  ·intro i h3 h4;have h5:i<s.size:=by
    have:i<(s.data.map upU).size:=h3;simpa using this
   have h6:i<(s.data.map upU).size:=h3;show(s.data.map upU)[i]'h6=_
   rw[Array.getElem_map];exact h2 i h5 h4
namespace nmW
theorem alike_k (s k:ByteArray)(hk:∀i (h:i<k.size),65≤k[i].toNat∧k[i].toNat≤90)(hs:s.size≤1048576)(w:World):
  Calls Tryz.prog 141 #[.string s,.string k] w fun e w'=>e=.returned (.bool (decide (upB s=k)))∧w'=w:=by
 have k1:=Hd letter_k;have hb:=Hd (upB_eq s k);by_cases hsz:s.size=k.size
 ·have hsz':(s.size:Int)=k.size:=oQ;generalize hc:decide (upB s=k)=b;replace hc:=Hd hc;go_enter Tryz.func141,Tryz.ntmps141;go_wp2;go_loopw [5] (fun i wr=>∃j:Nat,j≤s.size∧i=.int .i64 j∧wr=w∧(∀i (h:i<s.size)(h2:i<k.size),i<j→upU s[i]=k[i])) (fun i _=>s.size- (intOf i).toNat)
  case atStart=>exact⟨0,zE _,rfl,rfl,fun i h h2 h3=>by omega⟩
  case round=>
   obtain⟨j,hj,rfl,rfl,hp⟩:=hrel;replace hp:=Hd hp;by_cases hlt:j<s.size
   ·have hlk:j<k.size:=oQ;have g0:(0:Int)≤(j:Int):=oQ;have g1:(j:Int)<s.size:=oQ;have g2:(j:Int)<k.size:=oQ;have hy:=hk j hlk;have ly:letN (k[j]'hlk).toNat=true:=by simp[letN];omega
    by_cases hu:upU (s[j]'hlt)=k[j]'hlk
    ·have hu2:=(up_iff _ _ hy).1 hu;have lx:=hu2.1;have e1:((((s[j]'hlt).toNat:Int) % 32) != (((k[j]'hlk).toNat:Int) % 32))=false:=by
      rw[bne_eq_false_iff_eq];omega
     replace hu:=Hd hu;clear hu2 hy;go_wp2_with (go_at_call 173;refine(k1.out _ _).mono ?_;rintro e W ⟨rfl,rfl⟩);go_roundw
     case rel=>
      refine⟨j+1,oQ,gQ,by trivial,fun i h h2 h3=>?_⟩;by_cases hij:i=j
      ·subst hij;exact hu.out
      ·exact hp.out i h h2 oQ
     case measure=>exact mQ
    ·have hf:decide (upB s=k)=false:=by
      rw[decide_eq_false_iff_not,upB_eq];exact fun h=>hu (h.2 j hlt hlk)
     obtain rfl:b=false:=by rw[←hc.out,hf]
     by_cases lx:letN (s[j]'hlt).toNat=true
     ·have e1:((((s[j]'hlt).toNat:Int) % 32) != (((k[j]'hlk).toNat:Int) % 32))=true:=by
       rw[bne_iff_ne];intro he;exact hu ((up_iff _ _ hy).2 ⟨lx,oQ⟩)
      clear hu hy hf;go_wp2_with (go_at_call 173;refine(k1.out _ _).mono ?_;rintro e W ⟨rfl,rfl⟩);go_ret;exact⟨rfl,rfl⟩
     ·have lx':letN (s[j]'hlt).toNat=false:=(by simpa using lx);have e1:((((s[j]'hlt).toNat:Int)) != (((k[j]'hlk).toNat:Int)))=true:=by
       rw[bne_iff_ne];intro he;have he2:(s[j]'hlt).toNat=(k[j]'hlk).toNat:=oQ;rw[he2]at lx';rw[ly]at lx';cases lx'
      clear hu hy hf lx;go_wp2_with (go_at_call 173;refine(k1.out _ _).mono ?_;rintro e W ⟨rfl,rfl⟩);go_ret;exact⟨rfl,rfl⟩
   ·have g1:¬(j:Int)<k.size:=oQ;have g2:¬j<k.size:=oQ;have g3:decide (j<k.size)=false:=zV g2;go_wp2;go_ret;refine⟨?_,rfl⟩;rw[←hc.out,zW (hb.out.2 ⟨hsz,fun i h h2=>hp.out i h h2 oQ⟩)];rfl
 ·have hsz':¬(s.size:Int)=k.size:=oQ;have hf:decide (upB s=k)=false:=by
   rw[decide_eq_false_iff_not,upB_eq];exact fun h=>hsz h.1
  rw[hf];go_enter Tryz.func141,Tryz.ntmps141;go_wp2;go_ret;exact⟨rfl,rfl⟩
end nmW
def kwds:List ByteArray:=[⟨#[80,65,84,84,69,82,78]⟩,⟨#[83,69,81]⟩,⟨#[85,83,73,78,71]⟩,⟨#[65,78,89]⟩,⟨#[78,69,88,84]⟩,⟨#[83,84,82,73,67,84]⟩,⟨#[87,72,69,82,69]⟩,⟨#[87,73,84,72,73,78]⟩,⟨#[80,65,82,84,73,84,73,79,78]⟩,⟨#[66,89]⟩,⟨#[82,69,84,85,82,78]⟩,⟨#[65,78,68]⟩,⟨#[79,82]⟩,⟨#[78,79,84]⟩,⟨#[84,82,85,69]⟩,⟨#[70,65,76,83,69]⟩,⟨#[67,79,85,78,84]⟩,⟨#[83,85,77]⟩,⟨#[77,73,78]⟩,⟨#[77,65,88]⟩,⟨#[70,73,82,83,84]⟩,⟨#[76,65,83,84]⟩,⟨#[80,82,69,86]⟩,⟨#[65,70,84,69,82]⟩,⟨#[65,76,76]⟩,⟨#[80,65,83,84]⟩,⟨#[79,78,67,69]⟩]
def KwIs (w:World):Prop:=∀(i:Nat) k,kwds[i]? =some k→w.cell? ⟨2,i,none⟩=some (.string k)
theorem KwIs.below {w w':World}{B:Nat}(h:KwIs w)(hb:Below B w w')(hB:2<B):KwIs w':=by
 intro i k hk;rw[World.cell?_of_block (w:=w) (hb.block _ hB)];exact h i k hk
theorem KwIs.lt {w:World}(h:KwIs w):2<w.heap.size:=zX w _ (h 0 _ rfl)
theorem KwIs.stay {w w':World}(h:KwIs w)(hb:Bw w w'):KwIs w':=h.below hb h.lt
theorem kwds_up:∀k∈kwds,∀i (h:i<k.size),65≤k[i].toNat∧k[i].toNat≤90:=by
 have hall:kwds.all (fun k=>k.data.toList.all fun b=>decide (65≤b.toNat)&&decide (b.toNat≤90))=true:=dQ;intro k hk i h;have h1:=xP.1 hall k hk;have h2:=xP.1 h1 k[i] (by
  have:k[i]=k.data[i]:=rfl;rw[this];exact Array.mem_toList_iff.2 (Array.getElem_mem h))
 simpa using h2
theorem kwds_get {i:Nat}(h:i<27):∃k,kwds[i]? =some k∧k∈kwds:=by
 have h2:i<kwds.length:=h;exact⟨kwds[i],zI h2,List.getElem_mem h2⟩
structure IsNm (s:ByteArray):Prop where
 pos:1≤s.size
 le:s.size≤16
 word:∀i (h:i<s.size),wordN s[i].toNat=true
 dig:∀h:0<s.size,digN s[0].toNat=false
 kw:∀(i:Nat) k,kwds[i]? =some k→upB s≠k
open Classical in
noncomputable def isNm (s:ByteArray):Bool:=decide (IsNm s)
theorem isNm_true {s:ByteArray}(h:IsNm s):isNm s=true:=@decide_eq_true _ (_) h
theorem isNm_false {s:ByteArray}(h:¬IsNm s):isNm s=false:=@decide_eq_false _ (_) h
namespace nmW
theorem refIsName_k (s:ByteArray)(w:World)(hK:KwIs w):
  Calls Tryz.prog 94 #[.string s] w fun e w'=>e=.returned (.bool (isNm s))∧w'=w:=by
 have k1:=Hd inWord_k;have k2:=Hd digit_k;have k3:=Hd alike_k;replace hK:=Hd hK;generalize hc:isNm s=b;replace hc:=Hd hc;by_cases h1:s.size<1
 ·have f1:(s.size:Int)<1:=oQ;obtain rfl:b=false:=by rw[←hc.out];exact isNm_false fun h=>by have:=h.pos;omega
  go_enter Tryz.func94,Tryz.ntmps94;go_wp2;go_ret;exact⟨rfl,rfl⟩
 by_cases h2:16<s.size
 ·have f1:¬(s.size:Int)<1:=oQ;have f2:(16:Int)<s.size:=oQ;obtain rfl:b=false:=by rw[←hc.out];exact isNm_false fun h=>by have:=h.le;omega
  go_enter Tryz.func94,Tryz.ntmps94;go_wp2;go_ret;exact⟨rfl,rfl⟩
 have f1:¬(s.size:Int)<1:=oQ;have f2:¬(16:Int)<s.size:=oQ;have hs:s.size≤16:=oQ;clear h2;go_enter Tryz.func94,Tryz.ntmps94;go_wp2;go_loopw [3] (fun i wr=>∃j:Nat,j≤s.size∧i=.int .i64 j∧wr=w∧(∀i (h:i<s.size),i<j→wordN s[i].toNat=true)) (fun i _=>s.size- (intOf i).toNat)
 case atStart=>exact⟨0,zE _,rfl,rfl,fun i h h3=>by omega⟩
 case round=>
  obtain⟨j,hj,rfl,rfl,hp⟩:=hrel;replace hp:=Hd hp;by_cases hlt:j<s.size
  ·have g0:(0:Int)≤(j:Int):=oQ;have g1:(j:Int)<s.size:=oQ;by_cases hw:wordN (s[j]'hlt).toNat=true
   ·go_wp2_with (go_at_call 139;refine(k1.out _ _).mono ?_;rintro e W ⟨rfl,hW⟩;obtain rfl:=hW.symm);go_roundw
    case rel=>
     refine⟨j+1,oQ,gQ,by trivial,fun i h h3=>?_⟩;by_cases hij:i=j
     ·subst hij;exact hw
     ·exact hp.out i h oQ
    case measure=>exact mQ
   ·obtain rfl:b=false:=by rw[←hc.out];exact isNm_false fun h=>hw (h.word j hlt)
    have hw':wordN (s[j]'hlt).toNat=false:=(by simpa using hw);clear hw;go_wp2_with (go_at_call 139;refine(k1.out _ _).mono ?_;rintro e W ⟨rfl,hW⟩;obtain rfl:=hW.symm);go_ret;exact⟨rfl,rfl⟩
  ·have g1:¬(j:Int)<s.size:=oQ;have hpos:0<s.size:=oQ;have hpos':(0:Int)<s.size:=oQ;by_cases hd:digN (s[0]'hpos).toNat=true
   ·obtain rfl:b=false:=by rw[←hc.out];exact isNm_false fun h=>by have:=h.dig hpos;rw[hd]at this;cases this
    go_wp2_with (go_at_call 140;refine(k2.out _ _).mono ?_;rintro e W ⟨rfl,hW⟩;obtain rfl:=hW.symm);go_ret;exact⟨rfl,rfl⟩
   ·have hd':digN (s[0]'hpos).toNat=false:=(by simpa using hd);clear hd;go_wp2_with (go_at_call 140;refine(k2.out _ _).mono ?_;rintro e W ⟨rfl,hW⟩;obtain rfl:=hW.symm);go_loopw [4] (fun i wr'=>∃m:Nat,m≤27∧i=.int .i64 m∧wr'=wr∧(∀(i:Nat) k,kwds[i]? =some k→i<m→upB s≠k)) (fun i _=>27- (intOf i).toNat)
    case atStart=>exact⟨0,zE _,rfl,rfl,fun i k h h3=>by omega⟩
    case round=>
     obtain⟨m,hm,rfl,rfl,hq⟩:=hrel;replace hq:=Hd hq;by_cases hlm:m<27
     ·have q0:(0:Int)≤(m:Int):=oQ;have q1:(m:Int)<27:=oQ;obtain⟨k,hk,hkm⟩:=kwds_get hlm;have z:=hK.out m k hk;replace hk:=Hd hk;by_cases hu:upB s=k
      ·obtain rfl:b=false:=by rw[←hc.out];exact isNm_false fun h=>h.kw m k hk.out hu
       have hu':decide (upB s=k)=true:=zW hu;replace hkm:=Hd hkm;replace hu:=Hd hu;go_wp2_with (go_at_call 141;refine(k3.out _ _ (kwds_up _ hkm.out) oQ _).mono ?_;rw[hu'];rintro e W ⟨rfl,hW⟩;obtain rfl:=hW.symm);go_ret;exact⟨rfl,rfl⟩
      ·have hu':decide (upB s=k)=false:=zV hu;replace hkm:=Hd hkm;replace hu:=Hd hu;go_wp2_with (go_at_call 141;refine(k3.out _ _ (kwds_up _ hkm.out) oQ _).mono ?_;rw[hu'];rintro e W ⟨rfl,hW⟩;obtain rfl:=hW.symm);go_roundw
       case rel=>
        refine⟨m+1,oQ,gQ,by trivial,fun i k' h h3=>?_⟩;by_cases hij:i=m
        ·subst hij;obtain rfl:k'=k:=by have:=hk.out;rw[h]at this;exact zq9 this
         exact hu.out
        ·exact hq.out i k' h oQ
       case measure=>exact mQ
     ·have q1:¬(m:Int)<27:=oQ;obtain rfl:b=true:=by
       rw[←hc.out];refine isNm_true ⟨oQ,hs,fun i h=>hp.out i h oQ,fun h=>hd',fun i k h=>hq.out i k h ?_⟩;have:i<kwds.length:=(zC.1 h).1;have e:kwds.length=27:=rfl;omega
      go_wp2;go_ret;exact⟨rfl,rfl⟩
def US (w wr:World)(s:ByteArray)(j:Nat):Prop:=Bw w wr∧∀i (h:i<s.size),wr.cell? ⟨w.heap.size,i,none⟩=some (.int .u8 ((if i<j then upU s[i]else s[i]).toNat:Nat))∧wr.frozen? ⟨w.heap.size,i,none⟩=false
theorem US.start {w:World}(s:ByteArray)(cap:Nat)(t:TypeId):US w (w.alloc (.cells (bytesRow s cap) t ((bytesRow s cap).size,(bytesRow s cap).size+1))).drew s 0:=by
 refine⟨((zB _ w).alloc nR _).drew,fun i h=>?_⟩;constructor
 ·show(w.alloc _).cell? _=_
  rw[World.cell?_alloc_mark,bytesRow_at s _ i h];rfl
 ·show(w.alloc _).frozen? _=_
  rw[World.frozen?_alloc_mark];have:i<(bytesRow s cap).size:=by simp[bytesRow];have:s.size=s.data.size:=rfl;omega
  simp;omega
theorem US.skip {w wr:World}{s:ByteArray}{j:Nat}(h:US w wr s j){hlt:j<s.size}(he:upU s[j]=s[j]):US w wr s (j+1):=by
 refine⟨h.1,fun i hi=>⟨?_,(h.2 i hi).2⟩⟩;rw[(h.2 i hi).1];by_cases hij:i=j
 ·subst hij;rw[if_neg oQ,if_pos oQ,he]
 ·by_cases h2:i<j
  ·rw[if_pos h2,if_pos oQ]
  ·rw[if_neg h2,if_neg oQ]
theorem US.put {w wr:World}{s:ByteArray}{j:Nat}(h:US w wr s j)(hlt:j<s.size){n:Int}(he:((upU s[j]).toNat:Int)=n):US w (wr.setCell ⟨w.heap.size,j,none⟩ (.int .u8 n)) s (j+1):=by
 refine⟨h.1.setCell nR _,fun i hi=>⟨?_,by rw[World.frozen?_setCell];exact(h.2 i hi).2⟩⟩;by_cases hij:i=j
 ·subst hij;rw[World.cell?_setCell_same (h:=(h.2 i hi).1),if_pos oQ,he]
 ·rw[World.cell?_setCell_other (h:=by intro e;injection e;omega),(h.2 i hi).1];by_cases h2:i<j
  ·rw[if_pos h2,if_pos oQ]
  ·rw[if_neg h2,if_neg oQ]
theorem US.back {w wr:World}{s:ByteArray}(h:US w wr s s.size){cap:Nat}:
  (convert 98 9 (.slice (some ⟨w.heap.size,0,none⟩) s.size cap)).run Tryz.prog wr=.ok (.string (upB s)) wr:=by
 have hl:(upB s).data.toList.length=s.size:=by
  show(s.data.map upU).toList.length=s.data.size
  simp
 have e:=run_convert_bytes_back (P:=Tryz.prog) wr 98 9 5 ⟨w.heap.size,0,none⟩ cap (upB s).data.toList Tryz.underlying98 Tryz.underlying5 Tryz.underlying9 (fun j hj=>by
  rw[hl]at hj;rw[Addr.add_lit,Nat.zero_add,(h.2 j hj).1,if_pos hj];have:(upB s).data.toList[j]'(by rw[hl];exact hj)=upU s[j]:=by
   show(s.data.map upU).toList[j]'_=_
   simp;rfl
  rw[this])
 rw[hl]at e;rw[e]
theorem upper_k (s:ByteArray)(hs:s.size≤1048576)(w:World):
  Calls Tryz.prog 155 #[.string s] w fun e w'=>e=.returned (.string (upB s))∧Bw w w':=by
 have hcv:=fun w s=>run_bytes_of_string (P:=Tryz.prog) w 9 98 5 s Tryz.underlying9 Tryz.underlying98 Tryz.underlying5
 go_enter Tryz.func155,Tryz.ntmps155;go_wp2;go_loopw [10] (fun i wr=>∃j:Nat,j≤s.size∧i=.int .i64 j∧US w wr s j) (fun i _=>s.size- (intOf i).toNat)
 case atStart=>exact⟨0,zE _,rfl,US.start s _ _⟩
 case round=>
  obtain⟨j,hj,rfl,hU⟩:=hrel;replace hU:=Hd hU;by_cases hlt:j<s.size
  ·have g0:(0:Int)≤(j:Int):=oQ;have g1:(j:Int)<s.size:=oQ;have z:=(hU.out.2 j hlt).1;have z2:=(hU.out.2 j hlt).2;rw[if_neg oQ]at z;by_cases c1:97≤(s[j]'hlt).toNat
   ·have c1':(97:Int)≤((s[j]'hlt).toNat:Int):=oQ;by_cases c2:(s[j]'hlt).toNat≤122
    ·have c2':((s[j]'hlt).toNat:Int)≤122:=oQ;go_wp2;go_roundw
     case rel=>exact⟨j+1,oQ,gQ,by exact hU.out.put hlt (by rw[up_toNat,if_pos ⟨c1,c2⟩];omega)⟩
     case measure=>exact mQ
    ·have c2':¬((s[j]'hlt).toNat:Int)≤122:=oQ;go_wp2;go_roundw
     case rel=>exact⟨j+1,oQ,gQ,hU.out.skip (by unfold upU;rw[if_neg oQ])⟩
     case measure=>exact mQ
   ·have c1':¬(97:Int)≤((s[j]'hlt).toNat:Int):=oQ;go_wp2;go_roundw
    case rel=>exact⟨j+1,oQ,gQ,hU.out.skip (by unfold upU;rw[if_neg oQ])⟩
    case measure=>exact mQ
  ·have g1:¬(j:Int)<s.size:=oQ;obtain rfl:j=s.size:=oQ;have hbk:=fun cap=>hU.out.back (cap:=cap)
   go_wp2;go_ret;exact⟨rfl,hU.out.1⟩
theorem KwIs.range {w:World}(h:KwIs w):w.rangeAt 2 0 (kwds.map Value.string):=fun j v hv=>by
 rw[Nat.zero_add];rw[zG,xG]at hv;obtain⟨k,hk,rfl⟩:=hv;exact h j k hk
theorem kw_index (W:World)(m:Nat)(k:ByteArray)(hk:kwds[m]? =some k)(hm:m<27):
  (Instr.index 185 (.agg (kwds.map Value.string).toArray) (.int .i64 m)).run Tryz.prog W=.ok (.string k) W:=by
 have g0:(0:Int)≤m:=oQ;have g1:(m:Int)<27:=oQ;have hu:=Tryz.underlying185;have hc:Tryz.prog.cellsOf 9=1:=kQ;have hs:(Tryz.prog.info? 9).map (·.size)=some 1:=kQ;simp[Instr.index,run_underlying hu,asIntOf,hm,go_sem];rw[hk];simp[go_sem]
theorem dec_word (s:ByteArray)(p:Nat)(h:p<s.size):wordN (Utf8.decode s p).1=wordN s[p].toNat∧(wordN s[p].toNat=true→(Utf8.decode s p).2=1):=by
 by_cases ha:s[p].toNat<128
 ·rw[decode_ascii s p h ha];exact⟨rfl,fun _=>rfl⟩
 ·have:=decode_high s p h oQ;have e1:wordN (Utf8.decode s p).1=false:=by simp[wordN,letN,digN];omega
  have e2:wordN s[p].toNat=false:=by simp[wordN,letN,digN];omega
  rw[e1,e2];exact⟨rfl,fun h=>by cases h⟩
theorem bqb (a b:ByteArray):(a.toList==b.toList)=decide (a=b):=by
 by_cases h:a=b
 ·subst h;simp
 ·rw[zV h,xV];intro e;rw[ByteArray.toList_eq,ByteArray.toList_eq]at e;exact h (ByteArray.ext (Array.ext' e))
theorem isName_k (s:ByteArray)(w:World)(hK:KwIs w)(hs:s.size≤1048576):
  Calls Tryz.prog 108 #[.string s] w fun e w'=>e=.returned (.bool (isNm s))∧Bw w w':=by
 have k1:=Hd wordByte_k;have k2:=Hd upper_k;replace hK:=Hd hK;generalize hc:isNm s=b;replace hc:=Hd hc;by_cases h1:s.size<1
 ·obtain rfl:b=false:=by rw[←hc.out];exact isNm_false fun h=>by have:=h.pos;omega
  have e1:(s.toList==([]:List UInt8))=true:=by
   rw[ByteArray.toList_eq,beq_iff_eq];exact List.eq_nil_of_length_eq_zero (by rw[Array.length_toList];have:s.size=s.data.size:=rfl;omega)
  go_enter Tryz.func108,Tryz.ntmps108;go_wp2;go_ret;exact⟨rfl,bR⟩
 have e1:(s.toList==([]:List UInt8))=false:=by
  rw[ByteArray.toList_eq,xV];intro e;have:s.data.toList.length=s.size:=by rw[Array.length_toList];rfl
  rw[e]at this;simp at this;omega
 by_cases h2:16<s.size
 ·have f2:(16:Int)<s.size:=oQ;obtain rfl:b=false:=by rw[←hc.out];exact isNm_false fun h=>by have:=h.le;omega
  go_enter Tryz.func108,Tryz.ntmps108;go_wp2;go_ret;exact⟨rfl,bR⟩
 have f2:¬(16:Int)<s.size:=oQ;have hpos:0<s.size:=oQ;have hpos':(0:Int)<s.size:=oQ;by_cases hd:digN (s[0]'hpos).toNat=true
 ·obtain rfl:b=false:=by rw[←hc.out];exact isNm_false fun h=>by have:=h.dig hpos;rw[hd]at this;cases this
  simp only[digN,xK,decide_eq_true_eq]at hd;have d1:(48:Int)≤((s[0]'hpos).toNat:Int):=oQ;have d2:((s[0]'hpos).toNat:Int)≤57:=oQ;go_enter Tryz.func108,Tryz.ntmps108;go_wp2;go_ret;exact⟨rfl,bR⟩
 have hd':digN (s[0]'hpos).toNat=false:=by simpa using hd
 clear hd;have dd:¬(48:Int)≤((s[0]'hpos).toNat:Int)∨((48:Int)≤((s[0]'hpos).toNat:Int)∧¬((s[0]'hpos).toNat:Int)≤57):=by
  have:¬(48≤(s[0]'hpos).toNat∧(s[0]'hpos).toNat≤57):=by
   intro h;simp[digN]at hd';omega
  omega
 replace hd':=Hd hd';rcases dd with d1 |⟨d1,d2⟩
 all_goals
  go_enter Tryz.func108,Tryz.ntmps108;go_wp2;go_loopw [4] (fun _ wr=>∃p:Nat,p≤s.size∧wr.heap[w.heap.size]? =some (.stringIter s p)∧Bw w wr∧(∀i (h:i<s.size),i<p→wordN s[i].toNat=true)) (fun _ wr=>s.size-wr.iterPos w.heap.size)
  case atStart=>exact⟨0,zE _,World.iter_heap w s 0,(zB _ w).alloc nR _,fun i h h3=>by omega⟩
  case round=>
   obtain⟨p,hp,hit,hbw,hpw⟩:=hrel;replace hpw:=Hd hpw;by_cases hlt:p<s.size
   ·have hnx:∀ty,(Instr.next (.pointer (some ⟨w.heap.size,0,none⟩)) true ty).run Tryz.prog wr=_:=fun ty=>Lib.run_next_any_at wr w.heap.size s p ty hit hlt
    by_cases hw:wordN (s[p]'hlt).toNat=true
    ·have hw1:wordN (Utf8.decode s p).1=true:=(by rw[(dec_word s p hlt).1,hw]);have hw2:=(dec_word s p hlt).2 hw;replace hw:=Hd hw;go_wp2_with (go_at_call 154;refine(k1.out _ _).mono ?_;rw[hw1];rintro e W ⟨rfl,hW⟩;obtain rfl:=hW.symm);go_roundw
     case rel=>
      refine⟨p+1,oQ,?_,Lib.below_iterAt hbw nR s _,fun i h h3=>?_⟩
      ·exact Lib.iterAt_heap wr w.heap.size s p _ hit
      ·by_cases hij:i=p
       ·subst hij;exact hw.out
       ·exact hpw.out i h oQ
     case measure=>
      simp only[World.iterPos,Lib.iterAt_heap wr w.heap.size s p _ hit,hit];omega
    ·have hw':wordN (s[p]'hlt).toNat=false:=(by simpa using hw);obtain rfl:b=false:=by rw[←hc.out];exact isNm_false fun h=>hw (h.word p hlt)
     have hw1:wordN (Utf8.decode s p).1=false:=(by rw[(dec_word s p hlt).1,hw']);clear hw hw';go_wp2_with (go_at_call 154;refine(k1.out _ _).mono ?_;rw[hw1];rintro e W ⟨rfl,hW⟩;obtain rfl:=hW.symm);go_ret;exact⟨rfl,Lib.below_iterAt hbw nR s _⟩
   ·have hnx:∀ty,(Instr.next (.pointer (some ⟨w.heap.size,0,none⟩)) true ty).run Tryz.prog wr=_:=fun ty=>Lib.run_next_end_at wr w.heap.size s p ty hit hlt
    obtain rfl:p=s.size:=oQ;obtain⟨A,hA⟩:∃A,A=(kwds.map Value.string).toArray:=⟨_,rfl⟩
    have hix:∀(W:World)(m:Nat)(k:ByteArray),kwds[m]? =some k→m<27→(Instr.index 185 (.agg A) (.int .i64 m)).run Tryz.prog W=.ok (.string k) W:=by
     rw[hA];exact kw_index
    replace hix:=Hd hix;replace hA:=Hd hA;go_upto_region 9 with(go_at_call 155;refine(k2.out _ oQ _).mono ?_;rintro e W ⟨rfl,hW⟩;have hKW:=Hd ((hK.out.stay hbw).stay hW);replace hW:=Hd (hbw.trans (hW.mono hbw.size)))
    refine wp_region_list ?_;refine wpList_load_mid rfl 185 (.global 2) rfl 2 0 rfl (kwds.map Value.string) _ (KwIs.range hKW.out) Tryz.underlying185 rfl kQ ?_;rw[←hA.out];go_wp2;go_loopw [36] (fun i wx=>∃m:Nat,m≤27∧i=.int .i64 m∧wx=W∧(∀(i:Nat) k,kwds[i]? =some k→i<m→upB s≠k)) (fun i _=>27- (intOf i).toNat)
    case atStart=>exact⟨0,zE _,rfl,rfl,fun i k h h3=>by omega⟩
    case round=>
     obtain⟨m,hm,rfl,hwx,hq⟩:=hrel;obtain rfl:=hwx.symm;replace hq:=Hd hq;by_cases hlm:m<27
     ·have q0:(0:Int)≤(m:Int):=oQ;have q1:(m:Int)<27:=oQ;obtain⟨k,hk,hkm⟩:=kwds_get hlm;have z:=hix.out W m k hk hlm;replace hk:=Hd hk;clear hkm;by_cases hu:upB s=k
      ·obtain rfl:b=false:=by rw[←hc.out];exact isNm_false fun h=>h.kw m k hk.out hu
       have hu':((upB s).toList==k.toList)=true:=(by rw[bqb];exact zW hu);replace hu:=Hd hu;go_wp2;go_ret;exact⟨rfl,hW.out⟩
      ·have hu':((upB s).toList==k.toList)=false:=(by rw[bqb];exact zV hu);replace hu:=Hd hu;go_wp2;go_roundw
       case rel=>
        refine⟨m+1,oQ,gQ,by trivial,fun i k' h h3=>?_⟩;by_cases hij:i=m
        ·subst hij;obtain rfl:k'=k:=by have:=hk.out;rw[h]at this;exact zq9 this
         exact hu.out
        ·exact hq.out i k' h oQ
       case measure=>exact mQ
     ·have q1:¬(m:Int)<27:=oQ;obtain rfl:b=true:=by
       rw[←hc.out];refine isNm_true ⟨oQ,oQ,fun i h=>hpw.out i h oQ,fun h=>hd'.out,fun i k h=>hq.out i k h ?_⟩;have:i<kwds.length:=(zC.1 h).1;have e:kwds.length=27:=rfl;omega
      go_wp2;go_ret;exact⟨rfl,hW.out⟩
end nmW
def placeI (l:List ByteArray)(s:ByteArray):Int:=match l.findIdx? (fun a=>decide (a=s))with |some i=>(i:Int)|none=> -1
theorem placeI_at {l:List ByteArray}{s:ByteArray}{j:Nat}(h:l[j]? =some s)(hp:∀i a,l[i]? =some a→i<j→a≠s):placeI l s=j:=by
 have:l.findIdx? (fun a=>decide (a=s))=some j:=by
  obtain⟨hj,hjs⟩:=zC.1 h;rw[List.findIdx?_eq_some_iff_getElem];refine⟨hj,by simp[hjs],fun i hi=>?_⟩;have:=hp i l[i] (zI oQ) hi;simp[this]
 simp[placeI,this]
theorem placeI_none {l:List ByteArray}{s:ByteArray}(hp:∀(i:Nat) a,l[i]? =some a→a≠s):placeI l s= -1:=by
 have:l.findIdx? (fun a=>decide (a=s))=none:=by
  rw[List.findIdx?_eq_none_iff];intro a ha;obtain⟨i,hi⟩:=zN ha;simp[hp i a hi]
 simp[placeI,this]
namespace nmW
theorem placeOf_k (A:Option Addr)(c:Nat)(F:Nat→Prop)(l:List ByteArray)(s:ByteArray)(hl:l.length≤1048576)(w:World)(r:Rd w F (.slice A l.length c) (.sl l.length (l.flatMap strD))):
  Calls Tryz.prog 110 #[.slice A l.length c,.string s] w fun e w'=>e=.returned (.int .i64 (placeI l s))∧w'=w:=by
 replace r:=Hd r;generalize hc:placeI l s=b;replace hc:=Hd hc;go_enter Tryz.func110,Tryz.ntmps110;go_wp2;go_loopw [9] (fun i wr=>∃j:Nat,j≤l.length∧i=.int .i64 j∧wr=w∧(∀(i:Nat) a,l[i]? =some a→i<j→a≠s)) (fun i _=>l.length- (intOf i).toNat)
 case atStart=>exact⟨0,zE _,rfl,rfl,fun i a h h3=>by omega⟩
 case round=>
  obtain⟨j,hj,rfl,rfl,hp⟩:=hrel;replace hp:=Hd hp;by_cases hlt:j<l.length
  ·obtain⟨x,hx⟩:=getx hlt;obtain⟨g,off,rfl,_,ha,_⟩:=r.out.rowv (m:=1) (fun _=>rfl) hx oQ;have a0:wr.cell? ⟨g,off+j,none⟩=some (.string x):=by have:=ha 0 _ rfl;rwa [Nat.mul_one,Nat.add_zero]at this
   have g0:(0:Int)≤(j:Int):=oQ;have g1:(j:Int)<l.length:=oQ;replace hx:=Hd hx;clear ha;by_cases hu:x=s
   ·have hu':(x.toList==s.toList)=true:=(by rw[bqb];exact zW hu);obtain rfl:b=(j:Int):=by rw[←hc.out];exact placeI_at (by rw[hx.out,hu]) hp.out
    replace hu:=Hd hu;go_wp2;go_ret;exact⟨rfl,rfl⟩
   ·have hu':(x.toList==s.toList)=false:=(by rw[bqb];exact zV hu);replace hu:=Hd hu;go_wp2;go_roundw
    case rel=>
     refine⟨j+1,oQ,gQ,by trivial,fun i a h h3=>?_⟩;by_cases hij:i=j
     ·subst hij;obtain rfl:x=a:=by have:=hx.out;rw[h]at this;exact(zq9 this).symm
      exact hu.out
     ·exact hp.out i a h oQ
    case measure=>exact mQ
  ·have g1:¬(j:Int)<l.length:=oQ;have g2:decide (j<l.length)=false:=zV hlt;obtain rfl:b= -1:=by
    rw[←hc.out];exact placeI_none fun i a h=>hp.out i a h (by have:=(zC.1 h).1;omega)
   go_wp2;go_ret;exact⟨rfl,rfl⟩
theorem in_k (A:Option Addr)(c:Nat)(F:Nat→Prop)(l:List ByteArray)(s:ByteArray)(hl:l.length≤1048576)(w:World)(r:Rd w F (.slice A l.length c) (.sl l.length (l.flatMap strD))):
  Calls Tryz.prog 138 #[.slice A l.length c,.string s] w fun e w'=>e=.returned (.bool (l.any fun a=>decide (a=s)))∧w'=w:=by
 replace r:=Hd r;generalize hc:(l.any fun a=>decide (a=s))=b;replace hc:=Hd hc;go_enter Tryz.func138,Tryz.ntmps138;go_wp2;go_loopw [5] (fun i wr=>∃j:Nat,j≤l.length∧i=.int .i64 j∧wr=w∧(∀(i:Nat) a,l[i]? =some a→i<j→a≠s)) (fun i _=>l.length- (intOf i).toNat)
 case atStart=>exact⟨0,zE _,rfl,rfl,fun i a h h3=>by omega⟩
 case round=>
  obtain⟨j,hj,rfl,rfl,hp⟩:=hrel;replace hp:=Hd hp;by_cases hlt:j<l.length
  ·obtain⟨x,hx⟩:=getx hlt;obtain⟨g,off,rfl,_,ha,_⟩:=r.out.rowv (m:=1) (fun _=>rfl) hx oQ;have a0:wr.cell? ⟨g,off+j,none⟩=some (.string x):=by have:=ha 0 _ rfl;rwa [Nat.mul_one,Nat.add_zero]at this
   have g0:(0:Int)≤(j:Int):=oQ;have g1:(j:Int)<l.length:=oQ;replace hx:=Hd hx;clear ha;by_cases hu:x=s
   ·have hu':(x.toList==s.toList)=true:=(by rw[bqb];exact zW hu);obtain rfl:b=true:=by rw[←hc.out];exact xM.2 ⟨x,zA hx.out,zW hu⟩
    replace hu:=Hd hu;go_wp2;go_ret;exact⟨rfl,rfl⟩
   ·have hu':(x.toList==s.toList)=false:=(by rw[bqb];exact zV hu);replace hu:=Hd hu;go_wp2;go_roundw
    case rel=>
     refine⟨j+1,oQ,gQ,by trivial,fun i a h h3=>?_⟩;by_cases hij:i=j
     ·subst hij;obtain rfl:x=a:=by have:=hx.out;rw[h]at this;exact(zq9 this).symm
      exact hu.out
     ·exact hp.out i a h oQ
    case measure=>exact mQ
  ·have g1:¬(j:Int)<l.length:=oQ;have g2:decide (j<l.length)=false:=zV hlt;obtain rfl:b=false:=by
    rw[←hc.out,List.any_eq_false];intro a hm;obtain⟨i,hi⟩:=zN hm;have:=hp.out i _ hi (by have:=(zC.1 hi).1;omega);simpa using this
   go_wp2;go_ret;exact⟨rfl,rfl⟩
end nmW
structure Td where
 name:ByteArray
 attrs:List ByteArray
def tdD (t:Td):List D:=[.v (.string t.name),.sl t.attrs.length (t.attrs.flatMap strD)]
namespace nmW
theorem typeOf_k (A:Option Addr)(c:Nat)(F:Nat→Prop)(l:List Td)(s:ByteArray)(hl:l.length≤1048576)(w:World)(hF:∀b,F b→b<w.heap.size)(r:Rd w F (.slice A l.length c) (.sl l.length (l.flatMap tdD))):
  Calls Tryz.prog 109 #[.agg #[.slice A l.length c],.string s] w fun e w'=>e=.returned (.int .i64 (placeI (l.map (·.name)) s))∧Bw w w':=by
 replace r:=Hd r;replace hF:=Hd hF;generalize hc:placeI (l.map (·.name)) s=b;replace hc:=Hd hc;go_enter Tryz.func109,Tryz.ntmps109;go_wp2;go_loopw [10] (fun i wr=>∃j:Nat,j≤l.length∧i=.int .i64 j∧Bw w wr∧(∀(i:Nat) a,(l.map (·.name))[i]? =some a→i<j→a≠s)) (fun i _=>l.length- (intOf i).toNat)
 case atStart=>exact⟨0,zE _,rfl,bA,fun i a h h3=>by omega⟩
 case round=>
  obtain⟨j,hj,rfl,hb,hp⟩:=hrel;replace hp:=Hd hp;by_cases hlt:j<l.length
  ·obtain⟨x,hx⟩:=getx hlt;have r2:=r.out.under hb hF.out;obtain⟨g,off,rfl,_,ha,ha2⟩:=r2.rowv (m:=2) (fun _=>rfl) hx oQ;have a0:wr.cell? ⟨g,off+j*2,none⟩=some (.string x.name):=ha 0 _ rfl;obtain⟨A2,c2,a1,_⟩:=ha2 1 _ _ rfl;have g0:(0:Int)≤(j:Int):=oQ;have g1:(j:Int)<l.length:=oQ;have hx2:(l.map (·.name))[j]? =some x.name:=by rw[zG,hx];rfl
   replace hx2:=Hd hx2;replace hb:=Hd hb;clear ha ha2 r2 hx;by_cases hu:x.name=s
   ·have hu':(x.name.toList==s.toList)=true:=(by rw[bqb];exact zW hu);obtain rfl:b=(j:Int):=by rw[←hc.out];exact placeI_at (by rw[hx2.out,hu]) hp.out
    replace hu:=Hd hu;go_wp2;go_ret;exact⟨rfl,hb.out.alloc hb.out.size _⟩
   ·have hu':(x.name.toList==s.toList)=false:=(by rw[bqb];exact zV hu);replace hu:=Hd hu;go_wp2;go_roundw
    case rel=>
     refine⟨j+1,oQ,gQ,hb.out.alloc hb.out.size _,fun i a h h3=>?_⟩;by_cases hij:i=j
     ·subst hij;obtain rfl:x.name=a:=by have:=hx2.out;rw[h]at this;exact(zq9 this).symm
      exact hu.out
     ·exact hp.out i a h oQ
    case measure=>exact mQ
  ·have g1:¬(j:Int)<l.length:=oQ;have g2:decide (j<l.length)=false:=zV hlt;obtain rfl:b= -1:=by
    rw[←hc.out];exact placeI_none fun i a h=>hp.out i a h (by have:=(zC.1 h).1;simp at this;omega)
   go_wp2;go_ret;exact⟨rfl,hb⟩
end nmW
def fstC (c:Nat→Int):Nat→Int
 |0=>0
 |n+1=>if fstC c n=0 then c n else fstC c n
theorem fstC_zero {c:Nat→Int}{n:Nat}(h:∀i,i<n→c i=0):fstC c n=0:=by
 induction n with
 |zero=>rfl
 |succ n ih=>rw[fstC,if_pos (ih fun i hi=>h i oQ)];exact h n oQ
theorem fstC_at {c:Nat→Int}{n j:Nat}(hj:j<n)(hc:c j≠0)(h:∀i,i<j→c i=0):fstC c n=c j:=by
 induction n with
 |zero=>omega
 |succ n ih=>
  rw[fstC];by_cases e:j=n
  ·subst e;rw[if_pos (fstC_zero h)]
  ·rw[ih oQ,if_neg hc]
theorem fstC_none {c:Nat→Int}{n:Nat}(h:fstC c n=0):∀i,i<n→c i=0:=by
 induction n with
 |zero=>intro i hi;omega
 |succ n ih=>
  rw[fstC]at h;split at h
  ·intro i hi;by_cases e:i=n
   ·subst e;exact h
   ·exact ih ‹_› i oQ
  ·contradiction
def tsB:ByteArray:={data:=#[116,115]}
theorem tsB_list:tsB.toList=[116,115]:=by rw[ByteArray.toList_eq];rfl
theorem ts_true {x:ByteArray}(h:x=tsB):(x.toList== [116,115])=true:=by subst h;rw[tsB_list];rfl
theorem ts_false {x:ByteArray}(h:x≠tsB):(x.toList== [116,115])=false:=by rw[←tsB_list,nmW.bqb];exact zV h
theorem e_true {x:ByteArray}(h:x=ByteArray.empty):(x.toList== [])=true:=by subst h;rw[ByteArray.toList_eq];rfl
theorem e_false {x:ByteArray}(h:x≠ByteArray.empty):(x.toList== [])=false:=by
 have:ByteArray.empty.toList=[]:=by rw[ByteArray.toList_eq];rfl
 rw[←this,nmW.bqb];exact zV h
noncomputable def atC (l:List ByteArray)(k:Nat):Int:=match l[k]? with
 |none=>0
 |some a=>if isNm a=false∨a=tsB then 22 else if placeI l a=k then 0 else 25
noncomputable def tyC (l:List Td)(i:Nat):Int:=match l[i]? with
 |none=>0
 |some t=>if isNm t.name=false then 22 else if placeI (l.map (·.name)) t.name=i then(if 8<t.attrs.length then 24 else fstC (atC t.attrs) t.attrs.length)else 25
noncomputable def scC (l:List Td):Int:=if l.length<1∨16<l.length then 23 else fstC (tyC l) l.length
theorem atC_22 {l:List ByteArray}{k:Nat}{a:ByteArray}(h:l[k]? =some a)(h1:isNm a=false∨a=tsB):atC l k=22:=by
 unfold atC;rw[h];exact if_pos h1
theorem atC_25 {l:List ByteArray}{k:Nat}{a:ByteArray}(h:l[k]? =some a)(h1:isNm a=true)(h2:a≠tsB)(h3:placeI l a≠k):atC l k=25:=by
 unfold atC;rw[h];show(if _ then _ else _)=_
 rw[if_neg (by simp[h1,h2]),if_neg h3]
theorem atC_0 {l:List ByteArray}{k:Nat}{a:ByteArray}(h:l[k]? =some a)(h1:isNm a=true)(h2:a≠tsB)(h3:placeI l a=k):atC l k=0:=by
 unfold atC;rw[h];show(if _ then _ else _)=_
 rw[if_neg (by simp[h1,h2]),if_pos h3]
theorem tyC_22 {l:List Td}{i:Nat}{t:Td}(h:l[i]? =some t)(h1:isNm t.name=false):tyC l i=22:=by
 unfold tyC;rw[h];exact if_pos h1
theorem tyC_25 {l:List Td}{i:Nat}{t:Td}(h:l[i]? =some t)(h1:isNm t.name=true)(h3:placeI (l.map (·.name)) t.name≠i):tyC l i=25:=by
 unfold tyC;rw[h];show(if _ then _ else _)=_
 rw[if_neg (by simp[h1]),if_neg h3]
theorem tyC_24 {l:List Td}{i:Nat}{t:Td}(h:l[i]? =some t)(h1:isNm t.name=true)(h3:placeI (l.map (·.name)) t.name=i)(h4:8<t.attrs.length):tyC l i=24:=by
 unfold tyC;rw[h];show(if _ then _ else _)=_
 rw[if_neg (by simp[h1]),if_pos h3,if_pos h4]
theorem tyC_at {l:List Td}{i:Nat}{t:Td}(h:l[i]? =some t)(h1:isNm t.name=true)(h3:placeI (l.map (·.name)) t.name=i)(h4:¬8<t.attrs.length):tyC l i=fstC (atC t.attrs) t.attrs.length:=by
 unfold tyC;rw[h];show(if _ then _ else _)=_
 rw[if_neg (by simp[h1]),if_pos h3,if_neg h4]
theorem scC_23 {l:List Td}(h:l.length<1∨16<l.length):scC l=23:=if_pos h
theorem scC_ty {l:List Td}(h:1≤l.length)(h2:l.length≤16):scC l=fstC (tyC l) l.length:=if_neg oQ
theorem placeI_le {l:List ByteArray}{s:ByteArray}{j:Nat}(h:l[j]? =some s):placeI l s≤j:=by
 unfold placeI;obtain⟨hj,hjs⟩:=zC.1 h;cases hf:l.findIdx? (fun a=>decide (a=s))with
 |none=>simp only[];omega
 |some i=>
  rw[List.findIdx?_eq_some_iff_getElem]at hf;obtain⟨hi,_,hp⟩:=hf;simp only[];by_cases hlt:j<i
  ·have:=hp j hlt;simp[hjs]at this
  ·omega
theorem placeI_ne {l:List ByteArray}{s:ByteArray}{i j:Nat}(h:l[i]? =some s)(hij:i<j):placeI l s≠j:=by
 have:=placeI_le h;omega
theorem any_take {l:List ByteArray}{s:ByteArray}{j:Nat}(h:l[j]? =some s):((l.take j).any fun a=>decide (a=s))=decide (placeI l s≠j):=by
 by_cases hp:∀i a,l[i]? =some a→i<j→a≠s
 ·rw[zV (by rw[placeI_at h hp];simp),List.any_eq_false];intro a ha;obtain⟨i,hi⟩:=zN ha;rw[zZ]at hi;split at hi
  ·simpa using hp i a hi ‹_›
  ·cases hi
 ·simp only[Classical.not_forall]at hp;obtain⟨i,a,hi,hij,hn⟩:=hp;obtain rfl:a=s:=Classical.not_not.1 hn;rw[zW (placeI_ne hi hij),xM];exact⟨a,zA (i:=i) (by rw[zZ,if_pos hij];exact hi),sJ⟩
def SzS (l:List ByteArray):Prop:=l.length≤1048576∧∀a∈l,a.size≤1048576
def SzT (l:List Td):Prop:=l.length≤1048576∧∀t∈l,t.name.size≤1048576∧SzS t.attrs
end Go.Proofs.YthaabihjeomipaaGreatDoor
