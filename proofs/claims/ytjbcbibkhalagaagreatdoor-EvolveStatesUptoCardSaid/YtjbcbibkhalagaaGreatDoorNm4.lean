/- Names. -/
import Derived.Test.YtjbcbibkhalagaaGreatDoorBase
import Derived.Laws.IdiomStrings
import Derived.Laws.RangeAny
import Derived.Lib.OthersKept
import Derived.Deep.CutBlock
import Derived.Deep.DeepCutAuto
namespace Go.Proofs.YtjbcbibkhalagaaGreatDoor
set_option maxRecDepth 100000
set_option maxHeartbeats 16000000
open Proofs.Tryz Go.RowKit Go.Deep
set_option linter.unusedVariables false
def jL:List ByteArray:=[⟨#[80,65,84,84,69,82,78]⟩,⟨#[83,69,81]⟩,⟨#[85,83,73,78,71]⟩,⟨#[65,78,89]⟩,⟨#[78,69,88,84]⟩,⟨#[83,84,82,73,67,84]⟩,⟨#[87,72,69,82,69]⟩,⟨#[87,73,84,72,73,78]⟩,⟨#[80,65,82,84,73,84,73,79,78]⟩,⟨#[66,89]⟩,⟨#[82,69,84,85,82,78]⟩,⟨#[65,78,68]⟩,⟨#[79,82]⟩,⟨#[78,79,84]⟩,⟨#[84,82,85,69]⟩,⟨#[70,65,76,83,69]⟩,⟨#[67,79,85,78,84]⟩,⟨#[83,85,77]⟩,⟨#[77,73,78]⟩,⟨#[77,65,88]⟩,⟨#[70,73,82,83,84]⟩,⟨#[76,65,83,84]⟩,⟨#[80,82,69,86]⟩,⟨#[65,70,84,69,82]⟩,⟨#[65,76,76]⟩,⟨#[80,65,83,84]⟩,⟨#[79,78,67,69]⟩]
def cW (w:World):Prop:=∀(i:Nat) k,jL[i]? =some k->w.cell? ⟨0,i,none⟩=some (.string k)
theorem cW.below {w w' B}(h:cW w)(hb:Below B w w')(hB:0<B):cW w':=by
 intro i k hk;rw[World.cell?_of_block (w:=w) (hb.block _ hB)];exact h i k hk
theorem cW.lt {w}(h:cW w):0<w.heap.size:=zX w _ (h 0 _ rfl)
theorem cW.stay {w w'}(h:cW w)(hb:Bw w w'):cW w':=h.below hb h.lt
theorem Hr:∀k∈jL,∀i (h:i<k.size),65<=k[i].toNat/\k[i].toNat<=90:=by
 have lK:jL.all (λk=>k.data.toList.all λb=>decide (65<=b.toNat)&&decide (b.toNat<=90))=true:=dQ;intro k hk i h;have h1:=xP.1 lK k hk;have h2:=xP.1 h1 k[i] (by
  have:k[i]=k.data[i]:=rfl;rw[this];exact Array.mem_toList_iff.2 (Array.getElem_mem h))
 simpa using h2
theorem Dr {i}(h:i<27):∃k,jL[i]? =some k/\k∈jL:=by
 have h2:i<jL.length:=h;exact⟨jL[i],zI h2,List.getElem_mem h2⟩
structure Jf (s:ByteArray):Prop where
 pos:1<=s.size
 le:s.size<=16
 word:∀i (h:i<s.size),bP s[i].toNat=true
 dig:∀h:0<s.size,fF s[0].toNat=false
 kw:∀(i:Nat) k,jL[i]? =some k->yY s≠k
open Classical in
noncomputable def br (s:ByteArray):Bool:=decide (Jf s)
theorem yx {s}(h:Jf s):br s=true:=@decide_eq_true _ (_) h
theorem cG {s}(h:¬Jf s):br s=false:=@decide_eq_false _ (_) h
namespace cH
theorem k9 (s w)(hK:cW w):
  Cl 125 #[.string s] w λe w'=>e=.returned (.bool (br s))/\w'=w:=by
 have k1:=Hd KB;have k2:=Hd GL;have k3:=Hd yZ;replace hK:=Hd hK;generalize hc:br s=b;replace hc:=Hd hc;by_cases h1:s.size<1
 .have f1:(s.size:Int)<1:=oQ;obtain rfl:b=false:=by rw[<-hc.o];exact cG λh=>by have:=h.pos;omega
  go_enter func125,ntmps125;go_wp2;go_ret;exact⟨rfl,rfl⟩
 by_cases h2:16<s.size
 .have f1:¬(s.size:Int)<1:=oQ;have f2:(16:Int)<s.size:=oQ;obtain rfl:b=false:=by rw[<-hc.o];exact cG λh=>by have:=h.le;omega
  go_enter func125,ntmps125;go_wp2;go_ret;exact⟨rfl,rfl⟩
 have f1:¬(s.size:Int)<1:=oQ;have f2:¬(16:Int)<s.size:=oQ;have hs:s.size<=16:=oQ;clear h2;go_enter func125,ntmps125;go_wp2;go_loopw [3] (λi wr=>∃j:Nat,j<=s.size/\i=.int .i64 j/\wr=w/\(∀i (h:i<s.size),i<j->bP s[i].toNat=true)) (λi _=>s.size- (intOf i).toNat)
 .exact⟨0,zE _,rfl,rfl,λi h h3=>by omega⟩
 obtain⟨j,hj,rfl,rfl,hp⟩:=hrel;replace hp:=Hd hp;by_cases hlt:j<s.size
 .have g0:=aH j;have g1:=aV j s.size;by_cases hw:bP (s[j]'hlt).toNat=true
  .go_wp2_with (go_at_call 154;refine(k1.o _ _).aR ?_);go_roundw
   .refine⟨j+1,oQ,gQ,by trivial,λi h h3=>?_⟩;by_cases dE:i=j
    .subst dE;exact hw
    .exact hp.o i h oQ
   exact mQ
  .obtain rfl:b=false:=by rw[<-hc.o];exact cG λh=>hw (h.word j hlt)
   have hw':bP (s[j]'hlt).toNat=false:=(by simpa using hw);clear hw;go_wp2_with (go_at_call 154;refine(k1.o _ _).aR ?_);go_ret;exact⟨rfl,rfl⟩
 .have g1:=jS j s.size;have lN:0<s.size:=oQ;have Y8:(0:Int)<s.size:=oQ;by_cases hd:fF (s[0]'lN).toNat=true
  .obtain rfl:b=false:=by rw[<-hc.o];exact cG λh=>by have:=h.dig lN;rw[hd]at this;cases this
   go_wp2_with (go_at_call 155;refine(k2.o _ _).aR ?_);go_ret;exact⟨rfl,rfl⟩
  .have GK:fF (s[0]'lN).toNat=false:=(by simpa using hd);clear hd;go_wp2_with (go_at_call 155;refine(k2.o _ _).aR ?_);go_loopw [4] (λi wr'=>∃m:Nat,m<=27/\i=.int .i64 m/\wr'=wr/\(∀(i:Nat) k,jL[i]? =some k->i<m->yY s≠k)) (λi _=>27- (intOf i).toNat)
   .exact⟨0,zE _,rfl,rfl,λi k h h3=>by omega⟩
   obtain⟨m,hm,rfl,rfl,hq⟩:=hrel;replace hq:=Hd hq;by_cases TV:m<27
   .have q0:=aH m;have q1:(m:Int)<27:=oQ;obtain⟨k,hk,Ch⟩:=Dr TV;have z:=hK.o m k hk;replace hk:=Hd hk;by_cases hu:yY s=k
    .obtain rfl:b=false:=by rw[<-hc.o];exact cG λh=>h.kw m k hk.o hu
     have la:decide (yY s=k)=true:=zW hu;replace⟨Ch,hu⟩:=H2 Ch hu;go_wp2_with (go_at_call 156;refine(k3.o _ _ (Hr _ Ch.o) oQ _).aR ?_;rw[la]);go_ret;exact⟨rfl,rfl⟩
    .have la:decide (yY s=k)=false:=zV hu;replace⟨Ch,hu⟩:=H2 Ch hu;go_wp2_with (go_at_call 156;refine(k3.o _ _ (Hr _ Ch.o) oQ _).aR ?_;rw[la]);go_roundw
     .refine⟨m+1,oQ,gQ,by trivial,λi k' h h3=>?_⟩;by_cases dE:i=m
      .subst dE;obtain rfl:k'=k:=by have:=hk.o;rw[h]at this;exact eO this
       exact hu.o
      .exact hq.o i k' h oQ
     exact mQ
   .have q1:¬(m:Int)<27:=oQ;obtain rfl:b=true:=by
     rw[<-hc.o];refine yx ⟨oQ,hs,λi h=>hp.o i h oQ,λh=>GK,λi k h=>hq.o i k h ?_⟩;have:i<jL.length:=(zC.1 h).1;have e:jL.length=27:=rfl;omega
    go_wp2;go_ret;exact⟨rfl,rfl⟩
def US (w wr:World)(s:ByteArray)(j:Nat):Prop:=Bw w wr/\∀i (h:i<s.size),wr.cell? ⟨w.heap.size,i,none⟩=some (.int .u8 ((if i<j then wD s[i]else s[i]).toNat:Nat))/\wr.frozen? ⟨w.heap.size,i,none⟩=false
theorem US.start {w}(s cap t):US w (w.alloc (.cells (bytesRow s cap) t ((bytesRow s cap).size,(bytesRow s cap).size+1))).drew s 0:=by
 refine⟨((zB _ w).alloc nR _).drew,λi h=>?_⟩;constructor
 .show(w.alloc _).cell? _=_
  rw[World.cell?_alloc_mark,bytesRow_at s _ i h];rfl
 .show(w.alloc _).frozen? _=_
  rw[World.frozen?_alloc_mark];have:i<(bytesRow s cap).size:=by simp[bytesRow];have:s.size=s.data.size:=rfl;omega
  simp;omega
theorem US.skip {w wr s j}(h:US w wr s j){hlt:j<s.size}(he:wD s[j]=s[j]):US w wr s (j+1):=by
 refine⟨h.1,λi hi=>⟨?_,(h.2 i hi).2⟩⟩;rw[(h.2 i hi).1];by_cases dE:i=j
 .subst dE;rw[if_neg oQ,if_pos oQ,he]
 .by_cases h2:i<j
  .rw[if_pos h2,if_pos oQ]
  .rw[if_neg h2,if_neg oQ]
theorem US.put {w wr s j}(h:US w wr s j)(hlt:j<s.size){n}(he:((wD s[j]).toNat:Int)=n):US w (wr.setCell ⟨w.heap.size,j,none⟩ (.int .u8 n)) s (j+1):=by
 refine⟨h.1.setCell nR _,λi hi=>⟨?_,by rw[World.frozen?_setCell];exact(h.2 i hi).2⟩⟩;by_cases dE:i=j
 .subst dE;rw[World.cell?_setCell_same (h:=(h.2 i hi).1),if_pos oQ,he]
 .rw[World.cell?_setCell_other (h:=by intro e;injection e;omega),(h.2 i hi).1];by_cases h2:i<j
  .rw[if_pos h2,if_pos oQ]
  .rw[if_neg h2,if_neg oQ]
theorem US.back {w wr s}(h:US w wr s s.size){cap}:
  (convert 219 9 (.slice (some ⟨w.heap.size,0,none⟩) s.size cap)).run prog wr=.ok (.string (yY s)) wr:=by
 have hl:(yY s).data.toList.length=s.size:=by
  show(s.data.map wD).toList.length=s.data.size
  simp
 have e:=run_convert_bytes_back (P:=prog) wr 219 9 5 ⟨w.heap.size,0,none⟩ cap (yY s).data.toList underlying219 underlying5 underlying9 (λj hj=>by
  rw[hl]at hj;rw[Addr.add_lit,Nat.zero_add,(h.2 j hj).1,if_pos hj];have:(yY s).data.toList[j]'(by rw[hl];exact hj)=wD s[j]:=by
   show(s.data.map wD).toList[j]'_=_
   simp;rfl
  rw[this])
 rw[hl]at e;rw[e]
theorem Q5 (s)(hs:s.size<=1048576)(w):
  Cl 115 #[.string s] w λe w'=>e=.returned (.string (yY s))/\Bw w w':=by
 have hcv:=λw s=>run_bytes_of_string (P:=prog) w 9 219 5 s underlying9 underlying219 underlying5
 go_enter func115,ntmps115;go_wp2;go_loopw [10] (λi wr=>∃j:Nat,j<=s.size/\i=.int .i64 j/\US w wr s j) (λi _=>s.size- (intOf i).toNat)
 .exact⟨0,zE _,rfl,US.start s _ _⟩
 obtain⟨j,hj,rfl,hU⟩:=hrel;replace hU:=Hd hU;by_cases hlt:j<s.size
 .have g0:=aH j;have g1:=aV j s.size;have z:=(hU.o.2 j hlt).1;have z2:=(hU.o.2 j hlt).2;rw[if_neg oQ]at z;by_cases c1:97<=(s[j]'hlt).toNat
  .have Y9:(97:Int)<=((s[j]'hlt).toNat:Int):=oQ;by_cases c2:(s[j]'hlt).toNat<=122
   .have c2':((s[j]'hlt).toNat:Int)<=122:=oQ;go_wp2;go_roundw
    .exact⟨j+1,oQ,gQ,by exact hU.o.put hlt (by rw[up_toNat,if_pos ⟨c1,c2⟩];omega)⟩
    exact mQ
   .have c2':¬((s[j]'hlt).toNat:Int)<=122:=oQ;go_wp2;go_roundw
    .exact⟨j+1,oQ,gQ,hU.o.skip (by unfold wD;rw[if_neg oQ])⟩
    exact mQ
  .have Y9:¬(97:Int)<=((s[j]'hlt).toNat:Int):=oQ;go_wp2;go_roundw
   .exact⟨j+1,oQ,gQ,hU.o.skip (by unfold wD;rw[if_neg oQ])⟩
   exact mQ
 .have g1:=jS j s.size;obtain rfl:j=s.size:=oQ;have Tc:=λcap=>hU.o.back (cap:=cap)
  go_wp2;go_ret;exact⟨rfl,hU.o.1⟩
theorem cW.range {w}(h:cW w):w.rangeAt 0 0 (jL.map Value.string):=λj v hv=>by
 rw[Nat.zero_add];rw[zG,xG]at hv;obtain⟨k,hk,rfl⟩:=hv;exact h j k hk
theorem Mn (W)(m:Nat)(k)(hk:jL[m]? =some k)(hm:m<27):
  (Instr.index 195 (.agg (jL.map Value.string).toArray) (.int .i64 m)).run prog W=.ok (.string k) W:=by
 have g0:(0:Int)<=m:=oQ;have g1:(m:Int)<27:=oQ;have hu:=underlying195;have hc:prog.cellsOf 9=1:=kQ;have hs:(prog.info? 9).map (·.size)=some 1:=kQ;simp[Instr.index,run_underlying hu,asIntOf,hm,go_sem];rw[hk];simp[go_sem]
theorem vx (s p)(h:p<s.size):bP (Utf8.decode s p).1=bP s[p].toNat/\(bP s[p].toNat=true->(Utf8.decode s p).2=1):=by
 by_cases ha:s[p].toNat<128
 .rw[decode_ascii s p h ha];exact⟨rfl,λ_=>rfl⟩
 .have:=decode_high s p h oQ;have e1:bP (Utf8.decode s p).1=false:=by simp[bP,fE,fF];omega
  have e2:bP s[p].toNat=false:=by simp[bP,fE,fF];omega
  rw[e1,e2];exact⟨rfl,λh=>by cases h⟩
theorem ji (a b:ByteArray):(a.toList==b.toList)=decide (a=b):=by
 by_cases h:a=b
 .subst h;simp
 .rw[zV h,xV];intro e;rw[ByteArray.toList_eq,ByteArray.toList_eq]at e;exact h (ByteArray.ext (Array.ext' e))
theorem qX (s w)(hK:cW w)(hs:s.size<=1048576):
  Cl 65 #[.string s] w λe w'=>e=.returned (.bool (br s))/\Bw w w':=by
 have k1:=Hd EK;have k2:=Hd Q5;replace hK:=Hd hK;generalize hc:br s=b;replace hc:=Hd hc;by_cases h1:s.size<1
 .obtain rfl:b=false:=by rw[<-hc.o];exact cG λh=>by have:=h.pos;omega
  have e1:(s.toList==([]:List UInt8))=true:=by
   rw[ByteArray.toList_eq,beq_iff_eq];exact List.eq_nil_of_length_eq_zero (by rw[Array.length_toList];have:s.size=s.data.size:=rfl;omega)
  go_enter func65,ntmps65;go_wp2;go_ret;exact⟨rfl,bR⟩
 have e1:(s.toList==([]:List UInt8))=false:=by
  rw[ByteArray.toList_eq,xV];intro e;have:s.data.toList.length=s.size:=by rw[Array.length_toList];rfl
  rw[e]at this;simp at this;omega
 by_cases h2:16<s.size
 .have f2:(16:Int)<s.size:=oQ;obtain rfl:b=false:=by rw[<-hc.o];exact cG λh=>by have:=h.le;omega
  go_enter func65,ntmps65;go_wp2;go_ret;exact⟨rfl,bR⟩
 have f2:¬(16:Int)<s.size:=oQ;have lN:0<s.size:=oQ;have Y8:(0:Int)<s.size:=oQ;by_cases hd:fF (s[0]'lN).toNat=true
 .obtain rfl:b=false:=by rw[<-hc.o];exact cG λh=>by have:=h.dig lN;rw[hd]at this;cases this
  simp only[fF,xK,decide_eq_true_eq]at hd;have d1:(48:Int)<=((s[0]'lN).toNat:Int):=oQ;have d2:((s[0]'lN).toNat:Int)<=57:=oQ;go_enter func65,ntmps65;go_wp2;go_ret;exact⟨rfl,bR⟩
 have GK:fF (s[0]'lN).toNat=false:=by simpa using hd
 clear hd;have dd:¬(48:Int)<=((s[0]'lN).toNat:Int)\/((48:Int)<=((s[0]'lN).toNat:Int)/\¬((s[0]'lN).toNat:Int)<=57):=by
  have:¬(48<=(s[0]'lN).toNat/\(s[0]'lN).toNat<=57):=by
   intro h;simp[fF]at GK;omega
  omega
 replace GK:=Hd GK;rcases dd with d1 |⟨d1,d2⟩
 all_goals
  go_enter func65,ntmps65;go_wp2;go_loopw [4] (λ_ wr=>∃p:Nat,p<=s.size/\wr.heap[w.heap.size]? =some (.stringIter s p)/\Bw w wr/\(∀i (h:i<s.size),i<p->bP s[i].toNat=true)) (λ_ wr=>s.size-wr.iterPos w.heap.size)
  .exact⟨0,zE _,World.iter_heap w s 0,(zB _ w).alloc nR _,λi h h3=>by omega⟩
  obtain⟨p,hp,hit,rA,hpw⟩:=hrel;replace hpw:=Hd hpw;by_cases hlt:p<s.size
  .have bz:∀ty,(Instr.next (.pointer (some ⟨w.heap.size,0,none⟩)) true ty).run prog wr=_:=λty=>Lib.run_next_any_at wr w.heap.size s p ty hit hlt
   by_cases hw:bP (s[p]'hlt).toNat=true
   .have Er:bP (Utf8.decode s p).1=true:=(by rw[(vx s p hlt).1,hw]);have hw2:=(vx s p hlt).2 hw;replace hw:=Hd hw;go_wp2_with (go_at_call 114;refine(k1.o _ _).aR ?_;rw[Er]);go_roundw
    .refine⟨p+1,oQ,?_,Lib.below_iterAt rA nR s _,λi h h3=>?_⟩
     .exact Lib.iterAt_heap wr w.heap.size s p _ hit
     .by_cases dE:i=p
      .subst dE;exact hw.o
      .exact hpw.o i h oQ
    simp only[World.iterPos,Lib.iterAt_heap wr w.heap.size s p _ hit,hit];omega
   .have hw':bP (s[p]'hlt).toNat=false:=(by simpa using hw);obtain rfl:b=false:=by rw[<-hc.o];exact cG λh=>hw (h.word p hlt)
    have Er:bP (Utf8.decode s p).1=false:=(by rw[(vx s p hlt).1,hw']);clear hw hw';go_wp2_with (go_at_call 114;refine(k1.o _ _).aR ?_;rw[Er]);go_ret;exact⟨rfl,Lib.below_iterAt rA nR s _⟩
  .have bz:∀ty,(Instr.next (.pointer (some ⟨w.heap.size,0,none⟩)) true ty).run prog wr=_:=λty=>Lib.run_next_end_at wr w.heap.size s p ty hit hlt
   obtain rfl:p=s.size:=oQ;obtain⟨A,hA⟩:=aB ((jL.map Value.string).toArray)
   have hix:∀(W:World)(m:Nat)(k:ByteArray),jL[m]? =some k->m<27->(Instr.index 195 (.agg A) (.int .i64 m)).run prog W=.ok (.string k) W:=by
    rw[hA];exact Mn
   replace⟨hix,hA⟩:=H2 hix hA;go_upto_region 9 with(go_at_call 115;refine(k2.o _ oQ _).eQ λW hW=>?_;have hKW:=Hd ((hK.o.stay rA).stay hW);replace hW:=Hd (rA.trans (hW.mono rA.size)))
   refine wp_region_list ?_;refine wpList_load_mid rfl 195 (.global 0) rfl 0 0 rfl (jL.map Value.string) _ (cW.range hKW.o) underlying195 rfl kQ ?_;rw[<-hA.o];go_wp2;go_loopw [36] (λi wx=>∃m:Nat,m<=27/\i=.int .i64 m/\wx=W/\(∀(i:Nat) k,jL[i]? =some k->i<m->yY s≠k)) (λi _=>27- (intOf i).toNat)
   .exact⟨0,zE _,rfl,rfl,λi k h h3=>by omega⟩
   obtain⟨m,hm,rfl,tW,hq⟩:=hrel;obtain rfl:=tW.symm;replace hq:=Hd hq;by_cases TV:m<27
   .have q0:=aH m;have q1:(m:Int)<27:=oQ;obtain⟨k,hk,Ch⟩:=Dr TV;have z:=hix.o W m k hk TV;replace hk:=Hd hk;clear Ch;by_cases hu:yY s=k
    .obtain rfl:b=false:=by rw[<-hc.o];exact cG λh=>h.kw m k hk.o hu
     have la:((yY s).toList==k.toList)=true:=(by rw[ji];exact zW hu);replace hu:=Hd hu;go_wp2;go_ret;exact⟨rfl,hW.o⟩
    .have la:((yY s).toList==k.toList)=false:=(by rw[ji];exact zV hu);replace hu:=Hd hu;go_wp2;go_roundw
     .refine⟨m+1,oQ,gQ,by trivial,λi k' h h3=>?_⟩;by_cases dE:i=m
      .subst dE;obtain rfl:k'=k:=by have:=hk.o;rw[h]at this;exact eO this
       exact hu.o
      .exact hq.o i k' h oQ
     exact mQ
   .have q1:¬(m:Int)<27:=oQ;obtain rfl:b=true:=by
     rw[<-hc.o];refine yx ⟨oQ,oQ,λi h=>hpw.o i h oQ,λh=>GK.o,λi k h=>hq.o i k h ?_⟩;have:i<jL.length:=(zC.1 h).1;have e:jL.length=27:=rfl;omega
    go_wp2;go_ret;exact⟨rfl,hW.o⟩
end cH
def aj (l:List ByteArray)(s:ByteArray):Int:=match l.findIdx? (λa=>decide (a=s))with |some i=>(i:Int)|none=> -1
theorem dC {l s}{j:Nat}(h:l[j]? =some s)(hp:∀i a,l[i]? =some a->i<j->a≠s):aj l s=j:=by
 have:l.findIdx? (λa=>decide (a=s))=some j:=by
  obtain⟨hj,hjs⟩:=zC.1 h;rw[List.findIdx?_eq_some_iff_getElem];refine⟨hj,by simp[hjs],λi hi=>?_⟩;have:=hp i l[i] (zI oQ) hi;simp[this]
 simp[aj,this]
theorem dH {l s}(hp:∀(i:Nat) a,l[i]? =some a->a≠s):aj l s= -1:=by
 have:l.findIdx? (λa=>decide (a=s))=none:=by
  rw[List.findIdx?_eq_none_iff];intro a ha;obtain⟨i,hi⟩:=zN ha;simp[hp i a hi]
 simp[aj,this]
namespace cH
theorem xZ (A c F l s)(hl:l.length<=1048576)(w)(r:Rd w F (.slice A l.length c) (.sl l.length (l.flatMap aG))):
  Cl 67 #[.slice A l.length c,.string s] w λe w'=>e=.returned (.int .i64 (aj l s))/\w'=w:=by
 replace r:=Hd r;generalize hc:aj l s=b;replace hc:=Hd hc;go_enter func67,ntmps67;go_wp2;go_loopw [9] (λi wr=>∃j:Nat,j<=l.length/\i=.int .i64 j/\wr=w/\(∀(i:Nat) a,l[i]? =some a->i<j->a≠s)) (λi _=>l.length- (intOf i).toNat)
 .exact⟨0,zE _,rfl,rfl,λi a h h3=>by omega⟩
 obtain⟨j,hj,rfl,rfl,hp⟩:=hrel;replace hp:=Hd hp;by_cases hlt:j<l.length
 .obtain⟨x,hx⟩:=av hlt;obtain⟨g,off,rfl,_,ha,_⟩:=r.o.cP (m:=1) (λ_=>rfl) hx oQ;have a0:wr.cell? ⟨g,off+j,none⟩=some (.string x):=by have:=ha 0 _ rfl;rwa [Nat.mul_one,Nat.add_zero]at this
  have g0:=aH j;have g1:=aV j l.length;replace hx:=Hd hx;clear ha;by_cases hu:x=s
  .have la:(x.toList==s.toList)=true:=(by rw[ji];exact zW hu);obtain rfl:b=(j:Int):=by rw[<-hc.o];exact dC (by rw[hx.o,hu]) hp.o
   replace hu:=Hd hu;go_wp2;go_ret;exact⟨rfl,rfl⟩
  .have la:(x.toList==s.toList)=false:=(by rw[ji];exact zV hu);replace hu:=Hd hu;go_wp2;go_roundw
   .refine⟨j+1,oQ,gQ,by trivial,λi a h h3=>?_⟩;by_cases dE:i=j
    .subst dE;obtain rfl:x=a:=by have:=hx.o;rw[h]at this;exact(eO this).symm
     exact hu.o
    .exact hp.o i a h oQ
   exact mQ
 .have g1:=jS j l.length;have g2:decide (j<l.length)=false:=zV hlt;obtain rfl:b= -1:=by
   rw[<-hc.o];exact dH λi a h=>hp.o i a h (by have:=(zC.1 h).1;omega)
  go_wp2;go_ret;exact⟨rfl,rfl⟩
theorem ads (A c F)(l:List ByteArray)(s)(hl:l.length<=1048576)(w)(r:Rd w F (.slice A l.length c) (.sl l.length (l.flatMap aG))):
  Cl 150 #[.slice A l.length c,.string s] w λe w'=>e=.returned (.bool (l.any λa=>decide (a=s)))/\w'=w:=by
 replace r:=Hd r;generalize hc:(l.any λa=>decide (a=s))=b;replace hc:=Hd hc;go_enter func150,ntmps150;go_wp2;go_loopw [5] (λi wr=>∃j:Nat,j<=l.length/\i=.int .i64 j/\wr=w/\(∀(i:Nat) a,l[i]? =some a->i<j->a≠s)) (λi _=>l.length- (intOf i).toNat)
 .exact⟨0,zE _,rfl,rfl,λi a h h3=>by omega⟩
 obtain⟨j,hj,rfl,rfl,hp⟩:=hrel;replace hp:=Hd hp;by_cases hlt:j<l.length
 .obtain⟨x,hx⟩:=av hlt;obtain⟨g,off,rfl,_,ha,_⟩:=r.o.cP (m:=1) (λ_=>rfl) hx oQ;have a0:wr.cell? ⟨g,off+j,none⟩=some (.string x):=by have:=ha 0 _ rfl;rwa [Nat.mul_one,Nat.add_zero]at this
  have g0:=aH j;have g1:=aV j l.length;replace hx:=Hd hx;clear ha;by_cases hu:x=s
  .have la:(x.toList==s.toList)=true:=(by rw[ji];exact zW hu);obtain rfl:b=true:=by rw[<-hc.o];exact xM.2 ⟨x,zA hx.o,zW hu⟩
   replace hu:=Hd hu;go_wp2;go_ret;exact⟨rfl,rfl⟩
  .have la:(x.toList==s.toList)=false:=(by rw[ji];exact zV hu);replace hu:=Hd hu;go_wp2;go_roundw
   .refine⟨j+1,oQ,gQ,by trivial,λi a h h3=>?_⟩;by_cases dE:i=j
    .subst dE;obtain rfl:x=a:=by have:=hx.o;rw[h]at this;exact(eO this).symm
     exact hu.o
    .exact hp.o i a h oQ
   exact mQ
 .have g1:=jS j l.length;have g2:decide (j<l.length)=false:=zV hlt;obtain rfl:b=false:=by
   rw[<-hc.o,List.any_eq_false];intro a hm;obtain⟨i,hi⟩:=zN hm;have:=hp.o i _ hi (by have:=(zC.1 hi).1;omega);simpa using this
  go_wp2;go_ret;exact⟨rfl,rfl⟩
end cH
structure Td where
 name:ByteArray
 attrs:List ByteArray
def fj (t:Td):List D:=[.v (.string t.name),.sl t.attrs.length (t.attrs.flatMap aG)]
namespace cH
theorem ot (A c F)(l:List Td)(s)(hl:l.length<=1048576)(w)(hF:∀b,F b->b<w.heap.size)(r:Rd w F (.slice A l.length c) (.sl l.length (l.flatMap fj))):
  Cl 66 #[.agg #[.slice A l.length c],.string s] w λe w'=>e=.returned (.int .i64 (aj (l.map (·.name)) s))/\Bw w w':=by
 replace⟨r,hF⟩:=H2 r hF;generalize hc:aj (l.map (·.name)) s=b;replace hc:=Hd hc;go_enter func66,ntmps66;go_wp2;go_loopw [10] (λi wr=>∃j:Nat,j<=l.length/\i=.int .i64 j/\Bw w wr/\(∀(i:Nat) a,(l.map (·.name))[i]? =some a->i<j->a≠s)) (λi _=>l.length- (intOf i).toNat)
 .exact⟨0,zE _,rfl,bA,λi a h h3=>by omega⟩
 obtain⟨j,hj,rfl,hb,hp⟩:=hrel;replace hp:=Hd hp;by_cases hlt:j<l.length
 .obtain⟨x,hx⟩:=av hlt;have r2:=r.o.under hb hF.o;obtain⟨g,off,rfl,_,ha,n7⟩:=r2.cP (m:=2) (λ_=>rfl) hx oQ;have a0:wr.cell? ⟨g,off+j*2,none⟩=some (.string x.name):=ha 0 _ rfl;obtain⟨A2,c2,a1,_⟩:=n7 1 _ _ rfl;have g0:=aH j;have g1:=aV j l.length;have iq:(l.map (·.name))[j]? =some x.name:=by rw[zG,hx];rfl
  replace⟨iq,hb⟩:=H2 iq hb;clear ha n7 r2 hx;by_cases hu:x.name=s
  .have la:(x.name.toList==s.toList)=true:=(by rw[ji];exact zW hu);obtain rfl:b=(j:Int):=by rw[<-hc.o];exact dC (by rw[iq.o,hu]) hp.o
   replace hu:=Hd hu;go_wp2;go_ret;exact⟨rfl,hb.o.alloc hb.o.size _⟩
  .have la:(x.name.toList==s.toList)=false:=(by rw[ji];exact zV hu);replace hu:=Hd hu;go_wp2;go_roundw
   .refine⟨j+1,oQ,gQ,hb.o.alloc hb.o.size _,λi a h h3=>?_⟩;by_cases dE:i=j
    .subst dE;obtain rfl:x.name=a:=by have:=iq.o;rw[h]at this;exact(eO this).symm
     exact hu.o
    .exact hp.o i a h oQ
   exact mQ
 .have g1:=jS j l.length;have g2:decide (j<l.length)=false:=zV hlt;obtain rfl:b= -1:=by
   rw[<-hc.o];exact dH λi a h=>hp.o i a h (by have:=(zC.1 h).1;simp at this;omega)
  go_wp2;go_ret;exact⟨rfl,hb⟩
end cH
def rN (c:Nat->Int):Nat->Int
 |0=>0
 |n+1=>if rN c n=0 then c n else rN c n
theorem mO {c n}(h:∀i,i<n->c i=0):rN c n=0:=by
 induction n with
 |zero=>rfl
 |succ n ih=>rw[rN,if_pos (ih λi hi=>h i oQ)];exact h n oQ
theorem fw {c n j}(hj:j<n)(hc:c j≠0)(h:∀i,i<j->c i=0):rN c n=c j:=by
 induction n with
 |zero=>omega
 |succ n ih=>
  rw[rN];by_cases e:j=n
  .subst e;rw[if_pos (mO h)]
  .rw[ih oQ,if_neg hc]
theorem mJ {c n}(h:rN c n=0):∀i,i<n->c i=0:=by
 induction n with
 |zero=>intro i hi;omega
 |succ n ih=>
  rw[rN]at h;split at h
  .intro i hi;by_cases e:i=n
   .subst e;exact h
   .exact ih ‹_› i oQ
  .contradiction
def jk:ByteArray:={data:=#[116,115]}
theorem Ds:jk.toList=[116,115]:=by rw[ByteArray.toList_eq];rfl
theorem jF {x}(h:x=jk):(x.toList== [116,115])=true:=by subst h;rw[Ds];rfl
theorem gK {x}(h:x≠jk):(x.toList== [116,115])=false:=by rw[<-Ds,cH.ji];exact zV h
theorem adt {x}(h:x=ByteArray.empty):(x.toList== [])=true:=by subst h;rw[ByteArray.toList_eq];rfl
theorem aa7 {x}(h:x≠ByteArray.empty):(x.toList== [])=false:=by
 have:ByteArray.empty.toList=[]:=by rw[ByteArray.toList_eq];rfl
 rw[<-this,cH.ji];exact zV h
noncomputable def wW (l:List ByteArray)(k:Nat):Int:=match l[k]? with
 |none=>0
 |some a=>if br a=false\/a=jk then 22 else if aj l a=k then 0 else 25
noncomputable def qO (l:List Td)(i:Nat):Int:=match l[i]? with
 |none=>0
 |some t=>if br t.name=false then 22 else if aj (l.map (·.name)) t.name=i then(if 8<t.attrs.length then 24 else rN (wW t.attrs) t.attrs.length)else 25
noncomputable def dy (l:List Td):Int:=if l.length<1\/16<l.length then 23 else rN (qO l) l.length
theorem sU {l k a}(h:l[k]? =some a)(h1:br a=false\/a=jk):wW l k=22:=by
 unfold wW;rw[h];exact if_pos h1
theorem FN {l}{k:Nat}{a}(h:l[k]? =some a)(h1:br a=true)(h2:a≠jk)(h3:aj l a≠k):wW l k=25:=by
 unfold wW;rw[h];show(if _ then _ else _)=_
 rw[if_neg (by simp[h1,h2]),if_neg h3]
theorem Ti {l}{k:Nat}{a}(h:l[k]? =some a)(h1:br a=true)(h2:a≠jk)(h3:aj l a=k):wW l k=0:=by
 unfold wW;rw[h];show(if _ then _ else _)=_
 rw[if_neg (by simp[h1,h2]),if_pos h3]
theorem AK {l i t}(h:l[i]? =some t)(h1:br t.name=false):qO l i=22:=by
 unfold qO;rw[h];exact if_pos h1
theorem AL {l}{i:Nat}{t}(h:l[i]? =some t)(h1:br t.name=true)(h3:aj (l.map (·.name)) t.name≠i):qO l i=25:=by
 unfold qO;rw[h];show(if _ then _ else _)=_
 rw[if_neg (by simp[h1]),if_neg h3]
theorem FU {l}{i:Nat}{t}(h:l[i]? =some t)(h1:br t.name=true)(h3:aj (l.map (·.name)) t.name=i)(h4:8<t.attrs.length):qO l i=24:=by
 unfold qO;rw[h];show(if _ then _ else _)=_
 rw[if_neg (by simp[h1]),if_pos h3,if_pos h4]
theorem AO {l}{i:Nat}{t}(h:l[i]? =some t)(h1:br t.name=true)(h3:aj (l.map (·.name)) t.name=i)(h4:¬8<t.attrs.length):qO l i=rN (wW t.attrs) t.attrs.length:=by
 unfold qO;rw[h];show(if _ then _ else _)=_
 rw[if_neg (by simp[h1]),if_pos h3,if_neg h4]
theorem qE {l}(h:l.length<1\/16<l.length):dy l=23:=if_pos h
theorem vw {l}(h:1<=l.length)(h2:l.length<=16):dy l=rN (qO l) l.length:=if_neg oQ
theorem yq {l s}{j:Nat}(h:l[j]? =some s):aj l s<=j:=by
 unfold aj;obtain⟨hj,hjs⟩:=zC.1 h;cases hf:l.findIdx? (λa=>decide (a=s))with
 |none=>simp only[];omega
 |some i=>
  rw[List.findIdx?_eq_some_iff_getElem]at hf;obtain⟨hi,_,hp⟩:=hf;simp only[];by_cases hlt:j<i
  .have:=hp j hlt;simp[hjs]at this
  .omega
theorem yz {l s}{i j:Nat}(h:l[i]? =some s)(dE:i<j):aj l s≠j:=by
 have:=yq h;omega
theorem Mp {l s}{j:Nat}(h:l[j]? =some s):((l.take j).any λa=>decide (a=s))=decide (aj l s≠j):=by
 by_cases hp:∀i a,l[i]? =some a->i<j->a≠s
 .rw[zV (by rw[dC h hp];simp),List.any_eq_false];intro a ha;obtain⟨i,hi⟩:=zN ha;rw[zZ]at hi;split at hi
  .simpa using hp i a hi ‹_›
  .cases hi
 .simp only[Classical.not_forall]at hp;obtain⟨i,a,hi,dE,hn⟩:=hp;obtain rfl:a=s:=Classical.not_not.1 hn;rw[zW (yz hi dE),xM];exact⟨a,zA (i:=i) (by rw[zZ,if_pos dE];exact hi),sJ⟩
def Xw (l:List ByteArray):Prop:=l.length<=1048576/\∀a∈l,a.size<=1048576
def iI (l:List Td):Prop:=l.length<=1048576/\∀t∈l,t.name.size<=1048576/\Xw t.attrs
