/- Items. -/
import Derived.Test.YtfiodnlgiglhfaaGreatDoorD3
namespace Go.Proofs.YtfiodnlgiglhfaaGreatDoor
set_option maxRecDepth 100000
set_option maxHeartbeats 16000000
open Go.RowKit Go.Deep
set_option linter.unusedVariables false
set_option linter.unusedSimpArgs false
def HB (l:List Td)(A:Option Addr)(c:Nat)(x:It)(u:Value)(w wr:World):Prop:=Bw w wr∧Blk wr w.heap.size 24 [.slice A l.length c]∧Blk wr (w.heap.size+1) 54 (itV x u)
theorem HB.stay {l:List Td}{A:Option Addr}{c:Nat}{x:It}{u:Value}{w wr W:World}(h:HB l A c x u w wr)(hb:Bw wr W):HB l A c x u w W:=⟨h.1.trans (hb.mono h.1.size),h.2.1.stay hb,h.2.2.stay hb⟩
theorem HB.new (l:List Td)(A:Option Addr)(c:Nat)(x:It)(u:Value)(w:World):HB l A c x u w ((w.alloc (.cells ⟨[.slice A l.length c]⟩ 24)).alloc (.cells ⟨itV x u⟩ 54)):=by
 have h1:=SB.new l A c w;refine⟨h1.1.alloc h1.1.size _,(h1.2.stay bA),?_⟩;have:=Blk.new (w.alloc (.cells ⟨[.slice A l.length c]⟩ 24)) 54 (itV x u);simpa using this
theorem HB.cells {l:List Td}{A:Option Addr}{c:Nat}{x:It}{u:Value}{w wr:World}(h:HB l A c x u w wr):wr.cell? ⟨w.heap.size,0,none⟩=some (.slice A l.length c)∧wr.cell? ⟨w.heap.size+1,0,none⟩=some (.bool x.neg)∧wr.cell? ⟨w.heap.size+1,1,none⟩=some u∧wr.cell? ⟨w.heap.size+1,2,none⟩=some (.string x.v)∧
 wr.cell? ⟨w.heap.size+1,3,none⟩=some (.int .i64 x.lo)∧wr.cell? ⟨w.heap.size+1,4,none⟩=some (.int .i64 x.hi):=⟨h.2.1.cell 0,h.2.2.cell 0,h.2.2.cell 1,h.2.2.cell 2,h.2.2.cell 3,h.2.2.cell 4⟩
namespace ckW
open nmW
theorem has_k (A:Option Addr)(c:Nat)(F:Nat→Prop)(l:List Td)(x:It)(A2:Option Addr)(c2:Nat)(s:ByteArray)(hl:SzT l)(hx:x.tys.length≤1048576)(w:World)(hF:∀b,F b→b<w.heap.size)(r:Rd w F (.slice A l.length c) (.sl l.length (l.flatMap tdD)))
  (r2:Rd w F (.slice A2 x.tys.length c2) (.sl x.tys.length (x.tys.flatMap strD))):
  Calls Tryz.prog 74 #[.agg ⟨[.slice A l.length c]⟩,.agg ⟨itV x (.slice A2 x.tys.length c2)⟩,.string s] w fun e w'=>e=.returned (.bool (hasB l x.tys s))∧Bw w w':=by
 have h0:=HB.new l A c x (.slice A2 x.tys.length c2) w;have hl1:=hl.1;have k1:∀(n:ByteArray) W,Bw w W→Calls Tryz.prog 60 #[.agg ⟨[.slice A l.length c]⟩,.string n] W fun e w'=>e=.returned (.int .i64 (placeI (nmsT l) n))∧Bw W w':=fun n W hW=>typeOf_k A c F l n hl1 W (fun b h=>zF (hF b h) hW.size) (r.under hW hF)
 have k2:∀(n:ByteArray) W,Bw w W→Calls Tryz.prog 93 #[.agg ⟨[.slice A l.length c]⟩,.int .i64 (placeI (nmsT l) n),.string s] W fun e w'=>e=.returned (.int .i64 (attrI l (placeI (nmsT l) n) s))∧Bw W w':=fun n W hW=>attrOf_k A c F l _ s hl W (fun b h=>zF (hF b h) hW.size) (r.under hW hF)
 obtain⟨b,hc⟩:∃b,b=hasB l x.tys s:=⟨_,rfl⟩
 rw[←hc];unfold hasB at hc;obtain⟨neg,tys,v,lo,hi⟩:=x;simp only[itV]at h0 hc hx r2 ⊢;replace hc:=Hd hc;replace r:=Hd r;replace r2:=Hd r2;replace hF:=Hd hF;replace h0:=Hd h0;replace k1:=Hd k1;replace k2:=Hd k2;go_enter Tryz.func74,Tryz.ntmps74;go_wp2;go_loopw [12] (fun i wr=>∃j:Nat,j≤tys.length∧i=.int .i64 j∧HB l A c ⟨neg,tys,v,lo,hi⟩ (.slice A2 tys.length c2) w wr∧Hid ((tys.take j).all (fun n=>decide (attrI l (placeI (nmsT l) n) s≠ -1))=true)) (fun i _=>tys.length- (intOf i).toNat)
 case atStart=>exact⟨0,zE _,rfl,h0.out,rfl⟩
 case round=>
  clear h0;obtain⟨j,hj,rfl,hI,hp⟩:=hrel;by_cases hlt:j<tys.length
  ·obtain⟨y,hy⟩:=getx hlt;obtain⟨g,off,rfl,_,a0⟩:=str_at (r2.out.under hI.1 hF.out) hy;obtain⟨y0,_,y1,_⟩:=hI.cells;have g0:(0:Int)≤(j:Int):=by omega
   have g1:(j:Int)<tys.length:=by omega
   obtain⟨ai,hai⟩:∃a,a=attrI l (placeI (nmsT l) y) s:=⟨_,rfl⟩
   have k1':=k1.out y;have k2':=k2.out y;rw[←hai]at k2';obtain⟨ti,hti⟩:∃a,a=placeI (nmsT l) y:=⟨_,rfl⟩
   rw[←hti]at k1' k2';replace hti:=Hd hti;replace k1':=Hd k1';replace k2':=Hd k2';by_cases ha:ai= -1
   ·have hfin:=Hd (show b=false by rw[hc.out];exact all_fail hy (by simp[←hai,ha]));have fa:(ai== -1)=true:=by rw[beq_iff_eq];exact ha
    replace ha:=Hd ha;replace hai:=Hd hai;replace hy:=Hd hy;have hI0:=Hd hI;replace hI:=Hd hI;go_upto_region 4 with fail
    go_cut [22] (fun s7 wx=>s7=.bool true∧HB l A c ⟨neg,tys,v,lo,hi⟩ (.slice (some ⟨g,off,none⟩) tys.length c2) w wx)
    case first=>
     go_region_law ((go_simp;first
      |(go_at_call 60;refine(k1'.out _ (by first|exact hI.out.1 |exact hI.out.1.drew |exact(hI.out.drewN _).1)).mono ?_;rintro e W ⟨rfl,hW⟩;replace hI:=Hd (hI.out.stay (by first|exact hW |exact(below_drewN bR _).trans hW));obtain⟨y0,_⟩:=hI.out.cells;clear hW)
      |(go_at_call 93;refine(k2'.out _ (by first|exact hI.out.1 |exact hI.out.1.drew |exact(hI.out.drewN _).1)).mono ?_;rintro e W ⟨rfl,hW⟩;replace hI:=Hd (hI.out.stay (by first|exact hW |exact(below_drewN bR _).trans hW));obtain⟨y0,_⟩:=hI.out.cells;clear hW)))
     all_goals(go_wp2;all_goals(go_meet;exact⟨rfl,hI.out⟩))
    case rest=>
     clear hI0 y0 y1 a0;obtain⟨rfl,hI⟩:=hcut;replace hI:=Hd hI;go_wp2;go_ret;exact⟨rtB hfin.out.symm,hI.out.1⟩
   ·have hp2:=Hd (all_next hy hp.out (by simp[←hai,ha]));have fa:(ai== -1)=false:=by rw[xV];exact ha
    replace ha:=Hd ha;replace hai:=Hd hai;replace hy:=Hd hy;have hI0:=Hd hI;replace hI:=Hd hI;go_upto_region 4 with fail
    go_cut [22] (fun s7 wx=>s7=.bool false∧HB l A c ⟨neg,tys,v,lo,hi⟩ (.slice (some ⟨g,off,none⟩) tys.length c2) w wx)
    case first=>
     go_region_law ((go_simp;first
      |(go_at_call 60;refine(k1'.out _ (by first|exact hI.out.1 |exact hI.out.1.drew |exact(hI.out.drewN _).1)).mono ?_;rintro e W ⟨rfl,hW⟩;replace hI:=Hd (hI.out.stay (by first|exact hW |exact(below_drewN bR _).trans hW));obtain⟨y0,_⟩:=hI.out.cells;clear hW)
      |(go_at_call 93;refine(k2'.out _ (by first|exact hI.out.1 |exact hI.out.1.drew |exact(hI.out.drewN _).1)).mono ?_;rintro e W ⟨rfl,hW⟩;replace hI:=Hd (hI.out.stay (by first|exact hW |exact(below_drewN bR _).trans hW));obtain⟨y0,_⟩:=hI.out.cells;clear hW)))
     all_goals(go_wp2;all_goals(go_meet;exact⟨rfl,hI.out⟩))
    case rest=>
     clear hI0 y0 y1 a0;obtain⟨rfl,hI⟩:=hcut;replace hI:=Hd hI;go_wp2;go_roundw
     case rel=>exact⟨j+1,by omega,by go_num,hI.out,hp2⟩
     case measure=>simp[intOf];omega
  ·have g1:¬(j:Int)<tys.length:=by omega
   obtain rfl:j=tys.length:=by omega
   have hfin:b=true:=by rw[hc.out];exact all_end hp.out
   replace hfin:=Hd hfin;obtain⟨_,_,y1,_⟩:=hI.cells;replace hI:=Hd hI;go_wp2;go_ret;exact⟨rtB hfin.out.symm,hI.out.1⟩
theorem every_k (A:Option Addr)(c:Nat)(F:Nat→Prop)(l:List Td)(x:It)(A2:Option Addr)(c2:Nat)(s:ByteArray)(hl:SzT l)(hx:x.tys.length≤1048576)(w:World)(hF:∀b,F b→b<w.heap.size)(r:Rd w F (.slice A l.length c) (.sl l.length (l.flatMap tdD)))
  (r2:Rd w F (.slice A2 x.tys.length c2) (.sl x.tys.length (x.tys.flatMap strD))):
  Calls Tryz.prog 110 #[.agg ⟨[.slice A l.length c]⟩,.agg ⟨itV x (.slice A2 x.tys.length c2)⟩,.string s] w fun e w'=>e=.returned (.bool (hasB l x.tys s))∧Bw w w':=by
 have h0:=HB.new l A c x (.slice A2 x.tys.length c2) w;have hl1:=hl.1;have k1:∀(n:ByteArray) W,Bw w W→Calls Tryz.prog 103 #[.agg ⟨[.slice A l.length c]⟩,.string n] W fun e w'=>e=.returned (.int .i64 (placeI (nmsT l) n))∧Bw W w':=fun n W hW=>rTypeOf_k A c F l n hl1 W (fun b h=>zF (hF b h) hW.size) (r.under hW hF)
 have k2:∀(n:ByteArray) W,Bw w W→Calls Tryz.prog 111 #[.agg ⟨[.slice A l.length c]⟩,.int .i64 (placeI (nmsT l) n),.string s] W fun e w'=>e=.returned (.int .i64 (attrI l (placeI (nmsT l) n) s))∧Bw W w':=fun n W hW=>rAttrOf_k A c F l _ s hl W (fun b h=>zF (hF b h) hW.size) (r.under hW hF)
 obtain⟨b,hc⟩:∃b,b=hasB l x.tys s:=⟨_,rfl⟩
 rw[←hc];unfold hasB at hc;obtain⟨neg,tys,v,lo,hi⟩:=x;simp only[itV]at h0 hc hx r2 ⊢;replace hc:=Hd hc;replace r:=Hd r;replace r2:=Hd r2;replace hF:=Hd hF;replace h0:=Hd h0;replace k1:=Hd k1;replace k2:=Hd k2;go_enter Tryz.func110,Tryz.ntmps110;go_wp2;go_loopw [7] (fun i wr=>∃j:Nat,j≤tys.length∧i=.int .i64 j∧HB l A c ⟨neg,tys,v,lo,hi⟩ (.slice A2 tys.length c2) w wr∧Hid ((tys.take j).all (fun n=>decide (attrI l (placeI (nmsT l) n) s≠ -1))=true)) (fun i _=>tys.length- (intOf i).toNat)
 case atStart=>exact⟨0,zE _,rfl,h0.out,rfl⟩
 case round=>
  clear h0;obtain⟨j,hj,rfl,hI,hp⟩:=hrel;by_cases hlt:j<tys.length
  ·obtain⟨y,hy⟩:=getx hlt;obtain⟨g,off,rfl,_,a0⟩:=str_at (r2.out.under hI.1 hF.out) hy;obtain⟨y0,_,y1,_⟩:=hI.cells;have g0:(0:Int)≤(j:Int):=by omega
   have g1:(j:Int)<tys.length:=by omega
   obtain⟨ai,hai⟩:∃a,a=attrI l (placeI (nmsT l) y) s:=⟨_,rfl⟩
   have k1':=k1.out y;have k2':=k2.out y;rw[←hai]at k2';obtain⟨ti,hti⟩:∃a,a=placeI (nmsT l) y:=⟨_,rfl⟩
   rw[←hti]at k1' k2';replace hti:=Hd hti;replace k1':=Hd k1';replace k2':=Hd k2';by_cases ha:ai= -1
   ·have hfin:=Hd (show b=false by rw[hc.out];exact all_fail hy (by simp[←hai,ha]));have fa:(ai== -1)=true:=by rw[beq_iff_eq];exact ha
    replace ha:=Hd ha;replace hai:=Hd hai;replace hy:=Hd hy;have hI0:=Hd hI;replace hI:=Hd hI;go_upto_region 4 with fail
    go_cut [8] (fun s7 wx=>s7=.int .i64 ti∧HB l A c ⟨neg,tys,v,lo,hi⟩ (.slice (some ⟨g,off,none⟩) tys.length c2) w wx)
    case first=>
     go_region_law ((go_simp;(go_at_call 103;refine(k1'.out _ (by first|exact hI.out.1 |exact hI.out.1.drew |exact(hI.out.drewN _).1)).mono ?_;rintro e W ⟨rfl,hW⟩;replace hI:=Hd (hI.out.stay (by first|exact hW |exact(below_drewN bR _).trans hW));obtain⟨y0,_⟩:=hI.out.cells;clear hW)))
     all_goals(go_wp2;all_goals(go_meet;exact⟨rfl,hI.out⟩))
    case rest=>
     clear hI0 y0 y1 a0;obtain⟨rfl,hI⟩:=hcut;obtain⟨y0,_⟩:=hI.cells;replace hI:=Hd hI;go_wp2_with (go_at_call 111;refine(k2'.out _ (by first|exact hI.out.1 |exact hI.out.1.drew |exact(hI.out.drewN _).1)).mono ?_;rintro e W ⟨rfl,hW⟩;replace hI:=Hd (hI.out.stay (by first|exact hW |exact(below_drewN bR _).trans hW));obtain⟨y0,_⟩:=hI.out.cells;clear hW);go_ret;exact⟨rtB hfin.out.symm,hI.out.1⟩
   ·have hp2:=Hd (all_next hy hp.out (by simp[←hai,ha]));have fa:(ai== -1)=false:=by rw[xV];exact ha
    replace ha:=Hd ha;replace hai:=Hd hai;replace hy:=Hd hy;have hI0:=Hd hI;replace hI:=Hd hI;go_upto_region 4 with fail
    go_cut [8] (fun s7 wx=>s7=.int .i64 ti∧HB l A c ⟨neg,tys,v,lo,hi⟩ (.slice (some ⟨g,off,none⟩) tys.length c2) w wx)
    case first=>
     go_region_law ((go_simp;(go_at_call 103;refine(k1'.out _ (by first|exact hI.out.1 |exact hI.out.1.drew |exact(hI.out.drewN _).1)).mono ?_;rintro e W ⟨rfl,hW⟩;replace hI:=Hd (hI.out.stay (by first|exact hW |exact(below_drewN bR _).trans hW));obtain⟨y0,_⟩:=hI.out.cells;clear hW)))
     all_goals(go_wp2;all_goals(go_meet;exact⟨rfl,hI.out⟩))
    case rest=>
     clear hI0 y0 y1 a0;obtain⟨rfl,hI⟩:=hcut;obtain⟨y0,_⟩:=hI.cells;replace hI:=Hd hI;go_wp2_with (go_at_call 111;refine(k2'.out _ (by first|exact hI.out.1 |exact hI.out.1.drew |exact(hI.out.drewN _).1)).mono ?_;rintro e W ⟨rfl,hW⟩;replace hI:=Hd (hI.out.stay (by first|exact hW |exact(below_drewN bR _).trans hW));obtain⟨y0,_⟩:=hI.out.cells;clear hW);go_roundw
     case rel=>exact⟨j+1,by omega,by go_num,hI.out,hp2⟩
     case measure=>simp[intOf];omega
  ·have g1:¬(j:Int)<tys.length:=by omega
   obtain rfl:j=tys.length:=by omega
   have hfin:b=true:=by rw[hc.out];exact all_end hp.out
   replace hfin:=Hd hfin;obtain⟨_,_,y1,_⟩:=hI.cells;replace hI:=Hd hI;go_wp2;go_ret;exact⟨rtB hfin.out.symm,hI.out.1⟩
end ckW
def bareO (o:Int):Bool:=decide (o=4)||decide (o=11)
def aggO (o:Int):Bool:=decide (5≤o)&&decide (o≤10)
def truthO (o:Int):Bool:=decide (o=2)||(decide (o=3)||(decide (o=13)||(decide (19≤o)&&decide (o≤26))))
def wantO (o:Int):Bool:=decide (o=13)||(decide (o=25)||decide (o=26))
def manyB (x:It):Bool:= !x.neg&&decide (1<x.hi)
def vrs (q:Qy):List ByteArray:=q.items.map (·.v)
def itemI (q:Qy)(v:ByteArray):Int:=placeI (vrs q) v
def okK (t:List Nd)(w:Bool)(k:Int):Bool:=decide (k<0)||(truthO (opAt t k.toNat)==w)
def kindsB (t:List Nd)(x:Nd):Bool:=okK t (wantO x.op) x.a&&okK t (wantO x.op) x.b
def isTruthB (t:List Nd):Bool:=decide (0<t.length)&&truthO (opAt t (t.length-1))
theorem opAt_of {t:List Nd}{i:Nat}{x:Nd}(h:t[i]? =some x):opAt t i=x.op:=by unfold opAt;rw[h]
theorem beqF {a b:Int}(h:a≠b):(a==b)=false:=by rw[xV];exact h
theorem beqT {a b:Int}(h:a=b):(a==b)=true:=by rw[beq_iff_eq];exact h
theorem bneF {a b:Int}(h:a=b):(a != b)=false:=by rw[bne,beqT h];rfl
theorem bneT {a b:Int}(h:a≠b):(a != b)=true:=by rw[bne,beqF h];rfl
namespace ckW
open nmW
theorem isBare_k (o:Int)(w:World):Calls Tryz.prog 72 #[.int .i64 o] w fun e w'=>e=.returned (.bool (bareO o))∧w'=w:=by
 by_cases h1:o=4
 ·subst h1;go_enter Tryz.func72,Tryz.ntmps72;go_wp2;go_ret;exact⟨rfl,rfl⟩
 ·have hl:bareO o=(o==11):=by unfold bareO;rw[zV h1,Bool.false_or];by_cases h:o=11<;>simp[h]
  have f1:=beqF h1;rw[hl];clear hl;go_enter Tryz.func72,Tryz.ntmps72;go_wp2;go_ret;exact⟨rfl,rfl⟩
theorem barely_k (o:Int)(w:World):Calls Tryz.prog 136 #[.int .i64 o] w fun e w'=>e=.returned (.bool (bareO o))∧w'=w:=by
 by_cases h1:o=4
 ·subst h1;go_enter Tryz.func136,Tryz.ntmps136;go_wp2;go_ret;exact⟨rfl,rfl⟩
 ·have hl:bareO o=(o==11):=by unfold bareO;rw[zV h1,Bool.false_or];by_cases h:o=11<;>simp[h]
  have f1:=beqF h1;rw[hl];clear hl;go_enter Tryz.func136,Tryz.ntmps136;go_wp2;go_ret;exact⟨rfl,rfl⟩
theorem isAgg_k (o:Int)(w:World):Calls Tryz.prog 73 #[.int .i64 o] w fun e w'=>e=.returned (.bool (aggO o))∧w'=w:=by
 by_cases h1:5≤o
 ·have hl:aggO o=decide (o≤10):=by unfold aggO;rw[zW h1,xE]
  rw[hl];clear hl;go_enter Tryz.func73,Tryz.ntmps73;go_wp2;go_ret;exact⟨rfl,rfl⟩
 ·have hl:aggO o=false:=by unfold aggO;rw[zV h1];rfl
  rw[hl];clear hl;go_enter Tryz.func73,Tryz.ntmps73;go_wp2;go_ret;exact⟨rfl,rfl⟩
theorem aggregate_k (o:Int)(w:World):Calls Tryz.prog 137 #[.int .i64 o] w fun e w'=>e=.returned (.bool (aggO o))∧w'=w:=by
 by_cases h1:5≤o
 ·have hl:aggO o=decide (o≤10):=by unfold aggO;rw[zW h1,xE]
  rw[hl];clear hl;go_enter Tryz.func137,Tryz.ntmps137;go_wp2;go_ret;exact⟨rfl,rfl⟩
 ·have hl:aggO o=false:=by unfold aggO;rw[zV h1];rfl
  rw[hl];clear hl;go_enter Tryz.func137,Tryz.ntmps137;go_wp2;go_ret;exact⟨rfl,rfl⟩
theorem truth_k (o:Int)(w:World):Calls Tryz.prog 122 #[.int .i64 o] w fun e w'=>e=.returned (.bool (truthO o))∧w'=w:=by
 by_cases h2:o=2
 ·subst h2;go_enter Tryz.func122,Tryz.ntmps122;go_wp2;go_ret;exact⟨rfl,rfl⟩
 have f2:=beqF h2;by_cases h3:o=3
 ·subst h3;go_enter Tryz.func122,Tryz.ntmps122;go_wp2;go_ret;exact⟨rfl,rfl⟩
 have f3:=beqF h3;by_cases h13:o=13
 ·subst h13;go_enter Tryz.func122,Tryz.ntmps122;go_wp2;go_ret;exact⟨rfl,rfl⟩
 have f13:=beqF h13;by_cases h1:19≤o
 ·have hl:truthO o=decide (o≤26):=by unfold truthO;rw[zV h2,zV h3,zV h13,zW h1];rfl
  rw[hl];clear hl;go_enter Tryz.func122,Tryz.ntmps122;go_wp2;go_ret;exact⟨rfl,rfl⟩
 ·have hl:truthO o=false:=by unfold truthO;rw[zV h2,zV h3,zV h13,zV h1];rfl
  rw[hl];clear hl;go_enter Tryz.func122,Tryz.ntmps122;go_wp2;go_ret;exact⟨rfl,rfl⟩
theorem rtruth_k (o:Int)(w:World):Calls Tryz.prog 106 #[.int .i64 o] w fun e w'=>e=.returned (.bool (truthO o))∧w'=w:=by
 by_cases h2:o=2
 ·subst h2;go_enter Tryz.func106,Tryz.ntmps106;go_wp2;go_ret;exact⟨rfl,rfl⟩
 have f2:=beqF h2;by_cases h3:o=3
 ·subst h3;go_enter Tryz.func106,Tryz.ntmps106;go_wp2;go_ret;exact⟨rfl,rfl⟩
 have f3:=beqF h3;by_cases h13:o=13
 ·subst h13;go_enter Tryz.func106,Tryz.ntmps106;go_wp2;go_ret;exact⟨rfl,rfl⟩
 have f13:=beqF h13;by_cases h1:19≤o
 ·have hl:truthO o=decide (o≤26):=by unfold truthO;rw[zV h2,zV h3,zV h13,zW h1];rfl
  rw[hl];clear hl;go_enter Tryz.func106,Tryz.ntmps106;go_wp2;go_ret;exact⟨rfl,rfl⟩
 ·have hl:truthO o=false:=by unfold truthO;rw[zV h2,zV h3,zV h13,zV h1];rfl
  rw[hl];clear hl;go_enter Tryz.func106,Tryz.ntmps106;go_wp2;go_ret;exact⟨rfl,rfl⟩
theorem repeated_k (x:It)(u:Value)(w:World):Calls Tryz.prog 138 #[.agg ⟨itV x u⟩] w fun e w'=>e=.returned (.bool (manyB x))∧Bw w w':=by
 have h0:=(ItB.new x u w).1;obtain⟨b,hb⟩:∃b,b=manyB x:=⟨_,rfl⟩
 rw[←hb];unfold manyB at hb;obtain⟨neg,tys,v,lo,hi⟩:=x;simp only[itV]at h0 hb ⊢;replace h0:=Hd h0;replace hb:=Hd hb;cases neg with
 |false=>
  go_enter Tryz.func138,Tryz.ntmps138;go_wp2;go_ret;exact⟨rtB hb.out.symm,h0.out⟩
 |true=>
  go_enter Tryz.func138,Tryz.ntmps138;go_wp2;go_ret;exact⟨rtB hb.out.symm,h0.out⟩
theorem itemOf_k (q:Qy)(s:Sl3)(F:Nat→Prop)(v:ByteArray)(hl:q.items.length≤1048576)(w:World)(hF:∀b,F b→b<w.heap.size)(r:Rd w F (.slice s.a1 q.items.length s.c1) (.sl q.items.length (q.items.flatMap itD))):
  Calls Tryz.prog 104 #[.agg ⟨qV q s⟩,.string v] w fun e w'=>e=.returned (.int .i64 (itemI q v))∧Bw w w':=by
 have h0:=QB.new q s w;obtain⟨b,hc⟩:∃b,b=itemI q v:=⟨_,rfl⟩
 rw[←hc];obtain⟨A1,c1,A2,c2,A3,c3⟩:=s;simp only[qV]at h0 r ⊢;replace hc:=Hd hc;replace r:=Hd r;replace hF:=Hd hF;replace h0:=Hd h0;go_enter Tryz.func104,Tryz.ntmps104;go_wp2;go_loopw [5] (fun i wr=>∃j:Nat,j≤q.items.length∧i=.int .i64 j∧QB q ⟨A1,c1,A2,c2,A3,c3⟩ w wr∧Hid (∀(i:Nat) a,(vrs q)[i]? =some a→i<j→a≠v)) (fun i _=>q.items.length- (intOf i).toNat)
 case atStart=>exact⟨0,zE _,rfl,h0.out,fun i a h h3=>by omega⟩
 case round=>
  clear h0;obtain⟨j,hj,rfl,hI,hp⟩:=hrel;obtain⟨y0,_⟩:=hI.cells;simp only at y0;by_cases hlt:j<q.items.length
  ·obtain⟨x,hx⟩:=getx hlt;obtain⟨g,off,B2,d2,rfl,_,_,_,_,a2,_,_⟩:=it_at (r.out.under hI.1 hF.out) hx;have g0:(0:Int)≤(j:Int):=by omega
   have g1:(j:Int)<q.items.length:=by omega
   have hx2:(vrs q)[j]? =some x.v:=by unfold vrs;rw[zG,hx];rfl
   replace hx2:=Hd hx2;replace hI:=Hd hI;clear hx;by_cases hu:x.v=v
   ·have hu':(x.v.toList==v.toList)=true:=(by rw[bqb];exact zW hu);have hfin:b=(j:Int):=by rw[hc.out];exact placeI_at (by rw[hx2.out,hu]) hp.out
    replace hu:=Hd hu;replace hfin:=Hd hfin;go_wp2;go_ret;exact⟨rtI hfin.out.symm,hI.out.1⟩
   ·have hu':(x.v.toList==v.toList)=false:=(by rw[bqb];exact zV hu);replace hu:=Hd hu;go_wp2;go_roundw
    case rel=>
     refine⟨j+1,by omega,by go_num,hI.out,fun i a h h3=>?_⟩;by_cases hij:i=j
     ·subst hij;obtain rfl:x.v=a:=by have:=hx2.out;rw[h]at this;exact(zq9 this).symm
      exact hu.out
     ·exact hp.out i a h (by omega)
    case measure=>simp[intOf];omega
  ·have g1:¬(j:Int)<q.items.length:=by omega
   have hfin:b= -1:=by
    rw[hc.out];exact placeI_none fun i a h=>hp.out i a h (by have:=(zC.1 h).1;unfold vrs at this;simp at this;omega)
   replace hfin:=Hd hfin;replace hI:=Hd hI;go_wp2;go_ret;exact⟨rtI hfin.out.symm,hI.out.1⟩
theorem isTruth_k (A:Option Addr)(c:Nat)(F:Nat→Prop)(t:List Nd)(hl:t.length≤1048576)(w:World)(r:Rd w F (.slice A t.length c) (.sl t.length (t.flatMap ndD))):
  Calls Tryz.prog 77 #[.slice A t.length c] w fun e w'=>e=.returned (.bool (isTruthB t))∧w'=w:=by
 have k1:=Hd truth_k;obtain⟨b,hb⟩:∃b,b=isTruthB t:=⟨_,rfl⟩
 rw[←hb];by_cases hn:t.length=0
 ·have hfin:b=false:=by rw[hb];unfold isTruthB;rw[zV (by omega)];rfl
  have g0:¬(0:Int)<(t.length:Int):=by omega
  have g1:¬0<t.length:=by omega
  have g2:decide (0<t.length)=false:=zV g1;clear hb;replace hfin:=Hd hfin;replace hn:=Hd hn;go_enter Tryz.func77,Tryz.ntmps77;go_wp2;go_ret;exact⟨rtB hfin.out.symm,rfl⟩
 ·obtain⟨n,hn2⟩:∃n,t.length=n+1:=⟨t.length-1,by omega⟩
  obtain⟨x,hx⟩:=getx (l:=t) (i:=n) (by omega);obtain⟨g,off,rfl,_,z0,_⟩:=nd_at r hx;have hfin:b=truthO x.op:=by rw[hb];unfold isTruthB;rw[zW (by omega),xE,show t.length-1=n by omega,opAt_of hx]
  rw[hn2];have n1:(0:Int)<(n:Int)+1:=by omega
  have n2:(0:Int)≤(n:Int):=by omega
  have n3:(n:Int)<(n:Int)+1:=by omega
  have n4:n≤1048576:=by omega
  have nw:IntKind.i64.wrap (n:Int)=n:=by rw[xI];omega
  clear hb;replace hfin:=Hd hfin;replace hn:=Hd hn;replace hn2:=Hd hn2;replace hx:=Hd hx;replace hl:=Hd hl;go_enter Tryz.func77,Tryz.ntmps77;go_wp2_with (go_at_call 122;refine(k1.out _ _).mono ?_;rintro e W ⟨rfl,hW⟩;subst W);go_ret;exact⟨rtB hfin.out.symm,rfl⟩
theorem kinds_k (A:Option Addr)(c:Nat)(F:Nat→Prop)(t:List Nd)(x:Nd)(hl:t.length≤1048576)(hxa:x.a<t.length)(hxb:x.b<t.length)(w:World)(hF:∀b,F b→b<w.heap.size)(r:Rd w F (.slice A t.length c) (.sl t.length (t.flatMap ndD))):
  Calls Tryz.prog 121 #[.slice A t.length c,.agg ⟨ndV x⟩] w fun e w'=>e=.returned (.bool (kindsB t x))∧Bw w w':=by
 have k1:=Hd truth_k;have h0:Bw w (w.alloc (.cells ⟨ndV x⟩ 81)):=bA;replace r:=r.under h0 hF;obtain⟨kb,hb⟩:∃b,b=kindsB t x:=⟨_,rfl⟩
 rw[←hb];unfold kindsB at hb;obtain⟨wt,hwt⟩:∃b,b=wantO x.op:=⟨_,rfl⟩
 rw[←hwt]at hb;obtain⟨op,n,v,at_,a,b⟩:=x;simp only[ndV]at h0 hwt hb hxa hxb r ⊢;replace hb:=Hd hb;replace h0:=Hd h0;replace r:=Hd r;replace hF:=Hd hF;have hwt0:=Hd hwt;have i0:∀w,(Instr.index 194 (.agg #[.int .i64 a,.int .i64 b]) (.int .i64 0)).run Tryz.prog w=.ok (.int .i64 a) w:=fun _=>by kernel_rfl
 have i1:∀w,(Instr.index 194 (.agg #[.int .i64 a,.int .i64 b]) (.int .i64 1)).run Tryz.prog w=.ok (.int .i64 b) w:=fun _=>by kernel_rfl
 go_enter Tryz.func121,Tryz.ntmps121;go_upto_region 1 with fail
 go_cut [5] (fun s7 wx=>s7=.bool wt∧wx=(w.alloc (.cells ⟨[.int .i64 op,.int .i64 n,.string v,.string at_,.int .i64 a,.int .i64 b]⟩ 81)))
 case first=>
  by_cases h1:op=13
  ·have f1:=beqT h1;obtain rfl:wt=true:=by rw[hwt];unfold wantO;rw[zW h1];rfl
   clear hwt hwt0;replace h1:=Hd h1;go_wp2
   all_goals(go_meet;exact⟨rfl,rfl⟩)
  ·have f1:=beqF h1;by_cases h2:op=25
   ·have f2:=beqT h2;obtain rfl:wt=true:=by rw[hwt];unfold wantO;rw[zW h2];simp
    clear hwt hwt0;replace h1:=Hd h1;replace h2:=Hd h2;go_wp2
    all_goals(go_meet;exact⟨rfl,rfl⟩)
   ·have f2:=beqF h2;have hw3:wt=(op==26):=by rw[hwt];unfold wantO;rw[zV h1,zV h2];by_cases h:op=26<;>simp[h]
    clear hwt hwt0;subst hw3;replace h1:=Hd h1;replace h2:=Hd h2;go_wp2
    all_goals(go_meet;exact⟨rfl,rfl⟩)
 case rest=>
  obtain⟨rfl,rfl⟩:=hcut;clear hwt;go_wp2;go_loopw [26] (fun i wr=>∃j:Nat,j≤2∧i=.int .i64 j∧wr=(w.alloc (.cells ⟨[.int .i64 op,.int .i64 n,.string v,.string at_,.int .i64 a,.int .i64 b]⟩ 81))∧Hid (1≤j→okK t wt a=true)∧Hid (2≤j→okK t wt b=true)) (fun i _=>2- (intOf i).toNat)
  case atStart=>exact⟨0,by omega,rfl,rfl,fun h=>by omega,fun h=>by omega⟩
  case round=>
   obtain⟨j,hj,hi,rfl,hp1,hp2⟩:=hrel;by_cases hj0:j=0
   ·obtain rfl:=(hi.trans (by rw[hj0];rfl):_=Value.int .i64 0);subst hj0;clear hi;obtain⟨W1,hw⟩:∃W,W=(w.alloc (.cells ⟨[.int .i64 op,.int .i64 n,.string v,.string at_,.int .i64 a,.int .i64 b]⟩ 81)):=⟨_,rfl⟩
    by_cases hk:a<0
    ·have hok:=Hd (show okK t wt a=true by unfold okK;rw[zW hk];rfl);clear hw;go_wp2;go_roundw
     case rel=>exact⟨1,by omega,by go_num,(by first|exact rfl |trivial),fun _=>hok.out,fun h=>by omega⟩
     case measure=>simp[intOf]
    ·obtain⟨m,rfl⟩:∃m:Nat,a=m:=⟨a.toNat,by omega⟩
     obtain⟨y,hy⟩:=getx (l:=t) (i:=m) (by omega);obtain⟨g,off,rfl,_,z0,_⟩:=nd_at r.out hy;have g0:(0:Int)≤(m:Int):=by omega
     have g1:(m:Int)<t.length:=(by omega);clear hw;by_cases ht:truthO y.op=wt
     ·have hok:=Hd (show okK t wt m=true by unfold okK;rw[Int.toNat_natCast,opAt_of hy,ht];simp);replace hy:=Hd hy;replace ht:=Hd ht;have hbn:(wt != wt)=false:=by cases wt<;>rfl
      go_wp2_with (go_at_call 122;refine(k1.out _ _).mono ?_;rw[ht.out];rintro e W ⟨rfl,hW⟩;subst W);go_roundw
      case rel=>exact⟨1,by omega,by go_num,(by first|exact rfl |trivial),fun _=>hok.out,fun h=>by omega⟩
      case measure=>simp[intOf]
     ·have hf:okK t wt m=false:=by
       unfold okK;rw[Int.toNat_natCast,opAt_of hy,zV (by omega),Bool.false_or];rw[xV];exact ht
      have hfin:=Hd (show kb=false by rw[hb.out,hf];rfl);replace hy:=Hd hy;replace hf:=Hd hf;cases wt with
      |true=>
       have ht2:=Hd (show truthO y.op=false by simpa using ht);replace ht:=Hd ht;go_wp2_with (go_at_call 122;refine(k1.out _ _).mono ?_;rw[ht2.out];rintro e W ⟨rfl,hW⟩;subst W);go_ret;exact⟨rtB hfin.out.symm,h0.out⟩
      |false=>
       have ht2:=Hd (show truthO y.op=true by simpa using ht);replace ht:=Hd ht;go_wp2_with (go_at_call 122;refine(k1.out _ _).mono ?_;rw[ht2.out];rintro e W ⟨rfl,hW⟩;subst W);go_ret;exact⟨rtB hfin.out.symm,h0.out⟩
   by_cases hj1:j=1
   ·obtain rfl:=(hi.trans (by rw[hj1];rfl):_=Value.int .i64 1);subst hj1;clear hi;have hA:=Hd (show okK t wt a=true from hp1.out (by omega));obtain⟨W1,hw⟩:∃W,W=(w.alloc (.cells ⟨[.int .i64 op,.int .i64 n,.string v,.string at_,.int .i64 a,.int .i64 b]⟩ 81)):=⟨_,rfl⟩
    by_cases hk:b<0
    ·have hok:=Hd (show okK t wt b=true by unfold okK;rw[zW hk];rfl);clear hw;go_wp2;go_roundw
     case rel=>exact⟨2,by omega,by go_num,(by first|exact rfl |trivial),fun _=>hA.out,fun _=>hok.out⟩
     case measure=>simp[intOf]
    ·obtain⟨m,rfl⟩:∃m:Nat,b=m:=⟨b.toNat,by omega⟩
     obtain⟨y,hy⟩:=getx (l:=t) (i:=m) (by omega);obtain⟨g,off,rfl,_,z0,_⟩:=nd_at r.out hy;have g0:(0:Int)≤(m:Int):=by omega
     have g1:(m:Int)<t.length:=(by omega);clear hw;by_cases ht:truthO y.op=wt
     ·have hok:=Hd (show okK t wt m=true by unfold okK;rw[Int.toNat_natCast,opAt_of hy,ht];simp);replace hy:=Hd hy;replace ht:=Hd ht;have hbn:(wt != wt)=false:=by cases wt<;>rfl
      go_wp2_with (go_at_call 122;refine(k1.out _ _).mono ?_;rw[ht.out];rintro e W ⟨rfl,hW⟩;subst W);go_roundw
      case rel=>exact⟨2,by omega,by go_num,(by first|exact rfl |trivial),fun _=>hA.out,fun _=>hok.out⟩
      case measure=>simp[intOf]
     ·have hf:okK t wt m=false:=by
       unfold okK;rw[Int.toNat_natCast,opAt_of hy,zV (by omega),Bool.false_or];rw[xV];exact ht
      have hfin:=Hd (show kb=false by rw[hb.out,hf,Bool.and_false]);replace hy:=Hd hy;replace hf:=Hd hf;cases wt with
      |true=>
       have ht2:=Hd (show truthO y.op=false by simpa using ht);replace ht:=Hd ht;go_wp2_with (go_at_call 122;refine(k1.out _ _).mono ?_;rw[ht2.out];rintro e W ⟨rfl,hW⟩;subst W);go_ret;exact⟨rtB hfin.out.symm,h0.out⟩
      |false=>
       have ht2:=Hd (show truthO y.op=true by simpa using ht);replace ht:=Hd ht;go_wp2_with (go_at_call 122;refine(k1.out _ _).mono ?_;rw[ht2.out];rintro e W ⟨rfl,hW⟩;subst W);go_ret;exact⟨rtB hfin.out.symm,h0.out⟩
   obtain rfl:j=2:=by omega
   obtain rfl:=(hi.trans rfl:_=Value.int .i64 2);clear hi;have hfin:kb=true:=by rw[hb.out,hp1.out (by omega),hp2.out (by omega)];rfl
   replace hfin:=Hd hfin;go_wp2;go_ret;exact⟨rtB hfin.out.symm,h0.out⟩
end ckW
end Go.Proofs.YtfiodnlgiglhfaaGreatDoor
