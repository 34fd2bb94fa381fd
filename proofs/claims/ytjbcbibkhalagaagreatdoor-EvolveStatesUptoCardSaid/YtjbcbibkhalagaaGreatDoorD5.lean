/- Items. -/
import Derived.Test.YtjbcbibkhalagaaGreatDoorD1
namespace Go.Proofs.YtjbcbibkhalagaaGreatDoor
set_option maxRecDepth 100000
set_option maxHeartbeats 16000000
open Proofs.Tryz Go.RowKit Go.Deep
set_option linter.unusedVariables false
set_option linter.unusedSimpArgs false
def HB (l:List Td)(A:Option Addr)(c:Nat)(x:It)(u:Value)(w wr:World):Prop:=Bw w wr/\ao wr w.heap.size 24 [.slice A l.length c]/\ao wr (w.heap.size+1) 60 (dX x u)
theorem HB.stay {l A c x u w wr W}(h:HB l A c x u w wr)(hb:Bw wr W):HB l A c x u w W:=⟨h.1.trans (hb.mono h.1.size),h.2.1.stay hb,h.2.2.stay hb⟩
theorem HB.new (l A c x u w):HB l A c x u w ((w.alloc (.cells ⟨[.slice A l.length c]⟩ 24)).alloc (.cells ⟨dX x u⟩ 60)):=by
 have h1:=SB.new l A c w;refine⟨h1.1.alloc h1.1.size _,(h1.2.stay bA),?_⟩;have:=ao.new (w.alloc (.cells ⟨[.slice A l.length c]⟩ 24)) 60 (dX x u);simpa using this
theorem HB.cells {l A c x u w wr}(h:HB l A c x u w wr):wr.cell? ⟨w.heap.size,0,none⟩=some (.slice A l.length c)/\wr.cell? ⟨w.heap.size+1,0,none⟩=some (.bool x.neg)/\wr.cell? ⟨w.heap.size+1,1,none⟩=some u/\wr.cell? ⟨w.heap.size+1,2,none⟩=some (.string x.v)/\
 wr.cell? ⟨w.heap.size+1,3,none⟩=some (.int .i64 x.lo)/\wr.cell? ⟨w.heap.size+1,4,none⟩=some (.int .i64 x.hi):=⟨h.2.1.cell 0,h.2.2.cell 0,h.2.2.cell 1,h.2.2.cell 2,h.2.2.cell 3,h.2.2.cell 4⟩
theorem HB.drewN {l A c x u w wr}(h:HB l A c x u w wr)(k):HB l A c x u w (wr.drewN k):=h.stay (below_drewN bR k)
namespace dR
open cH
theorem SY (A c F l x A2 c2 s)(hl:iI l)(hx:x.ah.length<=1048576)(w)(hF:∀b,F b->b<w.heap.size)(r:Rd w F (.slice A l.length c) (.sl l.length (l.flatMap fj)))(r2:Rd w F (.slice A2 x.ah.length c2) (.sl x.ah.length (x.ah.flatMap aG))):
  Cl 93 #[.agg ⟨[.slice A l.length c]⟩,.agg ⟨dX x (.slice A2 x.ah.length c2)⟩,.string s] w λe w'=>e=.returned (.bool (hasB l x.ah s))/\Bw w w':=by
 have h0:=HB.new l A c x (.slice A2 x.ah.length c2) w;have qK:=hl.1;have k1:∀(n:ByteArray) W,Bw w W->Cl 66 #[.agg ⟨[.slice A l.length c]⟩,.string n] W λe w'=>e=.returned (.int .i64 (aj (aY l) n))/\Bw W w':=λn W hW=>ot A c F l n qK W (λb h=>zF (hF b h) hW.size) (r.under hW hF)
 have k2:∀(n:ByteArray) W,Bw w W->Cl 111 #[.agg ⟨[.slice A l.length c]⟩,.int .i64 (aj (aY l) n),.string s] W λe w'=>e=.returned (.int .i64 (bG l (aj (aY l) n) s))/\Bw W w':=λn W hW=>CK A c F l _ s hl W (λb h=>zF (hF b h) hW.size) (r.under hW hF)
 obtain⟨b,hc⟩:=aB (hasB l x.ah s)
 rw[<-hc];unfold hasB at hc;obtain⟨neg,ah,v,lo,hi⟩:=x;simp only[dX]at h0 hc hx r2 |-;replace⟨hc,r,r2,hF,h0,k1,k2⟩:=H7 hc r r2 hF h0 k1 k2;go_enter func93,ntmps93;go_wp2;go_loopw [12] (λi wr=>∃j:Nat,j<=ah.length/\i=.int .i64 j/\HB l A c ⟨neg,ah,v,lo,hi⟩ (.slice A2 ah.length c2) w wr/\Hid ((ah.take j).all (λn=>decide (bG l (aj (aY l) n) s≠ -1))=true)) (λi _=>ah.length- (intOf i).toNat)
 .exact⟨0,zE _,rfl,h0.o,rfl⟩
 clear h0;obtain⟨j,hj,rfl,hI,hp⟩:=hrel;by_cases hlt:j<ah.length
 .obtain⟨y,hy⟩:=av hlt;obtain⟨g,off,rfl,_,a0⟩:=dN (r2.o.under hI.1 hF.o) hy;obtain⟨y0,_,y1,_⟩:=hI.cells;have g0:=aH j;have g1:=aV j ah.length;obtain⟨ai,EW⟩:=aB (bG l (aj (aY l) y) s)
  have eW:=k1.o y;have fS:=k2.o y;rw[<-EW]at fS;obtain⟨ti,wM⟩:=aB (aj (aY l) y)
  rw[<-wM]at eW fS;replace⟨wM,eW,fS⟩:=H3 wM eW fS;by_cases ha:ai= -1
  .have ae:=Hd (show b=false by rw[hc.o];exact ea hy (by simp[<-EW,ha]));have fa:(ai== -1)=true:=by rw[beq_iff_eq];exact ha
   replace⟨ha,EW,hy⟩:=H3 ha EW hy;have BT:=Hd hI;replace hI:=Hd hI;go_upto_region 4 with fail
   go_cut [22] (λs7 wx=>s7=.bool true/\HB l A c ⟨neg,ah,v,lo,hi⟩ (.slice (some ⟨g,off,none⟩) ah.length c2) w wx)
   .go_region_law ((go_simp;first
     |(go_at_call 66;refine(eW.o _ (by first|exact hI.o.1 |exact hI.o.1.drew |exact(hI.o.drewN _).1)).eQ λW hW=>?_;replace hI:=Hd (hI.o.stay (by first|exact hW |exact(below_drewN bR _).trans hW));obtain⟨y0,_⟩:=hI.o.cells;clear hW)
     |(go_at_call 111;refine(fS.o _ (by first|exact hI.o.1 |exact hI.o.1.drew |exact(hI.o.drewN _).1)).eQ λW hW=>?_;replace hI:=Hd (hI.o.stay (by first|exact hW |exact(below_drewN bR _).trans hW));obtain⟨y0,_⟩:=hI.o.cells;clear hW)))
    all_goals(go_wp2;all_goals(go_meet;exact⟨rfl,hI.o⟩))
   clear BT y0 y1 a0;obtain⟨rfl,hI⟩:=hcut;replace hI:=Hd hI;go_wp2;go_ret;exact⟨fZ ae.o.symm,hI.o.1⟩
  .have ej:=Hd (dG hy hp.o (by simp[<-EW,ha]));have fa:(ai== -1)=false:=by rw[xV];exact ha
   replace⟨ha,EW,hy⟩:=H3 ha EW hy;have BT:=Hd hI;replace hI:=Hd hI;go_upto_region 4 with fail
   go_cut [22] (λs7 wx=>s7=.bool false/\HB l A c ⟨neg,ah,v,lo,hi⟩ (.slice (some ⟨g,off,none⟩) ah.length c2) w wx)
   .go_region_law ((go_simp;first
     |(go_at_call 66;refine(eW.o _ (by first|exact hI.o.1 |exact hI.o.1.drew |exact(hI.o.drewN _).1)).eQ λW hW=>?_;replace hI:=Hd (hI.o.stay (by first|exact hW |exact(below_drewN bR _).trans hW));obtain⟨y0,_⟩:=hI.o.cells;clear hW)
     |(go_at_call 111;refine(fS.o _ (by first|exact hI.o.1 |exact hI.o.1.drew |exact(hI.o.drewN _).1)).eQ λW hW=>?_;replace hI:=Hd (hI.o.stay (by first|exact hW |exact(below_drewN bR _).trans hW));obtain⟨y0,_⟩:=hI.o.cells;clear hW)))
    all_goals(go_wp2;all_goals(go_meet;exact⟨rfl,hI.o⟩))
   clear BT y0 y1 a0;obtain⟨rfl,hI⟩:=hcut;replace hI:=Hd hI;go_wp2;go_roundw
   .exact⟨j+1,oQ,gQ,hI.o,ej⟩
   exact mQ
 .have g1:=jS j ah.length;obtain rfl:j=ah.length:=oQ;have ae:b=true:=by rw[hc.o];exact ft hp.o
  replace ae:=Hd ae;obtain⟨_,_,y1,_⟩:=hI.cells;replace hI:=Hd hI;go_wp2;go_ret;exact⟨fZ ae.o.symm,hI.o.1⟩
theorem ur (A c F l x A2 c2 s)(hl:iI l)(hx:x.ah.length<=1048576)(w)(hF:∀b,F b->b<w.heap.size)(r:Rd w F (.slice A l.length c) (.sl l.length (l.flatMap fj)))(r2:Rd w F (.slice A2 x.ah.length c2) (.sl x.ah.length (x.ah.flatMap aG))):
  Cl 135 #[.agg ⟨[.slice A l.length c]⟩,.agg ⟨dX x (.slice A2 x.ah.length c2)⟩,.string s] w λe w'=>e=.returned (.bool (hasB l x.ah s))/\Bw w w':=by
 have h0:=HB.new l A c x (.slice A2 x.ah.length c2) w;have qK:=hl.1;have k1:∀(n:ByteArray) W,Bw w W->Cl 128 #[.agg ⟨[.slice A l.length c]⟩,.string n] W λe w'=>e=.returned (.int .i64 (aj (aY l) n))/\Bw W w':=λn W hW=>sE A c F l n qK W (λb h=>zF (hF b h) hW.size) (r.under hW hF)
 have k2:∀(n:ByteArray) W,Bw w W->Cl 136 #[.agg ⟨[.slice A l.length c]⟩,.int .i64 (aj (aY l) n),.string s] W λe w'=>e=.returned (.int .i64 (bG l (aj (aY l) n) s))/\Bw W w':=λn W hW=>ya A c F l _ s hl W (λb h=>zF (hF b h) hW.size) (r.under hW hF)
 obtain⟨b,hc⟩:=aB (hasB l x.ah s)
 rw[<-hc];unfold hasB at hc;obtain⟨neg,ah,v,lo,hi⟩:=x;simp only[dX]at h0 hc hx r2 |-;replace⟨hc,r,r2,hF,h0,k1,k2⟩:=H7 hc r r2 hF h0 k1 k2;go_enter func135,ntmps135;go_wp2;go_loopw [7] (λi wr=>∃j:Nat,j<=ah.length/\i=.int .i64 j/\HB l A c ⟨neg,ah,v,lo,hi⟩ (.slice A2 ah.length c2) w wr/\Hid ((ah.take j).all (λn=>decide (bG l (aj (aY l) n) s≠ -1))=true)) (λi _=>ah.length- (intOf i).toNat)
 .exact⟨0,zE _,rfl,h0.o,rfl⟩
 clear h0;obtain⟨j,hj,rfl,hI,hp⟩:=hrel;by_cases hlt:j<ah.length
 .obtain⟨y,hy⟩:=av hlt;obtain⟨g,off,rfl,_,a0⟩:=dN (r2.o.under hI.1 hF.o) hy;obtain⟨y0,_,y1,_⟩:=hI.cells;have g0:=aH j;have g1:=aV j ah.length;obtain⟨ai,EW⟩:=aB (bG l (aj (aY l) y) s)
  have eW:=k1.o y;have fS:=k2.o y;rw[<-EW]at fS;obtain⟨ti,wM⟩:=aB (aj (aY l) y)
  rw[<-wM]at eW fS;replace⟨wM,eW,fS⟩:=H3 wM eW fS;by_cases ha:ai= -1
  .have ae:=Hd (show b=false by rw[hc.o];exact ea hy (by simp[<-EW,ha]));have fa:(ai== -1)=true:=by rw[beq_iff_eq];exact ha
   replace⟨ha,EW,hy⟩:=H3 ha EW hy;have BT:=Hd hI;replace hI:=Hd hI;go_upto_region 4 with fail
   go_cut [8] (λs7 wx=>s7=.int .i64 ti/\HB l A c ⟨neg,ah,v,lo,hi⟩ (.slice (some ⟨g,off,none⟩) ah.length c2) w wx)
   .go_region_law ((go_simp;(go_at_call 128;refine(eW.o _ (by first|exact hI.o.1 |exact hI.o.1.drew |exact(hI.o.drewN _).1)).eQ λW hW=>?_;replace hI:=Hd (hI.o.stay (by first|exact hW |exact(below_drewN bR _).trans hW));obtain⟨y0,_⟩:=hI.o.cells;clear hW)))
    all_goals(go_wp2;all_goals(go_meet;exact⟨rfl,hI.o⟩))
   clear BT y0 y1 a0;obtain⟨rfl,hI⟩:=hcut;obtain⟨y0,_⟩:=hI.cells;replace hI:=Hd hI;go_wp2_with (go_at_call 136;refine(fS.o _ (by first|exact hI.o.1 |exact hI.o.1.drew |exact(hI.o.drewN _).1)).eQ λW hW=>?_;replace hI:=Hd (hI.o.stay (by first|exact hW |exact(below_drewN bR _).trans hW));obtain⟨y0,_⟩:=hI.o.cells;clear hW);go_ret;exact⟨fZ ae.o.symm,hI.o.1⟩
  .have ej:=Hd (dG hy hp.o (by simp[<-EW,ha]));have fa:(ai== -1)=false:=by rw[xV];exact ha
   replace⟨ha,EW,hy⟩:=H3 ha EW hy;have BT:=Hd hI;replace hI:=Hd hI;go_upto_region 4 with fail
   go_cut [8] (λs7 wx=>s7=.int .i64 ti/\HB l A c ⟨neg,ah,v,lo,hi⟩ (.slice (some ⟨g,off,none⟩) ah.length c2) w wx)
   .go_region_law ((go_simp;(go_at_call 128;refine(eW.o _ (by first|exact hI.o.1 |exact hI.o.1.drew |exact(hI.o.drewN _).1)).eQ λW hW=>?_;replace hI:=Hd (hI.o.stay (by first|exact hW |exact(below_drewN bR _).trans hW));obtain⟨y0,_⟩:=hI.o.cells;clear hW)))
    all_goals(go_wp2;all_goals(go_meet;exact⟨rfl,hI.o⟩))
   clear BT y0 y1 a0;obtain⟨rfl,hI⟩:=hcut;obtain⟨y0,_⟩:=hI.cells;replace hI:=Hd hI;go_wp2_with (go_at_call 136;refine(fS.o _ (by first|exact hI.o.1 |exact hI.o.1.drew |exact(hI.o.drewN _).1)).eQ λW hW=>?_;replace hI:=Hd (hI.o.stay (by first|exact hW |exact(below_drewN bR _).trans hW));obtain⟨y0,_⟩:=hI.o.cells;clear hW);go_roundw
   .exact⟨j+1,oQ,gQ,hI.o,ej⟩
   exact mQ
 .have g1:=jS j ah.length;obtain rfl:j=ah.length:=oQ;have ae:b=true:=by rw[hc.o];exact ft hp.o
  replace ae:=Hd ae;obtain⟨_,_,y1,_⟩:=hI.cells;replace hI:=Hd hI;go_wp2;go_ret;exact⟨fZ ae.o.symm,hI.o.1⟩
end dR
def bC (o:Int):Bool:=decide (o=4)||decide (o=11)
def dm (o:Int):Bool:=decide (5<=o)&&decide (o<=10)
def aQ (o:Int):Bool:=decide (o=2)||(decide (o=3)||(decide (o=13)||(decide (19<=o)&&decide (o<=26))))
def ie (o:Int):Bool:=decide (o=13)||(decide (o=25)||decide (o=26))
def ld (x:It):Bool:= !x.neg&&decide (1<x.hi)
def lZ (q:Qy):List ByteArray:=q.items.map (·.v)
def aM (q:Qy)(v:ByteArray):Int:=aj (lZ q) v
def mU (t:List Nd)(w:Bool)(k:Int):Bool:=decide (k<0)||(aQ (opAt t k.toNat)==w)
def cF (t:List Nd)(x:Nd):Bool:=mU t (ie x.op) x.a&&mU t (ie x.op) x.b
def aE (t:List Nd):Bool:=decide (0<t.length)&&aQ (opAt t (t.length-1))
theorem dY {t i x}(h:t[i]? =some x):opAt t i=x.op:=by unfold opAt;rw[h]
theorem cM {a b:Int}(h:a≠b):(a==b)=false:=by rw[xV];exact h
theorem mf {a b:Int}(h:a=b):(a==b)=true:=by rw[beq_iff_eq];exact h
theorem Ua {a b:Int}(h:a=b):(a != b)=false:=by rw[bne,mf h];rfl
theorem gL {a b:Int}(h:a≠b):(a != b)=true:=by rw[bne,cM h];rfl
namespace dR
open cH
theorem CM (o w):Cl 91 #[.int .i64 o] w λe w'=>e=.returned (.bool (bC o))/\w'=w:=by
 by_cases h1:o=4
 .subst h1;go_enter func91,ntmps91;go_wp2;go_ret;exact⟨rfl,rfl⟩
 .have hl:bC o=(o==11):=by unfold bC;rw[zV h1,Bool.false_or];by_cases h:o=11<;>simp[h]
  have f1:=cM h1;rw[hl];clear hl;go_enter func91,ntmps91;go_wp2;go_ret;exact⟨rfl,rfl⟩
theorem rf (o w):Cl 158 #[.int .i64 o] w λe w'=>e=.returned (.bool (bC o))/\w'=w:=by
 by_cases h1:o=4
 .subst h1;go_enter func158,ntmps158;go_wp2;go_ret;exact⟨rfl,rfl⟩
 .have hl:bC o=(o==11):=by unfold bC;rw[zV h1,Bool.false_or];by_cases h:o=11<;>simp[h]
  have f1:=cM h1;rw[hl];clear hl;go_enter func158,ntmps158;go_wp2;go_ret;exact⟨rfl,rfl⟩
theorem GN (o w):Cl 92 #[.int .i64 o] w λe w'=>e=.returned (.bool (dm o))/\w'=w:=by
 by_cases h1:5<=o
 .have hl:dm o=decide (o<=10):=by unfold dm;rw[zW h1,xE]
  rw[hl];clear hl;go_enter func92,ntmps92;go_wp2;go_ret;exact⟨rfl,rfl⟩
 .have hl:dm o=false:=by unfold dm;rw[zV h1];rfl
  rw[hl];clear hl;go_enter func92,ntmps92;go_wp2;go_ret;exact⟨rfl,rfl⟩
theorem lh (o w):Cl 159 #[.int .i64 o] w λe w'=>e=.returned (.bool (dm o))/\w'=w:=by
 by_cases h1:5<=o
 .have hl:dm o=decide (o<=10):=by unfold dm;rw[zW h1,xE]
  rw[hl];clear hl;go_enter func159,ntmps159;go_wp2;go_ret;exact⟨rfl,rfl⟩
 .have hl:dm o=false:=by unfold dm;rw[zV h1];rfl
  rw[hl];clear hl;go_enter func159,ntmps159;go_wp2;go_ret;exact⟨rfl,rfl⟩
theorem GQ (o w):Cl 140 #[.int .i64 o] w λe w'=>e=.returned (.bool (aQ o))/\w'=w:=by
 by_cases h2:o=2
 .subst h2;go_enter func140,ntmps140;go_wp2;go_ret;exact⟨rfl,rfl⟩
 have f2:=cM h2;by_cases h3:o=3
 .subst h3;go_enter func140,ntmps140;go_wp2;go_ret;exact⟨rfl,rfl⟩
 have f3:=cM h3;by_cases h13:o=13
 .subst h13;go_enter func140,ntmps140;go_wp2;go_ret;exact⟨rfl,rfl⟩
 have f13:=cM h13;by_cases h1:19<=o
 .have hl:aQ o=decide (o<=26):=by unfold aQ;rw[zV h2,zV h3,zV h13,zW h1];rfl
  rw[hl];clear hl;go_enter func140,ntmps140;go_wp2;go_ret;exact⟨rfl,rfl⟩
 .have hl:aQ o=false:=by unfold aQ;rw[zV h2,zV h3,zV h13,zV h1];rfl
  rw[hl];clear hl;go_enter func140,ntmps140;go_wp2;go_ret;exact⟨rfl,rfl⟩
theorem ow (o w):Cl 131 #[.int .i64 o] w λe w'=>e=.returned (.bool (aQ o))/\w'=w:=by
 by_cases h2:o=2
 .subst h2;go_enter func131,ntmps131;go_wp2;go_ret;exact⟨rfl,rfl⟩
 have f2:=cM h2;by_cases h3:o=3
 .subst h3;go_enter func131,ntmps131;go_wp2;go_ret;exact⟨rfl,rfl⟩
 have f3:=cM h3;by_cases h13:o=13
 .subst h13;go_enter func131,ntmps131;go_wp2;go_ret;exact⟨rfl,rfl⟩
 have f13:=cM h13;by_cases h1:19<=o
 .have hl:aQ o=decide (o<=26):=by unfold aQ;rw[zV h2,zV h3,zV h13,zW h1];rfl
  rw[hl];clear hl;go_enter func131,ntmps131;go_wp2;go_ret;exact⟨rfl,rfl⟩
 .have hl:aQ o=false:=by unfold aQ;rw[zV h2,zV h3,zV h13,zV h1];rfl
  rw[hl];clear hl;go_enter func131,ntmps131;go_wp2;go_ret;exact⟨rfl,rfl⟩
theorem EX (x u w):Cl 160 #[.agg ⟨dX x u⟩] w λe w'=>e=.returned (.bool (ld x))/\Bw w w':=by
 have h0:=(PI.new x u w).1;obtain⟨b,hb⟩:=aB (ld x)
 rw[<-hb];unfold ld at hb;obtain⟨neg,ah,v,lo,hi⟩:=x;simp only[dX]at h0 hb |-;replace⟨h0,hb⟩:=H2 h0 hb;cases neg with
 |false=>
  go_enter func160,ntmps160;go_wp2;go_ret;exact⟨fZ hb.o.symm,h0.o⟩
 |true=>
  go_enter func160,ntmps160;go_wp2;go_ret;exact⟨fZ hb.o.symm,h0.o⟩
theorem ox (q s F v)(hl:q.items.length<=1048576)(w)(hF:∀b,F b->b<w.heap.size)(r:Rd w F (.slice s.a1 q.items.length s.c1) (.sl q.items.length (q.items.flatMap SV))):
  Cl 129 #[.agg ⟨qV q s⟩,.string v] w λe w'=>e=.returned (.int .i64 (aM q v))/\Bw w w':=by
 have h0:=QB.new q s w;obtain⟨b,hc⟩:=aB (aM q v)
 rw[<-hc];obtain⟨A1,c1,A2,c2,A3,c3⟩:=s;simp only[qV]at h0 r |-;replace⟨hc,r,hF,h0⟩:=H4 hc r hF h0;go_enter func129,ntmps129;go_wp2;go_loopw [5] (λi wr=>∃j:Nat,j<=q.items.length/\i=.int .i64 j/\QB q ⟨A1,c1,A2,c2,A3,c3⟩ w wr/\Hid (∀(i:Nat) a,(lZ q)[i]? =some a->i<j->a≠v)) (λi _=>q.items.length- (intOf i).toNat)
 .exact⟨0,zE _,rfl,h0.o,λi a h h3=>by omega⟩
 clear h0;obtain⟨j,hj,rfl,hI,hp⟩:=hrel;obtain⟨y0,_⟩:=hI.cells;simp only at y0;by_cases hlt:j<q.items.length
 .obtain⟨x,hx⟩:=av hlt;obtain⟨g,off,B2,d2,rfl,_,_,_,_,a2,_,_⟩:=eV (r.o.under hI.1 hF.o) hx;have g0:=aH j;have g1:=aV j q.items.length;have iq:(lZ q)[j]? =some x.v:=by unfold lZ;rw[zG,hx];rfl
  replace⟨iq,hI⟩:=H2 iq hI;clear hx;by_cases hu:x.v=v
  .have la:(x.v.toList==v.toList)=true:=(by rw[ji];exact zW hu);have ae:b=(j:Int):=by rw[hc.o];exact dC (by rw[iq.o,hu]) hp.o
   replace⟨hu,ae⟩:=H2 hu ae;go_wp2;go_ret;exact⟨hY ae.o.symm,hI.o.1⟩
  .have la:(x.v.toList==v.toList)=false:=(by rw[ji];exact zV hu);replace hu:=Hd hu;go_wp2;go_roundw
   .refine⟨j+1,oQ,gQ,hI.o,λi a h h3=>?_⟩;by_cases dE:i=j
    .subst dE;obtain rfl:x.v=a:=by have:=iq.o;rw[h]at this;exact(eO this).symm
     exact hu.o
    .exact hp.o i a h oQ
   exact mQ
 .have g1:=jS j q.items.length;have ae:b= -1:=by
   rw[hc.o];exact dH λi a h=>hp.o i a h (by have:=(zC.1 h).1;unfold lZ at this;simp at this;omega)
  replace⟨ae,hI⟩:=H2 ae hI;go_wp2;go_ret;exact⟨hY ae.o.symm,hI.o.1⟩
theorem yb (A c F t)(hl:t.length<=1048576)(w)(r:Rd w F (.slice A t.length c) (.sl t.length (t.flatMap b9))):
  Cl 96 #[.slice A t.length c] w λe w'=>e=.returned (.bool (aE t))/\w'=w:=by
 have k1:=Hd GQ;obtain⟨b,hb⟩:=aB (aE t)
 rw[<-hb];by_cases hn:t.length=0
 .have ae:b=false:=by rw[hb];unfold aE;rw[zV oQ];rfl
  have g0:¬(0:Int)<(t.length:Int):=oQ;have g1:¬0<t.length:=oQ;have g2:decide (0<t.length)=false:=zV g1;clear hb;replace⟨ae,hn⟩:=H2 ae hn;go_enter func96,ntmps96;go_wp2;go_ret;exact⟨fZ ae.o.symm,rfl⟩
 .obtain⟨n,wm⟩:∃n,t.length=n+1:=⟨t.length-1,oQ⟩
  obtain⟨x,hx⟩:=av (l:=t) (i:=n) oQ;obtain⟨g,off,rfl,_,z0,_⟩:=dk r hx;have ae:b=aQ x.op:=by rw[hb];unfold aE;rw[zW oQ,xE,show t.length-1=n by omega,dY hx]
  rw[wm];have n1:(0:Int)<(n:Int)+1:=oQ;have n2:=aH n;have n3:(n:Int)<(n:Int)+1:=oQ;have n4:n<=1048576:=oQ;have nw:IntKind.i64.wrap (n:Int)=n:=by rw[xI];omega
  clear hb;replace⟨ae,hn,wm,hx,hl⟩:=H5 ae hn wm hx hl;go_enter func96,ntmps96;go_wp2_with (go_at_call 140;refine(k1.o _ _).aR ?_);go_ret;exact⟨fZ ae.o.symm,rfl⟩
theorem GR (A c F t x)(hl:t.length<=1048576)(BP:x.a<t.length)(bQ:x.b<t.length)(w)(hF:∀b,F b->b<w.heap.size)(r:Rd w F (.slice A t.length c) (.sl t.length (t.flatMap b9))):
  Cl 139 #[.slice A t.length c,.agg ⟨cJ x⟩] w λe w'=>e=.returned (.bool (cF t x))/\Bw w w':=by
 have k1:=Hd GQ;have h0:Bw w (w.alloc (.cells ⟨cJ x⟩ 63)):=bA;replace r:=r.under h0 hF;obtain⟨kb,hb⟩:=aB (cF t x)
 rw[<-hb];unfold cF at hb;obtain⟨wt,tU⟩:=aB (ie x.op)
 rw[<-tU]at hb;obtain⟨op,n,v,at_,a,b⟩:=x;simp only[cJ]at h0 tU hb BP bQ r |-;replace⟨hb,h0,r,hF⟩:=H4 hb h0 r hF;have tV:=Hd tU;have i0:∀w,(Instr.index 231 (.agg #[.int .i64 a,.int .i64 b]) (.int .i64 0)).run prog w=.ok (.int .i64 a) w:=λ_=>by kernel_rfl
 have i1:∀w,(Instr.index 231 (.agg #[.int .i64 a,.int .i64 b]) (.int .i64 1)).run prog w=.ok (.int .i64 b) w:=λ_=>by kernel_rfl
 go_enter func139,ntmps139;go_upto_region 1 with fail
 go_cut [5] (λs7 wx=>s7=.bool wt/\wx=(w.alloc (.cells ⟨[.int .i64 op,.int .i64 n,.string v,.string at_,.int .i64 a,.int .i64 b]⟩ 63)))
 .by_cases h1:op=13
  .have f1:=mf h1;obtain rfl:wt=true:=by rw[tU];unfold ie;rw[zW h1];rfl
   clear tU tV;replace h1:=Hd h1;go_wp2
   all_goals(go_meet;exact⟨rfl,rfl⟩)
  .have f1:=cM h1;by_cases h2:op=25
   .have f2:=mf h2;obtain rfl:wt=true:=by rw[tU];unfold ie;rw[zW h2];simp
    clear tU tV;replace⟨h1,h2⟩:=H2 h1 h2;go_wp2
    all_goals(go_meet;exact⟨rfl,rfl⟩)
   .have f2:=cM h2;have Xy:wt=(op==26):=by rw[tU];unfold ie;rw[zV h1,zV h2];by_cases h:op=26<;>simp[h]
    clear tU tV;subst Xy;replace⟨h1,h2⟩:=H2 h1 h2;go_wp2
    all_goals(go_meet;exact⟨rfl,rfl⟩)
 obtain⟨rfl,rfl⟩:=hcut;clear tU;go_wp2;go_loopw [26] (λi wr=>∃j:Nat,j<=2/\i=.int .i64 j/\wr=(w.alloc (.cells ⟨[.int .i64 op,.int .i64 n,.string v,.string at_,.int .i64 a,.int .i64 b]⟩ 63))/\Hid (1<=j->mU t wt a=true)/\Hid (2<=j->mU t wt b=true)) (λi _=>2- (intOf i).toNat)
 .exact⟨0,oQ,rfl,rfl,λh=>by omega,λh=>by omega⟩
 obtain⟨j,hj,hi,rfl,fR,ej⟩:=hrel;by_cases hj0:j=0
 .obtain rfl:=(hi.trans (by rw[hj0];rfl):_=Value.int .i64 0);subst hj0;clear hi;obtain⟨W1,hw⟩:=aB (w.alloc (.cells ⟨[.int .i64 op,.int .i64 n,.string v,.string at_,.int .i64 a,.int .i64 b]⟩ 63))
  by_cases hk:a<0
  .have cK:=Hd (show mU t wt a=true by unfold mU;rw[zW hk];rfl);clear hw;go_wp2;go_roundw
   .exact⟨1,oQ,gQ,(by first|exact rfl |trivial),λ_=>cK.o,λh=>by omega⟩
   simp[intOf]
  .obtain⟨m,rfl⟩:∃m:Nat,a=m:=⟨a.toNat,oQ⟩
   obtain⟨y,hy⟩:=av (l:=t) (i:=m) oQ;obtain⟨g,off,rfl,_,z0,_⟩:=dk r.o hy;have g0:=aH m;have g1:=aV m t.length;clear hw;by_cases ht:aQ y.op=wt
   .have cK:=Hd (show mU t wt m=true by unfold mU;rw[Int.toNat_natCast,dY hy,ht];simp);replace⟨hy,ht⟩:=H2 hy ht;have pw:(wt != wt)=false:=by cases wt<;>rfl
    go_wp2_with (go_at_call 140;refine(k1.o _ _).aR ?_;rw[ht.o]);go_roundw
    .exact⟨1,oQ,gQ,(by first|exact rfl |trivial),λ_=>cK.o,λh=>by omega⟩
    simp[intOf]
   .have hf:mU t wt m=false:=by
     unfold mU;rw[Int.toNat_natCast,dY hy,zV oQ,Bool.false_or];rw[xV];exact ht
    have ae:=Hd (show kb=false by rw[hb.o,hf];rfl);replace⟨hy,hf⟩:=H2 hy hf;cases wt with
    |true=>
     have Ub:=Hd (show aQ y.op=false by simpa using ht);replace ht:=Hd ht;go_wp2_with (go_at_call 140;refine(k1.o _ _).aR ?_;rw[Ub.o]);go_ret;exact⟨fZ ae.o.symm,h0.o⟩
    |false=>
     have Ub:=Hd (show aQ y.op=true by simpa using ht);replace ht:=Hd ht;go_wp2_with (go_at_call 140;refine(k1.o _ _).aR ?_;rw[Ub.o]);go_ret;exact⟨fZ ae.o.symm,h0.o⟩
 by_cases hj1:j=1
 .obtain rfl:=(hi.trans (by rw[hj1];rfl):_=Value.int .i64 1);subst hj1;clear hi;have hA:=Hd (show mU t wt a=true from fR.o oQ);obtain⟨W1,hw⟩:=aB (w.alloc (.cells ⟨[.int .i64 op,.int .i64 n,.string v,.string at_,.int .i64 a,.int .i64 b]⟩ 63))
  by_cases hk:b<0
  .have cK:=Hd (show mU t wt b=true by unfold mU;rw[zW hk];rfl);clear hw;go_wp2;go_roundw
   .exact⟨2,oQ,gQ,(by first|exact rfl |trivial),λ_=>hA.o,λ_=>cK.o⟩
   simp[intOf]
  .obtain⟨m,rfl⟩:∃m:Nat,b=m:=⟨b.toNat,oQ⟩
   obtain⟨y,hy⟩:=av (l:=t) (i:=m) oQ;obtain⟨g,off,rfl,_,z0,_⟩:=dk r.o hy;have g0:=aH m;have g1:=aV m t.length;clear hw;by_cases ht:aQ y.op=wt
   .have cK:=Hd (show mU t wt m=true by unfold mU;rw[Int.toNat_natCast,dY hy,ht];simp);replace⟨hy,ht⟩:=H2 hy ht;have pw:(wt != wt)=false:=by cases wt<;>rfl
    go_wp2_with (go_at_call 140;refine(k1.o _ _).aR ?_;rw[ht.o]);go_roundw
    .exact⟨2,oQ,gQ,(by first|exact rfl |trivial),λ_=>hA.o,λ_=>cK.o⟩
    simp[intOf]
   .have hf:mU t wt m=false:=by
     unfold mU;rw[Int.toNat_natCast,dY hy,zV oQ,Bool.false_or];rw[xV];exact ht
    have ae:=Hd (show kb=false by rw[hb.o,hf,Bool.and_false]);replace⟨hy,hf⟩:=H2 hy hf;cases wt with
    |true=>
     have Ub:=Hd (show aQ y.op=false by simpa using ht);replace ht:=Hd ht;go_wp2_with (go_at_call 140;refine(k1.o _ _).aR ?_;rw[Ub.o]);go_ret;exact⟨fZ ae.o.symm,h0.o⟩
    |false=>
     have Ub:=Hd (show aQ y.op=true by simpa using ht);replace ht:=Hd ht;go_wp2_with (go_at_call 140;refine(k1.o _ _).aR ?_;rw[Ub.o]);go_ret;exact⟨fZ ae.o.symm,h0.o⟩
 obtain rfl:j=2:=oQ;obtain rfl:=(hi.trans rfl:_=Value.int .i64 2);clear hi;have ae:kb=true:=by rw[hb.o,fR.o oQ,ej.o oQ];rfl
 replace ae:=Hd ae;go_wp2;go_ret;exact⟨fZ ae.o.symm,h0.o⟩
end dR
