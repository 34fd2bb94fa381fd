/- show.node. -/
import Derived.Test.YthaabihjeomipaaGreatDoorQG6
namespace Go.Proofs.YthaabihjeomipaaGreatDoor
set_option maxRecDepth 100000
set_option maxHeartbeats 16000000
open Go.RowKit Go.Deep
set_option linter.unusedVariables false
set_option linter.unusedSimpArgs false
set_option linter.unusedSectionVars false
theorem tkF_nn (t:List Nd):∀(n r:Nat),0≤(tkF t n r).2:=by
 have br:∀(b:Bool)(X:List Tk×Int),0≤X.2→0≤(brT b X).2:=fun b X h=>by
  unfold brT;split
  ·show 0≤X.2+1;omega
  ·exact h
 intro n;induction n with
 |zero=>intro r;exact Int.le_refl _
 |succ n ih=>
  intro r;unfold tkF;split
  ·exact Int.le_refl _
  ·rename_i x hx;split
   ·exact Int.le_refl _
   ·split
    ·have:=br (decide (levO (opAt t x.a.toNat)<levO x.op)) _ (ih x.a.toNat);show 0≤_+1;omega
    ·have:=br (decide (levO (opAt t x.a.toNat)<lfL x.op)) _ (ih x.a.toNat);exact Int.le_trans this (Int.le_max_left _ _)
theorem tkW_nn (t:List Nd)(r:Nat):0≤(tkW t r).2:=tkF_nn t _ r
theorem levO_pos (o:Int):1≤levO o∧levO o≤8:=by unfold levO;(repeat' split)<;>omega
structure NoR (X:List Tk×Int)(L:List Tk)(o d:Int)(m:Nat)(L':List Tk)(d':Int):Prop where
 fit:L.length+X.1.length≤400→L'=L++X.1∧d'=max d (o+X.2)
 big:400<L.length+X.1.length→400<L'.length
 le:L.length≤L'.length
 up:L'.length≤L.length+m
 dp:o≤d'
theorem NoR.full {X:List Tk×Int}{L:List Tk}{o d:Int}{m:Nat}(h:400<L.length)(hod:o≤d):NoR X L o d m L d:=⟨fun h2=>by omega,fun _=>h,nR,Nat.le_add_right _ _,hod⟩
theorem NoR.mono {X:List Tk×Int}{L L':List Tk}{o d d':Int}{m m':Nat}(h:NoR X L o d m L' d')(hm:m≤m'):NoR X L o d m' L' d':=⟨h.fit,h.big,h.le,zU h.up oQ,h.dp⟩
theorem NoR.lf {N L:List Tk}{o d:Int}{m:Nat}(hm:N.length≤m)(hod:o≤d):NoR (N,0) L o d m (L++N) d:=
 ⟨fun _=>⟨rfl,by show d=max d (o+0);omega⟩,fun h=>by rw[zH];exact h,sJ,by rw[zH];omega,hod⟩
theorem NoR.un {X:List Tk×Int}{L L':List Tk}{k:Tk}{o d d':Int}{m m':Nat}(h:NoR X (L++[k]) (o+1) (max d (o+1)) m L' d')(hx:0≤X.2)(hm:m+1≤m'):NoR (k::X.1,X.2+1) L o d m' (L'++[]) d':=by
 rw[zT];obtain⟨h1,h2,h3,h4,h5⟩:=h;simp only[zH,List.length_cons,List.length_nil]at h1 h2 h3 h4;refine⟨fun h=>?_,fun h=>h2 (by simp only[List.length_cons]at h;omega),oQ,oQ,oQ⟩;simp only[List.length_cons]at h;obtain⟨rfl,e⟩:=h1 oQ;refine⟨sJ,?_⟩;show d'=max d (o+(X.2+1));omega
theorem NoR.br {X:List Tk×Int}{L L':List Tk}{o d d':Int}{m m':Nat}(h:NoR X (L++[mkT 3]) (o+1) (max d (o+1)) m L' d')(hx:0≤X.2)(hm:m+2≤m'):NoR (brT true X) L o d m' (L'++[mkT 4]) d':=by
 obtain⟨h1,h2,h3,h4,h5⟩:=h;have e1:(brT true X).1=mkT 3::(X.1++[mkT 4]):=rfl;have e2:(brT true X).2=X.2+1:=rfl;simp only[zH,List.length_cons,List.length_nil]at h1 h2 h3 h4;refine⟨fun h=>?_,fun h=>?_,?_,?_,oQ⟩
 ·rw[e1]at h;simp only[List.length_cons,zH,List.length_nil]at h;obtain⟨rfl,e⟩:=h1 oQ;rw[e1,e2];exact⟨sJ,oQ⟩
 ·rw[e1]at h;simp only[List.length_cons,zH,List.length_nil]at h ⊢;by_cases c:400<L.length+1+X.1.length
  ·have:=h2 oQ;omega
  ·obtain⟨rfl,e⟩:=h1 oQ;simp only[List.length_cons,zH,List.length_nil];omega
 ·simp only[zH,List.length_cons,List.length_nil];omega
 ·simp only[zH,List.length_cons,List.length_nil];omega
theorem NoR.bi {X Y:List Tk×Int}{L L1 L':List Tk}{k:Tk}{o d d1 d':Int}{m m1 m':Nat}(h:NoR X L o d m L1 d1)(h':NoR Y (L1++[k]) o d1 m1 L' d')(hm:m+1+m1≤m'):NoR (X.1++k::Y.1,max X.2 Y.2) L o d m' L' d':=by
 obtain⟨a1,a2,a3,a4,a5⟩:=h;obtain⟨b1,b2,b3,b4,b5⟩:=h';simp only[zH,List.length_cons,List.length_nil]at b1 b2 b3 b4;refine⟨fun h=>?_,fun h=>?_,oQ,oQ,b5⟩
 ·simp only[zH,List.length_cons]at h;obtain⟨rfl,e⟩:=a1 oQ;rw[zH]at b1;obtain⟨rfl,e'⟩:=b1 oQ;refine⟨sJ,?_⟩;show d'=max d (o+max X.2 Y.2);omega
 ·simp only[zH,List.length_cons]at h;by_cases c:400<L.length+X.1.length
  ·have:=a2 c;omega
  ·obtain⟨rfl,e⟩:=a1 oQ;rw[zH]at b2;exact b2 oQ
def NoP (B g:Nat)(w:World)(X:List Tk×Int)(L:List Tk)(o d:Int)(m:Nat)(e:Ending)(w':World):Prop:=e=.returned (.tuple #[])∧∃v L' d',WR B g w' v L' o d'∧Below B w w'∧Kpb w w'∧NoR X L o d m L' d'
theorem NoP.mk {B g:Nat}{w w':World}{X:List Tk×Int}{L L':List Tk}{v:Value}{o o' d d':Int}{m:Nat}(h:WR B g w' v L' o' d')(ho:o'=o)(hb:Below B w w')(hk:Kpb w w')(hr:NoR X L o d m L' d'):NoP B g w X L o d m (.returned (.tuple #[])) w':=ho▸⟨rfl,v,L',d',ho▸h,hb,hk,ho▸hr⟩
def NoK (A:Option Addr)(c:Nat)(t:List Nd)(g:Nat)(w0:World)(rt:Nat)(least:Int)(X:List Tk×Int)(m:Nat):Prop:=
 ∀(w:World)(v:Value)(L:List Tk)(o d:Int),Bw w0 w→WR w0.heap.size g w v L o d→L.length+m≤100000→0≤o→o≤d→o+m≤100000→
  Calls Tryz.prog 122 #[.pointer (some ⟨g,0,none⟩),.slice A t.length c,.int .i64 rt,.int .i64 least] w (NoP w0.heap.size g w X L o d m)
theorem tl_src {W:World}{B n c:Nat}{A:Option Addr}{L:List Tk}{G:Nat→Prop}(h:OL W B NoF 201 4 (.slice A n c) L.length (L.flatMap tkD)):Src W A (L.flatMap tkD) G:=
 Rd.srcq (PlainL.flatMap tk_pl L) (h.rd (G:=fun _=>True) (fun _ h _=>h.elim) (fun _ _ _=>trivial))
theorem OL.num {W:World}{B e size n m c:Nat}{A:Option Addr}{F:Nat→Prop}{ds:List D}(h:OL W B F e size (.slice A n c) m ds):n=m:=by
 obtain⟨cells,h1,_⟩:=h;rcases h1.2 with⟨h,rfl⟩|⟨g,cap,cur,h,_⟩<;>injection h
theorem leafT_len (x:Nd):(leafT x).length≤6:=by unfold leafT;(repeat' split)<;>simp
namespace shW
open nmW
variable (A:Option Addr)(c:Nat)(F:Nat→Prop)(t:List Nd)(hl:t.length≤1048576)(g:Nat)(w0:World)(hT:ShT w0)(hF:∀b,F b→b<w0.heap.size)(r:Rd w0 F (.slice A t.length c) (.sl t.length (t.flatMap ndD)))
include hl hT hF r
theorem nodeLf_k {rt:Nat}{x:Nd}(hx:t[rt]? =some x)(hlf:isLf x.op=true){least:Int}(hle:least≤levO x.op){w:World}{v:Value}{L:List Tk}{o d:Int}{m:Nat}(hm:6≤m)(hfu:¬400<L.length)(hB:Bw w0 w)(hW:WR w0.heap.size g w v L o d)(hod:o≤d):
  Calls Tryz.prog 122 #[.pointer (some ⟨g,0,none⟩),.slice A t.length c,.int .i64 rt,.int .i64 least] w (NoP w0.heap.size g w (leafT x,0) L o d m):=by
 have kf:=full_k _ g v L o d w hW;rw[zV hfu]at kf;have hrt:=(zC.1 hx).1;obtain⟨b,off,rfl,hFb,z0,z1,z2,z3,z4,z5⟩:=nd_at (r.under hB hF) hx;have ho:=isLf_op hlf;have hB1:Bw w (w.alloc (.cells ⟨ndV x⟩ 96)):=bA;have kl:=level_k x.op (w.alloc (.cells ⟨ndV x⟩ 96)) oQ oQ ((hT.stay hB).stay hB1);have kv:=leaf_k x (w.alloc (.cells ⟨ndV x⟩ 96)) hlf;have ka:∀W' A' c',Below (w.alloc (.cells ⟨ndV x⟩ 96)).heap.size (w.alloc (.cells ⟨ndV x⟩ 96)) W'→OL W' w0.heap.size NoF 201 4 (.slice A' (leafT x).length c') (leafT x).length ((leafT x).flatMap tkD)→_:=fun W' A' c' h1 h2=>
  add_k w0.heap.size g v L (leafT x) o d A' c' W' ((hW.stay hB1).stay h1) (tl_src h2) (by have:=leafT_len x;omega)
 have g0:(0:Int)≤(rt:Int):=oQ;have g1:(rt:Int)<t.length:=oQ;have h12:x.op<12:=oQ;have hsz:=hW.size;have hll:=leafT_len x;obtain⟨lv,hlv⟩:∃l,l=levO x.op:=⟨_,rfl⟩
 rw[←hlv]at kl hle;have hc:¬lv<least:=oQ;obtain⟨N,hN⟩:∃N,N=leafT x:=⟨_,rfl⟩
 rw[←hN]at kv ka hll ⊢;replace hN:=Hd hN;replace hlv:=Hd hlv;obtain⟨op,n,s,at_,a,b'⟩:=x;simp only[ndV]at z0 z1 z2 z3 z4 z5 hB1 kl kv ka h12;replace kf:=Hd kf;replace kl:=Hd kl;replace kv:=Hd kv;replace ka:=Hd ka;replace hB1:=Hd hB1;replace hW:=Hd hW;replace hB:=Hd hB;clear hx hlf hle hT hF r ho hrt hFb;go_enter Tryz.func122,Tryz.ntmps122;go_wp2_with (first
  |(go_at_call 159;refine kf.out.mono ?_;rintro e W ⟨rfl,hx⟩;subst hx)
  |(go_at_call 160;refine kl.out.mono ?_;rintro e W ⟨rfl,hx⟩;subst W)
  |(go_at_call 165;refine kv.out.mono ?_;rintro e W1 ⟨v1,rfl,hO1,hX1⟩;obtain⟨A1,c1,rfl⟩:=hO1.form;have ka1:=Hd (ka.out W1 A1 c1 hX1 (hO1.base (zU hsz hB1.out.size)));replace hO1:=Hd hO1;replace hX1:=Hd hX1)
  |(go_at_call 164;refine ka1.out.mono ?_;rintro e W2 ⟨rfl,v2,h2,hb2,hk2⟩;replace h2:=Hd h2;replace hb2:=Hd hb2;replace hk2:=Hd hk2))
 first|refine bodyPost_ret (results_none rfl _ _ _) rfl ?_ |refine bodyPost_end (results_none rfl _ _ _) rfl ?_
 exact NoP.mk h2.out rfl ((hB1.out.mono hsz).trans ((hX1.out.mono (zU hsz hB1.out.size)).trans hb2.out)) (((Kpb.of hB1.out).trans (Kpb.of hX1.out)).trans hk2.out) (NoR.lf oQ hod)
theorem nodeUn_k {rt j:Nat}{x:Nd}(hx:t[rt]? =some x)(hun:isUn x.op=true)(hxa:x.a=(j:Int)){least:Int}(hle:least≤levO x.op){X:List Tk×Int}(hX:0≤X.2){m1 m:Nat}(hm:m1+1≤m)(hk:NoK A c t g w0 j (levO x.op) X m1)
  {w:World}{v:Value}{L:List Tk}{o d:Int}(hfu:¬400<L.length)(hB:Bw w0 w)(hW:WR w0.heap.size g w v L o d)(hL:L.length+m≤100000)(ho0:0≤o)(hod:o≤d)(hom:o+m≤100000):
  Calls Tryz.prog 122 #[.pointer (some ⟨g,0,none⟩),.slice A t.length c,.int .i64 rt,.int .i64 least] w (NoP w0.heap.size g w (mkT (sgK x.op)::X.1,X.2+1) L o d m):=by
 have kf:=full_k _ g v L o d w hW;rw[zV hfu]at kf;have hrt:=(zC.1 hx).1;obtain⟨b,off,rfl,hFb,z0,z1,z2,z3,z4,z5⟩:=nd_at (r.under hB hF) hx;have ho:=isUn_op hun;have hB1:Bw w (w.alloc (.cells ⟨ndV x⟩ 96)):=bA;have hbx:Blk (w.alloc (.cells ⟨ndV x⟩ 96)) w.heap.size 96 (ndV x):=Blk.new _ _ _;have hWA:=hW.stay hB1;have hTA:=(hT.stay hB).stay hB1;have kl:∀W,ShT W→_:=fun W h=>level_k x.op W oQ oQ h
 have ke:∀W,Below (w.alloc (.cells ⟨ndV x⟩ 96)).heap.size (w.alloc (.cells ⟨ndV x⟩ 96)) W→_:=fun W h=>enter_k w0.heap.size g v L (mkT (sgK x.op)) o d W (hWA.stay h) oQ ho0 oQ
 obtain⟨k,hk1⟩:∃k:Nat,x.op=(k:Int)+12:=⟨(x.op-12).toNat,oQ⟩
 have hsg:=hTA.sg.2 k _ (sgn_at oQ);rw[←hk1]at hsg;have hsz:=hW.size;have hTT:=Hd (fun W (h:Bw w0 W)=>hT.stay h);have g0:(0:Int)≤(rt:Int):=oQ;have g1:(rt:Int)<t.length:=oQ;have h12:¬x.op<12:=oQ;have h14:x.op<14:=oQ;have g2:(0:Int)≤(k:Int):=oQ;have g3:(k:Int)<15:=oQ;have g4:(0:Int)≤(j:Int):=oQ;have hw1:IntKind.i64.wrap ((k:Int)+12-12)=k:=by rw[xI]<;>omega
 obtain⟨W0,hW0⟩:∃W0,W0=w.alloc (.cells ⟨ndV x⟩ 96):=⟨_,rfl⟩
 have hWW:=hW0;rw[←hW0]at hB1 hbx hWA hTA ke hsg;have hgl:=hTA.sg.1;obtain⟨lv,hlv⟩:∃l,l=levO x.op:=⟨_,rfl⟩
 rw[←hlv]at kl hle hk;have hc:¬lv<least:=oQ;obtain⟨sg,hsgk⟩:∃s,s=sgK x.op:=⟨_,rfl⟩
 rw[←hsgk]at hsg ke ⊢;replace hsgk:=Hd hsgk;replace hlv:=Hd hlv;obtain⟨op,n,s,at_,a,b'⟩:=x;simp only at hk1 hxa h12 h14;subst hk1 hxa;simp only[ndV]at z0 z1 z2 z3 z4 z5 hbx kl hWW hW0;replace hbx:=Hd hbx;have y0:=hbx.out.cell 0;have y4:=hbx.out.cell 4;simp only[zY,xA]at y0 y4;unfold iV at hsg;replace kf:=Hd kf;replace kl:=Hd kl;replace ke:=Hd ke;replace hk:=Hd hk;replace hB1:=Hd hB1;replace hW:=Hd hW;replace hWA:=Hd hWA;replace hTA:=Hd hTA;replace hB:=Hd hB;replace hWW:=Hd hWW;clear hx hun hle hT hF r ho hrt hFb;have hX':=Hd hX;have hL':=Hd hL;have hom':=Hd hom;have hm':=Hd hm;clear hX hL hom hm;go_enter Tryz.func122,Tryz.ntmps122;go_upto_region 2 with(go_at_call 159;refine kf.out.mono ?_;rintro e W ⟨rfl,hx⟩;subst W)
 rw[←hW0];clear hW0;go_upto_region 17 with(first
  |(go_at_call 160;refine(kl.out _ hTA.out).mono ?_;rintro e W ⟨rfl,hx⟩;subst W)
  |(go_at_call 162;refine(mark_k _ _).mono ?_;rintro e W1 ⟨rfl,hX1⟩;have ke1:=Hd (ke.out W1 hX1);replace hX1:=Hd hX1)
  |(go_at_call 161;refine ke1.out.mono ?_;rintro e W2 ⟨rfl,v2,h2,hb2,hk2⟩;replace h2:=Hd h2;replace hb2:=Hd hb2;replace hk2:=Hd hk2))
 have hB2:Bw w0 W2:=(hB.out.trans (hB1.out.mono hsz)).trans ((hX1.out.mono (zU hsz hB1.out.size)).trans hb2.out);have hK2:Kpb w W2:=((Kpb.of hB1.out).trans (Kpb.of hX1.out)).trans hk2.out;have hb2x:=hk2.out _ _ _ dQ dQ (hbx.out.stay hX1.out);have hT2:=hTT.out W2 hB2;have h2l:(L++[mkT sg]).length=L.length+1:=sJ;have kn:∀W,Bw W2 W→_:=fun W h=>hk.out W v2 (L++[mkT sg]) (o+1) (max d (o+1)) (hB2.trans (h.mono h2.out.size)) (h2.out.stay h) (by rw[h2l];have:=hL'.out;have:=hm'.out;omega) oQ oQ (by have:=hom'.out;have:=hm'.out;omega)
 clear y0 y4;have y0:=hb2x.cell 0;have y4:=hb2x.cell 4;simp only[zY,xA]at y0 y4;replace hB2:=Hd hB2;replace hK2:=Hd hK2;replace hb2x:=Hd hb2x;replace hT2:=Hd hT2;replace kn:=Hd kn;replace h2l:=Hd h2l;clear hsg hgl hk hk2 ke1 ke;go_region_law (first
  |(go_simp;go_at_call 160;refine(kl.out _ (by first|exact hT2.out |exact hT2.out.stay ((bR).drew))).mono ?_;rintro e W ⟨rfl,hx⟩;subst W)
  |(go_simp;go_at_call 122;refine(kn.out _ (by first|exact bR |exact(bR).drew)).mono ?_;rintro e W3 ⟨rfl,v3,L3,d3,h3,hb3,hk3,hr3⟩;replace h3:=Hd h3;replace hb3:=Hd ((zB w0.heap.size W2).drew.trans hb3);replace hk3:=Hd ((Kpb.of ((zB W2.heap.size W2).drew)).trans hk3);replace hr3:=Hd hr3))
 all_goals
  have klv:=Hd (leave_k w0.heap.size g v3 L3 [] (o+1) d3 none 0 W3 h3.out (fun h=>absurd rfl h) (by have:=hr3.out.up;have:=hL'.out;have:=hm'.out;have:=h2l.out;simp only[List.length_nil];omega) oQ (by have:=hom'.out;omega));simp only[List.length_nil]at klv;clear y0 y4;go_wp2_with (go_at_call 163;refine klv.out.mono ?_;rintro e W4 ⟨rfl,v4,h4,hb4,hk4⟩;replace h4:=Hd h4;replace hb4:=Hd hb4;replace hk4:=Hd hk4);first|refine bodyPost_ret (results_none rfl _ _ _) rfl ?_ |refine bodyPost_end (results_none rfl _ _ _) rfl ?_
  exact NoP.mk h4.out oQ (((hB1.out.mono hsz).trans (hX1.out.mono (zU hsz hB1.out.size))).trans (hb2.out.trans (hb3.out.trans hb4.out))) (hK2.out.trans (hk3.out.trans hk4.out)) (NoR.un hr3.out hX'.out hm'.out)
theorem nodeBi_k {rt i j:Nat}{x:Nd}(hx:t[rt]? =some x)(hbi:isBi x.op=true)(hxa:x.a=(i:Int))(hxb:x.b=(j:Int)){least:Int}(hle:least≤levO x.op){X Y:List Tk×Int}{m1 m2 m:Nat}(hm:m1+1+m2≤m)(hkA:NoK A c t g w0 i (lfL x.op) X m1)(hkB:NoK A c t g w0 j (levO x.op+1) Y m2)
  {w:World}{v:Value}{L:List Tk}{o d:Int}(hfu:¬400<L.length)(hB:Bw w0 w)(hW:WR w0.heap.size g w v L o d)(hL:L.length+m≤100000)(ho0:0≤o)(hod:o≤d)(hom:o+m≤100000):
  Calls Tryz.prog 122 #[.pointer (some ⟨g,0,none⟩),.slice A t.length c,.int .i64 rt,.int .i64 least] w (NoP w0.heap.size g w (X.1++mkT (sgK x.op)::Y.1,max X.2 Y.2) L o d m):=by
 have kf:=full_k _ g v L o d w hW;rw[zV hfu]at kf;have hrt:=(zC.1 hx).1;obtain⟨b,off,rfl,hFb,z0,z1,z2,z3,z4,z5⟩:=nd_at (r.under hB hF) hx;have ho:=isBi_op hbi;have hB1:Bw w (w.alloc (.cells ⟨ndV x⟩ 96)):=bA;have hbx:Blk (w.alloc (.cells ⟨ndV x⟩ 96)) w.heap.size 96 (ndV x):=Blk.new _ _ _;have hWA:=hW.stay hB1;have hTA:=(hT.stay hB).stay hB1;have kl:∀W,ShT W→_:=fun W h=>level_k x.op W oQ oQ h
 obtain⟨k,hk1⟩:∃k:Nat,x.op=(k:Int)+12:=⟨(x.op-12).toNat,oQ⟩
 have hTT:=Hd (fun W (h:Bw w0 W)=>hT.stay h);have hsg:∀W,ShT W→W.cell? ⟨4,k,none⟩=some (iV (sgK x.op)):=fun W h=>by
  have:=h.sg.2 k _ (sgn_at oQ);rwa [←hk1]at this
 have hsz:=hW.size;have g0:(0:Int)≤(rt:Int):=oQ;have g1:(rt:Int)<t.length:=oQ;have h12:¬x.op<12:=oQ;have h14:¬x.op<14:=oQ;have g2:(0:Int)≤(k:Int):=oQ;have g3:(k:Int)<15:=oQ;have g4:(0:Int)≤(j:Int):=oQ;have g5:(0:Int)≤(i:Int):=oQ;have hw1:IntKind.i64.wrap ((k:Int)+12-12)=k:=by rw[xI]<;>omega
 obtain⟨W0,hW0⟩:∃W0,W0=w.alloc (.cells ⟨ndV x⟩ 96):=⟨_,rfl⟩
 have hWW:=hW0;rw[←hW0]at hB1 hbx hWA hTA;obtain⟨lv,hlv⟩:∃l,l=levO x.op:=⟨_,rfl⟩
 obtain⟨lf,hlf⟩:∃l,l=lfL x.op:=⟨_,rfl⟩
 obtain⟨rg,hrg⟩:∃l,l=levO x.op+1:=⟨_,rfl⟩
 have hcs:(lv=4∧lf=5∧rg=5)∨(lv≠4∧lf=lv∧IntKind.i64.wrap (lv+1)=rg):=by
  rw[hlf,hrg,hlv];unfold lfL;by_cases c4:levO x.op=4
  ·rw[if_pos c4,c4];exact .inl ⟨rfl,rfl,rfl⟩
  ·rw[if_neg c4];refine .inr ⟨c4,rfl,?_⟩;have:0≤levO x.op∧levO x.op≤8:=by unfold levO;(repeat' split)<;>omega
   rw[xI]<;>omega
 rw[←hlv]at kl hle;rw[←hlf]at hkA;rw[←hrg]at hkB;have hc:¬lv<least:=oQ;obtain⟨sg,hsgk⟩:∃s,s=sgK x.op:=⟨_,rfl⟩
 rw[←hsgk]at hsg ⊢;replace hsgk:=Hd hsgk;replace hlv:=Hd hlv;replace hlf:=Hd hlf;replace hrg:=Hd hrg;obtain⟨op,n,s,at_,a,b'⟩:=x;simp only at hk1 hxa hxb h12 h14;subst hk1 hxa hxb;simp only[ndV]at z0 z1 z2 z3 z4 z5 hbx kl hWW hW0;replace hbx:=Hd hbx;have y0:=hbx.out.cell 0;have y4:=hbx.out.cell 4;simp only[zY,xA]at y0 y4;unfold iV at hsg;have hBn:=Hd (hB.trans (hB1.mono hsz));have kn:=Hd (hkA W0 v L o d hBn.out hWA oQ ho0 hod oQ);replace kf:=Hd kf;replace kl:=Hd kl;replace hkB:=Hd hkB;replace hB1:=Hd hB1;replace hW:=Hd hW;replace hWA:=Hd hWA;replace hTA:=Hd hTA;replace hB:=Hd hB;replace hWW:=Hd hWW;replace hsg:=Hd hsg;clear hx hbi hle hT hF r ho hrt hFb hkA;have hL':=Hd hL;have hom':=Hd hom;have hm':=Hd hm;clear hL hom hm;rcases hcs with⟨rfl,rfl,rfl⟩|⟨c4,rfl,hw2⟩
 all_goals
  go_enter Tryz.func122,Tryz.ntmps122;go_upto_region 2 with(go_at_call 159;refine kf.out.mono ?_;rintro e W ⟨rfl,hx⟩;subst W)
  rw[←hW0];clear hW0;go_upto_region 11 with(first
   |(go_at_call 160;refine(kl.out _ hTA.out).mono ?_;rintro e W ⟨rfl,hx⟩;subst W)
   |(go_at_call 122;refine kn.out.mono ?_;rintro e W3 ⟨rfl,v3,L3,d3,h3,hb3,hk3,hr3⟩;replace h3:=Hd h3;replace hb3:=Hd hb3;replace hk3:=Hd hk3;replace hr3:=Hd hr3))
  have hB3:Bw w0 W3:=hBn.out.trans hb3.out;have hb3x:=hk3.out _ _ _ dQ dQ hbx.out;have hT3:=hTT.out W3 hB3;have hsg3:=hsg.out W3 hT3;have hgl3:=hT3.sg.1;have hsz3:=h3.out.size;have hl3:=hr3.out.up;have kd:∀W4,Bw W3 W4→_:=fun W4 h=>add_k w0.heap.size g v3 L3 [mkT sg] o d3 (some ⟨W4.heap.size,0,none⟩) 1 (W4.alloc (.cells ⟨tkV (mkT sg)⟩ 201)) (h3.out.stay (h.alloc h.size _)) (Src.at1 (w:=W4) rfl (rdlTk (mkT sg))) (by have:=hL'.out;have:=hm'.out;simp only[List.length_cons,List.length_nil];omega)
  clear y0 y4;have y0:=hb3x.cell 0;have y5:=hb3x.cell 5;simp only[zY,xA]at y0 y5;simp only[tkV,mkT,List.length_cons,List.length_nil,Nat.zero_add]at kd;replace hb3x:=Hd hb3x;replace hB3:=Hd hB3;replace hT3:=Hd hT3;replace kd:=Hd kd;replace hl3:=Hd hl3;clear kn hsg;go_upto_region 12 with(first
   |(go_at_call 162;refine(mark_k _ _).mono ?_;rintro e W4 ⟨rfl,hX4⟩;have kd1:=Hd (kd.out W4 hX4);replace hX4:=Hd hX4;simp only[tkV,mkT])
   |(go_at_call 164;refine kd1.out.mono ?_;rintro e W5 ⟨rfl,v5,h5,hb5,hk5⟩;replace h5:=Hd h5;replace hb5:=Hd hb5;replace hk5:=Hd hk5))
  have hX5:Bw W3 (W4.alloc (.cells ⟨tkV (mkT sg)⟩ 201)):=hX4.out.alloc hX4.out.size _;have hB5:Bw w0 W5:=(hB3.out.trans (hX5.mono hsz3)).trans hb5.out;have hb5x:=hk5.out _ _ _ dQ dQ (hb3x.out.stay hX5);have kn2:=hkB.out W5 v5 (L3++[mkT sg]) o d3 hB5 h5.out (by have:=hL'.out;have:=hm'.out;have:=hl3.out;rw[zH];simp only[List.length_cons,List.length_nil];omega) ho0 hr3.out.dp (by have:=hom'.out;have:=hm'.out;omega);clear y0 y5 hsg3;have y5:=hb5x.cell 5;simp only[zY,xA]at y5;replace hX5:=Hd hX5;replace hB5:=Hd hB5;replace hb5x:=Hd hb5x;replace kn2:=Hd kn2;go_wp2_with (go_at_call 122;refine kn2.out.mono ?_;rintro e W6 ⟨rfl,v6,L6,d6,h6,hb6,hk6,hr6⟩;replace h6:=Hd h6;replace hb6:=Hd hb6;replace hk6:=Hd hk6;replace hr6:=Hd hr6);first|refine bodyPost_ret (results_none rfl _ _ _) rfl ?_ |refine bodyPost_end (results_none rfl _ _ _) rfl ?_
  exact NoP.mk h6.out rfl ((hB1.out.mono hsz).trans (hb3.out.trans ((hX5.out.mono hsz3).trans (hb5.out.trans hb6.out)))) ((Kpb.of hB1.out).trans (hk3.out.trans ((Kpb.of hX5.out).trans (hk5.out.trans hk6.out)))) (NoR.bi hr3.out hr6.out hm'.out)
theorem nodeFull_k (rt:Nat)(least:Int){X:List Tk×Int}{m:Nat}{w:World}{v:Value}{L:List Tk}{o d:Int}(hfu:400<L.length)(hW:WR w0.heap.size g w v L o d)(hod:o≤d):
  Calls Tryz.prog 122 #[.pointer (some ⟨g,0,none⟩),.slice A t.length c,.int .i64 rt,.int .i64 least] w (NoP w0.heap.size g w X L o d m):=by
 have kf:=full_k _ g v L o d w hW;rw[zW hfu]at kf;replace kf:=Hd kf;replace hW:=Hd hW;clear hT hF r;go_enter Tryz.func122,Tryz.ntmps122;go_wp2_with (go_at_call 159;refine kf.out.mono ?_;rintro e W ⟨rfl,hx⟩;subst W);first|refine bodyPost_ret (results_none rfl _ _ _) rfl ?_ |refine bodyPost_end (results_none rfl _ _ _) rfl ?_
 exact NoP.mk hW.out rfl bR (Kpb.of bR) (NoR.full hfu hod)
theorem nodeBr_k {rt:Nat}{x:Nd}(hx:t[rt]? =some x)(h1:1≤x.op)(h26:x.op≤26){least:Int}(hle:levO x.op<least){X:List Tk×Int}(hX:0≤X.2){m1 m:Nat}(hm:m1+2≤m)(hk:NoK A c t g w0 rt 0 X m1)
  {w:World}{v:Value}{L:List Tk}{o d:Int}(hfu:¬400<L.length)(hB:Bw w0 w)(hW:WR w0.heap.size g w v L o d)(hL:L.length+m≤100000)(ho0:0≤o)(hod:o≤d)(hom:o+m≤100000):
  Calls Tryz.prog 122 #[.pointer (some ⟨g,0,none⟩),.slice A t.length c,.int .i64 rt,.int .i64 least] w (NoP w0.heap.size g w (brT true X) L o d m):=by
 have kf:=full_k _ g v L o d w hW;rw[zV hfu]at kf;have hrt:=(zC.1 hx).1;obtain⟨b,off,rfl,hFb,z0,z1,z2,z3,z4,z5⟩:=nd_at (r.under hB hF) hx;have hB1:Bw w (w.alloc (.cells ⟨ndV x⟩ 96)):=bA;have hWA:=hW.stay hB1;have kl:=level_k x.op (w.alloc (.cells ⟨ndV x⟩ 96)) h1 h26 ((hT.stay hB).stay hB1);have ke:∀W,Below (w.alloc (.cells ⟨ndV x⟩ 96)).heap.size (w.alloc (.cells ⟨ndV x⟩ 96)) W→_:=fun W h=>enter_k w0.heap.size g v L (mkT 3) o d W (hWA.stay h) oQ ho0 oQ
 have hsz:=hW.size;have g0:(0:Int)≤(rt:Int):=oQ;have g1:(rt:Int)<t.length:=oQ;obtain⟨lv,hlv⟩:∃l,l=levO x.op:=⟨_,rfl⟩
 rw[←hlv]at kl hle;replace hlv:=Hd hlv;obtain⟨op,n,s,at_,a,b'⟩:=x;simp only[ndV]at z0 z1 z2 z3 z4 z5 kl hB1 ke hWA;replace kf:=Hd kf;replace kl:=Hd kl;replace ke:=Hd ke;replace hk:=Hd hk;replace hB1:=Hd hB1;replace hW:=Hd hW;replace hWA:=Hd hWA;replace hB:=Hd hB;clear hx hT hF r hrt hFb h1 h26;have hX':=Hd hX;have hL':=Hd hL;have hom':=Hd hom;have hm':=Hd hm;have hsz':=Hd hsz;clear hX hL hom hm hsz;go_enter Tryz.func122,Tryz.ntmps122;go_upto_region 4 with(first
  |(go_at_call 159;refine kf.out.mono ?_;rintro e W ⟨rfl,hx⟩;subst W)
  |(go_at_call 160;refine kl.out.mono ?_;rintro e W ⟨rfl,hx⟩;subst W)
  |(go_at_call 162;refine(mark_k _ _).mono ?_;rintro e W1 ⟨rfl,hX1⟩;have ke1:=Hd (ke.out W1 hX1);replace hX1:=Hd hX1)
  |(go_at_call 161;refine ke1.out.mono ?_;rintro e W2 ⟨rfl,v2,h2,hb2,hk2⟩;replace h2:=Hd h2;replace hb2:=Hd hb2;replace hk2:=Hd hk2))
 have hBa:Below w0.heap.size w W2:=(hB1.out.mono hsz'.out).trans ((hX1.out.mono (zU hsz'.out hB1.out.size)).trans hb2.out);have hKa:Kpb w W2:=(Kpb.of hB1.out).trans ((Kpb.of hX1.out).trans hk2.out);have kn:=Hd (hk.out W2 v2 (L++[mkT 3]) (o+1) (max d (o+1)) (hB.out.trans hBa) h2.out (by have:=hL'.out;have:=hm'.out;rw[zH];simp only[List.length_cons,List.length_nil];omega) oQ oQ (by have:=hom'.out;have:=hm'.out;omega));replace hBa:=Hd hBa;replace hKa:=Hd hKa;clear z0 z1 z2 z3 z4 z5;go_upto_region 5 with(go_at_call 122;refine kn.out.mono ?_;rintro e W3 ⟨rfl,v3,L3,d3,h3,hb3,hk3,hr3⟩;replace h3:=Hd h3;replace hb3:=Hd hb3;replace hk3:=Hd hk3;replace hr3:=Hd hr3)
 have kd:∀W4,Bw W3 W4→_:=fun W4 h=>leave_k w0.heap.size g v3 L3 [mkT 4] (o+1) d3 (some ⟨W4.heap.size,0,none⟩) 1 (W4.alloc (.cells ⟨tkV (mkT 4)⟩ 201)) (h3.out.stay (h.alloc h.size _)) (Src.at1 (w:=W4) rfl (rdlTk (mkT 4))) (by have:=hL'.out;have:=hm'.out;have:=hr3.out.up;rw[zH]at this;simp only[List.length_cons,List.length_nil]at this ⊢;omega) oQ (by have:=hom'.out;omega)
 simp only[tkV,mkT,List.length_cons,List.length_nil,Nat.zero_add]at kd;replace kd:=Hd kd;go_wp2_with (first
  |(go_at_call 162;refine(mark_k _ _).mono ?_;rintro e W4 ⟨rfl,hX4⟩;have kd1:=Hd (kd.out W4 hX4);replace hX4:=Hd hX4;simp only[tkV,mkT])
  |(go_at_call 163;refine kd1.out.mono ?_;rintro e W5 ⟨rfl,v5,h5,hb5,hk5⟩;replace h5:=Hd h5;replace hb5:=Hd hb5;replace hk5:=Hd hk5))
 have hX5:Bw W3 (W4.alloc (.cells ⟨tkV (mkT 4)⟩ 201)):=hX4.out.alloc hX4.out.size _;first|refine bodyPost_ret (results_none rfl _ _ _) rfl ?_ |refine bodyPost_end (results_none rfl _ _ _) rfl ?_
 exact NoP.mk h5.out oQ (hBa.out.trans (hb3.out.trans ((hX5.mono h3.out.size).trans hb5.out))) (hKa.out.trans (hk3.out.trans ((Kpb.of hX5).trans hk5.out))) (NoR.br hr3.out hX'.out hm'.out)
theorem node_k:∀(n b rt:Nat),rt<n→Sp t b rt→∀least:Int,NoK A c t g w0 rt least (brT (decide (levO (opAt t rt)<least)) (tkW t rt)) (8*(rt+1-b)):=by
 intro n;induction n with
 |zero=>intro b rt h;omega
 |succ n ih=>
  intro b rt hn hsp;have hle:=hsp.le;have hlt:=hsp.lt;obtain⟨x,hx,hcs⟩:=hsp.inv;have hop:opAt t rt=x.op:=opAt_of hx;have h126:1≤x.op∧x.op≤26:=by
   rcases hcs with⟨h,_⟩|⟨_,h,_⟩|⟨_,_,h,_⟩
   ·have:=isLf_op h;omega
   ·have:=isUn_op h;omega
   ·have:=isBi_op h;omega
  have bare:∀least:Int,least≤levO x.op→NoK A c t g w0 rt least (tkW t rt) (8*(rt+1-b) -2):=by
   intro least hl2 w v L o d hB hW hL ho0 hod hom;by_cases hfu:400<L.length
   ·exact nodeFull_k A c F t hl g w0 hT hF r rt least hfu hW hod
   rcases hcs with⟨hlf,ha,hb,he⟩|⟨j,hun,ha,hb,hs,he⟩|⟨i,j,hbi,ha,hb,hs1,hs2,he⟩
   ·have e:tkW t rt=(leafT x,0):=(by unfold tkW;exact tkF_lf hx hlf rt);rw[e];exact nodeLf_k A c F t hl g w0 hT hF r hx hlf hl2 oQ hfu hB hW hod
   ·have hj:=hs.le;have e:tkW t rt=(mkT (sgK x.op)::(brT (decide (levO (opAt t j)<levO x.op)) (tkW t j)).1,(brT (decide (levO (opAt t j)<levO x.op)) (tkW t j)).2+1):=by
     show tkF t (rt+1) rt=_
     rw[tkF_un hx hun ha,tkW_eq hs oQ]
    rw[e];refine nodeUn_k A c F t hl g w0 hT hF r hx hun ha hl2 ?_ (m1:=8*(j+1-b)) oQ (ih b j oQ hs _) hfu hB hW hL ho0 hod hom;have:=tkW_nn t j;unfold brT;split
    ·show 0≤_+1;omega
    ·exact this
   ·have h1:=hs1.le;have h2:=hs2.le;have e:tkW t rt=((brT (decide (levO (opAt t i)<lfL x.op)) (tkW t i)).1++mkT (sgK x.op)::(brT (decide (levO (opAt t j)<levO x.op+1)) (tkW t j)).1,max (brT (decide (levO (opAt t i)<lfL x.op)) (tkW t i)).2 (brT (decide (levO (opAt t j)<levO x.op+1)) (tkW t j)).2):=by
     show tkF t (rt+1) rt=_
     rw[tkF_bi hx hbi ha hb,tkW_eq hs1 oQ,tkW_eq hs2 oQ]
    rw[e];exact nodeBi_k A c F t hl g w0 hT hF r hx hbi ha hb hl2 (m1:=8*(i+1-b)) (m2:=8*(j+1- (i+1))) oQ (ih b i oQ hs1 _) (ih (i+1) j oQ hs2 _) hfu hB hW hL ho0 hod hom
  intro least;rw[hop];by_cases c1:levO x.op<least
  ·rw[zW c1];intro w v L o d hB hW hL ho0 hod hom;by_cases hfu:400<L.length
   ·exact nodeFull_k A c F t hl g w0 hT hF r rt least hfu hW hod
   exact nodeBr_k A c F t hl g w0 hT hF r hx h126.1 h126.2 c1 (tkW_nn t rt) oQ (bare 0 (by have:=levO_pos x.op;omega)) hfu hB hW hL ho0 hod hom
  ·rw[zV c1];intro w v L o d hB hW hL ho0 hod hom;refine(bare least oQ w v L o d hB hW oQ ho0 hod oQ).mono ?_;rintro e w' ⟨h1,v',L',d',h2,h3,h4,h5⟩;exact⟨h1,v',L',d',h2,h3,h4,h5.mono oQ⟩
end shW
end Go.Proofs.YthaabihjeomipaaGreatDoor
