/- What package show writes. -/
import Derived.Test.YthaabihjeomipaaGreatDoorQC3
import Derived.Deep.RegionHeld
import Derived.RegionTactic
import Derived.Deep.DeepAppendRoom
namespace Go.Proofs.YthaabihjeomipaaGreatDoor
set_option maxRecDepth 100000
set_option maxHeartbeats 16000000
open Go.RowKit Go.Deep
set_option linter.unusedVariables false
set_option linter.unusedSimpArgs false
def TabI (g:Nat)(l:List Value)(w:World):Prop:=g<w.heap.size∧∀(i:Nat) v,l[i]? =some v→w.cell? ⟨g,i,none⟩=some v
theorem TabI.below {g B:Nat}{l:List Value}{w w':World}(h:TabI g l w)(hb:Below B w w')(hB:g<B):TabI g l w':=by
 refine⟨?_,fun i k hk=>?_⟩
 ·have:=hb.size;have:=h.1;exact zF h.1 hb.size
 ·rw[World.cell?_of_block (w:=w) (hb.block _ hB)];exact h.2 i k hk
theorem TabI.stay {g:Nat}{l:List Value}{w w':World}(h:TabI g l w)(hb:Bw w w'):TabI g l w':=h.below hb h.1
def iV (n:Int):Value:=.int .i64 n
def levL:List Int:=[7,3,5,5,6,6,6,4,4,4,4,4,4,2,1]
structure ShT (w:World):Prop where
 lv:TabI 8 (levL.map iV) w
 sg:TabI 4 (sgL.map iV) w
 sp:TabI 11 (spl.map Value.string) w
theorem ShT.stay {w w':World}(h:ShT w)(hb:Bw w w'):ShT w':=⟨h.lv.stay hb,h.sg.stay hb,h.sp.stay hb⟩
theorem lev_at {k:Nat}(h:k≤14):(levL.map iV)[k]? =some (iV (levO ((k:Int)+12))):=by
 have:k=0∨k=1∨k=2∨k=3∨k=4∨k=5∨k=6∨k=7∨k=8∨k=9∨k=10∨k=11∨k=12∨k=13∨k=14:=oQ;rcases this with h |h |h |h |h |h |h |h |h |h |h |h |h |h |h<;>subst h<;>rfl
theorem sgn_at {k:Nat}(h:k≤14):(sgL.map iV)[k]? =some (iV (sgK ((k:Int)+12))):=by
 have:k=0∨k=1∨k=2∨k=3∨k=4∨k=5∨k=6∨k=7∨k=8∨k=9∨k=10∨k=11∨k=12∨k=13∨k=14:=oQ;rcases this with h |h |h |h |h |h |h |h |h |h |h |h |h |h |h<;>subst h<;>rfl
def tkV (k:Tk):List Value:=[.int .i64 k.kd,.string k.tx,.int .i64 k.n,.int .i64 0]
def tkD (k:Tk):List D:=[.v (.int .i64 k.kd),.v (.string k.tx),.v (.int .i64 k.n),.v (.int .i64 0)]
theorem aggTk:AggT Tryz.prog 201 4:=⟨_,Tryz.underlying201,rfl,kQ⟩
theorem elTk:ElT Tryz.prog 163 201 4 40:=.of Tryz.underlying163 kQ oQ
theorem tk_pl (k:Tk):PlainL (tkD k):=by intro d h;simp[tkD]at h;rcases h with rfl |rfl |rfl |rfl<;>exact⟨_,rfl⟩
theorem tk_len (l:List Tk):(l.flatMap tkD).length=l.length*4:=fml (f:=tkD) (m:=4) (fun _=>rfl) _
theorem rdlTk {w:World}{G:Nat→Prop}(k:Tk):RdL w G (tkV k) (tkD k):=⟨.v _ rfl,.v _ rfl,.v _ rfl,.v _ rfl,trivial⟩
theorem Src.at1 {w:World}{G:Nat→Prop}{cs:List Value}{t g:Nat}{ds:List D}(hg:w.heap.size=g)(h:RdL w G cs ds):Src (w.alloc (.cells ⟨cs⟩ t)) (some ⟨g,0,none⟩) ds G:=hg▸Src.lit h
def Kpb (w w':World):Prop:=∀(k t:Nat)(cs:List Value),t≠201→t≠165→Blk w k t cs→Blk w' k t cs
theorem Kpb.of {w w':World}(hb:Bw w w'):Kpb w w':=fun _ _ _ _ _ h=>h.stay hb
theorem Kpb.trans {w w1 w2:World}(h:Kpb w w1)(h2:Kpb w1 w2):Kpb w w2:=fun k t cs a b x=>h2 k t cs a b (h k t cs a b x)
theorem blk_ne {w:World}{g k t t':Nat}{cs cs':List Value}(h:Blk w g t cs)(h':Blk w k t' cs')(hn:t'≠t):g≠k:=fun e=>by
 subst e;unfold Blk at h h';rw[h]at h';injection h' with e;injection e with _ e
 exact hn e.symm
theorem Kpb.set {w:World}{g:Nat}{cs:List Value}(h:Blk w g 165 cs)(j:Nat)(x:Value):Kpb w (w.setCell ⟨g,j,none⟩ x):=fun k t c _ b hx=>hx.far (blk_ne h hx b).symm _
structure WR (B g:Nat)(W:World)(v:Value)(L:List Tk)(o d:Int):Prop where
 bx:Blk W g 165 [v,.int .i64 o,.int .i64 d]
 ol:OL W B NoF 201 4 v L.length (L.flatMap tkD)
 lo:B≤g
section
variable {B g:Nat}{W W' w1:World}{v v':Value}{L N:List Tk}{o d:Int}
theorem WR.stay (h:WR B g W v L o d)(hb:Bw W W'):WR B g W' v L o d:=⟨h.bx.stay hb,h.ol.stay hb,h.lo⟩
theorem WR.size (h:WR B g W v L o d):B≤W.heap.size:=zU h.lo (Nat.le_of_lt h.bx.lt)
theorem WR.app (h:WR B g W v L o d)(hg:W.grownBy w1 v.ownBlock)(hO:OL w1 B NoF 201 4 v' (L.length+N.length) (L.flatMap tkD++N.flatMap tkD)):
  Blk w1 g 165 [v,.int .i64 o,.int .i64 d]∧WR B g (w1.setCell ⟨g,0,none⟩ v') v' (L++N) o d∧Below B W (w1.setCell ⟨g,0,none⟩ v')∧Kpb W (w1.setCell ⟨g,0,none⟩ v'):=by
 have h1:=h.bx.grown hg (fun e=>h.ol.neBlk h.bx dQ e.symm);have hbb:Below B W w1:=(zB B W).grown hg h.size (fun q hq=>(h.ol.lt q hq).1);refine⟨h1,⟨h1.set_ 0 _,?_,h.lo⟩,hbb.setCell (p:=⟨g,0,none⟩) h.lo _,Kpb.trans (fun k t cs a b x=>x.grown hg (fun e=>h.ol.neBlk x (fun e=>a e.symm) e.symm)) (Kpb.set h1 0 v')⟩;have:=hO.setCell (p:=⟨g,0,none⟩) (hO.neBlk h1 dQ) (fun h=>h) v';rw[zH,xD];exact this
theorem WR.setO (h:WR B g W v L o d)(o':Int):WR B g (W.setCell ⟨g,1,none⟩ (.int .i64 o')) v L o' d∧Below B W (W.setCell ⟨g,1,none⟩ (.int .i64 o'))∧Kpb W (W.setCell ⟨g,1,none⟩ (.int .i64 o')):=
 ⟨⟨h.bx.set_ 1 _,h.ol.setCell (p:=⟨g,1,none⟩) (h.ol.neBlk h.bx dQ) (fun h=>h) _,h.lo⟩,(zB B W).setCell (p:=⟨g,1,none⟩) h.lo _,Kpb.set h.bx 1 _⟩
theorem WR.setD (h:WR B g W v L o d)(d':Int):WR B g (W.setCell ⟨g,2,none⟩ (.int .i64 d')) v L o d'∧Below B W (W.setCell ⟨g,2,none⟩ (.int .i64 d'))∧Kpb W (W.setCell ⟨g,2,none⟩ (.int .i64 d')):=
 ⟨⟨h.bx.set_ 2 _,h.ol.setCell (p:=⟨g,2,none⟩) (h.ol.neBlk h.bx dQ) (fun h=>h) _,h.lo⟩,(zB B W).setCell (p:=⟨g,2,none⟩) h.lo _,Kpb.set h.bx 2 _⟩
end
def WrP (B g:Nat)(w:World)(L:List Tk)(o d:Int)(e:Ending)(w':World):Prop:=e=.returned (.tuple #[])∧∃v,WR B g w' v L o d∧Below B w w'∧Kpb w w'
theorem WrP.mk {B g:Nat}{w w':World}{v:Value}{L:List Tk}{o d:Int}(h:WR B g w' v L o d)(hb:Below B w w'∧Kpb w w'):WrP B g w L o d (.returned (.tuple #[])) w':=⟨rfl,v,h,hb⟩
def TkP (k:Tk)(w:World)(e:Ending)(w':World):Prop:=e=.returned (.agg ⟨tkV k⟩)∧Bw w w'
namespace shW
open nmW
theorem level_k (o:Int)(w:World)(h1:1≤o)(h2:o≤26)(hT:ShT w):
  Calls Tryz.prog 160 #[.int .i64 o] w fun e w'=>e=.returned (.int .i64 (levO o))∧w'=w:=by
 by_cases h:o<12
 ·have e:levO o=8:=by unfold levO;rw[if_pos h]
  rw[e];clear hT h1 h2;go_enter Tryz.func160,Tryz.ntmps160;go_wp2;go_ret;exact⟨rfl,rfl⟩
 ·obtain⟨k,hk⟩:∃k:Nat,o=(k:Int)+12:=⟨(o-12).toNat,oQ⟩
  have x:=hT.lv.2 k _ (lev_at oQ);subst hk;unfold iV at x;have hw:IntKind.i64.wrap ((k:Int)+12-12)=k:=by rw[xI]<;>omega
  have g0:(0:Int)≤(k:Int):=oQ;have g1:(k:Int)<15:=oQ;generalize levO ((k:Int)+12)=r at x ⊢;clear hT h1 h2;go_enter Tryz.func160,Tryz.ntmps160;go_wp2;go_ret;exact⟨rfl,rfl⟩
theorem full_k (B g:Nat)(v:Value)(L:List Tk)(o d:Int)(w:World)(h:WR B g w v L o d):
  Calls Tryz.prog 159 #[.pointer (some ⟨g,0,none⟩)] w fun e w'=>e=.returned (.bool (decide (400<L.length)))∧w'=w:=by
 obtain⟨A,c,rfl⟩:=h.ol.form;have x0:=h.bx.cell 0;have x1:=h.bx.cell 1;have x2:=h.bx.cell 2;simp only[zY,xA]at x0 x1 x2;clear h;go_enter Tryz.func159,Tryz.ntmps159;go_wp2;go_ret;exact⟨rtB (by rw[decide_eq_decide];omega),rfl⟩
theorem one_k (v:Value)(w:World):Calls Tryz.prog 178 #[v] w fun e w'=>e=.returned v∧w'=w:=by
 go_enter Tryz.func178,Tryz.ntmps178;go_wp2;go_ret;exact⟨rfl,rfl⟩
theorem mark_k (k:Int)(w:World):Calls Tryz.prog 162 #[.int .i64 k] w (TkP (mkT k) w):=by
 have hb:=Hd (Blk.new w 201 (tkV ⟨0,emp,0⟩));go_enter Tryz.func162,Tryz.ntmps162;go_wp2_with (refine at_op (.store 201 (.tmp 2) (.tmp 4)) rfl ?_;refine wsb rfl 201 (.tmp 2) (.tmp 4) rfl (cs':=tkV (mkT k)) hb.out aggTk rfl rfl rfl rfl ?_;intro w1 hz1 hg1);exact bpa rfl hz1 aggTk rfl rfl ⟨rfl,(bA).grown hg1 sJ (fun q hq=>by injection hq with hq;omega)⟩
theorem number_k (n:Int)(w:World):Calls Tryz.prog 179 #[.int .i64 n] w (TkP ⟨2,emp,n⟩ w):=by
 have hb:=Hd (Blk.new w 201 (tkV ⟨0,emp,0⟩));go_enter Tryz.func179,Tryz.ntmps179;go_wp2_with (refine at_op (.store 201 (.tmp 2) (.tmp 4)) rfl ?_;refine wsb rfl 201 (.tmp 2) (.tmp 4) rfl (cs':=tkV ⟨2,emp,n⟩) hb.out aggTk rfl rfl rfl rfl ?_;intro w1 hz1 hg1);exact bpa rfl hz1 aggTk rfl rfl ⟨rfl,(bA).grown hg1 sJ (fun q hq=>by injection hq with hq;omega)⟩
theorem name_k (s:ByteArray)(w:World):Calls Tryz.prog 180 #[.string s] w (TkP (nmT s) w):=by
 have hb:=Hd (Blk.new w 201 (tkV ⟨0,emp,0⟩));go_enter Tryz.func180,Tryz.ntmps180;go_wp2_with (refine at_op (.store 201 (.tmp 2) (.tmp 4)) rfl ?_;refine wsb rfl 201 (.tmp 2) (.tmp 4) rfl (cs':=tkV (nmT s)) hb.out aggTk rfl rfl rfl rfl ?_;intro w1 hz1 hg1);exact bpa rfl hz1 aggTk rfl rfl ⟨rfl,(bA).grown hg1 sJ (fun q hq=>by injection hq with hq;omega)⟩
theorem add_k (B g:Nat)(v:Value)(L N:List Tk)(o d:Int)(A:Option Addr)(c:Nat)(w:World)(h:WR B g w v L o d)(hs:Src w A (N.flatMap tkD) (fun b=>NoF b∧some b≠v.ownBlock))(hl:L.length+N.length≤1048576):
  Calls Tryz.prog 164 #[.pointer (some ⟨g,0,none⟩),.slice A N.length c] w (WrP B g w (L++N) o d):=by
 have x0:=h.bx.cell 0;have x1:=h.bx.cell 1;have x2:=h.bx.cell 2;have f0:=h.bx.frozen 0;simp only[zY,xA]at x0 x1 x2;have hsz:=h.size;replace h:=Hd h;replace hs:=Hd hs;go_enter Tryz.func164,Tryz.ntmps164;go_wp2_with (at_builtin;refine wpa rfl (.tmp 8) (.tmp 9) _ rfl (m:=N.length) (news:=N.flatMap tkD) elTk h.out.ol rfl rfl hs.out (tk_len N) oQ oQ hsz ?_;intro v' w1 hO1 hg1 ha1;obtain⟨q1,q2,q3⟩:=h.out.app hg1 hO1;have y0:=q1.cell 0;have fy:=q1.frozen 0;simp only[zY]at y0;clear x0 x1 x2 f0;obtain⟨A2,c2,rfl⟩:=hO1.form;replace q2:=Hd q2;replace q3:=Hd q3;clear hO1 hg1 ha1 q1);first|refine bodyPost_ret (results_none rfl _ _ _) rfl ?_ |refine bodyPost_end (results_none rfl _ _ _) rfl ?_
 exact .mk q2.out q3.out
theorem leave_k (B g:Nat)(v:Value)(L N:List Tk)(o d:Int)(A:Option Addr)(c:Nat)(w:World)(h:WR B g w v L o d)(hs:Src w A (N.flatMap tkD) (fun b=>NoF b∧some b≠v.ownBlock))(hl:L.length+N.length≤1048576)(ho:0≤o)(ho2:o≤1048576):
  Calls Tryz.prog 163 #[.pointer (some ⟨g,0,none⟩),.slice A N.length c] w (WrP B g w (L++N) (o-1) d):=by
 have k1:=Hd (add_k B g v L N o d A c w h hs hl);have hw:IntKind.i64.wrap (o-1)=o-1:=by rw[xI]<;>omega
 clear h hs;go_enter Tryz.func163,Tryz.ntmps163;go_wp2_with (go_at_call 164;refine k1.out.mono ?_;rintro e w1 ⟨rfl,v1,h1,hb1,hk1⟩;have x1:=h1.bx.cell 1;have f1:=h1.bx.frozen 1;simp only[zY,xA]at x1;replace h1:=Hd h1;replace hb1:=Hd hb1;replace hk1:=Hd hk1);obtain⟨q1,q2,qk⟩:=h1.out.setO (o-1);first|refine bodyPost_ret (results_none rfl _ _ _) rfl ?_ |refine bodyPost_end (results_none rfl _ _ _) rfl ?_
 exact .mk q1 ⟨hb1.out.trans q2,hk1.out.trans qk⟩
theorem enter_k (B g:Nat)(v:Value)(L:List Tk)(k:Tk)(o d:Int)(w:World)(h:WR B g w v L o d)(hl:L.length≤1048000)(ho:0≤o)(ho2:o≤1048576):
  Calls Tryz.prog 161 #[.pointer (some ⟨g,0,none⟩),.agg ⟨tkV k⟩] w (WrP B g w (L++[k]) (o+1) (max d (o+1))):=by
 have k1:=fun W A c (hW:Bw w W) hs=>add_k B g v L [k] o d A c W (h.stay hW) hs (by simp;omega)
 have hw:IntKind.i64.wrap (o+1)=o+1:=by rw[xI]<;>omega
 obtain⟨kd,tx,n⟩:=k;simp only[tkV]at k1 ⊢;have hW:Bw w ((w.alloc (.cells ⟨[.int .i64 kd,.string tx,.int .i64 n,.int .i64 0]⟩ 201)).alloc (.cells ⟨[.int .i64 kd,.string tx,.int .i64 n,.int .i64 0]⟩ 201)):=(bA).alloc sJ _;have hS:=Src.at1 (w:=w.alloc (.cells ⟨[.int .i64 kd,.string tx,.int .i64 n,.int .i64 0]⟩ 201)) (t:=201) (g:=w.heap.size+1) sJ (rdlTk (G:=fun b=>NoF b∧some b≠v.ownBlock) ⟨kd,tx,n⟩);have k2:=k1 _ _ 1 hW hS;simp only[List.length_cons,List.length_nil,Nat.zero_add]at k2;replace k2:=Hd k2;have hWB:=Hd (hW.mono h.size);have hWK:=Hd hW;clear h k1 hW hS;go_enter Tryz.func161,Tryz.ntmps161;go_upto_region 2 with((go_at_call 164;refine k2.out.mono ?_;rintro e w1 ⟨rfl,v1,h1,hb1,hk1⟩;have x1:=h1.bx.cell 1;have f1:=h1.bx.frozen 1;simp only[zY,xA]at x1;replace h1:=Hd h1;replace hb1:=Hd hb1;replace hk1:=Hd hk1))
 go_upto_region 3 with fail
 obtain⟨q1,q2,qk⟩:=h1.out.setO (o+1);obtain⟨W,hWe⟩:∃W,W=w1.setCell ⟨g,1,none⟩ (.int .i64 (o+1)):=⟨_,rfl⟩
 rw[←hWe]at q1 q2 qk ⊢;have y1:=q1.bx.cell 1;have y2:=q1.bx.cell 2;have f2:=q1.bx.frozen 2;simp only[zY,xA]at y1 y2;have q3:∀x,max d (o+1)=x→WrP B g w (L++[⟨kd,tx,n⟩]) (o+1) (max d (o+1)) (.returned (.tuple #[])) ((W.setCell ⟨g,2,none⟩ (.int .i64 x)).drew):=fun x hx=>by
  obtain⟨q3,q4,q5⟩:=q1.setD x;rw[hx];exact .mk (q3.stay ((bR).drew)) ⟨((hWB.out.trans hb1.out).trans (q2.trans q4)).drew,(((Kpb.of hWK.out).trans hk1.out).trans (qk.trans q5)).trans (Kpb.of ((bR).drew))⟩
 replace q3:=Hd q3;clear q1 q2 qk h1 hb1 hk1 x1 f1 hWe;go_region_law (fail)
 all_goals go_wp2
 all_goals(first|refine bodyPost_ret (results_none rfl _ _ _) rfl ?_ |refine bodyPost_end (results_none rfl _ _ _) rfl ?_)
 all_goals exact q3.out _ oQ
end shW
section
variable {P:Program}{ops:Array Oper}{Q:Exit→Act→World→Prop}{md:Region.Mode}{S:Array Bool→World→Prop}
def anyG (P:Program)(md:Region.Mode)(ops:Array Oper)(Q:Exit→Act→World→Prop)(S:Array Bool→World→Prop):Nat→Array Bool→Act→World→Prop
 |0,L,a,w=>Region.ready md ops L=[]∧Q .normal a w
 |n+1,L,a,w=>(Region.ready md ops L=[]→Q .normal a w)∧∀i∈Region.ready md ops L,wpOp P ops Q i (fun a' w'=>S (L.setIfInBounds i true) w'∧anyG P md ops Q S n (L.setIfInBounds i true) a' w') a w
theorem any_of_G:∀(n:Nat)(L:Array Bool)(a:Act)(w:World),anyG P md ops Q S n L a w→wpAny P md ops Q n L a w
 |0,_,_,_,h=>h
 |n+1,_,_,_,h=>⟨h.1,fun i hi=>wpOp_mono (fun a' w' h'=>any_of_G n _ a' w' h'.2) (h.2 i hi)⟩
theorem yi_imp {S1 S2:World→Prop}{o:Oper}{v:Value}{a:Act}(h:YieldsIf P ops S1 o v a)(hi:∀w,S2 w→S1 w):YieldsIf P ops S2 o v a:=by
 rcases h with⟨h1,h2⟩|h
 ·exact .inl ⟨h1,fun w hw=>h2 w (hi w hw)⟩
 ·exact .inr h
theorem G_first {i:Nat}{oi:Oper}{v:Value}{C:Array Bool→Prop}(hi:ops[i]? =some oi)(hsel:∀(j:Nat)(o:Oper) cs b,ops[j]? =some o→o.op≠ .select cs b)(hQ:∀c a w,Q (.panic c) (a.put oi.dst v) w→Q (.panic c) a w)
  (hC:∀(L:Array Bool)(j:Nat),C L→j≠i→L.getD i true=false→j∈Region.ready md ops L→C (L.setIfInBounds j true))(hSi:∀(L:Array Bool)(w:World),S (L.setIfInBounds i true) w→S L w):
  ∀(n:Nat)(L:Array Bool)(a:Act)(w:World),C L→(∀j oj,ops[j]? =some oj→j≠i→L.getD j true=false→(∀e∈oj.after,Region.binds md e=true→e.on≠i)→oi.apart ops oj=true)→i∈Region.ready md ops L→
   YieldsIf P ops (fun W=>∃L',C L'∧S L' W) oi v a→S L w→anyG P md ops Q S n (L.setIfInBounds i true) (a.put oi.dst v) w→S (L.setIfInBounds i true) w→anyG P md ops Q S (n+1) L a w:=by
 intro n;induction n with
 |zero=>
  intro L a w hCL _ hr hy hS H hS2;refine⟨(fun h=>by rw[h]at hr;cases hr),fun j hj=>?_⟩;by_cases hji:j=i
  ·subst hji;exact hy.wpOp hi ⟨L,hCL,hS⟩ ⟨hS2,H⟩
  ·have:=ready_mono hj hji;rw[H.1]at this;cases this
 |succ n ih=>
  intro L a w hCL hfree hr hy hS H hS2;refine⟨(fun h=>by rw[h]at hr;cases hr),fun j hj=>?_⟩;by_cases hji:j=i
  ·subst hji;exact hy.wpOp hi ⟨L,hCL,hS⟩ ⟨hS2,H⟩
  ·have hiL:=(mem_ready.1 hr).1;obtain⟨hjL,oj,hoj,hall⟩:=mem_ready.1 hj;have hnot:∀e∈oj.after,Region.binds md e=true→e.on≠i:=fun e he hb heq=>by
    have h1:=hall e he hb;rw[heq]at h1;rcases Nat.lt_or_ge i L.size with h' |h'
    ·simp[h']at hiL h1;rw[hiL]at h1;cases h1
    ·simp[Array.getElem?_eq_none h']at h1
   have h2:=wpOp_putIf hoj (hfree j oj hoj hji hjL hnot) (fun cs b=>hsel i oi cs b hi) (fun cs b=>hsel j oj cs b hoj) hQ hy (H.2 j (ready_mono hj hji));refine wpOp_mono (fun a' w' h3=>?_) h2;obtain⟨hy',hS3,hG3⟩:=h3;rw[Array.setIfInBounds_comm _ _ (Ne.symm hji)]at hS3 hG3;refine⟨hSi _ _ hS3,ih (L.setIfInBounds j true) a' w' (hC L j hCL hji hiL hj) (fun k ok hk hki hun hno=>?_) (ready_mono hr (Ne.symm hji)) hy' (hSi _ _ hS3) hG3 hS3⟩;refine hfree k ok hk hki ?_ hno;by_cases hjk:j=k
   ·subst hjk;exact hjL
   ·rw[getD_set_ne true hjk]at hun;exact hun
end
section
variable {P:Program}{ops:Array Oper}{Q:Exit→Act→World→Prop}{md:Region.Mode}{S0 S1:World→Prop}{p:Nat}
def SG (p:Nat)(S0 S1:World→Prop)(L:Array Bool)(w:World):Prop:=S0 w∧(L.getD p true=false→S1 w)
theorem SG.back {i:Nat}(hip:i≠p){L:Array Bool}{w:World}(h:SG p S0 S1 (L.setIfInBounds i true) w):SG p S0 S1 L w:=⟨h.1,fun hl=>h.2 (by rw[getD_set_ne true hip];exact hl)⟩
theorem SG.fwd {i:Nat}{L:Array Bool}{w:World}(hip:i≠p)(h:SG p S0 S1 L w):SG p S0 S1 (L.setIfInBounds i true) w:=⟨h.1,fun hl=>h.2 (by rw[getD_set_ne true hip]at hl;exact hl)⟩
theorem G_take0 {i:Nat}{oi:Oper}{v:Value}{n:Nat}{L:Array Bool}{a:Act}{w:World}(hi:ops[i]? =some oi)(hip:i≠p)(hs:Region.noSelect ops=true)(hf:Region.free md ops L i=true)(hr:(Region.ready md ops L).contains i=true)
  (hQ:∀c a w,Q (.panic c) (a.put oi.dst v) w→Q (.panic c) a w)(hS:S0 w∧S1 w)(hy:YieldsIf P ops S0 oi v a)(h:anyG P md ops Q (SG p S0 S1) n (L.setIfInBounds i true) (a.put oi.dst v) w):anyG P md ops Q (SG p S0 S1) (n+1) L a w:=
 G_first (C:=fun _=>True) hi (Region.noSelect_spec hs) hQ (fun _ _ _ _ _ _=>trivial) (fun L w h=>h.back hip) n L a w trivial (Region.free_spec hi hf) (by simpa using hr) (yi_imp hy fun w ⟨_,_,h⟩=>h.1) ⟨hS.1,fun _=>hS.2⟩ h ⟨hS.1,fun _=>hS.2⟩
theorem G_take1 {i:Nat}{oi op:Oper}{v:Value}{n:Nat}{L:Array Bool}{a:Act}{w:World}(hi:ops[i]? =some oi)(hip:i≠p)(hs:Region.noSelect ops=true)(hf:Region.free md ops L i=true)(hr:(Region.ready md ops L).contains i=true)
  (hop:ops[p]? =some op)(hw:(op.after.toList.any fun e=>Region.binds md e&&e.on==i)=true)(hLp:L.getD p true=false)
  (hQ:∀c a w,Q (.panic c) (a.put oi.dst v) w→Q (.panic c) a w)(hS:S0 w∧S1 w)(hy:YieldsIf P ops (fun w=>S0 w∧S1 w) oi v a)(h:anyG P md ops Q (SG p S0 S1) n (L.setIfInBounds i true) (a.put oi.dst v) w):anyG P md ops Q (SG p S0 S1) (n+1) L a w:=
 G_first (C:=fun L=>L.getD p true=false) hi (Region.noSelect_spec hs) hQ
  (fun L j hL hji hiL hj=>by
   by_cases hjp:j=p
   ·exfalso;subst hjp;obtain⟨_,o,ho,hall⟩:=mem_ready.1 hj;rw[hop]at ho;injection ho with ho;subst ho
    obtain⟨e,he,hb⟩:=xM.1 hw;simp only[xK,beq_iff_eq]at hb;have h1:=hall e (by simpa using he) hb.1;rw[hb.2]at h1;rcases Nat.lt_or_ge i L.size with h' |h'
    ·simp[h']at hiL h1;rw[hiL]at h1;cases h1
    ·simp[Array.getElem?_eq_none h']at h1
   ·show(L.setIfInBounds j true).getD p true=false
    rw[getD_set_ne true hjp];exact hL)
  (fun L w h=>h.back hip) n L a w hLp (Region.free_spec hi hf) (by simpa using hr) (yi_imp hy fun w ⟨_,hc,h⟩=>⟨h.1,h.2 hc⟩) ⟨hS.1,fun _=>hS.2⟩ h ⟨hS.1,fun _=>hS.2⟩
theorem G_step {k:Nat}{o:Oper}{n:Nat}{L:Array Bool}{a:Act}{w:World}(hr:Region.ready md ops L=[k])(ho:ops[k]? =some o)
  (h:∀K':Act→World→Prop,Hid (∀a w',SG p S0 S1 (L.setIfInBounds k true) w'→anyG P md ops Q (SG p S0 S1) n (L.setIfInBounds k true) a w'→K' a w')→if Region.wanted o (yielded ops a.tmps)=true then Oper.wp P o a w K' Q else K' (a.put o.dst undef) w):anyG P md ops Q (SG p S0 S1) (n+1) L a w:=by
 refine⟨(fun h0=>by rw[h0]at hr;cases hr),fun i hi=>?_⟩;rw[hr]at hi;rcases xB.1 hi with rfl
 exact wpOp_step ho fun K' hK=>h K' (Hd fun a w' h1 h2=>hK a w' ⟨h1,h2⟩)
theorem G_done {L:Array Bool}{a:Act}{w:World}{S:Array Bool→World→Prop}(hr:Region.ready md ops L=[])(h:Q .normal a w):∀n,anyG P md ops Q S n L a w
 |0=>⟨hr,h⟩
 |_+1=>⟨fun _=>h,by rw[hr];simp⟩
theorem TkS {α:Type}:(∀(l:List α)(i:Nat)(a:α),l.toArray.setIfInBounds i a=(l.set i a).toArray)∧(∀(x:α)(l:List α)(a:α),(x::l).set 0 a=a::l)∧(∀(x:α)(l:List α)(i:Nat)(a:α),(x::l).set (i+1) a=x::l.set i a):=⟨fun _ _ _=>List.setIfInBounds_toArray ..,fun _ _ _=>rfl,fun _ _ _ _=>rfl⟩
theorem TkA {oi:Oper}{v:Value}{n:Nat}{L:Array Bool}{a:Act}{w:World}(i:Nat)(hi:ops[i]? =some oi)(hS:S0 w∧S1 w)(h:anyG P md ops Q (SG p S0 S1) n (L.setIfInBounds i true) (a.put oi.dst v) w)(hg:Region.wanted oi (yielded ops a.tmps)=true:=by first|(with_reducible rfl)|go_simp)(hy:∀W,S0 W→(execOp a.eval oi).run P W=.ok (.value v) W:=by intro W hW;(try dsimp only at hW);go_simp<;>with_reducible rfl)(hip:i≠p:=by decide)(hs:Region.noSelect ops=true:=by kernel_rfl)(hf:Region.free md ops L i=true:=by kernel_rfl)(hr:(Region.ready md ops L).contains i=true:=by kernel_rfl)
 (hQ:∀c a w,Q (.panic c) (a.put oi.dst v) w→Q (.panic c) a w:=by exact fun _ _ _ h=>h):anyG P md ops Q (SG p S0 S1) (n+1) L a w:=G_take0 hi hip hs hf hr hQ hS (.inl ⟨hg,hy⟩) h
theorem TkB {oi:Oper}{v:Value}{n:Nat}{L:Array Bool}{a:Act}{w:World}(i:Nat)(hi:ops[i]? =some oi)(hS:S0 w∧S1 w)(h:anyG P md ops Q (SG p S0 S1) n (L.setIfInBounds i true) (a.put oi.dst v) w)(hg:Region.wanted oi (yielded ops a.tmps)=true:=by rfl)(hy:∀W,S0 W→(execOp a.eval oi).run P W=.ok (.value v) W:=by intro W hW;(try dsimp only at hW);go_simp<;>with_reducible rfl)(hip:i≠p:=by decide)(hs:Region.noSelect ops=true:=by kernel_rfl)(hf:Region.free md ops L i=true:=by kernel_rfl)(hr:(Region.ready md ops L).contains i=true:=by kernel_rfl)
 (hQ:∀c a w,Q (.panic c) (a.put oi.dst v) w→Q (.panic c) a w:=by exact fun _ _ _ h=>h):anyG P md ops Q (SG p S0 S1) (n+1) L a w:=G_take0 hi hip hs hf hr hQ hS (.inl ⟨hg,hy⟩) h
theorem Gs {o:Oper}{n:Nat}{L:Array Bool}{a:Act}{w:World}(k:Nat)(ho:ops[k]? =some o)
 (h:∀K':Act→World→Prop,Hid (∀a w',SG p S0 S1 (L.setIfInBounds k true) w'→anyG P md ops Q (SG p S0 S1) n (L.setIfInBounds k true) a w'→K' a w')→if Region.wanted o (yielded ops a.tmps)=true then Oper.wp P o a w K' Q else K' (a.put o.dst undef) w)(hr:Region.ready md ops L=[k]:=by kernel_rfl):anyG P md ops Q (SG p S0 S1) (n+1) L a w:=G_step hr ho h
theorem Gd {L:Array Bool}{a:Act}{w:World}{S:Array Bool→World→Prop}(n:Nat)(h:Q .normal a w)(hr:Region.ready md ops L=[]:=by kernel_rfl):anyG P md ops Q S n L a w:=G_done hr h n
theorem TkC {oi:Oper}{n:Nat}{L:Array Bool}{a:Act}{w:World}(i:Nat)(hi:ops[i]? =some oi)(hS:S0 w∧S1 w)(h:anyG P md ops Q (SG p S0 S1) n (L.setIfInBounds i true) (a.put oi.dst undef) w)(hg:Region.wanted oi (yielded ops a.tmps)=false:=by first|(go_simp;done)|(go_simp;exact fun h=>by cases h))(hip:i≠p:=by decide)(hs:Region.noSelect ops=true:=by kernel_rfl)(hf:Region.free md ops L i=true:=by kernel_rfl)(hr:(Region.ready md ops L).contains i=true:=by kernel_rfl)
 (hQ:∀c a w,Q (.panic c) (a.put oi.dst undef) w→Q (.panic c) a w:=by exact fun _ _ _ h=>h):anyG P md ops Q (SG p S0 S1) (n+1) L a w:=G_take0 hi hip hs hf hr hQ hS (.inr ⟨hg,rfl⟩) h
theorem G_region {id:Nat}{a:Act}{w:World}(hm:P.follows .mixedOrders=true)(h:anyG P .any ops Q (SG p S0 S1) ops.size (Array.replicate ops.size false) a w.drew):(Code.region id ops true).wp P Q a w:=
 wp_region_any hm (any_of_G _ _ _ _ h)
end
section
variable {P:Program}{ops:Array Oper}{Q:Exit→Act→World→Prop}{md:Region.Mode}{S:Array Bool→World→Prop}{L0:Array Bool}{a0:Act}{T:Nat→Value→World→Prop}{I:World→Prop}{R:World→World→Prop}
def opsLeft (ops:Array Oper)(L0:Array Bool):List Nat:=(List.range ops.size).filter fun k=> !L0.getD k true
def dstLeft (ops:Array Oper)(L0:Array Bool):List Nat:=(opsLeft ops L0).filterMap fun k=>(ops[k]?).bind (·.dst)
def okLeft (ops:Array Oper)(L0:Array Bool)(n:Nat):Bool:=
 (dstLeft ops L0).Nodup&&(dstLeft ops L0).all (fun d=>decide (d<n))&&(List.range ops.size).all (fun k=>((ops[k]?).map fun o=>o.after.all fun e=>decide (e.on<k)).getD true)
structure FrS (ops:Array Oper)(L0:Array Bool)(a0:Act)(T:Nat→Value→World→Prop)(I:World→Prop)(L:Array Bool)(a:Act)(w:World):Prop where
 i:I w
 sz:L.size=ops.size
 ex:∀k,L0.getD k true=true→L.getD k true=true
 de:a.defers=a0.defers
 ts:a.tmps.size=a0.tmps.size
 ag:∀j,j∉dstLeft ops L0→a.tmps.getD j undef=a0.tmps.getD j undef
 t:∀k o d,ops[k]? =some o→L0.getD k true=false→L.getD k true=true→o.dst=some d→T k (a.tmps.getD d undef) w
theorem mem_left {k:Nat}{o:Oper}(h:ops[k]? =some o)(hl:L0.getD k true=false):k∈opsLeft ops L0:=List.mem_filter.2 ⟨List.mem_range.2 (Array.getElem?_eq_some_iff.1 h).1,by rw[hl];rfl⟩
theorem mem_dst {k d:Nat}{o:Oper}(h:ops[k]? =some o)(hl:L0.getD k true=false)(hd:o.dst=some d):d∈dstLeft ops L0:=List.mem_filterMap.2 ⟨k,mem_left h hl,by rw[h];exact hd⟩
theorem nodup_inj {α β:Type}{f:α→Option β}:∀{l:List α}{a b:α}{y:β},(l.filterMap f).Nodup→a∈l→b∈l→f a=some y→f b=some y→a=b
 | [],_,_,_,_,ha,_,_,_=>by cases ha
 |c::l,a,b,y,hn,ha,hb,fa,fb=>by
  have key:∀x,x∈l→f x=some y→f c=some y→False:=fun x hx fx fc=>by
   rw[List.filterMap_cons,fc]at hn;exact(List.nodup_cons.1 hn).1 (List.mem_filterMap.2 ⟨x,hx,fx⟩)
  have hn':(l.filterMap f).Nodup:=by
   rw[List.filterMap_cons]at hn;split at hn
   ·exact hn
   ·exact(List.nodup_cons.1 hn).2
  rcases List.mem_cons.1 ha with e |ha<;>rcases List.mem_cons.1 hb with e' |hb
  ·exact e.trans e'.symm
  ·exact(key b hb fb (e▸fa)).elim
  ·exact(key a ha fa (e'▸fb)).elim
  ·exact nodup_inj hn' ha hb fa fb
theorem getD_flag {L:Array Bool}{k i:Nat}(h:(L.setIfInBounds i true).getD k true=true)(hk:k≠i):L.getD k true=true:=by rwa [getD_set_ne true (Ne.symm hk)]at h
theorem put_get {a:Act}{d j:Nat}{v:Value}(hd:d<a.tmps.size):(a.put (some d) v).tmps.getD j undef=if d=j then v else a.tmps.getD j undef:=by
 simp only[Act.put,Array.getD_eq_getD_getElem?,Array.getElem?_setIfInBounds];split
 ·next h=>subst h;simp[hd]
 ·rfl
theorem G_free (hok:okLeft ops L0 a0.tmps.size=true)(hS:∀L w,I w→S L w)(hst:∀k v w w',R w w'→T k v w→T k v w')
  (H:∀i∈opsLeft ops L0,∀o,ops[i]? =some o→∀a w,I w→(∀j,j∉dstLeft ops L0→a.tmps.getD j undef=a0.tmps.getD j undef)→(∀e∈o.after,∀o' d,ops[e.on]? =some o'→L0.getD e.on true=false→Region.binds md e=true→o'.dst=some d→T e.on (a.tmps.getD d undef) w)→
   ∀K:Act→World→Prop,(∀v w',I w'→R w w'→T i v w'→K (a.put o.dst v) w')→Region.wanted o (yielded ops a.tmps)=true∧Oper.wp P o a w K Q)
  (hend:∀a w,I w→a.defers=a0.defers→a.tmps.size=a0.tmps.size→(∀j,j∉dstLeft ops L0→a.tmps.getD j undef=a0.tmps.getD j undef)→(∀k o d,ops[k]? =some o→L0.getD k true=false→o.dst=some d→T k (a.tmps.getD d undef) w)→Q .normal a w):
  ∀(n:Nat)(L:Array Bool)(a:Act)(w:World),FrS ops L0 a0 T I L a w→(opsLeft ops L).length≤n→anyG P md ops Q S n L a w:=by
 unfold okLeft at hok;simp only[xK,decide_eq_true_eq,xP]at hok;obtain⟨⟨hnd,hlt⟩,hac⟩:=hok;have fin:∀L a w,FrS ops L0 a0 T I L a w→Region.ready md ops L=[]→Q .normal a w:=by
  intro L a w hF hr;have all:∀m k,k<m→k<ops.size→L.getD k true=true:=by
   intro m;induction m with
   |zero=>intro k hk;omega
   |succ m ih=>
    intro k hk hks;by_cases hkm:k<m
    ·exact ih k hkm hks
    cases hf:L.getD k true with
    |true=>rfl
    |false=>
     exfalso;obtain⟨o,ho⟩:∃o,ops[k]? =some o:=⟨_,Array.getElem?_eq_getElem hks⟩
     have:k∈Region.ready md ops L:=mem_ready.2 ⟨hf,o,ho,fun e he hb=>by
      have h1:=hac k (List.mem_range.2 hks);rw[ho]at h1;simp only[Option.map_some,Option.getD_some,Array.all_eq_true_iff_forall_mem,decide_eq_true_eq]at h1;have h2:=h1 e he;have h3:=ih e.on oQ oQ;simp only[Array.getD_eq_getD_getElem?]at h3 ⊢;rw[Array.getElem?_eq_getElem (by rw[hF.sz];omega)]at h3 ⊢;exact h3⟩
     rw[hr]at this;cases this
  refine hend a w hF.i hF.de hF.ts hF.ag fun k o d ho hl hd=>hF.t k o d ho hl (all _ k (Nat.lt_succ_self k) (Array.getElem?_eq_some_iff.1 ho).1) hd
 intro n;induction n with
 |zero=>
  intro L a w hF hn;have hr:Region.ready md ops L=[]:=by
   cases h:Region.ready md ops L with
   |nil=>rfl
   |cons j r=>
    have hj:j∈Region.ready md ops L:=(by rw[h];exact xS);obtain⟨h1,o,h2,_⟩:=mem_ready.1 hj;have:=List.length_pos_of_mem (mem_left h2 h1);omega
  exact⟨hr,fin L a w hF hr⟩
 |succ n ih=>
  intro L a w hF hn;refine⟨fin L a w hF,fun i hi=>?_⟩;obtain⟨h1,o,h2,h3⟩:=mem_ready.1 hi;have hi0:L0.getD i true=false:=by
   cases h:L0.getD i true with
   |false=>rfl
   |true=>rw[hF.ex i h]at h1;cases h1
  have his:=(Array.getElem?_eq_some_iff.1 h2).1;refine wpOp_step h2 fun K hK=>?_
  have hh:=H i (mem_left h2 hi0) o h2 a w hF.i hF.ag (fun e he o' d h4 h5 hb h6=>hF.t e.on o' d h4 h5 (by
   have:=h3 e he hb;simp only[Array.getD_eq_getD_getElem?]at this ⊢;cases hq:L[e.on]? with
   |none=>rfl
   |some b=>rw[hq]at this;exact this) h6) K (fun v w' hI hR hT=>hK _ _ ⟨hS _ _ hI,ih _ _ _ ⟨hI,by simpa using hF.sz,fun k hk=>?_,?_,?_,fun j hj=>?_,fun k o' d h4 h5 h6 h7=>?_⟩ ?_⟩)
  ·rw[if_pos hh.1];exact hh.2
  ·by_cases hk':k=i
   ·subst hk';rw[hi0]at hk;cases hk
   ·rw[getD_set_ne true (Ne.symm hk')];exact hF.ex k hk
  ·rw[←hF.de];unfold Act.put;split<;>rfl
  ·rw[←hF.ts];unfold Act.put;split<;>simp
  ·rw[←hF.ag j hj];cases hd:o.dst with
   |none=>rfl
   |some d=>
    have hdm:=mem_dst h2 hi0 hd;rw[put_get (by rw[hF.ts];exact hlt d hdm),if_neg (fun e:d=j=>hj (e▸hdm))]
  ·by_cases hki:k=i
   ·subst hki;rw[h2]at h4;injection h4 with h4;subst h4
    rw[h7,put_get (by rw[hF.ts];exact hlt d (mem_dst h2 hi0 h7)),if_pos rfl];exact hT
   ·have hold:=hst k _ w w' hR (hF.t k o' d h4 h5 (getD_flag h6 hki) h7);cases hd:o.dst with
    |none=>exact hold
    |some d2=>
     rw[put_get (by rw[hF.ts];exact hlt d2 (mem_dst h2 hi0 hd)),if_neg ?_]
     ·exact hold
     ·intro e;subst e;exact hki (nodup_inj (α:=Nat) (β:=Nat) (f:=fun k:Nat=>(ops[k]?).bind fun o:Oper=>o.dst) (l:=opsLeft ops L0) hnd (mem_left h4 h5) (mem_left h2 hi0) (by rw[h4];exact h7) (by rw[h2];exact hd))
  ·have hlen:(opsLeft ops (L.setIfInBounds i true)).length<(opsLeft ops L).length:=by
    unfold opsLeft;have gen:∀(l:List Nat),((l.filter fun k=> !(L.setIfInBounds i true).getD k true).length≤(l.filter fun k=> !L.getD k true).length)∧(i∈l→(l.filter fun k=> !(L.setIfInBounds i true).getD k true).length<(l.filter fun k=> !L.getD k true).length):=by
     intro l;induction l with
     |nil=>exact⟨nR,fun h=>by cases h⟩
     |cons c l ih2=>
      simp only[List.filter_cons];by_cases hc:c=i
      ·subst hc;have e1:(L.setIfInBounds c true).getD c true=true:=by simp[Array.getElem?_setIfInBounds];split<;>simp
       rw[e1,h1];exact⟨zU ih2.1 sJ,fun _=>Nat.lt_of_le_of_lt ih2.1 sJ⟩
      ·rw[getD_set_ne true (Ne.symm hc)];refine⟨?_,fun h=>?_⟩
       ·split
        ·simpa using ih2.1
        ·exact ih2.1
       ·have h:=(List.mem_cons.1 h).resolve_left (Ne.symm hc);split
        ·simpa using ih2.2 h
        ·exact ih2.2 h
    exact(gen _).2 (List.mem_range.2 his)
   omega
theorem act_puts {a a0:Act}:∀{ds:List Nat},a.defers=a0.defers→a.tmps.size=a0.tmps.size→(∀j,j∉ds→a.tmps.getD j undef=a0.tmps.getD j undef)→a=ds.foldl (fun b d=>b.put (some d) (a.tmps.getD d undef)) a0:=by
 intro ds;induction ds generalizing a0 with
 |nil=>
  intro h1 h2 h3;obtain⟨t,d⟩:=a;obtain⟨t0,d0⟩:=a0;simp only at h1 h2 h3;subst h1;congr 1;apply Array.ext h2;intro i h4 h5;have:=h3 i sJ;simpa[h4,h5] using this
 |cons d ds ih=>
  intro h1 h2 h3;rw[List.foldl_cons];refine ih h1 (by simp[Act.put,h2]) fun j hj=>?_
  by_cases hd:d<a0.tmps.size
  ·rw[put_get hd];split
   ·next e=>rw[e]
   ·next e=>exact h3 j (by simp[hj];exact fun h=>e h.symm)
  ·by_cases e:j=d
   ·subst e;simp only[Act.put,Array.getD_eq_getD_getElem?,Array.getElem?_setIfInBounds];rw[Array.getElem?_eq_none oQ];simp[hd]
   ·simp only[Act.put,Array.getD_eq_getD_getElem?,Array.getElem?_setIfInBounds];rw[if_neg (fun h=>e h.symm)];simpa using h3 j (by simp[hj,e])
def depB (md:Region.Mode)(ops:Array Oper)(L0:Array Bool)(o:Oper)(k d:Nat):Bool:=o.after.any (fun e=>Region.binds md e&&e.on==k)&&endB ops L0 k d
where endB (ops:Array Oper)(L0:Array Bool)(k d:Nat):Bool:= !L0.getD k true&&(ops[k]?).any fun o=>o.dst==some d
theorem endB_is {k d:Nat}(h:depB.endB ops L0 k d=true):∃o,ops[k]? =some o∧L0.getD k true=false∧o.dst=some d:=by
 unfold depB.endB at h;simp only[xK,Bool.not_eq_true',Option.any_eq_true,beq_iff_eq]at h;obtain⟨h1,o,h2,h3⟩:=h;exact⟨o,h2,h1,h3⟩
theorem G_region_free {p n:Nat}{S0 S1:World→Prop}{a:Act}{w:World}{L:Array Bool}{ks ds:List Nat}(T:Nat→Value→World→Prop)(I:World→Prop)(R:World→World→Prop)(hok:okLeft ops L a.tmps.size=true)(hsz:L.size=ops.size)(hn:(opsLeft ops L).length≤n)(hks:opsLeft ops L=ks)(hds:dstLeft ops L=ds)
  (hS:∀w,I w→S0 w∧S1 w)(hst:∀k v w w',R w w'→T k v w→T k v w')(hI:I w)
  (H:∀i∈ks,∀o,ops[i]? =some o→∀b W,I W→(∀j,j∉ds→b.tmps.getD j undef=a.tmps.getD j undef)→(∀k d,depB md ops L o k d=true→T k (b.tmps.getD d undef) W)→
   ∀K:Act→World→Prop,Hid (∀v w',I w'→R W w'→T i v w'→K (b.put o.dst v) w')→Region.wanted o (yielded ops b.tmps)=true∧Oper.wp P o b W K Q)
  (hend:∀(f:Nat→Value) W,I W→(∀k d,depB.endB ops L k d=true→T k (f d) W)→Q .normal (ds.foldl (fun b d=>b.put (some d) (f d)) a) W):
  anyG P md ops Q (SG p S0 S1) n L a w:=by
 subst hks hds;refine G_free (L0:=L) (a0:=a) (T:=T) (I:=I) (R:=R) hok (fun _ w h=>⟨(hS w h).1,fun _=>(hS w h).2⟩) hst (fun i hi o ho b W hIW hag hT K hK=>H i hi o ho b W hIW hag (fun k d hd=>?_) K (Hd hK)) (fun b W hIW h1 h2 h3 h4=>?_) n L a w ⟨hI,hsz,fun _ h=>h,rfl,rfl,fun _ _=>rfl,fun k o d _ h2 h3 _=>by rw[h2]at h3;cases h3⟩ hn
 ·unfold depB at hd;simp only[xK,Array.any_eq_true',beq_iff_eq]at hd;obtain⟨⟨e,he,hb,rfl⟩,hd⟩:=hd;obtain⟨o',h2,h3,h4⟩:=endB_is hd;exact hT e he o' d h2 h3 hb h4
 ·rw[act_puts h1 h2 h3];exact hend _ W hIW fun k d hd=>by
   obtain⟨o',h2,h3,h5⟩:=endB_is hd;exact h4 k o' d h2 h3 h5
end
section
variable {P:Program}{w:World}
theorem row_prefix {B e size n m g cap:Nat}{xs ys:List Value}(h:w.ownsRow B e size (.slice (some ⟨g,0,none⟩) (n+m) cap) (n+m) (xs++ys))(hx:xs.length=n*size):w.ownsRow B e size (.slice (some ⟨g,0,none⟩) n cap) n xs:=by
 obtain⟨h1,h2⟩:=h;rcases h2 with⟨h2,_⟩|⟨g',cap',cur,e1,hB,hg,hnc,hm,hs,ht⟩
 ·cases h2
 ·injection e1 with e1 e2 e3
  injection e1 with e1
  injection e1 with e1 e4
  subst e1 e3;refine⟨hx,.inr ⟨g,cap,cur,rfl,hB,hg,oQ,hm,hs,?_⟩⟩;have:(cur.toList.take ((n+m)*size)).take (n*size)=(xs++ys).take (n*size):=by rw[ht]
  rw[List.take_take,Nat.min_eq_left (Nat.mul_le_mul oQ nR),←hx,List.take_left]at this;rw[←hx];exact this
theorem run_app_keep {B t ty e size bytes n m c:Nat}{v:Value}{ds:List D}{newsV:List Value}{ad:Addr}(T:ElT P t e size bytes)(hown:OL w B (fun _=>False) e size v n ds)
  (hl:newsV.length=m*size)(hnews:∀j u,newsV[j]? =some u→w.cell? (ad.add j)=some u)(h1:∀u∈newsV,u.oneCell'=true)(hn:n+m≤4294967296)(hb:bytes≤32768)(hB:B≤w.heap.size)(hm:0<m):
  ∃A' c' w',(Builtin.append_ #[t,t] ty #[v,.slice (some ad) m c]).run P w=.ok (.slice A' (n+m) c') w'∧OL w' B (fun _=>False) e size v n ds∧w.grownBy w' v.ownBlock:=by
 obtain⟨cells,ho,hlen,hr⟩:=hown;have hown:OL w B (fun _=>False) e size v n ds:=⟨cells,ho,hlen,hr⟩;obtain⟨ht,⟨i,z,hi,hz,hsize,hby,hzs⟩,hp⟩:=T;have hbytes:(n+m)*i.bytes≤140737488355328:=zU (Nat.mul_le_mul hn (by omega:i.bytes≤32768)) dQ;by_cases hnil:v=.slice none 0 0
 ·subst hnil;obtain⟨v',w',hrun,a1,a2,_,a4⟩:=run_append_own_at (P:=P) w B t ty e i z size bytes ht hi hz hsize hby hzs hp _ n cells ho ad m c newsV hl (fun j u h=>hnews j u h) h1 (by unfold maxLen;omega) (by rw[←hby];exact hbytes) hB;have hn0:n=0:=by
   rcases ho.2 with⟨_,h⟩|⟨g,cap,cur,h,_⟩
   ·exact h
   ·cases h
  have hf:∃A' c',v'=.slice A' (n+m) c':=by
   rcases a1.2 with⟨rfl,h⟩|⟨g,cap,cur,rfl,_⟩
   ·exact⟨none,0,by rw[h]⟩
   ·exact⟨_,_,rfl⟩
  obtain⟨A',c',rfl⟩:=hf;exact⟨A',c',w',hrun,hown.kept (row:=none) a2 (.inl rfl) (fun _ hb=>hb.elim),a2⟩
 ·obtain⟨g,cap,hv⟩:∃g cap,v=.slice (some ⟨g,0,none⟩) n cap:=by
   rcases ho.2 with⟨h,_⟩|⟨g,cap,cur,h,_⟩
   ·exact absurd h hnil
   ·exact⟨g,cap,h⟩
  subst hv;by_cases hroom:n+m≤cap
  ·obtain⟨w',hrun,ho2,hg⟩:=run_append_own_spare (P:=P) w B t ty e i size ht hi hsize g n cap cells ho ad m c newsV hl hnews h1 hroom;refine⟨_,_,w',hrun,⟨cells,row_prefix ho2 ho.1,hlen,fun k d hd=>?_⟩,hg⟩;obtain⟨u,hu,hx⟩:=hr k d hd;exact⟨u,hu,hx.grown hg fun b hb=>hb.1.elim⟩
  ·subst hsize;have holds:∀j u,cells[j]? =some u→w.cell? ((⟨g,0,none⟩:Addr).add j)=some u:=ho.cells (g:=g) rfl
   have hrun:=run_append_grow (P:=P) w t ty e i z ht hi hz ⟨g,0,none⟩ n cap cells ho.1 holds ad m c newsV hl hnews oQ oQ (growslice_fits oQ hbytes);have hbl:Bw w (w.drew.alloc (.cells ((cells++newsV).toArray++Builtin.zeroCells z.cells (grownCap w (n+m) cap e- (n+m))) e)):=((bR).drew).alloc nR _;refine⟨_,_,_,hrun,?_,?_⟩
   ·exact hown.stay ⟨rfl,rfl,rfl,sJ,fun k hk=>Below.heap_alloc w.drew _ k hk⟩
   ·exact⟨rfl,rfl,rfl,sJ,fun k hk _=>Below.heap_alloc w.drew _ k hk⟩
end
theorem at_wp {P:Program}{ops:Array Oper}{l:List Oper}{a:Act}{w:World}{Q:Exit→Act→World→Prop}(k:wpList P ops Q l a w):wpList P ops Q l a w:=k
theorem at_code {P:Program}{ops:Array Oper}{n:Nat}{b:Bool}{a:Act}{w:World}{Q:Exit→Act→World→Prop}(k:(Code.region n ops b).wp P Q a w):(Code.region n ops b).wp P Q a w:=k
def evs (l:List (Nat×Value))(r:Operand→Value):Operand→Value
 | .tmp t=>match l.find? (fun p=>p.1==t)with
  |some p=>p.2
  |none=>r (.tmp t)
 |x=>r x
theorem evs_eq {l:List (Nat×Value)}{r:Operand→Value}(h:∀p∈l,r (.tmp p.1)=p.2):evs l r=r:=by
 funext x
 cases x with
 |tmp t=>
  show(match l.find? (fun p=>p.1==t)with |some p=>p.2 |none=>r (.tmp t))=r (.tmp t)
  split
  ·next p hp=>
   have h1:=List.find?_some hp;rw[←h p (List.mem_of_find?_eq_some hp),eq_of_beq h1]
  ·rfl
 |_=>rfl
section
variable {P:Program}{w w':World}{o:Oper}{a:Act}{K:Act→World→Prop}{Q:Exit→Act→World→Prop}
theorem op_v (l:List (Nat×Value))(v:Value)(hl:∀p∈l,a.eval (.tmp p.1)=p.2)(hy:(execOp (evs l a.eval) o).run P w=.ok (.value v) w')(h:K (a.put o.dst v) w'):o.wp P a w K Q:=by
 rw[evs_eq hl]at hy;unfold Oper.wp;rw[hy];exact h
theorem op_c {C:Ending→World→Prop}(l:List (Nat×Value))(f:FuncId)(args:Array Value)(hl:∀p∈l,a.eval (.tmp p.1)=p.2)(hy:(execOp (evs l a.eval) o).run P w=.ok (.enter f args) w)(hc:Calls P f args w C)(h:∀e w',C e w'→∃v,e=.returned v∧K (a.put o.dst v) w'):o.wp P a w K Q:=by
 rw[evs_eq hl]at hy;unfold Oper.wp;rw[hy];refine hc.mono fun e w' hC=>?_
 obtain⟨v,rfl,h2⟩:=h e w' hC;exact h2
end
section
variable {P:Program}{ops:Array Oper}{Q:Exit→Act→World→Prop}
theorem step_store_blk {o:Oper}{a:Act}{w:World}{K:Act→World→Prop}{E:Prop}(hgd:o.guard=none)(ty:TypeId)(x y:Operand)(ho:o.op=.store ty x y)
  {g t:Nat}{cs cs':List Value}(h:Blk w g t cs)(T:AggT P ty cs'.length)(hl:cs'.length=cs.length)(hx:a.eval x=.pointer (some ⟨g,0,none⟩))(hy:a.eval y=.agg ⟨cs'⟩)(h1:cs'.all (·.oneCell')=true)
  (hk:∀w',Blk w' g t cs'→w.grownBy w' (some g)→K (a.put o.dst undef) w'):if Region.wanted o (yielded ops a.tmps)=true then Oper.wp P o a w K Q else E:=by
 have hw:Region.wanted o (yielded ops a.tmps)=true:=by simp[Region.wanted,hgd]
 rw[if_pos hw];obtain⟨d,hu,hd,hi⟩:=T;obtain⟨h2,h3⟩:=setCells_blk cs' 0 w cs h oQ;refine wp_store_mid ty x y ho g 0 ⟨cs'⟩ hx hy (fun j hj=>?_) hi (by simpa using h1) (hk _ (by simpa using h2) h3);rw[Nat.zero_add];refine⟨?_,h.frozen j⟩;rw[h.cell,zI (by simp at hj;omega)];rfl
end
end Go.Proofs.YthaabihjeomipaaGreatDoor
