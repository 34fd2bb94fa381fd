/- What each kind of change does to the design. -/
import Derived.Test.YtfiodnlgiglhfaaGreatDoorW3
import Derived.Deep.RegionHeld
import Derived.RegionTactic
namespace Go.Proofs.YtfiodnlgiglhfaaGreatDoor
set_option maxRecDepth 100000
set_option maxHeartbeats 16000000
open Go.RowKit Go.Deep
set_option linter.unusedVariables false
def AtOk (t:List Kd)(c:Cg):Prop:=∃(i:Nat)(p:Kd)(k:Nat),tyAt t c.ty=some i∧t[i]? =some p∧flAt p.fs c.at_=some k
theorem AtIs.bad {t:List Kd}{c:Cg}{i k:Int}{b:Bool}(h:AtIs t c i k b)(hno:¬AtOk t c):b=false:=by
 rcases h with⟨h,_⟩|⟨_,i',k',p,_,_,h1,h2,h3⟩
 ·exact h
 ·exact absurd ⟨i',p,k',h1,h2,h3⟩ hno
theorem AtIs.good {t:List Kd}{c:Cg}{i k:Int}{b:Bool}{i' k':Nat}{p:Kd}(h:AtIs t c i k b)(h1:tyAt t c.ty=some i')(h2:t[i']? =some p)(h3:flAt p.fs c.at_=some k'):i=i'∧k=k'∧b=true:=by
 rcases h with⟨_,h |⟨i2,p2,g1,g2,g3⟩⟩|⟨hb,i2,k2,p2,rfl,rfl,g1,g2,g3⟩
 ·rw[h1]at h;cases h
 ·rw[h1]at g1;injection g1 with g1;subst g1
  rw[h2]at g2;injection g2 with g2;subst g2
  rw[h3]at g3;cases g3
 ·rw[h1]at g1;injection g1 with g1;subst g1
  rw[h2]at g2;injection g2 with g2;subst g2
  rw[h3]at g3;injection g3 with g3;subst g3
  exact⟨rfl,rfl,hb⟩
theorem chK_noAt {t:List Kd}{c:Cg}(h5:5≤c.kd)(h7:c.kd≤7)(hno:¬AtOk t c):chK t c=none:=by
 cases ht:tyAt t c.ty with
 |none=>exact chK_no (by omega) ht
 |some i=>
  obtain⟨p,hp⟩:=getx (tyAt_lt ht);refine chK_none (by omega) ht hp (chF_no (by omega) ?_);cases hf:flAt p.fs c.at_ with
  |none=>rfl
  |some k=>exact absurd ⟨i,p,k,ht,hp,hf⟩ hno
theorem AtOk.pair {l:List (Kd×Value)}{c:Cg}(h:AtOk (l.map (·.1)) c):∃(i:Nat)(p:Kd×Value)(k:Nat)(x:Fd),tyAt (l.map (·.1)) c.ty=some i∧l[i]? =some p∧(l.map (·.1))[i]? =some p.1∧flAt p.1.fs c.at_=some k∧p.1.fs[k]? =some x:=by
 obtain⟨i,p1,k,h1,h2,h3⟩:=h;rw[zG]at h2;obtain⟨p,hp,rfl⟩:=xG.1 h2;obtain⟨x,hx⟩:=getx (flAt_lt h3);exact⟨i,p,k,x,h1,hp,by rw[zG,hp];rfl,h3,hx⟩
namespace evW
open nmW
theorem renameAttr_k {w:World}{B g:Nat}{nl:List Ls}{vk vl:Value}{by_:Int}{l:List (Kd×Value)}(h:DX w B g vk vl by_ nl l)(hm:SmK (l.map (·.1)))(c:Cg)(hc:c.kd=6)(A:Option Addr)(d:Nat):
  Calls Tryz.prog 67 #[.pointer (some ⟨g,0,none⟩),.agg #[.int .i64 c.kd,.string c.ty,.string c.at_,.string c.nm,.slice A c.ats.length d,.int .i64 c.n]] w (DPost (l.map (·.1)) c B g nl w):=by
 have h0:Bw w (w.alloc (.cells ⟨cgC c A d⟩ 51)):=bA;have hX0:Blk (w.alloc (.cells ⟨cgC c A d⟩ 51)) w.heap.size 51 (cgC c A d):=Blk.new _ _ _;have hk1:=at_k (h.stay h0) hm c A d;have hg:=h.bx.lt;have hBg:B≤w.heap.size:=zU h.gB (Nat.le_of_lt hg);by_cases hok:AtOk (l.map (·.1)) c
 ·obtain⟨i,p,k,x,ht,hp,hp1,hf,hx⟩:=hok.pair;have hch:=chK_4 (by omega) (by omega) ht hp1 (chF_6 hc hf hx);have hpm:=zA hp;have hilt:i<l.length:=(zC.1 hp).1;have hklt:k<p.1.fs.length:=(zC.1 hx).1;have g0:(0:Int)≤(i:Int):=by omega
  have g1:(i:Int)<l.length:=by omega
  have g2:(0:Int)≤(k:Int):=by omega
  have g3:(k:Int)<p.1.fs.length:=by omega
  obtain⟨gk,cap,rfl,h1,h2,_⟩:=h.at_ hp;obtain⟨gf,capf,hv,h3,h4,h5,h6⟩:=(h.fr p hpm).row (by omega);have hk2:=fun(i2 k2:Int)(b:Bool)(hI:AtIs (l.map (·.1)) c i2 k2 b)=>hI.good ht hp1 hf
  obtain⟨u,hu,hru⟩:=h6 (k*3+0) _ (fmg (f:=fdD) (m:=3) (fun _=>rfl) hx rfl);rw[hru.v_inv]at hu;have kc:∀W,Bw w W→W.cell? ⟨g,0,none⟩=some (.slice (some ⟨gk,0,none⟩) l.length cap)∧W.cell? ⟨gk,i*3+2,none⟩=some (.slice (some ⟨gf,0,none⟩) p.1.fs.length capf)∧W.cell? ⟨gf,k*3,none⟩=some (.string x.nm)∧W.frozen? ⟨gf,k*3,none⟩=false:=fun W hW=>by
   obtain⟨a1,_,_,a2,_⟩:=(h.stay hW).at' hp;rw[hv]at a2;exact⟨a1,a2,(hW.cell (p:=⟨gf,k*3,none⟩) h4).trans hu,(World.frozen?_of_block (hW.block gf h4)).trans (h5 _)⟩
  have kd:∀W,Bw w W→DX (W.drew.setCell ⟨gf,k*3,none⟩ (.string c.nm)) B g (.slice (some ⟨gk,0,none⟩) l.length cap) vl by_ nl (l.set i ({p.1 with fs:=p.1.fs.set k {x with nm:=c.nm}},p.2)):=fun W hW=>(h.stay hW.drew).setF hp hv hx
  have hmp:(l.set i ({p.1 with fs:=p.1.fs.set k {x with nm:=c.nm}},p.2)).map (·.1)=(l.map (·.1)).set i {p.1 with fs:=p.1.fs.set k {x with nm:=c.nm}}:=map_set_fst;replace hch:=Hd hch;replace hk1:=Hd hk1;replace hk2:=Hd hk2;replace h0:=Hd h0;replace hX0:=Hd hX0;replace kc:=Hd kc;replace kd:=Hd kd;replace hmp:=Hd hmp;clear h hm hok hp hp1 hpm hx hf ht hc h6 hu hru hv;go_enter Tryz.func67,Tryz.ntmps67;go_upto_region 3 with(go_at_call 116;refine hk1.out.mono ?_;rintro e w' ⟨i2,k2,b2,rfl,hI,hB1⟩;obtain⟨rfl,rfl,rfl⟩:=hk2.out i2 k2 b2 hI;clear hI)
  have hW1:=Hd (h0.out.trans (hB1.mono h0.out.size));obtain⟨q0,q1,q2,q3⟩:=kc.out w' hW1.out;have q4:w'.cell? ⟨w.heap.size,3,none⟩=some (.string c.nm):=(hX0.out.stay hB1).cell 3;go_region
  all_goals
   go_wp2;go_ret;exact DPost.mk_some hch.out (kd.out w' hW1.out) hmp.out rfl ((hW1.out.mono hBg).drew.setCell h3 _)
 ·have hch:=chK_noAt (by omega) (by omega) hok;have hk2:=fun(i2 k2:Int)(b:Bool)(hI:AtIs (l.map (·.1)) c i2 k2 b)=>hI.bad hok
  replace hch:=Hd hch;replace hk1:=Hd hk1;replace hk2:=Hd hk2;replace h0:=Hd h0;clear h hm hok hX0 hc;go_enter Tryz.func67,Tryz.ntmps67;go_wp2_with (go_at_call 116;refine hk1.out.mono ?_;rintro e w' ⟨i2,k2,b2,rfl,hI,hB1⟩;obtain rfl:=hk2.out i2 k2 b2 hI;clear hI);go_ret;exact DPost.mk_none hch.out ((h0.out.trans (hB1.mono h0.out.size)).mono hBg)
end evW
section
variable {P:Program}{ops:Array Oper}{Q:Exit→Act→World→Prop}{md:Region.Mode}{S:Array Bool→World→Prop}
def anyG (P:Program)(md:Region.Mode)(ops:Array Oper)(Q:Exit→Act→World→Prop)(S:Array Bool→World→Prop):Nat→Array Bool→Act→World→Prop
 |0,L,a,w=>Region.ready md ops L=[]∧Q .normal a w
 |n+1,L,a,w=>(Region.ready md ops L=[]→Q .normal a w)∧∀i∈Region.ready md ops L,wpOp P ops Q i (fun a' w'=>S (L.setIfInBounds i true) w'∧anyG P md ops Q S n (L.setIfInBounds i true) a' w') a w
theorem any_of_G:∀(n:Nat)(L:Array Bool)(a:Act)(w:World),anyG P md ops Q S n L a w→wpAny P md ops Q n L a w
 |0,_,_,_,h=>h
 |n+1,_,_,_,h=>⟨h.1,fun i hi=>wpOp_mono (fun a' w' h'=>any_of_G n _ a' w' h'.2) (h.2 i hi)⟩
theorem yi_imp {S1 S2:World→Prop}{o:Oper}{v:Value}{a:Act}(h:YieldsIf P ops S1 o v a)(hi:∀w,S2 w→S1 w):YieldsIf P ops S2 o v a:=by
 rcases h with⟨h1,h2⟩|h
 ·exact .inl ⟨h1,fun w hw=>h2 w (hi w hw)⟩
 ·exact .inr h
theorem G_first {i:Nat}{oi:Oper}{v:Value}{C:Array Bool→Prop}(hi:ops[i]? =some oi)(hsel:∀(j:Nat)(o:Oper) cs b,ops[j]? =some o→o.op≠ .select cs b)(hQ:∀c a w,Q (.panic c) (a.put oi.dst v) w→Q (.panic c) a w)
  (hC:∀(L:Array Bool)(j:Nat),C L→j≠i→L.getD i true=false→j∈Region.ready md ops L→C (L.setIfInBounds j true))(hSi:∀(L:Array Bool)(w:World),S (L.setIfInBounds i true) w→S L w):
  ∀(n:Nat)(L:Array Bool)(a:Act)(w:World),C L→(∀j oj,ops[j]? =some oj→j≠i→L.getD j true=false→(∀e∈oj.after,Region.binds md e=true→e.on≠i)→oi.apart ops oj=true)→i∈Region.ready md ops L→
   YieldsIf P ops (fun W=>∃L',C L'∧S L' W) oi v a→S L w→anyG P md ops Q S n (L.setIfInBounds i true) (a.put oi.dst v) w→S (L.setIfInBounds i true) w→anyG P md ops Q S (n+1) L a w:=by
 intro n;induction n with
 |zero=>
  intro L a w hCL _ hr hy hS H hS2;refine⟨(fun h=>by rw[h]at hr;cases hr),fun j hj=>?_⟩;by_cases hji:j=i
  ·subst hji;exact hy.wpOp hi ⟨L,hCL,hS⟩ ⟨hS2,H⟩
  ·have:=ready_mono hj hji;rw[H.1]at this;cases this
 |succ n ih=>
  intro L a w hCL hfree hr hy hS H hS2;refine⟨(fun h=>by rw[h]at hr;cases hr),fun j hj=>?_⟩;by_cases hji:j=i
  ·subst hji;exact hy.wpOp hi ⟨L,hCL,hS⟩ ⟨hS2,H⟩
  ·have hiL:=(mem_ready.1 hr).1;obtain⟨hjL,oj,hoj,hall⟩:=mem_ready.1 hj;have hnot:∀e∈oj.after,Region.binds md e=true→e.on≠i:=fun e he hb heq=>by
    have h1:=hall e he hb;rw[heq]at h1;rcases Nat.lt_or_ge i L.size with h' |h'
    ·simp[h']at hiL h1;rw[hiL]at h1;cases h1
    ·simp[Array.getElem?_eq_none h']at h1
   have h2:=wpOp_putIf hoj (hfree j oj hoj hji hjL hnot) (fun cs b=>hsel i oi cs b hi) (fun cs b=>hsel j oj cs b hoj) hQ hy (H.2 j (ready_mono hj hji));refine wpOp_mono (fun a' w' h3=>?_) h2;obtain⟨hy',hS3,hG3⟩:=h3;rw[Array.setIfInBounds_comm _ _ (Ne.symm hji)]at hS3 hG3;refine⟨hSi _ _ hS3,ih (L.setIfInBounds j true) a' w' (hC L j hCL hji hiL hj) (fun k ok hk hki hun hno=>?_) (ready_mono hr (Ne.symm hji)) hy' (hSi _ _ hS3) hG3 hS3⟩;refine hfree k ok hk hki ?_ hno;by_cases hjk:j=k
   ·subst hjk;exact hjL
   ·rw[getD_set_ne true hjk]at hun;exact hun
end
section
variable {P:Program}{ops:Array Oper}{Q:Exit→Act→World→Prop}{md:Region.Mode}{S0 S1:World→Prop}{p:Nat}
def SG (p:Nat)(S0 S1:World→Prop)(L:Array Bool)(w:World):Prop:=S0 w∧(L.getD p true=false→S1 w)
theorem SG.back {i:Nat}(hip:i≠p){L:Array Bool}{w:World}(h:SG p S0 S1 (L.setIfInBounds i true) w):SG p S0 S1 L w:=⟨h.1,fun hl=>h.2 (by rw[getD_set_ne true hip];exact hl)⟩
theorem G_take0 {i:Nat}{oi:Oper}{v:Value}{n:Nat}{L:Array Bool}{a:Act}{w:World}(hi:ops[i]? =some oi)(hip:i≠p)(hs:Region.noSelect ops=true)(hf:Region.free md ops L i=true)(hr:(Region.ready md ops L).contains i=true)
  (hQ:∀c a w,Q (.panic c) (a.put oi.dst v) w→Q (.panic c) a w)(hS:S0 w∧S1 w)(hy:YieldsIf P ops S0 oi v a)(h:anyG P md ops Q (SG p S0 S1) n (L.setIfInBounds i true) (a.put oi.dst v) w):anyG P md ops Q (SG p S0 S1) (n+1) L a w:=
 G_first (C:=fun _=>True) hi (Region.noSelect_spec hs) hQ (fun _ _ _ _ _ _=>trivial) (fun L w h=>h.back hip) n L a w trivial (Region.free_spec hi hf) (by simpa using hr) (yi_imp hy fun w ⟨_,_,h⟩=>h.1) ⟨hS.1,fun _=>hS.2⟩ h ⟨hS.1,fun _=>hS.2⟩
theorem G_take1 {i:Nat}{oi op:Oper}{v:Value}{n:Nat}{L:Array Bool}{a:Act}{w:World}(hi:ops[i]? =some oi)(hip:i≠p)(hs:Region.noSelect ops=true)(hf:Region.free md ops L i=true)(hr:(Region.ready md ops L).contains i=true)
  (hop:ops[p]? =some op)(hw:(op.after.toList.any fun e=>Region.binds md e&&e.on==i)=true)(hLp:L.getD p true=false)
  (hQ:∀c a w,Q (.panic c) (a.put oi.dst v) w→Q (.panic c) a w)(hS:S0 w∧S1 w)(hy:YieldsIf P ops (fun w=>S0 w∧S1 w) oi v a)(h:anyG P md ops Q (SG p S0 S1) n (L.setIfInBounds i true) (a.put oi.dst v) w):anyG P md ops Q (SG p S0 S1) (n+1) L a w:=
 G_first (C:=fun L=>L.getD p true=false) hi (Region.noSelect_spec hs) hQ
  (fun L j hL hji hiL hj=>by
   by_cases hjp:j=p
   ·exfalso;subst hjp;obtain⟨_,o,ho,hall⟩:=mem_ready.1 hj;rw[hop]at ho;injection ho with ho;subst ho
    obtain⟨e,he,hb⟩:=xM.1 hw;simp only[xK,beq_iff_eq]at hb;have h1:=hall e (by simpa using he) hb.1;rw[hb.2]at h1;rcases Nat.lt_or_ge i L.size with h' |h'
    ·simp[h']at hiL h1;rw[hiL]at h1;cases h1
    ·simp[Array.getElem?_eq_none h']at h1
   ·show(L.setIfInBounds j true).getD p true=false
    rw[getD_set_ne true hjp];exact hL)
  (fun L w h=>h.back hip) n L a w hLp (Region.free_spec hi hf) (by simpa using hr) (yi_imp hy fun w ⟨_,hc,h⟩=>⟨h.1,h.2 hc⟩) ⟨hS.1,fun _=>hS.2⟩ h ⟨hS.1,fun _=>hS.2⟩
theorem G_step {k:Nat}{o:Oper}{n:Nat}{L:Array Bool}{a:Act}{w:World}(hr:Region.ready md ops L=[k])(ho:ops[k]? =some o)
  (h:∀K':Act→World→Prop,Hid (∀a w',SG p S0 S1 (L.setIfInBounds k true) w'→anyG P md ops Q (SG p S0 S1) n (L.setIfInBounds k true) a w'→K' a w')→if Region.wanted o (yielded ops a.tmps)=true then Oper.wp P o a w K' Q else K' (a.put o.dst undef) w):anyG P md ops Q (SG p S0 S1) (n+1) L a w:=by
 refine⟨(fun h0=>by rw[h0]at hr;cases hr),fun i hi=>?_⟩;rw[hr]at hi;rcases xB.1 hi with rfl
 exact wpOp_step ho fun K' hK=>h K' (Hd fun a w' h1 h2=>hK a w' ⟨h1,h2⟩)
theorem G_done {L:Array Bool}{a:Act}{w:World}{S:Array Bool→World→Prop}(hr:Region.ready md ops L=[])(h:Q .normal a w):∀n,anyG P md ops Q S n L a w
 |0=>⟨hr,h⟩
 |_+1=>⟨fun _=>h,by rw[hr];simp⟩
theorem TkS {α:Type}:(∀(l:List α)(i:Nat)(a:α),l.toArray.setIfInBounds i a=(l.set i a).toArray)∧(∀(x:α)(l:List α)(a:α),(x::l).set 0 a=a::l)∧(∀(x:α)(l:List α)(i:Nat)(a:α),(x::l).set (i+1) a=x::l.set i a):=⟨fun _ _ _=>List.setIfInBounds_toArray ..,fun _ _ _=>rfl,fun _ _ _ _=>rfl⟩
theorem TkA {oi:Oper}{v:Value}{n:Nat}{L:Array Bool}{a:Act}{w:World}(i:Nat)(hi:ops[i]? =some oi)(hS:S0 w∧S1 w)(h:anyG P md ops Q (SG p S0 S1) n (L.setIfInBounds i true) (a.put oi.dst v) w)(hg:Region.wanted oi (yielded ops a.tmps)=true:=by first|(with_reducible rfl)|go_simp)(hy:∀W,S0 W→(execOp a.eval oi).run P W=.ok (.value v) W:=by intro W hW;(try dsimp only at hW);go_simp<;>with_reducible rfl)(hip:i≠p:=by decide)(hs:Region.noSelect ops=true:=by kernel_rfl)(hf:Region.free md ops L i=true:=by kernel_rfl)(hr:(Region.ready md ops L).contains i=true:=by kernel_rfl)
 (hQ:∀c a w,Q (.panic c) (a.put oi.dst v) w→Q (.panic c) a w:=by exact fun _ _ _ h=>h):anyG P md ops Q (SG p S0 S1) (n+1) L a w:=G_take0 hi hip hs hf hr hQ hS (.inl ⟨hg,hy⟩) h
theorem TkB {oi:Oper}{v:Value}{n:Nat}{L:Array Bool}{a:Act}{w:World}(i:Nat)(hi:ops[i]? =some oi)(hS:S0 w∧S1 w)(h:anyG P md ops Q (SG p S0 S1) n (L.setIfInBounds i true) (a.put oi.dst v) w)(hg:Region.wanted oi (yielded ops a.tmps)=true:=by rfl)(hy:∀W,S0 W→(execOp a.eval oi).run P W=.ok (.value v) W:=by intro W hW;(try dsimp only at hW);go_simp<;>with_reducible rfl)(hip:i≠p:=by decide)(hs:Region.noSelect ops=true:=by kernel_rfl)(hf:Region.free md ops L i=true:=by kernel_rfl)(hr:(Region.ready md ops L).contains i=true:=by kernel_rfl)
 (hQ:∀c a w,Q (.panic c) (a.put oi.dst v) w→Q (.panic c) a w:=by exact fun _ _ _ h=>h):anyG P md ops Q (SG p S0 S1) (n+1) L a w:=G_take0 hi hip hs hf hr hQ hS (.inl ⟨hg,hy⟩) h
theorem Gs {o:Oper}{n:Nat}{L:Array Bool}{a:Act}{w:World}(k:Nat)(ho:ops[k]? =some o)
 (h:∀K':Act→World→Prop,Hid (∀a w',SG p S0 S1 (L.setIfInBounds k true) w'→anyG P md ops Q (SG p S0 S1) n (L.setIfInBounds k true) a w'→K' a w')→if Region.wanted o (yielded ops a.tmps)=true then Oper.wp P o a w K' Q else K' (a.put o.dst undef) w)(hr:Region.ready md ops L=[k]:=by kernel_rfl):anyG P md ops Q (SG p S0 S1) (n+1) L a w:=G_step hr ho h
theorem Gd {L:Array Bool}{a:Act}{w:World}{S:Array Bool→World→Prop}(n:Nat)(h:Q .normal a w)(hr:Region.ready md ops L=[]:=by kernel_rfl):anyG P md ops Q S n L a w:=G_done hr h n
theorem TkC {oi:Oper}{n:Nat}{L:Array Bool}{a:Act}{w:World}(i:Nat)(hi:ops[i]? =some oi)(hS:S0 w∧S1 w)(h:anyG P md ops Q (SG p S0 S1) n (L.setIfInBounds i true) (a.put oi.dst undef) w)(hg:Region.wanted oi (yielded ops a.tmps)=false:=by first|(go_simp;done)|(go_simp;exact fun h=>by cases h))(hip:i≠p:=by decide)(hs:Region.noSelect ops=true:=by kernel_rfl)(hf:Region.free md ops L i=true:=by kernel_rfl)(hr:(Region.ready md ops L).contains i=true:=by kernel_rfl)
 (hQ:∀c a w,Q (.panic c) (a.put oi.dst undef) w→Q (.panic c) a w:=by exact fun _ _ _ h=>h):anyG P md ops Q (SG p S0 S1) (n+1) L a w:=G_take0 hi hip hs hf hr hQ hS (.inr ⟨hg,rfl⟩) h
theorem G_region {id:Nat}{a:Act}{w:World}(hm:P.follows .mixedOrders=true)(h:anyG P .any ops Q (SG p S0 S1) ops.size (Array.replicate ops.size false) a w.drew):(Code.region id ops true).wp P Q a w:=
 wp_region_any hm (any_of_G _ _ _ _ h)
end
set_option linter.unusedSimpArgs false
namespace evW
open nmW
theorem addAttr_k {w:World}{B g:Nat}{nl:List Ls}{vk vl:Value}{by_:Int}{l:List (Kd×Value)}(h:DX w B g vk vl by_ nl l)(hm:SmK (l.map (·.1)))(c:Cg)(hc:c.kd=4)(A:Option Addr)(d:Nat):
  Calls Tryz.prog 65 #[.pointer (some ⟨g,0,none⟩),.agg #[.int .i64 c.kd,.string c.ty,.string c.at_,.string c.nm,.slice A c.ats.length d,.int .i64 c.n]] w (DPost (l.map (·.1)) c B g nl w):=by
 have hll:l.length≤1048576:=by have:=hm.len;simp at this;omega
 have h0:Bw w (w.alloc (.cells ⟨cgC c A d⟩ 51)):=bA;have hX0:Blk (w.alloc (.cells ⟨cgC c A d⟩ 51)) w.heap.size 51 (cgC c A d):=Blk.new _ _ _;have hk1:=find_k (h.stay h0) hll c.ty;have hg:=h.bx.lt;have hBg:B≤w.heap.size:=zU h.gB (Nat.le_of_lt hg);cases hty:tyAt (l.map (·.1)) c.ty with
 |none=>
  rw[hty,show optI none= -1 from rfl]at hk1;have hch:=Hd (chK_no (l:=l.map (·.1)) (c:=c) (by omega) hty);replace hk1:=Hd hk1;replace h0:=Hd h0;clear h hm hX0 hc;go_enter Tryz.func65,Tryz.ntmps65;go_wp2_with (go_at_call 114;refine hk1.out.mono ?_;rintro e w' ⟨rfl,hB1⟩);go_ret;exact DPost.mk_none hch.out ((h0.out.trans (hB1.mono h0.out.size)).mono hBg)
 |some i=>
  rw[hty,show optI (some i)=(i:Int)from rfl]at hk1;obtain⟨p1,hp1⟩:=getx (tyAt_lt hty);rw[zG]at hp1;obtain⟨p,hp,rfl⟩:=xG.1 hp1;have hp1:(l.map (·.1))[i]? =some p.1:=by rw[zG,hp];rfl
  have hpm:=zA hp;have hfl:p.1.fs.length≤8:=hm.fl p.1 (xJ hpm);have hilt:i<l.length:=(zC.1 hp).1;have g0:(0:Int)≤(i:Int):=by omega
  have g1:(i:Int)<l.length:=by omega
  obtain⟨gk,cap,rfl,h1,h2,_⟩:=h.at_ hp;obtain⟨A2,c2,hv2⟩:=(h.fr p hpm).form;have hch:=chK_4 (fs:=p.1.fs++[⟨c.nm,-1,c.n⟩]) (by omega) (by omega) hty hp1 (by unfold chF;rw[if_pos hc]);have kc:∀W,Bw w W→W.cell? ⟨g,0,none⟩=some (.slice (some ⟨gk,0,none⟩) l.length cap)∧W.cell? ⟨gk,i*3+2,none⟩=some (.slice A2 p.1.fs.length c2)∧W.frozen? ⟨gk,i*3+2,none⟩=false:=fun W hW=>by
   obtain⟨a1,_,_,a2,a3⟩:=(h.stay hW).at' hp;rw[hv2]at a2;exact⟨a1,a2,a3 _⟩
  have ko:∀W,Bw w W→OL W B NoB 92 3 (.slice A2 p.1.fs.length c2) p.1.fs.length (p.1.fs.flatMap fdD):=fun W hW=>by
   have:=(h.stay hW).fr p hpm;rw[hv2]at this;exact this
  have kn:∀W W1,Bw w W→W.grownBy W1 (Value.slice A2 p.1.fs.length c2).ownBlock→W1.cell? ⟨g,0,none⟩=some (.slice (some ⟨gk,0,none⟩) l.length cap)∧W1.cell? ⟨gk,i*3+2,none⟩=some (.slice A2 p.1.fs.length c2)∧W1.frozen? ⟨gk,i*3+2,none⟩=false:=fun W W1 hW hgr=>by
   obtain⟨a1,a2,a3⟩:=kc W hW;have hx:=h.stay hW;have n1:(Value.slice A2 p.1.fs.length c2).ownBlock≠some g:=(ko W hW).neBlk hx.bx (by decide);have n2:(Value.slice A2 p.1.fs.length c2).ownBlock≠some gk:=(ko W hW).offRow hx.kr (by decide);have hb1:W1.heap[gk]? =W.heap[gk]? :=hgr.block gk (zF h2 hW.size) (fun e=>n2 e.symm);exact⟨hgr.cell a1 (fun e=>n1 e.symm),(World.cell?_of_block (a:=⟨gk,i*3+2,none⟩) hb1).trans a2,(World.frozen?_of_block (a:=⟨gk,i*3+2,none⟩) hb1).trans a3⟩
  have kx:∀W,Bw w W→some w.heap.size≠(Value.slice A2 p.1.fs.length c2).ownBlock:=fun W hW e=>by have:=((ko w bR).lt _ e.symm).2;omega
  have hne1:gk≠g:=fun e=>h.kr.neBlk h.bx (by decide) (by rw[←e];rfl)
  have kd:∀W W1 v',Bw w W→W.grownBy W1 (Value.slice A2 p.1.fs.length c2).ownBlock→OL W1 B NoB 92 3 v' (p.1.fs.length+1) (p.1.fs.flatMap fdD++fdD ⟨c.nm,-1,c.n⟩)→(v'.ownBlock=(Value.slice A2 p.1.fs.length c2).ownBlock∨v'.ownBlock=some W.heap.size)→
    DX (W1.setCell ⟨gk,i*3+2,none⟩ v') B g (.slice (some ⟨gk,0,none⟩) l.length cap) vl by_ nl (l.set i ({p.1 with fs:=p.1.fs++[⟨c.nm,-1,c.n⟩]},v'))∧Below B w (W1.setCell ⟨gk,i*3+2,none⟩ v'):=fun W W1 v' hW hgr hv hvn=>by
   refine⟨(h.stay hW).putF hp hgr (.inr (by rw[hv2])) (by simpa using hv) ?_,?_⟩
   ·rcases hvn with e |e
    ·rw[hv2];exact .inl e
    ·exact .inr fun q hq=>by rw[e]at hq;injection hq with hq;omega
   ·exact((hW.mono hBg).grown hgr (zU hBg hW.size) (fun q hq=>((ko W hW).lt q hq).1)).setCell h1 _
  have hmp:∀v',(l.set i ({p.1 with fs:=p.1.fs++[⟨c.nm,-1,c.n⟩]},v')).map (·.1)=(l.map (·.1)).set i {p.1 with fs:=p.1.fs++[⟨c.nm,-1,c.n⟩]}:=fun v'=>map_set_fst
  replace hch:=Hd hch;replace hk1:=Hd hk1;replace h0:=Hd h0;replace hX0:=Hd hX0;replace kc:=Hd kc;replace ko:=Hd ko;replace kn:=Hd kn;replace kx:=Hd kx;replace kd:=Hd kd;replace hmp:=Hd hmp;clear h hm hp hp1 hpm hty hc hv2;go_enter Tryz.func65,Tryz.ntmps65;go_upto_region 3 with(go_at_call 114;refine hk1.out.mono ?_;rintro e w' ⟨rfl,hB1⟩)
  have hW1:=Hd (h0.out.trans (hB1.mono h0.out.size));obtain⟨q0,q1,q2⟩:=kc.out w' hW1.out;have q3:w'.cell? ⟨w.heap.size,3,none⟩=some (.string c.nm):=(hX0.out.stay hB1).cell 3;have q4:w'.cell? ⟨w.heap.size,5,none⟩=some (.int .i64 c.n):=(hX0.out.stay hB1).cell 5;have hW2:=Hd (show Bw w (w'.alloc (.cells ⟨fdV ⟨c.nm,-1,c.n⟩⟩ 92))from hW1.out.alloc hW1.out.size _);have hsz:w.heap.size<w'.heap.size:=(hX0.out.stay hB1).lt;have hX1:=Hd (hX0.out.stay hB1);have hsz1:gk<w'.heap.size:=by omega
  have hsz2:g<w'.heap.size:=by omega
  have hB1':=Hd hB1;clear hB1;have hSS:(w'.drew.cell? ⟨g,0,none⟩=some (.slice (some ⟨gk,0,none⟩) l.length cap)∧w'.drew.cell? ⟨w.heap.size,3,none⟩=some (.string c.nm)∧w'.drew.cell? ⟨w.heap.size,5,none⟩=some (.int .i64 c.n))∧w'.drew.cell? ⟨gk,i*3+2,none⟩=some (.slice A2 p.1.fs.length c2):=⟨⟨q0,q3,q4⟩,q1⟩;refine G_region (p:=19) (S0:=fun W=>W.cell? ⟨g,0,none⟩=some (.slice (some ⟨gk,0,none⟩) l.length cap)∧W.cell? ⟨w.heap.size,3,none⟩=some (.string c.nm)∧W.cell? ⟨w.heap.size,5,none⟩=some (.int .i64 c.n)) (S1:=fun W=>W.cell? ⟨gk,i*3+2,none⟩=some (.slice A2 p.1.fs.length c2)) (by kernel_rfl) ?_;refine' TkB 0 rfl hSS ?_;refine' TkB 1 rfl hSS ?_;refine' TkB 2 rfl hSS ?_;refine' TkB 3 rfl hSS ?_;refine' TkB 4 rfl hSS ?_;refine' TkB 5 rfl hSS ?_;refine' TkB 6 rfl hSS ?_;refine' TkB 7 rfl hSS ?_;refine' TkB 8 rfl hSS ?_;refine' TkB 9 rfl hSS ?_;refine' TkB 10 rfl hSS ?_;refine' TkB 11 rfl hSS ?_;try simp only[Act.put,TkS]
  refine' G_take1 (i:=12) (v:=_) rfl (by decide) (by kernel_rfl) (by kernel_rfl) (by kernel_rfl) rfl (by kernel_rfl) (by kernel_rfl) (fun _ _ _ h=>h) hSS (.inl ⟨by rfl,?hy12⟩) ?rest12
  case hy12=>(intro W hW;(try dsimp only at hW);go_simp<;>with_reducible rfl)
  refine' TkB 13 rfl hSS ?_;refine' TkB 14 rfl hSS ?_;refine' TkB 15 rfl hSS ?_;refine' TkB 16 rfl hSS ?_;refine' TkB 17 rfl hSS ?_;try simp only[Act.put,TkS]
  refine Gs 18 rfl fun K hK=>?_
  go_simp;refine hK.out _ _ ⟨?_,fun _=>?_⟩ ?_
  ·exact⟨(kc.out _ hW2.out).1,(hX1.out.alloc _).cell 3,(hX1.out.alloc _).cell 5⟩
  ·exact(kc.out _ hW2.out).2.1
  refine Gs 19 rfl fun K hK=>?_
  refine step_app (by rfl) (.tmp 24) (.tmp 30) _ (by rfl) (m:=1) (news:=fdD ⟨c.nm,-1,c.n⟩) elField (by exact(ko.out _ hW2.out).drew) (by rfl) (by rfl) (by exact(Src.lit (fdD_rd w' _ ⟨c.nm,-1,c.n⟩)).drew) rfl (by omega) (by omega) (by simp;omega) ?_;intro v' w1 hO1 hg1 ha1;obtain⟨B3,d3,rfl⟩:=hO1.form;have hg2:=undrew hg1;obtain⟨t0,t1,t2⟩:=kn.out _ _ hW2.out hg2;have hx1:=((hX1.out.alloc (.cells ⟨fdV ⟨c.nm,-1,c.n⟩⟩ 92)).grown hg2 (kx.out _ hW2.out));have hS3:(w1.cell? ⟨g,0,none⟩=some (.slice (some ⟨gk,0,none⟩) l.length cap)∧w1.cell? ⟨w.heap.size,3,none⟩=some (.string c.nm)∧w1.cell? ⟨w.heap.size,5,none⟩=some (.int .i64 c.n))∧w1.cell? ⟨gk,i*3+2,none⟩=some (.slice A2 p.1.fs.length c2):=⟨⟨t0,hx1.cell 3,hx1.cell 5⟩,t1⟩;refine hK.out _ _ ⟨hS3.1,fun _=>hS3.2⟩ ?_;obtain⟨f1,f2⟩:=kd.out _ _ _ hW2.out hg2 hO1 ha1;replace f1:=Hd f1;replace f2:=Hd f2;clear hg1 hg2 hO1 ha1 hx1 hK K;refine' TkB 20 rfl hS3 ?_;refine' TkB 21 rfl hS3 ?_;try simp only[Act.put,TkS]
  refine Gs 22 rfl fun K hK=>?_
  go_simp;refine hK.out _ _ ⟨?_,fun h=>absurd (h.symm.trans (by kernel_rfl:_=true)) (by simp)⟩ ?_
  ·obtain⟨⟨s0,s1,s2⟩,s3⟩:=hS3;refine⟨?_,?_,?_⟩
   ·rw[World.cell?_setCell_far _ _ _ _ (by show gk≠g;exact hne1)];exact s0
   ·rw[World.cell?_setCell_far _ _ _ _ (by show gk≠w.heap.size;omega)];exact s1
   ·rw[World.cell?_setCell_far _ _ _ _ (by show gk≠w.heap.size;omega)];exact s2
  refine Gd _ ?_;try simp only[Act.put,TkS]
  clear hK K hS3 hSS t0 t1 t2 q0 q1 q2 q3 q4;go_wp2;go_ret;exact DPost.mk_some hch.out f1.out (hmp.out _) rfl f2.out
end evW
theorem flat_erase {α β:Type}{f:α→List β}{m:Nat}(hf:∀x,(f x).length=m):∀(l:List α)(i:Nat),(l.flatMap f).take (i*m)++(l.flatMap f).drop ((i+1)*m)=(l.eraseIdx i).flatMap f:=by
 intro l;induction l with
 |nil=>intro i;simp
 |cons a l ih=>
  intro i;cases i with
  |zero=>
   rw[zK,Nat.zero_mul,List.take_zero,List.nil_append,Nat.zero_add,Nat.one_mul,←hf a,List.drop_left];rfl
  |succ i=>
   have e1:(i+1)*m=m+i*m:=by rw[Nat.succ_mul];omega
   have e2:(i+1+1)*m=m+(i+1)*m:=by rw[Nat.succ_mul (i+1)];omega
   rw[List.eraseIdx_cons_succ,zK,zK,←ih i,e2,e1,List.take_append,List.drop_append,hf a,xH (by rw[hf a];omega),List.drop_of_length_le (by rw[hf a];omega),List.nil_append,zR,
    show m+i*m-m=i*m by omega,show m+(m+i*m) -m=m+i*m by omega]
theorem ls_rd (w:World)(G:Nat→Prop)(a b c:Int):RdL w G (lsV a b c) (lsD a b c):=⟨.v _ rfl,.v _ rfl,.v _ rfl,trivial⟩
theorem chK_2 {t:List Kd}{c:Cg}{i:Nat}(h:c.kd=2)(ht:tyAt t c.ty=some i):chK t c=some (t.eraseIdx i):=by
 unfold chK;rw[if_neg (by omega),if_pos (by omega),ht];show(if _ then _ else _)=_
 rw[if_pos h]
theorem map_erase_fst {l:List (Kd×Value)}{i:Nat}:(l.eraseIdx i).map (·.1)=(l.map (·.1)).eraseIdx i:=by
 apply List.ext_getElem?;intro j;simp only[zG,List.getElem?_eraseIdx];split<;>rfl
section
variable {w:World}{B g:Nat}{nl:List Ls}{vk vl:Value}{by_:Int}{l:List (Kd×Value)}
theorem DX.overL {W1:World}(h:DX w B g vk vl by_ nl l)(hg:w.grownBy W1 vl.ownBlock):W1.cell? ⟨g,0,none⟩=some vk∧W1.cell? ⟨g,1,none⟩=some vl∧W1.frozen? ⟨g,1,none⟩=false:=by
 have hlr:=h.lr;have n1:vl.ownBlock≠some g:=hlr.neBlk h.bx (by decide);exact⟨hg.cell h.c0 (fun e=>n1 e.symm),hg.cell h.c1 (fun e=>n1 e.symm),(World.frozen?_of_block (a:=⟨g,1,none⟩) (hg.block g h.bx.lt (fun e=>n1 e.symm))).trans (h.bx.frozen 1)⟩
theorem DX.overK {W1:World}(h:DX w B g vk vl by_ nl l)(hg:w.grownBy W1 vk.ownBlock):W1.cell? ⟨g,0,none⟩=some vk∧W1.frozen? ⟨g,0,none⟩=false:=by
 have n1:vk.ownBlock≠some g:=h.kr.neBlk h.bx (by decide);exact⟨hg.cell h.c0 (fun e=>n1 e.symm),(World.frozen?_of_block (a:=⟨g,0,none⟩) (hg.block g h.bx.lt (fun e=>n1 e.symm))).trans (h.bx.frozen 0)⟩
theorem DX.belowL {w0 W1:World}{x:Value}(h:DX w B g vk vl by_ nl l)(hb:Below B w0 w)(hg:w.grownBy W1 vl.ownBlock):Below B w0 (W1.setCell ⟨g,1,none⟩ x):=by
 have hlr:=h.lr;exact(hb.grown hg (zU h.gB (Nat.le_of_lt h.bx.lt)) (fun q hq=>(hlr.lt q hq).1)).setCell h.gB _
theorem DX.belowK {w0 W1:World}{x:Value}(h:DX w B g vk vl by_ nl l)(hb:Below B w0 w)(hg:w.grownBy W1 vk.ownBlock):Below B w0 (W1.setCell ⟨g,0,none⟩ x):=
 (hb.grown hg (zU h.gB (Nat.le_of_lt h.bx.lt)) (fun q hq=>(h.kr.lt q hq).1)).setCell h.gB _
end
namespace evW
open nmW
theorem dropType_k {w:World}{B g:Nat}{nl:List Ls}{vk vl:Value}{by_:Int}{l:List (Kd×Value)}(h:DX w B g vk vl by_ nl l)(hm:SmK (l.map (·.1)))(hnl:nl.length≤1048576)(c:Cg)(hc:c.kd=2)(A:Option Addr)(d:Nat):
  Calls Tryz.prog 63 #[.pointer (some ⟨g,0,none⟩),.agg #[.int .i64 c.kd,.string c.ty,.string c.at_,.string c.nm,.slice A c.ats.length d,.int .i64 c.n]] w (DPost (l.map (·.1)) c B g (nl++lsOf (l.map (·.1)) c by_) w):=by
 have hll:l.length≤1048576:=by have:=hm.len;simp at this;omega
 have h0:Bw w (w.alloc (.cells ⟨cgC c A d⟩ 51)):=bA;have hk1:=find_k (h.stay h0) hll c.ty;have hg:=h.bx.lt;have hBg:B≤w.heap.size:=zU h.gB (Nat.le_of_lt hg);cases hty:tyAt (l.map (·.1)) c.ty with
 |none=>
  rw[hty,show optI none= -1 from rfl]at hk1;have hch:=Hd (chK_no (l:=l.map (·.1)) (c:=c) (by omega) hty);replace hk1:=Hd hk1;replace h0:=Hd h0;clear h hm hc;go_enter Tryz.func63,Tryz.ntmps63;go_wp2_with (go_at_call 114;refine hk1.out.mono ?_;rintro e w' ⟨rfl,hB1⟩);go_ret;exact DPost.mk_none hch.out ((h0.out.trans (hB1.mono h0.out.size)).mono hBg)
 |some i=>
  rw[hty,show optI (some i)=(i:Int)from rfl]at hk1;obtain⟨p1,hp1⟩:=getx (tyAt_lt hty);rw[zG]at hp1;obtain⟨p,hp,rfl⟩:=xG.1 hp1;have hilt:i<l.length:=(zC.1 hp).1;have g0:(0:Int)≤(i:Int):=by omega
  have g1:(i:Int)<l.length:=by omega
  obtain⟨gk,cap,rfl,h1,h2,_⟩:=h.at_ hp;have hlr:=h.lr;have hls:=Hd (show nl++[⟨p.1.fr,-2,by_⟩]=nl++lsOf (l.map (·.1)) c by_ by rw[lsOf_2 hc hty (p:=p.1) (by rw[zG,hp];rfl)]);obtain⟨A3,c3,rfl⟩:=hlr.form;have hch:=chK_2 hc hty;have kc:∀W,Bw w W→W.cell? ⟨g,0,none⟩=some (.slice (some ⟨gk,0,none⟩) l.length cap)∧W.cell? ⟨g,1,none⟩=some (.slice A3 nl.length c3)∧W.cell? ⟨g,2,none⟩=some (.int .i64 by_)∧W.cell? ⟨gk,i*3+1,none⟩=some (.int .i64 p.1.fr):=fun W hW=>by
   have hx:=h.stay hW;obtain⟨a1,_,a2,_,_⟩:=hx.at' hp;exact⟨a1,hx.c1,hx.c2,a2⟩
  have ko:∀W,Bw w W→OL W B NoB 104 3 (.slice A3 nl.length c3) nl.length (nl.flatMap lsDD):=fun W hW=>hlr.stay hW
  have kd:=fun W (hW:Bw w W)=>h.stay hW
  have hmp:=Hd (show (l.eraseIdx i).map (·.1)=(l.map (·.1)).eraseIdx i from map_erase_fst);have hel:=Hd (show (l.eraseIdx i).length=l.length-1 from List.length_eraseIdx_of_lt hilt);replace hch:=Hd hch;replace hk1:=Hd hk1;replace h0:=Hd h0;replace kc:=Hd kc;replace ko:=Hd ko;replace kd:=Hd kd;clear h hm hp hp1 hty hc hlr;go_enter Tryz.func63,Tryz.ntmps63;go_upto_region 4 with(go_at_call 114;refine hk1.out.mono ?_;rintro e w' ⟨rfl,hB1⟩)
  have hW1:=Hd (h0.out.trans (hB1.mono h0.out.size));obtain⟨q0,q1,q2,q3⟩:=kc.out w' hW1.out;have hW2:=Hd (show Bw w (w'.alloc (.cells ⟨lsV p.1.fr (-2) by_⟩ 104))from hW1.out.alloc hW1.out.size _);have hsz:w.heap.size≤w'.heap.size:=hW1.out.size;have hsz1:gk<w'.heap.size:=by omega
  have hsz2:g<w'.heap.size:=by omega
  clear hB1;go_region_law ((refine step_app (by rfl) (.tmp 16) (.tmp 30) _ (by rfl) (m:=1) (news:=lsD p.1.fr (-2) by_) elLoss (by exact(ko.out _ hW2.out).drew) (by rfl) (by rfl) (by exact(Src.lit (ls_rd w' _ p.1.fr (-2) by_)).drew) rfl (by omega) (by omega) (by simp;omega) ?_;intro v' w1 hO1 hg1 ha1;obtain⟨B3,d3,rfl⟩:=hO1.form;have hg2:=undrew hg1;obtain⟨t0,t1,t2⟩:=(kd.out _ hW2.out).overL hg2))
  all_goals
   have hD:=(kd.out _ hW2.out).putL (nl':=nl++[⟨p.1.fr,(-2),by_⟩]) hg2 (by rw[zH,xD];exact hO1);have hBB:=Hd ((kd.out _ hW2.out).belowL (x:=.slice B3 (nl.length+1) d3) (hW2.out.mono hBg) hg2);have hdel:=Hd (delKind_k B gk cap l.length i NoB (l.flatMap kcD) _ hD.kr hilt);replace hD:=Hd hD;clear hg1 hg2 hO1 ha1;go_wp2_with (go_at_call 115;refine hdel.out.mono ?_;rintro e w3 ⟨rfl,hO3,hg3⟩;obtain⟨s0,s1⟩:=hD.out.overK hg3);rw[flat_erase (f:=kcD) (m:=3) (fun _=>rfl),←hel.out]at hO3;have hfin:=hD.out.putK hg3 hO3 (fun q hq=>.inl (mem_eraseIdx hq)) (hD.out.ne_erase i);have hfb:=hD.out.belowK (x:=.slice (some ⟨gk,0,none⟩) (l.eraseIdx i).length cap) hBB.out hg3;rw[hel.out]at hfin hfb;go_ret;exact DPost.mk_some hch.out hfin hmp.out hls.out hfb
end evW
end Go.Proofs.YtfiodnlgiglhfaaGreatDoor
