/- What each kind of change does to the design. -/
import Derived.Test.YtjbcbibkhalagaaGreatDoorW3
import Derived.Deep.RegionHeld
import Derived.RegionTactic
namespace Go.Proofs.YtjbcbibkhalagaaGreatDoor
set_option maxRecDepth 100000
set_option maxHeartbeats 16000000
open Proofs.Tryz Go.RowKit Go.Deep
set_option linter.unusedVariables false
def Gx (t:List Kd)(c:Cg):Prop:=∃(i:Nat)(p:Kd)(k:Nat),eu t c.ty=some i/\t[i]? =some p/\iB p.fs c.at_=some k
theorem rX.bad {t c i k b}(h:rX t c i k b)(hno:¬Gx t c):b=false:=by
 rcases h with⟨h,_⟩|⟨_,i',k',p,_,_,h1,h2,h3⟩
 .exact h
 .exact absurd ⟨i',p,k',h1,h2,h3⟩ hno
theorem rX.good {t c i k b i' k' p}(h:rX t c i k b)(h1:eu t c.ty=some i')(h2:t[i']? =some p)(h3:iB p.fs c.at_=some k'):i=i'/\k=k'/\b=true:=by
 rcases h with⟨_,h |⟨i2,p2,g1,g2,g3⟩⟩|⟨hb,i2,k2,p2,rfl,rfl,g1,g2,g3⟩
 .rw[h1]at h;cases h
 .rw[h1]at g1;injection g1 with g1;subst g1
  rw[h2]at g2;injection g2 with g2;subst g2
  rw[h3]at g3;cases g3
 .rw[h1]at g1;injection g1 with g1;subst g1
  rw[h2]at g2;injection g2 with g2;subst g2
  rw[h3]at g3;injection g3 with g3;subst g3
  exact⟨rfl,rfl,hb⟩
theorem wa {t c}(h5:5<=c.kd)(h7:c.kd<=7)(hno:¬Gx t c):l6 t c=none:=by
 cases ht:eu t c.ty with
 |none=>exact vU oQ ht
 |some i=>
  obtain⟨p,hp⟩:=av (lC ht);refine vV oQ ht hp (WQ oQ ?_);cases hf:iB p.fs c.at_ with
  |none=>rfl
  |some k=>exact absurd ⟨i,p,k,ht,hp,hf⟩ hno
theorem Gx.pair {l:List (Kd×Value)}{c}(h:Gx (l.map (·.1)) c):∃(i:Nat)(p:Kd×Value)(k:Nat)(x:Fd),eu (l.map (·.1)) c.ty=some i/\l[i]? =some p/\(l.map (·.1))[i]? =some p.1/\iB p.1.fs c.at_=some k/\p.1.fs[k]? =some x:=by
 obtain⟨i,p1,k,h1,h2,h3⟩:=h;rw[zG]at h2;obtain⟨p,hp,rfl⟩:=xG.1 h2;obtain⟨x,hx⟩:=av (uF h3);exact⟨i,p,k,x,h1,hp,by rw[zG,hp];rfl,h3,hx⟩
namespace di
open cH
theorem BJ {w B g nl vk vl au l}(h:DX w B g vk vl au nl l)(hm:nO (l.map (·.1)))(c)(hc:c.kd=6)(A d):
  Cl 73 #[.pointer (some ⟨g,0,none⟩),.agg #[.int .i64 c.kd,.string c.ty,.string c.at_,.string c.nm,.slice A c.ats.length d,.int .i64 c.n]] w (dV (l.map (·.1)) c B g nl w):=by
 have h0:Bw w (w.alloc (.cells ⟨je c A d⟩ 73)):=bA;have iz:ao (w.alloc (.cells ⟨je c A d⟩ 73)) w.heap.size 73 (je c A d):=ao.new _ _ _;have fM:=WO (h.stay h0) hm c A d;have hg:=h.bx.lt;have sv:B<=w.heap.size:=zU h.gB (Nat.le_of_lt hg);by_cases cK:Gx (l.map (·.1)) c
 .obtain⟨i,p,k,x,ht,hp,fR,hf,hx⟩:=cK.pair;have hch:=H' oQ oQ ht fR (Z8 hc hf hx);have fe:=zA hp;have BG:i<l.length:=(zC.1 hp).1;have JI:k<p.1.fs.length:=(zC.1 hx).1;have g0:=aH i;have g1:=aV i l.length;have g2:=aH k;have g3:(k:Int)<p.1.fs.length:=oQ;obtain⟨gk,cap,rfl,h1,h2,_⟩:=h.at_ hp;obtain⟨gf,gX,hv,h3,h4,h5,h6⟩:=(h.fr p fe).row oQ;have oY:=λ(i2 k2:Int)(b:Bool)(hI:rX (l.map (·.1)) c i2 k2 b)=>hI.good ht fR hf
  obtain⟨u,hu,Tk⟩:=h6 (k*3+0) _ (po (f:=dt) (m:=3) (λ_=>rfl) hx rfl);rw[Tk.bH]at hu;have kc:∀W,Bw w W->W.cell? ⟨g,0,none⟩=some (.slice (some ⟨gk,0,none⟩) l.length cap)/\W.cell? ⟨gk,i*3+2,none⟩=some (.slice (some ⟨gf,0,none⟩) p.1.fs.length gX)/\W.cell? ⟨gf,k*3,none⟩=some (.string x.nm)/\W.frozen? ⟨gf,k*3,none⟩=false:=λW hW=>by
   obtain⟨a1,_,_,a2,_⟩:=(h.stay hW).at' hp;rw[hv]at a2;exact⟨a1,a2,(hW.cell (p:=⟨gf,k*3,none⟩) h4).trans hu,(World.frozen?_of_block (hW.block gf h4)).trans (h5 _)⟩
  have kd:∀W,Bw w W->DX (W.drew.setCell ⟨gf,k*3,none⟩ (.string c.nm)) B g (.slice (some ⟨gk,0,none⟩) l.length cap) vl au nl (l.set i ({p.1 with fs:=p.1.fs.set k {x with nm:=c.nm}},p.2)):=λW hW=>(h.stay hW.drew).afc hp hv hx
  have uj:(l.set i ({p.1 with fs:=p.1.fs.set k {x with nm:=c.nm}},p.2)).map (·.1)=(l.map (·.1)).set i {p.1 with fs:=p.1.fs.set k {x with nm:=c.nm}}:=jc;replace⟨hch,fM,oY,h0,iz,kc,kd,uj⟩:=H8 hch fM oY h0 iz kc kd uj;clear h hm cK hp fR fe hx hf ht hc h6 hu Tk hv;go_enter func73,ntmps73;go_upto_region 3 with(go_at_call 118;refine fM.o.mono ?_;rintro e w' ⟨i2,k2,b2,rfl,hI,az⟩;obtain⟨rfl,rfl,rfl⟩:=oY.o i2 k2 b2 hI;clear hI)
  have a9:=Hd (h0.o.trans (az.mono h0.o.size));obtain⟨q0,q1,q2,q3⟩:=kc.o w' a9.o;have q4:w'.cell? ⟨w.heap.size,3,none⟩=some (.string c.nm):=(iz.o.stay az).cell 3;go_region
  all_goals
   go_wp2;go_ret;exact dV.ey hch.o (kd.o w' a9.o) uj.o rfl ((a9.o.mono sv).drew.setCell h3 _)
 .have hch:=wa oQ oQ cK;have oY:=λ(i2 k2:Int)(b:Bool)(hI:rX (l.map (·.1)) c i2 k2 b)=>hI.bad cK
  replace⟨hch,fM,oY,h0⟩:=H4 hch fM oY h0;clear h hm cK iz hc;go_enter func73,ntmps73;go_wp2_with (go_at_call 118;refine fM.o.mono ?_;rintro e w' ⟨i2,k2,b2,rfl,hI,az⟩;obtain rfl:=oY.o i2 k2 b2 hI;clear hI);go_ret;exact dV.du hch.o ((h0.o.trans (az.mono h0.o.size)).mono sv)
end di
section
variable {P:Program}{ops:Array Oper}{Q:Exit->Act->World->Prop}{md:Region.Mode}{S:Array Bool->World->Prop}
def iZ (P:Program)(md:Region.Mode)(ops:Array Oper)(Q:Exit->Act->World->Prop)(S:Array Bool->World->Prop):Nat->Array Bool->Act->World->Prop
 |0,L,a,w=>Region.ready md ops L=[]/\Q .normal a w
 |n+1,L,a,w=>(Region.ready md ops L=[]->Q .normal a w)/\∀i∈Region.ready md ops L,wpOp P ops Q i (λa' w'=>S (L.setIfInBounds i true) w'/\iZ P md ops Q S n (L.setIfInBounds i true) a' w') a w
theorem Ej:∀(n:Nat)(L:Array Bool)(a:Act)(w:World),iZ P md ops Q S n L a w->wpAny P md ops Q n L a w
 |0,_,_,_,h=>h
 |n+1,_,_,_,h=>⟨h.1,λi hi=>wpOp_mono (λa' w' h'=>Ej n _ a' w' h'.2) (h.2 i hi)⟩
theorem Oi {S1 S2 o v a}(h:YieldsIf P ops S1 o v a)(hi:∀w,S2 w->S1 w):YieldsIf P ops S2 o v a:=by
 rcases h with⟨h1,h2⟩|h
 .exact .inl ⟨h1,λw hw=>h2 w (hi w hw)⟩
 .exact .inr h
theorem Ia {i oi v}{C:Array Bool->Prop}(hi:ops[i]? =some oi)(Z9:∀(j:Nat)(o:Oper) cs b,ops[j]? =some o->o.op≠ .select cs b)(hQ:∀c a w,Q (.panic c) (a.put oi.dst v) w->Q (.panic c) a w)(hC:∀(L:Array Bool)(j:Nat),C L->j≠i->L.getD i true=false->j∈Region.ready md ops L->C (L.setIfInBounds j true))(hSi:∀(L:Array Bool)(w:World),S (L.setIfInBounds i true) w->S L w):
  ∀(n:Nat)(L:Array Bool)(a:Act)(w:World),C L->(∀j oj,ops[j]? =some oj->j≠i->L.getD j true=false->(∀e∈oj.after,Region.binds md e=true->e.on≠i)->oi.apart ops oj=true)->i∈Region.ready md ops L->
   YieldsIf P ops (λW=>∃L',C L'/\S L' W) oi v a->S L w->iZ P md ops Q S n (L.setIfInBounds i true) (a.put oi.dst v) w->S (L.setIfInBounds i true) w->iZ P md ops Q S (n+1) L a w:=by
 intro n;induction n with
 |zero=>
  intro L a w hCL _ hr hy hS H Cn;refine⟨(λh=>by rw[h]at hr;cases hr),λj hj=>?_⟩;by_cases sQ:j=i
  .subst sQ;exact hy.wpOp hi ⟨L,hCL,hS⟩ ⟨Cn,H⟩
  .have:=ready_mono hj sQ;rw[H.1]at this;cases this
 |succ n ih=>
  intro L a w hCL TJ hr hy hS H Cn;refine⟨(λh=>by rw[h]at hr;cases hr),λj hj=>?_⟩;by_cases sQ:j=i
  .subst sQ;exact hy.wpOp hi ⟨L,hCL,hS⟩ ⟨Cn,H⟩
  .have X9:=(mem_ready.1 hr).1;obtain⟨hjL,oj,hoj,lK⟩:=mem_ready.1 hj;have aff:∀e∈oj.after,Region.binds md e=true->e.on≠i:=λe he hb heq=>by
    have h1:=lK e he hb;rw[heq]at h1;rcases Nat.lt_or_ge i L.size with h' |h'
    .simp[h']at X9 h1;rw[X9]at h1;cases h1
    .simp[Array.getElem?_eq_none h']at h1
   have h2:=wpOp_putIf hoj (TJ j oj hoj sQ hjL aff) (λcs b=>Z9 i oi cs b hi) (λcs b=>Z9 j oj cs b hoj) hQ hy (H.2 j (ready_mono hj sQ));refine wpOp_mono (λa' w' h3=>?_) h2;obtain⟨hy',wb,hG3⟩:=h3;rw[Array.setIfInBounds_comm _ _ (Ne.symm sQ)]at wb hG3;refine⟨hSi _ _ wb,ih (L.setIfInBounds j true) a' w' (hC L j hCL sQ X9 hj) (λk ok hk C9 uR hno=>?_) (ready_mono hr (Ne.symm sQ)) hy' (hSi _ _ wb) hG3 wb⟩;refine TJ k ok hk C9 ?_ hno;by_cases JW:j=k
   .subst JW;exact hjL
   .rw[getD_set_ne true JW]at uR;exact uR
end
section
variable {P:Program}{ops:Array Oper}{Q:Exit->Act->World->Prop}{md:Region.Mode}{S0 S1:World->Prop}{p:Nat}
def SG (p:Nat)(S0 S1:World->Prop)(L:Array Bool)(w:World):Prop:=S0 w/\(L.getD p true=false->S1 w)
theorem SG.back {i}(JJ:i≠p){L w}(h:SG p S0 S1 (L.setIfInBounds i true) w):SG p S0 S1 L w:=⟨h.1,λhl=>h.2 (by rw[getD_set_ne true JJ];exact hl)⟩
theorem SG.fwd {i L w}(JJ:i≠p)(h:SG p S0 S1 L w):SG p S0 S1 (L.setIfInBounds i true) w:=⟨h.1,λhl=>h.2 (by rw[getD_set_ne true JJ]at hl;exact hl)⟩
theorem bm {i oi v n L a w}(hi:ops[i]? =some oi)(JJ:i≠p)(hs:Region.noSelect ops=true)(hf:Region.free md ops L i=true)(hr:(Region.ready md ops L).contains i=true)(hQ:∀c a w,Q (.panic c) (a.put oi.dst v) w->Q (.panic c) a w)(hS:S0 w/\S1 w)(hy:YieldsIf P ops S0 oi v a)(h:iZ P md ops Q (SG p S0 S1) n (L.setIfInBounds i true) (a.put oi.dst v) w):iZ P md ops Q (SG p S0 S1) (n+1) L a w:=
 Ia (C:=λ_=>True) hi (Region.noSelect_spec hs) hQ (λ_ _ _ _ _ _=>trivial) (λL w h=>h.back JJ) n L a w trivial (Region.free_spec hi hf) (by simpa using hr) (Oi hy λw ⟨_,_,h⟩=>h.1) ⟨hS.1,λ_=>hS.2⟩ h ⟨hS.1,λ_=>hS.2⟩
theorem jM {i oi op v n L a w}(hi:ops[i]? =some oi)(JJ:i≠p)(hs:Region.noSelect ops=true)(hf:Region.free md ops L i=true)(hr:(Region.ready md ops L).contains i=true)(hop:ops[p]? =some op)(hw:(op.after.toList.any λe=>Region.binds md e&&e.on==i)=true)(hLp:L.getD p true=false)(hQ:∀c a w,Q (.panic c) (a.put oi.dst v) w->Q (.panic c) a w)(hS:S0 w/\S1 w)(hy:YieldsIf P ops (λw=>S0 w/\S1 w) oi v a)(h:iZ P md ops Q (SG p S0 S1) n (L.setIfInBounds i true) (a.put oi.dst v) w):iZ P md ops Q (SG p S0 S1) (n+1) L a w:=
 Ia (C:=λL=>L.getD p true=false) hi (Region.noSelect_spec hs) hQ
  (λL j hL sQ X9 hj=>by
   by_cases hjp:j=p
   .exfalso;subst hjp;obtain⟨_,o,ho,lK⟩:=mem_ready.1 hj;rw[hop]at ho;injection ho with ho;subst ho
    obtain⟨e,he,hb⟩:=xM.1 hw;simp only[xK,beq_iff_eq]at hb;have h1:=lK e (by simpa using he) hb.1;rw[hb.2]at h1;rcases Nat.lt_or_ge i L.size with h' |h'
    .simp[h']at X9 h1;rw[X9]at h1;cases h1
    .simp[Array.getElem?_eq_none h']at h1
   .show(L.setIfInBounds j true).getD p true=false
    rw[getD_set_ne true hjp];exact hL)
  (λL w h=>h.back JJ) n L a w hLp (Region.free_spec hi hf) (by simpa using hr) (Oi hy λw ⟨_,hc,h⟩=>⟨h.1,h.2 hc⟩) ⟨hS.1,λ_=>hS.2⟩ h ⟨hS.1,λ_=>hS.2⟩
theorem WR {k o n L a w}(hr:Region.ready md ops L=[k])(ho:ops[k]? =some o)(h:∀K':Act->World->Prop,Hid (∀a w',SG p S0 S1 (L.setIfInBounds k true) w'->iZ P md ops Q (SG p S0 S1) n (L.setIfInBounds k true) a w'->K' a w')->if Region.wanted o (yielded ops a.tmps)=true then Oper.wp P o a w K' Q else K' (a.put o.dst undef) w):iZ P md ops Q (SG p S0 S1) (n+1) L a w:=by
 refine⟨(λh0=>by rw[h0]at hr;cases hr),λi hi=>?_⟩;rw[hr]at hi;rcases xB.1 hi with rfl
 exact wpOp_step ho λK' hK=>h K' (Hd λa w' h1 h2=>hK a w' ⟨h1,h2⟩)
theorem WS {L a w S}(hr:Region.ready md ops L=[])(h:Q .normal a w):∀n,iZ P md ops Q S n L a w
 |0=>⟨hr,h⟩
 |_+1=>⟨λ_=>h,by rw[hr];simp⟩
theorem aK {α:Type}:(∀(l:List α)(i:Nat)(a:α),l.toArray.setIfInBounds i a=(l.set i a).toArray)/\(∀(x:α)(l:List α)(a:α),(x::l).set 0 a=a::l)/\(∀(x:α)(l:List α)(i:Nat)(a:α),(x::l).set (i+1) a=x::l.set i a):=⟨λ_ _ _=>List.setIfInBounds_toArray ..,λ_ _ _=>rfl,λ_ _ _ _=>rfl⟩
theorem aq {oi:Oper}{v:Value}{n:Nat}{L:Array Bool}{a:Act}{w:World}(i:Nat)(hi:ops[i]? =some oi)(hS:S0 w/\S1 w)(h:iZ P md ops Q (SG p S0 S1) n (L.setIfInBounds i true) (a.put oi.dst v) w)(hg:Region.wanted oi (yielded ops a.tmps)=true:=by first|(with_reducible rfl)|go_simp)(hy:∀W,S0 W->(execOp a.eval oi).run P W=.ok (.value v) W:=by intro W hW;(try dsimp only at hW);go_simp<;>with_reducible rfl)(JJ:i≠p:=by decide)(hs:Region.noSelect ops=true:=by kernel_rfl)(hf:Region.free md ops L i=true:=by kernel_rfl)(hr:(Region.ready md ops L).contains i=true:=by kernel_rfl)
 (hQ:∀c a w,Q (.panic c) (a.put oi.dst v) w->Q (.panic c) a w:=by exact λ_ _ _ h=>h):iZ P md ops Q (SG p S0 S1) (n+1) L a w:=bm hi JJ hs hf hr hQ hS (.inl ⟨hg,hy⟩) h
theorem dw {oi:Oper}{v:Value}{n:Nat}{L:Array Bool}{a:Act}{w:World}(i:Nat)(hi:ops[i]? =some oi)(hS:S0 w/\S1 w)(h:iZ P md ops Q (SG p S0 S1) n (L.setIfInBounds i true) (a.put oi.dst v) w)(hg:Region.wanted oi (yielded ops a.tmps)=true:=by rfl)(hy:∀W,S0 W->(execOp a.eval oi).run P W=.ok (.value v) W:=by intro W hW;(try dsimp only at hW);go_simp<;>with_reducible rfl)(JJ:i≠p:=by decide)(hs:Region.noSelect ops=true:=by kernel_rfl)(hf:Region.free md ops L i=true:=by kernel_rfl)(hr:(Region.ready md ops L).contains i=true:=by kernel_rfl)
 (hQ:∀c a w,Q (.panic c) (a.put oi.dst v) w->Q (.panic c) a w:=by exact λ_ _ _ h=>h):iZ P md ops Q (SG p S0 S1) (n+1) L a w:=bm hi JJ hs hf hr hQ hS (.inl ⟨hg,hy⟩) h
theorem Gs {o:Oper}{n:Nat}{L:Array Bool}{a:Act}{w:World}(k:Nat)(ho:ops[k]? =some o)
 (h:∀K':Act->World->Prop,Hid (∀a w',SG p S0 S1 (L.setIfInBounds k true) w'->iZ P md ops Q (SG p S0 S1) n (L.setIfInBounds k true) a w'->K' a w')->if Region.wanted o (yielded ops a.tmps)=true then Oper.wp P o a w K' Q else K' (a.put o.dst undef) w)(hr:Region.ready md ops L=[k]:=by kernel_rfl):iZ P md ops Q (SG p S0 S1) (n+1) L a w:=WR hr ho h
theorem Gd {L:Array Bool}{a:Act}{w:World}{S:Array Bool->World->Prop}(n:Nat)(h:Q .normal a w)(hr:Region.ready md ops L=[]:=by kernel_rfl):iZ P md ops Q S n L a w:=WS hr h n
theorem nV {oi:Oper}{n:Nat}{L:Array Bool}{a:Act}{w:World}(i:Nat)(hi:ops[i]? =some oi)(hS:S0 w/\S1 w)(h:iZ P md ops Q (SG p S0 S1) n (L.setIfInBounds i true) (a.put oi.dst undef) w)(hg:Region.wanted oi (yielded ops a.tmps)=false:=by first|(go_simp;done)|(go_simp;exact λh=>by cases h))(JJ:i≠p:=by decide)(hs:Region.noSelect ops=true:=by kernel_rfl)(hf:Region.free md ops L i=true:=by kernel_rfl)(hr:(Region.ready md ops L).contains i=true:=by kernel_rfl)
 (hQ:∀c a w,Q (.panic c) (a.put oi.dst undef) w->Q (.panic c) a w:=by exact λ_ _ _ h=>h):iZ P md ops Q (SG p S0 S1) (n+1) L a w:=bm hi JJ hs hf hr hQ hS (.inr ⟨hg,rfl⟩) h
theorem aC {id a w}(hm:P.follows .mixedOrders=true)(h:iZ P .any ops Q (SG p S0 S1) ops.size (Array.replicate ops.size false) a w.drew):(Code.region id ops true).wp P Q a w:=
 wp_region_any hm (Ej _ _ _ _ h)
end
set_option linter.unusedSimpArgs false
namespace di
open cH
theorem JK {w B g nl vk vl au l}(h:DX w B g vk vl au nl l)(hm:nO (l.map (·.1)))(c)(hc:c.kd=4)(A d):
  Cl 71 #[.pointer (some ⟨g,0,none⟩),.agg #[.int .i64 c.kd,.string c.ty,.string c.at_,.string c.nm,.slice A c.ats.length d,.int .i64 c.n]] w (dV (l.map (·.1)) c B g nl w):=by
 have yA:l.length<=1048576:=by have:=hm.len;simp at this;omega
 have h0:Bw w (w.alloc (.cells ⟨je c A d⟩ 73)):=bA;have iz:ao (w.alloc (.cells ⟨je c A d⟩ 73)) w.heap.size 73 (je c A d):=ao.new _ _ _;have fM:=BF (h.stay h0) yA c.ty;have hg:=h.bx.lt;have sv:B<=w.heap.size:=zU h.gB (Nat.le_of_lt hg);cases hty:eu (l.map (·.1)) c.ty with
 |none=>
  rw[hty,show cm none= -1 from rfl]at fM;have hch:=Hd (vU (l:=l.map (·.1)) (c:=c) oQ hty);replace⟨fM,h0⟩:=H2 fM h0;clear h hm iz hc;go_enter func71,ntmps71;go_wp2_with (go_at_call 116;refine fM.o.mono ?_;rintro e w' ⟨rfl,az⟩);go_ret;exact dV.du hch.o ((h0.o.trans (az.mono h0.o.size)).mono sv)
 |some i=>
  rw[hty,show cm (some i)=(i:Int)from rfl]at fM;obtain⟨p1,fR⟩:=av (lC hty);rw[zG]at fR;obtain⟨p,hp,rfl⟩:=xG.1 fR;have fR:(l.map (·.1))[i]? =some p.1:=by rw[zG,hp];rfl
  have fe:=zA hp;have yB:p.1.fs.length<=8:=hm.fl p.1 (xJ fe);have BG:i<l.length:=(zC.1 hp).1;have g0:=aH i;have g1:=aV i l.length;obtain⟨gk,cap,rfl,h1,h2,_⟩:=h.at_ hp;obtain⟨A2,c2,pT⟩:=(h.fr p fe).form;have hch:=H' (fs:=p.1.fs++[⟨c.nm,-1,c.n⟩]) oQ oQ hty fR (by unfold jx;rw[if_pos hc]);have kc:∀W,Bw w W->W.cell? ⟨g,0,none⟩=some (.slice (some ⟨gk,0,none⟩) l.length cap)/\W.cell? ⟨gk,i*3+2,none⟩=some (.slice A2 p.1.fs.length c2)/\W.frozen? ⟨gk,i*3+2,none⟩=false:=λW hW=>by
   obtain⟨a1,_,_,a2,a3⟩:=(h.stay hW).at' hp;rw[pT]at a2;exact⟨a1,a2,a3 _⟩
  have ko:∀W,Bw w W->OL W B bE 117 3 (.slice A2 p.1.fs.length c2) p.1.fs.length (p.1.fs.flatMap dt):=λW hW=>by
   have:=(h.stay hW).fr p fe;rw[pT]at this;exact this
  have kn:∀W W1,Bw w W->W.grownBy W1 (Value.slice A2 p.1.fs.length c2).ownBlock->W1.cell? ⟨g,0,none⟩=some (.slice (some ⟨gk,0,none⟩) l.length cap)/\W1.cell? ⟨gk,i*3+2,none⟩=some (.slice A2 p.1.fs.length c2)/\W1.frozen? ⟨gk,i*3+2,none⟩=false:=λW W1 hW Oj=>by
   obtain⟨a1,a2,a3⟩:=kc W hW;have hx:=h.stay hW;have n1:(Value.slice A2 p.1.fs.length c2).ownBlock≠some g:=(ko W hW).aU hx.bx dQ;have n2:(Value.slice A2 p.1.fs.length c2).ownBlock≠some gk:=(ko W hW).jt hx.kr dQ;have ch:W1.heap[gk]? =W.heap[gk]? :=Oj.block gk (zF h2 hW.size) (λe=>n2 e.symm);exact⟨Oj.cell a1 (λe=>n1 e.symm),(World.cell?_of_block (a:=⟨gk,i*3+2,none⟩) ch).trans a2,(World.frozen?_of_block (a:=⟨gk,i*3+2,none⟩) ch).trans a3⟩
  have kx:∀W,Bw w W->some w.heap.size≠(Value.slice A2 p.1.fs.length c2).ownBlock:=λW hW e=>by have:=((ko w bR).lt _ e.symm).2;omega
  have JL:gk≠g:=λe=>h.kr.aU h.bx dQ (by rw[<-e];rfl)
  have kd:∀W W1 v',Bw w W->W.grownBy W1 (Value.slice A2 p.1.fs.length c2).ownBlock->OL W1 B bE 117 3 v' (p.1.fs.length+1) (p.1.fs.flatMap dt++dt ⟨c.nm,-1,c.n⟩)->(v'.ownBlock=(Value.slice A2 p.1.fs.length c2).ownBlock\/v'.ownBlock=some W.heap.size)->
    DX (W1.setCell ⟨gk,i*3+2,none⟩ v') B g (.slice (some ⟨gk,0,none⟩) l.length cap) vl au nl (l.set i ({p.1 with fs:=p.1.fs++[⟨c.nm,-1,c.n⟩]},v'))/\Below B w (W1.setCell ⟨gk,i*3+2,none⟩ v'):=λW W1 v' hW Oj hv hvn=>by
   refine⟨(h.stay hW).WN hp Oj (.inr (by rw[pT])) (by simpa using hv) ?_,?_⟩
   .rcases hvn with e |e
    .rw[pT];exact .inl e
    .exact .inr λq hq=>by rw[e]at hq;injection hq with hq;omega
   .exact((hW.mono sv).grown Oj (zU sv hW.size) (λq hq=>((ko W hW).lt q hq).1)).setCell h1 _
  have uj:∀v',(l.set i ({p.1 with fs:=p.1.fs++[⟨c.nm,-1,c.n⟩]},v')).map (·.1)=(l.map (·.1)).set i {p.1 with fs:=p.1.fs++[⟨c.nm,-1,c.n⟩]}:=λv'=>jc
  replace⟨hch,fM,h0,iz,kc,ko,kn,kx,kd,uj⟩:=yX hch fM h0 iz kc ko kn kx kd uj;clear h hm hp fR fe hty hc pT;go_enter func71,ntmps71;go_upto_region 3 with(go_at_call 116;refine fM.o.mono ?_;rintro e w' ⟨rfl,az⟩)
  have a9:=Hd (h0.o.trans (az.mono h0.o.size));obtain⟨q0,q1,q2⟩:=kc.o w' a9.o;have q3:w'.cell? ⟨w.heap.size,3,none⟩=some (.string c.nm):=(iz.o.stay az).cell 3;have q4:w'.cell? ⟨w.heap.size,5,none⟩=some (.int .i64 c.n):=(iz.o.stay az).cell 5;have aX:=Hd (show Bw w (w'.alloc (.cells ⟨jA ⟨c.nm,-1,c.n⟩⟩ 117))from a9.o.alloc a9.o.size _);have hsz:w.heap.size<w'.heap.size:=(iz.o.stay az).lt;have J1:=Hd (iz.o.stay az);have Io:gk<w'.heap.size:=oQ;have wH:g<w'.heap.size:=oQ;have aj9:=Hd az;clear az;have ak:(w'.drew.cell? ⟨g,0,none⟩=some (.slice (some ⟨gk,0,none⟩) l.length cap)/\w'.drew.cell? ⟨w.heap.size,3,none⟩=some (.string c.nm)/\w'.drew.cell? ⟨w.heap.size,5,none⟩=some (.int .i64 c.n))/\w'.drew.cell? ⟨gk,i*3+2,none⟩=some (.slice A2 p.1.fs.length c2):=⟨⟨q0,q3,q4⟩,q1⟩;refine aC (p:=19) (S0:=λW=>W.cell? ⟨g,0,none⟩=some (.slice (some ⟨gk,0,none⟩) l.length cap)/\W.cell? ⟨w.heap.size,3,none⟩=some (.string c.nm)/\W.cell? ⟨w.heap.size,5,none⟩=some (.int .i64 c.n)) (S1:=λW=>W.cell? ⟨gk,i*3+2,none⟩=some (.slice A2 p.1.fs.length c2)) kQ ?_;refine' dw 0 rfl ak ?_;refine' dw 1 rfl ak ?_;refine' dw 2 rfl ak ?_;refine' dw 3 rfl ak ?_;refine' dw 4 rfl ak ?_;refine' dw 5 rfl ak ?_;refine' dw 6 rfl ak ?_;refine' dw 7 rfl ak ?_;refine' dw 8 rfl ak ?_;refine' dw 9 rfl ak ?_;refine' dw 10 rfl ak ?_;refine' dw 11 rfl ak ?_;try simp only[Act.put,aK]
  refine' jM (i:=12) (v:=_) rfl dQ kQ kQ kQ rfl kQ kQ (λ_ _ _ h=>h) ak (.inl ⟨by rfl,?afg⟩) ?afh
  case afg=>(intro W hW;(try dsimp only at hW);go_simp<;>with_reducible rfl)
  refine' dw 13 rfl ak ?_;refine' dw 14 rfl ak ?_;refine' dw 15 rfl ak ?_;refine' dw 16 rfl ak ?_;refine' dw 17 rfl ak ?_;try simp only[Act.put,aK]
  refine Gs 18 rfl λK hK=>?_
  go_simp;refine hK.o _ _ ⟨?_,λ_=>?_⟩ ?_
  .exact⟨(kc.o _ aX.o).1,(J1.o.alloc _).cell 3,(J1.o.alloc _).cell 5⟩
  .exact(kc.o _ aX.o).2.1
  refine Gs 19 rfl λK hK=>?_
  refine dj (by rfl) (.tmp 24) (.tmp 30) _ (by rfl) (m:=1) (news:=dt ⟨c.nm,-1,c.n⟩) gZ (by exact(ko.o _ aX.o).drew) (by rfl) (by rfl) (by exact(Src.lit (gY w' _ ⟨c.nm,-1,c.n⟩)).drew) rfl oQ oQ (by simp;omega) ?_;intro v' w1 ax aw bu;obtain⟨B3,d3,rfl⟩:=ax.form;have mc:=iD aw;obtain⟨t0,t1,t2⟩:=kn.o _ _ aX.o mc;have uN:=((J1.o.alloc (.cells ⟨jA ⟨c.nm,-1,c.n⟩⟩ 117)).grown mc (kx.o _ aX.o));have wb:(w1.cell? ⟨g,0,none⟩=some (.slice (some ⟨gk,0,none⟩) l.length cap)/\w1.cell? ⟨w.heap.size,3,none⟩=some (.string c.nm)/\w1.cell? ⟨w.heap.size,5,none⟩=some (.int .i64 c.n))/\w1.cell? ⟨gk,i*3+2,none⟩=some (.slice A2 p.1.fs.length c2):=⟨⟨t0,uN.cell 3,uN.cell 5⟩,t1⟩;refine hK.o _ _ ⟨wb.1,λ_=>wb.2⟩ ?_;obtain⟨f1,f2⟩:=kd.o _ _ _ aX.o mc ax bu;replace⟨f1,f2⟩:=H2 f1 f2;clear aw mc ax bu uN hK K;refine' dw 20 rfl wb ?_;refine' dw 21 rfl wb ?_;try simp only[Act.put,aK]
  refine Gs 22 rfl λK hK=>?_
  go_simp;refine hK.o _ _ ⟨?_,λh=>absurd (h.symm.trans (by kernel_rfl:_=true)) sJ⟩ ?_
  .obtain⟨⟨s0,s1,s2⟩,s3⟩:=wb;refine⟨?_,?_,?_⟩
   .rw[World.cell?_setCell_far _ _ _ _ (by show gk≠g;exact JL)];exact s0
   .rw[World.cell?_setCell_far _ _ _ _ (by show gk≠w.heap.size;omega)];exact s1
   .rw[World.cell?_setCell_far _ _ _ _ (by show gk≠w.heap.size;omega)];exact s2
  refine Gd _ ?_;try simp only[Act.put,aK]
  clear hK K wb ak t0 t1 t2 q0 q1 q2 q3 q4;go_wp2;go_ret;exact dV.ey hch.o f1.o (uj.o _) rfl f2.o
end di
theorem qJ {α β:Type}{f:α->List β}{m}(hf:∀x,(f x).length=m):∀(l:List α)(i:Nat),(l.flatMap f).take (i*m)++(l.flatMap f).drop ((i+1)*m)=(l.eraseIdx i).flatMap f:=by
 intro l;induction l with
 |nil=>intro i;simp
 |cons a l ih=>
  intro i;cases i with
  |zero=>
   rw[zK,Nat.zero_mul,List.take_zero,List.nil_append,Nat.zero_add,Nat.one_mul,<-hf a,List.drop_left];rfl
  |succ i=>
   have e1:(i+1)*m=m+i*m:=by rw[Nat.succ_mul];omega
   have e2:(i+1+1)*m=m+(i+1)*m:=by rw[Nat.succ_mul (i+1)];omega
   rw[List.eraseIdx_cons_succ,zK,zK,<-ih i,e2,e1,List.take_append,List.drop_append,hf a,xH (by rw[hf a];omega),List.drop_of_length_le (by rw[hf a];omega),List.nil_append,zR,
    show m+i*m-m=i*m by omega,show m+(m+i*m) -m=m+i*m by omega]
theorem TK (w G a b c):fB w G (Tj a b c) (lsD a b c):=⟨.v _ rfl,.v _ rfl,.v _ rfl,trivial⟩
theorem Z' {t c i}(h:c.kd=2)(ht:eu t c.ty=some i):l6 t c=some (t.eraseIdx i):=by
 unfold l6;rw[if_neg oQ,if_pos oQ,ht];show(if _ then _ else _)=_
 rw[if_pos h]
theorem xv {l:List (Kd×Value)}{i}:(l.eraseIdx i).map (·.1)=(l.map (·.1)).eraseIdx i:=by
 apply List.ext_getElem?;intro j;simp only[zG,List.getElem?_eraseIdx];split<;>rfl
section
variable {w:World}{B g:Nat}{nl:List Ls}{vk vl:Value}{au:Int}{l:List (Kd×Value)}
theorem DX.TL {W1}(h:DX w B g vk vl au nl l)(hg:w.grownBy W1 vl.ownBlock):W1.cell? ⟨g,0,none⟩=some vk/\W1.cell? ⟨g,1,none⟩=some vl/\W1.frozen? ⟨g,1,none⟩=false:=by
 have qP:=h.lr;have n1:vl.ownBlock≠some g:=qP.aU h.bx dQ;exact⟨hg.cell h.c0 (λe=>n1 e.symm),hg.cell h.c1 (λe=>n1 e.symm),(World.frozen?_of_block (a:=⟨g,1,none⟩) (hg.block g h.bx.lt (λe=>n1 e.symm))).trans (h.bx.frozen 1)⟩
theorem DX.Ok {W1}(h:DX w B g vk vl au nl l)(hg:w.grownBy W1 vk.ownBlock):W1.cell? ⟨g,0,none⟩=some vk/\W1.frozen? ⟨g,0,none⟩=false:=by
 have n1:vk.ownBlock≠some g:=h.kr.aU h.bx dQ;exact⟨hg.cell h.c0 (λe=>n1 e.symm),(World.frozen?_of_block (a:=⟨g,0,none⟩) (hg.block g h.bx.lt (λe=>n1 e.symm))).trans (h.bx.frozen 0)⟩
theorem DX.Ol {w0 W1 x}(h:DX w B g vk vl au nl l)(hb:Below B w0 w)(hg:w.grownBy W1 vl.ownBlock):Below B w0 (W1.setCell ⟨g,1,none⟩ x):=by
 have qP:=h.lr;exact(hb.grown hg (zU h.gB (Nat.le_of_lt h.bx.lt)) (λq hq=>(qP.lt q hq).1)).setCell h.gB _
theorem DX.Gy {w0 W1 x}(h:DX w B g vk vl au nl l)(hb:Below B w0 w)(hg:w.grownBy W1 vk.ownBlock):Below B w0 (W1.setCell ⟨g,0,none⟩ x):=
 (hb.grown hg (zU h.gB (Nat.le_of_lt h.bx.lt)) (λq hq=>(h.kr.lt q hq).1)).setCell h.gB _
end
namespace di
open cH
theorem Gz {w B g nl vk vl au l}(h:DX w B g vk vl au nl l)(hm:nO (l.map (·.1)))(tK:nl.length<=1048576)(c)(hc:c.kd=2)(A d):
  Cl 69 #[.pointer (some ⟨g,0,none⟩),.agg #[.int .i64 c.kd,.string c.ty,.string c.at_,.string c.nm,.slice A c.ats.length d,.int .i64 c.n]] w (dV (l.map (·.1)) c B g (nl++iX (l.map (·.1)) c au) w):=by
 have yA:l.length<=1048576:=by have:=hm.len;simp at this;omega
 have h0:Bw w (w.alloc (.cells ⟨je c A d⟩ 73)):=bA;have fM:=BF (h.stay h0) yA c.ty;have hg:=h.bx.lt;have sv:B<=w.heap.size:=zU h.gB (Nat.le_of_lt hg);cases hty:eu (l.map (·.1)) c.ty with
 |none=>
  rw[hty,show cm none= -1 from rfl]at fM;have hch:=Hd (vU (l:=l.map (·.1)) (c:=c) oQ hty);replace⟨fM,h0⟩:=H2 fM h0;clear h hm hc;go_enter func69,ntmps69;go_wp2_with (go_at_call 116;refine fM.o.mono ?_;rintro e w' ⟨rfl,az⟩);go_ret;exact dV.du hch.o ((h0.o.trans (az.mono h0.o.size)).mono sv)
 |some i=>
  rw[hty,show cm (some i)=(i:Int)from rfl]at fM;obtain⟨p1,fR⟩:=av (lC hty);rw[zG]at fR;obtain⟨p,hp,rfl⟩:=xG.1 fR;have BG:i<l.length:=(zC.1 hp).1;have g0:=aH i;have g1:=aV i l.length;obtain⟨gk,cap,rfl,h1,h2,_⟩:=h.at_ hp;have qP:=h.lr;have ud:=Hd (show nl++[⟨p.1.fr,-2,au⟩]=nl++iX (l.map (·.1)) c au by rw[Mf hc hty (p:=p.1) (by rw[zG,hp];rfl)]);obtain⟨A3,c3,rfl⟩:=qP.form;have hch:=Z' hc hty;have kc:∀W,Bw w W->W.cell? ⟨g,0,none⟩=some (.slice (some ⟨gk,0,none⟩) l.length cap)/\W.cell? ⟨g,1,none⟩=some (.slice A3 nl.length c3)/\W.cell? ⟨g,2,none⟩=some (.int .i64 au)/\W.cell? ⟨gk,i*3+1,none⟩=some (.int .i64 p.1.fr):=λW hW=>by
   have hx:=h.stay hW;obtain⟨a1,_,a2,_,_⟩:=hx.at' hp;exact⟨a1,hx.c1,hx.c2,a2⟩
  have ko:∀W,Bw w W->OL W B bE 141 3 (.slice A3 nl.length c3) nl.length (nl.flatMap Jj):=λW hW=>qP.stay hW
  have kd:=λW (hW:Bw w W)=>h.stay hW
  have uj:=Hd (show (l.eraseIdx i).map (·.1)=(l.map (·.1)).eraseIdx i from xv);have hel:=Hd (show (l.eraseIdx i).length=l.length-1 from List.length_eraseIdx_of_lt BG);replace⟨hch,fM,h0,kc,ko,kd⟩:=H6 hch fM h0 kc ko kd;clear h hm hp fR hty hc qP;go_enter func69,ntmps69;go_upto_region 4 with(go_at_call 116;refine fM.o.mono ?_;rintro e w' ⟨rfl,az⟩)
  have a9:=Hd (h0.o.trans (az.mono h0.o.size));obtain⟨q0,q1,q2,q3⟩:=kc.o w' a9.o;have aX:=Hd (show Bw w (w'.alloc (.cells ⟨Tj p.1.fr (-2) au⟩ 141))from a9.o.alloc a9.o.size _);have hsz:w.heap.size<=w'.heap.size:=a9.o.size;have Io:gk<w'.heap.size:=oQ;have wH:g<w'.heap.size:=oQ;clear az;go_region_law ((refine dj (by rfl) (.tmp 16) (.tmp 30) _ (by rfl) (m:=1) (news:=lsD p.1.fr (-2) au) Oc (by exact(ko.o _ aX.o).drew) (by rfl) (by rfl) (by exact(Src.lit (TK w' _ p.1.fr (-2) au)).drew) rfl oQ oQ (by simp;omega) ?_;intro v' w1 ax aw bu;obtain⟨B3,d3,rfl⟩:=ax.form;have mc:=iD aw;obtain⟨t0,t1,t2⟩:=(kd.o _ aX.o).TL mc))
  all_goals
   have hD:=(kd.o _ aX.o).Z5 (nl':=nl++[⟨p.1.fr,(-2),au⟩]) mc (by rw[zH,xD];exact ax);have Rg:=Hd ((kd.o _ aX.o).Ol (x:=.slice B3 (nl.length+1) d3) (aX.o.mono sv) mc);have JM:=Hd (JH B gk cap l.length i bE (l.flatMap ug) _ hD.kr BG);replace hD:=Hd hD;clear aw mc ax bu;go_wp2_with (go_at_call 117;refine JM.o.mono ?_;rintro e w3 ⟨rfl,qM,hg3⟩;obtain⟨s0,s1⟩:=hD.o.Ok hg3);rw[qJ (f:=ug) (m:=3) (λ_=>rfl),<-hel.o]at qM;have ae:=hD.o.Z6 hg3 qM (λq hq=>.inl (cZ hq)) (hD.o.Og i);have tD:=hD.o.Gy (x:=.slice (some ⟨gk,0,none⟩) (l.eraseIdx i).length cap) Rg.o hg3;rw[hel.o]at ae tD;go_ret;exact dV.ey hch.o ae uj.o ud.o tD
end di
