/- The document's Explain. -/
import Derived.Test.YthaabihjeomipaaGreatDoorQN8
namespace Go.Proofs.YthaabihjeomipaaGreatDoor
set_option maxRecDepth 100000
set_option maxHeartbeats 16000000
open Go.RowKit Go.Deep
set_option linter.unusedVariables false
set_option linter.unusedSimpArgs false
noncomputable def txC (l:List Td)(q:Qy):ByteArray:=if linC l q=0 then txtL (linL q)else emp
def TxP (l:List Td)(q:Qy)(w:World)(e:Ending)(w':World):Prop:=e=.returned (.tuple #[.string (txC l q),.int .i64 (linC l q)])∧Bw w w'
theorem lin_chk0 {l:List Td}{q:Qy}(h:linC l q=0):checkC (scC l) l q=0:=Classical.byContradiction fun hc=>hc (by rw[←lin_chk hc];exact h)
theorem lay_size {R:List Rw}{k:Int}{o:Bool}{h x:ByteArray}{b:Nat}(hb:∀r∈R,r.tx.size≤b)(hx:x∈layL R k o h):x.size≤h.size+b:=by
 unfold layL at hx;obtain⟨y,hy,rfl⟩:=List.mem_map.1 hx;have hy:=mem_srt.1 hy;unfold selR at hy;obtain⟨r,hr,rfl⟩:=List.mem_map.1 hy;have:=hb r (List.mem_filter.1 hr).1;rw[ByteArray.size_append];omega
theorem row_size {l:List Td}{q:Qy}(hok:LnOk l q)(hs:SzQ q)(hmw:SzM q.wh):∀r∈rowsQ q,r.tx.size≤26000:=fun r hr=>by
 unfold rowsQ at hr;obtain⟨i,hi,rfl⟩:=List.mem_map.1 hr;obtain⟨j,hj⟩:=zN hi;obtain⟨hne,ht,b,hsp,e,_⟩:=conj_at hok hj;have h1:=(pln_ok (q:=q) hs.il (subL_sz hsp hs.wh) (ndok_sub (nd_ok ht hmw))).2;show(exT (pln q (subT q.wh i))).size≤_
 rw[e];exact exT_size h1
theorem lin_size {l:List Td}{q:Qy}(hok:LnOk l q)(hs:SzQ q)(hmw:SzM q.wh)(hmr:∀t∈q.ret,SzM t):∀x∈linL q,x.size≤33554432:=fun x hx=>by
 have hr:=row_size hok hs hmw;have z1:ownB.size=6:=rfl;have z2:asksB.size=7:=rfl;have z3:alwB.size=7:=rfl;have z4:resB.size=7:=rfl;have z5:spB.size=1:=rfl;unfold linL at hx;rcases List.mem_cons.1 hx with rfl |hx
 ·have h1:=modW_size q.mode;have h2:=aftW_size q.after;have h3:=itoaB_size q.within (by have:=hok.wi;omega) (by have:=hok.wi;omega);have h4:=keyT_size hs.by_;have q1:(⟨#[109,111,100,101,32]⟩:ByteArray).size=5:=rfl;have q2:(⟨#[32,97,102,116,101,114,32]⟩:ByteArray).size=7:=rfl;have q3:(⟨#[32,119,105,110,100,111,119,32]⟩:ByteArray).size=8:=rfl;have q4:(⟨#[32,107,101,121,32]⟩:ByteArray).size=5:=rfl;rw[headL_eq];simp only[ByteArray.size_append,q1,q2,q3,q4];omega
 rcases zM.1 hx with hx |hx
 ·obtain⟨i,y,hy,hx⟩:=mem_mapI hx;rw[Nat.zero_add]at hx;have hym:=zA hy;have hyl:=(zC.1 hy).1;unfold itmL at hx;rcases List.mem_cons.1 hx with rfl |hx
  ·have htz:=tysT_size (hok.ty y hym);have htl:=(hs.it y hym).1.1;have hnt:=hok.nt y hym;have hil:=hok.il;have hcn:=cmp_ng q i oQ;have i1:=itoaB_size (ngN q i) oQ oQ;have i2:=itoaB_size (cmpN q i) oQ oQ;have i3:=itoaB_size y.lo oQ oQ;have i4:=itoaB_size y.hi oQ oQ;have q1:(⟨#[110,101,103,97,116,101,100,32]⟩:ByteArray).size=8:=rfl;have q3:(⟨#[99,111,109,112,111,110,101,110,116,32]⟩:ByteArray).size=10:=rfl;unfold itemL;by_cases hn:y.neg=true
   ·rw[if_pos hn];simp only[ByteArray.size_append,q1,z5];omega
   ·rw[if_neg hn];simp only[ByteArray.size_append,q3,z5];omega
  rcases zM.1 hx with hx |hx
  ·have:=lay_size hr hx;omega
  ·have:=lay_size hr hx;omega
 rcases zM.1 hx with hx |hx
 ·have:=lay_size hr hx;omega
 ·obtain⟨t,ht,rfl⟩:=List.mem_map.1 hx;have:=exT_size (pln_ok (q:=q) hs.il (hs.re t ht) (nd_ok (hok.re t ht) (hmr t ht))).2;rw[ByteArray.size_append];omega
theorem txt_take {l:List ByteArray}{j:Nat}{x:ByteArray}(h:l[j]? =some x):txtL (l.take (j+1))=txtL (l.take j)++x++nlB:=by
 rw[zJ,h];exact txtL_snoc _ _
theorem txt_size {l:List ByteArray}{b:Nat}(h:∀x∈l,x.size≤b):∀j,(txtL (l.take j)).size≤(b+1)*j:=fun j=>by
 induction j with
 |zero=>rw[List.take_zero];exact zE _
 |succ j ih=>
  cases hx:l[j]? with
  |none=>
   have hn:=List.getElem?_eq_none_iff.1 hx;rw[xH oQ];rw[xH hn]at ih;rw[Nat.mul_succ];omega
  |some x=>
   have hb:=h x (zA hx);have z:nlB.size=1:=rfl;rw[txt_take hx,Nat.mul_succ,ByteArray.size_append,ByteArray.size_append];omega
namespace shR
open nmW shW ckW
theorem rexplain_k (A:Option Addr)(c:Nat)(F:Nat→Prop)(l:List Td)(q:Qy)(s:Sl3)(hl:SzT l)(hs:SzQ q)(hSB:SzB q)(hmw:SzM q.wh)(hmr:∀t∈q.ret,SzM t)(w:World)(hT:XT w)(hR:RT w)(R:QR w F q s)(r:Rd w F (.slice A l.length c) (.sl l.length (l.flatMap tdD))):
  Calls Tryz.prog 10 #[.agg ⟨[.slice A l.length c]⟩,.agg ⟨qV q s⟩] w (TxP l q w):=by
 have h0:=SQ.new l A c q s w;obtain⟨W0,hW0⟩:∃W0,W0=((w.alloc (.cells ⟨[.slice A l.length c]⟩ 24)).alloc (.cells ⟨qV q s⟩ 31)):=⟨_,rfl⟩
 rw[←hW0]at h0;have hb0:=h0.hb;obtain⟨y0,y1,y2,y3,y4,y5,y6⟩:=qbc h0.b1;have x0:=h0.b0.cell 0;have kl:=rlines_k A c F l q s hl hs hSB hmw hmr W0 (hT.stay hb0) (hR.stay hb0) (R.under hb0) (r.under hb0 R.lt);have hlz:linC l q=0→(∀x∈linL q,x.size≤33554432)∧(linL q).length≤33554432:=fun h=>by
  have hok:=ln_ok (lin_chk0 h);refine⟨lin_size hok hs hmw hmr,?_⟩;rw[←L3_all];exact L3_len _ hok.il hok.rl (by unfold rowsQ;rw[xC];exact zU (roots_len hok) hs.wh.1)
 unfold LnP at kl;obtain⟨ec,hec⟩:∃ec,ec=linC l q:=⟨_,rfl⟩
 obtain⟨tx,htx⟩:∃tx,tx=txC l q:=⟨_,rfl⟩
 have htx0:ec=0→tx=txtL (linL q):=fun h=>by rw[htx];unfold txC;rw[if_pos (hec▸h)]
 have htx1:ec≠0→tx=emp:=fun h=>by rw[htx];unfold txC;rw[if_neg (hec▸h)]
 unfold TxP;rw[←hec]at kl hlz ⊢;rw[←htx];generalize linL q=L at kl hlz htx0;obtain⟨A1,c1,A2,c2,A3,c3⟩:=s;simp only[qV,zY]at hW0 y0 y1 y2 y3 y4 y5 y6 x0 kl ⊢;replace kl:=Hd kl;have hWW:=Hd hW0;replace hb0:=Hd hb0;replace hlz:=Hd hlz;replace htx0:=Hd htx0;replace htx1:=Hd htx1;clear hW0 h0 hec htx hT hR R r hl hs hSB hmw hmr;go_enter Tryz.func10,Tryz.ntmps10;go_upto_region 1 with fail
 rw[←hWW.out];go_upto_region 2 with(go_at_call 15;refine kl.out.mono ?_;rintro e W1 ⟨vl,rfl,h1,h2,hX1⟩)
 have hB1:=hb0.out.trans (hX1.mono hb0.out.size);clear hX1 kl hWW hb0 x0 y0 y1 y2 y3 y4 y5 y6;by_cases hs0:ec=0
 case neg=>
  have f2:=bneT hs0;have hd:=htx1.out hs0;subst hd;replace hs0:=Hd hs0;replace h1:=Hd h1;replace h2:=Hd h2;go_wp2;refine bodyPost_ret (results_tmp2 rfl _ _ _) rfl ?_;exact⟨rfl,hB1⟩
 have hO:=h1 hs0;obtain⟨hz,hll⟩:=hlz.out hs0;have htxt:=htx0.out hs0;subst hs0;obtain⟨A6,c6,rfl⟩:=hO.form;have hrd:=Hd (hO.rd (G:=fun _=>True) (fun _ h _=>h.elim) (fun _ _ _=>trivial));have hsz:=Hd (txt_size hz);replace hB1:=Hd hB1;replace hz:=Hd hz;replace htxt:=Hd htxt;clear hO h1 h2 hlz htx0 htx1;go_wp2;go_loopw [8,9] (fun a i w9=>w9=W1∧∃k:Nat,k≤L.length∧i=.int .i64 k∧a=.string (txtL (L.take k))) (fun _ i _=>L.length- (intOf i).toNat)
 case atStart=>exact⟨rfl,0,zE _,rfl,rfl⟩
 case round=>
  obtain⟨hwr,k,hk,rfl,rfl⟩:=hrel;obtain rfl:=hwr.symm;clear hwr;by_cases hlt2:k<L.length
  ·obtain⟨y,hx⟩:=getx hlt2;obtain⟨g,off,e,_,z0,_⟩:=hrd.out.rowv (f:=strD) (m:=1) (fun _=>rfl) hx oQ;have z0:=z0 0 _ rfl;simp only[Nat.add_zero,Nat.mul_one]at z0;subst e;have h0:(0:Int)≤(k:Int):=oQ;have h1:(k:Int)<L.length:=oQ;have hys:=hz.out y (zA hx);have hjs:(txtL (L.take k)).size≤33554433*k:=hsz.out k;have hrel:txtL (L.take k)++y++nlB=txtL (L.take (k+1)):=(txt_take hx).symm;have hS0:(txtL (L.take k)).size+y.size≤9223372036854775807:=oQ;have hS:(txtL (L.take k)++y).size+(⟨#[10]⟩:ByteArray).size≤9223372036854775807:=by rw[ByteArray.size_append];show _+_+1≤_;omega
   generalize txtL (L.take k)=S at hS hS0 hrel ⊢;replace hrel:=Hd hrel;clear hjs hx;go_wp2;go_roundw
   case rel=>exact⟨trivial,k+1,oQ,gQ,by rw[←hrel.out];rfl⟩
   case measure=>exact mQ
  ·obtain rfl:k=L.length:=oQ;have h1:¬(L.length:Int)<L.length:=oQ;rw[zL,←htxt.out];go_wp2;refine bodyPost_ret (results_tmp2 rfl _ _ _) rfl ?_;exact⟨rfl,hB1.out⟩
end shR
end Go.Proofs.YthaabihjeomipaaGreatDoor
