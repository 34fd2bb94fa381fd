/- A query's explanation in plain Lean. -/
import Derived.Test.YthaabihjeomipaaGreatDoorQM4
namespace Go.Proofs.YthaabihjeomipaaGreatDoor
set_option maxRecDepth 100000
set_option maxHeartbeats 16000000
open Go.RowKit Go.Deep
set_option linter.unusedVariables false
set_option linter.unusedSimpArgs false
noncomputable def exC (t:List Nd):Int:=
 if treeB t=false then 50 else if 400<t.length then 51 else if 400<(tkW t (t.length-1)).1.length then 51 else if 32<(tkW t (t.length-1)).2 then 41 else 0
noncomputable def exT (t:List Nd):ByteArray:=if exC t=0 then jn ((tkW t (t.length-1)).1.map spT)else emp
def vB:ByteArray:=⟨#[118]⟩
def rnv (q:Qy)(x:Nd):Nd:=if isVar x.op=true then {x with v:=vB++itoaB (itemI q x.v)}else x
def rnp (q:Qy)(x:Nd):Nd:=if x.v=emp then x else {x with v:=vB++itoaB (itemI q x.v)}
def pln (q:Qy)(t:List Nd):List Nd:=t.map (rnv q)
theorem isNm_ne {s:ByteArray}(h:isNm s=true):s≠emp:=fun e=>by
 rw[e]at h;have:isNm emp=false:=by
  refine isNm_false fun h=>?_
  have:=h.pos;exact absurd this dQ
 rw[this]at h;cases h
theorem fields_v {x:Nd}(h:fieldsB x=true):x.v=emp↔isVar x.op=false:=by
 unfold fieldsB at h;rw[xK,xK]at h;obtain⟨⟨_,h1⟩,_⟩:=h;by_cases c:isVar x.op=true
 ·rw[if_pos c]at h1;constructor
  ·intro e;exact absurd e (isNm_ne h1)
  ·intro e;rw[c]at e;cases e
 ·rw[if_neg c]at h1;exact⟨fun _=>by simpa using c,fun _=>of_decide_eq_true h1⟩
theorem rn_eq {q:Qy}{x:Nd}(h:fieldsB x=true):rnp q x=rnv q x:=by
 unfold rnp rnv;by_cases c:isVar x.op=true
 ·rw[if_pos c,if_neg (fun e=>by rw[(fields_v h).1 e]at c;cases c)]
 ·rw[if_neg c,if_pos ((fields_v h).2 (by simpa using c))]
theorem pln_prog {q:Qy}{t:List Nd}(h:∀x∈t,fieldsB x=true):t.map (rnp q)=pln q t:=List.map_congr_left fun x hx=>rn_eq (h x hx)
theorem fields_shift {x:Nd}(b:Nat)(h:fieldsB x=true):fieldsB (shiftN b x)=true:=h
theorem fields_sub {t:List Nd}{b r:Nat}(h:∀x∈t,fieldsB x=true):∀x∈subL t b r,fieldsB x=true:=fun x hx=>by
 unfold subL at hx;obtain⟨y,hy,rfl⟩:=List.mem_map.1 hx;exact fields_shift b (h y (List.mem_of_mem_drop (List.mem_of_mem_take hy)))
structure Rw where
 tx:ByteArray
 at_:Int
 own:Bool
noncomputable def rowQ (q:Qy)(r:Nat):Rw:=⟨exT (pln q (subT q.wh r)),(homeP q (subT q.wh r)).1,(homeP q (subT q.wh r)).2⟩
noncomputable def rootsQ (q:Qy):List Nat:=if q.wh=[]then []else conjs q.wh
noncomputable def rowsQ (q:Qy):List Rw:=(rootsQ q).map (rowQ q)
def selR (l:List Rw)(k:Int)(o:Bool):List ByteArray:=(l.filter fun r=>decide (r.at_=k)&&(r.own==o)).map (·.tx)
theorem selR_snoc (l:List Rw)(r:Rw)(k:Int)(o:Bool):selR (l++[r]) k o=selR l k o++if r.at_=k∧r.own=o then [r.tx]else []:=by
 unfold selR;rw[List.filter_append,xR];congr 1;by_cases c:r.at_=k∧r.own=o
 ·rw[if_pos c];simp[c.1,c.2]
 ·rw[if_neg c];have:(decide (r.at_=k)&&(r.own==o))=false:=by
   rw[Bool.and_eq_false_iff];by_cases c1:r.at_=k
   ·exact .inr (by simpa using fun h=>c ⟨c1,h⟩)
   ·exact .inl (by simpa using c1)
  simp[List.filter_cons,this]
def jnW (s:ByteArray):List ByteArray→ByteArray
 | []=>emp
 |x::r=>r.foldl (fun a y=>a++s++y) x
theorem jnW_snoc (s x y:ByteArray)(r:List ByteArray):jnW s (x::r++[y])=jnW s (x::r)++s++y:=by
 show(r++[y]).foldl (fun a y=>a++s++y) x=_
 rw[List.foldl_append];rfl
def barB:ByteArray:=⟨#[124]⟩
def tysT (x:It):ByteArray:=jnW barB (srt x.tys)
def modW (m:Int):ByteArray:=if m=1 then⟨#[78,69,88,84]⟩else if m=2 then⟨#[83,84,82,73,67,84]⟩else⟨#[65,78,89]⟩
def aftW (m:Int):ByteArray:=if m=1 then⟨#[78,69,88,84]⟩else if m=2 then⟨#[80,65,83,84]⟩else if m=3 then⟨#[79,78,67,69]⟩else⟨#[65,76,76]⟩
def dashB:ByteArray:=⟨#[45]⟩
def headL (q:Qy):ByteArray:=
 ⟨#[109,111,100,101,32]⟩++modW q.mode++⟨#[32,97,102,116,101,114,32]⟩++aftW q.after++⟨#[32,119,105,110,100,111,119,32]⟩++itoaB q.within++⟨#[32,107,101,121,32]⟩++(if q.by_=emp then dashB else q.by_)
def cmpN (q:Qy)(i:Nat):Nat:=((q.items.take i).filter fun x=> !x.neg).length
def ngN (q:Qy)(i:Nat):Nat:=((q.items.take i).filter fun x=>x.neg).length
theorem cmp_ng (q:Qy)(i:Nat)(h:i≤q.items.length):cmpN q i+ngN q i=i:=by
 unfold cmpN ngN;have key:∀l:List It,(l.filter fun x=> !x.neg).length+(l.filter fun x=>x.neg).length=l.length:=by
  intro l;induction l with
  |nil=>rfl
  |cons x r ih=>cases e:x.neg<;>simp[List.filter_cons,e]<;>omega
 rw[key,zO];omega
theorem cmpN_next {q:Qy}{i:Nat}{x:It}(h:q.items[i]? =some x):cmpN q (i+1)=cmpN q i+if x.neg=true then 0 else 1:=by
 unfold cmpN;rw[zJ,h,List.filter_append,zH];cases e:x.neg<;>simp[e]
theorem ngN_next {q:Qy}{i:Nat}{x:It}(h:q.items[i]? =some x):ngN q (i+1)=ngN q i+if x.neg=true then 1 else 0:=by
 unfold ngN;rw[zJ,h,List.filter_append,zH];cases e:x.neg<;>simp[e]
def itemL (q:Qy)(i:Nat)(x:It):ByteArray:=
 if x.neg=true then⟨#[110,101,103,97,116,101,100,32]⟩++itoaB (ngN q i)++spB++tysT x
 else⟨#[99,111,109,112,111,110,101,110,116,32]⟩++itoaB (cmpN q i)++spB++tysT x++spB++itoaB x.lo++spB++itoaB x.hi
def ownB:ByteArray:=⟨#[32,32,111,119,110,32]⟩
def asksB:ByteArray:=⟨#[32,32,97,115,107,115,32]⟩
def alwB:ByteArray:=⟨#[97,108,119,97,121,115,32]⟩
def resB:ByteArray:=⟨#[114,101,115,117,108,116,32]⟩
def layL (R:List Rw)(k:Int)(o:Bool)(h:ByteArray):List ByteArray:=(srt (selR R k o)).map (h++ ·)
def itmL (q:Qy)(R:List Rw)(i:Nat)(x:It):List ByteArray:=itemL q i x::(layL R i true ownB++layL R i false asksB)
noncomputable def linL (q:Qy):List ByteArray:=headL q::(mapI (itmL q (rowsQ q)) 0 q.items++(layL (rowsQ q) (-1) false alwB++q.ret.map fun t=>resB++exT (pln q t)))
noncomputable def linC (l:List Td)(q:Qy):Int:=fz (checkC (scC l) l q::((rootsQ q).map (fun r=>exC (pln q (subT q.wh r)))++q.ret.map fun t=>exC (pln q t)))
def nlB:ByteArray:=⟨#[10]⟩
def txtL (l:List ByteArray):ByteArray:=l.foldl (fun a y=>a++y++nlB) emp
theorem txtL_snoc (l:List ByteArray)(y:ByteArray):txtL (l++[y])=txtL l++y++nlB:=by unfold txtL;rw[List.foldl_append];rfl
theorem txt_jn:∀(l:List ByteArray),l≠ []→jnW nlB l++nlB=txtL l:=by
 intro l hl;obtain⟨x,r,rfl⟩:∃x r,l=x::r:=by cases l with |nil=>exact absurd rfl hl |cons x r=>exact⟨x,r,rfl⟩
 have key:∀(r:List ByteArray)(a:ByteArray),r.foldl (fun a y=>a++nlB++y) a++nlB=r.foldl (fun a y=>a++y++nlB) (a++nlB):=by
  intro r;induction r with
  |nil=>intro a;rfl
  |cons y s ih=>intro a;exact ih (a++nlB++y)
 show r.foldl (fun a y=>a++nlB++y) x++nlB=r.foldl (fun a y=>a++y++nlB) (emp++x++nlB)
 rw[key,show emp++x=x from ByteArray.empty_append]
def NdOk (t:List Nd):Prop:=∀x∈t,x.v.size≤64∧x.at_.size≤64∧ -9223372036854775808≤x.n∧x.n≤9223372036854775807
theorem sgK_ok {o:Int}(h1:12≤o)(h2:o≤26):tkOk (mkT (sgK o)):=by
 have:o=12∨o=13∨o=14∨o=15∨o=16∨o=17∨o=18∨o=19∨o=20∨o=21∨o=22∨o=23∨o=24∨o=25∨o=26:=oQ;unfold tkOk mkT;rcases this with h |h |h |h |h |h |h |h |h |h |h |h |h |h |h<;>subst h<;>simp[sgK,sgL]
theorem nmT_ok {s:ByteArray}(h:s.size≤64):tkOk (nmT s):=.inl ⟨rfl,h⟩
theorem mkT_ok {k:Int}(h:(3≤k∧k≤21)∨(30≤k∧k≤56)):tkOk (mkT k):=.inr (.inr (h.imp id id))
theorem leafT_ok {x:Nd}(hx:isLf x.op=true)(h:x.v.size≤64∧x.at_.size≤64∧ -9223372036854775808≤x.n∧x.n≤9223372036854775807):∀k∈leafT x,tkOk k:=by
 have ho:=isLf_op hx;obtain⟨h1,h2,h3,h4⟩:=h;unfold leafT;intro k hk
 (repeat' split at hk)<;>simp only[List.mem_cons,List.not_mem_nil,or_false]at hk
 ·subst hk;exact .inr (.inl ⟨rfl,h3,h4⟩)
 ·subst hk;exact mkT_ok oQ
 ·subst hk;exact mkT_ok oQ
 ·rcases hk with rfl |rfl |rfl |rfl
  ·exact mkT_ok oQ
  ·exact mkT_ok oQ
  ·exact nmT_ok h1
  ·exact mkT_ok oQ
 ·rcases hk with rfl |rfl |rfl
  ·exact nmT_ok h1
  ·exact mkT_ok oQ
  ·exact nmT_ok h2
 ·rcases hk with rfl |rfl |rfl |rfl |rfl |rfl
  ·exact mkT_ok oQ
  ·exact mkT_ok oQ
  ·exact nmT_ok h1
  ·exact mkT_ok oQ
  ·exact nmT_ok h2
  ·exact mkT_ok oQ
theorem brT_ok {b:Bool}{X:List Tk×Int}(h:∀k∈X.1,tkOk k):∀k∈(brT b X).1,tkOk k:=by
 unfold brT;split
 ·intro k hk;simp only[List.mem_cons,zM,List.not_mem_nil,or_false]at hk;rcases hk with rfl |hk |rfl
  ·exact mkT_ok oQ
  ·exact h k hk
  ·exact mkT_ok oQ
 ·exact h
theorem tkW_ok {t:List Nd}(hN:NdOk t){b r:Nat}(h:Sp t b r):∀k∈(tkW t r).1,tkOk k:=by
 induction h with
 |lf hx h1 h2 h3=>
  unfold tkW;rw[tkF_lf hx h1];exact leafT_ok h1 (hN _ (zA hx))
 |un hx h1 h2 h3 hs ih=>
  unfold tkW;rw[tkF_un hx h1 h2,tkW_eq hs oQ];have ho:=isUn_op h1;intro k hk;rcases List.mem_cons.1 hk with rfl |hk
  ·exact sgK_ok oQ oQ
  ·exact brT_ok ih k hk
 |bi hx h1 h2 h3 hs hs2 ih ih2=>
  have l1:=hs.le;have l2:=hs2.le;unfold tkW;rw[tkF_bi hx h1 h2 h3,tkW_eq hs oQ,tkW_eq hs2 oQ];have ho:=isBi_op h1;intro k hk;rcases zM.1 hk with hk |hk
  ·exact brT_ok ih k hk
  ·rcases List.mem_cons.1 hk with rfl |hk
   ·exact sgK_ok oQ oQ
   ·exact brT_ok ih2 k hk
def ExP (t:List Nd)(w:World)(e:Ending)(w':World):Prop:=e=.returned (.tuple #[.string (exT t),.int .i64 (exC t)])∧Bw w w'
theorem aggWr:AggT Tryz.prog 165 3:=⟨_,Tryz.underlying165,rfl,kQ⟩
namespace shW
open nmW ckW
theorem expr_k (A:Option Addr)(c:Nat)(F:Nat→Prop)(t:List Nd)(hs:SzN t)(hN:NdOk t)(w:World)(hT:XT w)(hF:∀b,F b→b<w.heap.size)(r:Rd w F (.slice A t.length c) (.sl t.length (t.flatMap ndD))):
  Calls Tryz.prog 81 #[.slice A t.length c] w (ExP t w):=by
 have kt:=tree_k A c F t hs w hT.kw hF r;obtain⟨C,hC⟩:∃C,C=exC t:=⟨_,rfl⟩
 obtain⟨T,hTx⟩:∃T,T=exT t:=⟨_,rfl⟩
 unfold ExP;rw[←hC,←hTx];unfold exT at hTx;rw[←hC]at hTx;unfold exC at hC;have hl1:=hs.1;by_cases c1:treeB t=false
 ·rw[c1]at kt;rw[if_pos c1]at hC;subst hC;rw[if_neg oQ]at hTx;subst hTx;replace kt:=Hd kt;clear hs hT hF r hN c1;go_enter Tryz.func81,Tryz.ntmps81;go_wp2_with (go_at_call 75;refine kt.out.mono ?_;rintro e W ⟨rfl,hW⟩;replace hW:=Hd hW);refine bodyPost_ret (results_tmp2 rfl _ _ _) rfl ?_;exact⟨rfl,hW.out⟩
 have c1':treeB t=true:=by simpa using c1
 rw[c1']at kt;rw[if_neg c1]at hC;by_cases c2:400<t.length
 ·rw[if_pos c2]at hC;subst hC;rw[if_neg oQ]at hTx;subst hTx;have g0:(400:Int)<(t.length:Int):=oQ;replace kt:=Hd kt;clear hs hT hF r hN c1 c1';go_enter Tryz.func81,Tryz.ntmps81;go_wp2_with (go_at_call 75;refine kt.out.mono ?_;rintro e W ⟨rfl,hW⟩;replace hW:=Hd hW);refine bodyPost_ret (results_tmp2 rfl _ _ _) rfl ?_;exact⟨rfl,hW.out⟩
 rw[if_neg c2]at hC;obtain⟨⟨n,hn,hsp⟩,_,_⟩:=treeB_sp c1';have g0:¬(400:Int)<(t.length:Int):=oQ;have hn1:t.length-1=n:=oQ;rw[hn1]at hC hTx;have hbr:brT (decide (levO (opAt t n)<0)) (tkW t n)=tkW t n:=by
  have:=levO_pos (opAt t n);rw[zV oQ];rfl
 have hok:=tkW_ok hN hsp;have kn:∀W,Bw w W→Calls Tryz.prog 122 #[.pointer (some ⟨W.heap.size,0,none⟩),.slice A t.length c,.int .i64 n,.int .i64 0] (W.alloc (.cells ⟨[.slice none 0 0,.int .i64 0,.int .i64 0]⟩ 165))
   (NoP W.heap.size W.heap.size (W.alloc (.cells ⟨[.slice none 0 0,.int .i64 0,.int .i64 0]⟩ 165)) (tkW t n) [] 0 0 (8*(n+1-0))):=fun W hW=>by
  have h:=node_k A c F t hs.1 W.heap.size W (hT.stay hW).sh (fun b hb=>zF (hF b hb) hW.size) (r.under hW hF) (n+1) 0 n oQ hsp 0;rw[hbr]at h;exact h _ (.slice none 0 0) [] 0 0 bA ⟨Blk.new _ _ _,OL.nil ..,nR⟩ (by simp only[List.length_nil];omega) oQ oQ oQ
 have kx:∀W e w',Bw w W→NoP W.heap.size W.heap.size (W.alloc (.cells ⟨[.slice none 0 0,.int .i64 0,.int .i64 0]⟩ 165)) (tkW t n) [] 0 0 (8*(n+1-0)) e w'→e=.returned (.tuple #[])∧Bw w w'∧Calls Tryz.prog 123 #[.pointer (some ⟨W.heap.size,0,none⟩)] w' fun e w2=>e=.returned (.tuple #[.string T,.int .i64 C])∧Bw w' w2:=fun W e w' hW hP=>by
  obtain⟨h1,v',L',d',h2,h3,h4,h5⟩:=hP;have hb1:Bw W w':=((zB W.heap.size W).alloc nR _).trans h3;have hb:Bw w w':=hW.trans (hb1.mono hW.size);refine⟨h1,hb,(text_k W.heap.size v' L' 0 d' W w' h2 (fun hl k hk=>?_) (hT.stay hb)).mono ?_⟩
  ·by_cases c3:([]:List Tk).length+(tkW t n).1.length≤400
   ·obtain⟨e1,_⟩:=h5.fit c3;rw[e1,List.nil_append]at hk;exact hok k hk
   ·have:=h5.big oQ;omega
  ·rintro e w2 ⟨rfl,h6⟩;refine⟨?_,h6⟩;by_cases c3:400<(tkW t n).1.length
   ·have h7:=h5.big (by simp only[List.length_nil];omega);rw[if_pos c3]at hC;rw[if_pos h7,if_pos h7,hTx,hC];rfl
   ·obtain⟨e1,e2⟩:=h5.fit (by simp only[List.length_nil];omega);rw[List.nil_append]at e1;have hd:d'=(tkW t n).2:=by have:=tkW_nn t n;omega
    rw[if_neg c3]at hC;rw[e1,hd,if_neg c3,if_neg c3,hTx,hC];by_cases c4:32<(tkW t n).2
    ·rw[if_pos c4,if_pos c4,if_neg oQ]
    ·rw[if_neg c4,if_neg c4,if_pos rfl]
 have hw:IntKind.i64.wrap ((t.length:Int) -1)=n:=by rw[xI]<;>omega
 replace kt:=Hd kt;replace kn:=Hd kn;replace kx:=Hd kx;replace hC:=Hd hC;replace hTx:=Hd hTx;clear hs hT hF r hN c1 c1' hsp hbr hok hn hn1;go_enter Tryz.func81,Tryz.ntmps81;go_wp2_with (first
  |(go_at_call 75;refine kt.out.mono ?_;rintro e W ⟨rfl,hW⟩;have kn1:=Hd (kn.out W hW);have kx1:=Hd (kx.out W);replace hW:=Hd hW)
  |(go_at_call 122;refine kn1.out.mono ?_;intro e W2 hP;obtain⟨rfl,hb2,kt2⟩:=kx1.out e W2 hW.out hP;clear hP;replace hb2:=Hd hb2;replace kt2:=Hd kt2)
  |(go_at_call 123;refine kt2.out.mono ?_;rintro e W3 ⟨rfl,hb3⟩;replace hb3:=Hd hb3))
 refine bodyPost_ret (results_tmp2 rfl _ _ _) rfl ?_;exact⟨rfl,hb2.out.and1 nR hb3.out⟩
end shW
def toV (x:To):List Value:=[.string x.tx,.int .i64 x.tk,.int .i64 x.dp]
theorem aggTo:AggT Tryz.prog 146 3:=⟨_,Tryz.underlying146,rfl,kQ⟩
namespace shR
open nmW
theorem rlevel_k (o:Int)(w:World)(h1:1≤o)(h2:o≤26):Calls Tryz.prog 175 #[.int .i64 o] w fun e w'=>e=.returned (.int .i64 (levO o))∧w'=w:=by
 have h:o=1∨o=2∨o=3∨o=4∨o=5∨o=6∨o=7∨o=8∨o=9∨o=10∨o=11∨o=12∨o=13∨o=14∨o=15∨o=16∨o=17∨o=18∨o=19∨o=20∨o=21∨o=22∨o=23∨o=24∨o=25∨o=26:=oQ;clear h1 h2;rcases h with rfl |rfl |rfl |rfl |rfl |rfl |rfl |rfl |rfl |rfl |rfl |rfl |rfl |rfl |rfl |rfl |rfl |rfl |rfl |rfl |rfl |rfl |rfl |rfl |rfl |rfl<;>(go_enter Tryz.func175,Tryz.ntmps175;go_wp2;go_ret;exact⟨rfl,rfl⟩)
def ToP (x:To)(w:World)(e:Ending)(w':World):Prop:=e=.returned (.agg ⟨toV x⟩)∧Bw w w'
theorem operand_k (x:To)(o n:Int)(w:World)(h1:1≤o)(h2:o≤26)(ht:0≤x.tk∧x.tk≤4294967296)(hd:0≤x.dp∧x.dp≤4294967296)(hx:x.tx.size≤4294967296):Calls Tryz.prog 174 #[.agg ⟨toV x⟩,.int .i64 o,.int .i64 n] w (ToP (opdS x o n) w):=by
 have kl:=Hd (fun W=>rlevel_k o W h1 h2);obtain⟨tx,tk,dp⟩:=x;simp only at ht hd hx;have s1:(⟨#[40,32]⟩:ByteArray).size+tx.size≤9223372036854775807:=by show 2+tx.size≤_;omega
 have s2:((⟨#[40,32]⟩:ByteArray)++tx).size+(⟨#[32,41]⟩:ByteArray).size≤9223372036854775807:=by rw[ByteArray.size_append];show 2+tx.size+2≤_;omega
 have hw1:IntKind.i64.wrap (tk+2)=tk+2:=by rw[xI]<;>omega
 have hw2:IntKind.i64.wrap (dp+1)=dp+1:=by rw[xI]<;>omega
 obtain⟨R,hR⟩:∃R,R=opdS ⟨tx,tk,dp⟩ o n:=⟨_,rfl⟩
 rw[←hR];unfold opdS at hR;simp only[toV]at hR ⊢;have hb1:=Hd ((Blk.new w 146 [.string tx,.int .i64 tk,.int .i64 dp]).alloc (.cells ⟨[.string emp,.int .i64 0,.int .i64 0]⟩ 146));have hb2:=Hd (Blk.new' (w:=w.alloc (.cells ⟨[.string tx,.int .i64 tk,.int .i64 dp]⟩ 146)) (g:=w.heap.size+1) (t:=146) (cs:=[.string emp,.int .i64 0,.int .i64 0]) sJ);have hB:=Hd (show Bw w ((w.alloc (.cells ⟨[.string tx,.int .i64 tk,.int .i64 dp]⟩ 146)).alloc (.cells ⟨[.string emp,.int .i64 0,.int .i64 0]⟩ 146)) from (bA).alloc sJ _);clear h1 h2 ht hd;by_cases c:n≤levO o
 ·rw[if_pos c]at hR;subst hR;generalize levO o=l at c kl;go_enter Tryz.func174,Tryz.ntmps174;go_wp2_with (first
   |(go_at_call 175;refine(kl.out _).mono ?_;rintro e W ⟨rfl,hW⟩;subst hW)
   |(refine at_op (.store 146 (.tmp 6) (.tmp 11)) rfl ?_;refine wsb rfl 146 (.tmp 6) (.tmp 11) rfl (cs':=[.string tx,.int .i64 tk,.int .i64 dp]) hb2.out aggTo rfl rfl rfl rfl ?_;intro w1 hz1 hg1))
  exact bpa rfl hz1 aggTo rfl rfl ⟨rfl,hB.out.grown hg1 hB.out.size (fun q hq=>by injection hq with hq;omega)⟩
 ·rw[if_neg c]at hR;subst hR;have y0:=hb1.out.cell 0;have y1:=hb1.out.cell 1;have y2:=hb1.out.cell 2;simp only[zY,xA]at y0 y1 y2;generalize levO o=l at c kl;go_enter Tryz.func174,Tryz.ntmps174;go_wp2_with (first
   |(go_at_call 175;refine(kl.out _).mono ?_;rintro e W ⟨rfl,hW⟩;subst hW)
   |(refine at_op (.store 146 (.tmp 6) (.tmp 22)) rfl ?_;refine wsb rfl 146 (.tmp 6) (.tmp 22) rfl (cs':=[.string (⟨#[40,32]⟩++tx++⟨#[32,41]⟩),.int .i64 (tk+2),.int .i64 (dp+1)]) hb2.out aggTo rfl rfl rfl rfl ?_;intro w1 hz1 hg1))
  exact bpa rfl hz1 aggTo rfl rfl ⟨rfl,hB.out.grown hg1 hB.out.size (fun q hq=>by injection hq with hq;omega)⟩
end shR
end Go.Proofs.YthaabihjeomipaaGreatDoor
