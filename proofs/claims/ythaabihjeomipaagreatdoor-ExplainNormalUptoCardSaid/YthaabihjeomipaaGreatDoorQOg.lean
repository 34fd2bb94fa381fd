/- What is explained with OK is explained by the. -/
import Derived.Test.YthaabihjeomipaaGreatDoorQZc
namespace Go.Proofs.YthaabihjeomipaaGreatDoor
set_option maxRecDepth 100000
set_option maxHeartbeats 16000000
open Go.RowKit Go.Deep
set_option linter.unusedVariables false
set_option linter.unusedSimpArgs false
theorem if_zero {p:Prop} [Decidable p]{c:Int}(h:(if p then 0 else c)=0)(hc:c≠0):p:=by
 by_cases hp:p
 ·exact hp
 ·rw[if_neg hp]at h;exact absurd h hc
theorem if_zero' {p:Prop} [Decidable p]{c:Int}(h:(if p then c else 0)=0)(hc:c≠0):¬p:=fun hp=>by
 rw[if_pos hp]at h;exact hc h
theorem oth_w0 {t:List Nd}(h:treeB t=true)(w0 w1:List Nd):othW t w0=othW t w1:=by
 unfold othW rtsW;rw[if_pos h];cases hc:conjs t with
 |nil=>exact absurd hc (cjF_ne _ _ _)
 |cons r rs=>rfl
theorem oth_nil:othW [] []=[]:=by
 unfold othW rtsW;rw[if_neg (by unfold treeB;simp[runT])]
structure CkOk (S:List Td)(q:Qy):Prop where
 sc:scC S=0
 sh:shapedB q=true
 it:itemsC S q=0
 wh:whereC S q=0
 wi:withinC q=0
 pa:partC S q=0
 re:retC S q=0
theorem ck_ok {S:List Td}{q:Qy}(h:checkC (scC S) S q=0):CkOk S q:=by
 have hz:=fz_inv h;exact⟨hz _ sJ,if_zero (hz (if shapedB q=true then 0 else 50) sJ) dQ,hz _ sJ,hz _ sJ,hz _ sJ,hz _ sJ,hz _ sJ⟩
theorem CkOk.zero {S:List Td}{q:Qy}(h:CkOk S q):checkC (scC S) S q=0:=by
 refine fz_zero fun c hc=>?_
 simp only[List.mem_cons,List.not_mem_nil,or_false]at hc;rcases hc with rfl |rfl |rfl |rfl |rfl |rfl |rfl
 ·exact h.sc
 ·exact if_pos h.sh
 ·exact h.it
 ·exact h.wh
 ·exact h.wi
 ·exact h.pa
 ·exact h.re
structure WhOk (S:List Td)(q:Qy):Prop where
 kt:KT q.wh
 mt:∀x∈q.wh,mentC S q false x=0
 mx:∀r∈conjs q.wh,mixB q (subT q.wh r)=false
theorem wh_ok {S:List Td}{q:Qy}(h:CkOk S q)(hne:q.wh≠ []):WhOk S q:=by
 have hsh:=h.sh;unfold shapedB at hsh;simp only[xK,Bool.or_eq_true,decide_eq_true_eq]at hsh;obtain⟨_,_,_,_,_,_,_,hw,_,_⟩:=hsh;have ht:=hw.resolve_left fun e=>hne (List.eq_nil_of_length_eq_zero e)
 have hz:=h.wh;unfold whereC at hz;rw[if_neg hne]at hz;have h1:=fz_inv hz;have hwk:walkC S q q.wh false=0:=h1 _ sJ;refine⟨⟨ht,walk_kd hwk,if_zero (h1 (if isTruthB q.wh=true then 0 else 75) sJ) dQ⟩,walk_ok hwk,fun r hr=>?_⟩;have h2:=if_zero' (h1 (if(conjs q.wh).any (fun r=>mixB q (subT q.wh r))=true then 77 else 0) sJ) dQ;rw[Bool.not_eq_true,List.any_eq_false]at h2;simpa using h2 r hr
theorem CkOk.il {S:List Td}{q:Qy}(h:CkOk S q):q.items.length≤10:=(items_ok h.it).1
theorem otP_of {S:List Td}{q:Qy}(h:CkOk S q):OtP q (otQ q):=⟨rfl,h.il⟩
theorem wv_of {S:List Td}{q:Qy}{t:List Nd}{res:Bool}(ht:treeB t=true)(h:∀x∈t,mentC S q res x=0):WvT q t:=fun x hx=>⟨(treeB_sp ht).2.2 x hx,fun hv=>ment_vars (h x hx) hv⟩
theorem kt_rn {q:Qy}{t:List Nd}(hil:q.items.length≤10)(h:KT t)(hv:WvT q t):KT (t.map (rnW q)):=by
 refine⟨tree_rn hil h.tr fun x hx=>(hv x hx).2,fun y hy=>?_,by rw[truth_rn];exact h.rt⟩;obtain⟨x,hx,rfl⟩:=List.mem_map.1 hy;rw[kinds_rn h.tr hx];exact h.kd x hx
structure CjOt (q p:Qy):Prop where
 ne:p.wh≠ []
 ct:∃L,CT p.wh L∧∀s,s∈L↔∃r∈conjs q.wh,s=(subT q.wh r).map (rnW q)
theorem cj_ot {S:List Td}{q:Qy}(h:CkOk S q)(hne:q.wh≠ []):CjOt q (otQ q):=by
 have hw:=wh_ok h hne;have hv:=wv_of hw.kt.tr hw.mt;have ht:=(kt_rn h.il hw.kt hv).tr;obtain⟨L,hc,hm⟩:=ct_oth (w0:=q.wh) ht;have hc':CT (otQ q).wh L:=hc;refine⟨fun e=>?_,L,hc',fun s=>?_⟩
 ·obtain⟨⟨n,hn,_⟩,_⟩:=treeB_sp hc'.tr;rw[e]at hn;simp at hn
 ·rw[hm,conjs_rn hw.kt.tr,List.mem_map];constructor
  ·rintro⟨r,hr,rfl⟩;obtain⟨b,hb⟩:=conjs_sp hw.kt.tr hr;exact⟨r,hr,sub_rn hb⟩
  ·rintro⟨r,hr,rfl⟩;obtain⟨b,hb⟩:=conjs_sp hw.kt.tr hr;exact⟨r,hr,sub_rn hb⟩
theorem wvT_sub {q:Qy}{t:List Nd}(h:WvT q t)(r:Nat):WvT q (subT t r):=fun x hx=>by
 obtain⟨b,y,hy,rfl⟩:=mem_subT hx;exact⟨(h y hy).1,(h y hy).2⟩
theorem where_ot {S:List Td}{q:Qy}(h:CkOk S q):whereC S (otQ q)=0:=by
 by_cases hne:q.wh=[]
 ·have:(otQ q).wh=[]:=by
   show othW (q.wh.map (rnW q)) q.wh=[]
   rw[hne];exact oth_nil
  unfold whereC;rw[if_pos this]
 ·have hP:=otP_of h;have hw:=wh_ok h hne;have hv:=wv_of hw.kt.tr hw.mt;have hk:=kt_rn h.il hw.kt hv;obtain⟨hne',L,hc,hm⟩:=cj_ot h hne;have hko:KT (otQ q).wh:=kt_oth hk;have hmt:∀x∈q.wh.map (rnW q),mentC S (otQ q) false x=0:=fun y hy=>by
   obtain⟨x,hx,rfl⟩:=List.mem_map.1 hy;rw[ment_ot hP (hv x hx).1 (hv x hx).2];exact hw.mt x hx
  have hmo:∀x∈(otQ q).wh,mentC S (otQ q) false x=0:=by
   have:=(ment_all S (otQ q)).oth hmt (w0:=q.wh.map (rnW q)) hmt;rw[oth_w0 hk.tr (q.wh.map (rnW q)) q.wh]at this;exact this
  unfold whereC;rw[if_neg hne'];refine fz_zero fun c hc'=>?_
  simp only[List.mem_cons,List.not_mem_nil,or_false]at hc';rcases hc' with rfl |rfl |rfl
  ·exact walk_zero hmo hko.kd
  ·exact if_pos hko.rt
  ·refine if_neg fun ha=>?_
   obtain⟨r,hr,hmx⟩:=xM.1 ha;have hs:subT (otQ q).wh r∈L:=by rw[←hc.cj];exact xJ hr
   obtain⟨r0,hr0,e⟩:=(hm _).1 hs;rw[e,mixB_ot hP (wvT_sub hv r0),hw.mx r0 hr0]at hmx;cases hmx
theorem ret_mt {S:List Td}{q:Qy}(h:CkOk S q){t:List Nd}(ht:t∈q.ret):treeB t=true∧walkC S q t true=0∧isTruthB t=false:=by
 have hsh:=h.sh;unfold shapedB at hsh;simp only[xK,Bool.or_eq_true,decide_eq_true_eq]at hsh;obtain⟨_,_,_,_,_,_,_,_,_,hr⟩:=hsh;have hz:=h.re;unfold retC at hz;by_cases h8:8<q.ret.length
 ·rw[if_pos h8]at hz;omega
 rw[if_neg h8]at hz;have h1:=fz_inv (fz_inv hz _ (xJ (f:=fun t=>fz [walkC S q t true,if isTruthB t=true then 75 else 0]) ht));refine⟨xP.1 hr t ht,h1 _ sJ,?_⟩;have:=if_zero' (h1 (if isTruthB t=true then 75 else 0) sJ) dQ;simpa using this
theorem check_ot {S:List Td}{q:Qy}(h:CkOk S q):CkOk S (otQ q):=by
 have hP:=otP_of h;have hsh:=h.sh;refine⟨h.sc,?_,items_ot hP h.it,where_ot h,h.wi,?_,?_⟩
 ·unfold shapedB at hsh ⊢;simp only[xK,Bool.or_eq_true,decide_eq_true_eq]at hsh ⊢;obtain⟨h1,h2,h3,h4,h5,h6,h7,h8,h9,h10⟩:=hsh;refine⟨by rw[hP.it,otI_len];exact h1,h2,h3,h4,h5,h6,?_,?_,h9,?_⟩
  ·rw[xP]at h7 ⊢;intro y hy;obtain⟨i,x,hx,rfl⟩:=mem_otI hy;have:=(zC.1 hx).1;have:=h.il;exact itemB_ot oQ (h7 x (zA hx))
  ·by_cases hne:q.wh=[]
   ·left
    show(othW (q.wh.map (rnW q)) q.wh).length=0
    rw[hne];rw[show List.map (rnW q) []=[]from rfl,oth_nil];rfl
   ·right
    obtain⟨_,L,hc,_⟩:=cj_ot h hne;exact hc.tr
  ·rw[xP];intro y hy;obtain⟨t,ht,rfl⟩:=List.mem_map.1 hy;obtain⟨r1,r2,r3⟩:=ret_mt h ht;exact tree_rn h.il r1 fun x hx hv=>ment_vars (walk_ok r2 x hx) hv
 ·have hp:=h.pa;unfold partC at hp ⊢;have e:partB S (otQ q)=partB S q:=by
   unfold partB;rw[hP.it,all_otI (fun i x hx=>hasB_rot _ _ _)];rfl
  rw[e];exact hp
 ·unfold retC;have hz:=h.re;unfold retC at hz;have h8:¬8<q.ret.length:=fun h8=>by rw[if_pos h8]at hz;omega
  rw[if_neg (by show¬8<(q.ret.map _).length;rw[xC];exact h8)];refine fz_zero fun c hc=>?_
  obtain⟨y,hy,rfl⟩:=List.mem_map.1 hc;obtain⟨t,ht,rfl⟩:=List.mem_map.1 hy;obtain⟨r1,r2,r3⟩:=ret_mt h ht;have hv:=wv_of r1 (walk_ok r2);have hw:walkC S (otQ q) (t.map (rnW q)) true=0:=by
   refine walk_zero (fun y hy=>?_) fun y hy=>?_
   ·obtain⟨x,hx,rfl⟩:=List.mem_map.1 hy;rw[ment_ot hP (hv x hx).1 (hv x hx).2];exact walk_ok r2 x hx
   ·obtain⟨x,hx,rfl⟩:=List.mem_map.1 hy;rw[kinds_rn r1 hx];exact walk_kd r2 x hx
  rw[hw,truth_rn,r3];rfl
noncomputable def rowS (q:Qy)(t:List Nd):Rw:=⟨exT (pln q t),(homeP q t).1,(homeP q t).2⟩
theorem rowS_ot {q p:Qy}(h:OtP q p){t:List Nd}(ht:WvT q t):rowS p (t.map (rnW q))=rowS q t:=by
 unfold rowS;rw[pln_ot h ht,homeP_ot h ht]
theorem mem_rows {q:Qy}{x:Rw}(hne:q.wh≠ []):x∈rowsQ q↔∃r∈conjs q.wh,x=rowS q (subT q.wh r):=by
 unfold rowsQ rootsQ;rw[if_neg hne,List.mem_map];exact⟨fun⟨r,h1,h2⟩=>⟨r,h1,h2.symm⟩,fun⟨r,h1,h2⟩=>⟨r,h1,h2.symm⟩⟩
theorem rows_ot {S:List Td}{q:Qy}(h:CkOk S q)(x:Rw):x∈rowsQ (otQ q)↔x∈rowsQ q:=by
 by_cases hne:q.wh=[]
 ·have:(otQ q).wh=[]:=by
   show othW (q.wh.map (rnW q)) q.wh=[]
   rw[hne];exact oth_nil
  unfold rowsQ rootsQ;rw[if_pos this,if_pos hne,List.map_nil,List.map_nil]
 ·have hP:=otP_of h;have hw:=wh_ok h hne;have hv:=wv_of hw.kt.tr hw.mt;obtain⟨hne',L,hc,hm⟩:=cj_ot h hne;rw[mem_rows hne',mem_rows hne];constructor
  ·rintro⟨r,hr,rfl⟩;have hs:subT (otQ q).wh r∈L:=by rw[←hc.cj];exact xJ hr
   obtain⟨r0,hr0,e⟩:=(hm _).1 hs;exact⟨r0,hr0,by rw[e,rowS_ot hP (wvT_sub hv r0)]⟩
  ·rintro⟨r0,hr0,rfl⟩;have hs:=(hm _).2 ⟨r0,hr0,rfl⟩;rw[←hc.cj]at hs;obtain⟨r,hr,e⟩:=List.mem_map.1 hs;exact⟨r,hr,by rw[e,rowS_ot hP (wvT_sub hv r0)]⟩
theorem lay_mem {R R':List Rw}(h:∀x,x∈R↔x∈R')(k:Int)(o:Bool)(d:ByteArray):layL R k o d=layL R' k o d:=by
 unfold layL;congr 1;refine SS.uniq (srt_ss _) (srt_ss _) fun x=>?_
 rw[mem_srt,mem_srt];unfold selR;rw[List.mem_map,List.mem_map];simp only[List.mem_filter,h]
theorem mapI_congr {α β:Type}{f g:Nat→α→List β}:∀{l:List α}{n:Nat},(∀(i:Nat) x,l[i]? =some x→f (n+i) x=g (n+i) x)→mapI f n l=mapI g n l
 | [],n,_=>rfl
 |x::r,n,h=>by
  show f n x++mapI f (n+1) r=g n x++mapI g (n+1) r
  rw[show f n x=g n x from h 0 x rfl,mapI_congr (f:=f) (g:=g) (l:=r) (n:=n+1) fun i y hy=>by rw[show n+1+i=n+(i+1) by omega];exact h (i+1) y hy]
theorem mapI_mapI {α β γ:Type}(f:Nat→β→List γ)(h:Nat→α→β):∀(l:List α)(n:Nat),mapI f n (mapI (fun i x=>[h i x]) n l)=mapI (fun i x=>f i (h i x)) n l
 | [],n=>rfl
 |x::r,n=>by
  show f n (h n x)++mapI f (n+1) (mapI _ (n+1) r)=f n (h n x)++mapI _ (n+1) r
  rw[mapI_mapI f h r (n+1)]
theorem neg_ot (q:Qy):(otI q).map (·.neg)=q.items.map (·.neg):=by
 refine List.ext_getElem? fun i=>?_
 rw[zG,zG,otI_get,Option.map_map];rfl
theorem ngN_eq (q:Qy)(i:Nat):ngN q i=(((q.items.map (·.neg)).take i).filter fun b=>b).length:=by
 unfold ngN;rw[←List.map_take,List.filter_map,xC];rfl
theorem cmpN_eq (q:Qy)(i:Nat):cmpN q i=(((q.items.map (·.neg)).take i).filter fun b=> !b).length:=by
 unfold cmpN;rw[←List.map_take,List.filter_map,xC];rfl
theorem ngN_ot (q:Qy)(i:Nat):ngN (otQ q) i=ngN q i:=by
 rw[ngN_eq,ngN_eq,show(otQ q).items=otI q from rfl,neg_ot]
theorem cmpN_ot (q:Qy)(i:Nat):cmpN (otQ q) i=cmpN q i:=by
 rw[cmpN_eq,cmpN_eq,show(otQ q).items=otI q from rfl,neg_ot]
theorem lin_ot {S:List Td}{q:Qy}(h0:linC S q=0):linC S (otQ q)=0∧linL (otQ q)=linL q:=by
 have h:=ck_ok (lin_chk0 h0);have hP:=otP_of h;have hz:=fz_inv h0;have hret:∀t∈q.ret,pln (otQ q) (t.map (rnW q))=pln q t:=fun t ht=>by
  obtain⟨r1,r2,r3⟩:=ret_mt h ht;exact pln_ot hP (wv_of r1 (walk_ok r2))
 constructor
 ·refine fz_zero fun c hc=>?_
  rcases List.mem_cons.1 hc with rfl |hc
  ·exact(check_ot h).zero
  rcases zM.1 hc with hc |hc
  ·obtain⟨r,hr,rfl⟩:=List.mem_map.1 hc;by_cases hne:q.wh=[]
   ·have:(otQ q).wh=[]:=by
     show othW (q.wh.map (rnW q)) q.wh=[]
     rw[hne];exact oth_nil
    unfold rootsQ at hr;rw[if_pos this]at hr;cases hr
   ·have hw:=wh_ok h hne;have hv:=wv_of hw.kt.tr hw.mt;obtain⟨hne',L,hc,hm⟩:=cj_ot h hne;unfold rootsQ at hr;rw[if_neg hne']at hr;have hs:subT (otQ q).wh r∈L:=by rw[←hc.cj];exact xJ hr
    obtain⟨r0,hr0,e⟩:=(hm _).1 hs;rw[e,pln_ot hP (wvT_sub hv r0)];refine hz _ (xU _ (List.mem_append_left _ (List.mem_map.2 ⟨r0,?_,rfl⟩)));unfold rootsQ;rw[if_neg hne];exact hr0
  ·obtain⟨y,hy,rfl⟩:=List.mem_map.1 hc;obtain⟨t,ht,rfl⟩:=List.mem_map.1 hy;rw[hret t ht];exact hz _ (xU _ (xN _ (List.mem_map.2 ⟨t,ht,rfl⟩)))
 ·have hrows:=rows_ot h;have e1:mapI (itmL (otQ q) (rowsQ (otQ q))) 0 (otQ q).items=mapI (itmL q (rowsQ q)) 0 q.items:=by
   show mapI _ 0 (otI q)=_
   unfold otI;rw[mapI_mapI];refine mapI_congr fun i x hx=>?_
   unfold itmL;rw[lay_mem hrows,lay_mem hrows];congr 1;unfold itemL;rw[ngN_ot,cmpN_ot,tysT_ot]
  have e2:(otQ q).ret.map (fun t=>resB++exT (pln (otQ q) t))=q.ret.map fun t=>resB++exT (pln q t):=by
   show(q.ret.map _).map _=_
   rw[List.map_map];refine List.map_congr_left fun t ht=>?_
   show resB++exT (pln (otQ q) (t.map (rnW q)))=_
   rw[hret t ht]
  unfold linL;rw[e1,e2,lay_mem hrows];rfl
theorem tx_ot {S:List Td}{q:Qy}(h0:linC S q=0):txC S (otQ q)=txC S q:=by
 obtain⟨h1,h2⟩:=lin_ot h0;unfold txC;rw[if_pos h0,if_pos h1,h2]
theorem tx_pos {S:List Td}{q:Qy}(h0:linC S q=0):0<(txC S q).size:=by
 unfold txC;rw[if_pos h0,←txt_jn (linL q) (by unfold linL;simp),ByteArray.size_append];have:nlB.size=1:=rfl;omega
theorem smb_ot {S:List Td}{q:Qy}(h0:linC S q=0):SmB S q (otQ q):=⟨h0,(lin_ot h0).1,(tx_ot h0).symm⟩
section
variable {P:Program}(w:World)
theorem eqF_cons {d:Nat}{xs ys:Array Value}{f:Field}{r:List Field}{u v:Value}{c b:Bool}(hn:f.name≠ "_")(h1:(part f.type xs f.offset).run P w=.ok u w)(h2:(part f.type ys f.offset).run P w=.ok v w)
  (h3:(Op.equalIn d f.type u v).run P w=.ok b w)(hr:(Op.eqFields d xs ys r).run P w=.ok c w):(Op.eqFields d xs ys (f::r)).run P w=.ok (b&&c) w:=by
 simp only[Op.eqFields,if_pos hn,Sem.run_bind,h1,h2,h3,Result.andThen_ok,Sem.run_ite,hr];cases b<;>simp
end
theorem eqNd (w:World)(x y:Nd):(Op.equalIn 10000 96 (.agg ⟨ndV x⟩) (.agg ⟨ndV y⟩)).run Tryz.prog w=.ok (x.op==y.op&&(x.n==y.n&&(x.v.toList==y.v.toList&&(x.at_.toList==y.at_.toList&&(x.a==y.a&&(x.b==y.b&&true)))))) w:=by
 rw[run_equalIn_struct w 9999 96 _ _ kQ kQ];rw[show(Tryz.prog.fieldsOf 96).toList=[{name:= "Op",type:=94,offset:=0,embedded:=false,tag:= "",pkgPath:= "",byteOffset:=0},{name:= "N",type:=2,offset:=1,embedded:=false,tag:= "",pkgPath:= "",byteOffset:=8},
  {name:= "Var",type:=9,offset:=2,embedded:=false,tag:= "",pkgPath:= "",byteOffset:=16},{name:= "Attr",type:=9,offset:=3,embedded:=false,tag:= "",pkgPath:= "",byteOffset:=32},
  {name:= "A",type:=3,offset:=4,embedded:=false,tag:= "",pkgPath:= "",byteOffset:=48},{name:= "B",type:=3,offset:=5,embedded:=false,tag:= "",pkgPath:= "",byteOffset:=56}] by kernel_rfl]
 exact eqF_cons w dQ kQ kQ (run_equalIn_int w _ 94 .i64 .i64 _ _ Tryz.underlying94)
  (eqF_cons w dQ kQ kQ (run_equalIn_int w _ 2 .i64 .i64 _ _ Tryz.underlying2)
   (eqF_cons w dQ kQ kQ (run_equalIn_string w _ 9 _ _ Tryz.underlying9)
    (eqF_cons w dQ kQ kQ (run_equalIn_string w _ 9 _ _ Tryz.underlying9)
     (eqF_cons w dQ kQ kQ (run_equalIn_int w _ 3 .i64 .i64 _ _ Tryz.underlying3)
      (eqF_cons w dQ kQ kQ (run_equalIn_int w _ 3 .i64 .i64 _ _ Tryz.underlying3) rfl)))))
theorem neq_nd (w:World)(x:Nd):(binOp .neq 96 (.agg ⟨ndV x⟩) (.agg ⟨ndV x⟩)).run Tryz.prog w=.ok (.bool false) w:=by
 simp only[binOp];simp[Op.equal,Op.maxDepth,eqNd w x x]
namespace lawW
open nmW ckW
theorem sameTree_k (A B:Option Addr)(c d:Nat)(F G:Nat→Prop)(t:List Nd)(hl:t.length≤1048576)(w:World)(hF:∀b,F b→b<w.heap.size)(hG:∀b,G b→b<w.heap.size)(r:Rd w F (.slice A t.length c) (.sl t.length (t.flatMap ndD)))(s:Rd w G (.slice B t.length d) (.sl t.length (t.flatMap ndD))):
  Calls Tryz.prog 24 #[.slice A t.length c,.slice B t.length d] w fun e w'=>e=.returned (.bool true)∧Bw w w':=by
 replace r:=Hd r;replace s:=Hd s;replace hF:=Hd hF;replace hG:=Hd hG;go_enter Tryz.func24,Tryz.ntmps24;go_wp2;go_loopw [5] (fun x wr=>∃k:Nat,k≤t.length∧x=.int .i64 k∧Bw w wr) (fun x _=>t.length- (intOf x).toNat)
 case atStart=>exact⟨0,zE _,rfl,bR⟩
 case round=>
  obtain⟨k,hk,rfl,hB⟩:=hrel;by_cases hlt:k<t.length
  ·obtain⟨x,hx⟩:=getx hlt;obtain⟨gN,oN,rfl,hFN,n0,n1,n2,n3,n4,n5⟩:=nd_at r.out hx;obtain⟨gM,oM,rfl,hGM,m0,m1,m2,m3,m4,m5⟩:=nd_at s.out hx;have hgN:=hF.out gN hFN;have hgM:=hG.out gM hGM;have g0:(0:Int)≤(k:Int):=oQ;have g1:(k:Int)<t.length:=oQ;have a0:=(hB.cell (p:=⟨gN,oN+k*6,none⟩) hgN).trans n0;have a1:=(hB.cell (p:=⟨gN,oN+k*6+1,none⟩) hgN).trans n1;have a2:=(hB.cell (p:=⟨gN,oN+k*6+2,none⟩) hgN).trans n2;have a3:=(hB.cell (p:=⟨gN,oN+k*6+3,none⟩) hgN).trans n3;have a4:=(hB.cell (p:=⟨gN,oN+k*6+4,none⟩) hgN).trans n4;have a5:=(hB.cell (p:=⟨gN,oN+k*6+5,none⟩) hgN).trans n5;have b0:=(hB.cell (p:=⟨gM,oM+k*6,none⟩) hgM).trans m0;have b1:=(hB.cell (p:=⟨gM,oM+k*6+1,none⟩) hgM).trans m1;have b2:=(hB.cell (p:=⟨gM,oM+k*6+2,none⟩) hgM).trans m2;have b3:=(hB.cell (p:=⟨gM,oM+k*6+3,none⟩) hgM).trans m3;have b4:=(hB.cell (p:=⟨gM,oM+k*6+4,none⟩) hgM).trans m4;have b5:=(hB.cell (p:=⟨gM,oM+k*6+5,none⟩) hgM).trans m5;have hne:=fun W=>neq_nd W x
   simp only[ndV]at hne;replace hB:=Hd hB;clear hx n0 n1 n2 n3 n4 n5 m0 m1 m2 m3 m4 m5;go_wp2;go_quiet (fail);clear hne;go_wp2;go_roundw
   case rel=>exact⟨k+1,oQ,gQ,hB.out.trans ((below_drewN bR _).mono hB.out.size)⟩
   case measure=>exact mQ
  ·obtain rfl:k=t.length:=oQ;replace hB:=Hd hB;go_wp2;go_ret;exact⟨rfl,hB.out⟩
structure SQ2 (q:Qy)(s s':Sl3)(w wr:World):Prop where
 hb:Bw w wr
 b1:Blk wr w.heap.size 31 (qV q s)
 b2:Blk wr (w.heap.size+1) 31 (qV q s')
theorem SQ2.stay {q:Qy}{s s':Sl3}{w wr W:World}(h:SQ2 q s s' w wr)(hb:Bw wr W):SQ2 q s s' w W:=⟨h.hb.trans (hb.mono h.hb.size),h.b1.stay hb,h.b2.stay hb⟩
theorem sameQuery_k (F G:Nat→Prop)(q:Qy)(s s':Sl3)(hs:SzQ q)(w:World)(R:QR w F q s)(R':QR w G q s'):
  Calls Tryz.prog 13 #[.agg ⟨qV q s⟩,.agg ⟨qV q s'⟩] w fun e w'=>e=.returned (.bool true)∧Bw w w':=by
 have h0:SQ2 q s s' w ((w.alloc (.cells ⟨qV q s⟩ 31)).alloc (.cells ⟨qV q s'⟩ 31)):=⟨(bA).alloc sJ _,(Blk.new _ _ _).alloc _,Blk.new' sJ⟩;obtain⟨W0,hW0⟩:∃W0,W0=((w.alloc (.cells ⟨qV q s⟩ 31)).alloc (.cells ⟨qV q s'⟩ 31)):=⟨_,rfl⟩
 rw[←hW0]at h0;have hF:=R.lt;have hG:=R'.lt;have kit:=fun(i:Nat) it (hi:q.items[i]? =some it)=>it_at R.r1 hi
 have kre:=fun(i:Nat) t (hi:q.ret[i]? =some t)=>re_at R.r3 hi
 have kit':=fun(i:Nat) it (hi:q.items[i]? =some it)=>it_at R'.r1 hi
 have kre':=fun(i:Nat) t (hi:q.ret[i]? =some t)=>re_at R'.r3 hi
 have kt:=fun(A B:Option Addr)(c d:Nat) t (hl:t.length≤1048576)(r1:Rd w F (.slice A t.length c) (.sl t.length (t.flatMap ndD)))(r2:Rd w G (.slice B t.length d) (.sl t.length (t.flatMap ndD))) W (hW:Bw w W)=>sameTree_k A B c d F G t hl W (fun b h=>zF (hF b h) hW.size) (fun b h=>zF (hG b h) hW.size) (r1.under hW hF) (r2.under hW hG)
 have kx:=fun(A B:Option Addr)(c d:Nat)(t:List ByteArray)(hl:t.length≤1048576)(r1:Rd w F (.slice A t.length c) (.sl t.length (t.flatMap strD)))(r2:Rd w G (.slice B t.length d) (.sl t.length (t.flatMap strD))) W (hW:Bw w W)=>evW.sameTexts_q A B c d F G t hl W (r1.under hW hF) (r2.under hW hG)
 have kw:=kt s.a2 s'.a2 s.c2 s'.c2 q.wh hs.wh.1 R.r2 R'.r2;have hil:=hs.il;have hrl:=hs.rl;have hits:=hs.it;have hres:=hs.re;obtain⟨A1,c1,A2,c2,A3,c3⟩:=s;obtain⟨B1,d1,B2,d2,B3,d3⟩:=s';obtain⟨y0,y1,y2,y3,y4,y5,y6⟩:=qbc h0.b1;obtain⟨z0,z1,z2,z3,z4,z5,z6⟩:=qbc h0.b2;simp only[zY]at y0 y1 y2 y3 y4 y5 y6 z0 z1 z2 z3 z4 z5 z6;simp only[qV]at hW0 ⊢;try simp only at kit kre kit' kre' kw
 have hWW:=Hd hW0;replace hF:=Hd hF;replace hG:=Hd hG;replace kit:=Hd kit;replace kre:=Hd kre;replace kit':=Hd kit';replace kre':=Hd kre';replace kt:=Hd kt;replace kx:=Hd kx;replace kw:=Hd kw;replace hits:=Hd hits;replace hres:=Hd hres;replace h0:=Hd h0;clear R R' hs hW0;go_enter Tryz.func13,Tryz.ntmps13;go_upto_region 1 with fail
 rw[←hWW.out];go_upto_region 3 with fail
 have hQ1:=Hd h0.out;clear y0 y1 y2 y3 y4 y5 y6 z0 z1 z2 z3 z4 z5 z6 h0;go_wp2;go_loopw [5] (fun i wr=>∃j:Nat,j≤q.items.length∧i=.int .i64 j∧SQ2 q ⟨A1,c1,A2,c2,A3,c3⟩ ⟨B1,d1,B2,d2,B3,d3⟩ w wr) (fun i _=>q.items.length- (intOf i).toNat)
 case atStart=>exact⟨0,zE _,rfl,hQ1.out⟩
 case round=>
  clear hQ1;obtain⟨j,hj,rfl,hQ⟩:=hrel;have hB:=hQ.hb;have hb2:=hQ.b2.lt;have y0:wr.cell? ⟨w.heap.size,0,none⟩=some (.slice A1 q.items.length c1):=hQ.b1.cell 0;have z0:wr.cell? ⟨w.heap.size+1,0,none⟩=some (.slice B1 q.items.length d1):=hQ.b2.cell 0;by_cases hlt:j<q.items.length
  ·obtain⟨it,hi⟩:=getx hlt;have him:=zA hi;have htl:=(hits.out it him).1.1;obtain⟨gI,oI,A5,c5,eI,hFI,rx0,b0,b1,b2,b3,b4⟩:=kit.out j it hi;obtain⟨gJ,oJ,B5,d5,eJ,hGJ,ry0,e0,e1,e2,e3,e4⟩:=kit'.out j it hi;try simp only at eI
   try simp only at eJ
   subst eI;subst eJ;have hgI:=hF.out gI hFI;have hgJ:=hG.out gJ hGJ;have hws:=hB.size;have hgJr:gJ<wr.heap.size:=oQ;have hgIr:gI<wr.heap.size:=oQ;have a0:=(hB.cell (p:=⟨gI,oI+j*5,none⟩) hgI).trans b0;have a1:=(hB.cell (p:=⟨gI,oI+j*5+1,none⟩) hgI).trans b1;have a2:=(hB.cell (p:=⟨gI,oI+j*5+2,none⟩) hgI).trans b2;have a3:=(hB.cell (p:=⟨gI,oI+j*5+3,none⟩) hgI).trans b3;have a4:=(hB.cell (p:=⟨gI,oI+j*5+4,none⟩) hgI).trans b4;have f0:=(hB.cell (p:=⟨gJ,oJ+j*5,none⟩) hgJ).trans e0;have f1:=(hB.cell (p:=⟨gJ,oJ+j*5+1,none⟩) hgJ).trans e1;have f2:=(hB.cell (p:=⟨gJ,oJ+j*5+2,none⟩) hgJ).trans e2;have f3:=(hB.cell (p:=⟨gJ,oJ+j*5+3,none⟩) hgJ).trans e3;have f4:=(hB.cell (p:=⟨gJ,oJ+j*5+4,none⟩) hgJ).trans e4;clear b0 b1 b2 b3 b4 e0 e1 e2 e3 e4;have g0:(0:Int)≤(j:Int):=oQ;have g1:(j:Int)<q.items.length:=oQ;obtain⟨W2,hW2⟩:∃W2,W2=(wr.alloc (.cells ⟨itV it (.slice A5 it.tys.length c5)⟩ 53)).alloc (.cells ⟨itV it (.slice B5 it.tys.length d5)⟩ 53):=⟨_,rfl⟩
   have hB2:Bw wr W2:=by rw[hW2];exact(bA).alloc sJ _
   have h6:Blk W2 wr.heap.size 53 (itV it (.slice A5 it.tys.length c5)):=by rw[hW2];exact(Blk.new wr _ _).alloc _
   have h7:Blk W2 (wr.heap.size+1) 53 (itV it (.slice B5 it.tys.length d5)):=by rw[hW2];exact Blk.new' sJ
   have hQ2:=hQ.stay hB2;have i0:W2.cell? ⟨wr.heap.size,0,none⟩=some (.bool it.neg):=h6.cell 0;have i1:W2.cell? ⟨wr.heap.size,1,none⟩=some (.slice A5 it.tys.length c5):=h6.cell 1;have i2:W2.cell? ⟨wr.heap.size,2,none⟩=some (.string it.v):=h6.cell 2;have i3:W2.cell? ⟨wr.heap.size,3,none⟩=some (.int .i64 it.lo):=h6.cell 3;have i4:W2.cell? ⟨wr.heap.size,4,none⟩=some (.int .i64 it.hi):=h6.cell 4;have k0:W2.cell? ⟨wr.heap.size+1,0,none⟩=some (.bool it.neg):=h7.cell 0;have k1:W2.cell? ⟨wr.heap.size+1,1,none⟩=some (.slice B5 it.tys.length d5):=h7.cell 1;have k2:W2.cell? ⟨wr.heap.size+1,2,none⟩=some (.string it.v):=h7.cell 2;have k3:W2.cell? ⟨wr.heap.size+1,3,none⟩=some (.int .i64 it.lo):=h7.cell 3;have k4:W2.cell? ⟨wr.heap.size+1,4,none⟩=some (.int .i64 it.hi):=h7.cell 4;have kxx:=kx.out A5 B5 c5 d5 it.tys htl rx0 ry0 W2 hQ2.hb;simp only[itV]at hW2;have hWW2:=Hd hW2;replace kxx:=Hd kxx;replace hi:=Hd hi;replace him:=Hd him;replace rx0:=Hd rx0;replace ry0:=Hd ry0;replace hQ2:=Hd hQ2;replace hB:=Hd hB;replace hB2:=Hd hB2;replace h6:=Hd h6;replace h7:=Hd h7;clear hW2 hQ;go_upto_region 8 with fail
   rw[←hWW2.out];clear a0 a1 a2 a3 a4 f0 f1 f2 f3 f4 y0 z0;go_wp2_with (go_at_call 17;refine kxx.out.mono ?_;rintro e W3 ⟨rfl,nq,rfl⟩);go_roundw
   case rel=>exact⟨j+1,oQ,gQ,hQ2.out.stay (below_drewN bR _)⟩
   case measure=>exact mQ
  ·obtain rfl:j=q.items.length:=oQ;have hM0:=Hd hQ;clear hQ;go_wp2;clear y0 z0;go_loopw [8] (fun i wr=>∃k:Nat,k≤q.ret.length∧i=.int .i64 k∧SQ2 q ⟨A1,c1,A2,c2,A3,c3⟩ ⟨B1,d1,B2,d2,B3,d3⟩ w wr) (fun i _=>q.ret.length- (intOf i).toNat)
   case atStart=>exact⟨0,zE _,rfl,hM0.out⟩
   case round=>
    clear hM0;obtain⟨k,hk,rfl,hQ⟩:=hrel;have hBr:=hQ.hb;have hbr:=hBr.size;have y6:wr.cell? ⟨w.heap.size,6,none⟩=some (.slice A3 q.ret.length c3):=hQ.b1.cell 6;by_cases hlt3:k<q.ret.length
    ·obtain⟨t,ht⟩:=getx hlt3;have htm:=zA ht;obtain⟨gR,oR,A6,c6,eR,hFR,rt0,r0⟩:=kre.out k t ht;obtain⟨gS,oS,B6,d6,eS,hGS,rs0,s0⟩:=kre'.out k t ht;try simp only at eR
     try simp only at eS
     subst eR;subst eS;have hgR:=hF.out gR hFR;have hgS:=hG.out gS hGS;have p0:(0:Int)≤(k:Int):=oQ;have p1:(k:Int)<q.ret.length:=oQ;have ktt:=kt.out A6 B6 c6 d6 t (hres.out t htm).1 rt0 rs0 wr.drew hBr.drew;have kS:=fun W (hW:Bw wr W)=>xW ((hQ.stay hW).b1.cell 6) (xW ((hQ.stay hW).b2.cell 6) (xW ((hW.cell (p:=⟨gR,oR+k,none⟩) (by show gR<_;omega)).trans ((hBr.cell (p:=⟨gR,oR+k,none⟩) hgR).trans r0)) ((hW.cell (p:=⟨gS,oS+k,none⟩) (by show gS<_;omega)).trans ((hBr.cell (p:=⟨gS,oS+k,none⟩) hgS).trans s0))))
     have hSS:=xW (kS wr.drew (bR).drew) trivial;replace kS:=Hd kS;replace ktt:=Hd ktt;replace ht:=Hd ht;replace htm:=Hd htm;replace rt0:=Hd rt0;replace rs0:=Hd rs0;replace hQ:=Hd hQ;replace hBr:=Hd hBr;go_upto_region 13 with fail
     clear y6 r0 s0;refine G_region (p:=100) (S0:=fun W=>W.cell? ⟨w.heap.size,6,none⟩=some (.slice (some ⟨gR,oR,none⟩) q.ret.length c3)∧W.cell? ⟨w.heap.size+1,6,none⟩=some (.slice (some ⟨gS,oS,none⟩) q.ret.length d3)∧W.cell? ⟨gR,oR+k,none⟩=some (.slice A6 t.length c6)∧W.cell? ⟨gS,oS+k,none⟩=some (.slice B6 t.length d6)) (S1:=fun _=>True) kQ ?_;refine' TkA 0 rfl hSS ?_;refine' TkA 1 rfl hSS ?_;refine' TkA 2 rfl hSS ?_;refine' TkA 3 rfl hSS ?_;refine' TkA 4 rfl hSS ?_;refine' TkA 5 rfl hSS ?_;refine' TkA 6 rfl hSS ?_;refine' TkA 7 rfl hSS ?_;refine' TkA 8 rfl hSS ?_;refine' TkA 9 rfl hSS ?_;try simp only[Act.put,TkS]
     refine Gs 10 rfl fun K hK=>?_
     go_simp;go_at_call 24;refine ktt.out.mono ?_;rintro e W4 ⟨rfl,hBW4⟩;have hU4:=Hd ((zB wr.heap.size wr).drew.trans hBW4);refine hK.out _ _ ⟨kS.out W4 hU4.out,fun _=>trivial⟩ ?_;have hST:=xW (kS.out W4 hU4.out) trivial;clear hK K hSS hBW4;refine' TkA 11 rfl hST ?_;try simp only[Act.put,TkS]
     clear hST;refine Gd _ ?_;try simp only[Act.put,TkS]
     go_wp2;go_roundw
     case rel=>exact⟨k+1,oQ,gQ,hQ.out.stay hU4.out⟩
     case measure=>exact mQ
    ·obtain rfl:k=q.ret.length:=oQ;have y3:wr.cell? ⟨w.heap.size,3,none⟩=some (.slice A2 q.wh.length c2):=hQ.b1.cell 3;have z3:wr.cell? ⟨w.heap.size+1,3,none⟩=some (.slice B2 q.wh.length d2):=hQ.b2.cell 3;have kww:=Hd (kw.out wr hBr);replace hQ:=Hd hQ;replace hBr:=Hd hBr;go_wp2_with (go_at_call 24;refine kww.out.mono ?_;rintro e W9 ⟨rfl,hB9⟩);go_ret;exact⟨rfl,hBr.out.trans (hB9.mono hBr.out.size)⟩
end lawW
end Go.Proofs.YthaabihjeomipaaGreatDoor
