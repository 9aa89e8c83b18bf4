/- A part of a proof. -/
import Derived.SizedLaws
import Derived.Test.YthiiaehlmfbeoaaGreatDoorWArgtoXR26
set_option linter.all false
namespace Go.Ab
open Go
section
variable{h:AH}{ev:AOpd→AV}
def muF(h:AH)(kk:Nat)(m k x:AV):Option (AV×AH):=exec h (aev [m,k,x]) (.mapUpdate kk (.tmp 0) (.tmp 1) (.tmp 2))
theorem eMU{kk:Nat}{m k x:AOpd}:exec h ev (.mapUpdate kk m k x)=muF h kk (ev m) (ev k) (ev x):=id rfl
theorem eMkM:exec h ev .makeMap=some (.map h.next,h.alloc (.map [] 0)):=id rfl
theorem muS{b:Nat}{l:List (AV×AV×Nat)}{n:Nat}{k:Int}{f:AV}(hg:h.get b=some (.map l n))(hf:findA (.int .i64 k) l 0=some none):muF h 0 (.map b) (.int .i64 k) f=some (.undef,h.put b (.map (l++[(.int .i64 k,f,n)]) (n+1))):=by
 simp only[muF,exec,aev,List.getD_cons_zero,List.getD_cons_succ,AV.keyKind,if_true,hg,hf]
end
theorem put_put{h:AH}{b:Nat}{o o':AO}:(h.put b o).put b o'=h.put b o':=by
 simp only[AH.put]
 congr 1
 funext c
 split<;>rfl
namespace L26
def s0:St:=⟨fun _=>0,fun _=>false,fun _ _=>false,[]⟩
theorem Ql7{es:Nat}:∀{rows:List (List AV)}(_:∀r∈rows,r.length=es)(i:Nat)(hi:i<rows.length),(rows.flatten.drop (i*es)).take es=rows[i]
 |r::rows,hr,0,_=>by
  have:=hr r (by simp);simp[←this]
 |r::rows,hr,i+1,hi=>by
  have h1:=hr r (by simp);have:=Ql7 (rows:=rows) (fun r' h'=>hr r' (by simp[h'])) i (by simpa using hi);rw[List.flatten_cons,Nat.succ_mul,Nat.add_comm,List.drop_append,h1,List.drop_eq_nil_of_le (by omega),List.nil_append,Nat.add_sub_cancel_left];simpa using this
def Qbx:List AV:=[.int .i64 0,.int .i64 0,.int .i64 0,.int .i64 0,.int .i64 0,.int .i64 0,.bool false,.bool false,.bool false,.bool false,.bool false,.bool false,.bool false,.bool false,.bool false,.bool false,.bool false,.bool false,.bool false,.bool false,.bool false,.bool false,.bool false,.bool false,.bool false,.bool false,.bool false,.bool false,.bool false,.bool false,.bool false,.bool false,.bool false,.bool false,.bool false,.bool false,.bool false,.bool false,.bool false,.bool false,.bool false,.bool false,.bool false,.bool false,.bool false,.bool false,.bool false,.bool false]
theorem mc0(fv:AV)(bd:Nat):MC s0 fv .nilslice (.map bd) (fv::Qbx++[.nilslice,.map bd]):=by
 refine⟨rfl,rfl,fun i hi=>?_,fun i hi=>?_,fun i j hi hj=>?_,rfl,rfl⟩
 ·have:i=0∨i=1∨i=2∨i=3∨i=4∨i=5:=by omega
  rcases this with rfl|rfl|rfl|rfl|rfl|rfl<;>rfl
 ·have:i=0∨i=1∨i=2∨i=3∨i=4∨i=5:=by omega
  rcases this with rfl|rfl|rfl|rfl|rfl|rfl<;>rfl
 ·have h1:i=0∨i=1∨i=2∨i=3∨i=4∨i=5:=by omega
  have h2:j=0∨j=1∨j=2∨j=3∨j=4∨j=5:=by omega
  rcases h1 with rfl|rfl|rfl|rfl|rfl|rfl<;>rcases h2 with rfl|rfl|rfl|rfl|rfl|rfl<;>rfl
structure PostB (N nc:Nat)(forms:Nat→CT)(h:AH)(v:AV)(h':AH):Prop where
 ex:∃c:Cx,v=.ptr c.bm 0∧c.N=N∧c.nc=nc∧Mst c forms s0 h'∧Up h h'∧h.next≤c.bm∧h.next≤c.bf∧h.next≤c.bd
theorem Qkn{F:FuncId→Option AFun}{M:Memo}(hF:F 22=some fn22)(hF41:F 41=some fn41)(hM:∀as,M 41 as=none){N:Nat}{lv:AV}{rows:List (List AV)}{forms:Nat→CT}{h:AH}(u:Up h h)(hN:N≤h.next)(s:Sl N h 3 lv rows)(hrow:∀r∈rows,r.length=3∧r.all AV.one=true)(hn:rows.length≠0)(h6:rows.length≤6)
  (hr:∀i (hi:i<rows.length),Rep N h (forms i) rows[i]) :
  Ctr F M 22 [lv] h (PostB N rows.length forms h) (fun _ _=>False):=by
 refine Ctr.intro hF fun caller cs G hk _=>W_ok 300 _ _ _ ?_
 simp only[fn22,b22,Nat.reduceAdd,Nat.reduceSub,wS,wC];refine cCall 300 (hM _) (Qkf hF41 u hN s hrow hn (by omega)) fun v h1 hp=>?_
 obtain⟨bf,rfl,u1,f1,f2,gf⟩:=hp;have q1:bldF h1 (.nilslice::Qbx) [(0,1,.slop bf 0 rows.length 3)]=some (.agg (.slop bf 0 rows.length 3::Qbx),h1):=rfl;have q2:bldF h1 (.nilslice::Qbx++[.nilslice,.nilmap]) [(0,49,.agg (.slop bf 0 rows.length 3::Qbx))]=some (.agg (.slop bf 0 rows.length 3::Qbx++[.nilslice,.nilmap]),h1):=rfl;simp only[Qbx,List.cons_append,List.nil_append]at q1 q2;obtain⟨h2,e2⟩:∃h2,h1.alloc (.cells (.slop bf 0 rows.length 3::Qbx++[.nilslice,.nilmap]) (some 133) 0 [])=h2:=⟨_,rfl⟩
 have e2':=e2;simp only[Qbx,List.cons_append,List.nil_append]at e2';have g2:h2.get h1.next=some (.cells (.slop bf 0 rows.length 3::Qbx++[.nilslice,.nilmap]) (some 133) 0 []):=by rw[←e2];exact Qam _ _
 have u2:Up h h2:=by rw[←e2];exact u1.alloc _
 have n2:h2.next=h1.next+1:=by rw[←e2];rfl
 have gf2:h2.get bf=some (.cells rows.flatten (some 78) 0 []):=by rw[←e2,Qad _ _ f2];exact gf
 simp only[wS,wC,Nat.reduceAdd,List.map_cons,List.map_nil,q1,q2,boxA,eMkM,eMU,e2'];have g3:=Qam h2 (.map [] 0);have g3m:=(Qad h2 (.map [] 0) (show h1.next<h2.next by omega)).trans g2;have g3f:=(Qad h2 (.map [] 0) (show bf<h2.next by omega)).trans gf2;have u3:=u2.alloc (.map [] 0);have n3:(h2.alloc (.map [] 0)).next=h2.next+1:=rfl
 have un1:=u1.next
 generalize h2.alloc (.map [] 0)=h3 at g3 g3m g3f u3 n3 ⊢;have m1:=muS (k:=0) (f:=.func 42 [.ptr h1.next 0] []) g3 rfl;have m2:=muS (k:=1) (f:=.func 43 [.ptr h1.next 0] []) (get_put h3 h2.next (.map [(.int .i64 0,.func 42 [.ptr h1.next 0] [],0)] 1)) rfl;have m3:=muS (k:=2) (f:=.func 44 [.ptr h1.next 0] []) (get_put h3 h2.next (.map [(.int .i64 0,.func 42 [.ptr h1.next 0] [],0),(.int .i64 1,.func 43 [.ptr h1.next 0] [],1)] 2)) rfl;have m4:=muS (k:=3) (f:=.func 45 [.ptr h1.next 0] []) (get_put h3 h2.next (.map [(.int .i64 0,.func 42 [.ptr h1.next 0] [],0),(.int .i64 1,.func 43 [.ptr h1.next 0] [],1),(.int .i64 2,.func 44 [.ptr h1.next 0] [],2)] 3)) rfl;have m5:=muS (k:=4) (f:=.func 46 [.ptr h1.next 0] []) (get_put h3 h2.next (.map [(.int .i64 0,.func 42 [.ptr h1.next 0] [],0),(.int .i64 1,.func 43 [.ptr h1.next 0] [],1),(.int .i64 2,.func 44 [.ptr h1.next 0] [],2),(.int .i64 3,.func 45 [.ptr h1.next 0] [],3)] 4)) rfl;simp only[List.nil_append,List.cons_append,Nat.reduceAdd,Nat.zero_add,put_put]at m1 m2 m3 m4 m5;have gb:(h3.put h2.next (.map (meths h1.next) 5)).get h1.next=some (.cells (.slop bf 0 rows.length 3::Qbx++[.nilslice,.nilmap]) (some 133) 0 []):=(Qab _ _ (by omega)).trans g3m
 have st:=stE (v:=.map h2.next) (vs:=[.map h2.next]) (m:=1) (o:=50) gb (by simp[Qbx]);simp only[meths]at st;simp only[wS,wC,Nat.reduceAdd,List.map_cons,List.map_nil,m1,m2,m3,m4,m5,eMU,ncP,faP,Nat.zero_add,st];refine Qag ⟨rfl,rfl,rfl,rfl⟩ hF rfl (hk _ _ ⟨⟨N,h1.next,h2.next,bf,rows.length⟩,rfl,rfl,rfl,?_,?_,?_,?_,?_⟩)
 ·have hfl:rows.flatten.length=rows.length*3:=Qa9 fun r hr=>(hrow r hr).1
  have hU:Up h (((h3.put h2.next (.map (meths h1.next) 5)).put h1.next (.cells (splice (.slop bf 0 rows.length 3::Qbx++[.nilslice,.nilmap]) 50 [.map h2.next]) (some 133) 0 []))):=by
   exact(u3.put (by omega) (by omega) _).put (by omega) (by rw[Qew];omega) _
  have hL:Low N h _:=hU.low hN;refine⟨⟨_,_,.nilslice,get_put _ _ _,mc0 _ _,GL.nil,fun _ _ _ e=>by cases e⟩,⟨rows.flatten,some 78,?_,hfl,fun i hi=>?_⟩,?_,hU.wf,?_,?_,?_,h6,?_⟩
  ·exact(Qab _ _ (show bf≠h1.next by omega)).trans ((Qab _ _ (show bf≠h2.next by omega)).trans g3f)
  ·rw[Ql7 (fun r h=>(hrow r h).1) i hi];exact(hr i hi).low hL
  ·exact(Qab _ _ (show h2.next≠h1.next by omega)).trans (get_put _ _ _)
  ·show N≤h1.next
   omega
  ·show N≤bf;omega
  ·show bf≠h1.next
   omega
  ·show N≤_;rw[Qew,Qew];omega
 ·exact(u3.put (by omega) (by omega) _).put (by omega) (by rw[Qew];omega) _
 ·exact un1
 ·exact f1
 ·show h.next≤h2.next
  omega
end L26
end Go.Ab
namespace Go.Ab.L26
open Go Go.Ab
def Held(c:Cx)(h:AH)(v:AV)(l:List Int):Prop:=
 (v=.nilslice∧l=[])∨(∃b sp,v=.slice b 0 0 0∧l=[]∧Own c h b (.cells [] sp 0 []))∨∃b,v=.slop b 0 l.length 1∧Own c h b (.cells (ints l).flatten (some 6) 0 [])
section
variable{c:Cx}{forms:Nat→CT}{s:St}{h h' h0:AH}{b b':Nat}{o o':AO}
theorem Own.frS{S:Nat→Prop}(w:Own c h b o)(f:Fr S c h h')(hs:¬S b):Own c h' b o:=by
 refine⟨(f.keep b w.lt w.m hs w.c).trans w.get,Nat.lt_of_lt_of_le w.lt f.next,w.N,w.m,w.f,w.d,fun e=>?_⟩;rcases f.comp _ e with h|h
 ·exact w.c h
 ·have:=w.lt;omega
theorem Held.frS{S:Nat→Prop}{v:AV}{l:List Int}(H:Held c h v l)(f:Fr S c h h')(hs:∀b,S b→b=c.bf):Held c h' v l:=by
 rcases H with H|⟨b,sp,e1,e2,w⟩|⟨b,e1,w⟩
 ·exact .inl H
 ·exact .inr (.inl ⟨b,sp,e1,e2,w.frS f fun e=>w.f (hs b e)⟩)
 ·exact .inr (.inr ⟨b,e1,w.frS f fun e=>w.f (hs b e)⟩)
theorem Held.put{v:AV}{l:List Int}(H:Held c h v l)(w0:Own c h b' o)(ho:∀b2 l2,v=.slop b2 0 l2 1→b2≠b')(ho2:∀b2,v=.slice b2 0 0 0→b2≠b')(o':AO):Held c (h.put b' o') v l:=by
 rcases H with H|⟨b,sp,e1,e2,w⟩|⟨b,e1,w⟩
 ·exact .inl H
 ·exact .inr (.inl ⟨b,sp,e1,e2,w.put (ho2 b e1) w0.m o'⟩)
 ·exact .inr (.inr ⟨b,e1,w.put (ho b _ e1) w0.m o'⟩)
theorem Mst.putForm(m:Mst c forms s h){FL:List AV}{sp:Option Nat}(hg:h.get c.bf=some (.cells FL sp 0 [])){i:Nat}(hi:i<c.nc){T:CT}{row:List AV}(hr:Rep c.N h T row):Mst c (upd forms i T) s (h.put c.bf (.cells (splice FL (i*3) row) sp 0 [])):=by
 obtain⟨L,spm,cv,h1,h2,h3,h4⟩:=m.obj;have hL:Low c.N h (h.put c.bf (.cells (splice FL (i*3) row) sp 0 [])):=fun b hb=>Qab h _ (by have:=m.lf;omega)
 have hrl:row.length=3:=by
  obtain⟨_,_,_,_,_,rfl,_,_⟩:=hr.row3;rfl
 obtain⟨FL',sp',q1,q2,q3⟩:=m.fm.ex;rw[hg]at q1;cases q1;refine⟨⟨L,spm,cv,(Qab _ _ m.ne.symm).trans h1,h2,GL.keep h3 (Nat.le_refl _) fun b n e ev=>Qab _ _ (h4 b n e ev).2,h4⟩,⟨_,sp,get_put _ _ _,by rw[Qb0 (by omega)];exact q2,fun j hj=>?_⟩,?_,fun b hb=>?_,m.lm,m.lf,m.ne,m.nc,m.hN⟩
 ·have e:((splice FL (i*3) row).drop (j*3)).take 3=if j=i then row else (FL.drop (j*3)).take 3:=by
   refine List.ext_getElem? fun q=>?_
   rw[List.getElem?_take,List.getElem?_drop];by_cases hq:q<3
   ·rw[if_pos hq,Qbz (by omega)];by_cases ji:j=i
    ·subst ji;rw[if_pos rfl,if_neg (by omega),if_pos (by omega)]
     congr 1
     omega
    ·rw[if_neg ji,List.getElem?_take,List.getElem?_drop,if_pos hq];by_cases lt:j<i
     ·rw[if_pos (by omega)]
     ·rw[if_neg (by omega),if_neg (by omega)]
   ·rw[if_neg hq];by_cases ji:j=i
    ·rw[if_pos ji,List.getElem?_eq_none (by omega)]
    ·rw[if_neg ji,List.getElem?_take,if_neg hq]
  rw[e];unfold upd;by_cases ji:j=i
  ·rw[if_pos ji,if_pos ji];exact hr.low hL
  ·rw[if_neg ji,if_neg ji];exact(q3 j hj).low hL
 ·rw[Qab _ _ (fun e=>by have:=m.does;rw[e,hg]at this;cases this)];exact m.does
 ·have hb':h.next≤b:=hb
  rw[Qab _ _ (by have:=m.bf_lt;omega)];exact m.wf b hb'
theorem Fr.putForm(m:Mst c forms s h)(o:AO):Fr (· = c.bf) c h (h.put c.bf o):=by
 refine⟨Nat.le_refl _,fun b _ _ hs _=>Qab _ _ hs,fun b hb=>.inl ?_⟩;rw[Qau (Qab h o m.ne.symm)]at hb;exact hb
end
section
variable{F:FuncId→Option AFun}{M:Memo}{c:Cx}{forms:Nat→CT}
theorem Qlp(hF:F 49=some fn49){s:St}{h:AH}(m:Mst c forms s h){L:List AV}{sp:Option Nat}{cv:AV}(hg:h.get c.bm=some (.cells L sp 0 []))(hc:L[49]? = some cv)(hlt:s.comp.length<10000000000) :
  Ctr F M 49 [cv] h (fun v h'=>Held c h' v s.comp∧Mst c forms s h'∧Fr (fun _=>False) c h h'∧∀b l e,v=.slop b 0 l e∨v=.slice b 0 l e→h.next≤b) (fun _ _=>False):=by
 refine Ctr.intro hF fun caller cs G hk _=>W_ok 300 _ _ _ ?_
 obtain⟨mc,gl,_⟩:=m.objOf hg hc;rcases gl.val with⟨rfl,e⟩|⟨b,pre,anc,rfl,e1,e2,e3⟩
 ·have q:binF h .eql 2 .nilslice .nilslice=some (.bool true,h):=rfl;simp only[fn49,b49,Nat.reduceAdd,Nat.reduceSub,wS,wC,q];refine Qag ⟨rfl,rfl,rfl,rfl⟩ hF rfl (hk _ _ ⟨.inl ⟨rfl,?_⟩,m,.refl,fun b l e h=>by rcases h with h|h<;>cases h⟩);simpa[ints] using e
 ·have q:binF h .eql 2 (.slop b 0 (ints s.comp).length 1) .nilslice=some (.bool false,h):=rfl;have q2:bsF h 0 [] []=some (.slice h.next 0 0 0,h.alloc (.cells [] none 0 [])):=rfl;have hil:(ints s.comp).length=s.comp.length:=by simp[ints]
  have hall:∀r∈ints s.comp,r.length=1∧r.all AV.one=true:=fun r hr=>by
   obtain⟨n,_,rfl⟩:=List.mem_map.1 hr;exact⟨rfl,rfl⟩
  have m1:=m.alloc (.cells [] none 0 []);have f1:=Fr.alloc (S:=fun _=>False) m (.cells [] none 0 []);have w1:=Own.new m (.cells [] none 0 []);have gl1:=(m1.objOf ((Qad h (.cells [] none 0 []) m.bm_lt).trans hg) hc).2.1;have sl:=gl1.sl (Nat.le_refl _);have ap:=Qkg (tg:=6) (bytes:=8) sl hall (by decide) (by decide) (by decide) (by omega) w1.get sl.els;by_cases z:(ints s.comp).length=0
  ·rw[if_pos z]at ap;simp only[fn49,b49,Nat.reduceAdd,Nat.reduceSub,wS,wC,q,List.map,q2,ap];refine Qag ⟨rfl,rfl,rfl,rfl⟩ hF rfl (hk _ _ ⟨.inr (.inl ⟨_,_,rfl,List.eq_nil_of_length_eq_zero (by omega),w1⟩),m1,f1,fun b l e h=>?_⟩);rcases h with h|h<;>cases h
   exact Nat.le_refl _
  ·rw[if_neg z]at ap;simp only[fn49,b49,Nat.reduceAdd,Nat.reduceSub,wS,wC,q,List.map,q2,ap];rw[hil];refine Qag ⟨rfl,rfl,rfl,rfl⟩ hF rfl (hk _ _ ⟨.inr (.inr ⟨_,rfl,Own.new m1 _⟩),m1.alloc _,f1.trans (Fr.alloc m1 _),fun b l e h=>?_⟩);rcases h with h|h<;>cases h
   exact Nat.le_succ _
end
def actS(nc:Nat)(forms:Nat→CT)(s:St)(a:Act):(Nat→CT)×St×List Int×Int:=
 if a.set then (upd forms a.cell.toNat a.term,{s with known:=QaI nc s.stands 7 a.cell.toNat s.known},[],0)
 else (forms,(Qaj forms 6 a.cell.toNat {s with comp:=[]}).2,(Qaj forms 6 a.cell.toNat {s with comp:=[]}).2.comp,(Qaj forms 6 a.cell.toNat {s with comp:=[]}).1)
structure PostA (c:Cx)(r:(Nat→CT)×St×List Int×Int)(h:AH)(v:AV)(h':AH):Prop where
 ex:∃w,v=.agg [w,.int .i64 r.2.2.2]∧Held c h' w r.2.2.1∧∀b n e,w=.slop b 0 n e∨w=.slice b 0 n e→h.next≤b
 mst:Mst c r.1 r.2.1 h'
 fr:Fr (· = c.bf) c h h'
theorem Qln(kn:On):cnt kn≤6:=by
 have:∀i,(kn i).toNat≤1:=fun i=>by cases kn i<;>decide
 have h0:=this 0;have h1:=this 1;have h2:=this 2;have h3:=this 3;have h4:=this 4;have h5:=this 5;unfold cnt;omega
theorem resC{h:AH}{t:List AV}{i n:Nat}{l:List AV}(e:loadA h n (t.getD i .undef)=some l):QaA h t [.cell i true n]=some (.agg l):=by
 simp only[QaA,List.mapM_cons,List.mapM_nil,Qcg,e,if_true];rfl
theorem Held.bld{c:Cx}{h h':AH}{w:AV}{l:List Int}{n:Int}(H:Held c h w l):bldF h' [.nilslice,.int .i64 0] [(0,1,w),(1,1,.int .i64 n)]=some (.agg [w,.int .i64 n],h')∧[w,.int .i64 n].all AV.one=true:=by
 rcases H with⟨rfl,_⟩|⟨b,sp,rfl,_⟩|⟨b,rfl,_⟩<;>exact⟨rfl,rfl⟩
section
variable{F:FuncId→Option AFun}{M:Memo}{c:Cx}{forms:Nat→CT}
theorem QoC(H:FnC F M)(HD:FnD F M)(hF:F 23=some fn23)(hF49:F 49=some fn49)(hM49:∀as,M 49 as=none)(hs:∀c,sizeC (forms c)≤12)(hR:∀i,i<c.nc→RightT i (forms i)){s:St}{h:AH}{a:Act}{row:List AV}(m:Mst c forms s h)(hr:RepA c.N h a row)(h0:0≤a.cell)(hc:a.cell<c.nc) :
  Ctr F M 23 [.ptr c.bm 0,.agg row] h (PostA c (actS c.nc forms s a) h) (fun _ _=>False):=by
 refine Ctr.intro hF fun caller cs G hk _=>W_ok 300 _ _ _ ?_
 obtain⟨x,y,z,rfl,hone,hT⟩:=repA5 hr;obtain⟨j,hj⟩:∃j:Nat,a.cell=(j:Int):=⟨a.cell.toNat,by omega⟩
 have hjn:j<c.nc:=by omega
 have hj6:j<6:=Nat.lt_of_lt_of_le hjn m.nc;have hjt:a.cell.toNat=j:=by omega
 unfold actS at hk;rw[hjt]at hk;rw[hj]at hone ⊢;obtain⟨L,sp,cv,gm,mc,_,_⟩:=m.obj;obtain⟨h2,e2⟩:∃h2,(h.alloc (.cells [.bool a.set,.int .i64 (j:Int),x,y,z] (some 83) 0 [])).alloc (.cells [.nilslice,.int .i64 0] (some 87) 0 [])=h2:=⟨_,rfl⟩
 have ma:=m.alloc (.cells [.bool a.set,.int .i64 (j:Int),x,y,z] (some 83) 0 []);have m2:=ma.alloc (.cells [.nilslice,.int .i64 0] (some 87) 0 []);have f2:=(Fr.alloc (S:=fun _=>False) m (.cells [.bool a.set,.int .i64 (j:Int),x,y,z] (some 83) 0 [])).trans (Fr.alloc ma (.cells [.nilslice,.int .i64 0] (some 87) 0 []));have w2:=(Own.new m (.cells [.bool a.set,.int .i64 (j:Int),x,y,z] (some 83) 0 [])).alloc ma (.cells [.nilslice,.int .i64 0] (some 87) 0 []);have r2:Own c ((h.alloc (.cells [.bool a.set,.int .i64 (j:Int),x,y,z] (some 83) 0 [])).alloc (.cells [.nilslice,.int .i64 0] (some 87) 0 [])) (h.next+1) (.cells [.nilslice,.int .i64 0] (some 87) 0 []):=Own.new ma _;have gm2:((h.alloc (.cells [.bool a.set,.int .i64 (j:Int),x,y,z] (some 83) 0 [])).alloc (.cells [.nilslice,.int .i64 0] (some 87) 0 [])).get c.bm=some (.cells L sp 0 []):=(Qad _ _ ma.bm_lt).trans ((Qad _ _ m.bm_lt).trans gm);simp only[fn23,b23,Nat.reduceAdd,Nat.reduceSub,wS,wC,boxA,alE,QeY,e2];rw[e2]at m2 f2 w2 r2 gm2;have l0:loadA h2 1 (.ptr h.next 0)=some [.bool a.set]:=by rw[ldP w2.get];rfl
 have l1:loadA h2 1 (.ptr h.next 1)=some [.int .i64 (j:Int)]:=by rw[ldP w2.get];rfl
 have hT2:Rep c.N h2 a.term [x,y,z]:=hT.low (m.low f2 fun _ e=>e.elim);simp only[wS,wC,Nat.reduceAdd,faP,l0];cases es:a.set with
 |true =>
  simp only[es,if_true]at hk;simp only[wS,wC,Nat.reduceAdd,faP,l1];refine cCall 300 (HD.m 47 (by simp) _) (Qh6 HD 7 s h2 j hjn (by have:=Qln s.known;omega) m2) fun v h3 hp=>?_
  obtain⟨rfl,m3,f3⟩:=hp;have w3:=w2.fr f3;have r3:=r2.fr f3;obtain⟨L3,sp3,cv3,gm3,mc3,_,_⟩:=m3.obj;obtain⟨FL,sf,q1,q2,q3⟩:=m3.fm.ex;have lf:loadA h3 1 (.ptr c.bm 0)=some [.slop c.bf 0 c.nc 3]:=by rw[ldP gm3,rdC1 mc3.f]
  have k1:loadA h3 1 (.ptr h.next 1)=some [.int .i64 (j:Int)]:=by rw[ldP w3.get];rfl
  have k3:loadA h3 3 (.ptr h.next 2)=some [x,y,z]:=by rw[ldP w3.get];rfl
  have hone3:[x,y,z].all AV.one=true:=by
   simp only[List.all_cons,List.all_nil,Bool.and_true,Bool.and_eq_true]at hone ⊢;exact hone.2.2
  have st:=stE (v:=.agg [x,y,z]) (vs:=[x,y,z]) (m:=3) (o:=j*3) q1 (by omega) rfl rfl rfl hone3;have hT3:Rep c.N h3 a.term [x,y,z]:=hT2.low (m2.low f3 fun _ e=>e.elim);simp only[wS,wC,Nat.reduceAdd,AOp.makes,ncP,faP,Nat.zero_add,lf,k1,k3,idxO hjn,st,List.map_nil];have m4:=m3.putForm q1 hjn hT3;have f4:=((f2.trans f3).mono (S':=(· = c.bf)) fun _ e=>e.elim).trans (Fr.putForm m3 (.cells (splice FL (j*3) [x,y,z]) sf 0 []));have r4:Own c (h3.put c.bf (.cells (splice FL (j*3) [x,y,z]) sf 0 [])) (h.next+1) (.cells [.nilslice,.int .i64 0] (some 87) 0 []):=r3.frS (S:=(· = c.bf)) (Fr.putForm m3 _) r3.f;generalize h3.put c.bf (.cells (splice FL (j*3) [x,y,z]) sf 0 [])=h4 at m4 f4 r4 ⊢;have st2:=stE (v:=.agg [.nilslice,.int .i64 0]) (vs:=[.nilslice,.int .i64 0]) (m:=2) (o:=0) r4.get (by simp);simp only[wS,wC,Nat.reduceAdd,st2,List.map_nil];have m5:=m4.putOwn r4 (.cells (splice [.nilslice,.int .i64 0] 0 [.nilslice,.int .i64 0]) (some 87) 0 []);have f5:=f4.putOwn r4 (by omega) (.cells (splice [.nilslice,.int .i64 0] 0 [.nilslice,.int .i64 0]) (some 87) 0 []);have g5:=get_put h4 (h.next+1) (.cells (splice [.nilslice,.int .i64 0] 0 [.nilslice,.int .i64 0]) (some 87) 0 []);exact Qag ⟨rfl,rfl,rfl,rfl⟩ hF (resC (l:=[.nilslice,.int .i64 0]) (by show loadA _ 2 (.ptr (h.next+1) 0)=_;rw[ldP g5];rfl)) (hk _ _ ⟨⟨_,rfl,.inl ⟨rfl,rfl⟩,fun b n e h=>by rcases h with h|h<;>cases h⟩,m5,f5⟩)
 |false =>
  simp only[es,Bool.false_eq_true,if_false]at hk;have hlen:=mc.len;have st:=stE (v:=.nilslice) (vs:=[.nilslice]) (m:=1) (o:=49) gm2 (by omega);have m3:=m2.putObj gm2 (mc.setC .nilslice []) GL.nil (fun _ _ _ e=>by cases e);have f3:Fr (fun _=>False) c h2 (h2.put c.bm (.cells (splice L 49 [.nilslice]) sp 0 [])):=Fr.putObj gm2 fun b hb=>by
   rw[(mc.setC .nilslice []).c]at hb;cases hb
  have r3:=r2.fr f3;have w3:=w2.fr f3;simp only[wS,wC,Nat.reduceAdd,faP,ncP,Nat.zero_add,st];generalize h2.put c.bm (.cells (splice L 49 [.nilslice]) sp 0 [])=h3 at m3 f3 r3 w3 ⊢;have k1:loadA h3 1 (.ptr h.next 1)=some [.int .i64 (j:Int)]:=by rw[ldP w3.get];rfl
  simp only[wS,wC,Nat.reduceAdd,faP,Nat.zero_add,k1];refine cCall 300 (H.m 48 (by simp) _) (Qjb H hs hR 6 j (by omega) hjn {s with comp:=[]} h3 m3 (by simp[B])) fun v h4 hp=>?_
  obtain⟨rfl,m4,f4⟩:=hp;obtain⟨L4,sp4,cv4,gm4,mc4,_,_⟩:=m4.obj;have lc:loadA h4 1 (.ptr c.bm 49)=some [cv4]:=by rw[ldP gm4,rdC1 mc4.c]
  have r4:=r3.fr f4;have hcl:=QbZ hs 6 j {s with comp:=[]};simp only[List.length_nil,B]at hcl;simp only[wS,wC,Nat.reduceAdd,faP,ncP,Nat.zero_add,lc];refine cCall 300 (hM49 _) (Qlp hF49 m4 gm4 mc4.c (by omega)) fun w h5 hp=>?_
  obtain⟨hw,m5,f5,hnew⟩:=hp;have r5:=r4.fr f5;have st2:=fun n=>stE (v:=.agg [w,.int .i64 n]) (vs:=[w,.int .i64 n]) (m:=2) (o:=0) r5.get (by simp) rfl rfl rfl (hw.bld (h':=h5)).2
  have bb:=fun n=>(hw.bld (h':=h5) (n:=n)).1
  simp only[wS,wC,Nat.reduceAdd,List.map_cons,List.map_nil,bb,st2];have f05:=(((f2.trans f3).trans f4).trans f5).mono (S':=(· = c.bf)) fun _ e=>e.elim
  have lt4:=r4.lt;have hw6:=hw.put r5 (fun b2 l2 e=>by have:=hnew _ _ _ (.inl e);omega) (fun b2 e=>by have:=hnew _ _ _ (.inr e);omega) (.cells (splice [.nilslice,.int .i64 0] 0 [w,.int .i64 (Qaj forms 6 j {s with comp:=[]}).1]) (some 87) 0 []);have m6:=m5.putOwn r5 (.cells (splice [.nilslice,.int .i64 0] 0 [w,.int .i64 (Qaj forms 6 j {s with comp:=[]}).1]) (some 87) 0 []);have f6:=f05.putOwn r5 (by omega) (.cells (splice [.nilslice,.int .i64 0] 0 [w,.int .i64 (Qaj forms 6 j {s with comp:=[]}).1]) (some 87) 0 []);have g6:=get_put h5 (h.next+1) (.cells (splice [.nilslice,.int .i64 0] 0 [w,.int .i64 (Qaj forms 6 j {s with comp:=[]}).1]) (some 87) 0 []);exact Qag ⟨rfl,rfl,rfl,rfl⟩ hF (resC (l:=[w,.int .i64 (Qaj forms 6 j {s with comp:=[]}).1]) (by show loadA _ 2 (.ptr (h.next+1) 0)=_;rw[ldP g6];rfl)) (hk _ _ ⟨⟨_,rfl,hw6,fun b n e hb=>by have:=hnew b n e hb;omega⟩,m6,f6⟩)
end
structure OkF (nc:Nat)(forms:Nat→CT):Prop where
 sz:∀c,sizeC (forms c)≤12
 rt:∀i,i<nc→RightT i (forms i)
structure OkA (nc:Nat)(a:Act):Prop where
 lo:0≤a.cell
 hi:a.cell<nc
 sz:a.set=true→sizeC a.term≤12
 rt:a.set=true→RightT a.cell.toNat a.term
theorem OkF.act{nc:Nat}{forms:Nat→CT}{s:St}{a:Act}(h:OkF nc forms)(ha:OkA nc a):OkF nc (actS nc forms s a).1:=by
 unfold actS;cases es:a.set with
 |true =>
  simp only[if_true];refine⟨fun c=>?_,fun i hi=>?_⟩
  ·unfold upd;split
   ·exact ha.sz es
   ·exact h.sz c
  ·unfold upd;split
   ·rename_i e;rw[e];exact ha.rt es
   ·exact h.rt i hi
 |false=>simpa using h
theorem Qfc:∀{l:List Int},Qbt l=0→∀e∈l,e=0
 | [],_,e,h=>by cases h
 |x::l,h,e,he=>by
  unfold Qbt at h;split at h
  ·rename_i hx;rcases List.mem_cons.1 he with rfl|he
   ·exact hx
   ·exact Qfc h e he
  ·contradiction
theorem QfO{T:CT}{cell:Int}(h:Qat T cell=0):sizeC T≤12∧Qa3 cell T=0:=by
 unfold Qat at h;split at h
 ·exact⟨‹_›,h⟩
 ·cases h
def Qaq(cs:List CT)(i:Nat):CT:=cs.getD i default
theorem QbP{cs:List CT}{as:List Act}(h:Qak cs as=0):cs.length≠0∧cs.length≤6∧as.length≤10∧OkF cs.length (Qaq cs)∧∀a∈as,OkA cs.length a:=by
 unfold Qak at h;split at h
 ·cases h
 rename_i h1;split at h
 ·cases h
 rename_i h2;split at h
 ·rename_i h3;have hc:∀i,i<cs.length→Qat (cs.getD i default) i=0:=fun i hi=>Qfc h3 _ (List.mem_map.2 ⟨i,List.mem_range.2 hi,rfl⟩)
  refine⟨h2,by omega,by omega,⟨fun c=>?_,fun i hi=>(QfO (hc i hi)).2⟩,fun a ha=>?_⟩
  ·by_cases hc':c<cs.length
   ·exact(QfO (hc c hc')).1
   ·unfold Qaq;rw[List.getD_eq_getElem?_getD,List.getElem?_eq_none (by omega)];decide
  ·obtain⟨i,hi,rfl⟩:=List.getElem_of_mem ha;have e:actD cs.length (as.getD i default)=0:=Qfc h _ (List.mem_map.2 ⟨i,List.mem_range.2 hi,rfl⟩);rw[List.getD_eq_getElem?_getD,gE hi,Option.getD_some]at e;unfold actD at e;split at e
   ·cases e
   ·rename_i hlo;refine⟨by omega,by omega,fun es=>?_,fun es=>?_⟩
    ·rw[if_pos es]at e;exact(QfO e).1
    ·rw[if_pos es]at e;have:=(QfO e).2;unfold RightT;rw[show ((as[i].cell.toNat:Nat):Int)=as[i].cell by omega];exact this
 ·contradiction
section
variable{c:Cx}{forms:Nat→CT}{s:St}{h h':AH}
theorem Mst.keep(m:Mst c forms s h){S:Nat→Prop}(hS:∀b,S b→c.N≤b∧b≠c.bm∧b≠c.bf∧b≠c.bd∧L26.compOf h c.bm≠some b)(hn:h.next≤h'.next)(hk:∀b,b<h.next→¬S b→h'.get b=h.get b)(wf:∀b,h'.next≤b→h'.get b=none) :
  Mst c forms s h'∧Fr S c h h'∧L26.compOf h' c.bm=L26.compOf h c.bm:=by
 obtain⟨L,sp,cv,h1,h2,h3,h4⟩:=m.obj;have kbm:h'.get c.bm=h.get c.bm:=hk _ m.bm_lt fun e=>(hS _ e).2.1 rfl
 have kbf:h'.get c.bf=h.get c.bf:=hk _ m.bf_lt fun e=>(hS _ e).2.2.1 rfl
 have kbd:h'.get c.bd=h.get c.bd:=hk _ m.bd_lt fun e=>(hS _ e).2.2.2.1 rfl
 have hL:Low c.N h h':=fun b hb=>hk b (by have:=m.hN;omega) fun e=>by have:=(hS _ e).1;omega
 refine⟨⟨⟨L,sp,cv,kbm.trans h1,h2,GL.keep h3 hn fun b n e ev=>?_,h4⟩,?_,kbd.trans m.does,wf,m.lm,m.lf,m.ne,m.nc,Nat.le_trans m.hN hn⟩,⟨hn,fun b hb _ hs _=>hk b hb hs,fun b hb=>.inl ?_⟩,Qau kbm⟩
 ·have hb:L26.compOf h c.bm=some b:=by
   unfold L26.compOf;rw[h1];show sbOf L[49]? = _;rw[h2.c,ev];rfl
  exact hk b (m.compOf hb).2.1 fun e=>(hS _ e).2.2.2.2 hb
 ·obtain⟨FL,sp2,q1,q2,q3⟩:=m.fm.ex;exact⟨FL,sp2,kbf.trans q1,q2,fun i hi=>(q3 i hi).low hL⟩
 ·rw[Qau kbm]at hb;exact hb
def Blk(v:AV)(b:Nat):Prop:=∃n e,v=.slop b 0 n e∨v=.slice b 0 n e
def OwnV(c:Cx)(h:AH)(v:AV):Prop:=∀b,Blk v b→∃o,Own c h b o
theorem Held.keep{S:Nat→Prop}{v:AV}{l:List Int}(H:Held c h v l)(f:Fr S c h h')(hs:∀b,Blk v b→¬S b):Held c h' v l:=by
 rcases H with H|⟨b,sp,e1,e2,w⟩|⟨b,e1,w⟩
 ·exact .inl H
 ·exact .inr (.inl ⟨b,sp,e1,e2,w.frS f (hs b ⟨_,_,.inr e1⟩)⟩)
 ·exact .inr (.inr ⟨b,e1,w.frS f (hs b ⟨_,_,.inl e1⟩)⟩)
theorem Held.ownV{v:AV}{l:List Int}(H:Held c h v l):OwnV c h v:=by
 rintro b ⟨n,e,hb⟩;rcases H with⟨rfl,_⟩|⟨b',sp,rfl,e2,w⟩|⟨b',rfl,w⟩
 ·rcases hb with h|h<;>cases h
 ·rcases hb with h|h<;>cases h
  exact⟨_,w⟩
 ·rcases hb with h|h<;>cases h
  exact⟨_,w⟩
theorem OwnV.keep{S:Nat→Prop}{v:AV}(H:OwnV c h v)(f:Fr S c h h')(hs:∀b,Blk v b→¬S b):OwnV c h' v:=fun b hb=>by
 obtain⟨o,w⟩:=H b hb;exact⟨o,w.frS f (hs b hb)⟩
theorem appOwn(m:Mst c forms s h){tg es bytes:Nat}{ov:AV}{R:List (List AV)}(g:GL c.N h tg es ov R)(ho:OwnV c h ov){b':Nat}{r:List AV}{sp:Option Nat}(hg:h.get b'=some (.cells r sp 0 []))(hr:r.length=es)(hone:r.all AV.one=true)
  (hes:es≠0)(hb0:bytes≠0)(hb1:bytes<1000000)(hn:R.length*bytes<1000000000000) :
  ∃ov' h',appF h es bytes tg ov (.slice b' 0 1 1)=some (ov',h')∧GL c.N h' tg es ov' (R++[r])∧OwnV c h' ov'∧Mst c forms s h'∧Fr (Blk ov) c h h'∧∀b,Blk ov' b→h.next≤b:=by
 obtain⟨ov',h',e1,e2,e3,e4,e5,e6,e7,e8⟩:=g.app m.wf m.hN hg hr hone hes hb0 hb1 hn;have hnew:∀b,Blk ov' b→b=h.next:=by
  rintro b ⟨n,e,hb⟩;rw[e8]at hb;rcases hb with h|h<;>cases h
  rfl
 obtain⟨m',f',ec⟩:=m.keep (h':=h') (S:=Blk ov) (fun b hb=>by
  obtain⟨o,w⟩:=ho b hb;exact⟨w.N,w.m,w.f,w.d,w.c⟩) e3 (fun b hb hs=>e7 b hb fun b2 n e ev hbb=>hs ⟨n,e,.inl (by rw[ev,hbb])⟩) e5
 refine⟨ov',h',e1,e2,fun b hb=>?_,m',f',fun b hb=>by rw[hnew b hb];exact Nat.le_refl _⟩;have hbn:=hnew b hb;subst hbn;rcases e2.val with⟨e,_⟩|⟨b2,pre,anc,e,q1,q2,q3⟩
 ·rw[e8]at e;cases e
 ·rw[e8]at e;injection e with e;subst e;refine⟨_,q1,q3,m.hN,by have:=m.bm_lt;omega,by have:=m.bf_lt;omega,by have:=m.bd_lt;omega,fun e=>?_⟩;rw[ec]at e;have:=(m.compOf e).2.1;omega
end
abbrev Told:=List Int×Int
def runS(nc:Nat):(Nat→CT)→St→List Act→List Told
 |_,_,[]=>[]
 |forms,s,a::l=>((actS nc forms s a).2.2.1,(actS nc forms s a).2.2.2)::runS nc (actS nc forms s a).1 (actS nc forms s a).2.1 l
structure RepD (N:Nat)(h:AH)(l:List Told)(v:AV):Prop where
 ex:∃rows,Sl N h 2 v rows∧rows.length=l.length∧∀i (h1:i<rows.length)(h2:i<l.length),∃w,rows[i]=[w,.int .i64 l[i].2]∧Sl N h 1 w (ints l[i].1)
theorem Held.sl{c:Cx}{h:AH}{v:AV}{l:List Int}(H:Held c h v l){N:Nat}(hN:h.next≤N):Sl N h 1 v (ints l):=by
 have hr:∀r∈ints l,r.length=1:=fun r hr=>by
  obtain⟨n,_,rfl⟩:=List.mem_map.1 hr;rfl
 rcases H with⟨rfl,rfl⟩|⟨b,sp,rfl,rfl,w⟩|⟨b,rfl,w⟩
 ·exact Sl.nil
 ·exact Sl.ofCells (.inr ⟨0,rfl⟩) (Nat.lt_of_lt_of_le w.lt hN) w.get rfl rfl (by simp) hr
 ·have hl:=Qa9 hr;have hil:(ints l).length=l.length:=by simp[ints]
  exact Sl.ofCells (.inl rfl) (Nat.lt_of_lt_of_le w.lt hN) w.get hil (by rw[←hil,←hl,List.take_length]) (by omega) hr
theorem Held.bs{c:Cx}{h h':AH}{w:AV}{l:List Int}{n:Int}(H:Held c h w l):bsF h' 1 [.nilslice,.int .i64 0] [(0,2,.agg [w,.int .i64 n])]=some (.slice h'.next 0 1 1,h'.alloc (.cells [w,.int .i64 n] none 0 []))∧[w,.int .i64 n].all AV.one=true:=by
 rcases H with⟨rfl,_⟩|⟨b,sp,rfl,_⟩|⟨b,rfl,_⟩<;>exact⟨rfl,rfl⟩
theorem Fr.two{c:Cx}{h h1 h2:AH}{S T:Nat→Prop}(a:Fr S c h h1)(b:Fr T c h1 h2)(hT:∀b,T b→S b∨h.next≤b):Fr S c h h2:=
 ((a.mono (S':=fun b=>S b∨T b) fun b e=>.inl (.inl e)).trans (b.mono (S':=fun b=>S b∨T b) fun b e=>.inl (.inr e))).mono fun b e=>by
  rcases e with e|e
  ·exact .inl e
  ·exact hT b e
theorem GL.fr{c:Cx}{h h':AH}{S:Nat→Prop}{tg es:Nat}{v:AV}{R:List (List AV)}(g:GL c.N h tg es v R)(ho:OwnV c h v)(f:Fr S c h h')(hs:∀b,Blk v b→¬S b):GL c.N h' tg es v R:=
 GL.keep g f.next fun b n e ev=>by
  obtain⟨o,w⟩:=ho b ⟨n,e,.inl ev⟩;exact f.keep b w.lt w.m (hs b ⟨n,e,.inl ev⟩) w.c
structure Acc (c:Cx)(h3 h:AH)(ov:AV)(R:List (List AV))(l:List Told):Prop where
 gl:GL c.N h 86 2 ov R
 own:OwnV c h ov
 new:∀b,Blk ov b→h3.next≤b
 len:R.length=l.length
 row:∀i (h1:i<R.length)(h2:i<l.length),∃w,R[i]=[w,.int .i64 l[i].2]∧Held c h w l[i].1∧∀b,Blk w b→¬Blk ov b
theorem Acc.fr{c:Cx}{h3 h h':AH}{ov:AV}{R:List (List AV)}{l:List Told}{S:Nat→Prop}(A:Acc c h3 h ov R l)(f:Fr S c h h')(hs:∀b,S b→b=c.bf):Acc c h3 h' ov R l:=by
 have h1:∀v,OwnV c h v→∀b,Blk v b→¬S b:=fun v hv b hb e=>by
  obtain⟨o,w⟩:=hv b hb;exact w.f (hs b e)
 refine⟨GL.fr A.gl A.own f (h1 _ A.own),A.own.keep f (h1 _ A.own),A.new,A.len,fun i q1 q2=>?_⟩;obtain⟨w,e1,e2,e3⟩:=A.row i q1 q2;exact⟨w,e1,e2.keep f (h1 _ e2.ownV),e3⟩
theorem Acc.app{c:Cx}{forms:Nat→CT}{s:St}{h3 h:AH}{ov:AV}{R:List (List AV)}{l:List Told}(A:Acc c h3 h ov R l)(m:Mst c forms s h)(h3h:h3.next≤h.next){w:AV}{d:Told}(hw:Held c h w d.1)(hd:∀b,Blk w b→¬Blk ov b){b':Nat}{sp:Option Nat}(hg:h.get b'=some (.cells [w,.int .i64 d.2] sp 0 []))(hn:R.length<1000) :
  ∃ov' h',appF h 2 32 86 ov (.slice b' 0 1 1)=some (ov',h')∧Acc c h3 h' ov' (R++[[w,.int .i64 d.2]]) (l++[d])∧Mst c forms s h'∧Fr (Blk ov) c h h':=by
 obtain⟨ov',h',e1,e2,e3,m',f',hnew⟩:=appOwn m A.gl A.own hg rfl (hw.bs (h':=h)).2 (es:=2) (bytes:=32) (by decide) (by decide) (by decide) (by omega);refine⟨ov',h',e1,⟨e2,e3,fun b hb=>Nat.le_trans h3h (hnew b hb),by simp[A.len],fun i q1 q2=>?_⟩,m',f'⟩;have old:∀v l',Held c h v l'→(∀b,Blk v b→¬Blk ov b)→Held c h' v l'∧∀b,Blk v b→¬Blk ov' b:=fun v l' hv hdv=>⟨hv.keep f' hdv,fun b hb e=>by
  obtain⟨o,w⟩:=hv.ownV b hb;have:=w.lt;have:=hnew b e;omega⟩
 by_cases hi:i<R.length
 ·obtain⟨w',q3,q4,q5⟩:=A.row i hi (by rw[←A.len];exact hi);obtain⟨q6,q7⟩:=old w' _ q4 q5;refine⟨w',?_,?_,q7⟩
  ·rw[List.getElem_append_left hi,List.getElem_append_left (by rw[←A.len];exact hi)];exact q3
  ·rw[List.getElem_append_left (by rw[←A.len];exact hi)];exact q6
 ·have hi':i=R.length:=by simp at q1;omega
  subst hi';obtain⟨q6,q7⟩:=old w _ hw hd;refine⟨w,?_,?_,q7⟩
  ·simp[A.len]
  ·have:(l++[d])[R.length]=d:=by simp[A.len]
   rw[this];exact q6
structure FnE (F:FuncId→Option AFun)(M:Memo):Prop where
 B:FnB F M
 C:FnC F M
 D:FnD F M
 f22:F 22=some fn22
 f41:F 41=some fn41
 f23:F 23=some fn23
 f49:F 49=some fn49
 f8:F 8=some fn8
 f14:F 14=some fn14
 f13:F 13=some fn13
 m:∀f∈[22,41,23,49,17,8,14,13],∀as,M f as=none
section
variable{F:FuncId→Option AFun}{M:Memo}
def QaC(cs:List CT)(as:List Act):List Told×Int:=if Qak cs as=0 then (runS cs.length (Qaq cs) s0 as,0) else ([],Qak cs as)
theorem Qex(H:FnE F M){cells:List CT}{acts:List Act}{N:Nat}{h:AH}{cv av:AV}{crows arows:List (List AV)}(u:Up h h)(hN:N≤h.next)(hc:RepCs N h cells cv crows)(ha:RepAs N h acts av arows) :
  Ctr F M 8 [.agg [cv,av]] h (fun v h'=>∃w,v=.tuple [w,.int .i64 (QaC cells acts).2]∧RepD h'.next h' (QaC cells acts).1 w∧Up h h') (fun _ _=>False):=by
 refine Ctr.intro H.f8 fun caller cs G hk _=>W_ok 300 _ _ _ ?_
 simp only[fn8,b8,Nat.reduceAdd,Nat.reduceSub,wS,wC];refine wBoxA (Wk.start u) fun b1 h1 w1=>?_
 have g1:=w1.get 0 rfl;have L1:=w1.up.low hN;have l1:loadA h1 2 (.ptr b1 0)=some [cv,av]:=by rw[ldP g1];rfl
 simp only[wS,wC,Nat.reduceAdd,l1];refine cCall 300 (H.m 17 (by simp) _) (QcO H.B w1.self (Nat.le_trans hN w1.up.next) (hc.low L1) (ha.low L1)) fun v h2 hp=>?_
 obtain⟨rfl,u2⟩:=hp;simp only[wS,wC,Nat.reduceAdd];by_cases c0:Qak cells acts=0
 ·have hd:decide (Qak cells acts≠0)=false:=decide_eq_false (fun e=>e c0);obtain⟨z1,z2,z3,okF,okA⟩:=QbP c0;have g2:=(u2.keep b1 (lt_of_get w1.up.wf g1)).trans g1;have L2:=(w1.up.trans u2).low hN;have N2:N≤h2.next:=Nat.le_trans hN (w1.up.trans u2).next
  have l20:loadA h2 1 (.ptr b1 0)=some [cv]:=by rw[ldP g2];rfl
  have hc2:=(hc.low L2).mono N2;have ha2:=(ha.low L2).mono N2;simp only[wS,wC,Nat.reduceAdd,hd,faP,Nat.zero_add,l20];refine cCall 300 (H.m 22 (by simp) _) (Qkn (forms:=Qaq cells) H.f22 H.f41 (H.m 41 (by simp)) (.refl u2.wf) (Nat.le_refl _) hc2.sl hc2.rows (by rw[←hc2.len];exact z1) (by rw[←hc2.len];exact z2) fun i hi=>?_) fun v h3 hp=>?_
  ·have:=hc2.rep i (by rw[hc2.len];exact hi) hi;have e:Qaq cells i=cells[i]'(by rw[hc2.len];exact hi):=by
    unfold Qaq;rw[List.getD_eq_getElem?_getD,gE (by rw[hc2.len];exact hi),Option.getD_some]
   rw[e];exact this
  obtain⟨c,rfl,cN,cnc,m3,u3,o1,o2,o3⟩:=hp;have u13:=(w1.up.trans u2).trans u3;have g3:=(u3.keep b1 (by have:=lt_of_get w1.up.wf g1;have:=u2.next;omega)).trans g2;have l31:loadA h3 1 (.ptr b1 1)=some [av]:=by rw[ldP g3];rfl
  have lav:=ha2.sl.len;simp only[wS,wC,Nat.reduceAdd,faP,Nat.zero_add,l31,lav];have cN':c.N=h2.next:=cN
  have cnc':c.nc=cells.length:=by rw[cnc,hc2.len]
  refine Qbv (fun mm t h5=>∃(i:Nat) (forms:Nat→CT) (s:St) (ov:AV) (R:List (List AV)) (l:List Told) (x7 x8 x21 x22 x23 x24 x25 x26 x27 x28 x29 x30 x31:AV),mm=arows.length-i∧i≤arows.length∧Mst c forms s h5∧OkF cells.length forms∧Fr (· = c.bf) c h3 h5∧Acc c h3 h5 ov R l∧R.length=i ∧
   l++runS cells.length forms s (acts.drop i)=runS cells.length (Qaq cells) s0 acts ∧
   t=[.agg [cv,av],.ptr b1 0,.nilslice,.int .i64 0,.int .i64 (Qak cells acts),.ptr c.bm 0,ov,x7,x8,.agg [cv,av],.int .i64 (Qak cells acts),.int .i64 (Qak cells acts),.bool false,.undef,.ptr b1 0,cv,.ptr c.bm 0,.ptr b1 1,av,.int .i64 (arows.length:Nat),.int .i64 (i:Nat),x21,x22,x23,x24,x25,x26,x27,x28,x29,x30,x31]) (arows.length-0) ?_ ?_
  ·exact⟨0,Qaq cells,s0,.nilslice,[],[],_,_,_,_,_,_,_,_,_,_,_,_,_,rfl,Nat.zero_le _,m3,okF,.refl,⟨GL.nil,(fun b ⟨n,e,hb⟩=>by rcases hb with hb|hb<;>cases hb),(fun b ⟨n,e,hb⟩=>by rcases hb with hb|hb<;>cases hb),rfl,fun i h1=>absurd h1 (by simp)⟩,rfl,rfl,rfl⟩
  ·rintro mm t h5 ⟨i,forms,s,ov,R,l,x7,x8,x21,x22,x23,x24,x25,x26,x27,x28,x29,x30,x31,rfl,hi,m5,ok5,f5,A5,hRi,hrun,rfl⟩ ih5;refine W_ok 300 _ _ _ ?_;have L5:Low h2.next h3 h5:=by rw[←cN'];exact m3.low f5 fun b e=>e ▸ m3.lf
   have L05:Low h2.next h2 h5:=fun b hb=>(L5 b hb).trans (u3.keep b hb)
   by_cases ci:i<arows.length
   ·have hd:decide ((i:Int)<(arows.length:Int))=true:=decide_eq_true (by omega);have cia:i<acts.length:=by rw[ha2.len];exact ci
    obtain⟨p,q1,q2,q3⟩:=ha2.sl.row i ci;have q4:=(QaH L05 q2 5).trans q3;have hra:=(ha2.rep i cia ci).low L05;obtain⟨x,y,z,er,hone,hT⟩:=repA5 hra;have hok:=okA acts[i] (List.getElem_mem cia);rw[er]at q4 hra hone;rw[←cN']at hra;simp only[wS,wC,Nat.reduceAdd,hd,q1,q4,alE];have m6:=m5.alloc (.cells [.bool false,.int .i64 0,.int .i64 0,.int .i64 0,.nilslice] (some 83) 0 []);have f6:=Fr.alloc (S:=(· = c.bf)) m5 (.cells [.bool false,.int .i64 0,.int .i64 0,.int .i64 0,.nilslice] (some 83) 0 []);have w6:=Own.new m5 (.cells [.bool false,.int .i64 0,.int .i64 0,.int .i64 0,.nilslice] (some 83) 0 []);generalize h5.alloc (.cells [.bool false,.int .i64 0,.int .i64 0,.int .i64 0,.nilslice] (some 83) 0 [])=h6 at m6 f6 w6 ⊢;have st:=stE (v:=.agg [.bool acts[i].set,.int .i64 acts[i].cell,x,y,z]) (vs:=[.bool acts[i].set,.int .i64 acts[i].cell,x,y,z]) (m:=5) (o:=0) w6.get (by simp) rfl rfl rfl hone;simp only[wS,wC,Nat.reduceAdd,st];have m7:=m6.putOwn w6 (.cells (splice [.bool false,.int .i64 0,.int .i64 0,.int .i64 0,.nilslice] 0 [.bool acts[i].set,.int .i64 acts[i].cell,x,y,z]) (some 83) 0 []);have f7:=f6.putOwn w6 (Nat.le_refl _) (.cells (splice [.bool false,.int .i64 0,.int .i64 0,.int .i64 0,.nilslice] 0 [.bool acts[i].set,.int .i64 acts[i].cell,x,y,z]) (some 83) 0 []);have w7:=w6.set (.cells (splice [.bool false,.int .i64 0,.int .i64 0,.int .i64 0,.nilslice] 0 [.bool acts[i].set,.int .i64 acts[i].cell,x,y,z]) (some 83) 0 []);generalize h6.put h5.next (.cells (splice [.bool false,.int .i64 0,.int .i64 0,.int .i64 0,.nilslice] 0 [.bool acts[i].set,.int .i64 acts[i].cell,x,y,z]) (some 83) 0 [])=h7 at m7 f7 w7 ⊢
    have l7:loadA h7 5 (.ptr h5.next 0)=some [.bool acts[i].set,.int .i64 acts[i].cell,x,y,z]:=by rw[ldP w7.get];rfl
    simp only[wS,wC,Nat.reduceAdd,l7];have hra7:RepA c.N h7 acts[i] [.bool acts[i].set,.int .i64 acts[i].cell,x,y,z]:=hra.low (m5.low f7 fun b e=>e ▸ m5.lf);refine cCall 300 (H.m 23 (by simp) _) (QoC H.C H.D H.f23 H.f49 (H.m 49 (by simp)) ok5.sz (by rw[cnc'];exact ok5.rt) m7 hra7 hok.lo (by rw[cnc'];exact hok.hi)) fun v h8 hp=>?_
    obtain⟨⟨w,rfl,hw,hnew⟩,m8,f8⟩:=hp;rw[cnc']at hw m8;have hb:=fun n=>(hw.bs (h':=h8) (n:=n)).1
    simp only[wS,wC,Nat.reduceAdd,List.map_cons,List.map_nil,hb];have m9:=m8.alloc (.cells [w,.int .i64 (actS c.nc forms s acts[i]).2.2.2] none 0 []);have f9:=Fr.alloc (S:=(· = c.bf)) m8 (.cells [w,.int .i64 (actS c.nc forms s acts[i]).2.2.2] none 0 []);have g9:=Qam h8 (.cells [w,.int .i64 (actS c.nc forms s acts[i]).2.2.2] none 0 []);have hn9:h8.next≤(h8.alloc (.cells [w,.int .i64 (actS c.nc forms s acts[i]).2.2.2] none 0 [])).next:=Nat.le_succ _
    generalize h8.alloc (.cells [w,.int .i64 (actS c.nc forms s acts[i]).2.2.2] none 0 [])=h9 at m9 f9 g9 hn9 ⊢;rw[cnc']at g9;have f59:=(f7.trans f8).trans f9;have A9:=A5.fr f59 fun b e=>e
    have hw9:=hw.keep f9 fun b hb e=>by
     obtain⟨o,q⟩:=hw.ownV b hb;exact q.f e
    have hdis:∀b,Blk w b→¬Blk ov b:=fun b hb e=>by
     obtain⟨n1,e1,hb⟩:=hb;obtain⟨o,q⟩:=A5.own b e;have:=q.lt;have:=hnew b n1 e1 hb;have:=f7.next
     omega
    have f39:=f5.trans f59;obtain⟨ov',h10,e1,A10,m10,f10⟩:=A9.app m9 f39.next hw9 hdis g9 (by have:=ha2.len;omega)
    have hup:IntKind.i64.wrap ((i:Int)+1)=((i+1:Nat):Int):=QaW (by have:=ha2.len;omega);rw[List.drop_eq_getElem_cons cia]at hrun;simp only[runS]at hrun;simp only[wS,wC,Nat.reduceAdd,e1,hup];exact ih5 _ _ _ (by omega) ⟨i+1,_,_,ov',_,_,_,_,_,_,_,_,_,_,_,_,_,_,_,rfl,ci,m10,ok5.act hok,f39.two f10 (fun b hb=>.inr (A9.new b hb)),A10,by simp[hRi],by rw[List.append_assoc];exact hrun,rfl⟩
   ·have hd:decide ((i:Int)<(arows.length:Int))=false:=decide_eq_false (by omega);have hz:acts.drop i=[]:=by simp;have:=ha2.len;omega
    rw[hz]at hrun;simp only[runS,List.append_nil]at hrun;have e:QaC cells acts=(l,0):=by unfold QaC;rw[if_pos c0,hrun]
    simp only[wS,wC,Nat.reduceAdd,hd];have u5:Up h h5:=⟨Nat.le_trans u13.next f5.next,fun b hb=>by
     have a1:=w1.up.next
     have a2:=u2.next
     have a3:=u3.next
     rw[f5.keep b (by omega) (by omega) (show ¬b=c.bf by omega) (fun e=>by have:=(m3.compOf e).1;omega)];exact u13.keep b hb,m5.wf⟩
    refine Qag ⟨rfl,rfl,rfl,rfl⟩ H.f8 rfl (hk _ _ ⟨ov,by rw[e];rfl,?_,u5⟩);rw[e];exact⟨⟨R,A5.gl.sl (Nat.le_refl _),A5.len,fun i q1 q2=>by
     obtain⟨w,e1,e2,_⟩:=A5.row i q1 q2;exact⟨w,e1,e2.sl (Nat.le_refl _)⟩⟩⟩
 ·have hd:decide (Qak cells acts≠0)=true:=decide_eq_true c0;have e:QaC cells acts=([],Qak cells acts):=if_neg c0;simp only[wS,wC,Nat.reduceAdd,hd];refine Qag ⟨rfl,rfl,rfl,rfl⟩ H.f8 rfl (hk _ _ ⟨.nilslice,by rw[e];rfl,?_,w1.up.trans u2⟩);rw[e];exact⟨⟨[],Sl.nil,rfl,fun i h1=>absurd h1 (by simp)⟩⟩
end
section
variable{P:Program}{H:Type}
theorem Qjr{t:TypeId}{k:IntKind}{d:DataW H}{row:List AV}(hu:P.underlying t=some (.int k))(h:Rd P t d row):∃n,row=[.int k n]∧(Lit.int k n).wf=true:=by
 cases h with
 |int k' n hu' hw =>
  rw[hu]at hu';cases hu';exact⟨n,rfl,hw⟩
 |bool b hu'=>rw[hu]at hu';cases hu'
 |str s hu' hs=>rw[hu]at hu';cases hu'
 |nils hu'=>rw[hu]at hu';cases hu'
 |empty sp hu'=>rw[hu]at hu';cases hu'
 |vec ds sp rows hu'=>rw[hu]at hu';cases hu'
 |struct fs ds rows hu'=>rw[hu]at hu';cases hu'
theorem rd_bool{t:TypeId}{d:DataW H}{row:List AV}(hu:P.underlying t=some .bool)(h:Rd P t d row):∃b,row=[.bool b]:=by
 cases h with
 |int k' n hu' hw=>rw[hu]at hu';cases hu'
 |bool b hu'=>exact⟨b,rfl⟩
 |str s hu' hs=>rw[hu]at hu';cases hu'
 |nils hu'=>rw[hu]at hu';cases hu'
 |empty sp hu'=>rw[hu]at hu';cases hu'
 |vec ds sp rows hu'=>rw[hu]at hu';cases hu'
 |struct fs ds rows hu'=>rw[hu]at hu';cases hu'
theorem Qgg{t:TypeId}{fs:Array Field}{d:DataW H}{row:List AV}(hu:P.underlying t=some (.struct fs))(h:Rd P t d row) :
  ∃(ds:List (DataW H))(rows:List (List AV)),d=.agg ds∧row=rows.flatten∧ds.length=fs.size∧rows.length=fs.size∧∀i (h:i<fs.size)(h1:i<ds.length)(h2:i<rows.length),Rd P fs[i].type ds[i] rows[i]:=by
 cases h with
 |int k' n hu' hw=>rw[hu]at hu';cases hu'
 |bool b hu'=>rw[hu]at hu';cases hu'
 |str s hu' hs=>rw[hu]at hu';cases hu'
 |nils hu'=>rw[hu]at hu';cases hu'
 |empty sp hu'=>rw[hu]at hu';cases hu'
 |vec ds sp rows hu'=>rw[hu]at hu';cases hu'
 |struct fs' ds rows hu' hl hl2 hr =>
  rw[hu]at hu';cases hu';exact⟨ds,rows,rfl,rfl,hl,hl2,hr⟩
theorem QdY{t:TypeId}:∀{ds:List (DataW H)}(i:Nat)(h:i<ds.length),∀n∈ds[i].weights P t,n∈DataW.weightsAll P t ds
 |d::ds,0,_,n,hn=>by
  simp only[DataW.weightsAll,List.mem_append];exact .inl hn
 |d::ds,i+1,h,n,hn=>by
  simp only[DataW.weightsAll,List.mem_append];exact .inr (QdY i (by simpa using h) n (by simpa using hn))
theorem Qji:∀{l:List CT},(∀t∈l,Short t)→Shorts l
 | [],_=>trivial
 |a::l,h=>⟨h a (by simp),Qji fun t ht=>h t (by simp[ht])⟩
theorem rd_list{tl te:TypeId}{es:Nat}(hL:P.underlying tl=some (.slice te))(hc:P.cellsOf te=es)(hb:1≤P.bytesOf te){d:DataW H}{row:List AV}(h:Rd P tl d row)(hw:∀x∈d.weights P tl,x≤reachBytes) :
  ∃(lv:AV)(rows:List (List AV))(ds:List (DataW H)),row=[lv]∧rows.length=ds.length∧ds.length≤reachBytes∧(∀i (h1:i<ds.length)(h2:i<rows.length),Rd P te ds[i] rows[i]∧∀x∈ds[i].weights P te,x≤reachBytes)∧∀N h,Sl N h es lv rows:=by
 cases h with
 |bool b hu=>rw[hL]at hu;cases hu
 |int k n hu hw=>rw[hL]at hu;cases hu
 |str s hu hs=>rw[hL]at hu;cases hu
 |struct fs ds rows hu=>rw[hL]at hu;cases hu
 |nils hu=>exact⟨.nilslice,[],[],rfl,rfl,Nat.zero_le _,fun i h1=>absurd h1 (by simp),fun _ _=>Sl.nil⟩
 |empty sp hu=>exact⟨.empty,[],[],rfl,rfl,Nat.zero_le _,fun i h1=>absurd h1 (by simp),fun _ _=>Sl.empty⟩
 |vec ds sp rows hu hl hm hr hz =>
  have hu':=hu;rw[hL]at hu;cases hu;have hwt:(ds.length+sp.length)*P.bytesOf te≤reachBytes:=hw _ (by simp[DataW.weights,hu']);have hlen:ds.length≤reachBytes:=by
   have:(ds.length+sp.length)*1≤(ds.length+sp.length)*P.bytesOf te:=Nat.mul_le_mul_left _ hb;omega
  refine⟨.vec rows,rows,ds,rfl,by omega,hlen,fun i h1 h2=>⟨hr i h1 h2,fun x hx=>hw x (by
   simp only[DataW.weights,hu',List.mem_cons,List.mem_append];exact .inr (.inl (QdY i h1 x hx)))⟩,fun _ _=>Sl.vec fun r hr'=>by rw[hz r hr',hc]⟩
theorem QfI{tt tl:TypeId}{f0 f1 f2:Field}(hT:P.underlying tt=some (.struct #[f0,f1,f2]))(h0:P.underlying f0.type=some (.int .i64))(h1:P.underlying f1.type=some (.int .i64))(h2:f2.type=tl)
  (hL:P.underlying tl=some (.slice tt))(hc:P.cellsOf tt=3)(hb:1≤P.bytesOf tt):∀{t:TypeId}{d:DataW H}{row:List AV},Rd P t d row →
  (t=tt→(∀x∈d.weights P t,x≤reachBytes)→∃T,Short T∧∀h,Rep 0 h T row) ∧
  (t=tl→(∀x∈d.weights P t,x≤reachBytes)→∃(lv:AV)(l:List CT)(rows:List (List AV)),row=[lv]∧∀h,RepCs 0 h l lv rows):=by
 intro t d row H
 induction H with
 |bool b hu=>exact⟨fun e=>(by subst e;rw[hT]at hu;cases hu),fun e=>(by subst e;rw[hL]at hu;cases hu)⟩
 |int k n hu hw=>exact⟨fun e=>(by subst e;rw[hT]at hu;cases hu),fun e=>(by subst e;rw[hL]at hu;cases hu)⟩
 |str s hu hs=>exact⟨fun e=>(by subst e;rw[hT]at hu;cases hu),fun e=>(by subst e;rw[hL]at hu;cases hu)⟩
 |nils hu=>exact⟨fun e=>(by subst e;rw[hT]at hu;cases hu),fun e _=>⟨.nilslice,[],[],rfl,fun h=>⟨Sl.nil,rfl,fun i h1=>absurd h1 (by simp),(fun t ht=>by cases ht),by simp⟩⟩⟩
 |empty sp hu=>exact⟨fun e=>(by subst e;rw[hT]at hu;cases hu),fun e _=>⟨.empty,[],[],rfl,fun h=>⟨Sl.empty,rfl,fun i h1=>absurd h1 (by simp),(fun t ht=>by cases ht),by simp⟩⟩⟩
 |vec ds sp rows hu hl hm hr hz ih =>
  refine⟨fun e=>(by subst e;rw[hT]at hu;cases hu),fun e hw=>?_⟩;subst e;have hu':=hu;rw[hL]at hu;cases hu;have hwt:(ds.length+sp.length)*P.bytesOf tt≤reachBytes:=hw _ (by simp[DataW.weights,hu']);have hlen:ds.length≤reachBytes:=by
   have:(ds.length+sp.length)*1≤(ds.length+sp.length)*P.bytesOf tt:=Nat.mul_le_mul_left _ hb;omega
  have hwe:∀i (h:i<ds.length),∀x∈ds[i].weights P tt,x≤reachBytes:=fun i h x hx=>hw x (by
   simp only[DataW.weights,hu',List.mem_cons,List.mem_append];exact .inr (.inl (QdY i h x hx)))
  obtain⟨l,hl2,hp⟩:=QcK (p:=fun i (T:CT)=>∀(h:i<rows.length),Short T∧∀h',Rep 0 h' T rows[i]) rows.length fun i hi=>by
   obtain⟨T,e2,e3⟩:=(ih i (by omega) hi).1 rfl (hwe i (by omega));exact⟨T,fun _=>⟨e2,e3⟩⟩
  refine⟨.vec rows,l,rows,rfl,fun h=>⟨Sl.vec fun r hr'=>by rw[hz r hr',hc],hl2,fun i q1 q2=>(hp i q1 q2).2 h,fun t ht=>?_,?_⟩⟩
  ·obtain⟨i,hi,rfl⟩:=List.getElem_of_mem ht;exact(hp i hi (by omega)).1
  ·have:=reachBytes_lt;omega
 |struct fs ds rows hu hl hl2 hr ih =>
  refine⟨fun e hw=>?_,fun e=>(by subst e;rw[hL]at hu;cases hu)⟩;subst e;have hu':=hu;rw[hT]at hu;cases hu
  match rows,hl2,hr,ih with
  | [r0,r1,r2],_,hr,ih =>
   match ds,hl,hr,ih with
   | [d0,d1,d2],_,hr,ih =>
    obtain⟨k,e0,_⟩:=Qjr h0 (hr 0 (by simp) (by simp) (by simp));obtain⟨n,e1,_⟩:=Qjr h1 (hr 1 (by simp) (by simp) (by simp));obtain⟨lv,l,rows,e2,hh⟩:=(ih 2 (by simp) (by simp) (by simp)).2 h2 (fun x hx=>hw x (by
     simp only[DataW.weights,hu'];exact DataW.weights_mem_each (j:=2) rfl rfl x hx))
    have e0':r0=[.int .i64 k]:=e0;have e1':r1=[.int .i64 n]:=e1;have e2':r2=[lv]:=e2;subst e0' e1' e2';have hz:=hh ⟨fun _=>none,0⟩;exact⟨.mk k n l,⟨hz.lt,Qji hz.short⟩,fun h=>.mk k n l lv rows (hh h).sl (hh h).len (hh h).rep⟩
theorem Qmy{ts tt tl ta tla:TypeId}{g0 g1 f0 f1 f2 a0 a1 a2:Field}(hS:P.underlying ts=some (.struct #[g0,g1]))(k0:g0.type=tl)(k1:g1.type=tla)
  (hT:P.underlying tt=some (.struct #[f0,f1,f2]))(h0:P.underlying f0.type=some (.int .i64))(h1:P.underlying f1.type=some (.int .i64))(h2:f2.type=tl)(hL:P.underlying tl=some (.slice tt))(hc:P.cellsOf tt=3)(hb:1≤P.bytesOf tt)
  (hA:P.underlying ta=some (.struct #[a0,a1,a2]))(i0:P.underlying a0.type=some .bool)(i1:P.underlying a1.type=some (.int .i64))(i2:a2.type=tt)(hLA:P.underlying tla=some (.slice ta))(hcA:P.cellsOf ta=5)(hbA:1≤P.bytesOf ta)
  {d:DataW H}{row:List AV}(h:Rd P ts d row)(hw:∀x∈d.weights P ts,x≤reachBytes):∃cv av cells acts crows arows,row=[cv,av]∧∀h,RepCs 0 h cells cv crows∧RepAs 0 h acts av arows:=by
 obtain⟨ds,rows,rfl,rfl,hl,hl2,hr⟩:=Qgg hS h
 match rows,hl2,hr with
 | [r0,r1],_,hr =>
  match ds,hl,hr with
  | [d0,d1],_,hr =>
   have hw0:=fun x hx=>hw x (by
    simp only[DataW.weights,hS];exact DataW.weights_mem_each (j:=0) rfl rfl x hx)
   have hw1:=fun x hx=>hw x (by
    simp only[DataW.weights,hS];exact DataW.weights_mem_each (j:=1) rfl rfl x hx)
   obtain⟨cv,cells,crows,e0,hcs⟩:=(QfI hT h0 h1 h2 hL hc hb (hr 0 (by simp) (by simp) (by simp))).2 k0 hw0;have r1:=hr 1 (by simp) (by simp) (by simp);have r1':Rd P tla d1 _:=k1 ▸ r1;obtain⟨av,arows,ads,e1,q1,q2,q3,q4⟩:=rd_list hLA hcA hbA r1' (by rw[←k1];exact hw1);obtain⟨acts,p1,p2⟩:=QcK (p:=fun i (a:Act)=>∀(h:i<arows.length),Short a.term∧∀h',RepA 0 h' a arows[i]) arows.length fun i hi=>by
    obtain⟨z1,z2⟩:=q3 i (by omega) hi;obtain⟨es,rs,y1,y2,y3,y4,y5⟩:=Qgg hA z1
    match rs,y4,y5 with
    | [s0,s1,s2],_,y5 =>
     match es,y3,y5 with
     | [e0,e1,e2],_,y5 =>
      obtain⟨b,x0⟩:=rd_bool i0 (y5 0 (by simp) (by simp) (by simp));obtain⟨n,x1,_⟩:=Qjr i1 (y5 1 (by simp) (by simp) (by simp));obtain⟨T,x2,x3⟩:=(QfI hT h0 h1 h2 hL hc hb (y5 2 (by simp) (by simp) (by simp))).1 i2 (fun x hx=>z2 x (by
       rw[y1];simp only[DataW.weights,hA];exact DataW.weights_mem_each (j:=2) rfl rfl x hx))
      have x0':s0=[.bool b]:=x0;have x1':s1=[.int .i64 n]:=x1;subst x0' x1';refine⟨⟨b,n,T⟩,fun _=>⟨x2,fun h'=>⟨⟨s2,by rw[y2];simp,x3 h'⟩⟩⟩⟩
   have e0':r0=[cv]:=e0;refine⟨cv,av,cells,acts,crows,arows,?_,fun h=>⟨hcs h,q4 0 h,p1,fun i w1 w2=>(p2 i w1 w2).2 h,fun t ht=>?_,?_⟩⟩
   ·have e1':(match [r0,‹List AV›] with|[_,b]=>b|_=>[])=[av]:=e1;rw[e0'];simp at e1' ⊢;exact e1'
   ·obtain⟨i,hi,rfl⟩:=List.getElem_of_mem ht;exact(p2 i hi (by omega)).1
   ·have:=reachBytes_lt;omega
end
end Go.Ab.L26
