/- A part of a proof. -/
import Derived.Test.YthiiaehlmfbeoaaGreatDoorAbR2toAbI7
set_option linter.all false
namespace Go.Ab
open Go
section
variable{P:Program}{G:Nat→Option (List AV)}{C:List Frame}
variable{K:World→Prop}
theorem HeadR.run{g:Gam}{af:AF}{fr:Frame}(h:HeadR P g af fr)(hm:af.mode=.run):fr.mode=.run:=by
 have:=h.mode;rw[hm]at this;generalize fr.mode=z at this;cases this;rfl
theorem HeadR.notRun{g:Gam}{af:AF}{fr:Frame}(h:HeadR P g af fr)(hm:af.mode≠.run):fr.mode≠.run:=by
 have:=h.mode;generalize fr.mode=z at this ⊢;generalize af.mode=y at this hm;cases this with
 |run=>exact absurd rfl hm
 |returning=>simp
 |panicking=>simp
theorem HeadR.roundNone{g:Gam}{af:AF}{fr:Frame}(h:HeadR P g af fr)(hr:af.roundOf=none):fr.roundOf=none:=by
 have:=h.round;rw[hr]at this;cases hf:fr.roundOf with
 |none=>rfl
 |some x=>rw[hf]at this;exact this.elim
theorem HeadR.roundSome{g:Gam}{af:AF}{fr:Frame}{l:Nat}(h:HeadR P g af fr)(hr:af.roundOf=some l):∃β,fr.roundOf=some β∧g.rho l=some (β,0):=by
 have:=h.round;rw[hr]at this;cases hf:fr.roundOf with
 |none=>rw[hf]at this;exact this.elim
 |some x=>rw[hf]at this;exact⟨x,rfl,this⟩
theorem ItemsR.cons_inv{g:Gam}{a:AItem}{l:List AItem}{t:List Item}(h:ItemsR P G g (a::l) t):∃i k,t=i::k∧ItemR P G g a i∧ItemsR P G g l k:=by
 cases h with
 |cons h1 h2=>exact⟨_,_,rfl,h1,h2⟩
theorem ItemsR.nil_inv{g:Gam}{t:List Item}(h:ItemsR P G g [] t):t=[]:=by cases h;rfl
theorem plain_to{B:Nat}{w0:World}{g:Gam}{q:Nat→Prop}{s:AS}{fr:Frame}{cs:List Frame}{w:World}{ak:List AItem}{k:List Item}(hd:HeadR P g s.fr fr)(hm:s.fr.mode=.run)(ht:VRs g s.fr.tmps fr.tmps.toList)(T:StackR P G C g q s.cs cs)
  (H:HR (CodeR P G) B ⟨w0,fun x=>False∨q x⟩ g s.h w)(hG:GlobR G g)(hk:ItemsR P G g ak k):StR P G C B w0 {s with fr:={s.fr with todo:=ak}} (lone {fr with todo:=k} cs w):=
 ⟨g,fun _=>False,q,_,_,w,rfl,.plain _ _ (hd.of_same rfl rfl rfl rfl rfl rfl rfl rfl rfl rfl) hm ht hk,T,fun x hx=>hx.elim,H,hG⟩
theorem CodeR.inv{a:AC}{c:Code}(h:CodeR P G a c) :
  match a with
  | .skip=>c=.skip
  | .region l=>∃id ops,c=.region id ops false∧OpsR P G l ops
  | .draw plan tl=>∃id ops l,c=.region id ops true∧OpsR P G l ops∧(Region.departs ops && !P.follows .mixedOrders)=false∧Qfp l (bsOps ops)=some (.draw plan tl)
  | .seq x y=>∃u v,c=.seq u v∧CodeR P G x u∧CodeR P G y v
  | .cond x t e=>∃x' u v,c=.cond x' u v∧Qaa G x'=some x∧CodeR P G t u∧CodeR P G e v
  | .block id b=>∃u,c=.block id u∧CodeR P G b u
  | .loop b=>∃u,c=.loop u∧CodeR P G b u
  | .rangeFunc f ps x y=>∃f' ps' u v,c=.rangeFunc f' ps' u v∧Qaa G f'=some f∧ps=ps'.toList∧CodeR P G x u∧CodeR P G y v
  | .exit id=>c=.exit id
  | .scope b=>∃u,c=.scope u∧CodeR P G b u
  | .label l=>c=.label l
  | .goto l=>c=.goto l
  | .ret=>c=.ret
  | .stuck=>True:=by
 cases c with
 |skip=>simp only[CodeR,Qah,oI]at h;subst h;rfl
 |region id ops draw =>
  simp only[CodeR,Qah,QcM]at h;split at h
  ·cases h
  ·rename_i l hl;split at h
   ·rename_i hdr;split at h
    ·cases h
    ·rename_i hdep;have hp:=h;unfold Qfp at h;simp only at h;split at h
     ·cases h;exact⟨id,ops,l,by rw[hdr],hl,by simpa using hdep,hp⟩
     ·cases h
   ·rename_i hdr;cases h;exact⟨id,ops,by simp at hdr;rw[hdr],hl⟩
 |seq u v =>
  simp only[CodeR,Qah]at h;split at h
  ·rename_i x y hx hy;cases h;exact⟨u,v,rfl,hx,hy⟩
  ·cases h
 |cond x u v =>
  simp only[CodeR,Qah]at h;split at h
  ·rename_i ax tx ty hx h1 h2;cases h;exact⟨x,u,v,rfl,hx,h1,h2⟩
  ·cases h
 |block id u =>
  simp only[CodeR,Qah]at h;obtain⟨x,hx,rfl⟩:=oM h;exact⟨u,rfl,hx⟩
 |loop u =>
  simp only[CodeR,Qah]at h;obtain⟨x,hx,rfl⟩:=oM h;exact⟨u,rfl,hx⟩
 |rangeFunc f ps u v =>
  simp only[CodeR,Qah]at h;split at h
  ·rename_i af x y hx h1 h2;cases h;exact⟨f,ps,u,v,rfl,hx,rfl,h1,h2⟩
  ·cases h
 |exit id=>simp only[CodeR,Qah,oI]at h;subst h;rfl
 |scope u =>
  simp only[CodeR,Qah]at h;obtain⟨x,hx,rfl⟩:=oM h;exact⟨u,rfl,hx⟩
 |label l=>simp only[CodeR,Qah,oI]at h;subst h;rfl
 |goto l=>simp only[CodeR,Qah,oI]at h;subst h;rfl
 |ret=>simp only[CodeR,Qah,oI]at h;subst h;rfl
 |refuse w=>simp only[CodeR,Qah,oI]at h;subst h;trivial
theorem QgE{B:Nat}{w0:World}{g:Gam}{q:Nat→Prop}{s s':AS}{fr:Frame}{cs:List Frame}{w':World}{v:AV}{u:Value}{m:Machine}(hd:HeadR P g s.fr fr)(T:StackR P G C g q s.cs cs)
  (H:HR (CodeR P G) B ⟨w0,fun x=>False∨q x⟩ g s.h w')(hG:GlobR G g)(hv:VR g v u)(hl:Qii s v=some s')
  (hn:fr.kind=.normal→∀c rest,cs=c::rest→step P m=.next (lone (c.finish u) rest w'))
  (hdf:fr.kind=.deferred→∀c rest,cs=c::rest→(∀v older,c.mode≠.panicking ({v,recovered:=true}::older))→(∀v older,c.mode≠.panicking ({v,recovered:=true,goexit:=true}::older))→step P m=.next (lone c rest w'))
  (hdr:fr.kind=.deferred→∀c rest v older,cs=c::rest→c.mode=.panicking ({v,recovered:=true}::older)→(∀e∈older,e.goexit=false)→step P m=.next (lone {c with mode:=.returning} rest w')) :
  ∃m',Steps P m m'∧StR P G C B w0 s' m':=by
 unfold Qii at hl;generalize hcs:s.cs=acs at T hl;split at hl
 ·rename_i caller arest;generalize hqq:q=q0 at T;cases T with
  | @cons p1 q1 _ fc _ crest hS1 hT1 hpq1 =>
   subst hqq;have hw:∀x,p1 x∨q1 x→False∨p1 x∨q1 x:=fun x hx=>.inr hx
   split at hl
   ·rename_i hk;obtain⟨af',haf',rfl⟩:=oM hl;obtain⟨p',hcur,hpp⟩:=QaU hS1 g.le_refl hv haf';exact⟨_,Steps.one (hn (by rw[hd.kind,hk]) _ _ rfl),StR.mk (s:={fr:=af',cs:=arest,h:=s.h}) hcur hpp hT1 hpq1 (H.weaken hw) hG⟩
   ·rename_i hk;have hkf:fr.kind=.deferred:=by rw[hd.kind,hk]
    have hmd:=hS1.head.mode;split at hl
    ·cases hl
    ·rename_i v0 older hcm;cases hl;rw[hcm]at hmd;generalize hfm:fc.mode=fm at hmd;cases hmd with
     |panicking _ k' hch =>
      cases hch with
      | @cons _ _ v' _ k'' hvv htl =>
       have hng:∀(l:List APanic) (k:List PanicEntry),ChainR g l k→∀e∈k,e.goexit=false:=by
        intro l k hc
        induction hc with
        |nil=>intro e he;cases he
        |cons _ _ ih =>
         intro e he;rcases List.mem_cons.1 he with rfl|he
         ·rfl
         ·exact ih e he
       refine⟨_,Steps.one (hdr hkf fc crest v' k'' rfl hfm (hng _ _ htl)),?_⟩;have hnr:caller.mode≠.run:=by rw[hcm];simp
       have hhd:=hS1.head;refine⟨g,fun _=>False,q1,_,_,w',rfl,?_,hT1,fun x hx=>hx.elim,H.weaken fun x hx=>hx.elim False.elim fun h=>.inr (.inr h),hG⟩;refine .left _ _ ⟨hhd.fn,hhd.func,hhd.defers,.returning,hhd.kind,hhd.round⟩ (by simp) ?_;cases hS1 with
       |region _ _ l ops i idx ak k hd hm _ _ _ _ _ _=>exact absurd hm hnr
       |main _ _ l ops m rest D fs tl ist ag mask ak k hd hm _ _ _ _ _ _ _ _=>exact absurd hm hnr
       |rangeFunc _ _ x β ak k hd hm _ _ _ _ _=>exact absurd hm hnr
       |left _ _ hd hm ht=>exact ht
    ·rename_i hno;cases hl;have hnr:caller.mode≠.run→∃p',CurR P G g s.h p' caller fc∧∀x,p' x→p1 x:=by
      intro hnr;cases hS1 with
      |region _ _ l ops i idx ak k hd hm _ _ _ _ _ _=>exact absurd hm hnr
      |main _ _ l ops m rest D fs tl ist ag mask ak k hd hm _ _ _ _ _ _ _ _=>exact absurd hm hnr
      |rangeFunc _ _ x β ak k hd hm _ _ _ _ _=>exact absurd hm hnr
      |left _ _ hd hm ht=>exact⟨fun _=>False,.left _ _ hd hm ht,fun x hx=>hx.elim⟩
     have hno':(∀v older,fc.mode≠.panicking ({v,recovered:=true}::older))∧(∀v older,fc.mode≠.panicking ({v,recovered:=true,goexit:=true}::older)):=by
      refine⟨fun v older e=>?_,fun v older e=>?_⟩
      ·rw[e]at hmd;generalize ham:caller.mode=am at hmd hno;cases hmd with
       |panicking l _ hch =>
        cases hch with
        |cons hvv htl=>exact hno _ _ rfl
      ·rw[e]at hmd;generalize ham:caller.mode=am at hmd hno;cases hmd with
       |panicking l _ hch=>cases hch
     by_cases hrn:caller.mode=.run
     ·exact absurd hrn (by assumption)
     ·obtain⟨p',hcur,hpp⟩:=hnr hrn;exact⟨_,Steps.one (hdf hkf _ _ rfl hno'.1 hno'.2),StR.mk (s:={fr:=caller,cs:=arest,h:=s.h}) hcur hpp hT1 hpq1 (H.weaken hw) hG⟩
   ·cases hl
 ·cases hl
theorem Qeu{B:Nat}{w0:Anchor}{g:Gam}{h:AH}{w:World}{mf:Func}{rs:List ARes}(H:HR (CodeR P G) B w0 g h w)(hr:mf.results.toList.mapM (Qcw P)=some rs){tmps:List AV}{vs:Array Value}(ht:VRs g tmps vs.toList){v:AV}
  (hv:QaA h tmps rs=some v):∃u,(results mf vs).run P w=.ok u w∧VR g v u:=by
 have one:∀(r:ResultVar) (ar:ARes) (x:AV),Qcw P r=some ar→Qcg h tmps ar=some x →
   ∃u,(match r with|.tmp t=>pure (vs.getD t undef)|.cell a t=>do loadVar t (←asAddr (vs.getD a undef)):Sem Value).run P w=.ok u w∧VR g x u:=by
  intro r ar x hc hx;cases r with
  |tmp t =>
   simp only[Qcw,oI]at hc;subst hc;simp only[Qcg,oI]at hx;subst hx;exact⟨_,rfl,ht.getD t⟩
  |cell a t =>
   simp only[Qcw]at hc;split at hc
   ·rename_i b n hb hn;cases hc;simp only[Qcg]at hx;split at hx
    ·rename_i l hl;obtain⟨ad,us,hu,h1,h2,h3⟩:=H.loadA hl (ht.getD a);cases b with
     |true =>
      simp only[if_true,oI]at hx;subst hx;refine⟨.agg us.toArray,?_,h1.agg⟩;have:=run_loadCells_list (P:=P) w ad us h3;rw[h2]at this;simp[hu,asAddr,loadVar,QbF hb,run_sizeOf hn,this]
     |false =>
      simp only[Bool.false_eq_true,if_false]at hx;split at hx
      ·rename_i y;cases hx
       match us,h1 with
       | [z],h1 =>
        have hc:=h3 0 z (by simp);have e0:ad.add 0=ad:=by simp[Addr.add]
        rw[e0]at hc;exact⟨z,by simp[hu,asAddr,loadVar,QbF hb,load,Sem.run,hc],h1.head⟩
       | [],h1=>have:=h1.len;simp at this
       |_::_::_,h1=>have:=h1.len;simp at this
      ·cases hx
    ·cases hx
   ·cases hc
 have all:∀(l:List ResultVar) (al:List ARes) (xs:List AV),l.mapM (Qcw P)=some al→al.mapM (Qcg h tmps)=some xs →
   ∃us,(l.mapM fun r=>(match r with|.tmp t=>pure (vs.getD t undef)|.cell a t=>do loadVar t (←asAddr (vs.getD a undef)):Sem Value)).run P w=.ok us w∧VRs g xs us:=by
  intro l
  induction l with
  |nil=>intro al xs h1 h2;simp at h1;subst h1;simp at h2;subst h2;exact⟨[],by simp,VRs.nil g⟩
  |cons r l ih =>
   intro al xs h1 h2;simp only[List.mapM_cons,Option.bind_eq_bind,Option.bind_eq_some_iff,Option.pure_def,oI]at h1;obtain⟨ar,har,al',hal,rfl⟩:=h1;simp only[List.mapM_cons,Option.bind_eq_bind,Option.bind_eq_some_iff,Option.pure_def,oI]at h2;obtain⟨x,hx,xs',hxs,rfl⟩:=h2;obtain⟨u,hu,hvu⟩:=one r ar x har hx;obtain⟨us,hus,hvus⟩:=ih al' xs' hal hxs;refine⟨u::us,?_,.cons hvu hvus⟩;simp only[List.mapM_cons,Sem.run_bind,hu,Result.andThen,hus,Sem.run_pure]
 have hres:(results mf vs).run P w=((List.toArray <$> mf.results.toList.mapM fun r=>(match r with|.tmp t=>pure (vs.getD t undef)|.cell a t=>do loadVar t (←asAddr (vs.getD a undef)):Sem Value)) >>= fun us=>pure (if h:us.size=1 then us[0] else .tuple us)).run P w:=by
  unfold results;rw[Array.mapM_eq_mapM_toList];rfl
 unfold QaA at hv;split at hv
 ·rename_i x hx;cases hv;obtain⟨us,hus,hvus⟩:=all _ _ _ hr hx
  match us,hvus with
  | [u],hvus =>
   refine⟨u,?_,hvus.head⟩;rw[hres,Sem.run_bind,Sem.run_map,hus];rfl
  | [],hvus=>have:=hvus.len;simp at this
  |_::_::_,hvus=>have:=hvus.len;simp at this
 ·rename_i l hne hx;cases hv;obtain⟨us,hus,hvus⟩:=all _ _ _ hr hx;refine⟨.tuple us.toArray,?_,hvus.tuple⟩;have hlen:us.toArray.size≠1:=by
   intro e;have h1:=hvus.len;simp at e;rw[e]at h1
   match l,h1 with
   | [y],_=>exact hne y rfl
  rw[hres,Sem.run_bind,Sem.run_map,hus];show Result.ok (if h:us.toArray.size=1 then us.toArray[0] else .tuple us.toArray) w=_;rw[dif_neg hlen]
 ·cases hv
theorem HR.alloc'{B:Nat}{w0:Anchor}{g:Gam}{h:AH}{w:World}(H:HR (CodeR P G) B w0 g h w)(O:Obj)(o:AO)(ho:∀g',g.le g'→ObjR (CodeR P G) g' (w.alloc O) h.next w.heap.size 0 o) :
  ∃g',HR (CodeR P G) B w0 g' (h.alloc o) (w.alloc O)∧g.le g'∧g'.rho h.next=some (w.heap.size,0):=by
 obtain⟨H',hle⟩:=H.alloc O 0 0 o (ho _ (Gam.le_bind (H.rhoNext _ (Nat.le_refl _))));exact⟨_,H',hle,Gam.bind_rho_same⟩
theorem go_enterLoop_value{fr:Frame}{cs:List Frame}{k:List Item}{x:Operand}{params:Array Tmp}{a b:Code}{l β:Nat}{v:Value}{w w₁ w':World}
  (hm:fr.mode=.run)(ht:fr.todo=.code (.rangeFunc x params a b)::k)(hl:fr.roundOf=none)
  (hr:(Instr.enterLoop fr.fn fr.tmps params a b none).run P w=.ok (l,[{target:=.collected β,args:=#[]}]) w₁)
  (hi:(do let d ←resolve ({fr with todo:=.inRangeFunc l::k,defers:={target:=.collected β,args:=#[]}::fr.defers}:Frame).eval {callee:=.value x,args:=#[.const (.func (.yield l) #[] #[])],argTypes:=#[]} 0;invoke d.target d.args:Sem Next).run P w₁=.ok (.value v) w') :
  step P (lone fr cs w)=.next (lone (({fr with todo:=.inRangeFunc l::k,defers:={target:=.collected β,args:=#[]}::fr.defers}:Frame).finish v) cs w'):=
 step_lone_go (by
  have hi':=hi;simp[hm,hl]at hi';simp[stepG,stepG.exec,hm,ht,hl,hr,stepG.apply,hi'])
theorem Qgh{B:Nat}{w0:World}{F:FuncId→Option AFun}{M:Memo}(hF:FunOk P G F)(hM:Qao K P G M)(hK:∀w',RowKit.Below B w0 w'→K w'){g:Gam}{q:Nat→Prop}{s s':AS}{fr:Frame}{cs:List Frame}{w:World}{f:AOpd}{ps:List Nat}{x y:AC}{ak:List AItem}
  (hd:HeadR P g s.fr fr)(hm:s.fr.mode=.run)(ht:VRs g s.fr.tmps fr.tmps.toList)(hk:ItemsR P G g s.fr.todo fr.todo)(htd:s.fr.todo=.code (.rangeFunc f ps x y)::ak)(T:StackR P G C g q s.cs cs)
  (H:HR (CodeR P G) B ⟨w0,fun x=>False∨q x⟩ g s.h w)(hG:GlobR G g)(hs:arun F M s=some s'):∃m',Steps P (lone fr cs w) m'∧StR P G C B w0 s' m':=by
 rw[htd]at hk;obtain⟨it,k,htodo,hi,hk1⟩:=hk.cons_inv;clear hk;cases hi with
 |code _ c hcode =>
  obtain⟨f',ps',u,v,rfl,hf',rfl,hx,hy⟩:=hcode.inv;simp only[arun,htd]at hs;split at hs
  ·cases hs
  ·rename_i hround;have hfr:=hd.roundNone hround;split at hs
   ·rename_i fn as htg;obtain⟨g1,H1,hle1,hr1⟩:=H.alloc' (.deferred (some [])) (.deferred (some [])) (fun g' _=>.deferred (some []) (some []) (by show (w.heap.push _)[w.heap.size]? = _;simp) rfl (show DefsR g' [] [] from .nil));obtain⟨g2,H2,hle2,hr2⟩:=H1.alloc' (.loop {state:=.ready,pending:=none,fn:=fr.fn,tmps:=fr.tmps,params:=ps',assign:=u,body:=v,defers:=w.heap.size})
     (.loop .ready none s.fr.fn s.fr.tmps ps'.toList x y s.h.next) (fun g' hg'=>by
      have:=ObjR.loop (CR:=CodeR P G) (g:=g') (w:=(w.alloc (.deferred (some []))).alloc (.loop {state:=.ready,pending:=none,fn:=fr.fn,tmps:=fr.tmps,params:=ps',assign:=u,body:=v,defers:=w.heap.size}))
       (b:=(s.h.alloc (.deferred (some []))).next) (β:=(w.alloc (.deferred (some []))).heap.size) (base:=0) .ready none none s.fr.fn s.fr.tmps fr.tmps ps'.toList x y u v s.h.next w.heap.size
       (by show ((w.alloc _).heap.push _)[(w.alloc _).heap.size]? = _;rw[Array.getElem?_push_size,hd.fn]) rfl trivial (ht.mono (Gam.le_trans hle1 hg')) hx hy (hg'.rho _ _ hr1)
      exact this)
    have hle:=Gam.le_trans hle1 hle2;have hsz:(w.alloc (.deferred (some []))).heap.size=w.heap.size+1:=by simp
    have hrl:g2.rho (s.h.next+1)=some (w.heap.size+1,0):=by rw[←hsz];exact hr2
    have hmode:=hd.run hm;have henter:(Instr.enterLoop fr.fn fr.tmps ps' u v none).run P w=.ok (w.heap.size+1,[{target:=.collected w.heap.size,args:=#[]}])
      ((w.alloc (.deferred (some []))).alloc (.loop {state:=.ready,pending:=none,fn:=fr.fn,tmps:=fr.tmps,params:=ps',assign:=u,body:=v,defers:=w.heap.size})):=by
     simp[Instr.enterLoop,newObj,Sem.run]
    have hvf:VR g (aev s.fr.tmps f) (fr.eval f'):=Qhj hG ht.getD rfl f' f hf';unfold QaR at htg;split at htg
    ·rename_i fn' first captured hfe
     simp only[oI,ATarget.enter.injEq]at htg;obtain⟨rfl,rfl⟩:=htg;rw[hfe]at hvf;obtain⟨fs,cs',hev,h1,h2⟩:=QdZ hvf;have S:SuspR P G g2 (fun _=>False) {s.fr with todo:=.inRangeFunc (s.h.next+1)::ak,defers:=.collected s.h.next::s.fr.defers}
       {fr with todo:=.inRangeFunc (w.heap.size+1)::k,defers:={target:=.collected w.heap.size,args:=#[]}::fr.defers} :=
      .rangeFunc _ _ (s.h.next+1) (w.heap.size+1) ak k ⟨hd.fn,hd.func,.cons (.collected _ _ (hle2.rho _ _ hr1)) (hd.defers.mono hle),hd.mode.mono hle,hd.kind,(hd.mono hle).round⟩ hm (ht.mono hle) rfl rfl hrl (hk1.mono hle)
     refine Qic (s:={fr:={s.fr with todo:=.inRangeFunc (s.h.next+1)::ak,defers:=.collected s.h.next::s.fr.defers},cs:=s.cs,h:=(s.h.alloc (.deferred (some []))).alloc (.loop .ready none s.fr.fn s.fr.tmps ps'.toList x y s.h.next)})
      hF hM hK S (T.mono hle) (fun x hx=>hx.elim) H2 (hG.mono hle) hs (fun f2 as2 e=>?_) (fun l2 as2 e=>by cases e)
     cases e;have hexec:(do let d ←resolve ({fr with todo:=.inRangeFunc (w.heap.size+1)::k,defers:={target:=.collected w.heap.size,args:=#[]}::fr.defers}:Frame).eval {callee:=.value f',args:=#[.const (.func (.yield (w.heap.size+1)) #[] #[])],argTypes:=#[]} 0;invoke d.target d.args:Sem Next).run P
       ((w.alloc (.deferred (some []))).alloc (.loop {state:=.ready,pending:=none,fn:=fr.fn,tmps:=fr.tmps,params:=ps',assign:=u,body:=v,defers:=w.heap.size})) =
       (callFunc fn' (fs ++ #[.func (.yield (w.heap.size+1)) #[] #[]]++cs')).run P ((w.alloc (.deferred (some []))).alloc (.loop {state:=.ready,pending:=none,fn:=fr.fn,tmps:=fr.tmps,params:=ps',assign:=u,body:=v,defers:=w.heap.size})):=by
      have hev':({fr with todo:=.inRangeFunc (w.heap.size+1)::k,defers:={target:=.collected w.heap.size,args:=#[]}::fr.defers}:Frame).eval f'=.func (.func fn') fs cs':=by rw[←hev];cases f'<;>rfl
      simp only[Sem.run_bind,Qdd hev',Result.andThen];simp[invoke,Frame.eval]
     refine⟨fs ++ #[.func (.yield (w.heap.size+1)) #[] #[]]++cs',?_,fun mf q1 q2 q3=>?_,fun v w' hr=>?_⟩
     ·simp only[Array.toList_append];exact((h1.mono hle).append (.cons (.yield _ _ hrl) (VRs.nil g2))).append (h2.mono hle)
     ·exact go_enterLoop hmode htodo hfr henter (by rw[hexec];exact Qcx q1 q2 q3 _ _)
     ·exact go_enterLoop_value hmode htodo hfr henter (by rw[hexec];exact hr)
    ·cases htg
    ·cases htg
   ·cases hs
theorem QdQ{B:Nat}{w0:World}{g:Gam}{q:Nat→Prop}{s s':AS}{fr:Frame}{cs:List Frame}{w:World}{jump:Option AC}{jump':Option Code}{pl:Bool}
  (hd:HeadR P g s.fr fr)(hm:s.fr.mode=.run)(ht:VRs g s.fr.tmps fr.tmps.toList)(T:StackR P G C g q s.cs cs)
  (H:HR (CodeR P G) B ⟨w0,fun x=>False∨q x⟩ g s.h w)(hG:GlobR G g)(hj:OptR (CodeR P G) jump jump')(hs:aend s jump pl=some s')
  (h1:pl=true→fr.roundOf=none→step P (lone fr cs w)=.next (lone {fr with mode:=.returning} cs w))
  (h2:∀β v w' c rest,fr.roundOf=some β→fr.kind=.normal→cs=c::rest→(Instr.endRound β jump').run P w=.ok v w'→step P (lone fr cs w)=.next (lone (c.finish v) rest w')) :
  ∃m',Steps P (lone fr cs w) m'∧StR P G C B w0 s' m':=by
 unfold aend at hs;split at hs
 ·rename_i hround;split at hs
  ·rename_i hpl;cases hs;refine⟨_,Steps.one (h1 hpl (hd.roundNone hround)),g,fun _=>False,q,_,_,w,rfl,.left _ _ ⟨hd.fn,hd.func,hd.defers,.returning,hd.kind,hd.round⟩ (by simp) ht,T,fun x hx=>hx.elim,H,hG⟩
  ·cases hs
 ·rename_i l hround;obtain⟨β,hfr,hrho⟩:=hd.roundSome hround;split at hs
  ·rename_i st pend fn tmps params assign body d hk hget;have hobj:=H.obj l β 0 _ hrho hget;have hlt:=H.lt l _ hrho;cases hobj with
   |loop _ _ pend' _ _ tmps' _ _ _ assign' body' _ δ hw hb hp htt ha hcb hdd =>
    have hji:jump.isNone=jump'.isNone:=by cases jump<;>cases jump'<;>first|rfl|exact hj.elim
    have H':=H.setObj hrho hget (by simp) (by simp) (.loop {state:=if jump'.isNone then .ready else .done,pending:=jump',fn:=fn,tmps:=tmps',params:=params.toArray,assign:=assign',body:=body',defers:=δ})
     (.loop (if jump.isNone then .ready else .done) jump fn tmps params assign body d)
     (.loop _ _ jump' _ _ tmps' _ _ _ assign' body' _ δ (by simp at hlt;simp[hlt,hji]) rfl hj htt ha hcb hdd)
    have hrun:(Instr.endRound β jump').run P w=.ok (.bool jump'.isNone) {w with heap:=w.heap.setIfInBounds β (.loop {state:=if jump'.isNone then .ready else .done,pending:=jump',fn:=fn,tmps:=tmps',params:=params.toArray,assign:=assign',body:=body',defers:=δ})}:=by
     simp[Instr.endRound,Instr.getLoop,getObj,setObj,Sem.run,hw]
    refine QgE (s:={s with h:=s.h.put l (.loop (if jump.isNone then .ready else .done) jump fn tmps params assign body d)}) hd T H' hG (v:=.bool jump.isNone) (u:=.bool jump'.isNone) (by rw[hji];exact .bool _) hs (fun hk' c rest hcs=>h2 β _ _ c rest hfr hk' hcs hrun)
     (fun hk'=>?_) (fun hk'=>?_)
    ·rw[hd.kind,hk]at hk';cases hk'
    ·rw[hd.kind,hk]at hk';cases hk'
  ·cases hs
theorem QmY{g:Gam}{h:AH}{af:AF}{fr:Frame}{id:Nat}{ops:Array Oper}{l:List AOper}{plan:List Stage}{tl:List AOper}{ak:List AItem}{k:List Item}{t:Nat}(hd:HeadR P g af fr)(hm:af.mode=.run)(ht:VRs g af.tmps fr.tmps.toList)(hk:ItemsR P G g ak k)
  (ho:OpsR P G l ops)(hp:Qfp l (bsOps ops)=some (.draw plan tl)) :
  ∃p,CurR P G g h p {af with todo:=.drawRest plan::.ends tl::ak} {fr with todo:=.inRegion ops (Region.linearise .any ops t)::k}∧∀x,¬p x:=by
 unfold Qfp at hp;simp only at hp;split at hp
 ·rename_i hok;cases hp;simp only[QlO,Bool.and_eq_true]at hok;obtain⟨⟨⟨⟨⟨q1,q2⟩,q3⟩,q4⟩,q5⟩,q6⟩:=hok;have hord:=OrdR.of_check q1;have hlen:=ho.len;refine⟨_,.rest _ _ l ops (Region.linearise .any ops t) [] [] (QfW l (bsOps ops)) none (QhP l (bsOps ops)) ak k (hd.of_same rfl rfl rfl rfl rfl rfl rfl rfl rfl rfl) hm ?_ (fun j hj=>by cases hj) ⟨by simpa using hord,q2,q4,fun j hj=>(by cases hj),fun i _ x hx=>(by cases hx),fun i hi st hst x hx=>(by have h1:=List.all_eq_true.1 (List.all_eq_true.1 q6 i hi) st hst;rw[hx]at h1;exact h1),q5⟩ rfl rfl hk,fun x ⟨j,hj,_⟩=>by cases hj⟩;refine⟨ho,by rw[hlen];exact Qf9 ops t,q3,fun j hj=>(by cases hj),fun i hi hr=>?_,fun j hj=>(by cases hj),fun j hj=>(by cases hj),(by simpa using ht.len),fun t _=>ht.getD t,fun j hj=>(by cases hj),fun j hj=>(by cases hj)⟩;refine absurd (QiA ops t (L:=(QhP l (bsOps ops)).flatMap IStage.all++QfW l (bsOps ops)) ?_ ?_ ?_ i (by rw[←hlen];exact hi)) hr
  ·intro i hi;exact hord.all i (by rw[hlen];exact hi)
  ·intro pre i post he e hb;exact hord.ord pre i post he e hb
  ·intro i hi;rw[←hlen];exact hord.lt i hi
 ·cases hp
end
end Go.Ab
namespace Go.Ab
open Go
section
variable{P:Program}{G:Nat→Option (List AV)}{C:List Frame}
variable{K:World→Prop}
theorem QkL{B:Nat}{w0:World}{F:FuncId→Option AFun}{M:Memo}(hF:FunOk P G F)(hM:Qao K P G M)(hK:∀w',RowKit.Below B w0 w'→K w'){g:Gam}{q:Nat→Prop}{s s':AS}{fr:Frame}{cs:List Frame}{w:World}
  (hd:HeadR P g s.fr fr)(hm:s.fr.mode=.run)(ht:VRs g s.fr.tmps fr.tmps.toList)(hk:ItemsR P G g s.fr.todo fr.todo)(T:StackR P G C g q s.cs cs)
  (H:HR (CodeR P G) B ⟨w0,fun x=>False∨q x⟩ g s.h w)(hG:GlobR G g)(hs:arun F M s=some s'):∃m',Steps P (lone fr cs w) m'∧StR P G C B w0 s' m':=by
 have hmode:=hd.run hm;have hk0:=hk;cases htd:s.fr.todo with
 |nil =>
  rw[htd]at hk;have hft:=hk.nil_inv;simp only[arun,htd]at hs;exact QdQ hd hm ht T H hG (jump:=none) (jump':=none) trivial hs (fun _ hr=>go_end hmode hft hr) (fun β v w' c rest hl hkd hcs hr=>by rw[hcs];exact go_endRound hmode hft hl hkd hr)
 |cons it ak =>
  rw[htd]at hk;obtain⟨i,k,hft,hi,hk1⟩:=hk.cons_inv;clear hk;have hk:=hk1;clear hk1;have to:∀{ak':List AItem} {k':List Item},ItemsR P G g ak' k'→step P (lone fr cs w)=.next (lone {fr with todo:=k'} cs w)→some {s with fr:={s.fr with todo:=ak'}}=some s'→∃m',Steps P (lone fr cs w) m'∧StR P G C B w0 s' m':=by
   intro ak' k' hk' hstep he;cases he;exact⟨_,Steps.one hstep,plain_to hd hm ht T H hG hk'⟩
  cases hi with
  |inBlock id=>simp only[arun,htd]at hs;exact to hk (go_inBlock hmode hft) hs
  |inLoop a c hc=>simp only[arun,htd]at hs;exact to (.cons (.code _ _ hc) (.cons (.inLoop _ _ hc) hk)) (go_inLoop hmode hft) hs
  |inScope a c hc=>simp only[arun,htd]at hs;exact to hk (go_inScope hmode hft) hs
  |inRangeFunc l β h=>simp[arun,htd]at hs
  |endRangeFunc l β hrho =>
   simp only[arun,htd]at hs;split at hs
   ·rename_i st pend fn tmps params assign body d hget;split at hs
    ·cases hs
    ·rename_i hst;cases hs;have hobj:=H.obj l β 0 _ hrho hget;have hlt:=H.lt l _ hrho;cases hobj with
     |loop _ _ pend' _ _ tmps' _ _ _ assign' body' _ δ hw hb hp htt ha hcb hdd =>
      have H':=H.setObj hrho hget (by simp) (by simp) (.loop {state:=.exhausted,pending:=pend',fn:=fn,tmps:=tmps',params:=params.toArray,assign:=assign',body:=body',defers:=δ})
       (.loop .exhausted pend fn tmps params assign body d) (.loop _ _ pend' _ _ tmps' _ _ _ assign' body' _ δ (by simp at hlt;simp[hlt]) rfl hp htt ha hcb hdd)
      have hrun:(Instr.endLoop β).run P w=.ok pend' {w with heap:=w.heap.setIfInBounds β (.loop {state:=.exhausted,pending:=pend',fn:=fn,tmps:=tmps',params:=params.toArray,assign:=assign',body:=body',defers:=δ})}:=by
       cases st<;>first|exact absurd rfl hst|simp[Instr.endLoop,Instr.getLoop,getObj,setObj,Sem.run,hw]
      refine⟨_,Steps.one (go_endRangeFunc hmode hft hrun),g,fun _=>False,q,_,_,_,rfl,.plain _ _ (hd.of_same rfl rfl rfl rfl rfl rfl rfl rfl rfl rfl) hm ht ?_,T,fun x hx=>hx.elim,H',hG⟩;cases pend with
      |none=>cases pend' with
       |none=>exact hk
       |some c=>exact hp.elim
      |some a=>cases pend' with
       |none=>exact hp.elim
       |some c=>exact .cons (.code _ _ hp) hk
   ·cases hs
  |beginRound =>
   simp only[arun,htd]at hs;split at hs
   ·rename_i l hround;obtain⟨β,hfr,hrho⟩:=hd.roundSome hround;split at hs
    ·rename_i pend fn tmps params assign body d hget;cases hs;have hobj:=H.obj l β 0 _ hrho hget;have hlt:=H.lt l _ hrho;cases hobj with
     |loop _ _ pend' _ _ tmps' _ _ _ assign' body' _ δ hw hb hp htt ha hcb hdd =>
      have H':=H.setObj hrho hget (by simp) (by simp) (.loop {state:=.busy,pending:=pend',fn:=fn,tmps:=tmps',params:=params.toArray,assign:=assign',body:=body',defers:=δ})
       (.loop .busy pend fn tmps params assign body d) (.loop _ _ pend' _ _ tmps' _ _ _ assign' body' _ δ (by simp at hlt;simp[hlt]) rfl hp htt ha hcb hdd)
      have hrun:(Instr.beginRound β).run P w=.ok () {w with heap:=w.heap.setIfInBounds β (.loop {state:=.busy,pending:=pend',fn:=fn,tmps:=tmps',params:=params.toArray,assign:=assign',body:=body',defers:=δ})}:=by
       simp[Instr.beginRound,Instr.getLoop,getObj,setObj,Sem.run,hw]
      exact⟨_,Steps.one (go_beginRound hmode hft hfr hrun),g,fun _=>False,q,_,_,_,rfl,.plain _ _ (hd.of_same rfl rfl rfl rfl rfl rfl rfl rfl rfl rfl) hm ht hk,T,fun x hx=>hx.elim,H',hG⟩
    ·cases hs
   ·cases hs
  |inRegion l ops idx ho hlt =>
   cases idx with
   |nil =>
    simp only[List.map_nil]at htd;simp only[arun,htd]at hs;exact to hk (go_region_end hmode hft) hs
   |cons j idx =>
    simp only[List.map_cons]at htd;simp only[arun,htd]at hs;have S:SuspR P G g (fun _=>False) s.fr fr:=.region _ _ l ops j idx ak k hd hm ht htd hft ho hlt hk;exact Qig hF hM hK S T (fun x hx=>hx.elim) H hG hm (by simp[AF.headOp,htd]) hs
  |code a c hc =>
   cases a with
   |skip=>have:=hc.inv;simp only at this;subst this;simp only[arun,htd]at hs;exact to hk (go_skip hmode hft) hs
   |label l=>have:=hc.inv;simp only at this;subst this;simp only[arun,htd]at hs;exact to hk (go_label hmode hft) hs
   |seq x y=>obtain⟨u,v,rfl,h1,h2⟩:=hc.inv;simp only[arun,htd]at hs;exact to (.cons (.code _ _ h1) (.cons (.code _ _ h2) hk)) (go_seq hmode hft) hs
   |cond x t e =>
    obtain⟨x',u,v,rfl,hx,h1,h2⟩:=hc.inv;simp only[arun,htd]at hs;have hv:VR g (aev s.fr.tmps x) (fr.eval x'):=Qhj hG ht.getD rfl x' x hx;split at hs
    ·rename_i b hb;rw[hb]at hv;refine to (k':=.code (if b then u else v)::k) (.cons ?_ hk) (go_cond hmode hft hv.bool_eq) hs;cases b
     ·exact .code _ _ h2
     ·exact .code _ _ h1
    ·cases hs
   |block id b=>obtain⟨u,rfl,h1⟩:=hc.inv;simp only[arun,htd]at hs;exact to (.cons (.code _ _ h1) (.cons (.inBlock id) hk)) (go_block hmode hft) hs
   |loop b=>obtain⟨u,rfl,h1⟩:=hc.inv;simp only[arun,htd]at hs;exact to (.cons (.code _ _ h1) (.cons (.inLoop _ _ h1) hk)) (go_loop hmode hft) hs
   |scope b=>obtain⟨u,rfl,h1⟩:=hc.inv;simp only[arun,htd]at hs;exact to (.cons (.code _ _ h1) (.cons (.inScope _ _ h1) hk)) (go_scope hmode hft) hs
   |ret =>
    have:=hc.inv;simp only at this;subst this;simp only[arun,htd]at hs;exact QdQ hd hm ht T H hG (jump:=some .ret) (jump':=some .ret) rfl hs (fun _ hr=>go_ret hmode hft hr) (fun β v w' c rest hl hkd hcs hr=>by rw[hcs];exact go_endRound_ret hmode hft hl hkd hr)
   |exit id =>
    have:=hc.inv;simp only at this;subst this;simp only[arun,htd]at hs;have he:=Qj7 (id:=id) hk;split at hs
    ·rename_i k1 hk1;rw[hk1]at he;cases hk2:exitTo id k with
     |none=>rw[hk2]at he;exact he.elim
     |some k2=>rw[hk2]at he;exact to he (go_exit hmode hft hk2) hs
    ·rename_i hk1;rw[hk1]at he;cases hk2:exitTo id k with
     |some k2=>rw[hk2]at he;exact he.elim
     |none =>
      exact QdQ hd hm ht T H hG (jump:=some (.exit id)) (jump':=some (.exit id)) rfl hs (fun h=>by cases h) (fun β v w' c rest hl hkd hcs hr=>by rw[hcs];exact go_endRound_exit hmode hft hk2 hl hkd hr)
   |stuck=>simp only[arun,htd]at hs;cases hs
   |goto id =>
    have:=hc.inv;simp only at this;subst this;simp only[arun,htd]at hs;have he:=Qj1 (id:=id) hk;split at hs
    ·rename_i k1 hk1;rw[hk1]at he;cases hk2:gotoIn id k with
     |none=>rw[hk2]at he;exact he.elim
     |some k2=>rw[hk2]at he;exact to he (go_goto hmode hft hk2) hs
    ·rename_i hk1;rw[hk1]at he;cases hk2:gotoIn id k with
     |some k2=>rw[hk2]at he;exact he.elim
     |none =>
      exact QdQ hd hm ht T H hG (jump:=some (.goto id)) (jump':=some (.goto id)) rfl hs (fun h=>by cases h) (fun β v w' c rest hl hkd hcs hr=>by rw[hcs];exact go_endRound_goto hmode hft hk2 hl hkd hr)
   |region l =>
    obtain⟨id,ops,rfl,ho⟩:=hc.inv;simp only[arun,htd]at hs;refine to (k':=.inRegion ops (List.range ops.size)::k) ?_ (go_region hmode hft) hs;have:=ItemsR.cons (.inRegion (g:=g) l ops (List.range l.length) ho (fun i hi=>by simpa using hi)) hk;rw[Qhr,ho.len]at this;exact this
   |draw plan tl =>
    obtain⟨id,ops,l,rfl,ho,hdep,hp⟩:=hc.inv;simp only[arun,htd,oI]at hs;subst hs;obtain⟨p,hcur,hno⟩:=QmY (h:=s.h) (t:=w.tape w.drawn (.order fr.fn id)) (id:=id) hd hm ht hk ho hp;have hsch:Region.schedule (P.follows .mixedOrders) ops (w.tape w.drawn (.order fr.fn id))=Region.linearise .any ops (w.tape w.drawn (.order fr.fn id)):=by
     unfold Region.schedule;rw[if_pos];revert hdep;cases Region.departs ops<;>cases P.follows .mixedOrders<;>simp
    have hstep:=go_draw (P:=P) (cs:=cs) (w:=w) hmode hft;rw[hsch]at hstep;exact⟨_,Steps.one hstep,g,p,q,_,_,_,rfl,hcur,T,fun x hx=>absurd hx (hno x),(H.drew).weaken fun x hx=>hx.elim (fun h=>absurd h (hno x)) .inr,hG⟩
   |rangeFunc f ps x y=>exact Qgh hF hM hK hd hm ht hk0 htd T H hG hs
theorem Qnl{g:Gam}{q:Nat→Prop}{af:AF}{acs:List AF}{cs:List Frame}(T:StackR P G C g q (af::acs) cs) :
  ∃p1 q1 c rest,cs=c::rest∧SuspR P G g p1 af c∧StackR P G C g q1 acs rest∧(∀x,p1 x→¬q1 x)∧∀x,p1 x∨q1 x→q x:=by
 generalize he:af::acs=l at T;cases T with
 |nil=>cases he
 |cons h t hpq =>
  cases he;exact⟨_,_,_,_,rfl,h,t,hpq,fun x hx=>hx⟩
theorem QmJ{B:Nat}{w0:World}{F:FuncId→Option AFun}(hF:FunOk P G F){g:Gam}{q:Nat→Prop}{s s':AS}{fr:Frame}{cs:List Frame}{w:World}
  (hd:HeadR P g s.fr fr)(hm:s.fr.mode≠.run)(ht:VRs g s.fr.tmps fr.tmps.toList)(T:StackR P G C g q s.cs cs)
  (H:HR (CodeR P G) B ⟨w0,fun x=>False∨q x⟩ g s.h w)(hG:GlobR G g)(hs:Qc7 F s=some s'):∃m',Steps P (lone fr cs w) m'∧StR P G C B w0 s' m':=by
 have hmode:=hd.notRun hm;have hdef:=hd.defers;unfold Qc7 at hs;split at hs
 ·rename_i b ds had;rw[had]at hdef;generalize hfd:fr.defers=fds at hdef;cases hdef with
  |cons hx ht2 =>
   rename_i d m;cases hx with
   |collected _ β hrho =>
    split at hs
    ·rename_i calls hget;cases hs;have hobj:=H.obj b β 0 _ hrho hget;have hlt:=H.lt b _ hrho;cases hobj with
     |deferred _ ds' hw hb hds =>
      cases ds' with
      |none=>exact hds.elim
      |some ds' =>
       have H':=H.setObj hrho hget (by simp) (by simp) (.deferred none) (.deferred none) (.deferred none none (by simp at hlt;simp[hlt]) rfl trivial);have hrun:(Instr.takeDeferred β).run P w=.ok ds' {w with heap:=w.heap.setIfInBounds β (.deferred none)}:=by
        simp[Instr.takeDeferred,getObj,setObj,Sem.run,hw]
       exact⟨_,Steps.one (go_collected hmode hfd hrun),g,fun _=>False,q,_,_,_,rfl,.left _ _ ⟨hd.fn,hd.func,DefsR.append hds ht2,hd.mode,hd.kind,hd.round⟩ hm ht,T,fun x hx=>hx.elim,H',hG⟩
    ·cases hs
 ·rename_i f args ds had;rw[had]at hdef;generalize hfd:fr.defers=fds at hdef;cases hdef with
  |cons hx ht2 =>
   rename_i d m;cases hx with
   |call _ _ cap as hv =>
    obtain⟨af',haf',rfl⟩:=oM hs;have hv':VRs g args (as++cap).toList:=by simpa using hv
    obtain⟨hcur,mf,h1,h2,h3⟩:=Qei (h:=s.h) hF hv' haf';have hstep:=step_defer (P:=P) (cs:=cs) (w:=w) hmode hfd (fv:=.func f) (cap:=cap) (f:=f) (args:=as++cap) rfl (by
     have:=Qcx h1 h2 h3 (as++cap) w;simpa[invoke] using this)
    refine⟨_,Steps.one hstep,g,_,_,_,_,w,rfl,hcur,.cons (.left {s.fr with defers:=ds} {fr with defers:=m} ⟨hd.fn,hd.func,ht2,hd.mode,hd.kind,hd.round⟩ hm ht) T (fun x hx=>hx.elim),fun x hx=>hx.elim,H.weaken fun x hx=>hx.elim False.elim id,hG⟩
 ·rename_i had;rw[had]at hdef;generalize hfd:fr.defers=fds at hdef;cases hdef;have hmd:=hd.mode;split at hs
  ·cases hs
  ·rename_i chain hch;rw[hch]at hmd;generalize hfm:fr.mode=fm at hmd;cases hmd with
   |panicking _ k hck =>
    split at hs
    ·rename_i caller rest hcs;cases hs;rw[hcs]at T;obtain⟨p1,q1,c,rest',rfl,hS,hT,hpq,hqq⟩:=Qnl T;obtain⟨mf,hmf⟩:=hd.func;exact⟨_,Steps.one (go_raise hfm hfd hmf),g,fun _=>False,q1,_,_,w,rfl,Qgi hS hck,hT,fun x hx=>hx.elim,H.weaken fun x hx=>hx.elim False.elim fun h=>.inr (hqq x (.inr h)),hG⟩
    ·cases hs
  ·rename_i hret;rw[hret]at hmd;generalize hfm:fr.mode=fm at hmd;cases hmd;split at hs
   ·rename_i fn hfn;obtain⟨mf,c,h1,h2,h3,h4,h5,h6⟩:=Qcd (hF _ _ hfn);rw[←hd.fn]at h1;split at hs
    ·rename_i v hv;obtain⟨u,hu,hvu⟩:=Qeu H h6 ht hv;refine QgE hd T H hG hvu hs (fun hk c rest hcs=>by rw[hcs];exact go_return hfm hfd hk h1 hu) (fun hk c rest hcs q1 q2=>by rw[hcs];exact go_return_deferred hfm hfd hk h1 hu q1 q2) (fun hk c rest v older hcs hcm hold=>?_);rw[hcs];refine step_lone_go ?_;have hdrop:older.dropWhile (fun e=>!e.goexit)=[]:=by
      clear hcm
      induction older with
      |nil=>rfl
      |cons e older ih=>rw[List.dropWhile_cons_of_pos (by simp[hold e (by simp)])];exact ih fun e' he=>hold e' (List.mem_cons_of_mem _ he)
     simp[stepG,unwind,doReturn,hfm,hfd,hk,h1,hu,hcm,hdrop]
    ·cases hs
   ·cases hs
theorem Qlh{B:Nat}{w0:World}{g:Gam}{q:Nat→Prop}{s s':AS}{fr:Frame}{cs:List Frame}{w:World}{l:List AOper}{ops:Array Oper}{rest D fs tl:List Nat}{j:Nat}{js:List Nat}{m:Option Nat}{ist:List IStage}
  {ag:List AOper}{mask:List Nat}{ak:List AItem}{k:List Item}(hd:HeadR P g s.fr fr)(hm:s.fr.mode=.run)
  (hD:DrawR P G g s.fr.tmps fr.tmps ops l D rest)(dyn:∀j∈D,j∈rest→PendD s.fr.tmps s.h (opAt l j))(hp:PlanR l (bsOps ops) (D++(j::js++m.toList)) m fs ist tl)(hjs:∀i∈j::js,isF l i=true)(hmf:∀x,m=some x→isF l x=false)
  (hml:m=none→ist=[])(hf:fr.todo=.inRegion ops rest::k)
  (hag:∀x,m=some x→ag=((Qev (bsOps ops) fs x).map (opAt l)).filter (·.act.looked))(hmask:∀x,m=some x→mask=((Qev (bsOps ops) fs x).map (opAt l)).filterMap (·.dst))(hk:ItemsR P G g ak k)
  (T:StackR P G C g q s.cs cs)(hpq:∀x,Owed l s.fr.tmps D rest x→¬q x)(H:HR (CodeR P G) B ⟨w0,fun x=>Owed l s.fr.tmps D rest x∨q x⟩ g s.h w)(hG:GlobR G g)
  (hs:QeO s (opAt l j) (.inDraw (js.map (opAt l)) (m.map (opAt l)) ag mask (Qbo l (bsOps ops) ist fs)::.ends (tl.map (opAt l))::ak)=some s'):StR P G C B w0 s' (lone fr cs w):=by
 have hord:=hp.ord;have hL:D++(j::js++m.toList)++(ist.flatMap IStage.all++tl)=D++j::(js++m.toList++(ist.flatMap IStage.all++tl)):=by simp
 rw[hL]at hord;have hjD:j ∉ D:=fun h=>(List.nodup_append.1 hord.nodup).2.2 j h j (by simp) rfl
 have hjl:j<l.length:=hord.lt j (by simp);have hjr:j∈rest:=by
  by_cases h:j∈rest
  ·exact h
  ·exact absurd (hD.exe j hjl h) hjD
 have hbits:∀i,bit (bsOps ops) j i=true→i∈D:=fun i hb=>hord.ord D j _ rfl i hb
 have hjf:=hjs j (by simp);have hnames:∀v,∀i∈D,i∈rest→∀t∈(opAt l i).names,s.fr.tmps[t]? = (setDst s.fr.tmps (opAt l j).dst v)[t]?:=by
  intro v i hi hr t ht;refine(QcD fun e=>?_).symm;rcases QbO hD.names hjl (hD.lt i hi) e ht with⟨h1,_⟩|h1|⟨h1,_⟩
  ·exact hjD (h1 ▸ hi)
  ·exact hjD (hD.done i hi j h1)
  ·rw[hjf]at h1;cases h1
 have hself:∀v,∀t∈(opAt l j).reads,s.fr.tmps[t]? = (setDst s.fr.tmps (opAt l j).dst v)[t]?:=by
  intro v t ht;refine(QcD fun e=>?_).symm;rcases QbO hD.names hjl hjl e (List.mem_append_right _ ht) with⟨_,h1⟩|h1|⟨h1,_⟩
  ·exact h1 hjf ht
  ·exact hjD (hbits j h1)
  ·rw[hjf]at h1;cases h1
 have hnext:s.h.get s.h.next=none:=H.getNext _ (Nat.le_refl _)
 have hplan:PlanR l (bsOps ops) ((D++[j])++(js++m.toList)) m fs ist tl:=by
  have:(D++[j])++(js++m.toList)=D++(j::js++m.toList):=by simp
  rw[this];exact hp
 have fin:∀(v:AV) (h':AH) (p':Nat→Prop),s.h.sub h'→PendD (setDst s.fr.tmps (opAt l j).dst v) h' (opAt l j)→(∀b,Qb7 (setDst s.fr.tmps (opAt l j).dst v) (opAt l j)=some b→b=s.h.next∧p' b)→(∀x,Owed l s.fr.tmps D rest x→p' x) →
   (∀x,p' x→¬q x)→HR (CodeR P G) B ⟨w0,fun x=>p' x∨q x⟩ g h' w →
   StR P G C B w0 {s with fr:={s.fr with tmps:=setDst s.fr.tmps (opAt l j).dst v,todo:=.inDraw (js.map (opAt l)) (m.map (opAt l)) ag mask (Qbo l (bsOps ops) ist fs)::.ends (tl.map (opAt l))::ak},h:=h'} (lone fr cs w):=by
  intro v h' p' hsub hpj hblk hpp hpq' H';have hin:∀i∈D++[j],i∈D∨i=j:=fun i hi=>(List.mem_append.1 hi).imp id List.mem_singleton.1
  have hpend:∀i∈D++[j],i∈rest→PendD (setDst s.fr.tmps (opAt l j).dst v) h' (opAt l i):=by
   intro i hi hr;rcases hin i hi with hi|rfl
   ·exact(dyn i hi hr).congr (QcC _ _ _) (hnames v i hi hr) hsub
   ·exact hpj
  have hD':DrawR P G g (setDst s.fr.tmps (opAt l j).dst v) fr.tmps ops l (D++[j]) rest:=by
   refine⟨hD.isOps,hD.sched,hD.names,fun i hi=>?_,fun i hi hr=>List.mem_append_left _ (hD.exe i hi hr),fun i hi hr=>?_,fun i hi i' hb=>?_,?_,fun t ht=>?_,fun i hi hr=>(hpend i hi hr).toS,fun i hi hr i' hi' hr' b hb hb'=>?_⟩
   ·rcases hin i hi with hi|rfl
    ·exact hD.lt i hi
    ·exact hjl
   ·rcases hin i hi with hi|rfl
    ·exact hD.flt i hi hr
    ·exact hjf
   ·rcases hin i hi with hi|rfl
    ·exact List.mem_append_left _ (hD.done i hi i' hb)
    ·exact List.mem_append_left _ (hbits i' hb)
   ·have:=hD.len;cases (opAt l j).dst<;>simp[setDst,this]
   ·have hne:=ht j (by simp) hjr;rw[List.getD_eq_getElem?_getD,QcD hne,←List.getD_eq_getElem?_getD];exact hD.tm t fun i hi hr=>ht i (List.mem_append_left _ hi) hr
   ·have hold:∀i∈D,i∈rest→∀b,Qb7 (setDst s.fr.tmps (opAt l j).dst v) (opAt l i)=some b→b<s.h.next∧Qb7 s.fr.tmps (opAt l i)=some b:=by
     intro i hi hr b hb;rw[←Qdh (hnames v i hi hr)]at hb;exact⟨(H.held b (.inl ⟨i,hi,hr,hb⟩)).2,hb⟩
    rcases hin i hi with k1|k1<;>rcases hin i' hi' with k2|k2
    ·exact hD.inj i k1 hr i' k2 hr' b (hold i k1 hr b hb).2 (hold i' k2 hr' b hb').2
    ·have h1:=(hold i k1 hr b hb).1;rw[k2]at hb';have h2:=(hblk b hb').1;omega
    ·have h1:=(hold i' k2 hr' b hb').1;rw[k1]at hb;have h2:=(hblk b hb).1;omega
    ·rw[k1,k2]
  have howed:∀x,Owed l (setDst s.fr.tmps (opAt l j).dst v) (D++[j]) rest x→p' x:=by
   rintro x ⟨i,hi,hr,hb⟩;rcases hin i hi with hi|rfl
   ·rw[←Qdh (hnames v i hi hr)]at hb;exact hpp x ⟨i,hi,hr,hb⟩
   ·exact(hblk x hb).2
  exact⟨g,_,q,fr,cs,w,rfl,.draw _ _ l ops rest (D++[j]) fs tl js m ist ag mask ak k (hd.of_same rfl rfl rfl rfl rfl rfl rfl rfl rfl rfl) hm hD' hpend hplan (fun i hi=>hjs i (List.mem_cons_of_mem _ hi)) hmf hml rfl hf hag hmask hk,T,
   fun x hx=>hpq' x (howed x hx),H'.weaken fun x hx=>hx.imp (howed x) id,hG⟩
 unfold QeO at hs;split at hs
 ·cases hs
 ·rename_i hw;cases hs;have hw':Qai (setDst s.fr.tmps (opAt l j).dst (.tuple [])) (opAt l j)=some false:=by rw[←QcQ (hself _)];exact hw
  refine fin (.tuple []) s.h (Owed l s.fr.tmps D rest) (AH.sub_refl _) (.skip hw' fun d hdd hlt=>?_) (fun b hb=>?_) (fun x hx=>hx) hpq H
  ·rw[QcC]at hlt;rw[hdd];simp[setDst,List.getD_eq_getElem?_getD,List.getElem?_set,hlt]
  ·unfold Qb7 at hb;rw[hw']at hb;cases hb
 ·rename_i hw;split at hs
  ·rename_i a hact;split at hs
   ·rename_i v h' hex;split at hs
    ·cases hs
    rename_i hslot;cases hs;have hw':Qai (setDst s.fr.tmps (opAt l j).dst v) (opAt l j)=some true:=by rw[←QcQ (hself _)];exact hw
    have hev:∀x∈a.opds,aev s.fr.tmps x=aev (setDst s.fr.tmps (opAt l j).dst v) x:=fun x hx=>QoB (o:=opAt l j) (fun t ht=>getD_of_getElem? (hself v t ht)) x (by rw[hact];exact hx)
    have hdv:∀d,(opAt l j).dst=some d→d<(setDst s.fr.tmps (opAt l j).dst v).length→(setDst s.fr.tmps (opAt l j).dst v).getD d .undef=v:=by
     intro d hdd hlt;rw[QcC]at hlt;rw[hdd];simp[setDst,List.getD_eq_getElem?_getD,List.getElem?_set,hlt]
    by_cases hq:a.quiet=true
    ·obtain⟨rfl,he2⟩:=QdL hq hex (AH.sub_refl s.h);refine fin v s.h (Owed l s.fr.tmps D rest) (AH.sub_refl _) (.quiet a v hw' hact hq (by rw[←Qa6 a hev];exact he2) hdv) (fun b hb=>?_) (fun x hx=>hx) hpq H;unfold Qb7 at hb;have hnm:a.makes=false:=by
      cases hmk:a.makes with
      |false=>rfl
      |true=>exact(Qde hq hmk).elim
     simp[hw',hact,hnm]at hb
    ·have hmk:a.makes=true∧(opAt l j).dst.isSome=true:=by
      unfold isF at hjf;rw[Bool.and_eq_true]at hjf
      replace hjf:=hjf.1
      rw[hact]at hjf;simpa[hq] using hjf
     obtain⟨mk,ob,hmo,hpl,hall⟩:=Qh8 hmk.1 hex;have he2:=hall s.h;rw[hex]at he2;cases he2;obtain⟨d,hdd⟩:=Option.isSome_iff_exists.1 hmk.2;have hdlt:d<(setDst s.fr.tmps (opAt l j).dst (mk s.h.next)).length:=by
      rw[QcC];simp only[hmk.1,hdd,QdT,Bool.true_and,Bool.not_eq_true',Bool.not_eq_false,Option.isSome_iff_exists]at hslot;obtain⟨x,hx⟩:=hslot;rcases Nat.lt_or_ge d s.fr.tmps.length with h1|h1
      ·exact h1
      ·rw[List.getElem?_eq_none h1]at hx;cases hx
     have hbl:Qb7 (setDst s.fr.tmps (opAt l j).dst (mk s.h.next)) (opAt l j)=some s.h.next:=by
      unfold Qb7;rw[hw'];simp only[hact,hmk.1,if_true,hdd,Option.bind_some];have:=hdv d hdd hdlt;rw[hdd]at this;rw[this];exact hmo.1 _
     refine fin (mk s.h.next) (s.h.alloc ob) (fun x=>Owed l s.fr.tmps D rest x∨x=s.h.next) (AH.sub_alloc hnext) (.makes a mk ob d s.h.next hw' hact hmk.1 hmo hpl (fun h1=>by rw[←Qa6 a hev];exact hall h1) hdd (hdv d hdd hdlt) (by simp[AH.alloc]))
      (fun b hb=>?_) (fun x hx=>.inl hx) (fun x hx hqx=>?_) ?_
     ·rw[hbl]at hb;cases hb;exact⟨rfl,.inr rfl⟩
     ·rcases hx with hx|rfl
      ·exact hpq x hx hqx
      ·exact absurd (H.held _ (.inr hqx)).2 (Nat.lt_irrefl _)
     ·exact(H.reserve ob).weaken fun x hx=>by
       rcases hx with(hx|hx)|hx
       ·exact .inl (.inl hx)
       ·exact .inr hx
       ·exact .inl (.inr hx)
   ·cases hs
  ·cases hs
end
end Go.Ab
namespace Go.Ab
open Go
theorem AH.put_comm(h:AH){b c:Nat}(hne:b≠c)(o p:AO):(h.put b o).put c p=(h.put c p).put b o:=by
 unfold AH.put
 congr 1
 funext x
 simp only;by_cases h1:x=b
 ·have h2:¬x=c:=fun e=>hne (h1.symm.trans e)
  simp only[if_pos h1,if_neg h2]
 ·simp only[if_neg h1]
theorem AH.whole_store{h:AH}{b o:Nat}{xs:List AV}(hw:h.whole b o=true):∃l sp pre anc,h.get b=some (.cells l sp pre anc) ∧
  ∀h':AH,h'.get b=h.get b→h'.store b o xs=if o+xs.length≤l.length∧xs.all AV.one then some (h'.put b (.cells (splice l o xs) sp pre anc)) else none:=by
 unfold AH.whole at hw;split at hw
 ·rename_i l sp pre anc hg;refine⟨l,sp,pre,anc,hg,fun h' he=>?_⟩;unfold AH.store;rw[he,hg];have hle:¬o<pre:=Nat.not_lt.2 (Nat.le_of_ble_eq_true hw);simp only[if_neg hle]
 ·cases hw
theorem Qmq{h h1 h2:AH}{b c o p:Nat}{xs ys:List AV}(hne:b≠c)(hb:h.whole b o=true)(hc:h.whole c p=true)(h1e:h.store b o xs=some h1)(h2e:h1.store c p ys=some h2) :
  ∃h1',h.store c p ys=some h1'∧h1'.store b o xs=some h2:=by
 obtain⟨l,sp,pre,anc,hg,hs⟩:=AH.whole_store (xs:=xs) hb;obtain⟨l',sp',pre',anc',hg',hs'⟩:=AH.whole_store (xs:=ys) hc;rw[hs h rfl]at h1e;split at h1e
 ·rename_i hcond;cases h1e;have hgc:(h.put b (.cells (splice l o xs) sp pre anc)).get c=h.get c:=by
   unfold AH.put;simp only;rw[if_neg fun e=>hne e.symm]
  rw[hs' _ hgc]at h2e;split at h2e
  ·rename_i hcond';cases h2e;refine⟨h.put c (.cells (splice l' p ys) sp' pre' anc'),by rw[hs' h rfl,if_pos hcond'],?_⟩;have hgb:(h.put c (.cells (splice l' p ys) sp' pre' anc')).get b=h.get b:=by
    unfold AH.put;simp only;rw[if_neg hne]
   rw[hs _ hgb,if_pos hcond,AH.put_comm h hne]
  ·cases h2e
 ·cases h1e
theorem Qb3{h:AH}{ev:AOpd→AV}{n:Nat}{x y:AOpd}{b o:Nat}(hx:ev x=.ptr b o):exec h ev (.store n x y)=if (ev y).known∧(ev y).cells.length=n then (h.store b o (ev y).cells).map fun h'=>(.undef,h') else none:=by
 simp only[exec,hx,storeA]
theorem QmV{tmps:List AV}{h h':AH}{a b:AOper}(he:ends2 tmps h a b=some h'):∃A B ha hb,a.act=.op A∧b.act=.op B∧exec h (aev tmps) A=some (.undef,ha)∧exec ha (aev tmps) B=some (.undef,h')∧exec h (aev tmps) B=some (.undef,hb)∧exec hb (aev tmps) A=some (.undef,h'):=by
 unfold ends2 at he;split at he
 ·rename_i n x y n' x' y' hA hB;split at he
  ·rename_i c o c' o' hx hx';split at he
   ·rename_i hcond;simp only[Bool.and_eq_true,Bool.not_eq_true']at hcond;obtain⟨⟨hne,hw⟩,hw'⟩:=hcond;have hne':c≠c':=fun e=>by rw[e]at hne;simp at hne
    split at he
    ·rename_i v1 h1 e1;split at he
     ·rename_i v2 h2 e2;cases he;rw[Qb3 hx]at e1;split at e1
      ·rename_i hk;obtain⟨z,hz,hz2⟩:=oM e1;cases hz2;rw[Qb3 hx']at e2;split at e2
       ·rename_i hk';obtain⟨z',hz',hz2'⟩:=oM e2;cases hz2';obtain⟨hb,q1,q2⟩:=Qmq hne' hw hw' hz hz';exact⟨_,_,h1,hb,hA,hB,by rw[Qb3 hx,if_pos hk,hz];rfl,by rw[Qb3 hx',if_pos hk',hz'];rfl,by rw[Qb3 hx',if_pos hk',q1];rfl,by rw[Qb3 hx,if_pos hk,q2];rfl⟩
       ·cases e2
      ·cases e1
     ·cases he
    ·cases he
   ·cases he
  ·cases he
 ·cases he
section
variable{P:Program}{G:Nat→Option (List AV)}
theorem Qje{CR:AC→Code→Prop}{B:Nat}{w0:World}{g:Gam}{h h1:AH}{w:World}{af:AF}{fr:Frame}{cs:List Frame}{k:List Item}{ops:Array Oper}{l:List AOper}{D rest:List Nat}{i:Nat}{A:AOp}{q:Nat→Prop}
  (hd:HeadR P g af fr)(hm:fr.mode=.run)(ht:fr.todo=.inRegion ops (i::rest)::k)(hD:DrawR P G g af.tmps fr.tmps ops l D (i::rest))(hi:i ∉ D)(hlt:∀j,bit (bsOps ops) i j=true→j<l.length)
  (hact:(opAt l i).act=.op A)(hdst:(opAt l i).dst=none)(hgd:(opAt l i).guard=none)(hex:exec h (aev af.tmps) A=some (.undef,h1))(hlk:∀j∈D,j∈rest→(opAt l j).act.looked=false)(hG:GlobR G g)
  (H:HR CR B ⟨w0,fun x=>Owed l af.tmps D (i::rest) x∨q x⟩ g h w) :
  ∃g' fr' w',step P (lone fr cs w)=.next (lone fr' cs w')∧fr'.todo=.inRegion ops rest::k∧fr'.mode=.run∧HeadR P g' af fr'∧DrawR P G g' af.tmps fr'.tmps ops l (D++[i]) rest∧(∀j∈D++[i],j∈rest→PendD af.tmps h1 (opAt l j))∧g.le g' ∧
   HR CR B ⟨w0,fun x=>Owed l af.tmps (D++[i]) rest x∨q x⟩ g' h1 w':=by
 have hil:i<l.length:=hD.sched.lt i (by simp);obtain⟨o,ho,hc⟩:=hD.isOps.get hil;obtain⟨hact',hgd',hdst'⟩:=Qbl hc;have hnot:i ∉ rest:=(List.nodup_cons.1 hD.sched.nodup).1;have hin:∀j∈D++[i],j∈rest→j∈D:=fun j hj hr=>by
  rcases List.mem_append.1 hj with hj|hj
  ·exact hj
  ·rw[List.mem_singleton.1 hj]at hr;exact absurd hr hnot
 have hbits:∀j,bit (bsOps ops) i j=true→j∈D:=fun j hb=>hD.exe j (hlt j hb) fun hr=>hD.sched.head hb hr
 have hwant:Region.wanted o (yielded ops fr.tmps)=true:=Qcj (a:=opAt l i) hgd' hD.len (fun t ht=>hD.reads ht) (by unfold Qai;rw[hgd]);rw[hact]at hact';obtain⟨hop,hnd⟩:=QdO hact';have he':exec h (evOf af.tmps l D (i::rest)) A=some (.undef,h1):=by
  rw[←Qa6 A (fun x hx=>Qi0 hD x (by rw[hact];exact hx))];exact hex
 obtain⟨g',w',u,hrun,H',hle,hv⟩:=QdK o.op CR B _ g h h1 w fr.eval _ A .undef o H (QdN hG hD) (fun v=>rfl) hop he' rfl;have hstep:step P (lone fr cs w)=.next (lone (fr.finish u) cs w'):=by
  rcases hrun with hrun|⟨hrun,rfl⟩
  ·exact go_value hm ht ho hwant (.inr hnd) hrun
  ·exact go_unit hm ht ho hwant (.inr hnd) hrun
 have hD':=(hD.mainDone hle hi hbits hv).1;rw[hdst]at hD';have hfin:=Qay (fr:=fr) ht ho u;rw[←hdst',hdst]at hfin;refine⟨g',fr.finish u,w',hstep,by rw[hfin],by rw[hfin];exact hm,?_,by rw[hfin];exact hD',?_,hle,H'.weaken fun x hx=>hx.imp (fun⟨j,h1,h2,h3⟩=>⟨j,hin j h1 h2,List.mem_cons_of_mem _ h2,h3⟩) id⟩
 ·rw[hfin];exact(hd.mono hle).of_same rfl rfl rfl rfl rfl rfl rfl rfl rfl rfl
 ·intro j hj hr;have hj':=hin j hj hr;exact(hD.stat j hj' (List.mem_cons_of_mem _ hr)).toD fun hl=>by rw[hlk j hj' hr]at hl;cases hl
theorem split2{l:List Nat}{a b:Nat}(ha:a∈l)(hb:b∈l)(hne:a≠b):∃pre x mid y post,l=pre++x::(mid++y::post)∧((x=a∧y=b)∨(x=b∧y=a)):=by
 obtain⟨p,s,rfl⟩:=List.append_of_mem ha;rcases List.mem_append.1 hb with h|h
 ·obtain⟨p1,p2,rfl⟩:=List.append_of_mem h;exact⟨p1,b,p2,a,s,by simp,.inr ⟨rfl,rfl⟩⟩
 ·obtain⟨s1,s2,rfl⟩:=List.append_of_mem ((List.mem_cons.1 h).resolve_left fun e=>hne e.symm);exact⟨p,a,s1,b,s2,rfl,.inl ⟨rfl,rfl⟩⟩
theorem Qmo{l:List AOper}{bs:List Nat}{a b:Nat}(h:Qfk l bs [a,b]=true):Qdo (opAt l a)=true∧Qdo (opAt l b)=true ∧
  ∀j,j<l.length→j≠a→j≠b→(bit bs a j=true∧bit bs b j=true)∨(opAt l j).act.looked=false:=by
 simp only[Qfk,Bool.and_eq_true,List.all_eq_true,List.mem_range,Bool.or_eq_true,beq_iff_eq,Bool.not_eq_true']at h;obtain⟨⟨h1,h2⟩,h3⟩:=h;refine⟨h1,h2,fun j hj ha hb=>?_⟩;rcases h3 j hj with((h4|h4)|h4)|h4
 ·exact absurd h4 ha
 ·exact absurd h4 hb
 ·exact .inl h4
 ·exact .inr h4
theorem Qco{o:AOper}(h:Qdo o=true):o.dst=none∧o.guard=none:=by
 unfold Qdo at h;simp only[Bool.and_eq_true,Option.isNone_iff_eq_none]at h;exact h.1
theorem Qmn{CR:AC→Code→Prop}{B:Nat}{w0:World}{g:Gam}{h h':AH}{w:World}{af:AF}{fr:Frame}{cs:List Frame}{k:List Item}{ops:Array Oper}{l:List AOper}{D rest:List Nat}{a b:Nat}{q:Nat→Prop}
  (hd:HeadR P g af fr)(hm:fr.mode=.run)(ht:fr.todo=.inRegion ops rest::k)(hD:DrawR P G g af.tmps fr.tmps ops l D rest)(dyn:∀j∈D,j∈rest→PendD af.tmps h (opAt l j))(ho:OrdR l.length (bsOps ops) (D++[a,b]))
  (htl:Qfk l (bsOps ops) [a,b]=true)(he:ends2 af.tmps h (opAt l a) (opAt l b)=some h')(hG:GlobR G g)(H:HR CR B ⟨w0,fun x=>Owed l af.tmps D rest x∨q x⟩ g h w)(hq:∀x,Owed l af.tmps D rest x→¬q x) :
  ∃g' fr' w',Steps P (lone fr cs w) (lone fr' cs w')∧fr'.todo=k∧fr'.mode=.run∧HeadR P g' af fr'∧VRs g' af.tmps fr'.tmps.toList∧g.le g'∧HR CR B ⟨w0,q⟩ g' h' w':=by
 obtain⟨A,B',ha,hb,hA,hB,e1,e2,e3,e4⟩:=QmV he;obtain⟨sa,sb,hlk⟩:=Qmo htl;have hnd:=(List.nodup_append.1 ho.nodup)
 have hab:a≠b:=fun e=>by have:=hnd.2.1;simp[e]at this
 have haD:a ∉ D:=fun h=>hnd.2.2 a h a (by simp) rfl
 have hbD:b ∉ D:=fun h=>hnd.2.2 b h b (by simp) rfl
 have hal:a<l.length:=ho.lt a (by simp);have hbl:b<l.length:=ho.lt b (by simp);have har:a∈rest:=Classical.byContradiction fun hn=>haD (hD.exe a hal hn)
 have hbr:b∈rest:=Classical.byContradiction fun hn=>hbD (hD.exe b hbl hn)
 obtain⟨pre,x,mid,y,post,rfl,hxy⟩:=split2 har hbr hab;obtain⟨X,Y,hx1,hX,hY,ex,ey,sx,sy,hxD,hyD,hne⟩:∃X Y hx1,(opAt l x).act=.op X∧(opAt l y).act=.op Y∧exec h (aev af.tmps) X=some (.undef,hx1)∧exec hx1 (aev af.tmps) Y=some (.undef,h') ∧
   Qdo (opAt l x)=true∧Qdo (opAt l y)=true∧x ∉ D∧y ∉ D∧x≠y:=by
  rcases hxy with⟨rfl,rfl⟩|⟨rfl,rfl⟩
  ·exact⟨A,B',ha,hA,hB,e1,e2,sa,sb,haD,hbD,hab⟩
  ·exact⟨B',A,hb,hB,hA,e3,e4,sb,sa,hbD,haD,hab.symm⟩
 have hmem:∀z,z=a∨z=b↔z=x∨z=y:=by
  intro z;rcases hxy with⟨rfl,rfl⟩|⟨rfl,rfl⟩
  ·exact Iff.rfl
  ·exact or_comm
 have hnodup:=hD.sched.nodup;have hothers:∀z∈pre++x::(mid++y::post),z≠x→z≠y→z∈D:=by
  intro z hz h1 h2;rcases List.mem_append.1 (ho.all z (hD.sched.lt z hz)) with h3|h3
  ·exact h3
  ·simp only[List.mem_cons,List.not_mem_nil,or_false]at h3;rcases(hmem z).1 h3 with h4|h4
   ·exact absurd h4 h1
   ·exact absurd h4 h2
 obtain⟨hn1,hn2,hn3⟩:=List.nodup_append.1 hnodup;obtain⟨hn4,hn5⟩:=List.nodup_cons.1 hn2;obtain⟨hn6,hn7,hn8⟩:=List.nodup_append.1 hn5;obtain⟨hn9,hn10⟩:=List.nodup_cons.1 hn7;have hpre:∀z∈pre,z∈D:=fun z hz=>hothers z (by simp[hz]) (fun e=>hn3 z hz x (by simp) e) (fun e=>hn3 z hz y (by simp) e)
 have hmid:∀z∈mid,z∈D++[x]:=fun z hz=>List.mem_append_left _ (hothers z (by simp[hz]) (fun e=>hn4 (by rw[←e];simp[hz])) (fun e=>hn8 z hz y (by simp) e))
 have hpost:∀z∈post,z∈D++[x]++[y]:=fun z hz=>List.mem_append_left _ (List.mem_append_left _ (hothers z (by simp[hz]) (fun e=>hn4 (by rw[←e];simp[hz])) (fun e=>hn9 (by rw[←e];exact hz))))
 have hltx:∀z,bit (bsOps ops) x z=true∨bit (bsOps ops) y z=true→z<l.length:=by
  have key:∀i∈[a,b],∀z,bit (bsOps ops) i z=true→z<l.length:=by
   intro i hi z hz;obtain⟨p,s,he⟩:=List.append_of_mem (show i∈D++[a,b] from List.mem_append_right _ hi);exact ho.lt z (by rw[he];exact List.mem_append_left _ (ho.ord p i s he z hz))
  intro z hz;rcases hz with hz|hz
  ·exact key x (by have:=(hmem x).2 (.inl rfl);simpa using this) z hz
  ·exact key y (by have:=(hmem y).2 (.inr rfl);simpa using this) z hz
 have hlk':∀j∈D,(bit (bsOps ops) x j=false∨bit (bsOps ops) y j=false)→(opAt l j).act.looked=false:=by
  intro j hj hnb;have h1:j≠a:=fun e=>haD (e ▸ hj)
  have h2:j≠b:=fun e=>hbD (e ▸ hj)
  rcases hlk j (hD.lt j hj) h1 h2 with⟨h3,h4⟩|h3
  ·rcases hxy with⟨rfl,rfl⟩|⟨rfl,rfl⟩<;>rcases hnb with h5|h5<;>simp_all
  ·exact h3
 obtain⟨g1,fr1,w1,s1,ht1,hm1,hd1,hD1,hle1,H1⟩:=Qb4 (cs:=cs) (post:=x::(mid++y::post)) pre hd hm ht hD hpre dyn hG H hq;have hq1:∀z,Owed l af.tmps D (x::(mid++y::post)) z→¬q z:=fun z ⟨j,h1,h2,h3⟩=>hq z ⟨j,h1,List.mem_append_right _ h2,h3⟩
 obtain⟨g2,fr2,w2,s2,ht2,hm2,hd2,hD2,dyn2,hle2,H2⟩:=Qje (cs:=cs) hd1 hm1 ht1 hD1 hxD (fun z hz=>hltx z (.inl hz)) hX (Qco sx).1 (Qco sx).2 ex (fun j hj hr=>hlk' j hj (.inl (by
  cases hb:bit (bsOps ops) x j with
  |false=>rfl
  |true=>exact absurd (List.mem_cons_of_mem _ hr) (hD1.sched.head hb)))) (hG.mono hle1) H1
 have hin2:∀z,Owed l af.tmps (D++[x]) (mid++y::post) z→Owed l af.tmps D (x::(mid++y::post)) z:=fun z ⟨j,h1,h2,h3⟩=>⟨j,by
  rcases List.mem_append.1 h1 with h1|h1
  ·exact h1
  ·rw[List.mem_singleton.1 h1]at h2;exact absurd h2 hn4,List.mem_cons_of_mem _ h2,h3⟩
 obtain⟨g3,fr3,w3,s3,ht3,hm3,hd3,hD3,hle3,H3⟩:=Qb4 (cs:=cs) (post:=y::post) mid hd2 hm2 ht2 hD2 hmid dyn2 ((hG.mono hle1).mono hle2) H2 (fun z hz=>hq1 z (hin2 z hz));have hyD':y ∉ D++[x]:=fun h=>by
  rcases List.mem_append.1 h with h|h
  ·exact hyD h
  ·exact hne (List.mem_singleton.1 h).symm
 obtain⟨g4,fr4,w4,s4,ht4,hm4,hd4,hD4,dyn4,hle4,H4⟩:=Qje (cs:=cs) hd3 hm3 ht3 hD3 hyD' (fun z hz=>hltx z (.inr hz)) hY (Qco sy).1 (Qco sy).2 ey (fun j hj hr=>by
  rcases List.mem_append.1 hj with hj|hj
  ·exact hlk' j hj (.inr (by
    cases hb:bit (bsOps ops) y j with
    |false=>rfl
    |true=>exact absurd (List.mem_cons_of_mem _ hr) (hD3.sched.head hb)))
  ·rw[List.mem_singleton.1 hj]at hr;exact absurd (show x∈mid++y::post by simp[hr]) hn4) (((hG.mono hle1).mono hle2).mono hle3) H3
 have hr5:post=post++[]:=by simp
 have hown5:∀z,Owed l af.tmps (D++[x]++[y]) post z→Owed l af.tmps (D++[x]) (mid++y::post) z:=fun z ⟨j,h1,h2,h3⟩=>⟨j,by
  rcases List.mem_append.1 h1 with h1|h1
  ·exact h1
  ·rw[List.mem_singleton.1 h1]at h2;exact absurd h2 hn9,by simp[h2],h3⟩
 have hq5:∀z,Owed l af.tmps (D++[x]++[y]) post z→¬q z:=fun z hz=>hq1 z (hin2 z (hown5 z hz))
 rw[hr5]at ht4 hD4 dyn4 H4 hq5;obtain⟨g5,fr5,w5,s5,ht5,hm5,hd5,hD5,hle5,H5⟩:=Qb4 (cs:=cs) (post:=[]) post hd4 hm4 ht4 hD4 (by simpa using hpost) dyn4 ((((hG.mono hle1).mono hle2).mono hle3).mono hle4) H4 hq5;refine⟨g5,{fr5 with todo:=k},w5,Steps.trans s1 (Steps.head s2 (Steps.trans s3 (Steps.head s4 (Steps.trans s5 (Steps.one (go_region_end hm5 ht5)))))),rfl,hm5,hd5.of_same rfl rfl rfl rfl rfl rfl rfl rfl rfl rfl,?_,Gam.le_trans hle1 (Gam.le_trans hle2 (Gam.le_trans hle3 (Gam.le_trans hle4 hle5))),H5.weaken fun z hz=>.inr hz⟩;exact VRs.ofGetD hD5.len fun t=>hD5.tm t fun j _ hr=>by cases hr
end
end Go.Ab
namespace Go.Ab
open Go
section
variable{P:Program}{G:Nat→Option (List AV)}{C:List Frame}
variable{K:World→Prop}
theorem QkR{l:List AOper}{st:IStage}{r:List IStage}(h:kindOk l (st::r)=true):(∀j∈st.ops,isF l j=true)∧(∀x,st.main=some x→isF l x=false)∧kindOk l r=true:=by
 simp only[kindOk,List.all_cons,Bool.and_eq_true,List.all_eq_true]at h;obtain⟨⟨h1,h2⟩,h3⟩:=h;refine⟨h1,fun x hx=>?_,by simpa[kindOk] using h3⟩;rw[hx]at h2;simpa using h2
theorem Qmr{B:Nat}{w0:World}{F:FuncId→Option AFun}{M:Memo}(hF:FunOk P G F)(hM:Qao K P G M)(hK:∀w',RowKit.Below B w0 w'→K w'){s s':AS}{m:Machine}(hs:astep F M s=some s')(hm:StR P G C B w0 s m) :
  ∃m',Steps P m m'∧StR P G C B w0 s' m':=by
 obtain⟨g,p,q,fr,cs,w,rfl,hcur,T,hpq,H,hG⟩:=hm;obtain⟨af,acs,h⟩:=s;simp only at hcur T H;unfold astep at hs;cases hcur with
 |plain _ _ hd hmd ht hk =>
  simp only[hmd]at hs;exact QkL (s:=⟨af,acs,h⟩) hF hM hK hd hmd ht hk T H hG hs
 |left _ _ hd hmd ht =>
  have hs':Qc7 F ⟨af,acs,h⟩=some s':=by
   split at hs
   ·rename_i e;exact absurd e hmd
   ·exact hs
  exact QmJ (s:=⟨af,acs,h⟩) hF hd hmd ht T H hG hs'
 |rest _ _ l ops rest D fs tl mo ist ak k hd hmd hD dyn hp ha hf hk =>
  simp only[hmd]at hs;cases ist with
  |nil =>
   simp only[Qbo]at ha;simp only[arun,ha,oI]at hs;subst hs;exact⟨_,Steps.refl _ _,g,_,q,fr,cs,w,rfl,.ends _ _ l ops rest D tl ak k (hd.of_same rfl rfl rfl rfl rfl rfl rfl rfl rfl rfl) hmd hD dyn (by simpa using hp.ord) hp.tlk rfl hf hk,T,hpq,H,hG⟩
  |cons st r =>
   simp only[Qbo]at ha;simp only[arun,ha,oI]at hs;subst hs;obtain⟨h1,h2,h3⟩:=QkR hp.kind;have hstg:=hp.stg;simp only[Qd1,Bool.and_eq_true,Bool.or_eq_true]at hstg;obtain⟨⟨_,h4⟩,h5⟩:=hstg;refine⟨_,Steps.refl _ _,g,_,q,fr,cs,w,rfl,.draw _ _ l ops rest D (fs++st.ops) tl st.ops st.main r _ _ ak k (hd.of_same rfl rfl rfl rfl rfl rfl rfl rfl rfl rfl) hmd hD dyn ⟨?_,h5,h3,fun j hj hjf=>?_,fun i hi x hx=>hp.tli i hi st (by simp) x hx,fun i hi st' hst x hx=>hp.tli i hi st' (List.mem_cons_of_mem _ hst) x hx,hp.tlk⟩ h1 h2 (fun hn=>?_) rfl hf (fun x hx=>?_) (fun x hx=>?_) hk,T,hpq,H,hG⟩
   ·have:=hp.ord;simpa[IStage.all] using this
   ·rcases List.mem_append.1 hj with hj|hj
    ·exact List.mem_append_left _ (hp.fs j hj hjf)
    ·rcases List.mem_append.1 hj with hj|hj
     ·exact List.mem_append_right _ hj
     ·cases hmm:st.main with
      |none=>rw[hmm]at hj;simp at hj
      |some x =>
       rw[hmm]at hj;simp at hj;rw[hj,h2 x hmm]at hjf;cases hjf
   ·rw[hn]at h4;simpa using h4
   ·simp[Qkv,hx]
   ·simp[Qkv,hx]
 |draw _ _ l ops rest D fs tl js mo ist ag mask ak k hd hmd hD dyn hp hjs hmf hml ha hf hag hmask hk =>
  simp only[hmd]at hs;cases js with
  |cons j js =>
   simp only[List.map_cons]at ha;simp only[arun,ha]at hs;exact⟨_,Steps.refl _ _,Qlh (s:=⟨af,acs,h⟩) hd hmd hD dyn hp hjs hmf hml hf hag hmask hk T hpq H hG hs⟩
  |nil =>
   cases mo with
   |some x =>
    simp only[List.map_nil,Option.map_some]at ha;simp only[arun,ha,oI]at hs;subst hs;refine⟨_,Steps.refl _ _,g,_,q,fr,cs,w,rfl,.main _ _ l ops x rest D fs tl ist ag mask ak k (hd.of_same rfl rfl rfl rfl rfl rfl rfl rfl rfl rfl) hmd hD dyn ?_ (hmf x rfl) rfl hf (hag x rfl) (hmask x rfl) hk,T,hpq,H,hG⟩;simpa using hp
   |none =>
    simp only[List.map_nil,Option.map_none]at ha;simp only[arun,ha,oI]at hs;subst hs;refine⟨_,Steps.refl _ _,g,_,q,fr,cs,w,rfl,.rest _ _ l ops rest D fs tl none ist ak k (hd.of_same rfl rfl rfl rfl rfl rfl rfl rfl rfl rfl) hmd hD dyn ?_ rfl hf hk,T,hpq,H,hG⟩;simpa using hp
 |main _ _ l ops mn rest D fs tl ist ag mask ak k hd hmd hD dyn hp hmf ha hf hag hmask hk =>
  simp only[hmd]at hs;simp only[arun,ha]at hs;have hord:=hp.ord;rw[List.append_assoc]at hord;obtain⟨pre,post,rfl,hpre⟩:=QmX hD hord hp.stg fun i hi=>hp.tlm i hi _ rfl
  obtain⟨g',fr',w',hst,ht',hm',hd',hD',hle,H'⟩:=Qb4 (post:=mn::post) pre hd (hd.run hmd) hf hD hpre dyn hG H hpq;have S:SuspR P G g' (Owed l af.tmps D (mn::post)) af fr':=.main _ _ l ops mn post D fs tl ist ag mask ak k hd' hmd hD' hp hmf ha ht' hag hmask (hk.mono hle);obtain⟨m',hst2,hR⟩:=Qig (s:=⟨af,acs,h⟩) hF hM hK S (T.mono hle) (fun x ⟨j,h1,h2,h3⟩=>hpq x ⟨j,h1,List.mem_append_right _ h2,h3⟩) H' (hG.mono hle) hmd (by simp[AF.headOp,ha]) hs;exact⟨m',Steps.trans hst hst2,hR⟩
 |ends _ _ l ops rest D tl ak k hd hmd hD dyn ho htl ha hf hk =>
  simp only[hmd]at hs;cases tl with
  |nil =>
   simp only[List.map_nil]at ha;simp only[arun,ha,oI]at hs;subst hs;have hall:∀i∈rest,i∈D:=fun i hi=>by
    have:=ho.all i (hD.sched.lt i hi);simpa using this
   have hr:rest=rest++[]:=by simp
   rw[hr]at hf hD dyn H hpq;obtain⟨g',fr',w',hst,ht',hm',hd',hD',hle,H'⟩:=Qb4 (post:=[]) rest hd (hd.run hmd) hf hD hall dyn hG H hpq;refine⟨_,Steps.trans hst (Steps.one (go_region_end hm' ht')),?_⟩;refine⟨g',fun _=>False,q,_,_,w',rfl,.plain _ _ (hd'.of_same rfl rfl rfl rfl rfl rfl rfl rfl rfl rfl) hmd ?_ (hk.mono hle),T.mono hle,fun x hx=>hx.elim,H'.weaken fun x hx=>hx.elim False.elim .inr,hG.mono hle⟩;exact VRs.ofGetD hD'.len fun t=>hD'.tm t fun j _ hr=>by cases hr
  |cons a tl =>
   cases tl with
   |nil=>simp[Qfk]at htl
   |cons b tl =>
    cases tl with
    |cons c tl=>simp[Qfk]at htl
    |nil =>
     simp only[List.map_cons,List.map_nil]at ha;simp only[arun,ha]at hs;split at hs
     ·rename_i h' he;cases hs;obtain⟨g',fr',w',hst,ht',hm',hd',hv',hle,H'⟩:=Qmn (cs:=cs) hd (hd.run hmd) hf hD dyn ho htl he hG H hpq;exact⟨_,hst,g',fun _=>False,q,_,_,w',rfl,.plain _ _ (hd'.of_same rfl rfl rfl rfl rfl rfl rfl rfl rfl rfl) hmd hv' (by rw[ht'];exact hk.mono hle),T.mono hle,fun x hx=>hx.elim,H'.weaken fun x hx=>hx.elim False.elim id,hG.mono hle⟩
     ·cases hs
theorem Qd0{B:Nat}{w0:World}{F:FuncId→Option AFun}{M:Memo}(hF:FunOk P G F)(hM:Qao K P G M)(hK:∀w',RowKit.Below B w0 w'→K w'):∀(n:Nat){s s':AS}{m:Machine},Qcf F M n s=some s'→StR P G C B w0 s m →
  ∃m',Steps P m m'∧StR P G C B w0 s' m'
 |0,s,s',m,hs,hm=>by cases hs;exact⟨m,Steps.refl _ _,hm⟩
 |n+1,s,s',m,hs,hm=>by
  simp only[Qcf]at hs;split at hs
  ·rename_i s1 h1;obtain⟨m1,hst1,hm1⟩:=Qmr hF hM hK h1 hm;obtain⟨m2,hst2,hm2⟩:=Qd0 hF hM hK n hs hm1;exact⟨m2,Steps.trans hst1 hst2,hm2⟩
  ·cases hs
end
end Go.Ab
