/- A part of a proof. -/
import Derived.Test.YthiiaehlmfbeoaaGreatDoorWAtoXC
import Derived.Test.YthiiaehlmfbeoaaGreatDoorXS26toYE26
import Derived.Test.YthiiaehlmfbeoaaGreatDoorXDlMotoXDm
import Derived.Test.YthiiaehlmfbeoaaGreatDoorWArgtoXR26
set_option linter.all false
set_option maxHeartbeats 1000000
namespace Go.Ab
open Go
def fv:List Bool→Nat→List AV→(Nat→AV)→List AV
 |true::m,i,_::l,f=>f i::fv m (i+1) l f
 |false::m,i,a::l,f=>a::fv m (i+1) l f
 | [],_,l,_=>l
 |_::_,_,[],_=>[]
abbrev τ:Bool:=true
abbrev φ:Bool:=false
theorem Qld:∀(m:List Bool)(i:Nat)(l:List AV)(f:Nat→AV),(∀j,j<l.length→f (i+j)=l.getD j .undef)→fv m i l f=l
 | [],_,l,_,_=>by cases l<;>rfl
 |true::m,i,[],f,_=>rfl
 |false::m,i,[],f,_=>rfl
 |true::m,i,a::l,f,h=>by
  have h0:f i=a:=h 0 (by simp);show f i::fv m (i+1) l f=_;rw[h0,Qld m (i+1) l f fun j hj=>by
   have:=h (j+1) (by simpa using hj);rw[show i+1+j=i+(j+1) by omega];simpa using this]
 |false::m,i,a::l,f,h=>by
  show a::fv m (i+1) l f=_;rw[Qld m (i+1) l f fun j hj=>by
   have:=h (j+1) (by simpa using hj);rw[show i+1+j=i+(j+1) by omega];simpa using this]
def at'(t:List AV)(i:Nat):AV:=t.getD i .undef
theorem fv_at{m:List Bool}{t:List AV}:fv m 0 t (at' t)=t:=Qld m 0 t _ fun j _=>by rw[Nat.zero_add];rfl
section
variable{F:FuncId→Option AFun}{M:Memo}{x:Ctx}{G:AS→Prop}{t:List AV}{k:List AItem}{h:AH}
theorem Qfi{b:AC}(W:List Bool)(Inv:Nat→(Nat→AV)→AH→Prop)(m:Nat)(h0:Inv m (at' t) h)
  (step:∀m f h,Inv m f h→(∀m' t' h',m'<m→Inv m' (at' t') h'→fv W 0 t (at' t')=t'→Reach F M (x.at t' (.inLoop b::k) h') G)→Reach F M (x.at (fv W 0 t f) (.code b::.inLoop b::k) h) G):Reach F M (x.at t (.code (.loop b)::k) h) G:=by
 refine Qbv (fun m t' h'=>∃f,Inv m f h'∧t'=fv W 0 t f) m ⟨at' t,h0,fv_at.symm⟩ ?_;rintro m t' h' ⟨f,hi,rfl⟩ ih;refine step m f h' hi fun m' t2 h2 hm hi2 e=>?_
 exact ih m' t2 h2 hm ⟨at' t2,hi2,e.symm⟩
theorem QpW{a b:AC}(W:List Bool)(J:(Nat→AV)→AH→Prop)(hj:∀f h',J f h'→Reach F M (x.at (fv W 0 t f) (.code b::k) h') G)(ha:(∀t' h',J (at' t') h'→fv W 0 t (at' t')=t'→Reach F M (x.at t' (.code b::k) h') G)→Reach F M (x.at t (.code a::.code b::k) h) G) :
  Reach F M (x.at t (.code (.seq a b)::k) h) G:=
 .step rfl (ha fun t' h' hJ e=>e ▸ hj (at' t') h' hJ)
end
structure GE (lo:Nat)(h:AH)(tg es:Nat)(v:AV)(rows:List (List AV)):Prop where
 val:GL lo h tg es v rows∨(rows=[]∧∃b sp,v=.slice b 0 0 0∧h.get b=some (.cells [] sp 0 [])∧lo≤b∧b<h.next)
 row:∀r∈rows,r.length=es
theorem GL.ge{lo tg es:Nat}{h:AH}{v:AV}{rows:List (List AV)}(g:GL lo h tg es v rows):GE lo h tg es v rows:=⟨.inl g,g.row⟩
theorem GE.sl{lo tg es N:Nat}{h:AH}{v:AV}{rows:List (List AV)}(g:GE lo h tg es v rows)(hN:h.next≤N):Sl N h es v rows:=by
 rcases g.val with g|⟨rfl,b,sp,rfl,h1,h2,h3⟩
 ·exact g.sl hN
 ·exact Sl.ofCells (.inr ⟨0,rfl⟩) (Nat.lt_of_lt_of_le h3 hN) h1 rfl (by simp) (by simp) (fun r hr=>by cases hr)
theorem GE.one{lo tg es:Nat}{h:AH}{v:AV}{rows:List (List AV)}(g:GE lo h tg es v rows):v.one=true∧v.known=true∧v.cells=[v]:=by
 rcases g.val with g|⟨rfl,b,sp,rfl,_⟩
 ·rcases g.val with⟨rfl,_⟩|⟨b,_,_,rfl,_⟩<;>exact⟨rfl,rfl,rfl⟩
 ·exact⟨rfl,rfl,rfl⟩
theorem GE.up{lo tg es:Nat}{h h':AH}{v:AV}{rows:List (List AV)}(g:GE lo h tg es v rows)(u:Up h h'):GE lo h' tg es v rows:=by
 refine⟨?_,g.row⟩;rcases g.val with g|⟨rfl,b,sp,rfl,h1,h2,h3⟩
 ·exact .inl (g.up u)
 ·exact .inr ⟨rfl,b,sp,rfl,by rw[u.keep b h3];exact h1,h2,Nat.lt_of_lt_of_le h3 u.next⟩
def inB(v:AV)(c:Nat):Prop:=∃n e,v=.slop c 0 n e∨v=.slice c 0 n e
theorem GE.keep{lo tg es:Nat}{h h':AH}{v:AV}{rows:List (List AV)}(g:GE lo h tg es v rows)(hn:h.next≤h'.next)(hk:∀c,inB v c→h'.get c=h.get c):GE lo h' tg es v rows:=by
 refine⟨?_,g.row⟩;rcases g.val with g|⟨rfl,b,sp,rfl,h1,h2,h3⟩
 ·rcases g.val with⟨rfl,rfl⟩|⟨b,pre,anc,rfl,h1,h2,h3⟩
  ·exact .inl GL.nil
  ·exact .inl ⟨.inr ⟨b,pre,anc,rfl,by rw[hk b ⟨_,_,.inl rfl⟩];exact h1,h2,Nat.lt_of_lt_of_le h3 hn⟩,g.row⟩
 ·exact .inr ⟨rfl,b,sp,rfl,by rw[hk b ⟨_,_,.inr rfl⟩];exact h1,h2,Nat.lt_of_lt_of_le h3 hn⟩
theorem GE.inB{lo tg es:Nat}{h:AH}{v:AV}{rows:List (List AV)}(g:GE lo h tg es v rows){c:Nat}(hc:inB v c):lo≤c∧c<h.next:=by
 obtain⟨n,e,hc⟩:=hc;rcases g.val with g|⟨rfl,b,sp,rfl,h1,h2,h3⟩
 ·rcases g.val with⟨rfl,rfl⟩|⟨b,pre,anc,rfl,h1,h2,h3⟩
  ·rcases hc with e|e<;>cases e
  ·rcases hc with e|e<;>cases e
   exact⟨h2,h3⟩
 ·rcases hc with e|e<;>cases e
  exact⟨h2,h3⟩
structure AppR (lo:Nat)(h:AH)(tg es:Nat)(v:AV)(rows:List (List AV))(v':AV)(h':AH):Prop where
 ge:GE lo h' tg es v' rows
 next:h.next≤h'.next
 low:∀c,c<h.next→c<lo→h'.get c=h.get c
 wf:∀b,h'.next≤b→h'.get b=none
 keep:∀c,c<h.next→¬inB v c→h'.get c=h.get c
theorem AppR.up{lo tg es:Nat}{h0 h h':AH}{v v':AV}{rows:List (List AV)}(a:AppR lo h tg es v rows v' h')(u:Up h0 h)(hl:h0.next≤lo):Up h0 h':=
 ⟨Nat.le_trans u.next a.next,fun b hb=>(a.low b (Nat.lt_of_lt_of_le hb u.next) (by omega)).trans (u.keep b hb),a.wf⟩
theorem Qff{lo tg es bytes:Nat}{h:AH}{v:AV}{rows:List (List AV)}(g:GE lo h tg es v rows)(hw:∀b,h.next≤b→h.get b=none)(hlo:lo≤h.next){x:AV}{rs:List (List AV)}(hl:lenA x=some rs.length)(hx:Qar h es rs.length x=some rs.flatten)
  (hrs:∀r∈rs,r.length=es∧r.all AV.one=true)(hes:es≠0)(hb0:bytes≠0)(hb1:bytes<1000000)(hn:rows.length*bytes<1000000000000)(hm:rs.length*bytes<1000000000000) :
  ∃v' h',appF h es bytes tg v x=some (v',h')∧AppR lo h tg es v (rows++rs) v' h':=by
 have hfl:=Qa9 fun r hr=>(hrs r hr).1
 have hall:rs.flatten.all AV.one=true:=by
  rw[List.all_eq_true];intro x hx';obtain⟨r,h1,h2⟩:=List.mem_flatten.1 hx';exact List.all_eq_true.1 (hrs r h1).2 x h2
 have hrows:∀r'∈rows++rs,r'.length=es:=fun r' hr'=>by
  rcases List.mem_append.1 hr' with h1|h1
  ·exact g.row r' h1
  ·exact(hrs r' h1).1
 simp only[appF,hl,hx];unfold QbU;rw[if_pos ⟨hfl,hes,hb0,hb1,hm,hall⟩];by_cases c0:rs.length=0
 ·have hz:rs=[]:=List.length_eq_zero_iff.1 c0;subst hz;rw[if_pos c0];refine⟨v,h,?_,⟨by simpa using g,Nat.le_refl _,fun _ _ _=>rfl,hw,fun _ _ _=>rfl⟩⟩;rcases g.val with g|⟨rfl,b,sp,rfl,h1,h2,h3⟩
  ·rcases g.val with⟨rfl,rfl⟩|⟨b,pre,anc,rfl,h1,h2,h3⟩<;>rfl
  ·rfl
 rw[if_neg c0];rcases g.val with g|⟨rfl,b,sp,rfl,h1,h2,h3⟩
 ·rcases g.val with⟨rfl,rfl⟩|⟨b,pre,anc,rfl,h1,h2,h3⟩
  ·refine⟨_,_,rfl,⟨⟨.inl ⟨.inr ⟨h.next,0,[],by simp,by simpa using Qam h _,hlo,Nat.lt_succ_self _⟩,hrows⟩,hrows⟩,Nat.le_succ _,fun c hc _=>Qad h _ hc,fun c hc=>?_,fun c hc _=>Qad h _ hc⟩⟩;have hc':h.next+1≤c:=hc
   show (if c=h.next then _ else h.get c)=none;rw[if_neg (by omega)];exact hw c (by omega)
  ·have hlr:=Qa9 g.row;refine⟨.slop h.next 0 (rows.length+rs.length) es,(h.put b (.old rows.flatten)).alloc (.cells (rows.flatten++rs.flatten) (some tg) (rows.length*es) (b::anc)),?_,⟨⟨.inl ⟨.inr ⟨h.next,rows.length*es,b::anc,by simp,?_,hlo,Nat.lt_succ_self _⟩,hrows⟩,hrows⟩,Nat.le_succ _,fun c hc hl=>?_,fun c hc=>?_,fun c hc hn=>?_⟩⟩
   ·have hpos:0<rs.length*es:=Nat.mul_pos (by omega) (by omega);simp only[h1];rw[if_pos ⟨hn,by omega,trivial,trivial⟩,if_neg (by omega),if_pos (by omega),List.drop_zero]
   ·rw[show h.next=(h.put b (.old rows.flatten)).next from rfl,Qam];simp
   ·rw[Qad _ _ (by exact hc),Qab _ _ (by omega)]
   ·have hc':h.next+1≤c:=hc
    show (if c=h.next then _ else (h.put b (.old rows.flatten)).get c)=none;rw[if_neg (by omega),Qab _ _ (by omega)];exact hw c (by omega)
   ·rw[Qad _ _ (by exact hc),Qab _ _ (fun e=>hn ⟨_,_,.inl (by rw[e])⟩)]
 ·refine⟨.slop h.next 0 (0+rs.length) es,h.alloc (.cells ([]++rs.flatten) (some tg) 0 []),?_,⟨⟨.inl ⟨.inr ⟨h.next,0,[],by simp,by simpa using Qam h _,hlo,Nat.lt_succ_self _⟩,hrows⟩,hrows⟩,Nat.le_succ _,fun c hc _=>Qad h _ hc,fun c hc=>?_,fun c hc _=>Qad h _ hc⟩⟩
  ·show (if 0*bytes<1000000000000 then _ else none)=_;rw[if_pos (by omega),if_neg (by omega)];simp only[AH.read,AH.cellsAt,h1];rw[if_pos (by simp)];simp
  ·have hc':h.next+1≤c:=hc
   show (if c=h.next then _ else h.get c)=none;rw[if_neg (by omega)];exact hw c (by omega)
theorem GE.start{h:AH}{tg es:Nat}:GE h.next (h.alloc (.cells [] none 0 [])) tg es (.slice h.next 0 0 0) []:=⟨.inr ⟨rfl,h.next,none,rfl,Qam h _,Nat.le_refl _,Nat.lt_succ_self _⟩,fun r hr=>by cases hr⟩
theorem Sl.lenA{N es:Nat}{h:AH}{v:AV}{rows:List (List AV)}(s:Sl N h es v rows):lenA v=some rows.length:=by
 have:=s.len;cases v<;>first|exact this|(simp[lenS]at this)
end Go.Ab
namespace Go.Ab
open Go
structure GS (lo:Nat)(h:AH)(tg es:Nat)(v:AV)(rows:List (List AV)):Prop where
 val:GL lo h tg es v rows∨(∃b sp,v=.slice b 0 rows.length rows.length∧h.get b=some (.cells rows.flatten sp 0 [])∧lo≤b∧b<h.next)
 row:∀r∈rows,r.length=es
section
variable{lo tg es N:Nat}{h h' h0:AH}{v:AV}{rows:List (List AV)}
theorem GL.gs(g:GL lo h tg es v rows):GS lo h tg es v rows:=⟨.inl g,g.row⟩
theorem GS.sl(g:GS lo h tg es v rows)(hN:h.next≤N):Sl N h es v rows:=by
 rcases g.val with g'|⟨b,sp,rfl,h1,h2,h3⟩
 ·exact g'.sl hN
 ·have hl:=Qa9 g.row;exact Sl.ofCells (.inr ⟨rows.length,rfl⟩) (Nat.lt_of_lt_of_le h3 hN) h1 rfl (by rw[←hl,List.take_length]) (by omega) g.row
theorem GS.one(g:GS lo h tg es v rows):v.one=true∧v.known=true∧v.cells=[v]:=by
 rcases g.val with g|⟨b,sp,rfl,_⟩
 ·rcases g.val with⟨rfl,_⟩|⟨b,_,_,rfl,_⟩<;>exact⟨rfl,rfl,rfl⟩
 ·exact⟨rfl,rfl,rfl⟩
theorem GS.inB(g:GS lo h tg es v rows){c:Nat}(hc:inB v c):lo≤c∧c<h.next:=by
 obtain⟨n,e,hc⟩:=hc;rcases g.val with g|⟨b,sp,rfl,h1,h2,h3⟩
 ·rcases g.val with⟨rfl,rfl⟩|⟨b,pre,anc,rfl,h1,h2,h3⟩
  ·rcases hc with e|e<;>cases e
  ·rcases hc with e|e<;>cases e
   exact⟨h2,h3⟩
 ·rcases hc with e|e<;>cases e
  exact⟨h2,h3⟩
theorem GS.keep(g:GS lo h tg es v rows)(hn:h.next≤h'.next)(hk:∀c,Go.Ab.inB v c→h'.get c=h.get c):GS lo h' tg es v rows:=by
 refine⟨?_,g.row⟩;rcases g.val with g|⟨b,sp,rfl,h1,h2,h3⟩
 ·rcases g.val with⟨rfl,rfl⟩|⟨b,pre,anc,rfl,h1,h2,h3⟩
  ·exact .inl GL.nil
  ·exact .inl ⟨.inr ⟨b,pre,anc,rfl,by rw[hk b ⟨_,_,.inl rfl⟩];exact h1,h2,Nat.lt_of_lt_of_le h3 hn⟩,g.row⟩
 ·exact .inr ⟨b,sp,rfl,by rw[hk b ⟨_,_,.inr rfl⟩];exact h1,h2,Nat.lt_of_lt_of_le h3 hn⟩
theorem GS.up(g:GS lo h tg es v rows)(u:Up h h'):GS lo h' tg es v rows:=g.keep u.next fun c hc=>u.keep c (g.inB hc).2
theorem GS.mono{lo':Nat}(g:GS lo h tg es v rows)(hl:lo'≤lo):GS lo' h tg es v rows:=by
 refine⟨?_,g.row⟩;rcases g.val with g|⟨b,sp,rfl,h1,h2,h3⟩
 ·rcases g.val with⟨rfl,rfl⟩|⟨b,pre,anc,rfl,h1,h2,h3⟩
  ·exact .inl GL.nil
  ·exact .inl ⟨.inr ⟨b,pre,anc,rfl,h1,Nat.le_trans hl h2,h3⟩,g.row⟩
 ·exact .inr ⟨b,sp,rfl,h1,Nat.le_trans hl h2,h3⟩
theorem GS.lift{lo':Nat}(g:GS lo h tg es v rows)(hl:∀c,Go.Ab.inB v c→lo'≤c):GS lo' h tg es v rows:=by
 refine⟨?_,g.row⟩;rcases g.val with g|⟨b,sp,rfl,h1,h2,h3⟩
 ·rcases g.val with⟨rfl,rfl⟩|⟨b,pre,anc,rfl,h1,h2,h3⟩
  ·exact .inl GL.nil
  ·exact .inl ⟨.inr ⟨b,pre,anc,rfl,h1,hl b ⟨_,_,.inl rfl⟩,h3⟩,g.row⟩
 ·exact .inr ⟨b,sp,rfl,h1,hl b ⟨_,_,.inr rfl⟩,h3⟩
structure ApS (lo:Nat)(h:AH)(tg es:Nat)(v:AV)(rows:List (List AV))(v':AV)(h':AH):Prop where
 gs:GS lo h' tg es v' rows
 next:h.next≤h'.next
 wf:∀b,h'.next≤b→h'.get b=none
 keep:∀c,c<h.next→¬Go.Ab.inB v c→h'.get c=h.get c
 new:v'=v∧h'=h∨∀c,Go.Ab.inB v' c→h.next≤c
theorem Qp0{bytes:Nat}(g:GS lo h tg es v rows)(hw:∀b,h.next≤b→h.get b=none)(hlo:lo≤h.next){x:AV}{rs:List (List AV)}(hl:lenA x=some rs.length)(hx:Qar h es rs.length x=some rs.flatten)
  (hrs:∀r∈rs,r.length=es∧r.all AV.one=true)(hes:es≠0)(hb0:bytes≠0)(hb1:bytes<1000000)(hn:rows.length*bytes<1000000000000)(hm:rs.length*bytes<1000000000000) :
  ∃v' h',appF h es bytes tg v x=some (v',h')∧ApS lo h tg es v (rows++rs) v' h':=by
 have hfl:=Qa9 fun r hr=>(hrs r hr).1
 have hall:rs.flatten.all AV.one=true:=by
  rw[List.all_eq_true];intro x hx';obtain⟨r,h1,h2⟩:=List.mem_flatten.1 hx';exact List.all_eq_true.1 (hrs r h1).2 x h2
 have hrows:∀r'∈rows++rs,r'.length=es:=fun r' hr'=>by
  rcases List.mem_append.1 hr' with h1|h1
  ·exact g.row r' h1
  ·exact(hrs r' h1).1
 simp only[appF,hl,hx];unfold QbU;rw[if_pos ⟨hfl,hes,hb0,hb1,hm,hall⟩];by_cases c0:rs.length=0
 ·have hz:rs=[]:=List.length_eq_zero_iff.1 c0;subst hz;rw[if_pos c0];refine⟨v,h,?_,⟨by simpa using g,Nat.le_refl _,hw,fun _ _ _=>rfl,.inl ⟨rfl,rfl⟩⟩⟩;rcases g.val with g|⟨b,sp,rfl,h1,h2,h3⟩
  ·rcases g.val with⟨rfl,rfl⟩|⟨b,pre,anc,rfl,h1,h2,h3⟩<;>rfl
  ·rfl
 rw[if_neg c0];have newB:∀c,Go.Ab.inB (.slop h.next 0 (rows.length+rs.length) es) c→h.next≤c:=fun c ⟨n,e,hc⟩=>by
  rcases hc with e|e<;>cases e
  exact Nat.le_refl _
 have wfA:∀(k:AH) (o:AO),k.next=h.next→(∀b,h.next≤b→k.get b=none)→∀b,(k.alloc o).next≤b→(k.alloc o).get b=none:=fun k o e hk b hb=>by
  have hb':k.next+1≤b:=hb
  show (if b=k.next then some o else k.get b)=none;rw[if_neg (by omega)];exact hk b (by omega)
 rcases g.val with g'|⟨b,sp,rfl,h1,h2,h3⟩
 ·rcases g'.val with⟨rfl,rfl⟩|⟨b,pre,anc,rfl,h1,h2,h3⟩
  ·refine⟨.slop h.next 0 rs.length es,h.alloc (.cells rs.flatten (some tg) 0 []),rfl,⟨⟨.inl ⟨.inr ⟨h.next,0,[],by simp,by simpa using Qam h _,hlo,Nat.lt_succ_self _⟩,hrows⟩,hrows⟩,Nat.le_succ _,wfA h _ rfl hw,fun c hc _=>Qad h _ hc,.inr ?_⟩⟩;simpa using newB
  ·have hlr:=Qa9 g.row;refine⟨.slop h.next 0 (rows.length+rs.length) es,(h.put b (.old rows.flatten)).alloc (.cells (rows.flatten++rs.flatten) (some tg) (rows.length*es) (b::anc)),?_,⟨⟨.inl ⟨.inr ⟨h.next,rows.length*es,b::anc,by simp,?_,hlo,Nat.lt_succ_self _⟩,hrows⟩,hrows⟩,Nat.le_succ _,wfA _ _ rfl (fun c hc=>?_),fun c hc hn=>?_,.inr newB⟩⟩
   ·have hpos:0<rs.length*es:=Nat.mul_pos (by omega) (by omega);simp only[h1];rw[if_pos ⟨hn,by omega,trivial,trivial⟩,if_neg (by omega),if_pos (by omega),List.drop_zero]
   ·rw[show h.next=(h.put b (.old rows.flatten)).next from rfl,Qam];simp
   ·rw[Qab _ _ (by omega)];exact hw c hc
   ·rw[Qad _ _ (by exact hc),Qab _ _ (fun e=>hn ⟨_,_,.inl (by rw[e])⟩)]
 ·have hlr:=Qa9 g.row;refine⟨.slop h.next 0 (rows.length+rs.length) es,h.alloc (.cells (rows.flatten++rs.flatten) (some tg) 0 []),?_,⟨⟨.inl ⟨.inr ⟨h.next,0,[],by simp,by simpa using Qam h _,hlo,Nat.lt_succ_self _⟩,hrows⟩,hrows⟩,Nat.le_succ _,wfA h _ rfl hw,fun c hc _=>Qad h _ hc,.inr newB⟩⟩;show (if rows.length*bytes<1000000000000 then _ else none)=_;rw[if_pos hn,if_neg (by omega)];simp only[AH.read,AH.cellsAt,h1];rw[if_pos (by omega),List.drop_zero,←hlr,List.take_length];rfl
end
end Go.Ab
namespace Go.Ab.L26
open Go Go.Ab
def noneK:On:=fun _=>false
def scrS(nc:Nat):(Nat→CT)→St→List Act→List Int
 |_,_,[]=>[]
 |forms,s,a::l=>(if a.set then [] else [(actS nc forms {s with known:=noneK} a).2.2.2])++scrS nc (actS nc forms {s with known:=noneK} a).1 (actS nc forms {s with known:=noneK} a).2.1 l
def QaJ(cs:List CT)(as:List Act):List Int×Int:=if Qak cs as=0 then (scrS cs.length (Qaq cs) s0 as,0) else ([],Qak cs as)
def combP(ask:Nat→Int)(k n:Int)(ds:List (On→Int×On))(on:On):Int×On:=
 match k,ds with
 |1,_=>(ask n.toNat,upd on n.toNat true)
 |2,[a,b]=>(wrapS (IntKind.i64.wrap ((a on).1+(b (a on).2).1)),(b (a on).2).2)
 |3,[a,b]=>(wrapS (IntKind.i64.wrap ((a on).1*(b (a on).2).1)),(b (a on).2).2)
 |4,[a,b,c]=>if (a on).1<0 then b (a on).2 else c (a on).2
 |_,_=>(n,on)
mutual
def evalP(ask:Nat→Int):CT→On→Int×On
 | .mk k n l=>combP ask k n (QcL ask l)
def QcL(ask:Nat→Int):List CT→List (On→Int×On)
 | []=>[]
 |t::l=>evalP ask t::QcL ask l
end
def noneO:On:=fun _=>false
theorem Qdz{on:On}{i j:Nat}(h:on j=true):upd on i true j=true:=by
 unfold upd;split
 ·rfl
 ·exact h
theorem upd_self{α:Type}{f:Nat→α}{i:Nat}{a:α}:upd f i a i=a:=if_pos rfl
theorem upd_ne{α:Type}{f:Nat→α}{i j:Nat}{a:α}(h:j≠i):upd f i a j=f j:=if_neg h
theorem Qa7{ask:Nat→Int}{cell:Nat}:∀(z:Nat)(T:CT),sizeC T≤z→RightT cell T→∀on j,on j=true→(evalP ask T on).2 j=true
 |0,.mk k n l,hz,_=>by simp[sizeC]at hz
 |z+1,.mk k n l,hz,hr=>fun on j h=>by
  rcases hr.inv with⟨rfl,rfl⟩|⟨q,rfl,rfl,hq,rfl⟩|⟨hk,a,b,rfl,ra,rb⟩|⟨rfl,a,b,d,rfl,ra,rb,rd⟩
  ·exact h
  ·simp only[evalP,combP];exact Qdz h
  ·simp only[sizeC,sizes]at hz;have ia:=Qa7 (ask:=ask) z a (by omega) ra;have ib:=Qa7 (ask:=ask) z b (by omega) rb;rcases hk with rfl|rfl<;>exact ib _ _ (ia _ _ h)
  ·simp only[sizeC,sizes]at hz;have ia:=Qa7 (ask:=ask) z a (by omega) ra;have ib:=Qa7 (ask:=ask) z b (by omega) rb;have id:=Qa7 (ask:=ask) z d (by omega) rd;simp only[evalP,QcL,combP];split
   ·exact ib _ _ (ia _ _ h)
   ·exact id _ _ (ia _ _ h)
theorem Qc4{ask:Nat→Int}{cell:Nat}:∀(z:Nat)(T:CT),sizeC T≤z→RightT cell T→∀on j,(evalP ask T on).2 j=true→on j=true∨j<cell
 |0,.mk k n l,hz,_=>by simp[sizeC]at hz
 |z+1,.mk k n l,hz,hr=>fun on j h=>by
  rcases hr.inv with⟨rfl,rfl⟩|⟨q,rfl,rfl,hq,rfl⟩|⟨hk,a,b,rfl,ra,rb⟩|⟨rfl,a,b,d,rfl,ra,rb,rd⟩
  ·exact .inl h
  ·simp only[evalP,combP,Int.toNat_natCast]at h;unfold upd at h;split at h
   ·exact .inr (by omega)
   ·exact .inl h
  ·simp only[sizeC,sizes]at hz;have ia:=Qc4 (ask:=ask) z a (by omega) ra;have ib:=Qc4 (ask:=ask) z b (by omega) rb;rcases hk with rfl|rfl
   ·rcases ib _ _ h with h|h
    ·exact ia _ _ h
    ·exact .inr h
   ·rcases ib _ _ h with h|h
    ·exact ia _ _ h
    ·exact .inr h
  ·simp only[sizeC,sizes]at hz;have ia:=Qc4 (ask:=ask) z a (by omega) ra;have ib:=Qc4 (ask:=ask) z b (by omega) rb;have id:=Qc4 (ask:=ask) z d (by omega) rd;simp only[evalP,QcL,combP]at h;split at h
   ·rcases ib _ _ h with h|h
    ·exact ia _ _ h
    ·exact .inr h
   ·rcases id _ _ h with h|h
    ·exact ia _ _ h
    ·exact .inr h
theorem QaQ{a1 a2:Nat→Int}{cell:Nat}:∀(z:Nat)(T:CT),sizeC T≤z→RightT cell T→∀on,(∀j,(evalP a1 T on).2 j=true→a1 j=a2 j)→evalP a2 T on=evalP a1 T on
 |0,.mk k n l,hz,_=>by simp[sizeC]at hz
 |z+1,.mk k n l,hz,hr=>fun on h=>by
  rcases hr.inv with⟨rfl,rfl⟩|⟨q,rfl,rfl,hq,rfl⟩|⟨hk,a,b,rfl,ra,rb⟩|⟨rfl,a,b,d,rfl,ra,rb,rd⟩
  ·rfl
  ·simp only[evalP,combP,Int.toNat_natCast]at h ⊢;rw[h q upd_self]
  ·simp only[sizeC,sizes]at hz;have mb:=Qa7 (ask:=a1) z b (by omega) rb;rcases hk with rfl|rfl
   ·simp only[evalP,QcL,combP]at h ⊢;have ea:=QaQ z a (by omega) ra on fun j hj=>h j (mb _ _ hj)
    rw[ea];have eb:=QaQ z b (by omega) rb (evalP a1 a on).2 h;rw[eb]
   ·simp only[evalP,QcL,combP]at h ⊢;have ea:=QaQ z a (by omega) ra on fun j hj=>h j (mb _ _ hj)
    rw[ea];have eb:=QaQ z b (by omega) rb (evalP a1 a on).2 h;rw[eb]
  ·simp only[sizeC,sizes]at hz;have mb:=Qa7 (ask:=a1) z b (by omega) rb;have md:=Qa7 (ask:=a1) z d (by omega) rd;simp only[evalP,QcL,combP]at h ⊢;by_cases c:(evalP a1 a on).1<0
   ·simp only[if_pos c]at h;have ea:=QaQ z a (by omega) ra on fun j hj=>h j (mb _ _ hj)
    rw[ea,if_pos c,if_pos c];exact QaQ z b (by omega) rb _ h
   ·simp only[if_neg c]at h;have ea:=QaQ z a (by omega) ra on fun j hj=>h j (md _ _ hj)
    rw[ea,if_neg c,if_neg c];exact QaQ z d (by omega) rd _ h
def IsV(nc:Nat)(forms:Nat→CT)(V:Nat→Int):Prop:=∀c,c<nc→V c=(evalP V (forms c) noneO).1
def valP(forms:Nat→CT):Nat→Nat→Int
 |0,_=>0
 |f+1,c=>(evalP (valP forms f) (forms c) noneO).1
theorem Qne{nc:Nat}{forms:Nat→CT}(H:OkF nc forms):∀f c,c<f→c<nc→valP forms (f+1) c=valP forms f c
 |0,c,h,_=>by omega
 |f+1,c,h,hc=>by
  have:evalP (valP forms (f+1)) (forms c) noneO=evalP (valP forms f) (forms c) noneO:=QaQ _ _ (Nat.le_refl _) (H.rt c hc) _ fun j hj=>by
   rcases Qc4 _ _ (Nat.le_refl _) (H.rt c hc) _ _ hj with e|e
   ·cases e
   ·exact(Qne H f j (by omega) (by omega)).symm
  exact congrArg Prod.fst this
theorem exV{nc:Nat}{forms:Nat→CT}(H:OkF nc forms):IsV nc forms (valP forms nc):=fun c hc=>by
 have:valP forms (nc+1) c=(evalP (valP forms nc) (forms c) noneO).1:=rfl;rw[←this];exact(Qne H nc c hc hc).symm
structure Inv (nc:Nat)(forms:Nat→CT)(V:Nat→Int)(s:St):Prop where
 lt:∀c,s.known c=true→c<nc
 val:∀c,s.known c=true→s.vals c=V c
 st:∀c,s.known c=true→s.stands c=(evalP V (forms c) noneO).2
 cl:∀c,s.known c=true→∀j,s.stands c j=true→s.known j=true
def Good(nc:Nat)(forms:Nat→CT)(V:Nat→Int)(cell:Nat)(ask:Ask):Prop:=
 ∀j s,j<cell→Inv nc forms V s→(ask j s).1=V j∧Inv nc forms V (ask j s).2∧(∀i,s.known i=true→(ask j s).2.known i=true)∧(ask j s).2.known j=true
structure Ev (nc:Nat)(forms:Nat→CT)(V:Nat→Int)(p:Int×On)(on:On)(s:St)(r:Int×On×St):Prop where
 v:r.1=p.1
 o:r.2.1=p.2
 inv:Inv nc forms V r.2.2
 mono:∀i,s.known i=true→r.2.2.known i=true
 ask:∀j,p.2 j=true→on j=true∨r.2.2.known j=true
theorem Ev.then{nc:Nat}{forms:Nat→CT}{V:Nat→Int}{p q:Int×On}{on:On}{s:St}{r t:Int×On×St}(a:Ev nc forms V p on s r)(b:Ev nc forms V q p.2 r.2.2 t):(∀i,s.known i=true→t.2.2.known i=true)∧∀j,q.2 j=true→on j=true∨t.2.2.known j=true:=
 ⟨fun i h=>b.mono i (a.mono i h),fun j h=>by
  rcases b.ask j h with h|h
  ·rcases a.ask j h with h|h
   ·exact .inl h
   ·exact .inr (b.mono j h)
  ·exact .inr h⟩
theorem Qcq{nc:Nat}{forms:Nat→CT}{V:Nat→Int}{cell:Nat}{ask:Ask}(G:Good nc forms V cell ask):∀(z:Nat)(T:CT),sizeC T≤z→RightT cell T→∀on s,Inv nc forms V s→Ev nc forms V (evalP V T on) on s (evalT ask T on s)
 |0,.mk k n l,hz,_=>by simp[sizeC]at hz
 |z+1,.mk k n l,hz,hr=>fun on s hi=>by
  rcases hr.inv with⟨rfl,rfl⟩|⟨q,rfl,rfl,hq,rfl⟩|⟨hk,a,b,rfl,ra,rb⟩|⟨rfl,a,b,d,rfl,ra,rb,rd⟩
  ·exact⟨rfl,rfl,hi,fun i h=>h,fun j h=>.inl h⟩
  ·obtain⟨h1,h2,h3,h4⟩:=G q s hq hi;simp only[evalP,evalT,combP,comb,Int.toNat_natCast];refine⟨h1,rfl,h2,h3,fun j hj=>?_⟩;by_cases e:j=q
   ·rw[e];exact .inr h4
   ·exact .inl (by have hj2:upd on q true j=true:=hj;rw[upd_ne e]at hj2;exact hj2)
  ·simp only[sizeC,sizes]at hz;have ia:=Qcq G z a (by omega) ra on s hi;have ib:=Qcq G z b (by omega) rb (evalP V a on).2 (evalT ask a on s).2.2 ia.inv;obtain⟨t1,t2⟩:=ia.then ib
   rcases hk with rfl|rfl
   ·simp only[evalP,QcL,evalT,evals,combP,comb,ia.o];exact⟨by rw[ia.v,ib.v],ib.o,ib.inv,t1,t2⟩
   ·simp only[evalP,QcL,evalT,evals,combP,comb,ia.o];exact⟨by rw[ia.v,ib.v],ib.o,ib.inv,t1,t2⟩
  ·simp only[sizeC,sizes]at hz;have ia:=Qcq G z a (by omega) ra on s hi;simp only[evalP,QcL,evalT,evals,combP,comb,ia.o,ia.v];split
   ·have ib:=Qcq G z b (by omega) rb (evalP V a on).2 (evalT ask a on s).2.2 ia.inv;obtain⟨t1,t2⟩:=ia.then ib
    exact⟨ib.v,ib.o,ib.inv,t1,t2⟩
   ·have ib:=Qcq G z d (by omega) rd (evalP V a on).2 (evalT ask a on s).2.2 ia.inv;obtain⟨t1,t2⟩:=ia.then ib
    exact⟨ib.v,ib.o,ib.inv,t1,t2⟩
theorem Inv.comp{nc:Nat}{forms:Nat→CT}{V:Nat→Int}{s:St}(h:Inv nc forms V s)(l:List Int):Inv nc forms V {s with comp:=l}:=⟨h.lt,h.val,h.st,h.cl⟩
theorem Qb5{nc:Nat}{forms:Nat→CT}{V:Nat→Int}(H:OkF nc forms)(hV:IsV nc forms V):∀f cell,cell≤f→cell≤nc→Good nc forms V cell (Qaj forms f)
 |0,cell,hc,_=>fun j s hj=>by omega
 |f+1,cell,hc,hn=>fun j s hj hi=>by
  have hjn:j<nc:=by omega
  unfold Qaj;by_cases k:s.known j=true
  ·simp only[if_pos k];exact⟨hi.val j k,hi,fun i h=>h,k⟩
  ·simp only[if_neg k];have e:=Qcq (Qb5 H hV f j (by omega) (by omega)) _ (forms j) (Nat.le_refl _) (H.rt j hjn) noneO {s with comp:=s.comp++[(j:Int)]} (hi.comp _);have e':Ev nc forms V (evalP V (forms j) noneO) noneO {s with comp:=s.comp++[(j:Int)]} (evalT (Qaj forms f) (forms j) (fun _=>false) {s with comp:=s.comp++[(j:Int)]}):=e;generalize evalT (Qaj forms f) (forms j) (fun _=>false) {s with comp:=s.comp++[(j:Int)]}=r at e' ⊢;have hv:r.1=V j:=by rw[e'.v,←hV j hjn]
   refine⟨hv,⟨fun c hc=>?_,fun c hc=>?_,fun c hc=>?_,fun c hc q hq=>?_⟩,fun i h=>Qdz (e'.mono i h),upd_self⟩
   ·by_cases cj:c=j
    ·omega
    ·exact e'.inv.lt c (by have h2:upd r.2.2.known j true c=true:=hc;rw[upd_ne cj]at h2;exact h2)
   ·show upd r.2.2.vals j r.1 c=V c;by_cases cj:c=j
    ·rw[cj,upd_self];exact hv
    ·rw[upd_ne cj];exact e'.inv.val c (by have h2:upd r.2.2.known j true c=true:=hc;rw[upd_ne cj]at h2;exact h2)
   ·show upd r.2.2.stands j r.2.1 c=_;by_cases cj:c=j
    ·rw[cj,upd_self];exact e'.o
    ·rw[upd_ne cj];exact e'.inv.st c (by have h2:upd r.2.2.known j true c=true:=hc;rw[upd_ne cj]at h2;exact h2)
   ·show upd r.2.2.known j true q=true;have hq2:upd r.2.2.stands j r.2.1 c q=true:=hq;by_cases cj:c=j
    ·rw[cj,upd_self,e'.o]at hq2;rcases e'.ask q hq2 with h|h
     ·cases h
     ·exact Qdz h
    ·rw[upd_ne cj]at hq2;exact Qdz (e'.inv.cl c (by have h2:upd r.2.2.known j true c=true:=hc;rw[upd_ne cj]at h2;exact h2) q hq2)
structure Left (st:Nat→Nat→Bool)(x:Nat)(kn kn':On):Prop where
 sub:∀i,kn' i=true→kn i=true
 gone:kn' x=false
 cl:∀c,kn' c=true→∀j,st c j=true→j≠x∧(kn j=true→kn' j=true)
theorem Qeg{nc:Nat}(h6:nc≤6){st:Nat→Nat→Bool}:∀f x kn,x<nc→cnt kn+(1-(kn x).toNat)≤f→(∀i,kn i=true→i<nc)→Left st x kn (QaI nc st f x kn)
 |0,x,kn,hx,hc,_=>by
  have h1:=Qlm (kn:=kn) (j:=x) (by omega);have h2:(kn x).toNat≤1:=by cases kn x<;>decide
  omega
 |f+1,x,kn,hx,hc,hk=>by
  have h1:=Qlm (kn:=kn) (j:=x) (by omega);have h2:(kn x).toNat≤1:=by cases kn x<;>decide
  by_cases an:anyK kn=true
  ·rw[Qeh an];have loop:∀n i (k2:On),i+n=nc→(∀j,k2 j=true→upd kn x false j=true)→(∀c,k2 c=true→∀j,st c j=true→(j=x→i≤c)∧(j≠x→kn j=true→k2 j=true))→Left st x kn ((List.range' i n).foldl (stepF nc st f x) k2):=by
    intro n
    induction n with
    |zero =>
     intro i k2 hi hs hcl;refine⟨fun i hi=>?_,?_,fun c hc j hj=>?_⟩
     ·have:=hs i hi;by_cases e:i=x
      ·rw[e,upd_self]at this;cases this
      ·rw[upd_ne e]at this;exact this
     ·cases e:k2 x
      ·exact e
      ·have:=hs x e;rw[upd_self]at this;cases this
     ·obtain⟨a1,a2⟩:=hcl c hc j hj;have hcn:c<nc:=by
       have:=hs c hc;by_cases e:c=x
       ·rw[e,upd_self]at this;cases this
       ·rw[upd_ne e]at this;exact hk c this
      have hne:j≠x:=fun e=>by have:=a1 e;omega
      exact⟨hne,a2 hne⟩
    |succ n ih =>
     intro i k2 hi hs hcl;rw[List.range'_succ,List.foldl_cons];have hsx:∀j,k2 j=true→kn j=true∧j≠x:=fun j hj=>by
      have:=hs j hj;by_cases e:j=x
      ·rw[e,upd_self]at this;cases this
      ·rw[upd_ne e]at this;exact⟨this,e⟩
     by_cases c1:(k2 i&&st i x)=true
     ·have ek:k2 i=true:=by simp at c1;exact c1.1
      have e:stepF nc st f x k2 i=QaI nc st f i k2:=if_pos c1;rw[e];have hcn:cnt k2≤f:=by
       have q:=Qp5 hs;omega
      have lf:=Qeg h6 (st:=st) f i k2 (by omega) (by rw[ek];simpa using hcn) fun j hj=>hk j (hsx j hj).1
      refine ih (i+1) _ (by omega) (fun j hj=>hs j (lf.sub j hj)) fun c hc j hj=>?_
      obtain⟨b1,b2⟩:=lf.cl c hc j hj;obtain⟨a1,a2⟩:=hcl c (lf.sub c hc) j hj;refine⟨fun e=>?_,fun hne hkj=>b2 (a2 hne hkj)⟩;have:=a1 e;have hci:c≠i:=fun e2=>by rw[e2,lf.gone]at hc;cases hc
      omega
     ·have e:stepF nc st f x k2 i=k2:=if_neg c1;rw[e];refine ih (i+1) k2 (by omega) hs fun c hc j hj=>?_
      obtain⟨a1,a2⟩:=hcl c hc j hj;refine⟨fun ex=>?_,a2⟩;have:=a1 ex;have hci:c≠i:=fun e2=>by
       rw[ex,e2]at hj;rw[e2]at hc;exact c1 (by rw[hc,hj];rfl)
      omega
   have:=loop nc 0 (upd kn x false) (by omega) (fun _ h=>h) fun c hc j hj=>⟨fun _=>Nat.zero_le _,fun hne hkj=>by rw[upd_ne hne];exact hkj⟩
   rw[List.range_eq_range'];exact this
  ·have e:QaI nc st (f+1) x kn=kn:=by unfold QaI;rw[if_neg an]
   rw[e];have none:∀i,kn i=false:=fun i=>by
    cases ei:kn i
    ·rfl
    ·have hi:=hk i ei;have:i=0∨i=1∨i=2∨i=3∨i=4∨i=5:=by omega
     exact absurd (by unfold anyK;rcases this with rfl|rfl|rfl|rfl|rfl|rfl<;>simp[ei]) an
   exact⟨fun i h=>h,none x,fun c hc=>by rw[none c]at hc;cases hc⟩
theorem Inv.act{nc:Nat}(h6:nc≤6){forms:Nat→CT}{V:Nat→Int}{s:St}{a:Act}(H:OkF nc forms)(hV:IsV nc forms V)(ha:OkA nc a)(hi:Inv nc forms V s) :
  ∃V',IsV nc (actS nc forms s a).1 V'∧Inv nc (actS nc forms s a).1 V' (actS nc forms s a).2.1∧(a.set=false→V'=V∧(actS nc forms s a).2.2.2=V a.cell.toNat):=by
 have hx:a.cell.toNat<nc:=by have:=ha.lo;have:=ha.hi;omega
 cases es:a.set with
 |true =>
  have H':=H.act (s:=s) ha;have e:actS nc forms s a=(upd forms a.cell.toNat a.term,{s with known:=QaI nc s.stands 7 a.cell.toNat s.known},[],0):=by unfold actS;rw[if_pos es]
  rw[e]at H' ⊢;have lf:=Qeg h6 (st:=s.stands) 7 a.cell.toNat s.known hx (by have:=Qln s.known;omega) hi.lt;have hV':=exV H';generalize a.cell.toNat=x at *;generalize QaI nc s.stands 7 x s.known=kn' at lf;have same:∀n c,c<n→kn' c=true→valP (upd forms x a.term) nc c=V c∧evalP (valP (upd forms x a.term) nc) (upd forms x a.term c) noneO=evalP V (forms c) noneO:=by
   intro n
   induction n with
   |zero=>intro c hc;omega
   |succ n ih =>
    intro c hc hk;have hcx:c≠x:=fun e=>by rw[e,lf.gone]at hk;cases hk
    have hkc:=lf.sub c hk;have hcn:=hi.lt c hkc;have ef:upd forms x a.term c=forms c:=upd_ne hcx;have ee:evalP (valP (upd forms x a.term) nc) (forms c) noneO=evalP V (forms c) noneO:=QaQ _ _ (Nat.le_refl _) (H.rt c hcn) _ fun j hj=>by
     rcases Qc4 _ _ (Nat.le_refl _) (H.rt c hcn) _ _ hj with e|e
     ·cases e
     ·have hst:s.stands c j=true:=by rw[hi.st c hkc];exact hj
      have hkj:=(lf.cl c hk j hst).2 (hi.cl c hkc j hst);exact(ih j (by omega) hkj).1.symm
    refine⟨?_,by rw[ef];exact ee⟩;rw[hV' c hcn];show (evalP _ (upd forms x a.term c) noneO).1=_;rw[ef,ee];exact(hV c hcn).symm
  refine⟨_,hV',⟨fun c hc=>hi.lt c (lf.sub c hc),fun c hc=>?_,fun c hc=>?_,fun c hc j hj=>(lf.cl c hc j hj).2 (hi.cl c (lf.sub c hc) j hj)⟩,fun h=>by cases h⟩
  ·rw[(same (c+1) c (Nat.lt_succ_self _) hc).1];exact hi.val c (lf.sub c hc)
  ·show s.stands c=_;rw[(same (c+1) c (Nat.lt_succ_self _) hc).2];exact hi.st c (lf.sub c hc)
 |false =>
  have e:actS nc forms s a=(forms,(Qaj forms 6 a.cell.toNat {s with comp:=[]}).2,(Qaj forms 6 a.cell.toNat {s with comp:=[]}).2.comp,(Qaj forms 6 a.cell.toNat {s with comp:=[]}).1):=by unfold actS;rw[es];rfl
  rw[e];obtain⟨g1,g2,g3,g4⟩:=Qb5 H hV 6 nc h6 (Nat.le_refl _) a.cell.toNat {s with comp:=[]} hx (hi.comp _);exact⟨V,hV,g2,fun _=>⟨rfl,g1⟩⟩
theorem Inv.none{nc:Nat}{forms:Nat→CT}{V:Nat→Int}{s:St}:Inv nc forms V {s with known:=noneK}:=⟨(fun _ h=>by cases h),(fun _ h=>by cases h),(fun _ h=>by cases h),(fun _ h=>by cases h)⟩
def shown:List Act→List Told→List Int
 |a::as,d::ds=>(if a.set then [] else [d.2])++shown as ds
 |_,_=>[]
theorem Qj5{nc:Nat}(h6:nc≤6):∀(as:List Act)(forms:Nat→CT)(V:Nat→Int)(s s2:St),OkF nc forms→IsV nc forms V→(∀a∈as,OkA nc a)→Inv nc forms V s→shown as (runS nc forms s as)=scrS nc forms s2 as
 | [],_,_,_,_,_,_,_,_=>rfl
 |a::as,forms,V,s,s2,H,hV,ha,hi=>by
  have oa:=ha a (by simp);have ef:∀s s2,(actS nc forms s a).1=(actS nc forms s2 a).1:=fun s s2=>by unfold actS;split<;>rfl
  obtain⟨V1,v1,i1,w1⟩:=Inv.act h6 H hV oa hi;obtain⟨V2,v2,i2,w2⟩:=Inv.act (s:={s2 with known:=noneK}) h6 H hV oa Inv.none;simp only[shown,runS,scrS];have rest:=Qj5 h6 as _ V1 _ (actS nc forms {s2 with known:=noneK} a).2.1 (H.act oa) v1 (fun b hb=>ha b (by simp[hb])) i1;rw[rest,ef s {s2 with known:=noneK}]
  congr 1
  cases es:a.set with
  |true=>rfl
  |false =>
   simp only[Bool.false_eq_true,if_false];rw[(w1 es).2,(w2 es).2]
theorem QeS{nc:Nat}:∀(as:List Act)(forms:Nat→CT)(s:St),(runS nc forms s as).length=as.length
 | [],_,_=>rfl
 |a::as,forms,s=>by simp[runS,QeS as]
theorem fresh{cs:List CT}{as:List Act}(h:Qak cs as=0):shown as (QaC cs as).1=(QaJ cs as).1:=by
 obtain⟨z1,z2,z3,okF,okA⟩:=QbP h;unfold QaC QaJ;rw[if_pos h,if_pos h];exact Qj5 z2 as _ _ s0 s0 okF (exV okF) okA ⟨(fun _ h=>by cases h),(fun _ h=>by cases h),(fun _ h=>by cases h),(fun _ h=>by cases h)⟩
structure RC where
 N:Nat
 lo:Nat
 hb:Nat
 bs:Nat
 bc:Nat
 nc:Nat
def cB(h:AH)(bs b:Nat):Prop:=∃l sp pre anc mv,h.get bs=some (.cells l sp pre anc)∧l[1]? = some mv∧inB mv b
def lB(c:RC)(h:AH)(b:Nat):Prop:=cB h c.bs b∨∃FL sp pre anc i ov,h.get c.bc=some (.cells FL sp pre anc)∧i<c.nc∧FL[i*6+5]? = some ov∧inB ov b
structure RowR (c:RC)(h:AH)(forms:Nat→CT)(s:St)(mv:AV)(i:Nat)(row:List AV):Prop where
 ex:∃(k n L:AV)(vv:Int)(ov:AV)(l:List Int),row=[k,n,L,.bool (s.known i),.int .i64 vv,ov]∧Rep c.N h (forms i) [k,n,L]∧GS c.hb h 6 1 ov (ints l)∧(∀b,inB ov b→¬inB mv b)∧l.length<1000000∧(s.known i=true→vv=s.vals i∧∀j,s.stands i j=true↔(j:Int)∈l)
structure RM (c:RC)(forms:Nat→CT)(s:St)(h:AH):Prop where
 obj:∃sp mv,h.get c.bs=some (.cells [.slop c.bc 0 c.nc 6,mv] sp 0 [])∧GS c.hb h 6 1 mv (ints s.comp) ∧
  ∃FL sp2 pre anc,h.get c.bc=some (.cells FL sp2 pre anc)∧FL.length=c.nc*6∧(∀a∈anc,c.lo≤a∧a<c.hb∧a≠c.bc)∧∀i,i<c.nc→RowR c h forms s mv i ((FL.drop (i*6)).take 6)
 wf:∀b,h.next≤b→h.get b=none
 o1:c.N≤c.bs
 o2:c.bs<c.lo
 o3:c.lo≤c.bc
 o4:c.bc<c.hb
 o5:c.hb≤h.next
structure FrR (c:RC)(h h':AH):Prop where
 next:h.next≤h'.next
 keep:∀b,b<h.next→b≠c.bs→(b<c.lo∨c.hb≤b)→¬lB c h b→h'.get b=h.get b
 comp:∀b,lB c h' b→lB c h b∨h.next≤b
section
variable{c:RC}{forms:Nat→CT}{s:St}{h h1 h2 h':AH}
theorem FrR.refl:FrR c h h:=⟨Nat.le_refl _,fun _ _ _ _ _=>rfl,fun _ h=>.inl h⟩
theorem FrR.trans(a:FrR c h h1)(b:FrR c h1 h2):FrR c h h2:=by
 refine⟨Nat.le_trans a.next b.next,fun x hx h1 h2 h3=>?_,fun x hx=>?_⟩
 ·rw[b.keep x (Nat.lt_of_lt_of_le hx a.next) h1 h2 fun e=>by
   rcases a.comp x e with e|e
   ·exact h3 e
   ·omega,a.keep x hx h1 h2 h3]
 ·rcases b.comp x hx with e|e
  ·exact a.comp x e
  ·exact .inr (Nat.le_trans a.next e)
theorem cB_congr{bs:Nat}(e:h'.get bs=h.get bs){b:Nat}:cB h' bs b↔cB h bs b:=by unfold cB;rw[e]
theorem cB_of{bs:Nat}{l:List AV}{sp:Option Nat}{pre:Nat}{anc:List Nat}{mv:AV}(e:h.get bs=some (.cells l sp pre anc))(e1:l[1]? = some mv){b:Nat}:cB h bs b↔inB mv b:=by
 constructor
 ·rintro⟨l',sp',pre',anc',mv',q1,q2,q3⟩;rw[e]at q1;cases q1;rw[e1]at q2;cases q2;exact q3
 ·exact fun q=>⟨l,sp,pre,anc,mv,e,e1,q⟩
theorem RM.bs_lt(m:RM c forms s h):c.bs<h.next:=by have:=m.o2;have:=m.o3;have:=m.o4;have:=m.o5;omega
theorem RM.bc_lt(m:RM c forms s h):c.bc<h.next:=by have:=m.o4;have:=m.o5;omega
theorem RM.cb(m:RM c forms s h){b:Nat}(hb:cB h c.bs b):c.hb≤b∧b<h.next:=by
 obtain⟨sp,mv,h1,h2,_⟩:=m.obj;exact h2.inB ((cB_of h1 rfl).1 hb)
theorem QpI(e1:h'.get c.bs=h.get c.bs)(e2:h'.get c.bc=h.get c.bc){b:Nat}:lB c h' b↔lB c h b:=by unfold lB cB;rw[e1,e2]
theorem RM.ov(m:RM c forms s h){FL:List AV}{sp:Option Nat}{pre:Nat}{anc:List Nat}{i:Nat}{ov:AV}(e:h.get c.bc=some (.cells FL sp pre anc))(hi:i<c.nc)(h5:FL[i*6+5]? = some ov):∃l,GS c.hb h 6 1 ov (ints l):=by
 obtain⟨_,mv,_,_,FL',_,_,_,h3,h4,_,h6⟩:=m.obj;rw[e]at h3;cases h3;obtain⟨k,n,L,vv,ov',l,e1,_,e3,_⟩:=(h6 i hi).ex;have:((FL.drop (i*6)).take 6)[5]? = some ov':=by rw[e1];rfl
 rw[List.getElem?_take_of_lt (by omega),List.getElem?_drop,h5]at this;cases this;exact⟨l,e3⟩
theorem RM.lb(m:RM c forms s h){b:Nat}(hb:lB c h b):c.hb≤b∧b<h.next:=by
 rcases hb with hb|⟨FL,sp,pre,anc,i,ov,e,hi,h5,hb⟩
 ·exact m.cb hb
 ·obtain⟨l,g⟩:=m.ov e hi h5;exact g.inB hb
theorem RM.low(m:RM c forms s h)(f:FrR c h h'):Low c.N h h':=fun b hb =>
 f.keep b (by have:=m.bs_lt;have:=m.o1;omega) (by have:=m.o1;omega) (.inl (by have:=m.o1;have:=m.o2;omega)) fun e=>by have:=(m.lb e).1;have:=m.o1;have:=m.o2;have:=m.o3;have:=m.o4;omega
structure OwnR (c:RC)(h:AH)(b:Nat)(o:AO):Prop where
 get:h.get b=some o
 lt:b<h.next
 hb:c.hb≤b
 nc:¬lB c h b
theorem OwnR.fr{b:Nat}{o:AO}(w:OwnR c h b o)(m:RM c forms s h)(f:FrR c h h'):OwnR c h' b o:=
 ⟨by rw[f.keep b w.lt (by have:=m.o2;have:=m.o3;have:=m.o4;have:=w.hb;omega) (.inr w.hb) w.nc];exact w.get,Nat.lt_of_lt_of_le w.lt f.next,w.hb,fun e=>by
  rcases f.comp b e with e|e
  ·exact w.nc e
  ·have:=w.lt;omega⟩
theorem RM.keep(m:RM c forms s h)(hn:h.next≤h'.next)(hk:∀b,b<h.next→(b<c.hb∨lB c h b)→h'.get b=h.get b)(wf:∀b,h'.next≤b→h'.get b=none):RM c forms s h':=by
 obtain⟨sp,mv,h1,h2,FL,sp2,pre,anc,h3,h4,h5,h6⟩:=m.obj;have kbs:=hk c.bs m.bs_lt (.inl (by have:=m.o2;have:=m.o3;have:=m.o4;omega));have kbc:=hk c.bc m.bc_lt (.inl m.o4);refine⟨⟨sp,mv,kbs.trans h1,h2.keep hn fun b hb=>hk b (h2.inB hb).2 (.inr (.inl ((cB_of h1 rfl).2 hb))),FL,sp2,pre,anc,kbc.trans h3,h4,h5,fun i hi=>?_⟩,wf,m.o1,m.o2,m.o3,m.o4,Nat.le_trans m.o5 hn⟩;obtain⟨k,n,L,vv,ov,l,e1,e2,e3,e4,e5⟩:=(h6 i hi).ex;have hov:FL[i*6+5]? = some ov:=by
  have:((FL.drop (i*6)).take 6)[5]? = some ov:=by rw[e1];rfl
  rw[List.getElem?_take_of_lt (by omega),List.getElem?_drop]at this;exact this
 exact⟨k,n,L,vv,ov,l,e1,e2.low fun b hb=>hk b (by have:=m.o1;have:=m.bs_lt;omega) (.inl (by have:=m.o1;have:=m.o2;have:=m.o3;have:=m.o4;omega)),e3.keep hn fun b hb=>hk b (e3.inB hb).2 (.inr (.inr ⟨FL,sp2,pre,anc,i,ov,h3,hi,hov,hb⟩)),e4,e5⟩
theorem RM.beside(m:RM c forms s h){S:Nat→Prop}(hS:∀b,S b→c.hb≤b∧¬lB c h b)(hn:h.next≤h'.next)(hk:∀b,b<h.next→¬S b→h'.get b=h.get b)(wf:∀b,h'.next≤b→h'.get b=none) :
  RM c forms s h'∧∀b,lB c h' b↔lB c h b:=by
 have k1:=hk c.bs m.bs_lt fun e=>by have:=(hS _ e).1;have:=m.o2;have:=m.o3;have:=m.o4;omega
 have k2:=hk c.bc m.bc_lt fun e=>by have:=(hS _ e).1;have:=m.o4;omega
 refine⟨m.keep hn (fun b hb hc=>hk b hb fun e=>?_) wf,fun b=>QpI k1 k2⟩;rcases hc with hc|hc
 ·have:=(hS _ e).1;omega
 ·exact(hS _ e).2 hc
theorem RM.up(m:RM c forms s h)(u:Up h h'):RM c forms s h'∧FrR c h h':=
 ⟨m.keep u.next (fun b hb _=>u.keep b hb) u.wf,⟨u.next,fun b hb _ _ _=>u.keep b hb,fun b e=>.inl ((QpI (u.keep _ m.bs_lt) (u.keep _ m.bc_lt)).1 e)⟩⟩
theorem RM.alloc(m:RM c forms s h)(o:AO):RM c forms s (h.alloc o)∧FrR c h (h.alloc o)∧OwnR c (h.alloc o) h.next o:=by
 have u:=(Up.refl m.wf).alloc o;obtain⟨m',f'⟩:=m.up u;exact⟨m',f',Qam h o,Nat.lt_succ_self _,m.o5,fun e=>by
  have:=(m.lb ((QpI (u.keep _ m.bs_lt) (u.keep _ m.bc_lt)).1 e)).2;omega⟩
structure LiR (c:RC)(h:AH)(lo:Nat)(v:AV)(l:List Int):Prop where
 gs:GS lo h 6 1 v (ints l)
 hb:c.hb≤lo
 nc:∀b,inB v b→¬lB c h b
theorem LiR.fr{lo:Nat}{v:AV}{l:List Int}(w:LiR c h lo v l)(m:RM c forms s h)(f:FrR c h h'):LiR c h' lo v l:=
 ⟨w.gs.keep f.next fun b hb=>f.keep b (w.gs.inB hb).2 (by have:=(w.gs.inB hb).1;have:=w.hb;have:=m.o2;have:=m.o3;have:=m.o4;omega) (.inr (Nat.le_trans w.hb (w.gs.inB hb).1)) (w.nc b hb),w.hb,fun b hb e=>by
  rcases f.comp b e with e|e
  ·exact w.nc b hb e
  ·have:=(w.gs.inB hb).2;omega⟩
end
def combL(ask:Ask)(k n:Int)(ds:List (St→Int×List Int×St))(s:St):Int×List Int×St:=
 match k,ds with
 |1,_=>((ask n.toNat s).1,[n],(ask n.toNat s).2)
 |2,[a,b]=>(wrapS (IntKind.i64.wrap ((a s).1+(b (a s).2.2).1)),(a s).2.1++(b (a s).2.2).2.1,(b (a s).2.2).2.2)
 |3,[a,b]=>(wrapS (IntKind.i64.wrap ((a s).1*(b (a s).2.2).1)),(a s).2.1++(b (a s).2.2).2.1,(b (a s).2.2).2.2)
 |4,[a,b,d]=>if (a s).1<0 then ((b (a s).2.2).1,(a s).2.1++(b (a s).2.2).2.1,(b (a s).2.2).2.2) else ((d (a s).2.2).1,(a s).2.1++(d (a s).2.2).2.1,(d (a s).2.2).2.2)
 |_,_=>(n,[],s)
mutual
def evalL(ask:Ask):CT→St→Int×List Int×St
 | .mk k n l=>combL ask k n (QpD ask l)
def QpD(ask:Ask):List CT→List (St→Int×List Int×St)
 | []=>[]
 |t::l=>evalL ask t::QpD ask l
end
theorem QpF{ask:Ask}{cell:Nat}:∀(z:Nat)(T:CT),sizeC T≤z→RightT cell T→∀on s,evalT ask T on s=((evalL ask T s).1,fun j=>on j||decide ((j:Int)∈(evalL ask T s).2.1),(evalL ask T s).2.2)
 |0,.mk k n l,hz,_=>by simp[sizeC]at hz
 |z+1,.mk k n l,hz,hr=>fun on s=>by
  have orr:∀(l1 l2:List Int),(fun j:Nat=>(fun j:Nat=>on j||decide ((j:Int)∈l1)) j||decide ((j:Int)∈l2))=fun j:Nat=>on j||decide ((j:Int)∈l1++l2):=fun l1 l2=>by
   funext j
   simp[Bool.or_assoc]
  rcases hr.inv with⟨rfl,rfl⟩|⟨q,rfl,rfl,hq,rfl⟩|⟨hk,a,b,rfl,ra,rb⟩|⟨rfl,a,b,d,rfl,ra,rb,rd⟩
  ·show (n,on,s)=(n,fun j=>on j||decide ((j:Int)∈([]:List Int)),s);simp
  ·simp only[evalT,evals,comb,evalL,QpD,combL,Int.toNat_natCast]
   congr 2
   funext j
   unfold upd;by_cases e:j=q
   ·subst e;simp
   ·have:¬((j:Int)=(q:Int)):=by omega
    simp[e,this]
  ·simp only[sizeC,sizes]at hz;have ia:=QpF (ask:=ask) z a (by omega) ra on s;have ib:=fun on2 s2=>QpF (ask:=ask) z b (by omega) rb on2 s2
   rcases hk with rfl|rfl<;>simp only[evalT,evals,comb,evalL,QpD,combL,ia,ib,orr]
  ·simp only[sizeC,sizes]at hz;have ia:=QpF (ask:=ask) z a (by omega) ra on s;have ib:=fun on2 s2=>QpF (ask:=ask) z b (by omega) rb on2 s2
   have id:=fun on2 s2=>QpF (ask:=ask) z d (by omega) rd on2 s2
   simp only[evalT,evals,comb,evalL,QpD,combL,ia];split
   ·simp only[ib,orr]
   ·simp only[id,orr]
theorem QpC{ask:Ask}{cell:Nat}:∀(z:Nat)(T:CT),sizeC T≤z→RightT cell T→∀s,(evalL ask T s).2.1.length≤sizeC T
 |0,.mk k n l,hz,_=>by simp[sizeC]at hz
 |z+1,.mk k n l,hz,hr=>fun s=>by
  rcases hr.inv with⟨rfl,rfl⟩|⟨q,rfl,rfl,hq,rfl⟩|⟨hk,a,b,rfl,ra,rb⟩|⟨rfl,a,b,d,rfl,ra,rb,rd⟩
  ·exact Nat.zero_le _
  ·simp[evalL,QpD,combL,sizeC]
  ·simp only[sizeC,sizes]at hz ⊢;have ia:=QpC (ask:=ask) z a (by omega) ra s;have ib:=fun s2=>QpC (ask:=ask) z b (by omega) rb s2
   have:=ib (evalL ask a s).2.2;rcases hk with rfl|rfl<;>simp only[evalL,QpD,combL,List.length_append]<;>omega
  ·simp only[sizeC,sizes]at hz ⊢;have ia:=QpC (ask:=ask) z a (by omega) ra s;have ib:=QpC (ask:=ask) z b (by omega) rb (evalL ask a s).2.2;have id:=QpC (ask:=ask) z d (by omega) rd (evalL ask a s).2.2;simp only[evalL,QpD,combL];split<;>simp only[List.length_append]<;>omega
structure FnM (F:FuncId→Option AFun)(M:Memo):Prop where
 f84:F 84=some fn84
 f52:F 52=some fn52
 f51:F 51=some fn51
 f50:F 50=some fn50
 f24:F 24=some fn24
 f106:F 106=some fn106
 m:∀f∈[84,52,51,50,24,106],∀xs,M f xs=none
section
variable(F:FuncId→Option AFun)(M:Memo)(c:RC)(forms:Nat→CT)
def AskR(f cell:Nat):Prop:=∀(j:Nat) (s:St) (h:AH),j<cell→RM c forms s h→s.comp.length+B f≤100000000000 →
 Ctr F M 52 [.ptr c.bs 0,.int .i64 (j:Int)] h (fun v h'=>v=.int .i64 (Qaj forms f j s).1∧RM c forms (Qaj forms f j s).2 h'∧FrR c h h') (fun _ _=>False)
def EvalR(f:Nat)(T:CT):Prop:=∀(s:St) (h:AH) (row:List AV),RM c forms s h→Rep c.N h T row→s.comp.length+sizeC T*B f≤100000000000 →
 Ctr F M 84 [.ptr c.bs 0,.agg row] h (fun v h'=>∃ov,v=.tuple [.int .i64 (evalL (Qaj forms f) T s).1,ov]∧RM c forms (evalL (Qaj forms f) T s).2.2 h'∧FrR c h h'∧LiR c h' h.next ov (evalL (Qaj forms f) T s).2.1) (fun _ _=>False)
end
section
variable{F:FuncId→Option AFun}{M:Memo}{c:RC}{forms:Nat→CT}{f cell:Nat}
theorem Qp2(hs:∀c,sizeC (forms c)≤12){T:CT}(hr:RightT cell T)(s:St):(evalL (Qaj forms f) T s).2.2.comp.length≤s.comp.length+sizeC T*B f:=by
 have h1:=Qds (QbZ hs f) T (fun _=>false) s;rw[QpF _ T (Nat.le_refl _) hr]at h1;exact h1
theorem same1(x:Int):AO.same (.cells [.int .i64 x] none 0 []) (.cells [.int .i64 x] none 0 [])=true:=by simp[AO.same,AV.same]
theorem num_r(H:FnM F M){n:Int}{l:List CT}:EvalR F M c forms f (.mk 0 n l):=by
 intro s h row m hr hb;refine Ctr.intro H.f84 fun caller cs G hk _=>W_ok 300 _ _ _ ?_
 obtain⟨lv,rows,rfl,hsl,hl,hrr⟩:=hr.inv;obtain⟨m1,f1,w1⟩:=m.alloc (.cells [.int .i64 0,.int .i64 n,lv] (some 79) 0 []);simp only[fn84,b84,Nat.reduceAdd,Nat.reduceSub,wS,wC,boxA,ldP w1.get,rdC,Nat.reduceLeDiff,if_true,decide_true];refine Qag ⟨rfl,rfl,rfl,rfl⟩ H.f84 rfl (hk _ _ ⟨.nilslice,rfl,m1,f1,GL.nil.gs,m.o5,fun b ⟨n,e,hb⟩=>by rcases hb with hb|hb<;>cases hb⟩)
theorem cell_r(H:FnM F M)(ha:AskR F M c forms f cell){q:Nat}(hq:q<cell){l:List CT}:EvalR F M c forms f (.mk 1 (q:Int) l):=by
 intro s h row m hr hb;refine Ctr.intro H.f84 fun caller cs G hk _=>W_ok 300 _ _ _ ?_
 obtain⟨lv,rows,rfl,hsl,hl,hrr⟩:=hr.inv;obtain⟨m1,f1,w1⟩:=m.alloc (.cells [.int .i64 1,.int .i64 (q:Int),lv] (some 79) 0 []);have d0:decide ((1:Int)=0)=false:=rfl;have l1:loadA (h.alloc (.cells [.int .i64 1,.int .i64 (q:Int),lv] (some 79) 0 [])) 1 (.ptr h.next 0)=some [.int .i64 1]:=by rw[ldP w1.get];rfl
 have l2:loadA (h.alloc (.cells [.int .i64 1,.int .i64 (q:Int),lv] (some 79) 0 [])) 1 (.ptr h.next 1)=some [.int .i64 (q:Int)]:=by rw[ldP w1.get];rfl
 simp only[fn84,b84,AOp.makes,Nat.reduceAdd,Nat.reduceSub,wS,wC,boxA,Nat.zero_add,l1,l2,d0,decide_true,List.map_cons,List.map_nil,bs1];rw[wPDm rfl];generalize hh1:h.alloc (.cells [.int .i64 1,.int .i64 (q:Int),lv] (some 79) 0 [])=h1 at m1 f1 w1 l1 l2 ⊢;obtain⟨m2,f2,w2⟩:=m1.alloc (.cells [.int .i64 (q:Int)] none 0 []);have w12:=w1.fr m1 f2;have hn1:h.next≤h1.next:=f1.next
 generalize h1.alloc (.cells [.int .i64 (q:Int)] none 0 [])=h2 at m2 f2 w2 w12 ⊢;simp only[wS,wC,Nat.reduceAdd,AOp.makes];have hbB:s.comp.length+B f≤100000000000:=by
  simp only[sizeC]at hb;have:1*B f≤(1+sizes l)*B f:=Nat.mul_le_mul_right _ (by omega);omega
 refine cMain 300 (H.m 52 (by simp) _) (ha q s h2 hq m2 hbB) fun v h3 hp=>?_
 obtain⟨rfl,m3,f3⟩:=hp;have w13:=w12.fr m2 f3;have w23:=w2.fr m2 f3;refine⟨?_,?_⟩
 ·simp only[List.all_cons,List.all_nil,Bool.and_true,Bool.and_eq_true];exact⟨Qbk rfl rfl rfl rfl (Qnd rfl w13.get rfl) rfl,again_m rfl rfl rfl rfl rfl rfl rfl w23.get (same1 (q:Int))⟩
 ·simp only[wS,wC,Nat.reduceAdd,AOp.makes];have ev:evalL (Qaj forms f) (.mk 1 (q:Int) l) s=((Qaj forms f q s).1,[(q:Int)],(Qaj forms f q s).2):=by
   simp only[evalL,combL,Int.toNat_natCast]
  rw[ev]at hk;refine Qag ⟨rfl,rfl,rfl,rfl⟩ H.f84 rfl (hk _ _ ⟨.slice h1.next 0 1 1,rfl,m3,(f1.trans f2).trans f3,⟨⟨.inr ⟨h1.next,none,rfl,w23.get,hn1,w23.lt⟩,fun r hr=>by
   obtain⟨n,_,rfl⟩:=List.mem_map.1 hr;rfl⟩,m.o5,fun b ⟨n,e,hb⟩=>?_⟩⟩)
  rcases hb with hb|hb<;>cases hb
  exact w23.nc
theorem two_r(H:FnM F M)(hs:∀c,sizeC (forms c)≤12){k n:Int}{l:List CT}{a b:CT}{i:Nat}(iha:EvalR F M c forms f a)(ihb:EvalR F M c forms f b)(ra:RightT cell a)(rb:RightT cell b)(hl1:(l.length=2∨l.length=3)∧i<l.length)(hla:∀h:0<l.length,l[0]=a)(hlb:∀h:i<l.length,l[i]=b)(hi:i=1∨i=2)
  (sz:sizeC a+sizeC b≤sizeC (.mk k n l)∧sizeC a≤12∧sizeC b≤12){s:St}(hkk:k=2∧i=1∨k=3∧i=1∨k=4∧((evalL (Qaj forms f) a s).1<0∧i=1∨¬(evalL (Qaj forms f) a s).1<0∧i=2)){h:AH}{row:List AV}(m:RM c forms s h)(hr:Rep c.N h (.mk k n l) row)(hb:s.comp.length+sizeC (.mk k n l)*B f≤100000000000)
  {r:Int}(hres:r=if k=2 then wrapS (IntKind.i64.wrap ((evalL (Qaj forms f) a s).1+(evalL (Qaj forms f) b (evalL (Qaj forms f) a s).2.2).1)) else if k=3 then wrapS (IntKind.i64.wrap ((evalL (Qaj forms f) a s).1*(evalL (Qaj forms f) b (evalL (Qaj forms f) a s).2.2).1)) else (evalL (Qaj forms f) b (evalL (Qaj forms f) a s).2.2).1) :
  Ctr F M 84 [.ptr c.bs 0,.agg row] h (fun v h'=>∃ov,v=.tuple [.int .i64 r,ov]∧RM c forms (evalL (Qaj forms f) b (evalL (Qaj forms f) a s).2.2).2.2 h'∧FrR c h h'∧LiR c h' h.next ov ((evalL (Qaj forms f) a s).2.1++(evalL (Qaj forms f) b (evalL (Qaj forms f) a s).2.2).2.1)) (fun _ _=>False):=by
 refine Ctr.intro H.f84 fun caller cs G hk=>fun _=>W_ok 300 _ _ _ ?_
 obtain⟨lv,rows,rfl,hsl,hl,hrr⟩:=hr.inv;obtain⟨p0,q0,r0,s0⟩:=hsl.row 0 (by omega);obtain⟨p1,q1,r1,s1⟩:=hsl.row i (by omega);have rra:=hrr 0 (by omega) (by omega);have rrb:=hrr i (by omega) (by omega);rw[hla]at rra;rw[hlb]at rrb;simp only[Int.ofNat_zero,Int.cast_ofNat_Int]at q0;generalize rows[0]=w0 at s0 rra;generalize rows[i]=w1 at s1 rrb;obtain⟨m1,f1,b1⟩:=m.alloc (.cells [.int .i64 k,.int .i64 n,lv] (some 79) 0 []);have kz:decide (k=0)=false:=decide_eq_false (by omega);have ko:decide (k=1)=false:=decide_eq_false (by omega);simp only[fn84,b84,AOp.makes,Nat.reduceAdd,Nat.reduceSub,wS,wC,boxA];generalize hh1:h.alloc (.cells [.int .i64 k,.int .i64 n,lv] (some 79) 0 [])=h1 at m1 f1 b1 ⊢;have l10:loadA h1 1 (.ptr h.next 0)=some [.int .i64 k]:=by rw[ldP b1.get];rfl
 have l12:loadA h1 1 (.ptr h.next 2)=some [lv]:=by rw[ldP b1.get];rfl
 have s0':=(QaH (m.low f1) r0 3).trans s0;simp only[wS,wC,Nat.reduceAdd,Nat.zero_add,l10,l12,kz,ko,q0,s0'];have hm1:sizeC a*B f≤sizeC (.mk k n l)*B f:=Nat.mul_le_mul_right _ (by omega);refine cCall 10 (H.m 84 (by simp) _) (iha s h1 w0 m1 (rra.low (m.low f1)) (by omega)) fun v h2 hp=>?_
 obtain⟨ov1,rfl,m2,f2,li2⟩:=hp;have hlen:=Qp2 hs ra s (f:=f);have hlen2:=QpC (ask:=Qaj forms f) _ a (Nat.le_refl _) ra s;have hlen3:=QpC (ask:=Qaj forms f) _ b (Nat.le_refl _) rb (evalL (Qaj forms f) a s).2.2;have b2:=b1.fr m1 f2;generalize evalL (Qaj forms f) a s=ea at *;have l20:loadA h2 1 (.ptr h.next 0)=some [.int .i64 k]:=by rw[ldP b2.get];rfl
 have l22:loadA h2 1 (.ptr h.next 2)=some [lv]:=by rw[ldP b2.get];rfl
 have s1':=(QaH (m.low (f1.trans f2)) r1 3).trans s1;have bb:ea.2.2.comp.length+sizeC b*B f≤100000000000:=by
  have:sizeC a*B f+sizeC b*B f≤sizeC (.mk k n l)*B f:=by rw[←Nat.add_mul];exact Nat.mul_le_mul_right _ sz.1
  omega
 simp only[wS,wC,Nat.reduceAdd,extT,List.getElem?_cons_zero,List.getElem?_cons_succ,Option.map_some];refine QpW [φ,φ,φ,φ,φ,φ,φ,φ,τ,φ,φ,φ,φ,φ,φ,φ,φ,φ,φ,φ,φ,φ,φ,φ,φ,φ,φ,φ,φ,φ,φ,φ,φ,φ,φ,τ,τ,τ,τ,τ,τ,τ] (fun f h'=>h2=h'∧f 8=.int .i64 (i:Int)) ?_ ?_
 rotate_left
 ·intro next
  rcases hkk with⟨rfl,rfl⟩|⟨rfl,rfl⟩|⟨rfl,⟨hlt,rfl⟩|⟨hlt,rfl⟩⟩
  ·refine W_ok 12 _ _ _ ?_;simp only[wS,wC,Nat.reduceAdd,Nat.zero_add,l20,show decide ((2:Int)=4)=false from rfl];exact next _ _ ⟨rfl,rfl⟩ rfl
  ·refine W_ok 12 _ _ _ ?_;simp only[wS,wC,Nat.reduceAdd,Nat.zero_add,l20,show decide ((3:Int)=4)=false from rfl];exact next _ _ ⟨rfl,rfl⟩ rfl
  ·refine W_ok 12 _ _ _ ?_;have d5:decide ((0:Int)≤ea.1)=false:=decide_eq_false (by omega);simp only[wS,wC,Nat.reduceAdd,Nat.zero_add,l20,decide_true,d5];exact next _ _ ⟨rfl,rfl⟩ rfl
  ·refine W_ok 14 _ _ _ ?_;have d5:decide ((0:Int)≤ea.1)=true:=decide_eq_true (by omega);simp only[wS,wC,Nat.reduceAdd,Nat.zero_add,l20,decide_true,d5];exact next _ _ ⟨rfl,rfl⟩ rfl
 rintro g h2' ⟨rfl,g8⟩;dsimp only[fv,Nat.reduceAdd];refine W_ok 300 _ _ _ ?_;simp only[wS,wC,Nat.reduceAdd,Nat.zero_add,g8,l22,q1,s1'];refine cCall 300 (H.m 84 (by simp) _) (ihb ea.2.2 h2 w1 m2 (rrb.low (m.low (f1.trans f2))) bb) fun v h3 hp=>?_
 obtain⟨ov2,rfl,m3,f3,li3⟩:=hp;have b3:=b2.fr m2 f3;have li23:=li2.fr m2 f3;generalize evalL (Qaj forms f) b ea.2.2=eb at *;have l30:loadA h3 1 (.ptr h.next 0)=some [.int .i64 k]:=by rw[ldP b3.get];rfl
 have hln:(ints ea.2.1).length=ea.2.1.length:=by simp[ints]
 have hln2:(ints eb.2.1).length=eb.2.1.length:=by simp[ints]
 obtain⟨ov4,h4,e4,A4⟩:=Qp0 (bytes:=8) li23.gs m3.wf (Nat.le_trans f2.next f3.next) (x:=ov2) (rs:=ints eb.2.1) (li3.gs.sl (Nat.le_refl _)).lenA (li3.gs.sl (Nat.le_refl _)).els (fun r hr=>by
  obtain⟨n,_,rfl⟩:=List.mem_map.1 hr;exact⟨rfl,rfl⟩) (by decide) (by decide) (by decide) (by omega) (by omega)
 obtain⟨m4,lb4⟩:=m3.beside (S:=inB ov1) (fun b hb=>⟨Nat.le_trans li23.hb (li23.gs.inB hb).1,li23.nc b hb⟩) A4.next (fun b hb hn=>A4.keep b hb hn) A4.wf
 have f13:=(f1.trans f2).trans f3;have f04:FrR c h h4:=⟨Nat.le_trans f13.next A4.next,fun b hb z1 z2 z3=>(A4.keep b (Nat.lt_of_lt_of_le hb f13.next) fun e=>by
  have:=(li23.gs.inB e).1;have:=f1.next
  omega).trans (f13.keep b hb z1 z2 z3),fun b hb=>f13.comp b ((lb4 b).1 hb)⟩
 have hg4:GS h1.next h4 6 1 ov4 (ints (ea.2.1++eb.2.1)):=by
  have:=A4.gs;simpa[ints] using this
 have li4:LiR c h4 h.next ov4 (ea.2.1++eb.2.1):=⟨hg4.mono f1.next,m.o5,fun b hb e=>by
  rcases A4.new with⟨rfl,rfl⟩|hnew
  ·exact li23.nc b hb e
  ·have:=hnew b hb;have:=(m3.lb ((lb4 b).1 e)).2;omega⟩
 have kb4:h4.get h.next=h3.get h.next:=A4.keep _ b3.lt fun e=>by
  have:=(li23.gs.inB e).1;have:=b1.lt;omega
 have l40:loadA h4 1 (.ptr h.next 0)=some [.int .i64 k]:=by rw[ldP (kb4.trans b3.get)];rfl
 by_cases k2:k=2
 ·subst k2;simp only[if_true]at hres;simp only[wS,wC,Nat.reduceAdd,extT,List.getElem?_cons_zero,List.getElem?_cons_succ,Option.map_some,e4,Nat.zero_add,l40,decide_true];refine cCall 300 (H.m 106 (by simp) _) (QpP H.f106 _ h4) fun v h5 hp=>?_
  obtain⟨rfl,e5⟩:=hp;rw[e5];simp only[wS,wC,Nat.reduceAdd];exact Qag ⟨rfl,rfl,rfl,rfl⟩ H.f84 rfl (hk _ _ ⟨ov4,by rw[hres];rfl,m4,f04,li4⟩)
 have d2:decide (k=2)=false:=decide_eq_false k2;by_cases k3:k=3
 ·subst k3;simp only[if_true,show ¬((3:Int)=2) by decide,if_false]at hres;simp only[wS,wC,Nat.reduceAdd,extT,List.getElem?_cons_zero,List.getElem?_cons_succ,Option.map_some,e4,Nat.zero_add,l40,d2,decide_true];refine cCall 300 (H.m 106 (by simp) _) (QpP H.f106 _ h4) fun v h5 hp=>?_
  obtain⟨rfl,e5⟩:=hp;rw[e5];simp only[wS,wC,Nat.reduceAdd];exact Qag ⟨rfl,rfl,rfl,rfl⟩ H.f84 rfl (hk _ _ ⟨ov4,by rw[hres];rfl,m4,f04,li4⟩)
 have d3:decide (k=3)=false:=decide_eq_false k3;simp only[if_neg k2,if_neg k3]at hres;simp only[wS,wC,Nat.reduceAdd,extT,List.getElem?_cons_zero,List.getElem?_cons_succ,Option.map_some,e4,Nat.zero_add,l40,d2,d3];exact Qag ⟨rfl,rfl,rfl,rfl⟩ H.f84 rfl (hk _ _ ⟨ov4,by rw[hres];rfl,m4,f04,li4⟩)
theorem QpM(H:FnM F M)(hs:∀c,sizeC (forms c)≤12)(ha:AskR F M c forms f cell):∀(z:Nat)(T:CT),sizeC T≤z→sizeC T≤12→RightT cell T→EvalR F M c forms f T
 |0,.mk k n l,hz,_,_=>by simp[sizeC]at hz
 |z+1,.mk k n l,hz,h12,hr=>by
  rcases hr.inv with⟨rfl,rfl⟩|⟨q,rfl,rfl,hq,rfl⟩|⟨hk,a,b,rfl,ra,rb⟩|⟨rfl,a,b,d,rfl,ra,rb,rd⟩
  ·exact num_r H
  ·exact cell_r H ha hq
  ·simp only[sizeC,sizes]at hz h12;have ia:=QpM H hs ha z a (by omega) (by omega) ra;have ib:=QpM H hs ha z b (by omega) (by omega) rb;intro s h row m hr hb;have:=two_r (i:=1) H hs ia ib ra rb (k:=k) (n:=n) (l:=[a,b]) (by simp) (fun _=>rfl) (fun _=>rfl) (.inl rfl) ⟨by simp only[sizeC,sizes];omega,by omega,by omega⟩ (s:=s) (by rcases hk with rfl|rfl;exact .inl ⟨rfl,rfl⟩;exact .inr (.inl ⟨rfl,rfl⟩)) m hr hb (r:=(evalL (Qaj forms f) (.mk k n [a,b]) s).1) (by rcases hk with rfl|rfl<;>simp[evalL,QpD,combL]);rcases hk with rfl|rfl<;>simpa only[evalL,QpD,combL] using this
  ·simp only[sizeC,sizes]at hz h12;have ia:=QpM H hs ha z a (by omega) (by omega) ra;have ib:=QpM H hs ha z b (by omega) (by omega) rb;have id:=QpM H hs ha z d (by omega) (by omega) rd;intro s h row m hr hb;by_cases hlt:(evalL (Qaj forms f) a s).1<0
   ·have:=two_r (i:=1) H hs ia ib ra rb (k:=4) (n:=n) (l:=[a,b,d]) (by simp) (fun _=>rfl) (fun _=>rfl) (.inl rfl) ⟨by simp only[sizeC,sizes];omega,by omega,by omega⟩ (s:=s) (.inr (.inr ⟨rfl,.inl ⟨hlt,rfl⟩⟩)) m hr hb (r:=(evalL (Qaj forms f) (.mk 4 n [a,b,d]) s).1) (by simp[evalL,QpD,combL,hlt]);simpa only[evalL,QpD,combL,if_pos hlt] using this
   ·have:=two_r (i:=2) H hs ia id ra rd (k:=4) (n:=n) (l:=[a,b,d]) (by simp) (fun _=>rfl) (fun _=>rfl) (.inr rfl) ⟨by simp only[sizeC,sizes];omega,by omega,by omega⟩ (s:=s) (.inr (.inr ⟨rfl,.inr ⟨hlt,rfl⟩⟩)) m hr hb (r:=(evalL (Qaj forms f) (.mk 4 n [a,b,d]) s).1) (by simp[evalL,QpD,combL,hlt]);simpa only[evalL,QpD,combL,if_neg hlt] using this
end
section
variable{c:RC}{forms:Nat→CT}{s:St}{h h':AH}
theorem ixR{i:Nat}(hi:i<c.nc):Qbs 6 (.slop c.bc 0 c.nc 6) (.int .i64 (i:Int))=some (.ptr c.bc (i*6)):=by
 simp[Qbs,asNat,hi]
structure RdR (c:RC)(forms:Nat→CT)(s:St)(h:AH)(i:Nat)(mv k n L:AV)(vv:Int)(ov:AV)(l:List Int):Prop where
 cells:loadA h 1 (.ptr c.bs 0)=some [.slop c.bc 0 c.nc 6]
 comp:loadA h 1 (.ptr c.bs 1)=some [mv]
 gs:GS c.hb h 6 1 mv (ints s.comp)
 row:loadA h 6 (.ptr c.bc (i*6))=some [k,n,L,.bool (s.known i),.int .i64 vv,ov]
 rep:Rep c.N h (forms i) [k,n,L]
 on:GS c.hb h 6 1 ov (ints l)
 ne:∀b,inB ov b→¬inB mv b
 len:l.length<1000000
 val:s.known i=true→vv=s.vals i∧∀j,s.stands i j=true↔(j:Int)∈l
 ob:∃sp,h.get c.bs=some (.cells [.slop c.bc 0 c.nc 6,mv] sp 0 [])
 lb:∀b,inB ov b→lB c h b
theorem RM.rd(m:RM c forms s h){i:Nat}(hi:i<c.nc):∃mv k n L vv ov l,RdR c forms s h i mv k n L vv ov l:=by
 obtain⟨sp,mv,h1,h2,FL,sp2,pre,anc,h3,h4,h5,h6⟩:=m.obj;obtain⟨k,n,L,vv,ov,l,e1,e2,e3,e4,e5,e6⟩:=(h6 i hi).ex;have hb:i*6+6≤FL.length:=by have:(i+1)*6≤c.nc*6:=Nat.mul_le_mul_right _ hi;omega
 have hov:FL[i*6+5]? = some ov:=by
  have:((FL.drop (i*6)).take 6)[5]? = some ov:=by rw[e1];rfl
  rw[List.getElem?_take_of_lt (by omega),List.getElem?_drop]at this;exact this
 exact⟨mv,k,n,L,vv,ov,l,by rw[ldP h1];rfl,by rw[ldP h1];rfl,h2,by rw[ldP h3,Qnw hb,e1],e2,e3,e4,e5,e6,⟨sp,h1⟩,fun b hb=>.inr ⟨FL,sp2,pre,anc,i,ov,h3,hi,hov,hb⟩⟩
theorem RdR.fld{i:Nat}{mv k n L ov:AV}{vv:Int}{l:List Int}(r:RdR c forms s h i mv k n L vv ov l):loadA h 3 (.ptr c.bc (i*6+0))=some [k,n,L]∧loadA h 1 (.ptr c.bc (i*6+3))=some [.bool (s.known i)]∧loadA h 1 (.ptr c.bc (i*6+4))=some [.int .i64 vv]∧loadA h 1 (.ptr c.bc (i*6+5))=some [ov]:=by
 have q:=fun {off mm:Nat} (ho:off+mm≤6)=>Qb8 r.row (off:=off) (m:=mm) ho
 exact⟨q (off:=0) (mm:=3) (by omega),q (off:=3) (mm:=1) (by omega),q (off:=4) (mm:=1) (by omega),q (off:=5) (mm:=1) (by omega)⟩
theorem RM.putRow(m:RM c forms s h){i:Nat}(hi:i<c.nc){k n L ov mv:AV}{vv:Int}{l:List Int}{T:CT}{s':St}(hrep:Rep c.N h T [k,n,L])(hone:[k,n,L].all AV.one=true)(ho:GS c.hb h 6 1 ov (ints l))(hmv:loadA h 1 (.ptr c.bs 1)=some [mv])(hne:∀b,inB ov b→¬inB mv b)(hl:l.length<1000000)
  (h1:s'.known i=true→vv=s'.vals i∧∀j,s'.stands i j=true↔(j:Int)∈l)(h2:∀j,j≠i→s'.known j=s.known j∧(s'.known j=true→s'.vals j=s.vals j∧s'.stands j=s.stands j))(h3:s'.comp=s.comp){forms':Nat→CT}(hf:forms' i=T∧∀j,j≠i→forms' j=forms j) :
  ∃h',stF h 6 (.ptr c.bc (i*6)) (.agg [k,n,L,.bool (s'.known i),.int .i64 vv,ov])=some (.undef,h')∧RM c forms' s' h'∧h'.next=h.next∧(∀b,b<h.next→(b<c.lo∨c.hb≤b)→h'.get b=h.get b)∧∀b,lB c h' b→lB c h b∨inB ov b:=by
 obtain⟨sp,mv',g1,g2,FL,sp2,pre,anc,g3,g4,g5,g6⟩:=m.obj;have emv:mv'=mv:=by
  rw[ldP g1]at hmv;have:rdC [AV.slop c.bc 0 c.nc 6,mv'] 1 1=some [mv']:=rfl;rw[this]at hmv;simpa using hmv
 subst emv;have hb:i*6+6≤FL.length:=by have:(i+1)*6≤c.nc*6:=Nat.mul_le_mul_right _ hi;omega
 have hall:[k,n,L,.bool (s'.known i),.int .i64 vv,ov].all AV.one=true:=by
  simp only[List.all_cons,List.all_nil,Bool.and_true,Bool.and_eq_true]at hone ⊢;exact⟨hone.1,hone.2.1,hone.2.2,rfl,rfl,ho.one.1⟩
 obtain⟨h',pre',anc',e0,e1,e2,e3,e4⟩:∃h' pre' anc',stF h 6 (.ptr c.bc (i*6)) (.agg [k,n,L,.bool (s'.known i),.int .i64 vv,ov])=some (.undef,h')∧h'.next=h.next∧h'.get c.bc=some (.cells (splice FL (i*6) [k,n,L,.bool (s'.known i),.int .i64 vv,ov]) sp2 pre' anc') ∧
   (∀b,b≠c.bc→b ∉ anc→h'.get b=h.get b)∧(∀b,h.get b=none→b≠c.bc→h'.get b=none)∧∀a∈anc',a∈anc:=by
  have hst:stF h 6 (.ptr c.bc (i*6)) (.agg [k,n,L,.bool (s'.known i),.int .i64 vv,ov])=(h.store c.bc (i*6) [k,n,L,.bool (s'.known i),.int .i64 vv,ov]).map fun h'=>(.undef,h'):=by
   simp[stF,storeA,AV.known,AV.cells]
  rw[hst];simp only[AH.store,g3];rw[if_pos ⟨by simpa using hb,hall⟩];by_cases cp:i*6<pre
  ·rw[if_pos cp];exact⟨_,0,[],rfl,rfl,get_put _ _ _,fun b hb hn=>by rw[Qab _ _ hb];simp[AH.kill,hn],fun b hb hn=>by rw[Qab _ _ hn];simp[AH.kill,hb],fun a ha=>by cases ha⟩
  ·rw[if_neg cp];exact⟨_,pre,anc,rfl,rfl,get_put _ _ _,fun b hb _=>Qab _ _ hb,fun b hb hn=>by rw[Qab _ _ hn];exact hb,fun a ha=>ha⟩
 obtain⟨e4,e5⟩:=e4;have kp:∀b,(b<c.lo∨c.hb≤b)→h'.get b=h.get b:=fun b hb=>e3 b (by have:=m.o3;have:=m.o4;omega) fun hm=>by have:=g5 b hm;omega
 have klow:Low c.N h h':=fun b hb=>kp b (.inl (by have:=m.o1;have:=m.o2;omega))
 have kgs:∀{v:AV} {l:List Int},GS c.hb h 6 1 v (ints l)→GS c.hb h' 6 1 v (ints l):=fun g=>g.keep (by omega) fun b hb=>kp b (.inr (g.inB hb).1)
 have kbs:=kp c.bs (.inl m.o2);have hsl:(splice FL (i*6) [k,n,L,.bool (s'.known i),.int .i64 vv,ov]).length=FL.length:=Qb0 (by simpa using hb);have hget:=fun j=>Qbz (l:=FL) (xs:=[k,n,L,.bool (s'.known i),.int .i64 vv,ov]) (o:=i*6) (by simpa using hb) j
 have rowi:(((splice FL (i*6) [k,n,L,.bool (s'.known i),.int .i64 vv,ov]).drop (i*6)).take 6)=[k,n,L,.bool (s'.known i),.int .i64 vv,ov]:=by
  unfold splice;rw[List.append_assoc,List.drop_append_of_le_length (by simp;omega),List.drop_of_length_le (by rw[List.length_take];exact Nat.min_le_left _ _),List.nil_append,List.take_append_of_le_length (by simp)];rfl
 have rowj:∀j,j<c.nc→j≠i→((splice FL (i*6) [k,n,L,.bool (s'.known i),.int .i64 vv,ov]).drop (j*6)).take 6=(FL.drop (j*6)).take 6:=fun j hj hne=>by
  refine List.ext_getElem? fun q=>?_
  by_cases hq:q<6
  ·rw[List.getElem?_take_of_lt hq,List.getElem?_take_of_lt hq,List.getElem?_drop,List.getElem?_drop,hget];have h6l:[k,n,L,.bool (s'.known i),.int .i64 vv,ov].length=6:=rfl;rcases Nat.lt_or_gt_of_ne hne with hlt|hgt
   ·have:(j+1)*6≤i*6:=Nat.mul_le_mul_right _ hlt;rw[if_pos (by omega)]
   ·have:(i+1)*6≤j*6:=Nat.mul_le_mul_right _ hgt;rw[if_neg (by omega),if_neg (by omega)]
  ·rw[List.getElem?_take_eq_none (by omega),List.getElem?_take_eq_none (by omega)]
 refine⟨h',e0,⟨⟨sp,mv',kbs.trans g1,by rw[h3];exact kgs g2,_,sp2,pre',anc',e2,by rw[hsl];exact g4,fun a ha=>g5 a (e5 a ha),fun j hj=>?_⟩,fun b hb=>?_,m.o1,m.o2,m.o3,m.o4,by rw[e1];exact m.o5⟩,e1,fun b _ hb=>kp b hb,fun b hb=>?_⟩
 ·by_cases ej:j=i
  ·subst ej;rw[rowi];exact⟨k,n,L,vv,ov,l,rfl,by rw[hf.1];exact hrep.low klow,kgs ho,hne,hl,h1⟩
  ·rw[rowj j hj ej];obtain⟨k',n',L',vv',ov',l',q1,q2,q3,q4,q5,q6⟩:=(g6 j hj).ex;obtain⟨z1,z2⟩:=h2 j ej;exact⟨k',n',L',vv',ov',l',by rw[z1];exact q1,by rw[hf.2 j ej];exact q2.low klow,kgs q3,q4,q5,fun hk=>by
    obtain⟨z3,z4⟩:=z2 hk;rw[z3,z4];exact q6 (by rw[←z1];exact hk)⟩
 ·rw[e1]at hb;exact e4 b (m.wf b hb) (by have:=m.bc_lt;omega)
 ·rcases hb with hb|⟨FL',sp',pre2,anc2,j,ov',q1,q2,q3,q4⟩
  ·exact .inl (.inl ((cB_congr kbs).1 hb))
  ·rw[e2]at q1;cases q1;by_cases ej:j=i
   ·subst ej;rw[hget]at q3;rw[if_neg (by omega),if_pos (by simp),show j*6+5-j*6=5 by omega]at q3;have:ov=ov':=by simpa using q3
    subst this;exact .inr q4
   ·have:=rowj j q2 ej;have h5:=congrArg (fun l=>l[5]?) this;simp only[List.getElem?_take_of_lt (show 5<6 by omega),List.getElem?_drop]at h5;exact .inl (.inr ⟨FL,sp2,pre,anc,j,ov',g3,q2,by rw[←h5];exact q3,q4⟩)
theorem RM.app(m:RM c forms s h){mv:AV}{sp:Option Nat}(hg:h.get c.bs=some (.cells [.slop c.bc 0 c.nc 6,mv] sp 0 [])){b':Nat}{j:Int}{sp':Option Nat}(hb':h.get b'=some (.cells [.int .i64 j] sp' 0 []))(hn:s.comp.length≤100000000000) :
  ∃mv' h2,appF h 1 8 6 mv (.slice b' 0 1 1)=some (mv',h2)∧mv'.one=true∧mv'.known=true∧mv'.cells=[mv']∧h2.get c.bs=h.get c.bs∧RM c forms {s with comp:=s.comp++[j]} (h2.put c.bs (.cells [.slop c.bc 0 c.nc 6,mv'] sp 0 []))∧FrR c h (h2.put c.bs (.cells [.slop c.bc 0 c.nc 6,mv'] sp 0 [])):=by
 obtain⟨sp0,mv0,g1,g2,FL,sp2,pre,anc,g3,g4,g5,g6⟩:=m.obj;rw[hg]at g1;cases g1;have hx:Qar h 1 1 (.slice b' 0 1 1)=some [.int .i64 j]:=by
  simp only[Qar,AH.read,AH.cellsAt,hb'];rfl
 obtain⟨mv',h2,e1,A⟩:=Qp0 (bytes:=8) g2 m.wf m.o5 (x:=.slice b' 0 1 1) (rs:=[[.int .i64 j]]) rfl hx (fun r hr=>by rw[List.mem_singleton.1 hr];exact⟨rfl,rfl⟩) (by decide) (by decide) (by decide) (by simp[ints];omega) (by simp);have hin:∀b,inB mv b→c.hb≤b:=fun b hb=>(g2.inB hb).1
 have kk:∀b,b<h.next→¬inB mv b→(h2.put c.bs (.cells [.slop c.bc 0 c.nc 6,mv'] sp 0 [])).get b=if b=c.bs then some (.cells [.slop c.bc 0 c.nc 6,mv'] sp 0 []) else h.get b:=fun b hb hnb=>by
  by_cases e:b=c.bs
  ·rw[e,get_put,if_pos rfl]
  ·rw[Qab _ _ e,if_neg e,A.keep b hb hnb]
 have kbs:h2.get c.bs=h.get c.bs:=A.keep _ m.bs_lt fun e=>by have:=hin _ e;have:=m.o2;have:=m.o3;have:=m.o4;omega
 have hnb:∀b,b<c.hb→¬inB mv b:=fun b hb e=>by have:=hin b e;omega
 have hnew:∀b,inB mv' b→inB mv b∨h.next≤b:=fun b hb=>by
  rcases A.new with⟨rfl,rfl⟩|hnw
  ·exact .inl hb
  ·exact .inr (hnw b hb)
 have gmv:GS c.hb h2 6 1 mv' (ints (s.comp++[j])):=by
  have:=A.gs;simpa[ints] using this
 have kbc:(h2.put c.bs (.cells [.slop c.bc 0 c.nc 6,mv'] sp 0 [])).get c.bc=h.get c.bc:=by
  rw[kk c.bc m.bc_lt (hnb _ m.o4),if_neg (by have:=m.o2;have:=m.o3;omega)]
 have hnx:(h2.put c.bs (.cells [.slop c.bc 0 c.nc 6,mv'] sp 0 [])).next=h2.next:=rfl
 refine⟨mv',h2,e1,gmv.one.1,gmv.one.2.1,gmv.one.2.2,kbs,⟨⟨sp,mv',get_put _ _ _,gmv.keep (Nat.le_refl _) fun b hb=>Qab _ _ (by have:=(gmv.inB hb).1;have:=m.o2;have:=m.o3;have:=m.o4;omega),FL,sp2,pre,anc,kbc.trans g3,g4,g5,fun i hi=>?_⟩,fun b hb=>?_,m.o1,m.o2,m.o3,m.o4,Nat.le_trans m.o5 A.next⟩,⟨A.next,fun b hb z1 z2 z3=>?_,fun b hb=>?_⟩⟩
 ·obtain⟨k',n',L',vv',ov',l',q1,q2,q3,q4,q5,q6⟩:=(g6 i hi).ex;refine⟨k',n',L',vv',ov',l',q1,q2.low fun b hb=>?_,q3.keep A.next fun b hb=>?_,fun b hb e=>?_,q5,q6⟩
  ·rw[kk b (by have:=m.o1;have:=m.bs_lt;omega) (hnb b (by have:=m.o1;have:=m.o2;have:=m.o3;have:=m.o4;omega)),if_neg (by have:=m.o1;omega)]
  ·rw[kk b (q3.inB hb).2 (q4 b hb),if_neg (by have:=(q3.inB hb).1;have:=m.o2;have:=m.o3;have:=m.o4;omega)]
  ·rcases hnew b e with e|e
   ·exact q4 b hb e
   ·have:=(q3.inB hb).2;omega
 ·have hb2:h2.next≤b:=hb
  rw[Qab _ _ (by have:=m.bs_lt;have:=A.next;omega)];exact A.wf b hb2
 ·rw[kk b hb (fun e=>z3 (.inl ((cB_of hg rfl).2 e))),if_neg z1]
 ·rcases hb with hb|⟨FL',sp3,pre2,anc2,i,ov',q1,q2,q3,q4⟩
  ·rcases hnew b ((cB_of (get_put h2 c.bs _) rfl).1 hb) with e|e
   ·exact .inl (.inl ((cB_of hg rfl).2 e))
   ·exact .inr e
  ·rw[kbc]at q1;exact .inl (.inr ⟨FL',sp3,pre2,anc2,i,ov',q1,q2,q3,q4⟩)
end
end Go.Ab.L26
namespace Go.Ab
open Go
theorem QpE(h:AH)(o o':AO):(h.alloc o).put h.next o'=h.alloc o':=by
 unfold AH.alloc AH.put;simp only[AH.mk.injEq,and_true]
 funext x
 split<;>rfl
namespace L26
section
variable{F:FuncId→Option AFun}{M:Memo}{c:RC}{forms:Nat→CT}
theorem FrR.put{h0 h h':AH}(f:FrR c h0 h)(hn:h'.next=h.next)(hk:∀b,b<h.next→(b<c.lo∨c.hb≤b)→h'.get b=h.get b){ov:AV}(hl:∀b,lB c h' b→lB c h b∨inB ov b)(ho:∀b,inB ov b→lB c h b∨h0.next≤b):FrR c h0 h':=
 ⟨by rw[hn];exact f.next,fun b hb z1 z2 z3=>(hk b (Nat.lt_of_lt_of_le hb f.next) z2).trans (f.keep b hb z1 z2 z3),fun b hb=>by
  rcases hl b hb with e|e
  ·exact f.comp b e
  ·rcases ho b e with e|e
   ·exact f.comp b e
   ·exact .inr e⟩
theorem ask_r(H:FnM F M)(hs:∀c,sizeC (forms c)≤12)(hR:∀i,i<c.nc→RightT i (forms i)):∀f cell,cell≤f→cell≤c.nc→AskR F M c forms f cell
 |0,cell,hc,_=>fun j s h hj=>by omega
 |f+1,cell,hc,hn=>fun j s h hj m hb=>by
  have hjn:j<c.nc:=by omega
  refine Ctr.intro H.f52 fun caller cs G hk _=>W_ok 300 _ _ _ ?_
  obtain⟨mv,k,n,L,vv,ov,l,r⟩:=m.rd hjn;obtain⟨r0,r3,r4,r5⟩:=r.fld;have ix:=ixR hjn;by_cases kn:s.known j=true
  ·rw[kn]at r3;have ev:Qaj forms (f+1) j s=(s.vals j,s):=by unfold Qaj;rw[if_pos kn]
   rw[ev]at hk;simp only[fn52,b52,Nat.reduceAdd,Nat.reduceSub,wS,wC,Nat.zero_add,r.cells,ix,r3,r4];exact Qag ⟨rfl,rfl,rfl,rfl⟩ H.f52 rfl (hk (.int .i64 vv) _ ⟨congrArg _ (r.val kn).1,m,.refl⟩)
  ·have kf:s.known j=false:=Bool.eq_false_iff.2 kn;rw[kf]at r3;simp only[fn52,b52,Nat.reduceAdd,Nat.reduceSub,wS,wC,Nat.zero_add,r.cells,r.comp,ix,r3,List.map_cons,List.map_nil,bs1];obtain⟨m1,f1,w1⟩:=m.alloc (.cells [.int .i64 (j:Int)] none 0 []);obtain⟨sp,g0⟩:=r.ob;have g1:=(Qad h (.cells [.int .i64 (j:Int)] none 0 []) m.bs_lt).trans g0;generalize hh1:h.alloc (.cells [.int .i64 (j:Int)] none 0 [])=h1 at m1 f1 w1 g1 ⊢;have hB:B (f+1)=1+12*B f:=rfl;obtain⟨mv',h2,e2,o1,o2,o3,kb,m3,f3⟩:=m1.app g1 w1.get (by omega);have st:=stE (v:=mv') (vs:=[mv']) (m:=1) (o:=1) (kb.trans g1) (by simp) o2 o3 rfl (by simp[o1]);have hsp:splice [.slop c.bc 0 c.nc 6,mv] 1 [mv']=[.slop c.bc 0 c.nc 6,mv']:=rfl;simp only[wS,wC,Nat.reduceAdd,Nat.zero_add,e2,st];rw[hsp];generalize h2.put c.bs (.cells [.slop c.bc 0 c.nc 6,mv'] sp 0 [])=h3 at m3 f3 ⊢;obtain⟨mv3,k3,n3,L3,vv3,ov3,l3,r3'⟩:=m3.rd hjn;obtain⟨q0,_,_,_⟩:=r3'.fld;simp only[wS,wC,Nat.reduceAdd,Nat.zero_add,r3'.cells,ix,q0];have h12:=hs j;have hm:sizeC (forms j)*B f≤12*B f:=Nat.mul_le_mul_right _ h12;have hrt:=hR j hjn;refine cCall 300 (H.m 84 (by simp) _) (QpM H hs (ask_r H hs hR f j (by omega) (by omega)) _ (forms j) (Nat.le_refl _) h12 hrt _ h3 _ m3 r3'.rep (by simp only[List.length_append,List.length_singleton];omega)) fun v h4 hp=>?_
   obtain⟨ov4,rfl,m4,f4,li4⟩:=hp;have eT:=QpF (ask:=Qaj forms f) _ (forms j) (Nat.le_refl _) hrt (fun _=>false) {s with comp:=s.comp++[(j:Int)]};have hlen:=QpC (ask:=Qaj forms f) _ (forms j) (Nat.le_refl _) hrt {s with comp:=s.comp++[(j:Int)]};have ev:Qaj forms (f+1) j s=((evalL (Qaj forms f) (forms j) {s with comp:=s.comp++[(j:Int)]}).1,{(evalL (Qaj forms f) (forms j) {s with comp:=s.comp++[(j:Int)]}).2.2 with
     vals:=upd (evalL (Qaj forms f) (forms j) {s with comp:=s.comp++[(j:Int)]}).2.2.vals j (evalL (Qaj forms f) (forms j) {s with comp:=s.comp++[(j:Int)]}).1,known:=upd (evalL (Qaj forms f) (forms j) {s with comp:=s.comp++[(j:Int)]}).2.2.known j true,
     stands:=upd (evalL (Qaj forms f) (forms j) {s with comp:=s.comp++[(j:Int)]}).2.2.stands j fun i=>false||decide ((i:Int)∈(evalL (Qaj forms f) (forms j) {s with comp:=s.comp++[(j:Int)]}).2.1)}):=by
    rw[Qaj,if_neg kn];rw[eT]
   rw[ev]at hk;generalize evalL (Qaj forms f) (forms j) {s with comp:=s.comp++[(j:Int)]}=ea at m4 li4 hk hlen ⊢;obtain⟨mv5,k5,n5,L5,vv5,ov5,l5,r5'⟩:=m4.rd hjn;have lone:[k5,n5,L5].all AV.one=true:=by
    obtain⟨_,_,_,e,o⟩:=rep3 r5'.rep;exact o
   have f04:=(f1.trans f3).trans f4;simp only[wS,wC,Nat.reduceAdd,Nat.zero_add,extT,List.getElem?_cons_zero,List.getElem?_cons_succ,Option.map_some,r5'.cells,ix,r5'.row,alE];have st1:∀D:List AV,D.length=6→D.all AV.one=true→stF (h4.alloc (.cells [.int .i64 0,.int .i64 0,.nilslice,.bool false,.int .i64 0,.nilslice] (some 217) 0 [])) 6 (.ptr h4.next 0) (.agg D)=some (.undef,h4.alloc (.cells D (some 217) 0 [])):=fun D hl ho=>by
    rw[stE (v:=.agg D) (vs:=D) (l:=[.int .i64 0,.int .i64 0,.nilslice,.bool false,.int .i64 0,.nilslice]) (m:=6) (o:=0) (Qam _ _) (by simp) rfl rfl hl ho,QpE];have e:splice [.int .i64 0,.int .i64 0,.nilslice,.bool false,.int .i64 0,.nilslice] 0 D=D:=by
     unfold splice;simp[hl]
    rw[e]
   have st2:∀(D:List AV) (o:Nat) (v:AV),o+1≤D.length→v.one=true→v.known=true→v.cells=[v]→stF (h4.alloc (.cells D (some 217) 0 [])) 1 (.ptr h4.next o) v=some (.undef,h4.alloc (.cells (splice D o [v]) (some 217) 0 [])):=fun D o v hl ho hk hc=>by
    rw[stE (v:=v) (vs:=[v]) (l:=D) (m:=1) (o:=o) (Qam _ _) hl hk hc rfl (by simp[ho]),QpE]
   have hone5:[k5,n5,L5,.bool (ea.2.2.known j),.int .i64 vv5,ov5].all AV.one=true:=by
    simp only[List.all_cons,List.all_nil,Bool.and_true,Bool.and_eq_true]at lone ⊢;exact⟨lone.1,lone.2.1,lone.2.2,rfl,rfl,r5'.on.one.1⟩
   simp only[wS,wC,Nat.reduceAdd,Nat.zero_add,st1 _ rfl hone5];rw[st2 _ 3 (.bool true) (by simp) rfl rfl rfl];simp only[wS,wC,Nat.reduceAdd,Nat.zero_add];rw[show splice [k5,n5,L5,.bool (ea.2.2.known j),.int .i64 vv5,ov5] 3 [.bool true]=[k5,n5,L5,.bool true,.int .i64 vv5,ov5] from rfl,st2 _ 4 (.int .i64 ea.1) (by simp) rfl rfl rfl];simp only[wS,wC,Nat.reduceAdd,Nat.zero_add];rw[show splice [k5,n5,L5,.bool true,.int .i64 vv5,ov5] 4 [.int .i64 ea.1]=[k5,n5,L5,.bool true,.int .i64 ea.1,ov5] from rfl,st2 _ 5 ov4 (by simp) li4.gs.one.1 li4.gs.one.2.1 li4.gs.one.2.2];rw[show splice [k5,n5,L5,.bool true,.int .i64 ea.1,ov5] 5 [ov4]=[k5,n5,L5,.bool true,.int .i64 ea.1,ov4] from rfl];obtain⟨m6,f6,w6⟩:=m4.alloc (.cells [k5,n5,L5,.bool true,.int .i64 ea.1,ov4] (some 217) 0 []);have li6:=li4.fr m4 f6;generalize hh6:h4.alloc (.cells [k5,n5,L5,.bool true,.int .i64 ea.1,ov4] (some 217) 0 [])=h6 at m6 f6 w6 li6 ⊢;obtain⟨mv7,k7,n7,L7,vv7,ov7,l7,r7⟩:=m6.rd hjn;have l6:loadA h6 6 (.ptr h4.next 0)=some [k5,n5,L5,.bool true,.int .i64 ea.1,ov4]:=by rw[ldP w6.get];rfl
   have hlow:Low c.N h4 h6:=m4.low f6;have hmv:loadA h6 1 (.ptr c.bs 1)=some [mv7]:=r7.comp;obtain⟨sp7,g7⟩:=r7.ob;obtain⟨h8,e8,m8,n8,k8,lb8⟩:=m6.putRow (s':={ea.2.2 with vals:=upd ea.2.2.vals j ea.1,known:=upd ea.2.2.known j true,stands:=upd ea.2.2.stands j fun i=>false||decide ((i:Int)∈ea.2.1)}) (T:=forms j) (forms':=forms) hjn (r5'.rep.low hlow) lone (li6.gs.lift fun b hb=>Nat.le_trans li6.hb (li6.gs.inB hb).1) (vv:=ea.1) hmv
    (fun b hb e=>li6.nc b hb (.inl ((cB_of g7 rfl).2 e))) (by omega) (fun _=>⟨upd_self.symm,fun i=>by
     show upd ea.2.2.stands j _ j i=true↔_;rw[upd_self];simp⟩) (fun i hi=>⟨upd_ne hi,fun _=>⟨upd_ne hi,upd_ne hi⟩⟩) rfl ⟨rfl,fun _ _=>rfl⟩
   have e8':stF h6 6 (.ptr c.bc (j*6)) (.agg [k5,n5,L5,.bool true,.int .i64 ea.1,ov4])=some (.undef,h8):=by
    have:upd ea.2.2.known j true j=true:=upd_self;simpa only[this] using e8
   simp only[wS,wC,AOp.makes,Nat.reduceAdd,Nat.zero_add,r7.cells,ix,l6,e8'];have f06:=f04.trans f6;exact Qag ⟨rfl,rfl,rfl,rfl⟩ H.f52 rfl (hk _ _ ⟨rfl,m8,f06.put n8 k8 lb8 fun b hb=>.inr (Nat.le_trans (f1.trans f3).next (li6.gs.inB hb).1)⟩)
end
end L26
end Go.Ab
namespace Go.Ab.L26
open Go Go.Ab
theorem QpS{nc:Nat}(h6:nc≤6){st:Nat→Nat→Bool}{f x:Nat}{kn:On}(hk:∀i,kn i=true→i<nc):QaI nc st (f+1) x kn=(List.range nc).foldl (stepF nc st f x) (upd kn x false):=by
 by_cases an:anyK kn=true
 ·exact Qeh an
 ·have none:∀i,kn i=false:=fun i=>by
   cases ei:kn i
   ·rfl
   ·have hi:=hk i ei;have:i=0∨i=1∨i=2∨i=3∨i=4∨i=5:=by omega
    exact absurd (by unfold anyK;rcases this with rfl|rfl|rfl|rfl|rfl|rfl<;>simp[ei]) an
  have e:QaI nc st (f+1) x kn=kn:=by unfold QaI;rw[if_neg an]
  have e2:upd kn x false=kn:=funext fun i=>by
   by_cases e:i=x
   ·rw[e,upd_self,none]
   ·rw[upd_ne e]
  rw[e,e2];have:∀l:List Nat,l.foldl (stepF nc st f x) kn=kn:=fun l=>by
   induction l with
   |nil=>rfl
   |cons i l ih =>
    rw[List.foldl_cons];have:stepF nc st f x kn i=kn:=by unfold stepF;rw[none i];rfl
    rw[this,ih]
  exact(this _).symm
section
variable(F:FuncId→Option AFun)(M:Memo)(c:RC)(forms:Nat→CT)
def ForgR(f:Nat):Prop:=∀(s:St) (h:AH) (x:Nat),x<c.nc→RM c forms s h→(∀i,s.known i=true→i<c.nc)→cnt s.known+(1-(s.known x).toNat)≤f →
 Ctr F M 51 [.ptr c.bs 0,.int .i64 (x:Int)] h (fun _ h'=>RM c forms {s with known:=QaI c.nc s.stands f x s.known} h'∧FrR c h h') (fun _ _=>False)
end
section
variable{F:FuncId→Option AFun}{M:Memo}{c:RC}{forms:Nat→CT}
theorem QpO(H:FnM F M)(h6:c.nc≤6):∀f,ForgR F M c forms f
 |0=>fun s h x hx m hk hc=>by
  have h1:=Qlm (kn:=s.known) (j:=x) (by omega);have h2:(s.known x).toNat≤1:=by cases s.known x<;>decide
  omega
 |f+1=>fun s h x hx m hkn hc=>by
  refine Ctr.intro H.f51 fun caller cs G hk _=>W_ok 300 _ _ _ ?_
  obtain⟨mv,k,n,L,vv,ov,l,r⟩:=m.rd hx;have ix:=ixR hx;have lone:[k,n,L].all AV.one=true:=by
   obtain⟨_,_,_,e,o⟩:=rep3 r.rep;exact o
  simp only[fn51,b51,Nat.reduceAdd,Nat.reduceSub,wS,wC,Nat.zero_add,r.cells,ix,r.row,alE];have st1:∀D:List AV,D.length=6→D.all AV.one=true→stF (h.alloc (.cells [.int .i64 0,.int .i64 0,.nilslice,.bool false,.int .i64 0,.nilslice] (some 217) 0 [])) 6 (.ptr h.next 0) (.agg D)=some (.undef,h.alloc (.cells D (some 217) 0 [])):=fun D hl ho=>by
   rw[stE (v:=.agg D) (vs:=D) (l:=[.int .i64 0,.int .i64 0,.nilslice,.bool false,.int .i64 0,.nilslice]) (m:=6) (o:=0) (Qam _ _) (by simp) rfl rfl hl ho,QpE];have e:splice [.int .i64 0,.int .i64 0,.nilslice,.bool false,.int .i64 0,.nilslice] 0 D=D:=by
    unfold splice;simp[hl]
   rw[e]
  have st2:∀(D:List AV) (o:Nat) (v:AV),o+1≤D.length→v.one=true→v.known=true→v.cells=[v]→stF (h.alloc (.cells D (some 217) 0 [])) 1 (.ptr h.next o) v=some (.undef,h.alloc (.cells (splice D o [v]) (some 217) 0 [])):=fun D o v hl ho hk hc=>by
   rw[stE (v:=v) (vs:=[v]) (l:=D) (m:=1) (o:=o) (Qam _ _) hl hk hc rfl (by simp[ho]),QpE]
  have hone5:[k,n,L,.bool (s.known x),.int .i64 vv,ov].all AV.one=true:=by
   simp only[List.all_cons,List.all_nil,Bool.and_true,Bool.and_eq_true]at lone ⊢;exact⟨lone.1,lone.2.1,lone.2.2,rfl,rfl,r.on.one.1⟩
  simp only[wS,wC,Nat.reduceAdd,Nat.zero_add,st1 _ rfl hone5];rw[st2 _ 3 (.bool false) (by simp) rfl rfl rfl];rw[show splice [k,n,L,.bool (s.known x),.int .i64 vv,ov] 3 [.bool false]=[k,n,L,.bool false,.int .i64 vv,ov] from rfl];obtain⟨m1,f1,w1⟩:=m.alloc (.cells [k,n,L,.bool false,.int .i64 vv,ov] (some 217) 0 []);have hrep1:=r.rep.low (m.low f1);obtain⟨sp0,g0⟩:=r.ob;have u1:=(Up.refl m.wf).alloc (.cells [k,n,L,.bool false,.int .i64 vv,ov] (some 217) 0 []);have on1:=r.on.up u1;have cm1:loadA (h.alloc (.cells [k,n,L,.bool false,.int .i64 vv,ov] (some 217) 0 [])) 1 (.ptr c.bs 1)=some [mv]:=by rw[ldP ((u1.keep _ m.bs_lt).trans g0)];rfl
  have lb1:∀b,inB ov b→lB c (h.alloc (.cells [k,n,L,.bool false,.int .i64 vv,ov] (some 217) 0 [])) b:=fun b hb=>(QpI (u1.keep _ m.bs_lt) (u1.keep _ m.bc_lt)).2 (r.lb b hb)
  generalize hh1:h.alloc (.cells [k,n,L,.bool false,.int .i64 vv,ov] (some 217) 0 [])=h1 at m1 f1 w1 hrep1 on1 cm1 lb1 ⊢;obtain⟨h2,e2,m2,n2,k2,lb2⟩:=m1.putRow (s':={s with known:=upd s.known x false}) (T:=forms x) (forms':=forms) hx hrep1 lone on1 (vv:=vv) cm1 r.ne r.len (fun e=>by
    have e':upd s.known x false x=true:=e;rw[upd_self]at e';cases e') (fun i hi=>⟨upd_ne hi,fun _=>⟨rfl,rfl⟩⟩) rfl ⟨rfl,fun _ _=>rfl⟩
  have f2:FrR c h h2:=f1.put n2 k2 lb2 fun b hb=>.inl (lb1 b hb)
  have e2':stF h1 6 (.ptr c.bc (x*6)) (.agg [k,n,L,.bool false,.int .i64 vv,ov])=some (.undef,h2):=by
   have:upd s.known x false x=false:=upd_self;simpa only[this] using e2
  have l1:loadA h1 6 (.ptr h.next 0)=some [k,n,L,.bool false,.int .i64 vv,ov]:=by rw[ldP w1.get];rfl
  obtain⟨mv1,_,_,_,_,_,_,r1⟩:=m1.rd hx;simp only[wS,wC,AOp.makes,Nat.reduceAdd,Nat.zero_add,r1.cells,ix,l1,e2'];have efold:=QpS h6 (st:=s.stands) (f:=f) (x:=x) hkn;rw[List.range_eq_range']at efold;have hc1:=Qlm (kn:=s.known) (j:=x) (by omega);have hc2:(s.known x).toNat≤1:=by cases s.known x<;>decide
  refine Qfi [φ,φ,φ,φ,φ,τ,τ,τ,φ,φ,φ,φ,φ,φ,φ,φ,φ,φ,φ,φ,φ,φ,φ,τ,τ,τ,τ,τ,τ,τ,τ,τ,τ,τ,τ,τ,τ,τ,τ,τ,τ,τ,τ,τ,τ,τ,τ,τ,τ,τ,τ,τ,τ,τ,τ,τ,τ,τ,τ,τ,τ,τ,τ,τ,τ,τ,τ,τ,τ,τ,τ,τ,τ,τ,τ] (fun mm g h'=>∃(i:Nat) (kn:On),mm=c.nc-i∧i≤c.nc∧RM c forms {s with known:=kn} h'∧FrR c h h'∧(List.range' i (c.nc-i)).foldl (stepF c.nc s.stands f x) kn=QaI c.nc s.stands (f+1) x s.known∧(∀j,kn j=true→upd s.known x false j=true)∧g 5=.int .i64 (i:Int)) (c.nc-0) ⟨0,upd s.known x false,rfl,Nat.zero_le _,m2,f2,efold.symm,fun _ h=>h,rfl⟩ ?_;rintro mm g h' ⟨i,kn,rfl,hi,m3,f3,hf3,hs3,g5⟩ ih;dsimp only[fv,Nat.reduceAdd];refine W_ok 300 _ _ _ ?_;by_cases ci:i<c.nc
  ·have hd:decide ((i:Int)<(c.nc:Int))=true:=decide_eq_true (by omega);obtain⟨mv3,k3,n3,L3,vv3,ov3,l3,r3⟩:=m3.rd ci;have ixi:=ixR ci;obtain⟨z0,z3,z4,z5⟩:=r3.fld;have sl3:=r3.on.sl (Nat.le_refl _);have ll3:lenS ov3=some l3.length:=by rw[sl3.len];simp[ints]
   have hup:IntKind.i64.wrap ((i:Int)+1)=((i+1:Nat):Int):=QaW (by omega);simp only[wS,wC,Nat.reduceAdd,Nat.zero_add,g5,r3.cells,lenSO,hd];refine Qfi [φ,φ,φ,φ,φ,φ,τ,τ,φ,φ,φ,φ,φ,φ,φ,φ,φ,φ,φ,φ,φ,φ,φ,φ,φ,φ,φ,φ,φ,φ,φ,φ,τ,τ,τ,τ,τ,τ,τ,τ,τ,τ,τ,τ,τ,τ,τ,τ,τ,τ,τ,τ,τ,τ,τ,τ,τ,τ,τ,τ,τ] (fun mm g h2=>∃q:Nat,mm=l3.length-q∧q≤l3.length∧h'=h2∧g 7=.int .i64 (q:Int)∧g 6=.bool (decide ((x:Int)∈l3.take q))) (l3.length-0) ⟨0,rfl,Nat.zero_le _,rfl,rfl,by simp[at']⟩ ?_;rintro mm g2 h2' ⟨q,rfl,hq,rfl,g7,g6⟩ ih2;dsimp only[fv,Nat.reduceAdd];refine W_ok 300 _ _ _ ?_;by_cases cq:q<l3.length
   ·have hd2:decide ((q:Int)<(l3.length:Int))=true:=decide_eq_true (by omega);obtain⟨p,p1,_,p3⟩:=sl3.row q (by simpa[ints] using cq);have p3':loadA h' 1 p=some [.int .i64 l3[q]]:=by simpa[ints] using p3
    have hup2:IntKind.i64.wrap ((q:Int)+1)=((q+1:Nat):Int):=QaW (by have:=r3.len;omega);have et:l3.take (q+1)=l3.take q++[l3[q]]:=by rw[List.take_succ,gE cq];rfl
    by_cases cm:(x:Int)∈l3.take q
    ·have e1:decide ((x:Int)∈l3.take q)=true:=decide_eq_true cm;rw[e1]at g6;simp only[wS,wC,Nat.reduceAdd,Nat.zero_add,g5,g6,g7,r3.cells,ixi,z5,ll3,hd2,hup2];refine ih2 _ _ _ (by omega) ⟨q+1,rfl,cq,rfl,rfl,?_⟩ rfl;show AV.bool true=_;rw[decide_eq_true (by rw[et];exact List.mem_append_left _ cm)]
    ·have e1:decide ((x:Int)∈l3.take q)=false:=decide_eq_false cm;rw[e1]at g6;simp only[wS,wC,Nat.reduceAdd,Nat.zero_add,g5,g6,g7,r3.cells,ixi,z5,ll3,hd2,hup2,p1,p3'];refine ih2 _ _ _ (by omega) ⟨q+1,rfl,cq,rfl,rfl,?_⟩ rfl;show AV.bool (decide (l3[q]=(x:Int)))=_
     congr 1
     apply decide_eq_decide.2;rw[et];simp only[List.mem_append,List.mem_singleton];exact⟨fun e=>.inr e.symm,fun e=>(e.resolve_left cm).symm⟩
   ·have hd2:decide ((q:Int)<(l3.length:Int))=false:=decide_eq_false (by omega);have et:l3.take q=l3:=List.take_of_length_le (by omega);rw[et]at g6;have hstep:(List.range' i (c.nc-i)).foldl (stepF c.nc s.stands f x) kn=(List.range' (i+1) (c.nc-(i+1))).foldl (stepF c.nc s.stands f x) (stepF c.nc s.stands f x kn i):=Qoe ci;rw[hstep]at hf3;have hkn3:∀j,kn j=true→j<c.nc:=fun j hj=>by
     have:=hs3 j hj;by_cases e:j=x
     ·rw[e];exact hx
     ·rw[upd_ne e]at this;exact hkn j this
    cases ek:kn i with
    |false =>
     have ek':({s with known:=kn}:St).known i=false:=ek;rw[ek']at z3;have es:stepF c.nc s.stands f x kn i=kn:=by unfold stepF;rw[ek];rfl
     rw[es]at hf3;simp only[wS,wC,Nat.reduceAdd,Nat.zero_add,g5,g6,g7,r3.cells,ixi,z5,z3,ll3,hd2,hup];exact ih _ _ _ (by omega) ⟨i+1,kn,rfl,ci,m3,f3,hf3,hs3,rfl⟩ rfl
    |true =>
     have ek':({s with known:=kn}:St).known i=true:=ek;have hst:=(r3.val ek').2 x;rw[ek']at z3;by_cases cm:(x:Int)∈l3
     ·have e1:decide ((x:Int)∈l3)=true:=decide_eq_true cm;rw[e1]at g6;have hst':s.stands i x=true:=hst.2 cm;have es:stepF c.nc s.stands f x kn i=QaI c.nc s.stands f i kn:=by unfold stepF;rw[ek,hst'];rfl
      rw[es]at hf3;simp only[wS,wC,Nat.reduceAdd,Nat.zero_add,g5,g6,g7,r3.cells,ixi,z5,z3,ll3,hd2];have hcf:cnt kn+(1-(kn i).toNat)≤f:=by
       have q:=Qp5 hs3;rw[ek];simp only[Bool.toNat_true];omega
      refine cCall 300 (H.m 51 (by simp) _) (QpO H h6 f {s with known:=kn} h' i ci m3 hkn3 hcf) fun v h5 hp=>?_
      obtain⟨m5,f5⟩:=hp;have hsub:=Qeg h6 (st:=s.stands) f i kn ci hcf hkn3;simp only[wS,wC,Nat.reduceAdd,Nat.zero_add,hup];exact ih _ _ _ (by omega) ⟨i+1,_,rfl,ci,m5,f3.trans f5,hf3,fun j hj=>hs3 j (hsub.sub j hj),rfl⟩ rfl
     ·have e1:decide ((x:Int)∈l3)=false:=decide_eq_false cm;rw[e1]at g6;have hst':s.stands i x=false:=Bool.eq_false_iff.2 fun e=>cm (hst.1 e)
      have es:stepF c.nc s.stands f x kn i=kn:=by unfold stepF;rw[ek,hst'];rfl
      rw[es]at hf3;simp only[wS,wC,Nat.reduceAdd,Nat.zero_add,g5,g6,g7,r3.cells,ixi,z5,z3,ll3,hd2,hup];exact ih _ _ _ (by omega) ⟨i+1,kn,rfl,ci,m3,f3,hf3,hs3,rfl⟩ rfl
  ·have hd:decide ((i:Int)<(c.nc:Int))=false:=decide_eq_false (by omega);have hz:c.nc-i=0:=by omega
   rw[hz]at hf3;have hf3':kn=QaI c.nc s.stands (f+1) x s.known:=hf3;rw[←hf3']at hk;obtain⟨mv3,k3,n3,L3,vv3,ov3,l3,r3⟩:=m3.rd hx;simp only[wS,wC,Nat.reduceAdd,Nat.zero_add,g5,r3.cells,lenSO,hd];exact R_endK ⟨rfl,rfl,rfl,rfl⟩ H.f51 rfl (hk (.tuple []) _ ⟨m3,f3⟩)
end
end Go.Ab.L26
namespace Go.Ab
open Go
structure GA (lo:Nat)(h:AH)(tg es:Nat)(v:AV)(rows:List (List AV)):Prop where
 val:(v=.nilslice∧rows=[])∨∃b pre anc,v=.slop b 0 rows.length es∧h.get b=some (.cells rows.flatten (some tg) pre anc)∧lo≤b∧b<h.next∧∀a∈anc,lo≤a∧a<b
 row:∀r∈rows,r.length=es
theorem GA.nil{lo tg es:Nat}{h:AH}:GA lo h tg es .nilslice []:=⟨.inl ⟨rfl,rfl⟩,fun r hr=>by cases hr⟩
theorem GA.keep{lo tg es:Nat}{h h':AH}{v:AV}{rows:List (List AV)}(g:GA lo h tg es v rows)(hn:h.next≤h'.next)(hk:∀b,lo≤b→b<h.next→h'.get b=h.get b):GA lo h' tg es v rows:=by
 refine⟨?_,g.row⟩;rcases g.val with h1|⟨b,pre,anc,h1,h2,h3,h4,h5⟩
 ·exact .inl h1
 ·exact .inr ⟨b,pre,anc,h1,by rw[hk b h3 h4];exact h2,h3,Nat.lt_of_lt_of_le h4 hn,h5⟩
theorem GA.app{lo tg es bytes:Nat}{h:AH}{v:AV}{rows:List (List AV)}(g:GA lo h tg es v rows)(hw:∀b,h.next≤b→h.get b=none)(hlo:lo≤h.next){b':Nat}{r:List AV}{sp:Option Nat}(hg:h.get b'=some (.cells r sp 0 []))(hr:r.length=es)(ho:r.all AV.one=true)
  (hes:es≠0)(hb0:bytes≠0)(hb1:bytes<1000000)(hn:rows.length*bytes<1000000000000):∃v' h',appF h es bytes tg v (.slice b' 0 1 1)=some (v',h')∧GA lo h' tg es v' (rows++[r])∧h'.next=h.next+1∧(∀c,c<h.next→c<lo→h'.get c=h.get c)∧(∀c,h'.next≤c→h'.get c=none)∧v'.one=true∧v'.known=true∧v'.cells=[v']:=by
 have hx:Qar h es 1 (.slice b' 0 1 1)=some r:=by
  simp only[Qar,AH.read,AH.cellsAt,hg];rw[if_pos (Nat.le_refl 1),if_pos (by omega)];rw[List.drop_zero,Nat.one_mul,←hr,List.take_length]
 have hrows:∀r'∈rows++[r],r'.length=es:=fun r' hr'=>by
  rcases List.mem_append.1 hr' with h1|h1
  ·exact g.row r' h1
  ·rw[List.mem_singleton.1 h1];exact hr
 have c1:r.length=1*es∧es≠0∧bytes≠0∧bytes<1000000∧1*bytes<1000000000000∧r.all AV.one=true:=⟨by omega,hes,hb0,hb1,by omega,ho⟩
 have hl:lenA (.slice b' 0 1 1)=some 1:=rfl;rcases g.val with⟨rfl,rfl⟩|⟨b,pre,anc,rfl,h2,h3,h4,h5⟩
 ·refine⟨.slop h.next 0 1 es,h.alloc (.cells r (some tg) 0 []),?_,⟨.inr ⟨h.next,0,[],rfl,by simpa using Qam h _,hlo,Nat.lt_succ_self _,fun a ha=>by cases ha⟩,hrows⟩,rfl,fun c hc _=>Qad h _ hc,fun c hc=>?_,rfl,rfl,rfl⟩
  ·simp only[appF,hl,hx];unfold QbU;rw[if_pos c1,if_neg (by omega)]
  ·have hc':h.next+1≤c:=hc
   show (if c=h.next then _ else h.get c)=none;rw[if_neg (by omega)];exact hw c (by omega)
 ·have hfl:=Qa9 g.row;refine⟨.slop h.next 0 (rows.length+1) es,(h.put b (.old rows.flatten)).alloc (.cells (rows.flatten++r) (some tg) (rows.length*es) (b::anc)),?_,⟨.inr ⟨h.next,rows.length*es,b::anc,by simp,?_,hlo,Nat.lt_succ_self _,fun a ha=>?_⟩,hrows⟩,rfl,fun c hc hcl=>?_,fun c hc=>?_,rfl,rfl,rfl⟩
  ·simp only[appF,hl,hx];unfold QbU;rw[if_pos c1,if_neg (by omega)];simp only[h2];rw[if_pos ⟨hn,by omega,trivial,trivial⟩,if_neg (by omega),if_pos (by omega),List.drop_zero]
  ·rw[show h.next=(h.put b (.old rows.flatten)).next from rfl,Qam];simp
  ·rcases List.mem_cons.1 ha with rfl|ha
   ·exact⟨h3,h4⟩
   ·have:=h5 a ha;omega
  ·rw[Qad _ _ (by exact hc),Qab _ _ (by omega)]
  ·have hc':h.next+1≤c:=hc
   show (if c=h.next then _ else (h.put b (.old rows.flatten)).get c)=none;rw[if_neg (by omega),Qab _ _ (by omega)];exact hw c (by omega)
namespace L26
theorem QpT{es:Nat}:∀{rows:List (List AV)},(∀r∈rows,r.length=es)→∀i (hi:i<rows.length),(rows.flatten.drop (i*es)).take es=rows[i]
 |r::rows,h,0,_=>by
  have:=h r (by simp);simp[←this]
 |r::rows,h,i+1,hi=>by
  have h1:=h r (by simp);have:=QpT (rows:=rows) (fun r' hr'=>h r' (by simp[hr'])) i (by simpa using hi);rw[List.getElem_cons_succ,←this,List.flatten_cons];rw[show (i+1)*es=r.length+i*es by rw[Nat.succ_mul,h1,Nat.add_comm],←List.drop_drop,List.drop_left]
section
variable{F:FuncId→Option AFun}{M:Memo}
theorem rbegun_r(H:FnM F M){forms:Nat→CT}{N:Nat}{h:AH}{v:AV}{rows:List (List AV)}(u:Up h h)(hN:N≤h.next)(hs:Sl N h 3 v rows)(hr3:∀r∈rows,r.length=3∧r.all AV.one=true)(hr0:rows.length≠0)(hr6:rows.length≤6)(hr:∀i (hi:i<rows.length),Rep N h (forms i) rows[i]) :
  Ctr F M 50 [v] h (fun w h'=>∃c:RC,w=.ptr c.bs 0∧c.N=N∧c.nc=rows.length∧RM c forms s0 h'∧Up h h'∧h.next≤c.bs) (fun _ _=>False):=by
 refine Ctr.intro H.f50 fun caller cs G hk _=>W_ok 300 _ _ _ ?_
 have hb0:bldF h [.nilslice,.nilslice] []=some (.agg [.nilslice,.nilslice],h):=rfl;simp only[fn50,b50,Nat.reduceAdd,Nat.reduceSub,wS,wC,List.map_nil,boxA];have u1:=u.alloc (.cells [.nilslice,.nilslice] (some 213) 0 []);have g1:=Qam h (.cells [.nilslice,.nilslice] (some 213) 0 []);have n1:(h.alloc (.cells [.nilslice,.nilslice] (some 213) 0 [])).next=h.next+1:=rfl
 generalize h.alloc (.cells [.nilslice,.nilslice] (some 213) 0 [])=h1 at u1 g1 n1 ⊢;refine Qfi [φ,φ,φ,φ,τ,φ,φ,τ,τ,τ,τ,τ,τ,τ,τ,τ,τ,τ,τ,τ,τ,τ,τ,τ,τ,τ,τ] (fun mm g h'=>∃(i:Nat) (cv:AV) (R:List (List AV)),mm=rows.length-i∧i≤rows.length∧Up h h'∧h1.next≤h'.next∧h'.get h.next=some (.cells [cv,.nilslice] (some 213) 0 [])∧GA h1.next h' 216 6 cv R∧R.length=i∧(∀j (hj:j<R.length) (hj2:j<rows.length),R[j]=rows[j]++[.bool false,.int .i64 0,.nilslice])∧g 4=.int .i64 (i:Int)) (rows.length-0) ⟨0,.nilslice,[],rfl,Nat.zero_le _,u1,Nat.le_refl _,g1,GA.nil,rfl,fun j hj=>absurd hj (by simp),rfl⟩ ?_;rintro mm g h' ⟨i,cv,R,rfl,hi,u2,n2,g2,ga2,hRi,hR,g4⟩ ih;dsimp only[fv,Nat.reduceAdd];refine W_ok 300 _ _ _ ?_;by_cases ci:i<rows.length
 ·have hd:decide ((i:Int)<(rows.length:Int))=true:=decide_eq_true (by omega);obtain⟨p,p1,p2,p3⟩:=hs.row i ci;have p3':=(QaH (u2.low hN) p2 3).trans p3;obtain⟨x,y,z,er,ho⟩:=rep3 (hr i ci);have lc:loadA h' 1 (.ptr h.next 0)=some [cv]:=by rw[ldP g2];rfl
  rw[er]at p3' ho;have hbl:∀h:AH,bldF h [.int .i64 0,.int .i64 0,.nilslice,.bool false,.int .i64 0,.nilslice] [(0,3,.agg [x,y,z])]=some (.agg [x,y,z,.bool false,.int .i64 0,.nilslice],h):=fun _=>rfl
  have hbs:∀h:AH,bsF h 1 [.int .i64 0,.int .i64 0,.nilslice,.bool false,.int .i64 0,.nilslice] [(0,6,.agg [x,y,z,.bool false,.int .i64 0,.nilslice])]=some (.slice h.next 0 1 1,h.alloc (.cells [x,y,z,.bool false,.int .i64 0,.nilslice] none 0 [])):=fun _=>rfl
  simp only[wS,wC,AOp.makes,Nat.reduceAdd,Nat.zero_add,g4,hs.len,hd,lc,p1,p3',List.map_cons,List.map_nil,hbl,hbs];rw[wPDm rfl];have u3:=u2.alloc (.cells [x,y,z,.bool false,.int .i64 0,.nilslice] none 0 []);have g3:=Qam h' (.cells [x,y,z,.bool false,.int .i64 0,.nilslice] none 0 []);have gb3:=(Qad h' (.cells [x,y,z,.bool false,.int .i64 0,.nilslice] none 0 []) (lt_of_get u2.wf g2)).trans g2;have ga3:=ga2.keep (h':=h'.alloc (.cells [x,y,z,.bool false,.int .i64 0,.nilslice] none 0 [])) (Nat.le_succ _) fun b _ hb=>Qad _ _ hb
  have n3:h1.next≤(h'.alloc (.cells [x,y,z,.bool false,.int .i64 0,.nilslice] none 0 [])).next:=Nat.le_trans n2 (Nat.le_succ _)
  generalize h'.alloc (.cells [x,y,z,.bool false,.int .i64 0,.nilslice] none 0 [])=h3 at u3 g3 gb3 ga3 n3 ⊢;have ho6:([x,y,z,.bool false,.int .i64 0,.nilslice]:List AV).all AV.one=true:=by
   simp only[List.all_cons,List.all_nil,Bool.and_true,Bool.and_eq_true]at ho ⊢;exact⟨ho.1,ho.2.1,ho.2.2,rfl,rfl,rfl⟩
  obtain⟨cv4,h4,e4,ga4,n4,low4,wf4,o1,o2,o3⟩:=ga3.app (bytes:=80) u3.wf n3 g3 rfl ho6 (by decide) (by decide) (by decide) (by omega);have gb4:=(low4 h.next (lt_of_get u3.wf gb3) (by omega)).trans gb3;have st:=stE (v:=cv4) (vs:=[cv4]) (m:=1) (o:=0) gb4 (by simp) o2 o3 rfl (by simp[o1]);have hsp:splice [cv,.nilslice] 0 [cv4]=[cv4,.nilslice]:=rfl;have hup:IntKind.i64.wrap ((i:Int)+1)=((i+1:Nat):Int):=QaW (by omega);simp only[wS,wC,AOp.makes,Nat.reduceAdd,Nat.zero_add,e4];rw[st,hsp];have u5:Up h (h4.put h.next (.cells [cv4,.nilslice] (some 213) 0 [])):=by
   have u4:Up h h4:=⟨by omega,fun b hb=>(low4 b (Nat.lt_of_lt_of_le hb u3.next) (by omega)).trans (u3.keep b hb),wf4⟩
   exact u4.put (Nat.le_refl _) (lt_of_get wf4 gb4) _
  have ga5:=ga4.keep (h':=h4.put h.next (.cells [cv4,.nilslice] (some 213) 0 [])) (Nat.le_refl _) fun b hb _=>Qab _ _ (by omega)
  have n5:h1.next≤(h4.put h.next (.cells [cv4,.nilslice] (some 213) 0 [])).next:=by show h1.next≤h4.next;omega
  have g5:=get_put h4 h.next (.cells [cv4,.nilslice] (some 213) 0 [])
  simp only[wS,wC,AOp.makes,Nat.reduceAdd,hup];refine ih _ _ _ (by omega) ⟨i+1,cv4,_,rfl,ci,u5,n5,g5,ga5,by simp[hRi],fun j hj hj2=>?_,rfl⟩ rfl;by_cases ej:j<R.length
  ·rw[List.getElem_append_left ej];exact hR j ej hj2
  ·have:j=i:=by simp at hj;omega
   subst this;rw[List.getElem_append_right (by omega)];simp[er]
 ·have hd:decide ((i:Int)<(rows.length:Int))=false:=decide_eq_false (by omega);simp only[wS,wC,Nat.reduceAdd,g4,hs.len,hd];have hR0:R.length=rows.length:=by omega
  rcases ga2.val with⟨rfl,rfl⟩|⟨b,pre,anc,rfl,q2,q3,q4,q5⟩
  ·exact absurd hR0.symm hr0
  ·rw[hR0]at g2;refine Qag ⟨rfl,rfl,rfl,rfl⟩ H.f50 rfl (hk _ _ ⟨⟨N,h1.next,h'.next,h.next,b,rows.length⟩,rfl,rfl,rfl,⟨⟨_,_,g2,GL.nil.gs,R.flatten,_,pre,anc,q2,by rw[Qa9 ga2.row,hR0],fun a ha=>⟨(q5 a ha).1,Nat.lt_trans (q5 a ha).2 q4,Nat.ne_of_lt (q5 a ha).2⟩,fun j hj=>?_⟩,u2.wf,hN,by show h.next<h1.next;omega,q3,q4,Nat.le_refl _⟩,u2,Nat.le_refl _⟩);have hj':j<R.length:=by rw[hR0];exact hj
   have hj2:j<rows.length:=hj;rw[QpT ga2.row j hj',hR j hj' hj2];obtain⟨x,y,z,er,ho⟩:=rep3 (hr j hj2);have hrep:=(hr j hj2).low (u2.low hN);rw[er]at hrep;exact⟨x,y,z,0,.nilslice,[],by rw[er];rfl,hrep,GL.nil.gs,(fun b ⟨n,e,hb⟩=>by rcases hb with hb|hb<;>cases hb),by simp,fun e=>by cases e⟩
end
end L26
end Go.Ab
namespace Go.Ab.L26
open Go Go.Ab
section
variable{F:FuncId→Option AFun}{M:Memo}
theorem RepD.low{N:Nat}{h h':AH}{l:List Told}{v:AV}(H:RepD N h l v)(hL:Low N h h'):RepD N h' l v:=by
 obtain⟨rows,s,e,r⟩:=H.ex;exact⟨rows,s.low hL,e,fun i h1 h2=>by
  obtain⟨w,e1,e2⟩:=r i h1 h2;exact⟨w,e1,e2.low hL⟩⟩
theorem QhL:∀(as:List Act)(ds:List Told)(i:Nat)(h1:i<as.length)(h2:i<ds.length),shown (as.drop i) (ds.drop i)=(if as[i].set then [] else [ds[i].2])++shown (as.drop (i+1)) (ds.drop (i+1)):=fun as ds i h1 h2=>by
 rw[List.drop_eq_getElem_cons h1,List.drop_eq_getElem_cons h2];rfl
end
def preS(anew:Bool)(s:St):St:={s with comp:=[],known:=if anew then noneK else s.known}
def runR(nc:Nat)(anew:Bool):(Nat→CT)→St→List Act→List Told
 |_,_,[]=>[]
 |forms,s,a::l=>((actS nc forms (preS anew s) a).2.2.1,(actS nc forms (preS anew s) a).2.2.2)::runR nc anew (actS nc forms (preS anew s) a).1 (actS nc forms (preS anew s) a).2.1 l
theorem QpN{nc:Nat}{anew:Bool}:∀(as:List Act)(forms:Nat→CT)(s:St),(runR nc anew forms s as).length=as.length
 | [],_,_=>rfl
 |a::as,forms,s=>by simp[runR,QpN as]
theorem QpK{nc:Nat}:∀(as:List Act)(forms:Nat→CT)(s t:St),s.vals=t.vals→s.known=t.known→s.stands=t.stands→runR nc false forms s as=runS nc forms t as
 | [],_,_,_,_,_,_=>rfl
 |a::as,forms,s,t,h1,h2,h3=>by
  obtain⟨v,kn,st,cp⟩:=s;obtain⟨v',kn',st',cp'⟩:=t;cases h1;cases h2;cases h3;have e:∀cp cp':List Int,(actS nc forms ⟨v,kn,st,cp⟩ a).1=(actS nc forms ⟨v,kn,st,cp'⟩ a).1∧(actS nc forms ⟨v,kn,st,cp⟩ a).2.2=(actS nc forms ⟨v,kn,st,cp'⟩ a).2.2∧(actS nc forms ⟨v,kn,st,cp⟩ a).2.1.vals=(actS nc forms ⟨v,kn,st,cp'⟩ a).2.1.vals∧(actS nc forms ⟨v,kn,st,cp⟩ a).2.1.known=(actS nc forms ⟨v,kn,st,cp'⟩ a).2.1.known∧(actS nc forms ⟨v,kn,st,cp⟩ a).2.1.stands=(actS nc forms ⟨v,kn,st,cp'⟩ a).2.1.stands:=fun cp cp'=>by
   unfold actS;split<;>exact⟨rfl,rfl,rfl,rfl,rfl⟩
  obtain⟨e1,e2,e3,e4,e5⟩:=e [] cp';show ((actS nc forms ⟨v,kn,st,[]⟩ a).2.2.1,(actS nc forms ⟨v,kn,st,[]⟩ a).2.2.2)::runR nc false (actS nc forms ⟨v,kn,st,[]⟩ a).1 (actS nc forms ⟨v,kn,st,[]⟩ a).2.1 as=_;rw[QpK as _ _ (actS nc forms ⟨v,kn,st,cp'⟩ a).2.1 e3 e4 e5,e1,e2];rfl
theorem QpZ{nc:Nat}:∀(as:List Act)(forms:Nat→CT)(s t:St),s.vals=t.vals→s.stands=t.stands→shown as (runR nc true forms s as)=scrS nc forms t as
 | [],_,_,_,_,_=>rfl
 |a::as,forms,s,t,h1,h3=>by
  obtain⟨v,kn,st,cp⟩:=s;obtain⟨v',kn',st',cp'⟩:=t;cases h1;cases h3;have e:∀cp cp':List Int,(actS nc forms ⟨v,noneK,st,cp⟩ a).1=(actS nc forms ⟨v,noneK,st,cp'⟩ a).1∧(actS nc forms ⟨v,noneK,st,cp⟩ a).2.2=(actS nc forms ⟨v,noneK,st,cp'⟩ a).2.2∧(actS nc forms ⟨v,noneK,st,cp⟩ a).2.1.vals=(actS nc forms ⟨v,noneK,st,cp'⟩ a).2.1.vals∧(actS nc forms ⟨v,noneK,st,cp⟩ a).2.1.stands=(actS nc forms ⟨v,noneK,st,cp'⟩ a).2.1.stands:=fun cp cp'=>by
   unfold actS;split<;>exact⟨rfl,rfl,rfl,rfl⟩
  obtain⟨e1,e2,e3,e5⟩:=e [] cp';show (if a.set then [] else [(actS nc forms ⟨v,noneK,st,[]⟩ a).2.2.2])++shown as (runR nc true (actS nc forms ⟨v,noneK,st,[]⟩ a).1 (actS nc forms ⟨v,noneK,st,[]⟩ a).2.1 as)=_;rw[QpZ as _ _ (actS nc forms ⟨v,noneK,st,cp'⟩ a).2.1 e3 e5,e1,e2];rfl
def oB(c:RC)(h:AH)(b:Nat):Prop:=∃FL sp pre anc i ov,h.get c.bc=some (.cells FL sp pre anc)∧i<c.nc∧FL[i*6+5]? = some ov∧inB ov b
section
variable{c:RC}{forms:Nat→CT}{s:St}{h h':AH}
theorem RM.clear(m:RM c forms s h){mv:AV}{sp:Option Nat}(hg:h.get c.bs=some (.cells [.slop c.bc 0 c.nc 6,mv] sp 0 [])) :
  RM c forms {s with comp:=[]} (h.put c.bs (.cells [.slop c.bc 0 c.nc 6,.nilslice] sp 0 []))∧(∀b,lB c (h.put c.bs (.cells [.slop c.bc 0 c.nc 6,.nilslice] sp 0 [])) b↔oB c h b)∧FrR c h (h.put c.bs (.cells [.slop c.bc 0 c.nc 6,.nilslice] sp 0 [])):=by
 obtain⟨sp0,mv0,g1,g2,FL,sp2,pre,anc,g3,g4,g5,g6⟩:=m.obj;rw[hg]at g1;cases g1;have hne:∀{b:Nat},c.hb≤b→b≠c.bs:=fun hb=>by have:=m.o2;have:=m.o3;have:=m.o4;omega
 have kbc:(h.put c.bs (.cells [.slop c.bc 0 c.nc 6,.nilslice] sp 0 [])).get c.bc=h.get c.bc:=Qab _ _ (by have:=m.o2;have:=m.o3;omega);have nn:∀b,¬inB .nilslice b:=fun b ⟨n,e,hb⟩=>by rcases hb with hb|hb<;>cases hb
 have lbe:∀b,lB c (h.put c.bs (.cells [.slop c.bc 0 c.nc 6,.nilslice] sp 0 [])) b↔oB c h b:=fun b=>by
  unfold lB;rw[cB_of (get_put h c.bs _) rfl,kbc];exact⟨fun e=>e.resolve_left (nn b),.inr⟩
 refine⟨⟨⟨sp,.nilslice,get_put _ _ _,GL.nil.gs,FL,sp2,pre,anc,kbc.trans g3,g4,g5,fun i hi=>?_⟩,fun b hb=>?_,m.o1,m.o2,m.o3,m.o4,m.o5⟩,lbe,⟨Nat.le_refl _,fun b _ z1 _ _=>Qab _ _ z1,fun b hb=>.inl (.inr ((lbe b).1 hb))⟩⟩
 ·obtain⟨k',n',L',vv',ov',l',q1,q2,q3,q4,q5,q6⟩:=(g6 i hi).ex;exact⟨k',n',L',vv',ov',l',q1,q2.low fun b hb=>Qab _ _ (by have:=m.o1;omega),q3.keep (Nat.le_refl _) fun b hb=>Qab _ _ (hne (q3.inB hb).1),fun b _=>nn b,q5,q6⟩
 ·have hb2:h.next≤b:=hb
  rw[Qab _ _ (by have:=m.bs_lt;omega)];exact m.wf b hb2
structure AccR (c:RC)(n2 B0:Nat)(h:AH)(P:Nat→Prop)(ov:AV)(R:List (List AV))(l:List Told):Prop where
 gs:GS c.hb h 86 2 ov R
 ob:∀b,inB ov b→n2≤b∧b<B0∧¬lB c h b
 len:R.length=l.length
 row:∀i (h1:i<R.length)(h2:i<l.length),∃w,R[i]=[w,.int .i64 l[i].2]∧GS c.hb h 6 1 w (ints l[i].1)∧∀b,inB w b→b<B0∧¬P b∧¬inB ov b
theorem AccR.to{n2 B0 B1:Nat}{P Q:Nat→Prop}{ov:AV}{R:List (List AV)}{l:List Told}(A:AccR c n2 B0 h P ov R l)(hn:h.next≤h'.next)(hB:B0≤B1)(hk:∀b,c.hb≤b→b<B0→(¬P b∨¬lB c h b)→h'.get b=h.get b)(hl:∀b,b<B0→¬lB c h b→¬lB c h' b)(hQ:∀b,b<B0→¬P b→¬Q b):AccR c n2 B1 h' Q ov R l:=by
 refine⟨A.gs.keep hn fun b hb=>hk b (A.gs.inB hb).1 (A.ob b hb).2.1 (.inr (A.ob b hb).2.2),fun b hb=>?_,A.len,fun i h1 h2=>?_⟩
 ·obtain⟨q1,q2,q3⟩:=A.ob b hb;exact⟨q1,Nat.lt_of_lt_of_le q2 hB,hl b q2 q3⟩
 ·obtain⟨w,e1,e2,e3⟩:=A.row i h1 h2;refine⟨w,e1,e2.keep hn fun b hb=>hk b (e2.inB hb).1 (e3 b hb).1 (.inl (e3 b hb).2.1),fun b hb=>?_⟩;obtain⟨q1,q2,q3⟩:=e3 b hb;exact⟨Nat.lt_of_lt_of_le q1 hB,hQ b q1 q2,q3⟩
theorem AccR.fr{n2 B0:Nat}{ov:AV}{R:List (List AV)}{l:List Told}(A:AccR c n2 B0 h (lB c h) ov R l)(m:RM c forms s h)(f:FrR c h h')(hB:B0≤h.next):AccR c n2 B0 h' (lB c h') ov R l:=by
 have hl:∀b,b<B0→¬lB c h b→¬lB c h' b:=fun b hb hn e=>by
  rcases f.comp b e with e|e
  ·exact hn e
  ·omega
 exact A.to f.next (Nat.le_refl _) (fun b hb hb2 hn=>f.keep b (by omega) (by have:=m.o2;have:=m.o3;have:=m.o4;omega) (.inr hb) (by rcases hn with hn|hn<;>exact hn)) hl hl
theorem RM.putOwn(m:RM c forms s h){b:Nat}{o:AO}(w:OwnR c h b o)(o':AO):RM c forms s (h.put b o')∧OwnR c (h.put b o') b o'∧∀x,lB c (h.put b o') x↔lB c h x:=by
 obtain⟨m',hl⟩:=m.beside (h':=h.put b o') (S:=(· = b)) (fun x e=>e ▸ ⟨w.hb,w.nc⟩) (Nat.le_refl _) (fun x _ hx=>Qab _ _ hx) fun x hx=>by
  have hx':h.next≤x:=hx
  rw[Qab _ _ (by have:=w.lt;omega)];exact m.wf x hx'
 exact⟨m',⟨get_put _ _ _,w.lt,w.hb,fun e=>w.nc ((hl b).1 e)⟩,hl⟩
theorem FrR.own{h0:AH}(f:FrR c h0 h){b:Nat}(hb:h0.next≤b)(o':AO)(hl:∀x,lB c (h.put b o') x↔lB c h x):FrR c h0 (h.put b o'):=
 ⟨f.next,fun x hx z1 z2 z3=>(Qab _ _ (by omega)).trans (f.keep x hx z1 z2 z3),fun x hx=>f.comp x ((hl x).1 hx)⟩
theorem AccR.own{n2 B0:Nat}{ov:AV}{R:List (List AV)}{l:List Told}(A:AccR c n2 B0 h (lB c h) ov R l){b:Nat}(hb:B0≤b)(o':AO)(hl:∀x,lB c (h.put b o') x↔lB c h x):AccR c n2 B0 (h.put b o') (lB c (h.put b o')) ov R l:=
 A.to (Nat.le_refl _) (Nat.le_refl _) (fun x _ hx _=>Qab _ _ (by omega)) (fun x _ hn e=>hn ((hl x).1 e)) (fun x _ hn e=>hn ((hl x).1 e))
theorem RM.cmp_oB(m:RM c forms s h){mv:AV}{sp:Option Nat}(hg:h.get c.bs=some (.cells [.slop c.bc 0 c.nc 6,mv] sp 0 [])){b:Nat}(hb:inB mv b):¬oB c h b:=by
 obtain⟨sp0,mv0,g1,g2,FL,sp2,pre,anc,g3,g4,g5,g6⟩:=m.obj;rw[hg]at g1;cases g1;rintro⟨FL',sp3,pre2,anc2,i,ov',q1,q2,q3,q4⟩;rw[g3]at q1;cases q1;obtain⟨k',n',L',vv',ov2,l',p1,p2,p3,p4,_⟩:=(g6 i q2).ex;have:((FL.drop (i*6)).take 6)[5]? = some ov2:=by rw[p1];rfl
 rw[List.getElem?_take_of_lt (by omega),List.getElem?_drop,q3]at this;cases this;exact p4 b q4 hb
end
theorem Inv.start{nc:Nat}{forms:Nat→CT}{V:Nat→Int}:Inv nc forms V s0:=⟨(fun _ h=>by cases h),(fun _ h=>by cases h),(fun _ h=>by cases h),(fun _ h=>by cases h)⟩
def showA(n:Int):Act:=⟨false,n,.mk 0 0 []⟩
def setA(n:Int)(t:CT):Act:=⟨true,n,t⟩
theorem Qha{cs:List CT}{as:List Act}(h:Qak cs as=0):cellsE cs=0∧actsE cs.length as=0:=by
 unfold Qak at h;split at h
 ·cases h
 split at h
 ·cases h
 split at h
 ·exact⟨‹_›,h⟩
 ·contradiction
theorem Qkh{cs:List CT}{as bs:List Act}(h:Qak cs as=0)(hl:bs.length≤10)(hb:∀b∈bs,b∈as∨actD cs.length b=0):Qak cs bs=0:=by
 unfold Qak at h ⊢;split at h
 ·cases h
 rename_i h1;rw[if_neg (by omega)];split at h
 ·cases h
 rename_i h2;rw[if_neg h2];split at h
 ·rename_i h3;rw[if_pos h3];have all:∀l:List Int,(∀x∈l,x=0)→Qbt l=0:=fun l=>by
   induction l with
   |nil=>intro _;rfl
   |cons x l ih =>
    intro hx;unfold Qbt;rw[if_pos (hx x (by simp))];exact ih fun y hy=>hx y (by simp[hy])
  refine all _ fun x hx=>?_
  obtain⟨i,hi,rfl⟩:=List.mem_map.1 hx;have hi':=List.mem_range.1 hi;have e:bs.getD i default=bs[i]:=by simp[List.getD,gE hi']
  rw[e];rcases hb _ (List.getElem_mem hi') with hm|hm
  ·obtain⟨j,hj,ej⟩:=List.getElem_of_mem hm;rw[←ej];have:=Qfc h _ (List.mem_map.2 ⟨j,List.mem_range.2 hj,rfl⟩);simpa[List.getD,gE hj] using this
  ·exact hm
 ·contradiction
section
variable{F:FuncId→Option AFun}{M:Memo}
theorem Ql0(hF:F 20=some fn20)(n a b:Int)(h:AH):Ctr F M 20 [.int .i64 n,.int .i64 a,.int .i64 b] h (fun v h'=>v=.bool (decide (a≤n∧n≤b))∧h'=h) (fun _ _=>False):=by
 refine Ctr.intro hF fun caller cs G hk _=>W_ok 300 _ _ _ ?_
 simp only[fn20,b20,Nat.reduceAdd,Nat.reduceSub,wS];by_cases c1:a≤n<;>simp only[c1,decide_true,decide_false,wS,Nat.reduceAdd] <;>
  exact Qag ⟨rfl,rfl,rfl,rfl⟩ hF rfl (hk _ _ ⟨by simp[c1],rfl⟩)
theorem Qdi(hF:F 104=some fn104)(k:Int)(h:AH):Ctr F M 104 [.int .i64 k] h (fun v h'=>v=.int .i64 (if k=0∨k=1 then 0 else if k=4 then 3 else 2)∧h'=h) (fun _ _=>False):=by
 refine Ctr.intro hF fun caller cs G hk _=>W_ok 300 _ _ _ ?_
 simp only[fn104,b104,Nat.reduceAdd,Nat.reduceSub,wS];by_cases c1:k=0
 ·simp only[c1,decide_true,wS,Nat.reduceAdd];exact Qag ⟨rfl,rfl,rfl,rfl⟩ hF rfl (hk _ _ ⟨by simp[c1],rfl⟩)
 simp only[c1,decide_false,wS,Nat.reduceAdd];by_cases c2:k=1
 ·simp only[c2,decide_true,wS,Nat.reduceAdd];exact Qag ⟨rfl,rfl,rfl,rfl⟩ hF rfl (hk _ _ ⟨by simp[c2],rfl⟩)
 simp only[c2,decide_false,wS,Nat.reduceAdd];by_cases c3:k=4<;>simp only[c3,decide_true,decide_false,wS,Nat.reduceAdd] <;>
  exact Qag ⟨rfl,rfl,rfl,rfl⟩ hF rfl (hk _ _ ⟨by simp[c1,c2,c3],rfl⟩)
end
end Go.Ab.L26
