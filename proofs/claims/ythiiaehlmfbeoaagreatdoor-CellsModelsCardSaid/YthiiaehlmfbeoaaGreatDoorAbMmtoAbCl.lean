/- A part of a proof. -/
import Derived.Test.YthiiaehlmfbeoaaGreatDoorAbSttoAbSv
set_option linter.all false
noncomputable section
namespace Go.Ab
open Go Go.RowKit
inductive Ren (r:Nat→Option Nat):AV→AV→Prop
 |undef:Ren r .undef .undef
 |bool (b:Bool):Ren r (.bool b) (.bool b)
 |int (k:IntKind)(n:Int):Ren r (.int k n) (.int k n)
 |str (n b:Nat):Ren r (.str n b) (.str n b)
 |nilptr:Ren r .nilptr .nilptr
 |ptr (b o c:Nat)(h:r b=some c):Ren r (.ptr b o) (.ptr c o)
 |nilslice:Ren r .nilslice .nilslice
 |empty:Ren r .empty .empty
 |slice (b o n k c:Nat)(h:r b=some c):Ren r (.slice b o n k) (.slice c o n k)
 |slop (b o n es c:Nat)(h:r b=some c):Ren r (.slop b o n es) (.slop c o n es)
 |nilmap:Ren r .nilmap .nilmap
 |map (b c:Nat)(h:r b=some c):Ren r (.map b) (.map c)
 |func (f:FuncId)(fs cs fs' cs':List AV)(hf:fs.length=fs'.length)(hc:cs.length=cs'.length)(h1:∀i (h1:i<fs.length)(h2:i<fs'.length),Ren r fs[i] fs'[i])
   (h2:∀i (h1:i<cs.length)(h2:i<cs'.length),Ren r cs[i] cs'[i]):Ren r (.func f fs cs) (.func f fs' cs')
 |nilFunc:Ren r .nilFunc .nilFunc
 |iface (t:TypeId)(v v':AV)(h:Ren r v v'):Ren r (.iface t v) (.iface t v')
 |nilIface:Ren r .nilIface .nilIface
 |agg (l l':List AV)(hl:l.length=l'.length)(h:∀i (h1:i<l.length)(h2:i<l'.length),Ren r l[i] l'[i]):Ren r (.agg l) (.agg l')
 |tuple (l l':List AV)(hl:l.length=l'.length)(h:∀i (h1:i<l.length)(h2:i<l'.length),Ren r l[i] l'[i]):Ren r (.tuple l) (.tuple l')
structure Rens (r:Nat→Option Nat)(l l':List AV):Prop where
 len:l.length=l'.length
 val:∀i (h1:i<l.length)(h2:i<l'.length),Ren r l[i] l'[i]
theorem Rens.nil{r:Nat→Option Nat}:Rens r [] []:=⟨rfl,fun _ h=>absurd h (by simp)⟩
theorem Rens.cons{r:Nat→Option Nat}{a b:AV}{l m:List AV}(h:Ren r a b)(hs:Rens r l m):Rens r (a::l) (b::m):=
 ⟨by simp[hs.len],fun i h1 h2=>by cases i with
  |zero=>exact h
  |succ i=>exact hs.val i (by simpa using h1) (by simpa using h2)⟩
structure RenG (r:Nat→Option Nat)(g g':Gam):Prop where
 rho:∀b c x,r b=some c→g.rho b=some x→g'.rho c=some x
 es:∀b c x,r b=some c→g.rho b=some x→g'.es c=g.es b
 top:∀b c x,r b=some c→g.rho b=some x→g'.top c=g.top b
theorem VR.ren{r:Nat→Option Nat}{g g':Gam}(hr:RenG r g g'){a a':AV}(h:Ren r a a'):∀{v:Value},VR g a v→VR g' a' v:=by
 induction h with
 |undef=>intro v hv;exact .undef v
 |bool b=>intro v hv;cases hv;exact .bool b
 |int k n=>intro v hv;cases hv;exact .int k n
 |str n b=>intro v hv;cases hv with|str _ _ h=>exact .str n b h
 |nilptr=>intro v hv;cases hv;exact .nilptr
 |ptr b o c h=>intro v hv;cases hv with|ptr _ _ β base hb=>exact .ptr c o β base (hr.rho _ _ _ h hb)
 |nilslice=>intro v hv;cases hv;exact .nilslice
 |empty=>intro v hv;cases hv with|empty a=>exact .empty a
 |slice b o n k c h=>intro v hv;cases hv with|sliceC _ _ _ _ β base hb hn=>exact .sliceC c o n k β base (hr.rho _ _ _ h hb) hn
 |slop b o n es c h =>
  intro v hv;cases hv with
  |sliceN _ _ _ _ k β base a hb hn ha ht=>exact .sliceN c o n es k β base a (hr.rho _ _ _ h hb) hn ha (by rw[hr.top _ _ _ h hb];exact ht)
 |nilmap=>intro v hv;cases hv;exact .nilmap
 |map b c h=>intro v hv;cases hv with|map _ β hb=>exact .map c β (hr.rho _ _ _ h hb)
 |func f fs cs fs' cs' hf hc h1 h2 ih1 ih2 =>
  intro v hv;cases hv with
  |func _ _ _ fv cv hf' hc' hfv hcv =>
   exact .func f fs' cs' fv cv (by omega) (by omega) (fun i k1 k2=>ih1 i (by omega) k1 (hfv i (by omega) k2)) fun i k1 k2=>ih2 i (by omega) k1 (hcv i (by omega) k2)
 |nilFunc=>intro v hv;cases hv;exact .nilFunc
 |iface t v v' h ih=>intro u hu;cases hu with|iface _ _ u' hu'=>exact .iface t v' u' (ih hu')
 |nilIface=>intro v hv;cases hv;exact .nilIface
 |agg l l' hl h ih=>intro v hv;cases hv with|agg _ vs hl' hv'=>exact .agg l' vs (by omega) fun i k1 k2=>ih i (by omega) k1 (hv' i (by omega) k2)
 |tuple l l' hl h ih=>intro v hv;cases hv with|tuple _ vs hl' hv'=>exact .tuple l' vs (by omega) fun i k1 k2=>ih i (by omega) k1 (hv' i (by omega) k2)
inductive RenO (r:Nat→Option Nat):AO→AO→Prop
 |cells (l l':List AV)(sp:Option Nat)(pre:Nat)(anc:List Nat)(h:Rens r l l'):RenO r (.cells l sp pre anc) (.cells l' sp pre (anc.filterMap r))
 |old (l l':List AV)(h:Rens r l l'):RenO r (.old l) (.old l')
 |map (es es':List (AV×AV×Nat))(clock:Nat)(hl:es.length=es'.length)
   (h:∀i (h1:i<es.length)(h2:i<es'.length),es'[i].1=es[i].1∧Ren r es[i].1 es[i].1∧Ren r es[i].2.1 es'[i].2.1∧es'[i].2.2=es[i].2.2):RenO r (.map es clock) (.map es' clock)
section
variable{CR:AC→Code→Prop}{B:Nat}{w0:Anchor}{g g':Gam}{h h':AH}{w w':World}
theorem RowR.ren{r:Nat→Option Nat}(hr:RenG r g g'){β base room:Nat}{l l':List AV}(hl:Rens r l l')(H:RowR g w β base l room):RowR g' w β base l' room:=by
 obtain⟨c,e,h1,h2,h3,h4⟩:=H;refine⟨c,e,h1,h2,by rw[←hl.len];exact h3,fun i hi=>?_⟩;obtain⟨v,hv,hvr⟩:=h4 i (by rw[hl.len];exact hi);exact⟨v,hv,hvr.ren hr (hl.val i _ hi)⟩
theorem ObjR.ren{r:Nat→Option Nat}(hr:RenG r g g'){b c β base:Nat}(hb:r b=some c)(hrho:g.rho b=some (β,base)){o o':AO}(ho:RenO r o o')(H:ObjR CR g w b β base o):ObjR CR g' w c β base o':=by
 cases ho with
 |cells l l' sp pre anc hl =>
  cases H with
  |cells _ _ _ _ hp he hes hrow =>
   refine .cells l' sp pre _ (by rw[←hl.len];exact hp) (fun e=>?_) (fun e hsp=>?_) ?_
   ·rw[hr.top _ _ _ hb hrho,he e,hl.len]
   ·exact hes e hsp
   ·rw[hr.top _ _ _ hb hrho];exact hrow.ren hr hl
 |old l l' hl =>
  cases H with
  |old _ hrow=>exact .old l' (by rw[←hl.len];exact hrow.ren hr hl)
 |map es es' clock hl he =>
  cases H with
  |map _ _ entries hw hbase hlen hent =>
   refine .map es' clock entries hw hbase (by omega) fun i k1 k2=>?_
   obtain⟨e1,e2,e3,e4⟩:=he i (by omega) k1;obtain⟨x1,x2,x3,x4⟩:=hent i (by omega) k2;exact⟨by rw[e1];exact x1.ren hr e2,x2.ren hr e3,by rw[e4];exact x3,by rw[e1];exact x4⟩
theorem AH.allocs_next:∀(l:List AO)(h:AH),(h.allocs l).next=h.next+l.length
 | [],h=>rfl
 |o::l,h=>by
  show (AH.allocs _ l).next=_
  rw[AH.allocs_next l];simp only[List.length_cons];omega
theorem AH.allocs_get:∀(l:List AO)(h:AH)(x:Nat),(h.allocs l).get x=if h.next≤x∧x<h.next+l.length then l[x-h.next]? else h.get x
 | [],h,x=>by
  have:¬(h.next≤x∧x<h.next+([]:List AO).length):=by simp only[List.length_nil];omega
  rw[if_neg this];rfl
 |o::l,h,x=>by
  show (AH.allocs _ l).get x=_;rw[AH.allocs_get l];simp only[List.length_cons];by_cases h1:x=h.next
  ·subst h1;have n1:¬(h.next+1≤h.next∧h.next<h.next+1+l.length):=by omega
   have p1:h.next≤h.next∧h.next<h.next+(l.length+1):=by omega
   rw[if_neg n1,if_pos p1];simp
  ·by_cases h2:h.next+1≤x∧x<h.next+1+l.length
   ·have p1:h.next≤x∧x<h.next+(l.length+1):=by omega
    rw[if_pos h2,if_pos p1];obtain⟨d,rfl⟩:∃d,x=h.next+1+d:=⟨x-(h.next+1),by omega⟩
    have e1:h.next+1+d-(h.next+1)=d:=by omega
    have e2:h.next+1+d-h.next=d+1:=by omega
    rw[e1,e2];rfl
   ·have n1:¬(h.next≤x∧x<h.next+(l.length+1)):=by omega
    rw[if_neg h2,if_neg n1];simp[h1]
def selR(sel:List Nat)(n:Nat)(b:Nat):Option Nat:=(sel.findIdx? (· == b)).map (n + ·)
theorem selR_get{sel:List Nat}{n b c:Nat}(h:selR sel n b=some c):∃i,c=n+i∧sel[i]? = some b:=by
 unfold selR at h;obtain⟨i,hi,rfl⟩:=oM h;rw[List.findIdx?_eq_some_iff_getElem]at hi;obtain⟨hlt,hp,_⟩:=hi;exact⟨i,rfl,by rw[gE hlt];simpa using hp⟩
theorem QeR{sel:List Nat}(hd:sel.Nodup){n i b:Nat}(h:sel[i]? = some b):selR sel n b=some (n+i):=by
 unfold selR;rw[Option.map_eq_some_iff];refine⟨i,?_,rfl⟩;rw[List.findIdx?_eq_some_iff_getElem];obtain⟨hlt,hb⟩:=List.getElem?_eq_some_iff.1 h;refine⟨hlt,by simpa using hb,fun j hj=>?_⟩;have hjlt:j<sel.length:=by omega
 simp only[beq_iff_eq,Bool.not_eq_true];intro e;have e2:sel[j]? = sel[i]?:=by rw[gE hjlt,gE hlt,hb,e]
 have:=(List.getElem?_inj hjlt hd).1 e2;omega
structure Taken (sel:List Nat)(n:Nat)(h:AH)(v v':AV)(objs:List AO):Prop where
 val:Ren (selR sel n) v v'
 len:objs.length=sel.length
 obj:∀(i b:Nat),sel[i]? = some b→∃o o',h.get b=some o∧objs[i]? = some o'∧RenO (selR sel n) o o'
def Gam.join(g g':Gam)(sel:List Nat)(n:Nat):Gam:={
 rho:=fun x=>if x<n then g.rho x else match sel[x-n]? with|some b=>g'.rho b|none=>none
 es:=fun x=>if x<n then g.es x else match sel[x-n]? with|some b=>g'.es b|none=>0
 top:=fun x=>if x<n then g.top x else match sel[x-n]? with|some b=>g'.top b|none=>0
 mem:=g.mem}
theorem Gam.join_ren{sel:List Nat}{n:Nat}:RenG (selR sel n) g' (g.join g' sel n):=by
 refine⟨fun b c x hb hx=>?_,fun b c x hb hx=>?_,fun b c x hb hx=>?_⟩
 all_goals
  obtain⟨i,rfl,hi⟩:=selR_get hb;have h1:¬n+i<n:=by omega
  have h2:n+i-n=i:=by omega
  simp only[Gam.join,if_neg h1,h2,hi,hx]
theorem HR.join(H:HR CR B w0 g h w){q:Nat→Prop}(H':HR CR w.heap.size ⟨w,q⟩ g' h' w'){sel:List Nat}(hd:sel.Nodup){v v':AV}{objs:List AO}(ht:Taken sel h.next h' v v' objs){u:Value}(hv:VR g' v u) :
  VR (g.join g' sel h.next) v' u∧HR CR B w0 (g.join g' sel h.next) (h.allocs objs) w'∧g.le (g.join g' sel h.next):=by
 have hren:RenG (selR sel h.next) g' (g.join g' sel h.next):=Gam.join_ren;have hlt:∀b x,g.rho b=some x→b<h.next:=fun b x hx=>by
  rcases Nat.lt_or_ge b h.next with hl|hg
  ·exact hl
  ·rw[H.rhoNext b hg]at hx;cases hx
 have hle:g.le (g.join g' sel h.next):=by
  refine⟨fun b x hx=>?_,fun b x hx=>?_,fun b x hx=>?_,rfl⟩
  all_goals
   have:=hlt b x hx;simp[Gam.join,this,hx]
 have Hg:=H.grow H'.below;have hrho:∀b x,(g.join g' sel h.next).rho b=some x→(b<h.next∧g.rho b=some x)∨(∃i b',b=h.next+i∧sel[i]? = some b'∧g'.rho b'=some x):=by
  intro b x hx;by_cases hb:b<h.next
  ·simp only[Gam.join,if_pos hb]at hx;exact .inl ⟨hb,hx⟩
  ·simp only[Gam.join,if_neg hb]at hx;split at hx
   ·rename_i b' hb';exact .inr ⟨b-h.next,b',by omega,hb',hx⟩
   ·cases hx
 have hget:∀b,b<h.next→(h.allocs objs).get b=h.get b:=fun b hb=>by
  rw[AH.allocs_get,if_neg (by omega)]
 have hget2:∀i b o,sel[i]? = some b→(h.allocs objs).get (h.next+i)=some o→∃o0,h'.get b=some o0∧RenO (selR sel h.next) o0 o:=fun i b o hi ho=>by
  obtain⟨o0,o',k1,k2,k3⟩:=ht.obj i b hi;obtain⟨hil,_⟩:=List.getElem?_eq_some_iff.1 k2;rw[AH.allocs_get,if_pos (by omega),show h.next+i-h.next=i by omega,k2]at ho;cases ho;exact⟨o0,k1,k3⟩
 refine⟨hv.ren hren ht.val,⟨fun b hb=>?_,fun b hb=>?_,fun b x hx=>?_,fun b β base o hx ho=>?_,fun b b' β base base' o o' hx hx' ho ho' hne=>?_,Hg.mem,fun b β base ob o hx ho=>?_,fun b β base o hx ho=>?_,Hg.below,H.base,fun b hb=>?_⟩,hle⟩
 ·rw[AH.allocs_next]at hb;have h1:¬b<h.next:=by omega
  have h2:sel[b-h.next]? = none:=List.getElem?_eq_none (by rw[←ht.len];omega);simp only[Gam.join,if_neg h1,h2]
 ·rw[AH.allocs_next]at hb;rw[AH.allocs_get,if_neg (by omega)];exact H.getNext b (by omega)
 ·rcases hrho b x hx with⟨_,k⟩|⟨i,b',_,_,k⟩
  ·exact Hg.lt b x k
  ·exact H'.lt b' x k
 ·rcases hrho b _ hx with⟨hb,k⟩|⟨i,b',rfl,hi,k⟩
  ·rw[hget b hb]at ho;exact(Hg.obj b β base o k ho).mono hle k
  ·obtain⟨o0,k1,k2⟩:=hget2 i b' o hi ho;exact(H'.obj b' β base o0 k k1).ren hren (QeR hd hi) k k2
 ·rcases hrho b _ hx with⟨hb,k⟩|⟨i,b1,rfl,hi,k⟩
  ·rw[hget b hb]at ho;rcases hrho b' _ hx' with⟨hb',k'⟩|⟨j,b2,rfl,hj,k'⟩
   ·rw[hget b' hb']at ho';exact Hg.sep b b' β base base' o o' k k' ho ho' hne
   ·obtain⟨o0,k1,k2⟩:=hget2 j b2 o' hj ho';have h1:=H'.low b2 β base' o0 k' k1;have h2:=H.lt b _ k;simp only at h2;omega
  ·obtain⟨o0,k1,k2⟩:=hget2 i b1 o hi ho;rcases hrho b' _ hx' with⟨hb',k'⟩|⟨j,b2,rfl,hj,k'⟩
   ·have h1:=H'.low b1 β base o0 k k1;have h2:=H.lt b' _ k';simp only at h2;omega
   ·obtain⟨o1,k1',k2'⟩:=hget2 j b2 o' hj ho';have hne':b1≠b2:=fun e=>by
     subst e;have h1:=QeR (n:=0) hd hi;have h2:=QeR (n:=0) hd hj;rw[h1]at h2;simp only[oI]at h2;exact hne (by omega)
    rcases H'.sep b1 b2 β base base' o0 o1 k k' k1 k1' hne' with hu|hu|⟨⟨l,rfl⟩,⟨l',rfl⟩⟩
    ·left
     obtain⟨l,sp,pre,anc,l',rfl,rfl,hm,hb⟩:=hu;cases k2 with
     |cells _ l2 _ _ _ hl2 =>
      cases k2' with
      |old _ l3 hl3=>exact⟨l2,sp,pre,_,l3,rfl,rfl,List.mem_filterMap.2 ⟨b2,hm,QeR hd hj⟩,by rw[←hl3.len];exact hb⟩
    ·right;left
     obtain⟨l,sp,pre,anc,l',rfl,rfl,hm,hb⟩:=hu;cases k2' with
     |cells _ l2 _ _ _ hl2 =>
      cases k2 with
      |old _ l3 hl3=>exact⟨l2,sp,pre,_,l3,rfl,rfl,List.mem_filterMap.2 ⟨b1,hm,QeR hd hi⟩,by rw[←hl3.len];exact hb⟩
    ·right;right
     cases k2 with
     |old _ l2 hl2=>cases k2' with|old _ l3 hl3=>exact⟨⟨l2,rfl⟩,⟨l3,rfl⟩⟩
 ·rcases hrho b _ hx with⟨hb,k⟩|⟨i,b',rfl,hi,k⟩
  ·rw[hget b hb]at ho;exact H.memsep b β base ob o k ho
  ·obtain⟨o0,k1,k2⟩:=hget2 i b' ob hi ho;have h1:=H'.low b' β base o0 k k1;show g.mem β o=none;cases hm:g.mem β o with
   |none=>rfl
   |some z=>have:=H.mem_lt hm;omega
 ·rcases hrho b _ hx with⟨hb,k⟩|⟨i,b',rfl,hi,k⟩
  ·rw[hget b hb]at ho;exact H.low b β base o k ho
  ·obtain⟨o0,k1,k2⟩:=hget2 i b' o hi ho;have h1:=H'.low b' β base o0 k k1;have h2:=H.B_le;omega
 ·obtain⟨k1,k2⟩:=H.held b hb;refine⟨?_,by rw[AH.allocs_next];omega⟩;simp only[Gam.join,if_pos k2,k1]
end
inductive Closed:AV→Prop
 |undef:Closed .undef
 |bool (b:Bool):Closed (.bool b)
 |int (k:IntKind)(n:Int):Closed (.int k n)
 |str (n b:Nat):Closed (.str n b)
 |nilptr:Closed .nilptr
 |iptr (l:List AV)(h:∀i (h1:i<l.length),Closed l[i]):Closed (.iptr l)
 |nilslice:Closed .nilslice
 |empty:Closed .empty
 |vec (l:List (List AV))(h:∀i (h1:i<l.length) j (h2:j<l[i].length),Closed l[i][j]):Closed (.vec l)
 |nilmap:Closed .nilmap
 |func (f:FuncId)(fs cs:List AV)(h1:∀i (h1:i<fs.length),Closed fs[i])(h2:∀i (h1:i<cs.length),Closed cs[i]):Closed (.func f fs cs)
 |nilFunc:Closed .nilFunc
 |iface (t:TypeId)(v:AV)(h:Closed v):Closed (.iface t v)
 |nilIface:Closed .nilIface
 |agg (l:List AV)(h:∀i (h1:i<l.length),Closed l[i]):Closed (.agg l)
 |tuple (l:List AV)(h:∀i (h1:i<l.length),Closed l[i]):Closed (.tuple l)
theorem VR.closed{g g':Gam}(hm:g'.mem=g.mem){a:AV}(h:Closed a):∀{v:Value},VR g a v→VR g' a v:=by
 induction h with
 |undef=>intro v _;exact .undef v
 |bool b=>intro v hv;cases hv;exact .bool b
 |int k n=>intro v hv;cases hv;exact .int k n
 |str n b=>intro v hv;cases hv with|str _ _ h=>exact .str n b h
 |nilptr=>intro v hv;cases hv;exact .nilptr
 |iptr l h ih=>intro v hv;cases hv with|iptr _ vs β o hl hv' hmm=>exact .iptr l vs β o hl (fun i k1 k2=>ih i k1 (hv' i k1 k2)) fun i k=>by rw[hm];exact hmm i k
 |nilslice=>intro v hv;cases hv;exact .nilslice
 |empty=>intro v hv;cases hv with|empty a=>exact .empty a
 |vec l h ih =>
  intro v hv;cases hv with
  |vec _ vs β o c sz hl hn hz hz' hv' hmm=>exact .vec l vs β o c sz hl hn hz hz' (fun i k1 k2 j k3 k4=>ih i k1 j k3 (hv' i k1 k2 j k3 k4)) fun i k j k'=>by rw[hm];exact hmm i k j k'
 |nilmap=>intro v hv;cases hv;exact .nilmap
 |func f fs cs h1 h2 ih1 ih2=>intro v hv;cases hv with|func _ _ _ fv cv hf hc hfv hcv=>exact .func f fs cs fv cv hf hc (fun i k1 k2=>ih1 i k1 (hfv i k1 k2)) fun i k1 k2=>ih2 i k1 (hcv i k1 k2)
 |nilFunc=>intro v hv;cases hv;exact .nilFunc
 |iface t v h ih=>intro u hu;cases hu with|iface _ _ u' h'=>exact .iface t v u' (ih h')
 |nilIface=>intro v hv;cases hv;exact .nilIface
 |agg l h ih=>intro v hv;cases hv with|agg _ vs hl hv'=>exact .agg l vs hl fun i k1 k2=>ih i k1 (hv' i k1 k2)
 |tuple l h ih=>intro v hv;cases hv with|tuple _ vs hl hv'=>exact .tuple l vs hl fun i k1 k2=>ih i k1 (hv' i k1 k2)
end Go.Ab
namespace Go.Ab
open Go Go.RowKit
section
variable{P:Program}{G:Nat→Option (List AV)}
variable{K:World→Prop}
def GlobW(G:Nat→Option (List AV))(w:World):Prop:=∀n l,G n=some l→∃vs:List Value,(∀g,VRs g l vs)∧∀i (h:i<vs.length),w.cell? ⟨n,i,none⟩=some vs[i]
def memG(G:Nat→Option (List AV))(w:World):Nat→Nat→Option Value:=fun β o=>if (G β).isSome then w.cell? ⟨β,o,none⟩ else none
def bareG(m:Nat→Nat→Option Value):Gam:=⟨fun _=>none,fun _=>0,fun _=>0,m⟩
theorem QeH{F:FuncId→Option AFun}{M:Memo}(hF:FunOk P G F)(hM:Qao K P G M){f:FuncId}{args:List AV}{af:AF}(ha:AF.enter F f args .normal=some af){m:Nat}{s:AS}
  (hr:Qcf F M m ⟨af,[],⟨fun _=>none,0⟩⟩=some s)(hcs:s.cs=[])(hmd:s.fr.mode=.returning)(hdf:s.fr.defers=[])(hk:s.fr.kind=.normal){fn:AFun}(hfn:F s.fr.fn=some fn){v:AV}(hv:QaA s.h s.fr.tmps fn.results=some v)
  (hfe:s.fr.fn=f){g0:Gam}{vs:Array Value}{w:World}(H0:HR (CodeR P G) w.heap.size ⟨w,fun _=>False⟩ g0 ⟨fun _=>none,0⟩ w)(hG0:GlobR G g0)(hvs:VRs g0 args vs.toList)(hK:∀w',Below w.heap.size w w'→K w') :
  Calls P f vs w fun e w'=>∃u g,e=.returned u∧VR g v u∧HR (CodeR P G) w.heap.size ⟨w,fun _=>False⟩ g s.h w':=by
 intro C;obtain⟨hcur,mf,h1,h2,h3⟩:=Qei (P:=P) (h:=⟨fun _=>none,0⟩) hF hvs ha;have hst:StR P G C w.heap.size w ⟨af,[],⟨fun _=>none,0⟩⟩ (lone (Frame.enter P f vs .normal) C w) :=
  ⟨_,_,_,_,_,w,rfl,hcur,.nil,fun x hx=>hx.elim,H0.weaken fun x hx=>hx.elim id id,hG0⟩
 obtain⟨m',hsteps,hst'⟩:=Qd0 hF hM hK m hr hst;obtain⟨g,p,q,fr,cs,w',rfl,hcur',T,hpq,H,hG⟩:=hst';rw[hcs]at T;cases T;cases hcur' with
 |left _ _ hd hm ht =>
  obtain⟨mf',c,k1,k2,k3,k4,k5,k6⟩:=Qcd (hF _ _ hfn);obtain⟨u,hu,hvu⟩:=Qeu H k6 ht hv;have hfr:fr.fn=f:=by rw[hd.fn,hfe]
  refine⟨.returned u,w',fr,⟨u,g,rfl,hvu,H.weaken fun x hx=>hx.elim⟩,hsteps,hfr,?_,?_,?_,mf',?_,hu⟩
  ·have:=hd.mode;rw[hmd]at this;generalize fr.mode=z at this;cases this;rfl
  ·have:=hd.defers;rw[hdf]at this;generalize fr.defers=z at this;cases this;rfl
  ·rw[hd.kind,hk]
  ·rw[hfr,←hfe];exact k1
 |plain _ _ hd hm ht hk'=>rw[hmd]at hm;cases hm
 |rest _ _ l ops rest D fs tl mo ist ak k hd hm=>rw[hmd]at hm;cases hm
 |ends _ _ l ops rest D tl ak k hd hm=>rw[hmd]at hm;cases hm
 |draw _ _ l ops rest D fs tl js mo ist ag mask ak k hd hm=>rw[hmd]at hm;cases hm
 |main _ _ l ops mn rest D fs tl ist ag mask ak k hd hm=>rw[hmd]at hm;cases hm
theorem HR.bareG{CR:AC→Code→Prop}{B:Nat}{w0:Anchor}{g:Gam}{h:AH}{w:World}(H:HR CR B w0 g h w):HR CR w.heap.size ⟨w,fun _=>False⟩ (bareG g.mem) ⟨fun _=>none,0⟩ w:=
  ⟨fun _ _=>rfl,fun _ _=>rfl,fun b x hx=>(by cases hx),fun b β base o hr _=>(by cases hr),fun b b' β base base' o o' hr _ _ _ _=>(by cases hr),
   fun β o v hm=>H.mem β o v hm,fun b β base ob o hr _=>(by cases hr),fun b β base o hr _=>(by cases hr),Below.refl _ _,Nat.le_refl _,fun b hb=>hb.elim⟩
def Qen(G:Nat→Option (List AV)):Prop:=∀n l,G n=some l→Closed (.iptr l)
theorem QjD {F:FuncId→Option AFun} {M:Memo} (hF:FunOk P G F) (hM:Qao K P G M) {f:FuncId} {args:List AV} {af:AF} (ha:AF.enter F f args .normal=some af) {m:Nat} {s:AS}
    (hr:Qcf F M m ⟨af,[],⟨fun _=>none,0⟩⟩=some s)(hcs:s.cs=[])(hmd:s.fr.mode=.returning)(hdf:s.fr.defers=[])(hk:s.fr.kind=.normal){fn:AFun}(hfn:F s.fr.fn=some fn){v:AV}(hv:QaA s.h s.fr.tmps fn.results=some v)
    (hfe:s.fr.fn=f){sel:List Nat}(hd:sel.Nodup){c:Nat→AV×List AO}(hc:∀n,Taken sel n s.h v (c n).1 (c n).2)
    {B:Nat}{w0:Anchor}{g g0:Gam}{h:AH}{w:World}{vs:Array Value}(H:HR (CodeR P G) B w0 g h w)(H0:HR (CodeR P G) w.heap.size ⟨w,fun _=>False⟩ g0 ⟨fun _=>none,0⟩ w)(hG0:GlobR G g0)(hvs0:VRs g0 args vs.toList)(hK:∀w',Below w.heap.size w w'→K w') :
    (∃ fn,P.funcs[f]? = some fn∧fn.body.isSome=true∧fn.name ≠ "runtime.NumGoroutine") ∧
      Calls P f vs w fun e w'=>∃v g',e=.returned v∧VR g' (c h.next).1 v∧HR (CodeR P G) B w0 g' (h.allocs (c h.next).2) w'∧g.le g':=by
  have hcall:=QeH hF hM ha hr hcs hmd hdf hk hfn hv hfe H0 hG0 hvs0 hK;obtain⟨mf,cc,k1,k2,k3,k4,k5,k6⟩:=Qcd (hF _ _ hfn);refine⟨⟨mf,by rw[←hfe];exact k1,by rw[k2];rfl,k3⟩,fun C=>?_⟩;obtain⟨e,w',fr,⟨u,g',rfl,hu,H'⟩,rest⟩:=hcall C;obtain⟨j1,j2,j3⟩:=HR.join H H' hd (hc h.next) hu;exact⟨_,w',fr,⟨u,_,rfl,j1,j2,j3⟩,rest⟩
end
end Go.Ab
