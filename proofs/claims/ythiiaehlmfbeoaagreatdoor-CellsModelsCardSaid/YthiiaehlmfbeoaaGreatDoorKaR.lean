/-
 The machine for the kernel's own reckoning takes steps of the abstract machine: operations, code, frames; the whole.
-/
import Derived.Test.YthiiaehlmfbeoaaGreatDoorKaTtoKaS
set_option linter.all false
namespace Go.Ab
open Go
noncomputable section
section
variable{F:FuncId→Option AFun}{M:KMemo}{fin:KS→Bool}
theorem QfS:∀(mask:List Nat)(t:List AV),(mask.zip (List.replicate mask.length AV.undef)).foldl (fun t x=>t.set x.1 x.2) t=QdR t mask
 | [],_=>rfl
 |d::mask,t=>by
  simp only[List.length_cons,List.replicate_succ,List.zip_cons_cons,List.foldl_cons,QdR];rw[QfS mask];rfl
theorem Qjs{hd:KHd}{n:Nat}{tm:T8 AV}{todo:List AItem}{chain:List APanic}{cs:List KF}{nx:Nat}{t:T8 KO}{next:KC}(hn:QbQ F M fin next)(h:okT n tm)(hc:okCs cs)
  (he:QhN hd n tm todo chain cs nx t next=true):Good F M fin ⟨(kf hd n tm todo).raise chain,cs.map KF.abs,absH nx t⟩:=by
 unfold QhN at he;unfold AF.raise kf;cases hm:hd.mode with
 |run =>
  rw[hm]at he;simp only;have plain:next {hd with mode:=.panicking chain} n tm todo cs nx t=true→(AF.leftTmps (kf hd n tm todo))=rowL n tm→Good F M fin ⟨{fn:=hd.fn,tmps:=AF.leftTmps (kf hd n tm todo),todo:=todo,defers:=hd.defers,mode:=.panicking chain,kind:=hd.kind,roundOf:=hd.roundOf},cs.map KF.abs,absH nx t⟩:=by
   intro h1 h2;rw[h2];exact hn _ _ _ _ _ _ _ h hc h1
  have e:kf hd n tm todo={fn:=hd.fn,tmps:=rowL n tm,todo:=todo,defers:=hd.defers,mode:=.run,kind:=hd.kind,roundOf:=hd.roundOf}:=by unfold kf;rw[hm]
  rw[←e];cases todo with
  |nil=>exact plain he rfl
  |cons i k =>
   cases i with
   |inMain o ag mask plan =>
    have he':(Qf7 mask (List.replicate (List.length mask) .undef) n tm fun tm=>next {hd with mode:=.panicking chain} n tm (.inMain o ag mask plan::k) cs nx t)=true:=he;obtain⟨tm',h1,_,h2,h3⟩:=QeQ h he';rw[QfS]at h2;have:=hn _ _ _ _ _ _ _ h1 hc h3;simp only[stA,kf,h2]at this;exact this
   |_=>exact plain he rfl
 |returning =>
  rw[hm]at he;exact hn _ _ _ _ _ _ _ h hc he
 |panicking old =>
  rw[hm]at he;exact hn _ _ _ _ _ _ _ h hc he
theorem QeX{o:Option Nat}{k:Bool}(h:noneD o k=true):o=none∧k=true:=by
 cases o with
 |none=>exact⟨rfl,h⟩
 |some x=>cases h
theorem QoE{o:AOper}{hd:KHd}{n:Nat}{tm:T8 AV}{todo:List AItem}{cs:List KF}{nx:Nat}{t:T8 KO}{next:KC}(hn:QbQ F M fin next)(hm:hd.mode=.run)(h:okT n tm)(hc:okCs cs)
  (he:actK F M o.act hd n tm todo cs nx t next=true):∃s',aoper F (absM M) (stA hd n tm todo cs nx t) o=some s'∧Good F M fin s':=by
 unfold aoper;cases hact:o.act with
 |op a =>
  rw[hact]at he;have he':(kexec a tm nx t fun v nx t=>QaM v hd n tm todo cs nx t next)=true:=he;obtain⟨v,nx',t',h1,h2⟩:=Qc1 a tm nx t _ he';obtain⟨fr',h3,h4⟩:=QbH hn hm h hc h2;simp only[stA,kf,Qch h,h1];simp only[kf]at h3;rw[h3];exact⟨_,rfl,h4⟩
 |call f args =>
  rw[hact]at he;have he':(opK f tm fun vf=>opsK args tm fun va=>funcD vf (fun fn first cap=>callK F M fn (first++va++cap) hd n tm todo cs nx t next) (fun l=>QlK F l va hd n tm todo cs nx t next))=true:=he;rw[Qav,Qgn,QfN]at he';simp only[stA,kf,Qch h];generalize kev tm f=vf at he' ⊢;split at he'
  ·obtain⟨s',h1,h2⟩:=Qmh hn hm h hc he';exact⟨s',h1,h2⟩
  ·obtain⟨s',h1,h2⟩:=Qnt hn h hc he';exact⟨s',h1,h2⟩
  ·cases he'
 |defer f args =>
  rw[hact]at he;have he':noneD hd.roundOf (opK f tm fun vf=>opsK args tm fun va=>funcD vf (fun fn first cap=>QaM .undef {hd with defers:=.call fn (first++va++cap)::hd.defers} n tm todo cs nx t next) (fun _=>false))=true:=he
  replace he':=QeX he';obtain⟨hr,he'⟩:=he'
  rw[Qav,Qgn,QfN]at he';simp only[stA,kf,Qch h];generalize kev tm f=vf at he' ⊢;split at he'
  ·obtain⟨fr',h3,h4⟩:=QbH hn (hd:={hd with defers:=.call _ (_++args.map (kev tm)++_)::hd.defers}) hm h hc he';simp only[hr];simp only[kf,hr]at h3;rw[h3];exact⟨_,rfl,h4⟩
  ·cases he'
  ·cases he'
 |panic x =>
  rw[hact]at he;have he':(opK x tm fun v=>QjZ v (fun ty u=>QhN hd n tm todo [⟨.iface ty u,false⟩] cs nx t next) false)=true:=he;rw[Qav,QgP]at he';simp only[stA,kf,Qch h];generalize kev tm x=vx at he' ⊢;split at he'
  ·exact⟨_,rfl,Qjs hn h hc he'⟩
  ·cases he'
  ·cases he'
 |recover =>
  rw[hact]at he;have he':QlM hd n tm todo cs nx t next=true:=he
  replace he':=QeX he';obtain⟨hr,he'⟩:=he'
  simp only[stA,kf,hr];have nilc:QaM .nilIface hd n tm todo cs nx t next=true→∃s',(Option.map (fun fr=>({fr:=fr,cs:=cs.map KF.abs,h:=absH nx t}:AS)) ((kf hd n tm todo).finish (absH nx t) .nilIface))=some s'∧Good F M fin s':=by
   intro hf;obtain⟨fr',h3,h4⟩:=QbH hn hm h hc hf;rw[h3];exact⟨_,rfl,h4⟩
  have e:kf hd n tm todo={fn:=hd.fn,tmps:=rowL n tm,todo:=todo,defers:=hd.defers,mode:=hd.mode,kind:=hd.kind,roundOf:=none}:=by unfold kf;rw[hr]
  rw[←e];cases hk:hd.kind with
  |normal =>
   rw[hk]at he';rw[if_pos (.inl rfl)];have:QeL .normal (cs.map KF.abs)=none:=by cases cs<;>rfl
   rw[this];exact nilc he'
  |deferred =>
   rw[hk]at he';cases cs with
   |nil=>cases he'
   |cons c rest =>
    rw[if_pos (.inr ⟨rfl,rfl⟩)];simp only[List.map_cons,QeL];cases hcm:c.hd.mode with
    |run =>
     have he2:QaM .nilIface hd n tm todo (c::rest) nx t next=true:=by simpa only[hcm] using he'
     have e2:c.abs.mode=.run:=hcm;simp only[e2];exact nilc he2
    |returning =>
     have he2:QaM .nilIface hd n tm todo (c::rest) nx t next=true:=by simpa only[hcm] using he'
     have e2:c.abs.mode=.returning:=hcm;simp only[e2];exact nilc he2
    |panicking chain =>
     have e2:c.abs.mode=.panicking chain:=hcm;simp only[e2];cases chain with
     |nil =>
      have he2:QaM .nilIface hd n tm todo (c::rest) nx t next=true:=by simpa only[hcm] using he'
      exact nilc he2
     |cons p older =>
      obtain⟨pv,pr⟩:=p;cases pr with
      |true =>
       have he2:QaM .nilIface hd n tm todo (c::rest) nx t next=true:=by simpa only[hcm,Qaw,if_true] using he'
       exact nilc he2
      |false =>
       have he2:QaM pv hd n tm todo (⟨{c.hd with mode:=.panicking (⟨pv,true⟩::older)},c.n,c.tm,c.todo⟩::rest) nx t next=true:=by simpa only[hcm,Qaw,Bool.false_eq_true,if_false] using he'
       have hc2:okCs (⟨{c.hd with mode:=.panicking (⟨pv,true⟩::older)},c.n,c.tm,c.todo⟩::rest):=fun x hx=>by
        rcases List.mem_cons.1 hx with rfl|hx
        ·exact hc c (by simp)
        ·exact hc x (by simp[hx])
       obtain⟨fr',h3,h4⟩:=QbH hn hm h hc2 he2;simp only;rw[h3];exact⟨_,rfl,h4⟩
  |_=>rw[hk]at he';cases he'
theorem QnO{o:AOper}{hd:KHd}{n:Nat}{tm:T8 AV}{todo:List AItem}{cs:List KF}{nx:Nat}{t:T8 KO}{next:KC}(hn:QbQ F M fin next)(hm:hd.mode=.run)(h:okT n tm)(hc:okCs cs)
  (he:oneK F M o hd n tm todo cs nx t next=true):∃s',aone F (absM M) (stA hd n tm todo cs nx t) o=some s'∧Good F M fin s':=by
 unfold aone;have e:(stA hd n tm todo cs nx t).fr.tmps=rowL n tm:=rfl;rw[e];rcases QeC h he with⟨h1,h2⟩|⟨h1,h2⟩
 ·rw[h1];exact QoE hn hm h hc h2
 ·rw[h1];obtain⟨fr',h3,h4⟩:=QbH hn hm h hc h2;simp only[stA];rw[h3];exact⟨_,rfl,h4⟩
theorem QaE{s:AS}(h:s.fr.mode=.run):astep F (absM M) s=arun F (absM M) s:=by unfold astep;rw[h]
theorem QdF{next:KC}(hn:QbQ F M fin next):∀(ops:List AOper){hd:KHd}{n:Nat}{tm:T8 AV}{k:List AItem}{cs:List KF}{nx:Nat}{t:T8 KO},hd.mode=.run→okT n tm→okCs cs →
  QeW F M ops hd n tm k cs nx t next=true→Good F M fin (stA hd n tm (.inRegion ops::k) cs nx t)
 | [],hd,n,tm,k,cs,nx,t,hm,h,hc,he=>by
  refine Good.step (s1:=stA hd n tm k cs nx t) ?_ (hn _ _ _ _ _ _ _ h hc he);rw[QaE (show (stA hd n tm (.inRegion []::k) cs nx t).fr.mode=.run from hm)];rfl
 |o::rest,hd,n,tm,k,cs,nx,t,hm,h,hc,he=>by
  have hstep:astep F (absM M) (stA hd n tm (.inRegion (o::rest)::k) cs nx t)=aone F (absM M) (stA hd n tm (.inRegion (o::rest)::k) cs nx t) o:=by
   rw[QaE (show (stA hd n tm (.inRegion (o::rest)::k) cs nx t).fr.mode=.run from hm)];rfl
  have he':Qh2 o.guard tm
   (@AAct.rec (fun _=>Bool) (fun a=>kexec a tm nx t fun v nx t=>Qbi o.dst n tm v fun tm=>QeW F M rest hd n tm k cs nx t next)
    (fun f args=>actK F M (.call f args) hd n tm (.inRegion (o::rest)::k) cs nx t next) (fun f args=>actK F M (.defer f args) hd n tm (.inRegion (o::rest)::k) cs nx t next)
    (fun x=>actK F M (.panic x) hd n tm (.inRegion (o::rest)::k) cs nx t next) (actK F M .recover hd n tm (.inRegion (o::rest)::k) cs nx t next) o.act)
   (Qbi o.dst n tm (.tuple []) fun tm=>QeW F M rest hd n tm k cs nx t next)=true:=he
  have efr:(stA hd n tm (.inRegion (o::rest)::k) cs nx t).fr.tmps=rowL n tm:=rfl;rcases QeC h he' with⟨h1,h2⟩|⟨h1,h2⟩
  ·have hother:actK F M o.act hd n tm (.inRegion (o::rest)::k) cs nx t next=true→Good F M fin (stA hd n tm (.inRegion (o::rest)::k) cs nx t):=by
    intro ha;obtain⟨s',h3,h4⟩:=QoE (o:=o) hn hm h hc ha;refine Good.step (s1:=s') ?_ h4;rw[hstep];unfold aone;rw[efr,h1];exact h3
   cases hact:o.act with
   |op a =>
    rw[hact]at h2;have h2':(kexec a tm nx t fun v nx t=>Qbi o.dst n tm v fun tm=>QeW F M rest hd n tm k cs nx t next)=true:=h2;obtain⟨v,nx',t',h3,h4⟩:=Qc1 a tm nx t _ h2';obtain⟨tm',h5,h6,h7,_⟩:=QbA h h4;refine Good.step (s1:=stA hd n tm' (.inRegion rest::k) cs nx' t') ?_ (QdF hn rest hm h5 hc h7);rw[hstep];unfold aone;rw[efr,h1];simp only[aoper,hact,stA,kf,Qch h,h3,AF.finish,hm,h6];rfl
   |call f args=>rw[hact]at h2 hother;exact hother h2
   |defer f args=>rw[hact]at h2 hother;exact hother h2
   |panic x=>rw[hact]at h2 hother;exact hother h2
   |recover=>rw[hact]at h2 hother;exact hother h2
  ·obtain⟨tm',h5,h6,h7,_⟩:=QbA h h2;refine Good.step (s1:=stA hd n tm' (.inRegion rest::k) cs nx t) ?_ (QdF hn rest hm h5 hc h7);rw[hstep];unfold aone;rw[efr,h1];simp only[stA,kf,AF.finish,hm,h6];rfl
theorem Qof{o:AOper}{hd:KHd}{n:Nat}{tm:T8 AV}{todo todo0:List AItem}{cs:List KF}{nx:Nat}{t:T8 KO}{next:KC}(hn:QbQ F M fin next)(h:okT n tm)(hc:okCs cs)
  (he:Qog o hd n tm todo cs nx t next=true):∃s',QeO (stA hd n tm todo0 cs nx t) o todo=some s'∧Good F M fin s':=by
 unfold QeO;have efr:(stA hd n tm todo0 cs nx t).fr.tmps=rowL n tm:=rfl;rcases QeC h he with⟨h1,h2⟩|⟨h1,h2⟩
 ·rw[efr,h1];simp only;cases hact:o.act with
  |op a =>
   rw[hact]at h2;have h2':(kexec a tm nx t fun v nx t=>Qbi o.dst n tm v fun tm=>next hd n tm todo cs nx t)=true:=h2;obtain⟨v,nx',t',h3,h4⟩:=Qc1 a tm nx t _ h2';obtain⟨tm',h5,h6,h7,h8⟩:=QbA h h4;have eh:(stA hd n tm todo0 cs nx t).h=absH nx t:=rfl;rw[eh,Qch h];simp only[h3,h8,Bool.not_true,Bool.and_false,Bool.false_eq_true,if_false];refine⟨_,rfl,?_⟩;have:=hn _ _ _ _ _ _ _ h5 hc h7;simp only[stA,kf,h6]at this;exact this
  |_=>rw[hact]at h2;cases h2
 ·rw[efr,h1];obtain⟨tm',h5,h6,h7,_⟩:=QbA h h2;refine⟨_,rfl,?_⟩;have:=hn _ _ _ _ _ _ _ h5 hc h7;simp only[stA,kf,h6]at this;exact this
theorem Qf0{a:AAct}{k:Nat→AOpd→AOpd→Bool}(h:QlH a k=true):∃n x y,a=.op (.store n x y)∧k n x y=true:=by
 unfold QlH at h;split at h
 ·exact⟨_,_,_,rfl,h⟩
 ·cases h
theorem QfR{b o nx:Nat}{t:T8 KO}{k:Bool}(h:QlF b o t k=true):(absH nx t).whole b o=true∧k=true:=by
 simp only[QlF,QaG,Qis]at h;split at h
 ·rename_i ob hob;split at h
  ·rename_i len r sp pre anc
   replace h:=Qac h
   refine⟨?_,h.2⟩;have hg:(absH nx t).get b=some (.cells (rowL len r) sp pre anc):=by unfold absH;simp only[hob,Option.map_some,KO.abs]
   unfold AH.whole;rw[hg];exact h.1
  ·cases h
 ·cases h
theorem Qon{a b:AOper}{n:Nat}{tm:T8 AV}{nx:Nat}{t:T8 KO}{c:Nat→T8 KO→Bool}(h:okT n tm)(he:Qma a.act b.act tm nx t c=true):∃nx' t',ends2 (rowL n tm) (absH nx t) a b=some (absH nx' t')∧c nx' t'=true:=by
 unfold Qma at he;obtain⟨m,x,y,ha,he⟩:=Qf0 he;obtain⟨m',x',y',hb,he⟩:=Qf0 he;simp only[Qav,Qct]at he;split at he
 ·rename_i b1 o1 hx;split at he
  ·rename_i b2 o2 hx'
   replace he:=Qac he;obtain⟨hne,he⟩:=he
   obtain⟨hw1,he⟩:=QfR (nx:=nx) he;obtain⟨hw2,he⟩:=QfR (nx:=nx) he;obtain⟨v1,nx1,t1,e1,he⟩:=Qc1 _ _ _ _ _ he;obtain⟨v2,nx2,t2,e2,he⟩:=Qc1 _ _ _ _ _ he;refine⟨nx2,t2,?_,he⟩;unfold ends2;rw[ha,hb];simp only[Qch h,hx,hx'];rw[QkP]at hne;rw[if_pos (by rw[hne,hw1,hw2];rfl)];simp only[e1,e2]
  ·cases he
  ·cases he
 ·cases he
 ·cases he
theorem resK_ok{r:ARes}{n:Nat}{tm:T8 AV}{nx:Nat}{t:T8 KO}{k:AV→Bool}(h:okT n tm)(hr:resK r tm t k=true):∃v,Qcg (absH nx t) (rowL n tm) r=some v∧k v=true:=by
 cases r with
 |tmp s =>
  have hr':getK AV (path s) tm k (k .undef)=true:=hr;rw[Qdq]at hr';refine⟨(tm.get s).getD .undef,by simp only[Qcg,Qet h],?_⟩;unfold T8.get;cases hv:T8.getP (path s) tm with
  |none=>rw[hv]at hr';exact hr'
  |some v=>rw[hv]at hr';exact hr'
 |cell s agg m =>
  have hr':getK AV (path s) tm (fun a=>ptrD a (fun b o=>objK b t fun ob=>cellsD ob fun len r=>ifF (Nat.ble (Nat.add o m) len) (readK m o r fun l=>iteF agg (k (.agg l)) (@List.rec AV (fun _=>Bool) false (fun v l _=>nilD AV l (k v)) l)))
   (fun l=>ifF (Nat.ble m (List.length l)) (iteF agg (k (.agg (List.take m l))) (@List.rec AV (fun _=>Bool) false (fun v l _=>nilD AV l (k v)) (List.take m l))))) false=true:=hr
  rw[Qdq]at hr';cases hv:T8.getP (path s) tm with
  |none=>rw[hv]at hr';cases hr'
  |some a =>
   rw[hv]at hr';have hgd:(rowL n tm).getD s .undef=a:=by rw[Qet h];show (T8.getP (path s) tm).getD .undef=a;rw[hv];rfl
   have fin:∀l:List AV,loadA (absH nx t) m a=some l→iteF agg (k (.agg l)) (@List.rec AV (fun _=>Bool) false (fun v l _=>nilD AV l (k v)) l)=true→∃v,Qcg (absH nx t) (rowL n tm) (.cell s agg m)=some v∧k v=true:=by
    intro l hl hk;simp only[Qcg,hgd,hl];rw[Qaw]at hk;cases agg with
    |true=>exact⟨_,rfl,hk⟩
    |false =>
     simp only[Bool.false_eq_true,if_false]at hk ⊢;cases l with
     |nil=>cases hk
     |cons v l =>
      obtain⟨rfl,hk⟩:=QbN (l:=l) hk;exact⟨v,rfl,hk⟩
   simp only[Qct,QaG,QbJ,Qbd]at hr';cases a with
   |ptr b o =>
    simp only at hr';split at hr'
    ·rename_i ob hob;split at hr'
     ·rename_i len r hrow;obtain⟨h1,h2⟩:=Qac hr';exact fin _ (Qcl hob hrow (Nat.le_of_ble_eq_true h1)) h2
     ·cases hr'
    ·cases hr'
   |iptr l =>
    simp only at hr';obtain⟨h1,h2⟩:=Qac hr';exact fin _ (by simp only[loadA,if_pos (Nat.le_of_ble_eq_true h1)]) h2
   |_=>cases hr'
theorem QlL{n:Nat}{tm:T8 AV}{nx:Nat}{t:T8 KO}(h:okT n tm):∀{rs:List ARes}{k:List AV→Bool},ressK rs tm t k=true→∃l,rs.mapM (Qcg (absH nx t) (rowL n tm))=some l∧k l=true
 | [],k,hr=>⟨[],rfl,hr⟩
 |r::rs,k,hr=>by
  have hr':(resK r tm t fun v=>ressK rs tm t fun l=>k (v::l))=true:=hr;obtain⟨v,h1,h2⟩:=resK_ok (nx:=nx) h hr';obtain⟨l,h3,h4⟩:=QlL (nx:=nx) h h2;exact⟨v::l,by simp[List.mapM_cons,h1,h3],h4⟩
theorem QkJ{n:Nat}{tm:T8 AV}{nx:Nat}{t:T8 KO}(h:okT n tm){rs:List ARes}{k:AV→Bool}(hr:Qit rs tm t k=true):∃v,QaA (absH nx t) (rowL n tm) rs=some v∧k v=true:=by
 obtain⟨l,h1,h2⟩:=QlL (nx:=nx) h hr;unfold QaA;rw[h1]
 match l,h2 with
 | [],h2=>exact⟨_,rfl,h2⟩
 | [v],h2=>exact⟨v,rfl,h2⟩
 |_::_::_,h2=>exact⟨_,rfl,h2⟩
theorem Qns{hd:KHd}{k:Bool}(h:runD hd k=true):hd.mode=.run∧k=true:=by
 unfold runD at h;cases hm:hd.mode with
 |run=>rw[hm]at h;exact⟨rfl,h⟩
 |_=>rw[hm]at h;cases h
theorem QjP{v:AV}{kind:CallKind}{cs:List KF}{nx:Nat}{t:T8 KO}{next:KC}(hn:QbQ F M fin next)(hc:okCs cs)(he:QjQ v kind cs nx t next=true){fr:AF}(hk:fr.kind=kind) :
  ∃s',Qii ⟨fr,cs.map KF.abs,absH nx t⟩ v=some s'∧Good F M fin s':=by
 cases cs with
 |nil=>cases he
 |cons c rest =>
  have hc0:okT c.n c.tm:=hc c (by simp);have hcr:okCs rest:=fun x hx=>hc x (by simp[hx])
  unfold Qii;simp only[List.map_cons,hk];cases kind with
  |normal =>
   have he':runD c.hd (QaM v c.hd c.n c.tm c.todo rest nx t next)=true:=he;obtain⟨h1,h2⟩:=Qns he';obtain⟨fr',h3,h4⟩:=QbH hn h1 hc0 hcr h2;have h3':c.abs.finish (absH nx t) v=some fr':=h3;simp only[h3'];exact⟨_,rfl,h4⟩
  |deferred =>
   have hplain:next c.hd c.n c.tm c.todo rest nx t=true→Good F M fin ⟨c.abs,rest.map KF.abs,absH nx t⟩:=fun hx=>hn _ _ _ _ _ _ _ hc0 hcr hx
   have he':@AMode.rec (fun _=>Bool) false (next c.hd c.n c.tm c.todo rest nx t) (fun chain=>@List.rec APanic (fun _=>Bool) (next c.hd c.n c.tm c.todo rest nx t) (fun p _ _=>iteF p.recovered (next {c.hd with mode:=.returning} c.n c.tm c.todo rest nx t) (next c.hd c.n c.tm c.todo rest nx t)) chain) c.hd.mode=true:=he;have em:c.abs.mode=c.hd.mode:=rfl;simp only[em];cases hm:c.hd.mode with
   |run=>rw[hm]at he';cases he'
   |returning=>rw[hm]at he';exact⟨_,rfl,hplain he'⟩
   |panicking chain =>
    rw[hm]at he';cases chain with
    |nil=>exact⟨_,rfl,hplain he'⟩
    |cons p older =>
     obtain⟨pv,pr⟩:=p;cases pr with
     |true=>exact⟨_,rfl,hn _ _ _ _ _ _ _ hc0 hcr he'⟩
     |false=>exact⟨_,rfl,hplain he'⟩
  |_=>cases he
theorem Qkb(o:KO)(k:List ADef→Bool):Qg5 o k=match o with|.deferred (some ds)=>k ds|_=>false:=by
 cases o with
 |deferred ds=>cases ds<;>rfl
 |_=>rfl
theorem Qnf{hd:KHd}{n:Nat}{tm:T8 AV}{todo:List AItem}{cs:List KF}{nx:Nat}{t:T8 KO}{next:KC}(hn:QbQ F M fin next)(hm:hd.mode≠.run)(h:okT n tm)(hc:okCs cs)
  (he:unwK F fin hd n tm todo cs nx t next=true):Good F M fin (stA hd n tm todo cs nx t):=by
 have hstep:∀{s'},Qc7 F (stA hd n tm todo cs nx t)=some s'→Good F M fin s'→Good F M fin (stA hd n tm todo cs nx t):=by
  intro s' h1 h2;refine Good.step (s1:=s') ?_ h2;unfold astep;have em:(stA hd n tm todo cs nx t).fr.mode=hd.mode:=rfl;rw[em];cases hmm:hd.mode with
  |run=>exact absurd hmm hm
  |_=>exact h1
 unfold unwK at he;have ed:(stA hd n tm todo cs nx t).fr.defers=hd.defers:=rfl;have em:(stA hd n tm todo cs nx t).fr.mode=hd.mode:=rfl;cases hdf:hd.defers with
 |nil =>
  rw[hdf]at he;cases hmm:hd.mode with
  |run=>exact absurd hmm hm
  |returning =>
   rw[hmm]at he;cases hcs:cs with
   |nil =>
    subst hcs;exact⟨0,_,rfl,⟨⟨hd,n,tm,todo⟩,[],nx,t⟩,he,rfl⟩
   |cons c rest =>
    rw[hcs]at he;have he':(optF (F hd.fn) fun af=>Qit af.results tm t fun v=>QjQ v hd.kind (c::rest) nx t next)=true:=he;rw[Qbq]at he';split at he'
    ·rename_i af haf;obtain⟨v,h1,h2⟩:=QkJ (nx:=nx) h he';obtain⟨s',h3,h4⟩:=QjP hn (by rw[←hcs];exact hc) h2 (fr:=kf hd n tm todo) rfl;rw[←hcs]at h3 ⊢;refine hstep (s':=s') ?_ h4;unfold Qc7;rw[ed,hdf];simp only[em,hmm];have ef:(stA hd n tm todo cs nx t).fr.fn=hd.fn:=rfl;have er:QaA (stA hd n tm todo cs nx t).h (stA hd n tm todo cs nx t).fr.tmps af.results=some v:=h1;rw[ef,haf];simp only[er];exact h3
    ·cases he'
  |panicking chain =>
   rw[hmm]at he;cases hcs:cs with
   |nil=>rw[hcs]at he;cases he
   |cons c rest =>
    rw[hcs]at he;have he':QhN c.hd c.n c.tm c.todo chain rest nx t next=true:=he
    have hgood:=Qjs hn (hc c (by rw[hcs];simp)) (fun x hx=>hc x (by rw[hcs];simp[hx])) he';rw[←hcs];refine hstep ?_ hgood;unfold Qc7;rw[ed,hdf];simp only[em,hmm];have ec:(stA hd n tm todo cs nx t).cs=c.abs::rest.map KF.abs:=by rw[hcs];rfl
    rw[ec];rfl
 |cons d ds =>
  rw[hdf]at he;cases d with
  |call f args =>
   have he':Qan F f args .deferred (⟨{hd with defers:=ds},n,tm,todo⟩::cs) nx t next=true:=he
   obtain⟨fr,h1,h2⟩:=Qdv hn (fun c hcc=>(List.mem_cons.1 hcc).elim (fun e=>by rw[e];exact h) (hc c)) he';refine hstep ?_ h2;unfold Qc7;rw[ed,hdf];simp only[h1];rfl
  |collected b =>
   have he':(objK b t fun o=>Qg5 o fun calls=>putK' b (.deferred none) t fun t=>next {hd with defers:=calls++ds} n tm todo cs nx t)=true:=he;rw[QaG]at he';split at he'
   ·rename_i o ho;rw[Qkb]at he';split at he'
    ·rename_i calls;rw[putK'_eq]at he';have hget:(stA hd n tm todo cs nx t).h.get b=some (.deferred (some calls)):=by show (t.get b).map KO.abs=_;rw[ho];rfl
     have hgood:=hn _ _ _ _ _ _ _ h hc he';refine hstep ?_ hgood;unfold Qc7;rw[ed,hdf];simp only[hget];simp only[stA,Qa2];rfl
    ·cases he'
   ·cases he'
theorem Qi1{jump:Option AC}{pl:Bool}{hd:KHd}{n:Nat}{tm:T8 AV}{todo:List AItem}{cs:List KF}{nx:Nat}{t:T8 KO}{next:KC}(hn:QbQ F M fin next)(h:okT n tm)(hc:okCs cs)
  (he:endK jump pl hd n tm todo cs nx t next=true):∃s',aend (stA hd n tm todo cs nx t) jump pl=some s'∧Good F M fin s':=by
 obtain⟨hf,hds,hmo,hki,hro⟩:=hd;unfold endK at he;unfold aend;cases hro with
 |none =>
  have he':ifF pl (next ⟨hf,hds,.returning,hki,none⟩ n tm todo cs nx t)=true:=he;obtain⟨h1,h2⟩:=Qac he';rw[h1];exact⟨_,rfl,hn _ _ _ _ _ _ _ h hc h2⟩
 |some l =>
  cases hki with
  |normal =>
   have he':(objK l t fun o=>loopD o fun _ _ fn tmps ps a b d=>putK' l (.loop (@Option.rec AC (fun _=>LoopState) .ready (fun _=>.done) jump) jump fn tmps ps a b d) t fun t=>QjQ (.bool (@Option.rec AC (fun _=>Bool) true (fun _=>false) jump)) .normal cs nx t next)=true:=he;rw[QaG]at he';split at he'
   ·rename_i o ho;rw[QfM]at he';split at he'
    ·rename_i st pend fn tmps ps a b d;rw[putK'_eq]at he';have hget:(absH nx t).get l=some (.loop st pend fn tmps ps a b d):=by show (t.get l).map KO.abs=_;rw[ho];rfl
     simp only[stA,kf,hget];obtain⟨s',h3,h4⟩:=QjP hn hc he' (fr:=kf ⟨hf,hds,hmo,.normal,some l⟩ n tm todo) rfl;refine⟨s',?_,h4⟩;rw[Qa2]at h3;cases jump<;>exact h3
    ·cases he'
   ·cases he'
  |_=>cases he
theorem Qme{next:KC}(hn:QbQ F M fin next):∀(c:AC){k:List AItem}{hd:KHd}{n:Nat}{tm:T8 AV}{cs:List KF}{nx:Nat}{t:T8 KO},hd.mode=.run→okT n tm→okCs cs →
  codeK F M c k hd n tm cs nx t next=true→Good F M fin (stA hd n tm (.code c::k) cs nx t):=by
 intro c
 induction c with
 |skip =>
  intro k hd n tm cs nx t hm h hc he;refine Good.step (s1:=stA hd n tm k cs nx t) ?_ (hn _ _ _ _ _ _ _ h hc he);rw[QaE (show (stA hd n tm (.code .skip::k) cs nx t).fr.mode=.run from hm)];rfl
 |region ops =>
  intro k hd n tm cs nx t hm h hc he;refine Good.step (s1:=stA hd n tm (.inRegion ops::k) cs nx t) ?_ (QdF hn ops hm h hc he);rw[QaE (show (stA hd n tm (.code (.region ops)::k) cs nx t).fr.mode=.run from hm)];rfl
 |draw plan tl =>
  intro k hd n tm cs nx t hm h hc he;refine Good.step (s1:=stA hd n tm (.drawRest plan::.ends tl::k) cs nx t) ?_ (hn _ _ _ _ _ _ _ h hc he);rw[QaE (show (stA hd n tm (.code (.draw plan tl)::k) cs nx t).fr.mode=.run from hm)];rfl
 |seq a b iha ihb =>
  intro k hd n tm cs nx t hm h hc he;refine Good.step (s1:=stA hd n tm (.code a::.code b::k) cs nx t) ?_ (iha hm h hc he);rw[QaE (show (stA hd n tm (.code (.seq a b)::k) cs nx t).fr.mode=.run from hm)];rfl
 |cond x a b iha ihb =>
  intro k hd n tm cs nx t hm h hc he;have he':(opK x tm fun v=>boolD v fun z=>iteF z (codeK F M a k hd n tm cs nx t next) (codeK F M b k hd n tm cs nx t next))=true:=he;rw[Qav,Qi9]at he';split at he'
  ·rename_i z hz;rw[Qaw]at he';have hev:aev (stA hd n tm (.code (.cond x a b)::k) cs nx t).fr.tmps x=.bool z:=by
    show aev (rowL n tm) x=_;rw[Qch h,hz]
   refine Good.step (s1:=stA hd n tm (.code (if z then a else b)::k) cs nx t) ?_ ?_
   ·rw[QaE (show (stA hd n tm (.code (.cond x a b)::k) cs nx t).fr.mode=.run from hm)];show (match aev (stA hd n tm (.code (.cond x a b)::k) cs nx t).fr.tmps x with|.bool b=>_|_=>none)=_;rw[hev];rfl
   ·cases z
    ·exact ihb hm h hc he'
    ·exact iha hm h hc he'
  ·cases he'
 |block id b ihb =>
  intro k hd n tm cs nx t hm h hc he;refine Good.step (s1:=stA hd n tm (.code b::.inBlock id::k) cs nx t) ?_ (ihb hm h hc he);rw[QaE (show (stA hd n tm (.code (.block id b)::k) cs nx t).fr.mode=.run from hm)];rfl
 |loop b ihb =>
  intro k hd n tm cs nx t hm h hc he;refine Good.step (s1:=stA hd n tm (.code b::.inLoop b::k) cs nx t) ?_ (ihb hm h hc he);rw[QaE (show (stA hd n tm (.code (.loop b)::k) cs nx t).fr.mode=.run from hm)];rfl
 |rangeFunc f ps a b _ _ =>
  intro k hd n tm cs nx t hm h hc he;have he':noneD hd.roundOf (opK f tm fun vf=>natF (Nat.succ nx) fun l=>Qbm (.deferred (some [])) nx t fun nx1 t1=>Qbm (.loop .ready none hd.fn (rowL n tm) ps a b nx) nx1 t1 fun nx2 t2 =>
   funcD vf (fun fn first cap=>callK F M fn (first++[.yield l]++cap) {hd with defers:=.collected nx::hd.defers} n tm (.inRangeFunc l::k) cs nx2 t2 next) (fun _=>false))=true:=he
  replace he':=QeX he';obtain⟨hr,he'⟩:=he'
  rw[Qav,Qas,QaT,QaT,QfN]at he';split at he'
  ·rename_i fn first cap hf
   obtain⟨s',h1,h2⟩:=Qmh hn (hd:={hd with defers:=.collected nx::hd.defers}) hm h hc he';refine Good.step (s1:=s') ?_ h2;rw[QaE (show (stA hd n tm (.code (.rangeFunc f ps a b)::k) cs nx t).fr.mode=.run from hm)];have er:(stA hd n tm (.code (.rangeFunc f ps a b)::k) cs nx t).fr.roundOf=none:=hr;have hev:aev (stA hd n tm (.code (.rangeFunc f ps a b)::k) cs nx t).fr.tmps f=.func fn first cap:=by
    show aev (rowL n tm) f=_;rw[Qch h,hf]
   show (match (stA hd n tm (.code (.rangeFunc f ps a b)::k) cs nx t).fr.roundOf with|some _=>none|none=>_)=_;rw[er];simp only[hev,QaR];rw[←h1];simp only[stA,QaN];rfl
  ·cases he'
  ·cases he'
 |exit id =>
  intro k hd n tm cs nx t hm h hc he;have hstep:=QaE (F:=F) (M:=M) (show (stA hd n tm (.code (.exit id)::k) cs nx t).fr.mode=.run from hm);have he':@Option.rec (List AItem) (fun _=>Bool) (endK (some (.exit id)) false hd n tm (.code (.exit id)::k) cs nx t next) (fun k'=>next hd n tm k' cs nx t) (Qal id k)=true:=he;have hrun:arun F (absM M) (stA hd n tm (.code (.exit id)::k) cs nx t)=(match Qal id k with|some k'=>some (stA hd n tm k' cs nx t)|none=>aend (stA hd n tm (.code (.exit id)::k) cs nx t) (some (.exit id)) false):=rfl;cases hx:Qal id k with
  |some k' =>
   rw[hx]at he' hrun;exact Good.step (s1:=stA hd n tm k' cs nx t) (by rw[hstep,hrun]) (hn _ _ _ _ _ _ _ h hc he')
  |none =>
   rw[hx]at he' hrun;obtain⟨s',h1,h2⟩:=Qi1 hn h hc he';exact Good.step (s1:=s') (by rw[hstep,hrun];exact h1) h2
 |scope b ihb =>
  intro k hd n tm cs nx t hm h hc he;refine Good.step (s1:=stA hd n tm (.code b::.inScope b::k) cs nx t) ?_ (ihb hm h hc he);rw[QaE (show (stA hd n tm (.code (.scope b)::k) cs nx t).fr.mode=.run from hm)];rfl
 |label l =>
  intro k hd n tm cs nx t hm h hc he;refine Good.step (s1:=stA hd n tm k cs nx t) ?_ (hn _ _ _ _ _ _ _ h hc he);rw[QaE (show (stA hd n tm (.code (.label l)::k) cs nx t).fr.mode=.run from hm)];rfl
 |goto l =>
  intro k hd n tm cs nx t hm h hc he;have hstep:=QaE (F:=F) (M:=M) (show (stA hd n tm (.code (.goto l)::k) cs nx t).fr.mode=.run from hm);have he':@Option.rec (List AItem) (fun _=>Bool) (endK (some (.goto l)) false hd n tm (.code (.goto l)::k) cs nx t next) (fun k'=>next hd n tm k' cs nx t) (Qcy l k)=true:=he;have hrun:arun F (absM M) (stA hd n tm (.code (.goto l)::k) cs nx t)=(match Qcy l k with|some k'=>some (stA hd n tm k' cs nx t)|none=>aend (stA hd n tm (.code (.goto l)::k) cs nx t) (some (.goto l)) false):=rfl;cases hx:Qcy l k with
  |some k' =>
   rw[hx]at he' hrun;exact Good.step (s1:=stA hd n tm k' cs nx t) (by rw[hstep,hrun]) (hn _ _ _ _ _ _ _ h hc he')
  |none =>
   rw[hx]at he' hrun;obtain⟨s',h1,h2⟩:=Qi1 hn h hc he';exact Good.step (s1:=s') (by rw[hstep,hrun];exact h1) h2
 |ret =>
  intro k hd n tm cs nx t hm h hc he;have he':endK (some .ret) true hd n tm (.code .ret::k) cs nx t next=true:=he
  obtain⟨s',h1,h2⟩:=Qi1 hn h hc he';refine Good.step (s1:=s') ?_ h2;rw[QaE (show (stA hd n tm (.code .ret::k) cs nx t).fr.mode=.run from hm)];exact h1
 |stuck=>intro k hd n tm cs nx t hm h hc he;cases he
theorem itemK_ok{next:KC}(hn:QbQ F M fin next)(i:AItem){k:List AItem}{hd:KHd}{n:Nat}{tm:T8 AV}{cs:List KF}{nx:Nat}{t:T8 KO}(hm:hd.mode=.run)(h:okT n tm)(hc:okCs cs)
  (he:itemK F M i k hd n tm cs nx t next=true):Good F M fin (stA hd n tm (i::k) cs nx t):=by
 have hstep:=QaE (F:=F) (M:=M) (show (stA hd n tm (i::k) cs nx t).fr.mode=.run from hm);cases i with
 |code c=>exact Qme hn c hm h hc he
 |inBlock id=>exact Good.step (s1:=stA hd n tm k cs nx t) (by rw[hstep];rfl) (hn _ _ _ _ _ _ _ h hc he)
 |inLoop b=>exact Good.step (s1:=stA hd n tm (.code b::.inLoop b::k) cs nx t) (by rw[hstep];rfl) (Qme hn b hm h hc he)
 |inScope b=>exact Good.step (s1:=stA hd n tm k cs nx t) (by rw[hstep];rfl) (hn _ _ _ _ _ _ _ h hc he)
 |inRegion ops=>exact QdF hn ops hm h hc he
 |inDraw ops main ag mask plan =>
  cases ops with
  |nil =>
   cases main with
   |none=>exact Good.step (s1:=stA hd n tm (.drawRest plan::k) cs nx t) (by rw[hstep];rfl) (hn _ _ _ _ _ _ _ h hc he)
   |some o =>
    have he':oneK F M o hd n tm (.inMain o ag mask plan::k) cs nx t next=true:=he
    obtain⟨s',h1,h2⟩:=QnO hn hm h hc he';refine Good.step (s1:=stA hd n tm (.inMain o ag mask plan::k) cs nx t) (by rw[hstep];rfl) (Good.step (s1:=s') ?_ h2);rw[QaE (show (stA hd n tm (.inMain o ag mask plan::k) cs nx t).fr.mode=.run from hm)];exact h1
  |cons o rest =>
   have he':Qog o hd n tm (.inDraw rest main ag mask plan::k) cs nx t next=true:=he
   obtain⟨s',h1,h2⟩:=Qof (todo0:=.inDraw (o::rest) main ag mask plan::k) hn h hc he';exact Good.step (s1:=s') (by rw[hstep];exact h1) h2
 |inMain o ag mask plan =>
  have he':oneK F M o hd n tm (.inMain o ag mask plan::k) cs nx t next=true:=he
  obtain⟨s',h1,h2⟩:=QnO hn hm h hc he';exact Good.step (s1:=s') (by rw[hstep];exact h1) h2
 |drawRest plan =>
  cases plan with
  |nil=>exact Good.step (s1:=stA hd n tm k cs nx t) (by rw[hstep];rfl) (hn _ _ _ _ _ _ _ h hc he)
  |cons st plan=>exact Good.step (s1:=stA hd n tm (.inDraw st.ops st.main st.again st.mask plan::k) cs nx t) (by rw[hstep];rfl) (hn _ _ _ _ _ _ _ h hc he)
 |ends tl =>
  cases tl with
  |nil=>exact Good.step (s1:=stA hd n tm k cs nx t) (by rw[hstep];rfl) (hn _ _ _ _ _ _ _ h hc he)
  |cons a tl =>
   cases tl with
   |nil=>cases he
   |cons b tl =>
    cases tl with
    |cons _ _=>cases he
    |nil =>
     have he':Qma a.act b.act tm nx t (fun nx t=>next hd n tm k cs nx t)=true:=he;obtain⟨nx',t',h1,h2⟩:=Qon h he';refine Good.step (s1:=stA hd n tm k cs nx' t') ?_ (hn _ _ _ _ _ _ _ h hc h2);rw[hstep];simp only[arun,stA,kf,h1]
 |inRangeFunc l=>cases he
 |endRangeFunc l =>
  have he':(objK l t fun o=>loopD o fun st pend fn tmps ps a b d=>@LoopState.rec (fun _=>Bool -> Bool) (fun x=>x) (fun _=>false) (fun x=>x) (fun x=>x) st
   (putK' l (.loop .exhausted pend fn tmps ps a b d) t fun t=>@Option.rec AC (fun _=>Bool) (next hd n tm k cs nx t) (fun c=>next hd n tm (.code c::k) cs nx t) pend))=true:=he
  rw[QaG]at he';split at he'
  ·rename_i o ho;rw[QfM]at he';split at he'
   ·rename_i st pend fn tmps ps a b d;have hget:(stA hd n tm (.endRangeFunc l::k) cs nx t).h.get l=some (.loop st pend fn tmps ps a b d):=by show (t.get l).map KO.abs=_;rw[ho];rfl
    have hrun:arun F (absM M) (stA hd n tm (.endRangeFunc l::k) cs nx t)=(match (stA hd n tm (.endRangeFunc l::k) cs nx t).h.get l with
     |some (.loop st pend fn tmps params assign body d)=>if st=.busy then none else some {(stA hd n tm (.endRangeFunc l::k) cs nx t) with fr:={(stA hd n tm (.endRangeFunc l::k) cs nx t).fr with todo:=match pend with|some c=>.code c::k|none=>k},h:=(stA hd n tm (.endRangeFunc l::k) cs nx t).h.put l (.loop .exhausted pend fn tmps params assign body d)}
     |_=>none):=rfl
    rw[hget]at hrun;simp only at hrun;have key:st≠.busy∧(putK' l (.loop .exhausted pend fn tmps ps a b d) t fun t=>@Option.rec AC (fun _=>Bool) (next hd n tm k cs nx t) (fun c=>next hd n tm (.code c::k) cs nx t) pend)=true:=by
     cases st with
     |busy=>cases he'
     |ready=>exact⟨by simp,he'⟩
     |done=>exact⟨by simp,he'⟩
     |exhausted=>exact⟨by simp,he'⟩
    obtain⟨hne,he2⟩:=key;rw[if_neg hne]at hrun;rw[putK'_eq]at he2;refine Good.step (by rw[hstep,hrun]) ?_;cases pend with
    |none =>
     have:=hn _ _ _ _ _ _ _ h hc he2;simp only[stA,Qa2]at this;exact this
    |some c =>
     have:=hn _ _ _ _ _ _ _ h hc he2;simp only[stA,Qa2]at this;exact this
   ·cases he'
  ·cases he'
 |beginRound =>
  have he':(optF hd.roundOf fun l=>objK l t fun o=>loopD o fun st pend fn tmps ps a b d=>@LoopState.rec (fun _=>Bool→Bool) (fun x=>x) (fun _=>false) (fun _=>false) (fun _=>false) st
   (putK' l (.loop .busy pend fn tmps ps a b d) t fun t=>next hd n tm k cs nx t))=true:=he
  rw[Qbq]at he';split at he'
  ·rename_i l hl;rw[QaG]at he';split at he'
   ·rename_i o ho;rw[QfM]at he';split at he'
    ·rename_i st pend fn tmps ps a b d;cases st with
     |ready =>
      have he2:(putK' l (.loop .busy pend fn tmps ps a b d) t fun t=>next hd n tm k cs nx t)=true:=he';rw[putK'_eq]at he2;have hget:(stA hd n tm (.beginRound::k) cs nx t).h.get l=some (.loop .ready pend fn tmps ps a b d):=by show (t.get l).map KO.abs=_;rw[ho];rfl
      have er:(stA hd n tm (.beginRound::k) cs nx t).fr.roundOf=some l:=hl;have hrun:arun F (absM M) (stA hd n tm (.beginRound::k) cs nx t)=(match (stA hd n tm (.beginRound::k) cs nx t).fr.roundOf with
       |some l=>match (stA hd n tm (.beginRound::k) cs nx t).h.get l with
        |some (.loop .ready pend fn tmps params assign body d)=>some {(stA hd n tm (.beginRound::k) cs nx t) with fr:={(stA hd n tm (.beginRound::k) cs nx t).fr with todo:=k},h:=(stA hd n tm (.beginRound::k) cs nx t).h.put l (.loop .busy pend fn tmps params assign body d)}
        |_=>none
       |none=>none):=rfl
      rw[er]at hrun;simp only[hget]at hrun;refine Good.step (by rw[hstep,hrun]) ?_;have:=hn _ _ _ _ _ _ _ h hc he2;simp only[stA,Qa2]at this;exact this
     |_=>cases he'
    ·cases he'
   ·cases he'
  ·cases he'
theorem stepK_ok{hd:KHd}{n:Nat}{tm:T8 AV}{todo:List AItem}{cs:List KF}{nx:Nat}{t:T8 KO}{next:KC}(hn:QbQ F M fin next)(h:okT n tm)(hc:okCs cs)
  (he:stepK F M fin hd n tm todo cs nx t next=true):Good F M fin (stA hd n tm todo cs nx t):=by
 unfold stepK at he;cases hm:hd.mode with
 |run =>
  rw[hm]at he;cases todo with
  |nil =>
   have he':endK none true hd n tm [] cs nx t next=true:=he
   obtain⟨s',h1,h2⟩:=Qi1 hn h hc he';refine Good.step (s1:=s') ?_ h2;rw[QaE (show (stA hd n tm [] cs nx t).fr.mode=.run from hm)];exact h1
  |cons i k=>exact itemK_ok hn i hm h hc he
 |returning=>rw[hm]at he;exact Qnf hn (by rw[hm];simp) h hc he
 |panicking chain=>rw[hm]at he;exact Qnf hn (by rw[hm];simp) h hc he
theorem QfL:∀(fuel:Nat),QbQ F M fin (loopK F M fin fuel)
 |0=>fun hd n tm todo cs nx t _ _ he=>⟨0,_,rfl,⟨⟨hd,n,tm,todo⟩,cs,nx,t⟩,he,rfl⟩
 |fuel+1=>fun hd n tm todo cs nx t h hc he=>stepK_ok (QfL fuel) h hc he
end
end
end Go.Ab
