/- A part of a proof. -/
import Derived.IntWalk
import Derived.MapKept
import Derived.Lib.UnsafeStr
import Derived.Test.YthiiaehlmfbeoaaGreatDoorAbBtoAbS
set_option linter.all false
set_option maxHeartbeats 4000000
namespace Go.Ab
open Go Go.RowKit
section
variable{CR:AC→Code→Prop}{B:Nat}{w0:Anchor}{g g':Gam}{h h':AH}{w w':World}{P:Program}
theorem Qjm{t:TypeId}(ht:P.underlying t=some .string){s:ByteArray}{lo hi:Option AV}{lo' hi':Option Value}{l k:Nat}(hl:Qaz 0 lo=some l)(hk:Qaz s.size hi=some k)
  (hlo:OptR (VR g) lo lo')(hhi:OptR (VR g) hi hi')(hlk:l≤k)(hks:k≤s.size):(Instr.sliceAt t (.string s) lo' hi' none).run P w=.ok (.string (s.extract l k)) w:=by
 have:=Qd6 (P:=P) (w:=w) (isS:=false) hl hk hlo hhi hlk hks;simp[Instr.sliceAt,Instr.slice,run_underlying ht,this]
theorem QcF{t e:TypeId}(ht:P.underlying t=some (.slice e)){size:Nat}(hs:sizeT P e=some size){a:Option Addr}{n c:Nat}{lo hi:Option AV}{lo' hi':Option Value}{l k:Nat}
  (hl:Qaz 0 lo=some l)(hk:Qaz n hi=some k)(hlo:OptR (VR g) lo lo')(hhi:OptR (VR g) hi hi')(hlk:l≤k)(hkc:k≤c) :
  (Instr.sliceAt t (.slice a n c) lo' hi' none).run P w=.ok (.slice (if c=l then a else a.map (·.add (l*size))) (k-l) (c-l)) w:=by
 have:=Qd6 (P:=P) (w:=w) (isS:=true) hl hk hlo hhi hlk hkc;simp[Instr.sliceAt,Instr.slice,run_underlying ht,this,run_sizeOf hs]
theorem QcE{t e:TypeId}(ht:P.underlying t=some (.slice e)){size:Nat}(hs:sizeT P e=some size){a:Option Addr}{n c:Nat}{lo:Option AV}{hi mx:AV}{lo':Option Value}{hi' mx':Value}{l k m:Nat}
  (hl:Qaz 0 lo=some l)(hk:asNat hi=some k)(hm:asNat mx=some m)(hlo:OptR (VR g) lo lo')(hhi:VR g hi hi')(hmx:VR g mx mx')(hlk:l≤k)(hkm:k≤m)(hmc:m≤c) :
  (Instr.sliceAt t (.slice a n c) lo' (some hi') (some mx')).run P w=.ok (.slice (if m=l then a else a.map (·.add (l*size))) (k-l) (m-l)) w:=by
 have:=QkI (P:=P) (w:=w) (isS:=true) (len:=n) hl hk hm hlo hhi hmx hlk hkm hmc;simp[Instr.sliceAt,Instr.slice,run_underlying ht,this,run_sizeOf hs]
theorem VR.vecSub{l:List (List AV)}{v:Value}(hv:VR g (.vec l) v)(i k:Nat)(hik:i≤k)(hk:k≤l.length) :
  ∃a c sz,v=.slice (some a) l.length c∧l.length≤c∧(∀j (h:j<l.length),l[j].length=sz) ∧
   ∀c',k-i≤c'→(VR g (.vec ((l.drop i).take (k-i))) (.slice (some (a.add (i*sz))) (k-i) c'))∧(k-i=0→VR g (.vec ((l.drop i).take (k-i))) (.slice (some a) (k-i) c')):=by
 cases hv with
 |vec l vs β o c sz hl hn hz hz' hv hm =>
  have hlen:((l.drop i).take (k-i)).length=k-i:=by simp;omega
  refine⟨⟨β,o,none⟩,c,sz,rfl,hn,hz,fun c' hc'=>⟨?_,fun h0=>?_⟩⟩
  ·rw[addr_add];have:=VR.vec (g:=g) ((l.drop i).take (k-i)) ((vs.drop i).take (k-i)) β (o+i*sz) c' sz (by simp[hl]) (by rw[hlen];exact hc')
    (fun j h1=>by simp only[List.getElem_take,List.getElem_drop];exact hz _ _) (fun j h1=>by simp only[List.getElem_take,List.getElem_drop];exact hz' _ _)
    (fun j h1 h2 m h3 h4=>by simp only[List.getElem_take,List.getElem_drop]at h3 h4 ⊢;exact hv _ _ _ _ _ _)
    (fun j h2 m h4=>by
     simp only[List.getElem_take,List.getElem_drop]at h4 ⊢;have:=hm (i+j) (by simp at h2;omega) m h4;rw[←this]
     congr 1
     rw[Nat.add_mul];omega)
   rw[hlen]at this;exact this
  ·have hnil:(l.drop i).take (k-i)=[]:=by rw[h0];simp
   rw[hnil,h0];exact VR.vec (g:=g) [] [] β o c' sz rfl (Nat.zero_le _) (fun j h1=>absurd h1 (by simp)) (fun j h1=>absurd h1 (by simp)) (fun j h1=>absurd h1 (by simp)) (fun j h1=>absurd h1 (by simp))
theorem Qk7 {t e : TypeId} (ht : P.underlying t = some (.slice e)) {size : Nat} (hs : sizeT P e = some size) {lo hi mx : Option AV} {lo' hi' mx' : Option Value} {x r : AV} {u : Value}
    (hr:QbL size lo hi mx x=some r)(hlo:OptR (VR g) lo lo')(hhi:OptR (VR g) hi hi')(hmx:OptR (VR g) mx mx')(hx:VR g x u) :
    ∃v,(Instr.sliceAt t u lo' hi' mx').run P w=.ok v w∧VR g r v:=by
  have hnone:mx=none→mx'=none:=fun e=>by subst e;cases mx' with|none=>rfl|some v=>exact hmx.elim
  have hsome:∀m,mx=some m→∃m',mx'=some m'∧VR g m m':=fun m e=>by subst e;cases mx' with|none=>exact hmx.elim|some v=>exact⟨v,rfl,hmx⟩
  have hhsome:∀m,hi=some m→∃m',hi'=some m'∧VR g m m':=fun m e=>by subst e;cases hi' with|none=>exact hhi.elim|some v=>exact⟨v,rfl,hhi⟩
  cases hx with
  |sliceC b o n c β base hrho hn =>
    simp only[QbL]at hr;split at hr
    · rename_i l k h1 h2;split at hr
      · rename_i hc;obtain⟨hlk,hkc⟩:=hc;have hm':=hnone rfl;subst hm';have hrun:=QcF (P:=P) (w:=w) ht hs (a:=some ⟨β,base+o,none⟩) h1 h2 hlo hhi hlk hkc;refine⟨_,hrun,?_⟩;simp only[oI]at hr;subst hr;by_cases hcl:c=l
        · rw[if_pos hcl,if_pos hcl];have:k-l=0:=by omega
          rw[this,show c-l=0 by omega];exact .empty _
        · rw[if_neg hcl,if_neg hcl];simp only[Option.map_some,addr_add,Nat.add_assoc];exact .sliceC _ _ _ _ _ _ hrho (by omega)
      · cases hr
    · rename_i l k m h1 h2;obtain⟨m',rfl,hmv⟩:=hsome _ rfl;split at hr
      · rename_i mm hh hm;obtain⟨h',rfl,hhv⟩:=hhsome _ rfl;split at hr
        · rename_i hc;obtain⟨hlk,hkm,hmc⟩:=hc;simp only[Qaz]at h2;have hrun:=QcE (P:=P) (w:=w) ht hs (a:=some ⟨β,base+o,none⟩) (n:=n) h1 h2 hm hlo hhv hmv hlk hkm hmc;refine⟨_,hrun,?_⟩;simp only[oI]at hr;subst hr;by_cases hcl:mm=l
          · rw[if_pos hcl,if_pos hcl];rw[show k-l=0 by omega,show mm-l=0 by omega];exact .empty _
          · rw[if_neg hcl,if_neg hcl];simp only[Option.map_some,addr_add,Nat.add_assoc];exact .sliceC _ _ _ _ _ _ hrho (by omega)
        · cases hr
      · cases hr
    · cases hr
  |sliceN b o n es c β base a hrho hn ha htop =>
    simp only[QbL]at hr;split at hr
    · rename_i l k h1 h2;split at hr
      · rename_i hc;obtain⟨hlk,hkc,rfl⟩:=hc;have hm':=hnone rfl;subst hm';have hrun:=QcF (P:=P) (w:=w) ht hs (a:=some a) (c:=c) h1 h2 hlo hhi hlk (by omega);refine⟨_,hrun,?_⟩;simp only[oI]at hr;subst hr;have htop':o+l*es+(c-l)*es=g.top b:=by
          rw[Nat.add_assoc, ←Nat.add_mul,Nat.add_sub_cancel' (by omega)];exact htop
        by_cases hcl:c=l
        · rw[if_pos hcl];exact .sliceN _ _ _ _ _ _ _ _ hrho (by omega) (.inl (by omega)) htop'
        · rw[if_neg hcl];simp only[Option.map_some];refine .sliceN _ _ _ _ _ _ _ _ hrho (by omega) (.inr ?_) htop';rw[ha.resolve_left (by omega),addr_add,Nat.add_assoc]
      · cases hr
    · rename_i l k m h1 h2;obtain⟨m',rfl,hmv⟩:=hsome _ rfl;split at hr
      · rename_i mm hh hm;obtain⟨h',rfl,hhv⟩:=hhsome _ rfl;split at hr
        · rename_i hc;obtain⟨hlk,hkm,hmc⟩:=hc;simp only[Qaz]at h2;have hrun:=QcE (P:=P) (w:=w) ht hs (a:=some a) (n:=n) (c:=c) h1 h2 hm hlo hhv hmv hlk hkm (by omega);refine⟨_,hrun,?_⟩;simp only[oI]at hr;subst hr;by_cases hcl:mm=l
          · rw[if_pos hcl,if_pos hcl];rw[show k-l=0 by omega,show mm-l=0 by omega];exact .empty _
          · rw[if_neg hcl,if_neg hcl];simp only[Option.map_some];rw[ha.resolve_left (by omega),addr_add,Nat.add_assoc];exact .sliceC _ _ _ _ _ _ hrho (by omega)
        · cases hr
      · cases hr
    · cases hr
  |nilslice =>
    simp only[QbL]at hr;split at hr
    · rename_i h1 h2 h3;split at hr
      · cases hr
      rename_i hnn;cases hr;cases mx with
      |none =>
        have hm':=hnone rfl;subst hm';have hrun:=QcF (P:=P) (w:=w) ht hs (a:=none) (n:=0) (c:=0) h1 h2 hlo hhi (Nat.le_refl _) (Nat.le_refl _);exact⟨_,hrun,by simp;exact .nilslice⟩
      |some m =>
        obtain⟨m',rfl,hmv⟩:=hsome _ rfl;cases hi with
        |none=>simp at hnn
        |some hv =>
          obtain⟨h',rfl,hhv⟩:=hhsome _ rfl;simp only[Qaz]at h2 h3;have hrun:=QcE (P:=P) (w:=w) ht hs (a:=none) (n:=0) (c:=0) h1 h2 h3 hlo hhv hmv (Nat.le_refl _) (Nat.le_refl _) (Nat.le_refl _);exact⟨_,hrun,by simp;exact .nilslice⟩
    · cases hr
  |empty a =>
    simp only[QbL]at hr;split at hr
    · rename_i h1 h2 h3;split at hr
      · cases hr
      rename_i hnn;cases hr;cases mx with
      |none =>
        have hm':=hnone rfl;subst hm';have hrun:=QcF (P:=P) (w:=w) ht hs (a:=some a) (n:=0) (c:=0) h1 h2 hlo hhi (Nat.le_refl _) (Nat.le_refl _);exact⟨_,hrun,by simp;exact .empty _⟩
      |some m =>
        obtain⟨m',rfl,hmv⟩:=hsome _ rfl;cases hi with
        |none=>simp at hnn
        |some hv =>
          obtain⟨h',rfl,hhv⟩:=hhsome _ rfl;simp only[Qaz]at h2 h3;have hrun:=QcE (P:=P) (w:=w) ht hs (a:=some a) (n:=0) (c:=0) h1 h2 h3 hlo hhv hmv (Nat.le_refl _) (Nat.le_refl _) (Nat.le_refl _);exact⟨_,hrun,by simp;exact .empty _⟩
    · cases hr
  |vec l vs β o c sz hl hn hz hz' hv hm =>
    have hx:VR g (.vec l) (.slice (some ⟨β,o,none⟩) l.length c):=.vec l vs β o c sz hl hn hz hz' hv hm;have hsz:l.all (fun e=>e.length == size)=true→∀i,i*size=i*sz∨l=[]:=by
      intro hall i;cases l with
      |nil=>exact .inr rfl
      |cons e l=>have:=hz 0 (by simp);simp at this;simp[List.all_cons]at hall;left;rw[←this,hall.1]
    simp only[QbL]at hr;split at hr
    · rename_i i k h1 h2;split at hr
      · rename_i hc;obtain⟨hlk,hkc,hall⟩:=hc;have hm':=hnone rfl;subst hm';have hrun:=QcF (P:=P) (w:=w) ht hs (a:=some ⟨β,o,none⟩) (c:=c) h1 h2 hlo hhi hlk (by omega);refine⟨_,hrun,?_⟩;cases hr;obtain⟨a,c0,sz0,e1,e2,e3,e4⟩:=hx.vecSub i k hlk hkc;cases e1;obtain⟨q1,q2⟩:=e4 (c-i) (by omega);by_cases hcl:c=i
        · rw[if_pos hcl];exact q2 (by omega)
        · rw[if_neg hcl];simp only[Option.map_some];rcases hsz hall i with e|e
          · have : i * size = i * sz0 := by
              cases l with
              | nil => simp at hkc; have : i = 0 := by omega
                       subst this;simp
              |cons e' l'=>have a1:=hz 0 (by simp);have a2:=e3 0 (by simp);rw[e, ←a1,a2]
            rw[this];exact q1
          · subst e;simp at hkc;subst hkc;have:i=0:=by omega
            subst this;simpa[addr_add] using q2 (by simp)
      · cases hr
    · rename_i i k m h1 h2;obtain⟨m',rfl,hmv⟩:=hsome _ rfl;split at hr
      · rename_i mm hh hmm;obtain⟨h',rfl,hhv⟩:=hhsome _ rfl;split at hr
        · rename_i hc;obtain⟨hlk,hkm,hmc,hall⟩:=hc;simp only[Qaz]at h2;have hrun:=QcE (P:=P) (w:=w) ht hs (a:=some ⟨β,o,none⟩) (n:=l.length) (c:=c) h1 h2 hmm hlo hhv hmv hlk hkm (by omega);refine⟨_,hrun,?_⟩;simp only[oI]at hr;subst hr;obtain⟨a,c0,sz0,e1,e2,e3,e4⟩:=hx.vecSub i k hlk (by omega);cases e1;obtain⟨q1,q2⟩:=e4 (mm-i) (by omega);by_cases hcl:mm=i
          · rw[if_pos hcl,if_pos hcl,show k-i=0 by omega,show mm-i=0 by omega];exact .empty _
          · rw[if_neg hcl,if_neg hcl];simp only[Option.map_some];have:i*size=i*sz0:=by
              cases l with
              |nil=>simp at hmc;omega
              |cons e' l' =>
                rcases hsz hall i with e|e
                · have a1:=hz 0 (by simp);have a2:=e3 0 (by simp);rw[e, ←a1,a2]
                · cases e
            rw[this];exact q1
        · cases hr
      · cases hr
    · cases hr
  |_=>simp[QbL]at hr
end
end Go.Ab
namespace Go.Ab
open Go Go.RowKit
section
variable{CR:AC→Code→Prop}{B:Nat}{w0:Anchor}{g g':Gam}{h h':AH}{w w':World}{P:Program}
theorem VR.iptrDrop{cells:List AV}{u:Value}(hx:VR g (.iptr cells) u)(n:Nat)(hn:n≤cells.length):∃a,u=.pointer (some a)∧VR g (.iptr (cells.drop n)) (.pointer (some (a.add n))):=by
 cases hx with
 |iptr cells vs β o hl hv hm =>
  refine⟨_,rfl,?_⟩;rw[addr_add];exact .iptr (cells.drop n) (vs.drop n) β (o+n) (by simp[hl]) (fun i h1 h2=>by simp only[List.getElem_drop];exact hv _ _ _) (fun i h2=>by
   simp only[List.getElem_drop];have:=hm (n+i) (by simp at h2;omega);rw[←this,Nat.add_assoc])
theorem QgV{t:TypeId}{fs:Array Field}{i:Nat}{f:Field}(ht:P.underlying t=some (.struct fs))(hf:fs[i]? = some f){n:Nat}(hn:sizeT P f.type=some n)(hn0:n≠0){x r:AV}{u:Value}(hx:VR g x u)
  (hr:(match (generalizing:=false) x with|.ptr b o=>some (.ptr b (o+f.offset))|.iptr cells=>if f.offset≤cells.length then some (.iptr (cells.drop f.offset)) else none|_=>(none:Option AV))=some r) :
  ∃v,(Instr.fieldAt t u i).run P w=.ok v w∧VR g r v:=by
 have key:∀a,(Instr.fieldAt t (.pointer (some a)) i).run P w=.ok (.pointer (some (a.add f.offset))) w:=by
  intro a;simp[Instr.fieldAt,run_underlying ht,hf,Instr.sureAddr,fieldPlace,run_sizeOf hn,hn0]
 cases hx with
 |ptr b o β base hr' =>
  cases hr;exact⟨_,key _,by rw[addr_add,Nat.add_assoc];exact .ptr _ _ _ _ hr'⟩
 |iptr cells vs β o hl hv hm =>
  simp only at hr;split at hr
  ·rename_i hc;cases hr;obtain⟨a,e,hv'⟩:=(VR.iptr cells vs β o hl hv hm).iptrDrop f.offset hc;cases e;exact⟨_,key _,hv'⟩
  ·cases hr
 |_=>simp at hr
theorem Qh3{t:TypeId}{agg:Bool}{size:Nat}(ha:Qdp P t=some agg)(hs:sizeT P t=some size){l:List AV}{vs:Array Value}{off:Nat}{r:AV}(hr:partA agg off size l=some r)(hl:VR g (.agg l) (.agg vs)) :
  ∃v,(part t vs off).run P w=.ok v w∧VR g r v:=by
 obtain⟨hlen,hval⟩:l.length=vs.size∧∀i (h1:i<l.length) (h2:i<vs.size),VR g l[i] vs[i]:=by cases hl with|agg _ _ a b=>exact⟨a,b⟩
 unfold partA at hr;cases agg with
 |true =>
  simp only[if_true]at hr;split at hr
  ·rename_i hle;cases hr;refine⟨_,by simp[part,QbF ha,run_sizeOf hs];rfl,?_⟩;refine .agg _ _ (by simp;omega) fun i h1 h2=>?_
   simp only[List.getElem_take,List.getElem_drop,Array.getElem_extract];exact hval _ _ _
  ·cases hr
 |false =>
  simp only[Bool.false_eq_true,if_false]at hr;have hlt:off<l.length:=by
   rcases Nat.lt_or_ge off l.length with h|h
   ·exact h
   ·rw[List.getElem?_eq_none h]at hr;cases hr
  rw[gE hlt]at hr;cases hr;have hlt':off<vs.size:=by omega
  exact⟨vs[off],by simp[part,QbF ha,hlt'],hval _ _ _⟩
theorem Qlb{t:TypeId}{fs:Array Field}{i:Nat}{f:Field}(ht:P.underlying t=some (.struct fs))(hf:fs[i]? = some f){agg:Bool}{size:Nat}(ha:Qdp P f.type=some agg)(hs:sizeT P f.type=some size)
  {l:List AV}{u:Value}{r:AV}(hr:partA agg f.offset size l=some r)(hx:VR g (.agg l) u):∃v,(Instr.field t u i).run P w=.ok v w∧VR g r v:=by
 obtain⟨vs,rfl⟩:∃vs,u=.agg vs:=by cases hx with|agg _ vs _ _=>exact⟨vs,rfl⟩
 obtain⟨v,hrun,hv⟩:=Qh3 (w:=w) ha hs hr hx;exact⟨v,by simp[Instr.field,run_underlying ht,hf,asAgg,hrun],hv⟩
theorem QgU{t e:TypeId}{size:Nat}(ht:P.underlying t=some (.slice e))(hs:sizeT P e=some size){x i r:AV}{u ui:Value}(hr:Qbs size x i=some r)(hx:VR g x u)(hi:VR g i ui) :
  ∃v,(Instr.indexAt t u ui).run P w=.ok v w∧VR g r v:=by
 unfold Qbs at hr;split at hr
 ·cases hr
 ·rename_i n hn;obtain⟨k,rfl⟩:=QaS hn hi;have key:∀(a:Addr) (m c:Nat),n<m→(Instr.indexAt t (.slice (some a) m c) (.int k n)).run P w=.ok (.pointer (some (a.add (n*size)))) w:=by
   intro a m c hlt;have:(n:Int)<m:=by omega
   simp[Instr.indexAt,asIntOf,run_underlying ht,this,run_sizeOf hs];intro hc;omega
  cases hx with
  |sliceC b o m c β base hrho hmc =>
   simp only at hr;split at hr
   ·rename_i hlt;cases hr;exact⟨_,key _ _ _ hlt,by rw[addr_add,Nat.add_assoc];exact .ptr _ _ _ _ hrho⟩
   ·cases hr
  |sliceN b o m es c β base a hrho hmc ha htop =>
   simp only at hr;split at hr
   ·rename_i hlt;cases hr;exact⟨_,key _ _ _ hlt,by rw[ha.resolve_left (by omega),addr_add,Nat.add_assoc];exact .ptr _ _ _ _ hrho⟩
   ·cases hr
  |vec l vs β o c sz hl hn' hz hz' hv hm =>
   simp only at hr;split at hr
   ·rename_i e' he';split at hr
    ·rename_i hlen;cases hr;have hlt:n<l.length:=by
      rcases Nat.lt_or_ge n l.length with h|h
      ·exact h
      ·rw[List.getElem?_eq_none h]at he';cases he'
     rw[gE hlt]at he';cases he';have hsz:sz=size:=by rw[←hz n hlt,hlen]
     subst hsz;refine⟨_,key _ _ _ hlt,?_⟩;rw[addr_add];have hlt':n<vs.length:=by omega
     exact .iptr l[n] vs[n] β (o+n*sz) (by rw[hz,hz']) (fun j h3 h4=>hv n hlt hlt' j h3 h4) (fun j h4=>hm n hlt' j h4)
    ·cases hr
   ·cases hr
  |_=>simp at hr
theorem QdV{t e:TypeId}{len size:Nat}(ht:P.underlying t=some (.array len e))(hs:sizeT P e=some size){x i r:AV}{u ui:Value}{n:Nat}(hn:asNat i=some n)
  (hr:(match (generalizing:=false) x with|.ptr b o=>if n<len then some (.ptr b (o+n*size)) else none|.iptr cells=>if n<len∧n*size≤cells.length then some (.iptr (cells.drop (n*size))) else none|_=>(none:Option AV))=some r)
  (hx:VR g x u)(hi:VR g i ui):∃v,(Instr.indexAt t u ui).run P w=.ok v w∧VR g r v:=by
 obtain⟨k,rfl⟩:=QaS hn hi;have key:∀a:Addr,n<len→(Instr.indexAt t (.pointer (some a)) (.int k n)).run P w=.ok (.pointer (some (a.add (n*size)))) w:=by
  intro a hlt;have:(n:Int)<len:=by omega
  simp[Instr.indexAt,asIntOf,run_underlying ht,this,run_sizeOf hs,Instr.sureAddr];intro hc;omega
 cases hx with
 |ptr b o β base hrho =>
  simp only at hr;split at hr
  ·rename_i hlt;cases hr;exact⟨_,key _ hlt,by rw[addr_add,Nat.add_assoc];exact .ptr _ _ _ _ hrho⟩
  ·cases hr
 |iptr cells vs β o hl hv hm =>
  simp only at hr;split at hr
  ·rename_i hc;cases hr;obtain⟨a,e',hv'⟩:=(VR.iptr cells vs β o hl hv hm).iptrDrop (n*size) hc.2;cases e';exact⟨_,key _ hc.1,hv'⟩
  ·cases hr
 |_=>simp at hr
theorem QhB{t:TypeId}(ht:P.underlying t=some .string){s:ByteArray}{i:AV}{ui:Value}{n:Nat}(hn:asNat i=some n){b:UInt8}(hb:s[n]? = some b)(hi:VR g i ui) :
  (Instr.index t (.string s) ui).run P w=.ok (.int .u8 b.toNat) w:=by
 obtain⟨k,rfl⟩:=QaS hn hi;simp[Instr.index,asIntOf,run_underlying ht,hb]
theorem Qla{t e:TypeId}{len size:Nat}{agg:Bool}(ht:P.underlying t=some (.array len e))(ha:Qdp P e=some agg)(hs:sizeT P e=some size){l:List AV}{i r:AV}{u ui:Value}{n:Nat}(hn:asNat i=some n)(hlt:n<len)
  (hr:partA agg (n*size) size l=some r)(hx:VR g (.agg l) u)(hi:VR g i ui):∃v,(Instr.index t u ui).run P w=.ok v w∧VR g r v:=by
 obtain⟨k,rfl⟩:=QaS hn hi;obtain⟨vs,rfl⟩:∃vs,u=.agg vs:=by cases hx with|agg _ vs _ _=>exact⟨vs,rfl⟩
 obtain⟨v,hrun,hv⟩:=Qh3 (w:=w) ha hs hr hx;have:(n:Int)<len:=by omega
 exact⟨v,by simp[Instr.index,asIntOf,run_underlying ht,this,run_sizeOf hs,hrun];intro hc;omega,hv⟩
theorem Qhz{t e:TypeId}{len size:Nat}(ht:P.underlying t=some (.array len e))(hs:sizeT P e=some size){b o:Nat}{lo hi:Option AV}{lo' hi':Option Value}{l k:Nat}{u:Value}
  (hl:Qaz 0 lo=some l)(hk:Qaz len hi=some k)(hlo:OptR (VR g) lo lo')(hhi:OptR (VR g) hi hi')(hlk:l≤k)(hkl:k≤len)(hx:VR g (.ptr b o) u) :
  ∃v,(Instr.sliceAt t u lo' hi' none).run P w=.ok v w∧VR g (if len=l then .empty else .slice b (o+l*size) (k-l) (len-l)) v:=by
 cases hx with
 |ptr b o β base hrho =>
  have:=Qd6 (P:=P) (w:=w) (isS:=false) (cap:=len) hl hk hlo hhi hlk hkl;refine⟨_,by simp[Instr.sliceAt,run_underlying ht,Instr.sureAddr,this,run_sizeOf hs];rfl,?_⟩;by_cases hcl:len=l
  ·rw[if_pos hcl,if_pos hcl,show k-l=0 by omega,show len-l=0 by omega];exact .empty _
  ·rw[if_neg hcl,if_neg hcl,addr_add,Nat.add_assoc];exact .sliceC _ _ _ _ _ _ hrho (by omega)
theorem QiW{l:List AV}{i:Nat}{r:AV}{u:Value}(hr:l[i]? = some r)(hx:VR g (.tuple l) u):∃v,(Instr.extract u i).run P w=.ok v w∧VR g r v:=by
 cases hx with
 |tuple l vs hl hv =>
  have hlt:i<l.length:=by
   rcases Nat.lt_or_ge i l.length with h|h
   ·exact h
   ·rw[List.getElem?_eq_none h]at hr;cases hr
  rw[gE hlt]at hr;cases hr;have hlt':i<vs.size:=by omega
  exact⟨vs[i],by simp[Instr.extract,hlt'],hv _ _ _⟩
theorem QfG{t:TypeId}{d:TypeDesc}(ht:P.underlying t=some d)(hni:∀m,d≠.interface m){z:AV}{i:TypeInfo}{zv:Value}(hi:P.info? t=some i)(hz:i.zero=some zv)(hzr:VR g z zv){xt:TypeId}{x r:AV}{u:Value}{ok:Bool}(hx:VR g x u)
  (hr:(match (generalizing:=false) x with|.iface u v=>if u=t then some (if ok then .tuple [v,.bool true] else v) else if ok then some (.tuple [z,.bool false]) else none|.nilIface=>if ok then some (.tuple [z,.bool false]) else none|_=>(none:Option AV))=some r) :
  ∃v,(Instr.typeAssert u xt t ok).run P w=.ok v w∧VR g r v:=by
 have hd:∀(a b:Sem Value),(match d with|.interface _=>a|_=>b)=b:=by
  intro a b;cases d<;>first|rfl|exact absurd rfl (hni _)
 cases hx with
 |iface u v v' hv =>
  simp only at hr;split at hr
  ·rename_i hut;subst hut;cases hr;refine⟨if ok then .tuple #[v',.bool true] else v',?_,?_⟩
   ·simp only[Instr.typeAssert,Sem.run_bind,run_underlying ht,Result.andThen];cases d<;>first|(exact absurd rfl (hni _))|(cases ok<;>simp)
   ·cases ok
    ·exact hv
    ·exact(VRs.cons hv (VRs.cons (.bool true) (VRs.nil g))).tuple
  ·rename_i hut;split at hr
   ·rename_i hok;cases hr;subst hok;refine⟨.tuple #[zv,.bool false],?_,(VRs.cons hzr (VRs.cons (.bool false) (VRs.nil g))).tuple⟩;simp only[Instr.typeAssert,Sem.run_bind,run_underlying ht,Result.andThen];cases d<;>first|(exact absurd rfl (hni _))|(simp[hut,zeroValue,typeInfo,hi,hz])
   ·cases hr
 |nilIface =>
  simp only at hr;split at hr
  ·rename_i hok;cases hr;subst hok;refine⟨.tuple #[zv,.bool false],?_,(VRs.cons hzr (VRs.cons (.bool false) (VRs.nil g))).tuple⟩;simp only[Instr.typeAssert,Sem.run_bind,run_underlying ht,Result.andThen];cases d<;>first|(exact absurd rfl (hni _))|(simp[zeroValue,typeInfo,hi,hz])
  ·cases hr
 |_=>simp at hr
end
end Go.Ab
namespace Go.Ab
open Go Go.RowKit
section
variable{CR:AC→Code→Prop}{B:Nat}{w0:Anchor}{g g':Gam}{h h':AH}{w w':World}{P:Program}
theorem foldl_set(off:Nat):∀(l:List Value)(k:Nat)(cs:Array Value),off+k+l.length≤cs.size →
  ((l.zipIdx k).foldl (fun cs x=>cs.setIfInBounds (off+x.2) x.1) cs).toList=cs.toList.take (off+k)++l++cs.toList.drop (off+k+l.length)
 | [],k,cs,_=>by simp
 |v::l,k,cs,h=>by
  simp only[List.zipIdx_cons,List.foldl_cons];rw[foldl_set off l (k+1) (cs.setIfInBounds (off+k) v) (by simp at h ⊢;omega)];simp only[Array.toList_setIfInBounds];have hlt:off+k<cs.toList.length:=by simp at h ⊢;omega
  apply List.ext_getElem?;intro i;have e1:(List.take (off+(k+1)) (cs.toList.set (off+k) v)).length=off+k+1:=by simp at hlt ⊢;omega
  have e2:(List.take (off+k) cs.toList).length=off+k:=by simp at hlt ⊢;omega
  rw[List.append_assoc,List.append_assoc];by_cases h1:i<off+k
  ·rw[List.getElem?_append_left (by omega),List.getElem?_append_left (by omega),List.getElem?_take,List.getElem?_take,if_pos (by omega),if_pos h1,List.getElem?_set_ne (by omega)]
  ·by_cases h2:i=off+k
   ·subst h2;rw[List.getElem?_append_left (by omega),List.getElem?_append_right (by omega),List.getElem?_take,if_pos (by omega),List.getElem?_set_self hlt,e2];simp
   ·rw[List.getElem?_append_right (by omega:(List.take (off+(k+1)) (cs.toList.set (off+k) v)).length≤i),List.getElem?_append_right (by omega:(List.take (off+k) cs.toList).length≤i),e1,e2];have:i-(off+k)=(i-(off+k+1))+1:=by omega
    rw[this,List.cons_append,List.getElem?_cons_succ];by_cases h3:i-(off+k+1)<l.length
    ·rw[List.getElem?_append_left h3,List.getElem?_append_left h3]
    ·rw[List.getElem?_append_right (by omega),List.getElem?_append_right (by omega),List.getElem?_drop,List.getElem?_drop,List.getElem?_set_ne (by simp at h3 ⊢;omega)]
     congr 1
     simp;omega
theorem QeF{place:Nat→Option (Nat×Nat)}:∀(parts:List (Nat×Value))(aparts:List (Nat×Nat×AV))(cells l:List AV)(cs:Array Value),VRs g cells cs.toList→fillA cells aparts=some l →
  aparts.length=parts.length→(∀i (h1:i<aparts.length)(h2:i<parts.length),place parts[i].1=some (aparts[i].1,aparts[i].2.1)∧VR g aparts[i].2.2 parts[i].2) →
  ∃vs:Array Value,Instr.fill place cs parts=some vs∧VRs g l vs.toList
 | [],[],cells,l,cs,hc,hf,_,_=>by cases hf;exact⟨cs,rfl,hc⟩
 | [],_::_,_,_,_,_,_,hl,_=>by simp at hl
 |_::_,[],_,_,_,_,_,hl,_=>by simp at hl
 |(i,v)::parts,(off,size,a)::aparts,cells,l,cs,hc,hf,hl,hp=>by
  obtain⟨hpl,hv⟩:=hp 0 (by simp) (by simp);simp only[List.getElem_cons_zero]at hpl hv;simp only[fillA]at hf;split at hf
  ·rename_i hcond;obtain⟨hk,hs,hle⟩:=hcond;have hvc:=hv.cells hk;have hvl:v.cells.size=size:=by have:=hvc.len;simp at this;omega
   have hcl:cells.length=cs.size:=by have:=hc.len;simpa using this
   obtain⟨vs,h1,h2⟩:=QeF (place:=place) parts aparts (splice cells off a.cells) l (v.cells.zipIdx.foldl (fun cs x=>cs.setIfInBounds (off+x.2) x.1) cs)
    (by
     have e:v.cells.zipIdx.foldl (fun cs x=>cs.setIfInBounds (off+x.2) x.1) cs=(v.cells.toList.zipIdx 0).foldl (fun cs x=>cs.setIfInBounds (off+x.2) x.1) cs:=by
      rw[←Array.foldl_toList];simp
     rw[e,foldl_set off v.cells.toList 0 cs (by simp;omega)];exact hc.splice hvc) hf (by simpa using hl) (fun j h1 h2=>hp (j+1) (Nat.succ_lt_succ h1) (Nat.succ_lt_succ h2))
   refine⟨vs,?_,h2⟩;simp only[Instr.fill,hpl];rw[if_neg]
   ·exact h1
   ·simp[hvl];omega
  ·cases hf
theorem QfH(H:HR CR B w0 g h w){t e:TypeId}(ht:P.underlying t=some (.slice e)){i:TypeInfo}{z:Value}(hi:P.info? e=some i)(hz:i.zero=some z){zl:List AV}(hzl:VRs g zl z.cells.toList)(hsz:zl.length=i.size)
  {len:Nat}(hlen:len*i.size≤16777216){parts:Array (Nat×Value)}{aparts:List (Nat×Nat×AV)}{l:List AV}
  (hf:fillA ((List.range (len*zl.length)).map fun i=>zl.getD (i%zl.length) .undef) aparts=some l)(hl:aparts.length=parts.toList.length)
  (hp:∀j (h1:j<aparts.length)(h2:j<parts.toList.length),some (parts.toList[j].1*i.size,i.size)=some (aparts[j].1,aparts[j].2.1)∧VR g aparts[j].2.2 parts.toList[j].2) :
  Gives CR B w0 g (.slice h.next 0 len len) (h.alloc (.cells l none 0 [])) ((Instr.buildSlice t len parts).run P w):=by
 have hzs:z.cells.size=i.size:=by have:=hzl.len;simp at this;omega
 have hcells:VRs g ((List.range (len*zl.length)).map fun i=>zl.getD (i%zl.length) .undef) ((Array.range (len*i.size)).map (z.cells[· % z.cells.size]!)).toList:=by
  rw[hsz];refine⟨by simp,fun j h1 h2=>?_⟩;simp only[List.getElem_map,List.getElem_range,Array.toList_map,Array.toList_range];have hj:j<len*i.size:=by simpa using h1
  have hpos:0<i.size:=by
   rcases Nat.eq_zero_or_pos i.size with h0|h0
   ·rw[h0]at hj;omega
   ·exact h0
  have hm:j%i.size<i.size:=Nat.mod_lt _ hpos;rw[hzs,List.getD_eq_getElem?_getD,gE (by omega),Option.getD_some,getElem!_pos z.cells (j%i.size) (by omega)];have:=hzl.val (j%i.size) (by omega) (by simp;omega);simpa using this
 obtain⟨vs,hfill,hvs⟩:=QeF (place:=fun j=>some (j*i.size,i.size)) parts.toList aparts _ l _ hcells hf hl hp;obtain⟨g',H',hle,hr⟩:=H.row l vs.toList e 0 hvs;refine⟨g',w.alloc (.cells vs e),.slice (some ⟨w.heap.size,0,none⟩) len len,?_,by simpa using H',hle,?_⟩
 ·have hbig:¬(2^24<len*i.size):=by omega
  by_cases h0:len*i.size=0
  ·have hfill':=hfill;have er:Array.range 0=(#[]:Array Nat):=rfl;rw[h0,er]at hfill';simp only[Array.map_empty]at hfill';simp[Instr.buildSlice,run_underlying ht,sizeOf,typeInfo,hi,h0,newRow,er,hfill']
  ·simp[Instr.buildSlice,run_underlying ht,sizeOf,typeInfo,zeroValue,hi,hz,h0,newRow,hfill];omega
 ·have:=VR.sliceC (g:=g') h.next 0 len len w.heap.size 0 hr (Nat.le_refl _)
  simpa using this
theorem QeD(H:HR CR B w0 g h w):Gives CR B w0 g (.map h.next) (h.alloc (.map [] 0)) (.ok (.map (some w.heap.size)) (w.alloc (.map #[] 0))):=by
 obtain⟨H',hle⟩:=H.alloc (.map #[] 0) 0 0 (.map [] 0) (.map [] 0 #[] (by show (w.heap.push _)[w.heap.size]? = _;simp) rfl rfl (fun i h1=>absurd h1 (by simp)));exact⟨_,_,_,rfl,H',hle,.map _ _ Gam.bind_rho_same⟩
theorem QgT(H:HR CR B w0 g h w){t e:TypeId}(ht:P.underlying t=some (.slice e)){i:TypeInfo}{z:Value}(hi:P.info? e=some i)(hz:i.zero=some z){zl:List AV}(hzl:VRs g zl z.cells.toList)(hsz:zl.length=i.size)
  {l c:Int}(h0:0≤l)(hlc:l≤c)(hb:c*i.bytes≤1000000000)(hc:c≤1000000000) :
  Gives CR B w0 g (.slice h.next 0 l.toNat c.toNat) (h.alloc (.cells (List.replicate c.toNat zl).flatten none 0 [])) ((Instr.makeSlice t (.int .i64 l) (.int .i64 c)).run P w):=by
 have hzs:z.cells.size=i.size:=by have:=hzl.len;simp at this;omega
 have hcells:VRs g (List.replicate c.toNat zl).flatten ((Array.range (c.toNat*i.size)).map (z.cells[· % z.cells.size]!)).toList:=by
  have hlen:(List.replicate c.toNat zl).flatten.length=c.toNat*i.size:=by simp[List.length_flatten,hsz]
  refine⟨by simp[hlen],fun j h1 h2=>?_⟩;have hj:j<c.toNat*i.size:=by omega
  have hpos:0<i.size:=by
   rcases Nat.eq_zero_or_pos i.size with h0|h0
   ·rw[h0]at hj;omega
   ·exact h0
  have hm:j%i.size<i.size:=Nat.mod_lt _ hpos;have key:∀n j,j<n*zl.length→(List.replicate n zl).flatten[j]? = zl[j%zl.length]?:=by
   intro n
   induction n with
   |zero=>intro j hj;omega
   |succ n ih =>
    intro j hj;rw[List.replicate_succ,List.flatten_cons];by_cases hlt:j<zl.length
    ·rw[List.getElem?_append_left hlt,Nat.mod_eq_of_lt hlt]
    ·rw[List.getElem?_append_right (by omega),ih _ (by rw[Nat.add_mul]at hj;omega)];rw[Nat.mod_eq_sub_mod (show zl.length≤j by omega)]
  have hk:=key c.toNat j (by rw[hsz];exact hj);rw[gE h1,hsz,gE (by omega)]at hk;have hk':=Option.some.inj hk;rw[hk'];simp only[Array.toList_map,Array.toList_range,List.getElem_map,List.getElem_range];rw[hzs,getElem!_pos z.cells (j%i.size) (by omega)];have:=hzl.val (j%i.size) (by omega) (by simp;omega);simpa using this
 obtain⟨g',H',hle,hr⟩:=H.row _ _ e 0 hcells;refine⟨g',w.alloc (.cells ((Array.range (c.toNat*i.size)).map (z.cells[· % z.cells.size]!)) e),.slice (some ⟨w.heap.size,0,none⟩) l.toNat c.toNat,?_,by rw[Array.toArray_toList]at H';exact H',hle,?_⟩
 ·have hw1:IntKind.i64.wrap l=l:=Go.IntWalk.i64_in l (by omega);have hw2:IntKind.i64.wrap c=c:=Go.IntWalk.i64_in c (by omega);have hbi:(i.bytes:Int)*c≤1000000000:=by rw[Int.mul_comm];exact hb
  have hn1:¬(c<0):=by omega
  have hn2:¬(281474976710656<(i.bytes:Int)*c):=by omega
  have hn3:¬(l<0):=by omega
  have hn4:¬(c<l):=by omega
  by_cases h00:c.toNat*i.size=0
  ·have er:Array.range 0=(#[]:Array Nat):=rfl;simp[er,Instr.makeSlice,run_underlying ht,asInt,asIntOf,typeInfo,hi,hw1,hw2,hn1,hn2,hn3,hn4,run_askRoom,sizeOf,h00,newRow]
  ·simp[Instr.makeSlice,run_underlying ht,asInt,asIntOf,typeInfo,hi,hw1,hw2,hn1,hn2,hn3,hn4,run_askRoom,sizeOf,h00,newRow,zeroValue,hz]
 ·have:=VR.sliceC (g:=g') h.next 0 l.toNat c.toNat w.heap.size 0 hr (by omega)
  simpa using this
end
end Go.Ab
namespace Go.Ab
open Go Go.RowKit
section
variable{CR:AC→Code→Prop}{B:Nat}{w0:Anchor}{g g':Gam}{h h':AH}{w w':World}{P:Program}
theorem QbX{t:TypeId}{kk:Nat}(hk:Qc0 P t=some kk):∃d,P.underlying t=some d∧((∃k,d=.int k∧kk=0)∨(d=.string∧kk=1)∨(d=.bool∧kk=2)):=by
 unfold Qc0 at hk;split at hk
 ·rename_i k h;cases hk;exact⟨_,h,.inl ⟨k,rfl,rfl⟩⟩
 ·rename_i h;cases hk;exact⟨_,h,.inr (.inl ⟨rfl,rfl⟩)⟩
 ·rename_i h;cases hk;exact⟨_,h,.inr (.inr ⟨rfl,rfl⟩)⟩
 ·cases hk
theorem run_checkKey{t:TypeId}{kk:Nat}(hk:Qc0 P t=some kk)(e:Bool)(v:Value)(hv:∀t v',v≠.iface t v')(hn:v≠.nilIface):(Instr.checkKey e 10000 t v).run P w=.ok () w:=by
 have key:∀n,(Instr.checkKey e (n+1) t v).run P w=.ok () w:=by
  intro n;obtain⟨d,hd,hc⟩:=QbX hk;rcases hc with⟨k,rfl,_⟩|⟨rfl,_⟩|⟨rfl,_⟩<;>simp[Instr.checkKey,run_underlying hd]
 exact key 9999
theorem Qfl{k x:AV}{kk:Nat}{b:Bool}(hk:k.keyKind=some kk)(hs:sameKey k x=some b){kv xv:Value}(hkv:VR g k kv)(hxv:VR g x xv){d:TypeDesc}
  (hd:(∃k,d=.int k∧kk=0)∨(d=.string∧kk=1)∨(d=.bool∧kk=2)):Instr.sameNow d kv xv=some b:=by
 unfold sameKey at hs;split at hs
 ·cases hkv;cases hxv;cases hk;rcases hd with⟨k,rfl,_⟩|⟨rfl,h⟩|⟨rfl,h⟩
  ·simpa[Instr.sameNow] using hs
  ·cases h
  ·cases h
 ·cases hkv;cases hxv;cases hk;rcases hd with⟨k,rfl,h⟩|⟨rfl,h⟩|⟨rfl,h⟩
  ·cases h
  ·simp only[oI]at hs;simp only[Instr.sameNow];rw[bsOf_beq (by assumption) (by assumption),hs]
  ·cases h
 ·cases hkv;cases hxv;cases hk;rcases hd with⟨k,rfl,h⟩|⟨rfl,h⟩|⟨rfl,h⟩
  ·cases h
  ·cases h
  ·simpa[Instr.sameNow] using hs
 ·cases hs
theorem QbI{k:AV}{kk:Nat}(hk:k.keyKind=some kk){kv:Value}(hkv:VR g k kv){d:TypeDesc}(hd:(∃k,d=.int k∧kk=0)∨(d=.string∧kk=1)∨(d=.bool∧kk=2)) :
  ∀(es:List (AV×AV×Nat))(entries:List MapEntry)(i:Nat)(r:Option (Nat×AV)),es.length=entries.length→(∀j (h1:j<es.length)(h2:j<entries.length),EntR g es[j] entries[j])→findA k es i=some r →
   (r=none∧Instr.findNow d kv entries i=some none)∨(∃j v v',r=some (i+j,v)∧Instr.findNow d kv entries i=some (some (i+j,v'))∧VR g v v'∧j<es.length∧∃(h:j<entries.length),entries[j].val=v'∧Instr.sameNow d kv entries[j].key=some true)
 | [],[],i,r,_,_,hf=>by cases hf;exact .inl ⟨rfl,rfl⟩
 | [],_::_,_,_,hl,_,_=>by simp at hl
 |_::_,[],_,_,hl,_,_=>by simp at hl
 |(x,v,n)::es,e::entries,i,r,hl,he,hf=>by
  have h0:=he 0 (by simp) (by simp);simp only[findA]at hf;split at hf
  ·rename_i hs;cases hf;have:=Qfl hk hs hkv h0.key hd;refine .inr ⟨0,v,e.val,rfl,?_,h0.val,by simp,by simp,rfl,this⟩;simp only[List.getElem_cons_zero]at this;simp[Instr.findNow,this]
  ·rename_i hs;have:=Qfl hk hs hkv h0.key hd;simp only[List.getElem_cons_zero]at this;rcases QbI hk hkv hd es entries (i+1) r (by simpa using hl) (fun j h1 h2=>he (j+1) (Nat.succ_lt_succ h1) (Nat.succ_lt_succ h2)) hf with⟨h1,h2⟩|⟨j,v,v',h1,h2,h3,h4,h5,h6,h7⟩
   ·exact .inl ⟨h1,by simp[Instr.findNow,this,h2]⟩
   ·refine .inr ⟨j+1,v,v',by rw[h1];congr 2;omega,?_,h3,by simp;omega,by simp;omega,h6,h7⟩;simp only[Instr.findNow,this,h2]
    congr 3;omega
  ·cases hf
theorem Qea{k:AV}{kk:Nat}{kv:Value}(hk:k.keyKind=some kk)(hkv:VR g k kv):(∀t v',kv≠.iface t v')∧kv≠.nilIface:=by
 cases hkv<;>simp_all [AV.keyKind]
structure MapT (P:Program)(t kt e:TypeId)(kk:Nat):Prop where
 und:P.underlying t=some (.map kt e)
 key:Qc0 P kt=some kk
theorem Qj2(H:HR CR B w0 g h w){t kt e:TypeId}{kk:Nat}(T:MapT P t kt e kk){i:TypeInfo}{zv:Value}(hi:P.info? e=some i)(hz:i.zero=some zv){z:AV}(hzr:VR g z zv){m k r:AV}{um uk:Value}{ok:Bool}
  (hk:k.keyKind=some kk)(hm:VR g m um)(hkv:VR g k uk)
  (hr:(match (generalizing:=false) m with
   | .nilmap=>some (if ok then .tuple [z,.bool false] else z)
   | .map b=>match (generalizing:=false) h.get b with
    |some (.map es _)=>match (generalizing:=false) findA k es 0 with
     |some (some (_,v))=>some (if ok then .tuple [v,.bool true] else v)
     |some none=>some (if ok then .tuple [z,.bool false] else z)
     |none=>none
    |_=>none
   |_=>(none:Option AV))=some r):∃v,(Instr.lookup t um uk ok).run P w=.ok v w∧VR g r v:=by
 obtain⟨hk1,hk2⟩:=Qea hk hkv;have hck:=fun b=>run_checkKey (w:=w) T.key b uk hk1 hk2
 obtain⟨d,hd,hdc⟩:=QbX T.key;have hzero:∀r:AV,r=(if ok then .tuple [z,.bool false] else z)→VR g r (if ok then .tuple #[zv,.bool false] else zv):=by
  intro r hr;subst hr;cases ok
  ·exact hzr
  ·exact(VRs.cons hzr (VRs.cons (.bool false) (VRs.nil g))).tuple
 cases hm with
 |nilmap =>
  simp only[oI]at hr;refine⟨_,?_,hzero r hr.symm⟩;cases ok<;>simp[Instr.lookup,run_underlying T.und,hck,Instr.findKey,run_underlying hd,Instr.findNow,zeroValue,typeInfo,hi,hz]
 |map b β hrho =>
  simp only at hr;split at hr
  ·rename_i es clock hget;have hobj:=H.obj b β 0 _ hrho hget;cases hobj with
   |map es clock entries hw hb hl he =>
    split at hr
    ·rename_i n v hf;cases hr;rcases QbI hk hkv hdc es entries.toList 0 _ (by simpa using hl) (fun j h1 h2=>by simpa using he j h1 (by simpa using h2)) hf with⟨h1,_⟩|⟨j,v1,v',h1,h2,h3,_⟩
     ·cases h1
     ·cases h1;refine⟨if ok then .tuple #[v',.bool true] else v',?_,?_⟩
      ·cases ok<;>simp[Instr.lookup,run_underlying T.und,getObj,Sem.run,hw,hck,Instr.findKey,run_underlying hd,h2]
      ·cases ok
       ·exact h3
       ·exact(VRs.cons h3 (VRs.cons (.bool true) (VRs.nil g))).tuple
    ·rename_i hf;cases hr;rcases QbI hk hkv hdc es entries.toList 0 _ (by simpa using hl) (fun j h1 h2=>by simpa using he j h1 (by simpa using h2)) hf with⟨_,h2⟩|⟨j,v1,v',h1,_⟩
     ·refine⟨_,?_,hzero _ rfl⟩;cases ok<;>simp[Instr.lookup,run_underlying T.und,getObj,Sem.run,hw,hck,Instr.findKey,run_underlying hd,h2,zeroValue,typeInfo,hi,hz]
     ·cases h1
    ·cases hr
  ·cases hr
 |_=>simp at hr
theorem Qb1{β:Nat}{entries:Array MapEntry}{clock:Nat}(hw:w.heap[β]? = some (.map entries clock)):(getObj β).run P w=.ok (.map entries clock) w:=by
 simp[getObj,Sem.run,hw]
theorem QcG{β:Nat}{entries:Array MapEntry}{clock:Nat}(hw:w.heap[β]? = some (.map entries clock))(o:Obj):(setObj β o).run P w=.ok () {w with heap:=w.heap.setIfInBounds β o}:=by
 simp[setObj,Sem.run,hw]
theorem HR.setMap(H:HR CR B w0 g h w){b β:Nat}(hrho:g.rho b=some (β,0)){es es':List (AV×AV×Nat)}{clock clock':Nat}(hget:h.get b=some (.map es clock)){entries entries':Array MapEntry}
  (hw:w.heap[β]? = some (.map entries clock))(hl:es'.length=entries'.size)(he:∀i (h1:i<es'.length)(h2:i<entries'.size),EntR g es'[i] entries'[i]) :
  HR CR B w0 g (h.put b (.map es' clock')) {w with heap:=w.heap.setIfInBounds β (.map entries' clock')}:=by
 refine H.setObj hrho hget (by simp) (by simp) _ _ (.map es' clock' entries' ?_ rfl hl he);have hlt:β<w.heap.size:=H.lt b _ hrho;simp[hlt]
theorem Qjk{d:TypeDesc}{kk:Nat}(hd:(∃k,d=.int k∧kk=0)∨(d=.string∧kk=1)∨(d=.bool∧kk=2)){a b:Value}(h:Instr.sameNow d a b=some true)(n:Nat):Instr.sameBits n b a=true:=by
 unfold Instr.sameNow at h;split at h
 ·split at h
  ·rename_i hk;subst hk;simp at h;subst h;simp[Instr.sameBits]
  ·cases h
 ·rename_i a b;have h':(a == b)=true:=Option.some.inj h;have e:=(Go.MapKept.bytes_beq a b).1 h';subst e;cases n<;>exact h'
 ·simp at h;subst h;simp[Instr.sameBits]
 ·cases h
theorem QgS(H:HR CR B w0 g h w){t kt e:TypeId}{kk:Nat}(T:MapT P t kt e kk){m k x:AV}{um uk ux:Value}(hk:k.keyKind=some kk)(hm:VR g m um)(hkv:VR g k uk)(hxv:VR g x ux)
  (hr:(match (generalizing:=false) m with
   | .map b=>match (generalizing:=false) h.get b with
    |some (.map es clock)=>match (generalizing:=false) findA k es 0 with
     |some (some (i,_))=>some (h.put b (.map (es.modify i fun e=>(k,x,e.2.2)) clock))
     |some none=>some (h.put b (.map (es++[(k,x,clock)]) (clock+1)))
     |none=>none
    |_=>none
   |_=>none)=some h'):∃w',(Instr.mapUpdate t um uk ux).run P w=.ok () w'∧HR CR B w0 g h' w':=by
 obtain⟨hk1,hk2⟩:=Qea hk hkv;have hck:=fun b=>run_checkKey (w:=w) T.key b uk hk1 hk2
 obtain⟨d,hd,hdc⟩:=QbX T.key;have hks:k.keyKind.isSome=true:=by rw[hk];rfl
 cases hm with
 |map b β hrho =>
  simp only at hr;split at hr
  ·rename_i es clock hget;have hobj:=H.obj b β 0 _ hrho hget;cases hobj with
   |map es clock entries hw hb hl he =>
    split at hr
    ·rename_i n v hf;cases hr;rcases QbI hk hkv hdc es entries.toList 0 _ (by simpa using hl) (fun j h1 h2=>by simpa using he j h1 (by simpa using h2)) hf with⟨h1,_⟩|⟨j,v1,v',h1,h2,h3,h4,h5,h6,h7⟩
     ·cases h1
     ·simp only[Nat.zero_add]at h1 h2;cases h1;have hj:n<entries.size:=by simpa using h5
      have hkey:(entries[n]?.map (·.key)).getD uk=entries[n].key:=by simp[hj]
      have hsame:Instr.sameBits 10000 entries[n].key uk=true:=Qjk hdc (by simpa using h7) 10000;have hstay:(Instr.keyThatStays ((entries[n]?.map (·.key)).getD uk) uk).run P w=.ok uk w:=by
       rw[hkey];unfold Instr.keyThatStays;rw[if_pos hsame];rfl
      refine⟨{w with heap:=w.heap.setIfInBounds β (.map (entries.modify n fun e=>{e with key:=uk,val:=ux}) clock)},?_,?_⟩
      ·simp only[Instr.mapUpdate,Sem.run_bind,run_underlying T.und,Result.andThen,Qb1 hw,hck,Instr.findKey,run_underlying hd,h2];simp[hstay,QcG hw]
      ·refine H.setMap hrho hget hw (by simp[hl]) (fun i h1 h2=>?_);have hi:i<es.length:=by simpa using h1
       have hi':i<entries.size:=by simpa using h2
       have ho:=he i hi hi';by_cases hin:n=i
       ·subst hin;simp only[List.getElem_modify,Array.getElem_modify,if_true];exact⟨hkv,hxv,ho.born,hks⟩
       ·simp only[List.getElem_modify,Array.getElem_modify,if_neg hin];exact ho
    ·rename_i hf;cases hr;rcases QbI hk hkv hdc es entries.toList 0 _ (by simpa using hl) (fun j h1 h2=>by simpa using he j h1 (by simpa using h2)) hf with⟨_,h2⟩|⟨j,v1,v',h1,_⟩
     ·refine⟨{w with heap:=w.heap.setIfInBounds β (.map (entries.push {key:=uk,val:=ux,born:=clock}) (clock+1))},?_,?_⟩
      ·simp only[Instr.mapUpdate,Sem.run_bind,run_underlying T.und,Result.andThen,Qb1 hw,hck,Instr.findKey,run_underlying hd,h2];simp[QcG hw]
      ·refine H.setMap hrho hget hw (by simp[hl]) (fun i h1 h2=>?_);by_cases hin:i<es.length
       ·rw[List.getElem_append_left hin,Array.getElem_push_lt (by omega)];exact he i hin (by omega)
       ·have:i=es.length:=by simp at h1;omega
        subst this;rw[List.getElem_append_right (by omega)];simp only[hl,Array.getElem_push_eq,Nat.sub_self,List.getElem_cons_zero];exact⟨hkv,hxv,rfl,hks⟩
     ·cases h1
    ·cases hr
  ·cases hr
 |_=>simp at hr
theorem Qj3(H:HR CR B w0 g h w){t kt e ty u2:TypeId}{kk:Nat}(T:MapT P t kt e kk){m k:AV}{um uk:Value}(hk:k.keyKind=some kk)(hm:VR g m um)(hkv:VR g k uk)
  (hr:(match (generalizing:=false) m with
   | .nilmap=>some h
   | .map b=>match (generalizing:=false) h.get b with
    |some (.map es clock)=>match (generalizing:=false) findA k es 0 with
     |some (some (i,_))=>some (h.put b (.map (es.eraseIdx i) clock))
     |some none=>some h
     |none=>none
    |_=>none
   |_=>none)=some h'):∃w',(Builtin.delete_ #[t,u2] ty #[um,uk]).run P w=.ok (.tuple #[]) w'∧HR CR B w0 g h' w':=by
 obtain⟨hk1,hk2⟩:=Qea hk hkv;have hck:=fun b=>run_checkKey (w:=w) T.key b uk hk1 hk2
 obtain⟨d,hd,hdc⟩:=QbX T.key;cases hm with
 |nilmap =>
  cases hr;exact⟨w,by simp[Builtin.delete_,run_underlying T.und,hck],H⟩
 |map b β hrho =>
  simp only at hr;split at hr
  ·rename_i es clock hget;have hobj:=H.obj b β 0 _ hrho hget;cases hobj with
   |map es clock entries hw hb hl he =>
    split at hr
    ·rename_i n v hf;cases hr;rcases QbI hk hkv hdc es entries.toList 0 _ (by simpa using hl) (fun j h1 h2=>by simpa using he j h1 (by simpa using h2)) hf with⟨h1,_⟩|⟨j,v1,v',h1,h2,h3,h4,h5,h6,h7⟩
     ·cases h1
     ·simp only[Nat.zero_add]at h1 h2;cases h1;have hj:n<entries.size:=by simpa using h5
      refine⟨{w with heap:=w.heap.setIfInBounds β (.map (entries.eraseIdxIfInBounds n) clock)},?_,?_⟩
      ·simp only[Builtin.delete_,Sem.run_bind,run_underlying T.und,Result.andThen];simp[run_underlying T.und,Qb1 hw,hck,Instr.findKey,run_underlying hd,h2,QcG hw]
      ·have hsz:(entries.eraseIdxIfInBounds n).size=entries.size-1:=by simp[Array.eraseIdxIfInBounds,hj]
       refine H.setMap hrho hget hw (by rw[hsz,List.length_eraseIdx,if_pos h4,hl]) (fun i h1 h2=>?_);have e1:∀(h2:i<(entries.eraseIdxIfInBounds n).size),(entries.eraseIdxIfInBounds n)[i]=(entries.toList.eraseIdx n)[i]'(by simp[List.length_eraseIdx,hj];omega):=by
        intro h2;simp only[Array.eraseIdxIfInBounds,hj,dif_pos];rw[←Array.getElem_toList];simp
       rw[e1 h2,List.getElem_eraseIdx,List.getElem_eraseIdx];have hi:i<es.length-1:=by rw[List.length_eraseIdx]at h1;simp[h4]at h1;omega
       split
       ·simpa using he i (by omega) (by omega)
       ·simpa using he (i+1) (by omega) (by omega)
    ·rename_i hf;cases hr;rcases QbI hk hkv hdc es entries.toList 0 _ (by simpa using hl) (fun j h1 h2=>by simpa using he j h1 (by simpa using h2)) hf with⟨_,h2⟩|⟨j,v1,v',h1,_⟩
     ·have hself:({w with heap:=w.heap.setIfInBounds β (.map entries clock)}:World)=w:=by
       have:w.heap.setIfInBounds β (.map entries clock)=w.heap:=by
        apply Array.ext_getElem?;intro i;simp only[Array.getElem?_setIfInBounds];split
        ·rename_i hi;subst hi;split
         ·exact hw.symm
         ·rename_i hlt;rw[Array.getElem?_eq_none (by omega)]
        ·rfl
       rw[this]
      refine⟨w,?_,H⟩;simp only[Builtin.delete_,Sem.run_bind,run_underlying T.und,Result.andThen];simp[run_underlying T.und,Qb1 hw,hck,Instr.findKey,run_underlying hd,h2,QcG hw,hself]
     ·cases h1
    ·cases hr
  ·cases hr
 |_=>simp at hr
theorem QhC(H:HR CR B w0 g h w){t ty kt e:TypeId}(ht:P.underlying t=some (.map kt e)){m:AV}{um:Value}(hm:VR g m um)
  (hr:(match (generalizing:=false) m with|.nilmap=>some h|.map b=>(match (generalizing:=false) h.get b with|some (.map _ clock)=>some (h.put b (.map [] clock))|_=>none)|_=>none)=some h') :
  ∃w',(Builtin.clear_ #[t] ty #[um]).run P w=.ok (.tuple #[]) w'∧HR CR B w0 g h' w':=by
 cases hm with
 |nilmap =>
  cases hr;exact⟨w,by simp[Builtin.clear_,run_underlying ht],H⟩
 |map b β hrho =>
  simp only at hr;split at hr
  ·rename_i es clock hget;cases hr;have hobj:=H.obj b β 0 _ hrho hget;cases hobj with
   |map es clock entries hw hb hl he =>
    refine⟨{w with heap:=w.heap.setIfInBounds β (.map #[] clock)},by simp[Builtin.clear_,run_underlying ht,Qb1 hw,QcG hw],?_⟩;exact H.setMap hrho hget hw rfl (fun i h1=>absurd h1 (by simp))
  ·cases hr
 |_=>simp at hr
theorem QhA(H:HR CR B w0 g h w){t:TypeId}(ht:P.underlying t=some .string)(n s:Nat) :
  Gives CR B w0 g (.ptr h.next 0) (h.alloc (.iter n s 0)) ((Instr.range t (.string (bsOf n s))).run P w):=by
 obtain⟨H',hle⟩:=H.alloc (.stringIter (bsOf n s) 0) 0 0 (.iter n s 0) (.iter n s 0 (by show (w.heap.push _)[w.heap.size]? = _;simp) rfl);exact⟨_,w.alloc (.stringIter (bsOf n s) 0),.pointer (some ⟨w.heap.size,0,none⟩),by simp only[Instr.range,Sem.run_bind,run_underlying ht,Result.andThen];rfl,H',hle,by
  have:=VR.ptr (g:=g.bind h.next w.heap.size 0 0 0) h.next 0 w.heap.size 0 Gam.bind_rho_same
  simpa using this⟩
theorem decode_ascii{n s pos:Nat}(hp:pos<n)(hb:byteN s pos<128):Utf8.decode (bsOf n s) pos=(byteN s pos,1):=by
 have h1:=bsOf_get? (n:=n) (b:=s) hp;have h2:(bsOf n s).get! pos=UInt8.ofNat (byteN s pos):=by
  have hs:pos<(bsOf n s).size:=by rw[QaO];exact hp
  rw[getElem?_pos (bsOf n s) pos hs,oI]at h1;rw[←h1];show (bsOf n s).data[pos]! = (bsOf n s).data[pos]'hs;exact getElem!_pos (bsOf n s).data pos hs
 have h3:(UInt8.ofNat (byteN s pos)).toNat=byteN s pos:=by rw[QaB];exact Nat.mod_eq_of_lt (Qi6 _ _)
 unfold Utf8.decode;simp only[Nat.add_zero,h2,h3];rw[if_pos hb]
theorem QiV(H:HR CR B w0 g h w){ty:TypeId}{b:Nat}{u:Value}(hx:VR g (.ptr b 0) u){n s pos:Nat}(hget:h.get b=some (.iter n s pos)) :
  (pos<n→byteN s pos<128→∃w',(Instr.next u true ty).run P w=.ok (.tuple #[.bool true,.int .i64 pos,.int .i32 (byteN s pos)]) w'∧HR CR B w0 g (h.put b (.iter n s (pos+1))) w') ∧
  (¬pos<n→(Instr.next u true ty).run P w=.ok (.tuple #[.bool false]) w):=by
 cases hx with
 |ptr b o β base hrho =>
  have hobj:=H.obj b β base _ hrho hget;cases hobj with
  |iter n s pos hw hb =>
   subst hb;refine⟨fun hlt h128=>?_,fun hge=>?_⟩
   ·have hdec:=decode_ascii hlt h128;refine⟨{w with heap:=w.heap.setIfInBounds β (.stringIter (bsOf n s) (pos+1))},?_,?_⟩
    ·simp[Instr.next,getObj,setObj,Sem.run,hw,hlt,goInt,QaO,hdec]
    ·refine H.setObj hrho hget (by simp) (by simp) _ _ (.iter n s _ ?_ rfl);have hl:=H.lt b _ hrho;simp at hl;simp[hl]
   ·simp[Instr.next,getObj,Sem.run,hw,hge,QaO]
theorem QjO{v:AV}{n:Nat}{u:Value}(hl:lenA v=some n)(hv:VR g v u):(∃a c,u=.slice a n c)∨(u=.map none∧n=0)∨(∃s,u=.string s∧s.size=n):=by
 cases hv with
 |nilslice=>cases hl;exact .inl ⟨_,_,rfl⟩
 |empty a=>cases hl;exact .inl ⟨_,_,rfl⟩
 |sliceC b o n c β base h hn=>cases hl;exact .inl ⟨_,_,rfl⟩
 |sliceN b o n es c β base a h hn ha ht=>cases hl;exact .inl ⟨_,_,rfl⟩
 |vec l vs β o c sz hl' hn hz hz' hv hm=>cases hl;exact .inl ⟨_,_,rfl⟩
 |nilmap=>cases hl;exact .inr (.inl ⟨rfl,rfl⟩)
 |str n b hb=>cases hl;exact .inr (.inr ⟨_,rfl,QaO _ _⟩)
 |_=>simp[lenA]at hl
theorem Qg4 (H : HR CR B w0 g h w) {size n : Nat} {x : AV} {xs : List AV} {u : Value} (he : Qar h size n x = some xs) (hx : VR g x u) :
    ∃us:List Value,VRs g xs us∧(∀W:World,(∀a,W.cell? a=w.cell? a)→(Builtin.firstCells size n u).run P W=.ok us.toArray W)∧(n=0→us=[]):=by
  cases hx with
  | nilslice => simp only [Qar] at he; split at he
                · cases he;exact⟨[],VRs.nil g,fun W _=>by simp[Builtin.firstCells],fun _=>rfl⟩
                · cases he
  | empty a => simp only [Qar] at he; split at he
               · rename_i h0;cases he;subst h0;exact⟨[],VRs.nil g,fun W _=>by simp[Builtin.firstCells,loadCells,loadCellsFrom],fun _=>rfl⟩
               · cases he
  |sliceC b o m c β base hr hn =>
    simp only[Qar]at he;split at he
    · obtain⟨vs,h1,h2,h3⟩:=H.read hr he;refine⟨vs,h1,fun W hW=>?_,fun h0=>by subst h0;simpa using h2⟩;simp only[Builtin.firstCells];rw[←h2];exact run_loadCells_list (P:=P) W _ vs (fun j v hj=>by rw[addr_add,hW];exact h3 j v hj)
    · cases he
  |sliceN b o m es c β base a hr hn ha ht =>
    simp only[Qar]at he;split at he
    · rename_i hnm;obtain⟨vs,h1,h2,h3⟩:=H.read hr he;refine⟨vs,h1,fun W hW=>?_,fun h0=>by subst h0;simpa using h2⟩;simp only[Builtin.firstCells];rw[←h2];refine run_loadCells_list (P:=P) W _ vs (fun j v hj=>?_);have hj':j<vs.length:=by
        rcases Nat.lt_or_ge j vs.length with hlt|hge
        · exact hlt
        · rw[List.getElem?_eq_none hge]at hj;cases hj
      have hn0:n≠0:=fun e=>by rw[e]at h2;omega
      rw[ha.resolve_left (by omega),addr_add,hW];exact h3 j v hj
    · cases he
  |vec l vs β o c sz hl hn hz hz' hv hm =>
    simp only[Qar]at he;split at he
    · rename_i hc;obtain⟨hnl,hall⟩:=hc;cases he;have hsz:n≠0→sz=size:=by
        intro h0;cases l with
        |nil=>simp at hnl;exact absurd hnl h0
        |cons e l =>
          have h1:=hz 0 (by simp);obtain⟨k,rfl⟩:=Nat.exists_eq_succ_of_ne_zero h0;simp at hall h1;rw[←h1];exact hall.1
      have hflat:∀(k:Nat) (l:List (List AV)) (vs:List (List Value)),l.length=vs.length→(∀i (h1:i<l.length) (h2:i<vs.length),VRs g l[i] vs[i])→VRs g (l.take k).flatten (vs.take k).flatten:=by
        intro k
        induction k with
        |zero=>intro l vs _ _;simpa using VRs.nil g
        |succ k ih =>
          intro l vs hl hh;cases l with
          |nil=>cases vs with|nil=>simpa using VRs.nil g|cons=>simp at hl
          |cons a l=>cases vs with
            |nil=>simp at hl
            |cons b vs =>
              simp only[List.take_succ_cons,List.flatten_cons];exact(hh 0 (by simp) (by simp)).append (ih l vs (by simpa using hl) (fun i h1 h2=>hh (i+1) (Nat.succ_lt_succ h1) (Nat.succ_lt_succ h2)))
      have hrows:∀i (h1:i<l.length) (h2:i<vs.length),VRs g l[i] vs[i]:=fun i h1 h2=>⟨by rw[hz,hz'],fun j h3 h4=>hv i h1 h2 j h3 h4⟩
      have hF:=hflat n l vs hl hrows;have hlen:∀(k:Nat) (vs:List (List Value)),(∀i (h1:i<vs.length),vs[i].length=sz)→k≤vs.length→(vs.take k).flatten.length=k*sz:=by
        intro k
        induction k with
        |zero=>intro vs _ _;simp
        |succ k ih =>
          intro vs hz hk;cases vs with
          |nil=>simp at hk
          |cons b vs =>
            simp only[List.take_succ_cons,List.flatten_cons,List.length_append];rw[ih vs (fun i h1=>hz (i+1) (Nat.succ_lt_succ h1)) (by simpa using hk),Nat.succ_mul];have:=hz 0 (by simp);simp at this;omega
      have hget : ∀ (k : Nat) (vs : List (List Value)) (o : Nat), (∀ i (h1 : i < vs.length), vs[i].length = sz) → k ≤ vs.length → (∀ i (h2 : i < vs.length) j (h4 : j < vs[i].length), g.mem β (o + i * sz + j) = some vs[i][j]) →
          ∀j v,(vs.take k).flatten[j]? = some v→g.mem β (o+j)=some v:=by
        intro k
        induction k with
        |zero=>intro vs o _ _ _ j v hj;simp at hj
        |succ k ih =>
          intro vs o hz hk hm j v hj;cases vs with
          |nil=>simp at hk
          |cons b vs =>
            simp only[List.take_succ_cons,List.flatten_cons]at hj;have hb:b.length=sz:=by have:=hz 0 (by simp);simpa using this
            by_cases hlt:j<b.length
            · rw[List.getElem?_append_left hlt,gE hlt]at hj;cases hj;have:=hm 0 (by simp) j (by simpa using hlt);simpa using this
            · rw[List.getElem?_append_right (by omega)]at hj;have:=ih vs (o+sz) (fun i h1=>hz (i+1) (Nat.succ_lt_succ h1)) (by simpa using hk) (fun i h2 j h4=>by
                have:=hm (i+1) (Nat.succ_lt_succ h2) j h4;rw[←show o+(i+1)*sz+j=o+sz+i*sz+j by rw[Nat.succ_mul];omega];exact this) (j-b.length) v hj
              rw[←this];congr 1;omega
      refine⟨_,hF,fun W hW=>?_,fun h0=>by subst h0;simp⟩;simp only[Builtin.firstCells];have hl2:=hlen n vs hz' (by omega);have hns:n*size=(vs.take n).flatten.length:=by
        by_cases h0:n=0
        · subst h0;simp
        · rw[hl2,hsz h0]
      rw[hns];exact run_loadCells_list (P:=P) W _ _ (fun j v hj=>by
        rw[addr_add,hW];exact H.mem _ _ _ (hget n vs o hz' (by omega) hm j v hj))
    · cases he
  |str m b hb =>
    simp only[Qar]at he;split at he
    · rename_i h1;obtain⟨h1,hnm⟩:=h1;cases he;subst h1;have hbytes:∀k c,VRs g (Qkj k c) ((Qap k c).map fun x=>.int .u8 x.toNat):=by
        intro k
        induction k with
        |zero=>intro c;exact VRs.nil g
        |succ k ih =>
          intro c;simp only[Qkj,Qap,List.map_cons];refine .cons ?_ (ih _);rw[QaB];exact .int _ _
      refine⟨(Qap n b).map fun x=>.int .u8 x.toNat,hbytes n b,fun W _=>by
        simp only[Builtin.firstCells,Sem.run_pure]
        congr 1
        apply Array.ext';simp[Qa4, ←List.map_take,Qel _ _ _ hnm],fun h0=>by subst h0;simp[Qap]⟩
    · cases he
  |_=>simp[Qar]at he
end
end Go.Ab
namespace Go.Ab
open Go Go.RowKit
section
variable{CR:AC→Code→Prop}{B:Nat}{w0:Anchor}{g g':Gam}{h h':AH}{w w':World}{P:Program}{G:Nat→Option (List AV)}
theorem QfU{n:Nat}(ih:∀v a,toAV n v=some a→∀g,VR g a v):∀(l:List Value)(m:List AV),l.mapM (toAV n)=some m→∀g,VRs g m l
 | [],m,h,g=>by simp at h;subst h;exact VRs.nil g
 |v::l,m,h,g=>by
  simp only[List.mapM_cons,Option.bind_eq_bind,Option.bind_eq_some_iff,Option.pure_def,oI]at h;obtain⟨a,ha,m',hm,rfl⟩:=h;exact .cons (ih v a ha g) (QfU ih l m' hm g)
theorem QfT:∀(n:Nat)(v:Value)(a:AV),toAV n v=some a→∀g,VR g a v:=by
  intro n
  induction n with
  |zero =>
    intro v a h g;unfold toAV at h;split at h<;>first|(cases h;constructor;done)|(cases h;exact VR.ofString _ _)|(cases h;done)|skip
    all_goals
      first
        | (split at h
           · rename_i hc;cases h;simp at hc;obtain⟨rfl,rfl⟩:=hc;exact .func _ [] [] #[] #[] rfl rfl (fun i h1=>absurd h1 (by simp)) (fun i h1=>absurd h1 (by simp))
           · cases h)
        |(exfalso;omega)
  |succ n ih =>
    intro v a h g;unfold toAV at h;split at h<;>first|(cases h;constructor;done)|(cases h;exact VR.ofString _ _)|(cases h;done)|skip
    · split at h
      · rename_i hc;cases h;simp at hc;obtain⟨rfl,rfl⟩:=hc;exact .func _ [] [] #[] #[] rfl rfl (fun i h1=>absurd h1 (by simp)) (fun i h1=>absurd h1 (by simp))
      · cases h
    · rename_i m t v hnm;cases hnm;obtain⟨a',ha,rfl⟩:=oM h;exact .iface _ _ _ (ih _ _ ha g)
    · rename_i m cs hnm;cases hnm;obtain⟨a',ha,rfl⟩:=oM h;have:=(QfU ih _ _ ha g).agg;simpa using this
    · rename_i m cs hnm;cases hnm;obtain⟨a',ha,rfl⟩:=oM h;have:=(QfU ih _ _ ha g).tuple;simpa using this
theorem Qcz{t:TypeId}{a:AV}(h:zeroT P t=some a):∃i z,P.info? t=some i∧i.zero=some z∧∀g,VR g a z:=by
 unfold zeroT at h;cases hi:P.info? t with
 |none=>simp[hi]at h
 |some i =>
  simp only[hi,Option.bind_some]at h;cases hz:i.zero with
  |none=>simp[hz]at h
  |some z=>simp only[hz,Option.bind_some]at h;exact⟨i,z,rfl,hz,fun g=>QfT 4 z a h g⟩
theorem Qmm:∀(n:Nat)(v:Value)(a:AV),toAV n v=some a→a.known=true:=by
 intro n v a h;cases a with
 |undef =>
  exfalso;unfold toAV at h;split at h
  all_goals first|(cases h;done)|(split at h<;>cases h;done)|skip
  all_goals (rw[Option.map_eq_some_iff]at h;obtain⟨_,_,hh⟩:=h;cases hh)
 |_=>rfl
theorem Qba{t:TypeId}{l:List AV}(h:Qby P t=some l):∃i z,P.info? t=some i∧i.zero=some z∧l.length=i.size∧∀g,VRs g l z.cells.toList:=by
 unfold Qby at h;split at h
 ·rename_i a n ha hn;split at h
  ·rename_i hl;cases h;obtain⟨i,z,hi,hz,hv⟩:=Qcz ha;obtain⟨i',hi',rfl⟩:=QdD hn;rw[hi]at hi';cases hi';refine⟨i,z,hi,hz,hl,fun g=>(hv g).cells ?_⟩;unfold zeroT at ha;simp only[hi,Option.bind_some,hz]at ha;exact Qmm 4 z a ha
  ·cases h
 ·cases h
def Done(CR:AC→Code→Prop)(B:Nat)(w0:Anchor)(g:Gam)(r:AV)(h':AH)(res:Result Next):Prop:=
 ∃g' w' v,(res=.ok (.value v) w'∨(res=.ok .skip w'∧v=undef))∧HR CR B w0 g' h' w'∧g.le g'∧VR g' r v
theorem Done.of_gives{r:AV}{res:Result Value}(hg:Gives CR B w0 g r h' res){x:Result Next}(hx:∀v w',res=.ok v w'→x=.ok (.value v) w'):Done CR B w0 g r h' x:=by
 obtain⟨g',w',v,h1,h2,h3,h4⟩:=hg;exact⟨g',w',v,.inl (hx v w' h1),h2,h3,h4⟩
theorem Done.value(H:HR CR B w0 g h w){r:AV}{v:Value}(hv:VR g r v){x:Result Next}(hx:x=.ok (.value v) w):Done CR B w0 g r h x:=⟨g,w,v,.inl hx,H,g.le_refl,hv⟩
theorem Done.skip(H:HR CR B w0 g h' w'){x:Result Next}(hx:x=.ok .skip w'):Done CR B w0 g .undef h' x:=⟨g,w',undef,.inr ⟨hx,rfl⟩,H,g.le_refl,.undef _⟩
theorem QaV{ev:AOpd→AV}{ρ:Operand→Value}(hev:∀x ax,Qaa G x=some ax→VR g (ev ax) (ρ x)){o:Option Operand}{a:Option AOpd}(h:Qc5 G o=some a):OptR (VR g) (a.map ev) (o.map ρ):=by
 cases o with
 |none=>cases h;trivial
 |some x =>
  simp only[Qc5,Option.map_eq_some_iff]at h;obtain⟨ax,hax,rfl⟩:=h;exact hev x ax hax
theorem Qa0{ev:AOpd→AV}{ρ:Operand→Value}(hev:∀x ax,Qaa G x=some ax→VR g (ev ax) (ρ x)):∀(l:List Operand)(m:List AOpd),l.mapM (Qaa G)=some m→VRs g (m.map ev) (l.map ρ)
 | [],m,h=>by simp at h;subst h;exact VRs.nil g
 |x::l,m,h=>by
  simp only[List.mapM_cons,Option.bind_eq_bind,Option.bind_eq_some_iff,Option.pure_def,oI]at h;obtain⟨a,ha,m',hm,rfl⟩:=h;exact .cons (hev x a ha) (Qa0 hev l m' hm)
theorem partsT_spec{ev:AOpd→AV}{ρ:Operand→Value}(hev:∀x ax,Qaa G x=some ax→VR g (ev ax) (ρ x)){place:Nat→Option (Nat×Nat)} :
  ∀(l:List (Nat×Operand))(m:List (Nat×Nat×AOpd)),(l.mapM fun(i,x)=>match place i,Qaa G x with|some (o,s),some x=>some (o,s,x)|_,_=>none)=some m →
   m.length=l.length∧∀i (h1:i<m.length)(h2:i<l.length),place l[i].1=some (m[i].1,m[i].2.1)∧VR g (ev m[i].2.2) (ρ l[i].2)
 | [],m,h=>by simp at h;subst h;exact⟨rfl,fun i h1=>absurd h1 (by simp)⟩
 |(j,x)::l,m,h=>by
  simp only[List.mapM_cons,Option.bind_eq_bind,Option.bind_eq_some_iff,Option.pure_def,oI]at h;obtain⟨a,ha,m',hm,rfl⟩:=h;obtain⟨h1,h2⟩:=partsT_spec hev l m' hm;refine⟨by simp[h1],fun i hi1 hi2=>?_⟩;cases i with
  |zero =>
   simp only[List.getElem_cons_zero];split at ha
   ·rename_i o s ax hp hx;cases ha;exact⟨hp,hev x ax hx⟩
   ·cases ha
  |succ i=>exact h2 i (by simpa using hi1) (by simpa using hi2)
theorem partsT_spec'{ev:AOpd→AV}{ρ:Operand→Value}(hev:∀x ax,Qaa G x=some ax→VR g (ev ax) (ρ x)){place:Nat→Option (Nat×Nat)}{parts:Array (Nat×Operand)}{m:List (Nat×Nat×AOpd)}
  (h:Qgj G place parts=some m):m.length=parts.toList.length∧∀i (h1:i<m.length)(h2:i<parts.toList.length),place parts.toList[i].1=some (m[i].1,m[i].2.1)∧VR g (ev m[i].2.2) (ρ parts.toList[i].2):=
 partsT_spec hev parts.toList m h
end
end Go.Ab
namespace Go.Ab
open Go Go.RowKit
section
variable{CR:AC→Code→Prop}{B:Nat}{w0:Anchor}{g g':Gam}{h h':AH}{w w':World}{P:Program}{G:Nat→Option (List AV)}
theorem Qgs(mx:Bool):∀(rest:List AV)(us:List Value)(v r:AV)(u:Value),VR g v u→VRs g rest us→QeZ mx v rest=some r →
  ∃x,(us.foldlM (if mx then Builtin.max2 else Builtin.min2) u).run P w=.ok x w∧VR g r x
 | [],[],v,r,u,hv,_,hr=>by cases hr;exact⟨u,by simp,hv⟩
 | [],_::_,_,_,_,_,hl,_=>by have:=hl.len;simp at this
 |_::_,[],_,_,_,_,hl,_=>by have:=hl.len;simp at this
 |y::rest,u2::us,v,r,u,hv,hl,hr=>by
  unfold QeZ at hr;split at hr
  ·simp at *
  ·rename_i j a k b rest' heq;cases heq;split at hr
   ·rename_i hjk;subst hjk;cases hv;have h2:=hl.head;cases h2;obtain⟨x,hx,hxr⟩:=Qgs mx rest us _ r _ (.int j (if mx then (if b>a then b else a) else (if b<a then b else a))) hl.tail hr;refine⟨x,?_,hxr⟩;cases mx<;>simp_all [Builtin.max2,Builtin.min2]
   ·cases hr
  ·cases hr
theorem QeS{k:Nat}{x:AV}{n:Nat}{u:Value}{t ty:TypeId}(H:HR CR B w0 g h w)(hl:lenK h k x=some n)(hx:VR g x u)
  (ht:(k=0∧P.underlying t=some .string)∨(k=1∧∃e,P.underlying t=some (.slice e))∨(k=2∧∃a e,P.underlying t=some (.map a e))):(Builtin.len_ #[t] ty #[u]).run P w=.ok (goInt n) w:=by
 rcases ht with⟨rfl,ht⟩|⟨rfl,e,ht⟩|⟨rfl,a,e,ht⟩
 ·cases hx<;>simp only[lenK,reduceCtorEq,oI]at hl;subst hl;simp[Builtin.len_,run_underlying ht,QaO]
 ·cases hx<;>simp only[lenK,reduceCtorEq,oI]at hl
  all_goals (subst hl;simp[Builtin.len_,run_underlying ht])
 ·cases hx<;>simp only[lenK,reduceCtorEq,oI]at hl
  ·subst hl;simp[Builtin.len_,run_underlying ht]
  ·rename_i b β hrho;split at hl
   ·rename_i es clock hget;cases hl;have hobj:=H.obj b β 0 _ hrho hget;cases hobj with
    |map es clock entries hw hb hl he=>simp[Builtin.len_,run_underlying ht,Qb1 hw,hl]
   ·cases hl
theorem Qj4(H:HR CR B w0 g h w){t u ty e:TypeId}{s x r:AV}{us ux:Value}{i:TypeInfo}{z:Value}{zl:List AV}(ht:P.underlying t=some (.slice e))(hu:∀k,P.underlying u≠some (.int k))(hu':(P.underlying u).isSome=true)
  (hi:P.info? e=some i)(hz:i.zero=some z)(hzl:zl.length=i.size)(hzr:VRs g zl z.cells.toList){n:Nat}{xs:List AV}(hn:lenA x=some n)(hx:Qar h i.size n x=some xs)(ha:QbU i.size i.bytes (2*e) h n xs s=some (r,h'))
  (hs:VR g s us)(hxv:VR g x ux):Gives CR B w0 g r h' ((Builtin.append_ #[t,u] ty #[us,ux]).run P w):=by
 obtain⟨vs,hvs,hrun,h0⟩:=Qg4 (P:=P) H hx hxv;have hlen:∀W,(Builtin.lenOf ux).run P W=.ok n W:=by
  intro W;rcases QjO hn hxv with⟨a,c,rfl⟩|⟨rfl,rfl⟩|⟨s,rfl,rfl⟩
  ·rfl
  ·cases hxv with
   |nilmap=>simp[Qar]at hx
   |_=>simp[Qar]at hx
  ·rfl
 have hzs:z.cells.size=i.size:=by have:=hzr.len;simp at this;omega
 obtain⟨g',w',r',h1,h2,h3,h4⟩:=H.append (ty:=ty) (sT:=t) (xT:=u) (elem:=e) (x:=ux) (us:=vs) (fun W hW=>⟨ht,hu,hu',⟨i,hi,rfl,rfl,z,hz,hzs⟩,hlen W,hrun W hW⟩) ha hs hvs h0;exact⟨g',w',r',h1,h2,h3,h4⟩
theorem QmS(H:HR CR B w0 g h w){t u ty e:TypeId}{size:Nat}(ht:P.underlying t=some (.slice e))(hs:sizeT P e=some size){d s r:AV}{ud us:Value}{n m:Nat}(hn:lenA s=some n)(hm:lenA d=some m){xs:List AV}
  (hx:Qar h size (min n m) s=some xs)
  (hr:(match (generalizing:=false) d with|.slice b o _ _|.slop b o _ _=>(h.store b o xs).map fun h'=>(AV.int .i64 (min n m:Nat),h')|.nilslice|.empty=>some (.int .i64 0,h)|_=>none)=some (r,h'))(hd:VR g d ud)(hsv:VR g s us) :
  ∃w',(Builtin.copy_ #[t,u] ty #[ud,us]).run P w=.ok (goInt (min n m:Nat)) w'∧HR CR B w0 g h' w'∧VR g r (goInt (min n m:Nat)):=by
 obtain⟨vs,hvs,hrun,h0⟩:=Qg4 (P:=P) H hx hsv;have hrun':=hrun w (fun _=>rfl);have hlen:(Builtin.lenOf us).run P w=.ok n w:=by
  rcases QjO hn hsv with⟨a,c,rfl⟩|⟨rfl,rfl⟩|⟨s,rfl,rfl⟩
  ·rfl
  ·cases hsv with
   |nilmap=>simp[Qar]at hx
   |_=>simp[Qar]at hx
  ·rfl
 have hmin:∀a b:Nat,Nat.min a b=min a b:=fun _ _=>rfl
 cases hd with
 |nilslice =>
  cases hm;simp only[oI,Prod.mk.injEq]at hr;obtain⟨rfl,rfl⟩:=hr;have hv0:=h0 (by simp);subst hv0;simp only[Nat.min_zero]at hrun' ⊢;exact⟨w,by simp[Builtin.copy_,run_underlying ht,hlen,run_sizeOf hs,hrun'],H,.int _ _⟩
 |empty a =>
  cases hm;simp only[oI,Prod.mk.injEq]at hr;obtain⟨rfl,rfl⟩:=hr;have hv0:=h0 (by simp);subst hv0;simp only[Nat.min_zero]at hrun' ⊢;exact⟨w,by simp[Builtin.copy_,run_underlying ht,hlen,run_sizeOf hs,hrun',storeCells],H,.int _ _⟩
 |sliceC b o m' c β base hrho hmc =>
  cases hm;obtain⟨h1,hst,heq⟩:=oM hr;simp only[Prod.mk.injEq]at heq;obtain⟨rfl,rfl⟩:=heq;obtain⟨w',hw',H'⟩:=H.store (P:=P) hrho hst hvs;exact⟨w',by simp[Builtin.copy_,run_underlying ht,hlen,run_sizeOf hs,hrun',hmin,hw'],H',.int _ _⟩
 |sliceN b o m' es c β base a hrho hmc ha htop =>
  cases hm;obtain⟨h1,hst,heq⟩:=oM hr;simp only[Prod.mk.injEq]at heq;obtain⟨rfl,rfl⟩:=heq;obtain⟨w',hw',H'⟩:=H.store (P:=P) hrho hst hvs;rcases ha with rfl|rfl
  ·have:m=0:=by omega
   subst this;have hv0:=h0 (by simp);subst hv0;have e:w'=w:=by
    have:(storeCells ⟨β,base+o,none⟩ ([]:List Value) 0).run P w=.ok () w:=rfl;rw[this]at hw';cases hw';rfl
   subst e;refine⟨w',?_,H',.int _ _⟩;simp only[Nat.min_zero]at hrun' ⊢;simp[Builtin.copy_,run_underlying ht,hlen,run_sizeOf hs,hrun',storeCells]
  ·exact⟨w',by simp[Builtin.copy_,run_underlying ht,hlen,run_sizeOf hs,hrun',hmin,hw'],H',.int _ _⟩
 |_=>first|(simp[lenA]at hm;done)|simp at hr
theorem Qfz:∀(n:Nat)(z:Array Value),(Builtin.zeroCells z n).toList=(List.replicate n z.toList).flatten:=by
 intro n z
 induction n with
 |zero=>simp[Builtin.zeroCells]
 |succ n ih =>
  rw[List.replicate_succ',List.flatten_append,←ih];apply List.ext_getElem
  ·simp[Builtin.zeroCells,Nat.succ_mul]
  ·intro j h1 h2;simp only[Builtin.zeroCells,Array.toList_map,Array.toList_range,List.getElem_map,List.getElem_range,List.flatten_cons,List.flatten_nil,List.append_nil,List.getElem_append,List.length_map,List.length_range];split
   ·rfl
   ·rename_i hj;have h3:j<(n+1)*z.size:=by simpa[Builtin.zeroCells] using h1
    have hj':n*z.size≤j:=Nat.le_of_not_lt hj;have h4:j-n*z.size<z.size:=by rw[Nat.succ_mul]at h3;omega
    have e:j%z.size=j-n*z.size:=by
     have h5:=Nat.sub_mul_mod (x:=j) (k:=n) (n:=z.size) (by rw[Nat.mul_comm];exact hj');rw[←h5,Nat.mul_comm z.size n,Nat.mod_eq_of_lt h4]
    rw[e,getElem!_pos z _ h4];simp
theorem VRs.zeros{g:Gam}{l:List AV}{vs:List Value}(h:VRs g l vs):∀n:Nat,VRs g (List.replicate n l).flatten (List.replicate n vs).flatten
 |0=>VRs.nil g
 |n+1=>by
  rw[List.replicate_succ,List.replicate_succ,List.flatten_cons,List.flatten_cons];exact VRs.append h (VRs.zeros h n)
theorem QiX(H:HR CR B w0 g h w){t ty e:TypeId}(ht:P.underlying t=some (.slice e)){i:TypeInfo}(hi:P.info? e=some i){zv:Value}(hzv:i.zero=some zv){z:List AV}(hz:VRs g z zv.cells.toList){x r:AV}{ux:Value}(hx:VR g x ux)
  (hr:(match (generalizing:=false) x with|.nilslice|.empty=>some (AV.tuple [],h)|.slice b o n _|.slop b o n _=>if n == 0 then some (.tuple [],h) else (h.store b o (List.replicate n z).flatten).map fun h'=>(.tuple [],h')|_=>none)=some (r,h')) :
  ∃w',(Builtin.clear_ #[t] ty #[ux]).run P w=.ok (.tuple #[]) w'∧HR CR B w0 g h' w'∧r=.tuple []:=by
 cases hx with
 |nilslice =>
  cases hr;exact⟨w,by simp[Builtin.clear_,run_underlying ht],H,rfl⟩
 |empty a =>
  cases hr;refine⟨w,?_,H,rfl⟩;cases a<;>simp[Builtin.clear_,run_underlying ht]
 |sliceC b o m' c β base hrho hmc =>
  simp only at hr;split at hr
  ·rename_i h0;cases hr;have:m'=0:=by simpa using h0
   subst this;exact⟨w,by simp[Builtin.clear_,run_underlying ht],H,rfl⟩
  ·rename_i h0;have hne:m'≠0:=by simpa using h0
   obtain⟨h1,hst,heq⟩:=oM hr;simp only[Prod.mk.injEq]at heq;obtain⟨rfl,rfl⟩:=heq;obtain⟨w',hw',H'⟩:=H.store (P:=P) hrho hst (hz.zeros m');rw[←Qfz]at hw';refine⟨w',?_,H',rfl⟩;cases m' with
   |zero=>exact absurd rfl hne
   |succ m'=>simp[Builtin.clear_,run_underlying ht,zeroValue,typeInfo,hi,hzv,hw']
 |sliceN b o m' es c β base a hrho hmc ha htop =>
  simp only at hr;split at hr
  ·rename_i h0;cases hr;have:m'=0:=by simpa using h0
   subst this;refine⟨w,?_,H,rfl⟩;cases a<;>simp[Builtin.clear_,run_underlying ht]
  ·rename_i h0;have hne:m'≠0:=by simpa using h0
   obtain⟨h1,hst,heq⟩:=oM hr;simp only[Prod.mk.injEq]at heq;obtain⟨rfl,rfl⟩:=heq;obtain⟨w',hw',H'⟩:=H.store (P:=P) hrho hst (hz.zeros m');rw[←Qfz]at hw';refine⟨w',?_,H',rfl⟩;rcases ha with rfl|rfl
   ·have:m'=0:=by omega
    exact absurd this hne
   ·cases m' with
    |zero=>exact absurd rfl hne
    |succ m'=>simp[Builtin.clear_,run_underlying ht,zeroValue,typeInfo,hi,hzv,hw']
 |_=>simp at hr
theorem Qgq{g:Gam}:∀{l:List AV}{v:Nat}{us:List Value},numOf l=some v→VRs g l us→∃bs:List UInt8,us=bs.map (fun x=>Value.int .u8 x.toNat)∧v<256^bs.length∧Qap bs.length v=bs
 | [],v,us,h,hl=>by
  cases h;have:us=[]:=by have:=hl.len;exact List.length_eq_zero_iff.1 this.symm
  exact⟨[],by rw[this];rfl,by simp,rfl⟩
 |a::l,v,us,h,hl=>by
  match us,hl with
  | [],hl=>have:=hl.len;simp at this
  |u::us,hl =>
   unfold numOf at h;split at h
   ·rename_i h0;cases h0
   ·rename_i c l' heq;cases heq;split at h
    ·rename_i hc;obtain⟨b,hb,rfl⟩:=oM h;obtain⟨bs,rfl,h1,h2⟩:=Qgq hb hl.tail;have hu:=hl.head.int_eq;subst hu;refine⟨UInt8.ofNat c::bs,?_,?_,?_⟩
     ·have e:(UInt8.ofNat c).toNat=c:=by rw[UInt8.toNat_ofNat'];omega
      rw[List.map_cons,e];rfl
     ·simp only[List.length_cons,Nat.pow_succ];omega
     ·simp only[List.length_cons,Qap];have e1:(c+256*b) / 256=b:=by omega
      rw[e1,h2]
      congr 1
      exact Qb9 (by omega)
    ·cases h
   ·cases h
theorem QgW(w:World)(a:Addr)(n:Nat){k:Nat}(h:k≠a.block):(w.freeze a n).heap[k]? = w.heap[k]?:=by
 unfold World.freeze;split
 ·rfl
 ·simp only[Array.getElem?_modify];rw[if_neg (Ne.symm h)]
theorem Qle(w:World)(a:Addr)(n:Nat):(w.freeze a n).heap.size=w.heap.size:=by
 unfold World.freeze;split<;>simp
theorem Qlf(w:World)(a:Addr)(n:Nat)(b:Addr):(w.freeze a n).cell? b=w.cell? b:=by
 by_cases hb:b.block=a.block
 ·unfold World.freeze;split
  ·rfl
  ·unfold World.cell?;simp only[Array.getElem?_modify,hb,if_true];cases w.heap[a.block]? with
   |none=>rfl
   |some o=>cases o<;>rfl
 ·unfold World.cell?;rw[QgW w a n hb]
theorem HR.frozenRow(H:HR CR B w0 g h w){β off n:Nat}(hB:B≤β)(hno:∀b base o,g.rho b=some (β,base)→h.get b=some o→False):HR CR B w0 g h (w.freeze ⟨β,off,none⟩ n):=
 ⟨H.rhoNext,H.getNext,fun b x hx=>by rw[Qle];exact H.lt b x hx,
  fun b ξ base o hr ho=>(H.obj b ξ base o hr ho).of_block (QgW w _ n fun e=>by simp only at e;subst e;exact hno b base o hr ho),
  H.sep,fun ξ o v hm=>by rw[Qlf];exact H.mem ξ o v hm,H.memsep,H.low,Lib.below_freeze H.below hB n,H.base,H.held⟩
theorem QmI{e:TypeId}(hc:P.cellsOf e=1)(count off n:Nat)(hn:off+n≤count):liesAt P P.depth e count off e n=true:=by
 have hd:P.depth=(2*(P.types.size+Made.depth)+1)+1:=rfl;rw[hd];simp only[liesAt,Bool.or_eq_true]
 left
 rw[hd];simp[rowAt,hc,hn,sameLayout,Nat.mod_one]
theorem QbM(pt it ty:TypeId)(p:Option Addr)(k:IntKind):(Builtin.unsafeString_ #[pt,it] ty #[.pointer p,.int k 0]).run P w=.ok (.string .empty) w:=by
  have hmax:IntKind.i64.max=9223372036854775807:=rfl;cases p with
  |none =>
    obtain ⟨r1, r2, r3, hdef⟩ : ∃ r1 r2 r3, Builtin.unsafeString_ #[pt, it] ty #[.pointer none, .int k 0] = (do
          let n ←asInt (.int k 0)
          if n<0 then r1
          if n>IntKind.i64.max then r2
          if n=0 then pure (.string .empty) else r3):=⟨_,_,_,rfl⟩
    rw[hdef];simp[asInt,asIntOf,hmax]
  |some a =>
    obtain ⟨r1, r2, r3, hdef⟩ : ∃ (r1 r2 : Sem Unit) (r3 : Int → Sem Value), Builtin.unsafeString_ #[pt, it] ty #[.pointer (some a), .int k 0] = (do
          let n ←asInt (.int k 0)
          if n<0 then r1
          if n>IntKind.i64.max then r2
          if n=0 then pure (.string .empty) else r3 n):=⟨_,_,_,rfl⟩
    rw[hdef];simp[asInt,asIntOf,hmax]
theorem Qd5 {pt it ty e : TypeId} (hp : P.underlying pt = some (.pointer e)) (hc : P.cellsOf e = 1) {β off cells : Nat} {k : IntKind} (hsh : w.shape? β = some (e, cells)) (l : List UInt8) (h0 : l.length ≠ 0) (hn : off + l.length ≤ cells)
    (h63:l.length<1000000000000)(hcell:∀j x,l[j]? = some x→w.cell? ((⟨β,off,none⟩:Addr).add j)=some (.int .u8 x.toNat)) :
    (Builtin.unsafeString_ #[pt,it] ty #[.pointer (some ⟨β,off,none⟩),.int k l.length]).run P w=.ok (.string ⟨l.toArray⟩) (w.freeze ⟨β,off,none⟩ l.length):=by
  have hlb:=Lib.run_loadBytes (P:=P) w l ⟨β,off,none⟩ .empty hcell;have hlies:=QmI (P:=P) hc (cells / P.cellsOf e) off l.length (by rw[hc];simpa using hn);have h63':¬(9223372036854775807:Int)<(l.length:Int):=by omega
  obtain ⟨r1, r2, r3, hdef⟩ : ∃ r1 r2 r3, Builtin.unsafeString_ #[pt, it] ty #[.pointer (some ⟨β, off, none⟩), .int k l.length] = (do
        let n ←asInt (.int k l.length)
        if n<0 then r1
        if n>IntKind.i64.max then r2
        if n=0 then pure (.string .empty)
        else if ←variablesAt ⟨β,off,none⟩ (←elemOf pt) n.toNat then do
          let s ←loadBytes ⟨β,off,none⟩ .empty n.toNat
          freeze ⟨β,off,none⟩ n.toNat
          pure (.string s)
        else r3):=⟨_,_,_,rfl⟩
  rw[hdef];have hmax:IntKind.i64.max=9223372036854775807:=rfl;have hneg:¬(l.length:Int)<0:=by omega
  have hl:l≠[]:=fun e=>h0 (by rw[e];rfl)
  simp[asInt,asIntOf,hmax,h63',hneg,hl,variablesAt,hsh,elemOf,run_underlying hp,hlies,hlb]
theorem QgQ(H:HR CR B w0 g h w){pt it ty e:TypeId}(hp:P.underlying pt=some (.pointer e))(hc:P.cellsOf e=1){a z r:AV}{ua uz:Value}(ha:VR g a ua)(hz:VR g z uz)
  (hr:(match (generalizing:=false) asNat z with
   |some m=>match (generalizing:=false) a with
    | .nilptr=>if m=0 then some (.str 0 0,h) else none
    | .ptr b o=>if m=0 then some (.str 0 0,h) else if m<1000000000000 then (match (generalizing:=false) h.get b with
      |some (.cells _ (some t) _ anc)=>if t / 2=e then (match (generalizing:=false) h.read b o m with
       |some l=>(match (generalizing:=false) numOf l with|some v=>some (.str m v,h.kill (b::anc))|none=>none)
       |none=>none) else none
      |_=>none) else none
    |_=>none
   |none=>none)=some (r,h')) :
  Gives CR B w0 g r h' ((Builtin.unsafeString_ #[pt,it] ty #[ua,uz]).run P w):=by
 split at hr
 case h_2=>cases hr
 rename_i m hm;obtain⟨k,rfl⟩:=QaS hm hz;have hempty:VR g (.str 0 0) (.string .empty):=VR.str 0 0 (by decide);cases ha with
 |nilptr =>
  simp only at hr;split at hr
  ·rename_i h0;subst h0;cases hr;exact⟨g,w,_,QbM _ _ _ _ _,H,g.le_refl,hempty⟩
  ·cases hr
 |ptr b o β base hrho =>
  simp only at hr;split at hr
  ·rename_i h0;subst h0;cases hr;exact⟨g,w,_,QbM _ _ _ _ _,H,g.le_refl,hempty⟩
  rename_i hm0;split at hr
  case isFalse=>cases hr
  rename_i hlt;split at hr
  case h_2=>cases hr
  rename_i l t pre anc hget;split at hr
  case isFalse=>cases hr
  rename_i hte;split at hr
  case h_2=>cases hr
  rename_i l' hrd;split at hr
  case h_2=>cases hr
  rename_i v hnum;cases hr;have hobj:=H.obj b β base _ hrho hget;obtain⟨vs,hvs,hvl,hcells⟩:=H.read hrho hrd;obtain⟨bs,rfl,hv,hbs⟩:=Qgq hnum hvs;have hbl:bs.length=m:=by simpa using hvl
  subst hbl;obtain⟨⟨c,hw⟩,hrow⟩:(∃c,w.heap[β]? = some (.cells c (t / 2) (0,0)))∧RowR g w β base l (g.top b):=by cases hobj with|cells _ _ _ _ hp _ hes hrow=>exact⟨(hes _ rfl).1,hrow⟩
  rw[hte]at hw;have hroom:base+o+bs.length≤c.size:=by
   obtain⟨c',e',q1,q2,q3,_⟩:=hrow;rw[hw]at q1;cases q1;have:o+bs.length≤l.length:=by
    unfold AH.read at hrd;split at hrd
    ·rename_i l2 hl2;unfold AH.cellsAt at hl2;rw[hget]at hl2;simp only[oI]at hl2;subst hl2;split at hrd
     ·assumption
     ·cases hrd
    ·cases hrd
   omega
  have hsh:w.shape? β=some (e,c.size):=by simp[World.shape?,hw]
  have hrun:=Qd5 (P:=P) (w:=w) (it:=it) (ty:=ty) (k:=k) hp hc hsh bs hm0 hroom hlt (fun j x hj=>by
   rw[addr_add];exact hcells j _ (by rw[List.getElem?_map,hj];rfl))
  refine⟨g,_,_,hrun,(H.kill (b::anc)).frozenRow (H.low b β base _ hrho hget) (fun b' base' o' hr' ho'=>?_),g.le_refl,?_⟩
  ·obtain⟨hn,ho'⟩:=AH.get_kill ho';simp only[List.mem_cons,not_or]at hn;rcases H.sep b b' β base base' _ o' hrho hr' hget ho' (Ne.symm hn.1) with hu|hu|hu
   ·obtain⟨l1,sp1,pre1,anc1,l2,e1,e2,e3,e4⟩:=hu;cases e1;exact hn.2 e3
   ·obtain⟨l1,sp1,pre1,anc1,l2,e1,e2,e3,e4⟩:=hu;cases e2
   ·obtain⟨⟨l2,e⟩,_⟩:=hu;cases e
  ·have:=VR.str (g:=g) bs.length v hv;have e:bsOf bs.length v=⟨bs.toArray⟩:=by
    apply QcP;rw[Qa4,hbs]
   rwa [e]at this
 |_=>simp at hr
theorem QgR{ts:Array TypeId}{ty:TypeId}{s r:AV}{us:Value}(hs:VR g s us)
  (hr:(match (generalizing:=false) s with
   | .nilslice=>some (.nilptr,h)
   | .slice b o _ c=>if c=0 then none else some (.ptr b o,h)
   | .slop b o n _=>if n=0 then none else some (.ptr b o,h)
   |_=>none)=some (r,h')):∃v,(Builtin.unsafeSliceData_ ts ty #[us]).run P w=.ok v w∧VR g r v∧h'=h:=by
 cases hs with
 |nilslice=>cases hr;exact⟨_,rfl,.nilptr,rfl⟩
 |sliceC b o n c β base hrho hn =>
  simp only at hr;split at hr
  ·cases hr
  ·rename_i hc;cases hr;exact⟨_,Lib.run_unsafeSliceData_row w ts ty _ n c hc,.ptr b o β base hrho,rfl⟩
 |sliceN b o n es c β base a hrho hn ha ht =>
  simp only at hr;split at hr
  ·cases hr
  ·rename_i hn0;cases hr;have hc:c≠0:=by omega
   rcases ha with rfl|rfl
   ·exact absurd rfl hc
   ·exact⟨_,Lib.run_unsafeSliceData_row w ts ty _ n c hc,.ptr b o β base hrho,rfl⟩
 |_=>simp at hr
end
end Go.Ab
namespace Go.Ab
open Go Go.RowKit
section
variable{CR:AC→Code→Prop}{B:Nat}{w0:Anchor}{g g':Gam}{h h':AH}{w w':World}{P:Program}{G:Nat→Option (List AV)}
theorem run_v{s:Sem Value}{v:Value}(hs:s.run P w=.ok v w'):(do let x ←s;pure (Next.value x):Sem Next).run P w=.ok (.value v) w':=by
 simp[hs]
theorem Done.v{s:Sem Value}{r:AV}{v:Value}(H:HR CR B w0 g h w)(hs:s.run P w=.ok v w)(hv:VR g r v):Done CR B w0 g r h ((do let x ←s;pure (Next.value x):Sem Next).run P w):=
 Done.value H hv (run_v hs)
theorem Done.gives{s:Sem Value}{r:AV}(hg:Gives CR B w0 g r h' (s.run P w)):Done CR B w0 g r h' ((do let x ←s;pure (Next.value x):Sem Next).run P w):=
 Done.of_gives hg fun _ _ e=>run_v e
theorem Done.u{s:Sem Unit}(hs:s.run P w=.ok () w')(H:HR CR B w0 g h' w'):Done CR B w0 g .undef h' ((do s;pure Next.skip:Sem Next).run P w):=
 Done.skip H (by simp[hs])
theorem Done.tup{s:Sem Value}{r:AV}{v:Value}(hs:s.run P w=.ok v w')(H:HR CR B w0 g h' w')(hv:VR g r v):Done CR B w0 g r h' ((do let x ←s;pure (Next.value x):Sem Next).run P w):=
 ⟨g,w',v,.inl (run_v hs),H,g.le_refl,hv⟩
theorem Qi7(H:HR CR B w0 g h w){ρ:Operand→Value}{ev:AOpd→AV}(hev:∀x ax,Qaa G x=some ax→VR g (ev ax) (ρ x)){b:Builtin}{ts:Array TypeId}{args:Array Operand}{aop:AOp}{r:AV}{ty:TypeId}{cs:Array Bool}
  (hc:Qej P G b ts args=some aop)(he:exec h ev aop=some (r,h')):Done CR B w0 g r h' ((builtin b ts ty cs (args.map ρ)).run P w):=by
 have hts:ts=ts.toList.toArray:=by simp
 have hargs:args.map ρ=(args.toList.map ρ).toArray:=Array.ext' (by simp);have mm:∀(mx:Bool) (l:List AOpd),Qa1 G args=some l→∀v,Qdm mx (l.map ev)=some v→∃x,(if mx then Builtin.max_ ts ty (args.map ρ) else Builtin.min_ ts ty (args.map ρ)).run P w=.ok x w∧VR g v x:=by
  intro mx l hl v hv;have hvs:=Qa0 hev _ _ hl;rw[hargs];generalize args.toList.map ρ=us at hvs;generalize l.map ev=vs at hvs hv;cases vs with
  |nil=>simp[Qdm]at hv
  |cons a vs =>
   cases us with
   |nil=>have:=hvs.len;simp at this
   |cons u us =>
    simp only[Qdm]at hv;obtain⟨x,hx,hxr⟩:=Qgs (P:=P) (w:=w) mx vs us a v u hvs.head hvs.tail hv;refine⟨x,?_,hxr⟩;cases mx<;>simpa[Builtin.max_,Builtin.min_] using hx
 unfold Qej at hc;split at hc
 case h_1 =>
  rename_i t x e1 e2;rw[hts,hargs,e1,e2];have lenCase:∀k ax,Qaa G x=some ax→((k=0∧P.underlying t=some .string)∨(k=1∧∃e,P.underlying t=some (.slice e))∨(k=2∧∃a e,P.underlying t=some (.map a e)))→exec h ev (.len k ax)=some (r,h') →
    Done CR B w0 g r h' ((builtin .len [t].toArray ty cs (List.map ρ [x]).toArray).run P w):=by
   intro k ax hx ht he;simp only[exec,Option.map_eq_some_iff,Prod.mk.injEq]at he;obtain⟨n,hn,rfl,rfl⟩:=he;have:=QeS (P:=P) (ty:=ty) H hn (hev _ _ hx) ht;exact Done.v H this (.int _ _)
  have arrCase:∀n:Nat,(Builtin.len_ #[t] ty #[ρ x]).run P w=.ok (goInt n) w→exec h ev (.lenArr n)=some (r,h') →
    Done CR B w0 g r h' ((builtin .len [t].toArray ty cs (List.map ρ [x]).toArray).run P w):=by
   intro n hrun he;simp only[exec,oI,Prod.mk.injEq]at he;obtain⟨rfl,rfl⟩:=he;exact Done.v H hrun (.int _ _)
  split at hc
  ·rename_i ht hx;cases hc;exact lenCase 0 _ hx (.inl ⟨rfl,ht⟩) he
  ·rename_i ht hx;cases hc;exact lenCase 1 _ hx (.inr (.inl ⟨rfl,_,ht⟩)) he
  ·rename_i ht hx;cases hc;exact lenCase 2 _ hx (.inr (.inr ⟨rfl,_,_,ht⟩)) he
  ·rename_i ht hx;cases hc;exact arrCase _ (by simp[Builtin.len_,run_underlying ht]) he
  ·rename_i a _ ht hx;split at hc
   ·rename_i hta;cases hc;exact arrCase _ (by simp[Builtin.len_,run_underlying ht,run_underlying hta]) he
   ·cases hc
  ·cases hc
 case h_2 =>
  rename_i t u s x e1 e2;rw[hts,hargs,e1,e2];split at hc
  ·cases hc
  ·rename_i e d sx xx hne ht hu hs hx;split at hc
   ·rename_i i zl hi hz;cases hc;obtain⟨i',z,hi',hz',hzl,hzr⟩:=Qba hz;rw[hi]at hi';cases hi';simp only[exec]at he;split at he
    ·rename_i n hn;split at he
     ·rename_i xs hxs;exact Done.gives (Qj4 (ty:=ty) H ht (fun k hk=>hne k (by rw[hu]at hk;exact Option.some.inj hk)) (by rw[hu];rfl) hi hz' hzl (hzr g) hn hxs he (hev _ _ hs) (hev _ _ hx))
     ·cases he
    ·cases he
   ·cases hc
  ·cases hc
 case h_3 =>
  rename_i t u d s e1 e2;rw[hts,hargs,e1,e2];split at hc
  ·rename_i e dx sx ht hd hs;obtain⟨n,hn,rfl⟩:=oM hc;simp only[exec]at he;split at he
   ·rename_i k m hk hm;split at he
    ·rename_i xs hxs;obtain⟨w',h1,h2,h3⟩:=QmS (P:=P) (ty:=ty) (u:=u) H ht hn hk hm hxs he (hev _ _ hd) (hev _ _ hs);exact Done.tup h1 h2 h3
    ·cases he
   ·cases he
  ·cases hc
 case h_4 =>
  obtain⟨l,hl,rfl⟩:=oM hc;simp only[exec,Option.map_eq_some_iff,Prod.mk.injEq]at he;obtain⟨v,hv,rfl,rfl⟩:=he;have hvs:=Qa0 hev _ _ hl;obtain⟨x,hx,hxr⟩:=mm true l hl v hv;exact Done.v H hx hxr
 case h_5 =>
  obtain⟨l,hl,rfl⟩:=oM hc;simp only[exec,Option.map_eq_some_iff,Prod.mk.injEq]at he;obtain⟨v,hv,rfl,rfl⟩:=he;obtain⟨x,hx,hxr⟩:=mm false l hl v hv;exact Done.v H hx hxr
 case h_6 =>
  rename_i t u m k e1 e2;rw[hts,hargs,e1,e2];split at hc
  ·rename_i kt e mx kx ht hm hk;obtain⟨kk,hkk,rfl⟩:=oM hc;simp only[exec]at he;split at he
   ·rename_i hkey;have hm':=hev _ _ hm;have hk':=hev _ _ hk;have T:MapT P t kt e kk:=⟨ht,hkk⟩
    have fin:∀{h1:AH},(match (generalizing:=false) ev mx with
      | .nilmap=>some h
      | .map b=>match (generalizing:=false) h.get b with
       |some (.map es clock)=>match (generalizing:=false) findA (ev kx) es 0 with
        |some (some (i,_))=>some (h.put b (.map (es.eraseIdx i) clock))
        |some none=>some h
        |none=>none
       |_=>none
      |_=>none)=some h1→some (AV.tuple [],h1)=some (r,h')→Done CR B w0 g r h' ((builtin .delete [t,u].toArray ty cs (List.map ρ [m,k]).toArray).run P w):=by
     intro h1 hh heq;cases heq;obtain⟨w',hw',H'⟩:=Qj3 (P:=P) (ty:=ty) (u2:=u) H T hkey hm' hk' hh;exact Done.tup hw' H' (VRs.nil g).tuple
    split at he
    ·rename_i e0;exact fin (by simp only[e0]) he
    ·rename_i b e0;split at he
     ·rename_i es clock e3;split at he
      ·rename_i i v e4;exact fin (by simp only[e0,e3,e4]) he
      ·rename_i e4;exact fin (by simp only[e0,e3,e4]) he
      ·cases he
     ·cases he
    ·cases he
   ·cases he
  ·cases hc
 case h_7 =>
  rename_i t m e1 e2;rw[hts,hargs,e1,e2];split at hc
  ·rename_i mx ht hm;cases hc;simp only[exec]at he;have hm':=hev _ _ hm;have fin:∀{h1:AH},(match (generalizing:=false) ev mx with|.nilmap=>some h|.map b=>(match (generalizing:=false) h.get b with|some (.map _ clock)=>some (h.put b (.map [] clock))|_=>none)|_=>none)=some h1 →
     some (AV.tuple [],h1)=some (r,h')→Done CR B w0 g r h' ((builtin .clear [t].toArray ty cs (List.map ρ [m]).toArray).run P w):=by
    intro h1 hh heq;cases heq;obtain⟨w',hw',H'⟩:=QhC (P:=P) (ty:=ty) H ht hm' hh;exact Done.tup hw' H' (VRs.nil g).tuple
   split at he
   ·rename_i e0;exact fin (by simp only[e0]) he
   ·rename_i b e0;split at he
    ·rename_i es clock e3;exact fin (by simp only[e0,e3]) he
    ·cases he
   ·cases he
  ·rename_i e mx ht hm;obtain⟨z,hz,rfl⟩:=oM hc;obtain⟨i,zv,hi,hzv,_,hzr⟩:=Qba hz;simp only[exec]at he;obtain⟨w',hw',H',rfl⟩:=QiX (P:=P) (ty:=ty) H ht hi hzv (hzr g) (hev _ _ hm) he;exact Done.tup hw' H' (VRs.nil g).tuple
  ·cases hc
 case h_8 =>
  rename_i t1 s1 e1 e2;rw[hts,hargs,e1,e2];obtain⟨as,hs,rfl⟩:=oM hc;simp only[exec]at he;obtain⟨v,hrun,hv,rfl⟩:=QgR (P:=P) (w:=w) (ts:=#[t1]) (ty:=ty) (hev _ _ hs) he;exact Done.v H hrun hv
 case h_9 =>
  rename_i t x e1 e2;rw[hts,hargs,e1,e2];split at hc
  ·rename_i e ax ht hx;cases hc;simp only[exec]at he;have hv:=hev _ _ hx;generalize ev ax=a at he hv;generalize hρ:ρ x=u at hv;have key:∀n:Nat,(Builtin.cap_ #[t] ty #[u]).run P w=.ok (goInt n) w→some (AV.int .i64 (n:Nat),h)=some (r,h')→Done CR B w0 g r h' ((builtin .cap [t].toArray ty cs (List.map ρ [x]).toArray).run P w):=by
    intro n hrun heq;cases heq;rw[List.map_cons,List.map_nil,hρ];exact Done.v H hrun (.int _ _)
   cases hv with
   |nilslice=>exact key 0 (by simp[Builtin.cap_,run_underlying ht]) he
   |empty q=>exact key 0 (by simp[Builtin.cap_,run_underlying ht]) he
   |sliceC b o n c β base hr hn=>exact key c (by simp[Builtin.cap_,run_underlying ht]) he
   |_=>simp at he
  ·cases hc
 case h_10 =>
  rename_i pt it p n e1 e2;rw[hts,hargs,e1,e2];split at hc
  ·rename_i e ap an hpt hp hn;split at hc
   ·rename_i hc1;cases hc;simp only[exec]at he;exact Done.gives (QgQ (P:=P) (it:=it) (ty:=ty) H hpt (by
     have h1:sizeT P e=some 1:=by simpa using hc1
     unfold sizeT at h1;unfold Program.cellsOf;rw[h1];rfl) (hev _ _ hp) (hev _ _ hn) he)
   ·cases hc
  ·cases hc
 case h_11=>cases hc
theorem Qes{α β:Type}(f:α→Sem β)(k:α→β):∀l:List α,(∀x∈l,(f x).run P w=.ok (k x) w)→(l.mapM f).run P w=.ok (l.map k) w
 | [],_=>by simp
 |x::l,h=>by
  rw[List.mapM_cons];simp[h x (by simp),Qes f k l (fun y hy=>h y (by simp[hy]))]
end
end Go.Ab
