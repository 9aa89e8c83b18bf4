/- A part of a proof. -/
import Derived.Laws.BytesArg
import Derived.Laws.BytesString
import Derived.Orders
import Derived.Defers
import Derived.Test.YthiiaehlmfbeoaaGreatDoorAbR
import Derived.Test.YthiiaehlmfbeoaaGreatDoorAbBtoAbS
set_option linter.all false
noncomputable section
namespace Go.Ab
open Go Go.RowKit
section
variable{P:Program}{G:Nat→Option (List AV)}
theorem QhU{g:Gam}:∀{l:List AV}{v:Nat}{us:List Value},numOf l=some v→VRs g l us→∃cs:List Nat,us=cs.map (fun c=>Value.int .u8 (Int.ofNat c))∧v<256^cs.length∧Qap cs.length v=cs.map UInt8.ofNat
 | [],v,us,h,hl=>by
  cases h;have:us=[]:=by have:=hl.len;exact List.length_eq_zero_iff.1 this.symm
  exact⟨[],by rw[this];rfl,by simp,rfl⟩
 |a::l,v,us,h,hl=>by
  match us,hl with
  | [],hl=>have:=hl.len;simp at this
  |u::us,hl =>
   unfold numOf at h;split at h
   ·rename_i h0;cases h0
   ·rename_i c l' heq;cases heq;split at h
    ·rename_i hc;obtain⟨b,hb,rfl⟩:=oM h;obtain⟨cs,rfl,h1,h2⟩:=QhU hb hl.tail;have hu:=hl.head.int_eq;subst hu;refine⟨c::cs,rfl,?_,?_⟩
     ·simp only[List.length_cons,Nat.pow_succ];omega
     ·simp only[List.length_cons,Qap,List.map_cons];have e1:(c+256*b) / 256=b:=by omega
      rw[e1,h2]
      congr 1
      exact Qb9 (by omega)
    ·cases h
   ·cases h
theorem HR.rowOf{CR:AC→Code→Prop}{B:Nat}{w0:Anchor}{g:Gam}{h:AH}{w:World}(H:HR CR B w0 g h w){b β base:Nat}{l:List AV}(hr:g.rho b=some (β,base))(hc:h.cellsAt b=some l) :
  ∃c e,w.heap[β]? = some (.cells c e (0,0))∧base+l.length≤c.size:=by
 unfold AH.cellsAt at hc;cases ho:h.get b with
 |none=>simp[ho]at hc
 |some o =>
  have hobj:=H.obj b β base o hr ho;rw[ho]at hc;cases hobj with
  |cells l' sp pre anc hp he hes h =>
   simp at hc;subst hc;obtain⟨c,e,h1,h2,h3,_⟩:=h;exact⟨c,e,h1,by omega⟩
  |old l' h =>
   simp at hc;subst hc;obtain⟨c,e,h1,h2,h3,_⟩:=h;exact⟨c,e,h1,by omega⟩
  |map=>simp at hc
  |iter=>simp at hc
  |loop=>simp at hc
  |deferred=>simp at hc
theorem Qjl{w:World}{s d t:TypeId}(hs:P.underlying s=some (.pointer t))(hd:P.underlying d=some .unsafePointer){k:Nat}(hk:sizeT P t=some (k+1)){β off:Nat}{c:Array Value}{e:TypeId}{fr:Nat×Nat}
  (hw:w.heap[β]? = some (.cells c e fr))(ho:off<c.size):(Go.convert s d (.pointer (some ⟨β,off,none⟩))).run P w=.ok (.pointer (some ⟨β,off,none⟩)) w:=by
 have hsh:w.shape? β=some (e,c.size):=by simp[World.shape?,hw]
 have hge:¬c.size≤off:=by omega
 simp[Go.convert,run_underlying hs,run_underlying hd,Conv.unsafePointer,Conv.seenAt,viewAt,cellsIn,hsh,run_sizeOf hk,hge]
theorem QmA{fits:TypeId→Bool}:∀(d:Nat){e:TypeId}{c c' off n:Nat},c≤c'→rowAt P fits d e c off n=true→rowAt P fits d e c' off n=true
 |0,_,_,_,_,_,_,h=>by simp[rowAt]at h
 |d+1,e,c,c',off,n,hc,h=>by
  unfold rowAt at h ⊢;simp only at h ⊢;split at h
  ·cases h
  ·rename_i hs;rw[if_neg hs];simp only[Bool.or_eq_true,Bool.and_eq_true,decide_eq_true_eq]at h ⊢;rcases h with⟨⟨h1,h2⟩,h3⟩|⟨h1,h2⟩
   ·exact .inl ⟨⟨h1,by omega⟩,h3⟩
   ·exact .inr ⟨by omega,h2⟩
theorem QgB:∀(d:Nat){e:TypeId}{c c' off:Nat}{u:TypeId}{n:Nat},c≤c'→liesAt P d e c off u n=true→liesAt P d e c' off u n=true
 |0,_,_,_,_,_,_,_,h=>by simp[liesAt]at h
 |d+1,e,c,c',off,u,n,hc,h=>by
  unfold liesAt at h ⊢;simp only[Bool.or_eq_true]at h ⊢;rcases h with h|h
  ·exact .inl (QmA _ hc h)
  ·right
   split at h
   ·rename_i m u' hu;exact QgB d hc h
   ·cases h
theorem Qjn{w:World}{s d u:TypeId}(hs:P.underlying s=some .unsafePointer)(hd:P.underlying d=some (.pointer u)){k:Nat}(hk:sizeT P u=some (k+1)){β off n:Nat}{c:Array Value}{e:TypeId}{fr:Nat×Nat}
  (hw:w.heap[β]? = some (.cells c e fr))(hn:n≤c.size)(hok:liesT P u e n off=true):(Go.convert s d (.pointer (some ⟨β,off,none⟩))).run P w=.ok (.pointer (some ⟨β,off,none⟩)) w:=by
 have hsh:w.shape? β=some (e,c.size):=by simp[World.shape?,hw]
 unfold liesT at hok;simp only[Bool.and_eq_true]at hok;obtain⟨⟨h1,h2⟩,h3⟩:=hok;have h1':1≤P.cellsOf e:=Nat.le_of_ble_eq_true h1;have h2':P.cellsOf e≤n:=Nat.le_of_ble_eq_true h2;have hl:=QgB (P:=P) P.depth (c':=c.size / P.cellsOf e) ((Nat.le_div_iff_mul_le (by omega)).2 (by omega)) h3;simp[Go.convert,run_underlying hs,run_underlying hd,Conv.unsafePointer,Conv.seenAt,viewAt,hsh,run_sizeOf hk,variablesAt,hl]
theorem Qil(s d:TypeId)(x:Operand):Sound P G (.convert s d x):=by
 intro CR B w0 g h h' w ρ ev aop r o H hev hcon hc he ho;obtain⟨dst,op,type,pos,after,guard⟩:=o;simp only at ho;subst ho;simp only[QaD]at hc;split at hc
 ·rename_i k ax hs hd hx;cases hc;simp only[exec]at he;have hv:=hev _ _ hx;generalize ev ax=a at he hv;split at he
  ·cases he;have hv':=hv.int_eq;refine Done.v (s:=Go.convert s d (ρ x)) H ?_ (.int _ _);simp[Go.convert,run_underlying hs,run_underlying hd,hv',Conv.intToInt]
  ·cases he
 ·rename_i ax hs hd hx;cases hc;simp only[exec]at he;have hv:=hev _ _ hx;generalize ev ax=a at he hv;split at he
  ·rename_i n hn;split at he
   ·rename_i hlt;cases he;obtain⟨k,hu⟩:=QaS hn hv;have henc:Utf8.encode (n:Int)=bsOf 1 n:=by
     have hval:Utf8.valid (n:Int)=true:=by
      simp only[Utf8.valid,Bool.or_eq_true,Bool.and_eq_true,decide_eq_true_eq]
      left;omega
     unfold Utf8.encode;simp only[hval,if_true,Int.toNat_natCast];rw[if_pos (by omega)];rfl
    refine Done.v (s:=Go.convert s d (ρ x)) H ?_ (.str 1 n (by omega));simp[Go.convert,run_underlying hs,run_underlying hd,hu,Conv.intToString,henc]
   ·cases he
  ·cases he
 ·rename_i ax hs hd hx;cases hc;simp only[exec]at he;have hv:=hev _ _ hx;generalize ev ax=a at he hv;split at he
  ·cases he;have hv':=hv.str_eq;refine Done.v (s:=Go.convert s d (ρ x)) H ?_ (.str _ _ hv'.2);simp[Go.convert,run_underlying hs,run_underlying hd,hv'.1]
  ·cases he
 ·rename_i e ax hs hd hx;split at hc
  ·rename_i he8;cases hc;simp only[exec]at he;have hv:=hev _ _ hx;generalize ev ax=a at he hv;have key:∀(p:Option Addr) (n c v:Nat) (us:List Value) (l:List AV),ρ x=.slice p n c→VRs g l us→us.length=n→numOf l=some v→(p=none→n=0)→(∀q,p=some q→(loadCells q n).run P w=.ok us.toArray w) →
     Done CR B w0 g (.str n v) h ((execOp ρ ⟨dst,.convert s d x,type,pos,after,guard⟩).run P w):=by
    intro p n c v us l hp hl hn hnum hp0 hload;obtain⟨cs,rfl,hlt,hbs⟩:=QhU hnum hl;have hlen:cs.length=n:=by simpa using hn
    rw[hlen]at hlt hbs;refine Done.v (s:=Go.convert s d (ρ x)) H ?_ (.str n v hlt);rw[hp,run_convert_bytes_string w s d e p n c hs he8 hd];cases p with
    |none =>
     have h0:=hp0 rfl;subst h0;simp only[Conv.bytesToString,Sem.run_pure];refine congrArg (fun s=>Result.ok (Value.string s) w) (QcP ?_);rw[Qa4];rfl
    |some q =>
     rw[run_bytesToString w q n c (cs.map Int.ofNat) (by rw[hload q rfl];congr 2;simp),foldl_push_bytes];refine congrArg (fun s=>Result.ok (Value.string s) w) (QcP ?_);rw[Qa4,hbs];simp only[ByteArray.empty,ByteArray.emptyWithCapacity,Array.toList_append,List.map_map];show []++_=_;rw[List.nil_append];exact List.map_congr_left fun c _=>rfl
   split at he
   ·cases he;generalize hρ:ρ x=u at hv;cases hv;exact key none 0 0 0 [] [] hρ (VRs.nil g) rfl rfl (fun _=>rfl) (fun q hq=>by cases hq)
   ·cases he;generalize hρ:ρ x=u at hv;cases hv;exact key _ 0 0 0 [] [] hρ (VRs.nil g) rfl rfl (fun _=>rfl) (fun q hq=>by simp[loadCells,loadCellsFrom])
   ·rename_i b o n c;split at he
    ·rename_i l hl;split at he
     ·rename_i v hv2;cases he;generalize hρ:ρ x=u at hv;cases hv with
      |sliceC _ _ _ _ β base hr hn =>
       obtain⟨vs,h1,h2,h3⟩:=H.read hr hl;exact key _ n c v vs l hρ h1 h2 hv2 (fun hq=>by cases hq) (fun q hq=>by
        cases hq;rw[←h2];exact run_loadCells_list (P:=P) w _ vs (fun j v hj=>by rw[addr_add];exact h3 j v hj))
     ·cases he
    ·cases he
   ·rename_i b o n es;split at he
    ·rename_i l hl;split at he
     ·rename_i v hv2;cases he;generalize hρ:ρ x=u at hv;cases hv with
      |sliceN _ _ _ _ c β base a hr hn ha ht =>
       obtain⟨vs,h1,h2,h3⟩:=H.read hr hl;exact key _ n c v vs l hρ h1 h2 hv2 (fun hq=>by cases hq) (fun q hq=>by
        cases hq;rw[←h2];refine run_loadCells_list (P:=P) w _ vs (fun j v hj=>?_);have hj':j<vs.length:=by
         rcases Nat.lt_or_ge j vs.length with hlt|hge
         ·exact hlt
         ·rw[List.getElem?_eq_none hge]at hj;cases hj
        rw[ha.resolve_left (by omega),addr_add];exact h3 j v hj)
     ·cases he
    ·cases he
   ·cases he
  ·cases hc
 ·rename_i t ax hs hd hx;split at hc
  ·rename_i k hk;cases hc;simp only[exec]at he;have hv:=hev _ _ hx;generalize ev ax=a at he hv;split at he
   ·cases he;generalize hρ:ρ x=u at hv;cases hv;refine Done.v (s:=Go.convert s d (ρ x)) H ?_ .nilptr;simp[Go.convert,run_underlying hs,run_underlying hd,hρ,Conv.unsafePointer]
   ·rename_i b o;split at he
    ·rename_i l hl;split at he
     ·rename_i hlt;cases he;generalize hρ:ρ x=u at hv;cases hv with
      |ptr _ _ β base hr =>
       obtain⟨c,e,hw,hsz⟩:=H.rowOf hr hl;refine Done.v (s:=Go.convert s d (ρ x)) H ?_ (.ptr b o β base hr);rw[hρ];exact Qjl hs hd hk hw (by omega)
     ·cases he
    ·cases he
   ·cases he
  ·cases hc
 ·rename_i t ax hs hd hx;split at hc
  ·rename_i k hk;cases hc;simp only[exec]at he;have hv:=hev _ _ hx;generalize ev ax=a at he hv;split at he
   ·cases he;generalize hρ:ρ x=u at hv;cases hv;refine Done.v (s:=Go.convert s d (ρ x)) H ?_ .nilptr;simp[Go.convert,run_underlying hs,run_underlying hd,hρ,Conv.unsafePointer]
   ·rename_i b o;split at he
    ·rename_i l e pre anc hget;split at he
     ·rename_i hok;cases he;generalize hρ:ρ x=u at hv;cases hv with
      |ptr _ _ β base hr =>
       have hobj:=H.obj b β base _ hr hget;cases hobj with
       |cells _ _ _ _ hp hsp hes hrow =>
        obtain⟨⟨c,hw⟩,hodd⟩:=hes e rfl;have hb0:=hodd hok.1;subst hb0;obtain⟨c',e',q1,q2,q3,_⟩:=hrow;rw[hw]at q1;cases q1;refine Done.v (s:=Go.convert s d (ρ x)) H ?_ (.ptr b o β 0 hr);rw[hρ,Nat.zero_add];exact Qjn hs hd hk hw (by omega) hok.2
     ·cases he
    ·cases he
   ·cases he
  ·cases hc
 ·cases hc
theorem Qd3(t:TypeId)(x:Operand):Sound P G (.makeInterface t x):=by
 intro CR B w0 g h h' w ρ ev aop r o H hev hcon hc he ho;obtain⟨dst,op,type,pos,after,guard⟩:=o;simp only at ho;subst ho;simp only[QaD]at hc;split at hc
 ·cases hc
 ·rename_i d ax hne ht hx;cases hc;cases he;refine Done.v (s:=Instr.makeInterface t (ρ x)) H ?_ (.iface _ _ _ (hev _ _ hx));simp only[Instr.makeInterface,Sem.run_bind,run_underlying ht,Result.andThen];cases d<;>first|rfl|exact(hne _ rfl).elim
 ·cases hc
theorem Qho(f:FuncId)(first captured:Array Operand):Sound P G (.makeFunc (.func f) first captured):=by
 intro CR B w0 g h h' w ρ ev aop r o H hev hcon hc he ho;obtain⟨dst,op,type,pos,after,guard⟩:=o;simp only at ho;subst ho;simp only[QaD]at hc;split at hc
 ·rename_i a b ha hb;cases hc;cases he;have h1:=Qa0 hev _ _ ha;have h2:=Qa0 hev _ _ hb;refine Done.v (s:=Instr.makeFunc (.func f) (first.map ρ) (captured.map ρ)) H rfl ?_;exact .func f _ _ _ _ (by have:=h1.len;simpa using this) (by have:=h2.len;simpa using this)
   (fun i q1 q2=>by have:=h1.val i q1 (by simpa using q2);simpa using this) (fun i q1 q2=>by have:=h2.val i q1 (by simpa using q2);simpa using this)
 ·cases hc
theorem Qeq(t:TypeId):Sound P G (.makeMap t none):=by
 intro CR B w0 g h h' w ρ ev aop r o H hev hcon hc he ho;obtain⟨dst,op,type,pos,after,guard⟩:=o;simp only at ho;subst ho;simp only[QaD]at hc;cases hc;cases he;exact Done.gives (s:=Instr.makeMap t none) (QeD H)
theorem Qd2(t:TypeId)(k:IntKind)(n:Int):Sound P G (.makeMap t (some (.const (.int k n)))):=by
 intro CR B w0 g h h' w ρ ev aop r o H hev hcon hc he ho;obtain⟨dst,op,type,pos,after,guard⟩:=o;simp only at ho;subst ho;simp only[QaD]at hc;split at hc
 ·rename_i a b ht;cases hc;cases he;have hv:=hev (.const (.int k n)) (.const (.int k n)) rfl;rw[hcon]at hv;have hv':=hv.int_eq;have hrun:(Instr.makeMap t (some (ρ (.const (.int k n))))).run P w=.ok (.map (some w.heap.size)) (w.alloc (.map #[] 0)):=by
   simp only[Instr.makeMap,Sem.run_bind,run_underlying ht,Result.andThen,hv',asInt,asIntOf];rfl
  have hg:=QeD H;rw[←hrun]at hg;exact Done.gives hg
 ·cases hc
theorem Qf2(t:TypeId)(l c:Operand):Sound P G (.makeSlice t l c):=by
 intro CR B w0 g h h' w ρ ev aop r o H hev hcon hc he ho;obtain⟨dst,op,type,pos,after,guard⟩:=o;simp only at ho;subst ho;simp only[QaD]at hc;split at hc
 ·rename_i e al ac ht hl hcc;split at hc
  ·rename_i i zl hi hz;cases hc;obtain⟨i',z,hi',hz',hzl,hzr⟩:=Qba hz;rw[hi]at hi';cases hi';have hvl:=hev _ _ hl;have hvc:=hev _ _ hcc;simp only[exec]at he;generalize ev al=a at he hvl;generalize ev ac=b at he hvc;split at he
   ·split at he
    ·rename_i hcond;obtain⟨q1,q2,q3,q4,q5⟩:=hcond;cases he;have e1:=hvl.int_eq;have e2:=hvc.int_eq;have:=QgT H ht hi hz' (hzr g) hzl q1 q2 q3 q4;rw[←e1,←e2]at this;exact Done.gives this
    ·cases he
   ·cases he
  ·cases hc
 ·cases hc
theorem Qkx(t:TypeId)(x:Operand)(lo hi mx:Option Operand):Sound P G (.slice t x lo hi mx):=by
 intro CR B w0 g h h' w ρ ev aop r o H hev hcon hc he ho;obtain⟨dst,op,type,pos,after,guard⟩:=o;simp only at ho;subst ho;simp only[QaD]at hc;split at hc
 ·rename_i n e ax alo ahi amx ht hx hlo hhi hmx;obtain⟨sz,hsz,rfl⟩:=oM hc;have hv:=hev _ _ hx;have vlo:=QaV hev hlo;have vhi:=QaV hev hhi;have vmx:=QaV hev hmx;simp only[exec]at he;split at he
  ·rename_i b o l k e1 e2 e3;rw[e1]at hv;split at he
   ·rename_i hcond;cases he;have hm:mx=none:=by
     cases mx with
     |none=>rfl
     |some m=>simp only[Option.map_none]at vmx;exact vmx.elim
    subst hm;obtain⟨v,hrun,hvr⟩:=Qhz (P:=P) (w:=w) ht hsz e2 e3 vlo vhi hcond.1 hcond.2 hv;exact Done.v H hrun hvr
   ·cases he
  ·cases he
 ·rename_i ax alo ahi ht hx hlo hhi hmx;cases hc;have hv:=hev _ _ hx;have vlo:=QaV hev hlo;have vhi:=QaV hev hhi;have hm:mx=none:=by
   cases mx with
   |none=>rfl
   |some m=>simp[Qc5]at hmx
  subst hm;simp only[exec]at he;split at he
  ·rename_i s b e1;rw[e1]at hv;split at he
   ·rename_i l k e2 e3;split at he
    ·rename_i hcond;cases he;have:=Qjm (P:=P) (w:=w) ht (s:=bsOf s b) e2 (by rw[QaO];exact e3) vlo vhi hcond.1 (by rw[QaO];exact hcond.2);rw[←hv.str_eq.1]at this;refine Done.v H this ?_;rw[Qkk hcond.2];exact .str _ _ (subN_lt _ _ _)
    ·cases he
   ·cases he
  ·cases he
 ·rename_i e ax alo ahi amx ht hx hlo hhi hmx;obtain⟨sz,hsz,rfl⟩:=oM hc;simp only[exec,Option.map_eq_some_iff,Prod.mk.injEq]at he;obtain⟨v,hv,rfl,rfl⟩:=he;obtain⟨u,hu,hvu⟩:=Qk7 (P:=P) (w:=w) ht hsz hv (QaV hev hlo) (QaV hev hhi) (QaV hev hmx) (hev _ _ hx);exact Done.v H hu hvu
 ·cases hc
theorem Qf4(t:TypeId)(x:Operand)(f:Nat):Sound P G (.fieldAddr t x f):=by
 intro CR B w0 g h h' w ρ ev aop r o H hev hcon hc he ho;obtain⟨dst,op,type,pos,after,guard⟩:=o;simp only at ho;subst ho;simp only[QaD]at hc;split at hc
 ·rename_i fs ax ht hx;split at hc
  ·rename_i fd hf;split at hc
   ·rename_i hsz;cases hc;obtain⟨n,hn,hn0⟩:∃n,sizeT P fd.type=some n∧n≠0:=by
     cases hq:sizeT P fd.type with
     |none=>simp[hq]at hsz
     |some n=>exact⟨n,rfl,by simpa[hq] using hsz⟩
    have fin:∀r1,(match (generalizing:=false) ev ax with|.ptr b o=>some (.ptr b (o+fd.offset))|.iptr cells=>if fd.offset≤cells.length then some (.iptr (cells.drop fd.offset)) else none|_=>(none:Option AV))=some r1 →
      some (r1,h)=some (r,h')→Done CR B w0 g r h' ((execOp ρ {dst:=dst,op:=.fieldAddr t x f,type:=type,pos:=pos,after:=after,guard:=guard}).run P w):=by
     intro r1 h1 h2;cases h2;obtain⟨v,hrun,hv⟩:=QgV (P:=P) (w:=w) ht hf hn hn0 (hev _ _ hx) h1;exact Done.v H hrun hv
    simp only[exec]at he;split at he
    ·rename_i e0;exact fin _ (by simp only[e0]) he
    ·rename_i e0;split at he
     ·rename_i hle;exact fin _ (by simp only[e0,if_pos hle]) he
     ·cases he
    ·cases he
   ·cases hc
  ·cases hc
 ·cases hc
theorem QkA(t:TypeId)(x:Operand)(f:Nat):Sound P G (.field t x f):=by
 intro CR B w0 g h h' w ρ ev aop r o H hev hcon hc he ho;obtain⟨dst,op,type,pos,after,guard⟩:=o;simp only at ho;subst ho;simp only[QaD]at hc;split at hc
 ·rename_i fs ax ht hx;split at hc
  ·rename_i fd hf;split at hc
   ·rename_i a s ha hs;cases hc;simp only[exec]at he;split at he
    ·rename_i l e0;simp only[Option.map_eq_some_iff,Prod.mk.injEq]at he;obtain⟨v,hv,rfl,rfl⟩:=he;have hx':=hev _ _ hx;rw[e0]at hx';obtain⟨u,hu,hvu⟩:=Qlb (P:=P) (w:=w) ht hf ha hs hv hx';exact Done.v H hu hvu
    ·cases he
   ·cases hc
  ·cases hc
 ·cases hc
theorem Qf3(t:TypeId)(x i:Operand):Sound P G (.indexAddr t x i):=by
 intro CR B w0 g h h' w ρ ev aop r o H hev hcon hc he ho;obtain⟨dst,op,type,pos,after,guard⟩:=o;simp only at ho;subst ho;simp only[QaD]at hc;split at hc
 ·rename_i e ax ai ht hx hi;obtain⟨sz,hsz,rfl⟩:=oM hc;simp only[exec,Option.map_eq_some_iff,Prod.mk.injEq]at he;obtain⟨v,hv,rfl,rfl⟩:=he;obtain⟨u,hu,hvu⟩:=QgU (P:=P) (w:=w) ht hsz hv (hev _ _ hx) (hev _ _ hi);exact Done.v H hu hvu
 ·rename_i n e ax ai ht hx hi;obtain⟨sz,hsz,rfl⟩:=oM hc;simp only[exec]at he;split at he
  ·rename_i k b o ek ex;split at he
   ·rename_i hlt;cases he;obtain⟨u,hu,hvu⟩:=QdV (P:=P) (w:=w) (r:=.ptr b (o+k*sz)) ht hsz ek (by simp only[ex,if_pos hlt]) (hev _ _ hx) (hev _ _ hi);exact Done.v H hu hvu
   ·cases he
  ·rename_i k cells ek ex;split at he
   ·rename_i hlt;cases he;obtain⟨u,hu,hvu⟩:=QdV (P:=P) (w:=w) (r:=.iptr (cells.drop (k*sz))) ht hsz ek (by simp only[ex,if_pos hlt]) (hev _ _ hx) (hev _ _ hi);exact Done.v H hu hvu
   ·cases he
  ·cases he
 ·cases hc
theorem Qkz(t:TypeId)(x i:Operand):Sound P G (.index t x i):=by
 intro CR B w0 g h h' w ρ ev aop r o H hev hcon hc he ho;obtain⟨dst,op,type,pos,after,guard⟩:=o;simp only at ho;subst ho;simp only[QaD]at hc;split at hc
 ·rename_i ax ai ht hx hi;cases hc;simp only[exec]at he;split at he
  ·rename_i i n b en ex;split at he
   ·rename_i hb;cases he;have hx':=hev _ _ hx;rw[ex]at hx';have:=QhB (P:=P) (w:=w) ht en (bsOf_get? (b:=b) hb) (hev _ _ hi);rw[←hx'.str_eq.1]at this;refine Done.v H this ?_;rw[QaB,Nat.mod_eq_of_lt (Qi6 _ _)];exact .int _ _
   ·cases he
  ·cases he
 ·rename_i n e ax ai ht hx hi;split at hc
  ·rename_i a s ha hs;cases hc;simp only[exec]at he;split at he
   ·rename_i k l ek ex;split at he
    ·rename_i hlt;simp only[Option.map_eq_some_iff,Prod.mk.injEq]at he;obtain⟨v,hv,rfl,rfl⟩:=he;have hx':=hev _ _ hx;rw[ex]at hx';obtain⟨u,hu,hvu⟩:=Qla (P:=P) (w:=w) ht ha hs ek hlt hv hx' (hev _ _ hi);exact Done.v H hu hvu
    ·cases he
   ·cases he
  ·cases hc
 ·cases hc
theorem Qjf(t:TypeId)(x i:Operand)(ok:Bool):Sound P G (.lookup t x i ok):=by
 intro CR B w0 g h h' w ρ ev aop r o H hev hcon hc he ho;obtain⟨dst,op,type,pos,after,guard⟩:=o;simp only at ho;subst ho;simp only[QaD]at hc;split at hc
 ·rename_i k e ax ai ht hx hi;split at hc
  ·rename_i kk z hkk hz;cases hc;obtain⟨inf,zv,hinf,hzv,hzr⟩:=Qcz hz;have T:MapT P t k e kk:=⟨ht,hkk⟩
   simp only[exec]at he;split at he
   ·rename_i hkey;have fin:∀r1,(match (generalizing:=false) ev ax with
      | .nilmap=>some (if ok then .tuple [z,.bool false] else z)
      | .map b=>match (generalizing:=false) h.get b with
       |some (.map es _)=>match (generalizing:=false) findA (ev ai) es 0 with
        |some (some (_,v))=>some (if ok then .tuple [v,.bool true] else v)
        |some none=>some (if ok then .tuple [z,.bool false] else z)
        |none=>none
       |_=>none
      |_=>(none:Option AV))=some r1→some (r1,h)=some (r,h')→Done CR B w0 g r h' ((execOp ρ {dst:=dst,op:=.lookup t x i ok,type:=type,pos:=pos,after:=after,guard:=guard}).run P w):=by
     intro r1 h1 h2;cases h2;obtain⟨v,hrun,hv⟩:=Qj2 (P:=P) H T hinf hzv (hzr g) hkey (hev _ _ hx) (hev _ _ hi) h1;exact Done.v H hrun hv
    split at he
    ·rename_i e0;exact fin _ (by simp only[e0]) he
    ·rename_i b e0;split at he
     ·rename_i es clock e1;split at he
      ·rename_i n v e2;exact fin _ (by simp only[e0,e1,e2]) he
      ·rename_i e2;exact fin _ (by simp only[e0,e1,e2]) he
      ·cases he
     ·cases he
    ·cases he
   ·cases he
  ·cases hc
 ·cases hc
theorem Qez{CR:AC→Code→Prop}{B:Nat}{w0:Anchor}{g:Gam}{h h':AH}{w:World}{ρ:Operand→Value}{ev:AOpd→AV}{r:AV}(H:HR CR B w0 g h w)(hev:∀x ax,Qaa G x=some ax→VR g (ev ax) (ρ x)){t kt e:TypeId}{kk:Nat}
  {m k x:Operand}{am ak ax:AOpd}(T:MapT P t kt e kk)(hm:Qaa G m=some am)(hk:Qaa G k=some ak)(hx:Qaa G x=some ax)(he:exec h ev (.mapUpdate kk am ak ax)=some (r,h')) :
  Done CR B w0 g r h' ((do Instr.mapUpdate t (ρ m) (ρ k) (ρ x);pure Next.skip:Sem Next).run P w):=by
 simp only[exec]at he;split at he
 ·rename_i hkey;have fin:∀h1,(match (generalizing:=false) ev am with
    | .map b=>match (generalizing:=false) h.get b with
     |some (.map es clock)=>match (generalizing:=false) findA (ev ak) es 0 with
      |some (some (i,_))=>some (h.put b (.map (es.modify i fun e=>(ev ak,ev ax,e.2.2)) clock))
      |some none=>some (h.put b (.map (es++[(ev ak,ev ax,clock)]) (clock+1)))
      |none=>none
     |_=>none
    |_=>none)=some h1→some (AV.undef,h1)=some (r,h')→Done CR B w0 g r h' ((do Instr.mapUpdate t (ρ m) (ρ k) (ρ x);pure Next.skip:Sem Next).run P w):=by
   intro h1 q1 q2;cases q2;obtain⟨w',hw',H'⟩:=QgS (P:=P) H T hkey (hev _ _ hm) (hev _ _ hk) (hev _ _ hx) q1;exact Done.u hw' H'
  split at he
  ·rename_i b e0;split at he
   ·rename_i es clock e1;split at he
    ·rename_i n v e2;exact fin _ (by simp only[e0,e1,e2]) he
    ·rename_i e2;exact fin _ (by simp only[e0,e1,e2]) he
    ·cases he
   ·cases he
  ·cases he
 ·cases he
theorem Qf1(t:TypeId)(m k x:Operand):Sound P G (.mapUpdate t m k x):=by
 intro CR B w0 g h h' w ρ ev aop r o H hev hcon hc he ho;obtain⟨dst,op,type,pos,after,guard⟩:=o;simp only at ho;subst ho;simp only[QaD]at hc;split at hc
 ·rename_i kt e am ak ax ht hm hk hx;obtain⟨kk,hkk,rfl⟩:=oM hc;exact Qez H hev ⟨ht,hkk⟩ hm hk hx he
 ·cases hc
theorem Qjg(t:TypeId)(m k x:Operand):Sound P G (.insert t m k x):=by
 intro CR B w0 g h h' w ρ ev aop r o H hev hcon hc he ho;obtain⟨dst,op,type,pos,after,guard⟩:=o;simp only at ho;subst ho;simp only[QaD]at hc;split at hc
 ·rename_i kt e am ak ax ht hm hk hx;obtain⟨kk,hkk,rfl⟩:=oM hc;exact Qez H hev ⟨ht,hkk⟩ hm hk hx he
 ·cases hc
theorem Qky(t:TypeId)(x:Operand):Sound P G (.range t x):=by
 intro CR B w0 g h h' w ρ ev aop r o H hev hcon hc he ho;obtain⟨dst,op,type,pos,after,guard⟩:=o;simp only at ho;subst ho;simp only[QaD]at hc;split at hc
 ·rename_i ax ht hx;cases hc;simp only[exec]at he;split at he
  ·rename_i n s e0;cases he;have hx':=hev _ _ hx;rw[e0]at hx';have:=QhA (P:=P) H ht n s;rw[←hx'.str_eq.1]at this;exact Done.gives this
  ·cases he
 ·cases hc
theorem Qmu(x:Operand):Sound P G (.next x true):=by
 intro CR B w0 g h h' w ρ ev aop r o H hev hcon hc he ho;obtain⟨dst,op,type,pos,after,guard⟩:=o;simp only at ho;subst ho;simp only[QaD]at hc;obtain⟨ax,hx,rfl⟩:=oM hc;simp only[exec]at he;split at he
 ·rename_i b e0;have hx':=hev _ _ hx;rw[e0]at hx';split at he
  ·rename_i n s pos' e1;obtain⟨q1,q2⟩:=QiV (P:=P) (ty:=type) H hx' e1;split at he
   ·rename_i hlt;split at he
    ·rename_i h128;cases he;obtain⟨w',hw',H'⟩:=q1 hlt h128;exact Done.tup hw' H' (VRs.cons (.bool true) (VRs.cons (.int _ _) (VRs.cons (.int _ _) (VRs.nil g)))).tuple
    ·cases he
   ·rename_i hge;cases he;exact Done.v H (q2 hge) (VRs.cons (.bool false) (VRs.nil g)).tuple
  ·cases he
 ·cases he
theorem QfE(x:Operand)(xt t:TypeId)(ok:Bool):Sound P G (.typeAssert x xt t ok):=by
 intro CR B w0 g h h' w ρ ev aop r o H hev hcon hc he ho;obtain⟨dst,op,type,pos,after,guard⟩:=o;simp only at ho;subst ho;simp only[QaD]at hc;split at hc
 ·cases hc
 ·rename_i d ax hne ht hx;obtain⟨z,hz,rfl⟩:=oM hc;obtain⟨inf,zv,hinf,hzv,hzr⟩:=Qcz hz;have fin:∀r1,(match (generalizing:=false) ev ax with|.iface u v=>if u=t then some (if ok then .tuple [v,.bool true] else v) else if ok then some (.tuple [z,.bool false]) else none|.nilIface=>if ok then some (.tuple [z,.bool false]) else none|_=>(none:Option AV))=some r1 →
    some (r1,h)=some (r,h')→Done CR B w0 g r h' ((execOp ρ {dst:=dst,op:=.typeAssert x xt t ok,type:=type,pos:=pos,after:=after,guard:=guard}).run P w):=by
   intro r1 h1 h2;cases h2;obtain⟨v,hrun,hv⟩:=QfG (P:=P) (w:=w) (xt:=xt) ht (fun m e=>hne m e) hinf hzv (hzr g) (hev _ _ hx) h1;exact Done.v H hrun hv
  simp only[exec]at he;split at he
  ·rename_i u v e0;split at he
   ·rename_i hu;exact fin _ (by simp only[e0,if_pos hu]) he
   ·rename_i hu;split at he
    ·rename_i hok;exact fin _ (by simp only[e0,if_neg hu,if_pos hok]) he
    ·cases he
  ·rename_i e0;split at he
   ·rename_i hok;exact fin _ (by simp only[e0,if_pos hok]) he
   ·cases he
  ·cases he
 ·cases hc
theorem Qik(x:Operand)(i:Nat):Sound P G (.extract x i):=by
 intro CR B w0 g h h' w ρ ev aop r o H hev hcon hc he ho;obtain⟨dst,op,type,pos,after,guard⟩:=o;simp only at ho;subst ho;simp only[QaD]at hc;obtain⟨ax,hx,rfl⟩:=oM hc;simp only[exec]at he;split at he
 ·rename_i l e0;simp only[Option.map_eq_some_iff,Prod.mk.injEq]at he;obtain⟨v,hv,rfl,rfl⟩:=he;have hx':=hev _ _ hx;rw[e0]at hx';obtain⟨u,hu,hvu⟩:=QiW (P:=P) (w:=w) hv hx';exact Done.v H hu hvu
 ·cases he
theorem Qim(b:Builtin)(args:Array Operand)(ts:Array TypeId):Sound P G (.call {callee:=.builtin b,args:=args,argTypes:=ts}):=by
 intro CR B w0 g h h' w ρ ev aop r o H hev hcon hc he ho;obtain⟨dst,op,type,pos,after,guard⟩:=o;simp only at ho;subst ho;simp only[QaD]at hc;exact Qi7 (ty:=type) H hev hc he
theorem QdK(op:Op):Sound P G op:=by
 cases op with
 |move x=>exact Qmv x
 |assign x=>exact Qjh x
 |pick c a b=>exact Qmt c a b
 |alloc t=>exact QkD t
 |box t x=>exact Qnn t x
 |build t parts=>exact QkB t parts
 |buildSlice t len parts=>exact QfF t len parts
 |insert t m k x=>exact Qjg t m k x
 |load t a=>exact Qmw t a
 |store t a x=>exact Qkw t a x
 |nilCheck x=>exact Qhn x
 |binOp bop t x y yt=>exact QkC bop t x y yt
 |unOp uop t x=>exact Qms uop t x
 |convert s d x=>exact Qil s d x
 |makeInterface t x=>exact Qd3 t x
 |makeFunc fn first captured =>
  cases fn with
  |func f=>exact Qho f first captured
  |_=>intro CR B w0 g h h' w ρ ev aop r o H hev hcon hc;cases hc
 |makeMap t res =>
  cases res with
  |none=>exact Qeq t
  |some x =>
   cases x with
   |const v =>
    cases v with
    |int k n=>exact Qd2 t k n
    |_=>intro CR B w0 g h h' w ρ ev aop r o H hev hcon hc;cases hc
   |_=>intro CR B w0 g h h' w ρ ev aop r o H hev hcon hc;cases hc
 |makeSlice t l c=>exact Qf2 t l c
 |slice t x lo hi mx=>exact Qkx t x lo hi mx
 |fieldAddr t x f=>exact Qf4 t x f
 |field t x f=>exact QkA t x f
 |indexAddr t x i=>exact Qf3 t x i
 |index t x i=>exact Qkz t x i
 |lookup t x i ok=>exact Qjf t x i ok
 |mapUpdate t m k x=>exact Qf1 t m k x
 |range t x=>exact Qky t x
 |next x b =>
  cases b with
  |true=>exact Qmu x
  |false=>intro CR B w0 g h h' w ρ ev aop r o H hev hcon hc;cases hc
 |typeAssert x xt t ok=>exact QfE x xt t ok
 |extract x i=>exact Qik x i
 |call c =>
  obtain⟨callee,args,ts⟩:=c;cases callee with
  |builtin b=>exact Qim b args ts
  |_=>intro CR B w0 g h h' w ρ ev aop r o H hev hcon hc;cases hc
 |_=>intro CR B w0 g h h' w ρ ev aop r o H hev hcon hc;cases hc
end
end Go.Ab
namespace Go.Ab
open Go Go.RowKit
section
variable{CR:AC→Code→Prop}{B:Nat}{w0:Anchor}{g g':Gam}{h h':AH}{w w':World}{P:Program}{G:Nat→Option (List AV)}
theorem HR.grow(H:HR CR B w0 g h w)(hb:Below w.heap.size w w'):HR CR B w0 g h w':=by
 refine⟨H.rhoNext,H.getNext,fun b x hx=>Nat.lt_of_lt_of_le (H.lt b x hx) hb.size,fun b β base o hr ho=>(H.obj b β base o hr ho).of_block (hb.block β (H.lt b _ hr)),H.sep,fun β o v hm=>?_,H.memsep,H.low,H.below.trans (hb.mono H.B_le),H.base,H.held⟩;have h1:=H.mem β o v hm;have h2:β<w.heap.size:=World.block_lt_of_cell? w ⟨β,o,none⟩ h1;rw[hb.cell (p:=⟨β,o,none⟩) h2];exact h1
theorem HR.weaken(H:HR CR B w0 g h w){q:Nat→Prop}(hq:∀x,q x→w0.held x):HR CR B ⟨w0.w,q⟩ g h w:=
 ⟨H.rhoNext,H.getNext,H.lt,H.obj,H.sep,H.mem,H.memsep,H.low,H.below,H.base,fun b hb=>H.held b (hq b hb)⟩
theorem HR.reserve(H:HR CR B w0 g h w)(o:AO):HR CR B ⟨w0.w,fun x=>w0.held x∨x=h.next⟩ g (h.alloc o) w:=by
 have hn:=H.rhoNext h.next (Nat.le_refl _)
 have hget:∀b x,g.rho b=some x→(h.alloc o).get b=h.get b:=fun b x hx=>AH.get_alloc_other fun e=>by rw[e,hn]at hx;cases hx
 refine⟨fun b hb=>H.rhoNext b (Nat.le_of_succ_le hb),fun b hb=>?_,H.lt,fun b β base o' hr ho=>H.obj b β base o' hr (by rw[←hget b _ hr];exact ho),
  fun b b' β base base' o1 o2 hr hr' h1 h2=>H.sep b b' β base base' o1 o2 hr hr' (by rw[←hget b _ hr];exact h1) (by rw[←hget b' _ hr'];exact h2),H.mem,
  fun b β base ob o' hr ho=>H.memsep b β base ob o' hr (by rw[←hget b _ hr];exact ho),fun b β base o' hr ho=>H.low b β base o' hr (by rw[←hget b _ hr];exact ho),H.below,H.base,fun b hb=>?_⟩
 ·have hb':h.next+1≤b:=hb
  rw[AH.get_alloc_other (by omega)];exact H.getNext b (by omega)
 ·rcases hb with hb|rfl
  ·exact⟨(H.held b hb).1,Nat.lt_succ_of_lt (H.held b hb).2⟩
  ·exact⟨hn,Nat.lt_succ_self _⟩
theorem HR.less(H:HR CR B w0 g h w){h':AH}(hs:h'.sub h)(hn:h'.next=h.next):HR CR B w0 g h' w:=
  ⟨fun b hb=>H.rhoNext b (by omega),fun b hb=>(by
    cases hg:h'.get b with
    |none=>rfl
    |some o=>have:=hs b o hg;rw[H.getNext b (by omega)]at this;cases this),
   H.lt,fun b β base o hr ho=>H.obj b β base o hr (hs _ _ ho),fun b b' β base base' o o' hr hr' ho ho'=>H.sep b b' β base base' o o' hr hr' (hs _ _ ho) (hs _ _ ho'),H.mem,
   fun b β base ob o hr ho=>H.memsep b β base ob o hr (hs _ _ ho),fun b β base o hr ho=>H.low b β base o hr (hs _ _ ho),H.below,H.base,fun b hb=>by rw[hn];exact H.held b hb⟩
theorem VR.both{g1 g2 g3:Gam}(hrho:∀x y z,g1.rho x=some y→g2.rho x=some z→g3.rho x=some y)(htop:∀x y z,g1.rho x=some y→g2.rho x=some z→g3.top x=g1.top x)(hmem:g3.mem=g1.mem){a:AV}{v:Value}(h:VR g1 a v) :
  ∀{v2},VR g2 a v2→VR g3 a v:=by
 induction h with
 |undef v=>intro v2 _;exact .undef v
 |bool b=>intro v2 _;exact .bool b
 |int k n=>intro v2 _;exact .int k n
 |str n b h=>intro v2 _;exact .str n b h
 |nilptr=>intro v2 _;exact .nilptr
 |ptr b o β base h=>intro v2 k;cases k with|ptr _ _ β2 base2 h2=>exact .ptr b o β base (hrho _ _ _ h h2)
 |iptr cells vs β o hl hv hm ih =>
  intro v2 k;cases k with
  |iptr _ vs2 β2 o2 hl2 hv2 hm2=>exact .iptr cells vs β o hl (fun i h1 h2=>ih i h1 h2 (hv2 i h1 (by omega))) fun i h2=>by rw[hmem];exact hm i h2
 |nilslice=>intro v2 _;exact .nilslice
 |empty a=>intro v2 _;exact .empty a
 |sliceC b o n c β base h hn=>intro v2 k;cases k with|sliceC _ _ _ _ β2 base2 h2 _=>exact .sliceC b o n c β base (hrho _ _ _ h h2) hn
 |sliceN b o n es c β base a h hn ha ht=>intro v2 k;cases k with|sliceN _ _ _ _ c2 β2 base2 a2 h2 _ _ _=>exact .sliceN b o n es c β base a (hrho _ _ _ h h2) hn ha (by rw[htop _ _ _ h h2];exact ht)
 |vec l vs β o c sz hl hn hz hz' hv hm ih =>
  intro v2 k;cases k with
  |vec _ vs2 β2 o2 c2 sz2 hl2 hn2 hz2 hz2' hv2 hm2 =>
   exact .vec l vs β o c sz hl hn hz hz' (fun i h1 h2 j h3 h4=>ih i h1 h2 j h3 h4 (hv2 i h1 (by omega) j h3 (by rw[hz2',←hz2 i h1];exact h3))) fun i h2 j h4=>by rw[hmem];exact hm i h2 j h4
 |nilmap=>intro v2 _;exact .nilmap
 |map b β h=>intro v2 k;cases k with|map _ β2 h2=>exact .map b β (hrho _ _ _ h h2)
 |func f first captured fs cs hf hc hfv hcv ih1 ih2 =>
  intro v2 k;cases k with
  |func _ _ _ fs2 cs2 hf2 hc2 hfv2 hcv2=>exact .func f first captured fs cs hf hc (fun i h1 h2=>ih1 i h1 h2 (hfv2 i h1 (by omega))) fun i h1 h2=>ih2 i h1 h2 (hcv2 i h1 (by omega))
 |yield l β h=>intro v2 k;cases k with|yield _ β2 h2=>exact .yield l β (hrho _ _ _ h h2)
 |nilFunc=>intro v2 _;exact .nilFunc
 |iface t v v' h ih=>intro v2 k;cases k with|iface _ _ v2' h2=>exact .iface t v v' (ih h2)
 |nilIface=>intro v2 _;exact .nilIface
 |agg l vs hl hv ih=>intro v2 k;cases k with|agg _ vs2 hl2 hv2=>exact .agg l vs hl fun i h1 h2=>ih i h1 h2 (hv2 i h1 (by omega))
 |tuple l vs hl hv ih=>intro v2 k;cases k with|tuple _ vs2 hl2 hv2=>exact .tuple l vs hl fun i h1 h2=>ih i h1 h2 (hv2 i h1 (by omega))
theorem HR.bare(H:HR CR B w0 g h w)(n:Nat)(hn:h.next≤n):HR CR w.heap.size ⟨w,fun x=>g.rho x=none∧x<n⟩ g ⟨fun _=>none,n⟩ w:=
  ⟨fun b hb=>H.rhoNext b (Nat.le_trans hn hb),fun _ _=>rfl,H.lt,fun b β base o _ ho=>(by cases ho),fun b b' β base base' o o' _ _ ho _ _=>(by cases ho),H.mem,
   fun b β base ob o _ ho=>(by cases ho),fun b β base o _ ho=>(by cases ho),Below.refl _ _,Nat.le_refl _,fun b hb=>hb⟩
theorem HR.bindOld(H:HR CR B w0 g h w){b β base es top:Nat}{o:AO}(hb:g.rho b=none)(hlt:b<h.next)(hget:h.get b=some o)(hβ:β<w.heap.size)(hB:B≤β)(hnew:∀x y,g.rho x=some y→y.1≠β)
  (hmem:∀o,g.mem β o=none)(ho:ObjR CR (g.bind b β base es top) w b β base o):HR CR B ⟨w0.w,fun x=>w0.held x∧x≠b⟩ (g.bind b β base es top) h w:=by
 have hle:g.le (g.bind b β base es top):=Gam.le_bind hb;have hrho:∀x y,(g.bind b β base es top).rho x=some y→(x=b∧y=(β,base))∨(x≠b∧g.rho x=some y):=by
  intro x y hx;by_cases hxb:x=b
  ·subst hxb;simp at hx;exact .inl ⟨rfl,hx.symm⟩
  ·simp[Gam.bind,hxb]at hx;exact .inr ⟨hxb,hx⟩
 refine⟨fun x hx=>?_,H.getNext,fun x y hx=>?_,fun x β' base' o' hx ho'=>?_,fun x x' β' b1 b2 o1 o2 hx hx' ho1 ho2 hne=>?_,H.mem,fun x β' base' ob o' hx ho'=>?_,fun x β' base' o' hx ho'=>?_,H.below,H.base,fun x hx=>?_⟩
 ·have:x≠b:=by omega
  simp[Gam.bind,this,H.rhoNext x hx]
 ·rcases hrho x y hx with⟨_,rfl⟩|⟨_,hx⟩
  ·exact hβ
  ·exact H.lt x y hx
 ·rcases hrho x _ hx with⟨rfl,e⟩|⟨_,hx⟩
  ·cases e;rw[hget]at ho';cases ho';exact ho
  ·exact(H.obj x β' base' o' hx ho').mono hle hx
 ·rcases hrho x _ hx with⟨e0,e⟩|⟨_,hx1⟩
  ·rcases hrho x' _ hx' with⟨e1,e'⟩|⟨_,hx1'⟩
   ·exact absurd (e0.trans e1.symm) hne
   ·cases e;exact absurd rfl (hnew _ _ hx1')
  ·rcases hrho x' _ hx' with⟨e1,e'⟩|⟨_,hx1'⟩
   ·cases e';exact absurd rfl (hnew _ _ hx1)
   ·exact H.sep x x' β' b1 b2 o1 o2 hx1 hx1' ho1 ho2 hne
 ·rcases hrho x _ hx with⟨rfl,e⟩|⟨_,hx⟩
  ·cases e;exact hmem o'
  ·exact H.memsep x β' base' ob o' hx ho'
 ·rcases hrho x _ hx with⟨rfl,e⟩|⟨_,hx⟩
  ·cases e;exact hB
  ·exact H.low x β' base' o' hx ho'
 ·obtain⟨h1,h2⟩:=H.held x hx.1;exact⟨by simp[Gam.bind,hx.2,h1],h2⟩
theorem HR.mem_lt(H:HR CR B w0 g h w){β o:Nat}{v:Value}(hm:g.mem β o=some v):β<w.heap.size:=
 World.block_lt_of_cell? w ⟨β,o,none⟩ (H.mem β o v hm)
theorem HR.realize(H:HR CR B w0 g h w){b:Nat}(hb:g.rho b=none)(hlt:b<h.next){mk:Nat→AV}{ob:AO}(hmk:MkOk mk)(hpl:ob.plain)(hget:h.get b=some ob)
  {ρ:Operand→Value}{ev:AOpd→AV}{a:AOp}{op:Op}{o:Oper}(hex:∀h':AH,exec h' ev a=some (mk h'.next,h'.alloc ob))(hs:Sound P G op)
  (hev:∀x ax,Qaa G x=some ax→VR g (ev ax) (ρ x))(hcon:∀v,ev (.const v)=v)(hc:QaD P G op=some a)(ho:o.op=op) :
  ∃g' w' u,((execOp ρ o).run P w=.ok (.value u) w'∨((execOp ρ o).run P w=.ok .skip w'∧u=undef)) ∧
   HR CR B ⟨w0.w,fun x=>w0.held x∧x≠b⟩ g' h w'∧g.le g'∧VR g' (mk b) u∧∀x,x≠b→g'.rho x=g.rho x:=by
 obtain⟨g1,w1,u1,hrun1,H1,hle1,hv1⟩:=hs CR _ _ g _ _ w ρ ev a _ o (H.bare h.next (Nat.le_refl _)) hev hcon hc (hex _) ho;obtain⟨g2,w2,u2,hrun2,H2,hle2,hv2⟩:=hs CR _ _ g _ _ w ρ ev a _ o (H.bare (h.next+1) (Nat.le_succ _)) hev hcon hc (hex _) ho;have hw:w2=w1∧u2=u1:=by
  rcases hrun1 with h1|⟨h1,e1⟩<;>rcases hrun2 with h2|⟨h2,e2⟩
  ·rw[h1]at h2;cases h2;exact⟨rfl,rfl⟩
  ·rw[h1]at h2;cases h2
  ·rw[h1]at h2;cases h2
  ·rw[h1]at h2;cases h2;exact⟨rfl,by rw[e1,e2]⟩
 obtain⟨rfl,rfl⟩:=hw;obtain⟨⟨β,base⟩,hr1⟩:=hmk.2.2 g1 h.next u2 hv1
 obtain⟨⟨β2,base2⟩,hr2⟩:=hmk.2.2 g2 (h.next+1) u2 hv2;have ho1:=H1.obj h.next β base ob hr1 (by simp[AH.alloc])
 have ho2:=H2.obj (h.next+1) β2 base2 ob hr2 (by simp[AH.alloc]);have hlow:=H1.low h.next β base ob hr1 (by simp[AH.alloc])
 have hβ:=H1.lt h.next _ hr1
 have hN:g2.rho h.next=none:=(H2.held h.next ⟨H.rhoNext _ (Nat.le_refl _),Nat.lt_succ_self _⟩).1
 have hagree:∀x y z,g1.rho x=some y→g2.rho x=some z→x≠b∧g.rho x=some y:=by
  intro x y z hx1 hx2;have hxN:x≠h.next:=fun e=>by rw[e,hN]at hx2;cases hx2
  have hxlt:x<h.next:=by
   rcases Nat.lt_or_ge x h.next with hl|hg
   ·exact hl
   ·have hge:h.next+1≤x:=by omega
    have:=H1.rhoNext x hge;rw[this]at hx1;cases hx1
  cases hg:g.rho x with
  |none =>
   have:=(H1.held x ⟨hg,hxlt⟩).1;rw[this]at hx1;cases hx1
  |some y' =>
   have:=hle1.rho x y' hg;rw[this]at hx1;cases hx1;exact⟨fun e=>(by rw[e,hb]at hg;cases hg),rfl⟩
 have hkey:∀{a:AV} {v v2:Value},VR g1 a v→VR g2 a v2→VR (g.bind b β base (g1.es h.next) (g1.top h.next)) a v:=by
  intro a v v2 h1 h2;refine VR.both (fun x y z hx1 hx2=>?_) (fun x y z hx1 hx2=>?_) ?_ h1 h2
  ·obtain⟨q1,q2⟩:=hagree x y z hx1 hx2;simp[Gam.bind,q1,q2]
  ·obtain⟨q1,q2⟩:=hagree x y z hx1 hx2;simp only[Gam.bind,q1,if_false];exact(hle1.top x _ q2).symm
  ·show g.mem=g1.mem;exact hle1.mem.symm
 have hgrow:=H.grow H1.below;have hobj:ObjR CR (g.bind b β base (g1.es h.next) (g1.top h.next)) w2 b β base ob:=by
  match ob,hpl,ho1,ho2 with
  | .cells l sp 0 [],_,ho1,ho2 =>
   cases ho1 with
   |cells _ _ _ _ hp he hes hrow =>
    cases ho2 with
    |cells _ _ _ _ hp2 he2 hes2 hrow2 =>
     refine .cells l sp 0 [] (Nat.zero_le _) (fun e=>by rw[Gam.bind_top_same];exact he e) hes ?_;rw[Gam.bind_top_same];obtain⟨c,e,q1,q2,q3,q4⟩:=hrow;obtain⟨c2,e2,p1,p2,p3,p4⟩:=hrow2;exact⟨c,e,q1,q2,q3,fun i hi=>by
      obtain⟨v,r1,r2⟩:=q4 i hi;obtain⟨v2,s1,s2⟩:=p4 i hi;exact⟨v,r1,hkey r2 s2⟩⟩
  | .map [] c,_,ho1,ho2 =>
   cases ho1 with
   |map _ _ entries hw hb hl hh=>exact .map [] c entries hw hb hl fun i h1=>absurd h1 (by simp)
 refine⟨g.bind b β base (g1.es h.next) (g1.top h.next),w2,u2,hrun1,hgrow.bindOld hb hlt hget hβ (Nat.le_trans H.B_le hlow) (fun x y hx e=>?_) (fun o'=>?_) hobj,Gam.le_bind hb,hmk.2.1 g1 _ h.next b u2 hv1 (fun y hy=>by rw[hr1]at hy;cases hy;exact Gam.bind_rho_same),fun x hx=>by simp[Gam.bind,hx]⟩
 ·have:=H.lt x y hx;omega
 ·cases hmm:g.mem β o' with
  |none=>rfl
  |some v=>have:=H.mem_lt hmm;omega
end
end Go.Ab
namespace Go.Ab
open Go
theorem QkE{α:Type}{p:List α→Prop}(h0:p [])(h1:∀l a,p l→p (l++[a]))(l:List α):p l:=by
 rw[←List.reverse_reverse l];generalize l.reverse=r
 induction r with
 |nil=>exact h0
 |cons a r ih=>rw[List.reverse_cons];exact h1 _ _ ih
def Qkt(ops:Array Oper)(i e:Nat):Prop:=∃o,ops[i]? = some o∧∃ed∈o.after.toList,Region.binds .any ed=true∧ed.on=e
def bstep(acc:List Nat)(o:Oper):Nat:=o.after.toList.foldl (fun s e=>if Region.binds .any e then s ||| 2^e.on ||| acc.getD e.on 0 else s) 0
def bl(l:List Oper):List Nat:=l.foldl (fun acc o=>acc++[bstep acc o]) []
theorem QeK(ops:Array Oper):(Region.before ops).toList=bl ops.toList:=by
 unfold Region.before bl;rw[←Array.foldl_toList];have:∀(l:List Oper) (A:Array Nat),(l.foldl (fun acc o=>acc.push (o.after.foldl (fun s e=>if Region.binds .any e then s ||| 2^e.on ||| acc.getD e.on 0 else s) 0)) A).toList=l.foldl (fun acc o=>acc++[bstep acc o]) A.toList:=by
  intro l
  induction l with
  |nil=>intro A;rfl
  |cons o l ih =>
   intro A;simp only[List.foldl_cons];rw[ih]
   congr 1
   simp only[Array.toList_push,bstep]
   congr 2
   rw[←Array.foldl_toList]
   congr 1
   funext s e
   simp[Array.getD_eq_getD_getElem?,List.getD_eq_getElem?_getD]
 exact this ops.toList #[]
theorem Qow(l:List Oper)(o:Oper):bl (l++[o])=bl l++[bstep (bl l) o]:=by simp[bl]
theorem Qhf(l:List Oper):(bl l).length=l.length:=by
 induction l using QkE with
 |h0=>rfl
 |h1 l o ih=>rw[Qow];simp[ih]
theorem bl_get(l:List Oper):∀i (h:i<l.length),(bl l).getD i 0=bstep ((bl l).take i) l[i]:=by
 induction l using QkE with
 |h0=>intro i h;simp at h
 |h1 l o ih =>
  intro i h;rw[Qow];by_cases hi:i<l.length
  ·have h1:i<(bl l).length:=by rw[Qhf];exact hi
   have h2:=ih i hi;simp only[List.getD_eq_getElem?_getD]at h2 ⊢;rw[List.getElem?_append_left h1,List.take_append_of_le_length (Nat.le_of_lt h1),h2,List.getElem_append_left hi]
  ·have hl:i=l.length:=by simp at h;omega
   subst hl;have h1:(bl l).length=l.length:=Qhf l;rw[List.getD_eq_getElem?_getD,List.getElem?_append_right (Nat.le_of_eq h1),h1,List.take_append_of_le_length (Nat.le_of_eq h1.symm)];rw[List.take_of_length_le (Nat.le_of_eq h1)];simp
theorem Qou{acc:List Nat}{o:Oper}{j:Nat}(h:(bstep acc o).testBit j=true):∃e∈o.after.toList,Region.binds .any e=true∧(e.on=j∨(acc.getD e.on 0).testBit j=true):=by
 have:∀(l:List Edge) (s:Nat),(l.foldl (fun s e=>if Region.binds .any e then s ||| 2^e.on ||| acc.getD e.on 0 else s) s).testBit j=true →
   s.testBit j=true∨∃e∈l,Region.binds .any e=true∧(e.on=j∨(acc.getD e.on 0).testBit j=true):=by
  intro l
  induction l with
  |nil=>intro s h;exact .inl h
  |cons e l ih =>
   intro s h;simp only[List.foldl_cons]at h;rcases ih _ h with h1|⟨e',h1,h2⟩
   ·split at h1
    ·rename_i hb;simp only[Nat.testBit_or,Nat.testBit_two_pow,Bool.or_eq_true,decide_eq_true_eq]at h1;rcases h1 with(h1|h1)|h1
     ·exact .inl h1
     ·exact .inr ⟨e,by simp,hb,.inl h1⟩
     ·exact .inr ⟨e,by simp,hb,.inr h1⟩
    ·exact .inl h1
   ·exact .inr ⟨e',List.mem_cons_of_mem _ h1,h2⟩
 rcases this _ 0 h with h1|h1
 ·simp at h1
 ·exact h1
theorem Qm2{acc:List Nat}{o:Oper}{e:Edge}(he:e∈o.after.toList)(hb:Region.binds .any e=true):(bstep acc o).testBit e.on=true:=by
 have mono:∀(l:List Edge) (s:Nat),s.testBit e.on=true→(l.foldl (fun s e=>if Region.binds .any e then s ||| 2^e.on ||| acc.getD e.on 0 else s) s).testBit e.on=true:=by
  intro l
  induction l with
  |nil=>intro s h;exact h
  |cons e' l ih =>
   intro s h;simp only[List.foldl_cons];apply ih;split
   ·simp[Nat.testBit_or,h]
   ·exact h
 have:∀(l:List Edge) (s:Nat),e∈l→(l.foldl (fun s e=>if Region.binds .any e then s ||| 2^e.on ||| acc.getD e.on 0 else s) s).testBit e.on=true:=by
  intro l
  induction l with
  |nil=>intro s h;cases h
  |cons e' l ih =>
   intro s h;simp only[List.foldl_cons];rcases List.mem_cons.1 h with rfl|h
   ·apply mono;rw[if_pos hb];simp[Nat.testBit_or,Nat.testBit_two_pow]
   ·exact ih _ h
 exact this _ _ he
def bsOps(ops:Array Oper):List Nat:=(Region.before ops).toList
theorem bit_edge{ops:Array Oper}{i j:Nat}(h:bit (bsOps ops) i j=true):∃e,Qkt ops i e∧(e=j∨(e<i∧bit (bsOps ops) e j=true)):=by
 unfold bit bsOps at *;rw[QeK]at *;rcases Nat.lt_or_ge i ops.size with hi|hi
 ·have hi':i<ops.toList.length:=by simpa using hi
  rw[bl_get _ i hi']at h;obtain⟨e,he,hb,hc⟩:=Qou h;refine⟨e.on,⟨ops[i],by simp[hi],e,by simpa using he,hb,rfl⟩,?_⟩;rcases hc with hc|hc
  ·exact .inl hc
  ·rcases Nat.lt_or_ge e.on i with hlt|hge
   ·refine .inr ⟨hlt,?_⟩;rw[List.getD_eq_getElem?_getD,List.getElem?_take_of_lt hlt,←List.getD_eq_getElem?_getD]at hc;exact hc
   ·rw[List.getD_eq_getElem?_getD,List.getElem?_eq_none (by simp;omega)]at hc;simp at hc
 ·rw[List.getD_eq_getElem?_getD,List.getElem?_eq_none (by rw[Qhf];simpa using hi)]at h;simp at h
theorem edge_bit{ops:Array Oper}{i e:Nat}(h:Qkt ops i e):bit (bsOps ops) i e=true:=by
 obtain⟨o,ho,ed,hed,hb,rfl⟩:=h;unfold bit bsOps;rw[QeK];have hi:i<ops.toList.length:=by
  rcases Nat.lt_or_ge i ops.size with hi|hi
  ·simpa using hi
  ·rw[Array.getElem?_eq_none hi]at ho;cases ho
 rw[bl_get _ i hi];have:ops.toList[i]=o:=by
  rw[Array.getElem?_eq_getElem (by simpa using hi)]at ho;simpa using ho
 rw[this];exact Qm2 hed hb
section
variable{ops:Array Oper}
theorem go_cons(fuel t:Nat)(listed:Array Bool):Region.linearise.go .any ops (fuel+1) t listed [] =
  match (Region.ready .any ops listed)[t%(Region.ready .any ops listed).length]? with
  |some i=>i::Region.linearise.go .any ops fuel (t / (Region.ready .any ops listed).length) (listed.setIfInBounds i true) []
  |none=>[]:=by
 simp only[Region.linearise.go]
 change (match (Region.ready .any ops listed)[t%(Region.ready .any ops listed).length]? with
   |some i=>Region.linearise.go .any ops fuel (t / (Region.ready .any ops listed).length) (listed.setIfInBounds i true) [i]
   |none=>[].reverse)=_
 split
 ·rw[linearise_go_acc];simp
 ·rfl
theorem QeT{listed:Array Bool}{i:Nat}:i∈Region.ready .any ops listed↔i<ops.size∧listed.getD i true=false∧∀e,Qkt ops i e→listed.getD e false=true:=by
 unfold Region.ready;simp only[List.mem_filter,List.mem_range,Bool.and_eq_true,Bool.not_eq_true'];constructor
 ·rintro⟨h1,h2,h3⟩;refine⟨h1,h2,?_⟩;rintro e ⟨o,ho,ed,hed,hb,rfl⟩;rw[ho]at h3;simp only[Option.map_some,Option.getD_some,Array.all_eq_true']at h3;have:=h3 ed (by simpa using hed);simpa[hb] using this
 ·rintro⟨h1,h2,h3⟩;refine⟨h1,h2,?_⟩;have ho:ops[i]? = some ops[i]:=by simp[h1]
  rw[ho];simp only[Option.map_some,Option.getD_some,Array.all_eq_true'];intro ed hed;by_cases hb:Region.binds .any ed=true
  ·simp[hb,h3 ed.on ⟨_,ho,ed,by simpa using hed,hb,rfl⟩]
  ·simp[hb]
theorem getD_set_true{listed:Array Bool}{i j:Nat}(h:(listed.setIfInBounds i true).getD j true=false):listed.getD j true=false∧j≠i:=by
 simp only[Array.getD_eq_getD_getElem?,Array.getElem?_setIfInBounds]at h ⊢;split at h
 ·rename_i hij;split at h<;>simp at h
 ·rename_i hij;exact⟨h,fun e=>hij e.symm⟩
theorem QhD{listed:Array Bool}{i j:Nat}(h:(listed.setIfInBounds i true).getD j false=true):listed.getD j false=true∨j=i:=by
 simp only[Array.getD_eq_getD_getElem?,Array.getElem?_setIfInBounds]at h ⊢;split at h
 ·rename_i hij;exact .inr hij.symm
 ·exact .inl h
theorem go_spec:∀(fuel t:Nat)(listed:Array Bool),
  (Region.linearise.go .any ops fuel t listed []).Nodup∧(∀i∈Region.linearise.go .any ops fuel t listed [],i<ops.size∧listed.getD i true=false) ∧
  ∀pre i post,Region.linearise.go .any ops fuel t listed []=pre++i::post→∀e,Qkt ops i e→e∈pre∨listed.getD e false=true
 |0,t,listed=>by
  refine⟨by simp[Region.linearise.go],by simp[Region.linearise.go],?_⟩;intro pre i post h;simp[Region.linearise.go]at h
 |fuel+1,t,listed=>by
  rw[go_cons];split
  ·rename_i i hi;have hr:=QeT.1 (List.mem_of_getElem? hi);obtain⟨h1,h2,h3⟩:=go_spec fuel (t / (Region.ready .any ops listed).length) (listed.setIfInBounds i true);refine⟨List.nodup_cons.2 ⟨fun hmem=>(getD_set_true (h2 i hmem).2).2 rfl,h1⟩,?_,?_⟩
   ·intro j hj;rcases List.mem_cons.1 hj with rfl|hj
    ·exact⟨hr.1,hr.2.1⟩
    ·exact⟨(h2 j hj).1,(getD_set_true (h2 j hj).2).1⟩
   ·intro pre j post he e hE;cases pre with
    |nil =>
     simp only[List.nil_append,List.cons.injEq]at he;obtain⟨rfl,_⟩:=he;exact .inr (hr.2.2 e hE)
    |cons k pre =>
     simp only[List.cons_append,List.cons.injEq]at he;obtain⟨rfl,he⟩:=he;rcases h3 pre j post he e hE with h|h
     ·exact .inl (List.mem_cons_of_mem _ h)
     ·rcases QhD h with h|h
      ·exact .inr h
      ·exact .inl (by rw[h];simp)
  ·refine⟨by simp,by simp,?_⟩;intro pre i post h;simp at h
def QcS(n:Nat)(listed:Array Bool):Nat:=(List.range n).countP fun i=>!listed.getD i true
theorem Qop{l:List Nat}{p q:Nat→Bool}(hpq:∀i,p i=true→q i=true){j:Nat}(hj:j∈l)(hq:q j=true)(hp:p j=false):l.countP p<l.countP q:=by
 induction l with
 |nil=>cases hj
 |cons a l ih =>
  have hle:∀l:List Nat,l.countP p≤l.countP q:=fun l=>List.countP_mono_left fun i _=>hpq i
  simp only[List.countP_cons];rcases List.mem_cons.1 hj with rfl|hj
  ·have:=hle l;simp[hq,hp];omega
  ·have:=ih hj;have h3:(if p a=true then 1 else 0)≤(if q a=true then 1 else 0):=by
    by_cases h:p a=true
    ·simp[h,hpq a h]
    ·simp[h]
   omega
theorem go_all{L:List Nat}(hL:∀i,i<ops.size→i∈L)(hord:∀pre i post,L=pre++i::post→∀e,Qkt ops i e→e∈pre)(hlt:∀i∈L,i<ops.size) :
  ∀(fuel t:Nat)(listed:Array Bool),listed.size=ops.size→QcS ops.size listed≤fuel→∀i,i<ops.size→listed.getD i true=false→i∈Region.linearise.go .any ops fuel t listed []
 |0,t,listed,hs,hu,i,hi,hli=>by
  exfalso;have:0<QcS ops.size listed:=by
   unfold QcS;rw[List.countP_pos_iff];exact⟨i,by simpa using hi,by simp[hli]⟩
  omega
 |fuel+1,t,listed,hs,hu,i,hi,hli=>by
  have hready:∃k,k∈Region.ready .any ops listed:=by
   have:∀(pre post:List Nat),L=pre++post→(∀e∈pre,listed.getD e true=true)→i∈post→∃k,k∈Region.ready .any ops listed:=by
    intro pre post
    induction post generalizing pre with
    |nil=>intro _ _ h;cases h
    |cons a post ih =>
     intro he hp hin;by_cases ha:listed.getD a true=false
     ·refine⟨a,QeT.2 ⟨hlt a (by rw[he];simp),ha,fun e hE=>?_⟩⟩;have hmem:=hord pre a post he e hE;have h1:=hp e hmem;have h2:e<ops.size:=hlt e (by rw[he];simp[hmem]);simp only[Array.getD_eq_getD_getElem?]at h1 ⊢;rw[Array.getElem?_eq_getElem (by omega)]at h1 ⊢;simpa using h1
     ·have hne:i≠a:=fun e=>ha (by rw[←e];exact hli)
      refine ih (pre++[a]) (by rw[he];simp) ?_ ((List.mem_cons.1 hin).resolve_left hne);intro e hE;rcases List.mem_append.1 hE with hE|hE
      ·exact hp e hE
      ·rw[List.mem_singleton.1 hE];simpa using ha
   exact this [] L rfl (fun e h=>by cases h) (hL i hi)
  rw[go_cons];cases hk:(Region.ready .any ops listed)[t%(Region.ready .any ops listed).length]? with
  |none =>
   obtain⟨k,hk'⟩:=hready;have:t%(Region.ready .any ops listed).length<(Region.ready .any ops listed).length:=Nat.mod_lt _ (List.length_pos_of_mem hk');rw[gE this]at hk;cases hk
  |some k =>
   have hr:=QeT.1 (List.mem_of_getElem? hk);by_cases hik:i=k
   ·rw[hik];exact List.mem_cons_self
   ·refine List.mem_cons_of_mem _ (go_all hL hord hlt fuel _ _ (by simp[hs]) ?_ i hi ?_)
    ·have:QcS ops.size (listed.setIfInBounds k true)<QcS ops.size listed:=by
      unfold QcS;refine Qop (j:=k) ?_ (by simpa using hr.1) (by simp[hr.2.1]) ?_
      ·intro j hj;simp only[Bool.not_eq_true']at hj ⊢;exact(getD_set_true hj).1
      ·simp only[Array.getD_eq_getD_getElem?,Array.getElem?_setIfInBounds];simp[hs,hr.1]
     omega
    ·simp only[Array.getD_eq_getD_getElem?,Array.getElem?_setIfInBounds]at hli ⊢;rw[if_neg (fun e=>hik e.symm)];exact hli
end
structure SchedR (bs:List Nat)(n:Nat)(rest:List Nat):Prop where
 nodup:rest.Nodup
 lt:∀i∈rest,i<n
 ord:∀pre i post,rest=pre++i::post→∀j,bit bs i j=true→j ∉ i::post
theorem SchedR.tail{bs:List Nat}{n i:Nat}{rest:List Nat}(h:SchedR bs n (i::rest)):SchedR bs n rest:=
 ⟨(List.nodup_cons.1 h.nodup).2,fun j hj=>h.lt j (List.mem_cons_of_mem _ hj),fun pre j post he k hk=>h.ord (i::pre) j post (by rw[he];rfl) k hk⟩
theorem SchedR.head{bs:List Nat}{n i:Nat}{rest:List Nat}(h:SchedR bs n (i::rest)){j:Nat}(hb:bit bs i j=true):j ∉ i::rest:=
 h.ord [] i rest rfl j hb
theorem Qf9(ops:Array Oper)(t:Nat):SchedR (bsOps ops) ops.size (Region.linearise .any ops t):=by
 obtain⟨h1,h2,h3⟩:=go_spec (ops:=ops) ops.size t (Array.replicate ops.size false);have key:∀i pre post,Region.linearise .any ops t=pre++i::post→∀j,bit (bsOps ops) i j=true→j∈pre:=by
  intro i
  induction i using Nat.strongRecOn with
  |ind i ih =>
   intro pre post he j hb;obtain⟨e,hE,hc⟩:=bit_edge hb;have hepre:e∈pre:=by
    rcases h3 pre i post he e hE with h|h
    ·exact h
    ·simp only[Array.getD_eq_getD_getElem?]at h;rw[Array.getElem?_replicate]at h;split at h<;>simp at h
   rcases hc with rfl|⟨hlt,hb'⟩
   ·exact hepre
   ·obtain⟨p1,p2,rfl⟩:=List.append_of_mem hepre;have:=ih e hlt p1 (p2++i::post) (by rw[he];simp) j hb';simp[this]
 refine⟨h1,fun i hi=>(h2 i hi).1,fun pre i post he j hb=>?_⟩;have hj:=key i pre post he j hb;have hnd:(pre++i::post).Nodup:=by rw[←he];exact h1
 exact fun hin=>(List.nodup_append.1 hnd).2.2 j hj j hin rfl
theorem QiA(ops:Array Oper)(t:Nat){L:List Nat}(hL:∀i,i<ops.size→i∈L)(hord:∀pre i post,L=pre++i::post→∀e,bit (bsOps ops) i e=true→e∈pre)(hlt:∀i∈L,i<ops.size) :
  ∀i,i<ops.size→i∈Region.linearise .any ops t:=by
 intro i hi;refine go_all hL (fun pre i post he e hE=>hord pre i post he e (edge_bit hE)) hlt ops.size t _ (by simp) ?_ i hi ?_
 ·unfold QcS;exact Nat.le_trans List.countP_le_length (by simp)
 ·simp[Array.getD_eq_getD_getElem?,Array.getElem?_replicate,hi]
structure OrdR (n:Nat)(bs:List Nat)(L:List Nat):Prop where
 nodup:L.Nodup
 all:∀i,i<n→i∈L
 lt:∀i∈L,i<n
 ord:∀pre i post,L=pre++i::post→∀j,bit bs i j=true→j∈pre
def Qfw(l:List Nat):Nat:=l.foldl (fun v j=>v ||| 2^j) 0
theorem Qgy(l:List Nat)(j:Nat):Qfw (l++[j])=Qfw l ||| 2^j:=by simp[Qfw]
theorem Qe0(l:List Nat)(i:Nat):(Qfw l).testBit i=decide (i∈l):=by
 induction l using QkE with
 |h0=>simp[Qfw]
 |h1 l j ih =>
  rw[Qgy,Nat.testBit_or,ih,Nat.testBit_two_pow];simp only[List.mem_append,List.mem_singleton];rw[Bool.eq_iff_iff];rw[Bool.or_eq_true,decide_eq_true_iff,decide_eq_true_iff,decide_eq_true_iff];exact⟨fun h=>h.imp id Eq.symm,fun h=>h.imp id Eq.symm⟩
theorem QhT{n:Nat}{bs:List Nat}:∀(r pre:List Nat),pre.Nodup→(∀i∈pre,i<n)→(∀p i q,pre=p++i::q→∀j,bit bs i j=true→j∈p)→ordOk n bs r (Qfw pre)=true→OrdR n bs (pre++r)
 | [],pre,h1,h2,h3,h=>by
  simp only[ordOk,beq_iff_eq]at h;refine⟨by simpa using h1,fun i hi=>?_,by simpa using h2,by simpa using h3⟩;have:(Qfw pre).testBit i=true:=by rw[h,Nat.testBit_two_pow_sub_one];simpa using hi
  rw[Qe0]at this;simpa using this
 |j::r,pre,h1,h2,h3,h=>by
  simp only[ordOk,Bool.and_eq_true,Bool.not_eq_true',beq_iff_eq,Nat.blt_eq]at h;obtain⟨⟨⟨q1,q2⟩,q3⟩,q4⟩:=h;rw[←Qgy]at q4;rw[Qe0]at q2;have hj:j ∉ pre:=by simpa using q2
  have:=QhT r (pre++[j]) ?_ ?_ ?_ q4
  ·simpa using this
  ·rw[List.nodup_append];exact⟨h1,by simp,fun a ha b hb e=>hj (by rw[List.mem_singleton.1 hb]at e;rw[←e];exact ha)⟩
  ·intro i hi;rcases List.mem_append.1 hi with hi|hi
   ·exact h2 i hi
   ·rw[List.mem_singleton.1 hi];exact q1
  ·intro p i q he k hk;rcases List.eq_nil_or_concat q with rfl|⟨q',z,rfl⟩
   ·have:=List.append_inj' he rfl;obtain⟨rfl,e2⟩:=this;cases e2;unfold bit at hk;have hb:(Qfw pre).testBit k=true:=by
     rw[←q3,Nat.testBit_and,Bool.and_eq_true]at hk;exact hk.2
    rw[Qe0]at hb;simpa using hb
   ·have he':pre++[j]=(p++i::q')++[z]:=by rw[he];simp
    have:=(List.append_inj' he' rfl).1;exact h3 p i q' this k hk
theorem OrdR.of_check{n:Nat}{bs L:List Nat}(h:ordOk n bs L 0=true):OrdR n bs L:=by
 have:=QhT (n:=n) (bs:=bs) L [] List.nodup_nil (fun i h=>by cases h) (fun p i q he=>by simp at he) h;simpa using this
end Go.Ab
namespace Go.Ab
open Go
section
variable(P:Program)(G:Nat→Option (List AV))
def CodeR(a:AC)(c:Code):Prop:=Qah P G c=some a
def OpsR(l:List AOper)(ops:Array Oper):Prop:=ops.toList.mapM (Qcr P G ops)=some l
inductive ItemR (g:Gam):AItem→Item→Prop
 |code (a:AC)(c:Code)(h:CodeR P G a c):ItemR g (.code a) (.code c)
 |inBlock (id:Nat):ItemR g (.inBlock id) (.inBlock id)
 |inLoop (a:AC)(c:Code)(h:CodeR P G a c):ItemR g (.inLoop a) (.inLoop c)
 |inScope (a:AC)(c:Code)(h:CodeR P G a c):ItemR g (.inScope a) (.inScope c)
 |inRegion (l:List AOper)(ops:Array Oper)(idx:List Nat)(h:OpsR P G l ops)(hi:∀i∈idx,i<l.length):ItemR g (.inRegion (idx.map (opAt l))) (.inRegion ops idx)
 |inRangeFunc (l β:Nat)(h:g.rho l=some (β,0)):ItemR g (.inRangeFunc l) (.inRangeFunc β)
 |endRangeFunc (l β:Nat)(h:g.rho l=some (β,0)):ItemR g (.endRangeFunc l) (.endRangeFunc β)
 |beginRound:ItemR g .beginRound .beginRound
inductive ItemsR (g:Gam):List AItem→List Item→Prop
 |nil:ItemsR g [] []
 |cons {a:AItem}{i:Item}{l:List AItem}{k:List Item}(h:ItemR P G g a i)(t:ItemsR g l k):ItemsR g (a::l) (i::k)
variable{P G}
theorem Qgz{α β:Type}{f:α→Option β}:∀{l:List α}{m:List β},l.mapM f=some m→m.length=l.length∧∀i (h1:i<l.length)(h2:i<m.length),f l[i]=some m[i]
 | [],m,h=>by simp at h;subst h;exact⟨rfl,fun i h1=>absurd h1 (by simp)⟩
 |a::l,m,h=>by
  simp only[List.mapM_cons,Option.bind_eq_bind,Option.bind_eq_some_iff,Option.pure_def,oI]at h;obtain⟨b,hb,m',hm,rfl⟩:=h;obtain⟨h1,h2⟩:=Qgz hm;refine⟨by simp[h1],fun i q1 q2=>?_⟩;cases i with
  |zero=>exact hb
  |succ i=>exact h2 i (by simpa using q1) (by simpa using q2)
theorem OpsR.len{l:List AOper}{ops:Array Oper}(h:OpsR P G l ops):l.length=ops.size:=by simpa using(Qgz h).1
theorem OpsR.get{l:List AOper}{ops:Array Oper}(h:OpsR P G l ops){i:Nat}(hi:i<l.length):∃o,ops[i]? = some o∧Qcr P G ops o=some (opAt l i):=by
 have hs:i<ops.size:=by rw[←h.len];exact hi
 refine⟨ops[i],by simp[hs],?_⟩;have:=(Qgz h).2 i (by simpa using hs) hi;simpa[opAt,List.getD_eq_getElem?_getD,hi] using this
theorem Qhr(l:List AOper):(List.range l.length).map (opAt l)=l:=by
 apply List.ext_getElem
 ·simp
 ·intro i h1 h2;simp[opAt,List.getD_eq_getElem?_getD,h2]
theorem ItemR.mono{g g':Gam}(hg:g.le g'){a:AItem}{i:Item}(h:ItemR P G g a i):ItemR P G g' a i:=by
 cases h with
 |code a c h=>exact .code a c h
 |inBlock id=>exact .inBlock id
 |inLoop a c h=>exact .inLoop a c h
 |inScope a c h=>exact .inScope a c h
 |inRegion l ops idx h hi=>exact .inRegion l ops idx h hi
 |inRangeFunc l β h=>exact .inRangeFunc l β (hg.rho _ _ h)
 |endRangeFunc l β h=>exact .endRangeFunc l β (hg.rho _ _ h)
 |beginRound=>exact .beginRound
theorem ItemsR.mono{g g':Gam}(hg:g.le g'){l:List AItem}{k:List Item}(h:ItemsR P G g l k):ItemsR P G g' l k:=by
 induction h with
 |nil=>exact .nil
 |cons h _ ih=>exact .cons (h.mono hg) ih
theorem Qj7{g:Gam}{id:Nat}{l:List AItem}{k:List Item}(h:ItemsR P G g l k) :
  OptR (ItemsR P G g) (Qal id l) (exitTo id k):=by
 induction h with
 |nil=>exact trivial
 | @cons a i l k hi t ih =>
  cases hi with
  |inBlock id' =>
   simp only[Qal,exitTo];split
   ·exact t
   ·exact ih
  |_=>simpa[Qal,exitTo] using ih
theorem CodeR.seq_inv{c d:Code}{a:AC}(h:CodeR P G a (.seq c d)):∃x y,a=.seq x y∧CodeR P G x c∧CodeR P G y d:=by
 simp only[CodeR,Qah]at h ⊢;split at h<;>simp_all
theorem QgZ(l:Nat):∀(c:Code)(a:AC),CodeR P G a c→OptR (CodeR P G) (Qbn a l) (findLabel c l):=by
 intro c
 induction c with
 |seq c d ihc ihd =>
  intro a h;obtain⟨x,y,rfl,hx,hy⟩:=h.seq_inv;have h1:=ihc x hx;have h2:=ihd y hy;simp only[Qbn,findLabel];cases e1:Qbn x l<;>cases e2:findLabel c l<;>simp only[e1,e2,OptR]at h1 ⊢
  ·exact h2
  ·simp only[CodeR,Qah]at h1 hy ⊢;simp[h1,hy]
 |label l' =>
  intro a h;simp only[CodeR,Qah,oI]at h;subst h;simp only[Qbn,findLabel];split
  ·exact rfl
  ·exact trivial
 |region id ops draw =>
  intro a h;simp only[CodeR,Qah,QcM]at h;split at h
  ·cases h
  ·split at h
   ·split at h
    ·cases h
    ·unfold Qfp at h;simp only at h;split at h
     ·cases h;exact trivial
     ·cases h
   ·cases h;exact trivial
 |cond c x y _ _ =>
  intro a h;simp only[CodeR,Qah]at h;split at h
  ·cases h;exact trivial
  ·cases h
 |rangeFunc f params x y _ _ =>
  intro a h;simp only[CodeR,Qah]at h;split at h
  ·cases h;exact trivial
  ·cases h
 |block id c _ =>
  intro a h;simp only[CodeR,Qah]at h;obtain⟨p,_,rfl⟩:=oM h;exact trivial
 |loop c _ =>
  intro a h;simp only[CodeR,Qah]at h;obtain⟨p,_,rfl⟩:=oM h;exact trivial
 |scope c _ =>
  intro a h;simp only[CodeR,Qah]at h;obtain⟨p,_,rfl⟩:=oM h;exact trivial
 |refuse _=>intro a h;simp only[CodeR,Qah,oI]at h;subst h;exact trivial
 |_ =>
  intro a h;simp only[CodeR,Qah,oI]at h;subst h;exact trivial
theorem Qj1{g:Gam}{id:Nat}{l:List AItem}{k:List Item}(h:ItemsR P G g l k) :
  OptR (ItemsR P G g) (Qcy id l) (gotoIn id k):=by
 induction h with
 |nil=>exact trivial
 | @cons a i l k hi t ih =>
  cases hi with
  |inScope a c h =>
   have:=QgZ id c a h;simp only[Qcy,gotoIn];cases e1:Qbn a id<;>cases e2:findLabel c id<;>simp only[e1,e2,OptR]at this ⊢
   ·exact ih
   ·exact .cons (.code _ _ this) (.cons (.inScope _ _ h) t)
  |_=>simpa[Qcy,gotoIn] using ih
end
end Go.Ab
namespace Go.Ab
open Go
inductive ChainR (g:Gam):List APanic→List PanicEntry→Prop
 |nil:ChainR g [] []
 |cons {v:AV}{r:Bool}{v':Value}{l:List APanic}{k:List PanicEntry}(h:VR g v v')(t:ChainR g l k) :
   ChainR g (⟨v,r⟩::l) ({v:=v',recovered:=r}::k)
inductive ModeR (g:Gam):AMode→FrameMode→Prop
 |run:ModeR g .run .run
 |returning:ModeR g .returning .returning
 |panicking (l:List APanic)(k:List PanicEntry)(h:ChainR g l k):ModeR g (.panicking l) (.panicking k)
theorem ChainR.mono{g g':Gam}(hg:g.le g'){l:List APanic}{k:List PanicEntry}(h:ChainR g l k):ChainR g' l k:=by
 induction h with
 |nil=>exact .nil
 |cons h _ ih=>exact .cons (h.mono hg) ih
theorem ModeR.mono{g g':Gam}(hg:g.le g'){a:AMode}{m:FrameMode}(h:ModeR g a m):ModeR g' a m:=by
 cases h with
 |run=>exact .run
 |returning=>exact .returning
 |panicking l k h=>exact .panicking l k (h.mono hg)
section
variable(P:Program)(G:Nat→Option (List AV))
structure HeadR (g:Gam)(af:AF)(fr:Frame):Prop where
 fn:fr.fn=af.fn
 func:∃f,P.funcs[fr.fn]? = some f
 defers:DefsR g af.defers fr.defers
 mode:ModeR g af.mode fr.mode
 kind:fr.kind=af.kind
 round:OptR (fun l β=>g.rho l=some (β,0)) af.roundOf fr.roundOf
structure FrR (g:Gam)(af:AF)(fr:Frame):Prop where
 head:HeadR P g af fr
 tmps:VRs g af.tmps fr.tmps.toList
 todo:ItemsR P G g af.todo fr.todo
def GlobR(g:Gam):Prop:=∀n l,G n=some l→VR g (.iptr l) (.pointer (some ⟨n,0,none⟩))
variable{P G}
theorem GlobR.mono{g g':Gam}(hg:g.le g')(h:GlobR G g):GlobR G g':=fun n l e=>(h n l e).mono hg
theorem HeadR.mono{g g':Gam}(hg:g.le g'){af:AF}{fr:Frame}(h:HeadR P g af fr):HeadR P g' af fr:=
 ⟨h.fn,h.func,h.defers.mono hg,h.mode.mono hg,h.kind,by
  have:=h.round;cases e1:af.roundOf<;>cases e2:fr.roundOf<;>simp only[e1,e2,OptR]at this ⊢;exact hg.rho _ _ this⟩
theorem FrR.mono{g g':Gam}(hg:g.le g'){af:AF}{fr:Frame}(h:FrR P G g af fr):FrR P G g' af fr:=
 ⟨h.head.mono hg,h.tmps.mono hg,h.todo.mono hg⟩
theorem Qhj{g:Gam}(hG:GlobR G g){tmps:List AV}{vs:Array Value}(ht:∀t,VR g (tmps.getD t .undef) (vs.getD t undef)){fr:Frame}(hf:fr.tmps=vs)
  (x:Operand)(ax:AOpd)(hx:Qaa G x=some ax):VR g (aev tmps ax) (fr.eval x):=by
 subst hf;cases x with
 |tmp t=>simp only[Qaa,oI]at hx;subst hx;exact ht t
 |const v =>
  simp only[Qaa]at hx;obtain⟨a,ha,rfl⟩:=oM hx;exact QfT 4 v a ha g
 |global n =>
  simp only[Qaa]at hx;obtain⟨a,ha,rfl⟩:=oM hx;exact hG n a ha
 |func f=>simp only[Qaa,oI]at hx;subst hx;exact .func f [] [] #[] #[] rfl rfl (fun i h1 _=>by simp at h1) (fun i h1 _=>by simp at h1)
theorem VRs.getD{g:Gam}{tmps:List AV}{vs:Array Value}(h:VRs g tmps vs.toList)(t:Nat):VR g (tmps.getD t .undef) (vs.getD t undef):=by
 by_cases ht:t<tmps.length
 ·have h2:t<vs.toList.length:=by rw[←h.len];exact ht
  have h3:t<vs.size:=by simpa using h2
  have:=h.val t ht h2;simpa[List.getD,ht,Array.getD,h3] using this
 ·simp only[List.getD,List.getElem?_eq_none (Nat.le_of_not_lt ht),Option.getD_none];exact .undef _
end
end Go.Ab
namespace Go.Ab
open Go
section
variable{P:Program}{fr:Frame}{cs:List Frame}{w:World}{k:List Item}
theorem go_skip(hm:fr.mode=.run)(ht:fr.todo=.code .skip::k):step P (lone fr cs w)=.next (lone {fr with todo:=k} cs w):=
 step_lone_go (by simp[stepG,stepG.exec,hm,ht])
theorem go_label{l:Nat}(hm:fr.mode=.run)(ht:fr.todo=.code (.label l)::k):step P (lone fr cs w)=.next (lone {fr with todo:=k} cs w):=
 step_lone_go (by simp[stepG,stepG.exec,hm,ht])
theorem go_inBlock{l:Nat}(hm:fr.mode=.run)(ht:fr.todo=.inBlock l::k):step P (lone fr cs w)=.next (lone {fr with todo:=k} cs w):=
 step_lone_go (by simp[stepG,stepG.exec,hm,ht])
theorem go_inScope{c:Code}(hm:fr.mode=.run)(ht:fr.todo=.inScope c::k):step P (lone fr cs w)=.next (lone {fr with todo:=k} cs w):=
 step_lone_go (by simp[stepG,stepG.exec,hm,ht])
theorem go_seq{c d:Code}(hm:fr.mode=.run)(ht:fr.todo=.code (.seq c d)::k) :
  step P (lone fr cs w)=.next (lone {fr with todo:=.code c::.code d::k} cs w):=
 step_lone_go (by simp[stepG,stepG.exec,hm,ht])
theorem go_cond{x:Operand}{c d:Code}{t:Bool}(hm:fr.mode=.run)(ht:fr.todo=.code (.cond x c d)::k)(hx:fr.eval x=.bool t) :
  step P (lone fr cs w)=.next (lone {fr with todo:=.code (if t then c else d)::k} cs w):=
 step_lone_go (by simp[stepG,stepG.exec,hm,ht,hx])
theorem go_block{l:Nat}{c:Code}(hm:fr.mode=.run)(ht:fr.todo=.code (.block l c)::k) :
  step P (lone fr cs w)=.next (lone {fr with todo:=.code c::.inBlock l::k} cs w):=
 step_lone_go (by simp[stepG,stepG.exec,hm,ht])
theorem go_loop{c:Code}(hm:fr.mode=.run)(ht:fr.todo=.code (.loop c)::k) :
  step P (lone fr cs w)=.next (lone {fr with todo:=.code c::.inLoop c::k} cs w):=
 step_lone_go (by simp[stepG,stepG.exec,hm,ht])
theorem go_inLoop{c:Code}(hm:fr.mode=.run)(ht:fr.todo=.inLoop c::k) :
  step P (lone fr cs w)=.next (lone {fr with todo:=.code c::.inLoop c::k} cs w):=
 step_lone_go (by simp[stepG,stepG.exec,hm,ht])
theorem go_scope{c:Code}(hm:fr.mode=.run)(ht:fr.todo=.code (.scope c)::k) :
  step P (lone fr cs w)=.next (lone {fr with todo:=.code c::.inScope c::k} cs w):=
 step_lone_go (by simp[stepG,stepG.exec,hm,ht])
theorem go_exit{id:Nat}{k':List Item}(hm:fr.mode=.run)(ht:fr.todo=.code (.exit id)::k)(he:exitTo id k=some k') :
  step P (lone fr cs w)=.next (lone {fr with todo:=k'} cs w):=
 step_lone_go (by simp[stepG,stepG.exec,hm,ht,he])
theorem go_goto{id:Nat}{k':List Item}(hm:fr.mode=.run)(ht:fr.todo=.code (.goto id)::k)(he:gotoIn id k=some k') :
  step P (lone fr cs w)=.next (lone {fr with todo:=k'} cs w):=
 step_lone_go (by simp[stepG,stepG.exec,hm,ht,he])
theorem go_region{id:Nat}{ops:Array Oper}(hm:fr.mode=.run)(ht:fr.todo=.code (.region id ops false)::k) :
  step P (lone fr cs w)=.next (lone {fr with todo:=.inRegion ops (List.range ops.size)::k} cs w):=
 step_lone_go (by simp[stepG,stepG.exec,hm,ht])
theorem go_draw{id:Nat}{ops:Array Oper}(hm:fr.mode=.run)(ht:fr.todo=.code (.region id ops true)::k) :
  step P (lone fr cs w)=.next (lone {fr with todo:=.inRegion ops (Region.schedule (P.follows .mixedOrders) ops (w.tape w.drawn (.order fr.fn id)))::k} cs {w with drawn:=w.drawn+1}):=
 step_lone_go (by simp[stepG,stepG.exec,hm,ht,choose,Sem.run,Question.forced,Question.cut])
theorem go_region_end{ops:Array Oper}(hm:fr.mode=.run)(ht:fr.todo=.inRegion ops []::k):step P (lone fr cs w)=.next (lone {fr with todo:=k} cs w):=
 step_lone_go (by simp[stepG,stepG.exec,hm,ht])
theorem go_ret(hm:fr.mode=.run)(ht:fr.todo=.code .ret::k)(hr:fr.roundOf=none):step P (lone fr cs w)=.next (lone {fr with mode:=.returning} cs w):=
 step_lone_go (by simp[stepG,stepG.exec,hm,ht,hr])
theorem go_end(hm:fr.mode=.run)(ht:fr.todo=[])(hr:fr.roundOf=none):step P (lone fr cs w)=.next (lone {fr with mode:=.returning} cs w):=
 step_lone_go (by simp[stepG,stepG.exec,hm,ht,hr])
end
end Go.Ab
namespace Go.Ab
open Go
section
variable{P:Program}{fr:Frame}{cs:List Frame}{w w':World}{k:List Item}{ops:Array Oper}{i:Nat}{rest:List Nat}{o:Oper}
def Qci(fr:Frame)(o:Oper):Prop:=fr.roundOf=none∨∀c,o.op≠.defer c
theorem Qck(hm:fr.mode=.run)(ht:fr.todo=.inRegion ops (i::rest)::k)(ho:ops[i]? = some o)(hw:Region.wanted o (yielded ops fr.tmps)=true)(hd:Qci fr o) :
  stepG P true {frame:=fr,callers:=cs,status:=.running,dying:=none} w=stepG.apply P true fr cs none (execOp fr.eval o) w:=by
 have h1:fr.oper? = some o:=by simp[Frame.oper?,ht,ho]
 have h2:stepG.oper P true fr cs none w=stepG.apply P true fr cs none (execOp fr.eval o) w:=by
  unfold stepG.oper;simp only[h1];rcases hd with hd|hd
  ·simp[hd]
  ·split
   ·rename_i hop;exact absurd hop (hd _)
   ·rfl
 simp[stepG,hm,stepG.exec,ht,ho,hw,h2]
theorem go_op_skip(hm:fr.mode=.run)(ht:fr.todo=.inRegion ops (i::rest)::k)(ho:ops[i]? = some o)(hw:Region.wanted o (yielded ops fr.tmps)=false) :
  step P (lone fr cs w)=.next (lone (fr.finish undef) cs w):=
 step_lone_go (by simp[stepG,hm,stepG.exec,ht,ho,hw])
theorem go_value{v:Value}(hm:fr.mode=.run)(ht:fr.todo=.inRegion ops (i::rest)::k)(ho:ops[i]? = some o)(hw:Region.wanted o (yielded ops fr.tmps)=true)(hd:Qci fr o)
  (hr:(execOp fr.eval o).run P w=.ok (.value v) w'):step P (lone fr cs w)=.next (lone (fr.finish v) cs w'):=
 step_lone_go (by rw[Qck hm ht ho hw hd];simp[stepG.apply,hr])
theorem go_unit(hm:fr.mode=.run)(ht:fr.todo=.inRegion ops (i::rest)::k)(ho:ops[i]? = some o)(hw:Region.wanted o (yielded ops fr.tmps)=true)(hd:Qci fr o)
  (hr:(execOp fr.eval o).run P w=.ok .skip w'):step P (lone fr cs w)=.next (lone (fr.finish undef) cs w'):=
 step_lone_go (by rw[Qck hm ht ho hw hd];simp[stepG.apply,hr])
theorem go_enter{f:FuncId}{args:Array Value}(hm:fr.mode=.run)(ht:fr.todo=.inRegion ops (i::rest)::k)(ho:ops[i]? = some o)(hw:Region.wanted o (yielded ops fr.tmps)=true)(hd:Qci fr o)
  (hr:(execOp fr.eval o).run P w=.ok (.enter f args) w'):step P (lone fr cs w)=.next (lone (Frame.enter P f args .normal) (fr::cs) w'):=
 step_lone_go (by rw[Qck hm ht ho hw hd];simp[stepG.apply,hr,ht])
theorem go_round{l:Nat}{f:FuncId}{tmps:Array Value}{x y:Code}(hm:fr.mode=.run)(ht:fr.todo=.inRegion ops (i::rest)::k)(ho:ops[i]? = some o)(hw:Region.wanted o (yielded ops fr.tmps)=true)(hd:Qci fr o)
  (hr:(execOp fr.eval o).run P w=.ok (.round l f tmps x y) w'):step P (lone fr cs w)=.next (lone (Frame.round l f tmps x y .normal) (fr::cs) w'):=
 step_lone_go (by rw[Qck hm ht ho hw hd];simp[stepG.apply,hr,ht])
theorem go_defer{d:Deferred}(hm:fr.mode=.run)(ht:fr.todo=.inRegion ops (i::rest)::k)(ho:ops[i]? = some o)(hw:Region.wanted o (yielded ops fr.tmps)=true)(hd:Qci fr o)
  (hr:(execOp fr.eval o).run P w=.ok (.defer d) w'):step P (lone fr cs w)=.next (lone ({fr with defers:=d::fr.defers}.finish undef) cs w'):=
 step_lone_go (by rw[Qck hm ht ho hw hd];simp[stepG.apply,hr])
theorem go_panic{v:Value}(hm:fr.mode=.run)(ht:fr.todo=.inRegion ops (i::rest)::k)(ho:ops[i]? = some o)(hw:Region.wanted o (yielded ops fr.tmps)=true)(hd:Qci fr o)
  (hr:(execOp fr.eval o).run P w=.halt (.panic v) w'):step P (lone fr cs w)=.next (lone (fr.raise [{v,recovered:=false}]) cs w'):=
 step_lone_go (by rw[Qck hm ht ho hw hd];simp[stepG.apply,hr])
end
end Go.Ab
namespace Go.Ab
open Go
inductive PendD (tmps:List AV)(h:AH)(o:AOper):Prop
 |skip (hw:Qai tmps o=some false)(hd:∀d,o.dst=some d→d<tmps.length→tmps.getD d .undef=.tuple [])
 |quiet (a:AOp)(v:AV)(hw:Qai tmps o=some true)(ha:o.act=.op a)(hq:a.quiet=true)(he:exec h (aev tmps) a=some (v,h))(hd:∀d,o.dst=some d→d<tmps.length→tmps.getD d .undef=v)
 |makes (a:AOp)(mk:Nat→AV)(ob:AO)(d b:Nat)(hw:Qai tmps o=some true)(ha:o.act=.op a)(hm:a.makes=true)(hmk:MkOk mk)(hpl:ob.plain)(hex:∀h':AH,exec h' (aev tmps) a=some (mk h'.next,h'.alloc ob))
   (hd:o.dst=some d)(hv:tmps.getD d .undef=mk b)(hg:h.get b=some ob)
inductive PendS (tmps:List AV)(o:AOper):Prop
 |skip (hw:Qai tmps o=some false)(hd:∀d,o.dst=some d→d<tmps.length→tmps.getD d .undef=.tuple [])
 |pure (a:AOp)(v:AV)(hw:Qai tmps o=some true)(ha:o.act=.op a)(hq:a.quiet=true)(he:∀h,exec h (aev tmps) a=some (v,h))(hd:∀d,o.dst=some d→d<tmps.length→tmps.getD d .undef=v)
 |looked (a:AOp)(hw:Qai tmps o=some true)(ha:o.act=.op a)(hq:a.quiet=true)(hl:a.looked=true)
 |makes (a:AOp)(mk:Nat→AV)(ob:AO)(d b:Nat)(hw:Qai tmps o=some true)(ha:o.act=.op a)(hm:a.makes=true)(hmk:MkOk mk)(hpl:ob.plain)(hex:∀h':AH,exec h' (aev tmps) a=some (mk h'.next,h'.alloc ob))
   (hd:o.dst=some d)(hv:tmps.getD d .undef=mk b)
theorem PendD.toS{tmps:List AV}{h:AH}{o:AOper}(p:PendD tmps h o):PendS tmps o:=by
 cases p with
 |skip hw hd=>exact .skip hw hd
 |quiet a v hw ha hq he hd =>
  by_cases hl:a.looked=true
  ·exact .looked a hw ha hq hl
  ·exact .pure a v hw ha hq (fun h'=>Qoj h' hq (by simpa using hl) he) hd
 |makes a mk ob d b hw ha hm hmk hpl hex hd hv hg=>exact .makes a mk ob d b hw ha hm hmk hpl hex hd hv
theorem QjI{a:AOp}(hm:a.makes=true):a.looked=true:=by
 cases a<;>simp_all [AOp.makes,AOp.looked]
theorem AH.sub_refl(h:AH):h.sub h:=fun _ _ e=>e
theorem Qde{a:AOp}(hq:a.quiet=true)(hm:a.makes=true):False:=by
 cases a<;>simp_all [AOp.makes,AOp.quiet]
theorem PendS.toD{tmps:List AV}{h:AH}{o:AOper}(p:PendS tmps o)(hag:o.act.looked=true→again tmps h o=true):PendD tmps h o:=by
 cases p with
 |skip hw hd=>exact .skip hw hd
 |pure a v hw ha hq he hd=>exact .quiet a v hw ha hq (he h) hd
 |looked a hw ha hq hl =>
  have hg:=hag (by rw[ha];exact hl);unfold again at hg;simp only[hw,ha]at hg;cases hd:o.dst with
  |none=>simp[hd]at hg
  |some d =>
   simp only[hd,Option.map_some,hq,if_true]at hg;split at hg
   ·rename_i v' h' he;have:=QdL hq he (AH.sub_refl h);refine .quiet a _ hw ha hq this.2 fun d' hd'=>?_
    rw[hd]at hd';cases hd';exact fun _=>AV.eqS_eq _ _ hg
   ·cases hg
 |makes a mk ob d b hw ha hm hmk hpl hex hd hv =>
  have hg:=hag (by rw[ha];exact QjI hm);refine .makes a mk ob d b hw ha hm hmk hpl hex hd hv ?_;have hq:a.quiet=false:=by
   cases hq:a.quiet with
   |false=>rfl
   |true=>exact(Qde hq hm).elim
  unfold again at hg;simp only[hw,ha,hd,Option.map_some,hq,hm,Bool.false_eq_true,if_false,if_true,hv,hmk.1]at hg;have hmade:QgA tmps a=some ob:=by
   unfold QgA;rw[hex];simp[AH.alloc]
  rw[hmade]at hg;simp only[]at hg;split at hg
  ·rename_i o' ho';rw[ho',AO.same_eq hg]
  ·cases hg
theorem QoB{tmps tmps':List AV}{o:AOper}(ht:∀t∈o.reads,tmps.getD t .undef=tmps'.getD t .undef):∀x∈o.act.opds,aev tmps x=aev tmps' x:=by
 intro x hx;cases x with
 |const v=>rfl
 |tmp t=>exact ht t (List.mem_append_right _ (List.mem_filterMap.2 ⟨.tmp t,hx,rfl⟩))
theorem QcQ{tmps tmps':List AV}{o:AOper}(ht:∀t∈o.reads,tmps[t]? = tmps'[t]?):Qai tmps o=Qai tmps' o:=by
 unfold Qai;cases hg:o.guard with
 |none=>rfl
 |some p =>
  obtain⟨t,want⟩:=p;have:=ht t (List.mem_append_left _ (by simp[hg]));simp only[this]
theorem getD_of_getElem? {tmps tmps':List AV}{t:Nat}(h:tmps[t]? = tmps'[t]?):tmps.getD t .undef=tmps'.getD t .undef:=by
 simp[List.getD_eq_getElem?_getD,h]
theorem PendD.congr{tmps tmps':List AV}{h h':AH}{o:AOper}(hl:tmps'.length=tmps.length)(ht:∀t∈o.names,tmps[t]? = tmps'[t]?)(hs:h.sub h')(p:PendD tmps h o):PendD tmps' h' o:=by
 have hr:∀t∈o.reads,tmps[t]? = tmps'[t]?:=fun t hm=>ht t (List.mem_append_right _ hm)
 have hw':=QcQ hr;have hd':∀d,o.dst=some d→tmps.getD d .undef=tmps'.getD d .undef:=fun d hd=>getD_of_getElem? (ht d (List.mem_append_left _ (by simp[hd])))
 have hev:∀a,o.act=.op a→∀x∈a.opds,aev tmps x=aev tmps' x:=fun a ha x hx=>QoB (o:=o) (fun t hm=>getD_of_getElem? (hr t hm)) x (by rw[ha];exact hx)
 cases p with
 |skip hw hd=>exact .skip (by rw[←hw'];exact hw) fun d e q=>by rw[←hd' d e];exact hd d e (by rw[←hl];exact q)
 |quiet a v hw ha hq he hd =>
  refine .quiet a v (by rw[←hw'];exact hw) ha hq ?_ fun d e q=>by rw[←hd' d e];exact hd d e (by rw[←hl];exact q)
  rw[←Qa6 a (hev a ha)];exact(QdL hq he hs).2
 |makes a mk ob d b hw ha hm hmk hpl hex hd hv hg =>
  exact .makes a mk ob d b (by rw[←hw'];exact hw) ha hm hmk hpl (fun h1=>by rw[←Qa6 a (hev a ha)];exact hex h1) hd (by rw[←hd' d hd];exact hv) (hs _ _ hg)
theorem PendS.congr{tmps tmps':List AV}{o:AOper}(hl:tmps'.length=tmps.length)(ht:∀t∈o.names,tmps[t]? = tmps'[t]?)(p:PendS tmps o):PendS tmps' o:=by
 have hr:∀t∈o.reads,tmps[t]? = tmps'[t]?:=fun t hm=>ht t (List.mem_append_right _ hm)
 have hw':=QcQ hr;have hd':∀d,o.dst=some d→tmps.getD d .undef=tmps'.getD d .undef:=fun d hd=>getD_of_getElem? (ht d (List.mem_append_left _ (by simp[hd])))
 have hev:∀a,o.act=.op a→∀x∈a.opds,aev tmps x=aev tmps' x:=fun a ha x hx=>QoB (o:=o) (fun t hm=>getD_of_getElem? (hr t hm)) x (by rw[ha];exact hx)
 cases p with
 |skip hw hd=>exact .skip (by rw[←hw'];exact hw) fun d e q=>by rw[←hd' d e];exact hd d e (by rw[←hl];exact q)
 |pure a v hw ha hq he hd=>exact .pure a v (by rw[←hw'];exact hw) ha hq (fun h=>by rw[←Qa6 a (hev a ha)];exact he h) fun d e q=>by rw[←hd' d e];exact hd d e (by rw[←hl];exact q)
 |looked a hw ha hq hl=>exact .looked a (by rw[←hw'];exact hw) ha hq hl
 |makes a mk ob d b hw ha hm hmk hpl hex hd hv =>
  exact .makes a mk ob d b (by rw[←hw'];exact hw) ha hm hmk hpl (fun h1=>by rw[←Qa6 a (hev a ha)];exact hex h1) hd (by rw[←hd' d hd];exact hv)
def Qb7(tmps:List AV)(o:AOper):Option Nat:=
 match Qai tmps o with
 |some true=>match o.act with
  | .op a=>if a.makes then o.dst.bind fun d=>(tmps.getD d .undef).block else none
  |_=>none
 |_=>none
theorem Qdh{tmps tmps':List AV}{o:AOper}(ht:∀t∈o.names,tmps[t]? = tmps'[t]?):Qb7 tmps o=Qb7 tmps' o:=by
 have hw':=QcQ (o:=o) (fun t hm=>ht t (List.mem_append_right _ hm));unfold Qb7;rw[hw'];cases hd:o.dst with
 |none=>rfl
 |some d =>
  have:=getD_of_getElem? (ht d (List.mem_append_left _ (by simp[hd])));simp only[Option.bind_some,this]
section
variable(P:Program)(G:Nat→Option (List AV))
structure DrawR (g:Gam)(tmps:List AV)(vs:Array Value)(ops:Array Oper)(l:List AOper)(D rest:List Nat):Prop where
 isOps:OpsR P G l ops
 sched:SchedR (bsOps ops) l.length rest
 names:Qiw l (bsOps ops)=true
 lt:∀j∈D,j<l.length
 exe:∀i,i<l.length→i ∉ rest→i∈D
 flt:∀j∈D,j∈rest→isF l j=true
 done:∀j∈D,∀i,bit (bsOps ops) j i=true→i∈D
 len:tmps.length=vs.size
 tm:∀t,(∀j∈D,j∈rest→(opAt l j).dst≠some t)→VR g (tmps.getD t .undef) (vs.getD t undef)
 stat:∀j∈D,j∈rest→PendS tmps (opAt l j)
 inj:∀j∈D,j∈rest→∀j'∈D,j'∈rest→∀b,Qb7 tmps (opAt l j)=some b→Qb7 tmps (opAt l j')=some b→j=j'
variable{P G}
theorem QbO{l:List AOper}{bs:List Nat}(h:Qiw l bs=true){i j t:Nat}(hi:i<l.length)(hj:j<l.length)(hd:(opAt l i).dst=some t)(hn:t∈(opAt l j).names) :
  (j=i∧(isF l i=true→t ∉ (opAt l j).reads))∨bit bs j i=true∨(isF l i=false∧bit bs i j=true):=by
 unfold Qiw at h;rw[List.all_eq_true]at h;have h1:=h i (by simpa using hi);rw[hd]at h1;simp only[List.all_eq_true]at h1;have h2:=h1 j (by simpa using hj);simp only[Bool.or_eq_true,Bool.and_eq_true,beq_iff_eq,Bool.not_eq_true',List.contains_eq_mem,decide_eq_false_iff_not]at h2;rcases h2 with(((⟨h2,h3⟩|h2)|h2)|h2)
 ·refine .inl ⟨h2,fun hf=>?_⟩;rcases h3 with h3|h3
  ·rw[hf]at h3;cases h3
  ·exact h3
 ·exact absurd hn h2
 ·exact .inr (.inl h2)
 ·exact .inr (.inr h2)
theorem DrawR.mono{g g':Gam}(hg:g.le g'){tmps:List AV}{vs:Array Value}{ops:Array Oper}{l:List AOper}{D rest:List Nat}(h:DrawR P G g tmps vs ops l D rest):DrawR P G g' tmps vs ops l D rest:=
 ⟨h.isOps,h.sched,h.names,h.lt,h.exe,h.flt,h.done,h.len,fun t ht=>(h.tm t ht).mono hg,h.stat,h.inj⟩
theorem DrawR.reads{g:Gam}{tmps:List AV}{vs:Array Value}{ops:Array Oper}{l:List AOper}{D rest:List Nat}{i:Nat}(h:DrawR P G g tmps vs ops l D (i::rest)){t:Nat}(ht:t∈(opAt l i).reads) :
  VR g (tmps.getD t .undef) (vs.getD t undef):=by
 refine h.tm t fun j hj hr hd=>?_
 have hi:i<l.length:=h.sched.lt i (by simp);have hf:=h.flt j hj hr;rcases QbO h.names (h.lt j hj) hi hd (List.mem_append_right _ ht) with⟨h1,h2⟩|h1|⟨h1,_⟩
 ·exact h2 hf ht
 ·exact h.sched.head h1 hr
 ·rw[hf]at h1;cases h1
def Owed(l:List AOper)(tmps:List AV)(D rest:List Nat)(b:Nat):Prop:=∃j∈D,j∈rest∧Qb7 tmps (opAt l j)=some b
theorem DrawR.free{g:Gam}{tmps:List AV}{vs:Array Value}{ops:Array Oper}{l:List AOper}{D rest:List Nat}{i:Nat}(h:DrawR P G g tmps vs ops l D (i::rest)){t:Nat}(ht:t∈(opAt l i).reads) :
  ∀j∈D,j∈i::rest→(opAt l j).dst≠some t:=by
 intro j hj hr hd;have hi:i<l.length:=h.sched.lt i (by simp);have hf:=h.flt j hj hr;rcases QbO h.names (h.lt j hj) hi hd (List.mem_append_right _ ht) with⟨h1,h2⟩|h1|⟨h1,_⟩
 ·exact h2 hf ht
 ·exact h.sched.head h1 hr
 ·rw[hf]at h1;cases h1
open Classical in
def evOf(tmps:List AV)(l:List AOper)(D rest:List Nat):AOpd→AV
 | .const v=>v
 | .tmp t=>if ∃j∈D,j∈rest∧(opAt l j).dst=some t then .undef else tmps.getD t .undef
theorem Qi0{g:Gam}{tmps:List AV}{vs:Array Value}{ops:Array Oper}{l:List AOper}{D rest:List Nat}{i:Nat}(h:DrawR P G g tmps vs ops l D (i::rest)):∀x∈(opAt l i).act.opds,aev tmps x=evOf tmps l D (i::rest) x:=by
 intro x hx;cases x with
 |const v=>rfl
 |tmp t =>
  have ht:t∈(opAt l i).reads:=List.mem_append_right _ (List.mem_filterMap.2 ⟨.tmp t,hx,rfl⟩);have:¬ ∃j∈D,j∈i::rest∧(opAt l j).dst=some t:=fun⟨j,h1,h2,h3⟩=>h.free ht j h1 h2 h3
  simp only[aev,evOf,if_neg this]
theorem QdN{g:Gam}{tmps:List AV}{ops:Array Oper}{l:List AOper}{D rest:List Nat}(hG:GlobR G g){fr:Frame}(h:DrawR P G g tmps fr.tmps ops l D rest)
  (x:Operand)(ax:AOpd)(hx:Qaa G x=some ax):VR g (evOf tmps l D rest ax) (fr.eval x):=by
 cases x with
 |tmp t =>
  simp only[Qaa,oI]at hx;subst hx;simp only[evOf];split
  ·exact .undef _
  ·rename_i hn;exact h.tm t fun j h1 h2 h3=>hn ⟨j,h1,h2,h3⟩
 |const v =>
  simp only[Qaa]at hx;obtain⟨a,ha,rfl⟩:=oM hx;exact QfT 4 v a ha g
 |global n =>
  simp only[Qaa]at hx;obtain⟨a,ha,rfl⟩:=oM hx;exact hG n a ha
 |func f=>simp only[Qaa,oI]at hx;subst hx;exact .func f [] [] #[] #[] rfl rfl (fun i h1 _=>by simp at h1) (fun i h1 _=>by simp at h1)
theorem Qbl{ops:Array Oper}{o:Oper}{a:AOper}(h:Qcr P G ops o=some a):Qbu P G o.op=some a.act∧QcN ops o.guard=some a.guard∧a.dst=o.dst:=by
 unfold Qcr at h;split at h
 ·rename_i x gd h1 h2;cases h;exact⟨h1,h2,rfl⟩
 ·cases h
theorem QdO{op:Op}{a:AOp}(h:Qbu P G op=some (.op a)):QaD P G op=some a∧∀c,op≠.defer c:=by
 unfold Qbu at h;split at h
 ·split at h<;>cases h
 ·cases h
 ·split at h<;>cases h
 ·obtain⟨x,_,hx⟩:=oM h;cases hx
 ·rename_i hnd hnp;obtain⟨x,h1,h2⟩:=oM h;cases h2;refine⟨h1,fun c e=>?_⟩;subst e;simp[QaD]at h1
theorem Qcj{g:Gam}{tmps:List AV}{vs:Array Value}{ops:Array Oper}{o:Oper}{a:AOper}{b:Bool}(hc:QcN ops o.guard=some a.guard)(hlen:tmps.length=vs.size)
  (hr:∀t∈a.reads,VR g (tmps.getD t .undef) (vs.getD t undef))(hw:Qai tmps a=some b):Region.wanted o (yielded ops vs)=b:=by
 unfold Qai at hw;unfold Region.wanted;cases hg:o.guard with
 |none =>
  rw[hg]at hc;simp only[QcN,oI]at hc;rw[←hc]at hw;simpa using hw
 |some p =>
  obtain⟨j,want⟩:=p;rw[hg]at hc;simp only[QcN,Option.map_eq_some_iff]at hc;obtain⟨t,ht,hag⟩:=hc;rw[←hag]at hw;simp only at hw;have hrt:=hr t (by simp[AOper.reads,←hag]);show (yielded ops vs j == some want)=b;unfold yielded;rw[ht];simp only[Option.bind_some];split at hw
  ·rename_i b' hb;have hlt:t<tmps.length:=by
    rcases Nat.lt_or_ge t tmps.length with h|h
    ·exact h
    ·rw[List.getElem?_eq_none h]at hb;cases hb
   have h2:t<vs.size:=by omega
   rw[gE hlt]at hb;simp only[List.getD_eq_getElem?_getD,gE hlt,Option.getD_some,Array.getD_eq_getD_getElem?,Array.getElem?_eq_getElem h2]at hrt;rw[oI]at hb;rw[hb]at hrt;have:=hrt.bool_eq;rw[Array.getElem?_eq_getElem h2,this];simp only[oI]at hw;rw[←hw];cases b'<;>cases want<;>rfl
  ·rename_i hb;have hlt:t<tmps.length:=by
    rcases Nat.lt_or_ge t tmps.length with h|h
    ·exact h
    ·rw[List.getElem?_eq_none h]at hb;cases hb
   have h2:t<vs.size:=by omega
   rw[gE hlt]at hb;simp only[List.getD_eq_getElem?_getD,gE hlt,Option.getD_some,Array.getD_eq_getD_getElem?,Array.getElem?_eq_getElem h2]at hrt;rw[oI]at hb;rw[hb]at hrt;obtain⟨vs',hvs⟩:∃vs',vs[t]=.tuple vs':=by
    generalize vs[t]=z at hrt;cases hrt;exact⟨_,rfl⟩
   rw[Array.getElem?_eq_getElem h2,hvs];simp only[oI]at hw;rw[←hw];cases want<;>rfl
  ·cases hw
theorem Qay{fr:Frame}{ops:Array Oper}{i:Nat}{rest:List Nat}{k:List Item}{o:Oper}(ht:fr.todo=.inRegion ops (i::rest)::k)(ho:ops[i]? = some o)(v:Value) :
  fr.finish v={fr with tmps:=(match o.dst with|some d=>fr.tmps.setIfInBounds d v|none=>fr.tmps),todo:=.inRegion ops rest::k}:=by
 unfold Frame.finish;simp only[ht,ho,Option.bind_some];cases o.dst<;>rfl
theorem HeadR.of_same{g:Gam}{af af':AF}{fr fr':Frame}(h:HeadR P g af fr)(h1:fr'.fn=fr.fn)(h2:fr'.defers=fr.defers)(h3:fr'.mode=fr.mode)(h4:fr'.kind=fr.kind)(h5:fr'.roundOf=fr.roundOf)
  (k1:af'.fn=af.fn)(k2:af'.defers=af.defers)(k3:af'.mode=af.mode)(k4:af'.kind=af.kind)(k5:af'.roundOf=af.roundOf):HeadR P g af' fr':=
 ⟨by rw[h1,k1];exact h.fn,by rw[h1];exact h.func,by rw[h2,k2];exact h.defers,by rw[h3,k3];exact h.mode,by rw[h4,k4];exact h.kind,by rw[h5,k5];exact h.round⟩
theorem DrawR.settle{g g':Gam}{tmps:List AV}{vs:Array Value}{ops:Array Oper}{l:List AOper}{D rest:List Nat}{i:Nat}(h:DrawR P G g tmps vs ops l D (i::rest))(hg:g.le g')(hi:i∈D){v:AV}{u:Value}(hv:VR g' v u)
  (hd:∀d,(opAt l i).dst=some d→d<tmps.length→tmps.getD d .undef=v):DrawR P G g' tmps (match (opAt l i).dst with|some d=>vs.setIfInBounds d u|none=>vs) ops l D rest:=by
 refine⟨h.isOps,h.sched.tail,h.names,h.lt,fun j hj hr=>?_,fun j hj hr=>h.flt j hj (List.mem_cons_of_mem _ hr),h.done,?_,fun t ht=>?_,fun j hj hr=>h.stat j hj (List.mem_cons_of_mem _ hr),
  fun j hj hr j' hj' hr'=>h.inj j hj (List.mem_cons_of_mem _ hr) j' hj' (List.mem_cons_of_mem _ hr')⟩
 ·by_cases e:j=i
  ·rw[e];exact hi
  ·exact h.exe j hj fun hm=>(List.mem_cons.1 hm).elim e hr
 ·rw[h.len];cases (opAt l i).dst<;>simp
 ·by_cases hdi:(opAt l i).dst=some t
  ·rw[hdi];simp only;by_cases hlt:t<vs.size
   ·rw[hd t hdi (by rw[h.len];exact hlt)];simp[Array.getD_eq_getD_getElem?,Array.getElem?_setIfInBounds,hlt];exact hv
   ·rw[List.getD_eq_getElem?_getD,List.getElem?_eq_none (by rw[h.len];omega)];exact .undef _
  ·have h1:=(h.tm t fun j hj hr=>by
    rcases List.mem_cons.1 hr with rfl|hr
    ·exact hdi
    ·exact ht j hj hr).mono hg
   cases hdd:(opAt l i).dst with
   |none=>exact h1
   |some d =>
    have hne:d≠t:=fun e=>hdi (by rw[hdd,e])
    simpa[Array.getD_eq_getD_getElem?,Array.getElem?_setIfInBounds,hne] using h1
theorem Qoo{CR:AC→Code→Prop}{B:Nat}{w0:World}{g:Gam}{h:AH}{w:World}{af:AF}{fr:Frame}{cs:List Frame}{k:List Item}{ops:Array Oper}{l:List AOper}{D rest:List Nat}{i:Nat}{q:Nat→Prop}
  (hd:HeadR P g af fr)(hm:fr.mode=.run)(ht:fr.todo=.inRegion ops (i::rest)::k)(hD:DrawR P G g af.tmps fr.tmps ops l D (i::rest))(hi:i∈D)
  (dyn:∀j∈D,j∈i::rest→PendD af.tmps h (opAt l j))(hG:GlobR G g)(H:HR CR B ⟨w0,fun x=>Owed l af.tmps D (i::rest) x∨q x⟩ g h w)(hq:∀x,Owed l af.tmps D (i::rest) x→¬q x) :
  ∃g' fr' w',step P (lone fr cs w)=.next (lone fr' cs w')∧fr'.todo=.inRegion ops rest::k∧fr'.mode=.run∧HeadR P g' af fr'∧DrawR P G g' af.tmps fr'.tmps ops l D rest∧g.le g' ∧
   HR CR B ⟨w0,fun x=>Owed l af.tmps D rest x∨q x⟩ g' h w':=by
 have hil:i<l.length:=hD.sched.lt i (by simp);obtain⟨o,ho,hc⟩:=hD.isOps.get hil;obtain⟨hact,hgd,hdst⟩:=Qbl hc;have hwant:∀b,Qai af.tmps (opAt l i)=some b→Region.wanted o (yielded ops fr.tmps)=b:=fun b hb=>Qcj hgd hD.len (fun t ht=>hD.reads ht) hb
 have howed:∀x,Owed l af.tmps D rest x→Owed l af.tmps D (i::rest) x:=fun x ⟨j,h1,h2,h3⟩=>⟨j,h1,List.mem_cons_of_mem _ h2,h3⟩
 have hnot:i ∉ rest:=(List.nodup_cons.1 hD.sched.nodup).1;have fin:∀(g':Gam) (w':World) (u:Value) (v:AV),g.le g'→step P (lone fr cs w)=.next (lone (fr.finish u) cs w')→VR g' v u→(∀d,(opAt l i).dst=some d→d<af.tmps.length→af.tmps.getD d .undef=v) →
   HR CR B ⟨w0,fun x=>Owed l af.tmps D rest x∨q x⟩ g' h w' →
   ∃g' fr' w',step P (lone fr cs w)=.next (lone fr' cs w')∧fr'.todo=.inRegion ops rest::k∧fr'.mode=.run∧HeadR P g' af fr'∧DrawR P G g' af.tmps fr'.tmps ops l D rest∧g.le g' ∧
    HR CR B ⟨w0,fun x=>Owed l af.tmps D rest x∨q x⟩ g' h w':=by
  intro g' w' u v hle hstep hv hdv H';refine⟨g',fr.finish u,w',hstep,?_,?_,?_,?_,hle,H'⟩
  ·rw[Qay ht ho]
  ·rw[Qay ht ho];exact hm
  ·rw[Qay ht ho];exact(hd.mono hle).of_same rfl rfl rfl rfl rfl rfl rfl rfl rfl rfl
  ·have:=hD.settle hle hi hv hdv;rw[Qay ht ho];rw[hdst]at this;exact this
 have hpd:=dyn i hi (by simp);cases hpd with
 |skip hw hdv =>
  exact fin g w undef (.tuple []) g.le_refl (go_op_skip hm ht ho (hwant _ hw)) (VRs.nil g).tuple hdv (H.weaken fun x hx=>hx.imp (howed x) id)
 |quiet a v hw ha hq' he hdv =>
  rw[ha]at hact;obtain⟨hop,hnd⟩:=QdO hact;have he':exec h (evOf af.tmps l D (i::rest)) a=some (v,h):=by
   rw[←Qa6 a (fun x hx=>Qi0 hD x (by rw[ha];exact hx))];exact he
  obtain⟨g',w',u,hrun,H',hle,hv⟩:=QdK o.op CR B _ g h h w fr.eval _ a v o H (QdN hG hD) (fun v=>rfl) hop he' rfl;have hstep:step P (lone fr cs w)=.next (lone (fr.finish u) cs w'):=by
   rcases hrun with hrun|⟨hrun,rfl⟩
   ·exact go_value hm ht ho (hwant _ hw) (.inr hnd) hrun
   ·exact go_unit hm ht ho (hwant _ hw) (.inr hnd) hrun
  exact fin g' w' u v hle hstep hv hdv (H'.weaken fun x hx=>hx.imp (howed x) id)
 |makes a mk ob d b hw ha hmm hmk hpl hex hdd hv hgt =>
  rw[ha]at hact;obtain⟨hop,hnd⟩:=QdO hact;have hpb:Qb7 af.tmps (opAt l i)=some b:=by
   unfold Qb7;simp only[hw,ha,hmm,if_true,hdd,Option.bind_some,hv];exact hmk.1 b
  have hown:Owed l af.tmps D (i::rest) b:=⟨i,hi,by simp,hpb⟩
  obtain⟨hb1,hb2⟩:=H.held b (.inl hown);have hex':∀h':AH,exec h' (evOf af.tmps l D (i::rest)) a=some (mk h'.next,h'.alloc ob):=fun h'=>by
   rw[←Qa6 a (fun x hx=>Qi0 hD x (by rw[ha];exact hx))];exact hex h'
  obtain⟨g',w',u,hrun,H',hle,hvu,_⟩:=H.realize hb1 hb2 hmk hpl hgt hex' (QdK o.op) (QdN hG hD) (fun v=>rfl) hop rfl;have hstep:step P (lone fr cs w)=.next (lone (fr.finish u) cs w'):=by
   rcases hrun with hrun|⟨hrun,rfl⟩
   ·exact go_value hm ht ho (hwant _ hw) (.inr hnd) hrun
   ·exact go_unit hm ht ho (hwant _ hw) (.inr hnd) hrun
  refine fin g' w' u (mk b) hle hstep hvu (fun d' hd' _=>by rw[hdd]at hd';cases hd';exact hv) (H'.weaken fun x hx=>⟨hx.imp (howed x) id,fun e=>?_⟩);subst e;rcases hx with⟨j,h1,h2,h3⟩|hx
  ·have:=hD.inj i hi (by simp) j h1 (List.mem_cons_of_mem _ h2) x hpb h3;exact hnot (by rw[this];exact h2)
  ·exact hq x hown hx
theorem Qb4{CR:AC→Code→Prop}{B:Nat}{w0:World}{h:AH}{af:AF}{cs:List Frame}{k:List Item}{ops:Array Oper}{l:List AOper}{D:List Nat}{q:Nat→Prop}{post:List Nat} :
  ∀(pre:List Nat){g:Gam}{w:World}{fr:Frame},HeadR P g af fr→fr.mode=.run→fr.todo=.inRegion ops (pre++post)::k→DrawR P G g af.tmps fr.tmps ops l D (pre++post)→(∀i∈pre,i∈D) →
  (∀j∈D,j∈pre++post→PendD af.tmps h (opAt l j))→GlobR G g→HR CR B ⟨w0,fun x=>Owed l af.tmps D (pre++post) x∨q x⟩ g h w→(∀x,Owed l af.tmps D (pre++post) x→¬q x) →
  ∃g' fr' w',Steps P (lone fr cs w) (lone fr' cs w')∧fr'.todo=.inRegion ops post::k∧fr'.mode=.run∧HeadR P g' af fr'∧DrawR P G g' af.tmps fr'.tmps ops l D post∧g.le g' ∧
   HR CR B ⟨w0,fun x=>Owed l af.tmps D post x∨q x⟩ g' h w'
 | [],g,w,fr,hd,hm,ht,hD,hi,dyn,hG,H,hq=>⟨g,fr,w,Steps.refl _ _,ht,hm,hd,hD,g.le_refl,H⟩
 |i::pre,g,w,fr,hd,hm,ht,hD,hi,dyn,hG,H,hq=>by
  obtain⟨g1,fr1,w1,hs,ht1,hm1,hd1,hD1,hle1,H1⟩:=Qoo (cs:=cs) hd hm ht hD (hi i (by simp)) dyn hG H hq;obtain⟨g2,fr2,w2,hs2,ht2,hm2,hd2,hD2,hle2,H2⟩:=Qb4 pre hd1 hm1 ht1 hD1 (fun j hj=>hi j (List.mem_cons_of_mem _ hj)) (fun j hj hr=>dyn j hj (List.mem_cons_of_mem _ hr)) (hG.mono hle1) H1
   (fun x ⟨j,h1,h2,h3⟩=>hq x ⟨j,h1,List.mem_cons_of_mem _ h2,h3⟩)
  exact⟨g2,fr2,w2,Steps.head hs hs2,ht2,hm2,hd2,hD2,Gam.le_trans hle1 hle2,H2⟩
theorem Qeo{bs:List Nat}:∀(ist:List IStage)(m:Nat),Qd1 bs (some m) ist=true→∀i∈ist.flatMap IStage.all,∃m',(m'=m∨m'∈ist.flatMap IStage.all)∧bit bs i m'=true
 | [],_,_,i,hi=>by simp at hi
 |st::r,m,h,i,hi=>by
  simp only[Qd1,Bool.and_eq_true,Bool.or_eq_true,List.all_eq_true]at h;obtain⟨⟨h1,h2⟩,h3⟩:=h;simp only[List.flatMap_cons,List.mem_append]at hi ⊢;rcases hi with hi|hi
  ·exact⟨m,.inl rfl,h1 i hi⟩
  ·cases hm:st.main with
   |none =>
    rw[hm]at h2;simp only[Option.isSome_none,Bool.false_eq_true,false_or,List.isEmpty_iff]at h2;rw[h2]at hi;simp at hi
   |some m2 =>
    rw[hm]at h3;obtain⟨m',h4,h5⟩:=Qeo r m2 h3 i hi;refine⟨m',.inr ?_,h5⟩;rcases h4 with rfl|h4
    ·exact .inl (by simp[IStage.all,hm])
    ·exact .inr h4
theorem QmX{g:Gam}{tmps:List AV}{vs:Array Value}{ops:Array Oper}{l:List AOper}{D rest:List Nat}{m:Nat}{ist:List IStage}{tl:List Nat}(hD:DrawR P G g tmps vs ops l D rest)
  (ho:OrdR l.length (bsOps ops) (D++m::(ist.flatMap IStage.all++tl)))(hs:Qd1 (bsOps ops) (some m) ist=true)(htl:∀i∈tl,bit (bsOps ops) i m=true):∃pre post,rest=pre++m::post∧∀i∈pre,i∈D:=by
 have hmD:∀x,x∈m::(ist.flatMap IStage.all++tl)→x ∉ D:=fun x hx hx'=>(List.nodup_append.1 ho.nodup).2.2 x hx' x hx rfl
 have hin:∀x,x∈m::(ist.flatMap IStage.all++tl)→x∈rest:=fun x hx=>by
  by_cases h:x∈rest
  ·exact h
  ·exact absurd (hD.exe x (ho.lt x (List.mem_append_right _ hx)) h) (hmD x hx)
 obtain⟨pre,post,he⟩:=List.append_of_mem (hin m (by simp));refine⟨pre,post,he,?_⟩;have key:∀(n:Nat) (p1:List Nat) (i:Nat) (p2:List Nat),p1.length=n→rest=p1++i::p2→m∈p2→i∈D:=by
  intro n
  induction n using Nat.strongRecOn with
  |ind n ih =>
   intro p1 i p2 hn hr hm;have hnd:=hD.sched.nodup;rw[hr]at hnd;have hne:i≠m:=fun e=>by
    have:=(List.nodup_cons.1 (List.nodup_append.1 hnd).2.1).1;rw[e]at this;exact this hm
   have hiL:=ho.all i (hD.sched.lt i (by rw[hr];simp));rcases List.mem_append.1 hiL with h|h
   ·exact h
   ·have hlat:i∈ist.flatMap IStage.all++tl:=(List.mem_cons.1 h).resolve_left hne;obtain⟨m',hm'2,hb⟩:∃m',m'∈m::(ist.flatMap IStage.all++tl)∧bit (bsOps ops) i m'=true:=by
     rcases List.mem_append.1 hlat with hlat|hlat
     ·obtain⟨m',hm',hb⟩:=Qeo ist m hs i hlat;refine⟨m',?_,hb⟩;rcases hm' with rfl|hm'
      ·exact List.mem_cons_self
      ·exact List.mem_cons_of_mem _ (List.mem_append_left _ hm')
     ·exact⟨m,List.mem_cons_self,htl i hlat⟩
    have h1:=hin m' hm'2;have h2:=hD.sched.ord p1 i p2 hr m' hb;rw[hr]at h1;rcases List.mem_append.1 h1 with h1|h1
    ·obtain⟨a,b,rfl⟩:=List.append_of_mem h1;have:=ih a.length (by rw[←hn];simp) a m' (b++i::p2) rfl (by rw[hr];simp) (by simp[hm]);exact absurd this (hmD m' hm'2)
    ·exact absurd h1 h2
 intro i hi;obtain⟨p1,p2,rfl⟩:=List.append_of_mem hi;exact key p1.length p1 i (p2++m::post) rfl (by rw[he];simp) (by simp)
end
end Go.Ab
namespace Go.Ab
open Go
section
variable{P:Program}{fr c:Frame}{cs:List Frame}{w w':World}
theorem go_return{fn:Func}{v:Value}(hm:fr.mode=.returning)(hd:fr.defers=[])(hk:fr.kind=.normal)(hf:P.funcs[fr.fn]? = some fn)
  (hr:(results fn fr.tmps).run P w=.ok v w'):step P (lone fr (c::cs) w)=.next (lone (c.finish v) cs w'):=
 step_lone_go (by simp[stepG,unwind,doReturn,hm,hd,hk,hf,hr])
theorem go_return_deferred {fn : Func} {v : Value} (hm : fr.mode = .returning) (hd : fr.defers = []) (hk : fr.kind = .deferred) (hf : P.funcs[fr.fn]? = some fn)
    (hr:(results fn fr.tmps).run P w=.ok v w')(hc:∀v older,c.mode≠.panicking ({v,recovered:=true}::older))(hc':∀v older,c.mode≠.panicking ({v,recovered:=true,goexit:=true}::older)) :
    step P (lone fr (c::cs) w)=.next (lone c cs w'):=by
  refine step_lone_go ?_;have hno : (match c.mode with
        | .panicking ({recovered:=true,..}::older) =>
          match older.dropWhile (!·.goexit) with
          | []=>{c with mode:=.returning}
          |rest=>{c with mode:=.panicking rest}
        |_=>c)=c:=by
    split
    · rename_i v g older he;cases g
      · exact absurd he (hc _ _)
      · exact absurd he (hc' _ _)
    · rfl
  simp only[stepG,unwind,doReturn,hm,hd,hk,hf];simp[hr];exact hno
theorem go_raise{fn:Func}{chain:List PanicEntry}(hm:fr.mode=.panicking chain)(hd:fr.defers=[])(hf:P.funcs[fr.fn]? = some fn) :
  step P (lone fr (c::cs) w)=.next (lone (c.raise chain) cs w):=
 step_lone_go (by simp[stepG,unwind,Frame.catches,hm,hd,hf])
end
end Go.Ab
namespace Go.Ab
open Go
section
variable{P:Program}{fr c:Frame}{cs:List Frame}{w w':World}{k:List Item}
theorem go_collected{b:Nat}{args:Array Value}{ds calls:List Deferred}(hm:fr.mode≠.run)(hd:fr.defers={target:=.collected b,args}::ds)
  (hr:(Instr.takeDeferred b).run P w=.ok calls w'):step P (lone fr cs w)=.next (lone {fr with defers:=calls++ds} cs w'):=by
 refine step_lone_go ?_;cases hmode:fr.mode with
 |run=>exact absurd hmode hm
 |returning=>simp[stepG,unwind,hmode,hd,hr]
 |panicking chain=>simp[stepG,unwind,hmode,hd,hr]
theorem go_endRangeFunc{l:Nat}{jump:Option Code}(hm:fr.mode=.run)(ht:fr.todo=.endRangeFunc l::k)(hr:(Instr.endLoop l).run P w=.ok jump w') :
  step P (lone fr cs w)=.next (lone {fr with todo:=(jump.map Item.code).toList++k} cs w'):=
 step_lone_go (by simp[stepG,stepG.exec,hm,ht,hr])
theorem go_endRound_ret{l:Nat}{v:Value}(hm:fr.mode=.run)(ht:fr.todo=.code .ret::k)(hl:fr.roundOf=some l)(hk:fr.kind=.normal)
  (hr:(Instr.endRound l (some .ret)).run P w=.ok v w'):step P (lone fr (c::cs) w)=.next (lone (c.finish v) cs w'):=
 step_lone_go (by simp[stepG,stepG.exec,hm,ht,hl,hr,doReturn,hk])
theorem go_endRound{l:Nat}{v:Value}(hm:fr.mode=.run)(ht:fr.todo=[])(hl:fr.roundOf=some l)(hk:fr.kind=.normal)
  (hr:(Instr.endRound l none).run P w=.ok v w'):step P (lone fr (c::cs) w)=.next (lone (c.finish v) cs w'):=
 step_lone_go (by simp[stepG,stepG.exec,hm,ht,hl,hr,doReturn,hk])
theorem go_endRound_exit{l id:Nat}{v:Value}(hm:fr.mode=.run)(ht:fr.todo=.code (.exit id)::k)(he:exitTo id k=none)(hl:fr.roundOf=some l)(hk:fr.kind=.normal)
  (hr:(Instr.endRound l (some (.exit id))).run P w=.ok v w'):step P (lone fr (c::cs) w)=.next (lone (c.finish v) cs w'):=
 step_lone_go (by simp[stepG,stepG.exec,hm,ht,hl,hr,doReturn,hk,he])
theorem go_endRound_goto{l id:Nat}{v:Value}(hm:fr.mode=.run)(ht:fr.todo=.code (.goto id)::k)(he:gotoIn id k=none)(hl:fr.roundOf=some l)(hk:fr.kind=.normal)
  (hr:(Instr.endRound l (some (.goto id))).run P w=.ok v w'):step P (lone fr (c::cs) w)=.next (lone (c.finish v) cs w'):=
 step_lone_go (by simp[stepG,stepG.exec,hm,ht,hl,hr,doReturn,hk,he])
theorem go_beginRound{l:Nat}(hm:fr.mode=.run)(ht:fr.todo=.beginRound::k)(hl:fr.roundOf=some l)
  (hr:(Instr.beginRound l).run P w=.ok () w'):step P (lone fr cs w)=.next (lone {fr with todo:=k} cs w'):=
 step_lone_go (by simp[stepG,stepG.exec,hm,ht,hl,hr,stepG.apply,Sem.run_bind,Frame.finish])
end
end Go.Ab
namespace Go.Ab
open Go
section
variable(P:Program)(G:Nat→Option (List AV))
structure PlanR (l:List AOper)(bs:List Nat)(D:List Nat)(m:Option Nat)(fs:List Nat)(ist:List IStage)(tl:List Nat):Prop where
 ord:OrdR l.length bs (D++(ist.flatMap IStage.all++tl))
 stg:Qd1 bs m ist=true
 kind:kindOk l ist=true
 fs:∀j∈D,isF l j=true→j∈fs
 tlm:∀i∈tl,∀x,m=some x→bit bs i x=true
 tli:∀i∈tl,∀st∈ist,∀x,st.main=some x→bit bs i x=true
 tlk:Qfk l bs tl=true
inductive SuspR (g:Gam):(Nat→Prop)→AF→Frame→Prop
 |region (af:AF)(fr:Frame)(l:List AOper)(ops:Array Oper)(i:Nat)(idx:List Nat)(ak:List AItem)(k:List Item)(hd:HeadR P g af fr)(hm:af.mode=.run)(ht:VRs g af.tmps fr.tmps.toList)
   (ha:af.todo=.inRegion (opAt l i::idx.map (opAt l))::ak)(hf:fr.todo=.inRegion ops (i::idx)::k)(ho:OpsR P G l ops)(hlt:∀j∈i::idx,j<l.length)(hk:ItemsR P G g ak k):SuspR g (fun _=>False) af fr
 |main (af:AF)(fr:Frame)(l:List AOper)(ops:Array Oper)(m:Nat)(rest D fs tl:List Nat)(ist:List IStage)(ag:List AOper)(mask:List Nat)(ak:List AItem)(k:List Item)(hd:HeadR P g af fr)(hm:af.mode=.run)
   (hD:DrawR P G g af.tmps fr.tmps ops l D (m::rest))(hp:PlanR l (bsOps ops) (D++[m]) (some m) fs ist tl)(hmf:isF l m=false)
   (ha:af.todo=.inMain (opAt l m) ag mask (Qbo l (bsOps ops) ist fs)::.ends (tl.map (opAt l))::ak)(hf:fr.todo=.inRegion ops (m::rest)::k)
   (hag:ag=((Qev (bsOps ops) fs m).map (opAt l)).filter (·.act.looked))(hmask:mask=((Qev (bsOps ops) fs m).map (opAt l)).filterMap (·.dst))(hk:ItemsR P G g ak k) :
   SuspR g (Owed l af.tmps D (m::rest)) af fr
 |rangeFunc (af:AF)(fr:Frame)(x β:Nat)(ak:List AItem)(k:List Item)(hd:HeadR P g af fr)(hm:af.mode=.run)(ht:VRs g af.tmps fr.tmps.toList)
   (ha:af.todo=.inRangeFunc x::ak)(hf:fr.todo=.inRangeFunc β::k)(hx:g.rho x=some (β,0))(hk:ItemsR P G g ak k):SuspR g (fun _=>False) af fr
 |left (af:AF)(fr:Frame)(hd:HeadR P g af fr)(hm:af.mode≠.run)(ht:VRs g af.tmps fr.tmps.toList):SuspR g (fun _=>False) af fr
inductive CurR (g:Gam)(h:AH):(Nat→Prop)→AF→Frame→Prop
 |plain (af:AF)(fr:Frame)(hd:HeadR P g af fr)(hm:af.mode=.run)(ht:VRs g af.tmps fr.tmps.toList)(hk:ItemsR P G g af.todo fr.todo):CurR g h (fun _=>False) af fr
 |left (af:AF)(fr:Frame)(hd:HeadR P g af fr)(hm:af.mode≠.run)(ht:VRs g af.tmps fr.tmps.toList):CurR g h (fun _=>False) af fr
 |rest (af:AF)(fr:Frame)(l:List AOper)(ops:Array Oper)(rest D fs tl:List Nat)(m:Option Nat)(ist:List IStage)(ak:List AItem)(k:List Item)(hd:HeadR P g af fr)(hm:af.mode=.run)
   (hD:DrawR P G g af.tmps fr.tmps ops l D rest)(dyn:∀j∈D,j∈rest→PendD af.tmps h (opAt l j))(hp:PlanR l (bsOps ops) D m fs ist tl)
   (ha:af.todo=.drawRest (Qbo l (bsOps ops) ist fs)::.ends (tl.map (opAt l))::ak)(hf:fr.todo=.inRegion ops rest::k)(hk:ItemsR P G g ak k):CurR g h (Owed l af.tmps D rest) af fr
 |draw (af:AF)(fr:Frame)(l:List AOper)(ops:Array Oper)(rest D fs tl:List Nat)(js:List Nat)(m:Option Nat)(ist:List IStage)(ag:List AOper)(mask:List Nat)(ak:List AItem)(k:List Item)(hd:HeadR P g af fr)(hm:af.mode=.run)
   (hD:DrawR P G g af.tmps fr.tmps ops l D rest)(dyn:∀j∈D,j∈rest→PendD af.tmps h (opAt l j))(hp:PlanR l (bsOps ops) (D++(js++m.toList)) m fs ist tl)(hjs:∀j∈js,isF l j=true)(hmf:∀x,m=some x→isF l x=false)
   (hml:m=none→ist=[])(ha:af.todo=.inDraw (js.map (opAt l)) (m.map (opAt l)) ag mask (Qbo l (bsOps ops) ist fs)::.ends (tl.map (opAt l))::ak)(hf:fr.todo=.inRegion ops rest::k)
   (hag:∀x,m=some x→ag=((Qev (bsOps ops) fs x).map (opAt l)).filter (·.act.looked))(hmask:∀x,m=some x→mask=((Qev (bsOps ops) fs x).map (opAt l)).filterMap (·.dst))(hk:ItemsR P G g ak k) :
   CurR g h (Owed l af.tmps D rest) af fr
 |main (af:AF)(fr:Frame)(l:List AOper)(ops:Array Oper)(m:Nat)(rest D fs tl:List Nat)(ist:List IStage)(ag:List AOper)(mask:List Nat)(ak:List AItem)(k:List Item)(hd:HeadR P g af fr)(hm:af.mode=.run)
   (hD:DrawR P G g af.tmps fr.tmps ops l D rest)(dyn:∀j∈D,j∈rest→PendD af.tmps h (opAt l j))(hp:PlanR l (bsOps ops) (D++[m]) (some m) fs ist tl)(hmf:isF l m=false)
   (ha:af.todo=.inMain (opAt l m) ag mask (Qbo l (bsOps ops) ist fs)::.ends (tl.map (opAt l))::ak)(hf:fr.todo=.inRegion ops rest::k)
   (hag:ag=((Qev (bsOps ops) fs m).map (opAt l)).filter (·.act.looked))(hmask:mask=((Qev (bsOps ops) fs m).map (opAt l)).filterMap (·.dst))(hk:ItemsR P G g ak k) :
   CurR g h (Owed l af.tmps D rest) af fr
 |ends (af:AF)(fr:Frame)(l:List AOper)(ops:Array Oper)(rest D tl:List Nat)(ak:List AItem)(k:List Item)(hd:HeadR P g af fr)(hm:af.mode=.run)
   (hD:DrawR P G g af.tmps fr.tmps ops l D rest)(dyn:∀j∈D,j∈rest→PendD af.tmps h (opAt l j))(ho:OrdR l.length (bsOps ops) (D++tl))(htl:Qfk l (bsOps ops) tl=true)
   (ha:af.todo=.ends (tl.map (opAt l))::ak)(hf:fr.todo=.inRegion ops rest::k)(hk:ItemsR P G g ak k):CurR g h (Owed l af.tmps D rest) af fr
inductive StackR (C:List Frame)(g:Gam):(Nat→Prop)→List AF→List Frame→Prop
 |nil:StackR C g (fun _=>False) [] C
 |cons {p q:Nat→Prop}{af:AF}{fr:Frame}{acs:List AF}{cs:List Frame}(h:SuspR P G g p af fr)(t:StackR C g q acs cs)(hpq:∀x,p x→¬q x):StackR C g (fun x=>p x∨q x) (af::acs) (fr::cs)
def StR(C:List Frame)(B:Nat)(w0:World)(s:AS)(m:Machine):Prop:=
 ∃(g:Gam) (p q:Nat→Prop) (fr:Frame) (cs:List Frame) (w:World),m=lone fr cs w∧CurR P G g s.h p s.fr fr∧StackR P G C g q s.cs cs∧(∀x,p x→¬q x)∧HR (CodeR P G) B ⟨w0,fun x=>p x∨q x⟩ g s.h w∧GlobR G g
variable{P G}{C:List Frame}
theorem SuspR.mono{g g':Gam}(hg:g.le g'){p:Nat→Prop}{af:AF}{fr:Frame}(h:SuspR P G g p af fr):SuspR P G g' p af fr:=by
 cases h with
 |region _ _ l ops i idx ak k hd hm ht ha hf ho hlt hk=>exact .region _ _ l ops i idx ak k (hd.mono hg) hm (ht.mono hg) ha hf ho hlt (hk.mono hg)
 |main _ _ l ops m rest D fs tl ist ag mask ak k hd hm hD hp hmf ha hf hag hmask hk=>exact .main _ _ l ops m rest D fs tl ist ag mask ak k (hd.mono hg) hm (hD.mono hg) hp hmf ha hf hag hmask (hk.mono hg)
 |rangeFunc _ _ x β ak k hd hm ht ha hf hx hk=>exact .rangeFunc _ _ x β ak k (hd.mono hg) hm (ht.mono hg) ha hf (hg.rho _ _ hx) (hk.mono hg)
 |left _ _ hd hm ht=>exact .left _ _ (hd.mono hg) hm (ht.mono hg)
theorem StackR.mono{g g':Gam}(hg:g.le g'){q:Nat→Prop}{acs:List AF}{cs:List Frame}(h:StackR P G C g q acs cs):StackR P G C g' q acs cs:=by
 induction h with
 |nil=>exact .nil
 |cons h _ hpq ih=>exact .cons (h.mono hg) ih hpq
theorem QcD{tmps:List AV}{dst:Option Nat}{v:AV}{t:Nat}(h:dst≠some t):(setDst tmps dst v)[t]? = tmps[t]?:=by
 cases dst with
 |none=>rfl
 |some d =>
  have:d≠t:=fun e=>h (by rw[e])
  simp[setDst,List.getElem?_set,this]
theorem QcC(tmps:List AV)(dst:Option Nat)(v:AV):(setDst tmps dst v).length=tmps.length:=by
 cases dst<;>simp[setDst]
theorem VRs.setDst{g:Gam}{tmps:List AV}{vs:Array Value}{v:AV}{u:Value}{dst:Option Nat}(h:VRs g tmps vs.toList)(hv:VR g v u) :
  VRs g (setDst tmps dst v) (match dst with|some d=>vs.setIfInBounds d u|none=>vs).toList:=by
 cases dst with
 |none=>exact h
 |some d=>simpa[Go.Ab.setDst] using h.set d hv
theorem VRs.ofGetD{g:Gam}{tmps:List AV}{vs:Array Value}(hl:tmps.length=vs.size)(h:∀t,VR g (tmps.getD t .undef) (vs.getD t undef)):VRs g tmps vs.toList:=by
 refine⟨by simpa using hl,fun i h1 h2=>?_⟩;have h3:i<vs.size:=by simpa using h2
 have:=h i;simpa[List.getD_eq_getElem?_getD,h1,Array.getD_eq_getD_getElem?,h3] using this
theorem DrawR.mainNames{g:Gam}{tmps:List AV}{vs:Array Value}{ops:Array Oper}{l:List AOper}{D rest:List Nat}{m:Nat}(h:DrawR P G g tmps vs ops l D (m::rest))(hmD:m ∉ D){t:Nat}(hd:(opAt l m).dst=some t)
  {j:Nat}(hj:j∈D)(hr:j∈rest):t ∉ (opAt l j).names:=by
 intro hn;have hm:m<l.length:=h.sched.lt m (by simp);rcases QbO h.names hm (h.lt j hj) hd hn with⟨h1,_⟩|h1|⟨_,h1⟩
 ·exact hmD (h1 ▸ hj)
 ·exact hmD (h.done j hj m h1)
 ·exact h.sched.head h1 (List.mem_cons_of_mem _ hr)
theorem DrawR.mainDone{g g':Gam}{tmps:List AV}{vs:Array Value}{ops:Array Oper}{l:List AOper}{D rest:List Nat}{m:Nat}(h:DrawR P G g tmps vs ops l D (m::rest))(hg:g.le g')(hmD:m ∉ D)(hbits:∀i,bit (bsOps ops) m i=true→i∈D)
  {v:AV}{u:Value}(hv:VR g' v u) :
  DrawR P G g' (setDst tmps (opAt l m).dst v) (match (opAt l m).dst with|some d=>vs.setIfInBounds d u|none=>vs) ops l (D++[m]) rest ∧
   (∀j∈D,j∈rest→∀t∈(opAt l j).names,tmps[t]? = (setDst tmps (opAt l m).dst v)[t]?):=by
 have hnm:m ∉ rest:=(List.nodup_cons.1 h.sched.nodup).1;have hnames:∀j∈D,j∈rest→∀t∈(opAt l j).names,tmps[t]? = (setDst tmps (opAt l m).dst v)[t]?:=fun j hj hr t ht =>
  (QcD fun e=>h.mainNames hmD e hj hr ht).symm
 have hin:∀j∈D++[m],j∈rest→j∈D:=fun j hj hr=>by
  rcases List.mem_append.1 hj with hj|hj
  ·exact hj
  ·rw[List.mem_singleton.1 hj]at hr;exact absurd hr hnm
 refine⟨⟨h.isOps,h.sched.tail,h.names,fun j hj=>?_,fun i hi hr=>?_,fun j hj hr=>h.flt j (hin j hj hr) (List.mem_cons_of_mem _ hr),fun j hj i hb=>?_,?_,fun t ht=>?_,fun j hj hr=>?_,fun j hj hr j' hj' hr' b hb hb'=>?_⟩,hnames⟩
 ·rcases List.mem_append.1 hj with hj|hj
  ·exact h.lt j hj
  ·rw[List.mem_singleton.1 hj];exact h.sched.lt m (by simp)
 ·by_cases e:i=m
  ·rw[e];simp
  ·exact List.mem_append_left _ (h.exe i hi fun hm=>(List.mem_cons.1 hm).elim e hr)
 ·rcases List.mem_append.1 hj with hj|hj
  ·exact List.mem_append_left _ (h.done j hj i hb)
  ·rw[List.mem_singleton.1 hj]at hb;exact List.mem_append_left _ (hbits i hb)
 ·have:=h.len;cases (opAt l m).dst<;>simp[setDst,this]
 ·by_cases hdm:(opAt l m).dst=some t
  ·rw[hdm];simp only[setDst];by_cases hlt:t<vs.size
   ·have hlt':t<tmps.length:=by rw[h.len];exact hlt
    simpa[List.getD_eq_getElem?_getD,List.getElem?_set,hlt',Array.getD_eq_getD_getElem?,Array.getElem?_setIfInBounds,hlt] using hv
   ·have hlt':¬t<tmps.length:=by rw[h.len];exact hlt
    simp only[List.getD_eq_getElem?_getD];rw[List.getElem?_eq_none (by simp;omega)];exact .undef _
  ·have h1:=(h.tm t fun j hj hr=>by
    rcases List.mem_cons.1 hr with rfl|hr
    ·exact absurd hj hmD
    ·exact ht j (List.mem_append_left _ hj) hr).mono hg
   rw[List.getD_eq_getElem?_getD,QcD hdm,←List.getD_eq_getElem?_getD];cases hdd:(opAt l m).dst with
   |none=>exact h1
   |some d =>
    have hne:d≠t:=fun e=>hdm (by rw[hdd,e])
    simpa[Array.getD_eq_getD_getElem?,Array.getElem?_setIfInBounds,hne] using h1
 ·have hj':=hin j hj hr;exact(h.stat j hj' (List.mem_cons_of_mem _ hr)).congr (QcC _ _ _) (hnames j hj' hr)
 ·have q1:=hin j hj hr;have q2:=hin j' hj' hr';rw[←Qdh (hnames j q1 hr)]at hb;rw[←Qdh (hnames j' q2 hr')]at hb';exact h.inj j q1 (List.mem_cons_of_mem _ hr) j' q2 (List.mem_cons_of_mem _ hr') b hb hb'
theorem PlanR.bits{l:List AOper}{bs D fs tl:List Nat}{m:Nat}{x:Option Nat}{ist:List IStage}(h:PlanR l bs (D++[m]) x fs ist tl):m ∉ D∧∀i,bit bs m i=true→i∈D:=by
 have ho:=h.ord;rw[List.append_assoc]at ho;refine⟨fun hm=>?_,fun i hb=>ho.ord D m (ist.flatMap IStage.all++tl) (by simp) i hb⟩;exact(List.nodup_append.1 ho.nodup).2.2 m hm m (by simp) rfl
theorem QaU{g g':Gam}{p:Nat→Prop}{af af':AF}{fr:Frame}{h:AH}{v:AV}{u:Value}(S:SuspR P G g p af fr)(hg:g.le g')(hv:VR g' v u)(hf:af.finish h v=some af') :
  ∃p',CurR P G g' h p' af' (fr.finish u)∧∀x,p' x→p x:=by
 cases S with
 |region _ _ l ops i idx ak k hd hm ht ha hft ho hlt hk =>
  obtain⟨o,hoo,hc⟩:=ho.get (hlt i (by simp));have hdst:=(Qbl hc).2.2;simp only[AF.finish,hm,ha,oI]at hf;subst hf;refine⟨fun _=>False,?_,fun x hx=>hx⟩;refine .plain _ _ ?_ rfl ?_ ?_
  ·rw[Qay hft hoo];exact(hd.mono hg).of_same rfl rfl rfl rfl rfl rfl rfl hm.symm rfl rfl
  ·rw[Qay hft hoo];have:=(ht.mono hg).setDst (dst:=(opAt l i).dst) hv;rw[hdst]at this ⊢;exact this
  ·rw[Qay hft hoo];exact .cons (.inRegion l ops idx ho fun j hj=>hlt j (List.mem_cons_of_mem _ hj)) (hk.mono hg)
 |main _ _ l ops m rest D fs tl ist ag mask ak k hd hm hD hp hmf ha hft hag hmask hk =>
  obtain⟨o,hoo,hc⟩:=hD.isOps.get (hD.sched.lt m (by simp));have hdst:=(Qbl hc).2.2;simp only[AF.finish,hm,ha]at hf;split at hf
  ·rename_i hall;cases hf;obtain⟨hmD,hbits⟩:=hp.bits;obtain⟨hD',hnames⟩:=hD.mainDone hg hmD hbits hv;have hnm:m ∉ rest:=(List.nodup_cons.1 hD.sched.nodup).1;have hin:∀j∈D++[m],j∈rest→j∈D:=fun j hj hr=>by
    rcases List.mem_append.1 hj with hj|hj
    ·exact hj
    ·rw[List.mem_singleton.1 hj]at hr;exact absurd hr hnm
   refine⟨_,.rest _ _ l ops rest (D++[m]) fs tl (some m) ist ak k ?_ rfl ?_ (fun j hj hr=>?_) hp rfl ?_ (hk.mono hg),fun x ⟨j,h1,h2,h3⟩=>?_⟩
   ·rw[Qay hft hoo];exact(hd.mono hg).of_same rfl rfl rfl rfl rfl rfl rfl hm.symm rfl rfl
   ·rw[Qay hft hoo];rw[hdst]at hD' ⊢;exact hD'
   ·refine(hD'.stat j hj hr).toD fun hl=>?_
    have hj':=hin j hj hr;rw[List.all_eq_true]at hall;refine hall _ ?_;rw[hag,List.mem_filter];refine⟨List.mem_map.2 ⟨j,List.mem_filter.2 ⟨hp.fs j hj (hD.flt j hj' (List.mem_cons_of_mem _ hr)),?_⟩,rfl⟩,hl⟩;rw[Bool.not_eq_true'];cases hb:bit (bsOps ops) m j with
    |false=>rfl
    |true=>exact absurd (List.mem_cons_of_mem _ hr) (hD.sched.head hb)
   ·rw[Qay hft hoo]
   ·have hj':=hin j h1 h2;exact⟨j,hj',List.mem_cons_of_mem _ h2,by rw[Qdh (hnames j hj' h2)];exact h3⟩
  ·cases hf
 |rangeFunc _ _ x β ak k hd hm ht ha hft hx hk =>
  simp only[AF.finish,hm,ha,oI]at hf;subst hf;have e:fr.finish u={fr with todo:=.endRangeFunc β::k}:=by unfold Frame.finish;simp only[hft]
  refine⟨fun _=>False,?_,fun x hx=>hx⟩;rw[e];exact .plain _ _ ((hd.mono hg).of_same rfl rfl rfl rfl rfl rfl rfl hm.symm rfl rfl) rfl (ht.mono hg) (.cons (.endRangeFunc x β (hg.rho _ _ hx)) (hk.mono hg))
 |left _ _ hd hm ht =>
  exfalso;unfold AF.finish at hf;split at hf<;>first|(rename_i h1 _;exact hm h1)|cases hf
theorem ChainR.append{g:Gam}{l m:List APanic}{k n:List PanicEntry}(h:ChainR g l k)(h2:ChainR g m n):ChainR g (l++m) (k++n):=by
 induction h with
 |nil=>exact h2
 |cons h _ ih=>exact .cons h ih
theorem Qmk(mask:List Nat):∀tmps,(QdR tmps mask).length=tmps.length:=by
 induction mask with
 |nil=>intro t;rfl
 |cons d mask ih=>intro t;simp only[QdR,List.foldl_cons];rw[←QdR,ih];simp
theorem Qml(mask:List Nat):∀(tmps:List AV)(t:Nat),(QdR tmps mask).getD t .undef=if t∈mask then .undef else tmps.getD t .undef:=by
 induction mask with
 |nil=>intro tmps t;simp[QdR]
 |cons d mask ih =>
  intro tmps t;simp only[QdR,List.foldl_cons];rw[←QdR,ih];by_cases h1:t∈mask
  ·simp[h1]
  ·by_cases h2:t=d
   ·subst h2;simp only[h1,if_false,List.mem_cons,true_or,if_true];simp only[List.getD_eq_getElem?_getD,List.getElem?_set];split
    ·split<;>rfl
    ·rename_i hc;exact absurd trivial hc
   ·have h3:¬d=t:=fun e=>h2 e.symm
    simp only[h1,if_false,List.mem_cons,h2,or_self];simp[List.getD_eq_getElem?_getD,List.getElem?_set,h3]
theorem Qgi{g:Gam}{p:Nat→Prop}{af:AF}{fr:Frame}{h:AH}{l:List APanic}{l':List PanicEntry}(S:SuspR P G g p af fr)(hl:ChainR g l l'):CurR P G g h (fun _=>False) (af.raise l) (fr.raise l'):=by
 have hmode:∀(hd:HeadR P g af fr),HeadR P g (af.raise l) (fr.raise l')∧(af.raise l).mode≠.run∧(fr.raise l').tmps=fr.tmps∧(af.mode≠.run→(af.raise l).tmps=af.tmps)∧(af.mode=.run→(af.raise l).tmps=af.leftTmps):=by
  intro hd;have hmd:=hd.mode;unfold AF.raise Frame.raise;cases hm:af.mode with
  |run =>
   rw[hm]at hmd;cases hmm:fr.mode with
   |run=>exact⟨⟨hd.fn,hd.func,hd.defers,.panicking _ _ hl,hd.kind,hd.round⟩,by simp,rfl,by simp,by simp⟩
   |returning=>rw[hmm]at hmd;cases hmd
   |panicking c=>rw[hmm]at hmd;cases hmd
  |returning =>
   rw[hm]at hmd;cases hmm:fr.mode with
   |run=>rw[hmm]at hmd;cases hmd
   |returning=>exact⟨⟨hd.fn,hd.func,hd.defers,.panicking _ _ hl,hd.kind,hd.round⟩,by simp,rfl,by simp,by simp⟩
   |panicking c=>rw[hmm]at hmd;cases hmd
  |panicking c =>
   rw[hm]at hmd;cases hmm:fr.mode with
   |run=>rw[hmm]at hmd;cases hmd
   |returning=>rw[hmm]at hmd;cases hmd
   |panicking c' =>
    rw[hmm]at hmd;cases hmd with
    |panicking _ _ hc=>exact⟨⟨hd.fn,hd.func,hd.defers,.panicking _ _ (hl.append hc),hd.kind,hd.round⟩,by simp,rfl,by simp,by simp⟩
 cases S with
 |region _ _ lo ops i idx ak k hd hm ht ha hft ho hlt hk =>
  obtain⟨h1,h2,h3,h4,h5⟩:=hmode hd;refine .left _ _ h1 h2 ?_;rw[h3,h5 hm];simpa[AF.leftTmps,ha] using ht
 |main _ _ lo ops m rest D fs tl ist ag mask ak k hd hm hD hp hmf ha hft hag hmask hk =>
  obtain⟨h1,h2,h3,h4,h5⟩:=hmode hd;refine .left _ _ h1 h2 ?_;rw[h3,h5 hm];simp only[AF.leftTmps,ha];refine VRs.ofGetD (by rw[Qmk];exact hD.len) fun t=>?_
  rw[Qml];split
  ·exact .undef _
  ·rename_i hnm;refine hD.tm t fun j hj hr hd=>hnm ?_
   rw[hmask,List.mem_filterMap];refine⟨opAt lo j,List.mem_map.2 ⟨j,List.mem_filter.2 ⟨hp.fs j (List.mem_append_left _ hj) (hD.flt j hj hr),?_⟩,rfl⟩,hd⟩;rw[Bool.not_eq_true'];cases hb:bit (bsOps ops) m j with
   |false=>rfl
   |true=>exact absurd hr (hD.sched.head hb)
 |rangeFunc _ _ x β ak k hd hm ht ha hft hx hk =>
  obtain⟨h1,h2,h3,h4,h5⟩:=hmode hd;refine .left _ _ h1 h2 ?_;rw[h3,h5 hm];simpa[AF.leftTmps,ha] using ht
 |left _ _ hd hm ht =>
  obtain⟨h1,h2,h3,h4,h5⟩:=hmode hd;refine .left _ _ h1 h2 ?_;rw[h3,h4 hm];exact ht
end
end Go.Ab
namespace Go.Ab
open Go
section
variable{P:Program}{G:Nat→Option (List AV)}{C:List Frame}
variable{K:World→Prop}
structure AtOp (P:Program)(G:Nat→Option (List AV))(g:Gam)(af:AF)(fr:Frame)(a:AOper)(ops:Array Oper)(i:Nat)(rest:List Nat)(k:List Item)(o:Oper)(ev:AOpd→AV):Prop where
 mode:fr.mode=.run
 todo:fr.todo=.inRegion ops (i::rest)::k
 op:ops[i]? = some o
 act:Qbu P G o.op=some a.act
 dst:a.dst=o.dst
 want:∀b,Qai af.tmps a=some b→Region.wanted o (yielded ops fr.tmps)=b
 hev:∀x ax,Qaa G x=some ax→VR g (ev ax) (fr.eval x)
 con:∀v,ev (.const v)=v
 eq:∀x∈a.act.opds,aev af.tmps x=ev x
def AF.headOp(af:AF):Option AOper:=
 match af.todo with
 | .inRegion (o::_)::_=>some o
 | .inMain o _ _ _::_=>some o
 |_=>none
theorem SuspR.atOp{g:Gam}{p:Nat→Prop}{af:AF}{fr:Frame}{a:AOper}(hG:GlobR G g)(S:SuspR P G g p af fr)(ha:af.mode=.run)(hh:af.headOp=some a):∃ops i rest k o ev,AtOp P G g af fr a ops i rest k o ev:=by
 cases S with
 |region _ _ l ops i idx ak k hd hm ht haf hft ho hlt hk =>
  simp only[AF.headOp,haf,oI]at hh;subst hh;obtain⟨o,hoo,hc⟩:=ho.get (hlt i (by simp));obtain⟨h1,h2,h3⟩:=Qbl hc;have hmode:fr.mode=.run:=by have:=hd.mode;rw[hm]at this;generalize fr.mode=z at this;cases this;rfl
  refine⟨ops,i,idx,k,o,aev af.tmps,hmode,hft,hoo,h1,h3,fun b hb=>?_,fun x ax hx=>Qhj hG ht.getD rfl x ax hx,fun v=>rfl,fun x _=>rfl⟩;exact Qcj h2 (by simpa using ht.len) (fun t _=>ht.getD t) hb
 |main _ _ l ops m rest D fs tl ist ag mask ak k hd hm hD hp hmf haf hft hag hmask hk =>
  simp only[AF.headOp,haf,oI]at hh;subst hh;obtain⟨o,hoo,hc⟩:=hD.isOps.get (hD.sched.lt m (by simp));obtain⟨h1,h2,h3⟩:=Qbl hc;have hmode:fr.mode=.run:=by have:=hd.mode;rw[hm]at this;generalize fr.mode=z at this;cases this;rfl
  refine⟨ops,m,rest,k,o,evOf af.tmps l D (m::rest),hmode,hft,hoo,h1,h3,fun b hb=>?_,fun x ax hx=>QdN hG hD x ax hx,fun v=>rfl,fun x hx=>Qi0 hD x hx⟩;exact Qcj h2 hD.len (fun t ht=>hD.reads ht) hb
 |rangeFunc _ _ x β ak k hd hm ht haf hft hx hk=>simp[AF.headOp,haf]at hh
 |left _ _ hd hm ht=>exact absurd ha hm
def Qao(K:World→Prop)(P:Program)(G:Nat→Option (List AV))(M:Memo):Prop:=
  ∀f args c,M f args=some c→∀(B:Nat) (w0:Anchor) (g:Gam) (h:AH) (w:World) (vs:Array Value) (v:AV) (h':AH),c h=some (v,h')→HR (CodeR P G) B w0 g h w→GlobR G g→VRs g args vs.toList→(∀w',RowKit.Below w.heap.size w w'→K w') →
    ((∃ fn,P.funcs[f]? = some fn∧fn.body.isSome=true∧fn.name ≠ "runtime.NumGoroutine") ∧
      Calls P f vs w fun e w'=>∃u g',e=.returned u∧VR g' v u∧HR (CodeR P G) B w0 g' h' w'∧g.le g') ∨
    (∃u g' w',(callFunc f vs).run P w=.ok (.value u) w'∧VR g' v u∧HR (CodeR P G) B w0 g' h' w'∧g.le g')
def FunOk(P:Program)(G:Nat→Option (List AV))(F:FuncId→Option AFun):Prop:=∀f fn,F f=some fn→Qg6 P G f=some fn
theorem Qcd {f:FuncId} {fn:AFun} (h:Qg6 P G f=some fn):∃ mf c,P.funcs[f]? = some mf∧mf.body=some c∧mf.name ≠ "runtime.NumGoroutine" ∧ Qah P G c=some fn.body∧fn.ntmps=mf.ntmps∧mf.results.toList.mapM (Qcw P)=some fn.results:=by
  unfold Qg6 at h;split at h
  · rename_i mf hmf;split at h
    · rename_i c rs hb hr;split at h
      · cases h
      · rename_i hn;obtain⟨b,hb',rfl⟩:=oM h;exact⟨mf,c,hmf,hb,by simpa using hn,hb',rfl,hr⟩
    · cases h
  · cases h
theorem Qcx {f:FuncId} {mf:Func} (h:P.funcs[f]? = some mf) (hb:mf.body.isSome=true) (hn:mf.name ≠ "runtime.NumGoroutine") (args:Array Value) (w:World):(callFunc f args).run P w=.ok (.enter f args) w:=by
  cases hm:mf.body with
  |none=>rw[hm]at hb;cases hb
  |some c=>simp[callFunc,h,hn,hm]
theorem Qei {g:Gam} {h:AH} {F:FuncId→Option AFun} (hF:FunOk P G F) {f:FuncId} {args:List AV} {vs:Array Value} {kind:CallKind} {af:AF} (hv:VRs g args vs.toList) (he:AF.enter F f args kind=some af) :
    CurR P G g h (fun _=>False) af (Frame.enter P f vs kind)∧∃ mf,P.funcs[f]? = some mf∧mf.body.isSome=true∧mf.name ≠ "runtime.NumGoroutine" := by
  unfold AF.enter at he;obtain⟨fn,hfn,rfl⟩:=oM he;obtain⟨mf,c,h1,h2,h3,h4,h5,h6⟩:=Qcd (hF f fn hfn);refine⟨?_,mf,h1,by rw[h2];rfl,h3⟩;refine .plain _ _ ⟨rfl,⟨mf,h1⟩,.nil,.run,rfl,trivial⟩ rfl ?_ ?_
  · have hl:=hv.len;simp only[Frame.enter,h1,Option.map_some,Option.getD_some,Array.toList_append,Array.toList_replicate];refine hv.append ?_;rw[h5,show args.length=vs.size by simpa using hl];exact VRs.replicate_undef _ _ (by simp)
  · simp only[Frame.enter,h1,Option.bind_some,h2,Option.getD_some];exact .cons (.code _ _ h4) .nil
theorem Qkd{op:Op}{f:AOpd}{args:List AOpd}(h:Qbu P G op=some (.call f args)):∃f' args' ts,op=.call {callee:=.value f',args:=args',argTypes:=ts}∧Qaa G f'=some f∧Qa1 G args'=some args:=by
 unfold Qbu at h;split at h
 ·rename_i f' args' ts;split at h
  ·rename_i h1 h2;cases h;exact⟨f',args',ts,rfl,h1,h2⟩
  ·cases h
 ·cases h
 ·split at h<;>cases h
 ·obtain⟨x,_,hx⟩:=oM h;cases hx
 ·obtain⟨x,_,hx⟩:=oM h;cases hx
theorem Qi3{op:Op}{f:AOpd}{args:List AOpd}(h:Qbu P G op=some (.defer f args)):∃f' args' ts,op=.defer {callee:=.value f',args:=args',argTypes:=ts}∧Qaa G f'=some f∧Qa1 G args'=some args:=by
 unfold Qbu at h;split at h
 ·split at h<;>cases h
 ·cases h
 ·rename_i f' args' ts;split at h
  ·rename_i h1 h2;cases h;exact⟨f',args',ts,rfl,h1,h2⟩
  ·cases h
 ·obtain⟨x,_,hx⟩:=oM h;cases hx
 ·obtain⟨x,_,hx⟩:=oM h;cases hx
theorem Qi2{op:Op}{x:AOpd}(h:Qbu P G op=some (.panic x)):∃x',op=.panic x'∧Qaa G x'=some x:=by
 unfold Qbu at h;split at h
 ·split at h<;>cases h
 ·cases h
 ·split at h<;>cases h
 ·rename_i x';obtain⟨y,hy,e⟩:=oM h;cases e;exact⟨x',rfl,hy⟩
 ·obtain⟨x,_,hx⟩:=oM h;cases hx
theorem Qg7{op:Op}(h:Qbu P G op=some .recover):∃c,op=.call c∧c.callee=.builtin .recover:=by
 unfold Qbu at h;split at h
 ·split at h<;>cases h
 ·exact⟨_,rfl,rfl⟩
 ·split at h<;>cases h
 ·obtain⟨x,_,hx⟩:=oM h;cases hx
 ·obtain⟨x,_,hx⟩:=oM h;cases hx
theorem QdZ{g:Gam}{f:FuncId}{first captured:List AV}{v:Value}(h:VR g (.func f first captured) v):∃fs cs:Array Value,v=.func (.func f) fs cs∧VRs g first fs.toList∧VRs g captured cs.toList:=by
 cases h with
 |func _ _ _ fs cs hf hc hfv hcv =>
  exact⟨fs,cs,rfl,⟨by simpa using hf,fun i h1 h2=>by simpa using hfv i h1 (by simpa using h2)⟩,⟨by simpa using hc,fun i h1 h2=>by simpa using hcv i h1 (by simpa using h2)⟩⟩
theorem Qdd{ρ:Operand→Value}{f':Operand}{args':Array Operand}{ts:Array TypeId}{ty:TypeId}{f:FuncId}{fs cs:Array Value}(hf:ρ f'=.func (.func f) fs cs)(w:World) :
  (resolve ρ {callee:=.value f',args:=args',argTypes:=ts} ty).run P w=.ok {target:=.fn (.func f) cs,args:=fs++args'.map ρ} w:=by
 simp[resolve,Deferred.ofValue,hf]
theorem StR.mk{B:Nat}{w0:World}{g:Gam}{p p' q:Nat→Prop}{s:AS}{fr:Frame}{cs:List Frame}{w:World}(hc:CurR P G g s.h p' s.fr fr)(hp:∀x,p' x→p x)(hs:StackR P G C g q s.cs cs)(hpq:∀x,p x→¬q x)
  (H:HR (CodeR P G) B ⟨w0,fun x=>p x∨q x⟩ g s.h w)(hG:GlobR G g):StR P G C B w0 s (lone fr cs w):=
 ⟨g,p',q,fr,cs,w,rfl,hc,hs,fun x hx=>hpq x (hp x hx),H.weaken fun x hx=>hx.imp (hp x) id,hG⟩
theorem Qic {B:Nat} {w0:World} {F:FuncId→Option AFun} {M:Memo} (hF:FunOk P G F) (hM:Qao K P G M) (hK:∀ w',RowKit.Below B w0 w'→K w') {g:Gam} {p q:Nat→Prop} {s s':AS} {fr:Frame} {cs:List Frame} {w:World} {m:Machine}
    (S:SuspR P G g p s.fr fr)(T:StackR P G C g q s.cs cs)(hpq:∀x,p x→¬q x)(H:HR (CodeR P G) B ⟨w0,fun x=>p x∨q x⟩ g s.h w)(hG:GlobR G g){t:ATarget}(hc:acall F M s t=some s')
    (henter:∀f args,t=.enter f args→∃vs:Array Value,VRs g args vs.toList ∧
      ((∀ mf,P.funcs[f]? = some mf→mf.body.isSome=true→mf.name ≠ "runtime.NumGoroutine" → step P m=.next (lone (Frame.enter P f vs .normal) (fr::cs) w)) ∧
       (∀v w',(callFunc f vs).run P w=.ok (.value v) w'→step P m=.next (lone (fr.finish v) cs w'))))
    (hround:∀l args,t=.round l args→∃vs:Array Value,∃β,VRs g args vs.toList∧g.rho l=some (β,0) ∧
      (∀fn tmps x y,(Instr.yield β vs).run P w=.ok (.round β fn tmps x y) w→step P m=.next (lone (Frame.round β fn tmps x y .normal) (fr::cs) w))) :
    ∃m',Steps P m m'∧StR P G C B w0 s' m':=by
  unfold acall at hc;split at hc
  · rename_i f args;obtain⟨vs,hvs,hstep,hext⟩:=henter f args rfl;split at hc
    · rename_i c hmc;split at hc
      · rename_i v0 h0 hc0;obtain⟨af',haf',rfl⟩:=oM hc;rcases hM f args c hmc B _ g s.h w vs v0 h0 hc0 H hG hvs (fun w' hb=>hK w' (H.below.trans (hb.mono H.B_le))) with⟨⟨mf,h1,h2,h3⟩,hcall⟩|⟨v,g',w',hrun,hv,H',hle⟩
        · obtain⟨e,w',fr',⟨v,g',rfl,hv,H',hle⟩,hcomes,hfn,hleav⟩:=hcall (fr::cs);obtain⟨p',hcur,hpp⟩:=QaU S hle hv haf';refine⟨_,Steps.head (hstep mf h1 h2 h3) (Steps.trans hcomes (Steps.one (step_leave_returned hleav))),?_⟩;exact StR.mk (s:={fr:=af',cs:=s.cs,h:=h0}) hcur hpp (T.mono hle) hpq H' (hG.mono hle)
        · obtain⟨p',hcur,hpp⟩:=QaU S hle hv haf';refine⟨_,Steps.one (hext v w' hrun),?_⟩;exact StR.mk (s:={fr:=af',cs:=s.cs,h:=h0}) hcur hpp (T.mono hle) hpq H' (hG.mono hle)
      · cases hc
    · obtain⟨af',haf',rfl⟩:=oM hc;obtain⟨hcur,mf,h1,h2,h3⟩:=Qei (h:=s.h) hF hvs haf';refine⟨_,Steps.one (hstep mf h1 h2 h3),?_⟩;refine⟨g,_,_,_,_,w,rfl,hcur,.cons S T hpq,fun x hx=>hx.elim,H.weaken fun x hx=>hx.elim False.elim id,hG⟩
  · rename_i l args;obtain⟨vs,β,hvs,hrho,hstep⟩:=hround l args rfl;split at hc
    · rename_i st pend fn tmps params assign body d hget;split at hc
      · rename_i hlen';obtain⟨hlen,hsome⟩:=hlen';cases hc;have hobj:=H.obj l β 0 _ hrho hget;cases hobj with
        |loop _ _ pend' _ _ tmps' _ _ _ assign' body' _ δ hw hb hp ht ha hcb hd =>
          have hyield:(Instr.yield β vs).run P w=.ok (.round β fn ((params.toArray.zip vs).foldl (fun tmps x=>tmps.setIfInBounds x.1 x.2) tmps') assign' body') w:=by
            have hsz:vs.size=params.length:=by rw[←hlen];have:=hvs.len;simpa using this.symm
            simp[Instr.yield,Instr.getLoop,getObj,Sem.run,hw,hsz]
          refine⟨_,Steps.one (hstep _ _ _ _ hyield),?_⟩;refine⟨g,_,_,_,_,w,rfl,?_,.cons S T hpq,fun x hx=>hx.elim,H.weaken fun x hx=>hx.elim False.elim id,hG⟩;have hfold:∀ (ps:List Nat) (as:List AV) (us:List Value) (t:List AV) (t':Array Value),VRs g as us→VRs g t t'.toList →
              VRs g ((ps.zip as).foldl (fun t x=>t.set x.1 x.2) t) ((ps.zip us).foldl (fun t x=>t.setIfInBounds x.1 x.2) t').toList:=by
            intro ps
            induction ps with
            |nil=>intro as us t t' _ h;simpa using h
            |cons p ps ih =>
              intro as us t t' h1 h2;cases as with
              |nil=>cases us with
                |nil=>simpa using h2
                |cons=>have:=h1.len;simp at this
              |cons a as=>cases us with
                |nil=>have:=h1.len;simp at this
                |cons u us =>
                  simp only[List.zip_cons_cons,List.foldl_cons];refine ih as us _ _ h1.tail ?_;simpa using h2.set p h1.head
          refine .plain _ _ ⟨rfl,?_,.nil,.run,rfl,hrho⟩ rfl ?_ ?_
          · obtain⟨afn,hafn⟩:=Option.isSome_iff_exists.1 hsome;obtain⟨mf,c,h1,_⟩:=Qcd (hF _ _ hafn);exact⟨mf,h1⟩
          · have:=hfold params args vs.toList tmps tmps' hvs ht;simp only[Frame.round];rw[←Array.foldl_toList];simpa using this
          · exact .cons (.code _ _ ha) (.cons .beginRound (.cons (.code _ _ hcb) .nil))
      · cases hc
    · cases hc
theorem SuspR.withDefers{g:Gam}{p:Nat→Prop}{af:AF}{fr:Frame}{a:AOper}(S:SuspR P G g p af fr)(hr:af.mode=.run)(hh:af.headOp=some a){d:ADef}{d':Deferred}(hd:DefR g d d') :
  SuspR P G g p {af with defers:=d::af.defers} {fr with defers:=d'::fr.defers}:=by
 cases S with
 |region _ _ l ops i idx ak k hh2 hm ht haf hft ho hlt hk=>exact .region {af with defers:=d::af.defers} {fr with defers:=d'::fr.defers} l ops i idx ak k ⟨hh2.fn,hh2.func,.cons hd hh2.defers,hh2.mode,hh2.kind,hh2.round⟩ hm ht haf hft ho hlt hk
 |main _ _ l ops m rest D fs tl ist ag mask ak k hh2 hm hD hp hmf haf hft hag hmask hk =>
  exact .main {af with defers:=d::af.defers} {fr with defers:=d'::fr.defers} l ops m rest D fs tl ist ag mask ak k ⟨hh2.fn,hh2.func,.cons hd hh2.defers,hh2.mode,hh2.kind,hh2.round⟩ hm hD hp hmf haf hft hag hmask hk
 |rangeFunc _ _ x β ak k hh2 hm ht haf hft hx hk=>simp[AF.headOp,haf]at hh
 |left _ _ hh2 hm ht=>exact absurd hr hm
theorem SuspR.head{g:Gam}{p:Nat→Prop}{af:AF}{fr:Frame}(S:SuspR P G g p af fr):HeadR P g af fr:=by
 cases S<;>assumption
theorem go_recover_some{fr:Frame}{cs cs':List Frame}{w w':World}{k:List Item}{ops:Array Oper}{i:Nat}{rest:List Nat}{o:Oper}{v:Value}(hm:fr.mode=.run)(ht:fr.todo=.inRegion ops (i::rest)::k)(ho:ops[i]? = some o)
  (hw:Region.wanted o (yielded ops fr.tmps)=true)(hd:Qci fr o)(hl:fr.roundOf=none)(hr:(execOp fr.eval o).run P w=.ok .recover w')(hv:tryRecover fr cs=some (v,cs')) :
  step P (lone fr cs w)=.next (lone (fr.finish v) cs' w'):=
 step_lone_go (by rw[Qck hm ht ho hw hd];simp[stepG.apply,hr,hl,hv])
theorem go_recover_none{fr:Frame}{cs:List Frame}{w w':World}{k:List Item}{ops:Array Oper}{i:Nat}{rest:List Nat}{o:Oper}(hm:fr.mode=.run)(ht:fr.todo=.inRegion ops (i::rest)::k)(ho:ops[i]? = some o)
  (hw:Region.wanted o (yielded ops fr.tmps)=true)(hd:Qci fr o)(hl:fr.roundOf=none)(hr:(execOp fr.eval o).run P w=.ok .recover w')(hv:tryRecover fr cs=none) :
  step P (lone fr cs w)=.next (lone (fr.finish .nilIface) cs w'):=
 step_lone_go (by rw[Qck hm ht ho hw hd];simp[stepG.apply,hr,hl,hv])
theorem Qig{B:Nat}{w0:World}{F:FuncId→Option AFun}{M:Memo}(hF:FunOk P G F)(hM:Qao K P G M)(hK:∀w',RowKit.Below B w0 w'→K w'){g:Gam}{p q:Nat→Prop}{s s':AS}{fr:Frame}{cs:List Frame}{w:World}{a:AOper}
  (S:SuspR P G g p s.fr fr)(T:StackR P G C g q s.cs cs)(hpq:∀x,p x→¬q x)(H:HR (CodeR P G) B ⟨w0,fun x=>p x∨q x⟩ g s.h w)(hG:GlobR G g)(hrun:s.fr.mode=.run)(hh:s.fr.headOp=some a)
  (hc:aone F M s a=some s'):∃m',Steps P (lone fr cs w) m'∧StR P G C B w0 s' m':=by
 obtain⟨ops,i,rest,k,o,ev,A⟩:=S.atOp hG hrun hh;unfold aone at hc;split at hc
 ·cases hc
 ·rename_i hw;obtain⟨af',haf',rfl⟩:=oM hc;obtain⟨p',hcur,hpp⟩:=QaU S g.le_refl (u:=undef) (VRs.nil g).tuple haf';exact⟨_,Steps.one (go_op_skip A.mode A.todo A.op (A.want _ hw)),StR.mk (s:={fr:=af',cs:=s.cs,h:=s.h}) hcur hpp T hpq H hG⟩
 ·rename_i hw;have hwant:=A.want _ hw;unfold aoper at hc;split at hc
  ·
   rename_i aop hact;have hA:=A.act;rw[hact]at hA;obtain⟨hop,hnd⟩:=QdO hA;split at hc
   ·rename_i v h' hex;obtain⟨af',haf',rfl⟩:=oM hc;have hex':exec s.h ev aop=some (v,h'):=by
     rw[←Qa6 aop (fun x hx=>A.eq x (by rw[hact];exact hx))];exact hex
    obtain⟨g',w',u,hru,H',hle,hv⟩:=QdK o.op (CodeR P G) B _ g s.h h' w fr.eval ev aop v o H A.hev A.con hop hex' rfl;obtain⟨p',hcur,hpp⟩:=QaU S hle hv haf';refine⟨lone (fr.finish u) cs w',Steps.one ?_,StR.mk (s:={fr:=af',cs:=s.cs,h:=h'}) hcur hpp (T.mono hle) hpq H' (hG.mono hle)⟩;rcases hru with hru|⟨hru,rfl⟩
    ·exact go_value A.mode A.todo A.op hwant (.inr hnd) hru
    ·exact go_unit A.mode A.todo A.op hwant (.inr hnd) hru
   ·cases hc
  ·
   rename_i f args hact;have hA:=A.act;rw[hact]at hA;obtain⟨f',args',ts,hop,hcf,hca⟩:=Qkd hA;have hevf:aev s.fr.tmps f=ev f:=A.eq f (by rw[hact];exact List.mem_cons_self);have heva:args.map (aev s.fr.tmps)=args.map ev:=List.map_congr_left fun x hx=>A.eq x (by rw[hact];exact List.mem_cons_of_mem _ hx)
   have hvf:=A.hev f' f hcf;have hva:VRs g (args.map ev) (args'.toList.map fr.eval):=Qa0 A.hev _ _ hca;have hnd:Qci fr o:=.inr fun c e=>by rw[hop]at e;cases e
   split at hc
   ·rename_i t htg;rw[hevf,heva]at htg;refine Qic hF hM hK S T hpq H hG hc (fun fn as ht=>?_) (fun l as ht=>?_)
    ·subst ht;unfold QaR at htg;split at htg
     ·rename_i fn' first captured hfe
      simp only[oI,ATarget.enter.injEq]at htg;obtain⟨rfl,rfl⟩:=htg;rw[hfe]at hvf;obtain⟨fs,cs',hev,h1,h2⟩:=QdZ hvf;have hexec:∀W:World,(execOp fr.eval o).run P W=(callFunc fn' (fs++args'.map fr.eval++cs')).run P W:=by
       intro W;simp only[execOp,hop,Sem.run_bind,Qdd hev,Result.andThen];rfl
      refine⟨fs++args'.map fr.eval++cs',?_,fun mf q1 q2 q3=>?_,fun v w' hr=>?_⟩
      ·simp only[Array.toList_append,Array.toList_map];exact(h1.append hva).append h2
      ·exact go_enter A.mode A.todo A.op hwant hnd (by rw[hexec];exact Qcx q1 q2 q3 _ _)
      ·exact go_value A.mode A.todo A.op hwant hnd (by rw[hexec];exact hr)
     ·cases htg
     ·cases htg
    ·subst ht;unfold QaR at htg;split at htg
     ·cases htg
     ·rename_i l' hfe;simp only[oI,ATarget.round.injEq]at htg;obtain⟨rfl,rfl⟩:=htg;rw[hfe]at hvf;obtain⟨β,hev,hrho⟩:∃β,fr.eval f'=.func (.yield β) #[] #[]∧g.rho l'=some (β,0):=by
       generalize fr.eval f'=z at hvf;cases hvf with
       |yield _ β h=>exact⟨β,rfl,h⟩
      refine⟨args'.map fr.eval,β,by simpa using hva,hrho,fun fn tmps x y hr=>?_⟩;refine go_round A.mode A.todo A.op hwant hnd ?_;simp[execOp,hop,resolve,Deferred.ofValue,hev,invoke];simpa using hr
     ·cases htg
   ·cases hc
  ·
   rename_i f args hact;have hA:=A.act;rw[hact]at hA;obtain⟨f',args',ts,hop,hcf,hca⟩:=Qi3 hA;have hevf:aev s.fr.tmps f=ev f:=A.eq f (by rw[hact];exact List.mem_cons_self);have heva:args.map (aev s.fr.tmps)=args.map ev:=List.map_congr_left fun x hx=>A.eq x (by rw[hact];exact List.mem_cons_of_mem _ hx)
   have hvf:=A.hev f' f hcf;have hva:VRs g (args.map ev) (args'.toList.map fr.eval):=Qa0 A.hev _ _ hca;split at hc
   ·rename_i fn first captured hfe
    rw[hevf]at hfe;split at hc
    ·rename_i hround;obtain⟨af',haf',rfl⟩:=oM hc;rw[hfe]at hvf;obtain⟨fs,cs',hev,h1,h2⟩:=QdZ hvf;have hfr:fr.roundOf=none:=by
      have:=S.head.round;rw[hround]at this;cases hr:fr.roundOf with
      |none=>rfl
      |some x=>rw[hr]at this;exact this.elim
     have hdef:DefR g (.call fn (first++args.map (aev s.fr.tmps)++captured)) {target:=.fn (.func fn) cs',args:=fs++args'.map fr.eval}:=by
      refine .call _ _ _ _ ?_;rw[heva];simp only[Array.toList_append,Array.toList_map];exact(h1.append hva).append h2
     have S':=S.withDefers hrun hh hdef;obtain⟨p',hcur,hpp⟩:=QaU S' g.le_refl (u:=undef) (.undef _) haf';refine⟨_,Steps.one (go_defer A.mode A.todo A.op hwant (.inl hfr) (d:={target:=.fn (.func fn) cs',args:=fs++args'.map fr.eval}) (w':=w) ?_),StR.mk (s:={fr:=af',cs:=s.cs,h:=s.h}) hcur hpp T hpq H hG⟩;simp only[execOp,hop,Sem.run_bind,Qdd hev,Result.andThen];rfl
    ·cases hc
   ·cases hc
  ·
   rename_i x hact;have hA:=A.act;rw[hact]at hA;obtain⟨x',hop,hcx⟩:=Qi2 hA;have hevx:aev s.fr.tmps x=ev x:=A.eq x (by rw[hact];exact List.mem_cons_self);have hvx:=A.hev x' x hcx;split at hc
   ·rename_i t v hxe;cases hc;rw[hevx]at hxe;rw[hxe]at hvx;obtain⟨v',hev,hv⟩:∃v',fr.eval x'=.iface t v'∧VR g v v':=by
     generalize fr.eval x'=z at hvx;cases hvx with
     |iface _ _ v' h=>exact⟨v',rfl,h⟩
    refine⟨_,Steps.one (go_panic A.mode A.todo A.op hwant (.inr fun c e=>by rw[hop]at e;cases e) (v:=.iface t v') (w':=w) ?_),?_⟩
    ·simp[execOp,hop,hev,Instr.panic,goPanic]
    ·refine StR.mk (p':=fun _=>False) (p:=p) (s:={fr:=s.fr.raise [{v:=.iface t v,recovered:=false}],cs:=s.cs,h:=s.h}) (Qgi S (.cons (.iface t v v' hv) .nil)) (fun x hx=>hx.elim) T hpq H hG
   ·cases hc
  ·
   rename_i hact;have hA:=A.act;rw[hact]at hA;obtain⟨c,hop,hcal⟩:=Qg7 hA;have hnd:Qci fr o:=.inr fun c e=>by rw[hop]at e;cases e
   have hex:(execOp fr.eval o).run P w=.ok .recover w:=by
    simp[execOp,hop,resolve,hcal,invoke,builtin]
   split at hc
   ·cases hc
   ·rename_i hround;have hfr:fr.roundOf=none:=by
     have:=S.head.round;rw[hround]at this;cases hr:fr.roundOf with
     |none=>rfl
     |some x=>rw[hr]at this;exact this.elim
    have hkind:=S.head.kind;split at hc
    ·rename_i hk;split at hc
     ·rename_i v acs harec;obtain⟨af',haf',rfl⟩:=oM hc;unfold QeL at harec;split at harec
      ·rename_i caller arest hcs;split at harec
       ·rename_i v0 older hkd hcm;simp only[oI,Prod.mk.injEq]at harec;obtain⟨rfl,rfl⟩:=harec;rw[hcs]at T;generalize hqq:q=q0 at T;cases T with
        | @cons p1 q1 _ fc _ crest hS1 hT1 hpq1 =>
         have hhd:=hS1.head;have hmd:=hhd.mode;rw[hcm]at hmd;generalize hfm:fc.mode=fm at hmd;cases hmd with
         |panicking _ k' hch =>
          cases hch with
          | @cons _ _ v' _ k'' hvv htl =>
           have htry:tryRecover fr (fc::crest)=some (v',{fc with mode:=.panicking ({v:=v',recovered:=true}::k'')}::crest):=by
            unfold tryRecover;rw[hkind,hkd];simp only[hfm]
           have hS1':∃p1',SuspR P G g p1' {caller with mode:=.panicking ({v:=v0,recovered:=true}::older)} {fc with mode:=.panicking ({v:=v',recovered:=true}::k'')}∧∀x,p1' x→p1 x:=by
            have hnr:caller.mode≠.run:=by rw[hcm];simp
            refine⟨fun _=>False,.left _ _ ⟨hhd.fn,hhd.func,hhd.defers,.panicking _ _ (.cons hvv htl),hhd.kind,hhd.round⟩ (by simp) ?_,fun x hx=>hx.elim⟩;cases hS1 with
            |region _ _ l ops i idx ak k hd hm _ _ _ _ _ _=>exact absurd hm hnr
            |main _ _ l ops m rest D fs tl ist ag mask ak k hd hm _ _ _ _ _ _ _ _=>exact absurd hm hnr
            |rangeFunc _ _ x β ak k hd hm _ _ _ _ _=>exact absurd hm hnr
            |left _ _ hd hm ht=>exact ht
           obtain⟨p1',hS1',hp1⟩:=hS1';obtain⟨p',hcur,hpp⟩:=QaU S g.le_refl hvv haf';refine⟨_,Steps.one (go_recover_some A.mode A.todo A.op hwant hnd hfr hex htry),?_⟩;subst hqq;refine⟨g,p',_,_,_,w,rfl,hcur,.cons hS1' hT1 (fun x hx=>hpq1 x (hp1 x hx)),fun x hx hx2=>hpq x (hpp x hx) (hx2.imp (hp1 x) id),H.weaken fun x hx=>hx.imp (hpp x) (fun hx2=>hx2.imp (hp1 x) id),hG⟩
       ·cases harec
      ·cases harec
     ·rename_i harec;obtain⟨af',haf',rfl⟩:=oM hc;have htry:tryRecover fr cs=none:=by
       unfold tryRecover;rw[hkind];rcases hk with hk|⟨hk,hne⟩
       ·rw[hk]
       ·rw[hk];rw[hk]at harec;generalize hacs:s.cs=acs at T harec hne;cases T with
        |nil=>cases hne
        | @cons p1 q1 af1 fc ac1 crest hS1 hT1 hpq1 =>
         have hmd:=hS1.head.mode;simp only;split
         ·rename_i v older hfm;exfalso;rw[hfm]at hmd;generalize ham:af1.mode=am at hmd;cases hmd with
          |panicking l _ hch =>
           cases hch with
           | @cons v0 _ _ l' _ hvv htl =>
            simp[QeL,ham]at harec
         ·rfl
      obtain⟨p',hcur,hpp⟩:=QaU S g.le_refl (u:=.nilIface) .nilIface haf';exact⟨_,Steps.one (go_recover_none A.mode A.todo A.op hwant hnd hfr hex htry),StR.mk (s:={fr:=af',cs:=s.cs,h:=s.h}) hcur hpp T hpq H hG⟩
    ·cases hc
end
end Go.Ab
namespace Go.Ab
open Go
section
variable{P:Program}{fr c:Frame}{cs:List Frame}{w w':World}{k:List Item}
theorem go_enterLoop{x:Operand}{params:Array Tmp}{a b:Code}{f:FuncId}{args:Array Value}{l β:Nat}{w₁:World}
  (hm:fr.mode=.run)(ht:fr.todo=.code (.rangeFunc x params a b)::k)(hl:fr.roundOf=none)
  (hr:(Instr.enterLoop fr.fn fr.tmps params a b none).run P w=.ok (l,[{target:=.collected β,args:=#[]}]) w₁)
  (hi:(do let d ←resolve ({fr with todo:=.inRangeFunc l::k,defers:={target:=.collected β,args:=#[]}::fr.defers}:Frame).eval {callee:=.value x,args:=#[.const (.func (.yield l) #[] #[])],argTypes:=#[]} 0;invoke d.target d.args:Sem Next).run P w₁=.ok (.enter f args) w') :
  step P (lone fr cs w)=.next (lone (Frame.enter P f args .normal) ({fr with todo:=.inRangeFunc l::k,defers:={target:=.collected β,args:=#[]}::fr.defers}::cs) w'):=
 step_lone_go (by
  have hi':=hi;simp[hm,hl]at hi';simp[stepG,stepG.exec,hm,ht,hl,hr,stepG.apply,hi'])
end
end Go.Ab
