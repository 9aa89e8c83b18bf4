/- A part of a proof. -/
import GoSem.Step
import Derived.Laws.Strings
import Derived.Control
import Derived.Calls
import Derived.Below
import Derived.Laws.World
import Derived.Laws.CopyRow
import Derived.Laws.RangeString
import Derived.Laws.StructEq
import Derived.ChangeKeysEq
set_option linter.all false
set_option maxHeartbeats 4000000
namespace Go.Ab
open Go
theorem oM{α β:Type}{f:α→β}{x:Option α}{b:β}(h:x.map f=some b):∃a,x=some a∧f a=b:=Option.map_eq_some_iff.1 h
theorem oI{α:Type}{a b:α}:(some a=some b)=(a=b):=by simp
theorem gE{α:Type}{l:List α}{i:Nat}(h:i<l.length):l[i]?=some l[i]:=List.getElem?_eq_getElem h
def Qap:Nat→Nat→List UInt8
 |0,_=>[]
 |n+1,b=>UInt8.ofNat b::Qap n (b / 256)
def bsOf(n b:Nat):ByteArray:=⟨(Qap n b).toArray⟩
def Qda:List UInt8→Nat
 | []=>0
 |c::l=>c.toNat+256*Qda l
def natOf(s:ByteArray):Nat:=Qda s.data.toList
theorem Qax:∀n b,(Qap n b).length=n
 |0,_=>rfl
 |n+1,b=>by simp[Qap,Qax n]
theorem QaB(n:Nat):(UInt8.ofNat n).toNat=n%256:=by simp
theorem QjB:∀l,Qda l<256^l.length
 | []=>by simp[Qda]
 |c::l=>by
  have h1:=QjB l;have h2:c.toNat<256:=c.toNat_lt;simp only[Qda,List.length_cons,Nat.pow_succ];omega
theorem Qjy(c:UInt8):UInt8.ofNat c.toNat=c:=by simp
theorem Qb9{a b:Nat}(h:a%256=b%256):UInt8.ofNat a=UInt8.ofNat b:=by
 apply UInt8.toNat_inj.1;rw[QaB,QaB,h]
theorem QeI:∀l,Qap l.length (Qda l)=l
 | []=>rfl
 |c::l=>by
  have h2:c.toNat<256:=c.toNat_lt;simp only[List.length_cons,Qap,Qda];have e1:(c.toNat+256*Qda l) / 256=Qda l:=by omega
  have e2:UInt8.ofNat (c.toNat+256*Qda l)=c:=by
   rw[Qb9 (b:=c.toNat) (by omega),Qjy]
  rw[e1,e2,QeI l]
theorem QcY:∀n b,b<256^n→Qda (Qap n b)=b
 |0,b,h=>by simp at h;subst h;rfl
 |n+1,b,h=>by
  simp only[Qap,Qda];rw[Nat.pow_succ]at h;rw[QcY n (b / 256) (by omega),QaB];omega
theorem Qfd{n a b:Nat}(ha:a<256^n)(hb:b<256^n)(h:Qap n a=Qap n b):a=b:=by
 rw[←QcY n a ha,h,QcY n b hb]
theorem Qhd:∀l n b,(Qap n b).drop l=Qap (n-l) (b / 256^l)
 |0,n,b=>by simp
 |l+1,0,b=>by simp[Qap]
 |l+1,n+1,b=>by
  simp only[Qap,List.drop_succ_cons,Nat.add_sub_add_right];rw[Qhd l n (b / 256),Nat.div_div_eq_div_mul,Nat.pow_succ,Nat.mul_comm]
theorem Qel:∀k n b,k≤n→(Qap n b).take k=Qap k b
 |0,_,_,_=>by simp[Qap]
 |k+1,0,_,h=>by omega
 |k+1,n+1,b,h=>by simp only[Qap,List.take_succ_cons];rw[Qel k n _ (by omega)]
theorem Qie:∀k b,Qap k (b%256^k)=Qap k b
 |0,_=>rfl
 |k+1,b=>by
  simp only[Qap];have e:b%256^(k+1) / 256=b / 256%256^k:=by
   rw[Nat.pow_succ,Nat.mul_comm,Nat.mod_mul_right_div_self]
  rw[e,Qie k (b / 256)]
  congr 1
  refine Qb9 ?_;rw[Nat.pow_succ,Nat.mul_comm];exact Nat.mod_mul_right_mod b 256 _
theorem bsList_getElem? : ∀n b i,i<n→(Qap n b)[i]? = some (UInt8.ofNat (b / 256^i))
 |0,_,_,h=>by omega
 |n+1,b,0,_=>by simp[Qap]
 |n+1,b,i+1,h=>by
  simp only[Qap,List.getElem?_cons_succ];rw[bsList_getElem? n (b / 256) i (by omega),Nat.div_div_eq_div_mul,Nat.pow_succ,Nat.mul_comm]
theorem QeJ:∀n m a b,a<256^n→Qap (n+m) (a+b*256^n)=Qap n a++Qap m b
 |0,m,a,b,h=>by simp at h;subst h;simp[Qap]
 |n+1,m,a,b,h=>by
  rw[Nat.add_right_comm];simp only[Qap,List.cons_append];rw[Nat.pow_succ]at h;have e1:(a+b*256^(n+1)) / 256=a / 256+b*256^n:=by
   rw[Nat.pow_succ,←Nat.mul_assoc,Nat.add_mul_div_right _ _ (by omega)]
  rw[e1,QeJ n m (a / 256) b (by omega)]
  congr 1
  refine Qb9 ?_;rw[Nat.pow_succ,←Nat.mul_assoc,Nat.add_mul_mod_self_right]
theorem QeU(n:Nat):2^(8*n)=256^n:=by rw[Nat.pow_mul]
theorem QaO(n b:Nat):(bsOf n b).size=n:=by
 show (Qap n b).toArray.size=n;simp[Qax]
theorem Qa4(n b:Nat):(bsOf n b).data.toList=Qap n b:=by simp[bsOf]
theorem QcP{a b:ByteArray}(h:a.data.toList=b.data.toList):a=b:=by
 obtain⟨⟨a⟩⟩:=a;obtain⟨⟨b⟩⟩:=b;simp at h;rw[h]
theorem Qid(s:ByteArray):bsOf s.size (natOf s)=s:=by
 refine QcP ?_;rw[Qa4];have:=QeI s.data.toList;simpa[natOf] using this
theorem QlT(s:ByteArray):natOf s<256^s.size:=by
 have:=QjB s.data.toList;simpa[natOf] using this
theorem bsOf_inj{n m a b:Nat}(ha:a<256^n)(hb:b<256^m)(h:bsOf n a=bsOf m b):n=m∧a=b:=by
 have h1:=congrArg ByteArray.size h;rw[QaO,QaO]at h1;subst h1;have h2:(bsOf n a).data.toList=(bsOf n b).data.toList:=by rw[h]
 rw[Qa4,Qa4]at h2;exact⟨rfl,Qfd ha hb h2⟩
def byteN(b i:Nat):Nat:=(b >>> (8*i))%256
theorem Qi6(b i:Nat):byteN b i<256:=Nat.mod_lt _ (by omega)
theorem Qmi(b i:Nat):byteN b i=b / 256^i%256:=by
 rw[byteN,Nat.shiftRight_eq_div_pow,QeU]
theorem bsOf_get? {n b i:Nat}(h:i<n):(bsOf n b)[i]? = some (UInt8.ofNat (byteN b i)):=by
 have h1:=bsList_getElem? n b i h;have hs:i<(bsOf n b).size:=by rw[QaO];exact h
 rw[getElem?_pos (bsOf n b) i hs];have h2:(bsOf n b)[i]=(Qap n b)[i]'(by rw[Qax];exact h):=by
  have h3:(Qap n b).toArray[i]'(by simpa[Qax] using h)=(Qap n b)[i]'(by rw[Qax];exact h):=by simp
  exact h3
 rw[h2];rw[gE (by rw[Qax];exact h)]at h1;rw[oI]at h1 ⊢;rw[h1];refine Qb9 ?_;rw[Qmi];simp
def subN(b l k:Nat):Nat:=(b >>> (8*l))%2^(8*(k-l))
theorem subN_lt(b l k:Nat):subN b l k<256^(k-l):=by
 rw[subN,QeU];exact Nat.mod_lt _ (Nat.pow_pos (by omega))
theorem Qkk{n b l k:Nat}(hk:k≤n):(bsOf n b).extract l k=bsOf (k-l) (subN b l k):=by
 refine QcP ?_;rw[Qa4];have e:((bsOf n b).extract l k).data.toList=((bsOf n b).data.extract l k).toList:=by rw[ByteArray.data_extract]
 rw[e,Array.toList_extract,Qa4];rw[List.extract_eq_take_drop,Qhd,Qel _ _ _ (by omega),←Qie];rw[subN,Nat.shiftRight_eq_div_pow,QeU,QeU]
def appN(n a b:Nat):Nat:=a+b <<< (8*n)
theorem appN_lt{n m a b:Nat}(ha:a<256^n)(hb:b<256^m):appN n a b<256^(n+m):=by
 rw[appN,Nat.shiftLeft_eq,QeU,Nat.pow_add];have h:(b+1)*256^n≤256^m*256^n:=Nat.mul_le_mul_right _ hb;rw[Nat.add_mul,Nat.mul_comm (256^m)]at h;omega
theorem Qlt{n m a b:Nat}(ha:a<256^n):bsOf n a++bsOf m b=bsOf (n+m) (appN n a b):=by
 refine QcP ?_;rw[Qa4,appN,Nat.shiftLeft_eq,QeU,QeJ n m a b ha];simp[Qa4]
theorem Qek(n b:Nat):(bsOf n b).toList=Qap n b:=by
 rw[ByteArray.toList_eq,Qa4]
end Go.Ab
namespace Go.Ab
open Go
inductive AV where
 |undef
 |bool (b:Bool)
 |int (k:IntKind)(n:Int)
 |str (n b:Nat)
 |nilptr
 |ptr (b o:Nat)
 |iptr (cells:List AV)
 |nilslice
 |empty
 |slice (b o n c:Nat)
 |slop (b o n es:Nat)
 |vec (l:List (List AV))
 |nilmap
 |map (b:Nat)
 |func (f:FuncId)(first captured:List AV)
 |yield (l:Nat)
 |nilFunc
 |iface (t:TypeId)(v:AV)
 |nilIface
 |agg (l:List AV)
 |tuple (l:List AV)
 deriving Inhabited
structure Gam where
 rho:Nat→Option (Nat×Nat)
 es:Nat→Nat
 top:Nat→Nat
 mem:Nat→Nat→Option Value
inductive VR (g:Gam):AV→Value→Prop
 |undef (v:Value):VR g .undef v
 |bool (b:Bool):VR g (.bool b) (.bool b)
 |int (k:IntKind)(n:Int):VR g (.int k n) (.int k n)
 |str (n b:Nat)(h:b<256^n):VR g (.str n b) (.string (bsOf n b))
 |nilptr:VR g .nilptr (.pointer none)
 |ptr (b o β base:Nat)(h:g.rho b=some (β,base)):VR g (.ptr b o) (.pointer (some ⟨β,base+o,none⟩))
 |iptr (cells:List AV)(vs:List Value)(β o:Nat)(hl:cells.length=vs.length)
   (hv:∀i (h1:i<cells.length)(h2:i<vs.length),VR g cells[i] vs[i])
   (hm:∀i (h2:i<vs.length),g.mem β (o+i)=some vs[i]):VR g (.iptr cells) (.pointer (some ⟨β,o,none⟩))
 |nilslice:VR g .nilslice (.slice none 0 0)
 |empty (a:Addr):VR g .empty (.slice (some a) 0 0)
 |sliceC (b o n c β base:Nat)(h:g.rho b=some (β,base))(hn:n≤c):VR g (.slice b o n c) (.slice (some ⟨β,base+o,none⟩) n c)
 |sliceN (b o n es c β base:Nat)(a:Addr)(h:g.rho b=some (β,base))(hn:n≤c)(ha:c=0∨a=⟨β,base+o,none⟩)
   (ht:o+c*es=g.top b):VR g (.slop b o n es) (.slice (some a) n c)
 |vec (l:List (List AV))(vs:List (List Value))(β o c sz:Nat)(hl:l.length=vs.length)(hn:l.length≤c)
   (hz:∀i (h1:i<l.length),l[i].length=sz)(hz':∀i (h1:i<vs.length),vs[i].length=sz)
   (hv:∀i (h1:i<l.length)(h2:i<vs.length) j (h3:j<l[i].length)(h4:j<vs[i].length),VR g l[i][j] vs[i][j])
   (hm:∀i (h2:i<vs.length) j (h4:j<vs[i].length),g.mem β (o+i*sz+j)=some vs[i][j]) :
   VR g (.vec l) (.slice (some ⟨β,o,none⟩) l.length c)
 |nilmap:VR g .nilmap (.map none)
 |map (b β:Nat)(h:g.rho b=some (β,0)):VR g (.map b) (.map (some β))
 |func (f:FuncId)(first captured:List AV)(fs cs:Array Value)(hf:first.length=fs.size)(hc:captured.length=cs.size)
   (hfv:∀i (h1:i<first.length)(h2:i<fs.size),VR g first[i] fs[i])
   (hcv:∀i (h1:i<captured.length)(h2:i<cs.size),VR g captured[i] cs[i]):VR g (.func f first captured) (.func (.func f) fs cs)
 |yield (l β:Nat)(h:g.rho l=some (β,0)):VR g (.yield l) (.func (.yield β) #[] #[])
 |nilFunc:VR g .nilFunc .nilFunc
 |iface (t:TypeId)(v:AV)(v':Value)(h:VR g v v'):VR g (.iface t v) (.iface t v')
 |nilIface:VR g .nilIface .nilIface
 |agg (l:List AV)(vs:Array Value)(hl:l.length=vs.size)(hv:∀i (h1:i<l.length)(h2:i<vs.size),VR g l[i] vs[i]):VR g (.agg l) (.agg vs)
 |tuple (l:List AV)(vs:Array Value)(hl:l.length=vs.size)(hv:∀i (h1:i<l.length)(h2:i<vs.size),VR g l[i] vs[i]):VR g (.tuple l) (.tuple vs)
theorem VR.bool_eq{g:Gam}{b:Bool}{v:Value}(h:VR g (.bool b) v):v=.bool b:=by cases h;rfl
theorem VR.int_eq{g:Gam}{k:IntKind}{n:Int}{v:Value}(h:VR g (.int k n) v):v=.int k n:=by cases h;rfl
theorem VR.str_eq{g:Gam}{n b:Nat}{v:Value}(h:VR g (.str n b) v):v=.string (bsOf n b)∧b<256^n:=by cases h;exact⟨rfl,‹_›⟩
theorem VR.ofString(g:Gam)(s:ByteArray):VR g (.str s.size (natOf s)) (.string s):=by
 have:=VR.str (g:=g) s.size (natOf s) (QlT s)
 rwa [Qid]at this
theorem VR.agg_eq{g:Gam}{l:List AV}{v:Value}(h:VR g (.agg l) v):∃vs,v=.agg vs:=by cases h;exact⟨_,rfl⟩
structure VRs (g:Gam)(l:List AV)(vs:List Value):Prop where
 len:l.length=vs.length
 val:∀i (h1:i<l.length)(h2:i<vs.length),VR g l[i] vs[i]
structure Gam.le (g g':Gam):Prop where
 rho:∀b x,g.rho b=some x→g'.rho b=some x
 es:∀b x,g.rho b=some x→g'.es b=g.es b
 top:∀b x,g.rho b=some x→g'.top b=g.top b
 mem:g'.mem=g.mem
theorem Gam.le_refl(g:Gam):g.le g:=⟨fun _ _ h=>h,fun _ _ _=>rfl,fun _ _ _=>rfl,rfl⟩
theorem Gam.le_trans{a b c:Gam}(h:a.le b)(k:b.le c):a.le c:=
 ⟨fun _ _ e=>k.rho _ _ (h.rho _ _ e),fun _ _ e=>(k.es _ _ (h.rho _ _ e)).trans (h.es _ _ e),fun _ _ e=>(k.top _ _ (h.rho _ _ e)).trans (h.top _ _ e),k.mem.trans h.mem⟩
theorem VR.mono{g g':Gam}(hg:g.le g'){a:AV}{v:Value}(h:VR g a v):VR g' a v:=by
 induction h with
 |undef v=>exact .undef v
 |bool b=>exact .bool b
 |int k n=>exact .int k n
 |str n b h=>exact .str n b h
 |nilptr=>exact .nilptr
 |ptr b o β base h=>exact .ptr b o β base (hg.rho _ _ h)
 |iptr cells vs β o hl hv hm ih=>exact .iptr cells vs β o hl ih fun i h2=>by rw[hg.mem];exact hm i h2
 |nilslice=>exact .nilslice
 |empty a=>exact .empty a
 |sliceC b o n c β base h hn=>exact .sliceC b o n c β base (hg.rho _ _ h) hn
 |sliceN b o n es c β base a h hn ha ht=>exact .sliceN b o n es c β base a (hg.rho _ _ h) hn ha (by rw[hg.top _ _ h];exact ht)
 |vec l vs β o c sz hl hn hz hz' hv hm ih=>exact .vec l vs β o c sz hl hn hz hz' ih fun i h2 j h4=>by rw[hg.mem];exact hm i h2 j h4
 |nilmap=>exact .nilmap
 |map b β h=>exact .map b β (hg.rho _ _ h)
 |func f first captured fs cs hf hc hfv hcv ih1 ih2=>exact .func f first captured fs cs hf hc ih1 ih2
 |yield l β h=>exact .yield l β (hg.rho _ _ h)
 |nilFunc=>exact .nilFunc
 |iface t v v' h ih=>exact .iface t v v' ih
 |nilIface=>exact .nilIface
 |agg l vs hl hv ih=>exact .agg l vs hl ih
 |tuple l vs hl hv ih=>exact .tuple l vs hl ih
theorem VRs.mono{g g':Gam}(hg:g.le g'){l:List AV}{vs:List Value}(h:VRs g l vs):VRs g' l vs:=
 ⟨h.len,fun i h1 h2=>(h.val i h1 h2).mono hg⟩
theorem VRs.nil(g:Gam):VRs g [] []:=⟨rfl,fun _ h=>absurd h (by simp)⟩
theorem VRs.cons{g:Gam}{a:AV}{v:Value}{l:List AV}{vs:List Value}(h:VR g a v)(hs:VRs g l vs):VRs g (a::l) (v::vs):=
 ⟨by simp[hs.len],fun i h1 h2=>by cases i with
  |zero=>exact h
  |succ i=>exact hs.val i (by simpa using h1) (by simpa using h2)⟩
theorem VRs.head{g:Gam}{a:AV}{v:Value}{l:List AV}{vs:List Value}(h:VRs g (a::l) (v::vs)):VR g a v:=h.val 0 (by simp) (by simp)
theorem VRs.tail{g:Gam}{a:AV}{v:Value}{l:List AV}{vs:List Value}(h:VRs g (a::l) (v::vs)):VRs g l vs:=
 ⟨by have:=h.len;simpa using this,fun i h1 h2=>h.val (i+1) (by simpa using h1) (by simpa using h2)⟩
theorem VRs.append{g:Gam}{l m:List AV}{vs us:List Value}(h:VRs g l vs)(k:VRs g m us):VRs g (l++m) (vs++us):=by
 induction l generalizing vs with
 |nil=>cases vs with
  |nil=>exact k
  |cons v vs=>exact absurd h.len (by simp)
 |cons a l ih=>cases vs with
  |nil=>exact absurd h.len (by simp)
  |cons v vs=>exact .cons h.head (ih h.tail)
theorem VRs.take{g:Gam}{l:List AV}{vs:List Value}(h:VRs g l vs)(n:Nat):VRs g (l.take n) (vs.take n):=
 ⟨by simp[h.len],fun i h1 h2=>by simp only[List.getElem_take];exact h.val i (by simp at h1;omega) (by simp at h2;omega)⟩
theorem VRs.drop{g:Gam}{l:List AV}{vs:List Value}(h:VRs g l vs)(n:Nat):VRs g (l.drop n) (vs.drop n):=
 ⟨by simp[h.len],fun i h1 h2=>by simp only[List.getElem_drop];exact h.val (n+i) (by simp at h1;omega) (by simp at h2;omega)⟩
theorem VRs.set{g:Gam}{l:List AV}{vs:List Value}(h:VRs g l vs)(n:Nat){a:AV}{v:Value}(hv:VR g a v):VRs g (l.set n a) (vs.set n v):=
 ⟨by simp[h.len],fun i h1 h2=>by
  simp only[List.getElem_set];split
  ·exact hv
  ·exact h.val i (by simpa using h1) (by simpa using h2)⟩
theorem VRs.replicate_undef{g:Gam}(n:Nat)(vs:List Value)(h:vs.length=n):VRs g (List.replicate n .undef) vs:=
 ⟨by simp[h],fun i _ _=>by simp;exact .undef _⟩
theorem VRs.agg{g:Gam}{l:List AV}{vs:List Value}(h:VRs g l vs):VR g (.agg l) (.agg vs.toArray):=
 .agg l vs.toArray (by simp[h.len]) fun i h1 h2=>by simpa using h.val i h1 (by simpa using h2)
theorem VRs.tuple{g:Gam}{l:List AV}{vs:List Value}(h:VRs g l vs):VR g (.tuple l) (.tuple vs.toArray):=
 .tuple l vs.toArray (by simp[h.len]) fun i h1 h2=>by simpa using h.val i h1 (by simpa using h2)
end Go.Ab
namespace Go.Ab
open Go
inductive AOpd where
 |tmp (t:Nat)
 |const (v:AV)
 deriving Inhabited
inductive AOp where
 |mov (x:AOpd)
 |pick (c a b:AOpd)
 |alloc (tg:Nat)(cells:List AV)
 |box (tg:Nat)(x:AOpd)
 |build (zero:List AV)(parts:List (Nat×Nat×AOpd))
 |buildSlice (len:Nat)(zero:List AV)(parts:List (Nat×Nat×AOpd))
 |load1 (a:AOpd)
 |loadN (n:Nat)(a:AOpd)
 |store (n:Nat)(a x:AOpd)
 |nilCheck (x:AOpd)
 |bin (op:BinOp)(k:Nat)(x y:AOpd)
 |un (op:UnOp)(x:AOpd)
 |convInt (k:IntKind)(x:AOpd)
 |convStr (x:AOpd)
 |convRune (x:AOpd)
 |makeInterface (t:TypeId)(x:AOpd)
 |makeFunc (f:FuncId)(first captured:List AOpd)
 |makeMap
 |makeSlice (size bytes:Nat)(zero:List AV)(len cap:AOpd)
 |sliceStr (x:AOpd)(lo hi:Option AOpd)
 |slice (size:Nat)(x:AOpd)(lo hi mx:Option AOpd)
 |sliceArr (len size:Nat)(x:AOpd)(lo hi mx:Option AOpd)
 |fieldAddr (off:Nat)(x:AOpd)
 |field (agg:Bool)(off size:Nat)(x:AOpd)
 |indexAddr (size:Nat)(x i:AOpd)
 |indexArr (len size:Nat)(x i:AOpd)
 |indexStr (x i:AOpd)
 |index (agg:Bool)(len size:Nat)(x i:AOpd)
 |lookup (kk:Nat)(zero:AV)(m k:AOpd)(ok:Bool)
 |mapUpdate (kk:Nat)(m k x:AOpd)
 |rangeStr (x:AOpd)
 |nextStr (x:AOpd)
 |typeAssert (t:TypeId)(zero:AV)(x:AOpd)(ok:Bool)
 |extract (x:AOpd)(i:Nat)
 |len (k:Nat)(x:AOpd)
 |lenArr (n:Nat)
 |minMax (mx:Bool)(xs:List AOpd)
 |append (size bytes tg:Nat)(s x:AOpd)
 |copy (size:Nat)(d s:AOpd)
 |delete (kk:Nat)(m k:AOpd)
 |clearMap (m:AOpd)
 |bytesStr (x:AOpd)
 |clearSl (zero:List AV)(x:AOpd)
 |toUnsafe (x:AOpd)
 |ofUnsafe (ok:Nat→Nat→Nat→Bool)(x:AOpd)
 |sliceData (x:AOpd)
 |unsafeStr (et:Nat)(p n:AOpd)
 |cap (x:AOpd)
 deriving Inhabited
inductive AAct where
 |op (o:AOp)
 |call (f:AOpd)(args:List AOpd)
 |defer (f:AOpd)(args:List AOpd)
 |panic (x:AOpd)
 |recover
 deriving Inhabited
structure AOper where
 dst:Option Nat
 act:AAct
 guard:Option (Nat×Bool)
 deriving Inhabited
structure Stage where
 ops:List AOper
 main:Option AOper
 again:List AOper
 mask:List Nat
 deriving Inhabited
inductive AC where
 |skip
 |region (ops:List AOper)
 |draw (plan:List Stage)(tl:List AOper)
 |seq (a b:AC)
 |cond (c:AOpd)(thn els:AC)
 |block (id:Nat)(body:AC)
 |loop (body:AC)
 |rangeFunc (f:AOpd)(params:List Nat)(assign body:AC)
 |exit (id:Nat)
 |scope (body:AC)
 |label (l:Nat)
 |goto (l:Nat)
 |ret
 |stuck
 deriving Inhabited
inductive ADef where
 |call (f:FuncId)(args:List AV)
 |collected (b:Nat)
 deriving Inhabited
inductive AO where
 |cells (l:List AV)(spare:Option Nat)(pre:Nat)(anc:List Nat)
 |old (l:List AV)
 |map (es:List (AV×AV×Nat))(clock:Nat)
 |iter (n b pos:Nat)
 |loop (st:LoopState)(pending:Option AC)(fn:FuncId)(tmps:List AV)(params:List Nat)(assign body:AC)(defers:Nat)
 |deferred (ds:Option (List ADef))
 deriving Inhabited
structure AH where
 get:Nat→Option AO
 next:Nat
def AH.allocs(h:AH):List AO→AH
 | []=>h
 |o::l=>AH.allocs {get:=fun x=>if x=h.next then some o else h.get x,next:=h.next+1} l
def AH.put(h:AH)(b:Nat)(o:AO):AH:={h with get:=fun x=>if x=b then some o else h.get x}
def AH.alloc(h:AH)(o:AO):AH:={get:=fun x=>if x=h.next then some o else h.get x,next:=h.next+1}
def AH.kill(h:AH)(l:List Nat):AH:={h with get:=fun x=>if x∈l then none else h.get x}
def AV.cells:AV→List AV
 | .agg l=>l
 |v=>[v]
def AV.one:AV→Bool
 | .undef|.agg _|.tuple _=>false
 |_=>true
def AV.known:AV→Bool
 | .undef=>false
 |_=>true
def AH.cellsAt(h:AH)(b:Nat):Option (List AV):=
 match h.get b with
 |some (.cells l _ _ _)=>some l
 |some (.old l)=>some l
 |_=>none
def AH.read(h:AH)(b o n:Nat):Option (List AV):=
 match h.cellsAt b with
 |some l=>if o+n≤l.length then some ((l.drop o).take n) else none
 |none=>none
def loadA(h:AH)(n:Nat):AV→Option (List AV)
 | .ptr b o=>h.read b o n
 | .iptr cells=>if n≤cells.length then some (cells.take n) else none
 |_=>none
def splice(l:List AV)(o:Nat)(xs:List AV):List AV:=l.take o++xs++l.drop (o+xs.length)
def AH.store(h:AH)(b o:Nat)(xs:List AV):Option AH:=
 match h.get b with
 |some (.cells l sp pre anc) =>
  if o+xs.length≤l.length∧xs.all AV.one then
   if o<pre then some ((h.kill anc).put b (.cells (splice l o xs) sp 0 [])) else some (h.put b (.cells (splice l o xs) sp pre anc))
  else none
 |_=>none
def storeA(h:AH)(xs:List AV):AV→Option AH
 | .ptr b o=>h.store b o xs
 |_=>none
def fillA(cells:List AV):List (Nat×Nat×AV)→Option (List AV)
 | []=>some cells
 |(off,size,v)::rest =>
  if v.known∧v.cells.length=size∧off+size≤cells.length then fillA (splice cells off v.cells) rest else none
def lenA:AV→Option Nat
 | .nilslice|.empty|.nilmap=>some 0
 | .slice _ _ n _|.slop _ _ n _=>some n
 | .vec l=>some l.length
 | .str n _=>some n
 |_=>none
def numOf:List AV→Option Nat
 | []=>some 0
 | .int .u8 (.ofNat c)::l=>if c<256 then (numOf l).map fun b=>c+256*b else none
 |_=>none
def Qkj:Nat→Nat→List AV
 |0,_=>[]
 |n+1,b=>.int .u8 (b%256:Nat)::Qkj n (b / 256)
def Qar(h:AH)(size n:Nat):AV→Option (List AV)
 | .nilslice|.empty=>if n=0 then some [] else none
 | .slice b o m _|.slop b o m _=>if n≤m then h.read b o (n*size) else none
 | .vec l=>if n≤l.length∧(l.take n).all (fun e=>e.length == size) then some (l.take n).flatten else none
 | .str m b=>if size=1∧n≤m then some (Qkj n b) else none
 |_=>none
def QbU(size bytes tg:Nat)(h:AH)(n:Nat)(xs:List AV)(s:AV):Option (AV×AH):=
 if xs.length=n*size∧size≠0∧bytes≠0∧bytes<1000000∧n*bytes<1000000000000∧xs.all AV.one then
  if n=0 then (match s with|.nilslice|.empty|.slice .. | .slop .. | .vec ..=>some (s,h)|_=>none) else
  match s with
  | .nilslice|.empty=>some (.slop h.next 0 n size,h.alloc (.cells xs (some tg) 0 []))
  | .slice b o m c =>
   if m*bytes<1000000000000 then
    if m+n≤c then (h.store b (o+m*size) xs).map fun h'=>(.slice b o (m+n) c,h')
    else (h.read b o (m*size)).map fun l=>(.slop h.next 0 (m+n) size,h.alloc (.cells (l++xs) (some tg) 0 []))
   else none
  | .slop b o m es =>
   match h.get b with
   |some (.cells l (some e) pre anc) =>
    if m*bytes<1000000000000∧o+m*size≤l.length∧es=size∧e=tg then
     if o+m*size+xs.length≤l.length then (h.store b (o+m*size) xs).map fun h'=>(.slop b o (m+n) es,h')
     else if o+m*size=l.length then
      some (.slop h.next 0 (m+n) size,(h.put b (.old l)).alloc (.cells (l.drop o++xs) (some tg) (m*size) (b::anc)))
     else some (.slop h.next 0 (m+n) size,(h.kill (b::anc)).alloc (.cells ((l.drop o).take (m*size)++xs) (some tg) 0 []))
    else none
   |_=>none
  |_=>none
 else none
def asNat:AV→Option Nat
 | .int _ n=>if 0≤n then some n.toNat else none
 |_=>none
def Qaz(d:Nat):Option AV→Option Nat
 |none=>some d
 |some v=>asNat v
def QbL(size:Nat)(lo hi mx:Option AV):AV→Option AV
 | .nilslice=>match Qaz 0 lo,Qaz 0 hi,Qaz 0 mx with
  |some 0,some 0,some 0=>if mx.isSome&&hi.isNone then none else some .nilslice
  |_,_,_=>none
 | .empty=>match Qaz 0 lo,Qaz 0 hi,Qaz 0 mx with
  |some 0,some 0,some 0=>if mx.isSome&&hi.isNone then none else some .empty
  |_,_,_=>none
 | .slice b o n c=>match Qaz 0 lo,Qaz n hi,mx with
  |some l,some h,none=>if l≤h∧h≤c then some (if c=l then .empty else .slice b (o+l*size) (h-l) (c-l)) else none
  |some l,some h,some m=>match asNat m,hi with
   |some m,some _=>if l≤h∧h≤m∧m≤c then some (if m=l then .empty else .slice b (o+l*size) (h-l) (m-l)) else none
   |_,_=>none
  |_,_,_=>none
 | .slop b o n es=>match Qaz 0 lo,Qaz n hi,mx with
  |some l,some h,none=>if l≤h∧h≤n∧es=size then some (.slop b (o+l*size) (h-l) es) else none
  |some l,some h,some m=>match asNat m,hi with
   |some m,some _=>if l≤h∧h≤m∧m≤n then some (if m=l then .empty else .slice b (o+l*size) (h-l) (m-l)) else none
   |_,_=>none
  |_,_,_=>none
 | .vec v=>match Qaz 0 lo,Qaz v.length hi,mx with
  |some l,some h,none=>if l≤h∧h≤v.length∧v.all (fun e=>e.length == size) then some (.vec ((v.drop l).take (h-l))) else none
  |some l,some h,some m=>match asNat m,hi with
   |some m,some _=>if l≤h∧h≤m∧m≤v.length∧v.all (fun e=>e.length == size) then some (if m=l then .empty else .vec ((v.drop l).take (h-l))) else none
   |_,_=>none
  |_,_,_=>none
 |_=>none
def sameKey:AV→AV→Option Bool
 | .int j a,.int k b=>if j=k then some (a == b) else none
 | .str n a,.str m b=>some (n == m&&a == b)
 | .bool a,.bool b=>some (a == b)
 |_,_=>none
def findA(k:AV):List (AV×AV×Nat)→Nat→Option (Option (Nat×AV))
 | [],_=>some none
 |(x,v,_)::es,i=>match sameKey k x with
  |some true=>some (some (i,v))
  |some false=>findA k es (i+1)
  |none=>none
def AV.keyKind:AV→Option Nat
 | .int ..=>some 0
 | .str ..=>some 1
 | .bool _=>some 2
 |_=>none
def Qcp(op:BinOp)(k:IntKind)(a b:Int):Option AV:=
 match op with
 | .add=>some (.int k (k.wrap (a+b)))
 | .sub=>some (.int k (k.wrap (a-b)))
 | .mul=>some (.int k (k.wrap (a*b)))
 | .quo=>if b=0 then none else some (.int k (k.wrap (a.tdiv b)))
 | .rem=>if b=0 then none else some (.int k (a.tmod b))
 | .eql=>some (.bool (a == b))
 | .neq=>some (.bool (a != b))
 | .lss=>some (.bool (a<b))
 | .leq=>some (.bool (a≤b))
 | .gtr=>some (.bool (a>b))
 | .geq=>some (.bool (a≥b))
 |_=>none
def lessN:Nat→Nat→Nat→Nat→Bool
 |_,_,0,_=>false
 |0,_,_+1,_=>true
 |n+1,a,m+1,b=>Nat.blt (a%256) (b%256)||(Nat.beq (a%256) (b%256)&&lessN n (a / 256) m (b / 256))
def Qni(op:BinOp)(n a m b:Nat):Option AV:=
 match op with
 | .add=>if n+m<1000000000000 then some (.str (n+m) (appN n a b)) else none
 | .eql=>some (.bool (n == m&&a == b))
 | .neq=>some (.bool (!(n == m&&a == b)))
 | .lss=>some (.bool (lessN n a m b))
 | .leq=>some (.bool (lessN n a m b||(n == m&&a == b)))
 | .gtr=>some (.bool (!(lessN n a m b||(n == m&&a == b))))
 | .geq=>some (.bool (!(lessN n a m b)))
 |_=>none
def Qg3:Nat→AV→AV→Option Bool
 |1,.int j x,.int k y=>if j=k then some (x == y) else none
 |2,.str n a,.str m b=>some (n == m&&a == b)
 |3,.bool a,.bool b=>some (a == b)
 |_,_,_=>none
def Qbj:Nat→List AV→List AV→Option Bool
 |c,[],[]=>if c=0 then some true else none
 |c,a::l,b::m=>match Qg3 (c%4) a b,Qbj (c / 4) l m with
  |some x,some y=>some (x&&y)
  |_,_=>none
 |_,_,_=>none
def eqOne(h:AH):Nat→AV→AV→Option Bool
 |0,.bool a,.bool b=>some (a == b)
 |1,.nilptr,.nilptr=>some true
 |1,.nilptr,.ptr .. |1,.ptr ..,.nilptr|1,.nilptr,.iptr _|1,.iptr _,.nilptr=>some false
 |1,.ptr b o,.ptr b' o' =>
  if b=b' then some (o == o') else
  match h.get b,h.get b' with
  |some (.cells _ _ _ []),some (.cells _ _ _ [])=>some false
  |_,_=>none
 |2,.nilslice,.nilslice=>some true
 |2,.nilslice,.empty|2,.empty,.nilslice|2,.nilslice,.slice .. |2,.slice ..,.nilslice|2,.nilslice,.slop .. |2,.slop ..,.nilslice|2,.nilslice,.vec _|2,.vec _,.nilslice=>some false
 |3,.nilmap,.nilmap=>some true
 |3,.nilmap,.map _|3,.map _,.nilmap=>some false
 |4,.nilFunc,.nilFunc=>some true
 |4,.nilFunc,.func .. |4,.func ..,.nilFunc=>some false
 |5,.nilIface,.nilIface=>some true
 |5,.nilIface,.iface .. |5,.iface ..,.nilIface=>some false
 |5,.iface t _,.iface u _=>if t≠u then some false else none
 |q,.agg l,.agg m=>if 10≤q then Qbj (q-10) l m else none
 |_,_,_=>none
end Go.Ab
namespace Go.Ab
open Go
def toAV:Nat→Value→Option AV
 |_,.bool b=>some (.bool b)
 |_,.int k n=>some (.int k n)
 |_,.string s=>some (.str s.size (natOf s))
 |_,.pointer none=>some .nilptr
 |_,.slice none 0 0=>some .nilslice
 |_,.map none=>some .nilmap
 |_,.nilFunc=>some .nilFunc
 |_,.nilIface=>some .nilIface
 |_,.func (.func f) a b=>if a.isEmpty&&b.isEmpty then some (.func f [] []) else none
 |n+1,.iface t v=>(toAV n v).map (.iface t)
 |n+1,.agg cs=>(cs.toList.mapM (toAV n)).map .agg
 |n+1,.tuple cs=>(cs.toList.mapM (toAV n)).map .tuple
 |_,_=>none
section
variable(P:Program)(G:Nat→Option (List AV))
def Qaa:Operand→Option AOpd
 | .tmp t=>some (.tmp t)
 | .const v=>(toAV 4 v).map .const
 | .global g=>(G g).map fun l=>.const (.iptr l)
 | .func f=>some (.const (.func f [] []))
def Qa1(l:Array Operand):Option (List AOpd):=l.toList.mapM (Qaa G)
def Qc5:Option Operand→Option (Option AOpd)
 |none=>some none
 |some x=>(Qaa G x).map some
def Qdp(t:TypeId):Option Bool:=
 match P.underlying t with
 |some (.struct _)=>some true
 |some (.array _ _)=>some true
 |some _=>some false
 |none=>none
def sizeT(t:TypeId):Option Nat:=(P.info? t).map (·.size)
def zeroT(t:TypeId):Option AV:=((P.info? t).bind (·.zero)).bind (toAV 4)
def liesT(P:Program)(u:TypeId):Nat→Nat→Nat→Bool:=fun t n o=>Nat.ble 1 (P.cellsOf t)&&Nat.ble (P.cellsOf t) n&&liesAt P P.depth t 1 o u 1
def Qby(t:TypeId):Option (List AV):=
 match zeroT P t,sizeT P t with
 |some z,some n=>if z.cells.length=n then some z.cells else none
 |_,_=>none
def Qc0(t:TypeId):Option Nat:=
 match P.underlying t with
 |some (.int _)=>some 0
 |some .string=>some 1
 |some .bool=>some 2
 |_=>none
def isConstO:Operand→Bool
 | .const _=>true
 |_=>false
def Qdg(t:TypeId):Option Nat:=
 match P.underlying t with
 |some (.int _)=>some 1
 |some .string=>some 2
 |some .bool=>some 3
 |_=>none
def codeOf:List Nat→Nat
 | []=>0
 |k::ks=>k+4*codeOf ks
def QdJ:Nat→List Field→Bool
  |_,[]=>true
  | i,f::fs=>f.offset == i && f.name != "_" && QdJ (i+1) fs
def Qg2(t:TypeId)(x y:Operand):Option Nat:=
 match P.underlying t with
 |some .bool=>some 0
 |some (.pointer e)=>if (sizeT P e).any (· != 0) then some 1 else none
 |some (.slice _)=>some 2
 |some (.map ..)=>some 3
 |some (.func ..)=>some 4
 |some (.interface _)=>if isConstO x||isConstO y then some 5 else none
 |some (.int _)|some .string=>some 9
 |some (.struct fs)=>match fs.toList.mapM fun f=>Qdg P f.type with
  |some ks=>if !P.stoodInHeld t && !P.eqGuardType P.depth t&&QdJ 0 fs.toList then some (10+codeOf ks) else none
  |none=>none
 |some (.array n e)=>match Qdg P e,sizeT P e with
  |some k,some 1=>if !P.eqGuardType P.depth t then some (10+codeOf (List.replicate n k)) else none
  |_,_=>none
 |_=>none
def Qgj(place:Nat→Option (Nat×Nat))(parts:Array (Nat×Operand)):Option (List (Nat×Nat×AOpd)):=
 parts.toList.mapM fun(i,x)=>match place i,Qaa G x with
  |some (o,s),some x=>some (o,s,x)
  |_,_=>none
def Qej(b:Builtin)(ts:Array TypeId)(args:Array Operand):Option AOp:=
 match b,ts.toList,args.toList with
 | .len,[t],[x]=>match P.underlying t,Qaa G x with
  |some .string,some x=>some (.len 0 x)
  |some (.slice _),some x=>some (.len 1 x)
  |some (.map ..),some x=>some (.len 2 x)
  |some (.array n _),some _=>some (.lenArr n)
  |some (.pointer a),some _=>match P.underlying a with|some (.array n _)=>some (.lenArr n)|_=>none
  |_,_=>none
 | .append,[t,u],[s,x]=>match P.underlying t,P.underlying u,Qaa G s,Qaa G x with
  |some (.slice _),some (.int _),_,_=>none
  |some (.slice e),some _,some s,some x=>match P.info? e,Qby P e with
   |some i,some _=>some (.append i.size i.bytes (2*e) s x)
   |_,_=>none
  |_,_,_,_=>none
 | .copy,[t,_],[d,s]=>match P.underlying t,Qaa G d,Qaa G s with
  |some (.slice e),some d,some s=>(sizeT P e).map fun n=>.copy n d s
  |_,_,_=>none
 | .max,_,_=>(Qa1 G args).map (.minMax true)
 | .min,_,_=>(Qa1 G args).map (.minMax false)
 | .delete,[t,_],[m,k]=>match P.underlying t,Qaa G m,Qaa G k with
  |some (.map kt _),some m,some k=>(Qc0 P kt).map fun kk=>.delete kk m k
  |_,_,_=>none
 | .clear,[t],[m]=>match P.underlying t,Qaa G m with
  |some (.map ..),some m=>some (.clearMap m)
  |some (.slice e),some m=>(Qby P e).map fun z=>.clearSl z m
  |_,_=>none
 | .unsafeSliceData,[_],[s]=>(Qaa G s).map .sliceData
 | .cap,[t],[x]=>match P.underlying t,Qaa G x with
  |some (.slice _),some x=>some (.cap x)
  |_,_=>none
 | .unsafeString,[pt,_],[p,n]=>match P.underlying pt,Qaa G p,Qaa G n with
  |some (.pointer e),some p,some n=>if sizeT P e == some 1 then some (.unsafeStr e p n) else none
  |_,_,_=>none
 |_,_,_=>none
def QaD:Op→Option AOp
 | .move x|.assign x=>(Qaa G x).map .mov
 | .pick c a b=>match Qaa G c,Qaa G a,Qaa G b with|some c,some a,some b=>some (.pick c a b)|_,_,_=>none
 | .alloc t=>(Qby P t).map (.alloc (2*t+1))
 | .box t x=>(Qaa G x).map (.box (2*t+1))
 | .build t parts =>
  match P.underlying t,zeroT P t with
  |some (.struct fs),some (.agg z)=>if fs.toList.all (fun f=>(sizeT P f.type).isSome) then (Qgj G (fun i=>(fs[i]?).bind fun f=>(sizeT P f.type).map fun s=>(f.offset,s)) parts).map (.build z) else none
  |some (.array _ e),some (.agg z)=>match sizeT P e with|some s=>(Qgj G (fun i=>some (i*s,s)) parts).map (.build z)|none=>none
  |_,_=>none
 | .buildSlice t len parts =>
  match P.underlying t with
  |some (.slice e)=>match Qby P e with
   |some z=>if len*z.length≤16777216 then
     (Qgj G (fun i=>some (i*z.length,z.length)) parts).map (.buildSlice len ((List.range (len*z.length)).map fun i=>z.getD (i%z.length) .undef)) else none
   |none=>none
  |_=>none
 | .load t a=>match Qdp P t,sizeT P t,Qaa G a with
  |some true,some n,some a=>some (.loadN n a)
  |some false,some _,some a=>some (.load1 a)
  |_,_,_=>none
 | .store t a x=>match sizeT P t,Qaa G a,Qaa G x with|some n,some a,some x=>some (.store n a x)|_,_,_=>none
 | .nilCheck x=>(Qaa G x).map .nilCheck
 | .binOp op t x y _=>match Qg2 P t x y,Qaa G x,Qaa G y with
  |some q,some x,some y=>some (.bin op q x y)
  |_,_,_=>none
 | .unOp op _ x=>(Qaa G x).map (.un op)
 | .convert s d x=>match P.underlying s,P.underlying d,Qaa G x with
  |some (.int _),some (.int k),some x=>some (.convInt k x)
  |some (.int _),some .string,some x=>some (.convRune x)
  |some .string,some .string,some x=>some (.convStr x)
  |some (.slice e),some .string,some x=>(match P.underlying e with|some (.int .u8)=>some (.bytesStr x)|_=>none)
  |some (.pointer t),some .unsafePointer,some x=>(match sizeT P t with|some (_+1)=>some (.toUnsafe x)|_=>none)
  |some .unsafePointer,some (.pointer u),some x=>(match sizeT P u with|some (_+1)=>some (.ofUnsafe (liesT P u) x)|_=>none)
  |_,_,_=>none
 | .makeInterface t x=>match P.underlying t,Qaa G x with
  |some (.interface _),_=>none
  |some _,some x=>some (.makeInterface t x)
  |_,_=>none
 | .makeFunc (.func f) first captured=>match Qa1 G first,Qa1 G captured with|some a,some b=>some (.makeFunc f a b)|_,_=>none
 | .makeMap _ none=>some .makeMap
 | .makeMap t (some (.const (.int _ _)))=>match P.underlying t with|some (.map ..)=>some .makeMap|_=>none
 | .makeSlice t l c=>match P.underlying t,Qaa G l,Qaa G c with
  |some (.slice e),some l,some c=>match P.info? e,Qby P e with
   |some i,some z=>some (.makeSlice i.size i.bytes z l c)
   |_,_=>none
  |_,_,_=>none
 | .slice t x lo hi mx =>
  match P.underlying t,Qaa G x,Qc5 G lo,Qc5 G hi,Qc5 G mx with
  |some (.array n e),some x,some lo,some hi,some mx=>(sizeT P e).map fun s=>.sliceArr n s x lo hi mx
  |some .string,some x,some lo,some hi,some none=>some (.sliceStr x lo hi)
  |some (.slice e),some x,some lo,some hi,some mx=>(sizeT P e).map fun s=>.slice s x lo hi mx
  |_,_,_,_,_=>none
 | .fieldAddr t x f=>match P.underlying t,Qaa G x with
  |some (.struct fs),some x=>match fs[f]? with
   |some f=>if (sizeT P f.type).any (· != 0) then some (.fieldAddr f.offset x) else none
   |none=>none
  |_,_=>none
 | .field t x f=>match P.underlying t,Qaa G x with
  |some (.struct fs),some x=>match fs[f]? with
   |some f=>match Qdp P f.type,sizeT P f.type with|some a,some s=>some (.field a f.offset s x)|_,_=>none
   |none=>none
  |_,_=>none
 | .indexAddr t x i=>match P.underlying t,Qaa G x,Qaa G i with
  |some (.slice e),some x,some i=>(sizeT P e).map fun s=>.indexAddr s x i
  |some (.array n e),some x,some i=>(sizeT P e).map fun s=>.indexArr n s x i
  |_,_,_=>none
 | .index t x i=>match P.underlying t,Qaa G x,Qaa G i with
  |some .string,some x,some i=>some (.indexStr x i)
  |some (.array n e),some x,some i=>match Qdp P e,sizeT P e with|some a,some s=>some (.index a n s x i)|_,_=>none
  |_,_,_=>none
 | .lookup t x i ok=>match P.underlying t,Qaa G x,Qaa G i with
  |some (.map k e),some x,some i=>match Qc0 P k,zeroT P e with|some kk,some z=>some (.lookup kk z x i ok)|_,_=>none
  |_,_,_=>none
 | .mapUpdate t m k x|.insert t m k x=>match P.underlying t,Qaa G m,Qaa G k,Qaa G x with
  |some (.map kt _),some m,some k,some x=>(Qc0 P kt).map fun kk=>.mapUpdate kk m k x
  |_,_,_,_=>none
 | .range t x=>match P.underlying t,Qaa G x with
  |some .string,some x=>some (.rangeStr x)
  |_,_=>none
 | .next x true=>(Qaa G x).map .nextStr
 | .typeAssert x _ t ok=>match P.underlying t,Qaa G x with
  |some (.interface _),_=>none
  |some _,some x=>(zeroT P t).map fun z=>.typeAssert t z x ok
  |_,_=>none
 | .extract x i=>(Qaa G x).map fun x=>.extract x i
 | .call {callee:=.builtin b,args,argTypes}=>Qej P G b argTypes args
 |_=>none
def Qbu:Op→Option AAct
 | .call {callee:=.value f,args,argTypes:=_}=>match Qaa G f,Qa1 G args with|some f,some l=>some (.call f l)|_,_=>none
 | .call {callee:=.builtin .recover,..}=>some .recover
 | .defer {callee:=.value f,args,argTypes:=_}=>match Qaa G f,Qa1 G args with|some f,some l=>some (.defer f l)|_,_=>none
 | .panic x=>(Qaa G x).map .panic
 |op=>(QaD P G op).map .op
def QcN(ops:Array Oper):Option (Nat×Bool)→Option (Option (Nat×Bool))
 |none=>some none
 |some (j,b)=>((ops[j]?).bind (·.dst)).map fun t=>some (t,b)
def Qcr(ops:Array Oper)(o:Oper):Option AOper:=
 match Qbu P G o.op,QcN ops o.guard with
 |some a,some gd=>some {dst:=o.dst,act:=a,guard:=gd}
 |_,_=>none
end
end Go.Ab
namespace Go.Ab
open Go
def pureV:Sem Value→Option AV
 | .pure (.int k n)=>some (.int k n)
 | .pure (.bool b)=>some (.bool b)
 |_=>none
def binA(h:AH)(op:BinOp)(q:Nat):AV→AV→Option AV
 | .int j a,.int k b =>
  match op with
  | .shl|.shr=>pureV (Op.shift op j a k b)
  | .and|.or|.xor|.andNot=>if j=k then pureV (Op.intBits op j a b) else none
  |_=>if j=k then Qcp op j a b else none
 | .str n a,.str m b=>Qni op n a m b
 |x,y =>
  match op with
  | .eql=>(eqOne h q x y).map .bool
  | .neq=>(eqOne h q x y).map fun b=>.bool !b
  |_=>none
def unA(op:UnOp):AV→Option AV
 | .bool b=>match op with|.not=>some (.bool !b)|_=>none
 | .int k n=>match op with
  | .neg=>some (.int k (k.wrap (0-n)))
  | .xor=>pureV (Op.intBits .xor k (if k.signed then -1 else k.max) n)
  |_=>none
 |_=>none
def QeZ(mx:Bool):AV→List AV→Option AV
 |v,[]=>some v
 | .int j a,.int k b::rest=>if j=k then QeZ mx (.int j (if mx then (if b>a then b else a) else (if b<a then b else a))) rest else none
 |_,_=>none
def Qdm(mx:Bool):List AV→Option AV
 | []=>none
 |v::rest=>QeZ mx v rest
def partA(agg:Bool)(off size:Nat)(l:List AV):Option AV:=
 if agg then (if off+size≤l.length then some (.agg ((l.drop off).take size)) else none) else l[off]?
def Qbs(size:Nat)(x i:AV):Option AV:=
 match asNat i with
 |none=>none
 |some n =>
  match x with
  | .slice b o m _|.slop b o m _=>if n<m then some (.ptr b (o+n*size)) else none
  | .vec l=>match l[n]? with|some e=>if e.length=size then some (.iptr e) else none|none=>none
  |_=>none
def lenK(h:AH):Nat→AV→Option Nat
 |0,.str n _=>some n
 |1,.nilslice|1,.empty=>some 0
 |1,.slice _ _ n _|1,.slop _ _ n _=>some n
 |1,.vec l=>some l.length
 |2,.nilmap=>some 0
 |2,.map b=>match h.get b with|some (.map es _)=>some es.length|_=>none
 |_,_=>none
def exec(h:AH)(ev:AOpd→AV):AOp→Option (AV×AH)
 | .mov x=>some (ev x,h)
 | .pick c a b=>match ev c with|.bool t=>some (if t then ev a else ev b,h)|_=>none
 | .alloc tg cells=>some (.ptr h.next 0,h.alloc (.cells cells (some tg) 0 []))
 | .box tg x=>if (ev x).known then some (.ptr h.next 0,h.alloc (.cells (ev x).cells (some tg) 0 [])) else none
 | .build zero parts=>(fillA zero (parts.map fun(o,s,x)=>(o,s,ev x))).map fun l=>(.agg l,h)
 | .buildSlice len zero parts=>(fillA zero (parts.map fun(o,s,x)=>(o,s,ev x))).map fun l=>(.slice h.next 0 len len,h.alloc (.cells l none 0 []))
 | .load1 a=>match loadA h 1 (ev a) with|some [v]=>some (v,h)|_=>none
 | .loadN n a=>(loadA h n (ev a)).map fun l=>(.agg l,h)
 | .store n a x=>if (ev x).known∧(ev x).cells.length=n then (storeA h (ev x).cells (ev a)).map fun h'=>(.undef,h') else none
 | .nilCheck x=>match ev x with|.nilptr|.nilIface|.nilFunc|.undef=>none|v=>some (v,h)
 | .bin op q x y=>(binA h op q (ev x) (ev y)).map (·,h)
 | .un op x=>(unA op (ev x)).map (·,h)
 | .convInt k x=>match ev x with|.int _ n=>some (.int k (k.wrap n),h)|_=>none
 | .convStr x=>match ev x with|.str n b=>some (.str n b,h)|_=>none
 | .convRune x=>match asNat (ev x) with|some n=>if n<128 then some (.str 1 n,h) else none|none=>none
 | .makeInterface t x=>some (.iface t (ev x),h)
 | .makeFunc f first captured=>some (.func f (first.map ev) (captured.map ev),h)
 | .makeMap=>some (.map h.next,h.alloc (.map [] 0))
 | .makeSlice size bytes zero len cap =>
  match ev len,ev cap with
  | .int .i64 l,.int .i64 c =>
   if 0≤l∧l≤c∧c*bytes≤1000000000∧c≤1000000000∧zero.length=size then
    some (.slice h.next 0 l.toNat c.toNat,h.alloc (.cells (List.replicate c.toNat zero).flatten none 0 [])) else none
  |_,_=>none
 | .sliceStr x lo hi =>
  match ev x with
  | .str n b=>match Qaz 0 (lo.map ev),Qaz n (hi.map ev) with
   |some l,some k=>if l≤k∧k≤n then some (.str (k-l) (subN b l k),h) else none
   |_,_=>none
  |_=>none
 | .slice size x lo hi mx=>(QbL size (lo.map ev) (hi.map ev) (mx.map ev) (ev x)).map (·,h)
 | .sliceArr len size x lo hi mx =>
  match ev x,Qaz 0 (lo.map ev),Qaz len (hi.map ev),mx with
  | .ptr b o,some l,some k,none=>if l≤k∧k≤len then some (if len=l then .empty else .slice b (o+l*size) (k-l) (len-l),h) else none
  |_,_,_,_=>none
 | .fieldAddr off x=>match ev x with
  | .ptr b o=>some (.ptr b (o+off),h)
  | .iptr cells=>if off≤cells.length then some (.iptr (cells.drop off),h) else none
  |_=>none
 | .field agg off size x=>match ev x with|.agg l=>(partA agg off size l).map (·,h)|_=>none
 | .indexAddr size x i=>(Qbs size (ev x) (ev i)).map (·,h)
 | .indexArr len size x i =>
  match asNat (ev i),ev x with
  |some n,.ptr b o=>if n<len then some (.ptr b (o+n*size),h) else none
  |some n,.iptr cells=>if n<len∧n*size≤cells.length then some (.iptr (cells.drop (n*size)),h) else none
  |_,_=>none
 | .indexStr x i =>
  match asNat (ev i),ev x with
  |some i,.str n b=>if i<n then some (.int .u8 (byteN b i),h) else none
  |_,_=>none
 | .index agg len size x i =>
  match asNat (ev i),ev x with
  |some n,.agg l=>if n<len then (partA agg (n*size) size l).map (·,h) else none
  |_,_=>none
 | .lookup kk zero m k ok =>
  if (ev k).keyKind=some kk then
   match ev m with
   | .nilmap=>some (if ok then .tuple [zero,.bool false] else zero,h)
   | .map b=>match h.get b with
    |some (.map es _)=>match findA (ev k) es 0 with
     |some (some (_,v))=>some (if ok then .tuple [v,.bool true] else v,h)
     |some none=>some (if ok then .tuple [zero,.bool false] else zero,h)
     |none=>none
    |_=>none
   |_=>none
  else none
 | .mapUpdate kk m k x =>
  if (ev k).keyKind=some kk then
   match ev m with
   | .map b=>match h.get b with
    |some (.map es clock)=>match findA (ev k) es 0 with
     |some (some (i,_))=>some (.undef,h.put b (.map (es.modify i fun e=>(ev k,ev x,e.2.2)) clock))
     |some none=>some (.undef,h.put b (.map (es++[(ev k,ev x,clock)]) (clock+1)))
     |none=>none
    |_=>none
   |_=>none
  else none
 | .rangeStr x=>match ev x with|.str n b=>some (.ptr h.next 0,h.alloc (.iter n b 0))|_=>none
 | .nextStr x =>
  match ev x with
  | .ptr b 0=>match h.get b with
   |some (.iter n s pos) =>
    if pos<n then (if byteN s pos<128 then some (.tuple [.bool true,.int .i64 pos,.int .i32 (byteN s pos)],h.put b (.iter n s (pos+1))) else none)
    else some (.tuple [.bool false],h)
   |_=>none
  |_=>none
 | .typeAssert t zero x ok =>
  match ev x with
  | .iface u v=>if u=t then some (if ok then .tuple [v,.bool true] else v,h) else if ok then some (.tuple [zero,.bool false],h) else none
  | .nilIface=>if ok then some (.tuple [zero,.bool false],h) else none
  |_=>none
 | .extract x i=>match ev x with|.tuple l=>l[i]?.map (·,h)|_=>none
 | .len k x=>(lenK h k (ev x)).map fun(n:Nat)=>(.int .i64 n,h)
 | .lenArr n=>some (.int .i64 n,h)
 | .minMax mx xs=>(Qdm mx (xs.map ev)).map (·,h)
 | .append size bytes tg s x=>match lenA (ev x) with
  |some n=>match Qar h size n (ev x) with|some xs=>QbU size bytes tg h n xs (ev s)|none=>none
  |none=>none
 | .copy size d s=>match lenA (ev s),lenA (ev d) with
  |some n,some m=>match Qar h size (min n m) (ev s) with
   |some xs=>match ev d with
    | .slice b o _ _|.slop b o _ _=>(h.store b o xs).map fun h'=>(.int .i64 (min n m:Nat),h')
    | .nilslice|.empty=>some (.int .i64 0,h)
    |_=>none
   |none=>none
  |_,_=>none
 | .delete kk m k =>
  if (ev k).keyKind=some kk then
   match ev m with
   | .nilmap=>some (.tuple [],h)
   | .map b=>match h.get b with
    |some (.map es clock)=>match findA (ev k) es 0 with
     |some (some (i,_))=>some (.tuple [],h.put b (.map (es.eraseIdx i) clock))
     |some none=>some (.tuple [],h)
     |none=>none
    |_=>none
   |_=>none
  else none
 | .bytesStr x =>
  match ev x with
  | .nilslice|.empty=>some (.str 0 0,h)
  | .slice b o n _|.slop b o n _=>match h.read b o n with
   |some l=>match numOf l with
    |some v=>some (.str n v,h)
    |none=>none
   |none=>none
  |_=>none
 | .clearMap m=>match ev m with
  | .nilmap=>some (.tuple [],h)
  | .map b=>match h.get b with|some (.map _ clock)=>some (.tuple [],h.put b (.map [] clock))|_=>none
  |_=>none
 | .clearSl zero x=>match ev x with
  | .nilslice|.empty=>some (.tuple [],h)
  | .slice b o n _|.slop b o n _=>if n == 0 then some (.tuple [],h) else (h.store b o (List.replicate n zero).flatten).map fun h'=>(.tuple [],h')
  |_=>none
 | .toUnsafe x=>match ev x with
  | .nilptr=>some (.nilptr,h)
  | .ptr b o=>match h.cellsAt b with
   |some l=>if o<l.length then some (.ptr b o,h) else none
   |none=>none
  |_=>none
 | .ofUnsafe ok x=>match ev x with
  | .nilptr=>some (.nilptr,h)
  | .ptr b o=>match h.get b with
   |some (.cells l (some e) _ _)=>if e%2=1∧ok (e / 2) l.length o=true then some (.ptr b o,h) else none
   |_=>none
  |_=>none
 | .sliceData x=>match ev x with
  | .nilslice=>some (.nilptr,h)
  | .slice b o _ c=>if c=0 then none else some (.ptr b o,h)
  | .slop b o n _=>if n=0 then none else some (.ptr b o,h)
  |_=>none
 | .unsafeStr et p n=>match asNat (ev n) with
  |some m=>match ev p with
   | .nilptr=>if m=0 then some (.str 0 0,h) else none
   | .ptr b o=>if m=0 then some (.str 0 0,h) else if m<1000000000000 then (match h.get b with
     |some (.cells _ (some e) _ anc)=>if e / 2=et then (match h.read b o m with
      |some l=>(match numOf l with|some v=>some (.str m v,h.kill (b::anc))|none=>none)
      |none=>none) else none
     |_=>none) else none
   |_=>none
  |none=>none
 | .cap x=>match ev x with
  | .nilslice|.empty=>some (.int .i64 0,h)
  | .slice _ _ _ c=>some (.int .i64 (c:Nat),h)
  |_=>none
end Go.Ab
namespace Go.Ab
open Go
mutual
def AV.eqS:AV→AV→Bool
 | .undef,w=>match w with|.undef=>true|_=>false
 | .bool a,w=>match w with|.bool b=>a == b|_=>false
 | .int j a,w=>match w with|.int k b=>j == k&&a == b|_=>false
 | .str a b,w=>match w with|.str c d=>a == c&&b == d|_=>false
 | .nilptr,w=>match w with|.nilptr=>true|_=>false
 | .ptr a b,w=>match w with|.ptr c d=>a == c&&b == d|_=>false
 | .iptr l,w=>match w with|.iptr m=>eqSL l m|_=>false
 | .nilslice,w=>match w with|.nilslice=>true|_=>false
 | .empty,w=>match w with|.empty=>true|_=>false
 | .slice a b c d,w=>match w with|.slice a' b' c' d'=>a == a'&&b == b'&&c == c'&&d == d'|_=>false
 | .slop a b c d,w=>match w with|.slop a' b' c' d'=>a == a'&&b == b'&&c == c'&&d == d'|_=>false
 | .vec l,w=>match w with|.vec m=>eqSLL l m|_=>false
 | .nilmap,w=>match w with|.nilmap=>true|_=>false
 | .map a,w=>match w with|.map b=>a == b|_=>false
 | .func f a b,w=>match w with|.func f' a' b'=>f == f'&&eqSL a a'&&eqSL b b'|_=>false
 | .yield a,w=>match w with|.yield b=>a == b|_=>false
 | .nilFunc,w=>match w with|.nilFunc=>true|_=>false
 | .iface t v,w=>match w with|.iface u x=>t == u&&AV.eqS v x|_=>false
 | .nilIface,w=>match w with|.nilIface=>true|_=>false
 | .agg l,w=>match w with|.agg m=>eqSL l m|_=>false
 | .tuple l,w=>match w with|.tuple m=>eqSL l m|_=>false
def eqSL:List AV→List AV→Bool
 | [],m=>match m with|[]=>true|_=>false
 |v::l,m=>match m with|w::m=>AV.eqS v w&&eqSL l m|_=>false
def eqSLL:List (List AV)→List (List AV)→Bool
 | [],m=>match m with|[]=>true|_=>false
 |v::l,m=>match m with|w::m=>eqSL v w&&eqSLL l m|_=>false
end
mutual
theorem AV.eqS_refl:∀v:AV,AV.eqS v v=true
 | .undef|.nilptr|.nilslice|.empty|.nilmap|.nilFunc|.nilIface=>by simp[AV.eqS]
 | .bool _|.int .. | .str .. | .ptr .. | .slice .. | .slop .. | .map _|.yield _=>by simp[AV.eqS]
 | .iptr l|.agg l|.tuple l=>by simp[AV.eqS,Qdu l]
 | .vec l=>by simp[AV.eqS,Qh9 l]
 | .func _ a b=>by simp[AV.eqS,Qdu a,Qdu b]
 | .iface _ v=>by simp[AV.eqS,AV.eqS_refl v]
theorem Qdu:∀l:List AV,eqSL l l=true
 | []=>by simp[eqSL]
 |v::l=>by simp[eqSL,AV.eqS_refl v,Qdu l]
theorem Qh9:∀l:List (List AV),eqSLL l l=true
 | []=>by simp[eqSLL]
 |v::l=>by simp[eqSLL,Qdu v,Qh9 l]
end
mutual
theorem AV.eqS_eq:∀v w:AV,AV.eqS v w=true→v=w
 | .undef,w|.nilptr,w|.nilslice,w|.empty,w|.nilmap,w|.nilFunc,w|.nilIface,w=>by cases w<;>simp[AV.eqS]
 | .bool _,w|.int ..,w|.str ..,w|.ptr ..,w|.slice ..,w|.slop ..,w|.map _,w|.yield _,w=>by cases w<;>simp[AV.eqS]<;>(intros;simp_all)
 | .iptr l,w|.agg l,w|.tuple l,w=>by cases w<;>simp[AV.eqS]<;>exact Qg1 l _
 | .vec l,w=>by cases w<;>simp[AV.eqS];exact Ql9 l _
 | .func _ a b,w=>by cases w<;>simp[AV.eqS];exact fun h1 h2 h3=>⟨h1,Qg1 a _ h2,Qg1 b _ h3⟩
 | .iface _ v,w=>by cases w<;>simp[AV.eqS];exact fun h1 h2=>⟨h1,AV.eqS_eq v _ h2⟩
theorem Qg1:∀l m:List AV,eqSL l m=true→l=m
 | [],m=>by cases m<;>simp[eqSL]
 |v::l,m=>by cases m<;>simp[eqSL];exact fun h1 h2=>⟨AV.eqS_eq v _ h1,Qg1 l _ h2⟩
theorem Ql9:∀l m:List (List AV),eqSLL l m=true→l=m
 | [],m=>by cases m<;>simp[eqSLL]
 |v::l,m=>by cases m<;>simp[eqSLL];exact fun h1 h2=>⟨Qg1 v _ h1,Ql9 l _ h2⟩
end
end Go.Ab
namespace Go.Ab
open Go
structure APanic where
 v:AV
 recovered:Bool
 deriving Inhabited
inductive AMode where
 |run
 |returning
 |panicking (chain:List APanic)
 deriving Inhabited
inductive AItem where
 |code (c:AC)
 |inBlock (id:Nat)
 |inLoop (body:AC)
 |inScope (body:AC)
 |inRegion (rest:List AOper)
 |inDraw (ops:List AOper)(main:Option AOper)(again:List AOper)(mask:List Nat)(plan:List Stage)
 |inMain (o:AOper)(again:List AOper)(mask:List Nat)(plan:List Stage)
 |drawRest (plan:List Stage)
 |ends (tl:List AOper)
 |inRangeFunc (l:Nat)
 |endRangeFunc (l:Nat)
 |beginRound
 deriving Inhabited
structure AF where
 fn:FuncId
 tmps:List AV
 todo:List AItem
 defers:List ADef
 mode:AMode
 kind:CallKind
 roundOf:Option Nat
 deriving Inhabited
structure AS where
 fr:AF
 cs:List AF
 h:AH
inductive ARes where
 |tmp (t:Nat)
 |cell (t:Nat)(agg:Bool)(n:Nat)
 deriving Inhabited
structure AFun where
 ntmps:Nat
 results:List ARes
 body:AC
 deriving Inhabited
def aev(tmps:List AV):AOpd→AV
 | .tmp t=>tmps.getD t .undef
 | .const v=>v
def AF.enter(F:FuncId→Option AFun)(f:FuncId)(args:List AV)(kind:CallKind):Option AF:=
 (F f).map fun fn=>{fn:=f,tmps:=args++List.replicate (fn.ntmps-args.length) .undef,todo:=[.code fn.body],defers:=[],mode:=.run,kind,roundOf:=none}
def Qal(id:Nat):List AItem→Option (List AItem)
 | .inBlock id'::k=>if id' == id then some k else Qal id k
 |_::k=>Qal id k
 | []=>none
def Qbn:AC→Nat→Option AC
 | .seq a b,l =>
  match Qbn a l with
  |some rest=>some (.seq rest b)
  |none=>Qbn b l
 | .label l',l=>if l' == l then some .skip else none
 |_,_=>none
def Qcy(l:Nat):List AItem→Option (List AItem)
 | .inScope body::k =>
  match Qbn body l with
  |some rest=>some (.code rest::.inScope body::k)
  |none=>Qcy l k
 |_::k=>Qcy l k
 | []=>none
def setDst(tmps:List AV)(dst:Option Nat)(v:AV):List AV:=
 match dst with
 |some d=>tmps.set d v
 |none=>tmps
def Qai(tmps:List AV)(o:AOper):Option Bool:=
 match o.guard with
 |none=>some true
 |some (t,want) =>
  match tmps[t]? with
  |some (.bool b)=>some (b == want)
  |some (.tuple [])=>some false
  |_=>none
def AV.same:Nat→AV→AV→Bool
 |0,_,_=>false
 |_,.bool a,.bool b=>a == b
 |_,.int j a,.int k b=>j == k&&a == b
 |_,.str a b,.str c d=>a == c&&b == d
 |_,.nilptr,.nilptr|_,.nilslice,.nilslice|_,.empty,.empty|_,.nilmap,.nilmap|_,.nilFunc,.nilFunc|_,.nilIface,.nilIface=>true
 |_,.ptr a b,.ptr c d=>a == c&&b == d
 |_,.slice a b c d,.slice a' b' c' d'=>a == a'&&b == b'&&c == c'&&d == d'
 |_,.slop a b c d,.slop a' b' c' d'=>a == a'&&b == b'&&c == c'&&d == d'
 |_,.map a,.map b=>a == b
 |_,.yield a,.yield b=>a == b
 |n+1,.iface t v,.iface u x=>t == u&&AV.same n v x
 |n+1,.agg l,.agg m|n+1,.tuple l,.tuple m|n+1,.iptr l,.iptr m=>l.length == m.length&&(l.zip m).all fun x=>AV.same n x.1 x.2
 |n+1,.func f a b,.func f' a' b'=>f == f'&&a.length == a'.length&&b.length == b'.length&&((a.zip a').all fun x=>AV.same n x.1 x.2)&&((b.zip b').all fun x=>AV.same n x.1 x.2)
 |n+1,.vec l,.vec m=>l.length == m.length&&(l.zip m).all fun x=>x.1.length == x.2.length&&(x.1.zip x.2).all fun y=>AV.same n y.1 y.2
 |_,_,_=>false
def AOp.makes:AOp→Bool
 | .alloc .. | .box .. | .buildSlice .. | .makeMap|.makeSlice ..=>true
 |_=>false
def AOp.quiet:AOp→Bool
 | .mov _|.pick .. | .build .. | .load1 _|.loadN .. | .nilCheck _|.bin .. | .un .. | .convInt .. | .convStr _|.convRune _|.makeInterface .. | .makeFunc .. | .sliceStr .. | .slice .. | .sliceArr .. | .fieldAddr .. | .field .. | .indexAddr ..
 | .indexArr .. | .indexStr .. | .index .. | .lookup .. | .typeAssert .. | .extract .. | .len .. | .lenArr _|.minMax .. | .toUnsafe _|.ofUnsafe .. | .sliceData _|.cap _=>true
 |_=>false
def QgA(tmps:List AV)(a:AOp):Option AO:=
 match exec ⟨fun _=>none,0⟩ (aev tmps) a with
 |some (_,h)=>h.get 0
 |none=>none
def AO.same:AO→AO→Bool
 | .cells l sp 0 [],.cells m sq 0 []=>sp == sq&&l.length == m.length&&(l.zip m).all fun x=>AV.same 20 x.1 x.2
 | .map [] c,.map [] d=>c == d
 |_,_=>false
def AV.block:AV→Option Nat
 | .ptr b 0|.slice b 0 _ _|.map b=>some b
 |_=>none
def again(tmps:List AV)(h:AH)(o:AOper):Bool:=
 match Qai tmps o with
 |some false=>true
 |some true =>
  match o.act,o.dst.map fun d=>tmps.getD d .undef with
  | .op a,some v =>
   if a.quiet then (match exec h (aev tmps) a with|some (v',_)=>AV.eqS v v'|none=>false)
   else if a.makes then (match v.block,QgA tmps a with|some b,some o=>(match h.get b with|some o'=>AO.same o' o|none=>false)|_,_=>false)
   else false
  |_,_=>false
 |none=>false
inductive ATarget where
 |enter (f:FuncId)(args:List AV)
 |round (l:Nat)(args:List AV)
def QaR:AV→List AV→Option ATarget
 | .func f first captured,args=>some (.enter f (first++args++captured))
 | .yield l,args=>some (.round l args)
 |_,_=>none
abbrev Memo:=FuncId→List AV→Option (AH→Option (AV×AH))
def AF.finish(fr:AF)(h:AH)(v:AV):Option AF:=
 match fr.mode,fr.todo with
 | .run,.inRegion (o::rest)::k=>some {fr with tmps:=setDst fr.tmps o.dst v,todo:=.inRegion rest::k}
 | .run,.inMain o ag _ plan::k =>
  let tmps:=setDst fr.tmps o.dst v
  if ag.all (again tmps h) then some {fr with tmps,todo:=.drawRest plan::k} else none
 | .run,.inRangeFunc l::k=>some {fr with todo:=.endRangeFunc l::k}
 |_,_=>none
def acall(F:FuncId→Option AFun)(M:Memo)(s:AS)(t:ATarget):Option AS:=
 match t with
 | .enter f args =>
  match M f args with
  |some c=>match c s.h with
   |some (v,h)=>(s.fr.finish h v).map fun fr=>{fr,cs:=s.cs,h}
   |none=>none
  |none=>(AF.enter F f args .normal).map fun fr=>{fr,cs:=s.fr::s.cs,h:=s.h}
 | .round l args =>
  match s.h.get l with
  |some (.loop _ _ fn tmps params assign body _) =>
   if args.length=params.length∧(F fn).isSome then
    some {fr:={fn,tmps:=(params.zip args).foldl (fun t x=>t.set x.1 x.2) tmps,todo:=[.code assign,.beginRound,.code body],defers:=[],mode:=.run,kind:=.normal,roundOf:=some l},cs:=s.fr::s.cs,h:=s.h}
   else none
  |_=>none
def QdR(tmps:List AV)(mask:List Nat):List AV:=mask.foldl (fun t d=>t.set d .undef) tmps
def AF.leftTmps(fr:AF):List AV:=
 match fr.todo with
 | .inMain _ _ mask _::_=>QdR fr.tmps mask
 |_=>fr.tmps
def AF.raise(fr:AF)(l:List APanic):AF:=
 match fr.mode with
 | .panicking chain=>{fr with mode:=.panicking (l++chain)}
 | .returning=>{fr with mode:=.panicking l}
 | .run=>{fr with tmps:=fr.leftTmps,mode:=.panicking l}
def QeL(kind:CallKind):List AF→Option (AV×List AF)
 |caller::rest =>
  match kind,caller.mode with
  | .deferred,.panicking ({v,recovered:=false}::older)=>some (v,{caller with mode:=.panicking ({v,recovered:=true}::older)}::rest)
  |_,_=>none
 | []=>none
def aoper(F:FuncId→Option AFun)(M:Memo)(s:AS)(o:AOper):Option AS:=
 let go (v:AV) (h:AH):Option AS:=(s.fr.finish h v).map fun fr=>{s with fr,h}
 match o.act with
 | .op a=>match exec s.h (aev s.fr.tmps) a with
  |some (v,h)=>go v h
  |none=>none
 | .call f args=>match QaR (aev s.fr.tmps f) (args.map (aev s.fr.tmps)) with
  |some t=>acall F M s t
  |none=>none
 | .defer f args =>
  match aev s.fr.tmps f with
  | .func fn first captured =>
   let d:=ADef.call fn (first++args.map (aev s.fr.tmps)++captured)
   match s.fr.roundOf with
   |none=>({s.fr with defers:=d::s.fr.defers}.finish s.h .undef).map fun fr=>{s with fr}
   |some _=>none
  |_=>none
 | .panic x=>match aev s.fr.tmps x with
  | .iface t v=>some {s with fr:=s.fr.raise [{v:=.iface t v,recovered:=false}]}
  |_=>none
 | .recover =>
  match s.fr.roundOf with
  |some _=>none
  |none =>
   if s.fr.kind=.normal∨(s.fr.kind=.deferred∧s.cs.isEmpty=false) then
    match QeL s.fr.kind s.cs with
    |some (v,cs)=>(s.fr.finish s.h v).map fun fr=>{s with fr,cs}
    |none=>go .nilIface s.h
   else none
def Qcg(h:AH)(tmps:List AV):ARes→Option AV
 | .tmp t=>some (tmps.getD t .undef)
 | .cell t agg n =>
  match loadA h n (tmps.getD t .undef) with
  |some l=>if agg then some (.agg l) else (match l with|[v]=>some v|_=>none)
  |none=>none
def QaA(h:AH)(tmps:List AV)(rs:List ARes):Option AV:=
 match rs.mapM (Qcg h tmps) with
 |some [v]=>some v
 |some l=>some (.tuple l)
 |none=>none
def Qii(s:AS)(v:AV):Option AS:=
 match s.cs with
 |caller::rest =>
  match s.fr.kind with
  | .normal=>(caller.finish s.h v).map fun fr=>{fr,cs:=rest,h:=s.h}
  | .deferred =>
   match caller.mode with
   | .run=>none
   | .panicking ({recovered:=true,..}::_)=>some {fr:={caller with mode:=.returning},cs:=rest,h:=s.h}
   |_=>some {fr:=caller,cs:=rest,h:=s.h}
  |_=>none
 | []=>none
def Qc7(F:FuncId→Option AFun)(s:AS):Option AS:=
 match s.fr.defers with
 | .collected b::ds =>
  match s.h.get b with
  |some (.deferred (some calls))=>some {s with fr:={s.fr with defers:=calls++ds},h:=s.h.put b (.deferred none)}
  |_=>none
 | .call f args::ds=>(AF.enter F f args .deferred).map fun fr=>{fr,cs:={s.fr with defers:=ds}::s.cs,h:=s.h}
 | [] =>
  match s.fr.mode with
  | .run=>none
  | .panicking chain=>match s.cs with
   |caller::rest=>some {fr:=caller.raise chain,cs:=rest,h:=s.h}
   | []=>none
  | .returning=>match F s.fr.fn with
   |some fn=>match QaA s.h s.fr.tmps fn.results with
    |some v=>Qii s v
    |none=>none
   |none=>none
def aend(s:AS)(jump:Option AC)(plain:Bool):Option AS:=
 match s.fr.roundOf with
 |none=>if plain then some {s with fr:={s.fr with mode:=.returning}} else none
 |some l =>
  match s.fr.kind,s.h.get l with
  | .normal,some (.loop _ _ fn tmps params assign body d) =>
   Qii {s with h:=s.h.put l (.loop (if jump.isNone then .ready else .done) jump fn tmps params assign body d)} (.bool jump.isNone)
  |_,_=>none
def aone(F:FuncId→Option AFun)(M:Memo)(s:AS)(o:AOper):Option AS:=
 match Qai s.fr.tmps o with
 |none=>none
 |some false=>(s.fr.finish s.h (.tuple [])).map fun fr=>{s with fr}
 |some true=>aoper F M s o
def QdT(tmps:List AV):Option Nat→Bool
 |some d=>(tmps[d]?).isSome
 |none=>true
def QeO(s:AS)(o:AOper)(todo:List AItem):Option AS:=
 match Qai s.fr.tmps o with
 |none=>none
 |some false=>some {s with fr:={s.fr with tmps:=setDst s.fr.tmps o.dst (.tuple []),todo}}
 |some true =>
  match o.act with
  | .op a=>match exec s.h (aev s.fr.tmps) a with
   |some (v,h)=>if (a.makes && !QdT s.fr.tmps o.dst)=true then none else some {s with fr:={s.fr with tmps:=setDst s.fr.tmps o.dst v,todo},h}
   |none=>none
  |_=>none
def AH.whole(h:AH)(b o:Nat):Bool:=match h.get b with
 |some (.cells _ _ pre _)=>Nat.ble pre o
 |_=>false
def ends2(tmps:List AV)(h:AH)(a b:AOper):Option AH:=
 match a.act,b.act with
 | .op (.store n x y),.op (.store n' x' y') =>
  match aev tmps x,aev tmps x' with
  | .ptr c o,.ptr c' o' =>
   if (!Nat.beq c c'&&h.whole c o&&h.whole c' o')=true then
    match exec h (aev tmps) (.store n x y) with
    |some (_,h1)=>match exec h1 (aev tmps) (.store n' x' y') with
     |some (_,h2)=>some h2
     |none=>none
    |none=>none
   else none
  |_,_=>none
 |_,_=>none
def arun(F:FuncId→Option AFun)(M:Memo)(s:AS):Option AS:=
 let to (todo:List AItem):Option AS:=some {s with fr:={s.fr with todo}}
 match s.fr.todo with
 | []=>aend s none true
 | .code .ret::_=>aend s (some .ret) true
 | .code .stuck::_=>none
 | .code .skip::k|.code (.label _)::k|.inBlock _::k|.inScope _::k|.inRegion []::k|.drawRest []::k|.ends []::k=>to k
 | .code (.seq a b)::k=>to (.code a::.code b::k)
 | .code (.cond c thn els)::k=>match aev s.fr.tmps c with
  | .bool b=>to (.code (if b then thn else els)::k)
  |_=>none
 | .code (.block id body)::k=>to (.code body::.inBlock id::k)
 | .code (.loop body)::k|.inLoop body::k=>to (.code body::.inLoop body::k)
 | .code (.scope body)::k=>to (.code body::.inScope body::k)
 | .code (.exit id)::k=>match Qal id k with|some k'=>to k'|none=>aend s (some (.exit id)) false
 | .code (.goto l)::k=>match Qcy l k with|some k'=>to k'|none=>aend s (some (.goto l)) false
 | .code (.rangeFunc f params assign body)::k =>
  match s.fr.roundOf with
  |some _=>none
  |none =>
   let b:=s.h.next
   let l:=b+1
   let h:=(s.h.alloc (.deferred (some []))).alloc (.loop .ready none s.fr.fn s.fr.tmps params assign body b)
   let fr:={s.fr with todo:=.inRangeFunc l::k,defers:=.collected b::s.fr.defers}
   match QaR (aev s.fr.tmps f) [.yield l] with
   |some (.enter f args)=>acall F M {fr,cs:=s.cs,h} (.enter f args)
   |_=>none
 | .beginRound::k =>
  match s.fr.roundOf with
  |some l=>match s.h.get l with
   |some (.loop .ready pend fn tmps params assign body d)=>some {s with fr:={s.fr with todo:=k},h:=s.h.put l (.loop .busy pend fn tmps params assign body d)}
   |_=>none
  |none=>none
 | .endRangeFunc l::k =>
  match s.h.get l with
  |some (.loop st pend fn tmps params assign body d) =>
   if st=.busy then none else
   some {s with fr:={s.fr with todo:=match pend with|some c=>.code c::k|none=>k},h:=s.h.put l (.loop .exhausted pend fn tmps params assign body d)}
  |_=>none
 | .code (.region ops)::k=>to (.inRegion ops::k)
 | .code (.draw plan tl)::k=>to (.drawRest plan::.ends tl::k)
 | .inRegion (o::_)::_|.inMain o _ _ _::_=>aone F M s o
 | .drawRest (st::plan)::k=>to (.inDraw st.ops st.main st.again st.mask plan::k)
 | .inDraw (o::rest) main ag mask plan::k=>QeO s o (.inDraw rest main ag mask plan::k)
 | .inDraw [] (some o) ag mask plan::k=>to (.inMain o ag mask plan::k)
 | .inDraw [] none _ _ plan::k=>to (.drawRest plan::k)
 | .ends [a,b]::k=>match ends2 s.fr.tmps s.h a b with
  |some h=>some {s with fr:={s.fr with todo:=k},h}
  |none=>none
 | .ends _::_=>none
 | .inRangeFunc _::_=>none
def astep(F:FuncId→Option AFun)(M:Memo)(s:AS):Option AS:=
 match s.fr.mode with
 | .run=>arun F M s
 |_=>Qc7 F s
def Qcf(F:FuncId→Option AFun)(M:Memo):Nat→AS→Option AS
 |0,s=>some s
 |n+1,s=>match astep F M s with
  |some s'=>Qcf F M n s'
  |none=>none
end Go.Ab
namespace Go.Ab
open Go
def AOp.opds:AOp→List AOpd
 | .mov x|.box _ x|.load1 x|.loadN _ x|.nilCheck x|.un _ x|.convInt _ x|.convStr x|.convRune x|.makeInterface _ x|.fieldAddr _ x|.field _ _ _ x|.rangeStr x|.nextStr x|.typeAssert _ _ x _|.extract x _|.len _ x|.clearMap x|.bytesStr x|.clearSl _ x|.toUnsafe x|.ofUnsafe _ x|.sliceData x|.cap x=>[x]
 | .pick c a b=>[c,a,b]
 | .alloc .. | .makeMap|.lenArr _=>[]
 | .build _ parts|.buildSlice _ _ parts=>parts.map (·.2.2)
 | .store _ a x|.bin _ _ a x|.makeSlice _ _ _ a x|.indexAddr _ a x|.indexArr _ _ a x|.indexStr a x|.index _ _ _ a x|.lookup _ _ a x _|.append _ _ _ a x|.copy _ a x|.delete _ a x|.unsafeStr _ a x=>[a,x]
 | .makeFunc _ a b=>a++b
 | .sliceStr x lo hi=>x::(lo.toList++hi.toList)
 | .slice _ x lo hi mx|.sliceArr _ _ x lo hi mx=>x::(lo.toList++hi.toList++mx.toList)
 | .mapUpdate _ m k x=>[m,k,x]
 | .minMax _ xs=>xs
def AAct.opds:AAct→List AOpd
 | .op a=>a.opds
 | .call f args|.defer f args=>f::args
 | .panic x=>[x]
 | .recover=>[]
def AOpd.slot:AOpd→Option Nat
 | .tmp t=>some t
 | .const _=>none
def AOper.reads(o:AOper):List Nat:=o.guard.toList.map (·.1)++o.act.opds.filterMap AOpd.slot
def AOper.names(o:AOper):List Nat:=o.dst.toList++o.reads
def AOp.looked:AOp→Bool
 | .load1 _|.loadN .. | .lookup .. | .len 2 _|.bin _ 1 _ _|.toUnsafe _|.ofUnsafe ..=>true
 |a=>a.makes
def AAct.looked:AAct→Bool
 | .op a=>a.looked
 |_=>false
structure IStage where
 ops:List Nat
 main:Option Nat
 deriving Inhabited
def IStage.all(st:IStage):List Nat:=st.ops++st.main.toList
def opAt(l:List AOper)(i:Nat):AOper:=l.getD i {dst:=none,act:=.recover,guard:=none}
def early(l:List AOper)(i:Nat):Bool:=match (opAt l i).dst with
 |none=>true
 |some t=>(List.range i).all fun j=>!(opAt l j).names.contains t
def isF(l:List AOper)(i:Nat):Bool:=(match (opAt l i).act with
 | .op a=>a.quiet||(a.makes&&(opAt l i).dst.isSome)
 |_=>false)&&early l i
def bit(bs:List Nat)(j i:Nat):Bool:=(bs.getD j 0).testBit i
def QkQ(l:List AOper):List Nat:=(List.range l.length).filter fun i=>!isF l i
def QfW(l:List AOper)(bs:List Nat):List Nat:=
 match (QkQ l).reverse with
 |b::a::_=>if bit bs b a||bit bs a b then [] else [a,b]
 |_=>[]
def QhP(l:List AOper)(bs:List Nat):List IStage:=
 let n:=l.length
 let mains:=(QkQ l).take ((QkQ l).length-(QfW l bs).length)
 let floats:=(List.range n).filter (isF l)
 let level (j:Nat):Nat:=(mains.filter fun m=>bit bs j m).length
 (List.range (mains.length+1)).map fun k=>{ops:=floats.filter fun j=>level j == k,main:=mains[k]?}
def ordOk(n:Nat)(bs:List Nat):List Nat→Nat→Bool
 | [],v=>v == 2^n-1
 |j::r,v=>Nat.blt j n && !v.testBit j&&(bs.getD j 0 &&& v) == bs.getD j 0&&ordOk n bs r (v ||| 2^j)
def Qd1(bs:List Nat):Option Nat→List IStage→Bool
 |_,[]=>true
 |m,st::r=>(match m with|some m=>st.all.all fun j=>bit bs j m|none=>true)&&(st.main.isSome||r.isEmpty)&&Qd1 bs st.main r
def Qiw(l:List AOper)(bs:List Nat):Bool:=
 (List.range l.length).all fun i=>match (opAt l i).dst with
  |none=>true
  |some t=>(List.range l.length).all fun j=>(j == i&&(!isF l i || !(opAt l j).reads.contains t)) || !(opAt l j).names.contains t||bit bs j i||(!isF l i&&bit bs i j)
def kindOk(l:List AOper)(plan:List IStage):Bool:=plan.all fun st=>st.ops.all (isF l)&&st.main.all fun m=>!isF l m
def Qdo(o:AOper):Bool:=o.dst.isNone&&o.guard.isNone&&(match o.act with|.op (.store ..)=>true|_=>false)
def Qfk(l:List AOper)(bs:List Nat):List Nat→Bool
 | []=>true
 | [a,b]=>Qdo (opAt l a)&&Qdo (opAt l b)&&(List.range l.length).all fun j=>j == a||j == b||(bit bs a j&&bit bs b j) || !(opAt l j).act.looked
 |_=>false
def tailB(bs:List Nat)(tl:List Nat)(plan:List IStage):Bool:=tl.all fun i=>plan.all fun st=>match st.main with|some x=>bit bs i x|none=>true
def QlO(l:List AOper)(bs:List Nat)(plan:List IStage)(tl:List Nat):Bool:=
 ordOk l.length bs (plan.flatMap IStage.all++tl) 0&&Qd1 bs none plan&&Qiw l bs&&kindOk l plan&&Qfk l bs tl&&tailB bs tl plan
def Qev(bs:List Nat)(fs:List Nat)(m:Nat):List Nat:=fs.filter fun j=>!bit bs m j
def Qkv(l:List AOper)(bs:List Nat)(st:IStage)(fs:List Nat):Stage:=
 let pend:=match st.main with|some m=>Qev bs fs m|none=>[]
 {ops:=st.ops.map (opAt l),main:=st.main.map (opAt l),again:=(pend.map (opAt l)).filter (·.act.looked),mask:=(pend.map (opAt l)).filterMap (·.dst)}
def Qbo(l:List AOper)(bs:List Nat):List IStage→List Nat→List Stage
 | [],_=>[]
 |st::r,fs=>Qkv l bs st (fs++st.ops)::Qbo l bs r (fs++st.ops)
def Qfp(l:List AOper)(bs:List Nat):Option AC:=
 let plan:=QhP l bs
 let tl:=QfW l bs
 if QlO l bs plan tl then some (.draw (Qbo l bs plan []) (tl.map (opAt l))) else none
section
variable(P:Program)(G:Nat→Option (List AV))
def QcM(ops:Array Oper)(draw:Bool):Option AC:=
 match ops.toList.mapM (Qcr P G ops) with
 |none=>none
 |some l =>
  if draw then (if (Region.departs ops && !P.follows .mixedOrders)=true then none else Qfp l (Region.before ops).toList) else some (.region l)
def Qah:Code→Option AC
 | .skip=>some .skip
 | .region _ ops draw=>QcM P G ops draw
 | .seq a b=>match Qah a,Qah b with|some a,some b=>some (.seq a b)|_,_=>none
 | .cond c a b=>match Qaa G c,Qah a,Qah b with|some c,some a,some b=>some (.cond c a b)|_,_,_=>none
 | .block id a=>(Qah a).map (.block id)
 | .loop a=>(Qah a).map .loop
 | .rangeFunc f params a b=>match Qaa G f,Qah a,Qah b with|some f,some a,some b=>some (.rangeFunc f params.toList a b)|_,_,_=>none
 | .exit id=>some (.exit id)
 | .scope a=>(Qah a).map .scope
 | .label l=>some (.label l)
 | .goto l=>some (.goto l)
 | .ret=>some .ret
 | .refuse _=>some .stuck
def Qcw:ResultVar→Option ARes
 | .tmp t=>some (.tmp t)
 | .cell a t=>match Qdp P t,sizeT P t with|some b,some n=>some (.cell a b n)|_,_=>none
def Qg6(f:FuncId):Option AFun:=
  match P.funcs[f]? with
  |some fn=>match fn.body,fn.results.toList.mapM (Qcw P) with
    | some c,some rs=>if fn.name == "runtime.NumGoroutine" then none else (Qah P G c).map fun body=>{ ntmps:=fn.ntmps,results:=rs,body }
    |_,_=>none
  |none=>none
end
end Go.Ab
namespace Go.Ab
open Go
theorem Qbb{ev ev':AOpd→AV}{o:Option AOpd}(h:∀x∈o.toList,ev x=ev' x):o.map ev=o.map ev':=by
 cases o with
 |none=>rfl
 |some x=>simp[h x (by simp)]
theorem Qa6{h:AH}{ev ev':AOpd→AV}(a:AOp)(hh:∀x∈a.opds,ev x=ev' x):exec h ev a=exec h ev' a:=by
 cases a
 case build z parts =>
  have:(parts.map fun(o,s,x)=>(o,s,ev x))=parts.map fun(o,s,x)=>(o,s,ev' x) :=
   List.map_congr_left fun⟨o,s,x⟩ hp=>by show (o,s,ev x)=(o,s,ev' x);rw[hh x (List.mem_map.2 ⟨_,hp,rfl⟩)]
  simp only[exec];rw[this]
 case buildSlice len z parts =>
  have:(parts.map fun(o,s,x)=>(o,s,ev x))=parts.map fun(o,s,x)=>(o,s,ev' x) :=
   List.map_congr_left fun⟨o,s,x⟩ hp=>by show (o,s,ev x)=(o,s,ev' x);rw[hh x (List.mem_map.2 ⟨_,hp,rfl⟩)]
  simp only[exec];rw[this]
 case makeFunc f first captured =>
  have h1:first.map ev=first.map ev':=List.map_congr_left fun x hx=>hh x (by simp[AOp.opds,hx])
  have h2:captured.map ev=captured.map ev':=List.map_congr_left fun x hx=>hh x (by simp[AOp.opds,hx])
  simp only[exec];rw[h1,h2]
 case minMax mx xs =>
  have h1:xs.map ev=xs.map ev':=List.map_congr_left fun x hx=>hh x (by simp[AOp.opds,hx])
  simp only[exec];rw[h1]
 case sliceStr x lo hi =>
  have h1:lo.map ev=lo.map ev':=Qbb fun x hx=>hh x (by simp[AOp.opds,hx])
  have h2:hi.map ev=hi.map ev':=Qbb fun x hx=>hh x (by simp[AOp.opds,hx])
  have h3:=hh x (by simp[AOp.opds]);simp only[exec];rw[h1,h2,h3]
 case slice n x lo hi mx =>
  have h1:lo.map ev=lo.map ev':=Qbb fun x hx=>hh x (by simp[AOp.opds,hx])
  have h2:hi.map ev=hi.map ev':=Qbb fun x hx=>hh x (by simp[AOp.opds,hx])
  have h4:mx.map ev=mx.map ev':=Qbb fun x hx=>hh x (by simp[AOp.opds,hx])
  have h3:=hh x (by simp[AOp.opds]);simp only[exec];rw[h1,h2,h3,h4]
 case sliceArr n m x lo hi mx =>
  have h1:lo.map ev=lo.map ev':=Qbb fun x hx=>hh x (by simp[AOp.opds,hx])
  have h2:hi.map ev=hi.map ev':=Qbb fun x hx=>hh x (by simp[AOp.opds,hx])
  have h3:=hh x (by simp[AOp.opds]);simp only[exec];rw[h1,h2,h3]
 all_goals
  simp only[AOp.opds,List.mem_cons,List.not_mem_nil,or_false,forall_eq_or_imp,forall_eq]at hh;simp only[exec,hh]
def AH.sub(h h':AH):Prop:=∀b o,h.get b=some o→h'.get b=some o
theorem AH.sub_alloc{h:AH}{o:AO}(hn:h.get h.next=none):h.sub (h.alloc o):=by
 intro b o' hb;have:b≠h.next:=fun e=>by rw[e,hn]at hb;cases hb
 simp[AH.alloc,this,hb]
theorem Qhc{h h':AH}(hs:h.sub h'){b:Nat}{l:List AV}(hc:h.cellsAt b=some l):h'.cellsAt b=some l:=by
 unfold AH.cellsAt at hc ⊢;cases hg:h.get b with
 |none=>simp[hg]at hc
 |some o=>rw[hs b o hg];rw[hg]at hc;exact hc
theorem read_sub{h h':AH}(hs:h.sub h'){b o n:Nat}{l:List AV}(hc:h.read b o n=some l):h'.read b o n=some l:=by
 unfold AH.read at hc ⊢;cases hg:h.cellsAt b with
 |none=>simp[hg]at hc
 |some l'=>rw[Qhc hs hg];rw[hg]at hc;exact hc
theorem QjM{h h':AH}(hs:h.sub h'){n:Nat}{a:AV}{l:List AV}(hc:loadA h n a=some l):loadA h' n a=some l:=by
 cases a with
 |ptr b o=>exact read_sub hs hc
 |iptr cells=>exact hc
 |_=>simp[loadA]at hc
theorem Qj9{h h':AH}(hs:h.sub h'){q:Nat}{a b:AV}{r:Bool}(hc:eqOne h q a b=some r):eqOne h' q a b=some r:=by
 unfold eqOne at hc ⊢;split at hc<;>try (exact hc)
 split at hc
 ·rename_i he;simp only[he];exact hc
 ·rename_i hne;simp only[hne,if_false];split at hc
  ·rename_i h1 h2;rw[hs _ _ h1,hs _ _ h2];exact hc
  ·cases hc
theorem binA_sub{h h':AH}(hs:h.sub h'){op:BinOp}{q:Nat}{a b r:AV}(hc:binA h op q a b=some r):binA h' op q a b=some r:=by
 unfold binA at hc ⊢;split at hc
 ·exact hc
 ·exact hc
 ·split at hc
  ·obtain⟨c,hc1,rfl⟩:=oM hc;rw[Qj9 hs hc1];rfl
  ·obtain⟨c,hc1,rfl⟩:=oM hc;rw[Qj9 hs hc1];rfl
  ·cases hc
theorem lenK_sub{h h':AH}(hs:h.sub h'){k:Nat}{a:AV}{n:Nat}(hc:lenK h k a=some n):lenK h' k a=some n:=by
 unfold lenK at hc ⊢;split at hc<;>try (exact hc)
 split at hc
 ·rename_i h1;rw[hs _ _ h1];exact hc
 ·cases hc
theorem QdL{h h' h1:AH}{ev:AOpd→AV}{a:AOp}{v:AV}(hq:a.quiet=true)(he:exec h ev a=some (v,h1))(hs:h.sub h'):h1=h∧exec h' ev a=some (v,h'):=by
 cases a<;>simp only[AOp.quiet,Bool.false_eq_true]at hq
 case load1 x =>
  simp only[exec]at he ⊢;split at he
  ·rename_i u hl;cases he;refine⟨rfl,?_⟩;rw[QjM hs hl]
  ·cases he
 case loadN n x =>
  simp only[exec]at he ⊢;obtain⟨l,hl,e⟩:=oM he;cases e;refine⟨rfl,?_⟩;rw[QjM hs hl];rfl
 case bin op q x y =>
  simp only[exec]at he ⊢;obtain⟨l,hl,e⟩:=oM he;cases e;refine⟨rfl,?_⟩;rw[binA_sub hs hl];rfl
 case len k x =>
  simp only[exec]at he ⊢;obtain⟨l,hl,e⟩:=oM he;cases e;refine⟨rfl,?_⟩;rw[lenK_sub hs hl];rfl
 case toUnsafe x =>
  simp only[exec]at he ⊢;split at he
  ·cases he;exact⟨rfl,rfl⟩
  ·split at he
   ·rename_i hc;rw[Qhc hs hc];split at he
    ·rename_i hlt;cases he;exact⟨rfl,by simp only[hlt,if_true]⟩
    ·cases he
   ·cases he
  ·cases he
 case ofUnsafe ok x =>
  simp only[exec]at he ⊢;split at he
  ·cases he;exact⟨rfl,rfl⟩
  ·split at he
   ·rename_i hc;rw[hs _ _ hc];split at he
    ·rename_i hlt;cases he;exact⟨rfl,by simp only[hlt,and_self,if_true]⟩
    ·cases he
   ·cases he
  ·cases he
 case lookup kk z m k ok =>
  simp only[exec]at he ⊢;split at he
  ·rename_i hk;simp only[hk,if_true];split at he
   ·cases he;exact⟨rfl,rfl⟩
   ·split at he
    ·rename_i hg;rw[hs _ _ hg];simp only[];split at he<;>first|(cases he;exact⟨rfl,rfl⟩)|cases he
    ·cases he
   ·cases he
  ·cases he
 all_goals
  simp only[exec]at he ⊢
  first
   |(simp only[Option.map_eq_some_iff,Prod.mk.injEq]at he;obtain⟨l,hl,e1,e2⟩:=he;subst e1 e2;exact⟨rfl,by rw[hl];rfl⟩)
   |(cases he;exact⟨rfl,rfl⟩)
   |((repeat' split at he)<;>first|(cases he;done)|(cases he;exact⟨rfl,rfl⟩)|(cases he;simp_all;done)|(simp only[Option.map_eq_some_iff,Prod.mk.injEq]at he;obtain⟨l,hl,e1,e2⟩:=he;subst e1 e2;simp_all;done))
theorem Qol{h h':AH}{q:Nat}(hq:q≠1){a b:AV}:eqOne h q a b=eqOne h' q a b:=by
 unfold eqOne;split<;>first|rfl|exact absurd rfl hq
theorem binA_any{h h':AH}{op:BinOp}{q:Nat}(hq:q≠1){a b:AV}:binA h op q a b=binA h' op q a b:=by
 unfold binA;split
 ·rfl
 ·rfl
 ·rw[Qol (h':=h') hq]
theorem lenK_any{h h':AH}{k:Nat}(hk:k≠2){a:AV}:lenK h k a=lenK h' k a:=by
 unfold lenK;split<;>first|rfl|exact absurd rfl hk
theorem Qoj{h h1:AH}(h':AH){ev:AOpd→AV}{a:AOp}{v:AV}(hq:a.quiet=true)(hl:a.looked=false)(he:exec h ev a=some (v,h1)):exec h' ev a=some (v,h'):=by
 cases a<;>simp only[AOp.quiet,Bool.false_eq_true]at hq
 case load1 x=>simp[AOp.looked]at hl
 case loadN n x=>simp[AOp.looked]at hl
 case lookup=>simp[AOp.looked]at hl
 case toUnsafe=>simp[AOp.looked]at hl
 case ofUnsafe=>simp[AOp.looked]at hl
 case bin op q x y =>
  have hq1:q≠1:=fun e=>by subst e;simp[AOp.looked]at hl
  simp only[exec]at he ⊢;rw[binA_any (h':=h') hq1]at he;obtain⟨l,hl,e⟩:=oM he;cases e;rw[hl];rfl
 case len k x =>
  have hk:k≠2:=fun e=>by subst e;simp[AOp.looked]at hl
  simp only[exec]at he ⊢;rw[lenK_any (h':=h') hk]at he;obtain⟨l,hl,e⟩:=oM he;cases e;rw[hl];rfl
 all_goals
  simp only[exec]at he ⊢
  first
   |(simp only[Option.map_eq_some_iff,Prod.mk.injEq]at he;obtain⟨l,hl,e1,e2⟩:=he;subst e1 e2;rw[hl];rfl)
   |(cases he;rfl)
   |((repeat' split at he)<;>first|(cases he;done)|(cases he;rfl)|(cases he;simp_all;done)|(simp only[Option.map_eq_some_iff,Prod.mk.injEq]at he;obtain⟨l,hl,e1,e2⟩:=he;subst e1 e2;simp_all;done))
def MkOk(mk:Nat→AV):Prop:=
 (∀n,(mk n).block=some n)∧(∀(g g2:Gam) (n b:Nat) (u:Value),VR g (mk n) u→(∀y,g.rho n=some y→g2.rho b=some y)→VR g2 (mk b) u) ∧
  ∀(g:Gam) (n:Nat) (u:Value),VR g (mk n) u→∃y,g.rho n=some y
theorem QlU:MkOk fun n=>.ptr n 0:=by
 refine⟨fun _=>rfl,fun g g2 n b u h hy=>?_,fun g n u h=>?_⟩
 ·cases h with
  |ptr _ _ β base hr=>exact .ptr b 0 β base (hy _ hr)
 ·cases h with
  |ptr _ _ β base hr=>exact⟨_,hr⟩
theorem QhW(n c:Nat):MkOk fun b=>.slice b 0 n c:=by
 refine⟨fun _=>rfl,fun g g2 m b u h hy=>?_,fun g m u h=>?_⟩
 ·cases h with
  |sliceC _ _ _ _ β base hr hn=>exact .sliceC b 0 n c β base (hy _ hr) hn
 ·cases h with
  |sliceC _ _ _ _ β base hr hn=>exact⟨_,hr⟩
theorem mkOk_map:MkOk fun n=>.map n:=by
 refine⟨fun _=>rfl,fun g g2 n b u h hy=>?_,fun g n u h=>?_⟩
 ·cases h with
  |map _ β hr=>exact .map b β (hy _ hr)
 ·cases h with
  |map _ β hr=>exact⟨_,hr⟩
def AO.plain:AO→Prop
 | .cells _ _ 0 []=>True
 | .map [] _=>True
 |_=>False
theorem Qh8{h h1:AH}{ev:AOpd→AV}{a:AOp}{v:AV}(hm:a.makes=true)(he:exec h ev a=some (v,h1)) :
  ∃mk ob,MkOk mk∧ob.plain∧∀h':AH,exec h' ev a=some (mk h'.next,h'.alloc ob):=by
 cases a<;>simp only[AOp.makes,Bool.false_eq_true]at hm
 case alloc tg l=>exact⟨_,.cells l (some tg) 0 [],QlU,trivial,fun h'=>rfl⟩
 case box tg x =>
  simp only[exec]at he ⊢;split at he
  ·rename_i hk;exact⟨_,.cells (ev x).cells (some tg) 0 [],QlU,trivial,fun h'=>if_pos hk⟩
  ·cases he
 case buildSlice len z parts =>
  simp only[exec]at he ⊢;obtain⟨l,hl,e⟩:=oM he;refine⟨_,_,QhW len len,?_,fun h'=>by rw[hl];rfl⟩
  trivial
 case makeMap=>exact⟨_,.map [] 0,mkOk_map,trivial,fun h'=>rfl⟩
 case makeSlice size bytes z l c =>
  simp only[exec]at he ⊢;split at he
  ·rename_i l' c' e1 e2;split at he
   ·rename_i hc;refine⟨_,.cells (List.replicate c'.toNat z).flatten none 0 [],QhW l'.toNat c'.toNat,trivial,fun h'=>?_⟩;simp only[e1,e2,if_pos hc]
   ·cases he
  ·cases he
theorem sameL{n:Nat}(ih:∀v w,AV.same n v w=true→v=w):∀(l m:List AV),l.length=m.length→((l.zip m).all fun x=>AV.same n x.1 x.2)=true→l=m
 | [],[],_,_=>rfl
 | [],_::_,h,_=>by simp at h
 |_::_,[],h,_=>by simp at h
 |a::l,b::m,h,hs=>by
  simp only[List.zip_cons_cons,List.all_cons,Bool.and_eq_true]at hs;rw[ih a b hs.1,sameL ih l m (by simpa using h) hs.2]
theorem sameLL{n:Nat}(ih:∀v w,AV.same n v w=true→v=w):∀(l m:List (List AV)),l.length=m.length →
  ((l.zip m).all fun x=>x.1.length == x.2.length&&(x.1.zip x.2).all fun y=>AV.same n y.1 y.2)=true→l=m
 | [],[],_,_=>rfl
 | [],_::_,h,_=>by simp at h
 |_::_,[],h,_=>by simp at h
 |a::l,b::m,h,hs=>by
  simp only[List.zip_cons_cons,List.all_cons,Bool.and_eq_true,beq_iff_eq]at hs;rw[sameL ih a b hs.1.1 hs.1.2,sameLL ih l m (by simpa using h) hs.2]
theorem AV.same_eq:∀(n:Nat)(v w:AV),AV.same n v w=true→v=w:=by
 intro n
 induction n with
 |zero=>intro v w h;simp[AV.same]at h
 |succ n ih =>
  intro v w h;unfold AV.same at h;split at h<;>first
   |(simp only[Bool.and_eq_true,beq_iff_eq]at h;simp_all;done)
   |rfl
   |skip
  all_goals first
   |(rename_i heq;cases heq;simp only[Bool.and_eq_true,beq_iff_eq]at h;obtain⟨h1,h2⟩:=h;rw[h1,ih _ _ h2])
   |(rename_i heq;cases heq;simp only[Bool.and_eq_true,beq_iff_eq]at h;rw[sameL ih _ _ h.1 h.2])
   |(rename_i heq;cases heq;simp only[Bool.and_eq_true,beq_iff_eq]at h;obtain⟨⟨⟨⟨h1,h2⟩,h3⟩,h4⟩,h5⟩:=h;rw[h1,sameL ih _ _ h2 h4,sameL ih _ _ h3 h5])
   |(rename_i heq;cases heq;simp only[Bool.and_eq_true,beq_iff_eq]at h;rw[sameLL ih _ _ h.1 h.2])
   |(simp at h)
theorem AO.same_eq{a b:AO}(h:AO.same a b=true):a=b:=by
 unfold AO.same at h;split at h
 ·simp only[Bool.and_eq_true,beq_iff_eq]at h;rw[h.1.1,sameL (AV.same_eq 20) _ _ h.1.2 h.2]
 ·simp only[beq_iff_eq]at h;rw[h]
 ·cases h
end Go.Ab
namespace Go.Ab
open Go Go.RowKit
inductive DefR (g:Gam):ADef→Deferred→Prop
 |call (f:FuncId)(args:List AV)(cap as:Array Value)(h:VRs g args (as.toList++cap.toList)):DefR g (.call f args) {target:=.fn (.func f) cap,args:=as}
 |collected (b β:Nat)(h:g.rho b=some (β,0)):DefR g (.collected b) {target:=.collected β,args:=#[]}
theorem DefR.mono{g g':Gam}(hg:g.le g'){a:ADef}{d:Deferred}(h:DefR g a d):DefR g' a d:=by
 cases h with
 |call f args cap as h=>exact .call f args cap as (h.mono hg)
 |collected b β h=>exact .collected b β (hg.rho _ _ h)
inductive DefsR (g:Gam):List ADef→List Deferred→Prop
 |nil:DefsR g [] []
 |cons {a d l m}(h:DefR g a d)(hs:DefsR g l m):DefsR g (a::l) (d::m)
theorem DefsR.mono{g g':Gam}(hg:g.le g'){a:List ADef}{d:List Deferred}(h:DefsR g a d):DefsR g' a d:=by
 induction h with
 |nil=>exact .nil
 |cons h _ ih=>exact .cons (h.mono hg) ih
theorem DefsR.append{g:Gam}{a b:List ADef}{d e:List Deferred}(h:DefsR g a d)(k:DefsR g b e):DefsR g (a++b) (d++e):=by
 induction h with
 |nil=>exact k
 |cons h _ ih=>exact .cons h ih
structure EntR (g:Gam)(a:AV×AV×Nat)(e:MapEntry):Prop where
 key:VR g a.1 e.key
 val:VR g a.2.1 e.val
 born:a.2.2=e.born
 isKey:a.1.keyKind.isSome=true
def OptR{α β:Type}(R:α→β→Prop):Option α→Option β→Prop
 |none,none=>True
 |some a,some b=>R a b
 |_,_=>False
def RowR(g:Gam)(w:World)(β base:Nat)(l:List AV)(room:Nat):Prop:=
 ∃c elem,w.heap[β]? = some (.cells c elem (0,0))∧base+room≤c.size∧l.length≤room ∧
  ∀i (h1:i<l.length),∃v,c[base+i]? = some v∧VR g l[i] v
def TyR(w:World)(β base e:Nat):Prop:=(∃c,w.heap[β]? = some (.cells c (e / 2) (0,0)))∧(e%2=1→base=0)
inductive ObjR (CR:AC→Code→Prop)(g:Gam)(w:World)(b β base:Nat):AO→Prop
 |cells (l:List AV)(sp:Option Nat)(pre:Nat)(anc:List Nat)(hp:pre≤l.length)(he:sp=none→g.top b=l.length)(hes:∀e,sp=some e→TyR w β base e)(h:RowR g w β base l (g.top b)) :
   ObjR CR g w b β base (.cells l sp pre anc)
 |old (l:List AV)(h:RowR g w β base l l.length):ObjR CR g w b β base (.old l)
 |map (es:List (AV×AV×Nat))(clock:Nat)(entries:Array MapEntry)(hw:w.heap[β]? = some (.map entries clock))(hb:base=0)
   (hl:es.length=entries.size)(h:∀i (h1:i<es.length)(h2:i<entries.size),EntR g es[i] entries[i]):ObjR CR g w b β base (.map es clock)
 |iter (n s pos:Nat)(hw:w.heap[β]? = some (.stringIter (bsOf n s) pos))(hb:base=0):ObjR CR g w b β base (.iter n s pos)
 |loop (st:LoopState)(pend:Option AC)(pend':Option Code)(fn:FuncId)(tmps:List AV)(tmps':Array Value)(params:List Nat)(assign body:AC)
   (assign' body':Code)(d δ:Nat)(hw:w.heap[β]? = some (.loop {state:=st,pending:=pend',fn:=fn,tmps:=tmps',params:=params.toArray,assign:=assign',body:=body',defers:=δ}))
   (hb:base=0)(hp:OptR CR pend pend')(ht:VRs g tmps tmps'.toList)
   (ha:CR assign assign')(hc:CR body body')(hd:g.rho d=some (δ,0)):ObjR CR g w b β base (.loop st pend fn tmps params assign body d)
 |deferred (ds:Option (List ADef))(ds':Option (List Deferred))(hw:w.heap[β]? = some (.deferred ds'))(hb:base=0)
   (h:OptR (DefsR g) ds ds'):ObjR CR g w b β base (.deferred ds)
def Under(base:Nat)(o:AO)(b' base':Nat)(o':AO):Prop:=
 ∃l sp pre anc l',o=.cells l sp pre anc∧o'=.old l'∧b'∈anc∧base'+l'.length≤base+pre
def IsOld(o:AO):Prop:=∃l,o=.old l
structure Anchor where
 w:World
 held:Nat→Prop
structure HR (CR:AC→Code→Prop)(B:Nat)(w0:Anchor)(g:Gam)(h:AH)(w:World):Prop where
 rhoNext:∀b,h.next≤b→g.rho b=none
 getNext:∀b,h.next≤b→h.get b=none
 lt:∀b x,g.rho b=some x→x.1<w.heap.size
 obj:∀b β base o,g.rho b=some (β,base)→h.get b=some o→ObjR CR g w b β base o
 sep:∀b b' β base base' o o',g.rho b=some (β,base)→g.rho b'=some (β,base')→h.get b=some o→h.get b'=some o'→b≠b' →
  Under base o b' base' o'∨Under base' o' b base o∨(IsOld o∧IsOld o')
 mem:∀β o v,g.mem β o=some v→w.cell? ⟨β,o,none⟩=some v
 memsep:∀b β base ob o,g.rho b=some (β,base)→h.get b=some ob→g.mem β o=none
 low:∀b β base o,g.rho b=some (β,base)→h.get b=some o→B≤β
 below:Below B w0.w w
 base:B≤w0.w.heap.size
 held:∀b,w0.held b→g.rho b=none∧b<h.next
section
variable{CR:AC→Code→Prop}{B:Nat}{w0:Anchor}{g g':Gam}{h h':AH}{w w':World}
theorem HR.B_le(H:HR CR B w0 g h w):B≤w.heap.size:=Nat.le_trans H.base H.below.size
theorem RowR.mono(hg:g.le g'){β base room:Nat}{l:List AV}(H:RowR g w β base l room):RowR g' w β base l room:=by
 obtain⟨c,e,h1,h2,h3,h4⟩:=H;exact⟨c,e,h1,h2,h3,fun i hi=>let ⟨v,hv,hr⟩:=h4 i hi;⟨v,hv,hr.mono hg⟩⟩
theorem RowR.of_block{β base room:Nat}{l:List AV}(H:RowR g w β base l room)(hb:w'.heap[β]? = w.heap[β]?):RowR g w' β base l room:=by
 obtain⟨c,e,h1,h2⟩:=H;exact⟨c,e,by rw[hb];exact h1,h2⟩
theorem ObjR.mono(hg:g.le g'){b β base:Nat}{o:AO}(hr:g.rho b=some (β,base))(H:ObjR CR g w b β base o):ObjR CR g' w b β base o:=by
 cases H with
 |cells l sp pre anc hp he hes h=>exact .cells l sp pre anc hp (fun e=>(hg.top _ _ hr).trans (he e)) hes (by rw[hg.top _ _ hr];exact h.mono hg)
 |old l h=>exact .old l (h.mono hg)
 |map es clock entries hw hb hl h=>exact .map es clock entries hw hb hl fun i h1 h2=>⟨(h i h1 h2).key.mono hg,(h i h1 h2).val.mono hg,(h i h1 h2).born,(h i h1 h2).isKey⟩
 |iter n s pos hw hb=>exact .iter n s pos hw hb
 |loop st pend pend' fn tmps tmps' params assign body assign' body' d δ hw hb hp ht ha hc hd =>
  exact .loop st pend pend' fn tmps tmps' params assign body assign' body' d δ hw hb hp (ht.mono hg) ha hc (hg.rho _ _ hd)
 |deferred ds ds' hw hb h =>
  refine .deferred ds ds' hw hb ?_;cases ds<;>cases ds'<;>first|exact h|exact DefsR.mono hg h
theorem ObjR.of_block{b β base:Nat}{o:AO}(H:ObjR CR g w b β base o)(hb:w'.heap[β]? = w.heap[β]?):ObjR CR g w' b β base o:=by
 cases H with
 |cells l sp pre anc hp he hes h=>exact .cells l sp pre anc hp he (fun e h=>by unfold TyR;rw[hb];exact hes e h) (h.of_block hb)
 |old l h=>exact .old l (h.of_block hb)
 |map es clock entries hw hb' hl h=>exact .map es clock entries (by rw[hb];exact hw) hb' hl h
 |iter n s pos hw hb'=>exact .iter n s pos (by rw[hb];exact hw) hb'
 |loop st pend pend' fn tmps tmps' params assign body assign' body' d δ hw hb' hp ht ha hc hd =>
  exact .loop st pend pend' fn tmps tmps' params assign body assign' body' d δ (by rw[hb];exact hw) hb' hp ht ha hc hd
 |deferred ds ds' hw hb' h=>exact .deferred ds ds' (by rw[hb];exact hw) hb' h
theorem HR.drew(H:HR CR B w0 g h w):HR CR B w0 g h w.drew:=
 ⟨H.rhoNext,H.getNext,H.lt,fun b β base o hr ho=>(H.obj b β base o hr ho).of_block rfl,H.sep,H.mem,H.memsep,H.low,H.below.drew,H.base,H.held⟩
def Gam.bind(g:Gam)(b β base es top:Nat):Gam:=
 {g with rho:=fun x=>if x=b then some (β,base) else g.rho x,es:=fun x=>if x=b then es else g.es x,top:=fun x=>if x=b then top else g.top x}
theorem Gam.le_bind{b β base es top:Nat}(hb:g.rho b=none):g.le (g.bind b β base es top):=by
 refine⟨fun x y hx=>?_,fun x y hx=>?_,fun x y hx=>?_,rfl⟩
 all_goals
  have hne:x≠b:=fun e=>by rw[e,hb]at hx;cases hx
  simp[Gam.bind,hne,hx]
@[simp] theorem Gam.bind_rho_same {b β base es top:Nat}:(g.bind b β base es top).rho b=some (β,base):=by simp[Gam.bind]
@[simp] theorem Gam.bind_es_same {b β base es top:Nat}:(g.bind b β base es top).es b=es:=by simp[Gam.bind]
@[simp] theorem Gam.bind_top_same {b β base es top:Nat}:(g.bind b β base es top).top b=top:=by simp[Gam.bind]
theorem AH.get_alloc_same{o:AO}:(h.alloc o).get h.next=some o:=by simp[AH.alloc]
theorem AH.get_alloc_other{o:AO}{b:Nat}(hb:b≠h.next):(h.alloc o).get b=h.get b:=by simp[AH.alloc,hb]
theorem HR.alloc(H:HR CR B w0 g h w)(O:Obj)(es top:Nat)(o:AO)
  (ho:ObjR CR (g.bind h.next w.heap.size 0 es top) (w.alloc O) h.next w.heap.size 0 o) :
  HR CR B w0 (g.bind h.next w.heap.size 0 es top) (h.alloc o) (w.alloc O)∧g.le (g.bind h.next w.heap.size 0 es top):=by
 have hle:g.le (g.bind h.next w.heap.size 0 es top):=Gam.le_bind (H.rhoNext _ (Nat.le_refl _));have hrho:∀b x,(g.bind h.next w.heap.size 0 es top).rho b=some x→(b=h.next∧x=(w.heap.size,0))∨(b≠h.next∧g.rho b=some x):=by
  intro b x hx;by_cases hb:b=h.next
  ·subst hb;simp at hx;exact .inl ⟨rfl,hx.symm⟩
  ·simp[Gam.bind,hb]at hx;exact .inr ⟨hb,hx⟩
 refine⟨⟨?_,?_,?_,?_,?_,?_,?_,?_,?_,H.base,?_⟩,hle⟩
 ·intro b hb;have hb':h.next+1≤b:=hb
  have:b≠h.next:=by omega
  simp[Gam.bind,this,H.rhoNext b (by omega)]
 ·intro b hb;have hb':h.next+1≤b:=hb
  rw[AH.get_alloc_other (by omega)];exact H.getNext b (by omega)
 ·intro b x hx;rcases hrho b x hx with⟨_,rfl⟩|⟨_,hx⟩
  ·simp
  ·have:=H.lt b x hx;simp;omega
 ·intro b β base ob hx hob;rcases hrho b _ hx with⟨rfl,e⟩|⟨hne,hx⟩
  ·cases e;rw[AH.get_alloc_same]at hob;cases hob;exact ho
  ·rw[AH.get_alloc_other hne]at hob;exact((H.obj b β base ob hx hob).mono hle hx).of_block (Below.heap_alloc _ _ _ (H.lt b _ hx))
 ·intro b b' β base base' ob ob' hx hx' hob hob' hne;rcases hrho b _ hx with⟨rfl,e⟩|⟨hn,hx⟩
  ·rcases hrho b' _ hx' with⟨rfl,e'⟩|⟨hn',hx'⟩
   ·exact absurd rfl hne
   ·have:=H.lt b' _ hx';cases e;simp at this
  ·rcases hrho b' _ hx' with⟨rfl,e'⟩|⟨hn',hx'⟩
   ·have:=H.lt b _ hx;cases e';simp at this
   ·rw[AH.get_alloc_other hn]at hob;rw[AH.get_alloc_other hn']at hob';exact H.sep b b' β base base' ob ob' hx hx' hob hob' hne
 ·intro β o v hm;have hm':=H.mem β o v hm;have:β<w.heap.size:=by
   unfold World.cell? at hm';split at hm'
   ·rename_i hc;rcases Nat.lt_or_ge β w.heap.size with hlt|hge
    ·exact hlt
    ·rw[Array.getElem?_eq_none hge]at hc;cases hc
   ·cases hm'
  rw[World.cell?_alloc_lt _ _ _ this];exact hm'
 ·intro b β base ob o hx hob;rcases hrho b _ hx with⟨rfl,e⟩|⟨hne,hx⟩
  ·cases e;show g.mem w.heap.size o=none;cases hmm:g.mem w.heap.size o with
   |none=>rfl
   |some v =>
    have:=H.mem _ _ _ hmm;simp[World.cell?]at this
  ·rw[AH.get_alloc_other hne]at hob;exact H.memsep b β base ob o hx hob
 ·intro b β base ob hx hob;rcases hrho b _ hx with⟨rfl,e⟩|⟨hne,hx⟩
  ·cases e;exact H.B_le
  ·rw[AH.get_alloc_other hne]at hob;exact H.low b β base ob hx hob
 ·exact H.below.alloc H.B_le _
 ·intro b hb;obtain⟨h1,h2⟩:=H.held b hb;have hne:b≠h.next:=by omega
  exact⟨by simp[Gam.bind,hne,h1],by show b<h.next+1;omega⟩
theorem RowR.new(vs extra:List Value)(elem:TypeId){l:List AV}{g2:Gam}(hl:VRs g2 l vs) :
  RowR g2 (w.alloc (.cells (vs++extra).toArray elem)) w.heap.size 0 l (vs.length+extra.length):=by
 refine⟨(vs++extra).toArray,elem,by show (w.heap.push _)[w.heap.size]? = _;simp,by simp,by rw[hl.len];omega,fun i hi=>?_⟩;have hi':i<vs.length:=by rw[←hl.len];exact hi
 exact⟨vs[i],by simp[List.getElem?_append_left hi',hi'],hl.val i hi hi'⟩
theorem TyR.new{c:Array Value}{elem:TypeId}{e:Nat}(h:e / 2=elem):TyR (w.alloc (.cells c elem)) w.heap.size 0 e:=by
 subst h;exact⟨⟨c,by show (w.heap.push _)[w.heap.size]? = _;simp⟩,fun _=>rfl⟩
theorem HR.allocCells(H:HR CR B w0 g h w)(l:List AV)(vs extra:List Value)(elem:TypeId)(sp:Option Nat)(hs:sp=none→extra=[])(es:Nat)(hes:∀e,sp=some e→e / 2=elem)(hl:VRs g l vs) :
  HR CR B w0 (g.bind h.next w.heap.size 0 es (vs.length+extra.length)) (h.alloc (.cells l sp 0 [])) (w.alloc (.cells (vs++extra).toArray elem)) ∧
   g.le (g.bind h.next w.heap.size 0 es (vs.length+extra.length)):=by
 refine H.alloc _ _ _ _ (.cells l sp 0 [] (Nat.zero_le _) (fun e=>?_) (fun e h=>TyR.new (hes e h)) ?_)
 ·rw[Gam.bind_top_same,hs e,hl.len];simp
 ·rw[Gam.bind_top_same];exact RowR.new vs extra elem (hl.mono (Gam.le_bind (H.rhoNext _ (Nat.le_refl _))))
theorem HR.cell(H:HR CR B w0 g h w){b β base:Nat}{l:List AV}(hr:g.rho b=some (β,base))(hc:h.cellsAt b=some l)(i:Nat)(hi:i<l.length) :
  ∃v,w.cell? ⟨β,base+i,none⟩=some v∧VR g l[i] v:=by
 unfold AH.cellsAt at hc;cases ho:h.get b with
 |none=>simp[ho]at hc
 |some o =>
  have hobj:=H.obj b β base o hr ho;rw[ho]at hc;cases hobj with
  |cells l' sp pre anc hp he hes h =>
   simp at hc;subst hc;obtain⟨c,e,h1,_,_,h4⟩:=h;obtain⟨v,hv,hvr⟩:=h4 i hi;exact⟨v,by simp[World.cell?,h1,hv],hvr⟩
  |old l' h =>
   simp at hc;subst hc;obtain⟨c,e,h1,_,_,h4⟩:=h;obtain⟨v,hv,hvr⟩:=h4 i hi;exact⟨v,by simp[World.cell?,h1,hv],hvr⟩
  |map=>simp at hc
  |iter=>simp at hc
  |loop=>simp at hc
  |deferred=>simp at hc
end
end Go.Ab
namespace Go.Ab
open Go Go.RowKit
section
variable{CR:AC→Code→Prop}{B:Nat}{w0:Anchor}{g g':Gam}{h h':AH}{w w':World}{P:Program}
theorem HR.read(H:HR CR B w0 g h w){b β base o n:Nat}{l:List AV}(hr:g.rho b=some (β,base))(hc:h.read b o n=some l) :
  ∃vs,VRs g l vs∧vs.length=n∧∀j v,vs[j]? = some v→w.cell? ⟨β,base+o+j,none⟩=some v:=by
 unfold AH.read at hc;split at hc
 ·rename_i l0 h0;split at hc
  ·rename_i hle;cases hc;have hcell:∀i:Nat,∃v,i<l0.length→(w.cell? ⟨β,base+i,none⟩=some v∧∀hi:i<l0.length,VR g l0[i] v):=by
    intro i;by_cases hi:i<l0.length
    ·obtain⟨v,h1,h2⟩:=H.cell hr h0 i hi;exact⟨v,fun _=>⟨h1,fun _=>h2⟩⟩
    ·exact⟨undef,fun h=>absurd h hi⟩
   refine⟨(List.range n).map fun j=>(hcell (o+j)).choose,⟨?_,?_⟩,by simp,?_⟩
   ·simp;omega
   ·intro i h1 h2;have hi:o+i<l0.length:=by simp at h2;omega
    have:=((hcell (o+i)).choose_spec hi).2 hi;simpa using this
   ·intro j v hj;have hjn:j<n:=by
     rcases Nat.lt_or_ge j n with hlt|hge
     ·exact hlt
     ·rw[List.getElem?_eq_none (by simpa using hge)]at hj;cases hj
    have hi:o+j<l0.length:=by omega
    have:=((hcell (o+j)).choose_spec hi).1;simp[hjn]at hj;rw[←hj,show base+o+j=base+(o+j) by omega];exact this
  ·cases hc
 ·cases hc
theorem addr_add(β o j:Nat):(⟨β,o,none⟩:Addr).add j=⟨β,o+j,none⟩:=by
 unfold Addr.add;split<;>simp_all
theorem HR.loadA(H:HR CR B w0 g h w){n:Nat}{v:AV}{u:Value}{l:List AV}(hl:loadA h n v=some l)(hv:VR g v u) :
  ∃a vs,u=.pointer (some a)∧VRs g l vs∧vs.length=n∧(∀j x,vs[j]? = some x→w.cell? (a.add j)=some x):=by
 cases hv with
 |ptr b o β base hr =>
  obtain⟨vs,h1,h2,h3⟩:=H.read hr hl;exact⟨_,vs,rfl,h1,h2,fun j x hj=>by rw[addr_add];exact h3 j x hj⟩
 |iptr cells vs β o hlen hcv hm =>
  simp only[Ab.loadA]at hl;split at hl
  ·rename_i hn;cases hl;refine⟨_,vs.take n,rfl,(⟨hlen,hcv⟩:VRs g cells vs).take n,by simp;omega,fun j x hj=>?_⟩;rw[addr_add];rw[List.getElem?_take]at hj;split at hj
   ·have hj':j<vs.length:=by
     rcases Nat.lt_or_ge j vs.length with hlt|hge
     ·exact hlt
     ·rw[List.getElem?_eq_none hge]at hj;cases hj
    rw[gE hj']at hj;cases hj;exact H.mem _ _ _ (hm j hj')
   ·cases hj
  ·cases hl
 |_=>simp[Ab.loadA]at hl
theorem QaY{l xs:List AV}{o:Nat}(h:o+xs.length≤l.length):(splice l o xs).length=l.length:=by
 simp[splice];omega
theorem VRs.splice{l xs:List AV}{vs us:List Value}{o:Nat}(h:VRs g l vs)(k:VRs g xs us):VRs g (splice l o xs) (vs.take o++us++vs.drop (o+us.length)):=by
 rw[←k.len];exact((h.take o).append k).append (h.drop _)
theorem AH.get_put_same{b:Nat}{o:AO}:(h.put b o).get b=some o:=by simp[AH.put]
theorem AH.get_put_other{b x:Nat}{o:AO}(hx:x≠b):(h.put b o).get x=h.get x:=by simp[AH.put,hx]
theorem AH.get_kill{l:List Nat}{x:Nat}{o:AO}(hk:(h.kill l).get x=some o):x ∉ l∧h.get x=some o:=by
 simp only[AH.kill]at hk;split at hk
 ·cases hk
 ·exact⟨by assumption,hk⟩
theorem HR.kill(H:HR CR B w0 g h w)(l:List Nat):HR CR B w0 g (h.kill l) w:=
 ⟨H.rhoNext,fun b hb=>by simp[AH.kill,H.getNext b hb],H.lt,fun b β base o hr ho=>H.obj b β base o hr (AH.get_kill ho).2,
  fun b b' β base base' o o' h1 h2 h3 h4 hne=>H.sep b b' β base base' o o' h1 h2 (AH.get_kill h3).2 (AH.get_kill h4).2 hne,H.mem,
  fun b β base ob o hr ho=>H.memsep b β base ob o hr (AH.get_kill ho).2,fun b β base o hr ho=>H.low b β base o hr (AH.get_kill ho).2,H.below,H.base,H.held⟩
theorem setRow_other(w:World)(β k:Nat)(c:Array Value)(hk:k≠β):(w.setRow β c).heap[k]? = w.heap[k]?:=by
 unfold World.setRow;simp only[Array.getElem?_modify];rw[if_neg (by omega)]
theorem HR.setRow(H:HR CR B w0 g h w){b β base:Nat}{l l':List AV}{sp:Option Nat}{pre:Nat}{anc:List Nat}(hr:g.rho b=some (β,base))
  (hg:h.get b=some (.cells l sp pre anc)){cur cur':Array Value}{t:TypeId}(hw:w.heap[β]? = some (.cells cur t (0,0)))(hsz:cur'.size=cur.size)
  (o:Nat)(hkeep:∀k,k<base+o→cur'[k]? = cur[k]?)(ho:pre≤o)(hl:l'.length=l.length)
  (hrow:RowR g (w.setRow β cur') β base l' (g.top b)):HR CR B w0 g (h.put b (.cells l' sp pre anc)) (w.setRow β cur'):=by
 have hβ:(w.setRow β cur').heap[β]? = some (.cells cur' t (0,0)):=setRow_heap w β cur cur' t (0,0) hw;have hsize:(w.setRow β cur').heap.size=w.heap.size:=by simp[World.setRow]
 have hb0:=H.obj b β base _ hr hg;have hlow:=H.low b β base _ hr hg;have hsame:∀b' base' o',b'≠b→g.rho b'=some (β,base')→h.get b'=some o'→∃l',o'=.old l'∧b'∈anc∧base'+l'.length≤base+pre:=by
  intro b' base' o' hne hr' ho';rcases H.sep b b' β base base' _ o' hr hr' hg ho' (Ne.symm hne) with hu|hu|hu
  ·obtain⟨l1,sp1,pre1,anc1,l2,e1,e2,e3,e4⟩:=hu;cases e1;exact⟨l2,e2,e3,e4⟩
  ·obtain⟨l1,sp1,pre1,anc1,l2,e1,e2,e3,e4⟩:=hu;cases e2
  ·obtain⟨⟨l2,e⟩,_⟩:=hu;cases e
 refine⟨H.rhoNext,fun x hx=>?_,fun x y hx=>by rw[hsize];exact H.lt x y hx,?_,?_,?_,?_,?_,?_,H.base,H.held⟩
 ·have:x≠b:=fun e=>by rw[e]at hx;rw[H.rhoNext b hx]at hr;cases hr
  rw[AH.get_put_other this];exact H.getNext x hx
 ·intro x ξ base' ob hx hob;by_cases hxb:x=b
  ·subst hxb;rw[hr]at hx;cases hx;rw[AH.get_put_same]at hob;cases hob;cases hb0 with
   |cells _ _ _ _ hp he hes hrw=>exact .cells l' sp pre anc (by omega) (fun e=>by rw[he e,hl]) (fun e h=>by obtain⟨⟨c,h1⟩,h2⟩:=hes e h;rw[hw]at h1;cases h1;exact⟨⟨cur',hβ⟩,h2⟩) hrow
  ·rw[AH.get_put_other hxb]at hob;have hold:=H.obj x ξ base' ob hx hob;by_cases hξ:ξ=β
   ·subst hξ;obtain⟨l2,rfl,_,hle⟩:=hsame x base' ob hxb hx hob;cases hold with
    |old _ hrw =>
     obtain⟨c,e,h1,h2,h3,h4⟩:=hrw;rw[hw]at h1;cases h1;refine .old l2 ⟨cur',t,hβ,by omega,h3,fun i hi=>?_⟩;obtain⟨v,hv,hvr⟩:=h4 i hi;exact⟨v,by rw[hkeep _ (by omega)];exact hv,hvr⟩
   ·exact hold.of_block (setRow_other _ _ _ _ hξ)
 ·intro x y ξ base1 base2 o1 o2 hx hy h1 h2 hne;by_cases hxb:x=b
  ·subst hxb;rw[hr]at hx;cases hx;rw[AH.get_put_same]at h1;cases h1;rw[AH.get_put_other (Ne.symm hne)]at h2;obtain⟨l2,rfl,e3,e4⟩:=hsame y base2 o2 (Ne.symm hne) hy h2;exact .inl ⟨_,_,_,_,_,rfl,rfl,e3,e4⟩
  ·rw[AH.get_put_other hxb]at h1;by_cases hyb:y=b
   ·subst hyb;rw[hr]at hy;cases hy;rw[AH.get_put_same]at h2;cases h2;obtain⟨l2,rfl,e3,e4⟩:=hsame x base1 o1 hxb hx h1;exact .inr (.inl ⟨_,_,_,_,_,rfl,rfl,e3,e4⟩)
   ·rw[AH.get_put_other hyb]at h2;exact H.sep x y ξ base1 base2 o1 o2 hx hy h1 h2 hne
 ·intro ξ o1 v hm;have hne:ξ≠β:=fun e=>by subst e;rw[H.memsep b ξ base _ o1 hr hg]at hm;cases hm
  have:=H.mem ξ o1 v hm;rw[←this];exact World.cell?_of_block (setRow_other _ _ _ _ hne)
 ·intro x ξ base' ob o1 hx hob;by_cases hxb:x=b
  ·subst hxb;rw[hr]at hx;cases hx;exact H.memsep x _ _ _ o1 hr hg
  ·rw[AH.get_put_other hxb]at hob;exact H.memsep x ξ base' ob o1 hx hob
 ·intro x ξ base' ob hx hob;by_cases hxb:x=b
  ·subst hxb;rw[hr]at hx;cases hx;exact hlow
  ·rw[AH.get_put_other hxb]at hob;exact H.low x ξ base' ob hx hob
 ·exact H.below.trans ⟨rfl,rfl,rfl,by rw[hsize];exact Nat.le_refl _,fun k hk=>setRow_other _ _ _ _ (by omega)⟩
theorem HR.unshare(H:HR CR B w0 g h w){b β base:Nat}{l:List AV}{sp:Option Nat}{pre:Nat}{anc:List Nat}(hr:g.rho b=some (β,base))
  (hg:h.get b=some (.cells l sp pre anc)):HR CR B w0 g ((h.kill anc).put b (.cells l sp 0 [])) w:=by
 have K:=H.kill anc;have hb0:=H.obj b β base _ hr hg;have hsame:∀b' base' o',b'≠b→g.rho b'=some (β,base')→(h.kill anc).get b'=some o'→False:=by
  intro b' base' o' hne hr' ho';obtain⟨hn,ho'⟩:=AH.get_kill ho';rcases H.sep b b' β base base' _ o' hr hr' hg ho' (Ne.symm hne) with hu|hu|hu
  ·obtain⟨l1,sp1,pre1,anc1,l2,e1,e2,e3,e4⟩:=hu;cases e1;exact hn e3
  ·obtain⟨l1,sp1,pre1,anc1,l2,e1,e2,e3,e4⟩:=hu;cases e2
  ·obtain⟨⟨l2,e⟩,_⟩:=hu;cases e
 refine⟨K.rhoNext,fun x hx=>?_,K.lt,?_,?_,K.mem,?_,?_,K.below,K.base,K.held⟩
 ·have:x≠b:=fun e=>by rw[e]at hx;rw[H.rhoNext b hx]at hr;cases hr
  rw[AH.get_put_other this];exact K.getNext x hx
 ·intro x ξ base' ob hx hob;by_cases hxb:x=b
  ·subst hxb;rw[hr]at hx;cases hx;rw[AH.get_put_same]at hob;cases hob;cases hb0 with
   |cells _ _ _ _ hp he hes hrw=>exact .cells l sp 0 [] (Nat.zero_le _) he hes hrw
  ·rw[AH.get_put_other hxb]at hob;exact K.obj x ξ base' ob hx hob
 ·intro x y ξ base1 base2 o1 o2 hx hy h1 h2 hne;by_cases hxb:x=b
  ·subst hxb;rw[hr]at hx;cases hx;rw[AH.get_put_other (Ne.symm hne)]at h2;exact(hsame y base2 o2 (Ne.symm hne) hy h2).elim
  ·rw[AH.get_put_other hxb]at h1;by_cases hyb:y=b
   ·subst hyb;rw[hr]at hy;cases hy;exact(hsame x base1 o1 hxb hx h1).elim
   ·rw[AH.get_put_other hyb]at h2;exact K.sep x y ξ base1 base2 o1 o2 hx hy h1 h2 hne
 ·intro x ξ base' ob o1 hx hob;by_cases hxb:x=b
  ·subst hxb;rw[hr]at hx;cases hx;exact H.memsep x _ _ _ o1 hr hg
  ·rw[AH.get_put_other hxb]at hob;exact K.memsep x ξ base' ob o1 hx hob
 ·intro x ξ base' ob hx hob;by_cases hxb:x=b
  ·subst hxb;rw[hr]at hx;cases hx;exact H.low x _ _ _ hr hg
  ·rw[AH.get_put_other hxb]at hob;exact K.low x ξ base' ob hx hob
theorem AV.one_oneCell{v:AV}{u:Value}(h:v.one=true)(hv:VR g v u):u.oneCell'=true:=by
 cases hv<;>simp_all [AV.one,Value.oneCell']
theorem HR.store(H:HR CR B w0 g h w){b β base o:Nat}{xs:List AV}{vs:List Value}(hr:g.rho b=some (β,base))(hs:h.store b o xs=some h')(hx:VRs g xs vs) :
  ∃w',(storeCells ⟨β,base+o,none⟩ vs 0).run P w=.ok () w'∧HR CR B w0 g h' w':=by
 unfold AH.store at hs;split at hs
 ·rename_i l sp pre anc hg;split at hs
  ·rename_i hc;obtain⟨hle,hone⟩:=hc;have hrow:RowR g w β base l (g.top b):=by
    have:=H.obj b β base _ hr hg;cases this with
    |cells _ _ _ _ _ _ _ h=>exact h
   have hrow0:=hrow;obtain⟨cur,t,hw,h2,h3,h4⟩:=hrow;have hlen:=hx.len;have hone':∀v∈vs,v.oneCell'=true:=by
    intro v hv;obtain⟨i,hi,rfl⟩:=List.getElem_of_mem hv;have hi':i<xs.length:=by omega
    exact AV.one_oneCell (List.all_eq_true.1 hone _ (List.getElem_mem hi')) (hx.val i hi' hi)
   have hrun:=run_storeCells_at P β (base+o) t vs 0 cur w hw (by omega) hone';refine⟨_,hrun,?_⟩;simp only[Nat.add_zero]at hrun ⊢;generalize hcur:(cur.toList.take (base+o)++vs++cur.toList.drop (base+o+vs.length)).toArray=cur';have hget:∀k,cur'[k]? = if k<base+o then cur[k]? else if k<base+o+vs.length then vs[k-(base+o)]? else cur[k]?:=by
    intro k;rw[←hcur];have e1:(List.take (base+o) cur.toList).length=base+o:=by simp;omega
    simp only[List.getElem?_toArray,List.append_assoc];by_cases hk:k<base+o
    ·rw[if_pos hk,List.getElem?_append_left (by omega),List.getElem?_take,if_pos hk];simp
    ·rw[if_neg hk,List.getElem?_append_right (by omega),e1];by_cases hk2:k<base+o+vs.length
     ·rw[if_pos hk2,List.getElem?_append_left (by omega)]
     ·rw[if_neg hk2,List.getElem?_append_right (by omega),List.getElem?_drop];simp
      congr 1
      omega
   have hsz:cur'.size=cur.size:=by
    rw[←hcur];simp;omega
   have hrow':RowR g (w.setRow β cur') β base (splice l o xs) (g.top b):=by
    refine⟨cur',t,setRow_heap w β cur cur' t (0,0) hw,by omega,by rw[QaY hle];exact h3,fun i hi=>?_⟩;rw[QaY hle]at hi;rw[hget];by_cases hi1:i<o
    ·obtain⟨v,hv,hvr⟩:=h4 i hi;refine⟨v,by rw[if_pos (by omega)];exact hv,?_⟩;have:(splice l o xs)[i]'(by rw[QaY hle];exact hi)=l[i]:=by
      simp only[splice,List.append_assoc];rw[List.getElem_append_left (by simp;omega)];simp
     rw[this];exact hvr
    ·by_cases hi2:i<o+xs.length
     ·refine⟨vs[i-o],by rw[if_neg (by omega),if_pos (by omega),show base+i-(base+o)=i-o by omega];exact gE (by omega),?_⟩;have:(splice l o xs)[i]'(by rw[QaY hle];exact hi)=xs[i-o]:=by
       simp only[splice,List.append_assoc];rw[List.getElem_append_right (by simp;omega),List.getElem_append_left (by simp;omega)]
       congr 1
       simp;omega
      rw[this];exact hx.val _ (by omega) (by omega)
     ·obtain⟨v,hv,hvr⟩:=h4 i hi;refine⟨v,by rw[if_neg (by omega),if_neg (by omega)];exact hv,?_⟩;have:(splice l o xs)[i]'(by rw[QaY hle];exact hi)=l[i]:=by
       simp only[splice,List.append_assoc];rw[List.getElem_append_right (by simp;omega),List.getElem_append_right (by simp;omega)];simp only[List.getElem_drop]
       congr 1
       simp;omega
      rw[this];exact hvr
   split at hs
   ·rename_i hop;cases hs;have U:=H.unshare hr hg;have:=U.setRow (l':=splice l o xs) hr AH.get_put_same hw hsz o (fun k hk=>by rw[hget,if_pos hk]) (Nat.zero_le _) (QaY hle) hrow';refine⟨this.rhoNext,?_,this.lt,?_,?_,this.mem,?_,?_,this.below,this.base,this.held⟩
    all_goals
     have e:∀x,(((h.kill anc).put b (.cells l sp 0 [])).put b (.cells (splice l o xs) sp 0 [])).get x=((h.kill anc).put b (.cells (splice l o xs) sp 0 [])).get x:=by
      intro x;by_cases hx:x=b<;>simp[AH.put,hx]
    ·intro x hx;rw[←e];exact this.getNext x hx
    ·intro x ξ b' ob h1 h2;exact this.obj x ξ b' ob h1 (by rw[e];exact h2)
    ·intro x y ξ b1 b2 o1 o2 h1 h2 h3 h4 hne;exact this.sep x y ξ b1 b2 o1 o2 h1 h2 (by rw[e];exact h3) (by rw[e];exact h4) hne
    ·intro x ξ b' ob o1 h1 h2;exact this.memsep x ξ b' ob o1 h1 (by rw[e];exact h2)
    ·intro x ξ b' ob h1 h2;exact this.low x ξ b' ob h1 (by rw[e];exact h2)
   ·rename_i hop;cases hs;exact H.setRow hr hg hw hsz o (fun k hk=>by rw[hget,if_pos hk]) (by omega) (QaY hle) hrow'
  ·cases hs
 ·cases hs
theorem HR.storeA(H:HR CR B w0 g h w){xs:List AV}{vs:List Value}{v:AV}{u:Value}(hs:storeA h xs v=some h')(hv:VR g v u)(hx:VRs g xs vs) :
  ∃a w',u=.pointer (some a)∧(storeCells a vs 0).run P w=.ok () w'∧HR CR B w0 g h' w':=by
 cases hv with
 |ptr b o β base hr =>
  obtain⟨w',h1,h2⟩:=H.store (P:=P) hr hs hx;exact⟨_,w',rfl,h1,h2⟩
 |_=>simp[Ab.storeA]at hs
theorem HR.setObj(H:HR CR B w0 g h w){b β:Nat}{o:AO}(hr:g.rho b=some (β,0))(hg:h.get b=some o)(hn:∀l sp pre anc,o≠.cells l sp pre anc)(hn':∀l,o≠.old l)
  (O:Obj)(o':AO)(ho:ObjR CR g {w with heap:=w.heap.setIfInBounds β O} b β 0 o') :
  HR CR B w0 g (h.put b o') {w with heap:=w.heap.setIfInBounds β O}:=by
 have hother:∀k,k≠β→({w with heap:=w.heap.setIfInBounds β O}:World).heap[k]? = w.heap[k]?:=by
  intro k hk;simp[Array.getElem?_setIfInBounds,Ne.symm hk]
 have hsame:∀b' base' o1,b'≠b→g.rho b'=some (β,base')→h.get b'=some o1→False:=by
  intro b' base' o1 hne hr' ho';rcases H.sep b b' β 0 base' _ o1 hr hr' hg ho' (Ne.symm hne) with hu|hu|hu
  ·obtain⟨l1,sp1,pre1,anc1,l2,e1,_⟩:=hu;exact hn _ _ _ _ e1
  ·obtain⟨l1,sp1,pre1,anc1,l2,_,e2,_⟩:=hu;exact hn' _ e2
  ·obtain⟨⟨l2,e⟩,_⟩:=hu;exact hn' _ e
 have hlow:=H.low b β 0 _ hr hg;refine⟨H.rhoNext,fun x hx=>?_,fun x y hx=>by simpa using H.lt x y hx,?_,?_,?_,?_,?_,?_,H.base,H.held⟩
 ·have:x≠b:=fun e=>by rw[e]at hx;rw[H.rhoNext b hx]at hr;cases hr
  rw[AH.get_put_other this];exact H.getNext x hx
 ·intro x ξ base' ob hx hob;by_cases hxb:x=b
  ·subst hxb;rw[hr]at hx;cases hx;rw[AH.get_put_same]at hob;cases hob;exact ho
  ·rw[AH.get_put_other hxb]at hob;have hne:ξ≠β:=fun e=>by subst e;exact hsame x base' ob hxb hx hob
   exact(H.obj x ξ base' ob hx hob).of_block (hother _ hne)
 ·intro x y ξ base1 base2 o1 o2 hx hy h1 h2 hne;by_cases hxb:x=b
  ·subst hxb;rw[hr]at hx;cases hx;rw[AH.get_put_other (Ne.symm hne)]at h2;exact(hsame y base2 o2 (Ne.symm hne) hy h2).elim
  ·rw[AH.get_put_other hxb]at h1;by_cases hyb:y=b
   ·subst hyb;rw[hr]at hy;cases hy;exact(hsame x base1 o1 hxb hx h1).elim
   ·rw[AH.get_put_other hyb]at h2;exact H.sep x y ξ base1 base2 o1 o2 hx hy h1 h2 hne
 ·intro ξ o1 v hm;have hne:ξ≠β:=fun e=>by subst e;rw[H.memsep b ξ 0 _ o1 hr hg]at hm;cases hm
  have:=H.mem ξ o1 v hm;rw[←this];exact World.cell?_of_block (hother _ hne)
 ·intro x ξ base' ob o1 hx hob;by_cases hxb:x=b
  ·subst hxb;rw[hr]at hx;cases hx;exact H.memsep x _ _ _ o1 hr hg
  ·rw[AH.get_put_other hxb]at hob;exact H.memsep x ξ base' ob o1 hx hob
 ·intro x ξ base' ob hx hob;by_cases hxb:x=b
  ·subst hxb;rw[hr]at hx;cases hx;exact hlow
  ·rw[AH.get_put_other hxb]at hob;exact H.low x ξ base' ob hx hob
 ·exact H.below.trans ⟨rfl,rfl,rfl,by simp,fun k hk=>hother k (by omega)⟩
end
end Go.Ab
namespace Go.Ab
open Go Go.RowKit
section
variable{CR:AC→Code→Prop}{B:Nat}{w0:Anchor}{g g':Gam}{h h':AH}{w w':World}{P:Program}
theorem HR.oldify(H:HR CR B w0 g h w){b β base:Nat}{l:List AV}{sp:Option Nat}{pre:Nat}{anc:List Nat}(hr:g.rho b=some (β,base))
  (hg:h.get b=some (.cells l sp pre anc)):HR CR B w0 g (h.put b (.old l)) w:=by
 have hb0:=H.obj b β base _ hr hg;have hsame:∀b' base' o',b'≠b→g.rho b'=some (β,base')→h.get b'=some o'→IsOld o':=by
  intro b' base' o' hne hr' ho';rcases H.sep b b' β base base' _ o' hr hr' hg ho' (Ne.symm hne) with hu|hu|hu
  ·obtain⟨l1,sp1,pre1,anc1,l2,e1,e2,e3,e4⟩:=hu;exact⟨l2,e2⟩
  ·obtain⟨l1,sp1,pre1,anc1,l2,e1,e2,e3,e4⟩:=hu;cases e2
  ·exact hu.2
 refine⟨H.rhoNext,fun x hx=>?_,H.lt,?_,?_,H.mem,?_,?_,H.below,H.base,H.held⟩
 ·have:x≠b:=fun e=>by rw[e]at hx;rw[H.rhoNext b hx]at hr;cases hr
  rw[AH.get_put_other this];exact H.getNext x hx
 ·intro x ξ base' ob hx hob;by_cases hxb:x=b
  ·subst hxb;rw[hr]at hx;cases hx;rw[AH.get_put_same]at hob;cases hob;cases hb0 with
   |cells _ _ _ _ hp he hes hrw =>
    obtain⟨c,e,h1,h2,h3,h4⟩:=hrw;exact .old l ⟨c,e,h1,by omega,Nat.le_refl _,h4⟩
  ·rw[AH.get_put_other hxb]at hob;exact H.obj x ξ base' ob hx hob
 ·intro x y ξ base1 base2 o1 o2 hx hy h1 h2 hne;by_cases hxb:x=b
  ·subst hxb;rw[hr]at hx;cases hx;rw[AH.get_put_same]at h1;cases h1;rw[AH.get_put_other (Ne.symm hne)]at h2;exact .inr (.inr ⟨⟨l,rfl⟩,hsame y base2 o2 (Ne.symm hne) hy h2⟩)
  ·rw[AH.get_put_other hxb]at h1;by_cases hyb:y=b
   ·subst hyb;rw[hr]at hy;cases hy;rw[AH.get_put_same]at h2;cases h2;exact .inr (.inr ⟨hsame x base1 o1 hxb hx h1,⟨l,rfl⟩⟩)
   ·rw[AH.get_put_other hyb]at h2;exact H.sep x y ξ base1 base2 o1 o2 hx hy h1 h2 hne
 ·intro x ξ base' ob o1 hx hob;by_cases hxb:x=b
  ·subst hxb;rw[hr]at hx;cases hx;exact H.memsep x _ _ _ o1 hr hg
  ·rw[AH.get_put_other hxb]at hob;exact H.memsep x ξ base' ob o1 hx hob
 ·intro x ξ base' ob hx hob;by_cases hxb:x=b
  ·subst hxb;rw[hr]at hx;cases hx;exact H.low x _ _ _ hr hg
  ·rw[AH.get_put_other hxb]at hob;exact H.low x ξ base' ob hx hob
theorem HR.rebind(K:HR CR B w0 g h w){β base es top:Nat}{cur cur':Array Value}{t:TypeId}(hw:w.heap[β]? = some (.cells cur t (0,0)))(hsz:cur'.size=cur.size)
  (hlt:β<w.heap.size)(hlow:B≤β)(hms:∀o,g.mem β o=none)(l:List AV)(pre:Nat)(anc:List Nat)(hpre:pre≤l.length)
  (hkeep:∀k,k<base+pre→cur'[k]? = cur[k]?)
  (hall:∀x base' o,g.rho x=some (β,base')→h.get x=some o→x∈anc∧∃l',o=.old l'∧base'+l'.length≤base+pre)
  (hrow:RowR (g.bind h.next β base es top) (w.setRow β cur') β base l top)(tg:Nat)(hty:TyR (w.setRow β cur') β base tg) :
  HR CR B w0 (g.bind h.next β base es top) (h.alloc (.cells l (some tg) pre anc)) (w.setRow β cur')∧g.le (g.bind h.next β base es top):=by
 have hle:g.le (g.bind h.next β base es top):=Gam.le_bind (K.rhoNext _ (Nat.le_refl _));have hsize:(w.setRow β cur').heap.size=w.heap.size:=by simp[World.setRow]
 have hβ:(w.setRow β cur').heap[β]? = some (.cells cur' t (0,0)):=setRow_heap w β cur cur' t (0,0) hw;have hrho:∀b x,(g.bind h.next β base es top).rho b=some x→(b=h.next∧x=(β,base))∨(b≠h.next∧g.rho b=some x):=by
  intro b x hx;by_cases hb:b=h.next
  ·subst hb;simp at hx;exact .inl ⟨rfl,hx.symm⟩
  ·simp[Gam.bind,hb]at hx;exact .inr ⟨hb,hx⟩
 refine⟨⟨?_,?_,?_,?_,?_,?_,?_,?_,?_,K.base,?_⟩,hle⟩
 ·intro b hb;have hb':h.next+1≤b:=hb
  have:b≠h.next:=by omega
  simp[Gam.bind,this,K.rhoNext b (by omega)]
 ·intro b hb;have hb':h.next+1≤b:=hb
  rw[AH.get_alloc_other (by omega)];exact K.getNext b (by omega)
 ·intro b x hx;rw[hsize];rcases hrho b x hx with⟨_,rfl⟩|⟨_,hx⟩
  ·exact hlt
  ·exact K.lt b x hx
 ·intro b ξ base' ob hx hob;rcases hrho b _ hx with⟨rfl,e⟩|⟨hne,hx⟩
  ·cases e;rw[AH.get_alloc_same]at hob;cases hob;exact .cells l (some tg) pre anc hpre (by simp) (fun e h=>by cases h;exact hty) (by rw[Gam.bind_top_same];exact hrow)
  ·rw[AH.get_alloc_other hne]at hob;have hold:=(K.obj b ξ base' ob hx hob)
   by_cases hξ:ξ=β
   ·subst hξ;obtain⟨_,l',rfl,hbl⟩:=hall b base' ob (by assumption) hob;cases hold with
    |old _ hrw =>
     obtain⟨c,e,h1,h2,h3,h4⟩:=hrw;rw[hw]at h1;cases h1;refine .old l' ⟨cur',t,hβ,by omega,h3,fun i hi=>?_⟩;obtain⟨v,hv,hvr⟩:=h4 i hi;exact⟨v,by rw[hkeep _ (by omega)];exact hv,hvr.mono hle⟩
   ·exact(hold.mono hle hx).of_block (setRow_other _ _ _ _ hξ)
 ·intro x y ξ base1 base2 o1 o2 hx hy h1 h2 hne;rcases hrho x _ hx with⟨rfl,e⟩|⟨hn,hx⟩
  ·rcases hrho y _ hy with⟨rfl,e'⟩|⟨hn',hy⟩
   ·exact absurd rfl hne
   ·cases e;rw[AH.get_alloc_same]at h1;cases h1;rw[AH.get_alloc_other hn']at h2;obtain⟨hin,l',rfl,hbl⟩:=hall y base2 o2 hy h2;exact .inl ⟨_,_,_,_,_,rfl,rfl,hin,hbl⟩
  ·rw[AH.get_alloc_other hn]at h1;rcases hrho y _ hy with⟨rfl,e'⟩|⟨hn',hy⟩
   ·cases e';rw[AH.get_alloc_same]at h2;cases h2;obtain⟨hin,l',rfl,hbl⟩:=hall x base1 o1 hx h1;exact .inr (.inl ⟨_,_,_,_,_,rfl,rfl,hin,hbl⟩)
   ·rw[AH.get_alloc_other hn']at h2;exact K.sep x y ξ base1 base2 o1 o2 hx hy h1 h2 hne
 ·intro ξ o1 v hm;have hne:ξ≠β:=fun e=>by
   subst e;have:=hms o1;exact absurd (hm.symm.trans this) (by simp)
  have:=K.mem ξ o1 v hm;rw[←this];exact World.cell?_of_block (setRow_other _ _ _ _ hne)
 ·intro x ξ base' ob o1 hx hob;rcases hrho x _ hx with⟨rfl,e⟩|⟨hn,hx⟩
  ·cases e;exact hms o1
  ·rw[AH.get_alloc_other hn]at hob;exact K.memsep x ξ base' ob o1 hx hob
 ·intro x ξ base' ob hx hob;rcases hrho x _ hx with⟨rfl,e⟩|⟨hn,hx⟩
  ·cases e;exact hlow
  ·rw[AH.get_alloc_other hn]at hob;exact K.low x ξ base' ob hx hob
 ·exact K.below.trans ⟨rfl,rfl,rfl,by rw[hsize];exact Nat.le_refl _,fun k hk=>setRow_other _ _ _ _ (by omega)⟩
 ·intro b hb;obtain⟨h1,h2⟩:=K.held b hb;have hne:b≠h.next:=by omega
  exact⟨by simp[Gam.bind,hne,h1],by show b<h.next+1;omega⟩
theorem HR.allocCellsPre(H:HR CR B w0 g h w)(l:List AV)(vs extra:List Value)(elem:TypeId)(pre:Nat)(anc:List Nat)(hp:pre≤l.length)(es:Nat)(hl:VRs g l vs) :
  HR CR B w0 (g.bind h.next w.heap.size 0 es (vs.length+extra.length)) (h.alloc (.cells l (some (2*elem)) pre anc)) (w.alloc (.cells (vs++extra).toArray elem)) ∧
   g.le (g.bind h.next w.heap.size 0 es (vs.length+extra.length)):=by
 refine H.alloc _ _ _ _ (.cells l (some (2*elem)) pre anc hp (by simp) (fun e h=>by cases h;exact TyR.new (by omega)) ?_);rw[Gam.bind_top_same];exact RowR.new vs extra elem (hl.mono (Gam.le_bind (H.rhoNext _ (Nat.le_refl _))))
theorem Qj0(need:Nat):∀(r c:Nat),c<need→Builtin.growBy need r c≤2*need+200
 |0,c,hc=>by simp[Builtin.growBy];omega
 |r+1,c,hc=>by
  simp only[Builtin.growBy];rw[if_neg (by omega)];by_cases h2:c+(c+768) / 4<need
  ·exact Qj0 need r _ h2
  ·cases r with
   |zero=>simp only[Builtin.growBy];omega
   |succ r=>simp only[Builtin.growBy];rw[if_pos (by omega)];omega
theorem nextslicecap_le(need c:Nat)(hc:c<need):Builtin.nextslicecap need c≤2*need+200:=by
 unfold Builtin.nextslicecap;split
 ·omega
 ·split
  ·omega
  ·exact Qj0 need 4 c hc
structure AppT (P:Program)(w:World)(sT xT elem:TypeId)(size bytes n:Nat)(x:Value)(us:List Value):Prop where
 tslice:P.underlying sT=some (.slice elem)
 plain:∀k,P.underlying xT≠some (.int k)
 isSome:(P.underlying xT).isSome=true
 info:∃i,P.info? elem=.some i∧i.size=size∧i.bytes=bytes∧∃z,i.zero=.some z∧z.cells.size=size
 len:(Builtin.lenOf x).run P w=.ok n w
 cells:(Builtin.firstCells size n x).run P w=.ok us.toArray w
theorem run_askRoom(n:Nat):(askRoom n).run P w=.ok () w:=by
 unfold askRoom;split<;>rfl
theorem Qhm(z:Array Value)(n:Nat):(Builtin.zeroCells z n).size=n*z.size:=by simp[Builtin.zeroCells]
theorem Qc9{sT xT ty elem:TypeId}{size bytes n:Nat}{x:Value}{us:List Value}(T:AppT P w sT xT elem size bytes n x us){a:Addr}{m c:Nat}(hc:m+n≤c)
  (hst:(storeCells (a.add (m*size)) us 0).run P w=.ok () w') :
  (Builtin.append_ #[sT,xT] ty #[.slice (some a) m c,x]).run P w=.ok (.slice (some a) (m+n) c) w':=by
 obtain⟨i,hi,hs,hb,z,hz,hzs⟩:=T.info;obtain⟨d,hd⟩:=Option.isSome_iff_exists.1 T.isSome;have hnint:∀k,d≠.int k:=fun k e=>T.plain k (by rw[hd,e])
 have hzeros:(match d with|.int _=>true|_=>false)=false:=by
  cases d<;>first|rfl|exact absurd rfl (hnint _)
 have hlen:=T.len;have hcells:=T.cells;subst hs;simp[Builtin.append_,run_underlying T.tslice,run_underlying hd,sizeOf,typeInfo,hi,hzeros,hlen,hcells,hc,hst]
theorem Qem{sT xT ty elem:TypeId}{size bytes n:Nat}{x:Value}{us olds:List Value}(T:AppT P w.drew sT xT elem size bytes n x us){base:Option Addr}{m c:Nat}(hc:c<m+n)
  (hb0:bytes≠0)(hb:bytes<1000000)(hn:n*bytes<1000000000000)(hm:m*bytes<1000000000000)
  (hlen:(Builtin.lenOf x).run P w=.ok n w)
  (hold:(Builtin.firstCells size m (.slice base m c)).run P w.drew=.ok olds.toArray w.drew) :
  ∃cap extra,m+n≤cap∧(extra:List Value).length=(cap-(m+n))*size ∧
   (Builtin.append_ #[sT,xT] ty #[.slice base m c,x]).run P w=.ok (.slice (some ⟨w.heap.size,0,none⟩) (m+n) cap) (w.drew.alloc (.cells (olds++us++extra).toArray elem)):=by
 obtain⟨i,hi,hs,hbb,z,hz,hzs⟩:=T.info;obtain⟨d,hd⟩:=Option.isSome_iff_exists.1 T.isSome;have hnint:∀k,d≠.int k:=fun k e=>T.plain k (by rw[hd,e])
 have hzeros:(match d with|.int _=>true|_=>false)=false:=by
  cases d<;>first|rfl|exact absurd rfl (hnint _)
 have hcells:=T.cells;have hnc:=nextslicecap_le (m+n) c hc;have hmn:m+n<2000000000000:=by
  have h1:n≤n*bytes:=Nat.le_mul_of_pos_right _ (by omega);have h2:m≤m*bytes:=Nat.le_mul_of_pos_right _ (by omega);omega
 have hbig:Builtin.nextslicecap (m+n) c*bytes≤2^48:=by
  have h1:Builtin.nextslicecap (m+n) c*bytes≤(2*(m+n)+200)*bytes:=Nat.mul_le_mul_right _ hnc;have h2:(2*(m+n)+200)*bytes=2*(m*bytes)+2*(n*bytes)+200*bytes:=by
   rw[Nat.add_mul,Nat.mul_assoc,Nat.add_mul];omega
  omega
 have hbig':¬(2^48<Builtin.nextslicecap (m+n) c*bytes):=by omega
 have hmax:¬(IntKind.i64.max<((m+n:Nat):Int)):=by
  have:IntKind.i64.max=9223372036854775807:=by decide
  omega
 subst hs hbb
 let cap:=(Question.appendCap (m+n) c elem).cut (w.tape w.drawn (.appendCap (m+n) c elem))
 have hcap:m+n≤cap:=by show m+n≤(m+n)+_;omega
 refine⟨cap,(Builtin.zeroCells z.cells (cap-(m+n))).toList,hcap,by simp[Qhm,hzs],?_⟩;have hcells':(Builtin.firstCells i.size n x).run P w.drew=.ok us.toArray w.drew:=hcells;have hnle:¬(m+n≤c):=by omega
 have hmax':¬(IntKind.i64.max<(m:Int)+(n:Int)):=by
  have:IntKind.i64.max=9223372036854775807:=by decide
  omega
 have hmax'':¬((9223372036854775807:Int)<(m:Int)+(n:Int)):=by omega
 have h48:¬(281474976710656<Builtin.nextslicecap (m+n) c*i.bytes):=hbig';simp[Builtin.append_,run_underlying T.tslice,run_underlying hd,sizeOf,typeInfo,zeroValue,hi,hz,hzeros,hlen,hnle,h48,hmax'',Question.forced,run_askRoom,hold,hcells',newRow];refine⟨rfl,?_⟩
 congr 2
 apply Array.ext';simp[cap]
theorem HR.append(H:HR CR B w0 g h w){sT xT ty elem:TypeId}{size bytes n:Nat}{x s':Value}{us:List Value}{xs:List AV}{s r:AV}
  (T:∀W,(∀a,W.cell? a=w.cell? a)→AppT P W sT xT elem size bytes n x us)(ha:QbU size bytes (2*elem) h n xs s=some (r,h'))(hs:VR g s s')(hx:VRs g xs us)
  (hnil:n=0→us=[]) :
  ∃g' w' r',(Builtin.append_ #[sT,xT] ty #[s',x]).run P w=.ok r' w'∧HR CR B w0 g' h' w'∧g.le g'∧VR g' r r':=by
 have T0:=T w (fun _=>rfl);have T1:=T w.drew (fun _=>rfl);have hlenx:=T0.len;unfold QbU at ha;split at ha
 case isFalse=>cases ha
 rename_i hc;obtain⟨hxl,hsz,hb0,hb1,hn1,hone⟩:=hc;split at ha
 case isTrue =>
  rename_i hn0;subst hn0;have hus:=hnil rfl;subst hus;have key:∀(a:Option Addr) (m c:Nat),m≤c→(Builtin.append_ #[sT,xT] ty #[.slice a m c,x]).run P w=.ok (.slice a m c) w:=by
   intro a m c hmc;cases a with
   |some a=>exact Qc9 T0 (by omega) rfl
   |none =>
    obtain⟨i,hi,hs,hb,z,hz,hzs⟩:=T0.info;obtain⟨d,hd⟩:=Option.isSome_iff_exists.1 T0.isSome;have hnint:∀k,d≠.int k:=fun k e=>T0.plain k (by rw[hd,e])
    have hzeros:(match d with|.int _=>true|_=>false)=false:=by
     cases d<;>first|rfl|exact absurd rfl (hnint _)
    have hcells:=T0.cells;subst hs;simp[Builtin.append_,run_underlying T0.tslice,run_underlying hd,sizeOf,typeInfo,hi,hzeros,hlenx,hcells,hmc]
  cases hs with
  |nilslice=>simp at ha;obtain⟨rfl,rfl⟩:=ha;exact⟨g,w,_,key none 0 0 (Nat.le_refl _),H,g.le_refl,.nilslice⟩
  |empty a=>simp at ha;obtain⟨rfl,rfl⟩:=ha;exact⟨g,w,_,key (some a) 0 0 (Nat.le_refl _),H,g.le_refl,.empty a⟩
  |sliceC b o n c β base hr hn=>simp at ha;obtain⟨rfl,rfl⟩:=ha;exact⟨g,w,_,key _ n c hn,H,g.le_refl,.sliceC b o n c β base hr hn⟩
  |sliceN b o n es c β base a hr hn haa ht=>simp at ha;obtain⟨rfl,rfl⟩:=ha;exact⟨g,w,_,key _ n c hn,H,g.le_refl,.sliceN b o n es c β base a hr hn haa ht⟩
  |vec l vs β o c sz hl hn hz hz' hv hm=>simp at ha;obtain⟨rfl,rfl⟩:=ha;exact⟨g,w,_,key _ _ c hn,H,g.le_refl,.vec l vs β o c sz hl hn hz hz' hv hm⟩
  |_=>simp at ha
 case isFalse =>
  rename_i hn0;have hul:us.length=n*size:=by rw[←hx.len];exact hxl
  have fresh:∀(a:Option Addr),some (AV.slop h.next 0 n size,h.alloc (.cells xs (some (2*elem)) 0 []))=some (r,h') →
    ∃g' w' r',(Builtin.append_ #[sT,xT] ty #[.slice a 0 0,x]).run P w=.ok r' w'∧HR CR B w0 g' h' w'∧g.le g'∧VR g' r r':=by
   intro a ha;simp only[oI,Prod.mk.injEq]at ha;obtain⟨rfl,rfl⟩:=ha;have hold:(Builtin.firstCells size 0 (.slice a 0 0)).run P w.drew=.ok ([]:List Value).toArray w.drew:=by
    cases a<;>simp[Builtin.firstCells,loadCells,loadCellsFrom]
   obtain⟨cap,extra,hcap,hex,hrun⟩:=Qem (ty:=ty) T1 (base:=a) (m:=0) (c:=0) (by omega) hb0 hb1 hn1 (by omega) hlenx hold;obtain⟨H1,hle⟩:=H.drew.allocCells xs us extra elem (some (2*elem)) (by simp) size (fun e h=>by cases h;omega) hx;refine⟨_,_,_,hrun,?_,hle,?_⟩
   ·simpa using H1
   ·rw[Nat.zero_add]at hcap hex ⊢;refine .sliceN _ _ _ _ _ _ _ _ Gam.bind_rho_same hcap (.inr rfl) ?_;rw[Gam.bind_top_same,hul,hex,←Nat.add_mul,Nat.zero_add]
    congr 1;omega
  cases hs with
  |nilslice=>simp only at ha;exact fresh none ha
  |empty a=>simp only at ha;exact fresh (some a) ha
  |sliceC b o m c β base hr hmc =>
   simp only at ha;split at ha
   case isFalse=>cases ha
   rename_i hm1;split at ha
   case isTrue =>
    rename_i hroom;obtain⟨h1,hst,heq⟩:=oM ha;simp only[Prod.mk.injEq]at heq;obtain⟨rfl,rfl⟩:=heq;obtain⟨w',hrun,H'⟩:=H.store (P:=P) hr hst hx;refine⟨g,w',_,Qc9 T0 hroom ?_,H',g.le_refl,.sliceC b o (m+n) c β base hr hroom⟩;rw[addr_add,show base+o+m*size=base+(o+m*size) by omega];exact hrun
   case isFalse =>
    rename_i hroom;obtain⟨l,hrd,heq⟩:=oM ha;simp only[Prod.mk.injEq]at heq;obtain⟨rfl,rfl⟩:=heq;obtain⟨vs,hvs,hvl,hcells⟩:=H.read hr hrd;have hold:(Builtin.firstCells size m (.slice (some ⟨β,base+o,none⟩) m c)).run P w.drew=.ok vs.toArray w.drew:=by
     simp only[Builtin.firstCells];rw[←hvl];exact run_loadCells_list (P:=P) w.drew _ vs (fun j v hj=>by rw[addr_add];exact hcells j v hj)
    obtain⟨cap,extra,hcap,hex,hrun⟩:=Qem (ty:=ty) T1 (base:=some ⟨β,base+o,none⟩) (m:=m) (c:=c) (by omega) hb0 hb1 hn1 hm1 hlenx hold;obtain⟨H1,hle⟩:=H.drew.allocCells (l++xs) (vs++us) extra elem (some (2*elem)) (by simp) size (fun e h=>by cases h;omega) (hvs.append hx);refine⟨_,_,_,hrun,H1,hle,?_⟩;refine .sliceN _ _ _ _ _ _ _ _ Gam.bind_rho_same hcap (.inr rfl) ?_;rw[Gam.bind_top_same,List.length_append,hvl,hul,hex,←Nat.add_mul,←Nat.add_mul,Nat.zero_add]
    congr 1;omega
  |sliceN b o m es c β base a hr hmc haa ht =>
   simp only at ha;split at ha
   case h_2=>cases ha
   rename_i l es1 pre anc hg;split at ha
   case isFalse=>cases ha
   rename_i hcond;obtain⟨hm1,hol,rfl,hes1⟩:=hcond;subst hes1;have hobj:=H.obj b β base _ hr hg;obtain⟨hp,htyR,hrow⟩:pre≤l.length∧TyR w β base (2*elem)∧RowR g w β base l (g.top b):=by cases hobj with|cells _ _ _ _ hp _ hes hrow=>exact⟨hp,hes _ rfl,hrow⟩
   have hrow0:=hrow;obtain⟨cur,t,hw,hroomsz,hltop,hcur⟩:=hrow;have hlt:β<w.heap.size:=H.lt b _ hr;have hread:h.read b o (m*es)=some ((l.drop o).take (m*es)):=by
    simp[AH.read,AH.cellsAt,hg,hol]
   obtain⟨vs,hvs,hvl,hcells⟩:=H.read hr hread;have haddr:m+n≤c→a=⟨β,base+o,none⟩:=fun hle=>haa.resolve_left (by omega)
   have hold:∀W:World,(∀a,W.cell? a=w.cell? a)→(Builtin.firstCells es m (.slice (some a) m c)).run P W=.ok vs.toArray W:=by
    intro W hW;simp only[Builtin.firstCells];rw[←hvl];refine run_loadCells_list (P:=P) W _ vs (fun j v hj=>?_);have hj':j<vs.length:=by
     rcases Nat.lt_or_ge j vs.length with hlt|hge
     ·exact hlt
     ·rw[List.getElem?_eq_none hge]at hj;cases hj
    have hm0:m≠0:=fun e=>by rw[e]at hvl;omega
    rw[haa.resolve_left (by omega),addr_add,hW];exact hcells j v hj
   have htop:m+n≤c→o+m*es+n*es≤g.top b:=by
    intro hle;have:(m+n)*es≤c*es:=Nat.mul_le_mul_right _ hle;rw[Nat.add_mul]at this;omega
   have hone':∀v∈us,v.oneCell'=true:=by
    intro v hv;obtain⟨i,hi,rfl⟩:=List.getElem_of_mem hv;have hi':i<xs.length:=by rw[hx.len];exact hi
    exact AV.one_oneCell (List.all_eq_true.1 hone _ (List.getElem_mem hi')) (hx.val i hi' hi)
   have hmem:∀k,g.mem β k=none:=fun k=>H.memsep b β base _ k hr hg
   have hlow:=H.low b β base _ hr hg;have inplace:m+n≤c→∀(K:AH) (l2:List AV) (pre2:Nat) (anc2:List Nat),HR CR B w0 g K w→pre2≤m*es→l2=(l.drop o).take (m*es)++xs→pre2≤l2.length →
     (∀y base' ob,g.rho y=some (β,base')→K.get y=some ob→y∈anc2∧∃l',ob=.old l'∧base'+l'.length≤base+o+pre2) →
     some (AV.slop K.next 0 (m+n) es,K.alloc (.cells l2 (some (2*elem)) pre2 anc2))=some (r,h') →
     ∃g' w' r',(Builtin.append_ #[sT,xT] ty #[.slice (some a) m c,x]).run P w=.ok r' w'∧HR CR B w0 g' h' w'∧g.le g'∧VR g' r r':=by
    intro hle K l2 pre2 anc2 HK hpre2 hl2 hpl hall heq;simp only[oI,Prod.mk.injEq]at heq;obtain⟨rfl,rfl⟩:=heq;have ha':=haddr hle;subst ha';have ht2:=htop hle;have hst:=run_storeCells_at P β (base+o+m*es) t us 0 cur w hw (by rw[hul];omega) hone';simp only[Nat.add_zero]at hst;generalize hcur':(cur.toList.take (base+o+m*es)++us++cur.toList.drop (base+o+m*es+us.length)).toArray=cur' at hst;have e1:(List.take (base+o+m*es) cur.toList).length=base+o+m*es:=by simp;omega
    have hget:∀k,k<base+o+m*es→cur'[k]? = cur[k]?:=by
     intro k hk;rw[←hcur'];simp only[List.getElem?_toArray,List.append_assoc];rw[List.getElem?_append_left (by omega),List.getElem?_take,if_pos hk];simp
    have hget2:∀k (hk:k<us.length),cur'[base+o+m*es+k]? = some us[k]:=by
     intro k hk;rw[←hcur'];simp only[List.getElem?_toArray,List.append_assoc];rw[List.getElem?_append_right (by omega),e1,List.getElem?_append_left (by omega),show base+o+m*es+k-(base+o+m*es)=k by omega,gE hk]
    have hsz:cur'.size=cur.size:=by rw[←hcur'];simp;rw[hul];omega
    have hl2len:l2.length=m*es+n*es:=by rw[hl2];simp;rw[hxl];omega
    obtain⟨H',hle'⟩:=HK.rebind (base:=base+o) (es:=es) (top:=g.top b-o) hw hsz hlt hlow hmem l2 pre2 anc2 hpl (fun k hk=>hget k (by omega)) hall (by
     refine⟨cur',t,setRow_heap w β cur cur' t (0,0) hw,by omega,by omega,fun i hi=>?_⟩;by_cases hi1:i<m*es
     ·obtain⟨v,hv,hvr⟩:=hcur (o+i) (by omega);refine⟨v,by rw[hget _ (by omega),show base+o+i=base+(o+i) by omega];exact hv,?_⟩;have:l2[i]=l[o+i]:=by
       subst hl2;rw[List.getElem_append_left (by simp;omega)];simp
      rw[this];exact hvr.mono (Gam.le_bind (HK.rhoNext _ (Nat.le_refl _)))
     ·refine⟨us[i-m*es]'(by rw[hul];omega),by rw[show base+o+i=base+o+m*es+(i-m*es) by omega];exact hget2 _ _,?_⟩;have:l2[i]=xs[i-m*es]'(by rw[hxl];omega):=by
       subst hl2;rw[List.getElem_append_right (by simp;omega)]
       congr 1
       simp;omega
      rw[this];exact(hx.val _ _ _).mono (Gam.le_bind (HK.rhoNext _ (Nat.le_refl _)))) (2*elem) (by obtain⟨⟨c1,h1⟩,_⟩:=htyR;rw[hw]at h1;cases h1;exact⟨⟨cur',setRow_heap w β cur cur' _ (0,0) hw⟩,fun e=>by omega⟩)
    refine⟨_,_,_,Qc9 T0 hle (by rw[addr_add];exact hst),H',hle',?_⟩;have:=VR.sliceN (g:=g.bind K.next β (base+o) es (g.top b-o)) K.next 0 (m+n) es c β (base+o) ⟨β,base+o,none⟩ Gam.bind_rho_same hle (.inr rfl) (by
     rw[Gam.bind_top_same];omega)
    exact this
   have newrow:c<m+n→∀(K:AH) (pre2:Nat) (anc2:List Nat),HR CR B w0 g K w→pre2≤m*es →
     some (AV.slop K.next 0 (m+n) es,K.alloc (.cells ((l.drop o).take (m*es)++xs) (some (2*elem)) pre2 anc2))=some (r,h') →
     ∃g' w' r',(Builtin.append_ #[sT,xT] ty #[.slice (some a) m c,x]).run P w=.ok r' w'∧HR CR B w0 g' h' w'∧g.le g'∧VR g' r r':=by
    intro hgt K pre2 anc2 HK hpre2 heq;simp only[oI,Prod.mk.injEq]at heq;obtain⟨rfl,rfl⟩:=heq;obtain⟨cap,extra,hcap,hex,hrun⟩:=Qem (ty:=ty) T1 (base:=some a) (m:=m) (c:=c) hgt hb0 hb1 hn1 hm1 hlenx (hold _ (fun _=>rfl));obtain⟨H1,hle⟩:=HK.drew.allocCellsPre ((l.drop o).take (m*es)++xs) (vs++us) extra elem pre2 anc2 (by simp;omega) es (hvs.append hx);refine⟨_,_,_,hrun,H1,hle,?_⟩;refine .sliceN _ _ _ _ _ _ _ _ Gam.bind_rho_same hcap (.inr rfl) ?_;rw[Gam.bind_top_same,List.length_append,hvl,hul,hex,←Nat.add_mul,←Nat.add_mul,Nat.zero_add]
    congr 1;omega
   have hrowmates:∀y base' ob,y≠b→g.rho y=some (β,base')→h.get y=some ob→y∈anc∧∃l',ob=.old l'∧base'+l'.length≤base+pre:=by
    intro y base' ob hne hy hob;rcases H.sep b y β base base' _ ob hr hy hg hob (Ne.symm hne) with hu|hu|hu
    ·obtain⟨l1,sp1,pre1,anc1,l2,e1,e2,e3,e4⟩:=hu;cases e1;exact⟨e3,l2,e2,e4⟩
    ·obtain⟨l1,sp1,pre1,anc1,l2,e1,e2,e3,e4⟩:=hu;cases e2
    ·obtain⟨⟨l2,e⟩,_⟩:=hu;cases e
   split at ha
   case isTrue =>
    rename_i hin;obtain⟨h1,hst,heq⟩:=oM ha;simp only[Prod.mk.injEq]at heq;obtain⟨rfl,rfl⟩:=heq;obtain⟨w',hrun,H'⟩:=H.store (P:=P) hr hst hx;have hle:m+n≤c:=by
     rw[hxl]at hin;have h2:(m+n)*es≤c*es:=by rw[Nat.add_mul];omega
     exact Nat.le_of_mul_le_mul_right h2 (by omega)
    have ha':=haddr hle;subst ha';refine⟨g,w',_,Qc9 T0 hle ?_,H',g.le_refl,.sliceN b o (m+n) es c β base _ hr hle (.inr rfl) ht⟩;rw[addr_add,show base+o+m*es=base+(o+m*es) by omega];exact hrun
   case isFalse =>
    rename_i hin;split at ha
    case isTrue =>
     rename_i hend;have hdrop:l.drop o++xs=(l.drop o).take (m*es)++xs:=by
      rw[List.take_of_length_le (by simp;omega)]
     rw[hdrop]at ha;have K:=H.oldify hr hg;have hKn:(h.put b (.old l)).next=h.next:=rfl
     by_cases hle:m+n≤c
     ·refine inplace hle (h.put b (.old l)) _ (m*es) (b::anc) K (Nat.le_refl _) rfl (by simp;omega) ?_ ha;intro y base' ob hy hob;by_cases hyb:y=b
      ·subst hyb;rw[hr]at hy;cases hy;rw[AH.get_put_same]at hob;cases hob;exact⟨by simp,l,rfl,by omega⟩
      ·rw[AH.get_put_other hyb]at hob;obtain⟨h1,l',h2,h3⟩:=hrowmates y base' ob hyb hy hob;exact⟨by simp[h1],l',h2,by omega⟩
     ·exact newrow (by omega) (h.put b (.old l)) (m*es) (b::anc) K (Nat.le_refl _) ha
    case isFalse =>
     have K:=H.kill (b::anc);by_cases hle:m+n≤c
     ·refine inplace hle (h.kill (b::anc)) _ 0 [] K (Nat.zero_le _) rfl (Nat.zero_le _) ?_ ha;intro y base' ob hy hob;obtain⟨hn,hob⟩:=AH.get_kill hob;have hyb:y≠b:=fun e=>hn (by simp[e])
      exact absurd (hrowmates y base' ob hyb hy hob).1 (fun h=>hn (by simp[h]))
     ·exact newrow (by omega) (h.kill (b::anc)) 0 [] K (Nat.zero_le _) ha
  |vec l vs β o c sz hl hn hz hz' hv hm=>simp at ha
  |_=>simp at ha
end
end Go.Ab
namespace Go.Ab
open Go Go.RowKit
section
variable{CR:AC→Code→Prop}{B:Nat}{w0:Anchor}{g g':Gam}{h h':AH}{w w':World}{P:Program}
def Gives(CR:AC→Code→Prop)(B:Nat)(w0:Anchor)(g:Gam)(r:AV)(h':AH)(res:Result Value):Prop:=
 ∃g' w' v,res=.ok v w'∧HR CR B w0 g' h' w'∧g.le g'∧VR g' r v
theorem Gives.same(H:HR CR B w0 g h w){r:AV}{v:Value}(hv:VR g r v):Gives CR B w0 g r h (.ok v w):=⟨g,w,v,rfl,H,g.le_refl,hv⟩
theorem VR.cells{v:AV}{u:Value}(hv:VR g v u)(hk:v.known=true):VRs g v.cells u.cells.toList:=by
 cases hv with
 |undef=>simp[AV.known]at hk
 |agg l vs hl h =>
  refine⟨by simp[AV.cells,Value.cells,hl],fun i h1 h2=>?_⟩;have h2':i<vs.size:=by simpa[Value.cells] using h2
  have:=h i h1 h2';rw[←Array.getElem_toList]at this;exact this
 |bool b=>exact VRs.cons (.bool b) (VRs.nil g)
 |int k n=>exact VRs.cons (.int k n) (VRs.nil g)
 |str n b h=>exact VRs.cons (.str n b h) (VRs.nil g)
 |nilptr=>exact VRs.cons .nilptr (VRs.nil g)
 |ptr b o β base h=>exact VRs.cons (.ptr b o β base h) (VRs.nil g)
 |iptr cells vs β o hl hv hm=>exact VRs.cons (.iptr cells vs β o hl hv hm) (VRs.nil g)
 |nilslice=>exact VRs.cons .nilslice (VRs.nil g)
 |empty a=>exact VRs.cons (.empty a) (VRs.nil g)
 |sliceC b o n c β base h hn=>exact VRs.cons (.sliceC b o n c β base h hn) (VRs.nil g)
 |sliceN b o n es c β base a h hn ha ht=>exact VRs.cons (.sliceN b o n es c β base a h hn ha ht) (VRs.nil g)
 |vec l vs β o c sz hl hn hz hz' hv hm=>exact VRs.cons (.vec l vs β o c sz hl hn hz hz' hv hm) (VRs.nil g)
 |nilmap=>exact VRs.cons .nilmap (VRs.nil g)
 |map b β h=>exact VRs.cons (.map b β h) (VRs.nil g)
 |func f first captured fs cs hf hc hfv hcv=>exact VRs.cons (.func f first captured fs cs hf hc hfv hcv) (VRs.nil g)
 |yield l β h=>exact VRs.cons (.yield l β h) (VRs.nil g)
 |nilFunc=>exact VRs.cons .nilFunc (VRs.nil g)
 |iface t v v' h=>exact VRs.cons (.iface t v v' h) (VRs.nil g)
 |nilIface=>exact VRs.cons .nilIface (VRs.nil g)
 |tuple l vs hl hv=>exact VRs.cons (.tuple l vs hl hv) (VRs.nil g)
theorem HR.row(H:HR CR B w0 g h w)(l:List AV)(vs:List Value)(elem:TypeId)(es:Nat)(hl:VRs g l vs) :
  ∃g',HR CR B w0 g' (h.alloc (.cells l none 0 [])) (w.alloc (.cells vs.toArray elem))∧g.le g'∧g'.rho h.next=some (w.heap.size,0):=by
 have:=H.allocCells l vs [] elem none (fun _=>rfl) es (by simp) hl;rw[List.append_nil]at this;exact⟨_,this.1,this.2,Gam.bind_rho_same⟩
theorem HR.rowT(H:HR CR B w0 g h w)(l:List AV)(vs:List Value)(elem:TypeId)(es:Nat)(hl:VRs g l vs) :
  ∃g',HR CR B w0 g' (h.alloc (.cells l (some (2*elem+1)) 0 [])) (w.alloc (.cells vs.toArray elem))∧g.le g'∧g'.rho h.next=some (w.heap.size,0):=by
 have:=H.allocCells l vs [] elem (some (2*elem+1)) (fun _=>rfl) es (fun e h=>by cases h;omega) hl;rw[List.append_nil]at this;exact⟨_,this.1,this.2,Gam.bind_rho_same⟩
theorem Qn9(H:HR CR B w0 g h w)(t:TypeId){x:AV}{v:Value}(hx:VR g x v)(hk:x.known=true) :
  Gives CR B w0 g (.ptr h.next 0) (h.alloc (.cells x.cells (some (2*t+1)) 0 [])) ((Instr.box t v).run P w):=by
 obtain⟨g',H',hle,hr⟩:=H.rowT x.cells v.cells.toList t 0 (hx.cells hk);exact⟨g',_,_,rfl,by simpa using H',hle,.ptr _ 0 _ 0 hr⟩
theorem Qlc(H:HR CR B w0 g h w)(t:TypeId){i:TypeInfo}{z:Value}(hi:P.info? t=some i)(hz:i.zero=some z)(old:Value){l:List AV}(hl:VRs g l z.cells.toList) :
  Gives CR B w0 g (.ptr h.next 0) (h.alloc (.cells l (some (2*t+1)) 0 [])) ((Instr.alloc t true old).run P w):=by
 obtain⟨g',H',hle,hr⟩:=H.rowT l z.cells.toList t 0 hl;refine⟨g',w.alloc (.cells z.cells t),.pointer (some ⟨w.heap.size,0,none⟩),?_,by simpa using H',hle,.ptr _ 0 _ 0 hr⟩;simp[Instr.alloc,zeroValue,typeInfo,hi,hz,newVar,newRow]
theorem Qjo{t:TypeId}{d:TypeDesc}(hd:P.underlying t=some d)(w:World):(isAgg t).run P w=.ok (match d with|.struct _|.array _ _=>true|_=>false) w:=by
 simp only[isAgg,Sem.run_bind,run_underlying hd,Result.andThen];cases d<;>rfl
theorem QbF{t:TypeId}{b:Bool}(h:Qdp P t=some b)(w:World):(isAgg t).run P w=.ok b w:=by
 unfold Qdp at h;cases hd:P.underlying t with
 |none=>simp[hd]at h
 |some d =>
  rw[Qjo hd w];cases d<;>simp_all
theorem QdD{t:TypeId}{n:Nat}(h:sizeT P t=some n):∃i,P.info? t=some i∧i.size=n:=by
 unfold sizeT at h;cases hi:P.info? t with
 |none=>simp[hi]at h
 |some i=>exact⟨i,rfl,by simpa[hi] using h⟩
theorem run_sizeOf{t:TypeId}{n:Nat}(h:sizeT P t=some n)(w:World):(sizeOf t).run P w=.ok n w:=by
 obtain⟨i,hi,rfl⟩:=QdD h;simp[sizeOf,typeInfo,hi]
theorem Qk9(H:HR CR B w0 g h w){t:TypeId}(ha:Qdp P t=some false){x v:AV}{u:Value}(hl:loadA h 1 x=some [v])(hx:VR g x u) :
  Gives CR B w0 g v h ((Instr.loadAt t u).run P w):=by
 obtain⟨a,vs,rfl,h1,h2,h3⟩:=H.loadA hl hx
 match vs,h2 with
 | [y],_ =>
  have hc:=h3 0 y (by simp);have:a.add 0=a:=by simp[Addr.add]
  rw[this]at hc;have hrun:(Instr.loadAt t (.pointer (some a))).run P w=.ok y w:=by
   simp[Instr.loadAt,Instr.sureAddr,loadVar,QbF ha,load,Sem.run,hc]
  rw[hrun];exact Gives.same H h1.head
theorem Qk8(H:HR CR B w0 g h w){t:TypeId}{n:Nat}(ha:Qdp P t=some true)(hn:sizeT P t=some n){x:AV}{l:List AV}{u:Value}(hl:loadA h n x=some l)(hx:VR g x u) :
  Gives CR B w0 g (.agg l) h ((Instr.loadAt t u).run P w):=by
 obtain⟨a,vs,rfl,h1,h2,h3⟩:=H.loadA hl hx;have hrun:(Instr.loadAt t (.pointer (some a))).run P w=.ok (.agg vs.toArray) w:=by
  have:=run_loadCells_list (P:=P) w a vs h3;rw[h2]at this;simp[Instr.loadAt,Instr.sureAddr,loadVar,QbF ha,run_sizeOf hn,this]
 rw[hrun];exact Gives.same H h1.agg
theorem Qk6(H:HR CR B w0 g h w){t:TypeId}{n:Nat}(hn:sizeT P t=some n){x a:AV}{u ua:Value}(hk:x.known=true)(hl:x.cells.length=n)(hs:storeA h x.cells a=some h')
  (hx:VR g x u)(ha:VR g a ua):∃w',(Instr.storeAt t ua u).run P w=.ok () w'∧HR CR B w0 g h' w':=by
 obtain⟨b,w',rfl,h1,h2⟩:=H.storeA (P:=P) hs ha (hx.cells hk);refine⟨w',?_,h2⟩;have hsz:u.cells.size=n:=by
  have:=(hx.cells hk).len;rw[hl]at this;simpa using this.symm
 simp[Instr.storeAt,Instr.sureAddr,storeVar,run_sizeOf hn,hsz,h1]
theorem QhO{s:Sem Value}{r:AV}(hr:pureV s=some r):∃v,s=.pure v∧VR g r v:=by
 unfold pureV at hr;split at hr
 ·cases hr;exact⟨_,rfl,.int _ _⟩
 ·cases hr;exact⟨_,rfl,.bool _⟩
 ·cases hr
theorem Qer(H:HR CR B w0 g h w){b b' β β' base base' o o':Nat}{l l':List AV}{sp sp':Option Nat}{pre pre':Nat}(hne:b≠b')
  (hr:g.rho b=some (β,base))(hr':g.rho b'=some (β',base'))(hg:h.get b=some (.cells l sp pre []))(hg':h.get b'=some (.cells l' sp' pre' [])) :
  (sameAddr ⟨β,o,none⟩ ⟨β',o',none⟩).run P w=.ok false w:=by
 have hβ:β≠β':=by
  intro e;subst e;rcases H.sep b b' β base base' _ _ hr hr' hg hg' hne with hu|hu|hu
  ·obtain⟨l1,sp1,pre1,anc1,l2,e1,e2,e3,e4⟩:=hu;cases e2
  ·obtain⟨l1,sp1,pre1,anc1,l2,e1,e2,e3,e4⟩:=hu;cases e2
  ·obtain⟨⟨l2,e⟩,_⟩:=hu;cases e
 have h1:∃c e,w.heap[β]? = some (.cells c e (0,0)):=by
  have:=H.obj b β base _ hr hg;cases this with
  |cells _ _ _ _ _ _ _ hrow=>obtain⟨c,e,h1,_⟩:=hrow;exact⟨c,e,h1⟩
 have h2:∃c e,w.heap[β']? = some (.cells c e (0,0)):=by
  have:=H.obj b' β' base' _ hr' hg';cases this with
  |cells _ _ _ _ _ _ _ hrow=>obtain⟨c,e,h1,_⟩:=hrow;exact⟨c,e,h1⟩
 obtain⟨c,e,h1⟩:=h1;obtain⟨c',e',h2⟩:=h2;have hbeq:(β == β')=false:=by simp[hβ]
 simp[sameAddr,hbeq,frozen,Sem.run,World.frozen?,h1,h2,noView,viewAt,shape,World.shape?,mayBeOne,stringish]
theorem Qli{t:TypeId}{x y:Operand}{q:Nat}(hq:Qg2 P t x y=some q) :
  (q=0∧P.underlying t=some .bool)∨(q=1∧∃e i,P.underlying t=some (.pointer e)∧P.info? e=some i∧i.size≠0)∨(q=2∧∃e,P.underlying t=some (.slice e)) ∨
  (q=3∧∃k e,P.underlying t=some (.map k e))∨(q=4∧∃a b c,P.underlying t=some (.func a b c))∨(q=5∧(∃m,P.underlying t=some (.interface m))∧(isConstO x||isConstO y)=true)∨(q=9∨10≤q):=by
 unfold Qg2 at hq;split at hq
 ·rename_i h;cases hq;exact .inl ⟨rfl,h⟩
 ·rename_i e h;split at hq
  ·rename_i hs;cases hq;refine .inr (.inl ⟨rfl,e,?_⟩);cases hz:sizeT P e with
   |none=>simp[hz]at hs
   |some n =>
    obtain⟨i,hi,rfl⟩:=QdD hz;exact⟨i,h,hi,by simpa[hz] using hs⟩
  ·cases hq
 ·rename_i h;cases hq;exact .inr (.inr (.inl ⟨rfl,_,h⟩))
 ·rename_i h;cases hq;exact .inr (.inr (.inr (.inl ⟨rfl,_,_,h⟩)))
 ·rename_i h;cases hq;exact .inr (.inr (.inr (.inr (.inl ⟨rfl,_,_,_,h⟩))))
 ·rename_i h;split at hq
  ·rename_i hc;cases hq;exact .inr (.inr (.inr (.inr (.inr (.inl ⟨rfl,⟨_,h⟩,hc⟩)))))
  ·cases hq
 ·cases hq;exact .inr (.inr (.inr (.inr (.inr (.inr (.inl rfl))))))
 ·cases hq;exact .inr (.inr (.inr (.inr (.inr (.inr (.inl rfl))))))
 ·split at hq
  ·split at hq
   ·cases hq;exact .inr (.inr (.inr (.inr (.inr (.inr (.inr (by omega)))))))
   ·cases hq
  ·cases hq
 ·split at hq
  ·split at hq
   ·cases hq;exact .inr (.inr (.inr (.inr (.inr (.inr (.inr (by omega)))))))
   ·cases hq
  ·cases hq
 ·cases hq
theorem QmU{t:TypeId}{x y:Operand}{q:Nat}(hq:Qg2 P t x y=some q)(h10:10≤q) :
  P.eqGuardType P.depth t=false∧((∃fs ks,P.underlying t=some (.struct fs)∧fs.toList.mapM (fun f=>Qdg P f.type)=some ks∧P.stoodInHeld t=false∧QdJ 0 fs.toList=true∧q=10+codeOf ks) ∨
   ∃n e k,P.underlying t=some (.array n e)∧Qdg P e=some k∧sizeT P e=some 1∧q=10+codeOf (List.replicate n k)):=by
 unfold Qg2 at hq;split at hq
 ·cases hq;omega
 ·split at hq
  ·cases hq;omega
  ·cases hq
 ·cases hq;omega
 ·cases hq;omega
 ·cases hq;omega
 ·split at hq
  ·cases hq;omega
  ·cases hq
 ·cases hq;omega
 ·cases hq;omega
 ·rename_i fs ht;split at hq
  ·rename_i ks hks;split at hq
   ·rename_i hc;cases hq;simp only[Bool.and_eq_true,Bool.not_eq_true']at hc;exact⟨hc.1.2,.inl ⟨fs,ks,ht,hks,hc.1.1,hc.2,rfl⟩⟩
   ·cases hq
  ·cases hq
 ·rename_i n e ht;split at hq
  ·rename_i k hk hs;split at hq
   ·rename_i hc;cases hq;exact⟨by simpa using hc,.inr ⟨n,e,k,ht,hk,hs,rfl⟩⟩
   ·cases hq
  ·cases hq
 ·cases hq
theorem Qdf{t:TypeId}{k:Nat}(h:Qdg P t=some k):(k=1∧∃j,P.underlying t=some (.int j))∨(k=2∧P.underlying t=some .string)∨(k=3∧P.underlying t=some .bool):=by
 unfold Qdg at h;split at h<;>cases h
 ·rename_i j hj;exact .inl ⟨rfl,j,hj⟩
 ·rename_i hj;exact .inr (.inl ⟨rfl,hj⟩)
 ·rename_i hj;exact .inr (.inr ⟨rfl,hj⟩)
theorem run_part_plain{t:TypeId}{k:Nat}(h:Qdg P t=some k){xs:Array Value}{i:Nat}{v:Value}(hx:xs[i]? = some v):(part t xs i).run P w=.ok v w:=by
 rcases Qdf h with⟨_,j,hu⟩|⟨_,hu⟩|⟨_,hu⟩<;>simp[part,Qjo hu,hx]
theorem Qhy{x y:Operand}(h:(isConstO x||isConstO y)=true):((match x with|.const _=>true|_=>false)||(match y with|.const _=>true|_=>false))=true:=by
 cases x<;>cases y<;>first|rfl|exact Bool.noConfusion h
theorem Qdt{t:TypeId}{u u':Value}{r:Bool}(key:∀d,(Op.equalIn (d+1) t u u').run P w=.ok r w)(hint:∀k n,u≠.int k n)(hflo:∀k n,u≠.float k n)(hcom:∀k n m,u≠.complex k n m)
  (hstr:∀s,u≠.string s):(binOp .eql t u u').run P w=.ok (.bool r) w∧(binOp .neq t u u').run P w=.ok (.bool !r) w:=by
 have hk:(Op.equal t u u').run P w=.ok r w:=key 9999;constructor
 ·unfold binOp;split
  all_goals first
   |(exact absurd rfl (hint _ _))|(exact absurd rfl (hflo _ _))|(exact absurd rfl (hcom _ _ _))|(exact absurd rfl (hstr _))
   |(simp[hk];done)|(rename_i h _ _ _;cases h)|skip
  all_goals simp_all
 ·unfold binOp;split
  all_goals first
   |(exact absurd rfl (hint _ _))|(exact absurd rfl (hflo _ _))|(exact absurd rfl (hcom _ _ _))|(exact absurd rfl (hstr _))
   |(simp[hk];done)|skip
  all_goals simp_all
theorem Qmp{n a m b:Nat}(ha:a<256^n)(hb:b<256^m):((bsOf n a).toList == (bsOf m b).toList)=(n == m&&a == b):=by
 rw[Qek,Qek,Bool.eq_iff_iff];simp only[beq_iff_eq,Bool.and_eq_true];constructor
 ·intro h;have h1:=congrArg List.length h;rw[Qax,Qax]at h1;subst h1;exact⟨rfl,Qfd ha hb h⟩
 ·rintro⟨rfl,rfl⟩;rfl
theorem Qfn{t:TypeId}{k:Nat}(h:Qdg P t=some k)(d:Nat){a b:AV}{u u':Value}{r:Bool}(he:Qg3 k a b=some r)(ha:VR g a u)(hb:VR g b u'):(Op.equalIn (d+1) t u u').run P w=.ok r w:=by
 rcases Qdf h with⟨rfl,j,hu⟩|⟨rfl,hu⟩|⟨rfl,hu⟩
 ·unfold Qg3 at he;split at he<;>first|cases he|skip
  all_goals first|(rename_i h0;cases h0;done)|skip
  split at he
  ·rename_i e;subst e;cases he;cases ha;cases hb;exact run_equalIn_int w d t _ _ _ _ hu
  ·cases he
 ·unfold Qg3 at he;split at he<;>first|cases he|skip
  all_goals first|(rename_i h0;cases h0;done)|skip
  cases ha;cases hb;rw[run_equalIn_string w d t _ _ hu,Qmp ‹_› ‹_›]
 ·unfold Qg3 at he;split at he<;>first|cases he|skip
  all_goals first|(rename_i h0;cases h0;done)|skip
  cases ha;cases hb;exact run_equalIn_bool' w d t _ _ hu
theorem QfA{l m:List AV}{r:Bool}(h:Qbj 0 l m=some r):l=[]∧m=[]∧r=true:=by
 cases l with
 |nil=>cases m with
  |nil=>simp[Qbj]at h;exact⟨rfl,rfl,h⟩
  |cons=>simp[Qbj]at h
 |cons a l=>cases m with
  |nil=>simp[Qbj]at h
  |cons b m=>simp[Qbj,Qg3]at h
theorem QfB{k c:Nat}(hk:0<k)(hk4:k<4){l m:List AV}{r:Bool}(h:Qbj (k+4*c) l m=some r):∃a l' b m' x y,l=a::l'∧m=b::m'∧Qg3 k a b=some x∧Qbj c l' m'=some y∧r=(x&&y):=by
 cases l with
 |nil=>cases m with
  |nil=>simp only[Qbj]at h;split at h;omega;cases h
  |cons=>simp[Qbj]at h
 |cons a l=>cases m with
  |nil=>simp[Qbj]at h
  |cons b m =>
   simp only[Qbj]at h;have e1:(k+4*c)%4=k:=by omega
   have e2:(k+4*c) / 4=c:=by omega
   rw[e1,e2]at h;split at h
   ·rename_i x y hx hy;cases h;exact⟨a,l,b,m,x,y,rfl,rfl,hx,hy,rfl⟩
   ·cases h
theorem QhQ{t:TypeId}{k:Nat}(h:Qdg P t=some k):0<k∧k<4:=by
 rcases Qdf h with⟨rfl,_⟩|⟨rfl,_⟩|⟨rfl,_⟩<;>omega
def AtR(g:Gam)(i:Nat)(l:List AV)(xs:Array Value):Prop:=∀j (h:j<l.length),∃v,xs[i+j]? = some v∧VR g l[j] v
theorem AtR.head{i:Nat}{a:AV}{l:List AV}{xs:Array Value}(h:AtR g i (a::l) xs):∃v,xs[i]? = some v∧VR g a v:=by
 obtain⟨v,h1,h2⟩:=h 0 (by simp);exact⟨v,h1,h2⟩
theorem AtR.tail{i:Nat}{a:AV}{l:List AV}{xs:Array Value}(h:AtR g i (a::l) xs):AtR g (i+1) l xs:=fun j hj=>by
 obtain⟨v,h1,h2⟩:=h (j+1) (by simpa using hj);exact⟨v,by rw[show i+1+j=i+(j+1) by omega];exact h1,h2⟩
theorem Qfo(d:Nat){xs ys:Array Value}:∀(fs:List Field)(i:Nat)(ks:List Nat)(l m:List AV)(r:Bool),QdJ i fs=true→fs.mapM (fun f=>Qdg P f.type)=some ks→Qbj (codeOf ks) l m=some r →
  AtR g i l xs→AtR g i m ys→(Op.eqFields (d+1) xs ys fs).run P w=.ok r w
 | [],i,ks,l,m,r,_,hk,he,_,_=>by
  simp at hk;subst hk;obtain⟨rfl,rfl,rfl⟩:=QfA he;simp[Op.eqFields]
 |f::fs,i,ks,l,m,r,hf,hk,he,hx,hy=>by
  rw[List.mapM_cons]at hk;simp only[bind,Option.bind_eq_some_iff,pure,oI]at hk;obtain⟨k,hk1,ks',hk2,rfl⟩:=hk;simp only[QdJ,Bool.and_eq_true,beq_iff_eq,bne_iff_ne,ne_eq]at hf;obtain⟨⟨hf1,hf2⟩,hf3⟩:=hf;obtain⟨p1,p2⟩:=QhQ hk1;obtain⟨a,l',b,m',x,y,rfl,rfl,q1,q2,rfl⟩:=QfB p1 p2 he;obtain⟨v,hv,hva⟩:=hx.head;obtain⟨u,hu,hub⟩:=hy.head;have ih:=Qfo d fs (i+1) ks' l' m' y hf3 hk2 q2 hx.tail hy.tail;simp only[Op.eqFields,hf1,ne_eq,hf2,not_false_eq_true,if_true,Sem.run_bind,run_part_plain hk1 hv,run_part_plain hk1 hu,Qfn hk1 d q1 hva hub,Result.andThen_ok];cases x
  ·simp
  ·simpa using ih
theorem Qgb(d:Nat){e:TypeId}{k:Nat}(hk:Qdg P e=some k){xs ys:Array Value}:∀(n i:Nat)(l m:List AV)(r:Bool),Qbj (codeOf (List.replicate n k)) l m=some r →
  AtR g i l xs→AtR g i m ys→(Op.eqItems (d+1) e 1 xs ys (List.range' i n)).run P w=.ok r w
 |0,i,l,m,r,he,_,_=>by
  obtain⟨rfl,rfl,rfl⟩:=QfA he;simp[Op.eqItems]
 |n+1,i,l,m,r,he,hx,hy=>by
  obtain⟨p1,p2⟩:=QhQ hk;rw[List.replicate_succ]at he;obtain⟨a,l',b,m',x,y,rfl,rfl,q1,q2,rfl⟩:=QfB p1 p2 he;obtain⟨v,hv,hva⟩:=hx.head;obtain⟨u,hu,hub⟩:=hy.head;have ih:=Qgb d hk n (i+1) l' m' y q2 hx.tail hy.tail;rw[List.range'_succ];simp only[Op.eqItems,Nat.mul_one,Sem.run_bind,run_part_plain hk hv,run_part_plain hk hu,Qfn hk d q1 hva hub,Result.andThen_ok];cases x
  ·simp
  ·simpa using ih
theorem QfQ{l:List AV}{xs:Array Value}(hl:l.length=xs.size)(h:∀i (h1:i<l.length)(h2:i<xs.size),VR g l[i] xs[i]):AtR g 0 l xs:=fun j hj=>by
 have h2:j<xs.size:=by omega
 exact⟨xs[j],by simp[h2],h j hj h2⟩
theorem Ql3(H:HR CR B w0 g h w){t:TypeId}{x y:Operand}{q:Nat}(hq:Qg2 P t x y=some q){a b:AV}{u u':Value}{r:Bool}(he:eqOne h q a b=some r)(ha:VR g a u)(hb:VR g b u') :
  (eqGuard .eql t x y u u').run P w=.ok () w∧(eqGuard .neq t x y u u').run P w=.ok () w∧(binOp .eql t u u').run P w=.ok (.bool r) w∧(binOp .neq t u u').run P w=.ok (.bool !r) w:=by
 have hs:=Qli hq;unfold eqOne at he;split at he
 case h_28=>cases he
 case h_27 =>
  rename_i l m;split at he
  ·rename_i h10;obtain⟨hgd,hcase⟩:=QmU hq h10;cases ha with
   |agg _ xs hl hv =>
    cases hb with
    |agg _ ys hl' hv' =>
     have key:(Op.equalIn 10000 t (.agg xs) (.agg ys)).run P w=.ok r w:=by
      rcases hcase with⟨fs,ks,ht,hks,hst,hfs,rfl⟩|⟨n,e,k,ht,hk,hsz,rfl⟩
      ·have hfo:P.fieldsOf t=fs:=by simp[Program.fieldsOf,ht]
       rw[run_equalIn_struct w 9999 t xs ys (by rw[hfo];exact ht) hst,hfo];exact Qfo 9998 fs.toList 0 ks l m r hfs hks (by rw[Nat.add_sub_cancel_left]at he;exact he) (QfQ hl hv) (QfQ hl' hv')
      ·obtain⟨i,hi,hi1⟩:=QdD hsz;have hc1:P.cellsOf e=1:=by simp[Program.cellsOf,hi,hi1]
       rw[run_equalIn_array w 9999 xs ys ht hi,hc1,List.range_eq_range'];exact Qgb 9998 hk n 0 l m r (by rw[Nat.add_sub_cancel_left]at he;exact he) (QfQ hl hv) (QfQ hl' hv')
     exact⟨run_eqGuard_agg w .eql t x y xs ys hgd,run_eqGuard_agg w .neq t x y xs ys hgd,by rw[run_eql_struct,key];rfl,by rw[run_neq_struct,key];rfl⟩
  ·cases he
 case h_7 =>
  obtain⟨e,i,ht,hi,hi0⟩:∃e i,P.underlying t=some (.pointer e)∧P.info? e=some i∧i.size≠0:=by simpa using hs
  cases ha;cases hb;rename_i b o b' o' β base hr β' base' hr';refine⟨by rfl,by rfl,Qdt (fun d=>?_) (by simp) (by simp) (by simp) (by simp)⟩;by_cases hbb:b=b'
  ·subst hbb;rw[if_pos rfl]at he;cases he;rw[hr]at hr';cases hr';have hadd:(base+o=base+o')↔o=o':=by omega
   simp[Op.equalIn,run_underlying ht,sizeOf,typeInfo,hi,hi0,sameAddr,hadd];rw[Bool.eq_iff_iff,beq_iff_eq,beq_iff_eq,Addr.mk.injEq];simp[hadd]
  ·rw[if_neg hbb]at he;split at he
   ·rename_i l sp pre l' sp' pre' hg hg';cases he;have:=Qer (P:=P) (o:=base+o) (o':=base'+o') H hbb hr hr' hg hg';simp[Op.equalIn,run_underlying ht,sizeOf,typeInfo,hi,hi0,this]
   ·cases he
 case h_1 =>
  have ht:P.underlying t=some .bool:=by simpa using hs
  cases ha;cases hb;cases he;exact⟨by rfl,by rfl,Qdt (fun d=>by simp[Op.equalIn,run_underlying ht]) (by simp) (by simp) (by simp) (by simp)⟩
 case h_26 =>
  obtain⟨⟨m,ht⟩,hc⟩:(∃m,P.underlying t=some (.interface m))∧(isConstO x||isConstO y)=true:=by simpa using hs
  split at he
  ·rename_i hne;cases he;cases ha;cases hb;exact⟨by rfl,by rfl,Qdt (fun d=>by simp[Op.equalIn,run_underlying ht,hne]) (by simp) (by simp) (by simp) (by simp)⟩
  ·cases he
 case h_23 =>
  obtain⟨⟨m,ht⟩,hc⟩:(∃m,P.underlying t=some (.interface m))∧(isConstO x||isConstO y)=true:=by simpa using hs
  have hcc:=Qhy hc;cases he;cases ha;cases hb;refine⟨?_,?_,Qdt (fun d=>by simp[Op.equalIn,run_underlying ht]) (by simp) (by simp) (by simp) (by simp)⟩
  ·cases x<;>cases y<;>first|rfl|exact Bool.noConfusion hc
  ·cases x<;>cases y<;>first|rfl|exact Bool.noConfusion hc
 all_goals
  cases he;rcases hs with⟨e0,ht⟩|⟨e0,e,i,ht,hi,hi0⟩|⟨e0,e,ht⟩|⟨e0,k,e,ht⟩|⟨e0,a1,b1,c1,ht⟩|⟨e0,⟨m,ht⟩,hc⟩|e0
  all_goals first|exact absurd e0 (by decide)|skip
  all_goals
   cases ha<;>cases hb
   all_goals exact⟨by rfl,by rfl,Qdt (fun d=>by simp[Op.equalIn,run_underlying ht]) (by simp) (by simp) (by simp) (by simp)⟩
theorem Qlk(op:BinOp)(t:TypeId)(x y:Operand)(j k:IntKind)(a b:Int):(eqGuard op t x y (.int j a) (.int k b)).run P w=.ok () w:=by
 cases op<;>rfl
theorem Qlj(op:BinOp)(t:TypeId)(x y:Operand)(a b:ByteArray):(eqGuard op t x y (.string a) (.string b)).run P w=.ok () w:=by
 cases op<;>rfl
theorem Qk5{op:BinOp}{k:IntKind}{a b:Int}{r:AV}(hr:Qcp op k a b=some r)(t:TypeId):∃v,(binOp op t (.int k a) (.int k b)).run P w=.ok v w∧VR g r v:=by
 unfold Qcp at hr;cases op<;>simp only[reduceCtorEq,oI]at hr
 case quo =>
  split at hr
  ·cases hr
  ·rename_i hb;cases hr;exact⟨_,by simp[binOp,Op.intDiv,hb],.int _ _⟩
 case rem =>
  split at hr
  ·cases hr
  ·rename_i hb;cases hr;exact⟨_,by simp[binOp,Op.intDiv,hb],.int _ _⟩
 all_goals
  subst hr
  first
   |exact⟨_,by simp[binOp,Op.intArith],.int _ _⟩
   |exact⟨_,by simp[binOp,Op.intCmp],.bool _⟩
theorem Qe2:∀n a m b,lessN n a m b=Op.bytesLess (Qap n a) (Qap m b)
 |0,_,0,_=>rfl
 |_+1,_,0,_=>rfl
 |0,_,_+1,_=>rfl
 |n+1,a,m+1,b=>by
  have h1:decide (UInt8.ofNat a<UInt8.ofNat b)=Nat.blt (a%256) (b%256):=by
   rw[Bool.eq_iff_iff,decide_eq_true_iff,UInt8.lt_iff_toNat_lt,QaB,QaB];simp[Nat.blt_eq]
  have h2:(UInt8.ofNat a == UInt8.ofNat b)=Nat.beq (a%256) (b%256):=by
   rw[Bool.eq_iff_iff,beq_iff_eq,←UInt8.toNat_inj,QaB,QaB];simp[Nat.beq_eq]
  simp only[lessN,Qap,Op.bytesLess,Qe2 n,h1,h2]
theorem Qm3{n a m b:Nat}(ha:a<256^n)(hb:b<256^m):(Qap n a == Qap m b)=(n == m&&a == b):=by
 rw[Bool.eq_iff_iff];simp only[beq_iff_eq,Bool.and_eq_true];constructor
 ·intro h;have h1:=congrArg List.length h;rw[Qax,Qax]at h1;subst h1;exact⟨rfl,Qfd ha hb h⟩
 ·rintro⟨rfl,rfl⟩;rfl
theorem bytes_beq(a b:ByteArray):(a == b)=true↔a=b:=by
 obtain⟨a⟩:=a;obtain⟨b⟩:=b;show (a == b)=true↔_;rw[beq_iff_eq];simp
theorem bsOf_beq{n a m b:Nat}(ha:a<256^n)(hb:b<256^m):(bsOf n a == bsOf m b)=(n == m&&a == b):=by
 rw[Bool.eq_iff_iff,bytes_beq];simp only[beq_iff_eq,Bool.and_eq_true];constructor
 ·intro h;exact bsOf_inj ha hb h
 ·rintro⟨rfl,rfl⟩;rfl
theorem Qku{op:BinOp}{n a m b:Nat}(ha:a<256^n)(hb:b<256^m){r:AV}(hr:Qni op n a m b=some r)(t:TypeId) :
  ∃v,(binOp op t (.string (bsOf n a)) (.string (bsOf m b))).run P w=.ok v w∧VR g r v:=by
 unfold Qni at hr;cases op<;>simp only[reduceCtorEq,oI]at hr
 case add =>
  split at hr
  ·rename_i hlt;cases hr;have hmax:¬((((bsOf n a).size+(bsOf m b).size:Nat):Int)>IntKind.i64.max):=by
    have:IntKind.i64.max=9223372036854775807:=by decide
    rw[QaO,QaO];omega
   have:=VR.str (g:=g) (n+m) (appN n a b) (appN_lt ha hb);rw[←Qlt ha]at this;exact⟨_,by simp only[binOp,Op.stringOp];rw[if_neg hmax];rfl,this⟩
  ·cases hr
 all_goals
  subst hr;refine⟨_,rfl,?_⟩;simp only[Qek,←Qe2,Qm3 ha hb];exact .bool _
theorem Qoa (H:HR CR B w0 g h w) {op:BinOp} {t:TypeId} {x y:Operand} {q:Nat} (hq:Qg2 P t x y=some q) {a b r:AV} {u u':Value} (he:binA h op q a b=some r) (ha:VR g a u) (hb:VR g b u') :
    ∃v,(do eqGuard op t x y u u';binOp op t u u':Sem Value).run P w=.ok v w∧VR g r v:=by
  unfold binA at he;split at he
  · cases ha;cases hb;rename_i j a k b;simp only[Sem.run_bind,Qlk,Result.andThen];have hpure:∀{s:Sem Value},pureV s=some r→binOp op t (.int j a) (.int k b)=s→∃v,(binOp op t (.int j a) (.int k b)).run P w=.ok v w∧VR g r v:=by
      intro s hs hbin;obtain⟨v,rfl,hv⟩:=QhO (g:=g) hs;exact⟨v,by rw[hbin];rfl,hv⟩
    split at he
    · exact hpure he rfl
    · exact hpure he rfl
    all_goals try
      (split at he
       · rename_i hjk;subst hjk;exact hpure he (by simp[binOp])
       · cases he)
    split at he
    · rename_i hjk;subst hjk;exact Qk5 he t
    · cases he
  · cases ha with|str n a ha=>cases hb with|str m b hb =>
    simp only[Sem.run_bind,Qlj,Result.andThen];exact Qku ha hb he t
  · split at he
    · obtain⟨c,hc,rfl⟩:=oM he;obtain⟨h1,h2,h3,h4⟩:=Ql3 H hq hc ha hb;exact⟨_,by simp only[Sem.run_bind,h1,Result.andThen,h3],.bool _⟩
    · obtain⟨c,hc,rfl⟩:=oM he;obtain⟨h1,h2,h3,h4⟩:=Ql3 H hq hc ha hb;exact⟨_,by simp only[Sem.run_bind,h2,Result.andThen,h4],.bool _⟩
    · cases he
theorem gives_un{op:UnOp}{a r:AV}{u:Value}(he:unA op a=some r)(ha:VR g a u):∃v,(Op.unary op u).run P w=.ok v w∧VR g r v:=by
 unfold unA at he;split at he
 ·cases ha;cases op<;>simp only[reduceCtorEq,oI]at he;subst he;exact⟨_,rfl,.bool _⟩
 ·cases ha;cases op<;>simp only[reduceCtorEq,oI]at he
  ·subst he;exact⟨_,rfl,.int _ _⟩
  ·obtain⟨v,hv,hr⟩:=QhO (g:=g) he;exact⟨v,by simp only[Op.unary,hv];rfl,hr⟩
 ·cases he
theorem QaS{a:AV}{n:Nat}{u:Value}(h:asNat a=some n)(ha:VR g a u):∃k,u=.int k n:=by
 unfold asNat at h;split at h
 ·cases ha;split at h
  ·rename_i k n h0;cases h;exact⟨k,by rw[Int.toNat_of_nonneg h0]⟩
  ·cases h
 ·cases h
theorem Qa5{v:Value}{k:IntKind}{n y:Nat}{code:BoundsCode}(hv:v=.int k n)(hn:n≤y):(Instr.sliceBound v y code).run P w=.ok n w:=by
 subst hv;have:(0:Int)≤n∧(n:Int)≤y:=⟨by omega,by omega⟩
 simp[Instr.sliceBound,asIntOf,this]
theorem Qd6{isS:Bool}{len cap:Nat}{lo hi:Option AV}{lo' hi':Option Value}{l k:Nat}(hl:Qaz 0 lo=some l)(hk:Qaz len hi=some k)(hlo:OptR (VR g) lo lo')(hhi:OptR (VR g) hi hi')
  (hlk:l≤k)(hkc:k≤cap):(Instr.sliceBounds isS len cap lo' hi' none).run P w=.ok (l,k,cap) w:=by
 have h1:∀v,hi'=some v→∃kk,v=.int kk k:=by
  intro v e;subst e;cases hi with
  |none=>exact hhi.elim
  |some x=>exact QaS hk hhi
 have h2:∀v,lo'=some v→∃kk,v=.int kk l:=by
  intro v e;subst e;cases lo with
  |none=>exact hlo.elim
  |some x=>exact QaS hl hlo
 have hk0:hi'=none→k=len:=by
  intro e;subst e;cases hi with
  |none=>simp[Qaz]at hk;exact hk.symm
  |some x=>exact hhi.elim
 have hl0:lo'=none→l=0:=by
  intro e;subst e;cases lo with
  |none=>simp[Qaz]at hl;exact hl.symm
  |some x=>exact hlo.elim
 cases hh:hi' with
 |none =>
  have:=hk0 hh;subst this;cases hll:lo' with
  |none=>simp[Instr.sliceBounds,hl0 hll]
  |some v =>
   obtain⟨kk,hv⟩:=h2 v hll;have:=fun c=>Qa5 (P:=P) (w:=w) (code:=c) hv hlk
   simp[Instr.sliceBounds,this]
 |some v1 =>
  obtain⟨k1,hv1⟩:=h1 v1 hh;have b1:=fun c=>Qa5 (P:=P) (w:=w) (code:=c) hv1 hkc
  cases hll:lo' with
  |none=>simp[Instr.sliceBounds,hl0 hll,b1]
  |some v =>
   obtain⟨kk,hv⟩:=h2 v hll;have:=fun c=>Qa5 (P:=P) (w:=w) (code:=c) hv hlk
   simp[Instr.sliceBounds,this,b1]
theorem QkI{isS:Bool}{len cap:Nat}{lo:Option AV}{hi mx:AV}{lo':Option Value}{hi' mx':Value}{l k m:Nat}(hl:Qaz 0 lo=some l)(hk:asNat hi=some k)(hm:asNat mx=some m)
  (hlo:OptR (VR g) lo lo')(hhi:VR g hi hi')(hmx:VR g mx mx')
  (hlk:l≤k)(hkm:k≤m)(hmc:m≤cap):(Instr.sliceBounds isS len cap lo' (some hi') (some mx')).run P w=.ok (l,k,m) w:=by
 obtain⟨k1,h1⟩:=QaS hk hhi;obtain⟨k2,h2⟩:=QaS hm hmx;have b1:=fun c=>Qa5 (P:=P) (w:=w) (code:=c) h1 hkm
 have b2:=fun c=>Qa5 (P:=P) (w:=w) (code:=c) h2 hmc
 cases lo' with
 |none =>
  have:l=0:=by
   cases lo with
   |none=>simp[Qaz]at hl;exact hl.symm
   |some x=>exact hlo.elim
  simp[Instr.sliceBounds,this,b1,b2]
 |some v =>
  obtain⟨kk,hv⟩:∃kk,v=.int kk l:=by
   cases lo with
   |none=>exact hlo.elim
   |some x=>exact QaS hl hlo
  have:=fun c=>Qa5 (P:=P) (w:=w) (code:=c) hv hlk
  simp[Instr.sliceBounds,this,b1,b2]
end
end Go.Ab
