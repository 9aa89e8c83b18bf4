/-
  A part of a proof: WA WB WD22 WE22 WF22 WG22 WH22 WI22 WJ22 WK22 WL22 WM22 WN22 WO22.
-/
import Derived.Test.YteikbgknibikmaaGreatDoorAbSttoAbSv
set_option linter.all false
/-
 Rules for runs of the abstract machine that are not closed: a state comes to another one.
-/
namespace Go.Ab
open Go
section
variable (F : FuncId → Option AFun) (M : Memo)

def Reach (s : AS) (G : AS → Prop) : Prop:=∃ n s',QcC F M n s = some s' ∧ G s'

structure Ctx where
 fn : FuncId
 defers : List ADef
 kind : CallKind
 roundOf : Option Nat
 cs : List AF

def Ctx.fr (x : Ctx) (t : List AV) (k : List AItem) : AF:={ fn:=x.fn,tmps:=t,todo:=k,defers:=x.defers,mode:=.run,kind:=x.kind,roundOf:=x.roundOf }
def Ctx.at (x : Ctx) (t : List AV) (k : List AItem) (h : AH) : AS:=⟨x.fr t k,x.cs,h⟩

def Ctr (f : FuncId) (args : List AV) (h : AH) (R RP : AV → AH → Prop) : Prop :=
 ∀ (caller : AF) (cs : List AF) (G : AS → Prop),(∀ v h',R v h' → ∃ fr',caller.finish h' v = some fr' ∧ Reach F M ⟨fr',cs,h'⟩ G) →
  (∀ p h',RP p h' → Reach F M ⟨caller.raise [⟨p,false⟩],cs,h'⟩ G) → ∃ af,AF.enter F f args .normal = some af ∧ Reach F M ⟨af,caller :: cs,h⟩ G
end
section
variable {F : FuncId → Option AFun} {M : Memo} {G : AS → Prop} {x : Ctx} {t : List AV} {k : List AItem} {h : AH}
theorem QkB : ∀ (n m : Nat) (s s1 : AS),QcC F M n s = some s1 → QcC F M (n + m) s = QcC F M m s1
 | 0,m,s,s1,e=>by cases e; rw [Nat.zero_add]
 | n + 1,m,s,s1,e=>by
  rw [Nat.add_right_comm]
  have e' : (match astep F M s with | some s'=>QcC F M n s' | none=>none) = some s1:=e
  show (match astep F M s with | some s'=>QcC F M (n + m) s' | none=>none) = _
  cases hs : astep F M s with
  | none=>rw [hs] at e'; cases e'
  | some s2=>rw [hs] at e'; exact QkB n m s2 s1 e'
theorem Reach.done {s : AS} (hG : G s) : Reach F M s G:=⟨0,s,rfl,hG⟩
theorem Reach.step {s s1 : AS} (hs : astep F M s = some s1) (hr : Reach F M s1 G) : Reach F M s G:=by
 obtain ⟨n,s',h1,h2⟩:=hr
 exact ⟨n + 1,s',by unfold QcC; rw [hs]; exact h1,h2⟩
theorem Reach.trans {s : AS} {G1 : AS → Prop} (hr : Reach F M s G1) (hk : ∀ s1,G1 s1 → Reach F M s1 G) : Reach F M s G:=by
 obtain ⟨n,s1,h1,h2⟩:=hr
 obtain ⟨m,s2,h3,h4⟩:=hk s1 h2
 exact ⟨n + m,s2,by rw [QkB n m s s1 h1]; exact h3,h4⟩
theorem Reach.mono {s : AS} {G1 : AS → Prop} (hr : Reach F M s G1) (hk : ∀ s1,G1 s1 → G s1) : Reach F M s G:=hr.trans fun s1 h1=>.done (hk s1 h1)

theorem QaF (hr : Reach F M (x.at t k h) G) : Reach F M (x.at t (.code .skip :: k) h) G:=.step rfl hr
theorem R_label {l : Nat} (hr : Reach F M (x.at t k h) G) : Reach F M (x.at t (.code (.label l) :: k) h) G:=.step rfl hr
theorem QaQ {id : Nat} (hr : Reach F M (x.at t k h) G) : Reach F M (x.at t (.inBlock id :: k) h) G:=.step rfl hr
theorem R_inScope {b : AC} (hr : Reach F M (x.at t k h) G) : Reach F M (x.at t (.inScope b :: k) h) G:=.step rfl hr
theorem R_seq {a b : AC} (hr : Reach F M (x.at t (.code a :: .code b :: k) h) G) : Reach F M (x.at t (.code (.seq a b) :: k) h) G:=.step rfl hr
theorem QaS {id : Nat} {b : AC} (hr : Reach F M (x.at t (.code b :: .inBlock id :: k) h) G) : Reach F M (x.at t (.code (.block id b) :: k) h) G:=.step rfl hr
theorem QeH {b : AC} (hr : Reach F M (x.at t (.code b :: .inLoop b :: k) h) G) : Reach F M (x.at t (.code (.loop b) :: k) h) G:=.step rfl hr
theorem Qbo {b : AC} (hr : Reach F M (x.at t (.code b :: .inLoop b :: k) h) G) : Reach F M (x.at t (.inLoop b :: k) h) G:=.step rfl hr
theorem R_scope {b : AC} (hr : Reach F M (x.at t (.code b :: .inScope b :: k) h) G) : Reach F M (x.at t (.code (.scope b) :: k) h) G:=.step rfl hr
theorem R_cond {c : AOpd} {a b : AC} {z : Bool} (hc : aev t c = .bool z) (hr : Reach F M (x.at t (.code (if z then a else b) :: k) h) G) : Reach F M (x.at t (.code (.cond c a b) :: k) h) G:=by
 refine .step (s1:=x.at t (.code (if z then a else b) :: k) h) ?_ hr
 show (match aev t c with | .bool b'=>_ | _=>_) = _
 rw [hc]
 rfl
theorem QaM {c : AOpd} {a b : AC} (hc : aev t c = .bool true) (hr : Reach F M (x.at t (.code a :: k) h) G) : Reach F M (x.at t (.code (.cond c a b) :: k) h) G:=R_cond hc hr
theorem Qaw {c : AOpd} {a b : AC} (hc : aev t c = .bool false) (hr : Reach F M (x.at t (.code b :: k) h) G) : Reach F M (x.at t (.code (.cond c a b) :: k) h) G:=R_cond hc hr
theorem Qfj {id : Nat} {k' : List AItem} (he : QcK id k = some k') (hr : Reach F M (x.at t k' h) G) : Reach F M (x.at t (.code (.exit id) :: k) h) G:=by
 refine .step (s1:=x.at t k' h) ?_ hr
 show (match QcK id k with | some k'=>_ | none=>_) = _
 rw [he]
 rfl
theorem R_goto {l : Nat} {k' : List AItem} (he : QcJ l k = some k') (hr : Reach F M (x.at t k' h) G) : Reach F M (x.at t (.code (.goto l) :: k) h) G:=by
 refine .step (s1:=x.at t k' h) ?_ hr
 show (match QcJ l k with | some k'=>_ | none=>_) = _
 rw [he]
 rfl

theorem Qaa {ops : List AOper} (hr : Reach F M (x.at t (.inRegion ops :: k) h) G) : Reach F M (x.at t (.code (.region ops) :: k) h) G:=.step rfl hr
theorem R_nil (hr : Reach F M (x.at t k h) G) : Reach F M (x.at t (.inRegion [] :: k) h) G:=.step rfl hr
theorem QaY {plan : List Stage} {tl : List AOper} (hr : Reach F M (x.at t (.drawRest plan :: .ends tl :: k) h) G) : Reach F M (x.at t (.code (.draw plan tl) :: k) h) G:=.step rfl hr
theorem Qat (hr : Reach F M (x.at t k h) G) : Reach F M (x.at t (.drawRest [] :: k) h) G:=.step rfl hr
theorem QaX (hr : Reach F M (x.at t k h) G) : Reach F M (x.at t (.ends [] :: k) h) G:=.step rfl hr
theorem Qaf {st : Stage} {plan : List Stage} (hr : Reach F M (x.at t (.inDraw st.ops st.main st.again st.mask plan :: k) h) G) : Reach F M (x.at t (.drawRest (st :: plan) :: k) h) G:=.step rfl hr
theorem Qap {ag : List AOper} {mask : List Nat} {plan : List Stage} (hr : Reach F M (x.at t (.drawRest plan :: k) h) G) : Reach F M (x.at t (.inDraw [] none ag mask plan :: k) h) G:=.step rfl hr
theorem Qac {o : AOper} {ag : List AOper} {mask : List Nat} {plan : List Stage} (hr : Reach F M (x.at t (.inMain o ag mask plan :: k) h) G) : Reach F M (x.at t (.inDraw [] (some o) ag mask plan :: k) h) G:=.step rfl hr

theorem R_op {o : AOper} {rest : List AOper} {a : AOp} {v : AV} {h1 : AH} (hw : Qav t o = some true) (ha : o.act = .op a) (he : exec h (aev t) a = some (v,h1)) (hr : Reach F M (x.at (setDst t o.dst v) (.inRegion rest :: k) h1) G) :
  Reach F M (x.at t (.inRegion (o :: rest) :: k) h) G:=by
 refine .step (s1:=x.at (setDst t o.dst v) (.inRegion rest :: k) h1) ?_ hr
 show aone F M (x.at t (.inRegion (o :: rest) :: k) h) o = _
 unfold aone
 rw [show Qav (x.at t (.inRegion (o :: rest) :: k) h).fr.tmps o = some true from hw]
 show aoper F M _ o = _
 unfold aoper
 rw [ha]
 show (match exec h (aev t) a with | some (v,h)=>_ | none=>_) = _
 rw [he]
 rfl
theorem R_not {o : AOper} {rest : List AOper} (hw : Qav t o = some false) (hr : Reach F M (x.at (setDst t o.dst (.tuple [])) (.inRegion rest :: k) h) G) : Reach F M (x.at t (.inRegion (o :: rest) :: k) h) G:=by
 refine .step (s1:=x.at (setDst t o.dst (.tuple [])) (.inRegion rest :: k) h) ?_ hr
 show aone F M (x.at t (.inRegion (o :: rest) :: k) h) o = _
 unfold aone
 rw [show Qav (x.at t (.inRegion (o :: rest) :: k) h).fr.tmps o = some false from hw]
 rfl

theorem Qab {o : AOper} {rest : List AOper} {main : Option AOper} {ag : List AOper} {mask : List Nat} {plan : List Stage} {a : AOp} {v : AV} {h1 : AH} (hw : Qav t o = some true) (ha : o.act = .op a) (he : exec h (aev t) a = some (v,h1)) (hm : (a.makes && !Qj4 t o.dst) = false)
  (hr : Reach F M (x.at (setDst t o.dst v) (.inDraw rest main ag mask plan :: k) h1) G) : Reach F M (x.at t (.inDraw (o :: rest) main ag mask plan :: k) h) G:=by
 refine .step (s1:=x.at (setDst t o.dst v) (.inDraw rest main ag mask plan :: k) h1) ?_ hr
 show Qgp (x.at t (.inDraw (o :: rest) main ag mask plan :: k) h) o (.inDraw rest main ag mask plan :: k) = _
 unfold Qgp
 rw [show Qav (x.at t (.inDraw (o :: rest) main ag mask plan :: k) h).fr.tmps o = some true from hw]
 show (match o.act with | .op a=>_ | _=>_) = _
 rw [ha]
 show (match exec h (aev t) a with | some (v,h)=>_ | none=>_) = _
 rw [he]
 show (if (a.makes && !Qj4 t o.dst) = true then none else _) = _
 rw [hm]
 rfl
theorem QaZ {o : AOper} {rest : List AOper} {main : Option AOper} {ag : List AOper} {mask : List Nat} {plan : List Stage} (hw : Qav t o = some false)
  (hr : Reach F M (x.at (setDst t o.dst (.tuple [])) (.inDraw rest main ag mask plan :: k) h) G) : Reach F M (x.at t (.inDraw (o :: rest) main ag mask plan :: k) h) G:=by
 refine .step (s1:=x.at (setDst t o.dst (.tuple [])) (.inDraw rest main ag mask plan :: k) h) ?_ hr
 show Qgp (x.at t (.inDraw (o :: rest) main ag mask plan :: k) h) o (.inDraw rest main ag mask plan :: k) = _
 unfold Qgp
 rw [show Qav (x.at t (.inDraw (o :: rest) main ag mask plan :: k) h).fr.tmps o = some false from hw]
 rfl

theorem QaD {o : AOper} {ag : List AOper} {mask : List Nat} {plan : List Stage} {a : AOp} {v : AV} {h1 : AH} (hw : Qav t o = some true) (ha : o.act = .op a) (he : exec h (aev t) a = some (v,h1)) (hg : ag.all (again (setDst t o.dst v) h1) = true)
  (hr : Reach F M (x.at (setDst t o.dst v) (.drawRest plan :: k) h1) G) : Reach F M (x.at t (.inMain o ag mask plan :: k) h) G:=by
 refine .step (s1:=x.at (setDst t o.dst v) (.drawRest plan :: k) h1) ?_ hr
 show aone F M (x.at t (.inMain o ag mask plan :: k) h) o = _
 unfold aone
 rw [show Qav (x.at t (.inMain o ag mask plan :: k) h).fr.tmps o = some true from hw]
 show aoper F M _ o = _
 unfold aoper
 rw [ha]
 show (match exec h (aev t) a with | some (v,h)=>_ | none=>_) = _
 rw [he]
 show Option.map _ (if ag.all (again (setDst t o.dst v) h1) then _ else none) = _
 rw [hg]
 rfl
theorem Qgq {o : AOper} {ag : List AOper} {mask : List Nat} {plan : List Stage} (hw : Qav t o = some false) (hg : ag.all (again (setDst t o.dst (.tuple [])) h) = true)
  (hr : Reach F M (x.at (setDst t o.dst (.tuple [])) (.drawRest plan :: k) h) G) : Reach F M (x.at t (.inMain o ag mask plan :: k) h) G:=by
 refine .step (s1:=x.at (setDst t o.dst (.tuple [])) (.drawRest plan :: k) h) ?_ hr
 show aone F M (x.at t (.inMain o ag mask plan :: k) h) o = _
 unfold aone
 rw [show Qav (x.at t (.inMain o ag mask plan :: k) h).fr.tmps o = some false from hw]
 show Option.map _ (if ag.all (again (setDst t o.dst (.tuple [])) h) then _ else none) = _
 rw [hg]
 rfl

theorem Qau {o : AOper} {rest : List AOper} {f : AOpd} {args : List AOpd} {fid : FuncId} {as : List AV} {R RP : AV → AH → Prop} (hw : Qav t o = some true) (ha : o.act = .call f args) (ht : QbT (aev t f) (args.map (aev t)) = some (.enter fid as)) (hm : M fid as = none)
  (hc : Ctr F M fid as h R RP) (hr : ∀ v h',R v h' → Reach F M (x.at (setDst t o.dst v) (.inRegion rest :: k) h') G) (hp : ∀ p h',RP p h' → Reach F M ⟨(x.fr t (.inRegion (o :: rest) :: k)).raise [⟨p,false⟩],x.cs,h'⟩ G) :
  Reach F M (x.at t (.inRegion (o :: rest) :: k) h) G:=by
 obtain ⟨af,he,hr'⟩:=hc (x.fr t (.inRegion (o :: rest) :: k)) x.cs G (fun v h' hv=>⟨_,rfl,hr v h' hv⟩) hp
 refine .step (s1:=⟨af,x.fr t (.inRegion (o :: rest) :: k) :: x.cs,h⟩) ?_ hr'
 show aone F M (x.at t (.inRegion (o :: rest) :: k) h) o = _
 unfold aone
 rw [show Qav (x.at t (.inRegion (o :: rest) :: k) h).fr.tmps o = some true from hw]
 show aoper F M _ o = _
 unfold aoper
 rw [ha]
 show (match QbT (aev t f) (args.map (aev t)) with | some t=>_ | none=>_) = _
 rw [ht]
 show (match M fid as with | some c=>_ | none=>_) = _
 rw [hm]
 show Option.map _ (AF.enter F fid as .normal) = _
 rw [he]
 rfl
theorem Qae {o : AOper} {ag : List AOper} {mask : List Nat} {plan : List Stage} {f : AOpd} {args : List AOpd} {fid : FuncId} {as : List AV} {R RP : AV → AH → Prop} (hw : Qav t o = some true) (ha : o.act = .call f args) (ht : QbT (aev t f) (args.map (aev t)) = some (.enter fid as))
  (hm : M fid as = none) (hc : Ctr F M fid as h R RP) (hr : ∀ v h',R v h' → ag.all (again (setDst t o.dst v) h') = true ∧ Reach F M (x.at (setDst t o.dst v) (.drawRest plan :: k) h') G)
  (hp : ∀ p h',RP p h' → Reach F M ⟨(x.fr t (.inMain o ag mask plan :: k)).raise [⟨p,false⟩],x.cs,h'⟩ G) : Reach F M (x.at t (.inMain o ag mask plan :: k) h) G:=by
 obtain ⟨af,he,hr'⟩:=hc (x.fr t (.inMain o ag mask plan :: k)) x.cs G (fun v h' hv=>by
  obtain ⟨h1,h2⟩:=hr v h' hv
  refine ⟨_,?_,h2⟩
  show (if ag.all (again (setDst t o.dst v) h') then _ else none) = _
  rw [h1]
  rfl) hp
 refine .step (s1:=⟨af,x.fr t (.inMain o ag mask plan :: k) :: x.cs,h⟩) ?_ hr'
 show aone F M (x.at t (.inMain o ag mask plan :: k) h) o = _
 unfold aone
 rw [show Qav (x.at t (.inMain o ag mask plan :: k) h).fr.tmps o = some true from hw]
 show aoper F M _ o = _
 unfold aoper
 rw [ha]
 show (match QbT (aev t f) (args.map (aev t)) with | some t=>_ | none=>_) = _
 rw [ht]
 show (match M fid as with | some c=>_ | none=>_) = _
 rw [hm]
 show Option.map _ (AF.enter F fid as .normal) = _
 rw [he]
 rfl

theorem R_ret {caller : AF} {cs : List AF} {fn : AFun} {v : AV} {fr' : AF} (hx : x.defers = [] ∧ x.kind = .normal ∧ x.roundOf = none ∧ x.cs = caller :: cs) (hf : F x.fn = some fn) (hv : QaE h t fn.results = some v) (hfin : caller.finish h v = some fr') (hr : Reach F M ⟨fr',cs,h⟩ G) :
  Reach F M (x.at t (.code .ret :: k) h) G:=by
 obtain ⟨fn',d,kd,ro,c⟩:=x
 obtain ⟨rfl,rfl,rfl,rfl⟩:=hx
 refine .step (s1:=⟨{ fn:=fn',tmps:=t,todo:=.code .ret :: k,defers:=[],mode:=.returning,kind:=.normal,roundOf:=none },caller :: cs,h⟩) rfl (.step (s1:=⟨fr',cs,h⟩) ?_ hr)
 show (match F fn' with | some fn=>_ | none=>_) = _
 rw [show F fn' = some fn from hf]
 show (match QaE h t fn.results with | some v=>_ | none=>_) = _
 rw [hv]
 show Option.map _ (caller.finish h v) = _
 rw [hfin]
 rfl
theorem R_end {caller : AF} {cs : List AF} {fn : AFun} {v : AV} {fr' : AF} (hx : x.defers = [] ∧ x.kind = .normal ∧ x.roundOf = none ∧ x.cs = caller :: cs) (hf : F x.fn = some fn) (hv : QaE h t fn.results = some v) (hfin : caller.finish h v = some fr') (hr : Reach F M ⟨fr',cs,h⟩ G) :
  Reach F M (x.at t [] h) G:=by
 obtain ⟨fn',d,kd,ro,c⟩:=x
 obtain ⟨rfl,rfl,rfl,rfl⟩:=hx
 refine .step (s1:=⟨{ fn:=fn',tmps:=t,todo:=[],defers:=[],mode:=.returning,kind:=.normal,roundOf:=none },caller :: cs,h⟩) rfl (.step (s1:=⟨fr',cs,h⟩) ?_ hr)
 show (match F fn' with | some fn=>_ | none=>_) = _
 rw [show F fn' = some fn from hf]
 show (match QaE h t fn.results with | some v=>_ | none=>_) = _
 rw [hv]
 show Option.map _ (caller.finish h v) = _
 rw [hfin]
 rfl

theorem Ctr.intro {f : FuncId} {args : List AV} {fn : AFun} {R RP : AV → AH → Prop} (hf : F f = some fn)
  (hr : ∀ (caller : AF) (cs : List AF) (G : AS → Prop),(∀ v h',R v h' → ∃ fr',caller.finish h' v = some fr' ∧ Reach F M ⟨fr',cs,h'⟩ G) → (∀ p h',RP p h' → Reach F M ⟨caller.raise [⟨p,false⟩],cs,h'⟩ G) →
   Reach F M ((⟨f,[],.normal,none,caller :: cs⟩ : Ctx).at (args ++ List.replicate (fn.ntmps - args.length) .undef) [.code fn.body] h) G) : Ctr F M f args h R RP:=by
 intro caller cs G h1 h2
 refine ⟨_,?_,hr caller cs G h1 h2⟩
 unfold AF.enter
 rw [hf]
 rfl
theorem Ctr.mono {f : FuncId} {args : List AV} {R R' RP RP' : AV → AH → Prop} (hc : Ctr F M f args h R RP) (h1 : ∀ v h',R v h' → R' v h') (h2 : ∀ v h',RP v h' → RP' v h') : Ctr F M f args h R' RP' :=
 fun caller cs G k1 k2=>hc caller cs G (fun v h' hv=>k1 v h' (h1 v h' hv)) fun p h' hp=>k2 p h' (h2 p h' hp)
end
end Go.Ab
/-
 Rules: deferred calls, panics, recover, loops over functions.
-/
namespace Go.Ab
open Go

def Ctx.out (x : Ctx) (t : List AV) (k : List AItem) (m : AMode) : AF:={ fn:=x.fn,tmps:=t,todo:=k,defers:=x.defers,mode:=m,kind:=x.kind,roundOf:=x.roundOf }
section
variable {F : FuncId → Option AFun} {M : Memo} {G : AS → Prop} {x : Ctx} {t : List AV} {k : List AItem} {h : AH}
theorem QrQ {o : AOper} {rest : List AOper} {f : AOpd} {args : List AOpd} {fn : FuncId} {first cap : List AV} (hro : x.roundOf = none) (hw : Qav t o = some true) (ha : o.act = .defer f args) (hf : aev t f = .func fn first cap)
  (hr : Reach F M (({ x with defers:=.call fn (first ++ args.map (aev t) ++ cap) :: x.defers } : Ctx).at (setDst t o.dst .undef) (.inRegion rest :: k) h) G) : Reach F M (x.at t (.inRegion (o :: rest) :: k) h) G:=by
 obtain ⟨fn',d,kd,ro,c'⟩:=x
 obtain rfl:=hro
 refine .step ?_ hr
 show aone F M ((⟨fn',d,kd,none,c'⟩ : Ctx).at t (.inRegion (o :: rest) :: k) h) o = _
 unfold aone
 rw [show Qav ((⟨fn',d,kd,none,c'⟩ : Ctx).at t (.inRegion (o :: rest) :: k) h).fr.tmps o = some true from hw]
 show aoper F M _ o = _
 unfold aoper
 rw [ha]
 show (match aev t f with | .func fn first captured=>_ | _=>_) = _
 rw [hf]
 rfl
theorem R_panic {o : AOper} {rest : List AOper} {a : AOpd} {ty : TypeId} {v : AV} (hw : Qav t o = some true) (ha : o.act = .panic a) (hv : aev t a = .iface ty v)
  (hr : Reach F M ⟨x.out t (.inRegion (o :: rest) :: k) (.panicking [⟨.iface ty v,false⟩]),x.cs,h⟩ G) : Reach F M (x.at t (.inRegion (o :: rest) :: k) h) G:=by
 refine .step ?_ hr
 show aone F M (x.at t (.inRegion (o :: rest) :: k) h) o = _
 unfold aone
 rw [show Qav (x.at t (.inRegion (o :: rest) :: k) h).fr.tmps o = some true from hw]
 show aoper F M _ o = _
 unfold aoper
 rw [ha]
 show (match aev t a with | .iface t v=>_ | _=>none) = _
 rw [hv]
 rfl

theorem raise_region {ops : List AOper} {c : List APanic} : (x.fr t (.inRegion ops :: k)).raise c = x.out t (.inRegion ops :: k) (.panicking c):=rfl
theorem raise_main {o : AOper} {ag : List AOper} {mask : List Nat} {plan : List Stage} {c : List APanic} : (x.fr t (.inMain o ag mask plan :: k)).raise c = x.out (Qej t mask) (.inMain o ag mask plan :: k) (.panicking c):=rfl

theorem Qa3 {caller : AF} {cs : List AF} {c : List APanic} (hd : x.defers = []) (hc : x.cs = caller :: cs) (hr : Reach F M ⟨caller.raise c,cs,h⟩ G) : Reach F M ⟨x.out t k (.panicking c),x.cs,h⟩ G:=by
 obtain ⟨fn,d,kd,ro,c'⟩:=x
 obtain rfl:=hd
 obtain rfl:=hc
 exact .step rfl hr

theorem QgT {m : AMode} (hm : m ≠ .run) {f : FuncId} {args : List AV} {ds : List ADef} {fn : AFun} (hd : x.defers = .call f args :: ds) (hf : F f = some fn)
  (hr : Reach F M ((⟨f,[],.deferred,none,({ x with defers:=ds } : Ctx).out t k m :: x.cs⟩ : Ctx).at (args ++ List.replicate (fn.ntmps - args.length) .undef) [.code fn.body] h) G) : Reach F M ⟨x.out t k m,x.cs,h⟩ G:=by
 obtain ⟨fn',d,kd,ro,c'⟩:=x
 obtain rfl:=hd
 refine .step ?_ hr
 cases m with
 | run=>exact absurd rfl hm
 | returning =>
  show Option.map _ (AF.enter F f args .deferred) = _
  unfold AF.enter
  rw [hf]
  rfl
 | panicking c =>
  show Option.map _ (AF.enter F f args .deferred) = _
  unfold AF.enter
  rw [hf]
  rfl

theorem QrN (hro : x.roundOf = none) (hr : Reach F M ⟨x.out t (.code .ret :: k) .returning,x.cs,h⟩ G) : Reach F M (x.at t (.code .ret :: k) h) G:=by
 obtain ⟨fn',d,kd,ro,c'⟩:=x
 obtain rfl:=hro
 exact .step rfl hr
theorem QrP (hro : x.roundOf = none) (hr : Reach F M ⟨x.out t [] .returning,x.cs,h⟩ G) : Reach F M (x.at t [] h) G:=by
 obtain ⟨fn',d,kd,ro,c'⟩:=x
 obtain rfl:=hro
 exact .step rfl hr

theorem QlJ {caller : AF} {cs : List AF} {fn : AFun} {v : AV} {fr' : AF} (hx : x.defers = [] ∧ x.kind = .normal ∧ x.cs = caller :: cs) (hf : F x.fn = some fn) (hv : QaE h t fn.results = some v) (hfin : caller.finish h v = some fr') (hr : Reach F M ⟨fr',cs,h⟩ G) :
  Reach F M ⟨x.out t k .returning,x.cs,h⟩ G:=by
 obtain ⟨fn',d,kd,ro,c⟩:=x
 obtain ⟨rfl,rfl,rfl⟩:=hx
 refine .step (s1:=⟨fr',cs,h⟩) ?_ hr
 show (match F fn' with | some fn=>_ | none=>_) = _
 rw [show F fn' = some fn from hf]
 show (match QaE h t fn.results with | some v=>_ | none=>_) = _
 rw [hv]
 show Option.map _ (caller.finish h v) = _
 rw [hfin]
 rfl

theorem Qpd {caller : AF} {cs : List AF} {fn : AFun} {v : AV} (hx : x.defers = [] ∧ x.kind = .deferred ∧ x.cs = caller :: cs) (hf : F x.fn = some fn) (hv : QaE h t fn.results = some v)
  (hm : caller.mode = .returning ∨ ∃ p c,caller.mode = .panicking (⟨p,false⟩ :: c)) (hr : Reach F M ⟨caller,cs,h⟩ G) : Reach F M ⟨x.out t k .returning,x.cs,h⟩ G:=by
 obtain ⟨fn',d,kd,ro,c⟩:=x
 obtain ⟨rfl,rfl,rfl⟩:=hx
 refine .step (s1:=⟨caller,cs,h⟩) ?_ hr
 show (match F fn' with | some fn=>_ | none=>_) = _
 rw [show F fn' = some fn from hf]
 show (match QaE h t fn.results with | some v=>_ | none=>_) = _
 rw [hv]
 show (match caller.mode with | .run=>none | .panicking (⟨_,true⟩ :: _)=>_ | _=>_) = _
 rcases hm with hm | ⟨p,c,hm⟩ <;> rw [hm]
theorem R_leaveR {caller : AF} {cs : List AF} {fn : AFun} {v p : AV} {c : List APanic} (hx : x.defers = [] ∧ x.kind = .deferred ∧ x.cs = caller :: cs) (hf : F x.fn = some fn) (hv : QaE h t fn.results = some v)
  (hm : caller.mode = .panicking (⟨p,true⟩ :: c)) (hr : Reach F M ⟨{ caller with mode:=.returning },cs,h⟩ G) : Reach F M ⟨x.out t k .returning,x.cs,h⟩ G:=by
 obtain ⟨fn',d,kd,ro,c'⟩:=x
 obtain ⟨rfl,rfl,rfl⟩:=hx
 refine .step (s1:=⟨{ caller with mode:=.returning },cs,h⟩) ?_ hr
 show (match F fn' with | some fn=>_ | none=>_) = _
 rw [show F fn' = some fn from hf]
 show (match QaE h t fn.results with | some v=>_ | none=>_) = _
 rw [hv]
 show (match caller.mode with | .run=>none | .panicking (⟨_,true⟩ :: _)=>_ | _=>_) = _
 rw [hm]

theorem QrO {o : AOper} {rest : List AOper} {caller : AF} {cs : List AF} {p : AV} {c : List APanic} (hro : x.roundOf = none) (hk : x.kind = .deferred) (hcs : x.cs = caller :: cs) (hw : Qav t o = some true) (ha : o.act = .recover) (hm : caller.mode = .panicking (⟨p,false⟩ :: c))
  (hr : Reach F M (({ x with cs:={ caller with mode:=.panicking (⟨p,true⟩ :: c) } :: cs } : Ctx).at (setDst t o.dst p) (.inRegion rest :: k) h) G) : Reach F M (x.at t (.inRegion (o :: rest) :: k) h) G:=by
 obtain ⟨fn',d,kd,ro,c'⟩:=x
 obtain rfl:=hro
 obtain rfl:=hk
 obtain rfl:=hcs
 refine .step ?_ hr
 show aone F M _ o = _
 unfold aone
 rw [show Qav ((⟨fn',d,.deferred,none,caller :: cs⟩ : Ctx).at t (.inRegion (o :: rest) :: k) h).fr.tmps o = some true from hw]
 show aoper F M _ o = _
 unfold aoper
 rw [ha]
 show (if CallKind.deferred = .normal ∨ (CallKind.deferred = .deferred ∧ (caller :: cs).isEmpty = false) then (match Qcf .deferred (caller :: cs) with | some (v,cs)=>_ | none=>_) else none) = _
 rw [if_pos (.inr ⟨rfl,rfl⟩)]
 have e : Qcf .deferred (caller :: cs) = some (p,{ caller with mode:=.panicking (⟨p,true⟩ :: c) } :: cs):=by simp only [Qcf,hm]
 rw [e]
 rfl
theorem QmU {o : AOper} {rest : List AOper} {caller : AF} {cs : List AF} (hro : x.roundOf = none) (hk : x.kind = .deferred) (hcs : x.cs = caller :: cs) (hw : Qav t o = some true) (ha : o.act = .recover) (hm : caller.mode = .returning)
  (hr : Reach F M (x.at (setDst t o.dst .nilIface) (.inRegion rest :: k) h) G) : Reach F M (x.at t (.inRegion (o :: rest) :: k) h) G:=by
 obtain ⟨fn',d,kd,ro,c'⟩:=x
 obtain rfl:=hro
 obtain rfl:=hk
 obtain rfl:=hcs
 refine .step ?_ hr
 show aone F M _ o = _
 unfold aone
 rw [show Qav ((⟨fn',d,.deferred,none,caller :: cs⟩ : Ctx).at t (.inRegion (o :: rest) :: k) h).fr.tmps o = some true from hw]
 show aoper F M _ o = _
 unfold aoper
 rw [ha]
 show (if CallKind.deferred = .normal ∨ (CallKind.deferred = .deferred ∧ (caller :: cs).isEmpty = false) then (match Qcf .deferred (caller :: cs) with | some (v,cs)=>_ | none=>_) else none) = _
 rw [if_pos (.inr ⟨rfl,rfl⟩)]
 have e : Qcf .deferred (caller :: cs) = none:=by simp only [Qcf,hm]
 rw [e]
 rfl

theorem QdL {o : AOper} {rest : List AOper} {f : AOpd} {args : List AOpd} {fid : FuncId} {as : List AV} {c : AH → Option (AV × AH)} {v : AV} {h' : AH} (hw : Qav t o = some true) (ha : o.act = .call f args) (ht : QbT (aev t f) (args.map (aev t)) = some (.enter fid as))
  (hm : M fid as = some c) (hc : c h = some (v,h')) (hr : Reach F M (x.at (setDst t o.dst v) (.inRegion rest :: k) h') G) : Reach F M (x.at t (.inRegion (o :: rest) :: k) h) G:=by
 refine .step ?_ hr
 show aone F M (x.at t (.inRegion (o :: rest) :: k) h) o = _
 unfold aone
 rw [show Qav (x.at t (.inRegion (o :: rest) :: k) h).fr.tmps o = some true from hw]
 show aoper F M _ o = _
 unfold aoper
 rw [ha]
 show (match QbT (aev t f) (args.map (aev t)) with | some t=>_ | none=>_) = _
 rw [ht]
 show (match M fid as with | some c=>_ | none=>_) = _
 rw [hm]
 show (match c h with | some (v,h)=>_ | none=>_) = _
 rw [hc]
 rfl
end

theorem sN (t : List AV) (v : AV) : setDst t none v = t:=rfl
theorem s0 (a : AV) (l : List AV) (v : AV) : setDst (a :: l) (some 0) v = v :: l:=rfl
theorem sS (a : AV) (l : List AV) (n : Nat) (v : AV) : setDst (a :: l) (some (n + 1)) v = a :: setDst l (some n) v:=rfl
theorem a0 (a : AV) (l : List AV) : aev (a :: l) (.tmp 0) = a:=rfl
theorem aS (a : AV) (l : List AV) (n : Nat) : aev (a :: l) (.tmp (n + 1)) = aev l (.tmp n):=rfl
theorem aC (l : List AV) (v : AV) : aev l (.const v) = v:=rfl
theorem rZ (v : AV) : List.replicate 0 v = []:=rfl
theorem rS (n : Nat) (v : AV) : List.replicate (n + 1) v = v :: List.replicate n v:=rfl
theorem pN (l : List AV) : [] ++ l = l:=rfl
theorem pC (a : AV) (l m : List AV) : (a :: l) ++ m = a :: (l ++ m):=rfl
end Go.Ab
namespace Go.Ab.L22
open Go Go.Ab AV AO AC AOp AOpd AAct
/-- reprise/repriselaw22.num -/
def b7 : AC :=
 .seq (.region [⟨some 2,.op (.alloc 51 [.int .i64 0,.int .i64 0,.nilslice]),none⟩])
 (.seq (.region [⟨some 3,.op (.mov (.tmp 0)),none⟩,⟨some 4,.op (.build [.int .i64 0,.int .i64 0,.nilslice] [(0,1,(.const (.int .i64 0))),(1,1,(.tmp 3))]),none⟩,⟨none,.op (.store 3 (.tmp 2) (.tmp 4)),none⟩])
 (.ret))
def fn7 : AFun:=⟨5,[.cell 2 true 3],b7⟩

def b8 : AC :=
 .seq (.region [⟨some 3,.op (.box 51 (.tmp 0)),none⟩,⟨some 4,.op (.box 51 (.tmp 1)),none⟩,⟨some 5,.op (.box 51 (.tmp 2)),none⟩,⟨some 6,.op (.alloc 51 [.int .i64 0,.int .i64 0,.nilslice]),none⟩])
 (.seq (.draw [⟨[⟨some 7,.op (.loadN 3 (.tmp 3)),none⟩,⟨some 8,.op (.loadN 3 (.tmp 4)),none⟩,⟨some 9,.op (.loadN 3 (.tmp 5)),none⟩,⟨some 10,.op (.buildSlice 2 [.int .i64 0,.int .i64 0,.nilslice,.int .i64 0,.int .i64 0,.nilslice] [(0,3,(.tmp 8)),(3,3,(.tmp 9))]),none⟩],some ⟨some 11,.call (.const (.func 9 [] [])) [(.const (.int .i64 10)),(.tmp 10)],none⟩,[⟨some 7,.op (.loadN 3 (.tmp 3)),none⟩],[7]⟩,⟨[⟨some 12,.op (.buildSlice 2 [.int .i64 0,.int .i64 0,.nilslice,.int .i64 0,.int .i64 0,.nilslice] [(0,3,(.tmp 7)),(3,3,(.tmp 11))]),none⟩],some ⟨some 13,.call (.const (.func 9 [] [])) [(.const (.int .i64 10)),(.tmp 12)],none⟩,[],[]⟩,⟨[],some ⟨none,.op (.store 3 (.tmp 6) (.tmp 13)),none⟩,[],[]⟩,⟨[],none,[],[]⟩] [])
 (.ret))
def fn8 : AFun:=⟨14,[.cell 6 true 3],b8⟩

def b9 : AC :=
 .seq (.region [⟨some 4,.op (.alloc 51 [.int .i64 0,.int .i64 0,.nilslice]),none⟩])
 (.seq (.region [⟨some 5,.op (.mov (.tmp 0)),none⟩,⟨some 6,.op (.mov (.tmp 1)),none⟩,⟨some 7,.op (.build [.int .i64 0,.int .i64 0,.nilslice] [(0,1,(.tmp 5)),(2,1,(.tmp 6))]),none⟩,⟨none,.op (.store 3 (.tmp 4) (.tmp 7)),none⟩])
 (.ret))
def fn9 : AFun:=⟨8,[.cell 4 true 3],b9⟩

def b10 : AC :=
 .seq (.region [⟨some 2,.op (.alloc 51 [.int .i64 0,.int .i64 0,.nilslice]),none⟩])
 (.seq (.region [⟨some 3,.op (.mov (.tmp 0)),none⟩,⟨some 4,.op (.build [.int .i64 0,.int .i64 0,.nilslice] [(0,1,(.tmp 3))]),none⟩,⟨none,.op (.store 3 (.tmp 2) (.tmp 4)),none⟩])
 (.ret))
def fn10 : AFun:=⟨5,[.cell 2 true 3],b10⟩

def b11 : AC :=
 .seq (.region [⟨some 3,.op (.box 55 (.tmp 0)),none⟩,⟨some 4,.op (.box 51 (.tmp 1)),none⟩,⟨some 5,.op (.box 51 (.tmp 2)),none⟩,⟨some 6,.op (.mov (.const (.bool false))),none⟩])
 (.seq (.region [⟨some 12,.op (.loadN 6 (.tmp 3)),none⟩,⟨some 13,.op (.loadN 3 (.tmp 4)),none⟩,⟨some 14,.call (.const (.func 14 [] [])) [(.tmp 12),(.tmp 13)],none⟩,⟨some 11,.op (.mov (.tmp 14)),none⟩,⟨some 15,.op (.extract (.tmp 11) 0),none⟩,⟨some 16,.op (.extract (.tmp 11) 1),none⟩,⟨some 7,.op (.mov (.tmp 15)),none⟩,⟨some 8,.op (.mov (.tmp 16)),none⟩])
 (.seq (.region [⟨some 18,.op (.loadN 6 (.tmp 3)),none⟩,⟨some 19,.op (.loadN 3 (.tmp 5)),none⟩,⟨some 20,.call (.const (.func 14 [] [])) [(.tmp 18),(.tmp 19)],none⟩,⟨some 17,.op (.mov (.tmp 20)),none⟩,⟨some 21,.op (.extract (.tmp 17) 0),none⟩,⟨some 22,.op (.extract (.tmp 17) 1),none⟩,⟨some 9,.op (.mov (.tmp 21)),none⟩,⟨some 10,.op (.mov (.tmp 22)),none⟩])
 (.seq (.region [⟨some 23,.op (.mov (.tmp 8)),none⟩,⟨some 24,.op (.un .not (.tmp 23)),none⟩,⟨some 25,.op (.mov (.tmp 24)),none⟩,⟨some 26,.op (.mov (.tmp 10)),some (25,false)⟩,⟨some 27,.op (.un .not (.tmp 26)),some (25,false)⟩,⟨some 28,.op (.pick (.tmp 25) (.const (.bool true)) (.tmp 27)),none⟩,⟨some 29,.op (.mov (.tmp 28)),none⟩,⟨some 30,.op (.mov (.tmp 7)),some (29,false)⟩,⟨some 31,.op (.mov (.tmp 9)),some (29,false)⟩,⟨some 32,.op (.bin .eql 9 (.tmp 30) (.tmp 31)),some (29,false)⟩,⟨some 33,.op (.pick (.tmp 29) (.const (.bool true)) (.tmp 32)),none⟩,⟨some 6,.op (.mov (.tmp 33)),none⟩])
 (.ret))))
def fn11 : AFun:=⟨34,[.tmp 6],b11⟩

def b14 : AC :=
 .seq (.region [⟨some 2,.op (.box 55 (.tmp 0)),none⟩,⟨some 3,.op (.box 51 (.tmp 1)),none⟩,⟨some 4,.op (.mov (.const (.str 0 0))),none⟩,⟨some 5,.op (.mov (.const (.bool false))),none⟩])
 (.seq (.region [⟨some 8,.op (.loadN 3 (.tmp 3)),none⟩,⟨some 9,.op (.fieldAddr 3 (.tmp 2)),none⟩,⟨none,.op (.store 3 (.tmp 9) (.tmp 8)),none⟩])
 (.seq (.region [⟨some 11,.op (.loadN 6 (.tmp 2)),none⟩,⟨some 12,.call (.const (.func 16 [] [])) [(.tmp 11)],none⟩,⟨some 10,.op (.mov (.tmp 12)),none⟩,⟨some 13,.op (.extract (.tmp 10) 0),none⟩,⟨some 14,.op (.extract (.tmp 10) 1),none⟩,⟨some 6,.op (.mov (.tmp 13)),none⟩,⟨some 7,.op (.mov (.tmp 14)),none⟩])
 (.seq (.region [⟨some 15,.op (.mov (.tmp 6)),none⟩,⟨some 16,.op (.mov (.tmp 7)),none⟩,⟨some 17,.op (.bin .eql 9 (.tmp 16) (.const (.int .i64 0))),none⟩,⟨some 4,.op (.mov (.tmp 15)),none⟩,⟨some 5,.op (.mov (.tmp 17)),none⟩])
 (.ret))))
def fn14 : AFun:=⟨18,[.tmp 4,.tmp 5],b14⟩

def b16 : AC :=
  .seq (.region [⟨some 1,.op (.box 55 (.tmp 0)),none⟩,⟨some 2,.op (.mov (.const (.str 0 0))),none⟩,⟨some 3,.op (.mov (.const (.int .i64 0))),none⟩])
  (.seq (.seq (.region [⟨some 9,.op (.loadN 6 (.tmp 1)),none⟩,⟨some 10,.call (.const (.func 23 [] [])) [(.tmp 9)],none⟩,⟨some 4,.op (.mov (.tmp 10)),none⟩])
  (.seq (.region [⟨some 11,.op (.mov (.tmp 4)),none⟩,⟨some 12,.op (.bin .neq 9 (.tmp 11) (.const (.int .i64 0))),none⟩])
  (.cond (.tmp 12)
   (.seq (.region [⟨some 13,.op (.mov (.tmp 4)),none⟩,⟨some 2,.op (.mov (.const (.str 0 0))),none⟩,⟨some 3,.op (.mov (.tmp 13)),none⟩])
   (.ret))
   (.skip))))
  (.seq (.region [⟨some 14,.op (.loadN 6 (.tmp 1)),none⟩,⟨some 15,.call (.const (.func 25 [] [])) [(.tmp 14)],none⟩,⟨some 5,.op (.mov (.tmp 15)),none⟩])
  (.seq (.region [⟨some 17,.op (.mov (.tmp 5)),none⟩,⟨some 18,.op (.fieldAddr 3 (.tmp 1)),none⟩,⟨some 19,.op (.loadN 3 (.tmp 18)),none⟩,⟨some 20,.call (.const (.func 26 [] [])) [(.tmp 17),(.tmp 19)],none⟩,⟨some 16,.op (.mov (.tmp 20)),none⟩,⟨some 21,.op (.extract (.tmp 16) 0),none⟩,⟨some 22,.op (.extract (.tmp 16) 1),none⟩,⟨some 6,.op (.mov (.tmp 21)),none⟩,⟨some 7,.op (.mov (.tmp 22)),none⟩])
  (.seq (.region [⟨some 23,.op (.mov (.tmp 6)),none⟩,⟨some 24,.call (.const (.func 27 [] [])) [(.tmp 23)],none⟩,⟨some 25,.op (.bin .add 9 (.const (.str 4 1534227013)) (.tmp 24)),none⟩,⟨some 26,.op (.bin .add 9 (.tmp 25) (.const (.str 1 93))),none⟩,⟨some 8,.op (.mov (.tmp 26)),none⟩])
  (.seq (.block 0 (.seq (.region [⟨some 28,.op (.fieldAddr 2 (.tmp 1)),none⟩,⟨some 29,.op (.load1 (.tmp 28)),none⟩,⟨some 30,.op (.mov (.tmp 29)),none⟩,⟨some 31,.op (.mov (.tmp 7)),some (30,true)⟩,⟨some 32,.op (.pick (.tmp 30) (.tmp 31) (.const (.bool false))),none⟩,⟨some 27,.op (.mov (.tmp 32)),none⟩])
   (.cond (.tmp 27)
    (.seq (.region [⟨some 33,.op (.mov (.tmp 8)),none⟩,⟨some 2,.op (.mov (.tmp 33)),none⟩,⟨some 3,.op (.mov (.const (.int .i64 0))),none⟩])
    (.ret))
    (.seq (.region [⟨some 35,.op (.fieldAddr 2 (.tmp 1)),none⟩,⟨some 36,.op (.load1 (.tmp 35)),none⟩,⟨some 34,.op (.mov (.tmp 36)),none⟩])
    (.cond (.tmp 34)
     (.seq (.draw [⟨[⟨some 37,.op (.mov (.tmp 6)),none⟩,⟨some 39,.op (.mov (.tmp 5)),none⟩,⟨some 42,.op (.mov (.tmp 5)),none⟩,⟨some 43,.op (.nilCheck (.tmp 42)),none⟩,⟨some 44,.op (.fieldAddr 0 (.tmp 43)),none⟩,⟨some 45,.op (.fieldAddr 0 (.tmp 44)),none⟩,⟨some 46,.op (.load1 (.tmp 45)),none⟩],some ⟨some 38,.call (.const (.func 27 [] [])) [(.tmp 37)],none⟩,[⟨some 46,.op (.load1 (.tmp 45)),none⟩],[39,42,43,44,45,46]⟩,⟨[],some ⟨some 40,.call (.const (.func 29 [] [])) [(.tmp 39)],none⟩,[⟨some 46,.op (.load1 (.tmp 45)),none⟩],[42,43,44,45,46]⟩,⟨[],some ⟨some 41,.call (.const (.func 28 [] [])) [(.tmp 38),(.tmp 40)],none⟩,[⟨some 46,.op (.load1 (.tmp 45)),none⟩],[42,43,44,45,46]⟩,⟨[],some ⟨some 47,.call (.const (.func 27 [] [])) [(.tmp 46)],none⟩,[],[]⟩,⟨[],some ⟨some 48,.call (.const (.func 28 [] [])) [(.tmp 41),(.tmp 47)],none⟩,[],[]⟩,⟨[⟨some 49,.op (.bin .add 9 (.const (.str 3 5991247)) (.tmp 48)),none⟩,⟨some 50,.op (.bin .add 9 (.tmp 49) (.const (.str 1 93))),none⟩,⟨some 2,.op (.mov (.tmp 50)),none⟩,⟨some 3,.op (.mov (.const (.int .i64 0))),none⟩],none,[],[]⟩] [])
     (.ret))
     (.seq (.region [⟨some 52,.op (.mov (.tmp 7)),none⟩,⟨some 51,.op (.mov (.tmp 52)),none⟩])
     (.cond (.tmp 51)
      (.seq (.draw [⟨[⟨some 53,.op (.mov (.tmp 8)),none⟩,⟨some 54,.op (.mov (.tmp 5)),none⟩,⟨some 57,.op (.mov (.tmp 5)),none⟩,⟨some 58,.op (.nilCheck (.tmp 57)),none⟩,⟨some 59,.op (.fieldAddr 0 (.tmp 58)),none⟩,⟨some 60,.op (.fieldAddr 0 (.tmp 59)),none⟩,⟨some 61,.op (.load1 (.tmp 60)),none⟩],some ⟨some 55,.call (.const (.func 29 [] [])) [(.tmp 54)],none⟩,[⟨some 61,.op (.load1 (.tmp 60)),none⟩],[53,57,58,59,60,61]⟩,⟨[],some ⟨some 56,.call (.const (.func 28 [] [])) [(.tmp 53),(.tmp 55)],none⟩,[⟨some 61,.op (.load1 (.tmp 60)),none⟩],[57,58,59,60,61]⟩,⟨[],some ⟨some 62,.call (.const (.func 27 [] [])) [(.tmp 61)],none⟩,[],[]⟩,⟨[],some ⟨some 63,.call (.const (.func 28 [] [])) [(.tmp 56),(.tmp 62)],none⟩,[],[]⟩,⟨[⟨some 2,.op (.mov (.tmp 63)),none⟩,⟨some 3,.op (.mov (.const (.int .i64 0))),none⟩],none,[],[]⟩] [])
      (.ret))
      (.skip))))))))
  (.seq (.draw [⟨[⟨some 64,.op (.mov (.tmp 6)),none⟩,⟨some 68,.op (.mov (.tmp 5)),none⟩,⟨some 71,.op (.mov (.tmp 5)),none⟩,⟨some 72,.op (.nilCheck (.tmp 71)),none⟩,⟨some 73,.op (.fieldAddr 0 (.tmp 72)),none⟩,⟨some 74,.op (.fieldAddr 0 (.tmp 73)),none⟩,⟨some 75,.op (.load1 (.tmp 74)),none⟩],some ⟨some 65,.call (.const (.func 27 [] [])) [(.tmp 64)],none⟩,[⟨some 75,.op (.load1 (.tmp 74)),none⟩],[68,71,72,73,74,75]⟩,⟨[⟨some 66,.op (.bin .add 9 (.const (.str 3 5991247)) (.tmp 65)),none⟩,⟨some 67,.op (.bin .add 9 (.tmp 66) (.const (.str 1 93))),none⟩],some ⟨some 69,.call (.const (.func 29 [] [])) [(.tmp 68)],none⟩,[⟨some 75,.op (.load1 (.tmp 74)),none⟩],[71,72,73,74,75,66,67]⟩,⟨[],some ⟨some 70,.call (.const (.func 28 [] [])) [(.tmp 67),(.tmp 69)],none⟩,[⟨some 75,.op (.load1 (.tmp 74)),none⟩],[71,72,73,74,75]⟩,⟨[],some ⟨some 76,.call (.const (.func 27 [] [])) [(.tmp 75)],none⟩,[],[]⟩,⟨[],some ⟨some 77,.call (.const (.func 28 [] [])) [(.tmp 70),(.tmp 76)],none⟩,[],[]⟩,⟨[⟨some 2,.op (.mov (.tmp 77)),none⟩,⟨some 3,.op (.mov (.const (.int .i64 0))),none⟩],none,[],[]⟩] [])
  (.ret)))))))
def fn16 : AFun:=⟨78,[.tmp 2,.tmp 3],b16⟩

def b23 : AC :=
  .seq (.region [⟨some 1,.op (.box 55 (.tmp 0)),none⟩,⟨some 2,.op (.mov (.const (.int .i64 0))),none⟩])
  (.seq (.seq (.region [⟨some 4,.op (.fieldAddr 0 (.tmp 1)),none⟩,⟨some 5,.op (.load1 (.tmp 4)),none⟩,⟨some 6,.op (.fieldAddr 1 (.tmp 1)),none⟩,⟨some 7,.op (.load1 (.tmp 6)),none⟩,⟨some 8,.op (.minMax true [(.tmp 5),(.tmp 7)]),none⟩,⟨some 9,.op (.bin .gtr 9 (.tmp 8) (.const (.int .i64 999))),none⟩,⟨some 10,.op (.mov (.tmp 9)),none⟩,⟨some 11,.op (.fieldAddr 0 (.tmp 1)),some (10,false)⟩,⟨some 12,.op (.load1 (.tmp 11)),some (10,false)⟩,⟨some 13,.op (.fieldAddr 1 (.tmp 1)),some (10,false)⟩,⟨some 14,.op (.load1 (.tmp 13)),some (10,false)⟩,⟨some 15,.op (.minMax false [(.tmp 12),(.tmp 14)]),some (10,false)⟩,⟨some 16,.op (.bin .lss 9 (.tmp 15) (.const (.int .i64 (-999)))),some (10,false)⟩,⟨some 17,.op (.pick (.tmp 10) (.const (.bool true)) (.tmp 16)),none⟩])
  (.cond (.tmp 17)
   (.seq (.region [⟨some 2,.op (.mov (.const (.int .i64 1))),none⟩])
   (.ret))
   (.skip)))
  (.seq (.seq (.region [⟨some 18,.op (.fieldAddr 3 (.tmp 1)),none⟩,⟨some 19,.op (.loadN 3 (.tmp 18)),none⟩,⟨some 20,.call (.const (.func 43 [] [])) [(.tmp 19)],none⟩])
  (.cond (.tmp 20)
   (.seq (.region [⟨some 2,.op (.mov (.const (.int .i64 3))),none⟩])
   (.ret))
   (.skip)))
  (.seq (.seq (.region [⟨some 21,.op (.fieldAddr 3 (.tmp 1)),none⟩,⟨some 22,.op (.loadN 3 (.tmp 21)),none⟩,⟨some 23,.call (.const (.func 44 [] [])) [(.tmp 22)],none⟩,⟨some 3,.op (.mov (.tmp 23)),none⟩])
  (.seq (.region [⟨some 24,.op (.mov (.tmp 3)),none⟩,⟨some 25,.op (.bin .neq 9 (.tmp 24) (.const (.int .i64 0))),none⟩])
  (.cond (.tmp 25)
   (.seq (.region [⟨some 26,.op (.mov (.tmp 3)),none⟩,⟨some 2,.op (.mov (.tmp 26)),none⟩])
   (.ret))
   (.skip))))
  (.seq (.seq (.region [⟨some 27,.op (.fieldAddr 3 (.tmp 1)),none⟩,⟨some 28,.op (.loadN 3 (.tmp 27)),none⟩,⟨some 29,.call (.const (.func 45 [] [])) [(.tmp 28)],none⟩,⟨some 30,.op (.bin .gtr 9 (.tmp 29) (.const (.int .i64 120))),none⟩])
  (.cond (.tmp 30)
   (.seq (.region [⟨some 2,.op (.mov (.const (.int .i64 3))),none⟩])
   (.ret))
   (.skip)))
  (.seq (.region [⟨some 2,.op (.mov (.const (.int .i64 0))),none⟩])
  (.ret))))))
def fn23 : AFun:=⟨31,[.tmp 2],b23⟩

def b25 : AC :=
 .seq (.region [⟨some 1,.op (.box 55 (.tmp 0)),none⟩,⟨some 2,.op (.mov (.const (.nilptr))),none⟩])
 (.seq (.region [⟨some 4,.op (.loadN 6 (.tmp 1)),none⟩,⟨some 5,.op (.build [.int .i64 0,.int .i64 0,.bool false,.int .i64 0,.int .i64 0,.nilslice,.nilslice,.nilmap] [(0,6,(.tmp 4))]),none⟩,⟨some 6,.op (.box 155 (.tmp 5)),none⟩,⟨some 3,.op (.mov (.tmp 6)),none⟩])
 (.seq (.region [⟨some 7,.op (.mov (.tmp 3)),none⟩,⟨some 8,.op (.makeMap),none⟩,⟨some 9,.op (.mov (.tmp 3)),none⟩,⟨some 10,.op (.makeFunc 46 [(.tmp 9)] []),none⟩,⟨none,.op (.mapUpdate 0 (.tmp 8) (.const (.int .i64 2)) (.tmp 10)),none⟩,⟨some 11,.op (.mov (.tmp 3)),none⟩,⟨some 12,.op (.makeFunc 47 [(.tmp 11)] []),none⟩,⟨none,.op (.mapUpdate 0 (.tmp 8) (.const (.int .i64 4)) (.tmp 12)),none⟩,⟨some 13,.op (.mov (.tmp 3)),none⟩,⟨some 14,.op (.makeFunc 48 [(.tmp 13)] []),none⟩,⟨none,.op (.mapUpdate 0 (.tmp 8) (.const (.int .i64 5)) (.tmp 14)),none⟩,⟨some 15,.op (.mov (.tmp 3)),none⟩,⟨some 16,.op (.makeFunc 49 [(.tmp 15)] []),none⟩,⟨none,.op (.mapUpdate 0 (.tmp 8) (.const (.int .i64 6)) (.tmp 16)),none⟩,⟨some 17,.op (.mov (.tmp 3)),none⟩,⟨some 18,.op (.makeFunc 50 [(.tmp 17)] []),none⟩,⟨none,.op (.mapUpdate 0 (.tmp 8) (.const (.int .i64 7)) (.tmp 18)),none⟩,⟨some 19,.op (.mov (.tmp 3)),none⟩,⟨some 20,.op (.makeFunc 51 [(.tmp 19)] []),none⟩,⟨none,.op (.mapUpdate 0 (.tmp 8) (.const (.int .i64 8)) (.tmp 20)),none⟩,⟨some 21,.op (.mov (.tmp 3)),none⟩,⟨some 22,.op (.makeFunc 52 [(.tmp 21)] []),none⟩,⟨none,.op (.mapUpdate 0 (.tmp 8) (.const (.int .i64 9)) (.tmp 22)),none⟩,⟨some 23,.op (.mov (.tmp 3)),none⟩,⟨some 24,.op (.makeFunc 53 [(.tmp 23)] []),none⟩,⟨none,.op (.mapUpdate 0 (.tmp 8) (.const (.int .i64 10)) (.tmp 24)),none⟩,⟨some 25,.op (.mov (.tmp 3)),none⟩,⟨some 26,.op (.makeFunc 54 [(.tmp 25)] []),none⟩,⟨none,.op (.mapUpdate 0 (.tmp 8) (.const (.int .i64 11)) (.tmp 26)),none⟩,⟨some 27,.op (.mov (.tmp 3)),none⟩,⟨some 28,.op (.makeFunc 55 [(.tmp 27)] []),none⟩,⟨none,.op (.mapUpdate 0 (.tmp 8) (.const (.int .i64 12)) (.tmp 28)),none⟩,⟨some 29,.op (.mov (.tmp 8)),none⟩,⟨some 30,.op (.nilCheck (.tmp 7)),none⟩,⟨some 31,.op (.fieldAddr 7 (.tmp 30)),none⟩,⟨none,.op (.store 1 (.tmp 31) (.tmp 29)),none⟩])
 (.seq (.region [⟨some 32,.op (.mov (.tmp 3)),none⟩,⟨some 2,.op (.mov (.tmp 32)),none⟩])
 (.ret))))
def fn25 : AFun:=⟨33,[.tmp 2],b25⟩

def b26 : AC :=
 .seq (.region [⟨some 3,.op (.box 51 (.tmp 1)),none⟩,⟨some 4,.op (.alloc 7 [.int .i64 0]),none⟩,⟨some 5,.op (.alloc 9 [.bool false]),none⟩])
 (.seq (.region [⟨some 6,.op (.makeFunc 56 [] [(.tmp 4),(.tmp 5)]),none⟩,⟨none,.defer (.tmp 6) [],none⟩])
 (.seq (.region [⟨some 7,.op (.mov (.tmp 0)),none⟩,⟨some 8,.op (.loadN 3 (.tmp 3)),none⟩,⟨some 9,.call (.const (.func 57 [] [])) [(.tmp 7),(.tmp 8)],none⟩,⟨none,.op (.store 1 (.tmp 4) (.tmp 9)),none⟩,⟨none,.op (.store 1 (.tmp 5) (.const (.bool false))),none⟩])
 (.ret)))
def fn26 : AFun:=⟨10,[.cell 4 false 1,.cell 5 false 1],b26⟩

def b27 : AC :=
  .seq (.region [⟨some 2,.op (.mov (.const (.str 0 0))),none⟩])
  (.seq (.seq (.region [⟨some 3,.op (.mov (.tmp 0)),none⟩,⟨some 4,.op (.bin .lss 9 (.tmp 3) (.const (.int .i64 0))),none⟩])
  (.cond (.tmp 4)
   (.seq (.region [⟨some 5,.op (.mov (.tmp 0)),none⟩,⟨some 6,.call (.const (.func 58 [] [])) [(.tmp 5)],none⟩,⟨some 7,.op (.bin .add 9 (.const (.str 1 40)) (.tmp 6)),none⟩,⟨some 8,.op (.bin .add 9 (.tmp 7) (.const (.str 1 41))),none⟩,⟨some 2,.op (.mov (.tmp 8)),none⟩])
   (.ret))
   (.skip)))
  (.seq (.region [⟨some 9,.op (.mov (.tmp 0)),none⟩,⟨some 10,.call (.const (.func 58 [] [])) [(.tmp 9)],none⟩,⟨some 2,.op (.mov (.tmp 10)),none⟩])
  (.ret)))
def fn27 : AFun:=⟨11,[.tmp 2],b27⟩

def b28 : AC :=
 .seq (.region [⟨some 4,.op (.mov (.const (.str 0 0))),none⟩])
 (.seq (.region [⟨some 5,.op (.mov (.tmp 0)),none⟩,⟨some 6,.op (.bin .add 9 (.const (.str 5 392761532752)) (.tmp 5)),none⟩,⟨some 7,.op (.bin .add 9 (.tmp 6) (.const (.str 2 8236))),none⟩,⟨some 8,.op (.mov (.tmp 1)),none⟩,⟨some 9,.op (.bin .add 9 (.tmp 7) (.tmp 8)),none⟩,⟨some 10,.op (.bin .add 9 (.tmp 9) (.const (.str 1 93))),none⟩,⟨some 4,.op (.mov (.tmp 10)),none⟩])
 (.ret))
def fn28 : AFun:=⟨11,[.tmp 4],b28⟩

def b29 : AC :=
 .seq (.region [⟨some 2,.op (.mov (.const (.str 0 0))),none⟩])
 (.seq (.region [⟨some 3,.op (.alloc 209 [.nilptr,.nilslice]),none⟩])
 (.seq (.seq (.region [⟨some 5,.op (.mov (.tmp 0)),none⟩,⟨some 6,.call (.const (.func 59 [] [])) [(.tmp 5)],none⟩])
 (.block 0 (.rangeFunc (.tmp 6) [7] (.region [⟨some 4,.op (.mov (.tmp 7)),none⟩])
  (.block 1 (.region [⟨some 8,.op (.mov (.tmp 4)),none⟩,⟨some 9,.call (.const (.func 27 [] [])) [(.tmp 8)],none⟩,⟨some 10,.op (.bin .add 9 (.const (.str 5 392778641219)) (.tmp 9)),none⟩,⟨some 11,.op (.bin .add 9 (.tmp 10) (.const (.str 2 8236))),none⟩,⟨some 12,.call (.const (.func 60 [] [])) [(.tmp 3),(.tmp 11)],none⟩])))))
 (.seq (.region [⟨some 13,.call (.const (.func 60 [] [])) [(.tmp 3),(.const (.str 3 7104846))],none⟩])
 (.seq (.region [⟨some 14,.op (.mov (.tmp 0)),none⟩,⟨some 15,.op (.nilCheck (.tmp 14)),none⟩,⟨some 16,.op (.fieldAddr 6 (.tmp 15)),none⟩,⟨some 17,.op (.load1 (.tmp 16)),none⟩,⟨some 18,.op (.len 1 (.tmp 17)),none⟩,⟨some 19,.call (.const (.func 61 [] [])) [(.const (.str 1 93)),(.tmp 18)],none⟩,⟨some 20,.call (.const (.func 60 [] [])) [(.tmp 3),(.tmp 19)],none⟩])
 (.seq (.region [⟨some 21,.call (.const (.func 62 [] [])) [(.tmp 3)],none⟩,⟨some 2,.op (.mov (.tmp 21)),none⟩])
 (.ret))))))
def fn29 : AFun:=⟨22,[.tmp 2],b29⟩

def b43 : AC :=
 .seq (.region [⟨some 1,.op (.box 51 (.tmp 0)),none⟩,⟨some 2,.op (.mov (.const (.bool false))),none⟩])
 (.seq (.region [⟨some 3,.op (.alloc 7 [.int .i64 0]),none⟩,⟨none,.op (.store 1 (.tmp 3) (.const (.int .i64 40))),none⟩])
 (.seq (.region [⟨some 4,.op (.alloc 289 [.nilFunc]),none⟩])
 (.seq (.region [⟨some 5,.op (.makeFunc 86 [] [(.tmp 3),(.tmp 4)]),none⟩,⟨none,.op (.store 1 (.tmp 4) (.tmp 5)),none⟩])
 (.seq (.region [⟨some 6,.op (.load1 (.tmp 4)),none⟩,⟨some 7,.op (.loadN 3 (.tmp 1)),none⟩,⟨some 8,.call (.tmp 6) [(.tmp 7)],none⟩])
 (.seq (.region [⟨some 9,.op (.load1 (.tmp 3)),none⟩,⟨some 10,.op (.bin .lss 9 (.tmp 9) (.const (.int .i64 0))),none⟩,⟨some 2,.op (.mov (.tmp 10)),none⟩])
 (.ret))))))
def fn43 : AFun:=⟨11,[.tmp 2],b43⟩

def b44 : AC :=
  .seq (.region [⟨some 1,.op (.box 51 (.tmp 0)),none⟩,⟨some 2,.op (.mov (.const (.int .i64 0))),none⟩])
  (.seq (.seq (.region [⟨some 7,.op (.fieldAddr 0 (.tmp 1)),none⟩,⟨some 8,.op (.load1 (.tmp 7)),none⟩,⟨some 9,.op (.bin .lss 9 (.tmp 8) (.const (.int .i64 0))),none⟩,⟨some 10,.op (.mov (.tmp 9)),none⟩,⟨some 11,.op (.fieldAddr 0 (.tmp 1)),some (10,false)⟩,⟨some 12,.op (.load1 (.tmp 11)),some (10,false)⟩,⟨some 13,.op (.bin .geq 9 (.tmp 12) (.const (.int .i64 13))),some (10,false)⟩,⟨some 14,.op (.pick (.tmp 10) (.const (.bool true)) (.tmp 13)),none⟩])
  (.cond (.tmp 14)
   (.seq (.region [⟨some 2,.op (.mov (.const (.int .i64 1))),none⟩])
   (.ret))
   (.skip)))
  (.seq (.draw [⟨[⟨some 16,.op (.fieldAddr 0 (.tmp 1)),none⟩,⟨some 17,.op (.load1 (.tmp 16)),none⟩,⟨some 3,.op (.alloc 293 [.int .i64 0,.int .i64 0,.int .i64 0]),none⟩],some ⟨some 15,.call (.const (.func 87 [] [])) [],none⟩,[⟨some 17,.op (.load1 (.tmp 16)),none⟩,⟨some 3,.op (.alloc 293 [.int .i64 0,.int .i64 0,.int .i64 0]),none⟩],[16,17,3]⟩,⟨[⟨some 18,.op (.index true 13 3 (.tmp 15) (.tmp 17)),none⟩],some ⟨none,.op (.store 3 (.tmp 3) (.tmp 18)),none⟩,[],[]⟩,⟨[],none,[],[]⟩] [])
  (.seq (.block 0 (.seq (.region [⟨some 20,.op (.fieldAddr 1 (.tmp 1)),none⟩,⟨some 21,.op (.load1 (.tmp 20)),none⟩,⟨some 22,.op (.fieldAddr 1 (.tmp 3)),none⟩,⟨some 23,.op (.load1 (.tmp 22)),none⟩,⟨some 24,.op (.un .neg (.tmp 23)),none⟩,⟨some 25,.op (.bin .lss 9 (.tmp 21) (.tmp 24)),none⟩,⟨some 26,.op (.mov (.tmp 25)),none⟩,⟨some 27,.op (.fieldAddr 1 (.tmp 1)),some (26,false)⟩,⟨some 28,.op (.load1 (.tmp 27)),some (26,false)⟩,⟨some 29,.op (.fieldAddr 2 (.tmp 3)),some (26,false)⟩,⟨some 30,.op (.load1 (.tmp 29)),some (26,false)⟩,⟨some 31,.op (.bin .gtr 9 (.tmp 28) (.tmp 30)),some (26,false)⟩,⟨some 32,.op (.pick (.tmp 26) (.const (.bool true)) (.tmp 31)),none⟩,⟨some 19,.op (.mov (.tmp 32)),none⟩])
   (.cond (.tmp 19)
    (.seq (.region [⟨some 2,.op (.mov (.const (.int .i64 1))),none⟩])
    (.ret))
    (.seq (.region [⟨some 34,.op (.fieldAddr 2 (.tmp 1)),none⟩,⟨some 35,.op (.load1 (.tmp 34)),none⟩,⟨some 36,.op (.len 1 (.tmp 35)),none⟩,⟨some 37,.op (.fieldAddr 0 (.tmp 3)),none⟩,⟨some 38,.op (.load1 (.tmp 37)),none⟩,⟨some 39,.op (.bin .neq 9 (.tmp 36) (.tmp 38)),none⟩,⟨some 33,.op (.mov (.tmp 39)),none⟩])
    (.cond (.tmp 33)
     (.seq (.region [⟨some 2,.op (.mov (.const (.int .i64 7))),none⟩])
     (.ret))
     (.skip))))))
  (.seq (.seq (.region [⟨some 40,.op (.fieldAddr 2 (.tmp 1)),none⟩,⟨some 41,.op (.load1 (.tmp 40)),none⟩,⟨some 42,.op (.len 1 (.tmp 41)),none⟩,⟨some 43,.op (.mov (.const (.int .i64 0))),none⟩])
  (.block 1 (.loop (.seq (.region [⟨some 44,.op (.bin .lss 9 (.tmp 43) (.tmp 42)),none⟩])
    (.seq (.cond (.tmp 44)
     (.skip)
     (.exit 1))
    (.seq (.block 2 (.seq (.region [⟨some 45,.op (.indexAddr 3 (.tmp 41) (.tmp 43)),none⟩,⟨some 46,.op (.loadN 3 (.tmp 45)),none⟩,⟨some 5,.op (.alloc 51 [.int .i64 0,.int .i64 0,.nilslice]),none⟩,⟨none,.op (.store 3 (.tmp 5) (.tmp 46)),none⟩])
     (.seq (.region [⟨some 47,.op (.loadN 3 (.tmp 5)),none⟩,⟨some 48,.call (.const (.func 44 [] [])) [(.tmp 47)],none⟩,⟨some 6,.op (.mov (.tmp 48)),none⟩])
     (.seq (.region [⟨some 49,.op (.mov (.tmp 6)),none⟩,⟨some 50,.op (.bin .neq 9 (.tmp 49) (.const (.int .i64 0))),none⟩])
     (.cond (.tmp 50)
      (.seq (.region [⟨some 51,.op (.mov (.tmp 6)),none⟩,⟨some 2,.op (.mov (.tmp 51)),none⟩])
      (.ret))
      (.skip))))))
    (.region [⟨some 52,.op (.bin .add 9 (.tmp 43) (.const (.int .i64 1))),none⟩,⟨some 43,.op (.mov (.tmp 52)),none⟩])))))))
  (.seq (.region [⟨some 2,.op (.mov (.const (.int .i64 0))),none⟩])
  (.ret))))))
def fn44 : AFun:=⟨53,[.tmp 2],b44⟩

def b45 : AC :=
  .seq (.region [⟨some 1,.op (.box 51 (.tmp 0)),none⟩,⟨some 2,.op (.mov (.const (.int .i64 0))),none⟩])
  (.seq (.region [⟨some 3,.op (.mov (.const (.int .i64 1))),none⟩])
  (.seq (.seq (.region [⟨some 7,.op (.fieldAddr 0 (.tmp 1)),none⟩,⟨some 8,.op (.load1 (.tmp 7)),none⟩,⟨some 9,.op (.bin .eql 9 (.tmp 8) (.const (.int .i64 12))),none⟩])
  (.cond (.tmp 9)
   (.region [⟨some 10,.op (.fieldAddr 1 (.tmp 1)),none⟩,⟨some 11,.op (.load1 (.tmp 10)),none⟩,⟨some 3,.op (.mov (.tmp 11)),none⟩])
   (.skip)))
  (.seq (.region [⟨some 4,.op (.mov (.const (.int .i64 1))),none⟩])
  (.seq (.seq (.region [⟨some 12,.op (.fieldAddr 2 (.tmp 1)),none⟩,⟨some 13,.op (.load1 (.tmp 12)),none⟩,⟨some 14,.op (.len 1 (.tmp 13)),none⟩,⟨some 15,.op (.mov (.const (.int .i64 0))),none⟩])
  (.block 0 (.loop (.seq (.region [⟨some 16,.op (.bin .lss 9 (.tmp 15) (.tmp 14)),none⟩])
    (.seq (.cond (.tmp 16)
     (.skip)
     (.exit 0))
    (.seq (.block 1 (.seq (.region [⟨some 17,.op (.indexAddr 3 (.tmp 13) (.tmp 15)),none⟩,⟨some 18,.op (.loadN 3 (.tmp 17)),none⟩,⟨some 6,.op (.alloc 51 [.int .i64 0,.int .i64 0,.nilslice]),none⟩,⟨none,.op (.store 3 (.tmp 6) (.tmp 18)),none⟩])
     (.region [⟨some 19,.op (.mov (.tmp 4)),none⟩,⟨some 20,.op (.mov (.tmp 3)),none⟩,⟨some 21,.op (.loadN 3 (.tmp 6)),none⟩,⟨some 22,.call (.const (.func 45 [] [])) [(.tmp 21)],none⟩,⟨some 23,.op (.bin .mul 9 (.tmp 20) (.tmp 22)),none⟩,⟨some 24,.op (.bin .add 9 (.tmp 19) (.tmp 23)),none⟩,⟨some 4,.op (.mov (.tmp 24)),none⟩])))
    (.region [⟨some 25,.op (.bin .add 9 (.tmp 15) (.const (.int .i64 1))),none⟩,⟨some 15,.op (.mov (.tmp 25)),none⟩])))))))
  (.seq (.region [⟨some 26,.op (.mov (.tmp 4)),none⟩,⟨some 27,.op (.minMax false [(.tmp 26),(.const (.int .i64 121))]),none⟩,⟨some 2,.op (.mov (.tmp 27)),none⟩])
  (.ret))))))
def fn45 : AFun:=⟨28,[.tmp 2],b45⟩

def b46 : AC :=
 .seq (.region [⟨some 3,.op (.box 51 (.tmp 1)),none⟩,⟨some 4,.op (.mov (.const (.int .i64 0))),none⟩])
 (.seq (.region [⟨some 6,.op (.mov (.tmp 0)),none⟩,⟨some 7,.op (.fieldAddr 2 (.tmp 3)),none⟩,⟨some 8,.op (.load1 (.tmp 7)),none⟩,⟨some 9,.op (.indexAddr 3 (.tmp 8) (.const (.int .i64 0))),none⟩,⟨some 10,.op (.loadN 3 (.tmp 9)),none⟩,⟨some 11,.call (.const (.func 57 [] [])) [(.tmp 6),(.tmp 10)],none⟩,⟨some 5,.op (.mov (.tmp 11)),none⟩])
 (.seq (.region [⟨some 12,.op (.mov (.tmp 0)),none⟩,⟨some 13,.op (.mov (.tmp 5)),none⟩,⟨some 14,.op (.nilCheck (.tmp 12)),none⟩,⟨some 15,.op (.fieldAddr 0 (.tmp 14)),none⟩,⟨some 16,.op (.fieldAddr 0 (.tmp 15)),none⟩,⟨none,.op (.store 1 (.tmp 16) (.tmp 13)),none⟩])
 (.seq (.region [⟨some 17,.op (.mov (.tmp 5)),none⟩,⟨some 4,.op (.mov (.tmp 17)),none⟩])
 (.ret))))
def fn46 : AFun:=⟨18,[.tmp 4],b46⟩

def b47 : AC :=
 .seq (.region [⟨some 3,.op (.box 51 (.tmp 1)),none⟩,⟨some 4,.op (.mov (.const (.int .i64 0))),none⟩])
 (.seq (.region [⟨some 6,.op (.mov (.tmp 0)),none⟩,⟨some 7,.op (.fieldAddr 2 (.tmp 3)),none⟩,⟨some 8,.op (.load1 (.tmp 7)),none⟩,⟨some 9,.op (.indexAddr 3 (.tmp 8) (.const (.int .i64 0))),none⟩,⟨some 10,.op (.loadN 3 (.tmp 9)),none⟩,⟨some 11,.call (.const (.func 57 [] [])) [(.tmp 6),(.tmp 10)],none⟩,⟨some 5,.op (.mov (.tmp 11)),none⟩])
 (.seq (.region [⟨some 12,.op (.mov (.tmp 0)),none⟩,⟨some 13,.op (.mov (.tmp 0)),none⟩,⟨some 14,.op (.nilCheck (.tmp 13)),none⟩,⟨some 15,.op (.fieldAddr 6 (.tmp 14)),none⟩,⟨some 16,.op (.load1 (.tmp 15)),none⟩,⟨some 17,.op (.mov (.tmp 5)),none⟩,⟨some 18,.op (.buildSlice 1 [.int .i64 0] [(0,1,(.tmp 17))]),none⟩,⟨some 19,.op (.append 1 8 6 (.tmp 16) (.tmp 18)),none⟩,⟨some 20,.op (.nilCheck (.tmp 12)),none⟩,⟨some 21,.op (.fieldAddr 6 (.tmp 20)),none⟩,⟨none,.op (.store 1 (.tmp 21) (.tmp 19)),none⟩])
 (.seq (.region [⟨some 22,.op (.mov (.tmp 5)),none⟩,⟨some 4,.op (.mov (.tmp 22)),none⟩])
 (.ret))))
def fn47 : AFun:=⟨23,[.tmp 4],b47⟩

def b48 : AC :=
 .seq (.region [⟨some 3,.op (.box 51 (.tmp 1)),none⟩,⟨some 4,.op (.mov (.const (.int .i64 0))),none⟩])
 (.seq (.region [⟨some 6,.op (.mov (.tmp 0)),none⟩,⟨some 7,.op (.fieldAddr 2 (.tmp 3)),none⟩,⟨some 8,.op (.load1 (.tmp 7)),none⟩,⟨some 9,.op (.indexAddr 3 (.tmp 8) (.const (.int .i64 0))),none⟩,⟨some 10,.op (.loadN 3 (.tmp 9)),none⟩,⟨some 11,.call (.const (.func 57 [] [])) [(.tmp 6),(.tmp 10)],none⟩,⟨some 5,.op (.mov (.tmp 11)),none⟩])
 (.region [⟨some 12,.op (.mov (.tmp 5)),none⟩,⟨some 13,.op (.build [.int .i64 0] [(0,1,(.tmp 12))]),none⟩,⟨some 14,.op (.makeInterface 99 (.tmp 13)),none⟩,⟨none,.panic (.tmp 14),none⟩]))
def fn48 : AFun:=⟨15,[.tmp 4],b48⟩

def b49 : AC :=
  .seq (.region [⟨some 3,.op (.box 51 (.tmp 1)),none⟩,⟨some 4,.op (.mov (.const (.int .i64 0))),none⟩])
  (.seq (.region [⟨some 8,.op (.mov (.tmp 0)),none⟩,⟨some 9,.op (.fieldAddr 2 (.tmp 3)),none⟩,⟨some 10,.op (.load1 (.tmp 9)),none⟩,⟨some 11,.op (.indexAddr 3 (.tmp 10) (.const (.int .i64 0))),none⟩,⟨some 12,.op (.loadN 3 (.tmp 11)),none⟩,⟨some 13,.call (.const (.func 26 [] [])) [(.tmp 8),(.tmp 12)],none⟩,⟨some 7,.op (.mov (.tmp 13)),none⟩,⟨some 14,.op (.extract (.tmp 7) 0),none⟩,⟨some 15,.op (.extract (.tmp 7) 1),none⟩,⟨some 5,.op (.mov (.tmp 14)),none⟩,⟨some 6,.op (.mov (.tmp 15)),none⟩])
  (.seq (.seq (.region [⟨some 16,.op (.mov (.tmp 6)),none⟩,⟨some 17,.op (.un .not (.tmp 16)),none⟩])
  (.cond (.tmp 17)
   (.seq (.region [⟨some 18,.op (.mov (.tmp 5)),none⟩,⟨some 4,.op (.mov (.tmp 18)),none⟩])
   (.ret))
   (.skip)))
  (.seq (.region [⟨some 19,.op (.mov (.tmp 5)),none⟩,⟨some 20,.op (.mov (.tmp 0)),none⟩,⟨some 21,.op (.fieldAddr 2 (.tmp 3)),none⟩,⟨some 22,.op (.load1 (.tmp 21)),none⟩,⟨some 23,.op (.indexAddr 3 (.tmp 22) (.const (.int .i64 1))),none⟩,⟨some 24,.op (.loadN 3 (.tmp 23)),none⟩,⟨some 25,.call (.const (.func 57 [] [])) [(.tmp 20),(.tmp 24)],none⟩,⟨some 26,.op (.bin .add 9 (.tmp 19) (.tmp 25)),none⟩,⟨some 27,.call (.const (.func 88 [] [])) [(.tmp 26)],none⟩,⟨some 4,.op (.mov (.tmp 27)),none⟩])
  (.ret))))
def fn49 : AFun:=⟨28,[.tmp 4],b49⟩

def b50 : AC :=
  .seq (.region [⟨some 3,.op (.box 51 (.tmp 1)),none⟩,⟨some 4,.op (.mov (.const (.int .i64 0))),none⟩])
  (.seq (.region [⟨some 8,.op (.mov (.tmp 0)),none⟩,⟨some 9,.op (.nilCheck (.tmp 8)),none⟩,⟨some 10,.op (.fieldAddr 0 (.tmp 9)),none⟩,⟨some 11,.op (.fieldAddr 0 (.tmp 10)),none⟩,⟨some 12,.op (.load1 (.tmp 11)),none⟩,⟨some 5,.op (.mov (.tmp 12)),none⟩])
  (.seq (.region [⟨some 14,.op (.mov (.tmp 0)),none⟩,⟨some 15,.op (.fieldAddr 2 (.tmp 3)),none⟩,⟨some 16,.op (.load1 (.tmp 15)),none⟩,⟨some 17,.op (.indexAddr 3 (.tmp 16) (.const (.int .i64 0))),none⟩,⟨some 18,.op (.loadN 3 (.tmp 17)),none⟩,⟨some 19,.call (.const (.func 26 [] [])) [(.tmp 14),(.tmp 18)],none⟩,⟨some 13,.op (.mov (.tmp 19)),none⟩,⟨some 20,.op (.extract (.tmp 13) 0),none⟩,⟨some 21,.op (.extract (.tmp 13) 1),none⟩,⟨some 6,.op (.mov (.tmp 20)),none⟩,⟨some 7,.op (.mov (.tmp 21)),none⟩])
  (.seq (.seq (.region [⟨some 22,.op (.mov (.tmp 7)),none⟩,⟨some 23,.op (.un .not (.tmp 22)),none⟩])
  (.cond (.tmp 23)
   (.seq (.region [⟨some 24,.op (.mov (.tmp 6)),none⟩,⟨some 4,.op (.mov (.tmp 24)),none⟩])
   (.ret))
   (.skip)))
  (.seq (.region [⟨some 25,.op (.mov (.tmp 0)),none⟩,⟨some 26,.op (.mov (.tmp 5)),none⟩,⟨some 27,.op (.nilCheck (.tmp 25)),none⟩,⟨some 28,.op (.fieldAddr 0 (.tmp 27)),none⟩,⟨some 29,.op (.fieldAddr 0 (.tmp 28)),none⟩,⟨none,.op (.store 1 (.tmp 29) (.tmp 26)),none⟩])
  (.seq (.region [⟨some 30,.op (.mov (.tmp 6)),none⟩,⟨some 31,.op (.mov (.tmp 0)),none⟩,⟨some 32,.op (.fieldAddr 2 (.tmp 3)),none⟩,⟨some 33,.op (.load1 (.tmp 32)),none⟩,⟨some 34,.op (.indexAddr 3 (.tmp 33) (.const (.int .i64 1))),none⟩,⟨some 35,.op (.loadN 3 (.tmp 34)),none⟩,⟨some 36,.call (.const (.func 57 [] [])) [(.tmp 31),(.tmp 35)],none⟩,⟨some 37,.op (.bin .add 9 (.tmp 30) (.tmp 36)),none⟩,⟨some 38,.call (.const (.func 88 [] [])) [(.tmp 37)],none⟩,⟨some 4,.op (.mov (.tmp 38)),none⟩])
  (.ret))))))
def fn50 : AFun:=⟨39,[.tmp 4],b50⟩

def b51 : AC :=
 .seq (.region [⟨some 3,.op (.box 51 (.tmp 1)),none⟩,⟨some 4,.op (.mov (.const (.int .i64 0))),none⟩])
 (.seq (.region [⟨some 6,.op (.mov (.tmp 0)),none⟩,⟨some 7,.op (.fieldAddr 2 (.tmp 3)),none⟩,⟨some 8,.op (.load1 (.tmp 7)),none⟩,⟨some 9,.op (.indexAddr 3 (.tmp 8) (.const (.int .i64 0))),none⟩,⟨some 10,.op (.loadN 3 (.tmp 9)),none⟩,⟨some 11,.call (.const (.func 57 [] [])) [(.tmp 6),(.tmp 10)],none⟩,⟨some 5,.op (.mov (.tmp 11)),none⟩])
 (.seq (.region [⟨some 12,.op (.mov (.tmp 0)),none⟩,⟨some 13,.op (.mov (.tmp 5)),none⟩,⟨some 14,.op (.fieldAddr 2 (.tmp 3)),none⟩,⟨some 15,.op (.load1 (.tmp 14)),none⟩,⟨some 16,.op (.indexAddr 3 (.tmp 15) (.const (.int .i64 1))),none⟩,⟨some 17,.op (.loadN 3 (.tmp 16)),none⟩,⟨some 18,.call (.const (.func 89 [] [])) [(.tmp 12),(.tmp 13),(.tmp 17)],none⟩,⟨some 4,.op (.mov (.tmp 18)),none⟩])
 (.ret)))
def fn51 : AFun:=⟨19,[.tmp 4],b51⟩

def b52 : AC :=
 .seq (.region [⟨some 3,.op (.box 51 (.tmp 1)),none⟩,⟨some 4,.op (.mov (.const (.int .i64 0))),none⟩])
 (.seq (.region [⟨some 7,.op (.mov (.tmp 0)),none⟩,⟨some 8,.op (.fieldAddr 2 (.tmp 3)),none⟩,⟨some 9,.op (.load1 (.tmp 8)),none⟩,⟨some 10,.op (.indexAddr 3 (.tmp 9) (.const (.int .i64 0))),none⟩,⟨some 11,.op (.loadN 3 (.tmp 10)),none⟩,⟨some 12,.call (.const (.func 57 [] [])) [(.tmp 7),(.tmp 11)],none⟩,⟨some 5,.op (.mov (.tmp 12)),none⟩])
 (.seq (.region [⟨some 13,.op (.mov (.tmp 0)),none⟩,⟨some 14,.op (.fieldAddr 2 (.tmp 3)),none⟩,⟨some 15,.op (.load1 (.tmp 14)),none⟩,⟨some 16,.op (.indexAddr 3 (.tmp 15) (.const (.int .i64 1))),none⟩,⟨some 17,.op (.loadN 3 (.tmp 16)),none⟩,⟨some 18,.call (.const (.func 57 [] [])) [(.tmp 13),(.tmp 17)],none⟩,⟨some 6,.op (.mov (.tmp 18)),none⟩])
 (.seq (.region [⟨some 19,.op (.mov (.tmp 5)),none⟩,⟨some 20,.op (.mov (.tmp 6)),none⟩,⟨some 21,.op (.bin .add 9 (.tmp 19) (.tmp 20)),none⟩,⟨some 22,.call (.const (.func 88 [] [])) [(.tmp 21)],none⟩,⟨some 4,.op (.mov (.tmp 22)),none⟩])
 (.ret))))
def fn52 : AFun:=⟨23,[.tmp 4],b52⟩

def b53 : AC :=
 .seq (.region [⟨some 3,.op (.box 51 (.tmp 1)),none⟩,⟨some 4,.op (.mov (.const (.int .i64 0))),none⟩])
 (.seq (.region [⟨some 5,.op (.mov (.tmp 0)),none⟩,⟨some 6,.op (.fieldAddr 2 (.tmp 3)),none⟩,⟨some 7,.op (.load1 (.tmp 6)),none⟩,⟨some 8,.op (.indexAddr 3 (.tmp 7) (.const (.int .i64 0))),none⟩,⟨some 9,.op (.loadN 3 (.tmp 8)),none⟩,⟨some 10,.call (.const (.func 57 [] [])) [(.tmp 5),(.tmp 9)],none⟩])
 (.seq (.region [⟨some 11,.op (.mov (.tmp 0)),none⟩,⟨some 12,.op (.fieldAddr 2 (.tmp 3)),none⟩,⟨some 13,.op (.load1 (.tmp 12)),none⟩,⟨some 14,.op (.indexAddr 3 (.tmp 13) (.const (.int .i64 1))),none⟩,⟨some 15,.op (.loadN 3 (.tmp 14)),none⟩,⟨some 16,.call (.const (.func 57 [] [])) [(.tmp 11),(.tmp 15)],none⟩,⟨some 4,.op (.mov (.tmp 16)),none⟩])
 (.ret)))
def fn53 : AFun:=⟨17,[.tmp 4],b53⟩

def b54 : AC :=
  .seq (.region [⟨some 3,.op (.box 51 (.tmp 1)),none⟩,⟨some 4,.op (.mov (.const (.int .i64 0))),none⟩])
  (.seq (.seq (.region [⟨some 5,.op (.mov (.tmp 0)),none⟩,⟨some 6,.op (.fieldAddr 2 (.tmp 3)),none⟩,⟨some 7,.op (.load1 (.tmp 6)),none⟩,⟨some 8,.op (.indexAddr 3 (.tmp 7) (.const (.int .i64 0))),none⟩,⟨some 9,.op (.loadN 3 (.tmp 8)),none⟩,⟨some 10,.call (.const (.func 57 [] [])) [(.tmp 5),(.tmp 9)],none⟩,⟨some 11,.op (.bin .lss 9 (.tmp 10) (.const (.int .i64 0))),none⟩])
  (.cond (.tmp 11)
   (.seq (.region [⟨some 12,.op (.mov (.tmp 0)),none⟩,⟨some 13,.op (.fieldAddr 2 (.tmp 3)),none⟩,⟨some 14,.op (.load1 (.tmp 13)),none⟩,⟨some 15,.op (.indexAddr 3 (.tmp 14) (.const (.int .i64 1))),none⟩,⟨some 16,.op (.loadN 3 (.tmp 15)),none⟩,⟨some 17,.call (.const (.func 57 [] [])) [(.tmp 12),(.tmp 16)],none⟩,⟨some 4,.op (.mov (.tmp 17)),none⟩])
   (.ret))
   (.skip)))
  (.seq (.region [⟨some 18,.op (.mov (.tmp 0)),none⟩,⟨some 19,.op (.fieldAddr 2 (.tmp 3)),none⟩,⟨some 20,.op (.load1 (.tmp 19)),none⟩,⟨some 21,.op (.indexAddr 3 (.tmp 20) (.const (.int .i64 2))),none⟩,⟨some 22,.op (.loadN 3 (.tmp 21)),none⟩,⟨some 23,.call (.const (.func 57 [] [])) [(.tmp 18),(.tmp 22)],none⟩,⟨some 4,.op (.mov (.tmp 23)),none⟩])
  (.ret)))
def fn54 : AFun:=⟨24,[.tmp 4],b54⟩

def b55 : AC :=
  .seq (.region [⟨some 3,.op (.box 51 (.tmp 1)),none⟩,⟨some 4,.op (.mov (.const (.int .i64 0))),none⟩])
  (.seq (.region [⟨some 5,.op (.mov (.const (.int .i64 0))),none⟩])
  (.seq (.seq (.region [⟨some 7,.op (.fieldAddr 1 (.tmp 3)),none⟩,⟨some 8,.op (.load1 (.tmp 7)),none⟩,⟨some 9,.op (.mov (.const (.int .i64 0))),none⟩])
  (.block 0 (.loop (.seq (.region [⟨some 10,.op (.bin .lss 9 (.tmp 9) (.tmp 8)),none⟩])
    (.seq (.cond (.tmp 10)
     (.skip)
     (.exit 0))
    (.seq (.block 1 (.seq (.region [⟨some 11,.op (.mov (.tmp 9)),none⟩,⟨some 6,.op (.mov (.tmp 11)),none⟩])
     (.region [⟨some 12,.op (.mov (.tmp 5)),none⟩,⟨some 13,.op (.mov (.tmp 0)),none⟩,⟨some 14,.op (.mov (.tmp 6)),none⟩,⟨some 15,.op (.bin .add 9 (.tmp 14) (.const (.int .i64 1))),none⟩,⟨some 16,.op (.fieldAddr 2 (.tmp 3)),none⟩,⟨some 17,.op (.load1 (.tmp 16)),none⟩,⟨some 18,.op (.indexAddr 3 (.tmp 17) (.const (.int .i64 0))),none⟩,⟨some 19,.op (.loadN 3 (.tmp 18)),none⟩,⟨some 20,.call (.const (.func 89 [] [])) [(.tmp 13),(.tmp 15),(.tmp 19)],none⟩,⟨some 21,.op (.bin .add 9 (.tmp 12) (.tmp 20)),none⟩,⟨some 22,.call (.const (.func 88 [] [])) [(.tmp 21)],none⟩,⟨some 5,.op (.mov (.tmp 22)),none⟩])))
    (.region [⟨some 23,.op (.bin .add 9 (.tmp 9) (.const (.int .i64 1))),none⟩,⟨some 9,.op (.mov (.tmp 23)),none⟩])))))))
  (.seq (.region [⟨some 24,.op (.mov (.tmp 5)),none⟩,⟨some 4,.op (.mov (.tmp 24)),none⟩])
  (.ret))))
def fn55 : AFun:=⟨25,[.tmp 4],b55⟩

def b56 : AC :=
  .seq (.region [⟨some 5,.recover,none⟩,⟨some 2,.op (.mov (.tmp 5)),none⟩])
  (.seq (.region [⟨some 6,.op (.mov (.tmp 2)),none⟩,⟨some 7,.op (.bin .neq 5 (.tmp 6) (.const (.nilIface))),none⟩])
  (.cond (.tmp 7)
   (.seq (.region [⟨some 9,.op (.mov (.tmp 2)),none⟩,⟨some 10,.op (.typeAssert 99 (.agg [.int .i64 0]) (.tmp 9) true),none⟩,⟨some 8,.op (.mov (.tmp 10)),none⟩,⟨some 11,.op (.extract (.tmp 8) 0),none⟩,⟨some 12,.op (.extract (.tmp 8) 1),none⟩,⟨some 3,.op (.alloc 199 [.int .i64 0]),none⟩,⟨none,.op (.store 1 (.tmp 3) (.tmp 11)),none⟩,⟨some 4,.op (.mov (.tmp 12)),none⟩])
   (.seq (.seq (.region [⟨some 13,.op (.mov (.tmp 4)),none⟩,⟨some 14,.op (.un .not (.tmp 13)),none⟩])
   (.cond (.tmp 14)
    (.region [⟨some 15,.op (.mov (.tmp 2)),none⟩,⟨none,.panic (.tmp 15),none⟩])
    (.skip)))
   (.region [⟨some 16,.op (.fieldAddr 0 (.tmp 3)),none⟩,⟨some 17,.op (.load1 (.tmp 16)),none⟩,⟨none,.op (.store 1 (.tmp 0) (.tmp 17)),none⟩,⟨none,.op (.store 1 (.tmp 1) (.const (.bool true))),none⟩])))
   (.skip)))
def fn56 : AFun:=⟨18,[],b56⟩

def b57 : AC :=
  .seq (.region [⟨some 3,.op (.box 51 (.tmp 1)),none⟩,⟨some 4,.op (.mov (.const (.int .i64 0))),none⟩])
  (.seq (.seq (.draw [⟨[⟨some 8,.op (.mov (.tmp 0)),none⟩,⟨some 9,.op (.nilCheck (.tmp 8)),none⟩,⟨some 10,.op (.fieldAddr 7 (.tmp 9)),none⟩,⟨some 11,.op (.load1 (.tmp 10)),none⟩,⟨some 12,.op (.fieldAddr 0 (.tmp 3)),none⟩,⟨some 13,.op (.load1 (.tmp 12)),none⟩,⟨some 14,.op (.lookup 0 (.nilFunc) (.tmp 11) (.tmp 13) true),none⟩,⟨some 7,.op (.mov (.tmp 14)),none⟩,⟨some 15,.op (.extract (.tmp 7) 0),none⟩,⟨some 16,.op (.extract (.tmp 7) 1),none⟩,⟨some 5,.op (.mov (.tmp 15)),none⟩,⟨some 6,.op (.mov (.tmp 16)),none⟩],none,[],[]⟩] [])
  (.seq (.region [⟨some 17,.op (.mov (.tmp 6)),none⟩])
  (.cond (.tmp 17)
   (.seq (.region [⟨some 18,.op (.mov (.tmp 5)),none⟩,⟨some 19,.op (.loadN 3 (.tmp 3)),none⟩,⟨some 20,.call (.tmp 18) [(.tmp 19)],none⟩,⟨some 4,.op (.mov (.tmp 20)),none⟩])
   (.ret))
   (.skip))))
  (.seq (.seq (.region [⟨some 21,.op (.fieldAddr 0 (.tmp 3)),none⟩,⟨some 22,.op (.load1 (.tmp 21)),none⟩])
  (.block 0 (.seq (.region [⟨some 24,.op (.bin .eql 9 (.tmp 22) (.const (.int .i64 1))),none⟩,⟨some 23,.op (.mov (.tmp 24)),none⟩])
   (.cond (.tmp 23)
    (.seq (.region [⟨some 25,.op (.mov (.tmp 0)),none⟩,⟨some 26,.op (.nilCheck (.tmp 25)),none⟩,⟨some 27,.op (.fieldAddr 0 (.tmp 26)),none⟩,⟨some 28,.op (.fieldAddr 0 (.tmp 27)),none⟩,⟨some 29,.op (.load1 (.tmp 28)),none⟩,⟨some 4,.op (.mov (.tmp 29)),none⟩])
    (.ret))
    (.seq (.region [⟨some 31,.op (.bin .eql 9 (.tmp 22) (.const (.int .i64 3))),none⟩,⟨some 30,.op (.mov (.tmp 31)),none⟩])
    (.cond (.tmp 30)
     (.seq (.region [⟨some 32,.op (.mov (.tmp 0)),none⟩,⟨some 33,.op (.nilCheck (.tmp 32)),none⟩,⟨some 34,.op (.fieldAddr 0 (.tmp 33)),none⟩,⟨some 35,.op (.fieldAddr 1 (.tmp 34)),none⟩,⟨some 36,.op (.load1 (.tmp 35)),none⟩,⟨some 4,.op (.mov (.tmp 36)),none⟩])
     (.ret))
     (.skip)))))))
  (.seq (.region [⟨some 37,.op (.fieldAddr 1 (.tmp 3)),none⟩,⟨some 38,.op (.load1 (.tmp 37)),none⟩,⟨some 4,.op (.mov (.tmp 38)),none⟩])
  (.ret))))
def fn57 : AFun:=⟨39,[.tmp 4],b57⟩

def b59 : AC :=
 .seq (.region [⟨some 1,.op (.box 137 (.tmp 0)),none⟩,⟨some 2,.op (.mov (.const (.nilFunc))),none⟩])
 (.seq (.region [⟨some 3,.op (.makeFunc 91 [] [(.tmp 1)]),none⟩,⟨some 2,.op (.mov (.tmp 3)),none⟩])
 (.ret))
def fn59 : AFun:=⟨4,[.tmp 2],b59⟩

def b86 : AC :=
  .seq (.region [⟨some 3,.op (.box 51 (.tmp 0)),none⟩])
  (.seq (.region [⟨some 6,.op (.load1 (.tmp 1)),none⟩,⟨some 7,.op (.bin .sub 9 (.tmp 6) (.const (.int .i64 1))),none⟩,⟨none,.op (.store 1 (.tmp 1) (.tmp 7)),none⟩])
  (.seq (.region [⟨some 8,.op (.fieldAddr 2 (.tmp 3)),none⟩,⟨some 9,.op (.load1 (.tmp 8)),none⟩,⟨some 10,.op (.len 1 (.tmp 9)),none⟩,⟨some 11,.op (.mov (.const (.int .i64 0))),none⟩])
  (.block 0 (.loop (.seq (.region [⟨some 12,.op (.bin .lss 9 (.tmp 11) (.tmp 10)),none⟩])
    (.seq (.cond (.tmp 12)
     (.skip)
     (.exit 0))
    (.seq (.block 1 (.seq (.region [⟨some 13,.op (.indexAddr 3 (.tmp 9) (.tmp 11)),none⟩,⟨some 14,.op (.loadN 3 (.tmp 13)),none⟩,⟨some 5,.op (.alloc 51 [.int .i64 0,.int .i64 0,.nilslice]),none⟩,⟨none,.op (.store 3 (.tmp 5) (.tmp 14)),none⟩])
     (.seq (.region [⟨some 15,.op (.load1 (.tmp 1)),none⟩,⟨some 16,.op (.bin .geq 9 (.tmp 15) (.const (.int .i64 0))),none⟩])
     (.cond (.tmp 16)
      (.region [⟨some 17,.op (.load1 (.tmp 2)),none⟩,⟨some 18,.op (.loadN 3 (.tmp 5)),none⟩,⟨some 19,.call (.tmp 17) [(.tmp 18)],none⟩])
      (.skip)))))
    (.region [⟨some 20,.op (.bin .add 9 (.tmp 11) (.const (.int .i64 1))),none⟩,⟨some 11,.op (.mov (.tmp 20)),none⟩]))))))))
def fn86 : AFun:=⟨21,[],b86⟩

def b87 : AC :=
 .seq (.region [⟨some 0,.op (.alloc 295 [.int .i64 0,.int .i64 0,.int .i64 0,.int .i64 0,.int .i64 0,.int .i64 0,.int .i64 0,.int .i64 0,.int .i64 0,.int .i64 0,.int .i64 0,.int .i64 0,.int .i64 0,.int .i64 0,.int .i64 0,.int .i64 0,.int .i64 0,.int .i64 0,.int .i64 0,.int .i64 0,.int .i64 0,.int .i64 0,.int .i64 0,.int .i64 0,.int .i64 0,.int .i64 0,.int .i64 0,.int .i64 0,.int .i64 0,.int .i64 0,.int .i64 0,.int .i64 0,.int .i64 0,.int .i64 0,.int .i64 0,.int .i64 0,.int .i64 0,.int .i64 0,.int .i64 0]),none⟩])
 (.seq (.region [⟨some 1,.op (.build [.int .i64 0,.int .i64 0,.int .i64 0] [(0,1,(.const (.int .i64 0))),(1,1,(.const (.int .i64 999))),(2,1,(.const (.int .i64 999)))]),none⟩,⟨some 2,.op (.build [.int .i64 0,.int .i64 0,.int .i64 0] []),none⟩,⟨some 3,.op (.build [.int .i64 0,.int .i64 0,.int .i64 0] [(0,1,(.const (.int .i64 1)))]),none⟩,⟨some 4,.op (.build [.int .i64 0,.int .i64 0,.int .i64 0] []),none⟩,⟨some 5,.op (.build [.int .i64 0,.int .i64 0,.int .i64 0] [(0,1,(.const (.int .i64 1)))]),none⟩,⟨some 6,.op (.build [.int .i64 0,.int .i64 0,.int .i64 0] [(0,1,(.const (.int .i64 1)))]),none⟩,⟨some 7,.op (.build [.int .i64 0,.int .i64 0,.int .i64 0] [(0,1,(.const (.int .i64 2)))]),none⟩,⟨some 8,.op (.build [.int .i64 0,.int .i64 0,.int .i64 0] [(0,1,(.const (.int .i64 2)))]),none⟩,⟨some 9,.op (.build [.int .i64 0,.int .i64 0,.int .i64 0] [(0,1,(.const (.int .i64 2)))]),none⟩,⟨some 10,.op (.build [.int .i64 0,.int .i64 0,.int .i64 0] [(0,1,(.const (.int .i64 2)))]),none⟩,⟨some 11,.op (.build [.int .i64 0,.int .i64 0,.int .i64 0] [(0,1,(.const (.int .i64 2)))]),none⟩,⟨some 12,.op (.build [.int .i64 0,.int .i64 0,.int .i64 0] [(0,1,(.const (.int .i64 3)))]),none⟩,⟨some 13,.op (.build [.int .i64 0,.int .i64 0,.int .i64 0] [(0,1,(.const (.int .i64 1))),(1,1,(.const (.int .i64 0))),(2,1,(.const (.int .i64 4)))]),none⟩,⟨some 14,.op (.build [.int .i64 0,.int .i64 0,.int .i64 0,.int .i64 0,.int .i64 0,.int .i64 0,.int .i64 0,.int .i64 0,.int .i64 0,.int .i64 0,.int .i64 0,.int .i64 0,.int .i64 0,.int .i64 0,.int .i64 0,.int .i64 0,.int .i64 0,.int .i64 0,.int .i64 0,.int .i64 0,.int .i64 0,.int .i64 0,.int .i64 0,.int .i64 0,.int .i64 0,.int .i64 0,.int .i64 0,.int .i64 0,.int .i64 0,.int .i64 0,.int .i64 0,.int .i64 0,.int .i64 0,.int .i64 0,.int .i64 0,.int .i64 0,.int .i64 0,.int .i64 0,.int .i64 0] [(0,3,(.tmp 1)),(3,3,(.tmp 2)),(6,3,(.tmp 3)),(9,3,(.tmp 4)),(12,3,(.tmp 5)),(15,3,(.tmp 6)),(18,3,(.tmp 7)),(21,3,(.tmp 8)),(24,3,(.tmp 9)),(27,3,(.tmp 10)),(30,3,(.tmp 11)),(33,3,(.tmp 12)),(36,3,(.tmp 13))]),none⟩,⟨none,.op (.store 39 (.tmp 0) (.tmp 14)),none⟩])
 (.ret))
def fn87 : AFun:=⟨15,[.cell 0 true 39],b87⟩

def b88 : AC :=
  .seq (.region [⟨some 2,.op (.mov (.const (.int .i64 0))),none⟩])
  (.seq (.region [⟨some 3,.op (.mov (.tmp 0)),none⟩,⟨some 4,.op (.bin .rem 9 (.tmp 3) (.const (.int .i64 1999999999))),none⟩,⟨some 0,.op (.mov (.tmp 4)),none⟩])
  (.seq (.seq (.region [⟨some 5,.op (.mov (.tmp 0)),none⟩,⟨some 6,.op (.bin .lss 9 (.tmp 5) (.const (.int .i64 (-999999999)))),none⟩])
  (.cond (.tmp 6)
   (.seq (.region [⟨some 7,.op (.mov (.tmp 0)),none⟩,⟨some 8,.op (.bin .add 9 (.tmp 7) (.const (.int .i64 1999999999))),none⟩,⟨some 2,.op (.mov (.tmp 8)),none⟩])
   (.ret))
   (.skip)))
  (.seq (.seq (.region [⟨some 9,.op (.mov (.tmp 0)),none⟩,⟨some 10,.op (.bin .gtr 9 (.tmp 9) (.const (.int .i64 999999999))),none⟩])
  (.cond (.tmp 10)
   (.seq (.region [⟨some 11,.op (.mov (.tmp 0)),none⟩,⟨some 12,.op (.bin .sub 9 (.tmp 11) (.const (.int .i64 1999999999))),none⟩,⟨some 2,.op (.mov (.tmp 12)),none⟩])
   (.ret))
   (.skip)))
  (.seq (.region [⟨some 13,.op (.mov (.tmp 0)),none⟩,⟨some 2,.op (.mov (.tmp 13)),none⟩])
  (.ret)))))
def fn88 : AFun:=⟨14,[.tmp 2],b88⟩

def b89 : AC :=
 .seq (.region [⟨some 3,.op (.box 137 (.tmp 0)),none⟩,⟨some 5,.op (.box 51 (.tmp 2)),none⟩,⟨some 6,.op (.mov (.const (.int .i64 0))),none⟩])
 (.seq (.region [⟨some 8,.op (.load1 (.tmp 3)),none⟩,⟨some 9,.op (.nilCheck (.tmp 8)),none⟩,⟨some 10,.op (.fieldAddr 0 (.tmp 9)),none⟩,⟨some 11,.op (.fieldAddr 1 (.tmp 10)),none⟩,⟨some 12,.op (.load1 (.tmp 11)),none⟩,⟨some 7,.op (.alloc 7 [.int .i64 0]),none⟩,⟨none,.op (.store 1 (.tmp 7) (.tmp 12)),none⟩])
 (.seq (.region [⟨some 13,.op (.makeFunc 147 [] [(.tmp 7),(.tmp 3)]),none⟩,⟨none,.defer (.tmp 13) [],none⟩])
 (.seq (.region [⟨some 14,.op (.load1 (.tmp 3)),none⟩,⟨some 15,.op (.mov (.tmp 1)),none⟩,⟨some 16,.op (.nilCheck (.tmp 14)),none⟩,⟨some 17,.op (.fieldAddr 0 (.tmp 16)),none⟩,⟨some 18,.op (.fieldAddr 1 (.tmp 17)),none⟩,⟨none,.op (.store 1 (.tmp 18) (.tmp 15)),none⟩])
 (.seq (.region [⟨some 19,.op (.load1 (.tmp 3)),none⟩,⟨some 20,.op (.loadN 3 (.tmp 5)),none⟩,⟨some 21,.call (.const (.func 57 [] [])) [(.tmp 19),(.tmp 20)],none⟩,⟨some 6,.op (.mov (.tmp 21)),none⟩])
 (.ret)))))
def fn89 : AFun:=⟨22,[.tmp 6],b89⟩

def b91 : AC :=
  .seq (.region [⟨some 5,.op (.load1 (.tmp 1)),none⟩,⟨some 6,.op (.nilCheck (.tmp 5)),none⟩,⟨some 7,.op (.fieldAddr 6 (.tmp 6)),none⟩,⟨some 8,.op (.load1 (.tmp 7)),none⟩,⟨some 9,.op (.len 1 (.tmp 8)),none⟩,⟨some 10,.op (.mov (.const (.int .i64 0))),none⟩])
  (.block 0 (.loop (.seq (.region [⟨some 11,.op (.bin .lss 9 (.tmp 10) (.tmp 9)),none⟩])
    (.seq (.cond (.tmp 11)
     (.skip)
     (.exit 0))
    (.seq (.block 1 (.seq (.region [⟨some 12,.op (.indexAddr 1 (.tmp 8) (.tmp 10)),none⟩,⟨some 13,.op (.load1 (.tmp 12)),none⟩,⟨some 4,.op (.mov (.tmp 13)),none⟩])
     (.seq (.region [⟨some 14,.op (.mov (.tmp 0)),none⟩,⟨some 15,.op (.mov (.tmp 4)),none⟩,⟨some 16,.call (.tmp 14) [(.tmp 15)],none⟩,⟨some 17,.op (.un .not (.tmp 16)),none⟩])
     (.cond (.tmp 17)
      (.ret)
      (.skip)))))
    (.region [⟨some 18,.op (.bin .add 9 (.tmp 10) (.const (.int .i64 1))),none⟩,⟨some 10,.op (.mov (.tmp 18)),none⟩]))))))
def fn91 : AFun:=⟨19,[],b91⟩

def b147 : AC :=
 .region [⟨some 2,.op (.load1 (.tmp 1)),none⟩,⟨some 3,.op (.load1 (.tmp 0)),none⟩,⟨some 4,.op (.nilCheck (.tmp 2)),none⟩,⟨some 5,.op (.fieldAddr 0 (.tmp 4)),none⟩,⟨some 6,.op (.fieldAddr 1 (.tmp 5)),none⟩,⟨none,.op (.store 1 (.tmp 6) (.tmp 3)),none⟩]
def fn147 : AFun:=⟨7,[],b147⟩
abbrev i_put : FuncId:=46
abbrev QiL : AFun:=fn46
abbrev Qf8 : FuncId:=47
abbrev QfE : AFun:=fn47
abbrev Qdo : FuncId:=48
abbrev Qd2 : AFun:=fn48
abbrev i_try : FuncId:=49
abbrev QiK : AFun:=fn49
abbrev Qf9 : FuncId:=50
abbrev QfF : AFun:=fn50
abbrev Qdp : FuncId:=51
abbrev Qd3 : AFun:=fn51
abbrev i_add : FuncId:=52
abbrev QiN : AFun:=fn52
abbrev Qfc : FuncId:=53
abbrev QfC : AFun:=fn53
abbrev i_iff : FuncId:=54
abbrev QiM : AFun:=fn54
abbrev Qfd : FuncId:=55
abbrev fn_each : AFun:=fn55
abbrev QaT : FuncId:=57
abbrev Qd5 : AFun:=fn57
abbrev Qeg : FuncId:=89
abbrev QfB : AFun:=fn89
abbrev Qq8 : FuncId:=147
abbrev Qd1 : AFun:=fn147
abbrev QbK : FuncId:=26
abbrev fn_caught : AFun:=fn26
abbrev QiC : FuncId:=56
abbrev QbR : AFun:=fn56
abbrev QfA : FuncId:=16
abbrev Qd8 : AFun:=fn16
abbrev QnC : FuncId:=25
abbrev QeX : AFun:=fn25
abbrev QdF : FuncId:=88
abbrev Qdq : AFun:=fn88
abbrev QnE : FuncId:=23
abbrev QeY : AFun:=fn23
abbrev Qlo : FuncId:=43
abbrev Qd4 : AFun:=fn43
abbrev Qbn : FuncId:=86
abbrev fn_large1 : AFun:=fn86
abbrev QgN : FuncId:=44
abbrev fn_wrong : AFun:=fn44
abbrev Qko : FuncId:=45
abbrev fn_work : AFun:=fn45
abbrev QgO : FuncId:=87
abbrev QcP : AFun:=fn87
abbrev QoI : FuncId:=27
abbrev QfD : AFun:=fn27
abbrev Qb2 : FuncId:=29
abbrev fn_list : AFun:=fn29
abbrev i_all : FuncId:=59
abbrev Qkt : AFun:=fn59
abbrev Qga : FuncId:=91
abbrev fn_all1 : AFun:=fn91
abbrev QoK : FuncId:=28
abbrev QfG : AFun:=fn28
abbrev i_num : FuncId:=7
abbrev Qhc : AFun:=fn7
abbrev QnD : FuncId:=8
abbrev Qd7 : AFun:=fn8
abbrev QoJ : FuncId:=9
abbrev Qey : AFun:=fn9
abbrev QoL : FuncId:=10
abbrev Qez : AFun:=fn10
abbrev QiB : FuncId:=11
abbrev Qd6 : AFun:=fn11
abbrev Qdi : FuncId:=14
abbrev QcA : AFun:=fn14
end Go.Ab.L22
namespace Go.Ab.L22
open Go Go.Ab
variable {F : FuncId → Option AFun} {M : Memo}
def wrapS (n : Int) : Int :=
 if n.tmod 1999999999 < -999999999 then IntKind.i64.wrap (n.tmod 1999999999 + 1999999999) else if n.tmod 1999999999 > 999999999 then IntKind.i64.wrap (n.tmod 1999999999 - 1999999999) else n.tmod 1999999999
theorem Qhn (hF : F QdF = some Qdq) (n : Int) (h : AH) : Ctr F M QdF [.int .i64 n] h (fun v h'=>v = .int .i64 (wrapS n) ∧ h' = h) (fun _ _=>False):=by
 refine Ctr.intro hF fun caller cs G hk hp=>?_
 simp only [List.length_cons,List.length_nil,Nat.reduceAdd,Nat.reduceSub,rZ,rS,pN,pC]
 obtain ⟨fr',e1,e2⟩:=hk (.int .i64 (wrapS n)) h ⟨rfl,rfl⟩
 refine R_seq (Qaa (R_op rfl rfl rfl (R_nil ?_)))
 simp only [sN,s0,sS,a0,aS,aC]
 refine R_seq (Qaa (R_op rfl rfl rfl (R_op rfl rfl rfl (R_op rfl rfl rfl (R_nil ?_)))))
 simp only [sN,s0,sS,a0,aS,aC]
 refine R_seq (R_seq (Qaa (R_op rfl rfl rfl (R_op rfl rfl rfl (R_nil ?_)))))
 simp only [sN,s0,sS,a0,aS,aC]
 by_cases h1 : n.tmod 1999999999 < -999999999
 ·refine QaM (show AV.bool (decide (n.tmod 1999999999 < -999999999)) = .bool true by simp [h1]) ?_
  refine R_seq (Qaa (R_op rfl rfl rfl (R_op rfl rfl rfl (R_op rfl rfl rfl (R_nil ?_)))))
  simp only [sN,s0,sS,a0,aS,aC]
  exact R_ret ⟨rfl,rfl,rfl,rfl⟩ hF (show some (AV.int .i64 (IntKind.i64.wrap (n.tmod 1999999999 + 1999999999))) = some (.int .i64 (wrapS n)) by simp [wrapS,h1]) e1 e2
 ·refine Qaw (show AV.bool (decide (n.tmod 1999999999 < -999999999)) = .bool false by simp [h1]) (QaF ?_)
  refine R_seq (R_seq (Qaa (R_op rfl rfl rfl (R_op rfl rfl rfl (R_nil ?_)))))
  simp only [sN,s0,sS,a0,aS,aC]
  by_cases h2 : n.tmod 1999999999 > 999999999
  ·refine QaM (show AV.bool (decide (n.tmod 1999999999 > 999999999)) = .bool true by simp [h2]) ?_
   refine R_seq (Qaa (R_op rfl rfl rfl (R_op rfl rfl rfl (R_op rfl rfl rfl (R_nil ?_)))))
   simp only [sN,s0,sS,a0,aS,aC]
   exact R_ret ⟨rfl,rfl,rfl,rfl⟩ hF (show some (AV.int .i64 (IntKind.i64.wrap (n.tmod 1999999999 - 1999999999))) = some (.int .i64 (wrapS n)) by simp [wrapS,h1,h2]) e1 e2
  ·refine Qaw (show AV.bool (decide (n.tmod 1999999999 > 999999999)) = .bool false by simp [h2]) (QaF ?_)
   refine R_seq (Qaa (R_op rfl rfl rfl (R_op rfl rfl rfl (R_nil ?_))))
   simp only [sN,s0,sS,a0,aS,aC]
   exact R_ret ⟨rfl,rfl,rfl,rfl⟩ hF (show some (AV.int .i64 (n.tmod 1999999999)) = some (.int .i64 (wrapS n)) by simp [wrapS,h1,h2]) e1 e2
end Go.Ab.L22
namespace Go.Ab.L22
open Go Go.Ab
/-- Terms. -/
inductive LT where
 | mk (k n : Int) (l : List LT)

structure Sg where
 st : Int
 told : List Int
inductive Out where
 | ret (n : Int)
 | thr (n : Int)
abbrev Den : Type:=Int → Sg → Out × Sg
def bindD (r : Out × Sg) (f : Int → Sg → Out × Sg) : Out × Sg:=match r with | (.ret a,s)=>f a s | (.thr a,s)=>(.thr a,s)
def addS (a b : Int) : Int:=wrapS (IntKind.i64.wrap (a + b))
def eachD (d : Den) : Nat → Int → Int → Sg → Out × Sg
 | 0,_,sum,s=>(.ret sum,s)
 | m + 1,i,sum,s=>bindD (d (IntKind.i64.wrap (i + 1)) s) fun a s=>eachD d m (IntKind.i64.wrap (i + 1)) (addS sum a) s
def QdI (r : Out × Sg) (f : Int → Sg → Out × Sg) : Out × Sg:=match r with | (.ret a,s)=>(.ret a,s) | (.thr a,s)=>f a s
def denK (k n : Int) (ds : List Den) (env : Int) (s : Sg) : Out × Sg :=
 match k,ds with
 | 1,_=>(.ret s.st,s)
 | 2,[d]=>bindD (d env s) fun a s=>(.ret a,{ s with st:=a })
 | 3,_=>(.ret env,s)
 | 4,[d]=>bindD (d env s) fun a s=>(.ret a,{ s with told:=s.told ++ [a] })
 | 5,[d]=>bindD (d env s) fun a s=>(.thr a,s)
 | 6,[d,e]=>QdI (d env s) fun a s=>bindD (e env s) fun b s=>(.ret (addS a b),s)
 | 7,[d,e]=>QdI (d env s) fun a s'=>bindD (e env { s' with st:=s.st }) fun b s=>(.ret (addS a b),s)
 | 8,[d,e]=>bindD (d env s) fun a s=>e a s
 | 9,[d,e]=>bindD (d env s) fun a s=>bindD (e env s) fun b s=>(.ret (addS a b),s)
 | 10,[d,e]=>bindD (d env s) fun _ s=>e env s
 | 11,[d,e,f]=>bindD (d env s) fun a s=>if a < 0 then e env s else f env s
 | 12,[d]=>eachD d n.toNat 0 0 s
 | _,_=>(.ret n,s)
mutual
def den : LT → Den
 | .mk k n l=>denK k n (dens l)
def dens : List LT → List Den
 | []=>[]
 | t :: l=>den t :: dens l
end

def parts (k : Int) : Nat:=if k = 2 ∨ k = 4 ∨ k = 5 ∨ k = 12 then 1 else if k = 6 ∨ k = 7 ∨ k = 8 ∨ k = 9 ∨ k = 10 then 2 else if k = 11 then 3 else 0
mutual
def Right : LT → Prop
 | .mk k n l=>0 ≤ k ∧ k ≤ 12 ∧ l.length = parts k ∧ (k = 12 → 0 ≤ n ∧ n ≤ 4) ∧ QjD l
def QjD : List LT → Prop
 | []=>True
 | t :: l=>Right t ∧ QjD l
end

def reps (k n : Int) : Nat:=if k = 12 then n.toNat else 1
mutual

def wk : LT → Nat
 | .mk k n l=>1 + reps k n * wks l
def wks : List LT → Nat
 | []=>0
 | t :: l=>wk t + wks l
end
def LeD (d : Den) (w : Nat) : Prop:=∀ env s,(d env s).2.told.length ≤ s.told.length + w
theorem Qc8 {r : Out × Sg} {f : Int → Sg → Out × Sg} {a b : Nat} (h1 : r.2.told.length ≤ a) (h2 : ∀ n s,(f n s).2.told.length ≤ s.told.length + b) : (bindD r f).2.told.length ≤ a + b:=by
 obtain ⟨o,s⟩:=r
 cases o with
 | ret n=>have:=h2 n s; simp only at h1; show (f n s).2.told.length ≤ _; omega
 | thr n=>simp only at h1; show s.told.length ≤ _; omega
theorem Qo6 {r : Out × Sg} {f : Int → Sg → Out × Sg} {a b : Nat} (h1 : r.2.told.length ≤ a) (h2 : ∀ n s,(f n s).2.told.length ≤ s.told.length + b) : (QdI r f).2.told.length ≤ a + b:=by
 obtain ⟨o,s⟩:=r
 cases o with
 | ret n=>simp only at h1; show s.told.length ≤ _; omega
 | thr n=>have:=h2 n s; simp only at h1; show (f n s).2.told.length ≤ _; omega
theorem Qrs {d : Den} {w : Nat} (hd : LeD d w) : ∀ (m : Nat) (i sum : Int) (s : Sg),(eachD d m i sum s).2.told.length ≤ s.told.length + m * w
 | 0,i,sum,s=>by simp [eachD]
 | m + 1,i,sum,s=>by
  have h1:=hd (IntKind.i64.wrap (i + 1)) s
  have h2:=Qc8 (f:=fun a s=>eachD d m (IntKind.i64.wrap (i + 1)) (addS sum a) s) h1 (fun n s=>Qrs hd m _ _ s)
  rw [Nat.succ_mul]
  simp only [eachD]
  omega
theorem denK_le {k n : Int} {ds : List Den} {l : List LT} (hl : ds.length = l.length) (h : ∀ i (h1 : i < ds.length) (h2 : i < l.length),LeD ds[i] (wk l[i])) : LeD (denK k n ds) (1 + reps k n * wks l):=by
 intro env s
 have big : s.told.length ≤ s.told.length + (1 + reps k n * wks l):=by omega
 have one : k ≠ 12 → reps k n = 1:=fun e=>by simp [reps,e]
 match ds,l,hl,h with
 | [],[],_,_=>unfold denK; split <;> first | exact big | contradiction | simp_all
 | [d],[t],_,h =>
  have h0 : LeD d (wk t):=h 0 (by simp) (by simp)
  have e0:=h0 env s
  by_cases k2 : k = 2
  ·subst k2
   have:=Qc8 (f:=fun a s=>(.ret a,{ s with st:=a })) e0 (b:=0) (fun n s=>by simp)
   rw [one (by decide)]; simp only [denK,wks]; omega
  by_cases k4 : k = 4
  ·subst k4
   have:=Qc8 (f:=fun a s=>(.ret a,{ s with told:=s.told ++ [a] })) e0 (b:=1) (fun n s=>by simp)
   rw [one (by decide)]; simp only [denK,wks]; omega
  by_cases k5 : k = 5
  ·subst k5
   have:=Qc8 (f:=fun a s=>(.thr a,s)) e0 (b:=0) (fun n s=>by simp)
   rw [one (by decide)]; simp only [denK,wks]; omega
  by_cases k12 : k = 12
  ·subst k12
   have:=Qrs h0 n.toNat 0 0 s
   simp only [denK,wks,reps,if_pos,Nat.add_zero]; omega
  ·unfold denK; split <;> first | exact big | contradiction | simp_all
 | [d,e],[t,u],_,h =>
  have h0 : LeD d (wk t):=h 0 (by simp) (by simp)
  have h1 : LeD e (wk u):=h 1 (by simp) (by simp)
  have e0:=h0 env s
  by_cases k6 : k = 6
  ·subst k6
   have:=Qo6 (f:=fun a s=>bindD (e env s) fun b s=>(.ret (addS a b),s)) e0 (b:=wk u) (fun n s=>Qc8 (h1 env s) (b:=0) (fun n s=>by simp))
   rw [one (by decide)]; simp only [denK,wks]; omega
  by_cases k7 : k = 7
  ·subst k7
   have:=Qo6 (f:=fun a s'=>bindD (e env { s' with st:=s.st }) fun b s=>(.ret (addS a b),s)) e0 (b:=wk u) (fun n s'=>Qc8 (h1 env { s' with st:=s.st }) (b:=0) (fun n s=>by simp))
   rw [one (by decide)]; simp only [denK,wks]; omega
  by_cases k8 : k = 8
  ·subst k8
   have:=Qc8 (f:=fun a s=>e a s) e0 (b:=wk u) (fun n s=>h1 n s)
   rw [one (by decide)]; simp only [denK,wks]; omega
  by_cases k9 : k = 9
  ·subst k9
   have:=Qc8 (f:=fun a s=>bindD (e env s) fun b s=>(.ret (addS a b),s)) e0 (b:=wk u) (fun n s=>Qc8 (h1 env s) (b:=0) (fun n s=>by simp))
   rw [one (by decide)]; simp only [denK,wks]; omega
  by_cases k10 : k = 10
  ·subst k10
   have:=Qc8 (f:=fun _ s=>e env s) e0 (b:=wk u) (fun n s=>h1 env s)
   rw [one (by decide)]; simp only [denK,wks]; omega
  ·unfold denK; split <;> first | exact big | contradiction | simp_all
 | [d,e,f],[t,u,v],_,h =>
  have h0 : LeD d (wk t):=h 0 (by simp) (by simp)
  have h1 : LeD e (wk u):=h 1 (by simp) (by simp)
  have h2 : LeD f (wk v):=h 2 (by simp) (by simp)
  have e0:=h0 env s
  by_cases k11 : k = 11
  ·subst k11
   have:=Qc8 (f:=fun a s=>if a < 0 then e env s else f env s) e0 (b:=wk u + wk v) (fun n s=>by
    have k1:=h1 env s
    have k2:=h2 env s
    split <;> omega)
   rw [one (by decide)]; simp only [denK,wks]; omega
  ·unfold denK; split <;> first | exact big | contradiction | simp_all
 | _ :: _ :: _ :: _ :: _,_ :: _ :: _ :: _ :: _,_,_=>unfold denK; split <;> first | exact big | contradiction | simp_all
mutual
theorem den_le : ∀ T : LT,LeD (den T) (wk T)
 | .mk k n l=>denK_le (Qlx l).1 (Qlx l).2
theorem Qlx : ∀ l : List LT,(dens l).length = l.length ∧ ∀ i (h1 : i < (dens l).length) (h2 : i < l.length),LeD (dens l)[i] (wk l[i])
 | []=>⟨rfl,fun i h1=>absurd h1 (by simp [dens])⟩
 | t :: l=>⟨by simp [dens,(Qlx l).1],fun i h1 h2=>by
  cases i with
  | zero=>exact den_le t
  | succ i=>exact (Qlx l).2 i (by simpa [dens] using h1) (by simpa using h2)⟩
end
theorem Qdr {T : LT} {env : Int} {s s' : Sg} {o : Out} (h : den T env s = (o,s')) : s'.told.length ≤ s.told.length + wk T:=by
 have:=den_le T env s
 rw [h] at this
 exact this

def Ql1 (N : Nat) : AV → Prop
 | .ptr b _=>b < N
 | .iptr _=>True
 | _=>False

inductive Rep (N : Nat) (h : AH) : LT → List AV → Prop
 | mk (k n : Int) (l : List LT) (lv : AV) (p : Nat → AV) (r : Nat → List AV) (hl : lenK h 1 lv = some l.length) (hp : ∀ i,i < l.length → Qew 3 lv (.int .i64 i) = some (p i) ∧ Ql1 N (p i) ∧ loadA h 3 (p i) = some (r i))
   (hr : ∀ i (hi : i < l.length),Rep N h l[i] (r i)) : Rep N h (.mk k n l) [.int .i64 k,.int .i64 n,lv]

def Low (N : Nat) (h h' : AH) : Prop:=∀ b,b < N → h'.get b = h.get b
theorem QaO {N : Nat} {h h' : AH} (hL : Low N h h') {p : AV} (hp : Ql1 N p) (n : Nat) : loadA h' n p = loadA h n p:=by
 cases p with
 | ptr b o =>
  have hb : b < N:=hp
  simp only [loadA,AH.read,AH.cellsAt,hL b hb]
 | iptr l=>rfl
 | _=>exact hp.elim
theorem QeS {h h' : AH} (v : AV) : lenK h' 1 v = lenK h 1 v:=by cases v <;> rfl
theorem Rep.low {N : Nat} {h h' : AH} (hL : Low N h h') {T : LT} {row : List AV} (H : Rep N h T row) : Rep N h' T row:=by
 induction H with
 | mk k n l lv p r hl hp hr ih =>
  exact .mk k n l lv p r (by rw [QeS (h:=h)]; exact hl) (fun i hi=>by
   obtain ⟨h1,h2,h3⟩:=hp i hi
   exact ⟨h1,h2,by rw [QaO hL h2]; exact h3⟩) ih

section
variable {h : AH} {ev : AOpd → AV}
theorem Qal {a : AOpd} {b o : Nat} {l : List AV} {sp : Option Nat} {pre : Nat} {anc : List Nat} {v : AV} (ha : ev a = .ptr b o) (hg : h.get b = some (.cells l sp pre anc)) (hv : l[o]? = some v) : exec h ev (.load1 a) = some (v,h):=by
 obtain ⟨hlt,hv'⟩:=List.getElem?_eq_some_iff.1 hv
 have : (l.drop o).take 1 = [v]:=by
  rw [List.drop_eq_getElem_cons hlt,hv']; rfl
 simp only [exec,ha,loadA,AH.read,AH.cellsAt,hg]
 rw [if_pos (show o + 1 ≤ l.length by omega),this]
theorem Qbk {a : AOpd} {n b o : Nat} {l : List AV} {sp : Option Nat} {pre : Nat} {anc : List Nat} (ha : ev a = .ptr b o) (hg : h.get b = some (.cells l sp pre anc)) (hn : o + n ≤ l.length) : exec h ev (.loadN n a) = some (.agg ((l.drop o).take n),h):=by
 simp only [exec,ha,loadA,AH.read,AH.cellsAt,hg]
 rw [if_pos hn]
 rfl
theorem Qbp {a : AOpd} {n : Nat} {p : AV} {r : List AV} (ha : ev a = p) (hp : loadA h n p = some r) : exec h ev (.loadN n a) = some (.agg r,h):=by
 simp only [exec,ha,hp]
 rfl
theorem Qbl {x i : AOpd} {n : Nat} {lv iv p : AV} (hx : ev x = lv) (hi : ev i = iv) (hp : Qew n lv iv = some p) : exec h ev (.indexAddr n x i) = some (p,h):=by
 simp only [exec,hx,hi,hp]
 rfl
theorem Qbd {a x : AOpd} {b o : Nat} {l : List AV} {sp : Option Nat} {v : AV} (ha : ev a = .ptr b o) (hx : ev x = v) (hk : v.known = true) (hc : v.cells = [v]) (ho : v.one = true) (hg : h.get b = some (.cells l sp 0 [])) (hn : o + 1 ≤ l.length) :
  exec h ev (.store 1 a x) = some (.undef,h.put b (.cells (splice l o [v]) sp 0 [])):=by
 simp only [exec,ha,hx,hc,storeA,AH.store,hg]
 rw [if_pos ⟨hk,rfl⟩,if_pos ⟨by simpa using hn,by simp [ho]⟩,if_neg (by omega)]
 rfl
end
theorem QaV (h : AH) (o : AO) : (h.alloc o).get h.next = some o:=by simp [AH.alloc]
theorem Qay (h : AH) (o : AO) {b : Nat} (hb : b < h.next) : (h.alloc o).get b = h.get b:=by
 have : b ≠ h.next:=by omega
 simp [AH.alloc,this]
theorem Qgy (h : AH) (o : AO) : (h.alloc o).next = h.next + 1:=rfl
theorem get_put (h : AH) (b : Nat) (o : AO) : (h.put b o).get b = some o:=by simp [AH.put]
theorem Qaj (h : AH) {b x : Nat} (o : AO) (hx : x ≠ b) : (h.put b o).get x = h.get x:=by simp [AH.put,hx]
theorem QeQ (h : AH) (b : Nat) (o : AO) : (h.put b o).next = h.next:=rfl
end Go.Ab.L22
namespace Go.Ab.L22
open Go Go.Ab
/-- What stays as it is while a term is evaluated. -/
structure Cx where
 N : Nat
 bm : Nat
 bd : Nat
 out : Bool
 k : AV
 n : AV
 lv : AV
def Qgi (bm : Nat) : List (AV × AV × Nat) :=
  [(.int .i64 2,.func i_put [.ptr bm 0] [],0),(.int .i64 4,.func Qf8 [.ptr bm 0] [],1),(.int .i64 5,.func Qdo [.ptr bm 0] [],2),(.int .i64 6,.func i_try [.ptr bm 0] [],3),(.int .i64 7,.func Qf9 [.ptr bm 0] [],4),
   (.int .i64 8,.func Qdp [.ptr bm 0] [],5),(.int .i64 9,.func i_add [.ptr bm 0] [],6),(.int .i64 10,.func Qfc [.ptr bm 0] [],7),(.int .i64 11,.func i_iff [.ptr bm 0] [],8),(.int .i64 12,.func Qfd [.ptr bm 0] [],9)]
def cellsM (c : Cx) (env st : Int) (tv : AV) : List AV:=[.int .i64 st,.int .i64 env,.bool c.out,c.k,c.n,c.lv,tv,.map c.bd]
def Told (c : Cx) (h : AH) (tv : AV) (l : List Int) : Prop :=
 (tv = .nilslice ∧ l = []) ∨ ∃ b pre anc,tv = .slop b 0 l.length 1 ∧ h.get b = some (.cells (l.map (.int .i64)) (some 6) pre anc) ∧ c.N ≤ b ∧ b ≠ c.bm
structure Mst (c : Cx) (env : Int) (s : Sg) (h : AH) : Prop where
 obj : ∃ tv sp,h.get c.bm = some (.cells (cellsM c env s.st tv) sp 0 []) ∧ Told c h tv s.told
 does : h.get c.bd = some (.map (Qgi c.bm) 10)
 wf : ∀ b,h.next ≤ b → h.get b = none
 lo : c.N ≤ c.bm
 lod : c.N ≤ c.bd
def sbOf : Option AV → Option Nat
 | some (AV.slop b _ _ _)=>some b
 | _=>none
def toldOf (h : AH) (bm : Nat) : Option Nat :=
 match h.get bm with
 | some (AO.cells l _ _ _)=>sbOf l[6]?
 | _=>none
structure Fr (bm : Nat) (h h' : AH) : Prop where
 next : h.next ≤ h'.next
 keep : ∀ b,b < h.next → b ≠ bm → toldOf h bm ≠ some b → h'.get b = h.get b
 told : ∀ b,toldOf h' bm = some b → toldOf h bm = some b ∨ h.next ≤ b
theorem Fr.refl (bm : Nat) (h : AH) : Fr bm h h:=⟨Nat.le_refl _,fun _ _ _ _=>rfl,fun _ h=>.inl h⟩
theorem Fr.trans {bm : Nat} {h h1 h2 : AH} (a : Fr bm h h1) (b : Fr bm h1 h2) : Fr bm h h2:=by
 refine ⟨Nat.le_trans a.next b.next,fun x hx hne ht=>?_,fun x hx=>?_⟩
 ·have h1 : toldOf h1 bm ≠ some x:=fun e=>by
   rcases a.told x e with h | h
   ·exact ht h
   ·omega
  rw [b.keep x (Nat.lt_of_lt_of_le hx a.next) hne h1,a.keep x hx hne ht]
 ·rcases b.told x hx with h | h
  ·exact a.told x h
  ·exact .inr (Nat.le_trans a.next h)
theorem Qbi {h : AH} (wf : ∀ b,h.next ≤ b → h.get b = none) {b : Nat} {o : AO} (hg : h.get b = some o) : b < h.next:=by
 rcases Nat.lt_or_ge b h.next with hl | hl
 ·exact hl
 ·rw [wf b hl] at hg; cases hg
section
variable {c : Cx} {env : Int} {s : Sg} {h h' : AH}
theorem Mst.bm_lt (m : Mst c env s h) : c.bm < h.next:=by
 obtain ⟨tv,sp,h1,_⟩:=m.obj
 exact Qbi m.wf h1
theorem Mst.toldOf_low (m : Mst c env s h) {b : Nat} (hb : toldOf h c.bm = some b) : c.N ≤ b ∧ b < h.next:=by
 obtain ⟨tv,sp,h1,h2⟩:=m.obj
 unfold toldOf at hb
 rw [h1] at hb
 have hb' : sbOf (some tv) = some b:=hb
 rcases h2 with ⟨rfl,_⟩ | ⟨b',pre,anc,rfl,h3,h4,h5⟩
 ·cases hb'
 ·cases hb'
  exact ⟨h4,Qbi m.wf h3⟩
theorem Mst.low (m : Mst c env s h) (f : Fr c.bm h h') : Low c.N h h':=fun b hb =>
 f.keep b (by have:=m.bm_lt; have:=m.lo; omega) (by have:=m.lo; omega) fun e=>by have:=(m.toldOf_low e).1; omega
theorem QgU (hb : h.get c.bm = h'.get c.bm) : toldOf h c.bm = toldOf h' c.bm:=by unfold toldOf; rw [hb]
theorem Fr.alloc (m : Mst c env s h) (o : AO) : Fr c.bm h (h.alloc o):=by
 refine ⟨Nat.le_succ _,fun b hb _ _=>Qay h o hb,fun b hb=>.inl ?_⟩
 rw [QgU (h':=h) (Qay h o m.bm_lt)] at hb
 exact hb
theorem Mst.alloc (m : Mst c env s h) (o : AO) : Mst c env s (h.alloc o):=by
 obtain ⟨tv,sp,h1,h2⟩:=m.obj
 refine ⟨⟨tv,sp,by rw [Qay h o m.bm_lt]; exact h1,?_⟩,by rw [Qay h o (Qbi m.wf m.does)]; exact m.does,fun b hb=>?_,m.lo,m.lod⟩
 ·rcases h2 with h2 | ⟨b,pre,anc,e,h3,h4,h5⟩
  ·exact .inl h2
  ·exact .inr ⟨b,pre,anc,e,by rw [Qay h o (Qbi m.wf h3)]; exact h3,h4,h5⟩
 ·have hb' : h.next + 1 ≤ b:=hb
  have hne : b ≠ h.next:=by omega
  show (if b = h.next then some o else h.get b) = none
  rw [if_neg hne]
  exact m.wf b (by omega)
end

def PostR (c : Cx) (env : Int) (r : Out × Sg) (h : AH) (v : AV) (h' : AH) : Prop:=∃ n s',r = (.ret n,s') ∧ v = .int .i64 n ∧ Mst c env s' h' ∧ Fr c.bm h h'
def PostP (c : Cx) (env : Int) (r : Out × Sg) (h : AH) (p : AV) (h' : AH) : Prop:=∃ n s',r = (.thr n,s') ∧ p = .iface 99 (.agg [.int .i64 n]) ∧ Mst c env s' h' ∧ Fr c.bm h h'
def EvalC (F : FuncId → Option AFun) (M : Memo) (f : FuncId) (T : LT) : Prop :=
 ∀ (c : Cx) (env : Int) (s : Sg) (h : AH) (row : List AV),Mst c env s h → Rep c.N h T row → s.told.length + wk T < 100000000000 → Ctr F M f [.ptr c.bm 0,.agg row] h (PostR c env (den T env s) h) (PostP c env (den T env s) h)
section
variable {F : FuncId → Option AFun} {M : Memo}

theorem Mst.setSt {c : Cx} {env : Int} {s : Sg} {h : AH} (m : Mst c env s h) (a : Int) : ∃ l sp,h.get c.bm = some (.cells l sp 0 []) ∧ l.length = 8 ∧ Mst c env { s with st:=a } (h.put c.bm (.cells (splice l 0 [.int .i64 a]) sp 0 [])) ∧ Fr c.bm h (h.put c.bm (.cells (splice l 0 [.int .i64 a]) sp 0 [])):=by
 obtain ⟨tv,sp,h1,h2⟩:=m.obj
 refine ⟨_,sp,h1,rfl,⟨⟨tv,sp,get_put _ _ _,?_⟩,?_,fun b hb=>?_,m.lo,m.lod⟩,⟨Nat.le_refl _,fun b _ hne _=>Qaj _ _ hne,fun b hb=>.inl ?_⟩⟩
 ·rcases h2 with h2 | ⟨b,pre,anc,e,h3,h4,h5⟩
  ·exact .inl h2
  ·exact .inr ⟨b,pre,anc,e,by rw [Qaj _ _ h5]; exact h3,h4,h5⟩
 ·rw [Qaj _ _ (fun e=>by have:=m.does; rw [e,h1] at this; cases this)]; exact m.does
 ·have hne : b ≠ c.bm:=by have:=m.bm_lt; have hb' : h.next ≤ b:=hb; omega
  rw [Qaj _ _ hne]
  exact m.wf b hb
 ·unfold toldOf at hb ⊢
  rw [get_put] at hb
  rw [h1]
  exact hb
theorem put_ctr (hF : F i_put = some QiL) (hM : ∀ as,M QaT as = none) {n : Int} {T0 : LT} (ih : EvalC F M QaT T0) : EvalC F M i_put (.mk 2 n [T0]):=by
 intro c env s h row m hrep hb
 refine Ctr.intro hF fun caller cs G hk hp=>?_
 simp only [QiL,fn46,List.length_cons,List.length_nil,Nat.reduceAdd,Nat.reduceSub,rZ,rS,pN,pC]
 cases hrep with
 | mk _ _ _ lv p r hl hpp hr =>
 simp [wk,wks,reps] at hb
 obtain ⟨q1,q2,q3⟩:=hpp 0 (by simp)
 have hr0 : Rep c.N h T0 (r 0):=hr 0 (by simp)
 refine R_seq (Qaa (R_op rfl rfl rfl (R_op rfl rfl rfl (R_nil ?_))))
 simp only [sN,s0,sS,a0,aS,aC]
 have m1:=m.alloc (.cells [.int .i64 2,.int .i64 n,lv] (some 51) 0 [])
 have f1:=Fr.alloc m (.cells [.int .i64 2,.int .i64 n,lv] (some 51) 0 [])
 have g1:=QaV h (.cells [.int .i64 2,.int .i64 n,lv] (some 51) 0 [])
 have L1:=m.low f1
 change Reach F M (Ctx.at _ _ _ (h.alloc (.cells [.int .i64 2,.int .i64 n,lv] (some 51) 0 []))) G
 generalize h.alloc (.cells [.int .i64 2,.int .i64 n,lv] (some 51) 0 []) = h1 at m1 f1 g1 L1 ⊢
 rw [← QaO L1 q2] at q3
 refine R_seq (Qaa (R_op rfl rfl rfl (R_op rfl rfl rfl (R_op rfl rfl (Qal rfl g1 rfl) (R_op rfl rfl (Qbl rfl rfl q1) (R_op rfl rfl (Qbp rfl q3) (Qau rfl rfl rfl (hM _) (ih c env s h1 (r 0) m1 (hr0.low L1) (by omega)) ?_ ?_)))))))
 ·rintro v h2 ⟨a,s',hd,rfl,m2,f2⟩
  refine R_op rfl rfl rfl (R_nil ?_)
  simp only [sN,s0,sS,a0,aS,aC]
  obtain ⟨l,sp,g3,hlen,m3,f3⟩:=m2.setSt a
  refine R_seq (Qaa (R_op rfl rfl rfl (R_op rfl rfl rfl (R_op rfl rfl rfl (R_op rfl rfl rfl (R_op rfl rfl rfl (R_op rfl rfl (Qbd rfl rfl rfl rfl rfl g3 (by omega)) (R_nil ?_))))))))
  simp only [sN,s0,sS,a0,aS,aC]
  refine R_seq (Qaa (R_op rfl rfl rfl (R_op rfl rfl rfl (R_nil ?_))))
  simp only [sN,s0,sS,a0,aS,aC]
  obtain ⟨fr',e1,e2⟩:=hk (.int .i64 a) _ ⟨a,_,by show denK 2 n [den T0] env s = _; simp only [denK,hd,bindD],rfl,m3,(f1.trans f2).trans f3⟩
  exact R_ret ⟨rfl,rfl,rfl,rfl⟩ hF rfl e1 e2
 ·rintro q h2 ⟨a,s',hd,rfl,m2,f2⟩
  exact Qa3 (x:=⟨i_put,[],.normal,none,caller :: cs⟩) rfl rfl (hp _ h2 ⟨a,s',by show denK 2 n [den T0] env s = _; simp only [denK,hd,bindD],rfl,m2,f1.trans f2⟩)
end
end Go.Ab.L22
namespace Go.Ab.L22
open Go Go.Ab
section
variable {c : Cx} {env : Int} {s : Sg} {h : AH}
theorem boxed (m : Mst c env s h) (o : AO) : Mst c env s (h.alloc o) ∧ Fr c.bm h (h.alloc o) ∧ (h.alloc o).get h.next = some o ∧ Low c.N h (h.alloc o) ∧ ∀ h2,Fr c.bm (h.alloc o) h2 → h2.get h.next = some o:=by
 refine ⟨m.alloc o,Fr.alloc m o,QaV h o,m.low (Fr.alloc m o),fun h2 f=>?_⟩
 rw [f.keep h.next (by rw [Qgy]; omega) (by have:=m.bm_lt; omega) (fun e=>?_),QaV]
 rw [QgU (h':=h) (Qay h o m.bm_lt)] at e
 have:=(m.toldOf_low e).2
 omega
end
section
variable {F : FuncId → Option AFun} {M : Memo}
theorem Qqk (hF : F Qdo = some Qd2) (hM : ∀ as,M QaT as = none) {n : Int} {T0 : LT} (ih : EvalC F M QaT T0) : EvalC F M Qdo (.mk 5 n [T0]):=by
 intro c env s h row m hrep hb
 refine Ctr.intro hF fun caller cs G hk hp=>?_
 simp only [Qd2,fn48,List.length_cons,List.length_nil,Nat.reduceAdd,Nat.reduceSub,rZ,rS,pN,pC]
 cases hrep with
 | mk _ _ _ lv p r hl hpp hr =>
 simp [wk,wks,reps] at hb
 obtain ⟨q1,q2,q3⟩:=hpp 0 (by simp)
 have hr0 : Rep c.N h T0 (r 0):=hr 0 (by simp)
 refine R_seq (Qaa (R_op rfl rfl rfl (R_op rfl rfl rfl (R_nil ?_))))
 simp only [sN,s0,sS,a0,aS,aC]
 obtain ⟨m1,f1,g1,L1,K1⟩:=boxed m (.cells [.int .i64 5,.int .i64 n,lv] (some 51) 0 [])
 change Reach F M (Ctx.at _ _ _ (h.alloc (.cells [.int .i64 5,.int .i64 n,lv] (some 51) 0 []))) G
 generalize h.alloc (.cells [.int .i64 5,.int .i64 n,lv] (some 51) 0 []) = h1 at m1 f1 g1 L1 K1 ⊢
 rw [← QaO L1 q2] at q3
 refine R_seq (Qaa (R_op rfl rfl rfl (R_op rfl rfl rfl (R_op rfl rfl (Qal rfl g1 rfl) (R_op rfl rfl (Qbl rfl rfl q1) (R_op rfl rfl (Qbp rfl q3) (Qau rfl rfl rfl (hM _) (ih c env s h1 (r 0) m1 (hr0.low L1) (by omega)) ?_ ?_)))))))
 ·rintro v h2 ⟨a,s',hd,rfl,m2,f2⟩
  refine R_op rfl rfl rfl (R_nil ?_)
  simp only [sN,s0,sS,a0,aS,aC]
  refine Qaa (R_op rfl rfl rfl (R_op rfl rfl rfl (R_op rfl rfl rfl (R_panic rfl rfl rfl ?_))))
  exact Qa3 (x:=⟨Qdo,[],.normal,none,caller :: cs⟩) rfl rfl (hp _ h2 ⟨a,s',by show denK 5 n [den T0] env s = _; simp only [denK,hd,bindD],rfl,m2,f1.trans f2⟩)
 ·rintro q h2 ⟨a,s',hd,rfl,m2,f2⟩
  exact Qa3 (x:=⟨Qdo,[],.normal,none,caller :: cs⟩) rfl rfl (hp _ h2 ⟨a,s',by show denK 5 n [den T0] env s = _; simp only [denK,hd,bindD],rfl,m2,f1.trans f2⟩)
theorem then_ctr (hF : F Qfc = some QfC) (hM : ∀ as,M QaT as = none) {n : Int} {T0 T1 : LT} (ih0 : EvalC F M QaT T0) (ih1 : EvalC F M QaT T1) : EvalC F M Qfc (.mk 10 n [T0,T1]):=by
 intro c env s h row m hrep hb
 refine Ctr.intro hF fun caller cs G hk hp=>?_
 simp only [QfC,fn53,List.length_cons,List.length_nil,Nat.reduceAdd,Nat.reduceSub,rZ,rS,pN,pC]
 cases hrep with
 | mk _ _ _ lv p r hl hpp hr =>
 simp [wk,wks,reps] at hb
 obtain ⟨q1,q2,q3⟩:=hpp 0 (by simp)
 obtain ⟨u1,u2,u3⟩:=hpp 1 (by simp)
 have hr0 : Rep c.N h T0 (r 0):=hr 0 (by simp)
 have hr1 : Rep c.N h T1 (r 1):=hr 1 (by simp)
 refine R_seq (Qaa (R_op rfl rfl rfl (R_op rfl rfl rfl (R_nil ?_))))
 simp only [sN,s0,sS,a0,aS,aC]
 obtain ⟨m1,f1,g1,L1,K1⟩:=boxed m (.cells [.int .i64 10,.int .i64 n,lv] (some 51) 0 [])
 change Reach F M (Ctx.at _ _ _ (h.alloc (.cells [.int .i64 10,.int .i64 n,lv] (some 51) 0 []))) G
 generalize h.alloc (.cells [.int .i64 10,.int .i64 n,lv] (some 51) 0 []) = h1 at m1 f1 g1 L1 K1 ⊢
 rw [← QaO L1 q2] at q3
 refine R_seq (Qaa (R_op rfl rfl rfl (R_op rfl rfl rfl (R_op rfl rfl (Qal rfl g1 rfl) (R_op rfl rfl (Qbl rfl rfl q1) (R_op rfl rfl (Qbp rfl q3) (Qau rfl rfl rfl (hM _) (ih0 c env s h1 (r 0) m1 (hr0.low L1) (by omega)) ?_ ?_)))))))
 ·rintro v h2 ⟨a,s',hd,rfl,m2,f2⟩
  refine R_nil ?_
  simp only [sN,s0,sS,a0,aS,aC]
  have L2:=m.low (f1.trans f2)
  rw [← QaO L2 u2] at u3
  refine R_seq (Qaa (R_op rfl rfl rfl (R_op rfl rfl rfl (R_op rfl rfl (Qal rfl (K1 h2 f2) rfl) (R_op rfl rfl (Qbl rfl rfl u1) (R_op rfl rfl (Qbp rfl u3) (Qau rfl rfl rfl (hM _) (ih1 c env s' h2 (r 1) m2 (hr1.low L2) (by have:=Qdr hd; omega)) ?_ ?_)))))))
  ·rintro v h3 ⟨b,s'',hd2,rfl,m3,f3⟩
   refine R_op rfl rfl rfl (R_nil ?_)
   simp only [sN,s0,sS,a0,aS,aC]
   obtain ⟨fr',e1,e2⟩:=hk (.int .i64 b) _ ⟨b,_,by show denK 10 n [den T0,den T1] env s = _; simp only [denK,hd,bindD,hd2],rfl,m3,(f1.trans f2).trans f3⟩
   exact R_ret ⟨rfl,rfl,rfl,rfl⟩ hF rfl e1 e2
  ·rintro q h3 ⟨b,s'',hd2,rfl,m3,f3⟩
   exact Qa3 (x:=⟨Qfc,[],.normal,none,caller :: cs⟩) rfl rfl (hp _ h3 ⟨b,s'',by show denK 10 n [den T0,den T1] env s = _; simp only [denK,hd,bindD,hd2],rfl,m3,(f1.trans f2).trans f3⟩)
 ·rintro q h2 ⟨a,s',hd,rfl,m2,f2⟩
  exact Qa3 (x:=⟨Qfc,[],.normal,none,caller :: cs⟩) rfl rfl (hp _ h2 ⟨a,s',by show denK 10 n [den T0,den T1] env s = _; simp only [denK,hd,bindD],rfl,m2,f1.trans f2⟩)
theorem add_ctr (hF : F i_add = some QiN) (hW : F QdF = some Qdq) (hM : ∀ as,M QaT as = none) (hMw : ∀ as,M QdF as = none) {n : Int} {T0 T1 : LT} (ih0 : EvalC F M QaT T0) (ih1 : EvalC F M QaT T1) : EvalC F M i_add (.mk 9 n [T0,T1]):=by
 intro c env s h row m hrep hb
 refine Ctr.intro hF fun caller cs G hk hp=>?_
 simp only [QiN,fn52,List.length_cons,List.length_nil,Nat.reduceAdd,Nat.reduceSub,rZ,rS,pN,pC]
 cases hrep with
 | mk _ _ _ lv p r hl hpp hr =>
 simp [wk,wks,reps] at hb
 obtain ⟨q1,q2,q3⟩:=hpp 0 (by simp)
 obtain ⟨u1,u2,u3⟩:=hpp 1 (by simp)
 have hr0 : Rep c.N h T0 (r 0):=hr 0 (by simp)
 have hr1 : Rep c.N h T1 (r 1):=hr 1 (by simp)
 refine R_seq (Qaa (R_op rfl rfl rfl (R_op rfl rfl rfl (R_nil ?_))))
 simp only [sN,s0,sS,a0,aS,aC]
 obtain ⟨m1,f1,g1,L1,K1⟩:=boxed m (.cells [.int .i64 9,.int .i64 n,lv] (some 51) 0 [])
 change Reach F M (Ctx.at _ _ _ (h.alloc (.cells [.int .i64 9,.int .i64 n,lv] (some 51) 0 []))) G
 generalize h.alloc (.cells [.int .i64 9,.int .i64 n,lv] (some 51) 0 []) = h1 at m1 f1 g1 L1 K1 ⊢
 rw [← QaO L1 q2] at q3
 refine R_seq (Qaa (R_op rfl rfl rfl (R_op rfl rfl rfl (R_op rfl rfl (Qal rfl g1 rfl) (R_op rfl rfl (Qbl rfl rfl q1) (R_op rfl rfl (Qbp rfl q3) (Qau rfl rfl rfl (hM _) (ih0 c env s h1 (r 0) m1 (hr0.low L1) (by omega)) ?_ ?_)))))))
 ·rintro v h2 ⟨a,s',hd,rfl,m2,f2⟩
  refine R_op rfl rfl rfl (R_nil ?_)
  simp only [sN,s0,sS,a0,aS,aC]
  have L2:=m.low (f1.trans f2)
  rw [← QaO L2 u2] at u3
  refine R_seq (Qaa (R_op rfl rfl rfl (R_op rfl rfl rfl (R_op rfl rfl (Qal rfl (K1 h2 f2) rfl) (R_op rfl rfl (Qbl rfl rfl u1) (R_op rfl rfl (Qbp rfl u3) (Qau rfl rfl rfl (hM _) (ih1 c env s' h2 (r 1) m2 (hr1.low L2) (by have:=Qdr hd; omega)) ?_ ?_)))))))
  ·rintro v h3 ⟨b,s'',hd2,rfl,m3,f3⟩
   refine R_op rfl rfl rfl (R_nil ?_)
   simp only [sN,s0,sS,a0,aS,aC]
   refine R_seq (Qaa (R_op rfl rfl rfl (R_op rfl rfl rfl (R_op rfl rfl rfl (Qau rfl rfl rfl (hMw _) (Qhn hW (IntKind.i64.wrap (a + b)) h3) ?_ (fun _ _ e=>e.elim))))))
   rintro v h4 ⟨rfl,rfl⟩
   refine R_op rfl rfl rfl (R_nil ?_)
   simp only [sN,s0,sS,a0,aS,aC]
   obtain ⟨fr',e1,e2⟩:=hk (.int .i64 (addS a b)) _ ⟨addS a b,_,by show denK 9 n [den T0,den T1] env s = _; simp only [denK,hd,bindD,hd2],rfl,m3,(f1.trans f2).trans f3⟩
   exact R_ret ⟨rfl,rfl,rfl,rfl⟩ hF rfl e1 e2
  ·rintro q h3 ⟨b,s'',hd2,rfl,m3,f3⟩
   exact Qa3 (x:=⟨i_add,[],.normal,none,caller :: cs⟩) rfl rfl (hp _ h3 ⟨b,s'',by show denK 9 n [den T0,den T1] env s = _; simp only [denK,hd,bindD,hd2],rfl,m3,(f1.trans f2).trans f3⟩)
 ·rintro q h2 ⟨a,s',hd,rfl,m2,f2⟩
  exact Qa3 (x:=⟨i_add,[],.normal,none,caller :: cs⟩) rfl rfl (hp _ h2 ⟨a,s',by show denK 9 n [den T0,den T1] env s = _; simp only [denK,hd,bindD],rfl,m2,f1.trans f2⟩)
end
end Go.Ab.L22
namespace Go.Ab.L22
open Go Go.Ab
/-- A block that is a frame's own. -/
def Loc (bm : Nat) (h : AH) (b : Nat) : Prop:=b < h.next ∧ b ≠ bm ∧ toldOf h bm ≠ some b
section
variable {c : Cx} {env : Int} {s : Sg} {h h' : AH} {b b' : Nat} {o : AO}
theorem QdN {bm : Nat} (hb : h.get bm = h'.get bm) : toldOf h bm = toldOf h' bm:=by unfold toldOf; rw [hb]
theorem Loc.new (m : Mst c env s h) (o : AO) : Loc c.bm (h.alloc o) h.next:=by
 refine ⟨by rw [Qgy]; omega,by have:=m.bm_lt; omega,fun e=>?_⟩
 rw [QdN (h':=h) (Qay h o m.bm_lt)] at e
 have:=(m.toldOf_low e).2
 omega
theorem Loc.alloc (m : Mst c env s h) (l : Loc c.bm h b) (o : AO) : Loc c.bm (h.alloc o) b ∧ (h.alloc o).get b = h.get b :=
 ⟨⟨by rw [Qgy]; have:=l.1; omega,l.2.1,by rw [QdN (h':=h) (Qay h o m.bm_lt)]; exact l.2.2⟩,Qay h o l.1⟩
theorem Loc.fr {bm : Nat} (l : Loc bm h b) (f : Fr bm h h') : Loc bm h' b ∧ h'.get b = h.get b:=by
 refine ⟨⟨Nat.lt_of_lt_of_le l.1 f.next,l.2.1,fun e=>?_⟩,f.keep b l.1 l.2.1 l.2.2⟩
 rcases f.told b e with e | e
 ·exact l.2.2 e
 ·have:=l.1; omega
theorem Loc.put {bm : Nat} (l : Loc bm h b) (hb : b' ≠ bm) : Loc bm (h.put b' o) b:=⟨l.1,l.2.1,by rw [QdN (h':=h) (Qaj h o (Ne.symm hb))]; exact l.2.2⟩
theorem Mst.putLoc (m : Mst c env s h) (l : Loc c.bm h b) {l' : List AV} {sp : Option Nat} {pre : Nat} {anc : List Nat} (hg : h.get b = some (.cells l' sp pre anc)) : Mst c env s (h.put b o):=by
 obtain ⟨tv,sp,h1,h2⟩:=m.obj
 refine ⟨⟨tv,sp,by rw [Qaj h o (Ne.symm l.2.1)]; exact h1,?_⟩,?_,fun x hx=>?_,m.lo,m.lod⟩
 ·rcases h2 with h2 | ⟨x,pre,anc,rfl,h3,h4,h5⟩
  ·exact .inl h2
  ·refine .inr ⟨x,pre,anc,rfl,?_,h4,h5⟩
   rw [Qaj h o (fun e=>l.2.2 ?_)]
   ·exact h3
   ·unfold toldOf; rw [h1,← e]; rfl
 ·rw [Qaj h o (fun e=>by have:=m.does; rw [e,hg] at this; cases this)]; exact m.does
 ·have : x ≠ b:=by have:=l.1; have hx' : h.next ≤ x:=hx; omega
  rw [Qaj h o this]; exact m.wf x hx
theorem Fr.putLoc {bm : Nat} {h0 : AH} (f : Fr bm h0 h) (hb : h0.next ≤ b) (hne : b ≠ bm) : Fr bm h0 (h.put b o):=by
 refine ⟨f.next,fun x hx hxb ht=>?_,fun x hx=>?_⟩
 ·rw [Qaj h o (by omega)]; exact f.keep x hx hxb ht
 ·rw [QdN (h':=h) (Qaj h o (Ne.symm hne))] at hx; exact f.told x hx
theorem Mst.envAt (m : Mst c env s h) : ∃ l sp,h.get c.bm = some (.cells l sp 0 []) ∧ l.length = 8 ∧ l[1]? = some (.int .i64 env):=by
 obtain ⟨tv,sp,h1,h2⟩:=m.obj
 exact ⟨_,sp,h1,rfl,rfl⟩
theorem Mst.setEnv (m : Mst c env s h) (a : Int) : ∃ l sp,h.get c.bm = some (.cells l sp 0 []) ∧ l.length = 8 ∧ l[1]? = some (.int .i64 env) ∧ Mst c a s (h.put c.bm (.cells (splice l 1 [.int .i64 a]) sp 0 [])) ∧ Fr c.bm h (h.put c.bm (.cells (splice l 1 [.int .i64 a]) sp 0 [])):=by
 obtain ⟨tv,sp,h1,h2⟩:=m.obj
 refine ⟨_,sp,h1,rfl,rfl,⟨⟨tv,sp,get_put _ _ _,?_⟩,?_,fun b hb=>?_,m.lo,m.lod⟩,⟨Nat.le_refl _,fun b _ hne _=>Qaj _ _ hne,fun b hb=>.inl ?_⟩⟩
 ·rcases h2 with h2 | ⟨b,pre,anc,e,h3,h4,h5⟩
  ·exact .inl h2
  ·exact .inr ⟨b,pre,anc,e,by rw [Qaj _ _ h5]; exact h3,h4,h5⟩
 ·rw [Qaj _ _ (fun e=>by have:=m.does; rw [e,h1] at this; cases this)]; exact m.does
 ·have hne : b ≠ c.bm:=by have:=m.bm_lt; have hb' : h.next ≤ b:=hb; omega
  rw [Qaj _ _ hne]
  exact m.wf b hb
 ·unfold toldOf at hb ⊢
  rw [get_put] at hb
  rw [h1]
  exact hb
end
section
variable {F : FuncId → Option AFun} {M : Memo}

def WithC (F : FuncId → Option AFun) (M : Memo) (T : LT) : Prop :=
 ∀ (c : Cx) (env a : Int) (s : Sg) (h : AH) (row : List AV),Mst c env s h → Rep c.N h T row → row.length = 3 → s.told.length + wk T < 100000000000 → Ctr F M Qeg [.ptr c.bm 0,.int .i64 a,.agg row] h (PostR c env (den T a s) h) (PostP c env (den T a s) h)
theorem with_ctr (hF : F Qeg = some QfB) (hF1 : F Qq8 = some Qd1) (hM : ∀ as,M QaT as = none) {T : LT} (ih : EvalC F M QaT T) : WithC F M T:=by
 intro c env a s h row m hrep hlen hb
 refine Ctr.intro hF fun caller cs G hk hp=>?_
 simp only [QfB,fn89,List.length_cons,List.length_nil,Nat.reduceAdd,Nat.reduceSub,rZ,rS,pN,pC]
 obtain ⟨r0,r1,r2,rfl⟩ : ∃ r0 r1 r2,row = [r0,r1,r2]:=by
  match row,hlen with
  | [r0,r1,r2],_=>exact ⟨r0,r1,r2,rfl⟩
 have m1:=m.alloc (.cells [.ptr c.bm 0] (some 137) 0 [])
 have f1:=Fr.alloc m (.cells [.ptr c.bm 0] (some 137) 0 [])
 have g1:=QaV h (.cells [.ptr c.bm 0] (some 137) 0 [])
 have l1:=Loc.new m (.cells [.ptr c.bm 0] (some 137) 0 [])
 have n1 : h.next < (h.alloc (.cells [.ptr c.bm 0] (some 137) 0 [])).next:=Nat.lt_succ_self _
 refine R_seq (Qaa (R_op rfl rfl rfl (R_op rfl rfl rfl (R_op rfl rfl rfl (R_nil ?_)))))
 simp only [sN,s0,sS,a0,aS,aC,AV.cells]
 generalize h.alloc (.cells [.ptr c.bm 0] (some 137) 0 []) = h1 at m1 f1 g1 l1 n1 ⊢
 have m2:=m1.alloc (.cells [r0,r1,r2] (some 51) 0 [])
 have f2:=Fr.alloc m1 (.cells [r0,r1,r2] (some 51) 0 [])
 have g2:=QaV h1 (.cells [r0,r1,r2] (some 51) 0 [])
 have l2:=Loc.new m1 (.cells [r0,r1,r2] (some 51) 0 [])
 have n2 : h1.next < (h1.alloc (.cells [r0,r1,r2] (some 51) 0 [])).next:=Nat.lt_succ_self _
 obtain ⟨l1',g1'⟩:=l1.alloc m1 (.cells [r0,r1,r2] (some 51) 0 [])
 rw [g1] at g1'
 generalize h1.alloc (.cells [r0,r1,r2] (some 51) 0 []) = h2 at m2 f2 g2 l2 n2 l1' g1' ⊢
 obtain ⟨le,spe,ge,hle,hve⟩:=m2.envAt
 have m3:=m2.alloc (.cells [.int .i64 0] (some 7) 0 [])
 have f3:=Fr.alloc m2 (.cells [.int .i64 0] (some 7) 0 [])
 have g3:=QaV h2 (.cells [.int .i64 0] (some 7) 0 [])
 have l3:=Loc.new m2 (.cells [.int .i64 0] (some 7) 0 [])
 refine R_seq (Qaa (R_op rfl rfl (Qal rfl g1' rfl) (R_op rfl rfl rfl (R_op rfl rfl rfl (R_op rfl rfl rfl (R_op rfl rfl (Qal rfl ge hve) (R_op rfl rfl rfl (R_op rfl rfl (Qbd rfl rfl rfl rfl rfl g3 (by simp)) (R_nil ?_)))))))))
 simp only [sN,s0,sS,a0,aS,aC]
 obtain ⟨l1a,g1a⟩:=l1'.alloc m2 (.cells [.int .i64 0] (some 7) 0 [])
 obtain ⟨l2a,g2a⟩:=l2.alloc m2 (.cells [.int .i64 0] (some 7) 0 [])
 rw [g1'] at g1a
 rw [g2] at g2a
 have n3 : h2.next < (h2.alloc (.cells [.int .i64 0] (some 7) 0 [])).next:=Nat.lt_succ_self _
 generalize h2.alloc (.cells [.int .i64 0] (some 7) 0 []) = h3 at m3 f3 g3 l3 l1a g1a l2a g2a n3 ⊢
 have m4:=m3.putLoc (o:=.cells (splice [.int .i64 0] 0 [.int .i64 env]) (some 7) 0 []) l3 g3
 have hlt2 : h.next ≤ h2.next:=by omega
 have f4 : Fr c.bm h (h3.put h2.next (.cells (splice [.int .i64 0] 0 [.int .i64 env]) (some 7) 0 [])):=((f1.trans f2).trans f3).putLoc hlt2 l3.2.1
 have g4:=get_put h3 h2.next (.cells (splice [.int .i64 0] 0 [.int .i64 env]) (some 7) 0 [])
 have l4:=l3.put (o:=.cells (splice [.int .i64 0] 0 [.int .i64 env]) (some 7) 0 []) l3.2.1
 have l1b:=l1a.put (o:=.cells (splice [.int .i64 0] 0 [.int .i64 env]) (some 7) 0 []) l3.2.1
 have l2b:=l2a.put (o:=.cells (splice [.int .i64 0] 0 [.int .i64 env]) (some 7) 0 []) l3.2.1
 have g1b : (h3.put h2.next (.cells (splice [.int .i64 0] 0 [.int .i64 env]) (some 7) 0 [])).get h.next = _:=(Qaj h3 _ (by omega)).trans g1a
 have g2b : (h3.put h2.next (.cells (splice [.int .i64 0] 0 [.int .i64 env]) (some 7) 0 [])).get h1.next = _:=(Qaj h3 _ (by omega)).trans g2a
 generalize h3.put h2.next (.cells (splice [.int .i64 0] 0 [.int .i64 env]) (some 7) 0 []) = h4 at m4 f4 g4 l4 l1b l2b g1b g2b ⊢
 refine R_seq (Qaa (R_op rfl rfl rfl (QrQ rfl rfl rfl rfl (R_nil ?_))))
 simp only [sN,s0,sS,a0,aS,aC]
 obtain ⟨l5,sp5,g5,hl5,hv5,m5,f5⟩:=m4.setEnv a
 refine R_seq (Qaa (R_op rfl rfl (Qal rfl g1b rfl) (R_op rfl rfl rfl (R_op rfl rfl rfl (R_op rfl rfl rfl (R_op rfl rfl rfl (R_op rfl rfl (Qbd rfl rfl rfl rfl rfl g5 (by omega)) (R_nil ?_))))))))
 simp only [sN,s0,sS,a0,aS,aC]
 obtain ⟨l1c,g1c⟩:=l1b.fr f5
 obtain ⟨l2c,g2c⟩:=l2b.fr f5
 obtain ⟨l4c,g4c⟩:=l4.fr f5
 rw [g1b] at g1c
 rw [g2b] at g2c
 rw [g4] at g4c
 generalize h4.put c.bm (.cells (splice l5 1 [.int .i64 a]) sp5 0 []) = h5 at m5 f5 l1c g1c l2c g2c l4c g4c ⊢
 
 have back : ∀ (s' : Sg) (h6 : AH),Mst c a s' h6 → Fr c.bm h5 h6 → ∃ h7,Mst c env s' h7 ∧ Fr c.bm h h7 ∧ ∀ (t : List AV) (k : List AItem) (md : AMode),(md = .returning ∨ ∃ p q,md = .panicking (⟨p,false⟩ :: q)) → Reach F M ⟨({ fn:=Qeg,defers:=[],kind:=.normal,roundOf:=none,cs:=caller :: cs } : Ctx).out t k md,caller :: cs,h7⟩ G →
   Reach F M ⟨({ fn:=Qeg,defers:=[.call 147 [.ptr h2.next 0,.ptr h.next 0]],kind:=.normal,roundOf:=none,cs:=caller :: cs } : Ctx).out t k md,caller :: cs,h6⟩ G:=by
  intro s' h6 m6 f6
  obtain ⟨l1d,g1d⟩:=l1c.fr f6
  obtain ⟨l4d,g4d⟩:=l4c.fr f6
  rw [g1c] at g1d
  rw [g4c] at g4d
  obtain ⟨l7,sp7,g7,hl7,hv7,m7,f7⟩:=m6.setEnv env
  refine ⟨_,m7,((f4.trans f5).trans f6).trans f7,fun t k md hmd hr=>?_⟩
  refine QgT (x:={ fn:=Qeg,defers:=[.call 147 [.ptr h2.next 0,.ptr h.next 0]],kind:=.normal,roundOf:=none,cs:=caller :: cs }) (ds:=[]) (by rcases hmd with rfl | ⟨p,q,rfl⟩ <;> simp) rfl hF1 ?_
  simp only [Qd1,fn147,List.length_cons,List.length_nil,Nat.reduceAdd,Nat.reduceSub,rZ,rS,pN,pC]
  refine Qaa (R_op rfl rfl (Qal rfl g1d rfl) (R_op rfl rfl (Qal rfl g4d rfl) (R_op rfl rfl rfl (R_op rfl rfl rfl (R_op rfl rfl rfl (R_op rfl rfl (Qbd rfl rfl rfl rfl rfl g7 (by omega)) (R_nil ?_)))))))
  simp only [sN,s0,sS,a0,aS,aC]
  exact QrP rfl (Qpd ⟨rfl,rfl,rfl⟩ hF1 rfl hmd hr)
 have L5 : Low c.N h h5:=m.low (f4.trans f5)
 refine R_seq (Qaa (R_op rfl rfl (Qal rfl g1c rfl) (R_op rfl rfl (Qbk rfl g2c (by simp)) (Qau rfl rfl rfl (hM _) (ih c a s h5 [r0,r1,r2] m5 (hrep.low L5) hb) ?_ ?_))))
 ·rintro v h6 ⟨x,s',hd,rfl,m6,f6⟩
  refine R_op rfl rfl rfl (R_nil ?_)
  simp only [sN,s0,sS,a0,aS,aC]
  obtain ⟨h7,m7,f7,hb⟩:=back s' h6 m6 f6
  obtain ⟨fr',e1,e2⟩:=hk (.int .i64 x) h7 ⟨x,s',hd,rfl,m7,f7⟩
  refine QrN rfl (hb _ _ _ (.inl rfl) ?_)
  exact QlJ (x:={ fn:=Qeg,defers:=[],kind:=.normal,roundOf:=none,cs:=caller :: cs }) ⟨rfl,rfl,rfl⟩ hF rfl e1 e2
 ·rintro q h6 ⟨x,s',hd,rfl,m6,f6⟩
  obtain ⟨h7,m7,f7,hb⟩:=back s' h6 m6 f6
  exact hb _ _ _ (.inr ⟨_,_,rfl⟩) (Qa3 (x:={ fn:=Qeg,defers:=[],kind:=.normal,roundOf:=none,cs:=caller :: cs }) rfl rfl (hp _ h7 ⟨x,s',hd,rfl,m7,f7⟩))
end
end Go.Ab.L22
namespace Go.Ab.L22
open Go Go.Ab
theorem Qob {h : AH} {ev : AOpd → AV} {a x : AOpd} {b o : Nat} {l : List AV} {sp : Option Nat} {v w : AV} (ha : ev a = .ptr b o) (hx : ev x = v) (hk : v.known = true) (hc : v.cells = [w]) (ho : w.one = true) (hg : h.get b = some (.cells l sp 0 [])) (hn : o + 1 ≤ l.length) :
  exec h ev (.store 1 a x) = some (.undef,h.put b (.cells (splice l o [w]) sp 0 [])):=by
 simp only [exec,ha,hx,hc,storeA,AH.store,hg]
 rw [if_pos ⟨hk,rfl⟩,if_pos ⟨by simpa using hn,by simp [ho]⟩,if_neg (by omega)]
 rfl
section
variable {F : FuncId → Option AFun} {M : Memo}
theorem Qfi {h : AH} {t : List AV} {bn bt : Nat} {x : Int} {z : Bool} {sp1 sp2 : Option Nat} (h4 : t.getD 4 .undef = .ptr bn 0) (h5 : t.getD 5 .undef = .ptr bt 0) (g2 : h.get bn = some (.cells [.int .i64 x] sp1 0 [])) (g3 : h.get bt = some (.cells [.bool z] sp2 0 [])) :
  QaE h t fn_caught.results = some (.tuple [.int .i64 x,.bool z]):=by
 simp only [fn_caught,fn26,QaE,List.mapM_cons,List.mapM_nil,QbU,h4,h5,loadA,AH.read,AH.cellsAt,g2,g3]
 rfl
/-- caught: what a term comes to, as two values. -/
def QjE (F : FuncId → Option AFun) (M : Memo) (T : LT) : Prop :=
 ∀ (c : Cx) (env : Int) (s : Sg) (h : AH) (row : List AV),Mst c env s h → Rep c.N h T row → row.length = 3 → s.told.length + wk T < 100000000000 →
  Ctr F M QbK [.ptr c.bm 0,.agg row] h (fun v h'=>∃ n z s',((den T env s = (.ret n,s') ∧ z = false) ∨ (den T env s = (.thr n,s') ∧ z = true)) ∧ v = .tuple [.int .i64 n,.bool z] ∧ Mst c env s' h' ∧ Fr c.bm h h') (fun _ _=>False)
theorem Qkx (hF : F QbK = some fn_caught) (hF1 : F QiC = some QbR) (hM : ∀ as,M QaT as = none) {T : LT} (ih : EvalC F M QaT T) : QjE F M T:=by
 intro c env s h row m hrep hlen hb
 refine Ctr.intro hF fun caller cs G hk hp=>?_
 simp only [fn_caught,fn26,List.length_cons,List.length_nil,Nat.reduceAdd,Nat.reduceSub,rZ,rS,pN,pC]
 obtain ⟨r0,r1,r2,rfl⟩ : ∃ r0 r1 r2,row = [r0,r1,r2]:=by
  match row,hlen with
  | [r0,r1,r2],_=>exact ⟨r0,r1,r2,rfl⟩
 refine R_seq (Qaa (R_op rfl rfl rfl (R_op rfl rfl rfl (R_op rfl rfl rfl (R_nil ?_)))))
 simp only [sN,s0,sS,a0,aS,aC,AV.cells]
 have m1:=m.alloc (.cells [r0,r1,r2] (some 51) 0 [])
 have f1:=Fr.alloc m (.cells [r0,r1,r2] (some 51) 0 [])
 have g1:=QaV h (.cells [r0,r1,r2] (some 51) 0 [])
 have l1:=Loc.new m (.cells [r0,r1,r2] (some 51) 0 [])
 have n1 : h.next < (h.alloc (.cells [r0,r1,r2] (some 51) 0 [])).next:=Nat.lt_succ_self _
 generalize h.alloc (.cells [r0,r1,r2] (some 51) 0 []) = h1 at m1 f1 g1 l1 n1 ⊢
 have m2:=m1.alloc (.cells [.int .i64 0] (some 7) 0 [])
 have f2:=Fr.alloc m1 (.cells [.int .i64 0] (some 7) 0 [])
 have g2:=QaV h1 (.cells [.int .i64 0] (some 7) 0 [])
 have l2:=Loc.new m1 (.cells [.int .i64 0] (some 7) 0 [])
 have n2 : h1.next < (h1.alloc (.cells [.int .i64 0] (some 7) 0 [])).next:=Nat.lt_succ_self _
 obtain ⟨l1a,g1a⟩:=l1.alloc m1 (.cells [.int .i64 0] (some 7) 0 [])
 rw [g1] at g1a
 generalize h1.alloc (.cells [.int .i64 0] (some 7) 0 []) = h2 at m2 f2 g2 l2 n2 l1a g1a ⊢
 have m3:=m2.alloc (.cells [.bool false] (some 9) 0 [])
 have f3:=Fr.alloc m2 (.cells [.bool false] (some 9) 0 [])
 have g3:=QaV h2 (.cells [.bool false] (some 9) 0 [])
 have l3:=Loc.new m2 (.cells [.bool false] (some 9) 0 [])
 have n3 : h2.next < (h2.alloc (.cells [.bool false] (some 9) 0 [])).next:=Nat.lt_succ_self _
 obtain ⟨l1b,g1b⟩:=l1a.alloc m2 (.cells [.bool false] (some 9) 0 [])
 obtain ⟨l2b,g2b⟩:=l2.alloc m2 (.cells [.bool false] (some 9) 0 [])
 rw [g1a] at g1b
 rw [g2] at g2b
 generalize h2.alloc (.cells [.bool false] (some 9) 0 []) = h3 at m3 f3 g3 l3 n3 l1b g1b l2b g2b ⊢
 refine R_seq (Qaa (R_op rfl rfl rfl (QrQ rfl rfl rfl rfl (R_nil ?_))))
 simp only [sN,s0,sS,a0,aS,aC]
 have f03:=(f1.trans f2).trans f3
 have L3 : Low c.N h h3:=m.low f03
 refine R_seq (Qaa (R_op rfl rfl rfl (R_op rfl rfl (Qbk rfl g1b (by simp)) (Qau rfl rfl rfl (hM _) (ih c env s h3 [r0,r1,r2] m3 (hrep.low L3) hb) ?_ ?_))))
 ·rintro v h4 ⟨x,s',hd,rfl,m4,f4⟩
  obtain ⟨l2c,g2c⟩:=l2b.fr f4
  obtain ⟨l3c,g3c⟩:=l3.fr f4
  rw [g2b] at g2c
  rw [g3] at g3c
  have m5:=m4.putLoc (o:=.cells (splice [.int .i64 0] 0 [.int .i64 x]) (some 7) 0 []) l2c g2c
  have f5 : Fr c.bm h (h4.put h1.next (.cells (splice [.int .i64 0] 0 [.int .i64 x]) (some 7) 0 [])):=(f03.trans f4).putLoc (by omega) l2c.2.1
  have g2d:=get_put h4 h1.next (.cells (splice [.int .i64 0] 0 [.int .i64 x]) (some 7) 0 [])
  have g3d : (h4.put h1.next (.cells (splice [.int .i64 0] 0 [.int .i64 x]) (some 7) 0 [])).get h2.next = _:=(Qaj h4 _ (by omega)).trans g3c
  have l3d:=l3c.put (o:=.cells (splice [.int .i64 0] 0 [.int .i64 x]) (some 7) 0 []) l2c.2.1
  refine R_op rfl rfl (Qbd rfl rfl rfl rfl rfl g2c (by simp)) (R_op rfl rfl (Qbd rfl rfl rfl rfl rfl g3d (by simp)) (R_nil ?_))
  simp only [sN,s0,sS,a0,aS,aC]
  generalize h4.put h1.next (.cells (splice [.int .i64 0] 0 [.int .i64 x]) (some 7) 0 []) = h5 at m5 f5 g2d g3d l3d ⊢
  have m6:=m5.putLoc (o:=.cells (splice [.bool false] 0 [.bool false]) (some 9) 0 []) l3d g3d
  have f6 : Fr c.bm h (h5.put h2.next (.cells (splice [.bool false] 0 [.bool false]) (some 9) 0 [])):=f5.putLoc (by omega) l3d.2.1
  have g2e : (h5.put h2.next (.cells (splice [.bool false] 0 [.bool false]) (some 9) 0 [])).get h1.next = _:=(Qaj h5 _ (by omega)).trans g2d
  have g3e:=get_put h5 h2.next (.cells (splice [.bool false] 0 [.bool false]) (some 9) 0 [])
  generalize h5.put h2.next (.cells (splice [.bool false] 0 [.bool false]) (some 9) 0 []) = h6 at m6 f6 g2e g3e ⊢
  obtain ⟨fr',e1,e2⟩:=hk (.tuple [.int .i64 x,.bool false]) h6 ⟨x,false,s',.inl ⟨hd,rfl⟩,rfl,m6,f6⟩
  refine QrN rfl (QgT (x:={ fn:=QbK,defers:=[.call 56 [.ptr h1.next 0,.ptr h2.next 0]],kind:=.normal,roundOf:=none,cs:=caller :: cs }) (ds:=[]) (by simp) rfl hF1 ?_)
  simp only [QbR,fn56,List.length_cons,List.length_nil,Nat.reduceAdd,Nat.reduceSub,rZ,rS,pN,pC]
  refine R_seq (Qaa (QmU rfl rfl rfl rfl rfl rfl (R_op rfl rfl rfl (R_nil ?_))))
  simp only [sN,s0,sS,a0,aS,aC]
  refine R_seq (Qaa (R_op rfl rfl rfl (R_op rfl rfl rfl (R_nil ?_))))
  simp only [sN,s0,sS,a0,aS,aC]
  refine Qaw rfl (QaF (QrP rfl (Qpd ⟨rfl,rfl,rfl⟩ hF1 rfl (.inl rfl) ?_)))
  exact QlJ (x:={ fn:=QbK,defers:=[],kind:=.normal,roundOf:=none,cs:=caller :: cs }) ⟨rfl,rfl,rfl⟩ hF (Qfi rfl rfl g2e g3e) e1 e2
 ·rintro q h4 ⟨x,s',hd,rfl,m4,f4⟩
  obtain ⟨l2c,g2c⟩:=l2b.fr f4
  obtain ⟨l3c,g3c⟩:=l3.fr f4
  rw [g2b] at g2c
  rw [g3] at g3c
  refine QgT (x:={ fn:=QbK,defers:=[.call 56 [.ptr h1.next 0,.ptr h2.next 0]],kind:=.normal,roundOf:=none,cs:=caller :: cs }) (ds:=[]) (by simp) rfl hF1 ?_
  simp only [QbR,fn56,List.length_cons,List.length_nil,Nat.reduceAdd,Nat.reduceSub,rZ,rS,pN,pC]
  refine R_seq (Qaa (QrO rfl rfl rfl rfl rfl rfl (R_op rfl rfl rfl (R_nil ?_))))
  simp only [sN,s0,sS,a0,aS,aC]
  refine R_seq (Qaa (R_op rfl rfl rfl (R_op rfl rfl rfl (R_nil ?_))))
  simp only [sN,s0,sS,a0,aS,aC]
  refine QaM rfl ?_
  have m5:=m4.alloc (.cells [.int .i64 0] (some 199) 0 [])
  have f5:=Fr.alloc m4 (.cells [.int .i64 0] (some 199) 0 [])
  have g5:=QaV h4 (.cells [.int .i64 0] (some 199) 0 [])
  have l5:=Loc.new m4 (.cells [.int .i64 0] (some 199) 0 [])
  have n5 : h4.next < (h4.alloc (.cells [.int .i64 0] (some 199) 0 [])).next:=Nat.lt_succ_self _
  obtain ⟨l2d,g2d⟩:=l2c.alloc m4 (.cells [.int .i64 0] (some 199) 0 [])
  obtain ⟨l3d,g3d⟩:=l3c.alloc m4 (.cells [.int .i64 0] (some 199) 0 [])
  rw [g2c] at g2d
  rw [g3c] at g3d
  refine R_seq (Qaa (R_op rfl rfl rfl (R_op rfl rfl rfl (R_op rfl rfl rfl (R_op rfl rfl rfl (R_op rfl rfl rfl (R_op rfl rfl rfl (R_op rfl rfl (Qob rfl rfl rfl rfl rfl g5 (by simp)) (R_op rfl rfl rfl (R_nil ?_))))))))))
  simp only [sN,s0,sS,a0,aS,aC]
  generalize h4.alloc (.cells [.int .i64 0] (some 199) 0 []) = h5 at m5 f5 g5 l5 n5 l2d g2d l3d g3d ⊢
  have m6:=m5.putLoc (o:=.cells (splice [.int .i64 0] 0 [.int .i64 x]) (some 199) 0 []) l5 g5
  have hn4 : h.next ≤ h4.next:=by have:=f4.next; omega
  have f6 : Fr c.bm h (h5.put h4.next (.cells (splice [.int .i64 0] 0 [.int .i64 x]) (some 199) 0 [])):=((f03.trans f4).trans f5).putLoc hn4 l5.2.1
  have g6:=get_put h5 h4.next (.cells (splice [.int .i64 0] 0 [.int .i64 x]) (some 199) 0 [])
  have k2 : h1.next ≠ h4.next:=by have:=l2c.1; omega
  have k3 : h2.next ≠ h4.next:=by have:=l3c.1; omega
  have g2e : (h5.put h4.next (.cells (splice [.int .i64 0] 0 [.int .i64 x]) (some 199) 0 [])).get h1.next = _:=(Qaj h5 _ k2).trans g2d
  have g3e : (h5.put h4.next (.cells (splice [.int .i64 0] 0 [.int .i64 x]) (some 199) 0 [])).get h2.next = _:=(Qaj h5 _ k3).trans g3d
  have l2e:=l2d.put (o:=.cells (splice [.int .i64 0] 0 [.int .i64 x]) (some 199) 0 []) l5.2.1
  have l3e:=l3d.put (o:=.cells (splice [.int .i64 0] 0 [.int .i64 x]) (some 199) 0 []) l5.2.1
  generalize h5.put h4.next (.cells (splice [.int .i64 0] 0 [.int .i64 x]) (some 199) 0 []) = h6 at m6 f6 g6 g2e g3e l2e l3e ⊢
  refine R_seq (R_seq (Qaa (R_op rfl rfl rfl (R_op rfl rfl rfl (R_nil ?_)))))
  simp only [sN,s0,sS,a0,aS,aC]
  refine Qaw rfl (QaF ?_)
  have m7:=m6.putLoc (o:=.cells (splice [.int .i64 0] 0 [.int .i64 x]) (some 7) 0 []) l2e g2e
  have f7 : Fr c.bm h (h6.put h1.next (.cells (splice [.int .i64 0] 0 [.int .i64 x]) (some 7) 0 [])):=f6.putLoc (by omega) l2e.2.1
  have g2f:=get_put h6 h1.next (.cells (splice [.int .i64 0] 0 [.int .i64 x]) (some 7) 0 [])
  have g3f : (h6.put h1.next (.cells (splice [.int .i64 0] 0 [.int .i64 x]) (some 7) 0 [])).get h2.next = _:=(Qaj h6 _ (by omega)).trans g3e
  have l3f:=l3e.put (o:=.cells (splice [.int .i64 0] 0 [.int .i64 x]) (some 7) 0 []) l2e.2.1
  refine Qaa (R_op rfl rfl rfl (R_op rfl rfl (Qal rfl g6 rfl) (R_op rfl rfl (Qbd rfl rfl rfl rfl rfl g2e (by simp)) (R_op rfl rfl (Qbd rfl rfl rfl rfl rfl g3f (by simp)) (R_nil ?_)))))
  simp only [sN,s0,sS,a0,aS,aC]
  generalize h6.put h1.next (.cells (splice [.int .i64 0] 0 [.int .i64 x]) (some 7) 0 []) = h7 at m7 f7 g2f g3f l3f ⊢
  have m8:=m7.putLoc (o:=.cells (splice [.bool false] 0 [.bool true]) (some 9) 0 []) l3f g3f
  have f8 : Fr c.bm h (h7.put h2.next (.cells (splice [.bool false] 0 [.bool true]) (some 9) 0 [])):=f7.putLoc (by omega) l3f.2.1
  have g2g : (h7.put h2.next (.cells (splice [.bool false] 0 [.bool true]) (some 9) 0 [])).get h1.next = _:=(Qaj h7 _ (by omega)).trans g2f
  have g3g:=get_put h7 h2.next (.cells (splice [.bool false] 0 [.bool true]) (some 9) 0 [])
  generalize h7.put h2.next (.cells (splice [.bool false] 0 [.bool true]) (some 9) 0 []) = h8 at m8 f8 g2g g3g ⊢
  obtain ⟨fr',e1,e2⟩:=hk (.tuple [.int .i64 x,.bool true]) h8 ⟨x,true,s',.inr ⟨hd,rfl⟩,rfl,m8,f8⟩
  refine QrP rfl (R_leaveR ⟨rfl,rfl,rfl⟩ hF1 rfl rfl ?_)
  exact QlJ (x:={ fn:=QbK,defers:=[],kind:=.normal,roundOf:=none,cs:=caller :: cs }) ⟨rfl,rfl,rfl⟩ hF (Qfi rfl rfl g2g g3g) e1 e2
end
end Go.Ab.L22
namespace Go.Ab.L22
open Go Go.Ab
section
variable {F : FuncId → Option AFun} {M : Memo}
theorem QkT {N : Nat} {h : AH} {T : LT} {row : List AV} (H : Rep N h T row) : row.length = 3:=by cases H; rfl
theorem iff_ctr (hF : F i_iff = some QiM) (hM : ∀ as,M QaT as = none) {n : Int} {T0 T1 T2 : LT} (ih0 : EvalC F M QaT T0) (ih1 : EvalC F M QaT T1) (ih2 : EvalC F M QaT T2) : EvalC F M i_iff (.mk 11 n [T0,T1,T2]):=by
 intro c env s h row m hrep hb
 refine Ctr.intro hF fun caller cs G hk hp=>?_
 simp only [QiM,fn54,List.length_cons,List.length_nil,Nat.reduceAdd,Nat.reduceSub,rZ,rS,pN,pC]
 cases hrep with
 | mk _ _ _ lv p r hl hpp hr =>
 simp [wk,wks,reps] at hb
 obtain ⟨q1,q2,q3⟩:=hpp 0 (by simp)
 obtain ⟨u1,u2,u3⟩:=hpp 1 (by simp)
 obtain ⟨w1,w2,w3⟩:=hpp 2 (by simp)
 have hr0 : Rep c.N h T0 (r 0):=hr 0 (by simp)
 have hr1 : Rep c.N h T1 (r 1):=hr 1 (by simp)
 have hr2 : Rep c.N h T2 (r 2):=hr 2 (by simp)
 refine R_seq (Qaa (R_op rfl rfl rfl (R_op rfl rfl rfl (R_nil ?_))))
 simp only [sN,s0,sS,a0,aS,aC,AV.cells]
 obtain ⟨m1,f1,g1,L1,K1⟩:=boxed m (.cells [.int .i64 11,.int .i64 n,lv] (some 51) 0 [])
 generalize h.alloc (.cells [.int .i64 11,.int .i64 n,lv] (some 51) 0 []) = h1 at m1 f1 g1 L1 K1 ⊢
 rw [← QaO L1 q2] at q3
 refine R_seq (R_seq (Qaa (R_op rfl rfl rfl (R_op rfl rfl rfl (R_op rfl rfl (Qal rfl g1 rfl) (R_op rfl rfl (Qbl rfl rfl q1) (R_op rfl rfl (Qbp rfl q3) (Qau rfl rfl rfl (hM _) (ih0 c env s h1 (r 0) m1 (hr0.low L1) (by omega)) ?_ ?_))))))))
 ·rintro v h2 ⟨a,s',hd,rfl,m2,f2⟩
  refine R_op rfl rfl rfl (R_nil ?_)
  simp only [sN,s0,sS,a0,aS,aC]
  have L2:=m.low (f1.trans f2)
  by_cases ha : a < 0
  ·refine QaM (show AV.bool (decide (a < 0)) = .bool true by simp [ha]) ?_
   rw [← QaO L2 u2] at u3
   refine R_seq (Qaa (R_op rfl rfl rfl (R_op rfl rfl rfl (R_op rfl rfl (Qal rfl (K1 h2 f2) rfl) (R_op rfl rfl (Qbl rfl rfl u1) (R_op rfl rfl (Qbp rfl u3) (Qau rfl rfl rfl (hM _) (ih1 c env s' h2 (r 1) m2 (hr1.low L2) (by have:=Qdr hd; omega)) ?_ ?_)))))))
   ·rintro v h3 ⟨b,s'',hd2,rfl,m3,f3⟩
    refine R_op rfl rfl rfl (R_nil ?_)
    simp only [sN,s0,sS,a0,aS,aC]
    obtain ⟨fr',e1,e2⟩:=hk (.int .i64 b) _ ⟨b,_,by show denK 11 n [den T0,den T1,den T2] env s = _; simp only [denK,hd,bindD,if_pos ha,hd2],rfl,m3,(f1.trans f2).trans f3⟩
    exact R_ret ⟨rfl,rfl,rfl,rfl⟩ hF rfl e1 e2
   ·rintro q h3 ⟨b,s'',hd2,rfl,m3,f3⟩
    exact Qa3 (x:=⟨i_iff,[],.normal,none,caller :: cs⟩) rfl rfl (hp _ h3 ⟨b,s'',by show denK 11 n [den T0,den T1,den T2] env s = _; simp only [denK,hd,bindD,if_pos ha,hd2],rfl,m3,(f1.trans f2).trans f3⟩)
  ·refine Qaw (show AV.bool (decide (a < 0)) = .bool false by simp [ha]) (QaF ?_)
   rw [← QaO L2 w2] at w3
   refine R_seq (Qaa (R_op rfl rfl rfl (R_op rfl rfl rfl (R_op rfl rfl (Qal rfl (K1 h2 f2) rfl) (R_op rfl rfl (Qbl rfl rfl w1) (R_op rfl rfl (Qbp rfl w3) (Qau rfl rfl rfl (hM _) (ih2 c env s' h2 (r 2) m2 (hr2.low L2) (by have:=Qdr hd; omega)) ?_ ?_)))))))
   ·rintro v h3 ⟨b,s'',hd2,rfl,m3,f3⟩
    refine R_op rfl rfl rfl (R_nil ?_)
    simp only [sN,s0,sS,a0,aS,aC]
    obtain ⟨fr',e1,e2⟩:=hk (.int .i64 b) _ ⟨b,_,by show denK 11 n [den T0,den T1,den T2] env s = _; simp only [denK,hd,bindD,if_neg ha,hd2],rfl,m3,(f1.trans f2).trans f3⟩
    exact R_ret ⟨rfl,rfl,rfl,rfl⟩ hF rfl e1 e2
   ·rintro q h3 ⟨b,s'',hd2,rfl,m3,f3⟩
    exact Qa3 (x:=⟨i_iff,[],.normal,none,caller :: cs⟩) rfl rfl (hp _ h3 ⟨b,s'',by show denK 11 n [den T0,den T1,den T2] env s = _; simp only [denK,hd,bindD,if_neg ha,hd2],rfl,m3,(f1.trans f2).trans f3⟩)
 ·rintro q h2 ⟨a,s',hd,rfl,m2,f2⟩
  exact Qa3 (x:=⟨i_iff,[],.normal,none,caller :: cs⟩) rfl rfl (hp _ h2 ⟨a,s',by show denK 11 n [den T0,den T1,den T2] env s = _; simp only [denK,hd,bindD],rfl,m2,f1.trans f2⟩)
theorem QqW (hF : F Qdp = some Qd3) (hM : ∀ as,M QaT as = none) (hMw : ∀ as,M Qeg as = none) {n : Int} {T0 T1 : LT} (ih0 : EvalC F M QaT T0) (ih1 : WithC F M T1) : EvalC F M Qdp (.mk 8 n [T0,T1]):=by
 intro c env s h row m hrep hb
 refine Ctr.intro hF fun caller cs G hk hp=>?_
 simp only [Qd3,fn51,List.length_cons,List.length_nil,Nat.reduceAdd,Nat.reduceSub,rZ,rS,pN,pC]
 cases hrep with
 | mk _ _ _ lv p r hl hpp hr =>
 simp [wk,wks,reps] at hb
 obtain ⟨q1,q2,q3⟩:=hpp 0 (by simp)
 obtain ⟨u1,u2,u3⟩:=hpp 1 (by simp)
 have hr0 : Rep c.N h T0 (r 0):=hr 0 (by simp)
 have hr1 : Rep c.N h T1 (r 1):=hr 1 (by simp)
 refine R_seq (Qaa (R_op rfl rfl rfl (R_op rfl rfl rfl (R_nil ?_))))
 simp only [sN,s0,sS,a0,aS,aC,AV.cells]
 obtain ⟨m1,f1,g1,L1,K1⟩:=boxed m (.cells [.int .i64 8,.int .i64 n,lv] (some 51) 0 [])
 generalize h.alloc (.cells [.int .i64 8,.int .i64 n,lv] (some 51) 0 []) = h1 at m1 f1 g1 L1 K1 ⊢
 rw [← QaO L1 q2] at q3
 refine R_seq (Qaa (R_op rfl rfl rfl (R_op rfl rfl rfl (R_op rfl rfl (Qal rfl g1 rfl) (R_op rfl rfl (Qbl rfl rfl q1) (R_op rfl rfl (Qbp rfl q3) (Qau rfl rfl rfl (hM _) (ih0 c env s h1 (r 0) m1 (hr0.low L1) (by omega)) ?_ ?_)))))))
 ·rintro v h2 ⟨a,s',hd,rfl,m2,f2⟩
  refine R_op rfl rfl rfl (R_nil ?_)
  simp only [sN,s0,sS,a0,aS,aC]
  have L2:=m.low (f1.trans f2)
  rw [← QaO L2 u2] at u3
  refine R_seq (Qaa (R_op rfl rfl rfl (R_op rfl rfl rfl (R_op rfl rfl rfl (R_op rfl rfl (Qal rfl (K1 h2 f2) rfl) (R_op rfl rfl (Qbl rfl rfl u1) (R_op rfl rfl (Qbp rfl u3) (Qau rfl rfl rfl (hMw _) (ih1 c env a s' h2 (r 1) m2 (hr1.low L2) (QkT hr1) (by have:=Qdr hd; omega)) ?_ ?_))))))))
  ·rintro v h3 ⟨b,s'',hd2,rfl,m3,f3⟩
   refine R_op rfl rfl rfl (R_nil ?_)
   simp only [sN,s0,sS,a0,aS,aC]
   obtain ⟨fr',e1,e2⟩:=hk (.int .i64 b) _ ⟨b,_,by show denK 8 n [den T0,den T1] env s = _; simp only [denK,hd,bindD,hd2],rfl,m3,(f1.trans f2).trans f3⟩
   exact R_ret ⟨rfl,rfl,rfl,rfl⟩ hF rfl e1 e2
  ·rintro q h3 ⟨b,s'',hd2,rfl,m3,f3⟩
   exact Qa3 (x:=⟨Qdp,[],.normal,none,caller :: cs⟩) rfl rfl (hp _ h3 ⟨b,s'',by show denK 8 n [den T0,den T1] env s = _; simp only [denK,hd,bindD,hd2],rfl,m3,(f1.trans f2).trans f3⟩)
 ·rintro q h2 ⟨a,s',hd,rfl,m2,f2⟩
  exact Qa3 (x:=⟨Qdp,[],.normal,none,caller :: cs⟩) rfl rfl (hp _ h2 ⟨a,s',by show denK 8 n [den T0,den T1] env s = _; simp only [denK,hd,bindD],rfl,m2,f1.trans f2⟩)
theorem try_ctr (hF : F i_try = some QiK) (hW : F QdF = some Qdq) (hM : ∀ as,M QaT as = none) (hMw : ∀ as,M QdF as = none) (hMc : ∀ as,M QbK as = none) {n : Int} {T0 T1 : LT} (ih0 : QjE F M T0) (ih1 : EvalC F M QaT T1) : EvalC F M i_try (.mk 6 n [T0,T1]):=by
 intro c env s h row m hrep hb
 refine Ctr.intro hF fun caller cs G hk hp=>?_
 simp only [QiK,fn49,List.length_cons,List.length_nil,Nat.reduceAdd,Nat.reduceSub,rZ,rS,pN,pC]
 cases hrep with
 | mk _ _ _ lv p r hl hpp hr =>
 simp [wk,wks,reps] at hb
 obtain ⟨q1,q2,q3⟩:=hpp 0 (by simp)
 obtain ⟨u1,u2,u3⟩:=hpp 1 (by simp)
 have hr0 : Rep c.N h T0 (r 0):=hr 0 (by simp)
 have hr1 : Rep c.N h T1 (r 1):=hr 1 (by simp)
 refine R_seq (Qaa (R_op rfl rfl rfl (R_op rfl rfl rfl (R_nil ?_))))
 simp only [sN,s0,sS,a0,aS,aC,AV.cells]
 obtain ⟨m1,f1,g1,L1,K1⟩:=boxed m (.cells [.int .i64 6,.int .i64 n,lv] (some 51) 0 [])
 generalize h.alloc (.cells [.int .i64 6,.int .i64 n,lv] (some 51) 0 []) = h1 at m1 f1 g1 L1 K1 ⊢
 rw [← QaO L1 q2] at q3
 refine R_seq (Qaa (R_op rfl rfl rfl (R_op rfl rfl rfl (R_op rfl rfl (Qal rfl g1 rfl) (R_op rfl rfl (Qbl rfl rfl q1) (R_op rfl rfl (Qbp rfl q3) (Qau rfl rfl rfl (hMc _) (ih0 c env s h1 (r 0) m1 (hr0.low L1) (QkT hr0) (by omega)) ?_ (fun _ _ e=>e.elim))))))))
 rintro v h2 ⟨a,z,s',hd,rfl,m2,f2⟩
 refine R_op rfl rfl rfl (R_op rfl rfl rfl (R_op rfl rfl rfl (R_op rfl rfl rfl (R_op rfl rfl rfl (R_nil ?_)))))
 simp only [sN,s0,sS,a0,aS,aC]
 refine R_seq (R_seq (Qaa (R_op rfl rfl rfl (R_op rfl rfl rfl (R_nil ?_)))))
 simp only [sN,s0,sS,a0,aS,aC]
 rcases hd with ⟨hd,rfl⟩ | ⟨hd,rfl⟩
 ·refine QaM rfl (R_seq (Qaa (R_op rfl rfl rfl (R_op rfl rfl rfl (R_nil ?_)))))
  simp only [sN,s0,sS,a0,aS,aC]
  obtain ⟨fr',e1,e2⟩:=hk (.int .i64 a) _ ⟨a,_,by show denK 6 n [den T0,den T1] env s = _; simp only [denK,hd,QdI],rfl,m2,f1.trans f2⟩
  exact R_ret ⟨rfl,rfl,rfl,rfl⟩ hF rfl e1 e2
 ·refine Qaw rfl (QaF ?_)
  have L2:=m.low (f1.trans f2)
  rw [← QaO L2 u2] at u3
  refine R_seq (Qaa (R_op rfl rfl rfl (R_op rfl rfl rfl (R_op rfl rfl rfl (R_op rfl rfl (Qal rfl (K1 h2 f2) rfl) (R_op rfl rfl (Qbl rfl rfl u1) (R_op rfl rfl (Qbp rfl u3) (Qau rfl rfl rfl (hM _) (ih1 c env s' h2 (r 1) m2 (hr1.low L2) (by have:=Qdr hd; omega)) ?_ ?_))))))))
  ·rintro v h3 ⟨b,s'',hd2,rfl,m3,f3⟩
   refine R_op rfl rfl rfl ?_
   simp only [sN,s0,sS,a0,aS,aC]
   refine Qau rfl rfl rfl (hMw _) (Qhn hW (IntKind.i64.wrap (a + b)) h3) ?_ (fun _ _ e=>e.elim)
   rintro v h4 ⟨rfl,rfl⟩
   refine R_op rfl rfl rfl (R_nil ?_)
   simp only [sN,s0,sS,a0,aS,aC]
   obtain ⟨fr',e1,e2⟩:=hk (.int .i64 (addS a b)) _ ⟨addS a b,_,by show denK 6 n [den T0,den T1] env s = _; simp only [denK,hd,QdI,bindD,hd2],rfl,m3,(f1.trans f2).trans f3⟩
   exact R_ret ⟨rfl,rfl,rfl,rfl⟩ hF rfl e1 e2
  ·rintro q h3 ⟨b,s'',hd2,rfl,m3,f3⟩
   exact Qa3 (x:=⟨i_try,[],.normal,none,caller :: cs⟩) rfl rfl (hp _ h3 ⟨b,s'',by show denK 6 n [den T0,den T1] env s = _; simp only [denK,hd,QdI,bindD,hd2],rfl,m3,(f1.trans f2).trans f3⟩)
theorem Mst.stAt {c : Cx} {env : Int} {s : Sg} {h : AH} (m : Mst c env s h) : ∃ l sp,h.get c.bm = some (.cells l sp 0 []) ∧ l.length = 8 ∧ l[0]? = some (.int .i64 s.st):=by
 obtain ⟨tv,sp,h1,h2⟩:=m.obj
 exact ⟨_,sp,h1,rfl,rfl⟩
theorem safe_ctr (hF : F Qf9 = some QfF) (hW : F QdF = some Qdq) (hM : ∀ as,M QaT as = none) (hMw : ∀ as,M QdF as = none) (hMc : ∀ as,M QbK as = none) {n : Int} {T0 T1 : LT} (ih0 : QjE F M T0) (ih1 : EvalC F M QaT T1) : EvalC F M Qf9 (.mk 7 n [T0,T1]):=by
 intro c env s h row m hrep hb
 refine Ctr.intro hF fun caller cs G hk hp=>?_
 simp only [QfF,fn50,List.length_cons,List.length_nil,Nat.reduceAdd,Nat.reduceSub,rZ,rS,pN,pC]
 cases hrep with
 | mk _ _ _ lv p r hl hpp hr =>
 simp [wk,wks,reps] at hb
 obtain ⟨q1,q2,q3⟩:=hpp 0 (by simp)
 obtain ⟨u1,u2,u3⟩:=hpp 1 (by simp)
 have hr0 : Rep c.N h T0 (r 0):=hr 0 (by simp)
 have hr1 : Rep c.N h T1 (r 1):=hr 1 (by simp)
 refine R_seq (Qaa (R_op rfl rfl rfl (R_op rfl rfl rfl (R_nil ?_))))
 simp only [sN,s0,sS,a0,aS,aC,AV.cells]
 obtain ⟨m1,f1,g1,L1,K1⟩:=boxed m (.cells [.int .i64 7,.int .i64 n,lv] (some 51) 0 [])
 generalize h.alloc (.cells [.int .i64 7,.int .i64 n,lv] (some 51) 0 []) = h1 at m1 f1 g1 L1 K1 ⊢
 obtain ⟨ls,sps,gs,hls,hvs⟩:=m1.stAt
 refine R_seq (Qaa (R_op rfl rfl rfl (R_op rfl rfl rfl (R_op rfl rfl rfl (R_op rfl rfl rfl (R_op rfl rfl (Qal rfl gs hvs) (R_op rfl rfl rfl (R_nil ?_))))))))
 simp only [sN,s0,sS,a0,aS,aC]
 rw [← QaO L1 q2] at q3
 refine R_seq (Qaa (R_op rfl rfl rfl (R_op rfl rfl rfl (R_op rfl rfl (Qal rfl g1 rfl) (R_op rfl rfl (Qbl rfl rfl q1) (R_op rfl rfl (Qbp rfl q3) (Qau rfl rfl rfl (hMc _) (ih0 c env s h1 (r 0) m1 (hr0.low L1) (QkT hr0) (by omega)) ?_ (fun _ _ e=>e.elim))))))))
 rintro v h2 ⟨a,z,s',hd,rfl,m2,f2⟩
 refine R_op rfl rfl rfl (R_op rfl rfl rfl (R_op rfl rfl rfl (R_op rfl rfl rfl (R_op rfl rfl rfl (R_nil ?_)))))
 simp only [sN,s0,sS,a0,aS,aC]
 refine R_seq (R_seq (Qaa (R_op rfl rfl rfl (R_op rfl rfl rfl (R_nil ?_)))))
 simp only [sN,s0,sS,a0,aS,aC]
 rcases hd with ⟨hd,rfl⟩ | ⟨hd,rfl⟩
 ·refine QaM rfl (R_seq (Qaa (R_op rfl rfl rfl (R_op rfl rfl rfl (R_nil ?_)))))
  simp only [sN,s0,sS,a0,aS,aC]
  obtain ⟨fr',e1,e2⟩:=hk (.int .i64 a) _ ⟨a,_,by show denK 7 n [den T0,den T1] env s = _; simp only [denK,hd,QdI],rfl,m2,f1.trans f2⟩
  exact R_ret ⟨rfl,rfl,rfl,rfl⟩ hF rfl e1 e2
 ·refine Qaw rfl (QaF ?_)
  obtain ⟨l,sp,g3,hlen,m3,f3⟩:=m2.setSt s.st
  refine R_seq (Qaa (R_op rfl rfl rfl (R_op rfl rfl rfl (R_op rfl rfl rfl (R_op rfl rfl rfl (R_op rfl rfl rfl (R_op rfl rfl (Qbd rfl rfl rfl rfl rfl g3 (by omega)) (R_nil ?_))))))))
  simp only [sN,s0,sS,a0,aS,aC]
  generalize h2.put c.bm (.cells (splice l 0 [.int .i64 s.st]) sp 0 []) = h3 at m3 f3 ⊢
  have L3:=m.low ((f1.trans f2).trans f3)
  rw [← QaO L3 u2] at u3
  refine R_seq (Qaa (R_op rfl rfl rfl (R_op rfl rfl rfl (R_op rfl rfl rfl (R_op rfl rfl (Qal rfl (K1 h3 (f2.trans f3)) rfl) (R_op rfl rfl (Qbl rfl rfl u1) (R_op rfl rfl (Qbp rfl u3) (Qau rfl rfl rfl (hM _) (ih1 c env _ h3 (r 1) m3 (hr1.low L3) (by have:=Qdr hd; simp only; omega)) ?_ ?_))))))))
  ·rintro v h4 ⟨b,s'',hd2,rfl,m4,f4⟩
   refine R_op rfl rfl rfl ?_
   simp only [sN,s0,sS,a0,aS,aC]
   refine Qau rfl rfl rfl (hMw _) (Qhn hW (IntKind.i64.wrap (a + b)) h4) ?_ (fun _ _ e=>e.elim)
   rintro v h5 ⟨rfl,rfl⟩
   refine R_op rfl rfl rfl (R_nil ?_)
   simp only [sN,s0,sS,a0,aS,aC]
   obtain ⟨fr',e1,e2⟩:=hk (.int .i64 (addS a b)) _ ⟨addS a b,_,by show denK 7 n [den T0,den T1] env s = _; simp only [denK,hd,QdI,bindD,hd2],rfl,m4,((f1.trans f2).trans f3).trans f4⟩
   exact R_ret ⟨rfl,rfl,rfl,rfl⟩ hF rfl e1 e2
  ·rintro q h4 ⟨b,s'',hd2,rfl,m4,f4⟩
   exact Qa3 (x:=⟨Qf9,[],.normal,none,caller :: cs⟩) rfl rfl (hp _ h4 ⟨b,s'',by show denK 7 n [den T0,den T1] env s = _; simp only [denK,hd,QdI,bindD,hd2],rfl,m4,((f1.trans f2).trans f3).trans f4⟩)
end
end Go.Ab.L22
namespace Go.Ab.L22
open Go Go.Ab
theorem x_appNil {h : AH} {ev : AOpd → AV} {sl x : AOpd} {b' : Nat} {v : AV} {sp : Option Nat} (hx : ev x = .slice b' 0 1 1) (hg : h.get b' = some (.cells [v] sp 0 [])) (hv : v.one = true) (hs : ev sl = .nilslice) :
  exec h ev (.append 1 8 6 sl x) = some (.slop h.next 0 1 1,h.alloc (.cells [v] (some 6) 0 [])):=by
 have e : QbV 1 8 6 h 1 [v] .nilslice = some (.slop h.next 0 1 1,h.alloc (.cells [v] (some 6) 0 [])):=by
  unfold QbV
  rw [if_pos ⟨rfl,by decide,by decide,by decide,by decide,by simp [hv]⟩,if_neg (by decide)]
 simp [exec,hx,hs,lenA,Qbj,AH.read,AH.cellsAt,hg,e]
theorem Qp9 {h : AH} {ev : AOpd → AV} {sl x : AOpd} {b b' : Nat} {v : AV} {l : List AV} {sp : Option Nat} {pre : Nat} {anc : List Nat} (hx : ev x = .slice b' 0 1 1) (hg : h.get b' = some (.cells [v] sp 0 [])) (hv : v.one = true) (hs : ev sl = .slop b 0 l.length 1)
  (hl : h.get b = some (.cells l (some 6) pre anc)) (hb : l.length < 100000000000) : exec h ev (.append 1 8 6 sl x) = some (.slop h.next 0 (l.length + 1) 1,(h.put b (.old l)).alloc (.cells (l ++ [v]) (some 6) (l.length * 1) (b :: anc))):=by
 have h1 : l.length * 8 < 1000000000000:=by omega
 have h2 : ¬ (l.length + 1 ≤ l.length):=by omega
 have e : QbV 1 8 6 h 1 [v] (.slop b 0 l.length 1) = some (.slop h.next 0 (l.length + 1) 1,(h.put b (.old l)).alloc (.cells (l ++ [v]) (some 6) (l.length * 1) (b :: anc))):=by
  unfold QbV
  rw [if_pos ⟨rfl,by decide,by decide,by decide,by decide,by simp [hv]⟩,if_neg (by decide)]
  simp only [hl]
  rw [if_pos (by refine ⟨h1,by omega,?_⟩; simp),if_neg (by simp),if_pos (by omega)]
  rfl
 simp only [exec,hx,hs,lenA,Qbj,AH.read,AH.cellsAt,hg]
 exact e
theorem Mst.tell {c : Cx} {env : Int} {s : Sg} {h : AH} (m : Mst c env s h) {b' : Nat} {a : Int} {sq : Option Nat} (hg' : h.get b' = some (.cells [.int .i64 a] sq 0 [])) (hb : s.told.length < 100000000000) :
  ∃ l sp tv tv' h',h.get c.bm = some (.cells l sp 0 []) ∧ l.length = 8 ∧ l[6]? = some tv ∧ (∀ ev sl x,ev x = .slice b' 0 1 1 → ev sl = tv → exec h ev (.append 1 8 6 sl x) = some (tv',h')) ∧ h'.get c.bm = some (.cells l sp 0 []) ∧ tv'.known = true ∧ tv'.cells = [tv'] ∧ tv'.one = true ∧
   Mst c env { s with told:=s.told ++ [a] } (h'.put c.bm (.cells (splice l 6 [tv']) sp 0 [])) ∧ Fr c.bm h (h'.put c.bm (.cells (splice l 6 [tv']) sp 0 [])):=by
 obtain ⟨tv,sp,h1,h2⟩:=m.obj
 have hbm:=m.bm_lt
 have hdm : c.bd ≠ c.bm:=fun e=>by have:=m.does; rw [e,h1] at this; cases this
 have hdl:=Qbi m.wf m.does
 rcases h2 with ⟨rfl,ht⟩ | ⟨b,pre,anc,rfl,h3,h4,h5⟩
 ·refine ⟨_,sp,_,_,_,h1,rfl,rfl,fun ev sl x hx hs=>x_appNil hx hg' rfl hs,?_,rfl,rfl,rfl,?_,?_⟩
  ·rw [Qay h _ hbm]; exact h1
  ·refine ⟨⟨_,sp,get_put _ _ _,.inr ⟨h.next,0,[],?_,?_,?_,?_⟩⟩,?_,fun x hx=>?_,m.lo,m.lod⟩
   ·simp [ht]
   ·rw [Qaj _ _ (by omega),QaV]; simp [ht]
   ·have:=m.lo; omega
   ·omega
   ·rw [Qaj _ _ hdm,Qay h _ hdl]; exact m.does
   ·have hx' : h.next + 1 ≤ x:=hx
    rw [Qaj _ _ (by omega)]
    show (if x = h.next then _ else h.get x) = none
    rw [if_neg (by omega)]
    exact m.wf x (by omega)
  ·refine ⟨Nat.le_succ _,fun x hx hne _=>?_,fun x hx=>.inr ?_⟩
   ·rw [Qaj _ _ hne,Qay h _ hx]
   ·unfold toldOf at hx
    rw [get_put] at hx
    have hx' : some h.next = some x:=hx
    cases hx'
    exact Nat.le_refl _
 ·have hbl:=Qbi m.wf h3
  have hlen : (s.told.map (AV.int .i64)).length = s.told.length:=by simp
  have hbd : b ≠ c.bd:=fun e=>by have:=m.does; rw [← e,h3] at this; cases this
  refine ⟨_,sp,_,_,_,h1,rfl,rfl,fun ev sl x hx hs=>Qp9 (l:=s.told.map (AV.int .i64)) hx hg' rfl (by rw [hlen]; exact hs) h3 (by rw [hlen]; exact hb),?_,rfl,rfl,rfl,?_,?_⟩
  ·rw [Qay (h.put b _) _ hbm,Qaj h _ (Ne.symm h5)]; exact h1
  ·refine ⟨⟨_,sp,get_put _ _ _,.inr ⟨h.next,(s.told.map (AV.int .i64)).length * 1,b :: anc,?_,?_,?_,?_⟩⟩,?_,fun x hx=>?_,m.lo,m.lod⟩
   ·simp [QeQ]
   ·rw [Qaj _ _ (by omega)]
    have:=QaV (h.put b (.old (s.told.map (AV.int .i64)))) (.cells (s.told.map (AV.int .i64) ++ [.int .i64 a]) (some 6) ((s.told.map (AV.int .i64)).length * 1) (b :: anc))
    rw [QeQ] at this
    rw [this]
    simp
   ·have:=m.lo; omega
   ·omega
   ·rw [Qaj _ _ hdm,Qay (h.put b _) _ hdl,Qaj h _ (Ne.symm hbd)]; exact m.does
   ·have hx' : h.next + 1 ≤ x:=hx
    rw [Qaj _ _ (by omega)]
    show (if x = h.next then _ else (h.put b _).get x) = none
    rw [if_neg (by omega),Qaj h _ (by omega)]
    exact m.wf x (by omega)
  ·refine ⟨Nat.le_succ _,fun x hx hne ht=>?_,fun x hx=>.inr ?_⟩
   ·have hxb : x ≠ b:=fun e=>ht (by unfold toldOf; rw [h1,e]; rfl)
    rw [Qaj _ _ hne,Qay (h.put b _) _ hx,Qaj h _ hxb]
   ·unfold toldOf at hx
    rw [get_put] at hx
    have hx' : some h.next = some x:=hx
    cases hx'
    exact Nat.le_refl _
section
variable {F : FuncId → Option AFun} {M : Memo}
theorem tell_ctr (hF : F Qf8 = some QfE) (hM : ∀ as,M QaT as = none) {n : Int} {T0 : LT} (ih : EvalC F M QaT T0) : EvalC F M Qf8 (.mk 4 n [T0]):=by
 intro c env s h row m hrep hb
 refine Ctr.intro hF fun caller cs G hk hp=>?_
 simp only [QfE,fn47,List.length_cons,List.length_nil,Nat.reduceAdd,Nat.reduceSub,rZ,rS,pN,pC]
 cases hrep with
 | mk _ _ _ lv p r hl hpp hr =>
 simp [wk,wks,reps] at hb
 obtain ⟨q1,q2,q3⟩:=hpp 0 (by simp)
 have hr0 : Rep c.N h T0 (r 0):=hr 0 (by simp)
 refine R_seq (Qaa (R_op rfl rfl rfl (R_op rfl rfl rfl (R_nil ?_))))
 simp only [sN,s0,sS,a0,aS,aC,AV.cells]
 obtain ⟨m1,f1,g1,L1,K1⟩:=boxed m (.cells [.int .i64 4,.int .i64 n,lv] (some 51) 0 [])
 generalize h.alloc (.cells [.int .i64 4,.int .i64 n,lv] (some 51) 0 []) = h1 at m1 f1 g1 L1 K1 ⊢
 rw [← QaO L1 q2] at q3
 refine R_seq (Qaa (R_op rfl rfl rfl (R_op rfl rfl rfl (R_op rfl rfl (Qal rfl g1 rfl) (R_op rfl rfl (Qbl rfl rfl q1) (R_op rfl rfl (Qbp rfl q3) (Qau rfl rfl rfl (hM _) (ih c env s h1 (r 0) m1 (hr0.low L1) (by omega)) ?_ ?_)))))))
 ·rintro v h2 ⟨a,s',hd,rfl,m2,f2⟩
  refine R_op rfl rfl rfl (R_nil ?_)
  simp only [sN,s0,sS,a0,aS,aC]
  have m3:=m2.alloc (.cells [.int .i64 a] none 0 [])
  have f3:=Fr.alloc m2 (.cells [.int .i64 a] none 0 [])
  have g3:=QaV h2 (.cells [.int .i64 a] none 0 [])
  obtain ⟨l,sp,tv,tv',h4,k1,k2,k3,k4,k5,k6,k7,k8,m4,f4⟩:=m3.tell g3 (by have:=Qdr hd; omega)
  have k1' : h2.get c.bm = some (.cells l sp 0 []):=by rw [← Qay h2 (.cells [.int .i64 a] none 0 []) m2.bm_lt]; exact k1
  refine R_seq (Qaa (R_op rfl rfl rfl (R_op rfl rfl rfl (R_op rfl rfl rfl (R_op rfl rfl rfl (R_op rfl rfl (Qal rfl k1' k3) (R_op rfl rfl rfl (R_op rfl rfl rfl (R_op rfl rfl (k4 _ _ _ rfl rfl) (R_op rfl rfl rfl (R_op rfl rfl rfl (R_op rfl rfl (Qbd rfl rfl k6 k7 k8 k5 (by omega)) (R_nil ?_)))))))))))))
  simp only [sN,s0,sS,a0,aS,aC]
  refine R_seq (Qaa (R_op rfl rfl rfl (R_op rfl rfl rfl (R_nil ?_))))
  simp only [sN,s0,sS,a0,aS,aC]
  obtain ⟨fr',e1,e2⟩:=hk (.int .i64 a) _ ⟨a,_,by show denK 4 n [den T0] env s = _; simp only [denK,hd,bindD],rfl,m4,((f1.trans f2).trans f3).trans f4⟩
  exact R_ret ⟨rfl,rfl,rfl,rfl⟩ hF rfl e1 e2
 ·rintro q h2 ⟨a,s',hd,rfl,m2,f2⟩
  exact Qa3 (x:=⟨Qf8,[],.normal,none,caller :: cs⟩) rfl rfl (hp _ h2 ⟨a,s',by show denK 4 n [den T0] env s = _; simp only [denK,hd,bindD],rfl,m2,f1.trans f2⟩)
end
end Go.Ab.L22
namespace Go.Ab.L22
open Go Go.Ab
def QoZ : AC:=match fn_each.body with | .seq _ (.seq _ (.seq (.seq _ (.block _ (.loop b))) _))=>b | _=>.skip
def eachRest : AC:=match fn_each.body with | .seq _ (.seq _ (.seq (.seq _ (.block _ (.loop _))) b))=>b | _=>.skip
theorem wrap_small {i : Int} (h0 : 0 ≤ i) (h1 : i < 5) : IntKind.i64.wrap (i + 1) = i + 1:=by
 have : i = 0 ∨ i = 1 ∨ i = 2 ∨ i = 3 ∨ i = 4:=by omega
 rcases this with rfl | rfl | rfl | rfl | rfl <;> rfl
section
variable {F : FuncId → Option AFun} {M : Memo}
theorem each_ctr (hF : F Qfd = some fn_each) (hW : F QdF = some Qdq) (hMw : ∀ as,M QdF as = none) (hMv : ∀ as,M Qeg as = none) {n : Int} {T0 : LT} (hn : 0 ≤ n ∧ n ≤ 4) (ih : WithC F M T0) : EvalC F M Qfd (.mk 12 n [T0]):=by
 intro c env s h row m hrep hb
 refine Ctr.intro hF fun caller cs G hk hp=>?_
 simp only [fn_each,fn55,List.length_cons,List.length_nil,Nat.reduceAdd,Nat.reduceSub,rZ,rS,pN,pC]
 cases hrep with
 | mk _ _ _ lv p r hl hpp hr =>
 simp [wk,wks,reps] at hb
 obtain ⟨q1,q2,q3⟩:=hpp 0 (by simp)
 have hr0 : Rep c.N h T0 (r 0):=hr 0 (by simp)
 refine R_seq (Qaa (R_op rfl rfl rfl (R_op rfl rfl rfl (R_nil ?_))))
 simp only [sN,s0,sS,a0,aS,aC,AV.cells]
 obtain ⟨m1,f1,g1,L1,K1⟩:=boxed m (.cells [.int .i64 12,.int .i64 n,lv] (some 51) 0 [])
 generalize h.alloc (.cells [.int .i64 12,.int .i64 n,lv] (some 51) 0 []) = h1 at m1 f1 g1 L1 K1 ⊢
 refine R_seq (Qaa (R_op rfl rfl rfl (R_nil ?_)))
 simp only [sN,s0,sS,a0,aS,aC]
 refine R_seq (R_seq (Qaa (R_op rfl rfl rfl (R_op rfl rfl (Qal rfl g1 rfl) (R_op rfl rfl rfl (R_nil ?_))))))
 simp only [sN,s0,sS,a0,aS,aC]
 refine QaS (QeH ?_)
 have loop : ∀ (j : Nat) (i sum : Int) (s1 : Sg) (h2 : AH) (y6 y10 y11 y12 y13 y14 y15 y16 y17 y18 y19 y20 y21 y22 y23 : AV),0 ≤ i → i + j = n → s1.told.length + j * wk T0 < 100000000000 → Mst c env s1 h2 → Fr c.bm h1 h2 →
   (∀ o s2,eachD (den T0) j i sum s1 = (o,s2) → denK 12 n [den T0] env s = (o,s2)) →
   Reach F M ((⟨Qfd,[],.normal,none,caller :: cs⟩ : Ctx).at [.ptr c.bm 0,.agg [.int .i64 12,.int .i64 n,lv],.undef,.ptr h.next 0,.int .i64 0,.int .i64 sum,y6,.ptr h.next (0 + 1),.int .i64 n,.int .i64 i,y10,y11,y12,y13,y14,y15,y16,y17,y18,y19,y20,y21,y22,y23,.undef]
    [.code QoZ,.inLoop QoZ,.inBlock 0,.code eachRest] h2) G:=by
  intro j
  induction j with
  | zero =>
   intro i sum s1 h2 y6 y10 y11 y12 y13 y14 y15 y16 y17 y18 y19 y20 y21 y22 y23 hi hj hbd m2 f2 hden
   have hlt : ¬ i < n:=by omega
   refine R_seq (Qaa (R_op rfl rfl rfl (R_nil ?_)))
   simp only [sN,s0,sS,a0,aS,aC]
   refine R_seq (Qaw (show AV.bool (decide (i < n)) = .bool false by simp [hlt]) (Qfj rfl ?_))
   refine R_seq (Qaa (R_op rfl rfl rfl (R_op rfl rfl rfl (R_nil ?_))))
   simp only [sN,s0,sS,a0,aS,aC]
   obtain ⟨fr',e1,e2⟩:=hk (.int .i64 sum) h2 ⟨sum,s1,hden _ _ rfl,rfl,m2,f1.trans f2⟩
   exact R_ret ⟨rfl,rfl,rfl,rfl⟩ hF rfl e1 e2
  | succ j ihj =>
   intro i sum s1 h2 y6 y10 y11 y12 y13 y14 y15 y16 y17 y18 y19 y20 y21 y22 y23 hi hj hbd m2 f2 hden
   have hlt : i < n:=by omega
   have hw : IntKind.i64.wrap (i + 1) = i + 1:=wrap_small hi (by omega)
   rw [Nat.succ_mul] at hbd
   refine R_seq (Qaa (R_op rfl rfl rfl (R_nil ?_)))
   simp only [sN,s0,sS,a0,aS,aC]
   refine R_seq (QaM (show AV.bool (decide (i < n)) = .bool true by simp [hlt]) (QaF ?_))
   refine R_seq (QaS (R_seq (Qaa (R_op rfl rfl rfl (R_op rfl rfl rfl (R_nil ?_))))))
   simp only [sN,s0,sS,a0,aS,aC]
   have L2:=m.low (f1.trans f2)
   have u3:=q3
   rw [← QaO L2 q2] at u3
   refine Qaa (R_op rfl rfl rfl (R_op rfl rfl rfl (R_op rfl rfl rfl (R_op rfl rfl rfl (R_op rfl rfl rfl (R_op rfl rfl (Qal rfl (K1 h2 f2) rfl) (R_op rfl rfl (Qbl rfl rfl q1) (R_op rfl rfl (Qbp rfl u3) (Qau rfl rfl rfl (hMv _) (ih c env (IntKind.i64.wrap (i + 1)) s1 h2 (r 0) m2 (hr0.low L2) (QkT hr0) (by omega)) ?_ ?_)))))))))
   ·rintro v h3 ⟨a,s2,hd,rfl,m3,f3⟩
    refine R_op rfl rfl rfl ?_
    simp only [sN,s0,sS,a0,aS,aC]
    refine Qau rfl rfl rfl (hMw _) (Qhn hW (IntKind.i64.wrap (sum + a)) h3) ?_ (fun _ _ e=>e.elim)
    rintro v h4 ⟨rfl,rfl⟩
    refine R_op rfl rfl rfl (R_nil (QaQ (Qaa (R_op rfl rfl rfl (R_op rfl rfl rfl (R_nil ?_))))))
    simp only [sN,s0,sS,a0,aS,aC]
    refine Qbo ?_
    have hlen:=Qdr hd
    refine ihj (IntKind.i64.wrap (i + 1)) (addS sum a) s2 _ _ _ _ _ _ _ _ _ _ _ _ _ _ _ _ (by omega) (by omega) (by omega) m3 (f2.trans f3) fun o s3 he=>hden o s3 ?_
    simp only [eachD,hd,bindD]
    exact he
   ·rintro q h3 ⟨a,s2,hd,rfl,m3,f3⟩
    exact Qa3 (x:=⟨Qfd,[],.normal,none,caller :: cs⟩) rfl rfl (hp _ h3 ⟨a,s2,hden _ _ (by simp only [eachD,hd,bindD]),rfl,m3,(f1.trans f2).trans f3⟩)
 exact loop n.toNat 0 0 s h1 _ _ _ _ _ _ _ _ _ _ _ _ _ _ _ (by omega) (by omega) (by omega) m1 (Fr.refl _ _) fun o s2 he=>he
end
end Go.Ab.L22
namespace Go.Ab.L22
open Go Go.Ab
theorem x_lookup {h : AH} {ev : AOpd → AV} {m k : AOpd} {b : Nat} {kk : Int} {z v : AV} {i cl : Nat} {es : List (AV × AV × Nat)} (hk : ev k = .int .i64 kk) (hm : ev m = .map b) (hg : h.get b = some (.map es cl)) (hf : findA (.int .i64 kk) es 0 = some (some (i,v))) :
  exec h ev (.lookup 0 z m k true) = some (.tuple [v,.bool true],h):=by
 simp [exec,hk,hm,hg,hf,AV.keyKind]
theorem Qpf {h : AH} {ev : AOpd → AV} {m k : AOpd} {b : Nat} {kk : Int} {z : AV} {cl : Nat} {es : List (AV × AV × Nat)} (hk : ev k = .int .i64 kk) (hm : ev m = .map b) (hg : h.get b = some (.map es cl)) (hf : findA (.int .i64 kk) es 0 = some none) :
  exec h ev (.lookup 0 z m k true) = some (.tuple [z,.bool false],h):=by
 simp [exec,hk,hm,hg,hf,AV.keyKind]
theorem Mst.doesAt {c : Cx} {env : Int} {s : Sg} {h : AH} (m : Mst c env s h) : ∃ l sp,h.get c.bm = some (.cells l sp 0 []) ∧ l.length = 8 ∧ l[7]? = some (.map c.bd):=by
 obtain ⟨tv,sp,h1,h2⟩:=m.obj
 exact ⟨_,sp,h1,rfl,rfl⟩
section
variable {F : FuncId → Option AFun} {M : Memo}
/-- A kind with a method. -/
theorem Qbm (hF : F QaT = some Qd5) {fid : FuncId} (hM : ∀ as,M fid as = none) {k n : Int} {l : List LT} {i : Nat} (hf : ∀ bm,findA (.int .i64 k) (Qgi bm) 0 = some (some (i,.func fid [.ptr bm 0] []))) (hm : EvalC F M fid (.mk k n l)) : EvalC F M QaT (.mk k n l):=by
 intro c env s h row m hrep hb
 refine Ctr.intro hF fun caller cs G hk hp=>?_
 simp only [Qd5,fn57,List.length_cons,List.length_nil,Nat.reduceAdd,Nat.reduceSub,rZ,rS,pN,pC]
 obtain ⟨lv,rfl⟩ : ∃ lv,row = [.int .i64 k,.int .i64 n,lv]:=by cases hrep; exact ⟨_,rfl⟩
 refine R_seq (Qaa (R_op rfl rfl rfl (R_op rfl rfl rfl (R_nil ?_))))
 simp only [sN,s0,sS,a0,aS,aC,AV.cells]
 obtain ⟨m1,f1,g1,L1,K1⟩:=boxed m (.cells [.int .i64 k,.int .i64 n,lv] (some 51) 0 [])
 generalize h.alloc (.cells [.int .i64 k,.int .i64 n,lv] (some 51) 0 []) = h1 at m1 f1 g1 L1 K1 ⊢
 obtain ⟨ld,spd,gd,hld,hvd⟩:=m1.doesAt
 refine R_seq (R_seq (QaY (Qaf (Qab rfl rfl rfl rfl (Qab rfl rfl rfl rfl (Qab rfl rfl rfl rfl (Qab rfl rfl (Qal rfl gd hvd) rfl (Qab rfl rfl rfl rfl (Qab rfl rfl (Qal rfl g1 rfl) rfl (Qab rfl rfl (x_lookup rfl rfl m1.does (hf c.bm)) rfl ?_))))))))))
 simp only [sN,s0,sS,a0,aS,aC]
 refine Qab rfl rfl rfl rfl (Qab rfl rfl rfl rfl (Qab rfl rfl rfl rfl (Qab rfl rfl rfl rfl (Qab rfl rfl rfl rfl (Qap (Qat (QaX ?_)))))))
 simp only [sN,s0,sS,a0,aS,aC]
 refine R_seq (Qaa (R_op rfl rfl rfl (R_nil ?_)))
 simp only [sN,s0,sS,a0,aS,aC]
 refine QaM rfl (R_seq (Qaa (R_op rfl rfl rfl (R_op rfl rfl (Qbk rfl g1 (by simp)) (Qau rfl rfl rfl (hM _) (hm c env s h1 _ m1 (hrep.low L1) hb) ?_ ?_)))))
 ·rintro v h2 ⟨a,s',hd,rfl,m2,f2⟩
  refine R_op rfl rfl rfl (R_nil ?_)
  simp only [sN,s0,sS,a0,aS,aC]
  obtain ⟨fr',e1,e2⟩:=hk (.int .i64 a) _ ⟨a,_,hd,rfl,m2,f1.trans f2⟩
  exact R_ret ⟨rfl,rfl,rfl,rfl⟩ hF rfl e1 e2
 ·rintro q h2 ⟨a,s',hd,rfl,m2,f2⟩
  exact Qa3 (x:=⟨QaT,[],.normal,none,caller :: cs⟩) rfl rfl (hp _ h2 ⟨a,s',hd,rfl,m2,f1.trans f2⟩)
theorem QgP (hF : F QaT = some Qd5) {k n : Int} {l : List LT} (hkk : k = 0 ∨ k = 1 ∨ k = 3) (hl0 : l = []) : EvalC F M QaT (.mk k n l):=by
 intro c env s h row m hrep hb
 subst hl0
 refine Ctr.intro hF fun caller cs G hk hp=>?_
 simp only [Qd5,fn57,List.length_cons,List.length_nil,Nat.reduceAdd,Nat.reduceSub,rZ,rS,pN,pC]
 obtain ⟨lv,rfl⟩ : ∃ lv,row = [.int .i64 k,.int .i64 n,lv]:=by cases hrep; exact ⟨_,rfl⟩
 refine R_seq (Qaa (R_op rfl rfl rfl (R_op rfl rfl rfl (R_nil ?_))))
 simp only [sN,s0,sS,a0,aS,aC,AV.cells]
 obtain ⟨m1,f1,g1,L1,K1⟩:=boxed m (.cells [.int .i64 k,.int .i64 n,lv] (some 51) 0 [])
 generalize h.alloc (.cells [.int .i64 k,.int .i64 n,lv] (some 51) 0 []) = h1 at m1 f1 g1 L1 K1 ⊢
 obtain ⟨ld,spd,gd,hld,hvd⟩:=m1.doesAt
 have hf : findA (.int .i64 k) (Qgi c.bm) 0 = some none:=by rcases hkk with rfl | rfl | rfl <;> rfl
 refine R_seq (R_seq (QaY (Qaf (Qab rfl rfl rfl rfl (Qab rfl rfl rfl rfl (Qab rfl rfl rfl rfl (Qab rfl rfl (Qal rfl gd hvd) rfl (Qab rfl rfl rfl rfl (Qab rfl rfl (Qal rfl g1 rfl) rfl (Qab rfl rfl (Qpf rfl rfl m1.does hf) rfl ?_))))))))))
 simp only [sN,s0,sS,a0,aS,aC]
 refine Qab rfl rfl rfl rfl (Qab rfl rfl rfl rfl (Qab rfl rfl rfl rfl (Qab rfl rfl rfl rfl (Qab rfl rfl rfl rfl (Qap (Qat (QaX ?_)))))))
 simp only [sN,s0,sS,a0,aS,aC]
 refine R_seq (Qaa (R_op rfl rfl rfl (R_nil ?_)))
 simp only [sN,s0,sS,a0,aS,aC]
 refine Qaw rfl (QaF ?_)
 refine R_seq (R_seq (Qaa (R_op rfl rfl rfl (R_op rfl rfl (Qal rfl g1 rfl) (R_nil ?_)))))
 simp only [sN,s0,sS,a0,aS,aC]
 refine QaS (R_seq (Qaa (R_op rfl rfl rfl (R_op rfl rfl rfl (R_nil ?_)))))
 simp only [sN,s0,sS,a0,aS,aC]
 rcases hkk with rfl | rfl | rfl
 ·refine Qaw rfl (R_seq (Qaa (R_op rfl rfl rfl (R_op rfl rfl rfl (R_nil ?_)))))
  simp only [sN,s0,sS,a0,aS,aC]
  refine Qaw rfl (QaF (QaQ ?_))
  refine R_seq (Qaa (R_op rfl rfl rfl (R_op rfl rfl (Qal rfl g1 rfl) (R_op rfl rfl rfl (R_nil ?_)))))
  simp only [sN,s0,sS,a0,aS,aC]
  obtain ⟨fr',e1,e2⟩:=hk (.int .i64 n) _ ⟨n,s,rfl,rfl,m1,f1⟩
  exact R_ret ⟨rfl,rfl,rfl,rfl⟩ hF rfl e1 e2
 ·obtain ⟨ls,sps,gs,hls,hvs⟩:=m1.stAt
  refine QaM rfl (R_seq (Qaa (R_op rfl rfl rfl (R_op rfl rfl rfl (R_op rfl rfl rfl (R_op rfl rfl rfl (R_op rfl rfl (Qal rfl gs hvs) (R_op rfl rfl rfl (R_nil ?_)))))))))
  simp only [sN,s0,sS,a0,aS,aC]
  obtain ⟨fr',e1,e2⟩:=hk (.int .i64 s.st) _ ⟨s.st,s,rfl,rfl,m1,f1⟩
  exact R_ret ⟨rfl,rfl,rfl,rfl⟩ hF rfl e1 e2
 ·obtain ⟨ls,sps,gs,hls,hvs⟩:=m1.envAt
  refine Qaw rfl (R_seq (Qaa (R_op rfl rfl rfl (R_op rfl rfl rfl (R_nil ?_)))))
  simp only [sN,s0,sS,a0,aS,aC]
  refine QaM rfl (R_seq (Qaa (R_op rfl rfl rfl (R_op rfl rfl rfl (R_op rfl rfl rfl (R_op rfl rfl rfl (R_op rfl rfl (Qal rfl gs hvs) (R_op rfl rfl rfl (R_nil ?_)))))))))
  simp only [sN,s0,sS,a0,aS,aC]
  obtain ⟨fr',e1,e2⟩:=hk (.int .i64 env) _ ⟨env,s,rfl,rfl,m1,f1⟩
  exact R_ret ⟨rfl,rfl,rfl,rfl⟩ hF rfl e1 e2

structure Fns (F : FuncId → Option AFun) (M : Memo) : Prop where
 eval : F QaT = some Qd5
 put : F i_put = some QiL
 tell : F Qf8 = some QfE
 throw : F Qdo = some Qd2
 try' : F i_try = some QiK
 safe : F Qf9 = some QfF
 local' : F Qdp = some Qd3
 add : F i_add = some QiN
 then' : F Qfc = some QfC
 iff : F i_iff = some QiM
 each : F Qfd = some fn_each
 with' : F Qeg = some QfB
 with1 : F Qq8 = some Qd1
 caught : F QbK = some fn_caught
 caught1 : F QiC = some QbR
 wrap : F QdF = some Qdq
 mem : ∀ f,f = QaT ∨ f = i_put ∨ f = Qf8 ∨ f = Qdo ∨ f = i_try ∨ f = Qf9 ∨ f = Qdp ∨ f = i_add ∨ f = Qfc ∨ f = i_iff ∨ f = Qfd ∨ f = Qeg ∨ f = QbK ∨ f = QdF → ∀ as,M f as = none
theorem eval_of (H : Fns F M) {k n : Int} {l : List LT} (hr : Right (.mk k n l)) (ih : ∀ t,t ∈ l → EvalC F M QaT t) : EvalC F M QaT (.mk k n l):=by
 simp only [Right] at hr
 obtain ⟨h0,h12,hlen,h4,_⟩:=hr
 have hMe:=H.mem QaT (by simp)
 have hMw:=H.mem QdF (by simp)
 have hMc:=H.mem QbK (by simp)
 have hMv:=H.mem Qeg (by simp)
 have hk : k = 0 ∨ k = 1 ∨ k = 2 ∨ k = 3 ∨ k = 4 ∨ k = 5 ∨ k = 6 ∨ k = 7 ∨ k = 8 ∨ k = 9 ∨ k = 10 ∨ k = 11 ∨ k = 12:=by omega
 have wc : ∀ t,t ∈ l → WithC F M t:=fun t ht=>with_ctr H.with' H.with1 hMe (ih t ht)
 have cc : ∀ t,t ∈ l → QjE F M t:=fun t ht=>Qkx H.caught H.caught1 hMe (ih t ht)
 rcases hk with rfl | rfl | rfl | rfl | rfl | rfl | rfl | rfl | rfl | rfl | rfl | rfl | rfl <;> simp [parts] at hlen
 ·exact QgP H.eval (.inl rfl) hlen
 ·exact QgP H.eval (.inr (.inl rfl)) hlen
 ·match l,hlen,ih with
  | [t],_,ih=>exact Qbm H.eval (H.mem i_put (by simp)) (fun _=>rfl) (put_ctr H.put hMe (ih t (by simp)))
 ·exact QgP H.eval (.inr (.inr rfl)) hlen
 ·match l,hlen,ih with
  | [t],_,ih=>exact Qbm H.eval (H.mem Qf8 (by simp)) (fun _=>rfl) (tell_ctr H.tell hMe (ih t (by simp)))
 ·match l,hlen,ih with
  | [t],_,ih=>exact Qbm H.eval (H.mem Qdo (by simp)) (fun _=>rfl) (Qqk H.throw hMe (ih t (by simp)))
 ·match l,hlen,ih,cc with
  | [t,u],_,ih,cc=>exact Qbm H.eval (H.mem i_try (by simp)) (fun _=>rfl) (try_ctr H.try' H.wrap hMe hMw hMc (cc t (by simp)) (ih u (by simp)))
 ·match l,hlen,ih,cc with
  | [t,u],_,ih,cc=>exact Qbm H.eval (H.mem Qf9 (by simp)) (fun _=>rfl) (safe_ctr H.safe H.wrap hMe hMw hMc (cc t (by simp)) (ih u (by simp)))
 ·match l,hlen,ih,wc with
  | [t,u],_,ih,wc=>exact Qbm H.eval (H.mem Qdp (by simp)) (fun _=>rfl) (QqW H.local' hMe hMv (ih t (by simp)) (wc u (by simp)))
 ·match l,hlen,ih with
  | [t,u],_,ih=>exact Qbm H.eval (H.mem i_add (by simp)) (fun _=>rfl) (add_ctr H.add H.wrap hMe hMw (ih t (by simp)) (ih u (by simp)))
 ·match l,hlen,ih with
  | [t,u],_,ih=>exact Qbm H.eval (H.mem Qfc (by simp)) (fun _=>rfl) (then_ctr H.then' hMe (ih t (by simp)) (ih u (by simp)))
 ·match l,hlen,ih with
  | [t,u,v],_,ih=>exact Qbm H.eval (H.mem i_iff (by simp)) (fun _=>rfl) (iff_ctr H.iff hMe (ih t (by simp)) (ih u (by simp)) (ih v (by simp)))
 ·match l,hlen,wc with
  | [t],_,wc=>exact Qbm H.eval (H.mem Qfd (by simp)) (fun _=>rfl) (each_ctr H.each H.wrap hMw hMv (h4 rfl) (wc t (by simp)))
def AllE (F : FuncId → Option AFun) (M : Memo) : List LT → Prop
 | []=>True
 | t :: l=>EvalC F M QaT t ∧ AllE F M l
theorem AllE.mem : ∀ {l : List LT},AllE F M l → ∀ t,t ∈ l → EvalC F M QaT t
 | u :: l,h,t,ht=>by
  rcases List.mem_cons.1 ht with rfl | ht
  ·exact h.1
  ·exact AllE.mem h.2 t ht
mutual

theorem Qgg (H : Fns F M) : ∀ T : LT,Right T → EvalC F M QaT T
 | .mk _ _ l,hr=>eval_of H hr (AllE.mem (QmD H l (by simp only [Right] at hr; exact hr.2.2.2.2)))
theorem QmD (H : Fns F M) : ∀ l : List LT,QjD l → AllE F M l
 | [],_=>trivial
 | u :: l,hr=>⟨Qgg H u (by simp only [QjD] at hr; exact hr.1),QmD H l (by simp only [QjD] at hr; exact hr.2)⟩
end
end
end Go.Ab.L22
namespace Go.Ab.L22
open Go Go.Ab
/-- A heap that has only grown. -/
structure Up (h h' : AH) : Prop where
 next : h.next ≤ h'.next
 keep : ∀ b,b < h.next → h'.get b = h.get b
 wf : ∀ b,h'.next ≤ b → h'.get b = none
theorem Up.refl {h : AH} (wf : ∀ b,h.next ≤ b → h.get b = none) : Up h h:=⟨Nat.le_refl _,fun _ _=>rfl,wf⟩
theorem Up.trans {h h1 h2 : AH} (a : Up h h1) (b : Up h1 h2) : Up h h2:=⟨Nat.le_trans a.next b.next,fun x hx=>by rw [b.keep x (Nat.lt_of_lt_of_le hx a.next),a.keep x hx],b.wf⟩
theorem Up.low {N : Nat} {h h' : AH} (u : Up h h') (hN : N ≤ h.next) : Low N h h':=fun b hb=>u.keep b (Nat.lt_of_lt_of_le hb hN)
theorem Up.alloc {h0 h : AH} (u : Up h0 h) (o : AO) : Up h0 (h.alloc o):=by
 refine ⟨Nat.le_trans u.next (Nat.le_succ _),fun b hb=>?_,fun b hb=>?_⟩
 ·rw [Qay h o (Nat.lt_of_lt_of_le hb u.next),u.keep b hb]
 ·have hb' : h.next + 1 ≤ b:=hb
  have hne : b ≠ h.next:=by omega
  show (if b = h.next then some o else h.get b) = none
  rw [if_neg hne]
  exact u.wf b (by omega)
theorem Up.put {h0 h : AH} (u : Up h0 h) {b : Nat} (hb : h0.next ≤ b) (hl : b < h.next) (o : AO) : Up h0 (h.put b o):=by
 refine ⟨u.next,fun x hx=>?_,fun x hx=>?_⟩
 ·rw [Qaj _ _ (by omega),u.keep x hx]
 ·have hx' : h.next ≤ x:=hx
  rw [Qaj _ _ (by omega)]
  exact u.wf x hx'
theorem grown {h : AH} (u : Up h h) (o : AO) : Up h (h.alloc o) ∧ Up (h.alloc o) (h.alloc o) ∧ (h.alloc o).get h.next = some o ∧ (h.alloc o).next = h.next + 1:=⟨u.alloc o,.refl (u.alloc o).wf,QaV h o,rfl⟩
section
variable {h : AH} {ev : AOpd → AV}
theorem QfN {n : Nat} {a x : AOpd} {b : Nat} {l vs : List AV} {sp : Option Nat} (ha : ev a = .ptr b 0) (hx : ev x = .agg vs) (hv : vs.length = n) (ho : vs.all AV.one = true) (hg : h.get b = some (.cells l sp 0 [])) (hn : n ≤ l.length) :
  exec h ev (.store n a x) = some (.undef,h.put b (.cells (splice l 0 vs) sp 0 [])):=by
 subst hv
 simp only [exec,ha,hx,AV.cells,storeA,AH.store,hg]
 rw [if_pos ⟨rfl,trivial⟩,if_pos ⟨by omega,ho⟩,if_neg (by omega)]
 rfl
end
theorem Qak {t : List AV} {h : AH} {o : AOper} {a : AOp} {d : Nat} {v' : AV} {h2 : AH} (hw : Qav t o = some true) (ha : o.act = .op a) (hd : o.dst = some d) (hq : a.quiet = true) (he : exec h (aev t) a = some (v',h2)) (hs : t.getD d .undef = v') : again t h o = true:=by
 unfold again
 rw [hw]
 simp only [ha,hd,Option.map_some,hq,if_pos,he]
 rw [hs]
 exact AV.eqS_refl _
theorem QaB {t : List AV} {h : AH} {o : AOper} {a : AOp} {d : Nat} {b : Nat} {ob ob' : AO} (hw : Qav t o = some true) (ha : o.act = .op a) (hd : o.dst = some d) (hq : a.quiet = false) (hm : a.makes = true) (hb : (t.getD d .undef).block = some b) (ho : QgB t a = some ob) (hg : h.get b = some ob')
  (hs : AO.same ob' ob = true) : again t h o = true:=by
 unfold again
 rw [hw]
 simp only [ha,hd,Option.map_some,hq,hm,if_pos,hb,ho,hg]
 exact hs
def QcD (k : Int) : Int:=if k = 0 then 999 else if k = 12 then 4 else 0
def belowD (k : Int) : Int:=if k = 0 then 999 else 0
def zs (p b a : Int) : List AV:=[.int .i64 p,.int .i64 b,.int .i64 a]
def QcZ : List AV:=zs 0 999 999 ++ zs 0 0 0 ++ zs 1 0 0 ++ zs 0 0 0 ++ zs 1 0 0 ++ zs 1 0 0 ++ zs 2 0 0 ++ zs 2 0 0 ++ zs 2 0 0 ++ zs 2 0 0 ++ zs 2 0 0 ++ zs 3 0 0 ++ zs 1 0 4
section
variable {F : FuncId → Option AFun} {M : Memo}
theorem QqS (hF : F QgO = some QcP) {h : AH} (u : Up h h) : Ctr F M QgO [] h (fun v h'=>v = .agg QcZ ∧ Up h h') (fun _ _=>False):=by
 refine Ctr.intro hF fun caller cs G hk hp=>?_
 simp only [QcP,fn87,List.length_nil,Nat.reduceSub,rZ,rS,pN]
 refine R_seq (Qaa (R_op rfl rfl rfl (R_nil ?_)))
 simp only [sN,s0,sS,a0,aS,aC]
 obtain ⟨u1,u1',g1,n1⟩:=grown u (.cells (List.replicate 39 (.int .i64 0)) (some 295) 0 [])
 simp only [rZ,rS] at u1 u1' g1 n1
 generalize h.alloc _ = h1 at u1 u1' g1 n1 ⊢
 refine R_seq (Qaa ?_)
 refine R_op (v:=.agg (zs 0 999 999)) (h1:=h1) rfl rfl rfl ?_
 simp only [s0,sS]
 refine R_op (v:=.agg (zs 0 0 0)) (h1:=h1) rfl rfl rfl ?_
 simp only [s0,sS]
 refine R_op (v:=.agg (zs 1 0 0)) (h1:=h1) rfl rfl rfl ?_
 simp only [s0,sS]
 refine R_op (v:=.agg (zs 0 0 0)) (h1:=h1) rfl rfl rfl ?_
 simp only [s0,sS]
 refine R_op (v:=.agg (zs 1 0 0)) (h1:=h1) rfl rfl rfl ?_
 simp only [s0,sS]
 refine R_op (v:=.agg (zs 1 0 0)) (h1:=h1) rfl rfl rfl ?_
 simp only [s0,sS]
 refine R_op (v:=.agg (zs 2 0 0)) (h1:=h1) rfl rfl rfl ?_
 simp only [s0,sS]
 refine R_op (v:=.agg (zs 2 0 0)) (h1:=h1) rfl rfl rfl ?_
 simp only [s0,sS]
 refine R_op (v:=.agg (zs 2 0 0)) (h1:=h1) rfl rfl rfl ?_
 simp only [s0,sS]
 refine R_op (v:=.agg (zs 2 0 0)) (h1:=h1) rfl rfl rfl ?_
 simp only [s0,sS]
 refine R_op (v:=.agg (zs 2 0 0)) (h1:=h1) rfl rfl rfl ?_
 simp only [s0,sS]
 refine R_op (v:=.agg (zs 3 0 0)) (h1:=h1) rfl rfl rfl ?_
 simp only [s0,sS]
 refine R_op (v:=.agg (zs 1 0 4)) (h1:=h1) rfl rfl rfl ?_
 simp only [s0,sS]
 refine R_op (v:=.agg QcZ) (h1:=h1) rfl rfl ?_ (R_op rfl rfl (QfN (vs:=QcZ) rfl rfl rfl rfl g1 (Nat.le_refl 39)) (R_nil ?_))
 ·simp [exec,fillA,splice,QcZ,zs,a0,aS,aC,AV.cells,AV.one,AV.known]
 simp only [sN,s0,sS,a0,aS,aC]
 obtain ⟨fr',e1,e2⟩:=hk (.agg QcZ) _ ⟨rfl,u1.put (Nat.le_refl _) (by omega) _⟩
 refine R_ret ⟨rfl,rfl,rfl,rfl⟩ hF ?_ e1 e2
 simp only [QcP,fn87,QaE,List.mapM_cons,List.mapM_nil,QbU,List.getD_cons_zero,loadA,AH.read,AH.cellsAt,get_put]
 rfl
end
end Go.Ab.L22
