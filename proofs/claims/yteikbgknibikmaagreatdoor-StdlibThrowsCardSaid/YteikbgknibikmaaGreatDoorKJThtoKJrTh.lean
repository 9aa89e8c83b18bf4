/-
  A part of a proof: KJTh KJrTh.
-/
import Derived.OpenShut
import Derived.Carry
import Derived.WideShapes
import Derived.Test.YteikbgknibikmaaGreatDoorKLu22toCA22
import Derived.Test.YteikbgknibikmaaGreatDoorCFTh
import Derived.Test.YteikbgknibikmaaGreatDoorWTj22
import Derived.Test.YteikbgknibikmaaGreatDoorWArgtoWJn22
set_option linter.all false
namespace Go.Ab.L22
open Go Go.Ab Go.Proofs Go.RowKit Go.ChangeShapes
noncomputable section
/-- The world in which the calls' contracts hold. -/
def KK (w : World) : Prop:=Lib.TabIs Tryz.prog w "internal/strconv.uint64pow10" .u64 Lib.pow10Tab
theorem QdW {w w' : World} (h : KK w) (hb : Below w.heap.size w w') : KK w':=by
  unfold KK Lib.TabIs World.var? at h ⊢
  cases hg : Tryz.prog.globalNamed "internal/strconv.uint64pow10" with
  | none=>rw [hg] at h; cases h
  | some g =>
    rw [hg] at h
    simp only [Option.bind_some] at h ⊢
    have hlt : g < w.heap.size:=by
      rcases Nat.lt_or_ge g w.heap.size with h' | h'
      · exact h'
      · rw [Array.getElem?_eq_none h'] at h; cases h
    rw [hb.block g hlt]
    exact h
theorem QbO {P : Program} {G : Nat → Option (List AV)} {K : World → Prop} {F : FuncId → Option AFun} {M : Memo} (hF : FunOk P G F) (hM : Qax K P G M) {f : FuncId} {args : List AV} {v : AV} (ht : Top F M f args ⟨fun _=>none,0⟩ v)
  {vs : Array Value} {w : World} (hw : GlobW G w) (hvs : VRs (bareG (QaC w)) args vs.toList) (hK : ∀ w',Below w.heap.size w w' → K w') :
  Calls P f vs w fun e w'=>∃ u g,e = .returned u ∧ VR g v u ∧ Below w.heap.size w w':=by
 obtain ⟨af,ha,m,s,hr,hcs,hmd,hdf,hk,hfe,fn,hfn,hv⟩:=ht
 exact (QbS hF hM ha hr hcs hmd hdf hk (by rw [hfe]; exact hfn) hv hfe (QoO _ w) (Qgc hw) hvs hK).mono fun e w' ⟨u,g,e1,e2,H⟩=>⟨u,g,e1,e2,H.below⟩

def tyS : List TypeId:=[27,25,23,22,3,4,28,5]
theorem cells25 : Tryz.prog.cellsOf 25 = 3:=by kernel_rfl
theorem bytes25 : 1 ≤ Tryz.prog.bytesOf 25:=Nat.le_of_ble_eq_true (by kernel_rfl)
theorem Qbb : Ql3 Tryz.prog tyS = true:=by kernel_rfl
section
variable {H : Type} {enc : TypeId × Value → H} {w : World}
theorem Qn1 {t : TypeId} {k : IntKind} (hu : Tryz.prog.underlying t = some (.int k)) (ht : tyS.contains t = true) {v : Value} {d : DataW H} {p : List MemPlace} (h : DataW.Trod enc Tryz.prog w 0 (fun _=>true) true t v d p) (hva : v.cells.toList = [v]) :
  ∃ n,(Lit.int k n).wf = true ∧ VR (bareG (QaC w)) (.int k n) v:=by
 obtain ⟨fuel,h⟩:=h
 obtain ⟨row,h1,h2,h3⟩:=Qa9 Qbb fuel t _ _ ht h
 obtain ⟨n,rfl,hwf⟩:=QgZ hu h1
 have:=h3 (bareG (QaC w)) rfl
 rw [hva] at this
 exact ⟨n,hwf,this.head⟩
theorem Qc9 {v : Value} {d : DataW H} {p : List MemPlace} (h : DataW.Trod enc Tryz.prog w 0 (fun _=>true) true 27 v d p) {cs : Array Value} (hva : v = .agg cs) (hw : ∀ x ∈ d.weights Tryz.prog 27,x ≤ reachBytes) :
  ∃ st env out T k n lv,Short T ∧ (∀ h,Rep 0 h T [.int .i64 k,.int .i64 n,lv]) ∧ VR (bareG (QaC w)) (.agg [.int .i64 st,.int .i64 env,.bool out,.int .i64 k,.int .i64 n,lv]) v:=by
 obtain ⟨fuel,h⟩:=h
 obtain ⟨row,h1,h2,h3⟩:=Qa9 Qbb fuel 27 _ _ (by decide) h
 obtain ⟨st,env,out,T,k,n,lv,rfl,hs,hh⟩:=QfT Tryz.underlying27 Tryz.underlying3 Tryz.underlying3 Tryz.underlying4 rfl Tryz.underlying25 Tryz.underlying22 Tryz.underlying3 rfl Tryz.underlying23 cells25 bytes25 h1 hw
 subst hva
 have:=h3 (bareG (QaC w)) rfl
 have e : VR (bareG (QaC w)) (.agg [.int .i64 st,.int .i64 env,.bool out,.int .i64 k,.int .i64 n,lv]) (.agg cs.toList.toArray):=this.agg
 exact ⟨st,env,out,T,k,n,lv,hs,hh,by simpa using e⟩
theorem QhA {v : Value} {d : DataW H} {p : List MemPlace} (h : DataW.Trod enc Tryz.prog w 0 (fun _=>true) true 25 v d p) {cs : Array Value} (hva : v = .agg cs) (hw : ∀ x ∈ d.weights Tryz.prog 25,x ≤ reachBytes) :
  ∃ T k n lv,Short T ∧ (∀ h,Rep 0 h T [.int .i64 k,.int .i64 n,lv]) ∧ VR (bareG (QaC w)) (.agg [.int .i64 k,.int .i64 n,lv]) v:=by
 obtain ⟨fuel,h⟩:=h
 obtain ⟨row,h1,h2,h3⟩:=Qa9 Qbb fuel 25 _ _ (by decide) h
 obtain ⟨T,k,n,lv,rfl,hs,hh⟩:=(QfP Tryz.underlying25 Tryz.underlying22 Tryz.underlying3 rfl Tryz.underlying23 cells25 bytes25 h1).1 rfl hw
 subst hva
 have:=h3 (bareG (QaC w)) rfl
 have e : VR (bareG (QaC w)) (.agg [.int .i64 k,.int .i64 n,lv]) (.agg cs.toList.toArray):=this.agg
 exact ⟨T,k,n,lv,hs,hh,by simpa using e⟩
end
theorem up0 : Up (⟨fun _=>none,0⟩ : AH) ⟨fun _=>none,0⟩:=Up.refl fun _ _=>rfl
section
variable {w : World} {g : Gam} (hM : Qax KK Tryz.prog G22 M22)
include hM
theorem QmR (hw : GlobW G22 w) (hk : KK w) {st env : Int} {out : Bool} {T U : LT} {k n : Int} {lv : AV} {k' n' : Int} {lv' : AV} {a : Int} (hs : Short T) (hsU : Short U) (hh : ∀ h,Rep 0 h T [.int .i64 k,.int .i64 n,lv])
  (hhU : ∀ h,Rep 0 h U [.int .i64 k',.int .i64 n',lv']) {v1 v2 v3 : Value}
  (h1 : VR (bareG (QaC w)) (.agg [.int .i64 st,.int .i64 env,.bool out,.int .i64 k,.int .i64 n,lv]) v1) (h2 : VR (bareG (QaC w)) (.agg [.int .i64 k',.int .i64 n',lv']) v2) (h3 : VR (bareG (QaC w)) (.int .i16 a) v3) :
  Calls Tryz.prog 6 #[v1,v2,v3] w fun e w'=>e = .returned (.bool true) ∧ Below w.heap.size w w':=by
 have ht:=Qp1 (a:=a) (st:=st) (env:=env) (out:=out) law22 (at22 0 rfl rfl) hs hsU up0 (Nat.le_refl 0) (hh _) (hhU _)
 refine (QbO Qje hM ht hw (vs:=#[v1,v2,v3]) (VRs.cons h1 (.cons h2 (.cons h3 (.nil _)))) fun w' hb=>QdW hk hb).mono fun e w' ⟨u,g,e1,e2,e3⟩=>?_
 exact ⟨by rw [e1,e2.bool_eq],e3⟩
end
end
end Go.Ab.L22
namespace Go.Ab.L22
open Go Go.Ab Go.Proofs Go.RowKit Go.ChangeShapes Go.WideShapes
section
variable {H : Type} {enc : TypeId × Value → H} {P : Program}
/-- The arguments read behind the call as they did before. -/
theorem Qa6 (hl : laidOutB P = true) {W W' : World} (hb : Below W.heap.size W W') : ∀ {ts : List TypeId} {vs : List Value} {ds : List (DataW H)} {p : List MemPlace},(ts.all fun t=>P.readableRec t && decide (t < P.types.size)) = true →
  DataW.TrodAll enc P W 0 (fun _=>true) true ts vs ds p → (∀ x ∈ p,x.block < W.heap.size) → DataW.TrodAll enc P W' 0 (fun b=>decide (b < W.heap.size)) true ts vs ds p
 | [],[],[],_,_,h,_=>h
 | t :: ts,v :: vs,d :: ds,p,hr,h,hlt=>by
  obtain ⟨p1,p2,h1,h2,rfl⟩:=h
  simp only [List.all_cons,Bool.and_eq_true,decide_eq_true_eq] at hr
  exact ⟨p1,p2,Below.trod hl hr.1.1 hr.1.2 h1 hb (fun x hx=>hlt x (List.mem_append_left _ hx)),Qa6 hl hb hr.2 h2 (fun x hx=>hlt x (List.mem_append_right _ hx)),rfl⟩
 | [],_ :: _,_,_,_,h,_=>by simp [DataW.TrodAll] at h
 | [],[],_ :: _,_,_,h,_=>by simp [DataW.TrodAll] at h
 | _ :: _,[],_,_,_,h,_=>by simp [DataW.TrodAll] at h
 | _ :: _,_ :: _,[],_,_,h,_=>by simp [DataW.TrodAll] at h
end
set_option maxRecDepth 100000 in
theorem reads6 : ([27,25,28].all fun t=>Tryz.prog.readableRec t && decide (t < Tryz.prog.types.size)) = true:=by kernel_rfl
section
variable {H : Type} {enc : TypeId × Value → H} {W : World} {base : Nat} {args : Array Value} {ds : List (DataW H)} {p : List MemPlace} (hM : Qax KK Tryz.prog G22 M22) (hl : laidOutB Tryz.prog = true) (hw : GlobW G22 W) (hk : KK W) (hlt : ∀ x ∈ p,x.block < W.heap.size)
include hM hl hw hk hlt
set_option maxRecDepth 100000 in
theorem Qn4 (hval : ∀ (j : Nat) t v,(#[27,25,28] : Array TypeId)[j]? = some t → args[j]? = some v → Value.okWide Tryz.prog W .any base t v)
  (hA : DataW.TrodAll enc Tryz.prog W 0 (fun _=>true) true [27,25,28] args.toList ds p) (hwt : (DataW.weightsEach Tryz.prog [27,25,28] ds).all (· ≤ reachBytes) = true) :
  Calls Tryz.prog 6 args W fun e W'=>e = .returned (.bool true) ∧ Below W.heap.size W W' ∧ DataW.TrodAll enc Tryz.prog W' 0 (fun b=>decide (b < W.heap.size)) true [27,25,28] args.toList ds p:=by
 have hA':=hA
 obtain ⟨v1,v2,v3,d1,d2,d3,p1,p2,p3,rfl,rfl,rfl,h1,h2,h3⟩:=trodAll_three hA
 obtain ⟨cs,rfl,_⟩:=okWide_struct Tryz.underlying27 (hval 0 27 v1 rfl rfl)
 obtain ⟨cs',rfl,_⟩:=okWide_struct Tryz.underlying25 (hval 1 25 v2 rfl rfl)
 obtain ⟨a,rfl,_,_,_⟩:=open_int Tryz.underlying28 (hval 2 28 v3 rfl rfl) h3
 obtain ⟨st,env,out,T,k,n,lv,hs,hh,hv⟩:=Qc9 h1 rfl fun x hx=>of_decide_eq_true (List.all_eq_true.1 hwt x (DataW.weights_mem_each (j:=0) rfl rfl x hx))
 obtain ⟨U,k',n',lv',hsU,hhU,hvU⟩:=QhA h2 rfl fun x hx=>of_decide_eq_true (List.all_eq_true.1 hwt x (DataW.weights_mem_each (j:=1) rfl rfl x hx))
 exact (QmR hM hw hk hs hsU hh hhU hv hvU (.int .i16 a)).mono fun e W' ⟨e1,e2⟩=>⟨e1,e2,Qa6 hl e2 reads6 hA' hlt⟩
end
end Go.Ab.L22
