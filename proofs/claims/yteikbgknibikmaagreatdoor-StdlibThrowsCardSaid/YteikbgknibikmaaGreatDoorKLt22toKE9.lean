/-
  A part of a proof: KLt22 KE9.
-/
import Derived.Test.YteikbgknibikmaaGreatDoorKLs22
import Derived.Test.YteikbgknibikmaaGreatDoorKS1
import Derived.Test.YteikbgknibikmaaGreatDoorKS2
import Derived.Test.YteikbgknibikmaaGreatDoorKS3
import Derived.Test.YteikbgknibikmaaGreatDoorKS4
import Derived.Test.YteikbgknibikmaaGreatDoorKS5
import Derived.Test.YteikbgknibikmaaGreatDoorKLu22toCA22
set_option linter.all false
/-
 scope.sorted: the keys of a set, sorted (lines of a worked proof of the kit, turned to this program).
-/
namespace Go.Proofs
open Go.RowKit Go.Maps Go.Sort Go.Shelf
theorem Tryz.sortsA (m : Nat) : AnyZ.SortsIn Tryz.prog Tryz.sortedA_ren Fence.wide m :=
  ⟨fun blk off cap ss W hH hblk hsz=>callsIn_wide.2 (AnyM.slices_Sort_string Tryz.sortA blk off cap ss W hH hblk hsz),
   fun p cap W=>callsIn_wide.2 (AnyM.slices_Sort_string_none Tryz.sortA p cap W)⟩
set_option maxHeartbeats 1000000 in
theorem Tryz.sorted_calls {H : Type} (b nn : Nat) (D0 : DataW H) (R : Value → Option (DataW H × List MemPlace)) (w : World) (hown : w.ownsMap Tryz.prog 9 R b nn D0) (hmax : Maps.size D0 ≤ maxLen) (hbytes : Maps.size D0 * 16 ≤ 140737488355328) :
  Calls Tryz.prog 640 #[.map (some b)] w fun e w'=>∃ (v : Value) (ss : List (List UInt8)),e = .returned v ∧ ss.Perm (strKeys D0) ∧
   w'.ownsRow w.heap.size 9 1 v ss.length ((ss.mergeSort (fun x y=>decide (x ≤ y))).map encStr) ∧ (v = .slice none 0 0 ↔ ss = []) ∧ Below w.heap.size w w':=by
 refine (callsIn_wide (n:=6)).1 ?_
 have hbl:=hown.lt
 have hseq : SeqGives Fence.wide 2 Tryz.prog 716 #[.pointer (some ⟨w.heap.size,0,none⟩)] encStr (fun ss=>ss.Perm (strKeys D0)) (Maps.size D0) (w.alloc (.cells #[.map (some b)] 497)) :=
  AnyZ.keys_gives (ρ:=Tryz.keysA_ren) { Tryz.keysA with } Fence.wide _ trivial rfl (by omega) w.heap.size b nn D0 _ (by simp) (by simp) (by
   obtain ⟨es,clock,hb,Ft,hs,hD⟩:=hown
   exact ⟨es,clock,(Below.heap_alloc _ _ b hbl).trans hb,Ft,hs,hD⟩)
 have cK : ∀ mb W,CallsIn Fence.wide 5 Tryz.prog 687 #[.map mb] W fun e w'=>e = .returned (.func (.func 716) #[] #[.pointer (some ⟨W.heap.size,0,none⟩)]) ∧ w' = W.alloc (.cells #[.map mb] 497):=fun mb W=>AnyZ.keys_in Tryz.keysA Fence.wide 5 trivial rfl mb W
 have cS:=AnyZ.sorted_in Tryz.sortedA Fence.wide 5 trivial trivial trivial trivial rfl (by omega) (Tryz.sortsA _) (enters_of Tryz.func715 (by kernel_rfl) rfl) 716 #[.pointer (some ⟨w.heap.size,0,none⟩)] trivial (enters_of Tryz.func716 (by kernel_rfl) rfl) _ _ hmax hbytes _ hseq
 change CallsIn _ _ Tryz.prog 686 _ _ _ at cS
 have hfK : Fence.wide.fn 687:=trivial
 have hfS : Fence.wide.fn 686:=trivial
 refine callsIn_of_wp Tryz.func640 rfl trivial ?_ rfl
 simp only [Tryz.ntmps640,List.size_toArray,List.length_cons,List.length_nil,Nat.reduceAdd,Nat.reduceSub,Array.replicate_succ,Array.replicate_zero,List.push_toArray,List.append_toArray,List.nil_append,List.cons_append]
 gi_wp2_with (first
  | (gi_at_call 687; refine (cK _ _).mono ?_; rintro e w' ⟨rfl,rfl⟩)
  | (gi_at_call 686; refine cS.mono ?_; rintro e w' ⟨v,ss,rfl,hS,hrow,hnil,hb⟩))
 go_ret
 exact ⟨v,ss,rfl,hS,ownsRow_base_a hrow (by simp),hnil,((Below.refl _ w).alloc (Nat.le_refl _) _).trans (hb.mono (by simp))⟩
set_option maxHeartbeats 1000000 in
theorem Tryz.sorted_calls_nil (w : World) : Calls Tryz.prog 640 #[.map none] w fun e w'=>e = .returned (.slice none 0 0) ∧ Below w.heap.size w w':=by
 refine (callsIn_wide (n:=6)).1 ?_
 have hseq : SeqGives Fence.wide 2 Tryz.prog 716 #[.pointer (some ⟨w.heap.size,0,none⟩)] encStr (fun ss : List (List UInt8)=>ss = []) 0 (w.alloc (.cells #[.map none] 497)) :=
  AnyZ.keys_gives_nil (ρ:=Tryz.keysA_ren) { Tryz.keysA with } Fence.wide _ trivial rfl w.heap.size _ (by simp) (by simp)
 have cK : ∀ mb W,CallsIn Fence.wide 5 Tryz.prog 687 #[.map mb] W fun e w'=>e = .returned (.func (.func 716) #[] #[.pointer (some ⟨W.heap.size,0,none⟩)]) ∧ w' = W.alloc (.cells #[.map mb] 497):=fun mb W=>AnyZ.keys_in Tryz.keysA Fence.wide 5 trivial rfl mb W
 have cS:=AnyZ.sorted_in Tryz.sortedA Fence.wide 5 trivial trivial trivial trivial rfl (by omega) (Tryz.sortsA _) (enters_of Tryz.func715 (by kernel_rfl) rfl) 716 #[.pointer (some ⟨w.heap.size,0,none⟩)] trivial (enters_of Tryz.func716 (by kernel_rfl) rfl) _ 0 (Nat.zero_le _) (by omega) _ hseq
 change CallsIn _ _ Tryz.prog 686 _ _ _ at cS
 have hfK : Fence.wide.fn 687:=trivial
 have hfS : Fence.wide.fn 686:=trivial
 refine callsIn_of_wp Tryz.func640 rfl trivial ?_ rfl
 simp only [Tryz.ntmps640,List.size_toArray,List.length_cons,List.length_nil,Nat.reduceAdd,Nat.reduceSub,Array.replicate_succ,Array.replicate_zero,List.push_toArray,List.append_toArray,List.nil_append,List.cons_append]
 gi_wp2_with (first
  | (gi_at_call 687; refine (cK _ _).mono ?_; rintro e w' ⟨rfl,rfl⟩)
  | (gi_at_call 686; refine cS.mono ?_; rintro e w' ⟨v,ss,rfl,rfl,hrow,hnil,hb⟩; obtain rfl : v = .slice none 0 0:=hnil.2 rfl))
 go_ret
 exact ⟨rfl,((Below.refl _ w).alloc (Nat.le_refl _) _).trans (hb.mono (by simp))⟩
end Go.Proofs
namespace Go.Ab.L22
open Go Go.Ab Go.Proofs Go.RowKit
noncomputable section
abbrev KT : World → Prop:=fun _=>True
theorem m3_ok : Qax KT Tryz.prog G22 (absM M3):=by
 refine Qnl fE_ok Qc3 m2_ok m2_ok (fuel:=5000000) rfl fun x hx=>?_
 simp only [List.mem_cons,List.not_mem_nil,or_false] at hx
 rcases hx with rfl | rfl | rfl | rfl
 ·exact ⟨by kernel_rfl,fun z=>by have:=chk_run0 z; rw [QaR] at this; exact this⟩
 ·exact ⟨by kernel_rfl,fun z=>by have:=chk_run2 z; rw [QaR] at this; exact this⟩
 ·exact ⟨by kernel_rfl,fun z=>by have:=chk_run3 z; rw [QaR] at this; exact this⟩
 ·exact ⟨by kernel_rfl,fun z=>by have:=chk_run4 z; rw [QaR] at this; exact this⟩
theorem s1_nodup : s1.Nodup:=by decide +kernel
theorem take1 : ∀ n,takeF s1 n v1 o1 = some (c1 n):=by intro n; kernel_rfl
theorem m4_ok : Qax KT Tryz.prog G22 (absM M4) :=
 Qes fE_ok Qc3 m3_ok m3_ok (by kernel_rfl) (fun z=>by have:=QqA z; rw [QaR] at this; exact this) s1_nodup take1
theorem tf149 : Tryz.prog.funcs[149]? = some Tryz.f149:=by kernel_rfl
theorem tf248 : Tryz.prog.funcs[248]? = some Tryz.f248:=by kernel_rfl
theorem tf640 : Tryz.prog.funcs[640]? = some Tryz.f640:=by kernel_rfl
theorem m5_ok : Qax KT Tryz.prog G22 (absM M5) :=
 Qif (Qf2 m4_ok tf149 (by kernel_rfl) (by kernel_rfl) (by kernel_rfl) (by kernel_rfl)) (ps:=Tryz.f248.params) (t:=Tryz.f248.resultTypes.toList.headD 0) (e:=5) (by kernel_rfl) tf248 (by kernel_rfl) (by kernel_rfl) (by kernel_rfl) (by kernel_rfl)
theorem name640 : (Tryz.f640.name == "runtime.NumGoroutine") = false:=by kernel_rfl
theorem m6_ok : Qax KT Tryz.prog G22 (absM M6) :=
 Qie m5_ok (by kernel_rfl) ⟨Tryz.f640,tf640,by kernel_rfl,fun h=>by have:=name640; rw [h] at this; simp at this⟩ (fun b nn D0 R w hown h1 h2=>Tryz.sorted_calls b nn D0 R w hown h1 h2) (fun w=>Tryz.sorted_calls_nil w)
theorem s5_nodup : s5.Nodup:=by decide +kernel
theorem take5 : ∀ n,takeF s5 n v5 o5 = some (c5 n):=by intro n; kernel_rfl
theorem m7_ok : Qax KT Tryz.prog G22 (absM M7) :=
 Qes fE_ok Qc3 m6_ok m6_ok (by kernel_rfl) (fun z=>by have:=QnV z; rw [QaR] at this; exact this) s5_nodup take5
theorem Qh0 {M : KMemo} (hM : Qax KT Tryz.prog G22 (absM M)) (k : Nat) (hk : k < 1000000) (b : Nat) (hb : Qca (Lib.repeatL [93] k) = b) (hl : (Lib.repeatL [93] k).length = k) :
  Qax KT Tryz.prog G22 (absM (kmAdd 61 [.str 1 93,.int .i64 (k : Int)] (fun _=>(.str k b,[])) M)):=by
 refine Qg8 hM fun B w0 g h w vs H hG hvs hK=>?_
 obtain ⟨l⟩:=vs
 obtain ⟨x,y,rfl⟩ : ∃ x y,l = [x,y]:=by
  have:=hvs.len
  simp only [List.length_cons,List.length_nil] at this
  match l,this with
  | [x,y],_=>exact ⟨x,y,rfl⟩
 have hx : VR g (.str 1 93) x:=hvs.head
 have hy : VR g (.int .i64 (k : Int)) y:=hvs.tail.head
 rw [hx.str_eq.1,hy.int_eq]
 refine ⟨bR22,fun C=>?_⟩
 obtain ⟨e,w',fr,⟨rfl,hb'⟩,rest⟩:=hR22 k hk w C
 refine ⟨_,w',fr,⟨_,g,rfl,?_,H.grow hb',Gam.le_refl g⟩,rest⟩
 have:=QkI g (Lib.repeatL [93] k)
 rw [hl,hb] at this
 exact this
theorem m8_ok : Qax KT Tryz.prog G22 (absM M8) :=
 Qh0 (Qh0 (Qh0 m7_ok 0 (by omega) 0 (by decide +kernel) (by decide +kernel)) 2 (by omega) 23901 (by decide +kernel) (by decide +kernel)) 3 (by omega) 6118749 (by decide +kernel) (by decide +kernel)
theorem s6_nodup : s6.Nodup:=by decide +kernel
theorem take6 : ∀ n,takeF s6 n v6 o6 = some (c6 n):=by intro n; kernel_rfl
theorem m9_ok : Qax KT Tryz.prog G22 (absM M9) :=
 Qes fE_ok Qc3 m8_ok m8_ok (by kernel_rfl) (fun z=>by have:=ref_run z; rw [QaR] at this; exact this) s6_nodup take6
/-- Awake returns true, in every world in which the tables lie. -/
theorem hA22 (B : Nat) (w0 : Anchor) (g : Gam) (h : AH) (w : World) (vs : Array Value) (H : HR (CodeR Tryz.prog G22) B w0 g h w) (hG : GlobR G22 g) (hvs : VRs g [] vs.toList) :
    (∃ fn,Tryz.prog.funcs[(12 : FuncId)]? = some fn ∧ fn.body.isSome = true ∧ fn.name ≠ "runtime.NumGoroutine") ∧
      Calls Tryz.prog 12 vs w fun e w'=>∃ v g',e = .returned v ∧ VR g' (.bool true) v ∧ HR (CodeR Tryz.prog G22) B w0 g' h w' ∧ g.le g':=by
  have hr : ∀ x : Bool,Qbx (FE Tryz.prog.info? fun f=>Tryz.prog.funcs[f]?) 12 [] .normal [] 0 .nil (loopK (FE Tryz.prog.info? fun f=>Tryz.prog.funcs[f]?) M9 (fun ks=>iteF (endOk (FE Tryz.prog.info? fun f=>Tryz.prog.funcs[f]?) 12 (.bool true) [] [] ks) x false) 5000000) = x:=by
    intro x
    have:=QrF x
    rw [QaR] at this
    exact this
  exact Qf1 fE_ok m9_ok Qc3 (sel:=[]) (os:=[]) (c:=fun _=>(.bool true,[])) hr (fun i h1=>by simp at h1) (by simp) (fun n=>by kernel_rfl) H hG hvs (fun _ _=>trivial)
theorem QoA (K : World → Prop) (hK : ∀ w,K w → Lib.TabIs Tryz.prog w "internal/strconv.uint64pow10" .u64 Lib.pow10Tab) : Qax K Tryz.prog G22 M22 :=
  QpE hK hI22 bI22 hR22 bR22 (Qf2 Qkf tf149 (by kernel_rfl) (by kernel_rfl) (by kernel_rfl) (by kernel_rfl)) fun B w0 g h w vs H hG hvs _=>hA22 B w0 g h w vs H hG hvs
end
end Go.Ab.L22
