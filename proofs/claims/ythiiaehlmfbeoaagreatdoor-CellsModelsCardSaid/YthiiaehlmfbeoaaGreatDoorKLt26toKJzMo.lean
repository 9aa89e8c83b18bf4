/- A part of a proof. -/
import Derived.Test.YthiiaehlmfbeoaaGreatDoorKLs26
import Derived.Test.YthiiaehlmfbeoaaGreatDoorES1
import Derived.Test.YthiiaehlmfbeoaaGreatDoorES2
import Derived.Test.YthiiaehlmfbeoaaGreatDoorES3
import Derived.Test.YthiiaehlmfbeoaaGreatDoorES4
import Derived.Test.YthiiaehlmfbeoaaGreatDoorES5
import Derived.Test.YthiiaehlmfbeoaaGreatDoorES6
import Derived.Test.YthiiaehlmfbeoaaGreatDoorES7
import Derived.Test.YthiiaehlmfbeoaaGreatDoorES8
import Derived.Test.YthiiaehlmfbeoaaGreatDoorKaGtoKJ0
import Derived.Test.YthiiaehlmfbeoaaGreatDoorCFMotoKaU
set_option linter.all false
set_option maxHeartbeats 1000000
namespace Go.Proofs
open Go.RowKit Go.Maps Go.Sort Go.Shelf
theorem Tryz.sortsA(m:Nat):AnyZ.SortsIn Tryz.prog Tryz.sortedA_ren Fence.wide m:=
  ⟨fun blk off cap ss W hH hblk hsz=>callsIn_wide.2 (AnyM.slices_Sort_string Tryz.sortA blk off cap ss W hH hblk hsz),
   fun p cap W=>callsIn_wide.2 (AnyM.slices_Sort_string_none Tryz.sortA p cap W)⟩
theorem Tryz.sorted_calls{H:Type}(b nn:Nat)(D0:DataW H)(R:Value→Option (DataW H×List MemPlace))(w:World)(hown:w.ownsMap Tryz.prog 9 R b nn D0)(hmax:Maps.size D0≤maxLen)(hbytes:Maps.size D0*16≤140737488355328) :
  Calls Tryz.prog 640 #[.map (some b)] w fun e w'=>∃(v:Value)(ss:List (List UInt8)),e=.returned v∧ss.Perm (strKeys D0) ∧
   w'.ownsRow w.heap.size 9 1 v ss.length ((ss.mergeSort (fun x y=>decide (x≤y))).map encStr)∧(v=.slice none 0 0↔ss=[])∧Below w.heap.size w w':=by
 refine(callsIn_wide (n:=6)).1 ?_;have hbl:=hown.lt;have hseq:SeqGives Fence.wide 2 Tryz.prog 729 #[.pointer (some ⟨w.heap.size,0,none⟩)] encStr (fun ss=>ss.Perm (strKeys D0)) (Maps.size D0) (w.alloc (.cells #[.map (some b)] 501)) :=
  AnyZ.keys_gives (ρ:=Tryz.keysA_ren) {Tryz.keysA with} Fence.wide _ trivial rfl (by omega) w.heap.size b nn D0 _ (by simp) (by simp) (by
   obtain⟨es,clock,hb,Ft,hs,hD⟩:=hown;exact⟨es,clock,(Below.heap_alloc _ _ b hbl).trans hb,Ft,hs,hD⟩)
 have cK:∀mb W,CallsIn Fence.wide 5 Tryz.prog 695 #[.map mb] W fun e w'=>e=.returned (.func (.func 729) #[] #[.pointer (some ⟨W.heap.size,0,none⟩)])∧w'=W.alloc (.cells #[.map mb] 501):=fun mb W=>AnyZ.keys_in Tryz.keysA Fence.wide 5 trivial rfl mb W
 have cS:=AnyZ.sorted_in Tryz.sortedA Fence.wide 5 trivial trivial trivial trivial rfl (by omega) (Tryz.sortsA _) (enters_of Tryz.func728 (by kernel_rfl) rfl) 729 #[.pointer (some ⟨w.heap.size,0,none⟩)] trivial (enters_of Tryz.func729 (by kernel_rfl) rfl) _ _ hmax hbytes _ hseq
 change CallsIn _ _ Tryz.prog 694 _ _ _ at cS
 have hfK:Fence.wide.fn 695:=trivial;have hfS:Fence.wide.fn 694:=trivial;refine callsIn_of_wp Tryz.func640 rfl trivial ?_ rfl;simp only[Tryz.ntmps640,List.size_toArray,List.length_cons,List.length_nil,Nat.reduceAdd,Nat.reduceSub,Array.replicate_succ,Array.replicate_zero,List.push_toArray,List.append_toArray,List.nil_append,List.cons_append]
 gi_wp2_with (first
  |(gi_at_call 695;refine(cK _ _).mono ?_;rintro e w' ⟨rfl,rfl⟩)
  |(gi_at_call 694;refine cS.mono ?_;rintro e w' ⟨v,ss,rfl,hS,hrow,hnil,hb⟩))
 go_ret
 exact⟨v,ss,rfl,hS,ownsRow_base_a hrow (by simp),hnil,((Below.refl _ w).alloc (Nat.le_refl _) _).trans (hb.mono (by simp))⟩
theorem Tryz.sorted_calls_nil(w:World):Calls Tryz.prog 640 #[.map none] w fun e w'=>e=.returned (.slice none 0 0)∧Below w.heap.size w w':=by
 refine(callsIn_wide (n:=6)).1 ?_;have hseq:SeqGives Fence.wide 2 Tryz.prog 729 #[.pointer (some ⟨w.heap.size,0,none⟩)] encStr (fun ss:List (List UInt8)=>ss=[]) 0 (w.alloc (.cells #[.map none] 501)) :=
  AnyZ.keys_gives_nil (ρ:=Tryz.keysA_ren) {Tryz.keysA with} Fence.wide _ trivial rfl w.heap.size _ (by simp) (by simp)
 have cK:∀mb W,CallsIn Fence.wide 5 Tryz.prog 695 #[.map mb] W fun e w'=>e=.returned (.func (.func 729) #[] #[.pointer (some ⟨W.heap.size,0,none⟩)])∧w'=W.alloc (.cells #[.map mb] 501):=fun mb W=>AnyZ.keys_in Tryz.keysA Fence.wide 5 trivial rfl mb W
 have cS:=AnyZ.sorted_in Tryz.sortedA Fence.wide 5 trivial trivial trivial trivial rfl (by omega) (Tryz.sortsA _) (enters_of Tryz.func728 (by kernel_rfl) rfl) 729 #[.pointer (some ⟨w.heap.size,0,none⟩)] trivial (enters_of Tryz.func729 (by kernel_rfl) rfl) _ 0 (Nat.zero_le _) (by omega) _ hseq
 change CallsIn _ _ Tryz.prog 694 _ _ _ at cS
 have hfK:Fence.wide.fn 695:=trivial;have hfS:Fence.wide.fn 694:=trivial;refine callsIn_of_wp Tryz.func640 rfl trivial ?_ rfl;simp only[Tryz.ntmps640,List.size_toArray,List.length_cons,List.length_nil,Nat.reduceAdd,Nat.reduceSub,Array.replicate_succ,Array.replicate_zero,List.push_toArray,List.append_toArray,List.nil_append,List.cons_append]
 gi_wp2_with (first
  |(gi_at_call 695;refine(cK _ _).mono ?_;rintro e w' ⟨rfl,rfl⟩)
  |(gi_at_call 694;refine cS.mono ?_;rintro e w' ⟨v,ss,rfl,rfl,hrow,hnil,hb⟩;obtain rfl:v=.slice none 0 0:=hnil.2 rfl))
 go_ret
 exact⟨rfl,((Below.refl _ w).alloc (Nat.le_refl _) _).trans (hb.mono (by simp))⟩
end Go.Proofs
namespace Go.Ab.L26
open Go Go.Ab Go.Proofs Go.RowKit
noncomputable section
abbrev KT:World→Prop:=fun _=>True
abbrev FZ:=FE Tryz.prog.info? (fun f=>Tryz.prog.funcs[f]?)
theorem Qzz{M f x v s o z}(h:Er M f x v s o z=z):Qan FZ f x .normal [] 0 .nil (loopK FZ M (fun ks=>iteF (endOk FZ f v s o ks) z false) 5000000)=z:=by unfold Er at h;rw[Qae]at h;exact h
theorem m3_ok:Qao KT Tryz.prog G26 (absM M3):=by
 refine Qd9 fE_ok Qbg m2_ok m2_ok (fuel:=5000000) rfl fun x hx=>?_
 simp only[List.mem_cons,List.not_mem_nil,or_false]at hx;rcases hx with rfl|rfl|rfl
 ·exact⟨by kernel_rfl,(Qzz<|run0 ·)⟩
 ·exact⟨by kernel_rfl,(Qzz<|run2 ·)⟩
 ·exact⟨by kernel_rfl,(Qzz<|run3 ·)⟩
theorem m4_ok:Qao KT Tryz.prog G26 (absM M4):=by
 refine Qd9 fE_ok Qbg m3_ok m3_ok (fuel:=5000000) rfl fun x hx=>?_
 simp only[List.mem_cons,List.not_mem_nil,or_false]at hx;rcases hx with rfl|rfl|rfl|rfl|rfl|rfl|rfl|rfl|rfl|rfl|rfl|rfl|rfl|rfl|rfl|rfl|rfl|rfl|rfl|rfl|rfl|rfl|rfl|rfl|rfl|rfl|rfl|rfl|rfl|rfl|rfl|rfl|rfl|rfl
 ·exact⟨by kernel_rfl,(Qzz<|run4 ·)⟩
 ·exact⟨by kernel_rfl,(Qzz<|run6 ·)⟩
 ·exact⟨by kernel_rfl,(Qzz<|run7 ·)⟩
 ·exact⟨by kernel_rfl,(Qzz<|run8 ·)⟩
 ·exact⟨by kernel_rfl,(Qzz<|run9 ·)⟩
 ·exact⟨by kernel_rfl,(Qzz<|run10 ·)⟩
 ·exact⟨by kernel_rfl,(Qzz<|run11 ·)⟩
 ·exact⟨by kernel_rfl,(Qzz<|run12 ·)⟩
 ·exact⟨by kernel_rfl,(Qzz<|run13 ·)⟩
 ·exact⟨by kernel_rfl,(Qzz<|run14 ·)⟩
 ·exact⟨by kernel_rfl,(Qzz<|run15 ·)⟩
 ·exact⟨by kernel_rfl,(Qzz<|run16 ·)⟩
 ·exact⟨by kernel_rfl,(Qzz<|run17 ·)⟩
 ·exact⟨by kernel_rfl,(Qzz<|run18 ·)⟩
 ·exact⟨by kernel_rfl,(Qzz<|run19 ·)⟩
 ·exact⟨by kernel_rfl,(Qzz<|run20 ·)⟩
 ·exact⟨by kernel_rfl,(Qzz<|run21 ·)⟩
 ·exact⟨by kernel_rfl,(Qzz<|run22 ·)⟩
 ·exact⟨by kernel_rfl,(Qzz<|run23 ·)⟩
 ·exact⟨by kernel_rfl,(Qzz<|run24 ·)⟩
 ·exact⟨by kernel_rfl,(Qzz<|run25 ·)⟩
 ·exact⟨by kernel_rfl,(Qzz<|run26 ·)⟩
 ·exact⟨by kernel_rfl,(Qzz<|run27 ·)⟩
 ·exact⟨by kernel_rfl,(Qzz<|run28 ·)⟩
 ·exact⟨by kernel_rfl,(Qzz<|run29 ·)⟩
 ·exact⟨by kernel_rfl,(Qzz<|run30 ·)⟩
 ·exact⟨by kernel_rfl,(Qzz<|run31 ·)⟩
 ·exact⟨by kernel_rfl,(Qzz<|run32 ·)⟩
 ·exact⟨by kernel_rfl,(Qzz<|run33 ·)⟩
 ·exact⟨by kernel_rfl,(Qzz<|run34 ·)⟩
 ·exact⟨by kernel_rfl,(Qzz<|run35 ·)⟩
 ·exact⟨by kernel_rfl,(Qzz<|run36 ·)⟩
 ·exact⟨by kernel_rfl,(Qzz<|run37 ·)⟩
 ·exact⟨by kernel_rfl,(Qzz<|run38 ·)⟩
theorem s1_nodup:s1.Nodup:=by decide+kernel
theorem take1:∀n,takeF s1 n v1 o1=some (c1 n):=by intro n;kernel_rfl
theorem m5_ok:Qao KT Tryz.prog G26 (absM M5):=
 Qcn fE_ok Qbg m4_ok m4_ok (by kernel_rfl) (Qzz<|run1 ·) s1_nodup take1
theorem tf691:Tryz.prog.funcs[691]? = some Tryz.f691:=by kernel_rfl
theorem tf692:Tryz.prog.funcs[692]? = some Tryz.f692:=by kernel_rfl
theorem tf640:Tryz.prog.funcs[640]? = some Tryz.f640:=by kernel_rfl
theorem m6_ok:Qao KT Tryz.prog G26 (absM M6):=
 Qgv (Qix m5_ok tf691 (by kernel_rfl) (by kernel_rfl) (by kernel_rfl) (by kernel_rfl)) (ps:=Tryz.f692.params) (t:=Tryz.f692.resultTypes.toList.headD 0) (e:=5) (by kernel_rfl) tf692 (by kernel_rfl) (by kernel_rfl) (by kernel_rfl) (by kernel_rfl)
theorem name640:(Tryz.f640.name == "runtime.NumGoroutine")=false:=by kernel_rfl
theorem m7_ok:Qao KT Tryz.prog G26 (absM M7):=
 Qgu m6_ok (by kernel_rfl) ⟨Tryz.f640,tf640,by kernel_rfl,fun h=>by have:=name640;rw[h]at this;simp at this⟩ (fun b nn D0 R w hown h1 h2=>Tryz.sorted_calls b nn D0 R w hown h1 h2) (fun w=>Tryz.sorted_calls_nil w)
theorem s5_nodup:s5.Nodup:=by decide+kernel
theorem take5:∀n,takeF s5 n v5 o5=some (c5 n):=by intro n;kernel_rfl
theorem m8_ok:Qao KT Tryz.prog G26 (absM M8):=
 Qcn fE_ok Qbg m7_ok m7_ok (by kernel_rfl) (Qzz<|run5 ·) s5_nodup take5
theorem Qnr:s39.Nodup:=by decide+kernel
theorem take39:∀n,takeF s39 n v39 o39=some (c39 n):=by intro n;kernel_rfl
theorem m9_ok:Qao KT Tryz.prog G26 (absM M9):=
 Qcn fE_ok Qbg m8_ok m8_ok (by kernel_rfl) (Qzz<|run39 ·) Qnr take39
theorem m10_ok:Qao KT Tryz.prog G26 (absM M10):=by
 refine Qd9 fE_ok Qbg m9_ok m9_ok (fuel:=5000000) rfl fun x hx=>?_
 simp only[List.mem_cons,List.not_mem_nil,or_false]at hx;subst hx;exact⟨by kernel_rfl,(Qzz<|run40 ·)⟩
theorem Qnq:s41.Nodup:=by decide+kernel
theorem take41:∀n,takeF s41 n v41 o41=some (c41 n):=by intro n;kernel_rfl
theorem m11_ok:Qao KT Tryz.prog G26 (absM M11):=
 Qcn fE_ok Qbg m10_ok m10_ok (by kernel_rfl) (Qzz<|run41 ·) Qnq take41
theorem hA26 (B:Nat) (w0:Anchor) (g:Gam) (h:AH) (w:World) (vs:Array Value) (H:HR (CodeR Tryz.prog G26) B w0 g h w) (hG:GlobR G26 g) (hvs:VRs g [] vs.toList) :
    (∃ fn,Tryz.prog.funcs[(16:FuncId)]? = some fn∧fn.body.isSome=true∧fn.name ≠ "runtime.NumGoroutine") ∧
      Calls Tryz.prog 16 vs w fun e w'=>∃v g',e=.returned v∧VR g' (.bool true) v∧HR (CodeR Tryz.prog G26) B w0 g' h w'∧g.le g':=by
  have hr:∀x:Bool,Qan (FE Tryz.prog.info? fun f=>Tryz.prog.funcs[f]?) 16 [] .normal [] 0 .nil (loopK (FE Tryz.prog.info? fun f=>Tryz.prog.funcs[f]?) M11 (fun ks=>iteF (endOk (FE Tryz.prog.info? fun f=>Tryz.prog.funcs[f]?) 16 (.bool true) [] [] ks) x false) 5000000)=x:=by
    intro x;have:=Qox x;rw[Qae]at this;exact this
  exact Qey fE_ok m11_ok Qbg (sel:=[]) (os:=[]) (c:=fun _=>(.bool true,[])) hr (fun i h1=>by simp at h1) (by simp) (fun n=>by kernel_rfl) H hG hvs (fun _ _=>trivial)
end
noncomputable section
theorem m26_ok:Qao KK Tryz.prog G26 M26:=by
 intro f args c hm B w0 g h w vs v h' hv H hG hvs hK;unfold M26 at hm;by_cases c1:f=16
 ·subst c1;rw[if_pos rfl]at hm;cases args with
  |cons a l=>cases hm
  |nil =>
   cases hm;cases hv;exact .inl (hA26 B w0 g h w vs H hG hvs)
 ·rw[if_neg c1]at hm;cases hm
end
end Go.Ab.L26
namespace Go.Ab.L26
end Go.Ab.L26
