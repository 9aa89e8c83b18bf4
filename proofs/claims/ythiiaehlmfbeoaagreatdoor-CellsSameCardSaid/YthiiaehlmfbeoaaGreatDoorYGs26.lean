/-
  A part of a proof: YGs26.
-/
import Derived.Test.YthiiaehlmfbeoaaGreatDoorXDrtoYH0
set_option linter.all false
/-! Chapter 26, plain: what the laws CellsNeeded, CellsApart and CellsSame say. -/
namespace Go.Ab.L26
open Go Go.Ab

def formA (forms:Nat→CT) (a:Act):Nat→CT:=if a.set then upd forms a.cell.toNat a.term else forms
def specS (nc:Nat):(Nat→CT)→List Act→List Int
 | _,[]=>[]
 | forms,a::l=>(if a.set then [] else [valP forms nc a.cell.toNat])++specS nc (formA forms a) l
theorem Qip {nc:Nat} (h6:nc≤6):∀ (as:List Act) (forms:Nat→CT) (s:St),OkF nc forms→(∀ a ∈ as,OkA nc a)→scrS nc forms s as=specS nc forms as
 | [],_,_,_,_=>rfl
 | a::as,forms,s,H,ha=>by
  have oa:=ha a (by simp)
  obtain ⟨V1,v1,i1,w1⟩:=Inv.act (s:={ s with known:=noneK }) h6 H (exV H) oa Inv.none
  have ef:(actS nc forms { s with known:=noneK } a).1=formA forms a:=by unfold actS formA;split <;> rfl
  simp only [scrS,specS]
  rw [Qip h6 as _ _ (H.act oa) (fun b hb=>ha b (by simp [hb])),ef]
  congr 1
  cases es:a.set with
  | true=>rfl
  | false=>simp only [Bool.false_eq_true,if_false];rw [(w1 es).2]
theorem Qep {nc:Nat}:∀ (as bs:List Act) (forms:Nat→CT),specS nc forms (as++bs)=specS nc forms as++specS nc (as.foldl formA forms) bs
 | [],bs,forms=>rfl
 | a::as,bs,forms=>by simp only [List.cons_append,specS,Qep as bs,List.foldl_cons,List.append_assoc]

def curT (n:Int) (t:CT) (a:Act):CT:=if a.set=true∧a.cell=n then a.term else t
theorem Qmc {n:Nat}:∀ (as:List Act) (forms:Nat→CT),(∀ a ∈ as,0≤a.cell)→as.foldl formA forms n=as.foldl (curT n) (forms n)
 | [],_,_=>rfl
 | a::as,forms,h=>by
  rw [List.foldl_cons,List.foldl_cons,Qmc as _ fun b hb=>h b (by simp [hb])]
  congr 1
  unfold formA curT
  have:=h a (by simp)
  cases a.set with
  | false=>simp
  | true =>
   simp only [true_and,if_true]
   by_cases e:a.cell=n
   ·rw [if_pos e,show a.cell.toNat=n by omega,Qa8]
   ·rw [if_neg e,upd_ne (by omega)]
theorem same {cs:List CT} {as:List Act} {k n:Nat} {t:CT} (h:Qak cs as=0) (hn:n<cs.length) (h10:as.length<10) (ht:t=(as.take k).foldl (curT n) (Qaq cs n)) :
  Qak cs (as.take k++[setA n t]++as.drop k)=0∧shown (as.take k++[setA n t]++as.drop k) (QaC cs (as.take k++[setA n t]++as.drop k)).1=(QaJ cs as).1:=by
 obtain ⟨z1,z2,z3,okF,okA⟩:=QbP h
 have hf:Qat t n=0:=by
  have base:∀ (l:List Act),(∀ a ∈ l,a ∈ as)→∀ t0,Qat t0 n=0→Qat (l.foldl (curT n) t0) n=0:=fun l=>by
   induction l with
   | nil=>intro _ t0 h0;exact h0
   | cons a l ih =>
    intro hl t0 h0
    rw [List.foldl_cons]
    refine ih (fun b hb=>hl b (by simp [hb])) _ ?_
    unfold curT
    split
    ·rename_i hc
     have ha:=hl a (by simp)
     obtain ⟨j,hj,ej⟩:=List.getElem_of_mem ha
     have:=Qfc (Qha h).2 _ (List.mem_map.2 ⟨j,List.mem_range.2 hj,rfl⟩)
     have e2:as.getD j default=a:=by simp [List.getD,List.getElem?_eq_getElem hj,ej]
     rw [e2] at this
     unfold actD at this
     split at this
     ·cases this
     ·rw [if_pos hc.1,hc.2] at this
      exact this
    ·exact h0
  rw [ht]
  refine base _ (fun a ha=>List.mem_of_mem_take ha) _ ?_
  exact Qfc (Qha h).1 _ (List.mem_map.2 ⟨n,List.mem_range.2 hn,rfl⟩)
 have hc:Qak cs (as.take k++[setA n t]++as.drop k)=0:=by
  refine Qkh h ?_ fun b hb=>?_
  ·simp;omega
  ·rw [List.append_assoc] at hb
   rcases List.mem_append.1 hb with hb | hb
   ·exact .inl (List.mem_of_mem_take hb)
   ·rcases List.mem_append.1 hb with hb | hb
    ·right
     rw [List.mem_singleton.1 hb]
     have c:¬ ((n:Int)<0 ∨ (cs.length:Int)≤n):=by omega
     show (if ((n:Int)<0 ∨ (cs.length:Int)≤n) then 6 else Qat t n)=0
     rw [if_neg c]
     exact hf
    ·exact .inl (List.mem_of_mem_drop hb)
 refine ⟨hc,?_⟩
 obtain ⟨y1,y2,y3,okF',okA'⟩:=QbP hc
 rw [fresh hc]
 unfold QaJ
 rw [if_pos hc,if_pos h]
 show scrS _ _ _ _=scrS _ _ _ _
 rw [Qip z2 _ _ _ okF okA',Qip z2 _ _ _ okF okA,Qep,Qep]
 have e1:as=as.take k++as.drop k:=(List.take_append_drop k as).symm
 have e2:specS cs.length (Qaq cs) as=specS cs.length (Qaq cs) (as.take k++as.drop k):=by rw [← e1]
 rw [e2,Qep,List.foldl_append]
 have e3:[setA n t].foldl formA ((as.take k).foldl formA (Qaq cs))=(as.take k).foldl formA (Qaq cs):=by
  show upd _ ((n:Int).toNat) t=_
  funext i
  rw [Int.toNat_natCast]
  by_cases e:i=n
  ·rw [e,Qa8,ht,Qmc _ _ fun a ha=>(okA a (List.mem_of_mem_take ha)).lo]
  ·rw [upd_ne e]
 rw [e3]
 show _++[]++_=_
 rw [List.append_nil]
end Go.Ab.L26
