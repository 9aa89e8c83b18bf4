/- A part of a proof. -/
import Derived.DeepKeys2
import Derived.MapViews
import Derived.FnData
import Derived.LaidLaws
import Derived.Lib.LaidTab
import Derived.Test.YthiiaehlmfbeoaaGreatDoorAbMmtoAbCl
set_option linter.all false
namespace Go.Ab
open Go
def litAV:Lit→AV
 | .bool b=>.bool b
 | .int k n=>.int k n
 |_=>.undef
theorem vr_lit(g:Gam)(l:Lit):VR g (litAV l) l.toCell:=by
 cases l<;>first|exact .bool _|exact .int _ _|exact .undef _
theorem Qfy{P:Program}{w:World}{name:String}{d:DataW Unit}{gv t m m':Nat}{l:List AV}(hg:P.globalNamed name=some gv)
  (ht:(P.globals[gv]?).map (·.type)=some t)(hk:P.keyTypeAt m t=true)(hti:P.tiled m' t=true)(hl:d.flat.map litAV=l) :
  ∀{laid:List (String×DataW Unit)}{ps:List MemPlace},DataW.LaidVars P w laid ps→(name,d)∈laid →
  ∃vs:List Value,(∀g,VRs g l vs)∧∀i (h:i<vs.length),w.cell? ⟨gv,i,none⟩=some vs[i]
 | [],_,_,hm=>by cases hm
 |(n,d0)::r,ps,h,hm=>by
  obtain⟨g,t',cs,fuel,p,q,h1,h2,h3,h4,h5,_⟩:=h;rcases List.mem_cons.1 hm with e|hm
  ·cases e;obtain rfl:=Option.some.inj (hg.symm.trans h1);obtain rfl:=Option.some.inj (ht.symm.trans h2);obtain⟨k1,_⟩:=keyLits_of_trod m t hk fuel _ _ h4;have hc:=cells_of_lits m' t hti _ _ _ k1;have hc':cs.toList=d.flat.map Lit.toCell:=hc;refine⟨cs.toList,fun g=>?_,fun i hi=>?_⟩
   ·rw[hc',←hl];exact⟨by simp,fun i h1 h2=>by simp only[List.getElem_map];exact vr_lit g _⟩
   ·rw[World.var?_cell h1 h3 i,←Array.getElem?_toList,gE hi]
  ·exact Qfy hg ht hk hti hl h5 hm
theorem glob_of_laid{P:Program}{w:World}{laid:List (String×DataW Unit)}(h:laidMet P laid w)(i:Nat){name:String}{d:DataW Unit}(hi:laid[i]? = some (name,d)){gv t m m':Nat}{l:List AV}
  (hg:P.globalNamed name=some gv)(ht:(P.globals[gv]?).map (·.type)=some t)(hk:P.keyTypeAt m t=true)(hti:P.tiled m' t=true)(hl:d.flat.map litAV=l) :
  ∃vs:List Value,(∀g,VRs g l vs)∧∀i (h:i<vs.length),w.cell? ⟨gv,i,none⟩=some vs[i]:=by
 obtain⟨ps,h,_⟩:=h;exact Qfy hg ht hk hti hl h (List.mem_of_getElem? hi)
end Go.Ab
