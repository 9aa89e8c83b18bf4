/- A part of a proof. -/
import Derived.Test.YthiiaehlmfbeoaaGreatDoorAbSttoAbSv
set_option linter.all false
namespace Go.Ab
open Go
section
variable(F:FuncId→Option AFun)(M:Memo)
def Reach(s:AS)(G:AS→Prop):Prop:=∃n s',Qcf F M n s=some s'∧G s'
structure Ctx where
 fn:FuncId
 defers:List ADef
 kind:CallKind
 roundOf:Option Nat
 cs:List AF
def Ctx.fr(x:Ctx)(t:List AV)(k:List AItem):AF:={fn:=x.fn,tmps:=t,todo:=k,defers:=x.defers,mode:=.run,kind:=x.kind,roundOf:=x.roundOf}
def Ctx.at(x:Ctx)(t:List AV)(k:List AItem)(h:AH):AS:=⟨x.fr t k,x.cs,h⟩
def Ctr(f:FuncId)(args:List AV)(h:AH)(R RP:AV→AH→Prop):Prop:=
 ∀(caller:AF) (cs:List AF) (G:AS→Prop),(∀v h',R v h'→∃fr',caller.finish h' v=some fr'∧Reach F M ⟨fr',cs,h'⟩ G) →
  (∀p h',RP p h'→Reach F M ⟨caller.raise [⟨p,false⟩],cs,h'⟩ G)→∃af,AF.enter F f args .normal=some af∧Reach F M ⟨af,caller::cs,h⟩ G
end
section
variable{F:FuncId→Option AFun}{M:Memo}{G:AS→Prop}{x:Ctx}{t:List AV}{k:List AItem}{h:AH}
theorem Qif:∀(n m:Nat)(s s1:AS),Qcf F M n s=some s1→Qcf F M (n+m) s=Qcf F M m s1
 |0,m,s,s1,e=>by cases e;rw[Nat.zero_add]
 |n+1,m,s,s1,e=>by
  rw[Nat.add_right_comm];have e':(match astep F M s with|some s'=>Qcf F M n s'|none=>none)=some s1:=e;show (match astep F M s with|some s'=>Qcf F M (n+m) s'|none=>none)=_;cases hs:astep F M s with
  |none=>rw[hs]at e';cases e'
  |some s2=>rw[hs]at e';exact Qif n m s2 s1 e'
theorem Reach.done{s:AS}(hG:G s):Reach F M s G:=⟨0,s,rfl,hG⟩
theorem Reach.step{s s1:AS}(hs:astep F M s=some s1)(hr:Reach F M s1 G):Reach F M s G:=by
 obtain⟨n,s',h1,h2⟩:=hr;exact⟨n+1,s',by unfold Qcf;rw[hs];exact h1,h2⟩
theorem Reach.trans{s:AS}{G1:AS→Prop}(hr:Reach F M s G1)(hk:∀s1,G1 s1→Reach F M s1 G):Reach F M s G:=by
 obtain⟨n,s1,h1,h2⟩:=hr;obtain⟨m,s2,h3,h4⟩:=hk s1 h2;exact⟨n+m,s2,by rw[Qif n m s s1 h1];exact h3,h4⟩
theorem Reach.mono{s:AS}{G1:AS→Prop}(hr:Reach F M s G1)(hk:∀s1,G1 s1→G s1):Reach F M s G:=hr.trans fun s1 h1=>.done (hk s1 h1)
theorem R_skip(hr:Reach F M (x.at t k h) G):Reach F M (x.at t (.code .skip::k) h) G:=.step rfl hr
theorem R_label{l:Nat}(hr:Reach F M (x.at t k h) G):Reach F M (x.at t (.code (.label l)::k) h) G:=.step rfl hr
theorem Qkr{id:Nat}(hr:Reach F M (x.at t k h) G):Reach F M (x.at t (.inBlock id::k) h) G:=.step rfl hr
theorem QoH{b:AC}(hr:Reach F M (x.at t k h) G):Reach F M (x.at t (.inScope b::k) h) G:=.step rfl hr
theorem R_seq{a b:AC}(hr:Reach F M (x.at t (.code a::.code b::k) h) G):Reach F M (x.at t (.code (.seq a b)::k) h) G:=.step rfl hr
theorem R_block{id:Nat}{b:AC}(hr:Reach F M (x.at t (.code b::.inBlock id::k) h) G):Reach F M (x.at t (.code (.block id b)::k) h) G:=.step rfl hr
theorem R_loop{b:AC}(hr:Reach F M (x.at t (.code b::.inLoop b::k) h) G):Reach F M (x.at t (.code (.loop b)::k) h) G:=.step rfl hr
theorem R_inLoop{b:AC}(hr:Reach F M (x.at t (.code b::.inLoop b::k) h) G):Reach F M (x.at t (.inLoop b::k) h) G:=.step rfl hr
theorem R_scope{b:AC}(hr:Reach F M (x.at t (.code b::.inScope b::k) h) G):Reach F M (x.at t (.code (.scope b)::k) h) G:=.step rfl hr
theorem R_cond{c:AOpd}{a b:AC}{z:Bool}(hc:aev t c=.bool z)(hr:Reach F M (x.at t (.code (if z then a else b)::k) h) G):Reach F M (x.at t (.code (.cond c a b)::k) h) G:=by
 refine .step (s1:=x.at t (.code (if z then a else b)::k) h) ?_ hr;show (match aev t c with|.bool b'=>_|_=>_)=_;rw[hc];rfl
theorem R_exit{id:Nat}{k':List AItem}(he:Qal id k=some k')(hr:Reach F M (x.at t k' h) G):Reach F M (x.at t (.code (.exit id)::k) h) G:=by
 refine .step (s1:=x.at t k' h) ?_ hr;show (match Qal id k with|some k'=>_|none=>_)=_;rw[he];rfl
theorem R_region{ops:List AOper}(hr:Reach F M (x.at t (.inRegion ops::k) h) G):Reach F M (x.at t (.code (.region ops)::k) h) G:=.step rfl hr
theorem R_nil(hr:Reach F M (x.at t k h) G):Reach F M (x.at t (.inRegion []::k) h) G:=.step rfl hr
theorem R_draw{plan:List Stage}{tl:List AOper}(hr:Reach F M (x.at t (.drawRest plan::.ends tl::k) h) G):Reach F M (x.at t (.code (.draw plan tl)::k) h) G:=.step rfl hr
theorem QoI(hr:Reach F M (x.at t k h) G):Reach F M (x.at t (.drawRest []::k) h) G:=.step rfl hr
theorem R_ends(hr:Reach F M (x.at t k h) G):Reach F M (x.at t (.ends []::k) h) G:=.step rfl hr
theorem R_stage{st:Stage}{plan:List Stage}(hr:Reach F M (x.at t (.inDraw st.ops st.main st.again st.mask plan::k) h) G):Reach F M (x.at t (.drawRest (st::plan)::k) h) G:=.step rfl hr
theorem Qm6{ag:List AOper}{mask:List Nat}{plan:List Stage}(hr:Reach F M (x.at t (.drawRest plan::k) h) G):Reach F M (x.at t (.inDraw [] none ag mask plan::k) h) G:=.step rfl hr
theorem Qlx{o:AOper}{ag:List AOper}{mask:List Nat}{plan:List Stage}(hr:Reach F M (x.at t (.inMain o ag mask plan::k) h) G):Reach F M (x.at t (.inDraw [] (some o) ag mask plan::k) h) G:=.step rfl hr
theorem R_op{o:AOper}{rest:List AOper}{a:AOp}{v:AV}{h1:AH}(hw:Qai t o=some true)(ha:o.act=.op a)(he:exec h (aev t) a=some (v,h1))(hr:Reach F M (x.at (setDst t o.dst v) (.inRegion rest::k) h1) G) :
  Reach F M (x.at t (.inRegion (o::rest)::k) h) G:=by
 refine .step (s1:=x.at (setDst t o.dst v) (.inRegion rest::k) h1) ?_ hr;show aone F M (x.at t (.inRegion (o::rest)::k) h) o=_;unfold aone;rw[show Qai (x.at t (.inRegion (o::rest)::k) h).fr.tmps o=some true from hw];show aoper F M _ o=_;unfold aoper;rw[ha];show (match exec h (aev t) a with|some (v,h)=>_|none=>_)=_;rw[he];rfl
theorem R_not{o:AOper}{rest:List AOper}(hw:Qai t o=some false)(hr:Reach F M (x.at (setDst t o.dst (.tuple [])) (.inRegion rest::k) h) G):Reach F M (x.at t (.inRegion (o::rest)::k) h) G:=by
 refine .step (s1:=x.at (setDst t o.dst (.tuple [])) (.inRegion rest::k) h) ?_ hr;show aone F M (x.at t (.inRegion (o::rest)::k) h) o=_;unfold aone;rw[show Qai (x.at t (.inRegion (o::rest)::k) h).fr.tmps o=some false from hw];rfl
theorem R_float{o:AOper}{rest:List AOper}{main:Option AOper}{ag:List AOper}{mask:List Nat}{plan:List Stage}{a:AOp}{v:AV}{h1:AH}(hw:Qai t o=some true)(ha:o.act=.op a)(he:exec h (aev t) a=some (v,h1))(hm:(a.makes && !QdT t o.dst)=false)
  (hr:Reach F M (x.at (setDst t o.dst v) (.inDraw rest main ag mask plan::k) h1) G):Reach F M (x.at t (.inDraw (o::rest) main ag mask plan::k) h) G:=by
 refine .step (s1:=x.at (setDst t o.dst v) (.inDraw rest main ag mask plan::k) h1) ?_ hr;show QeO (x.at t (.inDraw (o::rest) main ag mask plan::k) h) o (.inDraw rest main ag mask plan::k)=_;unfold QeO;rw[show Qai (x.at t (.inDraw (o::rest) main ag mask plan::k) h).fr.tmps o=some true from hw];show (match o.act with|.op a=>_|_=>_)=_;rw[ha];show (match exec h (aev t) a with|some (v,h)=>_|none=>_)=_;rw[he];show (if (a.makes && !QdT t o.dst)=true then none else _)=_;rw[hm];rfl
theorem Qm9{o:AOper}{rest:List AOper}{main:Option AOper}{ag:List AOper}{mask:List Nat}{plan:List Stage}(hw:Qai t o=some false)
  (hr:Reach F M (x.at (setDst t o.dst (.tuple [])) (.inDraw rest main ag mask plan::k) h) G):Reach F M (x.at t (.inDraw (o::rest) main ag mask plan::k) h) G:=by
 refine .step (s1:=x.at (setDst t o.dst (.tuple [])) (.inDraw rest main ag mask plan::k) h) ?_ hr;show QeO (x.at t (.inDraw (o::rest) main ag mask plan::k) h) o (.inDraw rest main ag mask plan::k)=_;unfold QeO;rw[show Qai (x.at t (.inDraw (o::rest) main ag mask plan::k) h).fr.tmps o=some false from hw];rfl
theorem R_mainOp{o:AOper}{ag:List AOper}{mask:List Nat}{plan:List Stage}{a:AOp}{v:AV}{h1:AH}(hw:Qai t o=some true)(ha:o.act=.op a)(he:exec h (aev t) a=some (v,h1))(hg:ag.all (again (setDst t o.dst v) h1)=true)
  (hr:Reach F M (x.at (setDst t o.dst v) (.drawRest plan::k) h1) G):Reach F M (x.at t (.inMain o ag mask plan::k) h) G:=by
 refine .step (s1:=x.at (setDst t o.dst v) (.drawRest plan::k) h1) ?_ hr;show aone F M (x.at t (.inMain o ag mask plan::k) h) o=_;unfold aone;rw[show Qai (x.at t (.inMain o ag mask plan::k) h).fr.tmps o=some true from hw];show aoper F M _ o=_;unfold aoper;rw[ha];show (match exec h (aev t) a with|some (v,h)=>_|none=>_)=_;rw[he];show Option.map _ (if ag.all (again (setDst t o.dst v) h1) then _ else none)=_;rw[hg];rfl
theorem QoG{o:AOper}{ag:List AOper}{mask:List Nat}{plan:List Stage}(hw:Qai t o=some false)(hg:ag.all (again (setDst t o.dst (.tuple [])) h)=true)
  (hr:Reach F M (x.at (setDst t o.dst (.tuple [])) (.drawRest plan::k) h) G):Reach F M (x.at t (.inMain o ag mask plan::k) h) G:=by
 refine .step (s1:=x.at (setDst t o.dst (.tuple [])) (.drawRest plan::k) h) ?_ hr;show aone F M (x.at t (.inMain o ag mask plan::k) h) o=_;unfold aone;rw[show Qai (x.at t (.inMain o ag mask plan::k) h).fr.tmps o=some false from hw];show Option.map _ (if ag.all (again (setDst t o.dst (.tuple [])) h) then _ else none)=_;rw[hg];rfl
theorem R_call{o:AOper}{rest:List AOper}{f:AOpd}{args:List AOpd}{fid:FuncId}{as:List AV}{R RP:AV→AH→Prop}(hw:Qai t o=some true)(ha:o.act=.call f args)(ht:QaR (aev t f) (args.map (aev t))=some (.enter fid as))(hm:M fid as=none)
  (hc:Ctr F M fid as h R RP)(hr:∀v h',R v h'→Reach F M (x.at (setDst t o.dst v) (.inRegion rest::k) h') G)(hp:∀p h',RP p h'→Reach F M ⟨(x.fr t (.inRegion (o::rest)::k)).raise [⟨p,false⟩],x.cs,h'⟩ G) :
  Reach F M (x.at t (.inRegion (o::rest)::k) h) G:=by
 obtain⟨af,he,hr'⟩:=hc (x.fr t (.inRegion (o::rest)::k)) x.cs G (fun v h' hv=>⟨_,rfl,hr v h' hv⟩) hp;refine .step (s1:=⟨af,x.fr t (.inRegion (o::rest)::k)::x.cs,h⟩) ?_ hr';show aone F M (x.at t (.inRegion (o::rest)::k) h) o=_;unfold aone;rw[show Qai (x.at t (.inRegion (o::rest)::k) h).fr.tmps o=some true from hw];show aoper F M _ o=_;unfold aoper;rw[ha];show (match QaR (aev t f) (args.map (aev t)) with|some t=>_|none=>_)=_;rw[ht];show (match M fid as with|some c=>_|none=>_)=_;rw[hm];show Option.map _ (AF.enter F fid as .normal)=_;rw[he];rfl
theorem Qm8{o:AOper}{ag:List AOper}{mask:List Nat}{plan:List Stage}{f:AOpd}{args:List AOpd}{fid:FuncId}{as:List AV}{R RP:AV→AH→Prop}(hw:Qai t o=some true)(ha:o.act=.call f args)(ht:QaR (aev t f) (args.map (aev t))=some (.enter fid as))
  (hm:M fid as=none)(hc:Ctr F M fid as h R RP)(hr:∀v h',R v h'→ag.all (again (setDst t o.dst v) h')=true∧Reach F M (x.at (setDst t o.dst v) (.drawRest plan::k) h') G)
  (hp:∀p h',RP p h'→Reach F M ⟨(x.fr t (.inMain o ag mask plan::k)).raise [⟨p,false⟩],x.cs,h'⟩ G):Reach F M (x.at t (.inMain o ag mask plan::k) h) G:=by
 obtain⟨af,he,hr'⟩:=hc (x.fr t (.inMain o ag mask plan::k)) x.cs G (fun v h' hv=>by
  obtain⟨h1,h2⟩:=hr v h' hv;refine⟨_,?_,h2⟩;show (if ag.all (again (setDst t o.dst v) h') then _ else none)=_;rw[h1];rfl) hp
 refine .step (s1:=⟨af,x.fr t (.inMain o ag mask plan::k)::x.cs,h⟩) ?_ hr';show aone F M (x.at t (.inMain o ag mask plan::k) h) o=_;unfold aone;rw[show Qai (x.at t (.inMain o ag mask plan::k) h).fr.tmps o=some true from hw];show aoper F M _ o=_;unfold aoper;rw[ha];show (match QaR (aev t f) (args.map (aev t)) with|some t=>_|none=>_)=_;rw[ht];show (match M fid as with|some c=>_|none=>_)=_;rw[hm];show Option.map _ (AF.enter F fid as .normal)=_;rw[he];rfl
theorem R_ret{caller:AF}{cs:List AF}{fn:AFun}{v:AV}{fr':AF}(hx:x.defers=[]∧x.kind=.normal∧x.roundOf=none∧x.cs=caller::cs)(hf:F x.fn=some fn)(hv:QaA h t fn.results=some v)(hfin:caller.finish h v=some fr')(hr:Reach F M ⟨fr',cs,h⟩ G) :
  Reach F M (x.at t (.code .ret::k) h) G:=by
 obtain⟨fn',d,kd,ro,c⟩:=x;obtain⟨rfl,rfl,rfl,rfl⟩:=hx;refine .step (s1:=⟨{fn:=fn',tmps:=t,todo:=.code .ret::k,defers:=[],mode:=.returning,kind:=.normal,roundOf:=none},caller::cs,h⟩) rfl (.step (s1:=⟨fr',cs,h⟩) ?_ hr);show (match F fn' with|some fn=>_|none=>_)=_;rw[show F fn'=some fn from hf];show (match QaA h t fn.results with|some v=>_|none=>_)=_;rw[hv];show Option.map _ (caller.finish h v)=_;rw[hfin];rfl
theorem R_end{caller:AF}{cs:List AF}{fn:AFun}{v:AV}{fr':AF}(hx:x.defers=[]∧x.kind=.normal∧x.roundOf=none∧x.cs=caller::cs)(hf:F x.fn=some fn)(hv:QaA h t fn.results=some v)(hfin:caller.finish h v=some fr')(hr:Reach F M ⟨fr',cs,h⟩ G) :
  Reach F M (x.at t [] h) G:=by
 obtain⟨fn',d,kd,ro,c⟩:=x;obtain⟨rfl,rfl,rfl,rfl⟩:=hx;refine .step (s1:=⟨{fn:=fn',tmps:=t,todo:=[],defers:=[],mode:=.returning,kind:=.normal,roundOf:=none},caller::cs,h⟩) rfl (.step (s1:=⟨fr',cs,h⟩) ?_ hr);show (match F fn' with|some fn=>_|none=>_)=_;rw[show F fn'=some fn from hf];show (match QaA h t fn.results with|some v=>_|none=>_)=_;rw[hv];show Option.map _ (caller.finish h v)=_;rw[hfin];rfl
theorem Ctr.intro{f:FuncId}{args:List AV}{fn:AFun}{R RP:AV→AH→Prop}(hf:F f=some fn)
  (hr:∀(caller:AF)(cs:List AF)(G:AS→Prop),(∀v h',R v h'→∃fr',caller.finish h' v=some fr'∧Reach F M ⟨fr',cs,h'⟩ G)→(∀p h',RP p h'→Reach F M ⟨caller.raise [⟨p,false⟩],cs,h'⟩ G) →
   Reach F M ((⟨f,[],.normal,none,caller::cs⟩:Ctx).at (args++List.replicate (fn.ntmps-args.length) .undef) [.code fn.body] h) G):Ctr F M f args h R RP:=by
 intro caller cs G h1 h2;refine⟨_,?_,hr caller cs G h1 h2⟩;unfold AF.enter;rw[hf];rfl
theorem Ctr.mono{f:FuncId}{args:List AV}{R R' RP RP':AV→AH→Prop}(hc:Ctr F M f args h R RP)(h1:∀v h',R v h'→R' v h')(h2:∀v h',RP v h'→RP' v h'):Ctr F M f args h R' RP':=
 fun caller cs G k1 k2=>hc caller cs G (fun v h' hv=>k1 v h' (h1 v h' hv)) fun p h' hp=>k2 p h' (h2 p h' hp)
end
end Go.Ab
namespace Go.Ab
open Go
def Ctx.out(x:Ctx)(t:List AV)(k:List AItem)(m:AMode):AF:={fn:=x.fn,tmps:=t,todo:=k,defers:=x.defers,mode:=m,kind:=x.kind,roundOf:=x.roundOf}
section
variable{F:FuncId→Option AFun}{M:Memo}{G:AS→Prop}{x:Ctx}{t:List AV}{k:List AItem}{h:AH}
theorem R_endD(hro:x.roundOf=none)(hr:Reach F M ⟨x.out t [] .returning,x.cs,h⟩ G):Reach F M (x.at t [] h) G:=by
 obtain⟨fn',d,kd,ro,c'⟩:=x;obtain rfl:=hro;exact .step rfl hr
theorem R_leave{caller:AF}{cs:List AF}{fn:AFun}{v:AV}{fr':AF}(hx:x.defers=[]∧x.kind=.normal∧x.cs=caller::cs)(hf:F x.fn=some fn)(hv:QaA h t fn.results=some v)(hfin:caller.finish h v=some fr')(hr:Reach F M ⟨fr',cs,h⟩ G) :
  Reach F M ⟨x.out t k .returning,x.cs,h⟩ G:=by
 obtain⟨fn',d,kd,ro,c⟩:=x;obtain⟨rfl,rfl,rfl⟩:=hx;refine .step (s1:=⟨fr',cs,h⟩) ?_ hr;show (match F fn' with|some fn=>_|none=>_)=_;rw[show F fn'=some fn from hf];show (match QaA h t fn.results with|some v=>_|none=>_)=_;rw[hv];show Option.map _ (caller.finish h v)=_;rw[hfin];rfl
theorem R_memo{o:AOper}{rest:List AOper}{f:AOpd}{args:List AOpd}{fid:FuncId}{as:List AV}{c:AH→Option (AV×AH)}{v:AV}{h':AH}(hw:Qai t o=some true)(ha:o.act=.call f args)(ht:QaR (aev t f) (args.map (aev t))=some (.enter fid as))
  (hm:M fid as=some c)(hc:c h=some (v,h'))(hr:Reach F M (x.at (setDst t o.dst v) (.inRegion rest::k) h') G):Reach F M (x.at t (.inRegion (o::rest)::k) h) G:=by
 refine .step ?_ hr;show aone F M (x.at t (.inRegion (o::rest)::k) h) o=_;unfold aone;rw[show Qai (x.at t (.inRegion (o::rest)::k) h).fr.tmps o=some true from hw];show aoper F M _ o=_;unfold aoper;rw[ha];show (match QaR (aev t f) (args.map (aev t)) with|some t=>_|none=>_)=_;rw[ht];show (match M fid as with|some c=>_|none=>_)=_;rw[hm];show (match c h with|some (v,h)=>_|none=>_)=_;rw[hc];rfl
end
theorem sN(t:List AV)(v:AV):setDst t none v=t:=rfl
theorem s0(a:AV)(l:List AV)(v:AV):setDst (a::l) (some 0) v=v::l:=rfl
theorem sS(a:AV)(l:List AV)(n:Nat)(v:AV):setDst (a::l) (some (n+1)) v=a::setDst l (some n) v:=rfl
theorem a0(a:AV)(l:List AV):aev (a::l) (.tmp 0)=a:=rfl
theorem aS(a:AV)(l:List AV)(n:Nat):aev (a::l) (.tmp (n+1))=aev l (.tmp n):=rfl
theorem aC(l:List AV)(v:AV):aev l (.const v)=v:=rfl
theorem rZ(v:AV):List.replicate 0 v=[]:=rfl
theorem rS(n:Nat)(v:AV):List.replicate (n+1) v=v::List.replicate n v:=rfl
theorem pN(l:List AV):[]++l=l:=rfl
theorem pC(a:AV)(l m:List AV):(a::l)++m=a::(l++m):=rfl
end Go.Ab
namespace Go.Ab
open Go
section
variable{F:FuncId→Option AFun}{M:Memo}{G:AS→Prop}{x:Ctx}{t:List AV}{k:List AItem}{h:AH}
def Ctx.wait(x:Ctx)(t:List AV)(k:List AItem)(b l:Nat):AF:={fn:=x.fn,tmps:=t,todo:=.inRangeFunc l::k,defers:=.collected b::x.defers,mode:=.run,kind:=x.kind,roundOf:=x.roundOf}
theorem Qly{f:AOpd}{params:List Nat}{assign body:AC}{fid:FuncId}{first cap:List AV}{fn:AFun}(hro:x.roundOf=none)(hf:aev t f=.func fid first cap)(hm:∀as,M fid as=none)(hF:F fid=some fn)
  (hr:Reach F M ((⟨fid,[],.normal,none,x.wait t k h.next (h.next+1)::x.cs⟩:Ctx).at ((first++[AV.yield (h.next+1)]++cap)++List.replicate (fn.ntmps-(first++[AV.yield (h.next+1)]++cap).length) .undef) [.code fn.body]
   ((h.alloc (.deferred (some []))).alloc (.loop .ready none x.fn t params assign body h.next))) G):Reach F M (x.at t (.code (.rangeFunc f params assign body)::k) h) G:=by
 obtain⟨fn',d,kd,ro,c'⟩:=x;obtain rfl:=hro;refine .step ?_ hr;show (match QaR (aev t f) [AV.yield (h.next+1)] with|some (.enter f args)=>_|_=>_)=_;rw[hf];show (match M fid (first++[AV.yield (h.next+1)]++cap) with|some c=>_|none=>_)=_;rw[hm];show Option.map _ (AF.enter F fid _ .normal)=_;unfold AF.enter;rw[hF];rfl
theorem R_round{o:AOper}{rest:List AOper}{f:AOpd}{args:List AOpd}{l:Nat}{pend:Option AC}{fn:FuncId}{fn0:AFun}{tmps:List AV}{params:List Nat}{assign body:AC}{d:Nat}{st:LoopState}(hw:Qai t o=some true)(ha:o.act=.call f args)(hf:aev t f=.yield l)
  (hg:h.get l=some (.loop st pend fn tmps params assign body d))(hl:args.length=params.length)(hF:F fn=some fn0)
  (hr:Reach F M ((⟨fn,[],.normal,some l,x.fr t (.inRegion (o::rest)::k)::x.cs⟩:Ctx).at ((params.zip (args.map (aev t))).foldl (fun t x=>t.set x.1 x.2) tmps) [.code assign,.beginRound,.code body] h) G):Reach F M (x.at t (.inRegion (o::rest)::k) h) G:=by
 refine .step ?_ hr;show aone F M (x.at t (.inRegion (o::rest)::k) h) o=_;unfold aone;rw[show Qai (x.at t (.inRegion (o::rest)::k) h).fr.tmps o=some true from hw];show aoper F M _ o=_;unfold aoper;rw[ha];show (match QaR (aev t f) (args.map (aev t)) with|some t=>_|none=>_)=_;rw[hf];show (match h.get l with|some (.loop _ _ fn tmps params assign body _)=>_|_=>_)=_;rw[hg];show (if (args.map (aev t)).length=params.length∧(F fn).isSome then _ else _)=_;rw[if_pos ⟨by simpa using hl,by rw[hF];rfl⟩];rfl
theorem Qks{l:Nat}{pend:Option AC}{fn:FuncId}{tmps:List AV}{params:List Nat}{assign body:AC}{d:Nat}(hro:x.roundOf=some l)(hg:h.get l=some (.loop .ready pend fn tmps params assign body d))
  (hr:Reach F M (x.at t k (h.put l (.loop .busy pend fn tmps params assign body d))) G):Reach F M (x.at t (.beginRound::k) h) G:=by
 obtain⟨fn',d',kd,ro,c'⟩:=x;obtain rfl:=hro;refine .step ?_ hr;show (match h.get l with|some (.loop .ready pend fn tmps params assign body d)=>_|_=>_)=_;rw[hg];rfl
theorem Qna{l:Nat}{pend:Option AC}{fn:FuncId}{tmps:List AV}{params:List Nat}{assign body:AC}{d:Nat}{st:LoopState}{caller fr':AF}{cs:List AF}(hx:x.kind=.normal∧x.roundOf=some l∧x.cs=caller::cs)(hg:h.get l=some (.loop st pend fn tmps params assign body d))
  (hfin:caller.finish (h.put l (.loop .ready none fn tmps params assign body d)) (.bool true)=some fr')(hr:Reach F M ⟨fr',cs,h.put l (.loop .ready none fn tmps params assign body d)⟩ G):Reach F M (x.at t [] h) G:=by
 obtain⟨fn',d',kd,ro,c'⟩:=x;obtain⟨rfl,rfl,rfl⟩:=hx;refine .step ?_ hr;show (match CallKind.normal,h.get l with|.normal,some (.loop _ _ fn tmps params assign body d)=>_|_,_=>none)=_;rw[hg];show Option.map _ (caller.finish (h.put l (.loop .ready none fn tmps params assign body d)) (.bool true))=_;rw[hfin];rfl
theorem QhF{l:Nat}{fn:FuncId}{tmps:List AV}{params:List Nat}{assign body:AC}{d:Nat}(hg:h.get l=some (.loop .ready none fn tmps params assign body d))
  (hr:Reach F M (x.at t k (h.put l (.loop .exhausted none fn tmps params assign body d))) G):Reach F M (x.at t (.endRangeFunc l::k) h) G:=by
 refine .step ?_ hr;show (match h.get l with|some (.loop st pend fn tmps params assign body d)=>_|_=>_)=_;rw[hg];rfl
theorem QlA{b:Nat}{ds:List ADef}(hd:x.defers=.collected b::ds)(hg:h.get b=some (.deferred (some [])))(hr:Reach F M ⟨({x with defers:=ds}:Ctx).out t k .returning,x.cs,h.put b (.deferred none)⟩ G):Reach F M ⟨x.out t k .returning,x.cs,h⟩ G:=by
 obtain⟨fn',d',kd,ro,c'⟩:=x;obtain rfl:=hd;refine .step ?_ hr;show (match h.get b with|some (.deferred (some calls))=>_|_=>_)=_;rw[hg];rfl
end
def ptrLow(N:Nat):AV→Prop
 | .ptr b _=>b<N
 | .iptr _=>True
 |_=>False
def Low(N:Nat)(h h':AH):Prop:=∀b,b<N→h'.get b=h.get b
theorem QaH{N:Nat}{h h':AH}(hL:Low N h h'){p:AV}(hp:ptrLow N p)(n:Nat):loadA h' n p=loadA h n p:=by
 cases p with
 |ptr b o =>
  have hb:b<N:=hp;simp only[loadA,AH.read,AH.cellsAt,hL b hb]
 |iptr l=>rfl
 |_=>exact hp.elim
section
variable{h:AH}{ev:AOpd→AV}
theorem Qnd{a:AOpd}{b o:Nat}{l:List AV}{sp:Option Nat}{pre:Nat}{anc:List Nat}{v:AV}(ha:ev a=.ptr b o)(hg:h.get b=some (.cells l sp pre anc))(hv:l[o]? = some v):exec h ev (.load1 a)=some (v,h):=by
 obtain⟨hlt,hv'⟩:=List.getElem?_eq_some_iff.1 hv;have:(l.drop o).take 1=[v]:=by
  rw[List.drop_eq_getElem_cons hlt,hv'];rfl
 simp only[exec,ha,loadA,AH.read,AH.cellsAt,hg];rw[if_pos (show o+1≤l.length by omega),this]
end
theorem Qam(h:AH)(o:AO):(h.alloc o).get h.next=some o:=by simp[AH.alloc]
theorem Qad(h:AH)(o:AO){b:Nat}(hb:b<h.next):(h.alloc o).get b=h.get b:=by
 have:b≠h.next:=by omega
 simp[AH.alloc,this]
theorem QeY(h:AH)(o:AO):(h.alloc o).next=h.next+1:=rfl
theorem get_put(h:AH)(b:Nat)(o:AO):(h.put b o).get b=some o:=by simp[AH.put]
theorem Qab(h:AH){b x:Nat}(o:AO)(hx:x≠b):(h.put b o).get x=h.get x:=by simp[AH.put,hx]
theorem Qew(h:AH)(b:Nat)(o:AO):(h.put b o).next=h.next:=rfl
structure Up (h h':AH):Prop where
 next:h.next≤h'.next
 keep:∀b,b<h.next→h'.get b=h.get b
 wf:∀b,h'.next≤b→h'.get b=none
theorem Up.refl{h:AH}(wf:∀b,h.next≤b→h.get b=none):Up h h:=⟨Nat.le_refl _,fun _ _=>rfl,wf⟩
theorem Up.trans{h h1 h2:AH}(a:Up h h1)(b:Up h1 h2):Up h h2:=⟨Nat.le_trans a.next b.next,fun x hx=>by rw[b.keep x (Nat.lt_of_lt_of_le hx a.next),a.keep x hx],b.wf⟩
theorem Up.low{N:Nat}{h h':AH}(u:Up h h')(hN:N≤h.next):Low N h h':=fun b hb=>u.keep b (Nat.lt_of_lt_of_le hb hN)
theorem Up.alloc{h0 h:AH}(u:Up h0 h)(o:AO):Up h0 (h.alloc o):=by
 refine⟨Nat.le_trans u.next (Nat.le_succ _),fun b hb=>?_,fun b hb=>?_⟩
 ·rw[Qad h o (Nat.lt_of_lt_of_le hb u.next),u.keep b hb]
 ·have hb':h.next+1≤b:=hb
  have hne:b≠h.next:=by omega
  show (if b=h.next then some o else h.get b)=none;rw[if_neg hne];exact u.wf b (by omega)
theorem Up.put{h0 h:AH}(u:Up h0 h){b:Nat}(hb:h0.next≤b)(hl:b<h.next)(o:AO):Up h0 (h.put b o):=by
 refine⟨u.next,fun x hx=>?_,fun x hx=>?_⟩
 ·rw[Qab _ _ (by omega),u.keep x hx]
 ·have hx':h.next≤x:=hx
  rw[Qab _ _ (by omega)];exact u.wf x hx'
theorem grown{h:AH}(u:Up h h)(o:AO):Up h (h.alloc o)∧Up (h.alloc o) (h.alloc o)∧(h.alloc o).get h.next=some o∧(h.alloc o).next=h.next+1:=⟨u.alloc o,.refl (u.alloc o).wf,Qam h o,rfl⟩
section
variable{h:AH}{ev:AOpd→AV}
end
theorem Qbk{t:List AV}{h:AH}{o:AOper}{a:AOp}{d:Nat}{v':AV}{h2:AH}(hw:Qai t o=some true)(ha:o.act=.op a)(hd:o.dst=some d)(hq:a.quiet=true)(he:exec h (aev t) a=some (v',h2))(hs:t.getD d .undef=v'):again t h o=true:=by
 unfold again;rw[hw];simp only[ha,hd,Option.map_some,hq,if_pos,he];rw[hs];exact AV.eqS_refl _
theorem again_m{t:List AV}{h:AH}{o:AOper}{a:AOp}{d:Nat}{b:Nat}{ob ob':AO}(hw:Qai t o=some true)(ha:o.act=.op a)(hd:o.dst=some d)(hq:a.quiet=false)(hm:a.makes=true)(hb:(t.getD d .undef).block=some b)(ho:QgA t a=some ob)(hg:h.get b=some ob')
  (hs:AO.same ob' ob=true):again t h o=true:=by
 unfold again;rw[hw];simp only[ha,hd,Option.map_some,hq,hm,if_pos,hb,ho,hg];exact hs
def Objs(N:Nat)(h:AH):List (Nat×AO)→Prop
 | []=>True
 |x::l=>h.get x.1=some x.2∧x.1<h.next∧N≤x.1∧(∀p∈l,p.1<x.1)∧Objs N h l
section
variable{N:Nat}{h h':AH}
theorem Objs.at:∀{l:List (Nat×AO)}(i:Nat){b:Nat}{o:AO},Objs N h l→l[i]? = some (b,o)→h.get b=some o∧b<h.next∧N≤b
 | [],_,_,_,_,e=>by simp at e
 |x::l,0,b,o,H,e=>by
  obtain⟨h1,h2,h3,_⟩:=H;simp at e;subst e;exact⟨h1,h2,h3⟩
 |x::l,i+1,b,o,H,e=>Objs.at i H.2.2.2.2 (by simpa using e)
theorem Objs.lt:∀{l:List (Nat×AO)},Objs N h l→∀p∈l,p.1<h.next
 | [],_,p,hp=>by cases hp
 |x::l,H,p,hp=>by
  rcases List.mem_cons.1 hp with rfl|hp
  ·exact H.2.1
  ·exact Objs.lt H.2.2.2.2 p hp
theorem Objs.up(u:Up h h'):∀{l:List (Nat×AO)},Objs N h l→Objs N h' l
 | [],_=>trivial
 |x::l,H=>⟨by rw[u.keep _ H.2.1];exact H.1,Nat.lt_of_lt_of_le H.2.1 u.next,H.2.2.1,H.2.2.2.1,Objs.up u H.2.2.2.2⟩
theorem Objs.put_ne{b:Nat}(o':AO):∀{l:List (Nat×AO)},(∀p∈l,p.1≠b)→Objs N h l→Objs N (h.put b o') l
 | [],_,_=>trivial
 |x::l,hne,H=>⟨by rw[Qab _ _ (hne x (List.mem_cons_self ..))];exact H.1,H.2.1,H.2.2.1,H.2.2.2.1,Objs.put_ne o' (fun p hp=>hne p (List.mem_cons_of_mem _ hp)) H.2.2.2.2⟩
theorem Objs.put{b:Nat}{o:AO}(o':AO):∀{l:List (Nat×AO)}(i:Nat),Objs N h l→l[i]? = some (b,o)→Objs N (h.put b o') (l.set i (b,o'))
 | [],_,_,e=>by simp at e
 |x::l,0,H,e=>by
  obtain⟨h1,h2,h3,h4,h5⟩:=H;simp at e;subst e;exact⟨get_put h b o',h2,h3,h4,Objs.put_ne o' (fun p hp=>Nat.ne_of_lt (h4 p hp)) h5⟩
 |x::l,i+1,H,e=>by
  obtain⟨h1,h2,h3,h4,h5⟩:=H;have e':l[i]? = some (b,o):=by simpa using e
  have hb:b<x.1:=h4 _ (List.mem_of_getElem? e');refine⟨by rw[Qab _ _ (by omega)];exact h1,h2,h3,fun p hp=>?_,Objs.put o' i h5 e'⟩;rcases List.mem_or_eq_of_mem_set hp with hp|rfl
  ·exact h4 p hp
  ·exact hb
theorem Objs.app{N':Nat}(hN:N≤N'){l:List (Nat×AO)}(hl:∀p∈l,p.1<N')(H:Objs N h l):∀{l':List (Nat×AO)},Objs N' h l'→Objs N h (l'++l)
 | [],_=>H
 |x::l',K=>⟨K.1,K.2.1,Nat.le_trans hN K.2.2.1,fun p hp=>by
   rcases List.mem_append.1 hp with hp|hp
   ·exact K.2.2.2.1 p hp
   ·exact Nat.lt_of_lt_of_le (hl p hp) K.2.2.1,Objs.app hN hl H K.2.2.2.2⟩
theorem Objs.sub{l l':List (Nat×AO)}(s:l'.Sublist l)(H:Objs N h l):Objs N h l':=by
 induction s with
 |slnil=>trivial
 |cons x _ ih=>exact ih H.2.2.2.2
 |cons_cons x s ih=>exact⟨H.1,H.2.1,H.2.2.1,fun p hp=>H.2.2.2.1 p (s.subset hp),ih H.2.2.2.2⟩
end
structure Wk (h0 h:AH)(l:List (Nat×AO)):Prop where
 up:Up h0 h
 objs:Objs h0.next h l
section
variable{h0 h h':AH}{l l':List (Nat×AO)}
theorem Wk.start(u:Up h h):Wk h h []:=⟨u,trivial⟩
theorem Wk.self(w:Wk h0 h l):Up h h:=.refl w.up.wf
theorem Wk.alloc(w:Wk h0 h l)(o:AO):Wk h0 (h.alloc o) ((h.next,o)::l):=
 ⟨w.up.alloc o,Qam h o,Nat.lt_succ_self _,w.up.next,w.objs.lt,w.objs.up (grown w.self o).1⟩
theorem Wk.put(w:Wk h0 h l)(i:Nat){b:Nat}{o:AO}(hi:l[i]? = some (b,o))(o':AO):Wk h0 (h.put b o') (l.set i (b,o')):=
 ⟨w.up.put (w.objs.at i hi).2.2 (w.objs.at i hi).2.1 o',w.objs.put o' i hi⟩
theorem Wk.call(w:Wk h0 h l)(u:Up h h'):Wk h0 h' l:=⟨w.up.trans u,w.objs.up u⟩
theorem Wk.join(w:Wk h0 h l)(v:Wk h h' l'):Wk h0 h' (l'++l):=⟨w.up.trans v.up,Objs.app w.up.next w.objs.lt (w.objs.up v.up) v.objs⟩
theorem Wk.get(w:Wk h0 h l)(i:Nat){b:Nat}{o:AO}(hi:l[i]? = some (b,o)):h.get b=some o:=(w.objs.at i hi).1
theorem Wk.lt(w:Wk h0 h l)(i:Nat){b:Nat}{o:AO}(hi:l[i]? = some (b,o)):b<h.next:=(w.objs.at i hi).2.1
theorem Wk.sub(w:Wk h0 h l)(s:l'.Sublist l):Wk h0 h l':=⟨w.up,w.objs.sub s⟩
end
def DoneT(F:FuncId→Option AFun)(f:FuncId)(v:AV)(s:AS):Prop:=
 s.cs=[]∧s.fr.mode=.returning∧s.fr.defers=[]∧s.fr.kind=.normal∧s.fr.fn=f∧∃fn,F f=some fn∧QaA s.h s.fr.tmps fn.results=some v
def Top(F:FuncId→Option AFun)(M:Memo)(f:FuncId)(args:List AV)(h:AH)(v:AV):Prop:=∃af,AF.enter F f args .normal=some af∧Reach F M ⟨af,[],h⟩ (DoneT F f v)
section
variable{F:FuncId→Option AFun}{M:Memo}{G:AS→Prop}{x:Ctx}{t:List AV}{k:List AItem}{h:AH}
theorem Top.intro{f:FuncId}{args:List AV}{v:AV}{fn:AFun}(hf:F f=some fn)(hr:Reach F M ((⟨f,[],.normal,none,[]⟩:Ctx).at (args++List.replicate (fn.ntmps-args.length) .undef) [.code fn.body] h) (DoneT F f v)):Top F M f args h v:=by
 refine⟨_,?_,hr⟩;unfold AF.enter;rw[hf];rfl
theorem R_top{fn:AFun}{v:AV}(hx:x.defers=[]∧x.kind=.normal∧x.roundOf=none∧x.cs=[])(hf:F x.fn=some fn)(hv:QaA h t fn.results=some v):Reach F M (x.at t (.code .ret::k) h) (DoneT F x.fn v):=by
 obtain⟨fn',d,kd,ro,c⟩:=x;obtain⟨rfl,rfl,rfl,rfl⟩:=hx;exact .step (s1:=⟨{fn:=fn',tmps:=t,todo:=.code .ret::k,defers:=[],mode:=.returning,kind:=.normal,roundOf:=none},[],h⟩) rfl (.done ⟨rfl,rfl,rfl,rfl,rfl,fn,hf,hv⟩)
end
end Go.Ab
namespace Go.Ab
open Go
section
variable(F:FuncId→Option AFun)(M:Memo)(x:Ctx)(G:AS→Prop)
def W:Nat→List AItem→List AV→AH→Prop
 |0,k,t,h=>Reach F M (x.at t k h) G
 |n+1,.code c::k,t,h=>match c with
  | .skip=>W n k t h
  | .region ops=>W n (.inRegion ops::k) t h
  | .draw plan tl=>W n (.drawRest plan::.ends tl::k) t h
  | .seq a b=>W n (.code a::.code b::k) t h
  | .cond c a b=>match aev t c with
   | .bool z=>W n (.code (if z then a else b)::k) t h
   |_=>False
  | .block id b=>W n (.code b::.inBlock id::k) t h
  | .scope b=>W n (.code b::.inScope b::k) t h
  | .label _=>W n k t h
  | .exit id=>match Qal id k with
   |some k'=>W n k' t h
   |none=>False
  | .loop b=>Reach F M (x.at t (.code (.loop b)::k) h) G
  | .rangeFunc f ps a b=>Reach F M (x.at t (.code (.rangeFunc f ps a b)::k) h) G
  | .goto l=>Reach F M (x.at t (.code (.goto l)::k) h) G
  | .ret=>Reach F M (x.at t (.code .ret::k) h) G
  | .stuck=>False
 |n+1,.inBlock _::k,t,h=>W n k t h
 |n+1,.inScope _::k,t,h=>W n k t h
 |n+1,.inRegion []::k,t,h=>W n k t h
 |n+1,.inRegion (o::ops)::k,t,h=>match Qai t o with
  |some true=>match o.act with
   | .op a=>match exec h (aev t) a with
    |some (v,h')=>W n (.inRegion ops::k) (setDst t o.dst v) h'
    |none=>False
   |_=>Reach F M (x.at t (.inRegion (o::ops)::k) h) G
  |some false=>W n (.inRegion ops::k) (setDst t o.dst (.tuple [])) h
  |none=>False
 |n+1,.drawRest []::k,t,h=>W n k t h
 |n+1,.ends []::k,t,h=>W n k t h
 |n+1,.drawRest (st::plan)::k,t,h=>W n (.inDraw st.ops st.main st.again st.mask plan::k) t h
 |n+1,.inDraw (o::rest) main ag mask plan::k,t,h=>match Qai t o with
  |some true=>match o.act with
   | .op a=>match exec h (aev t) a with
    |some (v,h')=>(a.makes && !QdT t o.dst)=false∧W n (.inDraw rest main ag mask plan::k) (setDst t o.dst v) h'
    |none=>False
   |_=>False
  |some false=>W n (.inDraw rest main ag mask plan::k) (setDst t o.dst (.tuple [])) h
  |none=>False
 |n+1,.inDraw [] none _ _ plan::k,t,h=>W n (.drawRest plan::k) t h
 |n+1,.inDraw [] (some o) ag mask plan::k,t,h=>W n (.inMain o ag mask plan::k) t h
 |n+1,.inMain o ag mask plan::k,t,h=>match Qai t o with
  |some true=>match o.act with
   | .op a=>match exec h (aev t) a with
    |some (v,h')=>ag.all (again (setDst t o.dst v) h')=true∧W n (.drawRest plan::k) (setDst t o.dst v) h'
    |none=>False
   |_=>Reach F M (x.at t (.inMain o ag mask plan::k) h) G
  |some false=>ag.all (again (setDst t o.dst (.tuple [])) h)=true∧W n (.drawRest plan::k) (setDst t o.dst (.tuple [])) h
  |none=>False
 |_+1,k,t,h=>Reach F M (x.at t k h) G
end
section
variable{F:FuncId→Option AFun}{M:Memo}{x:Ctx}{G:AS→Prop}
theorem W_ok:∀(n:Nat)(k:List AItem)(t:List AV)(h:AH),W F M x G n k t h→Reach F M (x.at t k h) G:=by
 intro n
 induction n with
 |zero=>intro k t h H;exact H
 |succ n ih =>
  intro k t h H
  match k with
  | []=>exact H
  | .code c::k =>
   cases c with
   |skip=>exact R_skip (ih _ _ _ H)
   |region ops=>exact R_region (ih _ _ _ H)
   |draw plan tl=>exact R_draw (ih _ _ _ H)
   |seq a b=>exact R_seq (ih _ _ _ H)
   |cond c a b =>
    have H':(match aev t c with|.bool z=>W F M x G n (.code (if z then a else b)::k) t h|_=>False):=H;split at H'
    ·rename_i z hz;exact R_cond hz (ih _ _ _ H')
    ·exact H'.elim
   |block id b=>exact R_block (ih _ _ _ H)
   |scope b=>exact R_scope (ih _ _ _ H)
   |label l=>exact R_label (ih _ _ _ H)
   |exit id =>
    have H':(match Qal id k with|some k'=>W F M x G n k' t h|none=>False):=H;split at H'
    ·rename_i k' hk;exact R_exit hk (ih _ _ _ H')
    ·exact H'.elim
   |loop b=>exact H
   |rangeFunc f ps a b=>exact H
   |goto l=>exact H
   |ret=>exact H
   |stuck=>exact H.elim
  | .inBlock _::k=>exact Qkr (ih _ _ _ H)
  | .inScope _::k=>exact QoH (ih _ _ _ H)
  | .inLoop b::k=>exact H
  | .inRangeFunc l::k=>exact H
  | .endRangeFunc l::k=>exact H
  | .beginRound::k=>exact H
  | .inRegion []::k=>exact R_nil (ih _ _ _ H)
  | .drawRest []::k=>exact QoI (ih _ _ _ H)
  | .ends []::k=>exact R_ends (ih _ _ _ H)
  | .ends (_::_)::k=>exact H
  | .drawRest (st::plan)::k=>exact R_stage (ih _ _ _ H)
  | .inDraw [] none ag mask plan::k=>exact Qm6 (ih _ _ _ H)
  | .inDraw [] (some o) ag mask plan::k=>exact Qlx (ih _ _ _ H)
  | .inRegion (o::ops)::k =>
   have H':(match Qai t o with
    |some true=>match o.act with
     | .op a=>match exec h (aev t) a with
      |some (v,h')=>W F M x G n (.inRegion ops::k) (setDst t o.dst v) h'
      |none=>False
     |_=>Reach F M (x.at t (.inRegion (o::ops)::k) h) G
    |some false=>W F M x G n (.inRegion ops::k) (setDst t o.dst (.tuple [])) h
    |none=>False):=H
   split at H'
   ·rename_i hw;split at H'
    ·rename_i a ha;split at H'
     ·rename_i v h' he;exact R_op hw ha he (ih _ _ _ H')
     ·exact H'.elim
    ·exact H'
   ·rename_i hw;exact R_not hw (ih _ _ _ H')
   ·exact H'.elim
  | .inDraw (o::rest) main ag mask plan::k =>
   have H':(match Qai t o with
    |some true=>match o.act with
     | .op a=>match exec h (aev t) a with
      |some (v,h')=>(a.makes && !QdT t o.dst)=false∧W F M x G n (.inDraw rest main ag mask plan::k) (setDst t o.dst v) h'
      |none=>False
     |_=>False
    |some false=>W F M x G n (.inDraw rest main ag mask plan::k) (setDst t o.dst (.tuple [])) h
    |none=>False):=H
   split at H'
   ·rename_i hw;split at H'
    ·rename_i a ha;split at H'
     ·rename_i v h' he;exact R_float hw ha he H'.1 (ih _ _ _ H'.2)
     ·exact H'.elim
    ·exact H'.elim
   ·rename_i hw;exact Qm9 hw (ih _ _ _ H')
   ·exact H'.elim
  | .inMain o ag mask plan::k =>
   have H':(match Qai t o with
    |some true=>match o.act with
     | .op a=>match exec h (aev t) a with
      |some (v,h')=>ag.all (again (setDst t o.dst v) h')=true∧W F M x G n (.drawRest plan::k) (setDst t o.dst v) h'
      |none=>False
     |_=>Reach F M (x.at t (.inMain o ag mask plan::k) h) G
    |some false=>ag.all (again (setDst t o.dst (.tuple [])) h)=true∧W F M x G n (.drawRest plan::k) (setDst t o.dst (.tuple [])) h
    |none=>False):=H
   split at H'
   ·rename_i hw;split at H'
    ·rename_i a ha;split at H'
     ·rename_i v h' he;exact R_mainOp hw ha he H'.1 (ih _ _ _ H'.2)
     ·exact H'.elim
    ·exact H'
   ·rename_i hw;exact QoG hw H'.1 (ih _ _ _ H'.2)
   ·exact H'.elim
end
section
variable(F:FuncId→Option AFun)(M:Memo)(x:Ctx)(G:AS→Prop)
def WP(n:Nat)(k:List AItem)(t:List AV)(d:Option Nat):Option (AV×AH)→Prop
 |some (v,h)=>W F M x G n k (setDst t d v) h
 |none=>False
def WG(n:Nat)(k:List AItem)(t:List AV)(d:Option Nat)(a:AOp)(h:AH)(z:Bool):Option AV→Prop
 |some (.bool b)=>if b == z then WP F M x G n k t d (exec h (aev t) a) else W F M x G n k (setDst t d (.tuple [])) h
 |some (.tuple [])=>W F M x G n k (setDst t d (.tuple [])) h
 |_=>False
def WC(n:Nat)(k:List AItem)(t:List AV)(h:AH)(a b:AC):AV→Prop
 | .bool z=>W F M x G n (.code (if z then a else b)::k) t h
 |_=>False
end
section
variable{F:FuncId→Option AFun}{M:Memo}{x:Ctx}{G:AS→Prop}{n:Nat}{k:List AItem}{t:List AV}{h:AH}
theorem wSkip:W F M x G (n+1) (.code .skip::k) t h=W F M x G n k t h:=id rfl
theorem wReg{ops:List AOper}:W F M x G (n+1) (.code (.region ops)::k) t h=W F M x G n (.inRegion ops::k) t h:=id rfl
theorem wDraw{p:List Stage}{tl:List AOper}:W F M x G (n+1) (.code (.draw p tl)::k) t h=W F M x G n (.drawRest p::.ends tl::k) t h:=id rfl
theorem wSeq{a b:AC}:W F M x G (n+1) (.code (.seq a b)::k) t h=W F M x G n (.code a::.code b::k) t h:=id rfl
theorem wCond{c:AOpd}{a b:AC}:W F M x G (n+1) (.code (.cond c a b)::k) t h=WC F M x G n k t h a b (aev t c):=by
 show (match aev t c with|.bool z=>_|_=>_)=_;cases aev t c<;>rfl
theorem wcT{a b:AC}:WC F M x G n k t h a b (.bool true)=W F M x G n (.code a::k) t h:=id rfl
theorem wcF{a b:AC}:WC F M x G n k t h a b (.bool false)=W F M x G n (.code b::k) t h:=id rfl
theorem wBlock{i:Nat}{b:AC}:W F M x G (n+1) (.code (.block i b)::k) t h=W F M x G n (.code b::.inBlock i::k) t h:=id rfl
theorem wScope{b:AC}:W F M x G (n+1) (.code (.scope b)::k) t h=W F M x G n (.code b::.inScope b::k) t h:=id rfl
theorem wLabel{l:Nat}:W F M x G (n+1) (.code (.label l)::k) t h=W F M x G n k t h:=id rfl
theorem wLoop{b:AC}:W F M x G (n+1) (.code (.loop b)::k) t h=Reach F M (x.at t (.code (.loop b)::k) h) G:=id rfl
theorem wRange{f:AOpd}{ps:List Nat}{a b:AC}:W F M x G (n+1) (.code (.rangeFunc f ps a b)::k) t h=Reach F M (x.at t (.code (.rangeFunc f ps a b)::k) h) G:=id rfl
theorem wRet:W F M x G (n+1) (.code .ret::k) t h=Reach F M (x.at t (.code .ret::k) h) G:=id rfl
theorem wGoto{l:Nat}:W F M x G (n+1) (.code (.goto l)::k) t h=Reach F M (x.at t (.code (.goto l)::k) h) G:=id rfl
theorem wInB{i:Nat}:W F M x G (n+1) (.inBlock i::k) t h=W F M x G n k t h:=id rfl
theorem wInS{b:AC}:W F M x G (n+1) (.inScope b::k) t h=W F M x G n k t h:=id rfl
theorem wInL{b:AC}:W F M x G (n+1) (.inLoop b::k) t h=Reach F M (x.at t (.inLoop b::k) h) G:=id rfl
theorem wEnd:W F M x G (n+1) [] t h=Reach F M (x.at t [] h) G:=id rfl
theorem wBR:W F M x G (n+1) (.beginRound::k) t h=Reach F M (x.at t (.beginRound::k) h) G:=id rfl
theorem wNil:W F M x G (n+1) (.inRegion []::k) t h=W F M x G n k t h:=id rfl
theorem wOp{d:Option Nat}{a:AOp}{ops:List AOper}:W F M x G (n+1) (.inRegion (⟨d,.op a,none⟩::ops)::k) t h=WP F M x G n (.inRegion ops::k) t d (exec h (aev t) a):=by
 show (match exec h (aev t) a with|some (v,h')=>_|none=>_)=_;cases exec h (aev t) a<;>rfl
theorem wOpG{d:Option Nat}{a:AOp}{g:Nat}{z:Bool}{ops:List AOper}:W F M x G (n+1) (.inRegion (⟨d,.op a,some (g,z)⟩::ops)::k) t h=WG F M x G n (.inRegion ops::k) t d a h z t[g]?:=by
 show (match Qai t ⟨d,.op a,some (g,z)⟩ with|some true=>_|some false=>_|none=>_)=_;have e:Qai t ⟨d,.op a,some (g,z)⟩=(match t[g]? with|some (.bool b)=>some (b == z)|some (.tuple [])=>some false|_=>none):=id rfl;rw[e];unfold WG;split
 ·rename_i hx;split at hx
  ·rename_i b hb;have:(b == z)=true:=by simpa using hx
   simp only[this,if_true];show (match exec h (aev t) a with|some (v,h')=>_|none=>_)=_;cases exec h (aev t) a<;>rfl
  ·cases hx
  ·cases hx
 ·rename_i hx;split at hx
  ·rename_i b hb;have:(b == z)=false:=by simpa using hx
   simp only[this];rfl
  ·rfl
  ·cases hx
 ·rename_i hx;split at hx
  ·cases hx
  ·cases hx
  ·rfl
theorem wP{d:Option Nat}{v:AV}{h':AH}:WP F M x G n k t d (some (v,h'))=W F M x G n k (setDst t d v) h':=id rfl
theorem wGT{d:Option Nat}{a:AOp}:WG F M x G n k t d a h true (some (.bool true))=WP F M x G n k t d (exec h (aev t) a):=id rfl
theorem wGF{d:Option Nat}{a:AOp}:WG F M x G n k t d a h false (some (.bool false))=WP F M x G n k t d (exec h (aev t) a):=id rfl
theorem wGn{d:Option Nat}{a:AOp}:WG F M x G n k t d a h true (some (.bool false))=W F M x G n k (setDst t d (.tuple [])) h:=id rfl
theorem wGm{d:Option Nat}{a:AOp}:WG F M x G n k t d a h false (some (.bool true))=W F M x G n k (setDst t d (.tuple [])) h:=id rfl
theorem wGu{d:Option Nat}{a:AOp}{z:Bool}:WG F M x G n k t d a h z (some (.tuple []))=W F M x G n k (setDst t d (.tuple [])) h:=id rfl
end
end Go.Ab
namespace Go.Ab
open Go
section
variable{h:AH}{ev:AOpd→AV}
def boxF(h:AH)(tg:Nat)(v:AV):Option (AV×AH):=if v.known=true then some (.ptr h.next 0,h.alloc (.cells v.cells (some tg) 0 [])) else none
theorem eBox{tg:Nat}{a:AOpd}:exec h ev (.box tg a)=boxF h tg (ev a):=id rfl
def stF(h:AH)(n:Nat)(p v:AV):Option (AV×AH):=if v.known=true∧v.cells.length=n then (storeA h v.cells p).map fun h'=>(.undef,h') else none
theorem eSt{n:Nat}{p a:AOpd}:exec h ev (.store n p a)=stF h n (ev p) (ev a):=id rfl
def rdC(l:List AV)(o n:Nat):Option (List AV):=if o+n≤l.length then some ((l.drop o).take n) else none
def one1(h:AH):Option (List AV)→Option (AV×AH)
 |some [v]=>some (v,h)
 |_=>none
def aggN(h:AH):Option (List AV)→Option (AV×AH)
 |some l=>some (.agg l,h)
 |none=>none
theorem eMov{a:AOpd}:exec h ev (.mov a)=some (ev a,h):=id rfl
theorem eL1{a:AOpd}:exec h ev (.load1 a)=one1 h (loadA h 1 (ev a)):=by
 show (match loadA h 1 (ev a) with|some [v]=>some (v,h)|_=>none)=_;unfold one1;split<;>rfl
theorem eLN{n:Nat}{a:AOpd}:exec h ev (.loadN n a)=aggN h (loadA h n (ev a)):=by
 show (loadA h n (ev a)).map (fun l=>(AV.agg l,h))=_;cases loadA h n (ev a)<;>rfl
theorem one1S{v:AV}:one1 h (some [v])=some (v,h):=id rfl
theorem aggNS{l:List AV}:aggN h (some l)=some (.agg l,h):=id rfl
theorem ldP{b o n:Nat}{l:List AV}{sp:Option Nat}{pre:Nat}{anc:List Nat}(hg:h.get b=some (.cells l sp pre anc)):loadA h n (.ptr b o)=rdC l o n:=by
 simp only[loadA,AH.read,AH.cellsAt,hg,rdC]
theorem ldI{l:List AV}{n:Nat}:loadA h n (.iptr l)=if n≤l.length then some (l.take n) else none:=id rfl
def faF(off:Nat)(h:AH):AV→Option (AV×AH)
 | .ptr b o=>some (.ptr b (o+off),h)
 | .iptr l=>if off≤l.length then some (.iptr (l.drop off),h) else none
 |_=>none
theorem eFA{off:Nat}{x:AOpd}:exec h ev (.fieldAddr off x)=faF off h (ev x):=by
 simp only[exec,faF];cases ev x<;>rfl
theorem faP{off b o:Nat}:faF off h (.ptr b o)=some (.ptr b (o+off),h):=id rfl
theorem faI{off:Nat}{l:List AV}:faF off h (.iptr l)=if off≤l.length then some (.iptr (l.drop off),h) else none:=id rfl
def ncF(h:AH):AV→Option (AV×AH)
 | .nilptr|.nilIface|.nilFunc|.undef=>none
 |v=>some (v,h)
theorem eNC{x:AOpd}:exec h ev (.nilCheck x)=ncF h (ev x):=by
 simp only[exec,ncF];cases ev x<;>rfl
theorem ncP{b o:Nat}:ncF h (.ptr b o)=some (.ptr b o,h):=id rfl
def binF(h:AH)(op:BinOp)(q:Nat)(a b:AV):Option (AV×AH):=(binA h op q a b).map (·,h)
theorem eBin{op:BinOp}{q:Nat}{a b:AOpd}:exec h ev (.bin op q a b)=binF h op q (ev a) (ev b):=id rfl
theorem bAdd{q:Nat}{j:IntKind}{m n:Int}:binF h .add q (.int j m) (.int j n)=some (.int j (j.wrap (m+n)),h):=by simp[binF,binA,Qcp]
theorem bSub{q:Nat}{j:IntKind}{m n:Int}:binF h .sub q (.int j m) (.int j n)=some (.int j (j.wrap (m-n)),h):=by simp[binF,binA,Qcp]
theorem bMul{q:Nat}{j:IntKind}{m n:Int}:binF h .mul q (.int j m) (.int j n)=some (.int j (j.wrap (m*n)),h):=by simp[binF,binA,Qcp]
theorem bEq{q:Nat}{j:IntKind}{m n:Int}:binF h .eql q (.int j m) (.int j n)=some (.bool (decide (m=n)),h):=by
 simp only[binF,binA,Qcp,if_pos];rfl
theorem bNe{q:Nat}{j:IntKind}{m n:Int}:binF h .neq q (.int j m) (.int j n)=some (.bool (decide (m≠n)),h):=by
 have:(m != n)=decide (m≠n):=by cases e:(m != n)<;>simp_all [bne]
 simp only[binF,binA,Qcp,if_pos,this];rfl
theorem bLt{q:Nat}{j:IntKind}{m n:Int}:binF h .lss q (.int j m) (.int j n)=some (.bool (decide (m<n)),h):=by simp[binF,binA,Qcp]
theorem bLe{q:Nat}{j:IntKind}{m n:Int}:binF h .leq q (.int j m) (.int j n)=some (.bool (decide (m≤n)),h):=by simp[binF,binA,Qcp]
theorem bGt{q:Nat}{j:IntKind}{m n:Int}:binF h .gtr q (.int j m) (.int j n)=some (.bool (decide (n<m)),h):=by simp[binF,binA,Qcp]
theorem bGe{q:Nat}{j:IntKind}{m n:Int}:binF h .geq q (.int j m) (.int j n)=some (.bool (decide (n≤m)),h):=by simp[binF,binA,Qcp]
theorem bEqB{p q:Bool}:binF h .eql 0 (.bool p) (.bool q)=some (.bool (p == q),h):=by simp[binF,binA,eqOne]
theorem bNeB{p q:Bool}:binF h .neq 0 (.bool p) (.bool q)=some (.bool (!(p == q)),h):=by simp[binF,binA,eqOne]
def unF(h:AH)(op:UnOp)(a:AV):Option (AV×AH):=(unA op a).map (·,h)
theorem eUn{op:UnOp}{x:AOpd}:exec h ev (.un op x)=unF h op (ev x):=id rfl
theorem uNot{z:Bool}:unF h .not (.bool z)=some (.bool (!z),h):=id rfl
def lenS:AV→Option Nat
 | .nilslice|.empty=>some 0
 | .slice _ _ n _|.slop _ _ n _=>some n
 | .vec l=>some l.length
 |_=>none
def lenF(h:AH):Option Nat→Option (AV×AH)
 |some n=>some (.int .i64 n,h)
 |none=>none
theorem eLen{x:AOpd}:exec h ev (.len 1 x)=lenF h (lenS (ev x)):=by
 show (lenK h 1 (ev x)).map _=_;cases ev x<;>rfl
theorem lenFS{n:Nat}:lenF h (some n)=some (.int .i64 n,h):=id rfl
theorem lenSN:lenS .nilslice=some 0:=id rfl
theorem lenSE:lenS .empty=some 0:=id rfl
theorem lenSS{b o n c:Nat}:lenS (.slice b o n c)=some n:=id rfl
theorem lenSO{b o n c:Nat}:lenS (.slop b o n c)=some n:=id rfl
def extF(h:AH)(i:Nat):AV→Option (AV×AH)
 | .tuple l=>(l[i]?).map (·,h)
 |_=>none
theorem eExt{x:AOpd}{i:Nat}:exec h ev (.extract x i)=extF h i (ev x):=by
 simp only[exec,extF];cases ev x<;>rfl
theorem extT{i:Nat}{l:List AV}:extF h i (.tuple l)=(l[i]?).map (·,h):=id rfl
def cvF(h:AH)(k:IntKind):AV→Option (AV×AH)
 | .int _ n=>some (.int k (k.wrap n),h)
 |_=>none
theorem eCv{k:IntKind}{x:AOpd}:exec h ev (.convInt k x)=cvF h k (ev x):=by
 simp only[exec,cvF];cases ev x<;>rfl
theorem cvI{k j:IntKind}{n:Int}:cvF h k (.int j n)=some (.int k (k.wrap n),h):=id rfl
theorem eFn{f:FuncId}{a c:List AOpd}:exec h ev (.makeFunc f a c)=some (.func f (a.map ev) (c.map ev),h):=id rfl
def mmF(h:AH)(m:Bool)(l:List AV):Option (AV×AH):=(Qdm m l).map (·,h)
theorem eMM{m:Bool}{l:List AOpd}:exec h ev (.minMax m l)=mmF h m (l.map ev):=id rfl
theorem mmMax{j:IntKind}{a b:Int}:mmF h true [.int j a,.int j b]=some (.int j (max a b),h):=by
 simp only[mmF,Qdm,QeZ,if_true];have:(if b>a then b else a)=max a b:=by omega
 rw[this];rfl
theorem mmMin{j:IntKind}{a b:Int}:mmF h false [.int j a,.int j b]=some (.int j (min a b),h):=by
 simp only[mmF,Qdm,QeZ,if_true,Bool.false_eq_true,if_false];have:(if b<a then b else a)=min a b:=by omega
 rw[this];rfl
def pkF(h:AH)(c a b:AV):Option (AV×AH):=match c with
 | .bool t=>some (if t then a else b,h)
 |_=>none
theorem ePick{c a b:AOpd}:exec h ev (.pick c a b)=pkF h (ev c) (ev a) (ev b):=by
 simp only[exec,pkF];cases ev c<;>rfl
theorem pkT{a b:AV}:pkF h (.bool true) a b=some (a,h):=id rfl
theorem pkN{a b:AV}:pkF h (.bool false) a b=some (b,h):=id rfl
end
section
variable{F:FuncId→Option AFun}{M:Memo}{x:Ctx}{G:AS→Prop}{n:Nat}{k:List AItem}{t:List AV}{h h0:AH}{d:Option Nat}{L:List (Nat×AO)}
theorem Qfj{tg:Nat}{cs:List AV}(w:Wk h0 h L)(hr:∀b h1,Wk h0 h1 ((b,.cells cs (some tg) 0 [])::L)→W F M x G n k (setDst t d (.ptr b 0)) h1):WP F M x G n k t d (exec h (aev t) (.alloc tg cs)):=
 hr h.next (h.alloc (.cells cs (some tg) 0 [])) (w.alloc _)
theorem wBoxA{tg:Nat}{cs:List AV}(w:Wk h0 h L)(hr:∀b h1,Wk h0 h1 ((b,.cells cs (some tg) 0 [])::L)→W F M x G n k (setDst t d (.ptr b 0)) h1):WP F M x G n k t d (boxF h tg (.agg cs)):=
 hr h.next (h.alloc (.cells cs (some tg) 0 [])) (w.alloc _)
theorem wSt{m:Nat}{b o:Nat}{l l' vs:List AV}{sp:Option Nat}{v:AV}(w:Wk h0 h L)(i:Nat)(hi:L[i]? = some (b,.cells l sp 0 []))(hs:splice l o vs=l')(hr:∀h1,Wk h0 h1 (L.set i (b,.cells l' sp 0 []))→W F M x G n k (setDst t d .undef) h1)
  (hk:v.known=true:=by rfl)(hv:v.cells=vs:=by rfl)(hl:vs.length=m:=by rfl)(ho:vs.all AV.one=true:=by rfl)(hn:o+m≤l.length:=by simp):WP F M x G n k t d (stF h m (.ptr b o) v):=by
 subst hv hl hs;have hg:=w.get i hi;have e:stF h v.cells.length (.ptr b o) v=some (.undef,h.put b (.cells (splice l o v.cells) sp 0 [])):=by
  simp only[stF,storeA,AH.store,hg];rw[if_pos ⟨hk,trivial⟩,if_pos ⟨hn,ho⟩,if_neg (by omega)];rfl
 rw[e];exact hr _ (w.put i hi _)
end
section
variable{F:FuncId→Option AFun}{M:Memo}{x:Ctx}{G:AS→Prop}{n:Nat}{k:List AItem}{t:List AV}{h:AH}
theorem wDrN:W F M x G (n+1) (.drawRest []::k) t h=W F M x G n k t h:=id rfl
theorem wEnN:W F M x G (n+1) (.ends []::k) t h=W F M x G n k t h:=id rfl
theorem wDrS{o:List AOper}{m:Option AOper}{ag:List AOper}{mk:List Nat}{p:List Stage}:W F M x G (n+1) (.drawRest (⟨o,m,ag,mk⟩::p)::k) t h=W F M x G n (.inDraw o m ag mk p::k) t h:=id rfl
theorem wD0{ag:List AOper}{mk:List Nat}{p:List Stage}:W F M x G (n+1) (.inDraw [] none ag mk p::k) t h=W F M x G n (.drawRest p::k) t h:=id rfl
theorem wDM{o:AOper}{ag:List AOper}{mk:List Nat}{p:List Stage}:W F M x G (n+1) (.inDraw [] (some o) ag mk p::k) t h=W F M x G n (.inMain o ag mk p::k) t h:=id rfl
end
section
variable(F:FuncId→Option AFun)(M:Memo)(x:Ctx)(G:AS→Prop)
def WPD(n:Nat)(k:List AItem)(t:List AV)(d:Option Nat)(mk:Bool):Option (AV×AH)→Prop
 |some (v,h)=>(mk && !QdT t d)=false∧W F M x G n k (setDst t d v) h
 |none=>False
def WGD(n:Nat)(k:List AItem)(t:List AV)(d:Option Nat)(a:AOp)(h:AH)(z:Bool):Option AV→Prop
 |some (.bool b)=>if b == z then WPD F M x G n k t d a.makes (exec h (aev t) a) else W F M x G n k (setDst t d (.tuple [])) h
 |some (.tuple [])=>W F M x G n k (setDst t d (.tuple [])) h
 |_=>False
end
section
variable{F:FuncId→Option AFun}{M:Memo}{x:Ctx}{G:AS→Prop}{n:Nat}{k:List AItem}{t:List AV}{h:AH}
theorem wDO{d:Option Nat}{a:AOp}{ops:List AOper}{m:Option AOper}{ag:List AOper}{mk:List Nat}{p:List Stage} :
  W F M x G (n+1) (.inDraw (⟨d,.op a,none⟩::ops) m ag mk p::k) t h=WPD F M x G n (.inDraw ops m ag mk p::k) t d a.makes (exec h (aev t) a):=by
 show (match exec h (aev t) a with|some (v,h')=>_|none=>_)=_;cases exec h (aev t) a<;>rfl
theorem wDOG{d:Option Nat}{a:AOp}{g:Nat}{z:Bool}{ops:List AOper}{m:Option AOper}{ag:List AOper}{mk:List Nat}{p:List Stage} :
  W F M x G (n+1) (.inDraw (⟨d,.op a,some (g,z)⟩::ops) m ag mk p::k) t h=WGD F M x G n (.inDraw ops m ag mk p::k) t d a h z t[g]?:=by
 show (match Qai t ⟨d,.op a,some (g,z)⟩ with|some true=>_|some false=>_|none=>_)=_;have e:Qai t ⟨d,.op a,some (g,z)⟩=(match t[g]? with|some (.bool b)=>some (b == z)|some (.tuple [])=>some false|_=>none):=rfl;rw[e];unfold WGD;split
 ·rename_i hx;split at hx
  ·rename_i b hb;have:(b == z)=true:=by simpa using hx
   simp only[this,if_true];show (match exec h (aev t) a with|some (v,h')=>_|none=>_)=_;cases exec h (aev t) a<;>rfl
  ·cases hx
  ·cases hx
 ·rename_i hx;split at hx
  ·rename_i b hb;have:(b == z)=false:=by simpa using hx
   simp only[this];rfl
  ·rfl
  ·cases hx
 ·rename_i hx;split at hx
  ·cases hx
  ·cases hx
  ·rfl
theorem wPD{d:Option Nat}{v:AV}{h':AH}:WPD F M x G n k t d false (some (v,h'))=W F M x G n k (setDst t d v) h':=by
 simp[WPD]
theorem wPDm{d:Nat}{v:AV}{h':AH}(hd:(t[d]?).isSome=true):WPD F M x G n k t (some d) true (some (v,h'))=W F M x G n k (setDst t (some d) v) h':=by
 simp[WPD,QdT,hd]
theorem wGDT{d:Option Nat}{a:AOp}:WGD F M x G n k t d a h true (some (.bool true))=WPD F M x G n k t d a.makes (exec h (aev t) a):=id rfl
theorem wGDF{d:Option Nat}{a:AOp}:WGD F M x G n k t d a h false (some (.bool false))=WPD F M x G n k t d a.makes (exec h (aev t) a):=id rfl
theorem wGDn{d:Option Nat}{a:AOp}:WGD F M x G n k t d a h true (some (.bool false))=W F M x G n k (setDst t d (.tuple [])) h:=id rfl
theorem wGDm{d:Option Nat}{a:AOp}:WGD F M x G n k t d a h false (some (.bool true))=W F M x G n k (setDst t d (.tuple [])) h:=id rfl
theorem wGDu{d:Option Nat}{a:AOp}{z:Bool}:WGD F M x G n k t d a h z (some (.tuple []))=W F M x G n k (setDst t d (.tuple [])) h:=id rfl
theorem Qnw{l:List AV}{o n:Nat}(hn:o+n≤l.length):rdC l o n=some ((l.drop o).take n):=if_pos hn
end
def wS:=And.intro @wSkip (And.intro @wReg (And.intro @wDraw (And.intro @wSeq (And.intro @wCond (And.intro @wcT (And.intro @wcF (And.intro @wBlock (And.intro @wScope (And.intro @wLabel (And.intro @wLoop (And.intro @wRange (And.intro @wRet (And.intro @wGoto (And.intro @wInB (And.intro @wInS (And.intro @wInL (And.intro @wEnd (And.intro @wBR (And.intro @wNil (And.intro @wOp (And.intro @wOpG (And.intro @wP (And.intro @wGT (And.intro @wGF (And.intro @wGn (And.intro @wGm (And.intro @wGu (And.intro @wDrN (And.intro @wEnN (And.intro @wDrS (And.intro @wDO (And.intro @wDOG (And.intro @wD0 (And.intro @wDM (And.intro @wPD (And.intro @wGDT (And.intro @wGDF (And.intro @wGDn (And.intro @wGDm (And.intro @wGDu (And.intro @eBox (And.intro @eSt (And.intro @eMov (And.intro @eL1 (And.intro @eLN (And.intro @one1S (And.intro @aggNS (And.intro @ldI (And.intro @eFA (And.intro @faP (And.intro @faI (And.intro @eNC (And.intro @ncP (And.intro @eBin (And.intro @bAdd (And.intro @bSub (And.intro @bMul (And.intro @bEq (And.intro @bNe (And.intro @bLt (And.intro @bLe (And.intro @bGt (And.intro @bGe (And.intro @bEqB (And.intro @bNeB (And.intro @eUn (And.intro @uNot (And.intro @eLen (And.intro @lenFS (And.intro @lenSN (And.intro @lenSE (And.intro @lenSS (And.intro @lenSO (And.intro @eExt (And.intro @extT (And.intro @eCv (And.intro @cvI (And.intro @eFn (And.intro @eMM (And.intro @mmMax (And.intro @mmMin (And.intro @ePick (And.intro @pkT (And.intro @pkN (And.intro @sN (And.intro @s0 (And.intro @sS (And.intro @a0 (And.intro @aS (And.intro @aC (And.intro @rZ (And.intro @rS (And.intro @pN (And.intro @pC (And.intro (@List.length_nil AV) (And.intro (fun(a:AV) (l:List AV)=>(List.length_cons (a:=a) (as:=l))) (And.intro (fun(a:AV) (l:List AV) (i:Nat)=>(List.getElem?_cons_succ (a:=a) (l:=l) (i:=i))) (And.intro (fun(a:AV) (l:List AV)=>(List.getElem?_cons_zero (a:=a) (l:=l))) (And.intro (@List.drop_zero AV) (And.intro (fun(a:AV) (l:List AV) (n:Nat)=>(List.drop_succ_cons (a:=a) (l:=l) (i:=n))) (And.intro (fun(a:AV) (l:List AV) (n:Nat)=>(List.take_succ_cons (a:=a) (as:=l) (i:=n))) (And.intro (@List.take_zero AV) (True.intro)))))))))))))))))))))))))))))))))))))))))))))))))))))))))))))))))))))))))))))))))))))))))))))))))))))))
end Go.Ab
namespace Go.Ab
open Go
def padd:AV→Nat→AV
 | .ptr b o,k=>.ptr b (o+k)
 | .iptr l,k=>.iptr (l.drop k)
 |v,_=>v
section
variable{h:AH}{ev:AOpd→AV}
theorem QbB{es:Nat}{p:AV}{row:List AV}(hp:loadA h es p=some row){off:Nat}(ho:off≤es):faF off h p=some (padd p off,h):=by
 cases p with
 |ptr b o=>rfl
 |iptr l =>
  have:es≤l.length:=by
   simp only[loadA]at hp;split at hp
   ·assumption
   ·cases hp
  simp only[faF,padd];rw[if_pos (by omega)]
 |_=>simp[loadA]at hp
theorem Qb8{es:Nat}{p:AV}{row:List AV}(hp:loadA h es p=some row){off m:Nat}(ho:off+m≤es):loadA h m (padd p off)=some ((row.drop off).take m):=by
 cases p with
 |ptr b o =>
  simp only[loadA,padd,AH.read]at hp ⊢;split at hp
  ·rename_i l hl;split at hp
   ·cases hp;rw[if_pos (by omega),List.drop_take,List.take_take,List.drop_drop,Nat.min_eq_left (by omega)]
   ·cases hp
  ·cases hp
 |iptr l =>
  simp only[loadA,padd]at hp ⊢;split at hp
  ·cases hp;rw[if_pos (by rw[List.length_drop];omega),List.drop_take,List.take_take,Nat.min_eq_left (by omega)]
  ·cases hp
 |_=>simp[loadA]at hp
def idxF(h:AH):Option AV→Option (AV×AH)
 |some p=>some (p,h)
 |none=>none
theorem eIdx{n:Nat}{x i:AOpd}:exec h ev (.indexAddr n x i)=idxF h (Qbs n (ev x) (ev i)):=by
 show (Qbs n (ev x) (ev i)).map _=_;cases Qbs n (ev x) (ev i)<;>rfl
theorem idxS{p:AV}:idxF h (some p)=some (p,h):=id rfl
def iarF(h:AH)(n size:Nat)(x i:AV):Option (AV×AH):=
 match asNat i,x with
 |some m,.ptr b o=>if m<n then some (.ptr b (o+m*size),h) else none
 |some m,.iptr l=>if m<n∧m*size≤l.length then some (.iptr (l.drop (m*size)),h) else none
 |_,_=>none
theorem eIar{n size:Nat}{x i:AOpd}:exec h ev (.indexArr n size x i)=iarF h n size (ev x) (ev i):=by
 simp only[exec,iarF];cases asNat (ev i)<;>cases ev x<;>rfl
theorem iarP{n size b o m:Nat}(hm:m<n):iarF h n size (.ptr b o) (.int .i64 (m:Int))=some (.ptr b (o+m*size),h):=by
 have:asNat (.int .i64 (m:Int))=some m:=by simp[asNat]
 simp only[iarF,this,if_pos hm]
def appF(h:AH)(size bytes tg:Nat)(s x:AV):Option (AV×AH):=match lenA x with
 |some n=>match Qar h size n x with
  |some xs=>QbU size bytes tg h n xs s
  |none=>none
 |none=>none
theorem eApp{size bytes tg:Nat}{s x:AOpd}:exec h ev (.append size bytes tg s x)=appF h size bytes tg (ev s) (ev x):=id rfl
def bsF(h:AH)(n:Nat)(zero:List AV)(parts:List (Nat×Nat×AV)):Option (AV×AH):=(fillA zero parts).map fun l=>(.slice h.next 0 n n,h.alloc (.cells l none 0 []))
theorem eBS{n:Nat}{zero:List AV}{parts:List (Nat×Nat×AOpd)}:exec h ev (.buildSlice n zero parts)=bsF h n zero (parts.map fun x=>(x.1,x.2.1,ev x.2.2)):=id rfl
def bldF(h:AH)(zero:List AV)(parts:List (Nat×Nat×AV)):Option (AV×AH):=(fillA zero parts).map fun l=>(.agg l,h)
theorem eBld{zero:List AV}{parts:List (Nat×Nat×AOpd)}:exec h ev (.build zero parts)=bldF h zero (parts.map fun x=>(x.1,x.2.1,ev x.2.2)):=id rfl
theorem bldN{zero:List AV}:bldF h zero []=some (.agg zero,h):=id rfl
theorem rdC1{l:List AV}{o:Nat}{v:AV}(hv:l[o]? = some v):rdC l o 1=some [v]:=by
 obtain⟨hlt,hv'⟩:=List.getElem?_eq_some_iff.1 hv;have:(l.drop o).take 1=[v]:=by rw[List.drop_eq_getElem_cons hlt,hv'];rfl
 simp only[rdC];rw[if_pos (by omega),this]
theorem Qbz{l xs:List AV}{o:Nat}(ho:o+xs.length≤l.length)(i:Nat):(splice l o xs)[i]? = if i<o then l[i]? else if i<o+xs.length then xs[i-o]? else l[i]?:=by
 unfold splice;by_cases h1:i<o
 ·rw[if_pos h1,List.getElem?_append_left (by simp;omega),List.getElem?_append_left (by simp;omega),List.getElem?_take_of_lt h1]
 ·rw[if_neg h1];by_cases h2:i<o+xs.length
  ·rw[if_pos h2,List.getElem?_append_left (by simp;omega),List.getElem?_append_right (by simp;omega)];simp only[List.length_take];rw[Nat.min_eq_left (by omega)]
  ·rw[if_neg h2,List.getElem?_append_right (by simp;omega),List.getElem?_drop];simp only[List.length_append,List.length_take]
   congr 1
   omega
theorem Qb0{l xs:List AV}{o:Nat}(ho:o+xs.length≤l.length):(splice l o xs).length=l.length:=by
 unfold splice;simp;omega
end
structure Sl (N:Nat)(h:AH)(es:Nat)(v:AV)(rows:List (List AV)):Prop where
 len:lenS v=some rows.length
 row:∀i (hi:i<rows.length),∃p,Qbs es v (.int .i64 (i:Int))=some p∧ptrLow N p∧loadA h es p=some rows[i]
 els:Qar h es rows.length v=some rows.flatten
 blk:∀b o m c,v=.slice b o m c∨v=.slop b o m c→b<N
theorem QmW{N es n:Nat}{h h':AH}{v:AV}(hL:Low N h h')(hb:∀b o m c,v=.slice b o m c∨v=.slop b o m c→b<N):Qar h' es n v=Qar h es n v:=by
 cases v with
 |slice b o m c=>simp only[Qar,AH.read,AH.cellsAt,hL b (hb b o m c (.inl rfl))]
 |slop b o m c=>simp only[Qar,AH.read,AH.cellsAt,hL b (hb b o m c (.inr rfl))]
 |_=>rfl
theorem Sl.low{N es:Nat}{h h':AH}{v:AV}{rows:List (List AV)}(hL:Low N h h')(s:Sl N h es v rows):Sl N h' es v rows:=
 ⟨s.len,fun i hi=>by
  obtain⟨p,h1,h2,h3⟩:=s.row i hi;exact⟨p,h1,h2,by rw[QaH hL h2];exact h3⟩,by rw[QmW hL s.blk];exact s.els,s.blk⟩
theorem ptrLow.mono{N M:Nat}(hN:N≤M){p:AV}(hp:ptrLow N p):ptrLow M p:=by
 cases p with
 |ptr b o=>exact Nat.lt_of_lt_of_le (show b<N from hp) hN
 |iptr l=>trivial
 |_=>exact hp.elim
theorem Sl.mono{N M es:Nat}{h:AH}{v:AV}{rows:List (List AV)}(hN:N≤M)(s:Sl N h es v rows):Sl M h es v rows:=
 ⟨s.len,fun i hi=>by
  obtain⟨p,h1,h2,h3⟩:=s.row i hi;exact⟨p,h1,h2.mono hN,h3⟩,s.els,fun b o m c e=>Nat.lt_of_lt_of_le (s.blk b o m c e) hN⟩
theorem Sl.nil{N es:Nat}{h:AH}:Sl N h es .nilslice []:=⟨rfl,fun i hi=>absurd hi (by simp),rfl,fun b o m c e=>by rcases e with e|e<;>cases e⟩
theorem Sl.empty{N es:Nat}{h:AH}:Sl N h es .empty []:=⟨rfl,fun i hi=>absurd hi (by simp),rfl,fun b o m c e=>by rcases e with e|e<;>cases e⟩
theorem Sl.vec{N es:Nat}{h:AH}{rows:List (List AV)}(he:∀r∈rows,r.length=es):Sl N h es (.vec rows) rows:=by
 refine⟨rfl,fun i hi=>⟨.iptr rows[i],?_,trivial,?_⟩,?_,fun b o m c e=>by rcases e with e|e<;>cases e⟩
 ·have:=he _ (List.getElem_mem hi);simp[Qbs,asNat,gE hi,this]
 ·have:=he _ (List.getElem_mem hi);simp only[loadA];rw[if_pos (by omega),←this,List.take_length]
 ·simp only[Qar];have hall:(rows.take rows.length).all (fun e=>e.length == es)=true:=by
   rw[List.take_length,List.all_eq_true];intro r hr;simp[he r hr]
  rw[if_pos ⟨Nat.le_refl _,hall⟩,List.take_length]
theorem Sl.ofCells{N es:Nat}{h:AH}{b n:Nat}{l:List AV}{sp:Option Nat}{pre:Nat}{anc:List Nat}{v:AV}(hv:v=.slop b 0 n es∨∃c,v=.slice b 0 n c)(hb:b<N)(hg:h.get b=some (.cells l sp pre anc)){rows:List (List AV)}(hn:rows.length=n)(hl:rows.flatten=l.take (n*es))
  (hle:n*es≤l.length)(he:∀r∈rows,r.length=es):Sl N h es v rows:=by
 subst hn;have key:∀(rs:List (List AV)) (m:List AV),(∀r∈rs,r.length=es)→rs.flatten=m→∀i (hi:i<rs.length),(m.drop (i*es)).take es=rs[i]:=by
  intro rs
  induction rs with
  |nil=>intro m _ _ i hi;simp at hi
  |cons r rs ih =>
   intro m hr hm i hi;subst hm;cases i with
   |zero =>
    have:=hr r (List.mem_cons_self ..);simp[←this]
   |succ i =>
    have e:=ih _ (fun r' hr'=>hr r' (List.mem_cons_of_mem _ hr')) rfl i (by simpa using hi);rw[List.getElem_cons_succ,←e,List.flatten_cons];have h1:=hr r (List.mem_cons_self ..);rw[show (i+1)*es=r.length+i*es by rw[Nat.succ_mul,h1,Nat.add_comm],←List.drop_drop,List.drop_left]
 have hrd:h.read b 0 (rows.length*es)=some rows.flatten:=by
  simp only[AH.read,AH.cellsAt,hg];rw[if_pos (by omega),List.drop_zero,hl]
 refine⟨by rcases hv with rfl|⟨c,rfl⟩<;>rfl,fun i hi=>⟨.ptr b (0+i*es),?_,hb,?_⟩,?_,fun b' o m c e=>by rcases hv with rfl|⟨c',rfl⟩<;>rcases e with e|e<;>cases e<;>exact hb⟩
 rotate_left 2
 ·rcases hv with rfl|⟨c,rfl⟩<;>simp only[Qar]<;>rw[if_pos (Nat.le_refl _)]<;>exact hrd
 ·rcases hv with rfl|⟨c,rfl⟩<;>simp[Qbs,asNat,hi]
 ·have e:=key rows _ he hl i hi;have hle2:(i+1)*es≤rows.length*es:=Nat.mul_le_mul_right _ hi;rw[Nat.succ_mul]at hle2;simp only[loadA,AH.read,AH.cellsAt,hg];rw[if_pos (by omega),Nat.zero_add];rw[←e,List.drop_take,List.take_take,Nat.min_eq_left (by omega)]
section
variable{F:FuncId→Option AFun}{M:Memo}{x:Ctx}{G:AS→Prop}{t:List AV}{k:List AItem}{h:AH}
theorem Qbv{b:AC}(Inv:Nat→List AV→AH→Prop)(m:Nat)(h0:Inv m t h)
  (step:∀m t h,Inv m t h→(∀m' t' h',m'<m→Inv m' t' h'→Reach F M (x.at t' (.inLoop b::k) h') G)→Reach F M (x.at t (.code b::.inLoop b::k) h) G):Reach F M (x.at t (.code (.loop b)::k) h) G:=by
 refine R_loop ?_;have:∀m t h,Inv m t h→Reach F M (x.at t (.code b::.inLoop b::k) h) G:=by
  intro m
  induction m using Nat.strongRecOn with
  |_ m ih=>exact fun t h hi=>step m t h hi fun m' t' h' hm hi'=>R_inLoop (ih m' hm t' h' hi')
 exact this m t h h0
theorem Qag{caller:AF}{cs:List AF}{fn:AFun}{v:AV}(hx:x.defers=[]∧x.kind=.normal∧x.roundOf=none∧x.cs=caller::cs)(hf:F x.fn=some fn)(hv:QaA h t fn.results=some v)(hk:∃fr',caller.finish h v=some fr'∧Reach F M ⟨fr',cs,h⟩ G) :
  Reach F M (x.at t (.code .ret::k) h) G:=by
 obtain⟨fr',h1,h2⟩:=hk;exact R_ret hx hf hv h1 h2
theorem R_endK{caller:AF}{cs:List AF}{fn:AFun}{v:AV}(hx:x.defers=[]∧x.kind=.normal∧x.roundOf=none∧x.cs=caller::cs)(hf:F x.fn=some fn)(hv:QaA h t fn.results=some v)(hk:∃fr',caller.finish h v=some fr'∧Reach F M ⟨fr',cs,h⟩ G) :
  Reach F M (x.at t [] h) G:=by
 obtain⟨fr',h1,h2⟩:=hk;exact R_end hx hf hv h1 h2
theorem wcD{n:Nat}{a b:AC}{p:Prop} [Decidable p](h1:p→W F M x G n (.code a::k) t h)(h2:¬p→W F M x G n (.code b::k) t h):WC F M x G n k t h a b (.bool (decide p)):=by
 by_cases c:p
 ·rw[decide_eq_true c];exact h1 c
 ·rw[decide_eq_false c];exact h2 c
theorem wcB{n:Nat}{a b:AC}{z:Bool}(h1:z=true→W F M x G n (.code a::k) t h)(h2:z=false→W F M x G n (.code b::k) t h):WC F M x G n k t h a b (.bool z):=by
 cases z
 ·exact h2 rfl
 ·exact h1 rfl
end
end Go.Ab
namespace Go.Ab
open Go
structure GL (lo:Nat)(h:AH)(tg es:Nat)(v:AV)(rows:List (List AV)):Prop where
 val:(v=.nilslice∧rows=[])∨∃b pre anc,v=.slop b 0 rows.length es∧h.get b=some (.cells rows.flatten (some tg) pre anc)∧lo≤b∧b<h.next
 row:∀r∈rows,r.length=es
theorem GL.nil{lo tg es:Nat}{h:AH}:GL lo h tg es .nilslice []:=⟨.inl ⟨rfl,rfl⟩,fun r hr=>by cases hr⟩
theorem Qa9{es:Nat}:∀{rows:List (List AV)},(∀r∈rows,r.length=es)→rows.flatten.length=rows.length*es
 | [],_=>by simp
 |r::rows,h=>by
  rw[List.flatten_cons,List.length_append,Qa9 fun r' hr'=>h r' (List.mem_cons_of_mem _ hr'),h r (List.mem_cons_self ..),List.length_cons,Nat.succ_mul,Nat.add_comm]
theorem GL.up{lo tg es:Nat}{h h':AH}{v:AV}{rows:List (List AV)}(g:GL lo h tg es v rows)(u:Up h h'):GL lo h' tg es v rows:=by
 refine⟨?_,g.row⟩;rcases g.val with h1|⟨b,pre,anc,h1,h2,h3,h4⟩
 ·exact .inl h1
 ·exact .inr ⟨b,pre,anc,h1,by rw[u.keep b h4];exact h2,h3,Nat.lt_of_lt_of_le h4 u.next⟩
theorem GL.sl{lo tg es N:Nat}{h:AH}{v:AV}{rows:List (List AV)}(g:GL lo h tg es v rows)(hN:h.next≤N):Sl N h es v rows:=by
 rcases g.val with⟨rfl,rfl⟩|⟨b,pre,anc,rfl,h2,h3,h4⟩
 ·exact Sl.nil
 ·have hl:=Qa9 g.row;exact Sl.ofCells (.inl rfl) (Nat.lt_of_lt_of_le h4 hN) h2 rfl (by rw[←hl,List.take_length]) (by omega) g.row
theorem GL.app{lo tg es bytes:Nat}{h:AH}{v:AV}{rows:List (List AV)}(g:GL lo h tg es v rows)(hw:∀b,h.next≤b→h.get b=none)(hlo:lo≤h.next){b':Nat}{r:List AV}{sp:Option Nat}(hg:h.get b'=some (.cells r sp 0 []))(hr:r.length=es)(ho:r.all AV.one=true)
  (hes:es≠0)(hb0:bytes≠0)(hb1:bytes<1000000)(hn:rows.length*bytes<1000000000000):∃v' h',appF h es bytes tg v (.slice b' 0 1 1)=some (v',h')∧GL lo h' tg es v' (rows++[r])∧h.next≤h'.next∧(∀c,c<h.next→c<lo→h'.get c=h.get c)∧(∀c,h'.next≤c→h'.get c=none)∧v'.one=true ∧
  (∀c,c<h.next→(∀b n e,v=.slop b 0 n e→c≠b)→h'.get c=h.get c)∧v'=.slop h.next 0 (rows.length+1) es:=by
 have hx:lenA (.slice b' 0 1 1)=some 1:=rfl;have hxs:Qar h es 1 (.slice b' 0 1 1)=some r:=by
  simp only[Qar,AH.read,AH.cellsAt,hg];rw[if_pos (Nat.le_refl 1),if_pos (by omega)];rw[List.drop_zero,Nat.one_mul,←hr,List.take_length]
 have hrows:∀r'∈rows++[r],r'.length=es:=fun r' hr'=>by
  rcases List.mem_append.1 hr' with h1|h1
  ·exact g.row r' h1
  ·rw[List.mem_singleton.1 h1];exact hr
 have c1:r.length=1*es∧es≠0∧bytes≠0∧bytes<1000000∧1*bytes<1000000000000∧r.all AV.one=true:=⟨by omega,hes,hb0,hb1,by omega,ho⟩
 rcases g.val with⟨rfl,rfl⟩|⟨b,pre,anc,rfl,h2,h3,h4⟩
 ·refine⟨.slop h.next 0 1 es,h.alloc (.cells r (some tg) 0 []),?_,⟨.inr ⟨h.next,0,[],rfl,by simpa using Qam h _,hlo,Nat.lt_succ_self _⟩,hrows⟩,Nat.le_succ _,fun c hc _=>Qad h _ hc,fun c hc=>?_,rfl,fun c hc _=>Qad h _ hc,rfl⟩
  ·simp only[appF,hx,hxs];unfold QbU;rw[if_pos c1,if_neg (by omega)]
  ·have hc':h.next+1≤c:=hc
   show (if c=h.next then _ else h.get c)=none;rw[if_neg (by omega)];exact hw c (by omega)
 ·have hl:=Qa9 g.row;have hne:r.length≠0:=by omega
  refine⟨.slop h.next 0 (rows.length+1) es,(h.put b (.old rows.flatten)).alloc (.cells (rows.flatten++r) (some tg) (rows.length*es) (b::anc)),?_,⟨.inr ⟨h.next,rows.length*es,b::anc,by simp,?_,hlo,Nat.lt_succ_self _⟩,hrows⟩,Nat.le_succ _,fun c hc hcl=>?_,fun c hc=>?_,rfl,fun c hc hcb=>?_,rfl⟩
  ·simp only[appF,hx,hxs];unfold QbU;rw[if_pos c1,if_neg (by omega)];simp only[h2];rw[if_pos ⟨hn,by omega,trivial,trivial⟩,if_neg (by omega),if_pos (by omega),List.drop_zero]
  ·rw[show h.next=(h.put b (.old rows.flatten)).next from rfl,Qam];simp
  ·rw[Qad _ _ (by exact hc),Qab _ _ (by omega)]
  ·have hc':h.next+1≤c:=hc
   show (if c=h.next then _ else (h.put b (.old rows.flatten)).get c)=none;rw[if_neg (by omega),Qab _ _ (by omega)];exact hw c (by omega)
  ·rw[Qad _ _ (by exact hc),Qab _ _ (hcb b _ _ rfl)]
theorem Qkg{N tg es bytes:Nat}{h:AH}{v:AV}{rows:List (List AV)}(s:Sl N h es v rows)(hrow:∀r∈rows,r.length=es∧r.all AV.one=true)(hes:es≠0)(hb0:bytes≠0)(hb1:bytes<1000000)(hn:rows.length*bytes<1000000000000){b:Nat}{sp:Option Nat}
  (hg:h.get b=some (.cells [] sp 0 []))(hx:Qar h es rows.length v=some rows.flatten) :
  appF h es bytes tg (.slice b 0 0 0) v=if rows.length=0 then some (.slice b 0 0 0,h) else some (.slop h.next 0 rows.length es,h.alloc (.cells rows.flatten (some tg) 0 [])):=by
 have hl:lenA v=some rows.length:=by
  have:=s.len;cases v<;>first|exact this|(simp[lenS]at this)
 have hfl:=Qa9 fun r hr=>(hrow r hr).1
 have hall:rows.flatten.all AV.one=true:=by
  rw[List.all_eq_true];intro x hx';obtain⟨r,h1,h2⟩:=List.mem_flatten.1 hx';exact List.all_eq_true.1 (hrow r h1).2 x h2
 simp only[appF,hl,hx];unfold QbU;rw[if_pos ⟨hfl,hes,hb0,hb1,hn,hall⟩];by_cases c:rows.length=0
 ·rw[if_pos c,if_pos c]
 ·rw[if_neg c,if_neg c];show (if 0*bytes<1000000000000 then _ else none)=_;rw[if_pos (by omega),if_neg (by omega)];simp only[AH.read,AH.cellsAt,hg];rw[if_pos (by simp)];simp
end Go.Ab
namespace Go.Ab
open Go
section
variable(F:FuncId→Option AFun)(M:Memo)(x:Ctx)(G:AS→Prop)
def WCG(n:Nat)(k:List AItem)(t:List AV)(h:AH)(d:Option Nat)(f:AOpd)(a:List AOpd)(g:Nat)(z:Bool)(ops:List AOper):Option AV→Prop
 |some (.bool b)=>if b == z then Reach F M (x.at t (.inRegion (⟨d,.call f a,some (g,z)⟩::ops)::k) h) G else W F M x G n (.inRegion ops::k) (setDst t d (.tuple [])) h
 |some (.tuple [])=>W F M x G n (.inRegion ops::k) (setDst t d (.tuple [])) h
 |_=>False
def WMG(n:Nat)(k:List AItem)(t:List AV)(h:AH)(d:Option Nat)(f:AOpd)(a:List AOpd)(g:Nat)(z:Bool)(ag:List AOper)(mk:List Nat)(p:List Stage):Option AV→Prop
 |some (.bool b)=>if b == z then Reach F M (x.at t (.inMain ⟨d,.call f a,some (g,z)⟩ ag mk p::k) h) G else (ag.all (again (setDst t d (.tuple [])) h)=true∧W F M x G n (.drawRest p::k) (setDst t d (.tuple [])) h)
 |some (.tuple [])=>ag.all (again (setDst t d (.tuple [])) h)=true∧W F M x G n (.drawRest p::k) (setDst t d (.tuple [])) h
 |_=>False
def WPM(n:Nat)(k:List AItem)(t:List AV)(d:Option Nat)(ag:List AOper):Option (AV×AH)→Prop
 |some (v,h)=>ag.all (again (setDst t d v) h)=true∧W F M x G n k (setDst t d v) h
 |none=>False
end
section
variable{F:FuncId→Option AFun}{M:Memo}{x:Ctx}{G:AS→Prop}{n:Nat}{k:List AItem}{t:List AV}{h:AH}
theorem wCall{d:Option Nat}{f:AOpd}{a:List AOpd}{ops:List AOper}:W F M x G (n+1) (.inRegion (⟨d,.call f a,none⟩::ops)::k) t h=Reach F M (x.at t (.inRegion (⟨d,.call f a,none⟩::ops)::k) h) G:=id rfl
theorem wCallG{d:Option Nat}{f:AOpd}{a:List AOpd}{g:Nat}{z:Bool}{ops:List AOper}:W F M x G (n+1) (.inRegion (⟨d,.call f a,some (g,z)⟩::ops)::k) t h=WCG F M x G n k t h d f a g z ops t[g]?:=by
 show (match Qai t ⟨d,.call f a,some (g,z)⟩ with|some true=>_|some false=>_|none=>_)=_;have e:Qai t ⟨d,.call f a,some (g,z)⟩=(match t[g]? with|some (.bool b)=>some (b == z)|some (.tuple [])=>some false|_=>none):=rfl;rw[e];unfold WCG;split
 ·rename_i hx;split at hx
  ·rename_i b hb;have:(b == z)=true:=by simpa using hx
   simp only[this,if_true]
  ·cases hx
  ·cases hx
 ·rename_i hx;split at hx
  ·rename_i b hb;have:(b == z)=false:=by simpa using hx
   simp only[this];rfl
  ·rfl
  ·cases hx
 ·rename_i hx;split at hx
  ·cases hx
  ·cases hx
  ·rfl
theorem wCGT{d:Option Nat}{f:AOpd}{a:List AOpd}{g:Nat}{ops:List AOper}:WCG F M x G n k t h d f a g true ops (some (.bool true))=Reach F M (x.at t (.inRegion (⟨d,.call f a,some (g,true)⟩::ops)::k) h) G:=id rfl
theorem wCGF{d:Option Nat}{f:AOpd}{a:List AOpd}{g:Nat}{ops:List AOper}:WCG F M x G n k t h d f a g false ops (some (.bool false))=Reach F M (x.at t (.inRegion (⟨d,.call f a,some (g,false)⟩::ops)::k) h) G:=id rfl
theorem wCGn{d:Option Nat}{f:AOpd}{a:List AOpd}{g:Nat}{ops:List AOper}:WCG F M x G n k t h d f a g true ops (some (.bool false))=W F M x G n (.inRegion ops::k) (setDst t d (.tuple [])) h:=id rfl
theorem wCGm{d:Option Nat}{f:AOpd}{a:List AOpd}{g:Nat}{ops:List AOper}:WCG F M x G n k t h d f a g false ops (some (.bool true))=W F M x G n (.inRegion ops::k) (setDst t d (.tuple [])) h:=id rfl
theorem wCGu{d:Option Nat}{f:AOpd}{a:List AOpd}{g:Nat}{z:Bool}{ops:List AOper}:WCG F M x G n k t h d f a g z ops (some (.tuple []))=W F M x G n (.inRegion ops::k) (setDst t d (.tuple [])) h:=id rfl
theorem wMC{d:Option Nat}{f:AOpd}{a:List AOpd}{ag:List AOper}{mk:List Nat}{p:List Stage}:W F M x G (n+1) (.inMain ⟨d,.call f a,none⟩ ag mk p::k) t h=Reach F M (x.at t (.inMain ⟨d,.call f a,none⟩ ag mk p::k) h) G:=id rfl
theorem wMCG{d:Option Nat}{f:AOpd}{a:List AOpd}{g:Nat}{z:Bool}{ag:List AOper}{mk:List Nat}{p:List Stage}:W F M x G (n+1) (.inMain ⟨d,.call f a,some (g,z)⟩ ag mk p::k) t h=WMG F M x G n k t h d f a g z ag mk p t[g]?:=by
 show (match Qai t ⟨d,.call f a,some (g,z)⟩ with|some true=>_|some false=>_|none=>_)=_;have e:Qai t ⟨d,.call f a,some (g,z)⟩=(match t[g]? with|some (.bool b)=>some (b == z)|some (.tuple [])=>some false|_=>none):=rfl;rw[e];unfold WMG;split
 ·rename_i hx;split at hx
  ·rename_i b hb;have:(b == z)=true:=by simpa using hx
   simp only[this,if_true]
  ·cases hx
  ·cases hx
 ·rename_i hx;split at hx
  ·rename_i b hb;have:(b == z)=false:=by simpa using hx
   simp only[this];rfl
  ·rfl
  ·cases hx
 ·rename_i hx;split at hx
  ·cases hx
  ·cases hx
  ·rfl
theorem wMGT{d:Option Nat}{f:AOpd}{a:List AOpd}{g:Nat}{ag:List AOper}{mk:List Nat}{p:List Stage}:WMG F M x G n k t h d f a g true ag mk p (some (.bool true))=Reach F M (x.at t (.inMain ⟨d,.call f a,some (g,true)⟩ ag mk p::k) h) G:=id rfl
theorem wMGn{d:Option Nat}{f:AOpd}{a:List AOpd}{g:Nat}{mk:List Nat}{p:List Stage}:WMG F M x G n k t h d f a g true [] mk p (some (.bool false))=W F M x G n (.drawRest p::k) (setDst t d (.tuple [])) h:=by simp[WMG]
theorem wMGu{d:Option Nat}{f:AOpd}{a:List AOpd}{g:Nat}{z:Bool}{mk:List Nat}{p:List Stage}:WMG F M x G n k t h d f a g z [] mk p (some (.tuple []))=W F M x G n (.drawRest p::k) (setDst t d (.tuple [])) h:=by simp[WMG]
theorem wMO{d:Option Nat}{a:AOp}{ag:List AOper}{mk:List Nat}{p:List Stage}:W F M x G (n+1) (.inMain ⟨d,.op a,none⟩ ag mk p::k) t h=WPM F M x G n (.drawRest p::k) t d ag (exec h (aev t) a):=by
 show (match exec h (aev t) a with|some (v,h')=>_|none=>_)=_;cases exec h (aev t) a<;>rfl
theorem wPM0{d:Option Nat}{v:AV}{h':AH}:WPM F M x G n k t d [] (some (v,h'))=W F M x G n k (setDst t d v) h':=by simp[WPM]
theorem cCall(n:Nat){o:AOper}{ops:List AOper}{f:AOpd}{args:List AOpd}{fid:FuncId}{as:List AV}{R:AV→AH→Prop}(hm:M fid as=none)(hc:Ctr F M fid as h R (fun _ _=>False))(hr:∀v h',R v h'→W F M x G n (.inRegion ops::k) (setDst t o.dst v) h')
  (hw:Qai t o=some true:=by rfl)(ha:o.act=.call f args:=by rfl)(ht:QaR (aev t f) (args.map (aev t))=some (.enter fid as):=by rfl):Reach F M (x.at t (.inRegion (o::ops)::k) h) G:=
 R_call hw ha ht hm hc (fun v h' hv=>W_ok n _ _ _ (hr v h' hv)) fun _ _ e=>e.elim
theorem cMain(n:Nat){o:AOper}{ag:List AOper}{mk:List Nat}{p:List Stage}{f:AOpd}{args:List AOpd}{fid:FuncId}{as:List AV}{R:AV→AH→Prop}(hm:M fid as=none)(hc:Ctr F M fid as h R (fun _ _=>False))
  (hr:∀v h',R v h'→ag.all (again (setDst t o.dst v) h')=true∧W F M x G n (.drawRest p::k) (setDst t o.dst v) h')
  (hw:Qai t o=some true:=by rfl)(ha:o.act=.call f args:=by rfl)(ht:QaR (aev t f) (args.map (aev t))=some (.enter fid as):=by rfl):Reach F M (x.at t (.inMain o ag mk p::k) h) G:=
 Qm8 hw ha ht hm hc (fun v h' hv=>⟨(hr v h' hv).1,W_ok n _ _ _ (hr v h' hv).2⟩) fun _ _ e=>e.elim
theorem cMemo(n:Nat){o:AOper}{ops:List AOper}{f:AOpd}{args:List AOpd}{fid:FuncId}{as:List AV}{c:AH→Option (AV×AH)}{v:AV}{h':AH}(hm:M fid as=some c)(hc:c h=some (v,h'))(hr:W F M x G n (.inRegion ops::k) (setDst t o.dst v) h')
  (hw:Qai t o=some true:=by rfl)(ha:o.act=.call f args:=by rfl)(ht:QaR (aev t f) (args.map (aev t))=some (.enter fid as):=by rfl):Reach F M (x.at t (.inRegion (o::ops)::k) h) G:=
 R_memo hw ha ht hm hc (W_ok n _ _ _ hr)
theorem wStM{h0:AH}{L:List (Nat×AO)}{d:Option Nat}{ag:List AOper}{m:Nat}{b o:Nat}{l l' vs:List AV}{sp:Option Nat}{v:AV}(w:Wk h0 h L)(i:Nat)(hi:L[i]? = some (b,.cells l sp 0 []))(hs:splice l o vs=l')
  (hr:∀h1,Wk h0 h1 (L.set i (b,.cells l' sp 0 []))→ag.all (again (setDst t d .undef) h1)=true∧W F M x G n k (setDst t d .undef) h1)
  (hk:v.known=true:=by rfl)(hv:v.cells=vs:=by rfl)(hl:vs.length=m:=by rfl)(ho:vs.all AV.one=true:=by rfl)(hn:o+m≤l.length:=by simp):WPM F M x G n k t d ag (stF h m (.ptr b o) v):=by
 subst hv hl hs;have hg:=w.get i hi;have e:stF h v.cells.length (.ptr b o) v=some (.undef,h.put b (.cells (splice l o v.cells) sp 0 [])):=by
  simp only[stF,storeA,AH.store,hg];rw[if_pos ⟨hk,trivial⟩,if_pos ⟨hn,ho⟩,if_neg (by omega)];rfl
 rw[e];exact hr _ (w.put i hi _)
end
structure UpS (S:Nat→Prop)(h h':AH):Prop where
 next:h.next≤h'.next
 keep:∀b,b<h.next→¬S b→h'.get b=h.get b
 wf:∀b,h'.next≤b→h'.get b=none
section
variable{S:Nat→Prop}{h h1 h2 h0:AH}
theorem UpS.refl(wf:∀b,h.next≤b→h.get b=none):UpS S h h:=⟨Nat.le_refl _,fun _ _ _=>rfl,wf⟩
theorem UpS.trans(a:UpS S h h1)(b:UpS S h1 h2):UpS S h h2:=⟨Nat.le_trans a.next b.next,fun c hc hn=>by rw[b.keep c (Nat.lt_of_lt_of_le hc a.next) hn,a.keep c hc hn],b.wf⟩
theorem Up.s(u:Up h h1):UpS S h h1:=⟨u.next,fun b hb _=>u.keep b hb,u.wf⟩
theorem UpS.up(u:UpS S h h1)(hS:∀b,S b→h.next≤b):Up h h1:=⟨u.next,fun b hb=>u.keep b hb fun e=>by have:=hS b e;omega,u.wf⟩
theorem UpS.low{N:Nat}(u:UpS S h h1)(hN:N≤h.next)(hS:∀b,S b→N≤b):Low N h h1:=fun b hb=>u.keep b (Nat.lt_of_lt_of_le hb hN) fun e=>by have:=hS b e;omega
theorem UpS.put(u:UpS S h h1){b:Nat}(hb:h.next≤b∨S b)(hl:b<h1.next)(o:AO):UpS S h (h1.put b o):=by
 refine⟨u.next,fun c hc hn=>?_,fun c hc=>?_⟩
 ·rw[Qab _ _ (fun e=>by subst e;rcases hb with hb|hb;omega;exact hn hb),u.keep c hc hn]
 ·have hc':h1.next≤c:=hc
  rw[Qab _ _ (by omega)];exact u.wf c hc'
theorem UpS.mono{S':Nat→Prop}(u:UpS S h h1)(hS:∀b,S b→S' b):UpS S' h h1:=⟨u.next,fun b hb hn=>u.keep b hb fun e=>hn (hS b e),u.wf⟩
end
section
variable{F:FuncId→Option AFun}{M:Memo}{x:Ctx}{G:AS→Prop}{n:Nat}{k:List AItem}{t:List AV}{h:AH}{d:Option Nat}
theorem wStA{m:Nat}{b o:Nat}{l l' vs:List AV}{sp:Option Nat}{v:AV}(hg:h.get b=some (.cells l sp 0 []))(hs:splice l o vs=l')(hr:W F M x G n k (setDst t d .undef) (h.put b (.cells l' sp 0 [])))
  (hk:v.known=true:=by rfl)(hv:v.cells=vs:=by rfl)(hl:vs.length=m:=by rfl)(ho:vs.all AV.one=true:=by rfl)(hn:o+m≤l.length:=by simp):WP F M x G n k t d (stF h m (.ptr b o) v):=by
 subst hv hl hs;have e:stF h v.cells.length (.ptr b o) v=some (.undef,h.put b (.cells (splice l o v.cells) sp 0 [])):=by
  simp only[stF,storeA,AH.store,hg];rw[if_pos ⟨hk,trivial⟩,if_pos ⟨hn,ho⟩,if_neg (by omega)];rfl
 rw[e];exact hr
def WE(F:FuncId→Option AFun)(M:Memo)(x:Ctx)(G:AS→Prop)(n:Nat)(t:List AV)(h:AH):Option (List AItem)→Prop
 |some k=>W F M x G n k t h
 |none=>False
theorem wEx{i:Nat}:W F M x G (n+1) (.code (.exit i)::k) t h=WE F M x G n t h (Qal i k):=by
 show (match Qal i k with|some k'=>_|none=>_)=_;cases Qal i k<;>rfl
theorem wEs:WE F M x G n t h (some k)=W F M x G n k t h:=id rfl
theorem xB{i:Nat}:Qal i (.inBlock i::k)=some k:=by simp[Qal]
theorem xL{i:Nat}{b:AC}:Qal i (.inLoop b::k)=Qal i k:=id rfl
theorem xC{i:Nat}{b:AC}:Qal i (.code b::k)=Qal i k:=id rfl
theorem xS{i:Nat}{b:AC}:Qal i (.inScope b::k)=Qal i k:=id rfl
theorem xB01:Qal 0 (.inBlock 1::k)=Qal 0 k:=id rfl
theorem xB02:Qal 0 (.inBlock 2::k)=Qal 0 k:=id rfl
theorem xB03:Qal 0 (.inBlock 3::k)=Qal 0 k:=id rfl
theorem xB10:Qal 1 (.inBlock 0::k)=Qal 1 k:=id rfl
theorem xB12:Qal 1 (.inBlock 2::k)=Qal 1 k:=id rfl
theorem xB13:Qal 1 (.inBlock 3::k)=Qal 1 k:=id rfl
theorem xB20:Qal 2 (.inBlock 0::k)=Qal 2 k:=id rfl
theorem xB21:Qal 2 (.inBlock 1::k)=Qal 2 k:=id rfl
theorem xB23:Qal 2 (.inBlock 3::k)=Qal 2 k:=id rfl
theorem xB30:Qal 3 (.inBlock 0::k)=Qal 3 k:=id rfl
theorem xB31:Qal 3 (.inBlock 1::k)=Qal 3 k:=id rfl
theorem xB32:Qal 3 (.inBlock 2::k)=Qal 3 k:=id rfl
def wC:=And.intro @wCall (And.intro @wCallG (And.intro @wCGT (And.intro @wCGF (And.intro @wCGn (And.intro @wCGm (And.intro @wCGu (And.intro @wMC (And.intro @wMCG (And.intro @wMGT (And.intro @wMGn (And.intro @wMGu (And.intro @wMO (And.intro @wPM0 (And.intro @eIdx (And.intro @idxS (And.intro @eIar (And.intro @eApp (And.intro @eBS (And.intro @eBld (And.intro @bldN (And.intro @wEx (And.intro @wEs (And.intro @xB (And.intro @xL (And.intro @xC (And.intro @xS (And.intro @xB01 (And.intro @xB02 (And.intro @xB03 (And.intro @xB10 (And.intro @xB12 (And.intro @xB13 (And.intro @xB20 (And.intro @xB21 (And.intro @xB23 (And.intro @xB30 (And.intro @xB31 (And.intro @xB32 (True.intro)))))))))))))))))))))))))))))))))))))))
end
end Go.Ab
