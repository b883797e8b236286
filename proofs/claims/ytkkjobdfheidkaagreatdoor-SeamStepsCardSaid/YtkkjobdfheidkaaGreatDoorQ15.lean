/- Part of a proof. -/
import Derived.Test.YtkkjobdfheidkaaGreatDoorQ14
import Derived.Test.YtkkjobdfheidkaaGreatDoorQ11
import Derived.Conc.LeavingOf
import Derived.Test.YtkkjobdfheidkaaGreatDoorCards
import Derived.SevenTiedAt
import Derived.LaidSub
import Derived.LaidOnce
set_option maxRecDepth 100000
set_option maxHeartbeats 6400000
set_option linter.unusedVariables false
set_option linter.unusedSimpArgs false
open Array renaming getElem?_eq_some_iff→Za
open Bool renaming and_eq_true→ZD
open Go renaming World→Zb,TypeId→Zs,Value→Zc,Program→Zp,FuncId→YT,behindMainWord→YK,wordsSigns→YW
open Go.DataW renaming TrodAll→Za2
open Go.Frame renaming enter→Zq
open Go.Proofs.Tryz renaming prog→Zd
open Go.RowKit renaming Below→Zm
open Go.World renaming cell?→zJ,block_lt_of_cell?→ZH,shape?→Ys
open List renaming getElem?_append_left→zD,getElem?_eq_some_iff→Zo,length_append→ZV,length_cons→zK,length_nil→zY,getElem?_eq_getElem→Z7,range→ZaB,mem_singleton→YJ,mem_cons_self→zF,mem_cons_of_mem→zr
open Nat renaming le_refl→Zj,zero_le→Zt
open Option renaming bind_eq_some_iff→ZP,map_eq_some_iff→zd
open Option.some renaming inj→Z2
namespace Go.Proofs.Fit
open Go Go.RowKit
theorem sC {α:Type}{n:Nat}{Q:Nat→α→Prop}(h:∀i,i<n→∃x,Q i x):∃l:List α,l.length=n∧∀i x,l[i]?=some x→Q i x:=by
 induction n with
 |zero=>exact⟨[],rfl,fun i x hx=>by cases hx⟩
 |succ n ih=>
  obtain⟨l,hl,hq⟩:=ih fun i hi=>h i (Nat.lt_succ_of_lt hi);obtain⟨x,hx⟩:=h n (Nat.lt_succ_self n);refine⟨l++ [x],by simp[hl],fun i y hy=>?_⟩;by_cases hi:i<n
  ·rw[zD (by omega)]at hy
   exact hq i y hy
  ·have Az:=(Zo.1 hy).1
   simp only[ZV,zK,zY]at Az;obtain rfl:i=n:=by omega
   subst hl;rw[List.getElem?_concat_length]at hy;cases hy;exact hx
def Lv (w:Zb)(b:Nat):Prop:=b<w.heap.size
section
variable {H:Type}{enc:Zs×Zc→H}{P:Zp}{w:Zb}{base:Nat}{spare:Nat→Bool}{held:Bool}{α:Type}
def Reads (enc:Zs×Zc→H)(P:Zp)(w:Zb)(base:Nat)(spare:Nat→Bool)(held:Bool)(t:Zs)(R:Zb→List Zc→α→Prop):Prop:=
 ∀n cs y,DataW.trod enc P w base spare held n t cs=some y→∃x,R w cs x
theorem addr_add {b o j:Nat}:(⟨b,o,none⟩:Addr).add j=⟨b,o+j,none⟩:=by unfold Addr.add;split<;>simp_all
theorem aG {base:Nat}{a:Addr}{k:Nat}{ds:List Zc}(h:w.cells? base a k=some ds):ds.length=k∧∀j u,ds[j]?=some u→w.cell? (a.add j)=some u:=by
 unfold World.cells? at h;split at h
 ·have h4:=mapM_some_length h
  rw[List.length_range]at h4;refine⟨h4,fun j u hu=>?_⟩;have hj:=(Zo.1 hu).1;have:=mapM_some_get h j j (by rw[List.getElem?_range (by omega)]);rw[this,hu]
 ·cases h
theorem jC {a:Addr}{v:Zc}(h:w.cell? a=some v):a.spot=none:=by
 unfold zJ at h;split at h
 ·split at h
  ·cases h
  ·next hs=>simpa using hs
 ·cases h
theorem aH {t e:Zs}{k:Nat}{R:Zb→List Zc→α→Prop}(ht:P.underlying t=some (.slice e))(hk:P.cellsOf e=k)(hp:0<k)(h:Reads enc P w base spare held e R):
  Reads enc P w base spare held t (fun w cs (l:List α)=>∃v,cs=[v]∧Sl (Lv w) R k w v l):=by
 intro n cs y hy;rcases DataW.trod_slice ht hy with⟨rfl,_⟩|⟨a,len,cap,elems,rest,n',_,rfl,_,_,hl,hm,hlen,hel,_⟩
 ·exact⟨[],_,rfl,none,0,rfl,Zj _,Zt _,fun i x hx=>by cases hx⟩
 have afI:∀i,i<len→∃ds y,w.cells? base (a.add (i*k)) k=some ds∧DataW.trod enc P w base spare held n' e ds=some y:=fun i hi=>by
  have h1:=hel i hi;rw[hk,Z7 (show i<elems.length by omega)]at h1;obtain⟨ds,h2,h3⟩:=ZP.1 h1;exact⟨ds,_,h2,h3⟩
 have JQ:0<len→a.spot=none:=fun h0=>by
  obtain⟨ds,y,h1,_⟩:=afI 0 h0;obtain⟨h2,h3⟩:=aG h1;have:=jC (h3 0 _ (Z7 (by omega)));simpa[Addr.add]using this
 obtain⟨b,o,sp⟩:=a;obtain⟨l,V9,hq⟩:=sC (n:=len) (Q:=fun i x=>∃b' o' cs,some (⟨b,o,sp⟩:Addr)=some ⟨b',o',none⟩∧Lv w b'∧cs.length=k∧(∀j u,cs[j]?=some u→w.cell? ⟨b',o'+i*k+j,none⟩=some u)∧R w cs x) fun i hi=>by
  obtain rfl:sp=none:=JQ (by omega);obtain⟨ds,y,h1,h2⟩:=afI i hi;obtain⟨x,hx⟩:=h _ _ _ h2;obtain⟨h3,h4⟩:=aG h1;have h5:∀j u,ds[j]?=some u→w.cell? ⟨b,o+i*k+j,none⟩=some u:=fun j u hu=>by
   have:=h4 j u hu;rwa[addr_add,addr_add]at this
  exact⟨x,b,o,ds,rfl,ZH w _ (h5 0 _ (Z7 (by omega))),h3,h5,hx⟩
 exact⟨l,_,rfl,some ⟨b,o,sp⟩,cap,by rw[V9],by omega,hm,fun i x hx=>hq i x hx⟩
theorem jD {t:Zs}(ht:P.underlying t=some (.int .i64)):Reads enc P w base spare held t Ri:=by
 intro n cs y hy;obtain⟨x,rfl,_⟩:=DataW.trod_int ht hy;exact⟨x,rfl⟩
end
end Go.Proofs.Fit
namespace Go.Proofs.Fit
open Go Go.Conc Go.BK Go.ChangeShapes Go.WideShapes Go.RowKit
theorem own:ownKnob Tryz.prog.godebug=none:=by kernel_rfl
theorem laidOut:laidOutB Zd=true:=by kernel_rfl
theorem et0:Tryz.prog.globalNamed "errors.errorType" =some 0:=by kernel_rfl
theorem rt0:(Tryz.prog.cutTypes.find? (·.1== "internal/reflectlite.rtype")).map (·.2)=some 220:=by kernel_rfl
theorem afJ:Tryz.prog.types.size=283:=by kernel_rfl
theorem aa5:((ZaB 283).filter fun t=>Tryz.prog.rowNamed t [101,114,114,111,114])=[117]:=by kernel_rfl
abbrev PM:List (String×DataW Unit):=[("errors.errorType",YtkkjobdfheidkaaGreatDoor.Rows.laid_errors_errorType)]
theorem Sf {W:Zb}(h:laidMetH Zd PM W):IZ W:=by
 have h':laidMet Zd [] W∧handlesMet Zd PM W:=h;obtain⟨name,u,ty,e1,e2,e3,e4,e5⟩:=h'.2 _ (YJ.2 rfl);have en:name=[101,114,114,111,114]:=(Z2 e1).symm;subst en;obtain rfl:=Z2 (rt0.symm.trans e2);have hm:ty∈(ZaB 283).filter fun t=>Tryz.prog.rowNamed t [101,114,114,111,114]:=List.mem_filter.2 ⟨List.mem_range.2 (by rw[←afJ];exact e3),e4⟩;rw[aa5]at hm;obtain rfl:=YJ.1 hm;have hh:typeHandle Zd 117=.pointer (some ⟨1,117,none⟩):=by kernel_rfl
 rw[hh]at e5;have:=World.var?_cell et0 e5 0;unfold IZ;simpa using this
noncomputable def Uv (os:Os):Zb:=
 let w0:=World.holding Zd os ⟨#[],#[],[]⟩
 {w0 with heap:=w0.heap.modify 0 fun
   | .cells _ t frozen=>.cells #[.iface 220 (.agg #[.pointer (some ⟨1,117,none⟩)])] t frozen
   |o=>o}
theorem Tk (os:Os)(args:Array Zc):laidMetH Zd PM ((Uv os).forCall (fun _ _=>0) ⟨#[],args,[]⟩).memory:=
 laidMetH_of_parts (laidMet_nil _ _) (by kernel_rfl)
def isCells:Obj→Bool
 | .cells _ _ _=>true
 |_=>false
theorem aI {o:Obj}(h:isCells o=true):∃c e f,o=.cells c e f:=by
 cases o<;>first|exact⟨_,_,_,rfl⟩|cases h
theorem amf:((begin Zd (fun _ _=>0) default).world.heap[1]?).map isCells=some true:=by kernel_rfl
theorem vC:Tryz.prog.globals.size=1:=by kernel_rfl
theorem aa6 {W:Zb}(h:W.ShapedOpen Zd):∃o,W.heap[MZ.low]?=some o∧∃c e f,o=.cells c e f:=by
 rw[fM];have h0:=amf;obtain⟨o,h1,h2⟩:=zd.1 h0;obtain⟨x,y,h3,h4,h5⟩:=h.2 1 (by rw[vC];exact Zj _) (Za.1 h1).1;rw[vC,if_neg (by decide)]at h5;exact⟨x,h3,aI (by rw[h5];rw[h1]at h4;cases h4;exact h2)⟩
theorem jE {W:Zb}(h:IZ W):IZ (Bz W):=by
 refine RY h (.iface _ (VR.PU ⟨rfl,fun i x y h1 h2=>?_⟩))
 match i,h1,h2 with
 |0,h1,h2=>
  cases h1;cases h2;exact .pointer (a:=some ⟨1,117,none⟩) (a':=some ⟨1,117,none⟩) ⟨by have:=rQ W;rw[fM]at this;exact this,rfl,rfl⟩
theorem LC {P:Zp}(hl:laidOutB P=true){H:Type}{enc:Zs×Zc→H}{W W':Zb}(hb:Zm W.heap.size W W'):∀ {ts:List Zs} {vs:List Zc} {ds:List (DataW H)} {ps:List MemPlace},(∀t∈ts,P.readableRec t=true∧t<P.types.size)→
  Za2 enc P W 0 (fun _=>true) true ts vs ds ps→(∀x∈ps,x.block<W.heap.size)→Za2 enc P W' 0 (fun b=>decide (b<W.heap.size)) true ts vs ds ps
 | [],_,_,_,_,h,_=>by
  obtain⟨rfl,rfl,rfl⟩:=trodAll_nil h;exact trodAll_mk0
 |t::ts,_,_,_,hr,h,Az=>by
  obtain⟨v,vs1,d,ds1,a,b,rfl,rfl,rfl,h1,h2⟩:=trodAll_cons h;have rq:=hr t (zF ..);exact⟨a,b,Below.trod hl rq.1 rq.2 h1 hb fun x hx=>Az x (List.mem_append_left _ hx),LC hl hb (fun t ht=>hr t (zr _ ht)) h2 fun x hx=>Az x (List.mem_append_right _ hx),rfl⟩
theorem PN {P:Zp}{H:Type}{enc:Zs×Zc→H}{W:Zb}:∀ {ts:List Zs} {vs:List Zc} {ds:List (DataW H)} {ps:List MemPlace},Za2 enc P W 0 (fun _=>true) true ts vs ds ps→ds.length=ts.length
 | [],_,_,_,h=>by
  obtain⟨rfl,rfl,rfl⟩:=trodAll_nil h
  rfl
 |_::_,_,_,_,h=>by
  obtain⟨v,vs1,d,ds1,a,b,rfl,rfl,rfl,_,h2⟩:=trodAll_cons h;simp[PN h2]
theorem dJ {f:YT}{fn:Func}{i:Nat}{t0:Zs}{s:ChangeSpec}{H:Type}{enc:Zs×Zc→H}{os:Os}(started:os.Started)
  (hf:MZ.Mz f=true) (hfL:S_ f=true) (Hp:Tryz.prog.funcs[f]?=some fn) (hr:fn.results= #[.tmp i]) (kQ:fn.resultTypes= #[t0]) (ht0:Tryz.prog.underlying t0=some .bool) (nG:Tryz.prog.inits.idxOf? f=none) (n_:s.vars=[])
  (VN:fn.params.toList.all (fun t=>Tryz.prog.readableRec t&&decide (t<Tryz.prog.types.size))=true)
  (hs:∀ds:List (DataW H),ds.length=fn.params.size→s.fn H ds= {results:=[.lit (.bool true)],args:=ds})
  (witness:∃(w:Zb) (tape:Tape) (i:Input),w.os=os∧(w.forCall tape i).Shaped Zd∧i.vars=[]∧Input.okWide Zd (w.forCall tape i) .any w.heap.size f i∧
   ((s.pre enc Zd fn [] false (w.forCall tape i).memory i.args∧laidMetH Zd PM (w.forCall tape i).memory)∧sizedMet enc Zd fn (OpenSpec.ofChange s) false (w.forCall tape i).memory i.args)∧({}:Assume).holds Zd (lone (Zq Zd f i.args .normal) [] (w.forCall tape i)))
  (law:∀(W:Zb) (base:Nat) (args:Array Zc) (ds:List (DataW H)) (ps:List MemPlace),(∀(j:Nat) t v,fn.params[j]?=some t→args[j]?=some v→Value.okWide Zd W .any base t v)→
   Za2 enc Zd W 0 (fun _=>true) true fn.params.toList args.toList ds ps→(DataW.weightsEach Zd fn.params.toList ds).all (· ≤reachBytes)=true→IZ (Bz W)→BN (Qb W) args args∧∀t,Calls Lp f args (tp (Bz W) t) (Vy (tp (Bz W) t))):
  ReturnsInLeavingWide {} Tryz.checked os f .any (fun w args=>(s.pre enc Zd fn [] false w args∧laidMetH Zd PM w)∧sizedMet enc Zd fn (OpenSpec.ofChange s) false w args)
   (s.post enc Zd fn false true false false):=by
 refine returnsInLeavingWide_of_good (C:=Tryz.checked) own started witness ?_;intro w tape i _ wZ _ I4 amg _;obtain⟨_,_,_,Qj,rU,_,_,_,D1,hval⟩:=I4;have e:Qj=fn:=Z2 (rU.symm.trans Hp);subst e;obtain⟨⟨⟨ds,gs,before,hw,_⟩,hl⟩,hz⟩:=amg;have pF:=DataW.Whole.of_heap (w':=w.forCall tape i) (by rfl) hw;have hz':=hz.weights hw;have hG:IZ (w.forCall tape i):=Sf (hl.of_heap (by rfl));have hval:∀(j:Nat) t v,Qj.params[j]?=some t→i.args[j]?=some v→Value.okWide Zd (w.forCall tape i) .any w.heap.size t v:=hval;generalize w.forCall tape i=W at*;have pz:=pF;obtain⟨p,q,hA,hV,rfl,_,_⟩:=pF;rw[n_]at hV;obtain⟨rfl,rfl⟩:=trodVars_none hV;have hlen:ds.length=Qj.params.size:=PN hA;have IE:=aa6 wZ;have hg0:∃c e f,W.heap[0]?=some (.cells c e f):=by
  obtain⟨c,e,f,h⟩:=RJ hG;exact⟨c,e,f,h⟩
 have oa:(DataW.weightsEach Zd Qj.params.toList ds).all (· ≤reachBytes)=true:=by
  have ami:(DataW.weightsEach Zd (Qj.params.toList++s.plain.varTypes Zd) (ds++ [])).all (· ≤reachBytes)=true:=hz';rwa[List.append_nil,show s.plain.varTypes Zd=[] from by unfold DataSpec.varTypes;rw[show s.plain.vars=[] from n_];rfl,List.append_nil]at ami
 have afK:∀t∈Qj.params.toList,Tryz.prog.readableRec t=true∧t<Tryz.prog.types.size:=fun t ht=>by
  have:=List.all_eq_true.1 VN t ht;rw[ZD]at this;exact⟨this.1,of_decide_eq_true this.2⟩
 obtain⟨fN,hc⟩:=law W w.heap.size i.args ds p hval hA oa (jE hG);obtain⟨M,last,o,w',t',h1,h2,h3,h4⟩:=rT hf hfL Hp hr nG IE hg0 fN hc;have Az:∀x∈p,x.block<W.heap.size:=fun x hx=>pz.lt x (by simpa using hx);refine⟨M,last,o,w',t',h1,h2,h3,h4.mono fun v hp=>?_⟩;obtain⟨rfl,hb⟩:=hp;have DJ:s.fn H (ds++ [])= {results:=[.lit (.bool true)],args:=ds}:=by rw[List.append_nil];exact hs ds hlen
 refine ChangeSpec.post_blind ⟨ds,[],_,[],p,[],pz,?_,?_,?_,hb.frame _,fun h=>by cases h⟩
 ·rw[DJ,kQ]
  exact trodAll_mk1 (shut_bool ht0 true)
 ·rw[DJ]
  exact LC laidOut hb afK hA Az
 ·rw[DJ,n_];rfl
theorem ob {W:Zb}{base:Nat}{t e:Zs}{v:Zc}(ht:Tryz.prog.underlying t=some (.slice e))(h:Value.okWide Zd W .any base t v):VR (Qb W) v v:=by
 obtain⟨a,n,c,rfl⟩:=okWide_slice ht h;cases a with
 |none=>exact .slice (a:=none) n c trivial
 |some a=>
  simp only[Value.okWide,ht,Cell.okWide,Cell.ok]at h;obtain⟨_,_,_,h1,row,cells,h2,_⟩:=h;unfold Ys at h2;split at h2
  ·next hb=>exact .slice n c ⟨nE hb,rfl,rfl⟩
  ·cases h2
theorem SI.left {W:Zb}{v:Zc}{l:List Int}(h:SI (Lv W) W v l)(t:Tape):SI (fun x=>x<(tp (Bz W) t).heap.size) (tp (Bz W) t) v l:=by
 obtain⟨a,c,h1,h2,h3,h4⟩:=h;refine⟨a,c,h1,h2,h3,fun i x hx=>?_⟩;obtain⟨b,o,cs,g1,g2,g3,g4,g5⟩:=h4 i x hx;unfold Ri at g5;subst g5;refine⟨b,o,_,g1,?_,g3,fun j u hu=>?_,rfl⟩
 ·show b<(Bz W).heap.size
  rw[da];exact g2
 ·have:=RY (g4 j u hu) (by
   match j,hu with
   |0,hu=>cases hu;exact .int _ _)
  exact this
theorem sD {H:Type}{enc:Zs×Zc→H}{W:Zb}{t:Zs}{v:Zc}{d:DataW H}{ps:List MemPlace}(ht:Tryz.prog.underlying t=some (.slice 3))(hv:v.cells= #[v])(h:DataW.Trod enc Zd W 0 (fun _=>true) true t v d ps):∃l,SI (Lv W) W v l:=by
 obtain⟨n,hf⟩:=h;obtain⟨l,u,e,hl⟩:=aH ht (k:=1) (by kernel_rfl) (by decide) (jD (by kernel_rfl)) n _ _ hf;rw[hv]at e;cases e;exact⟨l,hl⟩
theorem sE {ρ:Ren}{v:Zc}(h:VR ρ v v):BN ρ #[v] #[v]:=⟨rfl,fun i x y h1 h2=>by
 match i,h1,h2 with
 |0,h1,h2=>cases h1;cases h2;exact h⟩
theorem oc {f:YT}{fn:Func}{W:Zb}{base:Nat}{args:Array Zc}{H:Type}{enc:Zs×Zc→H}{ds:List (DataW H)}{ps:List MemPlace}(hp:fn.params= #[22])
  (hval:∀(j:Nat) t v,fn.params[j]?=some t→args[j]?=some v→Value.okWide Zd W .any base t v) (hA:Za2 enc Zd W 0 (fun _=>true) true fn.params.toList args.toList ds ps) (hG:IZ (Bz W))
  (law:∀(w:Zb) (v:Zc) (nums:List Int),SI (fun x=>x<w.heap.size) w v nums→IZ w→Calls Lp f #[v] w (Two w (.bool true))):
  BN (Qb W) args args∧∀t,Calls Lp f args (tp (Bz W) t) (Vy (tp (Bz W) t)):=by
 rw[hp]at hval hA;obtain⟨v,d,rfl,rfl,h0⟩:=trodAll_one hA;have wG:Tryz.prog.underlying 22=some (.slice 3):=by kernel_rfl
 have ok:=hval 0 22 v rfl rfl;have hin:=ob wG ok;obtain⟨a,n,c,rfl⟩:=okWide_slice wG ok;obtain⟨l,hl⟩:=sD wG rfl h0;exact⟨sE hin,fun t=>(law _ _ _ (hl.left t) hG).mono fun e w' h=>h⟩
end Go.Proofs.Fit
namespace Go.Proofs.Fit
open Go Go.RowKit
theorem jF {p:Pinned}{s:OpenSpec}{c:OpenClaim}(kinds:List LaidKind)(tT:Bool×String)(hc:c.holds p s)(hw:c.wfByText s=true)(amj:c.laidByTextAt .later p kinds true)
  (B3:c.start=.entering) (hnb:c.noBlocks=false∧c.again=false) (hm:p.checked.prog.mainIs=some (tT.1,tT.2.toList))
  (hl:∀f fn,p.checked.prog.funcNamed c.func=some f→p.checked.prog.funcs[f]?=some fn→true=p.checked.prog.looks []∧∀(j:Nat) t,fn.params[j]?=some t→p.checked.prog.wantsStandIn t=false)
  (hg:true=c.goesBy p.checked.prog):
  Claim7.holds p (.plain s) {stood:= {row:=c,standIns:=[],harness:=tT,looks:=true},kinds:=[],alts:=[],goes:=true,laidByText:=true,laidKinds:=kinds,laidTests:=true,laidLooks:=.later}:=by
 have h6:Claim7.isSixth {stood:= {row:=c,standIns:=[],harness:=tT,looks:=true},kinds:=[]}=false:=by simp[Claim7.isSixth]
 exact⟨Claim7.tied_new_at .later kinds true (Claim7.new_of_sixth hc tT true B3 hnb hm h6 hl) hw,fun D hD=>(by cases hD),amj,(fun h=>by cases h),hg⟩
set_option maxRecDepth 100000
theorem io_:∃l,Tryz.prog.initOrder=String.ofList l∧(YK (YW l)).head?=some "cut".toList∧(match YW l with
 |h::s::_=>if !isSumSigns s then none else if h== "harness".toList then some (true,s) else if h== "ownmain".toList then some (false,s) else none
 |_=>none)=some (true,"d58ada5a772cea19d6c1f322b38be8e13f90afce78f95e9e644b853f050ce369".toList):=⟨_,rfl,by kernel_rfl,by kernel_rfl⟩
theorem aJ {P:Zp}{l:List Char}(h0:P.initOrder=String.ofList l)(h:(YK (YW l)).head?=some "cut".toList):∃R,YK (YW P.initOrder.toList)= "cut".toList::R:=by
 rw[h0,String.toList_ofList];cases e:YK (YW l) with
 |nil=>rw[e]at h;cases h
 |cons a r=>rw[e]at h;exact⟨r,by rw[show a= "cut".toList from Z2 h]⟩
theorem Nl:∃R,YK (YW Tryz.prog.initOrder.toList)= "cut".toList::R:=by
 obtain⟨l,h0,h,_⟩:=io_;exact aJ h0 h
theorem Uw (R:List (List Char)):stripLifts liftWords ("cut".toList::R)=([],"cut".toList::R):=by kernel_rfl
theorem dK:Tryz.prog.laysLater=false:=by kernel_rfl
theorem Tl:Tryz.prog.bearsReflect=false:=by kernel_rfl
theorem jG:Tryz.prog.doorFits []=true:=by kernel_rfl
theorem aK {P:Zp}{R:List (List Char)}(hR:YK (YW P.initOrder.toList)= "cut".toList::R)(h1:P.laysLater=false)(h2:P.bearsReflect=false)(h3:P.doorFits []=true):P.mayEnter=true:=by
 unfold Program.mayEnter;rw[hR];dsimp only;rw[Uw,h1,h2,h3]
 kernel_rfl
theorem Nm {P:Zp}{R:List (List Char)}(hR:YK (YW P.initOrder.toList)= "cut".toList::R):P.headLifts=[]:=by
 unfold Program.headLifts;rw[hR,Uw];dsimp only;split<;>rfl
theorem Tm {P:Zp}{R:List (List Char)}(hR:YK (YW P.initOrder.toList)= "cut".toList::R):P.liftsFinal=false:=by
 unfold Program.liftsFinal;rw[hR,Nm hR]
 kernel_rfl
theorem sF {P:Zp}{R:List (List Char)}(hR:YK (YW P.initOrder.toList)= "cut".toList::R):P.make=some .cut:=by
 unfold Program.make;rw[hR]
 kernel_rfl
theorem jH:Tryz.prog.mayEnter=true:=by
 obtain⟨R,hR⟩:=Nl;exact aK hR dK Tl jG
theorem aL:Tryz.prog.liftsFinal=false:=by
 obtain⟨R,hR⟩:=Nl;exact Tm hR
theorem afM:Tryz.prog.make=some .cut:=by
 obtain⟨R,hR⟩:=Nl;exact sF hR
theorem jI {P:Zp}{l:List Char}{s:Bool×List Char}(h0:P.initOrder=String.ofList l)(h:(match YW l with
 |h::s::_=>if !isSumSigns s then none else if h== "harness".toList then some (true,s) else if h== "ownmain".toList then some (false,s) else none
 |_=>none)=some s):P.mainIs=some s:=by
 unfold Program.mainIs;rw[h0,String.toList_ofList];exact h
theorem sG:Tryz.prog.mainIs=some (true,"d58ada5a772cea19d6c1f322b38be8e13f90afce78f95e9e644b853f050ce369".toList):=by
 obtain⟨l,h0,_,h⟩:=io_;exact jI h0 h
theorem dL:mapsRowed Zd=true:=by kernel_rfl
theorem aa7:(Tryz.prog.stops==[])=true:=by kernel_rfl
theorem aa8:(Tryz.prog.stopKnobs==[])=true:=by kernel_rfl
theorem dM:Tryz.prog.plainKeys=false:=by kernel_rfl
theorem aM:Tryz.prog.stopsHeard=true:=by kernel_rfl
theorem oe:Tryz.prog.laidByTextLater PM [.handle] true:=
 Program.laidByTextLater_by_one 16 8 2 (by kernel_rfl) (by kernel_rfl) (by kernel_rfl) (by kernel_rfl) (by kernel_rfl) (by kernel_rfl) (fun _ _=>by kernel_rfl)
theorem aa9:Tryz.prog.headLifts.contains "ownunsafe" =false:=by
 obtain⟨R,hR⟩:=Nl;rw[Nm hR]
 rfl
theorem aab:true=Tryz.prog.looks []:=by kernel_rfl
set_option maxRecDepth 100000
theorem jJ {f:YT}{fn:Func}{s:ChangeSpec}{c:OpenClaim}(a1:(c.wf (OpenSpec.ofChange s))=true)(a4:fn.params.all (Tryz.prog.readableRec ·)=true)(a5:namedTie Zd c.named s.vars=true)(a6:(c.stops==[])=true)(a8:(c.knobs==[])=true)
  (b1:(c.inPlace==Tryz.prog.inPlace f)=true) (b2:(c.unfollowed==Tryz.prog.unfollowed f)=true) (b3:(c.recurses==Tryz.prog.recurses f)=true) (b4:(c.named==Tryz.prog.varsNamed f)=true)
  (c1:(c.maps==(fn.params.toList++s.plain.varTypes Zd).any (Tryz.prog.mapsRec ·))=true) (c2:(c.ifaces==(fn.params.toList++s.plain.varTypes Zd).any (Tryz.prog.ifacesRec ·))=true) (c3:(c.mapsOut==Tryz.prog.mapsAmong fn.resultTypes.toList)=true)
  (c4:(c.loops==(fn.params.toList++s.plain.varTypes Zd).any (Tryz.prog.loopsFrom ·))=true) (c5:(c.wideKeys==(fn.params.toList++s.plain.varTypes Zd++fn.resultTypes.toList).any (Tryz.prog.wideKeysFrom ·))=true)
  (d1:s.vars.all (Tryz.prog.varReadable ·)=true) (d2:fn.resultTypes.all (fun t=>Tryz.prog.readableRec t&&decide (t<Tryz.prog.types.size))=true) (d3:(c.ifacesOut==fn.resultTypes.toList.any (Tryz.prog.ifacesRec ·))=true) (d4:(c.loopsOut==fn.resultTypes.toList.any (Tryz.prog.loopsFrom ·))=true)
  (e1:c.plainKeys=false) (e2:c.shortTexts.isNone=true) (e3:c.lifted=false) (e4:c.make=.cut)
  (e5:c.kinds=[]) (e5d:c.domain.isEmpty=true) (e6:(c.pinned==c.pinnedBy)=true)
  (e7:(c.veiled==(fn.params.toList++s.plain.varTypes Zd++fn.resultTypes.toList).any (Tryz.prog.veiledRec ·))=true) (e8:c.veiledFits Zd fn.params.toList (fn.params.toList++s.plain.varTypes Zd++fn.resultTypes.toList)=true):
  joinedFacts Zd f fn s c=true:=by
 unfold joinedFacts;rw[a1,laidOut,dL,a4,a5,a6,aa7,a8,aa8,b1,b2,b3,b4,c1,c2,c3,c4,c5,d1,d2,d3,d4,dM,e1,e2,aM,jH,aL,e3,afM,e4,e5,e5d,if_pos rfl,e6,e7,e8]
 rfl
end Go.Proofs.Fit
