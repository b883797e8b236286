/- Part of a proof. -/
import Derived.Test.YtbhpocnedbajlaaGreatDoorQ07
import Derived.Test.YtbhpocnedbajlaaGreatDoorQ06b
import Derived.Conc.LeavingOf
import Derived.Test.YtbhpocnedbajlaaGreatDoorCards
import Derived.SevenTiedAt
import Derived.LaidSub
import Derived.LaidOnce
set_option maxRecDepth 100000
set_option maxHeartbeats 6400000
noncomputable section
set_option linter.all false
open Array renaming getElem?_eq_some_iff->Za
open Bool renaming and_eq_true->ZF
open Go renaming World->Zb,TypeId->Zs,Value->Zf,Program->Zo,typeHandle->ZdV,FuncId->ZaQ,behindMainWord->YY,wordsSigns->Zag
open Go.Addr renaming add->Zcu
open Go.DataW renaming TrodAll->Za9,weightsEach->Zca
open Go.Frame renaming enter->Zq
open Go.OpenSpec renaming ofChange->ZbV
open Go.Proofs.Tryz renaming prog->Zc
open Go.RowKit renaming Below->YH
open Go.Value renaming okWide->Zbk
open Go.World renaming cell?->zy,block_lt_of_cell?->ZH,shape?->Yn
open List renaming getElem?_append_left->zl,getElem?_eq_some_iff->Zm,length_append->ZA,length_cons->zb,length_nil->zR,getElem?_concat_length->Y1,getElem?_eq_getElem->zf,range->Yr,mem_singleton->Yh,mem_cons_self->zC,mem_cons_of_mem->zm,append_nil->ZaA,all_eq_true->Zdm
open Nat renaming le_refl->Zj,zero_le->Zp
open Option renaming bind_eq_some_iff->ZX,map_eq_some_iff->zc
open Option.some renaming inj->ZW
open String renaming ofList->ZcN,toList_ofList->Zdv
namespace Go.Proofs.Fit
open Go Go.RowKit
def uE {α:Type}{n:Nat}{Q:Nat->α->Prop}(h:∀i,i<n->∃x,Q i x):∃l:List α,l.length=n/\∀i x,l[i]?=some x->Q i x:=by
 induction n with
 |zero=>exact⟨[],rfl,fun i x hx=>by cases hx⟩
 |succ n ih=>
  obtain⟨l,hl,hq⟩:=ih fun i hi=>h i (Nat.lt_succ_of_lt hi);obtain⟨x,hx⟩:=h n (Nat.lt_succ_self n);refine⟨l++ [x],by simp[hl],fun i y hy=>?_⟩;by_cases hi:i<n
  .rw[zl o!]at hy
   exact hq i y hy
  have Az:=(Zm.1 hy).1;simp only[ZA,zb,zR]at Az;obtain rfl:i=n:=o!
  subst hl;rw[Y1]at hy;cases hy;exact hx
def Lv (w:Zb)(b:Nat):Prop:=b<w.heap.size
section
variable {H:Type}{enc:Zs×Zf->H}{P:Zo}{w:Zb}{base:Nat}{spare:Nat->Bool}{held:Bool}{α:Type}
def Reads (enc:Zs×Zf->H)(P:Zo)(w:Zb)(base:Nat)(spare:Nat->Bool)(held:Bool)(t:Zs)(R:Zb->List Zf->α->Prop):Prop:=
 ∀n cs y,DataW.trod enc P w base spare held n t cs=some y->∃x,R w cs x
def addr_add {b o j:Nat}:(⟨b,o,none⟩:Addr).add j=⟨b,o+j,none⟩:=by unfold Zcu;split<;>simp_all
variable {a:Addr}
variable {k:Nat}
def bR {base:Nat}{ds:List Zf}(h:w.cells? base a k=some ds):ds.length=k/\∀j u,ds[j]?=some u->w.cell? (a.add j)=some u:=by
 unfold World.cells? at h;split at h
 .have h4:=mapM_some_length h
  rw[List.length_range]at h4;refine⟨h4,fun j u hu=>?_⟩;have hj:=(Zm.1 hu).1;have:=mapM_some_get h j j (by rw[List.getElem?_range o!]);rw[this,hu]
 cases h
variable {v:Zf}
def kI (h:w.cell? a=some v):a.spot=none:=by
 unfold zy at h;split at h
 .split at h
  .cases h
  next hs=>simpa using hs
 cases h
variable {t e:Zs}
def bW {R:Zb->List Zf->α->Prop}(ht:P.underlying t=some (.slice e))(hk:P.cellsOf e=k)(hp:0<k)(h:Reads enc P w base spare held e R):
  Reads enc P w base spare held t (fun w cs (l:List α)=>∃v,cs=[v]/\Sl (Lv w) R k w v l):=by
 intro n cs y hy;rcases DataW.trod_slice ht hy with⟨rfl,_⟩|⟨a,len,cap,elems,rest,n',_,rfl,_,_,hl,hm,hlen,hel,_⟩
 .exact⟨[],_,rfl,none,0,rfl,Zj _,Zp _,fun i x hx=>by cases hx⟩
 have ahq:∀i,i<len->∃ds y,w.cells? base (a.add (i*k)) k=some ds/\DataW.trod enc P w base spare held n' e ds=some y:=fun i hi=>by
  have h1:=hel i hi;rw[hk,zf (show i<elems.length by omega)]at h1;obtain⟨ds,h2,h3⟩:=ZX.1 h1;exact⟨ds,_,h2,h3⟩
 have Jv:0<len->a.spot=none:=fun h0=>by
  obtain⟨ds,y,h1,_⟩:=ahq 0 h0;obtain⟨h2,h3⟩:=bR h1;have:=kI (h3 0 _ (zf o!));simpa[Zcu]using this
 obtain⟨b,o,sp⟩:=a;obtain⟨l,Xc,hq⟩:=uE (n:=len) (Q:=fun i x=>∃b' o' cs,some (⟨b,o,sp⟩:Addr)=some ⟨b',o',none⟩/\Lv w b'/\cs.length=k/\(∀j u,cs[j]?=some u->w.cell? ⟨b',o'+i*k+j,none⟩=some u)/\R w cs x) fun i hi=>by
  obtain rfl:sp=none:=Jv o!;obtain⟨ds,y,h1,h2⟩:=ahq i hi;obtain⟨x,hx⟩:=h _ _ _ h2;obtain⟨h3,h4⟩:=bR h1;have h5:∀j u,ds[j]?=some u->w.cell? ⟨b,o+i*k+j,none⟩=some u:=fun j u hu=>by
   have:=h4 j u hu;rwa[addr_add,addr_add]at this
  exact⟨x,b,o,ds,rfl,ZH w _ (h5 0 _ (zf o!)),h3,h5,hx⟩
 exact⟨l,_,rfl,some ⟨b,o,sp⟩,cap,by rw[Xc],o!,hm,fun i x hx=>hq i x hx⟩
def kJ (ht:P.underlying t=some (.int .i64)):Reads enc P w base spare held t Ri:=by
 intro n cs y hy;obtain⟨x,rfl,_⟩:=DataW.trod_int ht hy;exact⟨x,rfl⟩
end
end Go.Proofs.Fit
namespace Go.Proofs.Fit
open Go Go.Conc Go.FA Go.ChangeShapes Go.WideShapes Go.RowKit
def own:ownKnob Tryz.prog.godebug=none:=k!
def laidOut:laidOutB Zc=true:=k!
def et0:Tryz.prog.globalNamed "errors.errorType" =some 0:=k!
def rt0:(Tryz.prog.cutTypes.find? (·.1== "internal/reflectlite.rtype")).map (·.2)=some 205:=k!
def ahr:Tryz.prog.types.size=253:=k!
def abz:((Yr 253).filter fun t=>Tryz.prog.rowNamed t [101,114,114,111,114])=[124]:=k!
abbrev PT:List (String×DataW Unit):=[("errors.errorType",YtbhpocnedbajlaaGreatDoor.Rows.laid_errors_errorType)]
variable {W:Zb}
def S8 (h:laidMetH Zc PT W):Jr W:=by
 have h':laidMet Zc [] W/\handlesMet Zc PT W:=h;obtain⟨name,u,ty,e1,e2,e3,e4,e5⟩:=h'.2 _ (Yh.2 rfl);have en:name=[101,114,114,111,114]:=(ZW e1).symm;subst en;obtain rfl:=ZW (rt0.symm.trans e2);have hm:ty∈(Yr 253).filter fun t=>Tryz.prog.rowNamed t [101,114,114,111,114]:=List.mem_filter.2 ⟨List.mem_range.2 (by rw[<-ahr];exact e3),e4⟩;rw[abz]at hm;obtain rfl:=Yh.1 hm;have hh:ZdV Zc 124=.pointer (some ⟨1,124,none⟩):=k!
 rw[hh]at e5;have:=World.var?_cell et0 e5 0;unfold Jr;simpa using this
def Vg (os:Os):Zb:=
 let w0:=World.holding Zc os ⟨#[],#[],[]⟩
 {w0 with heap:=w0.heap.modify 0 fun
   | .cells _ t frozen=>.cells #[.iface 205 (.agg #[.pointer (some ⟨1,124,none⟩)])] t frozen
   |o=>o}
def Ub (os:Os)(args:Array Zf):laidMetH Zc PT ((Vg os).forCall (fun _ _=>0) ⟨#[],args,[]⟩).memory:=
 laidMetH_of_parts (laidMet_nil _ _) k!
def isCells:Obj->Bool
 | .cells _ _ _=>true
 |_=>false
def bX {o:Obj}(h:isCells o=true):∃c e f,o=.cells c e f:=by
 cases o<;>first|exact⟨_,_,_,rfl⟩|cases h
def aos:((begin Zc (fun _ _=>0) default).world.heap[1]?).map isCells=some true:=k!
def xH:Tryz.prog.globals.size=1:=k!
def abA (h:W.ShapedOpen Zc):∃o,W.heap[ND.low]?=some o/\∃c e f,o=.cells c e f:=by
 rw[ic];have h0:=aos;obtain⟨o,h1,h2⟩:=zc.1 h0;obtain⟨x,y,h3,h4,h5⟩:=h.2 1 (by rw[xH];exact Zj _) (Za.1 h1).1;rw[xH,if_neg d!]at h5;exact⟨x,h3,bX (by rw[h5];rw[h1]at h4;cases h4;exact h2)⟩
def kK (h:Jr W):Jr (BD W):=by
 refine SJ h (.iface _ (VR.P6 ⟨rfl,fun i x y h1 h2=>?_⟩))
 match i,h1,h2 with
 |0,h1,h2=>
  cases h1;cases h2;exact .pointer (a:=some ⟨1,124,none⟩) (a':=some ⟨1,124,none⟩) ⟨by have:=ub W;rw[ic]at this;exact this,rfl,rfl⟩
def Mg {P:Zo}(hl:laidOutB P=true){H:Type}{enc:Zs×Zf->H}{W W':Zb}(hb:Qb6 W W'):∀ {ts:List Zs} {vs:List Zf} {ds:List (DataW H)} {ps:List MemPlace},(∀t∈ts,P.readableRec t=true/\t<P.types.size)->
  Za9 enc P W 0 (fun _=>true) true ts vs ds ps->(∀x∈ps,x.block<W.heap.size)->Za9 enc P W' 0 (fun b=>decide (b<W)) true ts vs ds ps
 | [],_,_,_,_,h,_=>by
  obtain⟨rfl,rfl,rfl⟩:=trodAll_nil h;exact trodAll_mk0
 |t::ts,_,_,_,hr,h,Az=>by
  obtain⟨v,vs1,d,ds1,a,b,rfl,rfl,rfl,h1,h2⟩:=trodAll_cons h;have tE:=hr t (zC ..);exact⟨a,b,Below.trod hl tE.1 tE.2 h1 hb fun x hx=>Az x (List.mem_append_left _ hx),Mg hl hb (fun t ht=>hr t (zm _ ht)) h2 fun x hx=>Az x (List.mem_append_right _ hx),rfl⟩
def PU {P:Zo}{H:Type}{enc:Zs×Zf->H}{W:Zb}:∀ {ts:List Zs} {vs:List Zf} {ds:List (DataW H)} {ps:List MemPlace},Za9 enc P W 0 (fun _=>true) true ts vs ds ps->ds.length=ts.length
 | [],_,_,_,h=>by
  obtain⟨rfl,rfl,rfl⟩:=trodAll_nil h
  rfl
 |_::_,_,_,_,h=>by
  obtain⟨v,vs1,d,ds1,a,b,rfl,rfl,rfl,_,h2⟩:=trodAll_cons h;simp[PU h2]
variable {f:ZaQ}
variable {s:ChangeSpec}
variable {H:Type}
def eO {fn:Func}{i:Nat}{t0:Zs}{enc:Zs×Zf->H}{os:Os}(started:os.Started)
 (hf:ND.Nc f=true) (hfL:TZ f=true) (G9:Tryz.prog.funcs[f]?=some fn) (hr:fn.results= #[.tmp i]) (mW:fn.resultTypes= #[t0]) (ht0:Tryz.prog.underlying t0=some .bool) (pC:Tryz.prog.inits.idxOf? f=none) (p_:s.vars=[])
 (WJ:fn.params.toList.all (fun t=>Tryz.prog.readableRec t&&decide (t<Tryz.prog.types.size))=true)
 (hs:∀ds:List (DataW H),ds.length=fn.params.size->s.fn H ds= {results:=[.lit (.bool true)],args:=ds})
 (witness:∃(w:Zb) (tape:Tape) (i:Input),w.os=os/\(w.forCall tape i).Shaped Zc/\i.vars=[]/\Input.okWide Zc (w.forCall tape i) .any w f i/\
 ((s.pre enc Zc fn [] false (w.forCall tape i).memory i.args/\laidMetH Zc PT (w.forCall tape i).memory)/\sizedMet enc Zc fn (ZbV s) false (w.forCall tape i).memory i.args)/\({}:Assume).holds Zc (lone (Zq Zc f i.args .normal) [] (w.forCall tape i)))
 (law:∀(W:Zb) (base:Nat) (args:Array Zf) (ds:List (DataW H)) (ps:List MemPlace),(∀(j:Nat) t v,fn.params[j]?=some t->args[j]?=some v->Zbk Zc W .any base t v)->
 Za9 enc Zc W 0 (fun _=>true) true fn.params.toList args.toList ds ps->(Zca Zc fn.params.toList ds).all (· <=reachBytes)=true->Jr (BD W)->BS (Qk W) args args/\∀t,Calls Lp f args (tp (BD W) t) (Wr (tp (BD W) t))):
  ReturnsInLeavingWide {} Tryz.checked os f .any (fun w args=>(s.pre enc Zc fn [] false w args/\laidMetH Zc PT w)/\sizedMet enc Zc fn (ZbV s) false w args)
   (s.post enc Zc fn false true false false):=by
 refine returnsInLeavingWide_of_good (C:=Tryz.checked) own started witness ?_;intro w tape i _ yX _ Jw aot _;obtain⟨_,_,_,Qt,ui,_,_,_,D',hval⟩:=Jw;have e:Qt=fn:=ZW (ui.symm.trans G9);subst e;obtain⟨⟨⟨ds,gs,before,hw,_⟩,hl⟩,hz⟩:=aot;have rL:=DataW.Whole.of_heap (w':=w.forCall tape i) (by rfl) hw;have hz':=hz.weights hw;have hG:Jr (w.forCall tape i):=S8 (hl.of_heap (by rfl));have hval:∀(j:Nat) t v,Qt.params[j]?=some t->i.args[j]?=some v->Zbk Zc (w.forCall tape i) .any w t v:=hval;generalize w.forCall tape i=W at*;have nj:=rL;obtain⟨p,q,hA,hV,rfl,_,_⟩:=rL;rw[p_]at hV;obtain⟨rfl,rfl⟩:=trodVars_none hV;have hlen:ds.length=Qt.params.size:=PU hA;have Jc:=abA yX;have hg0:∃c e f,W.heap[0]?=some (.cells c e f):=by
  obtain⟨c,e,f,h⟩:=Sp hG;exact⟨c,e,f,h⟩
 have kL:(Zca Zc Qt.params.toList ds).all (· <=reachBytes)=true:=by
  have aov:(Zca Zc (Qt.params.toList++s.plain.varTypes Zc) (ds++ [])).all (· <=reachBytes)=true:=hz';rwa[ZaA,show s.plain.varTypes Zc=[] from by unfold DataSpec.varTypes;rw[show s.plain.vars=[] from p_];rfl,ZaA]at aov
 have ahs:∀t∈Qt.params.toList,Tryz.prog.readableRec t=true/\t<Tryz.prog.types.size:=fun t ht=>by
  have:=Zdm.1 WJ t ht;rw[ZF]at this;exact⟨this.1,of_decide_eq_true this.2⟩
 obtain⟨ie,hc⟩:=law W w i.args ds p hval hA kL (kK hG);obtain⟨M,last,o,w',t',h1,h2,h3,h4⟩:=uh hf hfL G9 hr pC Jc hg0 ie hc;have Az:∀x∈p,x.block<W.heap.size:=fun x hx=>nj.lt x (by simpa using hx);refine⟨M,last,o,w',t',h1,h2,h3,h4.mono fun v hp=>?_⟩;obtain⟨rfl,hb⟩:=hp;have DX:s.fn H (ds++ [])= {results:=[.lit (.bool true)],args:=ds}:=by rw[ZaA];exact hs ds hlen
 refine ChangeSpec.post_blind ⟨ds,[],_,[],p,[],nj,?_,?_,?_,hb.frame _,fun h=>h!⟩
 .rw[DX,mW]
  exact trodAll_mk1 (shut_bool ht0 true)
 .rw[DX]
  exact Mg laidOut hb ahs hA Az
 rw[DX,p_];rfl
variable {t e:Zs}
variable {v:Zf}
def qa {base:Nat}(ht:Tryz.prog.underlying t=some (.slice e))(h:Zbk Zc W .any base t v):VR (Qk W) v v:=by
 obtain⟨a,n,c,rfl⟩:=okWide_slice ht h;cases a with
 |none=>exact .slice (a:=none) n c trivial
 |some a=>
  simp only[Zbk,ht,Cell.okWide,Cell.ok]at h;obtain⟨_,_,_,h1,row,cells,h2,_⟩:=h;unfold Yn at h2;split at h2
  .next hb=>exact .slice n c ⟨pA hb,rfl,rfl⟩
  cases h2
def SI.left {l:List Int}(h:SI (Lv W) W v l)(t:Tape):SI (fun x=>x<(tp (BD W) t).heap.size) (tp (BD W) t) v l:=by
 obtain⟨a,c,h1,h2,h3,h4⟩:=h;refine⟨a,c,h1,h2,h3,fun i x hx=>?_⟩;obtain⟨b,o,cs,g1,g2,g3,g4,g5⟩:=h4 i x hx;unfold Ri at g5;subst g5;refine⟨b,o,_,g1,?_,g3,fun j u hu=>?_,rfl⟩
 .show b<(BD W).heap.size
  rw[ej];exact g2
 have:=SJ (g4 j u hu) (by
  match j,hu with
  |0,hu=>cases hu;exact .int _ _)
 exact this
variable {ps:List MemPlace}
def uF {enc:Zs×Zf->H}{d:DataW H}(ht:Tryz.prog.underlying t=some (.slice 3))(hv:v.cells= #[v])(h:DataW.Trod enc Zc W 0 (fun _=>true) true t v d ps):∃l,SI (Lv W) W v l:=by
 obtain⟨n,hf⟩:=h;obtain⟨l,u,e,hl⟩:=bW ht (k:=1) k! d! (kJ k!) n _ _ hf;rw[hv]at e;cases e;exact⟨l,hl⟩
def uG {ρ:Ren}(h:VR ρ v v):BS ρ #[v] #[v]:=⟨rfl,fun i x y h1 h2=>by
 match i,h1,h2 with
 |0,h1,h2=>cases h1;cases h2;exact h⟩
def qc {fn:Func}{base:Nat}{args:Array Zf}{enc:Zs×Zf->H}{ds:List (DataW H)}(hp:fn.params= #[22])
 (hval:∀(j:Nat) t v,fn.params[j]?=some t->args[j]?=some v->Zbk Zc W .any base t v) (hA:Za9 enc Zc W 0 (fun _=>true) true fn.params.toList args.toList ds ps) (hG:Jr (BD W))
 (law:∀(w:Zb) (v:Zf) (nums:List Int),SI (fun x=>x<w.heap.size) w v nums->Jr w->Calls Lp f #[v] w (Two w (.bool true))):
  BS (Qk W) args args/\∀t,Calls Lp f args (tp (BD W) t) (Wr (tp (BD W) t)):=by
 rw[hp]at hval hA;obtain⟨v,d,rfl,rfl,h0⟩:=trodAll_one hA;have yE:Tryz.prog.underlying 22=some (.slice 3):=k!
 have ok:=hval 0 22 v rfl rfl;have rU:=qa yE ok;obtain⟨a,n,c,rfl⟩:=okWide_slice yE ok;obtain⟨l,hl⟩:=uF yE rfl h0;exact⟨uG rU,fun t=>(law _ _ _ (hl.left t) hG).mono fun e w' h=>h⟩
end Go.Proofs.Fit
namespace Go.Proofs.Fit
open Go Go.RowKit
variable {c:OpenClaim}
def kM {p:Pinned}{s:OpenSpec}(kinds:List LaidKind)(vQ:Bool×String)(hc:c.holds p s)(hw:c.wfByText s=true)(aow:c.laidByTextAt .later p kinds true)
 (B_:c.start=.entering) (hnb:c.noBlocks=false/\c.again=false) (hm:p.checked.prog.mainIs=some (vQ.1,vQ.2.toList))
 (hl:∀f fn,p.checked.prog.funcNamed c.func=some f->p.checked.prog.funcs[f]?=some fn->true=p.checked.prog.looks []/\∀(j:Nat) t,fn.params[j]?=some t->p.checked.prog.wantsStandIn t=false)
 (hg:true=c.goesBy p.checked.prog):
  Claim7.holds p (.plain s) {stood:= {row:=c,standIns:=[],harness:=vQ,looks:=true},kinds:=[],alts:=[],goes:=true,laidByText:=true,laidKinds:=kinds,laidTests:=true,laidLooks:=.later}:=by
 have h6:Claim7.isSixth {stood:= {row:=c,standIns:=[],harness:=vQ,looks:=true},kinds:=[]}=false:=by simp[Claim7.isSixth]
 exact⟨Claim7.tied_new_at .later kinds true (Claim7.new_of_sixth hc vQ true B_ hnb hm h6 hl) hw,fun D hD=>(by cases hD),aow,(fun h=>h!),hg⟩
set_option maxRecDepth 100000
def io_:∃l,Tryz.prog.initOrder=ZcN l/\(YY (Zag l)).head?=some "cut".toList/\(match Zag l with
 |h::s::_=>if !isSumSigns s then none else if h== "harness".toList then some (true,s) else if h== "ownmain".toList then some (false,s) else none
 |_=>none)=some (true,"daf1fffbe909b58b3bc96c1e7b2812a59cb8545c37cdf1cf7a3b0b79339050e3".toList):=⟨_,rfl,k!,k!⟩
variable {P:Zo}
variable {l:List Char}
def bY (h0:P.initOrder=ZcN l)(h:(YY (Zag l)).head?=some "cut".toList):∃R,YY (Zag P.initOrder.toList)= "cut".toList::R:=by
 rw[h0,Zdv];cases e:YY (Zag l) with
 |nil=>rw[e]at h;cases h
 |cons a r=>rw[e]at h;exact⟨r,by rw[show a= "cut".toList from ZW h]⟩
def Ob:∃R,YY (Zag Tryz.prog.initOrder.toList)= "cut".toList::R:=by
 obtain⟨l,h0,h,_⟩:=io_;exact bY h0 h
def Vh (R:List (List Char)):stripLifts liftWords ("cut".toList::R)=([],"cut".toList::R):=k!
def eP:Tryz.prog.laysLater=false:=k!
def Uc:Tryz.prog.bearsReflect=false:=k!
def kN:Tryz.prog.doorFits []=true:=k!
variable {R:List (List Char)}
def bZ (hR:YY (Zag P.initOrder.toList)= "cut".toList::R)(h1:P.laysLater=false)(h2:P.bearsReflect=false)(h3:P.doorFits []=true):P.mayEnter=true:=by
 unfold Program.mayEnter;rw[hR];dsimp only;rw[Vh,h1,h2,h3]
 kernel_rfl
def Oc (hR:YY (Zag P.initOrder.toList)= "cut".toList::R):P.headLifts=[]:=by
 unfold Program.headLifts;rw[hR,Vh];dsimp only;split<;>rfl
def Ud (hR:YY (Zag P.initOrder.toList)= "cut".toList::R):P.liftsFinal=false:=by
 unfold Program.liftsFinal;rw[hR,Oc hR]
 kernel_rfl
def uH (hR:YY (Zag P.initOrder.toList)= "cut".toList::R):P.make=some .cut:=by
 unfold Program.make;rw[hR]
 kernel_rfl
def kO:Tryz.prog.mayEnter=true:=by
 obtain⟨R,hR⟩:=Ob;exact bZ hR eP Uc kN
def b_:Tryz.prog.liftsFinal=false:=by
 obtain⟨R,hR⟩:=Ob;exact Ud hR
def aht:Tryz.prog.make=some .cut:=by
 obtain⟨R,hR⟩:=Ob;exact uH hR
def kP {s:Bool×List Char}(h0:P.initOrder=ZcN l)(h:(match Zag l with
 |h::s::_=>if !isSumSigns s then none else if h== "harness".toList then some (true,s) else if h== "ownmain".toList then some (false,s) else none
 |_=>none)=some s):P.mainIs=some s:=by
 unfold Program.mainIs;rw[h0,Zdv];exact h
def uI:Tryz.prog.mainIs=some (true,"daf1fffbe909b58b3bc96c1e7b2812a59cb8545c37cdf1cf7a3b0b79339050e3".toList):=by
 obtain⟨l,h0,_,h⟩:=io_;exact kP h0 h
def eQ:mapsRowed Zc=true:=k!
def abB:(Tryz.prog.stops==[])=true:=k!
def abC:(Tryz.prog.stopKnobs==[])=true:=k!
def eR:Tryz.prog.plainKeys=false:=k!
def cg:Tryz.prog.stopsHeard=true:=k!
def qd:Tryz.prog.laidByTextLater PT [.handle] true:=
 Program.laidByTextLater_by_one 16 8 2 k! k! k! k! k! k! (fun _ _=>k!)
def abD:Tryz.prog.headLifts.contains "ownunsafe" =false:=by
 obtain⟨R,hR⟩:=Ob;rw[Oc hR]
 rfl
def abE:true=Tryz.prog.looks []:=k!
set_option maxRecDepth 100000
variable {f:ZaQ}
variable {s:ChangeSpec}
def kQ {fn:Func}(a1:(c.wf (ZbV s))=true)(a4:fn.params.all (Tryz.prog.readableRec ·)=true)(a5:namedTie Zc c.named s.vars=true)(a6:(c.stops==[])=true)(a8:(c.knobs==[])=true)
 (b1:(c.inPlace==Tryz.prog.inPlace f)=true) (b2:(c.unfollowed==Tryz.prog.unfollowed f)=true) (b3:(c.recurses==Tryz.prog.recurses f)=true) (b4:(c.named==Tryz.prog.varsNamed f)=true)
 (c1:(c.maps==(fn.params.toList++s.plain.varTypes Zc).any (Tryz.prog.mapsRec ·))=true) (c2:(c.ifaces==(fn.params.toList++s.plain.varTypes Zc).any (Tryz.prog.ifacesRec ·))=true) (c3:(c.mapsOut==Tryz.prog.mapsAmong fn.resultTypes.toList)=true)
 (c4:(c.loops==(fn.params.toList++s.plain.varTypes Zc).any (Tryz.prog.loopsFrom ·))=true) (c5:(c.wideKeys==(fn.params.toList++s.plain.varTypes Zc++fn.resultTypes.toList).any (Tryz.prog.wideKeysFrom ·))=true)
 (d1:s.vars.all (Tryz.prog.varReadable ·)=true) (d2:fn.resultTypes.all (fun t=>Tryz.prog.readableRec t&&decide (t<Tryz.prog.types.size))=true) (d3:(c.ifacesOut==fn.resultTypes.toList.any (Tryz.prog.ifacesRec ·))=true) (d4:(c.loopsOut==fn.resultTypes.toList.any (Tryz.prog.loopsFrom ·))=true)
 (e1:c.plainKeys=false) (e2:c.shortTexts.isNone=true) (e3:c.lifted=false) (e4:c.make=.cut)
 (e5:c.kinds=[]) (e5d:c.domain.isEmpty=true) (e6:(c.pinned==c.pinnedBy)=true)
 (e7:(c.veiled==(fn.params.toList++s.plain.varTypes Zc++fn.resultTypes.toList).any (Tryz.prog.veiledRec ·))=true) (e8:c.veiledFits Zc fn.params.toList (fn.params.toList++s.plain.varTypes Zc++fn.resultTypes.toList)=true):
  joinedFacts Zc f fn s c=true:=by
 unfold joinedFacts;rw[a1,laidOut,eQ,a4,a5,a6,abB,a8,abC,b1,b2,b3,b4,c1,c2,c3,c4,c5,d1,d2,d3,d4,eR,e1,e2,cg,kO,b_,e3,aht,e4,e5,e5d,if_pos rfl,e6,e7,e8]
 rfl
end Go.Proofs.Fit
