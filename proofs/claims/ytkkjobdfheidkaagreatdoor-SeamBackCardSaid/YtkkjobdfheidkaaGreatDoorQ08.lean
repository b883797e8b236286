/- Part of a proof. -/
import Derived.Test.YtkkjobdfheidkaaGreatDoorQ07
import Derived.Test.YtkkjobdfheidkaaGreatDoorQ06
import Derived.Conc.LeavingOf
import Derived.Test.YtkkjobdfheidkaaGreatDoorCards
import Derived.SevenTiedAt
import Derived.LaidSub
import Derived.LaidOnce
set_option maxRecDepth 100000
set_option maxHeartbeats 6400000
noncomputable section
set_option linter.all false
open Array renaming getElem?_eq_some_iff->Za
open Bool renaming and_eq_true->ZI
open Go renaming World->Zc,TypeId->Zr,Value->Ze,Program->Zp,laidMetH->ZbZ,typeHandle->ZdT,FuncId->ZaV,behindMainWord->Y7,wordsSigns->Zaj
open Go.Addr renaming add->Zcz
open Go.DataW renaming TrodAll->Zbh,weightsEach->Zcf
open Go.Frame renaming enter->Zq
open Go.OpenSpec renaming ofChange->Zav
open Go.Proofs.Tryz renaming prog->Zd
open Go.RowKit renaming Below->YS
open Go.Value renaming okWide->Zbs
open Go.World renaming cell?->zG,block_lt_of_cell?->Zy,shape?->Yx
open List renaming getElem?_append_left->Z4,getElem?_eq_some_iff->Zl,length_append->ZF,length_cons->zp,length_nil->Yt,getElem?_concat_length->Zd9,getElem?_eq_getElem->ZE,range->ZL,mem_singleton->YB,mem_cons_self->zo,mem_cons_of_mem->Z9,append_nil->Zap,all_eq_true->zt
open Nat renaming le_refl->Zj,zero_le->Zn
open Option renaming bind_eq_some_iff->Z6,map_eq_some_iff->zf
open Option.some renaming inj->ZK
open String renaming ofList->ZcO,toList_ofList->Zdv
namespace Go.Proofs.Fit
open Go Go.RowKit
def xA {α:Type}{n:Nat}{Q:Nat->α->Prop}(h:∀i,i<n->∃x,Q i x):∃l:List α,l.length=n/\∀i x,l[i]?=some x->Q i x:=by
 induction n with
 |zero=>exact⟨[],rfl,fun i x hx=>by cases hx⟩
 |succ n ih=>
  obtain⟨l,hl,hq⟩:=ih fun i hi=>h i (Nat.lt_succ_of_lt hi);obtain⟨x,hx⟩:=h n (Nat.lt_succ_self n);refine⟨l++ [x],by simp[hl],fun i y hy=>?_⟩;by_cases hi:i<n
  .rw[Z4 (by omega)]at hy
   exact hq i y hy
  .have AA:=(Zl.1 hy).1
   simp only[ZF,zp,Yt]at AA;obtain rfl:i=n:=by omega
   subst hl;rw[Zd9]at hy;cases hy;exact hx
def Lv (w:Zc)(b:Nat):Prop:=b<w.heap.size
section
variable {H:Type}{enc:Zr×Ze->H}{P:Zp}{w:Zc}{base:Nat}{spare:Nat->Bool}{held:Bool}{α:Type}
def Reads (enc:Zr×Ze->H)(P:Zp)(w:Zc)(base:Nat)(spare:Nat->Bool)(held:Bool)(t:Zr)(R:Zc->List Ze->α->Prop):Prop:=
 ∀n cs y,DataW.trod enc P w base spare held n t cs=some y->∃x,R w cs x
def addr_add {b o j:Nat}:(⟨b,o,none⟩:Addr).add j=⟨b,o+j,none⟩:=by unfold Zcz;split<;>simp_all
variable {a:Addr}
variable {k:Nat}
def dB {base:Nat}{ds:List Ze}(h:w.cells? base a k=some ds):ds.length=k/\∀j u,ds[j]?=some u->w.cell? (a.add j)=some u:=by
 unfold World.cells? at h;split at h
 .have h4:=mapM_some_length h
  rw[List.length_range]at h4;refine⟨h4,fun j u hu=>?_⟩;have hj:=(Zl.1 hu).1;have:=mapM_some_get h j j (by rw[List.getElem?_range (by omega)]);rw[this,hu]
 .cases h
variable {v:Ze}
def nU (h:w.cell? a=some v):a.spot=none:=by
 unfold zG at h;split at h
 .split at h
  .cases h
  .next hs=>simpa using hs
 .cases h
variable {t e:Zr}
def dC {R:Zc->List Ze->α->Prop}(ht:P.underlying t=some (.slice e))(hk:P.cellsOf e=k)(hp:0<k)(h:Reads enc P w base spare held e R):
  Reads enc P w base spare held t (fun w cs (l:List α)=>∃v,cs=[v]/\Sl (Lv w) R k w v l):=by
 intro n cs y hy;rcases DataW.trod_slice ht hy with⟨rfl,_⟩|⟨a,len,cap,elems,rest,n',_,rfl,_,_,hl,hm,hlen,hel,_⟩
 .exact⟨[],_,rfl,none,0,rfl,Zj _,Zn _,fun i x hx=>by cases hx⟩
 have ajv:∀i,i<len->∃ds y,w.cells? base (a.add (i*k)) k=some ds/\DataW.trod enc P w base spare held n' e ds=some y:=fun i hi=>by
  have h1:=hel i hi;rw[hk,ZE (show i<elems.length by omega)]at h1;obtain⟨ds,h2,h3⟩:=Z6.1 h1;exact⟨ds,_,h2,h3⟩
 have KE:0<len->a.spot=none:=fun h0=>by
  obtain⟨ds,y,h1,_⟩:=ajv 0 h0;obtain⟨h2,h3⟩:=dB h1;have:=nU (h3 0 _ (ZE (by omega)));simpa[Zcz]using this
 obtain⟨b,o,sp⟩:=a;obtain⟨l,Rx,hq⟩:=xA (n:=len) (Q:=fun i x=>∃b' o' cs,some (⟨b,o,sp⟩:Addr)=some ⟨b',o',none⟩/\Lv w b'/\cs.length=k/\(∀j u,cs[j]?=some u->w.cell? ⟨b',o'+i*k+j,none⟩=some u)/\R w cs x) fun i hi=>by
  obtain rfl:sp=none:=KE (by omega);obtain⟨ds,y,h1,h2⟩:=ajv i hi;obtain⟨x,hx⟩:=h _ _ _ h2;obtain⟨h3,h4⟩:=dB h1;have h5:∀j u,ds[j]?=some u->w.cell? ⟨b,o+i*k+j,none⟩=some u:=fun j u hu=>by
   have:=h4 j u hu;rwa[addr_add,addr_add]at this
  exact⟨x,b,o,ds,rfl,Zy w _ (h5 0 _ (ZE (by omega))),h3,h5,hx⟩
 exact⟨l,_,rfl,some ⟨b,o,sp⟩,cap,by rw[Rx],by omega,hm,fun i x hx=>hq i x hx⟩
def nV (ht:P.underlying t=some (.int .i64)):Reads enc P w base spare held t Ri:=by
 intro n cs y hy;obtain⟨x,rfl,_⟩:=DataW.trod_int ht hy;exact⟨x,rfl⟩
end
end Go.Proofs.Fit
namespace Go.Proofs.Fit
open Go Go.Conc Go.FO Go.ChangeShapes Go.WideShapes Go.RowKit
def own:ownKnob Tryz.prog.godebug=none:=by kernel_rfl
def laidOut:laidOutB Zd=true:=by kernel_rfl
def et0:Tryz.prog.globalNamed "errors.errorType" =some 0:=by kernel_rfl
def rt0:(Tryz.prog.cutTypes.find? (·.1== "internal/reflectlite.rtype")).map (·.2)=some 220:=by kernel_rfl
def ajw:Tryz.prog.types.size=283:=by kernel_rfl
def adK:((ZL 283).filter fun t=>Tryz.prog.rowNamed t [101,114,114,111,114])=[117]:=by kernel_rfl
abbrev KA:List (String×DataW Unit):=[("errors.errorType",YtkkjobdfheidkaaGreatDoor.Rows.laid_errors_errorType)]
variable {W:Zc}
def T2 (h:ZbZ Zd KA W):Iv W:=by
 have h':laidMet Zd [] W/\handlesMet Zd KA W:=h;obtain⟨name,u,ty,e1,e2,e3,e4,e5⟩:=h'.2 _ (YB.2 rfl);have en:name=[101,114,114,111,114]:=(ZK e1).symm;subst en;obtain rfl:=ZK (rt0.symm.trans e2);have hm:ty∈(ZL 283).filter fun t=>Tryz.prog.rowNamed t [101,114,114,111,114]:=List.mem_filter.2 ⟨List.mem_range.2 (by rw[<-ajw];exact e3),e4⟩;rw[adK]at hm;obtain rfl:=YB.1 hm;have hh:ZdT Zd 117=.pointer (some ⟨1,117,none⟩):=by kernel_rfl
 rw[hh]at e5;have:=World.var?_cell et0 e5 0;unfold Iv;simpa using this
def Mi (os:Os):Zc:=
 let w0:=World.holding Zd os ⟨#[],#[],[]⟩
 {w0 with heap:=w0.heap.modify 0 fun
   | .cells _ t frozen=>.cells #[.iface 220 (.agg #[.pointer (some ⟨1,117,none⟩)])] t frozen
   |o=>o}
def Ja (os:Os)(args:Array Ze):ZbZ Zd KA ((Mi os).forCall (fun _ _=>0) ⟨#[],args,[]⟩).memory:=
 laidMetH_of_parts (laidMet_nil _ _) (by kernel_rfl)
def isCells:Obj->Bool
 | .cells _ _ _=>true
 |_=>false
def dD {o:Obj}(h:isCells o=true):∃c e f,o=.cells c e f:=by
 cases o<;>first|exact⟨_,_,_,rfl⟩|cases h
def aqJ:((begin Zd (fun _ _=>0) default).world.heap[1]?).map isCells=some true:=by kernel_rfl
def ab0:Tryz.prog.globals.size=1:=by kernel_rfl
def adL (h:W.ShapedOpen Zd):∃o,W.heap[Oh.low]?=some o/\∃c e f,o=.cells c e f:=by
 rw[kE];have h0:=aqJ;obtain⟨o,h1,h2⟩:=zf.1 h0;obtain⟨x,y,h3,h4,h5⟩:=h.2 1 (by rw[ab0];exact Zj _) (Za.1 h1).1;rw[ab0,if_neg (by decide)]at h5;exact⟨x,h3,dD (by rw[h5];rw[h1]at h4;cases h4;exact h2)⟩
def nW (h:Iv W):Iv (BK W):=by
 refine TE h (.iface _ (VR.QW ⟨rfl,fun i x y h1 h2=>?_⟩))
 match i,h1,h2 with
 |0,h1,h2=>
  cases h1;cases h2;exact .pointer (a:=some ⟨1,117,none⟩) (a':=some ⟨1,117,none⟩) ⟨by have:=wY W;rw[kE]at this;exact this,rfl,rfl⟩
def ML {P:Zp}(hl:laidOutB P=true){H:Type}{enc:Zr×Ze->H}{W W':Zc}(hb:YS W.heap.size W W'):∀ {ts:List Zr} {vs:List Ze} {ds:List (DataW H)} {ps:List MemPlace},(∀t∈ts,P.readableRec t=true/\t<P.types.size)->
  Zbh enc P W 0 (fun _=>true) true ts vs ds ps->(∀x∈ps,x.block<W.heap.size)->Zbh enc P W' 0 (fun b=>decide (b<W.heap.size)) true ts vs ds ps
 | [],_,_,_,_,h,_=>by
  obtain⟨rfl,rfl,rfl⟩:=trodAll_nil h;exact trodAll_mk0
 |t::ts,_,_,_,hr,h,AA=>by
  obtain⟨v,vs1,d,ds1,a,b,rfl,rfl,rfl,h1,h2⟩:=trodAll_cons h;have wC:=hr t (zo ..);exact⟨a,b,Below.trod hl wC.1 wC.2 h1 hb fun x hx=>AA x (List.mem_append_left _ hx),ML hl hb (fun t ht=>hr t (Z9 _ ht)) h2 fun x hx=>AA x (List.mem_append_right _ hx),rfl⟩
def QL {P:Zp}{H:Type}{enc:Zr×Ze->H}{W:Zc}:∀ {ts:List Zr} {vs:List Ze} {ds:List (DataW H)} {ps:List MemPlace},Zbh enc P W 0 (fun _=>true) true ts vs ds ps->ds.length=ts.length
 | [],_,_,_,h=>by
  obtain⟨rfl,rfl,rfl⟩:=trodAll_nil h
  rfl
 |_::_,_,_,_,h=>by
  obtain⟨v,vs1,d,ds1,a,b,rfl,rfl,rfl,_,h2⟩:=trodAll_cons h;simp[QL h2]
variable {f:ZaV}
variable {s:ChangeSpec}
variable {H:Type}
def Nr {fn:Func}{i:Nat}{t0:Zr}{enc:Zr×Ze->H}{os:Os}(started:os.Started)
 (hf:Oh.NI f=true) (hfL:U1 f=true) (G7:Tryz.prog.funcs[f]?=some fn) (hr:fn.results= #[.tmp i]) (pL:fn.resultTypes= #[t0]) (ht0:Tryz.prog.underlying t0=some .bool) (rW:Tryz.prog.inits.idxOf? f=none) (sN:s.vars=[])
 (XV:fn.params.toList.all (fun t=>Tryz.prog.readableRec t&&decide (t<Tryz.prog.types.size))=true)
 (hs:∀ds:List (DataW H),ds.length=fn.params.size->s.fn H ds= {results:=[.lit (.bool true)],args:=ds})
 (witness:∃(w:Zc) (tape:Tape) (i:Input),w.os=os/\(w.forCall tape i).Shaped Zd/\i.vars=[]/\Input.okWide Zd (w.forCall tape i) .any w.heap.size f i/\
 ((s.pre enc Zd fn [] false (w.forCall tape i).memory i.args/\ZbZ Zd KA (w.forCall tape i).memory)/\sizedMet enc Zd fn (Zav s) false (w.forCall tape i).memory i.args)/\({}:Assume).holds Zd (lone (Zq Zd f i.args .normal) [] (w.forCall tape i)))
 (law:∀(W:Zc) (base:Nat) (args:Array Ze) (ds:List (DataW H)) (ps:List MemPlace),(∀(j:Nat) t v,fn.params[j]?=some t->args[j]?=some v->Zbs Zd W .any base t v)->
 Zbh enc Zd W 0 (fun _=>true) true fn.params.toList args.toList ds ps->(Zcf Zd fn.params.toList ds).all (· <=reachBytes)=true->Iv (BK W)->B1 (Rd W) args args/\∀t,Calls Lp f args (tp (BK W) t) (XI (tp (BK W) t))):
  ReturnsInLeavingWide {} Tryz.checked os f .any (fun w args=>(s.pre enc Zd fn [] false w args/\ZbZ Zd KA w)/\sizedMet enc Zd fn (Zav s) false w args)
   (s.post enc Zd fn false true false false):=by
 refine returnsInLeavingWide_of_good (C:=Tryz.checked) own started witness ?_;intro w tape i _ hsh _ JN aqK _;obtain⟨_,_,_,Rt,xc,_,_,_,Ek,hval⟩:=JN;have e:Rt=fn:=ZK (xc.symm.trans G7);subst e;obtain⟨⟨⟨ds,gs,before,hw,_⟩,hl⟩,hz⟩:=aqK;have uA:=DataW.Whole.of_heap (w':=w.forCall tape i) (by rfl) hw;have hz':=hz.weights hw;have hG:Iv (w.forCall tape i):=T2 (hl.of_heap (by rfl));have hval:∀(j:Nat) t v,Rt.params[j]?=some t->i.args[j]?=some v->Zbs Zd (w.forCall tape i) .any w.heap.size t v:=hval;generalize w.forCall tape i=W at*;have uw:=uA;obtain⟨p,q,hA,hV,rfl,_,_⟩:=uA;rw[sN]at hV;obtain⟨rfl,rfl⟩:=trodVars_none hV;have hlen:ds.length=Rt.params.size:=QL hA;have Jt:=adL hsh;have xB:∃c e f,W.heap[0]?=some (.cells c e f):=by
  obtain⟨c,e,f,h⟩:=Tq hG;exact⟨c,e,f,h⟩
 have sO:(Zcf Zd Rt.params.toList ds).all (· <=reachBytes)=true:=by
  have aqL:(Zcf Zd (Rt.params.toList++s.plain.varTypes Zd) (ds++ [])).all (· <=reachBytes)=true:=hz';rwa[Zap,show s.plain.varTypes Zd=[] from by unfold DataSpec.varTypes;rw[show s.plain.vars=[] from sN];rfl,Zap]at aqL
 have ajx:∀t∈Rt.params.toList,Tryz.prog.readableRec t=true/\t<Tryz.prog.types.size:=fun t ht=>by
  have:=zt.1 XV t ht;rw[ZI]at this;exact⟨this.1,of_decide_eq_true this.2⟩
 obtain⟨kF,hc⟩:=law W w.heap.size i.args ds p hval hA sO (nW hG);obtain⟨M,last,o,w',t',h1,h2,h3,h4⟩:=xa hf hfL G7 hr rW Jt xB kF hc;have AA:∀x∈p,x.block<W.heap.size:=fun x hx=>uw.lt x (by simpa using hx);refine⟨M,last,o,w',t',h1,h2,h3,h4.mono fun v hp=>?_⟩;obtain⟨rfl,hb⟩:=hp;have D5:s.fn H (ds++ [])= {results:=[.lit (.bool true)],args:=ds}:=by rw[Zap];exact hs ds hlen
 refine ChangeSpec.post_blind ⟨ds,[],_,[],p,[],uw,?_,?_,?_,hb.frame _,fun h=>by cases h⟩
 .rw[D5,pL]
  exact trodAll_mk1 (shut_bool ht0 true)
 .rw[D5]
  exact ML laidOut hb ajx hA AA
 .rw[D5,sN];rfl
variable {t e:Zr}
variable {v:Ze}
def sP {base:Nat}(ht:Tryz.prog.underlying t=some (.slice e))(h:Zbs Zd W .any base t v):VR (Rd W) v v:=by
 obtain⟨a,n,c,rfl⟩:=okWide_slice ht h;cases a with
 |none=>exact .slice (a:=none) n c trivial
 |some a=>
  simp only[Zbs,ht,Cell.okWide,Cell.ok]at h;obtain⟨_,_,_,h1,row,cells,h2,_⟩:=h;unfold Yx at h2;split at h2
  .next hb=>exact .slice n c ⟨rU hb,rfl,rfl⟩
  .cases h2
def SI.left {l:List Int}(h:SI (Lv W) W v l)(t:Tape):SI (fun x=>x<(tp (BK W) t).heap.size) (tp (BK W) t) v l:=by
 obtain⟨a,c,h1,h2,h3,h4⟩:=h;refine⟨a,c,h1,h2,h3,fun i x hx=>?_⟩;obtain⟨b,o,cs,g1,g2,g3,g4,g5⟩:=h4 i x hx;unfold Ri at g5;subst g5;refine⟨b,o,_,g1,?_,g3,fun j u hu=>?_,rfl⟩
 .show b<(BK W).heap.size
  rw[gS];exact g2
 .have:=TE (g4 j u hu) (by
   match j,hu with
   |0,hu=>cases hu;exact .int _ _)
  exact this
variable {ps:List MemPlace}
def xC {enc:Zr×Ze->H}{d:DataW H}(ht:Tryz.prog.underlying t=some (.slice 3))(hv:v.cells= #[v])(h:DataW.Trod enc Zd W 0 (fun _=>true) true t v d ps):∃l,SI (Lv W) W v l:=by
 obtain⟨n,hf⟩:=h;obtain⟨l,u,e,hl⟩:=dC ht (k:=1) (by kernel_rfl) (by decide) (nV (by kernel_rfl)) n _ _ hf;rw[hv]at e;cases e;exact⟨l,hl⟩
def xD {ρ:Ren}(h:VR ρ v v):B1 ρ #[v] #[v]:=⟨rfl,fun i x y h1 h2=>by
 match i,h1,h2 with
 |0,h1,h2=>cases h1;cases h2;exact h⟩
def T3 {fn:Func}{base:Nat}{args:Array Ze}{enc:Zr×Ze->H}{ds:List (DataW H)}(hp:fn.params= #[22])
 (hval:∀(j:Nat) t v,fn.params[j]?=some t->args[j]?=some v->Zbs Zd W .any base t v) (hA:Zbh enc Zd W 0 (fun _=>true) true fn.params.toList args.toList ds ps) (hG:Iv (BK W))
 (law:∀(w:Zc) (v:Ze) (nums:List Int),SI (fun x=>x<w.heap.size) w v nums->Iv w->Calls Lp f #[v] w (Two w (.bool true))):
  B1 (Rd W) args args/\∀t,Calls Lp f args (tp (BK W) t) (XI (tp (BK W) t)):=by
 rw[hp]at hval hA;obtain⟨v,d,rfl,rfl,h0⟩:=trodAll_one hA;have und:Tryz.prog.underlying 22=some (.slice 3):=by kernel_rfl
 have ok:=hval 0 22 v rfl rfl;have hin:=sP und ok;obtain⟨a,n,c,rfl⟩:=okWide_slice und ok;obtain⟨l,hl⟩:=xC und rfl h0;exact⟨xD hin,fun t=>(law _ _ _ (hl.left t) hG).mono fun e w' h=>h⟩
end Go.Proofs.Fit
namespace Go.Proofs.Fit
open Go Go.RowKit
variable {c:OpenClaim}
def PS {p:Pinned}{s:OpenSpec}(kinds:List LaidKind)(yS:Bool×String)(hc:c.holds p s)(hw:c.wfByText s=true)(aqM:c.laidByTextAt .later p kinds true)
 (B5:c.start=.entering) (hnb:c.noBlocks=false/\c.again=false) (hm:p.checked.prog.mainIs=some (yS.1,yS.2.toList))
 (hl:∀f fn,p.checked.prog.funcNamed c.func=some f->p.checked.prog.funcs[f]?=some fn->true=p.checked.prog.looks []/\∀(j:Nat) t,fn.params[j]?=some t->p.checked.prog.wantsStandIn t=false)
 (hg:true=c.goesBy p.checked.prog):
  Claim7.holds p (.plain s) {stood:= {row:=c,standIns:=[],harness:=yS,looks:=true},kinds:=[],alts:=[],goes:=true,laidByText:=true,laidKinds:=kinds,laidTests:=true,laidLooks:=.later}:=by
 have h6:Claim7.isSixth {stood:= {row:=c,standIns:=[],harness:=yS,looks:=true},kinds:=[]}=false:=by simp[Claim7.isSixth]
 exact⟨Claim7.tied_new_at .later kinds true (Claim7.new_of_sixth hc yS true B5 hnb hm h6 hl) hw,fun D hD=>(by cases hD),aqM,(fun h=>by cases h),hg⟩
set_option maxRecDepth 100000
def io_:∃l,Tryz.prog.initOrder=ZcO l/\(Y7 (Zaj l)).head?=some "cut".toList/\(match Zaj l with
 |h::s::_=>if !isSumSigns s then none else if h== "harness".toList then some (true,s) else if h== "ownmain".toList then some (false,s) else none
 |_=>none)=some (true,"d58ada5a772cea19d6c1f322b38be8e13f90afce78f95e9e644b853f050ce369".toList):=⟨_,rfl,by kernel_rfl,by kernel_rfl⟩
variable {P:Zp}
variable {l:List Char}
def dE (h0:P.initOrder=ZcO l)(h:(Y7 (Zaj l)).head?=some "cut".toList):∃R,Y7 (Zaj P.initOrder.toList)= "cut".toList::R:=by
 rw[h0,Zdv];cases e:Y7 (Zaj l) with
 |nil=>rw[e]at h;cases h
 |cons a r=>rw[e]at h;exact⟨r,by rw[show a= "cut".toList from ZK h]⟩
def OI:∃R,Y7 (Zaj Tryz.prog.initOrder.toList)= "cut".toList::R:=by
 obtain⟨l,h0,h,_⟩:=io_;exact dE h0 h
def Wi (R:List (List Char)):stripLifts liftWords ("cut".toList::R)=([],"cut".toList::R):=by kernel_rfl
def iD:Tryz.prog.laysLater=false:=by kernel_rfl
def U':Tryz.prog.bearsReflect=false:=by kernel_rfl
def nX:Tryz.prog.doorFits []=true:=by kernel_rfl
variable {R:List (List Char)}
def dF (hR:Y7 (Zaj P.initOrder.toList)= "cut".toList::R)(h1:P.laysLater=false)(h2:P.bearsReflect=false)(h3:P.doorFits []=true):P.mayEnter=true:=by
 unfold Program.mayEnter;rw[hR];dsimp only;rw[Wi,h1,h2,h3]
 kernel_rfl
def OJ (hR:Y7 (Zaj P.initOrder.toList)= "cut".toList::R):P.headLifts=[]:=by
 unfold Program.headLifts;rw[hR,Wi];dsimp only;split<;>rfl
def Vb (hR:Y7 (Zaj P.initOrder.toList)= "cut".toList::R):P.liftsFinal=false:=by
 unfold Program.liftsFinal;rw[hR,OJ hR]
 kernel_rfl
def xE (hR:Y7 (Zaj P.initOrder.toList)= "cut".toList::R):P.make=some .cut:=by
 unfold Program.make;rw[hR]
 kernel_rfl
def nY:Tryz.prog.mayEnter=true:=by
 obtain⟨R,hR⟩:=OI;exact dF hR iD U' nX
def dG:Tryz.prog.liftsFinal=false:=by
 obtain⟨R,hR⟩:=OI;exact Vb hR
def ajz:Tryz.prog.make=some .cut:=by
 obtain⟨R,hR⟩:=OI;exact xE hR
def nZ {s:Bool×List Char}(h0:P.initOrder=ZcO l)(h:(match Zaj l with
 |h::s::_=>if !isSumSigns s then none else if h== "harness".toList then some (true,s) else if h== "ownmain".toList then some (false,s) else none
 |_=>none)=some s):P.mainIs=some s:=by
 unfold Program.mainIs;rw[h0,Zdv];exact h
def XW:Tryz.prog.mainIs=some (true,"d58ada5a772cea19d6c1f322b38be8e13f90afce78f95e9e644b853f050ce369".toList):=by
 obtain⟨l,h0,_,h⟩:=io_;exact nZ h0 h
def iE:mapsRowed Zd=true:=by kernel_rfl
def adM:(Tryz.prog.stops==[])=true:=by kernel_rfl
def adN:(Tryz.prog.stopKnobs==[])=true:=by kernel_rfl
def iF:Tryz.prog.plainKeys=false:=by kernel_rfl
def dH:Tryz.prog.stopsHeard=true:=by kernel_rfl
def T4:Tryz.prog.laidByTextLater KA [.handle] true:=
 Program.laidByTextLater_by_one 16 8 2 (by kernel_rfl) (by kernel_rfl) (by kernel_rfl) (by kernel_rfl) (by kernel_rfl) (by kernel_rfl) (fun _ _=>by kernel_rfl)
def iG:Tryz.prog.headLifts.contains "ownunsafe" =false:=by
 obtain⟨R,hR⟩:=OI;rw[OJ hR]
 rfl
def iH:true=Tryz.prog.looks []:=by kernel_rfl
set_option maxRecDepth 100000
variable {f:ZaV}
variable {s:ChangeSpec}
def PT {fn:Func}(a1:(c.wf (Zav s))=true)(a4:fn.params.all (Tryz.prog.readableRec ·)=true)(a5:namedTie Zd c.named s.vars=true)(a6:(c.stops==[])=true)(a8:(c.knobs==[])=true)
 (b1:(c.inPlace==Tryz.prog.inPlace f)=true) (b2:(c.unfollowed==Tryz.prog.unfollowed f)=true) (b3:(c.recurses==Tryz.prog.recurses f)=true) (b4:(c.named==Tryz.prog.varsNamed f)=true)
 (c1:(c.maps==(fn.params.toList++s.plain.varTypes Zd).any (Tryz.prog.mapsRec ·))=true) (c2:(c.ifaces==(fn.params.toList++s.plain.varTypes Zd).any (Tryz.prog.ifacesRec ·))=true) (c3:(c.mapsOut==Tryz.prog.mapsAmong fn.resultTypes.toList)=true)
 (c4:(c.loops==(fn.params.toList++s.plain.varTypes Zd).any (Tryz.prog.loopsFrom ·))=true) (c5:(c.wideKeys==(fn.params.toList++s.plain.varTypes Zd++fn.resultTypes.toList).any (Tryz.prog.wideKeysFrom ·))=true)
 (d1:s.vars.all (Tryz.prog.varReadable ·)=true) (d2:fn.resultTypes.all (fun t=>Tryz.prog.readableRec t&&decide (t<Tryz.prog.types.size))=true) (d3:(c.ifacesOut==fn.resultTypes.toList.any (Tryz.prog.ifacesRec ·))=true) (d4:(c.loopsOut==fn.resultTypes.toList.any (Tryz.prog.loopsFrom ·))=true)
 (e1:c.plainKeys=false) (e2:c.shortTexts.isNone=true) (e3:c.lifted=false) (e4:c.make=.cut)
 (e5:c.kinds=[]) (e5d:c.domain.isEmpty=true) (e6:(c.pinned==c.pinnedBy)=true)
 (e7:(c.veiled==(fn.params.toList++s.plain.varTypes Zd++fn.resultTypes.toList).any (Tryz.prog.veiledRec ·))=true) (e8:c.veiledFits Zd fn.params.toList (fn.params.toList++s.plain.varTypes Zd++fn.resultTypes.toList)=true):
  joinedFacts Zd f fn s c=true:=by
 unfold joinedFacts;rw[a1,laidOut,iE,a4,a5,a6,adM,a8,adN,b1,b2,b3,b4,c1,c2,c3,c4,c5,d1,d2,d3,d4,iF,e1,e2,dH,nY,dG,e3,ajz,e4,e5,e5d,if_pos rfl,e6,e7,e8]
 rfl
end Go.Proofs.Fit
