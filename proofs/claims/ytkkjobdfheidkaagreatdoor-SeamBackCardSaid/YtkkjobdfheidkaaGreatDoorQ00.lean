/- Part of a proof. -/
import Derived.Conc.Beside
set_option maxRecDepth 100000
set_option maxHeartbeats 6400000
noncomputable section
set_option linter.all false
open Array renaming getElem?_eq_some_iff->Za,getElem?_eq_getElem->ZC,getElem?_eq_none_iff->Za2,getElem?_push->YO,getElem?_setIfInBounds->za,getElem?_extract->Zd3,getElem?_map->zN,length_toList->Zd1,replicate->YD,getD_eq_getD_getElem?->Yz,getElem?_modify->Zac,mem_append->ZaN,append_assoc->Zed,range->YT,forIn_toList->Zai,all_eq_true_iff_forall_mem->z8,foldl_toList->Zb5,mapM_eq_mapM_toList->Y5,eq_empty_of_size_eq_zero->Zco,isEmpty->Zdb,toList_filter->Zd0,toArray_toList->ZdS,filter->Z7,mem_of_getElem?->zC,getElem?_append_left->zv,getElem?_setIfInBounds_ne->Zk,mem_iff_getElem->ZbR,getElem?_setIfInBounds_self_of_lt->Z5
open Bool renaming and_eq_true->ZI,eq_iff_iff->Zdj,or_eq_true->Za1
open Classical renaming byContradiction->YW,choose->zu,choose_spec->zA
open Go renaming FuncId->ZaV,Value->Ze,TypeId->Zr,undef->Zf,World->Zc,Event->zc,Program->Zp,Unsupported->Zdd,askRoom->Zak,loadCellsFrom->ZdE,storeCells->Zb3,typeHandle->ZdT,runtimePanic->zE,boundsPanic->ZaY,byteOfCell->ZdG,behindNumber->ZbV,Operand->ZbX,callFunc->ZB,Frame->ZT,resolve->Zbp,execOp->ZbE,PanicEntry->zn,Goroutine->Zi,exitTo->ZbB,stepG->zd,Trace->Y8,runNT->ZaI
open Go.Addr renaming add->Zcz
open Go.Builtin renaming len_->Zc8,cap_->Zc9,lenOf->ZcW,firstCells->Zw,copy_->ZcN,holdsCells->ZdR,mayShare->YC,append_->Zar,zeroCells->Zs,nextslicecap->YG,unsafeAdd_->YV,max2->Zc7,max_->Zc6,min2->Zc5,min_->Zc4
open Go.CallKind renaming early->ZaR
open Go.Conc renaming crowd->Ys,runT_crowd_go->Zb6,Deaf_other->Y9,mem_ofEvents->ZW
open Go.Conv renaming bytesToString->Zax
open Go.Deferred renaming ofValue->Yk
open Go.Frame renaming eval->Zeb,finish->Zdr,raise->Za0,enter->Zq,round->ZdP
open Go.GStep renaming after->zW
open Go.Instr renaming alloc->ZdO,fieldAt->Zc1,indexAt->Zce,sliceBound->Zcl,sliceBounds->Zbn,slice->ZbO,sliceAt->ZaO,index->ZdN,extract->Zc2,makeInterface->ZbY,makeMap->ZcZ,checkKey->YL,sameNow->Zbr,findNow->ZaP,findAsking->Yd,findKey->Zal,fill->Zau,build->Zbo,buildSlice->Zcn,makeSlice->Zdp,sameBits->zQ,keyThatStays->Yr,lookup->Za8,mapUpdate->ZaX,mapEntry->ZcM,entryStore->Zcm,range->ZdM,next->Zea,typeAssert->ZbA,getLoop->Zc0,enterLoop->Zag,yield->ZdL,beginRound->ZaG,endRound->ZaZ,endLoop->ZaH,takeDeferred->YF
open Go.Made renaming depth->ZcU
open Go.MemAct renaming ofEvent->ZY,touch?->Yn,low->Zcj
open Go.MemOp renaming ofEvents->ZO
open Go.Op renaming equalIn->Za5,equal->Zaf,stringOp->ZcL,twoPlaces->ZdX
open Go.Program renaming underlying->Zb2,cellsOf->Zct,eqGuardType->Zdy
open Go.Question renaming extern->Zci
open Go.Region renaming wanted->Ym
open Go.Sem renaming runT_bind'->zg,runT->ZM,pure->Zd6,runT_eq->zk,bind->Zcd
open Go.Value renaming pointer->Zb1,slice->ZA,tuple->YQ
open Go.World renaming cell?->zG,shape?->Yx,frozen?->Yy,setCell->zb
open List renaming all_cons->Zba,append_nil->Zap,range->ZL,cons_append->Za7,exists_cons_of_ne_nil->Zao,append_assoc->Zah,length_cons->zp,length->ZbH
open Nat renaming add_assoc->Zb4,le_refl->Zj,le_trans->Zt,lt_of_lt_of_le->Zm,lt_or_ge->Zaw,le_of_succ_le->Zbj,add_sub_cancel_left->Zbt,eq_zero_or_pos->z7
open Nat.succ renaming inj->ZH
open Ne renaming symm->Zbq
open Option renaming map_eq_some_iff->zf,map_some->Zdz,isNone_eq_false_iff->ZcE,getD_some->Zx
open Option.some renaming inj->ZK,injEq->ZN
open Std.Legacy.Range renaming forIn_eq_forIn_range'->Zdw
namespace Go.FO
open Go
structure Qd where
 val:ZaV->Bool
 NI:ZaV->Bool
 dir:ZaV->Nat->Bool
 low:Nat
instance:CoeFun Qd (fun _=>ZaV->Bool):=⟨Qd.val⟩
structure Ren where
 map:Nat->Option Nat
 ok:Qd
 good:Code->Bool
 sp:ZaV->Bool
 inj:∀b vk c,map b=some c->map vk=some c->b=vk
 base:map ok.low=some ok.low
 sep:∀b c,map b=some c->(b<ok.low↔c<ok.low)
instance:CoeFun Ren (fun _=>Nat->Option Nat):=⟨Ren.map⟩
def Ren.le (ρ σ:Ren):Prop:=(∀b c,ρ b=some c->σ b=some c)/\σ.ok=ρ.ok/\σ.good=ρ.good/\σ.sp=ρ.sp
def Ren.le_refl (ρ:Ren):ρ.le ρ:=⟨fun _ _ h=>h,rfl,rfl,rfl⟩
variable {ρ σ τ:Ren}
def Ren.le_trans (h:ρ.le σ)(k:σ.le τ):ρ.le τ:=⟨fun b c x=>k.1 b c (h.1 b c x),k.2.1.trans h.2.1,k.2.2.1.trans h.2.2.1,k.2.2.2.trans h.2.2.2⟩
def Ren.QV (ρ:Ren)(r r':Nat):Prop:=(∀b,ρ b≠some r')/\ρ.ok.low<r/\ρ.ok.low<r'
def Ren.ext (ρ:Ren)(r r':Nat)(h:ρ.QV r r'):Ren where
 map:=fun b=>if b=r then some r' else ρ b
 ok:=ρ.ok
 good:=ρ.good
 sp:=ρ.sp
 inj:=by
  intro b vk c hb KQ;split at hb<;>split at KQ
  .omega
  .cases hb;exact absurd KQ (h.1 _)
  .cases KQ;exact absurd hb (h.1 _)
  .exact ρ.inj _ _ _ hb KQ
 base:=by
  have:=h.2.1;rw[if_neg (by omega)];exact ρ.base
 sep:=by
  intro b c hb;have h1:=h.2.1;have h2:=h.2.2;split at hb
  .cases hb;omega
  .exact ρ.sep b c hb
def AR (ρ:Ren)(a a':Addr):Prop:=ρ a.block=some a'.block/\a'.off=a.off/\a'.spot=a.spot
def O1 (ρ:Ren):Option Addr->Option Addr->Prop
 |none,none=>True
 |some a,some a'=>AR ρ a a'
 |_,_=>False
def Sm (ρ:Ren):Option Nat->Option Nat->Prop
 |none,none=>True
 |some a,some a'=>ρ a=some a'
 |_,_=>False
inductive pF (ρ:Ren):Fn->Fn->Prop
 |func {f:ZaV} (h:ρ.ok f=true):pF ρ (.func f) (.func f)
 |yield {l l':Nat} (h:ρ l=some l'):pF ρ (.yield l) (.yield l')
def afZ:Ze->Bool
 | .pointer (some _)| .slice (some _) _ _| .map (some _)| .chan (some _)| .iface .. | .float .. | .complex .. =>true
 | .func (.method _) _ _=>false
 | .func .. =>true
 |_=>false
variable {v x y v' x' i' y' k':Ze}
def eX (h:afZ v=true):v.cells= #[v]:=by cases v<;>first|rfl|cases h
def yI:Ze:=.func (.method "") #[.iface 0 (.tuple #[])] #[]
inductive VR (ρ:Ren):Ze->Ze->Prop
 |bool (b:Bool):VR ρ (.bool b) (.bool b)
 |int (k:IntKind) (n:Int):VR ρ (.int k n) (.int k n)
 |string (s:ByteArray):VR ρ (.string s) (.string s)
 |pointer {a a':Option Addr} (h:O1 ρ a a'):VR ρ (.pointer a) (.pointer a')
 |slice {a a':Option Addr} (n c:Nat) (h:O1 ρ a a'):VR ρ (.slice a n c) (.slice a' n c)
 |map {r r':Option Nat} (h:Sm ρ r r'):VR ρ (.map r) (.map r')
 |chan {r r':Option Nat} (h:Sm ρ r r'):VR ρ (.chan r) (.chan r')
 |func {fn Rt:Fn} {a a' c c':Array Ze} (h:pF ρ fn Rt) (ha:a.size=a'.size) (hav:∀(i:Nat) v v',a[i]?=some v->a'[i]?=some v'->VR ρ v v')
   (hc:c.size=c'.size) (KB:∀(i:Nat) v v',c[i]?=some v->c'[i]?=some v'->VR ρ v v'):VR ρ (.func fn a c) (.func Rt a' c')
 |nilFunc:VR ρ .nilFunc .nilFunc
 |iface (t:Zr) {v v':Ze} (h:VR ρ v v'):VR ρ (.iface t v) (.iface t v')
 |nilIface:VR ρ .nilIface .nilIface
 |agg {c c':Array Ze} (hc:c.size=c'.size) (KB:∀(i:Nat) v v',c[i]?=some v->c'[i]?=some v'->VR ρ v v'):VR ρ (.agg c) (.agg c')
 |tuple {c c':Array Ze} (hc:c.size=c'.size) (KB:∀(i:Nat) v v',c[i]?=some v->c'[i]?=some v'->VR ρ v v'):VR ρ (.tuple c) (.tuple c')
 |EK {v':Ze} (h:afZ v'=true):VR ρ (.tuple #[]) v'
 |meth (n:String) (f c:Array Ze):VR ρ (.func (.method "") #[.iface 0 (.tuple #[])] #[]) (.func (.method n) f c)
inductive EB {α β:Type}(R:α->β->Prop):List α->List β->Prop
 |nil:EB R [] []
 |cons {x:α} {y:β} {l:List α} {m:List β} (h:R x y) (t:EB R l m):EB R (x::l) (y::m)
variable {α β γ δ:Type}
def EB.mono {R S:α->β->Prop}{l:List α}{m:List β}(h:EB R l m)(hs:∀x y,R x y->S x y):EB S l m:=by
 induction h with
 |nil=>exact .nil
 |cons h _ ih=>exact .cons (hs _ _ h) ih
def EB.append {R:α->β->Prop}{l l':List α}{m m':List β}(h:EB R l m)(k:EB R l' m'):EB R (l++l') (m++m'):=by
 induction h with
 |nil=>exact k
 |cons h _ ih=>exact .cons h ih
def BG {α β:Type}(R:α->β->Prop)(a:Array α)(b:Array β):Prop:=a.size=b.size/\∀(i:Nat) x y,a[i]?=some x->b[i]?=some y->R x y
abbrev B1 (ρ:Ren):Array Ze->Array Ze->Prop:=BG (VR ρ)
section
variable {α β:Type}{R:α->β->Prop}{a:Array α}{b:Array β}
variable {l l' i n r r' N:Nat}
def BG.get {x:α}(h:BG R a b)(hx:a[i]?=some x):∃y,b[i]?=some y/\R x y:=by
 obtain⟨hi,rfl⟩:=Za.1 hx;have Da:i<b.size:=h.1▸hi;exact⟨b[i],ZC Da,h.2 i _ _ hx (ZC Da)⟩
def BG.gone (h:BG R a b)(hx:a[i]?=none):b[i]?=none:=by
 rw[Za2]at*;rw[<-h.1];exact hx
def BG.opt (h:BG R a b)(i:Nat):(a[i]?=none/\b[i]?=none)\/∃x y,a[i]?=some x/\b[i]?=some y/\R x y:=by
 cases hx:a[i]? with
 |none=>exact .inl ⟨rfl,h.gone hx⟩
 |some x=>obtain⟨y,hy,hr⟩:=h.get hx;exact .inr ⟨x,y,rfl,hy,hr⟩
def BG.nil:BG R #[] #[]:=⟨rfl,fun i x y h=>by simp at h⟩
def BG.mono {S:α->β->Prop}(h:BG R a b)(hs:∀x y,R x y->S x y):BG S a b:=⟨h.1,fun i x y hx hy=>hs _ _ (h.2 i x y hx hy)⟩
def BG.push {x:α}{y:β}(h:BG R a b)(hr:R x y):BG R (a.push x) (b.push y):=by
 refine⟨by simp[h.1],fun i u v hu hv=>?_⟩;rw[YO]at hu hv;rw[h.1]at hu;split at hu
 .rw[if_pos ‹_›]at hv
  cases hu;cases hv;exact hr
 .rw[if_neg ‹_›]at hv
  exact h.2 i u v hu hv
def BG.append {a':Array α}{b':Array β}(h:BG R a b)(h':BG R a' b'):BG R (a++a') (b++b'):=by
 refine⟨by simp[h.1,h'.1],fun i u v hu hv=>?_⟩;rw[Array.getElem?_append]at hu hv;rw[h.1]at hu;split at hu
 .rw[if_pos ‹_›]at hv;exact h.2 i u v hu hv
 .rw[if_neg ‹_›]at hv;exact h'.2 _ u v hu hv
def BG.set {x:α}{y:β}(h:BG R a b)(hr:R x y)(j:Nat):BG R (a.setIfInBounds j x) (b.setIfInBounds j y):=by
 refine⟨by simp[h.1],fun i u v hu hv=>?_⟩;rw[za]at hu hv;rw[h.1]at hu;split at hu
 .rw[if_pos ‹_›]at hv
  split at hu
  .rw[if_pos ‹_›]at hv;cases hu;cases hv;exact hr
  .rw[if_neg ‹_›]at hv;cases hu
 .rw[if_neg ‹_›]at hv;exact h.2 i u v hu hv
def BG.extract (h:BG R a b)(s e:Nat):BG R (a.extract s e) (b.extract s e):=by
 refine⟨by simp[h.1],fun i u v hu hv=>?_⟩;rw[Zd3]at hu hv;rw[h.1]at hu;split at hu
 .rw[if_pos ‹_›]at hv;exact h.2 _ u v hu hv
 .cases hu
def BG.map {α' β':Type}{S:α'->β'->Prop}{f:α->α'}{g:β->β'}(h:BG R a b)(hs:∀x y,R x y->S (f x) (g y)):BG S (a.map f) (b.map g):=by
 refine⟨by simp[h.1],fun i u v hu hv=>?_⟩;rw[zN,zf]at hu hv;obtain⟨x,hx,rfl⟩:=hu;obtain⟨y,hy,rfl⟩:=hv;exact hs _ _ (h.2 i x y hx hy)
def BG.single {x:α}{y:β}(h:R x y):BG R #[x] #[y]:=BG.push (a:= #[]) (b:= #[]) BG.nil h
def BG.list (h:BG R a b):EB R a.toList b.toList:=by
 have key:∀(l:List α) (m:List β),l.length=m.length->(∀(i:Nat) x y,l[i]?=some x->m[i]?=some y->R x y)->EB R l m:=by
  intro l
  induction l with
  |nil=>intro m hm _;cases m with
   |nil=>exact .nil
   |cons _ _=>simp at hm
  |cons x l ih=>intro m hm hr;cases m with
   |nil=>simp at hm
   |cons y m=>exact .cons (hr 0 x y rfl rfl) (ih m (by simpa using hm) fun i u v hu hv=>hr (i+1) u v (by simpa using hu) (by simpa using hv))
 exact key _ _ (by rw[Zd1,Zd1];exact h.1) fun i x y hx hy=>h.2 i x y (by simpa using hx) (by simpa using hy)
def BG.jl {l:List α}{m:List β}(h:EB R l m):BG R l.toArray m.toArray:=by
 induction h with
 |nil=>exact BG.nil
 | @cons x y l m hr _ ih=>
  have:=(BG.single hr).append ih;simpa using this
def BG.replicate {x:α}{y:β}(n:Nat)(h:R x y):BG R (YD n x) (YD n y):=
 ⟨by simp,fun i u v hu hv=>by
  rw[Array.getElem?_replicate]at hu hv;split at hu
  .rw[if_pos ‹_›]at hv;cases hu;cases hv;exact h
  .cases hu⟩
end
variable {f':Fn}
def pF.mono (h:ρ.le σ){f:Fn}(x:pF ρ f f'):pF σ f f':=by
 cases x with
 |func f=>exact .func (h.2.1▸f)
 |yield l=>exact .yield (h.1 _ _ l)
variable {a' b':Addr}
def AR.mono (h:ρ.le σ){a:Addr}(x:AR ρ a a'):AR σ a a':=⟨h.1 _ _ x.1,x.2⟩
def O1.mono (h:ρ.le σ){a a':Option Addr}(x:O1 ρ a a'):O1 σ a a':=by
 cases a<;>cases a'<;>first|exact x|exact AR.mono h x
def Sm.mono (h:ρ.le σ){a a':Option Nat}(x:Sm ρ a a'):Sm σ a a':=by
 cases a<;>cases a'<;>first|exact x|exact h.1 _ _ x
def VR.mono {ρ σ:Ren}(h:ρ.le σ){v v':Ze}(x:VR ρ v v'):VR σ v v':=by
 induction x with
 |bool b=>exact .bool b
 |int k n=>exact .int k n
 |string s=>exact .string s
 |pointer x=>exact .pointer (x.mono h)
 |slice n c x=>exact .slice n c (x.mono h)
 |map x=>exact .map (x.mono h)
 |chan x=>exact .chan (x.mono h)
 |func x ha _ hc _ iha ihc=>exact .func (x.mono h) ha iha hc ihc
 |nilFunc=>exact .nilFunc
 |iface t _ ih=>exact .iface t ih
 |nilIface=>exact .nilIface
 |agg hc _ ih=>exact .agg hc ih
 |tuple hc _ ih=>exact .tuple hc ih
 |EK h=>exact .EK h
 |meth n f c=>exact .meth n f c
variable {a b c' t t' args:Array Ze}
def B1.mono (h:ρ.le σ)(x:B1 ρ a b):B1 σ a b:=BG.mono x fun _ _=>VR.mono h
def VR.QW (h:B1 ρ a b):VR ρ (.agg a) (.agg b):=.agg h.1 h.2
def VR.tuple' (h:B1 ρ a b):VR ρ (.tuple a) (.tuple b):=.tuple h.1 h.2
def VR.aL {f:Fn}{a' c:Array Ze}(h:pF ρ f f')(ha:B1 ρ a a')(hc:B1 ρ c c'):VR ρ (.func f a c) (.func f' a' c'):=.func h ha.1 ha.2 hc.1 hc.2
def VR.undef (ρ:Ren):VR ρ Zf Zf:=.tuple' BG.nil
def VR.cells {ρ:Ren}{v v':Ze}(h:VR ρ v v'):B1 ρ v.cells v'.cells:=by
 cases h with
 |agg hc hv=>exact⟨hc,hv⟩
 |bool b=>exact BG.single (.bool b)
 |int k n=>exact BG.single (.int k n)
 |string s=>exact BG.single (.string s)
 |pointer x=>exact BG.single (.pointer x)
 |slice n c x=>exact BG.single (.slice n c x)
 |map x=>exact BG.single (.map x)
 |chan x=>exact BG.single (.chan x)
 |func x ha hav hc KB=>exact BG.single (.func x ha hav hc KB)
 |nilFunc=>exact BG.single .nilFunc
 |iface t x=>exact BG.single (.iface t x)
 |nilIface=>exact BG.single .nilIface
 |tuple hc hv=>exact BG.single (.tuple hc hv)
 |EK h=>rw[eX h];exact BG.single (.EK h)
 |meth n f c=>exact BG.single (.meth n f c)
def VR.getD {d d':Ze}(h:B1 ρ a b)(hd:VR ρ d d')(i:Nat):VR ρ (a.getD i d) (b.getD i d'):=by
 rw[Yz,Yz];rcases h.opt i with⟨h1,h2⟩|⟨x,y,h1,h2,hr⟩
 .rw[h1,h2];exact hd
 .rw[h1,h2];exact hr
def FzR (f f':Nat×Nat):Prop:=f'=f\/f'.2<=f'.1\/(f.1<=f'.1/\f'.2<=f.2)
def okB:Builtin->Bool
 | .append| .cap| .copy| .len| .max| .min=>true
 |_=>false
inductive TgR (ρ:Ren):Target->Target->Prop
 |fn {f f':Fn} {c c':Array Ze} (h:pF ρ f f') (hc:B1 ρ c c'):TgR ρ (.fn f c) (.fn f' c')
 |nil:TgR ρ .nil .nil
 |builtin {b:Builtin} (h:okB b=true) (a:Array Zr) (t:Zr) (c:Array Bool):TgR ρ (.builtin b a t c) (.builtin b a t c)
 |collected {r r':Nat} (h:ρ r=some r'):TgR ρ (.collected r) (.collected r')
structure DfR (ρ:Ren)(d d':Deferred):Prop where
 target:TgR ρ d.target d'.target
 args:B1 ρ d.args d'.args
inductive jm (ρ:Ren):Deferred->Deferred->Prop
 |mk {b b':Nat} {a a':Array Ze} (h:ρ b=some b'):jm ρ {target:=.collected b,args:=a} {target:=.collected b',args:=a'}
structure LpR (ρ:Ren)(l l':Loop):Prop where
 state:l'.state=l.state
 pending:l'.pending=l.pending
 fn:l'.fn=l.fn
 tmps:B1 ρ l.tmps l'.tmps
 params:l'.params=l.params
 assign:l'.assign=l.assign
 body:l'.body=l.body
 run:ρ.ok.NI l.fn=true/\ρ.sp l.fn=false
 fine:ρ.good l.assign=true/\ρ.good l.body=true/\∀c,l.pending=some c->ρ.good c=true
 defers:ρ l.defers=some l'.defers
structure O_ (ρ:Ren)(e e':MapEntry):Prop where
 key:VR ρ e.key e'.key
 val:VR ρ e.val e'.val
 born:e'.born=e.born
def Qe:Obj->Bool
 | .cells _ _ _| .pending _ _| .view _ _| .number _ _=>false
 |_=>true
inductive Quiet:Obj->Prop
 |coro:Quiet (.coro none)
 |number (a:Addr) (l:Bool):Quiet (.number a l)
inductive OR (ρ:Ren):Obj->Obj->Prop
 |cells {c c':Array Ze} (e:Zr) {f f':Nat×Nat} (h:B1 ρ c c') (hf:FzR f f'):OR ρ (.cells c e f) (.cells c' e f')
 |map {es BH:Array MapEntry} (k:Nat) (h:BG (O_ ρ) es BH):OR ρ (.map es k) (.map BH k)
 |chan (cap:Nat) {b b':Array Ze} (cl:Bool) (s r:Nat) (tm:Bool) (h:B1 ρ b b'):OR ρ (.chan cap b cl s r tm) (.chan cap b' cl s r tm)
 |stringIter (s:ByteArray) (p:Nat):OR ρ (.stringIter s p) (.stringIter s p)
 |mapIter {m m':Option Nat} (a:Nat) (s:Array Nat) (k:Nat) (h:Sm ρ m m'):OR ρ (.mapIter m a s k) (.mapIter m' a s k)
 |number {a a':Addr} (lost:Bool) (h:AR ρ a a'):OR ρ (.number a lost) (.number a' lost)
 |loop {l l':Loop} (h:LpR ρ l l'):OR ρ (.loop l) (.loop l')
 |Fs:OR ρ (.deferred none) (.deferred none)
 |junk {o':Obj} (h:Qe o'=true):OR ρ (.coro none) o'
 |deferred:OR ρ (.deferred (some [])) (.deferred (some []))
def jm.mono (hle:ρ.le σ){d d':Deferred}(h:jm ρ d d'):jm σ d d':=by
 cases h with
 |mk h=>exact .mk (hle.1 _ _ h)
def LpR.mono (h:ρ.le σ){l l':Loop}(x:LpR ρ l l'):LpR σ l l':=⟨x.state,x.pending,x.fn,B1.mono h x.tmps,x.params,x.assign,x.body,by rw[h.2.1,h.2.2.2];exact x.run,by rw[h.2.2.1];exact x.fine,h.1 _ _ x.defers⟩
def O_.mono (h:ρ.le σ){e e':MapEntry}(x:O_ ρ e e'):O_ σ e e':=⟨x.key.mono h,x.val.mono h,x.born⟩
def OR.mono {ρ σ:Ren}(h:ρ.le σ){o o':Obj}(x:OR ρ o o'):OR σ o o':=by
 cases x with
 |cells e c f=>exact .cells e (B1.mono h c) f
 |map k e=>exact .map k (BG.mono e fun _ _=>O_.mono h)
 |chan cap cl s r tm b=>exact .chan cap cl s r tm (B1.mono h b)
 |stringIter s p=>exact .stringIter s p
 |mapIter a s k m=>exact .mapIter a s k (m.mono h)
 |number l a=>exact .number l (a.mono h)
 |loop l=>exact .loop (l.mono h)
 |Fs=>exact .Fs
 |junk h=>exact .junk h
 |deferred=>exact .deferred
structure WR (ρ:Ren)(w w':Zc):Prop where
 obj:∀b c,ρ b=some c->∃o o',w.heap[b]?=some o/\w'.heap[c]?=some o'/\OR ρ o o'
 os:w'.os=w.os
structure Iw (ρ:Ren)(w w':Zc):Prop where
 obj:∀b c,ρ b=some c->∃o o',w.heap[b]?=some o/\w'.heap[c]?=some o'/\OR ρ o o'
 tape:∀i q,w.tape (w.drawn+i) q=w'.tape (w'.drawn+i) q
 os:w'.os=w.os
variable {w w' w₁ w₂ w₁' CN:Zc}
def Iw.wr (h:Iw ρ w w'):WR ρ w w':=⟨h.obj,h.os⟩
def WR.lt {ρ:Ren}{w w':Zc}(h:WR ρ w w'){b c:Nat}(hb:ρ b=some c):b<w.heap.size/\c<w'.heap.size:=by
 obtain⟨o,o',h1,h2,_⟩:=h.obj b c hb;exact⟨(Za.1 h1).1,(Za.1 h2).1⟩
inductive MkR (ρ:Ren):Mark->Mark->Prop
 |noRoom:MkR ρ .noRoom .noRoom
inductive yJ (ρ:Ren):Loc->Loc->Prop
 |cell {a a':Addr} (h:AR ρ a a'):yJ ρ (.cell a) (.cell a')
 |obj {r r':Nat} (h:ρ r=some r'):yJ ρ (.obj r) (.obj r')
 |mark {m m':Mark} (h:MkR ρ m m'):yJ ρ (.mark m) (.mark m')
 |output:yJ ρ .output .output
structure uu (ρ:Ren)(e e':zc):Prop where
 loc:yJ ρ e.loc e'.loc
 write:e'.write=e.write
 sync:e'.sync=e.sync\/∃r,e'.loc=.obj r
def MkR.mono (_:ρ.le σ){m m':Mark}(x:MkR ρ m m'):MkR σ m m':=by
 cases x with
 |noRoom=>exact .noRoom
def yJ.mono {ρ σ:Ren}(h:ρ.le σ){l l':Loc}(x:yJ ρ l l'):yJ σ l l':=by
 cases x with
 |cell a=>exact .cell (a.mono h)
 |obj r=>exact .obj (h.1 _ _ r)
 |mark m=>exact .mark (m.mono h)
 |output=>exact .output
variable {e e':zc}
def uu.mono (h:ρ.le σ)(x:uu ρ e e'):uu σ e e':=⟨x.loc.mono h,x.write,x.sync⟩
def Hd:Halt->Prop
 | .stuck _=>True
 | .unsupported (.initOrder _)=>False
 | .unsupported _=>True
 |_=>False
inductive Ao (P' P:Zp)(fz:Prop){α β:Type}(Q:Ren->α->β->Prop):Ren->Sem α->Sem β->Prop
 |pure {ρ:Ren} {a:α} {b:β} (h:Q ρ a b):Ao P' P fz Q ρ (.pure a) (.pure b)
 |load {ρ:Ren} {a a':Addr} {k:Ze->Sem α} {k':Ze->Sem β} (m:Mode) (ha:AR ρ a a') (h:∀v v',VR ρ v v'->Ao P' P fz Q ρ (k v) (k' v')):Ao P' P fz Q ρ (.load m a k) (.load m a' k')
 |store {ρ:Ren} {a a':Addr} {v v':Ze} {k:Sem α} {k':Sem β} (m:Mode) (ha:AR ρ a a') (hv:VR ρ v v') (h:Ao P' P fz Q ρ k k'):Ao P' P fz Q ρ (.store m a v k) (.store m a' v' k')
 |new {ρ:Ren} {o o':Obj} {k:Nat->Sem α} {k':Nat->Sem β} (ho:OR ρ o o') (h:∀r r' σ,ρ.le σ->σ r=some r'->Ao P' P fz Q σ (k r) (k' r')):Ao P' P fz Q ρ (.new o k) (.new o' k')
 |shape {ρ:Ren} {r r':Nat} {k:Option (Zr×Nat)->Sem α} {k':Option (Zr×Nat)->Sem β} (hr:ρ r=some r') (h:∀s,Ao P' P fz Q ρ (k s) (k' s)):Ao P' P fz Q ρ (.shape r k) (.shape r' k')
 |frozen {ρ:Ren} {a a':Addr} {k:Bool->Sem α} {k':Bool->Sem β} (ha:AR ρ a a') (h:∀b b',(b'=true->b=true)->Ao P' P fz Q ρ (k b) (k' b')):Ao P' P fz Q ρ (.frozen a k) (.frozen a' k')
 |getObj {ρ:Ren} {r r':Nat} {k:Obj->Sem α} {k':Obj->Sem β} (hr:ρ r=some r') (h:∀o o',OR ρ o o'->Ao P' P fz Q ρ (k o) (k' o')):Ao P' P fz Q ρ (.getObj r k) (.getObj r' k')
 |setObj {ρ:Ren} {r r':Nat} {o o':Obj} {k:Sem α} {k':Sem β} (hr:ρ r=some r') (ho:OR ρ o o') (hn:¬Quiet o) (h:Ao P' P fz Q ρ k k'):Ao P' P fz Q ρ (.setObj r o k) (.setObj r' o' k')
 |choose {ρ:Ren} {k:Nat->Sem α} {k':Nat->Sem β} (q:Question) (h:∀n,Ao P' P fz Q ρ (k n) (k' n)):Ao P' P fz Q ρ (.choose q k) (.choose q k')
 |program {ρ:Ren} {k:Zp->Sem α} {k':Zp->Sem β} (h:Ao P' P fz Q ρ (k P') (k' P)):Ao P' P fz Q ρ (.program k) (.program k')
 |mark {ρ:Ren} {m m':Mark} {k:Sem α} {k':Sem β} (hm:MkR ρ m m') (h:Ao P' P fz Q ρ k k'):Ao P' P fz Q ρ (.mark m k) (.mark m' k')
 |env {ρ:Ren} {k:SysRet->Sem α} {k':SysRet->Sem β} (h:∀r,Ao P' P fz Q ρ (k r) (k' r)):Ao P' P fz Q ρ (.sys .env k) (.sys .env k')
 |bad {ρ:Ren} {x:Halt} {s':Sem β} (h:Hd x):Ao P' P fz Q ρ (.halt x) s'
 |Hp {ρ:Ren} {s:Sem α} {s':Sem β} (h:∀w es,∃x u f,s.runT P' w es=(.halt x u,f)/\Hd x):Ao P' P fz Q ρ s s'
 |panic {ρ:Ren} {v v':Ze} (h:VR ρ v v'):Ao P' P fz Q ρ (.halt (.panic v)) (.halt (.panic v'))
variable {P' P:Zp}
def KR {s:Sem γ}(h:∀w es,∃x u f,s.runT P' w es=(.halt x u,f)/\Hd x)(f:γ->Sem α):∀w es,∃x u g,(s.bind f).runT P' w es=(.halt x u,g)/\Hd x:=by
 intro w es;obtain⟨x,u,ag3,h1,h2⟩:=h w es;exact⟨x,u,ag3,by rw[zg,h1],h2⟩
section
variable {P' P:Zp}{fz:Prop}{α β γ δ:Type}{Q:Ren->α->β->Prop}{R:Ren->γ->δ->Prop}
def Ao.bind {ρ:Ren}{s:Sem γ}{s':Sem δ}{f:γ->Sem α}{f':δ->Sem β}(h:Ao P' P fz R ρ s s')(hf:∀σ a b,ρ.le σ->R σ a b->Ao P' P fz Q σ (f a) (f' b)):
  Ao P' P fz Q ρ (s.bind f) (s'.bind f'):=by
 induction h with
 |pure h=>exact hf _ _ _ (Ren.le_refl _) h
 |load m ha _ ih=>exact .load m ha fun v v' hv=>ih v v' hv hf
 |store m ha hv _ ih=>exact .store m ha hv (ih hf)
 |new ho _ ih=>exact .new ho fun r r' σ hle hr=>ih r r' σ hle hr fun τ a b Dp=>hf τ a b (Ren.le_trans hle Dp)
 |shape hr _ ih=>exact .shape hr fun s=>ih s hf
 |frozen ha _ ih=>exact .frozen ha fun b b' hb=>ih b b' hb hf
 |getObj hr _ ih=>exact .getObj hr fun o o' ho=>ih o o' ho hf
 |setObj hr ho hn _ ih=>exact .setObj hr ho hn (ih hf)
 |choose q _ ih=>exact .choose q fun n=>ih n hf
 |program _ ih=>exact .program (ih hf)
 |mark hm _ ih=>exact .mark hm (ih hf)
 |env _ ih=>exact .env fun r=>ih r hf
 |Hp h=>exact .Hp (KR h f)
 |bad h=>exact .bad h
 |panic h=>exact .panic h
def Ao.imp {s:Sem α}{s':Sem β}{ag4:Ren->α->β->Prop}(h:Ao P' P fz Q ρ s s')(hq:∀σ a b,ρ.le σ->Q σ a b->ag4 σ a b):Ao P' P fz ag4 ρ s s':=by
 induction h with
 |pure h=>exact .pure (hq _ _ _ (Ren.le_refl _) h)
 |load m ha _ ih=>exact .load m ha fun v v' hv=>ih v v' hv hq
 |store m ha hv _ ih=>exact .store m ha hv (ih hq)
 |new ho _ ih=>exact .new ho fun r r' σ hle hr=>ih r r' σ hle hr fun τ a b Dp=>hq τ a b (Ren.le_trans hle Dp)
 |shape hr _ ih=>exact .shape hr fun s=>ih s hq
 |frozen ha _ ih=>exact .frozen ha fun b b' hb=>ih b b' hb hq
 |getObj hr _ ih=>exact .getObj hr fun o o' ho=>ih o o' ho hq
 |setObj hr ho hn _ ih=>exact .setObj hr ho hn (ih hq)
 |choose q _ ih=>exact .choose q fun n=>ih n hq
 |program _ ih=>exact .program (ih hq)
 |mark hm _ ih=>exact .mark hm (ih hq)
 |env _ ih=>exact .env fun r=>ih r hq
 |Hp h=>exact .Hp h
 |bad h=>exact .bad h
 |panic h=>exact .panic h
end
def FzR.refl (f:Nat×Nat):FzR f f:=.inl rfl
section
variable {ρ:Ren}{w w':Zc}
def Iw.lt (h:Iw ρ w w'){b c:Nat}(hb:ρ b=some c):b<w.heap.size/\c<w'.heap.size:=by
 obtain⟨o,o',h1,h2,_⟩:=h.obj b c hb;exact⟨(Za.1 h1).1,(Za.1 h2).1⟩
def Iw.cell (h:Iw ρ w w'){a a':Addr}(ha:AR ρ a a'){v:Ze}(hv:w.cell? a=some v):∃v',w'.cell? a'=some v'/\VR ρ v v':=by
 obtain⟨o,o',h1,h2,h3⟩:=h.obj _ _ ha.1;cases h3 with
 |cells e hc hf=>
  simp only[zG,h1,h2,ha.2.1,ha.2.2]at hv⊢;split at hv
  .cases hv
  .rw[if_neg ‹_›];exact hc.get hv
 |_=>simp[zG,h1]at hv
def Iw.far (h:Iw ρ w w'){a:Addr}(ha:AR ρ a a')(P:Zp)(m:Bool):∃x,w.farLoad P a m=.error x/\Hd x:=by
 obtain⟨o,o',h1,_,h3⟩:=h.obj _ _ ha.1;unfold World.farLoad World.noCell;rw[h1];cases h3<;>exact⟨_,rfl,trivial⟩
def Iw.amF (h:Iw ρ w w'){a:Addr}(ha:AR ρ a a')(P:Zp)(v:Ze)(m:Bool):∃x,w.farStore P a v m=.error x/\Hd x:=by
 obtain⟨o,o',h1,_,h3⟩:=h.obj _ _ ha.1;unfold World.farStore World.noCell;rw[h1];cases h3<;>exact⟨_,rfl,trivial⟩
def Iw.shape (h:Iw ρ w w'){b c:Nat}(hb:ρ b=some c):w'.shape? c=w.shape? b:=by
 obtain⟨o,o',h1,h2,h3⟩:=h.obj _ _ hb;cases h3 with
 |cells e hc hf=>simp[Yx,h1,h2,hc.1]
 | @junk o' h=>cases o'<;>first|(simp[Yx,h1,h2];done)|cases h
 |_=>simp[Yx,h1,h2]
variable {l l' i n r r' N:Nat}
def FzR.at {f f':Nat×Nat}(h:FzR f f')(hi:f'.1<=i/\i<f'.2):f.1<=i/\i<f.2:=by
 rcases h with rfl|h|h
 .exact hi
 .omega
 .omega
def Iw.frozen (h:Iw ρ w w'){a a':Addr}(ha:AR ρ a a')(hf:w'.frozen? a'=true):w.frozen? a=true:=by
 obtain⟨o,o',h1,h2,h3⟩:=h.obj _ _ ha.1;cases h3 with
 | @cells c c' e f f' hc hfz=>
  obtain⟨lo,hi⟩:=f;obtain⟨lo',Da⟩:=f';simp only[Yy,h1,h2,ha.2.1,ZI,decide_eq_true_eq]at hf⊢;exact hfz.at hf
 | @junk o' h=>cases o'<;>first|(simp[Yy,h2]at hf;done)|cases h
 |_=>simp[Yy,h2]at hf
def vm {w:Zc}{a:Addr}(h:w.cell? a=some v){t:Zr}(hs:w.shape? a.block=some (t,n)):a.off<n:=by
 unfold zG at h;unfold Yx at hs;cases ho:w.heap[a.block]? with
 |none=>rw[ho]at h;cases h
 |some o=>
  rw[ho]at h hs;cases o with
  |cells c e f=>
   dsimp only at h hs;cases hs;split at h
   .cases h
   .exact(Za.1 h).1
  |_=>cases h
def Ix {w:Zc}{b:Nat}{f:Obj->Obj}(i:Nat):(w.heap.modify b f)[i]?=if b=i then(w.heap[i]?).map f else w.heap[i]? :=by
 rw[Zac]
def Sp (w:Zc)(a:Addr)(v:Ze)(b:Addr):(w.setCell a v).frozen? b=w.frozen? b:=by
 unfold Yy zb;simp only[Ix];by_cases e:a.block=b.block
 .rw[if_pos e]
  cases w.heap[b.block]? with
  |none=>rfl
  |some o=>cases o<;>rfl
 .rw[if_neg e]
def UH (w:Zc)(a:Addr)(v:Ze)(b:Nat):(w.setCell a v).shape? b=w.shape? b:=by
 unfold Yx zb;simp only[Ix];by_cases e:a.block=b
 .rw[if_pos e]
  cases w.heap[b]? with
  |none=>rfl
  |some o=>cases o<;>first|rfl|(dsimp only[Zdz];split<;>simp)
 .rw[if_neg e]
def Iw.setCell (h:Iw ρ w w'){a:Addr}(ha:AR ρ a a')(hv:VR ρ v v'):Iw ρ (w.setCell a v) (w'.setCell a' v'):=by
 refine⟨fun b c hb=>?_,h.tape,h.os⟩;obtain⟨o,o',h1,h2,h3⟩:=h.obj _ _ hb;simp only[zb,Ix];by_cases e:a.block=b
 .have e':a'.block=c:=by
   have:=ha.1;rw[e,hb]at this;cases this;rfl
  rw[if_pos e,if_pos e',h1,h2];refine⟨_,_,rfl,rfl,?_⟩;cases h3 with
  |cells e hc hf=>
   refine .cells e ?_ hf;rw[ha.2.1,ha.2.2];split
   .exact hc
   .exact hc.set hv _
  |map k x=>exact .map k x
  |chan cap cl s r tm x=>exact .chan cap cl s r tm x
  |stringIter s p=>exact .stringIter s p
  |mapIter x s k m=>exact .mapIter x s k m
  |number l a=>exact .number l a
  |loop l=>exact .loop l
  |Fs=>exact .Fs
  | @junk o' h=>cases o'<;>first|exact .junk rfl|cases h
  |deferred=>exact .deferred
 .have e':¬a'.block=c:=fun x=>e (ρ.inj _ _ _ ha.1 (x▸hb))
  rw[if_neg e,if_neg e'];exact⟨o,o',h1,h2,h3⟩
def Iw.fresh (h:Iw ρ w w'):ρ.QV w.heap.size w'.heap.size:=⟨fun b hb=>absurd (h.lt hb).2 (by omega),(h.lt ρ.base).1,(h.lt ρ.base).2⟩
def Iw.pG (h:Iw ρ w w'):ρ.le (ρ.ext w.heap.size w'.heap.size h.fresh):=by
 refine⟨fun b c hb=>?_,rfl,rfl,rfl⟩;have:=(h.lt hb).1;show(if b=w.heap.size then some w'.heap.size else ρ b)=some c;rw[if_neg (by omega)];exact hb
def Iw.new (h:Iw ρ w w'){o o':Obj}(ho:OR ρ o o'):Iw (ρ.ext w.heap.size w'.heap.size h.fresh) {w with heap:=w.heap.push o} {w' with heap:=w'.heap.push o'}:=by
 have hle:=h.pG;refine⟨fun b c hb=>?_,h.tape,h.os⟩;dsimp only[Ren.ext]at hb;split at hb
 .cases hb
  refine⟨o,o',?_,?_,ho.mono hle⟩
  .subst b;simp
  .simp
 .obtain⟨x,x',h1,h2,h3⟩:=h.obj _ _ hb
  have:=h.lt hb;refine⟨x,x',?_,?_,h3.mono hle⟩
  .rw[YO];rw[if_neg (by omega)];exact h1
  .rw[YO];rw[if_neg (by omega)];exact h2
def Iw.setObj (h:Iw ρ w w'){r r':Nat}(hr:ρ r=some r'){o o':Obj}(ho:OR ρ o o'):Iw ρ {w with heap:=w.heap.setIfInBounds r o} {w' with heap:=w'.heap.setIfInBounds r' o'}:=by
 refine⟨fun b c hb=>?_,h.tape,h.os⟩;have hl:=h.lt hb;by_cases e:r=b
 .have e':r'=c:=by rw[e,hb]at hr;cases hr;rfl
  refine⟨o,o',?_,?_,ho⟩
  .simp only[za,if_pos e];rw[if_pos (by omega)]
  .simp only[za,if_pos e'];rw[if_pos (by omega)]
 .have e':¬r'=c:=fun x=>e (ρ.inj _ _ _ hr (x▸hb))
  obtain⟨x,x',h1,h2,h3⟩:=h.obj _ _ hb;refine⟨x,x',?_,?_,h3⟩
  .simp only[za,if_neg e];exact h1
  .simp only[za,if_neg e'];exact h2
def Iw.drew (h:Iw ρ w w'):Iw ρ {w with drawn:=w.drawn+1} {w' with drawn:=w'.drawn+1}:=
 ⟨h.obj,fun i q=>by have:=h.tape (i+1) q;rw[<-Zb4, <-Zb4]at this;simpa[Nat.add_right_comm]using this,h.os⟩
end
variable {o o':Obj}
def NJ {a:Addr}{b:Nat}(hq:Quiet o)(h:(w.setCell a v).heap[b]?=some o):w.heap[b]?=some o:=by
 simp only[zb,Zac]at h;split at h
 .cases ho:w.heap[b]? with
  |none=>rw[ho]at h;cases h
  |some p=>
   rw[ho]at h;cases p<;>first|exact h|(simp at h;subst h;cases hq)
 .exact h
structure JQ (fz:Prop)(ρ σ:Ren)(w w₁ w' w₁':Zc)(d:Array zc):Prop where
 size:w.heap.size<=w₁.heap.size
 NK:w'.heap.size<=w₁'.heap.size
 fresh:∀b c,σ b=some c->ρ b=some c\/(w.heap.size<=b/\w'.heap.size<=c)
 new:∀c,w'.heap.size<=c->c<w₁'.heap.size->∃b,σ b=some c/\w.heap.size<=b
 still:∀c,c<w'.heap.size->w₁'.heap[c]?=w'.heap[c]?\/(∃b,ρ b=some c/\(fz\/∃e∈d,e.write=true/\((∃a:Addr,a.block=b/\e.loc=.cell a)\/e.loc=.obj b)))
 Sr:∀e∈d,e.write=true->∀a,e.loc=.cell a->a.block<w.heap.size->w.frozen? a=false/\∀t n,w.shape? a.block=some (t,n)->a.off<n
 frozen:∀a:Addr,a.block<w.heap.size->w.frozen? a=true->w₁.frozen? a=true
 os:w₁'.os=w'.os
 tape:w₁'.tape=w'.tape
 output:w₁'.output=w'.output
 Qf:w₁.tape=w.tape
 drawn:w.drawn<=w₁.drawn
 pH:∀e∈d,e.write=true->∀r,e.loc=.obj r->r<w.heap.size->w.shape? r=none
 shape:∀b t n,b<w.heap.size->w.shape? b=some (t,n)->w₁.shape? b=some (t,n)
 awake:∀b o,Quiet o->b<w.heap.size->w₁.heap[b]?=some o->w.heap[b]?=some o/\∀e∈d,e.write=true->e.loc≠ .obj b/\∀a:Addr,a.block=b->e.loc≠ .cell a
def JQ.refl (fz:Prop)(ρ:Ren)(w w':Zc):JQ fz ρ ρ w w w' w' #[]:=
 ⟨Zj _,Zj _,fun _ _ h=>.inl h,fun _ h k=>absurd k (by omega),fun _ _=>.inl rfl,fun e h=>by simp at h,fun _ _ h=>h,rfl,rfl,rfl,rfl,Zj _,fun e h=>by simp at h,fun _ _ _ _ h=>h,fun _ _ _ _ h=>⟨h,fun e he=>by simp at he⟩⟩
variable {fz:Prop}
variable {d d' Hq es:Array zc}
def JQ.trans (h:JQ fz ρ τ w w₁ w' w₁' d)(k:JQ fz τ σ w₁ w₂ w₁' CN Hq)(hle:τ.le σ):
  JQ fz ρ σ w w₂ w' CN (d++Hq):=by
 refine⟨Zt h.size k.size,Zt h.NK k.NK,fun b c hb=>?_,fun c h1 h2=>?_,fun c hc=>?_,fun e he hw a ha hl=>?_,fun a ha hf=>k.frozen a (Zm ha h.size) (h.frozen a ha hf),k.os.trans h.os,k.tape.trans h.tape,k.output.trans h.output,k.Qf.trans h.Qf,Zt h.drawn k.drawn,fun e he hw r hr hl=>?_,fun b t n hl hs=>k.shape b t n (Zm hl h.size) (h.shape b t n hl hs),fun b o hq hl hj=>?_⟩
 .rcases k.fresh b c hb with x|⟨x,y⟩
  .exact h.fresh b c x
  .exact .inr ⟨Zt h.size x,Zt h.NK y⟩
 .rcases Zaw c w₁'.heap.size with x|x
  .obtain⟨b,hb,hs⟩:=h.new c h1 x
   exact⟨b,hle.1 _ _ hb,hs⟩
  .obtain⟨b,hb,hs⟩:=k.new c x h2
   exact⟨b,hb,Zt h.size hs⟩
 .rcases k.still c (Zm hc h.NK) with x|⟨b,hb,x⟩
  .rcases h.still c hc with y|⟨b,hb,y⟩
   .exact .inl (x.trans y)
   .exact .inr ⟨b,hb,y.imp id fun⟨e,he,z⟩=>⟨e,ZaN.2 (.inl he),z⟩⟩
  .rcases h.fresh b c hb with y|⟨_,y⟩
   .exact .inr ⟨b,y,x.imp id fun⟨e,he,z⟩=>⟨e,ZaN.2 (.inr he),z⟩⟩
   .omega
 .rcases ZaN.1 he with x|x
  .exact h.Sr e x hw a ha hl
  .have:=k.Sr e x hw a ha (Zm hl h.size)
   refine⟨?_,fun t n hs=>this.2 t n (h.shape _ t n hl hs)⟩;cases hf:w.frozen? a with
   |false=>rfl
   |true=>rw[h.frozen a hl hf]at this;cases this.1
 .rcases ZaN.1 he with x|x
  .exact h.pH e x hw r hr hl
  .have:=k.pH e x hw r hr (Zm hl h.size)
   cases hs:w.shape? r with
   |none=>rfl
   |some p=>obtain⟨t,n⟩:=p;rw[h.shape r t n hl hs]at this;cases this
 .obtain⟨h1,h2⟩:=k.awake b o hq (Zm hl h.size) hj
  obtain⟨h3,h4⟩:=h.awake b o hq hl h1;exact⟨h3,fun e he hw=>(ZaN.1 he).elim (fun x=>h4 e x hw) fun x=>h2 e x hw⟩
def _root_.Go.Result.world {α:Type}:Result α->Zc
 | .ok _ w=>w
 | .halt _ w=>w
def pI {α:Type}(r:Result α):Prop:=∃x u,r=.halt x u/\Hd x
inductive vp {α β:Type}(Q:Ren->α->β->Prop)(σ:Ren):Result α->Result β->Prop
 |ok {a:α} {b:β} {w w':Zc} (h:Q σ a b):vp Q σ (.ok a w) (.ok b w')
 |panic {v v':Ze} {w w':Zc} (h:VR σ v v'):vp Q σ (.halt (.panic v) w) (.halt (.panic v') w')
def _root_.Go.Result.tp {α:Type}(r:Result α)(t:Tape):Result α:=
 match r with
 | .ok a w=>.ok a {w with tape:=t}
 | .halt h w=>.halt h {w with tape:=t}
def lD {α:Type}(P':Zp)(s:Sem α)(w:Zc)(es:Array zc)(r:Result α)(f:Array zc):Prop:=
 ∀t:Tape,(∀i,w.drawn<=i->i<r.world.drawn->t i=w.tape i)->s.runT P' {w with tape:=t} es=(r.tp t,f)
def Ao.run {Q:Ren->α->β->Prop}{s:Sem α}{s':Sem β}(h:Ao P' P fz Q ρ s s'):
  ∀(w w':Zc),Iw ρ w w'->∀(es BH:Array zc) r f,s.runT P' w es=(r,f)->¬pI r->
   ∃σ r' d d',ρ.le σ/\f=es++d/\s'.runT P w' BH=(r',BH++d')/\vp Q σ r r'/\Iw σ r.world r'.world/\BG (uu σ) d d'/\JQ fz ρ σ w r.world w' r'.world d/\lD P' s w es r f:=by
 induction h with
 | @pure ρ a b h=>
  intro w w' hw es BH r f hr _;rw[ZM]at hr;cases hr;exact⟨ρ,.ok b w',#[],#[],Ren.le_refl _,by simp,by rw[ZM];simp,.ok h,hw,BG.nil,JQ.refl _ _ _ _,fun t _=>by rw[ZM];rfl⟩
 | @load ρ a a' k k' m ha _ ih=>
  intro w w' hw es BH r f hr CO;rw[ZM]at hr;cases hc:w.cell? a with
  |none=>
   rw[hc]at hr;obtain⟨x,hx,hnp⟩:=hw.far ha P' (m== .atomic);rw[hx]at hr;cases hr;exact(CO ⟨_,_,rfl,hnp⟩).elim
  |some v=>
   rw[hc]at hr;obtain⟨v',Vm,hvr⟩:=hw.cell ha hc;obtain⟨σ,r',d,d',h1,h2,h3,h4,h5,h6,h7,h8⟩:=ih v v' hvr w w' hw (es.push ⟨.cell a,false,m== .atomic⟩) (BH.push ⟨.cell a',false,m== .atomic⟩) r f hr CO;refine⟨σ,r',#[⟨.cell a,false,m== .atomic⟩]++d,#[⟨.cell a',false,m== .atomic⟩]++d',h1,by rw[h2];simp,?_,h4,h5,(BG.single ⟨.cell (ha.mono h1),rfl,.inl rfl⟩).append h6,?_,fun t ht=>by rw[ZM,show zG {w with tape:=t} a=some v from hc];exact h8 t ht⟩
   .rw[ZM,Vm];simp only[];rw[h3];simp
   .refine JQ.trans (w₁:=w) (w₁':=w') (τ:=ρ) ⟨Zj _,Zj _,fun _ _ h=>.inl h,fun _ h k=>absurd k (by omega),fun _ _=>.inl rfl,fun e he Ru=>?_,fun _ _ h=>h,rfl,rfl,rfl,rfl,Zj _,fun e he Ru=>(by simp at he;subst he;cases Ru),fun _ _ _ _ h=>h,fun _ _ _ _ hj=>⟨hj,fun e he hw=>by simp at he;subst he;first|(cases hw;done)|exact⟨(fun x=>by cases x),(fun _ _ x=>by cases x)⟩⟩⟩ h7 h1
    simp at he;subst he;cases Ru
 | @store ρ a a' v v' k k' m ha hv _ ih=>
  intro w w' hw es BH r f hr CO;by_cases hag:(∃x,v=.agg x)\/(∃x,v=.tuple x)
  .rcases hag with⟨x,rfl⟩|⟨x,rfl⟩<;>(simp only[ZM]at hr;cases hr;exact(CO ⟨_,_,rfl,trivial⟩).elim)
  have hL:∀(p:Zp) (u:Zc) (g:Array zc) (b:Addr) (x:Ze) (kk:Sem α),(¬((∃y,x=.agg y)\/(∃y,x=.tuple y)))->(Sem.store m b x kk).runT p u g=match u.cell? b with
    |some _=>if u.frozen? b then(.halt (.unsupported (.unsafePointer "a write to bytes that a string shares")) u,g) else kk.runT p (u.setCell b x) (g.push ⟨.cell b,true,m== .atomic⟩)
    |none=>match u.farStore p b x (m== .atomic) with
     | .ok (u,touched)=>kk.runT p u (g++touched.toArray.map (⟨.cell ·,true,m== .atomic⟩))
     | .error h=>(.halt h u,g):=by
   intro p u g b x kk hx;cases x<;>first|exact absurd (.inl ⟨_,rfl⟩) hx|exact absurd (.inr ⟨_,rfl⟩) hx|rfl
  have Ut:∀(p:Zp) (u:Zc) (g:Array zc) (b:Addr) (x:Ze) (kk:Sem β),(¬((∃y,x=.agg y)\/(∃y,x=.tuple y)))->(Sem.store m b x kk).runT p u g=match u.cell? b with
    |some _=>if u.frozen? b then(.halt (.unsupported (.unsafePointer "a write to bytes that a string shares")) u,g) else kk.runT p (u.setCell b x) (g.push ⟨.cell b,true,m== .atomic⟩)
    |none=>match u.farStore p b x (m== .atomic) with
     | .ok (u,touched)=>kk.runT p u (g++touched.toArray.map (⟨.cell ·,true,m== .atomic⟩))
     | .error h=>(.halt h u,g):=by
   intro p u g b x kk hx;cases x<;>first|exact absurd (.inl ⟨_,rfl⟩) hx|exact absurd (.inr ⟨_,rfl⟩) hx|rfl
  rw[hL _ _ _ _ _ _ hag]at hr;have amI:¬((∃y,v'=.agg y)\/(∃y,v'=.tuple y)):=by
   rintro(⟨y,rfl⟩|⟨y,rfl⟩)<;>cases hv<;>first|exact hag (.inl ⟨_,rfl⟩)|exact hag (.inr ⟨_,rfl⟩)
  cases hc:w.cell? a with
  |none=>
   rw[hc]at hr;obtain⟨x,hx,hnp⟩:=hw.amF ha P' v (m== .atomic);rw[hx]at hr;cases hr;exact(CO ⟨_,_,rfl,hnp⟩).elim
  |some u=>
   rw[hc]at hr;obtain⟨u',O',_⟩:=hw.cell ha hc;simp only[]at hr;split at hr
   .cases hr;exact(CO ⟨_,_,rfl,trivial⟩).elim
   .rename_i uv
    have amJ:¬w'.frozen? a'=true:=fun x=>uv (hw.frozen ha x);obtain⟨σ,r',d,d',h1,h2,h3,h4,h5,h6,h7,h8⟩:=ih (w.setCell a v) (w'.setCell a' v') (hw.setCell ha hv) (es.push ⟨.cell a,true,m== .atomic⟩) (BH.push ⟨.cell a',true,m== .atomic⟩) r f hr CO;refine⟨σ,r',#[⟨.cell a,true,m== .atomic⟩]++d,#[⟨.cell a',true,m== .atomic⟩]++d',h1,by rw[h2];simp,?_,h4,h5,(BG.single ⟨.cell (ha.mono h1),rfl,.inl rfl⟩).append h6,?_,fun t ht=>by rw[hL _ _ _ _ _ _ hag,show zG {w with tape:=t} a=some u from hc];simp only[];rw[if_neg (show¬Yy {w with tape:=t} a=true from uv)];exact h8 t ht⟩
    .rw[Ut _ _ _ _ _ _ amI,O'];simp only[];rw[if_neg amJ,h3];simp
    .refine JQ.trans (w₁:=w.setCell a v) (w₁':=w'.setCell a' v') (τ:=ρ) ⟨by simp[zb],by simp[zb],fun _ _ h=>.inl h,fun _ h k=>absurd k (by simp[zb];omega),fun c _=>?_,fun e he _ b hb _=>?_,fun b _ hb=>?_,rfl,rfl,rfl,rfl,Zj _,fun e he _ r hr=>(by simp at he;subst he;cases hr),fun b t n _ h=>by rw[UH];exact h,fun b o hq _ hj=>?_⟩ h7 h1
     .by_cases e:a'.block=c
      .exact .inr ⟨a.block,e▸ha.1,.inr ⟨⟨.cell a,true,m== .atomic⟩,by simp,rfl,.inl ⟨a,rfl,rfl⟩⟩⟩
      .refine .inl ?_
       simp only[zb,Ix];rw[if_neg e]
     .simp at he;subst he;cases hb;exact⟨by simpa using uv,fun t n hs=>vm hc hs⟩
     .rw[Sp];exact hb
     .have Bn:b≠a.block:=by
       rintro rfl;have:=NJ hq hj;unfold zG at hc;rw[this]at hc;cases hq<;>cases hc
      refine⟨NJ hq hj,fun e he _=>?_⟩;simp at he;subst he;exact⟨fun x=>(by cases x),fun a' ha' x=>by cases x;exact Bn ha'.symm⟩
 | @new ρ o o' k k' ho _ ih=>
  intro w w' hw es BH r f hr CO;rw[ZM]at hr;have hle:=hw.pG;obtain⟨σ,r',d,d',h1,h2,h3,h4,h5,h6,h7,h8⟩:=ih w.heap.size w'.heap.size (ρ.ext w.heap.size w'.heap.size hw.fresh) hle (by simp[Ren.ext]) {w with heap:=w.heap.push o} {w' with heap:=w'.heap.push o'} (hw.new ho) es BH r f hr CO;refine⟨σ,r',d,d',Ren.le_trans hle h1,h2,by rw[ZM];exact h3,h4,h5,h6,?_,fun t ht=>by rw[ZM];exact h8 t ht⟩;have:=JQ.trans (fz:=fz) (d:= #[]) (w:=w) (w':=w') (w₁:= {w with heap:=w.heap.push o}) (w₁':= {w' with heap:=w'.heap.push o'}) (ρ:=ρ) (τ:=ρ.ext w.heap.size w'.heap.size hw.fresh) ⟨by simp,by simp,fun b c hb=>?_,fun c h k=>⟨w.heap.size,by rw[Array.size_push]at k;dsimp only[Ren.ext];rw[if_pos rfl,show c=w'.heap.size from by omega],Zj _⟩,fun c hc=>.inl ?_,fun e h=>by simp at h,fun a hl ha=>?_,rfl,rfl,rfl,rfl,Zj _,fun e h=>(by simp at h),fun b t n hl h=>by unfold Yx at*;simp only[YO];rw[if_neg (by omega)];exact h,fun b o hq hl hj=>⟨by simp only[YO]at hj;rw[if_neg (by omega)]at hj;exact hj,fun e he=>by simp at he⟩⟩ h7 h1
  .simpa using this
  .dsimp only[Ren.ext]at hb
   split at hb
   .cases hb;exact .inr ⟨by omega,Zj _⟩
   .exact .inl hb
  .simp only[YO];rw[if_neg (by omega)]
  .unfold Yy at*
   simp only[YO];rw[if_neg (by omega)];exact ha
 | @shape ρ x x' k k' Qg _ ih=>
  intro w w' hw es BH r f hr CO;rw[ZM]at hr;obtain⟨σ,r',d,d',h1,h2,h3,h4,h5,h6,h7,h8⟩:=ih _ w w' hw es BH r f hr CO;exact⟨σ,r',d,d',h1,h2,by rw[ZM,hw.shape Qg];exact h3,h4,h5,h6,h7,fun t ht=>by rw[ZM];exact h8 t ht⟩
 | @frozen ρ a a' k k' ha _ ih=>
  intro w w' hw es BH r f hr CO;rw[ZM]at hr;obtain⟨σ,r',d,d',h1,h2,h3,h4,h5,h6,h7,h8⟩:=ih (w.frozen? a) (w'.frozen? a') (hw.frozen ha) w w' hw es BH r f hr CO;exact⟨σ,r',d,d',h1,h2,by rw[ZM];exact h3,h4,h5,h6,h7,fun t ht=>by rw[ZM];exact h8 t ht⟩
 | @getObj ρ x x' k k' hx _ ih=>
  intro w w' hw es BH r f hr CO;rw[ZM]at hr;obtain⟨o,o',ho,aM,hoo⟩:=hw.obj _ _ hx;rw[ho]at hr;by_cases hcell:∃c e fr,o=.cells c e fr
  .obtain⟨c,e,fr,rfl⟩:=hcell
   cases hr;exact(CO ⟨_,_,rfl,trivial⟩).elim
  have QX:(k o).runT P' w (es.push ⟨.obj x,false,o.isChan⟩)=(r,f):=by
   cases o<;>first|exact absurd ⟨_,_,_,rfl⟩ hcell|exact hr
  obtain⟨σ,r',d,d',h1,h2,h3,h4,h5,h6,h7,h8⟩:=ih o o' hoo w w' hw (es.push ⟨.obj x,false,o.isChan⟩) (BH.push ⟨.obj x',false,o'.isChan⟩) r f QX CO;refine⟨σ,r',#[⟨.obj x,false,o.isChan⟩]++d,#[⟨.obj x',false,o'.isChan⟩]++d',h1,by rw[h2];simp,?_,h4,h5,(BG.single ⟨.obj (h1.1 _ _ hx),rfl,.inr ⟨_,rfl⟩⟩).append h6,?_,fun t ht=>by rw[ZM,show({w with tape:=t}:Zc).heap[x]?=some o from ho];cases o<;>first|exact absurd ⟨_,_,_,rfl⟩ hcell|exact h8 t ht⟩
  .rw[ZM,aM]
   have:(k' o').runT P w' (BH.push ⟨.obj x',false,o'.isChan⟩)=(r',BH++(#[⟨.obj x',false,o'.isChan⟩]++d')):=by rw[h3];simp
   cases hoo<;>first|exact absurd ⟨_,_,_,rfl⟩ hcell|exact this|skip
   rename_i hj;cases o'<;>first|exact this|cases hj
  .refine JQ.trans (w₁:=w) (w₁':=w') (τ:=ρ) ⟨Zj _,Zj _,fun _ _ h=>.inl h,fun _ h k=>absurd k (by omega),fun _ _=>.inl rfl,fun e he Ru=>?_,fun _ _ h=>h,rfl,rfl,rfl,rfl,Zj _,fun e he Ru=>(by simp at he;subst he;cases Ru),fun _ _ _ _ h=>h,fun _ _ _ _ hj=>⟨hj,fun e he hw=>by simp at he;subst he;first|(cases hw;done)|exact⟨(fun x=>by cases x),(fun _ _ x=>by cases x)⟩⟩⟩ h7 h1
   simp at he;subst he;cases Ru
 | @setObj ρ x x' o o' k k' hx hoo hn _ ih=>
  intro w w' hw es BH r f hr CO;rw[ZM]at hr;obtain⟨u,u',hu,O',huu⟩:=hw.obj _ _ hx;rw[hu]at hr;by_cases hcell:∃c e fr,u=.cells c e fr
  .obtain⟨c,e,fr,rfl⟩:=hcell
   cases hr;exact(CO ⟨_,_,rfl,trivial⟩).elim
  have QX:k.runT P' {w with heap:=w.heap.setIfInBounds x o} (es.push ⟨.obj x,true,o.isChan⟩)=(r,f):=by
   cases u<;>first|exact absurd ⟨_,_,_,rfl⟩ hcell|exact hr
  obtain⟨σ,r',d,d',h1,h2,h3,h4,h5,h6,h7,h8⟩:=ih _ _ (hw.setObj hx hoo) (es.push ⟨.obj x,true,o.isChan⟩) (BH.push ⟨.obj x',true,o'.isChan⟩) r f QX CO;refine⟨σ,r',#[⟨.obj x,true,o.isChan⟩]++d,#[⟨.obj x',true,o'.isChan⟩]++d',h1,by rw[h2];simp,?_,h4,h5,(BG.single ⟨.obj (h1.1 _ _ hx),rfl,.inr ⟨_,rfl⟩⟩).append h6,?_,fun t ht=>by rw[ZM,show({w with tape:=t}:Zc).heap[x]?=some u from hu];cases u<;>first|exact absurd ⟨_,_,_,rfl⟩ hcell|exact h8 t ht⟩
  .rw[ZM,O']
   have:k'.runT P {w' with heap:=w'.heap.setIfInBounds x' o'} (BH.push ⟨.obj x',true,o'.isChan⟩)=(r',BH++(#[⟨.obj x',true,o'.isChan⟩]++d')):=by rw[h3];simp
   cases huu<;>first|exact absurd ⟨_,_,_,rfl⟩ hcell|exact this|skip
   rename_i hj;cases u'<;>first|exact this|cases hj
  .refine JQ.trans (w₁:= {w with heap:=w.heap.setIfInBounds x o}) (w₁':= {w' with heap:=w'.heap.setIfInBounds x' o'}) (τ:=ρ) ⟨by simp,by simp,fun _ _ h=>.inl h,fun _ h k=>absurd k (by simp;omega),fun c _=>?_,fun e he _ b hb _=>?_,fun b _ hb=>?_,rfl,rfl,rfl,rfl,Zj _,fun e he _ y hy _=>(by simp at he;subst he;cases hy;unfold Yx;rw[hu];cases u<;>first|exact absurd ⟨_,_,_,rfl⟩ hcell|rfl),fun b t n _ h=>by(unfold Yx at*;simp only[za];by_cases e:x=b;(rw[<-e,hu]at h;cases u<;>first|exact absurd ⟨_,_,_,rfl⟩ hcell|cases h);(rw[if_neg e];exact h)),fun b p hq hb hj=>?_⟩ h7 h1
   .by_cases e:x'=c
    .exact .inr ⟨x,e▸hx,.inr ⟨⟨.obj x,true,o.isChan⟩,by simp,rfl,.inr rfl⟩⟩
    .refine .inl ?_
     simp only[za,if_neg e]
   .simp at he;subst he;cases hb
   .unfold Yy at*
    simp only[za];by_cases e:x=b.block
    .rw[<-e,hu]at hb
     cases u<;>first|exact absurd ⟨_,_,_,rfl⟩ hcell|cases hb
    .rw[if_neg e];exact hb
   .have vq:x≠b:=by
     rintro rfl;simp only[za,if_true]at hj;rw[if_pos hb]at hj;rw[ZK hj]at hn;exact hn hq
    simp only[za,if_neg vq]at hj;refine⟨hj,fun e he _=>?_⟩;simp at he;subst he;exact⟨fun x=>(by cases x;exact vq rfl),fun _ _ x=>by cases x⟩
 | @choose ρ k k' q _ ih=>
  intro w w' hw es BH r f hr CO;rw[ZM]at hr;split at hr
  .obtain⟨σ,r',d,d',h1,h2,h3,h4,h5,h6,h7,h8⟩:=ih 0 w w' hw es BH r f hr CO
   exact⟨σ,r',d,d',h1,h2,by rw[ZM,if_pos ‹_›];exact h3,h4,h5,h6,h7,fun t ht=>by rw[ZM,if_pos ‹_›];exact h8 t ht⟩
  .have ht:w.tape w.drawn q=w'.tape w'.drawn q:=by simpa using hw.tape 0 q
   obtain⟨σ,r',d,d',h1,h2,h3,h4,h5,h6,h7,h8⟩:=ih (q.cut (w.tape w.drawn q)) _ _ hw.drew es BH r f hr CO;refine⟨σ,r',d,d',h1,h2,by rw[ZM,if_neg ‹_›, <-ht];exact h3,h4,h5,h6,?_,fun t hz=>by rw[ZM,if_neg ‹_›];have e:t w.drawn=w.tape w.drawn:=hz _ (Zj _) h7.drawn;show(k (q.cut (t w.drawn q))).runT P' _ _=_;rw[e];exact h8 t (fun i a b=>hz i (Zbj a) b)⟩;exact⟨h7.size,h7.NK,h7.fresh,h7.new,h7.still,h7.Sr,h7.frozen,h7.os,h7.tape,h7.output,h7.Qf,Zbj h7.drawn,h7.pH,h7.shape,h7.awake⟩
 |program _ ih=>
  intro w w' hw es BH r f hr CO;rw[ZM]at hr;obtain⟨σ,r',d,d',h1,h2,h3,h4,h5,h6,h7,h8⟩:=ih w w' hw es BH r f hr CO;exact⟨σ,r',d,d',h1,h2,by rw[ZM];exact h3,h4,h5,h6,h7,fun t ht=>by rw[ZM];exact h8 t ht⟩
 | @mark ρ m m' k k' hm _ ih=>
  intro w w' hw es BH r f hr CO;rw[ZM]at hr;obtain⟨σ,r',d,d',h1,h2,h3,h4,h5,h6,h7,h8⟩:=ih w w' hw (es.push ⟨.mark m,false,true⟩) (BH.push ⟨.mark m',false,true⟩) r f hr CO;refine⟨σ,r',#[⟨.mark m,false,true⟩]++d,#[⟨.mark m',false,true⟩]++d',h1,by rw[h2];simp,by rw[ZM,h3];simp,h4,h5,(BG.single ⟨.mark (hm.mono h1),rfl,.inl rfl⟩).append h6,?_,fun t ht=>by rw[ZM];exact h8 t ht⟩;refine JQ.trans (w₁:=w) (w₁':=w') (τ:=ρ) ⟨Zj _,Zj _,fun _ _ h=>.inl h,fun _ h k=>absurd k (by omega),fun _ _=>.inl rfl,fun e he Ru=>?_,fun _ _ h=>h,rfl,rfl,rfl,rfl,Zj _,fun e he Ru=>(by simp at he;subst he;cases Ru),fun _ _ _ _ h=>h,fun _ _ _ _ hj=>⟨hj,fun e he hw=>by simp at he;subst he;first|(cases hw;done)|exact⟨(fun x=>by cases x),(fun _ _ x=>by cases x)⟩⟩⟩ h7 h1;simp at he;subst he;cases Ru
 | @env ρ k k' _ ih=>
  intro w w' hw es BH r f hr CO;rw[ZM]at hr;have e1:∀u:Zc,u.sys .env=(.strings u.os.env,u):=fun u=>rfl;rw[e1]at hr;obtain⟨σ,r',d,d',h1,h2,h3,h4,h5,h6,h7,h8⟩:=ih (.strings w.os.env) w w' hw (es.push ⟨.output,true,false⟩) (BH.push ⟨.output,true,false⟩) r f hr CO;refine⟨σ,r',#[⟨.output,true,false⟩]++d,#[⟨.output,true,false⟩]++d',h1,by rw[h2];simp,?_,h4,h5,(BG.single ⟨.output,rfl,.inl rfl⟩).append h6,?_,fun t ht=>by rw[ZM,e1];exact h8 t ht⟩
  .rw[ZM,e1];simp only[hw.os];rw[h3];simp
  .refine JQ.trans (w₁:=w) (w₁':=w') (τ:=ρ) ⟨Zj _,Zj _,fun _ _ h=>.inl h,fun _ h k=>absurd k (by omega),fun _ _=>.inl rfl,fun e he _ a ha=>?_,fun _ _ h=>h,rfl,rfl,rfl,rfl,Zj _,fun e he _ r hr=>(by simp at he;subst he;cases hr),fun _ _ _ _ h=>h,fun _ _ _ _ hj=>⟨hj,fun e he hw=>by simp at he;subst he;first|(cases hw;done)|exact⟨(fun x=>by cases x),(fun _ _ x=>by cases x)⟩⟩⟩ h7 h1
   simp at he;subst he;cases ha
 | @Hp ρ s s' h=>
  intro w w' hw es BH r f hr CO;obtain⟨x,u,ag3,h1,h2⟩:=h w es;rw[h1]at hr;cases hr;exact(CO ⟨_,_,rfl,h2⟩).elim
 | @bad ρ x s' h=>
  intro w w' hw es BH r f hr CO;rw[ZM]at hr;cases hr;exact(CO ⟨_,_,rfl,h⟩).elim
 | @panic ρ v v' h=>
  intro w w' hw es BH r f hr _;rw[ZM]at hr;cases hr;exact⟨ρ,.halt (.panic v') w',#[],#[],Ren.le_refl _,by simp,by rw[ZM];simp,.panic h,hw,BG.nil,JQ.refl _ _ _ _,fun t _=>by rw[ZM];rfl⟩
def DK (P' P:Zp)(fz:Prop){α β:Type}(Q:Ren->α->β->Prop)(ρ:Ren)(s:Sem α)(s':Sem β):Prop:=
 ∀(w w':Zc),Iw ρ w w'->∀(es BH:Array zc) r f,s.runT P' w es=(r,f)->¬pI r->
  ∃σ r' d d',ρ.le σ/\f=es++d/\s'.runT P w' BH=(r',BH++d')/\vp Q σ r r'/\WR σ r.world r'.world/\BG (uu σ) d d'/\JQ fz ρ σ w r.world w' r'.world d/\lD P' s w es r f
section
variable {P' P:Zp}{fz:Prop}{α β γ δ:Type}{Q:Ren->α->β->Prop}{R:Ren->γ->δ->Prop}{ρ:Ren}
def Ao.ok {s:Sem α}{s':Sem β}(h:Ao P' P fz Q ρ s s'):DK P' P fz Q ρ s s':=fun w w' hw es BH r f hr hd=>by
 obtain⟨σ,r',d,d',h1,h2,h3,h4,h5,h6,h7,h8⟩:=h.run w w' hw es BH r f hr hd;exact⟨σ,r',d,d',h1,h2,h3,h4,h5.wr,h6,h7,h8⟩
def Ao.al {s:Sem α}{s':Sem β}(h:Ao P' P fz Q ρ s s')(hw:Iw ρ w w'){BH:Array zc}{a:α}{b:β}{f f':Array zc}(h1:s.runT P' w es=(.ok a w₁,f))(h2:s'.runT P w' BH=(.ok b w₁',f')):
  ∀i q,w₁.tape (w₁.drawn+i) q=w₁'.tape (w₁'.drawn+i) q:=by
 obtain⟨σ,r',d,d',_,_,h3,_,h5,_⟩:=h.run w w' hw es BH _ _ h1 (fun⟨x,u,e,_⟩=>by cases e);rw[h2]at h3;cases h3;exact h5.tape
def DK.bind {s:Sem γ}{s':Sem δ}{f:γ->Sem α}{f':δ->Sem β}(h:Ao P' P fz R ρ s s')(hf:∀σ a b,ρ.le σ->R σ a b->DK P' P fz Q σ (f a) (f' b)):DK P' P fz Q ρ (s.bind f) (s'.bind f'):=by
 intro w w' hw es BH r g hr hd;rw[zg]at hr;rcases hs:s.runT P' w es with⟨abJ,AG⟩;rw[hs]at hr;cases abJ with
 |halt x u=>
  cases hr;obtain⟨σ,r',d,d',h1,h2,h3,h4,h5,h6,h7,h8⟩:=h.run w w' hw es BH _ _ hs (fun⟨y,v,e,k⟩=>by cases e;exact hd ⟨_,_,rfl,k⟩);cases h4 with
  | @panic v v' _ w₂ hv=>
   refine⟨σ,.halt (.panic v') w₂,d,d',h1,h2,by rw[zg,h3],.panic hv,h5.wr,h6,h7,fun t ht=>?_⟩;rw[zg,h8 t ht];rfl
 |ok a u=>
  obtain⟨σ,r',d,d',h1,h2,h3,h4,h5,h6,h7,h8⟩:=h.run w w' hw es BH _ _ hs (fun⟨y,v,e,k⟩=>by cases e);cases h4 with
  | @ok _ b _ w₂ hq=>
   dsimp only at hr;obtain⟨τ,r'',e,e',k1,k2,k3,k4,k5,k6,k7,k8⟩:=hf σ a b h1 hq u w₂ h5 AG (BH++d') r g hr hd;refine⟨τ,r'',d++e,d'++e',Ren.le_trans h1 k1,by rw[k2,h2,Zed],by rw[zg,h3];dsimp only;rw[k3,Zed],k4,k5,(BG.mono h6 fun _ _=>uu.mono k1).append k6,h7.trans k7 k1,fun t ht=>?_⟩;have l1:u.drawn<=r.world.drawn:=k7.drawn;have l2:w.drawn<=u.drawn:=h7.drawn;rw[zg,h8 t (fun i a b=>ht i a (Zm b l1))];exact k8 t (fun i a b=>by
    have:=ht i (Zt l2 a) b;have e:u.tape=w.tape:=h7.Qf;rw[e];exact this)
def DK.map {s:Sem γ}{s':Sem δ}{f:γ->α}{f':δ->β}(h:DK P' P fz R ρ s s')(hf:∀σ a b,ρ.le σ->R σ a b->Q σ (f a) (f' b)):DK P' P fz Q ρ (s.bind fun x=>.pure (f x)) (s'.bind fun x=>.pure (f' x)):=by
 intro w w' hw es BH r g hr hd;rw[zg]at hr;rcases hs:s.runT P' w es with⟨abJ,AG⟩;rw[hs]at hr;cases abJ with
 |halt x u=>
  cases hr;obtain⟨σ,r',d,d',h1,h2,h3,h4,h5,h6,h7,h8⟩:=h w w' hw es BH _ _ hs (fun⟨y,v,e,k⟩=>by cases e;exact hd ⟨_,_,rfl,k⟩);cases h4 with
  | @panic v v' _ w₂ hv=>
   refine⟨σ,.halt (.panic v') w₂,d,d',h1,h2,by rw[zg,h3],.panic hv,h5,h6,h7,fun t ht=>?_⟩;rw[zg,h8 t ht];rfl
 |ok a u=>
  obtain⟨σ,r',d,d',h1,h2,h3,h4,h5,h6,h7,h8⟩:=h w w' hw es BH _ _ hs (fun⟨y,v,e,k⟩=>by cases e);dsimp only at hr;rw[ZM]at hr;cases hr;cases h4 with
  | @ok _ b _ w₂ hq=>
   refine⟨σ,.ok (f' b) w₂,d,d',h1,h2,by rw[zg,h3];dsimp only;rw[ZM],.ok (hf _ _ _ h1 hq),h5,h6,h7,fun t ht=>?_⟩;rw[zg,h8 t ht];show(Zd6 (f a)).runT P' _ _=_;rw[ZM];rfl
end
structure Twins (P' P:Zp):Prop where
 tables:P'.toTables=P.toTables
 zero:∀t i v,P.info? t=some i->i.zero=some v->∀ρ:Ren,VR ρ v v
 lack:∀i,P.info? 0=some i->i.methods.find? (fun m=>m.name== "")=none
def Gp {α:Type}:Ren->α->α->Prop:=fun _ a b=>a=b
section
variable {P' P:Zp}{fz:Prop}{ρ:Ren}{α β γ δ:Type}{Q:Ren->α->β->Prop}{R:Ren->γ->δ->Prop}
def Ad {a:α}{b:β}(h:Q ρ a b):Ao P' P fz Q ρ (pure a) (pure b):=.pure h
def Ac {s:Sem γ}{s':Sem δ}{f:γ->Sem α}{f':δ->Sem β}(R:Ren->γ->δ->Prop)(h:Ao P' P fz R ρ s s')(hf:∀σ a b,ρ.le σ->R σ a b->Ao P' P fz Q σ (f a) (f' b)):
  Ao P' P fz Q ρ (s>>=f) (s'>>=f'):=Ao.bind h hf
def Ae {m:String}{s':Sem β}:Ao P' P fz Q ρ (stuck m:Sem α) s':=.bad trivial
def Aj {u:Zdd}{s':Sem β}(h:Hd (.unsupported u):=by trivial):Ao P' P fz Q ρ (unsupported u:Sem α) s':=.bad h
def Eu (h:VR ρ v v'):Ao P' P fz Q ρ (goPanic v:Sem α) (goPanic v':Sem β):=.panic h
def pJ {a:Addr}(m:Mode)(h:AR ρ a a'):Ao P' P fz VR ρ (load a m) (load a' m):=.load m h fun _ _ hv=>.pure hv
def vr {a:Addr}(m:Mode)(h:AR ρ a a')(hv:VR ρ v v'):Ao P' P fz Gp ρ (store a v m) (store a' v' m):=.store m h hv (.pure rfl)
def Hr (h:OR ρ o o'):Ao P' P fz (fun σ r r'=>σ r=some r') ρ (newObj o) (newObj o'):=.new h fun _ _ _ _ hr=>.pure hr
variable {l l' i n r r' N:Nat}
def NL (h:ρ r=some r'):Ao P' P fz Gp ρ (shape r) (shape r'):=.shape h fun _=>.pure rfl
def Dh (h:ρ r=some r'):Ao P' P fz OR ρ (getObj r) (getObj r'):=.getObj h fun _ _ ho=>.pure ho
def Ef (h:ρ r=some r')(ho:OR ρ o o')(hn:¬Quiet o:=by intro h;cases h):Ao P' P fz Gp ρ (setObj r o) (setObj r' o'):=.setObj h ho hn (.pure rfl)
def Hs (q:Question):Ao P' P fz Gp ρ (choose q) (choose q):=.choose q fun _=>.pure rfl
def Db:Ao P' P fz (fun _ p p'=>P'=p/\P=p') ρ program program:=.program (.pure ⟨rfl,rfl⟩)
def abK {m m':Mark}(h:MkR ρ m m'):Ao P' P fz Gp ρ (mark m) (mark m'):=.mark h (.pure rfl)
def Vn (n:Nat):Ao P' P fz Gp ρ (Zak n) (Zak n):=by
 unfold Zak;split
 .exact abK .noRoom
 .exact Ad rfl
def Twins.pK (T:Twins P' P):∀i,P'.info? 0=some i->i.methods.find? (fun m=>m.name== "")=none:=fun i hi=>T.lack i (by rw[<-hi,T.tables])
def Twins.info (T:Twins P' P)(t:Zr):P'.info? t=P.info? t:=by rw[T.tables]
def Twins.und (T:Twins P' P)(t:Zr):P'.underlying t=P.underlying t:=by unfold Zb2;simp only[T.tables]
def Twins.rt (T:Twins P' P):P'.rt=P.rt:=by rw[T.tables]
def Twins.cells (T:Twins P' P)(t:Zr):P'.cellsOf t=P.cellsOf t:=by unfold Zct;rw[T.tables]
def Twins.bytes (T:Twins P' P)(t:Zr):P'.bytesOf t=P.bytesOf t:=by unfold Program.bytesOf;rw[T.tables]
def Twins.depth (T:Twins P' P):P'.depth=P.depth:=by unfold Program.depth;rw[T.tables]
def CB (T:Twins P' P)(t:Zr):Ao P' P fz (fun _ i i'=>i=i'/\P.info? t=some i) ρ (typeInfo t) (typeInfo t):=by
 unfold typeInfo;refine Ac _ Db fun σ p p' _ hp=>?_;obtain⟨rfl,rfl⟩:=hp;rw[T.info];cases h:P.info? t with
 |none=>exact Ae
 |some i=>exact Ad ⟨rfl,rfl⟩
def Ar (T:Twins P' P)(t:Zr):Ao P' P fz (fun _ i i'=>i=i'/\P.underlying t=some i) ρ (underlying t) (underlying t):=by
 unfold underlying;refine Ac _ Db fun σ p p' _ hp=>?_;obtain⟨rfl,rfl⟩:=hp;rw[T.und];cases h:P.underlying t with
 |none=>exact Ae
 |some i=>exact Ad ⟨rfl,rfl⟩
def Di (T:Twins P' P)(t:Zr):Ao P' P fz VR ρ (zeroValue t) (zeroValue t):=by
 unfold zeroValue;refine Ac _ (CB T t) fun σ i i' _ hi=>?_;obtain⟨rfl,hi⟩:=hi;cases h:i.zero with
 |none=>exact Aj
 |some v=>exact Ad (T.zero t i v hi h σ)
def Co (T:Twins P' P)(t:Zr):Ao P' P fz (fun _ n n'=>n=n'/\n=P.cellsOf t) ρ (sizeOf t) (sizeOf t):=by
 unfold sizeOf;refine Ac _ (CB T t) fun σ i i' _ hi=>?_;obtain⟨rfl,hi⟩:=hi;exact Ad ⟨rfl,by simp[Zct,hi]⟩
def jo (T:Twins P' P)(t:Zr):Ao P' P fz Gp ρ (isAgg t) (isAgg t):=by
 unfold isAgg;refine Ac _ (Ar T t) fun σ i i' _ hi=>?_;obtain⟨rfl,_⟩:=hi;split<;>exact Ad rfl
def AR.add {a:Addr}(h:AR ρ a a')(n:Nat):AR ρ (a.add n) (a'.add n):=by
 unfold Zcz;split
 .exact h
 .exact⟨h.1,by simp only[h.2.1],rfl⟩
def Km:∀(n:Nat) (i:Nat) {a a':Addr} (acc abM:Array Ze) (ρ:Ren),AR ρ a a'->B1 ρ acc abM->Ao P' P fz B1 ρ (ZdE a i n acc) (ZdE a' i n abM)
 |0,_,_,_,_,_,_,_,abN=>Ad abN
 |n+1,i,a,a',acc,abM,ρ,h,abN=>by
  unfold ZdE;exact Ac _ (pJ .plain (h.add i)) fun σ v v' hle hv=>Km n (i+1) _ _ σ (h.mono hle) ((B1.mono hle abN).push hv)
def KS {a:Addr}(h:AR ρ a a')(n:Nat):Ao P' P fz B1 ρ (loadCells a n) (loadCells a' n):=Km n 0 _ _ ρ h BG.nil
def JR:∀ {vs vs':List Ze} {ρ:Ren} {a a':Addr} (i:Nat),AR ρ a a'->EB (VR ρ) vs vs'->Ao P' P fz Gp ρ (Zb3 a vs i) (Zb3 a' vs' i):=by
 intro vs
 induction vs with
 |nil=>intro vs' ρ a a' i h hv;cases hv;exact Ad rfl
 |cons v vs ih=>
  intro vs' ρ a a' i h hv;cases hv with
  |cons hv ht=>
   unfold Zb3;exact Ac _ (vr .plain (h.add i) hv) fun σ _ _ hle _=>ih (i+1) (h.mono hle) (ht.mono fun _ _=>VR.mono hle)
def Vo (T:Twins P' P)(t:Zr){a:Addr}(h:AR ρ a a'):Ao P' P fz VR ρ (loadVar t a) (loadVar t a'):=by
 unfold loadVar;refine Ac _ (jo T t) fun σ b b' hle hb=>?_;cases hb;split
 .refine Ac _ (Co T t) fun Bv n n' Az hn=>?_
  obtain⟨rfl,_⟩:=hn;exact Ac _ (KS (h.mono (Ren.le_trans hle Az)) n) fun τ c c' _ hc=>Ad (.QW hc)
 .exact pJ .plain (h.mono hle)
def eY (T:Twins P' P)(t:Zr){a:Addr}(h:AR ρ a a')(hv:VR ρ v v'):Ao P' P fz Gp ρ (storeVar t a v) (storeVar t a' v'):=by
 unfold storeVar;refine Ac _ (Co T t) fun σ n n' hle hn=>?_;obtain⟨rfl,_⟩:=hn;have hc:=(hv.mono hle).cells;rw[hc.1];split
 .exact Ae
 .exact JR 0 (h.mono hle) hc.list
def Je (e:Zr){c:Array Ze}(h:B1 ρ c c'):Ao P' P fz AR ρ (newRow e c) (newRow e c'):=by
 unfold newRow;exact Ac _ (Hr (.cells e h (FzR.refl _))) fun σ r r' _ hr=>Ad ⟨hr,rfl,rfl⟩
def NM (t:Zr)(h:VR ρ v v'):Ao P' P fz AR ρ (newVar t v) (newVar t v'):=Je t h.cells
def aN (T:Twins P' P)(t:Zr):Ao P' P fz Gp ρ (elemOf t) (elemOf t):=by
 unfold elemOf;refine Ac _ (Ar T t) fun σ i i' _ hi=>?_;obtain⟨rfl,_⟩:=hi;split
 .exact Ad rfl
 .exact Ae
def KU (T:Twins P' P)(t:Zr){c:Array Ze}(h:B1 ρ c c')(off:Nat):Ao P' P fz VR ρ (part t c off) (part t c' off):=by
 unfold part;refine Ac _ (jo T t) fun σ b b' hle hb=>?_;cases hb;have h1:=B1.mono hle h;split
 .refine Ac _ (Co T t) fun Bv n n' Az hn=>?_
  obtain⟨rfl,_⟩:=hn;exact Ad (.QW ((B1.mono Az h1).extract _ _))
 .rcases h1.opt off with⟨e1,e2⟩|⟨x,y,e1,e2,hr⟩
  .rw[e1];exact Ae
  .rw[e1,e2];exact Ad hr
def LU (h:VR ρ v v'):Ao P' P fz Gp ρ (asIntOf v) (asIntOf v'):=by
 cases h with
 |int k n=>exact Ad rfl
 | @pointer a a' hp=>cases a<;>first|exact Ae|exact Aj
 |_=>exact Ae
def LV (h:VR ρ v v'):Ao P' P fz Gp ρ (asInt v) (asInt v'):=by
 unfold asInt;exact Ac _ (LU h) fun σ a b _ EC=>by cases EC;exact Ad rfl
def Ss (h:VR ρ v v'):Ao P' P fz Gp ρ (asBool v) (asBool v'):=by
 cases h with
 |bool b=>exact Ad rfl
 |_=>exact Ae
def vt (h:VR ρ v v'):Ao P' P fz B1 ρ (asAgg v) (asAgg v'):=by
 cases h with
 |agg hc hv=>exact Ad ⟨hc,hv⟩
 |_=>exact Ae
def Base (P:Zp)(ρ:Ren):Prop:=ρ.ok.low=P.globals.size
def Base.mono {ρ:Ren}(h:Base P ρ)(hle:ρ.le σ):Base P σ:=by
 unfold Base at*;rw[hle.2.1];exact h
def aO (T:Twins P' P)(hB:Base P ρ)(t:Zr):VR ρ (ZdT P' t) (ZdT P t):=by
 unfold ZdT;rw[T.tables];have:=ρ.base;unfold Base at hB;rw[hB]at this;exact .pointer ⟨this,rfl,rfl⟩
def AL (T:Twins P' P)(hB:Base P ρ)(e:RuntimeError):Ao P' P fz Q ρ (zE e:Sem α) (zE e:Sem β):=by
 unfold zE;refine Ac _ Db fun σ p p' hle hp=>?_;obtain⟨rfl,rfl⟩:=hp;have pL:=T.rt;cases e with
 |bounds x y s c=>simp only[pL];exact Eu (.iface _ (.QW ((((BG.single (.int _ _)).push (.int _ _)).push (.bool _)).push (.int _ _))))
 |error m=>simp only[pL];exact Eu (.iface _ (.string _))
 |plain m=>simp only[pL];exact Eu (.iface _ (.string _))
 |nilDeref=>simp only[pL];exact Eu (.iface _ (.string _))
 |typeAssertion i c a m=>
  simp only[pL];refine Ac _ (aN T _) fun Bv e e' Az he=>?_;cases he;have Jf:Base P Bv:=hB.mono (Ren.le_trans hle Az);have hh:∀t:Option Zr,VR Bv (match t with|some t=>ZdT P' t|none=>.pointer none) (match t with|some t=>ZdT P t|none=>.pointer none):=by
   intro t;cases t with
   |none=>exact .pointer trivial
   |some t=>exact aO T Jf t
  refine Ac _ (NM _ (.QW ((((BG.single (hh i)).push (hh c)).push (hh (some a))).push (.string _)))) fun Ez r r' _ hr=>?_;exact Eu (.iface _ (.pointer hr))
 |panicNil=>
  simp only[pL];refine Ac _ (aN T _) fun Bv e e' Az he=>?_;cases he;refine Ac _ (NM _ (.QW BG.nil)) fun Ez r r' _ hr=>?_;exact Eu (.iface _ (.pointer hr))
 |unhashable t=>
  simp only[pL];exact Eu (.iface _ (.QW (BG.single (aO T (hB.mono hle) t))))
def EM (T:Twins P' P)(hB:Base P ρ)(k:IntKind)(x y:Int)(c:BoundsCode):Ao P' P fz Q ρ (ZaY k x y c:Sem α) (ZaY k x y c:Sem β):=by
 unfold ZaY;dsimp only;split
 .refine Ac Gp ?_ fun σ a b hle EC=>?_
  .refine Ac _ (Hs _) fun σ a b _ EC=>?_
   cases EC;exact Ad rfl
  .cases EC;exact AL T (hB.mono hle) _
 .refine Ac Gp (Ad rfl) fun σ a b hle EC=>?_
  cases EC;exact AL T (hB.mono hle) _
def aP (T:Twins P' P)(hB:Base P ρ)(h:VR ρ v v'):Ao P' P fz AR ρ (asAddr v) (asAddr v'):=by
 cases h with
 | @pointer a a' hp=>
  cases a<;>cases a'<;>first|exact hp.elim|skip
  .exact AL T hB .nilDeref
  .exact Ad hp
 |_=>exact Ae
def Ht (h:VR ρ v v'):Ao P' P fz AR ρ (Instr.sureAddr v) (Instr.sureAddr v'):=by
 cases h with
 | @pointer a a' hp=>
  cases a<;>cases a'<;>first|exact hp.elim|skip
  .exact Ae
  .exact Ad hp
 |_=>exact Ae
end
section
variable {P' P:Zp}{fz:Prop}{ρ:Ren}
def CK {Q:Ren->α->β->Prop}{m:String}{f:γ->Sem α}{s':Sem β}:Ao P' P fz Q ρ ((stuck m:Sem γ)>>=f) s':=.bad trivial
def Gf (T:Twins P' P):∀(d:Nat) (t:Zr) (off:Nat),ZdG P' d t off=ZdG P d t off
 |0,_,_=>rfl
 |d+1,t,off=>by
  unfold ZdG;rw[T.und];cases P.underlying t with
  |none=>rfl
  |some x=>
   cases x with
   |struct fs=>simp only[T.cells,Gf T d]
   |array n e=>simp only[T.cells,T.bytes,Gf T d]
   |_=>rfl
variable {l l' i n r r' N:Nat}
def aQ (h:ρ r=some r'):Ao P' P fz (fun _ a b=>a=none/\b=none) ρ (viewAt r) (viewAt r'):=by
 unfold viewAt;refine Ac _ (NL h) fun σ s s' hle hs=>?_;cases hs;split
 .exact Ad ⟨rfl,rfl⟩
 .refine Ac _ (Dh (hle.1 _ _ h)) fun τ o o' _ ho=>?_
  cases ho with
  | @junk o' h=>cases o'<;>first|exact Ad ⟨rfl,rfl⟩|cases h
  |_=>exact Ad ⟨rfl,rfl⟩
def pM {a:Addr}(h:AR ρ a a'):Ao P' P fz Gp ρ (noView a) (noView a'):=by
 unfold noView;refine Ac _ (aQ h.1) fun σ s s' hle hs=>?_;obtain⟨rfl,rfl⟩:=hs;exact Ad rfl
def Hu (T:Twins P' P){a:Addr}(h:AR ρ a a'):Ao P' P fz Gp ρ (byteOf a) (byteOf a'):=by
 unfold byteOf;rw[h.2.2];cases a.spot with
 |some s=>exact Ad rfl
 |none=>
  dsimp only;refine Ac _ Db fun σ p p' hle hp=>?_;obtain⟨rfl,rfl⟩:=hp;have h1:=h.mono hle;refine Ac _ (pM h1) fun atx _ _ abO _=>?_;have h2:=h1.mono abO;refine Ac _ (NL h2.1) fun Bv s s' Az hs=>?_;cases hs;cases s with
  |none=>exact Ae
  |some x=>
   obtain⟨e,n⟩:=x;dsimp only;rw[T.cells,T.depth,Gf T,h.2.1,T.bytes];split
   .exact Ad rfl
   .cases ZdG P P.depth e (a.off % P.cellsOf e) with
    |none=>exact Ae
    |some b=>exact Ad rfl
def pN (T:Twins P' P){a:Addr}(h:AR ρ a a')(cells bytes:Nat):Ao P' P fz AR ρ (partAt a cells bytes) (partAt a' cells bytes):=by
 unfold partAt;refine Ac _ (Hu T h) fun σ b b' hle hb=>?_;cases hb;have h1:AR σ {block:=a.block,off:=a.off+cells} {block:=a'.block,off:=a'.off+cells}:=⟨hle.1 _ _ h.1,by simp only[h.2.1],rfl⟩;dsimp only;refine Ac _ (Hu T h1) fun Bv c c' Az hc=>?_;cases hc;split
 .exact Ad (h1.mono Az)
 .exact Ad ⟨(h1.mono Az).1,h1.2.1,rfl⟩
def Wz (T:Twins P' P){a:Addr}(h:AR ρ a a')(f:Field):Ao P' P fz AR ρ (fieldPlace a f) (fieldPlace a' f):=by
 unfold fieldPlace;refine Ac _ (Co T _) fun σ n n' hle hn=>?_;obtain⟨rfl,_⟩:=hn;split
 .exact pN T (h.mono hle) _ _
 .exact Ad ((h.mono hle).add _)
def vu (T:Twins P' P)(e:Zr):Ao P' P fz VR ρ (ZdO e true (.tuple #[])) (ZdO e true (.tuple #[])):=by
 unfold ZdO;refine Ac _ (Di T e) fun σ v v' hle hv=>?_;exact Ac _ (NM e hv) fun τ a a' _ ha=>Ad (.pointer ha)
def ag6 (e:Zr)(h:VR ρ v v'):Ao P' P fz VR ρ (Instr.box e v) (Instr.box e v'):=
 Ac _ (NM e h) fun _ _ _ _ ha=>Ad (.pointer ha)
def pO (T:Twins P' P)(t:Zr)(h:VR ρ v v'):Ao P' P fz VR ρ (Instr.loadAt t v) (Instr.loadAt t v'):=
 Ac _ (Ht h) fun _ _ _ _ ha=>Vo T t ha
def lE (T:Twins P' P)(t:Zr)(h:VR ρ v v')(hx:VR ρ x x'):Ao P' P fz Gp ρ (Instr.storeAt t v x) (Instr.storeAt t v' x'):=
 Ac _ (Ht h) fun _ _ _ hle ha=>eY T t ha (hx.mono hle)
def lF (T:Twins P' P)(s:Zr)(h:VR ρ v v')(f:Nat):Ao P' P fz VR ρ (Zc1 s v f) (Zc1 s v' f):=by
 unfold Zc1;refine Ac _ (Ar T s) fun σ i i' hle hi=>?_;obtain⟨rfl,_⟩:=hi;cases i with
 |struct fields=>
  dsimp only;cases fields[f]? with
  |none=>exact Ae
  |some x=>
   dsimp only;refine Ac _ (Ht (h.mono hle)) fun Bv a a' Az ha=>?_;exact Ac _ (Wz T ha x) fun τ b b' _ hb=>Ad (.pointer hb)
 |_=>exact Ae
def lG (T:Twins P' P)(hB:Base P ρ)(t:Zr){i:Ze}(hx:VR ρ x x')(hi:VR ρ i i'):Ao P' P fz VR ρ (Zce t x i) (Zce t x' i'):=by
 unfold Zce;refine Ac _ (LU hi) fun σ k k' hle hk=>?_;cases hk;obtain⟨k,i⟩:=k;dsimp only;refine Ac _ (Ar T t) fun Bv d d' Az hd=>?_;obtain⟨rfl,hd⟩:=hd;have Be:=hx.mono (Ren.le_trans hle Az);have tail:∀(τ:Ren) (a a':Option Addr×Nat×Zr) (u:Zdd),Hd (.unsupported u)->ρ.le τ->O1 τ a.1 a'.1->a.2=a'.2->
   Ao P' P fz VR τ (underlying t>>=fun NN=>
    match a.1 with
    |some ad=>if 0<=i/\i<a.2.1 then(sizeOf a.2.2>>=fun n=>pure (Zb1 (some (ad.add (i.toNat*n)))))
      else if(decide (a.2.1<=1)&&(match NN with| .array .. =>true|_=>false))=true then unsupported u else ZaY k i a.2.1 .index
    |none=>ZaY k i 0 .index) (underlying t>>=fun NN=>
    match a'.1 with
    |some ad=>if 0<=i/\i<a'.2.1 then(sizeOf a'.2.2>>=fun n=>pure (Zb1 (some (ad.add (i.toNat*n)))))
      else if(decide (a'.2.1<=1)&&(match NN with| .array .. =>true|_=>false))=true then unsupported u else ZaY k i a'.2.1 .index
    |none=>ZaY k i 0 .index):=by
  intro τ a a' u hu Dp h1 h2;obtain⟨b,len,elem⟩:=a;obtain⟨b',axp,aty⟩:=a';cases h2;dsimp only at h1⊢;refine Ac _ (Ar T t) fun KW Hq atz BN ag7=>?_;obtain⟨rfl,_⟩:=ag7;have Qh:Base P KW:=hB.mono (Ren.le_trans Dp BN);cases b<;>cases b'<;>first|exact h1.elim|skip
  .dsimp only;exact EM T Qh _ _ _ _
  .dsimp only
   split
   .refine Ac _ (Co T _) fun NP n n' Eg hn=>?_
    obtain⟨rfl,_⟩:=hn;exact Ad (.pointer ((AR.mono (Ren.le_trans BN Eg) h1).add _))
   ·(repeat' split)<;>first|exact Aj hu|exact EM T Qh _ _ _ _
 have CV:=Ren.le_trans hle Az;cases d with
 |array len elem=>exact Ac _ (Ht Be) fun _ _ _ AX ha=>tail _ (some _,_,_) (some _,_,_) _ trivial (Ren.le_trans CV AX) ha rfl
 |slice elem=>
  cases Be with
  |slice n c h=>exact tail _ (_,_,_) (_,_,_) _ trivial CV h rfl
  |_=>exact CK
 |_=>exact CK
def JS (T:Twins P' P)(hB:Base P ρ)(hx:VR ρ x x')(y:Nat)(c:BoundsCode):Ao P' P fz Gp ρ (Zcl x y c) (Zcl x' y c):=by
 unfold Zcl;refine Ac _ (LU hx) fun σ k k' hle hk=>?_;cases hk;obtain⟨k,i⟩:=k;dsimp only;split
 .exact Ad rfl
 .exact EM T (hB.mono hle) _ _ _ _
def jq (ρ:Ren):Option Ze->Option Ze->Prop
 |none,none=>True
 |some a,some b=>VR ρ a b
 |_,_=>False
def jq.mono {ρ:Ren}(h:ρ.le σ){a b:Option Ze}(x:jq ρ a b):jq σ a b:=by
 cases a<;>cases b<;>first|exact x|exact VR.mono h x
variable {m' h h':Option Ze}
def Gg (T:Twins P' P)(hB:Base P ρ)(s:Bool)(len cap:Nat){l l' m:Option Ze}(hl:jq ρ l l')(hh:jq ρ h h')(hm:jq ρ m m'):
  Ao P' P fz Gp ρ (Zbn s len cap l h m) (Zbn s len cap l' h' m'):=by
 unfold Zbn;cases l<;>cases l'<;>first|exact hl.elim|skip
 all_goals cases h<;>cases h'<;>first|exact hh.elim|skip
 all_goals cases m<;>cases m'<;>first|exact hm.elim|skip
 all_goals dsimp only[Option.isSome]
 all_goals
  refine Ac Gp (by first|exact Ad rfl|exact JS T hB hm _ _) fun σ a a' hle ha=>?_;cases ha;refine Ac Gp (by first|exact Ad rfl|exact Ae|exact JS T (hB.mono hle) (VR.mono hle hh) _ _) fun Bv b b' Az hb=>?_;cases hb;refine Ac Gp (by first|exact Ad rfl|exact JS T (hB.mono (Ren.le_trans hle Az)) (VR.mono (Ren.le_trans hle Az) hl) _ _) fun Ez c c' _ hc=>?_;cases hc;exact Ad rfl
def vv (T:Twins P' P)(hB:Base P ρ)(t:Zr){l l' m:Option Ze}(hx:VR ρ x x')(hl:jq ρ l l')(hh:jq ρ h h')(hm:jq ρ m m'):
  Ao P' P fz VR ρ (ZbO t x l h m) (ZbO t x' l' h' m'):=by
 unfold ZbO;refine Ac _ (Ar T t) fun σ d d' hle hd=>?_;obtain⟨rfl,_⟩:=hd;have Be:=hx.mono hle;have Jf:=hB.mono hle;cases d with
 |string=>
  cases Be with
  |string s=>
   dsimp only;have yK:m.isSome=m'.isSome:=by cases m<;>cases m'<;>first|rfl|exact hm.elim
   rw[yK];split
   .exact Ae
   .refine Ac _ (Gg T Jf _ _ _ (hl.mono hle) (hh.mono hle) trivial) fun Bv b b' _ hb=>?_
    cases hb;exact Ad (.string _)
  |_=>exact Ae
 |slice elem=>
  cases Be with
  | @slice a a' n c ha=>
   dsimp only;refine Ac _ (Gg T Jf _ _ _ (hl.mono hle) (hh.mono hle) (hm.mono hle)) fun Bv b b' Az hb=>?_;cases hb;obtain⟨b1,b2,b3⟩:=b;dsimp only;refine Ac _ (Co T _) fun Ez s s' AX hs=>?_;obtain⟨rfl,_⟩:=hs;refine Ad (.slice _ _ ?_);have NQ:=ha.mono (Ren.le_trans Az AX);split
   .exact NQ
   .cases a<;>cases a'<;>first|exact NQ.elim|exact trivial|exact AR.add NQ _
  |_=>exact Ae
 |pointer arr=>
  refine Ac _ (aP T Jf Be) fun Bv a a' Az ha=>?_;refine Ac _ (Ar T arr) fun Ez e e' AX he=>?_;obtain⟨rfl,_⟩:=he;have Hm:=Ren.le_trans hle (Ren.le_trans Az AX);cases e with
  |array n elem=>
   dsimp only;refine Ac _ (Gg T (hB.mono Hm) _ _ _ (hl.mono Hm) (hh.mono Hm) (hm.mono Hm)) fun KW b b' BN hb=>?_;cases hb;obtain⟨b1,b2,b3⟩:=b;dsimp only;refine Ac _ (Co T _) fun NP s s' Eg hs=>?_;obtain⟨rfl,_⟩:=hs;have aR:=ha.mono (Ren.le_trans AX (Ren.le_trans BN Eg));refine Ad (.slice _ _ ?_);split
   .exact aR
   .exact AR.add aR _
  |_=>exact Ae
 |_=>cases Be<;>exact Ae
def lH (T:Twins P' P)(hB:Base P ρ)(t:Zr){l l' m:Option Ze}(hx:VR ρ x x')(hl:jq ρ l l')(hh:jq ρ h h')(hm:jq ρ m m'):
  Ao P' P fz VR ρ (ZaO t x l h m) (ZaO t x' l' h' m'):=by
 unfold ZaO;refine Ac _ (Ar T t) fun σ d d' hle hd=>?_;obtain⟨rfl,_⟩:=hd;have hd:∀s:Sem Ze,s=ZbO t x l h m->∀s',s'=ZbO t x' l' h' m'->Ao P' P fz VR σ s s':=by
  rintro _ rfl _ rfl;exact vv T (hB.mono hle) t (hx.mono hle) (hl.mono hle) (hh.mono hle) (hm.mono hle)
 cases d with
 |array n elem=>
  dsimp only;refine Ac _ (Ht (hx.mono hle)) fun Bv a a' Az ha=>?_;have CV:=Ren.le_trans hle Az;refine Ac _ (Gg T (hB.mono CV) _ _ _ (hl.mono CV) (hh.mono CV) (hm.mono CV)) fun KW b b' BN hb=>?_;cases hb;obtain⟨b1,b2,b3⟩:=b;dsimp only;refine Ac _ (Co T _) fun NP s s' Eg hs=>?_;obtain⟨rfl,_⟩:=hs;have aR:=ha.mono (Ren.le_trans BN Eg);refine Ad (.slice _ _ ?_);split
  .exact aR
  .exact AR.add aR _
 |_=>exact hd _ rfl _ rfl
def vw (T:Twins P' P)(t:Zr)(hx:VR ρ x x')(f:Nat):Ao P' P fz VR ρ (Instr.field t x f) (Instr.field t x' f):=by
 unfold Instr.field;refine Ac _ (Ar T t) fun σ d d' hle hd=>?_;obtain⟨rfl,_⟩:=hd;cases d with
 |struct fields=>
  dsimp only;cases fields[f]? with
  |none=>exact Ae
  |some y=>exact Ac _ (vt (hx.mono hle)) fun Bv c c' _ hc=>KU T _ hc _
 |_=>exact Ae
def vx (T:Twins P' P)(hB:Base P ρ)(t:Zr){i:Ze}(hx:VR ρ x x')(hi:VR ρ i i'):Ao P' P fz VR ρ (ZdN t x i) (ZdN t x' i'):=by
 unfold ZdN;refine Ac _ (LU hi) fun σ k k' hle hk=>?_;cases hk;obtain⟨k,i⟩:=k;dsimp only;refine Ac _ (Ar T t) fun Bv d d' Az hd=>?_;obtain⟨rfl,hd⟩:=hd;have CV:=Ren.le_trans hle Az;have Be:=hx.mono CV;cases d with
 |array len elem=>
  cases Be with
  |agg hc hv=>
   dsimp only;split
   .refine Ac _ (Co T _) fun NP s s' Eg hs=>?_
    obtain⟨rfl,_⟩:=hs;exact KU T _ (B1.mono Eg ⟨hc,hv⟩) _
   .exact EM T (hB.mono CV) _ _ _ _
  |_=>exact Ae
 |string=>
  cases Be with
  |string s=>
   dsimp only;split
   .exact Ad (.int _ _)
   .exact EM T (hB.mono CV) _ _ _ _
  |_=>exact Ae
 |_=>cases Be<;>exact Ae
def lI (hx:VR ρ x x')(i:Nat):Ao P' P fz VR ρ (Zc2 x i) (Zc2 x' i):=by
 unfold Zc2;cases hx with
 | @tuple c c' hc hv=>
  dsimp only;rcases(show B1 ρ c c' from⟨hc,hv⟩).opt i with⟨e1,e2⟩|⟨x,y,e1,e2,hr⟩
  .rw[e1];exact Ae
  .rw[e1,e2];exact Ad hr
 |_=>exact Ae
def QY (T:Twins P' P)(t:Zr)(hx:VR ρ x x'):Ao P' P fz VR ρ (ZbY t x) (ZbY t x'):=by
 unfold ZbY;refine Ac _ (Ar T t) fun σ d d' hle hd=>?_;obtain⟨rfl,_⟩:=hd;cases d<;>first|exact Ae|exact Ad (.iface _ (hx.mono hle))
def lJ (T:Twins P' P)(t:Zr){r r':Option Ze}(hr:jq ρ r r'):Ao P' P fz VR ρ (ZcZ t r) (ZcZ t r'):=by
 unfold ZcZ;cases r<;>cases r'<;>first|exact hr.elim|skip
 .exact Ac _ (Hr (.map 0 BG.nil)) fun σ a a' _ ha=>Ad (.map ha)
 .dsimp only
  refine Ac _ (Ar T t) fun σ d d' hle hd=>?_;obtain⟨rfl,_⟩:=hd;cases d with
  |map _ _=>
   refine Ac _ (LV (VR.mono hle hr)) fun Bv _ _ _ _=>?_;exact Ac _ (Hr (.map 0 BG.nil)) fun σ a a' _ ha=>Ad (.map ha)
  |_=>exact Ae
def UI (h:B1 ρ a b)(hz:a.size≠0)(n:Nat):B1 ρ ((YT n).map (a[· % a.size]!)) ((YT n).map (b[· % b.size]!)):=by
 refine⟨by simp,fun i x y hx hy=>?_⟩;rw[zN,zf]at hx hy;obtain⟨u,hu,rfl⟩:=hx;obtain⟨v,hv,rfl⟩:=hy;rw[hu]at hv;cases hv;have h1:u % a.size<a.size:=Nat.mod_lt _ (by omega);have h2:u % b.size<b.size:=by rw[<-h.1];exact h1
 rw[getElem!_pos a _ h1,getElem!_pos b _ h2];refine h.2 (u % a.size) _ _ (ZC h1) ?_;have:u % a.size=u % b.size:=by rw[h.1]
 rw[this];exact ZC h2
end
section
variable {P' P:Zp}{fz:Prop}{ρ:Ren}
inductive StR {β γ:Type}(R:Ren->β->γ->Prop)(σ:Ren):ForInStep β->ForInStep γ->Prop
 |yield {b:β} {c:γ} (h:R σ b c):StR R σ (.yield b) (.yield c)
 |done {b:β} {c:γ} (h:R σ b c):StR R σ (.done b) (.done c)
def WA {E:Ren->α->δ->Prop}{R:Ren->β->γ->Prop}(hE:∀ρ σ x y,ρ.le σ->E ρ x y->E σ x y){f:α->β->Sem (ForInStep β)}{f':δ->γ->Sem (ForInStep γ)}:
  ∀ {l:List α} {l':List δ} {σ:Ren} {b:β} {c:γ},EB (E σ) l l'->R σ b c->
   (∀τ x y b c,σ.le τ->E τ x y->R τ b c->Ao P' P fz (StR R) τ (f x b) (f' y c))->Ao P' P fz R σ (forIn l b f) (forIn l' c f'):=by
 intro l
 induction l with
 |nil=>intro l' σ b c hl hb _;cases hl;exact Ad hb
 |cons x l ih=>
  intro l' σ b c hl hb hf;cases hl with
  |cons hx ht=>
   rw[List.forIn_cons,List.forIn_cons];refine Ac _ (hf σ x _ b c (Ren.le_refl _) hx hb) fun τ s s' hle hs=>?_;cases hs with
   |yield h=>exact ih (ht.mono fun _ _=>hE _ _ _ _ hle) h fun υ x y b c Az=>hf υ x y b c (Ren.le_trans hle Az)
   |done h=>exact Ad h
def EB.eq (l:List α):EB (fun a b=>a=b) l l:=by
 induction l with
 |nil=>exact .nil
 |cons x l ih=>exact .cons rfl ih
def jr {R:Ren->β->γ->Prop}{f:α->β->Sem (ForInStep β)}{f':α->γ->Sem (ForInStep γ)}(l:List α){b:β}{c:γ}(hb:R ρ b c)
 (hf:∀τ x b c,ρ.le τ->R τ b c->Ao P' P fz (StR R) τ (f x b) (f' x c)):Ao P' P fz R ρ (forIn l b f) (forIn l c f'):=
 WA (E:=Gp) (fun _ _ _ _ _ h=>h) (EB.eq l) hb fun τ x y b c hle hxy KC=>by cases hxy;exact hf τ x b c hle KC
def js {R:Ren->β->γ->Prop}{f:Nat->β->Sem (ForInStep β)}{f':Nat->γ->Sem (ForInStep γ)}(n:Nat){b:β}{c:γ}(hb:R ρ b c)
 (hf:∀τ x b c,ρ.le τ->R τ b c->Ao P' P fz (StR R) τ (f x b) (f' x c)):Ao P' P fz R ρ (forIn [0:n] b f) (forIn [0:n] c f'):=by
 simp only[Zdw];exact jr _ hb hf
def vy {R:Ren->β->γ->Prop}{f:α->β->Sem (ForInStep β)}{f':α->γ->Sem (ForInStep γ)}(a:Array α){b:β}{c:γ}(hb:R ρ b c)
 (hf:∀τ x b c,ρ.le τ->R τ b c->Ao P' P fz (StR R) τ (f x b) (f' x c)):Ao P' P fz R ρ (forIn a b f) (forIn a c f'):=by
 rw[<-Zai, <-Zai];exact jr _ hb hf
def pP {R:Ren->β->γ->Prop}{f:Ze->β->Sem (ForInStep β)}{f':Ze->γ->Sem (ForInStep γ)}{a':Array Ze}(h:B1 ρ a a'){b:β}{c:γ}(hb:R ρ b c)
 (hf:∀τ x y b c,ρ.le τ->VR τ x y->R τ b c->Ao P' P fz (StR R) τ (f x b) (f' y c)):Ao P' P fz R ρ (forIn a b f) (forIn a' c f'):=by
 rw[<-Zai, <-Zai];exact WA (E:=VR) (fun _ _ _ _ hle h=>h.mono hle) h.list hb hf
end
section
variable {P' P:Zp}{fz:Prop}{ρ:Ren}
def Vp (T:Twins P' P)(t:Zr):Ao P' P fz Gp ρ (typeStr t) (typeStr t):=by
 unfold typeStr;refine Ac _ (CB T t) fun σ i i' _ hi=>?_;obtain⟨rfl,_⟩:=hi;dsimp only;split
 .exact Aj
 .exact Ad rfl
def Eh (T:Twins P' P):∀(empty:Bool) (n:Nat) (t:Zr) {ρ:Ren} {v v':Ze},Base P ρ->VR ρ v v'->Ao P' P fz Gp ρ (YL empty n t v) (YL empty n t v')
 |_,0,_,_,_,_,_,_=>Aj
 |empty,n+1,t,ρ,v,v',hB,hv=>by
  unfold YL;refine Ac _ (Ar T t) fun σ d d' hle hd=>?_;obtain⟨rfl,_⟩:=hd;have ju:=hv.mono hle;have Jf:=hB.mono hle;cases d with
  |interface ms=>
   cases ju with
   |iface d h=>
    dsimp only;refine Ac _ (CB T d) fun Bv i i' Az hi=>?_;obtain⟨rfl,_⟩:=hi;have Vq:=Jf.mono Az;have ag8:=Eh T empty n d Vq (h.mono Az);split
    .cases empty with
     |true=>
      refine Ac Gp (AL T Vq _) fun Ez _ _ AX _=>?_;refine Ac _ (Vp T d) fun KW s s' BN hs=>?_;cases hs;exact Ac Gp (AL T ((Vq.mono AX).mono BN) _) fun NP _ _ Eg _=>Eh T true n d (((Vq.mono AX).mono BN).mono Eg) (h.mono (Ren.le_trans Az (Ren.le_trans AX (Ren.le_trans BN Eg))))
     |false=>
      refine Ac _ (Vp T d) fun KW s s' BN hs=>?_;cases hs;exact Ac Gp (AL T (Vq.mono BN) _) fun NP _ _ Eg _=>Eh T false n d ((Vq.mono BN).mono Eg) (h.mono (Ren.le_trans Az (Ren.le_trans BN Eg)))
    .exact ag8
   |nilIface=>exact Ad rfl
   |_=>exact Ae
  |array len elem=>
   cases ju with
   | @agg c c' hc KB=>
    have hcs:B1 σ c c':=⟨hc,KB⟩;dsimp only;refine Ac Gp (js (R:=Gp) len rfl fun τ x b c Dp _=>?_) fun _ _ _ _ _=>Ad rfl;refine Ac _ (Co T elem) fun DL s s' Bs hs=>?_;obtain⟨rfl,_⟩:=hs;refine Ac _ (KU T elem (B1.mono (Ren.le_trans Dp Bs) hcs) _) fun Kn y y' Ck hy=>?_;exact Ac _ (Eh T empty n elem (Jf.mono (Ren.le_trans Dp (Ren.le_trans Bs Ck))) hy) fun _ _ _ _ _=>Ad (.yield rfl)
   |_=>exact Ae
  |struct fields=>
   cases ju with
   | @agg c c' hc KB=>
    have hcs:B1 σ c c':=⟨hc,KB⟩;dsimp only;refine Ac Gp (vy (R:=Gp) fields rfl fun τ f b c Dp _=>?_) fun _ _ _ _ _=>Ad rfl;split
    .refine Ac _ (KU T _ (B1.mono Dp hcs) _) fun Kn y y' Ck hy=>?_
     exact Ac _ (Eh T empty n _ (Jf.mono (Ren.le_trans Dp Ck)) hy) fun _ _ _ _ _=>Ad (.yield rfl)
    .exact Ad (.yield rfl)
   |_=>exact Ae
  |_=>cases ju<;>exact Ad rfl
end
def JU (P:Zp):Nat->Zr->Bool
 |0,_=>false
 |n+1,t=>match P.underlying t with
  |some .bool|some (.int _)|some (.float _)|some (.complex _)|some .string|some (.slice _)|some (.map _ _)|some (.func _ _ _)|some (.chan _ _)=>true
  |some (.struct fs)=>fs.all fun f=>JU P n f.type
  |some (.array _ e)=>JU P n e
  |_=>false
section
variable {P' P:Zp}{fz:Prop}{ρ:Ren}
def Sm.eq_iff {a a' b b':Option Nat}(h:Sm ρ a a')(k:Sm ρ b b'):(a==b)=(a'==b'):=by
 rw[Zdj,beq_iff_eq,beq_iff_eq];cases a<;>cases a'<;>first|exact h.elim|skip
 all_goals cases b<;>cases b'<;>first|exact k.elim|skip
 .simp
 .simp
 .simp
 .simp only[ZN]
  constructor
  .rintro rfl;have h1:ρ _=_:=h;rw[show ρ _=_ from k]at h1;cases h1;rfl
  .rintro rfl;exact ρ.inj _ _ _ h k
def O1.isNone {a a':Option Addr}(h:O1 ρ a a'):a.isNone=a'.isNone:=by
 cases a<;>cases a'<;>first|exact h.elim|rfl
def Sm.isNone {a a':Option Nat}(h:Sm ρ a a'):a.isNone=a'.isNone:=by
 cases a<;>cases a'<;>first|exact h.elim|rfl
def Ko (hT:P'.toTables=P.toTables):∀(n:Nat) (t u:Zr),P'.alikeButTags n t u=P.alikeButTags n t u
 |0,_,_=>rfl
 |n+1,t,u=>by
  unfold Program.alikeButTags;simp only[hT,Ko hT n]
def Su (hT:P'.toTables=P.toTables)(t:Zr):P'.stoodInHeld t=P.stoodInHeld t:=by
 have hu:∀t,P'.underlying t=P.underlying t:=fun t=>by unfold Zb2;simp only[hT]
 have hi:∀t,P'.underlyingId t=P.underlyingId t:=fun t=>by unfold Program.underlyingId;simp only[hT]
 have hd:P'.depth=P.depth:=by unfold Program.depth;rw[hT]
 unfold Program.stoodInHeld Program.stoodInAs;simp only[hu,hi,hd,Ko hT,hT]
def AR.Sv {a b:Addr}(h:AR ρ a a')(k:AR ρ b b'):(a.block==b.block)=(a'.block==b'.block):=by
 rw[Zdj,beq_iff_eq,beq_iff_eq];constructor
 .intro e;have h1:=h.1;rw[e,k.1]at h1;exact(ZK h1).symm
 .intro e;have h1:=h.1;rw[e]at h1;exact ρ.inj _ _ _ h1 k.1
def AR.eq_iff {a b:Addr}(h:AR ρ a a')(k:AR ρ b b'):(a==b)=(a'==b'):=by
 have hb:=AR.Sv h k;obtain⟨ab,ao,asp⟩:=a;obtain⟨ab',ao',axq⟩:=a';obtain⟨bb,bo,bsp⟩:=b;obtain⟨bb',bo',axs⟩:=b';obtain⟨h1,h2,h3⟩:=h;obtain⟨k1,k2,k3⟩:=k;dsimp only at h1 h2 h3 k1 k2 k3 hb;subst h2;subst h3;subst k2;subst k3;rw[Zdj,beq_iff_eq,beq_iff_eq]at hb⊢;simp only[Addr.mk.injEq,hb]
def AR.base (hB:Base P ρ){a:Addr}(h:AR ρ a a'):(a.block<P.globals.size)=(a'.block<P.globals.size):=by
 apply propext;have:=ρ.sep _ _ h.1;unfold Base at hB;rw[hB]at this;exact this
def amK (σ:Ren)(a b:Option (Addr×Bool)):Prop:=(a=none/\b=none)\/∃x y l,a=some (x,l)/\b=some (y,l)/\AR σ x y
variable {l l' i n r r' N:Nat}
def Sw (h:ρ r=some r'):Ao P' P fz amK ρ (numberAt r) (numberAt r'):=by
 unfold numberAt;refine Ac _ (NL h) fun σ s s' hle hs=>?_;cases hs;split
 .exact Ad (.inl ⟨rfl,rfl⟩)
 .refine Ac _ (Dh (hle.1 _ _ h)) fun τ o o' _ ho=>?_
  cases ho with
  |number l h=>exact Ad (.inr ⟨_,_,l,rfl,rfl,h⟩)
  | @junk o' h=>cases o'<;>first|exact Ad (.inl ⟨rfl,rfl⟩)|cases h
  |_=>exact Ad (.inl ⟨rfl,rfl⟩)
def Ft {a:Addr}(h:AR ρ a a'):Ao P' P fz (fun σ p p'=>AR σ p.1 p'.1/\p.2=p'.2) ρ (ZbV a) (ZbV a'):=by
 unfold ZbV;refine Ac _ (Sw h.1) fun σ s s' hle hs=>?_;rcases hs with⟨rfl,rfl⟩|⟨x,y,l,rfl,rfl,hxy⟩
 .exact Ad ⟨h.mono hle,rfl⟩
 .exact Ad ⟨hxy,rfl⟩
def Pa (T:Twins P' P):∀(d m:Nat) (t:Zr) {ρ:Ren} {x x' y y':Ze},Base P ρ->JU P m t=true->VR ρ x x'->VR ρ y y'->Ao P' P fz Gp ρ (Za5 d t x y) (Za5 d t x' y')
 |0,_,_,_,_,_,_,_,_,_,_,_=>Aj
 |d+1,0,_,_,_,_,_,_,_,h,_,_=>by cases h
 |d+1,m+1,t,ρ,x,x',y,y',hB,h,hx,hy=>by
  unfold Za5;refine Ac _ (Ar T t) fun σ u u' hle hu=>?_;obtain⟨rfl,hu⟩:=hu;unfold JU at h;rw[hu]at h;have Be:=hx.mono hle;have Hv:=hy.mono hle;have Jf:=hB.mono hle;cases u with
  |bool=>
   cases Be<;>first|exact Ae|skip
   cases Hv<;>first|exact Ae|exact Ad rfl
  |int k=>
   cases Be with
   |int k n=>
    cases Hv with
    |int k' n'=>dsimp only;split<;>first|exact Ad rfl|exact Ae
    | @pointer b b' hb=>
     cases b<;>cases b'<;>first|exact hb.elim|skip
     .exact Aj
     .cases n with
      |ofNat z=>cases z with
       |zero=>exact Ad rfl
       |succ z=>exact Aj
      |negSucc z=>exact Aj
    |_=>exact Ae
   | @pointer a a' ha=>
    cases a<;>cases a'<;>first|exact ha.elim|skip
    .cases Hv<;>first|exact Ae|exact Aj
    .cases Hv with
     |int k' n'=>
      cases n' with
      |ofNat z=>cases z with
       |zero=>exact Ad rfl
       |succ z=>exact Aj
      |negSucc z=>exact Aj
     | @pointer b b' hb=>
      cases b<;>cases b'<;>first|exact hb.elim|skip
      .exact Aj
      .dsimp only
       refine Ac _ (Ft ha) fun Bv p p' Az hp=>?_;obtain⟨a,la⟩:=p;obtain⟨a',eZ⟩:=p';obtain⟨yL,_⟩:=hp;dsimp only at yL;have KQ:AR Bv _ _:=AR.mono Az hb;refine Ac _ (Ft KQ) fun Ez p p' AX hp=>?_;obtain⟨b,lb⟩:=p;obtain⟨b',lb'⟩:=p';obtain⟨yM,_⟩:=hp;dsimp only at yM;have NQ:=yL.mono AX;dsimp only;refine Ac _ Db fun KW p p' BN hp=>?_;obtain⟨rfl,rfl⟩:=hp;have jv:=NQ.mono BN;have pQ:=yM.mono BN;have Qh:Base P KW:=Jf.mono (Ren.le_trans Az (Ren.le_trans AX BN));rw[AR.Sv jv pQ,T.tables];have hbs:=AR.base Qh jv;simp only[hbs];split
       .refine Ac _ (Hu T jv) fun NP z z' Eg hz=>?_
        cases hz;refine Ac _ (Hu T (pQ.mono Eg)) fun atA y y' amL hy=>?_;cases hy;exact Ad rfl
       .refine Ac _ (CB T t) fun NP i i' Eg hi=>?_
        obtain⟨rfl,_⟩:=hi;rw[AR.eq_iff jv pQ]
        repeat' split
        all_goals first|exact Ad rfl|exact Aj
     |_=>exact Aj
   |_=>cases Hv<;>first|exact Ae|exact Aj
  |float k=>cases Be<;>exact Ae
  |complex k=>cases Be<;>exact Ae
  |string=>
   cases Be<;>first|exact Ae|skip
   cases Hv<;>first|exact Ae|exact Ad rfl
  |chan _ _=>
   cases Be<;>first|exact Ae|skip
   cases Hv<;>first|exact Ae|skip
   rename_i a a' ha b b' hb;dsimp only;rw[Sm.eq_iff ha hb];exact Ad rfl
  |slice e=>
   cases Be with
   | @slice a a' n c ha=>
    cases Hv with
    | @slice b b' n' c' hb=>
     cases a<;>cases a'<;>first|exact ha.elim|skip
     .dsimp only;rw[O1.isNone hb];exact Ad rfl
     .cases b<;>cases b'<;>first|exact hb.elim|exact Ad rfl|exact Ae
    |_=>cases a<;>cases a'<;>first|exact ha.elim|exact Ae
   |_=>exact Ae
  |map k e=>
   cases Be with
   | @map a a' ha=>
    cases Hv with
    | @map b b' hb=>
     cases a<;>cases a'<;>first|exact ha.elim|skip
     .dsimp only;rw[Sm.isNone hb];exact Ad rfl
     .cases b<;>cases b'<;>first|exact hb.elim|exact Ad rfl|exact Ae
    |_=>cases a<;>cases a'<;>first|exact ha.elim|exact Ae
   |_=>exact Ae
  |func _ _ _=>
   cases Be<;>first|exact Ae|skip
   all_goals cases Hv<;>first|exact Ae|exact Ad rfl
  |struct fields=>
   cases Be with
   | @agg c c' hc KB=>
    cases Hv with
    | @agg e e' he Sy=>
     have hcs:B1 σ c c':=⟨hc,KB⟩;have UJ:B1 σ e e':=⟨he,Sy⟩;dsimp only;refine Ac _ Db fun Bv p p' Az hp=>?_;obtain⟨rfl,rfl⟩:=hp;rw[Su T.tables];split
     .exact Aj
     .rw[<-Zai, <-Zai]
      have Eb:EB (fun(f g:Field)=>f=g/\JU P m f.type=true) fields.toList fields.toList:=by
       have:∀l:List Field,(∀f∈l,JU P m f.type=true)->EB (fun(f g:Field)=>f=g/\JU P m f.type=true) l l:=by
        intro l
        induction l with
        |nil=>intro _;exact .nil
        |cons x l ih=>intro hl;exact .cons ⟨rfl,hl x (by simp)⟩ (ih fun f hf=>hl f (by simp[hf]))
       refine this _ fun f hf=>?_;dsimp only at h;rw[z8]at h;exact h f (by simpa using hf)
      refine Ac Gp (WA (E:=fun _ (f g:Field)=>f=g/\JU P m f.type=true) (fun _ _ _ _ _ h=>h) Eb rfl fun τ f g b c' Dp hfg _=>?_) fun τ s s' _ hs=>?_
      .obtain⟨rfl,hfe⟩:=hfg
       split
       .have AX:=Ren.le_trans Az Dp
        refine Ac _ (KU T _ (B1.mono AX hcs) _) fun DL y y' Bs hy=>?_;refine Ac _ (KU T _ (B1.mono (Ren.le_trans AX Bs) UJ) _) fun Kn z z' Ck hz=>?_;refine Ac _ (Pa T d m f.type (Jf.mono (Ren.le_trans AX (Ren.le_trans Bs Ck))) hfe (hy.mono Ck) hz) fun Hw b b' _ hb=>?_;cases hb;split
        .exact Ad (.done rfl)
        .exact Ad (.yield rfl)
       .exact Ad (.yield rfl)
      .cases hs
       split<;>exact Ad rfl
    |_=>exact Ae
   |_=>exact Ae
  |array len elem=>
   cases Be with
   | @agg c c' hc KB=>
    cases Hv with
    | @agg e e' he Sy=>
     have hcs:B1 σ c c':=⟨hc,KB⟩;have UJ:B1 σ e e':=⟨he,Sy⟩;dsimp only;refine Ac _ (Co T elem) fun Bv s s' Az hs=>?_;obtain⟨rfl,_⟩:=hs;refine Ac Gp (js (R:=Gp) len rfl fun τ x b c' Dp _=>?_) fun τ s s' _ hs=>?_
     .have AX:=Ren.le_trans Az Dp
      refine Ac _ (KU T _ (B1.mono AX hcs) _) fun DL y y' Bs hy=>?_;refine Ac _ (KU T _ (B1.mono (Ren.le_trans AX Bs) UJ) _) fun Kn z z' Ck hz=>?_;refine Ac _ (Pa T d m elem (Jf.mono (Ren.le_trans AX (Ren.le_trans Bs Ck))) h (hy.mono Ck) hz) fun Hw b b' _ hb=>?_;cases hb;split
      .exact Ad (.done rfl)
      .exact Ad (.yield rfl)
     .cases hs
      split<;>exact Ad rfl
    |_=>exact Ae
   |_=>exact Ae
  |_=>cases h
def Sz (T:Twins P' P)(m:Nat)(t:Zr)(hB:Base P ρ)(h:JU P m t=true)(hx:VR ρ x x')(hy:VR ρ y y'):Ao P' P fz Gp ρ (Zaf t x y) (Zaf t x' y'):=
 Pa T _ m t hB h hx hy
def aS (P:Zp)(m:Nat)(t:Zr):Bool:=JU P m t&&match P.underlying t with|some (.struct _)|some (.array _ _)=>true|_=>false
def pR {m:Nat}{t:Zr}(h:aS P m t=true){u:TypeDesc}(hu:P.underlying t=some u)(a b:Ze):Zbr u a b=none:=by
 unfold aS at h;rw[hu]at h;cases u<;>first|(simp at h;done)|(cases a<;>rfl)
def lK (kind:TypeDesc)(az:∀a b,Zbr kind a b=none){k:Ze}:∀ {es BH:List MapEntry},EB (O_ ρ) es BH->∀i,(ZaP kind k es i=none/\ZaP kind k' BH i=none)\/
  ∃r r',ZaP kind k es i=some r/\ZaP kind k' BH i=some r'/\((r=none/\r'=none)\/∃j v v',r=some (j,v)/\r'=some (j,v')/\VR ρ v v'):=by
 intro es
 induction es with
 |nil=>intro BH h i;cases h;exact .inr ⟨none,none,rfl,rfl,.inl ⟨rfl,rfl⟩⟩
 |cons e es ih=>
  intro BH h i;cases h with
  | @cons _ e' _ BH he ht=>
   have hs:Zbr kind k e.key=Zbr kind k' e'.key:=by rw[az,az]
   unfold ZaP;rw[hs];cases Zbr kind k' e'.key with
   |none=>exact .inl ⟨rfl,rfl⟩
   |some b=>cases b with
    |true=>exact .inr ⟨_,_,rfl,rfl,.inr ⟨i,e.val,e'.val,rfl,rfl,he.val⟩⟩
    |false=>exact ih ht (i+1)
def pS (σ:Ren)(a b:Option (Nat×Ze)):Prop:=(a=none/\b=none)\/∃j v v',a=some (j,v)/\b=some (j,v')/\VR σ v v'
def WB (T:Twins P' P)(m:Nat)(t:Zr)(h:JU P m t=true):∀ {es BH:List MapEntry} {ρ:Ren} {k k':Ze},Base P ρ->VR ρ k k'->EB (O_ ρ) es BH->∀i,
  Ao P' P fz pS ρ (Yd t k es i) (Yd t k' BH i):=by
 intro es
 induction es with
 |nil=>intro BH ρ k k' _ _ hl i;cases hl;exact Ad (.inl ⟨rfl,rfl⟩)
 |cons e es ih=>
  intro BH ρ k k' hB hk hl i;cases hl with
  | @cons _ e' _ BH he ht=>
   unfold Yd;refine Ac _ (Sz T m t hB h hk he.key) fun σ b b' hle hb=>?_;cases hb;split
   .exact Ad (.inr ⟨i,_,_,rfl,rfl,he.val.mono hle⟩)
   .exact ih (hB.mono hle) (hk.mono hle) (ht.mono fun _ _=>O_.mono hle) (i+1)
def Pb (T:Twins P' P)(m:Nat)(t:Zr)(hq:aS P m t=true)(hB:Base P ρ){es BH:List MapEntry}{k:Ze}(hk:VR ρ k k')(hl:EB (O_ ρ) es BH):
  Ao P' P fz pS ρ (Zal t k es) (Zal t k' BH):=by
 unfold Zal;have h:JU P m t=true:=(ZI _ _▸hq:_/\_).1;refine Ac _ (Ar T t) fun σ u u' hle hu=>?_;obtain⟨rfl,hu⟩:=hu;have aga:=hk.mono hle;have yN:EB (O_ σ) es BH:=hl.mono fun _ _=>O_.mono hle;rcases lK (k:=k) (k':=k') u (pR hq hu) yN 0 with⟨e1,e2⟩|⟨r,r',e1,e2,hr⟩
 .rw[e1,e2];exact WB T m t h (hB.mono hle) aga yN 0
 .rw[e1,e2];exact Ad hr
end
section
variable {P' P:Zp}{fz:Prop}{ρ:Ren}
def yO (ρ:Ren)(a b:Nat×Ze):Prop:=a.1=b.1/\VR ρ a.2 b.2
def SA (place:Nat->Option (Nat×Nat)):∀ {l l':List (Nat×Ze)} {c c':Array Ze},EB (yO ρ) l l'->B1 ρ c c'->
  (Zau place c l=none/\Zau place c' l'=none)\/∃d d',Zau place c l=some d/\Zau place c' l'=some d'/\B1 ρ d d':=by
 intro l
 induction l with
 |nil=>intro l' c c' hl hc;cases hl;exact .inr ⟨c,c',rfl,rfl,hc⟩
 |cons x l ih=>
  intro l' c c' hl hc;cases hl with
  | @cons _ y _ l' hx ht=>
   obtain⟨i,v⟩:=x;obtain⟨j,v'⟩:=y;obtain⟨e,hv⟩:=hx;dsimp only at e hv;subst e;unfold Zau;cases place i with
   |none=>exact .inl ⟨rfl,rfl⟩
   |some os=>
    obtain⟨off,size⟩:=os;dsimp only;have hvc:=hv.cells;rw[hvc.1,hc.1];split
    .exact .inl ⟨rfl,rfl⟩
    .refine ih ht ?_
     have key:∀ {a a':Array Ze} (n:Nat),B1 ρ a a'->∀ {z z':Array Ze},B1 ρ z z'->B1 ρ ((a.toList.zipIdx n).foldl (fun cs (p:Ze×Nat)=>cs.setIfInBounds (off+p.2) p.1) z) ((a'.toList.zipIdx n).foldl (fun cs (p:Ze×Nat)=>cs.setIfInBounds (off+p.2) p.1) z'):=by
      intro a a' n ha;have hl:=ha.list;generalize a.toList=l at hl⊢;generalize a'.toList=l' at hl⊢;clear ha
      induction hl generalizing n with
      |nil=>intro z z' hz;exact hz
      |cons h _ ih=>intro z z' hz;simp only[List.zipIdx_cons,List.foldl_cons];exact ih (n+1) (hz.set h _)
     have e2:∀(a:Array Ze) (z:Array Ze),a.zipIdx.foldl (fun cs (x:Ze×Nat)=>match x with|(c,j)=>cs.setIfInBounds (off+j) c) z=(a.toList.zipIdx 0).foldl (fun cs (p:Ze×Nat)=>cs.setIfInBounds (off+p.2) p.1) z:=by
      intro a z;rw[<-Zb5,Array.toList_zipIdx]
     rw[e2,e2];exact key 0 hvc hc
def Mw {ι:Type}{R:Ren->β->γ->Prop}(hR:∀ρ σ x y,ρ.le σ->R ρ x y->R σ x y){f:ι->Sem β}{g:ι->Sem γ}(hf:∀τ x,ρ.le τ->Ao P' P fz R τ (f x) (g x))(l:List ι):
  ∀σ,ρ.le σ->Ao P' P fz (fun τ a b=>EB (R τ) a b) σ (l.mapM f) (l.mapM g):=by
 induction l with
 |nil=>intro σ _;exact Ad .nil
 |cons x l ih=>
  intro σ hσ;rw[List.mapM_cons,List.mapM_cons];refine Ac _ (hf σ x hσ) fun Bv a b hle EC=>?_;refine Ac _ (ih Bv (Ren.le_trans hσ hle)) fun Ez as bs Az has=>?_;exact Ad (.cons (hR _ _ _ _ Az EC) has)
def DM (T:Twins P' P){Q:Ren->α->β->Prop}(hB:Base P ρ)(e:RuntimeError){f:γ->Sem α}{f':δ->Sem β}:Ao P' P fz Q ρ (zE e>>=f) (zE e>>=f'):=
 Ac (fun _ _ _=>False) (AL T hB e) fun _ _ _ _ h=>h.elim
variable {p':Array (Nat×Ze)}
def vz (T:Twins P' P)(t:Zr){p:Array (Nat×Ze)}(hp:EB (yO ρ) p.toList p'.toList):Ao P' P fz VR ρ (Zbo t p) (Zbo t p'):=by
 unfold Zbo;refine Ac _ (Di T t) fun σ z z' hle hz=>?_;have agc:=hz.cells;dsimp only;refine Ac _ (Ar T t) fun Bv d d' Az hd=>?_;obtain⟨rfl,_⟩:=hd;have CV:=Ren.le_trans hle Az;have yP:=B1.mono Az agc;have yQ:EB (yO Bv) p.toList p'.toList:=hp.mono fun _ _ h=>⟨h.1,h.2.mono CV⟩;cases d with
 |struct fields=>
  dsimp only;refine Ac (fun _ a b=>a=b) ?_ fun Ez pl pl' AX aT=>?_
  .rw[Y5]
   refine Ac _ (Mw (ρ:=Bv) (R:=Gp) (fun _ _ _ _ _ h=>h) (fun τ x _=>?_) _ Bv (Ren.le_refl _)) fun Ez a b _ EC=>?_
   .refine Ac _ (Co T x.type) fun Ez s s' AX hs=>?_
    obtain⟨rfl,_⟩:=hs;exact Ad rfl
   .have:a=b:=by
     induction EC with
     |nil=>rfl
     |cons h _ ih=>cases h;rw[ih]
    subst this;exact Ad rfl
  .cases aT
   have SB:EB (yO Ez) p.toList p'.toList:=yQ.mono fun _ _ h=>⟨h.1,h.2.mono AX⟩;rcases SA (ρ:=Ez) (pl[·]?) SB (B1.mono AX yP) with⟨e1,e2⟩|⟨c,c',e1,e2,hc⟩
   .rw[e1];exact Ae
   .rw[e1,e2];exact Ad (.QW hc)
 |array n elem=>
  dsimp only;refine Ac _ (Co T elem) fun Ez s s' AX hs=>?_;obtain⟨rfl,_⟩:=hs;have SB:EB (yO Ez) p.toList p'.toList:=yQ.mono fun _ _ h=>⟨h.1,h.2.mono AX⟩;rcases SA (ρ:=Ez) (fun i=>some (i*s,s)) SB (B1.mono AX yP) with⟨e1,e2⟩|⟨c,c',e1,e2,hc⟩
  .rw[e1];exact Ae
  .rw[e1,e2];exact Ad (.QW hc)
 |_=>exact Ae
def Hx (h:B1 ρ a b)(n:Nat):B1 ρ ((YT n).map (a[· % a.size]!)) ((YT n).map (b[· % b.size]!)):=by
 by_cases hz:a.size=0
 .have hb:b.size=0:=h.1▸hz
  have e1:a= #[]:=Zco hz;have e2:b= #[]:=Zco hb;subst e1;subst e2;refine⟨rfl,fun i x y hx hy=>?_⟩;rw[hx]at hy;cases hy;rw[zN,zf]at hx;obtain⟨u,_,rfl⟩:=hx;exact .bool false
 .exact UI h hz n
def WC (T:Twins P' P)(t:Zr)(len:Nat){p:Array (Nat×Ze)}(hp:EB (yO ρ) p.toList p'.toList):Ao P' P fz VR ρ (Zcn t len p) (Zcn t len p'):=by
 unfold Zcn;refine Ac _ (Ar T t) fun σ d d' hle hd=>?_;obtain⟨rfl,_⟩:=hd;cases d with
 |slice elem=>
  dsimp only;refine Ac _ (Co T elem) fun Bv s s' Az hs=>?_;obtain⟨rfl,_⟩:=hs;split
  .exact .bad trivial
  .have fin:∀(τ:Ren) (z z':Array Ze),Bv.le τ->B1 τ z z'->
     (Zau (fun i=>some (i*s,s)) ((YT (len*s)).map (z[· % z.size]!)) p.toList=none/\Zau (fun i=>some (i*s,s)) ((YT (len*s)).map (z'[· % z'.size]!)) p'.toList=none)\/
     ∃d d',Zau (fun i=>some (i*s,s)) ((YT (len*s)).map (z[· % z.size]!)) p.toList=some d/\Zau (fun i=>some (i*s,s)) ((YT (len*s)).map (z'[· % z'.size]!)) p'.toList=some d'/\B1 τ d d':=by
    intro τ z z' Dp hz;have SB:EB (yO τ) p.toList p'.toList:=hp.mono fun _ _ h=>⟨h.1,h.2.mono (Ren.le_trans hle (Ren.le_trans Az Dp))⟩;exact SA (ρ:=τ) (fun i=>some (i*s,s)) SB (Hx hz (len*s))
   split
   .refine Ac (fun σ a b=>B1 σ a b) (Ad BG.nil) fun τ z z' Dp hz=>?_
    rcases fin τ z z' Dp hz with⟨e1,e2⟩|⟨c,c',e1,e2,hc⟩
    .rw[e1];exact Ae
    .rw[e1,e2];exact Ac _ (Je elem hc) fun _ _ _ _ ha=>Ad (.slice _ _ ha)
   .refine Ac _ (Di T elem) fun τ z z' Dp hz=>?_
    refine Ac (fun σ a b=>B1 σ a b) (Ad hz.cells) fun DL y y' Bs hy=>?_;rcases fin DL y y' (Ren.le_trans Dp Bs) hy with⟨e1,e2⟩|⟨c,c',e1,e2,hc⟩
    .rw[e1];exact Ae
    .rw[e1,e2];exact Ac _ (Je elem hc) fun _ _ _ _ ha=>Ad (.slice _ _ ha)
 |_=>exact Ae
def aU (T:Twins P' P)(hB:Base P ρ)(t:Zr){l l' c c':Ze}(hl:VR ρ l l')(hc:VR ρ c c'):Ao P' P fz VR ρ (Zdp t l c) (Zdp t l' c'):=by
 unfold Zdp;refine Ac _ (Ar T t) fun σ d d' hle hd=>?_;obtain⟨rfl,_⟩:=hd;cases d with
 |slice elem=>
  dsimp only;refine Ac _ (LV (hl.mono hle)) fun Bv n n' Az hn=>?_;cases hn;refine Ac _ (LV (hc.mono (Ren.le_trans hle Az))) fun Ez m m' AX hm=>?_;cases hm;refine Ac _ (CB T elem) fun KW i i' BN hi=>?_;obtain⟨rfl,_⟩:=hi;have Qh:Base P KW:=hB.mono (Ren.le_trans hle (Ren.le_trans Az (Ren.le_trans AX BN)));have tail:∀τ:Ren,KW.le τ->Ao P' P fz VR τ (sizeOf elem>>=fun s=>if(IntKind.i64.wrap m).toNat*s=0 then(pure #[]>>=fun zero=>newRow elem ((YT ((IntKind.i64.wrap m).toNat*s)).map (zero[· % zero.size]!))>>=fun a=>pure (ZA (some a) (IntKind.i64.wrap n).toNat (IntKind.i64.wrap m).toNat))
    else zeroValue elem>>=fun z=>(pure z.cells>>=fun zero=>newRow elem ((YT ((IntKind.i64.wrap m).toNat*s)).map (zero[· % zero.size]!))>>=fun a=>pure (ZA (some a) (IntKind.i64.wrap n).toNat (IntKind.i64.wrap m).toNat)))
    (sizeOf elem>>=fun s=>if(IntKind.i64.wrap m).toNat*s=0 then(pure #[]>>=fun zero=>newRow elem ((YT ((IntKind.i64.wrap m).toNat*s)).map (zero[· % zero.size]!))>>=fun a=>pure (ZA (some a) (IntKind.i64.wrap n).toNat (IntKind.i64.wrap m).toNat))
    else zeroValue elem>>=fun z=>(pure z.cells>>=fun zero=>newRow elem ((YT ((IntKind.i64.wrap m).toNat*s)).map (zero[· % zero.size]!))>>=fun a=>pure (ZA (some a) (IntKind.i64.wrap n).toNat (IntKind.i64.wrap m).toNat))):=by
   intro τ Dp;refine Ac _ (Co T elem) fun NP s s' Eg hs=>?_;obtain⟨rfl,_⟩:=hs;split
   .refine Ac (fun σ a b=>B1 σ a b) (Ad BG.nil) fun τ z z' Dp hz=>?_
    exact Ac _ (Je elem (Hx hz _)) fun _ _ _ _ ha=>Ad (.slice _ _ ha)
   .refine Ac _ (Di T elem) fun τ z z' Dp hz=>?_
    refine Ac (fun σ a b=>B1 σ a b) (Ad hz.cells) fun DL y y' Bs hy=>?_;exact Ac _ (Je elem (Hx hy _)) fun _ _ _ _ ha=>Ad (.slice _ _ ha)
  split
  .split
   .exact DM T Qh _
   .split
    .exact DM T Qh _
    .refine Ac _ (Hs _) fun τ a b Dp EC=>?_
     cases EC;exact DM T (Qh.mono Dp) _
  .exact Ac _ (Vn _) fun τ _ _ Dp _=>tail τ Dp
 |_=>exact Ae
end
section
variable {P' P:Zp}{fz:Prop}{ρ:Ren}
def BG.modify {R:α->β->Prop}{a:Array α}{b:Array β}{f:α->α}{g:β->β}(h:BG R a b)(hf:∀x y,R x y->R (f x) (g y))(i:Nat):BG R (a.modify i f) (b.modify i g):=by
 refine⟨by simp[h.1],fun j x y hx hy=>?_⟩;rw[Zac]at hx hy;split at hx
 .rw[if_pos ‹_›]at hy
  rw[zf]at hx hy;obtain⟨u,hu,rfl⟩:=hx;obtain⟨v,hv,rfl⟩:=hy;exact hf _ _ (h.2 _ _ _ hu hv)
 .rw[if_neg ‹_›]at hy;exact h.2 _ _ _ hx hy
def O1.eq_iff {a a' b b':Option Addr}(h:O1 ρ a a')(k:O1 ρ b b'):(a==b)=(a'==b'):=by
 cases a<;>cases a'<;>first|exact h.elim|skip
 all_goals cases b<;>cases b'<;>first|exact k.elim|rfl|skip
 have:=AR.eq_iff h k;simpa using this
def aV (a b:ByteArray):(a==b)=true↔a=b:=by
 constructor
 .intro h
  cases a with|mk a=>cases b with|mk b=>
  have h':(a==b)=true:=h;rw[eq_of_beq h']
 .rintro rfl
  cases a with|mk a=>exact(beq_self_eq_true a:(a==a)=true)
def UK:∀(n:Nat) {a a' b b':Ze},VR ρ a a'->VR ρ b b'->zQ n a b=true->zQ n a' b'=true:=by
 intro n
 induction n with
 |zero=>
  intro a a' b b' h k hs;cases h<;>cases k<;>first|exact hs|(cases hs;done)|skip
  .rename_i h1 _ _ h2;exact(O1.eq_iff h1 h2).symm.trans hs
  .rename_i h1 _ _ h2;exact(Sm.eq_iff h1 h2).symm.trans hs
 |succ n ih=>
  intro a a' b b' h k hs;cases h<;>cases k<;>first|exact hs|(cases hs;done)|skip
  .rename_i h1 _ _ h2;exact(O1.eq_iff h1 h2).symm.trans hs
  .rename_i h1 _ _ h2;exact(Sm.eq_iff h1 h2).symm.trans hs
  .rename_i h1 _ _ _ h2
   simp only[zQ,ZI]at hs⊢;exact⟨hs.1,ih h1 h2 hs.2⟩
  .rename_i c c' hc KB e e' he Sy
   have h1:B1 ρ c c':=⟨hc,KB⟩;have h2:B1 ρ e e':=⟨he,Sy⟩;simp only[zQ,hc,he,ZI]at hs⊢;refine⟨hs.1,?_⟩;have key:∀ {l l':List Ze},EB (VR ρ) l l'->∀ {m m':List Ze},EB (VR ρ) m m'->((l.zip m).all fun x=>match x with|(x,y)=>zQ n x y)=true->((l'.zip m').all fun x=>match x with|(x,y)=>zQ n x y)=true:=by
    intro l l' hl
    induction hl with
    |nil=>intro m m' hm h;cases hm<;>rfl
    |cons hx _ ihl=>intro m m' hm h;cases hm with
     |nil=>rfl
     |cons hy ht=>
      simp only[List.zip_cons_cons,Zba,ZI]at h⊢;exact⟨ih hx hy h.1,ihl ht h.2⟩
   exact key h1.list h2.list hs.2
def aW:∀(n:Nat) {a b:Ze},zQ n a b=true->a=b:=by
 intro n
 induction n with
 |zero=>
  intro a b h;cases a<;>cases b<;>first|(cases h;done)|(simp[zQ]at h;simp[h];done)|rfl|exact congrArg Value.string ((aV _ _).1 h)
 |succ n ih=>
  intro a b h;cases a<;>cases b<;>first|(cases h;done)|skip
  case agg.agg c e=>
   simp only[zQ,ZI,beq_iff_eq]at h;have key:∀ {l m:List Ze},l.length=m.length->((l.zip m).all fun x=>match x with|(x,y)=>zQ n x y)=true->l=m:=by
    intro l
    induction l with
    |nil=>intro m hm _;cases m with
     |nil=>rfl
     |cons _ _=>cases hm
    |cons x l ihl=>intro m hm h;cases m with
     |nil=>cases hm
     |cons y m=>
      simp only[List.zip_cons_cons,Zba,ZI]at h;rw[ih h.1,ihl (ZH hm) h.2]
   congr 1
   exact Array.ext' (key (by simpa using h.1) h.2)
  case iface.iface t v u x=>
   simp only[zQ,ZI,beq_iff_eq]at h;rw[h.1,ih h.2]
  all_goals first|(simp[zQ]at h;simp[h];done)|rfl|exact congrArg Value.string ((aV _ _).1 h)
def QV {β:Type}(P:Zp)(s:Sem β):Prop:=∀(w:Zc) (t:Tape) (es:Array zc),s.runT P {w with tape:=t} es=((s.runT P w es).1.tp t,(s.runT P w es).2)
def Kp {Q:Ren->α->β->Prop}{a a' b b':Ze}(h:VR ρ a a')(k:VR ρ b b'){f:Ze->Sem α}{f':Ze->Sem β}(hf:∀σ v v',ρ.le σ->VR σ v v'->Ao P' P fz Q σ (f v) (f' v'))(Qi:∀v',QV P (f' v')):
  DK P' P fz Q ρ ((Yr a b).bind f) ((Yr a' b').bind f'):=by
 by_cases hl:zQ 10000 a b=true
 .have hr:=UK 10000 h k hl
  unfold Yr;rw[if_pos hl,if_pos hr];exact(hf ρ b b' (Ren.le_refl _) k).ok
 by_cases hr:zQ 10000 a' b'=true
 .have e:a'=b':=aW 10000 hr
  intro w w' hw es BH r g BD hd;have hL:∀u es,((Yr a b).bind f).runT P' u es=(f (if(Zci "map.whichKeyStays" 2).cut (u.tape u.drawn (.extern "map.whichKeyStays" 2))=0 then b else a)).runT P' {u with drawn:=u.drawn+1} es:=by
   intro u es;unfold Yr;rw[if_neg hl]
   rfl
  have hR:((Yr a' b').bind f').runT P w' BH=(f' b').runT P w' BH:=by
   unfold Yr;rw[if_pos hr]
   rfl
  rw[hL]at BD;generalize hv:(if(Zci "map.whichKeyStays" 2).cut (w.tape w.drawn (.extern "map.whichKeyStays" 2))=0 then b else a)=v at BD;have hvr:VR ρ v b':=by
   subst hv;split
   .exact k
   .exact e▸h
  let NN:Tape:=fun i=>w.tape (i - w'.drawn+(w.drawn+1))
  have uw:Iw ρ {w with drawn:=w.drawn+1} {w' with tape:=NN}:=⟨hw.obj,fun i q=>by
   show w.tape (w.drawn+1+i) q=w.tape (w'.drawn+i - w'.drawn+(w.drawn+1)) q;rw[Zbt,Nat.add_comm i],hw.os⟩
  obtain⟨σ,r',d,d',h1,h2,h3,h4,h5,h6,h7,h8⟩:=(hf ρ v b' (Ren.le_refl _) hvr).run _ _ uw es BH r g BD hd;rw[Qi b' w' NN BH]at h3;rcases hx:(f' b').runT P w' BH with⟨SC,amP⟩;rw[hx]at h3;simp only[Prod.mk.injEq]at h3;obtain⟨Qg,hg⟩:=h3;have ht:SC.world.tape=w'.tape:=by
   have:=Qi b' w' w'.tape BH;rw[show({w' with tape:=w'.tape}:Zc)=w' from rfl,hx]at this;simp only[Prod.mk.injEq]at this;have:=congrArg (fun r:Result β=>r.world.tape) this.1;cases SC<;>exact this
  subst Qg;refine⟨σ,SC,d,d',h1,h2,by rw[hR,hx, <-hg],?_,⟨fun b c hb=>?_,?_⟩,h6,⟨Zt (Zj _) h7.size,?_,h7.fresh,?_,?_,h7.Sr,h7.frozen,?_,ht,?_,h7.Qf,Zbj h7.drawn,h7.pH,h7.shape,h7.awake⟩,fun t ht=>?_⟩
  .cases h4':SC with
   |ok x u=>rw[h4']at h4;cases h4 with|ok hq=>exact .ok hq
   |halt x u=>rw[h4']at h4;cases h4 with|panic hq=>exact .panic hq
  .obtain⟨o,o',p1,p2,p3⟩:=h5.obj b c hb
   exact⟨o,o',p1,by cases SC<;>exact p2,p3⟩
  .have:=h5.os;cases SC<;>exact this
  .have:=h7.NK;cases SC<;>exact this
  .have:=h7.new;cases SC<;>exact this
  .have:=h7.still;cases SC<;>exact this
  .have:=h7.os;cases SC<;>exact this
  .have:=h7.output;cases SC<;>exact this
  .rw[hL]
   have e2:t w.drawn=w.tape w.drawn:=ht _ (Zj _) h7.drawn;show(f (if(Zci "map.whichKeyStays" 2).cut (t w.drawn _)=0 then b else a)).runT P' _ es=_;rw[e2,hv];exact h8 t (fun i x y=>ht i (Zbj x) y)
 .unfold Yr
  rw[if_neg hl,if_neg hr];refine Ao.ok (Ao.bind (R:=VR) (Ac _ (Hs _) fun σ x y hle hxy=>?_) hf);cases hxy;refine Ad ?_;split
  .exact k.mono hle
  .exact h.mono hle
def aX (r:Nat)(o:Obj):QV P (setObj r o):=by
 intro w t es;unfold setObj;simp only[ZM];cases w.heap[r]? with
 |none=>rfl
 |some u=>cases u<;>rfl
def pT (T:Twins P' P)(m:Nat)(t:Zr)(hm:∀k e,P.underlying t=some (.map k e)->aS P m k=true)(hB:Base P ρ){i:Ze}(hx:VR ρ x x')(hi:VR ρ i i')(ok:Bool):
  Ao P' P fz VR ρ (Za8 t x i ok) (Za8 t x' i' ok):=by
 unfold Za8;refine Ac _ (Ar T t) fun σ d d' hle hd=>?_;obtain⟨rfl,hd⟩:=hd;have Be:=hx.mono hle;cases d with
 |map key elem=>
  have pU:=hm _ _ hd;dsimp only;have tail:∀τ (es BH:Array MapEntry),σ.le τ->BG (O_ τ) es BH->Ao P' P fz VR τ
    (YL es.isEmpty 10000 key i>>=fun _=>Zal key i es.toList>>=fun r=>match r with
     |some (_,v)=>pure (v,true)>>=fun p=>pure (if ok=true then .tuple #[p.1,.bool p.2] else p.1)
     |none=>zeroValue elem>>=fun z=>pure (z,false)>>=fun p=>pure (if ok=true then .tuple #[p.1,.bool p.2] else p.1))
    (YL BH.isEmpty 10000 key i'>>=fun _=>Zal key i' BH.toList>>=fun r=>match r with
     |some (_,v)=>pure (v,true)>>=fun p=>pure (if ok=true then .tuple #[p.1,.bool p.2] else p.1)
     |none=>zeroValue elem>>=fun z=>pure (z,false)>>=fun p=>pure (if ok=true then .tuple #[p.1,.bool p.2] else p.1)):=by
   intro τ es BH Dp UJ;have he:es.isEmpty=BH.isEmpty:=by simp[Zdb,UJ.1]
   rw[he];have Az:=Ren.le_trans hle Dp;refine Ac _ (Eh T _ _ _ (hB.mono Az) (hi.mono Az)) fun DL _ _ Bs _=>?_;have AX:=Ren.le_trans Az Bs;have hl:EB (O_ DL) es.toList BH.toList:=(BG.mono UJ fun _ _=>O_.mono Bs).list;refine Ac _ (Pb T m key pU (hB.mono AX) (hi.mono AX) hl) fun Kn r r' Ck hr=>?_;have fin:∀(Hw:Ren) v v' b,VR Hw v v'->VR Hw (if ok=true then .tuple #[v,.bool b] else v) (if ok=true then .tuple #[v',.bool b] else v'):=by
    intro Hw v v' b hv;split
    .exact .tuple' ((BG.single hv).push (.bool b))
    .exact hv
   rcases hr with⟨rfl,rfl⟩|⟨j,v,v',rfl,rfl,hv⟩
   .refine Ac _ (Di T elem) fun Hw z z' Fu hz=>?_
    refine Ac (fun σ a b=>VR σ a.1 b.1/\a.2=b.2) (Ad ⟨hz,rfl⟩) fun jw p p' _ hp=>?_;obtain⟨a,b⟩:=p;obtain⟨a',b'⟩:=p';obtain⟨h1,h2⟩:=hp;cases h2;exact Ad (fin _ _ _ _ h1)
   .refine Ac (fun σ a b=>VR σ a.1 b.1/\a.2=b.2) (Ad ⟨hv,rfl⟩) fun jw p p' _ hp=>?_
    obtain⟨a,b⟩:=p;obtain⟨a',b'⟩:=p';obtain⟨h1,h2⟩:=hp;cases h2;exact Ad (fin _ _ _ _ h1)
  cases Be with
  | @map r r' hr=>
   cases r<;>cases r'<;>first|exact hr.elim|skip
   .exact Ac (fun σ a b=>BG (O_ σ) a b) (Ad BG.nil) fun τ es BH Dp UJ=>tail τ es BH Dp UJ
   .dsimp only
    refine Ac _ (Dh hr) fun τ o o' Dp ho=>?_;cases ho with
    |map k h=>exact Ac (fun σ a b=>BG (O_ σ) a b) (Ad h) fun DL es BH Bs UJ=>tail DL es BH (Ren.le_trans Dp Bs) UJ
    |_=>exact CK
  |_=>exact CK
 |_=>exact Ae
variable {BH:Array MapEntry}
def aY {es:Array MapEntry}(UJ:BG (O_ ρ) es BH){k:Ze}(hk:VR ρ k k')(i:Nat):VR ρ (((es[i]?).map (·.key)).getD k) (((BH[i]?).map (·.key)).getD k')/\((BH[i]?).map (fun e=>(e.born:Int))).getD 0=((es[i]?).map (fun e=>(e.born:Int))).getD 0:=by
 rcases UJ.opt i with⟨e1,e2⟩|⟨x,y,e1,e2,hr⟩
 .rw[e1,e2];exact⟨hk,rfl⟩
 .rw[e1,e2];exact⟨hr.key,by simp[hr.born]⟩
def Pc (r:Nat)(o:Obj)(v:β):QV P (setObj r o>>=fun _=>pure v):=by
 intro w t es;show(Sem.setObj r o (Zd6 v)).runT P _ es=(((Sem.setObj r o (Zd6 v)).runT P w es).1.tp t,((Sem.setObj r o (Zd6 v)).runT P w es).2);simp only[ZM];cases w.heap[r]? with
 |none=>rfl
 |some u=>cases u<;>rfl
def Qj (T:Twins P' P)(m:Nat)(t:Zr)(hm:∀k e,P.underlying t=some (.map k e)->aS P m k=true)(hB:Base P ρ){k:Ze}(hx:VR ρ x x')(hk:VR ρ k k')(hv:VR ρ v v'):
  DK P' P fz Gp ρ (ZaX t x k v) (ZaX t x' k' v'):=by
 unfold ZaX;refine DK.bind (Ar T t) fun σ d d' hle hd=>?_;obtain⟨rfl,hd⟩:=hd;have Be:=hx.mono hle;cases d with
 |map key elem=>
  have pU:=hm _ _ hd;dsimp only;cases Be with
  | @map r r' hr=>
   cases r<;>cases r'<;>first|exact hr.elim|skip
   .exact(AL T (hB.mono hle) _).ok
   .dsimp only
    refine DK.bind (Dh hr) fun τ o o' Dp ho=>?_;cases ho with
    | @map es BH c h=>
     dsimp only;have Az:=Ren.le_trans hle Dp;refine DK.bind (Eh T _ _ _ (hB.mono Az) (hk.mono Az)) fun DL _ _ Bs _=>?_;have AX:=Ren.le_trans Az Bs;have Cw:=BG.mono h fun _ _=>O_.mono Bs;refine DK.bind (Pb T m key pU (hB.mono AX) (hk.mono AX) Cw.list) fun Kn q q' Ck hq=>?_;have BN:=Ren.le_trans AX Ck;have FJ:=BG.mono Cw fun _ _=>O_.mono Ck;have Jg:Kn _=some _:=(Ren.le_trans (Ren.le_trans Dp Bs) Ck).1 _ _ hr;rcases hq with⟨rfl,rfl⟩|⟨j,u,u',rfl,rfl,_⟩
     .exact Ao.ok (Ef Jg (.map _ (FJ.push (x:= {key:=k,val:=v,born:=_}) (y:= {key:=k',val:=v',born:=_}) ⟨hk.mono BN,hv.mono BN,rfl⟩)))
     .refine Kp (aY FJ (hk.mono BN) j).1 (hk.mono BN) (fun Hw y y' Fu hy=>?_) fun y'=>aX _ _
      exact Ef (Fu.1 _ _ Jg) (.map _ (BG.modify (f:=fun e=> {e with key:=y,val:=v}) (g:=fun e=> {e with key:=y',val:=v'}) (BG.mono FJ fun _ _=>O_.mono Fu) (fun a b EC=>⟨hy,hv.mono (Ren.le_trans BN Fu),EC.born⟩) j))
    |_=>exact Ae.ok
  |_=>exact Ae.ok
 |_=>exact Ae.ok
def fh (T:Twins P' P)(m:Nat)(t:Zr)(hm:∀k e,P.underlying t=some (.map k e)->aS P m k=true)(hB:Base P ρ){k:Ze}(hx:VR ρ x x')(hk:VR ρ k k'):
  DK P' P fz VR ρ (ZcM t x k) (ZcM t x' k'):=by
 unfold ZcM;refine DK.bind (Ar T t) fun σ d d' hle hd=>?_;obtain⟨rfl,hd⟩:=hd;have Be:=hx.mono hle;cases d with
 |map key elem=>
  have pU:=hm _ _ hd;dsimp only;cases Be with
  | @map r r' hr=>
   cases r<;>cases r'<;>first|exact hr.elim|skip
   .exact(AL T (hB.mono hle) _).ok
   .dsimp only
    refine DK.bind (Dh hr) fun τ o o' Dp ho=>?_;cases ho with
    | @map es BH c h=>
     dsimp only;have Az:=Ren.le_trans hle Dp;refine DK.bind (Eh T _ _ _ (hB.mono Az) (hk.mono Az)) fun DL _ _ Bs _=>?_;have AX:=Ren.le_trans Az Bs;have Cw:=BG.mono h fun _ _=>O_.mono Bs;refine DK.bind (Pb T m key pU (hB.mono AX) (hk.mono AX) Cw.list) fun Kn q q' Ck hq=>?_;have BN:=Ren.le_trans AX Ck;have FJ:=BG.mono Cw fun _ _=>O_.mono Ck;have Jg:Kn _=some _:=(Ren.le_trans (Ren.le_trans Dp Bs) Ck).1 _ _ hr;rcases hq with⟨rfl,rfl⟩|⟨j,u,u',rfl,rfl,hu⟩
     .refine Ao.ok ?_
      refine Ac _ (Di T elem) fun Hw z z' Fu hz=>?_;refine Ac _ (Ef (Fu.1 _ _ Jg) (.map _ ((BG.mono FJ fun _ _=>O_.mono Fu).push ⟨hk.mono (Ren.le_trans BN Fu),hz,rfl⟩))) fun jw _ _ fi _=>?_;exact Ad (.tuple' ((BG.single (hz.mono fi)).push (.int _ _)))
     .have agd:=aY FJ (hk.mono BN) j
      refine Kp agd.1 (hk.mono BN) (fun Hw y y' Fu hy=>?_) fun y'=>Pc _ _ _;refine Ac _ (Ef (Fu.1 _ _ Jg) (.map _ (BG.modify (f:=fun e=> {e with key:=y}) (g:=fun e=> {e with key:=y'}) (BG.mono FJ fun _ _=>O_.mono Fu) (fun a b EC=>⟨hy,EC.val,EC.born⟩) j))) fun jw _ _ fi _=>?_;rw[agd.2];exact Ad (.tuple' ((BG.single (hu.mono (Ren.le_trans Fu fi))).push (.int _ _)))
    |_=>exact Ae.ok
  |_=>exact Ae.ok
 |_=>exact Ae.ok
def aZ {es:Array MapEntry}(h:BG (O_ ρ) es BH)(p:Nat->Bool):es.findIdx? (fun e=>p e.born)=BH.findIdx? (fun e=>p e.born):=by
 have hl:=h.list;have e:∀a:Array MapEntry,a.findIdx? (fun e=>p e.born)=a.toList.findIdx? (fun e=>p e.born):=by
  rintro⟨l⟩;exact List.findIdx?_toArray _ _
 rw[e,e];generalize es.toList=l at hl⊢;generalize BH.toList=l' at hl⊢;clear h e
 induction hl with
 |nil=>rfl
 |cons hx _ ih=>simp only[List.findIdx?_cons,hx.born,ih]
def WE (t:Zr){s s':Ze}(hx:VR ρ x x')(hs:VR ρ s s')(hv:VR ρ v v'):
  Ao P' P fz Gp ρ (Zcm t x s v) (Zcm t x' s' v'):=by
 unfold Zcm;cases hx with
 | @map r r' hr=>
  cases r<;>cases r'<;>first|exact hr.elim|skip
  .exact Ae
  .dsimp only
   refine Ac _ (Dh hr) fun τ o o' Dp ho=>?_;cases ho with
   | @map es BH c h=>
    dsimp only;refine Ac _ (LV (hs.mono Dp)) fun DL n n' Bs hn=>?_;cases hn;rw[aZ h (fun b=>(b:Int)==n)];split
    .exact Ef ((Ren.le_trans Dp Bs).1 _ _ hr) (.map _ (BG.modify (f:=fun e=> {e with val:=v}) (g:=fun e=> {e with val:=v'}) (BG.mono h fun _ _=>O_.mono Bs) (fun a b EC=>⟨EC.key,hv.mono (Ren.le_trans Dp Bs),EC.born⟩) _))
    .exact Aj
   |_=>exact Ae
 |_=>exact Ae
def pV (T:Twins P' P)(t:Zr)(hx:VR ρ x x'):Ao P' P fz VR ρ (ZdM t x) (ZdM t x'):=by
 unfold ZdM;refine Ac _ (Ar T t) fun σ d d' hle hd=>?_;obtain⟨rfl,hd⟩:=hd;have Be:=hx.mono hle;have tail:∀τ (o o':Obj),OR τ o o'->Ao P' P fz VR τ (newObj o>>=fun r=>pure (Zb1 (some ⟨r,0,none⟩))) (newObj o'>>=fun r=>pure (Zb1 (some ⟨r,0,none⟩))):=
  fun τ o o' ho=>Ac _ (Hr ho) fun _ _ _ _ hr=>Ad (.pointer ⟨hr,rfl,rfl⟩)
 cases d with
 |string=>
  cases Be with
  |string s=>exact Ac (fun τ o o'=>OR τ o o') (Ad (.stringIter s 0)) fun τ o o' _ ho=>tail τ o o' ho
  |_=>exact CK
 |map _ _=>
  cases Be with
  | @map r r' hr=>
   cases r<;>cases r'<;>first|exact hr.elim|skip
   .exact Ac (fun τ o o'=>OR τ o o') (Ad (.mapIter 0 #[] 0 trivial)) fun τ o o' _ ho=>tail τ o o' ho
   .dsimp only
    refine Ac _ (Dh hr) fun τ o o' Dp ho=>?_;cases ho with
    |map c h=>exact Ac (fun τ o o'=>OR τ o o') (Ad (.mapIter c #[] c (Dp.1 _ _ hr))) fun τ o o' _ ho=>tail τ o o' ho
    |_=>exact CK
  |_=>exact CK
 |_=>exact CK
def fj {R:α->β->Prop}{l:List α}{l':List β}(h:EB R l l'){p:α->Bool}{q:β->Bool}(hp:∀x y,R x y->p x=q y):EB R (l.filter p) (l'.filter q):=by
 induction h with
 |nil=>exact .nil
 |cons hx _ ih=>
  rw[List.filter_cons,List.filter_cons,hp _ _ hx];split
  .exact .cons hx ih
  .exact ih
def BG.filter {R:α->β->Prop}{a:Array α}{b:Array β}(h:BG R a b){p:α->Bool}{q:β->Bool}(hp:∀x y,R x y->p x=q y):BG R (a.filter p) (b.filter q):=by
 have:=fj h.list hp;have h2:=BG.jl this;rw[<-Zd0, <-Zd0,ZdS,ZdS]at h2;exact h2
def vA {R:α->β->Prop}{a:Array α}{b:Array β}(h:BG R a b){p:α->Bool}{q:β->Bool}(hp:∀x y,R x y->p x=q y):a.all p=b.all q:=by
 have hl:=h.list;rw[<-Array.all_toList, <-Array.all_toList];generalize a.toList=l at hl⊢;generalize b.toList=m at hl⊢;clear h
 induction hl with
 |nil=>rfl
 |cons hx _ ih=>simp only[Zba,hp _ _ hx,ih]
inductive OpR {α β:Type}(R:α->β->Prop):Option α->Option β->Prop
 |none:OpR R none none
 |some {a:α} {b:β} (h:R a b):OpR R (some a) (some b)
def abQ (hx:VR ρ x x')(isString:Bool)(t:Zr):Ao P' P fz VR ρ (Zea x isString t) (Zea x' isString t):=by
 unfold Zea;have over:∀τ:Ren,Ao P' P fz VR τ (pure (YQ #[.bool false])) (pure (YQ #[.bool false])):=fun τ=>Ad (.tuple' (BG.single (.bool false)));cases hx with
 | @pointer a a' ha=>
  cases a<;>cases a'<;>first|exact ha.elim|skip
  .exact Ae
  .rename_i a a'
   obtain⟨r,off,sp⟩:=a;obtain⟨r',amR,sp'⟩:=a';obtain⟨h1,h2,h3⟩:=ha;dsimp only at h1 h2 h3;subst h2;subst h3;cases amR with
   |succ n=>exact Ae
   |zero=>
    dsimp only;refine Ac _ (Dh h1) fun τ o o' Dp ho=>?_;have lL:=Dp.1 _ _ h1;cases ho with
    |stringIter s p=>
     cases isString with
     |false=>exact Ae
     |true=>
      dsimp only;split
      .refine Ac _ (Ef lL (.stringIter _ _)) fun DL _ _ Bs _=>?_
       exact Ad (.tuple' (((BG.single (.bool true)).push (.int _ _)).push (.int _ _)))
      .exact over _
    | @mapIter m m' since seen last hm=>
     cases isString with
     |true=>cases m<;>exact Ae
     |false=>
      cases m<;>cases m'<;>first|exact hm.elim|skip
      .exact over _
      .dsimp only
       refine Ac _ (Dh hm) fun DL o o' Bs ho=>?_;cases ho with
       | @map es BH c UJ=>
        dsimp only;have hem:es.isEmpty=BH.isEmpty:=by simp[Zdb,UJ.1]
        rw[hem,vA UJ (p:=fun x=>decide (x.born>=last)) (q:=fun x=>decide (x.born>=last)) fun a b h=>by rw[h.born]];split
        .exact .bad trivial
        .have jy:=UJ.filter (p:=fun e=> !seen.contains e.born) (q:=fun e=> !seen.contains e.born) fun a b h=>by rw[h.born]
         have hold:=jy.filter (p:=fun e=>decide (e.born<since)) (q:=fun e=>decide (e.born<since)) fun a b h=>by rw[h.born]
         have Bt:=jy.filter (p:=fun e=>decide (e.born>=since)) (q:=fun e=>decide (e.born>=since)) fun a b h=>by rw[h.born]
         have hoe:(Z7 (fun e=>decide (e.born<since)) (Z7 (fun e=> !seen.contains e.born) es)).isEmpty=(Z7 (fun e=>decide (e.born<since)) (Z7 (fun e=> !seen.contains e.born) BH)).isEmpty:=by
          unfold Zdb;rw[hold.1]
         have jz:BG (OpR (O_ DL)) ((if(Z7 (fun e=>decide (e.born<since)) (Z7 (fun e=> !seen.contains e.born) es)).isEmpty=true then #[none] else #[])++(Z7 (fun e=>decide (e.born<since)) (Z7 (fun e=> !seen.contains e.born) es)++Z7 (fun e=>decide (e.born>=since)) (Z7 (fun e=> !seen.contains e.born) es)).map some)
           ((if(Z7 (fun e=>decide (e.born<since)) (Z7 (fun e=> !seen.contains e.born) BH)).isEmpty=true then #[none] else #[])++(Z7 (fun e=>decide (e.born<since)) (Z7 (fun e=> !seen.contains e.born) BH)++Z7 (fun e=>decide (e.born>=since)) (Z7 (fun e=> !seen.contains e.born) BH)).map some):=by
          refine BG.append ?_ ((hold.append Bt).map fun x y h=>.some h);rw[hoe];split
          .exact BG.single .none
          .exact BG.nil
         revert jz
         generalize ((if(Z7 (fun e=>decide (e.born<since)) (Z7 (fun e=> !seen.contains e.born) es)).isEmpty=true then #[none] else #[])++(Z7 (fun e=>decide (e.born<since)) (Z7 (fun e=> !seen.contains e.born) es)++Z7 (fun e=>decide (e.born>=since)) (Z7 (fun e=> !seen.contains e.born) es)).map some)=C;generalize ((if(Z7 (fun e=>decide (e.born<since)) (Z7 (fun e=> !seen.contains e.born) BH)).isEmpty=true then #[none] else #[])++(Z7 (fun e=>decide (e.born<since)) (Z7 (fun e=> !seen.contains e.born) BH)++Z7 (fun e=>decide (e.born>=since)) (Z7 (fun e=> !seen.contains e.born) BH)).map some)=C';intro jz;rw[jz.1];refine Ac _ (Hs _) fun Kn k k' Ck hk=>?_;cases hk;rcases jz.opt k with⟨e1,e2⟩|⟨y,y',e1,e2,hy⟩
         .rw[e1];exact Ae
         .rw[e1,e2]
          cases hy with
          |none=>exact over _
          |some he=>
           dsimp only;have hle:=Ren.le_trans Bs Ck;rw[he.born];refine Ac _ (Ef (hle.1 _ _ lL) (.mapIter _ _ _ (hle.1 _ _ hm))) fun Hw _ _ Fu _=>?_;have Az:=Ren.le_trans Ck Fu;exact Ad (.tuple' (((BG.single (.bool true)).push (he.key.mono Az)).push (he.val.mono Az)))
       |_=>exact Ae
    |_=>exact Ae
 |_=>exact Ae
end
section
variable {P' P:Zp}{fz:Prop}{ρ:Ren}
def WG (T:Twins P' P)(hB:Base P ρ)(hx:VR ρ x x')(xt at_:Zr)(ok:Bool):Ao P' P fz VR ρ (ZbA x xt at_ ok) (ZbA x' xt at_ ok):=by
 unfold ZbA;dsimp only;refine Ac _ (Ar T at_) fun σ d d' hle hd=>?_;obtain⟨rfl,hd⟩:=hd;have holds:∀τ {v v':Ze},VR τ v v'->Ao P' P fz VR τ (pure (if ok=true then YQ #[v,.bool true] else v)) (pure (if ok=true then YQ #[v',.bool true] else v')):=by
  intro τ v v' hv;refine Ad ?_;split
  .exact .tuple' ((BG.single hv).push (.bool true))
  .exact hv
 have fails:∀τ,ρ.le τ->∀(s d:Option Zr) (m:String),Ao P' P fz VR τ (if ok=true then zeroValue at_>>=fun z=>pure (YQ #[z,.bool false]) else zE (.typeAssertion s d at_ m))
   (if ok=true then zeroValue at_>>=fun z=>pure (YQ #[z,.bool false]) else zE (.typeAssertion s d at_ m)):=by
  intro τ Dp s d m;split
  .exact Ac _ (Di T at_) fun _ _ _ _ hz=>Ad (.tuple' ((BG.single hz).push (.bool false)))
  .exact AL T (hB.mono Dp) _
 have Be:=hx.mono hle;have rest:(∀ms,d≠ .interface ms)->Ao P' P fz VR σ
   (match x with
    | .nilIface=>(if ok=true then zeroValue at_>>=fun z=>pure (YQ #[z,.bool false]) else zE (.typeAssertion (some xt) none at_ ""))
    | .iface t v=>if t=at_ then pure (if ok=true then YQ #[v,.bool true] else v) else(if ok=true then zeroValue at_>>=fun z=>pure (YQ #[z,.bool false]) else zE (.typeAssertion (some xt) (some t) at_ ""))
    |_=>stuck "TypeAssert: interface value expected")
   (match x' with
    | .nilIface=>(if ok=true then zeroValue at_>>=fun z=>pure (YQ #[z,.bool false]) else zE (.typeAssertion (some xt) none at_ ""))
    | .iface t v=>if t=at_ then pure (if ok=true then YQ #[v,.bool true] else v) else(if ok=true then zeroValue at_>>=fun z=>pure (YQ #[z,.bool false]) else zE (.typeAssertion (some xt) (some t) at_ ""))
    |_=>stuck "TypeAssert: interface value expected"):=by
  intro _;cases Be with
  |nilIface=>exact fails σ hle _ _ _
  |iface t h=>
   dsimp only;by_cases e:t=at_
   .rw[if_pos e,if_pos e];exact holds σ h
   .rw[if_neg e,if_neg e];exact fails σ hle _ _ _
  |_=>exact Ae
 cases d with
 |interface want=>
  cases Be with
  |nilIface=>exact fails σ hle _ _ _
  |iface t h=>
   dsimp only;refine Ac _ (CB T t) fun Bv i i' Az hi=>?_;obtain⟨rfl,_⟩:=hi;split
   .exact holds Bv ((VR.iface t h).mono Az)
   .exact fails Bv (Ren.le_trans hle Az) _ _ _
  |_=>exact Ae
 |_=>
  have:=rest (fun ms h=>by cases h);cases Be<;>first|exact this|exact Ae
def age (T:Twins P' P)(at_:Array Zr)(t:Zr){a':Array Ze}(h:B1 ρ a a'):Ao P' P fz VR ρ (Zc8 at_ t a) (Zc8 at_ t a'):=by
 unfold Zc8;cases at_[0]? with
 |none=>exact Ae
 |some NN=>
  rcases h.opt 0 with⟨e1,e2⟩|⟨x,x',e1,e2,hx⟩
  .rw[e1,e2];exact Ae
  .rw[e1,e2]
   dsimp only;refine Ac _ (Ar T NN) fun σ d d' hle hd=>?_;obtain⟨rfl,_⟩:=hd;have Be:=hx.mono hle;cases d with
   |string=>cases Be<;>first|exact Ae|exact Ad (.int _ _)
   |array n e=>exact Ad (.int _ _)
   |pointer e=>
    refine Ac _ (Ar T e) fun Bv d d' Az hd=>?_;obtain⟨rfl,_⟩:=hd;cases d<;>first|exact Ae|exact Ad (.int _ _)
   |slice e=>cases Be<;>first|exact Ae|exact Ad (.int _ _)
   |map k e=>
    cases Be with
    | @map r r' hr=>
     cases r<;>cases r'<;>first|exact hr.elim|skip
     .exact Ad (.int _ _)
     .refine Ac _ (Dh hr) fun τ o o' Dp ho=>?_
      cases ho with
      |map c UJ=>dsimp only;rw[UJ.1];exact Ad (.int _ _)
      |_=>exact Ae
    |_=>exact Ae
   |chan _ e=>
    cases Be with
    | @chan r r' hr=>
     cases r<;>cases r'<;>first|exact hr.elim|skip
     .exact Ad (.int _ _)
     .refine Ac _ (Dh hr) fun τ o o' Dp ho=>?_
      cases ho with
      |chan cap cl s r tm hb=>dsimp only;rw[hb.1];exact Ad (.int _ _)
      |_=>exact Ae
    |_=>exact Ae
   |_=>exact Ae
def agf (T:Twins P' P)(at_:Array Zr)(t:Zr){a':Array Ze}(h:B1 ρ a a'):Ao P' P fz VR ρ (Zc9 at_ t a) (Zc9 at_ t a'):=by
 unfold Zc9;cases at_[0]? with
 |none=>exact Ae
 |some NN=>
  rcases h.opt 0 with⟨e1,e2⟩|⟨x,x',e1,e2,hx⟩
  .rw[e1,e2];exact Ae
  .rw[e1,e2]
   dsimp only;refine Ac _ (Ar T NN) fun σ d d' hle hd=>?_;obtain⟨rfl,_⟩:=hd;have Be:=hx.mono hle;cases d with
   |array n e=>exact Ad (.int _ _)
   |pointer e=>
    refine Ac _ (Ar T e) fun Bv d d' Az hd=>?_;obtain⟨rfl,_⟩:=hd;cases d<;>first|exact Ae|exact Ad (.int _ _)
   |slice e=>cases Be<;>first|exact Ae|exact Ad (.int _ _)
   |chan _ e=>
    cases Be with
    | @chan r r' hr=>
     cases r<;>cases r'<;>first|exact hr.elim|skip
     .exact Ad (.int _ _)
     .refine Ac _ (Dh hr) fun τ o o' Dp ho=>?_
      cases ho with
      |chan cap cl s r tm hb=>exact Ad (.int _ _)
      |_=>exact Ae
    |_=>exact Ae
   |_=>exact Ae
def WH (hx:VR ρ x x'):Ao P' P fz Gp ρ (ZcW x) (ZcW x'):=by
 cases hx<;>first|exact Ae|exact Ad rfl
def JV (size n:Nat)(hx:VR ρ x x'):Ao P' P fz B1 ρ (Zw size n x) (Zw size n x'):=by
 cases hx with
 | @slice a a' n c ha=>
  cases a<;>cases a'<;>first|exact ha.elim|skip
  .exact Ad BG.nil
  .exact KS ha _
 |string s=>
  refine Ad ?_;refine⟨rfl,fun i u v hu hv=>?_⟩;rw[hu]at hv;cases hv;rw[zN,zf]at hu;obtain⟨b,_,rfl⟩:=hu;exact .int _ _
 |_=>exact Ae
def abR (T:Twins P' P)(at_:Array Zr)(t:Zr){a':Array Ze}(h:B1 ρ a a'):Ao P' P fz VR ρ (ZcN at_ t a) (ZcN at_ t a'):=by
 unfold ZcN;cases at_[0]? with
 |none=>exact Ae
 |some NN=>
  rcases h.opt 0 with⟨e1,e2⟩|⟨x,x',e1,e2,hx⟩
  .rw[e1,e2];exact Ae
  .rw[e1,e2]
   rcases h.opt 1 with⟨e3,e4⟩|⟨y,y',e3,e4,hy⟩
   .rw[e3,e4];exact Ae
   .rw[e3,e4]
    dsimp only;refine Ac _ (Ar T NN) fun σ d d' hle hd=>?_;obtain⟨rfl,_⟩:=hd;have Be:=hx.mono hle;cases d with
    |slice e=>
     cases Be with
     | @slice b b' n c hb=>
      dsimp only;refine Ac _ (WH (hy.mono hle)) fun Bv l l' Az hl=>?_;cases hl;refine Ac _ (Co T e) fun Ez s s' AX hs=>?_;obtain⟨rfl,_⟩:=hs;have Hm:=Ren.le_trans hle (Ren.le_trans Az AX);refine Ac _ (JV _ _ (hy.mono Hm)) fun KW z z' BN hz=>?_;cases b<;>cases b'<;>first|exact hb.elim|skip
      .exact Ad (.int _ _)
      .refine Ac _ (JR 0 (AR.mono (Ren.le_trans Az (Ren.le_trans AX BN)) hb) hz.list) fun NP _ _ _ _=>?_
       exact Ad (.int _ _)
     |_=>exact Ae
    |_=>exact Ae
def Gq {Q:Ren->α->β->Prop}{c:Prop}[Decidable c]{a b:Sem α}{a' b':Sem β}(h1:c->Ao P' P fz Q ρ a a')(h2:¬c->Ao P' P fz Q ρ b b'):Ao P' P fz Q ρ (if c then a else b) (if c then a' else b'):=by
 by_cases h:c
 .rw[if_pos h,if_pos h];exact h1 h
 .rw[if_neg h,if_neg h];exact h2 h
def Idle (P':Zp){α:Type}(s:Sem α):Prop:=∀w es,∃a,s.runT P' w es=(.ok a w,es)
def Ev (a:α):Idle P' (pure a):=fun _ _=>⟨a,rfl⟩
def FY {s:Sem α}{f:α->Sem β}(h:Idle P' s)(hf:∀a,Idle P' (f a)):Idle P' (s>>=f):=fun w es=>by
 obtain⟨a,ha⟩:=h w es;obtain⟨b,hb⟩:=hf a w es;refine⟨b,?_⟩;show(s.bind f).runT P' w es=_;rw[zg,ha];exact hb
def fp (r:Nat):Idle P' (shape r):=fun _ _=>⟨_,rfl⟩
def a_ (a:Addr):Idle P' (frozen a):=fun _ _=>⟨_,rfl⟩
def GQ (a:Addr)(n:Nat):Idle P' (ZdR a n):=by
 unfold ZdR;refine FY (fp _) fun s=>?_;split<;>exact Ev _
def UL (size amS n:Nat)(b:Option Addr)(x:Ze):Idle P' (YC size amS n b x):=by
 unfold YC;dsimp only;cases b with
 |none=>
  refine FY (Ev _) fun s=>?_;split
  .exact Ev _
  .split
   .exact FY (GQ _ _) fun _=>Ev _
   .exact Ev _
 |some a=>
  refine FY (GQ _ _) fun s=>?_;refine FY (a_ _) fun f=>?_;refine FY (Ev _) fun s=>?_;split
  .exact Ev _
  .split
   .exact FY (GQ _ _) fun _=>Ev _
   .exact Ev _
def pW (T:Twins P' P)(hB:Base P ρ)(at_:Array Zr)(t:Zr){a':Array Ze}(h:B1 ρ a a'):Ao P' P fz VR ρ (Zar at_ t a) (Zar at_ t a'):=by
 unfold Zar;cases at_[0]? with
 |none=>exact Ae
 |some NN=>
  rcases h.opt 0 with⟨e1,e2⟩|⟨x,x',e1,e2,hx⟩
  .rw[e1,e2];exact Ae
  .rw[e1,e2]
   rcases h.opt 1 with⟨e3,e4⟩|⟨y,y',e3,e4,hy⟩
   .rw[e3,e4];exact Ae
   .rw[e3,e4]
    dsimp only;refine Ac _ (Ar T NN) fun σ d d' hle hd=>?_;obtain⟨rfl,_⟩:=hd;have Be:=hx.mono hle;cases d with
    |slice e=>
     cases Be with
     | @slice b b' n c hb=>
      dsimp only;refine Ac _ (Co T e) fun Vr size NK fq hs=>?_;obtain⟨rfl,_⟩:=hs;have jA:=hy.mono (Ren.le_trans hle fq);have yR:=O1.mono fq hb;have jB:Base P Vr:=hB.mono (Ren.le_trans hle fq);have APP:∀τ (z:Bool) (k:Nat),Vr.le τ->Ao P' P fz B1 τ
        (if(!z)=true then Zw size k y else if k*size=0 then pure #[] else zeroValue e>>=fun v=>pure (Zs v.cells k))
        (if(!z)=true then Zw size k y' else if k*size=0 then pure #[] else zeroValue e>>=fun v=>pure (Zs v.cells k)):=by
       intro τ z k Dp;split
       .exact JV _ _ (jA.mono Dp)
       .split
        .exact Ad BG.nil
        .refine Ac _ (Di T e) fun _ v v' _ hv=>Ad ?_
         have:=Hx hv.cells (k*v.cells.size);unfold Zs;rw[hv.cells.1]at this⊢;exact this
      have R2:∀τ (z:Bool) (k:Nat),Vr.le τ->Ao P' P fz VR τ
        (choose (.appendCap (n+k) c e)>>=fun cap=>typeInfo e>>=fun i=>Zak (cap*i.bytes)>>=fun _=>Zw size n (.slice b n c)>>=fun old=>
         (if(!z)=true then Zw size k y else if k*size=0 then pure #[] else zeroValue e>>=fun v=>pure (Zs v.cells k))>>=fun new=>
         zeroValue e>>=fun v=>newRow e (old++new++Zs v.cells (cap - (n+k)))>>=fun a=>pure (ZA (some a) (n+k) cap))
        (choose (.appendCap (n+k) c e)>>=fun cap=>typeInfo e>>=fun i=>Zak (cap*i.bytes)>>=fun _=>Zw size n (.slice b' n c)>>=fun old=>
         (if(!z)=true then Zw size k y' else if k*size=0 then pure #[] else zeroValue e>>=fun v=>pure (Zs v.cells k))>>=fun new=>
         zeroValue e>>=fun v=>newRow e (old++new++Zs v.cells (cap - (n+k)))>>=fun a=>pure (ZA (some a) (n+k) cap)):=by
       intro τ z k Dp;refine Ac _ (Hs _) fun agh cap GR BV abS=>?_;cases abS;refine Ac _ (CB T e) fun DL i i' Cw hi=>?_;obtain⟨rfl,_⟩:=hi;refine Ac _ (Vn _) fun Kn _ _ FJ _=>?_;have Ck:=Ren.le_trans Dp (Ren.le_trans BV (Ren.le_trans Cw FJ));refine Ac _ (JV size n (.slice n c (yR.mono Ck))) fun Hw old amT ft hold=>?_;refine Ac _ (APP Hw z k (Ren.le_trans Ck ft)) fun jw new new' amU Bt=>?_;refine Ac _ (Di T e) fun agi v v' agj hv=>?_;have Cr:B1 agi (old++new++Zs v.cells (cap - (n+k))) (amT++new'++Zs v'.cells (cap - (n+k))):=by
        refine((B1.mono (Ren.le_trans amU agj) hold).append (B1.mono agj Bt)).append ?_;have:=Hx hv.cells ((cap - (n+k))*v.cells.size);unfold Zs;rw[hv.cells.1]at this⊢;exact this
       exact Ac _ (Je e Cr) fun _ _ _ _ ha=>Ad (.slice _ _ ha)
      have R1:∀τ (z:Bool) (k:Nat) (u:Zdd),Hd (.unsupported u)->Vr.le τ->Ao P' P fz VR τ
        (typeInfo e>>=fun i=>if YG (n+k) c*i.bytes>2^48 then((if z=true then(zE (.error "growslice: len out of range"):Sem PUnit) else YC size n k b y>>=fun s=>if(!s)=true then(mark .noRoom>>=fun _=>unsupported u) else unsupported u)>>=fun _=>
         choose (.appendCap (n+k) c e)>>=fun cap=>typeInfo e>>=fun i=>Zak (cap*i.bytes)>>=fun _=>Zw size n (.slice b n c)>>=fun old=>
         (if(!z)=true then Zw size k y else if k*size=0 then pure #[] else zeroValue e>>=fun v=>pure (Zs v.cells k))>>=fun new=>
         zeroValue e>>=fun v=>newRow e (old++new++Zs v.cells (cap - (n+k)))>>=fun a=>pure (ZA (some a) (n+k) cap))
        else
         choose (.appendCap (n+k) c e)>>=fun cap=>typeInfo e>>=fun i=>Zak (cap*i.bytes)>>=fun _=>Zw size n (.slice b n c)>>=fun old=>
         (if(!z)=true then Zw size k y else if k*size=0 then pure #[] else zeroValue e>>=fun v=>pure (Zs v.cells k))>>=fun new=>
         zeroValue e>>=fun v=>newRow e (old++new++Zs v.cells (cap - (n+k)))>>=fun a=>pure (ZA (some a) (n+k) cap))
        (typeInfo e>>=fun i=>if YG (n+k) c*i.bytes>2^48 then((if z=true then(zE (.error "growslice: len out of range"):Sem PUnit) else YC size n k b' y'>>=fun s=>if(!s)=true then(mark .noRoom>>=fun _=>unsupported u) else unsupported u)>>=fun _=>
         choose (.appendCap (n+k) c e)>>=fun cap=>typeInfo e>>=fun i=>Zak (cap*i.bytes)>>=fun _=>Zw size n (.slice b' n c)>>=fun old=>
         (if(!z)=true then Zw size k y' else if k*size=0 then pure #[] else zeroValue e>>=fun v=>pure (Zs v.cells k))>>=fun new=>
         zeroValue e>>=fun v=>newRow e (old++new++Zs v.cells (cap - (n+k)))>>=fun a=>pure (ZA (some a) (n+k) cap))
        else
         choose (.appendCap (n+k) c e)>>=fun cap=>typeInfo e>>=fun i=>Zak (cap*i.bytes)>>=fun _=>Zw size n (.slice b' n c)>>=fun old=>
         (if(!z)=true then Zw size k y' else if k*size=0 then pure #[] else zeroValue e>>=fun v=>pure (Zs v.cells k))>>=fun new=>
         zeroValue e>>=fun v=>newRow e (old++new++Zs v.cells (cap - (n+k)))>>=fun a=>pure (ZA (some a) (n+k) cap)):=by
       intro τ z k u hu Dp;refine Ac _ (CB T e) fun DL i i' Cw hi=>?_;obtain⟨rfl,_⟩:=hi;have Bs:=Ren.le_trans Dp Cw;split
       .refine Ac (fun _ _ _=>False) ?_ fun _ _ _ _ h=>h.elim
        split
        .exact AL T (jB.mono Bs) _
        .refine .Hp (fun w es=>?_)
         obtain⟨s,hs⟩:=UL (P':=P') size n k b y w es;show∃x v f,((YC size n k b y).bind _).runT P' w es=_/\_;rw[zg,hs];dsimp only;split
         .exact⟨_,_,_,rfl,hu⟩
         .exact⟨_,_,_,rfl,hu⟩
       .exact R2 DL z k Bs
      have STORE:∀τ (z:Bool) (k:Nat),Vr.le τ->Ao P' P fz VR τ
        ((if(!z)=true then Zw size k y else if k*size=0 then pure #[] else zeroValue e>>=fun v=>pure (Zs v.cells k))>>=fun new=>
         match(generalizing:=false) b with
         |some a=>Zb3 (a.add (n*size)) new.toList>>=fun _=>pure (ZA b (n+k) c)
         |_=>pure (ZA b (n+k) c))
        ((if(!z)=true then Zw size k y' else if k*size=0 then pure #[] else zeroValue e>>=fun v=>pure (Zs v.cells k))>>=fun new=>
         match(generalizing:=false) b' with
         |some a=>Zb3 (a.add (n*size)) new.toList>>=fun _=>pure (ZA b' (n+k) c)
         |_=>pure (ZA b' (n+k) c)):=by
       intro τ z k Dp;refine Ac _ (APP τ z k Dp) fun DL new new' Cw Bt=>?_;have KQ:=yR.mono (Ren.le_trans Dp Cw);cases b<;>cases b'<;>first|exact KQ.elim|skip
       .exact Ad (.slice _ _ KQ)
       .exact Ac _ (JR 0 (AR.add KQ _) Bt.list) fun Kn _ _ FJ _=>Ad (.slice _ _ (O1.mono FJ KQ))
      have MAIN:∀τ (z:Bool) (k:Nat) (u:Zdd),Hd (.unsupported u)->Vr.le τ->Ao P' P fz VR τ
        (if n+k<=c then((if(!z)=true then Zw size k y else if k*size=0 then pure #[] else zeroValue e>>=fun v=>pure (Zs v.cells k))>>=fun new=>
         match(generalizing:=false) b with
         |some a=>Zb3 (a.add (n*size)) new.toList>>=fun _=>pure (ZA b (n+k) c)
         |_=>pure (ZA b (n+k) c))
        else typeInfo e>>=fun i=>if((n+k:Nat):Int)>IntKind.i64.max/\(z=true\/i.bytes=0) then((zE (.error "growslice: len out of range"):Sem PUnit)>>=fun _=>
         (typeInfo e>>=fun i=>if YG (n+k) c*i.bytes>2^48 then((if z=true then(zE (.error "growslice: len out of range"):Sem PUnit) else YC size n k b y>>=fun s=>if(!s)=true then(mark .noRoom>>=fun _=>unsupported u) else unsupported u)>>=fun _=>
         choose (.appendCap (n+k) c e)>>=fun cap=>typeInfo e>>=fun i=>Zak (cap*i.bytes)>>=fun _=>Zw size n (.slice b n c)>>=fun old=>
         (if(!z)=true then Zw size k y else if k*size=0 then pure #[] else zeroValue e>>=fun v=>pure (Zs v.cells k))>>=fun new=>
         zeroValue e>>=fun v=>newRow e (old++new++Zs v.cells (cap - (n+k)))>>=fun a=>pure (ZA (some a) (n+k) cap))
        else
         choose (.appendCap (n+k) c e)>>=fun cap=>typeInfo e>>=fun i=>Zak (cap*i.bytes)>>=fun _=>Zw size n (.slice b n c)>>=fun old=>
         (if(!z)=true then Zw size k y else if k*size=0 then pure #[] else zeroValue e>>=fun v=>pure (Zs v.cells k))>>=fun new=>
         zeroValue e>>=fun v=>newRow e (old++new++Zs v.cells (cap - (n+k)))>>=fun a=>pure (ZA (some a) (n+k) cap)))
         else(typeInfo e>>=fun i=>if YG (n+k) c*i.bytes>2^48 then((if z=true then(zE (.error "growslice: len out of range"):Sem PUnit) else YC size n k b y>>=fun s=>if(!s)=true then(mark .noRoom>>=fun _=>unsupported u) else unsupported u)>>=fun _=>
         choose (.appendCap (n+k) c e)>>=fun cap=>typeInfo e>>=fun i=>Zak (cap*i.bytes)>>=fun _=>Zw size n (.slice b n c)>>=fun old=>
         (if(!z)=true then Zw size k y else if k*size=0 then pure #[] else zeroValue e>>=fun v=>pure (Zs v.cells k))>>=fun new=>
         zeroValue e>>=fun v=>newRow e (old++new++Zs v.cells (cap - (n+k)))>>=fun a=>pure (ZA (some a) (n+k) cap))
        else
         choose (.appendCap (n+k) c e)>>=fun cap=>typeInfo e>>=fun i=>Zak (cap*i.bytes)>>=fun _=>Zw size n (.slice b n c)>>=fun old=>
         (if(!z)=true then Zw size k y else if k*size=0 then pure #[] else zeroValue e>>=fun v=>pure (Zs v.cells k))>>=fun new=>
         zeroValue e>>=fun v=>newRow e (old++new++Zs v.cells (cap - (n+k)))>>=fun a=>pure (ZA (some a) (n+k) cap)))
        (if n+k<=c then((if(!z)=true then Zw size k y' else if k*size=0 then pure #[] else zeroValue e>>=fun v=>pure (Zs v.cells k))>>=fun new=>
         match(generalizing:=false) b' with
         |some a=>Zb3 (a.add (n*size)) new.toList>>=fun _=>pure (ZA b' (n+k) c)
         |_=>pure (ZA b' (n+k) c))
        else typeInfo e>>=fun i=>if((n+k:Nat):Int)>IntKind.i64.max/\(z=true\/i.bytes=0) then((zE (.error "growslice: len out of range"):Sem PUnit)>>=fun _=>
         (typeInfo e>>=fun i=>if YG (n+k) c*i.bytes>2^48 then((if z=true then(zE (.error "growslice: len out of range"):Sem PUnit) else YC size n k b' y'>>=fun s=>if(!s)=true then(mark .noRoom>>=fun _=>unsupported u) else unsupported u)>>=fun _=>
         choose (.appendCap (n+k) c e)>>=fun cap=>typeInfo e>>=fun i=>Zak (cap*i.bytes)>>=fun _=>Zw size n (.slice b' n c)>>=fun old=>
         (if(!z)=true then Zw size k y' else if k*size=0 then pure #[] else zeroValue e>>=fun v=>pure (Zs v.cells k))>>=fun new=>
         zeroValue e>>=fun v=>newRow e (old++new++Zs v.cells (cap - (n+k)))>>=fun a=>pure (ZA (some a) (n+k) cap))
        else
         choose (.appendCap (n+k) c e)>>=fun cap=>typeInfo e>>=fun i=>Zak (cap*i.bytes)>>=fun _=>Zw size n (.slice b' n c)>>=fun old=>
         (if(!z)=true then Zw size k y' else if k*size=0 then pure #[] else zeroValue e>>=fun v=>pure (Zs v.cells k))>>=fun new=>
         zeroValue e>>=fun v=>newRow e (old++new++Zs v.cells (cap - (n+k)))>>=fun a=>pure (ZA (some a) (n+k) cap)))
         else(typeInfo e>>=fun i=>if YG (n+k) c*i.bytes>2^48 then((if z=true then(zE (.error "growslice: len out of range"):Sem PUnit) else YC size n k b' y'>>=fun s=>if(!s)=true then(mark .noRoom>>=fun _=>unsupported u) else unsupported u)>>=fun _=>
         choose (.appendCap (n+k) c e)>>=fun cap=>typeInfo e>>=fun i=>Zak (cap*i.bytes)>>=fun _=>Zw size n (.slice b' n c)>>=fun old=>
         (if(!z)=true then Zw size k y' else if k*size=0 then pure #[] else zeroValue e>>=fun v=>pure (Zs v.cells k))>>=fun new=>
         zeroValue e>>=fun v=>newRow e (old++new++Zs v.cells (cap - (n+k)))>>=fun a=>pure (ZA (some a) (n+k) cap))
        else
         choose (.appendCap (n+k) c e)>>=fun cap=>typeInfo e>>=fun i=>Zak (cap*i.bytes)>>=fun _=>Zw size n (.slice b' n c)>>=fun old=>
         (if(!z)=true then Zw size k y' else if k*size=0 then pure #[] else zeroValue e>>=fun v=>pure (Zs v.cells k))>>=fun new=>
         zeroValue e>>=fun v=>newRow e (old++new++Zs v.cells (cap - (n+k)))>>=fun a=>pure (ZA (some a) (n+k) cap))):=by
       intro τ z k u hu Dp;split
       .exact STORE τ z k Dp
       .refine Ac _ (CB T e) fun DL i i' Cw hi=>?_
        obtain⟨rfl,_⟩:=hi;split
        .exact DM T (jB.mono (Ren.le_trans Dp Cw)) _
        .exact R1 DL z k u hu (Ren.le_trans Dp Cw)
      cases at_[1]? with
      |none=>
       refine Ac (fun _ z z'=>z=false/\z'=false) (Ad ⟨rfl,rfl⟩) fun τ z z' Dp hz=>?_;obtain⟨rfl,rfl⟩:=hz;refine Ac _ (WH (jA.mono Dp)) fun DL k k' Cw hk=>?_;cases hk;exact MAIN DL false k _ trivial (Ren.le_trans Dp Cw)
      |some xt=>
       dsimp only;refine Ac _ (Ar T xt) fun τ d d' Dp hd=>?_;obtain⟨rfl,_⟩:=hd;refine Ac (fun _ z z'=>z=z') (Ad rfl) fun agh z z' BV hz=>?_;cases hz;have WI:=Ren.le_trans Dp BV;cases z with
       |false=>
        refine Ac _ (WH (jA.mono WI)) fun DL k k' Cw hk=>?_;cases hk;exact MAIN DL false k _ trivial (Ren.le_trans WI Cw)
       |true=>
        refine Ac _ (LV (jA.mono WI)) fun DL l l' Cw hl=>?_;cases hl;have Bs:=Ren.le_trans WI Cw;refine Gq (fun _=>DM T (jB.mono Bs) _) fun _=>?_;refine Ac _ (CB T e) fun Kn i i' FJ hi=>?_;obtain⟨rfl,_⟩:=hi;have Ck:=Ren.le_trans Bs FJ;refine Gq (fun _=>?_) fun _=>?_
        .refine Ac _ (Hs _) fun Hw m m' ft hm=>?_
         cases hm;exact DM T (jB.mono (Ren.le_trans Ck ft)) _
        .refine Ac (fun _ k k'=>k=k') (Ad rfl) fun Hw k k' ft hk=>?_
         cases hk;exact MAIN Hw true k _ trivial (Ren.le_trans Ck ft)
     |_=>exact Ae
    |_=>exact Ae
end
section
variable {P' P:Zp}{fz:Prop}{ρ:Ren}
def SD (op:BinOp)(k:IntKind)(x y:Int):Ao P' P fz VR ρ (Op.intArith op k x y) (Op.intArith op k x y):=by
 unfold Op.intArith;split<;>first|exact Ad (.int _ _)|exact Ae
def Vs (op:BinOp)(k:IntKind)(x y:Int):Ao P' P fz VR ρ (Op.intBits op k x y) (Op.intBits op k x y):=by
 unfold Op.intBits;dsimp only;split<;>first|exact Ad (.int _ _)|exact Ae
def SE (op:BinOp)(x y:Int):Ao P' P fz VR ρ (Op.intCmp op x y) (Op.intCmp op x y):=by
 unfold Op.intCmp;split<;>first|exact Ad (.bool _)|exact Ae
def Hy (op:BinOp)(x y:ByteArray):Ao P' P fz VR ρ (ZcL op x y) (ZcL op x y):=by
 unfold ZcL;dsimp only;split<;>first|exact Ad (.bool _)|exact Ae|skip
 split<;>first|exact Aj|exact Ad (.string _)
def pX (T:Twins P' P)(hB:Base P ρ)(op:BinOp)(k:IntKind)(x y:Int):Ao P' P fz VR ρ (Op.intDiv op k x y) (Op.intDiv op k x y):=by
 unfold Op.intDiv;split
 .exact AL T hB _
 .split<;>first|exact Ad (.int _ _)|exact Ae
def vB (T:Twins P' P)(hB:Base P ρ)(op:BinOp)(k:IntKind)(x:Int)(yk:IntKind)(y:Int):Ao P' P fz VR ρ (Op.shift op k x yk y) (Op.shift op k x yk y):=by
 unfold Op.shift;split
 .exact AL T hB _
 .dsimp only;split<;>first|exact Ad (.int _ _)|exact Ae
def vC (op:UnOp)(hx:VR ρ x x'):Ao P' P fz VR ρ (Op.unary op x) (Op.unary op x'):=by
 unfold Op.unary;cases op<;>cases hx<;>first
  |exact SD _ _ _ _
  |exact Vs _ _ _ _
  |exact Ad (.bool _)
  |exact Ae
  |skip
 all_goals
  rename_i a a' ha;cases a<;>cases a'<;>first|exact ha.elim|exact Ae|exact Aj
def fA (T:Twins P' P)(t:Zr)(hx:VR ρ x x')(hy:VR ρ y y')(h:x=.nilIface\/y=.nilIface)(hi:∃ms,P.underlying t=some (.interface ms)):Ao P' P fz Gp ρ (Zaf t x y) (Zaf t x' y'):=by
 obtain⟨ms,hi⟩:=hi;unfold Zaf Op.maxDepth Za5;refine Ac _ (Ar T t) fun σ u u' hle hu=>?_;obtain⟨rfl,hu⟩:=hu;rw[hi]at hu;cases hu;rcases h with rfl|rfl
 .cases hx
  cases hy<;>first|exact Ad rfl|exact Ae
 .cases hy
  cases hx<;>first|exact Ad rfl|exact Ae
def Mx (hT:P'.toTables=P.toTables):∀(d:Nat) (t:Zr) (b:Nat),cellOfByte P' d t b=cellOfByte P d t b
 |0,_,_=>rfl
 |d+1,t,b=>by
  have hu:P'.underlying t=P.underlying t:=by unfold Zb2;simp only[hT]
  have hb:∀t,P'.bytesOf t=P.bytesOf t:=fun t=>by unfold Program.bytesOf;rw[hT]
  have hc:∀t,P'.cellsOf t=P.cellsOf t:=fun t=>by unfold Zct;rw[hT]
  unfold cellOfByte;rw[hu];cases P.underlying t with
  |none=>rfl
  |some x=>cases x<;>simp only[hb,hc,Mx hT d]
def SH (T:Twins P' P)(d:Nat)(e:Zr)(count off:Nat)(bytes:Int):cellAtBytes P' d e count off bytes=cellAtBytes P d e count off bytes:=by
 unfold cellAtBytes;simp only[T.cells,T.bytes,Gf T,Mx T.tables]
def NS (T:Twins P' P)(at_:Array Zr)(t:Zr)(hx:VR ρ x x')(hy:VR ρ y y'):Ao P' P fz (fun σ v v'=>∃a a',v=.pointer a/\v'=.pointer a'/\O1 σ a a') ρ (YV at_ t #[x,y]) (YV at_ t #[x',y']):=by
 unfold YV;cases hx with
 | @pointer a a' ha=>
  dsimp only;refine Ac _ (LV hy) fun σ n n' hle hn=>?_;cases hn;refine Gq (fun _=>?_) fun _=>?_
  .cases a<;>cases a'<;>first|exact ha.elim|skip
   .exact Aj
   .dsimp only
    refine Ac _ (aQ (hle.1 _ _ ha.1)) fun Bv v v' Az hv=>?_;obtain⟨rfl,rfl⟩:=hv;exact Ad ⟨_,_,rfl,rfl,AR.mono (Ren.le_trans hle Az) ha⟩
  .refine Gq (fun _=>?_) fun _=>?_
   .exact .bad trivial
   .cases a<;>cases a'<;>first|exact ha.elim|skip
    .exact Aj
    .dsimp only
     refine Ac _ (NL (hle.1 _ _ ha.1)) fun Bv s s' Az hs=>?_;cases hs;cases s with
     |none=>exact Aj
     |some s=>
      obtain⟨e,k⟩:=s;dsimp only;refine Ac _ Db fun Ez p p' AX hp=>?_;obtain⟨rfl,rfl⟩:=hp;have NQ:=AR.mono (Ren.le_trans hle (Ren.le_trans Az AX)) ha;rw[T.depth,T.cells,SH T,NQ.2.1];split
      .exact Ad ⟨_,_,rfl,rfl,NQ.1,rfl,NQ.2.2⟩
      .exact Aj
 |_=>exact Ae
def Qk (T:Twins P' P)(at_:Array Zr)(t:Zr)(hx:VR ρ x x')(hy:VR ρ y y'):Ao P' P fz VR ρ (YV at_ t #[x,y]) (YV at_ t #[x',y']):=
 (NS T at_ t hx hy).imp fun _ _ _ _ ⟨_,_,h1,h2,h⟩=>by rw[h1,h2];exact .pointer h
def IW (T:Twins P' P)(t:Zr)(hx:VR ρ x x')(hy:VR ρ y y'):Ao P' P fz VR ρ (movedNumber t x y) (movedNumber t x' y'):=by
 unfold movedNumber;refine Ac _ (Ar T t) fun σ d d' hle hd=>?_;obtain⟨rfl,_⟩:=hd;dsimp only;refine Gq (fun _=>.bad trivial) fun _=>?_
 .have Be:=hx.mono hle
  have Hv:=hy.mono hle;have e:=Qk (fz:=fz) T #[] t Be Hv;cases Be with
  | @pointer a a' ha=>
   cases a<;>cases a'<;>first|exact ha.elim|exact e|skip
   dsimp only;refine Ac _ (Ft ha) fun Bv p p' Az hp=>?_;obtain⟨b,l⟩:=p;obtain⟨b',l'⟩:=p';obtain⟨hb,hl⟩:=hp;dsimp only at hb hl;subst hl;dsimp only;refine Ac _ (NS T #[] t (.pointer hb) (Hv.mono Az)) fun Ez v v' AX hv=>?_;obtain⟨c,c',rfl,rfl,hc⟩:=hv;cases c<;>cases c'<;>first|exact hc.elim|skip
   .exact Ad (.pointer hc)
   .unfold asNumber
    exact Ac _ (Hr (.number _ hc)) fun _ _ _ _ hr=>Ad (.pointer ⟨hr,rfl,rfl⟩)
  |EK h=>exact Ae
  |_=>exact e
def Ql (hT:Twins P' P)(hB:Base P ρ){a b:Addr}(ha:AR ρ a a')(hb:AR ρ b b'):Ao P' P fz Gp ρ (ZdX a b) (ZdX a' b'):=by
 unfold ZdX;have e:(a.block !=b.block)=(a'.block !=b'.block):=by simp only[bne,AR.Sv ha hb]
 refine Ac _ Db fun σ p p' hle hp=>?_;obtain⟨rfl,rfl⟩:=hp;have hbs:=AR.base (hB.mono hle) (ha.mono hle);have e2:decide (a.block>=P'.globals.size)=decide (a'.block>=P.globals.size):=by
  rw[hT.tables];simp only[ge_iff_le, <-Nat.not_lt,hbs]
 dsimp only;rw[e,e2];refine Gq (fun _=>.bad trivial) fun _=>?_;refine Ac _ (Hu hT (ha.mono hle)) fun Bv x x' Cw hx=>?_;cases hx;refine Ac _ (Hu hT (hb.mono (Ren.le_trans hle Cw))) fun Ez y y' FJ hy=>?_;cases hy;exact Ad rfl
def lM (T:Twins P' P)(hB:Base P ρ)(k:IntKind){a b:Addr}(ha:AR ρ a a')(hb:AR ρ b b'):Ao P' P fz VR ρ (Op.addrSub k a b) (Op.addrSub k a' b'):=by
 unfold Op.addrSub;refine Ac _ (Ql T hB ha hb) fun σ p p' _ hp=>?_;cases hp;exact Ad (.int _ _)
def lN (T:Twins P' P)(hB:Base P ρ)(op:BinOp){a b:Addr}(ha:AR ρ a a')(hb:AR ρ b b'):Ao P' P fz VR ρ (Op.addrCmp op a b) (Op.addrCmp op a' b'):=by
 unfold Op.addrCmp;refine Ac _ (Ql T hB ha hb) fun σ p p' _ hp=>?_;cases hp;dsimp only;split<;>first|exact Ad (.bool _)|exact Aj
def Vt (T:Twins P' P)(k:IntKind){a:Addr}(ha:AR ρ a a')(n:Int):Ao P' P fz VR ρ (Op.addrMod k a n) (Op.addrMod k a' n):=by
 unfold Op.addrMod;refine Ac _ (NL ha.1) fun σ s s' hle hs=>?_;cases hs;cases s with
 |none=>exact Aj
 |some s=>
  obtain⟨e,m⟩:=s;dsimp only;refine Ac _ (CB T e) fun Bv i i' Cw hi=>?_;obtain⟨rfl,_⟩:=hi;refine Gq (fun _=>.bad trivial) fun _=>?_;refine Ac _ (Hu T (ha.mono (Ren.le_trans hle Cw))) fun Ez x x' FJ hx=>?_;cases hx;exact Ad (.int _ _)
def SJ (T:Twins P' P)(t:Zr)(hx:VR ρ x x')(hy:VR ρ y y'):Ao P' P fz VR ρ (movedPointer t x y) (movedPointer t x' y'):=by
 unfold movedPointer;have e:∀σ,ρ.le σ->Ao P' P fz VR σ (YV #[] t #[x,y]) (YV #[] t #[x',y']):=fun σ hσ=>Qk T #[] t (hx.mono hσ) (hy.mono hσ);cases hx with
 | @pointer a a' ha=>
  cases a<;>cases a'<;>first|exact ha.elim|exact e _ (Ren.le_refl _)|skip
  dsimp only;refine Ac _ (Sw ha.1) fun σ s s' hle hs=>?_;rcases hs with⟨rfl,rfl⟩|⟨u,v,l,rfl,rfl,_⟩
  .exact e σ hle
  .exact .bad trivial
 |EK h=>exact Ae
 |_=>exact e _ (Ren.le_refl _)
end
section
variable {P' P:Zp}{fz:Prop}{ρ:Ren}
def NT {Q:Ren->α->β->Prop}{a:Addr}(ha:AR ρ a a'){f:Addr×Bool->Sem α}{f':Addr×Bool->Sem β}(hf:∀σ b b' l,ρ.le σ->AR σ b b'->Ao P' P fz Q σ (f (b,l)) (f' (b',l))):
  Ao P' P fz Q ρ (ZbV a>>=f) (ZbV a'>>=f'):=
 Ac _ (Ft ha) fun σ p p' hle hp=>by
  obtain⟨b,l⟩:=p;obtain⟨b',l'⟩:=p';obtain⟨h1,h2⟩:=hp;dsimp only at h1 h2;subst h2;exact hf σ b b' l hle h1
def JW (op:BinOp)(t:Zr)(a b:ByteArray):binOp op t (.string a) (.string b)=ZcL op a b:=by cases op<;>rfl
def fB (T:Twins P' P)(hB:Base P ρ)(op:BinOp)(t:Zr)(hop:op≠ .eql/\op≠ .neq)(hx:VR ρ x x')(hy:VR ρ y y'):Ao P' P fz VR ρ (binOp op t x y) (binOp op t x' y'):=by
 cases hx with
 |int k a=>
  cases hy with
  |int k' b=>
   cases op<;>first|exact absurd rfl hop.1|exact absurd rfl hop.2|skip
   all_goals unfold binOp
   all_goals first
    |exact vB T hB _ _ _ _ _
    |(dsimp only;refine Gq (fun _=>Ae) fun _=>?_)
   all_goals first|exact SD _ _ _ _|exact pX T hB _ _ _ _|exact Vs _ _ _ _|exact SE _ _ _
  | @pointer b b' hb=>
   cases op<;>first|exact absurd rfl hop.1|exact absurd rfl hop.2|skip
   all_goals unfold binOp
   all_goals first
    |exact IW T t (.pointer hb) (.int k a)
    |exact Aj
    |skip
   all_goals cases b<;>cases b'<;>first|exact hb.elim|exact Aj|skip
   all_goals exact NT hb fun σ c c' l _ hc=>Vt T k hc _
  |_=>cases op<;>first|exact absurd rfl hop.1|exact absurd rfl hop.2|exact Ae
 | @pointer a a' ha=>
  cases hy with
  |int k b=>
   cases op<;>first|exact absurd rfl hop.1|exact absurd rfl hop.2|skip
   all_goals unfold binOp
   all_goals first
    |exact Aj
    |exact IW T t (.pointer ha) (.int k _)
    |skip
   case add=>
    refine Ac _ (Ar T t) fun σ d d' hle hd=>?_;obtain⟨rfl,_⟩:=hd;refine Gq (fun _=>?_) fun _=>?_
    .exact SJ T t ((VR.pointer ha).mono hle) (.int k b)
    .exact IW T t ((VR.pointer ha).mono hle) (.int k b)
   all_goals cases a<;>cases a'<;>first|exact ha.elim|exact Aj|skip
   all_goals exact NT ha fun σ c c' l _ hc=>Vt T k hc _
  | @pointer b b' hb=>
   cases op<;>first|exact absurd rfl hop.1|exact absurd rfl hop.2|skip
   all_goals unfold binOp
   all_goals first|exact Aj|skip
   all_goals cases a<;>cases a'<;>first|exact ha.elim|exact Aj|skip
   all_goals cases b<;>cases b'<;>first|exact hb.elim|exact Aj|skip
   all_goals refine NT ha fun σ c c' l BV hc=>NT (AR.mono BV hb) fun Bv d d' m Cw hd=>?_
   all_goals first|exact lM T (hB.mono (Ren.le_trans BV Cw)) _ (hc.mono Cw) hd|exact lN T (hB.mono (Ren.le_trans BV Cw)) _ (hc.mono Cw) hd
  |_=>(cases a<;>cases a'<;>first|exact ha.elim|skip)<;>(cases op<;>first|exact absurd rfl hop.1|exact absurd rfl hop.2|exact Aj)
 |string a=>
  cases hy with
  |string b=>cases op<;>first|exact absurd rfl hop.1|exact absurd rfl hop.2|(rw[JW];exact Hy _ _ _)
  |pointer hb=>cases op<;>first|exact absurd rfl hop.1|exact absurd rfl hop.2|exact Aj
  |_=>cases op<;>first|exact absurd rfl hop.1|exact absurd rfl hop.2|exact Ae
 |_=>
  cases hy with
  |pointer hb=>cases op<;>first|exact absurd rfl hop.1|exact absurd rfl hop.2|exact Aj
  |_=>cases op<;>first|exact absurd rfl hop.1|exact absurd rfl hop.2|exact Ae
def WJ (Q:Zp)(t:Zr)(x y:Ze)(h:x=.tuple #[]\/y=.tuple #[]):∀(w:Zc) (es:Array zc),∃z u f,(Zaf t x y).runT Q w es=(.halt z u,f)/\Hd z:=by
 intro w es;have e:Zaf t x y=Za5 (9999+1) t x y:=rfl;rw[e,Za5];show∃z u f,((underlying t).bind _).runT Q w es=(.halt z u,f)/\Hd z;rw[zg];have hu:(∃d,(underlying t).runT Q w es=(.ok d w,es))\/∃z,(underlying t).runT Q w es=(.halt z w,es)/\Hd z:=by
  cases hq:Q.underlying t with
  |none=>exact .inr ⟨.stuck "no such type",by unfold underlying;simp[-zk,bind,Zcd,program,ZM,hq,stuck],trivial⟩
  |some d=>exact .inl ⟨d,by unfold underlying;simp[-zk,bind,Zcd,program,ZM,hq,pure]⟩
 rcases hu with⟨d,hd⟩|⟨z,hz,hd⟩
 .rw[hd]
  dsimp only;rcases h with rfl|rfl
  all_goals
   split
   all_goals first|exact⟨_,_,_,rfl,trivial⟩|(exfalso;simp_all;done)
 .rw[hz]
  exact⟨_,_,_,rfl,hd⟩
def vD (T:Twins P' P)(hB:Base P ρ)(m:Nat)(op:BinOp)(t:Zr)(hop:op=.eql\/op=.neq)
 (h:JU P m t=true\/((∃ms,P.underlying t=some (.interface ms))/\(x=.nilIface\/y=.nilIface))) (hx:VR ρ x x') (hy:VR ρ y y'):Ao P' P fz VR ρ (binOp op t x y) (binOp op t x' y'):=by
 have key:Ao P' P fz Gp ρ (Zaf t x y) (Zaf t x' y'):=by
  rcases h with h|⟨hi,hn⟩
  .exact Sz T m t hB h hx hy
  .exact fA T t hx hy hn hi
 have e1:Ao P' P fz VR ρ (Zaf t x y>>=fun b=>pure (.bool b)) (Zaf t x' y'>>=fun b=>pure (.bool b)):=Ac _ key fun _ _ _ _ hb=>by cases hb;exact Ad (.bool _)
 have e2:Ao P' P fz VR ρ (Zaf t x y>>=fun b=>pure (.bool !b)) (Zaf t x' y'>>=fun b=>pure (.bool !b)):=Ac _ key fun _ _ _ _ hb=>by cases hb;exact Ad (.bool _)
 clear key h;by_cases hw:x=.tuple #[]\/y=.tuple #[]
 .have hd:=WJ P' t x y hw
  rcases hop with rfl|rfl
  .have e:binOp .eql t x y=(Zaf t x y).bind fun b=>pure (.bool b):=by rcases hw with rfl|rfl<;>first|(cases y<;>rfl)|(cases x<;>rfl)
   rw[e];exact .Hp (KR hd _)
  .have e:binOp .neq t x y=(Zaf t x y).bind fun b=>pure (.bool !b):=by rcases hw with rfl|rfl<;>first|(cases y<;>rfl)|(cases x<;>rfl)
   rw[e];exact .Hp (KR hd _)
 rcases hop with rfl|rfl
 .cases hx with
  |int k a=>
   cases hy with
   |int k' b=>
    unfold binOp;exact Gq (fun _=>Ae) fun _=>SE _ _ _
   |EK h=>exact absurd (.inr rfl) hw
   |_=>exact e1
  |string a=>
   cases hy with
   |string b=>rw[JW];exact Hy _ _ _
   |EK h=>exact absurd (.inr rfl) hw
   |_=>exact e1
  |EK h=>exact absurd (.inl rfl) hw
  |_=>cases hy<;>first|exact e1|exact absurd (.inr rfl) hw
 .cases hx with
  |int k a=>
   cases hy with
   |int k' b=>
    unfold binOp;exact Gq (fun _=>Ae) fun _=>SE _ _ _
   |EK h=>exact absurd (.inr rfl) hw
   |_=>exact e2
  |string a=>
   cases hy with
   |string b=>rw[JW];exact Hy _ _ _
   |EK h=>exact absurd (.inr rfl) hw
   |_=>exact e2
  |EK h=>exact absurd (.inl rfl) hw
  |_=>cases hy<;>first|exact e2|exact absurd (.inr rfl) hw
def MO:∀(m:Nat) (d:Nat) (t:Zr),m<=d->JU P m t=true->P.eqGuardType d t=false
 |0,_,_,_,h=>by cases h
 |m+1,0,_,hd,_=>by omega
 |m+1,d+1,t,hd,h=>by
  unfold JU at h;unfold Zdy;cases hu:P.underlying t with
  |none=>rfl
  |some x=>
   rw[hu]at h;cases x with
   |struct fs=>
    dsimp only at h⊢;rw[z8]at h;rw[Bool.eq_false_iff];intro hx;rw[Array.any_eq_true']at hx;obtain⟨f,hf,hb⟩:=hx;rw[MO m d f.type (by omega) (h f hf),Bool.and_false]at hb;cases hb
   |array n e=>exact MO m d e (by omega) h
   |interface ms=>cases h
   |_=>rfl
def KY (T:Twins P' P):∀(d:Nat) (t:Zr),P'.eqGuardType d t=P.eqGuardType d t
 |0,_=>rfl
 |d+1,t=>by
  unfold Zdy;rw[T.und];cases P.underlying t with
  |none=>rfl
  |some x=>cases x<;>simp only[KY T d]
def lO (T:Twins P' P)(m:Nat)(hm:m<=P.depth)(op:BinOp)(t:Zr)(u v:ZbX)(h:(op=.eql\/op=.neq)->JU P m t=true\/(∃c,(u=.const c/\c=x/\x=.nilIface)\/(v=.const c/\c=y/\y=.nilIface)))
 (hx:VR ρ x x') (hy:VR ρ y y'):Ao P' P fz Gp ρ (eqGuard op t u v x y) (eqGuard op t u v x' y'):=by
 unfold eqGuard;refine Gq (fun _=>Ad rfl) fun hc=>?_;have hop:op=.eql\/op=.neq:=by cases op<;>first|exact .inl rfl|exact .inr rfl|exact absurd rfl hc
 replace h:=h hop;clear hc;cases hx with
 |nilIface=>
  cases hy with
  |nilIface=>
   dsimp only;refine Gq (fun _=>Ad rfl) fun _=>?_;refine Ac Gp ?_ fun σ b b' _ hb=>?_
   .unfold Op.maxDepth Op.eqGuardIn
    refine Ac _ (Ar T t) fun σ d d' hle hd=>?_;obtain⟨rfl,_⟩:=hd;cases d<;>exact Ad rfl
   .cases hb
    exact Gq (fun _=>Aj) fun _=>Ad rfl
  |EK h=>cases y'<;>first|(cases h;done)|exact Ad rfl
  |_=>exact Ad rfl
 |agg hxc hxv=>
  cases hy with
  |agg hyc hyv=>
   dsimp only;rcases h with h|⟨c,⟨_,_,h⟩|⟨_,_,h⟩⟩
   .refine Ac _ Db fun σ p p' hle hp=>?_
    obtain⟨rfl,rfl⟩:=hp;refine Ac _ Db fun Bv p p' Az hp=>?_;obtain⟨rfl,rfl⟩:=hp;rw[KY T,T.depth,MO m P.depth t hm h];exact Ad rfl
   .cases h
   .cases h
  |EK h=>cases y'<;>first|(cases h;done)|exact Ad rfl
  |_=>exact Ad rfl
 |EK h=>cases x'<;>first|(cases h;done)|(cases hy<;>first|exact Ad rfl|(rename_i h2;cases y'<;>first|(cases h2;done)|exact Ad rfl))
 |_=>cases hy<;>first|exact Ad rfl|(rename_i h2;cases y'<;>first|(cases h2;done)|exact Ad rfl)
def fC (P:Zp)(src dst:Zr):Bool:=
 match P.underlying src,P.underlying dst with
 |some (.int _),some (.int _)=>true
 |some (.slice e),some .string=>(match P.underlying e with|some (.int .u8)=>true|_=>false)
 |_,_=>false
def QZ (hx:VR ρ x x'):Ao P' P fz VR ρ (Zax x) (Zax x'):=by
 unfold Zax;cases hx with
 | @slice a a' n c ha=>
  cases a<;>cases a'<;>first|exact ha.elim|skip
  .exact Ad (.string _)
  .dsimp only
   refine Ac _ (KS ha n) fun σ z z' hle hz=>?_;refine Ac Gp (pP hz rfl fun τ u v b b' _ pY hb=>?_) fun τ s s' _ hs=>?_
   .cases hb
    cases pY with
    |int k m=>cases k<;>first|exact Ae|exact Ad (.yield rfl)
    |_=>exact Ae
   .cases hs;exact Ad (.string _)
 |_=>exact Ae
def lP (T:Twins P' P)(src dst:Zr)(h:fC P src dst=true)(hx:VR ρ x x'):Ao P' P fz VR ρ (convert src dst x) (convert src dst x'):=by
 unfold convert;refine Ac _ (Ar T src) fun σ d d' hle hd=>?_;obtain⟨rfl,hd⟩:=hd;refine Ac _ (Ar T dst) fun Bv e e' Az he=>?_;obtain⟨rfl,he⟩:=he;have Be:=hx.mono (Ren.le_trans hle Az);unfold fC at h;rw[hd,he]at h;cases d with
 |int k=>
  cases e with
  |int k'=>
   cases Be with
   |int k n=>exact Ad (.int _ _)
   | @pointer a a' ha=>cases a<;>cases a'<;>first|exact ha.elim|exact Aj
   |_=>exact Aj
  |_=>cases h
 |slice el=>
  cases e with
  |string=>
   have rest:Ao P' P fz VR Bv (underlying el>>=fun u=>match u with
     | .int .u8=>Zax x
     | .int .i32=>Conv.runesToString x
     |_=>stuck "Convert: a slice of what to string?") (underlying el>>=fun u=>match u with
     | .int .u8=>Zax x'
     | .int .i32=>Conv.runesToString x'
     |_=>stuck "Convert: a slice of what to string?"):=by
    refine Ac _ (Ar T el) fun Ez u u' AX hu=>?_;obtain⟨rfl,hu⟩:=hu;dsimp only at h;rw[hu]at h;cases u with
    |int k=>cases k<;>first|exact QZ (Be.mono AX)|cases h
    |_=>cases h
   cases Be with
   |int k n=>exact Ad (.string _)
   |string s=>exact Ad (.string _)
   | @slice a a' n c ha=>cases a<;>cases a'<;>first|exact ha.elim|exact rest
   | @pointer a a' ha=>cases a<;>cases a'<;>first|exact ha.elim|exact rest
   |EK hw=>cases x'<;>first|(cases hw;done)|exact rest|(rename_i a;cases a<;>first|(cases hw;done)|exact rest)|(rename_i a _ _;cases a<;>first|(cases hw;done)|exact rest)
   |_=>exact rest
  |_=>cases h
 |_=>cases h
end
section
variable {P' P:Zp}{fz:Prop}{ρ:Ren}
def abT (hx:VR ρ x x')(hy:VR ρ y y'):Ao P' P fz VR ρ (Zc7 x y) (Zc7 x' y'):=by
 unfold Zc7;cases hx with
 |int k a=>
  cases hy with
  |int k' b=>exact Ad (.int _ _)
  | @pointer b b' hb=>cases b<;>cases b'<;>first|exact hb.elim|exact Aj|exact Ae
  |_=>exact Ae
 |string a=>
  cases hy with
  |string b=>
   dsimp only;refine Ac _ (Hy _ _ _) fun σ u v _ pY=>?_;refine Ac _ (Ss pY) fun Bv u v _ pY=>?_;cases pY;exact Ad (.string _)
  | @pointer b b' hb=>cases b<;>cases b'<;>first|exact hb.elim|exact Aj|exact Ae
  |_=>exact Ae
 | @pointer a a' ha=>
  cases a<;>cases a'<;>first|exact ha.elim|skip
  .cases hy with
   | @pointer b b' hb=>cases b<;>cases b'<;>first|exact hb.elim|exact Aj|exact Ae
   |_=>exact Ae
  .cases hy<;>exact Aj
 |_=>
  cases hy with
  | @pointer b b' hb=>cases b<;>cases b'<;>first|exact hb.elim|exact Aj|exact Ae
  |_=>exact Ae
def bd {f g:Ze->Ze->Sem Ze}(hf:∀ρ x x' y y',VR ρ x x'->VR ρ y y'->Ao P' P fz VR ρ (f x y) (g x' y')):∀ {l l':List Ze} {ρ:Ren} {x x':Ze},VR ρ x x'->EB (VR ρ) l l'->Ao P' P fz VR ρ (l.foldlM f x) (l'.foldlM g x'):=by
 intro l
 induction l with
 |nil=>intro l' ρ x x' hx hl;cases hl;exact Ad hx
 |cons y l ih=>
  intro l' ρ x x' hx hl;cases hl with
  |cons hy ht=>
   rw[List.foldlM_cons,List.foldlM_cons];exact Ac _ (hf ρ _ _ _ _ hx hy) fun σ u v hle pY=>ih pY (ht.mono fun _ _=>VR.mono hle)
def agk (at_:Array Zr)(t:Zr){a':Array Ze}(h:B1 ρ a a'):Ao P' P fz VR ρ (Zc6 at_ t a) (Zc6 at_ t a'):=by
 unfold Zc6;have hl:=h.list;generalize a.toList=l at hl⊢;generalize a'.toList=l' at hl⊢;cases hl with
 |nil=>exact Ae
 |cons hx ht=>exact bd (fun _ _ _ _ _=>abT) hx ht
def abU (hx:VR ρ x x')(hy:VR ρ y y'):Ao P' P fz VR ρ (Zc5 x y) (Zc5 x' y'):=by
 unfold Zc5;cases hx with
 |int k a=>
  cases hy with
  |int k' b=>exact Ad (.int _ _)
  | @pointer b b' hb=>cases b<;>cases b'<;>first|exact hb.elim|exact Aj|exact Ae
  |_=>exact Ae
 |string a=>
  cases hy with
  |string b=>
   dsimp only;refine Ac _ (Hy _ _ _) fun σ u v _ pY=>?_;refine Ac _ (Ss pY) fun Bv u v _ pY=>?_;cases pY;exact Ad (.string _)
  | @pointer b b' hb=>cases b<;>cases b'<;>first|exact hb.elim|exact Aj|exact Ae
  |_=>exact Ae
 | @pointer a a' ha=>
  cases a<;>cases a'<;>first|exact ha.elim|skip
  .cases hy with
   | @pointer b b' hb=>cases b<;>cases b'<;>first|exact hb.elim|exact Aj|exact Ae
   |_=>exact Ae
  .cases hy<;>exact Aj
 |_=>
  cases hy with
  | @pointer b b' hb=>cases b<;>cases b'<;>first|exact hb.elim|exact Aj|exact Ae
  |_=>exact Ae
def agl (at_:Array Zr)(t:Zr){a':Array Ze}(h:B1 ρ a a'):Ao P' P fz VR ρ (Zc4 at_ t a) (Zc4 at_ t a'):=by
 unfold Zc4;have hl:=h.list;generalize a.toList=l at hl⊢;generalize a'.toList=l' at hl⊢;cases hl with
 |nil=>exact Ae
 |cons hx ht=>exact bd (fun _ _ _ _ _=>abU) hx ht
def vE (T:Twins P' P)(hB:Base P ρ)(hx:VR ρ x x'):Ao P' P fz VR ρ (Instr.panic x) (Instr.panic x'):=by
 unfold Instr.panic;cases hx with
 |iface t h=>exact Eu (.iface t h)
 |nilIface=>
  dsimp only;refine Ac Gp ?_ fun σ b b' hle hb=>?_
  .unfold Instr.panicnil
   refine Ac Gp (.env fun r=>.pure rfl) fun σ r r' _ hr=>?_;cases hr;cases r with
   |strings env=>
    dsimp only;refine Ac _ Db fun Bv p p' _ hp=>?_;obtain⟨rfl,rfl⟩:=hp;rw[T.tables];exact Ad rfl
   |_=>exact Ae
  .cases hb
   exact Gq (fun _=>Eu .nilIface) fun _=>AL T (hB.mono hle) _
 |_=>exact Ae
inductive eC (σ:Ren):Next->Next->Prop
 |value {v v':Ze} (h:VR σ v v'):eC σ (.value v) (.value v')
 |skip:eC σ .skip .skip
 |enter {f:ZaV} {a a':Array Ze} (hf:σ.ok f=true\/σ.ok.dir f a.size=true) (h:B1 σ a a'):eC σ (.enter f a) (.enter f a')
 |round {l l':Nat} (hl:σ l=some l') {f:ZaV} (hf:σ.ok.NI f=true/\σ.sp f=false) {t t':Array Ze} (ht:B1 σ t t') {as b:Code} (has:σ.good as=true) (hb:σ.good b=true):eC σ (.round l f t as b) (.round l' f t' as b)
structure CC (P' P:Zp)(ok:Qd):Prop where
 has:∀f,(ok f=true\/∃n,ok.dir f n=true)->∃fn Rt,P'.funcs[f]?=some fn/\P.funcs[f]?=some Rt/\fn.body.isSome=true/\Rt.body.isSome=true/\(fn.name== "runtime.NumGoroutine")=false/\(Rt.name== "runtime.NumGoroutine")=false
variable {f:ZaV}
def SK (S:CC P' P ρ.ok)(hf:ρ.ok f=true\/ρ.ok.dir f a.size=true){a':Array Ze}(h:B1 ρ a a'):Ao P' P fz eC ρ (ZB f a) (ZB f a'):=by
 unfold ZB;obtain⟨fn,Rt,e1,e2,b1,b2,n1,n2⟩:=S.has f (hf.imp id fun h=>⟨_,h⟩);refine Ac _ Db fun σ p p' hle hp=>?_;obtain⟨rfl,rfl⟩:=hp;rw[e1,e2];have c1:fn.body.isNone=false:=by rw[ZcE];exact b1
 have c2:Rt.body.isNone=false:=by rw[ZcE];exact b2
 dsimp only;rw[n1,n2,c1,c2];exact Ad (.enter (by rw[hle.2.1];exact hf) (B1.mono hle h))
variable {l l' i n r r' N:Nat}
def Jh (h:ρ l=some l'):Ao P' P fz LpR ρ (Zc0 l) (Zc0 l'):=by
 unfold Zc0;refine Ac _ (Dh h) fun σ o o' _ ho=>?_;cases ho with
 |loop hl=>exact Ad hl
 |_=>exact Ae
variable {as:Code}
def bh {fn:ZaV}(G7:ρ.ok.NI fn=true/\ρ.sp fn=false)(ht:B1 ρ t t')(ps:Array Tmp){b:Code}(has:ρ.good as=true)(hb:ρ.good b=true){ar ar':Option Nat}(yS:Sm ρ ar ar'):
  Ao P' P fz (fun σ p p'=>σ p.1=some p'.1/\EB (jm σ) p.2 p'.2) ρ (Zag fn t ps as b ar) (Zag fn t' ps as b ar'):=by
 unfold Zag;have tail:∀σ (p p':Nat×List Deferred),ρ.le σ->σ p.1=some p'.1->EB (jm σ) p.2 p'.2->
   Ao P' P fz (fun σ p p'=>σ p.1=some p'.1/\EB (jm σ) p.2 p'.2) σ
    (newObj (.loop {state:=.ready,pending:=none,fn,tmps:=t,params:=ps,assign:=as,body:=b,defers:=p.1})>>=fun r=>pure (r,p.2))
    (newObj (.loop {state:=.ready,pending:=none,fn,tmps:=t',params:=ps,assign:=as,body:=b,defers:=p'.1})>>=fun r=>pure (r,p'.2)):=by
  intro σ p p' hle hd hm;refine Ac _ (Hr (.loop ⟨rfl,rfl,rfl,B1.mono hle ht,rfl,rfl,rfl,by rw[hle.2.1,hle.2.2.2];exact G7,⟨by rw[hle.2.2.1];exact has,by rw[hle.2.2.1];exact hb,fun _ h=>(by cases h)⟩,hd⟩)) fun τ r r' Dp hr=>Ad ⟨hr,hm.mono fun _ _=>jm.mono Dp⟩
 cases ar<;>cases ar'<;>first|exact yS.elim|skip
 .dsimp only
  refine Ac _ (Hr .deferred) fun σ r r' hle hr=>?_;exact Ac (fun σ p p'=>σ p.1=some p'.1/\EB (jm σ) p.2 p'.2) (Ad ⟨hr,.cons (.mk hr) .nil⟩) fun τ p p' Dp hp=>tail τ p p' (Ren.le_trans hle Dp) hp.1 hp.2
 .dsimp only
  refine Ac _ (Jh yS) fun σ l l' hle hl=>?_;exact Ac (fun σ p p'=>σ p.1=some p'.1/\EB (jm σ) p.2 p'.2) (Ad ⟨hl.defers,.nil⟩) fun τ p p' Dp hp=>tail τ p p' (Ren.le_trans hle Dp) hp.1 hp.2
def vF (h:ρ l=some l'){a':Array Ze}(ha:B1 ρ a a'):Ao P' P fz eC ρ (ZdL l a) (ZdL l' a'):=by
 unfold ZdL;refine Ac _ (Jh h) fun σ r r' hle hr=>?_;rw[hr.params,ha.1];refine Gq (fun _=>.bad trivial) fun _=>?_;rw[hr.fn,hr.assign,hr.body];refine Ad (.round (hle.1 _ _ h) hr.run ?_ hr.fine.1 hr.fine.2.1);have fD:=(B1.mono hle ha).list;have key:∀(ps:List Tmp) {l l':List Ze},EB (VR σ) l l'->∀ {t t':Array Ze},B1 σ t t'->B1 σ ((ps.zip l).foldl (fun ts (x:Tmp×Ze)=>ts.setIfInBounds x.1 x.2) t) ((ps.zip l').foldl (fun ts (x:Tmp×Ze)=>ts.setIfInBounds x.1 x.2) t'):=by
  intro ps
  induction ps with
  |nil=>intro l l' _ t t' ht;exact ht
  |cons p ps ih=>intro l l' hl t t' ht;cases hl with
   |nil=>exact ht
   |cons hx O2=>exact ih O2 (ht.set hx p)
 have e:∀(b:Array Ze) (ts:Array Ze),(r.params.zip b).foldl (fun tmps (x:Tmp×Ze)=>match x with|(t,a)=>tmps.setIfInBounds t a) ts=(r.params.toList.zip b.toList).foldl (fun ts (x:Tmp×Ze)=>ts.setIfInBounds x.1 x.2) ts:=by
  intro b ts;rw[<-Zb5,Array.toList_zip]
 rw[e,e];exact key _ fD hr.tmps
def WK (T:Twins P' P)(hB:Base P ρ)(h:ρ l=some l'):Ao P' P fz Gp ρ (ZaG l) (ZaG l'):=by
 unfold ZaG;refine Ac _ (Jh h) fun σ r r' hle hr=>?_;refine Ac _ (Ef (hle.1 _ _ h) (.loop {hr with state:=rfl})) fun τ _ _ Dp _=>?_;rw[hr.state];split
 .exact Ad rfl
 all_goals exact AL T (hB.mono (Ren.le_trans hle Dp)) _
def fE (h:ρ l=some l')(j:Option Code)(hj:∀c,j=some c->ρ.good c=true):Ao P' P fz VR ρ (ZaZ l j) (ZaZ l' j):=by
 unfold ZaZ;refine Ac _ (Jh h) fun σ r r' hle hr=>?_;refine Ac _ (Ef (hle.1 _ _ h) (.loop {hr with state:=rfl,pending:=rfl,fine:=⟨hr.fine.1,hr.fine.2.1,by rw[hle.2.2.1];exact hj⟩})) fun τ _ _ Dp _=>?_;exact Ad (.bool _)
def lQ (T:Twins P' P)(hB:Base P ρ)(h:ρ l=some l'):Ao P' P fz (fun σ j j'=>j=j'/\∀c,j=some c->σ.good c=true) ρ (ZaH l) (ZaH l'):=by
 unfold ZaH;refine Ac _ (Jh h) fun σ r r' hle hr=>?_;rw[hr.state];refine Gq (fun _=>DM T (hB.mono hle) _) fun _=>?_;refine Ac _ (Ef (hle.1 _ _ h) (.loop {hr with state:=rfl})) fun τ _ _ Dp _=>?_;rw[hr.pending];exact Ad ⟨rfl,by rw[Dp.2.2.1];exact hr.fine.2.2⟩
def SM {b b':Nat}(h:ρ b=some b'):Ao P' P fz (fun _ l l'=>l=[]/\l'=[]) ρ (YF b) (YF b'):=by
 unfold YF;refine Ac _ (Dh h) fun σ o o' hle ho=>?_;cases ho with
 |deferred=>exact Ac _ (Ef (hle.1 _ _ h) .Fs) fun τ _ _ Dp _=>Ad ⟨rfl,rfl⟩
 |_=>exact Ae
def lR (T:Twins P' P)(hB:Base P ρ){b:Builtin}(hb:okB b=true)(at_:Array Zr)(t:Zr)(c:Array Bool){a':Array Ze}(h:B1 ρ a a'):Ao P' P fz eC ρ (builtin b at_ t c a) (builtin b at_ t c a'):=by
 have v:∀ {s s':Sem Ze},Ao P' P fz VR ρ s s'->Ao P' P fz eC ρ (s>>=fun x=>pure (.value x)) (s'>>=fun x=>pure (.value x)):=fun h=>Ac _ h fun _ _ _ _ hv=>Ad (.value hv);unfold builtin;cases b<;>first|cases hb|skip
 .exact v (pW T hB at_ t h)
 .exact v (agf T at_ t h)
 .exact v (abR T at_ t h)
 .exact v (age T at_ t h)
 .exact v (agk at_ t h)
 .exact v (agl at_ t h)
def bj (T:Twins P' P)(hB:Base P ρ)(S:CC P' P ρ.ok){t t':Target}(ht:TgR ρ t t'){a':Array Ze}(h:B1 ρ a a'):Ao P' P fz eC ρ (invoke t a) (invoke t' a'):=by
 unfold invoke;cases ht with
 |nil=>exact AL T hB _
 |builtin hb at_ t c=>exact lR T hB hb at_ t c h
 |collected hr=>exact Ae
 |fn hf hc=>
  cases hf with
  |func hf=>exact SK S (.inl hf) (h.append hc)
  |yield hl=>exact vF hl h
end
def Qm:Nat->Ze->Bool
 |0,_=>false
 |n+1,v=>match v with
  | .bool _| .int _ _| .string _| .nilFunc| .nilIface| .pointer none| .slice none _ _| .map none| .chan none=>true
  | .agg cs=>cs.all (Qm n)
  | .tuple cs=>cs.all (Qm n)
  | .iface _ v=>Qm n v
  |_=>false
def LX:∀(n:Nat) {v:Ze} {ρ:Ren},Qm n v=true->VR ρ v v
 |0,_,_,h=>by cases h
 |n+1,v,ρ,h=>by
  have all:∀cs:Array Ze,cs.all (Qm n)=true->B1 ρ cs cs:=by
   intro cs hc;refine⟨rfl,fun i x y hx hy=>?_⟩;rw[hx]at hy;cases hy;rw[z8]at hc;exact LX n (hc x (zC hx))
  cases v with
  |bool b=>exact .bool b
  |int k m=>exact .int k m
  |string s=>exact .string s
  |nilFunc=>exact .nilFunc
  |nilIface=>exact .nilIface
  |pointer a=>cases a with
   |none=>exact .pointer trivial
   |some a=>cases h
  |slice a l c=>cases a with
   |none=>exact .slice l c trivial
   |some a=>cases h
  |map r=>cases r with
   |none=>exact .map trivial
   |some a=>cases h
  |chan r=>cases r with
   |none=>exact .chan trivial
   |some a=>cases h
  |agg cs=>exact .QW (all cs h)
  |tuple cs=>exact .tuple' (all cs h)
  |iface t v=>exact .iface t (LX n h)
  |_=>cases h
def lS (_G:Nat)(ok:Qd)(dead:Nat->Bool):ZbX->Bool
 | .tmp t=> !dead t
 | .const v=>Qm 8 v
 | .global _=>false
 | .func f=>ok f
def okC (G:Nat)(ok:Qd)(dead:Nat->Bool)(c:Call):Bool:=
 (match c.callee with| .value (.func f)=>ok.dir f c.args.size| .value f=>lS G ok dead f| .builtin b=>okB b| .invoke _ _=>false)&&c.args.all (lS G ok dead)
def KZ:ZbX->Bool
 | .const .nilIface=>true
 |_=>false
def BW:Nat:=12
def bk (P:Zp)(t:Zr):Bool:=match P.underlying t with|some (.map k _)=>aS P BW k|_=>true
def vG (P:Zp)(ok:Qd)(dead:Nat->Bool)(op:Op):Bool:=
 let G:=P.globals.size
 let X:=lS G ok dead
 match op with
 | .move x| .assign x| .box _ x| .load _ x| .nilCheck x| .unOp _ _ x| .makeInterface _ x| .fieldAddr _ x _| .field _ x _| .range _ x| .next x _| .extract x _| .panic x| .typeAssert x _ _ _=>X x
 | .pick c a b=>X c&&X a&&X b
 | .alloc _=>true
 | .build _ ps| .buildSlice _ _ ps=>ps.all fun p=>X p.2
 | .store _ a v| .makeSlice _ a v| .indexAddr _ a v| .index _ a v=>X a&&X v
 | .binOp op t x y _=>X x&&X y&&(match op with
  | .eql| .neq=>JU P BW t||((match P.underlying t with|some (.interface _)=>true|_=>false)&&(KZ x||KZ y))
  |_=>true)
 | .convert s d x=>X x&&fC P s d
 | .makeFunc f a c=>(match f with| .func f=>ok f|_=>false)&&a.all X&&c.all X
 | .makeMap _ r=>r.all X
 | .slice _ x l h m=>X x&&l.all X&&h.all X&&m.all X
 | .lookup t x i _=>X x&&X i&&bk P t
 | .mapUpdate t m k v| .insert t m k v=>X m&&X k&&X v&&bk P t
 | .mapEntry t m k=>X m&&X k&&bk P t
 | .entryStore _ m s v=>X m&&X s&&X v
 | .call c=>okC G ok dead c
 |_=>false
section
variable {P' P:Zp}{fz:Prop}{ρ:Ren}
structure Qn (dead:Nat->Bool)(ρ:Ren)(a b:Array Ze):Prop where
 size:a.size=b.size
 at_:∀(i:Nat) x y,dead i=false->a[i]?=some x->b[i]?=some y->VR ρ x y
def Qn.getD {dead:Nat->Bool}{a b:Array Ze}(h:Qn dead ρ a b)(i:Nat)(hd:dead i=false):VR ρ (a.getD i Zf) (b.getD i Zf):=by
 rw[Yz,Yz];cases hx:a[i]? with
 |none=>
  have:b[i]?=none:=by rw[Za2]at*;rw[<-h.size];exact hx
  rw[this];exact VR.undef ρ
 |some x=>
  obtain⟨hi,_⟩:=Za.1 hx;have Da:i<b.size:=h.size▸hi;rw[ZC Da];exact h.at_ i _ _ hd hx (ZC Da)
variable {dead:Nat->Bool}
def Qn.mono (hle:ρ.le σ)(h:Qn dead ρ a b):Qn dead σ a b:=⟨h.size,fun i x y hd hx hy=>(h.at_ i x y hd hx hy).mono hle⟩
def Qn.of (h:B1 ρ a b):Qn dead ρ a b:=⟨h.1,fun i x y _ hx hy=>h.2 i x y hx hy⟩
def Qn.all (h:Qn (fun _=>false) ρ a b):B1 ρ a b:=⟨h.size,fun i x y hx hy=>h.at_ i x y rfl hx hy⟩
def Qn.set (h:Qn dead ρ a b)(hr:VR ρ x y)(j:Nat):Qn dead ρ (a.setIfInBounds j x) (b.setIfInBounds j y):=by
 refine⟨by simp[h.size],fun i u v hd hu hv=>?_⟩;rw[za]at hu hv;rw[h.size]at hu;split at hu
 .rw[if_pos ‹_›]at hv
  split at hu
  .rw[if_pos ‹_›]at hv;cases hu;cases hv;exact hr
  .rw[if_neg ‹_›]at hv;cases hu
 .rw[if_neg ‹_›]at hv;exact h.at_ i u v hd hu hv
variable {c fr BC K0:ZT}
def MP (_hB:Base P ρ)(ht:Qn dead ρ fr.tmps BC.tmps){x:ZbX}(h:lS P.globals.size ρ.ok dead x=true):VR ρ (fr.eval x) (BC.eval x):=by
 unfold Zeb;cases x with
 |tmp t=>exact ht.getD t (by simpa[lS]using h)
 |const v=>exact LX 8 h
 |global g=>cases h
 |func f=>exact .aL (.func h) BG.nil BG.nil
def Rv (hB:Base P ρ)(ht:Qn dead ρ fr.tmps BC.tmps){xs:Array ZbX}(h:xs.all (lS P.globals.size ρ.ok dead)=true):B1 ρ (xs.map fr.eval) (xs.map BC.eval):=by
 rw[z8]at h;refine⟨by simp,fun i u v hu hv=>?_⟩;rw[zN,zf]at hu hv;obtain⟨x,hx,rfl⟩:=hu;obtain⟨y,hy,rfl⟩:=hv;rw[hx]at hy;cases hy;exact MP hB ht (h x (zC hx))
def Rw (hB:Base P ρ)(ht:Qn dead ρ fr.tmps BC.tmps){x:Option ZbX}(h:x.all (lS P.globals.size ρ.ok dead)=true):jq ρ (x.map fr.eval) (x.map BC.eval):=by
 cases x with
 |none=>trivial
 |some x=>exact MP hB ht h
def jC (hB:Base P ρ)(ht:Qn dead ρ fr.tmps BC.tmps){ps:Array (Nat×ZbX)}(h:ps.all (fun p=>lS P.globals.size ρ.ok dead p.2)=true):
  EB (yO ρ) (ps.map fun(i,x)=>(i,fr.eval x)).toList (ps.map fun(i,x)=>(i,BC.eval x)).toList:=by
 rw[z8]at h;refine BG.list ⟨by simp,fun i u v hu hv=>?_⟩;rw[zN,zf]at hu hv;obtain⟨x,hx,rfl⟩:=hu;obtain⟨y,hy,rfl⟩:=hv;rw[hx]at hy;cases hy;exact⟨rfl,MP hB ht (h x (zC hx))⟩
def My (Q:Zp)(t:Zr)(w:Zc)(es:Array zc):(∃i,Q.info? t=some i/\(typeInfo t).runT Q w es=(.ok i w,es))\/∃z,(typeInfo t).runT Q w es=(.halt z w,es)/\Hd z:=by
 cases hq:Q.info? t with
 |none=>exact .inr ⟨.stuck "no such type",by unfold typeInfo;simp[-zk,bind,Zcd,program,ZM,hq,stuck],trivial⟩
 |some i=>exact .inl ⟨i,rfl,by unfold typeInfo;simp[-zk,bind,Zcd,program,ZM,hq,pure]⟩
def SN (Q:Zp)(hl:∀i,Q.info? 0=some i->i.methods.find? (fun m=>m.name== "")=none)(a:Array Ze):∀(w:Zc) (es:Array zc),∃z u g,((Yk yI a).bind fun d=>invoke d.target d.args).runT Q w es=(.halt z u,g)/\Hd z:=by
 intro w es;have key:∀fuel,∃z u g,(method fuel 0 (.tuple #[]) "").runT Q w es=(.halt z u,g)/\Hd z:=by
  intro fuel;cases fuel with
  |zero=>exact⟨_,_,_,rfl,trivial⟩
  |succ n=>
   unfold method;show∃z u g,((typeInfo 0).bind _).runT Q w es=(.halt z u,g)/\Hd z;rw[zg];rcases My Q 0 w es with⟨i,hi,h⟩|⟨z,h,hd⟩
   .rw[h]
    dsimp only;rw[hl i hi];exact⟨_,_,_,rfl,trivial⟩
   .rw[h]
    exact⟨_,_,_,rfl,hd⟩
 have e:((Yk yI a).bind fun d=>invoke d.target d.args)=invoke (.fn (.method "") #[]) (#[.iface 0 (.tuple #[])]++a):=rfl;rw[e];have h0:(#[Value.iface 0 (.tuple #[])]++a)[0]?=some (.iface 0 (.tuple #[])):=by rw[zv (by simp)];rfl
 unfold invoke;dsimp only;rw[h0];unfold callMethod;dsimp only;show∃z u g,((program).bind fun p=>(method (p.types.size+ZcU) 0 (.tuple #[]) "").bind _).runT Q w es=_/\_;rw[zg];have hp:(program).runT Q w es=(.ok Q w,es):=rfl;rw[hp];dsimp only;rw[zg];obtain⟨z,u,g,h,hd⟩:=key (Q.types.size+ZcU);rw[h];exact⟨_,_,_,rfl,hd⟩
def Vu {f f':Ze}(hf:VR ρ f f')(Bn:f≠yI){a':Array Ze}(h:B1 ρ a a'):Ao P' P fz DfR ρ (Yk f a) (Yk f' a'):=by
 unfold Yk;cases hf with
 |func hf ha hav hc KB=>exact Ad ⟨.fn hf ⟨hc,KB⟩,BG.append ⟨ha,hav⟩ h⟩
 |nilFunc=>exact Ad ⟨.nil,h⟩
 |meth n f c=>exact absurd rfl Bn
 |_=>exact Ae
def lT (hB:Base P ρ)(ht:Qn dead ρ fr.tmps BC.tmps){c:Call}(h:okC P.globals.size ρ.ok dead c=true)(hnf:∀f,c.callee≠ .value (.func f))(hnu:∀f,c.callee=.value f->fr.eval f≠yI)(t:Zr):Ao P' P fz DfR ρ (Zbp fr.eval c t) (Zbp BC.eval c t):=by
 unfold okC at h;rw[ZI]at h;obtain⟨h1,h2⟩:=h;have ha:=Rv hB ht h2;unfold Zbp;cases hc:c.callee with
 |value f=>
  rw[hc]at h1;refine Vu (MP (x:=f) hB ht ?_) (hnu f hc) ha;cases f with
  |func f=>exact absurd hc (hnf f)
  |_=>exact h1
 |builtin b=>
  rw[hc]at h1;exact Ad ⟨.builtin h1 _ _ _,ha⟩
 |invoke _ _=>rw[hc]at h1;cases h1
def NU {t:Zr}(h:bk P t=true):∀k e,P.underlying t=some (.map k e)->aS P BW k=true:=by
 intro k e hu;unfold bk at h;rw[hu]at h;exact h
def pZ (T:Twins P' P)(hB:Base P ρ)(S:CC P' P ρ.ok)(hd:BW<=P.depth)(ht:Qn dead ρ fr.tmps BC.tmps){o:Oper}(h:vG P ρ.ok dead o.op=true):DK P' P fz eC ρ (ZbE fr.eval o) (ZbE BC.eval o):=by
 have v:∀ {s s':Sem Ze},Ao P' P fz VR ρ s s'->Ao P' P fz eC ρ (s>>=fun x=>pure (.value x)) (s'>>=fun x=>pure (.value x)):=fun h=>Ac _ h fun _ _ _ _ hv=>Ad (.value hv);have u:∀ {s s':Sem Unit},Ao P' P fz Gp ρ s s'->Ao P' P fz eC ρ (s>>=fun _=>pure .skip) (s'>>=fun _=>pure .skip):=fun h=>Ac _ h fun _ _ _ _ _=>Ad .skip;have E:∀ {x:ZbX},lS P.globals.size ρ.ok dead x=true->VR ρ (fr.eval x) (BC.eval x):=fun h=>MP hB ht h;have ok:∀ {s s':Sem Next},Ao P' P fz eC ρ s s'->DK P' P fz eC ρ s s':=fun h=>h.ok;unfold ZbE;cases ho:o.op<;>rw[ho]at h<;>first|cases h|(simp only[vG,ZI]at h;dsimp only)
 case move x=>exact ok (Ad (.value (E h)))
 case assign x=>exact ok (Ad (.value (E h)))
 case pick c a b=>
  refine ok ?_;refine Ac _ (Ss (E h.1.1)) fun σ b b' hle hb=>?_;cases hb;refine Ad (.value ?_);split
  .exact(E h.1.2).mono hle
  .exact(E h.2).mono hle
 case alloc e=>exact ok (v (vu T e))
 case box e x=>exact ok (v (ag6 e (E h)))
 case build t ps=>exact ok (v (vz T t (jC hB ht h)))
 case buildSlice t n ps=>exact ok (v (WC T t n (jC hB ht h)))
 case load t a=>exact ok (v (pO T t (E h)))
 case store t a x=>exact ok (u (lE T t (E h.1) (E h.2)))
 case nilCheck x=>
  refine ok ?_;have hx:=E h;generalize fr.eval x=y at hx;generalize BC.eval x=y' at hx;cases hx with
  | @pointer a a' ha=>
   cases a<;>cases a'<;>first|exact ha.elim|skip
   .exact AL T hB _
   .exact Ad (.value (.pointer ha))
  |nilIface=>exact AL T hB _
  |nilFunc=>exact AL T hB _
  |func hf ha hav hc KB=>
   cases hf with
   |func hf=>exact Ad (.value (.func (.func hf) ha hav hc KB))
   |yield hl=>exact Ad (.value (.func (.yield hl) ha hav hc KB))
  |bool b=>exact Ad (.value (.bool b))
  |int k n=>exact Ad (.value (.int k n))
  |string s=>exact Ad (.value (.string s))
  |slice n c x=>exact Ad (.value (.slice n c x))
  |map x=>exact Ad (.value (.map x))
  |chan x=>exact Ad (.value (.chan x))
  |iface t x=>exact Ad (.value (.iface t x))
  |agg hc hv=>exact Ad (.value (.agg hc hv))
  |tuple hc hv=>exact Ad (.value (.tuple hc hv))
  |EK h=>
   cases y' with
   |pointer a=>cases a with
    |none=>cases h
    |some a=>exact Ad (.value (.EK h))
   |func f a c=>cases f with
    |method n=>cases h
    |_=>exact Ad (.value (.EK h))
   |nilIface=>cases h
   |nilFunc=>cases h
   |_=>first|(cases h;done)|exact Ad (.value (.EK h))
  |meth n f c=>
   refine .Hp fun w es=>?_;dsimp only;have h0:(#[Value.iface 0 (.tuple #[])]:Array Ze)[0]?=some (.iface 0 (.tuple #[])):=rfl;rw[h0];dsimp only;show∃z u g,((program).bind fun p=>(nilAhead (p.types.size+ZcU) 0 (.tuple #[]) "").bind _).runT P' w es=_/\_;rw[zg];have hp:(program).runT P' w es=(.ok P' w,es):=rfl;rw[hp];dsimp only;rw[zg];have key:∀fuel,(∃z u g,(nilAhead fuel 0 (.tuple #[]) "").runT P' w es=(.halt z u,g)/\Hd z)\/(nilAhead fuel 0 (.tuple #[]) "").runT P' w es=(.ok none w,es):=by
    intro fuel;cases fuel with
    |zero=>exact .inr rfl
    |succ n=>
     left;unfold nilAhead;show∃z u g,((typeInfo 0).bind _).runT P' w es=(.halt z u,g)/\Hd z;rw[zg];rcases My P' 0 w es with⟨i,hi,h⟩|⟨z,h,hd⟩
     .rw[h]
      dsimp only;rw[T.pK i hi];exact⟨_,_,_,rfl,trivial⟩
     .rw[h]
      exact⟨_,_,_,rfl,hd⟩
   rcases key (P'.types.size+ZcU) with⟨z,u,g,h,hd⟩|h
   .rw[h]
    exact⟨_,_,_,rfl,hd⟩
   .rw[h]
    exact⟨_,_,_,rfl,trivial⟩
 case binOp op t x y yt=>
  obtain⟨⟨hx,hy⟩,hop⟩:=h;refine ok (v ?_);have vH:∀(f:ZT) {z:ZbX},KZ z=true->∃c,z=.const c/\c=.nilIface/\f.eval z=.nilIface:=by
   intro f z hz;unfold KZ at hz;split at hz
   .exact⟨_,rfl,rfl,rfl⟩
   .cases hz
  refine Ac _ (lO T BW hd op t x y ?_ (E hx) (E hy)) fun σ _ _ hle _=>?_
  .intro he
   have lU:(JU P BW t||((match P.underlying t with|some (.interface _)=>true|_=>false)&&(KZ x||KZ y)))=true:=by rcases he with rfl|rfl<;>exact hop
   rw[Za1,ZI,Za1]at lU;rcases lU with h|⟨_,h|h⟩
   .exact .inl h
   .obtain⟨c,e1,e2,e3⟩:=vH fr h
    exact .inr ⟨c,.inl ⟨e1,e2.trans e3.symm,e3⟩⟩
   .obtain⟨c,e1,e2,e3⟩:=vH fr h
    exact .inr ⟨c,.inr ⟨e1,e2.trans e3.symm,e3⟩⟩
  .by_cases he:op=.eql\/op=.neq
   .refine vD T (hB.mono hle) BW op t he ?_ ((E hx).mono hle) ((E hy).mono hle)
    have lU:(JU P BW t||((match P.underlying t with|some (.interface _)=>true|_=>false)&&(KZ x||KZ y)))=true:=by rcases he with rfl|rfl<;>exact hop
    rw[Za1,ZI,Za1]at lU;rcases lU with h|⟨hi,h⟩
    .exact .inl h
    .refine .inr ⟨?_,?_⟩
     .split at hi
      .exact⟨_,‹_›⟩
      .cases hi
     .rcases h with h|h
      .obtain⟨c,e1,e2,e3⟩:=vH fr h;exact .inl e3
      .obtain⟨c,e1,e2,e3⟩:=vH fr h;exact .inr e3
   .exact fB T (hB.mono hle) op t ⟨fun e=>he (.inl e),fun e=>he (.inr e)⟩ ((E hx).mono hle) ((E hy).mono hle)
 case unOp op t x=>exact ok (v (vC op (E h)))
 case convert s d x=>exact ok (v (lP T s d h.2 (E h.1)))
 case makeInterface t x=>exact ok (v (QY T t (E h)))
 case makeFunc f a c=>
  obtain⟨⟨hf,ha⟩,hc⟩:=h;cases f with
  |func f=>exact ok (v (Ad (.aL (.func hf) (Rv hB ht ha) (Rv hB ht hc))))
  |_=>cases hf
 case makeMap t r=>exact ok (v (lJ T t (Rw hB ht h)))
 case makeSlice t l c=>exact ok (v (aU T hB t (E h.1) (E h.2)))
 case slice t x l hi m=>exact ok (v (lH T hB t (E h.1.1.1) (Rw hB ht h.1.1.2) (Rw hB ht h.1.2) (Rw hB ht h.2)))
 case fieldAddr s x f=>exact ok (v (lF T s (E h) f))
 case field t x f=>exact ok (v (vw T t (E h) f))
 case indexAddr t x i=>exact ok (v (lG T hB t (E h.1) (E h.2)))
 case index t x i=>exact ok (v (vx T hB t (E h.1) (E h.2)))
 case lookup t x i k=>exact ok (v (pT T BW t (NU h.2) hB (E h.1.1) (E h.1.2) k))
 case mapUpdate t m k x=>exact DK.map (Qj T BW t (NU h.2) hB (E h.1.1.1) (E h.1.1.2) (E h.1.2)) fun _ _ _ _ _=>.skip
 case insert t m k x=>exact DK.map (Qj T BW t (NU h.2) hB (E h.1.1.1) (E h.1.1.2) (E h.1.2)) fun _ _ _ _ _=>.skip
 case mapEntry t m k=>exact DK.map (fh T BW t (NU h.2) hB (E h.1.1) (E h.1.2)) fun _ _ _ _ hv=>.value hv
 case entryStore t m s x=>exact ok (u (WE t (E h.1.1) (E h.1.2) (E h.2)))
 case range t x=>exact ok (v (pV T t (E h)))
 case next it s=>exact ok (v (abQ (E h) s _))
 case typeAssert x xt at_ k=>exact ok (v (WG T hB (E h) xt at_ k))
 case extract t i=>exact ok (v (lI (E h) i))
 case call c=>
  refine ok ?_;by_cases hnf:∃f,c.callee=.value (.func f)
  .obtain⟨f,hc⟩:=hnf
   unfold okC at h;rw[hc,ZI]at h;have ha:=Rv hB ht h.2;have e:∀fr:ZT,(do let d <-Zbp fr.eval c o.type;invoke d.target d.args)=ZB f (c.args.map fr.eval):=by
    intro fr;unfold Zbp;rw[hc];simp[Zeb,Yk,invoke,bind,pure,Zcd]
   rw[e,e];exact SK S (.inr (by simpa using h.1)) ha
  by_cases hnu:∃f,c.callee=.value f/\fr.eval f=yI
  .obtain⟨f,hc,hv⟩:=hnu
   have e:(do let d <-Zbp fr.eval c o.type;invoke d.target d.args)=((Yk yI (c.args.map fr.eval)).bind fun d=>invoke d.target d.args):=by
    unfold Zbp;rw[hc];dsimp only;rw[hv]
    rfl
   rw[e];exact .Hp (SN P' T.pK _)
  exact Ac _ (lT hB ht h (fun f hf=>hnf ⟨f,hf⟩) (fun f hf hv=>hnu ⟨f,hf,hv⟩) o.type) fun σ d d' hle hd=>bj T (hB.mono hle) (by rw[hle.2.1];exact S) hd.target hd.args
 case panic x=>exact ok (v (vE T hB (E h)))
end
def Vv (P:Zp)(ok:Qd)(dead:Nat->Bool)(ops:Array Oper):Bool:=ops.all fun o=>vG P ok dead o.op&&o.dst.all (fun d=> !dead d)
def Bi (P:Zp)(ok:Qd)(dead:Nat->Bool)(seg:Bool):Code->Bool
 | .skip| .exit _| .label _=>true
 | .region _ ops _=>Vv P ok dead ops
 | .seq a b=>Bi P ok dead seg a&&Bi P ok dead seg b
 | .cond c a b=>lS P.globals.size ok dead c&&Bi P ok dead seg a&&Bi P ok dead seg b
 | .block _ b| .loop b| .scope b=>Bi P ok dead seg b
 | .ret=> !seg
 | .rangeFunc f _ a b=> !seg&&lS P.globals.size ok dead f&&Bi P ok dead seg a&&Bi P ok dead seg b
 |_=>false
abbrev B3:Nat->Bool:=fun _=>false
structure Pd (P' P:Zp)(ok:Qd)(sp:ZaV->Bool):Prop where
 val:∀f,ok f=true->ok.NI f=true/\sp f=false
 dir:∀f n,ok.dir f n=true->(ok.NI f=true/\sp f=false)\/sp f=true
 met:∀f n,ok.dir f n=true->sp f=true->∃fn Rt,P'.funcs[f]?=some fn/\P.funcs[f]?=some Rt/\fn.body.isSome=true/\Rt.body.isSome=true/\(fn.name== "runtime.NumGoroutine")=false/\(Rt.name== "runtime.NumGoroutine")=false
 has:∀f,ok.NI f=true->sp f=false->∃fn code,P'.funcs[f]?=some fn/\P.funcs[f]?=some fn/\fn.body=some code/\Bi P ok B3 false code=true/\(fn.name== "runtime.NumGoroutine")=false/\fn.norace=false
def Pd.same {ok:Qd}{sp:ZaV->Bool}(F:Pd P' P ok sp):CC P' P ok:=
 ⟨fun f hf=>by
  rcases hf with hf|⟨n,hf⟩
  case inr=>
   rcases F.dir f n hf with hs|hs
   .obtain⟨fn,code,h1,h2,h3,_,h5,_⟩:=F.has f hs.1 hs.2;exact⟨fn,fn,h1,h2,by rw[h3];rfl,by rw[h3];rfl,h5,h5⟩
   .exact F.met f n hf hs
  case inl=>obtain⟨fn,code,h1,h2,h3,_,h5,_⟩:=F.has f (F.val f hf).1 (F.val f hf).2;exact⟨fn,fn,h1,h2,by rw[h3];rfl,by rw[h3];rfl,h5,h5⟩⟩
structure Env (P' P:Zp)(ρ:Ren):Prop where
 base:Base P ρ
 good:ρ.good=Bi P ρ.ok B3 false
 NI:Pd P' P ρ.ok ρ.sp
def Env.mono (h:Env P' P ρ)(hle:ρ.le σ):Env P' P σ:=
 ⟨h.base.mono hle,by rw[hle.2.2.1,hle.2.1];exact h.good,by rw[hle.2.1,hle.2.2.2];exact h.NI⟩
structure Cut where
 seg:Bool
 dead:Nat->Bool
 tail:List Item
 jD:List Deferred
 fn:ZaV
 flat:Bool
 rv:Nat->Ze
 rn:Nat
 rk:CallKind
def Cut.whole:Cut:=⟨false,B3,[],[],0,false,fun _=>Zf,0,.normal⟩
def Cut.Full (K:Cut):Prop:=K.tail=[]/\K.jD=[]/\K.dead=B3
def Cut.SQ:Cut.whole.Full:=⟨rfl,rfl,rfl⟩
inductive UM (P:Zp)(K:Cut)(ρ:Ren):Item->Item->Prop
 |code {c:Code} (h:Bi P ρ.ok K.dead K.seg c=true):UM P K ρ (.code c) (.code c)
 |inBlock (id:Nat):UM P K ρ (.inBlock id) (.inBlock id)
 |inLoop {b:Code} (h:Bi P ρ.ok K.dead K.seg b=true):UM P K ρ (.inLoop b) (.inLoop b)
 |inScope {b:Code} (h:Bi P ρ.ok K.dead K.seg b=true):UM P K ρ (.inScope b) (.inScope b)
 |inRegion {ops:Array Oper} (is:List Nat) (h:Vv P ρ.ok K.dead ops=true):UM P K ρ (.inRegion ops is) (.inRegion ops is)
 |NV {l l':Nat} (h:ρ l=some l') (hs:K.seg=false):UM P K ρ (.inRangeFunc l) (.inRangeFunc l')
 |Ji {l l':Nat} (h:ρ l=some l') (hs:K.seg=false):UM P K ρ (.endRangeFunc l) (.endRangeFunc l')
 |beginRound (hs:K.seg=false):UM P K ρ .beginRound .beginRound
structure oU (ρ:Ren)(p p':zn):Prop where
 v:VR ρ p.v p'.v
 fresh:p.recovered=false/\p'.recovered=false/\p.goexit=false/\p'.goexit=false
inductive MdR (ρ:Ren):FrameMode->FrameMode->Prop
 |run:MdR ρ .run .run
 |returning:MdR ρ .returning .returning
 |panicking {c c':List zn} (h:EB (oU ρ) c c'):MdR ρ (.panicking c) (.panicking c')
variable {K:Cut}
def UM.mono (hle:ρ.le σ){i i':Item}(h:UM P K ρ i i'):UM P K σ i i':=by
 cases h with
 |code h=>exact .code (by rw[hle.2.1];exact h)
 |inBlock id=>exact .inBlock id
 |inLoop h=>exact .inLoop (by rw[hle.2.1];exact h)
 |inScope h=>exact .inScope (by rw[hle.2.1];exact h)
 |inRegion is h=>exact .inRegion is (by rw[hle.2.1];exact h)
 |NV h hs=>exact .NV (hle.1 _ _ h) hs
 |Ji h hs=>exact .Ji (hle.1 _ _ h) hs
 |beginRound hs=>exact .beginRound hs
def oU.mono (hle:ρ.le σ){p p':zn}(h:oU ρ p p'):oU σ p p':=⟨h.v.mono hle,h.fresh⟩
def MdR.mono {ρ σ:Ren}(hle:ρ.le σ){m m':FrameMode}(h:MdR ρ m m'):MdR σ m m':=by
 cases h with
 |run=>exact .run
 |returning=>exact .returning
 |panicking h=>exact .panicking (h.mono fun _ _=>oU.mono hle)
structure Hz (P' P:Zp)(K:Cut)(ρ:Ren)(fr BC:ZT):Prop where
 fn:BC.fn=fr.fn
 src:K.seg=false->ρ.ok.NI fr.fn=true/\ρ.sp fr.fn=false
 loud:(P'.funcs[fr.fn]?).any (·.norace)=false/\(P.funcs[fr.fn]?).any (·.norace)=false
 tmps:Qn K.dead ρ fr.tmps BC.tmps
 todo:∃k,BC.todo=k++K.tail/\EB (UM P K ρ) fr.todo k
 defers:∃d,BC.defers=d++K.jD/\EB (jm ρ) fr.defers d
 mode:MdR ρ fr.mode BC.mode
 kind:fr.kind=.normal/\(BC.kind=.normal\/(K.seg=true/\BC.kind=.deferred))
 round:Sm ρ fr.roundOf BC.roundOf
 part:K.seg=true->fr.roundOf=none/\fr.mode≠ .returning/\fr.defers=[]/\fr.fn=K.fn
 flat:K.flat=true->fr.roundOf=none/\fr.fn=K.fn
 Aw:K.seg=true->BC.tmps.size=K.rn/\(∀i,K.dead i=true->BC.tmps.getD i Zf=K.rv i)/\BC.kind=K.rk
variable {c fr BC K0:ZT}
def Hz.mono (hle:ρ.le σ)(h:Hz P' P K ρ fr BC):Hz P' P K σ fr BC:=
 ⟨h.fn,by rw[hle.2.1,hle.2.2.2];exact h.src,h.loud,h.tmps.mono hle,by obtain⟨k,h1,h2⟩:=h.todo;exact⟨k,h1,h2.mono fun _ _=>UM.mono hle⟩,
  by obtain⟨k,h1,h2⟩:=h.defers;exact⟨k,h1,h2.mono fun _ _=>jm.mono hle⟩,h.mode.mono hle,h.kind,h.round.mono hle,h.part,h.flat,h.Aw⟩
section
variable {P' P:Zp}{ρ:Ren}{K:Cut}
def Hz.p9 (h:Hz P' P K ρ fr BC)(hs:K.seg=false):BC.kind=.normal:=h.kind.2.resolve_right fun x=>by rw[hs]at x;cases x.1
def Hz.ux (h:Hz P' P K ρ fr BC):fr.kind≠ .early:=by rw[h.kind.1];intro x;cases x
def Hz.ne2 (h:Hz P' P K ρ fr BC):BC.kind≠ .early:=by
 rcases h.kind.2 with x|⟨_,x⟩<;>(rw[x];intro y;cases y)
def EB.SR {R:α->β->Prop}{m:List β}(h:EB R [] m):m=[]:=by cases h;rfl
variable {dead:Nat->Bool}
variable {ops:Array Oper}
variable {l l' i n r r' N:Nat}
def Pe {ok:Qd}(h:Vv P ok dead ops=true){o:Oper}(ho:ops[i]?=some o):vG P ok dead o.op=true/\∀d,o.dst=some d->dead d=false:=by
 unfold Vv at h;rw[z8]at h;have:=h o (zC ho);rw[ZI]at this;refine⟨this.1,fun d hd=>?_⟩;have h2:=this.2;rw[hd]at h2;simpa using h2
def Hz.finish {fr BC:ZT}(h:Hz P' P K ρ fr BC){v v':Ze}(hv:VR ρ v v')(Bn:fr.todo≠ []):Hz P' P K ρ (fr.finish v) (BC.finish v'):=by
 obtain⟨G7,MQ,HG,Vw,⟨k,hk,hl⟩,KD,SU,az,K1,aA,WL,Uu⟩:=h;obtain⟨fn,tmps,todo,defers,mode,kind,roundOf⟩:=fr;obtain⟨Rt,SV,Vx,vI,agn,yT,p_⟩:=BC;dsimp only at G7 MQ HG Vw hk hl KD SU az K1 aA WL Uu Bn;subst hk;cases hl with
 |nil=>exact absurd rfl Bn
 |cons hx ht=>
  unfold Zdr;cases hx with
  |code hc=>exact⟨G7,MQ,HG,Vw,⟨_,rfl,.cons (.code hc) ht⟩,KD,SU,az,K1,aA,WL,Uu⟩
  |inBlock id=>exact⟨G7,MQ,HG,Vw,⟨_,rfl,.cons (.inBlock id) ht⟩,KD,SU,az,K1,aA,WL,Uu⟩
  |inLoop hc=>exact⟨G7,MQ,HG,Vw,⟨_,rfl,.cons (.inLoop hc) ht⟩,KD,SU,az,K1,aA,WL,Uu⟩
  |inScope hc=>exact⟨G7,MQ,HG,Vw,⟨_,rfl,.cons (.inScope hc) ht⟩,KD,SU,az,K1,aA,WL,Uu⟩
  |inRegion is hc=>
   cases is with
   |nil=>exact⟨G7,MQ,HG,Vw,⟨_,rfl,.cons (.inRegion [] hc) ht⟩,KD,SU,az,K1,aA,WL,Uu⟩
   |cons i rest=>
    rename_i ops;refine⟨G7,MQ,HG,?_,⟨_,rfl,.cons (.inRegion rest hc) ht⟩,KD,SU,az,K1,aA,WL,fun hs=>?_⟩
    .show Qn K.dead ρ (match(ops[i]?).bind (·.dst) with|some d=>tmps.setIfInBounds d v|none=>tmps) (match(ops[i]?).bind (·.dst) with|some d=>SV.setIfInBounds d v'|none=>SV)
     generalize (ops[i]?).bind (·.dst)=od;cases od with
     |none=>exact Vw
     |some d=>exact Vw.set hv d
    .show(match(ops[i]?).bind (·.dst) with|some d=>SV.setIfInBounds d v'|none=>SV).size=_/\(∀j,_->(match(ops[i]?).bind (·.dst) with|some d=>SV.setIfInBounds d v'|none=>SV).getD j Zf=_)/\yT=_
     have Qo:∀d,(ops[i]?).bind (·.dst)=some d->K.dead d=false:=by
      intro d hd;cases ho:ops[i]? with
      |none=>rw[ho]at hd;cases hd
      |some o=>rw[ho]at hd;exact(Pe hc ho).2 d hd
     generalize (ops[i]?).bind (·.dst)=od at Qo;cases od with
     |none=>exact Uu hs
     |some d=>
      refine⟨by simpa using(Uu hs).1,fun j hj=>?_,(Uu hs).2.2⟩;have Bn:d≠j:=by
       rintro rfl;rw[Qo d rfl]at hj;cases hj
      have:=(Uu hs).2.1 j hj;simp only[Yz,Zk Bn]at this⊢;exact this
  |NV hc hs=>exact⟨G7,MQ,HG,Vw,⟨_,rfl,.cons (.Ji hc hs) ht⟩,KD,SU,az,K1,aA,WL,Uu⟩
  |Ji hc hs=>exact⟨G7,MQ,HG,Vw,⟨_,rfl,.cons (.Ji hc hs) ht⟩,KD,SU,az,K1,aA,WL,Uu⟩
  |beginRound hs=>exact⟨G7,MQ,HG,Vw,⟨_,rfl,ht⟩,KD,SU,az,K1,aA,WL,Uu⟩
def Hz.raise {fr BC:ZT}(h:Hz P' P K ρ fr BC){c c':List zn}(hc:EB (oU ρ) c c'):Hz P' P K ρ (fr.raise c) (BC.raise c'):=by
 obtain⟨G7,MQ,HG,Vw,htd,KD,SU,az,K1,aA,WL,Uu⟩:=h;obtain⟨fn,tmps,todo,defers,mode,kind,roundOf⟩:=fr;obtain⟨Rt,SV,Vx,vI,agn,yT,p_⟩:=BC;dsimp only at G7 MQ HG Vw htd KD SU az K1 aA WL Uu;unfold Za0;cases SU with
 |run=>exact⟨G7,MQ,HG,Vw,htd,KD,.panicking hc,az,K1,fun h=>⟨(aA h).1,fun x=>(by cases x),(aA h).2.2⟩,WL,Uu⟩
 |returning=>exact⟨G7,MQ,HG,Vw,htd,KD,.panicking hc,az,K1,fun h=>⟨(aA h).1,fun x=>(by cases x),(aA h).2.2⟩,WL,Uu⟩
 |panicking h=>exact⟨G7,MQ,HG,Vw,htd,KD,.panicking (hc.append h),az,K1,fun h=>⟨(aA h).1,fun x=>(by cases x),(aA h).2.2⟩,WL,Uu⟩
variable {f:ZaV}
def Ei {Q:Zp}{fn:Func}(h:Q.funcs[f]?=some fn)(hn:fn.norace=false):(Q.funcs[f]?).any (·.norace)=false:=by rw[h];exact hn
def Hz.enter (E:Env P' P ρ){f:ZaV}(hf:ρ.ok.NI f=true)(KE:ρ.sp f=false){a a':Array Ze}(ha:B1 ρ a a'):Hz P' P .whole ρ (Zq P' f a .normal) (Zq P f a' .normal):=by
 obtain⟨fn,code,h1,h2,h3,h4,h5,h6⟩:=E.NI.has f hf KE;unfold Zq;rw[h1,h2];refine⟨rfl,fun _=>⟨hf,KE⟩,⟨Ei h1 h6,Ei h2 h6⟩,?_,⟨[.code code],?_,?_⟩,⟨[],rfl,.nil⟩,.run,⟨rfl,.inl rfl⟩,trivial,fun h=>(by cases h),fun h=>(by cases h),fun h=>(by cases h)⟩
 .rw[ha.1];exact Qn.of (ha.append (BG.replicate _ (VR.undef ρ)))
 .simp[h3,Cut.whole]
 .simp only[Option.bind_some,h3,Zx]
  exact .cons (.code h4) .nil
variable {as:Code}
def Hz.vJ (E:Env P' P ρ)(hl:ρ l=some l')(hf:ρ.ok.NI f=true/\ρ.sp f=false)(ht:B1 ρ t t'){b:Code}(has:ρ.good as=true)(hb:ρ.good b=true):
  Hz P' P .whole ρ (ZdP l f t as b .normal) (ZdP l' f t' as b .normal):=by
 obtain⟨fn,code,h1,h2,h3,h4,h5,h6⟩:=E.NI.has f hf.1 hf.2;rw[E.good]at has hb;exact⟨rfl,fun _=>hf,⟨Ei h1 h6,Ei h2 h6⟩,.of ht,⟨_,(Zap _).symm,.cons (.code has) (.cons (.beginRound rfl) (.cons (.code hb) .nil))⟩,⟨[],rfl,.nil⟩,.run,⟨rfl,.inl rfl⟩,hl,fun h=>(by cases h),fun h=>(by cases h),fun h=>(by cases h)⟩
def lV (T:Twins P' P)(hB:Base P ρ)(fn:Func)(ht:B1 ρ t t'):Ao P' P False VR ρ (results fn t) (results fn t'):=by
 unfold results;refine Ac (fun σ a b=>B1 σ a b) ?_ fun σ a b _ EC=>?_
 .rw[Y5,Y5]
  refine Ac _ (Mw (ρ:=ρ) (R:=VR) (fun _ _ _ _ h=>VR.mono h) (fun τ x Dp=>?_) _ ρ (Ren.le_refl _)) fun σ a b _ EC=>?_
  .cases x with
   |tmp i=>exact Ad (VR.getD (B1.mono Dp ht) (VR.undef _) i)
   |cell i ty=>
    exact Ac _ (aP T (hB.mono Dp) (VR.getD (B1.mono Dp ht) (VR.undef _) i)) fun σ a b hle EC=>Vo T ty EC
  .exact Ad (BG.jl EC)
 .have:=EC.1
  by_cases h1:a.size=1
  .have h2:b.size=1:=by omega
   rw[dif_pos h1,dif_pos h2];exact Ad (EC.2 0 _ _ (ZC (by omega)) (ZC (by omega)))
  .have h2:¬b.size=1:=by omega
   rw[dif_neg h1,dif_neg h2];exact Ad (.tuple' EC)
end
def bm {Q:Zp}{fn:ZaV}(h:(Q.funcs[fn]?).any (·.norace)=false)(he:∀e∈es,∀f,e.loc≠ .mark (.extern f)):seen Q fn es=es:=by
 unfold seen;dsimp only;rw[h, <-Zb5];have key:∀(l:List zc) (acc:Array zc),(∀e∈l,∀f,e.loc≠ .mark (.extern f))->
   (l.foldl (fun(x:Bool×Array zc) e=>match e.loc with
    | .mark (.extern f)=>((Q.funcs[f]?).any (·.norace),x.2)
    |_=>(x.1,if(x.1&& !e.sync)=true then x.2 else x.2.push e)) (false,acc))=(false,acc++l.toArray):=by
  intro l
  induction l with
  |nil=>intro acc _;simp
  |cons e l ih=>
   intro acc hl;rw[List.foldl_cons];have he:=hl e (by simp);have:(match e.loc with
    | .mark (.extern f)=>((Q.funcs[f]?).any (·.norace),acc)
    |_=>(false,if(false&& !e.sync)=true then acc else acc.push e))=(false,acc.push e):=by
    split
    .exact absurd ‹_› (he _)
    .simp
   rw[this,ih _ fun x hx=>hl x (by simp[hx])];simp
 have:=key es.toList #[] (fun e h=>he e (by simpa using h));exact(congrArg Prod.snd this).trans (by simp)
def uu.plain (h:uu σ e e'):(∀f,e.loc≠ .mark (.extern f))/\∀f,e'.loc≠ .mark (.extern f):=by
 have hl:=h.loc;generalize e.loc=l at hl;generalize e'.loc=l' at hl;cases hl with
 |cell h=>exact⟨fun f x=>(by cases x),fun f x=>(by cases x)⟩
 |obj h=>exact⟨fun f x=>(by cases x),fun f x=>(by cases x)⟩
 |mark h=>cases h;exact⟨fun f x=>(by cases x),fun f x=>(by cases x)⟩
 |output=>exact⟨fun f x=>(by cases x),fun f x=>(by cases x)⟩
def BG.left {R:α->β->Prop}{a:Array α}{b:Array β}(h:BG R a b){x:α}(hx:x∈a):∃y∈b,R x y:=by
 obtain⟨i,hi,rfl⟩:=ZbR.1 hx;obtain⟨y,hy,hr⟩:=h.get (ZC hi);exact⟨y,zC hy,hr⟩
def BG.right {R:α->β->Prop}{a:Array α}{b:Array β}(h:BG R a b){y:β}(hy:y∈b):∃x∈a,R x y:=by
 obtain⟨i,hi,rfl⟩:=ZbR.1 hy;have Da:i<a.size:=by rw[h.1];exact hi
 exact⟨a[i],by simp,h.2 i _ _ (ZC Da) (ZC hi)⟩
structure FZ (ρ σ:Ren)(w w₁ w' w₁':Zc)(d d':Array zc):Prop where
 le:ρ.le σ
 world:WR σ w₁ w₁'
 evs:BG (uu σ) d d'
 FK:JQ False ρ σ w w₁ w' w₁' d
def FZ.refl (h:WR ρ w w'):FZ ρ ρ w w w' w' #[] #[]:=⟨Ren.le_refl _,h,BG.nil,JQ.refl _ _ _ _⟩
def FZ.trans {e agp:Array zc}(h:FZ ρ τ w w₁ w' w₁' d e)(k:FZ τ σ w₁ w₂ w₁' CN Hq agp):FZ ρ σ w w₂ w' CN (d++Hq) (e++agp):=
 ⟨Ren.le_trans h.le k.le,k.world,(BG.mono h.evs fun _ _=>uu.mono k.le).append k.evs,h.FK.trans k.FK k.le⟩
def FZ.Cc {Q:Zp}{fn:ZaV}(h:(Q.funcs[fn]?).any (·.norace)=false)(k:FZ ρ σ w w₁ w' w₁' d d'):seen Q fn d=d:=
 bm h fun _ he=>by obtain⟨y,_,hr⟩:=k.evs.left he;exact hr.plain.1
def FZ.Ej {Q:Zp}{fn:ZaV}(h:(Q.funcs[fn]?).any (·.norace)=false)(k:FZ ρ σ w w₁ w' w₁' d d'):seen Q fn d'=d':=
 bm h fun _ he=>by obtain⟨y,_,hr⟩:=k.evs.right he;exact hr.plain.2
section
variable {P' P:Zp}{ρ:Ren}{K:Cut}{α β:Type}{Q:Ren->α->β->Prop}
def DK.lock {s:Sem α}{s':Sem β}(h:DK P' P False Q ρ s s')(hw:Iw ρ w w'):
  (∃x u f,s.runT P' w #[]=(.halt x u,f)/\Hd x)\/
  (∃σ a b w₁ w₁' d d',s.runT P' w #[]=(.ok a w₁,d)/\s'.runT P w' #[]=(.ok b w₁',d')/\Q σ a b/\FZ ρ σ w w₁ w' w₁' d d'/\lD P' s w #[] (.ok a w₁) d)\/
  (∃σ v v' w₁ w₁' d d',s.runT P' w #[]=(.halt (.panic v) w₁,d)/\s'.runT P w' #[]=(.halt (.panic v') w₁',d')/\VR σ v v'/\FZ ρ σ w w₁ w' w₁' d d'/\lD P' s w #[] (.halt (.panic v) w₁) d):=by
 rcases hr:s.runT P' w #[]with⟨r,f⟩;by_cases hd:pI r
 .obtain⟨x,u,rfl,hx⟩:=hd
  exact .inl ⟨x,u,f,rfl,hx⟩
 .obtain⟨σ,r',d,d',h1,h2,h3,h4,h5,h6,h7,h8⟩:=h w w' hw #[] #[] r f hr hd
  have h2':f=d:=by simpa using h2
  have h3':s'.runT P w' #[]=(r',d'):=by simpa using h3
  subst h2';cases h4 with
  |ok hq=>exact .inr (.inl ⟨σ,_,_,_,_,f,d',rfl,h3',hq,⟨h1,h5,h6,h7⟩,h8⟩)
  |panic hv=>exact .inr (.inr ⟨σ,_,_,_,_,f,d',rfl,h3',hv,⟨h1,h5,h6,h7⟩,h8⟩)
def Ao.lock {s:Sem α}{s':Sem β}(h:Ao P' P False Q ρ s s')(hw:Iw ρ w w'):
  (∃x u f,s.runT P' w #[]=(.halt x u,f)/\Hd x)\/
  (∃σ a b w₁ w₁' d d',s.runT P' w #[]=(.ok a w₁,d)/\s'.runT P w' #[]=(.ok b w₁',d')/\Q σ a b/\FZ ρ σ w w₁ w' w₁' d d'/\lD P' s w #[] (.ok a w₁) d)\/
  (∃σ v v' w₁ w₁' d d',s.runT P' w #[]=(.halt (.panic v) w₁,d)/\s'.runT P w' #[]=(.halt (.panic v') w₁',d')/\VR σ v v'/\FZ ρ σ w w₁ w' w₁' d d'/\lD P' s w #[] (.halt (.panic v) w₁) d):=h.ok.lock hw
def qa (F:Zc->GStep)(w:Zc)(AG:Zi)(w₁:Zc)(es:Array zc):Prop:=
 ∀t:Tape,(∀i,w.drawn<=i->i<w₁.drawn->t i=w.tape i)->F {w with tape:=t}=.go AG {w₁ with tape:=t} es
def AV (fr:ZT)(cs:List ZT):Zi:= {frame:=fr,callers:=cs,status:=.running,dying:=none}
inductive Out (P' P:Zp)(K:Cut)(σ:Ren)(cs cs':List ZT):Zi->Zi->Prop
 |stay {f f':ZT} (h:Hz P' P K σ f f'):Out P' P K σ cs cs' (AV f cs) (AV f' cs')
 |push {b b' f f':ZT} (hb:Hz P' P .whole σ b b') (h:Hz P' P K σ f f') (Bn:f.todo≠ []):Out P' P K σ cs cs' (AV b (f::cs)) (AV b' (f'::cs'))
 |pop {v v':Ze} {c c':ZT} {r r':List ZT} (hs:K.seg=false) (hv:VR σ v v') (h:cs=c::r) (h':cs'=c'::r'):Out P' P K σ cs cs' (AV (c.finish v) r) (AV (c'.finish v') r')
 |WM {f:ZaV} {a a':Array Ze} {b b':ZT} (hf:σ.ok.dir f a.size=true) (hs:σ.sp f=true) (ha:B1 σ a a') (h:Hz P' P K σ b b') (Bn:b.todo≠ []):
   Out P' P K σ cs cs' (AV (Zq P' f a .normal) (b::cs)) (AV (Zq P f a' .normal) (b'::cs'))
 |raise {x x':List zn} {c c':ZT} {r r':List ZT} (hs:K.seg=false) (hx:EB (oU σ) x x') (h:cs=c::r) (h':cs'=c'::r'):Out P' P K σ cs cs' (AV (c.raise x) r) (AV (c'.raise x') r')
section
variable {R:Zp}{fr:ZT}{cs:List ZT}{s:Sem Next}{w w₁:Zc}{d:Array zc}
def K2 (hk:fr.kind≠ .early)(h:s.runT R w #[]=(.ok (.value v) w₁,d)):stepG.apply R true fr cs none s w=.go (AV (fr.finish v) cs) w₁ (seen R fr.fn d):=by
 have k1:(fr.kind==ZaR)=false:=by simpa using hk
 unfold stepG.apply;simp only[h,k1,zW,AV,if_true];simp
def MS (hk:fr.kind≠ .early)(h:s.runT R w #[]=(.ok .skip w₁,d)):stepG.apply R true fr cs none s w=.go (AV (fr.finish Zf) cs) w₁ (seen R fr.fn d):=by
 have k1:(fr.kind==ZaR)=false:=by simpa using hk
 unfold stepG.apply;simp only[h,k1,zW,AV,if_true];simp
variable {f:ZaV}
def K3 (hk:fr.kind≠ .early)(hc:∀d r s k,fr.todo≠ .call d true r s::k)(h:s.runT R w #[]=(.ok (.enter f a) w₁,d)):
  stepG.apply R true fr cs none s w=.go (AV (Zq R f a .normal) (fr::cs)) w₁ (seen R fr.fn d):=by
 have k1:(fr.kind==ZaR)=false:=by simpa using hk
 unfold stepG.apply;simp only[h,k1,zW,AV,if_true,Bool.false_eq_true,if_false];simp
variable {l l' i n r r' N:Nat}
variable {as:Code}
def K4 {b:Code}(hk:fr.kind≠ .early)(h:s.runT R w #[]=(.ok (.round l f t as b) w₁,d)):
  stepG.apply R true fr cs none s w=.go (AV (ZdP l f t as b .normal) (fr::cs)) w₁ (seen R fr.fn d):=by
 have k1:(fr.kind==ZaR)=false:=by simpa using hk
 unfold stepG.apply;simp only[h,k1,zW,AV,if_true];simp
def K5 (hk:fr.kind≠ .early)(h:s.runT R w #[]=(.halt (.panic v) w₁,d)):stepG.apply R true fr cs none s w=.go (AV (fr.raise [{v,recovered:=false}]) cs) w₁ (seen R fr.fn d):=by
 have k1:(fr.kind==ZaR)=false:=by simpa using hk
 unfold stepG.apply;simp only[h,k1,zW,AV,if_true];simp
def fF {x:Halt}(h:s.runT R w #[]=(.halt x w₁,d))(hx:Hd x):∃o u e,stepG.apply R true fr cs none s w=.ended o u e:=by
 unfold stepG.apply;simp only[h,if_true];cases x with
 |stuck s=>exact⟨_,_,_,rfl⟩
 |unsupported u=>cases u<;>first|exact hx.elim|exact⟨_,_,_,rfl⟩
 |_=>exact hx.elim
end
def Hz.abX (h:Hz P' P K ρ fr BC)(Bn:fr.todo≠ []):(∀d r s k,fr.todo≠ .call d true r s::k)/\∀d r s k,BC.todo≠ .call d true r s::k:=by
 obtain⟨k,hk,hl⟩:=h.todo;rw[hk];generalize fr.todo=l at hl Bn;cases hl with
 |nil=>exact absurd rfl Bn
 |cons hx ht=>cases hx<;>exact⟨fun _ _ _ _ x=>(by cases x),fun _ _ _ _ x=>(by cases x)⟩
variable {cs cs' L L' Jj:List ZT}
def Pf (E:Env P' P ρ)(hF:Hz P' P K ρ fr BC)(Bn:fr.todo≠ []){s s':Sem Next}(hs:DK P' P False eC ρ s s')(hw:Iw ρ w w')
 (h:∀o u e,stepG.apply P' true fr cs none s w≠ .ended o u e):
  ∃AG w₁ es,stepG.apply P' true fr cs none s w=.go AG w₁ es/\∃σ w₁' Dj BH,FZ ρ σ w w₁ w' w₁' es BH/\stepG.apply P true BC cs' none s' w'=.go Dj w₁' BH/\Out P' P K σ cs cs' AG Dj/\qa (stepG.apply P' true fr cs none s) w AG w₁ es:=by
 have n2:(P.funcs[BC.fn]?).any (·.norace)=false:=by rw[hF.fn];exact hF.loud.2
 have nc:=hF.abX Bn;rcases hs.lock hw with⟨x,u,f,hr,hx⟩|⟨σ,a,b,w₂,CN,d,d',e1,e2,hq,L,hc⟩|⟨σ,v,v',w₂,CN,d,d',e1,e2,hv,L,hc⟩
 .obtain⟨o,u,e,he⟩:=fF (fr:=fr) (cs:=cs) hr hx
  exact(h _ _ _ he).elim
 .have E':=E.mono L.le
  have F':=hF.mono L.le;have s1:=L.Cc hF.loud.1;have s2:=L.Ej n2;cases hq with
  |value hv=>
   exact⟨_,_,_,by rw[K2 hF.ux e1,s1],σ,CN,_,_,L,by rw[K2 hF.ne2 e2,s2],.stay (F'.finish hv Bn),fun t ht=>by rw[K2 hF.ux (hc t ht),s1]⟩
  |skip=>
   exact⟨_,_,_,by rw[MS hF.ux e1,s1],σ,CN,_,_,L,by rw[MS hF.ne2 e2,s2],.stay (F'.finish (VR.undef _) Bn),fun t ht=>by rw[MS hF.ux (hc t ht),s1]⟩
  | @enter f a a' hf ha=>
   refine⟨_,_,_,by rw[K3 hF.ux nc.1 e1,s1],σ,CN,_,_,L,by rw[K3 hF.ne2 nc.2 e2,s2],?_,fun t ht=>by rw[K3 hF.ux nc.1 (hc t ht),s1]⟩;rcases hf with hf|hf
   .exact .push (Hz.enter E' (E'.NI.val f hf).1 (E'.NI.val f hf).2 ha) F' Bn
   .rcases E'.NI.dir f _ hf with hs|hs
    .exact .push (Hz.enter E' hs.1 hs.2 ha) F' Bn
    .exact .WM hf hs ha F' Bn
  |round hl hf ht has hb=>
   exact⟨_,_,_,by rw[K4 hF.ux e1,s1],σ,CN,_,_,L,by rw[K4 hF.ne2 e2,s2],.push (Hz.vJ E' hl hf ht has hb) F' Bn,fun t hz=>by rw[K4 hF.ux (hc t hz),s1]⟩
 .exact⟨_,_,_,by rw[K5 hF.ux e1,L.Cc hF.loud.1],σ,CN,_,_,L,by rw[K5 hF.ne2 e2,L.Ej n2],.stay ((hF.mono L.le).raise (.cons ⟨hv,rfl,rfl,rfl,rfl⟩ .nil)),fun t ht=>by rw[K5 hF.ux (hc t ht),L.Cc hF.loud.1]⟩
end
section
variable {Q:Zp}{fr:ZT}{cs:List ZT}{w w₁:Zc}{d:Array zc}{m:Bool}
inductive E0:List Item->List Item->Prop
 |skip {k:List Item}:E0 (.code .skip::k) k
 |inBlock {id:Nat} {k:List Item}:E0 (.inBlock id::k) k
 |label {l:Nat} {k:List Item}:E0 (.code (.label l)::k) k
 |inScope {b:Code} {k:List Item}:E0 (.inScope b::k) k
 |scope {b:Code} {k:List Item}:E0 (.code (.scope b)::k) (.code b:: .inScope b::k)
 |seq {a b:Code} {k:List Item}:E0 (.code (.seq a b)::k) (.code a:: .code b::k)
 |block {id:Nat} {b:Code} {k:List Item}:E0 (.code (.block id b)::k) (.code b:: .inBlock id::k)
 |loop {b:Code} {k:List Item}:E0 (.code (.loop b)::k) (.code b:: .inLoop b::k)
 |inLoop {b:Code} {k:List Item}:E0 (.inLoop b::k) (.code b:: .inLoop b::k)
 |exit {id:Nat} {k k':List Item} (h:ZbB id k=some k'):E0 (.code (.exit id)::k) k'
 |SW {ops:Array Oper} {k:List Item}:E0 (.inRegion ops []::k) k
 |region {id:Nat} {ops:Array Oper} {k:List Item}:E0 (.code (.region id ops false)::k) (.inRegion ops (ZL ops.size)::k)
def Qp {t:List Item}(h:E0 fr.todo t):stepG.exec Q m true fr cs none w=.go (AV {fr with todo:=t} cs) w #[]:=by
 unfold stepG.exec;generalize ht:fr.todo=l at h;cases h with
 |exit hx=>simp[-zk,AV,hx]
 |_=>simp[-zk,AV]
variable {k:List Item}
def Vy {c:ZbX}{a b:Code}{v:Bool}(ht:fr.todo=.code (.cond c a b)::k)(hv:fr.eval c=.bool v):
  stepG.exec Q m true fr cs none w=.go (AV {fr with todo:=.code (if v then a else b)::k} cs) w #[]:=by
 unfold stepG.exec;simp[-zk,ht,hv,AV]
def SX {c:ZbX}{a b:Code}(ht:fr.todo=.code (.cond c a b)::k)(hv:∀v,fr.eval c≠ .bool v):∃o u e,stepG.exec Q m true fr cs none w=.ended o u e:=by
 unfold stepG.exec;simp only[ht];exact⟨_,_,_,rfl⟩
inductive Leaves:List Item->Option Code->Prop
 |done:Leaves [] none
 |ret {k:List Item}:Leaves (.code .ret::k) (some .ret)
 |exit {id:Nat} {k:List Item} (h:ZbB id k=none):Leaves (.code (.exit id)::k) (some (.exit id))
variable {j:Option Code}
variable {l l' i n r r' N:Nat}
def F0 {r:List ZT}(hk:fr.kind=.normal)(hl:Leaves fr.todo j)(hr:fr.roundOf=some l)(he:(ZaZ l j).runT Q w #[]=(.ok v w₁,d)):
  stepG.exec Q m true fr (c::r) none w=.go (AV (c.finish v) r) w₁ (seen Q fr.fn d):=by
 unfold stepG.exec;generalize ht:fr.todo=l at hl;cases hl with
 |exit hx=>simp[-zk,AV,hx,hr,he,zW,doReturn,hk]
 |_=>simp[-zk,AV,hr,he,zW,doReturn,hk]
def Kq {x:Halt}(hl:Leaves fr.todo j)(hr:fr.roundOf=some l)(he:(ZaZ l j).runT Q w #[]=(.halt x w₁,d)):
  ∃o u e,stepG.exec Q m true fr cs none w=.ended o u e:=by
 unfold stepG.exec;generalize ht:fr.todo=l at hl;cases hl with
 |exit hx=>simp[-zk,hx,hr,he,zW]
 |_=>simp[-zk,hr,he,zW]
def GU (hl:Leaves fr.todo j)(hr:fr.roundOf=none)(hj:j=none\/j=some .ret):stepG.exec Q m true fr cs none w=.go (AV {fr with mode:=.returning} cs) w #[]:=by
 unfold stepG.exec;generalize ht:fr.todo=l at hl;cases hl with
 |exit hx=>rcases hj with h|h<;>cases h
 |_=>simp[-zk,AV,hr]
def Kr {id:Nat}(hl:Leaves fr.todo (some (.exit id)))(hr:fr.roundOf=none):∃o u e,stepG.exec Q m true fr cs none w=.ended o u e:=by
 unfold stepG.exec;generalize ht:fr.todo=l at hl;cases hl with
 |exit hx=>simp[-zk,hx,hr]
variable {ops:Array Oper}
def Pg {id:Nat}{t:Nat}(ht:fr.todo=.code (.region id ops true)::k)(he:(choose (.order fr.fn id)).runT Q w #[]=(.ok t w₁,d)):
  stepG.exec Q m true fr cs none w=.go (AV {fr with todo:=.inRegion ops (Region.schedule (Q.follows .mixedOrders) ops t)::k} cs) w₁ #[]:=by
 have he':(choose (.order fr.fn id)).run Q w=.ok t w₁:=by
  have:=congrArg Prod.fst he;simpa[Sem.run]using this
 unfold stepG.exec;simp[-zk,ht,he',AV]
def WN {is:List Nat}{o:Oper}(ht:fr.todo=.inRegion ops (i::is)::k)(ho:ops[i]?=some o)(hw:Ym o (yielded ops fr.tmps)=true)(hd:∀c,o.op≠ .defer c):
  stepG.exec Q m true fr cs none w=stepG.apply Q true fr cs none (ZbE fr.eval o) w:=by
 unfold stepG.exec;simp only[ht,ho,hw,Zdz,Zx,if_true];unfold stepG.oper Frame.oper?;simp only[ht,ho];split
 .exact absurd ‹_› (hd _)
 .rfl
def Gh {is:List Nat}(ht:fr.todo=.inRegion ops (i::is)::k)(hw:((ops[i]?).map (Ym · (yielded ops fr.tmps))).getD false=false):
  stepG.exec Q m true fr cs none w=.go (AV (fr.finish Zf) cs) w #[]:=by
 unfold stepG.exec;simp[-zk,ht,hw,AV]
def MT (ht:fr.todo=.beginRound::k):
  stepG.exec Q m true fr cs none w=stepG.apply Q true fr cs none (do fr.roundOf.elim (stuck "beginRound: no round") ZaG;pure .skip) w:=by
 unfold stepG.exec;simp only[ht]
def IX (ht:fr.todo=.endRangeFunc l::k)(he:(ZaH l).runT Q w #[]=(.ok j w₁,d)):
  stepG.exec Q m true fr cs none w=.go (AV {fr with todo:=(j.map Item.code).toList++k} cs) w₁ (seen Q fr.fn d):=by
 unfold stepG.exec;simp[-zk,ht,he,AV,zW]
def ED (ht:fr.todo=.endRangeFunc l::k)(he:(ZaH l).runT Q w #[]=(.halt (.panic v) w₁,d)):
  stepG.exec Q m true fr cs none w=.go (AV (fr.raise [{v,recovered:=false}]) cs) w₁ (seen Q fr.fn d):=by
 unfold stepG.exec;simp[-zk,ht,he,AV,zW]
def MU {x:Halt}(ht:fr.todo=.endRangeFunc l::k)(he:(ZaH l).runT Q w #[]=(.halt x w₁,d))(hx:Hd x):
  ∃o u e,stepG.exec Q m true fr cs none w=.ended o u e:=by
 unfold stepG.exec;cases x<;>first|exact hx.elim|simp[-zk,ht,he,zW]
def WO (ht:fr.todo=.inRangeFunc l::k):∃o u e,stepG.exec Q m true fr cs none w=.ended o u e:=by
 unfold stepG.exec;simp[-zk,ht]
def rangeCall (f:ZbX)(l:Nat):Call:= {callee:=.value f,args:= #[.const (.func (.yield l) #[] #[])],argTypes:= #[]}
variable {ps:Array Tmp}
def JX {f:ZbX}{a b:Code}{mk:List Deferred}(ht:fr.todo=.code (.rangeFunc f ps a b)::k)
 (he:(Zag fr.fn fr.tmps ps a b fr.roundOf).runT Q w #[]=(.ok (l,mk) w₁,d)):
  stepG.exec Q m true fr cs none w=zW (seen Q fr.fn d) (stepG.apply Q true {fr with todo:=.inRangeFunc l::k,defers:=mk++fr.defers} cs none
   (do let d <-Zbp fr.eval (rangeCall f l) 0;invoke d.target d.args) w₁):=by
 unfold stepG.exec;simp only[ht,he]
 rfl
def Ks {f:ZbX}{a b:Code}{x:Halt}(ht:fr.todo=.code (.rangeFunc f ps a b)::k)
 (he:(Zag fr.fn fr.tmps ps a b fr.roundOf).runT Q w #[]=(.halt x w₁,d)):∃o u e,stepG.exec Q m true fr cs none w=.ended o u e:=by
 unfold stepG.exec;simp[-zk,ht,he,zW]
variable {ds:List Deferred}
def Ew {b:Nat}{calls:List Deferred}(ht:fr.defers= {target:=.collected b,args:=a}::ds)(he:(YF b).runT Q w #[]=(.ok calls w₁,d)):
  unwind Q m fr cs none w=.go (AV {fr with defers:=calls++ds} cs) w₁ (seen Q fr.fn d):=by
 unfold unwind;simp[-zk,ht,he,zW,AV]
def D8 {b:Nat}{x:Halt}(ht:fr.defers= {target:=.collected b,args:=a}::ds)(he:(YF b).runT Q w #[]=(.halt x w₁,d)):
  ∃o u e,unwind Q m fr cs none w=.ended o u e:=by
 unfold unwind;simp[-zk,ht,he,zW]
def D4 {fn:Func}{r:List ZT}(ht:fr.defers=[])(hm:fr.mode=.returning)(hk:fr.kind=.normal)(hf:Q.funcs[fr.fn]?=some fn)(he:(results fn fr.tmps).runT Q w #[]=(.ok v w₁,d)):
  unwind Q m fr (c::r) none w=.go (AV (c.finish v) r) w₁ (seen Q fr.fn d):=by
 unfold unwind;simp[-zk,ht,hm,hf,he,zW,AV,doReturn,hk]
def HI {fn:Func}{x:Halt}(ht:fr.defers=[])(hm:fr.mode=.returning)(hf:Q.funcs[fr.fn]?=some fn)(he:(results fn fr.tmps).runT Q w #[]=(.halt x w₁,d)):
  ∃o u e,unwind Q m fr cs none w=.ended o u e:=by
 unfold unwind;simp only[ht,hm,hf,he];split<;>simp_all[zW]
def WQ {ch:List zn}{r:List ZT}(ht:fr.defers=[])(hm:fr.mode=.panicking ch):(∀w,∃o u e,unwind Q m fr (c::r) none w=.ended o u e)\/∀w,unwind Q m fr (c::r) none w=.go (AV (c.raise ch) r) w #[]:=by
 unfold unwind;simp only[ht,hm];split
 .exact .inl fun _=>⟨_,_,_,rfl⟩
 .exact .inr fun _=>rfl
def Dd {ch:List zn}{r:List ZT}{fn:Func}(ht:fr.defers=[])(hm:fr.mode=.panicking ch)(hf:Q.funcs[fr.fn]?=some fn):unwind Q m fr (c::r) none w=.go (AV (c.raise ch) r) w #[]:=by
 unfold unwind Frame.catches;simp[-zk,ht,hm,hf,AV]
end
section
variable {P' P:Zp}{ρ:Ren}{K:Cut}
variable {k:List Item}
def Hz.Vx (h:Hz P' P K ρ fr BC){l:List Item}(hl:EB (UM P K ρ) l k):Hz P' P K ρ {fr with todo:=l} {BC with todo:=k++K.tail}:=
 ⟨h.fn,h.src,h.loud,h.tmps,⟨k,rfl,hl⟩,h.defers,h.mode,h.kind,h.round,h.part,h.flat,h.Aw⟩
variable {j:Option Code}
def Leaves.kinds {l:List Item}(h:Leaves l j):j=none\/j=some .ret\/∃id,j=some (.exit id):=by
 cases h with
 |done=>exact .inl rfl
 |ret=>exact .inr (.inl rfl)
 |exit h=>exact .inr (.inr ⟨_,rfl⟩)
def fG {id:Nat}{l:List Item}(h:EB (UM P K ρ) l k)(t:List Item):(ZbB id l=none)\/∃l' k',ZbB id l=some l'/\ZbB id (k++t)=some (k'++t)/\EB (UM P K ρ) l' k':=by
 induction h with
 |nil=>exact .inl rfl
 | @cons x y l k hx ht ih=>
  cases hx with
  |inBlock i=>
   rw[Za7];unfold ZbB;by_cases e:(i==id)=true
   .simp only[e,if_true]
    exact .inr ⟨l,k,rfl,rfl,ht⟩
   .simp only[e]
    rcases ih with h|⟨l',k',h1,h2,h3⟩
    .exact .inl h
    .exact .inr ⟨l',k',h1,h2,h3⟩
  |_=>
   rw[Za7];unfold ZbB;rcases ih with h|⟨l',k',h1,h2,h3⟩
   .exact .inl h
   .exact .inr ⟨l',k',h1,h2,h3⟩
def bn {id:Nat}{l:List Item}(h:EB (UM P K ρ) l k)(hn:ZbB id l=none):ZbB id k=none:=by
 induction h with
 |nil=>rfl
 | @cons x y l k hx ht ih=>
  cases hx with
  |inBlock i=>
   unfold ZbB at hn⊢;by_cases e:(i==id)=true
   .simp only[e,if_true]at hn;cases hn
   .simp only[e]at hn⊢
    exact ih hn
  |_=>
   unfold ZbB at hn⊢;exact ih hn
variable {dead:Nat->Bool}
variable {ops:Array Oper}
def bp {ok:Qd}(ho:Vv P ok dead ops=true)(h:Qn dead ρ t t'):yielded ops t=yielded ops t':=by
 funext j
 unfold yielded;cases hj:ops[j]? with
 |none=>rfl
 |some o=>
  cases hd:o.dst with
  |none=>simp[hd]
  |some d=>
   have Qo:=(Pe ho hj).2 d hd;simp only[Option.bind_some,hd];cases hx:t[d]? with
   |none=>
    have:t'[d]?=none:=by rw[Za2]at*;rw[<-h.size];exact hx
    rw[this]
   |some x=>
    obtain⟨hi,_⟩:=Za.1 hx;have Da:d<t'.size:=h.size▸hi;rw[ZC Da];have:=h.at_ d _ _ Qo hx (ZC Da);generalize t'[d]=y at this;cases this<;>first|rfl|(rename_i hy;cases y<;>first|(cases hy;done)|rfl)
def agr (P' P:Zp)(K:Cut)(ρ:Ren)(cs cs':List ZT)(w w':Zc)(AG:Zi)(w₁:Zc)(es:Array zc)(F:Zc->GStep)(s:GStep):Prop:=
 ∃σ w₁' Dj BH,FZ ρ σ w w₁ w' w₁' es BH/\s=.go Dj w₁' BH/\Out P' P K σ cs cs' AG Dj/\qa F w AG w₁ es
def Does (P' P:Zp)(K:Cut)(ρ:Ren)(cs cs':List ZT)(w w':Zc)(F:Zc->GStep)(s:GStep):Prop:=
 ∃AG w₁ es,F w=.go AG w₁ es/\agr P' P K ρ cs cs' w w' AG w₁ es F s
variable {cs cs' L L' Jj:List ZT}
def Fv {f f':ZT}(hw:Iw ρ w w'){F:Zc->GStep}{s':GStep}(hl:∀w,F w=.go (AV f cs) w #[])(hr:s'=.go (AV f' cs') w' #[])(hF:Hz P' P K ρ f f'):
  Does P' P K ρ cs cs' w w' F s':=by
 exact⟨_,_,_,hl w,ρ,w',_,_,FZ.refl hw.wr,hr,.stay hF,fun t _=>hl _⟩
def qc (T:Twins P' P)(E:Env P' P ρ)(hd:BW<=P.depth)(hK:K.seg=false->K.Full)(hF:Hz P' P K ρ fr BC)(_hrun:fr.mode=.run)
 (By:K.seg=true->fr.todo≠ []) (hcs:cs≠ []) (K6:cs'≠ []\/fr.roundOf=none) (hw:Iw ρ w w') {m m':Bool} (h:∀o u e,stepG.exec P' m true fr cs none w≠ .ended o u e):Does P' P K ρ cs cs' w w' (stepG.exec P' m true fr cs none) (stepG.exec P m' true BC cs' none w'):=by
 have n2:(P.funcs[BC.fn]?).any (·.norace)=false:=by rw[hF.fn];exact hF.loud.2
 obtain⟨k,hk,hl⟩:=hF.todo;have leave:∀(j:Option Code),K.seg=false->Leaves fr.todo j->Leaves BC.todo j->(∀c,j=some c->ρ.good c=true)->Does P' P K ρ cs cs' w w' (stepG.exec P' m true fr cs none) (stepG.exec P m' true BC cs' none w'):=by
  intro j KF h1 h2 hj;have K1:=hF.round;cases e:fr.roundOf with
  |none=>
   have e':BC.roundOf=none:=by rw[e]at K1;cases e':BC.roundOf with
    |none=>rfl
    |some x=>rw[e']at K1;exact K1.elim
   by_cases qd:j=none\/j=some .ret
   .refine Fv hw (fun _=>GU h1 e qd) (GU h2 e' qd) ?_
    exact⟨hF.fn,hF.src,hF.loud,hF.tmps,hF.todo,hF.defers,.returning,hF.kind,hF.round,fun x=>(by rw[KF]at x;cases x),hF.flat,hF.Aw⟩
   .exfalso
    rcases h1.kinds with hj|hj|⟨id,hj⟩
    .exact qd (.inl hj)
    .exact qd (.inr hj)
    .subst hj
     obtain⟨o,u,e2,he⟩:=Kr (Q:=P') (cs:=cs) (w:=w) (m:=m) h1 e;exact(h _ _ _ he).elim
  |some l=>
   obtain⟨l',e',Rx⟩:∃l',BC.roundOf=some l'/\ρ l=some l':=by
    rw[e]at K1;cases e':BC.roundOf with
    |none=>rw[e']at K1;exact K1.elim
    |some x=>rw[e']at K1;exact⟨x,rfl,K1⟩
   obtain⟨c,r,rfl⟩:=Zao hcs;obtain⟨c',r',rfl⟩:=Zao (K6.resolve_right (by rw[e];intro x;cases x));rcases(fE (P':=P') (P:=P) (fz:=False) Rx j hj).lock hw with⟨x,u,f,hr,hx⟩|⟨σ,a,b,w₂,CN,d,d',e1,e2,hq,L,hc⟩|⟨σ,v,v',w₂,CN,d,d',e1,e2,hv,L,hc⟩
   .obtain⟨o,u2,e3,he⟩:=Kq (cs:=c::r) (m:=m) h1 e hr
    exact(h _ _ _ he).elim
   .exact⟨_,_,_,by rw[F0 hF.kind.1 h1 e e1,L.Cc hF.loud.1],σ,CN,_,_,L,by rw[F0 (hF.p9 KF) h2 e' e2,L.Ej n2],.pop KF hq rfl rfl,fun t hz=>by rw[F0 hF.kind.1 h1 e (hc t hz),L.Cc hF.loud.1]⟩
   .obtain⟨o,u2,e3,he⟩:=Kq (cs:=c::r) (m:=m) h1 e e1
    exact(h _ _ _ he).elim
 have silent:∀(t k':List Item),E0 fr.todo t->E0 BC.todo (k'++K.tail)->EB (UM P K ρ) t k'->Does P' P K ρ cs cs' w w' (stepG.exec P' m true fr cs none) (stepG.exec P m' true BC cs' none w'):=fun t k' h1 h2 ht=>
  Fv hw (fun _=>Qp h1) (Qp h2) (hF.Vx ht)
 cases ht:fr.todo with
 |nil=>
  have KF:K.seg=false:=by
   cases hs:K.seg with
   |false=>rfl
   |true=>exact absurd ht (By hs)
  rw[ht]at hl;cases hl;refine leave none KF (by rw[ht];exact .done) ?_ (fun c x=>by cases x);rw[hk,(hK KF).1];exact .done
 |cons x l=>
  rw[ht]at hl;cases hl with
  | @cons _ y _ kl hx AA=>
   have JY:BC.todo=y::(kl++K.tail):=hk;cases hx with
   |inBlock id=>exact silent l kl (by rw[ht];exact .inBlock) (by rw[JY];exact .inBlock) AA
   | @inLoop b hb=>exact silent _ (.code b:: .inLoop b::kl) (by rw[ht];exact .inLoop) (by rw[JY];exact .inLoop) (.cons (.code hb) (.cons (.inLoop hb) AA))
   |inScope hb=>exact silent l kl (by rw[ht];exact .inScope) (by rw[JY];exact .inScope) AA
   | @inRegion ops is ho=>
    cases is with
    |nil=>exact silent l kl (by rw[ht];exact .SW) (by rw[JY];exact .SW) AA
    |cons i is=>
     have hy:=bp ho hF.tmps;cases hi:ops[i]? with
     |none=>
      refine Fv hw (fun _=>Gh ht (by rw[hi];rfl)) (Gh JY (by rw[hi];rfl)) (hF.finish (VR.undef _) (by rw[ht];intro x;cases x))
     |some o=>
      obtain⟨jE,qe⟩:=Pe ho hi;cases hwn:Ym o (yielded ops fr.tmps) with
      |false=>
       exact Fv hw (fun _=>Gh ht (by rw[hi];simpa using hwn)) (Gh JY (by rw[hi, <-hy];simpa using hwn)) (hF.finish (VR.undef _) (by rw[ht];intro x;cases x))
      |true=>
       have hnd:∀c,o.op≠ .defer c:=by
        intro c hc;rw[hc]at jE;cases jE
       have G7:stepG.exec P' m true fr cs none=stepG.apply P' true fr cs none (ZbE fr.eval o):=funext fun w=>WN ht hi hwn hnd;rw[WN ht hi hwn hnd]at h;rw[WN JY hi (by rw[<-hy];exact hwn) hnd,G7];exact Pf E hF (by rw[ht];intro x;cases x) (pZ T E.base E.NI.same hd hF.tmps jE) hw h
   |NV Kt hs=>
    obtain⟨o,u,e,he⟩:=WO (Q:=P') (cs:=cs) (w:=w) (m:=m) ht;exact(h _ _ _ he).elim
   | @Ji lo lo' Kt hs=>
    rcases(lQ T (fz:=False) E.base Kt).lock hw with⟨x,u,f,hr,hx⟩|⟨σ,a,b,w₂,CN,d,d',e1,e2,⟨rfl,hq⟩,L,hc⟩|⟨σ,v,v',w₂,CN,d,d',e1,e2,hv,L,hc⟩
    .obtain⟨o,u2,e3,he⟩:=MU (cs:=cs) (m:=m) ht hr hx
     exact(h _ _ _ he).elim
    .refine⟨_,_,_,by rw[IX ht e1,L.Cc hF.loud.1],σ,CN,_,_,L,by rw[IX JY e2,L.Ej n2],.stay ?_,fun t hz=>by rw[IX ht (hc t hz),L.Cc hF.loud.1]⟩
     rw[<-Zah];refine(hF.mono L.le).Vx (EB.append ?_ (AA.mono fun _ _=>UM.mono L.le));cases a with
     |none=>exact .nil
     |some c=>
      have:=hq c rfl;rw[(E.mono L.le).good]at this;refine .cons (.code ?_) .nil;rw[(hK hs).2.2,hs];exact this
    .exact⟨_,_,_,by rw[ED ht e1,L.Cc hF.loud.1],σ,CN,_,_,L,by rw[ED JY e2,L.Ej n2],.stay ((hF.mono L.le).raise (.cons ⟨hv,rfl,rfl,rfl,rfl⟩ .nil)),fun t hz=>by rw[ED ht (hc t hz),L.Cc hF.loud.1]⟩
   |beginRound hs=>
    have G7:stepG.exec P' m true fr cs none=stepG.apply P' true fr cs none (do fr.roundOf.elim (stuck "beginRound: no round") ZaG;pure .skip):=funext fun w=>MT ht;rw[MT ht]at h;rw[MT JY,G7];refine Pf E hF (by rw[ht];intro x;cases x) (Ao.ok ?_) hw h;have K1:=hF.round;cases e:fr.roundOf with
    |none=>exact CK
    |some lo=>
     cases e':BC.roundOf with
     |none=>rw[e,e']at K1;exact K1.elim
     |some lo'=>
      rw[e,e']at K1;exact Ac _ (WK T E.base K1) fun _ _ _ _ _=>Ad .skip
   | @code c hc=>
    cases c with
    |skip=>exact silent l kl (by rw[ht];exact .skip) (by rw[JY];exact .skip) AA
    |region id ops draw=>
     have ho:Vv P ρ.ok K.dead ops=true:=hc;cases draw with
     |false=>exact silent _ (.inRegion ops (ZL ops.size)::kl) (by rw[ht];exact .region) (by rw[JY];exact .region) (.cons (.inRegion _ ho) AA)
     |true=>
      have hq:Ao P' P False Gp ρ (choose (.order fr.fn id)) (choose (.order BC.fn id)):=by rw[hF.fn];exact Hs _
      have ev:∀(Q:Zp) (q:Question) (u:Zc),((choose q).runT Q u #[]).2= #[]:=by
       intro Q q u;unfold choose;rw[ZM];split<;>(unfold ZM;rfl)
      rcases hq.lock hw with⟨x,u,f,hr,hx⟩|⟨σ,a,b,w₂,CN,d,d',e1,e2,EC,L,hcc⟩|⟨σ,v,v',w₂,CN,d,d',e1,e2,hv,L,hc⟩
      .exfalso
       unfold choose at hr;rw[ZM]at hr;split at hr<;>(unfold ZM at hr;cases hr)
      .cases EC
       have d1:d= #[]:=by have:=ev P' (.order fr.fn id) w;rw[e1]at this;exact this
       have d2:d'= #[]:=by have:=ev P (.order BC.fn id) w';rw[e2]at this;exact this
       subst d1 d2;refine⟨_,_,_,Pg ht e1,σ,CN,_,_,L,Pg JY e2,.stay ?_,fun t hz=>Pg ht (hcc t hz)⟩;have:P'.follows .mixedOrders=P.follows .mixedOrders:=by unfold Tables.follows;rw[T.tables]
       rw[this];exact(hF.mono L.le).Vx (k:=.inRegion ops _::kl) (.cons (.inRegion _ (by rw[L.le.2.1];exact ho)) (AA.mono fun _ _=>UM.mono L.le))
      .exfalso
       unfold choose at e1;rw[ZM]at e1;split at e1<;>(unfold ZM at e1;cases e1)
    |seq a b=>
     have EC:Bi P ρ.ok K.dead K.seg a=true/\Bi P ρ.ok K.dead K.seg b=true:=by simpa[Bi]using hc
     exact silent _ (.code a:: .code b::kl) (by rw[ht];exact .seq) (by rw[JY];exact .seq) (.cons (.code EC.1) (.cons (.code EC.2) AA))
    |cond c a b=>
     have EC:(lS P.globals.size ρ.ok K.dead c=true/\Bi P ρ.ok K.dead K.seg a=true)/\Bi P ρ.ok K.dead K.seg b=true:=by simpa[Bi]using hc
     have hv:=MP E.base hF.tmps EC.1.1;by_cases hb:∃v,fr.eval c=.bool v
     .obtain⟨v,hvv⟩:=hb
      have amY:BC.eval c=.bool v:=by
       rw[hvv]at hv;generalize BC.eval c=y at hv;cases hv;rfl
      refine Fv hw (fun _=>Vy ht hvv) (Vy JY amY) ?_;refine hF.Vx (k:=.code (if v then a else b)::kl) (.cons (.code ?_) AA);cases v
      .exact EC.2
      .exact EC.1.2
     .obtain⟨o,u,e,he⟩:=SX (Q:=P') (cs:=cs) (w:=w) (m:=m) ht (fun v hv=>hb ⟨v,hv⟩)
      exact(h _ _ _ he).elim
    |block id b=>exact silent _ (.code b:: .inBlock id::kl) (by rw[ht];exact .block) (by rw[JY];exact .block) (.cons (.code hc) (.cons (.inBlock id) AA))
    |loop b=>exact silent _ (.code b:: .inLoop b::kl) (by rw[ht];exact .loop) (by rw[JY];exact .loop) (.cons (.code hc) (.cons (.inLoop hc) AA))
    |label id=>exact silent l kl (by rw[ht];exact .label) (by rw[JY];exact .label) AA
    |scope b=>exact silent _ (.code b:: .inScope b::kl) (by rw[ht];exact .scope) (by rw[JY];exact .scope) (.cons (.code hc) (.cons (.inScope hc) AA))
    |exit id=>
     rcases fG (id:=id) AA K.tail with hn|⟨l',k',h1,h2,h3⟩
     .cases hs:K.seg with
      |false=>
       refine leave (some (.exit id)) hs (by rw[ht];exact .exit hn) ?_ (fun c x=>by cases x;rw[E.good];rfl);rw[JY];refine .exit ?_;rw[(hK hs).1];show ZbB id (kl++ [])=none;rw[Zap];exact bn AA hn
      |true=>
       obtain⟨o,u,e,he⟩:=Kr (Q:=P') (cs:=cs) (w:=w) (m:=m) (id:=id) (by rw[ht];exact .exit hn) (hF.part hs).1;exact(h _ _ _ he).elim
     .exact silent l' k' (by rw[ht];exact .exit h1) (by rw[JY];exact .exit h2) h3
    |ret=>
     have hs:K.seg=false:=by simpa[Bi]using hc
     exact leave (some .ret) hs (by rw[ht];exact .ret) (by rw[JY];exact .ret) (fun c x=>by cases x;rw[E.good];rfl)
    |rangeFunc f ps a b=>
     have EC:((K.seg=false/\lS P.globals.size ρ.ok K.dead f=true)/\Bi P ρ.ok K.dead K.seg a=true)/\Bi P ρ.ok K.dead K.seg b=true:=by simpa[Bi]using hc
     obtain⟨⟨⟨hs,hf⟩,ha⟩,hb⟩:=EC;have uy:=hK hs;have Vw:B1 ρ fr.tmps BC.tmps:=Qn.all (by have:=hF.tmps;rw[uy.2.2]at this;exact this);rw[uy.2.2,hs]at ha hb;have hen:Ao P' P False (fun σ p p'=>σ p.1=some p'.1/\EB (jm σ) p.2 p'.2) ρ (Zag fr.fn fr.tmps ps a b fr.roundOf) (Zag BC.fn BC.tmps ps a b BC.roundOf):=by
      rw[hF.fn];exact bh (hF.src hs) Vw ps (by rw[E.good];exact ha) (by rw[E.good];exact hb) hF.round
     rcases hen.lock hw with⟨x,u,f',hr,hx⟩|⟨σ,p,p',w₂,CN,d,d',e1,e2,⟨qf,WS⟩,L,hcc⟩|⟨σ,v,v',w₂,CN,d,d',e1,e2,hv,L,hc⟩
     .obtain⟨o,u2,e3,he⟩:=Ks (cs:=cs) (m:=m) ht hr
      exact(h _ _ _ he).elim
     .obtain⟨qg,mk⟩:=p
      obtain⟨jF,mk'⟩:=p';dsimp only at qf WS;rw[JX ht e1,L.Cc hF.loud.1]at h;rw[JX JY e2,L.Ej n2];have abY:=E.mono L.le;have IY:=hF.mono L.le;have amZ:Hz P' P K σ {fr with todo:=.inRangeFunc qg::l,defers:=mk++fr.defers} {BC with todo:=.inRangeFunc jF::(kl++K.tail),defers:=mk'++BC.defers}:=by
       obtain⟨dd,hd1,vK⟩:=IY.defers;refine⟨IY.fn,IY.src,IY.loud,IY.tmps,⟨.inRangeFunc jF::kl,rfl,.cons (.NV qf hs) (AA.mono fun _ _=>UM.mono L.le)⟩,⟨mk'++dd,?_,WS.append vK⟩,IY.mode,IY.kind,IY.round,fun x=>(by rw[hs]at x;cases x),IY.flat,IY.Aw⟩;show mk'++BC.defers=_;rw[hd1,Zah]
      have bq:Ao P' P False eC σ (do let d <-Zbp fr.eval (rangeCall f qg) 0;invoke d.target d.args) (do let d <-Zbp BC.eval (rangeCall f jF) 0;invoke d.target d.args):=by
       have hfe:=(MP E.base hF.tmps hf).mono L.le;have hy:VR σ (.func (.yield qg) #[] #[]) (.func (.yield jF) #[] #[]):=.aL (.yield qf) BG.nil BG.nil;by_cases hnu:fr.eval f=yI
       .have e:(do let d <-Zbp fr.eval (rangeCall f qg) 0;invoke d.target d.args)=((Yk yI ((rangeCall f qg).args.map fr.eval)).bind fun d=>invoke d.target d.args):=by
         unfold Zbp;show(Yk (fr.eval f) _).bind _=_;rw[hnu]
        rw[e];exact .Hp (SN P' T.pK _)
       refine Ac _ (Vu hfe hnu (by simpa[rangeCall,Zeb]using BG.single hy)) fun τ d d' hle hd=>?_;exact bj T (abY.mono hle).base (abY.mono hle).NI.same hd.target hd.args
      obtain⟨AG,w₁,e,he,τ,qh,g',BH,ags,s2,hO,hT⟩:=Pf (cs':=cs') abY amZ (fun x=>by cases x) bq.ok ⟨L.world.obj,hen.al hw e1 e2,L.world.os⟩ (fun o u e hx=>h o u (d++e) (by rw[hx];rfl));refine⟨AG,w₁,d++e,by rw[JX ht e1,L.Cc hF.loud.1,he];rfl,τ,qh,g',d'++BH,L.trans ags,by rw[s2];rfl,hO,fun t hz=>?_⟩;have f1:=L.FK.drawn;have f2:=ags.FK.drawn;rw[JX ht (hcc t fun i x y=>hz i x (Zm y f2)),L.Cc hF.loud.1];have:=hT t fun i x y=>by rw[L.FK.Qf];exact hz i (Zt f1 x) y
      rw[this];rfl
     .obtain⟨o,u2,e3,he⟩:=Ks (cs:=cs) (m:=m) ht e1
      exact(h _ _ _ he).elim
    |_=>cases hc
def fH (T:Twins P' P)(E:Env P' P ρ)(hK:K.seg=false->K.Full)(hF:Hz P' P K ρ fr BC)(BD:fr.mode≠ .run)
 (hcs:cs≠ []) (K6:cs'≠ []\/¬(fr.mode=.returning/\fr.defers=[])) (hw:Iw ρ w w') {m m':Bool} (h:∀o u e,unwind P' m fr cs none w≠ .ended o u e):((K.seg=true\/cs'=[])/\∃c r x x',cs=c::r/\EB (oU ρ) x x'/\∀u,unwind P' m fr cs none u=.go (AV (c.raise x) r) u #[])\/Does P' P K ρ cs cs' w w' (unwind P' m fr cs none) (unwind P m' BC cs' none w'):=by
 have n2:(P.funcs[BC.fn]?).any (·.norace)=false:=by rw[hF.fn];exact hF.loud.2
 obtain⟨c,r,rfl⟩:=Zao hcs;obtain⟨k,hk,hl⟩:=hF.defers;cases KD:fr.defers with
 |cons d ds=>
  rw[KD]at hl;cases hl with
  | @cons _ y _ kl hx AA=>
   cases hx with
   | @mk b b' a a' hb=>
    have JY:BC.defers= {target:=.collected b',args:=a'}::(kl++K.jD):=hk;rcases(SM (P':=P') (P:=P) (fz:=False) hb).lock hw with⟨x,u,f',hr,hx⟩|⟨σ,p,p',w₂,CN,d,d',e1,e2,⟨rfl,rfl⟩,L,hc⟩|⟨σ,v,v',w₂,CN,d,d',e1,e2,hv,L,hc⟩
    .obtain⟨o,u2,e3,he⟩:=D8 (cs:=c::r) (m:=m) KD hr
     exact(h _ _ _ he).elim
    .refine .inr ⟨_,_,_,by rw[Ew KD e1,L.Cc hF.loud.1],σ,CN,_,_,L,by rw[Ew JY e2,L.Ej n2],.stay ?_,fun t hz=>by rw[Ew KD (hc t hz),L.Cc hF.loud.1]⟩
     have IY:=hF.mono L.le;exact⟨IY.fn,IY.src,IY.loud,IY.tmps,IY.todo,⟨kl,rfl,AA.mono fun _ _=>jm.mono L.le⟩,IY.mode,IY.kind,IY.round,fun hs=>(by have:=(hF.part hs).2.2.1;rw[KD]at this;cases this),IY.flat,IY.Aw⟩
    .obtain⟨o,u2,e3,he⟩:=D8 (cs:=c::r) (m:=m) KD e1
     exact(h _ _ _ he).elim
 |nil=>
  rw[KD]at hl;cases hl;have SU:=hF.mode;cases hs:K.seg with
  |true=>
   refine .inl ⟨.inl rfl,?_⟩;cases hm:fr.mode with
   |run=>exact absurd hm BD
   |returning=>exact absurd hm (hF.part hs).2.1
   |panicking x=>
    rcases WQ (Q:=P') (m:=m) (c:=c) (r:=r) KD hm with he|he
    .obtain⟨o,u,e,he⟩:=he w
     exact(h _ _ _ he).elim
    .obtain⟨x',hx⟩:∃x',EB (oU ρ) x x':=by
      rw[hm]at SU;generalize BC.mode=y at SU;cases SU with
      |panicking hx=>exact⟨_,hx⟩
     exact⟨c,r,x,x',rfl,hx,he⟩
  |false=>
   have uy:=hK hs;have agt:BC.defers=[]:=by rw[hk,uy.2.1];rfl
   have Vw:B1 ρ fr.tmps BC.tmps:=Qn.all (by have:=hF.tmps;rw[uy.2.2]at this;exact this);obtain⟨fn,code,f1,f2,_⟩:=E.NI.has fr.fn (hF.src hs).1 (hF.src hs).2;have f2':P.funcs[BC.fn]?=some fn:=by rw[hF.fn];exact f2
   cases hm:fr.mode with
   |run=>exact absurd hm BD
   |returning=>
    refine .inr ?_;obtain⟨c',r',rfl⟩:=Zao (K6.resolve_right (fun x=>x ⟨hm,KD⟩));have hm':BC.mode=.returning:=by
     rw[hm]at SU;generalize BC.mode=y at SU;cases SU;rfl
    rcases(lV T E.base fn Vw).lock hw with⟨x,u,f',hr,hx⟩|⟨σ,a,b,w₂,CN,d,d',e1,e2,hv,L,hc⟩|⟨σ,v,v',w₂,CN,d,d',e1,e2,hv,L,hc⟩
    .obtain⟨o,u2,e3,he⟩:=HI (cs:=c::r) (m:=m) KD hm f1 hr
     exact(h _ _ _ he).elim
    .exact⟨_,_,_,by rw[D4 KD hm hF.kind.1 f1 e1,L.Cc hF.loud.1],σ,CN,_,_,L,by rw[D4 agt hm' (hF.p9 hs) f2' e2,L.Ej n2],.pop hs hv rfl rfl,fun t hz=>by rw[D4 KD hm hF.kind.1 f1 (hc t hz),L.Cc hF.loud.1]⟩
    .obtain⟨o,u2,e3,he⟩:=HI (cs:=c::r) (m:=m) KD hm f1 e1
     exact(h _ _ _ he).elim
   |panicking x=>
    obtain⟨x',hm',hx⟩:∃x',BC.mode=.panicking x'/\EB (oU ρ) x x':=by
     rw[hm]at SU;generalize BC.mode=y at SU;cases SU with
     |panicking hx=>exact⟨_,rfl,hx⟩
    cases cs' with
    |nil=>exact .inl ⟨.inr rfl,c,r,x,x',rfl,hx,fun u=>Dd KD hm f1⟩
    |cons c' r'=>
    exact .inr ⟨_,_,_,Dd KD hm f1,ρ,w',_,_,FZ.refl hw.wr,Dd agt hm' f2',.raise hs hx rfl rfl,fun t _=>Dd KD hm f1⟩
end
structure Ik where
 K:Cut
 lcs:List ZT
 rcs:List ZT
 top:Bool
inductive Gr (P' P:Zp)(B:Ik)(ρ:Ren):List ZT->List ZT->Prop
 |bot {fr BC:ZT} (h:Hz P' P B.K ρ fr BC):Gr P' P B ρ (fr::B.lcs) (BC::B.rcs)
 |cons {fr BC c c':ZT} {L L':List ZT} (h:Hz P' P .whole ρ fr BC) (Bn:c.todo≠ []) (t:Gr P' P B ρ (c::L) (c'::L')):Gr P' P B ρ (fr::c::L) (BC::c'::L')
section
variable {P' P:Zp}{ρ:Ren}{B:Ik}
def Gr.mono {σ:Ren}(hle:ρ.le σ){L L':List ZT}(h:Gr P' P B ρ L L'):Gr P' P B σ L L':=by
 induction h with
 |bot h=>exact .bot (h.mono hle)
 |cons h Bn _ ih=>exact .cons (h.mono hle) Bn ih
variable {cs cs' L L' Jj:List ZT}
def Gr.top {c':ZT}(h:Gr P' P B ρ (c::L) (c'::L')){f f':ZT}(hf:∀K,Hz P' P K ρ c c'->Hz P' P K ρ f f'):Gr P' P B ρ (f::L) (f'::L'):=by
 generalize e:c::L=M at h;generalize e':c'::L'=M' at h;cases h with
 |bot h=>cases e;cases e';exact .bot (hf _ h)
 |cons h Bn t=>cases e;cases e';exact .cons (hf _ h) Bn t
def vL (P' P:Zp)(B:Ik)(ρ:Ren)(g g':Zi):Prop:=∃fr cs BC cs',g=AV fr cs/\g'=AV BC cs'/\Gr P' P B ρ (fr::cs) (BC::cs')
def agu (B:Ik)(σ:Ren)(g g':Zi):Prop:=B.K.seg=false/\∃c r c' r' v v',B.lcs=c::r/\B.rcs=c'::r'/\VR σ v v'/\g=AV (c.finish v) r/\g'=AV (c'.finish v') r'
def Q0 (B:Ik)(g:Zi):Prop:=∃c r x,B.lcs=c::r/\g=AV (c.raise x) r
def Vz (B:Ik)(σ:Ren)(g:Zi):Prop:=∃c r x x',B.lcs=c::r/\g=AV (c.raise x) r/\EB (oU σ) x x'
variable {g g':Zi}
def Vz.lost {B:Ik}(h:Vz B σ g):Q0 B g:=let⟨c,r,x,_,h1,h2,_⟩:=h;⟨c,r,x,h1,h2⟩
def jG (P' P:Zp)(B:Ik)(σ:Ren)(g g':Zi):Prop:=
 ∃fn a a' f cs f' cs',σ.ok.dir fn a.size=true/\σ.sp fn=true/\B1 σ a a'/\g=AV (Zq P' fn a .normal) (f::cs)/\g'=AV (Zq P fn a' .normal) (f'::cs')/\Gr P' P B σ (f::cs) (f'::cs')/\f.todo≠ []
structure Ik.Mp (B:Ik):Prop where
 K:B.K.seg=false->B.K.Full
 lcs:B.lcs≠ []
 rcs:B.top=false->B.rcs≠ []
 vM:B.top=true->B.K.seg=false/\B.K.flat=true/\B.rcs=[]
def BM {Q:Zp}{m:Bool}:(fr.mode=.run->zd Q m (AV fr cs) w=stepG.exec Q m true fr cs none w)/\(fr.mode≠ .run->zd Q m (AV fr cs) w=unwind Q m fr cs none w):=by
 unfold zd AV;cases h:fr.mode<;>simp[h]
def SY (h:Hz P' P K ρ fr BC):(fr.mode=.run↔BC.mode=.run):=by
 have:=h.mode;generalize fr.mode=a at this;generalize BC.mode=b at this;cases this<;>simp
def BZ (B:Ik)(g:Zi):Prop:=
 (B.K.seg=true/\g.callers.length=B.lcs.length/\g.frame.mode=.run/\g.frame.todo=[])\/(B.top=true/\g.callers.length=B.lcs.length/\g.frame.mode=.returning/\g.frame.defers=[])
def Gr.deep (h:Gr P' P B ρ L L'):B.lcs.length<L.length:=by
 induction h with
 |bot h=>simp
 |cons _ _ _ ih=>simp only[zp]at ih⊢;omega
def VA (w w₁:Zc):Prop:=w.heap.size<=w₁.heap.size/\∀b o,Quiet o->b<w.heap.size->w₁.heap[b]?=some o->w.heap[b]?=some o
def VA.refl (w:Zc):VA w w:=⟨Zj _,fun _ _ _ _ h=>h⟩
def FZ.yU {ρ:Ren}(L:FZ ρ σ w w₁ w' w₁' d d'):VA w w₁:=⟨L.FK.size,fun b o hq hl hj=>(L.FK.awake b o hq hl hj).1⟩
def SZ (T:Twins P' P)(E:Env P' P ρ)(hd:BW<=P.depth)(hB:B.Mp)(hG:vL P' P B ρ g g')(By:¬BZ B g)(hw:Iw ρ w w'){m m':Bool}(h:∀o u e,zd P' m g w≠ .ended o u e):∃AG w₁ es,zd P' m g w=.go AG w₁ es/\((∃σ,ρ.le σ/\Vz B σ AG/\w.drawn<=w₁.drawn/\w₁.tape=w.tape/\VA w w₁/\qa (fun w=>zd P' m g w) w AG w₁ es)\/∃σ w₁' Dj BH,FZ ρ σ w w₁ w' w₁' es BH/\zd P m' g' w'=.go Dj w₁' BH/\(vL P' P B σ AG Dj\/agu B σ AG Dj\/jG P' P B σ AG Dj)/\qa (fun w=>zd P' m g w) w AG w₁ es):=by
 obtain⟨fr,cs,BC,cs',rfl,rfl,hS⟩:=hG;have frame:∀K,(K.seg=false->K.Full)->Hz P' P K ρ fr BC->(K.seg=true->fr.mode=.run->fr.todo≠ [])->cs≠ []->(cs'≠ []\/(fr.roundOf=none/\¬(fr.mode=.returning/\fr.defers=[])))->
   ((K.seg=true\/cs'=[])/\∃c r x x',cs=c::r/\EB (oU ρ) x x'/\∀u,zd P' m (AV fr cs) u=.go (AV (c.raise x) r) u #[])\/Does P' P K ρ cs cs' w w' (fun w=>zd P' m (AV fr cs) w) (zd P m' (AV BC cs') w'):=by
  intro K hK hF B5 h1 h2;by_cases hm:fr.mode=.run
  .have G7:(fun w=>zd P' m (AV fr cs) w)=stepG.exec P' m true fr cs none:=funext fun w=>BM.1 hm
   rw[BM.1 hm]at h;rw[BM.1 ((SY hF).1 hm),G7];exact .inr (qc T E hd hK hF hm (fun x=>B5 x hm) h1 (h2.imp id (·.1)) hw h)
  .have G7:(fun w=>zd P' m (AV fr cs) w)=unwind P' m fr cs none:=funext fun w=>BM.2 hm
   rw[BM.2 hm]at h;rw[BM.2 (fun x=>hm ((SY hF).2 x)),G7];exact(fH T E hK hF hm h1 (h2.imp id (·.2)) hw h).imp (fun⟨a,c,r,x,x',b,bx,d⟩=>⟨a,c,r,x,x',b,bx,fun u=>by rw[BM.2 hm];exact d u⟩) id
 generalize e:fr::cs=M at hS;generalize e':BC::cs'=M' at hS;cases hS with
 |bot hF=>
  cases e;cases e';rcases frame B.K hB.K hF (fun hs hm ht=>By (.inl ⟨hs,rfl,hm,ht⟩)) hB.lcs (by
   cases Ph:B.top with
   |false=>exact .inl (hB.rcs Ph)
   |true=>exact .inr ⟨(hF.flat (hB.vM Ph).2.1).1,fun x=>By (.inr ⟨Ph,rfl,x.1,x.2⟩)⟩) with⟨_,c,r,x,x',h1,hx,h2⟩|⟨AG,w₁,es,hg,σ,w₁',Dj,BH,L,h1,hO,hT⟩
  .exact⟨_,_,_,h2 w,.inl ⟨ρ,Ren.le_refl _,⟨c,r,x,x',h1,rfl,hx⟩,Zj _,rfl,VA.refl w,fun t _=>h2 _⟩⟩
  .cases hO with
   |stay hf=>exact⟨_,_,_,hg,.inr ⟨σ,w₁',_,BH,L,h1,.inl ⟨_,_,_,_,rfl,rfl,.bot hf⟩,hT⟩⟩
   |push hb hf Bn=>exact⟨_,_,_,hg,.inr ⟨σ,w₁',_,BH,L,h1,.inl ⟨_,_,_,_,rfl,rfl,.cons hb Bn (.bot hf)⟩,hT⟩⟩
   |pop hs hv ha hb=>exact⟨_,_,_,hg,.inr ⟨σ,w₁',_,BH,L,h1,.inr (.inl ⟨hs,_,_,_,_,_,_,ha,hb,hv,rfl,rfl⟩),hT⟩⟩
   |WM hf hs ha h Bn=>exact⟨_,_,_,hg,.inr ⟨σ,w₁',_,BH,L,h1,.inr (.inr ⟨_,_,_,_,_,_,_,hf,hs,ha,rfl,rfl,.bot h,Bn⟩),hT⟩⟩
   |raise hs hx ha hb=>exact⟨_,_,_,hg,.inl ⟨σ,L.le,⟨_,_,_,_,ha,rfl,hx⟩,L.FK.drawn,L.FK.Qf,L.yU,hT⟩⟩
 | @cons _ _ c c' L₀ atJ hF Bn t=>
  cases e;cases e';rcases frame .whole (fun _=>Cut.SQ) hF (fun hs=>by cases hs) (fun x=>by cases x) (.inl fun x=>by cases x) with⟨hs|hs,_⟩|⟨AG,w₁,es,hg,σ,w₁',Dj,BH,L,h1,hO,hT⟩
  .cases hs
  .cases hs
  .have t':=t.mono L.le
   cases hO with
   |stay hf=>exact⟨_,_,_,hg,.inr ⟨σ,w₁',_,BH,L,h1,.inl ⟨_,_,_,_,rfl,rfl,.cons hf Bn t'⟩,hT⟩⟩
   |push hb hf hn=>exact⟨_,_,_,hg,.inr ⟨σ,w₁',_,BH,L,h1,.inl ⟨_,_,_,_,rfl,rfl,.cons hb hn (.cons hf Bn t')⟩,hT⟩⟩
   |WM hf hs ha h hn=>exact⟨_,_,_,hg,.inr ⟨σ,w₁',_,BH,L,h1,.inr (.inr ⟨_,_,_,_,_,_,_,hf,hs,ha,rfl,rfl,.cons h Bn t',hn⟩),hT⟩⟩
   |pop hs hv ha hb=>
    cases ha;cases hb;exact⟨_,_,_,hg,.inr ⟨σ,w₁',_,BH,L,h1,.inl ⟨_,_,_,_,rfl,rfl,t'.top fun K hk=>hk.finish hv Bn⟩,hT⟩⟩
   |raise hs hx ha hb=>
    cases ha;cases hb;exact⟨_,_,_,hg,.inr ⟨σ,w₁',_,BH,L,h1,.inl ⟨_,_,_,_,rfl,rfl,t'.top fun K hk=>hk.raise hx⟩,hT⟩⟩
end
abbrev tp (w:Zc)(t:Tape):Zc:= {w with tape:=t}
section
variable {P' P:Zp}{B:Ik}{m:Bool}{Stop:Zi->Zc->Prop}
def FL (P' P:Zp)(B:Ik)(g:Zi)(w:Zc):Prop:=∃ρ g' w',Env P' P ρ/\vL P' P B ρ g g'/\WR ρ w w'/\ρ.sp=fun _=>false
def S0 (Q:Zp)(m:Bool)(g:Zi)(w:Zc):Prop:=∀g' w' es,zd Q m g w≠ .go g' w' es
def HJ (B:Ik)(g:Zi):Prop:=∃c r v,B.lcs=c::r/\g=AV (c.finish v) r
def WR.lW (h:WR ρ w w'):∃aB,Iw ρ w aB:=
 ⟨tp w' (fun i=>w.tape (i - w'.drawn+w.drawn)),h.obj,fun i q=>by show w.tape (w.drawn+i) q=w.tape (w'.drawn+i - w'.drawn+w.drawn) q;rw[Zbt,Nat.add_comm],h.os⟩
def FL.step (T:Twins P' P)(hd:BW<=P.depth)(hB:B.Mp){g:Zi}{w:Zc}(hS:FL P' P B g w)(By:¬BZ B g){AG:Zi}{w₁:Zc}{es:Array zc}(h:zd P' m g w=.go AG w₁ es):
  ((FL P' P B AG w₁\/HJ B AG\/Q0 B AG)/\qa (fun w=>zd P' m g w) w AG w₁ es/\w.drawn<=w₁.drawn/\w₁.tape=w.tape/\VA w w₁):=by
 obtain⟨ρ,g',aB,E,hG,qi,KE⟩:=hS;obtain⟨w',hw⟩:=qi.lW;obtain⟨Bw,w₂,yV,h',hx⟩:=SZ (m:=m) (m':=m) T E hd hB hG By hw (fun o u e=>by rw[h];intro x;cases x);rw[h]at h';cases h';rcases hx with⟨σ,_,hl,h1,h2,hW,hT⟩|⟨σ,w₁',Dj,BH,L,_,hO,hT⟩
 .exact⟨.inr (.inr hl.lost),hT,h1,h2,hW⟩
 .refine⟨?_,hT,L.FK.drawn,L.FK.Qf,L.yU⟩
  rcases hO with hO|⟨_,c,r,c',r',v,v',h1,_,_,h2,_⟩|⟨fn,_,_,_,_,_,_,_,hs,_⟩
  .exact .inl ⟨σ,Dj,w₁',E.mono L.le,hO,L.world,L.le.2.2.2.trans KE⟩
  .exact .inr (.inl ⟨c,r,v,h1,h2⟩)
  .rw[L.le.2.2.2,KE]at hs;cases hs
variable {g g':Zi}
def FL.Dz (h:FL P' P B g w)(t:Tape):FL P' P B g (tp w t):=
 let⟨ρ,g',w',E,hG,hw,hs⟩:=h;⟨ρ,g',w',E,hG,⟨hw.obj,hw.os⟩,hs⟩
def GV (P':Zp)(B:Ik)(m:Bool)(Stop:Zi->Zc->Prop):Nat->Zi->Zc->Prop
 |0,g,w=>Stop g w
 |n+1,g,w=>Stop g w\/(¬BZ B g/\∃g' w' es,zd P' m g w=.go g' w' es/\GV P' B m Stop n g' w')
structure Dq (P':Zp)(B:Ik)(m:Bool)(Stop:Zi->Zc->Prop):Prop where
 blind:∀g w t,Stop g w->Stop g (tp w t)
 back:∀g w,HJ B g\/Q0 B g->Stop g w\/S0 P' m g w
variable {l l' i n r r' N:Nat}
def GV.here (h:GV P' B m Stop n g w)(hn:S0 P' m g w\/BZ B g):Stop g w:=by
 cases n with
 |zero=>exact h
 |succ n=>
  rcases h with h|⟨ha,g',w',es,h,_⟩
  .exact h
  .exact hn.elim (fun x=>absurd h (x _ _ _)) fun x=>absurd x ha
def Dq.qj (K:Dq P' B m Stop)(h:GV P' B m Stop n g w)(hb:HJ B g\/Q0 B g):Stop g w:=
 (K.back g w hb).elim id fun hn=>h.here (.inl hn)
def GV.qk (T:Twins P' P)(hd:BW<=P.depth)(hB:B.Mp)(K:Dq P' B m Stop):∀(n:Nat) {g:Zi} {w:Zc} {a b:Tape},FL P' P B g w->GV P' B m Stop n g (tp w a)->(∀i,w.drawn<=i->a i=b i)->GV P' B m Stop n g (tp w b):=by
 intro n
 induction n with
 |zero=>intro g w a b _ h _;exact K.blind g (tp w a) b h
 |succ n ih=>
  intro g w a b hS h EC;rcases h with h|⟨ha,AG,w₁,es,h,hn⟩
  .exact .inl (K.blind g (tp w a) b h)
  .obtain⟨hO,hT,h1,h2,_⟩:=(hS.Dz a).step T hd hB ha h
   .refine .inr ⟨ha,AG,tp w₁ b,es,hT b (fun i x _=>(EC i x).symm),?_⟩
    have e:w₁=tp w₁ a:=by cases w₁;cases h2;rfl
    rcases hO with hO|hO
    .exact ih hO (by rw[<-e];exact hn) fun i x=>EC i (Zt h1 x)
    .have:=K.blind _ _ b (K.qj hn hO)
     cases n with
     |zero=>exact this
     |succ n=>exact .inl this
inductive CE (P':Zp)(B:Ik)(m:Bool)(Stop:Zi->Zc->Prop):Zi->Zc->Prop
 |stop {g:Zi} {w:Zc} (h:Stop g w):CE P' B m Stop g w
 |step {g:Zi} {w:Zc} (hn:¬BZ B g) (hr:g.status=.running) (AG:Tape->Zi) (w₁:Tape->Zc) (es:Tape->Array zc) (h:∀t,zd P' m g (tp w t)=.go (AG t) (w₁ t) (es t)) (k:∀t,CE P' B m Stop (AG t) (w₁ t)):CE P' B m Stop g w
structure vN (P' P:Zp)(B:Ik)(m:Bool)(Stop:Zi->Zc->Prop)(s:Zi×Zc):Prop where
 axv:FL P' P B s.1 s.2
 reach:∀t,∃n,GV P' B m Stop n s.1 (tp s.2 t)
 not:¬CE P' B m Stop s.1 s.2
def vN.next (T:Twins P' P)(hd:BW<=P.depth)(hB:B.Mp)(K:Dq P' B m Stop){s:Zi×Zc}(h:vN P' P B m Stop s):
  ∃s',vN P' P B m Stop s'/\s.2.drawn<=s'.2.drawn/\∃es,∀t:Tape,(∀i,s.2.drawn<=i->i<s'.2.drawn->t i=s'.2.tape i)->zd P' m s.1 (tp s.2 t)=.go s'.1 (tp s'.2 t) es:=by
 obtain⟨g,w⟩:=s;obtain⟨hS,hR,hM⟩:=h;dsimp only at hS hR hM⊢;have hns:∀t,¬Stop g (tp w t):=fun t h=>hM (.stop (K.blind g (tp w t) w.tape h));have uz:¬BZ B g:=fun h=>by obtain⟨n,hn⟩:=hR w.tape;exact hns _ (hn.here (.inr h))
 have hgo:∀t,∃n AG w₁ es,zd P' m g (tp w t)=.go AG w₁ es/\GV P' B m Stop n AG w₁:=by
  intro t;obtain⟨n,hn⟩:=hR t;cases n with
  |zero=>exact absurd hn (hns t)
  |succ n=>
   rcases hn with h|⟨_,AG,w₁,es,h,hn⟩
   .exact absurd h (hns t)
   .exact⟨n,AG,w₁,es,h,hn⟩
 have:∃t,∀AG w₁ es,zd P' m g (tp w t)=.go AG w₁ es->¬CE P' B m Stop AG w₁:=by
  apply YW;intro hx;have:∀t,∃p:Zi×Zc×Array zc,zd P' m g (tp w t)=.go p.1 p.2.1 p.2.2/\CE P' B m Stop p.1 p.2.1:=by
   intro t;apply YW;intro hy;exact hx ⟨t,fun AG w₁ es h1 h2=>hy ⟨(AG,w₁,es),h1,h2⟩⟩
  exact hM (.step uz (by obtain⟨_,_,_,_,⟨_,_,_,_,rfl,_,_⟩,_⟩:=hS;rfl) (fun t=>(zu (this t)).1) (fun t=>(zu (this t)).2.1) (fun t=>(zu (this t)).2.2) (fun t=>(zA (this t)).1) fun t=>(zA (this t)).2)
 obtain⟨t,ht⟩:=this;obtain⟨n,AG,w₁,es,h,hn⟩:=hgo t;have yW:=ht _ _ _ h;obtain⟨hO,hT,h1,h2,_⟩:=(hS.Dz t).step T hd hB uz h
 .have K7:FL P' P B AG w₁:=hO.elim id fun hb=>absurd (.stop (K.qj hn hb)) yW
  refine⟨(AG,w₁),⟨K7,fun t'=>?_,yW⟩,h1,es,fun t' ht'=>hT t' fun i x y=>?_⟩
  .have hT':=hT (fun i=>if i<w₁.drawn then t i else t' i) fun i _ y=>by rw[if_pos y]
   obtain⟨n',Bw,w₂,yV,h',hn'⟩:=hgo (fun i=>if i<w₁.drawn then t i else t' i);have an2:zd P' m g (tp w fun i=>if i<w₁.drawn then t i else t' i)=.go AG (tp w₁ fun i=>if i<w₁.drawn then t i else t' i) es:=hT';rw[an2]at h';cases h';exact⟨n',hn'.qk T hd hB K _ K7 fun i x=>by have x':w₁.drawn<=i:=x;rw[if_neg (by omega)]⟩
  .have:=ht' i x y
   rw[this,h2]
def least (p:Nat->Prop)(h:∃n,p n):∃n,p n/\∀j,j<n->¬p j:=by
 obtain⟨n,hn⟩:=h
 induction n using Nat.strongRecOn with
 |_ n ih=>
  by_cases hx:∃j,j<n/\p j
  .obtain⟨j,hj,hp⟩:=hx;exact ih j hj hp
  .exact⟨n,hn,fun j hj hp=>hx ⟨j,hj,hp⟩⟩
open Classical in
def IZ (T:Twins P' P)(hd:BW<=P.depth)(hB:B.Mp)(K:Dq P' B m Stop)(hS:FL P' P B g w)(hR:∀t,∃n,GV P' B m Stop n g (tp w t)):CE P' B m Stop g w:=by
 apply YW;intro hM
 let S:= {s:Zi×Zc // vN P' P B m Stop s}
 let an3:S:=⟨(g,w),hS,hR,hM⟩
 have hx:∀s:S,∃s':S,s.1.2.drawn<=s'.1.2.drawn/\∃es,∀t:Tape,(∀i,s.1.2.drawn<=i->i<s'.1.2.drawn->t i=s'.1.2.tape i)->zd P' m s.1.1 (tp s.1.2 t)=.go s'.1.1 (tp s'.1.2 t) es:=by
  rintro⟨s,hs⟩;obtain⟨s',h1,h2⟩:=hs.next T hd hB K;exact⟨⟨s',h1⟩,h2⟩
 let nx:S->S:=fun s=>zu (hx s)
 have hnx:∀s,s.1.2.drawn<=(nx s).1.2.drawn/\∃es,∀t:Tape,(∀i,s.1.2.drawn<=i->i<(nx s).1.2.drawn->t i=(nx s).1.2.tape i)->zd P' m s.1.1 (tp s.1.2 t)=.go (nx s).1.1 (tp (nx s).1.2 t) es:=fun s=>zA (hx s)
 let q:Nat->S:=fun k=>Nat.rec an3 (fun _ s=>nx s) k
 have hq:∀k,q (k+1)=nx (q k):=fun _=>rfl;have mono:∀k,(q k).1.2.drawn<=(q (k+1)).1.2.drawn:=fun k=>by rw[hq];exact(hnx (q k)).1
 have agv:∀a b,a<=b->(q a).1.2.drawn<=(q b).1.2.drawn:=by
  intro a b EC
  induction EC with
  |refl=>exact Zj _
  |step _ ih=>exact Zt ih (mono _)
 let tape:Tape:=fun i=>if h:∃k,i<(q (k+1)).1.2.drawn then(q (zu (least _ h)+1)).1.2.tape i else w.tape i
 have agw:∀k i,(q k).1.2.drawn<=i->i<(q (k+1)).1.2.drawn->tape i=(q (k+1)).1.2.tape i:=by
  intro k i h1 h2;have he:∃k,i<(q (k+1)).1.2.drawn:=⟨k,h2⟩;have hf:zu (least _ he)=k:=by
   obtain⟨h3,h4⟩:=zA (least _ he);generalize zu (least _ he)=f at h3 h4;rcases Nat.lt_trichotomy f k with h5|h5|h5
   .have:=agv _ _ (show f+1<=k from h5)
    omega
   .exact h5
   .exact absurd h2 (h4 k h5)
  show(if h:∃k,i<(q (k+1)).1.2.drawn then(q (zu (least _ h)+1)).1.2.tape i else w.tape i)=_;rw[dif_pos he,hf]
 have never:∀n k,¬GV P' B m Stop n (q k).1.1 (tp (q k).1.2 tape):=by
  intro n
  induction n with
  |zero=>intro k h;exact(q k).2.not (.stop (K.blind _ (tp (q k).1.2 tape) (q k).1.2.tape h))
  |succ n ih=>
   intro k h;rcases h with h|⟨_,g',w',es,h,hn⟩
   .exact(q k).2.not (.stop (K.blind _ (tp (q k).1.2 tape) (q k).1.2.tape h))
   .obtain⟨_,BH,hs⟩:=hnx (q k)
    have:=hs tape fun i x y=>by have:=agw k i x (by rw[hq];exact y);rw[this,hq]
    rw[this]at h;cases h;exact ih (k+1) hn
 obtain⟨n,hn⟩:=hR tape;exact never n 0 hn
end
def De (Q:Zp):ZT:= {fn:=Q.funcs.size,tmps:= #[],todo:=[.call default false "" #[]],defers:=[{target:=.nil,args:= #[]}],mode:=.run,kind:=.normal}
section
variable {P' P:Zp}{m:Bool}
def fI:Extern.next "" =none:=rfl
def H0:∃o u e,zd P' m (AV ((De P').finish v) []) w=.ended o u e:=by
 rw[(BM (Q:=P') (m:=m) (fr:=(De P').finish v) (cs:=[]) (w:=w)).1 rfl];unfold stepG.exec;simp[De,Zdr,fI]
def Pj {x:List zn}:∃o u e,zd P' m (AV ((De P').raise x) []) w=.ended o u e:=by
 rw[(BM (Q:=P') (m:=m) (fr:=(De P').raise x) (cs:=[]) (w:=w)).2 (by intro h;cases h)];unfold unwind callDeferred;simp[De,Za0]
variable {g g':Zi}
def I0 (h:∃o u e,zd P' m g w=.ended o u e):S0 P' m g w:=by
 obtain⟨o,u,e,h⟩:=h;intro g' w' es x;rw[h]at x;cases x
def IsX (P':Zp)(PostX:List zn->Zc->Prop)(g:Zi)(w:Zc):Prop:=∃x,g=AV ((De P').raise x) []/\PostX x w
def jH (P':Zp)(Post:Ze->Zc->Prop)(PostX:List zn->Zc->Prop)(g:Zi)(w:Zc):Prop:=(∃v,g=AV ((De P').finish v) []/\Post v w)\/IsX P' PostX g w
def VB (P':Zp)(B:Ik)(Y:Array Ze->Ze)(Post:Ze->Zc->Prop)(PostX:List zn->Zc->Prop)(g:Zi)(w:Zc):Prop:=(BZ B g/\g.callers=B.lcs/\Post (Y g.frame.tmps) w)\/IsX P' PostX g w
def Dk {α:Type}(Post:α->Zc->Prop):Prop:=∀v w t,Post v w->Post v (tp w t)
variable {B:Ik}
def NW (hl:B.lcs=[De P'])(hx:HJ B g\/Q0 B g):S0 P' m g w:=by
 rcases hx with⟨c,r,v,h1,rfl⟩|⟨c,r,x,h1,rfl⟩
 .rw[hl]at h1;cases h1
  exact I0 H0
 .rw[hl]at h1;cases h1
  exact I0 Pj
def IsX.blind {PostX:List zn->Zc->Prop}(hb:Dk PostX){t:Tape}(h:IsX P' PostX g w):IsX P' PostX g (tp w t):=let⟨x,h1,h2⟩:=h;⟨x,h1,hb _ _ _ h2⟩
variable {Post:Ze->Zc->Prop}
def br {PostX:List zn->Zc->Prop}(hl:B.lcs=[De P'])(hb:Dk Post)(Il:Dk PostX):Dq P' B m (jH P' Post PostX):=
 ⟨fun _ _ _ h=>h.elim (fun⟨v,h1,h2⟩=>.inl ⟨v,h1,hb _ _ _ h2⟩) fun h=>.inr (h.blind Il),fun _ _ hx=>.inr (NW hl hx)⟩
variable {Y:Array Ze->Ze}
def bt {PostX:List zn->Zc->Prop}(hl:B.lcs=[De P'])(hb:Dk Post)(Il:Dk PostX):Dq P' B m (VB P' B Y Post PostX):=
 ⟨fun _ _ _ h=>h.elim (fun⟨h1,h2,h3⟩=>.inl ⟨h1,h2,hb _ _ _ h3⟩) fun h=>.inr (h.blind Il),fun _ _ hx=>.inr (NW hl hx)⟩
variable {cs cs' L L' Jj:List ZT}
def Fw (h:lone fr cs w=lone BC cs' w'):fr=BC/\cs=cs'/\w=w':=by
 unfold lone at h;simp at h;exact⟨h.2.1,h.2.2,h.1⟩
def E4 (h:∃o u e,zd P' true (AV fr cs) w=.ended o u e):∃o u,Go.step P' (lone fr cs w)=.ended o u:=by
 obtain⟨o,u,e,h⟩:=h;exact⟨o,u,step_lone_ended (by rw[show zd P' true {frame:=fr,callers:=cs,status:=.running,dying:=none} w=_ from h];rfl)⟩
def Ry (h:zd P' true (AV fr cs) w=.go (AV K0 Jj) w₁ es):Go.step P' (lone fr cs w)=.next (lone K0 Jj w₁):=
 step_lone_go (by rw[show zd P' true {frame:=fr,callers:=cs,status:=.running,dying:=none} w=_ from h];rfl)
variable {l l' i n r r' N:Nat}
def runN_ended {m':Machine}(h:∃o u,Go.step P' (lone fr cs w)=.ended o u)(hN:runN P' N (lone fr cs w)=.next m'):lone fr cs w=m':=by
 obtain⟨o,u,h⟩:=h;cases N with
 |zero=>simpa[runN]using hN
 |succ N=>simp[runN,h]at hN
def LY {m':Machine}(h:Go.step P' (lone fr cs w)=.next (lone K0 Jj w₁))(hN:runN P' N (lone fr cs w)=.next m'):lone fr cs w=m'\/∃N',N=N'+1/\runN P' N' (lone K0 Jj w₁)=.next m':=by
 cases N with
 |zero=>exact .inl (by simpa[runN]using hN)
 |succ N=>exact .inr ⟨N,rfl,by simpa[runN,h]using hN⟩
def vL.AV (h:vL P' P B ρ g g'):∃fr cs,g=Go.FO.AV fr cs/\B.lcs.length<(fr::cs).length:=by
 obtain⟨fr,cs,BC,cs',rfl,rfl,hS⟩:=h;exact⟨fr,cs,rfl,hS.deep⟩
variable {Stop:Zi->Zc->Prop}
def I1 (T:Twins P' P)(hd:BW<=P.depth)(hB:B.Mp)(hl:B.lcs=[De P']){fe:ZT}(ql:(∃v,fe=(De P').finish v)\/∃x,fe=(De P').raise x)
 (jI:∀v,fe=(De P').finish v->B.K.seg=false->B.top=false->Stop (AV fe []) w') (agx:∀x,fe=(De P').raise x->Stop (AV fe []) w')
 (MV:∀N fr cs w,FL P' P B (AV fr cs) w->BZ B (AV fr cs)->runN P' N (lone fr cs w)=.next (lone fe [] w')->Stop (AV fr cs) w):
  ∀(N:Nat) (fr:ZT) (cs:List ZT) (w:Zc),FL P' P B (AV fr cs) w->runN P' N (lone fr cs w)=.next (lone fe [] w')->∃n,GV P' B true Stop n (AV fr cs) w:=by
 intro N
 induction N with
 |zero=>
  intro fr cs w hS hN;obtain⟨ρ,g',w₂,E,hG,hw,_⟩:=hS;obtain⟨jJ,jK,h1,h2⟩:=hG.AV;cases h1;obtain⟨rfl,rfl,rfl⟩:=Fw (by simpa[runN]using hN);rw[hl]at h2;simp at h2
 |succ N ih=>
  intro fr cs w hS hN;by_cases ha:BZ B (AV fr cs)
  .exact⟨0,MV _ _ _ _ hS ha hN⟩
  .obtain⟨ρ,g',D9,E,hG,qi,KE⟩:=hS
   obtain⟨w₂,hw⟩:=qi.lW;have hlen:B.lcs.length<(fr::cs).length:=by
    obtain⟨jJ,jK,h1,h2⟩:=hG.AV;cases h1;exact h2
   have Bn:lone fr cs w≠lone fe [] w':=by
    intro x;obtain⟨rfl,rfl,rfl⟩:=Fw x;rw[hl]at hlen;simp at hlen
   have agy:∀o u e,zd P' true (AV fr cs) w≠ .ended o u e:=fun o u e hx=>Bn (runN_ended (E4 ⟨o,u,e,hx⟩) hN);obtain⟨AG,w₁,es,hg,hx⟩:=SZ (m:=true) (m':=true) T E hd hB hG ha hw agy;have go:∀K0 Jj,AG=AV K0 Jj->runN P' N (lone K0 Jj w₁)=.next (lone fe [] w'):=by
    rintro K0 Jj rfl;rcases LY (Ry hg) hN with h|⟨N',h1,h2⟩
    .exact absurd h Bn
    .cases h1;exact h2
   have AP:∀v x,(De P').finish v≠(De P').raise x:=fun v x h=>by have:=congrArg Frame.mode h;cases this
   rcases hx with⟨_,_,Kt,_⟩|⟨σ,w₁',Dj,BH,L,_,hO,_⟩
   .obtain⟨c,r,x,h1,h2⟩:=Kt.lost
    rw[hl]at h1;cases h1;have:=runN_ended (E4 Pj) (go _ _ h2);obtain⟨h3,_,h4⟩:=Fw this;refine⟨1,.inr ⟨ha,AG,w₁,es,hg,?_⟩⟩;rw[h2,h3,h4];exact agx x h3.symm
   .rcases hO with hO|⟨hs,c,r,c',r',bu,yX,h1,hrc,_,h2,_⟩|⟨fn,_,_,_,_,_,_,_,hs,_⟩
    .obtain⟨K0,Jj,h1,_⟩:=hO.AV
     obtain⟨n,hn⟩:=ih K0 Jj w₁ ⟨σ,Dj,w₁',E.mono L.le,h1▸hO,L.world,L.le.2.2.2.trans KE⟩ (go _ _ h1);exact⟨n+1,.inr ⟨ha,AG,w₁,es,hg,h1▸hn⟩⟩
    .rw[hl]at h1;cases h1
     have:=runN_ended (E4 H0) (go _ _ h2);obtain⟨h3,_,h4⟩:=Fw this;refine⟨1,.inr ⟨ha,AG,w₁,es,hg,?_⟩⟩;rw[h2,h3,h4];refine jI _ h3.symm hs ?_;cases Ph:B.top with
     |false=>rfl
     |true=>rw[(hB.vM Ph).2.2]at hrc;cases hrc
    .rw[L.le.2.2.2,KE]at hs;cases hs
def jL (Post:Ze->Zc->Prop)(PostX:List zn->Zc->Prop):Ending->Zc->Prop
 | .returned v,w=>Post v w
 | .panicked x,w=>PostX x w
 |_,_=>False
variable {f:ZaV}
def I2 {PostX:List zn->Zc->Prop}(h:Calls P' f args w (jL Post PostX)):
  ∃N fe w',((∃v,fe=(De P').finish v/\Post v w')\/∃x,fe=(De P').raise x/\PostX x w')/\runN P' N (lone (Zq P' f args .normal) [De P'] w)=.next (lone fe [] w'):=by
 obtain⟨e,w',fr,hR,vO,_,hlv⟩:=h [De P'];cases e with
 |returned v=>
  obtain⟨N,hN⟩:=Steps.trans (show Steps P' _ _ from vO) (Steps.one (step_leave_returned hlv));exact⟨N,_,w',.inl ⟨v,rfl,hR⟩,hN⟩
 |panicked c=>
  obtain⟨N,hN⟩:=Steps.trans (show Steps P' _ _ from vO) (Steps.one (step_leave_panicked hlv));exact⟨N,_,w',.inr ⟨c,rfl,hR⟩,hN⟩
 |outgrown=>exact hR.elim
def DN {x:List zn}(h:(De P').finish v=(De P').raise x):False:=by have:=congrArg Frame.mode h;cases this
def MX (h:(De P').finish v=(De P').finish v'):v=v':=by
 have:=congrArg Frame.todo h;simpa[De,Zdr]using this
def UN (T:Twins P' P)(hd:BW<=P.depth)(hB:B.Mp)(hl:B.lcs=[De P'])(hs:B.K.seg=false)(Ph:B.top=false){PostX:List zn->Zc->Prop}(hb:Dk Post)(Il:Dk PostX)
 (hS:FL P' P B (AV (Zq P' f args .normal) [De P']) w) (hc:∀t,Calls P' f args (tp w t) (jL Post PostX)):CE P' B true (jH P' Post PostX) (AV (Zq P' f args .normal) [De P']) w:=by
 refine IZ T hd hB (br hl hb Il) hS fun t=>?_;obtain⟨N,fe,w',hR,hN⟩:=I2 (hc t);refine I1 T hd hB hl (hR.imp (fun⟨v,h,_⟩=>⟨v,h⟩) fun⟨x,h,_⟩=>⟨x,h⟩) (fun v h _ _=>?_) (fun x h=>?_) (fun _ _ _ _ _ h=>by rcases h with⟨h,_⟩|⟨h,_⟩;(rw[hs]at h;cases h);(rw[Ph]at h;cases h)) N _ _ _ (hS.Dz t) hN
 .rcases hR with⟨v',h',hR⟩|⟨x,h',_⟩
  .exact .inl ⟨v',by rw[h'],hR⟩
  .exact(DN (h.symm.trans h')).elim
 .rcases hR with⟨v',h',_⟩|⟨x,h',hR⟩
  .exact(DN (h'.symm.trans h)).elim
  .exact .inr ⟨x,by rw[h'],hR⟩
def results_tmp {fn:Func}(h:fn.results= #[.tmp i])(t:Array Ze)(w:Zc):(results fn t).runT P' w #[]=(.ok (t.getD i Zf) w,#[]):=by
 unfold results;rw[h,Y5]
 rfl
def bw {fn:Func}{j:Nat}(h:fn.results= #[.tmp i,.tmp j])(t:Array Ze)(w:Zc):(results fn t).runT P' w #[]=(.ok (.tuple #[t.getD i Zf,t.getD j Zf]) w,#[]):=by
 unfold results;rw[h,Y5]
 rfl
def Gr.WT (h:Gr P' P B ρ (fr::cs) (BC::cs'))(hn:cs.length=B.lcs.length):cs=B.lcs/\cs'=B.rcs/\Hz P' P B.K ρ fr BC:=by
 generalize e:fr::cs=M at h;generalize e':BC::cs'=M' at h;cases h with
 |bot h=>cases e;cases e';exact⟨rfl,rfl,h⟩
 |cons h Bn t=>
  cases e;have:=t.deep;simp only[zp]at this hn;omega
def WU (T:Twins P' P)(hd:BW<=P.depth)(hB:B.Mp)(hl:B.lcs=[De P'])(hs:B.K.seg=true)(Ph:B.top=false){fn:Func}(hf:P'.funcs[B.K.fn]?=some fn)(hr:∀t w,(results fn t).runT P' w #[]=(.ok (Y t) w,#[]))
 {PostX:List zn->Zc->Prop} (hb:Dk Post) (Il:Dk PostX)
 (hS:FL P' P B (AV (Zq P' B.K.fn args .normal) [De P']) w) (hc:∀t,Calls P' B.K.fn args (tp w t) (jL Post PostX)):CE P' B true (VB P' B Y Post PostX) (AV (Zq P' B.K.fn args .normal) [De P']) w:=by
 refine IZ T hd hB (bt hl hb Il) hS fun t=>?_;obtain⟨N,fe,w',hR,hN⟩:=I2 (hc t);refine I1 T hd hB hl (hR.imp (fun⟨v,h,_⟩=>⟨v,h⟩) fun⟨x,h,_⟩=>⟨x,h⟩) (fun _ _ h=>by rw[hs]at h;cases h) (fun x h=>?_) (fun M fr cs w₁ K7 ha' hM=>?_) N _ _ _ (hS.Dz t) hN
 .rcases hR with⟨v',h',_⟩|⟨x,h',hR⟩
  .exact(DN (h'.symm.trans h)).elim
  .exact .inr ⟨x,by rw[h'],hR⟩
 obtain⟨ρ,g',w₂,E,⟨jJ,jK,BC,cs',e,rfl,hk⟩,hw,_⟩:=K7;cases e;have ha:B.K.seg=true/\(AV fr cs).callers.length=B.lcs.length/\(AV fr cs).frame.mode=.run/\(AV fr cs).frame.todo=[]:=ha'.elim id fun x=>by rw[Ph]at x;cases x.1
 obtain⟨h1,h2,h3⟩:=hk.WT ha.2.1;obtain⟨p1,p2,p3,p4⟩:=h3.part hs;have AP:fr.mode=.run:=ha.2.2.1;have jM:fr.todo=[]:=ha.2.2.2;have hcs:cs=[De P']:=h1.trans hl;subst hcs;have s1:zd P' true (AV fr [De P']) w₁=.go (AV {fr with mode:=.returning} [De P']) w₁ #[]:=by
  rw[BM.1 AP];exact GU (by rw[jM];exact .done) p1 (.inl rfl)
 have s2:zd P' true (AV {fr with mode:=.returning} [De P']) w₁=.go (AV ((De P').finish (Y fr.tmps)) []) w₁ (seen P' fr.fn #[]):=by
  rw[BM.2 (by intro h;cases h)];exact D4 (fr:= {fr with mode:=.returning}) p3 rfl h3.kind.1 (by rw[show({fr with mode:=FrameMode.returning}:ZT).fn=fr.fn from rfl,p4];exact hf) (hr _ _)
 rcases LY (Ry s1) hM with hx|⟨axy,rfl,hy⟩
 .have:=congrArg ZbH (Fw hx).2.1
  simp at this
 rcases LY (Ry s2) hy with hx|⟨an4,rfl,hz⟩
 .have:=congrArg ZbH (Fw hx).2.1
  simp at this
 obtain⟨h4,_,h5⟩:=Fw (runN_ended (E4 H0) hz);rcases hR with⟨v,h',hR⟩|⟨x,h',_⟩
 .have hv:Y fr.tmps=v:=MX (h4.trans h')
  refine .inl ⟨ha',h1,?_⟩;show Post (Y fr.tmps) w₁;rw[hv,h5];exact hR
 .exact(DN (h4.trans h')).elim
def EN (P':Zp)(B:Ik)(fn:Func)(Post:Ze->Zc->Prop)(PostX:List zn->Zc->Prop)(g:Zi)(w:Zc):Prop:=(BZ B g/\g.callers=B.lcs/\∃i,fn.results= #[.tmp i]/\Post (g.frame.tmps.getD i Zf) w/\g.status=.running/\∃es,∀u,zd P' true g u=.go (AV ((De P').finish (g.frame.tmps.getD i Zf)) []) u es)\/IsX P' PostX g w
def Jk {fn:Func}{PostX:List zn->Zc->Prop}(hl:B.lcs=[De P'])(hb:Dk Post)(Il:Dk PostX):Dq P' B m (EN P' B fn Post PostX):=
 ⟨fun _ _ _ h=>h.elim (fun⟨h1,h2,i,h3,h4,h5⟩=>.inl ⟨h1,h2,i,h3,hb _ _ _ h4,h5⟩) fun h=>.inr (h.blind Il),fun _ _ hx=>.inr (NW hl hx)⟩
def bz (T:Twins P' P)(hd:BW<=P.depth)(hB:B.Mp)(hl:B.lcs=[De P'])(Ph:B.top=true){fn:Func}(hf:P'.funcs[f]?=some fn)(hr:fn.results= #[.tmp i])
 {PostX:List zn->Zc->Prop} (hb:Dk Post) (Il:Dk PostX)
 (G7:B.K.fn=f)
 (hS:FL P' P B (AV (Zq P' f args .normal) [De P']) w) (hc:∀t,Calls P' f args (tp w t) (jL Post PostX)):CE P' B true (EN P' B fn Post PostX) (AV (Zq P' f args .normal) [De P']) w:=by
 have hs:B.K.seg=false:=(hB.vM Ph).1;refine IZ T hd hB (Jk hl hb Il) hS fun t=>?_;obtain⟨N,fe,w',hR,hN⟩:=I2 (hc t);refine I1 T hd hB hl (hR.imp (fun⟨v,h,_⟩=>⟨v,h⟩) fun⟨x,h,_⟩=>⟨x,h⟩) (fun _ _ _ h=>by rw[Ph]at h;cases h) (fun x h=>?_) (fun M fr cs w₁ K7 ha' hM=>?_) N _ _ _ (hS.Dz t) hN
 .rcases hR with⟨v',h',_⟩|⟨x,h',hR⟩
  .exact(DN (h'.symm.trans h)).elim
  .exact .inr ⟨x,by rw[h'],hR⟩
 obtain⟨ρ,g',w₂,E,⟨jJ,jK,BC,cs',e,rfl,hk⟩,hw,_⟩:=K7;cases e;have ha:B.top=true/\(AV fr cs).callers.length=B.lcs.length/\(AV fr cs).frame.mode=.returning/\(AV fr cs).frame.defers=[]:=ha'.elim (fun x=>by rw[hs]at x;cases x.1) id;obtain⟨h1,h2,h3⟩:=hk.WT ha.2.1;have yY:fr.fn=f:=(h3.flat (hB.vM Ph).2.1).2.trans G7;have AP:fr.mode=.returning:=ha.2.2.1;have KD:fr.defers=[]:=ha.2.2.2;have hcs:cs=[De P']:=h1.trans hl;subst hcs;have s2:∀w₁,zd P' true (AV fr [De P']) w₁=.go (AV ((De P').finish (fr.tmps.getD i Zf)) []) w₁ (seen P' fr.fn #[]):=fun w₁=>by
  rw[BM.2 (by rw[AP];intro h;cases h)];exact D4 KD AP h3.kind.1 (by rw[yY];exact hf) (results_tmp hr _ _)
 rcases LY (Ry (s2 w₁)) hM with hx|⟨an4,rfl,hz⟩
 .have:=congrArg ZbH (Fw hx).2.1
  simp at this
 obtain⟨h4,_,h5⟩:=Fw (runN_ended (E4 H0) hz);rcases hR with⟨v,h',hR⟩|⟨x,h',_⟩
 .have hv:fr.tmps.getD i Zf=v:=MX (h4.trans h')
  refine .inl ⟨ha',h1,i,hr,?_,rfl,_,s2⟩;show Post (fr.tmps.getD i Zf) w₁;rw[hv,h5];exact hR
 .exact(DN (h4.trans h')).elim
end
structure D_ (S:Nat->Prop)(w w₂:Zc):Prop where
 same:∀b,S b->w₂.heap[b]?=w.heap[b]?
 size:w.heap.size<=w₂.heap.size
 os:w₂.os=w.os
def D_.refl (S:Nat->Prop)(w:Zc):D_ S w w:=⟨fun _ _=>rfl,Zj _,rfl⟩
variable {S:Nat->Prop}
def D_.trans {a b c:Zc}(h:D_ S a b)(k:D_ S b c):D_ S a c:=⟨fun x hx=>(k.same x hx).trans (h.same x hx),Zt h.size k.size,k.os.trans h.os⟩
def Ip (S:Nat->Prop)(w w₁:Zc):Nat->Prop:=fun b=>S b\/(w.heap.size<=b/\b<w₁.heap.size)
def WV (S Lk:Nat->Prop)(e:zc):Prop:=
 match e.loc with
 | .cell a=>S a.block/\(e.write=true->¬Lk a.block)
 | .obj r=>S r/\(e.write=true->¬Lk r)
 | .mark .noRoom=>True
 | .output=>True
 |_=>False
structure Mq (S Lk:Nat->Prop)(w w₁:Zc)(es:Array zc):Prop where
 size:w.heap.size<=w₁.heap.size
 still:∀b,b<w.heap.size->¬S b\/Lk b->w₁.heap[b]?=w.heap[b]?
 os:w₁.os=w.os
 tape:w₁.tape=w.tape
 output:w₁.output=w.output
 evs:∀e∈es,WV (Ip S w w₁) Lk e
inductive aC (P:Zp)(m:Bool)(Lk:Nat->Prop)(Stop:(Nat->Prop)->Zi->Zc->Prop):(Nat->Prop)->Zi->Zc->Prop
 |stop {S:Nat->Prop} {g:Zi} {w:Zc} (h:∀w₂,D_ S w w₂->Stop S g w₂):aC P m Lk Stop S g w
 |step {S:Nat->Prop} {g:Zi} {w:Zc} (hs:g.status=.running) (GX:Zc->Zi) (E6:Zc->Zc) (Jl:Zc->Array zc)
   (h:∀w₂,D_ S w w₂->zd P m g w₂=.go (GX w₂) (E6 w₂) (Jl w₂)/\Mq S Lk w₂ (E6 w₂) (Jl w₂)) (k:∀w₂,D_ S w w₂->aC P m Lk Stop (Ip S w₂ (E6 w₂)) (GX w₂) (E6 w₂)):aC P m Lk Stop S g w
section
variable {P' P:Zp}{B:Ik}{m m':Bool}{Lk:Nat->Prop}
variable {g g':Zi}
open Classical in
def aC.bB {Stop:(Nat->Prop)->Zi->Zc->Prop}(hs:g.status=.running)
 (hx:∀w₂,D_ S w w₂->∃AG w₁ es,zd P m g w₂=.go AG w₁ es/\Mq S Lk w₂ w₁ es/\aC P m Lk Stop (Ip S w₂ w₁) AG w₁):aC P m Lk Stop S g w:=by
 have hy:∀w₂,∃p:Zi×Zc×Array zc,D_ S w w₂->zd P m g w₂=.go p.1 p.2.1 p.2.2/\Mq S Lk w₂ p.2.1 p.2.2/\aC P m Lk Stop (Ip S w₂ p.2.1) p.1 p.2.1:=by
  intro w₂;by_cases h:D_ S w w₂
  .obtain⟨AG,w₁,es,h1,h2,h3⟩:=hx w₂ h
   exact⟨(AG,w₁,es),fun _=>⟨h1,h2,h3⟩⟩
  .exact⟨(g,w,#[]),fun x=>absurd x h⟩
 refine .step hs (fun w₂=>(zu (hy w₂)).1) (fun w₂=>(zu (hy w₂)).2.1) (fun w₂=>(zu (hy w₂)).2.2) (fun w₂ h=>?_) fun w₂ h=>?_
 .exact⟨(zA (hy w₂) h).1,(zA (hy w₂) h).2.1⟩
 .exact(zA (hy w₂) h).2.2
def aC.imp {Stop Stop₂:(Nat->Prop)->Zi->Zc->Prop}(h:aC P m Lk Stop S g w)(hi:∀S g w,Stop S g w->Stop₂ S g w):aC P m Lk Stop₂ S g w:=by
 induction h with
 |stop h=>exact .stop fun w₂ Cw=>hi _ _ _ (h w₂ Cw)
 |step hs GX E6 Jl h _ ih=>exact .step hs GX E6 Jl h ih
def CF (w:Zc)(b:Nat):Prop:=∃t n,w.shape? b=some (t,n)/\∀off,off<n->w.frozen? ⟨b,off,none⟩=true
def fJ (w:Zc)(a:Addr):w.frozen? a=w.frozen? ⟨a.block,a.off,none⟩:=rfl
def CF.lt {w:Zc}{b:Nat}(h:CF w b):b<w.heap.size:=by
 obtain⟨t,n,hs,_⟩:=h;unfold Yx at hs;cases ho:w.heap[b]? with
 |none=>rw[ho]at hs;cases hs
 |some o=>exact(Za.1 ho).1
def FZ.locked (L:FZ ρ σ w w₁ w' w₁' d d'){b:Nat}(h:CF w b):CF w₁ b:=by
 have AA:=h.lt;obtain⟨t,n,hs,hf⟩:=h;exact⟨t,n,L.FK.shape b t n AA hs,fun off ho=>L.FK.frozen _ AA (hf off ho)⟩
def FZ.lX (L:FZ ρ σ w w₁ w' w₁' d d'){b:Nat}(h:CF w b)(he:e∈d)(hw:e.write=true):(∀a,e.loc=.cell a->a.block≠b)/\e.loc≠ .obj b:=by
 have AA:=h.lt;obtain⟨t,n,hs,hf⟩:=h;refine⟨fun a ha hb=>?_,fun ho=>?_⟩
 .subst hb
  obtain⟨h1,h2⟩:=L.FK.Sr e he hw a ha AA;rw[fJ,hf _ (h2 t n hs)]at h1;cases h1
 .have:=L.FK.pH e he hw b ho AA
  rw[hs]at this;cases this
def K8 (J:Nat->Obj->Prop)(w:Zc)(b:Nat):Prop:=CF w b\/∃o,J b o/\w.heap[b]?=some o
def FZ.fK (L:FZ ρ σ w w₁ w' w₁' d d'){b:Nat}(hq:Quiet o)(AA:b<w.heap.size)(h:w₁.heap[b]?=some o)(he:e∈d)(hw:e.write=true):(∀a,e.loc=.cell a->a.block≠b)/\e.loc≠ .obj b:=by
 obtain⟨h1,h2⟩:=(L.FK.awake b o hq AA h).2 e he hw;exact⟨fun a ha hb=>h2 a hb ha,h1⟩
structure NY (P' P:Zp)(B:Ik)(J:Nat->Obj->Prop)(ρ₀:Ren)(n₀ n₀':Nat)(Lk:Nat->Prop)(S:Nat->Prop)(ρ:Ren)(g:Zi)(w:Zc)(g':Zi)(w':Zc):Prop where
 env:Env P' P ρ
 le:ρ₀.le ρ
 fresh:∀b c,ρ b=some c->ρ₀ b=some c\/(n₀<=b/\n₀'<=c)
 size:n₀<=w.heap.size/\n₀'<=w'.heap.size
 goes:vL P' P B ρ g g'\/agu B ρ g g'\/jG P' P B ρ g g'
 world:WR ρ w w'
 lock:∀c,Lk c->∃b,ρ b=some c/\K8 J w b
 holds:∀c,S c↔∃b,ρ b=some c
def WR.rely (h:WR ρ w w')(hS:∀c,S c↔∃b,ρ b=some c)(hr:D_ S w' w₂):WR ρ w w₂:=by
 refine⟨fun b c hb=>?_,hr.os.trans h.os⟩;obtain⟨o,o',h1,h2,h3⟩:=h.obj b c hb;exact⟨o,o',h1,by rw[hr.same c ((hS c).2 ⟨b,hb⟩)];exact h2,h3⟩
def WR.CX (h:WR ρ w w₂):Iw ρ (tp w (fun i=>w₂.tape (i - w.drawn+w₂.drawn))) w₂:=
 ⟨h.obj,fun i q=>by show w₂.tape (w.drawn+i - w.drawn+w₂.drawn) q=_;rw[Zbt,Nat.add_comm],h.os⟩
variable {Stop:Zi->Zc->Prop}
def CE.yZ (K:Dq P' B m Stop)(h:CE P' B m Stop g w)(hx:HJ B g\/Q0 B g):Stop g w:=by
 rcases K.back g w hx with h'|K9
 .exact h'
 .cases h with
  |stop h=>exact h
  |step hn hr AG w₁ es h k=>
   rcases K.back g (tp w w.tape) hx with h'|K9
   .exact h'
   .exact absurd (h w.tape) (K9 _ _ _)
def y8 (P' P:Zp)(B:Ik)(J:Nat->Obj->Prop)(Stop:Zi->Zc->Prop)(ρ₀:Ren)(n₀ n₀':Nat)(Lk:Nat->Prop)(S:Nat->Prop)(g':Zi)(w':Zc):Prop:=
 ∃ρ g w,Stop g w/\NY P' P B J ρ₀ n₀ n₀' Lk S ρ g w g' w'
def qm (P' P:Zp)(B:Ik)(J:Nat->Obj->Prop)(D:Zi->Zc->Prop)(ρ₀:Ren)(n₀ n₀':Nat)(Lk:Nat->Prop)(S:Nat->Prop)(g':Zi)(w':Zc):Prop:=
 ∃ρ g w t,D g w/\jG P' P B ρ g g'/\NY P' P B J ρ₀ n₀ n₀' Lk S ρ g (tp w t) g' w'
def y_ (P' P:Zp)(B:Ik)(J:Nat->Obj->Prop)(D Stop:Zi->Zc->Prop)(ρ₀:Ren)(n₀ n₀':Nat)(Lk:Nat->Prop)(S:Nat->Prop)(g':Zi)(w':Zc):Prop:=
 y8 P' P B J Stop ρ₀ n₀ n₀' Lk S g' w'\/qm P' P B J D ρ₀ n₀ n₀' Lk S g' w'
def CE.Dz (hb:∀g w t,Stop g w->Stop g (tp w t))(h:CE P' B m Stop g w)(t:Tape):CE P' B m Stop g (tp w t):=by
 cases h with
 |stop h=>exact .stop (hb _ _ _ h)
 |step hn hr AG w₁ es h k=>exact .step hn hr AG w₁ es (fun t'=>h t') k
def bC {B:Ik}(h:vL P' P B ρ g g'):g'.status=.running:=by
 obtain⟨fr,cs,BC,cs',_,rfl,_⟩:=h
 rfl
variable {J:Nat->Obj->Prop}
def K_ (T:Twins P' P)(hd:BW<=P.depth)(hB:B.Mp)(K:Dq P' B m Stop){D:Zi->Zc->Prop}(hD:∀g w t AG w₁ es,D g w->¬BZ B g->zd P' m g (tp w t)=.go AG w₁ es->D AG w₁){ρ₀:Ren}{n₀ n₀':Nat}(hJq:∀b o,J b o->Quiet o/\b<n₀)(hJ:∀g w,D g w->n₀<=w.heap.size->CE P' B m Stop g w->∀b o,J b o->w.heap[b]?=some o)(hX:∀σ g w,ρ₀.le σ->Vz B σ g->¬Stop g w)(hM:CE P' B m Stop g w)(S1:D g w):
  ∀(S:Nat->Prop) (ρ:Ren) (g':Zi) (w':Zc),NY P' P B J ρ₀ n₀ n₀' Lk S ρ g w g' w'->aC P m' Lk (y_ P' P B J D Stop ρ₀ n₀ n₀' Lk) S g' w':=by
 have stop:∀(g:Zi) (w:Zc),Stop g w->∀(S:Nat->Prop) (ρ:Ren) (g':Zi) (w':Zc),NY P' P B J ρ₀ n₀ n₀' Lk S ρ g w g' w'->aC P m' Lk (y_ P' P B J D Stop ρ₀ n₀ n₀' Lk) S g' w':=by
  intro g w h S ρ g' w' H;refine .stop fun w₂ hr=>.inl ⟨ρ,g,w,h,H.env,H.le,H.fresh,⟨H.size.1,Zt H.size.2 hr.size⟩,H.goes,H.world.rely H.holds hr,H.lock,H.holds⟩
 induction hM with
 |stop h=>exact stop _ _ h
 | @step g w hn hrn AG w₁ es h k ih=>
  intro S ρ g' w' H;have ih:=fun t=>ih t (hD _ _ t _ _ _ S1 hn (h t));have hQ:=fun t hz=>hJ _ _ (hD _ _ t _ _ _ S1 hn (h t)) hz (k t);rcases H.goes with hG|hb|KE
  .refine aC.bB (bC hG) fun w₂ hr=>?_
   have hw:=(H.world.rely H.holds hr).CX;generalize ht:(fun i=>w₂.tape (i - w.drawn+w₂.drawn))=t at hw;obtain⟨Bw,D9,yV,hg,hx⟩:=SZ (m:=m) (m':=m') T H.env hd hB hG hn hw (fun o u e=>by rw[h t];intro x;cases x);rw[h t]at hg;cases hg;rcases hx with⟨σ,hle,hl,_⟩|⟨σ,w₁',Dj,BH,L,hs,hO,_⟩
   .exact absurd ((k t).yZ K (.inr hl.lost)) (hX σ _ _ (Ren.le_trans H.le hle) hl)
   .have aa0:=hQ t (Zt H.size.1 L.FK.size)
    have unw:∀ {b:Nat},K8 J w b->∀ {e:zc},e∈es t->e.write=true->(∀a,e.loc=.cell a->a.block≠b)/\e.loc≠ .obj b:=by
     rintro b (hl|⟨o,ho,_⟩) e he hw
     .exact L.lX (b:=b) hl he hw
     .exact L.fK (hJq b o ho).1 (Zm (hJq b o ho).2 H.size.1) (aa0 b o ho) he hw
    refine⟨Dj,w₁',BH,hs,⟨L.FK.NK,fun b hb hc=>?_,L.FK.os,L.FK.tape,L.FK.output,fun e' he'=>?_⟩,ih t _ σ Dj w₁' ⟨H.env.mono L.le,Ren.le_trans H.le L.le,fun b c KC=>?_,⟨Zt H.size.1 L.FK.size,Zt H.size.2 (Zt hr.size L.FK.NK)⟩,hO,L.world,fun c hc=>?_,fun c=>?_⟩⟩
    .rcases L.FK.still b hb with x|⟨b₀,h0,x⟩
     .exact x
     .exfalso
      rcases hc with hc|hc
      .exact hc ((H.holds b).2 ⟨b₀,h0⟩)
      .obtain⟨an5,h1,h2⟩:=H.lock b hc
       obtain rfl:=ρ.inj _ _ _ h0 h1;rcases x with x|⟨e,he,Ru,⟨a,ha,qu⟩|ho⟩
       .exact x
       .exact(unw h2 he Ru).1 a qu ha
       .exact(unw h2 he Ru).2 ho
    .obtain⟨e,he,Qg⟩:=L.evs.right he'
     have held:∀b c,σ b=some c->Ip S w₂ w₁' c:=by
      intro b c KC;rcases L.FK.fresh b c KC with x|⟨_,x⟩
      .exact .inl ((H.holds c).2 ⟨b,x⟩)
      .exact .inr ⟨x,(L.world.lt KC).2⟩
     have unl:∀b c,σ b=some c->Lk c->K8 J w b:=by
      intro b c KC hc;obtain⟨an5,h1,h2⟩:=H.lock c hc;obtain rfl:=σ.inj _ _ _ KC (L.le.1 _ _ h1);exact h2
     have agz:=Qg.loc;unfold WV;cases hl:e.loc<;>cases Kt:e'.loc<;>rw[hl,Kt]at agz<;>cases agz
     .rename_i ha
      exact⟨held _ _ ha.1,fun Ru hc=>(unw (unl _ _ ha.1 hc) he (Qg.write▸Ru)).1 _ hl rfl⟩
     .rename_i ha
      exact⟨held _ _ ha,fun Ru hc=>(unw (unl _ _ ha hc) he (Qg.write▸Ru)).2 hl⟩
     .trivial
     .rename_i hm
      cases hm;trivial
    .rcases L.FK.fresh b c KC with x|⟨x,y⟩
     .exact H.fresh b c x
     .exact .inr ⟨Zt H.size.1 x,Zt (Zt H.size.2 hr.size) y⟩
    .obtain⟨b,h1,h2⟩:=H.lock c hc
     exact⟨b,L.le.1 _ _ h1,h2.elim (fun x=>.inl (L.locked (w:=tp w t) x)) fun⟨o,x,_⟩=>.inr ⟨o,x,aa0 b o x⟩⟩
    .constructor
     .rintro(x|⟨x,y⟩)
      .obtain⟨b,hb⟩:=(H.holds c).1 x
       exact⟨b,L.le.1 _ _ hb⟩
      .obtain⟨b,hb,_⟩:=L.FK.new c x y
       exact⟨b,hb⟩
     .rintro⟨b,hb⟩
      rcases L.FK.fresh b c hb with x|⟨_,x⟩
      .exact .inl ((H.holds c).2 ⟨b,x⟩)
      .exact .inr ⟨x,(L.world.lt hb).2⟩
  .obtain⟨_,c,r,c',r',v,v',h1,_,_,h2,_⟩:=hb
   rcases K.back g w (.inl ⟨c,r,v,h1,h2⟩) with h|K9
   .exact stop _ _ h S ρ g' w' H
   .exact absurd (h w.tape) (K9 _ _ _)
  .refine .stop fun w₂ hr=>.inr ⟨ρ,g,w,w.tape,S1,KE,H.env,H.le,H.fresh,⟨H.size.1,Zt H.size.2 hr.size⟩,H.goes,H.world.rely H.holds hr,H.lock,H.holds⟩
def MY (T:Twins P' P)(hd:BW<=P.depth)(hB:B.Mp)(K:Dq P' B m Stop)(hJq:∀b o,J b o->Quiet o)(hJ:∀g w,Stop g w->∀b o,J b o->w.heap[b]?=some o)(hM:CE P' B m Stop g w):
  (FL P' P B g w\/HJ B g\/Q0 B g)->∀b o,J b o->b<w.heap.size->w.heap[b]?=some o:=by
 induction hM with
 |stop h=>exact fun _ b o hj _=>hJ _ _ h b o hj
 | @step g w hn _ AG w₁ es h k ih=>
  rintro(hS|hx) b o hj hb
  .obtain⟨hO,_,_,_,hz,hW⟩:=(hS.Dz w.tape).step T hd hB hn (h w.tape)
   exact hW b o (hJq b o hj) hb (ih w.tape hO b o hj (Zm hb hz))
  .rcases K.back g w hx with h'|K9
   .exact hJ _ _ h' b o hj
   .exact absurd (h w.tape) (K9 _ _ _)
end
end Go.FO
namespace Go.FO
open Go Go.Conc
open Go.ConcN (sumTo upd sumTo_upd upd_ne upd_same)
section
variable {P:Zp}{Lk:Nat->Prop}{Shun:Loc->Prop}
def He (Shun:Loc->Prop)(n:Nat):Prop:=∀l,Shun l->∃a:Addr,l=.cell a/\a.block<n
def Hf (Shun:Loc->Prop)(S:Nat->Prop)(n:Nat):Prop:=∀b,S b->b<n/\∀a:Addr,a.block=b->¬Shun (.cell a)
variable {S:Nat->Prop}
variable {w w' w₁ w₂ w₁' CN:Zc}
def Hf.wid (h:Hf Shun S w.heap.size)(hs:He Shun w.heap.size)(Ek:w.heap.size<=w₁.heap.size):Hf Shun (Ip S w w₁) w₁.heap.size:=by
 rintro b (hb|⟨h1,h2⟩)
 .exact⟨Zm (h b hb).1 Ek,(h b hb).2⟩
 .refine⟨h2,fun a ha hx=>?_⟩
  obtain⟨a',e,AA⟩:=hs _ hx;cases e;omega
variable {l l' i n r r' N:Nat}
variable {e e':zc}
def ac2 {B:Nat}(h:WV S Lk e)(hS:Hf Shun S B)(hs:He Shun n):EvL Shun B e:=by
 obtain⟨loc,wr,sy⟩:=e;unfold WV at h;cases loc with
 |cell a=>
  dsimp only at h;obtain⟨h1,h2⟩:=hS _ h.1;refine⟨fun x hx hsh=>?_,by simp,by simp,?_⟩
  .simp only[ZY,Yn,ZN]at hx
   subst hx;exact absurd hsh (h2 a rfl)
  .simp only[ZY,Zcj,Loc.low];exact h1
 |obj r=>
  dsimp only at h;obtain⟨h1,h2⟩:=hS _ h.1;refine⟨fun x hx hsh=>?_,by simp,by simp,?_⟩
  .obtain⟨a,ha,_⟩:=hs _ hsh
   cases wr<;>cases sy<;>simp[ZY,Yn]at hx<;>(subst hx;cases ha)
  .cases wr<;>cases sy<;>simp[ZY,Zcj,Loc.low]<;>exact h1
 |mark m=>
  cases m<;>first|exact h.elim|skip
  refine⟨fun x hx=>by simp[ZY,Yn]at hx,by simp,by simp,?_⟩;simp[ZY,Zcj]
 |output=>
  refine⟨fun x hx hsh=>?_,by simp,by simp,?_⟩
  .obtain⟨a,ha,_⟩:=hs _ hsh
   simp only[ZY,Yn,ZN]at hx;subst hx;cases ha
  .simp only[ZY,Zcj,Loc.low]
 |_=>exact h.elim
structure MZ (S Lk:Nat->Prop)(w w':Zc)(S':Nat->Prop):Prop where
 size:w.heap.size<=w'.heap.size
 still:∀b,b<w.heap.size->¬S b\/Lk b->w'.heap[b]?=w.heap[b]?
 os:w'.os=w.os
 tape:w'.tape=w.tape
 output:w'.output=w.output
 more:∀b,S' b->S b\/w.heap.size<=b
def MZ.refl (S:Nat->Prop)(w:Zc):MZ S Lk w w S:=⟨Zj _,fun _ _ _=>rfl,rfl,rfl,rfl,fun _ h=>.inl h⟩
def MZ.step {S S':Nat->Prop}{w w₁ w₂:Zc}{es:Array zc}(h:Mq S Lk w w₁ es)(k:MZ (Ip S w w₁) Lk w₁ w₂ S'):MZ S Lk w w₂ S':=by
 refine⟨Zt h.size k.size,fun b hb hx=>?_,k.os.trans h.os,k.tape.trans h.tape,k.output.trans h.output,fun b hb=>?_⟩
 .rw[k.still b (Zm hb h.size) (hx.imp (fun hn x=>x.elim hn (fun y=>by omega)) id)]
  exact h.still b hb hx
 .rcases k.more b hb with(x|x)|x
  .exact .inl x
  .exact .inr x.1
  .exact .inr (Zt h.size x)
def jN (S:Nat->Prop)(w:Zc)(d:Nat):D_ S w (w.at d):=⟨fun _ _=>rfl,Zj _,rfl⟩
def S2 {Stop:(Nat->Prop)->Zi->Zc->Prop}{a:Zi}(h:aC P true Lk Stop S a w):
  ∀(M:Nat) (w₂:Zc) (gs:Array Zi) (sl:Option (Nat×Nat)) (t:Y8) (q:Nat->Nat),sumTo gs.size q<=M->D_ S w w₂->gs[0]?=some a->Leavers P t gs q->Past Shun w₂.heap.size t->Hf Shun S w₂.heap.size->He Shun w₂.heap.size->
   ∃(N:Nat) (gs':Array Zi) (a':Zi) (w':Zc) (Jm:Option (Nat×Nat)) (t':Y8) (q':Nat->Nat) (S':Nat->Prop),
    ZaI P N (Ys gs w₂ sl) t=(.next (Ys gs' w' Jm),t')/\gs'.size=gs.size/\gs'[0]?=some a'/\Stop S' a' w'/\Leavers P t' gs' q'/\Past Shun w'.heap.size t'/\Hf Shun S' w'.heap.size/\He Shun w'.heap.size/\MZ S Lk w₂ w' S':=by
 induction h with
 | @stop S a w h=>
  intro M w₂ gs sl t q _ hr h0 hL hP hS hs;exact⟨0,gs,a,w₂,sl,t,q,S,rfl,rfl,h0,h w₂ hr,hL,hP,hS,hs,MZ.refl _ _⟩
 | @step S a w BD GX E6 Jl B5 k ih=>
  intro M
  induction M with
  |zero=>?_
  |succ M ihM=>?_
  all_goals
   intro w₂ gs sl t q hM hr h0 hL hP hS hs;have haw:∀g∈gs,awake g:=by
    intro g hg;obtain⟨i,hi,rfl⟩:=ZbR.1 hg;rcases z7 i with rfl|E7
    .have:gs[0]=a:=by simpa[ZC hi]using h0
     rw[this];exact awake_of (.inl BD)
    .exact awake_of ((hL.old i _ E7 (ZC hi)).status.elim .inl fun x=>.inr (.inr x))
   obtain⟨i,g,d,Jm,hi,hg,Bm⟩:=crowd_pick (P:=P) (w:=w₂) (sl:=sl) haw ⟨0,a,h0,BD⟩;have Qg:=hr.trans (jN S w₂ d);rcases z7 i with rfl|E7
   .obtain rfl:g=a:=by rw[h0]at hi;exact(ZK hi).symm
    obtain⟨hgo,hG⟩:=B5 (w₂.at d) Qg;have FQ:=Zb6 (P:=P) (sl:=Jm) (i:=0) hi (show zd P (0==0) g (w₂.at d)=_ from hgo);have Ek:((gs.map (woken P g (GX (w₂.at d)) (E6 (w₂.at d)))).setIfInBounds 0 (GX (w₂.at d))).size=gs.size:=by simp
    have AA:0<gs.size:=(Za.1 h0).1;have hW:=Hf.wid (w:=w₂.at d) hS hs hG.size;have D5:He Shun (E6 (w₂.at d)).heap.size:=fun l hl=>by obtain⟨x,e,hx⟩:=hs l hl;exact⟨x,e,Zm hx hG.size⟩
    obtain⟨N,gs',a'',aB,qv,t',q',S',QX,O3,h0',WX,Ut,hP',hH',ac5,hD⟩:=ih (w₂.at d) Qg (sumTo ((gs.map (woken P g (GX (w₂.at d)) (E6 (w₂.at d)))).setIfInBounds 0 (GX (w₂.at d))).size q) (E6 (w₂.at d)) ((gs.map (woken P g (GX (w₂.at d)) (E6 (w₂.at d)))).setIfInBounds 0 (GX (w₂.at d))) Jm (t++ZO 0 g.frame.fn g.frame.place (Jl (w₂.at d))) q (Zj _) (D_.refl _ _) (by simp[AA])
     ⟨fun j x hj hx=>by
      have Bn:0≠j:=by omega
      rw[Zk Bn,zN]at hx;obtain⟨y,hy,rfl⟩:=zf.1 hx;have hq:=hL.old j y hj hy;rw[woken_quitsD hq,Y9 t (by omega) _ (fun op hop=>by obtain⟨e,_,rfl⟩:=ZW hop;rfl)];exact hq,fun j hj=>by
      rw[Y9 t (g':=0) (by simp at hj;omega) _ (fun op hop=>by obtain⟨e,_,rfl⟩:=ZW hop;rfl)];exact hL.above j (by simpa using hj)⟩
     ((hP.mono hG.size).own fun e he=>ac2 (hG.evs e he) hW hs) hW D5
    exact⟨N+1,gs',a'',aB,qv,t',q',S',by simp only[ZaI,Bm,FQ];exact QX,O3.trans Ek,h0',WX,Ut,hP',hH',ac5,MZ.step (w:=w₂) ⟨hG.size,hG.still,hG.os,hG.tape,hG.output,hG.evs⟩ hD⟩
   .have hq:=hL.old i g E7 hi
    have hi0:(i==0)=false:=by simp;omega
    have AA:i<gs.size:=(Za.1 hi).1;cases qw:q i with
    |zero=>rw[qw]at hq;rw[hq.1]at hg;cases hg
    |succ k'=>
     rw[qw]at hq;rcases hq with⟨hf,_⟩|⟨_,g',es,hm,qy,Q7⟩
     .rw[hf]at hg;cases hg
     have FQ:=Zb6 (P:=P) (sl:=Jm) (i:=i) hi (by rw[hi0];exact qy (w₂.at d));have Ek:((gs.map (woken P g g' (w₂.at d))).setIfInBounds i g').size=gs.size:=by simp
     have agA:sumTo gs.size (upd q i k')+(k'+1)=sumTo gs.size q+k':=by
      have:=sumTo_upd q k' id AA;simpa[qw]using this
     first
     |(exfalso;omega)
     |(obtain⟨N,gs',a'',aB,qv,t',q',S',QX,O3,h0',WX,Ut,hP',hH',ac5,hD⟩:=ihM (w₂.at d) ((gs.map (woken P g g' (w₂.at d))).setIfInBounds i g') Jm (t++ZO i g.frame.fn g.frame.place es) (upd q i k') (by rw[Ek];omega) Qg (by
         have Bn:i≠0:=by omega
         rw[Zk Bn,zN,h0];simp[woken_run BD])
        ⟨fun j x hj hx=>by
         by_cases Ku:i=j
         .subst Ku
          rw[Z5 (by simpa using AA)]at hx;obtain rfl:=ZK hx;rw[upd_same,Deaf_own];exact Q7
         .rw[Zk Ku,zN]at hx
          obtain⟨y,hy,rfl⟩:=zf.1 hx;have hqj:=hL.old j y hj hy;rw[woken_quitsD hqj,upd_ne q k' (Zbq Ku),Y9 t Ku _ (fun op hop=>by obtain⟨e,_,rfl⟩:=ZW hop;rfl)];exact hqj,fun j hj=>by
         rw[Y9 t (g':=i) (by simp at hj;omega) _ (fun op hop=>by obtain⟨e,_,rfl⟩:=ZW hop;rfl)];exact hL.above j (by simpa using hj)⟩
        (hP.mute (by omega) hm) hS hs
       exact⟨N+1,gs',a'',aB,qv,t',q',S',by simp only[ZaI,Bm,FQ];exact QX,O3.trans Ek,h0',WX,Ut,hP',hH',ac5,⟨hD.size,hD.still,hD.os,hD.tape,hD.output,hD.more⟩⟩)
end
end Go.FO
