/- Part of a proof. -/
import Derived.Conc.Beside
set_option maxRecDepth 100000
set_option maxHeartbeats 6400000
noncomputable section
set_option linter.all false
open Array renaming getElem?_eq_some_iff->Za,getElem?_eq_getElem->Zx,getElem?_eq_none_iff->ZaW,getElem?_push->YI,getElem?_setIfInBounds->Z5,getElem?_extract->Zd4,getElem?_map->zF,length_toList->Zd2,replicate->Yu,getD_eq_getD_getElem?->Yp,getElem?_modify->Y7,mem_append->ZaH,append_assoc->Zed,range->YN,forIn_toList->Zaf,all_eq_true_iff_forall_mem->zS,foldl_toList->Zb0,mapM_eq_mapM_toList->YW,eq_empty_of_size_eq_zero->Zcj,isEmpty->Zdc,toList_filter->Zd1,toArray_toList->ZdU,filter->Z1,mem_of_getElem?->zY,getElem?_append_left->zr,getElem?_setIfInBounds_ne->Zk,mem_iff_getElem->ZbL,getElem?_setIfInBounds_self_of_lt->ZV
open Bool renaming and_eq_true->ZF,eq_iff_iff->ZcG,or_eq_true->ZaK
open Classical renaming byContradiction->YQ,choose->zo,choose_spec->zv
open Go renaming FuncId->ZaQ,Value->Zf,TypeId->Zs,undef->Ze,World->Zb,Event->Z9,Program->Zo,Unsupported->Zdf,askRoom->Zah,loadCellsFrom->ZdD,storeCells->ZbX,loadVar->Zdd,typeHandle->ZdV,runtimePanic->zw,boundsPanic->ZaT,byteOfCell->ZdF,behindNumber->ZbP,Operand->Zbv,callFunc->Zz,Frame->ZM,resolve->Zbh,execOp->Zby,PanicEntry->zk,Goroutine->Zi,exitTo->Zbu,stepG->za,Trace->YZ,runNT->ZaE
open Go.Addr renaming add->Zcu
open Go.Builtin renaming len_->Zc9,cap_->Zda,lenOf->ZcX,firstCells->Zu,copy_->ZcL,holdsCells->ZdT,mayShare->Yt,append_->Zao,zeroCells->Zt,nextslicecap->Yx,unsafeAdd_->YP,max2->Zc8,max_->Zc7,min2->Zc6,min_->Zc5
open Go.CallKind renaming early->ZaL
open Go.Conc renaming crowd->Yj,runT_crowd_go->Zb1,Deaf_other->Y0,mem_ofEvents->ZQ
open Go.Conv renaming bytesToString->Zat
open Go.Deferred renaming ofValue->Yd
open Go.Frame renaming eval->Zeb,finish->Zdr,raise->ZaV,enter->Zq,round->ZdR
open Go.GStep renaming after->zM
open Go.Instr renaming alloc->ZdP,fieldAt->Zc2,indexAt->Zb9,sliceBound->Zcg,sliceBounds->Zbf,slice->ZbI,sliceAt->ZaI,field->ZdO,index->ZdN,extract->Zc3,makeInterface->ZbR,makeMap->Zc0,checkKey->YD,sameNow->Zbj,findNow->ZaJ,findAsking->zX,findKey->Zaj,fill->Zaq,build->Zbg,buildSlice->Zci,makeSlice->Zdp,sameBits->zH,keyThatStays->Yi,lookup->Za2,mapUpdate->ZaS,mapEntry->ZcK,entryStore->Zch,range->ZdM,next->Zea,typeAssert->Zbt,getLoop->Zc1,enterLoop->Zad,yield->ZdL,beginRound->ZaC,endRound->ZaU,endLoop->ZaD,takeDeferred->Yw
open Go.Made renaming depth->ZcT
open Go.MemAct renaming ofEvent->ZR,touch?->Yg,low->Zce
open Go.MemOp renaming ofEvents->ZK
open Go.Op renaming equalIn->ZaZ,equal->Zaa,stringOp->ZcJ,twoPlaces->Zd0
open Go.Program renaming underlying->ZbU,cellsOf->Zco,eqGuardType->Zdy
open Go.Question renaming extern->Zcd
open Go.Region renaming wanted->Yf
open Go.Sem renaming runT_bind'->ze,runT->ZI,pure->Zd7,runT_eq->zh,bind->Zb8
open Go.Value renaming pointer->ZbT,slice->Zy,tuple->YK
open Go.World renaming cell?->zy,shape?->Yn,frozen?->Yo,setCell->Z8
open List renaming all_cons->Zbs,filter_cons->ZbB,append_nil->ZaA,range->Yr,cons_append->Za1,exists_cons_of_ne_nil->Zam,append_assoc->Zae,length_cons->zb
open Nat renaming add_assoc->ZbZ,le_refl->Zj,le_trans->Zr,lt_of_lt_of_le->Zl,lt_or_ge->Zar,le_of_succ_le->Zbb,add_sub_cancel_left->Zbl,eq_zero_or_pos->zQ
open Nat.succ renaming inj->ZE
open Ne renaming symm->Za0
open Option renaming map_eq_some_iff->zc,map_some->Zdh,isNone_eq_false_iff->ZcB,getD_some->Zw
open Option.some renaming inj->ZW,injEq->ZJ
open Std.Legacy.Range renaming forIn_eq_forIn_range'->Zdw
namespace Go.FA
open Go
structure Pk where
 val:ZaQ->Bool
 Nc:ZaQ->Bool
 dir:ZaQ->Nat->Bool
 low:Nat
instance:CoeFun Pk (fun _=>ZaQ->Bool):=⟨Pk.val⟩
structure Ren where
 map:Nat->Option Nat
 ok:Pk
 good:Code->Bool
 sp:ZaQ->Bool
 inj:∀b sd c,map b=some c->map sd=some c->b=sd
 base:map ok.low=some ok.low
 sep:∀b c,map b=some c->(b<ok.low↔c<ok.low)
instance:CoeFun Ren (fun _=>Nat->Option Nat):=⟨Ren.map⟩
def Ren.le (ρ σ:Ren):Prop:=(∀b c,ρ b=some c->σ b=some c)/\σ.ok=ρ.ok/\σ.good=ρ.good/\σ.sp=ρ.sp
def Ren.le_refl (ρ:Ren):ρ.le ρ:=⟨fun _ _ h=>h,rfl,rfl,rfl⟩
variable {ρ σ τ:Ren}
def Ren.le_trans (h:ρ.le σ)(k:σ.le τ):ρ.le τ:=⟨fun b c x=>k.1 b c (h.1 b c x),k.2.1.trans h.2.1,k.2.2.1.trans h.2.2.1,k.2.2.2.trans h.2.2.2⟩
def Ren.P5 (ρ:Ren)(r r':Nat):Prop:=(∀b,ρ b≠some r')/\ρ.ok.low<r/\ρ.ok.low<r'
def Ren.ext (ρ:Ren)(r r':Nat)(h:ρ.P5 r r'):Ren where
 map:=fun b=>if b=r then some r' else ρ b
 ok:=ρ.ok
 good:=ρ.good
 sp:=ρ.sp
 inj:=by
  intro b sd c hb Kt;split at hb<;>split at Kt
  .omega
  .cases hb;exact absurd Kt (h.1 _)
  .cases Kt;exact absurd hb (h.1 _)
  exact ρ.inj _ _ _ hb Kt
 base:=by
  have:=h.2.1;rw[if_neg (by omega)];exact ρ.base
 sep:=by
  intro b c hb;have h1:=h.2.1;have h2:=h.2.2;split at hb
  .cases hb;omega
  exact ρ.sep b c hb
def AR (ρ:Ren)(a a':Addr):Prop:=ρ a.block=some a'.block/\a'.off=a.off/\a'.spot=a.spot
def Om (ρ:Ren):Option Addr->Option Addr->Prop
 |none,none=>True
 |some a,some a'=>AR ρ a a'
 |_,_=>False
def Rq (ρ:Ren):Option Nat->Option Nat->Prop
 |none,none=>True
 |some a,some a'=>ρ a=some a'
 |_,_=>False
inductive mP (ρ:Ren):Fn->Fn->Prop
 |func {f:ZaQ} (h:ρ.ok f=true):mP ρ (.func f) (.func f)
 |yield {l l':Nat} (h:ρ l=some l'):mP ρ (.yield l) (.yield l')
def adS:Zf->Bool
 | .pointer (some _)| .slice (some _) _ _| .map (some _)| .chan (some _)| .iface .. | .float .. | .complex .. =>true
 | .func (.method _) _ _=>false
 | .func .. =>true
 |_=>false
variable {v x y v' x' i' y' k':Zf}
def cP (h:adS v=true):v.cells= #[v]:=by cases v<;>first|rfl|cases h
def vH:Zf:=.func (.method "") #[.iface 0 (.tuple #[])] #[]
inductive VR (ρ:Ren):Zf->Zf->Prop
 |bool (b:Bool):VR ρ (.bool b) (.bool b)
 |int (k:IntKind) (n:Int):VR ρ (.int k n) (.int k n)
 |string (s:ByteArray):VR ρ (.string s) (.string s)
 |pointer {a a':Option Addr} (h:Om ρ a a'):VR ρ (.pointer a) (.pointer a')
 |slice {a a':Option Addr} (n c:Nat) (h:Om ρ a a'):VR ρ (.slice a n c) (.slice a' n c)
 |map {r r':Option Nat} (h:Rq ρ r r'):VR ρ (.map r) (.map r')
 |chan {r r':Option Nat} (h:Rq ρ r r'):VR ρ (.chan r) (.chan r')
 |func {fn Qt:Fn} {a a' c c':Array Zf} (h:mP ρ fn Qt) (ha:a.size=a'.size) (yy:∀(i:Nat) v v',a[i]?=some v->a'[i]?=some v'->VR ρ v v')
   (hc:c.size=c'.size) (Mi:∀(i:Nat) v v',c[i]?=some v->c'[i]?=some v'->VR ρ v v'):VR ρ (.func fn a c) (.func Qt a' c')
 |nilFunc:VR ρ .nilFunc .nilFunc
 |iface (t:Zs) {v v':Zf} (h:VR ρ v v'):VR ρ (.iface t v) (.iface t v')
 |nilIface:VR ρ .nilIface .nilIface
 |agg {c c':Array Zf} (hc:c.size=c'.size) (Mi:∀(i:Nat) v v',c[i]?=some v->c'[i]?=some v'->VR ρ v v'):VR ρ (.agg c) (.agg c')
 |tuple {c c':Array Zf} (hc:c.size=c'.size) (Mi:∀(i:Nat) v v',c[i]?=some v->c'[i]?=some v'->VR ρ v v'):VR ρ (.tuple c) (.tuple c')
 |Ew {v':Zf} (h:adS v'=true):VR ρ (.tuple #[]) v'
 |meth (n:String) (f c:Array Zf):VR ρ (.func (.method "") #[.iface 0 (.tuple #[])] #[]) (.func (.method n) f c)
inductive Ep {α β:Type}(R:α->β->Prop):List α->List β->Prop
 |nil:Ep R [] []
 |cons {x:α} {y:β} {l:List α} {m:List β} (h:R x y) (t:Ep R l m):Ep R (x::l) (y::m)
variable {α β γ δ:Type}
def Ep.mono {R S:α->β->Prop}{l:List α}{m:List β}(h:Ep R l m)(hs:∀x y,R x y->S x y):Ep S l m:=by
 induction h with
 |nil=>exact .nil
 |cons h _ ih=>exact .cons (hs _ _ h) ih
def Ep.append {R:α->β->Prop}{l l':List α}{m m':List β}(h:Ep R l m)(k:Ep R l' m'):Ep R (l++l') (m++m'):=by
 induction h with
 |nil=>exact k
 |cons h _ ih=>exact .cons h ih
def Bz {α β:Type}(R:α->β->Prop)(a:Array α)(b:Array β):Prop:=a.size=b.size/\∀(i:Nat) x y,a[i]?=some x->b[i]?=some y->R x y
abbrev BS (ρ:Ren):Array Zf->Array Zf->Prop:=Bz (VR ρ)
section
variable {α β:Type}{R:α->β->Prop}{a:Array α}{b:Array β}
variable {l l' i n r r' N:Nat}
def Bz.get {x:α}(h:Bz R a b)(hx:a[i]?=some x):∃y,b[i]?=some y/\R x y:=by
 obtain⟨hi,rfl⟩:=Za.1 hx;have DN:i<b.size:=h.1▸hi;exact⟨b[i],Zx DN,h.2 i _ _ hx (Zx DN)⟩
def Bz.gone (h:Bz R a b)(hx:a[i]?=none):b[i]?=none:=by
 rw[ZaW]at*;rw[<-h.1];exact hx
def Bz.opt (h:Bz R a b)(i:Nat):(a[i]?=none/\b[i]?=none)\/∃x y,a[i]?=some x/\b[i]?=some y/\R x y:=by
 cases hx:a[i]? with
 |none=>exact .inl ⟨rfl,h.gone hx⟩
 |some x=>obtain⟨y,hy,hr⟩:=h.get hx;exact .inr ⟨x,y,rfl,hy,hr⟩
def Bz.nil:Bz R #[] #[]:=⟨rfl,fun i x y h=>by simp at h⟩
def Bz.mono {S:α->β->Prop}(h:Bz R a b)(hs:∀x y,R x y->S x y):Bz S a b:=⟨h.1,fun i x y hx hy=>hs _ _ (h.2 i x y hx hy)⟩
def Bz.push {x:α}{y:β}(h:Bz R a b)(hr:R x y):Bz R (a.push x) (b.push y):=by
 refine⟨by simp[h.1],fun i u v hu hv=>?_⟩;rw[YI]at hu hv;rw[h.1]at hu;split at hu
 .rw[if_pos ‹_›]at hv
  cases hu;cases hv;exact hr
 rw[if_neg ‹_›]at hv;exact h.2 i u v hu hv
def Bz.append {a':Array α}{b':Array β}(h:Bz R a b)(h':Bz R a' b'):Bz R (a++a') (b++b'):=by
 refine⟨by simp[h.1,h'.1],fun i u v hu hv=>?_⟩;rw[Array.getElem?_append]at hu hv;rw[h.1]at hu;split at hu
 .rw[if_pos ‹_›]at hv;exact h.2 i u v hu hv
 rw[if_neg ‹_›]at hv;exact h'.2 _ u v hu hv
def Bz.set {x:α}{y:β}(h:Bz R a b)(hr:R x y)(j:Nat):Bz R (a.setIfInBounds j x) (b.setIfInBounds j y):=by
 refine⟨by simp[h.1],fun i u v hu hv=>?_⟩;rw[Z5]at hu hv;rw[h.1]at hu;split at hu
 .rw[if_pos ‹_›]at hv
  split at hu
  .rw[if_pos ‹_›]at hv;cases hu;cases hv;exact hr
  rw[if_neg ‹_›]at hv;cases hu
 rw[if_neg ‹_›]at hv;exact h.2 i u v hu hv
def Bz.extract (h:Bz R a b)(s e:Nat):Bz R (a.extract s e) (b.extract s e):=by
 refine⟨by simp[h.1],fun i u v hu hv=>?_⟩;rw[Zd4]at hu hv;rw[h.1]at hu;split at hu
 .rw[if_pos ‹_›]at hv;exact h.2 _ u v hu hv
 cases hu
def Bz.map {α' β':Type}{S:α'->β'->Prop}{f:α->α'}{g:β->β'}(h:Bz R a b)(hs:∀x y,R x y->S (f x) (g y)):Bz S (a.map f) (b.map g):=by
 refine⟨by simp[h.1],fun i u v hu hv=>?_⟩;rw[zF,zc]at hu hv;obtain⟨x,hx,rfl⟩:=hu;obtain⟨y,hy,rfl⟩:=hv;exact hs _ _ (h.2 i x y hx hy)
def Bz.single {x:α}{y:β}(h:R x y):Bz R #[x] #[y]:=Bz.push (a:= #[]) (b:= #[]) Bz.nil h
def Bz.list (h:Bz R a b):Ep R a.toList b.toList:=by
 have key:∀(l:List α) (m:List β),l.length=m.length->(∀(i:Nat) x y,l[i]?=some x->m[i]?=some y->R x y)->Ep R l m:=by
  intro l
  induction l with
  |nil=>intro m hm _;cases m with
   |nil=>exact .nil
   |cons _ _=>simp at hm
  |cons x l ih=>intro m hm hr;cases m with
   |nil=>simp at hm
   |cons y m=>exact .cons (hr 0 x y rfl rfl) (ih m (by simpa using hm) fun i u v hu hv=>hr (i+1) u v (by simpa using hu) (by simpa using hv))
 exact key _ _ (by rw[Zd2,Zd2];exact h.1) fun i x y hx hy=>h.2 i x y (by simpa using hx) (by simpa using hy)
def Bz.fL {l:List α}{m:List β}(h:Ep R l m):Bz R l.toArray m.toArray:=by
 induction h with
 |nil=>exact Bz.nil
 | @cons x y l m hr _ ih=>
  have:=(Bz.single hr).append ih;simpa using this
def Bz.replicate {x:α}{y:β}(n:Nat)(h:R x y):Bz R (Yu n x) (Yu n y):=
 ⟨by simp,fun i u v hu hv=>by
  rw[Array.getElem?_replicate]at hu hv;split at hu
  .rw[if_pos ‹_›]at hv;cases hu;cases hv;exact h
  cases hu⟩
end
variable {f':Fn}
def mP.mono (h:ρ.le σ){f:Fn}(x:mP ρ f f'):mP σ f f':=by
 cases x with
 |func f=>exact .func (h.2.1▸f)
 |yield l=>exact .yield (h.1 _ _ l)
variable {a' b':Addr}
def AR.mono (h:ρ.le σ){a:Addr}(x:AR ρ a a'):AR σ a a':=⟨h.1 _ _ x.1,x.2⟩
def Om.mono (h:ρ.le σ){a a':Option Addr}(x:Om ρ a a'):Om σ a a':=by
 cases a<;>cases a'<;>first|exact x|exact AR.mono h x
def Rq.mono (h:ρ.le σ){a a':Option Nat}(x:Rq ρ a a'):Rq σ a a':=by
 cases a<;>cases a'<;>first|exact x|exact h.1 _ _ x
def VR.mono {ρ σ:Ren}(h:ρ.le σ){v v':Zf}(x:VR ρ v v'):VR σ v v':=by
 induction x with
 |bool b=>exact .bool b
 |int k n=>exact .int k n
 |string s=>exact .string s
 |pointer x=>exact .pointer (x.mono h)
 |slice n c x=>exact .slice n c (x.mono h)
 |map x=>exact .map (x.mono h)
 |chan x=>exact .chan (x.mono h)
 |func x ha _ hc _ iha ihc=>exact .func (x.mono h) ha iha hc ihc
 |nilFunc=>exact .nilFunc
 |iface t _ ih=>exact .iface t ih
 |nilIface=>exact .nilIface
 |agg hc _ ih=>exact .agg hc ih
 |tuple hc _ ih=>exact .tuple hc ih
 |Ew h=>exact .Ew h
 |meth n f c=>exact .meth n f c
variable {a b c' t t' args:Array Zf}
def BS.mono (h:ρ.le σ)(x:BS ρ a b):BS σ a b:=Bz.mono x fun _ _=>VR.mono h
def VR.P6 (h:BS ρ a b):VR ρ (.agg a) (.agg b):=.agg h.1 h.2
def VR.tuple' (h:BS ρ a b):VR ρ (.tuple a) (.tuple b):=.tuple h.1 h.2
def VR.Xq {f:Fn}{a' c:Array Zf}(h:mP ρ f f')(ha:BS ρ a a')(hc:BS ρ c c'):VR ρ (.func f a c) (.func f' a' c'):=.func h ha.1 ha.2 hc.1 hc.2
def VR.undef (ρ:Ren):VR ρ Ze Ze:=.tuple' Bz.nil
def VR.cells {ρ:Ren}{v v':Zf}(h:VR ρ v v'):BS ρ v.cells v'.cells:=by
 cases h with
 |agg hc hv=>exact⟨hc,hv⟩
 |bool b=>exact Bz.single (.bool b)
 |int k n=>exact Bz.single (.int k n)
 |string s=>exact Bz.single (.string s)
 |pointer x=>exact Bz.single (.pointer x)
 |slice n c x=>exact Bz.single (.slice n c x)
 |map x=>exact Bz.single (.map x)
 |chan x=>exact Bz.single (.chan x)
 |func x ha yy hc Mi=>exact Bz.single (.func x ha yy hc Mi)
 |nilFunc=>exact Bz.single .nilFunc
 |iface t x=>exact Bz.single (.iface t x)
 |nilIface=>exact Bz.single .nilIface
 |tuple hc hv=>exact Bz.single (.tuple hc hv)
 |Ew h=>rw[cP h];exact Bz.single (.Ew h)
 |meth n f c=>exact Bz.single (.meth n f c)
def VR.getD {d d':Zf}(h:BS ρ a b)(hd:VR ρ d d')(i:Nat):VR ρ (a.getD i d) (b.getD i d'):=by
 rw[Yp,Yp];rcases h.opt i with⟨h1,h2⟩|⟨x,y,h1,h2,hr⟩
 .rw[h1,h2];exact hd
 rw[h1,h2];exact hr
def yz (f f':Nat×Nat):Prop:=f'=f\/f'.2<=f'.1\/(f.1<=f'.1/\f'.2<=f.2)
def okB:Builtin->Bool
 | .append| .cap| .copy| .len| .max| .min=>true
 |_=>false
inductive TgR (ρ:Ren):Target->Target->Prop
 |fn {f f':Fn} {c c':Array Zf} (h:mP ρ f f') (hc:BS ρ c c'):TgR ρ (.fn f c) (.fn f' c')
 |nil:TgR ρ .nil .nil
 |builtin {b:Builtin} (h:okB b=true) (a:Array Zs) (t:Zs) (c:Array Bool):TgR ρ (.builtin b a t c) (.builtin b a t c)
 |collected {r r':Nat} (h:ρ r=some r'):TgR ρ (.collected r) (.collected r')
structure DfR (ρ:Ren)(d d':Deferred):Prop where
 target:TgR ρ d.target d'.target
 args:BS ρ d.args d'.args
inductive fM (ρ:Ren):Deferred->Deferred->Prop
 |mk {b b':Nat} {a a':Array Zf} (h:ρ b=some b'):fM ρ {target:=.collected b,args:=a} {target:=.collected b',args:=a'}
structure LpR (ρ:Ren)(l l':Loop):Prop where
 state:l'.state=l.state
 pending:l'.pending=l.pending
 fn:l'.fn=l.fn
 tmps:BS ρ l.tmps l'.tmps
 params:l'.params=l.params
 assign:l'.assign=l.assign
 body:l'.body=l.body
 run:ρ.ok.Nc l.fn=true/\ρ.sp l.fn=false
 fine:ρ.good l.assign=true/\ρ.good l.body=true/\∀c,l.pending=some c->ρ.good c=true
 defers:ρ l.defers=some l'.defers
structure Ow (ρ:Ren)(e e':MapEntry):Prop where
 key:VR ρ e.key e'.key
 val:VR ρ e.val e'.val
 born:e'.born=e.born
def Pl:Obj->Bool
 | .cells _ _ _| .pending _ _| .view _ _| .number _ _=>false
 |_=>true
inductive Quiet:Obj->Prop
 |coro:Quiet (.coro none)
 |number (a:Addr) (l:Bool):Quiet (.number a l)
inductive OR (ρ:Ren):Obj->Obj->Prop
 |cells {c c':Array Zf} (e:Zs) {f f':Nat×Nat} (h:BS ρ c c') (hf:yz f f'):OR ρ (.cells c e f) (.cells c' e f')
 |map {es BA:Array MapEntry} (k:Nat) (h:Bz (Ow ρ) es BA):OR ρ (.map es k) (.map BA k)
 |chan (cap:Nat) {b b':Array Zf} (cl:Bool) (s r:Nat) (tm:Bool) (h:BS ρ b b'):OR ρ (.chan cap b cl s r tm) (.chan cap b' cl s r tm)
 |stringIter (s:ByteArray) (p:Nat):OR ρ (.stringIter s p) (.stringIter s p)
 |mapIter {m m':Option Nat} (a:Nat) (s:Array Nat) (k:Nat) (h:Rq ρ m m'):OR ρ (.mapIter m a s k) (.mapIter m' a s k)
 |number {a a':Addr} (lost:Bool) (h:AR ρ a a'):OR ρ (.number a lost) (.number a' lost)
 |loop {l l':Loop} (h:LpR ρ l l'):OR ρ (.loop l) (.loop l')
 |Fe:OR ρ (.deferred none) (.deferred none)
 |junk {o':Obj} (h:Pl o'=true):OR ρ (.coro none) o'
 |deferred:OR ρ (.deferred (some [])) (.deferred (some []))
def fM.mono (hle:ρ.le σ){d d':Deferred}(h:fM ρ d d'):fM σ d d':=by
 cases h with
 |mk h=>exact .mk (hle.1 _ _ h)
def LpR.mono (h:ρ.le σ){l l':Loop}(x:LpR ρ l l'):LpR σ l l':=⟨x.state,x.pending,x.fn,BS.mono h x.tmps,x.params,x.assign,x.body,by rw[h.2.1,h.2.2.2];exact x.run,by rw[h.2.2.1];exact x.fine,h.1 _ _ x.defers⟩
def Ow.mono (h:ρ.le σ){e e':MapEntry}(x:Ow ρ e e'):Ow σ e e':=⟨x.key.mono h,x.val.mono h,x.born⟩
def OR.mono {ρ σ:Ren}(h:ρ.le σ){o o':Obj}(x:OR ρ o o'):OR σ o o':=by
 cases x with
 |cells e c f=>exact .cells e (BS.mono h c) f
 |map k e=>exact .map k (Bz.mono e fun _ _=>Ow.mono h)
 |chan cap cl s r tm b=>exact .chan cap cl s r tm (BS.mono h b)
 |stringIter s p=>exact .stringIter s p
 |mapIter a s k m=>exact .mapIter a s k (m.mono h)
 |number l a=>exact .number l (a.mono h)
 |loop l=>exact .loop (l.mono h)
 |Fe=>exact .Fe
 |junk h=>exact .junk h
 |deferred=>exact .deferred
structure WR (ρ:Ren)(w w':Zb):Prop where
 obj:∀b c,ρ b=some c->∃o o',w.heap[b]?=some o/\w'.heap[c]?=some o'/\OR ρ o o'
 os:w'.os=w.os
structure Ii (ρ:Ren)(w w':Zb):Prop where
 obj:∀b c,ρ b=some c->∃o o',w.heap[b]?=some o/\w'.heap[c]?=some o'/\OR ρ o o'
 tape:∀i q,w.tape (w.drawn+i) q=w'.tape (w'.drawn+i) q
 os:w'.os=w.os
variable {w w' w₁ w₂ w₁' CG:Zb}
def Ii.wr (h:Ii ρ w w'):WR ρ w w':=⟨h.obj,h.os⟩
def WR.lt {ρ:Ren}{w w':Zb}(h:WR ρ w w'){b c:Nat}(hb:ρ b=some c):b<w.heap.size/\c<w'.heap.size:=by
 obtain⟨o,o',h1,h2,_⟩:=h.obj b c hb;exact⟨(Za.1 h1).1,(Za.1 h2).1⟩
inductive yA (ρ:Ren):Mark->Mark->Prop
 |noRoom:yA ρ .noRoom .noRoom
inductive vI (ρ:Ren):Loc->Loc->Prop
 |cell {a a':Addr} (h:AR ρ a a'):vI ρ (.cell a) (.cell a')
 |obj {r r':Nat} (h:ρ r=some r'):vI ρ (.obj r) (.obj r')
 |mark {m m':Mark} (h:yA ρ m m'):vI ρ (.mark m) (.mark m')
 |output:vI ρ .output .output
structure rF (ρ:Ren)(e e':Z9):Prop where
 loc:vI ρ e.loc e'.loc
 write:e'.write=e.write
 sync:e'.sync=e.sync\/∃r,e'.loc=.obj r
def yA.mono (_:ρ.le σ){m m':Mark}(x:yA ρ m m'):yA σ m m':=by
 cases x with
 |noRoom=>exact .noRoom
def vI.mono {ρ σ:Ren}(h:ρ.le σ){l l':Loc}(x:vI ρ l l'):vI σ l l':=by
 cases x with
 |cell a=>exact .cell (a.mono h)
 |obj r=>exact .obj (h.1 _ _ r)
 |mark m=>exact .mark (m.mono h)
 |output=>exact .output
variable {e e':Z9}
def rF.mono (h:ρ.le σ)(x:rF ρ e e'):rF σ e e':=⟨x.loc.mono h,x.write,x.sync⟩
def GY:Halt->Prop
 | .stuck _=>True
 | .unsupported (.initOrder _)=>False
 | .unsupported _=>True
 |_=>False
inductive Am (P' P:Zo)(fz:Prop){α β:Type}(Q:Ren->α->β->Prop):Ren->Sem α->Sem β->Prop
 |pure {ρ:Ren} {a:α} {b:β} (h:Q ρ a b):Am P' P fz Q ρ (.pure a) (.pure b)
 |load {ρ:Ren} {a a':Addr} {k:Zf->Sem α} {k':Zf->Sem β} (m:Mode) (ha:AR ρ a a') (h:∀v v',VR ρ v v'->Am P' P fz Q ρ (k v) (k' v')):Am P' P fz Q ρ (.load m a k) (.load m a' k')
 |store {ρ:Ren} {a a':Addr} {v v':Zf} {k:Sem α} {k':Sem β} (m:Mode) (ha:AR ρ a a') (hv:VR ρ v v') (h:Am P' P fz Q ρ k k'):Am P' P fz Q ρ (.store m a v k) (.store m a' v' k')
 |new {ρ:Ren} {o o':Obj} {k:Nat->Sem α} {k':Nat->Sem β} (ho:OR ρ o o') (h:∀r r' σ,ρ.le σ->σ r=some r'->Am P' P fz Q σ (k r) (k' r')):Am P' P fz Q ρ (.new o k) (.new o' k')
 |shape {ρ:Ren} {r r':Nat} {k:Option (Zs×Nat)->Sem α} {k':Option (Zs×Nat)->Sem β} (hr:ρ r=some r') (h:∀s,Am P' P fz Q ρ (k s) (k' s)):Am P' P fz Q ρ (.shape r k) (.shape r' k')
 |frozen {ρ:Ren} {a a':Addr} {k:Bool->Sem α} {k':Bool->Sem β} (ha:AR ρ a a') (h:∀b b',(b'=true->b=true)->Am P' P fz Q ρ (k b) (k' b')):Am P' P fz Q ρ (.frozen a k) (.frozen a' k')
 |getObj {ρ:Ren} {r r':Nat} {k:Obj->Sem α} {k':Obj->Sem β} (hr:ρ r=some r') (h:∀o o',OR ρ o o'->Am P' P fz Q ρ (k o) (k' o')):Am P' P fz Q ρ (.getObj r k) (.getObj r' k')
 |setObj {ρ:Ren} {r r':Nat} {o o':Obj} {k:Sem α} {k':Sem β} (hr:ρ r=some r') (ho:OR ρ o o') (hn:¬Quiet o) (h:Am P' P fz Q ρ k k'):Am P' P fz Q ρ (.setObj r o k) (.setObj r' o' k')
 |choose {ρ:Ren} {k:Nat->Sem α} {k':Nat->Sem β} (q:Question) (h:∀n,Am P' P fz Q ρ (k n) (k' n)):Am P' P fz Q ρ (.choose q k) (.choose q k')
 |program {ρ:Ren} {k:Zo->Sem α} {k':Zo->Sem β} (h:Am P' P fz Q ρ (k P') (k' P)):Am P' P fz Q ρ (.program k) (.program k')
 |mark {ρ:Ren} {m m':Mark} {k:Sem α} {k':Sem β} (hm:yA ρ m m') (h:Am P' P fz Q ρ k k'):Am P' P fz Q ρ (.mark m k) (.mark m' k')
 |env {ρ:Ren} {k:SysRet->Sem α} {k':SysRet->Sem β} (h:∀r,Am P' P fz Q ρ (k r) (k' r)):Am P' P fz Q ρ (.sys .env k) (.sys .env k')
 |bad {ρ:Ren} {x:Halt} {s':Sem β} (h:GY x):Am P' P fz Q ρ (.halt x) s'
 |He {ρ:Ren} {s:Sem α} {s':Sem β} (h:∀w es,∃x u f,s.runT P' w es=(.halt x u,f)/\GY x):Am P' P fz Q ρ s s'
 |panic {ρ:Ren} {v v':Zf} (h:VR ρ v v'):Am P' P fz Q ρ (.halt (.panic v)) (.halt (.panic v'))
variable {P' P:Zo}
def Ku {s:Sem γ}(h:∀w es,∃x u f,s.runT P' w es=(.halt x u,f)/\GY x)(f:γ->Sem α):∀w es,∃x u g,(s.bind f).runT P' w es=(.halt x u,g)/\GY x:=by
 intro w es;obtain⟨x,u,adW,h1,h2⟩:=h w es;exact⟨x,u,adW,by rw[ze,h1],h2⟩
section
variable {P' P:Zo}{fz:Prop}{α β γ δ:Type}{Q:Ren->α->β->Prop}{R:Ren->γ->δ->Prop}
def Am.bind {ρ:Ren}{s:Sem γ}{s':Sem δ}{f:γ->Sem α}{f':δ->Sem β}(h:Am P' P fz R ρ s s')(hf:∀σ a b,ρ.le σ->R σ a b->Am P' P fz Q σ (f a) (f' b)):
  Am P' P fz Q ρ (s.bind f) (s'.bind f'):=by
 induction h with
 |pure h=>exact hf _ _ _ (Ren.le_refl _) h
 |load m ha _ ih=>exact .load m ha fun v v' hv=>ih v v' hv hf
 |store m ha hv _ ih=>exact .store m ha hv (ih hf)
 |new ho _ ih=>exact .new ho fun r r' σ hle hr=>ih r r' σ hle hr fun τ a b Df=>hf τ a b (Ren.le_trans hle Df)
 |shape hr _ ih=>exact .shape hr fun s=>ih s hf
 |frozen ha _ ih=>exact .frozen ha fun b b' hb=>ih b b' hb hf
 |getObj hr _ ih=>exact .getObj hr fun o o' ho=>ih o o' ho hf
 |setObj hr ho hn _ ih=>exact .setObj hr ho hn (ih hf)
 |choose q _ ih=>exact .choose q fun n=>ih n hf
 |program _ ih=>exact .program (ih hf)
 |mark hm _ ih=>exact .mark hm (ih hf)
 |env _ ih=>exact .env fun r=>ih r hf
 |He h=>exact .He (Ku h f)
 |bad h=>exact .bad h
 |panic h=>exact .panic h
def Am.imp {s:Sem α}{s':Sem β}{adX:Ren->α->β->Prop}(h:Am P' P fz Q ρ s s')(hq:∀σ a b,ρ.le σ->Q σ a b->adX σ a b):Am P' P fz adX ρ s s':=by
 induction h with
 |pure h=>exact .pure (hq _ _ _ (Ren.le_refl _) h)
 |load m ha _ ih=>exact .load m ha fun v v' hv=>ih v v' hv hq
 |store m ha hv _ ih=>exact .store m ha hv (ih hq)
 |new ho _ ih=>exact .new ho fun r r' σ hle hr=>ih r r' σ hle hr fun τ a b Df=>hq τ a b (Ren.le_trans hle Df)
 |shape hr _ ih=>exact .shape hr fun s=>ih s hq
 |frozen ha _ ih=>exact .frozen ha fun b b' hb=>ih b b' hb hq
 |getObj hr _ ih=>exact .getObj hr fun o o' ho=>ih o o' ho hq
 |setObj hr ho hn _ ih=>exact .setObj hr ho hn (ih hq)
 |choose q _ ih=>exact .choose q fun n=>ih n hq
 |program _ ih=>exact .program (ih hq)
 |mark hm _ ih=>exact .mark hm (ih hq)
 |env _ ih=>exact .env fun r=>ih r hq
 |He h=>exact .He h
 |bad h=>exact .bad h
 |panic h=>exact .panic h
end
def yz.refl (f:Nat×Nat):yz f f:=.inl rfl
section
variable {ρ:Ren}{w w':Zb}
def Ii.lt (h:Ii ρ w w'){b c:Nat}(hb:ρ b=some c):b<w.heap.size/\c<w'.heap.size:=by
 obtain⟨o,o',h1,h2,_⟩:=h.obj b c hb;exact⟨(Za.1 h1).1,(Za.1 h2).1⟩
def Ii.cell (h:Ii ρ w w'){a a':Addr}(ha:AR ρ a a'){v:Zf}(hv:w.cell? a=some v):∃v',w'.cell? a'=some v'/\VR ρ v v':=by
 obtain⟨o,o',h1,h2,h3⟩:=h.obj _ _ ha.1;cases h3 with
 |cells e hc hf=>
  simp only[zy,h1,h2,ha.2.1,ha.2.2]at hv⊢;split at hv
  .cases hv
  .rw[if_neg ‹_›];exact hc.get hv
 |_=>simp[zy,h1]at hv
def Ii.far (h:Ii ρ w w'){a:Addr}(ha:AR ρ a a')(P:Zo)(m:Bool):∃x,w.farLoad P a m=.error x/\GY x:=by
 obtain⟨o,o',h1,_,h3⟩:=h.obj _ _ ha.1;unfold World.farLoad World.noCell;rw[h1];cases h3<;>exact⟨_,rfl,trivial⟩
def Ii.aks (h:Ii ρ w w'){a:Addr}(ha:AR ρ a a')(P:Zo)(v:Zf)(m:Bool):∃x,w.farStore P a v m=.error x/\GY x:=by
 obtain⟨o,o',h1,_,h3⟩:=h.obj _ _ ha.1;unfold World.farStore World.noCell;rw[h1];cases h3<;>exact⟨_,rfl,trivial⟩
def Ii.shape (h:Ii ρ w w'){b c:Nat}(hb:ρ b=some c):w'.shape? c=w.shape? b:=by
 obtain⟨o,o',h1,h2,h3⟩:=h.obj _ _ hb;cases h3 with
 |cells e hc hf=>simp[Yn,h1,h2,hc.1]
 | @junk o' h=>cases o'<;>first|(simp[Yn,h1,h2];done)|cases h
 |_=>simp[Yn,h1,h2]
variable {l l' i n r r' N:Nat}
def yz.at {f f':Nat×Nat}(h:yz f f')(hi:f'.1<=i/\i<f'.2):f.1<=i/\i<f.2:=by
 rcases h with rfl|h|h
 .exact hi
 .omega
 omega
def Ii.frozen (h:Ii ρ w w'){a a':Addr}(ha:AR ρ a a')(hf:w'.frozen? a'=true):w.frozen? a=true:=by
 obtain⟨o,o',h1,h2,h3⟩:=h.obj _ _ ha.1;cases h3 with
 | @cells c c' e f f' hc yB=>
  obtain⟨lo,hi⟩:=f;obtain⟨lo',DN⟩:=f';simp only[Yo,h1,h2,ha.2.1,ZF,decide_eq_true_eq]at hf⊢;exact yB.at hf
 | @junk o' h=>cases o'<;>first|(simp[Yo,h2]at hf;done)|cases h
 |_=>simp[Yo,h2]at hf
def sg {w:Zb}{a:Addr}(h:w.cell? a=some v){t:Zs}(hs:w.shape? a.block=some (t,n)):a.off<n:=by
 unfold zy at h;unfold Yn at hs;cases ho:w.heap[a.block]? with
 |none=>rw[ho]at h;cases h
 |some o=>
  rw[ho]at h hs;cases o with
  |cells c e f=>
   dsimp only at h hs;cases hs;split at h
   .cases h
   .exact(Za.1 h).1
  |_=>cases h
def Ij {w:Zb}{b:Nat}{f:Obj->Obj}(i:Nat):(w.heap.modify b f)[i]?=if b=i then(w.heap[i]?).map f else w.heap[i]? :=by
 rw[Y7]
def Rr (w:Zb)(a:Addr)(v:Zf)(b:Addr):(w.setCell a v).frozen? b=w.frozen? b:=by
 unfold Yo Z8;simp only[Ij];by_cases e:a.block=b.block
 .rw[if_pos e]
  cases w.heap[b.block]? with
  |none=>rfl
  |some o=>cases o<;>rfl
 rw[if_neg e]
def TD (w:Zb)(a:Addr)(v:Zf)(b:Nat):(w.setCell a v).shape? b=w.shape? b:=by
 unfold Yn Z8;simp only[Ij];by_cases e:a.block=b
 .rw[if_pos e]
  cases w.heap[b]? with
  |none=>rfl
  |some o=>cases o<;>first|rfl|(dsimp only[Zdh];split<;>simp)
 rw[if_neg e]
def Ii.setCell (h:Ii ρ w w'){a:Addr}(ha:AR ρ a a')(hv:VR ρ v v'):Ii ρ (w.setCell a v) (w'.setCell a' v'):=by
 refine⟨fun b c hb=>?_,h.tape,h.os⟩;obtain⟨o,o',h1,h2,h3⟩:=h.obj _ _ hb;simp only[Z8,Ij];by_cases e:a.block=b
 .have e':a'.block=c:=by
   have:=ha.1;rw[e,hb]at this;cases this;rfl
  rw[if_pos e,if_pos e',h1,h2];refine⟨_,_,rfl,rfl,?_⟩;cases h3 with
  |cells e hc hf=>
   refine .cells e ?_ hf;rw[ha.2.1,ha.2.2];split
   .exact hc
   .exact hc.set hv _
  |map k x=>exact .map k x
  |chan cap cl s r tm x=>exact .chan cap cl s r tm x
  |stringIter s p=>exact .stringIter s p
  |mapIter x s k m=>exact .mapIter x s k m
  |number l a=>exact .number l a
  |loop l=>exact .loop l
  |Fe=>exact .Fe
  | @junk o' h=>cases o'<;>first|exact .junk rfl|cases h
  |deferred=>exact .deferred
 have e':¬a'.block=c:=fun x=>e (ρ.inj _ _ _ ha.1 (x▸hb));rw[if_neg e,if_neg e'];exact⟨o,o',h1,h2,h3⟩
def Ii.fresh (h:Ii ρ w w'):ρ.P5 w.heap.size w'.heap.size:=⟨fun b hb=>absurd (h.lt hb).2 (by omega),(h.lt ρ.base).1,(h.lt ρ.base).2⟩
def Ii.mQ (h:Ii ρ w w'):ρ.le (ρ.ext w.heap.size w'.heap.size h.fresh):=by
 refine⟨fun b c hb=>?_,rfl,rfl,rfl⟩;have:=(h.lt hb).1;show(if b=w.heap.size then some w'.heap.size else ρ b)=some c;rw[if_neg (by omega)];exact hb
def Ii.new (h:Ii ρ w w'){o o':Obj}(ho:OR ρ o o'):Ii (ρ.ext w.heap.size w'.heap.size h.fresh) {w with heap:=w.heap.push o} {w' with heap:=w'.heap.push o'}:=by
 have hle:=h.mQ;refine⟨fun b c hb=>?_,h.tape,h.os⟩;dsimp only[Ren.ext]at hb;split at hb
 .cases hb
  refine⟨o,o',?_,?_,ho.mono hle⟩
  .subst b;simp
  simp
 obtain⟨x,x',h1,h2,h3⟩:=h.obj _ _ hb;have:=h.lt hb;refine⟨x,x',?_,?_,h3.mono hle⟩
 .rw[YI];rw[if_neg (by omega)];exact h1
 rw[YI];rw[if_neg (by omega)];exact h2
def Ii.setObj (h:Ii ρ w w'){r r':Nat}(hr:ρ r=some r'){o o':Obj}(ho:OR ρ o o'):Ii ρ {w with heap:=w.heap.setIfInBounds r o} {w' with heap:=w'.heap.setIfInBounds r' o'}:=by
 refine⟨fun b c hb=>?_,h.tape,h.os⟩;have hl:=h.lt hb;by_cases e:r=b
 .have e':r'=c:=by rw[e,hb]at hr;cases hr;rfl
  refine⟨o,o',?_,?_,ho⟩
  .simp only[Z5,if_pos e];rw[if_pos (by omega)]
  simp only[Z5,if_pos e'];rw[if_pos (by omega)]
 have e':¬r'=c:=fun x=>e (ρ.inj _ _ _ hr (x▸hb));obtain⟨x,x',h1,h2,h3⟩:=h.obj _ _ hb;refine⟨x,x',?_,?_,h3⟩
 .simp only[Z5,if_neg e];exact h1
 simp only[Z5,if_neg e'];exact h2
def Ii.drew (h:Ii ρ w w'):Ii ρ {w with drawn:=w.drawn+1} {w' with drawn:=w'.drawn+1}:=
 ⟨h.obj,fun i q=>by have:=h.tape (i+1) q;rw[<-ZbZ, <-ZbZ]at this;simpa[Nat.add_right_comm]using this,h.os⟩
end
variable {o o':Obj}
def Nd {a:Addr}{b:Nat}(hq:Quiet o)(h:(w.setCell a v).heap[b]?=some o):w.heap[b]?=some o:=by
 simp only[Z8,Y7]at h;split at h
 .cases ho:w.heap[b]? with
  |none=>rw[ho]at h;cases h
  |some p=>
   rw[ho]at h;cases p<;>first|exact h|(simp at h;subst h;cases hq)
 .exact h
structure JC (fz:Prop)(ρ σ:Ren)(w w₁ w' w₁':Zb)(d:Array Z9):Prop where
 size:w.heap.size<=w₁.heap.size
 Nf:w'.heap.size<=w₁'.heap.size
 fresh:∀b c,σ b=some c->ρ b=some c\/(w.heap.size<=b/\w'.heap.size<=c)
 new:∀c,w'.heap.size<=c->c<w₁'.heap.size->∃b,σ b=some c/\w.heap.size<=b
 still:∀c,c<w'.heap.size->w₁'.heap[c]?=w'.heap[c]?\/(∃b,ρ b=some c/\(fz\/∃e∈d,e.write=true/\((∃a:Addr,a.block=b/\e.loc=.cell a)\/e.loc=.obj b)))
 Rt:∀e∈d,e.write=true->∀a,e.loc=.cell a->a.block<w.heap.size->w.frozen? a=false/\∀t n,w.shape? a.block=some (t,n)->a.off<n
 frozen:∀a:Addr,a.block<w.heap.size->w.frozen? a=true->w₁.frozen? a=true
 os:w₁'.os=w'.os
 tape:w₁'.tape=w'.tape
 output:w₁'.output=w'.output
 Pm:w₁.tape=w.tape
 drawn:w.drawn<=w₁.drawn
 mR:∀e∈d,e.write=true->∀r,e.loc=.obj r->r<w.heap.size->w.shape? r=none
 shape:∀b t n,b<w.heap.size->w.shape? b=some (t,n)->w₁.shape? b=some (t,n)
 awake:∀b o,Quiet o->b<w.heap.size->w₁.heap[b]?=some o->w.heap[b]?=some o/\∀e∈d,e.write=true->e.loc≠ .obj b/\∀a:Addr,a.block=b->e.loc≠ .cell a
def JC.refl (fz:Prop)(ρ:Ren)(w w':Zb):JC fz ρ ρ w w w' w' #[]:=
 ⟨Zj _,Zj _,fun _ _ h=>.inl h,fun _ h k=>absurd k (by omega),fun _ _=>.inl rfl,fun e h=>by simp at h,fun _ _ h=>h,rfl,rfl,rfl,rfl,Zj _,fun e h=>by simp at h,fun _ _ _ _ h=>h,fun _ _ _ _ h=>⟨h,fun e he=>by simp at he⟩⟩
variable {fz:Prop}
variable {d d' Hf es:Array Z9}
def JC.trans (h:JC fz ρ τ w w₁ w' w₁' d)(k:JC fz τ σ w₁ w₂ w₁' CG Hf)(hle:τ.le σ):
  JC fz ρ σ w w₂ w' CG (d++Hf):=by
 refine⟨Zr h.size k.size,Zr h.Nf k.Nf,fun b c hb=>?_,fun c h1 h2=>?_,fun c hc=>?_,fun e he hw a ha hl=>?_,fun a ha hf=>k.frozen a (Zl ha h.size) (h.frozen a ha hf),k.os.trans h.os,k.tape.trans h.tape,k.output.trans h.output,k.Pm.trans h.Pm,Zr h.drawn k.drawn,fun e he hw r hr hl=>?_,fun b t n hl hs=>k.shape b t n (Zl hl h.size) (h.shape b t n hl hs),fun b o hq hl hj=>?_⟩
 .rcases k.fresh b c hb with x|⟨x,y⟩
  .exact h.fresh b c x
  exact .inr ⟨Zr h.size x,Zr h.Nf y⟩
 .rcases Zar c w₁'.heap.size with x|x
  .obtain⟨b,hb,hs⟩:=h.new c h1 x
   exact⟨b,hle.1 _ _ hb,hs⟩
  obtain⟨b,hb,hs⟩:=k.new c x h2;exact⟨b,hb,Zr h.size hs⟩
 .rcases k.still c (Zl hc h.Nf) with x|⟨b,hb,x⟩
  .rcases h.still c hc with y|⟨b,hb,y⟩
   .exact .inl (x.trans y)
   exact .inr ⟨b,hb,y.imp id fun⟨e,he,z⟩=>⟨e,ZaH.2 (.inl he),z⟩⟩
  rcases h.fresh b c hb with y|⟨_,y⟩
  .exact .inr ⟨b,y,x.imp id fun⟨e,he,z⟩=>⟨e,ZaH.2 (.inr he),z⟩⟩
  omega
 .rcases ZaH.1 he with x|x
  .exact h.Rt e x hw a ha hl
  have:=k.Rt e x hw a ha (Zl hl h.size);refine⟨?_,fun t n hs=>this.2 t n (h.shape _ t n hl hs)⟩;cases hf:w.frozen? a with
  |false=>rfl
  |true=>rw[h.frozen a hl hf]at this;cases this.1
 .rcases ZaH.1 he with x|x
  .exact h.mR e x hw r hr hl
  have:=k.mR e x hw r hr (Zl hl h.size);cases hs:w.shape? r with
  |none=>rfl
  |some p=>obtain⟨t,n⟩:=p;rw[h.shape r t n hl hs]at this;cases this
 obtain⟨h1,h2⟩:=k.awake b o hq (Zl hl h.size) hj;obtain⟨h3,h4⟩:=h.awake b o hq hl h1;exact⟨h3,fun e he hw=>(ZaH.1 he).elim (fun x=>h4 e x hw) fun x=>h2 e x hw⟩
def _root_.Go.Result.world {α:Type}:Result α->Zb
 | .ok _ w=>w
 | .halt _ w=>w
def mS {α:Type}(r:Result α):Prop:=∃x u,r=.halt x u/\GY x
inductive sh {α β:Type}(Q:Ren->α->β->Prop)(σ:Ren):Result α->Result β->Prop
 |ok {a:α} {b:β} {w w':Zb} (h:Q σ a b):sh Q σ (.ok a w) (.ok b w')
 |panic {v v':Zf} {w w':Zb} (h:VR σ v v'):sh Q σ (.halt (.panic v) w) (.halt (.panic v') w')
def _root_.Go.Result.tp {α:Type}(r:Result α)(t:Tape):Result α:=
 match r with
 | .ok a w=>.ok a {w with tape:=t}
 | .halt h w=>.halt h {w with tape:=t}
def iY {α:Type}(P':Zo)(s:Sem α)(w:Zb)(es:Array Z9)(r:Result α)(f:Array Z9):Prop:=
 ∀t:Tape,(∀i,w.drawn<=i->i<r.world.drawn->t i=w.tape i)->s.runT P' {w with tape:=t} es=(r.tp t,f)
def Am.run {Q:Ren->α->β->Prop}{s:Sem α}{s':Sem β}(h:Am P' P fz Q ρ s s'):
  ∀(w w':Zb),Ii ρ w w'->∀(es BA:Array Z9) r f,s.runT P' w es=(r,f)->¬mS r->
   ∃σ r' d d',ρ.le σ/\f=es++d/\s'.runT P w' BA=(r',BA++d')/\sh Q σ r r'/\Ii σ r.world r'.world/\Bz (rF σ) d d'/\JC fz ρ σ w r.world w' r'.world d/\iY P' s w es r f:=by
 induction h with
 | @pure ρ a b h=>
  intro w w' hw es BA r f hr _;rw[ZI]at hr;cases hr;exact⟨ρ,.ok b w',#[],#[],Ren.le_refl _,by simp,by rw[ZI];simp,.ok h,hw,Bz.nil,JC.refl _ _ _ _,fun t _=>by rw[ZI];rfl⟩
 | @load ρ a a' k k' m ha _ ih=>
  intro w w' hw es BA r f hr CH;rw[ZI]at hr;cases hc:w.cell? a with
  |none=>
   rw[hc]at hr;obtain⟨x,hx,hnp⟩:=hw.far ha P' (m== .atomic);rw[hx]at hr;cases hr;exact(CH ⟨_,_,rfl,hnp⟩).elim
  |some v=>
   rw[hc]at hr;obtain⟨v',iZ,hvr⟩:=hw.cell ha hc;obtain⟨σ,r',d,d',h1,h2,h3,h4,h5,h6,h7,h8⟩:=ih v v' hvr w w' hw (es.push ⟨.cell a,false,m== .atomic⟩) (BA.push ⟨.cell a',false,m== .atomic⟩) r f hr CH;refine⟨σ,r',#[⟨.cell a,false,m== .atomic⟩]++d,#[⟨.cell a',false,m== .atomic⟩]++d',h1,by rw[h2];simp,?_,h4,h5,(Bz.single ⟨.cell (ha.mono h1),rfl,.inl rfl⟩).append h6,?_,fun t ht=>by rw[ZI,show zy {w with tape:=t} a=some v from hc];exact h8 t ht⟩
   .rw[ZI,iZ];simp only[];rw[h3];simp
   .refine JC.trans (w₁:=w) (w₁':=w') (τ:=ρ) ⟨Zj _,Zj _,fun _ _ h=>.inl h,fun _ h k=>absurd k (by omega),fun _ _=>.inl rfl,fun e he Qu=>?_,fun _ _ h=>h,rfl,rfl,rfl,rfl,Zj _,fun e he Qu=>(by simp at he;subst he;cases Qu),fun _ _ _ _ h=>h,fun _ _ _ _ hj=>⟨hj,fun e he hw=>by simp at he;subst he;first|(cases hw;done)|exact⟨(fun x=>by cases x),(fun _ _ x=>by cases x)⟩⟩⟩ h7 h1
    simp at he;subst he;cases Qu
 | @store ρ a a' v v' k k' m ha hv _ ih=>
  intro w w' hw es BA r f hr CH;by_cases hag:(∃x,v=.agg x)\/(∃x,v=.tuple x)
  .rcases hag with⟨x,rfl⟩|⟨x,rfl⟩<;>(simp only[ZI]at hr;cases hr;exact(CH ⟨_,_,rfl,trivial⟩).elim)
  have hL:∀(p:Zo) (u:Zb) (g:Array Z9) (b:Addr) (x:Zf) (kk:Sem α),(¬((∃y,x=.agg y)\/(∃y,x=.tuple y)))->(Sem.store m b x kk).runT p u g=match u.cell? b with
    |some _=>if u.frozen? b then(.halt (.unsupported (.unsafePointer "a write to bytes that a string shares")) u,g) else kk.runT p (u.setCell b x) (g.push ⟨.cell b,true,m== .atomic⟩)
    |none=>match u.farStore p b x (m== .atomic) with
     | .ok (u,touched)=>kk.runT p u (g++touched.toArray.map (⟨.cell ·,true,m== .atomic⟩))
     | .error h=>(.halt h u,g):=by
   intro p u g b x kk hx;cases x<;>first|exact absurd (.inl ⟨_,rfl⟩) hx|exact absurd (.inr ⟨_,rfl⟩) hx|rfl
  have Tp:∀(p:Zo) (u:Zb) (g:Array Z9) (b:Addr) (x:Zf) (kk:Sem β),(¬((∃y,x=.agg y)\/(∃y,x=.tuple y)))->(Sem.store m b x kk).runT p u g=match u.cell? b with
    |some _=>if u.frozen? b then(.halt (.unsupported (.unsafePointer "a write to bytes that a string shares")) u,g) else kk.runT p (u.setCell b x) (g.push ⟨.cell b,true,m== .atomic⟩)
    |none=>match u.farStore p b x (m== .atomic) with
     | .ok (u,touched)=>kk.runT p u (g++touched.toArray.map (⟨.cell ·,true,m== .atomic⟩))
     | .error h=>(.halt h u,g):=by
   intro p u g b x kk hx;cases x<;>first|exact absurd (.inl ⟨_,rfl⟩) hx|exact absurd (.inr ⟨_,rfl⟩) hx|rfl
  rw[hL _ _ _ _ _ _ hag]at hr;have akv:¬((∃y,v'=.agg y)\/(∃y,v'=.tuple y)):=by
   rintro(⟨y,rfl⟩|⟨y,rfl⟩)<;>cases hv<;>first|exact hag (.inl ⟨_,rfl⟩)|exact hag (.inr ⟨_,rfl⟩)
  cases hc:w.cell? a with
  |none=>
   rw[hc]at hr;obtain⟨x,hx,hnp⟩:=hw.aks ha P' v (m== .atomic);rw[hx]at hr;cases hr;exact(CH ⟨_,_,rfl,hnp⟩).elim
  |some u=>
   rw[hc]at hr;obtain⟨u',lM,_⟩:=hw.cell ha hc;simp only[]at hr;split at hr
   .cases hr;exact(CH ⟨_,_,rfl,trivial⟩).elim
   .rename_i rG
    have akw:¬w'.frozen? a'=true:=fun x=>rG (hw.frozen ha x);obtain⟨σ,r',d,d',h1,h2,h3,h4,h5,h6,h7,h8⟩:=ih (w.setCell a v) (w'.setCell a' v') (hw.setCell ha hv) (es.push ⟨.cell a,true,m== .atomic⟩) (BA.push ⟨.cell a',true,m== .atomic⟩) r f hr CH;refine⟨σ,r',#[⟨.cell a,true,m== .atomic⟩]++d,#[⟨.cell a',true,m== .atomic⟩]++d',h1,by rw[h2];simp,?_,h4,h5,(Bz.single ⟨.cell (ha.mono h1),rfl,.inl rfl⟩).append h6,?_,fun t ht=>by rw[hL _ _ _ _ _ _ hag,show zy {w with tape:=t} a=some u from hc];simp only[];rw[if_neg (show¬Yo {w with tape:=t} a=true from rG)];exact h8 t ht⟩
    .rw[Tp _ _ _ _ _ _ akv,lM];simp only[];rw[if_neg akw,h3];simp
    .refine JC.trans (w₁:=w.setCell a v) (w₁':=w'.setCell a' v') (τ:=ρ) ⟨by simp[Z8],by simp[Z8],fun _ _ h=>.inl h,fun _ h k=>absurd k (by simp[Z8];omega),fun c _=>?_,fun e he _ b hb _=>?_,fun b _ hb=>?_,rfl,rfl,rfl,rfl,Zj _,fun e he _ r hr=>(by simp at he;subst he;cases hr),fun b t n _ h=>by rw[TD];exact h,fun b o hq _ hj=>?_⟩ h7 h1
     .by_cases e:a'.block=c
      .exact .inr ⟨a.block,e▸ha.1,.inr ⟨⟨.cell a,true,m== .atomic⟩,by simp,rfl,.inl ⟨a,rfl,rfl⟩⟩⟩
      refine .inl ?_;simp only[Z8,Ij];rw[if_neg e]
     .simp at he;subst he;cases hb;exact⟨by simpa using rG,fun t n hs=>sg hc hs⟩
     .rw[Rr];exact hb
     .have BL:b≠a.block:=by
       rintro rfl;have:=Nd hq hj;unfold zy at hc;rw[this]at hc;cases hq<;>cases hc
      refine⟨Nd hq hj,fun e he _=>?_⟩;simp at he;subst he;exact⟨fun x=>(by cases x),fun a' ha' x=>by cases x;exact BL ha'.symm⟩
 | @new ρ o o' k k' ho _ ih=>
  intro w w' hw es BA r f hr CH;rw[ZI]at hr;have hle:=hw.mQ;obtain⟨σ,r',d,d',h1,h2,h3,h4,h5,h6,h7,h8⟩:=ih w.heap.size w'.heap.size (ρ.ext w.heap.size w'.heap.size hw.fresh) hle (by simp[Ren.ext]) {w with heap:=w.heap.push o} {w' with heap:=w'.heap.push o'} (hw.new ho) es BA r f hr CH;refine⟨σ,r',d,d',Ren.le_trans hle h1,h2,by rw[ZI];exact h3,h4,h5,h6,?_,fun t ht=>by rw[ZI];exact h8 t ht⟩;have:=JC.trans (fz:=fz) (d:= #[]) (w:=w) (w':=w') (w₁:= {w with heap:=w.heap.push o}) (w₁':= {w' with heap:=w'.heap.push o'}) (ρ:=ρ) (τ:=ρ.ext w.heap.size w'.heap.size hw.fresh) ⟨by simp,by simp,fun b c hb=>?_,fun c h k=>⟨w.heap.size,by rw[Array.size_push]at k;dsimp only[Ren.ext];rw[if_pos rfl,show c=w'.heap.size from by omega],Zj _⟩,fun c hc=>.inl ?_,fun e h=>by simp at h,fun a hl ha=>?_,rfl,rfl,rfl,rfl,Zj _,fun e h=>(by simp at h),fun b t n hl h=>by unfold Yn at*;simp only[YI];rw[if_neg (by omega)];exact h,fun b o hq hl hj=>⟨by simp only[YI]at hj;rw[if_neg (by omega)]at hj;exact hj,fun e he=>by simp at he⟩⟩ h7 h1
  .simpa using this
  .dsimp only[Ren.ext]at hb
   split at hb
   .cases hb;exact .inr ⟨by omega,Zj _⟩
   exact .inl hb
  .simp only[YI];rw[if_neg (by omega)]
  .unfold Yo at*
   simp only[YI];rw[if_neg (by omega)];exact ha
 | @shape ρ x x' k k' Pn _ ih=>
  intro w w' hw es BA r f hr CH;rw[ZI]at hr;obtain⟨σ,r',d,d',h1,h2,h3,h4,h5,h6,h7,h8⟩:=ih _ w w' hw es BA r f hr CH;exact⟨σ,r',d,d',h1,h2,by rw[ZI,hw.shape Pn];exact h3,h4,h5,h6,h7,fun t ht=>by rw[ZI];exact h8 t ht⟩
 | @frozen ρ a a' k k' ha _ ih=>
  intro w w' hw es BA r f hr CH;rw[ZI]at hr;obtain⟨σ,r',d,d',h1,h2,h3,h4,h5,h6,h7,h8⟩:=ih (w.frozen? a) (w'.frozen? a') (hw.frozen ha) w w' hw es BA r f hr CH;exact⟨σ,r',d,d',h1,h2,by rw[ZI];exact h3,h4,h5,h6,h7,fun t ht=>by rw[ZI];exact h8 t ht⟩
 | @getObj ρ x x' k k' hx _ ih=>
  intro w w' hw es BA r f hr CH;rw[ZI]at hr;obtain⟨o,o',ho,rH,hoo⟩:=hw.obj _ _ hx;rw[ho]at hr;by_cases hcell:∃c e fr,o=.cells c e fr
  .obtain⟨c,e,fr,rfl⟩:=hcell
   cases hr;exact(CH ⟨_,_,rfl,trivial⟩).elim
  have Ox:(k o).runT P' w (es.push ⟨.obj x,false,o.isChan⟩)=(r,f):=by
   cases o<;>first|exact absurd ⟨_,_,_,rfl⟩ hcell|exact hr
  obtain⟨σ,r',d,d',h1,h2,h3,h4,h5,h6,h7,h8⟩:=ih o o' hoo w w' hw (es.push ⟨.obj x,false,o.isChan⟩) (BA.push ⟨.obj x',false,o'.isChan⟩) r f Ox CH;refine⟨σ,r',#[⟨.obj x,false,o.isChan⟩]++d,#[⟨.obj x',false,o'.isChan⟩]++d',h1,by rw[h2];simp,?_,h4,h5,(Bz.single ⟨.obj (h1.1 _ _ hx),rfl,.inr ⟨_,rfl⟩⟩).append h6,?_,fun t ht=>by rw[ZI,show({w with tape:=t}:Zb).heap[x]?=some o from ho];cases o<;>first|exact absurd ⟨_,_,_,rfl⟩ hcell|exact h8 t ht⟩
  .rw[ZI,rH]
   have:(k' o').runT P w' (BA.push ⟨.obj x',false,o'.isChan⟩)=(r',BA++(#[⟨.obj x',false,o'.isChan⟩]++d')):=by rw[h3];simp
   cases hoo<;>first|exact absurd ⟨_,_,_,rfl⟩ hcell|exact this|skip
   rename_i hj;cases o'<;>first|exact this|cases hj
  .refine JC.trans (w₁:=w) (w₁':=w') (τ:=ρ) ⟨Zj _,Zj _,fun _ _ h=>.inl h,fun _ h k=>absurd k (by omega),fun _ _=>.inl rfl,fun e he Qu=>?_,fun _ _ h=>h,rfl,rfl,rfl,rfl,Zj _,fun e he Qu=>(by simp at he;subst he;cases Qu),fun _ _ _ _ h=>h,fun _ _ _ _ hj=>⟨hj,fun e he hw=>by simp at he;subst he;first|(cases hw;done)|exact⟨(fun x=>by cases x),(fun _ _ x=>by cases x)⟩⟩⟩ h7 h1
   simp at he;subst he;cases Qu
 | @setObj ρ x x' o o' k k' hx hoo hn _ ih=>
  intro w w' hw es BA r f hr CH;rw[ZI]at hr;obtain⟨u,u',hu,lM,huu⟩:=hw.obj _ _ hx;rw[hu]at hr;by_cases hcell:∃c e fr,u=.cells c e fr
  .obtain⟨c,e,fr,rfl⟩:=hcell
   cases hr;exact(CH ⟨_,_,rfl,trivial⟩).elim
  have Ox:k.runT P' {w with heap:=w.heap.setIfInBounds x o} (es.push ⟨.obj x,true,o.isChan⟩)=(r,f):=by
   cases u<;>first|exact absurd ⟨_,_,_,rfl⟩ hcell|exact hr
  obtain⟨σ,r',d,d',h1,h2,h3,h4,h5,h6,h7,h8⟩:=ih _ _ (hw.setObj hx hoo) (es.push ⟨.obj x,true,o.isChan⟩) (BA.push ⟨.obj x',true,o'.isChan⟩) r f Ox CH;refine⟨σ,r',#[⟨.obj x,true,o.isChan⟩]++d,#[⟨.obj x',true,o'.isChan⟩]++d',h1,by rw[h2];simp,?_,h4,h5,(Bz.single ⟨.obj (h1.1 _ _ hx),rfl,.inr ⟨_,rfl⟩⟩).append h6,?_,fun t ht=>by rw[ZI,show({w with tape:=t}:Zb).heap[x]?=some u from hu];cases u<;>first|exact absurd ⟨_,_,_,rfl⟩ hcell|exact h8 t ht⟩
  .rw[ZI,lM]
   have:k'.runT P {w' with heap:=w'.heap.setIfInBounds x' o'} (BA.push ⟨.obj x',true,o'.isChan⟩)=(r',BA++(#[⟨.obj x',true,o'.isChan⟩]++d')):=by rw[h3];simp
   cases huu<;>first|exact absurd ⟨_,_,_,rfl⟩ hcell|exact this|skip
   rename_i hj;cases u'<;>first|exact this|cases hj
  .refine JC.trans (w₁:= {w with heap:=w.heap.setIfInBounds x o}) (w₁':= {w' with heap:=w'.heap.setIfInBounds x' o'}) (τ:=ρ) ⟨by simp,by simp,fun _ _ h=>.inl h,fun _ h k=>absurd k (by simp;omega),fun c _=>?_,fun e he _ b hb _=>?_,fun b _ hb=>?_,rfl,rfl,rfl,rfl,Zj _,fun e he _ y hy _=>(by simp at he;subst he;cases hy;unfold Yn;rw[hu];cases u<;>first|exact absurd ⟨_,_,_,rfl⟩ hcell|rfl),fun b t n _ h=>by(unfold Yn at*;simp only[Z5];by_cases e:x=b;(rw[<-e,hu]at h;cases u<;>first|exact absurd ⟨_,_,_,rfl⟩ hcell|cases h);(rw[if_neg e];exact h)),fun b p hq hb hj=>?_⟩ h7 h1
   .by_cases e:x'=c
    .exact .inr ⟨x,e▸hx,.inr ⟨⟨.obj x,true,o.isChan⟩,by simp,rfl,.inr rfl⟩⟩
    refine .inl ?_;simp only[Z5,if_neg e]
   .simp at he;subst he;cases hb
   .unfold Yo at*
    simp only[Z5];by_cases e:x=b.block
    .rw[<-e,hu]at hb
     cases u<;>first|exact absurd ⟨_,_,_,rfl⟩ hcell|cases hb
    rw[if_neg e];exact hb
   .have hxb:x≠b:=by
     rintro rfl;simp only[Z5,if_true]at hj;rw[if_pos hb]at hj;rw[ZW hj]at hn;exact hn hq
    simp only[Z5,if_neg hxb]at hj;refine⟨hj,fun e he _=>?_⟩;simp at he;subst he;exact⟨fun x=>(by cases x;exact hxb rfl),fun _ _ x=>by cases x⟩
 | @choose ρ k k' q _ ih=>
  intro w w' hw es BA r f hr CH;rw[ZI]at hr;split at hr
  .obtain⟨σ,r',d,d',h1,h2,h3,h4,h5,h6,h7,h8⟩:=ih 0 w w' hw es BA r f hr CH
   exact⟨σ,r',d,d',h1,h2,by rw[ZI,if_pos ‹_›];exact h3,h4,h5,h6,h7,fun t ht=>by rw[ZI,if_pos ‹_›];exact h8 t ht⟩
  .have ht:w.tape w.drawn q=w'.tape w'.drawn q:=by simpa using hw.tape 0 q
   obtain⟨σ,r',d,d',h1,h2,h3,h4,h5,h6,h7,h8⟩:=ih (q.cut (w.tape w.drawn q)) _ _ hw.drew es BA r f hr CH;refine⟨σ,r',d,d',h1,h2,by rw[ZI,if_neg ‹_›, <-ht];exact h3,h4,h5,h6,?_,fun t hz=>by rw[ZI,if_neg ‹_›];have e:t w.drawn=w.tape w.drawn:=hz _ (Zj _) h7.drawn;show(k (q.cut (t w.drawn q))).runT P' _ _=_;rw[e];exact h8 t (fun i a b=>hz i (Zbb a) b)⟩;exact⟨h7.size,h7.Nf,h7.fresh,h7.new,h7.still,h7.Rt,h7.frozen,h7.os,h7.tape,h7.output,h7.Pm,Zbb h7.drawn,h7.mR,h7.shape,h7.awake⟩
 |program _ ih=>
  intro w w' hw es BA r f hr CH;rw[ZI]at hr;obtain⟨σ,r',d,d',h1,h2,h3,h4,h5,h6,h7,h8⟩:=ih w w' hw es BA r f hr CH;exact⟨σ,r',d,d',h1,h2,by rw[ZI];exact h3,h4,h5,h6,h7,fun t ht=>by rw[ZI];exact h8 t ht⟩
 | @mark ρ m m' k k' hm _ ih=>
  intro w w' hw es BA r f hr CH;rw[ZI]at hr;obtain⟨σ,r',d,d',h1,h2,h3,h4,h5,h6,h7,h8⟩:=ih w w' hw (es.push ⟨.mark m,false,true⟩) (BA.push ⟨.mark m',false,true⟩) r f hr CH;refine⟨σ,r',#[⟨.mark m,false,true⟩]++d,#[⟨.mark m',false,true⟩]++d',h1,by rw[h2];simp,by rw[ZI,h3];simp,h4,h5,(Bz.single ⟨.mark (hm.mono h1),rfl,.inl rfl⟩).append h6,?_,fun t ht=>by rw[ZI];exact h8 t ht⟩;refine JC.trans (w₁:=w) (w₁':=w') (τ:=ρ) ⟨Zj _,Zj _,fun _ _ h=>.inl h,fun _ h k=>absurd k (by omega),fun _ _=>.inl rfl,fun e he Qu=>?_,fun _ _ h=>h,rfl,rfl,rfl,rfl,Zj _,fun e he Qu=>(by simp at he;subst he;cases Qu),fun _ _ _ _ h=>h,fun _ _ _ _ hj=>⟨hj,fun e he hw=>by simp at he;subst he;first|(cases hw;done)|exact⟨(fun x=>by cases x),(fun _ _ x=>by cases x)⟩⟩⟩ h7 h1;simp at he;subst he;cases Qu
 | @env ρ k k' _ ih=>
  intro w w' hw es BA r f hr CH;rw[ZI]at hr;have e1:∀u:Zb,u.sys .env=(.strings u.os.env,u):=fun u=>rfl;rw[e1]at hr;obtain⟨σ,r',d,d',h1,h2,h3,h4,h5,h6,h7,h8⟩:=ih (.strings w.os.env) w w' hw (es.push ⟨.output,true,false⟩) (BA.push ⟨.output,true,false⟩) r f hr CH;refine⟨σ,r',#[⟨.output,true,false⟩]++d,#[⟨.output,true,false⟩]++d',h1,by rw[h2];simp,?_,h4,h5,(Bz.single ⟨.output,rfl,.inl rfl⟩).append h6,?_,fun t ht=>by rw[ZI,e1];exact h8 t ht⟩
  .rw[ZI,e1];simp only[hw.os];rw[h3];simp
  .refine JC.trans (w₁:=w) (w₁':=w') (τ:=ρ) ⟨Zj _,Zj _,fun _ _ h=>.inl h,fun _ h k=>absurd k (by omega),fun _ _=>.inl rfl,fun e he _ a ha=>?_,fun _ _ h=>h,rfl,rfl,rfl,rfl,Zj _,fun e he _ r hr=>(by simp at he;subst he;cases hr),fun _ _ _ _ h=>h,fun _ _ _ _ hj=>⟨hj,fun e he hw=>by simp at he;subst he;first|(cases hw;done)|exact⟨(fun x=>by cases x),(fun _ _ x=>by cases x)⟩⟩⟩ h7 h1
   simp at he;subst he;cases ha
 | @He ρ s s' h=>
  intro w w' hw es BA r f hr CH;obtain⟨x,u,adW,h1,h2⟩:=h w es;rw[h1]at hr;cases hr;exact(CH ⟨_,_,rfl,h2⟩).elim
 | @bad ρ x s' h=>
  intro w w' hw es BA r f hr CH;rw[ZI]at hr;cases hr;exact(CH ⟨_,_,rfl,h⟩).elim
 | @panic ρ v v' h=>
  intro w w' hw es BA r f hr _;rw[ZI]at hr;cases hr;exact⟨ρ,.halt (.panic v') w',#[],#[],Ren.le_refl _,by simp,by rw[ZI];simp,.panic h,hw,Bz.nil,JC.refl _ _ _ _,fun t _=>by rw[ZI];rfl⟩
def DC (P' P:Zo)(fz:Prop){α β:Type}(Q:Ren->α->β->Prop)(ρ:Ren)(s:Sem α)(s':Sem β):Prop:=
 ∀(w w':Zb),Ii ρ w w'->∀(es BA:Array Z9) r f,s.runT P' w es=(r,f)->¬mS r->
  ∃σ r' d d',ρ.le σ/\f=es++d/\s'.runT P w' BA=(r',BA++d')/\sh Q σ r r'/\WR σ r.world r'.world/\Bz (rF σ) d d'/\JC fz ρ σ w r.world w' r'.world d/\iY P' s w es r f
section
variable {P' P:Zo}{fz:Prop}{α β γ δ:Type}{Q:Ren->α->β->Prop}{R:Ren->γ->δ->Prop}{ρ:Ren}
def Am.ok {s:Sem α}{s':Sem β}(h:Am P' P fz Q ρ s s'):DC P' P fz Q ρ s s':=fun w w' hw es BA r f hr hd=>by
 obtain⟨σ,r',d,d',h1,h2,h3,h4,h5,h6,h7,h8⟩:=h.run w w' hw es BA r f hr hd;exact⟨σ,r',d,d',h1,h2,h3,h4,h5.wr,h6,h7,h8⟩
def Am.al {s:Sem α}{s':Sem β}(h:Am P' P fz Q ρ s s')(hw:Ii ρ w w'){BA:Array Z9}{a:α}{b:β}{f f':Array Z9}(h1:s.runT P' w es=(.ok a w₁,f))(h2:s'.runT P w' BA=(.ok b w₁',f')):
  ∀i q,w₁.tape (w₁.drawn+i) q=w₁'.tape (w₁'.drawn+i) q:=by
 obtain⟨σ,r',d,d',_,_,h3,_,h5,_⟩:=h.run w w' hw es BA _ _ h1 (fun⟨x,u,e,_⟩=>by cases e);rw[h2]at h3;cases h3;exact h5.tape
def DC.bind {s:Sem γ}{s':Sem δ}{f:γ->Sem α}{f':δ->Sem β}(h:Am P' P fz R ρ s s')(hf:∀σ a b,ρ.le σ->R σ a b->DC P' P fz Q σ (f a) (f' b)):DC P' P fz Q ρ (s.bind f) (s'.bind f'):=by
 intro w w' hw es BA r g hr hd;rw[ze]at hr;rcases hs:s.runT P' w es with⟨yC,AH⟩;rw[hs]at hr;cases yC with
 |halt x u=>
  cases hr;obtain⟨σ,r',d,d',h1,h2,h3,h4,h5,h6,h7,h8⟩:=h.run w w' hw es BA _ _ hs (fun⟨y,v,e,k⟩=>by cases e;exact hd ⟨_,_,rfl,k⟩);cases h4 with
  | @panic v v' _ w₂ hv=>
   refine⟨σ,.halt (.panic v') w₂,d,d',h1,h2,by rw[ze,h3],.panic hv,h5.wr,h6,h7,fun t ht=>?_⟩;rw[ze,h8 t ht];rfl
 |ok a u=>
  obtain⟨σ,r',d,d',h1,h2,h3,h4,h5,h6,h7,h8⟩:=h.run w w' hw es BA _ _ hs (fun⟨y,v,e,k⟩=>by cases e);cases h4 with
  | @ok _ b _ w₂ hq=>
   dsimp only at hr;obtain⟨τ,r'',e,e',k1,k2,k3,k4,k5,k6,k7,k8⟩:=hf σ a b h1 hq u w₂ h5 AH (BA++d') r g hr hd;refine⟨τ,r'',d++e,d'++e',Ren.le_trans h1 k1,by rw[k2,h2,Zed],by rw[ze,h3];dsimp only;rw[k3,Zed],k4,k5,(Bz.mono h6 fun _ _=>rF.mono k1).append k6,h7.trans k7 k1,fun t ht=>?_⟩;have l1:u.drawn<=r.world.drawn:=k7.drawn;have l2:w.drawn<=u.drawn:=h7.drawn;rw[ze,h8 t (fun i a b=>ht i a (Zl b l1))];exact k8 t (fun i a b=>by
    have:=ht i (Zr l2 a) b;have e:u.tape=w.tape:=h7.Pm;rw[e];exact this)
def DC.map {s:Sem γ}{s':Sem δ}{f:γ->α}{f':δ->β}(h:DC P' P fz R ρ s s')(hf:∀σ a b,ρ.le σ->R σ a b->Q σ (f a) (f' b)):DC P' P fz Q ρ (s.bind fun x=>.pure (f x)) (s'.bind fun x=>.pure (f' x)):=by
 intro w w' hw es BA r g hr hd;rw[ze]at hr;rcases hs:s.runT P' w es with⟨yC,AH⟩;rw[hs]at hr;cases yC with
 |halt x u=>
  cases hr;obtain⟨σ,r',d,d',h1,h2,h3,h4,h5,h6,h7,h8⟩:=h w w' hw es BA _ _ hs (fun⟨y,v,e,k⟩=>by cases e;exact hd ⟨_,_,rfl,k⟩);cases h4 with
  | @panic v v' _ w₂ hv=>
   refine⟨σ,.halt (.panic v') w₂,d,d',h1,h2,by rw[ze,h3],.panic hv,h5,h6,h7,fun t ht=>?_⟩;rw[ze,h8 t ht];rfl
 |ok a u=>
  obtain⟨σ,r',d,d',h1,h2,h3,h4,h5,h6,h7,h8⟩:=h w w' hw es BA _ _ hs (fun⟨y,v,e,k⟩=>by cases e);dsimp only at hr;rw[ZI]at hr;cases hr;cases h4 with
  | @ok _ b _ w₂ hq=>
   refine⟨σ,.ok (f' b) w₂,d,d',h1,h2,by rw[ze,h3];dsimp only;rw[ZI],.ok (hf _ _ _ h1 hq),h5,h6,h7,fun t ht=>?_⟩;rw[ze,h8 t ht];show(Zd7 (f a)).runT P' _ _=_;rw[ZI];rfl
end
structure Twins (P' P:Zo):Prop where
 tables:P'.toTables=P.toTables
 zero:∀t i v,P.info? t=some i->i.zero=some v->∀ρ:Ren,VR ρ v v
 lack:∀i,P.info? 0=some i->i.methods.find? (fun m=>m.name== "")=none
def Gf {α:Type}:Ren->α->α->Prop:=fun _ a b=>a=b
section
variable {P' P:Zo}{fz:Prop}{ρ:Ren}{α β γ δ:Type}{Q:Ren->α->β->Prop}{R:Ren->γ->δ->Prop}
def Ad {a:α}{b:β}(h:Q ρ a b):Am P' P fz Q ρ (pure a) (pure b):=.pure h
def Ac {s:Sem γ}{s':Sem δ}{f:γ->Sem α}{f':δ->Sem β}(R:Ren->γ->δ->Prop)(h:Am P' P fz R ρ s s')(hf:∀σ a b,ρ.le σ->R σ a b->Am P' P fz Q σ (f a) (f' b)):
  Am P' P fz Q ρ (s>>=f) (s'>>=f'):=Am.bind h hf
def Ae {m:String}{s':Sem β}:Am P' P fz Q ρ (stuck m:Sem α) s':=.bad trivial
def Ai {u:Zdf}{s':Sem β}(h:GY (.unsupported u):=by trivial):Am P' P fz Q ρ (unsupported u:Sem α) s':=.bad h
def Ej (h:VR ρ v v'):Am P' P fz Q ρ (goPanic v:Sem α) (goPanic v':Sem β):=.panic h
def mU {a:Addr}(m:Mode)(h:AR ρ a a'):Am P' P fz VR ρ (load a m) (load a' m):=.load m h fun _ _ hv=>.pure hv
def sj {a:Addr}(m:Mode)(h:AR ρ a a')(hv:VR ρ v v'):Am P' P fz Gf ρ (store a v m) (store a' v' m):=.store m h hv (.pure rfl)
def Hg (h:OR ρ o o'):Am P' P fz (fun σ r r'=>σ r=some r') ρ (newObj o) (newObj o'):=.new h fun _ _ _ _ hr=>.pure hr
variable {l l' i n r r' N:Nat}
def Ng (h:ρ r=some r'):Am P' P fz Gf ρ (shape r) (shape r'):=.shape h fun _=>.pure rfl
def C6 (h:ρ r=some r'):Am P' P fz OR ρ (getObj r) (getObj r'):=.getObj h fun _ _ ho=>.pure ho
def D6 (h:ρ r=some r')(ho:OR ρ o o')(hn:¬Quiet o:=by intro h;cases h):Am P' P fz Gf ρ (setObj r o) (setObj r' o'):=.setObj h ho hn (.pure rfl)
def Hh (q:Question):Am P' P fz Gf ρ (choose q) (choose q):=.choose q fun _=>.pure rfl
def C2:Am P' P fz (fun _ p p'=>P'=p/\P=p') ρ program program:=.program (.pure ⟨rfl,rfl⟩)
def yD {m m':Mark}(h:yA ρ m m'):Am P' P fz Gf ρ (mark m) (mark m'):=.mark h (.pure rfl)
def Up (n:Nat):Am P' P fz Gf ρ (Zah n) (Zah n):=by
 unfold Zah;split
 .exact yD .noRoom
 exact Ad rfl
def Twins.mV (T:Twins P' P):∀i,P'.info? 0=some i->i.methods.find? (fun m=>m.name== "")=none:=fun i hi=>T.lack i (by rw[<-hi,T.tables])
def Twins.info (T:Twins P' P)(t:Zs):P'.info? t=P.info? t:=by rw[T.tables]
def Twins.yE (T:Twins P' P)(t:Zs):P'.underlying t=P.underlying t:=by unfold ZbU;simp only[T.tables]
def Twins.rt (T:Twins P' P):P'.rt=P.rt:=by rw[T.tables]
def Twins.cells (T:Twins P' P)(t:Zs):P'.cellsOf t=P.cellsOf t:=by unfold Zco;rw[T.tables]
def Twins.bytes (T:Twins P' P)(t:Zs):P'.bytesOf t=P.bytesOf t:=by unfold Program.bytesOf;rw[T.tables]
def Twins.depth (T:Twins P' P):P'.depth=P.depth:=by unfold Program.depth;rw[T.tables]
def Cu (T:Twins P' P)(t:Zs):Am P' P fz (fun _ i i'=>i=i'/\P.info? t=some i) ρ (typeInfo t) (typeInfo t):=by
 unfold typeInfo;refine Ac _ C2 fun σ p p' _ hp=>?_;obtain⟨rfl,rfl⟩:=hp;rw[T.info];cases h:P.info? t with
 |none=>exact Ae
 |some i=>exact Ad ⟨rfl,rfl⟩
def Aq (T:Twins P' P)(t:Zs):Am P' P fz (fun _ i i'=>i=i'/\P.underlying t=some i) ρ (underlying t) (underlying t):=by
 unfold underlying;refine Ac _ C2 fun σ p p' _ hp=>?_;obtain⟨rfl,rfl⟩:=hp;rw[T.yE];cases h:P.underlying t with
 |none=>exact Ae
 |some i=>exact Ad ⟨rfl,rfl⟩
def C8 (T:Twins P' P)(t:Zs):Am P' P fz VR ρ (zeroValue t) (zeroValue t):=by
 unfold zeroValue;refine Ac _ (Cu T t) fun σ i i' _ hi=>?_;obtain⟨rfl,hi⟩:=hi;cases h:i.zero with
 |none=>exact Ai
 |some v=>exact Ad (T.zero t i v hi h σ)
def Ck (T:Twins P' P)(t:Zs):Am P' P fz (fun _ n n'=>n=n'/\n=P.cellsOf t) ρ (sizeOf t) (sizeOf t):=by
 unfold sizeOf;refine Ac _ (Cu T t) fun σ i i' _ hi=>?_;obtain⟨rfl,hi⟩:=hi;exact Ad ⟨rfl,by simp[Zco,hi]⟩
def fN (T:Twins P' P)(t:Zs):Am P' P fz Gf ρ (isAgg t) (isAgg t):=by
 unfold isAgg;refine Ac _ (Aq T t) fun σ i i' _ hi=>?_;obtain⟨rfl,_⟩:=hi;split<;>exact Ad rfl
def AR.add {a:Addr}(h:AR ρ a a')(n:Nat):AR ρ (a.add n) (a'.add n):=by
 unfold Zcu;split
 .exact h
 exact⟨h.1,by simp only[h.2.1],rfl⟩
def J5:∀(n:Nat) (i:Nat) {a a':Addr} (acc yF:Array Zf) (ρ:Ren),AR ρ a a'->BS ρ acc yF->Am P' P fz BS ρ (ZdD a i n acc) (ZdD a' i n yF)
 |0,_,_,_,_,_,_,_,yG=>Ad yG
 |n+1,i,a,a',acc,yF,ρ,h,yG=>by
  unfold ZdD;exact Ac _ (mU .plain (h.add i)) fun σ v v' hle hv=>J5 n (i+1) _ _ σ (h.mono hle) ((BS.mono hle yG).push hv)
def Kv {a:Addr}(h:AR ρ a a')(n:Nat):Am P' P fz BS ρ (loadCells a n) (loadCells a' n):=J5 n 0 _ _ ρ h Bz.nil
def JD:∀ {vs vs':List Zf} {ρ:Ren} {a a':Addr} (i:Nat),AR ρ a a'->Ep (VR ρ) vs vs'->Am P' P fz Gf ρ (ZbX a vs i) (ZbX a' vs' i):=by
 intro vs
 induction vs with
 |nil=>intro vs' ρ a a' i h hv;cases hv;exact Ad rfl
 |cons v vs ih=>
  intro vs' ρ a a' i h hv;cases hv with
  |cons hv ht=>
   unfold ZbX;exact Ac _ (sj .plain (h.add i) hv) fun σ _ _ hle _=>ih (i+1) (h.mono hle) (ht.mono fun _ _=>VR.mono hle)
def Uq (T:Twins P' P)(t:Zs){a:Addr}(h:AR ρ a a'):Am P' P fz VR ρ (Zdd t a) (Zdd t a'):=by
 unfold Zdd;refine Ac _ (fN T t) fun σ b b' hle hb=>?_;cases hb;split
 .refine Ac _ (Ck T t) fun Br n n' Aw hn=>?_
  obtain⟨rfl,_⟩:=hn;exact Ac _ (Kv (h.mono (Ren.le_trans hle Aw)) n) fun τ c c' _ hc=>Ad (.P6 hc)
 exact mU .plain (h.mono hle)
def cQ (T:Twins P' P)(t:Zs){a:Addr}(h:AR ρ a a')(hv:VR ρ v v'):Am P' P fz Gf ρ (storeVar t a v) (storeVar t a' v'):=by
 unfold storeVar;refine Ac _ (Ck T t) fun σ n n' hle hn=>?_;obtain⟨rfl,_⟩:=hn;have hc:=(hv.mono hle).cells;rw[hc.1];split
 .exact Ae
 exact JD 0 (h.mono hle) hc.list
def IZ (e:Zs){c:Array Zf}(h:BS ρ c c'):Am P' P fz AR ρ (newRow e c) (newRow e c'):=by
 unfold newRow;exact Ac _ (Hg (.cells e h (yz.refl _))) fun σ r r' _ hr=>Ad ⟨hr,rfl,rfl⟩
def Nh (t:Zs)(h:VR ρ v v'):Am P' P fz AR ρ (newVar t v) (newVar t v'):=IZ t h.cells
def Xr (T:Twins P' P)(t:Zs):Am P' P fz Gf ρ (elemOf t) (elemOf t):=by
 unfold elemOf;refine Ac _ (Aq T t) fun σ i i' _ hi=>?_;obtain⟨rfl,_⟩:=hi;split
 .exact Ad rfl
 exact Ae
def Kw (T:Twins P' P)(t:Zs){c:Array Zf}(h:BS ρ c c')(off:Nat):Am P' P fz VR ρ (part t c off) (part t c' off):=by
 unfold part;refine Ac _ (fN T t) fun σ b b' hle hb=>?_;cases hb;have h1:=BS.mono hle h;split
 .refine Ac _ (Ck T t) fun Br n n' Aw hn=>?_
  obtain⟨rfl,_⟩:=hn;exact Ad (.P6 ((BS.mono Aw h1).extract _ _))
 rcases h1.opt off with⟨e1,e2⟩|⟨x,y,e1,e2,hr⟩
 .rw[e1];exact Ae
 rw[e1,e2];exact Ad hr
def Ll (h:VR ρ v v'):Am P' P fz Gf ρ (asIntOf v) (asIntOf v'):=by
 cases h with
 |int k n=>exact Ad rfl
 | @pointer a a' hp=>cases a<;>first|exact Ae|exact Ai
 |_=>exact Ae
def Lm (h:VR ρ v v'):Am P' P fz Gf ρ (asInt v) (asInt v'):=by
 unfold asInt;exact Ac _ (Ll h) fun σ a b _ DU=>by cases DU;exact Ad rfl
def Ru (h:VR ρ v v'):Am P' P fz Gf ρ (asBool v) (asBool v'):=by
 cases h with
 |bool b=>exact Ad rfl
 |_=>exact Ae
def sk (h:VR ρ v v'):Am P' P fz BS ρ (asAgg v) (asAgg v'):=by
 cases h with
 |agg hc hv=>exact Ad ⟨hc,hv⟩
 |_=>exact Ae
def Base (P:Zo)(ρ:Ren):Prop:=ρ.ok.low=P.globals.size
def Base.mono {ρ:Ren}(h:Base P ρ)(hle:ρ.le σ):Base P σ:=by
 unfold Base at*;rw[hle.2.1];exact h
def Xt (T:Twins P' P)(hB:Base P ρ)(t:Zs):VR ρ (ZdV P' t) (ZdV P t):=by
 unfold ZdV;rw[T.tables];have:=ρ.base;unfold Base at hB;rw[hB]at this;exact .pointer ⟨this,rfl,rfl⟩
def AJ (T:Twins P' P)(hB:Base P ρ)(e:RuntimeError):Am P' P fz Q ρ (zw e:Sem α) (zw e:Sem β):=by
 unfold zw;refine Ac _ C2 fun σ p p' hle hp=>?_;obtain⟨rfl,rfl⟩:=hp;have mW:=T.rt;cases e with
 |bounds x y s c=>simp only[mW];exact Ej (.iface _ (.P6 ((((Bz.single (.int _ _)).push (.int _ _)).push (.bool _)).push (.int _ _))))
 |error m=>simp only[mW];exact Ej (.iface _ (.string _))
 |plain m=>simp only[mW];exact Ej (.iface _ (.string _))
 |nilDeref=>simp only[mW];exact Ej (.iface _ (.string _))
 |typeAssertion i c a m=>
  simp only[mW];refine Ac _ (Xr T _) fun Br e e' Aw he=>?_;cases he;have I0:Base P Br:=hB.mono (Ren.le_trans hle Aw);have hh:∀t:Option Zs,VR Br (match t with|some t=>ZdV P' t|none=>.pointer none) (match t with|some t=>ZdV P t|none=>.pointer none):=by
   intro t;cases t with
   |none=>exact .pointer trivial
   |some t=>exact Xt T I0 t
  refine Ac _ (Nh _ (.P6 ((((Bz.single (hh i)).push (hh c)).push (hh (some a))).push (.string _)))) fun Eo r r' _ hr=>?_;exact Ej (.iface _ (.pointer hr))
 |panicNil=>
  simp only[mW];refine Ac _ (Xr T _) fun Br e e' Aw he=>?_;cases he;refine Ac _ (Nh _ (.P6 Bz.nil)) fun Eo r r' _ hr=>?_;exact Ej (.iface _ (.pointer hr))
 |unhashable t=>
  simp only[mW];exact Ej (.iface _ (.P6 (Bz.single (Xt T (hB.mono hle) t))))
def Ex (T:Twins P' P)(hB:Base P ρ)(k:IntKind)(x y:Int)(c:BoundsCode):Am P' P fz Q ρ (ZaT k x y c:Sem α) (ZaT k x y c:Sem β):=by
 unfold ZaT;dsimp only;split
 .refine Ac Gf ?_ fun σ a b hle DU=>?_
  .refine Ac _ (Hh _) fun σ a b _ DU=>?_
   cases DU;exact Ad rfl
  cases DU;exact AJ T (hB.mono hle) _
 refine Ac Gf (Ad rfl) fun σ a b hle DU=>?_;cases DU;exact AJ T (hB.mono hle) _
def Xu (T:Twins P' P)(hB:Base P ρ)(h:VR ρ v v'):Am P' P fz AR ρ (asAddr v) (asAddr v'):=by
 cases h with
 | @pointer a a' hp=>
  cases a<;>cases a'<;>first|exact hp.elim|skip
  .exact AJ T hB .nilDeref
  .exact Ad hp
 |_=>exact Ae
def Hj (h:VR ρ v v'):Am P' P fz AR ρ (Instr.sureAddr v) (Instr.sureAddr v'):=by
 cases h with
 | @pointer a a' hp=>
  cases a<;>cases a'<;>first|exact hp.elim|skip
  .exact Ae
  .exact Ad hp
 |_=>exact Ae
end
section
variable {P' P:Zo}{fz:Prop}{ρ:Ren}
def CC {Q:Ren->α->β->Prop}{m:String}{f:γ->Sem α}{s':Sem β}:Am P' P fz Q ρ ((stuck m:Sem γ)>>=f) s':=.bad trivial
def F7 (T:Twins P' P):∀(d:Nat) (t:Zs) (off:Nat),ZdF P' d t off=ZdF P d t off
 |0,_,_=>rfl
 |d+1,t,off=>by
  unfold ZdF;rw[T.yE];cases P.underlying t with
  |none=>rfl
  |some x=>
   cases x with
   |struct fs=>simp only[T.cells,F7 T d]
   |array n e=>simp only[T.cells,T.bytes,F7 T d]
   |_=>rfl
variable {l l' i n r r' N:Nat}
def Xv (h:ρ r=some r'):Am P' P fz (fun _ a b=>a=none/\b=none) ρ (viewAt r) (viewAt r'):=by
 unfold viewAt;refine Ac _ (Ng h) fun σ s s' hle hs=>?_;cases hs;split
 .exact Ad ⟨rfl,rfl⟩
 refine Ac _ (C6 (hle.1 _ _ h)) fun τ o o' _ ho=>?_;cases ho with
 | @junk o' h=>cases o'<;>first|exact Ad ⟨rfl,rfl⟩|cases h
 |_=>exact Ad ⟨rfl,rfl⟩
def mY {a:Addr}(h:AR ρ a a'):Am P' P fz Gf ρ (noView a) (noView a'):=by
 unfold noView;refine Ac _ (Xv h.1) fun σ s s' hle hs=>?_;obtain⟨rfl,rfl⟩:=hs;exact Ad rfl
def Hk (T:Twins P' P){a:Addr}(h:AR ρ a a'):Am P' P fz Gf ρ (byteOf a) (byteOf a'):=by
 unfold byteOf;rw[h.2.2];cases a.spot with
 |some s=>exact Ad rfl
 |none=>
  dsimp only;refine Ac _ C2 fun σ p p' hle hp=>?_;obtain⟨rfl,rfl⟩:=hp;have h1:=h.mono hle;refine Ac _ (mY h1) fun aqI _ _ yH _=>?_;have h2:=h1.mono yH;refine Ac _ (Ng h2.1) fun Br s s' Aw hs=>?_;cases hs;cases s with
  |none=>exact Ae
  |some x=>
   obtain⟨e,n⟩:=x;dsimp only;rw[T.cells,T.depth,F7 T,h.2.1,T.bytes];split
   .exact Ad rfl
   cases ZdF P P.depth e (a.off % P.cellsOf e) with
   |none=>exact Ae
   |some b=>exact Ad rfl
def mZ (T:Twins P' P){a:Addr}(h:AR ρ a a')(cells bytes:Nat):Am P' P fz AR ρ (partAt a cells bytes) (partAt a' cells bytes):=by
 unfold partAt;refine Ac _ (Hk T h) fun σ b b' hle hb=>?_;cases hb;have h1:AR σ {block:=a.block,off:=a.off+cells} {block:=a'.block,off:=a'.off+cells}:=⟨hle.1 _ _ h.1,by simp only[h.2.1],rfl⟩;dsimp only;refine Ac _ (Hk T h1) fun Br c c' Aw hc=>?_;cases hc;split
 .exact Ad (h1.mono Aw)
 exact Ad ⟨(h1.mono Aw).1,h1.2.1,rfl⟩
def Vw (T:Twins P' P){a:Addr}(h:AR ρ a a')(f:Field):Am P' P fz AR ρ (fieldPlace a f) (fieldPlace a' f):=by
 unfold fieldPlace;refine Ac _ (Ck T _) fun σ n n' hle hn=>?_;obtain⟨rfl,_⟩:=hn;split
 .exact mZ T (h.mono hle) _ _
 exact Ad ((h.mono hle).add _)
def su (T:Twins P' P)(e:Zs):Am P' P fz VR ρ (ZdP e true (.tuple #[])) (ZdP e true (.tuple #[])):=by
 unfold ZdP;refine Ac _ (C8 T e) fun σ v v' hle hv=>?_;exact Ac _ (Nh e hv) fun τ a a' _ ha=>Ad (.pointer ha)
def ae0 (e:Zs)(h:VR ρ v v'):Am P' P fz VR ρ (Instr.box e v) (Instr.box e v'):=
 Ac _ (Nh e h) fun _ _ _ _ ha=>Ad (.pointer ha)
def m_ (T:Twins P' P)(t:Zs)(h:VR ρ v v'):Am P' P fz VR ρ (Instr.loadAt t v) (Instr.loadAt t v'):=
 Ac _ (Hj h) fun _ _ _ _ ha=>Uq T t ha
def i_ (T:Twins P' P)(t:Zs)(h:VR ρ v v')(hx:VR ρ x x'):Am P' P fz Gf ρ (Instr.storeAt t v x) (Instr.storeAt t v' x'):=
 Ac _ (Hj h) fun _ _ _ hle ha=>cQ T t ha (hx.mono hle)
def ja (T:Twins P' P)(s:Zs)(h:VR ρ v v')(f:Nat):Am P' P fz VR ρ (Zc2 s v f) (Zc2 s v' f):=by
 unfold Zc2;refine Ac _ (Aq T s) fun σ i i' hle hi=>?_;obtain⟨rfl,_⟩:=hi;cases i with
 |struct fields=>
  dsimp only;cases fields[f]? with
  |none=>exact Ae
  |some x=>
   dsimp only;refine Ac _ (Hj (h.mono hle)) fun Br a a' Aw ha=>?_;exact Ac _ (Vw T ha x) fun τ b b' _ hb=>Ad (.pointer hb)
 |_=>exact Ae
def jb (T:Twins P' P)(hB:Base P ρ)(t:Zs){i:Zf}(hx:VR ρ x x')(hi:VR ρ i i'):Am P' P fz VR ρ (Zb9 t x i) (Zb9 t x' i'):=by
 unfold Zb9;refine Ac _ (Ll hi) fun σ k k' hle hk=>?_;cases hk;obtain⟨k,i⟩:=k;dsimp only;refine Ac _ (Aq T t) fun Br d d' Aw hd=>?_;obtain⟨rfl,hd⟩:=hd;have Bd:=hx.mono (Ren.le_trans hle Aw);have tail:∀(τ:Ren) (a a':Option Addr×Nat×Zs) (u:Zdf),GY (.unsupported u)->ρ.le τ->Om τ a.1 a'.1->a.2=a'.2->
   Am P' P fz VR τ (underlying t>>=fun Ni=>
    match a.1 with
    |some ad=>if 0<=i/\i<a.2.1 then(sizeOf a.2.2>>=fun n=>pure (ZbT (some (ad.add (i.toNat*n)))))
      else if(decide (a.2.1<=1)&&(match Ni with| .array .. =>true|_=>false))=true then unsupported u else ZaT k i a.2.1 .index
    |none=>ZaT k i 0 .index) (underlying t>>=fun Ni=>
    match a'.1 with
    |some ad=>if 0<=i/\i<a'.2.1 then(sizeOf a'.2.2>>=fun n=>pure (ZbT (some (ad.add (i.toNat*n)))))
      else if(decide (a'.2.1<=1)&&(match Ni with| .array .. =>true|_=>false))=true then unsupported u else ZaT k i a'.2.1 .index
    |none=>ZaT k i 0 .index):=by
  intro τ a a' u hu Df h1 h2;obtain⟨b,len,elem⟩:=a;obtain⟨b',auC,aqJ⟩:=a';cases h2;dsimp only at h1⊢;refine Ac _ (Aq T t) fun Kx Hf aqK BH ae1=>?_;obtain⟨rfl,_⟩:=ae1;have Po:Base P Kx:=hB.mono (Ren.le_trans Df BH);cases b<;>cases b'<;>first|exact h1.elim|skip
  .dsimp only;exact Ex T Po _ _ _ _
  dsimp only;split
  .refine Ac _ (Ck T _) fun Nj n n' D7 hn=>?_
   obtain⟨rfl,_⟩:=hn;exact Ad (.pointer ((AR.mono (Ren.le_trans BH D7) h1).add _))
  (repeat' split)<;>first|exact Ai hu|exact Ex T Po _ _ _ _
 have CK:=Ren.le_trans hle Aw;cases d with
 |array len elem=>exact Ac _ (Hj Bd) fun _ _ _ AY ha=>tail _ (some _,_,_) (some _,_,_) _ trivial (Ren.le_trans CK AY) ha rfl
 |slice elem=>
  cases Bd with
  |slice n c h=>exact tail _ (_,_,_) (_,_,_) _ trivial CK h rfl
  |_=>exact CC
 |_=>exact CC
def JE (T:Twins P' P)(hB:Base P ρ)(hx:VR ρ x x')(y:Nat)(c:BoundsCode):Am P' P fz Gf ρ (Zcg x y c) (Zcg x' y c):=by
 unfold Zcg;refine Ac _ (Ll hx) fun σ k k' hle hk=>?_;cases hk;obtain⟨k,i⟩:=k;dsimp only;split
 .exact Ad rfl
 exact Ex T (hB.mono hle) _ _ _ _
def fO (ρ:Ren):Option Zf->Option Zf->Prop
 |none,none=>True
 |some a,some b=>VR ρ a b
 |_,_=>False
def fO.mono {ρ:Ren}(h:ρ.le σ){a b:Option Zf}(x:fO ρ a b):fO σ a b:=by
 cases a<;>cases b<;>first|exact x|exact VR.mono h x
variable {m' h h':Option Zf}
def F8 (T:Twins P' P)(hB:Base P ρ)(s:Bool)(len cap:Nat){l l' m:Option Zf}(hl:fO ρ l l')(hh:fO ρ h h')(hm:fO ρ m m'):
  Am P' P fz Gf ρ (Zbf s len cap l h m) (Zbf s len cap l' h' m'):=by
 unfold Zbf;cases l<;>cases l'<;>first|exact hl.elim|skip
 all_goals cases h<;>cases h'<;>first|exact hh.elim|skip
 all_goals cases m<;>cases m'<;>first|exact hm.elim|skip
 all_goals dsimp only[Option.isSome]
 all_goals
  refine Ac Gf (by first|exact Ad rfl|exact JE T hB hm _ _) fun σ a a' hle ha=>?_;cases ha;refine Ac Gf (by first|exact Ad rfl|exact Ae|exact JE T (hB.mono hle) (VR.mono hle hh) _ _) fun Br b b' Aw hb=>?_;cases hb;refine Ac Gf (by first|exact Ad rfl|exact JE T (hB.mono (Ren.le_trans hle Aw)) (VR.mono (Ren.le_trans hle Aw) hl) _ _) fun Eo c c' _ hc=>?_;cases hc;exact Ad rfl
def sx (T:Twins P' P)(hB:Base P ρ)(t:Zs){l l' m:Option Zf}(hx:VR ρ x x')(hl:fO ρ l l')(hh:fO ρ h h')(hm:fO ρ m m'):
  Am P' P fz VR ρ (ZbI t x l h m) (ZbI t x' l' h' m'):=by
 unfold ZbI;refine Ac _ (Aq T t) fun σ d d' hle hd=>?_;obtain⟨rfl,_⟩:=hd;have Bd:=hx.mono hle;have I0:=hB.mono hle;cases d with
 |string=>
  cases Bd with
  |string s=>
   dsimp only;have hms:m.isSome=m'.isSome:=by cases m<;>cases m'<;>first|rfl|exact hm.elim
   rw[hms];split
   .exact Ae
   .refine Ac _ (F8 T I0 _ _ _ (hl.mono hle) (hh.mono hle) trivial) fun Br b b' _ hb=>?_
    cases hb;exact Ad (.string _)
  |_=>exact Ae
 |slice elem=>
  cases Bd with
  | @slice a a' n c ha=>
   dsimp only;refine Ac _ (F8 T I0 _ _ _ (hl.mono hle) (hh.mono hle) (hm.mono hle)) fun Br b b' Aw hb=>?_;cases hb;obtain⟨b1,b2,b3⟩:=b;dsimp only;refine Ac _ (Ck T _) fun Eo s s' AY hs=>?_;obtain⟨rfl,_⟩:=hs;refine Ad (.slice _ _ ?_);have Nk:=ha.mono (Ren.le_trans Aw AY);split
   .exact Nk
   .cases a<;>cases a'<;>first|exact Nk.elim|exact trivial|exact AR.add Nk _
  |_=>exact Ae
 |pointer arr=>
  refine Ac _ (Xu T I0 Bd) fun Br a a' Aw ha=>?_;refine Ac _ (Aq T arr) fun Eo e e' AY he=>?_;obtain⟨rfl,_⟩:=he;have G8:=Ren.le_trans hle (Ren.le_trans Aw AY);cases e with
  |array n elem=>
   dsimp only;refine Ac _ (F8 T (hB.mono G8) _ _ _ (hl.mono G8) (hh.mono G8) (hm.mono G8)) fun Kx b b' BH hb=>?_;cases hb;obtain⟨b1,b2,b3⟩:=b;dsimp only;refine Ac _ (Ck T _) fun Nj s s' D7 hs=>?_;obtain⟨rfl,_⟩:=hs;have Xw:=ha.mono (Ren.le_trans AY (Ren.le_trans BH D7));refine Ad (.slice _ _ ?_);split
   .exact Xw
   .exact AR.add Xw _
  |_=>exact Ae
 |_=>cases Bd<;>exact Ae
def jc (T:Twins P' P)(hB:Base P ρ)(t:Zs){l l' m:Option Zf}(hx:VR ρ x x')(hl:fO ρ l l')(hh:fO ρ h h')(hm:fO ρ m m'):
  Am P' P fz VR ρ (ZaI t x l h m) (ZaI t x' l' h' m'):=by
 unfold ZaI;refine Ac _ (Aq T t) fun σ d d' hle hd=>?_;obtain⟨rfl,_⟩:=hd;have hd:∀s:Sem Zf,s=ZbI t x l h m->∀s',s'=ZbI t x' l' h' m'->Am P' P fz VR σ s s':=by
  rintro _ rfl _ rfl;exact sx T (hB.mono hle) t (hx.mono hle) (hl.mono hle) (hh.mono hle) (hm.mono hle)
 cases d with
 |array n elem=>
  dsimp only;refine Ac _ (Hj (hx.mono hle)) fun Br a a' Aw ha=>?_;have CK:=Ren.le_trans hle Aw;refine Ac _ (F8 T (hB.mono CK) _ _ _ (hl.mono CK) (hh.mono CK) (hm.mono CK)) fun Kx b b' BH hb=>?_;cases hb;obtain⟨b1,b2,b3⟩:=b;dsimp only;refine Ac _ (Ck T _) fun Nj s s' D7 hs=>?_;obtain⟨rfl,_⟩:=hs;have Xw:=ha.mono (Ren.le_trans BH D7);refine Ad (.slice _ _ ?_);split
  .exact Xw
  .exact AR.add Xw _
 |_=>exact hd _ rfl _ rfl
def sA (T:Twins P' P)(t:Zs)(hx:VR ρ x x')(f:Nat):Am P' P fz VR ρ (ZdO t x f) (ZdO t x' f):=by
 unfold ZdO;refine Ac _ (Aq T t) fun σ d d' hle hd=>?_;obtain⟨rfl,_⟩:=hd;cases d with
 |struct fields=>
  dsimp only;cases fields[f]? with
  |none=>exact Ae
  |some y=>exact Ac _ (sk (hx.mono hle)) fun Br c c' _ hc=>Kw T _ hc _
 |_=>exact Ae
def sB (T:Twins P' P)(hB:Base P ρ)(t:Zs){i:Zf}(hx:VR ρ x x')(hi:VR ρ i i'):Am P' P fz VR ρ (ZdN t x i) (ZdN t x' i'):=by
 unfold ZdN;refine Ac _ (Ll hi) fun σ k k' hle hk=>?_;cases hk;obtain⟨k,i⟩:=k;dsimp only;refine Ac _ (Aq T t) fun Br d d' Aw hd=>?_;obtain⟨rfl,hd⟩:=hd;have CK:=Ren.le_trans hle Aw;have Bd:=hx.mono CK;cases d with
 |array len elem=>
  cases Bd with
  |agg hc hv=>
   dsimp only;split
   .refine Ac _ (Ck T _) fun Nj s s' D7 hs=>?_
    obtain⟨rfl,_⟩:=hs;exact Kw T _ (BS.mono D7 ⟨hc,hv⟩) _
   .exact Ex T (hB.mono CK) _ _ _ _
  |_=>exact Ae
 |string=>
  cases Bd with
  |string s=>
   dsimp only;split
   .exact Ad (.int _ _)
   .exact Ex T (hB.mono CK) _ _ _ _
  |_=>exact Ae
 |_=>cases Bd<;>exact Ae
def jd (hx:VR ρ x x')(i:Nat):Am P' P fz VR ρ (Zc3 x i) (Zc3 x' i):=by
 unfold Zc3;cases hx with
 | @tuple c c' hc hv=>
  dsimp only;rcases(show BS ρ c c' from⟨hc,hv⟩).opt i with⟨e1,e2⟩|⟨x,y,e1,e2,hr⟩
  .rw[e1];exact Ae
  .rw[e1,e2];exact Ad hr
 |_=>exact Ae
def P7 (T:Twins P' P)(t:Zs)(hx:VR ρ x x'):Am P' P fz VR ρ (ZbR t x) (ZbR t x'):=by
 unfold ZbR;refine Ac _ (Aq T t) fun σ d d' hle hd=>?_;obtain⟨rfl,_⟩:=hd;cases d<;>first|exact Ae|exact Ad (.iface _ (hx.mono hle))
def je (T:Twins P' P)(t:Zs){r r':Option Zf}(hr:fO ρ r r'):Am P' P fz VR ρ (Zc0 t r) (Zc0 t r'):=by
 unfold Zc0;cases r<;>cases r'<;>first|exact hr.elim|skip
 .exact Ac _ (Hg (.map 0 Bz.nil)) fun σ a a' _ ha=>Ad (.map ha)
 dsimp only;refine Ac _ (Aq T t) fun σ d d' hle hd=>?_;obtain⟨rfl,_⟩:=hd;cases d with
 |map _ _=>
  refine Ac _ (Lm (VR.mono hle hr)) fun Br _ _ _ _=>?_;exact Ac _ (Hg (.map 0 Bz.nil)) fun σ a a' _ ha=>Ad (.map ha)
 |_=>exact Ae
def TE (h:BS ρ a b)(hz:a.size≠0)(n:Nat):BS ρ ((YN n).map (a[· % a.size]!)) ((YN n).map (b[· % b.size]!)):=by
 refine⟨by simp,fun i x y hx hy=>?_⟩;rw[zF,zc]at hx hy;obtain⟨u,hu,rfl⟩:=hx;obtain⟨v,hv,rfl⟩:=hy;rw[hu]at hv;cases hv;have h1:u % a.size<a.size:=Nat.mod_lt _ (by omega);have h2:u % b.size<b.size:=by rw[<-h.1];exact h1
 rw[getElem!_pos a _ h1,getElem!_pos b _ h2];refine h.2 (u % a.size) _ _ (Zx h1) ?_;have:u % a.size=u % b.size:=by rw[h.1]
 rw[this];exact Zx h2
end
section
variable {P' P:Zo}{fz:Prop}{ρ:Ren}
inductive yI {β γ:Type}(R:Ren->β->γ->Prop)(σ:Ren):ForInStep β->ForInStep γ->Prop
 |yield {b:β} {c:γ} (h:R σ b c):yI R σ (.yield b) (.yield c)
 |done {b:β} {c:γ} (h:R σ b c):yI R σ (.done b) (.done c)
def Vx {E:Ren->α->δ->Prop}{R:Ren->β->γ->Prop}(hE:∀ρ σ x y,ρ.le σ->E ρ x y->E σ x y){f:α->β->Sem (ForInStep β)}{f':δ->γ->Sem (ForInStep γ)}:
  ∀ {l:List α} {l':List δ} {σ:Ren} {b:β} {c:γ},Ep (E σ) l l'->R σ b c->
   (∀τ x y b c,σ.le τ->E τ x y->R τ b c->Am P' P fz (yI R) τ (f x b) (f' y c))->Am P' P fz R σ (forIn l b f) (forIn l' c f'):=by
 intro l
 induction l with
 |nil=>intro l' σ b c hl hb _;cases hl;exact Ad hb
 |cons x l ih=>
  intro l' σ b c hl hb hf;cases hl with
  |cons hx ht=>
   rw[List.forIn_cons,List.forIn_cons];refine Ac _ (hf σ x _ b c (Ren.le_refl _) hx hb) fun τ s s' hle hs=>?_;cases hs with
   |yield h=>exact ih (ht.mono fun _ _=>hE _ _ _ _ hle) h fun υ x y b c Aw=>hf υ x y b c (Ren.le_trans hle Aw)
   |done h=>exact Ad h
def Ep.eq (l:List α):Ep (fun a b=>a=b) l l:=by
 induction l with
 |nil=>exact .nil
 |cons x l ih=>exact .cons rfl ih
def fP {R:Ren->β->γ->Prop}{f:α->β->Sem (ForInStep β)}{f':α->γ->Sem (ForInStep γ)}(l:List α){b:β}{c:γ}(hb:R ρ b c)
 (hf:∀τ x b c,ρ.le τ->R τ b c->Am P' P fz (yI R) τ (f x b) (f' x c)):Am P' P fz R ρ (forIn l b f) (forIn l c f'):=
 Vx (E:=Gf) (fun _ _ _ _ _ h=>h) (Ep.eq l) hb fun τ x y b c hle hxy Kf=>by cases hxy;exact hf τ x b c hle Kf
def fQ {R:Ren->β->γ->Prop}{f:Nat->β->Sem (ForInStep β)}{f':Nat->γ->Sem (ForInStep γ)}(n:Nat){b:β}{c:γ}(hb:R ρ b c)
 (hf:∀τ x b c,ρ.le τ->R τ b c->Am P' P fz (yI R) τ (f x b) (f' x c)):Am P' P fz R ρ (forIn [0:n] b f) (forIn [0:n] c f'):=by
 simp only[Zdw];exact fP _ hb hf
def sC {R:Ren->β->γ->Prop}{f:α->β->Sem (ForInStep β)}{f':α->γ->Sem (ForInStep γ)}(a:Array α){b:β}{c:γ}(hb:R ρ b c)
 (hf:∀τ x b c,ρ.le τ->R τ b c->Am P' P fz (yI R) τ (f x b) (f' x c)):Am P' P fz R ρ (forIn a b f) (forIn a c f'):=by
 rw[<-Zaf, <-Zaf];exact fP _ hb hf
def nd {R:Ren->β->γ->Prop}{f:Zf->β->Sem (ForInStep β)}{f':Zf->γ->Sem (ForInStep γ)}{a':Array Zf}(h:BS ρ a a'){b:β}{c:γ}(hb:R ρ b c)
 (hf:∀τ x y b c,ρ.le τ->VR τ x y->R τ b c->Am P' P fz (yI R) τ (f x b) (f' y c)):Am P' P fz R ρ (forIn a b f) (forIn a' c f'):=by
 rw[<-Zaf, <-Zaf];exact Vx (E:=VR) (fun _ _ _ _ hle h=>h.mono hle) h.list hb hf
end
section
variable {P' P:Zo}{fz:Prop}{ρ:Ren}
def Ur (T:Twins P' P)(t:Zs):Am P' P fz Gf ρ (typeStr t) (typeStr t):=by
 unfold typeStr;refine Ac _ (Cu T t) fun σ i i' _ hi=>?_;obtain⟨rfl,_⟩:=hi;dsimp only;split
 .exact Ai
 exact Ad rfl
def D8 (T:Twins P' P):∀(empty:Bool) (n:Nat) (t:Zs) {ρ:Ren} {v v':Zf},Base P ρ->VR ρ v v'->Am P' P fz Gf ρ (YD empty n t v) (YD empty n t v')
 |_,0,_,_,_,_,_,_=>Ai
 |empty,n+1,t,ρ,v,v',hB,hv=>by
  unfold YD;refine Ac _ (Aq T t) fun σ d d' hle hd=>?_;obtain⟨rfl,_⟩:=hd;have fR:=hv.mono hle;have I0:=hB.mono hle;cases d with
  |interface ms=>
   cases fR with
   |iface d h=>
    dsimp only;refine Ac _ (Cu T d) fun Br i i' Aw hi=>?_;obtain⟨rfl,_⟩:=hi;have Us:=I0.mono Aw;have ae2:=D8 T empty n d Us (h.mono Aw);split
    .cases empty with
     |true=>
      refine Ac Gf (AJ T Us _) fun Eo _ _ AY _=>?_;refine Ac _ (Ur T d) fun Kx s s' BH hs=>?_;cases hs;exact Ac Gf (AJ T ((Us.mono AY).mono BH) _) fun Nj _ _ D7 _=>D8 T true n d (((Us.mono AY).mono BH).mono D7) (h.mono (Ren.le_trans Aw (Ren.le_trans AY (Ren.le_trans BH D7))))
     |false=>
      refine Ac _ (Ur T d) fun Kx s s' BH hs=>?_;cases hs;exact Ac Gf (AJ T (Us.mono BH) _) fun Nj _ _ D7 _=>D8 T false n d ((Us.mono BH).mono D7) (h.mono (Ren.le_trans Aw (Ren.le_trans BH D7)))
    .exact ae2
   |nilIface=>exact Ad rfl
   |_=>exact Ae
  |array len elem=>
   cases fR with
   | @agg c c' hc Mi=>
    have hcs:BS σ c c':=⟨hc,Mi⟩;dsimp only;refine Ac Gf (fQ (R:=Gf) len rfl fun τ x b c Df _=>?_) fun _ _ _ _ _=>Ad rfl;refine Ac _ (Ck T elem) fun DD s s' Bo hs=>?_;obtain⟨rfl,_⟩:=hs;refine Ac _ (Kw T elem (BS.mono (Ren.le_trans Df Bo) hcs) _) fun J6 y y' Ce hy=>?_;exact Ac _ (D8 T empty n elem (I0.mono (Ren.le_trans Df (Ren.le_trans Bo Ce))) hy) fun _ _ _ _ _=>Ad (.yield rfl)
   |_=>exact Ae
  |struct fields=>
   cases fR with
   | @agg c c' hc Mi=>
    have hcs:BS σ c c':=⟨hc,Mi⟩;dsimp only;refine Ac Gf (sC (R:=Gf) fields rfl fun τ f b c Df _=>?_) fun _ _ _ _ _=>Ad rfl;split
    .refine Ac _ (Kw T _ (BS.mono Df hcs) _) fun J6 y y' Ce hy=>?_
     exact Ac _ (D8 T empty n _ (I0.mono (Ren.le_trans Df Ce)) hy) fun _ _ _ _ _=>Ad (.yield rfl)
    .exact Ad (.yield rfl)
   |_=>exact Ae
  |_=>cases fR<;>exact Ad rfl
end
def JF (P:Zo):Nat->Zs->Bool
 |0,_=>false
 |n+1,t=>match P.underlying t with
  |some .bool|some (.int _)|some (.float _)|some (.complex _)|some .string|some (.slice _)|some (.map _ _)|some (.func _ _ _)|some (.chan _ _)=>true
  |some (.struct fs)=>fs.all fun f=>JF P n f.type
  |some (.array _ e)=>JF P n e
  |_=>false
section
variable {P' P:Zo}{fz:Prop}{ρ:Ren}
def Rq.eq_iff {a a' b b':Option Nat}(h:Rq ρ a a')(k:Rq ρ b b'):(a==b)=(a'==b'):=by
 rw[ZcG,beq_iff_eq,beq_iff_eq];cases a<;>cases a'<;>first|exact h.elim|skip
 all_goals cases b<;>cases b'<;>first|exact k.elim|skip
 .simp
 .simp
 .simp
 simp only[ZJ];constructor
 .rintro rfl;have h1:ρ _=_:=h;rw[show ρ _=_ from k]at h1;cases h1;rfl
 rintro rfl;exact ρ.inj _ _ _ h k
def Om.isNone {a a':Option Addr}(h:Om ρ a a'):a.isNone=a'.isNone:=by
 cases a<;>cases a'<;>first|exact h.elim|rfl
def Rq.isNone {a a':Option Nat}(h:Rq ρ a a'):a.isNone=a'.isNone:=by
 cases a<;>cases a'<;>first|exact h.elim|rfl
def J7 (hT:P'.toTables=P.toTables):∀(n:Nat) (t u:Zs),P'.alikeButTags n t u=P.alikeButTags n t u
 |0,_,_=>rfl
 |n+1,t,u=>by
  unfold Program.alikeButTags;simp only[hT,J7 hT n]
def Rv (hT:P'.toTables=P.toTables)(t:Zs):P'.stoodInHeld t=P.stoodInHeld t:=by
 have hu:∀t,P'.underlying t=P.underlying t:=fun t=>by unfold ZbU;simp only[hT]
 have hi:∀t,P'.underlyingId t=P.underlyingId t:=fun t=>by unfold Program.underlyingId;simp only[hT]
 have hd:P'.depth=P.depth:=by unfold Program.depth;rw[hT]
 unfold Program.stoodInHeld Program.stoodInAs;simp only[hu,hi,hd,J7 hT,hT]
def AR.Rw {a b:Addr}(h:AR ρ a a')(k:AR ρ b b'):(a.block==b.block)=(a'.block==b'.block):=by
 rw[ZcG,beq_iff_eq,beq_iff_eq];constructor
 .intro e;have h1:=h.1;rw[e,k.1]at h1;exact(ZW h1).symm
 intro e;have h1:=h.1;rw[e]at h1;exact ρ.inj _ _ _ h1 k.1
def AR.eq_iff {a b:Addr}(h:AR ρ a a')(k:AR ρ b b'):(a==b)=(a'==b'):=by
 have hb:=AR.Rw h k;obtain⟨ab,ao,asp⟩:=a;obtain⟨ab',ao',auD⟩:=a';obtain⟨bb,bo,bsp⟩:=b;obtain⟨bb',bo',auE⟩:=b';obtain⟨h1,h2,h3⟩:=h;obtain⟨k1,k2,k3⟩:=k;dsimp only at h1 h2 h3 k1 k2 k3 hb;subst h2;subst h3;subst k2;subst k3;rw[ZcG,beq_iff_eq,beq_iff_eq]at hb⊢;simp only[Addr.mk.injEq,hb]
def AR.base (hB:Base P ρ){a:Addr}(h:AR ρ a a'):(a.block<P.globals.size)=(a'.block<P.globals.size):=by
 apply propext;have:=ρ.sep _ _ h.1;unfold Base at hB;rw[hB]at this;exact this
def akx (σ:Ren)(a b:Option (Addr×Bool)):Prop:=(a=none/\b=none)\/∃x y l,a=some (x,l)/\b=some (y,l)/\AR σ x y
variable {l l' i n r r' N:Nat}
def Rx (h:ρ r=some r'):Am P' P fz akx ρ (numberAt r) (numberAt r'):=by
 unfold numberAt;refine Ac _ (Ng h) fun σ s s' hle hs=>?_;cases hs;split
 .exact Ad (.inl ⟨rfl,rfl⟩)
 refine Ac _ (C6 (hle.1 _ _ h)) fun τ o o' _ ho=>?_;cases ho with
 |number l h=>exact Ad (.inr ⟨_,_,l,rfl,rfl,h⟩)
 | @junk o' h=>cases o'<;>first|exact Ad (.inl ⟨rfl,rfl⟩)|cases h
 |_=>exact Ad (.inl ⟨rfl,rfl⟩)
def Ff {a:Addr}(h:AR ρ a a'):Am P' P fz (fun σ p p'=>AR σ p.1 p'.1/\p.2=p'.2) ρ (ZbP a) (ZbP a'):=by
 unfold ZbP;refine Ac _ (Rx h.1) fun σ s s' hle hs=>?_;rcases hs with⟨rfl,rfl⟩|⟨x,y,l,rfl,rfl,hxy⟩
 .exact Ad ⟨h.mono hle,rfl⟩
 exact Ad ⟨hxy,rfl⟩
def Oy (T:Twins P' P):∀(d m:Nat) (t:Zs) {ρ:Ren} {x x' y y':Zf},Base P ρ->JF P m t=true->VR ρ x x'->VR ρ y y'->Am P' P fz Gf ρ (ZaZ d t x y) (ZaZ d t x' y')
 |0,_,_,_,_,_,_,_,_,_,_,_=>Ai
 |d+1,0,_,_,_,_,_,_,_,h,_,_=>by cases h
 |d+1,m+1,t,ρ,x,x',y,y',hB,h,hx,hy=>by
  unfold ZaZ;refine Ac _ (Aq T t) fun σ u u' hle hu=>?_;obtain⟨rfl,hu⟩:=hu;unfold JF at h;rw[hu]at h;have Bd:=hx.mono hle;have Hl:=hy.mono hle;have I0:=hB.mono hle;cases u with
  |bool=>
   cases Bd<;>first|exact Ae|skip
   cases Hl<;>first|exact Ae|exact Ad rfl
  |int k=>
   cases Bd with
   |int k n=>
    cases Hl with
    |int k' n'=>dsimp only;split<;>first|exact Ad rfl|exact Ae
    | @pointer b b' hb=>
     cases b<;>cases b'<;>first|exact hb.elim|skip
     .exact Ai
     .cases n with
      |ofNat z=>cases z with
       |zero=>exact Ad rfl
       |succ z=>exact Ai
      |negSucc z=>exact Ai
    |_=>exact Ae
   | @pointer a a' ha=>
    cases a<;>cases a'<;>first|exact ha.elim|skip
    .cases Hl<;>first|exact Ae|exact Ai
    .cases Hl with
     |int k' n'=>
      cases n' with
      |ofNat z=>cases z with
       |zero=>exact Ad rfl
       |succ z=>exact Ai
      |negSucc z=>exact Ai
     | @pointer b b' hb=>
      cases b<;>cases b'<;>first|exact hb.elim|skip
      .exact Ai
      .dsimp only
       refine Ac _ (Ff ha) fun Br p p' Aw hp=>?_;obtain⟨a,la⟩:=p;obtain⟨a',cR⟩:=p';obtain⟨vJ,_⟩:=hp;dsimp only at vJ;have Kt:AR Br _ _:=AR.mono Aw hb;refine Ac _ (Ff Kt) fun Eo p p' AY hp=>?_;obtain⟨b,lb⟩:=p;obtain⟨b',lb'⟩:=p';obtain⟨vK,_⟩:=hp;dsimp only at vK;have Nk:=vJ.mono AY;dsimp only;refine Ac _ C2 fun Kx p p' BH hp=>?_;obtain⟨rfl,rfl⟩:=hp;have fS:=Nk.mono BH;have nf:=vK.mono BH;have Po:Base P Kx:=I0.mono (Ren.le_trans Aw (Ren.le_trans AY BH));rw[AR.Rw fS nf,T.tables];have hbs:=AR.base Po fS;simp only[hbs];split
       .refine Ac _ (Hk T fS) fun Nj z z' D7 hz=>?_
        cases hz;refine Ac _ (Hk T (nf.mono D7)) fun aqL y y' aky hy=>?_;cases hy;exact Ad rfl
       .refine Ac _ (Cu T t) fun Nj i i' D7 hi=>?_
        obtain⟨rfl,_⟩:=hi;rw[AR.eq_iff fS nf]
        repeat' split
        all_goals first|exact Ad rfl|exact Ai
     |_=>exact Ai
   |_=>cases Hl<;>first|exact Ae|exact Ai
  |float k=>cases Bd<;>exact Ae
  |complex k=>cases Bd<;>exact Ae
  |string=>
   cases Bd<;>first|exact Ae|skip
   cases Hl<;>first|exact Ae|exact Ad rfl
  |chan _ _=>
   cases Bd<;>first|exact Ae|skip
   cases Hl<;>first|exact Ae|skip
   rename_i a a' ha b b' hb;dsimp only;rw[Rq.eq_iff ha hb];exact Ad rfl
  |slice e=>
   cases Bd with
   | @slice a a' n c ha=>
    cases Hl with
    | @slice b b' n' c' hb=>
     cases a<;>cases a'<;>first|exact ha.elim|skip
     .dsimp only;rw[Om.isNone hb];exact Ad rfl
     .cases b<;>cases b'<;>first|exact hb.elim|exact Ad rfl|exact Ae
    |_=>cases a<;>cases a'<;>first|exact ha.elim|exact Ae
   |_=>exact Ae
  |map k e=>
   cases Bd with
   | @map a a' ha=>
    cases Hl with
    | @map b b' hb=>
     cases a<;>cases a'<;>first|exact ha.elim|skip
     .dsimp only;rw[Rq.isNone hb];exact Ad rfl
     .cases b<;>cases b'<;>first|exact hb.elim|exact Ad rfl|exact Ae
    |_=>cases a<;>cases a'<;>first|exact ha.elim|exact Ae
   |_=>exact Ae
  |func _ _ _=>
   cases Bd<;>first|exact Ae|skip
   all_goals cases Hl<;>first|exact Ae|exact Ad rfl
  |struct fields=>
   cases Bd with
   | @agg c c' hc Mi=>
    cases Hl with
    | @agg e e' he Ry=>
     have hcs:BS σ c c':=⟨hc,Mi⟩;have TF:BS σ e e':=⟨he,Ry⟩;dsimp only;refine Ac _ C2 fun Br p p' Aw hp=>?_;obtain⟨rfl,rfl⟩:=hp;rw[Rv T.tables];split
     .exact Ai
     .rw[<-Zaf, <-Zaf]
      have FJ:Ep (fun(f g:Field)=>f=g/\JF P m f.type=true) fields.toList fields.toList:=by
       have:∀l:List Field,(∀f∈l,JF P m f.type=true)->Ep (fun(f g:Field)=>f=g/\JF P m f.type=true) l l:=by
        intro l
        induction l with
        |nil=>intro _;exact .nil
        |cons x l ih=>intro hl;exact .cons ⟨rfl,hl x (by simp)⟩ (ih fun f hf=>hl f (by simp[hf]))
       refine this _ fun f hf=>?_;dsimp only at h;rw[zS]at h;exact h f (by simpa using hf)
      refine Ac Gf (Vx (E:=fun _ (f g:Field)=>f=g/\JF P m f.type=true) (fun _ _ _ _ _ h=>h) FJ rfl fun τ f g b c' Df hfg _=>?_) fun τ s s' _ hs=>?_
      .obtain⟨rfl,yJ⟩:=hfg
       split
       .have AY:=Ren.le_trans Aw Df
        refine Ac _ (Kw T _ (BS.mono AY hcs) _) fun DD y y' Bo hy=>?_;refine Ac _ (Kw T _ (BS.mono (Ren.le_trans AY Bo) TF) _) fun J6 z z' Ce hz=>?_;refine Ac _ (Oy T d m f.type (I0.mono (Ren.le_trans AY (Ren.le_trans Bo Ce))) yJ (hy.mono Ce) hz) fun Hm b b' _ hb=>?_;cases hb;split
        .exact Ad (.done rfl)
        exact Ad (.yield rfl)
       exact Ad (.yield rfl)
      .cases hs
       split<;>exact Ad rfl
    |_=>exact Ae
   |_=>exact Ae
  |array len elem=>
   cases Bd with
   | @agg c c' hc Mi=>
    cases Hl with
    | @agg e e' he Ry=>
     have hcs:BS σ c c':=⟨hc,Mi⟩;have TF:BS σ e e':=⟨he,Ry⟩;dsimp only;refine Ac _ (Ck T elem) fun Br s s' Aw hs=>?_;obtain⟨rfl,_⟩:=hs;refine Ac Gf (fQ (R:=Gf) len rfl fun τ x b c' Df _=>?_) fun τ s s' _ hs=>?_
     .have AY:=Ren.le_trans Aw Df
      refine Ac _ (Kw T _ (BS.mono AY hcs) _) fun DD y y' Bo hy=>?_;refine Ac _ (Kw T _ (BS.mono (Ren.le_trans AY Bo) TF) _) fun J6 z z' Ce hz=>?_;refine Ac _ (Oy T d m elem (I0.mono (Ren.le_trans AY (Ren.le_trans Bo Ce))) h (hy.mono Ce) hz) fun Hm b b' _ hb=>?_;cases hb;split
      .exact Ad (.done rfl)
      exact Ad (.yield rfl)
     .cases hs
      split<;>exact Ad rfl
    |_=>exact Ae
   |_=>exact Ae
  |_=>cases h
def Rz (T:Twins P' P)(m:Nat)(t:Zs)(hB:Base P ρ)(h:JF P m t=true)(hx:VR ρ x x')(hy:VR ρ y y'):Am P' P fz Gf ρ (Zaa t x y) (Zaa t x' y'):=
 Oy T _ m t hB h hx hy
def Xx (P:Zo)(m:Nat)(t:Zs):Bool:=JF P m t&&match P.underlying t with|some (.struct _)|some (.array _ _)=>true|_=>false
def nh {m:Nat}{t:Zs}(h:Xx P m t=true){u:TypeDesc}(hu:P.underlying t=some u)(a b:Zf):Zbj u a b=none:=by
 unfold Xx at h;rw[hu]at h;cases u<;>first|(simp at h;done)|(cases a<;>rfl)
def jf (kind:TypeDesc)(W_:∀a b,Zbj kind a b=none){k:Zf}:∀ {es BA:List MapEntry},Ep (Ow ρ) es BA->∀i,(ZaJ kind k es i=none/\ZaJ kind k' BA i=none)\/
  ∃r r',ZaJ kind k es i=some r/\ZaJ kind k' BA i=some r'/\((r=none/\r'=none)\/∃j v v',r=some (j,v)/\r'=some (j,v')/\VR ρ v v'):=by
 intro es
 induction es with
 |nil=>intro BA h i;cases h;exact .inr ⟨none,none,rfl,rfl,.inl ⟨rfl,rfl⟩⟩
 |cons e es ih=>
  intro BA h i;cases h with
  | @cons _ e' _ BA he ht=>
   have hs:Zbj kind k e.key=Zbj kind k' e'.key:=by rw[W_,W_]
   unfold ZaJ;rw[hs];cases Zbj kind k' e'.key with
   |none=>exact .inl ⟨rfl,rfl⟩
   |some b=>cases b with
    |true=>exact .inr ⟨_,_,rfl,rfl,.inr ⟨i,e.val,e'.val,rfl,rfl,he.val⟩⟩
    |false=>exact ih ht (i+1)
def ni (σ:Ren)(a b:Option (Nat×Zf)):Prop:=(a=none/\b=none)\/∃j v v',a=some (j,v)/\b=some (j,v')/\VR σ v v'
def Vy (T:Twins P' P)(m:Nat)(t:Zs)(h:JF P m t=true):∀ {es BA:List MapEntry} {ρ:Ren} {k k':Zf},Base P ρ->VR ρ k k'->Ep (Ow ρ) es BA->∀i,
  Am P' P fz ni ρ (zX t k es i) (zX t k' BA i):=by
 intro es
 induction es with
 |nil=>intro BA ρ k k' _ _ hl i;cases hl;exact Ad (.inl ⟨rfl,rfl⟩)
 |cons e es ih=>
  intro BA ρ k k' hB hk hl i;cases hl with
  | @cons _ e' _ BA he ht=>
   unfold zX;refine Ac _ (Rz T m t hB h hk he.key) fun σ b b' hle hb=>?_;cases hb;split
   .exact Ad (.inr ⟨i,_,_,rfl,rfl,he.val.mono hle⟩)
   exact ih (hB.mono hle) (hk.mono hle) (ht.mono fun _ _=>Ow.mono hle) (i+1)
def Oz (T:Twins P' P)(m:Nat)(t:Zs)(hq:Xx P m t=true)(hB:Base P ρ){es BA:List MapEntry}{k:Zf}(hk:VR ρ k k')(hl:Ep (Ow ρ) es BA):
  Am P' P fz ni ρ (Zaj t k es) (Zaj t k' BA):=by
 unfold Zaj;have h:JF P m t=true:=(ZF _ _▸hq:_/\_).1;refine Ac _ (Aq T t) fun σ u u' hle hu=>?_;obtain⟨rfl,hu⟩:=hu;have ae4:=hk.mono hle;have vL:Ep (Ow σ) es BA:=hl.mono fun _ _=>Ow.mono hle;rcases jf (k:=k) (k':=k') u (nh hq hu) vL 0 with⟨e1,e2⟩|⟨r,r',e1,e2,hr⟩
 .rw[e1,e2];exact Vy T m t h (hB.mono hle) ae4 vL 0
 rw[e1,e2];exact Ad hr
end
section
variable {P' P:Zo}{fz:Prop}{ρ:Ren}
def vM (ρ:Ren)(a b:Nat×Zf):Prop:=a.1=b.1/\VR ρ a.2 b.2
def RA (place:Nat->Option (Nat×Nat)):∀ {l l':List (Nat×Zf)} {c c':Array Zf},Ep (vM ρ) l l'->BS ρ c c'->
  (Zaq place c l=none/\Zaq place c' l'=none)\/∃d d',Zaq place c l=some d/\Zaq place c' l'=some d'/\BS ρ d d':=by
 intro l
 induction l with
 |nil=>intro l' c c' hl hc;cases hl;exact .inr ⟨c,c',rfl,rfl,hc⟩
 |cons x l ih=>
  intro l' c c' hl hc;cases hl with
  | @cons _ y _ l' hx ht=>
   obtain⟨i,v⟩:=x;obtain⟨j,v'⟩:=y;obtain⟨e,hv⟩:=hx;dsimp only at e hv;subst e;unfold Zaq;cases place i with
   |none=>exact .inl ⟨rfl,rfl⟩
   |some os=>
    obtain⟨off,size⟩:=os;dsimp only;have hvc:=hv.cells;rw[hvc.1,hc.1];split
    .exact .inl ⟨rfl,rfl⟩
    refine ih ht ?_;have key:∀ {a a':Array Zf} (n:Nat),BS ρ a a'->∀ {z z':Array Zf},BS ρ z z'->BS ρ ((a.toList.zipIdx n).foldl (fun cs (p:Zf×Nat)=>cs.setIfInBounds (off+p.2) p.1) z) ((a'.toList.zipIdx n).foldl (fun cs (p:Zf×Nat)=>cs.setIfInBounds (off+p.2) p.1) z'):=by
     intro a a' n ha;have hl:=ha.list;generalize a.toList=l at hl⊢;generalize a'.toList=l' at hl⊢;clear ha
     induction hl generalizing n with
     |nil=>intro z z' hz;exact hz
     |cons h _ ih=>intro z z' hz;simp only[List.zipIdx_cons,List.foldl_cons];exact ih (n+1) (hz.set h _)
    have e2:∀(a:Array Zf) (z:Array Zf),a.zipIdx.foldl (fun cs (x:Zf×Nat)=>match x with|(c,j)=>cs.setIfInBounds (off+j) c) z=(a.toList.zipIdx 0).foldl (fun cs (p:Zf×Nat)=>cs.setIfInBounds (off+p.2) p.1) z:=by
     intro a z;rw[<-Zb0,Array.toList_zipIdx]
    rw[e2,e2];exact key 0 hvc hc
def LV {ι:Type}{R:Ren->β->γ->Prop}(hR:∀ρ σ x y,ρ.le σ->R ρ x y->R σ x y){f:ι->Sem β}{g:ι->Sem γ}(hf:∀τ x,ρ.le τ->Am P' P fz R τ (f x) (g x))(l:List ι):
  ∀σ,ρ.le σ->Am P' P fz (fun τ a b=>Ep (R τ) a b) σ (l.mapM f) (l.mapM g):=by
 induction l with
 |nil=>intro σ _;exact Ad .nil
 |cons x l ih=>
  intro σ hσ;rw[List.mapM_cons,List.mapM_cons];refine Ac _ (hf σ x hσ) fun Br a b hle DU=>?_;refine Ac _ (ih Br (Ren.le_trans hσ hle)) fun Eo as bs Aw has=>?_;exact Ad (.cons (hR _ _ _ _ Aw DU) has)
def DG (T:Twins P' P){Q:Ren->α->β->Prop}(hB:Base P ρ)(e:RuntimeError){f:γ->Sem α}{f':δ->Sem β}:Am P' P fz Q ρ (zw e>>=f) (zw e>>=f'):=
 Ac (fun _ _ _=>False) (AJ T hB e) fun _ _ _ _ h=>h.elim
variable {p':Array (Nat×Zf)}
def sD (T:Twins P' P)(t:Zs){p:Array (Nat×Zf)}(hp:Ep (vM ρ) p.toList p'.toList):Am P' P fz VR ρ (Zbg t p) (Zbg t p'):=by
 unfold Zbg;refine Ac _ (C8 T t) fun σ z z' hle hz=>?_;have ae6:=hz.cells;dsimp only;refine Ac _ (Aq T t) fun Br d d' Aw hd=>?_;obtain⟨rfl,_⟩:=hd;have CK:=Ren.le_trans hle Aw;have vN:=BS.mono Aw ae6;have vO:Ep (vM Br) p.toList p'.toList:=hp.mono fun _ _ h=>⟨h.1,h.2.mono CK⟩;cases d with
 |struct fields=>
  dsimp only;refine Ac (fun _ a b=>a=b) ?_ fun Eo pl pl' AY Xa=>?_
  .rw[YW]
   refine Ac _ (LV (ρ:=Br) (R:=Gf) (fun _ _ _ _ _ h=>h) (fun τ x _=>?_) _ Br (Ren.le_refl _)) fun Eo a b _ DU=>?_
   .refine Ac _ (Ck T x.type) fun Eo s s' AY hs=>?_
    obtain⟨rfl,_⟩:=hs;exact Ad rfl
   have:a=b:=by
    induction DU with
    |nil=>rfl
    |cons h _ ih=>cases h;rw[ih]
   subst this;exact Ad rfl
  .cases Xa
   have RB:Ep (vM Eo) p.toList p'.toList:=vO.mono fun _ _ h=>⟨h.1,h.2.mono AY⟩;rcases RA (ρ:=Eo) (pl[·]?) RB (BS.mono AY vN) with⟨e1,e2⟩|⟨c,c',e1,e2,hc⟩
   .rw[e1];exact Ae
   .rw[e1,e2];exact Ad (.P6 hc)
 |array n elem=>
  dsimp only;refine Ac _ (Ck T elem) fun Eo s s' AY hs=>?_;obtain⟨rfl,_⟩:=hs;have RB:Ep (vM Eo) p.toList p'.toList:=vO.mono fun _ _ h=>⟨h.1,h.2.mono AY⟩;rcases RA (ρ:=Eo) (fun i=>some (i*s,s)) RB (BS.mono AY vN) with⟨e1,e2⟩|⟨c,c',e1,e2,hc⟩
  .rw[e1];exact Ae
  .rw[e1,e2];exact Ad (.P6 hc)
 |_=>exact Ae
def Hn (h:BS ρ a b)(n:Nat):BS ρ ((YN n).map (a[· % a.size]!)) ((YN n).map (b[· % b.size]!)):=by
 by_cases hz:a.size=0
 .have hb:b.size=0:=h.1▸hz
  have e1:a= #[]:=Zcj hz;have e2:b= #[]:=Zcj hb;subst e1;subst e2;refine⟨rfl,fun i x y hx hy=>?_⟩;rw[hx]at hy;cases hy;rw[zF,zc]at hx;obtain⟨u,_,rfl⟩:=hx;exact .bool false
 exact TE h hz n
def Vz (T:Twins P' P)(t:Zs)(len:Nat){p:Array (Nat×Zf)}(hp:Ep (vM ρ) p.toList p'.toList):Am P' P fz VR ρ (Zci t len p) (Zci t len p'):=by
 unfold Zci;refine Ac _ (Aq T t) fun σ d d' hle hd=>?_;obtain⟨rfl,_⟩:=hd;cases d with
 |slice elem=>
  dsimp only;refine Ac _ (Ck T elem) fun Br s s' Aw hs=>?_;obtain⟨rfl,_⟩:=hs;split
  .exact .bad trivial
  .have fin:∀(τ:Ren) (z z':Array Zf),Br.le τ->BS τ z z'->
     (Zaq (fun i=>some (i*s,s)) ((YN (len*s)).map (z[· % z.size]!)) p.toList=none/\Zaq (fun i=>some (i*s,s)) ((YN (len*s)).map (z'[· % z'.size]!)) p'.toList=none)\/
     ∃d d',Zaq (fun i=>some (i*s,s)) ((YN (len*s)).map (z[· % z.size]!)) p.toList=some d/\Zaq (fun i=>some (i*s,s)) ((YN (len*s)).map (z'[· % z'.size]!)) p'.toList=some d'/\BS τ d d':=by
    intro τ z z' Df hz;have RB:Ep (vM τ) p.toList p'.toList:=hp.mono fun _ _ h=>⟨h.1,h.2.mono (Ren.le_trans hle (Ren.le_trans Aw Df))⟩;exact RA (ρ:=τ) (fun i=>some (i*s,s)) RB (Hn hz (len*s))
   split
   .refine Ac (fun σ a b=>BS σ a b) (Ad Bz.nil) fun τ z z' Df hz=>?_
    rcases fin τ z z' Df hz with⟨e1,e2⟩|⟨c,c',e1,e2,hc⟩
    .rw[e1];exact Ae
    rw[e1,e2];exact Ac _ (IZ elem hc) fun _ _ _ _ ha=>Ad (.slice _ _ ha)
   .refine Ac _ (C8 T elem) fun τ z z' Df hz=>?_
    refine Ac (fun σ a b=>BS σ a b) (Ad hz.cells) fun DD y y' Bo hy=>?_;rcases fin DD y y' (Ren.le_trans Df Bo) hy with⟨e1,e2⟩|⟨c,c',e1,e2,hc⟩
    .rw[e1];exact Ae
    .rw[e1,e2];exact Ac _ (IZ elem hc) fun _ _ _ _ ha=>Ad (.slice _ _ ha)
 |_=>exact Ae
def Xy (T:Twins P' P)(hB:Base P ρ)(t:Zs){l l' c c':Zf}(hl:VR ρ l l')(hc:VR ρ c c'):Am P' P fz VR ρ (Zdp t l c) (Zdp t l' c'):=by
 unfold Zdp;refine Ac _ (Aq T t) fun σ d d' hle hd=>?_;obtain⟨rfl,_⟩:=hd;cases d with
 |slice elem=>
  dsimp only;refine Ac _ (Lm (hl.mono hle)) fun Br n n' Aw hn=>?_;cases hn;refine Ac _ (Lm (hc.mono (Ren.le_trans hle Aw))) fun Eo m m' AY hm=>?_;cases hm;refine Ac _ (Cu T elem) fun Kx i i' BH hi=>?_;obtain⟨rfl,_⟩:=hi;have Po:Base P Kx:=hB.mono (Ren.le_trans hle (Ren.le_trans Aw (Ren.le_trans AY BH)));have tail:∀τ:Ren,Kx.le τ->Am P' P fz VR τ (sizeOf elem>>=fun s=>if(IntKind.i64.wrap m).toNat*s=0 then(pure #[]>>=fun zero=>newRow elem ((YN ((IntKind.i64.wrap m).toNat*s)).map (zero[· % zero.size]!))>>=fun a=>pure (Zy (some a) (IntKind.i64.wrap n).toNat (IntKind.i64.wrap m).toNat))
    else zeroValue elem>>=fun z=>(pure z.cells>>=fun zero=>newRow elem ((YN ((IntKind.i64.wrap m).toNat*s)).map (zero[· % zero.size]!))>>=fun a=>pure (Zy (some a) (IntKind.i64.wrap n).toNat (IntKind.i64.wrap m).toNat)))
    (sizeOf elem>>=fun s=>if(IntKind.i64.wrap m).toNat*s=0 then(pure #[]>>=fun zero=>newRow elem ((YN ((IntKind.i64.wrap m).toNat*s)).map (zero[· % zero.size]!))>>=fun a=>pure (Zy (some a) (IntKind.i64.wrap n).toNat (IntKind.i64.wrap m).toNat))
    else zeroValue elem>>=fun z=>(pure z.cells>>=fun zero=>newRow elem ((YN ((IntKind.i64.wrap m).toNat*s)).map (zero[· % zero.size]!))>>=fun a=>pure (Zy (some a) (IntKind.i64.wrap n).toNat (IntKind.i64.wrap m).toNat))):=by
   intro τ Df;refine Ac _ (Ck T elem) fun Nj s s' D7 hs=>?_;obtain⟨rfl,_⟩:=hs;split
   .refine Ac (fun σ a b=>BS σ a b) (Ad Bz.nil) fun τ z z' Df hz=>?_
    exact Ac _ (IZ elem (Hn hz _)) fun _ _ _ _ ha=>Ad (.slice _ _ ha)
   refine Ac _ (C8 T elem) fun τ z z' Df hz=>?_;refine Ac (fun σ a b=>BS σ a b) (Ad hz.cells) fun DD y y' Bo hy=>?_;exact Ac _ (IZ elem (Hn hy _)) fun _ _ _ _ ha=>Ad (.slice _ _ ha)
  split
  .split
   .exact DG T Po _
   split
   .exact DG T Po _
   refine Ac _ (Hh _) fun τ a b Df DU=>?_;cases DU;exact DG T (Po.mono Df) _
  .exact Ac _ (Up _) fun τ _ _ Df _=>tail τ Df
 |_=>exact Ae
end
section
variable {P' P:Zo}{fz:Prop}{ρ:Ren}
def Bz.modify {R:α->β->Prop}{a:Array α}{b:Array β}{f:α->α}{g:β->β}(h:Bz R a b)(hf:∀x y,R x y->R (f x) (g y))(i:Nat):Bz R (a.modify i f) (b.modify i g):=by
 refine⟨by simp[h.1],fun j x y hx hy=>?_⟩;rw[Y7]at hx hy;split at hx
 .rw[if_pos ‹_›]at hy
  rw[zc]at hx hy;obtain⟨u,hu,rfl⟩:=hx;obtain⟨v,hv,rfl⟩:=hy;exact hf _ _ (h.2 _ _ _ hu hv)
 rw[if_neg ‹_›]at hy;exact h.2 _ _ _ hx hy
def Om.eq_iff {a a' b b':Option Addr}(h:Om ρ a a')(k:Om ρ b b'):(a==b)=(a'==b'):=by
 cases a<;>cases a'<;>first|exact h.elim|skip
 all_goals cases b<;>cases b'<;>first|exact k.elim|rfl|skip
 have:=AR.eq_iff h k;simpa using this
def Xz (a b:ByteArray):(a==b)=true↔a=b:=by
 constructor
 .intro h
  cases a with|mk a=>cases b with|mk b=>
  have h':(a==b)=true:=h;rw[eq_of_beq h']
 rintro rfl;cases a with|mk a=>exact(beq_self_eq_true a:(a==a)=true)
def TG:∀(n:Nat) {a a' b b':Zf},VR ρ a a'->VR ρ b b'->zH n a b=true->zH n a' b'=true:=by
 intro n
 induction n with
 |zero=>
  intro a a' b b' h k hs;cases h<;>cases k<;>first|exact hs|(cases hs;done)|skip
  .rename_i h1 _ _ h2;exact(Om.eq_iff h1 h2).symm.trans hs
  .rename_i h1 _ _ h2;exact(Rq.eq_iff h1 h2).symm.trans hs
 |succ n ih=>
  intro a a' b b' h k hs;cases h<;>cases k<;>first|exact hs|(cases hs;done)|skip
  .rename_i h1 _ _ h2;exact(Om.eq_iff h1 h2).symm.trans hs
  .rename_i h1 _ _ h2;exact(Rq.eq_iff h1 h2).symm.trans hs
  .rename_i h1 _ _ _ h2
   simp only[zH,ZF]at hs⊢;exact⟨hs.1,ih h1 h2 hs.2⟩
  rename_i c c' hc Mi e e' he Ry;have h1:BS ρ c c':=⟨hc,Mi⟩;have h2:BS ρ e e':=⟨he,Ry⟩;simp only[zH,hc,he,ZF]at hs⊢;refine⟨hs.1,?_⟩;have key:∀ {l l':List Zf},Ep (VR ρ) l l'->∀ {m m':List Zf},Ep (VR ρ) m m'->((l.zip m).all fun x=>match x with|(x,y)=>zH n x y)=true->((l'.zip m').all fun x=>match x with|(x,y)=>zH n x y)=true:=by
   intro l l' hl
   induction hl with
   |nil=>intro m m' hm h;cases hm<;>rfl
   |cons hx _ ihl=>intro m m' hm h;cases hm with
    |nil=>rfl
    |cons hy ht=>
     simp only[List.zip_cons_cons,Zbs,ZF]at h⊢;exact⟨ih hx hy h.1,ihl ht h.2⟩
  exact key h1.list h2.list hs.2
def XA:∀(n:Nat) {a b:Zf},zH n a b=true->a=b:=by
 intro n
 induction n with
 |zero=>
  intro a b h;cases a<;>cases b<;>first|(cases h;done)|(simp[zH]at h;simp[h];done)|rfl|exact congrArg Value.string ((Xz _ _).1 h)
 |succ n ih=>
  intro a b h;cases a<;>cases b<;>first|(cases h;done)|skip
  case agg.agg c e=>
   simp only[zH,ZF,beq_iff_eq]at h;have key:∀ {l m:List Zf},l.length=m.length->((l.zip m).all fun x=>match x with|(x,y)=>zH n x y)=true->l=m:=by
    intro l
    induction l with
    |nil=>intro m hm _;cases m with
     |nil=>rfl
     |cons _ _=>cases hm
    |cons x l ihl=>intro m hm h;cases m with
     |nil=>cases hm
     |cons y m=>
      simp only[List.zip_cons_cons,Zbs,ZF]at h;rw[ih h.1,ihl (ZE hm) h.2]
   congr 1
   exact Array.ext' (key (by simpa using h.1) h.2)
  case iface.iface t v u x=>
   simp only[zH,ZF,beq_iff_eq]at h;rw[h.1,ih h.2]
  all_goals first|(simp[zH]at h;simp[h];done)|rfl|exact congrArg Value.string ((Xz _ _).1 h)
def P5 {β:Type}(P:Zo)(s:Sem β):Prop:=∀(w:Zb) (t:Tape) (es:Array Z9),s.runT P {w with tape:=t} es=((s.runT P w es).1.tp t,(s.runT P w es).2)
def J8 {Q:Ren->α->β->Prop}{a a' b b':Zf}(h:VR ρ a a')(k:VR ρ b b'){f:Zf->Sem α}{f':Zf->Sem β}(hf:∀σ v v',ρ.le σ->VR σ v v'->Am P' P fz Q σ (f v) (f' v'))(Pp:∀v',P5 P (f' v')):
  DC P' P fz Q ρ ((Yi a b).bind f) ((Yi a' b').bind f'):=by
 by_cases hl:zH 10000 a b=true
 .have hr:=TG 10000 h k hl
  unfold Yi;rw[if_pos hl,if_pos hr];exact(hf ρ b b' (Ren.le_refl _) k).ok
 by_cases hr:zH 10000 a' b'=true
 .have e:a'=b':=XA 10000 hr
  intro w w' hw es BA r g By hd;have hL:∀u es,((Yi a b).bind f).runT P' u es=(f (if(Zcd "map.whichKeyStays" 2).cut (u.tape u.drawn (.extern "map.whichKeyStays" 2))=0 then b else a)).runT P' {u with drawn:=u.drawn+1} es:=by
   intro u es;unfold Yi;rw[if_neg hl]
   rfl
  have hR:((Yi a' b').bind f').runT P w' BA=(f' b').runT P w' BA:=by
   unfold Yi;rw[if_pos hr]
   rfl
  rw[hL]at By;generalize hv:(if(Zcd "map.whichKeyStays" 2).cut (w.tape w.drawn (.extern "map.whichKeyStays" 2))=0 then b else a)=v at By;have hvr:VR ρ v b':=by
   subst hv;split
   .exact k
   exact e▸h
  let Ni:Tape:=fun i=>w.tape (i - w'.drawn+(w.drawn+1))
  have nj:Ii ρ {w with drawn:=w.drawn+1} {w' with tape:=Ni}:=⟨hw.obj,fun i q=>by
   show w.tape (w.drawn+1+i) q=w.tape (w'.drawn+i - w'.drawn+(w.drawn+1)) q;rw[Zbl,Nat.add_comm i],hw.os⟩
  obtain⟨σ,r',d,d',h1,h2,h3,h4,h5,h6,h7,h8⟩:=(hf ρ v b' (Ren.le_refl _) hvr).run _ _ nj es BA r g By hd;rw[Pp b' w' Ni BA]at h3;rcases hx:(f' b').runT P w' BA with⟨RD,akB⟩;rw[hx]at h3;simp only[Prod.mk.injEq]at h3;obtain⟨Pn,hg⟩:=h3;have ht:RD.world.tape=w'.tape:=by
   have:=Pp b' w' w'.tape BA;rw[show({w' with tape:=w'.tape}:Zb)=w' from rfl,hx]at this;simp only[Prod.mk.injEq]at this;have:=congrArg (fun r:Result β=>r.world.tape) this.1;cases RD<;>exact this
  subst Pn;refine⟨σ,RD,d,d',h1,h2,by rw[hR,hx, <-hg],?_,⟨fun b c hb=>?_,?_⟩,h6,⟨Zr (Zj _) h7.size,?_,h7.fresh,?_,?_,h7.Rt,h7.frozen,?_,ht,?_,h7.Pm,Zbb h7.drawn,h7.mR,h7.shape,h7.awake⟩,fun t ht=>?_⟩
  .cases h4':RD with
   |ok x u=>rw[h4']at h4;cases h4 with|ok hq=>exact .ok hq
   |halt x u=>rw[h4']at h4;cases h4 with|panic hq=>exact .panic hq
  .obtain⟨o,o',p1,p2,p3⟩:=h5.obj b c hb
   exact⟨o,o',p1,by cases RD<;>exact p2,p3⟩
  .have:=h5.os;cases RD<;>exact this
  .have:=h7.Nf;cases RD<;>exact this
  .have:=h7.new;cases RD<;>exact this
  .have:=h7.still;cases RD<;>exact this
  .have:=h7.os;cases RD<;>exact this
  .have:=h7.output;cases RD<;>exact this
  rw[hL];have e2:t w.drawn=w.tape w.drawn:=ht _ (Zj _) h7.drawn;show(f (if(Zcd "map.whichKeyStays" 2).cut (t w.drawn _)=0 then b else a)).runT P' _ es=_;rw[e2,hv];exact h8 t (fun i x y=>ht i (Zbb x) y)
 unfold Yi;rw[if_neg hl,if_neg hr];refine Am.ok (Am.bind (R:=VR) (Ac _ (Hh _) fun σ x y hle hxy=>?_) hf);cases hxy;refine Ad ?_;split
 .exact k.mono hle
 exact h.mono hle
def XB (r:Nat)(o:Obj):P5 P (setObj r o):=by
 intro w t es;unfold setObj;simp only[ZI];cases w.heap[r]? with
 |none=>rfl
 |some u=>cases u<;>rfl
def nk (T:Twins P' P)(m:Nat)(t:Zs)(hm:∀k e,P.underlying t=some (.map k e)->Xx P m k=true)(hB:Base P ρ){i:Zf}(hx:VR ρ x x')(hi:VR ρ i i')(ok:Bool):
  Am P' P fz VR ρ (Za2 t x i ok) (Za2 t x' i' ok):=by
 unfold Za2;refine Ac _ (Aq T t) fun σ d d' hle hd=>?_;obtain⟨rfl,hd⟩:=hd;have Bd:=hx.mono hle;cases d with
 |map key elem=>
  have nn:=hm _ _ hd;dsimp only;have tail:∀τ (es BA:Array MapEntry),σ.le τ->Bz (Ow τ) es BA->Am P' P fz VR τ
    (YD es.isEmpty 10000 key i>>=fun _=>Zaj key i es.toList>>=fun r=>match r with
     |some (_,v)=>pure (v,true)>>=fun p=>pure (if ok=true then .tuple #[p.1,.bool p.2] else p.1)
     |none=>zeroValue elem>>=fun z=>pure (z,false)>>=fun p=>pure (if ok=true then .tuple #[p.1,.bool p.2] else p.1))
    (YD BA.isEmpty 10000 key i'>>=fun _=>Zaj key i' BA.toList>>=fun r=>match r with
     |some (_,v)=>pure (v,true)>>=fun p=>pure (if ok=true then .tuple #[p.1,.bool p.2] else p.1)
     |none=>zeroValue elem>>=fun z=>pure (z,false)>>=fun p=>pure (if ok=true then .tuple #[p.1,.bool p.2] else p.1)):=by
   intro τ es BA Df TF;have he:es.isEmpty=BA.isEmpty:=by simp[Zdc,TF.1]
   rw[he];have Aw:=Ren.le_trans hle Df;refine Ac _ (D8 T _ _ _ (hB.mono Aw) (hi.mono Aw)) fun DD _ _ Bo _=>?_;have AY:=Ren.le_trans Aw Bo;have hl:Ep (Ow DD) es.toList BA.toList:=(Bz.mono TF fun _ _=>Ow.mono Bo).list;refine Ac _ (Oz T m key nn (hB.mono AY) (hi.mono AY) hl) fun J6 r r' Ce hr=>?_;have fin:∀(Hm:Ren) v v' b,VR Hm v v'->VR Hm (if ok=true then .tuple #[v,.bool b] else v) (if ok=true then .tuple #[v',.bool b] else v'):=by
    intro Hm v v' b hv;split
    .exact .tuple' ((Bz.single hv).push (.bool b))
    exact hv
   rcases hr with⟨rfl,rfl⟩|⟨j,v,v',rfl,rfl,hv⟩
   .refine Ac _ (C8 T elem) fun Hm z z' Fg hz=>?_
    refine Ac (fun σ a b=>VR σ a.1 b.1/\a.2=b.2) (Ad ⟨hz,rfl⟩) fun fT p p' _ hp=>?_;obtain⟨a,b⟩:=p;obtain⟨a',b'⟩:=p';obtain⟨h1,h2⟩:=hp;cases h2;exact Ad (fin _ _ _ _ h1)
   refine Ac (fun σ a b=>VR σ a.1 b.1/\a.2=b.2) (Ad ⟨hv,rfl⟩) fun fT p p' _ hp=>?_;obtain⟨a,b⟩:=p;obtain⟨a',b'⟩:=p';obtain⟨h1,h2⟩:=hp;cases h2;exact Ad (fin _ _ _ _ h1)
  cases Bd with
  | @map r r' hr=>
   cases r<;>cases r'<;>first|exact hr.elim|skip
   .exact Ac (fun σ a b=>Bz (Ow σ) a b) (Ad Bz.nil) fun τ es BA Df TF=>tail τ es BA Df TF
   .dsimp only
    refine Ac _ (C6 hr) fun τ o o' Df ho=>?_;cases ho with
    |map k h=>exact Ac (fun σ a b=>Bz (Ow σ) a b) (Ad h) fun DD es BA Bo TF=>tail DD es BA (Ren.le_trans Df Bo) TF
    |_=>exact CC
  |_=>exact CC
 |_=>exact Ae
variable {BA:Array MapEntry}
def XC {es:Array MapEntry}(TF:Bz (Ow ρ) es BA){k:Zf}(hk:VR ρ k k')(i:Nat):VR ρ (((es[i]?).map (·.key)).getD k) (((BA[i]?).map (·.key)).getD k')/\((BA[i]?).map (fun e=>(e.born:Int))).getD 0=((es[i]?).map (fun e=>(e.born:Int))).getD 0:=by
 rcases TF.opt i with⟨e1,e2⟩|⟨x,y,e1,e2,hr⟩
 .rw[e1,e2];exact⟨hk,rfl⟩
 rw[e1,e2];exact⟨hr.key,by simp[hr.born]⟩
def OA (r:Nat)(o:Obj)(v:β):P5 P (setObj r o>>=fun _=>pure v):=by
 intro w t es;show(Sem.setObj r o (Zd7 v)).runT P _ es=(((Sem.setObj r o (Zd7 v)).runT P w es).1.tp t,((Sem.setObj r o (Zd7 v)).runT P w es).2);simp only[ZI];cases w.heap[r]? with
 |none=>rfl
 |some u=>cases u<;>rfl
def Pq (T:Twins P' P)(m:Nat)(t:Zs)(hm:∀k e,P.underlying t=some (.map k e)->Xx P m k=true)(hB:Base P ρ){k:Zf}(hx:VR ρ x x')(hk:VR ρ k k')(hv:VR ρ v v'):
  DC P' P fz Gf ρ (ZaS t x k v) (ZaS t x' k' v'):=by
 unfold ZaS;refine DC.bind (Aq T t) fun σ d d' hle hd=>?_;obtain⟨rfl,hd⟩:=hd;have Bd:=hx.mono hle;cases d with
 |map key elem=>
  have nn:=hm _ _ hd;dsimp only;cases Bd with
  | @map r r' hr=>
   cases r<;>cases r'<;>first|exact hr.elim|skip
   .exact(AJ T (hB.mono hle) _).ok
   .dsimp only
    refine DC.bind (C6 hr) fun τ o o' Df ho=>?_;cases ho with
    | @map es BA c h=>
     dsimp only;have Aw:=Ren.le_trans hle Df;refine DC.bind (D8 T _ _ _ (hB.mono Aw) (hk.mono Aw)) fun DD _ _ Bo _=>?_;have AY:=Ren.le_trans Aw Bo;have Co:=Bz.mono h fun _ _=>Ow.mono Bo;refine DC.bind (Oz T m key nn (hB.mono AY) (hk.mono AY) Co.list) fun J6 q q' Ce hq=>?_;have BH:=Ren.le_trans AY Ce;have Fv:=Bz.mono Co fun _ _=>Ow.mono Ce;have I1:J6 _=some _:=(Ren.le_trans (Ren.le_trans Df Bo) Ce).1 _ _ hr;rcases hq with⟨rfl,rfl⟩|⟨j,u,u',rfl,rfl,_⟩
     .exact Am.ok (D6 I1 (.map _ (Fv.push (x:= {key:=k,val:=v,born:=_}) (y:= {key:=k',val:=v',born:=_}) ⟨hk.mono BH,hv.mono BH,rfl⟩)))
     .refine J8 (XC Fv (hk.mono BH) j).1 (hk.mono BH) (fun Hm y y' Fg hy=>?_) fun y'=>XB _ _
      exact D6 (Fg.1 _ _ I1) (.map _ (Bz.modify (f:=fun e=> {e with key:=y,val:=v}) (g:=fun e=> {e with key:=y',val:=v'}) (Bz.mono Fv fun _ _=>Ow.mono Fg) (fun a b DU=>⟨hy,hv.mono (Ren.le_trans BH Fg),DU.born⟩) j))
    |_=>exact Ae.ok
  |_=>exact Ae.ok
 |_=>exact Ae.ok
def cS (T:Twins P' P)(m:Nat)(t:Zs)(hm:∀k e,P.underlying t=some (.map k e)->Xx P m k=true)(hB:Base P ρ){k:Zf}(hx:VR ρ x x')(hk:VR ρ k k'):
  DC P' P fz VR ρ (ZcK t x k) (ZcK t x' k'):=by
 unfold ZcK;refine DC.bind (Aq T t) fun σ d d' hle hd=>?_;obtain⟨rfl,hd⟩:=hd;have Bd:=hx.mono hle;cases d with
 |map key elem=>
  have nn:=hm _ _ hd;dsimp only;cases Bd with
  | @map r r' hr=>
   cases r<;>cases r'<;>first|exact hr.elim|skip
   .exact(AJ T (hB.mono hle) _).ok
   .dsimp only
    refine DC.bind (C6 hr) fun τ o o' Df ho=>?_;cases ho with
    | @map es BA c h=>
     dsimp only;have Aw:=Ren.le_trans hle Df;refine DC.bind (D8 T _ _ _ (hB.mono Aw) (hk.mono Aw)) fun DD _ _ Bo _=>?_;have AY:=Ren.le_trans Aw Bo;have Co:=Bz.mono h fun _ _=>Ow.mono Bo;refine DC.bind (Oz T m key nn (hB.mono AY) (hk.mono AY) Co.list) fun J6 q q' Ce hq=>?_;have BH:=Ren.le_trans AY Ce;have Fv:=Bz.mono Co fun _ _=>Ow.mono Ce;have I1:J6 _=some _:=(Ren.le_trans (Ren.le_trans Df Bo) Ce).1 _ _ hr;rcases hq with⟨rfl,rfl⟩|⟨j,u,u',rfl,rfl,hu⟩
     .refine Am.ok ?_
      refine Ac _ (C8 T elem) fun Hm z z' Fg hz=>?_;refine Ac _ (D6 (Fg.1 _ _ I1) (.map _ ((Bz.mono Fv fun _ _=>Ow.mono Fg).push ⟨hk.mono (Ren.le_trans BH Fg),hz,rfl⟩))) fun fT _ _ cT _=>?_;exact Ad (.tuple' ((Bz.single (hz.mono cT)).push (.int _ _)))
     .have ae7:=XC Fv (hk.mono BH) j
      refine J8 ae7.1 (hk.mono BH) (fun Hm y y' Fg hy=>?_) fun y'=>OA _ _ _;refine Ac _ (D6 (Fg.1 _ _ I1) (.map _ (Bz.modify (f:=fun e=> {e with key:=y}) (g:=fun e=> {e with key:=y'}) (Bz.mono Fv fun _ _=>Ow.mono Fg) (fun a b DU=>⟨hy,DU.val,DU.born⟩) j))) fun fT _ _ cT _=>?_;rw[ae7.2];exact Ad (.tuple' ((Bz.single (hu.mono (Ren.le_trans Fg cT))).push (.int _ _)))
    |_=>exact Ae.ok
  |_=>exact Ae.ok
 |_=>exact Ae.ok
def XD {es:Array MapEntry}(h:Bz (Ow ρ) es BA)(p:Nat->Bool):es.findIdx? (fun e=>p e.born)=BA.findIdx? (fun e=>p e.born):=by
 have hl:=h.list;have e:∀a:Array MapEntry,a.findIdx? (fun e=>p e.born)=a.toList.findIdx? (fun e=>p e.born):=by
  rintro⟨l⟩;exact List.findIdx?_toArray _ _
 rw[e,e];generalize es.toList=l at hl⊢;generalize BA.toList=l' at hl⊢;clear h e
 induction hl with
 |nil=>rfl
 |cons hx _ ih=>simp only[List.findIdx?_cons,hx.born,ih]
def VA (t:Zs){s s':Zf}(hx:VR ρ x x')(hs:VR ρ s s')(hv:VR ρ v v'):
  Am P' P fz Gf ρ (Zch t x s v) (Zch t x' s' v'):=by
 unfold Zch;cases hx with
 | @map r r' hr=>
  cases r<;>cases r'<;>first|exact hr.elim|skip
  .exact Ae
  .dsimp only
   refine Ac _ (C6 hr) fun τ o o' Df ho=>?_;cases ho with
   | @map es BA c h=>
    dsimp only;refine Ac _ (Lm (hs.mono Df)) fun DD n n' Bo hn=>?_;cases hn;rw[XD h (fun b=>(b:Int)==n)];split
    .exact D6 ((Ren.le_trans Df Bo).1 _ _ hr) (.map _ (Bz.modify (f:=fun e=> {e with val:=v}) (g:=fun e=> {e with val:=v'}) (Bz.mono h fun _ _=>Ow.mono Bo) (fun a b DU=>⟨DU.key,hv.mono (Ren.le_trans Df Bo),DU.born⟩) _))
    .exact Ai
   |_=>exact Ae
 |_=>exact Ae
def nu (T:Twins P' P)(t:Zs)(hx:VR ρ x x'):Am P' P fz VR ρ (ZdM t x) (ZdM t x'):=by
 unfold ZdM;refine Ac _ (Aq T t) fun σ d d' hle hd=>?_;obtain⟨rfl,hd⟩:=hd;have Bd:=hx.mono hle;have tail:∀τ (o o':Obj),OR τ o o'->Am P' P fz VR τ (newObj o>>=fun r=>pure (ZbT (some ⟨r,0,none⟩))) (newObj o'>>=fun r=>pure (ZbT (some ⟨r,0,none⟩))):=
  fun τ o o' ho=>Ac _ (Hg ho) fun _ _ _ _ hr=>Ad (.pointer ⟨hr,rfl,rfl⟩)
 cases d with
 |string=>
  cases Bd with
  |string s=>exact Ac (fun τ o o'=>OR τ o o') (Ad (.stringIter s 0)) fun τ o o' _ ho=>tail τ o o' ho
  |_=>exact CC
 |map _ _=>
  cases Bd with
  | @map r r' hr=>
   cases r<;>cases r'<;>first|exact hr.elim|skip
   .exact Ac (fun τ o o'=>OR τ o o') (Ad (.mapIter 0 #[] 0 trivial)) fun τ o o' _ ho=>tail τ o o' ho
   .dsimp only
    refine Ac _ (C6 hr) fun τ o o' Df ho=>?_;cases ho with
    |map c h=>exact Ac (fun τ o o'=>OR τ o o') (Ad (.mapIter c #[] c (Df.1 _ _ hr))) fun τ o o' _ ho=>tail τ o o' ho
    |_=>exact CC
  |_=>exact CC
 |_=>exact CC
def cU {R:α->β->Prop}{l:List α}{l':List β}(h:Ep R l l'){p:α->Bool}{q:β->Bool}(hp:∀x y,R x y->p x=q y):Ep R (l.filter p) (l'.filter q):=by
 induction h with
 |nil=>exact .nil
 |cons hx _ ih=>
  rw[ZbB,ZbB,hp _ _ hx];split
  .exact .cons hx ih
  exact ih
def Bz.filter {R:α->β->Prop}{a:Array α}{b:Array β}(h:Bz R a b){p:α->Bool}{q:β->Bool}(hp:∀x y,R x y->p x=q y):Bz R (a.filter p) (b.filter q):=by
 have:=cU h.list hp;have h2:=Bz.fL this;rw[<-Zd1, <-Zd1,ZdU,ZdU]at h2;exact h2
def sE {R:α->β->Prop}{a:Array α}{b:Array β}(h:Bz R a b){p:α->Bool}{q:β->Bool}(hp:∀x y,R x y->p x=q y):a.all p=b.all q:=by
 have hl:=h.list;rw[<-Array.all_toList, <-Array.all_toList];generalize a.toList=l at hl⊢;generalize b.toList=m at hl⊢;clear h
 induction hl with
 |nil=>rfl
 |cons hx _ ih=>simp only[Zbs,hp _ _ hx,ih]
inductive OpR {α β:Type}(R:α->β->Prop):Option α->Option β->Prop
 |none:OpR R none none
 |some {a:α} {b:β} (h:R a b):OpR R (some a) (some b)
def yK (hx:VR ρ x x')(isString:Bool)(t:Zs):Am P' P fz VR ρ (Zea x isString t) (Zea x' isString t):=by
 unfold Zea;have over:∀τ:Ren,Am P' P fz VR τ (pure (YK #[.bool false])) (pure (YK #[.bool false])):=fun τ=>Ad (.tuple' (Bz.single (.bool false)));cases hx with
 | @pointer a a' ha=>
  cases a<;>cases a'<;>first|exact ha.elim|skip
  .exact Ae
  .rename_i a a'
   obtain⟨r,off,sp⟩:=a;obtain⟨r',akD,sp'⟩:=a';obtain⟨h1,h2,h3⟩:=ha;dsimp only at h1 h2 h3;subst h2;subst h3;cases akD with
   |succ n=>exact Ae
   |zero=>
    dsimp only;refine Ac _ (C6 h1) fun τ o o' Df ho=>?_;have sF:=Df.1 _ _ h1;cases ho with
    |stringIter s p=>
     cases isString with
     |false=>exact Ae
     |true=>
      dsimp only;split
      .refine Ac _ (D6 sF (.stringIter _ _)) fun DD _ _ Bo _=>?_
       exact Ad (.tuple' (((Bz.single (.bool true)).push (.int _ _)).push (.int _ _)))
      .exact over _
    | @mapIter m m' since seen last hm=>
     cases isString with
     |true=>cases m<;>exact Ae
     |false=>
      cases m<;>cases m'<;>first|exact hm.elim|skip
      .exact over _
      .dsimp only
       refine Ac _ (C6 hm) fun DD o o' Bo ho=>?_;cases ho with
       | @map es BA c TF=>
        dsimp only;have hem:es.isEmpty=BA.isEmpty:=by simp[Zdc,TF.1]
        rw[hem,sE TF (p:=fun x=>decide (x.born>=last)) (q:=fun x=>decide (x.born>=last)) fun a b h=>by rw[h.born]];split
        .exact .bad trivial
        .have fU:=TF.filter (p:=fun e=> !seen.contains e.born) (q:=fun e=> !seen.contains e.born) fun a b h=>by rw[h.born]
         have hold:=fU.filter (p:=fun e=>decide (e.born<since)) (q:=fun e=>decide (e.born<since)) fun a b h=>by rw[h.born]
         have Bp:=fU.filter (p:=fun e=>decide (e.born>=since)) (q:=fun e=>decide (e.born>=since)) fun a b h=>by rw[h.born]
         have hoe:(Z1 (fun e=>decide (e.born<since)) (Z1 (fun e=> !seen.contains e.born) es)).isEmpty=(Z1 (fun e=>decide (e.born<since)) (Z1 (fun e=> !seen.contains e.born) BA)).isEmpty:=by
          unfold Zdc;rw[hold.1]
         have fV:Bz (OpR (Ow DD)) ((if(Z1 (fun e=>decide (e.born<since)) (Z1 (fun e=> !seen.contains e.born) es)).isEmpty=true then #[none] else #[])++(Z1 (fun e=>decide (e.born<since)) (Z1 (fun e=> !seen.contains e.born) es)++Z1 (fun e=>decide (e.born>=since)) (Z1 (fun e=> !seen.contains e.born) es)).map some)
           ((if(Z1 (fun e=>decide (e.born<since)) (Z1 (fun e=> !seen.contains e.born) BA)).isEmpty=true then #[none] else #[])++(Z1 (fun e=>decide (e.born<since)) (Z1 (fun e=> !seen.contains e.born) BA)++Z1 (fun e=>decide (e.born>=since)) (Z1 (fun e=> !seen.contains e.born) BA)).map some):=by
          refine Bz.append ?_ ((hold.append Bp).map fun x y h=>.some h);rw[hoe];split
          .exact Bz.single .none
          exact Bz.nil
         revert fV
         generalize ((if(Z1 (fun e=>decide (e.born<since)) (Z1 (fun e=> !seen.contains e.born) es)).isEmpty=true then #[none] else #[])++(Z1 (fun e=>decide (e.born<since)) (Z1 (fun e=> !seen.contains e.born) es)++Z1 (fun e=>decide (e.born>=since)) (Z1 (fun e=> !seen.contains e.born) es)).map some)=C;generalize ((if(Z1 (fun e=>decide (e.born<since)) (Z1 (fun e=> !seen.contains e.born) BA)).isEmpty=true then #[none] else #[])++(Z1 (fun e=>decide (e.born<since)) (Z1 (fun e=> !seen.contains e.born) BA)++Z1 (fun e=>decide (e.born>=since)) (Z1 (fun e=> !seen.contains e.born) BA)).map some)=C';intro fV;rw[fV.1];refine Ac _ (Hh _) fun J6 k k' Ce hk=>?_;cases hk;rcases fV.opt k with⟨e1,e2⟩|⟨y,y',e1,e2,hy⟩
         .rw[e1];exact Ae
         .rw[e1,e2]
          cases hy with
          |none=>exact over _
          |some he=>
           dsimp only;have hle:=Ren.le_trans Bo Ce;rw[he.born];refine Ac _ (D6 (hle.1 _ _ sF) (.mapIter _ _ _ (hle.1 _ _ hm))) fun Hm _ _ Fg _=>?_;have Aw:=Ren.le_trans Ce Fg;exact Ad (.tuple' (((Bz.single (.bool true)).push (he.key.mono Aw)).push (he.val.mono Aw)))
       |_=>exact Ae
    |_=>exact Ae
 |_=>exact Ae
end
section
variable {P' P:Zo}{fz:Prop}{ρ:Ren}
def VB (T:Twins P' P)(hB:Base P ρ)(hx:VR ρ x x')(xt at_:Zs)(ok:Bool):Am P' P fz VR ρ (Zbt x xt at_ ok) (Zbt x' xt at_ ok):=by
 unfold Zbt;dsimp only;refine Ac _ (Aq T at_) fun σ d d' hle hd=>?_;obtain⟨rfl,hd⟩:=hd;have holds:∀τ {v v':Zf},VR τ v v'->Am P' P fz VR τ (pure (if ok=true then YK #[v,.bool true] else v)) (pure (if ok=true then YK #[v',.bool true] else v')):=by
  intro τ v v' hv;refine Ad ?_;split
  .exact .tuple' ((Bz.single hv).push (.bool true))
  exact hv
 have fails:∀τ,ρ.le τ->∀(s d:Option Zs) (m:String),Am P' P fz VR τ (if ok=true then zeroValue at_>>=fun z=>pure (YK #[z,.bool false]) else zw (.typeAssertion s d at_ m))
   (if ok=true then zeroValue at_>>=fun z=>pure (YK #[z,.bool false]) else zw (.typeAssertion s d at_ m)):=by
  intro τ Df s d m;split
  .exact Ac _ (C8 T at_) fun _ _ _ _ hz=>Ad (.tuple' ((Bz.single hz).push (.bool false)))
  exact AJ T (hB.mono Df) _
 have Bd:=hx.mono hle;have rest:(∀ms,d≠ .interface ms)->Am P' P fz VR σ
   (match x with
    | .nilIface=>(if ok=true then zeroValue at_>>=fun z=>pure (YK #[z,.bool false]) else zw (.typeAssertion (some xt) none at_ ""))
    | .iface t v=>if t=at_ then pure (if ok=true then YK #[v,.bool true] else v) else(if ok=true then zeroValue at_>>=fun z=>pure (YK #[z,.bool false]) else zw (.typeAssertion (some xt) (some t) at_ ""))
    |_=>stuck "TypeAssert: interface value expected")
   (match x' with
    | .nilIface=>(if ok=true then zeroValue at_>>=fun z=>pure (YK #[z,.bool false]) else zw (.typeAssertion (some xt) none at_ ""))
    | .iface t v=>if t=at_ then pure (if ok=true then YK #[v,.bool true] else v) else(if ok=true then zeroValue at_>>=fun z=>pure (YK #[z,.bool false]) else zw (.typeAssertion (some xt) (some t) at_ ""))
    |_=>stuck "TypeAssert: interface value expected"):=by
  intro _;cases Bd with
  |nilIface=>exact fails σ hle _ _ _
  |iface t h=>
   dsimp only;by_cases e:t=at_
   .rw[if_pos e,if_pos e];exact holds σ h
   .rw[if_neg e,if_neg e];exact fails σ hle _ _ _
  |_=>exact Ae
 cases d with
 |interface want=>
  cases Bd with
  |nilIface=>exact fails σ hle _ _ _
  |iface t h=>
   dsimp only;refine Ac _ (Cu T t) fun Br i i' Aw hi=>?_;obtain⟨rfl,_⟩:=hi;split
   .exact holds Br ((VR.iface t h).mono Aw)
   .exact fails Br (Ren.le_trans hle Aw) _ _ _
  |_=>exact Ae
 |_=>
  have:=rest (fun ms h=>by cases h);cases Bd<;>first|exact this|exact Ae
def ae8 (T:Twins P' P)(at_:Array Zs)(t:Zs){a':Array Zf}(h:BS ρ a a'):Am P' P fz VR ρ (Zc9 at_ t a) (Zc9 at_ t a'):=by
 unfold Zc9;cases at_[0]? with
 |none=>exact Ae
 |some Ni=>
  rcases h.opt 0 with⟨e1,e2⟩|⟨x,x',e1,e2,hx⟩
  .rw[e1,e2];exact Ae
  rw[e1,e2];dsimp only;refine Ac _ (Aq T Ni) fun σ d d' hle hd=>?_;obtain⟨rfl,_⟩:=hd;have Bd:=hx.mono hle;cases d with
  |string=>cases Bd<;>first|exact Ae|exact Ad (.int _ _)
  |array n e=>exact Ad (.int _ _)
  |pointer e=>
   refine Ac _ (Aq T e) fun Br d d' Aw hd=>?_;obtain⟨rfl,_⟩:=hd;cases d<;>first|exact Ae|exact Ad (.int _ _)
  |slice e=>cases Bd<;>first|exact Ae|exact Ad (.int _ _)
  |map k e=>
   cases Bd with
   | @map r r' hr=>
    cases r<;>cases r'<;>first|exact hr.elim|skip
    .exact Ad (.int _ _)
    .refine Ac _ (C6 hr) fun τ o o' Df ho=>?_
     cases ho with
     |map c TF=>dsimp only;rw[TF.1];exact Ad (.int _ _)
     |_=>exact Ae
   |_=>exact Ae
  |chan _ e=>
   cases Bd with
   | @chan r r' hr=>
    cases r<;>cases r'<;>first|exact hr.elim|skip
    .exact Ad (.int _ _)
    .refine Ac _ (C6 hr) fun τ o o' Df ho=>?_
     cases ho with
     |chan cap cl s r tm hb=>dsimp only;rw[hb.1];exact Ad (.int _ _)
     |_=>exact Ae
   |_=>exact Ae
  |_=>exact Ae
def ae9 (T:Twins P' P)(at_:Array Zs)(t:Zs){a':Array Zf}(h:BS ρ a a'):Am P' P fz VR ρ (Zda at_ t a) (Zda at_ t a'):=by
 unfold Zda;cases at_[0]? with
 |none=>exact Ae
 |some Ni=>
  rcases h.opt 0 with⟨e1,e2⟩|⟨x,x',e1,e2,hx⟩
  .rw[e1,e2];exact Ae
  rw[e1,e2];dsimp only;refine Ac _ (Aq T Ni) fun σ d d' hle hd=>?_;obtain⟨rfl,_⟩:=hd;have Bd:=hx.mono hle;cases d with
  |array n e=>exact Ad (.int _ _)
  |pointer e=>
   refine Ac _ (Aq T e) fun Br d d' Aw hd=>?_;obtain⟨rfl,_⟩:=hd;cases d<;>first|exact Ae|exact Ad (.int _ _)
  |slice e=>cases Bd<;>first|exact Ae|exact Ad (.int _ _)
  |chan _ e=>
   cases Bd with
   | @chan r r' hr=>
    cases r<;>cases r'<;>first|exact hr.elim|skip
    .exact Ad (.int _ _)
    .refine Ac _ (C6 hr) fun τ o o' Df ho=>?_
     cases ho with
     |chan cap cl s r tm hb=>exact Ad (.int _ _)
     |_=>exact Ae
   |_=>exact Ae
  |_=>exact Ae
def VC (hx:VR ρ x x'):Am P' P fz Gf ρ (ZcX x) (ZcX x'):=by
 cases hx<;>first|exact Ae|exact Ad rfl
def JG (size n:Nat)(hx:VR ρ x x'):Am P' P fz BS ρ (Zu size n x) (Zu size n x'):=by
 cases hx with
 | @slice a a' n c ha=>
  cases a<;>cases a'<;>first|exact ha.elim|skip
  .exact Ad Bz.nil
  .exact Kv ha _
 |string s=>
  refine Ad ?_;refine⟨rfl,fun i u v hu hv=>?_⟩;rw[hu]at hv;cases hv;rw[zF,zc]at hu;obtain⟨b,_,rfl⟩:=hu;exact .int _ _
 |_=>exact Ae
def yL (T:Twins P' P)(at_:Array Zs)(t:Zs){a':Array Zf}(h:BS ρ a a'):Am P' P fz VR ρ (ZcL at_ t a) (ZcL at_ t a'):=by
 unfold ZcL;cases at_[0]? with
 |none=>exact Ae
 |some Ni=>
  rcases h.opt 0 with⟨e1,e2⟩|⟨x,x',e1,e2,hx⟩
  .rw[e1,e2];exact Ae
  rw[e1,e2];rcases h.opt 1 with⟨e3,e4⟩|⟨y,y',e3,e4,hy⟩
  .rw[e3,e4];exact Ae
  rw[e3,e4];dsimp only;refine Ac _ (Aq T Ni) fun σ d d' hle hd=>?_;obtain⟨rfl,_⟩:=hd;have Bd:=hx.mono hle;cases d with
  |slice e=>
   cases Bd with
   | @slice b b' n c hb=>
    dsimp only;refine Ac _ (VC (hy.mono hle)) fun Br l l' Aw hl=>?_;cases hl;refine Ac _ (Ck T e) fun Eo s s' AY hs=>?_;obtain⟨rfl,_⟩:=hs;have G8:=Ren.le_trans hle (Ren.le_trans Aw AY);refine Ac _ (JG _ _ (hy.mono G8)) fun Kx z z' BH hz=>?_;cases b<;>cases b'<;>first|exact hb.elim|skip
    .exact Ad (.int _ _)
    .refine Ac _ (JD 0 (AR.mono (Ren.le_trans Aw (Ren.le_trans AY BH)) hb) hz.list) fun Nj _ _ _ _=>?_
     exact Ad (.int _ _)
   |_=>exact Ae
  |_=>exact Ae
def Gg {Q:Ren->α->β->Prop}{c:Prop}[Decidable c]{a b:Sem α}{a' b':Sem β}(h1:c->Am P' P fz Q ρ a a')(h2:¬c->Am P' P fz Q ρ b b'):Am P' P fz Q ρ (if c then a else b) (if c then a' else b'):=by
 by_cases h:c
 .rw[if_pos h,if_pos h];exact h1 h
 rw[if_neg h,if_neg h];exact h2 h
def Idle (P':Zo){α:Type}(s:Sem α):Prop:=∀w es,∃a,s.runT P' w es=(.ok a w,es)
def Ek (a:α):Idle P' (pure a):=fun _ _=>⟨a,rfl⟩
def FK {s:Sem α}{f:α->Sem β}(h:Idle P' s)(hf:∀a,Idle P' (f a)):Idle P' (s>>=f):=fun w es=>by
 obtain⟨a,ha⟩:=h w es;obtain⟨b,hb⟩:=hf a w es;refine⟨b,?_⟩;show(s.bind f).runT P' w es=_;rw[ze,ha];exact hb
def cV (r:Nat):Idle P' (shape r):=fun _ _=>⟨_,rfl⟩
def XE (a:Addr):Idle P' (frozen a):=fun _ _=>⟨_,rfl⟩
def GF (a:Addr)(n:Nat):Idle P' (ZdT a n):=by
 unfold ZdT;refine FK (cV _) fun s=>?_;split<;>exact Ek _
def TH (size akE n:Nat)(b:Option Addr)(x:Zf):Idle P' (Yt size akE n b x):=by
 unfold Yt;dsimp only;cases b with
 |none=>
  refine FK (Ek _) fun s=>?_;split
  .exact Ek _
  .split
   .exact FK (GF _ _) fun _=>Ek _
   .exact Ek _
 |some a=>
  refine FK (GF _ _) fun s=>?_;refine FK (XE _) fun f=>?_;refine FK (Ek _) fun s=>?_;split
  .exact Ek _
  split
  .exact FK (GF _ _) fun _=>Ek _
  exact Ek _
def nv (T:Twins P' P)(hB:Base P ρ)(at_:Array Zs)(t:Zs){a':Array Zf}(h:BS ρ a a'):Am P' P fz VR ρ (Zao at_ t a) (Zao at_ t a'):=by
 unfold Zao;cases at_[0]? with
 |none=>exact Ae
 |some Ni=>
  rcases h.opt 0 with⟨e1,e2⟩|⟨x,x',e1,e2,hx⟩
  .rw[e1,e2];exact Ae
  rw[e1,e2];rcases h.opt 1 with⟨e3,e4⟩|⟨y,y',e3,e4,hy⟩
  .rw[e3,e4];exact Ae
  rw[e3,e4];dsimp only;refine Ac _ (Aq T Ni) fun σ d d' hle hd=>?_;obtain⟨rfl,_⟩:=hd;have Bd:=hx.mono hle;cases d with
  |slice e=>
   cases Bd with
   | @slice b b' n c hb=>
    dsimp only;refine Ac _ (Ck T e) fun Ut size Nf cW hs=>?_;obtain⟨rfl,_⟩:=hs;have fW:=hy.mono (Ren.le_trans hle cW);have vP:=Om.mono cW hb;have fX:Base P Ut:=hB.mono (Ren.le_trans hle cW);have APP:∀τ (z:Bool) (k:Nat),Ut.le τ->Am P' P fz BS τ
      (if(!z)=true then Zu size k y else if k*size=0 then pure #[] else zeroValue e>>=fun v=>pure (Zt v.cells k))
      (if(!z)=true then Zu size k y' else if k*size=0 then pure #[] else zeroValue e>>=fun v=>pure (Zt v.cells k)):=by
     intro τ z k Df;split
     .exact JG _ _ (fW.mono Df)
     split
     .exact Ad Bz.nil
     refine Ac _ (C8 T e) fun _ v v' _ hv=>Ad ?_;have:=Hn hv.cells (k*v.cells.size);unfold Zt;rw[hv.cells.1]at this⊢;exact this
    have R2:∀τ (z:Bool) (k:Nat),Ut.le τ->Am P' P fz VR τ
      (choose (.appendCap (n+k) c e)>>=fun cap=>typeInfo e>>=fun i=>Zah (cap*i.bytes)>>=fun _=>Zu size n (.slice b n c)>>=fun old=>
       (if(!z)=true then Zu size k y else if k*size=0 then pure #[] else zeroValue e>>=fun v=>pure (Zt v.cells k))>>=fun new=>
       zeroValue e>>=fun v=>newRow e (old++new++Zt v.cells (cap - (n+k)))>>=fun a=>pure (Zy (some a) (n+k) cap))
      (choose (.appendCap (n+k) c e)>>=fun cap=>typeInfo e>>=fun i=>Zah (cap*i.bytes)>>=fun _=>Zu size n (.slice b' n c)>>=fun old=>
       (if(!z)=true then Zu size k y' else if k*size=0 then pure #[] else zeroValue e>>=fun v=>pure (Zt v.cells k))>>=fun new=>
       zeroValue e>>=fun v=>newRow e (old++new++Zt v.cells (cap - (n+k)))>>=fun a=>pure (Zy (some a) (n+k) cap)):=by
     intro τ z k Df;refine Ac _ (Hh _) fun aea cap Ey BO yM=>?_;cases yM;refine Ac _ (Cu T e) fun DD i i' Co hi=>?_;obtain⟨rfl,_⟩:=hi;refine Ac _ (Up _) fun J6 _ _ Fv _=>?_;have Ce:=Ren.le_trans Df (Ren.le_trans BO (Ren.le_trans Co Fv));refine Ac _ (JG size n (.slice n c (vP.mono Ce))) fun Hm old akF cY hold=>?_;refine Ac _ (APP Hm z k (Ren.le_trans Ce cY)) fun fT new new' akG Bp=>?_;refine Ac _ (C8 T e) fun aeb v v' aec hv=>?_;have Ci:BS aeb (old++new++Zt v.cells (cap - (n+k))) (akF++new'++Zt v'.cells (cap - (n+k))):=by
      refine((BS.mono (Ren.le_trans akG aec) hold).append (BS.mono aec Bp)).append ?_;have:=Hn hv.cells ((cap - (n+k))*v.cells.size);unfold Zt;rw[hv.cells.1]at this⊢;exact this
     exact Ac _ (IZ e Ci) fun _ _ _ _ ha=>Ad (.slice _ _ ha)
    have R1:∀τ (z:Bool) (k:Nat) (u:Zdf),GY (.unsupported u)->Ut.le τ->Am P' P fz VR τ
      (typeInfo e>>=fun i=>if Yx (n+k) c*i.bytes>2^48 then((if z=true then(zw (.error "growslice: len out of range"):Sem PUnit) else Yt size n k b y>>=fun s=>if(!s)=true then(mark .noRoom>>=fun _=>unsupported u) else unsupported u)>>=fun _=>
       choose (.appendCap (n+k) c e)>>=fun cap=>typeInfo e>>=fun i=>Zah (cap*i.bytes)>>=fun _=>Zu size n (.slice b n c)>>=fun old=>
       (if(!z)=true then Zu size k y else if k*size=0 then pure #[] else zeroValue e>>=fun v=>pure (Zt v.cells k))>>=fun new=>
       zeroValue e>>=fun v=>newRow e (old++new++Zt v.cells (cap - (n+k)))>>=fun a=>pure (Zy (some a) (n+k) cap))
      else
       choose (.appendCap (n+k) c e)>>=fun cap=>typeInfo e>>=fun i=>Zah (cap*i.bytes)>>=fun _=>Zu size n (.slice b n c)>>=fun old=>
       (if(!z)=true then Zu size k y else if k*size=0 then pure #[] else zeroValue e>>=fun v=>pure (Zt v.cells k))>>=fun new=>
       zeroValue e>>=fun v=>newRow e (old++new++Zt v.cells (cap - (n+k)))>>=fun a=>pure (Zy (some a) (n+k) cap))
      (typeInfo e>>=fun i=>if Yx (n+k) c*i.bytes>2^48 then((if z=true then(zw (.error "growslice: len out of range"):Sem PUnit) else Yt size n k b' y'>>=fun s=>if(!s)=true then(mark .noRoom>>=fun _=>unsupported u) else unsupported u)>>=fun _=>
       choose (.appendCap (n+k) c e)>>=fun cap=>typeInfo e>>=fun i=>Zah (cap*i.bytes)>>=fun _=>Zu size n (.slice b' n c)>>=fun old=>
       (if(!z)=true then Zu size k y' else if k*size=0 then pure #[] else zeroValue e>>=fun v=>pure (Zt v.cells k))>>=fun new=>
       zeroValue e>>=fun v=>newRow e (old++new++Zt v.cells (cap - (n+k)))>>=fun a=>pure (Zy (some a) (n+k) cap))
      else
       choose (.appendCap (n+k) c e)>>=fun cap=>typeInfo e>>=fun i=>Zah (cap*i.bytes)>>=fun _=>Zu size n (.slice b' n c)>>=fun old=>
       (if(!z)=true then Zu size k y' else if k*size=0 then pure #[] else zeroValue e>>=fun v=>pure (Zt v.cells k))>>=fun new=>
       zeroValue e>>=fun v=>newRow e (old++new++Zt v.cells (cap - (n+k)))>>=fun a=>pure (Zy (some a) (n+k) cap)):=by
     intro τ z k u hu Df;refine Ac _ (Cu T e) fun DD i i' Co hi=>?_;obtain⟨rfl,_⟩:=hi;have Bo:=Ren.le_trans Df Co;split
     .refine Ac (fun _ _ _=>False) ?_ fun _ _ _ _ h=>h.elim
      split
      .exact AJ T (fX.mono Bo) _
      refine .He (fun w es=>?_);obtain⟨s,hs⟩:=TH (P':=P') size n k b y w es;show∃x v f,((Yt size n k b y).bind _).runT P' w es=_/\_;rw[ze,hs];dsimp only;split
      .exact⟨_,_,_,rfl,hu⟩
      exact⟨_,_,_,rfl,hu⟩
     exact R2 DD z k Bo
    have STORE:∀τ (z:Bool) (k:Nat),Ut.le τ->Am P' P fz VR τ
      ((if(!z)=true then Zu size k y else if k*size=0 then pure #[] else zeroValue e>>=fun v=>pure (Zt v.cells k))>>=fun new=>
       match(generalizing:=false) b with
       |some a=>ZbX (a.add (n*size)) new.toList>>=fun _=>pure (Zy b (n+k) c)
       |_=>pure (Zy b (n+k) c))
      ((if(!z)=true then Zu size k y' else if k*size=0 then pure #[] else zeroValue e>>=fun v=>pure (Zt v.cells k))>>=fun new=>
       match(generalizing:=false) b' with
       |some a=>ZbX (a.add (n*size)) new.toList>>=fun _=>pure (Zy b' (n+k) c)
       |_=>pure (Zy b' (n+k) c)):=by
     intro τ z k Df;refine Ac _ (APP τ z k Df) fun DD new new' Co Bp=>?_;have Kt:=vP.mono (Ren.le_trans Df Co);cases b<;>cases b'<;>first|exact Kt.elim|skip
     .exact Ad (.slice _ _ Kt)
     exact Ac _ (JD 0 (AR.add Kt _) Bp.list) fun J6 _ _ Fv _=>Ad (.slice _ _ (Om.mono Fv Kt))
    have MAIN:∀τ (z:Bool) (k:Nat) (u:Zdf),GY (.unsupported u)->Ut.le τ->Am P' P fz VR τ
      (if n+k<=c then((if(!z)=true then Zu size k y else if k*size=0 then pure #[] else zeroValue e>>=fun v=>pure (Zt v.cells k))>>=fun new=>
       match(generalizing:=false) b with
       |some a=>ZbX (a.add (n*size)) new.toList>>=fun _=>pure (Zy b (n+k) c)
       |_=>pure (Zy b (n+k) c))
      else typeInfo e>>=fun i=>if((n+k:Nat):Int)>IntKind.i64.max/\(z=true\/i.bytes=0) then((zw (.error "growslice: len out of range"):Sem PUnit)>>=fun _=>
       (typeInfo e>>=fun i=>if Yx (n+k) c*i.bytes>2^48 then((if z=true then(zw (.error "growslice: len out of range"):Sem PUnit) else Yt size n k b y>>=fun s=>if(!s)=true then(mark .noRoom>>=fun _=>unsupported u) else unsupported u)>>=fun _=>
       choose (.appendCap (n+k) c e)>>=fun cap=>typeInfo e>>=fun i=>Zah (cap*i.bytes)>>=fun _=>Zu size n (.slice b n c)>>=fun old=>
       (if(!z)=true then Zu size k y else if k*size=0 then pure #[] else zeroValue e>>=fun v=>pure (Zt v.cells k))>>=fun new=>
       zeroValue e>>=fun v=>newRow e (old++new++Zt v.cells (cap - (n+k)))>>=fun a=>pure (Zy (some a) (n+k) cap))
      else
       choose (.appendCap (n+k) c e)>>=fun cap=>typeInfo e>>=fun i=>Zah (cap*i.bytes)>>=fun _=>Zu size n (.slice b n c)>>=fun old=>
       (if(!z)=true then Zu size k y else if k*size=0 then pure #[] else zeroValue e>>=fun v=>pure (Zt v.cells k))>>=fun new=>
       zeroValue e>>=fun v=>newRow e (old++new++Zt v.cells (cap - (n+k)))>>=fun a=>pure (Zy (some a) (n+k) cap)))
       else(typeInfo e>>=fun i=>if Yx (n+k) c*i.bytes>2^48 then((if z=true then(zw (.error "growslice: len out of range"):Sem PUnit) else Yt size n k b y>>=fun s=>if(!s)=true then(mark .noRoom>>=fun _=>unsupported u) else unsupported u)>>=fun _=>
       choose (.appendCap (n+k) c e)>>=fun cap=>typeInfo e>>=fun i=>Zah (cap*i.bytes)>>=fun _=>Zu size n (.slice b n c)>>=fun old=>
       (if(!z)=true then Zu size k y else if k*size=0 then pure #[] else zeroValue e>>=fun v=>pure (Zt v.cells k))>>=fun new=>
       zeroValue e>>=fun v=>newRow e (old++new++Zt v.cells (cap - (n+k)))>>=fun a=>pure (Zy (some a) (n+k) cap))
      else
       choose (.appendCap (n+k) c e)>>=fun cap=>typeInfo e>>=fun i=>Zah (cap*i.bytes)>>=fun _=>Zu size n (.slice b n c)>>=fun old=>
       (if(!z)=true then Zu size k y else if k*size=0 then pure #[] else zeroValue e>>=fun v=>pure (Zt v.cells k))>>=fun new=>
       zeroValue e>>=fun v=>newRow e (old++new++Zt v.cells (cap - (n+k)))>>=fun a=>pure (Zy (some a) (n+k) cap)))
      (if n+k<=c then((if(!z)=true then Zu size k y' else if k*size=0 then pure #[] else zeroValue e>>=fun v=>pure (Zt v.cells k))>>=fun new=>
       match(generalizing:=false) b' with
       |some a=>ZbX (a.add (n*size)) new.toList>>=fun _=>pure (Zy b' (n+k) c)
       |_=>pure (Zy b' (n+k) c))
      else typeInfo e>>=fun i=>if((n+k:Nat):Int)>IntKind.i64.max/\(z=true\/i.bytes=0) then((zw (.error "growslice: len out of range"):Sem PUnit)>>=fun _=>
       (typeInfo e>>=fun i=>if Yx (n+k) c*i.bytes>2^48 then((if z=true then(zw (.error "growslice: len out of range"):Sem PUnit) else Yt size n k b' y'>>=fun s=>if(!s)=true then(mark .noRoom>>=fun _=>unsupported u) else unsupported u)>>=fun _=>
       choose (.appendCap (n+k) c e)>>=fun cap=>typeInfo e>>=fun i=>Zah (cap*i.bytes)>>=fun _=>Zu size n (.slice b' n c)>>=fun old=>
       (if(!z)=true then Zu size k y' else if k*size=0 then pure #[] else zeroValue e>>=fun v=>pure (Zt v.cells k))>>=fun new=>
       zeroValue e>>=fun v=>newRow e (old++new++Zt v.cells (cap - (n+k)))>>=fun a=>pure (Zy (some a) (n+k) cap))
      else
       choose (.appendCap (n+k) c e)>>=fun cap=>typeInfo e>>=fun i=>Zah (cap*i.bytes)>>=fun _=>Zu size n (.slice b' n c)>>=fun old=>
       (if(!z)=true then Zu size k y' else if k*size=0 then pure #[] else zeroValue e>>=fun v=>pure (Zt v.cells k))>>=fun new=>
       zeroValue e>>=fun v=>newRow e (old++new++Zt v.cells (cap - (n+k)))>>=fun a=>pure (Zy (some a) (n+k) cap)))
       else(typeInfo e>>=fun i=>if Yx (n+k) c*i.bytes>2^48 then((if z=true then(zw (.error "growslice: len out of range"):Sem PUnit) else Yt size n k b' y'>>=fun s=>if(!s)=true then(mark .noRoom>>=fun _=>unsupported u) else unsupported u)>>=fun _=>
       choose (.appendCap (n+k) c e)>>=fun cap=>typeInfo e>>=fun i=>Zah (cap*i.bytes)>>=fun _=>Zu size n (.slice b' n c)>>=fun old=>
       (if(!z)=true then Zu size k y' else if k*size=0 then pure #[] else zeroValue e>>=fun v=>pure (Zt v.cells k))>>=fun new=>
       zeroValue e>>=fun v=>newRow e (old++new++Zt v.cells (cap - (n+k)))>>=fun a=>pure (Zy (some a) (n+k) cap))
      else
       choose (.appendCap (n+k) c e)>>=fun cap=>typeInfo e>>=fun i=>Zah (cap*i.bytes)>>=fun _=>Zu size n (.slice b' n c)>>=fun old=>
       (if(!z)=true then Zu size k y' else if k*size=0 then pure #[] else zeroValue e>>=fun v=>pure (Zt v.cells k))>>=fun new=>
       zeroValue e>>=fun v=>newRow e (old++new++Zt v.cells (cap - (n+k)))>>=fun a=>pure (Zy (some a) (n+k) cap))):=by
     intro τ z k u hu Df;split
     .exact STORE τ z k Df
     refine Ac _ (Cu T e) fun DD i i' Co hi=>?_;obtain⟨rfl,_⟩:=hi;split
     .exact DG T (fX.mono (Ren.le_trans Df Co)) _
     exact R1 DD z k u hu (Ren.le_trans Df Co)
    cases at_[1]? with
    |none=>
     refine Ac (fun _ z z'=>z=false/\z'=false) (Ad ⟨rfl,rfl⟩) fun τ z z' Df hz=>?_;obtain⟨rfl,rfl⟩:=hz;refine Ac _ (VC (fW.mono Df)) fun DD k k' Co hk=>?_;cases hk;exact MAIN DD false k _ trivial (Ren.le_trans Df Co)
    |some xt=>
     dsimp only;refine Ac _ (Aq T xt) fun τ d d' Df hd=>?_;obtain⟨rfl,_⟩:=hd;refine Ac (fun _ z z'=>z=z') (Ad rfl) fun aea z z' BO hz=>?_;cases hz;have VD:=Ren.le_trans Df BO;cases z with
     |false=>
      refine Ac _ (VC (fW.mono VD)) fun DD k k' Co hk=>?_;cases hk;exact MAIN DD false k _ trivial (Ren.le_trans VD Co)
     |true=>
      refine Ac _ (Lm (fW.mono VD)) fun DD l l' Co hl=>?_;cases hl;have Bo:=Ren.le_trans VD Co;refine Gg (fun _=>DG T (fX.mono Bo) _) fun _=>?_;refine Ac _ (Cu T e) fun J6 i i' Fv hi=>?_;obtain⟨rfl,_⟩:=hi;have Ce:=Ren.le_trans Bo Fv;refine Gg (fun _=>?_) fun _=>?_
      .refine Ac _ (Hh _) fun Hm m m' cY hm=>?_
       cases hm;exact DG T (fX.mono (Ren.le_trans Ce cY)) _
      .refine Ac (fun _ k k'=>k=k') (Ad rfl) fun Hm k k' cY hk=>?_
       cases hk;exact MAIN Hm true k _ trivial (Ren.le_trans Ce cY)
   |_=>exact Ae
  |_=>exact Ae
end
section
variable {P' P:Zo}{fz:Prop}{ρ:Ren}
def RE (op:BinOp)(k:IntKind)(x y:Int):Am P' P fz VR ρ (Op.intArith op k x y) (Op.intArith op k x y):=by
 unfold Op.intArith;split<;>first|exact Ad (.int _ _)|exact Ae
def Uu (op:BinOp)(k:IntKind)(x y:Int):Am P' P fz VR ρ (Op.intBits op k x y) (Op.intBits op k x y):=by
 unfold Op.intBits;dsimp only;split<;>first|exact Ad (.int _ _)|exact Ae
def RF (op:BinOp)(x y:Int):Am P' P fz VR ρ (Op.intCmp op x y) (Op.intCmp op x y):=by
 unfold Op.intCmp;split<;>first|exact Ad (.bool _)|exact Ae
def Ho (op:BinOp)(x y:ByteArray):Am P' P fz VR ρ (ZcJ op x y) (ZcJ op x y):=by
 unfold ZcJ;dsimp only;split<;>first|exact Ad (.bool _)|exact Ae|skip
 split<;>first|exact Ai|exact Ad (.string _)
def nw (T:Twins P' P)(hB:Base P ρ)(op:BinOp)(k:IntKind)(x y:Int):Am P' P fz VR ρ (Op.intDiv op k x y) (Op.intDiv op k x y):=by
 unfold Op.intDiv;split
 .exact AJ T hB _
 split<;>first|exact Ad (.int _ _)|exact Ae
def sG (T:Twins P' P)(hB:Base P ρ)(op:BinOp)(k:IntKind)(x:Int)(yk:IntKind)(y:Int):Am P' P fz VR ρ (Op.shift op k x yk y) (Op.shift op k x yk y):=by
 unfold Op.shift;split
 .exact AJ T hB _
 dsimp only;split<;>first|exact Ad (.int _ _)|exact Ae
def sH (op:UnOp)(hx:VR ρ x x'):Am P' P fz VR ρ (Op.unary op x) (Op.unary op x'):=by
 unfold Op.unary;cases op<;>cases hx<;>first
  |exact RE _ _ _ _
  |exact Uu _ _ _ _
  |exact Ad (.bool _)
  |exact Ae
  |skip
 all_goals
  rename_i a a' ha;cases a<;>cases a'<;>first|exact ha.elim|exact Ae|exact Ai
def cZ (T:Twins P' P)(t:Zs)(hx:VR ρ x x')(hy:VR ρ y y')(h:x=.nilIface\/y=.nilIface)(hi:∃ms,P.underlying t=some (.interface ms)):Am P' P fz Gf ρ (Zaa t x y) (Zaa t x' y'):=by
 obtain⟨ms,hi⟩:=hi;unfold Zaa Op.maxDepth ZaZ;refine Ac _ (Aq T t) fun σ u u' hle hu=>?_;obtain⟨rfl,hu⟩:=hu;rw[hi]at hu;cases hu;rcases h with rfl|rfl
 .cases hx
  cases hy<;>first|exact Ad rfl|exact Ae
 cases hy;cases hx<;>first|exact Ad rfl|exact Ae
def LX (hT:P'.toTables=P.toTables):∀(d:Nat) (t:Zs) (b:Nat),cellOfByte P' d t b=cellOfByte P d t b
 |0,_,_=>rfl
 |d+1,t,b=>by
  have hu:P'.underlying t=P.underlying t:=by unfold ZbU;simp only[hT]
  have hb:∀t,P'.bytesOf t=P.bytesOf t:=fun t=>by unfold Program.bytesOf;rw[hT]
  have hc:∀t,P'.cellsOf t=P.cellsOf t:=fun t=>by unfold Zco;rw[hT]
  unfold cellOfByte;rw[hu];cases P.underlying t with
  |none=>rfl
  |some x=>cases x<;>simp only[hb,hc,LX hT d]
def RG (T:Twins P' P)(d:Nat)(e:Zs)(count off:Nat)(bytes:Int):cellAtBytes P' d e count off bytes=cellAtBytes P d e count off bytes:=by
 unfold cellAtBytes;simp only[T.cells,T.bytes,F7 T,LX T.tables]
def Nl (T:Twins P' P)(at_:Array Zs)(t:Zs)(hx:VR ρ x x')(hy:VR ρ y y'):Am P' P fz (fun σ v v'=>∃a a',v=.pointer a/\v'=.pointer a'/\Om σ a a') ρ (YP at_ t #[x,y]) (YP at_ t #[x',y']):=by
 unfold YP;cases hx with
 | @pointer a a' ha=>
  dsimp only;refine Ac _ (Lm hy) fun σ n n' hle hn=>?_;cases hn;refine Gg (fun _=>?_) fun _=>?_
  .cases a<;>cases a'<;>first|exact ha.elim|skip
   .exact Ai
   dsimp only;refine Ac _ (Xv (hle.1 _ _ ha.1)) fun Br v v' Aw hv=>?_;obtain⟨rfl,rfl⟩:=hv;exact Ad ⟨_,_,rfl,rfl,AR.mono (Ren.le_trans hle Aw) ha⟩
  .refine Gg (fun _=>?_) fun _=>?_
   .exact .bad trivial
   .cases a<;>cases a'<;>first|exact ha.elim|skip
    .exact Ai
    .dsimp only
     refine Ac _ (Ng (hle.1 _ _ ha.1)) fun Br s s' Aw hs=>?_;cases hs;cases s with
     |none=>exact Ai
     |some s=>
      obtain⟨e,k⟩:=s;dsimp only;refine Ac _ C2 fun Eo p p' AY hp=>?_;obtain⟨rfl,rfl⟩:=hp;have Nk:=AR.mono (Ren.le_trans hle (Ren.le_trans Aw AY)) ha;rw[T.depth,T.cells,RG T,Nk.2.1];split
      .exact Ad ⟨_,_,rfl,rfl,Nk.1,rfl,Nk.2.2⟩
      .exact Ai
 |_=>exact Ae
def Pr (T:Twins P' P)(at_:Array Zs)(t:Zs)(hx:VR ρ x x')(hy:VR ρ y y'):Am P' P fz VR ρ (YP at_ t #[x,y]) (YP at_ t #[x',y']):=
 (Nl T at_ t hx hy).imp fun _ _ _ _ ⟨_,_,h1,h2,h⟩=>by rw[h1,h2];exact .pointer h
def IA (T:Twins P' P)(t:Zs)(hx:VR ρ x x')(hy:VR ρ y y'):Am P' P fz VR ρ (movedNumber t x y) (movedNumber t x' y'):=by
 unfold movedNumber;refine Ac _ (Aq T t) fun σ d d' hle hd=>?_;obtain⟨rfl,_⟩:=hd;dsimp only;refine Gg (fun _=>.bad trivial) fun _=>?_;have Bd:=hx.mono hle;have Hl:=hy.mono hle;have e:=Pr (fz:=fz) T #[] t Bd Hl;cases Bd with
 | @pointer a a' ha=>
  cases a<;>cases a'<;>first|exact ha.elim|exact e|skip
  dsimp only;refine Ac _ (Ff ha) fun Br p p' Aw hp=>?_;obtain⟨b,l⟩:=p;obtain⟨b',l'⟩:=p';obtain⟨hb,hl⟩:=hp;dsimp only at hb hl;subst hl;dsimp only;refine Ac _ (Nl T #[] t (.pointer hb) (Hl.mono Aw)) fun Eo v v' AY hv=>?_;obtain⟨c,c',rfl,rfl,hc⟩:=hv;cases c<;>cases c'<;>first|exact hc.elim|skip
  .exact Ad (.pointer hc)
  .unfold asNumber
   exact Ac _ (Hg (.number _ hc)) fun _ _ _ _ hr=>Ad (.pointer ⟨hr,rfl,rfl⟩)
 |Ew h=>exact Ae
 |_=>exact e
def Ps (hT:Twins P' P)(hB:Base P ρ){a b:Addr}(ha:AR ρ a a')(hb:AR ρ b b'):Am P' P fz Gf ρ (Zd0 a b) (Zd0 a' b'):=by
 unfold Zd0;have e:(a.block !=b.block)=(a'.block !=b'.block):=by simp only[bne,AR.Rw ha hb]
 refine Ac _ C2 fun σ p p' hle hp=>?_;obtain⟨rfl,rfl⟩:=hp;have hbs:=AR.base (hB.mono hle) (ha.mono hle);have e2:decide (a.block>=P'.globals.size)=decide (a'.block>=P.globals.size):=by
  rw[hT.tables];simp only[ge_iff_le, <-Nat.not_lt,hbs]
 dsimp only;rw[e,e2];refine Gg (fun _=>.bad trivial) fun _=>?_;refine Ac _ (Hk hT (ha.mono hle)) fun Br x x' Co hx=>?_;cases hx;refine Ac _ (Hk hT (hb.mono (Ren.le_trans hle Co))) fun Eo y y' Fv hy=>?_;cases hy;exact Ad rfl
def jg (T:Twins P' P)(hB:Base P ρ)(k:IntKind){a b:Addr}(ha:AR ρ a a')(hb:AR ρ b b'):Am P' P fz VR ρ (Op.addrSub k a b) (Op.addrSub k a' b'):=by
 unfold Op.addrSub;refine Ac _ (Ps T hB ha hb) fun σ p p' _ hp=>?_;cases hp;exact Ad (.int _ _)
def jh (T:Twins P' P)(hB:Base P ρ)(op:BinOp){a b:Addr}(ha:AR ρ a a')(hb:AR ρ b b'):Am P' P fz VR ρ (Op.addrCmp op a b) (Op.addrCmp op a' b'):=by
 unfold Op.addrCmp;refine Ac _ (Ps T hB ha hb) fun σ p p' _ hp=>?_;cases hp;dsimp only;split<;>first|exact Ad (.bool _)|exact Ai
def Uv (T:Twins P' P)(k:IntKind){a:Addr}(ha:AR ρ a a')(n:Int):Am P' P fz VR ρ (Op.addrMod k a n) (Op.addrMod k a' n):=by
 unfold Op.addrMod;refine Ac _ (Ng ha.1) fun σ s s' hle hs=>?_;cases hs;cases s with
 |none=>exact Ai
 |some s=>
  obtain⟨e,m⟩:=s;dsimp only;refine Ac _ (Cu T e) fun Br i i' Co hi=>?_;obtain⟨rfl,_⟩:=hi;refine Gg (fun _=>.bad trivial) fun _=>?_;refine Ac _ (Hk T (ha.mono (Ren.le_trans hle Co))) fun Eo x x' Fv hx=>?_;cases hx;exact Ad (.int _ _)
def RH (T:Twins P' P)(t:Zs)(hx:VR ρ x x')(hy:VR ρ y y'):Am P' P fz VR ρ (movedPointer t x y) (movedPointer t x' y'):=by
 unfold movedPointer;have e:∀σ,ρ.le σ->Am P' P fz VR σ (YP #[] t #[x,y]) (YP #[] t #[x',y']):=fun σ hσ=>Pr T #[] t (hx.mono hσ) (hy.mono hσ);cases hx with
 | @pointer a a' ha=>
  cases a<;>cases a'<;>first|exact ha.elim|exact e _ (Ren.le_refl _)|skip
  dsimp only;refine Ac _ (Rx ha.1) fun σ s s' hle hs=>?_;rcases hs with⟨rfl,rfl⟩|⟨u,v,l,rfl,rfl,_⟩
  .exact e σ hle
  .exact .bad trivial
 |Ew h=>exact Ae
 |_=>exact e _ (Ren.le_refl _)
end
section
variable {P' P:Zo}{fz:Prop}{ρ:Ren}
def Nm {Q:Ren->α->β->Prop}{a:Addr}(ha:AR ρ a a'){f:Addr×Bool->Sem α}{f':Addr×Bool->Sem β}(hf:∀σ b b' l,ρ.le σ->AR σ b b'->Am P' P fz Q σ (f (b,l)) (f' (b',l))):
  Am P' P fz Q ρ (ZbP a>>=f) (ZbP a'>>=f'):=
 Ac _ (Ff ha) fun σ p p' hle hp=>by
  obtain⟨b,l⟩:=p;obtain⟨b',l'⟩:=p';obtain⟨h1,h2⟩:=hp;dsimp only at h1 h2;subst h2;exact hf σ b b' l hle h1
def JH (op:BinOp)(t:Zs)(a b:ByteArray):binOp op t (.string a) (.string b)=ZcJ op a b:=by cases op<;>rfl
def c9 (T:Twins P' P)(hB:Base P ρ)(op:BinOp)(t:Zs)(hop:op≠ .eql/\op≠ .neq)(hx:VR ρ x x')(hy:VR ρ y y'):Am P' P fz VR ρ (binOp op t x y) (binOp op t x' y'):=by
 cases hx with
 |int k a=>
  cases hy with
  |int k' b=>
   cases op<;>first|exact absurd rfl hop.1|exact absurd rfl hop.2|skip
   all_goals unfold binOp
   all_goals first
    |exact sG T hB _ _ _ _ _
    |(dsimp only;refine Gg (fun _=>Ae) fun _=>?_)
   all_goals first|exact RE _ _ _ _|exact nw T hB _ _ _ _|exact Uu _ _ _ _|exact RF _ _ _
  | @pointer b b' hb=>
   cases op<;>first|exact absurd rfl hop.1|exact absurd rfl hop.2|skip
   all_goals unfold binOp
   all_goals first
    |exact IA T t (.pointer hb) (.int k a)
    |exact Ai
    |skip
   all_goals cases b<;>cases b'<;>first|exact hb.elim|exact Ai|skip
   all_goals exact Nm hb fun σ c c' l _ hc=>Uv T k hc _
  |_=>cases op<;>first|exact absurd rfl hop.1|exact absurd rfl hop.2|exact Ae
 | @pointer a a' ha=>
  cases hy with
  |int k b=>
   cases op<;>first|exact absurd rfl hop.1|exact absurd rfl hop.2|skip
   all_goals unfold binOp
   all_goals first
    |exact Ai
    |exact IA T t (.pointer ha) (.int k _)
    |skip
   case add=>
    refine Ac _ (Aq T t) fun σ d d' hle hd=>?_;obtain⟨rfl,_⟩:=hd;refine Gg (fun _=>?_) fun _=>?_
    .exact RH T t ((VR.pointer ha).mono hle) (.int k b)
    exact IA T t ((VR.pointer ha).mono hle) (.int k b)
   all_goals cases a<;>cases a'<;>first|exact ha.elim|exact Ai|skip
   all_goals exact Nm ha fun σ c c' l _ hc=>Uv T k hc _
  | @pointer b b' hb=>
   cases op<;>first|exact absurd rfl hop.1|exact absurd rfl hop.2|skip
   all_goals unfold binOp
   all_goals first|exact Ai|skip
   all_goals cases a<;>cases a'<;>first|exact ha.elim|exact Ai|skip
   all_goals cases b<;>cases b'<;>first|exact hb.elim|exact Ai|skip
   all_goals refine Nm ha fun σ c c' l BO hc=>Nm (AR.mono BO hb) fun Br d d' m Co hd=>?_
   all_goals first|exact jg T (hB.mono (Ren.le_trans BO Co)) _ (hc.mono Co) hd|exact jh T (hB.mono (Ren.le_trans BO Co)) _ (hc.mono Co) hd
  |_=>(cases a<;>cases a'<;>first|exact ha.elim|skip)<;>(cases op<;>first|exact absurd rfl hop.1|exact absurd rfl hop.2|exact Ai)
 |string a=>
  cases hy with
  |string b=>cases op<;>first|exact absurd rfl hop.1|exact absurd rfl hop.2|(rw[JH];exact Ho _ _ _)
  |pointer hb=>cases op<;>first|exact absurd rfl hop.1|exact absurd rfl hop.2|exact Ai
  |_=>cases op<;>first|exact absurd rfl hop.1|exact absurd rfl hop.2|exact Ae
 |_=>
  cases hy with
  |pointer hb=>cases op<;>first|exact absurd rfl hop.1|exact absurd rfl hop.2|exact Ai
  |_=>cases op<;>first|exact absurd rfl hop.1|exact absurd rfl hop.2|exact Ae
def VE (Q:Zo)(t:Zs)(x y:Zf)(h:x=.tuple #[]\/y=.tuple #[]):∀(w:Zb) (es:Array Z9),∃z u f,(Zaa t x y).runT Q w es=(.halt z u,f)/\GY z:=by
 intro w es;have e:Zaa t x y=ZaZ (9999+1) t x y:=rfl;rw[e,ZaZ];show∃z u f,((underlying t).bind _).runT Q w es=(.halt z u,f)/\GY z;rw[ze];have hu:(∃d,(underlying t).runT Q w es=(.ok d w,es))\/∃z,(underlying t).runT Q w es=(.halt z w,es)/\GY z:=by
  cases hq:Q.underlying t with
  |none=>exact .inr ⟨.stuck "no such type",by unfold underlying;simp[-zh,bind,Zb8,program,ZI,hq,stuck],trivial⟩
  |some d=>exact .inl ⟨d,by unfold underlying;simp[-zh,bind,Zb8,program,ZI,hq,pure]⟩
 rcases hu with⟨d,hd⟩|⟨z,hz,hd⟩
 .rw[hd]
  dsimp only;rcases h with rfl|rfl
  all_goals
   split
   all_goals first|exact⟨_,_,_,rfl,trivial⟩|(exfalso;simp_all;done)
 rw[hz];exact⟨_,_,_,rfl,hd⟩
def sI (T:Twins P' P)(hB:Base P ρ)(m:Nat)(op:BinOp)(t:Zs)(hop:op=.eql\/op=.neq)
 (h:JF P m t=true\/((∃ms,P.underlying t=some (.interface ms))/\(x=.nilIface\/y=.nilIface))) (hx:VR ρ x x') (hy:VR ρ y y'):Am P' P fz VR ρ (binOp op t x y) (binOp op t x' y'):=by
 have key:Am P' P fz Gf ρ (Zaa t x y) (Zaa t x' y'):=by
  rcases h with h|⟨hi,hn⟩
  .exact Rz T m t hB h hx hy
  exact cZ T t hx hy hn hi
 have e1:Am P' P fz VR ρ (Zaa t x y>>=fun b=>pure (.bool b)) (Zaa t x' y'>>=fun b=>pure (.bool b)):=Ac _ key fun _ _ _ _ hb=>by cases hb;exact Ad (.bool _)
 have e2:Am P' P fz VR ρ (Zaa t x y>>=fun b=>pure (.bool !b)) (Zaa t x' y'>>=fun b=>pure (.bool !b)):=Ac _ key fun _ _ _ _ hb=>by cases hb;exact Ad (.bool _)
 clear key h;by_cases hw:x=.tuple #[]\/y=.tuple #[]
 .have hd:=VE P' t x y hw
  rcases hop with rfl|rfl
  .have e:binOp .eql t x y=(Zaa t x y).bind fun b=>pure (.bool b):=by rcases hw with rfl|rfl<;>first|(cases y<;>rfl)|(cases x<;>rfl)
   rw[e];exact .He (Ku hd _)
  have e:binOp .neq t x y=(Zaa t x y).bind fun b=>pure (.bool !b):=by rcases hw with rfl|rfl<;>first|(cases y<;>rfl)|(cases x<;>rfl)
  rw[e];exact .He (Ku hd _)
 rcases hop with rfl|rfl
 .cases hx with
  |int k a=>
   cases hy with
   |int k' b=>
    unfold binOp;exact Gg (fun _=>Ae) fun _=>RF _ _ _
   |Ew h=>exact absurd (.inr rfl) hw
   |_=>exact e1
  |string a=>
   cases hy with
   |string b=>rw[JH];exact Ho _ _ _
   |Ew h=>exact absurd (.inr rfl) hw
   |_=>exact e1
  |Ew h=>exact absurd (.inl rfl) hw
  |_=>cases hy<;>first|exact e1|exact absurd (.inr rfl) hw
 .cases hx with
  |int k a=>
   cases hy with
   |int k' b=>
    unfold binOp;exact Gg (fun _=>Ae) fun _=>RF _ _ _
   |Ew h=>exact absurd (.inr rfl) hw
   |_=>exact e2
  |string a=>
   cases hy with
   |string b=>rw[JH];exact Ho _ _ _
   |Ew h=>exact absurd (.inr rfl) hw
   |_=>exact e2
  |Ew h=>exact absurd (.inl rfl) hw
  |_=>cases hy<;>first|exact e2|exact absurd (.inr rfl) hw
def Mj:∀(m:Nat) (d:Nat) (t:Zs),m<=d->JF P m t=true->P.eqGuardType d t=false
 |0,_,_,_,h=>by cases h
 |m+1,0,_,hd,_=>by omega
 |m+1,d+1,t,hd,h=>by
  unfold JF at h;unfold Zdy;cases hu:P.underlying t with
  |none=>rfl
  |some x=>
   rw[hu]at h;cases x with
   |struct fs=>
    dsimp only at h⊢;rw[zS]at h;rw[Bool.eq_false_iff];intro hx;rw[Array.any_eq_true']at hx;obtain⟨f,hf,hb⟩:=hx;rw[Mj m d f.type (by omega) (h f hf),Bool.and_false]at hb;cases hb
   |array n e=>exact Mj m d e (by omega) h
   |interface ms=>cases h
   |_=>rfl
def Ky (T:Twins P' P):∀(d:Nat) (t:Zs),P'.eqGuardType d t=P.eqGuardType d t
 |0,_=>rfl
 |d+1,t=>by
  unfold Zdy;rw[T.yE];cases P.underlying t with
  |none=>rfl
  |some x=>cases x<;>simp only[Ky T d]
def ji (T:Twins P' P)(m:Nat)(hm:m<=P.depth)(op:BinOp)(t:Zs)(u v:Zbv)(h:(op=.eql\/op=.neq)->JF P m t=true\/(∃c,(u=.const c/\c=x/\x=.nilIface)\/(v=.const c/\c=y/\y=.nilIface)))
 (hx:VR ρ x x') (hy:VR ρ y y'):Am P' P fz Gf ρ (eqGuard op t u v x y) (eqGuard op t u v x' y'):=by
 unfold eqGuard;refine Gg (fun _=>Ad rfl) fun hc=>?_;have hop:op=.eql\/op=.neq:=by cases op<;>first|exact .inl rfl|exact .inr rfl|exact absurd rfl hc
 replace h:=h hop;clear hc;cases hx with
 |nilIface=>
  cases hy with
  |nilIface=>
   dsimp only;refine Gg (fun _=>Ad rfl) fun _=>?_;refine Ac Gf ?_ fun σ b b' _ hb=>?_
   .unfold Op.maxDepth Op.eqGuardIn
    refine Ac _ (Aq T t) fun σ d d' hle hd=>?_;obtain⟨rfl,_⟩:=hd;cases d<;>exact Ad rfl
   .cases hb
    exact Gg (fun _=>Ai) fun _=>Ad rfl
  |Ew h=>cases y'<;>first|(cases h;done)|exact Ad rfl
  |_=>exact Ad rfl
 |agg hxc hxv=>
  cases hy with
  |agg hyc hyv=>
   dsimp only;rcases h with h|⟨c,⟨_,_,h⟩|⟨_,_,h⟩⟩
   .refine Ac _ C2 fun σ p p' hle hp=>?_
    obtain⟨rfl,rfl⟩:=hp;refine Ac _ C2 fun Br p p' Aw hp=>?_;obtain⟨rfl,rfl⟩:=hp;rw[Ky T,T.depth,Mj m P.depth t hm h];exact Ad rfl
   .cases h
   .cases h
  |Ew h=>cases y'<;>first|(cases h;done)|exact Ad rfl
  |_=>exact Ad rfl
 |Ew h=>cases x'<;>first|(cases h;done)|(cases hy<;>first|exact Ad rfl|(rename_i h2;cases y'<;>first|(cases h2;done)|exact Ad rfl))
 |_=>cases hy<;>first|exact Ad rfl|(rename_i h2;cases y'<;>first|(cases h2;done)|exact Ad rfl)
def da (P:Zo)(src dst:Zs):Bool:=
 match P.underlying src,P.underlying dst with
 |some (.int _),some (.int _)=>true
 |some (.slice e),some .string=>(match P.underlying e with|some (.int .u8)=>true|_=>false)
 |_,_=>false
def P8 (hx:VR ρ x x'):Am P' P fz VR ρ (Zat x) (Zat x'):=by
 unfold Zat;cases hx with
 | @slice a a' n c ha=>
  cases a<;>cases a'<;>first|exact ha.elim|skip
  .exact Ad (.string _)
  .dsimp only
   refine Ac _ (Kv ha n) fun σ z z' hle hz=>?_;refine Ac Gf (nd hz rfl fun τ u v b b' _ ny hb=>?_) fun τ s s' _ hs=>?_
   .cases hb
    cases ny with
    |int k m=>cases k<;>first|exact Ae|exact Ad (.yield rfl)
    |_=>exact Ae
   .cases hs;exact Ad (.string _)
 |_=>exact Ae
def jk (T:Twins P' P)(src dst:Zs)(h:da P src dst=true)(hx:VR ρ x x'):Am P' P fz VR ρ (convert src dst x) (convert src dst x'):=by
 unfold convert;refine Ac _ (Aq T src) fun σ d d' hle hd=>?_;obtain⟨rfl,hd⟩:=hd;refine Ac _ (Aq T dst) fun Br e e' Aw he=>?_;obtain⟨rfl,he⟩:=he;have Bd:=hx.mono (Ren.le_trans hle Aw);unfold da at h;rw[hd,he]at h;cases d with
 |int k=>
  cases e with
  |int k'=>
   cases Bd with
   |int k n=>exact Ad (.int _ _)
   | @pointer a a' ha=>cases a<;>cases a'<;>first|exact ha.elim|exact Ai
   |_=>exact Ai
  |_=>cases h
 |slice el=>
  cases e with
  |string=>
   have rest:Am P' P fz VR Br (underlying el>>=fun u=>match u with
     | .int .u8=>Zat x
     | .int .i32=>Conv.runesToString x
     |_=>stuck "Convert: a slice of what to string?") (underlying el>>=fun u=>match u with
     | .int .u8=>Zat x'
     | .int .i32=>Conv.runesToString x'
     |_=>stuck "Convert: a slice of what to string?"):=by
    refine Ac _ (Aq T el) fun Eo u u' AY hu=>?_;obtain⟨rfl,hu⟩:=hu;dsimp only at h;rw[hu]at h;cases u with
    |int k=>cases k<;>first|exact P8 (Bd.mono AY)|cases h
    |_=>cases h
   cases Bd with
   |int k n=>exact Ad (.string _)
   |string s=>exact Ad (.string _)
   | @slice a a' n c ha=>cases a<;>cases a'<;>first|exact ha.elim|exact rest
   | @pointer a a' ha=>cases a<;>cases a'<;>first|exact ha.elim|exact rest
   |Ew hw=>cases x'<;>first|(cases hw;done)|exact rest|(rename_i a;cases a<;>first|(cases hw;done)|exact rest)|(rename_i a _ _;cases a<;>first|(cases hw;done)|exact rest)
   |_=>exact rest
  |_=>cases h
 |_=>cases h
end
section
variable {P' P:Zo}{fz:Prop}{ρ:Ren}
def yN (hx:VR ρ x x')(hy:VR ρ y y'):Am P' P fz VR ρ (Zc8 x y) (Zc8 x' y'):=by
 unfold Zc8;cases hx with
 |int k a=>
  cases hy with
  |int k' b=>exact Ad (.int _ _)
  | @pointer b b' hb=>cases b<;>cases b'<;>first|exact hb.elim|exact Ai|exact Ae
  |_=>exact Ae
 |string a=>
  cases hy with
  |string b=>
   dsimp only;refine Ac _ (Ho _ _ _) fun σ u v _ ny=>?_;refine Ac _ (Ru ny) fun Br u v _ ny=>?_;cases ny;exact Ad (.string _)
  | @pointer b b' hb=>cases b<;>cases b'<;>first|exact hb.elim|exact Ai|exact Ae
  |_=>exact Ae
 | @pointer a a' ha=>
  cases a<;>cases a'<;>first|exact ha.elim|skip
  .cases hy with
   | @pointer b b' hb=>cases b<;>cases b'<;>first|exact hb.elim|exact Ai|exact Ae
   |_=>exact Ae
  .cases hy<;>exact Ai
 |_=>
  cases hy with
  | @pointer b b' hb=>cases b<;>cases b'<;>first|exact hb.elim|exact Ai|exact Ae
  |_=>exact Ae
def XF {f g:Zf->Zf->Sem Zf}(hf:∀ρ x x' y y',VR ρ x x'->VR ρ y y'->Am P' P fz VR ρ (f x y) (g x' y')):∀ {l l':List Zf} {ρ:Ren} {x x':Zf},VR ρ x x'->Ep (VR ρ) l l'->Am P' P fz VR ρ (l.foldlM f x) (l'.foldlM g x'):=by
 intro l
 induction l with
 |nil=>intro l' ρ x x' hx hl;cases hl;exact Ad hx
 |cons y l ih=>
  intro l' ρ x x' hx hl;cases hl with
  |cons hy ht=>
   rw[List.foldlM_cons,List.foldlM_cons];exact Ac _ (hf ρ _ _ _ _ hx hy) fun σ u v hle ny=>ih ny (ht.mono fun _ _=>VR.mono hle)
def aed (at_:Array Zs)(t:Zs){a':Array Zf}(h:BS ρ a a'):Am P' P fz VR ρ (Zc7 at_ t a) (Zc7 at_ t a'):=by
 unfold Zc7;have hl:=h.list;generalize a.toList=l at hl⊢;generalize a'.toList=l' at hl⊢;cases hl with
 |nil=>exact Ae
 |cons hx ht=>exact XF (fun _ _ _ _ _=>yN) hx ht
def yO (hx:VR ρ x x')(hy:VR ρ y y'):Am P' P fz VR ρ (Zc6 x y) (Zc6 x' y'):=by
 unfold Zc6;cases hx with
 |int k a=>
  cases hy with
  |int k' b=>exact Ad (.int _ _)
  | @pointer b b' hb=>cases b<;>cases b'<;>first|exact hb.elim|exact Ai|exact Ae
  |_=>exact Ae
 |string a=>
  cases hy with
  |string b=>
   dsimp only;refine Ac _ (Ho _ _ _) fun σ u v _ ny=>?_;refine Ac _ (Ru ny) fun Br u v _ ny=>?_;cases ny;exact Ad (.string _)
  | @pointer b b' hb=>cases b<;>cases b'<;>first|exact hb.elim|exact Ai|exact Ae
  |_=>exact Ae
 | @pointer a a' ha=>
  cases a<;>cases a'<;>first|exact ha.elim|skip
  .cases hy with
   | @pointer b b' hb=>cases b<;>cases b'<;>first|exact hb.elim|exact Ai|exact Ae
   |_=>exact Ae
  .cases hy<;>exact Ai
 |_=>
  cases hy with
  | @pointer b b' hb=>cases b<;>cases b'<;>first|exact hb.elim|exact Ai|exact Ae
  |_=>exact Ae
def aee (at_:Array Zs)(t:Zs){a':Array Zf}(h:BS ρ a a'):Am P' P fz VR ρ (Zc5 at_ t a) (Zc5 at_ t a'):=by
 unfold Zc5;have hl:=h.list;generalize a.toList=l at hl⊢;generalize a'.toList=l' at hl⊢;cases hl with
 |nil=>exact Ae
 |cons hx ht=>exact XF (fun _ _ _ _ _=>yO) hx ht
def sJ (T:Twins P' P)(hB:Base P ρ)(hx:VR ρ x x'):Am P' P fz VR ρ (Instr.panic x) (Instr.panic x'):=by
 unfold Instr.panic;cases hx with
 |iface t h=>exact Ej (.iface t h)
 |nilIface=>
  dsimp only;refine Ac Gf ?_ fun σ b b' hle hb=>?_
  .unfold Instr.panicnil
   refine Ac Gf (.env fun r=>.pure rfl) fun σ r r' _ hr=>?_;cases hr;cases r with
   |strings env=>
    dsimp only;refine Ac _ C2 fun Br p p' _ hp=>?_;obtain⟨rfl,rfl⟩:=hp;rw[T.tables];exact Ad rfl
   |_=>exact Ae
  .cases hb
   exact Gg (fun _=>Ej .nilIface) fun _=>AJ T (hB.mono hle) _
 |_=>exact Ae
inductive cH (σ:Ren):Next->Next->Prop
 |value {v v':Zf} (h:VR σ v v'):cH σ (.value v) (.value v')
 |skip:cH σ .skip .skip
 |enter {f:ZaQ} {a a':Array Zf} (hf:σ.ok f=true\/σ.ok.dir f a.size=true) (h:BS σ a a'):cH σ (.enter f a) (.enter f a')
 |round {l l':Nat} (hl:σ l=some l') {f:ZaQ} (hf:σ.ok.Nc f=true/\σ.sp f=false) {t t':Array Zf} (ht:BS σ t t') {as b:Code} (has:σ.good as=true) (hb:σ.good b=true):cH σ (.round l f t as b) (.round l' f t' as b)
structure CE (P' P:Zo)(ok:Pk):Prop where
 has:∀f,(ok f=true\/∃n,ok.dir f n=true)->∃fn Qt,P'.funcs[f]?=some fn/\P.funcs[f]?=some Qt/\fn.body.isSome=true/\Qt.body.isSome=true/\(fn.name== "runtime.NumGoroutine")=false/\(Qt.name== "runtime.NumGoroutine")=false
variable {f:ZaQ}
def RI (S:CE P' P ρ.ok)(hf:ρ.ok f=true\/ρ.ok.dir f a.size=true){a':Array Zf}(h:BS ρ a a'):Am P' P fz cH ρ (Zz f a) (Zz f a'):=by
 unfold Zz;obtain⟨fn,Qt,e1,e2,b1,b2,n1,n2⟩:=S.has f (hf.imp id fun h=>⟨_,h⟩);refine Ac _ C2 fun σ p p' hle hp=>?_;obtain⟨rfl,rfl⟩:=hp;rw[e1,e2];have c1:fn.body.isNone=false:=by rw[ZcB];exact b1
 have c2:Qt.body.isNone=false:=by rw[ZcB];exact b2
 dsimp only;rw[n1,n2,c1,c2];exact Ad (.enter (by rw[hle.2.1];exact hf) (BS.mono hle h))
variable {l l' i n r r' N:Nat}
def I2 (h:ρ l=some l'):Am P' P fz LpR ρ (Zc1 l) (Zc1 l'):=by
 unfold Zc1;refine Ac _ (C6 h) fun σ o o' _ ho=>?_;cases ho with
 |loop hl=>exact Ad hl
 |_=>exact Ae
variable {as:Code}
def XG {fn:ZaQ}(G9:ρ.ok.Nc fn=true/\ρ.sp fn=false)(ht:BS ρ t t')(ps:Array Tmp){b:Code}(has:ρ.good as=true)(hb:ρ.good b=true){ar ar':Option Nat}(vQ:Rq ρ ar ar'):
  Am P' P fz (fun σ p p'=>σ p.1=some p'.1/\Ep (fM σ) p.2 p'.2) ρ (Zad fn t ps as b ar) (Zad fn t' ps as b ar'):=by
 unfold Zad;have tail:∀σ (p p':Nat×List Deferred),ρ.le σ->σ p.1=some p'.1->Ep (fM σ) p.2 p'.2->
   Am P' P fz (fun σ p p'=>σ p.1=some p'.1/\Ep (fM σ) p.2 p'.2) σ
    (newObj (.loop {state:=.ready,pending:=none,fn,tmps:=t,params:=ps,assign:=as,body:=b,defers:=p.1})>>=fun r=>pure (r,p.2))
    (newObj (.loop {state:=.ready,pending:=none,fn,tmps:=t',params:=ps,assign:=as,body:=b,defers:=p'.1})>>=fun r=>pure (r,p'.2)):=by
  intro σ p p' hle hd hm;refine Ac _ (Hg (.loop ⟨rfl,rfl,rfl,BS.mono hle ht,rfl,rfl,rfl,by rw[hle.2.1,hle.2.2.2];exact G9,⟨by rw[hle.2.2.1];exact has,by rw[hle.2.2.1];exact hb,fun _ h=>(by cases h)⟩,hd⟩)) fun τ r r' Df hr=>Ad ⟨hr,hm.mono fun _ _=>fM.mono Df⟩
 cases ar<;>cases ar'<;>first|exact vQ.elim|skip
 .dsimp only
  refine Ac _ (Hg .deferred) fun σ r r' hle hr=>?_;exact Ac (fun σ p p'=>σ p.1=some p'.1/\Ep (fM σ) p.2 p'.2) (Ad ⟨hr,.cons (.mk hr) .nil⟩) fun τ p p' Df hp=>tail τ p p' (Ren.le_trans hle Df) hp.1 hp.2
 dsimp only;refine Ac _ (I2 vQ) fun σ l l' hle hl=>?_;exact Ac (fun σ p p'=>σ p.1=some p'.1/\Ep (fM σ) p.2 p'.2) (Ad ⟨hl.defers,.nil⟩) fun τ p p' Df hp=>tail τ p p' (Ren.le_trans hle Df) hp.1 hp.2
def sK (h:ρ l=some l'){a':Array Zf}(ha:BS ρ a a'):Am P' P fz cH ρ (ZdL l a) (ZdL l' a'):=by
 unfold ZdL;refine Ac _ (I2 h) fun σ r r' hle hr=>?_;rw[hr.params,ha.1];refine Gg (fun _=>.bad trivial) fun _=>?_;rw[hr.fn,hr.assign,hr.body];refine Ad (.round (hle.1 _ _ h) hr.run ?_ hr.fine.1 hr.fine.2.1);have hal:=(BS.mono hle ha).list;have key:∀(ps:List Tmp) {l l':List Zf},Ep (VR σ) l l'->∀ {t t':Array Zf},BS σ t t'->BS σ ((ps.zip l).foldl (fun ts (x:Tmp×Zf)=>ts.setIfInBounds x.1 x.2) t) ((ps.zip l').foldl (fun ts (x:Tmp×Zf)=>ts.setIfInBounds x.1 x.2) t'):=by
  intro ps
  induction ps with
  |nil=>intro l l' _ t t' ht;exact ht
  |cons p ps ih=>intro l l' hl t t' ht;cases hl with
   |nil=>exact ht
   |cons hx cI=>exact ih cI (ht.set hx p)
 have e:∀(b:Array Zf) (ts:Array Zf),(r.params.zip b).foldl (fun tmps (x:Tmp×Zf)=>match x with|(t,a)=>tmps.setIfInBounds t a) ts=(r.params.toList.zip b.toList).foldl (fun ts (x:Tmp×Zf)=>ts.setIfInBounds x.1 x.2) ts:=by
  intro b ts;rw[<-Zb0,Array.toList_zip]
 rw[e,e];exact key _ hal hr.tmps
def VF (T:Twins P' P)(hB:Base P ρ)(h:ρ l=some l'):Am P' P fz Gf ρ (ZaC l) (ZaC l'):=by
 unfold ZaC;refine Ac _ (I2 h) fun σ r r' hle hr=>?_;refine Ac _ (D6 (hle.1 _ _ h) (.loop {hr with state:=rfl})) fun τ _ _ Df _=>?_;rw[hr.state];split
 .exact Ad rfl
 all_goals exact AJ T (hB.mono (Ren.le_trans hle Df)) _
def db (h:ρ l=some l')(j:Option Code)(hj:∀c,j=some c->ρ.good c=true):Am P' P fz VR ρ (ZaU l j) (ZaU l' j):=by
 unfold ZaU;refine Ac _ (I2 h) fun σ r r' hle hr=>?_;refine Ac _ (D6 (hle.1 _ _ h) (.loop {hr with state:=rfl,pending:=rfl,fine:=⟨hr.fine.1,hr.fine.2.1,by rw[hle.2.2.1];exact hj⟩})) fun τ _ _ Df _=>?_;exact Ad (.bool _)
def jl (T:Twins P' P)(hB:Base P ρ)(h:ρ l=some l'):Am P' P fz (fun σ j j'=>j=j'/\∀c,j=some c->σ.good c=true) ρ (ZaD l) (ZaD l'):=by
 unfold ZaD;refine Ac _ (I2 h) fun σ r r' hle hr=>?_;rw[hr.state];refine Gg (fun _=>DG T (hB.mono hle) _) fun _=>?_;refine Ac _ (D6 (hle.1 _ _ h) (.loop {hr with state:=rfl})) fun τ _ _ Df _=>?_;rw[hr.pending];exact Ad ⟨rfl,by rw[Df.2.2.1];exact hr.fine.2.2⟩
def RJ {b b':Nat}(h:ρ b=some b'):Am P' P fz (fun _ l l'=>l=[]/\l'=[]) ρ (Yw b) (Yw b'):=by
 unfold Yw;refine Ac _ (C6 h) fun σ o o' hle ho=>?_;cases ho with
 |deferred=>exact Ac _ (D6 (hle.1 _ _ h) .Fe) fun τ _ _ Df _=>Ad ⟨rfl,rfl⟩
 |_=>exact Ae
def jm (T:Twins P' P)(hB:Base P ρ){b:Builtin}(hb:okB b=true)(at_:Array Zs)(t:Zs)(c:Array Bool){a':Array Zf}(h:BS ρ a a'):Am P' P fz cH ρ (builtin b at_ t c a) (builtin b at_ t c a'):=by
 have v:∀ {s s':Sem Zf},Am P' P fz VR ρ s s'->Am P' P fz cH ρ (s>>=fun x=>pure (.value x)) (s'>>=fun x=>pure (.value x)):=fun h=>Ac _ h fun _ _ _ _ hv=>Ad (.value hv);unfold builtin;cases b<;>first|cases hb|skip
 .exact v (nv T hB at_ t h)
 .exact v (ae9 T at_ t h)
 .exact v (yL T at_ t h)
 .exact v (ae8 T at_ t h)
 .exact v (aed at_ t h)
 exact v (aee at_ t h)
def XH (T:Twins P' P)(hB:Base P ρ)(S:CE P' P ρ.ok){t t':Target}(ht:TgR ρ t t'){a':Array Zf}(h:BS ρ a a'):Am P' P fz cH ρ (invoke t a) (invoke t' a'):=by
 unfold invoke;cases ht with
 |nil=>exact AJ T hB _
 |builtin hb at_ t c=>exact jm T hB hb at_ t c h
 |collected hr=>exact Ae
 |fn hf hc=>
  cases hf with
  |func hf=>exact RI S (.inl hf) (h.append hc)
  |yield hl=>exact sK hl h
end
def Pt:Nat->Zf->Bool
 |0,_=>false
 |n+1,v=>match v with
  | .bool _| .int _ _| .string _| .nilFunc| .nilIface| .pointer none| .slice none _ _| .map none| .chan none=>true
  | .agg cs=>cs.all (Pt n)
  | .tuple cs=>cs.all (Pt n)
  | .iface _ v=>Pt n v
  |_=>false
def Ln:∀(n:Nat) {v:Zf} {ρ:Ren},Pt n v=true->VR ρ v v
 |0,_,_,h=>by cases h
 |n+1,v,ρ,h=>by
  have all:∀cs:Array Zf,cs.all (Pt n)=true->BS ρ cs cs:=by
   intro cs hc;refine⟨rfl,fun i x y hx hy=>?_⟩;rw[hx]at hy;cases hy;rw[zS]at hc;exact Ln n (hc x (zY hx))
  cases v with
  |bool b=>exact .bool b
  |int k m=>exact .int k m
  |string s=>exact .string s
  |nilFunc=>exact .nilFunc
  |nilIface=>exact .nilIface
  |pointer a=>cases a with
   |none=>exact .pointer trivial
   |some a=>cases h
  |slice a l c=>cases a with
   |none=>exact .slice l c trivial
   |some a=>cases h
  |map r=>cases r with
   |none=>exact .map trivial
   |some a=>cases h
  |chan r=>cases r with
   |none=>exact .chan trivial
   |some a=>cases h
  |agg cs=>exact .P6 (all cs h)
  |tuple cs=>exact .tuple' (all cs h)
  |iface t v=>exact .iface t (Ln n h)
  |_=>cases h
def jo (_G:Nat)(ok:Pk)(dead:Nat->Bool):Zbv->Bool
 | .tmp t=> !dead t
 | .const v=>Pt 8 v
 | .global _=>false
 | .func f=>ok f
def okC (G:Nat)(ok:Pk)(dead:Nat->Bool)(c:Call):Bool:=
 (match c.callee with| .value (.func f)=>ok.dir f c.args.size| .value f=>jo G ok dead f| .builtin b=>okB b| .invoke _ _=>false)&&c.args.all (jo G ok dead)
def Kz:Zbv->Bool
 | .const .nilIface=>true
 |_=>false
def BP:Nat:=12
def XI (P:Zo)(t:Zs):Bool:=match P.underlying t with|some (.map k _)=>Xx P BP k|_=>true
def sL (P:Zo)(ok:Pk)(dead:Nat->Bool)(op:Op):Bool:=
 let G:=P.globals.size
 let X:=jo G ok dead
 match op with
 | .move x| .assign x| .box _ x| .load _ x| .nilCheck x| .unOp _ _ x| .makeInterface _ x| .fieldAddr _ x _| .field _ x _| .range _ x| .next x _| .extract x _| .panic x| .typeAssert x _ _ _=>X x
 | .pick c a b=>X c&&X a&&X b
 | .alloc _=>true
 | .build _ ps| .buildSlice _ _ ps=>ps.all fun p=>X p.2
 | .store _ a v| .makeSlice _ a v| .indexAddr _ a v| .index _ a v=>X a&&X v
 | .binOp op t x y _=>X x&&X y&&(match op with
  | .eql| .neq=>JF P BP t||((match P.underlying t with|some (.interface _)=>true|_=>false)&&(Kz x||Kz y))
  |_=>true)
 | .convert s d x=>X x&&da P s d
 | .makeFunc f a c=>(match f with| .func f=>ok f|_=>false)&&a.all X&&c.all X
 | .makeMap _ r=>r.all X
 | .slice _ x l h m=>X x&&l.all X&&h.all X&&m.all X
 | .lookup t x i _=>X x&&X i&&XI P t
 | .mapUpdate t m k v| .insert t m k v=>X m&&X k&&X v&&XI P t
 | .mapEntry t m k=>X m&&X k&&XI P t
 | .entryStore _ m s v=>X m&&X s&&X v
 | .call c=>okC G ok dead c
 |_=>false
section
variable {P' P:Zo}{fz:Prop}{ρ:Ren}
structure Pu (dead:Nat->Bool)(ρ:Ren)(a b:Array Zf):Prop where
 size:a.size=b.size
 at_:∀(i:Nat) x y,dead i=false->a[i]?=some x->b[i]?=some y->VR ρ x y
def Pu.getD {dead:Nat->Bool}{a b:Array Zf}(h:Pu dead ρ a b)(i:Nat)(hd:dead i=false):VR ρ (a.getD i Ze) (b.getD i Ze):=by
 rw[Yp,Yp];cases hx:a[i]? with
 |none=>
  have:b[i]?=none:=by rw[ZaW]at*;rw[<-h.size];exact hx
  rw[this];exact VR.undef ρ
 |some x=>
  obtain⟨hi,_⟩:=Za.1 hx;have DN:i<b.size:=h.size▸hi;rw[Zx DN];exact h.at_ i _ _ hd hx (Zx DN)
variable {dead:Nat->Bool}
def Pu.mono (hle:ρ.le σ)(h:Pu dead ρ a b):Pu dead σ a b:=⟨h.size,fun i x y hd hx hy=>(h.at_ i x y hd hx hy).mono hle⟩
def Pu.of (h:BS ρ a b):Pu dead ρ a b:=⟨h.1,fun i x y _ hx hy=>h.2 i x y hx hy⟩
def Pu.all (h:Pu (fun _=>false) ρ a b):BS ρ a b:=⟨h.size,fun i x y hx hy=>h.at_ i x y rfl hx hy⟩
def Pu.set (h:Pu dead ρ a b)(hr:VR ρ x y)(j:Nat):Pu dead ρ (a.setIfInBounds j x) (b.setIfInBounds j y):=by
 refine⟨by simp[h.size],fun i u v hd hu hv=>?_⟩;rw[Z5]at hu hv;rw[h.size]at hu;split at hu
 .rw[if_pos ‹_›]at hv
  split at hu
  .rw[if_pos ‹_›]at hv;cases hu;cases hv;exact hr
  rw[if_neg ‹_›]at hv;cases hu
 rw[if_neg ‹_›]at hv;exact h.at_ i u v hd hu hv
variable {c fr Bx KA:ZM}
def Ml (_hB:Base P ρ)(ht:Pu dead ρ fr.tmps Bx.tmps){x:Zbv}(h:jo P.globals.size ρ.ok dead x=true):VR ρ (fr.eval x) (Bx.eval x):=by
 unfold Zeb;cases x with
 |tmp t=>exact ht.getD t (by simpa[jo]using h)
 |const v=>exact Ln 8 h
 |global g=>cases h
 |func f=>exact .Xq (.func h) Bz.nil Bz.nil
def Qv (hB:Base P ρ)(ht:Pu dead ρ fr.tmps Bx.tmps){xs:Array Zbv}(h:xs.all (jo P.globals.size ρ.ok dead)=true):BS ρ (xs.map fr.eval) (xs.map Bx.eval):=by
 rw[zS]at h;refine⟨by simp,fun i u v hu hv=>?_⟩;rw[zF,zc]at hu hv;obtain⟨x,hx,rfl⟩:=hu;obtain⟨y,hy,rfl⟩:=hv;rw[hx]at hy;cases hy;exact Ml hB ht (h x (zY hx))
def Qw (hB:Base P ρ)(ht:Pu dead ρ fr.tmps Bx.tmps){x:Option Zbv}(h:x.all (jo P.globals.size ρ.ok dead)=true):fO ρ (x.map fr.eval) (x.map Bx.eval):=by
 cases x with
 |none=>trivial
 |some x=>exact Ml hB ht h
def fY (hB:Base P ρ)(ht:Pu dead ρ fr.tmps Bx.tmps){ps:Array (Nat×Zbv)}(h:ps.all (fun p=>jo P.globals.size ρ.ok dead p.2)=true):
  Ep (vM ρ) (ps.map fun(i,x)=>(i,fr.eval x)).toList (ps.map fun(i,x)=>(i,Bx.eval x)).toList:=by
 rw[zS]at h;refine Bz.list ⟨by simp,fun i u v hu hv=>?_⟩;rw[zF,zc]at hu hv;obtain⟨x,hx,rfl⟩:=hu;obtain⟨y,hy,rfl⟩:=hv;rw[hx]at hy;cases hy;exact⟨rfl,Ml hB ht (h x (zY hx))⟩
def LY (Q:Zo)(t:Zs)(w:Zb)(es:Array Z9):(∃i,Q.info? t=some i/\(typeInfo t).runT Q w es=(.ok i w,es))\/∃z,(typeInfo t).runT Q w es=(.halt z w,es)/\GY z:=by
 cases hq:Q.info? t with
 |none=>exact .inr ⟨.stuck "no such type",by unfold typeInfo;simp[-zh,bind,Zb8,program,ZI,hq,stuck],trivial⟩
 |some i=>exact .inl ⟨i,rfl,by unfold typeInfo;simp[-zh,bind,Zb8,program,ZI,hq,pure]⟩
def RK (Q:Zo)(hl:∀i,Q.info? 0=some i->i.methods.find? (fun m=>m.name== "")=none)(a:Array Zf):∀(w:Zb) (es:Array Z9),∃z u g,((Yd vH a).bind fun d=>invoke d.target d.args).runT Q w es=(.halt z u,g)/\GY z:=by
 intro w es;have key:∀fuel,∃z u g,(method fuel 0 (.tuple #[]) "").runT Q w es=(.halt z u,g)/\GY z:=by
  intro fuel;cases fuel with
  |zero=>exact⟨_,_,_,rfl,trivial⟩
  |succ n=>
   unfold method;show∃z u g,((typeInfo 0).bind _).runT Q w es=(.halt z u,g)/\GY z;rw[ze];rcases LY Q 0 w es with⟨i,hi,h⟩|⟨z,h,hd⟩
   .rw[h]
    dsimp only;rw[hl i hi];exact⟨_,_,_,rfl,trivial⟩
   rw[h];exact⟨_,_,_,rfl,hd⟩
 have e:((Yd vH a).bind fun d=>invoke d.target d.args)=invoke (.fn (.method "") #[]) (#[.iface 0 (.tuple #[])]++a):=rfl;rw[e];have h0:(#[Value.iface 0 (.tuple #[])]++a)[0]?=some (.iface 0 (.tuple #[])):=by rw[zr (by simp)];rfl
 unfold invoke;dsimp only;rw[h0];unfold callMethod;dsimp only;show∃z u g,((program).bind fun p=>(method (p.types.size+ZcT) 0 (.tuple #[]) "").bind _).runT Q w es=_/\_;rw[ze];have hp:(program).runT Q w es=(.ok Q w,es):=rfl;rw[hp];dsimp only;rw[ze];obtain⟨z,u,g,h,hd⟩:=key (Q.types.size+ZcT);rw[h];exact⟨_,_,_,rfl,hd⟩
def Uw {f f':Zf}(hf:VR ρ f f')(BL:f≠vH){a':Array Zf}(h:BS ρ a a'):Am P' P fz DfR ρ (Yd f a) (Yd f' a'):=by
 unfold Yd;cases hf with
 |func hf ha yy hc Mi=>exact Ad ⟨.fn hf ⟨hc,Mi⟩,Bz.append ⟨ha,yy⟩ h⟩
 |nilFunc=>exact Ad ⟨.nil,h⟩
 |meth n f c=>exact absurd rfl BL
 |_=>exact Ae
def jq (hB:Base P ρ)(ht:Pu dead ρ fr.tmps Bx.tmps){c:Call}(h:okC P.globals.size ρ.ok dead c=true)(hnf:∀f,c.callee≠ .value (.func f))(yP:∀f,c.callee=.value f->fr.eval f≠vH)(t:Zs):Am P' P fz DfR ρ (Zbh fr.eval c t) (Zbh Bx.eval c t):=by
 unfold okC at h;rw[ZF]at h;obtain⟨h1,h2⟩:=h;have ha:=Qv hB ht h2;unfold Zbh;cases hc:c.callee with
 |value f=>
  rw[hc]at h1;refine Uw (Ml (x:=f) hB ht ?_) (yP f hc) ha;cases f with
  |func f=>exact absurd hc (hnf f)
  |_=>exact h1
 |builtin b=>
  rw[hc]at h1;exact Ad ⟨.builtin h1 _ _ _,ha⟩
 |invoke _ _=>rw[hc]at h1;cases h1
def Nn {t:Zs}(h:XI P t=true):∀k e,P.underlying t=some (.map k e)->Xx P BP k=true:=by
 intro k e hu;unfold XI at h;rw[hu]at h;exact h
def nz (T:Twins P' P)(hB:Base P ρ)(S:CE P' P ρ.ok)(hd:BP<=P.depth)(ht:Pu dead ρ fr.tmps Bx.tmps){o:Oper}(h:sL P ρ.ok dead o.op=true):DC P' P fz cH ρ (Zby fr.eval o) (Zby Bx.eval o):=by
 have v:∀ {s s':Sem Zf},Am P' P fz VR ρ s s'->Am P' P fz cH ρ (s>>=fun x=>pure (.value x)) (s'>>=fun x=>pure (.value x)):=fun h=>Ac _ h fun _ _ _ _ hv=>Ad (.value hv);have u:∀ {s s':Sem Unit},Am P' P fz Gf ρ s s'->Am P' P fz cH ρ (s>>=fun _=>pure .skip) (s'>>=fun _=>pure .skip):=fun h=>Ac _ h fun _ _ _ _ _=>Ad .skip;have E:∀ {x:Zbv},jo P.globals.size ρ.ok dead x=true->VR ρ (fr.eval x) (Bx.eval x):=fun h=>Ml hB ht h;have ok:∀ {s s':Sem Next},Am P' P fz cH ρ s s'->DC P' P fz cH ρ s s':=fun h=>h.ok;unfold Zby;cases ho:o.op<;>rw[ho]at h<;>first|cases h|(simp only[sL,ZF]at h;dsimp only)
 case move x=>exact ok (Ad (.value (E h)))
 case assign x=>exact ok (Ad (.value (E h)))
 case pick c a b=>
  refine ok ?_;refine Ac _ (Ru (E h.1.1)) fun σ b b' hle hb=>?_;cases hb;refine Ad (.value ?_);split
  .exact(E h.1.2).mono hle
  exact(E h.2).mono hle
 case alloc e=>exact ok (v (su T e))
 case box e x=>exact ok (v (ae0 e (E h)))
 case build t ps=>exact ok (v (sD T t (fY hB ht h)))
 case buildSlice t n ps=>exact ok (v (Vz T t n (fY hB ht h)))
 case load t a=>exact ok (v (m_ T t (E h)))
 case store t a x=>exact ok (u (i_ T t (E h.1) (E h.2)))
 case nilCheck x=>
  refine ok ?_;have hx:=E h;generalize fr.eval x=y at hx;generalize Bx.eval x=y' at hx;cases hx with
  | @pointer a a' ha=>
   cases a<;>cases a'<;>first|exact ha.elim|skip
   .exact AJ T hB _
   .exact Ad (.value (.pointer ha))
  |nilIface=>exact AJ T hB _
  |nilFunc=>exact AJ T hB _
  |func hf ha yy hc Mi=>
   cases hf with
   |func hf=>exact Ad (.value (.func (.func hf) ha yy hc Mi))
   |yield hl=>exact Ad (.value (.func (.yield hl) ha yy hc Mi))
  |bool b=>exact Ad (.value (.bool b))
  |int k n=>exact Ad (.value (.int k n))
  |string s=>exact Ad (.value (.string s))
  |slice n c x=>exact Ad (.value (.slice n c x))
  |map x=>exact Ad (.value (.map x))
  |chan x=>exact Ad (.value (.chan x))
  |iface t x=>exact Ad (.value (.iface t x))
  |agg hc hv=>exact Ad (.value (.agg hc hv))
  |tuple hc hv=>exact Ad (.value (.tuple hc hv))
  |Ew h=>
   cases y' with
   |pointer a=>cases a with
    |none=>cases h
    |some a=>exact Ad (.value (.Ew h))
   |func f a c=>cases f with
    |method n=>cases h
    |_=>exact Ad (.value (.Ew h))
   |nilIface=>cases h
   |nilFunc=>cases h
   |_=>first|(cases h;done)|exact Ad (.value (.Ew h))
  |meth n f c=>
   refine .He fun w es=>?_;dsimp only;have h0:(#[Value.iface 0 (.tuple #[])]:Array Zf)[0]?=some (.iface 0 (.tuple #[])):=rfl;rw[h0];dsimp only;show∃z u g,((program).bind fun p=>(nilAhead (p.types.size+ZcT) 0 (.tuple #[]) "").bind _).runT P' w es=_/\_;rw[ze];have hp:(program).runT P' w es=(.ok P' w,es):=rfl;rw[hp];dsimp only;rw[ze];have key:∀fuel,(∃z u g,(nilAhead fuel 0 (.tuple #[]) "").runT P' w es=(.halt z u,g)/\GY z)\/(nilAhead fuel 0 (.tuple #[]) "").runT P' w es=(.ok none w,es):=by
    intro fuel;cases fuel with
    |zero=>exact .inr rfl
    |succ n=>
     left;unfold nilAhead;show∃z u g,((typeInfo 0).bind _).runT P' w es=(.halt z u,g)/\GY z;rw[ze];rcases LY P' 0 w es with⟨i,hi,h⟩|⟨z,h,hd⟩
     .rw[h]
      dsimp only;rw[T.mV i hi];exact⟨_,_,_,rfl,trivial⟩
     rw[h];exact⟨_,_,_,rfl,hd⟩
   rcases key (P'.types.size+ZcT) with⟨z,u,g,h,hd⟩|h
   .rw[h]
    exact⟨_,_,_,rfl,hd⟩
   rw[h];exact⟨_,_,_,rfl,trivial⟩
 case binOp op t x y yt=>
  obtain⟨⟨hx,hy⟩,hop⟩:=h;refine ok (v ?_);have sM:∀(f:ZM) {z:Zbv},Kz z=true->∃c,z=.const c/\c=.nilIface/\f.eval z=.nilIface:=by
   intro f z hz;unfold Kz at hz;split at hz
   .exact⟨_,rfl,rfl,rfl⟩
   cases hz
  refine Ac _ (ji T BP hd op t x y ?_ (E hx) (E hy)) fun σ _ _ hle _=>?_
  .intro he
   have jr:(JF P BP t||((match P.underlying t with|some (.interface _)=>true|_=>false)&&(Kz x||Kz y)))=true:=by rcases he with rfl|rfl<;>exact hop
   rw[ZaK,ZF,ZaK]at jr;rcases jr with h|⟨_,h|h⟩
   .exact .inl h
   .obtain⟨c,e1,e2,e3⟩:=sM fr h
    exact .inr ⟨c,.inl ⟨e1,e2.trans e3.symm,e3⟩⟩
   obtain⟨c,e1,e2,e3⟩:=sM fr h;exact .inr ⟨c,.inr ⟨e1,e2.trans e3.symm,e3⟩⟩
  by_cases he:op=.eql\/op=.neq
  .refine sI T (hB.mono hle) BP op t he ?_ ((E hx).mono hle) ((E hy).mono hle)
   have jr:(JF P BP t||((match P.underlying t with|some (.interface _)=>true|_=>false)&&(Kz x||Kz y)))=true:=by rcases he with rfl|rfl<;>exact hop
   rw[ZaK,ZF,ZaK]at jr;rcases jr with h|⟨hi,h⟩
   .exact .inl h
   refine .inr ⟨?_,?_⟩
   .split at hi
    .exact⟨_,‹_›⟩
    cases hi
   rcases h with h|h
   .obtain⟨c,e1,e2,e3⟩:=sM fr h;exact .inl e3
   obtain⟨c,e1,e2,e3⟩:=sM fr h;exact .inr e3
  exact c9 T (hB.mono hle) op t ⟨fun e=>he (.inl e),fun e=>he (.inr e)⟩ ((E hx).mono hle) ((E hy).mono hle)
 case unOp op t x=>exact ok (v (sH op (E h)))
 case convert s d x=>exact ok (v (jk T s d h.2 (E h.1)))
 case makeInterface t x=>exact ok (v (P7 T t (E h)))
 case makeFunc f a c=>
  obtain⟨⟨hf,ha⟩,hc⟩:=h;cases f with
  |func f=>exact ok (v (Ad (.Xq (.func hf) (Qv hB ht ha) (Qv hB ht hc))))
  |_=>cases hf
 case makeMap t r=>exact ok (v (je T t (Qw hB ht h)))
 case makeSlice t l c=>exact ok (v (Xy T hB t (E h.1) (E h.2)))
 case slice t x l hi m=>exact ok (v (jc T hB t (E h.1.1.1) (Qw hB ht h.1.1.2) (Qw hB ht h.1.2) (Qw hB ht h.2)))
 case fieldAddr s x f=>exact ok (v (ja T s (E h) f))
 case field t x f=>exact ok (v (sA T t (E h) f))
 case indexAddr t x i=>exact ok (v (jb T hB t (E h.1) (E h.2)))
 case index t x i=>exact ok (v (sB T hB t (E h.1) (E h.2)))
 case lookup t x i k=>exact ok (v (nk T BP t (Nn h.2) hB (E h.1.1) (E h.1.2) k))
 case mapUpdate t m k x=>exact DC.map (Pq T BP t (Nn h.2) hB (E h.1.1.1) (E h.1.1.2) (E h.1.2)) fun _ _ _ _ _=>.skip
 case insert t m k x=>exact DC.map (Pq T BP t (Nn h.2) hB (E h.1.1.1) (E h.1.1.2) (E h.1.2)) fun _ _ _ _ _=>.skip
 case mapEntry t m k=>exact DC.map (cS T BP t (Nn h.2) hB (E h.1.1) (E h.1.2)) fun _ _ _ _ hv=>.value hv
 case entryStore t m s x=>exact ok (u (VA t (E h.1.1) (E h.1.2) (E h.2)))
 case range t x=>exact ok (v (nu T t (E h)))
 case next it s=>exact ok (v (yK (E h) s _))
 case typeAssert x xt at_ k=>exact ok (v (VB T hB (E h) xt at_ k))
 case extract t i=>exact ok (v (jd (E h) i))
 case call c=>
  refine ok ?_;by_cases hnf:∃f,c.callee=.value (.func f)
  .obtain⟨f,hc⟩:=hnf
   unfold okC at h;rw[hc,ZF]at h;have ha:=Qv hB ht h.2;have e:∀fr:ZM,(do let d <-Zbh fr.eval c o.type;invoke d.target d.args)=Zz f (c.args.map fr.eval):=by
    intro fr;unfold Zbh;rw[hc];simp[Zeb,Yd,invoke,bind,pure,Zb8]
   rw[e,e];exact RI S (.inr (by simpa using h.1)) ha
  by_cases yP:∃f,c.callee=.value f/\fr.eval f=vH
  .obtain⟨f,hc,hv⟩:=yP
   have e:(do let d <-Zbh fr.eval c o.type;invoke d.target d.args)=((Yd vH (c.args.map fr.eval)).bind fun d=>invoke d.target d.args):=by
    unfold Zbh;rw[hc];dsimp only;rw[hv]
    rfl
   rw[e];exact .He (RK P' T.mV _)
  exact Ac _ (jq hB ht h (fun f hf=>hnf ⟨f,hf⟩) (fun f hf hv=>yP ⟨f,hf,hv⟩) o.type) fun σ d d' hle hd=>XH T (hB.mono hle) (by rw[hle.2.1];exact S) hd.target hd.args
 case panic x=>exact ok (v (sJ T hB (E h)))
end
def Ux (P:Zo)(ok:Pk)(dead:Nat->Bool)(ops:Array Oper):Bool:=ops.all fun o=>sL P ok dead o.op&&o.dst.all (fun d=> !dead d)
def Bh (P:Zo)(ok:Pk)(dead:Nat->Bool)(seg:Bool):Code->Bool
 | .skip| .exit _| .label _=>true
 | .region _ ops _=>Ux P ok dead ops
 | .seq a b=>Bh P ok dead seg a&&Bh P ok dead seg b
 | .cond c a b=>jo P.globals.size ok dead c&&Bh P ok dead seg a&&Bh P ok dead seg b
 | .block _ b| .loop b| .scope b=>Bh P ok dead seg b
 | .ret=> !seg
 | .rangeFunc f _ a b=> !seg&&jo P.globals.size ok dead f&&Bh P ok dead seg a&&Bh P ok dead seg b
 |_=>false
abbrev BU:Nat->Bool:=fun _=>false
structure OB (P' P:Zo)(ok:Pk)(sp:ZaQ->Bool):Prop where
 val:∀f,ok f=true->ok.Nc f=true/\sp f=false
 dir:∀f n,ok.dir f n=true->(ok.Nc f=true/\sp f=false)\/sp f=true
 met:∀f n,ok.dir f n=true->sp f=true->∃fn Qt,P'.funcs[f]?=some fn/\P.funcs[f]?=some Qt/\fn.body.isSome=true/\Qt.body.isSome=true/\(fn.name== "runtime.NumGoroutine")=false/\(Qt.name== "runtime.NumGoroutine")=false
 has:∀f,ok.Nc f=true->sp f=false->∃fn code,P'.funcs[f]?=some fn/\P.funcs[f]?=some fn/\fn.body=some code/\Bh P ok BU false code=true/\(fn.name== "runtime.NumGoroutine")=false/\fn.norace=false
def OB.same {ok:Pk}{sp:ZaQ->Bool}(F:OB P' P ok sp):CE P' P ok:=
 ⟨fun f hf=>by
  rcases hf with hf|⟨n,hf⟩
  case inr=>
   rcases F.dir f n hf with hs|hs
   .obtain⟨fn,code,h1,h2,h3,_,h5,_⟩:=F.has f hs.1 hs.2;exact⟨fn,fn,h1,h2,by rw[h3];rfl,by rw[h3];rfl,h5,h5⟩
   exact F.met f n hf hs
  obtain⟨fn,code,h1,h2,h3,_,h5,_⟩:=F.has f (F.val f hf).1 (F.val f hf).2;exact⟨fn,fn,h1,h2,by rw[h3];rfl,by rw[h3];rfl,h5,h5⟩⟩
structure Env (P' P:Zo)(ρ:Ren):Prop where
 base:Base P ρ
 good:ρ.good=Bh P ρ.ok BU false
 Nc:OB P' P ρ.ok ρ.sp
def Env.mono (h:Env P' P ρ)(hle:ρ.le σ):Env P' P σ:=
 ⟨h.base.mono hle,by rw[hle.2.2.1,hle.2.1];exact h.good,by rw[hle.2.1,hle.2.2.2];exact h.Nc⟩
structure Cut where
 seg:Bool
 dead:Nat->Bool
 tail:List Item
 fZ:List Deferred
 fn:ZaQ
 flat:Bool
 rv:Nat->Zf
 rn:Nat
 rk:CallKind
def Cut.whole:Cut:=⟨false,BU,[],[],0,false,fun _=>Ze,0,.normal⟩
def Cut.Full (K:Cut):Prop:=K.tail=[]/\K.fZ=[]/\K.dead=BU
def Cut.RL:Cut.whole.Full:=⟨rfl,rfl,rfl⟩
inductive TL (P:Zo)(K:Cut)(ρ:Ren):Item->Item->Prop
 |code {c:Code} (h:Bh P ρ.ok K.dead K.seg c=true):TL P K ρ (.code c) (.code c)
 |inBlock (id:Nat):TL P K ρ (.inBlock id) (.inBlock id)
 |inLoop {b:Code} (h:Bh P ρ.ok K.dead K.seg b=true):TL P K ρ (.inLoop b) (.inLoop b)
 |inScope {b:Code} (h:Bh P ρ.ok K.dead K.seg b=true):TL P K ρ (.inScope b) (.inScope b)
 |inRegion {ops:Array Oper} (is:List Nat) (h:Ux P ρ.ok K.dead ops=true):TL P K ρ (.inRegion ops is) (.inRegion ops is)
 |Np {l l':Nat} (h:ρ l=some l') (hs:K.seg=false):TL P K ρ (.inRangeFunc l) (.inRangeFunc l')
 |I3 {l l':Nat} (h:ρ l=some l') (hs:K.seg=false):TL P K ρ (.endRangeFunc l) (.endRangeFunc l')
 |beginRound (hs:K.seg=false):TL P K ρ .beginRound .beginRound
structure lN (ρ:Ren)(p p':zk):Prop where
 v:VR ρ p.v p'.v
 fresh:p.recovered=false/\p'.recovered=false/\p.goexit=false/\p'.goexit=false
inductive yQ (ρ:Ren):FrameMode->FrameMode->Prop
 |run:yQ ρ .run .run
 |returning:yQ ρ .returning .returning
 |panicking {c c':List zk} (h:Ep (lN ρ) c c'):yQ ρ (.panicking c) (.panicking c')
variable {K:Cut}
def TL.mono (hle:ρ.le σ){i i':Item}(h:TL P K ρ i i'):TL P K σ i i':=by
 cases h with
 |code h=>exact .code (by rw[hle.2.1];exact h)
 |inBlock id=>exact .inBlock id
 |inLoop h=>exact .inLoop (by rw[hle.2.1];exact h)
 |inScope h=>exact .inScope (by rw[hle.2.1];exact h)
 |inRegion is h=>exact .inRegion is (by rw[hle.2.1];exact h)
 |Np h hs=>exact .Np (hle.1 _ _ h) hs
 |I3 h hs=>exact .I3 (hle.1 _ _ h) hs
 |beginRound hs=>exact .beginRound hs
def lN.mono (hle:ρ.le σ){p p':zk}(h:lN ρ p p'):lN σ p p':=⟨h.v.mono hle,h.fresh⟩
def yQ.mono {ρ σ:Ren}(hle:ρ.le σ){m m':FrameMode}(h:yQ ρ m m'):yQ σ m m':=by
 cases h with
 |run=>exact .run
 |returning=>exact .returning
 |panicking h=>exact .panicking (h.mono fun _ _=>lN.mono hle)
structure Hp (P' P:Zo)(K:Cut)(ρ:Ren)(fr Bx:ZM):Prop where
 fn:Bx.fn=fr.fn
 src:K.seg=false->ρ.ok.Nc fr.fn=true/\ρ.sp fr.fn=false
 loud:(P'.funcs[fr.fn]?).any (·.norace)=false/\(P.funcs[fr.fn]?).any (·.norace)=false
 tmps:Pu K.dead ρ fr.tmps Bx.tmps
 todo:∃k,Bx.todo=k++K.tail/\Ep (TL P K ρ) fr.todo k
 defers:∃d,Bx.defers=d++K.fZ/\Ep (fM ρ) fr.defers d
 mode:yQ ρ fr.mode Bx.mode
 kind:fr.kind=.normal/\(Bx.kind=.normal\/(K.seg=true/\Bx.kind=.deferred))
 round:Rq ρ fr.roundOf Bx.roundOf
 part:K.seg=true->fr.roundOf=none/\fr.mode≠ .returning/\fr.defers=[]/\fr.fn=K.fn
 flat:K.flat=true->fr.roundOf=none/\fr.fn=K.fn
 Ar:K.seg=true->Bx.tmps.size=K.rn/\(∀i,K.dead i=true->Bx.tmps.getD i Ze=K.rv i)/\Bx.kind=K.rk
variable {c fr Bx KA:ZM}
def Hp.mono (hle:ρ.le σ)(h:Hp P' P K ρ fr Bx):Hp P' P K σ fr Bx:=
 ⟨h.fn,by rw[hle.2.1,hle.2.2.2];exact h.src,h.loud,h.tmps.mono hle,by obtain⟨k,h1,h2⟩:=h.todo;exact⟨k,h1,h2.mono fun _ _=>TL.mono hle⟩,
  by obtain⟨k,h1,h2⟩:=h.defers;exact⟨k,h1,h2.mono fun _ _=>fM.mono hle⟩,h.mode.mono hle,h.kind,h.round.mono hle,h.part,h.flat,h.Ar⟩
section
variable {P' P:Zo}{ρ:Ren}{K:Cut}
def Hp.nA (h:Hp P' P K ρ fr Bx)(hs:K.seg=false):Bx.kind=.normal:=h.kind.2.resolve_right fun x=>by rw[hs]at x;cases x.1
def Hp.rI (h:Hp P' P K ρ fr Bx):fr.kind≠ .early:=by rw[h.kind.1];intro x;cases x
def Hp.ne2 (h:Hp P' P K ρ fr Bx):Bx.kind≠ .early:=by
 rcases h.kind.2 with x|⟨_,x⟩<;>(rw[x];intro y;cases y)
def Ep.RM {R:α->β->Prop}{m:List β}(h:Ep R [] m):m=[]:=by cases h;rfl
variable {dead:Nat->Bool}
variable {ops:Array Oper}
variable {l l' i n r r' N:Nat}
def OC {ok:Pk}(h:Ux P ok dead ops=true){o:Oper}(ho:ops[i]?=some o):sL P ok dead o.op=true/\∀d,o.dst=some d->dead d=false:=by
 unfold Ux at h;rw[zS]at h;have:=h o (zY ho);rw[ZF]at this;refine⟨this.1,fun d hd=>?_⟩;have h2:=this.2;rw[hd]at h2;simpa using h2
def Hp.finish {fr Bx:ZM}(h:Hp P' P K ρ fr Bx){v v':Zf}(hv:VR ρ v v')(BL:fr.todo≠ []):Hp P' P K ρ (fr.finish v) (Bx.finish v'):=by
 obtain⟨G9,Mm,Hq,Uy,⟨k,hk,hl⟩,Kq,RN,W_,KB,Xb,Tq,Tr⟩:=h;obtain⟨fn,tmps,todo,defers,mode,kind,roundOf⟩:=fr;obtain⟨Qt,RO,Uz,sN,aeg,vR,nB⟩:=Bx;dsimp only at G9 Mm Hq Uy hk hl Kq RN W_ KB Xb Tq Tr BL;subst hk;cases hl with
 |nil=>exact absurd rfl BL
 |cons hx ht=>
  unfold Zdr;cases hx with
  |code hc=>exact⟨G9,Mm,Hq,Uy,⟨_,rfl,.cons (.code hc) ht⟩,Kq,RN,W_,KB,Xb,Tq,Tr⟩
  |inBlock id=>exact⟨G9,Mm,Hq,Uy,⟨_,rfl,.cons (.inBlock id) ht⟩,Kq,RN,W_,KB,Xb,Tq,Tr⟩
  |inLoop hc=>exact⟨G9,Mm,Hq,Uy,⟨_,rfl,.cons (.inLoop hc) ht⟩,Kq,RN,W_,KB,Xb,Tq,Tr⟩
  |inScope hc=>exact⟨G9,Mm,Hq,Uy,⟨_,rfl,.cons (.inScope hc) ht⟩,Kq,RN,W_,KB,Xb,Tq,Tr⟩
  |inRegion is hc=>
   cases is with
   |nil=>exact⟨G9,Mm,Hq,Uy,⟨_,rfl,.cons (.inRegion [] hc) ht⟩,Kq,RN,W_,KB,Xb,Tq,Tr⟩
   |cons i rest=>
    rename_i ops;refine⟨G9,Mm,Hq,?_,⟨_,rfl,.cons (.inRegion rest hc) ht⟩,Kq,RN,W_,KB,Xb,Tq,fun hs=>?_⟩
    .show Pu K.dead ρ (match(ops[i]?).bind (·.dst) with|some d=>tmps.setIfInBounds d v|none=>tmps) (match(ops[i]?).bind (·.dst) with|some d=>RO.setIfInBounds d v'|none=>RO)
     generalize (ops[i]?).bind (·.dst)=od;cases od with
     |none=>exact Uy
     |some d=>exact Uy.set hv d
    .show(match(ops[i]?).bind (·.dst) with|some d=>RO.setIfInBounds d v'|none=>RO).size=_/\(∀j,_->(match(ops[i]?).bind (·.dst) with|some d=>RO.setIfInBounds d v'|none=>RO).getD j Ze=_)/\vR=_
     have Pv:∀d,(ops[i]?).bind (·.dst)=some d->K.dead d=false:=by
      intro d hd;cases ho:ops[i]? with
      |none=>rw[ho]at hd;cases hd
      |some o=>rw[ho]at hd;exact(OC hc ho).2 d hd
     generalize (ops[i]?).bind (·.dst)=od at Pv;cases od with
     |none=>exact Tr hs
     |some d=>
      refine⟨by simpa using(Tr hs).1,fun j hj=>?_,(Tr hs).2.2⟩;have BL:d≠j:=by
       rintro rfl;rw[Pv d rfl]at hj;cases hj
      have:=(Tr hs).2.1 j hj;simp only[Yp,Zk BL]at this⊢;exact this
  |Np hc hs=>exact⟨G9,Mm,Hq,Uy,⟨_,rfl,.cons (.I3 hc hs) ht⟩,Kq,RN,W_,KB,Xb,Tq,Tr⟩
  |I3 hc hs=>exact⟨G9,Mm,Hq,Uy,⟨_,rfl,.cons (.I3 hc hs) ht⟩,Kq,RN,W_,KB,Xb,Tq,Tr⟩
  |beginRound hs=>exact⟨G9,Mm,Hq,Uy,⟨_,rfl,ht⟩,Kq,RN,W_,KB,Xb,Tq,Tr⟩
def Hp.raise {fr Bx:ZM}(h:Hp P' P K ρ fr Bx){c c':List zk}(hc:Ep (lN ρ) c c'):Hp P' P K ρ (fr.raise c) (Bx.raise c'):=by
 obtain⟨G9,Mm,Hq,Uy,htd,Kq,RN,W_,KB,Xb,Tq,Tr⟩:=h;obtain⟨fn,tmps,todo,defers,mode,kind,roundOf⟩:=fr;obtain⟨Qt,RO,Uz,sN,aeg,vR,nB⟩:=Bx;dsimp only at G9 Mm Hq Uy htd Kq RN W_ KB Xb Tq Tr;unfold ZaV;cases RN with
 |run=>exact⟨G9,Mm,Hq,Uy,htd,Kq,.panicking hc,W_,KB,fun h=>⟨(Xb h).1,fun x=>(by cases x),(Xb h).2.2⟩,Tq,Tr⟩
 |returning=>exact⟨G9,Mm,Hq,Uy,htd,Kq,.panicking hc,W_,KB,fun h=>⟨(Xb h).1,fun x=>(by cases x),(Xb h).2.2⟩,Tq,Tr⟩
 |panicking h=>exact⟨G9,Mm,Hq,Uy,htd,Kq,.panicking (hc.append h),W_,KB,fun h=>⟨(Xb h).1,fun x=>(by cases x),(Xb h).2.2⟩,Tq,Tr⟩
variable {f:ZaQ}
def D9 {Q:Zo}{fn:Func}(h:Q.funcs[f]?=some fn)(hn:fn.norace=false):(Q.funcs[f]?).any (·.norace)=false:=by rw[h];exact hn
def Hp.enter (E:Env P' P ρ){f:ZaQ}(hf:ρ.ok.Nc f=true)(Jv:ρ.sp f=false){a a':Array Zf}(ha:BS ρ a a'):Hp P' P .whole ρ (Zq P' f a .normal) (Zq P f a' .normal):=by
 obtain⟨fn,code,h1,h2,h3,h4,h5,h6⟩:=E.Nc.has f hf Jv;unfold Zq;rw[h1,h2];refine⟨rfl,fun _=>⟨hf,Jv⟩,⟨D9 h1 h6,D9 h2 h6⟩,?_,⟨[.code code],?_,?_⟩,⟨[],rfl,.nil⟩,.run,⟨rfl,.inl rfl⟩,trivial,fun h=>(by cases h),fun h=>(by cases h),fun h=>(by cases h)⟩
 .rw[ha.1];exact Pu.of (ha.append (Bz.replicate _ (VR.undef ρ)))
 .simp[h3,Cut.whole]
 simp only[Option.bind_some,h3,Zw];exact .cons (.code h4) .nil
variable {as:Code}
def Hp.sO (E:Env P' P ρ)(hl:ρ l=some l')(hf:ρ.ok.Nc f=true/\ρ.sp f=false)(ht:BS ρ t t'){b:Code}(has:ρ.good as=true)(hb:ρ.good b=true):
  Hp P' P .whole ρ (ZdR l f t as b .normal) (ZdR l' f t' as b .normal):=by
 obtain⟨fn,code,h1,h2,h3,h4,h5,h6⟩:=E.Nc.has f hf.1 hf.2;rw[E.good]at has hb;exact⟨rfl,fun _=>hf,⟨D9 h1 h6,D9 h2 h6⟩,.of ht,⟨_,(ZaA _).symm,.cons (.code has) (.cons (.beginRound rfl) (.cons (.code hb) .nil))⟩,⟨[],rfl,.nil⟩,.run,⟨rfl,.inl rfl⟩,hl,fun h=>(by cases h),fun h=>(by cases h),fun h=>(by cases h)⟩
def js (T:Twins P' P)(hB:Base P ρ)(fn:Func)(ht:BS ρ t t'):Am P' P False VR ρ (results fn t) (results fn t'):=by
 unfold results;refine Ac (fun σ a b=>BS σ a b) ?_ fun σ a b _ DU=>?_
 .rw[YW,YW]
  refine Ac _ (LV (ρ:=ρ) (R:=VR) (fun _ _ _ _ h=>VR.mono h) (fun τ x Df=>?_) _ ρ (Ren.le_refl _)) fun σ a b _ DU=>?_
  .cases x with
   |tmp i=>exact Ad (VR.getD (BS.mono Df ht) (VR.undef _) i)
   |cell i ty=>
    exact Ac _ (Xu T (hB.mono Df) (VR.getD (BS.mono Df ht) (VR.undef _) i)) fun σ a b hle DU=>Uq T ty DU
  .exact Ad (Bz.fL DU)
 have:=DU.1;by_cases h1:a.size=1
 .have h2:b.size=1:=by omega
  rw[dif_pos h1,dif_pos h2];exact Ad (DU.2 0 _ _ (Zx (by omega)) (Zx (by omega)))
 have h2:¬b.size=1:=by omega
 rw[dif_neg h1,dif_neg h2];exact Ad (.tuple' DU)
end
def XJ {Q:Zo}{fn:ZaQ}(h:(Q.funcs[fn]?).any (·.norace)=false)(he:∀e∈es,∀f,e.loc≠ .mark (.extern f)):seen Q fn es=es:=by
 unfold seen;dsimp only;rw[h, <-Zb0];have key:∀(l:List Z9) (acc:Array Z9),(∀e∈l,∀f,e.loc≠ .mark (.extern f))->
   (l.foldl (fun(x:Bool×Array Z9) e=>match e.loc with
    | .mark (.extern f)=>((Q.funcs[f]?).any (·.norace),x.2)
    |_=>(x.1,if(x.1&& !e.sync)=true then x.2 else x.2.push e)) (false,acc))=(false,acc++l.toArray):=by
  intro l
  induction l with
  |nil=>intro acc _;simp
  |cons e l ih=>
   intro acc hl;rw[List.foldl_cons];have he:=hl e (by simp);have:(match e.loc with
    | .mark (.extern f)=>((Q.funcs[f]?).any (·.norace),acc)
    |_=>(false,if(false&& !e.sync)=true then acc else acc.push e))=(false,acc.push e):=by
    split
    .exact absurd ‹_› (he _)
    simp
   rw[this,ih _ fun x hx=>hl x (by simp[hx])];simp
 have:=key es.toList #[] (fun e h=>he e (by simpa using h));exact(congrArg Prod.snd this).trans (by simp)
def rF.plain (h:rF σ e e'):(∀f,e.loc≠ .mark (.extern f))/\∀f,e'.loc≠ .mark (.extern f):=by
 have hl:=h.loc;generalize e.loc=l at hl;generalize e'.loc=l' at hl;cases hl with
 |cell h=>exact⟨fun f x=>(by cases x),fun f x=>(by cases x)⟩
 |obj h=>exact⟨fun f x=>(by cases x),fun f x=>(by cases x)⟩
 |mark h=>cases h;exact⟨fun f x=>(by cases x),fun f x=>(by cases x)⟩
 |output=>exact⟨fun f x=>(by cases x),fun f x=>(by cases x)⟩
def Bz.left {R:α->β->Prop}{a:Array α}{b:Array β}(h:Bz R a b){x:α}(hx:x∈a):∃y∈b,R x y:=by
 obtain⟨i,hi,rfl⟩:=ZbL.1 hx;obtain⟨y,hy,hr⟩:=h.get (Zx hi);exact⟨y,zY hy,hr⟩
def Bz.right {R:α->β->Prop}{a:Array α}{b:Array β}(h:Bz R a b){y:β}(hy:y∈b):∃x∈a,R x y:=by
 obtain⟨i,hi,rfl⟩:=ZbL.1 hy;have DN:i<a.size:=by rw[h.1];exact hi
 exact⟨a[i],by simp,h.2 i _ _ (Zx DN) (Zx hi)⟩
structure FL (ρ σ:Ren)(w w₁ w' w₁':Zb)(d d':Array Z9):Prop where
 le:ρ.le σ
 world:WR σ w₁ w₁'
 evs:Bz (rF σ) d d'
 Fw:JC False ρ σ w w₁ w' w₁' d
def FL.refl (h:WR ρ w w'):FL ρ ρ w w w' w' #[] #[]:=⟨Ren.le_refl _,h,Bz.nil,JC.refl _ _ _ _⟩
def FL.trans {e aeh:Array Z9}(h:FL ρ τ w w₁ w' w₁' d e)(k:FL τ σ w₁ w₂ w₁' CG Hf aeh):FL ρ σ w w₂ w' CG (d++Hf) (e++aeh):=
 ⟨Ren.le_trans h.le k.le,k.world,(Bz.mono h.evs fun _ _=>rF.mono k.le).append k.evs,h.Fw.trans k.Fw k.le⟩
def FL.B1 {Q:Zo}{fn:ZaQ}(h:(Q.funcs[fn]?).any (·.norace)=false)(k:FL ρ σ w w₁ w' w₁' d d'):seen Q fn d=d:=
 XJ h fun _ he=>by obtain⟨y,_,hr⟩:=k.evs.left he;exact hr.plain.1
def FL.D_ {Q:Zo}{fn:ZaQ}(h:(Q.funcs[fn]?).any (·.norace)=false)(k:FL ρ σ w w₁ w' w₁' d d'):seen Q fn d'=d':=
 XJ h fun _ he=>by obtain⟨y,_,hr⟩:=k.evs.right he;exact hr.plain.2
section
variable {P' P:Zo}{ρ:Ren}{K:Cut}{α β:Type}{Q:Ren->α->β->Prop}
def DC.lock {s:Sem α}{s':Sem β}(h:DC P' P False Q ρ s s')(hw:Ii ρ w w'):
  (∃x u f,s.runT P' w #[]=(.halt x u,f)/\GY x)\/
  (∃σ a b w₁ w₁' d d',s.runT P' w #[]=(.ok a w₁,d)/\s'.runT P w' #[]=(.ok b w₁',d')/\Q σ a b/\FL ρ σ w w₁ w' w₁' d d'/\iY P' s w #[] (.ok a w₁) d)\/
  (∃σ v v' w₁ w₁' d d',s.runT P' w #[]=(.halt (.panic v) w₁,d)/\s'.runT P w' #[]=(.halt (.panic v') w₁',d')/\VR σ v v'/\FL ρ σ w w₁ w' w₁' d d'/\iY P' s w #[] (.halt (.panic v) w₁) d):=by
 rcases hr:s.runT P' w #[]with⟨r,f⟩;by_cases hd:mS r
 .obtain⟨x,u,rfl,hx⟩:=hd
  exact .inl ⟨x,u,f,rfl,hx⟩
 obtain⟨σ,r',d,d',h1,h2,h3,h4,h5,h6,h7,h8⟩:=h w w' hw #[] #[] r f hr hd;have h2':f=d:=by simpa using h2
 have h3':s'.runT P w' #[]=(r',d'):=by simpa using h3
 subst h2';cases h4 with
 |ok hq=>exact .inr (.inl ⟨σ,_,_,_,_,f,d',rfl,h3',hq,⟨h1,h5,h6,h7⟩,h8⟩)
 |panic hv=>exact .inr (.inr ⟨σ,_,_,_,_,f,d',rfl,h3',hv,⟨h1,h5,h6,h7⟩,h8⟩)
def Am.lock {s:Sem α}{s':Sem β}(h:Am P' P False Q ρ s s')(hw:Ii ρ w w'):
  (∃x u f,s.runT P' w #[]=(.halt x u,f)/\GY x)\/
  (∃σ a b w₁ w₁' d d',s.runT P' w #[]=(.ok a w₁,d)/\s'.runT P w' #[]=(.ok b w₁',d')/\Q σ a b/\FL ρ σ w w₁ w' w₁' d d'/\iY P' s w #[] (.ok a w₁) d)\/
  (∃σ v v' w₁ w₁' d d',s.runT P' w #[]=(.halt (.panic v) w₁,d)/\s'.runT P w' #[]=(.halt (.panic v') w₁',d')/\VR σ v v'/\FL ρ σ w w₁ w' w₁' d d'/\iY P' s w #[] (.halt (.panic v) w₁) d):=h.ok.lock hw
def nC (F:Zb->GStep)(w:Zb)(AH:Zi)(w₁:Zb)(es:Array Z9):Prop:=
 ∀t:Tape,(∀i,w.drawn<=i->i<w₁.drawn->t i=w.tape i)->F {w with tape:=t}=.go AH {w₁ with tape:=t} es
def AU (fr:ZM)(cs:List ZM):Zi:= {frame:=fr,callers:=cs,status:=.running,dying:=none}
inductive Out (P' P:Zo)(K:Cut)(σ:Ren)(cs cs':List ZM):Zi->Zi->Prop
 |stay {f f':ZM} (h:Hp P' P K σ f f'):Out P' P K σ cs cs' (AU f cs) (AU f' cs')
 |push {b b' f f':ZM} (hb:Hp P' P .whole σ b b') (h:Hp P' P K σ f f') (BL:f.todo≠ []):Out P' P K σ cs cs' (AU b (f::cs)) (AU b' (f'::cs'))
 |pop {v v':Zf} {c c':ZM} {r r':List ZM} (hs:K.seg=false) (hv:VR σ v v') (h:cs=c::r) (h':cs'=c'::r'):Out P' P K σ cs cs' (AU (c.finish v) r) (AU (c'.finish v') r')
 |VG {f:ZaQ} {a a':Array Zf} {b b':ZM} (hf:σ.ok.dir f a.size=true) (hs:σ.sp f=true) (ha:BS σ a a') (h:Hp P' P K σ b b') (BL:b.todo≠ []):
   Out P' P K σ cs cs' (AU (Zq P' f a .normal) (b::cs)) (AU (Zq P f a' .normal) (b'::cs'))
 |raise {x x':List zk} {c c':ZM} {r r':List ZM} (hs:K.seg=false) (hx:Ep (lN σ) x x') (h:cs=c::r) (h':cs'=c'::r'):Out P' P K σ cs cs' (AU (c.raise x) r) (AU (c'.raise x') r')
section
variable {R:Zo}{fr:ZM}{cs:List ZM}{s:Sem Next}{w w₁:Zb}{d:Array Z9}
def KC (hk:fr.kind≠ .early)(h:s.runT R w #[]=(.ok (.value v) w₁,d)):stepG.apply R true fr cs none s w=.go (AU (fr.finish v) cs) w₁ (seen R fr.fn d):=by
 have k1:(fr.kind==ZaL)=false:=by simpa using hk
 unfold stepG.apply;simp only[h,k1,zM,AU,if_true];simp
def Mn (hk:fr.kind≠ .early)(h:s.runT R w #[]=(.ok .skip w₁,d)):stepG.apply R true fr cs none s w=.go (AU (fr.finish Ze) cs) w₁ (seen R fr.fn d):=by
 have k1:(fr.kind==ZaL)=false:=by simpa using hk
 unfold stepG.apply;simp only[h,k1,zM,AU,if_true];simp
variable {f:ZaQ}
def KD (hk:fr.kind≠ .early)(hc:∀d r s k,fr.todo≠ .call d true r s::k)(h:s.runT R w #[]=(.ok (.enter f a) w₁,d)):
  stepG.apply R true fr cs none s w=.go (AU (Zq R f a .normal) (fr::cs)) w₁ (seen R fr.fn d):=by
 have k1:(fr.kind==ZaL)=false:=by simpa using hk
 unfold stepG.apply;simp only[h,k1,zM,AU,if_true,Bool.false_eq_true,if_false];simp
variable {l l' i n r r' N:Nat}
variable {as:Code}
def KE {b:Code}(hk:fr.kind≠ .early)(h:s.runT R w #[]=(.ok (.round l f t as b) w₁,d)):
  stepG.apply R true fr cs none s w=.go (AU (ZdR l f t as b .normal) (fr::cs)) w₁ (seen R fr.fn d):=by
 have k1:(fr.kind==ZaL)=false:=by simpa using hk
 unfold stepG.apply;simp only[h,k1,zM,AU,if_true];simp
def KF (hk:fr.kind≠ .early)(h:s.runT R w #[]=(.halt (.panic v) w₁,d)):stepG.apply R true fr cs none s w=.go (AU (fr.raise [{v,recovered:=false}]) cs) w₁ (seen R fr.fn d):=by
 have k1:(fr.kind==ZaL)=false:=by simpa using hk
 unfold stepG.apply;simp only[h,k1,zM,AU,if_true];simp
def dc {x:Halt}(h:s.runT R w #[]=(.halt x w₁,d))(hx:GY x):∃o u e,stepG.apply R true fr cs none s w=.ended o u e:=by
 unfold stepG.apply;simp only[h,if_true];cases x with
 |stuck s=>exact⟨_,_,_,rfl⟩
 |unsupported u=>cases u<;>first|exact hx.elim|exact⟨_,_,_,rfl⟩
 |_=>exact hx.elim
end
def Hp.yR (h:Hp P' P K ρ fr Bx)(BL:fr.todo≠ []):(∀d r s k,fr.todo≠ .call d true r s::k)/\∀d r s k,Bx.todo≠ .call d true r s::k:=by
 obtain⟨k,hk,hl⟩:=h.todo;rw[hk];generalize fr.todo=l at hl BL;cases hl with
 |nil=>exact absurd rfl BL
 |cons hx ht=>cases hx<;>exact⟨fun _ _ _ _ x=>(by cases x),fun _ _ _ _ x=>(by cases x)⟩
variable {cs cs' L L' I4:List ZM}
def OD (E:Env P' P ρ)(hF:Hp P' P K ρ fr Bx)(BL:fr.todo≠ []){s s':Sem Next}(hs:DC P' P False cH ρ s s')(hw:Ii ρ w w')
 (h:∀o u e,stepG.apply P' true fr cs none s w≠ .ended o u e):
  ∃AH w₁ es,stepG.apply P' true fr cs none s w=.go AH w₁ es/\∃σ w₁' C9 BA,FL ρ σ w w₁ w' w₁' es BA/\stepG.apply P true Bx cs' none s' w'=.go C9 w₁' BA/\Out P' P K σ cs cs' AH C9/\nC (stepG.apply P' true fr cs none s) w AH w₁ es:=by
 have n2:(P.funcs[Bx.fn]?).any (·.norace)=false:=by rw[hF.fn];exact hF.loud.2
 have nc:=hF.yR BL;rcases hs.lock hw with⟨x,u,f,hr,hx⟩|⟨σ,a,b,w₂,CG,d,d',e1,e2,hq,L,hc⟩|⟨σ,v,v',w₂,CG,d,d',e1,e2,hv,L,hc⟩
 .obtain⟨o,u,e,he⟩:=dc (fr:=fr) (cs:=cs) hr hx
  exact(h _ _ _ he).elim
 .have E':=E.mono L.le
  have F':=hF.mono L.le;have s1:=L.B1 hF.loud.1;have s2:=L.D_ n2;cases hq with
  |value hv=>
   exact⟨_,_,_,by rw[KC hF.rI e1,s1],σ,CG,_,_,L,by rw[KC hF.ne2 e2,s2],.stay (F'.finish hv BL),fun t ht=>by rw[KC hF.rI (hc t ht),s1]⟩
  |skip=>
   exact⟨_,_,_,by rw[Mn hF.rI e1,s1],σ,CG,_,_,L,by rw[Mn hF.ne2 e2,s2],.stay (F'.finish (VR.undef _) BL),fun t ht=>by rw[Mn hF.rI (hc t ht),s1]⟩
  | @enter f a a' hf ha=>
   refine⟨_,_,_,by rw[KD hF.rI nc.1 e1,s1],σ,CG,_,_,L,by rw[KD hF.ne2 nc.2 e2,s2],?_,fun t ht=>by rw[KD hF.rI nc.1 (hc t ht),s1]⟩;rcases hf with hf|hf
   .exact .push (Hp.enter E' (E'.Nc.val f hf).1 (E'.Nc.val f hf).2 ha) F' BL
   .rcases E'.Nc.dir f _ hf with hs|hs
    .exact .push (Hp.enter E' hs.1 hs.2 ha) F' BL
    .exact .VG hf hs ha F' BL
  |round hl hf ht has hb=>
   exact⟨_,_,_,by rw[KE hF.rI e1,s1],σ,CG,_,_,L,by rw[KE hF.ne2 e2,s2],.push (Hp.sO E' hl hf ht has hb) F' BL,fun t hz=>by rw[KE hF.rI (hc t hz),s1]⟩
 exact⟨_,_,_,by rw[KF hF.rI e1,L.B1 hF.loud.1],σ,CG,_,_,L,by rw[KF hF.ne2 e2,L.D_ n2],.stay ((hF.mono L.le).raise (.cons ⟨hv,rfl,rfl,rfl,rfl⟩ .nil)),fun t ht=>by rw[KF hF.rI (hc t ht),L.B1 hF.loud.1]⟩
end
section
variable {Q:Zo}{fr:ZM}{cs:List ZM}{w w₁:Zb}{d:Array Z9}{m:Bool}
inductive EN:List Item->List Item->Prop
 |skip {k:List Item}:EN (.code .skip::k) k
 |inBlock {id:Nat} {k:List Item}:EN (.inBlock id::k) k
 |label {l:Nat} {k:List Item}:EN (.code (.label l)::k) k
 |inScope {b:Code} {k:List Item}:EN (.inScope b::k) k
 |scope {b:Code} {k:List Item}:EN (.code (.scope b)::k) (.code b:: .inScope b::k)
 |seq {a b:Code} {k:List Item}:EN (.code (.seq a b)::k) (.code a:: .code b::k)
 |block {id:Nat} {b:Code} {k:List Item}:EN (.code (.block id b)::k) (.code b:: .inBlock id::k)
 |loop {b:Code} {k:List Item}:EN (.code (.loop b)::k) (.code b:: .inLoop b::k)
 |inLoop {b:Code} {k:List Item}:EN (.inLoop b::k) (.code b:: .inLoop b::k)
 |exit {id:Nat} {k k':List Item} (h:Zbu id k=some k'):EN (.code (.exit id)::k) k'
 |RP {ops:Array Oper} {k:List Item}:EN (.inRegion ops []::k) k
 |region {id:Nat} {ops:Array Oper} {k:List Item}:EN (.code (.region id ops false)::k) (.inRegion ops (Yr ops.size)::k)
def Pw {t:List Item}(h:EN fr.todo t):stepG.exec Q m true fr cs none w=.go (AU {fr with todo:=t} cs) w #[]:=by
 unfold stepG.exec;generalize ht:fr.todo=l at h;cases h with
 |exit hx=>simp[-zh,AU,hx]
 |_=>simp[-zh,AU]
variable {k:List Item}
def UA {c:Zbv}{a b:Code}{v:Bool}(ht:fr.todo=.code (.cond c a b)::k)(hv:fr.eval c=.bool v):
  stepG.exec Q m true fr cs none w=.go (AU {fr with todo:=.code (if v then a else b)::k} cs) w #[]:=by
 unfold stepG.exec;simp[-zh,ht,hv,AU]
def RQ {c:Zbv}{a b:Code}(ht:fr.todo=.code (.cond c a b)::k)(hv:∀v,fr.eval c≠ .bool v):∃o u e,stepG.exec Q m true fr cs none w=.ended o u e:=by
 unfold stepG.exec;simp only[ht];exact⟨_,_,_,rfl⟩
inductive Leaves:List Item->Option Code->Prop
 |done:Leaves [] none
 |ret {k:List Item}:Leaves (.code .ret::k) (some .ret)
 |exit {id:Nat} {k:List Item} (h:Zbu id k=none):Leaves (.code (.exit id)::k) (some (.exit id))
variable {j:Option Code}
variable {l l' i n r r' N:Nat}
def FM {r:List ZM}(hk:fr.kind=.normal)(hl:Leaves fr.todo j)(hr:fr.roundOf=some l)(he:(ZaU l j).runT Q w #[]=(.ok v w₁,d)):
  stepG.exec Q m true fr (c::r) none w=.go (AU (c.finish v) r) w₁ (seen Q fr.fn d):=by
 unfold stepG.exec;generalize ht:fr.todo=l at hl;cases hl with
 |exit hx=>simp[-zh,AU,hx,hr,he,zM,doReturn,hk]
 |_=>simp[-zh,AU,hr,he,zM,doReturn,hk]
def J9 {x:Halt}(hl:Leaves fr.todo j)(hr:fr.roundOf=some l)(he:(ZaU l j).runT Q w #[]=(.halt x w₁,d)):
  ∃o u e,stepG.exec Q m true fr cs none w=.ended o u e:=by
 unfold stepG.exec;generalize ht:fr.todo=l at hl;cases hl with
 |exit hx=>simp[-zh,hx,hr,he,zM]
 |_=>simp[-zh,hr,he,zM]
def GG (hl:Leaves fr.todo j)(hr:fr.roundOf=none)(hj:j=none\/j=some .ret):stepG.exec Q m true fr cs none w=.go (AU {fr with mode:=.returning} cs) w #[]:=by
 unfold stepG.exec;generalize ht:fr.todo=l at hl;cases hl with
 |exit hx=>rcases hj with h|h<;>cases h
 |_=>simp[-zh,AU,hr]
def J_ {id:Nat}(hl:Leaves fr.todo (some (.exit id)))(hr:fr.roundOf=none):∃o u e,stepG.exec Q m true fr cs none w=.ended o u e:=by
 unfold stepG.exec;generalize ht:fr.todo=l at hl;cases hl with
 |exit hx=>simp[-zh,hx,hr]
variable {ops:Array Oper}
def OE {id:Nat}{t:Nat}(ht:fr.todo=.code (.region id ops true)::k)(he:(choose (.order fr.fn id)).runT Q w #[]=(.ok t w₁,d)):
  stepG.exec Q m true fr cs none w=.go (AU {fr with todo:=.inRegion ops (Region.schedule (Q.follows .mixedOrders) ops t)::k} cs) w₁ #[]:=by
 have he':(choose (.order fr.fn id)).run Q w=.ok t w₁:=by
  have:=congrArg Prod.fst he;simpa[Sem.run]using this
 unfold stepG.exec;simp[-zh,ht,he',AU]
def VH {is:List Nat}{o:Oper}(ht:fr.todo=.inRegion ops (i::is)::k)(ho:ops[i]?=some o)(hw:Yf o (yielded ops fr.tmps)=true)(hd:∀c,o.op≠ .defer c):
  stepG.exec Q m true fr cs none w=stepG.apply Q true fr cs none (Zby fr.eval o) w:=by
 unfold stepG.exec;simp only[ht,ho,hw,Zdh,Zw,if_true];unfold stepG.oper Frame.oper?;simp only[ht,ho];split
 .exact absurd ‹_› (hd _)
 rfl
def F9 {is:List Nat}(ht:fr.todo=.inRegion ops (i::is)::k)(hw:((ops[i]?).map (Yf · (yielded ops fr.tmps))).getD false=false):
  stepG.exec Q m true fr cs none w=.go (AU (fr.finish Ze) cs) w #[]:=by
 unfold stepG.exec;simp[-zh,ht,hw,AU]
def Mo (ht:fr.todo=.beginRound::k):
  stepG.exec Q m true fr cs none w=stepG.apply Q true fr cs none (do fr.roundOf.elim (stuck "beginRound: no round") ZaC;pure .skip) w:=by
 unfold stepG.exec;simp only[ht]
def IB (ht:fr.todo=.endRangeFunc l::k)(he:(ZaD l).runT Q w #[]=(.ok j w₁,d)):
  stepG.exec Q m true fr cs none w=.go (AU {fr with todo:=(j.map Item.code).toList++k} cs) w₁ (seen Q fr.fn d):=by
 unfold stepG.exec;simp[-zh,ht,he,AU,zM]
def Er (ht:fr.todo=.endRangeFunc l::k)(he:(ZaD l).runT Q w #[]=(.halt (.panic v) w₁,d)):
  stepG.exec Q m true fr cs none w=.go (AU (fr.raise [{v,recovered:=false}]) cs) w₁ (seen Q fr.fn d):=by
 unfold stepG.exec;simp[-zh,ht,he,AU,zM]
def Mp {x:Halt}(ht:fr.todo=.endRangeFunc l::k)(he:(ZaD l).runT Q w #[]=(.halt x w₁,d))(hx:GY x):
  ∃o u e,stepG.exec Q m true fr cs none w=.ended o u e:=by
 unfold stepG.exec;cases x<;>first|exact hx.elim|simp[-zh,ht,he,zM]
def VI (ht:fr.todo=.inRangeFunc l::k):∃o u e,stepG.exec Q m true fr cs none w=.ended o u e:=by
 unfold stepG.exec;simp[-zh,ht]
def rangeCall (f:Zbv)(l:Nat):Call:= {callee:=.value f,args:= #[.const (.func (.yield l) #[] #[])],argTypes:= #[]}
variable {ps:Array Tmp}
def JI {f:Zbv}{a b:Code}{mk:List Deferred}(ht:fr.todo=.code (.rangeFunc f ps a b)::k)
 (he:(Zad fr.fn fr.tmps ps a b fr.roundOf).runT Q w #[]=(.ok (l,mk) w₁,d)):
  stepG.exec Q m true fr cs none w=zM (seen Q fr.fn d) (stepG.apply Q true {fr with todo:=.inRangeFunc l::k,defers:=mk++fr.defers} cs none
   (do let d <-Zbh fr.eval (rangeCall f l) 0;invoke d.target d.args) w₁):=by
 unfold stepG.exec;simp only[ht,he]
 rfl
def J' {f:Zbv}{a b:Code}{x:Halt}(ht:fr.todo=.code (.rangeFunc f ps a b)::k)
 (he:(Zad fr.fn fr.tmps ps a b fr.roundOf).runT Q w #[]=(.halt x w₁,d)):∃o u e,stepG.exec Q m true fr cs none w=.ended o u e:=by
 unfold stepG.exec;simp[-zh,ht,he,zM]
variable {ds:List Deferred}
def El {b:Nat}{calls:List Deferred}(ht:fr.defers= {target:=.collected b,args:=a}::ds)(he:(Yw b).runT Q w #[]=(.ok calls w₁,d)):
  unwind Q m fr cs none w=.go (AU {fr with defers:=calls++ds} cs) w₁ (seen Q fr.fn d):=by
 unfold unwind;simp[-zh,ht,he,zM,AU]
def DY {b:Nat}{x:Halt}(ht:fr.defers= {target:=.collected b,args:=a}::ds)(he:(Yw b).runT Q w #[]=(.halt x w₁,d)):
  ∃o u e,unwind Q m fr cs none w=.ended o u e:=by
 unfold unwind;simp[-zh,ht,he,zM]
def DV {fn:Func}{r:List ZM}(ht:fr.defers=[])(hm:fr.mode=.returning)(hk:fr.kind=.normal)(hf:Q.funcs[fr.fn]?=some fn)(he:(results fn fr.tmps).runT Q w #[]=(.ok v w₁,d)):
  unwind Q m fr (c::r) none w=.go (AU (c.finish v) r) w₁ (seen Q fr.fn d):=by
 unfold unwind;simp[-zh,ht,hm,hf,he,zM,AU,doReturn,hk]
def Hr {fn:Func}{x:Halt}(ht:fr.defers=[])(hm:fr.mode=.returning)(hf:Q.funcs[fr.fn]?=some fn)(he:(results fn fr.tmps).runT Q w #[]=(.halt x w₁,d)):
  ∃o u e,unwind Q m fr cs none w=.ended o u e:=by
 unfold unwind;simp only[ht,hm,hf,he];split<;>simp_all[zM]
def VJ {ch:List zk}{r:List ZM}(ht:fr.defers=[])(hm:fr.mode=.panicking ch):(∀w,∃o u e,unwind Q m fr (c::r) none w=.ended o u e)\/∀w,unwind Q m fr (c::r) none w=.go (AU (c.raise ch) r) w #[]:=by
 unfold unwind;simp only[ht,hm];split
 .exact .inl fun _=>⟨_,_,_,rfl⟩
 exact .inr fun _=>rfl
def C4 {ch:List zk}{r:List ZM}{fn:Func}(ht:fr.defers=[])(hm:fr.mode=.panicking ch)(hf:Q.funcs[fr.fn]?=some fn):unwind Q m fr (c::r) none w=.go (AU (c.raise ch) r) w #[]:=by
 unfold unwind Frame.catches;simp[-zh,ht,hm,hf,AU]
end
section
variable {P' P:Zo}{ρ:Ren}{K:Cut}
variable {k:List Item}
def Hp.Uz (h:Hp P' P K ρ fr Bx){l:List Item}(hl:Ep (TL P K ρ) l k):Hp P' P K ρ {fr with todo:=l} {Bx with todo:=k++K.tail}:=
 ⟨h.fn,h.src,h.loud,h.tmps,⟨k,rfl,hl⟩,h.defers,h.mode,h.kind,h.round,h.part,h.flat,h.Ar⟩
variable {j:Option Code}
def Leaves.kinds {l:List Item}(h:Leaves l j):j=none\/j=some .ret\/∃id,j=some (.exit id):=by
 cases h with
 |done=>exact .inl rfl
 |ret=>exact .inr (.inl rfl)
 |exit h=>exact .inr (.inr ⟨_,rfl⟩)
def de {id:Nat}{l:List Item}(h:Ep (TL P K ρ) l k)(t:List Item):(Zbu id l=none)\/∃l' k',Zbu id l=some l'/\Zbu id (k++t)=some (k'++t)/\Ep (TL P K ρ) l' k':=by
 induction h with
 |nil=>exact .inl rfl
 | @cons x y l k hx ht ih=>
  cases hx with
  |inBlock i=>
   rw[Za1];unfold Zbu;by_cases e:(i==id)=true
   .simp only[e,if_true]
    exact .inr ⟨l,k,rfl,rfl,ht⟩
   .simp only[e]
    rcases ih with h|⟨l',k',h1,h2,h3⟩
    .exact .inl h
    .exact .inr ⟨l',k',h1,h2,h3⟩
  |_=>
   rw[Za1];unfold Zbu;rcases ih with h|⟨l',k',h1,h2,h3⟩
   .exact .inl h
   exact .inr ⟨l',k',h1,h2,h3⟩
def XK {id:Nat}{l:List Item}(h:Ep (TL P K ρ) l k)(hn:Zbu id l=none):Zbu id k=none:=by
 induction h with
 |nil=>rfl
 | @cons x y l k hx ht ih=>
  cases hx with
  |inBlock i=>
   unfold Zbu at hn⊢;by_cases e:(i==id)=true
   .simp only[e,if_true]at hn;cases hn
   .simp only[e]at hn⊢
    exact ih hn
  |_=>
   unfold Zbu at hn⊢;exact ih hn
variable {dead:Nat->Bool}
variable {ops:Array Oper}
def XL {ok:Pk}(ho:Ux P ok dead ops=true)(h:Pu dead ρ t t'):yielded ops t=yielded ops t':=by
 funext j
 unfold yielded;cases hj:ops[j]? with
 |none=>rfl
 |some o=>
  cases hd:o.dst with
  |none=>simp[hd]
  |some d=>
   have Pv:=(OC ho hj).2 d hd;simp only[Option.bind_some,hd];cases hx:t[d]? with
   |none=>
    have:t'[d]?=none:=by rw[ZaW]at*;rw[<-h.size];exact hx
    rw[this]
   |some x=>
    obtain⟨hi,_⟩:=Za.1 hx;have DN:d<t'.size:=h.size▸hi;rw[Zx DN];have:=h.at_ d _ _ Pv hx (Zx DN);generalize t'[d]=y at this;cases this<;>first|rfl|(rename_i hy;cases y<;>first|(cases hy;done)|rfl)
def aei (P' P:Zo)(K:Cut)(ρ:Ren)(cs cs':List ZM)(w w':Zb)(AH:Zi)(w₁:Zb)(es:Array Z9)(F:Zb->GStep)(s:GStep):Prop:=
 ∃σ w₁' C9 BA,FL ρ σ w w₁ w' w₁' es BA/\s=.go C9 w₁' BA/\Out P' P K σ cs cs' AH C9/\nC F w AH w₁ es
def Does (P' P:Zo)(K:Cut)(ρ:Ren)(cs cs':List ZM)(w w':Zb)(F:Zb->GStep)(s:GStep):Prop:=
 ∃AH w₁ es,F w=.go AH w₁ es/\aei P' P K ρ cs cs' w w' AH w₁ es F s
variable {cs cs' L L' I4:List ZM}
def Fh {f f':ZM}(hw:Ii ρ w w'){F:Zb->GStep}{s':GStep}(hl:∀w,F w=.go (AU f cs) w #[])(hr:s'=.go (AU f' cs') w' #[])(hF:Hp P' P K ρ f f'):
  Does P' P K ρ cs cs' w w' F s':=by
 exact⟨_,_,_,hl w,ρ,w',_,_,FL.refl hw.wr,hr,.stay hF,fun t _=>hl _⟩
def nD (T:Twins P' P)(E:Env P' P ρ)(hd:BP<=P.depth)(hK:K.seg=false->K.Full)(hF:Hp P' P K ρ fr Bx)(_hrun:fr.mode=.run)
 (Bt:K.seg=true->fr.todo≠ []) (hcs:cs≠ []) (KG:cs'≠ []\/fr.roundOf=none) (hw:Ii ρ w w') {m m':Bool} (h:∀o u e,stepG.exec P' m true fr cs none w≠ .ended o u e):Does P' P K ρ cs cs' w w' (stepG.exec P' m true fr cs none) (stepG.exec P m' true Bx cs' none w'):=by
 have n2:(P.funcs[Bx.fn]?).any (·.norace)=false:=by rw[hF.fn];exact hF.loud.2
 obtain⟨k,hk,hl⟩:=hF.todo;have leave:∀(j:Option Code),K.seg=false->Leaves fr.todo j->Leaves Bx.todo j->(∀c,j=some c->ρ.good c=true)->Does P' P K ρ cs cs' w w' (stepG.exec P' m true fr cs none) (stepG.exec P m' true Bx cs' none w'):=by
  intro j Kg h1 h2 hj;have KB:=hF.round;cases e:fr.roundOf with
  |none=>
   have e':Bx.roundOf=none:=by rw[e]at KB;cases e':Bx.roundOf with
    |none=>rfl
    |some x=>rw[e']at KB;exact KB.elim
   by_cases nE:j=none\/j=some .ret
   .refine Fh hw (fun _=>GG h1 e nE) (GG h2 e' nE) ?_
    exact⟨hF.fn,hF.src,hF.loud,hF.tmps,hF.todo,hF.defers,.returning,hF.kind,hF.round,fun x=>(by rw[Kg]at x;cases x),hF.flat,hF.Ar⟩
   .exfalso
    rcases h1.kinds with hj|hj|⟨id,hj⟩
    .exact nE (.inl hj)
    .exact nE (.inr hj)
    .subst hj
     obtain⟨o,u,e2,he⟩:=J_ (Q:=P') (cs:=cs) (w:=w) (m:=m) h1 e;exact(h _ _ _ he).elim
  |some l=>
   obtain⟨l',e',Xc⟩:∃l',Bx.roundOf=some l'/\ρ l=some l':=by
    rw[e]at KB;cases e':Bx.roundOf with
    |none=>rw[e']at KB;exact KB.elim
    |some x=>rw[e']at KB;exact⟨x,rfl,KB⟩
   obtain⟨c,r,rfl⟩:=Zam hcs;obtain⟨c',r',rfl⟩:=Zam (KG.resolve_right (by rw[e];intro x;cases x));rcases(db (P':=P') (P:=P) (fz:=False) Xc j hj).lock hw with⟨x,u,f,hr,hx⟩|⟨σ,a,b,w₂,CG,d,d',e1,e2,hq,L,hc⟩|⟨σ,v,v',w₂,CG,d,d',e1,e2,hv,L,hc⟩
   .obtain⟨o,u2,e3,he⟩:=J9 (cs:=c::r) (m:=m) h1 e hr
    exact(h _ _ _ he).elim
   .exact⟨_,_,_,by rw[FM hF.kind.1 h1 e e1,L.B1 hF.loud.1],σ,CG,_,_,L,by rw[FM (hF.nA Kg) h2 e' e2,L.D_ n2],.pop Kg hq rfl rfl,fun t hz=>by rw[FM hF.kind.1 h1 e (hc t hz),L.B1 hF.loud.1]⟩
   obtain⟨o,u2,e3,he⟩:=J9 (cs:=c::r) (m:=m) h1 e e1;exact(h _ _ _ he).elim
 have silent:∀(t k':List Item),EN fr.todo t->EN Bx.todo (k'++K.tail)->Ep (TL P K ρ) t k'->Does P' P K ρ cs cs' w w' (stepG.exec P' m true fr cs none) (stepG.exec P m' true Bx cs' none w'):=fun t k' h1 h2 ht=>
  Fh hw (fun _=>Pw h1) (Pw h2) (hF.Uz ht)
 cases ht:fr.todo with
 |nil=>
  have Kg:K.seg=false:=by
   cases hs:K.seg with
   |false=>rfl
   |true=>exact absurd ht (Bt hs)
  rw[ht]at hl;cases hl;refine leave none Kg (by rw[ht];exact .done) ?_ (fun c x=>by cases x);rw[hk,(hK Kg).1];exact .done
 |cons x l=>
  rw[ht]at hl;cases hl with
  | @cons _ y _ kl hx Az=>
   have Kh:Bx.todo=y::(kl++K.tail):=hk;cases hx with
   |inBlock id=>exact silent l kl (by rw[ht];exact .inBlock) (by rw[Kh];exact .inBlock) Az
   | @inLoop b hb=>exact silent _ (.code b:: .inLoop b::kl) (by rw[ht];exact .inLoop) (by rw[Kh];exact .inLoop) (.cons (.code hb) (.cons (.inLoop hb) Az))
   |inScope hb=>exact silent l kl (by rw[ht];exact .inScope) (by rw[Kh];exact .inScope) Az
   | @inRegion ops is ho=>
    cases is with
    |nil=>exact silent l kl (by rw[ht];exact .RP) (by rw[Kh];exact .RP) Az
    |cons i is=>
     have hy:=XL ho hF.tmps;cases hi:ops[i]? with
     |none=>
      refine Fh hw (fun _=>F9 ht (by rw[hi];rfl)) (F9 Kh (by rw[hi];rfl)) (hF.finish (VR.undef _) (by rw[ht];intro x;cases x))
     |some o=>
      obtain⟨rJ,nF⟩:=OC ho hi;cases hwn:Yf o (yielded ops fr.tmps) with
      |false=>
       exact Fh hw (fun _=>F9 ht (by rw[hi];simpa using hwn)) (F9 Kh (by rw[hi, <-hy];simpa using hwn)) (hF.finish (VR.undef _) (by rw[ht];intro x;cases x))
      |true=>
       have hnd:∀c,o.op≠ .defer c:=by
        intro c hc;rw[hc]at rJ;cases rJ
       have G9:stepG.exec P' m true fr cs none=stepG.apply P' true fr cs none (Zby fr.eval o):=funext fun w=>VH ht hi hwn hnd;rw[VH ht hi hwn hnd]at h;rw[VH Kh hi (by rw[<-hy];exact hwn) hnd,G9];exact OD E hF (by rw[ht];intro x;cases x) (nz T E.base E.Nc.same hd hF.tmps rJ) hw h
   |Np Ka hs=>
    obtain⟨o,u,e,he⟩:=VI (Q:=P') (cs:=cs) (w:=w) (m:=m) ht;exact(h _ _ _ he).elim
   | @I3 lo lo' Ka hs=>
    rcases(jl T (fz:=False) E.base Ka).lock hw with⟨x,u,f,hr,hx⟩|⟨σ,a,b,w₂,CG,d,d',e1,e2,⟨rfl,hq⟩,L,hc⟩|⟨σ,v,v',w₂,CG,d,d',e1,e2,hv,L,hc⟩
    .obtain⟨o,u2,e3,he⟩:=Mp (cs:=cs) (m:=m) ht hr hx
     exact(h _ _ _ he).elim
    .refine⟨_,_,_,by rw[IB ht e1,L.B1 hF.loud.1],σ,CG,_,_,L,by rw[IB Kh e2,L.D_ n2],.stay ?_,fun t hz=>by rw[IB ht (hc t hz),L.B1 hF.loud.1]⟩
     rw[<-Zae];refine(hF.mono L.le).Uz (Ep.append ?_ (Az.mono fun _ _=>TL.mono L.le));cases a with
     |none=>exact .nil
     |some c=>
      have:=hq c rfl;rw[(E.mono L.le).good]at this;refine .cons (.code ?_) .nil;rw[(hK hs).2.2,hs];exact this
    .exact⟨_,_,_,by rw[Er ht e1,L.B1 hF.loud.1],σ,CG,_,_,L,by rw[Er Kh e2,L.D_ n2],.stay ((hF.mono L.le).raise (.cons ⟨hv,rfl,rfl,rfl,rfl⟩ .nil)),fun t hz=>by rw[Er ht (hc t hz),L.B1 hF.loud.1]⟩
   |beginRound hs=>
    have G9:stepG.exec P' m true fr cs none=stepG.apply P' true fr cs none (do fr.roundOf.elim (stuck "beginRound: no round") ZaC;pure .skip):=funext fun w=>Mo ht;rw[Mo ht]at h;rw[Mo Kh,G9];refine OD E hF (by rw[ht];intro x;cases x) (Am.ok ?_) hw h;have KB:=hF.round;cases e:fr.roundOf with
    |none=>exact CC
    |some lo=>
     cases e':Bx.roundOf with
     |none=>rw[e,e']at KB;exact KB.elim
     |some lo'=>
      rw[e,e']at KB;exact Ac _ (VF T E.base KB) fun _ _ _ _ _=>Ad .skip
   | @code c hc=>
    cases c with
    |skip=>exact silent l kl (by rw[ht];exact .skip) (by rw[Kh];exact .skip) Az
    |region id ops draw=>
     have ho:Ux P ρ.ok K.dead ops=true:=hc;cases draw with
     |false=>exact silent _ (.inRegion ops (Yr ops.size)::kl) (by rw[ht];exact .region) (by rw[Kh];exact .region) (.cons (.inRegion _ ho) Az)
     |true=>
      have hq:Am P' P False Gf ρ (choose (.order fr.fn id)) (choose (.order Bx.fn id)):=by rw[hF.fn];exact Hh _
      have ev:∀(Q:Zo) (q:Question) (u:Zb),((choose q).runT Q u #[]).2= #[]:=by
       intro Q q u;unfold choose;rw[ZI];split<;>(unfold ZI;rfl)
      rcases hq.lock hw with⟨x,u,f,hr,hx⟩|⟨σ,a,b,w₂,CG,d,d',e1,e2,DU,L,hcc⟩|⟨σ,v,v',w₂,CG,d,d',e1,e2,hv,L,hc⟩
      .exfalso
       unfold choose at hr;rw[ZI]at hr;split at hr<;>(unfold ZI at hr;cases hr)
      .cases DU
       have d1:d= #[]:=by have:=ev P' (.order fr.fn id) w;rw[e1]at this;exact this
       have d2:d'= #[]:=by have:=ev P (.order Bx.fn id) w';rw[e2]at this;exact this
       subst d1 d2;refine⟨_,_,_,OE ht e1,σ,CG,_,_,L,OE Kh e2,.stay ?_,fun t hz=>OE ht (hcc t hz)⟩;have:P'.follows .mixedOrders=P.follows .mixedOrders:=by unfold Tables.follows;rw[T.tables]
       rw[this];exact(hF.mono L.le).Uz (k:=.inRegion ops _::kl) (.cons (.inRegion _ (by rw[L.le.2.1];exact ho)) (Az.mono fun _ _=>TL.mono L.le))
      .exfalso
       unfold choose at e1;rw[ZI]at e1;split at e1<;>(unfold ZI at e1;cases e1)
    |seq a b=>
     have DU:Bh P ρ.ok K.dead K.seg a=true/\Bh P ρ.ok K.dead K.seg b=true:=by simpa[Bh]using hc
     exact silent _ (.code a:: .code b::kl) (by rw[ht];exact .seq) (by rw[Kh];exact .seq) (.cons (.code DU.1) (.cons (.code DU.2) Az))
    |cond c a b=>
     have DU:(jo P.globals.size ρ.ok K.dead c=true/\Bh P ρ.ok K.dead K.seg a=true)/\Bh P ρ.ok K.dead K.seg b=true:=by simpa[Bh]using hc
     have hv:=Ml E.base hF.tmps DU.1.1;by_cases hb:∃v,fr.eval c=.bool v
     .obtain⟨v,hvv⟩:=hb
      have akK:Bx.eval c=.bool v:=by
       rw[hvv]at hv;generalize Bx.eval c=y at hv;cases hv;rfl
      refine Fh hw (fun _=>UA ht hvv) (UA Kh akK) ?_;refine hF.Uz (k:=.code (if v then a else b)::kl) (.cons (.code ?_) Az);cases v
      .exact DU.2
      exact DU.1.2
     .obtain⟨o,u,e,he⟩:=RQ (Q:=P') (cs:=cs) (w:=w) (m:=m) ht (fun v hv=>hb ⟨v,hv⟩)
      exact(h _ _ _ he).elim
    |block id b=>exact silent _ (.code b:: .inBlock id::kl) (by rw[ht];exact .block) (by rw[Kh];exact .block) (.cons (.code hc) (.cons (.inBlock id) Az))
    |loop b=>exact silent _ (.code b:: .inLoop b::kl) (by rw[ht];exact .loop) (by rw[Kh];exact .loop) (.cons (.code hc) (.cons (.inLoop hc) Az))
    |label id=>exact silent l kl (by rw[ht];exact .label) (by rw[Kh];exact .label) Az
    |scope b=>exact silent _ (.code b:: .inScope b::kl) (by rw[ht];exact .scope) (by rw[Kh];exact .scope) (.cons (.code hc) (.cons (.inScope hc) Az))
    |exit id=>
     rcases de (id:=id) Az K.tail with hn|⟨l',k',h1,h2,h3⟩
     .cases hs:K.seg with
      |false=>
       refine leave (some (.exit id)) hs (by rw[ht];exact .exit hn) ?_ (fun c x=>by cases x;rw[E.good];rfl);rw[Kh];refine .exit ?_;rw[(hK hs).1];show Zbu id (kl++ [])=none;rw[ZaA];exact XK Az hn
      |true=>
       obtain⟨o,u,e,he⟩:=J_ (Q:=P') (cs:=cs) (w:=w) (m:=m) (id:=id) (by rw[ht];exact .exit hn) (hF.part hs).1;exact(h _ _ _ he).elim
     .exact silent l' k' (by rw[ht];exact .exit h1) (by rw[Kh];exact .exit h2) h3
    |ret=>
     have hs:K.seg=false:=by simpa[Bh]using hc
     exact leave (some .ret) hs (by rw[ht];exact .ret) (by rw[Kh];exact .ret) (fun c x=>by cases x;rw[E.good];rfl)
    |rangeFunc f ps a b=>
     have DU:((K.seg=false/\jo P.globals.size ρ.ok K.dead f=true)/\Bh P ρ.ok K.dead K.seg a=true)/\Bh P ρ.ok K.dead K.seg b=true:=by simpa[Bh]using hc
     obtain⟨⟨⟨hs,hf⟩,ha⟩,hb⟩:=DU;have ju:=hK hs;have Uy:BS ρ fr.tmps Bx.tmps:=Pu.all (by have:=hF.tmps;rw[ju.2.2]at this;exact this);rw[ju.2.2,hs]at ha hb;have hen:Am P' P False (fun σ p p'=>σ p.1=some p'.1/\Ep (fM σ) p.2 p'.2) ρ (Zad fr.fn fr.tmps ps a b fr.roundOf) (Zad Bx.fn Bx.tmps ps a b Bx.roundOf):=by
      rw[hF.fn];exact XG (hF.src hs) Uy ps (by rw[E.good];exact ha) (by rw[E.good];exact hb) hF.round
     rcases hen.lock hw with⟨x,u,f',hr,hx⟩|⟨σ,p,p',w₂,CG,d,d',e1,e2,⟨lO,VK⟩,L,hcc⟩|⟨σ,v,v',w₂,CG,d,d',e1,e2,hv,L,hc⟩
     .obtain⟨o,u2,e3,he⟩:=J' (cs:=cs) (m:=m) ht hr
      exact(h _ _ _ he).elim
     .obtain⟨nG,mk⟩:=p
      obtain⟨f_,mk'⟩:=p';dsimp only at lO VK;rw[JI ht e1,L.B1 hF.loud.1]at h;rw[JI Kh e2,L.D_ n2];have yS:=E.mono L.le;have IC:=hF.mono L.le;have akL:Hp P' P K σ {fr with todo:=.inRangeFunc nG::l,defers:=mk++fr.defers} {Bx with todo:=.inRangeFunc f_::(kl++K.tail),defers:=mk'++Bx.defers}:=by
       obtain⟨dd,hd1,hd2⟩:=IC.defers;refine⟨IC.fn,IC.src,IC.loud,IC.tmps,⟨.inRangeFunc f_::kl,rfl,.cons (.Np lO hs) (Az.mono fun _ _=>TL.mono L.le)⟩,⟨mk'++dd,?_,VK.append hd2⟩,IC.mode,IC.kind,IC.round,fun x=>(by rw[hs]at x;cases x),IC.flat,IC.Ar⟩;show mk'++Bx.defers=_;rw[hd1,Zae]
      have XM:Am P' P False cH σ (do let d <-Zbh fr.eval (rangeCall f nG) 0;invoke d.target d.args) (do let d <-Zbh Bx.eval (rangeCall f f_) 0;invoke d.target d.args):=by
       have yJ:=(Ml E.base hF.tmps hf).mono L.le;have hy:VR σ (.func (.yield nG) #[] #[]) (.func (.yield f_) #[] #[]):=.Xq (.yield lO) Bz.nil Bz.nil;by_cases yP:fr.eval f=vH
       .have e:(do let d <-Zbh fr.eval (rangeCall f nG) 0;invoke d.target d.args)=((Yd vH ((rangeCall f nG).args.map fr.eval)).bind fun d=>invoke d.target d.args):=by
         unfold Zbh;show(Yd (fr.eval f) _).bind _=_;rw[yP]
        rw[e];exact .He (RK P' T.mV _)
       refine Ac _ (Uw yJ yP (by simpa[rangeCall,Zeb]using Bz.single hy)) fun τ d d' hle hd=>?_;exact XH T (yS.mono hle).base (yS.mono hle).Nc.same hd.target hd.args
      obtain⟨AH,w₁,e,he,τ,nH,g',BA,ael,s2,hO,hT⟩:=OD (cs':=cs') yS akL (fun x=>by cases x) XM.ok ⟨L.world.obj,hen.al hw e1 e2,L.world.os⟩ (fun o u e hx=>h o u (d++e) (by rw[hx];rfl));refine⟨AH,w₁,d++e,by rw[JI ht e1,L.B1 hF.loud.1,he];rfl,τ,nH,g',d'++BA,L.trans ael,by rw[s2];rfl,hO,fun t hz=>?_⟩;have f1:=L.Fw.drawn;have f2:=ael.Fw.drawn;rw[JI ht (hcc t fun i x y=>hz i x (Zl y f2)),L.B1 hF.loud.1];have:=hT t fun i x y=>by rw[L.Fw.Pm];exact hz i (Zr f1 x) y
      rw[this];rfl
     .obtain⟨o,u2,e3,he⟩:=J' (cs:=cs) (m:=m) ht e1
      exact(h _ _ _ he).elim
    |_=>cases hc
def df (T:Twins P' P)(E:Env P' P ρ)(hK:K.seg=false->K.Full)(hF:Hp P' P K ρ fr Bx)(By:fr.mode≠ .run)
 (hcs:cs≠ []) (KG:cs'≠ []\/¬(fr.mode=.returning/\fr.defers=[])) (hw:Ii ρ w w') {m m':Bool} (h:∀o u e,unwind P' m fr cs none w≠ .ended o u e):((K.seg=true\/cs'=[])/\∃c r x x',cs=c::r/\Ep (lN ρ) x x'/\∀u,unwind P' m fr cs none u=.go (AU (c.raise x) r) u #[])\/Does P' P K ρ cs cs' w w' (unwind P' m fr cs none) (unwind P m' Bx cs' none w'):=by
 have n2:(P.funcs[Bx.fn]?).any (·.norace)=false:=by rw[hF.fn];exact hF.loud.2
 obtain⟨c,r,rfl⟩:=Zam hcs;obtain⟨k,hk,hl⟩:=hF.defers;cases Kq:fr.defers with
 |cons d ds=>
  rw[Kq]at hl;cases hl with
  | @cons _ y _ kl hx Az=>
   cases hx with
   | @mk b b' a a' hb=>
    have Kh:Bx.defers= {target:=.collected b',args:=a'}::(kl++K.fZ):=hk;rcases(RJ (P':=P') (P:=P) (fz:=False) hb).lock hw with⟨x,u,f',hr,hx⟩|⟨σ,p,p',w₂,CG,d,d',e1,e2,⟨rfl,rfl⟩,L,hc⟩|⟨σ,v,v',w₂,CG,d,d',e1,e2,hv,L,hc⟩
    .obtain⟨o,u2,e3,he⟩:=DY (cs:=c::r) (m:=m) Kq hr
     exact(h _ _ _ he).elim
    .refine .inr ⟨_,_,_,by rw[El Kq e1,L.B1 hF.loud.1],σ,CG,_,_,L,by rw[El Kh e2,L.D_ n2],.stay ?_,fun t hz=>by rw[El Kq (hc t hz),L.B1 hF.loud.1]⟩
     have IC:=hF.mono L.le;exact⟨IC.fn,IC.src,IC.loud,IC.tmps,IC.todo,⟨kl,rfl,Az.mono fun _ _=>fM.mono L.le⟩,IC.mode,IC.kind,IC.round,fun hs=>(by have:=(hF.part hs).2.2.1;rw[Kq]at this;cases this),IC.flat,IC.Ar⟩
    .obtain⟨o,u2,e3,he⟩:=DY (cs:=c::r) (m:=m) Kq e1
     exact(h _ _ _ he).elim
 |nil=>
  rw[Kq]at hl;cases hl;have RN:=hF.mode;cases hs:K.seg with
  |true=>
   refine .inl ⟨.inl rfl,?_⟩;cases hm:fr.mode with
   |run=>exact absurd hm By
   |returning=>exact absurd hm (hF.part hs).2.1
   |panicking x=>
    rcases VJ (Q:=P') (m:=m) (c:=c) (r:=r) Kq hm with he|he
    .obtain⟨o,u,e,he⟩:=he w
     exact(h _ _ _ he).elim
    .obtain⟨x',hx⟩:∃x',Ep (lN ρ) x x':=by
      rw[hm]at RN;generalize Bx.mode=y at RN;cases RN with
      |panicking hx=>exact⟨_,hx⟩
     exact⟨c,r,x,x',rfl,hx,he⟩
  |false=>
   have ju:=hK hs;have aem:Bx.defers=[]:=by rw[hk,ju.2.1];rfl
   have Uy:BS ρ fr.tmps Bx.tmps:=Pu.all (by have:=hF.tmps;rw[ju.2.2]at this;exact this);obtain⟨fn,code,f1,f2,_⟩:=E.Nc.has fr.fn (hF.src hs).1 (hF.src hs).2;have f2':P.funcs[Bx.fn]?=some fn:=by rw[hF.fn];exact f2
   cases hm:fr.mode with
   |run=>exact absurd hm By
   |returning=>
    refine .inr ?_;obtain⟨c',r',rfl⟩:=Zam (KG.resolve_right (fun x=>x ⟨hm,Kq⟩));have hm':Bx.mode=.returning:=by
     rw[hm]at RN;generalize Bx.mode=y at RN;cases RN;rfl
    rcases(js T E.base fn Uy).lock hw with⟨x,u,f',hr,hx⟩|⟨σ,a,b,w₂,CG,d,d',e1,e2,hv,L,hc⟩|⟨σ,v,v',w₂,CG,d,d',e1,e2,hv,L,hc⟩
    .obtain⟨o,u2,e3,he⟩:=Hr (cs:=c::r) (m:=m) Kq hm f1 hr
     exact(h _ _ _ he).elim
    .exact⟨_,_,_,by rw[DV Kq hm hF.kind.1 f1 e1,L.B1 hF.loud.1],σ,CG,_,_,L,by rw[DV aem hm' (hF.nA hs) f2' e2,L.D_ n2],.pop hs hv rfl rfl,fun t hz=>by rw[DV Kq hm hF.kind.1 f1 (hc t hz),L.B1 hF.loud.1]⟩
    .obtain⟨o,u2,e3,he⟩:=Hr (cs:=c::r) (m:=m) Kq hm f1 e1
     exact(h _ _ _ he).elim
   |panicking x=>
    obtain⟨x',hm',hx⟩:∃x',Bx.mode=.panicking x'/\Ep (lN ρ) x x':=by
     rw[hm]at RN;generalize Bx.mode=y at RN;cases RN with
     |panicking hx=>exact⟨_,rfl,hx⟩
    cases cs' with
    |nil=>exact .inl ⟨.inr rfl,c,r,x,x',rfl,hx,fun u=>C4 Kq hm f1⟩
    |cons c' r'=>
    exact .inr ⟨_,_,_,C4 Kq hm f1,ρ,w',_,_,FL.refl hw.wr,C4 aem hm' f2',.raise hs hx rfl rfl,fun t _=>C4 Kq hm f1⟩
end
structure H9 where
 K:Cut
 lcs:List ZM
 yT:List ZM
 top:Bool
inductive Gh (P' P:Zo)(B:H9)(ρ:Ren):List ZM->List ZM->Prop
 |bot {fr Bx:ZM} (h:Hp P' P B.K ρ fr Bx):Gh P' P B ρ (fr::B.lcs) (Bx::B.yT)
 |cons {fr Bx c c':ZM} {L L':List ZM} (h:Hp P' P .whole ρ fr Bx) (BL:c.todo≠ []) (t:Gh P' P B ρ (c::L) (c'::L')):Gh P' P B ρ (fr::c::L) (Bx::c'::L')
section
variable {P' P:Zo}{ρ:Ren}{B:H9}
def Gh.mono {σ:Ren}(hle:ρ.le σ){L L':List ZM}(h:Gh P' P B ρ L L'):Gh P' P B σ L L':=by
 induction h with
 |bot h=>exact .bot (h.mono hle)
 |cons h BL _ ih=>exact .cons (h.mono hle) BL ih
variable {cs cs' L L' I4:List ZM}
def Gh.top {c':ZM}(h:Gh P' P B ρ (c::L) (c'::L')){f f':ZM}(hf:∀K,Hp P' P K ρ c c'->Hp P' P K ρ f f'):Gh P' P B ρ (f::L) (f'::L'):=by
 generalize e:c::L=M at h;generalize e':c'::L'=M' at h;cases h with
 |bot h=>cases e;cases e';exact .bot (hf _ h)
 |cons h BL t=>cases e;cases e';exact .cons (hf _ h) BL t
def sP (P' P:Zo)(B:H9)(ρ:Ren)(g g':Zi):Prop:=∃fr cs Bx cs',g=AU fr cs/\g'=AU Bx cs'/\Gh P' P B ρ (fr::cs) (Bx::cs')
def aen (B:H9)(σ:Ren)(g g':Zi):Prop:=B.K.seg=false/\∃c r c' r' v v',B.lcs=c::r/\B.yT=c'::r'/\VR σ v v'/\g=AU (c.finish v) r/\g'=AU (c'.finish v') r'
def P9 (B:H9)(g:Zi):Prop:=∃c r x,B.lcs=c::r/\g=AU (c.raise x) r
def UB (B:H9)(σ:Ren)(g:Zi):Prop:=∃c r x x',B.lcs=c::r/\g=AU (c.raise x) r/\Ep (lN σ) x x'
variable {g g':Zi}
def UB.lost {B:H9}(h:UB B σ g):P9 B g:=let⟨c,r,x,_,h1,h2,_⟩:=h;⟨c,r,x,h1,h2⟩
def gd (P' P:Zo)(B:H9)(σ:Ren)(g g':Zi):Prop:=
 ∃fn a a' f cs f' cs',σ.ok.dir fn a.size=true/\σ.sp fn=true/\BS σ a a'/\g=AU (Zq P' fn a .normal) (f::cs)/\g'=AU (Zq P fn a' .normal) (f'::cs')/\Gh P' P B σ (f::cs) (f'::cs')/\f.todo≠ []
structure H9.LM (B:H9):Prop where
 K:B.K.seg=false->B.K.Full
 lcs:B.lcs≠ []
 yT:B.top=false->B.yT≠ []
 sQ:B.top=true->B.K.seg=false/\B.K.flat=true/\B.yT=[]
def BG {Q:Zo}{m:Bool}:(fr.mode=.run->za Q m (AU fr cs) w=stepG.exec Q m true fr cs none w)/\(fr.mode≠ .run->za Q m (AU fr cs) w=unwind Q m fr cs none w):=by
 unfold za AU;cases h:fr.mode<;>simp[h]
def RR (h:Hp P' P K ρ fr Bx):(fr.mode=.run↔Bx.mode=.run):=by
 have:=h.mode;generalize fr.mode=a at this;generalize Bx.mode=b at this;cases this<;>simp
def BQ (B:H9)(g:Zi):Prop:=
 (B.K.seg=true/\g.callers.length=B.lcs.length/\g.frame.mode=.run/\g.frame.todo=[])\/(B.top=true/\g.callers.length=B.lcs.length/\g.frame.mode=.returning/\g.frame.defers=[])
def Gh.deep (h:Gh P' P B ρ L L'):B.lcs.length<L.length:=by
 induction h with
 |bot h=>simp
 |cons _ _ _ ih=>simp only[zb]at ih⊢;omega
def UC (w w₁:Zb):Prop:=w.heap.size<=w₁.heap.size/\∀b o,Quiet o->b<w.heap.size->w₁.heap[b]?=some o->w.heap[b]?=some o
def UC.refl (w:Zb):UC w w:=⟨Zj _,fun _ _ _ _ h=>h⟩
def FL.vS {ρ:Ren}(L:FL ρ σ w w₁ w' w₁' d d'):UC w w₁:=⟨L.Fw.size,fun b o hq hl hj=>(L.Fw.awake b o hq hl hj).1⟩
def RS (T:Twins P' P)(E:Env P' P ρ)(hd:BP<=P.depth)(hB:B.LM)(hG:sP P' P B ρ g g')(Bt:¬BQ B g)(hw:Ii ρ w w'){m m':Bool}(h:∀o u e,za P' m g w≠ .ended o u e):∃AH w₁ es,za P' m g w=.go AH w₁ es/\((∃σ,ρ.le σ/\UB B σ AH/\w.drawn<=w₁.drawn/\w₁.tape=w.tape/\UC w w₁/\nC (fun w=>za P' m g w) w AH w₁ es)\/∃σ w₁' C9 BA,FL ρ σ w w₁ w' w₁' es BA/\za P m' g' w'=.go C9 w₁' BA/\(sP P' P B σ AH C9\/aen B σ AH C9\/gd P' P B σ AH C9)/\nC (fun w=>za P' m g w) w AH w₁ es):=by
 obtain⟨fr,cs,Bx,cs',rfl,rfl,hS⟩:=hG;have frame:∀K,(K.seg=false->K.Full)->Hp P' P K ρ fr Bx->(K.seg=true->fr.mode=.run->fr.todo≠ [])->cs≠ []->(cs'≠ []\/(fr.roundOf=none/\¬(fr.mode=.returning/\fr.defers=[])))->
   ((K.seg=true\/cs'=[])/\∃c r x x',cs=c::r/\Ep (lN ρ) x x'/\∀u,za P' m (AU fr cs) u=.go (AU (c.raise x) r) u #[])\/Does P' P K ρ cs cs' w w' (fun w=>za P' m (AU fr cs) w) (za P m' (AU Bx cs') w'):=by
  intro K hK hF B_ h1 h2;by_cases hm:fr.mode=.run
  .have G9:(fun w=>za P' m (AU fr cs) w)=stepG.exec P' m true fr cs none:=funext fun w=>BG.1 hm
   rw[BG.1 hm]at h;rw[BG.1 ((RR hF).1 hm),G9];exact .inr (nD T E hd hK hF hm (fun x=>B_ x hm) h1 (h2.imp id (·.1)) hw h)
  have G9:(fun w=>za P' m (AU fr cs) w)=unwind P' m fr cs none:=funext fun w=>BG.2 hm;rw[BG.2 hm]at h;rw[BG.2 (fun x=>hm ((RR hF).2 x)),G9];exact(df T E hK hF hm h1 (h2.imp id (·.2)) hw h).imp (fun⟨a,c,r,x,x',b,bx,d⟩=>⟨a,c,r,x,x',b,bx,fun u=>by rw[BG.2 hm];exact d u⟩) id
 generalize e:fr::cs=M at hS;generalize e':Bx::cs'=M' at hS;cases hS with
 |bot hF=>
  cases e;cases e';rcases frame B.K hB.K hF (fun hs hm ht=>Bt (.inl ⟨hs,rfl,hm,ht⟩)) hB.lcs (by
   cases OG:B.top with
   |false=>exact .inl (hB.yT OG)
   |true=>exact .inr ⟨(hF.flat (hB.sQ OG).2.1).1,fun x=>Bt (.inr ⟨OG,rfl,x.1,x.2⟩)⟩) with⟨_,c,r,x,x',h1,hx,h2⟩|⟨AH,w₁,es,hg,σ,w₁',C9,BA,L,h1,hO,hT⟩
  .exact⟨_,_,_,h2 w,.inl ⟨ρ,Ren.le_refl _,⟨c,r,x,x',h1,rfl,hx⟩,Zj _,rfl,UC.refl w,fun t _=>h2 _⟩⟩
  .cases hO with
   |stay hf=>exact⟨_,_,_,hg,.inr ⟨σ,w₁',_,BA,L,h1,.inl ⟨_,_,_,_,rfl,rfl,.bot hf⟩,hT⟩⟩
   |push hb hf BL=>exact⟨_,_,_,hg,.inr ⟨σ,w₁',_,BA,L,h1,.inl ⟨_,_,_,_,rfl,rfl,.cons hb BL (.bot hf)⟩,hT⟩⟩
   |pop hs hv ha hb=>exact⟨_,_,_,hg,.inr ⟨σ,w₁',_,BA,L,h1,.inr (.inl ⟨hs,_,_,_,_,_,_,ha,hb,hv,rfl,rfl⟩),hT⟩⟩
   |VG hf hs ha h BL=>exact⟨_,_,_,hg,.inr ⟨σ,w₁',_,BA,L,h1,.inr (.inr ⟨_,_,_,_,_,_,_,hf,hs,ha,rfl,rfl,.bot h,BL⟩),hT⟩⟩
   |raise hs hx ha hb=>exact⟨_,_,_,hg,.inl ⟨σ,L.le,⟨_,_,_,_,ha,rfl,hx⟩,L.Fw.drawn,L.Fw.Pm,L.vS,hT⟩⟩
 | @cons _ _ c c' L₀ aqT hF BL t=>
  cases e;cases e';rcases frame .whole (fun _=>Cut.RL) hF (fun hs=>by cases hs) (fun x=>by cases x) (.inl fun x=>by cases x) with⟨hs|hs,_⟩|⟨AH,w₁,es,hg,σ,w₁',C9,BA,L,h1,hO,hT⟩
  .cases hs
  .cases hs
  have t':=t.mono L.le;cases hO with
  |stay hf=>exact⟨_,_,_,hg,.inr ⟨σ,w₁',_,BA,L,h1,.inl ⟨_,_,_,_,rfl,rfl,.cons hf BL t'⟩,hT⟩⟩
  |push hb hf hn=>exact⟨_,_,_,hg,.inr ⟨σ,w₁',_,BA,L,h1,.inl ⟨_,_,_,_,rfl,rfl,.cons hb hn (.cons hf BL t')⟩,hT⟩⟩
  |VG hf hs ha h hn=>exact⟨_,_,_,hg,.inr ⟨σ,w₁',_,BA,L,h1,.inr (.inr ⟨_,_,_,_,_,_,_,hf,hs,ha,rfl,rfl,.cons h BL t',hn⟩),hT⟩⟩
  |pop hs hv ha hb=>
   cases ha;cases hb;exact⟨_,_,_,hg,.inr ⟨σ,w₁',_,BA,L,h1,.inl ⟨_,_,_,_,rfl,rfl,t'.top fun K hk=>hk.finish hv BL⟩,hT⟩⟩
  |raise hs hx ha hb=>
   cases ha;cases hb;exact⟨_,_,_,hg,.inr ⟨σ,w₁',_,BA,L,h1,.inl ⟨_,_,_,_,rfl,rfl,t'.top fun K hk=>hk.raise hx⟩,hT⟩⟩
end
abbrev tp (w:Zb)(t:Tape):Zb:= {w with tape:=t}
section
variable {P' P:Zo}{B:H9}{m:Bool}{Stop:Zi->Zb->Prop}
def Fx (P' P:Zo)(B:H9)(g:Zi)(w:Zb):Prop:=∃ρ g' w',Env P' P ρ/\sP P' P B ρ g g'/\WR ρ w w'/\ρ.sp=fun _=>false
def RU (Q:Zo)(m:Bool)(g:Zi)(w:Zb):Prop:=∀g' w' es,za Q m g w≠ .go g' w' es
def Hs (B:H9)(g:Zi):Prop:=∃c r v,B.lcs=c::r/\g=AU (c.finish v) r
def WR.jv (h:WR ρ w w'):∃Xd,Ii ρ w Xd:=
 ⟨tp w' (fun i=>w.tape (i - w'.drawn+w.drawn)),h.obj,fun i q=>by show w.tape (w.drawn+i) q=w.tape (w'.drawn+i - w'.drawn+w.drawn) q;rw[Zbl,Nat.add_comm],h.os⟩
def Fx.step (T:Twins P' P)(hd:BP<=P.depth)(hB:B.LM){g:Zi}{w:Zb}(hS:Fx P' P B g w)(Bt:¬BQ B g){AH:Zi}{w₁:Zb}{es:Array Z9}(h:za P' m g w=.go AH w₁ es):
  ((Fx P' P B AH w₁\/Hs B AH\/P9 B AH)/\nC (fun w=>za P' m g w) w AH w₁ es/\w.drawn<=w₁.drawn/\w₁.tape=w.tape/\UC w w₁):=by
 obtain⟨ρ,g',Xd,E,hG,nI,Jv⟩:=hS;obtain⟨w',hw⟩:=nI.jv;obtain⟨Bs,w₂,vT,h',hx⟩:=RS (m:=m) (m':=m) T E hd hB hG Bt hw (fun o u e=>by rw[h];intro x;cases x);rw[h]at h';cases h';rcases hx with⟨σ,_,hl,h1,h2,hW,hT⟩|⟨σ,w₁',C9,BA,L,_,hO,hT⟩
 .exact⟨.inr (.inr hl.lost),hT,h1,h2,hW⟩
 refine⟨?_,hT,L.Fw.drawn,L.Fw.Pm,L.vS⟩;rcases hO with hO|⟨_,c,r,c',r',v,v',h1,_,_,h2,_⟩|⟨fn,_,_,_,_,_,_,_,hs,_⟩
 .exact .inl ⟨σ,C9,w₁',E.mono L.le,hO,L.world,L.le.2.2.2.trans Jv⟩
 .exact .inr (.inl ⟨c,r,v,h1,h2⟩)
 rw[L.le.2.2.2,Jv]at hs;cases hs
variable {g g':Zi}
def Fx.Ds (h:Fx P' P B g w)(t:Tape):Fx P' P B g (tp w t):=
 let⟨ρ,g',w',E,hG,hw,hs⟩:=h;⟨ρ,g',w',E,hG,⟨hw.obj,hw.os⟩,hs⟩
def GH (P':Zo)(B:H9)(m:Bool)(Stop:Zi->Zb->Prop):Nat->Zi->Zb->Prop
 |0,g,w=>Stop g w
 |n+1,g,w=>Stop g w\/(¬BQ B g/\∃g' w' es,za P' m g w=.go g' w' es/\GH P' B m Stop n g' w')
structure Dg (P':Zo)(B:H9)(m:Bool)(Stop:Zi->Zb->Prop):Prop where
 blind:∀g w t,Stop g w->Stop g (tp w t)
 back:∀g w,Hs B g\/P9 B g->Stop g w\/RU P' m g w
variable {l l' i n r r' N:Nat}
def GH.here (h:GH P' B m Stop n g w)(hn:RU P' m g w\/BQ B g):Stop g w:=by
 cases n with
 |zero=>exact h
 |succ n=>
  rcases h with h|⟨ha,g',w',es,h,_⟩
  .exact h
  exact hn.elim (fun x=>absurd h (x _ _ _)) fun x=>absurd x ha
def Dg.nJ (K:Dg P' B m Stop)(h:GH P' B m Stop n g w)(hb:Hs B g\/P9 B g):Stop g w:=
 (K.back g w hb).elim id fun hn=>h.here (.inl hn)
def GH.vU (T:Twins P' P)(hd:BP<=P.depth)(hB:B.LM)(K:Dg P' B m Stop):∀(n:Nat) {g:Zi} {w:Zb} {a b:Tape},Fx P' P B g w->GH P' B m Stop n g (tp w a)->(∀i,w.drawn<=i->a i=b i)->GH P' B m Stop n g (tp w b):=by
 intro n
 induction n with
 |zero=>intro g w a b _ h _;exact K.blind g (tp w a) b h
 |succ n ih=>
  intro g w a b hS h DU;rcases h with h|⟨ha,AH,w₁,es,h,hn⟩
  .exact .inl (K.blind g (tp w a) b h)
  obtain⟨hO,hT,h1,h2,_⟩:=(hS.Ds a).step T hd hB ha h;refine .inr ⟨ha,AH,tp w₁ b,es,hT b (fun i x _=>(DU i x).symm),?_⟩;have e:w₁=tp w₁ a:=by cases w₁;cases h2;rfl
  rcases hO with hO|hO
  .exact ih hO (by rw[<-e];exact hn) fun i x=>DU i (Zr h1 x)
  have:=K.blind _ _ b (K.nJ hn hO);cases n with
  |zero=>exact this
  |succ n=>exact .inl this
inductive Cv (P':Zo)(B:H9)(m:Bool)(Stop:Zi->Zb->Prop):Zi->Zb->Prop
 |stop {g:Zi} {w:Zb} (h:Stop g w):Cv P' B m Stop g w
 |step {g:Zi} {w:Zb} (hn:¬BQ B g) (hr:g.status=.running) (AH:Tape->Zi) (w₁:Tape->Zb) (es:Tape->Array Z9) (h:∀t,za P' m g (tp w t)=.go (AH t) (w₁ t) (es t)) (k:∀t,Cv P' B m Stop (AH t) (w₁ t)):Cv P' B m Stop g w
structure sR (P' P:Zo)(B:H9)(m:Bool)(Stop:Zi->Zb->Prop)(s:Zi×Zb):Prop where
 auI:Fx P' P B s.1 s.2
 reach:∀t,∃n,GH P' B m Stop n s.1 (tp s.2 t)
 not:¬Cv P' B m Stop s.1 s.2
def sR.next (T:Twins P' P)(hd:BP<=P.depth)(hB:B.LM)(K:Dg P' B m Stop){s:Zi×Zb}(h:sR P' P B m Stop s):
  ∃s',sR P' P B m Stop s'/\s.2.drawn<=s'.2.drawn/\∃es,∀t:Tape,(∀i,s.2.drawn<=i->i<s'.2.drawn->t i=s'.2.tape i)->za P' m s.1 (tp s.2 t)=.go s'.1 (tp s'.2 t) es:=by
 obtain⟨g,w⟩:=s;obtain⟨hS,hR,hM⟩:=h;dsimp only at hS hR hM⊢;have hns:∀t,¬Stop g (tp w t):=fun t h=>hM (.stop (K.blind g (tp w t) w.tape h));have rK:¬BQ B g:=fun h=>by obtain⟨n,hn⟩:=hR w.tape;exact hns _ (hn.here (.inr h))
 have hgo:∀t,∃n AH w₁ es,za P' m g (tp w t)=.go AH w₁ es/\GH P' B m Stop n AH w₁:=by
  intro t;obtain⟨n,hn⟩:=hR t;cases n with
  |zero=>exact absurd hn (hns t)
  |succ n=>
   rcases hn with h|⟨_,AH,w₁,es,h,hn⟩
   .exact absurd h (hns t)
   exact⟨n,AH,w₁,es,h,hn⟩
 have:∃t,∀AH w₁ es,za P' m g (tp w t)=.go AH w₁ es->¬Cv P' B m Stop AH w₁:=by
  apply YQ;intro hx;have:∀t,∃p:Zi×Zb×Array Z9,za P' m g (tp w t)=.go p.1 p.2.1 p.2.2/\Cv P' B m Stop p.1 p.2.1:=by
   intro t;apply YQ;intro hy;exact hx ⟨t,fun AH w₁ es h1 h2=>hy ⟨(AH,w₁,es),h1,h2⟩⟩
  exact hM (.step rK (by obtain⟨_,_,_,_,⟨_,_,_,_,rfl,_,_⟩,_⟩:=hS;rfl) (fun t=>(zo (this t)).1) (fun t=>(zo (this t)).2.1) (fun t=>(zo (this t)).2.2) (fun t=>(zv (this t)).1) fun t=>(zv (this t)).2)
 obtain⟨t,ht⟩:=this;obtain⟨n,AH,w₁,es,h,hn⟩:=hgo t;have vV:=ht _ _ _ h;obtain⟨hO,hT,h1,h2,_⟩:=(hS.Ds t).step T hd hB rK h;have KH:Fx P' P B AH w₁:=hO.elim id fun hb=>absurd (.stop (K.nJ hn hb)) vV;refine⟨(AH,w₁),⟨KH,fun t'=>?_,vV⟩,h1,es,fun t' ht'=>hT t' fun i x y=>?_⟩
 .have hT':=hT (fun i=>if i<w₁.drawn then t i else t' i) fun i _ y=>by rw[if_pos y]
  obtain⟨n',Bs,w₂,vT,h',hn'⟩:=hgo (fun i=>if i<w₁.drawn then t i else t' i);have akO:za P' m g (tp w fun i=>if i<w₁.drawn then t i else t' i)=.go AH (tp w₁ fun i=>if i<w₁.drawn then t i else t' i) es:=hT';rw[akO]at h';cases h';exact⟨n',hn'.vU T hd hB K _ KH fun i x=>by have x':w₁.drawn<=i:=x;rw[if_neg (by omega)]⟩
 have:=ht' i x y;rw[this,h2]
def least (p:Nat->Prop)(h:∃n,p n):∃n,p n/\∀j,j<n->¬p j:=by
 obtain⟨n,hn⟩:=h
 induction n using Nat.strongRecOn with
 |_ n ih=>
  by_cases hx:∃j,j<n/\p j
  .obtain⟨j,hj,hp⟩:=hx;exact ih j hj hp
  exact⟨n,hn,fun j hj hp=>hx ⟨j,hj,hp⟩⟩
open Classical in
def ID (T:Twins P' P)(hd:BP<=P.depth)(hB:B.LM)(K:Dg P' B m Stop)(hS:Fx P' P B g w)(hR:∀t,∃n,GH P' B m Stop n g (tp w t)):Cv P' B m Stop g w:=by
 apply YQ;intro hM
 let S:= {s:Zi×Zb // sR P' P B m Stop s}
 let akP:S:=⟨(g,w),hS,hR,hM⟩
 have hx:∀s:S,∃s':S,s.1.2.drawn<=s'.1.2.drawn/\∃es,∀t:Tape,(∀i,s.1.2.drawn<=i->i<s'.1.2.drawn->t i=s'.1.2.tape i)->za P' m s.1.1 (tp s.1.2 t)=.go s'.1.1 (tp s'.1.2 t) es:=by
  rintro⟨s,hs⟩;obtain⟨s',h1,h2⟩:=hs.next T hd hB K;exact⟨⟨s',h1⟩,h2⟩
 let nx:S->S:=fun s=>zo (hx s)
 have yU:∀s,s.1.2.drawn<=(nx s).1.2.drawn/\∃es,∀t:Tape,(∀i,s.1.2.drawn<=i->i<(nx s).1.2.drawn->t i=(nx s).1.2.tape i)->za P' m s.1.1 (tp s.1.2 t)=.go (nx s).1.1 (tp (nx s).1.2 t) es:=fun s=>zv (hx s)
 let q:Nat->S:=fun k=>Nat.rec akP (fun _ s=>nx s) k
 have hq:∀k,q (k+1)=nx (q k):=fun _=>rfl;have mono:∀k,(q k).1.2.drawn<=(q (k+1)).1.2.drawn:=fun k=>by rw[hq];exact(yU (q k)).1
 have aeo:∀a b,a<=b->(q a).1.2.drawn<=(q b).1.2.drawn:=by
  intro a b DU
  induction DU with
  |refl=>exact Zj _
  |step _ ih=>exact Zr ih (mono _)
 let tape:Tape:=fun i=>if h:∃k,i<(q (k+1)).1.2.drawn then(q (zo (least _ h)+1)).1.2.tape i else w.tape i
 have aep:∀k i,(q k).1.2.drawn<=i->i<(q (k+1)).1.2.drawn->tape i=(q (k+1)).1.2.tape i:=by
  intro k i h1 h2;have he:∃k,i<(q (k+1)).1.2.drawn:=⟨k,h2⟩;have hf:zo (least _ he)=k:=by
   obtain⟨h3,h4⟩:=zv (least _ he);generalize zo (least _ he)=f at h3 h4;rcases Nat.lt_trichotomy f k with h5|h5|h5
   .have:=aeo _ _ (show f+1<=k from h5)
    omega
   .exact h5
   exact absurd h2 (h4 k h5)
  show(if h:∃k,i<(q (k+1)).1.2.drawn then(q (zo (least _ h)+1)).1.2.tape i else w.tape i)=_;rw[dif_pos he,hf]
 have never:∀n k,¬GH P' B m Stop n (q k).1.1 (tp (q k).1.2 tape):=by
  intro n
  induction n with
  |zero=>intro k h;exact(q k).2.not (.stop (K.blind _ (tp (q k).1.2 tape) (q k).1.2.tape h))
  |succ n ih=>
   intro k h;rcases h with h|⟨_,g',w',es,h,hn⟩
   .exact(q k).2.not (.stop (K.blind _ (tp (q k).1.2 tape) (q k).1.2.tape h))
   obtain⟨_,BA,hs⟩:=yU (q k);have:=hs tape fun i x y=>by have:=aep k i x (by rw[hq];exact y);rw[this,hq]
   rw[this]at h;cases h;exact ih (k+1) hn
 obtain⟨n,hn⟩:=hR tape;exact never n 0 hn
end
def C5 (Q:Zo):ZM:= {fn:=Q.funcs.size,tmps:= #[],todo:=[.call default false "" #[]],defers:=[{target:=.nil,args:= #[]}],mode:=.run,kind:=.normal}
section
variable {P' P:Zo}{m:Bool}
def dg:Extern.next "" =none:=rfl
def Ht:∃o u e,za P' m (AU ((C5 P').finish v) []) w=.ended o u e:=by
 rw[(BG (Q:=P') (m:=m) (fr:=(C5 P').finish v) (cs:=[]) (w:=w)).1 rfl];unfold stepG.exec;simp[C5,Zdr,dg]
def OH {x:List zk}:∃o u e,za P' m (AU ((C5 P').raise x) []) w=.ended o u e:=by
 rw[(BG (Q:=P') (m:=m) (fr:=(C5 P').raise x) (cs:=[]) (w:=w)).2 (by intro h;cases h)];unfold unwind callDeferred;simp[C5,ZaV]
variable {g g':Zi}
def IE (h:∃o u e,za P' m g w=.ended o u e):RU P' m g w:=by
 obtain⟨o,u,e,h⟩:=h;intro g' w' es x;rw[h]at x;cases x
def IsX (P':Zo)(PostX:List zk->Zb->Prop)(g:Zi)(w:Zb):Prop:=∃x,g=AU ((C5 P').raise x) []/\PostX x w
def gh (P':Zo)(Post:Zf->Zb->Prop)(PostX:List zk->Zb->Prop)(g:Zi)(w:Zb):Prop:=(∃v,g=AU ((C5 P').finish v) []/\Post v w)\/IsX P' PostX g w
def UD (P':Zo)(B:H9)(Y:Array Zf->Zf)(Post:Zf->Zb->Prop)(PostX:List zk->Zb->Prop)(g:Zi)(w:Zb):Prop:=(BQ B g/\g.callers=B.lcs/\Post (Y g.frame.tmps) w)\/IsX P' PostX g w
def C_ {α:Type}(Post:α->Zb->Prop):Prop:=∀v w t,Post v w->Post v (tp w t)
variable {B:H9}
def Nq (hl:B.lcs=[C5 P'])(hx:Hs B g\/P9 B g):RU P' m g w:=by
 rcases hx with⟨c,r,v,h1,rfl⟩|⟨c,r,x,h1,rfl⟩
 .rw[hl]at h1;cases h1
  exact IE Ht
 rw[hl]at h1;cases h1;exact IE OH
def IsX.blind {PostX:List zk->Zb->Prop}(hb:C_ PostX){t:Tape}(h:IsX P' PostX g w):IsX P' PostX g (tp w t):=let⟨x,h1,h2⟩:=h;⟨x,h1,hb _ _ _ h2⟩
variable {Post:Zf->Zb->Prop}
def XN {PostX:List zk->Zb->Prop}(hl:B.lcs=[C5 P'])(hb:C_ Post)(H_:C_ PostX):Dg P' B m (gh P' Post PostX):=
 ⟨fun _ _ _ h=>h.elim (fun⟨v,h1,h2⟩=>.inl ⟨v,h1,hb _ _ _ h2⟩) fun h=>.inr (h.blind H_),fun _ _ hx=>.inr (Nq hl hx)⟩
variable {Y:Array Zf->Zf}
def XO {PostX:List zk->Zb->Prop}(hl:B.lcs=[C5 P'])(hb:C_ Post)(H_:C_ PostX):Dg P' B m (UD P' B Y Post PostX):=
 ⟨fun _ _ _ h=>h.elim (fun⟨h1,h2,h3⟩=>.inl ⟨h1,h2,hb _ _ _ h3⟩) fun h=>.inr (h.blind H_),fun _ _ hx=>.inr (Nq hl hx)⟩
variable {cs cs' L L' I4:List ZM}
def Fi (h:lone fr cs w=lone Bx cs' w'):fr=Bx/\cs=cs'/\w=w':=by
 unfold lone at h;simp at h;exact⟨h.2.1,h.2.2,h.1⟩
def EO (h:∃o u e,za P' true (AU fr cs) w=.ended o u e):∃o u,Go.step P' (lone fr cs w)=.ended o u:=by
 obtain⟨o,u,e,h⟩:=h;exact⟨o,u,step_lone_ended (by rw[show za P' true {frame:=fr,callers:=cs,status:=.running,dying:=none} w=_ from h];rfl)⟩
def Qx (h:za P' true (AU fr cs) w=.go (AU KA I4) w₁ es):Go.step P' (lone fr cs w)=.next (lone KA I4 w₁):=
 step_lone_go (by rw[show za P' true {frame:=fr,callers:=cs,status:=.running,dying:=none} w=_ from h];rfl)
variable {l l' i n r r' N:Nat}
def runN_ended {m':Machine}(h:∃o u,Go.step P' (lone fr cs w)=.ended o u)(hN:runN P' N (lone fr cs w)=.next m'):lone fr cs w=m':=by
 obtain⟨o,u,h⟩:=h;cases N with
 |zero=>simpa[runN]using hN
 |succ N=>simp[runN,h]at hN
def Lq {m':Machine}(h:Go.step P' (lone fr cs w)=.next (lone KA I4 w₁))(hN:runN P' N (lone fr cs w)=.next m'):lone fr cs w=m'\/∃N',N=N'+1/\runN P' N' (lone KA I4 w₁)=.next m':=by
 cases N with
 |zero=>exact .inl (by simpa[runN]using hN)
 |succ N=>exact .inr ⟨N,rfl,by simpa[runN,h]using hN⟩
def sP.AU (h:sP P' P B ρ g g'):∃fr cs,g=Go.FA.AU fr cs/\B.lcs.length<(fr::cs).length:=by
 obtain⟨fr,cs,Bx,cs',rfl,rfl,hS⟩:=h;exact⟨fr,cs,rfl,hS.deep⟩
variable {Stop:Zi->Zb->Prop}
def IG (T:Twins P' P)(hd:BP<=P.depth)(hB:B.LM)(hl:B.lcs=[C5 P']){fe:ZM}(aeq:(∃v,fe=(C5 P').finish v)\/∃x,fe=(C5 P').raise x)
 (gm:∀v,fe=(C5 P').finish v->B.K.seg=false->B.top=false->Stop (AU fe []) w') (aer:∀x,fe=(C5 P').raise x->Stop (AU fe []) w')
 (RV:∀N fr cs w,Fx P' P B (AU fr cs) w->BQ B (AU fr cs)->runN P' N (lone fr cs w)=.next (lone fe [] w')->Stop (AU fr cs) w):
  ∀(N:Nat) (fr:ZM) (cs:List ZM) (w:Zb),Fx P' P B (AU fr cs) w->runN P' N (lone fr cs w)=.next (lone fe [] w')->∃n,GH P' B true Stop n (AU fr cs) w:=by
 intro N
 induction N with
 |zero=>
  intro fr cs w hS hN;obtain⟨ρ,g',w₂,E,hG,hw,_⟩:=hS;obtain⟨gp,gq,h1,h2⟩:=hG.AU;cases h1;obtain⟨rfl,rfl,rfl⟩:=Fi (by simpa[runN]using hN);rw[hl]at h2;simp at h2
 |succ N ih=>
  intro fr cs w hS hN;by_cases ha:BQ B (AU fr cs)
  .exact⟨0,RV _ _ _ _ hS ha hN⟩
  obtain⟨ρ,g',DZ,E,hG,nI,Jv⟩:=hS;obtain⟨w₂,hw⟩:=nI.jv;have hlen:B.lcs.length<(fr::cs).length:=by
   obtain⟨gp,gq,h1,h2⟩:=hG.AU;cases h1;exact h2
  have BL:lone fr cs w≠lone fe [] w':=by
   intro x;obtain⟨rfl,rfl,rfl⟩:=Fi x;rw[hl]at hlen;simp at hlen
  have aes:∀o u e,za P' true (AU fr cs) w≠ .ended o u e:=fun o u e hx=>BL (runN_ended (EO ⟨o,u,e,hx⟩) hN);obtain⟨AH,w₁,es,hg,hx⟩:=RS (m:=true) (m':=true) T E hd hB hG ha hw aes;have go:∀KA I4,AH=AU KA I4->runN P' N (lone KA I4 w₁)=.next (lone fe [] w'):=by
   rintro KA I4 rfl;rcases Lq (Qx hg) hN with h|⟨N',h1,h2⟩
   .exact absurd h BL
   cases h1;exact h2
  have AM:∀v x,(C5 P').finish v≠(C5 P').raise x:=fun v x h=>by have:=congrArg Frame.mode h;cases this
  rcases hx with⟨_,_,Ka,_⟩|⟨σ,w₁',C9,BA,L,_,hO,_⟩
  .obtain⟨c,r,x,h1,h2⟩:=Ka.lost
   rw[hl]at h1;cases h1;have:=runN_ended (EO OH) (go _ _ h2);obtain⟨h3,_,h4⟩:=Fi this;refine⟨1,.inr ⟨ha,AH,w₁,es,hg,?_⟩⟩;rw[h2,h3,h4];exact aer x h3.symm
  rcases hO with hO|⟨hs,c,r,c',r',XP,vW,h1,hrc,_,h2,_⟩|⟨fn,_,_,_,_,_,_,_,hs,_⟩
  .obtain⟨KA,I4,h1,_⟩:=hO.AU
   obtain⟨n,hn⟩:=ih KA I4 w₁ ⟨σ,C9,w₁',E.mono L.le,h1▸hO,L.world,L.le.2.2.2.trans Jv⟩ (go _ _ h1);exact⟨n+1,.inr ⟨ha,AH,w₁,es,hg,h1▸hn⟩⟩
  .rw[hl]at h1;cases h1
   have:=runN_ended (EO Ht) (go _ _ h2);obtain⟨h3,_,h4⟩:=Fi this;refine⟨1,.inr ⟨ha,AH,w₁,es,hg,?_⟩⟩;rw[h2,h3,h4];refine gm _ h3.symm hs ?_;cases OG:B.top with
   |false=>rfl
   |true=>rw[(hB.sQ OG).2.2]at hrc;cases hrc
  rw[L.le.2.2.2,Jv]at hs;cases hs
def gr (Post:Zf->Zb->Prop)(PostX:List zk->Zb->Prop):Ending->Zb->Prop
 | .returned v,w=>Post v w
 | .panicked x,w=>PostX x w
 |_,_=>False
variable {f:ZaQ}
def IH {PostX:List zk->Zb->Prop}(h:Calls P' f args w (gr Post PostX)):
  ∃N fe w',((∃v,fe=(C5 P').finish v/\Post v w')\/∃x,fe=(C5 P').raise x/\PostX x w')/\runN P' N (lone (Zq P' f args .normal) [C5 P'] w)=.next (lone fe [] w'):=by
 obtain⟨e,w',fr,hR,sS,_,yV⟩:=h [C5 P'];cases e with
 |returned v=>
  obtain⟨N,hN⟩:=Steps.trans (show Steps P' _ _ from sS) (Steps.one (step_leave_returned yV));exact⟨N,_,w',.inl ⟨v,rfl,hR⟩,hN⟩
 |panicked c=>
  obtain⟨N,hN⟩:=Steps.trans (show Steps P' _ _ from sS) (Steps.one (step_leave_panicked yV));exact⟨N,_,w',.inr ⟨c,rfl,hR⟩,hN⟩
 |outgrown=>exact hR.elim
def DH {x:List zk}(h:(C5 P').finish v=(C5 P').raise x):False:=by have:=congrArg Frame.mode h;cases this
def Mq (h:(C5 P').finish v=(C5 P').finish v'):v=v':=by
 have:=congrArg Frame.todo h;simpa[C5,Zdr]using this
def TN (T:Twins P' P)(hd:BP<=P.depth)(hB:B.LM)(hl:B.lcs=[C5 P'])(hs:B.K.seg=false)(OG:B.top=false){PostX:List zk->Zb->Prop}(hb:C_ Post)(H_:C_ PostX)
 (hS:Fx P' P B (AU (Zq P' f args .normal) [C5 P']) w) (hc:∀t,Calls P' f args (tp w t) (gr Post PostX)):Cv P' B true (gh P' Post PostX) (AU (Zq P' f args .normal) [C5 P']) w:=by
 refine ID T hd hB (XN hl hb H_) hS fun t=>?_;obtain⟨N,fe,w',hR,hN⟩:=IH (hc t);refine IG T hd hB hl (hR.imp (fun⟨v,h,_⟩=>⟨v,h⟩) fun⟨x,h,_⟩=>⟨x,h⟩) (fun v h _ _=>?_) (fun x h=>?_) (fun _ _ _ _ _ h=>by rcases h with⟨h,_⟩|⟨h,_⟩;(rw[hs]at h;cases h);(rw[OG]at h;cases h)) N _ _ _ (hS.Ds t) hN
 .rcases hR with⟨v',h',hR⟩|⟨x,h',_⟩
  .exact .inl ⟨v',by rw[h'],hR⟩
  exact(DH (h.symm.trans h')).elim
 rcases hR with⟨v',h',_⟩|⟨x,h',hR⟩
 .exact(DH (h'.symm.trans h)).elim
 exact .inr ⟨x,by rw[h'],hR⟩
def results_tmp {fn:Func}(h:fn.results= #[.tmp i])(t:Array Zf)(w:Zb):(results fn t).runT P' w #[]=(.ok (t.getD i Ze) w,#[]):=by
 unfold results;rw[h,YW]
 rfl
def XQ {fn:Func}{j:Nat}(h:fn.results= #[.tmp i,.tmp j])(t:Array Zf)(w:Zb):(results fn t).runT P' w #[]=(.ok (.tuple #[t.getD i Ze,t.getD j Ze]) w,#[]):=by
 unfold results;rw[h,YW]
 rfl
def Gh.VL (h:Gh P' P B ρ (fr::cs) (Bx::cs'))(hn:cs.length=B.lcs.length):cs=B.lcs/\cs'=B.yT/\Hp P' P B.K ρ fr Bx:=by
 generalize e:fr::cs=M at h;generalize e':Bx::cs'=M' at h;cases h with
 |bot h=>cases e;cases e';exact⟨rfl,rfl,h⟩
 |cons h BL t=>
  cases e;have:=t.deep;simp only[zb]at this hn;omega
def VM (T:Twins P' P)(hd:BP<=P.depth)(hB:B.LM)(hl:B.lcs=[C5 P'])(hs:B.K.seg=true)(OG:B.top=false){fn:Func}(hf:P'.funcs[B.K.fn]?=some fn)(hr:∀t w,(results fn t).runT P' w #[]=(.ok (Y t) w,#[]))
 {PostX:List zk->Zb->Prop} (hb:C_ Post) (H_:C_ PostX)
 (hS:Fx P' P B (AU (Zq P' B.K.fn args .normal) [C5 P']) w) (hc:∀t,Calls P' B.K.fn args (tp w t) (gr Post PostX)):Cv P' B true (UD P' B Y Post PostX) (AU (Zq P' B.K.fn args .normal) [C5 P']) w:=by
 refine ID T hd hB (XO hl hb H_) hS fun t=>?_;obtain⟨N,fe,w',hR,hN⟩:=IH (hc t);refine IG T hd hB hl (hR.imp (fun⟨v,h,_⟩=>⟨v,h⟩) fun⟨x,h,_⟩=>⟨x,h⟩) (fun _ _ h=>by rw[hs]at h;cases h) (fun x h=>?_) (fun M fr cs w₁ KH ha' hM=>?_) N _ _ _ (hS.Ds t) hN
 .rcases hR with⟨v',h',_⟩|⟨x,h',hR⟩
  .exact(DH (h'.symm.trans h)).elim
  exact .inr ⟨x,by rw[h'],hR⟩
 obtain⟨ρ,g',w₂,E,⟨gp,gq,Bx,cs',e,rfl,hk⟩,hw,_⟩:=KH;cases e;have ha:B.K.seg=true/\(AU fr cs).callers.length=B.lcs.length/\(AU fr cs).frame.mode=.run/\(AU fr cs).frame.todo=[]:=ha'.elim id fun x=>by rw[OG]at x;cases x.1
 obtain⟨h1,h2,h3⟩:=hk.VL ha.2.1;obtain⟨p1,p2,p3,p4⟩:=h3.part hs;have AM:fr.mode=.run:=ha.2.2.1;have gu:fr.todo=[]:=ha.2.2.2;have hcs:cs=[C5 P']:=h1.trans hl;subst hcs;have s1:za P' true (AU fr [C5 P']) w₁=.go (AU {fr with mode:=.returning} [C5 P']) w₁ #[]:=by
  rw[BG.1 AM];exact GG (by rw[gu];exact .done) p1 (.inl rfl)
 have s2:za P' true (AU {fr with mode:=.returning} [C5 P']) w₁=.go (AU ((C5 P').finish (Y fr.tmps)) []) w₁ (seen P' fr.fn #[]):=by
  rw[BG.2 (by intro h;cases h)];exact DV (fr:= {fr with mode:=.returning}) p3 rfl h3.kind.1 (by rw[show({fr with mode:=FrameMode.returning}:ZM).fn=fr.fn from rfl,p4];exact hf) (hr _ _)
 rcases Lq (Qx s1) hM with hx|⟨auL,rfl,hy⟩
 .have:=congrArg List.length (Fi hx).2.1
  simp at this
 rcases Lq (Qx s2) hy with hx|⟨akQ,rfl,hz⟩
 .have:=congrArg List.length (Fi hx).2.1
  simp at this
 obtain⟨h4,_,h5⟩:=Fi (runN_ended (EO Ht) hz);rcases hR with⟨v,h',hR⟩|⟨x,h',_⟩
 .have hv:Y fr.tmps=v:=Mq (h4.trans h')
  refine .inl ⟨ha',h1,?_⟩;show Post (Y fr.tmps) w₁;rw[hv,h5];exact hR
 exact(DH (h4.trans h')).elim
def Ez (P':Zo)(B:H9)(fn:Func)(Post:Zf->Zb->Prop)(PostX:List zk->Zb->Prop)(g:Zi)(w:Zb):Prop:=(BQ B g/\g.callers=B.lcs/\∃i,fn.results= #[.tmp i]/\Post (g.frame.tmps.getD i Ze) w/\g.status=.running/\∃es,∀u,za P' true g u=.go (AU ((C5 P').finish (g.frame.tmps.getD i Ze)) []) u es)\/IsX P' PostX g w
def I5 {fn:Func}{PostX:List zk->Zb->Prop}(hl:B.lcs=[C5 P'])(hb:C_ Post)(H_:C_ PostX):Dg P' B m (Ez P' B fn Post PostX):=
 ⟨fun _ _ _ h=>h.elim (fun⟨h1,h2,i,h3,h4,h5⟩=>.inl ⟨h1,h2,i,h3,hb _ _ _ h4,h5⟩) fun h=>.inr (h.blind H_),fun _ _ hx=>.inr (Nq hl hx)⟩
def XR (T:Twins P' P)(hd:BP<=P.depth)(hB:B.LM)(hl:B.lcs=[C5 P'])(OG:B.top=true){fn:Func}(hf:P'.funcs[f]?=some fn)(hr:fn.results= #[.tmp i])
 {PostX:List zk->Zb->Prop} (hb:C_ Post) (H_:C_ PostX)
 (G9:B.K.fn=f)
 (hS:Fx P' P B (AU (Zq P' f args .normal) [C5 P']) w) (hc:∀t,Calls P' f args (tp w t) (gr Post PostX)):Cv P' B true (Ez P' B fn Post PostX) (AU (Zq P' f args .normal) [C5 P']) w:=by
 have hs:B.K.seg=false:=(hB.sQ OG).1;refine ID T hd hB (I5 hl hb H_) hS fun t=>?_;obtain⟨N,fe,w',hR,hN⟩:=IH (hc t);refine IG T hd hB hl (hR.imp (fun⟨v,h,_⟩=>⟨v,h⟩) fun⟨x,h,_⟩=>⟨x,h⟩) (fun _ _ _ h=>by rw[OG]at h;cases h) (fun x h=>?_) (fun M fr cs w₁ KH ha' hM=>?_) N _ _ _ (hS.Ds t) hN
 .rcases hR with⟨v',h',_⟩|⟨x,h',hR⟩
  .exact(DH (h'.symm.trans h)).elim
  exact .inr ⟨x,by rw[h'],hR⟩
 obtain⟨ρ,g',w₂,E,⟨gp,gq,Bx,cs',e,rfl,hk⟩,hw,_⟩:=KH;cases e;have ha:B.top=true/\(AU fr cs).callers.length=B.lcs.length/\(AU fr cs).frame.mode=.returning/\(AU fr cs).frame.defers=[]:=ha'.elim (fun x=>by rw[hs]at x;cases x.1) id;obtain⟨h1,h2,h3⟩:=hk.VL ha.2.1;have hff:fr.fn=f:=(h3.flat (hB.sQ OG).2.1).2.trans G9;have AM:fr.mode=.returning:=ha.2.2.1;have Kq:fr.defers=[]:=ha.2.2.2;have hcs:cs=[C5 P']:=h1.trans hl;subst hcs;have s2:∀w₁,za P' true (AU fr [C5 P']) w₁=.go (AU ((C5 P').finish (fr.tmps.getD i Ze)) []) w₁ (seen P' fr.fn #[]):=fun w₁=>by
  rw[BG.2 (by rw[AM];intro h;cases h)];exact DV Kq AM h3.kind.1 (by rw[hff];exact hf) (results_tmp hr _ _)
 rcases Lq (Qx (s2 w₁)) hM with hx|⟨akQ,rfl,hz⟩
 .have:=congrArg List.length (Fi hx).2.1
  simp at this
 obtain⟨h4,_,h5⟩:=Fi (runN_ended (EO Ht) hz);rcases hR with⟨v,h',hR⟩|⟨x,h',_⟩
 .have hv:fr.tmps.getD i Ze=v:=Mq (h4.trans h')
  refine .inl ⟨ha',h1,i,hr,?_,rfl,_,s2⟩;show Post (fr.tmps.getD i Ze) w₁;rw[hv,h5];exact hR
 exact(DH (h4.trans h')).elim
end
structure D1 (S:Nat->Prop)(w w₂:Zb):Prop where
 same:∀b,S b->w₂.heap[b]?=w.heap[b]?
 size:w.heap.size<=w₂.heap.size
 os:w₂.os=w.os
def D1.refl (S:Nat->Prop)(w:Zb):D1 S w w:=⟨fun _ _=>rfl,Zj _,rfl⟩
variable {S:Nat->Prop}
def D1.trans {a b c:Zb}(h:D1 S a b)(k:D1 S b c):D1 S a c:=⟨fun x hx=>(k.same x hx).trans (h.same x hx),Zr h.size k.size,k.os.trans h.os⟩
def Ib (S:Nat->Prop)(w w₁:Zb):Nat->Prop:=fun b=>S b\/(w.heap.size<=b/\b<w₁.heap.size)
def VN (S Lk:Nat->Prop)(e:Z9):Prop:=
 match e.loc with
 | .cell a=>S a.block/\(e.write=true->¬Lk a.block)
 | .obj r=>S r/\(e.write=true->¬Lk r)
 | .mark .noRoom=>True
 | .output=>True
 |_=>False
structure LN (S Lk:Nat->Prop)(w w₁:Zb)(es:Array Z9):Prop where
 size:w.heap.size<=w₁.heap.size
 still:∀b,b<w.heap.size->¬S b\/Lk b->w₁.heap[b]?=w.heap[b]?
 os:w₁.os=w.os
 tape:w₁.tape=w.tape
 output:w₁.output=w.output
 evs:∀e∈es,VN (Ib S w w₁) Lk e
inductive Xe (P:Zo)(m:Bool)(Lk:Nat->Prop)(Stop:(Nat->Prop)->Zi->Zb->Prop):(Nat->Prop)->Zi->Zb->Prop
 |stop {S:Nat->Prop} {g:Zi} {w:Zb} (h:∀w₂,D1 S w w₂->Stop S g w₂):Xe P m Lk Stop S g w
 |step {S:Nat->Prop} {g:Zi} {w:Zb} (hs:g.status=.running) (GI:Zb->Zi) (EP:Zb->Zb) (I6:Zb->Array Z9)
   (h:∀w₂,D1 S w w₂->za P m g w₂=.go (GI w₂) (EP w₂) (I6 w₂)/\LN S Lk w₂ (EP w₂) (I6 w₂)) (k:∀w₂,D1 S w w₂->Xe P m Lk Stop (Ib S w₂ (EP w₂)) (GI w₂) (EP w₂)):Xe P m Lk Stop S g w
section
variable {P' P:Zo}{B:H9}{m m':Bool}{Lk:Nat->Prop}
variable {g g':Zi}
open Classical in
def Xe.XS {Stop:(Nat->Prop)->Zi->Zb->Prop}(hs:g.status=.running)
 (hx:∀w₂,D1 S w w₂->∃AH w₁ es,za P m g w₂=.go AH w₁ es/\LN S Lk w₂ w₁ es/\Xe P m Lk Stop (Ib S w₂ w₁) AH w₁):Xe P m Lk Stop S g w:=by
 have hy:∀w₂,∃p:Zi×Zb×Array Z9,D1 S w w₂->za P m g w₂=.go p.1 p.2.1 p.2.2/\LN S Lk w₂ p.2.1 p.2.2/\Xe P m Lk Stop (Ib S w₂ p.2.1) p.1 p.2.1:=by
  intro w₂;by_cases h:D1 S w w₂
  .obtain⟨AH,w₁,es,h1,h2,h3⟩:=hx w₂ h
   exact⟨(AH,w₁,es),fun _=>⟨h1,h2,h3⟩⟩
  exact⟨(g,w,#[]),fun x=>absurd x h⟩
 refine .step hs (fun w₂=>(zo (hy w₂)).1) (fun w₂=>(zo (hy w₂)).2.1) (fun w₂=>(zo (hy w₂)).2.2) (fun w₂ h=>?_) fun w₂ h=>?_
 .exact⟨(zv (hy w₂) h).1,(zv (hy w₂) h).2.1⟩
 exact(zv (hy w₂) h).2.2
def Xe.imp {Stop Stop₂:(Nat->Prop)->Zi->Zb->Prop}(h:Xe P m Lk Stop S g w)(hi:∀S g w,Stop S g w->Stop₂ S g w):Xe P m Lk Stop₂ S g w:=by
 induction h with
 |stop h=>exact .stop fun w₂ Co=>hi _ _ _ (h w₂ Co)
 |step hs GI EP I6 h _ ih=>exact .step hs GI EP I6 h ih
def Cw (w:Zb)(b:Nat):Prop:=∃t n,w.shape? b=some (t,n)/\∀off,off<n->w.frozen? ⟨b,off,none⟩=true
def dh (w:Zb)(a:Addr):w.frozen? a=w.frozen? ⟨a.block,a.off,none⟩:=rfl
def Cw.lt {w:Zb}{b:Nat}(h:Cw w b):b<w.heap.size:=by
 obtain⟨t,n,hs,_⟩:=h;unfold Yn at hs;cases ho:w.heap[b]? with
 |none=>rw[ho]at hs;cases hs
 |some o=>exact(Za.1 ho).1
def FL.locked (L:FL ρ σ w w₁ w' w₁' d d'){b:Nat}(h:Cw w b):Cw w₁ b:=by
 have Az:=h.lt;obtain⟨t,n,hs,hf⟩:=h;exact⟨t,n,L.Fw.shape b t n Az hs,fun off ho=>L.Fw.frozen _ Az (hf off ho)⟩
def FL.jw (L:FL ρ σ w w₁ w' w₁' d d'){b:Nat}(h:Cw w b)(he:e∈d)(hw:e.write=true):(∀a,e.loc=.cell a->a.block≠b)/\e.loc≠ .obj b:=by
 have Az:=h.lt;obtain⟨t,n,hs,hf⟩:=h;refine⟨fun a ha hb=>?_,fun ho=>?_⟩
 .subst hb
  obtain⟨h1,h2⟩:=L.Fw.Rt e he hw a ha Az;rw[dh,hf _ (h2 t n hs)]at h1;cases h1
 have:=L.Fw.mR e he hw b ho Az;rw[hs]at this;cases this
def KI (J:Nat->Obj->Prop)(w:Zb)(b:Nat):Prop:=Cw w b\/∃o,J b o/\w.heap[b]?=some o
def FL.di (L:FL ρ σ w w₁ w' w₁' d d'){b:Nat}(hq:Quiet o)(Az:b<w.heap.size)(h:w₁.heap[b]?=some o)(he:e∈d)(hw:e.write=true):(∀a,e.loc=.cell a->a.block≠b)/\e.loc≠ .obj b:=by
 obtain⟨h1,h2⟩:=(L.Fw.awake b o hq Az h).2 e he hw;exact⟨fun a ha hb=>h2 a hb ha,h1⟩
structure Nr (P' P:Zo)(B:H9)(J:Nat->Obj->Prop)(ρ₀:Ren)(n₀ n₀':Nat)(Lk:Nat->Prop)(S:Nat->Prop)(ρ:Ren)(g:Zi)(w:Zb)(g':Zi)(w':Zb):Prop where
 env:Env P' P ρ
 le:ρ₀.le ρ
 fresh:∀b c,ρ b=some c->ρ₀ b=some c\/(n₀<=b/\n₀'<=c)
 size:n₀<=w.heap.size/\n₀'<=w'.heap.size
 goes:sP P' P B ρ g g'\/aen B ρ g g'\/gd P' P B ρ g g'
 world:WR ρ w w'
 lock:∀c,Lk c->∃b,ρ b=some c/\KI J w b
 holds:∀c,S c↔∃b,ρ b=some c
def WR.rely (h:WR ρ w w')(hS:∀c,S c↔∃b,ρ b=some c)(hr:D1 S w' w₂):WR ρ w w₂:=by
 refine⟨fun b c hb=>?_,hr.os.trans h.os⟩;obtain⟨o,o',h1,h2,h3⟩:=h.obj b c hb;exact⟨o,o',h1,by rw[hr.same c ((hS c).2 ⟨b,hb⟩)];exact h2,h3⟩
def WR.CN (h:WR ρ w w₂):Ii ρ (tp w (fun i=>w₂.tape (i - w.drawn+w₂.drawn))) w₂:=
 ⟨h.obj,fun i q=>by show w₂.tape (w.drawn+i - w.drawn+w₂.drawn) q=_;rw[Zbl,Nat.add_comm],h.os⟩
variable {Stop:Zi->Zb->Prop}
def Cv.vX (K:Dg P' B m Stop)(h:Cv P' B m Stop g w)(hx:Hs B g\/P9 B g):Stop g w:=by
 rcases K.back g w hx with h'|KJ
 .exact h'
 cases h with
 |stop h=>exact h
 |step hn hr AH w₁ es h k=>
  rcases K.back g (tp w w.tape) hx with h'|KJ
  .exact h'
  exact absurd (h w.tape) (KJ _ _ _)
def vY (P' P:Zo)(B:H9)(J:Nat->Obj->Prop)(Stop:Zi->Zb->Prop)(ρ₀:Ren)(n₀ n₀':Nat)(Lk:Nat->Prop)(S:Nat->Prop)(g':Zi)(w':Zb):Prop:=
 ∃ρ g w,Stop g w/\Nr P' P B J ρ₀ n₀ n₀' Lk S ρ g w g' w'
def nK (P' P:Zo)(B:H9)(J:Nat->Obj->Prop)(D:Zi->Zb->Prop)(ρ₀:Ren)(n₀ n₀':Nat)(Lk:Nat->Prop)(S:Nat->Prop)(g':Zi)(w':Zb):Prop:=
 ∃ρ g w t,D g w/\gd P' P B ρ g g'/\Nr P' P B J ρ₀ n₀ n₀' Lk S ρ g (tp w t) g' w'
def vZ (P' P:Zo)(B:H9)(J:Nat->Obj->Prop)(D Stop:Zi->Zb->Prop)(ρ₀:Ren)(n₀ n₀':Nat)(Lk:Nat->Prop)(S:Nat->Prop)(g':Zi)(w':Zb):Prop:=
 vY P' P B J Stop ρ₀ n₀ n₀' Lk S g' w'\/nK P' P B J D ρ₀ n₀ n₀' Lk S g' w'
def Cv.Ds (hb:∀g w t,Stop g w->Stop g (tp w t))(h:Cv P' B m Stop g w)(t:Tape):Cv P' B m Stop g (tp w t):=by
 cases h with
 |stop h=>exact .stop (hb _ _ _ h)
 |step hn hr AH w₁ es h k=>exact .step hn hr AH w₁ es (fun t'=>h t') k
def XT {B:H9}(h:sP P' P B ρ g g'):g'.status=.running:=by
 obtain⟨fr,cs,Bx,cs',_,rfl,_⟩:=h
 rfl
variable {J:Nat->Obj->Prop}
def KL (T:Twins P' P)(hd:BP<=P.depth)(hB:B.LM)(K:Dg P' B m Stop){D:Zi->Zb->Prop}(hD:∀g w t AH w₁ es,D g w->¬BQ B g->za P' m g (tp w t)=.go AH w₁ es->D AH w₁){ρ₀:Ren}{n₀ n₀':Nat}(hJq:∀b o,J b o->Quiet o/\b<n₀)(hJ:∀g w,D g w->n₀<=w.heap.size->Cv P' B m Stop g w->∀b o,J b o->w.heap[b]?=some o)(hX:∀σ g w,ρ₀.le σ->UB B σ g->¬Stop g w)(hM:Cv P' B m Stop g w)(RX:D g w):
  ∀(S:Nat->Prop) (ρ:Ren) (g':Zi) (w':Zb),Nr P' P B J ρ₀ n₀ n₀' Lk S ρ g w g' w'->Xe P m' Lk (vZ P' P B J D Stop ρ₀ n₀ n₀' Lk) S g' w':=by
 have stop:∀(g:Zi) (w:Zb),Stop g w->∀(S:Nat->Prop) (ρ:Ren) (g':Zi) (w':Zb),Nr P' P B J ρ₀ n₀ n₀' Lk S ρ g w g' w'->Xe P m' Lk (vZ P' P B J D Stop ρ₀ n₀ n₀' Lk) S g' w':=by
  intro g w h S ρ g' w' H;refine .stop fun w₂ hr=>.inl ⟨ρ,g,w,h,H.env,H.le,H.fresh,⟨H.size.1,Zr H.size.2 hr.size⟩,H.goes,H.world.rely H.holds hr,H.lock,H.holds⟩
 induction hM with
 |stop h=>exact stop _ _ h
 | @step g w hn hrn AH w₁ es h k ih=>
  intro S ρ g' w' H;have ih:=fun t=>ih t (hD _ _ t _ _ _ RX hn (h t));have hQ:=fun t hz=>hJ _ _ (hD _ _ t _ _ _ RX hn (h t)) hz (k t);rcases H.goes with hG|hb|Jv
  .refine Xe.XS (XT hG) fun w₂ hr=>?_
   have hw:=(H.world.rely H.holds hr).CN;generalize ht:(fun i=>w₂.tape (i - w.drawn+w₂.drawn))=t at hw;obtain⟨Bs,DZ,vT,hg,hx⟩:=RS (m:=m) (m':=m') T H.env hd hB hG hn hw (fun o u e=>by rw[h t];intro x;cases x);rw[h t]at hg;cases hg;rcases hx with⟨σ,hle,hl,_⟩|⟨σ,w₁',C9,BA,L,hs,hO,_⟩
   .exact absurd ((k t).vX K (.inr hl.lost)) (hX σ _ _ (Ren.le_trans H.le hle) hl)
   have v_:=hQ t (Zr H.size.1 L.Fw.size);have unw:∀ {b:Nat},KI J w b->∀ {e:Z9},e∈es t->e.write=true->(∀a,e.loc=.cell a->a.block≠b)/\e.loc≠ .obj b:=by
    rintro b (hl|⟨o,ho,_⟩) e he hw
    .exact L.jw (b:=b) hl he hw
    exact L.di (hJq b o ho).1 (Zl (hJq b o ho).2 H.size.1) (v_ b o ho) he hw
   refine⟨C9,w₁',BA,hs,⟨L.Fw.Nf,fun b hb hc=>?_,L.Fw.os,L.Fw.tape,L.Fw.output,fun e' he'=>?_⟩,ih t _ σ C9 w₁' ⟨H.env.mono L.le,Ren.le_trans H.le L.le,fun b c Kf=>?_,⟨Zr H.size.1 L.Fw.size,Zr H.size.2 (Zr hr.size L.Fw.Nf)⟩,hO,L.world,fun c hc=>?_,fun c=>?_⟩⟩
   .rcases L.Fw.still b hb with x|⟨b₀,h0,x⟩
    .exact x
    exfalso;rcases hc with hc|hc
    .exact hc ((H.holds b).2 ⟨b₀,h0⟩)
    obtain⟨akR,h1,h2⟩:=H.lock b hc;obtain rfl:=ρ.inj _ _ _ h0 h1;rcases x with x|⟨e,he,Qu,⟨a,ha,wa⟩|ho⟩
    .exact x
    .exact(unw h2 he Qu).1 a wa ha
    exact(unw h2 he Qu).2 ho
   .obtain⟨e,he,Pn⟩:=L.evs.right he'
    have held:∀b c,σ b=some c->Ib S w₂ w₁' c:=by
     intro b c Kf;rcases L.Fw.fresh b c Kf with x|⟨_,x⟩
     .exact .inl ((H.holds c).2 ⟨b,x⟩)
     exact .inr ⟨x,(L.world.lt Kf).2⟩
    have unl:∀b c,σ b=some c->Lk c->KI J w b:=by
     intro b c Kf hc;obtain⟨akR,h1,h2⟩:=H.lock c hc;obtain rfl:=σ.inj _ _ _ Kf (L.le.1 _ _ h1);exact h2
    have aet:=Pn.loc;unfold VN;cases hl:e.loc<;>cases Ka:e'.loc<;>rw[hl,Ka]at aet<;>cases aet
    .rename_i ha
     exact⟨held _ _ ha.1,fun Qu hc=>(unw (unl _ _ ha.1 hc) he (Pn.write▸Qu)).1 _ hl rfl⟩
    .rename_i ha
     exact⟨held _ _ ha,fun Qu hc=>(unw (unl _ _ ha hc) he (Pn.write▸Qu)).2 hl⟩
    .trivial
    rename_i hm;cases hm;trivial
   .rcases L.Fw.fresh b c Kf with x|⟨x,y⟩
    .exact H.fresh b c x
    exact .inr ⟨Zr H.size.1 x,Zr (Zr H.size.2 hr.size) y⟩
   .obtain⟨b,h1,h2⟩:=H.lock c hc
    exact⟨b,L.le.1 _ _ h1,h2.elim (fun x=>.inl (L.locked (w:=tp w t) x)) fun⟨o,x,_⟩=>.inr ⟨o,x,v_ b o x⟩⟩
   constructor
   .rintro(x|⟨x,y⟩)
    .obtain⟨b,hb⟩:=(H.holds c).1 x
     exact⟨b,L.le.1 _ _ hb⟩
    obtain⟨b,hb,_⟩:=L.Fw.new c x y;exact⟨b,hb⟩
   rintro⟨b,hb⟩;rcases L.Fw.fresh b c hb with x|⟨_,x⟩
   .exact .inl ((H.holds c).2 ⟨b,x⟩)
   exact .inr ⟨x,(L.world.lt hb).2⟩
  .obtain⟨_,c,r,c',r',v,v',h1,_,_,h2,_⟩:=hb
   rcases K.back g w (.inl ⟨c,r,v,h1,h2⟩) with h|KJ
   .exact stop _ _ h S ρ g' w' H
   exact absurd (h w.tape) (KJ _ _ _)
  refine .stop fun w₂ hr=>.inr ⟨ρ,g,w,w.tape,RX,Jv,H.env,H.le,H.fresh,⟨H.size.1,Zr H.size.2 hr.size⟩,H.goes,H.world.rely H.holds hr,H.lock,H.holds⟩
def Mr (T:Twins P' P)(hd:BP<=P.depth)(hB:B.LM)(K:Dg P' B m Stop)(hJq:∀b o,J b o->Quiet o)(hJ:∀g w,Stop g w->∀b o,J b o->w.heap[b]?=some o)(hM:Cv P' B m Stop g w):
  (Fx P' P B g w\/Hs B g\/P9 B g)->∀b o,J b o->b<w.heap.size->w.heap[b]?=some o:=by
 induction hM with
 |stop h=>exact fun _ b o hj _=>hJ _ _ h b o hj
 | @step g w hn _ AH w₁ es h k ih=>
  rintro(hS|hx) b o hj hb
  .obtain⟨hO,_,_,_,hz,hW⟩:=(hS.Ds w.tape).step T hd hB hn (h w.tape)
   exact hW b o (hJq b o hj) hb (ih w.tape hO b o hj (Zl hb hz))
  rcases K.back g w hx with h'|KJ
  .exact hJ _ _ h' b o hj
  exact absurd (h w.tape) (KJ _ _ _)
end
end Go.FA
namespace Go.FA
open Go Go.Conc
open Go.ConcN (sumTo upd sumTo_upd upd_ne upd_same)
section
variable {P:Zo}{Lk:Nat->Prop}{Shun:Loc->Prop}
def GZ (Shun:Loc->Prop)(n:Nat):Prop:=∀l,Shun l->∃a:Addr,l=.cell a/\a.block<n
def G0 (Shun:Loc->Prop)(S:Nat->Prop)(n:Nat):Prop:=∀b,S b->b<n/\∀a:Addr,a.block=b->¬Shun (.cell a)
variable {S:Nat->Prop}
variable {w w' w₁ w₂ w₁' CG:Zb}
def G0.wid (h:G0 Shun S w.heap.size)(hs:GZ Shun w.heap.size)(D':w.heap.size<=w₁.heap.size):G0 Shun (Ib S w w₁) w₁.heap.size:=by
 rintro b (hb|⟨h1,h2⟩)
 .exact⟨Zl (h b hb).1 D',(h b hb).2⟩
 refine⟨h2,fun a ha hx=>?_⟩;obtain⟨a',e,Az⟩:=hs _ hx;cases e;omega
variable {l l' i n r r' N:Nat}
variable {e e':Z9}
def yW {B:Nat}(h:VN S Lk e)(hS:G0 Shun S B)(hs:GZ Shun n):EvL Shun B e:=by
 obtain⟨loc,wr,sy⟩:=e;unfold VN at h;cases loc with
 |cell a=>
  dsimp only at h;obtain⟨h1,h2⟩:=hS _ h.1;refine⟨fun x hx yX=>?_,by simp,by simp,?_⟩
  .simp only[ZR,Yg,ZJ]at hx
   subst hx;exact absurd yX (h2 a rfl)
  .simp only[ZR,Zce,Loc.low];exact h1
 |obj r=>
  dsimp only at h;obtain⟨h1,h2⟩:=hS _ h.1;refine⟨fun x hx yX=>?_,by simp,by simp,?_⟩
  .obtain⟨a,ha,_⟩:=hs _ yX
   cases wr<;>cases sy<;>simp[ZR,Yg]at hx<;>(subst hx;cases ha)
  .cases wr<;>cases sy<;>simp[ZR,Zce,Loc.low]<;>exact h1
 |mark m=>
  cases m<;>first|exact h.elim|skip
  refine⟨fun x hx=>by simp[ZR,Yg]at hx,by simp,by simp,?_⟩;simp[ZR,Zce]
 |output=>
  refine⟨fun x hx yX=>?_,by simp,by simp,?_⟩
  .obtain⟨a,ha,_⟩:=hs _ yX
   simp only[ZR,Yg,ZJ]at hx;subst hx;cases ha
  .simp only[ZR,Zce,Loc.low]
 |_=>exact h.elim
structure Ms (S Lk:Nat->Prop)(w w':Zb)(S':Nat->Prop):Prop where
 size:w.heap.size<=w'.heap.size
 still:∀b,b<w.heap.size->¬S b\/Lk b->w'.heap[b]?=w.heap[b]?
 os:w'.os=w.os
 tape:w'.tape=w.tape
 output:w'.output=w.output
 more:∀b,S' b->S b\/w.heap.size<=b
def Ms.refl (S:Nat->Prop)(w:Zb):Ms S Lk w w S:=⟨Zj _,fun _ _ _=>rfl,rfl,rfl,rfl,fun _ h=>.inl h⟩
def Ms.step {S S':Nat->Prop}{w w₁ w₂:Zb}{es:Array Z9}(h:LN S Lk w w₁ es)(k:Ms (Ib S w w₁) Lk w₁ w₂ S'):Ms S Lk w w₂ S':=by
 refine⟨Zr h.size k.size,fun b hb hx=>?_,k.os.trans h.os,k.tape.trans h.tape,k.output.trans h.output,fun b hb=>?_⟩
 .rw[k.still b (Zl hb h.size) (hx.imp (fun hn x=>x.elim hn (fun y=>by omega)) id)]
  exact h.still b hb hx
 rcases k.more b hb with(x|x)|x
 .exact .inl x
 .exact .inr x.1
 exact .inr (Zr h.size x)
def gw (S:Nat->Prop)(w:Zb)(d:Nat):D1 S w (w.at d):=⟨fun _ _=>rfl,Zj _,rfl⟩
def RY {Stop:(Nat->Prop)->Zi->Zb->Prop}{a:Zi}(h:Xe P true Lk Stop S a w):
  ∀(M:Nat) (w₂:Zb) (gs:Array Zi) (sl:Option (Nat×Nat)) (t:YZ) (q:Nat->Nat),sumTo gs.size q<=M->D1 S w w₂->gs[0]?=some a->Leavers P t gs q->Past Shun w₂.heap.size t->G0 Shun S w₂.heap.size->GZ Shun w₂.heap.size->
   ∃(N:Nat) (gs':Array Zi) (a':Zi) (w':Zb) (I7:Option (Nat×Nat)) (t':YZ) (q':Nat->Nat) (S':Nat->Prop),
    ZaE P N (Yj gs w₂ sl) t=(.next (Yj gs' w' I7),t')/\gs'.size=gs.size/\gs'[0]?=some a'/\Stop S' a' w'/\Leavers P t' gs' q'/\Past Shun w'.heap.size t'/\G0 Shun S' w'.heap.size/\GZ Shun w'.heap.size/\Ms S Lk w₂ w' S':=by
 induction h with
 | @stop S a w h=>
  intro M w₂ gs sl t q _ hr h0 hL hP hS hs;exact⟨0,gs,a,w₂,sl,t,q,S,rfl,rfl,h0,h w₂ hr,hL,hP,hS,hs,Ms.refl _ _⟩
 | @step S a w By GI EP I6 B_ k ih=>
  intro M
  induction M with
  |zero=>?_
  |succ M ihM=>?_
  all_goals
   intro w₂ gs sl t q hM hr h0 hL hP hS hs;have yY:∀g∈gs,awake g:=by
    intro g hg;obtain⟨i,hi,rfl⟩:=ZbL.1 hg;rcases zQ i with rfl|Fy
    .have:gs[0]=a:=by simpa[Zx hi]using h0
     rw[this];exact awake_of (.inl By)
    exact awake_of ((hL.old i _ Fy (Zx hi)).status.elim .inl fun x=>.inr (.inr x))
   obtain⟨i,g,d,I7,hi,hg,Bu⟩:=crowd_pick (P:=P) (w:=w₂) (sl:=sl) yY ⟨0,a,h0,By⟩;have Pn:=hr.trans (gw S w₂ d);rcases zQ i with rfl|Fy
   .obtain rfl:g=a:=by rw[h0]at hi;exact(ZW hi).symm
    obtain⟨hgo,hG⟩:=B_ (w₂.at d) Pn;have FB:=Zb1 (P:=P) (sl:=I7) (i:=0) hi (show za P (0==0) g (w₂.at d)=_ from hgo);have D':((gs.map (woken P g (GI (w₂.at d)) (EP (w₂.at d)))).setIfInBounds 0 (GI (w₂.at d))).size=gs.size:=by simp
    have Az:0<gs.size:=(Za.1 h0).1;have hW:=G0.wid (w:=w₂.at d) hS hs hG.size;have DX:GZ Shun (EP (w₂.at d)).heap.size:=fun l hl=>by obtain⟨x,e,hx⟩:=hs l hl;exact⟨x,e,Zl hx hG.size⟩
    obtain⟨N,gs',a'',Xd,nL,t',q',S',Ox,LO,h0',Ts,Tp,hP',hH',yZ,hD⟩:=ih (w₂.at d) Pn (sumTo ((gs.map (woken P g (GI (w₂.at d)) (EP (w₂.at d)))).setIfInBounds 0 (GI (w₂.at d))).size q) (EP (w₂.at d)) ((gs.map (woken P g (GI (w₂.at d)) (EP (w₂.at d)))).setIfInBounds 0 (GI (w₂.at d))) I7 (t++ZK 0 g.frame.fn g.frame.place (I6 (w₂.at d))) q (Zj _) (D1.refl _ _) (by simp[Az])
     ⟨fun j x hj hx=>by
      have BL:0≠j:=by omega
      rw[Zk BL,zF]at hx;obtain⟨y,hy,rfl⟩:=zc.1 hx;have hq:=hL.old j y hj hy;rw[woken_quitsD hq,Y0 t (by omega) _ (fun op hop=>by obtain⟨e,_,rfl⟩:=ZQ hop;rfl)];exact hq,fun j hj=>by
      rw[Y0 t (g':=0) (by simp at hj;omega) _ (fun op hop=>by obtain⟨e,_,rfl⟩:=ZQ hop;rfl)];exact hL.above j (by simpa using hj)⟩
     ((hP.mono hG.size).own fun e he=>yW (hG.evs e he) hW hs) hW DX
    exact⟨N+1,gs',a'',Xd,nL,t',q',S',by simp only[ZaE,Bu,FB];exact Ox,LO.trans D',h0',Ts,Tp,hP',hH',yZ,Ms.step (w:=w₂) ⟨hG.size,hG.still,hG.os,hG.tape,hG.output,hG.evs⟩ hD⟩
   have hq:=hL.old i g Fy hi;have hi0:(i==0)=false:=by simp;omega
   have Az:i<gs.size:=(Za.1 hi).1;cases nM:q i with
   |zero=>rw[nM]at hq;rw[hq.1]at hg;cases hg
   |succ k'=>
    rw[nM]at hq;rcases hq with⟨hf,_⟩|⟨_,g',es,hm,nN,P_⟩
    .rw[hf]at hg;cases hg
    have FB:=Zb1 (P:=P) (sl:=I7) (i:=i) hi (by rw[hi0];exact nN (w₂.at d));have D':((gs.map (woken P g g' (w₂.at d))).setIfInBounds i g').size=gs.size:=by simp
    have aeu:sumTo gs.size (upd q i k')+(k'+1)=sumTo gs.size q+k':=by
     have:=sumTo_upd q k' id Az;simpa[nM]using this
    first
    |(exfalso;omega)
    |(obtain⟨N,gs',a'',Xd,nL,t',q',S',Ox,LO,h0',Ts,Tp,hP',hH',yZ,hD⟩:=ihM (w₂.at d) ((gs.map (woken P g g' (w₂.at d))).setIfInBounds i g') I7 (t++ZK i g.frame.fn g.frame.place es) (upd q i k') (by rw[D'];omega) Pn (by
        have BL:i≠0:=by omega
        rw[Zk BL,zF,h0];simp[woken_run By])
       ⟨fun j x hj hx=>by
        by_cases LZ:i=j
        .subst LZ
         rw[ZV (by simpa using Az)]at hx;obtain rfl:=ZW hx;rw[upd_same,Deaf_own];exact P_
        .rw[Zk LZ,zF]at hx
         obtain⟨y,hy,rfl⟩:=zc.1 hx;have hqj:=hL.old j y hj hy;rw[woken_quitsD hqj,upd_ne q k' (Za0 LZ),Y0 t LZ _ (fun op hop=>by obtain⟨e,_,rfl⟩:=ZQ hop;rfl)];exact hqj,fun j hj=>by
        rw[Y0 t (g':=i) (by simp at hj;omega) _ (fun op hop=>by obtain⟨e,_,rfl⟩:=ZQ hop;rfl)];exact hL.above j (by simpa using hj)⟩
       (hP.mute (by omega) hm) hS hs
      exact⟨N+1,gs',a'',Xd,nL,t',q',S',by simp only[ZaE,Bu,FB];exact Ox,LO.trans D',h0',Ts,Tp,hP',hH',yZ,⟨hD.size,hD.still,hD.os,hD.tape,hD.output,hD.more⟩⟩)
end
end Go.FA
