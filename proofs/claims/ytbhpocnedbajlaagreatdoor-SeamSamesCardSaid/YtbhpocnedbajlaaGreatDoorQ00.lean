/- Part of a proof. -/
import Derived.Conc.Beside
set_option maxRecDepth 100000
set_option maxHeartbeats 6400000
noncomputable section
set_option linter.all false
instance:Coe Go.World Nat:=⟨fun w=>w.heap.size⟩
instance:Coe Nat Go.Addr:=⟨fun b=>⟨b,0,none⟩⟩
instance:Coe Unit Go.Value:=⟨fun _=>.slice none 0 0⟩
def o! {p:Prop}(h:p:=by omega):p:=h
def i! {p:Prop}(h:p:=by simp):p:=h
def d! {p:Prop}(h:p:=by decide):p:=h
def j! {p:Prop}(h:p:=by simp;omega):p:=h
def q! {p:Prop}(h:p:=by simp<;>omega):p:=h
def a! {p:Prop}(h:p:=by assumption):p:=h
def h! {p:Prop}(h:p:=by cases h):p:=h
def x! {p:Prop}(h:p:=by cases x):p:=h
open Array renaming getElem?_eq_some_iff->Za,getElem?_eq_getElem->Zx,getElem?_eq_none_iff->ZaW,getElem?_push->YI,getElem?_setIfInBounds->Z5,getElem?_extract->Zd4,getElem?_map->zF,length_toList->Zd2,replicate->Yu,getD_eq_getD_getElem?->Yp,getElem?_modify->Y7,mem_append->ZaH,append_assoc->Zed,range->YN,forIn_toList->Zaf,all_eq_true_iff_forall_mem->zS,foldl_toList->Zb0,mapM_eq_mapM_toList->YW,eq_empty_of_size_eq_zero->Zcj,isEmpty->Zdc,toList_filter->Zd1,toArray_toList->ZdU,filter->Z1,mem_of_getElem?->zY,getElem?_append_left->zr,getElem?_setIfInBounds_ne->Zk,mem_iff_getElem->ZbL
open Bool renaming and_eq_true->ZF,eq_iff_iff->ZcG,or_eq_true->ZaK
open Classical renaming byContradiction->YQ,choose->zo,choose_spec->zv
open Go renaming FuncId->ZaQ,Value->Zf,TypeId->Zs,undef->Ze,World->Zb,Event->Z9,Program->Zo,Unsupported->Zdf,askRoom->Zah,loadCellsFrom->ZdD,storeCells->ZbX,loadVar->Zdd,typeHandle->ZdV,runtimePanic->zw,boundsPanic->ZaT,byteOfCell->ZdF,behindNumber->ZbP,Operand->Zbv,callFunc->Zz,Frame->ZM,resolve->Zbh,execOp->Zby,PanicEntry->zk,Goroutine->Zi,exitTo->Zbu,stepG->za
open Go.Addr renaming add->Zcu
open Go.Builtin renaming len_->Zc9,cap_->Zda,lenOf->ZcX,firstCells->Zu,copy_->ZcL,holdsCells->ZdT,mayShare->Yt,append_->Zao,zeroCells->Zt,nextslicecap->Yx,unsafeAdd_->YP,max2->Zc8,max_->Zc7,min2->Zc6,min_->Zc5
open Go.CallKind renaming early->ZaL
open Go.Conv renaming bytesToString->Zat
open Go.Deferred renaming ofValue->Yd
open Go.Frame renaming eval->Zeb,finish->Zdr,raise->ZaV,enter->Zq,round->ZdR
open Go.GStep renaming after->zM
open Go.Instr renaming alloc->ZdP,fieldAt->Zc2,indexAt->Zb9,sliceBound->Zcg,sliceBounds->Zbf,slice->ZbI,sliceAt->ZaI,field->ZdO,index->ZdN,extract->Zc3,makeInterface->ZbR,makeMap->Zc0,checkKey->YD,sameNow->Zbj,findNow->ZaJ,findAsking->zX,findKey->Zaj,fill->Zaq,build->Zbg,buildSlice->Zci,makeSlice->Zdp,sameBits->zH,keyThatStays->Yi,lookup->Za2,mapUpdate->ZaS,mapEntry->ZcK,entryStore->Zch,range->ZdM,next->Zea,typeAssert->Zbt,getLoop->Zc1,enterLoop->Zad,yield->ZdL,beginRound->ZaC,endRound->ZaU,endLoop->ZaD,takeDeferred->Yw
open Go.Made renaming depth->ZcT
open Go.Op renaming equalIn->ZaZ,equal->Zaa,stringOp->ZcJ,twoPlaces->Zd0
open Go.Program renaming underlying->ZbU,cellsOf->Zco,eqGuardType->Zdy
open Go.Question renaming extern->Zcd
open Go.Region renaming wanted->Yf
open Go.Sem renaming runT_bind'->ze,runT->ZI,pure->Zd7,runT_eq->zh,bind->Zb8
open Go.Value renaming pointer->ZbT,slice->Zy,tuple->YK,int->ZL
open Go.World renaming cell?->zy,shape?->Yn,frozen?->Yo,setCell->Z8
open List renaming all_cons->Zbs,filter_cons->ZbB,append_nil->ZaA,range->Yr,cons_append->Za1,exists_cons_of_ne_nil->Zam,append_assoc->Zae,length_cons->zb
open Nat renaming add_assoc->ZbZ,le_refl->Zj,le_trans->Zr,lt_of_lt_of_le->Zl,lt_or_ge->Zar,le_of_succ_le->Zbb,add_sub_cancel_left->Zbl
open Nat.succ renaming inj->ZE
open Option renaming map_eq_some_iff->zc,map_some->Zdh,isNone_eq_false_iff->ZcB,getD_some->Zw
open Option.some renaming inj->ZW,injEq->ZJ
open Std.Legacy.Range renaming forIn_eq_forIn_range'->Zdw
namespace Go.FA
open Go
structure Pk where
 val:ZaQ->Bool
 Nc:ZaQ->Bool
 dir:ZaQ->Nat->Bool
 low:Nat
instance:CoeFun Pk (λ_=>ZaQ->Bool):=⟨Pk.val⟩
structure Ren where
 map:Nat->Option Nat
 ok:Pk
 good:Code->Bool
 sp:ZaQ->Bool
 inj:∀b sd c,map b=some c->map sd=some c->b=sd
 base:map ok.low=some ok.low
 sep:∀b c,map b=some c->(b<ok.low↔c<ok.low)
instance:CoeFun Ren (λ_=>Nat->Option Nat):=⟨Ren.map⟩
def Ren.le (ρ a:Ren):Prop:=(∀b c,ρ b=some c->a b=some c)/\a.ok=ρ.ok/\a.good=ρ.good/\a.sp=ρ.sp
def Ren.le_refl (ρ:Ren):ρ.le ρ:=⟨λ_ _ h=>h,rfl,rfl,rfl⟩
variable {ρ σ τ:Ren}
def Ren.le_trans (h:ρ.le σ)(k:σ.le τ):ρ.le τ:=⟨λb c x=>k.1 b c (h.1 b c x),k.2.1.trans h.2.1,k.2.2.1.trans h.2.2.1,k.2.2.2.trans h.2.2.2⟩
def Ren.P5 (ρ:Ren)(r a:Nat):Prop:=(∀b,ρ b≠some a)/\ρ.ok.low<r/\ρ.ok.low<a
def Ren.ext (ρ:Ren)(r r':Nat)(h:ρ.P5 r r'):Ren where
 map:=λb=>if b=r then some r' else ρ b
 ok:=ρ.ok
 good:=ρ.good
 sp:=ρ.sp
 inj:=by
  intro b sd c hb Kt;split at hb<;>split at Kt
  .omega
  .cases hb;exact absurd Kt (h.1 _)
  .cases Kt;exact absurd hb (h.1 _)
  exact ρ.inj _ _ _ hb Kt
 base:=by
  have:=h.2.1;rw[if_neg o!];exact ρ.base
 sep:=by
  intro b c hb;have h1:=h.2.1;have h2:=h.2.2;split at hb
  .cases hb;omega
  exact ρ.sep b c hb
def AR (ρ:Ren)(a a':Addr):Prop:=ρ a.block=some a'.block/\a'.off=a.off/\a'.spot=a.spot
def Om (ρ:Ren):Option Addr->Option Addr->Prop
 |none,none=>True
 |some a,some a'=>AR ρ a a'
 |_,_=>False
def Rq (ρ:Ren):Option Nat->Option Nat->Prop
 |none,none=>True
 |some a,some a'=>ρ a=some a'
 |_,_=>False
inductive mP (ρ:Ren):Fn->Fn->Prop
 |func {f:ZaQ} (h:ρ.ok f=true):mP ρ (.func f) (.func f)
 |yield {l l':Nat} (h:ρ l=some l'):mP ρ (.yield l) (.yield l')
def adS:Zf->Bool
 | .pointer (some _)| .slice (some _) _ _| .map (some _)| .chan (some _)| .iface .. | .float .. | .complex .. =>true
 | .func (.method _) _ _=>false
 | .func .. =>true
 |_=>false
variable {v x y v' x' i' y' k':Zf}
def cP (h:adS v=true):v.cells= #[v]:=by cases v<;>first|rfl|cases h
def vH:Zf:=.func (.method "") #[.iface 0 (.tuple #[])] #[]
inductive VR (ρ:Ren):Zf->Zf->Prop
 |bool (b:Bool):VR ρ (.bool b) (.bool b)
 |int (k:IntKind) (n:Int):VR ρ (.int k n) (.int k n)
 |string (s:ByteArray):VR ρ (.string s) (.string s)
 |pointer {a a':Option Addr} (h:Om ρ a a'):VR ρ (.pointer a) (.pointer a')
 |slice {a a':Option Addr} (n c:Nat) (h:Om ρ a a'):VR ρ (.slice a n c) (.slice a' n c)
 |map {r r':Option Nat} (h:Rq ρ r r'):VR ρ (.map r) (.map r')
 |chan {r r':Option Nat} (h:Rq ρ r r'):VR ρ (.chan r) (.chan r')
 |func {fn Qt:Fn} {a a' c c':Array Zf} (h:mP ρ fn Qt) (ha:a.size=a'.size) (yy:∀(i:Nat) v v',a[i]?=some v->a'[i]?=some v'->VR ρ v v')
   (hc:c.size=c'.size) (Mi:∀(i:Nat) v v',c[i]?=some v->c'[i]?=some v'->VR ρ v v'):VR ρ (.func fn a c) (.func Qt a' c')
 |nilFunc:VR ρ .nilFunc .nilFunc
 |iface (t:Zs) {v v':Zf} (h:VR ρ v v'):VR ρ (.iface t v) (.iface t v')
 |nilIface:VR ρ .nilIface .nilIface
 |agg {c c':Array Zf} (hc:c.size=c'.size) (Mi:∀(i:Nat) v v',c[i]?=some v->c'[i]?=some v'->VR ρ v v'):VR ρ (.agg c) (.agg c')
 |tuple {c c':Array Zf} (hc:c.size=c'.size) (Mi:∀(i:Nat) v v',c[i]?=some v->c'[i]?=some v'->VR ρ v v'):VR ρ (.tuple c) (.tuple c')
 |Ew {v':Zf} (h:adS v'=true):VR ρ (.tuple #[]) v'
 |meth (n:String) (f c:Array Zf):VR ρ (.func (.method "") #[.iface 0 (.tuple #[])] #[]) (.func (.method n) f c)
 |void (a a':Addr):VR ρ (.slice (some a) 0 0) (.slice (some a') 0 0)
inductive Ep {α β:Type}(R:α->β->Prop):List α->List β->Prop
 |nil:Ep R [] []
 |cons {x:α} {y:β} {l:List α} {m:List β} (h:R x y) (t:Ep R l m):Ep R (x::l) (y::m)
variable {α β γ δ:Type}
def Ep.mono {R S:α->β->Prop}{l:List α}{m:List β}(h:Ep R l m)(b:∀x y,R x y->S x y):Ep S l m:=by
 induction h with
 |nil=>exact .nil
 |cons h _ a=>exact .cons (b _ _ h) a
def Ep.append {R:α->β->Prop}{l l':List α}{m m':List β}(h:Ep R l m)(k:Ep R l' m'):Ep R (l++l') (m++m'):=by
 induction h with
 |nil=>exact k
 |cons h _ a=>exact .cons h a
def Bz {d c:Type}(R:d->c->Prop)(a:Array d)(b:Array c):Prop:=a.size=b.size/\∀(i:Nat) x y,a[i]?=some x->b[i]?=some y->R x y
abbrev BS (ρ:Ren):Array Zf->Array Zf->Prop:=Bz (VR ρ)
section
variable {α β:Type}{R:α->β->Prop}{a:Array α}{b:Array β}
variable {l l' i n r r' N:Nat}
def Bz.get {x:α}(h:Bz R a b)(c:a[i]?=some x):∃y,b[i]?=some y/\R x y:=by
 obtain⟨e,rfl⟩:=Za.1 c;have d:i<b.size:=h.1▸e;exact⟨b[i],Zx d,h.2 i _ _ c (Zx d)⟩
def Bz.gone (h:Bz R a b)(c:a[i]?=none):b[i]?=none:=by
 rw[ZaW]at*;rw[<-h.1];exact c
def Bz.opt (h:Bz R a b)(i:Nat):(a[i]?=none/\b[i]?=none)\/∃x y,a[i]?=some x/\b[i]?=some y/\R x y:=by
 cases c:a[i]? with
 |none=>exact .inl ⟨rfl,h.gone c⟩
 |some x=>obtain⟨y,d,e⟩:=h.get c;exact .inr ⟨x,y,rfl,d,e⟩
def Bz.nil:Bz R #[] #[]:=⟨rfl,λi x y h=>by simp at h⟩
def Bz.mono {S:α->β->Prop}(h:Bz R a b)(e:∀x y,R x y->S x y):Bz S a b:=⟨h.1,λi x y d c=>e _ _ (h.2 i x y d c)⟩
def Bz.push {x:α}{y:β}(h:Bz R a b)(e:R x y):Bz R (a.push x) (b.push y):=by
 refine⟨by simp[h.1],λi u v d c=>?_⟩;rw[YI]at d c;rw[h.1]at d;split at d
 .rw[if_pos ‹_›]at c
  cases d;cases c;exact e
 rw[if_neg ‹_›]at c;exact h.2 i u v d c
def Bz.append {a':Array α}{f:Array β}(h:Bz R a b)(e:Bz R a' f):Bz R (a++a') (b++f):=by
 refine⟨by simp[h.1,e.1],λi u v d c=>?_⟩;rw[Array.getElem?_append]at d c;rw[h.1]at d;split at d
 .rw[if_pos ‹_›]at c;exact h.2 i u v d c
 rw[if_neg ‹_›]at c;exact e.2 _ u v d c
def Bz.set {x:α}{y:β}(h:Bz R a b)(e:R x y)(j:Nat):Bz R (a.setIfInBounds j x) (b.setIfInBounds j y):=by
 refine⟨by simp[h.1],λi u v d c=>?_⟩;rw[Z5]at d c;rw[h.1]at d;split at d
 .rw[if_pos ‹_›]at c
  split at d
  .rw[if_pos ‹_›]at c;cases d;cases c;exact e
  rw[if_neg ‹_›]at c;cases d
 rw[if_neg ‹_›]at c;exact h.2 i u v d c
def Bz.extract (h:Bz R a b)(s e:Nat):Bz R (a.extract s e) (b.extract s e):=by
 refine⟨by simp[h.1],λi u v c d=>?_⟩;rw[Zd4]at c d;rw[h.1]at c;split at c
 .rw[if_pos ‹_›]at d;exact h.2 _ u v c d
 cases c
def Bz.map {d c:Type}{S:d->c->Prop}{f:α->d}{g:β->c}(h:Bz R a b)(m:∀x y,R x y->S (f x) (g y)):Bz S (a.map f) (b.map g):=by
 refine⟨by simp[h.1],λi u v j e=>?_⟩;rw[zF,zc]at j e;obtain⟨x,l,rfl⟩:=j;obtain⟨y,k,rfl⟩:=e;exact m _ _ (h.2 i x y l k)
def Bz.single {x:α}{y:β}(h:R x y):Bz R #[x] #[y]:=Bz.push (a:= #[]) (b:= #[]) Bz.nil h
def Bz.list (h:Bz R a b):Ep R a.toList b.toList:=by
 have d:∀(l:List α) (m:List β),l.length=m.length->(∀(i:Nat) x y,l[i]?=some x->m[i]?=some y->R x y)->Ep R l m:=by
  intro l
  induction l with
  |nil=>intro m c _;cases m with
   |nil=>exact .nil
   |cons _ _=>simp at c
  |cons x l f=>intro m c e;cases m with
   |nil=>simp at c
   |cons y m=>exact .cons (e 0 x y rfl rfl) (f m (by simpa using c) λi u v n k=>e (i+1) u v (by simpa using n) (by simpa using k))
 exact d _ _ (by rw[Zd2,Zd2];exact h.1) λi x y j g=>h.2 i x y (by simpa using j) (by simpa using g)
def Bz.fL {l:List α}{m:List β}(h:Ep R l m):Bz R l.toArray m.toArray:=by
 induction h with
 |nil=>exact Bz.nil
 | @cons x y l m b _ a=>
  have:=(Bz.single b).append a;simpa using this
def Bz.replicate {x:α}{y:β}(n:Nat)(h:R x y):Bz R (Yu n x) (Yu n y):=
 ⟨i!,λi u v a b=>by
  rw[Array.getElem?_replicate]at a b;split at a
  .rw[if_pos ‹_›]at b;cases a;cases b;exact h
  cases a⟩
end
variable {f':Fn}
def mP.mono (h:ρ.le σ){f:Fn}(x:mP ρ f f'):mP σ f f':=by
 cases x with
 |func f=>exact .func (h.2.1▸f)
 |yield l=>exact .yield (h.1 _ _ l)
variable {a' b':Addr}
def AR.mono (h:ρ.le σ){a:Addr}(x:AR ρ a a'):AR σ a a':=⟨h.1 _ _ x.1,x.2⟩
def Om.mono (h:ρ.le σ){a a':Option Addr}(x:Om ρ a a'):Om σ a a':=by
 cases a<;>cases a'<;>first|exact x|exact AR.mono h x
def Rq.mono (h:ρ.le σ){a a':Option Nat}(x:Rq ρ a a'):Rq σ a a':=by
 cases a<;>cases a'<;>first|exact x|exact h.1 _ _ x
def VR.mono {ρ j:Ren}(h:ρ.le j){v v':Zf}(x:VR ρ v v'):VR j v v':=by
 induction x with
 |bool b=>exact .bool b
 |int k n=>exact .int k n
 |string s=>exact .string s
 |pointer x=>exact .pointer (x.mono h)
 |slice n c x=>exact .slice n c (x.mono h)
 |map x=>exact .map (x.mono h)
 |chan x=>exact .chan (x.mono h)
 |func x l _ e _ i g=>exact .func (x.mono h) l i e g
 |nilFunc=>exact .nilFunc
 |iface t _ d=>exact .iface t d
 |nilIface=>exact .nilIface
 |agg e _ d=>exact .agg e d
 |tuple e _ d=>exact .tuple e d
 |Ew h=>exact .Ew h
 |meth n f c=>exact .meth n f c
 |void a a'=>exact .void a a'
variable {a b c' t t' args:Array Zf}
def BS.mono (h:ρ.le σ)(x:BS ρ a b):BS σ a b:=Bz.mono x λ_ _=>VR.mono h
def VR.P6 (h:BS ρ a b):VR ρ (.agg a) (.agg b):=.agg h.1 h.2
def VR.tuple' (h:BS ρ a b):VR ρ (.tuple a) (.tuple b):=.tuple h.1 h.2
def VR.Xq {f:Fn}{a' c:Array Zf}(h:mP ρ f f')(d:BS ρ a a')(b:BS ρ c c'):VR ρ (.func f a c) (.func f' a' c'):=.func h d.1 d.2 b.1 b.2
def VR.undef (ρ:Ren):VR ρ Ze Ze:=.tuple' Bz.nil
def VR.cells {ρ:Ren}{v v':Zf}(h:VR ρ v v'):BS ρ v.cells v'.cells:=by
 cases h with
 |agg d e=>exact⟨d,e⟩
 |bool b=>exact Bz.single (.bool b)
 |int k n=>exact Bz.single (.int k n)
 |string s=>exact Bz.single (.string s)
 |pointer x=>exact Bz.single (.pointer x)
 |slice n c x=>exact Bz.single (.slice n c x)
 |map x=>exact Bz.single (.map x)
 |chan x=>exact Bz.single (.chan x)
 |func x i g d j=>exact Bz.single (.func x i g d j)
 |nilFunc=>exact Bz.single .nilFunc
 |iface t x=>exact Bz.single (.iface t x)
 |nilIface=>exact Bz.single .nilIface
 |tuple d e=>exact Bz.single (.tuple d e)
 |Ew h=>rw[cP h];exact Bz.single (.Ew h)
 |meth n f c=>exact Bz.single (.meth n f c)
 |void a a'=>exact Bz.single (.void a a')
def VR.getD {d f:Zf}(h:BS ρ a b)(j:VR ρ d f)(i:Nat):VR ρ (a.getD i d) (b.getD i f):=by
 rw[Yp,Yp];rcases h.opt i with⟨e,c⟩|⟨x,y,e,c,g⟩
 .rw[e,c];exact j
 rw[e,c];exact g
def yz (f a:Nat×Nat):Prop:=a=f\/a.2<=a.1\/(f.1<=a.1/\a.2<=f.2)
def okB:Builtin->Bool
 | .append| .cap| .copy| .len| .max| .min=>true
 |_=>false
inductive TgR (ρ:Ren):Target->Target->Prop
 |fn {f f':Fn} {c c':Array Zf} (h:mP ρ f f') (hc:BS ρ c c'):TgR ρ (.fn f c) (.fn f' c')
 |nil:TgR ρ .nil .nil
 |builtin {b:Builtin} (h:okB b=true) (a:Array Zs) (t:Zs) (c:Array Bool):TgR ρ (.builtin b a t c) (.builtin b a t c)
 |collected {r r':Nat} (h:ρ r=some r'):TgR ρ (.collected r) (.collected r')
structure DfR (ρ:Ren)(d d':Deferred):Prop where
 target:TgR ρ d.target d'.target
 args:BS ρ d.args d'.args
inductive fM (ρ:Ren):Deferred->Deferred->Prop
 |mk {b b':Nat} {a a':Array Zf} (h:ρ b=some b'):fM ρ {target:=.collected b,args:=a} {target:=.collected b',args:=a'}
structure LpR (ρ:Ren)(l l':Loop):Prop where
 state:l'.state=l.state
 pending:l'.pending=l.pending
 fn:l'.fn=l.fn
 tmps:BS ρ l.tmps l'.tmps
 params:l'.params=l.params
 assign:l'.assign=l.assign
 body:l'.body=l.body
 run:ρ.ok.Nc l.fn=true/\ρ.sp l.fn=false
 fine:ρ.good l.assign=true/\ρ.good l.body=true/\∀c,l.pending=some c->ρ.good c=true
 defers:ρ l.defers=some l'.defers
structure Ow (ρ:Ren)(e e':MapEntry):Prop where
 key:VR ρ e.key e'.key
 val:VR ρ e.val e'.val
 born:e'.born=e.born
def Pl:Obj->Bool
 | .cells _ _ _| .pending _ _| .view _ _| .number _ _=>false
 |_=>true
inductive Quiet:Obj->Prop
 |coro:Quiet (.coro none)
 |number (a:Addr) (l:Bool):Quiet (.number a l)
inductive OR (ρ:Ren):Obj->Obj->Prop
 |cells {c c':Array Zf} (e:Zs) {f f':Nat×Nat} (h:BS ρ c c') (hf:yz f f'):OR ρ (.cells c e f) (.cells c' e f')
 |map {es BA:Array MapEntry} (k:Nat) (h:Bz (Ow ρ) es BA):OR ρ (.map es k) (.map BA k)
 |chan (cap:Nat) {b b':Array Zf} (cl:Bool) (s r:Nat) (tm:Bool) (h:BS ρ b b'):OR ρ (.chan cap b cl s r tm) (.chan cap b' cl s r tm)
 |stringIter (s:ByteArray) (p:Nat):OR ρ (.stringIter s p) (.stringIter s p)
 |mapIter {m m':Option Nat} (a:Nat) (s:Array Nat) (k:Nat) (h:Rq ρ m m'):OR ρ (.mapIter m a s k) (.mapIter m' a s k)
 |number {a a':Addr} (lost:Bool) (h:AR ρ a a'):OR ρ (.number a lost) (.number a' lost)
 |loop {l l':Loop} (h:LpR ρ l l'):OR ρ (.loop l) (.loop l')
 |Fe:OR ρ (.deferred none) (.deferred none)
 |junk {o':Obj} (h:Pl o'=true):OR ρ (.coro none) o'
 |deferred:OR ρ (.deferred (some [])) (.deferred (some []))
def fM.mono (a:ρ.le σ){d b:Deferred}(h:fM ρ d b):fM σ d b:=by
 cases h with
 |mk h=>exact .mk (a.1 _ _ h)
def LpR.mono (h:ρ.le σ){l l':Loop}(x:LpR ρ l l'):LpR σ l l':=⟨x.state,x.pending,x.fn,BS.mono h x.tmps,x.params,x.assign,x.body,by rw[h.2.1,h.2.2.2];exact x.run,by rw[h.2.2.1];exact x.fine,h.1 _ _ x.defers⟩
def Ow.mono (h:ρ.le σ){e e':MapEntry}(x:Ow ρ e e'):Ow σ e e':=⟨x.key.mono h,x.val.mono h,x.born⟩
def OR.mono {ρ g:Ren}(h:ρ.le g){o i:Obj}(x:OR ρ o i):OR g o i:=by
 cases x with
 |cells e c f=>exact .cells e (BS.mono h c) f
 |map k e=>exact .map k (Bz.mono e λ_ _=>Ow.mono h)
 |chan d n s r j b=>exact .chan d n s r j (BS.mono h b)
 |stringIter s p=>exact .stringIter s p
 |mapIter a s k m=>exact .mapIter a s k (m.mono h)
 |number l a=>exact .number l (a.mono h)
 |loop l=>exact .loop (l.mono h)
 |Fe=>exact .Fe
 |junk h=>exact .junk h
 |deferred=>exact .deferred
structure WR (ρ:Ren)(w w':Zb):Prop where
 obj:∀b c,ρ b=some c->∃o o',w.heap[b]?=some o/\w'.heap[c]?=some o'/\OR ρ o o'
 os:w'.os=w.os
structure Ii (ρ:Ren)(w w':Zb):Prop where
 obj:∀b c,ρ b=some c->∃o o',w.heap[b]?=some o/\w'.heap[c]?=some o'/\OR ρ o o'
 tape:∀i q,w.tape (w.drawn+i) q=w'.tape (w'.drawn+i) q
 os:w'.os=w.os
variable {w w' w₁ w₂ w₁' CG:Zb}
def Ii.wr (h:Ii ρ w w'):WR ρ w w':=⟨h.obj,h.os⟩
def WR.lt {ρ:Ren}{w w':Zb}(h:WR ρ w w'){b c:Nat}(a:ρ b=some c):b<w.heap.size/\c<w':=by
 obtain⟨o,f,e,d,_⟩:=h.obj b c a;exact⟨(Za.1 e).1,(Za.1 d).1⟩
inductive yA (ρ:Ren):Mark->Mark->Prop
 |noRoom:yA ρ .noRoom .noRoom
inductive vI (ρ:Ren):Loc->Loc->Prop
 |cell {a a':Addr} (h:AR ρ a a'):vI ρ (.cell a) (.cell a')
 |obj {r r':Nat} (h:ρ r=some r'):vI ρ (.obj r) (.obj r')
 |mark {m m':Mark} (h:yA ρ m m'):vI ρ (.mark m) (.mark m')
 |output:vI ρ .output .output
structure rF (ρ:Ren)(e e':Z9):Prop where
 loc:vI ρ e.loc e'.loc
 write:e'.write=e.write
 sync:e'.sync=e.sync\/∃r,e'.loc=.obj r
def yA.mono (_:ρ.le σ){m m':Mark}(x:yA ρ m m'):yA σ m m':=by
 cases x with
 |noRoom=>exact .noRoom
def vI.mono {ρ b:Ren}(h:ρ.le b){l l':Loc}(x:vI ρ l l'):vI b l l':=by
 cases x with
 |cell a=>exact .cell (a.mono h)
 |obj r=>exact .obj (h.1 _ _ r)
 |mark m=>exact .mark (m.mono h)
 |output=>exact .output
variable {e e':Z9}
def rF.mono (h:ρ.le σ)(x:rF ρ e e'):rF σ e e':=⟨x.loc.mono h,x.write,x.sync⟩
def GY:Halt->Prop
 | .stuck _=>True
 | .unsupported (.initOrder _)=>False
 | .unsupported _=>True
 |_=>False
inductive Am (P' P:Zo)(fz:Prop){α β:Type}(Q:Ren->α->β->Prop):Ren->Sem α->Sem β->Prop
 |pure {ρ:Ren} {a:α} {b:β} (h:Q ρ a b):Am P' P fz Q ρ (.pure a) (.pure b)
 |load {ρ:Ren} {a a':Addr} {k:Zf->Sem α} {k':Zf->Sem β} (m:Mode) (ha:AR ρ a a') (h:∀v v',VR ρ v v'->Am P' P fz Q ρ (k v) (k' v')):Am P' P fz Q ρ (.load m a k) (.load m a' k')
 |store {ρ:Ren} {a a':Addr} {v v':Zf} {k:Sem α} {k':Sem β} (m:Mode) (ha:AR ρ a a') (hv:VR ρ v v') (h:Am P' P fz Q ρ k k'):Am P' P fz Q ρ (.store m a v k) (.store m a' v' k')
 |new {ρ:Ren} {o o':Obj} {k:Nat->Sem α} {k':Nat->Sem β} (ho:OR ρ o o') (h:∀r r' σ,ρ.le σ->σ r=some r'->Am P' P fz Q σ (k r) (k' r')):Am P' P fz Q ρ (.new o k) (.new o' k')
 |shape {ρ:Ren} {r r':Nat} {k:Option (Zs×Nat)->Sem α} {k':Option (Zs×Nat)->Sem β} (hr:ρ r=some r') (h:∀s,Am P' P fz Q ρ (k s) (k' s)):Am P' P fz Q ρ (.shape r k) (.shape r' k')
 |frozen {ρ:Ren} {a a':Addr} {k:Bool->Sem α} {k':Bool->Sem β} (ha:AR ρ a a') (h:∀b b',(b'=true->b=true)->Am P' P fz Q ρ (k b) (k' b')):Am P' P fz Q ρ (.frozen a k) (.frozen a' k')
 |getObj {ρ:Ren} {r r':Nat} {k:Obj->Sem α} {k':Obj->Sem β} (hr:ρ r=some r') (h:∀o o',OR ρ o o'->Am P' P fz Q ρ (k o) (k' o')):Am P' P fz Q ρ (.getObj r k) (.getObj r' k')
 |setObj {ρ:Ren} {r r':Nat} {o o':Obj} {k:Sem α} {k':Sem β} (hr:ρ r=some r') (ho:OR ρ o o') (hn:¬Quiet o) (h:Am P' P fz Q ρ k k'):Am P' P fz Q ρ (.setObj r o k) (.setObj r' o' k')
 |choose {ρ:Ren} {k:Nat->Sem α} {k':Nat->Sem β} (q:Question) (h:∀n,Am P' P fz Q ρ (k n) (k' n)):Am P' P fz Q ρ (.choose q k) (.choose q k')
 |program {ρ:Ren} {k:Zo->Sem α} {k':Zo->Sem β} (h:Am P' P fz Q ρ (k P') (k' P)):Am P' P fz Q ρ (.program k) (.program k')
 |mark {ρ:Ren} {m m':Mark} {k:Sem α} {k':Sem β} (hm:yA ρ m m') (h:Am P' P fz Q ρ k k'):Am P' P fz Q ρ (.mark m k) (.mark m' k')
 |env {ρ:Ren} {k:SysRet->Sem α} {k':SysRet->Sem β} (h:∀r,Am P' P fz Q ρ (k r) (k' r)):Am P' P fz Q ρ (.sys .env k) (.sys .env k')
 |bad {ρ:Ren} {x:Halt} {s':Sem β} (h:GY x):Am P' P fz Q ρ (.halt x) s'
 |He {ρ:Ren} {s:Sem α} {s':Sem β} (h:∀w es,∃x u f,s.runT P' w es=(.halt x u,f)/\GY x):Am P' P fz Q ρ s s'
 |panic {ρ:Ren} {v v':Zf} (h:VR ρ v v'):Am P' P fz Q ρ (.halt (.panic v)) (.halt (.panic v'))
variable {P' P:Zo}
def Ku {s:Sem γ}(h:∀w es,∃x u f,s.runT P' w es=(.halt x u,f)/\GY x)(f:γ->Sem α):∀w es,∃x u g,(s.bind f).runT P' w es=(.halt x u,g)/\GY x:=by
 intro w es;obtain⟨x,u,a,c,b⟩:=h w es;exact⟨x,u,a,by rw[ze,c],b⟩
section
variable {P' P:Zo}{fz:Prop}{α β γ δ:Type}{Q:Ren->α->β->Prop}{R:Ren->γ->δ->Prop}
def Am.bind {ρ:Ren}{s:Sem γ}{s':Sem δ}{f:γ->Sem α}{l:δ->Sem β}(h:Am P' P fz R ρ s s')(d:∀σ a b,ρ.le σ->R σ a b->Am P' P fz Q σ (f a) (l b)):
  Am P' P fz Q ρ (s.bind f) (s'.bind l):=by
 induction h with
 |pure h=>exact d _ _ _ (Ren.le_refl _) h
 |load m j _ c=>exact .load m j λv v' k=>c v v' k d
 |store m j k _ c=>exact .store m j k (c d)
 |new g _ c=>exact .new g λr p σ i e=>c r p σ i e λτ a b y=>d τ a b (Ren.le_trans i y)
 |shape e _ c=>exact .shape e λs=>c s d
 |frozen j _ c=>exact .frozen j λb b' x=>c b b' x d
 |getObj e _ c=>exact .getObj e λo t g=>c o t g d
 |setObj e g u _ c=>exact .setObj e g u (c d)
 |choose q _ c=>exact .choose q λn=>c n d
 |program _ c=>exact .program (c d)
 |mark w _ c=>exact .mark w (c d)
 |env _ c=>exact .env λr=>c r d
 |He h=>exact .He (Ku h f)
 |bad h=>exact .bad h
 |panic h=>exact .panic h
def Am.imp {s:Sem α}{s':Sem β}{j:Ren->α->β->Prop}(h:Am P' P fz Q ρ s s')(d:∀σ a b,ρ.le σ->Q σ a b->j σ a b):Am P' P fz j ρ s s':=by
 induction h with
 |pure h=>exact .pure (d _ _ _ (Ren.le_refl _) h)
 |load m i _ c=>exact .load m i λv v' k=>c v v' k d
 |store m i k _ c=>exact .store m i k (c d)
 |new f _ c=>exact .new f λr l σ g e=>c r l σ g e λτ a b x=>d τ a b (Ren.le_trans g x)
 |shape e _ c=>exact .shape e λs=>c s d
 |frozen i _ c=>exact .frozen i λb b' w=>c b b' w d
 |getObj e _ c=>exact .getObj e λo p f=>c o p f d
 |setObj e f t _ c=>exact .setObj e f t (c d)
 |choose q _ c=>exact .choose q λn=>c n d
 |program _ c=>exact .program (c d)
 |mark u _ c=>exact .mark u (c d)
 |env _ c=>exact .env λr=>c r d
 |He h=>exact .He h
 |bad h=>exact .bad h
 |panic h=>exact .panic h
end
def yz.refl (f:Nat×Nat):yz f f:=.inl rfl
section
variable {ρ:Ren}{w w':Zb}
def Ii.lt (h:Ii ρ w w'){b c:Nat}(a:ρ b=some c):b<w.heap.size/\c<w':=by
 obtain⟨o,f,e,d,_⟩:=h.obj b c a;exact⟨(Za.1 e).1,(Za.1 d).1⟩
def Ii.cell (h:Ii ρ w w'){a a':Addr}(c:AR ρ a a'){v:Zf}(b:w.cell? a=some v):∃v',w'.cell? a'=some v'/\VR ρ v v':=by
 obtain⟨o,j,d,i,g⟩:=h.obj _ _ c.1;cases g with
 |cells e f k=>
  simp only[zy,d,i,c.2.1,c.2.2]at b⊢;split at b
  .cases b
  .rw[if_neg ‹_›];exact f.get b
 |_=>simp[zy,d]at b
def Ii.far (h:Ii ρ w w'){a:Addr}(b:AR ρ a a')(P:Zo)(m:Bool):∃x,w.farLoad P a m=.error x/\GY x:=by
 obtain⟨o,e,d,_,c⟩:=h.obj _ _ b.1;unfold World.farLoad World.noCell;rw[d];cases c<;>exact⟨_,rfl,trivial⟩
def Ii.aks (h:Ii ρ w w'){a:Addr}(b:AR ρ a a')(P:Zo)(v:Zf)(m:Bool):∃x,w.farStore P a v m=.error x/\GY x:=by
 obtain⟨o,e,d,_,c⟩:=h.obj _ _ b.1;unfold World.farStore World.noCell;rw[d];cases c<;>exact⟨_,rfl,trivial⟩
def Ii.shape (h:Ii ρ w w'){b c:Nat}(i:ρ b=some c):w'.shape? c=w.shape? b:=by
 obtain⟨o,f,d,a,j⟩:=h.obj _ _ i;cases j with
 |cells e g k=>simp[Yn,d,a,g.1]
 | @junk f h=>cases f<;>first|(simp[Yn,d,a];done)|cases h
 |_=>simp[Yn,d,a]
variable {l l' i n r r' N:Nat}
def yz.at {f a:Nat×Nat}(h:yz f a)(hi:a.1<=i/\i<a.2):f.1<=i/\i<f.2:=by
 rcases h with rfl|h|h
 .exact hi
 .omega
 omega
def Ii.frozen (h:Ii ρ w w'){a a':Addr}(i:AR ρ a a')(b:w'.frozen? a'=true):w.frozen? a=true:=by
 obtain⟨o,g,m,d,l⟩:=h.obj _ _ i.1;cases l with
 | @cells c c' e f f' q j=>
  obtain⟨n,p⟩:=f;obtain⟨k,r⟩:=f';simp only[Yo,m,d,i.2.1,ZF,decide_eq_true_eq]at b⊢;exact j.at b
 | @junk g h=>cases g<;>first|(simp[Yo,d]at b;done)|cases h
 |_=>simp[Yo,d]at b
def sg {w:Zb}{a:Addr}(h:w.cell? a=some v){t:Zs}(b:w.shape? a.block=some (t,n)):a.off<n:=by
 unfold zy at h;unfold Yn at b;cases d:w.heap[a.block]? with
 |none=>rw[d]at h;cases h
 |some o=>
  rw[d]at h b;cases o with
  |cells c e f=>
   dsimp only at h b;cases b;split at h
   .cases h
   .exact(Za.1 h).1
  |_=>cases h
def Ij {w:Zb}{b:Nat}{f:Obj->Obj}(i:Nat):(w.heap.modify b f)[i]?=if b=i then(w.heap[i]?).map f else w.heap[i]? :=by
 rw[Y7]
def Rr (w:Zb)(a:Addr)(v:Zf)(b:Addr):(w.setCell a v).frozen? b=w.frozen? b:=by
 unfold Yo Z8;simp only[Ij];by_cases e:a.block=b.block
 .rw[if_pos e]
  cases w.heap[b.block]? with
  |none=>rfl
  |some o=>cases o<;>rfl
 rw[if_neg e]
def TD (w:Zb)(a:Addr)(v:Zf)(b:Nat):(w.setCell a v).shape? b=w.shape? b:=by
 unfold Yn Z8;simp only[Ij];by_cases e:a.block=b
 .rw[if_pos e]
  cases w.heap[b]? with
  |none=>rfl
  |some o=>cases o<;>first|rfl|(dsimp only[Zdh];split<;>simp)
 rw[if_neg e]
def Ii.setCell (h:Ii ρ w w'){a:Addr}(d:AR ρ a a')(y:VR ρ v v'):Ii ρ (w.setCell a v) (w'.setCell a' v'):=by
 refine⟨λb c g=>?_,h.tape,h.os⟩;obtain⟨o,f,t,q,n⟩:=h.obj _ _ g;simp only[Z8,Ij];by_cases e:a.block=b
 .have e':a'.block=c:=by
   have:=d.1;rw[e,g]at this;cases this;rfl
  rw[if_pos e,if_pos e',t,q];refine⟨_,_,rfl,rfl,?_⟩;cases n with
  |cells e j z=>
   refine .cells e ?_ z;rw[d.2.1,d.2.2];split
   .exact j
   .exact j.set y _
  |map k x=>exact .map k x
  |chan i A s r u x=>exact .chan i A s r u x
  |stringIter s p=>exact .stringIter s p
  |mapIter x s k m=>exact .mapIter x s k m
  |number l a=>exact .number l a
  |loop l=>exact .loop l
  |Fe=>exact .Fe
  | @junk f h=>cases f<;>first|exact .junk rfl|cases h
  |deferred=>exact .deferred
 have e':¬a'.block=c:=λx=>e (ρ.inj _ _ _ d.1 (x▸g));rw[if_neg e,if_neg e'];exact⟨o,f,t,q,n⟩
def Ii.fresh (h:Ii ρ w w'):ρ.P5 w w':=⟨λb a=>absurd (h.lt a).2 o!,(h.lt ρ.base).1,(h.lt ρ.base).2⟩
def Ii.mQ (h:Ii ρ w w'):ρ.le (ρ.ext w w' h.fresh):=by
 refine⟨λb c a=>?_,rfl,rfl,rfl⟩;have:=(h.lt a).1;show(if b=w then some w'.heap.size else ρ b)=some c;rw[if_neg o!];exact a
def Ii.new (h:Ii ρ w w'){o e:Obj}(f:OR ρ o e):Ii (ρ.ext w w' h.fresh) {w with heap:=w.heap.push o} {w' with heap:=w'.heap.push e}:=by
 have a:=h.mQ;refine⟨λb c d=>?_,h.tape,h.os⟩;dsimp only[Ren.ext]at d;split at d
 .cases d
  refine⟨o,e,?_,?_,f.mono a⟩
  .subst b;simp
  simp
 obtain⟨x,x',j,i,g⟩:=h.obj _ _ d;have:=h.lt d;refine⟨x,x',?_,?_,g.mono a⟩
 .rw[YI];rw[if_neg o!];exact j
 rw[YI];rw[if_neg o!];exact i
def Ii.setObj (h:Ii ρ w w'){r a:Nat}(g:ρ r=some a){o f:Obj}(i:OR ρ o f):Ii ρ {w with heap:=w.heap.setIfInBounds r o} {w' with heap:=w'.heap.setIfInBounds a f}:=by
 refine⟨λb c d=>?_,h.tape,h.os⟩;have m:=h.lt d;by_cases e:r=b
 .have e':a=c:=by rw[e,d]at g;cases g;rfl
  refine⟨o,f,?_,?_,i⟩
  .simp only[Z5,if_pos e];rw[if_pos o!]
  simp only[Z5,if_pos e'];rw[if_pos o!]
 have e':¬a=c:=λx=>e (ρ.inj _ _ _ g (x▸d));obtain⟨x,x',l,k,j⟩:=h.obj _ _ d;refine⟨x,x',?_,?_,j⟩
 .simp only[Z5,if_neg e];exact l
 simp only[Z5,if_neg e'];exact k
def Ii.drew (h:Ii ρ w w'):Ii ρ {w with drawn:=w.drawn+1} {w' with drawn:=w'.drawn+1}:=
 ⟨h.obj,λi q=>by have:=h.tape (i+1) q;rw[<-ZbZ, <-ZbZ]at this;simpa[Nat.add_right_comm]using this,h.os⟩
end
variable {o o':Obj}
def Nd {a:Addr}{b:Nat}(d:Quiet o)(h:(w.setCell a v).heap[b]?=some o):w.heap[b]?=some o:=by
 simp only[Z8,Y7]at h;split at h
 .cases c:w.heap[b]? with
  |none=>rw[c]at h;cases h
  |some p=>
   rw[c]at h;cases p<;>first|exact h|(simp at h;subst h;cases d)
 .exact h
structure JC (fz:Prop)(ρ σ:Ren)(w w₁ w' w₁':Zb)(d:Array Z9):Prop where
 size:w<=w₁.heap.size
 Nf:w'<=w₁'.heap.size
 fresh:∀b c,σ b=some c->ρ b=some c\/(w<=b/\w'<=c)
 new:∀c,w'.heap.size<=c->c<w₁'.heap.size->∃b,σ b=some c/\w<=b
 still:∀c,c<w'.heap.size->w₁'.heap[c]?=w'.heap[c]?\/(∃b,ρ b=some c/\(fz\/∃e∈d,e.write=true/\((∃a:Addr,a.block=b/\e.loc=.cell a)\/e.loc=.obj b)))
 Rt:∀e∈d,e.write=true->∀a,e.loc=.cell a->a.block<w.heap.size->w.frozen? a=false/\∀t n,w.shape? a.block=some (t,n)->a.off<n
 frozen:∀a:Addr,a.block<w.heap.size->w.frozen? a=true->w₁.frozen? a=true
 os:w₁'.os=w'.os
 tape:w₁'.tape=w'.tape
 output:w₁'.output=w'.output
 Pm:w₁.tape=w.tape
 drawn:w.drawn<=w₁.drawn
 mR:∀e∈d,e.write=true->∀r,e.loc=.obj r->r<w.heap.size->w.shape? r=none
 shape:∀b t n,b<w.heap.size->w.shape? b=some (t,n)->w₁.shape? b=some (t,n)
 awake:∀b o,Quiet o->b<w.heap.size->w₁.heap[b]?=some o->w.heap[b]?=some o/\∀e∈d,e.write=true->e.loc≠ .obj b/\∀a:Addr,a.block=b->e.loc≠ .cell a
def JC.refl (fz:Prop)(ρ:Ren)(w w':Zb):JC fz ρ ρ w w w' w' #[]:=
 ⟨Zj _,Zj _,λ_ _ h=>.inl h,λ_ h k=>absurd k o!,λ_ _=>.inl rfl,λe h=>by simp at h,λ_ _ h=>h,rfl,rfl,rfl,rfl,Zj _,λe h=>by simp at h,λ_ _ _ _ h=>h,λ_ _ _ _ h=>⟨h,λe a=>by simp at a⟩⟩
variable {fz:Prop}
variable {d d' Hf es:Array Z9}
def JC.trans (h:JC fz ρ τ w w₁ w' w₁' d)(k:JC fz τ σ w₁ w₂ w₁' CG Hf)(q:τ.le σ):
  JC fz ρ σ w w₂ w' CG (d++Hf):=by
 refine⟨Zr h.size k.size,Zr h.Nf k.Nf,λb c j=>?_,λc v u=>?_,λc C=>?_,λe i l a m f=>?_,λa m s=>k.frozen a (Zl m h.size) (h.frozen a m s),k.os.trans h.os,k.tape.trans h.tape,k.output.trans h.output,k.Pm.trans h.Pm,Zr h.drawn k.drawn,λe i l r A f=>?_,λb t n f g=>k.shape b t n (Zl f h.size) (h.shape b t n f g),λb o B f D=>?_⟩
 .rcases k.fresh b c j with x|⟨x,y⟩
  .exact h.fresh b c x
  exact .inr ⟨Zr h.size x,Zr h.Nf y⟩
 .rcases Zar c w₁' with x|x
  .obtain⟨b,j,g⟩:=h.new c v x
   exact⟨b,q.1 _ _ j,g⟩
  obtain⟨b,j,g⟩:=k.new c x u;exact⟨b,j,Zr h.size g⟩
 .rcases k.still c (Zl C h.Nf) with x|⟨b,j,x⟩
  .rcases h.still c C with y|⟨b,j,y⟩
   .exact .inl (x.trans y)
   exact .inr ⟨b,j,y.imp id λ⟨e,i,z⟩=>⟨e,ZaH.2 (.inl i),z⟩⟩
  rcases h.fresh b c j with y|⟨_,y⟩
  .exact .inr ⟨b,y,x.imp id λ⟨e,i,z⟩=>⟨e,ZaH.2 (.inr i),z⟩⟩
  omega
 .rcases ZaH.1 i with x|x
  .exact h.Rt e x l a m f
  have:=k.Rt e x l a m (Zl f h.size);refine⟨?_,λt n g=>this.2 t n (h.shape _ t n f g)⟩;cases s:w.frozen? a with
  |false=>rfl
  |true=>rw[h.frozen a f s]at this;cases this.1
 .rcases ZaH.1 i with x|x
  .exact h.mR e x l r A f
  have:=k.mR e x l r A (Zl f h.size);cases g:w.shape? r with
  |none=>rfl
  |some p=>obtain⟨t,n⟩:=p;rw[h.shape r t n f g]at this;cases this
 obtain⟨v,u⟩:=k.awake b o B (Zl f h.size) D;obtain⟨F,E⟩:=h.awake b o B f v;exact⟨F,λe i l=>(ZaH.1 i).elim (λx=>E e x l) λx=>u e x l⟩
def _root_.Go.Result.world {a:Type}:Result a->Zb
 | .ok _ w=>w
 | .halt _ w=>w
def mS {a:Type}(r:Result a):Prop:=∃x u,r=.halt x u/\GY x
inductive sh {α β:Type}(Q:Ren->α->β->Prop)(σ:Ren):Result α->Result β->Prop
 |ok {a:α} {b:β} {w w':Zb} (h:Q σ a b):sh Q σ (.ok a w) (.ok b w')
 |panic {v v':Zf} {w w':Zb} (h:VR σ v v'):sh Q σ (.halt (.panic v) w) (.halt (.panic v') w')
def _root_.Go.Result.tp {b:Type}(r:Result b)(t:Tape):Result b:=
 match r with
 | .ok a w=>.ok a {w with tape:=t}
 | .halt h w=>.halt h {w with tape:=t}
def iY {a:Type}(P':Zo)(s:Sem a)(w:Zb)(es:Array Z9)(r:Result a)(f:Array Z9):Prop:=
 ∀t:Tape,(∀i,w.drawn<=i->i<r.world.drawn->t i=w.tape i)->s.runT P' {w with tape:=t} es=(r.tp t,f)
def Am.run {Q:Ren->α->β->Prop}{s:Sem α}{s':Sem β}(h:Am P' P fz Q ρ s s'):
  ∀(w w':Zb),Ii ρ w w'->∀(es D:Array Z9) r f,s.runT P' w es=(r,f)->¬mS r->
   ∃σ F d d',ρ.le σ/\f=es++d/\s'.runT P w' D=(F,D++d')/\sh Q σ r F/\Ii σ r.world F.world/\Bz (rF σ) d d'/\JC fz ρ σ w r.world w' F.world d/\iY P' s w es r f:=by
 induction h with
 | @pure ρ a b h=>
  intro w w' A es D r f j _;rw[ZI]at j;cases j;exact⟨ρ,.ok b w',#[],#[],Ren.le_refl _,i!,by rw[ZI];simp,.ok h,A,Bz.nil,JC.refl _ _ _ _,λt _=>by rw[ZI];rfl⟩
 | @load ρ a a' k k' m U _ R=>
  intro w w' A es D r f j E;rw[ZI]at j;cases V:w.cell? a with
  |none=>
   rw[V]at j;obtain⟨x,S,ac⟩:=A.far U P' (m== .atomic);rw[S]at j;cases j;exact(E ⟨_,_,rfl,ac⟩).elim
  |some v=>
   rw[V]at j;obtain⟨v',iZ,an⟩:=A.cell U V;obtain⟨σ,F,d,d',C,G,O,N,M,L,B,K⟩:=R v v' an w w' A (es.push ⟨.cell a,false,m== .atomic⟩) (D.push ⟨.cell a',false,m== .atomic⟩) r f j E;refine⟨σ,F,#[⟨.cell a,false,m== .atomic⟩]++d,#[⟨.cell a',false,m== .atomic⟩]++d',C,by rw[G];simp,?_,N,M,(Bz.single ⟨.cell (U.mono C),rfl,.inl rfl⟩).append L,?_,λt J=>by rw[ZI,show zy {w with tape:=t} a=some v from V];exact K t J⟩
   .rw[ZI,iZ];simp only[];rw[O];simp
   .refine JC.trans (w₁:=w) (w₁':=w') (τ:=ρ) ⟨Zj _,Zj _,λ_ _ h=>.inl h,λ_ h k=>absurd k o!,λ_ _=>.inl rfl,λe l X=>?_,λ_ _ h=>h,rfl,rfl,rfl,rfl,Zj _,λe l X=>(by simp at l;subst l;cases X),λ_ _ _ _ h=>h,λ_ _ _ _ H=>⟨H,λe l A=>by simp at l;subst l;first|(cases A;done)|exact⟨(λx=>x!),(λ_ _ x=>x!)⟩⟩⟩ B C
    simp at l;subst l;cases X
 | @store ρ a a' v v' k k' m U hv _ R=>
  intro w w' A es D r f j E;by_cases W:(∃x,v=.agg x)\/(∃x,v=.tuple x)
  .rcases W with⟨x,rfl⟩|⟨x,rfl⟩<;>(simp only[ZI]at j;cases j;exact(E ⟨_,_,rfl,trivial⟩).elim)
  have hL:∀(p:Zo) (u:Zb) (g:Array Z9) (b:Addr) (x:Zf) (Y:Sem α),(¬((∃y,x=.agg y)\/(∃y,x=.tuple y)))->(Sem.store m b x Y).runT p u g=match u.cell? b with
    |some _=>if u.frozen? b then(.halt (.unsupported (.unsafePointer "a write to bytes that a string shares")) u,g) else Y.runT p (u.setCell b x) (g.push ⟨.cell b,true,m== .atomic⟩)
    |none=>match u.farStore p b x (m== .atomic) with
     | .ok (u,I)=>Y.runT p u (g++I.toArray.map (⟨.cell ·,true,m== .atomic⟩))
     | .error h=>(.halt h u,g):=by
   intro p u g b x Y S;cases x<;>first|exact absurd (.inl ⟨_,rfl⟩) S|exact absurd (.inr ⟨_,rfl⟩) S|rfl
  have Tp:∀(p:Zo) (u:Zb) (g:Array Z9) (b:Addr) (x:Zf) (Y:Sem β),(¬((∃y,x=.agg y)\/(∃y,x=.tuple y)))->(Sem.store m b x Y).runT p u g=match u.cell? b with
    |some _=>if u.frozen? b then(.halt (.unsupported (.unsafePointer "a write to bytes that a string shares")) u,g) else Y.runT p (u.setCell b x) (g.push ⟨.cell b,true,m== .atomic⟩)
    |none=>match u.farStore p b x (m== .atomic) with
     | .ok (u,I)=>Y.runT p u (g++I.toArray.map (⟨.cell ·,true,m== .atomic⟩))
     | .error h=>(.halt h u,g):=by
   intro p u g b x Y S;cases x<;>first|exact absurd (.inl ⟨_,rfl⟩) S|exact absurd (.inr ⟨_,rfl⟩) S|rfl
  rw[hL _ _ _ _ _ _ W]at j;have be:¬((∃y,v'=.agg y)\/(∃y,v'=.tuple y)):=by
   rintro(⟨y,rfl⟩|⟨y,rfl⟩)<;>cases hv<;>first|exact W (.inl ⟨_,rfl⟩)|exact W (.inr ⟨_,rfl⟩)
  cases V:w.cell? a with
  |none=>
   rw[V]at j;obtain⟨x,S,ac⟩:=A.aks U P' v (m== .atomic);rw[S]at j;cases j;exact(E ⟨_,_,rfl,ac⟩).elim
  |some u=>
   rw[V]at j;obtain⟨u',lM,_⟩:=A.cell U V;simp only[]at j;split at j
   .cases j;exact(E ⟨_,_,rfl,trivial⟩).elim
   .rename_i rG
    have bc:¬w'.frozen? a'=true:=λx=>rG (A.frozen U x);obtain⟨σ,F,d,d',C,G,O,N,M,L,B,K⟩:=R (w.setCell a v) (w'.setCell a' v') (A.setCell U hv) (es.push ⟨.cell a,true,m== .atomic⟩) (D.push ⟨.cell a',true,m== .atomic⟩) r f j E;refine⟨σ,F,#[⟨.cell a,true,m== .atomic⟩]++d,#[⟨.cell a',true,m== .atomic⟩]++d',C,by rw[G];simp,?_,N,M,(Bz.single ⟨.cell (U.mono C),rfl,.inl rfl⟩).append L,?_,λt J=>by rw[hL _ _ _ _ _ _ W,show zy {w with tape:=t} a=some u from V];simp only[];rw[if_neg (show¬Yo {w with tape:=t} a=true from rG)];exact K t J⟩
    .rw[Tp _ _ _ _ _ _ be,lM];simp only[];rw[if_neg bc,O];simp
    .refine JC.trans (w₁:=w.setCell a v) (w₁':=w'.setCell a' v') (τ:=ρ) ⟨by simp[Z8],by simp[Z8],λ_ _ h=>.inl h,λ_ h k=>absurd k (by simp[Z8];omega),λc _=>?_,λe l _ b T _=>?_,λb _ T=>?_,rfl,rfl,rfl,rfl,Zj _,λe l _ r j=>(by simp at l;subst l;cases j),λb t n _ h=>by rw[TD];exact h,λb o hq _ H=>?_⟩ B C
     .by_cases e:a'.block=c
      .exact .inr ⟨a.block,e▸U.1,.inr ⟨⟨.cell a,true,m== .atomic⟩,i!,rfl,.inl ⟨a,rfl,rfl⟩⟩⟩
      refine .inl ?_;simp only[Z8,Ij];rw[if_neg e]
     .simp at l;subst l;cases T;exact⟨by simpa using rG,λt n hs=>sg V hs⟩
     .rw[Rr];exact T
     .have BL:b≠a.block:=by
       rintro rfl;have:=Nd hq H;unfold zy at V;rw[this]at V;cases hq<;>cases V
      refine⟨Nd hq H,λe l _=>?_⟩;simp at l;subst l;exact⟨λx=>x!,λa' ba x=>by cases x;exact BL ba.symm⟩
 | @new ρ o o' k k' ho _ R=>
  intro w w' A es D r f j E;rw[ZI]at j;have am:=A.mQ;obtain⟨σ,F,d,d',C,G,O,N,M,L,B,K⟩:=R w w' (ρ.ext w w' A.fresh) am (by simp[Ren.ext]) {w with heap:=w.heap.push o} {w' with heap:=w'.heap.push o'} (A.new ho) es D r f j E;refine⟨σ,F,d,d',Ren.le_trans am C,G,by rw[ZI];exact O,N,M,L,?_,λt J=>by rw[ZI];exact K t J⟩;have:=JC.trans (fz:=fz) (d:= #[]) (w:=w) (w':=w') (w₁:= {w with heap:=w.heap.push o}) (w₁':= {w' with heap:=w'.heap.push o'}) (ρ:=ρ) (τ:=ρ.ext w w' A.fresh) ⟨i!,i!,λb c T=>?_,λc h k=>⟨w,by rw[Array.size_push]at k;dsimp only[Ren.ext];rw[if_pos rfl,show c=w' from by omega],Zj _⟩,λc V=>.inl ?_,λe h=>by simp at h,λa hl U=>?_,rfl,rfl,rfl,rfl,Zj _,λe h=>(by simp at h),λb t n hl h=>by unfold Yn at*;simp only[YI];rw[if_neg o!];exact h,λb o hq hl H=>⟨by simp only[YI]at H;rw[if_neg o!]at H;exact H,λe l=>by simp at l⟩⟩ B C
  .simpa using this
  .dsimp only[Ren.ext]at T
   split at T
   .cases T;exact .inr ⟨o!,Zj _⟩
   exact .inl T
  .simp only[YI];rw[if_neg o!]
  .unfold Yo at*
   simp only[YI];rw[if_neg o!];exact U
 | @shape ρ x x' k k' Pn _ R=>
  intro w w' A es D r f j E;rw[ZI]at j;obtain⟨σ,F,d,d',C,G,O,N,M,L,B,K⟩:=R _ w w' A es D r f j E;exact⟨σ,F,d,d',C,G,by rw[ZI,A.shape Pn];exact O,N,M,L,B,λt J=>by rw[ZI];exact K t J⟩
 | @frozen ρ a a' k k' U _ R=>
  intro w w' A es D r f j E;rw[ZI]at j;obtain⟨σ,F,d,d',C,G,O,N,M,L,B,K⟩:=R (w.frozen? a) (w'.frozen? a') (A.frozen U) w w' A es D r f j E;exact⟨σ,F,d,d',C,G,by rw[ZI];exact O,N,M,L,B,λt J=>by rw[ZI];exact K t J⟩
 | @getObj ρ x x' k k' S _ R=>
  intro w w' A es D r f j E;rw[ZI]at j;obtain⟨o,o',ho,rH,Z⟩:=A.obj _ _ S;rw[ho]at j;by_cases z:∃c e fr,o=.cells c e fr
  .obtain⟨c,e,fr,rfl⟩:=z
   cases j;exact(E ⟨_,_,rfl,trivial⟩).elim
  have Ox:(k o).runT P' w (es.push ⟨.obj x,false,o.isChan⟩)=(r,f):=by
   cases o<;>first|exact absurd ⟨_,_,_,rfl⟩ z|exact j
  obtain⟨σ,F,d,d',C,G,O,N,M,L,B,K⟩:=R o o' Z w w' A (es.push ⟨.obj x,false,o.isChan⟩) (D.push ⟨.obj x',false,o'.isChan⟩) r f Ox E;refine⟨σ,F,#[⟨.obj x,false,o.isChan⟩]++d,#[⟨.obj x',false,o'.isChan⟩]++d',C,by rw[G];simp,?_,N,M,(Bz.single ⟨.obj (C.1 _ _ S),rfl,.inr ⟨_,rfl⟩⟩).append L,?_,λt J=>by rw[ZI,show({w with tape:=t}:Zb).heap[x]?=some o from ho];cases o<;>first|exact absurd ⟨_,_,_,rfl⟩ z|exact K t J⟩
  .rw[ZI,rH]
   have:(k' o').runT P w' (D.push ⟨.obj x',false,o'.isChan⟩)=(F,D++(#[⟨.obj x',false,o'.isChan⟩]++d')):=by rw[O];simp
   cases Z<;>first|exact absurd ⟨_,_,_,rfl⟩ z|exact this|skip
   rename_i H;cases o'<;>first|exact this|cases H
  .refine JC.trans (w₁:=w) (w₁':=w') (τ:=ρ) ⟨Zj _,Zj _,λ_ _ h=>.inl h,λ_ h k=>absurd k o!,λ_ _=>.inl rfl,λe l X=>?_,λ_ _ h=>h,rfl,rfl,rfl,rfl,Zj _,λe l X=>(by simp at l;subst l;cases X),λ_ _ _ _ h=>h,λ_ _ _ _ H=>⟨H,λe l A=>by simp at l;subst l;first|(cases A;done)|exact⟨(λx=>x!),(λ_ _ x=>x!)⟩⟩⟩ B C
   simp at l;subst l;cases X
 | @setObj ρ x x' o o' k k' S Z hn _ R=>
  intro w w' A es D r f j E;rw[ZI]at j;obtain⟨u,u',hu,lM,ap⟩:=A.obj _ _ S;rw[hu]at j;by_cases z:∃c e fr,u=.cells c e fr
  .obtain⟨c,e,fr,rfl⟩:=z
   cases j;exact(E ⟨_,_,rfl,trivial⟩).elim
  have Ox:k.runT P' {w with heap:=w.heap.setIfInBounds x o} (es.push ⟨.obj x,true,o.isChan⟩)=(r,f):=by
   cases u<;>first|exact absurd ⟨_,_,_,rfl⟩ z|exact j
  obtain⟨σ,F,d,d',C,G,O,N,M,L,B,K⟩:=R _ _ (A.setObj S Z) (es.push ⟨.obj x,true,o.isChan⟩) (D.push ⟨.obj x',true,o'.isChan⟩) r f Ox E;refine⟨σ,F,#[⟨.obj x,true,o.isChan⟩]++d,#[⟨.obj x',true,o'.isChan⟩]++d',C,by rw[G];simp,?_,N,M,(Bz.single ⟨.obj (C.1 _ _ S),rfl,.inr ⟨_,rfl⟩⟩).append L,?_,λt J=>by rw[ZI,show({w with tape:=t}:Zb).heap[x]?=some u from hu];cases u<;>first|exact absurd ⟨_,_,_,rfl⟩ z|exact K t J⟩
  .rw[ZI,lM]
   have:k'.runT P {w' with heap:=w'.heap.setIfInBounds x' o'} (D.push ⟨.obj x',true,o'.isChan⟩)=(F,D++(#[⟨.obj x',true,o'.isChan⟩]++d')):=by rw[O];simp
   cases ap<;>first|exact absurd ⟨_,_,_,rfl⟩ z|exact this|skip
   rename_i H;cases u'<;>first|exact this|cases H
  .refine JC.trans (w₁:= {w with heap:=w.heap.setIfInBounds x o}) (w₁':= {w' with heap:=w'.heap.setIfInBounds x' o'}) (τ:=ρ) ⟨i!,i!,λ_ _ h=>.inl h,λ_ h k=>absurd k j!,λc _=>?_,λe l _ b T _=>?_,λb _ T=>?_,rfl,rfl,rfl,rfl,Zj _,λe l _ y hy _=>(by simp at l;subst l;cases hy;unfold Yn;rw[hu];cases u<;>first|exact absurd ⟨_,_,_,rfl⟩ z|rfl),λb t n _ h=>by(unfold Yn at*;simp only[Z5];by_cases e:x=b;(rw[<-e,hu]at h;cases u<;>first|exact absurd ⟨_,_,_,rfl⟩ z|cases h);(rw[if_neg e];exact h)),λb p hq T H=>?_⟩ B C
   .by_cases e:x'=c
    .exact .inr ⟨x,e▸S,.inr ⟨⟨.obj x,true,o.isChan⟩,i!,rfl,.inr rfl⟩⟩
    refine .inl ?_;simp only[Z5,if_neg e]
   .simp at l;subst l;cases T
   .unfold Yo at*
    simp only[Z5];by_cases e:x=b.block
    .rw[<-e,hu]at T
     cases u<;>first|exact absurd ⟨_,_,_,rfl⟩ z|cases T
    rw[if_neg e];exact T
   .have ai:x≠b:=by
     rintro rfl;simp only[Z5,if_true]at H;rw[if_pos T]at H;rw[ZW H]at hn;exact hn hq
    simp only[Z5,if_neg ai]at H;refine⟨H,λe l _=>?_⟩;simp at l;subst l;exact⟨λx=>(by cases x;exact ai rfl),λ_ _ x=>x!⟩
 | @choose ρ k k' q _ R=>
  intro w w' A es D r f j E;rw[ZI]at j;split at j
  .obtain⟨σ,F,d,d',C,G,O,N,M,L,B,K⟩:=R 0 w w' A es D r f j E
   exact⟨σ,F,d,d',C,G,by rw[ZI,if_pos ‹_›];exact O,N,M,L,B,λt J=>by rw[ZI,if_pos ‹_›];exact K t J⟩
  .have J:w.tape w.drawn q=w'.tape w'.drawn q:=by simpa using A.tape 0 q
   obtain⟨σ,F,d,d',C,G,O,N,M,L,B,K⟩:=R (q.cut (w.tape w.drawn q)) _ _ A.drew es D r f j E;refine⟨σ,F,d,d',C,G,by rw[ZI,if_neg ‹_›, <-J];exact O,N,M,L,?_,λt hz=>by rw[ZI,if_neg ‹_›];have e:t w.drawn=w.tape w.drawn:=hz _ (Zj _) B.drawn;show(k (q.cut (t w.drawn q))).runT P' _ _=_;rw[e];exact K t (λi a b=>hz i (Zbb a) b)⟩;exact⟨B.size,B.Nf,B.fresh,B.new,B.still,B.Rt,B.frozen,B.os,B.tape,B.output,B.Pm,Zbb B.drawn,B.mR,B.shape,B.awake⟩
 |program _ R=>
  intro w w' A es D r f j E;rw[ZI]at j;obtain⟨σ,F,d,d',C,G,O,N,M,L,B,K⟩:=R w w' A es D r f j E;exact⟨σ,F,d,d',C,G,by rw[ZI];exact O,N,M,L,B,λt J=>by rw[ZI];exact K t J⟩
 | @mark ρ m m' k k' hm _ R=>
  intro w w' A es D r f j E;rw[ZI]at j;obtain⟨σ,F,d,d',C,G,O,N,M,L,B,K⟩:=R w w' A (es.push ⟨.mark m,false,true⟩) (D.push ⟨.mark m',false,true⟩) r f j E;refine⟨σ,F,#[⟨.mark m,false,true⟩]++d,#[⟨.mark m',false,true⟩]++d',C,by rw[G];simp,by rw[ZI,O];simp,N,M,(Bz.single ⟨.mark (hm.mono C),rfl,.inl rfl⟩).append L,?_,λt J=>by rw[ZI];exact K t J⟩;refine JC.trans (w₁:=w) (w₁':=w') (τ:=ρ) ⟨Zj _,Zj _,λ_ _ h=>.inl h,λ_ h k=>absurd k o!,λ_ _=>.inl rfl,λe l X=>?_,λ_ _ h=>h,rfl,rfl,rfl,rfl,Zj _,λe l X=>(by simp at l;subst l;cases X),λ_ _ _ _ h=>h,λ_ _ _ _ H=>⟨H,λe l A=>by simp at l;subst l;first|(cases A;done)|exact⟨(λx=>x!),(λ_ _ x=>x!)⟩⟩⟩ B C;simp at l;subst l;cases X
 | @env ρ k k' _ R=>
  intro w w' A es D r f j E;rw[ZI]at j;have e1:∀u:Zb,u.sys .env=(.strings u.os.env,u):=λu=>rfl;rw[e1]at j;obtain⟨σ,F,d,d',C,G,O,N,M,L,B,K⟩:=R (.strings w.os.env) w w' A (es.push ⟨.output,true,false⟩) (D.push ⟨.output,true,false⟩) r f j E;refine⟨σ,F,#[⟨.output,true,false⟩]++d,#[⟨.output,true,false⟩]++d',C,by rw[G];simp,?_,N,M,(Bz.single ⟨.output,rfl,.inl rfl⟩).append L,?_,λt J=>by rw[ZI,e1];exact K t J⟩
  .rw[ZI,e1];simp only[A.os];rw[O];simp
  .refine JC.trans (w₁:=w) (w₁':=w') (τ:=ρ) ⟨Zj _,Zj _,λ_ _ h=>.inl h,λ_ h k=>absurd k o!,λ_ _=>.inl rfl,λe l _ a U=>?_,λ_ _ h=>h,rfl,rfl,rfl,rfl,Zj _,λe l _ r j=>(by simp at l;subst l;cases j),λ_ _ _ _ h=>h,λ_ _ _ _ H=>⟨H,λe l A=>by simp at l;subst l;first|(cases A;done)|exact⟨(λx=>x!),(λ_ _ x=>x!)⟩⟩⟩ B C
   simp at l;subst l;cases U
 | @He ρ s s' h=>
  intro w w' A es D r f j E;obtain⟨x,u,bi,C,G⟩:=h w es;rw[C]at j;cases j;exact(E ⟨_,_,rfl,G⟩).elim
 | @bad ρ x s' h=>
  intro w w' A es D r f j E;rw[ZI]at j;cases j;exact(E ⟨_,_,rfl,h⟩).elim
 | @panic ρ v v' h=>
  intro w w' A es D r f j _;rw[ZI]at j;cases j;exact⟨ρ,.halt (.panic v') w',#[],#[],Ren.le_refl _,i!,by rw[ZI];simp,.panic h,A,Bz.nil,JC.refl _ _ _ _,λt _=>by rw[ZI];rfl⟩
def DC (P' P:Zo)(fz:Prop){c b:Type}(Q:Ren->c->b->Prop)(ρ:Ren)(s:Sem c)(s':Sem b):Prop:=
 ∀(w w':Zb),Ii ρ w w'->∀(es e:Array Z9) r f,s.runT P' w es=(r,f)->¬mS r->
  ∃σ a d d',ρ.le σ/\f=es++d/\s'.runT P w' e=(a,e++d')/\sh Q σ r a/\WR σ r.world a.world/\Bz (rF σ) d d'/\JC fz ρ σ w r.world w' a.world d/\iY P' s w es r f
section
variable {P' P:Zo}{fz:Prop}{α β γ δ:Type}{Q:Ren->α->β->Prop}{R:Ren->γ->δ->Prop}{ρ:Ren}
def Am.ok {s:Sem α}{s':Sem β}(h:Am P' P fz Q ρ s s'):DC P' P fz Q ρ s s':=λw w' b es p r f c e=>by
 obtain⟨σ,a,d,d',o,n,m,l,k,j,i,g⟩:=h.run w w' b es p r f c e;exact⟨σ,a,d,d',o,n,m,l,k.wr,j,i,g⟩
def Am.al {s:Sem α}{s':Sem β}(h:Am P' P fz Q ρ s s')(j:Ii ρ w w'){g:Array Z9}{a:α}{b:β}{f n:Array Z9}(m:s.runT P' w es=(.ok a w₁,f))(l:s'.runT P w' g=(.ok b w₁',n)):
  ∀i q,w₁.tape (w₁.drawn+i) q=w₁'.tape (w₁'.drawn+i) q:=by
 obtain⟨σ,o,d,d',_,_,c,_,k,_⟩:=h.run w w' j es g _ _ m (λ⟨x,u,e,_⟩=>by cases e);rw[l]at c;cases c;exact k.tape
def DC.bind {s:Sem γ}{s':Sem δ}{f:γ->Sem α}{H:δ->Sem β}(h:Am P' P fz R ρ s s')(W:∀σ a b,ρ.le σ->R σ a b->DC P' P fz Q σ (f a) (H b)):DC P' P fz Q ρ (s.bind f) (s'.bind H):=by
 intro w w' F es D r g c G;rw[ze]at c;rcases o:s.runT P' w es with⟨I,X⟩;rw[o]at c;cases I with
 |halt x u=>
  cases c;obtain⟨σ,J,d,d',m,C,B,A,z,q,j,p⟩:=h.run w w' F es D _ _ o (λ⟨y,v,e,k⟩=>by cases e;exact G ⟨_,_,rfl,k⟩);cases A with
  | @panic v v' _ w₂ U=>
   refine⟨σ,.halt (.panic v') w₂,d,d',m,C,by rw[ze,B],.panic U,z.wr,q,j,λt l=>?_⟩;rw[ze,p t l];rfl
 |ok a u=>
  obtain⟨σ,J,d,d',m,C,B,A,z,q,j,p⟩:=h.run w w' F es D _ _ o (λ⟨y,v,e,k⟩=>by cases e);cases A with
  | @ok _ b _ w₂ V=>
   dsimp only at c;obtain⟨τ,n,e,e',k1,T,S,O,k5,N,E,M⟩:=W σ a b m V u w₂ z X (D++d') r g c G;refine⟨τ,n,d++e,d'++e',Ren.le_trans m k1,by rw[T,C,Zed],by rw[ze,B];dsimp only;rw[S,Zed],O,k5,(Bz.mono q λ_ _=>rF.mono k1).append N,j.trans E k1,λt l=>?_⟩;have L:u.drawn<=r.world.drawn:=E.drawn;have K:w.drawn<=u.drawn:=j.drawn;rw[ze,p t (λi a b=>l i a (Zl b L))];exact M t (λi a b=>by
    have:=l i (Zr K a) b;have e:u.tape=w.tape:=j.Pm;rw[e];exact this)
def DC.map {s:Sem γ}{s':Sem δ}{f:γ->α}{B:δ->β}(h:DC P' P fz R ρ s s')(I:∀σ a b,ρ.le σ->R σ a b->Q σ (f a) (B b)):DC P' P fz Q ρ (s.bind λx=>.pure (f x)) (s'.bind λx=>.pure (B x)):=by
 intro w w' C es D r g c J;rw[ze]at c;rcases l:s.runT P' w es with⟨E,K⟩;rw[l]at c;cases E with
 |halt x u=>
  cases c;obtain⟨σ,F,d,d',i,A,z,q,p,o,n,m⟩:=h w w' C es D _ _ l (λ⟨y,v,e,k⟩=>by cases e;exact J ⟨_,_,rfl,k⟩);cases q with
  | @panic v v' _ w₂ G=>
   refine⟨σ,.halt (.panic v') w₂,d,d',i,A,by rw[ze,z],.panic G,p,o,n,λt j=>?_⟩;rw[ze,m t j];rfl
 |ok a u=>
  obtain⟨σ,F,d,d',i,A,z,q,p,o,n,m⟩:=h w w' C es D _ _ l (λ⟨y,v,e,k⟩=>by cases e);dsimp only at c;rw[ZI]at c;cases c;cases q with
  | @ok _ b _ w₂ H=>
   refine⟨σ,.ok (B b) w₂,d,d',i,A,by rw[ze,z];dsimp only;rw[ZI],.ok (I _ _ _ i H),p,o,n,λt j=>?_⟩;rw[ze,m t j];show(Zd7 (f a)).runT P' _ _=_;rw[ZI];rfl
end
structure Twins (P' P:Zo):Prop where
 tables:P'.toTables=P.toTables
 zero:∀t i v,P.info? t=some i->i.zero=some v->∀ρ:Ren,VR ρ v v
 lack:∀i,P.info? 0=some i->i.methods.find? (λm=>m.name== "")=none
def Gf {c:Type}:Ren->c->c->Prop:=λ_ a b=>a=b
section
variable {P' P:Zo}{fz:Prop}{ρ:Ren}{α β γ δ:Type}{Q:Ren->α->β->Prop}{R:Ren->γ->δ->Prop}
def Ad {a:α}{b:β}(h:Q ρ a b):Am P' P fz Q ρ (pure a) (pure b):=.pure h
def Ac {s:Sem γ}{s':Sem δ}{f:γ->Sem α}{c:δ->Sem β}(R:Ren->γ->δ->Prop)(h:Am P' P fz R ρ s s')(d:∀σ a b,ρ.le σ->R σ a b->Am P' P fz Q σ (f a) (c b)):
  Am P' P fz Q ρ (s>>=f) (s'>>=c):=Am.bind h d
def Ae {m:String}{s':Sem β}:Am P' P fz Q ρ (stuck m:Sem α) s':=.bad trivial
def Ai {u:Zdf}{s':Sem β}(h:GY (.unsupported u):=by trivial):Am P' P fz Q ρ (unsupported u:Sem α) s':=.bad h
def Ej (h:VR ρ v v'):Am P' P fz Q ρ (goPanic v:Sem α) (goPanic v':Sem β):=.panic h
def mU {a:Addr}(m:Mode)(h:AR ρ a a'):Am P' P fz VR ρ (load a m) (load a' m):=.load m h λ_ _ b=>.pure b
def sj {a:Addr}(m:Mode)(h:AR ρ a a')(b:VR ρ v v'):Am P' P fz Gf ρ (store a v m) (store a' v' m):=.store m h b (.pure rfl)
def Hg (h:OR ρ o o'):Am P' P fz (λσ r a=>σ r=some a) ρ (newObj o) (newObj o'):=.new h λ_ _ _ _ b=>.pure b
variable {l l' i n r r' N:Nat}
def Ng (h:ρ r=some r'):Am P' P fz Gf ρ (shape r) (shape r'):=.shape h λ_=>.pure rfl
def C6 (h:ρ r=some r'):Am P' P fz OR ρ (getObj r) (getObj r'):=.getObj h λ_ _ a=>.pure a
def D6 (h:ρ r=some r')(a:OR ρ o o')(b:¬Quiet o:=by intro h;cases h):Am P' P fz Gf ρ (setObj r o) (setObj r' o'):=.setObj h a b (.pure rfl)
def Hh (q:Question):Am P' P fz Gf ρ (choose q) (choose q):=.choose q λ_=>.pure rfl
def C2:Am P' P fz (λ_ p a=>P'=p/\P=a) ρ program program:=.program (.pure ⟨rfl,rfl⟩)
def yD {m m':Mark}(h:yA ρ m m'):Am P' P fz Gf ρ (mark m) (mark m'):=.mark h (.pure rfl)
def Up (n:Nat):Am P' P fz Gf ρ (Zah n) (Zah n):=by
 unfold Zah;split
 .exact yD .noRoom
 exact Ad rfl
def Twins.mV (T:Twins P' P):∀i,P'.info? 0=some i->i.methods.find? (λm=>m.name== "")=none:=λi a=>T.lack i (by rw[<-a,T.tables])
def Twins.info (T:Twins P' P)(t:Zs):P'.info? t=P.info? t:=by rw[T.tables]
def Twins.yE (T:Twins P' P)(t:Zs):P'.underlying t=P.underlying t:=by unfold ZbU;simp only[T.tables]
def Twins.rt (T:Twins P' P):P'.rt=P.rt:=by rw[T.tables]
def Twins.cells (T:Twins P' P)(t:Zs):P'.cellsOf t=P.cellsOf t:=by unfold Zco;rw[T.tables]
def Twins.bytes (T:Twins P' P)(t:Zs):P'.bytesOf t=P.bytesOf t:=by unfold Program.bytesOf;rw[T.tables]
def Twins.depth (T:Twins P' P):P'.depth=P.depth:=by unfold Program.depth;rw[T.tables]
def Cu (T:Twins P' P)(t:Zs):Am P' P fz (λ_ i i'=>i=i'/\P.info? t=some i) ρ (typeInfo t) (typeInfo t):=by
 unfold typeInfo;refine Ac _ C2 λσ p b _ a=>?_;obtain⟨rfl,rfl⟩:=a;rw[T.info];cases h:P.info? t with
 |none=>exact Ae
 |some i=>exact Ad ⟨rfl,rfl⟩
def Aq (T:Twins P' P)(t:Zs):Am P' P fz (λ_ i i'=>i=i'/\P.underlying t=some i) ρ (underlying t) (underlying t):=by
 unfold underlying;refine Ac _ C2 λσ p b _ a=>?_;obtain⟨rfl,rfl⟩:=a;rw[T.yE];cases h:P.underlying t with
 |none=>exact Ae
 |some i=>exact Ad ⟨rfl,rfl⟩
def C8 (T:Twins P' P)(t:Zs):Am P' P fz VR ρ (zeroValue t) (zeroValue t):=by
 unfold zeroValue;refine Ac _ (Cu T t) λσ i i' _ a=>?_;obtain⟨rfl,a⟩:=a;cases h:i.zero with
 |none=>exact Ai
 |some v=>exact Ad (T.zero t i v a h σ)
def Ck (T:Twins P' P)(t:Zs):Am P' P fz (λ_ n n'=>n=n'/\n=P.cellsOf t) ρ (sizeOf t) (sizeOf t):=by
 unfold sizeOf;refine Ac _ (Cu T t) λσ i i' _ a=>?_;obtain⟨rfl,a⟩:=a;exact Ad ⟨rfl,by simp[Zco,a]⟩
def fN (T:Twins P' P)(t:Zs):Am P' P fz Gf ρ (isAgg t) (isAgg t):=by
 unfold isAgg;refine Ac _ (Aq T t) λσ i i' _ a=>?_;obtain⟨rfl,_⟩:=a;split<;>exact Ad rfl
def AR.add {a:Addr}(h:AR ρ a a')(n:Nat):AR ρ (a.add n) (a'.add n):=by
 unfold Zcu;split
 .exact h
 exact⟨h.1,by simp only[h.2.1],rfl⟩
def J5:∀(n:Nat) (i:Nat) {a a':Addr} (b e:Array Zf) (ρ:Ren),AR ρ a a'->BS ρ b e->Am P' P fz BS ρ (ZdD a i n b) (ZdD a' i n e)
 |0,_,_,_,_,_,_,_,d=>Ad d
 |n+1,i,a,a',b,e,ρ,h,d=>by
  unfold ZdD;exact Ac _ (mU .plain (h.add i)) λσ v v' c f=>J5 n (i+1) _ _ σ (h.mono c) ((BS.mono c d).push f)
def Kv {a:Addr}(h:AR ρ a a')(n:Nat):Am P' P fz BS ρ (loadCells a n) (loadCells a' n):=J5 n 0 _ _ ρ h Bz.nil
def JD:∀ {c b:List Zf} {ρ:Ren} {a a':Addr} (i:Nat),AR ρ a a'->Ep (VR ρ) c b->Am P' P fz Gf ρ (ZbX a c i) (ZbX a' b i):=by
 intro c
 induction c with
 |nil=>intro b ρ a a' i h d;cases d;exact Ad rfl
 |cons v c f=>
  intro b ρ a a' i h d;cases d with
  |cons d g=>
   unfold ZbX;exact Ac _ (sj .plain (h.add i) d) λσ _ _ e _=>f (i+1) (h.mono e) (g.mono λ_ _=>VR.mono e)
def Uq (T:Twins P' P)(t:Zs){a:Addr}(h:AR ρ a a'):Am P' P fz VR ρ (Zdd t a) (Zdd t a'):=by
 unfold Zdd;refine Ac _ (fN T t) λσ b b' d g=>?_;cases g;split
 .refine Ac _ (Ck T t) λk n j i e=>?_
  obtain⟨rfl,_⟩:=e;exact Ac _ (Kv (h.mono (Ren.le_trans d i)) n) λτ c c' _ f=>Ad (.P6 f)
 exact mU .plain (h.mono d)
def cQ (T:Twins P' P)(t:Zs){a:Addr}(h:AR ρ a a')(d:VR ρ v v'):Am P' P fz Gf ρ (storeVar t a v) (storeVar t a' v'):=by
 unfold storeVar;refine Ac _ (Ck T t) λσ n f b e=>?_;obtain⟨rfl,_⟩:=e;have c:=(d.mono b).cells;rw[c.1];split
 .exact Ae
 exact JD 0 (h.mono b) c.list
def IZ (e:Zs){c:Array Zf}(h:BS ρ c c'):Am P' P fz AR ρ (newRow e c) (newRow e c'):=by
 unfold newRow;exact Ac _ (Hg (.cells e h (yz.refl _))) λσ r r' _ a=>Ad ⟨a,rfl,rfl⟩
def Nh (t:Zs)(h:VR ρ v v'):Am P' P fz AR ρ (newVar t v) (newVar t v'):=IZ t h.cells
def Xr (T:Twins P' P)(t:Zs):Am P' P fz Gf ρ (elemOf t) (elemOf t):=by
 unfold elemOf;refine Ac _ (Aq T t) λσ i i' _ a=>?_;obtain⟨rfl,_⟩:=a;split
 .exact Ad rfl
 exact Ae
def Kw (T:Twins P' P)(t:Zs){c:Array Zf}(h:BS ρ c c')(off:Nat):Am P' P fz VR ρ (part t c off) (part t c' off):=by
 unfold part;refine Ac _ (fN T t) λσ b b' a j=>?_;cases j;have e:=BS.mono a h;split
 .refine Ac _ (Ck T t) λm n l k i=>?_
  obtain⟨rfl,_⟩:=i;exact Ad (.P6 ((BS.mono k e).extract _ _))
 rcases e.opt off with⟨d,f⟩|⟨x,y,d,f,g⟩
 .rw[d];exact Ae
 rw[d,f];exact Ad g
def Ll (h:VR ρ v v'):Am P' P fz Gf ρ (asIntOf v) (asIntOf v'):=by
 cases h with
 |int k n=>exact Ad rfl
 | @pointer a a' b=>cases a<;>first|exact Ae|exact Ai
 |_=>exact Ae
def Lm (h:VR ρ v v'):Am P' P fz Gf ρ (asInt v) (asInt v'):=by
 unfold asInt;exact Ac _ (Ll h) λσ a b _ c=>by cases c;exact Ad rfl
def Ru (h:VR ρ v v'):Am P' P fz Gf ρ (asBool v) (asBool v'):=by
 cases h with
 |bool b=>exact Ad rfl
 |_=>exact Ae
def sk (h:VR ρ v v'):Am P' P fz BS ρ (asAgg v) (asAgg v'):=by
 cases h with
 |agg b a=>exact Ad ⟨b,a⟩
 |_=>exact Ae
def Base (P:Zo)(ρ:Ren):Prop:=ρ.ok.low=P.globals.size
def Base.mono {ρ:Ren}(h:Base P ρ)(a:ρ.le σ):Base P σ:=by
 unfold Base at*;rw[a.2.1];exact h
def Xt (T:Twins P' P)(a:Base P ρ)(t:Zs):VR ρ (ZdV P' t) (ZdV P t):=by
 unfold ZdV;rw[T.tables];have:=ρ.base;unfold Base at a;rw[a]at this;exact .pointer ⟨this,rfl,rfl⟩
def AJ (T:Twins P' P)(k:Base P ρ)(e:RuntimeError):Am P' P fz Q ρ (zw e:Sem α) (zw e:Sem β):=by
 unfold zw;refine Ac _ C2 λσ p u d n=>?_;obtain⟨rfl,rfl⟩:=n;have b:=T.rt;cases e with
 |bounds x y s c=>simp only[b];exact Ej (.iface _ (.P6 ((((Bz.single (.int _ _)).push (.int _ _)).push (.bool _)).push (.int _ _))))
 |error m=>simp only[b];exact Ej (.iface _ (.string _))
 |plain m=>simp only[b];exact Ej (.iface _ (.string _))
 |nilDeref=>simp only[b];exact Ej (.iface _ (.string _))
 |typeAssertion i c a m=>
  simp only[b];refine Ac _ (Xr T _) λj e e' l h=>?_;cases h;have o:Base P j:=k.mono (Ren.le_trans d l);have g:∀t:Option Zs,VR j (match t with|some t=>ZdV P' t|none=>.pointer none) (match t with|some t=>ZdV P t|none=>.pointer none):=by
   intro t;cases t with
   |none=>exact .pointer trivial
   |some t=>exact Xt T o t
  refine Ac _ (Nh _ (.P6 ((((Bz.single (g i)).push (g c)).push (g (some a))).push (.string _)))) λq r r' _ f=>?_;exact Ej (.iface _ (.pointer f))
 |panicNil=>
  simp only[b];refine Ac _ (Xr T _) λj e e' l h=>?_;cases h;refine Ac _ (Nh _ (.P6 Bz.nil)) λq r r' _ f=>?_;exact Ej (.iface _ (.pointer f))
 |unhashable t=>
  simp only[b];exact Ej (.iface _ (.P6 (Bz.single (Xt T (k.mono d) t))))
def Ex (T:Twins P' P)(f:Base P ρ)(k:IntKind)(x y:Int)(c:BoundsCode):Am P' P fz Q ρ (ZaT k x y c:Sem α) (ZaT k x y c:Sem β):=by
 unfold ZaT;dsimp only;split
 .refine Ac Gf ?_ λσ a b d e=>?_
  .refine Ac _ (Hh _) λσ a b _ e=>?_
   cases e;exact Ad rfl
  cases e;exact AJ T (f.mono d) _
 refine Ac Gf (Ad rfl) λσ a b d e=>?_;cases e;exact AJ T (f.mono d) _
def Xu (T:Twins P' P)(c:Base P ρ)(h:VR ρ v v'):Am P' P fz AR ρ (asAddr v) (asAddr v'):=by
 cases h with
 | @pointer a a' b=>
  cases a<;>cases a'<;>first|exact b.elim|skip
  .exact AJ T c .nilDeref
  .exact Ad b
 |_=>exact Ae
def Hj (h:VR ρ v v'):Am P' P fz AR ρ (Instr.sureAddr v) (Instr.sureAddr v'):=by
 cases h with
 | @pointer a a' b=>
  cases a<;>cases a'<;>first|exact b.elim|skip
  .exact Ae
  .exact Ad b
 |_=>exact Ae
end
section
variable {P' P:Zo}{fz:Prop}{ρ:Ren}
def CC {Q:Ren->α->β->Prop}{m:String}{f:γ->Sem α}{s':Sem β}:Am P' P fz Q ρ ((stuck m:Sem γ)>>=f) s':=.bad trivial
def F7 (T:Twins P' P):∀(d:Nat) (t:Zs) (off:Nat),ZdF P' d t off=ZdF P d t off
 |0,_,_=>rfl
 |d+1,t,off=>by
  unfold ZdF;rw[T.yE];cases P.underlying t with
  |none=>rfl
  |some x=>
   cases x with
   |struct a=>simp only[T.cells,F7 T d]
   |array n e=>simp only[T.cells,T.bytes,F7 T d]
   |_=>rfl
variable {l l' i n r r' N:Nat}
def Xv (h:ρ r=some r'):Am P' P fz (λ_ a b=>a=none/\b=none) ρ (viewAt r) (viewAt r'):=by
 unfold viewAt;refine Ac _ (Ng h) λσ s f c d=>?_;cases d;split
 .exact Ad ⟨rfl,rfl⟩
 refine Ac _ (C6 (c.1 _ _ h)) λτ o o' _ e=>?_;cases e with
 | @junk o' h=>cases o'<;>first|exact Ad ⟨rfl,rfl⟩|cases h
 |_=>exact Ad ⟨rfl,rfl⟩
def mY {a:Addr}(h:AR ρ a a'):Am P' P fz Gf ρ (noView a) (noView a'):=by
 unfold noView;refine Ac _ (Xv h.1) λσ s d c b=>?_;obtain⟨rfl,rfl⟩:=b;exact Ad rfl
def Hk (T:Twins P' P){a:Addr}(h:AR ρ a a'):Am P' P fz Gf ρ (byteOf a) (byteOf a'):=by
 unfold byteOf;rw[h.2.2];cases a.spot with
 |some s=>exact Ad rfl
 |none=>
  dsimp only;refine Ac _ C2 λσ p m c i=>?_;obtain⟨rfl,rfl⟩:=i;have d:=h.mono c;refine Ac _ (mY d) λk _ _ f _=>?_;have j:=d.mono f;refine Ac _ (Ng j.1) λo s l q g=>?_;cases g;cases s with
  |none=>exact Ae
  |some x=>
   obtain⟨e,n⟩:=x;dsimp only;rw[T.cells,T.depth,F7 T,h.2.1,T.bytes];split
   .exact Ad rfl
   cases ZdF P P.depth e (a.off % P.cellsOf e) with
   |none=>exact Ae
   |some b=>exact Ad rfl
def mZ (T:Twins P' P){a:Addr}(h:AR ρ a a')(cells d:Nat):Am P' P fz AR ρ (partAt a cells d) (partAt a' cells d):=by
 unfold partAt;refine Ac _ (Hk T h) λσ b b' f j=>?_;cases j;have e:AR σ {block:=a.block,off:=a.off+cells} {block:=a'.block,off:=a'.off+cells}:=⟨f.1 _ _ h.1,by simp only[h.2.1],rfl⟩;dsimp only;refine Ac _ (Hk T e) λk c c' g i=>?_;cases i;split
 .exact Ad (e.mono g)
 exact Ad ⟨(e.mono g).1,e.2.1,rfl⟩
def Vw (T:Twins P' P){a:Addr}(h:AR ρ a a')(f:Field):Am P' P fz AR ρ (fieldPlace a f) (fieldPlace a' f):=by
 unfold fieldPlace;refine Ac _ (Ck T _) λσ n d b c=>?_;obtain⟨rfl,_⟩:=c;split
 .exact mZ T (h.mono b) _ _
 exact Ad ((h.mono b).add _)
def su (T:Twins P' P)(e:Zs):Am P' P fz VR ρ (ZdP e true (.tuple #[])) (ZdP e true (.tuple #[])):=by
 unfold ZdP;refine Ac _ (C8 T e) λσ v v' c b=>?_;exact Ac _ (Nh e b) λτ a a' _ d=>Ad (.pointer d)
def ae0 (e:Zs)(h:VR ρ v v'):Am P' P fz VR ρ (Instr.box e v) (Instr.box e v'):=
 Ac _ (Nh e h) λ_ _ _ _ a=>Ad (.pointer a)
def m_ (T:Twins P' P)(t:Zs)(h:VR ρ v v'):Am P' P fz VR ρ (Instr.loadAt t v) (Instr.loadAt t v'):=
 Ac _ (Hj h) λ_ _ _ _ a=>Uq T t a
def i_ (T:Twins P' P)(t:Zs)(h:VR ρ v v')(b:VR ρ x x'):Am P' P fz Gf ρ (Instr.storeAt t v x) (Instr.storeAt t v' x'):=
 Ac _ (Hj h) λ_ _ _ a c=>cQ T t c (b.mono a)
def ja (T:Twins P' P)(s:Zs)(h:VR ρ v v')(f:Nat):Am P' P fz VR ρ (Zc2 s v f) (Zc2 s v' f):=by
 unfold Zc2;refine Ac _ (Aq T s) λσ i i' d e=>?_;obtain⟨rfl,_⟩:=e;cases i with
 |struct c=>
  dsimp only;cases c[f]? with
  |none=>exact Ae
  |some x=>
   dsimp only;refine Ac _ (Hj (h.mono d)) λk a a' l j=>?_;exact Ac _ (Vw T j x) λτ b b' _ g=>Ad (.pointer g)
 |_=>exact Ae
def jb (T:Twins P' P)(H:Base P ρ)(t:Zs){i:Zf}(E:VR ρ x x')(hi:VR ρ i i'):Am P' P fz VR ρ (Zb9 t x i) (Zb9 t x' i'):=by
 unfold Zb9;refine Ac _ (Ll hi) λσ k k' g F=>?_;cases F;obtain⟨k,i⟩:=k;dsimp only;refine Ac _ (Aq T t) λV d d' A w=>?_;obtain⟨rfl,w⟩:=w;have y:=E.mono (Ren.le_trans g A);have e:∀(τ:Ren) (a a':Option Addr×Nat×Zs) (u:Zdf),GY (.unsupported u)->ρ.le τ->(Om τ a.1 a'.1\/(a.2.1=0/\a.1.isSome=true/\a'.1.isSome=true))->a.2=a'.2->
   Am P' P fz VR τ (underlying t>>=λr=>
    match a.1 with
    |some m=>if 0<=i/\i<a.2.1 then(sizeOf a.2.2>>=λn=>pure (ZbT (some (m.add (i.toNat*n)))))
      else if(decide (a.2.1<=1)&&(match r with| .array .. =>true|_=>false))=true then unsupported u else ZaT k i a.2.1 .index
    |none=>ZaT k i 0 .index) (underlying t>>=λr=>
    match a'.1 with
    |some m=>if 0<=i/\i<a'.2.1 then(sizeOf a'.2.2>>=λn=>pure (ZbT (some (m.add (i.toNat*n)))))
      else if(decide (a'.2.1<=1)&&(match r with| .array .. =>true|_=>false))=true then unsupported u else ZaT k i a'.2.1 .index
    |none=>ZaT k i 0 .index):=by
  intro τ a a' u v O j I;obtain⟨b,o,f⟩:=a;obtain⟨b',J,L⟩:=a';cases I;dsimp only at j⊢;refine Ac _ (Aq T t) λN Hf K z p=>?_;obtain⟨rfl,_⟩:=p;have q:Base P N:=H.mono (Ren.le_trans O z);rcases j with j|⟨D,C,B⟩
  rotate_left
  .subst D
   cases b with
   |none=>cases C
   |some m=>
    cases b' with
    |none=>cases B
    |some M=>
     dsimp only;have l:¬(0<=i/\i<((0:Nat):Int)):=o!
     rw[if_neg l,if_neg l]
     (repeat' split)<;>first|exact Ai v|exact Ex T q _ _ _ _
  cases b<;>cases b'<;>first|exact j.elim|skip
  .dsimp only;exact Ex T q _ _ _ _
  dsimp only;split
  .refine Ac _ (Ck T _) λU n S Q l=>?_
   obtain⟨rfl,_⟩:=l;exact Ad (.pointer ((AR.mono (Ren.le_trans z Q) j).add _))
  (repeat' split)<;>first|exact Ai v|exact Ex T q _ _ _ _
 have s:=Ren.le_trans g A;cases d with
 |array o f=>exact Ac _ (Hj y) λ_ _ _ R G=>e _ (some _,_,_) (some _,_,_) _ trivial (Ren.le_trans s R) (.inl G) rfl
 |slice f=>
  cases y with
  |slice n c h=>exact e _ (_,_,_) (_,_,_) _ trivial s (.inl h) rfl
  |void a a'=>exact e _ (some _,_,_) (some _,_,_) _ trivial s (.inr ⟨rfl,rfl,rfl⟩) rfl
  |_=>exact CC
 |_=>exact CC
def JE (T:Twins P' P)(e:Base P ρ)(b:VR ρ x x')(y:Nat)(c:BoundsCode):Am P' P fz Gf ρ (Zcg x y c) (Zcg x' y c):=by
 unfold Zcg;refine Ac _ (Ll b) λσ k k' a d=>?_;cases d;obtain⟨k,i⟩:=k;dsimp only;split
 .exact Ad rfl
 exact Ex T (e.mono a) _ _ _ _
def fO (ρ:Ren):Option Zf->Option Zf->Prop
 |none,none=>True
 |some a,some b=>VR ρ a b
 |_,_=>False
def fO.mono {ρ:Ren}(h:ρ.le σ){a b:Option Zf}(x:fO ρ a b):fO σ a b:=by
 cases a<;>cases b<;>first|exact x|exact VR.mono h x
variable {m' h h':Option Zf}
def F8 (T:Twins P' P)(g:Base P ρ)(s:Bool)(e f:Nat){l l' m:Option Zf}(hl:fO ρ l l')(j:fO ρ h h')(i:fO ρ m m'):
  Am P' P fz Gf ρ (Zbf s e f l h m) (Zbf s e f l' h' m'):=by
 unfold Zbf;cases l<;>cases l'<;>first|exact hl.elim|skip
 all_goals cases h<;>cases h'<;>first|exact j.elim|skip
 all_goals cases m<;>cases m'<;>first|exact i.elim|skip
 all_goals dsimp only[Option.isSome]
 all_goals
  refine Ac Gf (by first|exact Ad rfl|exact JE T g i _ _) λσ a a' d p=>?_;cases p;refine Ac Gf (by first|exact Ad rfl|exact Ae|exact JE T (g.mono d) (VR.mono d j) _ _) λr b b' k o=>?_;cases o;refine Ac Gf (by first|exact Ad rfl|exact JE T (g.mono (Ren.le_trans d k)) (VR.mono (Ren.le_trans d k) hl) _ _) λq c c' _ n=>?_;cases n;exact Ad rfl
def Zq9 (_:Ren)(a b:Nat):Prop:=a=0/\b=0
def abk (T:Twins P' P)(e:Base P ρ)(b:VR ρ x x')(c:BoundsCode):Am P' P fz Zq9 ρ (Zcg x 0 c) (Zcg x' 0 c):=by
 unfold Zcg;refine Ac _ (Ll b) λσ k k' a d=>?_;cases d;obtain⟨k,i⟩:=k;dsimp only;split
 .next h=>exact Ad ⟨o!,o!⟩
 exact Ex T (e.mono a) _ _ _ _
def acb (T:Twins P' P)(e:Base P ρ)(s:Bool){l l' m:Option Zf}(hl:fO ρ l l')(g:fO ρ h h')(f:fO ρ m m'):
  Am P' P fz (λ_ a b=>a=(0,0,0)/\b=(0,0,0)) ρ (Zbf s 0 0 l h m) (Zbf s 0 0 l' h' m'):=by
 unfold Zbf;cases l<;>cases l'<;>first|exact hl.elim|skip
 all_goals cases h<;>cases h'<;>first|exact g.elim|skip
 all_goals cases m<;>cases m'<;>first|exact f.elim|skip
 all_goals dsimp only[Option.isSome]
 all_goals
  refine Ac Zq9 (by first|exact Ad ⟨rfl,rfl⟩|exact abk T e f _) λσ a a' d n=>?_;obtain⟨rfl,rfl⟩:=n;refine Ac Zq9 (by first|exact Ad ⟨rfl,rfl⟩|exact Ae|exact abk T (e.mono d) (VR.mono d g) _) λp b b' i k=>?_;obtain⟨rfl,rfl⟩:=k;refine Ac Zq9 (by first|exact Ad ⟨rfl,rfl⟩|exact abk T (e.mono (Ren.le_trans d i)) (VR.mono (Ren.le_trans d i) hl) _) λo c c' _ j=>?_;obtain⟨rfl,rfl⟩:=j;exact Ad ⟨rfl,rfl⟩
def sx (T:Twins P' P)(D:Base P ρ)(t:Zs){l l' m:Option Zf}(G:VR ρ x x')(hl:fO ρ l l')(p:fO ρ h h')(o:fO ρ m m'):
  Am P' P fz VR ρ (ZbI t x l h m) (ZbI t x' l' h' m'):=by
 unfold ZbI;refine Ac _ (Aq T t) λσ d d' f I=>?_;obtain⟨rfl,_⟩:=I;have u:=G.mono f;have q:=D.mono f;cases d with
 |string=>
  cases u with
  |string s=>
   dsimp only;have w:m.isSome=m'.isSome:=by cases m<;>cases m'<;>first|rfl|exact o.elim
   rw[w];split
   .exact Ae
   .refine Ac _ (F8 T q _ _ _ (hl.mono f) (p.mono f) trivial) λB b b' _ g=>?_
    cases g;exact Ad (.string _)
  |_=>exact Ae
 |slice j=>
  cases u with
  | @slice a a' n c y=>
   dsimp only;refine Ac _ (F8 T q _ _ _ (hl.mono f) (p.mono f) (o.mono f)) λB b b' v g=>?_;cases g;obtain⟨L,K,J⟩:=b;dsimp only;refine Ac _ (Ck T _) λF s C k i=>?_;obtain⟨rfl,_⟩:=i;refine Ad (.slice _ _ ?_);have A:=y.mono (Ren.le_trans v k);split
   .exact A
   .cases a<;>cases a'<;>first|exact A.elim|exact trivial|exact AR.add A _
  |void a a'=>
   dsimp only;refine Ac _ (acb T q _ (hl.mono f) (p.mono f) (o.mono f)) λB b b' v g=>?_;obtain⟨rfl,rfl⟩:=g;refine Ac _ (Ck T _) λF s C k i=>?_;obtain⟨rfl,_⟩:=i;exact Ad (.void _ _)
  |_=>exact Ae
 |pointer z=>
  refine Ac _ (Xu T q u) λB a a' v y=>?_;refine Ac _ (Aq T z) λF e e' k H=>?_;obtain⟨rfl,_⟩:=H;have r:=Ren.le_trans f (Ren.le_trans v k);cases e with
  |array n j=>
   dsimp only;refine Ac _ (F8 T (D.mono r) _ _ _ (hl.mono r) (p.mono r) (o.mono r)) λQ b b' N g=>?_;cases g;obtain⟨L,K,J⟩:=b;dsimp only;refine Ac _ (Ck T _) λO s C M i=>?_;obtain⟨rfl,_⟩:=i;have E:=y.mono (Ren.le_trans k (Ren.le_trans N M));refine Ad (.slice _ _ ?_);split
   .exact E
   .exact AR.add E _
  |_=>exact Ae
 |_=>cases u<;>exact Ae
def jc (T:Twins P' P)(o:Base P ρ)(t:Zs){l l' m:Option Zf}(i:VR ρ x x')(hl:fO ρ l l')(k:fO ρ h h')(j:fO ρ m m'):
  Am P' P fz VR ρ (ZaI t x l h m) (ZaI t x' l' h' m'):=by
 unfold ZaI;refine Ac _ (Aq T t) λσ d d' c g=>?_;obtain⟨rfl,_⟩:=g;have g:∀s:Sem Zf,s=ZbI t x l h m->∀f,f=ZbI t x' l' h' m'->Am P' P fz VR σ s f:=by
  rintro _ rfl _ rfl;exact sx T (o.mono c) t (i.mono c) (hl.mono c) (k.mono c) (j.mono c)
 cases d with
 |array n p=>
  dsimp only;refine Ac _ (Hj (i.mono c)) λF a a' z v=>?_;have e:=Ren.le_trans c z;refine Ac _ (F8 T (o.mono e) _ _ _ (hl.mono e) (k.mono e) (j.mono e)) λE b b' y u=>?_;cases u;obtain⟨C,B,A⟩:=b;dsimp only;refine Ac _ (Ck T _) λD s f w r=>?_;obtain⟨rfl,_⟩:=r;have q:=v.mono (Ren.le_trans y w);refine Ad (.slice _ _ ?_);split
  .exact q
  .exact AR.add q _
 |_=>exact g _ rfl _ rfl
def sA (T:Twins P' P)(t:Zs)(e:VR ρ x x')(f:Nat):Am P' P fz VR ρ (ZdO t x f) (ZdO t x' f):=by
 unfold ZdO;refine Ac _ (Aq T t) λσ d d' b g=>?_;obtain⟨rfl,_⟩:=g;cases d with
 |struct a=>
  dsimp only;cases a[f]? with
  |none=>exact Ae
  |some y=>exact Ac _ (sk (e.mono b)) λi c c' _ h=>Kw T _ h _
 |_=>exact Ae
def sB (T:Twins P' P)(f:Base P ρ)(t:Zs){i:Zf}(j:VR ρ x x')(hi:VR ρ i i'):Am P' P fz VR ρ (ZdN t x i) (ZdN t x' i'):=by
 unfold ZdN;refine Ac _ (Ll hi) λσ k k' a n=>?_;cases n;obtain⟨k,i⟩:=k;dsimp only;refine Ac _ (Aq T t) λv d d' q e=>?_;obtain⟨rfl,e⟩:=e;have b:=Ren.le_trans a q;have c:=j.mono b;cases d with
 |array h g=>
  cases c with
  |agg o l=>
   dsimp only;split
   .refine Ac _ (Ck T _) λu s r p m=>?_
    obtain⟨rfl,_⟩:=m;exact Kw T _ (BS.mono p ⟨o,l⟩) _
   .exact Ex T (f.mono b) _ _ _ _
  |_=>exact Ae
 |string=>
  cases c with
  |string s=>
   dsimp only;split
   .exact Ad (.int _ _)
   .exact Ex T (f.mono b) _ _ _ _
  |_=>exact Ae
 |_=>cases c<;>exact Ae
def jd (d:VR ρ x x')(i:Nat):Am P' P fz VR ρ (Zc3 x i) (Zc3 x' i):=by
 unfold Zc3;cases d with
 | @tuple c c' g e=>
  dsimp only;rcases(show BS ρ c c' from⟨g,e⟩).opt i with⟨a,b⟩|⟨x,y,a,b,f⟩
  .rw[a];exact Ae
  .rw[a,b];exact Ad f
 |_=>exact Ae
def P7 (T:Twins P' P)(t:Zs)(b:VR ρ x x'):Am P' P fz VR ρ (ZbR t x) (ZbR t x'):=by
 unfold ZbR;refine Ac _ (Aq T t) λσ d d' a c=>?_;obtain⟨rfl,_⟩:=c;cases d<;>first|exact Ae|exact Ad (.iface _ (b.mono a))
def je (T:Twins P' P)(t:Zs){r b:Option Zf}(f:fO ρ r b):Am P' P fz VR ρ (Zc0 t r) (Zc0 t b):=by
 unfold Zc0;cases r<;>cases b<;>first|exact f.elim|skip
 .exact Ac _ (Hg (.map 0 Bz.nil)) λσ a a' _ e=>Ad (.map e)
 dsimp only;refine Ac _ (Aq T t) λσ d d' c g=>?_;obtain⟨rfl,_⟩:=g;cases d with
 |map _ _=>
  refine Ac _ (Lm (VR.mono c f)) λh _ _ _ _=>?_;exact Ac _ (Hg (.map 0 Bz.nil)) λσ a a' _ e=>Ad (.map e)
 |_=>exact Ae
def TE (h:BS ρ a b)(k:a.size≠0)(n:Nat):BS ρ ((YN n).map (a[· % a.size]!)) ((YN n).map (b[· % b.size]!)):=by
 refine⟨i!,λi x y e d=>?_⟩;rw[zF,zc]at e d;obtain⟨u,j,rfl⟩:=e;obtain⟨v,f,rfl⟩:=d;rw[j]at f;cases f;have c:u % a.size<a.size:=Nat.mod_lt _ o!;have g:u % b.size<b.size:=by rw[<-h.1];exact c
 rw[getElem!_pos a _ c,getElem!_pos b _ g];refine h.2 (u % a.size) _ _ (Zx c) ?_;have:u % a.size=u % b.size:=by rw[h.1]
 rw[this];exact Zx g
end
section
variable {P' P:Zo}{fz:Prop}{ρ:Ren}
inductive yI {β γ:Type}(R:Ren->β->γ->Prop)(σ:Ren):ForInStep β->ForInStep γ->Prop
 |yield {b:β} {c:γ} (h:R σ b c):yI R σ (.yield b) (.yield c)
 |done {b:β} {c:γ} (h:R σ b c):yI R σ (.done b) (.done c)
def Vx {E:Ren->α->δ->Prop}{R:Ren->β->γ->Prop}(p:∀ρ σ x y,ρ.le σ->E ρ x y->E σ x y){f:α->β->Sem (ForInStep β)}{i:δ->γ->Sem (ForInStep γ)}:
  ∀ {l:List α} {l':List δ} {σ:Ren} {b:β} {c:γ},Ep (E σ) l l'->R σ b c->
   (∀τ x y b c,σ.le τ->E τ x y->R τ b c->Am P' P fz (yI R) τ (f x b) (i y c))->Am P' P fz R σ (forIn l b f) (forIn l' c i):=by
 intro l
 induction l with
 |nil=>intro l' σ b c d e _;cases d;exact Ad e
 |cons x l k=>
  intro l' σ b c d e g;cases d with
  |cons m n=>
   rw[List.forIn_cons,List.forIn_cons];refine Ac _ (g σ x _ b c (Ren.le_refl _) m e) λτ s r a o=>?_;cases o with
   |yield h=>exact k (n.mono λ_ _=>p _ _ _ _ a) h λj x y b c q=>g j x y b c (Ren.le_trans a q)
   |done h=>exact Ad h
def Ep.eq (l:List α):Ep (λa b=>a=b) l l:=by
 induction l with
 |nil=>exact .nil
 |cons x l c=>exact .cons rfl c
def fP {R:Ren->β->γ->Prop}{f:α->β->Sem (ForInStep β)}{e:α->γ->Sem (ForInStep γ)}(l:List α){b:β}{c:γ}(i:R ρ b c)
 (g:∀τ x b c,ρ.le τ->R τ b c->Am P' P fz (yI R) τ (f x b) (e x c)):Am P' P fz R ρ (forIn l b f) (forIn l c e):=
 Vx (E:=Gf) (λ_ _ _ _ _ h=>h) (Ep.eq l) i λτ x y b c d a j=>by cases a;exact g τ x b c d j
def fQ {R:Ren->β->γ->Prop}{f:Nat->β->Sem (ForInStep β)}{a:Nat->γ->Sem (ForInStep γ)}(n:Nat){b:β}{c:γ}(e:R ρ b c)
 (d:∀τ x b c,ρ.le τ->R τ b c->Am P' P fz (yI R) τ (f x b) (a x c)):Am P' P fz R ρ (forIn [0:n] b f) (forIn [0:n] c a):=by
 simp only[Zdw];exact fP _ e d
def sC {R:Ren->β->γ->Prop}{f:α->β->Sem (ForInStep β)}{d:α->γ->Sem (ForInStep γ)}(a:Array α){b:β}{c:γ}(g:R ρ b c)
 (e:∀τ x b c,ρ.le τ->R τ b c->Am P' P fz (yI R) τ (f x b) (d x c)):Am P' P fz R ρ (forIn a b f) (forIn a c d):=by
 rw[<-Zaf, <-Zaf];exact fP _ g e
def nd {R:Ren->β->γ->Prop}{f:Zf->β->Sem (ForInStep β)}{e:Zf->γ->Sem (ForInStep γ)}{a':Array Zf}(h:BS ρ a a'){b:β}{c:γ}(i:R ρ b c)
 (g:∀τ x y b c,ρ.le τ->VR τ x y->R τ b c->Am P' P fz (yI R) τ (f x b) (e y c)):Am P' P fz R ρ (forIn a b f) (forIn a' c e):=by
 rw[<-Zaf, <-Zaf];exact Vx (E:=VR) (λ_ _ _ _ d h=>h.mono d) h.list i g
end
section
variable {P' P:Zo}{fz:Prop}{ρ:Ren}
def Ur (T:Twins P' P)(t:Zs):Am P' P fz Gf ρ (typeStr t) (typeStr t):=by
 unfold typeStr;refine Ac _ (Cu T t) λσ i i' _ a=>?_;obtain⟨rfl,_⟩:=a;dsimp only;split
 .exact Ai
 exact Ad rfl
def D8 (T:Twins P' P):∀(a:Bool) (n:Nat) (t:Zs) {ρ:Ren} {v v':Zf},Base P ρ->VR ρ v v'->Am P' P fz Gf ρ (YD a n t v) (YD a n t v')
 |_,0,_,_,_,_,_,_=>Ai
 |a,n+1,t,ρ,v,v',L,I=>by
  unfold YD;refine Ac _ (Aq T t) λσ d d' o K=>?_;obtain⟨rfl,_⟩:=K;have r:=I.mono o;have D:=L.mono o;cases d with
  |interface Q=>
   cases r with
   |iface d h=>
    dsimp only;refine Ac _ (Cu T d) λV i i' u J=>?_;obtain⟨rfl,_⟩:=J;have l:=D.mono u;have B:=D8 T a n d l (h.mono u);split
    .cases a with
     |true=>
      refine Ac Gf (AJ T l _) λS _ _ F _=>?_;refine Ac _ (Ur T d) λN s G k m=>?_;cases m;exact Ac Gf (AJ T ((l.mono F).mono k) _) λM _ _ q _=>D8 T true n d (((l.mono F).mono k).mono q) (h.mono (Ren.le_trans u (Ren.le_trans F (Ren.le_trans k q))))
     |false=>
      refine Ac _ (Ur T d) λN s G k m=>?_;cases m;exact Ac Gf (AJ T (l.mono k) _) λM _ _ q _=>D8 T false n d ((l.mono k).mono q) (h.mono (Ren.le_trans u (Ren.le_trans k q)))
    .exact B
   |nilIface=>exact Ad rfl
   |_=>exact Ae
  |array w e=>
   cases r with
   | @agg c c' A C=>
    have j:BS σ c c':=⟨A,C⟩;dsimp only;refine Ac Gf (fQ (R:=Gf) w rfl λτ x b c p _=>?_) λ_ _ _ _ _=>Ad rfl;refine Ac _ (Ck T e) λU s G H m=>?_;obtain⟨rfl,_⟩:=m;refine Ac _ (Kw T e (BS.mono (Ren.le_trans p H) j) _) λO y y' E z=>?_;exact Ac _ (D8 T a n e (D.mono (Ren.le_trans p (Ren.le_trans H E))) z) λ_ _ _ _ _=>Ad (.yield rfl)
   |_=>exact Ae
  |struct g=>
   cases r with
   | @agg c c' A C=>
    have j:BS σ c c':=⟨A,C⟩;dsimp only;refine Ac Gf (sC (R:=Gf) g rfl λτ f b c p _=>?_) λ_ _ _ _ _=>Ad rfl;split
    .refine Ac _ (Kw T _ (BS.mono p j) _) λO y y' E z=>?_
     exact Ac _ (D8 T a n _ (D.mono (Ren.le_trans p E)) z) λ_ _ _ _ _=>Ad (.yield rfl)
    .exact Ad (.yield rfl)
   |_=>exact Ae
  |_=>cases r<;>exact Ad rfl
end
def JF (P:Zo):Nat->Zs->Bool
 |0,_=>false
 |n+1,t=>match P.underlying t with
  |some .bool|some (.int _)|some (.float _)|some (.complex _)|some .string|some (.slice _)|some (.map _ _)|some (.func _ _ _)|some (.chan _ _)=>true
  |some (.struct a)=>a.all λf=>JF P n f.type
  |some (.array _ e)=>JF P n e
  |_=>false
section
variable {P' P:Zo}{fz:Prop}{ρ:Ren}
def Rq.eq_iff {a a' b c:Option Nat}(h:Rq ρ a a')(k:Rq ρ b c):(a==b)=(a'==c):=by
 rw[ZcG,beq_iff_eq,beq_iff_eq];cases a<;>cases a'<;>first|exact h.elim|skip
 all_goals cases b<;>cases c<;>first|exact k.elim|skip
 .simp
 .simp
 .simp
 simp only[ZJ];constructor
 .rintro rfl;have d:ρ _=_:=h;rw[show ρ _=_ from k]at d;cases d;rfl
 rintro rfl;exact ρ.inj _ _ _ h k
def Om.isNone {a a':Option Addr}(h:Om ρ a a'):a.isNone=a'.isNone:=by
 cases a<;>cases a'<;>first|exact h.elim|rfl
def Rq.isNone {a a':Option Nat}(h:Rq ρ a a'):a.isNone=a'.isNone:=by
 cases a<;>cases a'<;>first|exact h.elim|rfl
def J7 (a:P'.toTables=P.toTables):∀(n:Nat) (t u:Zs),P'.alikeButTags n t u=P.alikeButTags n t u
 |0,_,_=>rfl
 |n+1,t,u=>by
  unfold Program.alikeButTags;simp only[a,J7 a n]
def Rv (a:P'.toTables=P.toTables)(t:Zs):P'.stoodInHeld t=P.stoodInHeld t:=by
 have b:∀t,P'.underlying t=P.underlying t:=λt=>by unfold ZbU;simp only[a]
 have c:∀t,P'.underlyingId t=P.underlyingId t:=λt=>by unfold Program.underlyingId;simp only[a]
 have d:P'.depth=P.depth:=by unfold Program.depth;rw[a]
 unfold Program.stoodInHeld Program.stoodInAs;simp only[b,c,d,J7 a,a]
def AR.Rw {a b:Addr}(h:AR ρ a a')(k:AR ρ b b'):(a.block==b.block)=(a'.block==b'.block):=by
 rw[ZcG,beq_iff_eq,beq_iff_eq];constructor
 .intro e;have c:=h.1;rw[e,k.1]at c;exact(ZW c).symm
 intro e;have c:=h.1;rw[e]at c;exact ρ.inj _ _ _ c k.1
def AR.eq_iff {a b:Addr}(h:AR ρ a a')(k:AR ρ b b'):(a==b)=(a'==b'):=by
 have c:=AR.Rw h k;obtain⟨v,u,p⟩:=a;obtain⟨r,q,o⟩:=a';obtain⟨t,s,j⟩:=b;obtain⟨m,l,n⟩:=b';obtain⟨i,g,f⟩:=h;obtain⟨k1,e,d⟩:=k;dsimp only at i g f k1 e d c;subst g;subst f;subst e;subst d;rw[ZcG,beq_iff_eq,beq_iff_eq]at c⊢;simp only[Addr.mk.injEq,c]
def AR.base (b:Base P ρ){a:Addr}(h:AR ρ a a'):(a.block<P.globals.size)=(a'.block<P.globals.size):=by
 apply propext;have:=ρ.sep _ _ h.1;unfold Base at b;rw[b]at this;exact this
def akx (c:Ren)(a b:Option (Addr×Bool)):Prop:=(a=none/\b=none)\/∃x y l,a=some (x,l)/\b=some (y,l)/\AR c x y
variable {l l' i n r r' N:Nat}
def Rx (h:ρ r=some r'):Am P' P fz akx ρ (numberAt r) (numberAt r'):=by
 unfold numberAt;refine Ac _ (Ng h) λσ s d a b=>?_;cases b;split
 .exact Ad (.inl ⟨rfl,rfl⟩)
 refine Ac _ (C6 (a.1 _ _ h)) λτ o o' _ c=>?_;cases c with
 |number l h=>exact Ad (.inr ⟨_,_,l,rfl,rfl,h⟩)
 | @junk o' h=>cases o'<;>first|exact Ad (.inl ⟨rfl,rfl⟩)|cases h
 |_=>exact Ad (.inl ⟨rfl,rfl⟩)
def Ff {a:Addr}(h:AR ρ a a'):Am P' P fz (λσ p d=>AR σ p.1 d.1/\p.2=d.2) ρ (ZbP a) (ZbP a'):=by
 unfold ZbP;refine Ac _ (Rx h.1) λσ s f c e=>?_;rcases e with⟨rfl,rfl⟩|⟨x,y,l,rfl,rfl,b⟩
 .exact Ad ⟨h.mono c,rfl⟩
 exact Ad ⟨b,rfl⟩
def Oy (T:Twins P' P):∀(d m:Nat) (t:Zs) {ρ:Ren} {x x' y y':Zf},Base P ρ->JF P m t=true->VR ρ x x'->VR ρ y y'->Am P' P fz Gf ρ (ZaZ d t x y) (ZaZ d t x' y')
 |0,_,_,_,_,_,_,_,_,_,_,_=>Ai
 |d+1,0,_,_,_,_,_,_,_,h,_,_=>h!
 |d+1,m+1,t,ρ,x,x',y,y',hB,h,hx,B=>by
  unfold ZaZ;refine Ac _ (Aq T t) λσ u u' D S=>?_;obtain⟨rfl,S⟩:=S;unfold JF at h;rw[S]at h;have v:=hx.mono D;have q:=B.mono D;have I0:=hB.mono D;cases u with
  |bool=>
   cases v<;>first|exact Ae|skip
   cases q<;>first|exact Ae|exact Ad rfl
  |int k=>
   cases v with
   |int k n=>
    cases q with
    |int k' M=>dsimp only;split<;>first|exact Ad rfl|exact Ae
    | @pointer b b' j=>
     cases b<;>cases b'<;>first|exact j.elim|skip
     .exact Ai
     .cases n with
      |ofNat z=>cases z with
       |zero=>exact Ad rfl
       |succ z=>exact Ai
      |negSucc z=>exact Ai
    |_=>exact Ae
   | @pointer a a' r=>
    cases a<;>cases a'<;>first|exact r.elim|skip
    .cases q<;>first|exact Ae|exact Ai
    .cases q with
     |int k' M=>
      cases M with
      |ofNat z=>cases z with
       |zero=>exact Ad rfl
       |succ z=>exact Ai
      |negSucc z=>exact Ai
     | @pointer b b' j=>
      cases b<;>cases b'<;>first|exact j.elim|skip
      .exact Ai
      .dsimp only
       refine Ac _ (Ff r) λBr p H G C=>?_;obtain⟨a,la⟩:=p;obtain⟨a',cR⟩:=H;obtain⟨vJ,_⟩:=C;dsimp only at vJ;have Kt:AR Br _ _:=AR.mono G j;refine Ac _ (Ff Kt) λEo p H w C=>?_;obtain⟨b,lb⟩:=p;obtain⟨b',ac⟩:=H;obtain⟨vK,_⟩:=C;dsimp only at vK;have Nk:=vJ.mono w;dsimp only;refine Ac _ C2 λKx p H BH C=>?_;obtain⟨rfl,rfl⟩:=C;have N:=Nk.mono BH;have O:=vK.mono BH;have Po:Base P Kx:=I0.mono (Ren.le_trans G (Ren.le_trans w BH));rw[AR.Rw N O,T.tables];have Y:=AR.base Po N;simp only[Y];split
       .refine Ac _ (Hk T N) λNj z z' D7 I=>?_
        cases I;refine Ac _ (Hk T (O.mono D7)) λai y y' am B=>?_;cases B;exact Ad rfl
       .refine Ac _ (Cu T t) λNj i i' D7 hi=>?_
        obtain⟨rfl,_⟩:=hi;rw[AR.eq_iff N O]
        repeat' split
        all_goals first|exact Ad rfl|exact Ai
     |_=>exact Ai
   |_=>cases q<;>first|exact Ae|exact Ai
  |float k=>cases v<;>exact Ae
  |complex k=>cases v<;>exact Ae
  |string=>
   cases v<;>first|exact Ae|skip
   cases q<;>first|exact Ae|exact Ad rfl
  |chan _ _=>
   cases v<;>first|exact Ae|skip
   cases q<;>first|exact Ae|skip
   rename_i a a' r b b' j;dsimp only;rw[Rq.eq_iff r j];exact Ad rfl
  |slice e=>
   cases v with
   | @slice a a' n c r=>
    cases q with
    | @slice b b' M c' j=>
     cases a<;>cases a'<;>first|exact r.elim|skip
     .dsimp only;rw[Om.isNone j];exact Ad rfl
     .cases b<;>cases b'<;>first|exact j.elim|exact Ad rfl|exact Ae
    |void b b'=>cases a<;>cases a'<;>first|exact r.elim|exact Ad rfl|exact Ae
    |_=>cases a<;>cases a'<;>first|exact r.elim|exact Ae
   |void a a'=>
    cases q with
    | @slice b b' M c' j=>cases b<;>cases b'<;>first|exact j.elim|exact Ad rfl|exact Ae
    |_=>exact Ae
   |_=>exact Ae
  |map k e=>
   cases v with
   | @map a a' r=>
    cases q with
    | @map b b' j=>
     cases a<;>cases a'<;>first|exact r.elim|skip
     .dsimp only;rw[Rq.isNone j];exact Ad rfl
     .cases b<;>cases b'<;>first|exact j.elim|exact Ad rfl|exact Ae
    |_=>cases a<;>cases a'<;>first|exact r.elim|exact Ae
   |_=>exact Ae
  |func _ _ _=>
   cases v<;>first|exact Ae|skip
   all_goals cases q<;>first|exact Ae|exact Ad rfl
  |struct o=>
   cases v with
   | @agg c c' X Mi=>
    cases q with
    | @agg e e' W Ry=>
     have F:BS σ c c':=⟨X,Mi⟩;have Z:BS σ e e':=⟨W,Ry⟩;dsimp only;refine Ac _ C2 λBr p H G C=>?_;obtain⟨rfl,rfl⟩:=C;rw[Rv T.tables];split
     .exact Ai
     .rw[<-Zaf, <-Zaf]
      have FJ:Ep (fun(f g:Field)=>f=g/\JF P m f.type=true) o.toList o.toList:=by
       have:∀l:List Field,(∀f∈l,JF P m f.type=true)->Ep (fun(f g:Field)=>f=g/\JF P m f.type=true) l l:=by
        intro l
        induction l with
        |nil=>intro _;exact .nil
        |cons x l ih=>intro hl;exact .cons ⟨rfl,hl x i!⟩ (ih λf V=>hl f (by simp[V]))
       refine this _ λf V=>?_;dsimp only at h;rw[zS]at h;exact h f (by simpa using V)
      refine Ac Gf (Vx (E:=λ_ (f g:Field)=>f=g/\JF P m f.type=true) (λ_ _ _ _ _ h=>h) FJ rfl λτ f g b c' Df U _=>?_) λτ s s' _ J=>?_
      .obtain⟨rfl,yJ⟩:=U
       split
       .have w:=Ren.le_trans G Df
        refine Ac _ (Kw T _ (BS.mono w F) _) λDD y y' L B=>?_;refine Ac _ (Kw T _ (BS.mono (Ren.le_trans w L) Z) _) λJ6 z z' K I=>?_;refine Ac _ (Oy T d m f.type (I0.mono (Ren.le_trans w (Ren.le_trans L K))) yJ (B.mono K) I) λHm b b' _ j=>?_;cases j;split
        .exact Ad (.done rfl)
        exact Ad (.yield rfl)
       exact Ad (.yield rfl)
      .cases J
       split<;>exact Ad rfl
    |_=>exact Ae
   |_=>exact Ae
  |array Q A=>
   cases v with
   | @agg c c' X Mi=>
    cases q with
    | @agg e e' W Ry=>
     have F:BS σ c c':=⟨X,Mi⟩;have Z:BS σ e e':=⟨W,Ry⟩;dsimp only;refine Ac _ (Ck T A) λBr s s' G J=>?_;obtain⟨rfl,_⟩:=J;refine Ac Gf (fQ (R:=Gf) Q rfl λτ x b c' Df _=>?_) λτ s s' _ J=>?_
     .have w:=Ren.le_trans G Df
      refine Ac _ (Kw T _ (BS.mono w F) _) λDD y y' L B=>?_;refine Ac _ (Kw T _ (BS.mono (Ren.le_trans w L) Z) _) λJ6 z z' K I=>?_;refine Ac _ (Oy T d m A (I0.mono (Ren.le_trans w (Ren.le_trans L K))) h (B.mono K) I) λHm b b' _ j=>?_;cases j;split
      .exact Ad (.done rfl)
      exact Ad (.yield rfl)
     .cases J
      split<;>exact Ad rfl
    |_=>exact Ae
   |_=>exact Ae
  |_=>cases h
def Rz (T:Twins P' P)(m:Nat)(t:Zs)(c:Base P ρ)(h:JF P m t=true)(b:VR ρ x x')(a:VR ρ y y'):Am P' P fz Gf ρ (Zaa t x y) (Zaa t x' y'):=
 Oy T _ m t c h b a
def Xx (P:Zo)(m:Nat)(t:Zs):Bool:=JF P m t&&match P.underlying t with|some (.struct _)|some (.array _ _)=>true|_=>false
def nh {m:Nat}{t:Zs}(h:Xx P m t=true){u:TypeDesc}(c:P.underlying t=some u)(a b:Zf):Zbj u a b=none:=by
 unfold Xx at h;rw[c]at h;cases u<;>first|(simp at h;done)|(cases a<;>rfl)
def jf (kind:TypeDesc)(d:∀a b,Zbj kind a b=none){k:Zf}:∀ {es c:List MapEntry},Ep (Ow ρ) es c->∀i,(ZaJ kind k es i=none/\ZaJ kind k' c i=none)\/
  ∃r r',ZaJ kind k es i=some r/\ZaJ kind k' c i=some r'/\((r=none/\r'=none)\/∃j v v',r=some (j,v)/\r'=some (j,v')/\VR ρ v v'):=by
 intro es
 induction es with
 |nil=>intro c h i;cases h;exact .inr ⟨none,none,rfl,rfl,.inl ⟨rfl,rfl⟩⟩
 |cons e es f=>
  intro c h i;cases h with
  | @cons _ e' _ c m g=>
   have l:Zbj kind k e.key=Zbj kind k' e'.key:=by rw[d,d]
   unfold ZaJ;rw[l];cases Zbj kind k' e'.key with
   |none=>exact .inl ⟨rfl,rfl⟩
   |some b=>cases b with
    |true=>exact .inr ⟨_,_,rfl,rfl,.inr ⟨i,e.val,e'.val,rfl,rfl,m.val⟩⟩
    |false=>exact f g (i+1)
def ni (c:Ren)(a b:Option (Nat×Zf)):Prop:=(a=none/\b=none)\/∃j v v',a=some (j,v)/\b=some (j,v')/\VR c v v'
def Vy (T:Twins P' P)(m:Nat)(t:Zs)(h:JF P m t=true):∀ {es c:List MapEntry} {ρ:Ren} {k k':Zf},Base P ρ->VR ρ k k'->Ep (Ow ρ) es c->∀i,
  Am P' P fz ni ρ (zX t k es i) (zX t k' c i):=by
 intro es
 induction es with
 |nil=>intro c ρ k k' _ _ d i;cases d;exact Ad (.inl ⟨rfl,rfl⟩)
 |cons e es l=>
  intro c ρ k k' j f d i;cases d with
  | @cons _ e' _ c g n=>
   unfold zX;refine Ac _ (Rz T m t j h f g.key) λσ b b' a o=>?_;cases o;split
   .exact Ad (.inr ⟨i,_,_,rfl,rfl,g.val.mono a⟩)
   exact l (j.mono a) (f.mono a) (n.mono λ_ _=>Ow.mono a) (i+1)
def Oz (T:Twins P' P)(m:Nat)(t:Zs)(i:Xx P m t=true)(n:Base P ρ){es f:List MapEntry}{k:Zf}(l:VR ρ k k')(hl:Ep (Ow ρ) es f):
  Am P' P fz ni ρ (Zaj t k es) (Zaj t k' f):=by
 unfold Zaj;have h:JF P m t=true:=(ZF _ _▸i:_/\_).1;refine Ac _ (Aq T t) λσ u o a b=>?_;obtain⟨rfl,b⟩:=b;have e:=l.mono a;have g:Ep (Ow σ) es f:=hl.mono λ_ _=>Ow.mono a;rcases jf (k:=k) (k':=k') u (nh i b) g 0 with⟨d,c⟩|⟨r,r',d,c,j⟩
 .rw[d,c];exact Vy T m t h (n.mono a) e g 0
 rw[d,c];exact Ad j
end
section
variable {P' P:Zo}{fz:Prop}{ρ:Ren}
def vM (ρ:Ren)(a b:Nat×Zf):Prop:=a.1=b.1/\VR ρ a.2 b.2
def RA (b:Nat->Option (Nat×Nat)):∀ {l l':List (Nat×Zf)} {c c':Array Zf},Ep (vM ρ) l l'->BS ρ c c'->
  (Zaq b c l=none/\Zaq b c' l'=none)\/∃d d',Zaq b c l=some d/\Zaq b c' l'=some d'/\BS ρ d d':=by
 intro l
 induction l with
 |nil=>intro l' c c' g q;cases g;exact .inr ⟨c,c',rfl,rfl,q⟩
 |cons x l s=>
  intro l' c c' g q;cases g with
  | @cons _ y _ l' D E=>
   obtain⟨i,v⟩:=x;obtain⟨j,v'⟩:=y;obtain⟨e,w⟩:=D;dsimp only at e w;subst e;unfold Zaq;cases b i with
   |none=>exact .inl ⟨rfl,rfl⟩
   |some C=>
    obtain⟨f,u⟩:=C;dsimp only;have m:=w.cells;rw[m.1,q.1];split
    .exact .inl ⟨rfl,rfl⟩
    refine s E ?_;have r:∀ {a a':Array Zf} (n:Nat),BS ρ a a'->∀ {z o:Array Zf},BS ρ z o->BS ρ ((a.toList.zipIdx n).foldl (λk (p:Zf×Nat)=>k.setIfInBounds (f+p.2) p.1) z) ((a'.toList.zipIdx n).foldl (λk (p:Zf×Nat)=>k.setIfInBounds (f+p.2) p.1) o):=by
     intro a a' n A;have g:=A.list;generalize a.toList=l at g⊢;generalize a'.toList=l' at g⊢;clear A
     induction g generalizing n with
     |nil=>intro z o t;exact t
     |cons h _ s=>intro z o t;simp only[List.zipIdx_cons,List.foldl_cons];exact s (n+1) (t.set h _)
    have B:∀(a:Array Zf) (z:Array Zf),a.zipIdx.foldl (λk (x:Zf×Nat)=>match x with|(c,j)=>k.setIfInBounds (f+j) c) z=(a.toList.zipIdx 0).foldl (λk (p:Zf×Nat)=>k.setIfInBounds (f+p.2) p.1) z:=by
     intro a z;rw[<-Zb0,Array.toList_zipIdx]
    rw[B,B];exact r 0 m q
def LV {d:Type}{R:Ren->β->γ->Prop}(k:∀ρ σ x y,ρ.le σ->R ρ x y->R σ x y){f:d->Sem β}{g:d->Sem γ}(j:∀τ x,ρ.le τ->Am P' P fz R τ (f x) (g x))(l:List d):
  ∀σ,ρ.le σ->Am P' P fz (λτ a b=>Ep (R τ) a b) σ (l.mapM f) (l.mapM g):=by
 induction l with
 |nil=>intro σ _;exact Ad .nil
 |cons x l i=>
  intro σ c;rw[List.mapM_cons,List.mapM_cons];refine Ac _ (j σ x c) λn a b e m=>?_;refine Ac _ (i n (Ren.le_trans c e)) λr q p o h=>?_;exact Ad (.cons (k _ _ _ _ o m) h)
def DG (T:Twins P' P){Q:Ren->α->β->Prop}(a:Base P ρ)(e:RuntimeError){f:γ->Sem α}{b:δ->Sem β}:Am P' P fz Q ρ (zw e>>=f) (zw e>>=b):=
 Ac (λ_ _ _=>False) (AJ T a e) λ_ _ _ _ h=>h.elim
variable {p':Array (Nat×Zf)}
def sD (T:Twins P' P)(t:Zs){p:Array (Nat×Zf)}(hp:Ep (vM ρ) p.toList p'.toList):Am P' P fz VR ρ (Zbg t p) (Zbg t p'):=by
 unfold Zbg;refine Ac _ (C8 T t) λσ z K o F=>?_;have r:=F.cells;dsimp only;refine Ac _ (Aq T t) λv d d' A G=>?_;obtain⟨rfl,_⟩:=G;have J:=Ren.le_trans o A;have y:=BS.mono A r;have w:Ep (vM v) p.toList p'.toList:=hp.mono λ_ _ h=>⟨h.1,h.2.mono J⟩;cases d with
 |struct l=>
  dsimp only;refine Ac (λ_ a b=>a=b) ?_ λf D C g H=>?_
  .rw[YW]
   refine Ac _ (LV (ρ:=v) (R:=Gf) (λ_ _ _ _ _ h=>h) (λτ x _=>?_) _ v (Ren.le_refl _)) λf a b _ I=>?_
   .refine Ac _ (Ck T x.type) λf s B g m=>?_
    obtain⟨rfl,_⟩:=m;exact Ad rfl
   have:a=b:=by
    induction I with
    |nil=>rfl
    |cons h _ E=>cases h;rw[E]
   subst this;exact Ad rfl
  .cases H
   have u:Ep (vM f) p.toList p'.toList:=w.mono λ_ _ h=>⟨h.1,h.2.mono g⟩;rcases RA (ρ:=f) (D[·]?) u (BS.mono g y) with⟨e,k⟩|⟨c,c',e,k,q⟩
   .rw[e];exact Ae
   .rw[e,k];exact Ad (.P6 q)
 |array n j=>
  dsimp only;refine Ac _ (Ck T j) λf s B g m=>?_;obtain⟨rfl,_⟩:=m;have u:Ep (vM f) p.toList p'.toList:=w.mono λ_ _ h=>⟨h.1,h.2.mono g⟩;rcases RA (ρ:=f) (λi=>some (i*s,s)) u (BS.mono g y) with⟨e,k⟩|⟨c,c',e,k,q⟩
  .rw[e];exact Ae
  .rw[e,k];exact Ad (.P6 q)
 |_=>exact Ae
def Hn (h:BS ρ a b)(n:Nat):BS ρ ((YN n).map (a[· % a.size]!)) ((YN n).map (b[· % b.size]!)):=by
 by_cases c:a.size=0
 .have f:b.size=0:=h.1▸c
  have j:a= #[]:=Zcj c;have g:b= #[]:=Zcj f;subst j;subst g;refine⟨rfl,λi x y d e=>?_⟩;rw[d]at e;cases e;rw[zF,zc]at d;obtain⟨u,_,rfl⟩:=d;exact .bool false
 exact TE h c n
def Vz (T:Twins P' P)(t:Zs)(e:Nat){p:Array (Nat×Zf)}(hp:Ep (vM ρ) p.toList p'.toList):Am P' P fz VR ρ (Zci t e p) (Zci t e p'):=by
 unfold Zci;refine Ac _ (Aq T t) λσ d d' n v=>?_;obtain⟨rfl,_⟩:=v;cases d with
 |slice f=>
  dsimp only;refine Ac _ (Ck T f) λA s D C u=>?_;obtain⟨rfl,_⟩:=u;split
  .exact .bad trivial
  .have fin:∀(τ:Ren) (z g:Array Zf),A.le τ->BS τ z g->
     (Zaq (λi=>some (i*s,s)) ((YN (e*s)).map (z[· % z.size]!)) p.toList=none/\Zaq (λi=>some (i*s,s)) ((YN (e*s)).map (g[· % g.size]!)) p'.toList=none)\/
     ∃d d',Zaq (λi=>some (i*s,s)) ((YN (e*s)).map (z[· % z.size]!)) p.toList=some d/\Zaq (λi=>some (i*s,s)) ((YN (e*s)).map (g[· % g.size]!)) p'.toList=some d'/\BS τ d d':=by
    intro τ z g m k;have w:Ep (vM τ) p.toList p'.toList:=hp.mono λ_ _ h=>⟨h.1,h.2.mono (Ren.le_trans n (Ren.le_trans C m))⟩;exact RA (ρ:=τ) (λi=>some (i*s,s)) w (Hn k (e*s))
   split
   .refine Ac (λσ a b=>BS σ a b) (Ad Bz.nil) λτ z g m k=>?_
    rcases fin τ z g m k with⟨j,l⟩|⟨c,c',j,l,o⟩
    .rw[j];exact Ae
    rw[j,l];exact Ac _ (IZ f o) λ_ _ _ _ q=>Ad (.slice _ _ q)
   .refine Ac _ (C8 T f) λτ z g m k=>?_
    refine Ac (λσ a b=>BS σ a b) (Ad k.cells) λx y y' B r=>?_;rcases fin x y y' (Ren.le_trans m B) r with⟨j,l⟩|⟨c,c',j,l,o⟩
    .rw[j];exact Ae
    .rw[j,l];exact Ac _ (IZ f o) λ_ _ _ _ q=>Ad (.slice _ _ q)
 |_=>exact Ae
def Xy (T:Twins P' P)(D:Base P ρ)(t:Zs){l l' c c':Zf}(hl:VR ρ l l')(C:VR ρ c c'):Am P' P fz VR ρ (Zdp t l c) (Zdp t l' c'):=by
 unfold Zdp;refine Ac _ (Aq T t) λσ d d' f B=>?_;obtain⟨rfl,_⟩:=B;cases d with
 |slice e=>
  dsimp only;refine Ac _ (Lm (hl.mono f)) λO n I q w=>?_;cases w;refine Ac _ (Lm (C.mono (Ren.le_trans f q))) λL m J G x=>?_;cases x;refine Ac _ (Cu T e) λp i i' F A=>?_;obtain⟨rfl,_⟩:=A;have o:Base P p:=D.mono (Ren.le_trans f (Ren.le_trans q (Ren.le_trans G F)));have h:∀τ:Ren,p.le τ->Am P' P fz VR τ (sizeOf e>>=λs=>if(IntKind.i64.wrap m).toNat*s=0 then(pure #[]>>=λzero=>newRow e ((YN ((IntKind.i64.wrap m).toNat*s)).map (zero[· % zero.size]!))>>=λa=>pure (Zy (some a) (IntKind.i64.wrap n).toNat (IntKind.i64.wrap m).toNat))
    else zeroValue e>>=λz=>(pure z.cells>>=λzero=>newRow e ((YN ((IntKind.i64.wrap m).toNat*s)).map (zero[· % zero.size]!))>>=λa=>pure (Zy (some a) (IntKind.i64.wrap n).toNat (IntKind.i64.wrap m).toNat)))
    (sizeOf e>>=λs=>if(IntKind.i64.wrap m).toNat*s=0 then(pure #[]>>=λzero=>newRow e ((YN ((IntKind.i64.wrap m).toNat*s)).map (zero[· % zero.size]!))>>=λa=>pure (Zy (some a) (IntKind.i64.wrap n).toNat (IntKind.i64.wrap m).toNat))
    else zeroValue e>>=λz=>(pure z.cells>>=λzero=>newRow e ((YN ((IntKind.i64.wrap m).toNat*s)).map (zero[· % zero.size]!))>>=λa=>pure (Zy (some a) (IntKind.i64.wrap n).toNat (IntKind.i64.wrap m).toNat))):=by
   intro τ g;refine Ac _ (Ck T e) λK s H N v=>?_;obtain⟨rfl,_⟩:=v;split
   .refine Ac (λσ a b=>BS σ a b) (Ad Bz.nil) λτ z r g j=>?_
    exact Ac _ (IZ e (Hn j _)) λ_ _ _ _ k=>Ad (.slice _ _ k)
   refine Ac _ (C8 T e) λτ z r g j=>?_;refine Ac (λσ a b=>BS σ a b) (Ad j.cells) λM y y' Q u=>?_;exact Ac _ (IZ e (Hn u _)) λ_ _ _ _ k=>Ad (.slice _ _ k)
  split
  .split
   .exact DG T o _
   split
   .exact DG T o _
   refine Ac _ (Hh _) λτ a b g E=>?_;cases E;exact DG T (o.mono g) _
  .exact Ac _ (Up _) λτ _ _ g _=>h τ g
 |_=>exact Ae
end
section
variable {P' P:Zo}{fz:Prop}{ρ:Ren}
def Bz.modify {R:α->β->Prop}{a:Array α}{b:Array β}{f:α->α}{g:β->β}(h:Bz R a b)(l:∀x y,R x y->R (f x) (g y))(i:Nat):Bz R (a.modify i f) (b.modify i g):=by
 refine⟨by simp[h.1],λj x y d c=>?_⟩;rw[Y7]at d c;split at d
 .rw[if_pos ‹_›]at c
  rw[zc]at d c;obtain⟨u,k,rfl⟩:=d;obtain⟨v,e,rfl⟩:=c;exact l _ _ (h.2 _ _ _ k e)
 rw[if_neg ‹_›]at c;exact h.2 _ _ _ d c
def Om.eq_iff {a a' b c:Option Addr}(h:Om ρ a a')(k:Om ρ b c):(a==b)=(a'==c):=by
 cases a<;>cases a'<;>first|exact h.elim|skip
 all_goals cases b<;>cases c<;>first|exact k.elim|rfl|skip
 have:=AR.eq_iff h k;simpa using this
def Xz (a b:ByteArray):(a==b)=true↔a=b:=by
 constructor
 .intro h
  cases a with|mk a=>cases b with|mk b=>
  have c:(a==b)=true:=h;rw[eq_of_beq c]
 rintro rfl;cases a with|mk a=>exact(beq_self_eq_true a:(a==a)=true)
def TG:∀(n:Nat) {a a' b b':Zf},VR ρ a a'->VR ρ b b'->zH n a b=true->zH n a' b'=true:=by
 intro n
 induction n with
 |zero=>
  intro a a' b b' h k d;cases h<;>cases k<;>first|exact d|(cases d;done)|skip
  .rename_i g _ _ f;exact(Om.eq_iff g f).symm.trans d
  .rename_i g _ _ f;exact(Rq.eq_iff g f).symm.trans d
 |succ n q=>
  intro a a' b b' h k d;cases h<;>cases k<;>first|exact d|(cases d;done)|skip
  .rename_i g _ _ f;exact(Om.eq_iff g f).symm.trans d
  .rename_i g _ _ f;exact(Rq.eq_iff g f).symm.trans d
  .rename_i g _ _ _ f
   simp only[zH,ZF]at d⊢;exact⟨d.1,q g f d.2⟩
  rename_i c c' s A e e' r z;have g:BS ρ c c':=⟨s,A⟩;have f:BS ρ e e':=⟨r,z⟩;simp only[zH,s,r,ZF]at d⊢;refine⟨d.1,?_⟩;have j:∀ {l l':List Zf},Ep (VR ρ) l l'->∀ {m i:List Zf},Ep (VR ρ) m i->((l.zip m).all λx=>match x with|(x,y)=>zH n x y)=true->((l'.zip i).all λx=>match x with|(x,y)=>zH n x y)=true:=by
   intro l l' w
   induction w with
   |nil=>intro m i p h;cases p<;>rfl
   |cons u _ o=>intro m i p h;cases p with
    |nil=>rfl
    |cons t v=>
     simp only[List.zip_cons_cons,Zbs,ZF]at h⊢;exact⟨q u t h.1,o v h.2⟩
  exact j g.list f.list d.2
def XA:∀(n:Nat) {a b:Zf},zH n a b=true->a=b:=by
 intro n
 induction n with
 |zero=>
  intro a b h;cases a<;>cases b<;>first|(cases h;done)|(simp[zH]at h;simp[h];done)|rfl|exact congrArg Value.string ((Xz _ _).1 h)
 |succ n i=>
  intro a b h;cases a<;>cases b<;>first|(cases h;done)|skip
  case agg.agg c e=>
   simp only[zH,ZF,beq_iff_eq]at h;have f:∀ {l m:List Zf},l.length=m.length->((l.zip m).all λx=>match x with|(x,y)=>zH n x y)=true->l=m:=by
    intro l
    induction l with
    |nil=>intro m d _;cases m with
     |nil=>rfl
     |cons _ _=>cases d
    |cons x l g=>intro m d h;cases m with
     |nil=>cases d
     |cons y m=>
      simp only[List.zip_cons_cons,Zbs,ZF]at h;rw[i h.1,g (ZE d) h.2]
   congr 1
   exact Array.ext' (f (by simpa using h.1) h.2)
  case iface.iface t v u x=>
   simp only[zH,ZF,beq_iff_eq]at h;rw[h.1,i h.2]
  all_goals first|(simp[zH]at h;simp[h];done)|rfl|exact congrArg Value.string ((Xz _ _).1 h)
def P5 {a:Type}(P:Zo)(s:Sem a):Prop:=∀(w:Zb) (t:Tape) (es:Array Z9),s.runT P {w with tape:=t} es=((s.runT P w es).1.tp t,(s.runT P w es).2)
def J8 {Q:Ren->α->β->Prop}{a a' b l:Zf}(h:VR ρ a a')(k:VR ρ b l){f:Zf->Sem α}{n:Zf->Sem β}(J:∀σ v v',ρ.le σ->VR σ v v'->Am P' P fz Q σ (f v) (n v'))(S:∀v',P5 P (n v')):
  DC P' P fz Q ρ ((Yi a b).bind f) ((Yi a' l).bind n):=by
 by_cases C:zH 10000 a b=true
 .have s:=TG 10000 h k C
  unfold Yi;rw[if_pos C,if_pos s];exact(J ρ b l (Ren.le_refl _) k).ok
 by_cases s:zH 10000 a' l=true
 .have e:a'=l:=XA 10000 s
  intro w w' L es p r g K Z;have N:∀u es,((Yi a b).bind f).runT P' u es=(f (if(Zcd "map.whichKeyStays" 2).cut (u.tape u.drawn (.extern "map.whichKeyStays" 2))=0 then b else a)).runT P' {u with drawn:=u.drawn+1} es:=by
   intro u es;unfold Yi;rw[if_neg C]
   rfl
  have hR:((Yi a' l).bind n).runT P w' p=(n l).runT P w' p:=by
   unfold Yi;rw[if_pos s]
   rfl
  rw[N]at K;generalize M:(if(Zcd "map.whichKeyStays" 2).cut (w.tape w.drawn (.extern "map.whichKeyStays" 2))=0 then b else a)=v at K;have H:VR ρ v l:=by
   subst M;split
   .exact k
   exact e▸h
  let T:Tape:=λi=>w.tape (i - w'.drawn+(w.drawn+1))
  have X:Ii ρ {w with drawn:=w.drawn+1} {w' with tape:=T}:=⟨L.obj,λi q=>by
   show w.tape (w.drawn+1+i) q=w.tape (w'.drawn+i - w'.drawn+(w.drawn+1)) q;rw[Zbl,Nat.add_comm i],L.os⟩
  obtain⟨σ,r',d,d',h1,h2,E,D,O,h6,j,h8⟩:=(J ρ v l (Ren.le_refl _) H).run _ _ X es p r g K Z;rw[S l w' T p]at E;rcases G:(n l).runT P w' p with⟨m,ac⟩;rw[G]at E;simp only[Prod.mk.injEq]at E;obtain⟨Pn,Y⟩:=E;have B:m.world.tape=w'.tape:=by
   have:=S l w' w'.tape p;rw[show({w' with tape:=w'.tape}:Zb)=w' from rfl,G]at this;simp only[Prod.mk.injEq]at this;have:=congrArg (λr:Result β=>r.world.tape) this.1;cases m<;>exact this
  subst Pn;refine⟨σ,m,d,d',h1,h2,by rw[hR,G, <-Y],?_,⟨λb c hb=>?_,?_⟩,h6,⟨Zr (Zj _) j.size,?_,j.fresh,?_,?_,j.Rt,j.frozen,?_,B,?_,j.Pm,Zbb j.drawn,j.mR,j.shape,j.awake⟩,λt B=>?_⟩
  .cases A:m with
   |ok x u=>rw[A]at D;cases D with|ok I=>exact .ok I
   |halt x u=>rw[A]at D;cases D with|panic I=>exact .panic I
  .obtain⟨o,o',W,V,U⟩:=O.obj b c hb
   exact⟨o,o',W,by cases m<;>exact V,U⟩
  .have:=O.os;cases m<;>exact this
  .have:=j.Nf;cases m<;>exact this
  .have:=j.new;cases m<;>exact this
  .have:=j.still;cases m<;>exact this
  .have:=j.os;cases m<;>exact this
  .have:=j.output;cases m<;>exact this
  rw[N];have e2:t w.drawn=w.tape w.drawn:=B _ (Zj _) j.drawn;show(f (if(Zcd "map.whichKeyStays" 2).cut (t w.drawn _)=0 then b else a)).runT P' _ es=_;rw[e2,M];exact h8 t (λi x y=>B i (Zbb x) y)
 unfold Yi;rw[if_neg C,if_neg s];refine Am.ok (Am.bind (R:=VR) (Ac _ (Hh _) λσ x y z F=>?_) J);cases F;refine Ad ?_;split
 .exact k.mono z
 exact h.mono z
def XB (r:Nat)(o:Obj):P5 P (setObj r o):=by
 intro w t es;unfold setObj;simp only[ZI];cases w.heap[r]? with
 |none=>rfl
 |some u=>cases u<;>rfl
def nk (T:Twins P' P)(m:Nat)(t:Zs)(Q:∀k e,P.underlying t=some (.map k e)->Xx P m k=true)(J:Base P ρ){i:Zf}(N:VR ρ x x')(hi:VR ρ i i')(ok:Bool):
  Am P' P fz VR ρ (Za2 t x i ok) (Za2 t x' i' ok):=by
 unfold Za2;refine Ac _ (Aq T t) λσ d d' q D=>?_;obtain⟨rfl,D⟩:=D;have V:=N.mono q;cases d with
 |map c f=>
  have L:=Q _ _ D;dsimp only;have l:∀τ (es g:Array MapEntry),σ.le τ->Bz (Ow τ) es g->Am P' P fz VR τ
    (YD es.isEmpty 10000 c i>>=λ_=>Zaj c i es.toList>>=λr=>match r with
     |some (_,v)=>pure (v,true)>>=λp=>pure (if ok=true then .tuple #[p.1,.bool p.2] else p.1)
     |none=>zeroValue f>>=λz=>pure (z,false)>>=λp=>pure (if ok=true then .tuple #[p.1,.bool p.2] else p.1))
    (YD g.isEmpty 10000 c i'>>=λ_=>Zaj c i' g.toList>>=λr=>match r with
     |some (_,v)=>pure (v,true)>>=λp=>pure (if ok=true then .tuple #[p.1,.bool p.2] else p.1)
     |none=>zeroValue f>>=λz=>pure (z,false)>>=λp=>pure (if ok=true then .tuple #[p.1,.bool p.2] else p.1)):=by
   intro τ es g s n;have S:es.isEmpty=g.isEmpty:=by simp[Zdc,n.1]
   rw[S];have H:=Ren.le_trans q s;refine Ac _ (D8 T _ _ _ (J.mono H) (hi.mono H)) λG _ _ A _=>?_;have K:=Ren.le_trans H A;have R:Ep (Ow G) es.toList g.toList:=(Bz.mono n λ_ _=>Ow.mono A).list;refine Ac _ (Oz T m c L (J.mono K) (hi.mono K) R) λX r I Z w=>?_;have fin:∀(y:Ren) v v' b,VR y v v'->VR y (if ok=true then .tuple #[v,.bool b] else v) (if ok=true then .tuple #[v',.bool b] else v'):=by
    intro y v v' b u;split
    .exact .tuple' ((Bz.single u).push (.bool b))
    exact u
   rcases w with⟨rfl,rfl⟩|⟨j,v,v',rfl,rfl,u⟩
   .refine Ac _ (C8 T f) λy z W Y M=>?_
    refine Ac (λσ a b=>VR σ a.1 b.1/\a.2=b.2) (Ad ⟨M,rfl⟩) λU p B _ C=>?_;obtain⟨a,b⟩:=p;obtain⟨a',b'⟩:=B;obtain⟨F,E⟩:=C;cases E;exact Ad (fin _ _ _ _ F)
   refine Ac (λσ a b=>VR σ a.1 b.1/\a.2=b.2) (Ad ⟨u,rfl⟩) λU p B _ C=>?_;obtain⟨a,b⟩:=p;obtain⟨a',b'⟩:=B;obtain⟨F,E⟩:=C;cases E;exact Ad (fin _ _ _ _ F)
  cases V with
  | @map r I w=>
   cases r<;>cases I<;>first|exact w.elim|skip
   .exact Ac (λσ a b=>Bz (Ow σ) a b) (Ad Bz.nil) λτ es g s n=>l τ es g s n
   .dsimp only
    refine Ac _ (C6 w) λτ o o' s O=>?_;cases O with
    |map k h=>exact Ac (λσ a b=>Bz (Ow σ) a b) (Ad h) λG es g A n=>l G es g (Ren.le_trans s A) n
    |_=>exact CC
  |_=>exact CC
 |_=>exact Ae
variable {BA:Array MapEntry}
def XC {es:Array MapEntry}(f:Bz (Ow ρ) es BA){k:Zf}(d:VR ρ k k')(i:Nat):VR ρ (((es[i]?).map (·.key)).getD k) (((BA[i]?).map (·.key)).getD k')/\((BA[i]?).map (λe=>(e.born:Int))).getD 0=((es[i]?).map (λe=>(e.born:Int))).getD 0:=by
 rcases f.opt i with⟨b,a⟩|⟨x,y,b,a,c⟩
 .rw[b,a];exact⟨d,rfl⟩
 rw[b,a];exact⟨c.key,by simp[c.born]⟩
def OA (r:Nat)(o:Obj)(v:β):P5 P (setObj r o>>=λ_=>pure v):=by
 intro w t es;show(Sem.setObj r o (Zd7 v)).runT P _ es=(((Sem.setObj r o (Zd7 v)).runT P w es).1.tp t,((Sem.setObj r o (Zd7 v)).runT P w es).2);simp only[ZI];cases w.heap[r]? with
 |none=>rfl
 |some u=>cases u<;>rfl
def Pq (T:Twins P' P)(m:Nat)(t:Zs)(R:∀k e,P.underlying t=some (.map k e)->Xx P m k=true)(w:Base P ρ){k:Zf}(N:VR ρ x x')(l:VR ρ k k')(F:VR ρ v v'):
  DC P' P fz Gf ρ (ZaS t x k v) (ZaS t x' k' v'):=by
 unfold ZaS;refine DC.bind (Aq T t) λσ d d' i s=>?_;obtain⟨rfl,s⟩:=s;have V:=N.mono i;cases d with
 |map key G=>
  have L:=R _ _ s;dsimp only;cases V with
  | @map r K p=>
   cases r<;>cases K<;>first|exact p.elim|skip
   .exact(AJ T (w.mono i) _).ok
   .dsimp only
    refine DC.bind (C6 p) λτ o o' I Q=>?_;cases Q with
    | @map es BA c h=>
     dsimp only;have D:=Ren.le_trans i I;refine DC.bind (D8 T _ _ _ (w.mono D) (l.mono D)) λZ _ _ C _=>?_;have E:=Ren.le_trans D C;have J:=Bz.mono h λ_ _=>Ow.mono C;refine DC.bind (Oz T m key L (w.mono E) (l.mono E) J.list) λS q X B O=>?_;have n:=Ren.le_trans E B;have z:=Bz.mono J λ_ _=>Ow.mono B;have H:S _=some _:=(Ren.le_trans (Ren.le_trans I C) B).1 _ _ p;rcases O with⟨rfl,rfl⟩|⟨j,u,W,rfl,rfl,_⟩
     .exact Am.ok (D6 H (.map _ (z.push (x:= {key:=k,val:=v,born:=_}) (y:= {key:=k',val:=v',born:=_}) ⟨l.mono n,F.mono n,rfl⟩)))
     .refine J8 (XC z (l.mono n) j).1 (l.mono n) (λY y y' A M=>?_) λy'=>XB _ _
      exact D6 (A.1 _ _ H) (.map _ (Bz.modify (f:=λe=> {e with key:=y,val:=v}) (g:=λe=> {e with key:=y',val:=v'}) (Bz.mono z λ_ _=>Ow.mono A) (λa b U=>⟨M,F.mono (Ren.le_trans n A),U.born⟩) j))
    |_=>exact Ae.ok
  |_=>exact Ae.ok
 |_=>exact Ae.ok
def cS (T:Twins P' P)(m:Nat)(t:Zs)(W:∀k e,P.underlying t=some (.map k e)->Xx P m k=true)(A:Base P ρ){k:Zf}(R:VR ρ x x')(n:VR ρ k k'):
  DC P' P fz VR ρ (ZcK t x k) (ZcK t x' k'):=by
 unfold ZcK;refine DC.bind (Aq T t) λσ d d' i w=>?_;obtain⟨rfl,w⟩:=w;have Bd:=R.mono i;cases d with
 |map key p=>
  have O:=W _ _ w;dsimp only;cases Bd with
  | @map r N v=>
   cases r<;>cases N<;>first|exact v.elim|skip
   .exact(AJ T (A.mono i) _).ok
   .dsimp only
    refine DC.bind (C6 v) λτ o o' K V=>?_;cases V with
    | @map es BA c h=>
     dsimp only;have G:=Ren.le_trans i K;refine DC.bind (D8 T _ _ _ (A.mono G) (n.mono G)) λDD _ _ E _=>?_;have H:=Ren.le_trans G E;have M:=Bz.mono h λ_ _=>Ow.mono E;refine DC.bind (Oz T m key O (A.mono H) (n.mono H) M.list) λY q q' D U=>?_;have F:=Ren.le_trans H D;have C:=Bz.mono M λ_ _=>Ow.mono D;have J:Y _=some _:=(Ren.le_trans (Ren.le_trans K E) D).1 _ _ v;rcases U with⟨rfl,rfl⟩|⟨j,u,u',rfl,rfl,S⟩
     .refine Am.ok ?_
      refine Ac _ (C8 T p) λZ z z' l I=>?_;refine Ac _ (D6 (l.1 _ _ J) (.map _ ((Bz.mono C λ_ _=>Ow.mono l).push ⟨n.mono (Ren.le_trans F l),I,rfl⟩))) λX _ _ B _=>?_;exact Ad (.tuple' ((Bz.single (I.mono B)).push (.int _ _)))
     .have s:=XC C (n.mono F) j
      refine J8 s.1 (n.mono F) (λZ y y' l Q=>?_) λy'=>OA _ _ _;refine Ac _ (D6 (l.1 _ _ J) (.map _ (Bz.modify (f:=λe=> {e with key:=y}) (g:=λe=> {e with key:=y'}) (Bz.mono C λ_ _=>Ow.mono l) (λa b L=>⟨Q,L.val,L.born⟩) j))) λX _ _ B _=>?_;rw[s.2];exact Ad (.tuple' ((Bz.single (S.mono (Ren.le_trans l B))).push (.int _ _)))
    |_=>exact Ae.ok
  |_=>exact Ae.ok
 |_=>exact Ae.ok
def XD {es:Array MapEntry}(h:Bz (Ow ρ) es BA)(p:Nat->Bool):es.findIdx? (λe=>p e.born)=BA.findIdx? (λe=>p e.born):=by
 have b:=h.list;have e:∀a:Array MapEntry,a.findIdx? (λe=>p e.born)=a.toList.findIdx? (λe=>p e.born):=by
  rintro⟨l⟩;exact List.findIdx?_toArray _ _
 rw[e,e];generalize es.toList=l at b⊢;generalize BA.toList=l' at b⊢;clear h e
 induction b with
 |nil=>rfl
 |cons d _ c=>simp only[List.findIdx?_cons,d.born,c]
def VA (t:Zs){s s':Zf}(m:VR ρ x x')(q:VR ρ s s')(p:VR ρ v v'):
  Am P' P fz Gf ρ (Zch t x s v) (Zch t x' s' v'):=by
 unfold Zch;cases m with
 | @map r l d=>
  cases r<;>cases l<;>first|exact d.elim|skip
  .exact Ae
  .dsimp only
   refine Ac _ (C6 d) λτ o o' i u=>?_;cases u with
   | @map es BA c h=>
    dsimp only;refine Ac _ (Lm (q.mono i)) λz n y j w=>?_;cases w;rw[XD h (λb=>(b:Int)==n)];split
    .exact D6 ((Ren.le_trans i j).1 _ _ d) (.map _ (Bz.modify (f:=λe=> {e with val:=v}) (g:=λe=> {e with val:=v'}) (Bz.mono h λ_ _=>Ow.mono j) (λa b k=>⟨k.key,p.mono (Ren.le_trans i j),k.born⟩) _))
    .exact Ai
   |_=>exact Ae
 |_=>exact Ae
def nu (T:Twins P' P)(t:Zs)(k:VR ρ x x'):Am P' P fz VR ρ (ZdM t x) (ZdM t x'):=by
 unfold ZdM;refine Ac _ (Aq T t) λσ d d' f g=>?_;obtain⟨rfl,g⟩:=g;have i:=k.mono f;have a:∀τ (o o':Obj),OR τ o o'->Am P' P fz VR τ (newObj o>>=λr=>pure (ZbT r)) (newObj o'>>=λr=>pure (ZbT r)):=
  λτ o o' b=>Ac _ (Hg b) λ_ _ _ _ e=>Ad (.pointer ⟨e,rfl,rfl⟩)
 cases d with
 |string=>
  cases i with
  |string s=>exact Ac (λτ o o'=>OR τ o o') (Ad (.stringIter s 0)) λτ o o' _ b=>a τ o o' b
  |_=>exact CC
 |map _ _=>
  cases i with
  | @map r j e=>
   cases r<;>cases j<;>first|exact e.elim|skip
   .exact Ac (λτ o o'=>OR τ o o') (Ad (.mapIter 0 #[] 0 trivial)) λτ o o' _ b=>a τ o o' b
   .dsimp only
    refine Ac _ (C6 e) λτ o o' l b=>?_;cases b with
    |map c h=>exact Ac (λτ o o'=>OR τ o o') (Ad (.mapIter c #[] c (l.1 _ _ e))) λτ o o' _ b=>a τ o o' b
    |_=>exact CC
  |_=>exact CC
 |_=>exact CC
def cU {R:α->β->Prop}{l:List α}{l':List β}(h:Ep R l l'){p:α->Bool}{q:β->Bool}(hp:∀x y,R x y->p x=q y):Ep R (l.filter p) (l'.filter q):=by
 induction h with
 |nil=>exact .nil
 |cons b _ a=>
  rw[ZbB,ZbB,hp _ _ b];split
  .exact .cons b a
  exact a
def Bz.filter {R:α->β->Prop}{a:Array α}{b:Array β}(h:Bz R a b){p:α->Bool}{q:β->Bool}(hp:∀x y,R x y->p x=q y):Bz R (a.filter p) (b.filter q):=by
 have:=cU h.list hp;have c:=Bz.fL this;rw[<-Zd1, <-Zd1,ZdU,ZdU]at c;exact c
def sE {R:α->β->Prop}{a:Array α}{b:Array β}(h:Bz R a b){p:α->Bool}{q:β->Bool}(hp:∀x y,R x y->p x=q y):a.all p=b.all q:=by
 have c:=h.list;rw[<-Array.all_toList, <-Array.all_toList];generalize a.toList=l at c⊢;generalize b.toList=m at c⊢;clear h
 induction c with
 |nil=>rfl
 |cons e _ d=>simp only[Zbs,hp _ _ e,d]
inductive OpR {α β:Type}(R:α->β->Prop):Option α->Option β->Prop
 |none:OpR R none none
 |some {a:α} {b:β} (h:R a b):OpR R (some a) (some b)
def yK (V:VR ρ x x')(f:Bool)(t:Zs):Am P' P fz VR ρ (Zea x f t) (Zea x' f t):=by
 unfold Zea;have g:∀τ:Ren,Am P' P fz VR τ (pure (YK #[.bool false])) (pure (YK #[.bool false])):=λτ=>Ad (.tuple' (Bz.single (.bool false)));cases V with
 | @pointer a a' H=>
  cases a<;>cases a'<;>first|exact H.elim|skip
  .exact Ae
  .rename_i a a'
   obtain⟨r,S,Z⟩:=a;obtain⟨r',E,R⟩:=a';obtain⟨B,J,I⟩:=H;dsimp only at B J I;subst J;subst I;cases E with
   |succ n=>exact Ae
   |zero=>
    dsimp only;refine Ac _ (C6 B) λτ o o' Y v=>?_;have G:=Y.1 _ _ B;cases v with
    |stringIter s p=>
     cases f with
     |false=>exact Ae
     |true=>
      dsimp only;split
      .refine Ac _ (D6 G (.stringIter _ _)) λM _ _ O _=>?_
       exact Ad (.tuple' (((Bz.single (.bool true)).push (.int _ _)).push (.int _ _)))
      .exact g _
    | @mapIter m T d seen last w=>
     cases f with
     |true=>cases m<;>exact Ae
     |false=>
      cases m<;>cases T<;>first|exact w.elim|skip
      .exact g _
      .dsimp only
       refine Ac _ (C6 w) λM o o' O v=>?_;cases v with
       | @map es BA c F=>
        dsimp only;have z:es.isEmpty=BA.isEmpty:=by simp[Zdc,F.1]
        rw[z,sE F (p:=λx=>decide (x.born>=last)) (q:=λx=>decide (x.born>=last)) λa b h=>by rw[h.born]];split
        .exact .bad trivial
        .have K:=F.filter (p:=λe=> !seen.contains e.born) (q:=λe=> !seen.contains e.born) λa b h=>by rw[h.born]
         have i:=K.filter (p:=λe=>decide (e.born<d)) (q:=λe=>decide (e.born<d)) λa b h=>by rw[h.born]
         have Bp:=K.filter (p:=λe=>decide (e.born>=d)) (q:=λe=>decide (e.born>=d)) λa b h=>by rw[h.born]
         have u:(Z1 (λe=>decide (e.born<d)) (Z1 (λe=> !seen.contains e.born) es)).isEmpty=(Z1 (λe=>decide (e.born<d)) (Z1 (λe=> !seen.contains e.born) BA)).isEmpty:=by
          unfold Zdc;rw[i.1]
         have l:Bz (OpR (Ow M)) ((if(Z1 (λe=>decide (e.born<d)) (Z1 (λe=> !seen.contains e.born) es)).isEmpty=true then #[none] else #[])++(Z1 (λe=>decide (e.born<d)) (Z1 (λe=> !seen.contains e.born) es)++Z1 (λe=>decide (e.born>=d)) (Z1 (λe=> !seen.contains e.born) es)).map some)
           ((if(Z1 (λe=>decide (e.born<d)) (Z1 (λe=> !seen.contains e.born) BA)).isEmpty=true then #[none] else #[])++(Z1 (λe=>decide (e.born<d)) (Z1 (λe=> !seen.contains e.born) BA)++Z1 (λe=>decide (e.born>=d)) (Z1 (λe=> !seen.contains e.born) BA)).map some):=by
          refine Bz.append ?_ ((i.append Bp).map λx y h=>.some h);rw[u];split
          .exact Bz.single .none
          exact Bz.nil
         revert l
         generalize ((if(Z1 (λe=>decide (e.born<d)) (Z1 (λe=> !seen.contains e.born) es)).isEmpty=true then #[none] else #[])++(Z1 (λe=>decide (e.born<d)) (Z1 (λe=> !seen.contains e.born) es)++Z1 (λe=>decide (e.born>=d)) (Z1 (λe=> !seen.contains e.born) es)).map some)=C;generalize ((if(Z1 (λe=>decide (e.born<d)) (Z1 (λe=> !seen.contains e.born) BA)).isEmpty=true then #[none] else #[])++(Z1 (λe=>decide (e.born<d)) (Z1 (λe=> !seen.contains e.born) BA)++Z1 (λe=>decide (e.born>=d)) (Z1 (λe=> !seen.contains e.born) BA)).map some)=C';intro l;rw[l.1];refine Ac _ (Hh _) λJ6 k k' N W=>?_;cases W;rcases l.opt k with⟨D,L⟩|⟨y,y',D,L,U⟩
         .rw[D];exact Ae
         .rw[D,L]
          cases U with
          |none=>exact g _
          |some A=>
           dsimp only;have j:=Ren.le_trans O N;rw[A.born];refine Ac _ (D6 (j.1 _ _ G) (.mapIter _ _ _ (j.1 _ _ w))) λHm _ _ X _=>?_;have Q:=Ren.le_trans N X;exact Ad (.tuple' (((Bz.single (.bool true)).push (A.key.mono Q)).push (A.val.mono Q)))
       |_=>exact Ae
    |_=>exact Ae
 |_=>exact Ae
end
section
variable {P' P:Zo}{fz:Prop}{ρ:Ren}
def VB (T:Twins P' P)(y:Base P ρ)(u:VR ρ x x')(f at_:Zs)(ok:Bool):Am P' P fz VR ρ (Zbt x f at_ ok) (Zbt x' f at_ ok):=by
 unfold Zbt;dsimp only;refine Ac _ (Aq T at_) λσ d d' c o=>?_;obtain⟨rfl,o⟩:=o;have b:∀τ {v v':Zf},VR τ v v'->Am P' P fz VR τ (pure (if ok=true then YK #[v,.bool true] else v)) (pure (if ok=true then YK #[v',.bool true] else v')):=by
  intro τ v v' n;refine Ad ?_;split
  .exact .tuple' ((Bz.single n).push (.bool true))
  exact n
 have a:∀τ,ρ.le τ->∀(s d:Option Zs) (m:String),Am P' P fz VR τ (if ok=true then zeroValue at_>>=λz=>pure (YK #[z,.bool false]) else zw (.typeAssertion s d at_ m))
   (if ok=true then zeroValue at_>>=λz=>pure (YK #[z,.bool false]) else zw (.typeAssertion s d at_ m)):=by
  intro τ A s d m;split
  .exact Ac _ (C8 T at_) λ_ _ _ _ r=>Ad (.tuple' ((Bz.single r).push (.bool false)))
  exact AJ T (y.mono A) _
 have j:=u.mono c;have g:(∀l,d≠ .interface l)->Am P' P fz VR σ
   (match x with
    | .nilIface=>(if ok=true then zeroValue at_>>=λz=>pure (YK #[z,.bool false]) else zw (.typeAssertion (some f) none at_ ""))
    | .iface t v=>if t=at_ then pure (if ok=true then YK #[v,.bool true] else v) else(if ok=true then zeroValue at_>>=λz=>pure (YK #[z,.bool false]) else zw (.typeAssertion (some f) (some t) at_ ""))
    |_=>stuck "TypeAssert: interface value expected")
   (match x' with
    | .nilIface=>(if ok=true then zeroValue at_>>=λz=>pure (YK #[z,.bool false]) else zw (.typeAssertion (some f) none at_ ""))
    | .iface t v=>if t=at_ then pure (if ok=true then YK #[v,.bool true] else v) else(if ok=true then zeroValue at_>>=λz=>pure (YK #[z,.bool false]) else zw (.typeAssertion (some f) (some t) at_ ""))
    |_=>stuck "TypeAssert: interface value expected"):=by
  intro _;cases j with
  |nilIface=>exact a σ c _ _ _
  |iface t h=>
   dsimp only;by_cases e:t=at_
   .rw[if_pos e,if_pos e];exact b σ h
   .rw[if_neg e,if_neg e];exact a σ c _ _ _
  |_=>exact Ae
 cases d with
 |interface k=>
  cases j with
  |nilIface=>exact a σ c _ _ _
  |iface t h=>
   dsimp only;refine Ac _ (Cu T t) λp i i' q w=>?_;obtain⟨rfl,_⟩:=w;split
   .exact b p ((VR.iface t h).mono q)
   .exact a p (Ren.le_trans c q) _ _ _
  |_=>exact Ae
 |_=>
  have:=g (λl h=>h!);cases j<;>first|exact this|exact Ae
def ae8 (T:Twins P' P)(at_:Array Zs)(t:Zs){a':Array Zf}(h:BS ρ a a'):Am P' P fz VR ρ (Zc9 at_ t a) (Zc9 at_ t a'):=by
 unfold Zc9;cases at_[0]? with
 |none=>exact Ae
 |some y=>
  rcases h.opt 0 with⟨p,m⟩|⟨x,x',p,m,q⟩
  .rw[p,m];exact Ae
  rw[p,m];dsimp only;refine Ac _ (Aq T y) λσ d d' j l=>?_;obtain⟨rfl,_⟩:=l;have f:=q.mono j;cases d with
  |string=>cases f<;>first|exact Ae|exact Ad (.int _ _)
  |array n e=>exact Ad (.int _ _)
  |pointer e=>
   refine Ac _ (Aq T e) λC d d' D l=>?_;obtain⟨rfl,_⟩:=l;cases d<;>first|exact Ae|exact Ad (.int _ _)
  |slice e=>cases f<;>first|exact Ae|exact Ad (.int _ _)
  |map k e=>
   cases f with
   | @map r g b=>
    cases r<;>cases g<;>first|exact b.elim|skip
    .exact Ad (.int _ _)
    .refine Ac _ (C6 b) λτ o o' z i=>?_
     cases i with
     |map c w=>dsimp only;rw[w.1];exact Ad (.int _ _)
     |_=>exact Ae
   |_=>exact Ae
  |chan _ e=>
   cases f with
   | @chan r g b=>
    cases r<;>cases g<;>first|exact b.elim|skip
    .exact Ad (.int _ _)
    .refine Ac _ (C6 b) λτ o o' z i=>?_
     cases i with
     |chan v B s r A u=>dsimp only;rw[u.1];exact Ad (.int _ _)
     |_=>exact Ae
   |_=>exact Ae
  |_=>exact Ae
def ae9 (T:Twins P' P)(at_:Array Zs)(t:Zs){a':Array Zf}(h:BS ρ a a'):Am P' P fz VR ρ (Zda at_ t a) (Zda at_ t a'):=by
 unfold Zda;cases at_[0]? with
 |none=>exact Ae
 |some q=>
  rcases h.opt 0 with⟨g,f⟩|⟨x,x',g,f,l⟩
  .rw[g,f];exact Ae
  rw[g,f];dsimp only;refine Ac _ (Aq T q) λσ d d' b c=>?_;obtain⟨rfl,_⟩:=c;have j:=l.mono b;cases d with
  |array n e=>exact Ad (.int _ _)
  |pointer e=>
   refine Ac _ (Aq T e) λz d d' A c=>?_;obtain⟨rfl,_⟩:=c;cases d<;>first|exact Ae|exact Ad (.int _ _)
  |slice e=>cases j<;>first|exact Ae|exact Ad (.int _ _)
  |chan _ e=>
   cases j with
   | @chan r k i=>
    cases r<;>cases k<;>first|exact i.elim|skip
    .exact Ad (.int _ _)
    .refine Ac _ (C6 i) λτ o o' y m=>?_
     cases m with
     |chan p w s r u v=>exact Ad (.int _ _)
     |_=>exact Ae
   |_=>exact Ae
  |_=>exact Ae
def SAR (ρ:Ren)(n c:Nat)(a a':Option Addr):Prop:=Om ρ a a'\/n=0/\c=0/\a.isSome=true/\a'.isSome=true
variable {l l' i n r r' N:Nat}
def SAR.mono {ρ:Ren}(h:ρ.le σ){c:Nat}{a a':Option Addr}(x:SAR ρ n c a a'):SAR σ n c a a':=x.imp (Om.mono h) λx=>x
def SAR.aa0 {ρ:Ren}{c:Nat}{a a':Option Addr}(x:SAR ρ n c a a'):VR ρ (.slice a n c) (.slice a' n c):=by
 rcases x with x|⟨rfl,rfl,d,b⟩
 .exact .slice _ _ x
 cases a with
 |none=>cases d
 |some a=>
  cases a' with
  |none=>cases b
  |some a'=>exact .void _ _
def VR.slice? {ρ:Ren}(h:VR ρ x x'):(∃b b' n c,x=.slice b n c/\x'=.slice b' n c/\SAR ρ n c b b')\/∀b n c,x≠ .slice b n c:=by
 cases h with
 |slice n c h=>exact .inl ⟨_,_,_,_,rfl,rfl,.inl h⟩
 |void a a'=>exact .inl ⟨_,_,_,_,rfl,rfl,.inr ⟨rfl,rfl,rfl,rfl⟩⟩
 |_=>exact .inr λ_ _ _ h=>h!
def age (x:Zf)(_:Ren)(k k':Nat):Prop:=k=k'/\∀a m c,x=.slice a m c->k<=m
def VC (a:VR ρ x x'):Am P' P fz (age x) ρ (ZcX x) (ZcX x'):=by
 cases a<;>first|exact Ae|exact Ad ⟨rfl,λ_ _ _ h=>by cases h<;>exact Zj _⟩
def NR (_:Ren)(a b:Array Zf):Prop:=a= #[]/\b= #[]
def abd (a:Addr)(size:Nat):loadCells a (0*size)=pure #[]:=by rw[Nat.zero_mul];rfl
def abr (size:Nat)(d:VR ρ x x'):Am P' P fz NR ρ (Zu size 0 x) (Zu size 0 x'):=by
 cases d with
 | @slice a a' n c e=>
  cases a<;>cases a'<;>first|exact e.elim|skip
  .exact Ad ⟨rfl,rfl⟩
  .unfold Zu
   dsimp only;rw[abd,abd];exact Ad ⟨rfl,rfl⟩
 |void a a'=>
  unfold Zu;dsimp only;rw[abd,abd];exact Ad ⟨rfl,rfl⟩
 |string s=>
  have:((s.extract 0 0).data.map λb:UInt8=>ZL .u8 b.toNat)= #[]:=i!
  unfold Zu;dsimp only;rw[this];exact Ad ⟨rfl,rfl⟩
 |_=>exact Ae
def JG (size n:Nat)(g:VR ρ x x')(h:∀a m c,x=.slice a m c->n<=m):Am P' P fz BS ρ (Zu size n x) (Zu size n x'):=by
 cases g with
 |void a a'=>
  obtain rfl:n=0:=Nat.le_zero.1 (h _ _ _ rfl);unfold Zu;dsimp only;rw[abd,abd];exact Ad Bz.nil
 | @slice a a' n c f=>
  cases a<;>cases a'<;>first|exact f.elim|skip
  .exact Ad Bz.nil
  .exact Kv f _
 |string s=>
  refine Ad ?_;refine⟨rfl,λi u v d e=>?_⟩;rw[d]at e;cases e;rw[zF,zc]at d;obtain⟨b,_,rfl⟩:=d;exact .int _ _
 |_=>exact Ae
def yL (T:Twins P' P)(at_:Array Zs)(t:Zs){a':Array Zf}(h:BS ρ a a'):Am P' P fz VR ρ (ZcL at_ t a) (ZcL at_ t a'):=by
 unfold ZcL;cases at_[0]? with
 |none=>exact Ae
 |some L=>
  rcases h.opt 0 with⟨u,r⟩|⟨x,x',u,r,G⟩
  .rw[u,r];exact Ae
  rw[u,r];rcases h.opt 1 with⟨q,p⟩|⟨y,y',q,p,j⟩
  .rw[q,p];exact Ae
  rw[q,p];dsimp only;refine Ac _ (Aq T L) λσ d d' f J=>?_;obtain⟨rfl,_⟩:=J;have w:=G.mono f;cases d with
  |slice e=>
   rcases w.slice? with⟨b,b',n,c,rfl,rfl,g⟩|N
   rotate_left
   .cases w<;>first|exact Ae|exact absurd rfl (N _ _ _)
   .dsimp only
    refine Ac _ (VC (j.mono f)) λR l l' B I=>?_;obtain⟨rfl,o⟩:=I;refine Ac _ (Ck T e) λQ s O C H=>?_;obtain⟨rfl,_⟩:=H;have v:=Ren.le_trans f (Ren.le_trans B C);rcases g with g|⟨rfl,rfl,F,E⟩
    .refine Ac _ (JG _ _ (j.mono v) λa m c h=>Zr (Nat.min_le_left _ _) (o a m c h)) λM z D A i=>?_
     cases b<;>cases b'<;>first|exact g.elim|skip
     .exact Ad (.int _ _)
     refine Ac _ (JD 0 (AR.mono (Ren.le_trans B (Ren.le_trans C A)) g) i.list) λK _ _ _ _=>?_;exact Ad (.int _ _)
    .have k:Nat.min l 0=0:=Nat.min_zero l
     rw[k];refine Ac _ (abr _ (j.mono v)) λM z D A i=>?_;obtain⟨rfl,rfl⟩:=i;cases b with
     |none=>cases F
     |some b=>
      cases b' with
      |none=>cases E
      |some b'=>exact Ac Gf (Ad rfl) λK _ _ _ _=>Ad (.int _ _)
  |_=>exact Ae
def Gg {Q:Ren->α->β->Prop}{c:Prop}[Decidable c]{a b:Sem α}{a' d:Sem β}(f:c->Am P' P fz Q ρ a a')(e:¬c->Am P' P fz Q ρ b d):Am P' P fz Q ρ (if c then a else b) (if c then a' else d):=by
 by_cases h:c
 .rw[if_pos h,if_pos h];exact f h
 rw[if_neg h,if_neg h];exact e h
def Idle (P':Zo){b:Type}(s:Sem b):Prop:=∀w es,∃a,s.runT P' w es=(.ok a w,es)
def Ek (a:α):Idle P' (pure a):=λ_ _=>⟨a,rfl⟩
def FK {s:Sem α}{f:α->Sem β}(h:Idle P' s)(c:∀a,Idle P' (f a)):Idle P' (s>>=f):=λw es=>by
 obtain⟨a,e⟩:=h w es;obtain⟨b,d⟩:=c a w es;refine⟨b,?_⟩;show(s.bind f).runT P' w es=_;rw[ze,e];exact d
def cV (r:Nat):Idle P' (shape r):=λ_ _=>⟨_,rfl⟩
def XE (a:Addr):Idle P' (frozen a):=λ_ _=>⟨_,rfl⟩
def GF (a:Addr)(n:Nat):Idle P' (ZdT a n):=by
 unfold ZdT;refine FK (cV _) λs=>?_;split<;>exact Ek _
def TH (size c n:Nat)(b:Option Addr)(x:Zf):Idle P' (Yt size c n b x):=by
 unfold Yt;dsimp only;cases b with
 |none=>
  refine FK (Ek _) λs=>?_;split
  .exact Ek _
  .split
   .exact FK (GF _ _) λ_=>Ek _
   .exact Ek _
 |some a=>
  refine FK (GF _ _) λs=>?_;refine FK (XE _) λf=>?_;refine FK (Ek _) λs=>?_;split
  .exact Ek _
  split
  .exact FK (GF _ _) λ_=>Ek _
  exact Ek _
def nv (T:Twins P' P)(hB:Base P ρ)(at_:Array Zs)(t:Zs){a':Array Zf}(h:BS ρ a a'):Am P' P fz VR ρ (Zao at_ t a) (Zao at_ t a'):=by
 unfold Zao;cases at_[0]? with
 |none=>exact Ae
 |some Ni=>
  rcases h.opt 0 with⟨e1,e2⟩|⟨x,x',e1,e2,hx⟩
  .rw[e1,e2];exact Ae
  rw[e1,e2];rcases h.opt 1 with⟨e3,e4⟩|⟨y,y',e3,e4,hy⟩
  .rw[e3,e4];exact Ae
  rw[e3,e4];dsimp only;refine Ac _ (Aq T Ni) λσ d d' D hd=>?_;obtain⟨rfl,_⟩:=hd;have Bd:=hx.mono D;cases d with
  |slice e=>
   rcases Bd.slice? with⟨b,b',n,c,rfl,rfl,hb⟩|KJ
   rotate_left
   .cases Bd<;>first|exact Ae|exact absurd rfl (KJ _ _ _)
   .dsimp only
    refine Ac _ (Ck T e) λG g Nf cW hs=>?_;obtain⟨rfl,_⟩:=hs;have M:=hy.mono (Ren.le_trans D cW);have V:=SAR.mono cW hb;have X:Base P G:=hB.mono (Ren.le_trans D cW);have U:∀τ (z:Bool) (k:Nat),(z=false->∀a m c,y=.slice a m c->k<=m)->G.le τ->Am P' P fz BS τ
      (if(!z)=true then Zu g k y else if k*g=0 then pure #[] else zeroValue e>>=λv=>pure (Zt v.cells k))
      (if(!z)=true then Zu g k y' else if k*g=0 then pure #[] else zeroValue e>>=λv=>pure (Zt v.cells k)):=by
     intro τ z k p q;split
     .next I=>exact JG _ _ (M.mono q) (p (by simpa using I))
     split
     .exact Ad Bz.nil
     refine Ac _ (C8 T e) λ_ v v' _ J=>Ad ?_;have:=Hn J.cells (k*v.cells.size);unfold Zt;rw[J.cells.1]at this⊢;exact this
    have R2:∀τ (z:Bool) (k:Nat),(z=false->∀a m c,y=.slice a m c->k<=m)->G.le τ->Am P' P fz VR τ
      (choose (.appendCap (n+k) c e)>>=λj=>typeInfo e>>=λi=>Zah (j*i.bytes)>>=λ_=>Zu g n (.slice b n c)>>=λo=>
       (if(!z)=true then Zu g k y else if k*g=0 then pure #[] else zeroValue e>>=λv=>pure (Zt v.cells k))>>=λnew=>
       zeroValue e>>=λv=>newRow e (o++new++Zt v.cells (j - (n+k)))>>=λa=>pure (Zy (some a) (n+k) j))
      (choose (.appendCap (n+k) c e)>>=λj=>typeInfo e>>=λi=>Zah (j*i.bytes)>>=λ_=>Zu g n (.slice b' n c)>>=λo=>
       (if(!z)=true then Zu g k y' else if k*g=0 then pure #[] else zeroValue e>>=λv=>pure (Zt v.cells k))>>=λnew=>
       zeroValue e>>=λv=>newRow e (o++new++Zt v.cells (j - (n+k)))>>=λa=>pure (Zy (some a) (n+k) j)):=by
     intro τ z k p q;refine Ac _ (Hh _) λan j Ey BO yM=>?_;cases yM;refine Ac _ (Cu T e) λC i i' r E=>?_;obtain⟨rfl,_⟩:=E;refine Ac _ (Up _) λJ6 _ _ Q _=>?_;have R:=Ren.le_trans q (Ren.le_trans BO (Ren.le_trans r Q));refine Ac _ (JG g n (V.mono R).aa0 λ_ _ _ h=>by cases h;exact Zj _) λHm o ai N K=>?_;refine Ac _ (U Hm z k p (Ren.le_trans R N)) λfT new A ac Bp=>?_;refine Ac _ (C8 T e) λam v v' O J=>?_;have Ci:BS am (o++new++Zt v.cells (j - (n+k))) (ai++A++Zt v'.cells (j - (n+k))):=by
      refine((BS.mono (Ren.le_trans ac O) K).append (BS.mono O Bp)).append ?_;have:=Hn J.cells ((j - (n+k))*v.cells.size);unfold Zt;rw[J.cells.1]at this⊢;exact this
     exact Ac _ (IZ e Ci) λ_ _ _ _ ha=>Ad (.slice _ _ ha)
    have R1:∀τ (z:Bool) (k:Nat) (u:Zdf),(z=false->∀a m c,y=.slice a m c->k<=m)->GY (.unsupported u)->G.le τ->Am P' P fz VR τ
      (typeInfo e>>=λi=>if Yx (n+k) c*i.bytes>2^48 then((if z=true then(zw (.error "growslice: len out of range"):Sem PUnit) else Yt g n k b y>>=λs=>if(!s)=true then(mark .noRoom>>=λ_=>unsupported u) else unsupported u)>>=λ_=>
       choose (.appendCap (n+k) c e)>>=λj=>typeInfo e>>=λi=>Zah (j*i.bytes)>>=λ_=>Zu g n (.slice b n c)>>=λo=>
       (if(!z)=true then Zu g k y else if k*g=0 then pure #[] else zeroValue e>>=λv=>pure (Zt v.cells k))>>=λnew=>
       zeroValue e>>=λv=>newRow e (o++new++Zt v.cells (j - (n+k)))>>=λa=>pure (Zy (some a) (n+k) j))
      else
       choose (.appendCap (n+k) c e)>>=λj=>typeInfo e>>=λi=>Zah (j*i.bytes)>>=λ_=>Zu g n (.slice b n c)>>=λo=>
       (if(!z)=true then Zu g k y else if k*g=0 then pure #[] else zeroValue e>>=λv=>pure (Zt v.cells k))>>=λnew=>
       zeroValue e>>=λv=>newRow e (o++new++Zt v.cells (j - (n+k)))>>=λa=>pure (Zy (some a) (n+k) j))
      (typeInfo e>>=λi=>if Yx (n+k) c*i.bytes>2^48 then((if z=true then(zw (.error "growslice: len out of range"):Sem PUnit) else Yt g n k b' y'>>=λs=>if(!s)=true then(mark .noRoom>>=λ_=>unsupported u) else unsupported u)>>=λ_=>
       choose (.appendCap (n+k) c e)>>=λj=>typeInfo e>>=λi=>Zah (j*i.bytes)>>=λ_=>Zu g n (.slice b' n c)>>=λo=>
       (if(!z)=true then Zu g k y' else if k*g=0 then pure #[] else zeroValue e>>=λv=>pure (Zt v.cells k))>>=λnew=>
       zeroValue e>>=λv=>newRow e (o++new++Zt v.cells (j - (n+k)))>>=λa=>pure (Zy (some a) (n+k) j))
      else
       choose (.appendCap (n+k) c e)>>=λj=>typeInfo e>>=λi=>Zah (j*i.bytes)>>=λ_=>Zu g n (.slice b' n c)>>=λo=>
       (if(!z)=true then Zu g k y' else if k*g=0 then pure #[] else zeroValue e>>=λv=>pure (Zt v.cells k))>>=λnew=>
       zeroValue e>>=λv=>newRow e (o++new++Zt v.cells (j - (n+k)))>>=λa=>pure (Zy (some a) (n+k) j)):=by
     intro τ z k u p W q;refine Ac _ (Cu T e) λC i i' r E=>?_;obtain⟨rfl,_⟩:=E;have S:=Ren.le_trans q r;split
     .refine Ac (λ_ _ _=>False) ?_ λ_ _ _ _ h=>h.elim
      split
      .exact AJ T (X.mono S) _
      refine .He (λw es=>?_);obtain⟨s,hs⟩:=TH (P':=P') g n k b y w es;show∃x v f,((Yt g n k b y).bind _).runT P' w es=_/\_;rw[ze,hs];dsimp only;split
      .exact⟨_,_,_,rfl,W⟩
      exact⟨_,_,_,rfl,W⟩
     exact R2 C z k p S
    have F:∀τ (z:Bool) (k:Nat),(z=false->∀a m c,y=.slice a m c->k<=m)->n+k<=c->G.le τ->Am P' P fz VR τ
      ((if(!z)=true then Zu g k y else if k*g=0 then pure #[] else zeroValue e>>=λv=>pure (Zt v.cells k))>>=λnew=>
       match(generalizing:=false) b with
       |some a=>ZbX (a.add (n*g)) new.toList>>=λ_=>pure (Zy b (n+k) c)
       |_=>pure (Zy b (n+k) c))
      ((if(!z)=true then Zu g k y' else if k*g=0 then pure #[] else zeroValue e>>=λv=>pure (Zt v.cells k))>>=λnew=>
       match(generalizing:=false) b' with
       |some a=>ZbX (a.add (n*g)) new.toList>>=λ_=>pure (Zy b' (n+k) c)
       |_=>pure (Zy b' (n+k) c)):=by
     intro τ z k p L q;rcases V with V|⟨rfl,rfl,s1,s2⟩
     rotate_left
     .obtain rfl:k=0:=by omega
      refine Ac NR ?_ λC new A r Bp=>?_
      .split
       .exact abr _ (M.mono q)
       rw[if_pos (Nat.zero_mul _)];exact Ad ⟨rfl,rfl⟩
      obtain⟨rfl,rfl⟩:=Bp;cases b with
      |none=>cases s1
      |some b=>
       cases b' with
       |none=>cases s2
       |some b'=>exact Ac Gf (Ad rfl) λNj _ _ _ _=>Ad (.void _ _)
     refine Ac _ (U τ z k p q) λC new A r Bp=>?_;have Z:=Om.mono (Ren.le_trans q r) V;cases b<;>cases b'<;>first|exact Z.elim|skip
     .exact Ad (.slice _ _ Z)
     exact Ac _ (JD 0 (AR.add Z _) Bp.list) λJ6 _ _ Q _=>Ad (.slice _ _ (Om.mono Q Z))
    have B:∀τ (z:Bool) (k:Nat) (u:Zdf),(z=false->∀a m c,y=.slice a m c->k<=m)->GY (.unsupported u)->G.le τ->Am P' P fz VR τ
      (if n+k<=c then((if(!z)=true then Zu g k y else if k*g=0 then pure #[] else zeroValue e>>=λv=>pure (Zt v.cells k))>>=λnew=>
       match(generalizing:=false) b with
       |some a=>ZbX (a.add (n*g)) new.toList>>=λ_=>pure (Zy b (n+k) c)
       |_=>pure (Zy b (n+k) c))
      else typeInfo e>>=λi=>if((n+k:Nat):Int)>IntKind.i64.max/\(z=true\/i.bytes=0) then((zw (.error "growslice: len out of range"):Sem PUnit)>>=λ_=>
       (typeInfo e>>=λi=>if Yx (n+k) c*i.bytes>2^48 then((if z=true then(zw (.error "growslice: len out of range"):Sem PUnit) else Yt g n k b y>>=λs=>if(!s)=true then(mark .noRoom>>=λ_=>unsupported u) else unsupported u)>>=λ_=>
       choose (.appendCap (n+k) c e)>>=λj=>typeInfo e>>=λi=>Zah (j*i.bytes)>>=λ_=>Zu g n (.slice b n c)>>=λo=>
       (if(!z)=true then Zu g k y else if k*g=0 then pure #[] else zeroValue e>>=λv=>pure (Zt v.cells k))>>=λnew=>
       zeroValue e>>=λv=>newRow e (o++new++Zt v.cells (j - (n+k)))>>=λa=>pure (Zy (some a) (n+k) j))
      else
       choose (.appendCap (n+k) c e)>>=λj=>typeInfo e>>=λi=>Zah (j*i.bytes)>>=λ_=>Zu g n (.slice b n c)>>=λo=>
       (if(!z)=true then Zu g k y else if k*g=0 then pure #[] else zeroValue e>>=λv=>pure (Zt v.cells k))>>=λnew=>
       zeroValue e>>=λv=>newRow e (o++new++Zt v.cells (j - (n+k)))>>=λa=>pure (Zy (some a) (n+k) j)))
       else(typeInfo e>>=λi=>if Yx (n+k) c*i.bytes>2^48 then((if z=true then(zw (.error "growslice: len out of range"):Sem PUnit) else Yt g n k b y>>=λs=>if(!s)=true then(mark .noRoom>>=λ_=>unsupported u) else unsupported u)>>=λ_=>
       choose (.appendCap (n+k) c e)>>=λj=>typeInfo e>>=λi=>Zah (j*i.bytes)>>=λ_=>Zu g n (.slice b n c)>>=λo=>
       (if(!z)=true then Zu g k y else if k*g=0 then pure #[] else zeroValue e>>=λv=>pure (Zt v.cells k))>>=λnew=>
       zeroValue e>>=λv=>newRow e (o++new++Zt v.cells (j - (n+k)))>>=λa=>pure (Zy (some a) (n+k) j))
      else
       choose (.appendCap (n+k) c e)>>=λj=>typeInfo e>>=λi=>Zah (j*i.bytes)>>=λ_=>Zu g n (.slice b n c)>>=λo=>
       (if(!z)=true then Zu g k y else if k*g=0 then pure #[] else zeroValue e>>=λv=>pure (Zt v.cells k))>>=λnew=>
       zeroValue e>>=λv=>newRow e (o++new++Zt v.cells (j - (n+k)))>>=λa=>pure (Zy (some a) (n+k) j)))
      (if n+k<=c then((if(!z)=true then Zu g k y' else if k*g=0 then pure #[] else zeroValue e>>=λv=>pure (Zt v.cells k))>>=λnew=>
       match(generalizing:=false) b' with
       |some a=>ZbX (a.add (n*g)) new.toList>>=λ_=>pure (Zy b' (n+k) c)
       |_=>pure (Zy b' (n+k) c))
      else typeInfo e>>=λi=>if((n+k:Nat):Int)>IntKind.i64.max/\(z=true\/i.bytes=0) then((zw (.error "growslice: len out of range"):Sem PUnit)>>=λ_=>
       (typeInfo e>>=λi=>if Yx (n+k) c*i.bytes>2^48 then((if z=true then(zw (.error "growslice: len out of range"):Sem PUnit) else Yt g n k b' y'>>=λs=>if(!s)=true then(mark .noRoom>>=λ_=>unsupported u) else unsupported u)>>=λ_=>
       choose (.appendCap (n+k) c e)>>=λj=>typeInfo e>>=λi=>Zah (j*i.bytes)>>=λ_=>Zu g n (.slice b' n c)>>=λo=>
       (if(!z)=true then Zu g k y' else if k*g=0 then pure #[] else zeroValue e>>=λv=>pure (Zt v.cells k))>>=λnew=>
       zeroValue e>>=λv=>newRow e (o++new++Zt v.cells (j - (n+k)))>>=λa=>pure (Zy (some a) (n+k) j))
      else
       choose (.appendCap (n+k) c e)>>=λj=>typeInfo e>>=λi=>Zah (j*i.bytes)>>=λ_=>Zu g n (.slice b' n c)>>=λo=>
       (if(!z)=true then Zu g k y' else if k*g=0 then pure #[] else zeroValue e>>=λv=>pure (Zt v.cells k))>>=λnew=>
       zeroValue e>>=λv=>newRow e (o++new++Zt v.cells (j - (n+k)))>>=λa=>pure (Zy (some a) (n+k) j)))
       else(typeInfo e>>=λi=>if Yx (n+k) c*i.bytes>2^48 then((if z=true then(zw (.error "growslice: len out of range"):Sem PUnit) else Yt g n k b' y'>>=λs=>if(!s)=true then(mark .noRoom>>=λ_=>unsupported u) else unsupported u)>>=λ_=>
       choose (.appendCap (n+k) c e)>>=λj=>typeInfo e>>=λi=>Zah (j*i.bytes)>>=λ_=>Zu g n (.slice b' n c)>>=λo=>
       (if(!z)=true then Zu g k y' else if k*g=0 then pure #[] else zeroValue e>>=λv=>pure (Zt v.cells k))>>=λnew=>
       zeroValue e>>=λv=>newRow e (o++new++Zt v.cells (j - (n+k)))>>=λa=>pure (Zy (some a) (n+k) j))
      else
       choose (.appendCap (n+k) c e)>>=λj=>typeInfo e>>=λi=>Zah (j*i.bytes)>>=λ_=>Zu g n (.slice b' n c)>>=λo=>
       (if(!z)=true then Zu g k y' else if k*g=0 then pure #[] else zeroValue e>>=λv=>pure (Zt v.cells k))>>=λnew=>
       zeroValue e>>=λv=>newRow e (o++new++Zt v.cells (j - (n+k)))>>=λa=>pure (Zy (some a) (n+k) j))):=by
     intro τ z k u p W q;split
     .next L=>exact F τ z k p L q
     refine Ac _ (Cu T e) λC i i' r E=>?_;obtain⟨rfl,_⟩:=E;split
     .exact DG T (X.mono (Ren.le_trans q r)) _
     exact R1 C z k u p W (Ren.le_trans q r)
    cases at_[1]? with
    |none=>
     refine Ac (λ_ z H=>z=false/\H=false) (Ad ⟨rfl,rfl⟩) λτ z H q I=>?_;obtain⟨rfl,rfl⟩:=I;refine Ac _ (VC (M.mono q)) λC k k' r p=>?_;obtain⟨rfl,p⟩:=p;exact B C false k _ (λ_=>p) trivial (Ren.le_trans q r)
    |some xt=>
     dsimp only;refine Ac _ (Aq T xt) λτ d d' q hd=>?_;obtain⟨rfl,_⟩:=hd;refine Ac (λ_ z H=>z=H) (Ad rfl) λan z H BO I=>?_;cases I;have Y:=Ren.le_trans q BO;cases z with
     |false=>
      refine Ac _ (VC (M.mono Y)) λC k k' r p=>?_;obtain⟨rfl,p⟩:=p;exact B C false k _ (λ_=>p) trivial (Ren.le_trans Y r)
     |true=>
      refine Ac _ (Lm (M.mono Y)) λC l l' r hl=>?_;cases hl;have S:=Ren.le_trans Y r;refine Gg (λ_=>DG T (X.mono S) _) λ_=>?_;refine Ac _ (Cu T e) λJ6 i i' Q E=>?_;obtain⟨rfl,_⟩:=E;have R:=Ren.le_trans S Q;refine Gg (λ_=>?_) λ_=>?_
      .refine Ac _ (Hh _) λHm m m' N hm=>?_
       cases hm;exact DG T (X.mono (Ren.le_trans R N)) _
      .refine Ac (λ_ k k'=>k=k') (Ad rfl) λHm k k' N p=>?_
       cases p;exact B Hm true k _ (λh=>h!) trivial (Ren.le_trans R N)
  |_=>exact Ae
end
section
variable {P' P:Zo}{fz:Prop}{ρ:Ren}
def RE (op:BinOp)(k:IntKind)(x y:Int):Am P' P fz VR ρ (Op.intArith op k x y) (Op.intArith op k x y):=by
 unfold Op.intArith;split<;>first|exact Ad (.int _ _)|exact Ae
def Uu (op:BinOp)(k:IntKind)(x y:Int):Am P' P fz VR ρ (Op.intBits op k x y) (Op.intBits op k x y):=by
 unfold Op.intBits;dsimp only;split<;>first|exact Ad (.int _ _)|exact Ae
def RF (op:BinOp)(x y:Int):Am P' P fz VR ρ (Op.intCmp op x y) (Op.intCmp op x y):=by
 unfold Op.intCmp;split<;>first|exact Ad (.bool _)|exact Ae
def Ho (op:BinOp)(x y:ByteArray):Am P' P fz VR ρ (ZcJ op x y) (ZcJ op x y):=by
 unfold ZcJ;dsimp only;split<;>first|exact Ad (.bool _)|exact Ae|skip
 split<;>first|exact Ai|exact Ad (.string _)
def nw (T:Twins P' P)(a:Base P ρ)(op:BinOp)(k:IntKind)(x y:Int):Am P' P fz VR ρ (Op.intDiv op k x y) (Op.intDiv op k x y):=by
 unfold Op.intDiv;split
 .exact AJ T a _
 split<;>first|exact Ad (.int _ _)|exact Ae
def sG (T:Twins P' P)(b:Base P ρ)(op:BinOp)(k:IntKind)(x:Int)(a:IntKind)(y:Int):Am P' P fz VR ρ (Op.shift op k x a y) (Op.shift op k x a y):=by
 unfold Op.shift;split
 .exact AJ T b _
 dsimp only;split<;>first|exact Ad (.int _ _)|exact Ae
def sH (op:UnOp)(b:VR ρ x x'):Am P' P fz VR ρ (Op.unary op x) (Op.unary op x'):=by
 unfold Op.unary;cases op<;>cases b<;>first
  |exact RE _ _ _ _
  |exact Uu _ _ _ _
  |exact Ad (.bool _)
  |exact Ae
  |skip
 all_goals
  rename_i a a' c;cases a<;>cases a'<;>first|exact c.elim|exact Ae|exact Ai
def cZ (T:Twins P' P)(t:Zs)(d:VR ρ x x')(c:VR ρ y y')(h:x=.nilIface\/y=.nilIface)(hi:∃b,P.underlying t=some (.interface b)):Am P' P fz Gf ρ (Zaa t x y) (Zaa t x' y'):=by
 obtain⟨b,hi⟩:=hi;unfold Zaa Op.maxDepth ZaZ;refine Ac _ (Aq T t) λσ u f e a=>?_;obtain⟨rfl,a⟩:=a;rw[hi]at a;cases a;rcases h with rfl|rfl
 .cases d
  cases c<;>first|exact Ad rfl|exact Ae
 cases c;cases d<;>first|exact Ad rfl|exact Ae
def LX (a:P'.toTables=P.toTables):∀(d:Nat) (t:Zs) (b:Nat),cellOfByte P' d t b=cellOfByte P d t b
 |0,_,_=>rfl
 |d+1,t,b=>by
  have c:P'.underlying t=P.underlying t:=by unfold ZbU;simp only[a]
  have f:∀t,P'.bytesOf t=P.bytesOf t:=λt=>by unfold Program.bytesOf;rw[a]
  have e:∀t,P'.cellsOf t=P.cellsOf t:=λt=>by unfold Zco;rw[a]
  unfold cellOfByte;rw[c];cases P.underlying t with
  |none=>rfl
  |some x=>cases x<;>simp only[f,e,LX a d]
def RG (T:Twins P' P)(d:Nat)(e:Zs)(a off:Nat)(b:Int):cellAtBytes P' d e a off b=cellAtBytes P d e a off b:=by
 unfold cellAtBytes;simp only[T.cells,T.bytes,F7 T,LX T.tables]
def Nl (T:Twins P' P)(at_:Array Zs)(t:Zs)(h:VR ρ x x')(g:VR ρ y y'):Am P' P fz (λσ v v'=>∃a a',v=.pointer a/\v'=.pointer a'/\Om σ a a') ρ (YP at_ t #[x,y]) (YP at_ t #[x',y']):=by
 unfold YP;cases h with
 | @pointer a a' c=>
  dsimp only;refine Ac _ (Lm g) λσ n w b m=>?_;cases m;refine Gg (λ_=>?_) λ_=>?_
  .cases a<;>cases a'<;>first|exact c.elim|skip
   .exact Ai
   dsimp only;refine Ac _ (Xv (b.1 _ _ c.1)) λo v v' f i=>?_;obtain⟨rfl,rfl⟩:=i;exact Ad ⟨_,_,rfl,rfl,AR.mono (Ren.le_trans b f) c⟩
  .refine Gg (λ_=>?_) λ_=>?_
   .exact .bad trivial
   .cases a<;>cases a'<;>first|exact c.elim|skip
    .exact Ai
    .dsimp only
     refine Ac _ (Ng (b.1 _ _ c.1)) λo s r f j=>?_;cases j;cases s with
     |none=>exact Ai
     |some s=>
      obtain⟨e,k⟩:=s;dsimp only;refine Ac _ C2 λz p u q l=>?_;obtain⟨rfl,rfl⟩:=l;have d:=AR.mono (Ren.le_trans b (Ren.le_trans f q)) c;rw[T.depth,T.cells,RG T,d.2.1];split
      .exact Ad ⟨_,_,rfl,rfl,d.1,rfl,d.2.2⟩
      .exact Ai
 |_=>exact Ae
def Pr (T:Twins P' P)(at_:Array Zs)(t:Zs)(b:VR ρ x x')(a:VR ρ y y'):Am P' P fz VR ρ (YP at_ t #[x,y]) (YP at_ t #[x',y']):=
 (Nl T at_ t b a).imp λ_ _ _ _ ⟨_,_,d,c,h⟩=>by rw[d,c];exact .pointer h
def IA (T:Twins P' P)(t:Zs)(r:VR ρ x x')(q:VR ρ y y'):Am P' P fz VR ρ (movedNumber t x y) (movedNumber t x' y'):=by
 unfold movedNumber;refine Ac _ (Aq T t) λσ d d' f z=>?_;obtain⟨rfl,_⟩:=z;dsimp only;refine Gg (λ_=>.bad trivial) λ_=>?_;have n:=r.mono f;have m:=q.mono f;have e:=Pr (fz:=fz) T #[] t n m;cases n with
 | @pointer a a' k=>
  cases a<;>cases a'<;>first|exact k.elim|exact e|skip
  dsimp only;refine Ac _ (Ff k) λC p o A w=>?_;obtain⟨b,l⟩:=p;obtain⟨b',l'⟩:=o;obtain⟨j,i⟩:=w;dsimp only at j i;subst i;dsimp only;refine Ac _ (Nl T #[] t (.pointer j) (m.mono A)) λB v v' D s=>?_;obtain⟨c,c',rfl,rfl,g⟩:=s;cases c<;>cases c'<;>first|exact g.elim|skip
  .exact Ad (.pointer g)
  .unfold asNumber
   exact Ac _ (Hg (.number _ g)) λ_ _ _ _ u=>Ad (.pointer ⟨u,rfl,rfl⟩)
 |Ew h=>exact Ae
 |_=>exact e
def Ps (g:Twins P' P)(l:Base P ρ){a b:Addr}(f:AR ρ a a')(h:AR ρ b b'):Am P' P fz Gf ρ (Zd0 a b) (Zd0 a' b'):=by
 unfold Zd0;have e:(a.block !=b.block)=(a'.block !=b'.block):=by simp only[bne,AR.Rw f h]
 refine Ac _ C2 λσ p o c k=>?_;obtain⟨rfl,rfl⟩:=k;have d:=AR.base (l.mono c) (f.mono c);have m:decide (a.block>=P'.globals.size)=decide (a'.block>=P.globals.size):=by
  rw[g.tables];simp only[ge_iff_le, <-Nat.not_lt,d]
 dsimp only;rw[e,m];refine Gg (λ_=>.bad trivial) λ_=>?_;refine Ac _ (Hk g (f.mono c)) λs x x' n j=>?_;cases j;refine Ac _ (Hk g (h.mono (Ren.le_trans c n))) λr y y' q i=>?_;cases i;exact Ad rfl
def jg (T:Twins P' P)(f:Base P ρ)(k:IntKind){a b:Addr}(e:AR ρ a a')(d:AR ρ b b'):Am P' P fz VR ρ (Op.addrSub k a b) (Op.addrSub k a' b'):=by
 unfold Op.addrSub;refine Ac _ (Ps T f e d) λσ p g _ c=>?_;cases c;exact Ad (.int _ _)
def jh (T:Twins P' P)(f:Base P ρ)(op:BinOp){a b:Addr}(e:AR ρ a a')(d:AR ρ b b'):Am P' P fz VR ρ (Op.addrCmp op a b) (Op.addrCmp op a' b'):=by
 unfold Op.addrCmp;refine Ac _ (Ps T f e d) λσ p g _ c=>?_;cases c;dsimp only;split<;>first|exact Ad (.bool _)|exact Ai
def Uv (T:Twins P' P)(k:IntKind){a:Addr}(c:AR ρ a a')(n:Int):Am P' P fz VR ρ (Op.addrMod k a n) (Op.addrMod k a' n):=by
 unfold Op.addrMod;refine Ac _ (Ng c.1) λσ s j b f=>?_;cases f;cases s with
 |none=>exact Ai
 |some s=>
  obtain⟨e,m⟩:=s;dsimp only;refine Ac _ (Cu T e) λp i i' h g=>?_;obtain⟨rfl,_⟩:=g;refine Gg (λ_=>.bad trivial) λ_=>?_;refine Ac _ (Hk T (c.mono (Ren.le_trans b h))) λo x x' l d=>?_;cases d;exact Ad (.int _ _)
def RH (T:Twins P' P)(t:Zs)(d:VR ρ x x')(g:VR ρ y y'):Am P' P fz VR ρ (movedPointer t x y) (movedPointer t x' y'):=by
 unfold movedPointer;have e:∀σ,ρ.le σ->Am P' P fz VR σ (YP #[] t #[x,y]) (YP #[] t #[x',y']):=λσ b=>Pr T #[] t (d.mono b) (g.mono b);cases d with
 | @pointer a a' f=>
  cases a<;>cases a'<;>first|exact f.elim|exact e _ (Ren.le_refl _)|skip
  dsimp only;refine Ac _ (Rx f.1) λσ s j c i=>?_;rcases i with⟨rfl,rfl⟩|⟨u,v,l,rfl,rfl,_⟩
  .exact e σ c
  .exact .bad trivial
 |Ew h=>exact Ae
 |_=>exact e _ (Ren.le_refl _)
end
section
variable {P' P:Zo}{fz:Prop}{ρ:Ren}
def Nm {Q:Ren->α->β->Prop}{a:Addr}(k:AR ρ a a'){f:Addr×Bool->Sem α}{g:Addr×Bool->Sem β}(j:∀σ b b' l,ρ.le σ->AR σ b b'->Am P' P fz Q σ (f (b,l)) (g (b',l))):
  Am P' P fz Q ρ (ZbP a>>=f) (ZbP a'>>=g):=
 Ac _ (Ff k) λσ p h c i=>by
  obtain⟨b,l⟩:=p;obtain⟨b',l'⟩:=h;obtain⟨e,d⟩:=i;dsimp only at e d;subst d;exact j σ b b' l c e
def JH (op:BinOp)(t:Zs)(a b:ByteArray):binOp op t (.string a) (.string b)=ZcJ op a b:=by cases op<;>rfl
def c9 (T:Twins P' P)(o:Base P ρ)(op:BinOp)(t:Zs)(e:op≠ .eql/\op≠ .neq)(r:VR ρ x x')(j:VR ρ y y'):Am P' P fz VR ρ (binOp op t x y) (binOp op t x' y'):=by
 cases r with
 |int k a=>
  cases j with
  |int k' b=>
   cases op<;>first|exact absurd rfl e.1|exact absurd rfl e.2|skip
   all_goals unfold binOp
   all_goals first
    |exact sG T o _ _ _ _ _
    |(dsimp only;refine Gg (λ_=>Ae) λ_=>?_)
   all_goals first|exact RE _ _ _ _|exact nw T o _ _ _ _|exact Uu _ _ _ _|exact RF _ _ _
  | @pointer b b' f=>
   cases op<;>first|exact absurd rfl e.1|exact absurd rfl e.2|skip
   all_goals unfold binOp
   all_goals first
    |exact IA T t (.pointer f) (.int k a)
    |exact Ai
    |skip
   all_goals cases b<;>cases b'<;>first|exact f.elim|exact Ai|skip
   all_goals exact Nm f λσ c c' l _ h=>Uv T k h _
  |_=>cases op<;>first|exact absurd rfl e.1|exact absurd rfl e.2|exact Ae
 | @pointer a a' g=>
  cases j with
  |int k b=>
   cases op<;>first|exact absurd rfl e.1|exact absurd rfl e.2|skip
   all_goals unfold binOp
   all_goals first
    |exact Ai
    |exact IA T t (.pointer g) (.int k _)
    |skip
   case add=>
    refine Ac _ (Aq T t) λσ d d' i n=>?_;obtain⟨rfl,_⟩:=n;refine Gg (λ_=>?_) λ_=>?_
    .exact RH T t ((VR.pointer g).mono i) (.int k b)
    exact IA T t ((VR.pointer g).mono i) (.int k b)
   all_goals cases a<;>cases a'<;>first|exact g.elim|exact Ai|skip
   all_goals exact Nm g λσ c c' l _ h=>Uv T k h _
  | @pointer b b' f=>
   cases op<;>first|exact absurd rfl e.1|exact absurd rfl e.2|skip
   all_goals unfold binOp
   all_goals first|exact Ai|skip
   all_goals cases a<;>cases a'<;>first|exact g.elim|exact Ai|skip
   all_goals cases b<;>cases b'<;>first|exact f.elim|exact Ai|skip
   all_goals refine Nm g λσ c c' l q h=>Nm (AR.mono q f) λs d d' m p n=>?_
   all_goals first|exact jg T (o.mono (Ren.le_trans q p)) _ (h.mono p) n|exact jh T (o.mono (Ren.le_trans q p)) _ (h.mono p) n
  |_=>(cases a<;>cases a'<;>first|exact g.elim|skip)<;>(cases op<;>first|exact absurd rfl e.1|exact absurd rfl e.2|exact Ai)
 |string a=>
  cases j with
  |string b=>cases op<;>first|exact absurd rfl e.1|exact absurd rfl e.2|(rw[JH];exact Ho _ _ _)
  |pointer f=>cases op<;>first|exact absurd rfl e.1|exact absurd rfl e.2|exact Ai
  |_=>cases op<;>first|exact absurd rfl e.1|exact absurd rfl e.2|exact Ae
 |_=>
  cases j with
  |pointer f=>cases op<;>first|exact absurd rfl e.1|exact absurd rfl e.2|exact Ai
  |_=>cases op<;>first|exact absurd rfl e.1|exact absurd rfl e.2|exact Ae
def VE (Q:Zo)(t:Zs)(x y:Zf)(h:x=.tuple #[]\/y=.tuple #[]):∀(w:Zb) (es:Array Z9),∃z u f,(Zaa t x y).runT Q w es=(.halt z u,f)/\GY z:=by
 intro w es;have e:Zaa t x y=ZaZ (9999+1) t x y:=rfl;rw[e,ZaZ];show∃z u f,((underlying t).bind _).runT Q w es=(.halt z u,f)/\GY z;rw[ze];have g:(∃d,(underlying t).runT Q w es=(.ok d w,es))\/∃z,(underlying t).runT Q w es=(.halt z w,es)/\GY z:=by
  cases b:Q.underlying t with
  |none=>exact .inr ⟨.stuck "no such type",by unfold underlying;simp[-zh,bind,Zb8,program,ZI,b,stuck],trivial⟩
  |some d=>exact .inl ⟨d,by unfold underlying;simp[-zh,bind,Zb8,program,ZI,b,pure]⟩
 rcases g with⟨d,a⟩|⟨z,c,a⟩
 .rw[a]
  dsimp only;rcases h with rfl|rfl
  all_goals
   split
   all_goals first|exact⟨_,_,_,rfl,trivial⟩|(exfalso;simp_all;done)
 rw[c];exact⟨_,_,_,rfl,a⟩
def sI (T:Twins P' P)(s:Base P ρ)(m:Nat)(op:BinOp)(t:Zs)(g:op=.eql\/op=.neq)
 (h:JF P m t=true\/((∃p,P.underlying t=some (.interface p))/\(x=.nilIface\/y=.nilIface))) (i:VR ρ x x') (d:VR ρ y y'):Am P' P fz VR ρ (binOp op t x y) (binOp op t x' y'):=by
 have f:Am P' P fz Gf ρ (Zaa t x y) (Zaa t x' y'):=by
  rcases h with h|⟨r,q⟩
  .exact Rz T m t s h i d
  exact cZ T t i d q r
 have n:Am P' P fz VR ρ (Zaa t x y>>=λb=>pure (.bool b)) (Zaa t x' y'>>=λb=>pure (.bool b)):=Ac _ f λ_ _ _ _ j=>by cases j;exact Ad (.bool _)
 have l:Am P' P fz VR ρ (Zaa t x y>>=λb=>pure (.bool !b)) (Zaa t x' y'>>=λb=>pure (.bool !b)):=Ac _ f λ_ _ _ _ j=>by cases j;exact Ad (.bool _)
 clear f h;by_cases c:x=.tuple #[]\/y=.tuple #[]
 .have o:=VE P' t x y c
  rcases g with rfl|rfl
  .have e:binOp .eql t x y=(Zaa t x y).bind λb=>pure (.bool b):=by rcases c with rfl|rfl<;>first|(cases y<;>rfl)|(cases x<;>rfl)
   rw[e];exact .He (Ku o _)
  have e:binOp .neq t x y=(Zaa t x y).bind λb=>pure (.bool !b):=by rcases c with rfl|rfl<;>first|(cases y<;>rfl)|(cases x<;>rfl)
  rw[e];exact .He (Ku o _)
 rcases g with rfl|rfl
 .cases i with
  |int k a=>
   cases d with
   |int k' b=>
    unfold binOp;exact Gg (λ_=>Ae) λ_=>RF _ _ _
   |Ew h=>exact absurd (.inr rfl) c
   |_=>exact n
  |string a=>
   cases d with
   |string b=>rw[JH];exact Ho _ _ _
   |Ew h=>exact absurd (.inr rfl) c
   |_=>exact n
  |Ew h=>exact absurd (.inl rfl) c
  |_=>cases d<;>first|exact n|exact absurd (.inr rfl) c
 .cases i with
  |int k a=>
   cases d with
   |int k' b=>
    unfold binOp;exact Gg (λ_=>Ae) λ_=>RF _ _ _
   |Ew h=>exact absurd (.inr rfl) c
   |_=>exact l
  |string a=>
   cases d with
   |string b=>rw[JH];exact Ho _ _ _
   |Ew h=>exact absurd (.inr rfl) c
   |_=>exact l
  |Ew h=>exact absurd (.inl rfl) c
  |_=>cases d<;>first|exact l|exact absurd (.inr rfl) c
def Mj:∀(m:Nat) (d:Nat) (t:Zs),m<=d->JF P m t=true->P.eqGuardType d t=false
 |0,_,_,_,h=>h!
 |m+1,0,_,i,_=>o!
 |m+1,d+1,t,i,h=>by
  unfold JF at h;unfold Zdy;cases c:P.underlying t with
  |none=>rfl
  |some x=>
   rw[c]at h;cases x with
   |struct k=>
    dsimp only at h⊢;rw[zS]at h;rw[Bool.eq_false_iff];intro a;rw[Array.any_eq_true']at a;obtain⟨f,g,b⟩:=a;rw[Mj m d f.type o! (h f g),Bool.and_false]at b;cases b
   |array n e=>exact Mj m d e o! h
   |interface j=>cases h
   |_=>rfl
def Ky (T:Twins P' P):∀(d:Nat) (t:Zs),P'.eqGuardType d t=P.eqGuardType d t
 |0,_=>rfl
 |d+1,t=>by
  unfold Zdy;rw[T.yE];cases P.underlying t with
  |none=>rfl
  |some x=>cases x<;>simp only[Ky T d]
def ji (T:Twins P' P)(m:Nat)(s:m<=P.depth)(op:BinOp)(t:Zs)(u v:Zbv)(h:(op=.eql\/op=.neq)->JF P m t=true\/(∃c,(u=.const c/\c=x/\x=.nilIface)\/(v=.const c/\c=y/\y=.nilIface)))
 (r:VR ρ x x') (a:VR ρ y y'):Am P' P fz Gf ρ (eqGuard op t u v x y) (eqGuard op t u v x' y'):=by
 unfold eqGuard;refine Gg (λ_=>Ad rfl) λj=>?_;have f:op=.eql\/op=.neq:=by cases op<;>first|exact .inl rfl|exact .inr rfl|exact absurd rfl j
 replace h:=h f;clear j;cases r with
 |nilIface=>
  cases a with
  |nilIface=>
   dsimp only;refine Gg (λ_=>Ad rfl) λ_=>?_;refine Ac Gf ?_ λσ b b' _ z=>?_
   .unfold Op.maxDepth Op.eqGuardIn
    refine Ac _ (Aq T t) λσ d d' g w=>?_;obtain⟨rfl,_⟩:=w;cases d<;>exact Ad rfl
   .cases z
    exact Gg (λ_=>Ai) λ_=>Ad rfl
  |Ew h=>cases y'<;>first|(cases h;done)|exact Ad rfl
  |_=>exact Ad rfl
 |agg q o=>
  cases a with
  |agg n l=>
   dsimp only;rcases h with h|⟨c,⟨_,_,h⟩|⟨_,_,h⟩⟩
   .refine Ac _ C2 λσ p k g e=>?_
    obtain⟨rfl,rfl⟩:=e;refine Ac _ C2 λA p k B e=>?_;obtain⟨rfl,rfl⟩:=e;rw[Ky T,T.depth,Mj m P.depth t s h];exact Ad rfl
   .cases h
   .cases h
  |Ew h=>cases y'<;>first|(cases h;done)|exact Ad rfl
  |_=>exact Ad rfl
 |Ew h=>cases x'<;>first|(cases h;done)|(cases a<;>first|exact Ad rfl|(rename_i i;cases y'<;>first|(cases i;done)|exact Ad rfl))
 |_=>cases a<;>first|exact Ad rfl|(rename_i i;cases y'<;>first|(cases i;done)|exact Ad rfl)
def da (P:Zo)(src dst:Zs):Bool:=
 match P.underlying src,P.underlying dst with
 |some (.int _),some (.int _)=>true
 |some (.slice e),some .string=>(match P.underlying e with|some (.int .u8)=>true|_=>false)
 |_,_=>false
def P8 (o:VR ρ x x'):Am P' P fz VR ρ (Zat x) (Zat x'):=by
 unfold Zat;cases o with
 | @slice a a' n c i=>
  cases a<;>cases a'<;>first|exact i.elim|skip
  .exact Ad (.string _)
  .dsimp only
   refine Ac _ (Kv i n) λσ z j g e=>?_;refine Ac Gf (nd e rfl λτ u v b b' _ d h=>?_) λτ s l _ f=>?_
   .cases h
    cases d with
    |int k m=>cases k<;>first|exact Ae|exact Ad (.yield rfl)
    |_=>exact Ae
   .cases f;exact Ad (.string _)
 |void a a'=>
  dsimp only;refine Ac BS (show Am P' P fz BS ρ (loadCells a 0) (loadCells a' 0) from Ad Bz.nil) λσ z j g e=>?_;refine Ac Gf (nd e rfl λτ u v b b' _ d h=>?_) λτ s l _ f=>?_
  .cases h
   cases d with
   |int k m=>cases k<;>first|exact Ae|exact Ad (.yield rfl)
   |_=>exact Ae
  .cases f;exact Ad (.string _)
 |_=>exact Ae
def jk (T:Twins P' P)(src dst:Zs)(h:da P src dst=true)(q:VR ρ x x'):Am P' P fz VR ρ (convert src dst x) (convert src dst x'):=by
 unfold convert;refine Ac _ (Aq T src) λσ d d' j m=>?_;obtain⟨rfl,m⟩:=m;refine Ac _ (Aq T dst) λr e e' t l=>?_;obtain⟨rfl,l⟩:=l;have p:=q.mono (Ren.le_trans j t);unfold da at h;rw[m,l]at h;cases d with
 |int k=>
  cases e with
  |int k'=>
   cases p with
   |int k n=>exact Ad (.int _ _)
   | @pointer a a' f=>cases a<;>cases a'<;>first|exact f.elim|exact Ai
   |_=>exact Ai
  |_=>cases h
 |slice o=>
  cases e with
  |string=>
   have b:Am P' P fz VR r (underlying o>>=λu=>match u with
     | .int .u8=>Zat x
     | .int .i32=>Conv.runesToString x
     |_=>stuck "Convert: a slice of what to string?") (underlying o>>=λu=>match u with
     | .int .u8=>Zat x'
     | .int .i32=>Conv.runesToString x'
     |_=>stuck "Convert: a slice of what to string?"):=by
    refine Ac _ (Aq T o) λy u w v i=>?_;obtain⟨rfl,i⟩:=i;dsimp only at h;rw[i]at h;cases u with
    |int k=>cases k<;>first|exact P8 (p.mono v)|cases h
    |_=>cases h
   cases p with
   |int k n=>exact Ad (.string _)
   |string s=>exact Ad (.string _)
   | @slice a a' n c f=>cases a<;>cases a'<;>first|exact f.elim|exact b
   | @pointer a a' f=>cases a<;>cases a'<;>first|exact f.elim|exact b
   |Ew g=>cases x'<;>first|(cases g;done)|exact b|(rename_i a;cases a<;>first|(cases g;done)|exact b)|(rename_i a _ _;cases a<;>first|(cases g;done)|exact b)
   |_=>exact b
  |_=>cases h
 |_=>cases h
end
section
variable {P' P:Zo}{fz:Prop}{ρ:Ren}
def yN (f:VR ρ x x')(d:VR ρ y y'):Am P' P fz VR ρ (Zc8 x y) (Zc8 x' y'):=by
 unfold Zc8;cases f with
 |int k a=>
  cases d with
  |int k' b=>exact Ad (.int _ _)
  | @pointer b b' c=>cases b<;>cases b'<;>first|exact c.elim|exact Ai|exact Ae
  |_=>exact Ae
 |string a=>
  cases d with
  |string b=>
   dsimp only;refine Ac _ (Ho _ _ _) λσ u v _ e=>?_;refine Ac _ (Ru e) λh u v _ e=>?_;cases e;exact Ad (.string _)
  | @pointer b b' c=>cases b<;>cases b'<;>first|exact c.elim|exact Ai|exact Ae
  |_=>exact Ae
 | @pointer a a' g=>
  cases a<;>cases a'<;>first|exact g.elim|skip
  .cases d with
   | @pointer b b' c=>cases b<;>cases b'<;>first|exact c.elim|exact Ai|exact Ae
   |_=>exact Ae
  .cases d<;>exact Ai
 |_=>
  cases d with
  | @pointer b b' c=>cases b<;>cases b'<;>first|exact c.elim|exact Ai|exact Ae
  |_=>exact Ae
def XF {f g:Zf->Zf->Sem Zf}(j:∀ρ x x' y y',VR ρ x x'->VR ρ y y'->Am P' P fz VR ρ (f x y) (g x' y')):∀ {l l':List Zf} {ρ:Ren} {x x':Zf},VR ρ x x'->Ep (VR ρ) l l'->Am P' P fz VR ρ (l.foldlM f x) (l'.foldlM g x'):=by
 intro l
 induction l with
 |nil=>intro l' ρ x x' a c;cases c;exact Ad a
 |cons y l e=>
  intro l' ρ x x' a c;cases c with
  |cons h i=>
   rw[List.foldlM_cons,List.foldlM_cons];exact Ac _ (j ρ _ _ _ _ a h) λσ u v b d=>e d (i.mono λ_ _=>VR.mono b)
def aed (at_:Array Zs)(t:Zs){a':Array Zf}(h:BS ρ a a'):Am P' P fz VR ρ (Zc7 at_ t a) (Zc7 at_ t a'):=by
 unfold Zc7;have b:=h.list;generalize a.toList=l at b⊢;generalize a'.toList=l' at b⊢;cases b with
 |nil=>exact Ae
 |cons c d=>exact XF (λ_ _ _ _ _=>yN) c d
def yO (f:VR ρ x x')(d:VR ρ y y'):Am P' P fz VR ρ (Zc6 x y) (Zc6 x' y'):=by
 unfold Zc6;cases f with
 |int k a=>
  cases d with
  |int k' b=>exact Ad (.int _ _)
  | @pointer b b' c=>cases b<;>cases b'<;>first|exact c.elim|exact Ai|exact Ae
  |_=>exact Ae
 |string a=>
  cases d with
  |string b=>
   dsimp only;refine Ac _ (Ho _ _ _) λσ u v _ e=>?_;refine Ac _ (Ru e) λh u v _ e=>?_;cases e;exact Ad (.string _)
  | @pointer b b' c=>cases b<;>cases b'<;>first|exact c.elim|exact Ai|exact Ae
  |_=>exact Ae
 | @pointer a a' g=>
  cases a<;>cases a'<;>first|exact g.elim|skip
  .cases d with
   | @pointer b b' c=>cases b<;>cases b'<;>first|exact c.elim|exact Ai|exact Ae
   |_=>exact Ae
  .cases d<;>exact Ai
 |_=>
  cases d with
  | @pointer b b' c=>cases b<;>cases b'<;>first|exact c.elim|exact Ai|exact Ae
  |_=>exact Ae
def aee (at_:Array Zs)(t:Zs){a':Array Zf}(h:BS ρ a a'):Am P' P fz VR ρ (Zc5 at_ t a) (Zc5 at_ t a'):=by
 unfold Zc5;have b:=h.list;generalize a.toList=l at b⊢;generalize a'.toList=l' at b⊢;cases b with
 |nil=>exact Ae
 |cons c d=>exact XF (λ_ _ _ _ _=>yO) c d
def sJ (T:Twins P' P)(g:Base P ρ)(c:VR ρ x x'):Am P' P fz VR ρ (Instr.panic x) (Instr.panic x'):=by
 unfold Instr.panic;cases c with
 |iface t h=>exact Ej (.iface t h)
 |nilIface=>
  dsimp only;refine Ac Gf ?_ λσ b b' a f=>?_
  .unfold Instr.panicnil
   refine Ac Gf (.env λr=>.pure rfl) λσ r i _ d=>?_;cases d;cases r with
   |strings env=>
    dsimp only;refine Ac _ C2 λk p j _ e=>?_;obtain⟨rfl,rfl⟩:=e;rw[T.tables];exact Ad rfl
   |_=>exact Ae
  .cases f
   exact Gg (λ_=>Ej .nilIface) λ_=>AJ T (g.mono a) _
 |_=>exact Ae
inductive cH (σ:Ren):Next->Next->Prop
 |value {v v':Zf} (h:VR σ v v'):cH σ (.value v) (.value v')
 |skip:cH σ .skip .skip
 |enter {f:ZaQ} {a a':Array Zf} (hf:σ.ok f=true\/σ.ok.dir f a.size=true) (h:BS σ a a'):cH σ (.enter f a) (.enter f a')
 |round {l l':Nat} (hl:σ l=some l') {f:ZaQ} (hf:σ.ok.Nc f=true/\σ.sp f=false) {t t':Array Zf} (ht:BS σ t t') {as b:Code} (has:σ.good as=true) (hb:σ.good b=true):cH σ (.round l f t as b) (.round l' f t' as b)
structure CE (P' P:Zo)(ok:Pk):Prop where
 has:∀f,(ok f=true\/∃n,ok.dir f n=true)->∃fn Qt,P'.funcs[f]?=some fn/\P.funcs[f]?=some Qt/\fn.body.isSome=true/\Qt.body.isSome=true/\(fn.name== "runtime.NumGoroutine")=false/\(Qt.name== "runtime.NumGoroutine")=false
variable {f:ZaQ}
def RI (S:CE P' P ρ.ok)(c:ρ.ok f=true\/ρ.ok.dir f a.size=true){a':Array Zf}(h:BS ρ a a'):Am P' P fz cH ρ (Zz f a) (Zz f a'):=by
 unfold Zz;obtain⟨fn,o,j,i,n,m,e,d⟩:=S.has f (c.imp id λh=>⟨_,h⟩);refine Ac _ C2 λσ p q b g=>?_;obtain⟨rfl,rfl⟩:=g;rw[j,i];have l:fn.body.isNone=false:=by rw[ZcB];exact n
 have k:o.body.isNone=false:=by rw[ZcB];exact m
 dsimp only;rw[e,d,l,k];exact Ad (.enter (by rw[b.2.1];exact c) (BS.mono b h))
variable {l l' i n r r' N:Nat}
def I2 (h:ρ l=some l'):Am P' P fz LpR ρ (Zc1 l) (Zc1 l'):=by
 unfold Zc1;refine Ac _ (C6 h) λσ o o' _ a=>?_;cases a with
 |loop b=>exact Ad b
 |_=>exact Ae
variable {as:Code}
def XG {fn:ZaQ}(v:ρ.ok.Nc fn=true/\ρ.sp fn=false)(ht:BS ρ t t')(i:Array Tmp){b:Code}(k:ρ.good as=true)(u:ρ.good b=true){m e:Option Nat}(n:Rq ρ m e):
  Am P' P fz (λσ p a=>σ p.1=some a.1/\Ep (fM σ) p.2 a.2) ρ (Zad fn t i as b m) (Zad fn t' i as b e):=by
 unfold Zad;have d:∀σ (p a:Nat×List Deferred),ρ.le σ->σ p.1=some a.1->Ep (fM σ) p.2 a.2->
   Am P' P fz (λσ p a=>σ p.1=some a.1/\Ep (fM σ) p.2 a.2) σ
    (newObj (.loop {state:=.ready,pending:=none,fn,tmps:=t,params:=i,assign:=as,body:=b,defers:=p.1})>>=λr=>pure (r,p.2))
    (newObj (.loop {state:=.ready,pending:=none,fn,tmps:=t',params:=i,assign:=as,body:=b,defers:=a.1})>>=λr=>pure (r,a.2)):=by
  intro σ p a c s o;refine Ac _ (Hg (.loop ⟨rfl,rfl,rfl,BS.mono c ht,rfl,rfl,rfl,by rw[c.2.1,c.2.2.2];exact v,⟨by rw[c.2.2.1];exact k,by rw[c.2.2.1];exact u,λ_ h=>h!⟩,s⟩)) λτ r r' g j=>Ad ⟨j,o.mono λ_ _=>fM.mono g⟩
 cases m<;>cases e<;>first|exact n.elim|skip
 .dsimp only
  refine Ac _ (Hg .deferred) λσ r r' c j=>?_;exact Ac (λσ p a=>σ p.1=some a.1/\Ep (fM σ) p.2 a.2) (Ad ⟨j,.cons (.mk j) .nil⟩) λτ p a g f=>d τ p a (Ren.le_trans c g) f.1 f.2
 dsimp only;refine Ac _ (I2 n) λσ l l' c q=>?_;exact Ac (λσ p a=>σ p.1=some a.1/\Ep (fM σ) p.2 a.2) (Ad ⟨q.defers,.nil⟩) λτ p a g f=>d τ p a (Ren.le_trans c g) f.1 f.2
def sK (h:ρ l=some l'){a':Array Zf}(n:BS ρ a a'):Am P' P fz cH ρ (ZdL l a) (ZdL l' a'):=by
 unfold ZdL;refine Ac _ (I2 h) λσ r r' i d=>?_;rw[d.params,n.1];refine Gg (λ_=>.bad trivial) λ_=>?_;rw[d.fn,d.assign,d.body];refine Ad (.round (i.1 _ _ h) d.run ?_ d.fine.1 d.fine.2.1);have m:=(BS.mono i n).list;have k:∀(g:List Tmp) {l l':List Zf},Ep (VR σ) l l'->∀ {t t':Array Zf},BS σ t t'->BS σ ((g.zip l).foldl (λc (x:Tmp×Zf)=>c.setIfInBounds x.1 x.2) t) ((g.zip l').foldl (λc (x:Tmp×Zf)=>c.setIfInBounds x.1 x.2) t'):=by
  intro g
  induction g with
  |nil=>intro l l' _ t t' j;exact j
  |cons p g o=>intro l l' s t t' j;cases s with
   |nil=>exact j
   |cons q u=>exact o u (j.set q p)
 have e:∀(b:Array Zf) (c:Array Zf),(r.params.zip b).foldl (λf (x:Tmp×Zf)=>match x with|(t,a)=>f.setIfInBounds t a) c=(r.params.toList.zip b.toList).foldl (λc (x:Tmp×Zf)=>c.setIfInBounds x.1 x.2) c:=by
  intro b c;rw[<-Zb0,Array.toList_zip]
 rw[e,e];exact k _ m d.tmps
def VF (T:Twins P' P)(c:Base P ρ)(h:ρ l=some l'):Am P' P fz Gf ρ (ZaC l) (ZaC l'):=by
 unfold ZaC;refine Ac _ (I2 h) λσ r r' a b=>?_;refine Ac _ (D6 (a.1 _ _ h) (.loop {b with state:=rfl})) λτ _ _ d _=>?_;rw[b.state];split
 .exact Ad rfl
 all_goals exact AJ T (c.mono (Ren.le_trans a d)) _
def db (h:ρ l=some l')(j:Option Code)(d:∀c,j=some c->ρ.good c=true):Am P' P fz VR ρ (ZaU l j) (ZaU l' j):=by
 unfold ZaU;refine Ac _ (I2 h) λσ r r' a b=>?_;refine Ac _ (D6 (a.1 _ _ h) (.loop {b with state:=rfl,pending:=rfl,fine:=⟨b.fine.1,b.fine.2.1,by rw[a.2.2.1];exact d⟩})) λτ _ _ e _=>?_;exact Ad (.bool _)
def jl (T:Twins P' P)(e:Base P ρ)(h:ρ l=some l'):Am P' P fz (λσ j d=>j=d/\∀c,j=some c->σ.good c=true) ρ (ZaD l) (ZaD l'):=by
 unfold ZaD;refine Ac _ (I2 h) λσ r r' a b=>?_;rw[b.state];refine Gg (λ_=>DG T (e.mono a) _) λ_=>?_;refine Ac _ (D6 (a.1 _ _ h) (.loop {b with state:=rfl})) λτ _ _ f _=>?_;rw[b.pending];exact Ad ⟨rfl,by rw[f.2.2.1];exact b.fine.2.2⟩
def RJ {b c:Nat}(h:ρ b=some c):Am P' P fz (λ_ l l'=>l=[]/\l'=[]) ρ (Yw b) (Yw c):=by
 unfold Yw;refine Ac _ (C6 h) λσ o o' a d=>?_;cases d with
 |deferred=>exact Ac _ (D6 (a.1 _ _ h) .Fe) λτ _ _ e _=>Ad ⟨rfl,rfl⟩
 |_=>exact Ae
def jm (T:Twins P' P)(g:Base P ρ){b:Builtin}(f:okB b=true)(at_:Array Zs)(t:Zs)(c:Array Bool){a':Array Zf}(h:BS ρ a a'):Am P' P fz cH ρ (builtin b at_ t c a) (builtin b at_ t c a'):=by
 have v:∀ {s d:Sem Zf},Am P' P fz VR ρ s d->Am P' P fz cH ρ (s>>=λx=>pure (.value x)) (d>>=λx=>pure (.value x)):=λh=>Ac _ h λ_ _ _ _ e=>Ad (.value e);unfold builtin;cases b<;>first|cases f|skip
 .exact v (nv T g at_ t h)
 .exact v (ae9 T at_ t h)
 .exact v (yL T at_ t h)
 .exact v (ae8 T at_ t h)
 .exact v (aed at_ t h)
 exact v (aee at_ t h)
def XH (T:Twins P' P)(f:Base P ρ)(S:CE P' P ρ.ok){t e:Target}(ht:TgR ρ t e){a':Array Zf}(h:BS ρ a a'):Am P' P fz cH ρ (invoke t a) (invoke e a'):=by
 unfold invoke;cases ht with
 |nil=>exact AJ T f _
 |builtin j d t c=>exact jm T f j d t c h
 |collected k=>exact Ae
 |fn b i=>
  cases b with
  |func b=>exact RI S (.inl b) (h.append i)
  |yield g=>exact sK g h
end
def Pt:Nat->Zf->Bool
 |0,_=>false
 |n+1,v=>match v with
  | .bool _| .int _ _| .string _| .nilFunc| .nilIface| .pointer none| .slice none _ _| .map none| .chan none=>true
  | .agg cs=>cs.all (Pt n)
  | .tuple cs=>cs.all (Pt n)
  | .iface _ v=>Pt n v
  |_=>false
def Ln:∀(n:Nat) {v:Zf} {ρ:Ren},Pt n v=true->VR ρ v v
 |0,_,_,h=>h!
 |n+1,v,ρ,h=>by
  have d:∀cs:Array Zf,cs.all (Pt n)=true->BS ρ cs cs:=by
   intro cs g;refine⟨rfl,λi x y f e=>?_⟩;rw[f]at e;cases e;rw[zS]at g;exact Ln n (g x (zY f))
  cases v with
  |bool b=>exact .bool b
  |int k m=>exact .int k m
  |string s=>exact .string s
  |nilFunc=>exact .nilFunc
  |nilIface=>exact .nilIface
  |pointer a=>cases a with
   |none=>exact .pointer trivial
   |some a=>cases h
  |slice a l c=>cases a with
   |none=>exact .slice l c trivial
   |some a=>cases h
  |map r=>cases r with
   |none=>exact .map trivial
   |some a=>cases h
  |chan r=>cases r with
   |none=>exact .chan trivial
   |some a=>cases h
  |agg cs=>exact .P6 (d cs h)
  |tuple cs=>exact .tuple' (d cs h)
  |iface t v=>exact .iface t (Ln n h)
  |_=>cases h
def jo (a:Nat)(ok:Pk)(dead:Nat->Bool):Zbv->Bool
 | .tmp t=> !dead t
 | .const v=>Pt 8 v
 | .global _=>false
 | .func f=>ok f
def okC (G:Nat)(ok:Pk)(dead:Nat->Bool)(c:Call):Bool:=
 (match c.callee with| .value (.func f)=>ok.dir f c.args.size| .value f=>jo G ok dead f| .builtin b=>okB b| .invoke _ _=>false)&&c.args.all (jo G ok dead)
def Kz:Zbv->Bool
 | .const .nilIface=>true
 |_=>false
def BP:Nat:=12
def XI (P:Zo)(t:Zs):Bool:=match P.underlying t with|some (.map k _)=>Xx P BP k|_=>true
def sL (P:Zo)(ok:Pk)(dead:Nat->Bool)(op:Op):Bool:=
 let G:=P.globals.size
 let X:=jo G ok dead
 match op with
 | .move x| .assign x| .box _ x| .load _ x| .nilCheck x| .unOp _ _ x| .makeInterface _ x| .fieldAddr _ x _| .field _ x _| .range _ x| .next x _| .extract x _| .panic x| .typeAssert x _ _ _=>X x
 | .pick c a b=>X c&&X a&&X b
 | .alloc _=>true
 | .build _ e| .buildSlice _ _ e=>e.all λp=>X p.2
 | .store _ a v| .makeSlice _ a v| .indexAddr _ a v| .index _ a v=>X a&&X v
 | .binOp op t x y _=>X x&&X y&&(match op with
  | .eql| .neq=>JF P BP t||((match P.underlying t with|some (.interface _)=>true|_=>false)&&(Kz x||Kz y))
  |_=>true)
 | .convert s d x=>X x&&da P s d
 | .makeFunc f a c=>(match f with| .func f=>ok f|_=>false)&&a.all X&&c.all X
 | .makeMap _ r=>r.all X
 | .slice _ x l h m=>X x&&l.all X&&h.all X&&m.all X
 | .lookup t x i _=>X x&&X i&&XI P t
 | .mapUpdate t m k v| .insert t m k v=>X m&&X k&&X v&&XI P t
 | .mapEntry t m k=>X m&&X k&&XI P t
 | .entryStore _ m s v=>X m&&X s&&X v
 | .call c=>okC G ok dead c
 |_=>false
section
variable {P' P:Zo}{fz:Prop}{ρ:Ren}
structure Pu (dead:Nat->Bool)(ρ:Ren)(a b:Array Zf):Prop where
 size:a.size=b.size
 at_:∀(i:Nat) x y,dead i=false->a[i]?=some x->b[i]?=some y->VR ρ x y
def Pu.getD {dead:Nat->Bool}{a b:Array Zf}(h:Pu dead ρ a b)(i:Nat)(f:dead i=false):VR ρ (a.getD i Ze) (b.getD i Ze):=by
 rw[Yp,Yp];cases c:a[i]? with
 |none=>
  have:b[i]?=none:=by rw[ZaW]at*;rw[<-h.size];exact c
  rw[this];exact VR.undef ρ
 |some x=>
  obtain⟨e,_⟩:=Za.1 c;have d:i<b.size:=h.size▸e;rw[Zx d];exact h.at_ i _ _ f c (Zx d)
variable {dead:Nat->Bool}
def Pu.mono (c:ρ.le σ)(h:Pu dead ρ a b):Pu dead σ a b:=⟨h.size,λi x y f e d=>(h.at_ i x y f e d).mono c⟩
def Pu.of (h:BS ρ a b):Pu dead ρ a b:=⟨h.1,λi x y _ d c=>h.2 i x y d c⟩
def Pu.all (h:Pu (λ_=>false) ρ a b):BS ρ a b:=⟨h.size,λi x y d c=>h.at_ i x y rfl d c⟩
def Pu.set (h:Pu dead ρ a b)(e:VR ρ x y)(j:Nat):Pu dead ρ (a.setIfInBounds j x) (b.setIfInBounds j y):=by
 refine⟨by simp[h.size],λi u v f d c=>?_⟩;rw[Z5]at d c;rw[h.size]at d;split at d
 .rw[if_pos ‹_›]at c
  split at d
  .rw[if_pos ‹_›]at c;cases d;cases c;exact e
  rw[if_neg ‹_›]at c;cases d
 rw[if_neg ‹_›]at c;exact h.at_ i u v f d c
variable {c fr Bx KA:ZM}
def Ml (a:Base P ρ)(ht:Pu dead ρ fr.tmps Bx.tmps){x:Zbv}(h:jo P.globals.size ρ.ok dead x=true):VR ρ (fr.eval x) (Bx.eval x):=by
 unfold Zeb;cases x with
 |tmp t=>exact ht.getD t (by simpa[jo]using h)
 |const v=>exact Ln 8 h
 |global g=>cases h
 |func f=>exact .Xq (.func h) Bz.nil Bz.nil
def Qv (e:Base P ρ)(ht:Pu dead ρ fr.tmps Bx.tmps){xs:Array Zbv}(h:xs.all (jo P.globals.size ρ.ok dead)=true):BS ρ (xs.map fr.eval) (xs.map Bx.eval):=by
 rw[zS]at h;refine⟨i!,λi u v d c=>?_⟩;rw[zF,zc]at d c;obtain⟨x,b,rfl⟩:=d;obtain⟨y,a,rfl⟩:=c;rw[b]at a;cases a;exact Ml e ht (h x (zY b))
def Qw (a:Base P ρ)(ht:Pu dead ρ fr.tmps Bx.tmps){x:Option Zbv}(h:x.all (jo P.globals.size ρ.ok dead)=true):fO ρ (x.map fr.eval) (x.map Bx.eval):=by
 cases x with
 |none=>trivial
 |some x=>exact Ml a ht h
def fY (f:Base P ρ)(ht:Pu dead ρ fr.tmps Bx.tmps){a:Array (Nat×Zbv)}(h:a.all (λp=>jo P.globals.size ρ.ok dead p.2)=true):
  Ep (vM ρ) (a.map fun(i,x)=>(i,fr.eval x)).toList (a.map fun(i,x)=>(i,Bx.eval x)).toList:=by
 rw[zS]at h;refine Bz.list ⟨i!,λi u v e d=>?_⟩;rw[zF,zc]at e d;obtain⟨x,c,rfl⟩:=e;obtain⟨y,b,rfl⟩:=d;rw[c]at b;cases b;exact⟨rfl,Ml f ht (h x (zY c))⟩
def LY (Q:Zo)(t:Zs)(w:Zb)(es:Array Z9):(∃i,Q.info? t=some i/\(typeInfo t).runT Q w es=(.ok i w,es))\/∃z,(typeInfo t).runT Q w es=(.halt z w,es)/\GY z:=by
 cases a:Q.info? t with
 |none=>exact .inr ⟨.stuck "no such type",by unfold typeInfo;simp[-zh,bind,Zb8,program,ZI,a,stuck],trivial⟩
 |some i=>exact .inl ⟨i,rfl,by unfold typeInfo;simp[-zh,bind,Zb8,program,ZI,a,pure]⟩
def RK (Q:Zo)(hl:∀i,Q.info? 0=some i->i.methods.find? (λm=>m.name== "")=none)(a:Array Zf):∀(w:Zb) (es:Array Z9),∃z u g,((Yd vH a).bind λd=>invoke d.target d.args).runT Q w es=(.halt z u,g)/\GY z:=by
 intro w es;have c:∀b,∃z u g,(method b 0 (.tuple #[]) "").runT Q w es=(.halt z u,g)/\GY z:=by
  intro b;cases b with
  |zero=>exact⟨_,_,_,rfl,trivial⟩
  |succ n=>
   unfold method;show∃z u g,((typeInfo 0).bind _).runT Q w es=(.halt z u,g)/\GY z;rw[ze];rcases LY Q 0 w es with⟨i,k,h⟩|⟨z,h,f⟩
   .rw[h]
    dsimp only;rw[hl i k];exact⟨_,_,_,rfl,trivial⟩
   rw[h];exact⟨_,_,_,rfl,f⟩
 have e:((Yd vH a).bind λd=>invoke d.target d.args)=invoke (.fn (.method "") #[]) (#[.iface 0 (.tuple #[])]++a):=rfl;rw[e];have l:(#[Value.iface 0 (.tuple #[])]++a)[0]?=some (.iface 0 (.tuple #[])):=by rw[zr i!];rfl
 unfold invoke;dsimp only;rw[l];unfold callMethod;dsimp only;show∃z u g,((program).bind λp=>(method (p.types.size+ZcT) 0 (.tuple #[]) "").bind _).runT Q w es=_/\_;rw[ze];have j:(program).runT Q w es=(.ok Q w,es):=rfl;rw[j];dsimp only;rw[ze];obtain⟨z,u,g,h,f⟩:=c (Q.types.size+ZcT);rw[h];exact⟨_,_,_,rfl,f⟩
def Uw {f d:Zf}(b:VR ρ f d)(k:f≠vH){a':Array Zf}(h:BS ρ a a'):Am P' P fz DfR ρ (Yd f a) (Yd d a'):=by
 unfold Yd;cases b with
 |func b i e g j=>exact Ad ⟨.fn b ⟨g,j⟩,Bz.append ⟨i,e⟩ h⟩
 |nilFunc=>exact Ad ⟨.nil,h⟩
 |meth n f c=>exact absurd rfl k
 |_=>exact Ae
def jq (i:Base P ρ)(ht:Pu dead ρ fr.tmps Bx.tmps){c:Call}(h:okC P.globals.size ρ.ok dead c=true)(e:∀f,c.callee≠ .value (.func f))(j:∀f,c.callee=.value f->fr.eval f≠vH)(t:Zs):Am P' P fz DfR ρ (Zbh fr.eval c t) (Zbh Bx.eval c t):=by
 unfold okC at h;rw[ZF]at h;obtain⟨a,k⟩:=h;have g:=Qv i ht k;unfold Zbh;cases d:c.callee with
 |value f=>
  rw[d]at a;refine Uw (Ml (x:=f) i ht ?_) (j f d) g;cases f with
  |func f=>exact absurd d (e f)
  |_=>exact a
 |builtin b=>
  rw[d]at a;exact Ad ⟨.builtin a _ _ _,g⟩
 |invoke _ _=>rw[d]at a;cases a
def Nn {t:Zs}(h:XI P t=true):∀k e,P.underlying t=some (.map k e)->Xx P BP k=true:=by
 intro k e a;unfold XI at h;rw[a]at h;exact h
def nz (T:Twins P' P)(j:Base P ρ)(S:CE P' P ρ.ok)(I:BP<=P.depth)(ht:Pu dead ρ fr.tmps Bx.tmps){o:Oper}(h:sL P ρ.ok dead o.op=true):DC P' P fz cH ρ (Zby fr.eval o) (Zby Bx.eval o):=by
 have v:∀ {s H:Sem Zf},Am P' P fz VR ρ s H->Am P' P fz cH ρ (s>>=λx=>pure (.value x)) (H>>=λx=>pure (.value x)):=λh=>Ac _ h λ_ _ _ _ C=>Ad (.value C);have u:∀ {s H:Sem Unit},Am P' P fz Gf ρ s H->Am P' P fz cH ρ (s>>=λ_=>pure .skip) (H>>=λ_=>pure .skip):=λh=>Ac _ h λ_ _ _ _ _=>Ad .skip;have E:∀ {x:Zbv},jo P.globals.size ρ.ok dead x=true->VR ρ (fr.eval x) (Bx.eval x):=λh=>Ml j ht h;have ok:∀ {s H:Sem Next},Am P' P fz cH ρ s H->DC P' P fz cH ρ s H:=λh=>h.ok;unfold Zby;cases ho:o.op<;>rw[ho]at h<;>first|cases h|(simp only[sL,ZF]at h;dsimp only)
 case move x=>exact ok (Ad (.value (E h)))
 case assign x=>exact ok (Ad (.value (E h)))
 case pick c a b=>
  refine ok ?_;refine Ac _ (Ru (E h.1.1)) λσ b b' q hb=>?_;cases hb;refine Ad (.value ?_);split
  .exact(E h.1.2).mono q
  exact(E h.2).mono q
 case alloc e=>exact ok (v (su T e))
 case box e x=>exact ok (v (ae0 e (E h)))
 case build t ps=>exact ok (v (sD T t (fY j ht h)))
 case buildSlice t n ps=>exact ok (v (Vz T t n (fY j ht h)))
 case load t a=>exact ok (v (m_ T t (E h)))
 case store t a x=>exact ok (u (i_ T t (E h.1) (E h.2)))
 case nilCheck x=>
  refine ok ?_;have J:=E h;generalize fr.eval x=y at J;generalize Bx.eval x=y' at J;cases J with
  | @pointer a a' F=>
   cases a<;>cases a'<;>first|exact F.elim|skip
   .exact AJ T j _
   .exact Ad (.value (.pointer F))
  |nilIface=>exact AJ T j _
  |nilFunc=>exact AJ T j _
  |func D F Z B Mi=>
   cases D with
   |func D=>exact Ad (.value (.func (.func D) F Z B Mi))
   |yield hl=>exact Ad (.value (.func (.yield hl) F Z B Mi))
  |bool b=>exact Ad (.value (.bool b))
  |int k n=>exact Ad (.value (.int k n))
  |string s=>exact Ad (.value (.string s))
  |slice n c x=>exact Ad (.value (.slice n c x))
  |void a a'=>exact Ad (.value (.void a a'))
  |map x=>exact Ad (.value (.map x))
  |chan x=>exact Ad (.value (.chan x))
  |iface t x=>exact Ad (.value (.iface t x))
  |agg B C=>exact Ad (.value (.agg B C))
  |tuple B C=>exact Ad (.value (.tuple B C))
  |Ew h=>
   cases y' with
   |pointer a=>cases a with
    |none=>cases h
    |some a=>exact Ad (.value (.Ew h))
   |func f a c=>cases f with
    |method n=>cases h
    |_=>exact Ad (.value (.Ew h))
   |nilIface=>cases h
   |nilFunc=>cases h
   |_=>first|(cases h;done)|exact Ad (.value (.Ew h))
  |meth n f c=>
   refine .He λw es=>?_;dsimp only;have h0:(#[Value.iface 0 (.tuple #[])]:Array Zf)[0]?=some (.iface 0 (.tuple #[])):=rfl;rw[h0];dsimp only;show∃z u g,((program).bind λp=>(nilAhead (p.types.size+ZcT) 0 (.tuple #[]) "").bind _).runT P' w es=_/\_;rw[ze];have hp:(program).runT P' w es=(.ok P' w,es):=rfl;rw[hp];dsimp only;rw[ze];have V:∀A,(∃z u g,(nilAhead A 0 (.tuple #[]) "").runT P' w es=(.halt z u,g)/\GY z)\/(nilAhead A 0 (.tuple #[]) "").runT P' w es=(.ok none w,es):=by
    intro A;cases A with
    |zero=>exact .inr rfl
    |succ n=>
     left;unfold nilAhead;show∃z u g,((typeInfo 0).bind _).runT P' w es=(.halt z u,g)/\GY z;rw[ze];rcases LY P' 0 w es with⟨i,O,h⟩|⟨z,h,I⟩
     .rw[h]
      dsimp only;rw[T.mV i O];exact⟨_,_,_,rfl,trivial⟩
     rw[h];exact⟨_,_,_,rfl,I⟩
   rcases V (P'.types.size+ZcT) with⟨z,u,g,h,I⟩|h
   .rw[h]
    exact⟨_,_,_,rfl,I⟩
   rw[h];exact⟨_,_,_,rfl,trivial⟩
 case binOp op t x y yt=>
  obtain⟨⟨J,X⟩,M⟩:=h;refine ok (v ?_);have U:∀(f:ZM) {z:Zbv},Kz z=true->∃c,z=.const c/\c=.nilIface/\f.eval z=.nilIface:=by
   intro f z W;unfold Kz at W;split at W
   .exact⟨_,rfl,rfl,rfl⟩
   cases W
  refine Ac _ (ji T BP I op t x y ?_ (E J) (E X)) λσ _ _ q _=>?_
  .intro K
   have L:(JF P BP t||((match P.underlying t with|some (.interface _)=>true|_=>false)&&(Kz x||Kz y)))=true:=by rcases K with rfl|rfl<;>exact M
   rw[ZaK,ZF,ZaK]at L;rcases L with h|⟨_,h|h⟩
   .exact .inl h
   .obtain⟨c,R,Q,G⟩:=U fr h
    exact .inr ⟨c,.inl ⟨R,Q.trans G.symm,G⟩⟩
   obtain⟨c,R,Q,G⟩:=U fr h;exact .inr ⟨c,.inr ⟨R,Q.trans G.symm,G⟩⟩
  by_cases K:op=.eql\/op=.neq
  .refine sI T (j.mono q) BP op t K ?_ ((E J).mono q) ((E X).mono q)
   have L:(JF P BP t||((match P.underlying t with|some (.interface _)=>true|_=>false)&&(Kz x||Kz y)))=true:=by rcases K with rfl|rfl<;>exact M
   rw[ZaK,ZF,ZaK]at L;rcases L with h|⟨O,h⟩
   .exact .inl h
   refine .inr ⟨?_,?_⟩
   .split at O
    .exact⟨_,‹_›⟩
    cases O
   rcases h with h|h
   .obtain⟨c,R,Q,G⟩:=U fr h;exact .inl G
   obtain⟨c,R,Q,G⟩:=U fr h;exact .inr G
  exact c9 T (j.mono q) op t ⟨λe=>K (.inl e),λe=>K (.inr e)⟩ ((E J).mono q) ((E X).mono q)
 case unOp op t x=>exact ok (v (sH op (E h)))
 case convert s d x=>exact ok (v (jk T s d h.2 (E h.1)))
 case makeInterface t x=>exact ok (v (P7 T t (E h)))
 case makeFunc f a c=>
  obtain⟨⟨D,F⟩,B⟩:=h;cases f with
  |func f=>exact ok (v (Ad (.Xq (.func D) (Qv j ht F) (Qv j ht B))))
  |_=>cases D
 case makeMap t r=>exact ok (v (je T t (Qw j ht h)))
 case makeSlice t l c=>exact ok (v (Xy T j t (E h.1) (E h.2)))
 case slice t x l O m=>exact ok (v (jc T j t (E h.1.1.1) (Qw j ht h.1.1.2) (Qw j ht h.1.2) (Qw j ht h.2)))
 case fieldAddr s x f=>exact ok (v (ja T s (E h) f))
 case field t x f=>exact ok (v (sA T t (E h) f))
 case indexAddr t x i=>exact ok (v (jb T j t (E h.1) (E h.2)))
 case index t x i=>exact ok (v (sB T j t (E h.1) (E h.2)))
 case lookup t x i k=>exact ok (v (nk T BP t (Nn h.2) j (E h.1.1) (E h.1.2) k))
 case mapUpdate t m k x=>exact DC.map (Pq T BP t (Nn h.2) j (E h.1.1.1) (E h.1.1.2) (E h.1.2)) λ_ _ _ _ _=>.skip
 case insert t m k x=>exact DC.map (Pq T BP t (Nn h.2) j (E h.1.1.1) (E h.1.1.2) (E h.1.2)) λ_ _ _ _ _=>.skip
 case mapEntry t m k=>exact DC.map (cS T BP t (Nn h.2) j (E h.1.1) (E h.1.2)) λ_ _ _ _ C=>.value C
 case entryStore t m s x=>exact ok (u (VA t (E h.1.1) (E h.1.2) (E h.2)))
 case range t x=>exact ok (v (nu T t (E h)))
 case next it s=>exact ok (v (yK (E h) s _))
 case typeAssert x xt Y k=>exact ok (v (VB T j (E h) xt Y k))
 case extract t i=>exact ok (v (jd (E h) i))
 case call c=>
  refine ok ?_;by_cases N:∃f,c.callee=.value (.func f)
  .obtain⟨f,B⟩:=N
   unfold okC at h;rw[B,ZF]at h;have F:=Qv j ht h.2;have e:∀fr:ZM,(do let d <-Zbh fr.eval c o.type;invoke d.target d.args)=Zz f (c.args.map fr.eval):=by
    intro fr;unfold Zbh;rw[B];simp[Zeb,Yd,invoke,bind,pure,Zb8]
   rw[e,e];exact RI S (.inr (by simpa using h.1)) F
  by_cases yP:∃f,c.callee=.value f/\fr.eval f=vH
  .obtain⟨f,B,C⟩:=yP
   have e:(do let d <-Zbh fr.eval c o.type;invoke d.target d.args)=((Yd vH (c.args.map fr.eval)).bind λd=>invoke d.target d.args):=by
    unfold Zbh;rw[B];dsimp only;rw[C]
    rfl
   rw[e];exact .He (RK P' T.mV _)
  exact Ac _ (jq j ht h (λf D=>N ⟨f,D⟩) (λf D C=>yP ⟨f,D,C⟩) o.type) λσ d d' q I=>XH T (j.mono q) (by rw[q.2.1];exact S) I.target I.args
 case panic x=>exact ok (v (sJ T j (E h)))
end
def Ux (P:Zo)(ok:Pk)(dead:Nat->Bool)(a:Array Oper):Bool:=a.all λo=>sL P ok dead o.op&&o.dst.all (λd=> !dead d)
def Bh (P:Zo)(ok:Pk)(dead:Nat->Bool)(seg:Bool):Code->Bool
 | .skip| .exit _| .label _=>true
 | .region _ d _=>Ux P ok dead d
 | .seq a b=>Bh P ok dead seg a&&Bh P ok dead seg b
 | .cond c a b=>jo P.globals.size ok dead c&&Bh P ok dead seg a&&Bh P ok dead seg b
 | .block _ b| .loop b| .scope b=>Bh P ok dead seg b
 | .ret=> !seg
 | .rangeFunc f _ a b=> !seg&&jo P.globals.size ok dead f&&Bh P ok dead seg a&&Bh P ok dead seg b
 |_=>false
abbrev BU:Nat->Bool:=λ_=>false
structure OB (P' P:Zo)(ok:Pk)(sp:ZaQ->Bool):Prop where
 val:∀f,ok f=true->ok.Nc f=true/\sp f=false
 dir:∀f n,ok.dir f n=true->(ok.Nc f=true/\sp f=false)\/sp f=true
 met:∀f n,ok.dir f n=true->sp f=true->∃fn Qt,P'.funcs[f]?=some fn/\P.funcs[f]?=some Qt/\fn.body.isSome=true/\Qt.body.isSome=true/\(fn.name== "runtime.NumGoroutine")=false/\(Qt.name== "runtime.NumGoroutine")=false
 has:∀f,ok.Nc f=true->sp f=false->∃fn code,P'.funcs[f]?=some fn/\P.funcs[f]?=some fn/\fn.body=some code/\Bh P ok BU false code=true/\(fn.name== "runtime.NumGoroutine")=false/\fn.norace=false
def OB.same {ok:Pk}{sp:ZaQ->Bool}(F:OB P' P ok sp):CE P' P ok:=
 ⟨λf a=>by
  rcases a with a|⟨n,a⟩
  case inr=>
   rcases F.dir f n a with d|d
   .obtain⟨fn,code,g,e,c,_,b,_⟩:=F.has f d.1 d.2;exact⟨fn,fn,g,e,by rw[c];rfl,by rw[c];rfl,b,b⟩
   exact F.met f n a d
  obtain⟨fn,code,g,e,c,_,b,_⟩:=F.has f (F.val f a).1 (F.val f a).2;exact⟨fn,fn,g,e,by rw[c];rfl,by rw[c];rfl,b,b⟩⟩
structure Env (P' P:Zo)(ρ:Ren):Prop where
 base:Base P ρ
 good:ρ.good=Bh P ρ.ok BU false
 Nc:OB P' P ρ.ok ρ.sp
def Env.mono (h:Env P' P ρ)(a:ρ.le σ):Env P' P σ:=
 ⟨h.base.mono a,by rw[a.2.2.1,a.2.1];exact h.good,by rw[a.2.1,a.2.2.2];exact h.Nc⟩
structure Cut where
 seg:Bool
 dead:Nat->Bool
 tail:List Item
 fZ:List Deferred
 fn:ZaQ
 flat:Bool
 rv:Nat->Zf
 rn:Nat
 rk:CallKind
def Cut.whole:Cut:=⟨false,BU,[],[],0,false,λ_=>Ze,0,.normal⟩
def Cut.Full (K:Cut):Prop:=K.tail=[]/\K.fZ=[]/\K.dead=BU
def Cut.RL:Cut.whole.Full:=⟨rfl,rfl,rfl⟩
inductive TL (P:Zo)(K:Cut)(ρ:Ren):Item->Item->Prop
 |code {c:Code} (h:Bh P ρ.ok K.dead K.seg c=true):TL P K ρ (.code c) (.code c)
 |inBlock (id:Nat):TL P K ρ (.inBlock id) (.inBlock id)
 |inLoop {b:Code} (h:Bh P ρ.ok K.dead K.seg b=true):TL P K ρ (.inLoop b) (.inLoop b)
 |inScope {b:Code} (h:Bh P ρ.ok K.dead K.seg b=true):TL P K ρ (.inScope b) (.inScope b)
 |inRegion {ops:Array Oper} (is:List Nat) (h:Ux P ρ.ok K.dead ops=true):TL P K ρ (.inRegion ops is) (.inRegion ops is)
 |Np {l l':Nat} (h:ρ l=some l') (hs:K.seg=false):TL P K ρ (.inRangeFunc l) (.inRangeFunc l')
 |I3 {l l':Nat} (h:ρ l=some l') (hs:K.seg=false):TL P K ρ (.endRangeFunc l) (.endRangeFunc l')
 |beginRound (hs:K.seg=false):TL P K ρ .beginRound .beginRound
structure lN (ρ:Ren)(p p':zk):Prop where
 v:VR ρ p.v p'.v
 fresh:p.recovered=false/\p'.recovered=false/\p.goexit=false/\p'.goexit=false
inductive yQ (ρ:Ren):FrameMode->FrameMode->Prop
 |run:yQ ρ .run .run
 |returning:yQ ρ .returning .returning
 |panicking {c c':List zk} (h:Ep (lN ρ) c c'):yQ ρ (.panicking c) (.panicking c')
variable {K:Cut}
def TL.mono (a:ρ.le σ){i c:Item}(h:TL P K ρ i c):TL P K σ i c:=by
 cases h with
 |code h=>exact .code (by rw[a.2.1];exact h)
 |inBlock id=>exact .inBlock id
 |inLoop h=>exact .inLoop (by rw[a.2.1];exact h)
 |inScope h=>exact .inScope (by rw[a.2.1];exact h)
 |inRegion d h=>exact .inRegion d (by rw[a.2.1];exact h)
 |Np h b=>exact .Np (a.1 _ _ h) b
 |I3 h b=>exact .I3 (a.1 _ _ h) b
 |beginRound b=>exact .beginRound b
def lN.mono (a:ρ.le σ){p b:zk}(h:lN ρ p b):lN σ p b:=⟨h.v.mono a,h.fresh⟩
def yQ.mono {ρ b:Ren}(a:ρ.le b){m m':FrameMode}(h:yQ ρ m m'):yQ b m m':=by
 cases h with
 |run=>exact .run
 |returning=>exact .returning
 |panicking h=>exact .panicking (h.mono λ_ _=>lN.mono a)
structure Hp (P' P:Zo)(K:Cut)(ρ:Ren)(fr Bx:ZM):Prop where
 fn:Bx.fn=fr.fn
 src:K.seg=false->ρ.ok.Nc fr.fn=true/\ρ.sp fr.fn=false
 loud:(P'.funcs[fr.fn]?).any (·.norace)=false/\(P.funcs[fr.fn]?).any (·.norace)=false
 tmps:Pu K.dead ρ fr.tmps Bx.tmps
 todo:∃k,Bx.todo=k++K.tail/\Ep (TL P K ρ) fr.todo k
 defers:∃d,Bx.defers=d++K.fZ/\Ep (fM ρ) fr.defers d
 mode:yQ ρ fr.mode Bx.mode
 kind:fr.kind=.normal/\(Bx.kind=.normal\/(K.seg=true/\Bx.kind=.deferred))
 round:Rq ρ fr.roundOf Bx.roundOf
 part:K.seg=true->fr.roundOf=none/\fr.mode≠ .returning/\fr.defers=[]/\fr.fn=K.fn
 flat:K.flat=true->fr.roundOf=none/\fr.fn=K.fn
 Ar:K.seg=true->Bx.tmps.size=K.rn/\(∀i,K.dead i=true->Bx.tmps.getD i Ze=K.rv i)/\Bx.kind=K.rk
variable {c fr Bx KA:ZM}
def Hp.mono (a:ρ.le σ)(h:Hp P' P K ρ fr Bx):Hp P' P K σ fr Bx:=
 ⟨h.fn,by rw[a.2.1,a.2.2.2];exact h.src,h.loud,h.tmps.mono a,by obtain⟨k,c,b⟩:=h.todo;exact⟨k,c,b.mono λ_ _=>TL.mono a⟩,
  by obtain⟨k,c,b⟩:=h.defers;exact⟨k,c,b.mono λ_ _=>fM.mono a⟩,h.mode.mono a,h.kind,h.round.mono a,h.part,h.flat,h.Ar⟩
section
variable {P' P:Zo}{ρ:Ren}{K:Cut}
def Hp.nA (h:Hp P' P K ρ fr Bx)(a:K.seg=false):Bx.kind=.normal:=h.kind.2.resolve_right λx=>by rw[a]at x;cases x.1
def Hp.rI (h:Hp P' P K ρ fr Bx):fr.kind≠ .early:=by rw[h.kind.1];intro x;cases x
def Hp.ne2 (h:Hp P' P K ρ fr Bx):Bx.kind≠ .early:=by
 rcases h.kind.2 with x|⟨_,x⟩<;>(rw[x];intro y;cases y)
def Ep.RM {R:α->β->Prop}{m:List β}(h:Ep R [] m):m=[]:=by cases h;rfl
variable {dead:Nat->Bool}
variable {ops:Array Oper}
variable {l l' i n r r' N:Nat}
def OC {ok:Pk}(h:Ux P ok dead ops=true){o:Oper}(b:ops[i]?=some o):sL P ok dead o.op=true/\∀d,o.dst=some d->dead d=false:=by
 unfold Ux at h;rw[zS]at h;have:=h o (zY b);rw[ZF]at this;refine⟨this.1,λd c=>?_⟩;have a:=this.2;rw[c]at a;simpa using a
def Hp.finish {fr E:ZM}(h:Hp P' P K ρ fr E){v v':Zf}(O:VR ρ v v')(B:fr.todo≠ []):Hp P' P K ρ (fr.finish v) (E.finish v'):=by
 obtain⟨r,m,q,c,⟨k,I,H⟩,n,l,f,p,e,g,b⟩:=h;obtain⟨fn,u,todo,A,F,G,x⟩:=fr;obtain⟨U,w,T,R,Q,L,S⟩:=E;dsimp only at r m q c I H n l f p e g b B;subst I;cases H with
 |nil=>exact absurd rfl B
 |cons N s=>
  unfold Zdr;cases N with
  |code a=>exact⟨r,m,q,c,⟨_,rfl,.cons (.code a) s⟩,n,l,f,p,e,g,b⟩
  |inBlock id=>exact⟨r,m,q,c,⟨_,rfl,.cons (.inBlock id) s⟩,n,l,f,p,e,g,b⟩
  |inLoop a=>exact⟨r,m,q,c,⟨_,rfl,.cons (.inLoop a) s⟩,n,l,f,p,e,g,b⟩
  |inScope a=>exact⟨r,m,q,c,⟨_,rfl,.cons (.inScope a) s⟩,n,l,f,p,e,g,b⟩
  |inRegion M a=>
   cases M with
   |nil=>exact⟨r,m,q,c,⟨_,rfl,.cons (.inRegion [] a) s⟩,n,l,f,p,e,g,b⟩
   |cons i y=>
    rename_i ops;refine⟨r,m,q,?_,⟨_,rfl,.cons (.inRegion y a) s⟩,n,l,f,p,e,g,λt=>?_⟩
    .show Pu K.dead ρ (match(ops[i]?).bind (·.dst) with|some d=>u.setIfInBounds d v|none=>u) (match(ops[i]?).bind (·.dst) with|some d=>w.setIfInBounds d v'|none=>w)
     generalize (ops[i]?).bind (·.dst)=od;cases od with
     |none=>exact c
     |some d=>exact c.set O d
    .show(match(ops[i]?).bind (·.dst) with|some d=>w.setIfInBounds d v'|none=>w).size=_/\(∀j,_->(match(ops[i]?).bind (·.dst) with|some d=>w.setIfInBounds d v'|none=>w).getD j Ze=_)/\L=_
     have J:∀d,(ops[i]?).bind (·.dst)=some d->K.dead d=false:=by
      intro d z;cases C:ops[i]? with
      |none=>rw[C]at z;cases z
      |some o=>rw[C]at z;exact(OC a C).2 d z
     generalize (ops[i]?).bind (·.dst)=od at J;cases od with
     |none=>exact b t
     |some d=>
      refine⟨by simpa using(b t).1,λj D=>?_,(b t).2.2⟩;have B:d≠j:=by
       rintro rfl;rw[J d rfl]at D;cases D
      have:=(b t).2.1 j D;simp only[Yp,Zk B]at this⊢;exact this
  |Np a t=>exact⟨r,m,q,c,⟨_,rfl,.cons (.I3 a t) s⟩,n,l,f,p,e,g,b⟩
  |I3 a t=>exact⟨r,m,q,c,⟨_,rfl,.cons (.I3 a t) s⟩,n,l,f,p,e,g,b⟩
  |beginRound t=>exact⟨r,m,q,c,⟨_,rfl,s⟩,n,l,f,p,e,g,b⟩
def Hp.raise {fr q:ZM}(h:Hp P' P K ρ fr q){c c':List zk}(p:Ep (lN ρ) c c'):Hp P' P K ρ (fr.raise c) (q.raise c'):=by
 obtain⟨o,k,n,g,a,l,v,f,m,b,j,i⟩:=h;obtain⟨fn,s,r,e,t,u,d⟩:=fr;obtain⟨D,C,B,z,w,y,A⟩:=q;dsimp only at o k n g a l v f m b j i;unfold ZaV;cases v with
 |run=>exact⟨o,k,n,g,a,l,.panicking p,f,m,λh=>⟨(b h).1,λx=>x!,(b h).2.2⟩,j,i⟩
 |returning=>exact⟨o,k,n,g,a,l,.panicking p,f,m,λh=>⟨(b h).1,λx=>x!,(b h).2.2⟩,j,i⟩
 |panicking h=>exact⟨o,k,n,g,a,l,.panicking (p.append h),f,m,λh=>⟨(b h).1,λx=>x!,(b h).2.2⟩,j,i⟩
variable {f:ZaQ}
def D9 {Q:Zo}{fn:Func}(h:Q.funcs[f]?=some fn)(a:fn.norace=false):(Q.funcs[f]?).any (·.norace)=false:=by rw[h];exact a
def Hp.enter (E:Env P' P ρ){f:ZaQ}(b:ρ.ok.Nc f=true)(j:ρ.sp f=false){a a':Array Zf}(c:BS ρ a a'):Hp P' P .whole ρ (Zq P' f a .normal) (Zq P f a' .normal):=by
 obtain⟨fn,code,i,g,e,k,l,d⟩:=E.Nc.has f b j;unfold Zq;rw[i,g];refine⟨rfl,λ_=>⟨b,j⟩,⟨D9 i d,D9 g d⟩,?_,⟨[.code code],?_,?_⟩,⟨[],rfl,.nil⟩,.run,⟨rfl,.inl rfl⟩,trivial,λh=>h!,λh=>h!,λh=>h!⟩
 .rw[c.1];exact Pu.of (c.append (Bz.replicate _ (VR.undef ρ)))
 .simp[e,Cut.whole]
 simp only[Option.bind_some,e,Zw];exact .cons (.code k) .nil
variable {as:Code}
def Hp.sO (E:Env P' P ρ)(hl:ρ l=some l')(c:ρ.ok.Nc f=true/\ρ.sp f=false)(ht:BS ρ t t'){b:Code}(a:ρ.good as=true)(d:ρ.good b=true):
  Hp P' P .whole ρ (ZdR l f t as b .normal) (ZdR l' f t' as b .normal):=by
 obtain⟨fn,code,i,g,m,k,j,e⟩:=E.Nc.has f c.1 c.2;rw[E.good]at a d;exact⟨rfl,λ_=>c,⟨D9 i e,D9 g e⟩,.of ht,⟨_,(ZaA _).symm,.cons (.code a) (.cons (.beginRound rfl) (.cons (.code d) .nil))⟩,⟨[],rfl,.nil⟩,.run,⟨rfl,.inl rfl⟩,hl,λh=>h!,λh=>h!,λh=>h!⟩
def js (T:Twins P' P)(j:Base P ρ)(fn:Func)(ht:BS ρ t t'):Am P' P False VR ρ (results fn t) (results fn t'):=by
 unfold results;refine Ac (λσ a b=>BS σ a b) ?_ λσ a b _ c=>?_
 .rw[YW,YW]
  refine Ac _ (LV (ρ:=ρ) (R:=VR) (λ_ _ _ _ h=>VR.mono h) (λτ x e=>?_) _ ρ (Ren.le_refl _)) λσ a b _ c=>?_
  .cases x with
   |tmp i=>exact Ad (VR.getD (BS.mono e ht) (VR.undef _) i)
   |cell i ty=>
    exact Ac _ (Xu T (j.mono e) (VR.getD (BS.mono e ht) (VR.undef _) i)) λσ a b g c=>Uq T ty c
  .exact Ad (Bz.fL c)
 have:=c.1;by_cases f:a.size=1
 .have d:b.size=1:=by omega
  rw[dif_pos f,dif_pos d];exact Ad (c.2 0 _ _ (Zx o!) (Zx o!))
 have d:¬b.size=1:=o!
 rw[dif_neg f,dif_neg d];exact Ad (.tuple' c)
end
def XJ {Q:Zo}{fn:ZaQ}(h:(Q.funcs[fn]?).any (·.norace)=false)(c:∀e∈es,∀f,e.loc≠ .mark (.extern f)):seen Q fn es=es:=by
 unfold seen;dsimp only;rw[h, <-Zb0];have b:∀(l:List Z9) (a:Array Z9),(∀e∈l,∀f,e.loc≠ .mark (.extern f))->
   (l.foldl (fun(x:Bool×Array Z9) e=>match e.loc with
    | .mark (.extern f)=>((Q.funcs[f]?).any (·.norace),x.2)
    |_=>(x.1,if(x.1&& !e.sync)=true then x.2 else x.2.push e)) (false,a))=(false,a++l.toArray):=by
  intro l
  induction l with
  |nil=>intro a _;simp
  |cons e l g=>
   intro a d;rw[List.foldl_cons];have c:=d e i!;have:(match e.loc with
    | .mark (.extern f)=>((Q.funcs[f]?).any (·.norace),a)
    |_=>(false,if(false&& !e.sync)=true then a else a.push e))=(false,a.push e):=by
    split
    .exact absurd ‹_› (c _)
    simp
   rw[this,g _ λx i=>d x (by simp[i])];simp
 have:=b es.toList #[] (λe h=>c e (by simpa using h));exact(congrArg Prod.snd this).trans i!
def rF.plain (h:rF σ e e'):(∀f,e.loc≠ .mark (.extern f))/\∀f,e'.loc≠ .mark (.extern f):=by
 have a:=h.loc;generalize e.loc=l at a;generalize e'.loc=l' at a;cases a with
 |cell h=>exact⟨λf x=>x!,λf x=>x!⟩
 |obj h=>exact⟨λf x=>x!,λf x=>x!⟩
 |mark h=>cases h;exact⟨λf x=>x!,λf x=>x!⟩
 |output=>exact⟨λf x=>x!,λf x=>x!⟩
def Bz.left {R:α->β->Prop}{a:Array α}{b:Array β}(h:Bz R a b){x:α}(d:x∈a):∃y∈b,R x y:=by
 obtain⟨i,f,rfl⟩:=ZbL.1 d;obtain⟨y,c,e⟩:=h.get (Zx f);exact⟨y,zY c,e⟩
def Bz.right {R:α->β->Prop}{a:Array α}{b:Array β}(h:Bz R a b){y:β}(d:y∈b):∃x∈a,R x y:=by
 obtain⟨i,c,rfl⟩:=ZbL.1 d;have e:i<a.size:=by rw[h.1];exact c
 exact⟨a[i],i!,h.2 i _ _ (Zx e) (Zx c)⟩
structure FL (ρ σ:Ren)(w w₁ w' w₁':Zb)(d d':Array Z9):Prop where
 le:ρ.le σ
 world:WR σ w₁ w₁'
 evs:Bz (rF σ) d d'
 Fw:JC False ρ σ w w₁ w' w₁' d
def FL.refl (h:WR ρ w w'):FL ρ ρ w w w' w' #[] #[]:=⟨Ren.le_refl _,h,Bz.nil,JC.refl _ _ _ _⟩
def FL.trans {e a:Array Z9}(h:FL ρ τ w w₁ w' w₁' d e)(k:FL τ σ w₁ w₂ w₁' CG Hf a):FL ρ σ w w₂ w' CG (d++Hf) (e++a):=
 ⟨Ren.le_trans h.le k.le,k.world,(Bz.mono h.evs λ_ _=>rF.mono k.le).append k.evs,h.Fw.trans k.Fw k.le⟩
def FL.B1 {Q:Zo}{fn:ZaQ}(h:(Q.funcs[fn]?).any (·.norace)=false)(k:FL ρ σ w w₁ w' w₁' d d'):seen Q fn d=d:=
 XJ h λ_ b=>by obtain⟨y,_,a⟩:=k.evs.left b;exact a.plain.1
def FL.D_ {Q:Zo}{fn:ZaQ}(h:(Q.funcs[fn]?).any (·.norace)=false)(k:FL ρ σ w w₁ w' w₁' d d'):seen Q fn d'=d':=
 XJ h λ_ b=>by obtain⟨y,_,a⟩:=k.evs.right b;exact a.plain.2
section
variable {P' P:Zo}{ρ:Ren}{K:Cut}{α β:Type}{Q:Ren->α->β->Prop}
def DC.lock {s:Sem α}{s':Sem β}(h:DC P' P False Q ρ s s')(p:Ii ρ w w'):
  (∃x u f,s.runT P' w #[]=(.halt x u,f)/\GY x)\/
  (∃σ a b w₁ w₁' d d',s.runT P' w #[]=(.ok a w₁,d)/\s'.runT P w' #[]=(.ok b w₁',d')/\Q σ a b/\FL ρ σ w w₁ w' w₁' d d'/\iY P' s w #[] (.ok a w₁) d)\/
  (∃σ v v' w₁ w₁' d d',s.runT P' w #[]=(.halt (.panic v) w₁,d)/\s'.runT P w' #[]=(.halt (.panic v') w₁',d')/\VR σ v v'/\FL ρ σ w w₁ w' w₁' d d'/\iY P' s w #[] (.halt (.panic v) w₁) d):=by
 rcases t:s.runT P' w #[]with⟨r,f⟩;by_cases g:mS r
 .obtain⟨x,u,rfl,o⟩:=g
  exact .inl ⟨x,u,f,rfl,o⟩
 obtain⟨σ,n,d,d',m,B,A,z,l,k,j,i⟩:=h w w' p #[] #[] r f t g;have e:f=d:=by simpa using B
 have c:s'.runT P w' #[]=(n,d'):=by simpa using A
 subst e;cases z with
 |ok y=>exact .inr (.inl ⟨σ,_,_,_,_,f,d',rfl,c,y,⟨m,l,k,j⟩,i⟩)
 |panic q=>exact .inr (.inr ⟨σ,_,_,_,_,f,d',rfl,c,q,⟨m,l,k,j⟩,i⟩)
def Am.lock {s:Sem α}{s':Sem β}(h:Am P' P False Q ρ s s')(c:Ii ρ w w'):
  (∃x u f,s.runT P' w #[]=(.halt x u,f)/\GY x)\/
  (∃σ a b w₁ w₁' d d',s.runT P' w #[]=(.ok a w₁,d)/\s'.runT P w' #[]=(.ok b w₁',d')/\Q σ a b/\FL ρ σ w w₁ w' w₁' d d'/\iY P' s w #[] (.ok a w₁) d)\/
  (∃σ v v' w₁ w₁' d d',s.runT P' w #[]=(.halt (.panic v) w₁,d)/\s'.runT P w' #[]=(.halt (.panic v') w₁',d')/\VR σ v v'/\FL ρ σ w w₁ w' w₁' d d'/\iY P' s w #[] (.halt (.panic v) w₁) d):=h.ok.lock c
def nC (F:Zb->GStep)(w:Zb)(a:Zi)(w₁:Zb)(es:Array Z9):Prop:=
 ∀t:Tape,(∀i,w.drawn<=i->i<w₁.drawn->t i=w.tape i)->F {w with tape:=t}=.go a {w₁ with tape:=t} es
def AU (fr:ZM)(cs:List ZM):Zi:= {frame:=fr,callers:=cs,status:=.running,dying:=none}
inductive Out (P' P:Zo)(K:Cut)(σ:Ren)(cs cs':List ZM):Zi->Zi->Prop
 |stay {f f':ZM} (h:Hp P' P K σ f f'):Out P' P K σ cs cs' (AU f cs) (AU f' cs')
 |push {b b' f f':ZM} (hb:Hp P' P .whole σ b b') (h:Hp P' P K σ f f') (BL:f.todo≠ []):Out P' P K σ cs cs' (AU b (f::cs)) (AU b' (f'::cs'))
 |pop {v v':Zf} {c c':ZM} {r r':List ZM} (hs:K.seg=false) (hv:VR σ v v') (h:cs=c::r) (h':cs'=c'::r'):Out P' P K σ cs cs' (AU (c.finish v) r) (AU (c'.finish v') r')
 |VG {f:ZaQ} {a a':Array Zf} {b b':ZM} (hf:σ.ok.dir f a.size=true) (hs:σ.sp f=true) (ha:BS σ a a') (h:Hp P' P K σ b b') (BL:b.todo≠ []):
   Out P' P K σ cs cs' (AU (Zq P' f a .normal) (b::cs)) (AU (Zq P f a' .normal) (b'::cs'))
 |raise {x x':List zk} {c c':ZM} {r r':List ZM} (hs:K.seg=false) (hx:Ep (lN σ) x x') (h:cs=c::r) (h':cs'=c'::r'):Out P' P K σ cs cs' (AU (c.raise x) r) (AU (c'.raise x') r')
section
variable {R:Zo}{fr:ZM}{cs:List ZM}{s:Sem Next}{w w₁:Zb}{d:Array Z9}
def KC (a:fr.kind≠ .early)(h:s.runT R w #[]=(.ok (.value v) w₁,d)):stepG.apply R true fr cs none s w=.go (AU (fr.finish v) cs) w₁ (seen R fr.fn d):=by
 have k1:(fr.kind==ZaL)=false:=by simpa using a
 unfold stepG.apply;simp only[h,k1,zM,AU,if_true];simp
def Mn (a:fr.kind≠ .early)(h:s.runT R w #[]=(.ok .skip w₁,d)):stepG.apply R true fr cs none s w=.go (AU (fr.finish Ze) cs) w₁ (seen R fr.fn d):=by
 have k1:(fr.kind==ZaL)=false:=by simpa using a
 unfold stepG.apply;simp only[h,k1,zM,AU,if_true];simp
variable {f:ZaQ}
def KD (b:fr.kind≠ .early)(c:∀d r s k,fr.todo≠ .call d true r s::k)(h:s.runT R w #[]=(.ok (.enter f a) w₁,d)):
  stepG.apply R true fr cs none s w=.go (AU (Zq R f a .normal) (fr::cs)) w₁ (seen R fr.fn d):=by
 have k1:(fr.kind==ZaL)=false:=by simpa using b
 unfold stepG.apply;simp only[h,k1,zM,AU,if_true,Bool.false_eq_true,if_false];simp
variable {l l' i n r r' N:Nat}
variable {as:Code}
def KE {b:Code}(a:fr.kind≠ .early)(h:s.runT R w #[]=(.ok (.round l f t as b) w₁,d)):
  stepG.apply R true fr cs none s w=.go (AU (ZdR l f t as b .normal) (fr::cs)) w₁ (seen R fr.fn d):=by
 have k1:(fr.kind==ZaL)=false:=by simpa using a
 unfold stepG.apply;simp only[h,k1,zM,AU,if_true];simp
def KF (a:fr.kind≠ .early)(h:s.runT R w #[]=(.halt (.panic v) w₁,d)):stepG.apply R true fr cs none s w=.go (AU (fr.raise [{v,recovered:=false}]) cs) w₁ (seen R fr.fn d):=by
 have k1:(fr.kind==ZaL)=false:=by simpa using a
 unfold stepG.apply;simp only[h,k1,zM,AU,if_true];simp
def dc {x:Halt}(h:s.runT R w #[]=(.halt x w₁,d))(a:GY x):∃o u e,stepG.apply R true fr cs none s w=.ended o u e:=by
 unfold stepG.apply;simp only[h,if_true];cases x with
 |stuck s=>exact⟨_,_,_,rfl⟩
 |unsupported u=>cases u<;>first|exact a.elim|exact⟨_,_,_,rfl⟩
 |_=>exact a.elim
end
def Hp.yR (h:Hp P' P K ρ fr Bx)(b:fr.todo≠ []):(∀d r s k,fr.todo≠ .call d true r s::k)/\∀d r s k,Bx.todo≠ .call d true r s::k:=by
 obtain⟨k,e,a⟩:=h.todo;rw[e];generalize fr.todo=l at a b;cases a with
 |nil=>exact absurd rfl b
 |cons c f=>cases c<;>exact⟨λ_ _ _ _ x=>x!,λ_ _ _ _ x=>x!⟩
variable {cs cs' L L' I4:List ZM}
def OD (E:Env P' P ρ)(hF:Hp P' P K ρ fr Bx)(j:fr.todo≠ []){s s':Sem Next}(k:DC P' P False cH ρ s s')(J:Ii ρ w w')
 (h:∀o u e,stepG.apply P' true fr cs none s w≠ .ended o u e):
  ∃C w₁ es,stepG.apply P' true fr cs none s w=.go C w₁ es/\∃σ w₁' F G,FL ρ σ w w₁ w' w₁' es G/\stepG.apply P true Bx cs' none s' w'=.go F w₁' G/\Out P' P K σ cs cs' C F/\nC (stepG.apply P' true fr cs none s) w C w₁ es:=by
 have D:(P.funcs[Bx.fn]?).any (·.norace)=false:=by rw[hF.fn];exact hF.loud.2
 have y:=hF.yR j;rcases k.lock J with⟨x,u,f,M,I⟩|⟨σ,a,b,w₂,CG,d,d',n,m,N,L,l⟩|⟨σ,v,v',w₂,CG,d,d',n,m,z,L,l⟩
 .obtain⟨o,u,e,Q⟩:=dc (fr:=fr) (cs:=cs) M I
  exact(h _ _ _ Q).elim
 .have q:=E.mono L.le
  have p:=hF.mono L.le;have i:=L.B1 hF.loud.1;have r:=L.D_ D;cases N with
  |value z=>
   exact⟨_,_,_,by rw[KC hF.rI n,i],σ,CG,_,_,L,by rw[KC hF.ne2 m,r],.stay (p.finish z j),λt c=>by rw[KC hF.rI (l t c),i]⟩
  |skip=>
   exact⟨_,_,_,by rw[Mn hF.rI n,i],σ,CG,_,_,L,by rw[Mn hF.ne2 m,r],.stay (p.finish (VR.undef _) j),λt c=>by rw[Mn hF.rI (l t c),i]⟩
  | @enter f a a' g B=>
   refine⟨_,_,_,by rw[KD hF.rI y.1 n,i],σ,CG,_,_,L,by rw[KD hF.ne2 y.2 m,r],?_,λt c=>by rw[KD hF.rI y.1 (l t c),i]⟩;rcases g with g|g
   .exact .push (Hp.enter q (q.Nc.val f g).1 (q.Nc.val f g).2 B) p j
   .rcases q.Nc.dir f _ g with k|k
    .exact .push (Hp.enter q k.1 k.2 B) p j
    .exact .VG g k B p j
  |round O g c A R=>
   exact⟨_,_,_,by rw[KE hF.rI n,i],σ,CG,_,_,L,by rw[KE hF.ne2 m,r],.push (Hp.sO q O g c A R) p j,λt H=>by rw[KE hF.rI (l t H),i]⟩
 exact⟨_,_,_,by rw[KF hF.rI n,L.B1 hF.loud.1],σ,CG,_,_,L,by rw[KF hF.ne2 m,L.D_ D],.stay ((hF.mono L.le).raise (.cons ⟨z,rfl,rfl,rfl,rfl⟩ .nil)),λt c=>by rw[KF hF.rI (l t c),L.B1 hF.loud.1]⟩
end
section
variable {Q:Zo}{fr:ZM}{cs:List ZM}{w w₁:Zb}{d:Array Z9}{m:Bool}
inductive EN:List Item->List Item->Prop
 |skip {k:List Item}:EN (.code .skip::k) k
 |inBlock {id:Nat} {k:List Item}:EN (.inBlock id::k) k
 |label {l:Nat} {k:List Item}:EN (.code (.label l)::k) k
 |inScope {b:Code} {k:List Item}:EN (.inScope b::k) k
 |scope {b:Code} {k:List Item}:EN (.code (.scope b)::k) (.code b:: .inScope b::k)
 |seq {a b:Code} {k:List Item}:EN (.code (.seq a b)::k) (.code a:: .code b::k)
 |block {id:Nat} {b:Code} {k:List Item}:EN (.code (.block id b)::k) (.code b:: .inBlock id::k)
 |loop {b:Code} {k:List Item}:EN (.code (.loop b)::k) (.code b:: .inLoop b::k)
 |inLoop {b:Code} {k:List Item}:EN (.inLoop b::k) (.code b:: .inLoop b::k)
 |exit {id:Nat} {k k':List Item} (h:Zbu id k=some k'):EN (.code (.exit id)::k) k'
 |RP {ops:Array Oper} {k:List Item}:EN (.inRegion ops []::k) k
 |region {id:Nat} {ops:Array Oper} {k:List Item}:EN (.code (.region id ops false)::k) (.inRegion ops (Yr ops.size)::k)
def Pw {t:List Item}(h:EN fr.todo t):stepG.exec Q m true fr cs none w=.go (AU {fr with todo:=t} cs) w #[]:=by
 unfold stepG.exec;generalize b:fr.todo=l at h;cases h with
 |exit a=>simp[-zh,AU,a]
 |_=>simp[-zh,AU]
variable {k:List Item}
def UA {c:Zbv}{a b:Code}{v:Bool}(ht:fr.todo=.code (.cond c a b)::k)(d:fr.eval c=.bool v):
  stepG.exec Q m true fr cs none w=.go (AU {fr with todo:=.code (if v then a else b)::k} cs) w #[]:=by
 unfold stepG.exec;simp[-zh,ht,d,AU]
def RQ {c:Zbv}{a b:Code}(ht:fr.todo=.code (.cond c a b)::k)(d:∀v,fr.eval c≠ .bool v):∃o u e,stepG.exec Q m true fr cs none w=.ended o u e:=by
 unfold stepG.exec;simp only[ht];exact⟨_,_,_,rfl⟩
inductive Leaves:List Item->Option Code->Prop
 |done:Leaves [] none
 |ret {k:List Item}:Leaves (.code .ret::k) (some .ret)
 |exit {id:Nat} {k:List Item} (h:Zbu id k=none):Leaves (.code (.exit id)::k) (some (.exit id))
variable {j:Option Code}
variable {l l' i n r r' N:Nat}
def FM {r:List ZM}(b:fr.kind=.normal)(hl:Leaves fr.todo j)(a:fr.roundOf=some l)(e:(ZaU l j).runT Q w #[]=(.ok v w₁,d)):
  stepG.exec Q m true fr (c::r) none w=.go (AU (c.finish v) r) w₁ (seen Q fr.fn d):=by
 unfold stepG.exec;generalize g:fr.todo=l at hl;cases hl with
 |exit f=>simp[-zh,AU,f,a,e,zM,doReturn,b]
 |_=>simp[-zh,AU,a,e,zM,doReturn,b]
def J9 {x:Halt}(hl:Leaves fr.todo j)(a:fr.roundOf=some l)(b:(ZaU l j).runT Q w #[]=(.halt x w₁,d)):
  ∃o u e,stepG.exec Q m true fr cs none w=.ended o u e:=by
 unfold stepG.exec;generalize f:fr.todo=l at hl;cases hl with
 |exit c=>simp[-zh,c,a,b,zM]
 |_=>simp[-zh,a,b,zM]
def GG (hl:Leaves fr.todo j)(a:fr.roundOf=none)(b:j=none\/j=some .ret):stepG.exec Q m true fr cs none w=.go (AU {fr with mode:=.returning} cs) w #[]:=by
 unfold stepG.exec;generalize d:fr.todo=l at hl;cases hl with
 |exit c=>rcases b with h|h<;>cases h
 |_=>simp[-zh,AU,a]
def J_ {id:Nat}(hl:Leaves fr.todo (some (.exit id)))(b:fr.roundOf=none):∃o u e,stepG.exec Q m true fr cs none w=.ended o u e:=by
 unfold stepG.exec;generalize c:fr.todo=l at hl;cases hl with
 |exit a=>simp[-zh,a,b]
variable {ops:Array Oper}
def OE {id:Nat}{t:Nat}(ht:fr.todo=.code (.region id ops true)::k)(b:(choose (.order fr.fn id)).runT Q w #[]=(.ok t w₁,d)):
  stepG.exec Q m true fr cs none w=.go (AU {fr with todo:=.inRegion ops (Region.schedule (Q.follows .mixedOrders) ops t)::k} cs) w₁ #[]:=by
 have a:(choose (.order fr.fn id)).run Q w=.ok t w₁:=by
  have:=congrArg Prod.fst b;simpa[Sem.run]using this
 unfold stepG.exec;simp[-zh,ht,a,AU]
def VH {b:List Nat}{o:Oper}(ht:fr.todo=.inRegion ops (i::b)::k)(a:ops[i]?=some o)(d:Yf o (yielded ops fr.tmps)=true)(e:∀c,o.op≠ .defer c):
  stepG.exec Q m true fr cs none w=stepG.apply Q true fr cs none (Zby fr.eval o) w:=by
 unfold stepG.exec;simp only[ht,a,d,Zdh,Zw,if_true];unfold stepG.oper Frame.oper?;simp only[ht,a];split
 .exact absurd ‹_› (e _)
 rfl
def F9 {a:List Nat}(ht:fr.todo=.inRegion ops (i::a)::k)(b:((ops[i]?).map (Yf · (yielded ops fr.tmps))).getD false=false):
  stepG.exec Q m true fr cs none w=.go (AU (fr.finish Ze) cs) w #[]:=by
 unfold stepG.exec;simp[-zh,ht,b,AU]
def Mo (ht:fr.todo=.beginRound::k):
  stepG.exec Q m true fr cs none w=stepG.apply Q true fr cs none (do fr.roundOf.elim (stuck "beginRound: no round") ZaC;pure .skip) w:=by
 unfold stepG.exec;simp only[ht]
def IB (ht:fr.todo=.endRangeFunc l::k)(a:(ZaD l).runT Q w #[]=(.ok j w₁,d)):
  stepG.exec Q m true fr cs none w=.go (AU {fr with todo:=(j.map Item.code).toList++k} cs) w₁ (seen Q fr.fn d):=by
 unfold stepG.exec;simp[-zh,ht,a,AU,zM]
def Er (ht:fr.todo=.endRangeFunc l::k)(a:(ZaD l).runT Q w #[]=(.halt (.panic v) w₁,d)):
  stepG.exec Q m true fr cs none w=.go (AU (fr.raise [{v,recovered:=false}]) cs) w₁ (seen Q fr.fn d):=by
 unfold stepG.exec;simp[-zh,ht,a,AU,zM]
def Mp {x:Halt}(ht:fr.todo=.endRangeFunc l::k)(b:(ZaD l).runT Q w #[]=(.halt x w₁,d))(a:GY x):
  ∃o u e,stepG.exec Q m true fr cs none w=.ended o u e:=by
 unfold stepG.exec;cases x<;>first|exact a.elim|simp[-zh,ht,b,zM]
def VI (ht:fr.todo=.inRangeFunc l::k):∃o u e,stepG.exec Q m true fr cs none w=.ended o u e:=by
 unfold stepG.exec;simp[-zh,ht]
def rangeCall (f:Zbv)(l:Nat):Call:= {callee:=.value f,args:= #[.const (.func (.yield l) #[] #[])],argTypes:= #[]}
variable {ps:Array Tmp}
def JI {f:Zbv}{a b:Code}{mk:List Deferred}(ht:fr.todo=.code (.rangeFunc f ps a b)::k)
 (c:(Zad fr.fn fr.tmps ps a b fr.roundOf).runT Q w #[]=(.ok (l,mk) w₁,d)):
  stepG.exec Q m true fr cs none w=zM (seen Q fr.fn d) (stepG.apply Q true {fr with todo:=.inRangeFunc l::k,defers:=mk++fr.defers} cs none
   (do let d <-Zbh fr.eval (rangeCall f l) 0;invoke d.target d.args) w₁):=by
 unfold stepG.exec;simp only[ht,c]
 rfl
def J' {f:Zbv}{a b:Code}{x:Halt}(ht:fr.todo=.code (.rangeFunc f ps a b)::k)
 (c:(Zad fr.fn fr.tmps ps a b fr.roundOf).runT Q w #[]=(.halt x w₁,d)):∃o u e,stepG.exec Q m true fr cs none w=.ended o u e:=by
 unfold stepG.exec;simp[-zh,ht,c,zM]
variable {ds:List Deferred}
def El {b:Nat}{c:List Deferred}(ht:fr.defers= {target:=.collected b,args:=a}::ds)(e:(Yw b).runT Q w #[]=(.ok c w₁,d)):
  unwind Q m fr cs none w=.go (AU {fr with defers:=c++ds} cs) w₁ (seen Q fr.fn d):=by
 unfold unwind;simp[-zh,ht,e,zM,AU]
def DY {b:Nat}{x:Halt}(ht:fr.defers= {target:=.collected b,args:=a}::ds)(c:(Yw b).runT Q w #[]=(.halt x w₁,d)):
  ∃o u e,unwind Q m fr cs none w=.ended o u e:=by
 unfold unwind;simp[-zh,ht,c,zM]
def DV {fn:Func}{r:List ZM}(ht:fr.defers=[])(a:fr.mode=.returning)(b:fr.kind=.normal)(e:Q.funcs[fr.fn]?=some fn)(f:(results fn fr.tmps).runT Q w #[]=(.ok v w₁,d)):
  unwind Q m fr (c::r) none w=.go (AU (c.finish v) r) w₁ (seen Q fr.fn d):=by
 unfold unwind;simp[-zh,ht,a,e,f,zM,AU,doReturn,b]
def Hr {fn:Func}{x:Halt}(ht:fr.defers=[])(a:fr.mode=.returning)(b:Q.funcs[fr.fn]?=some fn)(c:(results fn fr.tmps).runT Q w #[]=(.halt x w₁,d)):
  ∃o u e,unwind Q m fr cs none w=.ended o u e:=by
 unfold unwind;simp only[ht,a,b,c];split<;>simp_all[zM]
def VJ {ch:List zk}{r:List ZM}(ht:fr.defers=[])(a:fr.mode=.panicking ch):(∀w,∃o u e,unwind Q m fr (c::r) none w=.ended o u e)\/∀w,unwind Q m fr (c::r) none w=.go (AU (c.raise ch) r) w #[]:=by
 unfold unwind;simp only[ht,a];split
 .exact .inl λ_=>⟨_,_,_,rfl⟩
 exact .inr λ_=>rfl
def C4 {ch:List zk}{r:List ZM}{fn:Func}(ht:fr.defers=[])(a:fr.mode=.panicking ch)(b:Q.funcs[fr.fn]?=some fn):unwind Q m fr (c::r) none w=.go (AU (c.raise ch) r) w #[]:=by
 unfold unwind Frame.catches;simp[-zh,ht,a,b,AU]
end
section
variable {P' P:Zo}{ρ:Ren}{K:Cut}
variable {k:List Item}
def Hp.Uz (h:Hp P' P K ρ fr Bx){l:List Item}(hl:Ep (TL P K ρ) l k):Hp P' P K ρ {fr with todo:=l} {Bx with todo:=k++K.tail}:=
 ⟨h.fn,h.src,h.loud,h.tmps,⟨k,rfl,hl⟩,h.defers,h.mode,h.kind,h.round,h.part,h.flat,h.Ar⟩
variable {j:Option Code}
def Leaves.kinds {l:List Item}(h:Leaves l j):j=none\/j=some .ret\/∃id,j=some (.exit id):=by
 cases h with
 |done=>exact .inl rfl
 |ret=>exact .inr (.inl rfl)
 |exit h=>exact .inr (.inr ⟨_,rfl⟩)
def de {id:Nat}{l:List Item}(h:Ep (TL P K ρ) l k)(t:List Item):(Zbu id l=none)\/∃l' k',Zbu id l=some l'/\Zbu id (k++t)=some (k'++t)/\Ep (TL P K ρ) l' k':=by
 induction h with
 |nil=>exact .inl rfl
 | @cons x y l k f g d=>
  cases f with
  |inBlock i=>
   rw[Za1];unfold Zbu;by_cases e:(i==id)=true
   .simp only[e,if_true]
    exact .inr ⟨l,k,rfl,rfl,g⟩
   .simp only[e]
    rcases d with h|⟨l',k',c,b,a⟩
    .exact .inl h
    .exact .inr ⟨l',k',c,b,a⟩
  |_=>
   rw[Za1];unfold Zbu;rcases d with h|⟨l',k',c,b,a⟩
   .exact .inl h
   exact .inr ⟨l',k',c,b,a⟩
def XK {id:Nat}{l:List Item}(h:Ep (TL P K ρ) l k)(a:Zbu id l=none):Zbu id k=none:=by
 induction h with
 |nil=>rfl
 | @cons x y l k c d b=>
  cases c with
  |inBlock i=>
   unfold Zbu at a⊢;by_cases e:(i==id)=true
   .simp only[e,if_true]at a;cases a
   .simp only[e]at a⊢
    exact b a
  |_=>
   unfold Zbu at a⊢;exact b a
variable {dead:Nat->Bool}
variable {ops:Array Oper}
def XL {ok:Pk}(f:Ux P ok dead ops=true)(h:Pu dead ρ t t'):yielded ops t=yielded ops t':=by
 funext j
 unfold yielded;cases g:ops[j]? with
 |none=>rfl
 |some o=>
  cases b:o.dst with
  |none=>simp[b]
  |some d=>
   have k:=(OC f g).2 d b;simp only[Option.bind_some,b];cases a:t[d]? with
   |none=>
    have:t'[d]?=none:=by rw[ZaW]at*;rw[<-h.size];exact a
    rw[this]
   |some x=>
    obtain⟨i,_⟩:=Za.1 a;have c:d<t'.size:=h.size▸i;rw[Zx c];have:=h.at_ d _ _ k a (Zx c);generalize t'[d]=y at this;cases this<;>first|rfl|(rename_i e;cases y<;>first|(cases e;done)|rfl)
def aei (P' P:Zo)(K:Cut)(ρ:Ren)(cs cs':List ZM)(w w':Zb)(c:Zi)(w₁:Zb)(es:Array Z9)(F:Zb->GStep)(s:GStep):Prop:=
 ∃σ w₁' a b,FL ρ σ w w₁ w' w₁' es b/\s=.go a w₁' b/\Out P' P K σ cs cs' c a/\nC F w c w₁ es
def Does (P' P:Zo)(K:Cut)(ρ:Ren)(cs cs':List ZM)(w w':Zb)(F:Zb->GStep)(s:GStep):Prop:=
 ∃a w₁ es,F w=.go a w₁ es/\aei P' P K ρ cs cs' w w' a w₁ es F s
variable {cs cs' L L' I4:List ZM}
def Fh {f a:ZM}(b:Ii ρ w w'){F:Zb->GStep}{s':GStep}(hl:∀w,F w=.go (AU f cs) w #[])(c:s'=.go (AU a cs') w' #[])(hF:Hp P' P K ρ f a):
  Does P' P K ρ cs cs' w w' F s':=by
 exact⟨_,_,_,hl w,ρ,w',_,_,FL.refl b.wr,c,.stay hF,λt _=>hl _⟩
def nD (T:Twins P' P)(E:Env P' P ρ)(hd:BP<=P.depth)(hK:K.seg=false->K.Full)(hF:Hp P' P K ρ fr Bx)(b9:fr.mode=.run)
 (Bt:K.seg=true->fr.todo≠ []) (bU:cs≠ []) (KG:cs'≠ []\/fr.roundOf=none) (J:Ii ρ w w') {m m':Bool} (h:∀o u e,stepG.exec P' m true fr cs none w≠ .ended o u e):Does P' P K ρ cs cs' w w' (stepG.exec P' m true fr cs none) (stepG.exec P m' true Bx cs' none w'):=by
 have n2:(P.funcs[Bx.fn]?).any (·.norace)=false:=by rw[hF.fn];exact hF.loud.2
 obtain⟨k,hk,hl⟩:=hF.todo;have G:∀(j:Option Code),K.seg=false->Leaves fr.todo j->Leaves Bx.todo j->(∀c,j=some c->ρ.good c=true)->Does P' P K ρ cs cs' w w' (stepG.exec P' m true fr cs none) (stepG.exec P m' true Bx cs' none w'):=by
  intro j Kg O h2 hj;have I:=hF.round;cases e:fr.roundOf with
  |none=>
   have e':Bx.roundOf=none:=by rw[e]at I;cases e':Bx.roundOf with
    |none=>rfl
    |some x=>rw[e']at I;exact I.elim
   by_cases nE:j=none\/j=some .ret
   .refine Fh J (λ_=>GG O e nE) (GG h2 e' nE) ?_
    exact⟨hF.fn,hF.src,hF.loud,hF.tmps,hF.todo,hF.defers,.returning,hF.kind,hF.round,λx=>(by rw[Kg]at x;cases x),hF.flat,hF.Ar⟩
   .exfalso
    rcases O.kinds with hj|hj|⟨id,hj⟩
    .exact nE (.inl hj)
    .exact nE (.inr hj)
    .subst hj
     obtain⟨o,u,H,B⟩:=J_ (Q:=P') (cs:=cs) (w:=w) (m:=m) O e;exact(h _ _ _ B).elim
  |some l=>
   obtain⟨l',e',Xc⟩:∃l',Bx.roundOf=some l'/\ρ l=some l':=by
    rw[e]at I;cases e':Bx.roundOf with
    |none=>rw[e']at I;exact I.elim
    |some x=>rw[e']at I;exact⟨x,rfl,I⟩
   obtain⟨c,r,rfl⟩:=Zam bU;obtain⟨c',r',rfl⟩:=Zam (KG.resolve_right (by rw[e];intro x;cases x));rcases(db (P':=P') (P:=P) (fz:=False) Xc j hj).lock J with⟨x,u,f,N,X⟩|⟨σ,a,b,w₂,CG,d,d',A,H,hq,L,z⟩|⟨σ,v,v',w₂,CG,d,d',A,H,S,L,z⟩
   .obtain⟨o,u2,e3,B⟩:=J9 (cs:=c::r) (m:=m) O e N
    exact(h _ _ _ B).elim
   .exact⟨_,_,_,by rw[FM hF.kind.1 O e A,L.B1 hF.loud.1],σ,CG,_,_,L,by rw[FM (hF.nA Kg) h2 e' H,L.D_ n2],.pop Kg hq rfl rfl,λt R=>by rw[FM hF.kind.1 O e (z t R),L.B1 hF.loud.1]⟩
   obtain⟨o,u2,e3,B⟩:=J9 (cs:=c::r) (m:=m) O e A;exact(h _ _ _ B).elim
 have g:∀(t k':List Item),EN fr.todo t->EN Bx.todo (k'++K.tail)->Ep (TL P K ρ) t k'->Does P' P K ρ cs cs' w w' (stepG.exec P' m true fr cs none) (stepG.exec P m' true Bx cs' none w'):=λt k' O h2 n=>
  Fh J (λ_=>Pw O) (Pw h2) (hF.Uz n)
 cases n:fr.todo with
 |nil=>
  have Kg:K.seg=false:=by
   cases C:K.seg with
   |false=>rfl
   |true=>exact absurd n (Bt C)
  rw[n]at hl;cases hl;refine G none Kg (by rw[n];exact .done) ?_ (λc x=>x!);rw[hk,(hK Kg).1];exact .done
 |cons x l=>
  rw[n]at hl;cases hl with
  | @cons _ y _ D X F=>
   have s:Bx.todo=y::(D++K.tail):=hk;cases X with
   |inBlock id=>exact g l D (by rw[n];exact .inBlock) (by rw[s];exact .inBlock) F
   | @inLoop b W=>exact g _ (.code b:: .inLoop b::D) (by rw[n];exact .inLoop) (by rw[s];exact .inLoop) (.cons (.code W) (.cons (.inLoop W) F))
   |inScope W=>exact g l D (by rw[n];exact .inScope) (by rw[s];exact .inScope) F
   | @inRegion ops is ho=>
    cases is with
    |nil=>exact g l D (by rw[n];exact .RP) (by rw[s];exact .RP) F
    |cons i is=>
     have hy:=XL ho hF.tmps;cases Y:ops[i]? with
     |none=>
      refine Fh J (λ_=>F9 n (by rw[Y];rfl)) (F9 s (by rw[Y];rfl)) (hF.finish (VR.undef _) (by rw[n];intro x;cases x))
     |some o=>
      obtain⟨rJ,nF⟩:=OC ho Y;cases M:Yf o (yielded ops fr.tmps) with
      |false=>
       exact Fh J (λ_=>F9 n (by rw[Y];simpa using M)) (F9 s (by rw[Y, <-hy];simpa using M)) (hF.finish (VR.undef _) (by rw[n];intro x;cases x))
      |true=>
       have ac:∀c,o.op≠ .defer c:=by
        intro c z;rw[z]at rJ;cases rJ
       have G9:stepG.exec P' m true fr cs none=stepG.apply P' true fr cs none (Zby fr.eval o):=funext λw=>VH n Y M ac;rw[VH n Y M ac]at h;rw[VH s Y (by rw[<-hy];exact M) ac,G9];exact OD E hF (by rw[n];intro x;cases x) (nz T E.base E.Nc.same hd hF.tmps rJ) J h
   |Np Ka C=>
    obtain⟨o,u,e,B⟩:=VI (Q:=P') (cs:=cs) (w:=w) (m:=m) n;exact(h _ _ _ B).elim
   | @I3 lo be Ka C=>
    rcases(jl T (fz:=False) E.base Ka).lock J with⟨x,u,f,N,X⟩|⟨σ,a,b,w₂,CG,d,d',A,H,⟨rfl,hq⟩,L,z⟩|⟨σ,v,v',w₂,CG,d,d',A,H,S,L,z⟩
    .obtain⟨o,u2,e3,B⟩:=Mp (cs:=cs) (m:=m) n N X
     exact(h _ _ _ B).elim
    .refine⟨_,_,_,by rw[IB n A,L.B1 hF.loud.1],σ,CG,_,_,L,by rw[IB s H,L.D_ n2],.stay ?_,λt R=>by rw[IB n (z t R),L.B1 hF.loud.1]⟩
     rw[<-Zae];refine(hF.mono L.le).Uz (Ep.append ?_ (F.mono λ_ _=>TL.mono L.le));cases a with
     |none=>exact .nil
     |some c=>
      have:=hq c rfl;rw[(E.mono L.le).good]at this;refine .cons (.code ?_) .nil;rw[(hK C).2.2,C];exact this
    .exact⟨_,_,_,by rw[Er n A,L.B1 hF.loud.1],σ,CG,_,_,L,by rw[Er s H,L.D_ n2],.stay ((hF.mono L.le).raise (.cons ⟨S,rfl,rfl,rfl,rfl⟩ .nil)),λt R=>by rw[Er n (z t R),L.B1 hF.loud.1]⟩
   |beginRound C=>
    have G9:stepG.exec P' m true fr cs none=stepG.apply P' true fr cs none (do fr.roundOf.elim (stuck "beginRound: no round") ZaC;pure .skip):=funext λw=>Mo n;rw[Mo n]at h;rw[Mo s,G9];refine OD E hF (by rw[n];intro x;cases x) (Am.ok ?_) J h;have I:=hF.round;cases e:fr.roundOf with
    |none=>exact CC
    |some lo=>
     cases e':Bx.roundOf with
     |none=>rw[e,e']at I;exact I.elim
     |some be=>
      rw[e,e']at I;exact Ac _ (VF T E.base I) λ_ _ _ _ _=>Ad .skip
   | @code c z=>
    cases c with
    |skip=>exact g l D (by rw[n];exact .skip) (by rw[s];exact .skip) F
    |region id ops ba=>
     have ho:Ux P ρ.ok K.dead ops=true:=z;cases ba with
     |false=>exact g _ (.inRegion ops (Yr ops.size)::D) (by rw[n];exact .region) (by rw[s];exact .region) (.cons (.inRegion _ ho) F)
     |true=>
      have hq:Am P' P False Gf ρ (choose (.order fr.fn id)) (choose (.order Bx.fn id)):=by rw[hF.fn];exact Hh _
      have ev:∀(Q:Zo) (q:Question) (u:Zb),((choose q).runT Q u #[]).2= #[]:=by
       intro Q q u;unfold choose;rw[ZI];split<;>(unfold ZI;rfl)
      rcases hq.lock J with⟨x,u,f,N,X⟩|⟨σ,a,b,w₂,CG,d,d',A,H,V,L,ai⟩|⟨σ,v,v',w₂,CG,d,d',A,H,S,L,z⟩
      .exfalso
       unfold choose at N;rw[ZI]at N;split at N<;>(unfold ZI at N;cases N)
      .cases V
       have d1:d= #[]:=by have:=ev P' (.order fr.fn id) w;rw[A]at this;exact this
       have d2:d'= #[]:=by have:=ev P (.order Bx.fn id) w';rw[H]at this;exact this
       subst d1 d2;refine⟨_,_,_,OE n A,σ,CG,_,_,L,OE s H,.stay ?_,λt R=>OE n (ai t R)⟩;have:P'.follows .mixedOrders=P.follows .mixedOrders:=by unfold Tables.follows;rw[T.tables]
       rw[this];exact(hF.mono L.le).Uz (k:=.inRegion ops _::D) (.cons (.inRegion _ (by rw[L.le.2.1];exact ho)) (F.mono λ_ _=>TL.mono L.le))
      .exfalso
       unfold choose at A;rw[ZI]at A;split at A<;>(unfold ZI at A;cases A)
    |seq a b=>
     have V:Bh P ρ.ok K.dead K.seg a=true/\Bh P ρ.ok K.dead K.seg b=true:=by simpa[Bh]using z
     exact g _ (.code a:: .code b::D) (by rw[n];exact .seq) (by rw[s];exact .seq) (.cons (.code V.1) (.cons (.code V.2) F))
    |cond c a b=>
     have V:(jo P.globals.size ρ.ok K.dead c=true/\Bh P ρ.ok K.dead K.seg a=true)/\Bh P ρ.ok K.dead K.seg b=true:=by simpa[Bh]using z
     have S:=Ml E.base hF.tmps V.1.1;by_cases W:∃v,fr.eval c=.bool v
     .obtain⟨v,am⟩:=W
      have b8:Bx.eval c=.bool v:=by
       rw[am]at S;generalize Bx.eval c=y at S;cases S;rfl
      refine Fh J (λ_=>UA n am) (UA s b8) ?_;refine hF.Uz (k:=.code (if v then a else b)::D) (.cons (.code ?_) F);cases v
      .exact V.2
      exact V.1.2
     .obtain⟨o,u,e,B⟩:=RQ (Q:=P') (cs:=cs) (w:=w) (m:=m) n (λv S=>W ⟨v,S⟩)
      exact(h _ _ _ B).elim
    |block id b=>exact g _ (.code b:: .inBlock id::D) (by rw[n];exact .block) (by rw[s];exact .block) (.cons (.code z) (.cons (.inBlock id) F))
    |loop b=>exact g _ (.code b:: .inLoop b::D) (by rw[n];exact .loop) (by rw[s];exact .loop) (.cons (.code z) (.cons (.inLoop z) F))
    |label id=>exact g l D (by rw[n];exact .label) (by rw[s];exact .label) F
    |scope b=>exact g _ (.code b:: .inScope b::D) (by rw[n];exact .scope) (by rw[s];exact .scope) (.cons (.code z) (.cons (.inScope z) F))
    |exit id=>
     rcases de (id:=id) F K.tail with hn|⟨l',k',O,h2,h3⟩
     .cases C:K.seg with
      |false=>
       refine G (some (.exit id)) C (by rw[n];exact .exit hn) ?_ (λc x=>by cases x;rw[E.good];rfl);rw[s];refine .exit ?_;rw[(hK C).1];show Zbu id (D++ [])=none;rw[ZaA];exact XK F hn
      |true=>
       obtain⟨o,u,e,B⟩:=J_ (Q:=P') (cs:=cs) (w:=w) (m:=m) (id:=id) (by rw[n];exact .exit hn) (hF.part C).1;exact(h _ _ _ B).elim
     .exact g l' k' (by rw[n];exact .exit O) (by rw[s];exact .exit h2) h3
    |ret=>
     have C:K.seg=false:=by simpa[Bh]using z
     exact G (some .ret) C (by rw[n];exact .ret) (by rw[s];exact .ret) (λc x=>by cases x;rw[E.good];rfl)
    |rangeFunc f ps a b=>
     have V:((K.seg=false/\jo P.globals.size ρ.ok K.dead f=true)/\Bh P ρ.ok K.dead K.seg a=true)/\Bh P ρ.ok K.dead K.seg b=true:=by simpa[Bh]using z
     obtain⟨⟨⟨C,hf⟩,ha⟩,W⟩:=V;have ju:=hK C;have Uy:BS ρ fr.tmps Bx.tmps:=Pu.all (by have:=hF.tmps;rw[ju.2.2]at this;exact this);rw[ju.2.2,C]at ha W;have ap:Am P' P False (λσ p p'=>σ p.1=some p'.1/\Ep (fM σ) p.2 p'.2) ρ (Zad fr.fn fr.tmps ps a b fr.roundOf) (Zad Bx.fn Bx.tmps ps a b Bx.roundOf):=by
      rw[hF.fn];exact XG (hF.src C) Uy ps (by rw[E.good];exact ha) (by rw[E.good];exact W) hF.round
     rcases ap.lock J with⟨x,u,f',N,X⟩|⟨σ,p,p',w₂,CG,d,d',A,H,⟨lO,VK⟩,L,ai⟩|⟨σ,v,v',w₂,CG,d,d',A,H,S,L,z⟩
     .obtain⟨o,u2,e3,B⟩:=J' (cs:=cs) (m:=m) n N
      exact(h _ _ _ B).elim
     .obtain⟨nG,mk⟩:=p
      obtain⟨f_,Z⟩:=p';dsimp only at lO VK;rw[JI n A,L.B1 hF.loud.1]at h;rw[JI s H,L.D_ n2];have yS:=E.mono L.le;have U:=hF.mono L.le;have bV:Hp P' P K σ {fr with todo:=.inRangeFunc nG::l,defers:=mk++fr.defers} {Bx with todo:=.inRangeFunc f_::(D++K.tail),defers:=Z++Bx.defers}:=by
       obtain⟨dd,bv,bi⟩:=U.defers;refine⟨U.fn,U.src,U.loud,U.tmps,⟨.inRangeFunc f_::D,rfl,.cons (.Np lO C) (F.mono λ_ _=>TL.mono L.le)⟩,⟨Z++dd,?_,VK.append bi⟩,U.mode,U.kind,U.round,λx=>(by rw[C]at x;cases x),U.flat,U.Ar⟩;show Z++Bx.defers=_;rw[bv,Zae]
      have XM:Am P' P False cH σ (do let d <-Zbh fr.eval (rangeCall f nG) 0;invoke d.target d.args) (do let d <-Zbh Bx.eval (rangeCall f f_) 0;invoke d.target d.args):=by
       have yJ:=(Ml E.base hF.tmps hf).mono L.le;have hy:VR σ (.func (.yield nG) #[] #[]) (.func (.yield f_) #[] #[]):=.Xq (.yield lO) Bz.nil Bz.nil;by_cases yP:fr.eval f=vH
       .have e:(do let d <-Zbh fr.eval (rangeCall f nG) 0;invoke d.target d.args)=((Yd vH ((rangeCall f nG).args.map fr.eval)).bind λd=>invoke d.target d.args):=by
         unfold Zbh;show(Yd (fr.eval f) _).bind _=_;rw[yP]
        rw[e];exact .He (RK P' T.mV _)
       refine Ac _ (Uw yJ yP (by simpa[rangeCall,Zeb]using Bz.single hy)) λτ d d' an hd=>?_;exact XH T (yS.mono an).base (yS.mono an).Nc.same hd.target hd.args
      obtain⟨AH,w₁,e,B,τ,nH,g',BA,bc,s2,hO,hT⟩:=OD (cs':=cs') yS bV (λx=>x!) XM.ok ⟨L.world.obj,ap.al J A H,L.world.os⟩ (λo u e X=>h o u (d++e) (by rw[X];rfl));refine⟨AH,w₁,d++e,by rw[JI n A,L.B1 hF.loud.1,B];rfl,τ,nH,g',d'++BA,L.trans bc,by rw[s2];rfl,hO,λt R=>?_⟩;have f1:=L.Fw.drawn;have f2:=bc.Fw.drawn;rw[JI n (ai t λi x y=>R i x (Zl y f2)),L.B1 hF.loud.1];have:=hT t λi x y=>by rw[L.Fw.Pm];exact R i (Zr f1 x) y
      rw[this];rfl
     .obtain⟨o,u2,e3,B⟩:=J' (cs:=cs) (m:=m) n A
      exact(h _ _ _ B).elim
    |_=>cases z
def df (T:Twins P' P)(E:Env P' P ρ)(Z:K.seg=false->K.Full)(hF:Hp P' P K ρ fr Bx)(W:fr.mode≠ .run)
 (N:cs≠ []) (KG:cs'≠ []\/¬(fr.mode=.returning/\fr.defers=[])) (I:Ii ρ w w') {m m':Bool} (h:∀o u e,unwind P' m fr cs none w≠ .ended o u e):((K.seg=true\/cs'=[])/\∃c r x x',cs=c::r/\Ep (lN ρ) x x'/\∀u,unwind P' m fr cs none u=.go (AU (c.raise x) r) u #[])\/Does P' P K ρ cs cs' w w' (unwind P' m fr cs none) (unwind P m' Bx cs' none w'):=by
 have R:(P.funcs[Bx.fn]?).any (·.norace)=false:=by rw[hF.fn];exact hF.loud.2
 obtain⟨c,r,rfl⟩:=Zam N;obtain⟨k,V,G⟩:=hF.defers;cases g:fr.defers with
 |cons d ds=>
  rw[g]at G;cases G with
  | @cons _ y _ S j Az=>
   cases j with
   | @mk b b' a a' Y=>
    have Kh:Bx.defers= {target:=.collected b',args:=a'}::(S++K.fZ):=V;rcases(RJ (P':=P') (P:=P) (fz:=False) Y).lock I with⟨x,u,f',M,j⟩|⟨σ,p,p',w₂,CG,d,d',A,D,⟨rfl,rfl⟩,L,B⟩|⟨σ,v,v',w₂,CG,d,d',A,D,J,L,B⟩
    .obtain⟨o,u2,O,i⟩:=DY (cs:=c::r) (m:=m) g M
     exact(h _ _ _ i).elim
    .refine .inr ⟨_,_,_,by rw[El g A,L.B1 hF.loud.1],σ,CG,_,_,L,by rw[El Kh D,L.D_ R],.stay ?_,λt H=>by rw[El g (B t H),L.B1 hF.loud.1]⟩
     have l:=hF.mono L.le;exact⟨l.fn,l.src,l.loud,l.tmps,l.todo,⟨S,rfl,Az.mono λ_ _=>fM.mono L.le⟩,l.mode,l.kind,l.round,λn=>(by have:=(hF.part n).2.2.1;rw[g]at this;cases this),l.flat,l.Ar⟩
    .obtain⟨o,u2,O,i⟩:=DY (cs:=c::r) (m:=m) g A
     exact(h _ _ _ i).elim
 |nil=>
  rw[g]at G;cases G;have q:=hF.mode;cases n:K.seg with
  |true=>
   refine .inl ⟨.inl rfl,?_⟩;cases f:fr.mode with
   |run=>exact absurd f W
   |returning=>exact absurd f (hF.part n).2.1
   |panicking x=>
    rcases VJ (Q:=P') (m:=m) (c:=c) (r:=r) g f with i|i
    .obtain⟨o,u,e,i⟩:=i w
     exact(h _ _ _ i).elim
    .obtain⟨x',j⟩:∃x',Ep (lN ρ) x x':=by
      rw[f]at q;generalize Bx.mode=y at q;cases q with
      |panicking j=>exact⟨_,j⟩
     exact⟨c,r,x,x',rfl,j,i⟩
  |false=>
   have U:=Z n;have F:Bx.defers=[]:=by rw[V,U.2.1];rfl
   have Uy:BS ρ fr.tmps Bx.tmps:=Pu.all (by have:=hF.tmps;rw[U.2.2]at this;exact this);obtain⟨fn,code,z,f2,_⟩:=E.Nc.has fr.fn (hF.src n).1 (hF.src n).2;have C:P.funcs[Bx.fn]?=some fn:=by rw[hF.fn];exact f2
   cases f:fr.mode with
   |run=>exact absurd f W
   |returning=>
    refine .inr ?_;obtain⟨c',X,rfl⟩:=Zam (KG.resolve_right (λx=>x ⟨f,g⟩));have s:Bx.mode=.returning:=by
     rw[f]at q;generalize Bx.mode=y at q;cases q;rfl
    rcases(js T E.base fn Uy).lock I with⟨x,u,f',M,j⟩|⟨σ,a,b,w₂,CG,d,d',A,D,J,L,B⟩|⟨σ,v,v',w₂,CG,d,d',A,D,J,L,B⟩
    .obtain⟨o,u2,O,i⟩:=Hr (cs:=c::r) (m:=m) g f z M
     exact(h _ _ _ i).elim
    .exact⟨_,_,_,by rw[DV g f hF.kind.1 z A,L.B1 hF.loud.1],σ,CG,_,_,L,by rw[DV F s (hF.nA n) C D,L.D_ R],.pop n J rfl rfl,λt H=>by rw[DV g f hF.kind.1 z (B t H),L.B1 hF.loud.1]⟩
    .obtain⟨o,u2,O,i⟩:=Hr (cs:=c::r) (m:=m) g f z A
     exact(h _ _ _ i).elim
   |panicking x=>
    obtain⟨x',s,j⟩:∃x',Bx.mode=.panicking x'/\Ep (lN ρ) x x':=by
     rw[f]at q;generalize Bx.mode=y at q;cases q with
     |panicking j=>exact⟨_,rfl,j⟩
    cases cs' with
    |nil=>exact .inl ⟨.inr rfl,c,r,x,x',rfl,j,λu=>C4 g f z⟩
    |cons c' X=>
    exact .inr ⟨_,_,_,C4 g f z,ρ,w',_,_,FL.refl I.wr,C4 F s C,.raise n j rfl rfl,λt _=>C4 g f z⟩
end
structure H9 where
 K:Cut
 lcs:List ZM
 yT:List ZM
 top:Bool
inductive Gh (P' P:Zo)(B:H9)(ρ:Ren):List ZM->List ZM->Prop
 |bot {fr Bx:ZM} (h:Hp P' P B.K ρ fr Bx):Gh P' P B ρ (fr::B.lcs) (Bx::B.yT)
 |cons {fr Bx c c':ZM} {L L':List ZM} (h:Hp P' P .whole ρ fr Bx) (BL:c.todo≠ []) (t:Gh P' P B ρ (c::L) (c'::L')):Gh P' P B ρ (fr::c::L) (Bx::c'::L')
section
variable {P' P:Zo}{ρ:Ren}{B:H9}
def Gh.mono {b:Ren}(a:ρ.le b){L c:List ZM}(h:Gh P' P B ρ L c):Gh P' P B b L c:=by
 induction h with
 |bot h=>exact .bot (h.mono a)
 |cons h e _ d=>exact .cons (h.mono a) e d
variable {cs cs' L L' I4:List ZM}
def Gh.top {c':ZM}(h:Gh P' P B ρ (c::L) (c'::L')){f b:ZM}(a:∀K,Hp P' P K ρ c c'->Hp P' P K ρ f b):Gh P' P B ρ (f::L) (b::L'):=by
 generalize e:c::L=M at h;generalize e':c'::L'=M' at h;cases h with
 |bot h=>cases e;cases e';exact .bot (a _ h)
 |cons h d t=>cases e;cases e';exact .cons (a _ h) d t
def sP (P' P:Zo)(B:H9)(ρ:Ren)(g g':Zi):Prop:=∃fr cs Bx cs',g=AU fr cs/\g'=AU Bx cs'/\Gh P' P B ρ (fr::cs) (Bx::cs')
def aen (B:H9)(b:Ren)(g g':Zi):Prop:=B.K.seg=false/\∃c r c' a v v',B.lcs=c::r/\B.yT=c'::a/\VR b v v'/\g=AU (c.finish v) r/\g'=AU (c'.finish v') a
def P9 (B:H9)(g:Zi):Prop:=∃c r x,B.lcs=c::r/\g=AU (c.raise x) r
def UB (B:H9)(a:Ren)(g:Zi):Prop:=∃c r x x',B.lcs=c::r/\g=AU (c.raise x) r/\Ep (lN a) x x'
variable {g g':Zi}
def UB.lost {B:H9}(h:UB B σ g):P9 B g:=let⟨c,r,x,_,b,a,_⟩:=h;⟨c,r,x,b,a⟩
def gd (P' P:Zo)(B:H9)(b:Ren)(g g':Zi):Prop:=
 ∃fn a a' f cs f' cs',b.ok.dir fn a.size=true/\b.sp fn=true/\BS b a a'/\g=AU (Zq P' fn a .normal) (f::cs)/\g'=AU (Zq P fn a' .normal) (f'::cs')/\Gh P' P B b (f::cs) (f'::cs')/\f.todo≠ []
structure H9.LM (B:H9):Prop where
 K:B.K.seg=false->B.K.Full
 lcs:B.lcs≠ []
 yT:B.top=false->B.yT≠ []
 sQ:B.top=true->B.K.seg=false/\B.K.flat=true/\B.yT=[]
def BG {Q:Zo}{m:Bool}:(fr.mode=.run->za Q m (AU fr cs) w=stepG.exec Q m true fr cs none w)/\(fr.mode≠ .run->za Q m (AU fr cs) w=unwind Q m fr cs none w):=by
 unfold za AU;cases h:fr.mode<;>simp[h]
def RR (h:Hp P' P K ρ fr Bx):(fr.mode=.run↔Bx.mode=.run):=by
 have:=h.mode;generalize fr.mode=a at this;generalize Bx.mode=b at this;cases this<;>simp
def BQ (B:H9)(g:Zi):Prop:=
 (B.K.seg=true/\g.callers.length=B.lcs.length/\g.frame.mode=.run/\g.frame.todo=[])\/(B.top=true/\g.callers.length=B.lcs.length/\g.frame.mode=.returning/\g.frame.defers=[])
def Gh.deep (h:Gh P' P B ρ L L'):B.lcs.length<L.length:=by
 induction h with
 |bot h=>simp
 |cons _ _ _ a=>simp only[zb]at a⊢;omega
def UC (w w₁:Zb):Prop:=w.heap.size<=w₁.heap.size/\∀b o,Quiet o->b<w.heap.size->w₁.heap[b]?=some o->w.heap[b]?=some o
def UC.refl (w:Zb):UC w w:=⟨Zj _,λ_ _ _ _ h=>h⟩
def FL.vS {ρ:Ren}(L:FL ρ σ w w₁ w' w₁' d d'):UC w w₁:=⟨L.Fw.size,λb o a c e=>(L.Fw.awake b o a c e).1⟩
def RS (T:Twins P' P)(E:Env P' P ρ)(W:BP<=P.depth)(F:B.LM)(X:sP P' P B ρ g g')(U:¬BQ B g)(R:Ii ρ w w'){m m':Bool}(h:∀o u e,za P' m g w≠ .ended o u e):∃y w₁ es,za P' m g w=.go y w₁ es/\((∃σ,ρ.le σ/\UB B σ y/\w.drawn<=w₁.drawn/\w₁.tape=w.tape/\UC w w₁/\nC (λw=>za P' m g w) w y w₁ es)\/∃σ w₁' A j,FL ρ σ w w₁ w' w₁' es j/\za P m' g' w'=.go A w₁' j/\(sP P' P B σ y A\/aen B σ y A\/gd P' P B σ y A)/\nC (λw=>za P' m g w) w y w₁ es):=by
 obtain⟨fr,cs,Bx,cs',rfl,rfl,J⟩:=X;have s:∀K,(K.seg=false->K.Full)->Hp P' P K ρ fr Bx->(K.seg=true->fr.mode=.run->fr.todo≠ [])->cs≠ []->(cs'≠ []\/(fr.roundOf=none/\¬(fr.mode=.returning/\fr.defers=[])))->
   ((K.seg=true\/cs'=[])/\∃c r x x',cs=c::r/\Ep (lN ρ) x x'/\∀u,za P' m (AU fr cs) u=.go (AU (c.raise x) r) u #[])\/Does P' P K ρ cs cs' w w' (λw=>za P' m (AU fr cs) w) (za P m' (AU Bx cs') w'):=by
  intro K S hF B_ i D;by_cases k:fr.mode=.run
  .have Q:(λw=>za P' m (AU fr cs) w)=stepG.exec P' m true fr cs none:=funext λw=>BG.1 k
   rw[BG.1 k]at h;rw[BG.1 ((RR hF).1 k),Q];exact .inr (nD T E W S hF k (λx=>B_ x k) i (D.imp id (·.1)) R h)
  have Q:(λw=>za P' m (AU fr cs) w)=unwind P' m fr cs none:=funext λw=>BG.2 k;rw[BG.2 k]at h;rw[BG.2 (λx=>k ((RR hF).2 x)),Q];exact(df T E S hF k i (D.imp id (·.2)) R h).imp (λ⟨a,c,r,x,x',b,Y,d⟩=>⟨a,c,r,x,x',b,Y,λu=>by rw[BG.2 k];exact d u⟩) id
 generalize e:fr::cs=M at J;generalize e':Bx::cs'=M' at J;cases J with
 |bot hF=>
  cases e;cases e';rcases s B.K F.K hF (λf k V=>U (.inl ⟨f,rfl,k,V⟩)) F.lcs (by
   cases O:B.top with
   |false=>exact .inl (F.yT O)
   |true=>exact .inr ⟨(hF.flat (F.sQ O).2.1).1,λx=>U (.inr ⟨O,rfl,x.1,x.2⟩)⟩) with⟨_,c,r,x,x',i,C,D⟩|⟨y,w₁,es,l,σ,w₁',A,j,L,i,N,q⟩
  .exact⟨_,_,_,D w,.inl ⟨ρ,Ren.le_refl _,⟨c,r,x,x',i,rfl,C⟩,Zj _,rfl,UC.refl w,λt _=>D _⟩⟩
  .cases N with
   |stay n=>exact⟨_,_,_,l,.inr ⟨σ,w₁',_,j,L,i,.inl ⟨_,_,_,_,rfl,rfl,.bot n⟩,q⟩⟩
   |push v n z=>exact⟨_,_,_,l,.inr ⟨σ,w₁',_,j,L,i,.inl ⟨_,_,_,_,rfl,rfl,.cons v z (.bot n)⟩,q⟩⟩
   |pop f G p v=>exact⟨_,_,_,l,.inr ⟨σ,w₁',_,j,L,i,.inr (.inl ⟨f,_,_,_,_,_,_,p,v,G,rfl,rfl⟩),q⟩⟩
   |VG n f p h z=>exact⟨_,_,_,l,.inr ⟨σ,w₁',_,j,L,i,.inr (.inr ⟨_,_,_,_,_,_,_,n,f,p,rfl,rfl,.bot h,z⟩),q⟩⟩
   |raise f C p v=>exact⟨_,_,_,l,.inl ⟨σ,L.le,⟨_,_,_,_,p,rfl,C⟩,L.Fw.drawn,L.Fw.Pm,L.vS,q⟩⟩
 | @cons _ _ c c' L₀ Z hF z t=>
  cases e;cases e';rcases s .whole (λ_=>Cut.RL) hF (λf=>by cases f) (λx=>x!) (.inl λx=>x!) with⟨f|f,_⟩|⟨y,w₁,es,l,σ,w₁',A,j,L,i,N,q⟩
  .cases f
  .cases f
  have t':=t.mono L.le;cases N with
  |stay n=>exact⟨_,_,_,l,.inr ⟨σ,w₁',_,j,L,i,.inl ⟨_,_,_,_,rfl,rfl,.cons n z t'⟩,q⟩⟩
  |push v n H=>exact⟨_,_,_,l,.inr ⟨σ,w₁',_,j,L,i,.inl ⟨_,_,_,_,rfl,rfl,.cons v H (.cons n z t')⟩,q⟩⟩
  |VG n f p h H=>exact⟨_,_,_,l,.inr ⟨σ,w₁',_,j,L,i,.inr (.inr ⟨_,_,_,_,_,_,_,n,f,p,rfl,rfl,.cons h z t',H⟩),q⟩⟩
  |pop f G p v=>
   cases p;cases v;exact⟨_,_,_,l,.inr ⟨σ,w₁',_,j,L,i,.inl ⟨_,_,_,_,rfl,rfl,t'.top λK I=>I.finish G z⟩,q⟩⟩
  |raise f C p v=>
   cases p;cases v;exact⟨_,_,_,l,.inr ⟨σ,w₁',_,j,L,i,.inl ⟨_,_,_,_,rfl,rfl,t'.top λK I=>I.raise C⟩,q⟩⟩
end
abbrev tp (w:Zb)(t:Tape):Zb:= {w with tape:=t}
section
variable {P' P:Zo}{B:H9}{m:Bool}{Stop:Zi->Zb->Prop}
def Fx (P' P:Zo)(B:H9)(g:Zi)(w:Zb):Prop:=∃ρ a w',Env P' P ρ/\sP P' P B ρ g a/\WR ρ w w'/\ρ.sp=λ_=>false
def RU (Q:Zo)(m:Bool)(g:Zi)(w:Zb):Prop:=∀a w' es,za Q m g w≠ .go a w' es
def Hs (B:H9)(g:Zi):Prop:=∃c r v,B.lcs=c::r/\g=AU (c.finish v) r
def WR.jv (h:WR ρ w w'):∃a,Ii ρ w a:=
 ⟨tp w' (λi=>w.tape (i - w'.drawn+w.drawn)),h.obj,λi q=>by show w.tape (w.drawn+i) q=w.tape (w'.drawn+i - w'.drawn+w.drawn) q;rw[Zbl,Nat.add_comm],h.os⟩
def Fx.step (T:Twins P' P)(t:BP<=P.depth)(C:B.LM){g:Zi}{w:Zb}(z:Fx P' P B g w)(F:¬BQ B g){a:Zi}{w₁:Zb}{es:Array Z9}(h:za P' m g w=.go a w₁ es):
  ((Fx P' P B a w₁\/Hs B a\/P9 B a)/\nC (λw=>za P' m g w) w a w₁ es/\w.drawn<=w₁.drawn/\w₁.tape=w.tape/\UC w w₁):=by
 obtain⟨ρ,I,J,E,A,n,l⟩:=z;obtain⟨w',q⟩:=n.jv;obtain⟨K,w₂,G,k,p⟩:=RS (m:=m) (m':=m) T E t C A F q (λo u e=>by rw[h];intro x;cases x);rw[h]at k;cases k;rcases p with⟨σ,_,s,i,f,y,b⟩|⟨σ,w₁',D,M,L,_,d,b⟩
 .exact⟨.inr (.inr s.lost),b,i,f,y⟩
 refine⟨?_,b,L.Fw.drawn,L.Fw.Pm,L.vS⟩;rcases d with d|⟨_,c,r,c',H,v,v',i,_,_,f,_⟩|⟨fn,_,_,_,_,_,_,_,j,_⟩
 .exact .inl ⟨σ,D,w₁',E.mono L.le,d,L.world,L.le.2.2.2.trans l⟩
 .exact .inr (.inl ⟨c,r,v,i,f⟩)
 rw[L.le.2.2.2,l]at j;cases j
variable {g g':Zi}
def Fx.Ds (h:Fx P' P B g w)(t:Tape):Fx P' P B g (tp w t):=
 let⟨ρ,g',w',E,c,a,b⟩:=h;⟨ρ,g',w',E,c,⟨a.obj,a.os⟩,b⟩
def GH (P':Zo)(B:H9)(m:Bool)(a:Zi->Zb->Prop):Nat->Zi->Zb->Prop
 |0,g,w=>a g w
 |n+1,g,w=>a g w\/(¬BQ B g/\∃g' w' es,za P' m g w=.go g' w' es/\GH P' B m a n g' w')
structure Dg (P':Zo)(B:H9)(m:Bool)(Stop:Zi->Zb->Prop):Prop where
 blind:∀g w t,Stop g w->Stop g (tp w t)
 back:∀g w,Hs B g\/P9 B g->Stop g w\/RU P' m g w
variable {l l' i n r r' N:Nat}
def GH.here (h:GH P' B m Stop n g w)(a:RU P' m g w\/BQ B g):Stop g w:=by
 cases n with
 |zero=>exact h
 |succ n=>
  rcases h with h|⟨b,g',w',es,h,_⟩
  .exact h
  exact a.elim (λx=>absurd h (x _ _ _)) λx=>absurd x b
def Dg.nJ (K:Dg P' B m Stop)(h:GH P' B m Stop n g w)(b:Hs B g\/P9 B g):Stop g w:=
 (K.back g w b).elim id λa=>h.here (.inl a)
def GH.vU (T:Twins P' P)(l:BP<=P.depth)(q:B.LM)(K:Dg P' B m Stop):∀(n:Nat) {g:Zi} {w:Zb} {a b:Tape},Fx P' P B g w->GH P' B m Stop n g (tp w a)->(∀i,w.drawn<=i->a i=b i)->GH P' B m Stop n g (tp w b):=by
 intro n
 induction n with
 |zero=>intro g w a b _ h _;exact K.blind g (tp w a) b h
 |succ n k=>
  intro g w a b p h j;rcases h with h|⟨f,t,w₁,es,h,d⟩
  .exact .inl (K.blind g (tp w a) b h)
  obtain⟨c,o,s,r,_⟩:=(p.Ds a).step T l q f h;refine .inr ⟨f,t,tp w₁ b,es,o b (λi x _=>(j i x).symm),?_⟩;have e:w₁=tp w₁ a:=by cases w₁;cases r;rfl
  rcases c with c|c
  .exact k c (by rw[<-e];exact d) λi x=>j i (Zr s x)
  have:=K.blind _ _ b (K.nJ d c);cases n with
  |zero=>exact this
  |succ n=>exact .inl this
inductive Cv (P':Zo)(B:H9)(m:Bool)(Stop:Zi->Zb->Prop):Zi->Zb->Prop
 |stop {g:Zi} {w:Zb} (h:Stop g w):Cv P' B m Stop g w
 |step {g:Zi} {w:Zb} (hn:¬BQ B g) (hr:g.status=.running) (AH:Tape->Zi) (w₁:Tape->Zb) (es:Tape->Array Z9) (h:∀t,za P' m g (tp w t)=.go (AH t) (w₁ t) (es t)) (k:∀t,Cv P' B m Stop (AH t) (w₁ t)):Cv P' B m Stop g w
structure sR (P' P:Zo)(B:H9)(m:Bool)(Stop:Zi->Zb->Prop)(s:Zi×Zb):Prop where
 auI:Fx P' P B s.1 s.2
 reach:∀t,∃n,GH P' B m Stop n s.1 (tp s.2 t)
 not:¬Cv P' B m Stop s.1 s.2
def sR.next (T:Twins P' P)(A:BP<=P.depth)(D:B.LM)(K:Dg P' B m Stop){s:Zi×Zb}(h:sR P' P B m Stop s):
  ∃s',sR P' P B m Stop s'/\s.2.drawn<=s'.2.drawn/\∃es,∀t:Tape,(∀i,s.2.drawn<=i->i<s'.2.drawn->t i=s'.2.tape i)->za P' m s.1 (tp s.2 t)=.go s'.1 (tp s'.2 t) es:=by
 obtain⟨g,w⟩:=s;obtain⟨k,l,o⟩:=h;dsimp only at k l o⊢;have c:∀t,¬Stop g (tp w t):=λt h=>o (.stop (K.blind g (tp w t) w.tape h));have z:¬BQ B g:=λh=>by obtain⟨n,b⟩:=l w.tape;exact c _ (b.here (.inr h))
 have d:∀t,∃n a w₁ es,za P' m g (tp w t)=.go a w₁ es/\GH P' B m Stop n a w₁:=by
  intro t;obtain⟨n,b⟩:=l t;cases n with
  |zero=>exact absurd b (c t)
  |succ n=>
   rcases b with h|⟨_,a,w₁,es,h,b⟩
   .exact absurd h (c t)
   exact⟨n,a,w₁,es,h,b⟩
 have:∃t,∀a w₁ es,za P' m g (tp w t)=.go a w₁ es->¬Cv P' B m Stop a w₁:=by
  apply YQ;intro I;have:∀t,∃p:Zi×Zb×Array Z9,za P' m g (tp w t)=.go p.1 p.2.1 p.2.2/\Cv P' B m Stop p.1 p.2.1:=by
   intro t;apply YQ;intro H;exact I ⟨t,λa w₁ es r q=>H ⟨(a,w₁,es),r,q⟩⟩
  exact o (.step z (by obtain⟨_,_,_,_,⟨_,_,_,_,rfl,_,_⟩,_⟩:=k;rfl) (λt=>(zo (this t)).1) (λt=>(zo (this t)).2.1) (λt=>(zo (this t)).2.2) (λt=>(zv (this t)).1) λt=>(zv (this t)).2)
 obtain⟨t,J⟩:=this;obtain⟨n,a,w₁,es,h,b⟩:=d t;have v:=J _ _ _ h;obtain⟨M,C,r,q,_⟩:=(k.Ds t).step T A D z h;have F:Fx P' P B a w₁:=M.elim id λL=>absurd (.stop (K.nJ b L)) v;refine⟨(a,w₁),⟨F,λt'=>?_,v⟩,r,es,λt' e=>C t' λi x y=>?_⟩
 .have j:=C (λi=>if i<w₁.drawn then t i else t' i) λi _ y=>by rw[if_pos y]
  obtain⟨G,O,w₂,N,E,f⟩:=d (λi=>if i<w₁.drawn then t i else t' i);have u:za P' m g (tp w λi=>if i<w₁.drawn then t i else t' i)=.go a (tp w₁ λi=>if i<w₁.drawn then t i else t' i) es:=j;rw[u]at E;cases E;exact⟨G,f.vU T A D K _ F λi x=>by have x':w₁.drawn<=i:=x;rw[if_neg o!]⟩
 have:=e i x y;rw[this,q]
def least (p:Nat->Prop)(h:∃n,p n):∃n,p n/\∀j,j<n->¬p j:=by
 obtain⟨n,e⟩:=h
 induction n using Nat.strongRecOn with
 |_ n d=>
  by_cases c:∃j,j<n/\p j
  .obtain⟨j,b,a⟩:=c;exact d j b a
  exact⟨n,e,λj b a=>c ⟨j,b,a⟩⟩
open Classical in
def ID (T:Twins P' P)(M:BP<=P.depth)(Q:B.LM)(K:Dg P' B m Stop)(N:Fx P' P B g w)(H:∀t,∃n,GH P' B m Stop n g (tp w t)):Cv P' B m Stop g w:=by
 apply YQ;intro O
 let S:= {s:Zi×Zb // sR P' P B m Stop s}
 let C:S:=⟨(g,w),N,H,O⟩
 have G:∀s:S,∃d:S,s.1.2.drawn<=d.1.2.drawn/\∃es,∀t:Tape,(∀i,s.1.2.drawn<=i->i<d.1.2.drawn->t i=d.1.2.tape i)->za P' m s.1.1 (tp s.1.2 t)=.go d.1.1 (tp d.1.2 t) es:=by
  rintro⟨s,v⟩;obtain⟨d,J,r⟩:=v.next T M Q K;exact⟨⟨d,J⟩,r⟩
 let e:S->S:=λs=>zo (G s)
 have F:∀s,s.1.2.drawn<=(e s).1.2.drawn/\∃es,∀t:Tape,(∀i,s.1.2.drawn<=i->i<(e s).1.2.drawn->t i=(e s).1.2.tape i)->za P' m s.1.1 (tp s.1.2 t)=.go (e s).1.1 (tp (e s).1.2 t) es:=λs=>zv (G s)
 let q:Nat->S:=λk=>Nat.rec C (λ_ s=>e s) k
 have z:∀k,q (k+1)=e (q k):=λ_=>rfl;have l:∀k,(q k).1.2.drawn<=(q (k+1)).1.2.drawn:=λk=>by rw[z];exact(F (q k)).1
 have E:∀a b,a<=b->(q a).1.2.drawn<=(q b).1.2.drawn:=by
  intro a b U
  induction U with
  |refl=>exact Zj _
  |step _ u=>exact Zr u (l _)
 let c:Tape:=λi=>if h:∃k,i<(q (k+1)).1.2.drawn then(q (zo (least _ h)+1)).1.2.tape i else w.tape i
 have D:∀k i,(q k).1.2.drawn<=i->i<(q (k+1)).1.2.drawn->c i=(q (k+1)).1.2.tape i:=by
  intro k i J r;have p:∃k,i<(q (k+1)).1.2.drawn:=⟨k,r⟩;have L:zo (least _ p)=k:=by
   obtain⟨R,I⟩:=zv (least _ p);generalize zo (least _ p)=f at R I;rcases Nat.lt_trichotomy f k with o|o|o
   .have:=E _ _ (show f+1<=k from o)
    omega
   .exact o
   exact absurd r (I k o)
  show(if h:∃k,i<(q (k+1)).1.2.drawn then(q (zo (least _ h)+1)).1.2.tape i else w.tape i)=_;rw[dif_pos p,L]
 have j:∀n k,¬GH P' B m Stop n (q k).1.1 (tp (q k).1.2 c):=by
  intro n
  induction n with
  |zero=>intro k h;exact(q k).2.not (.stop (K.blind _ (tp (q k).1.2 c) (q k).1.2.tape h))
  |succ n u=>
   intro k h;rcases h with h|⟨_,g',w',es,h,A⟩
   .exact(q k).2.not (.stop (K.blind _ (tp (q k).1.2 c) (q k).1.2.tape h))
   obtain⟨_,V,v⟩:=F (q k);have:=v c λi x y=>by have:=D k i x (by rw[z];exact y);rw[this,z]
   rw[this]at h;cases h;exact u (k+1) A
 obtain⟨n,A⟩:=H c;exact j n 0 A
end
def C5 (Q:Zo):ZM:= {fn:=Q.funcs.size,tmps:= #[],todo:=[.call default false "" #[]],defers:=[{target:=.nil,args:= #[]}],mode:=.run,kind:=.normal}
section
variable {P' P:Zo}{m:Bool}
def dg:Extern.next "" =none:=rfl
def Ht:∃o u e,za P' m (AU ((C5 P').finish v) []) w=.ended o u e:=by
 rw[(BG (Q:=P') (m:=m) (fr:=(C5 P').finish v) (cs:=[]) (w:=w)).1 rfl];unfold stepG.exec;simp[C5,Zdr,dg]
def OH {x:List zk}:∃o u e,za P' m (AU ((C5 P').raise x) []) w=.ended o u e:=by
 rw[(BG (Q:=P') (m:=m) (fr:=(C5 P').raise x) (cs:=[]) (w:=w)).2 (by intro h;cases h)];unfold unwind callDeferred;simp[C5,ZaV]
variable {g g':Zi}
def IE (h:∃o u e,za P' m g w=.ended o u e):RU P' m g w:=by
 obtain⟨o,u,e,h⟩:=h;intro g' w' es x;rw[h]at x;cases x
def IsX (P':Zo)(PostX:List zk->Zb->Prop)(g:Zi)(w:Zb):Prop:=∃x,g=AU ((C5 P').raise x) []/\PostX x w
def gh (P':Zo)(Post:Zf->Zb->Prop)(PostX:List zk->Zb->Prop)(g:Zi)(w:Zb):Prop:=(∃v,g=AU ((C5 P').finish v) []/\Post v w)\/IsX P' PostX g w
def UD (P':Zo)(B:H9)(Y:Array Zf->Zf)(Post:Zf->Zb->Prop)(PostX:List zk->Zb->Prop)(g:Zi)(w:Zb):Prop:=(BQ B g/\g.callers=B.lcs/\Post (Y g.frame.tmps) w)\/IsX P' PostX g w
def C_ {a:Type}(Post:a->Zb->Prop):Prop:=∀v w t,Post v w->Post v (tp w t)
variable {B:H9}
def Nq (hl:B.lcs=[C5 P'])(b:Hs B g\/P9 B g):RU P' m g w:=by
 rcases b with⟨c,r,v,a,rfl⟩|⟨c,r,x,a,rfl⟩
 .rw[hl]at a;cases a
  exact IE Ht
 rw[hl]at a;cases a;exact IE OH
def IsX.blind {PostX:List zk->Zb->Prop}(a:C_ PostX){t:Tape}(h:IsX P' PostX g w):IsX P' PostX g (tp w t):=let⟨x,c,b⟩:=h;⟨x,c,a _ _ _ b⟩
variable {Post:Zf->Zb->Prop}
def XN {PostX:List zk->Zb->Prop}(hl:B.lcs=[C5 P'])(b:C_ Post)(e:C_ PostX):Dg P' B m (gh P' Post PostX):=
 ⟨λ_ _ _ h=>h.elim (λ⟨v,d,c⟩=>.inl ⟨v,d,b _ _ _ c⟩) λh=>.inr (h.blind e),λ_ _ a=>.inr (Nq hl a)⟩
variable {Y:Array Zf->Zf}
def XO {PostX:List zk->Zb->Prop}(hl:B.lcs=[C5 P'])(b:C_ Post)(f:C_ PostX):Dg P' B m (UD P' B Y Post PostX):=
 ⟨λ_ _ _ h=>h.elim (λ⟨e,d,c⟩=>.inl ⟨e,d,b _ _ _ c⟩) λh=>.inr (h.blind f),λ_ _ a=>.inr (Nq hl a)⟩
variable {cs cs' L L' I4:List ZM}
def Fi (h:lone fr cs w=lone Bx cs' w'):fr=Bx/\cs=cs'/\w=w':=by
 unfold lone at h;simp at h;exact⟨h.2.1,h.2.2,h.1⟩
def EO (h:∃o u e,za P' true (AU fr cs) w=.ended o u e):∃o u,Go.step P' (lone fr cs w)=.ended o u:=by
 obtain⟨o,u,e,h⟩:=h;exact⟨o,u,step_lone_ended (by rw[show za P' true {frame:=fr,callers:=cs,status:=.running,dying:=none} w=_ from h];rfl)⟩
def Qx (h:za P' true (AU fr cs) w=.go (AU KA I4) w₁ es):Go.step P' (lone fr cs w)=.next (lone KA I4 w₁):=
 step_lone_go (by rw[show za P' true {frame:=fr,callers:=cs,status:=.running,dying:=none} w=_ from h];rfl)
variable {l l' i n r r' N:Nat}
def runN_ended {m':Machine}(h:∃o u,Go.step P' (lone fr cs w)=.ended o u)(a:runN P' N (lone fr cs w)=.next m'):lone fr cs w=m':=by
 obtain⟨o,u,h⟩:=h;cases N with
 |zero=>simpa[runN]using a
 |succ N=>simp[runN,h]at a
def Lq {m':Machine}(h:Go.step P' (lone fr cs w)=.next (lone KA I4 w₁))(a:runN P' N (lone fr cs w)=.next m'):lone fr cs w=m'\/∃b,N=b+1/\runN P' b (lone KA I4 w₁)=.next m':=by
 cases N with
 |zero=>exact .inl (by simpa[runN]using a)
 |succ N=>exact .inr ⟨N,rfl,by simpa[runN,h]using a⟩
def sP.AU (h:sP P' P B ρ g g'):∃fr cs,g=Go.FA.AU fr cs/\B.lcs.length<(fr::cs).length:=by
 obtain⟨fr,cs,Bx,cs',rfl,rfl,a⟩:=h;exact⟨fr,cs,rfl,a.deep⟩
variable {Stop:Zi->Zb->Prop}
def IG (T:Twins P' P)(O:BP<=P.depth)(G:B.LM)(hl:B.lcs=[C5 P']){d:ZM}(U:(∃v,d=(C5 P').finish v)\/∃x,d=(C5 P').raise x)
 (S:∀v,d=(C5 P').finish v->B.K.seg=false->B.top=false->Stop (AU d []) w') (D:∀x,d=(C5 P').raise x->Stop (AU d []) w')
 (V:∀N fr cs w,Fx P' P B (AU fr cs) w->BQ B (AU fr cs)->runN P' N (lone fr cs w)=.next (lone d [] w')->Stop (AU fr cs) w):
  ∀(N:Nat) (fr:ZM) (cs:List ZM) (w:Zb),Fx P' P B (AU fr cs) w->runN P' N (lone fr cs w)=.next (lone d [] w')->∃n,GH P' B true Stop n (AU fr cs) w:=by
 intro N
 induction N with
 |zero=>
  intro fr cs w q j;obtain⟨ρ,g',w₂,E,t,F,_⟩:=q;obtain⟨R,Q,a,b⟩:=t.AU;cases a;obtain⟨rfl,rfl,rfl⟩:=Fi (by simpa[runN]using j);rw[hl]at b;simp at b
 |succ N K=>
  intro fr cs w q j;by_cases i:BQ B (AU fr cs)
  .exact⟨0,V _ _ _ _ q i j⟩
  obtain⟨ρ,g',DZ,E,t,J,H⟩:=q;obtain⟨w₂,F⟩:=J.jv;have f:B.lcs.length<(fr::cs).length:=by
   obtain⟨R,Q,a,b⟩:=t.AU;cases a;exact b
  have I:lone fr cs w≠lone d [] w':=by
   intro x;obtain⟨rfl,rfl,rfl⟩:=Fi x;rw[hl]at f;simp at f
  have C:∀o u e,za P' true (AU fr cs) w≠ .ended o u e:=λo u e z=>I (runN_ended (EO ⟨o,u,e,z⟩) j);obtain⟨y,w₁,es,p,z⟩:=RS (m:=true) (m':=true) T E O G t i F C;have go:∀KA I4,y=AU KA I4->runN P' N (lone KA I4 w₁)=.next (lone d [] w'):=by
   rintro KA I4 rfl;rcases Lq (Qx p) j with h|⟨N',a,b⟩
   .exact absurd h I
   cases a;exact b
  have AM:∀v x,(C5 P').finish v≠(C5 P').raise x:=λv x h=>by have:=congrArg Frame.mode h;cases this
  rcases z with⟨_,_,X,_⟩|⟨σ,w₁',Y,BA,L,_,s,_⟩
  .obtain⟨c,r,x,a,b⟩:=X.lost
   rw[hl]at a;cases a;have:=runN_ended (EO OH) (go _ _ b);obtain⟨k,_,A⟩:=Fi this;refine⟨1,.inr ⟨i,y,w₁,es,p,?_⟩⟩;rw[b,k,A];exact D x k.symm
  rcases s with s|⟨l,c,r,c',r',XP,Z,a,g,_,b,_⟩|⟨fn,_,_,_,_,_,_,_,l,_⟩
  .obtain⟨KA,I4,a,_⟩:=s.AU
   obtain⟨n,M⟩:=K KA I4 w₁ ⟨σ,Y,w₁',E.mono L.le,a▸s,L.world,L.le.2.2.2.trans H⟩ (go _ _ a);exact⟨n+1,.inr ⟨i,y,w₁,es,p,a▸M⟩⟩
  .rw[hl]at a;cases a
   have:=runN_ended (EO Ht) (go _ _ b);obtain⟨k,_,A⟩:=Fi this;refine⟨1,.inr ⟨i,y,w₁,es,p,?_⟩⟩;rw[b,k,A];refine S _ k.symm l ?_;cases W:B.top with
   |false=>rfl
   |true=>rw[(G.sQ W).2.2]at g;cases g
  rw[L.le.2.2.2,H]at l;cases l
def gr (Post:Zf->Zb->Prop)(PostX:List zk->Zb->Prop):Ending->Zb->Prop
 | .returned v,w=>Post v w
 | .panicked x,w=>PostX x w
 |_,_=>False
variable {f:ZaQ}
def IH {PostX:List zk->Zb->Prop}(h:Calls P' f args w (gr Post PostX)):
  ∃N d w',((∃v,d=(C5 P').finish v/\Post v w')\/∃x,d=(C5 P').raise x/\PostX x w')/\runN P' N (lone (Zq P' f args .normal) [C5 P'] w)=.next (lone d [] w'):=by
 obtain⟨e,w',fr,a,i,_,g⟩:=h [C5 P'];cases e with
 |returned v=>
  obtain⟨N,b⟩:=Steps.trans (show Steps P' _ _ from i) (Steps.one (step_leave_returned g));exact⟨N,_,w',.inl ⟨v,rfl,a⟩,b⟩
 |panicked c=>
  obtain⟨N,b⟩:=Steps.trans (show Steps P' _ _ from i) (Steps.one (step_leave_panicked g));exact⟨N,_,w',.inr ⟨c,rfl,a⟩,b⟩
 |outgrown=>exact a.elim
def DH {x:List zk}(h:(C5 P').finish v=(C5 P').raise x):False:=by have:=congrArg Frame.mode h;cases this
def Mq (h:(C5 P').finish v=(C5 P').finish v'):v=v':=by
 have:=congrArg Frame.todo h;simpa[C5,Zdr]using this
def TN (T:Twins P' P)(c:BP<=P.depth)(e:B.LM)(hl:B.lcs=[C5 P'])(g:B.K.seg=false)(l:B.top=false){PostX:List zk->Zb->Prop}(j:C_ Post)(m:C_ PostX)
 (d:Fx P' P B (AU (Zq P' f args .normal) [C5 P']) w) (i:∀t,Calls P' f args (tp w t) (gr Post PostX)):Cv P' B true (gh P' Post PostX) (AU (Zq P' f args .normal) [C5 P']) w:=by
 refine ID T c e (XN hl j m) d λt=>?_;obtain⟨N,n,w',a,k⟩:=IH (i t);refine IG T c e hl (a.imp (λ⟨v,h,_⟩=>⟨v,h⟩) λ⟨x,h,_⟩=>⟨x,h⟩) (λv h _ _=>?_) (λx h=>?_) (λ_ _ _ _ _ h=>by rcases h with⟨h,_⟩|⟨h,_⟩;(rw[g]at h;cases h);(rw[l]at h;cases h)) N _ _ _ (d.Ds t) k
 .rcases a with⟨v',b,a⟩|⟨x,b,_⟩
  .exact .inl ⟨v',by rw[b],a⟩
  exact(DH (h.symm.trans b)).elim
 rcases a with⟨v',b,_⟩|⟨x,b,a⟩
 .exact(DH (b.symm.trans h)).elim
 exact .inr ⟨x,by rw[b],a⟩
def results_tmp {fn:Func}(h:fn.results= #[.tmp i])(t:Array Zf)(w:Zb):(results fn t).runT P' w #[]=(.ok (t.getD i Ze) w,#[]):=by
 unfold results;rw[h,YW]
 rfl
def XQ {fn:Func}{j:Nat}(h:fn.results= #[.tmp i,.tmp j])(t:Array Zf)(w:Zb):(results fn t).runT P' w #[]=(.ok (.tuple #[t.getD i Ze,t.getD j Ze]) w,#[]):=by
 unfold results;rw[h,YW]
 rfl
def Gh.VL (h:Gh P' P B ρ (fr::cs) (Bx::cs'))(a:cs.length=B.lcs.length):cs=B.lcs/\cs'=B.yT/\Hp P' P B.K ρ fr Bx:=by
 generalize e:fr::cs=M at h;generalize e':Bx::cs'=M' at h;cases h with
 |bot h=>cases e;cases e';exact⟨rfl,rfl,h⟩
 |cons h b t=>
  cases e;have:=t.deep;simp only[zb]at this a;omega
def VM (T:Twins P' P)(j:BP<=P.depth)(l:B.LM)(hl:B.lcs=[C5 P'])(i:B.K.seg=true)(R:B.top=false){fn:Func}(F:P'.funcs[B.K.fn]?=some fn)(C:∀t w,(results fn t).runT P' w #[]=(.ok (Y t) w,#[]))
 {PostX:List zk->Zb->Prop} (H:C_ Post) (U:C_ PostX)
 (k:Fx P' P B (AU (Zq P' B.K.fn args .normal) [C5 P']) w) (G:∀t,Calls P' B.K.fn args (tp w t) (gr Post PostX)):Cv P' B true (UD P' B Y Post PostX) (AU (Zq P' B.K.fn args .normal) [C5 P']) w:=by
 refine ID T j l (XO hl H U) k λt=>?_;obtain⟨N,fe,w',a,I⟩:=IH (G t);refine IG T j l hl (a.imp (λ⟨v,h,_⟩=>⟨v,h⟩) λ⟨x,h,_⟩=>⟨x,h⟩) (λ_ _ h=>by rw[i]at h;cases h) (λx h=>?_) (λM fr cs w₁ S c J=>?_) N _ _ _ (k.Ds t) I
 .rcases a with⟨v',b,_⟩|⟨x,b,a⟩
  .exact(DH (b.symm.trans h)).elim
  exact .inr ⟨x,by rw[b],a⟩
 obtain⟨ρ,g',w₂,E,⟨gp,gq,Bx,cs',e,rfl,D⟩,X,_⟩:=S;cases e;have g:B.K.seg=true/\(AU fr cs).callers.length=B.lcs.length/\(AU fr cs).frame.mode=.run/\(AU fr cs).frame.todo=[]:=c.elim id λx=>by rw[R]at x;cases x.1
 obtain⟨o,Z,n⟩:=D.VL g.2.1;obtain⟨u,W,s,r⟩:=n.part i;have V:fr.mode=.run:=g.2.2.1;have L:fr.todo=[]:=g.2.2.2;have f:cs=[C5 P']:=o.trans hl;subst f;have q:za P' true (AU fr [C5 P']) w₁=.go (AU {fr with mode:=.returning} [C5 P']) w₁ #[]:=by
  rw[BG.1 V];exact GG (by rw[L];exact .done) u (.inl rfl)
 have p:za P' true (AU {fr with mode:=.returning} [C5 P']) w₁=.go (AU ((C5 P').finish (Y fr.tmps)) []) w₁ (seen P' fr.fn #[]):=by
  rw[BG.2 (by intro h;cases h)];exact DV (fr:= {fr with mode:=.returning}) s rfl n.kind.1 (by rw[show({fr with mode:=FrameMode.returning}:ZM).fn=fr.fn from rfl,r];exact F) (C _ _)
 rcases Lq (Qx q) J with d|⟨O,rfl,z⟩
 .have:=congrArg List.length (Fi d).2.1
  simp at this
 rcases Lq (Qx p) z with d|⟨Q,rfl,y⟩
 .have:=congrArg List.length (Fi d).2.1
  simp at this
 obtain⟨m,_,K⟩:=Fi (runN_ended (EO Ht) y);rcases a with⟨v,b,a⟩|⟨x,b,_⟩
 .have A:Y fr.tmps=v:=Mq (m.trans b)
  refine .inl ⟨c,o,?_⟩;show Post (Y fr.tmps) w₁;rw[A,K];exact a
 exact(DH (m.trans b)).elim
def Ez (P':Zo)(B:H9)(fn:Func)(Post:Zf->Zb->Prop)(PostX:List zk->Zb->Prop)(g:Zi)(w:Zb):Prop:=(BQ B g/\g.callers=B.lcs/\∃i,fn.results= #[.tmp i]/\Post (g.frame.tmps.getD i Ze) w/\g.status=.running/\∃es,∀u,za P' true g u=.go (AU ((C5 P').finish (g.frame.tmps.getD i Ze)) []) u es)\/IsX P' PostX g w
def I5 {fn:Func}{PostX:List zk->Zb->Prop}(hl:B.lcs=[C5 P'])(b:C_ Post)(j:C_ PostX):Dg P' B m (Ez P' B fn Post PostX):=
 ⟨λ_ _ _ h=>h.elim (λ⟨g,f,i,e,d,c⟩=>.inl ⟨g,f,i,e,b _ _ _ d,c⟩) λh=>.inr (h.blind j),λ_ _ a=>.inr (Nq hl a)⟩
def XR (T:Twins P' P)(o:BP<=P.depth)(d:B.LM)(hl:B.lcs=[C5 P'])(l:B.top=true){fn:Func}(F:P'.funcs[f]?=some fn)(n:fn.results= #[.tmp i])
 {PostX:List zk->Zb->Prop} (H:C_ Post) (R:C_ PostX)
 (S:B.K.fn=f)
 (p:Fx P' P B (AU (Zq P' f args .normal) [C5 P']) w) (G:∀t,Calls P' f args (tp w t) (gr Post PostX)):Cv P' B true (Ez P' B fn Post PostX) (AU (Zq P' f args .normal) [C5 P']) w:=by
 have C:B.K.seg=false:=(d.sQ l).1;refine ID T o d (I5 hl H R) p λt=>?_;obtain⟨N,Y,w',a,I⟩:=IH (G t);refine IG T o d hl (a.imp (λ⟨v,h,_⟩=>⟨v,h⟩) λ⟨x,h,_⟩=>⟨x,h⟩) (λ_ _ _ h=>by rw[l]at h;cases h) (λx h=>?_) (λM fr cs w₁ Q c J=>?_) N _ _ _ (p.Ds t) I
 .rcases a with⟨v',b,_⟩|⟨x,b,a⟩
  .exact(DH (b.symm.trans h)).elim
  exact .inr ⟨x,by rw[b],a⟩
 obtain⟨ρ,g',w₂,E,⟨X,W,Bx,cs',e,rfl,D⟩,U,_⟩:=Q;cases e;have k:B.top=true/\(AU fr cs).callers.length=B.lcs.length/\(AU fr cs).frame.mode=.returning/\(AU fr cs).frame.defers=[]:=c.elim (λx=>by rw[C]at x;cases x.1) id;obtain⟨s,V,r⟩:=D.VL k.2.1;have g:fr.fn=f:=(r.flat (d.sQ l).2.1).2.trans S;have u:fr.mode=.returning:=k.2.2.1;have O:fr.defers=[]:=k.2.2.2;have j:cs=[C5 P']:=s.trans hl;subst j;have m:∀w₁,za P' true (AU fr [C5 P']) w₁=.go (AU ((C5 P').finish (fr.tmps.getD i Ze)) []) w₁ (seen P' fr.fn #[]):=λw₁=>by
  rw[BG.2 (by rw[u];intro h;cases h)];exact DV O u r.kind.1 (by rw[g];exact F) (results_tmp n _ _)
 rcases Lq (Qx (m w₁)) J with z|⟨L,rfl,y⟩
 .have:=congrArg List.length (Fi z).2.1
  simp at this
 obtain⟨q,_,K⟩:=Fi (runN_ended (EO Ht) y);rcases a with⟨v,b,a⟩|⟨x,b,_⟩
 .have A:fr.tmps.getD i Ze=v:=Mq (q.trans b)
  refine .inl ⟨c,s,i,n,?_,rfl,_,m⟩;show Post (fr.tmps.getD i Ze) w₁;rw[A,K];exact a
 exact(DH (q.trans b)).elim
end
structure D1 (S:Nat->Prop)(w w₂:Zb):Prop where
 same:∀b,S b->w₂.heap[b]?=w.heap[b]?
 size:w<=w₂.heap.size
 os:w₂.os=w.os
def D1.refl (S:Nat->Prop)(w:Zb):D1 S w w:=⟨λ_ _=>rfl,Zj _,rfl⟩
variable {S:Nat->Prop}
def D1.trans {a b c:Zb}(h:D1 S a b)(k:D1 S b c):D1 S a c:=⟨λx d=>(k.same x d).trans (h.same x d),Zr h.size k.size,k.os.trans h.os⟩
def Ib (S:Nat->Prop)(w w₁:Zb):Nat->Prop:=λb=>S b\/(w<=b/\b<w₁)
def VN (S Lk:Nat->Prop)(e:Z9):Prop:=
 match e.loc with
 | .cell a=>S a.block/\(e.write=true->¬Lk a.block)
 | .obj r=>S r/\(e.write=true->¬Lk r)
 | .mark .noRoom=>True
 | .output=>True
 |_=>False
structure LN (S Lk:Nat->Prop)(w w₁:Zb)(es:Array Z9):Prop where
 size:w<=w₁.heap.size
 still:∀b,b<w.heap.size->¬S b\/Lk b->w₁.heap[b]?=w.heap[b]?
 os:w₁.os=w.os
 tape:w₁.tape=w.tape
 output:w₁.output=w.output
 evs:∀e∈es,VN (Ib S w w₁) Lk e
inductive Xe (P:Zo)(m:Bool)(Lk:Nat->Prop)(Stop:(Nat->Prop)->Zi->Zb->Prop):(Nat->Prop)->Zi->Zb->Prop
 |stop {S:Nat->Prop} {g:Zi} {w:Zb} (h:∀w₂,D1 S w w₂->Stop S g w₂):Xe P m Lk Stop S g w
 |step {S:Nat->Prop} {g:Zi} {w:Zb} (hs:g.status=.running) (GI:Zb->Zi) (EP:Zb->Zb) (I6:Zb->Array Z9)
   (h:∀w₂,D1 S w w₂->za P m g w₂=.go (GI w₂) (EP w₂) (I6 w₂)/\LN S Lk w₂ (EP w₂) (I6 w₂)) (k:∀w₂,D1 S w w₂->Xe P m Lk Stop (Ib S w₂ (EP w₂)) (GI w₂) (EP w₂)):Xe P m Lk Stop S g w
section
variable {P' P:Zo}{B:H9}{m m':Bool}{Lk:Nat->Prop}
variable {g g':Zi}
open Classical in
def Xe.XS {a:(Nat->Prop)->Zi->Zb->Prop}(e:g.status=.running)
 (d:∀w₂,D1 S w w₂->∃c w₁ es,za P m g w₂=.go c w₁ es/\LN S Lk w₂ w₁ es/\Xe P m Lk a (Ib S w₂ w₁) c w₁):Xe P m Lk a S g w:=by
 have b:∀w₂,∃p:Zi×Zb×Array Z9,D1 S w w₂->za P m g w₂=.go p.1 p.2.1 p.2.2/\LN S Lk w₂ p.2.1 p.2.2/\Xe P m Lk a (Ib S w₂ p.2.1) p.1 p.2.1:=by
  intro w₂;by_cases h:D1 S w w₂
  .obtain⟨c,w₁,es,j,i,f⟩:=d w₂ h
   exact⟨(c,w₁,es),λ_=>⟨j,i,f⟩⟩
  exact⟨(g,w,#[]),λx=>absurd x h⟩
 refine .step e (λw₂=>(zo (b w₂)).1) (λw₂=>(zo (b w₂)).2.1) (λw₂=>(zo (b w₂)).2.2) (λw₂ h=>?_) λw₂ h=>?_
 .exact⟨(zv (b w₂) h).1,(zv (b w₂) h).2.1⟩
 exact(zv (b w₂) h).2.2
def Xe.imp {a Stop₂:(Nat->Prop)->Zi->Zb->Prop}(h:Xe P m Lk a S g w)(hi:∀S g w,a S g w->Stop₂ S g w):Xe P m Lk Stop₂ S g w:=by
 induction h with
 |stop h=>exact .stop λw₂ i=>hi _ _ _ (h w₂ i)
 |step c e f d h _ b=>exact .step c e f d h b
def Cw (w:Zb)(b:Nat):Prop:=∃t n,w.shape? b=some (t,n)/\∀a,a<n->w.frozen? ⟨b,a,none⟩=true
def dh (w:Zb)(a:Addr):w.frozen? a=w.frozen? ⟨a.block,a.off,none⟩:=rfl
def Cw.lt {w:Zb}{b:Nat}(h:Cw w b):b<w:=by
 obtain⟨t,n,a,_⟩:=h;unfold Yn at a;cases c:w.heap[b]? with
 |none=>rw[c]at a;cases a
 |some o=>exact(Za.1 c).1
def FL.locked (L:FL ρ σ w w₁ w' w₁' d d'){b:Nat}(h:Cw w b):Cw w₁ b:=by
 have c:=h.lt;obtain⟨t,n,e,g⟩:=h;exact⟨t,n,L.Fw.shape b t n c e,λa f=>L.Fw.frozen _ c (g a f)⟩
def FL.jw (L:FL ρ σ w w₁ w' w₁' d d'){b:Nat}(h:Cw w b)(g:e∈d)(c:e.write=true):(∀a,e.loc=.cell a->a.block≠b)/\e.loc≠ .obj b:=by
 have j:=h.lt;obtain⟨t,n,f,l⟩:=h;refine⟨λa o m=>?_,λk=>?_⟩
 .subst m
  obtain⟨i,p⟩:=L.Fw.Rt e g c a o j;rw[dh,l _ (p t n f)]at i;cases i
 have:=L.Fw.mR e g c b k j;rw[f]at this;cases this
def KI (J:Nat->Obj->Prop)(w:Zb)(b:Nat):Prop:=Cw w b\/∃o,J b o/\w.heap[b]?=some o
def FL.di (L:FL ρ σ w w₁ w' w₁' d d'){b:Nat}(f:Quiet o)(m:b<w)(h:w₁.heap[b]?=some o)(g:e∈d)(c:e.write=true):(∀a,e.loc=.cell a->a.block≠b)/\e.loc≠ .obj b:=by
 obtain⟨l,k⟩:=(L.Fw.awake b o f m h).2 e g c;exact⟨λa j i=>k a i j,l⟩
structure Nr (P' P:Zo)(B:H9)(J:Nat->Obj->Prop)(ρ₀:Ren)(n₀ n₀':Nat)(Lk:Nat->Prop)(S:Nat->Prop)(ρ:Ren)(g:Zi)(w:Zb)(g':Zi)(w':Zb):Prop where
 env:Env P' P ρ
 le:ρ₀.le ρ
 fresh:∀b c,ρ b=some c->ρ₀ b=some c\/(n₀<=b/\n₀'<=c)
 size:n₀<=w.heap.size/\n₀'<=w'.heap.size
 goes:sP P' P B ρ g g'\/aen B ρ g g'\/gd P' P B ρ g g'
 world:WR ρ w w'
 lock:∀c,Lk c->∃b,ρ b=some c/\KI J w b
 holds:∀c,S c↔∃b,ρ b=some c
def WR.rely (h:WR ρ w w')(e:∀c,S c↔∃b,ρ b=some c)(a:D1 S w' w₂):WR ρ w w₂:=by
 refine⟨λb c d=>?_,a.os.trans h.os⟩;obtain⟨o,o',i,g,f⟩:=h.obj b c d;exact⟨o,o',i,by rw[a.same c ((e c).2 ⟨b,d⟩)];exact g,f⟩
def WR.CN (h:WR ρ w w₂):Ii ρ (tp w (λi=>w₂.tape (i - w.drawn+w₂.drawn))) w₂:=
 ⟨h.obj,λi q=>by show w₂.tape (w.drawn+i - w.drawn+w₂.drawn) q=_;rw[Zbl,Nat.add_comm],h.os⟩
variable {Stop:Zi->Zb->Prop}
def Cv.vX (K:Dg P' B m Stop)(h:Cv P' B m Stop g w)(b:Hs B g\/P9 B g):Stop g w:=by
 rcases K.back g w b with a|c
 .exact a
 cases h with
 |stop h=>exact h
 |step e d f w₁ es h k=>
  rcases K.back g (tp w w.tape) b with a|c
  .exact a
  exact absurd (h w.tape) (c _ _ _)
def vY (P' P:Zo)(B:H9)(J:Nat->Obj->Prop)(a:Zi->Zb->Prop)(ρ₀:Ren)(n₀ n₀':Nat)(Lk:Nat->Prop)(S:Nat->Prop)(g':Zi)(w':Zb):Prop:=
 ∃ρ g w,a g w/\Nr P' P B J ρ₀ n₀ n₀' Lk S ρ g w g' w'
def nK (P' P:Zo)(B:H9)(J:Nat->Obj->Prop)(D:Zi->Zb->Prop)(ρ₀:Ren)(n₀ n₀':Nat)(Lk:Nat->Prop)(S:Nat->Prop)(g':Zi)(w':Zb):Prop:=
 ∃ρ g w t,D g w/\gd P' P B ρ g g'/\Nr P' P B J ρ₀ n₀ n₀' Lk S ρ g (tp w t) g' w'
def vZ (P' P:Zo)(B:H9)(J:Nat->Obj->Prop)(D a:Zi->Zb->Prop)(ρ₀:Ren)(n₀ n₀':Nat)(Lk:Nat->Prop)(S:Nat->Prop)(g':Zi)(w':Zb):Prop:=
 vY P' P B J a ρ₀ n₀ n₀' Lk S g' w'\/nK P' P B J D ρ₀ n₀ n₀' Lk S g' w'
def Cv.Ds (c:∀g w t,Stop g w->Stop g (tp w t))(h:Cv P' B m Stop g w)(t:Tape):Cv P' B m Stop g (tp w t):=by
 cases h with
 |stop h=>exact .stop (c _ _ _ h)
 |step b a d w₁ es h k=>exact .step b a d w₁ es (λt'=>h t') k
def XT {B:H9}(h:sP P' P B ρ g g'):g'.status=.running:=by
 obtain⟨fr,b,Bx,a,_,rfl,_⟩:=h
 rfl
variable {J:Nat->Obj->Prop}
def KL (T:Twins P' P)(hd:BP<=P.depth)(hB:B.LM)(K:Dg P' B m Stop){D:Zi->Zb->Prop}(hD:∀g w t Z w₁ es,D g w->¬BQ B g->za P' m g (tp w t)=.go Z w₁ es->D Z w₁){ρ₀:Ren}{n₀ n₀':Nat}(M:∀b o,J b o->Quiet o/\b<n₀)(hJ:∀g w,D g w->n₀<=w.heap.size->Cv P' B m Stop g w->∀b o,J b o->w.heap[b]?=some o)(hX:∀σ g w,ρ₀.le σ->UB B σ g->¬Stop g w)(hM:Cv P' B m Stop g w)(X:D g w):
  ∀(S:Nat->Prop) (ρ:Ren) (g':Zi) (w':Zb),Nr P' P B J ρ₀ n₀ n₀' Lk S ρ g w g' w'->Xe P m' Lk (vZ P' P B J D Stop ρ₀ n₀ n₀' Lk) S g' w':=by
 have stop:∀(g:Zi) (w:Zb),Stop g w->∀(S:Nat->Prop) (ρ:Ren) (g':Zi) (w':Zb),Nr P' P B J ρ₀ n₀ n₀' Lk S ρ g w g' w'->Xe P m' Lk (vZ P' P B J D Stop ρ₀ n₀ n₀' Lk) S g' w':=by
  intro g w h S ρ g' w' H;refine .stop λw₂ l=>.inl ⟨ρ,g,w,h,H.env,H.le,H.fresh,⟨H.size.1,Zr H.size.2 l.size⟩,H.goes,H.world.rely H.holds l,H.lock,H.holds⟩
 induction hM with
 |stop h=>exact stop _ _ h
 | @step g w R ac Z w₁ es h k Q=>
  intro S ρ g' w' H;have Q:=λt=>Q t (hD _ _ t _ _ _ X R (h t));have hQ:=λt hz=>hJ _ _ (hD _ _ t _ _ _ X R (h t)) hz (k t);rcases H.goes with hG|f|Jv
  .refine Xe.XS (XT hG) λw₂ l=>?_
   have G:=(H.world.rely H.holds l).CN;generalize ht:(λi=>w₂.tape (i - w.drawn+w₂.drawn))=t at G;obtain⟨Bs,DZ,vT,hg,hx⟩:=RS (m:=m) (m':=m') T H.env hd hB hG R G (λo u e=>by rw[h t];intro x;cases x);rw[h t]at hg;cases hg;rcases hx with⟨σ,U,n,_⟩|⟨σ,w₁',C9,BA,L,hs,hO,_⟩
   .exact absurd ((k t).vX K (.inr n.lost)) (hX σ _ _ (Ren.le_trans H.le U) n)
   have v_:=hQ t (Zr H.size.1 L.Fw.size);have j:∀ {b:Nat},KI J w b->∀ {e:Z9},e∈es t->e.write=true->(∀a,e.loc=.cell a->a.block≠b)/\e.loc≠ .obj b:=by
    rintro b (n|⟨o,I,_⟩) e q G
    .exact L.jw (b:=b) n q G
    exact L.di (M b o I).1 (Zl (M b o I).2 H.size.1) (v_ b o I) q G
   refine⟨C9,w₁',BA,hs,⟨L.Fw.Nf,λb f d=>?_,L.Fw.os,L.Fw.tape,L.Fw.output,λe' V=>?_⟩,Q t _ σ C9 w₁' ⟨H.env.mono L.le,Ren.le_trans H.le L.le,λb c E=>?_,⟨Zr H.size.1 L.Fw.size,Zr H.size.2 (Zr l.size L.Fw.Nf)⟩,hO,L.world,λc d=>?_,λc=>?_⟩⟩
   .rcases L.Fw.still b f with x|⟨N,h0,x⟩
    .exact x
    exfalso;rcases d with d|d
    .exact d ((H.holds b).2 ⟨N,h0⟩)
    obtain⟨W,A,s⟩:=H.lock b d;obtain rfl:=ρ.inj _ _ _ h0 A;rcases x with x|⟨e,q,C,⟨a,z,wa⟩|I⟩
    .exact x
    .exact(j s q C).1 a wa z
    exact(j s q C).2 I
   .obtain⟨e,q,Y⟩:=L.evs.right V
    have p:∀b c,σ b=some c->Ib S w₂ w₁' c:=by
     intro b c E;rcases L.Fw.fresh b c E with x|⟨_,x⟩
     .exact .inl ((H.holds c).2 ⟨b,x⟩)
     exact .inr ⟨x,(L.world.lt E).2⟩
    have F:∀b c,σ b=some c->Lk c->KI J w b:=by
     intro b c E d;obtain⟨W,A,s⟩:=H.lock c d;obtain rfl:=σ.inj _ _ _ E (L.le.1 _ _ A);exact s
    have O:=Y.loc;unfold VN;cases n:e.loc<;>cases Ka:e'.loc<;>rw[n,Ka]at O<;>cases O
    .rename_i z
     exact⟨p _ _ z.1,λC d=>(j (F _ _ z.1 d) q (Y.write▸C)).1 _ n rfl⟩
    .rename_i z
     exact⟨p _ _ z,λC d=>(j (F _ _ z d) q (Y.write▸C)).2 n⟩
    .trivial
    rename_i hm;cases hm;trivial
   .rcases L.Fw.fresh b c E with x|⟨x,y⟩
    .exact H.fresh b c x
    exact .inr ⟨Zr H.size.1 x,Zr (Zr H.size.2 l.size) y⟩
   .obtain⟨b,A,s⟩:=H.lock c d
    exact⟨b,L.le.1 _ _ A,s.elim (λx=>.inl (L.locked (w:=tp w t) x)) λ⟨o,x,_⟩=>.inr ⟨o,x,v_ b o x⟩⟩
   constructor
   .rintro(x|⟨x,y⟩)
    .obtain⟨b,f⟩:=(H.holds c).1 x
     exact⟨b,L.le.1 _ _ f⟩
    obtain⟨b,f,_⟩:=L.Fw.new c x y;exact⟨b,f⟩
   rintro⟨b,f⟩;rcases L.Fw.fresh b c f with x|⟨_,x⟩
   .exact .inl ((H.holds c).2 ⟨b,x⟩)
   exact .inr ⟨x,(L.world.lt f).2⟩
  .obtain⟨_,c,r,c',r',v,v',A,_,_,s,_⟩:=f
   rcases K.back g w (.inl ⟨c,r,v,A,s⟩) with h|KJ
   .exact stop _ _ h S ρ g' w' H
   exact absurd (h w.tape) (KJ _ _ _)
  refine .stop λw₂ l=>.inr ⟨ρ,g,w,w.tape,X,Jv,H.env,H.le,H.fresh,⟨H.size.1,Zr H.size.2 l.size⟩,H.goes,H.world.rely H.holds l,H.lock,H.holds⟩
def Mr (T:Twins P' P)(n:BP<=P.depth)(t:B.LM)(K:Dg P' B m Stop)(c:∀b o,J b o->Quiet o)(e:∀g w,Stop g w->∀b o,J b o->w.heap[b]?=some o)(s:Cv P' B m Stop g w):
  (Fx P' P B g w\/Hs B g\/P9 B g)->∀b o,J b o->b<w.heap.size->w.heap[b]?=some o:=by
 induction s with
 |stop h=>exact λ_ b o a _=>e _ _ h b o a
 | @step g w l _ x w₁ es h k f=>
  rintro(q|j) b o a d
  .obtain⟨r,_,_,_,i,p⟩:=(q.Ds w.tape).step T n t l (h w.tape)
   exact p b o (c b o a) d (f w.tape r b o a (Zl d i))
  rcases K.back g w j with u|v
  .exact e _ _ u b o a
  exact absurd (h w.tape) (v _ _ _)
end
end Go.FA
