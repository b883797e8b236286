/- Part of a proof. -/
import Derived.Conc.Beside
set_option maxRecDepth 100000
set_option maxHeartbeats 6400000
open Array renaming getElem?_eq_some_iff→Za,getElem?_eq_getElem→ZB,getElem?_push→Yx,getElem?_setIfInBounds→Z3,getElem?_map→Yi,replicate→Yd,getD_eq_getD_getElem?→YO,getElem?_modify→Zag,mem_append→Zaw,range→YB,forIn_toList→YV,all_eq_true_iff_forall_mem→Yc,filter→ZR
open Bool renaming and_eq_true→ZD
open Go renaming FuncId→YT,Value→Zc,TypeId→Zs,undef→Ze,World→Zb,Event→ZU,Program→Zp,askRoom→Zah,runtimePanic→zw,boundsPanic→ZaK
open Go.Instr renaming sliceAt→Zay,checkKey→Yt,findNow→Zaz,findAsking→zL,findKey→YX,fill→Zad,sameBits→zs,keyThatStays→zX,lookup→ZaR,mapUpdate→ZaJ
open Go.Op renaming equal→Y0
open Go.Sem renaming runT_bind'→Z8,runT→ZF
open Go.Value renaming slice→Zy,tuple→YP
open Go.World renaming cell?→zJ,shape?→Ys,frozen?→Yu,setCell→Z1
open Nat renaming le_refl→Zj,le_trans→Zx,lt_of_lt_of_le→Zl,lt_or_ge→Zae
open Nat.succ renaming inj→ZC
open Option renaming map_eq_some_iff→zd
open Option.some renaming inj→Z2,injEq→ZI
namespace Go.BK
open Go
structure OL where
 val:YT→Bool
 Mz:YT→Bool
 dir:YT→Nat→Bool
 low:Nat
instance:CoeFun OL (fun _=>YT→Bool):=⟨OL.val⟩
structure Ren where
 map:Nat→Option Nat
 ok:OL
 good:Code→Bool
 sp:YT→Bool
 inj:∀b qa c,map b=some c→map qa=some c→b=qa
 base:map ok.low=some ok.low
 sep:∀b c,map b=some c→(b<ok.low↔c<ok.low)
instance:CoeFun Ren (fun _=>Nat→Option Nat):=⟨Ren.map⟩
def Ren.le (ρ σ:Ren):Prop:=(∀b c,ρ b=some c→σ b=some c)∧σ.ok=ρ.ok∧σ.good=ρ.good∧σ.sp=ρ.sp
theorem Ren.le_refl (ρ:Ren):ρ.le ρ:=⟨fun _ _ h=>h,rfl,rfl,rfl⟩
theorem Ren.le_trans {ρ σ τ:Ren}(h:ρ.le σ)(k:σ.le τ):ρ.le τ:=⟨fun b c x=>k.1 b c (h.1 b c x),k.2.1.trans h.2.1,k.2.2.1.trans h.2.2.1,k.2.2.2.trans h.2.2.2⟩
def Ren.PT (ρ:Ren)(r r':Nat):Prop:=(∀b,ρ b≠some r')∧ρ.ok.low<r∧ρ.ok.low<r'
def Ren.ext (ρ:Ren)(r r':Nat)(h:ρ.PT r r'):Ren where
 map:=fun b=>if b=r then some r' else ρ b
 ok:=ρ.ok
 good:=ρ.good
 sp:=ρ.sp
 inj:=by
  intro b qa c hb J2;split at hb<;>split at J2
  ·omega
  ·cases hb;exact absurd J2 (h.1 _)
  ·cases J2;exact absurd hb (h.1 _)
  ·exact ρ.inj _ _ _ hb J2
 base:=by
  have:=h.2.1;rw[if_neg (by omega)];exact ρ.base
 sep:=by
  intro b c hb;have h1:=h.2.1;have h2:=h.2.2;split at hb
  ·cases hb;omega
  ·exact ρ.sep b c hb
def AR (ρ:Ren)(a a':Addr):Prop:=ρ a.block=some a'.block∧a'.off=a.off∧a'.spot=a.spot
def Nx (ρ:Ren):Option Addr→Option Addr→Prop
 |none,none=>True
 |some a,some a'=>AR ρ a a'
 |_,_=>False
def QG (ρ:Ren):Option Nat→Option Nat→Prop
 |none,none=>True
 |some a,some a'=>ρ a=some a'
 |_,_=>False
inductive kK (ρ:Ren):Fn→Fn→Prop
 |func {f:YT} (h:ρ.ok f=true):kK ρ (.func f) (.func f)
 |yield {l l':Nat} (h:ρ l=some l'):kK ρ (.yield l) (.yield l')
def ac3:Zc→Bool
 | .pointer (some _)| .slice (some _) _ _| .map (some _)| .chan (some _)| .iface .. | .float .. | .complex .. =>true
 | .func (.method _) _ _=>false
 | .func .. =>true
 |_=>false
theorem bE {v:Zc}(h:ac3 v=true):v.cells= #[v]:=by cases v<;>first|rfl|cases h
def tJ:Zc:=.func (.method "") #[.iface 0 (.tuple #[])] #[]
inductive VR (ρ:Ren):Zc→Zc→Prop
 |bool (b:Bool):VR ρ (.bool b) (.bool b)
 |int (k:IntKind) (n:Int):VR ρ (.int k n) (.int k n)
 |string (s:ByteArray):VR ρ (.string s) (.string s)
 |pointer {a a':Option Addr} (h:Nx ρ a a'):VR ρ (.pointer a) (.pointer a')
 |slice {a a':Option Addr} (n c:Nat) (h:Nx ρ a a'):VR ρ (.slice a n c) (.slice a' n c)
 |map {r r':Option Nat} (h:QG ρ r r'):VR ρ (.map r) (.map r')
 |chan {r r':Option Nat} (h:QG ρ r r'):VR ρ (.chan r) (.chan r')
 |func {fn Qj:Fn} {a a' c c':Array Zc} (h:kK ρ fn Qj) (ha:a.size=a'.size) (wA:∀(i:Nat) v v',a[i]?=some v→a'[i]?=some v'→VR ρ v v')
   (hc:c.size=c'.size) (JN:∀(i:Nat) v v',c[i]?=some v→c'[i]?=some v'→VR ρ v v'):VR ρ (.func fn a c) (.func Qj a' c')
 |nilFunc:VR ρ .nilFunc .nilFunc
 |iface (t:Zs) {v v':Zc} (h:VR ρ v v'):VR ρ (.iface t v) (.iface t v')
 |nilIface:VR ρ .nilIface .nilIface
 |agg {c c':Array Zc} (hc:c.size=c'.size) (JN:∀(i:Nat) v v',c[i]?=some v→c'[i]?=some v'→VR ρ v v'):VR ρ (.agg c) (.agg c')
 |tuple {c c':Array Zc} (hc:c.size=c'.size) (JN:∀(i:Nat) v v',c[i]?=some v→c'[i]?=some v'→VR ρ v v'):VR ρ (.tuple c) (.tuple c')
 |Eo {v':Zc} (h:ac3 v'=true):VR ρ (.tuple #[]) v'
 |meth (n:String) (f c:Array Zc):VR ρ (.func (.method "") #[.iface 0 (.tuple #[])] #[]) (.func (.method n) f c)
inductive Eg {α β:Type}(R:α→β→Prop):List α→List β→Prop
 |nil:Eg R [] []
 |cons {x:α} {y:β} {l:List α} {m:List β} (h:R x y) (t:Eg R l m):Eg R (x::l) (y::m)
theorem Eg.mono {α β:Type}{R S:α→β→Prop}{l:List α}{m:List β}(h:Eg R l m)(hs:∀x y,R x y→S x y):Eg S l m:=by
 induction h with
 |nil=>exact .nil
 |cons h _ ih=>exact .cons (hs _ _ h) ih
theorem Eg.append {α β:Type}{R:α→β→Prop}{l l':List α}{m m':List β}(h:Eg R l m)(k:Eg R l' m'):Eg R (l++l') (m++m'):=by
 induction h with
 |nil=>exact k
 |cons h _ ih=>exact .cons h ih
def Bt {α β:Type}(R:α→β→Prop)(a:Array α)(b:Array β):Prop:=a.size=b.size∧∀(i:Nat) x y,a[i]?=some x→b[i]?=some y→R x y
abbrev BN (ρ:Ren):Array Zc→Array Zc→Prop:=Bt (VR ρ)
section
variable {α β:Type}{R:α→β→Prop}{a:Array α}{b:Array β}
theorem Bt.get {i:Nat}{x:α}(h:Bt R a b)(hx:a[i]?=some x):∃y,b[i]?=some y∧R x y:=by
 obtain⟨hi,rfl⟩:=Za.1 hx;have Df:i<b.size:=h.1▸hi;exact⟨b[i],ZB Df,h.2 i _ _ hx (ZB Df)⟩
theorem Bt.gone {i:Nat}(h:Bt R a b)(hx:a[i]?=none):b[i]?=none:=by
 rw[Array.getElem?_eq_none_iff]at*;rw[←h.1];exact hx
theorem Bt.opt (h:Bt R a b)(i:Nat):(a[i]?=none∧b[i]?=none)∨∃x y,a[i]?=some x∧b[i]?=some y∧R x y:=by
 cases hx:a[i]? with
 |none=>exact .inl ⟨rfl,h.gone hx⟩
 |some x=>obtain⟨y,hy,hr⟩:=h.get hx;exact .inr ⟨x,y,rfl,hy,hr⟩
theorem Bt.nil:Bt R #[] #[]:=⟨rfl,fun i x y h=>by simp at h⟩
theorem Bt.mono {S:α→β→Prop}(h:Bt R a b)(hs:∀x y,R x y→S x y):Bt S a b:=⟨h.1,fun i x y hx hy=>hs _ _ (h.2 i x y hx hy)⟩
theorem Bt.push {x:α}{y:β}(h:Bt R a b)(hr:R x y):Bt R (a.push x) (b.push y):=by
 refine⟨by simp[h.1],fun i u v hu hv=>?_⟩;rw[Yx]at hu hv;rw[h.1]at hu;split at hu
 ·rw[if_pos ‹_›]at hv
  cases hu;cases hv;exact hr
 ·rw[if_neg ‹_›]at hv
  exact h.2 i u v hu hv
theorem Bt.append {a':Array α}{b':Array β}(h:Bt R a b)(h':Bt R a' b'):Bt R (a++a') (b++b'):=by
 refine⟨by simp[h.1,h'.1],fun i u v hu hv=>?_⟩;rw[Array.getElem?_append]at hu hv;rw[h.1]at hu;split at hu
 ·rw[if_pos ‹_›]at hv;exact h.2 i u v hu hv
 ·rw[if_neg ‹_›]at hv;exact h'.2 _ u v hu hv
theorem Bt.set {x:α}{y:β}(h:Bt R a b)(hr:R x y)(j:Nat):Bt R (a.setIfInBounds j x) (b.setIfInBounds j y):=by
 refine⟨by simp[h.1],fun i u v hu hv=>?_⟩;rw[Z3]at hu hv;rw[h.1]at hu;split at hu
 ·rw[if_pos ‹_›]at hv
  split at hu
  ·rw[if_pos ‹_›]at hv;cases hu;cases hv;exact hr
  ·rw[if_neg ‹_›]at hv;cases hu
 ·rw[if_neg ‹_›]at hv;exact h.2 i u v hu hv
theorem Bt.extract (h:Bt R a b)(s e:Nat):Bt R (a.extract s e) (b.extract s e):=by
 refine⟨by simp[h.1],fun i u v hu hv=>?_⟩;rw[Array.getElem?_extract]at hu hv;rw[h.1]at hu;split at hu
 ·rw[if_pos ‹_›]at hv;exact h.2 _ u v hu hv
 ·cases hu
theorem Bt.map {α' β':Type}{S:α'→β'→Prop}{f:α→α'}{g:β→β'}(h:Bt R a b)(hs:∀x y,R x y→S (f x) (g y)):Bt S (a.map f) (b.map g):=by
 refine⟨by simp[h.1],fun i u v hu hv=>?_⟩;rw[Yi,zd]at hu hv;obtain⟨x,hx,rfl⟩:=hu;obtain⟨y,hy,rfl⟩:=hv;exact hs _ _ (h.2 i x y hx hy)
theorem Bt.single {x:α}{y:β}(h:R x y):Bt R #[x] #[y]:=Bt.push (a:= #[]) (b:= #[]) Bt.nil h
theorem Bt.list (h:Bt R a b):Eg R a.toList b.toList:=by
 have key:∀(l:List α) (m:List β),l.length=m.length→(∀(i:Nat) x y,l[i]?=some x→m[i]?=some y→R x y)→Eg R l m:=by
  intro l
  induction l with
  |nil=>intro m hm _;cases m with
   |nil=>exact .nil
   |cons _ _=>simp at hm
  |cons x l ih=>intro m hm hr;cases m with
   |nil=>simp at hm
   |cons y m=>exact .cons (hr 0 x y rfl rfl) (ih m (by simpa using hm) fun i u v hu hv=>hr (i+1) u v (by simpa using hu) (by simpa using hv))
 exact key _ _ (by rw[Array.length_toList,Array.length_toList];exact h.1) fun i x y hx hy=>h.2 i x y (by simpa using hx) (by simpa using hy)
theorem Bt.dZ {l:List α}{m:List β}(h:Eg R l m):Bt R l.toArray m.toArray:=by
 induction h with
 |nil=>exact Bt.nil
 | @cons x y l m hr _ ih=>
  have:=(Bt.single hr).append ih;simpa using this
theorem Bt.replicate {x:α}{y:β}(n:Nat)(h:R x y):Bt R (Yd n x) (Yd n y):=
 ⟨by simp,fun i u v hu hv=>by
  rw[Array.getElem?_replicate]at hu hv;split at hu
  ·rw[if_pos ‹_›]at hv;cases hu;cases hv;exact h
  ·cases hu⟩
end
theorem kK.mono {ρ σ:Ren}(h:ρ.le σ){f f':Fn}(x:kK ρ f f'):kK σ f f':=by
 cases x with
 |func f=>exact .func (h.2.1▸f)
 |yield l=>exact .yield (h.1 _ _ l)
theorem AR.mono {ρ σ:Ren}(h:ρ.le σ){a a':Addr}(x:AR ρ a a'):AR σ a a':=⟨h.1 _ _ x.1,x.2⟩
theorem Nx.mono {ρ σ:Ren}(h:ρ.le σ){a a':Option Addr}(x:Nx ρ a a'):Nx σ a a':=by
 cases a<;>cases a'<;>first|exact x|exact AR.mono h x
theorem QG.mono {ρ σ:Ren}(h:ρ.le σ){a a':Option Nat}(x:QG ρ a a'):QG σ a a':=by
 cases a<;>cases a'<;>first|exact x|exact h.1 _ _ x
theorem VR.mono {ρ σ:Ren}(h:ρ.le σ){v v':Zc}(x:VR ρ v v'):VR σ v v':=by
 induction x with
 |bool b=>exact .bool b
 |int k n=>exact .int k n
 |string s=>exact .string s
 |pointer x=>exact .pointer (x.mono h)
 |slice n c x=>exact .slice n c (x.mono h)
 |map x=>exact .map (x.mono h)
 |chan x=>exact .chan (x.mono h)
 |func x ha _ hc _ iha ihc=>exact .func (x.mono h) ha iha hc ihc
 |nilFunc=>exact .nilFunc
 |iface t _ ih=>exact .iface t ih
 |nilIface=>exact .nilIface
 |agg hc _ ih=>exact .agg hc ih
 |tuple hc _ ih=>exact .tuple hc ih
 |Eo h=>exact .Eo h
 |meth n f c=>exact .meth n f c
theorem BN.mono {ρ σ:Ren}(h:ρ.le σ){a b:Array Zc}(x:BN ρ a b):BN σ a b:=Bt.mono x fun _ _=>VR.mono h
theorem VR.PU {ρ:Ren}{a b:Array Zc}(h:BN ρ a b):VR ρ (.agg a) (.agg b):=.agg h.1 h.2
theorem VR.tuple' {ρ:Ren}{a b:Array Zc}(h:BN ρ a b):VR ρ (.tuple a) (.tuple b):=.tuple h.1 h.2
theorem VR.Wm {ρ:Ren}{f f':Fn}{a a' c c':Array Zc}(h:kK ρ f f')(ha:BN ρ a a')(hc:BN ρ c c'):VR ρ (.func f a c) (.func f' a' c'):=.func h ha.1 ha.2 hc.1 hc.2
theorem VR.undef (ρ:Ren):VR ρ Ze Ze:=.tuple' Bt.nil
theorem VR.cells {ρ:Ren}{v v':Zc}(h:VR ρ v v'):BN ρ v.cells v'.cells:=by
 cases h with
 |agg hc hv=>exact⟨hc,hv⟩
 |bool b=>exact Bt.single (.bool b)
 |int k n=>exact Bt.single (.int k n)
 |string s=>exact Bt.single (.string s)
 |pointer x=>exact Bt.single (.pointer x)
 |slice n c x=>exact Bt.single (.slice n c x)
 |map x=>exact Bt.single (.map x)
 |chan x=>exact Bt.single (.chan x)
 |func x ha wA hc JN=>exact Bt.single (.func x ha wA hc JN)
 |nilFunc=>exact Bt.single .nilFunc
 |iface t x=>exact Bt.single (.iface t x)
 |nilIface=>exact Bt.single .nilIface
 |tuple hc hv=>exact Bt.single (.tuple hc hv)
 |Eo h=>rw[bE h];exact Bt.single (.Eo h)
 |meth n f c=>exact Bt.single (.meth n f c)
theorem VR.getD {ρ:Ren}{a b:Array Zc}{d d':Zc}(h:BN ρ a b)(hd:VR ρ d d')(i:Nat):VR ρ (a.getD i d) (b.getD i d'):=by
 rw[YO,YO];rcases h.opt i with⟨h1,h2⟩|⟨x,y,h1,h2,hr⟩
 ·rw[h1,h2];exact hd
 ·rw[h1,h2];exact hr
def wB (f f':Nat×Nat):Prop:=f'=f∨f'.2≤f'.1∨(f.1≤f'.1∧f'.2≤f.2)
def okB:Builtin→Bool
 | .append| .cap| .copy| .len| .max| .min=>true
 |_=>false
inductive TgR (ρ:Ren):Target→Target→Prop
 |fn {f f':Fn} {c c':Array Zc} (h:kK ρ f f') (hc:BN ρ c c'):TgR ρ (.fn f c) (.fn f' c')
 |nil:TgR ρ .nil .nil
 |builtin {b:Builtin} (h:okB b=true) (a:Array Zs) (t:Zs) (c:Array Bool):TgR ρ (.builtin b a t c) (.builtin b a t c)
 |collected {r r':Nat} (h:ρ r=some r'):TgR ρ (.collected r) (.collected r')
structure DfR (ρ:Ren)(d d':Deferred):Prop where
 target:TgR ρ d.target d'.target
 args:BN ρ d.args d'.args
inductive d_ (ρ:Ren):Deferred→Deferred→Prop
 |mk {b b':Nat} {a a':Array Zc} (h:ρ b=some b'):d_ ρ {target:=.collected b,args:=a} {target:=.collected b',args:=a'}
structure LpR (ρ:Ren)(l l':Loop):Prop where
 state:l'.state=l.state
 pending:l'.pending=l.pending
 fn:l'.fn=l.fn
 tmps:BN ρ l.tmps l'.tmps
 params:l'.params=l.params
 assign:l'.assign=l.assign
 body:l'.body=l.body
 run:ρ.ok.Mz l.fn=true∧ρ.sp l.fn=false
 fine:ρ.good l.assign=true∧ρ.good l.body=true∧∀c,l.pending=some c→ρ.good c=true
 defers:ρ l.defers=some l'.defers
structure NG (ρ:Ren)(e e':MapEntry):Prop where
 key:VR ρ e.key e'.key
 val:VR ρ e.val e'.val
 born:e'.born=e.born
def OM:Obj→Bool
 | .cells _ _ _| .pending _ _| .view _ _| .number _ _=>false
 |_=>true
inductive Quiet:Obj→Prop
 |coro:Quiet (.coro none)
 |number (a:Addr) (l:Bool):Quiet (.number a l)
inductive OR (ρ:Ren):Obj→Obj→Prop
 |cells {c c':Array Zc} (e:Zs) {f f':Nat×Nat} (h:BN ρ c c') (hf:wB f f'):OR ρ (.cells c e f) (.cells c' e f')
 |map {es Bu:Array MapEntry} (k:Nat) (h:Bt (NG ρ) es Bu):OR ρ (.map es k) (.map Bu k)
 |chan (cap:Nat) {b b':Array Zc} (cl:Bool) (s r:Nat) (tm:Bool) (h:BN ρ b b'):OR ρ (.chan cap b cl s r tm) (.chan cap b' cl s r tm)
 |stringIter (s:ByteArray) (p:Nat):OR ρ (.stringIter s p) (.stringIter s p)
 |mapIter {m m':Option Nat} (a:Nat) (s:Array Nat) (k:Nat) (h:QG ρ m m'):OR ρ (.mapIter m a s k) (.mapIter m' a s k)
 |number {a a':Addr} (lost:Bool) (h:AR ρ a a'):OR ρ (.number a lost) (.number a' lost)
 |loop {l l':Loop} (h:LpR ρ l l'):OR ρ (.loop l) (.loop l')
 |EU:OR ρ (.deferred none) (.deferred none)
 |junk {o':Obj} (h:OM o'=true):OR ρ (.coro none) o'
 |deferred:OR ρ (.deferred (some [])) (.deferred (some []))
theorem d_.mono {ρ σ:Ren}(hle:ρ.le σ){d d':Deferred}(h:d_ ρ d d'):d_ σ d d':=by
 cases h with
 |mk h=>exact .mk (hle.1 _ _ h)
theorem LpR.mono {ρ σ:Ren}(h:ρ.le σ){l l':Loop}(x:LpR ρ l l'):LpR σ l l':=⟨x.state,x.pending,x.fn,BN.mono h x.tmps,x.params,x.assign,x.body,by rw[h.2.1,h.2.2.2];exact x.run,by rw[h.2.2.1];exact x.fine,h.1 _ _ x.defers⟩
theorem NG.mono {ρ σ:Ren}(h:ρ.le σ){e e':MapEntry}(x:NG ρ e e'):NG σ e e':=⟨x.key.mono h,x.val.mono h,x.born⟩
theorem OR.mono {ρ σ:Ren}(h:ρ.le σ){o o':Obj}(x:OR ρ o o'):OR σ o o':=by
 cases x with
 |cells e c f=>exact .cells e (BN.mono h c) f
 |map k e=>exact .map k (Bt.mono e fun _ _=>NG.mono h)
 |chan cap cl s r tm b=>exact .chan cap cl s r tm (BN.mono h b)
 |stringIter s p=>exact .stringIter s p
 |mapIter a s k m=>exact .mapIter a s k (m.mono h)
 |number l a=>exact .number l (a.mono h)
 |loop l=>exact .loop (l.mono h)
 |EU=>exact .EU
 |junk h=>exact .junk h
 |deferred=>exact .deferred
structure WR (ρ:Ren)(w w':Zb):Prop where
 obj:∀b c,ρ b=some c→∃o o',w.heap[b]?=some o∧w'.heap[c]?=some o'∧OR ρ o o'
 os:w'.os=w.os
structure Hv (ρ:Ren)(w w':Zb):Prop where
 obj:∀b c,ρ b=some c→∃o o',w.heap[b]?=some o∧w'.heap[c]?=some o'∧OR ρ o o'
 tape:∀i q,w.tape (w.drawn+i) q=w'.tape (w'.drawn+i) q
 os:w'.os=w.os
theorem Hv.wr {ρ:Ren}{w w':Zb}(h:Hv ρ w w'):WR ρ w w':=⟨h.obj,h.os⟩
theorem WR.lt {ρ:Ren}{w w':Zb}(h:WR ρ w w'){b c:Nat}(hb:ρ b=some c):b<w.heap.size∧c<w'.heap.size:=by
 obtain⟨o,o',h1,h2,_⟩:=h.obj b c hb;exact⟨(Za.1 h1).1,(Za.1 h2).1⟩
inductive wC (ρ:Ren):Mark→Mark→Prop
 |noRoom:wC ρ .noRoom .noRoom
inductive tK (ρ:Ren):Loc→Loc→Prop
 |cell {a a':Addr} (h:AR ρ a a'):tK ρ (.cell a) (.cell a')
 |obj {r r':Nat} (h:ρ r=some r'):tK ρ (.obj r) (.obj r')
 |mark {m m':Mark} (h:wC ρ m m'):tK ρ (.mark m) (.mark m')
 |output:tK ρ .output .output
structure pv (ρ:Ren)(e e':ZU):Prop where
 loc:tK ρ e.loc e'.loc
 write:e'.write=e.write
 sync:e'.sync=e.sync∨∃r,e'.loc=.obj r
theorem wC.mono {ρ σ:Ren}(_:ρ.le σ){m m':Mark}(x:wC ρ m m'):wC σ m m':=by
 cases x with
 |noRoom=>exact .noRoom
theorem tK.mono {ρ σ:Ren}(h:ρ.le σ){l l':Loc}(x:tK ρ l l'):tK σ l l':=by
 cases x with
 |cell a=>exact .cell (a.mono h)
 |obj r=>exact .obj (h.1 _ _ r)
 |mark m=>exact .mark (m.mono h)
 |output=>exact .output
theorem pv.mono {ρ σ:Ren}(h:ρ.le σ){e e':ZU}(x:pv ρ e e'):pv σ e e':=⟨x.loc.mono h,x.write,x.sync⟩
def GG:Halt→Prop
 | .stuck _=>True
 | .unsupported (.initOrder _)=>False
 | .unsupported _=>True
 |_=>False
inductive Al (P' P:Zp)(fz:Prop){α β:Type}(Q:Ren→α→β→Prop):Ren→Sem α→Sem β→Prop
 |pure {ρ:Ren} {a:α} {b:β} (h:Q ρ a b):Al P' P fz Q ρ (.pure a) (.pure b)
 |load {ρ:Ren} {a a':Addr} {k:Zc→Sem α} {k':Zc→Sem β} (m:Mode) (ha:AR ρ a a') (h:∀v v',VR ρ v v'→Al P' P fz Q ρ (k v) (k' v')):Al P' P fz Q ρ (.load m a k) (.load m a' k')
 |store {ρ:Ren} {a a':Addr} {v v':Zc} {k:Sem α} {k':Sem β} (m:Mode) (ha:AR ρ a a') (hv:VR ρ v v') (h:Al P' P fz Q ρ k k'):Al P' P fz Q ρ (.store m a v k) (.store m a' v' k')
 |new {ρ:Ren} {o o':Obj} {k:Nat→Sem α} {k':Nat→Sem β} (ho:OR ρ o o') (h:∀r r' σ,ρ.le σ→σ r=some r'→Al P' P fz Q σ (k r) (k' r')):Al P' P fz Q ρ (.new o k) (.new o' k')
 |shape {ρ:Ren} {r r':Nat} {k:Option (Zs×Nat)→Sem α} {k':Option (Zs×Nat)→Sem β} (hr:ρ r=some r') (h:∀s,Al P' P fz Q ρ (k s) (k' s)):Al P' P fz Q ρ (.shape r k) (.shape r' k')
 |frozen {ρ:Ren} {a a':Addr} {k:Bool→Sem α} {k':Bool→Sem β} (ha:AR ρ a a') (h:∀b b',(b'=true→b=true)→Al P' P fz Q ρ (k b) (k' b')):Al P' P fz Q ρ (.frozen a k) (.frozen a' k')
 |getObj {ρ:Ren} {r r':Nat} {k:Obj→Sem α} {k':Obj→Sem β} (hr:ρ r=some r') (h:∀o o',OR ρ o o'→Al P' P fz Q ρ (k o) (k' o')):Al P' P fz Q ρ (.getObj r k) (.getObj r' k')
 |setObj {ρ:Ren} {r r':Nat} {o o':Obj} {k:Sem α} {k':Sem β} (hr:ρ r=some r') (ho:OR ρ o o') (hn:¬Quiet o) (h:Al P' P fz Q ρ k k'):Al P' P fz Q ρ (.setObj r o k) (.setObj r' o' k')
 |choose {ρ:Ren} {k:Nat→Sem α} {k':Nat→Sem β} (q:Question) (h:∀n,Al P' P fz Q ρ (k n) (k' n)):Al P' P fz Q ρ (.choose q k) (.choose q k')
 |program {ρ:Ren} {k:Zp→Sem α} {k':Zp→Sem β} (h:Al P' P fz Q ρ (k P') (k' P)):Al P' P fz Q ρ (.program k) (.program k')
 |mark {ρ:Ren} {m m':Mark} {k:Sem α} {k':Sem β} (hm:wC ρ m m') (h:Al P' P fz Q ρ k k'):Al P' P fz Q ρ (.mark m k) (.mark m' k')
 |env {ρ:Ren} {k:SysRet→Sem α} {k':SysRet→Sem β} (h:∀r,Al P' P fz Q ρ (k r) (k' r)):Al P' P fz Q ρ (.sys .env k) (.sys .env k')
 |bad {ρ:Ren} {x:Halt} {s':Sem β} (h:GG x):Al P' P fz Q ρ (.halt x) s'
 |G0 {ρ:Ren} {s:Sem α} {s':Sem β} (h:∀w es,∃x u f,s.runT P' w es=(.halt x u,f)∧GG x):Al P' P fz Q ρ s s'
 |panic {ρ:Ren} {v v':Zc} (h:VR ρ v v'):Al P' P fz Q ρ (.halt (.panic v)) (.halt (.panic v'))
theorem J3 {P':Zp}{α γ:Type}{s:Sem γ}(h:∀w es,∃x u f,s.runT P' w es=(.halt x u,f)∧GG x)(f:γ→Sem α):∀w es,∃x u g,(s.bind f).runT P' w es=(.halt x u,g)∧GG x:=by
 intro w es;obtain⟨x,u,ac7,h1,h2⟩:=h w es;exact⟨x,u,ac7,by rw[Z8,h1],h2⟩
section
variable {P' P:Zp}{fz:Prop}{α β γ δ:Type}{Q:Ren→α→β→Prop}{R:Ren→γ→δ→Prop}
theorem Al.bind {ρ:Ren}{s:Sem γ}{s':Sem δ}{f:γ→Sem α}{f':δ→Sem β}(h:Al P' P fz R ρ s s')(hf:∀σ a b,ρ.le σ→R σ a b→Al P' P fz Q σ (f a) (f' b)):
  Al P' P fz Q ρ (s.bind f) (s'.bind f'):=by
 induction h with
 |pure h=>exact hf _ _ _ (Ren.le_refl _) h
 |load m ha _ ih=>exact .load m ha fun v v' hv=>ih v v' hv hf
 |store m ha hv _ ih=>exact .store m ha hv (ih hf)
 |new ho _ ih=>exact .new ho fun r r' σ hle hr=>ih r r' σ hle hr fun τ a b C6=>hf τ a b (Ren.le_trans hle C6)
 |shape hr _ ih=>exact .shape hr fun s=>ih s hf
 |frozen ha _ ih=>exact .frozen ha fun b b' hb=>ih b b' hb hf
 |getObj hr _ ih=>exact .getObj hr fun o o' ho=>ih o o' ho hf
 |setObj hr ho hn _ ih=>exact .setObj hr ho hn (ih hf)
 |choose q _ ih=>exact .choose q fun n=>ih n hf
 |program _ ih=>exact .program (ih hf)
 |mark hm _ ih=>exact .mark hm (ih hf)
 |env _ ih=>exact .env fun r=>ih r hf
 |G0 h=>exact .G0 (J3 h f)
 |bad h=>exact .bad h
 |panic h=>exact .panic h
theorem Al.imp {ρ:Ren}{s:Sem α}{s':Sem β}{ac8:Ren→α→β→Prop}(h:Al P' P fz Q ρ s s')(hq:∀σ a b,ρ.le σ→Q σ a b→ac8 σ a b):Al P' P fz ac8 ρ s s':=by
 induction h with
 |pure h=>exact .pure (hq _ _ _ (Ren.le_refl _) h)
 |load m ha _ ih=>exact .load m ha fun v v' hv=>ih v v' hv hq
 |store m ha hv _ ih=>exact .store m ha hv (ih hq)
 |new ho _ ih=>exact .new ho fun r r' σ hle hr=>ih r r' σ hle hr fun τ a b C6=>hq τ a b (Ren.le_trans hle C6)
 |shape hr _ ih=>exact .shape hr fun s=>ih s hq
 |frozen ha _ ih=>exact .frozen ha fun b b' hb=>ih b b' hb hq
 |getObj hr _ ih=>exact .getObj hr fun o o' ho=>ih o o' ho hq
 |setObj hr ho hn _ ih=>exact .setObj hr ho hn (ih hq)
 |choose q _ ih=>exact .choose q fun n=>ih n hq
 |program _ ih=>exact .program (ih hq)
 |mark hm _ ih=>exact .mark hm (ih hq)
 |env _ ih=>exact .env fun r=>ih r hq
 |G0 h=>exact .G0 h
 |bad h=>exact .bad h
 |panic h=>exact .panic h
end
theorem wB.refl (f:Nat×Nat):wB f f:=.inl rfl
section
variable {ρ:Ren}{w w':Zb}
theorem Hv.lt (h:Hv ρ w w'){b c:Nat}(hb:ρ b=some c):b<w.heap.size∧c<w'.heap.size:=by
 obtain⟨o,o',h1,h2,_⟩:=h.obj b c hb;exact⟨(Za.1 h1).1,(Za.1 h2).1⟩
theorem Hv.cell (h:Hv ρ w w'){a a':Addr}(ha:AR ρ a a'){v:Zc}(hv:w.cell? a=some v):∃v',w'.cell? a'=some v'∧VR ρ v v':=by
 obtain⟨o,o',h1,h2,h3⟩:=h.obj _ _ ha.1;cases h3 with
 |cells e hc hf=>
  simp only[zJ,h1,h2,ha.2.1,ha.2.2]at hv⊢;split at hv
  ·cases hv
  ·rw[if_neg ‹_›];exact hc.get hv
 |_=>simp[zJ,h1]at hv
theorem Hv.far (h:Hv ρ w w'){a a':Addr}(ha:AR ρ a a')(P:Zp)(m:Bool):∃x,w.farLoad P a m=.error x∧GG x:=by
 obtain⟨o,o',h1,_,h3⟩:=h.obj _ _ ha.1;unfold World.farLoad World.noCell;rw[h1];cases h3<;>exact⟨_,rfl,trivial⟩
theorem Hv.aic (h:Hv ρ w w'){a a':Addr}(ha:AR ρ a a')(P:Zp)(v:Zc)(m:Bool):∃x,w.farStore P a v m=.error x∧GG x:=by
 obtain⟨o,o',h1,_,h3⟩:=h.obj _ _ ha.1;unfold World.farStore World.noCell;rw[h1];cases h3<;>exact⟨_,rfl,trivial⟩
theorem Hv.shape (h:Hv ρ w w'){b c:Nat}(hb:ρ b=some c):w'.shape? c=w.shape? b:=by
 obtain⟨o,o',h1,h2,h3⟩:=h.obj _ _ hb;cases h3 with
 |cells e hc hf=>simp[Ys,h1,h2,hc.1]
 | @junk o' h=>cases o'<;>first|(simp[Ys,h1,h2];done)|cases h
 |_=>simp[Ys,h1,h2]
theorem wB.at {f f':Nat×Nat}(h:wB f f'){i:Nat}(hi:f'.1≤i∧i<f'.2):f.1≤i∧i<f.2:=by
 rcases h with rfl|h|h
 ·exact hi
 ·omega
 ·omega
theorem Hv.frozen (h:Hv ρ w w'){a a':Addr}(ha:AR ρ a a')(hf:w'.frozen? a'=true):w.frozen? a=true:=by
 obtain⟨o,o',h1,h2,h3⟩:=h.obj _ _ ha.1;cases h3 with
 | @cells c c' e f f' hc wD=>
  obtain⟨lo,hi⟩:=f;obtain⟨lo',Df⟩:=f';simp only[Yu,h1,h2,ha.2.1,ZD,decide_eq_true_eq]at hf⊢;exact wD.at hf
 | @junk o' h=>cases o'<;>first|(simp[Yu,h2]at hf;done)|cases h
 |_=>simp[Yu,h2]at hf
theorem qc {w:Zb}{a:Addr}{v:Zc}(h:w.cell? a=some v){t:Zs}{n:Nat}(hs:w.shape? a.block=some (t,n)):a.off<n:=by
 unfold zJ at h;unfold Ys at hs;cases ho:w.heap[a.block]? with
 |none=>rw[ho]at h;cases h
 |some o=>
  rw[ho]at h hs;cases o with
  |cells c e f=>
   dsimp only at h hs;cases hs;split at h
   ·cases h
   ·exact(Za.1 h).1
  |_=>cases h
theorem Hw {w:Zb}{b:Nat}{f:Obj→Obj}(i:Nat):(w.heap.modify b f)[i]?=if b=i then(w.heap[i]?).map f else w.heap[i]? :=by
 rw[Zag]
theorem QH (w:Zb)(a:Addr)(v:Zc)(b:Addr):(w.setCell a v).frozen? b=w.frozen? b:=by
 unfold Yu Z1;simp only[Hw];by_cases e:a.block=b.block
 ·rw[if_pos e]
  cases w.heap[b.block]? with
  |none=>rfl
  |some o=>cases o<;>rfl
 ·rw[if_neg e]
theorem SR (w:Zb)(a:Addr)(v:Zc)(b:Nat):(w.setCell a v).shape? b=w.shape? b:=by
 unfold Ys Z1;simp only[Hw];by_cases e:a.block=b
 ·rw[if_pos e]
  cases w.heap[b]? with
  |none=>rfl
  |some o=>cases o<;>first|rfl|(dsimp only[Option.map_some];split<;>simp)
 ·rw[if_neg e]
theorem Hv.setCell (h:Hv ρ w w'){a a':Addr}(ha:AR ρ a a'){v v':Zc}(hv:VR ρ v v'):Hv ρ (w.setCell a v) (w'.setCell a' v'):=by
 refine⟨fun b c hb=>?_,h.tape,h.os⟩;obtain⟨o,o',h1,h2,h3⟩:=h.obj _ _ hb;simp only[Z1,Hw];by_cases e:a.block=b
 ·have e':a'.block=c:=by
   have:=ha.1;rw[e,hb]at this;cases this;rfl
  rw[if_pos e,if_pos e',h1,h2];refine⟨_,_,rfl,rfl,?_⟩;cases h3 with
  |cells e hc hf=>
   refine .cells e ?_ hf;rw[ha.2.1,ha.2.2];split
   ·exact hc
   ·exact hc.set hv _
  |map k x=>exact .map k x
  |chan cap cl s r tm x=>exact .chan cap cl s r tm x
  |stringIter s p=>exact .stringIter s p
  |mapIter x s k m=>exact .mapIter x s k m
  |number l a=>exact .number l a
  |loop l=>exact .loop l
  |EU=>exact .EU
  | @junk o' h=>cases o'<;>first|exact .junk rfl|cases h
  |deferred=>exact .deferred
 ·have e':¬a'.block=c:=fun x=>e (ρ.inj _ _ _ ha.1 (x▸hb))
  rw[if_neg e,if_neg e'];exact⟨o,o',h1,h2,h3⟩
theorem Hv.fresh (h:Hv ρ w w'):ρ.PT w.heap.size w'.heap.size:=⟨fun b hb=>absurd (h.lt hb).2 (by omega),(h.lt ρ.base).1,(h.lt ρ.base).2⟩
theorem Hv.kL (h:Hv ρ w w'):ρ.le (ρ.ext w.heap.size w'.heap.size h.fresh):=by
 refine⟨fun b c hb=>?_,rfl,rfl,rfl⟩;have:=(h.lt hb).1;show(if b=w.heap.size then some w'.heap.size else ρ b)=some c;rw[if_neg (by omega)];exact hb
theorem Hv.new (h:Hv ρ w w'){o o':Obj}(ho:OR ρ o o'):Hv (ρ.ext w.heap.size w'.heap.size h.fresh) {w with heap:=w.heap.push o} {w' with heap:=w'.heap.push o'}:=by
 have hle:=h.kL;refine⟨fun b c hb=>?_,h.tape,h.os⟩;dsimp only[Ren.ext]at hb;split at hb
 ·cases hb
  refine⟨o,o',?_,?_,ho.mono hle⟩
  ·subst b;simp
  ·simp
 ·obtain⟨x,x',h1,h2,h3⟩:=h.obj _ _ hb
  have:=h.lt hb;refine⟨x,x',?_,?_,h3.mono hle⟩
  ·rw[Yx];rw[if_neg (by omega)];exact h1
  ·rw[Yx];rw[if_neg (by omega)];exact h2
theorem Hv.setObj (h:Hv ρ w w'){r r':Nat}(hr:ρ r=some r'){o o':Obj}(ho:OR ρ o o'):Hv ρ {w with heap:=w.heap.setIfInBounds r o} {w' with heap:=w'.heap.setIfInBounds r' o'}:=by
 refine⟨fun b c hb=>?_,h.tape,h.os⟩;have hl:=h.lt hb;by_cases e:r=b
 ·have e':r'=c:=by rw[e,hb]at hr;cases hr;rfl
  refine⟨o,o',?_,?_,ho⟩
  ·simp only[Z3,if_pos e];rw[if_pos (by omega)]
  ·simp only[Z3,if_pos e'];rw[if_pos (by omega)]
 ·have e':¬r'=c:=fun x=>e (ρ.inj _ _ _ hr (x▸hb))
  obtain⟨x,x',h1,h2,h3⟩:=h.obj _ _ hb;refine⟨x,x',?_,?_,h3⟩
  ·simp only[Z3,if_neg e];exact h1
  ·simp only[Z3,if_neg e'];exact h2
theorem Hv.drew (h:Hv ρ w w'):Hv ρ {w with drawn:=w.drawn+1} {w' with drawn:=w'.drawn+1}:=
 ⟨h.obj,fun i q=>by have:=h.tape (i+1) q;rw[←Nat.add_assoc, ←Nat.add_assoc]at this;simpa[Nat.add_right_comm]using this,h.os⟩
end
theorem MA {w:Zb}{a:Addr}{v:Zc}{b:Nat}{o:Obj}(hq:Quiet o)(h:(w.setCell a v).heap[b]?=some o):w.heap[b]?=some o:=by
 simp only[Z1,Zag]at h;split at h
 ·cases ho:w.heap[b]? with
  |none=>rw[ho]at h;cases h
  |some p=>
   rw[ho]at h;cases p<;>first|exact h|(simp at h;subst h;cases hq)
 ·exact h
structure I9 (fz:Prop)(ρ σ:Ren)(w w₁ w' w₁':Zb)(d:Array ZU):Prop where
 size:w.heap.size≤w₁.heap.size
 MB:w'.heap.size≤w₁'.heap.size
 fresh:∀b c,σ b=some c→ρ b=some c∨(w.heap.size≤b∧w'.heap.size≤c)
 new:∀c,w'.heap.size≤c→c<w₁'.heap.size→∃b,σ b=some c∧w.heap.size≤b
 still:∀c,c<w'.heap.size→w₁'.heap[c]?=w'.heap[c]?∨(∃b,ρ b=some c∧(fz∨∃e∈d,e.write=true∧((∃a:Addr,a.block=b∧e.loc=.cell a)∨e.loc=.obj b)))
 QI:∀e∈d,e.write=true→∀a,e.loc=.cell a→a.block<w.heap.size→w.frozen? a=false∧∀t n,w.shape? a.block=some (t,n)→a.off<n
 frozen:∀a:Addr,a.block<w.heap.size→w.frozen? a=true→w₁.frozen? a=true
 os:w₁'.os=w'.os
 tape:w₁'.tape=w'.tape
 output:w₁'.output=w'.output
 OO:w₁.tape=w.tape
 drawn:w.drawn≤w₁.drawn
 kM:∀e∈d,e.write=true→∀r,e.loc=.obj r→r<w.heap.size→w.shape? r=none
 shape:∀b t n,b<w.heap.size→w.shape? b=some (t,n)→w₁.shape? b=some (t,n)
 awake:∀b o,Quiet o→b<w.heap.size→w₁.heap[b]?=some o→w.heap[b]?=some o∧∀e∈d,e.write=true→e.loc≠ .obj b∧∀a:Addr,a.block=b→e.loc≠ .cell a
theorem I9.refl (fz:Prop)(ρ:Ren)(w w':Zb):I9 fz ρ ρ w w w' w' #[]:=
 ⟨Zj _,Zj _,fun _ _ h=>.inl h,fun _ h k=>absurd k (by omega),fun _ _=>.inl rfl,fun e h=>by simp at h,fun _ _ h=>h,rfl,rfl,rfl,rfl,Zj _,fun e h=>by simp at h,fun _ _ _ _ h=>h,fun _ _ _ _ h=>⟨h,fun e he=>by simp at he⟩⟩
theorem I9.trans {fz:Prop}{ρ τ σ:Ren}{w w₁ w₂ w' w₁' Cu:Zb}{d GH:Array ZU}(h:I9 fz ρ τ w w₁ w' w₁' d)(k:I9 fz τ σ w₁ w₂ w₁' Cu GH)(hle:τ.le σ):
  I9 fz ρ σ w w₂ w' Cu (d++GH):=by
 refine⟨Zx h.size k.size,Zx h.MB k.MB,fun b c hb=>?_,fun c h1 h2=>?_,fun c hc=>?_,fun e he hw a ha hl=>?_,fun a ha hf=>k.frozen a (Zl ha h.size) (h.frozen a ha hf),k.os.trans h.os,k.tape.trans h.tape,k.output.trans h.output,k.OO.trans h.OO,Zx h.drawn k.drawn,fun e he hw r hr hl=>?_,fun b t n hl hs=>k.shape b t n (Zl hl h.size) (h.shape b t n hl hs),fun b o hq hl hj=>?_⟩
 ·rcases k.fresh b c hb with x|⟨x,y⟩
  ·exact h.fresh b c x
  ·exact .inr ⟨Zx h.size x,Zx h.MB y⟩
 ·rcases Zae c w₁'.heap.size with x|x
  ·obtain⟨b,hb,hs⟩:=h.new c h1 x
   exact⟨b,hle.1 _ _ hb,hs⟩
  ·obtain⟨b,hb,hs⟩:=k.new c x h2
   exact⟨b,hb,Zx h.size hs⟩
 ·rcases k.still c (Zl hc h.MB) with x|⟨b,hb,x⟩
  ·rcases h.still c hc with y|⟨b,hb,y⟩
   ·exact .inl (x.trans y)
   ·exact .inr ⟨b,hb,y.imp id fun⟨e,he,z⟩=>⟨e,Zaw.2 (.inl he),z⟩⟩
  ·rcases h.fresh b c hb with y|⟨_,y⟩
   ·exact .inr ⟨b,y,x.imp id fun⟨e,he,z⟩=>⟨e,Zaw.2 (.inr he),z⟩⟩
   ·omega
 ·rcases Zaw.1 he with x|x
  ·exact h.QI e x hw a ha hl
  ·have:=k.QI e x hw a ha (Zl hl h.size)
   refine⟨?_,fun t n hs=>this.2 t n (h.shape _ t n hl hs)⟩;cases hf:w.frozen? a with
   |false=>rfl
   |true=>rw[h.frozen a hl hf]at this;cases this.1
 ·rcases Zaw.1 he with x|x
  ·exact h.kM e x hw r hr hl
  ·have:=k.kM e x hw r hr (Zl hl h.size)
   cases hs:w.shape? r with
   |none=>rfl
   |some p=>obtain⟨t,n⟩:=p;rw[h.shape r t n hl hs]at this;cases this
 ·obtain⟨h1,h2⟩:=k.awake b o hq (Zl hl h.size) hj
  obtain⟨h3,h4⟩:=h.awake b o hq hl h1;exact⟨h3,fun e he hw=>(Zaw.1 he).elim (fun x=>h4 e x hw) fun x=>h2 e x hw⟩
def _root_.Go.Result.world {α:Type}:Result α→Zb
 | .ok _ w=>w
 | .halt _ w=>w
def kN {α:Type}(r:Result α):Prop:=∃x u,r=.halt x u∧GG x
inductive qd {α β:Type}(Q:Ren→α→β→Prop)(σ:Ren):Result α→Result β→Prop
 |ok {a:α} {b:β} {w w':Zb} (h:Q σ a b):qd Q σ (.ok a w) (.ok b w')
 |panic {v v':Zc} {w w':Zb} (h:VR σ v v'):qd Q σ (.halt (.panic v) w) (.halt (.panic v') w')
def _root_.Go.Result.tp {α:Type}(r:Result α)(t:Tape):Result α:=
 match r with
 | .ok a w=>.ok a {w with tape:=t}
 | .halt h w=>.halt h {w with tape:=t}
def gL {α:Type}(P':Zp)(s:Sem α)(w:Zb)(es:Array ZU)(r:Result α)(f:Array ZU):Prop:=
 ∀t:Tape,(∀i,w.drawn≤i→i<r.world.drawn→t i=w.tape i)→s.runT P' {w with tape:=t} es=(r.tp t,f)
theorem Al.run {P' P:Zp}{fz:Prop}{α β:Type}{Q:Ren→α→β→Prop}{ρ:Ren}{s:Sem α}{s':Sem β}(h:Al P' P fz Q ρ s s'):
  ∀(w w':Zb),Hv ρ w w'→∀(es Bu:Array ZU) r f,s.runT P' w es=(r,f)→¬kN r→
   ∃σ r' d d',ρ.le σ∧f=es++d∧s'.runT P w' Bu=(r',Bu++d')∧qd Q σ r r'∧Hv σ r.world r'.world∧Bt (pv σ) d d'∧I9 fz ρ σ w r.world w' r'.world d∧gL P' s w es r f:=by
 induction h with
 | @pure ρ a b h=>
  intro w w' hw es Bu r f hr _;rw[ZF]at hr;cases hr;exact⟨ρ,.ok b w',#[],#[],Ren.le_refl _,by simp,by rw[ZF];simp,.ok h,hw,Bt.nil,I9.refl _ _ _ _,fun t _=>by rw[ZF];rfl⟩
 | @load ρ a a' k k' m ha _ ih=>
  intro w w' hw es Bu r f hr Cv;rw[ZF]at hr;cases hc:w.cell? a with
  |none=>
   rw[hc]at hr;obtain⟨x,hx,hnp⟩:=hw.far ha P' (m== .atomic);rw[hx]at hr;cases hr;exact(Cv ⟨_,_,rfl,hnp⟩).elim
  |some v=>
   rw[hc]at hr;obtain⟨v',gM,hvr⟩:=hw.cell ha hc;obtain⟨σ,r',d,d',h1,h2,h3,h4,h5,h6,h7,h8⟩:=ih v v' hvr w w' hw (es.push ⟨.cell a,false,m== .atomic⟩) (Bu.push ⟨.cell a',false,m== .atomic⟩) r f hr Cv;refine⟨σ,r',#[⟨.cell a,false,m== .atomic⟩]++d,#[⟨.cell a',false,m== .atomic⟩]++d',h1,by rw[h2];simp,?_,h4,h5,(Bt.single ⟨.cell (ha.mono h1),rfl,.inl rfl⟩).append h6,?_,fun t ht=>by rw[ZF,show zJ {w with tape:=t} a=some v from hc];exact h8 t ht⟩
   ·rw[ZF,gM];simp only[];rw[h3];simp
   ·refine I9.trans (w₁:=w) (w₁':=w') (τ:=ρ) ⟨Zj _,Zj _,fun _ _ h=>.inl h,fun _ h k=>absurd k (by omega),fun _ _=>.inl rfl,fun e he Qk=>?_,fun _ _ h=>h,rfl,rfl,rfl,rfl,Zj _,fun e he Qk=>(by simp at he;subst he;cases Qk),fun _ _ _ _ h=>h,fun _ _ _ _ hj=>⟨hj,fun e he hw=>by simp at he;subst he;first|(cases hw;done)|exact⟨(fun x=>by cases x),(fun _ _ x=>by cases x)⟩⟩⟩ h7 h1
    simp at he;subst he;cases Qk
 | @store ρ a a' v v' k k' m ha hv _ ih=>
  intro w w' hw es Bu r f hr Cv;by_cases hag:(∃x,v=.agg x)∨(∃x,v=.tuple x)
  ·rcases hag with⟨x,rfl⟩|⟨x,rfl⟩<;>(simp only[ZF]at hr;cases hr;exact(Cv ⟨_,_,rfl,trivial⟩).elim)
  have hL:∀(p:Zp) (u:Zb) (g:Array ZU) (b:Addr) (x:Zc) (kk:Sem α),(¬((∃y,x=.agg y)∨(∃y,x=.tuple y)))→(Sem.store m b x kk).runT p u g=match u.cell? b with
    |some _=>if u.frozen? b then(.halt (.unsupported (.unsafePointer "a write to bytes that a string shares")) u,g) else kk.runT p (u.setCell b x) (g.push ⟨.cell b,true,m== .atomic⟩)
    |none=>match u.farStore p b x (m== .atomic) with
     | .ok (u,touched)=>kk.runT p u (g++touched.toArray.map (⟨.cell ·,true,m== .atomic⟩))
     | .error h=>(.halt h u,g):=by
   intro p u g b x kk hx;cases x<;>first|exact absurd (.inl ⟨_,rfl⟩) hx|exact absurd (.inr ⟨_,rfl⟩) hx|rfl
  have SJ:∀(p:Zp) (u:Zb) (g:Array ZU) (b:Addr) (x:Zc) (kk:Sem β),(¬((∃y,x=.agg y)∨(∃y,x=.tuple y)))→(Sem.store m b x kk).runT p u g=match u.cell? b with
    |some _=>if u.frozen? b then(.halt (.unsupported (.unsafePointer "a write to bytes that a string shares")) u,g) else kk.runT p (u.setCell b x) (g.push ⟨.cell b,true,m== .atomic⟩)
    |none=>match u.farStore p b x (m== .atomic) with
     | .ok (u,touched)=>kk.runT p u (g++touched.toArray.map (⟨.cell ·,true,m== .atomic⟩))
     | .error h=>(.halt h u,g):=by
   intro p u g b x kk hx;cases x<;>first|exact absurd (.inl ⟨_,rfl⟩) hx|exact absurd (.inr ⟨_,rfl⟩) hx|rfl
  rw[hL _ _ _ _ _ _ hag]at hr;have aif:¬((∃y,v'=.agg y)∨(∃y,v'=.tuple y)):=by
   rintro(⟨y,rfl⟩|⟨y,rfl⟩)<;>cases hv<;>first|exact hag (.inl ⟨_,rfl⟩)|exact hag (.inr ⟨_,rfl⟩)
  cases hc:w.cell? a with
  |none=>
   rw[hc]at hr;obtain⟨x,hx,hnp⟩:=hw.aic ha P' v (m== .atomic);rw[hx]at hr;cases hr;exact(Cv ⟨_,_,rfl,hnp⟩).elim
  |some u=>
   rw[hc]at hr;obtain⟨u',j8,_⟩:=hw.cell ha hc;simp only[]at hr;split at hr
   ·cases hr;exact(Cv ⟨_,_,rfl,trivial⟩).elim
   ·rename_i px
    have aih:¬w'.frozen? a'=true:=fun x=>px (hw.frozen ha x);obtain⟨σ,r',d,d',h1,h2,h3,h4,h5,h6,h7,h8⟩:=ih (w.setCell a v) (w'.setCell a' v') (hw.setCell ha hv) (es.push ⟨.cell a,true,m== .atomic⟩) (Bu.push ⟨.cell a',true,m== .atomic⟩) r f hr Cv;refine⟨σ,r',#[⟨.cell a,true,m== .atomic⟩]++d,#[⟨.cell a',true,m== .atomic⟩]++d',h1,by rw[h2];simp,?_,h4,h5,(Bt.single ⟨.cell (ha.mono h1),rfl,.inl rfl⟩).append h6,?_,fun t ht=>by rw[hL _ _ _ _ _ _ hag,show zJ {w with tape:=t} a=some u from hc];simp only[];rw[if_neg (show¬Yu {w with tape:=t} a=true from px)];exact h8 t ht⟩
    ·rw[SJ _ _ _ _ _ _ aif,j8];simp only[];rw[if_neg aih,h3];simp
    ·refine I9.trans (w₁:=w.setCell a v) (w₁':=w'.setCell a' v') (τ:=ρ) ⟨by simp[Z1],by simp[Z1],fun _ _ h=>.inl h,fun _ h k=>absurd k (by simp[Z1];omega),fun c _=>?_,fun e he _ b hb _=>?_,fun b _ hb=>?_,rfl,rfl,rfl,rfl,Zj _,fun e he _ r hr=>(by simp at he;subst he;cases hr),fun b t n _ h=>by rw[SR];exact h,fun b o hq _ hj=>?_⟩ h7 h1
     ·by_cases e:a'.block=c
      ·exact .inr ⟨a.block,e▸ha.1,.inr ⟨⟨.cell a,true,m== .atomic⟩,by simp,rfl,.inl ⟨a,rfl,rfl⟩⟩⟩
      ·refine .inl ?_
       simp only[Z1,Hw];rw[if_neg e]
     ·simp at he;subst he;cases hb;exact⟨by simpa using px,fun t n hs=>qc hc hs⟩
     ·rw[QH];exact hb
     ·have BI:b≠a.block:=by
       rintro rfl;have:=MA hq hj;unfold zJ at hc;rw[this]at hc;cases hq<;>cases hc
      refine⟨MA hq hj,fun e he _=>?_⟩;simp at he;subst he;exact⟨fun x=>(by cases x),fun a' ha' x=>by cases x;exact BI ha'.symm⟩
 | @new ρ o o' k k' ho _ ih=>
  intro w w' hw es Bu r f hr Cv;rw[ZF]at hr;have hle:=hw.kL;obtain⟨σ,r',d,d',h1,h2,h3,h4,h5,h6,h7,h8⟩:=ih w.heap.size w'.heap.size (ρ.ext w.heap.size w'.heap.size hw.fresh) hle (by simp[Ren.ext]) {w with heap:=w.heap.push o} {w' with heap:=w'.heap.push o'} (hw.new ho) es Bu r f hr Cv;refine⟨σ,r',d,d',Ren.le_trans hle h1,h2,by rw[ZF];exact h3,h4,h5,h6,?_,fun t ht=>by rw[ZF];exact h8 t ht⟩;have:=I9.trans (fz:=fz) (d:= #[]) (w:=w) (w':=w') (w₁:= {w with heap:=w.heap.push o}) (w₁':= {w' with heap:=w'.heap.push o'}) (ρ:=ρ) (τ:=ρ.ext w.heap.size w'.heap.size hw.fresh) ⟨by simp,by simp,fun b c hb=>?_,fun c h k=>⟨w.heap.size,by rw[Array.size_push]at k;dsimp only[Ren.ext];rw[if_pos rfl,show c=w'.heap.size from by omega],Zj _⟩,fun c hc=>.inl ?_,fun e h=>by simp at h,fun a hl ha=>?_,rfl,rfl,rfl,rfl,Zj _,fun e h=>(by simp at h),fun b t n hl h=>by unfold Ys at*;simp only[Yx];rw[if_neg (by omega)];exact h,fun b o hq hl hj=>⟨by simp only[Yx]at hj;rw[if_neg (by omega)]at hj;exact hj,fun e he=>by simp at he⟩⟩ h7 h1
  ·simpa using this
  ·dsimp only[Ren.ext]at hb
   split at hb
   ·cases hb;exact .inr ⟨by omega,Zj _⟩
   ·exact .inl hb
  ·simp only[Yx];rw[if_neg (by omega)]
  ·unfold Yu at*
   simp only[Yx];rw[if_neg (by omega)];exact ha
 | @shape ρ x x' k k' OP _ ih=>
  intro w w' hw es Bu r f hr Cv;rw[ZF]at hr;obtain⟨σ,r',d,d',h1,h2,h3,h4,h5,h6,h7,h8⟩:=ih _ w w' hw es Bu r f hr Cv;exact⟨σ,r',d,d',h1,h2,by rw[ZF,hw.shape OP];exact h3,h4,h5,h6,h7,fun t ht=>by rw[ZF];exact h8 t ht⟩
 | @frozen ρ a a' k k' ha _ ih=>
  intro w w' hw es Bu r f hr Cv;rw[ZF]at hr;obtain⟨σ,r',d,d',h1,h2,h3,h4,h5,h6,h7,h8⟩:=ih (w.frozen? a) (w'.frozen? a') (hw.frozen ha) w w' hw es Bu r f hr Cv;exact⟨σ,r',d,d',h1,h2,by rw[ZF];exact h3,h4,h5,h6,h7,fun t ht=>by rw[ZF];exact h8 t ht⟩
 | @getObj ρ x x' k k' hx _ ih=>
  intro w w' hw es Bu r f hr Cv;rw[ZF]at hr;obtain⟨o,o',ho,py,hoo⟩:=hw.obj _ _ hx;rw[ho]at hr;by_cases hcell:∃c e fr,o=.cells c e fr
  ·obtain⟨c,e,fr,rfl⟩:=hcell
   cases hr;exact(Cv ⟨_,_,rfl,trivial⟩).elim
  have PV:(k o).runT P' w (es.push ⟨.obj x,false,o.isChan⟩)=(r,f):=by
   cases o<;>first|exact absurd ⟨_,_,_,rfl⟩ hcell|exact hr
  obtain⟨σ,r',d,d',h1,h2,h3,h4,h5,h6,h7,h8⟩:=ih o o' hoo w w' hw (es.push ⟨.obj x,false,o.isChan⟩) (Bu.push ⟨.obj x',false,o'.isChan⟩) r f PV Cv;refine⟨σ,r',#[⟨.obj x,false,o.isChan⟩]++d,#[⟨.obj x',false,o'.isChan⟩]++d',h1,by rw[h2];simp,?_,h4,h5,(Bt.single ⟨.obj (h1.1 _ _ hx),rfl,.inr ⟨_,rfl⟩⟩).append h6,?_,fun t ht=>by rw[ZF,show({w with tape:=t}:Zb).heap[x]?=some o from ho];cases o<;>first|exact absurd ⟨_,_,_,rfl⟩ hcell|exact h8 t ht⟩
  ·rw[ZF,py]
   have:(k' o').runT P w' (Bu.push ⟨.obj x',false,o'.isChan⟩)=(r',Bu++(#[⟨.obj x',false,o'.isChan⟩]++d')):=by rw[h3];simp
   cases hoo<;>first|exact absurd ⟨_,_,_,rfl⟩ hcell|exact this|skip
   rename_i hj;cases o'<;>first|exact this|cases hj
  ·refine I9.trans (w₁:=w) (w₁':=w') (τ:=ρ) ⟨Zj _,Zj _,fun _ _ h=>.inl h,fun _ h k=>absurd k (by omega),fun _ _=>.inl rfl,fun e he Qk=>?_,fun _ _ h=>h,rfl,rfl,rfl,rfl,Zj _,fun e he Qk=>(by simp at he;subst he;cases Qk),fun _ _ _ _ h=>h,fun _ _ _ _ hj=>⟨hj,fun e he hw=>by simp at he;subst he;first|(cases hw;done)|exact⟨(fun x=>by cases x),(fun _ _ x=>by cases x)⟩⟩⟩ h7 h1
   simp at he;subst he;cases Qk
 | @setObj ρ x x' o o' k k' hx hoo hn _ ih=>
  intro w w' hw es Bu r f hr Cv;rw[ZF]at hr;obtain⟨u,u',hu,j8,huu⟩:=hw.obj _ _ hx;rw[hu]at hr;by_cases hcell:∃c e fr,u=.cells c e fr
  ·obtain⟨c,e,fr,rfl⟩:=hcell
   cases hr;exact(Cv ⟨_,_,rfl,trivial⟩).elim
  have PV:k.runT P' {w with heap:=w.heap.setIfInBounds x o} (es.push ⟨.obj x,true,o.isChan⟩)=(r,f):=by
   cases u<;>first|exact absurd ⟨_,_,_,rfl⟩ hcell|exact hr
  obtain⟨σ,r',d,d',h1,h2,h3,h4,h5,h6,h7,h8⟩:=ih _ _ (hw.setObj hx hoo) (es.push ⟨.obj x,true,o.isChan⟩) (Bu.push ⟨.obj x',true,o'.isChan⟩) r f PV Cv;refine⟨σ,r',#[⟨.obj x,true,o.isChan⟩]++d,#[⟨.obj x',true,o'.isChan⟩]++d',h1,by rw[h2];simp,?_,h4,h5,(Bt.single ⟨.obj (h1.1 _ _ hx),rfl,.inr ⟨_,rfl⟩⟩).append h6,?_,fun t ht=>by rw[ZF,show({w with tape:=t}:Zb).heap[x]?=some u from hu];cases u<;>first|exact absurd ⟨_,_,_,rfl⟩ hcell|exact h8 t ht⟩
  ·rw[ZF,j8]
   have:k'.runT P {w' with heap:=w'.heap.setIfInBounds x' o'} (Bu.push ⟨.obj x',true,o'.isChan⟩)=(r',Bu++(#[⟨.obj x',true,o'.isChan⟩]++d')):=by rw[h3];simp
   cases huu<;>first|exact absurd ⟨_,_,_,rfl⟩ hcell|exact this|skip
   rename_i hj;cases u'<;>first|exact this|cases hj
  ·refine I9.trans (w₁:= {w with heap:=w.heap.setIfInBounds x o}) (w₁':= {w' with heap:=w'.heap.setIfInBounds x' o'}) (τ:=ρ) ⟨by simp,by simp,fun _ _ h=>.inl h,fun _ h k=>absurd k (by simp;omega),fun c _=>?_,fun e he _ b hb _=>?_,fun b _ hb=>?_,rfl,rfl,rfl,rfl,Zj _,fun e he _ y hy _=>(by simp at he;subst he;cases hy;unfold Ys;rw[hu];cases u<;>first|exact absurd ⟨_,_,_,rfl⟩ hcell|rfl),fun b t n _ h=>by(unfold Ys at*;simp only[Z3];by_cases e:x=b;(rw[←e,hu]at h;cases u<;>first|exact absurd ⟨_,_,_,rfl⟩ hcell|cases h);(rw[if_neg e];exact h)),fun b p hq hb hj=>?_⟩ h7 h1
   ·by_cases e:x'=c
    ·exact .inr ⟨x,e▸hx,.inr ⟨⟨.obj x,true,o.isChan⟩,by simp,rfl,.inr rfl⟩⟩
    ·refine .inl ?_
     simp only[Z3,if_neg e]
   ·simp at he;subst he;cases hb
   ·unfold Yu at*
    simp only[Z3];by_cases e:x=b.block
    ·rw[←e,hu]at hb
     cases u<;>first|exact absurd ⟨_,_,_,rfl⟩ hcell|cases hb
    ·rw[if_neg e];exact hb
   ·have hxb:x≠b:=by
     rintro rfl;simp only[Z3,if_true]at hj;rw[if_pos hb]at hj;rw[Z2 hj]at hn;exact hn hq
    simp only[Z3,if_neg hxb]at hj;refine⟨hj,fun e he _=>?_⟩;simp at he;subst he;exact⟨fun x=>(by cases x;exact hxb rfl),fun _ _ x=>by cases x⟩
 | @choose ρ k k' q _ ih=>
  intro w w' hw es Bu r f hr Cv;rw[ZF]at hr;split at hr
  ·obtain⟨σ,r',d,d',h1,h2,h3,h4,h5,h6,h7,h8⟩:=ih 0 w w' hw es Bu r f hr Cv
   exact⟨σ,r',d,d',h1,h2,by rw[ZF,if_pos ‹_›];exact h3,h4,h5,h6,h7,fun t ht=>by rw[ZF,if_pos ‹_›];exact h8 t ht⟩
  ·have ht:w.tape w.drawn q=w'.tape w'.drawn q:=by simpa using hw.tape 0 q
   obtain⟨σ,r',d,d',h1,h2,h3,h4,h5,h6,h7,h8⟩:=ih (q.cut (w.tape w.drawn q)) _ _ hw.drew es Bu r f hr Cv;refine⟨σ,r',d,d',h1,h2,by rw[ZF,if_neg ‹_›, ←ht];exact h3,h4,h5,h6,?_,fun t hz=>by rw[ZF,if_neg ‹_›];have e:t w.drawn=w.tape w.drawn:=hz _ (Zj _) h7.drawn;show(k (q.cut (t w.drawn q))).runT P' _ _=_;rw[e];exact h8 t (fun i a b=>hz i (Nat.le_of_succ_le a) b)⟩;exact⟨h7.size,h7.MB,h7.fresh,h7.new,h7.still,h7.QI,h7.frozen,h7.os,h7.tape,h7.output,h7.OO,Nat.le_of_succ_le h7.drawn,h7.kM,h7.shape,h7.awake⟩
 |program _ ih=>
  intro w w' hw es Bu r f hr Cv;rw[ZF]at hr;obtain⟨σ,r',d,d',h1,h2,h3,h4,h5,h6,h7,h8⟩:=ih w w' hw es Bu r f hr Cv;exact⟨σ,r',d,d',h1,h2,by rw[ZF];exact h3,h4,h5,h6,h7,fun t ht=>by rw[ZF];exact h8 t ht⟩
 | @mark ρ m m' k k' hm _ ih=>
  intro w w' hw es Bu r f hr Cv;rw[ZF]at hr;obtain⟨σ,r',d,d',h1,h2,h3,h4,h5,h6,h7,h8⟩:=ih w w' hw (es.push ⟨.mark m,false,true⟩) (Bu.push ⟨.mark m',false,true⟩) r f hr Cv;refine⟨σ,r',#[⟨.mark m,false,true⟩]++d,#[⟨.mark m',false,true⟩]++d',h1,by rw[h2];simp,by rw[ZF,h3];simp,h4,h5,(Bt.single ⟨.mark (hm.mono h1),rfl,.inl rfl⟩).append h6,?_,fun t ht=>by rw[ZF];exact h8 t ht⟩;refine I9.trans (w₁:=w) (w₁':=w') (τ:=ρ) ⟨Zj _,Zj _,fun _ _ h=>.inl h,fun _ h k=>absurd k (by omega),fun _ _=>.inl rfl,fun e he Qk=>?_,fun _ _ h=>h,rfl,rfl,rfl,rfl,Zj _,fun e he Qk=>(by simp at he;subst he;cases Qk),fun _ _ _ _ h=>h,fun _ _ _ _ hj=>⟨hj,fun e he hw=>by simp at he;subst he;first|(cases hw;done)|exact⟨(fun x=>by cases x),(fun _ _ x=>by cases x)⟩⟩⟩ h7 h1;simp at he;subst he;cases Qk
 | @env ρ k k' _ ih=>
  intro w w' hw es Bu r f hr Cv;rw[ZF]at hr;have e1:∀u:Zb,u.sys .env=(.strings u.os.env,u):=fun u=>rfl;rw[e1]at hr;obtain⟨σ,r',d,d',h1,h2,h3,h4,h5,h6,h7,h8⟩:=ih (.strings w.os.env) w w' hw (es.push ⟨.output,true,false⟩) (Bu.push ⟨.output,true,false⟩) r f hr Cv;refine⟨σ,r',#[⟨.output,true,false⟩]++d,#[⟨.output,true,false⟩]++d',h1,by rw[h2];simp,?_,h4,h5,(Bt.single ⟨.output,rfl,.inl rfl⟩).append h6,?_,fun t ht=>by rw[ZF,e1];exact h8 t ht⟩
  ·rw[ZF,e1];simp only[hw.os];rw[h3];simp
  ·refine I9.trans (w₁:=w) (w₁':=w') (τ:=ρ) ⟨Zj _,Zj _,fun _ _ h=>.inl h,fun _ h k=>absurd k (by omega),fun _ _=>.inl rfl,fun e he _ a ha=>?_,fun _ _ h=>h,rfl,rfl,rfl,rfl,Zj _,fun e he _ r hr=>(by simp at he;subst he;cases hr),fun _ _ _ _ h=>h,fun _ _ _ _ hj=>⟨hj,fun e he hw=>by simp at he;subst he;first|(cases hw;done)|exact⟨(fun x=>by cases x),(fun _ _ x=>by cases x)⟩⟩⟩ h7 h1
   simp at he;subst he;cases ha
 | @G0 ρ s s' h=>
  intro w w' hw es Bu r f hr Cv;obtain⟨x,u,ac7,h1,h2⟩:=h w es;rw[h1]at hr;cases hr;exact(Cv ⟨_,_,rfl,h2⟩).elim
 | @bad ρ x s' h=>
  intro w w' hw es Bu r f hr Cv;rw[ZF]at hr;cases hr;exact(Cv ⟨_,_,rfl,h⟩).elim
 | @panic ρ v v' h=>
  intro w w' hw es Bu r f hr _;rw[ZF]at hr;cases hr;exact⟨ρ,.halt (.panic v') w',#[],#[],Ren.le_refl _,by simp,by rw[ZF];simp,.panic h,hw,Bt.nil,I9.refl _ _ _ _,fun t _=>by rw[ZF];rfl⟩
def Dm (P' P:Zp)(fz:Prop){α β:Type}(Q:Ren→α→β→Prop)(ρ:Ren)(s:Sem α)(s':Sem β):Prop:=
 ∀(w w':Zb),Hv ρ w w'→∀(es Bu:Array ZU) r f,s.runT P' w es=(r,f)→¬kN r→
  ∃σ r' d d',ρ.le σ∧f=es++d∧s'.runT P w' Bu=(r',Bu++d')∧qd Q σ r r'∧WR σ r.world r'.world∧Bt (pv σ) d d'∧I9 fz ρ σ w r.world w' r'.world d∧gL P' s w es r f
section
variable {P' P:Zp}{fz:Prop}{α β γ δ:Type}{Q:Ren→α→β→Prop}{R:Ren→γ→δ→Prop}{ρ:Ren}
theorem Al.ok {s:Sem α}{s':Sem β}(h:Al P' P fz Q ρ s s'):Dm P' P fz Q ρ s s':=fun w w' hw es Bu r f hr hd=>by
 obtain⟨σ,r',d,d',h1,h2,h3,h4,h5,h6,h7,h8⟩:=h.run w w' hw es Bu r f hr hd;exact⟨σ,r',d,d',h1,h2,h3,h4,h5.wr,h6,h7,h8⟩
theorem Al.al {s:Sem α}{s':Sem β}(h:Al P' P fz Q ρ s s'){w w':Zb}(hw:Hv ρ w w'){es Bu:Array ZU}{a:α}{b:β}{w₁ w₁':Zb}{f f':Array ZU}(h1:s.runT P' w es=(.ok a w₁,f))(h2:s'.runT P w' Bu=(.ok b w₁',f')):
  ∀i q,w₁.tape (w₁.drawn+i) q=w₁'.tape (w₁'.drawn+i) q:=by
 obtain⟨σ,r',d,d',_,_,h3,_,h5,_⟩:=h.run w w' hw es Bu _ _ h1 (fun⟨x,u,e,_⟩=>by cases e);rw[h2]at h3;cases h3;exact h5.tape
theorem Dm.bind {s:Sem γ}{s':Sem δ}{f:γ→Sem α}{f':δ→Sem β}(h:Al P' P fz R ρ s s')(hf:∀σ a b,ρ.le σ→R σ a b→Dm P' P fz Q σ (f a) (f' b)):Dm P' P fz Q ρ (s.bind f) (s'.bind f'):=by
 intro w w' hw es Bu r g hr hd;rw[Z8]at hr;rcases hs:s.runT P' w es with⟨wE,AE⟩;rw[hs]at hr;cases wE with
 |halt x u=>
  cases hr;obtain⟨σ,r',d,d',h1,h2,h3,h4,h5,h6,h7,h8⟩:=h.run w w' hw es Bu _ _ hs (fun⟨y,v,e,k⟩=>by cases e;exact hd ⟨_,_,rfl,k⟩);cases h4 with
  | @panic v v' _ w₂ hv=>
   refine⟨σ,.halt (.panic v') w₂,d,d',h1,h2,by rw[Z8,h3],.panic hv,h5.wr,h6,h7,fun t ht=>?_⟩;rw[Z8,h8 t ht];rfl
 |ok a u=>
  obtain⟨σ,r',d,d',h1,h2,h3,h4,h5,h6,h7,h8⟩:=h.run w w' hw es Bu _ _ hs (fun⟨y,v,e,k⟩=>by cases e);cases h4 with
  | @ok _ b _ w₂ hq=>
   dsimp only at hr;obtain⟨τ,r'',e,e',k1,k2,k3,k4,k5,k6,k7,k8⟩:=hf σ a b h1 hq u w₂ h5 AE (Bu++d') r g hr hd;refine⟨τ,r'',d++e,d'++e',Ren.le_trans h1 k1,by rw[k2,h2,Array.append_assoc],by rw[Z8,h3];dsimp only;rw[k3,Array.append_assoc],k4,k5,(Bt.mono h6 fun _ _=>pv.mono k1).append k6,h7.trans k7 k1,fun t ht=>?_⟩;have l1:u.drawn≤r.world.drawn:=k7.drawn;have l2:w.drawn≤u.drawn:=h7.drawn;rw[Z8,h8 t (fun i a b=>ht i a (Zl b l1))];exact k8 t (fun i a b=>by
    have:=ht i (Zx l2 a) b;have e:u.tape=w.tape:=h7.OO;rw[e];exact this)
theorem Dm.map {s:Sem γ}{s':Sem δ}{f:γ→α}{f':δ→β}(h:Dm P' P fz R ρ s s')(hf:∀σ a b,ρ.le σ→R σ a b→Q σ (f a) (f' b)):Dm P' P fz Q ρ (s.bind fun x=>.pure (f x)) (s'.bind fun x=>.pure (f' x)):=by
 intro w w' hw es Bu r g hr hd;rw[Z8]at hr;rcases hs:s.runT P' w es with⟨wE,AE⟩;rw[hs]at hr;cases wE with
 |halt x u=>
  cases hr;obtain⟨σ,r',d,d',h1,h2,h3,h4,h5,h6,h7,h8⟩:=h w w' hw es Bu _ _ hs (fun⟨y,v,e,k⟩=>by cases e;exact hd ⟨_,_,rfl,k⟩);cases h4 with
  | @panic v v' _ w₂ hv=>
   refine⟨σ,.halt (.panic v') w₂,d,d',h1,h2,by rw[Z8,h3],.panic hv,h5,h6,h7,fun t ht=>?_⟩;rw[Z8,h8 t ht];rfl
 |ok a u=>
  obtain⟨σ,r',d,d',h1,h2,h3,h4,h5,h6,h7,h8⟩:=h w w' hw es Bu _ _ hs (fun⟨y,v,e,k⟩=>by cases e);dsimp only at hr;rw[ZF]at hr;cases hr;cases h4 with
  | @ok _ b _ w₂ hq=>
   refine⟨σ,.ok (f' b) w₂,d,d',h1,h2,by rw[Z8,h3];dsimp only;rw[ZF],.ok (hf _ _ _ h1 hq),h5,h6,h7,fun t ht=>?_⟩;rw[Z8,h8 t ht];show(Sem.pure (f a)).runT P' _ _=_;rw[ZF];rfl
end
structure Twins (P' P:Zp):Prop where
 tables:P'.toTables=P.toTables
 zero:∀t i v,P.info? t=some i→i.zero=some v→∀ρ:Ren,VR ρ v v
 lack:∀i,P.info? 0=some i→i.methods.find? (fun m=>m.name== "")=none
def F4 {α:Type}:Ren→α→α→Prop:=fun _ a b=>a=b
section
variable {P' P:Zp}{fz:Prop}{ρ:Ren}{α β γ δ:Type}{Q:Ren→α→β→Prop}{R:Ren→γ→δ→Prop}
theorem Ad {a:α}{b:β}(h:Q ρ a b):Al P' P fz Q ρ (pure a) (pure b):=.pure h
theorem Ac {s:Sem γ}{s':Sem δ}{f:γ→Sem α}{f':δ→Sem β}(R:Ren→γ→δ→Prop)(h:Al P' P fz R ρ s s')(hf:∀σ a b,ρ.le σ→R σ a b→Al P' P fz Q σ (f a) (f' b)):
  Al P' P fz Q ρ (s>>=f) (s'>>=f'):=Al.bind h hf
theorem Ae {m:String}{s':Sem β}:Al P' P fz Q ρ (stuck m:Sem α) s':=.bad trivial
theorem Ai {u:Unsupported}{s':Sem β}(h:GG (.unsupported u):=by trivial):Al P' P fz Q ρ (unsupported u:Sem α) s':=.bad h
theorem Eb {v v':Zc}(h:VR ρ v v'):Al P' P fz Q ρ (goPanic v:Sem α) (goPanic v':Sem β):=.panic h
theorem kO {a a':Addr}(m:Mode)(h:AR ρ a a'):Al P' P fz VR ρ (load a m) (load a' m):=.load m h fun _ _ hv=>.pure hv
theorem qe {a a':Addr}{v v':Zc}(m:Mode)(h:AR ρ a a')(hv:VR ρ v v'):Al P' P fz F4 ρ (store a v m) (store a' v' m):=.store m h hv (.pure rfl)
theorem G1 {o o':Obj}(h:OR ρ o o'):Al P' P fz (fun σ r r'=>σ r=some r') ρ (newObj o) (newObj o'):=.new h fun _ _ _ _ hr=>.pure hr
theorem MC {r r':Nat}(h:ρ r=some r'):Al P' P fz F4 ρ (shape r) (shape r'):=.shape h fun _=>.pure rfl
theorem CX {r r':Nat}(h:ρ r=some r'):Al P' P fz OR ρ (getObj r) (getObj r'):=.getObj h fun _ _ ho=>.pure ho
theorem DU {r r':Nat}{o o':Obj}(h:ρ r=some r')(ho:OR ρ o o')(hn:¬Quiet o:=by intro h;cases h):Al P' P fz F4 ρ (setObj r o) (setObj r' o'):=.setObj h ho hn (.pure rfl)
theorem G2 (q:Question):Al P' P fz F4 ρ (choose q) (choose q):=.choose q fun _=>.pure rfl
theorem CQ:Al P' P fz (fun _ p p'=>P'=p∧P=p') ρ program program:=.program (.pure ⟨rfl,rfl⟩)
theorem wF {m m':Mark}(h:wC ρ m m'):Al P' P fz F4 ρ (mark m) (mark m'):=.mark h (.pure rfl)
theorem Tv (n:Nat):Al P' P fz F4 ρ (Zah n) (Zah n):=by
 unfold Zah;split
 ·exact wF .noRoom
 ·exact Ad rfl
theorem Twins.kP (T:Twins P' P):∀i,P'.info? 0=some i→i.methods.find? (fun m=>m.name== "")=none:=fun i hi=>T.lack i (by rw[←hi,T.tables])
theorem Twins.info (T:Twins P' P)(t:Zs):P'.info? t=P.info? t:=by rw[T.tables]
theorem Twins.wG (T:Twins P' P)(t:Zs):P'.underlying t=P.underlying t:=by unfold Program.underlying;simp only[T.tables]
theorem Twins.rt (T:Twins P' P):P'.rt=P.rt:=by rw[T.tables]
theorem Twins.cells (T:Twins P' P)(t:Zs):P'.cellsOf t=P.cellsOf t:=by unfold Program.cellsOf;rw[T.tables]
theorem Twins.bytes (T:Twins P' P)(t:Zs):P'.bytesOf t=P.bytesOf t:=by unfold Program.bytesOf;rw[T.tables]
theorem Twins.depth (T:Twins P' P):P'.depth=P.depth:=by unfold Program.depth;rw[T.tables]
theorem Cl (T:Twins P' P)(t:Zs):Al P' P fz (fun _ i i'=>i=i'∧P.info? t=some i) ρ (typeInfo t) (typeInfo t):=by
 unfold typeInfo;refine Ac _ CQ fun σ p p' _ hp=>?_;obtain⟨rfl,rfl⟩:=hp;rw[T.info];cases h:P.info? t with
 |none=>exact Ae
 |some i=>exact Ad ⟨rfl,rfl⟩
theorem Ao (T:Twins P' P)(t:Zs):Al P' P fz (fun _ i i'=>i=i'∧P.underlying t=some i) ρ (underlying t) (underlying t):=by
 unfold underlying;refine Ac _ CQ fun σ p p' _ hp=>?_;obtain⟨rfl,rfl⟩:=hp;rw[T.wG];cases h:P.underlying t with
 |none=>exact Ae
 |some i=>exact Ad ⟨rfl,rfl⟩
theorem CY (T:Twins P' P)(t:Zs):Al P' P fz VR ρ (zeroValue t) (zeroValue t):=by
 unfold zeroValue;refine Ac _ (Cl T t) fun σ i i' _ hi=>?_;obtain⟨rfl,hi⟩:=hi;cases h:i.zero with
 |none=>exact Ai
 |some v=>exact Ad (T.zero t i v hi h σ)
theorem Cb (T:Twins P' P)(t:Zs):Al P' P fz (fun _ n n'=>n=n'∧n=P.cellsOf t) ρ (sizeOf t) (sizeOf t):=by
 unfold sizeOf;refine Ac _ (Cl T t) fun σ i i' _ hi=>?_;obtain⟨rfl,hi⟩:=hi;exact Ad ⟨rfl,by simp[Program.cellsOf,hi]⟩
theorem ea (T:Twins P' P)(t:Zs):Al P' P fz F4 ρ (isAgg t) (isAgg t):=by
 unfold isAgg;refine Ac _ (Ao T t) fun σ i i' _ hi=>?_;obtain⟨rfl,_⟩:=hi;split<;>exact Ad rfl
theorem AR.add {a a':Addr}(h:AR ρ a a')(n:Nat):AR ρ (a.add n) (a'.add n):=by
 unfold Addr.add;split
 ·exact h
 ·exact⟨h.1,by simp only[h.2.1],rfl⟩
theorem JA:∀(n:Nat) (i:Nat) {a a':Addr} (acc wH:Array Zc) (ρ:Ren),AR ρ a a'→BN ρ acc wH→Al P' P fz BN ρ (loadCellsFrom a i n acc) (loadCellsFrom a' i n wH)
 |0,_,_,_,_,_,_,_,wI=>Ad wI
 |n+1,i,a,a',acc,wH,ρ,h,wI=>by
  unfold loadCellsFrom;exact Ac _ (kO .plain (h.add i)) fun σ v v' hle hv=>JA n (i+1) _ _ σ (h.mono hle) ((BN.mono hle wI).push hv)
theorem J4 {a a':Addr}(h:AR ρ a a')(n:Nat):Al P' P fz BN ρ (loadCells a n) (loadCells a' n):=JA n 0 _ _ ρ h Bt.nil
theorem I_:∀ {vs vs':List Zc} {ρ:Ren} {a a':Addr} (i:Nat),AR ρ a a'→Eg (VR ρ) vs vs'→Al P' P fz F4 ρ (storeCells a vs i) (storeCells a' vs' i):=by
 intro vs
 induction vs with
 |nil=>intro vs' ρ a a' i h hv;cases hv;exact Ad rfl
 |cons v vs ih=>
  intro vs' ρ a a' i h hv;cases hv with
  |cons hv ht=>
   unfold storeCells;exact Ac _ (qe .plain (h.add i) hv) fun σ _ _ hle _=>ih (i+1) (h.mono hle) (ht.mono fun _ _=>VR.mono hle)
theorem Tx (T:Twins P' P)(t:Zs){a a':Addr}(h:AR ρ a a'):Al P' P fz VR ρ (loadVar t a) (loadVar t a'):=by
 unfold loadVar;refine Ac _ (ea T t) fun σ b b' hle hb=>?_;cases hb;split
 ·refine Ac _ (Cb T t) fun Bj n n' Av hn=>?_
  obtain⟨rfl,_⟩:=hn;exact Ac _ (J4 (h.mono (Ren.le_trans hle Av)) n) fun τ c c' _ hc=>Ad (.PU hc)
 ·exact kO .plain (h.mono hle)
theorem bF (T:Twins P' P)(t:Zs){a a':Addr}{v v':Zc}(h:AR ρ a a')(hv:VR ρ v v'):Al P' P fz F4 ρ (storeVar t a v) (storeVar t a' v'):=by
 unfold storeVar;refine Ac _ (Cb T t) fun σ n n' hle hn=>?_;obtain⟨rfl,_⟩:=hn;have hc:=(hv.mono hle).cells;rw[hc.1];split
 ·exact Ae
 ·exact I_ 0 (h.mono hle) hc.list
theorem Ip (e:Zs){c c':Array Zc}(h:BN ρ c c'):Al P' P fz AR ρ (newRow e c) (newRow e c'):=by
 unfold newRow;exact Ac _ (G1 (.cells e h (wB.refl _))) fun σ r r' _ hr=>Ad ⟨hr,rfl,rfl⟩
theorem MD (t:Zs){v v':Zc}(h:VR ρ v v'):Al P' P fz AR ρ (newVar t v) (newVar t v'):=Ip t h.cells
theorem Wn (T:Twins P' P)(t:Zs):Al P' P fz F4 ρ (elemOf t) (elemOf t):=by
 unfold elemOf;refine Ac _ (Ao T t) fun σ i i' _ hi=>?_;obtain⟨rfl,_⟩:=hi;split
 ·exact Ad rfl
 ·exact Ae
theorem J5 (T:Twins P' P)(t:Zs){c c':Array Zc}(h:BN ρ c c')(off:Nat):Al P' P fz VR ρ (part t c off) (part t c' off):=by
 unfold part;refine Ac _ (ea T t) fun σ b b' hle hb=>?_;cases hb;have h1:=BN.mono hle h;split
 ·refine Ac _ (Cb T t) fun Bj n n' Av hn=>?_
  obtain⟨rfl,_⟩:=hn;exact Ad (.PU ((BN.mono Av h1).extract _ _))
 ·rcases h1.opt off with⟨e1,e2⟩|⟨x,y,e1,e2,hr⟩
  ·rw[e1];exact Ae
  ·rw[e1,e2];exact Ad hr
theorem KN {v v':Zc}(h:VR ρ v v'):Al P' P fz F4 ρ (asIntOf v) (asIntOf v'):=by
 cases h with
 |int k n=>exact Ad rfl
 | @pointer a a' hp=>cases a<;>first|exact Ae|exact Ai
 |_=>exact Ae
theorem KO {v v':Zc}(h:VR ρ v v'):Al P' P fz F4 ρ (asInt v) (asInt v'):=by
 unfold asInt;exact Ac _ (KN h) fun σ a b _ Eh=>by cases Eh;exact Ad rfl
theorem QK {v v':Zc}(h:VR ρ v v'):Al P' P fz F4 ρ (asBool v) (asBool v'):=by
 cases h with
 |bool b=>exact Ad rfl
 |_=>exact Ae
theorem qf {v v':Zc}(h:VR ρ v v'):Al P' P fz BN ρ (asAgg v) (asAgg v'):=by
 cases h with
 |agg hc hv=>exact Ad ⟨hc,hv⟩
 |_=>exact Ae
def Base (P:Zp)(ρ:Ren):Prop:=ρ.ok.low=P.globals.size
theorem Base.mono {ρ σ:Ren}(h:Base P ρ)(hle:ρ.le σ):Base P σ:=by
 unfold Base at*;rw[hle.2.1];exact h
theorem Wo (T:Twins P' P)(hB:Base P ρ)(t:Zs):VR ρ (typeHandle P' t) (typeHandle P t):=by
 unfold typeHandle;rw[T.tables];have:=ρ.base;unfold Base at hB;rw[hB]at this;exact .pointer ⟨this,rfl,rfl⟩
theorem AH (T:Twins P' P)(hB:Base P ρ)(e:RuntimeError):Al P' P fz Q ρ (zw e:Sem α) (zw e:Sem β):=by
 unfold zw;refine Ac _ CQ fun σ p p' hle hp=>?_;obtain⟨rfl,rfl⟩:=hp;have kQ:=T.rt;cases e with
 |bounds x y s c=>simp only[kQ];exact Eb (.iface _ (.PU ((((Bt.single (.int _ _)).push (.int _ _)).push (.bool _)).push (.int _ _))))
 |error m=>simp only[kQ];exact Eb (.iface _ (.string _))
 |plain m=>simp only[kQ];exact Eb (.iface _ (.string _))
 |nilDeref=>simp only[kQ];exact Eb (.iface _ (.string _))
 |typeAssertion i c a m=>
  simp only[kQ];refine Ac _ (Wn T _) fun Bj e e' Av he=>?_;cases he;have Iq:Base P Bj:=hB.mono (Ren.le_trans hle Av);have hh:∀t:Option Zs,VR Bj (match t with|some t=>typeHandle P' t|none=>.pointer none) (match t with|some t=>typeHandle P t|none=>.pointer none):=by
   intro t;cases t with
   |none=>exact .pointer trivial
   |some t=>exact Wo T Iq t
  refine Ac _ (MD _ (.PU ((((Bt.single (hh i)).push (hh c)).push (hh (some a))).push (.string _)))) fun Ef r r' _ hr=>?_;exact Eb (.iface _ (.pointer hr))
 |panicNil=>
  simp only[kQ];refine Ac _ (Wn T _) fun Bj e e' Av he=>?_;cases he;refine Ac _ (MD _ (.PU Bt.nil)) fun Ef r r' _ hr=>?_;exact Eb (.iface _ (.pointer hr))
 |unhashable t=>
  simp only[kQ];exact Eb (.iface _ (.PU (Bt.single (Wo T (hB.mono hle) t))))
theorem Ep (T:Twins P' P)(hB:Base P ρ)(k:IntKind)(x y:Int)(c:BoundsCode):Al P' P fz Q ρ (ZaK k x y c:Sem α) (ZaK k x y c:Sem β):=by
 unfold ZaK;dsimp only;split
 ·refine Ac F4 ?_ fun σ a b hle Eh=>?_
  ·refine Ac _ (G2 _) fun σ a b _ Eh=>?_
   cases Eh;exact Ad rfl
  ·cases Eh;exact AH T (hB.mono hle) _
 ·refine Ac F4 (Ad rfl) fun σ a b hle Eh=>?_
  cases Eh;exact AH T (hB.mono hle) _
theorem Wp (T:Twins P' P)(hB:Base P ρ){v v':Zc}(h:VR ρ v v'):Al P' P fz AR ρ (asAddr v) (asAddr v'):=by
 cases h with
 | @pointer a a' hp=>
  cases a<;>cases a'<;>first|exact hp.elim|skip
  ·exact AH T hB .nilDeref
  ·exact Ad hp
 |_=>exact Ae
theorem G3 {v v':Zc}(h:VR ρ v v'):Al P' P fz AR ρ (Instr.sureAddr v) (Instr.sureAddr v'):=by
 cases h with
 | @pointer a a' hp=>
  cases a<;>cases a'<;>first|exact hp.elim|skip
  ·exact Ae
  ·exact Ad hp
 |_=>exact Ae
end
section
variable {P' P:Zp}{fz:Prop}{ρ:Ren}
theorem Cs {α β γ:Type}{Q:Ren→α→β→Prop}{m:String}{f:γ→Sem α}{s':Sem β}:Al P' P fz Q ρ ((stuck m:Sem γ)>>=f) s':=.bad trivial
theorem FR (T:Twins P' P):∀(d:Nat) (t:Zs) (off:Nat),byteOfCell P' d t off=byteOfCell P d t off
 |0,_,_=>rfl
 |d+1,t,off=>by
  unfold byteOfCell;rw[T.wG];cases P.underlying t with
  |none=>rfl
  |some x=>
   cases x with
   |struct fs=>simp only[T.cells,FR T d]
   |array n e=>simp only[T.cells,T.bytes,FR T d]
   |_=>rfl
theorem Wq {r r':Nat}(h:ρ r=some r'):Al P' P fz (fun _ a b=>a=none∧b=none) ρ (viewAt r) (viewAt r'):=by
 unfold viewAt;refine Ac _ (MC h) fun σ s s' hle hs=>?_;cases hs;split
 ·exact Ad ⟨rfl,rfl⟩
 ·refine Ac _ (CX (hle.1 _ _ h)) fun τ o o' _ ho=>?_
  cases ho with
  | @junk o' h=>cases o'<;>first|exact Ad ⟨rfl,rfl⟩|cases h
  |_=>exact Ad ⟨rfl,rfl⟩
theorem kR {a a':Addr}(h:AR ρ a a'):Al P' P fz F4 ρ (noView a) (noView a'):=by
 unfold noView;refine Ac _ (Wq h.1) fun σ s s' hle hs=>?_;obtain⟨rfl,rfl⟩:=hs;exact Ad rfl
theorem G4 (T:Twins P' P){a a':Addr}(h:AR ρ a a'):Al P' P fz F4 ρ (byteOf a) (byteOf a'):=by
 unfold byteOf;rw[h.2.2];cases a.spot with
 |some s=>exact Ad rfl
 |none=>
  dsimp only;refine Ac _ CQ fun σ p p' hle hp=>?_;obtain⟨rfl,rfl⟩:=hp;have h1:=h.mono hle;refine Ac _ (kR h1) fun aoe _ _ wJ _=>?_;have h2:=h1.mono wJ;refine Ac _ (MC h2.1) fun Bj s s' Av hs=>?_;cases hs;cases s with
  |none=>exact Ae
  |some x=>
   obtain⟨e,n⟩:=x;dsimp only;rw[T.cells,T.depth,FR T,h.2.1,T.bytes];split
   ·exact Ad rfl
   ·cases byteOfCell P P.depth e (a.off % P.cellsOf e) with
    |none=>exact Ae
    |some b=>exact Ad rfl
theorem kS (T:Twins P' P){a a':Addr}(h:AR ρ a a')(cells bytes:Nat):Al P' P fz AR ρ (partAt a cells bytes) (partAt a' cells bytes):=by
 unfold partAt;refine Ac _ (G4 T h) fun σ b b' hle hb=>?_;cases hb;have h1:AR σ {block:=a.block,off:=a.off+cells} {block:=a'.block,off:=a'.off+cells}:=⟨hle.1 _ _ h.1,by simp only[h.2.1],rfl⟩;dsimp only;refine Ac _ (G4 T h1) fun Bj c c' Av hc=>?_;cases hc;split
 ·exact Ad (h1.mono Av)
 ·exact Ad ⟨(h1.mono Av).1,h1.2.1,rfl⟩
theorem UH (T:Twins P' P){a a':Addr}(h:AR ρ a a')(f:Field):Al P' P fz AR ρ (fieldPlace a f) (fieldPlace a' f):=by
 unfold fieldPlace;refine Ac _ (Cb T _) fun σ n n' hle hn=>?_;obtain⟨rfl,_⟩:=hn;split
 ·exact kS T (h.mono hle) _ _
 ·exact Ad ((h.mono hle).add _)
theorem qg (T:Twins P' P)(e:Zs):Al P' P fz VR ρ (Instr.alloc e true (.tuple #[])) (Instr.alloc e true (.tuple #[])):=by
 unfold Instr.alloc;refine Ac _ (CY T e) fun σ v v' hle hv=>?_;exact Ac _ (MD e hv) fun τ a a' _ ha=>Ad (.pointer ha)
theorem acb (e:Zs){v v':Zc}(h:VR ρ v v'):Al P' P fz VR ρ (Instr.box e v) (Instr.box e v'):=
 Ac _ (MD e h) fun _ _ _ _ ha=>Ad (.pointer ha)
theorem kT (T:Twins P' P)(t:Zs){v v':Zc}(h:VR ρ v v'):Al P' P fz VR ρ (Instr.loadAt t v) (Instr.loadAt t v'):=
 Ac _ (G3 h) fun _ _ _ _ ha=>Tx T t ha
theorem gO (T:Twins P' P)(t:Zs){v v' x x':Zc}(h:VR ρ v v')(hx:VR ρ x x'):Al P' P fz F4 ρ (Instr.storeAt t v x) (Instr.storeAt t v' x'):=
 Ac _ (G3 h) fun _ _ _ hle ha=>bF T t ha (hx.mono hle)
theorem gP (T:Twins P' P)(s:Zs){v v':Zc}(h:VR ρ v v')(f:Nat):Al P' P fz VR ρ (Instr.fieldAt s v f) (Instr.fieldAt s v' f):=by
 unfold Instr.fieldAt;refine Ac _ (Ao T s) fun σ i i' hle hi=>?_;obtain⟨rfl,_⟩:=hi;cases i with
 |struct fields=>
  dsimp only;cases fields[f]? with
  |none=>exact Ae
  |some x=>
   dsimp only;refine Ac _ (G3 (h.mono hle)) fun Bj a a' Av ha=>?_;exact Ac _ (UH T ha x) fun τ b b' _ hb=>Ad (.pointer hb)
 |_=>exact Ae
theorem gQ (T:Twins P' P)(hB:Base P ρ)(t:Zs){x x' i i':Zc}(hx:VR ρ x x')(hi:VR ρ i i'):Al P' P fz VR ρ (Instr.indexAt t x i) (Instr.indexAt t x' i'):=by
 unfold Instr.indexAt;refine Ac _ (KN hi) fun σ k k' hle hk=>?_;cases hk;obtain⟨k,i⟩:=k;dsimp only;refine Ac _ (Ao T t) fun Bj d d' Av hd=>?_;obtain⟨rfl,hd⟩:=hd;have A6:=hx.mono (Ren.le_trans hle Av);have tail:∀(τ:Ren) (a a':Option Addr×Nat×Zs) (u:Unsupported),GG (.unsupported u)→ρ.le τ→Nx τ a.1 a'.1→a.2=a'.2→
   Al P' P fz VR τ (underlying t>>=fun ME=>
    match a.1 with
    |some ad=>if 0≤i∧i<a.2.1 then(sizeOf a.2.2>>=fun n=>pure (Value.pointer (some (ad.add (i.toNat*n)))))
      else if(decide (a.2.1≤1)&&(match ME with| .array .. =>true|_=>false))=true then unsupported u else ZaK k i a.2.1 .index
    |none=>ZaK k i 0 .index) (underlying t>>=fun ME=>
    match a'.1 with
    |some ad=>if 0≤i∧i<a'.2.1 then(sizeOf a'.2.2>>=fun n=>pure (Value.pointer (some (ad.add (i.toNat*n)))))
      else if(decide (a'.2.1≤1)&&(match ME with| .array .. =>true|_=>false))=true then unsupported u else ZaK k i a'.2.1 .index
    |none=>ZaK k i 0 .index):=by
  intro τ a a' u hu C6 h1 h2;obtain⟨b,len,elem⟩:=a;obtain⟨b',arF,aof⟩:=a';cases h2;dsimp only at h1⊢;refine Ac _ (Ao T t) fun J6 GH aog BF acd=>?_;obtain⟨rfl,_⟩:=acd;have OQ:Base P J6:=hB.mono (Ren.le_trans C6 BF);cases b<;>cases b'<;>first|exact h1.elim|skip
  ·dsimp only;exact Ep T OQ _ _ _ _
  ·dsimp only
   split
   ·refine Ac _ (Cb T _) fun MF n n' DV hn=>?_
    obtain⟨rfl,_⟩:=hn;exact Ad (.pointer ((AR.mono (Ren.le_trans BF DV) h1).add _))
   ·(repeat' split)<;>first|exact Ai hu|exact Ep T OQ _ _ _ _
 have CB:=Ren.le_trans hle Av;cases d with
 |array len elem=>exact Ac _ (G3 A6) fun _ _ _ AV ha=>tail _ (some _,_,_) (some _,_,_) _ trivial (Ren.le_trans CB AV) ha rfl
 |slice elem=>
  cases A6 with
  |slice n c h=>exact tail _ (_,_,_) (_,_,_) _ trivial CB h rfl
  |_=>exact Cs
 |_=>exact Cs
theorem I' (T:Twins P' P)(hB:Base P ρ){x x':Zc}(hx:VR ρ x x')(y:Nat)(c:BoundsCode):Al P' P fz F4 ρ (Instr.sliceBound x y c) (Instr.sliceBound x' y c):=by
 unfold Instr.sliceBound;refine Ac _ (KN hx) fun σ k k' hle hk=>?_;cases hk;obtain⟨k,i⟩:=k;dsimp only;split
 ·exact Ad rfl
 ·exact Ep T (hB.mono hle) _ _ _ _
def ed (ρ:Ren):Option Zc→Option Zc→Prop
 |none,none=>True
 |some a,some b=>VR ρ a b
 |_,_=>False
theorem ed.mono {ρ σ:Ren}(h:ρ.le σ){a b:Option Zc}(x:ed ρ a b):ed σ a b:=by
 cases a<;>cases b<;>first|exact x|exact VR.mono h x
theorem FT (T:Twins P' P)(hB:Base P ρ)(s:Bool)(len cap:Nat){l l' h h' m m':Option Zc}(hl:ed ρ l l')(hh:ed ρ h h')(hm:ed ρ m m'):
  Al P' P fz F4 ρ (Instr.sliceBounds s len cap l h m) (Instr.sliceBounds s len cap l' h' m'):=by
 unfold Instr.sliceBounds;cases l<;>cases l'<;>first|exact hl.elim|skip
 all_goals cases h<;>cases h'<;>first|exact hh.elim|skip
 all_goals cases m<;>cases m'<;>first|exact hm.elim|skip
 all_goals dsimp only[Option.isSome]
 all_goals
  refine Ac F4 (by first|exact Ad rfl|exact I' T hB hm _ _) fun σ a a' hle ha=>?_;cases ha;refine Ac F4 (by first|exact Ad rfl|exact Ae|exact I' T (hB.mono hle) (VR.mono hle hh) _ _) fun Bj b b' Av hb=>?_;cases hb;refine Ac F4 (by first|exact Ad rfl|exact I' T (hB.mono (Ren.le_trans hle Av)) (VR.mono (Ren.le_trans hle Av) hl) _ _) fun Ef c c' _ hc=>?_;cases hc;exact Ad rfl
theorem qh (T:Twins P' P)(hB:Base P ρ)(t:Zs){x x':Zc}{l l' h h' m m':Option Zc}(hx:VR ρ x x')(hl:ed ρ l l')(hh:ed ρ h h')(hm:ed ρ m m'):
  Al P' P fz VR ρ (Instr.slice t x l h m) (Instr.slice t x' l' h' m'):=by
 unfold Instr.slice;refine Ac _ (Ao T t) fun σ d d' hle hd=>?_;obtain⟨rfl,_⟩:=hd;have A6:=hx.mono hle;have Iq:=hB.mono hle;cases d with
 |string=>
  cases A6 with
  |string s=>
   dsimp only;have tL:m.isSome=m'.isSome:=by cases m<;>cases m'<;>first|rfl|exact hm.elim
   rw[tL];split
   ·exact Ae
   ·refine Ac _ (FT T Iq _ _ _ (hl.mono hle) (hh.mono hle) trivial) fun Bj b b' _ hb=>?_
    cases hb;exact Ad (.string _)
  |_=>exact Ae
 |slice elem=>
  cases A6 with
  | @slice a a' n c ha=>
   dsimp only;refine Ac _ (FT T Iq _ _ _ (hl.mono hle) (hh.mono hle) (hm.mono hle)) fun Bj b b' Av hb=>?_;cases hb;obtain⟨b1,b2,b3⟩:=b;dsimp only;refine Ac _ (Cb T _) fun Ef s s' AV hs=>?_;obtain⟨rfl,_⟩:=hs;refine Ad (.slice _ _ ?_);have MH:=ha.mono (Ren.le_trans Av AV);split
   ·exact MH
   ·cases a<;>cases a'<;>first|exact MH.elim|exact trivial|exact AR.add MH _
  |_=>exact Ae
 |pointer arr=>
  refine Ac _ (Wp T Iq A6) fun Bj a a' Av ha=>?_;refine Ac _ (Ao T arr) fun Ef e e' AV he=>?_;obtain⟨rfl,_⟩:=he;have GV:=Ren.le_trans hle (Ren.le_trans Av AV);cases e with
  |array n elem=>
   dsimp only;refine Ac _ (FT T (hB.mono GV) _ _ _ (hl.mono GV) (hh.mono GV) (hm.mono GV)) fun J6 b b' BF hb=>?_;cases hb;obtain⟨b1,b2,b3⟩:=b;dsimp only;refine Ac _ (Cb T _) fun MF s s' DV hs=>?_;obtain⟨rfl,_⟩:=hs;have Wr:=ha.mono (Ren.le_trans AV (Ren.le_trans BF DV));refine Ad (.slice _ _ ?_);split
   ·exact Wr
   ·exact AR.add Wr _
  |_=>exact Ae
 |_=>cases A6<;>exact Ae
theorem gR (T:Twins P' P)(hB:Base P ρ)(t:Zs){x x':Zc}{l l' h h' m m':Option Zc}(hx:VR ρ x x')(hl:ed ρ l l')(hh:ed ρ h h')(hm:ed ρ m m'):
  Al P' P fz VR ρ (Zay t x l h m) (Zay t x' l' h' m'):=by
 unfold Zay;refine Ac _ (Ao T t) fun σ d d' hle hd=>?_;obtain⟨rfl,_⟩:=hd;have hd:∀s:Sem Zc,s=Instr.slice t x l h m→∀s',s'=Instr.slice t x' l' h' m'→Al P' P fz VR σ s s':=by
  rintro _ rfl _ rfl;exact qh T (hB.mono hle) t (hx.mono hle) (hl.mono hle) (hh.mono hle) (hm.mono hle)
 cases d with
 |array n elem=>
  dsimp only;refine Ac _ (G3 (hx.mono hle)) fun Bj a a' Av ha=>?_;have CB:=Ren.le_trans hle Av;refine Ac _ (FT T (hB.mono CB) _ _ _ (hl.mono CB) (hh.mono CB) (hm.mono CB)) fun J6 b b' BF hb=>?_;cases hb;obtain⟨b1,b2,b3⟩:=b;dsimp only;refine Ac _ (Cb T _) fun MF s s' DV hs=>?_;obtain⟨rfl,_⟩:=hs;have Wr:=ha.mono (Ren.le_trans BF DV);refine Ad (.slice _ _ ?_);split
  ·exact Wr
  ·exact AR.add Wr _
 |_=>exact hd _ rfl _ rfl
theorem qi (T:Twins P' P)(t:Zs){x x':Zc}(hx:VR ρ x x')(f:Nat):Al P' P fz VR ρ (Instr.field t x f) (Instr.field t x' f):=by
 unfold Instr.field;refine Ac _ (Ao T t) fun σ d d' hle hd=>?_;obtain⟨rfl,_⟩:=hd;cases d with
 |struct fields=>
  dsimp only;cases fields[f]? with
  |none=>exact Ae
  |some y=>exact Ac _ (qf (hx.mono hle)) fun Bj c c' _ hc=>J5 T _ hc _
 |_=>exact Ae
theorem qj (T:Twins P' P)(hB:Base P ρ)(t:Zs){x x' i i':Zc}(hx:VR ρ x x')(hi:VR ρ i i'):Al P' P fz VR ρ (Instr.index t x i) (Instr.index t x' i'):=by
 unfold Instr.index;refine Ac _ (KN hi) fun σ k k' hle hk=>?_;cases hk;obtain⟨k,i⟩:=k;dsimp only;refine Ac _ (Ao T t) fun Bj d d' Av hd=>?_;obtain⟨rfl,hd⟩:=hd;have CB:=Ren.le_trans hle Av;have A6:=hx.mono CB;cases d with
 |array len elem=>
  cases A6 with
  |agg hc hv=>
   dsimp only;split
   ·refine Ac _ (Cb T _) fun MF s s' DV hs=>?_
    obtain⟨rfl,_⟩:=hs;exact J5 T _ (BN.mono DV ⟨hc,hv⟩) _
   ·exact Ep T (hB.mono CB) _ _ _ _
  |_=>exact Ae
 |string=>
  cases A6 with
  |string s=>
   dsimp only;split
   ·exact Ad (.int _ _)
   ·exact Ep T (hB.mono CB) _ _ _ _
  |_=>exact Ae
 |_=>cases A6<;>exact Ae
theorem gS {x x':Zc}(hx:VR ρ x x')(i:Nat):Al P' P fz VR ρ (Instr.extract x i) (Instr.extract x' i):=by
 unfold Instr.extract;cases hx with
 | @tuple c c' hc hv=>
  dsimp only;rcases(show BN ρ c c' from⟨hc,hv⟩).opt i with⟨e1,e2⟩|⟨x,y,e1,e2,hr⟩
  ·rw[e1];exact Ae
  ·rw[e1,e2];exact Ad hr
 |_=>exact Ae
theorem PW (T:Twins P' P)(t:Zs){x x':Zc}(hx:VR ρ x x'):Al P' P fz VR ρ (Instr.makeInterface t x) (Instr.makeInterface t x'):=by
 unfold Instr.makeInterface;refine Ac _ (Ao T t) fun σ d d' hle hd=>?_;obtain⟨rfl,_⟩:=hd;cases d<;>first|exact Ae|exact Ad (.iface _ (hx.mono hle))
theorem gT (T:Twins P' P)(t:Zs){r r':Option Zc}(hr:ed ρ r r'):Al P' P fz VR ρ (Instr.makeMap t r) (Instr.makeMap t r'):=by
 unfold Instr.makeMap;cases r<;>cases r'<;>first|exact hr.elim|skip
 ·exact Ac _ (G1 (.map 0 Bt.nil)) fun σ a a' _ ha=>Ad (.map ha)
 ·dsimp only
  refine Ac _ (Ao T t) fun σ d d' hle hd=>?_;obtain⟨rfl,_⟩:=hd;cases d with
  |map _ _=>
   refine Ac _ (KO (VR.mono hle hr)) fun Bj _ _ _ _=>?_;exact Ac _ (G1 (.map 0 Bt.nil)) fun σ a a' _ ha=>Ad (.map ha)
  |_=>exact Ae
theorem SU {a b:Array Zc}(h:BN ρ a b)(hz:a.size≠0)(n:Nat):BN ρ ((YB n).map (a[· % a.size]!)) ((YB n).map (b[· % b.size]!)):=by
 refine⟨by simp,fun i x y hx hy=>?_⟩;rw[Yi,zd]at hx hy;obtain⟨u,hu,rfl⟩:=hx;obtain⟨v,hv,rfl⟩:=hy;rw[hu]at hv;cases hv;have h1:u % a.size<a.size:=Nat.mod_lt _ (by omega);have h2:u % b.size<b.size:=by rw[←h.1];exact h1
 rw[getElem!_pos a _ h1,getElem!_pos b _ h2];refine h.2 (u % a.size) _ _ (ZB h1) ?_;have:u % a.size=u % b.size:=by rw[h.1]
 rw[this];exact ZB h2
end
section
variable {P' P:Zp}{fz:Prop}{ρ:Ren}
inductive wK {β γ:Type}(R:Ren→β→γ→Prop)(σ:Ren):ForInStep β→ForInStep γ→Prop
 |yield {b:β} {c:γ} (h:R σ b c):wK R σ (.yield b) (.yield c)
 |done {b:β} {c:γ} (h:R σ b c):wK R σ (.done b) (.done c)
theorem UI {α δ β γ:Type}{E:Ren→α→δ→Prop}{R:Ren→β→γ→Prop}(hE:∀ρ σ x y,ρ.le σ→E ρ x y→E σ x y){f:α→β→Sem (ForInStep β)}{f':δ→γ→Sem (ForInStep γ)}:
  ∀ {l:List α} {l':List δ} {σ:Ren} {b:β} {c:γ},Eg (E σ) l l'→R σ b c→
   (∀τ x y b c,σ.le τ→E τ x y→R τ b c→Al P' P fz (wK R) τ (f x b) (f' y c))→Al P' P fz R σ (forIn l b f) (forIn l' c f'):=by
 intro l
 induction l with
 |nil=>intro l' σ b c hl hb _;cases hl;exact Ad hb
 |cons x l ih=>
  intro l' σ b c hl hb hf;cases hl with
  |cons hx ht=>
   rw[List.forIn_cons,List.forIn_cons];refine Ac _ (hf σ x _ b c (Ren.le_refl _) hx hb) fun τ s s' hle hs=>?_;cases hs with
   |yield h=>exact ih (ht.mono fun _ _=>hE _ _ _ _ hle) h fun υ x y b c Av=>hf υ x y b c (Ren.le_trans hle Av)
   |done h=>exact Ad h
theorem Eg.eq {α:Type}(l:List α):Eg (fun a b=>a=b) l l:=by
 induction l with
 |nil=>exact .nil
 |cons x l ih=>exact .cons rfl ih
theorem ef {α β γ:Type}{R:Ren→β→γ→Prop}{f:α→β→Sem (ForInStep β)}{f':α→γ→Sem (ForInStep γ)}(l:List α){b:β}{c:γ}(hb:R ρ b c)
  (hf:∀τ x b c,ρ.le τ→R τ b c→Al P' P fz (wK R) τ (f x b) (f' x c)):Al P' P fz R ρ (forIn l b f) (forIn l c f'):=
 UI (E:=F4) (fun _ _ _ _ _ h=>h) (Eg.eq l) hb fun τ x y b c hle hxy JO=>by cases hxy;exact hf τ x b c hle JO
theorem eh {β γ:Type}{R:Ren→β→γ→Prop}{f:Nat→β→Sem (ForInStep β)}{f':Nat→γ→Sem (ForInStep γ)}(n:Nat){b:β}{c:γ}(hb:R ρ b c)
  (hf:∀τ x b c,ρ.le τ→R τ b c→Al P' P fz (wK R) τ (f x b) (f' x c)):Al P' P fz R ρ (forIn [0:n] b f) (forIn [0:n] c f'):=by
 simp only[Std.Legacy.Range.forIn_eq_forIn_range'];exact ef _ hb hf
theorem qk {α β γ:Type}{R:Ren→β→γ→Prop}{f:α→β→Sem (ForInStep β)}{f':α→γ→Sem (ForInStep γ)}(a:Array α){b:β}{c:γ}(hb:R ρ b c)
  (hf:∀τ x b c,ρ.le τ→R τ b c→Al P' P fz (wK R) τ (f x b) (f' x c)):Al P' P fz R ρ (forIn a b f) (forIn a c f'):=by
 rw[←YV, ←YV];exact ef _ hb hf
theorem kU {β γ:Type}{R:Ren→β→γ→Prop}{f:Zc→β→Sem (ForInStep β)}{f':Zc→γ→Sem (ForInStep γ)}{a a':Array Zc}(h:BN ρ a a'){b:β}{c:γ}(hb:R ρ b c)
  (hf:∀τ x y b c,ρ.le τ→VR τ x y→R τ b c→Al P' P fz (wK R) τ (f x b) (f' y c)):Al P' P fz R ρ (forIn a b f) (forIn a' c f'):=by
 rw[←YV, ←YV];exact UI (E:=VR) (fun _ _ _ _ hle h=>h.mono hle) h.list hb hf
end
section
variable {P' P:Zp}{fz:Prop}{ρ:Ren}
theorem Ty (T:Twins P' P)(t:Zs):Al P' P fz F4 ρ (typeStr t) (typeStr t):=by
 unfold typeStr;refine Ac _ (Cl T t) fun σ i i' _ hi=>?_;obtain⟨rfl,_⟩:=hi;dsimp only;split
 ·exact Ai
 ·exact Ad rfl
theorem DX (T:Twins P' P):∀(empty:Bool) (n:Nat) (t:Zs) {ρ:Ren} {v v':Zc},Base P ρ→VR ρ v v'→Al P' P fz F4 ρ (Yt empty n t v) (Yt empty n t v')
 |_,0,_,_,_,_,_,_=>Ai
 |empty,n+1,t,ρ,v,v',hB,hv=>by
  unfold Yt;refine Ac _ (Ao T t) fun σ d d' hle hd=>?_;obtain⟨rfl,_⟩:=hd;have ei:=hv.mono hle;have Iq:=hB.mono hle;cases d with
  |interface ms=>
   cases ei with
   |iface d h=>
    dsimp only;refine Ac _ (Cl T d) fun Bj i i' Av hi=>?_;obtain⟨rfl,_⟩:=hi;have Tz:=Iq.mono Av;have ace:=DX T empty n d Tz (h.mono Av);split
    ·cases empty with
     |true=>
      refine Ac F4 (AH T Tz _) fun Ef _ _ AV _=>?_;refine Ac _ (Ty T d) fun J6 s s' BF hs=>?_;cases hs;exact Ac F4 (AH T ((Tz.mono AV).mono BF) _) fun MF _ _ DV _=>DX T true n d (((Tz.mono AV).mono BF).mono DV) (h.mono (Ren.le_trans Av (Ren.le_trans AV (Ren.le_trans BF DV))))
     |false=>
      refine Ac _ (Ty T d) fun J6 s s' BF hs=>?_;cases hs;exact Ac F4 (AH T (Tz.mono BF) _) fun MF _ _ DV _=>DX T false n d ((Tz.mono BF).mono DV) (h.mono (Ren.le_trans Av (Ren.le_trans BF DV)))
    ·exact ace
   |nilIface=>exact Ad rfl
   |_=>exact Ae
  |array len elem=>
   cases ei with
   | @agg c c' hc JN=>
    have hcs:BN σ c c':=⟨hc,JN⟩;dsimp only;refine Ac F4 (eh (R:=F4) len rfl fun τ x b c C6 _=>?_) fun _ _ _ _ _=>Ad rfl;refine Ac _ (Cb T elem) fun Dp s s' Bg hs=>?_;obtain⟨rfl,_⟩:=hs;refine Ac _ (J5 T elem (BN.mono (Ren.le_trans C6 Bg) hcs) _) fun JB y y' B5 hy=>?_;exact Ac _ (DX T empty n elem (Iq.mono (Ren.le_trans C6 (Ren.le_trans Bg B5))) hy) fun _ _ _ _ _=>Ad (.yield rfl)
   |_=>exact Ae
  |struct fields=>
   cases ei with
   | @agg c c' hc JN=>
    have hcs:BN σ c c':=⟨hc,JN⟩;dsimp only;refine Ac F4 (qk (R:=F4) fields rfl fun τ f b c C6 _=>?_) fun _ _ _ _ _=>Ad rfl;split
    ·refine Ac _ (J5 T _ (BN.mono C6 hcs) _) fun JB y y' B5 hy=>?_
     exact Ac _ (DX T empty n _ (Iq.mono (Ren.le_trans C6 B5)) hy) fun _ _ _ _ _=>Ad (.yield rfl)
    ·exact Ad (.yield rfl)
   |_=>exact Ae
  |_=>cases ei<;>exact Ad rfl
end
def Ja (P:Zp):Nat→Zs→Bool
 |0,_=>false
 |n+1,t=>match P.underlying t with
  |some .bool|some (.int _)|some (.float _)|some (.complex _)|some .string|some (.slice _)|some (.map _ _)|some (.func _ _ _)|some (.chan _ _)=>true
  |some (.struct fs)=>fs.all fun f=>Ja P n f.type
  |some (.array _ e)=>Ja P n e
  |_=>false
section
variable {P' P:Zp}{fz:Prop}{ρ:Ren}
theorem QG.eq_iff {a a' b b':Option Nat}(h:QG ρ a a')(k:QG ρ b b'):(a==b)=(a'==b'):=by
 rw[Bool.eq_iff_iff,beq_iff_eq,beq_iff_eq];cases a<;>cases a'<;>first|exact h.elim|skip
 all_goals cases b<;>cases b'<;>first|exact k.elim|skip
 ·simp
 ·simp
 ·simp
 ·simp only[ZI]
  constructor
  ·rintro rfl;have h1:ρ _=_:=h;rw[show ρ _=_ from k]at h1;cases h1;rfl
  ·rintro rfl;exact ρ.inj _ _ _ h k
theorem Nx.isNone {a a':Option Addr}(h:Nx ρ a a'):a.isNone=a'.isNone:=by
 cases a<;>cases a'<;>first|exact h.elim|rfl
theorem QG.isNone {a a':Option Nat}(h:QG ρ a a'):a.isNone=a'.isNone:=by
 cases a<;>cases a'<;>first|exact h.elim|rfl
theorem JC (hT:P'.toTables=P.toTables):∀(n:Nat) (t u:Zs),P'.alikeButTags n t u=P.alikeButTags n t u
 |0,_,_=>rfl
 |n+1,t,u=>by
  unfold Program.alikeButTags;simp only[hT,JC hT n]
theorem QL (hT:P'.toTables=P.toTables)(t:Zs):P'.stoodInHeld t=P.stoodInHeld t:=by
 have hu:∀t,P'.underlying t=P.underlying t:=fun t=>by unfold Program.underlying;simp only[hT]
 have hi:∀t,P'.underlyingId t=P.underlyingId t:=fun t=>by unfold Program.underlyingId;simp only[hT]
 have hd:P'.depth=P.depth:=by unfold Program.depth;rw[hT]
 unfold Program.stoodInHeld Program.stoodInAs;simp only[hu,hi,hd,JC hT,hT]
theorem AR.QM {a a' b b':Addr}(h:AR ρ a a')(k:AR ρ b b'):(a.block==b.block)=(a'.block==b'.block):=by
 rw[Bool.eq_iff_iff,beq_iff_eq,beq_iff_eq];constructor
 ·intro e;have h1:=h.1;rw[e,k.1]at h1;exact(Z2 h1).symm
 ·intro e;have h1:=h.1;rw[e]at h1;exact ρ.inj _ _ _ h1 k.1
theorem AR.eq_iff {a a' b b':Addr}(h:AR ρ a a')(k:AR ρ b b'):(a==b)=(a'==b'):=by
 have hb:=AR.QM h k;obtain⟨ab,ao,asp⟩:=a;obtain⟨ab',ao',arG⟩:=a';obtain⟨bb,bo,bsp⟩:=b;obtain⟨bb',bo',arH⟩:=b';obtain⟨h1,h2,h3⟩:=h;obtain⟨k1,k2,k3⟩:=k;dsimp only at h1 h2 h3 k1 k2 k3 hb;subst h2;subst h3;subst k2;subst k3;rw[Bool.eq_iff_iff,beq_iff_eq,beq_iff_eq]at hb⊢;simp only[Addr.mk.injEq,hb]
theorem AR.base (hB:Base P ρ){a a':Addr}(h:AR ρ a a'):(a.block<P.globals.size)=(a'.block<P.globals.size):=by
 apply propext;have:=ρ.sep _ _ h.1;unfold Base at hB;rw[hB]at this;exact this
def aii (σ:Ren)(a b:Option (Addr×Bool)):Prop:=(a=none∧b=none)∨∃x y l,a=some (x,l)∧b=some (y,l)∧AR σ x y
theorem QN {r r':Nat}(h:ρ r=some r'):Al P' P fz aii ρ (numberAt r) (numberAt r'):=by
 unfold numberAt;refine Ac _ (MC h) fun σ s s' hle hs=>?_;cases hs;split
 ·exact Ad (.inl ⟨rfl,rfl⟩)
 ·refine Ac _ (CX (hle.1 _ _ h)) fun τ o o' _ ho=>?_
  cases ho with
  |number l h=>exact Ad (.inr ⟨_,_,l,rfl,rfl,h⟩)
  | @junk o' h=>cases o'<;>first|exact Ad (.inl ⟨rfl,rfl⟩)|cases h
  |_=>exact Ad (.inl ⟨rfl,rfl⟩)
theorem EV {a a':Addr}(h:AR ρ a a'):Al P' P fz (fun σ p p'=>AR σ p.1 p'.1∧p.2=p'.2) ρ (behindNumber a) (behindNumber a'):=by
 unfold behindNumber;refine Ac _ (QN h.1) fun σ s s' hle hs=>?_;rcases hs with⟨rfl,rfl⟩|⟨x,y,l,rfl,rfl,hxy⟩
 ·exact Ad ⟨h.mono hle,rfl⟩
 ·exact Ad ⟨hxy,rfl⟩
theorem NH (T:Twins P' P):∀(d m:Nat) (t:Zs) {ρ:Ren} {x x' y y':Zc},Base P ρ→Ja P m t=true→VR ρ x x'→VR ρ y y'→Al P' P fz F4 ρ (Op.equalIn d t x y) (Op.equalIn d t x' y')
 |0,_,_,_,_,_,_,_,_,_,_,_=>Ai
 |d+1,0,_,_,_,_,_,_,_,h,_,_=>by cases h
 |d+1,m+1,t,ρ,x,x',y,y',hB,h,hx,hy=>by
  unfold Op.equalIn;refine Ac _ (Ao T t) fun σ u u' hle hu=>?_;obtain⟨rfl,hu⟩:=hu;unfold Ja at h;rw[hu]at h;have A6:=hx.mono hle;have G5:=hy.mono hle;have Iq:=hB.mono hle;cases u with
  |bool=>
   cases A6<;>first|exact Ae|skip
   cases G5<;>first|exact Ae|exact Ad rfl
  |int k=>
   cases A6 with
   |int k n=>
    cases G5 with
    |int k' n'=>dsimp only;split<;>first|exact Ad rfl|exact Ae
    | @pointer b b' hb=>
     cases b<;>cases b'<;>first|exact hb.elim|skip
     ·exact Ai
     ·cases n with
      |ofNat z=>cases z with
       |zero=>exact Ad rfl
       |succ z=>exact Ai
      |negSucc z=>exact Ai
    |_=>exact Ae
   | @pointer a a' ha=>
    cases a<;>cases a'<;>first|exact ha.elim|skip
    ·cases G5<;>first|exact Ae|exact Ai
    ·cases G5 with
     |int k' n'=>
      cases n' with
      |ofNat z=>cases z with
       |zero=>exact Ad rfl
       |succ z=>exact Ai
      |negSucc z=>exact Ai
     | @pointer b b' hb=>
      cases b<;>cases b'<;>first|exact hb.elim|skip
      ·exact Ai
      ·dsimp only
       refine Ac _ (EV ha) fun Bj p p' Av hp=>?_;obtain⟨a,la⟩:=p;obtain⟨a',bG⟩:=p';obtain⟨tM,_⟩:=hp;dsimp only at tM;have J2:AR Bj _ _:=AR.mono Av hb;refine Ac _ (EV J2) fun Ef p p' AV hp=>?_;obtain⟨b,lb⟩:=p;obtain⟨b',lb'⟩:=p';obtain⟨tN,_⟩:=hp;dsimp only at tN;have MH:=tM.mono AV;dsimp only;refine Ac _ CQ fun J6 p p' BF hp=>?_;obtain⟨rfl,rfl⟩:=hp;have ej:=MH.mono BF;have kV:=tN.mono BF;have OQ:Base P J6:=Iq.mono (Ren.le_trans Av (Ren.le_trans AV BF));rw[AR.QM ej kV,T.tables];have hbs:=AR.base OQ ej;simp only[hbs];split
       ·refine Ac _ (G4 T ej) fun MF z z' DV hz=>?_
        cases hz;refine Ac _ (G4 T (kV.mono DV)) fun aoh y y' aij hy=>?_;cases hy;exact Ad rfl
       ·refine Ac _ (Cl T t) fun MF i i' DV hi=>?_
        obtain⟨rfl,_⟩:=hi;rw[AR.eq_iff ej kV]
        repeat' split
        all_goals first|exact Ad rfl|exact Ai
     |_=>exact Ai
   |_=>cases G5<;>first|exact Ae|exact Ai
  |float k=>cases A6<;>exact Ae
  |complex k=>cases A6<;>exact Ae
  |string=>
   cases A6<;>first|exact Ae|skip
   cases G5<;>first|exact Ae|exact Ad rfl
  |chan _ _=>
   cases A6<;>first|exact Ae|skip
   cases G5<;>first|exact Ae|skip
   rename_i a a' ha b b' hb;dsimp only;rw[QG.eq_iff ha hb];exact Ad rfl
  |slice e=>
   cases A6 with
   | @slice a a' n c ha=>
    cases G5 with
    | @slice b b' n' c' hb=>
     cases a<;>cases a'<;>first|exact ha.elim|skip
     ·dsimp only;rw[Nx.isNone hb];exact Ad rfl
     ·cases b<;>cases b'<;>first|exact hb.elim|exact Ad rfl|exact Ae
    |_=>cases a<;>cases a'<;>first|exact ha.elim|exact Ae
   |_=>exact Ae
  |map k e=>
   cases A6 with
   | @map a a' ha=>
    cases G5 with
    | @map b b' hb=>
     cases a<;>cases a'<;>first|exact ha.elim|skip
     ·dsimp only;rw[QG.isNone hb];exact Ad rfl
     ·cases b<;>cases b'<;>first|exact hb.elim|exact Ad rfl|exact Ae
    |_=>cases a<;>cases a'<;>first|exact ha.elim|exact Ae
   |_=>exact Ae
  |func _ _ _=>
   cases A6<;>first|exact Ae|skip
   all_goals cases G5<;>first|exact Ae|exact Ad rfl
  |struct fields=>
   cases A6 with
   | @agg c c' hc JN=>
    cases G5 with
    | @agg e e' he QO=>
     have hcs:BN σ c c':=⟨hc,JN⟩;have SV:BN σ e e':=⟨he,QO⟩;dsimp only;refine Ac _ CQ fun Bj p p' Av hp=>?_;obtain⟨rfl,rfl⟩:=hp;rw[QL T.tables];split
     ·exact Ai
     ·rw[←YV, ←YV]
      have Fv:Eg (fun(f g:Field)=>f=g∧Ja P m f.type=true) fields.toList fields.toList:=by
       have:∀l:List Field,(∀f∈l,Ja P m f.type=true)→Eg (fun(f g:Field)=>f=g∧Ja P m f.type=true) l l:=by
        intro l
        induction l with
        |nil=>intro _;exact .nil
        |cons x l ih=>intro hl;exact .cons ⟨rfl,hl x (by simp)⟩ (ih fun f hf=>hl f (by simp[hf]))
       refine this _ fun f hf=>?_;dsimp only at h;rw[Yc]at h;exact h f (by simpa using hf)
      refine Ac F4 (UI (E:=fun _ (f g:Field)=>f=g∧Ja P m f.type=true) (fun _ _ _ _ _ h=>h) Fv rfl fun τ f g b c' C6 hfg _=>?_) fun τ s s' _ hs=>?_
      ·obtain⟨rfl,hfe⟩:=hfg
       split
       ·have AV:=Ren.le_trans Av C6
        refine Ac _ (J5 T _ (BN.mono AV hcs) _) fun Dp y y' Bg hy=>?_;refine Ac _ (J5 T _ (BN.mono (Ren.le_trans AV Bg) SV) _) fun JB z z' B5 hz=>?_;refine Ac _ (NH T d m f.type (Iq.mono (Ren.le_trans AV (Ren.le_trans Bg B5))) hfe (hy.mono B5) hz) fun G6 b b' _ hb=>?_;cases hb;split
        ·exact Ad (.done rfl)
        ·exact Ad (.yield rfl)
       ·exact Ad (.yield rfl)
      ·cases hs
       split<;>exact Ad rfl
    |_=>exact Ae
   |_=>exact Ae
  |array len elem=>
   cases A6 with
   | @agg c c' hc JN=>
    cases G5 with
    | @agg e e' he QO=>
     have hcs:BN σ c c':=⟨hc,JN⟩;have SV:BN σ e e':=⟨he,QO⟩;dsimp only;refine Ac _ (Cb T elem) fun Bj s s' Av hs=>?_;obtain⟨rfl,_⟩:=hs;refine Ac F4 (eh (R:=F4) len rfl fun τ x b c' C6 _=>?_) fun τ s s' _ hs=>?_
     ·have AV:=Ren.le_trans Av C6
      refine Ac _ (J5 T _ (BN.mono AV hcs) _) fun Dp y y' Bg hy=>?_;refine Ac _ (J5 T _ (BN.mono (Ren.le_trans AV Bg) SV) _) fun JB z z' B5 hz=>?_;refine Ac _ (NH T d m elem (Iq.mono (Ren.le_trans AV (Ren.le_trans Bg B5))) h (hy.mono B5) hz) fun G6 b b' _ hb=>?_;cases hb;split
      ·exact Ad (.done rfl)
      ·exact Ad (.yield rfl)
     ·cases hs
      split<;>exact Ad rfl
    |_=>exact Ae
   |_=>exact Ae
  |_=>cases h
theorem QP (T:Twins P' P)(m:Nat)(t:Zs)(hB:Base P ρ){x x' y y':Zc}(h:Ja P m t=true)(hx:VR ρ x x')(hy:VR ρ y y'):Al P' P fz F4 ρ (Y0 t x y) (Y0 t x' y'):=
 NH T _ m t hB h hx hy
def Ws (P:Zp)(m:Nat)(t:Zs):Bool:=Ja P m t&&match P.underlying t with|some (.struct _)|some (.array _ _)=>true|_=>false
theorem kW {m:Nat}{t:Zs}(h:Ws P m t=true){u:TypeDesc}(hu:P.underlying t=some u)(a b:Zc):Instr.sameNow u a b=none:=by
 unfold Ws at h;rw[hu]at h;cases u<;>first|(simp at h;done)|(cases a<;>rfl)
theorem gU (kind:TypeDesc)(VY:∀a b,Instr.sameNow kind a b=none){k k':Zc}:∀ {es Bu:List MapEntry},Eg (NG ρ) es Bu→∀i,(Zaz kind k es i=none∧Zaz kind k' Bu i=none)∨
  ∃r r',Zaz kind k es i=some r∧Zaz kind k' Bu i=some r'∧((r=none∧r'=none)∨∃j v v',r=some (j,v)∧r'=some (j,v')∧VR ρ v v'):=by
 intro es
 induction es with
 |nil=>intro Bu h i;cases h;exact .inr ⟨none,none,rfl,rfl,.inl ⟨rfl,rfl⟩⟩
 |cons e es ih=>
  intro Bu h i;cases h with
  | @cons _ e' _ Bu he ht=>
   have hs:Instr.sameNow kind k e.key=Instr.sameNow kind k' e'.key:=by rw[VY,VY]
   unfold Zaz;rw[hs];cases Instr.sameNow kind k' e'.key with
   |none=>exact .inl ⟨rfl,rfl⟩
   |some b=>cases b with
    |true=>exact .inr ⟨_,_,rfl,rfl,.inr ⟨i,e.val,e'.val,rfl,rfl,he.val⟩⟩
    |false=>exact ih ht (i+1)
def kX (σ:Ren)(a b:Option (Nat×Zc)):Prop:=(a=none∧b=none)∨∃j v v',a=some (j,v)∧b=some (j,v')∧VR σ v v'
theorem UJ (T:Twins P' P)(m:Nat)(t:Zs)(h:Ja P m t=true):∀ {es Bu:List MapEntry} {ρ:Ren} {k k':Zc},Base P ρ→VR ρ k k'→Eg (NG ρ) es Bu→∀i,
  Al P' P fz kX ρ (zL t k es i) (zL t k' Bu i):=by
 intro es
 induction es with
 |nil=>intro Bu ρ k k' _ _ hl i;cases hl;exact Ad (.inl ⟨rfl,rfl⟩)
 |cons e es ih=>
  intro Bu ρ k k' hB hk hl i;cases hl with
  | @cons _ e' _ Bu he ht=>
   unfold zL;refine Ac _ (QP T m t hB h hk he.key) fun σ b b' hle hb=>?_;cases hb;split
   ·exact Ad (.inr ⟨i,_,_,rfl,rfl,he.val.mono hle⟩)
   ·exact ih (hB.mono hle) (hk.mono hle) (ht.mono fun _ _=>NG.mono hle) (i+1)
theorem NI (T:Twins P' P)(m:Nat)(t:Zs)(hq:Ws P m t=true)(hB:Base P ρ){es Bu:List MapEntry}{k k':Zc}(hk:VR ρ k k')(hl:Eg (NG ρ) es Bu):
  Al P' P fz kX ρ (YX t k es) (YX t k' Bu):=by
 unfold YX;have h:Ja P m t=true:=(ZD _ _▸hq:_∧_).1;refine Ac _ (Ao T t) fun σ u u' hle hu=>?_;obtain⟨rfl,hu⟩:=hu;have acg:=hk.mono hle;have tO:Eg (NG σ) es Bu:=hl.mono fun _ _=>NG.mono hle;rcases gU (k:=k) (k':=k') u (kW hq hu) tO 0 with⟨e1,e2⟩|⟨r,r',e1,e2,hr⟩
 ·rw[e1,e2];exact UJ T m t h (hB.mono hle) acg tO 0
 ·rw[e1,e2];exact Ad hr
end
section
variable {P' P:Zp}{fz:Prop}{ρ:Ren}
def tP (ρ:Ren)(a b:Nat×Zc):Prop:=a.1=b.1∧VR ρ a.2 b.2
theorem QQ (place:Nat→Option (Nat×Nat)):∀ {l l':List (Nat×Zc)} {c c':Array Zc},Eg (tP ρ) l l'→BN ρ c c'→
  (Zad place c l=none∧Zad place c' l'=none)∨∃d d',Zad place c l=some d∧Zad place c' l'=some d'∧BN ρ d d':=by
 intro l
 induction l with
 |nil=>intro l' c c' hl hc;cases hl;exact .inr ⟨c,c',rfl,rfl,hc⟩
 |cons x l ih=>
  intro l' c c' hl hc;cases hl with
  | @cons _ y _ l' hx ht=>
   obtain⟨i,v⟩:=x;obtain⟨j,v'⟩:=y;obtain⟨e,hv⟩:=hx;dsimp only at e hv;subst e;unfold Zad;cases place i with
   |none=>exact .inl ⟨rfl,rfl⟩
   |some os=>
    obtain⟨off,size⟩:=os;dsimp only;have hvc:=hv.cells;rw[hvc.1,hc.1];split
    ·exact .inl ⟨rfl,rfl⟩
    ·refine ih ht ?_
     have key:∀ {a a':Array Zc} (n:Nat),BN ρ a a'→∀ {z z':Array Zc},BN ρ z z'→BN ρ ((a.toList.zipIdx n).foldl (fun cs (p:Zc×Nat)=>cs.setIfInBounds (off+p.2) p.1) z) ((a'.toList.zipIdx n).foldl (fun cs (p:Zc×Nat)=>cs.setIfInBounds (off+p.2) p.1) z'):=by
      intro a a' n ha;have hl:=ha.list;generalize a.toList=l at hl⊢;generalize a'.toList=l' at hl⊢;clear ha
      induction hl generalizing n with
      |nil=>intro z z' hz;exact hz
      |cons h _ ih=>intro z z' hz;simp only[List.zipIdx_cons,List.foldl_cons];exact ih (n+1) (hz.set h _)
     have e2:∀(a:Array Zc) (z:Array Zc),a.zipIdx.foldl (fun cs (x:Zc×Nat)=>match x with|(c,j)=>cs.setIfInBounds (off+j) c) z=(a.toList.zipIdx 0).foldl (fun cs (p:Zc×Nat)=>cs.setIfInBounds (off+p.2) p.1) z:=by
      intro a z;rw[←Array.foldl_toList,Array.toList_zipIdx]
     rw[e2,e2];exact key 0 hvc hc
theorem Lj {ι β γ:Type}{R:Ren→β→γ→Prop}(hR:∀ρ σ x y,ρ.le σ→R ρ x y→R σ x y){f:ι→Sem β}{g:ι→Sem γ}(hf:∀τ x,ρ.le τ→Al P' P fz R τ (f x) (g x))(l:List ι):
  ∀σ,ρ.le σ→Al P' P fz (fun τ a b=>Eg (R τ) a b) σ (l.mapM f) (l.mapM g):=by
 induction l with
 |nil=>intro σ _;exact Ad .nil
 |cons x l ih=>
  intro σ hσ;rw[List.mapM_cons,List.mapM_cons];refine Ac _ (hf σ x hσ) fun Bj a b hle Eh=>?_;refine Ac _ (ih Bj (Ren.le_trans hσ hle)) fun Ef as bs Av has=>?_;exact Ad (.cons (hR _ _ _ _ Av Eh) has)
theorem Dq (T:Twins P' P){α β γ δ:Type}{Q:Ren→α→β→Prop}(hB:Base P ρ)(e:RuntimeError){f:γ→Sem α}{f':δ→Sem β}:Al P' P fz Q ρ (zw e>>=f) (zw e>>=f'):=
 Ac (fun _ _ _=>False) (AH T hB e) fun _ _ _ _ h=>h.elim
theorem ql (T:Twins P' P)(t:Zs){p p':Array (Nat×Zc)}(hp:Eg (tP ρ) p.toList p'.toList):Al P' P fz VR ρ (Instr.build t p) (Instr.build t p'):=by
 unfold Instr.build;refine Ac _ (CY T t) fun σ z z' hle hz=>?_;have aci:=hz.cells;dsimp only;refine Ac _ (Ao T t) fun Bj d d' Av hd=>?_;obtain⟨rfl,_⟩:=hd;have CB:=Ren.le_trans hle Av;have tQ:=BN.mono Av aci;have tR:Eg (tP Bj) p.toList p'.toList:=hp.mono fun _ _ h=>⟨h.1,h.2.mono CB⟩;cases d with
 |struct fields=>
  dsimp only;refine Ac (fun _ a b=>a=b) ?_ fun Ef pl pl' AV Wt=>?_
  ·rw[Array.mapM_eq_mapM_toList]
   refine Ac _ (Lj (ρ:=Bj) (R:=F4) (fun _ _ _ _ _ h=>h) (fun τ x _=>?_) _ Bj (Ren.le_refl _)) fun Ef a b _ Eh=>?_
   ·refine Ac _ (Cb T x.type) fun Ef s s' AV hs=>?_
    obtain⟨rfl,_⟩:=hs;exact Ad rfl
   ·have:a=b:=by
     induction Eh with
     |nil=>rfl
     |cons h _ ih=>cases h;rw[ih]
    subst this;exact Ad rfl
  ·cases Wt
   have QR:Eg (tP Ef) p.toList p'.toList:=tR.mono fun _ _ h=>⟨h.1,h.2.mono AV⟩;rcases QQ (ρ:=Ef) (pl[·]?) QR (BN.mono AV tQ) with⟨e1,e2⟩|⟨c,c',e1,e2,hc⟩
   ·rw[e1];exact Ae
   ·rw[e1,e2];exact Ad (.PU hc)
 |array n elem=>
  dsimp only;refine Ac _ (Cb T elem) fun Ef s s' AV hs=>?_;obtain⟨rfl,_⟩:=hs;have QR:Eg (tP Ef) p.toList p'.toList:=tR.mono fun _ _ h=>⟨h.1,h.2.mono AV⟩;rcases QQ (ρ:=Ef) (fun i=>some (i*s,s)) QR (BN.mono AV tQ) with⟨e1,e2⟩|⟨c,c',e1,e2,hc⟩
  ·rw[e1];exact Ae
  ·rw[e1,e2];exact Ad (.PU hc)
 |_=>exact Ae
theorem G7 {a b:Array Zc}(h:BN ρ a b)(n:Nat):BN ρ ((YB n).map (a[· % a.size]!)) ((YB n).map (b[· % b.size]!)):=by
 by_cases hz:a.size=0
 ·have hb:b.size=0:=h.1▸hz
  have e1:a= #[]:=Array.eq_empty_of_size_eq_zero hz;have e2:b= #[]:=Array.eq_empty_of_size_eq_zero hb;subst e1;subst e2;refine⟨rfl,fun i x y hx hy=>?_⟩;rw[hx]at hy;cases hy;rw[Yi,zd]at hx;obtain⟨u,_,rfl⟩:=hx;exact .bool false
 ·exact SU h hz n
theorem UK (T:Twins P' P)(t:Zs)(len:Nat){p p':Array (Nat×Zc)}(hp:Eg (tP ρ) p.toList p'.toList):Al P' P fz VR ρ (Instr.buildSlice t len p) (Instr.buildSlice t len p'):=by
 unfold Instr.buildSlice;refine Ac _ (Ao T t) fun σ d d' hle hd=>?_;obtain⟨rfl,_⟩:=hd;cases d with
 |slice elem=>
  dsimp only;refine Ac _ (Cb T elem) fun Bj s s' Av hs=>?_;obtain⟨rfl,_⟩:=hs;split
  ·exact .bad trivial
  ·have fin:∀(τ:Ren) (z z':Array Zc),Bj.le τ→BN τ z z'→
     (Zad (fun i=>some (i*s,s)) ((YB (len*s)).map (z[· % z.size]!)) p.toList=none∧Zad (fun i=>some (i*s,s)) ((YB (len*s)).map (z'[· % z'.size]!)) p'.toList=none)∨
     ∃d d',Zad (fun i=>some (i*s,s)) ((YB (len*s)).map (z[· % z.size]!)) p.toList=some d∧Zad (fun i=>some (i*s,s)) ((YB (len*s)).map (z'[· % z'.size]!)) p'.toList=some d'∧BN τ d d':=by
    intro τ z z' C6 hz;have QR:Eg (tP τ) p.toList p'.toList:=hp.mono fun _ _ h=>⟨h.1,h.2.mono (Ren.le_trans hle (Ren.le_trans Av C6))⟩;exact QQ (ρ:=τ) (fun i=>some (i*s,s)) QR (G7 hz (len*s))
   split
   ·refine Ac (fun σ a b=>BN σ a b) (Ad Bt.nil) fun τ z z' C6 hz=>?_
    rcases fin τ z z' C6 hz with⟨e1,e2⟩|⟨c,c',e1,e2,hc⟩
    ·rw[e1];exact Ae
    ·rw[e1,e2];exact Ac _ (Ip elem hc) fun _ _ _ _ ha=>Ad (.slice _ _ ha)
   ·refine Ac _ (CY T elem) fun τ z z' C6 hz=>?_
    refine Ac (fun σ a b=>BN σ a b) (Ad hz.cells) fun Dp y y' Bg hy=>?_;rcases fin Dp y y' (Ren.le_trans C6 Bg) hy with⟨e1,e2⟩|⟨c,c',e1,e2,hc⟩
    ·rw[e1];exact Ae
    ·rw[e1,e2];exact Ac _ (Ip elem hc) fun _ _ _ _ ha=>Ad (.slice _ _ ha)
 |_=>exact Ae
theorem Wu (T:Twins P' P)(hB:Base P ρ)(t:Zs){l l' c c':Zc}(hl:VR ρ l l')(hc:VR ρ c c'):Al P' P fz VR ρ (Instr.makeSlice t l c) (Instr.makeSlice t l' c'):=by
 unfold Instr.makeSlice;refine Ac _ (Ao T t) fun σ d d' hle hd=>?_;obtain⟨rfl,_⟩:=hd;cases d with
 |slice elem=>
  dsimp only;refine Ac _ (KO (hl.mono hle)) fun Bj n n' Av hn=>?_;cases hn;refine Ac _ (KO (hc.mono (Ren.le_trans hle Av))) fun Ef m m' AV hm=>?_;cases hm;refine Ac _ (Cl T elem) fun J6 i i' BF hi=>?_;obtain⟨rfl,_⟩:=hi;have OQ:Base P J6:=hB.mono (Ren.le_trans hle (Ren.le_trans Av (Ren.le_trans AV BF)));have tail:∀τ:Ren,J6.le τ→Al P' P fz VR τ (sizeOf elem>>=fun s=>if(IntKind.i64.wrap m).toNat*s=0 then(pure #[]>>=fun zero=>newRow elem ((YB ((IntKind.i64.wrap m).toNat*s)).map (zero[· % zero.size]!))>>=fun a=>pure (Zy (some a) (IntKind.i64.wrap n).toNat (IntKind.i64.wrap m).toNat))
    else zeroValue elem>>=fun z=>(pure z.cells>>=fun zero=>newRow elem ((YB ((IntKind.i64.wrap m).toNat*s)).map (zero[· % zero.size]!))>>=fun a=>pure (Zy (some a) (IntKind.i64.wrap n).toNat (IntKind.i64.wrap m).toNat)))
    (sizeOf elem>>=fun s=>if(IntKind.i64.wrap m).toNat*s=0 then(pure #[]>>=fun zero=>newRow elem ((YB ((IntKind.i64.wrap m).toNat*s)).map (zero[· % zero.size]!))>>=fun a=>pure (Zy (some a) (IntKind.i64.wrap n).toNat (IntKind.i64.wrap m).toNat))
    else zeroValue elem>>=fun z=>(pure z.cells>>=fun zero=>newRow elem ((YB ((IntKind.i64.wrap m).toNat*s)).map (zero[· % zero.size]!))>>=fun a=>pure (Zy (some a) (IntKind.i64.wrap n).toNat (IntKind.i64.wrap m).toNat))):=by
   intro τ C6;refine Ac _ (Cb T elem) fun MF s s' DV hs=>?_;obtain⟨rfl,_⟩:=hs;split
   ·refine Ac (fun σ a b=>BN σ a b) (Ad Bt.nil) fun τ z z' C6 hz=>?_
    exact Ac _ (Ip elem (G7 hz _)) fun _ _ _ _ ha=>Ad (.slice _ _ ha)
   ·refine Ac _ (CY T elem) fun τ z z' C6 hz=>?_
    refine Ac (fun σ a b=>BN σ a b) (Ad hz.cells) fun Dp y y' Bg hy=>?_;exact Ac _ (Ip elem (G7 hy _)) fun _ _ _ _ ha=>Ad (.slice _ _ ha)
  split
  ·split
   ·exact Dq T OQ _
   ·split
    ·exact Dq T OQ _
    ·refine Ac _ (G2 _) fun τ a b C6 Eh=>?_
     cases Eh;exact Dq T (OQ.mono C6) _
  ·exact Ac _ (Tv _) fun τ _ _ C6 _=>tail τ C6
 |_=>exact Ae
end
section
variable {P' P:Zp}{fz:Prop}{ρ:Ren}
theorem Bt.modify {α β:Type}{R:α→β→Prop}{a:Array α}{b:Array β}{f:α→α}{g:β→β}(h:Bt R a b)(hf:∀x y,R x y→R (f x) (g y))(i:Nat):Bt R (a.modify i f) (b.modify i g):=by
 refine⟨by simp[h.1],fun j x y hx hy=>?_⟩;rw[Zag]at hx hy;split at hx
 ·rw[if_pos ‹_›]at hy
  rw[zd]at hx hy;obtain⟨u,hu,rfl⟩:=hx;obtain⟨v,hv,rfl⟩:=hy;exact hf _ _ (h.2 _ _ _ hu hv)
 ·rw[if_neg ‹_›]at hy;exact h.2 _ _ _ hx hy
theorem Nx.eq_iff {a a' b b':Option Addr}(h:Nx ρ a a')(k:Nx ρ b b'):(a==b)=(a'==b'):=by
 cases a<;>cases a'<;>first|exact h.elim|skip
 all_goals cases b<;>cases b'<;>first|exact k.elim|rfl|skip
 have:=AR.eq_iff h k;simpa using this
theorem Wv (a b:ByteArray):(a==b)=true↔a=b:=by
 constructor
 ·intro h
  cases a with|mk a=>cases b with|mk b=>
  have h':(a==b)=true:=h;rw[eq_of_beq h']
 ·rintro rfl
  cases a with|mk a=>exact(beq_self_eq_true a:(a==a)=true)
theorem SW:∀(n:Nat) {a a' b b':Zc},VR ρ a a'→VR ρ b b'→zs n a b=true→zs n a' b'=true:=by
 intro n
 induction n with
 |zero=>
  intro a a' b b' h k hs;cases h<;>cases k<;>first|exact hs|(cases hs;done)|skip
  ·rename_i h1 _ _ h2;exact(Nx.eq_iff h1 h2).symm.trans hs
  ·rename_i h1 _ _ h2;exact(QG.eq_iff h1 h2).symm.trans hs
 |succ n ih=>
  intro a a' b b' h k hs;cases h<;>cases k<;>first|exact hs|(cases hs;done)|skip
  ·rename_i h1 _ _ h2;exact(Nx.eq_iff h1 h2).symm.trans hs
  ·rename_i h1 _ _ h2;exact(QG.eq_iff h1 h2).symm.trans hs
  ·rename_i h1 _ _ _ h2
   simp only[zs,ZD]at hs⊢;exact⟨hs.1,ih h1 h2 hs.2⟩
  ·rename_i c c' hc JN e e' he QO
   have h1:BN ρ c c':=⟨hc,JN⟩;have h2:BN ρ e e':=⟨he,QO⟩;simp only[zs,hc,he,ZD]at hs⊢;refine⟨hs.1,?_⟩;have key:∀ {l l':List Zc},Eg (VR ρ) l l'→∀ {m m':List Zc},Eg (VR ρ) m m'→((l.zip m).all fun x=>match x with|(x,y)=>zs n x y)=true→((l'.zip m').all fun x=>match x with|(x,y)=>zs n x y)=true:=by
    intro l l' hl
    induction hl with
    |nil=>intro m m' hm h;cases hm<;>rfl
    |cons hx _ ihl=>intro m m' hm h;cases hm with
     |nil=>rfl
     |cons hy ht=>
      simp only[List.zip_cons_cons,List.all_cons,ZD]at h⊢;exact⟨ih hx hy h.1,ihl ht h.2⟩
   exact key h1.list h2.list hs.2
theorem Ww:∀(n:Nat) {a b:Zc},zs n a b=true→a=b:=by
 intro n
 induction n with
 |zero=>
  intro a b h;cases a<;>cases b<;>first|(cases h;done)|(simp[zs]at h;simp[h];done)|rfl|exact congrArg Value.string ((Wv _ _).1 h)
 |succ n ih=>
  intro a b h;cases a<;>cases b<;>first|(cases h;done)|skip
  case agg.agg c e=>
   simp only[zs,ZD,beq_iff_eq]at h;have key:∀ {l m:List Zc},l.length=m.length→((l.zip m).all fun x=>match x with|(x,y)=>zs n x y)=true→l=m:=by
    intro l
    induction l with
    |nil=>intro m hm _;cases m with
     |nil=>rfl
     |cons _ _=>cases hm
    |cons x l ihl=>intro m hm h;cases m with
     |nil=>cases hm
     |cons y m=>
      simp only[List.zip_cons_cons,List.all_cons,ZD]at h;rw[ih h.1,ihl (ZC hm) h.2]
   congr 1
   exact Array.ext' (key (by simpa using h.1) h.2)
  case iface.iface t v u x=>
   simp only[zs,ZD,beq_iff_eq]at h;rw[h.1,ih h.2]
  all_goals first|(simp[zs]at h;simp[h];done)|rfl|exact congrArg Value.string ((Wv _ _).1 h)
def PT {β:Type}(P:Zp)(s:Sem β):Prop:=∀(w:Zb) (t:Tape) (es:Array ZU),s.runT P {w with tape:=t} es=((s.runT P w es).1.tp t,(s.runT P w es).2)
theorem JD {α β:Type}{Q:Ren→α→β→Prop}{a a' b b':Zc}(h:VR ρ a a')(k:VR ρ b b'){f:Zc→Sem α}{f':Zc→Sem β}(hf:∀σ v v',ρ.le σ→VR σ v v'→Al P' P fz Q σ (f v) (f' v'))(OT:∀v',PT P (f' v')):
  Dm P' P fz Q ρ ((zX a b).bind f) ((zX a' b').bind f'):=by
 by_cases hl:zs 10000 a b=true
 ·have hr:=SW 10000 h k hl
  unfold zX;rw[if_pos hl,if_pos hr];exact(hf ρ b b' (Ren.le_refl _) k).ok
 by_cases hr:zs 10000 a' b'=true
 ·have e:a'=b':=Ww 10000 hr
  intro w w' hw es Bu r g Bs hd;have hL:∀u es,((zX a b).bind f).runT P' u es=(f (if(Question.extern "map.whichKeyStays" 2).cut (u.tape u.drawn (.extern "map.whichKeyStays" 2))=0 then b else a)).runT P' {u with drawn:=u.drawn+1} es:=by
   intro u es;unfold zX;rw[if_neg hl]
   rfl
  have hR:((zX a' b').bind f').runT P w' Bu=(f' b').runT P w' Bu:=by
   unfold zX;rw[if_pos hr]
   rfl
  rw[hL]at Bs;generalize hv:(if(Question.extern "map.whichKeyStays" 2).cut (w.tape w.drawn (.extern "map.whichKeyStays" 2))=0 then b else a)=v at Bs;have hvr:VR ρ v b':=by
   subst hv;split
   ·exact k
   ·exact e▸h
  let ME:Tape:=fun i=>w.tape (i - w'.drawn+(w.drawn+1))
  have pz:Hv ρ {w with drawn:=w.drawn+1} {w' with tape:=ME}:=⟨hw.obj,fun i q=>by
   show w.tape (w.drawn+1+i) q=w.tape (w'.drawn+i - w'.drawn+(w.drawn+1)) q;rw[Nat.add_sub_cancel_left,Nat.add_comm i],hw.os⟩
  obtain⟨σ,r',d,d',h1,h2,h3,h4,h5,h6,h7,h8⟩:=(hf ρ v b' (Ren.le_refl _) hvr).run _ _ pz es Bu r g Bs hd;rw[OT b' w' ME Bu]at h3;rcases hx:(f' b').runT P w' Bu with⟨QS,ain⟩;rw[hx]at h3;simp only[Prod.mk.injEq]at h3;obtain⟨OP,hg⟩:=h3;have ht:QS.world.tape=w'.tape:=by
   have:=OT b' w' w'.tape Bu;rw[show({w' with tape:=w'.tape}:Zb)=w' from rfl,hx]at this;simp only[Prod.mk.injEq]at this;have:=congrArg (fun r:Result β=>r.world.tape) this.1;cases QS<;>exact this
  subst OP;refine⟨σ,QS,d,d',h1,h2,by rw[hR,hx, ←hg],?_,⟨fun b c hb=>?_,?_⟩,h6,⟨Zx (Zj _) h7.size,?_,h7.fresh,?_,?_,h7.QI,h7.frozen,?_,ht,?_,h7.OO,Nat.le_of_succ_le h7.drawn,h7.kM,h7.shape,h7.awake⟩,fun t ht=>?_⟩
  ·cases h4':QS with
   |ok x u=>rw[h4']at h4;cases h4 with|ok hq=>exact .ok hq
   |halt x u=>rw[h4']at h4;cases h4 with|panic hq=>exact .panic hq
  ·obtain⟨o,o',p1,p2,p3⟩:=h5.obj b c hb
   exact⟨o,o',p1,by cases QS<;>exact p2,p3⟩
  ·have:=h5.os;cases QS<;>exact this
  ·have:=h7.MB;cases QS<;>exact this
  ·have:=h7.new;cases QS<;>exact this
  ·have:=h7.still;cases QS<;>exact this
  ·have:=h7.os;cases QS<;>exact this
  ·have:=h7.output;cases QS<;>exact this
  ·rw[hL]
   have e2:t w.drawn=w.tape w.drawn:=ht _ (Zj _) h7.drawn;show(f (if(Question.extern "map.whichKeyStays" 2).cut (t w.drawn _)=0 then b else a)).runT P' _ es=_;rw[e2,hv];exact h8 t (fun i x y=>ht i (Nat.le_of_succ_le x) y)
 ·unfold zX
  rw[if_neg hl,if_neg hr];refine Al.ok (Al.bind (R:=VR) (Ac _ (G2 _) fun σ x y hle hxy=>?_) hf);cases hxy;refine Ad ?_;split
  ·exact k.mono hle
  ·exact h.mono hle
theorem Wx (r:Nat)(o:Obj):PT P (setObj r o):=by
 intro w t es;unfold setObj;simp only[ZF];cases w.heap[r]? with
 |none=>rfl
 |some u=>cases u<;>rfl
theorem kY (T:Twins P' P)(m:Nat)(t:Zs)(hm:∀k e,P.underlying t=some (.map k e)→Ws P m k=true)(hB:Base P ρ){x x' i i':Zc}(hx:VR ρ x x')(hi:VR ρ i i')(ok:Bool):
  Al P' P fz VR ρ (ZaR t x i ok) (ZaR t x' i' ok):=by
 unfold ZaR;refine Ac _ (Ao T t) fun σ d d' hle hd=>?_;obtain⟨rfl,hd⟩:=hd;have A6:=hx.mono hle;cases d with
 |map key elem=>
  have kZ:=hm _ _ hd;dsimp only;have tail:∀τ (es Bu:Array MapEntry),σ.le τ→Bt (NG τ) es Bu→Al P' P fz VR τ
    (Yt es.isEmpty 10000 key i>>=fun _=>YX key i es.toList>>=fun r=>match r with
     |some (_,v)=>pure (v,true)>>=fun p=>pure (if ok=true then .tuple #[p.1,.bool p.2] else p.1)
     |none=>zeroValue elem>>=fun z=>pure (z,false)>>=fun p=>pure (if ok=true then .tuple #[p.1,.bool p.2] else p.1))
    (Yt Bu.isEmpty 10000 key i'>>=fun _=>YX key i' Bu.toList>>=fun r=>match r with
     |some (_,v)=>pure (v,true)>>=fun p=>pure (if ok=true then .tuple #[p.1,.bool p.2] else p.1)
     |none=>zeroValue elem>>=fun z=>pure (z,false)>>=fun p=>pure (if ok=true then .tuple #[p.1,.bool p.2] else p.1)):=by
   intro τ es Bu C6 SV;have he:es.isEmpty=Bu.isEmpty:=by simp[Array.isEmpty,SV.1]
   rw[he];have Av:=Ren.le_trans hle C6;refine Ac _ (DX T _ _ _ (hB.mono Av) (hi.mono Av)) fun Dp _ _ Bg _=>?_;have AV:=Ren.le_trans Av Bg;have hl:Eg (NG Dp) es.toList Bu.toList:=(Bt.mono SV fun _ _=>NG.mono Bg).list;refine Ac _ (NI T m key kZ (hB.mono AV) (hi.mono AV) hl) fun JB r r' B5 hr=>?_;have fin:∀(G6:Ren) v v' b,VR G6 v v'→VR G6 (if ok=true then .tuple #[v,.bool b] else v) (if ok=true then .tuple #[v',.bool b] else v'):=by
    intro G6 v v' b hv;split
    ·exact .tuple' ((Bt.single hv).push (.bool b))
    ·exact hv
   rcases hr with⟨rfl,rfl⟩|⟨j,v,v',rfl,rfl,hv⟩
   ·refine Ac _ (CY T elem) fun G6 z z' EW hz=>?_
    refine Ac (fun σ a b=>VR σ a.1 b.1∧a.2=b.2) (Ad ⟨hz,rfl⟩) fun ek p p' _ hp=>?_;obtain⟨a,b⟩:=p;obtain⟨a',b'⟩:=p';obtain⟨h1,h2⟩:=hp;cases h2;exact Ad (fin _ _ _ _ h1)
   ·refine Ac (fun σ a b=>VR σ a.1 b.1∧a.2=b.2) (Ad ⟨hv,rfl⟩) fun ek p p' _ hp=>?_
    obtain⟨a,b⟩:=p;obtain⟨a',b'⟩:=p';obtain⟨h1,h2⟩:=hp;cases h2;exact Ad (fin _ _ _ _ h1)
  cases A6 with
  | @map r r' hr=>
   cases r<;>cases r'<;>first|exact hr.elim|skip
   ·exact Ac (fun σ a b=>Bt (NG σ) a b) (Ad Bt.nil) fun τ es Bu C6 SV=>tail τ es Bu C6 SV
   ·dsimp only
    refine Ac _ (CX hr) fun τ o o' C6 ho=>?_;cases ho with
    |map k h=>exact Ac (fun σ a b=>Bt (NG σ) a b) (Ad h) fun Dp es Bu Bg SV=>tail Dp es Bu (Ren.le_trans C6 Bg) SV
    |_=>exact Cs
  |_=>exact Cs
 |_=>exact Ae
theorem Wy {es Bu:Array MapEntry}(SV:Bt (NG ρ) es Bu){k k':Zc}(hk:VR ρ k k')(i:Nat):VR ρ (((es[i]?).map (·.key)).getD k) (((Bu[i]?).map (·.key)).getD k')∧((Bu[i]?).map (fun e=>(e.born:Int))).getD 0=((es[i]?).map (fun e=>(e.born:Int))).getD 0:=by
 rcases SV.opt i with⟨e1,e2⟩|⟨x,y,e1,e2,hr⟩
 ·rw[e1,e2];exact⟨hk,rfl⟩
 ·rw[e1,e2];exact⟨hr.key,by simp[hr.born]⟩
theorem NJ {β:Type}(r:Nat)(o:Obj)(v:β):PT P (setObj r o>>=fun _=>pure v):=by
 intro w t es;show(Sem.setObj r o (Sem.pure v)).runT P _ es=(((Sem.setObj r o (Sem.pure v)).runT P w es).1.tp t,((Sem.setObj r o (Sem.pure v)).runT P w es).2);simp only[ZF];cases w.heap[r]? with
 |none=>rfl
 |some u=>cases u<;>rfl
theorem OU (T:Twins P' P)(m:Nat)(t:Zs)(hm:∀k e,P.underlying t=some (.map k e)→Ws P m k=true)(hB:Base P ρ){x x' k k' v v':Zc}(hx:VR ρ x x')(hk:VR ρ k k')(hv:VR ρ v v'):
  Dm P' P fz F4 ρ (ZaJ t x k v) (ZaJ t x' k' v'):=by
 unfold ZaJ;refine Dm.bind (Ao T t) fun σ d d' hle hd=>?_;obtain⟨rfl,hd⟩:=hd;have A6:=hx.mono hle;cases d with
 |map key elem=>
  have kZ:=hm _ _ hd;dsimp only;cases A6 with
  | @map r r' hr=>
   cases r<;>cases r'<;>first|exact hr.elim|skip
   ·exact(AH T (hB.mono hle) _).ok
   ·dsimp only
    refine Dm.bind (CX hr) fun τ o o' C6 ho=>?_;cases ho with
    | @map es Bu c h=>
     dsimp only;have Av:=Ren.le_trans hle C6;refine Dm.bind (DX T _ _ _ (hB.mono Av) (hk.mono Av)) fun Dp _ _ Bg _=>?_;have AV:=Ren.le_trans Av Bg;have Ce:=Bt.mono h fun _ _=>NG.mono Bg;refine Dm.bind (NI T m key kZ (hB.mono AV) (hk.mono AV) Ce.list) fun JB q q' B5 hq=>?_;have BF:=Ren.le_trans AV B5;have Fb:=Bt.mono Ce fun _ _=>NG.mono B5;have Ir:JB _=some _:=(Ren.le_trans (Ren.le_trans C6 Bg) B5).1 _ _ hr;rcases hq with⟨rfl,rfl⟩|⟨j,u,u',rfl,rfl,_⟩
     ·exact Al.ok (DU Ir (.map _ (Fb.push (x:= {key:=k,val:=v,born:=_}) (y:= {key:=k',val:=v',born:=_}) ⟨hk.mono BF,hv.mono BF,rfl⟩)))
     ·refine JD (Wy Fb (hk.mono BF) j).1 (hk.mono BF) (fun G6 y y' EW hy=>?_) fun y'=>Wx _ _
      exact DU (EW.1 _ _ Ir) (.map _ (Bt.modify (f:=fun e=> {e with key:=y,val:=v}) (g:=fun e=> {e with key:=y',val:=v'}) (Bt.mono Fb fun _ _=>NG.mono EW) (fun a b Eh=>⟨hy,hv.mono (Ren.le_trans BF EW),Eh.born⟩) j))
    |_=>exact Ae.ok
  |_=>exact Ae.ok
 |_=>exact Ae.ok
theorem bH (T:Twins P' P)(m:Nat)(t:Zs)(hm:∀k e,P.underlying t=some (.map k e)→Ws P m k=true)(hB:Base P ρ){x x' k k':Zc}(hx:VR ρ x x')(hk:VR ρ k k'):
  Dm P' P fz VR ρ (Instr.mapEntry t x k) (Instr.mapEntry t x' k'):=by
 unfold Instr.mapEntry;refine Dm.bind (Ao T t) fun σ d d' hle hd=>?_;obtain⟨rfl,hd⟩:=hd;have A6:=hx.mono hle;cases d with
 |map key elem=>
  have kZ:=hm _ _ hd;dsimp only;cases A6 with
  | @map r r' hr=>
   cases r<;>cases r'<;>first|exact hr.elim|skip
   ·exact(AH T (hB.mono hle) _).ok
   ·dsimp only
    refine Dm.bind (CX hr) fun τ o o' C6 ho=>?_;cases ho with
    | @map es Bu c h=>
     dsimp only;have Av:=Ren.le_trans hle C6;refine Dm.bind (DX T _ _ _ (hB.mono Av) (hk.mono Av)) fun Dp _ _ Bg _=>?_;have AV:=Ren.le_trans Av Bg;have Ce:=Bt.mono h fun _ _=>NG.mono Bg;refine Dm.bind (NI T m key kZ (hB.mono AV) (hk.mono AV) Ce.list) fun JB q q' B5 hq=>?_;have BF:=Ren.le_trans AV B5;have Fb:=Bt.mono Ce fun _ _=>NG.mono B5;have Ir:JB _=some _:=(Ren.le_trans (Ren.le_trans C6 Bg) B5).1 _ _ hr;rcases hq with⟨rfl,rfl⟩|⟨j,u,u',rfl,rfl,hu⟩
     ·refine Al.ok ?_
      refine Ac _ (CY T elem) fun G6 z z' EW hz=>?_;refine Ac _ (DU (EW.1 _ _ Ir) (.map _ ((Bt.mono Fb fun _ _=>NG.mono EW).push ⟨hk.mono (Ren.le_trans BF EW),hz,rfl⟩))) fun ek _ _ bI _=>?_;exact Ad (.tuple' ((Bt.single (hz.mono bI)).push (.int _ _)))
     ·have acj:=Wy Fb (hk.mono BF) j
      refine JD acj.1 (hk.mono BF) (fun G6 y y' EW hy=>?_) fun y'=>NJ _ _ _;refine Ac _ (DU (EW.1 _ _ Ir) (.map _ (Bt.modify (f:=fun e=> {e with key:=y}) (g:=fun e=> {e with key:=y'}) (Bt.mono Fb fun _ _=>NG.mono EW) (fun a b Eh=>⟨hy,Eh.val,Eh.born⟩) j))) fun ek _ _ bI _=>?_;rw[acj.2];exact Ad (.tuple' ((Bt.single (hu.mono (Ren.le_trans EW bI))).push (.int _ _)))
    |_=>exact Ae.ok
  |_=>exact Ae.ok
 |_=>exact Ae.ok
theorem Wz {es Bu:Array MapEntry}(h:Bt (NG ρ) es Bu)(p:Nat→Bool):es.findIdx? (fun e=>p e.born)=Bu.findIdx? (fun e=>p e.born):=by
 have hl:=h.list;have e:∀a:Array MapEntry,a.findIdx? (fun e=>p e.born)=a.toList.findIdx? (fun e=>p e.born):=by
  rintro⟨l⟩;exact List.findIdx?_toArray _ _
 rw[e,e];generalize es.toList=l at hl⊢;generalize Bu.toList=l' at hl⊢;clear h e
 induction hl with
 |nil=>rfl
 |cons hx _ ih=>simp only[List.findIdx?_cons,hx.born,ih]
theorem UL (t:Zs){x x' s s' v v':Zc}(hx:VR ρ x x')(hs:VR ρ s s')(hv:VR ρ v v'):
  Al P' P fz F4 ρ (Instr.entryStore t x s v) (Instr.entryStore t x' s' v'):=by
 unfold Instr.entryStore;cases hx with
 | @map r r' hr=>
  cases r<;>cases r'<;>first|exact hr.elim|skip
  ·exact Ae
  ·dsimp only
   refine Ac _ (CX hr) fun τ o o' C6 ho=>?_;cases ho with
   | @map es Bu c h=>
    dsimp only;refine Ac _ (KO (hs.mono C6)) fun Dp n n' Bg hn=>?_;cases hn;rw[Wz h (fun b=>(b:Int)==n)];split
    ·exact DU ((Ren.le_trans C6 Bg).1 _ _ hr) (.map _ (Bt.modify (f:=fun e=> {e with val:=v}) (g:=fun e=> {e with val:=v'}) (Bt.mono h fun _ _=>NG.mono Bg) (fun a b Eh=>⟨Eh.key,hv.mono (Ren.le_trans C6 Bg),Eh.born⟩) _))
    ·exact Ai
   |_=>exact Ae
 |_=>exact Ae
theorem k9 (T:Twins P' P)(t:Zs){x x':Zc}(hx:VR ρ x x'):Al P' P fz VR ρ (Instr.range t x) (Instr.range t x'):=by
 unfold Instr.range;refine Ac _ (Ao T t) fun σ d d' hle hd=>?_;obtain⟨rfl,hd⟩:=hd;have A6:=hx.mono hle;have tail:∀τ (o o':Obj),OR τ o o'→Al P' P fz VR τ (newObj o>>=fun r=>pure (Value.pointer (some ⟨r,0,none⟩))) (newObj o'>>=fun r=>pure (Value.pointer (some ⟨r,0,none⟩))):=
  fun τ o o' ho=>Ac _ (G1 ho) fun _ _ _ _ hr=>Ad (.pointer ⟨hr,rfl,rfl⟩)
 cases d with
 |string=>
  cases A6 with
  |string s=>exact Ac (fun τ o o'=>OR τ o o') (Ad (.stringIter s 0)) fun τ o o' _ ho=>tail τ o o' ho
  |_=>exact Cs
 |map _ _=>
  cases A6 with
  | @map r r' hr=>
   cases r<;>cases r'<;>first|exact hr.elim|skip
   ·exact Ac (fun τ o o'=>OR τ o o') (Ad (.mapIter 0 #[] 0 trivial)) fun τ o o' _ ho=>tail τ o o' ho
   ·dsimp only
    refine Ac _ (CX hr) fun τ o o' C6 ho=>?_;cases ho with
    |map c h=>exact Ac (fun τ o o'=>OR τ o o') (Ad (.mapIter c #[] c (C6.1 _ _ hr))) fun τ o o' _ ho=>tail τ o o' ho
    |_=>exact Cs
  |_=>exact Cs
 |_=>exact Cs
theorem bJ {α β:Type}{R:α→β→Prop}{l:List α}{l':List β}(h:Eg R l l'){p:α→Bool}{q:β→Bool}(hp:∀x y,R x y→p x=q y):Eg R (l.filter p) (l'.filter q):=by
 induction h with
 |nil=>exact .nil
 |cons hx _ ih=>
  rw[List.filter_cons,List.filter_cons,hp _ _ hx];split
  ·exact .cons hx ih
  ·exact ih
theorem Bt.filter {α β:Type}{R:α→β→Prop}{a:Array α}{b:Array β}(h:Bt R a b){p:α→Bool}{q:β→Bool}(hp:∀x y,R x y→p x=q y):Bt R (a.filter p) (b.filter q):=by
 have:=bJ h.list hp;have h2:=Bt.dZ this;rw[←Array.toList_filter, ←Array.toList_filter,Array.toArray_toList,Array.toArray_toList]at h2;exact h2
theorem qm {α β:Type}{R:α→β→Prop}{a:Array α}{b:Array β}(h:Bt R a b){p:α→Bool}{q:β→Bool}(hp:∀x y,R x y→p x=q y):a.all p=b.all q:=by
 have hl:=h.list;rw[←Array.all_toList, ←Array.all_toList];generalize a.toList=l at hl⊢;generalize b.toList=m at hl⊢;clear h
 induction hl with
 |nil=>rfl
 |cons hx _ ih=>simp only[List.all_cons,hp _ _ hx,ih]
inductive OpR {α β:Type}(R:α→β→Prop):Option α→Option β→Prop
 |none:OpR R none none
 |some {a:α} {b:β} (h:R a b):OpR R (some a) (some b)
theorem wM {x x':Zc}(hx:VR ρ x x')(isString:Bool)(t:Zs):Al P' P fz VR ρ (Instr.next x isString t) (Instr.next x' isString t):=by
 unfold Instr.next;have over:∀τ:Ren,Al P' P fz VR τ (pure (YP #[.bool false])) (pure (YP #[.bool false])):=fun τ=>Ad (.tuple' (Bt.single (.bool false)));cases hx with
 | @pointer a a' ha=>
  cases a<;>cases a'<;>first|exact ha.elim|skip
  ·exact Ae
  ·rename_i a a'
   obtain⟨r,off,sp⟩:=a;obtain⟨r',aip,sp'⟩:=a';obtain⟨h1,h2,h3⟩:=ha;dsimp only at h1 h2 h3;subst h2;subst h3;cases aip with
   |succ n=>exact Ae
   |zero=>
    dsimp only;refine Ac _ (CX h1) fun τ o o' C6 ho=>?_;have qu:=C6.1 _ _ h1;cases ho with
    |stringIter s p=>
     cases isString with
     |false=>exact Ae
     |true=>
      dsimp only;split
      ·refine Ac _ (DU qu (.stringIter _ _)) fun Dp _ _ Bg _=>?_
       exact Ad (.tuple' (((Bt.single (.bool true)).push (.int _ _)).push (.int _ _)))
      ·exact over _
    | @mapIter m m' since seen last hm=>
     cases isString with
     |true=>cases m<;>exact Ae
     |false=>
      cases m<;>cases m'<;>first|exact hm.elim|skip
      ·exact over _
      ·dsimp only
       refine Ac _ (CX hm) fun Dp o o' Bg ho=>?_;cases ho with
       | @map es Bu c SV=>
        dsimp only;have hem:es.isEmpty=Bu.isEmpty:=by simp[Array.isEmpty,SV.1]
        rw[hem,qm SV (p:=fun x=>decide (x.born≥last)) (q:=fun x=>decide (x.born≥last)) fun a b h=>by rw[h.born]];split
        ·exact .bad trivial
        ·have eo:=SV.filter (p:=fun e=> !seen.contains e.born) (q:=fun e=> !seen.contains e.born) fun a b h=>by rw[h.born]
         have hold:=eo.filter (p:=fun e=>decide (e.born<since)) (q:=fun e=>decide (e.born<since)) fun a b h=>by rw[h.born]
         have Bv:=eo.filter (p:=fun e=>decide (e.born≥since)) (q:=fun e=>decide (e.born≥since)) fun a b h=>by rw[h.born]
         have hoe:(ZR (fun e=>decide (e.born<since)) (ZR (fun e=> !seen.contains e.born) es)).isEmpty=(ZR (fun e=>decide (e.born<since)) (ZR (fun e=> !seen.contains e.born) Bu)).isEmpty:=by
          unfold Array.isEmpty;rw[hold.1]
         have er:Bt (OpR (NG Dp)) ((if(ZR (fun e=>decide (e.born<since)) (ZR (fun e=> !seen.contains e.born) es)).isEmpty=true then #[none] else #[])++(ZR (fun e=>decide (e.born<since)) (ZR (fun e=> !seen.contains e.born) es)++ZR (fun e=>decide (e.born≥since)) (ZR (fun e=> !seen.contains e.born) es)).map some)
           ((if(ZR (fun e=>decide (e.born<since)) (ZR (fun e=> !seen.contains e.born) Bu)).isEmpty=true then #[none] else #[])++(ZR (fun e=>decide (e.born<since)) (ZR (fun e=> !seen.contains e.born) Bu)++ZR (fun e=>decide (e.born≥since)) (ZR (fun e=> !seen.contains e.born) Bu)).map some):=by
          refine Bt.append ?_ ((hold.append Bv).map fun x y h=>.some h);rw[hoe];split
          ·exact Bt.single .none
          ·exact Bt.nil
         revert er
         generalize ((if(ZR (fun e=>decide (e.born<since)) (ZR (fun e=> !seen.contains e.born) es)).isEmpty=true then #[none] else #[])++(ZR (fun e=>decide (e.born<since)) (ZR (fun e=> !seen.contains e.born) es)++ZR (fun e=>decide (e.born≥since)) (ZR (fun e=> !seen.contains e.born) es)).map some)=C;generalize ((if(ZR (fun e=>decide (e.born<since)) (ZR (fun e=> !seen.contains e.born) Bu)).isEmpty=true then #[none] else #[])++(ZR (fun e=>decide (e.born<since)) (ZR (fun e=> !seen.contains e.born) Bu)++ZR (fun e=>decide (e.born≥since)) (ZR (fun e=> !seen.contains e.born) Bu)).map some)=C';intro er;rw[er.1];refine Ac _ (G2 _) fun JB k k' B5 hk=>?_;cases hk;rcases er.opt k with⟨e1,e2⟩|⟨y,y',e1,e2,hy⟩
         ·rw[e1];exact Ae
         ·rw[e1,e2]
          cases hy with
          |none=>exact over _
          |some he=>
           dsimp only;have hle:=Ren.le_trans Bg B5;rw[he.born];refine Ac _ (DU (hle.1 _ _ qu) (.mapIter _ _ _ (hle.1 _ _ hm))) fun G6 _ _ EW _=>?_;have Av:=Ren.le_trans B5 EW;exact Ad (.tuple' (((Bt.single (.bool true)).push (he.key.mono Av)).push (he.val.mono Av)))
       |_=>exact Ae
    |_=>exact Ae
 |_=>exact Ae
end
end Go.BK
