/- Part of a proof. -/
import Derived.Test.YtkkjobdfheidkaaGreatDoorQ10
set_option maxRecDepth 100000
set_option maxHeartbeats 6400000
set_option linter.unusedVariables false
set_option linter.unusedSimpArgs false
open Array renaming mem_of_getElem?→zM,getElem?_map→Yi,getElem?_eq_some_iff→Za,getElem?_eq_getElem→ZB,getD_eq_getD_getElem?→YO
open Bool renaming or_eq_true→ZaA,and_eq_true→ZD
open Go renaming Value→Zc,TypeId→Zs,World→Zb,Program→Zp,Goroutine→Zg,FuncId→YT,undef→Ze,PanicEntry→zc,Frame→ZA,stepG→Z6
open Go.Conc renaming crowd→Yg
open Go.Frame renaming enter→Zq
open Go.GStep renaming after→zv
open Go.Proofs.Tryz renaming prog→Zd
open Go.RowKit renaming Below→Zm
open Go.Sem renaming runT_eq→Z5
open List renaming range→ZaB
open List.cons renaming inj→zC
open Nat renaming le_refl→Zj,zero_le→Zt,lt_of_lt_of_le→Zl
open Option renaming getD_some→Zw
open Option.some renaming inj→Z2
namespace Go.Proofs.Fit
open Go Go.Conc Go.BK Go.RowKit
def S_ (i:Nat):Bool:=Ve i||i==155||i==156
def yD (i:Nat):Bool:=Xr i||i==156
noncomputable def ve:OL:= {val:=yD,Mz:=S_,dir:=fun f _=>S_ f,low:=Tryz.prog.globals.size}
noncomputable def RX (f:Option Func):Bool:=match f with
 |none=>false
 |some fn=> !(fn.name== "runtime.NumGoroutine")&&match fn.body with
  |none=>false
  |some c=>(!fn.norace)&&A_ Lp ve BO false c
theorem af1:(ZaB 194).all (fun f=> !S_ f||RX Lp.funcs[f]?)=true:=by kernel_rfl
theorem rO {f:Nat}(h:S_ f=true):f<194:=by
 unfold S_ at h;simp only[ZaA,beq_iff_eq]at h;rcases h with(h|h)|h
 ·exact cA h
 ·omega
 ·omega
theorem nD {f:Nat}(h:yD f=true):S_ f=true:=by
 unfold yD at h;simp only[ZaA,beq_iff_eq]at h;unfold S_;rcases h with h|h
 ·rw[(M0 h).1];rfl
 ·subst h;rfl
theorem yE {f:Nat}(h:S_ f=true):∃fn code,Lp.funcs[f]?=some fn∧fn.body=some code∧A_ Lp ve BO false code=true∧(fn.name== "runtime.NumGoroutine")=false∧fn.norace=false:=by
 have:=List.all_eq_true.1 af1 f (List.mem_range.2 (rO h));rw[h]at this;have hc:RX Lp.funcs[f]?=true:=by simpa using this
 unfold RX at hc;cases e:Lp.funcs[f]? with
 |none=>rw[e]at hc;cases hc
 |some fn=>
  rw[e]at hc;cases eb:fn.body with
  |none=>simp[eb]at hc
  |some c=>
   simp only[eb,ZD,Bool.not_eq_true']at hc;exact⟨fn,c,rfl,eb,hc.2.2,hc.1,hc.2.1⟩
theorem rP:NK Lp Lp ve (fun _=>false) where
 val f h:=⟨nD h,rfl⟩
 dir f n h:=.inl ⟨h,rfl⟩
 met f n _ hs:=by cases hs
 has f h _:=by
  obtain⟨fn,code,h1,h2,h3,h4,h5⟩:=yE h;exact⟨fn,code,h1,h1,h2,h3,h4,h5⟩
theorem c9:Twins Lp Lp:=Xc rfl uB uC
theorem akL {ρ:Ren}(h1:ρ.ok=ve)(h2:ρ.good=A_ Lp ve BO false)(h3:ρ.sp=fun _=>false):Env Lp Lp ρ:=
 ⟨by unfold Base;rw[h1];rfl,by rw[h1];exact h2,by rw[h1,h3];exact rP⟩
end Go.Proofs.Fit
namespace Go.BK
open Go Go.Conc
theorem Ud {τ:Ren}{b:Array Zc}(h:∀x∈b,∃v,VR τ v x):∃a,BN τ a b:=Kn fun i x hx=>h x (zM hx)
theorem VR.total (τ:Ren)(x:Zc):∃v,VR τ v x:=by
 have key:∀(n:Nat) (x:Zc),SizeOf.sizeOf x<n→∃v,VR τ v x:=by
  intro n
  induction n with
  |zero=>intro x hx;omega
  |succ n ih=>
   intro x hx;cases x with
   |bool b=>exact⟨_,.bool b⟩
   |int k n=>exact⟨_,.int k n⟩
   |float k b=>exact⟨_,.Eo rfl⟩
   |complex k a b=>exact⟨_,.Eo rfl⟩
   |string s=>exact⟨_,.string s⟩
   |pointer a=>cases a with
    |none=>exact⟨_,.pointer (a:=none) trivial⟩
    |some a=>exact⟨_,.Eo rfl⟩
   |slice a n c=>cases a with
    |none=>exact⟨_,.slice (a:=none) n c trivial⟩
    |some a=>exact⟨_,.Eo rfl⟩
   |map r=>cases r with
    |none=>exact⟨_,.map (r:=none) trivial⟩
    |some a=>exact⟨_,.Eo rfl⟩
   |chan r=>cases r with
    |none=>exact⟨_,.chan (r:=none) trivial⟩
    |some a=>exact⟨_,.Eo rfl⟩
   |func f a c=>cases f with
    |method m=>exact⟨_,.meth m a c⟩
    |_=>exact⟨_,.Eo rfl⟩
   |nilFunc=>exact⟨_,.nilFunc⟩
   |iface t v=>exact⟨_,.Eo rfl⟩
   |nilIface=>exact⟨_,.nilIface⟩
   |agg c=>
    obtain⟨a,ha⟩:=Ud (τ:=τ) (b:=c) fun x lQ=>ih x (by have h1:=Array.sizeOf_lt_of_mem lQ;simp at hx;omega);exact⟨_,VR.PU ha⟩
   |tuple c=>
    obtain⟨a,ha⟩:=Ud (τ:=τ) (b:=c) fun x lQ=>ih x (by have h1:=Array.sizeOf_lt_of_mem lQ;simp at hx;omega);exact⟨_,VR.tuple' ha⟩
 exact key _ x (Nat.lt_succ_self _)
theorem OR.Jj (τ:Ren)(c:Array Zc)(e:Zs)(f:Nat×Nat):OR τ (Db τ (.cells c e f)) (.cells c e f):=by
 refine .cells e ⟨by simp,fun i v y h1 h2=>?_⟩ (Qq _ _);rw[Yi,h2]at h1;cases h1;exact N9 (VR.total τ y)
end Go.BK
namespace Go.Proofs.Fit
open Go Go.Conc Go.BK Go.RowKit
theorem fM:MZ.low=1:=RU
def Dc (W:Zb)(b:Nat):Prop:=b=MZ.low∨∃c e f,W.heap[b]?=some (.cells c e f)
noncomputable def Qb (W:Zb):Ren:=Ren.Vb (Dc W) MZ (A_ Zd MZ BO false) Wd (.inl rfl)
noncomputable def Bz (W:Zb):Zb:=snap (Qb W) W
theorem da (W:Zb):(Bz W).heap.size=W.heap.size:=KU _ _
theorem HJ {W:Zb}{b c:Nat}:Qb W b=some c↔Dc W b∧b=c:=F_
theorem nE {W:Zb}{b:Nat}{c:Array Zc}{e:Zs}{f:Nat×Nat}(h:W.heap[b]?=some (.cells c e f)):Qb W b=some b:=HJ.2 ⟨.inr ⟨_,_,_,h⟩,rfl⟩
theorem rQ (W:Zb):Qb W MZ.low=some MZ.low:=HJ.2 ⟨.inl rfl,rfl⟩
theorem RY {W:Zb}{p:Addr}{v:Zc}(h:W.cell? p=some v)(hv:VR (Qb W) v v):(Bz W).cell? p=some v:=IG h hv
theorem Ue {W:Zb}{o:Obj}(h:W.heap[MZ.low]?=some o)(hb:∃c e f,o=.cells c e f):WR (Qb W) (Bz W) W:=by
 refine lZ fun c hc=>?_;rcases hc with rfl|⟨cs,e,f,hc⟩
 ·obtain⟨c,e,f,rfl⟩:=hb
  exact⟨_,h,OR.Jj _ _ _ _⟩
 ·exact⟨_,hc,OR.Jj _ _ _ _⟩
noncomputable def rR (W:Zb):Ren:=(Qb W).with ve (A_ Lp ve BO false) (fun _=>false) rfl
theorem af2 {f:Nat}(h:MZ f=true):ve f=true:=by
 show(Xr f||f==156)=true;have h':Xr f=true:=h;rw[h'];rfl
theorem XZ (W:Zb):(Qb W).sub (rR W):=Rx fun _ h=>af2 h
theorem OR.nF {ρ τ:Ren}(s:ρ.sub τ){o x:Obj}(h:OR ρ o x)(hq:(∃c e f,o=.cells c e f)∨o=.coro none):OR τ o x:=by
 rcases hq with⟨c,e,f,rfl⟩|rfl
 ·cases h with
  |cells e h hf=>exact .cells e (BN.sub s h) hf
 ·cases h with
  |junk h=>exact .junk h
theorem db {W:Zb}{o:Obj}(h:W.heap[MZ.low]?=some o)(hb:∃c e f,o=.cells c e f):WR (rR W) (Bz W) W:=by
 refine⟨fun b c JO=>?_,rfl⟩;obtain⟨hD,rfl⟩:=HJ.1 (show Qb W b=some c from JO);have hW:=Ue h hb;obtain⟨x,y,h1,h2,h3⟩:=hW.obj b b (HJ.2 ⟨hD,rfl⟩);refine⟨x,y,h1,h2,OR.nF (XZ W) h3 ?_⟩;have qu:(W.heap[b]?).map (Db (Qb W))=some x:=(MU _ _ _).symm.trans h1;rcases hD with rfl|⟨cs,e,f,hc⟩
 ·obtain⟨c,e,f,rfl⟩:=hb
  rw[h,Option.map_some]at qu;exact .inl ⟨_,_,_,(Z2 qu).symm⟩
 ·rw[hc]at qu
  exact .inl ⟨_,_,_,(Z2 qu).symm⟩
theorem dc {W:Zb}{o:Obj}(h:W.heap[MZ.low]?=some o)(hb:∃c e f,o=.cells c e f){c:Nat}(hc:Dc W c):Kg (fun b q=>Quiet q∧(Bz W).heap[b]?=some q) (Bz W) c:=by
 have key:∀x,W.heap[c]?=some x→OR (Qb W) (Db (Qb W) x) x→Kg (fun b q=>Quiet q∧(Bz W).heap[b]?=some q) (Bz W) c:=fun x h1 h2=>(TX h1 h2).imp id fun⟨q,h3,h4⟩=>⟨q,⟨h3,h4⟩,h4⟩;rcases hc with rfl|⟨cs,e,f,hc⟩
 ·obtain⟨c,e,f,rfl⟩:=hb
  exact key _ h (OR.Jj _ _ _ _)
 ·exact key _ hc (OR.Jj _ _ _ _)
theorem Cm.imp {P':Zp}{B:Fj}{m:Bool}{Stop vg:Zg→Zb→Prop}(h:∀g w,Stop g w→vg g w){g:Zg}{w:Zb}(hM:Cm P' B m Stop g w):Cm P' B m vg g w:=by
 induction hM with
 |stop x=>exact .stop (h _ _ x)
 |step hn hr AE w₁ es hs _ ih=>exact .step hn hr AE w₁ es hs ih
def KT (f:YT):Cut:=⟨false,BO,[],[],f,true,fun _=>Ze,0,.normal⟩
noncomputable def BT (f:YT):Fj:=⟨KT f,[CV Lp],[],true⟩
theorem rS (f:YT):(BT f).La:=⟨fun _=>⟨rfl,rfl,rfl⟩,by simp[BT],fun h=>(by cases h),fun _=>⟨rfl,rfl,rfl⟩⟩
theorem Uf {P:Zp}{ρ:Ren}(E:Env Lp P ρ){f:YT}(hf:ρ.ok.Mz f=true)(JQ:ρ.sp f=false){a a':Array Zc}(ha:BN ρ a a'):G9 Lp P (KT f) ρ (Zq Lp f a .normal) (Zq P f a' .normal):=by
 obtain⟨fn,code,h1,h2,h3,h4,h5,h6⟩:=E.Mz.has f hf JQ;unfold Zq;rw[h1,h2];refine⟨rfl,fun _=>⟨hf,JQ⟩,⟨DY h1 h6,DY h2 h6⟩,?_,⟨[.code code],?_,?_⟩,⟨[],rfl,.nil⟩,.run,⟨rfl,.inl rfl⟩,trivial,fun h=>(by cases h),fun _=>⟨rfl,rfl⟩,fun h=>(by cases h)⟩
 ·rw[ha.1];exact OY.of (ha.append (Bt.replicate _ (VR.undef ρ)))
 ·simp[h3,KT]
 ·simp only[Option.bind_some,h3,Zw]
  exact .cons (.code h4) .nil
def Vy (w:Zb):Ending→Zb→Prop:=fun e w'=>Zm w.heap.size w w'∧(e=.returned (.bool true)∨∃x,e=.panicked x∧PX x w')
def QJ (w:Zb)(b:Nat)(o:Obj):Prop:=Quiet o∧w.heap[b]?=some o
theorem QJ.lt {w:Zb}{b:Nat}{o:Obj}(h:QJ w b o):b<w.heap.size:=(Za.1 h.2).1
def IU (wl:Zb)(v:Zc)(w:Zb):Prop:=v=.bool true∧∀b o,QJ wl b o→w.heap[b]?=some o
def PostX (wl:Zb)(x:List zc)(w:Zb):Prop:=PX x w∧∀b o,QJ wl b o→w.heap[b]?=some o
theorem IU.blind (wl:Zb):C2 (IU wl):=fun _ _ _ h=>h
theorem PostX.blind (wl:Zb):C2 (PostX wl):=fun _ _ t h=>⟨PX.blind _ _ t h.1,h.2⟩
theorem de {Q:Zp}{fr:ZA}{fn:Func}{w:Zb}{i:Nat}(ht:fr.defers=[])(hm:fr.mode=.returning)(hk:fr.kind=.normal)(hf:Q.funcs[fr.fn]?=some fn)(hr:fn.results= #[.tmp i])(hi:Q.inits.idxOf? fr.fn=none):
  unwind Q true fr [] none w=.ended (.done (fr.tmps.getD i Ze)) w (seen Q fr.fn #[]):=by
 unfold unwind;simp[-Z5,ht,hm,hf,Go.BK.results_tmp (P':=Q) hr,zv,doReturn,hk,hi]
theorem X9 {σ:Ren}(I4:σ.ok=MZ){cap:Array Zc}{v:Zc}(h:VR σ (Vh cap) v):False:=by
 unfold Vh at h;cases h with
 |iface _ h=>
  cases h with
  |func h=>
   cases h with
   |func h=>
    rw[I4]at h;have:Xr 156=true:=h;cases this
theorem rT {f:YT}{fn:Func}{i:Nat}(hf:MZ.Mz f=true)(hfL:S_ f=true)(Hp:Tryz.prog.funcs[f]?=some fn)(hr:fn.results= #[.tmp i])(nG:Tryz.prog.inits.idxOf? f=none)
  {W:Zb} {args:Array Zc} (IE:∃o,W.heap[MZ.low]?=some o∧∃c e f,o=.cells c e f) (h0:∃c e f,W.heap[0]?=some (.cells c e f)) (fN:BN (Qb W) args args)
  (hc:∀t,Calls Lp f args (tp (Bz W) t) (Vy (tp (Bz W) t))):
  ∃M last o w' t',runNT Zd (M+1) (solo (G (Zq Zd f args .normal) []) W) #[]=(.ended o w',t')∧runN Zd M (solo (G (Zq Zd f args .normal) []) W)=.next last∧
   step Zd last=.ended o w'∧Conc.Good Zd (fun v W'=>v=.bool true∧Zm W.heap.size W W') last o w' t':=by
 obtain⟨o,IE,Lg⟩:=IE;obtain⟨c0,e0,f0,h0⟩:=h0;have T:=AP.twins;have hd:BL≤Tryz.prog.depth:=of_decide_eq_true (by kernel_rfl);have hdL:BL≤Lp.depth:=by rw[mF];exact hd
 have hB:=rS f;have E:Env Lp Zd (Qb W):=AP.aj6 rfl rfl rfl;have akO:Lp.funcs[f]?=some fn:=(AP.same f (II.1 hf).1 (II.1 hf).2).trans Hp;have hWR:=Ue IE Lg;have EL:Env Lp Lp (rR W):=akL rfl rfl rfl;have hSL:Fe Lp Lp (BT f) (AO (Zq Lp f args .normal) [CV Lp]) (Bz W):=
  ⟨rR W,AO (Zq Lp f args .normal) [],W,EL,⟨_,_,_,_,rfl,rfl,.bot (B:=BT f) (Uf EL hfL rfl (BN.sub (XZ W) fN))⟩,db IE Lg,rfl⟩
 have NT:∀t,Calls Lp f args (tp (Bz W) t) (eH (IU (Bz W)) (PostX (Bz W))):=fun t=>(hc t).mono fun e w' ⟨hb,he⟩=>by
  have hq:∀b o,QJ (Bz W) b o→w'.heap[b]?=some o:=fun b o h=>(hb.block b h.lt).trans h.2;rcases he with rfl|⟨x,rfl,hx⟩
  ·exact⟨rfl,hq⟩
  ·exact⟨hx,hq⟩
 have hM:=WQ c9 hdL hB rfl rfl (B:=BT f) akO hr (IU.blind _) (PostX.blind _) rfl hSL NT;have K:C8 Lp (BT f) true (Er Lp (BT f) fn (IU (Bz W)) (PostX (Bz W))):=Iw rfl (IU.blind _) (PostX.blind _);have SG:=Kp (P':=Lp) (B:=BT f) (fn:=fn) (Post:=IU (Bz W)) (PostX:=PostX (Bz W)) rfl;have himp:∀g w,Er Lp (BT f) fn (IU (Bz W)) (PostX (Bz W)) g w→Er Lp (BT f) fn (IU (Bz W)) PX g w:=fun g w h=>h.imp id fun⟨x,h1,h2⟩=>⟨x,h1,h2.1⟩;have akP:∀g w,Er Lp (BT f) fn (IU (Bz W)) (PostX (Bz W)) g w→∀b o,QJ (Bz W) b o→w.heap[b]?=some o:=by
  rintro g w (⟨_,_,i,_,h,_⟩|⟨x,_,h⟩) b o hb
  ·exact h.2 b o hb
  ·exact h.2 b o hb
 have hS0:∀c,Dc W c↔∃b,Qb W b=some c:=fun c=>⟨fun h=>⟨c,HJ.2 ⟨h,rfl⟩⟩,fun⟨b,h⟩=>by obtain⟨h1,rfl⟩:=HJ.1 h;exact h1⟩;have hSt:F6 Lp Zd (BT f) (Qb W) (Zq Lp f args .normal:: [CV Lp]) (Zq Zd f args .normal:: []):=.bot (B:=BT f) (Uf E hf (II.1 hf).2 fN);have H:MN Lp Zd (BT f) (QJ (Bz W)) (Qb W) (Bz W).heap.size W.heap.size (Dc W) (Dc W) (Qb W) (AO (Zq Lp f args .normal) [CV Lp]) (Bz W) (AO (Zq Zd f args .normal) []) W:=
  ⟨E,Ren.le_refl _,fun _ _ h=>.inl h,⟨Zj _,Zj _⟩,.inl ⟨_,_,_,_,rfl,rfl,hSt⟩,hWR,fun c hc=>⟨c,HJ.2 ⟨hc,rfl⟩,dc IE Lg hc⟩,hS0⟩
 have akQ:∀c,Dc W c→c<W.heap.size:=fun c h=>(hWR.lt (HJ.2 ⟨h,rfl⟩)).2;have X:Ctx Zd (Dc W) (AO (Zq Zd f args .normal) []) W #[AO (Zq Zd f args .normal) []] #[] (fun _=>0) (fun _=>False):=
  ⟨rfl,leavers_one _ _,past_nil.mono (Zt _),fun b hb=>⟨akQ b hb,fun _ _ h=>h⟩,fun l h=>h.elim⟩
 have SP:lI Lp Zd (BT f) (QJ (Bz W)) true (Er Lp (BT f) fn (IU (Bz W)) (PostX (Bz W))) (Qb W) (Bz W).heap.size W.heap.size (Dc W):=by
  intro S ρ g w g' w' gs sl t q Shun JQ hMu HH XX;obtain⟨k,a,a',fr,cs,Bd,cs',h1,h2,h3,rfl,rfl,h4,h5⟩:=JQ;have I4:ρ.ok=MZ:=HH.le.2.1;rw[I4]at h1;rw[HH.le.2.2.2]at h2;have af3:=Cm.imp himp hMu;have hk:k=91∨k=104:=by simpa[Qb,Ren.Vb,Wd]using h2
  have af4:(Ve k&&(if k=91 then a.size==2 else if k=104 then a.size==3 else true))=true:=h1;rcases hk with rfl|rfl
  ·have ha:a.size=2:=by simpa[Ve]using af4
   exact yA rfl rfl (IU.blind _) ha h3 I4 (HH.le.1 _ _ (nE h0)) (fun b o h=>h.1) h4 h5 af3 HH XX
  ·have ha:a.size=3:=by simpa[Ve]using af4
   exact rK rfl rfl (IU.blind _) ha h3 I4 h4 h5 af3 HH XX
 have way:=lJ (P':=Lp) (P:=Zd) (B:=BT f) (m:=true) (Lk:=Dc W) T hd hB K SG.Kh (ρ₀:=Qb W) (n₀:=(Bz W).heap.size) (n₀':=W.heap.size) (J:=QJ (Bz W)) (D₀:=fun g w=>Fe Lp Lp (BT f) g w∨Ha (BT f) g∨PZ (BT f) g)
  (fun g w t AE w₁ es h hn hs=>Fe.out c9 hdL hB rfl h hn hs) (fun b o h=>⟨h.1,h.lt⟩)
  (fun g w hD hz hMu b o h=>LP c9 hdL hB K (fun b o h=>h.1) akP hMu hD b o h (Zl h.lt hz))
  (fun σ g w hle hl B3=>by
   obtain⟨c,r,x,x',h1,h2,hx⟩:=hl;have qu: [CV Lp]=c::r:=h1;obtain⟨e1,e2⟩:=zC qu;subst e1 e2;rcases B3 with⟨ha,fB,_⟩|⟨y,h4,Vq,_⟩
   ·rw[h2]at fB
    exact absurd (congrArg List.length fB) (by simp[AO,BT])
   ·rw[h2]at h4
    have e:x=y:=Ly (congrArg (fun g:Zg=>g.frame) h4);subst e;rcases Vq with⟨_,_,_,_,_,_,_,_,_,rfl,_⟩|⟨_,_,_,_,rfl,_⟩
    all_goals
     cases hx with
     |cons hh _=>exact X9 hle.2.1 hh.v)
  SP hM (.inl hSL)
 obtain⟨N,CI,CJ,D2,Gs,Shun₁,Fz,CZ,w₁',Bs,⟨vh,AE,w₁,Bn,HH⟩,XX,hD⟩:=way (Dc W) (Qb W) _ W _ none #[] (fun _=>0) (fun _=>False) H X;have C4:Zm W.heap.size W w₁':=⟨hD.os,hD.tape,hD.output,hD.size,fun b hb=>hD.still b hb (by
  by_cases h:Dc W b
  ·exact .inr h
  ·exact .inl h)⟩
 rcases Bn with⟨ha,fB,j,hj,T2,_,_⟩|⟨x,rfl,_⟩
 case inr=>
  exfalso;rcases HH.goes with⟨fr,cs,Bd,cs',h1,_,hS⟩|⟨_,_,_,c',r',_,_,_,h2,_⟩|⟨_,_,_,_,_,_,_,_,_,_,h1,_,hS,_⟩
  ·have:=hS.deep
   have e:cs=[]:=(congrArg Goroutine.callers h1).symm;subst e;simp[BT]at this
  ·cases h2
  ·have:=congrArg (fun g:Zg=>g.callers.length) h1
   simp[AO]at this
 rw[hr]at hj;obtain rfl:i=j:=by simpa using hj
 rcases HH.goes with⟨fr,cs,Bd,cs',rfl,rfl,hS⟩|⟨_,_,_,c',r',_,_,_,h2,_⟩|⟨_,_,_,_,_,_,_,_,_,_,rfl,_,hS,_⟩
 case inr.inl=>cases h2
 case inr.inr=>
  have:=hS.deep;have akS:_::_=(BT f).lcs:=fB;rw[←akS]at this;simp at this
 obtain⟨FZ,rfl,hF⟩:=hS.UZ (by rw[show cs=(BT f).lcs from fB]);obtain⟨_,_,AL,qY⟩:True∧True∧fr.mode=.returning∧fr.defers=[]:=by
  rcases ha with⟨h,_⟩|⟨_,_,h1,h2⟩
  ·cases h
  ·exact⟨trivial,trivial,h1,h2⟩
 have Gt:Bd.mode=.returning:=by
  have:=hF.mode;rw[AL]at this;generalize Bd.mode=x at this;cases this
  rfl
 have af5:Bd.defers=[]:=by
  obtain⟨d,h1,h2⟩:=hF.defers;rw[qY]at h2;rw[h1,Eg.Q7 h2]
  rfl
 have rU:Bd.fn=f:=hF.fn.trans (hF.flat rfl).2;have af6:Bd.kind=.normal:=hF.lj rfl;have hval:Bd.tmps.getD i Ze=.bool true:=by
  have hv:VR vh (fr.tmps.getD i Ze) (Bd.tmps.getD i Ze):=by
   have ht:=hF.tmps;by_cases hi:i<fr.tmps.size
   ·have Df:i<Bd.tmps.size:=ht.size▸hi
    have:=ht.at_ i _ _ rfl (ZB hi) (ZB Df);simpa[YO,hi,Df]using this
   ·have Df:¬i<Bd.tmps.size:=ht.size▸hi
    simpa[YO,hi,Df]using VR.undef vh
  have hp:fr.tmps.getD i Ze=.bool true:=T2.1;rw[hp]at hv;generalize Bd.tmps.getD i Ze=y at hv;cases hv
  rfl
 have Rd:∀u,Z6 Zd true (AO Bd []) u=.ended (.done (.bool true)) u (seen Zd Bd.fn #[]):=fun u=>by
  rw[BC.2 (by rw[Gt];intro h;cases h),de af5 Gt af6 (by rw[rU];exact Hp) hr (by rw[rU];exact nG),hval]
 have af7:seen Zd Bd.fn #[]= #[]:=rfl;obtain⟨LR,last,o,w',t',k1,k2,k3,k4⟩:=beside_ends (P:=Zd) (Shun:=Shun₁) (B:=w₁'.heap.size) (D:=fun _ _ _=>False) (Post:=fun v W'=>v=.bool true∧Zm W.heap.size W W') (sl:=CJ) (n:=0) (fun _ _ _ h=>h.elim) XX.main XX.old XX.past (by
  rintro u ⟨d,rfl⟩;exact⟨rfl,_,_,Rd _,fun e he=>by rw[af7]at he;simp at he,rfl,⟨C4.os,C4.tape,C4.output,C4.size,C4.block⟩⟩)
 refine⟨N+LR,last,o,w',t',?_,?_,k3,k4⟩
 ·rw[show N+LR+1=N+(LR+1) by omega]
  show runNT Zd (N+(LR+1)) (Yg #[AO (Zq Zd f args .normal) []] W none) #[]=_;rw[Go.BK.runNT_add _ _ _ _ _ _ Bs];exact k1
 ·have hrn:runN Zd N (Yg #[AO (Zq Zd f args .normal) []] W none)=.next (Yg CI w₁' CJ):=by rw[←runNT_fst _ _ _ #[],Bs]
  show runN Zd (N+LR) (Yg #[AO (Zq Zd f args .normal) []] W none)=_;rw[runN_add,hrn];exact k2
end Go.Proofs.Fit
