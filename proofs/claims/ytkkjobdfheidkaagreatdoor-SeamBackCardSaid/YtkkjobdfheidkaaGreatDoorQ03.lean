/- Part of a proof. -/
import Derived.Test.YtkkjobdfheidkaaGreatDoorQ02
import Derived.Test.YtkkjobdfheidkaaGreatDoorProg
import Derived.Conc.WgWords
set_option maxRecDepth 100000
set_option maxHeartbeats 6400000
noncomputable section
set_option linter.all false
open Array renaming replicate->YD,getElem?_append_left->zv,getElem?_append_right->Zaq,getD_eq_getD_getElem?->Yz,getElem?_eq_some_iff->Za,getElem?_setIfInBounds_ne->Zk,getElem?_setIfInBounds_self_of_lt->Z5
open Bool renaming and_eq_true->ZI,not_eq_true'->ZcI
open Go renaming Frame->ZT,Value->Ze,undef->Zf,World->Zc,stepG->zd,callFunc->ZB,TypeId->Zr,Goroutine->Zi,Program->Zp,Event->zc,execOp->ZbE,Operand->ZbX
open Go.Act renaming eval->ZbS
open Go.Code renaming region->Yb,cond->Zcx
open Go.Conc renaming stepG_seq->Zo,stepG_region_end->Zh,served->YZ,QuitsD->ZcD,goes_oper_k->zF,mem_listed->zX
open Go.Conc.Goes renaming stop->Z2
open Go.Frame renaming enter->Zq
open Go.GStep renaming after->zW
open Go.Instr renaming build->Zbo
open Go.Proofs.Tryz renaming prog->Zd,func156->Zdu,f156->Zbd,runUnderlying209->ZdI,zeroValue209->ZcB
open Go.Region renaming wanted->Ym
open Go.Value renaming slice->ZA
open Go.World renaming cell?_of_block->zs
open List renaming length->ZbH,range->ZL,all_eq_true->zt
open Nat renaming le_refl->Zj,lt_of_lt_of_le->Zm
open Nat.succ renaming inj->ZH
open Ne renaming symm->Zbq
open Option renaming getD_some->Zx
namespace Go.Proofs
abbrev Tryz.link:Go.Conc.Lib.WgLink:= {add:=155,done:=157,wait:=158,relMerge:=169,disable:=170,enable:=171,inBubble:=172,associate:=173,fatal:=174,uOr:=175,uAdd:=176,raceRead:=177,uLoad:=178,uStore:=179,disassociate:=180,semrelease:=181,acquire:=182,isAssociated:=183,uCas:=184,raceWrite:=185,semacquire:=186,orU64:=188,addU64:=189,loadU64:=190,storeU64:=191,casU64:=192,tWgP:=235,tUP:=182,tAssoc:=237,tWg:=206,tAU:=203,tU64:=104,tUint:=179,tU32:=204,tPU32:=241,tPAU:=249,tPU64:=251,tNoCopy:=199,tANoCopy:=200,tAlign64:=201}
def Tryz.VG:Go.Conc.Lib.WgLib Zd Tryz.link:=
 ⟨Tryz.func155,Tryz.func157,Tryz.func158,Tryz.func169,Tryz.func170,Tryz.func171,Tryz.func172,Tryz.func173,Tryz.func174,Tryz.func175,Tryz.func176,Tryz.func177,Tryz.func178,Tryz.func179,Tryz.func180,Tryz.func181,Tryz.func182,Tryz.func183,Tryz.func184,Tryz.func185,Tryz.func186,Tryz.func188,Tryz.func189,Tryz.func190,Tryz.func191,Tryz.func192,Tryz.underlying235,Tryz.runUnderlying235,Tryz.sizeOf235,Tryz.isAgg235,Tryz.zeroValue235,Tryz.underlying182,Tryz.runUnderlying182,Tryz.sizeOf182,Tryz.isAgg182,Tryz.zeroValue182,Tryz.underlying237,Tryz.runUnderlying237,Tryz.sizeOf237,Tryz.isAgg237,Tryz.zeroValue237,Tryz.underlying206,Tryz.runUnderlying206,Tryz.sizeOf206,Tryz.isAgg206,Tryz.zeroValue206,Tryz.underlying203,Tryz.runUnderlying203,Tryz.sizeOf203,Tryz.isAgg203,Tryz.zeroValue203,Tryz.underlying104,Tryz.runUnderlying104,Tryz.sizeOf104,Tryz.isAgg104,Tryz.zeroValue104,Tryz.underlying179,Tryz.runUnderlying179,Tryz.sizeOf179,Tryz.isAgg179,Tryz.zeroValue179,Tryz.underlying204,Tryz.runUnderlying204,Tryz.sizeOf204,Tryz.isAgg204,Tryz.zeroValue204,Tryz.underlying241,Tryz.runUnderlying241,Tryz.sizeOf241,Tryz.isAgg241,Tryz.zeroValue241,Tryz.underlying249,Tryz.runUnderlying249,Tryz.sizeOf249,Tryz.isAgg249,Tryz.zeroValue249,Tryz.underlying251,Tryz.runUnderlying251,Tryz.sizeOf251,Tryz.isAgg251,Tryz.zeroValue251,Tryz.underlying0,Tryz.runUnderlying0,Tryz.sizeOf0,Tryz.isAgg0,Tryz.zeroValue0,Tryz.underlying3,Tryz.runUnderlying3,Tryz.sizeOf3,Tryz.isAgg3,Tryz.zeroValue3,Tryz.underlying4,Tryz.runUnderlying4,Tryz.sizeOf4,Tryz.isAgg4,Tryz.zeroValue4,Tryz.underlying9,Tryz.runUnderlying9,Tryz.sizeOf9,Tryz.isAgg9,Tryz.zeroValue9,Tryz.underlying20,Tryz.runUnderlying20,Tryz.sizeOf20,Tryz.isAgg20,Tryz.zeroValue20,Tryz.underlying21,Tryz.runUnderlying21,Tryz.sizeOf21,Tryz.isAgg21,Tryz.zeroValue21,(by kernel_rfl),(by kernel_rfl)⟩
end Go.Proofs
namespace Go.Proofs.Fit
open Go Go.Conc Go.FO Go.Pair Go.RowKit Go.Conc.Lib Go.ConcR.Gen Go.ConcN.Gen
open Go.ConcN (WgLive)
open Go.ConcR (DC0)
def lef:Code->Code
 | .seq a _=>a
 |c=>c
def uC:Code->Code
 | .seq _ b=>b
 |c=>c
def bot:ZT:= {(default:ZT) with fn:=Tryz.prog.funcs.size,defers:=[],mode:=.panicking [goexitEntry]}
def Gk:Code:=Tryz.f156.body.getD .skip
def Ju:Code:=lef (uC (uC Gk))
def Od:Code:=uC (uC (uC Gk))
def US:ZT:=baseD 156
def ptr (b:Nat):Ze:=.pointer (some ⟨b,0,none⟩)
def I6 (Wg l p g s f:Nat):Array Ze:= #[ptr Wg,ptr l,ptr p,ptr g,ptr s,ptr f]
def call156 (Wg l p g s f:Nat):Deferred:= {target:=.fn (.func 156) (I6 Wg l p g s f),args:= #[]}
def EF (n:Nat):Array Ze:=YD n Zf
def mF (Wg l p g s f:Nat)(w:Zc):zd Zd false (born Zd (call156 Wg l p g s f)) w=
  .go (G (US.at ⟨I6 Wg l p g s f++EF 34,[]⟩ [.code Gk]) [bot]) w #[]:=by
 simp[born,call156,I6,EF,ptr,zd,unwind,callDeferred,invoke,ZB,Zdu,Zbd,seen,zW,G,Zq,Frame.at,US,baseD,bot,Gk]
variable {ty:Zr}
variable {Wg b Ch f p n:Nat}
variable {S Lk:Nat->Prop}
variable {w w₁ wl:Zc}
def Dx (h:True)(_:Ai ty Wg S w w₁):True:=h
def wb (Wg l p g s f:Nat)(v:Ze):(I6 Wg l p g s f++EF 34).setIfInBounds 6 v=I6 Wg l p g s f++ #[v]++EF 33:=by
 apply Array.ext';simp[I6,EF,List.replicate]
def anv (Wg l p g s f:Nat):((I6 Wg l p g s f++EF 34)[0]?.getD Zf)=ptr Wg:=by
 rw[zv (by simp[I6])]
 rfl
def Pt (Wg l p g s f:Nat):Zi:=G (US.at ⟨I6 Wg l p g s f++ #[.slice none 0 0]++EF 33,[dcall 157 #[ptr Wg]]⟩ [.code Ju,.code Od]) [bot]
def cg (Wg l p g s f:Nat)(w:Zc):
  Goes Zd false (Ai 206 Wg S) DC0 (fun h _=>h=Pt Wg l p g s f) 12 (born Zd (call156 Wg l p g s f)) w:=by
 have hK:True:=trivial;refine Goes.step rfl fun w₁ _=>?_;rw[mF];refine⟨⟨rfl,rfl⟩,?_⟩;simp only[Gk,Zbd,Zx]
 u_c Zo Dx hK
 u_reg Dx hK
 u_defer Dx hK
 u_c Zh Dx hK
 u_c Zo Dx hK
 u_reg Dx hK
 u_op Dx hK
 u_c Zh Dx hK
 u_c Zo Dx hK
 refine Z2 fun _ _=>?_;rw[wb,anv];simp only[Pt,Ju,Od,Gk,Zbd,Zx,lef,uC]
end Go.Proofs.Fit
namespace Go.Proofs.Fit
open Go Go.Conc Go.FO Go.Pair Go.RowKit
structure R6 (P':Zp):Prop where
 has:∃fn,P'.funcs[156]?=some fn/\fn.body=some Ju/\fn.results= #[.tmp 6,.tmp 2]/\fn.norace=false/\fn.ntmps=40
def M5:Nat->Bool:=fun i=>i==0||i==5
def KX (Wg f:Nat):Cut:=
 {seg:=true,dead:=M5,tail:=[.code Od],jD:=[dcall 157 #[ptr Wg]],fn:=156,flat:=false,rv:=fun i=>if i=0 then ptr Wg else ptr f,rn:=40,rk:=.deferred}
def BX (P':Zp)(Wg f:Nat):Ik:=⟨KX Wg f,[De P'],[bot],false⟩
def jV (P':Zp)(Wg f:Nat):(BX P' Wg f).Mp:=⟨fun h=>(by cases h),by simp[BX],fun _=>by simp[BX],fun h=>(by cases h)⟩
def Fh (l p g s:Nat):Array Ze:= #[Zf,ptr l,ptr p,ptr g,ptr s,Zf,.slice none 0 0]
variable {ρ:Ren}
variable {Wg b Ch f p n:Nat}
def R7 {c:Nat}(h:ρ b=some c):VR ρ (ptr b) (ptr c):=.pointer ⟨h,rfl,rfl⟩
section
variable {P':Zp}{ρ:Ren}{Wg f l p g s l' p' g' s':Nat}
def qT (hl:ρ l=some l')(hp:ρ p=some p')(hg:ρ g=some g')(hs:ρ s=some s'):
  Qn M5 ρ (Fh l p g s++EF 33) (I6 Wg l' p' g' s' f++ #[.slice none 0 0]++EF 33):=by
 refine⟨by simp[Fh,I6,EF],fun i x y hd hx hy=>?_⟩;by_cases hi:i<7
 .rw[zv (by simp[Fh];omega)]at hx
  rw[zv (by simp[I6];omega)]at hy;have h7:i=0\/i=1\/i=2\/i=3\/i=4\/i=5\/i=6:=by omega
  rcases h7 with rfl|rfl|rfl|rfl|rfl|rfl|rfl
  .cases hd
  .cases hx;cases hy;exact R7 hl
  .cases hx;cases hy;exact R7 hp
  .cases hx;cases hy;exact R7 hg
  .cases hx;cases hy;exact R7 hs
  .cases hd
  .cases hx;cases hy;exact .slice 0 0 trivial
 .rw[Zaq (by simp[Fh];omega)]at hx
  rw[Zaq (by simp[I6];omega)]at hy;simp only[EF,Array.getElem?_replicate]at hx hy;split at hx
  .split at hy
   .cases hx;cases hy;exact VR.undef ρ
   .cases hy
  .cases hx
def qU (W:R6 P')(cj:Bi Zd ρ.ok M5 true Ju=true)(hl:ρ l=some l')(hp:ρ p=some p')(hg:ρ g=some g')(hs:ρ s=some s'):
  vL P' Zd (BX P' Wg f) ρ (AV (Zq P' 156 (Fh l p g s) .normal) [De P']) (Pt Wg l' p' g' s' f):=by
 obtain⟨fn,h1,h2,h3,h4,h5⟩:=W.has;have he:Zq P' 156 (Fh l p g s) .normal= {fn:=156,tmps:=Fh l p g s++EF 33,todo:=[.code Ju],defers:=[],mode:=.run,kind:=.normal,roundOf:=none}:=by
  unfold Zq;rw[h1];simp[h2,h5,Fh,EF]
 refine⟨_,_,_,_,rfl,rfl,?_⟩;rw[he];refine Gr.bot (B:=BX P' Wg f) ⟨rfl,fun h=>(by cases h),⟨Ei h1 h4,Ei Zdu rfl⟩,qT hl hp hg hs,⟨[.code Ju],rfl,.cons (.code cj) .nil⟩,⟨[],rfl,.nil⟩,.run,⟨rfl,.inr ⟨rfl,rfl⟩⟩,trivial,fun _=>⟨rfl,fun h=>(by cases h),rfl,rfl⟩,fun h=>(by cases h),fun _=>⟨?_,fun i hi=>?_,rfl⟩⟩
 .show(I6 Wg l' p' g' s' f++ #[ZA none 0 0]++EF 33).size=40
  simp[I6,EF]
 .show(I6 Wg l' p' g' s' f++ #[ZA none 0 0]++EF 33).getD i Zf=if i=0 then ptr Wg else ptr f
  have Da:i=0\/i=5:=by simpa[KX,BX,M5]using hi
  rw[Yz,zv (by simp[I6];omega)];rcases Da with rfl|rfl<;>rfl
end
section
variable {P':Zp}{ρ:Ren}{Wg f l p g s l' p' g' s':Nat}{Lk S:Nat->Prop}{n₀ n₀':Nat}
def Xm (t:Array Ze):Ze:=.tuple #[t.getD 6 Zf,t.getD 2 Zf]
def VH (Wg f:Nat)(Post:Ze->Zc->Prop)(ρ₀:Ren)(n₀ n₀':Nat):(Nat->Prop)->Zi->Zc->Prop:=fun S h w'=>
 ∃t' σ wl v6 v2,h=G (US.at ⟨t',[dcall 157 #[ptr Wg]]⟩ [.code Od]) [bot]/\t'.size=40/\t'.getD 5 Zf=ptr f/\Post (.tuple #[v6,v2]) wl/\VR σ v6 (t'.getD 6 Zf)/\VR σ v2 (t'.getD 2 Zf)/\
  ρ₀.le σ/\(∀b c,σ b=some c->ρ₀ b=some c\/(n₀<=b/\n₀'<=c))/\n₀<=wl.heap.size/\WR σ wl w'/\∀c,S c↔∃b,σ b=some c
def Oe:BW<=Tryz.prog.depth:=by decide+kernel
variable {Post:Ze->Zc->Prop}
def cm (σ:Ren)(h:Zi)(w:Zc)(hl:Vz (BX P' Wg f) σ h):¬VB P' (BX P' Wg f) Xm Post (fun _ _=>False) h w:=by
 obtain⟨c,r,x,x',h1,h2,_⟩:=hl;cases h1;rintro(⟨_,h4,_⟩|⟨y,_,h4⟩)
 .rw[h2]at h4
  have:=congrArg ZbH h4;simp[AV,BX]at this
 .exact h4
variable {w w₁ wl:Zc}
def qV (T:Twins P' Zd)(E:Env P' Zd ρ)(KE:ρ.sp=fun _=>false)(W:R6 P')(cj:Bi Zd ρ.ok M5 true Ju=true)
 (hl:ρ l=some l') (hp:ρ p=some p') (hg:ρ g=some g') (hs:ρ s=some s') {w':Zc} (hw:WR ρ wl w') (hb:Dk Post)
 (hc:∀t,Calls P' 156 (Fh l p g s) (tp wl t) (jL Post fun _ _=>False))
 (hq:∀(v:Ze) (w:Zc),Post v w->∀(b:Nat) (o:Obj),Quiet o->wl.heap[b]?=some o->w.heap[b]?=some o)
 (aci:n₀'<=w'.heap.size) (S9:∀b c,ρ b=some c->CF wl b\/∃o,Quiet o/\wl.heap[b]?=some o) (hS:∀c,S c↔∃b,ρ b=some c):
  aC Zd false (fun c=>∃b,ρ b=some c) (VH Wg f Post ρ wl.heap.size n₀') S (Pt Wg l' p' g' s' f) w':=by
 obtain⟨fn,h1,h2,h3,h4,h5⟩:=W.has;have hG:=qU (Wg:=Wg) (f:=f) W cj hl hp hg hs;have bR:FL P' Zd (BX P' Wg f) (AV (Zq P' 156 (Fh l p g s) .normal) [De P']) wl:=⟨ρ,_,_,E,hG,hw,KE⟩;have K:Dq P' (BX P' Wg f) true (VB P' (BX P' Wg f) Xm Post fun _ _=>False):=bt rfl hb (fun _ _ _ x=>x);have hM:CE P' (BX P' Wg f) true (VB P' (BX P' Wg f) Xm Post fun _ _=>False) (AV (Zq P' 156 (Fh l p g s) .normal) [De P']) wl:=
  WU (P:=Zd) T Oe (jV P' Wg f) rfl rfl rfl (fn:=fn) h1 (bw h3) hb (fun _ _ _ x=>x) bR hc
 have fQ:∀(g:Zi) (w:Zc),VB P' (BX P' Wg f) Xm Post (fun _ _=>False) g w->∀(b:Nat) (o:Obj),(Quiet o/\wl.heap[b]?=some o)->w.heap[b]?=some o:=by
  rintro g w (⟨_,_,h⟩|⟨x,_,h⟩) b o ⟨h1,h2⟩
  .exact hq _ w h b o h1 h2
  .exact h.elim
 have AA:∀(b:Nat) (o:Obj),(Quiet o/\wl.heap[b]?=some o)->b<wl.heap.size:=fun b o h=>(Za.1 h.2).1;have H:NY P' Zd (BX P' Wg f) (fun b o=>Quiet o/\wl.heap[b]?=some o) ρ wl.heap.size n₀' (fun c=>∃b,ρ b=some c) S ρ (AV (Zq P' 156 (Fh l p g s) .normal) [De P']) wl (Pt Wg l' p' g' s' f) w':=
  ⟨E,Ren.le_refl _,fun _ _ h=>.inl h,⟨Zj _,aci⟩,.inl hG,hw,fun c ⟨b,KC⟩=>⟨b,KC,(S9 b c KC).imp id fun⟨o,h1,h2⟩=>⟨o,⟨h1,h2⟩,h2⟩⟩,hS⟩
 have hR:=K_ (m':=false) T Oe (jV P' Wg f) K (D:=fun g w=>FL P' Zd (BX P' Wg f) g w\/HJ (BX P' Wg f) g\/Q0 (BX P' Wg f) g) (fun g w t AG w₁ es h hn hs=>FL.out T Oe (jV P' Wg f) rfl h hn hs)
  (J:=fun b o=>Quiet o/\wl.heap[b]?=some o) (fun b o h=>⟨h.1,AA b o h⟩)
  (fun g w hD hz hM b o h=>MY T Oe (jV P' Wg f) K (fun b o h=>h.1) fQ hM hD b o h (Zm (AA b o h) hz))
  (fun σ h w _ hl=>cm σ h w hl) hM (.inl bR) S ρ _ _ H
 refine hR.imp fun F1 h w₁ hx=>?_;rcases hx with⟨σ,gl,G8,B5,HH⟩|⟨σ,gl,G8,t,_,hsr,HH⟩
 .rcases B5 with⟨ha,axX,VI⟩|⟨y,_,hF⟩
  .have ha':(BX P' Wg f).K.seg=true/\gl.callers.length=(BX P' Wg f).lcs.length/\gl.frame.mode=.run/\gl.frame.todo=[]:=ha.elim id fun x=>by cases x.1
   rcases HH.goes with jR|Gj|hsr
   .obtain⟨fr,cs,BC,cs',rfl,rfl,hk⟩:=jR
    obtain⟨e1,e2,hF⟩:=hk.WT ha'.2.1;obtain⟨k1,k2,k3⟩:=hF.Aw rfl;have AP:BC.mode=.run:=(SY hF).1 ha'.2.2.1;have jM:BC.todo=[.code Od]:=by
     obtain⟨k,q1,q2⟩:=hF.todo;have q3:fr.todo=[]:=ha'.2.2.2;rw[q3]at q2;rw[q1,q2.SR];rfl
    have wc:BC.defers=[dcall 157 #[ptr Wg]]:=by
     obtain⟨k,q1,q2⟩:=hF.defers;rw[(hF.part rfl).2.2.1]at q2;rw[q1,q2.SR];rfl
    have K1:BC.roundOf=none:=by
     have:=hF.round;rw[(hF.part rfl).1]at this;cases e:BC.roundOf with
     |none=>rfl
     |some x=>rw[e]at this;exact this.elim
    have G7:BC.fn=156:=by rw[hF.fn,(hF.part rfl).2.2.2];rfl
    have heq:BC=US.at ⟨BC.tmps,[dcall 157 #[ptr Wg]]⟩ [.code Od]:=by
     obtain⟨a1,a2,a3,a4,a5,a6,a7⟩:=BC;dsimp only at AP jM wc K1 G7 k3;subst AP jM wc K1 G7 k3
     rfl
    have anw:AV BC cs'=G (US.at ⟨BC.tmps,[dcall 157 #[ptr Wg]]⟩ [.code Od]) [bot]:=by
     rw[e2, <-heq];rfl
    refine⟨BC.tmps,σ,G8,_,_,anw,k1,?_,VI,hF.tmps.getD 6 rfl,hF.tmps.getD 2 rfl,HH.le,HH.fresh,HH.size.1,HH.world,HH.holds⟩;have:=k2 5 rfl;exact this
   .cases Gj.1
   .obtain⟨qJ,_,_,_,_,_,_,_,G9,_⟩:=hsr
    rw[HH.le.2.2.2,KE]at G9;cases G9
  .exact hF.elim
 .obtain⟨qJ,_,_,_,_,_,_,_,G9,_⟩:=hsr
  rw[HH.le.2.2.2,KE]at G9;cases G9
end
end Go.Proofs.Fit
namespace Go.Proofs.Fit
open Go Go.Conc Go.FO Go.Pair Go.RowKit Go.Conc.Lib Go.ConcR.Gen Go.ConcN.Gen
open Go.ConcN (WgLive)
open Go.ConcR (DC0)
def ah8:(Tryz.f157.name== "runtime.NumGoroutine")=false:=by kernel_rfl
@[go_sem] def ah9 (k:Int)(a:Option Addr)(n c:Nat)(w:Zc):(Zbo 209 #[(0,.int .i64 k),(1,.slice a n c)]).run Zd w=.ok (.agg #[.int .i64 k,.slice a n c]) w:=by
 unfold Zbo;simp[go_sem,ZdI,ZcB]
@[go_sem] def afh (k:Int)(a:Option Addr)(n c:Nat)(w:Zc)(es:Array zc):(Zbo 209 #[(0,.int .i64 k),(1,.slice a n c)]).events Zd w es=es:=by
 unfold Zbo;simp[go_sem,ZdI,ZcB]
def VJ (b:ZT)(a:Act)(ops:Array Oper)(i:Nat)(rest:List Nat)(k:List Item)(cs:List ZT)(v:Ze):
  YZ (G (b.at a (.inRegion ops (i::rest)::k)) cs) v=G (b.at (a.put ((ops[i]?).bind (·.dst)) v) (.inRegion ops rest::k)) cs:=by
 unfold YZ G;rw[Frame.finish_at]
variable {P P':Zp}
variable {ty:Zr}
variable {Wg b Ch f p n:Nat}
variable {Pay:Gu}
variable {S Lk:Nat->Prop}
variable {w w₁ wl:Zc}
variable {v:Ze}
def mG {b:ZT}{a:Act}{ops:Array Oper}{i:Nat}{rest:List Nat}{k:List Item}{cs:List ZT}{z:Ze}{o:Oper}(ho:ops[i]?=some o)(hw:Ym o (yielded ops a.tmps)=true)(hk:b.kind≠ .early)(hr:(ZbE a.eval o).run P w=.ok (.comm #[scase Ch v z] true .send) w)(hl:listed P b.fn a o w= #[])(hp:Pay S v w)
 (hg:∃m,Goes P false (Ai ty Wg S) DC0 (AtR0 P ty Wg S) m (G (b.at (a.put o.dst Zf) (.inRegion ops rest::k)) cs) w):Pair.AtSend P ty Wg Ch Pay S (G (b.at a (.inRegion ops (i::rest)::k)) cs) w:=by
 refine⟨rfl,_,v,z,(stepG_comm ho hw hk hr).trans (by rw[hl]),hp,?_⟩;rw[VJ,ho];exact hg
structure FP (Wg f p Ch:Nat)(k:Int)(S:Nat->Prop)(Q:Zc->Prop)(w:Zc):Prop where
 fb:w.cell? ⟨f,0,none⟩=some (.chan (some Ch))
 pb:w.cell? ⟨p,0,none⟩=some (.int .i64 k)
 sf:S f
 sp:S p
 live:WgLive 206 Wg w
 q:Q w
variable {k:Int}
variable {Q:Zc->Prop}
def FP.rely (hQ:∀w w₁,Q w->Ai 206 Wg S w w₁->Q w₁)(h:FP Wg f p Ch k S Q w)(r:Ai 206 Wg S w w₁):FP Wg f p Ch k S Q w₁:=
 ⟨(zs (r.base.same f h.sf)).trans h.fb,(zs (r.base.same p h.sp)).trans h.pb,h.sf,h.sp,r.live h.live,hQ _ _ h.q r⟩
def jW (h:S b){a:Addr}(ha:a.block=b){s:Bool}:∃a',(⟨.cell a,false,s⟩:zc).loc=.cell a'/\S a'.block/\(⟨.cell a,false,s⟩:zc).write=false:=⟨a,rfl,ha▸h,rfl⟩
def mH (T:Array Ze):ZcD Zd 2 0 (G {US.at ⟨T,[]⟩ []with mode:=.returning} [bot]):=by
 refine QuitsD.ctl (g':=G bot []) rfl (fun w=>?_) ?_
 .simp[G,zd,unwind,doReturn,results,Frame.at,US,baseD,bot,Zdu,Zbd,seen,zW,goexitEntry]
 refine QuitsD.ctl (g':= {G bot []with status:=.finished}) rfl (fun w=>?_) ⟨rfl,rfl⟩;simp[G,zd,unwind,bot,goexitEntry,Frame.catches]
 rfl
def Tg {es:Array zc}(h:∀e∈es,∃a,e.loc=.cell a/\S a.block/\e.write=false):Mq S Lk w w es:=
 ⟨Zj _,fun _ _ _=>rfl,rfl,rfl,rfl,fun e hm=>by
  obtain⟨a,h1,h2,h3⟩:=h e hm;rw[H2];unfold WV;rw[h1];exact⟨h2,fun hw=>by rw[h3]at hw;cases hw⟩⟩
def EO {m:Bool}{R:Zc->Zc->Prop}{D:Zc->Zc->Array zc->Prop}{St aak:Zi->Zc->Prop}(hi:∀g w,St g w->aak g w):∀ {n:Nat} {g:Zi} {w:Zc},Goes P m R D St n g w->Goes P m R D aak n g w:=by
 intro n
 induction n with
 |zero=>intro g w h w₁ hr;exact hi _ _ (h w₁ hr)
 |succ n ih=>
  intro g w h;rcases h with h|⟨hs,h⟩
  .exact .inl fun w₁ hr=>hi _ _ (h w₁ hr)
  .refine .inr ⟨hs,fun w₁ hr=>?_⟩
   have:=h w₁ hr;cases hx:zd P m g w₁ with
   |go g' w' es=>rw[hx,goes_go]at this;rw[goes_go];exact⟨this.1,ih this.2⟩
   |_=>rw[hx]at this;exact this.elim
section
variable {P:Zp}{m:Bool}{ty:Zr}{Wg:Nat}{Lk S:Nat->Prop}{Stop:Ci}{g:Zi}{w:Zc}
def Bf.wh (h:Goes P m (Ai ty Wg S) DC0 (fun g w=>Bf P m ty Wg Lk Stop S g w) n g w):Bf P m ty Wg Lk Stop S g w:=by
 have h1:Bf P m ty Wg Lk (fun S' g w=>S'=S/\Bf P m ty Wg Lk Stop S' g w) S g w:=Bf.Hg (EO (fun _ _ h=>⟨rfl,h⟩) h);refine h1.bind fun S' g w B5=>?_;exact(B5 w (Ai.refl w)).2
def Bf.R8 (hs:g.status=.running)
 (h:∀w₂,Ai ty Wg S w w₂->(zd P m g w₂).goes fun AG w₁ es=>Mq S Lk w₂ w₁ es/\Bf P m ty Wg Lk Stop (Ip S w₂ w₁) AG w₁):Bf P m ty Wg Lk Stop S g w:=by
 refine Bf.bB hs fun w₂ hr=>?_;have:=h w₂ hr;cases hx:zd P m g w₂ with
 |go AG w₁ es=>
  rw[hx,goes_go]at this;exact⟨_,_,_,rfl,this⟩
 |_=>rw[hx]at this;exact this.elim
end
def mI {va:Option Addr}{vn vc:Nat}{a0 a1 a3 a4 a7 a8 a9 a10 a11 a12 a13 a14 a15 a16 a17 a18 a19 a20 a21 a22 a23 a24 a25 a26 a27 a28 a29 a30 a31 a32 a33 a34 a35 a36 a37 a38 a39:Ze}(hQ:∀w w₁,Q w->Ai 206 Wg S w w₁->Q w₁)(w:Zc)(hF:FP Wg f p Ch k S Q w)
 (anx:∀w₂,Q w₂->Pay S (.agg #[.int .i64 k,.slice va vn vc]) w₂):
  Bf Zd false 206 Wg Lk (AtSend Zd 206 Wg Ch Pay) S (G (US.at ⟨#[a0,a1,ptr p,a3,a4,ptr f,(.slice va vn vc),a7,a8,a9,a10,a11,a12,a13,a14,a15,a16,a17,a18,a19,a20,a21,a22,a23,a24,a25,a26,a27,a28,a29,a30,a31,a32,a33,a34,a35,a36,a37,a38,a39],[dcall 157 #[ptr Wg]]⟩ [.code Od]) [bot]) w:=by
 simp only[Od,Gk,Zbd,Zx,uC,ptr];refine Bf.wh (n:=2) ?_
 u_reg (FP.rely hQ) hF
 refine Z2 fun w₁ BV=>?_;replace hF:=FP.rely hQ hF BV;clear BV;refine Bf.R8 rfl fun w₂ Cw=>?_;replace hF:=FP.rely hQ hF Cw;clear Cw;have hx:=hF.fb;refine zF rfl rfl (by decide) (fun K hK=>?_)
 go_simp
 refine hK _ _ ⟨Tg fun e he=>?_,?_⟩
 .have hm:=zX he
  simp[go_sem, *]at hm;subst hm;exact jW hF.sf rfl
 clear hK K hx;rw[H2];refine Bf.R8 rfl fun D9 FJ=>?_;replace hF:=FP.rely hQ hF FJ;clear FJ;have hx:=hF.pb;refine zF rfl rfl (by decide) (fun K hK=>?_)
 go_simp
 refine hK _ _ ⟨Tg fun e he=>?_,?_⟩
 .have hm:=zX he
  simp[go_sem, *]at hm;subst hm;exact jW hF.sp rfl
 clear hK K hx;rw[H2];refine Bf.Hg (n:=20) ?_
 u_op (FP.rely hQ) hF
 u_op (FP.rely hQ) hF
 refine Z2 fun w₁ BV=>?_;replace hF:=FP.rely hQ hF BV;clear BV;have Sy:∀(a:Act) (o:Oper) (ch v:ZbX),o.op=.send ch v->a.eval ch=.chan (some Ch)->listed Zd US.fn a o w₁= #[]:=by
  intro a o ch v ho qN;unfold listed ZbE;simp[go_sem,ho,seen_none]
 refine mG (v:=.agg #[.int .i64 k,.slice va vn vc]) (z:=.tuple #[]) rfl rfl (by k_ne) (by simp[ZbE,scase,ZbS]) (Sy _ _ _ _ rfl rfl) (anx _ hF.q) ⟨46,?_⟩;have hK:=hF.live;clear hF
 walk_nrm
 u_c Zh Ag hK
 u_c stepG_end Ag hK
 g_unwB Ag hK Tryz.func157 ah8 Tryz.f157
 have hA:= @ah4 Tryz.link Zd Tryz.VG Wg S;simp only[body_done,doneFn,Zx]at hA;exact hA rfl (mH _) _ hK
end Go.Proofs.Fit
namespace Go.Proofs.Fit
open Go Go.Conc Go.FO Go.Pair Go.RowKit
open Go.ConcN (WgLive)
def ahE (t:Array Ze)(h:t.size=40):∃a0 a1 a2 a3 a4 a5 a6 a7 a8 a9 a10 a11 a12 a13 a14 a15 a16 a17 a18 a19 a20 a21 a22 a23 a24 a25 a26 a27 a28 a29 a30 a31 a32 a33 a34 a35 a36 a37 a38 a39,t= #[a0,a1,a2,a3,a4,a5,a6,a7,a8,a9,a10,a11,a12,a13,a14,a15,a16,a17,a18,a19,a20,a21,a22,a23,a24,a25,a26,a27,a28,a29,a30,a31,a32,a33,a34,a35,a36,a37,a38,a39]:=by
 obtain⟨l⟩:=t;replace h:l.length=40:=h;obtain _|⟨a0,l⟩:=l
 .cases h
 replace h:=ZH h;obtain _|⟨a1,l⟩:=l
 .cases h
 replace h:=ZH h;obtain _|⟨a2,l⟩:=l
 .cases h
 replace h:=ZH h;obtain _|⟨a3,l⟩:=l
 .cases h
 replace h:=ZH h;obtain _|⟨a4,l⟩:=l
 .cases h
 replace h:=ZH h;obtain _|⟨a5,l⟩:=l
 .cases h
 replace h:=ZH h;obtain _|⟨a6,l⟩:=l
 .cases h
 replace h:=ZH h;obtain _|⟨a7,l⟩:=l
 .cases h
 replace h:=ZH h;obtain _|⟨a8,l⟩:=l
 .cases h
 replace h:=ZH h;obtain _|⟨a9,l⟩:=l
 .cases h
 replace h:=ZH h;obtain _|⟨a10,l⟩:=l
 .cases h
 replace h:=ZH h;obtain _|⟨a11,l⟩:=l
 .cases h
 replace h:=ZH h;obtain _|⟨a12,l⟩:=l
 .cases h
 replace h:=ZH h;obtain _|⟨a13,l⟩:=l
 .cases h
 replace h:=ZH h;obtain _|⟨a14,l⟩:=l
 .cases h
 replace h:=ZH h;obtain _|⟨a15,l⟩:=l
 .cases h
 replace h:=ZH h;obtain _|⟨a16,l⟩:=l
 .cases h
 replace h:=ZH h;obtain _|⟨a17,l⟩:=l
 .cases h
 replace h:=ZH h;obtain _|⟨a18,l⟩:=l
 .cases h
 replace h:=ZH h;obtain _|⟨a19,l⟩:=l
 .cases h
 replace h:=ZH h;obtain _|⟨a20,l⟩:=l
 .cases h
 replace h:=ZH h;obtain _|⟨a21,l⟩:=l
 .cases h
 replace h:=ZH h;obtain _|⟨a22,l⟩:=l
 .cases h
 replace h:=ZH h;obtain _|⟨a23,l⟩:=l
 .cases h
 replace h:=ZH h;obtain _|⟨a24,l⟩:=l
 .cases h
 replace h:=ZH h;obtain _|⟨a25,l⟩:=l
 .cases h
 replace h:=ZH h;obtain _|⟨a26,l⟩:=l
 .cases h
 replace h:=ZH h;obtain _|⟨a27,l⟩:=l
 .cases h
 replace h:=ZH h;obtain _|⟨a28,l⟩:=l
 .cases h
 replace h:=ZH h;obtain _|⟨a29,l⟩:=l
 .cases h
 replace h:=ZH h;obtain _|⟨a30,l⟩:=l
 .cases h
 replace h:=ZH h;obtain _|⟨a31,l⟩:=l
 .cases h
 replace h:=ZH h;obtain _|⟨a32,l⟩:=l
 .cases h
 replace h:=ZH h;obtain _|⟨a33,l⟩:=l
 .cases h
 replace h:=ZH h;obtain _|⟨a34,l⟩:=l
 .cases h
 replace h:=ZH h;obtain _|⟨a35,l⟩:=l
 .cases h
 replace h:=ZH h;obtain _|⟨a36,l⟩:=l
 .cases h
 replace h:=ZH h;obtain _|⟨a37,l⟩:=l
 .cases h
 replace h:=ZH h;obtain _|⟨a38,l⟩:=l
 .cases h
 replace h:=ZH h;obtain _|⟨a39,l⟩:=l
 .cases h
 replace h:=ZH h;obtain _|⟨a,l⟩:=l
 .exact⟨_,_,_,_,_,_,_,_,_,_,_,_,_,_,_,_,_,_,_,_,_,_,_,_,_,_,_,_,_,_,_,_,_,_,_,_,_,_,_,_,rfl⟩
 .cases h
def mJ (Post:Ze->Zc->Prop)(ρ₀:Ren)(n₀ n₀':Nat)(k:Int):Gu:=fun S v w=>
 ∃σ wl v6 v2 v6',v=.agg #[.int .i64 k,v6']/\ρ₀.le σ/\(∀b c,σ b=some c->ρ₀ b=some c\/(n₀<=b/\n₀'<=c))/\n₀<=wl.heap.size/\WR σ wl w/\VR σ v6 v6'/\Post (.tuple #[v6,v2]) wl/\∀b c,σ b=some c->S c
variable {Post:Ze->Zc->Prop}
variable {k:Int}
variable {S Lk:Nat->Prop}
variable {v:Ze}
variable {w w₁ wl:Zc}
def mJ.rely {ρ₀:Ren}{n₀ n₀':Nat}(h:mJ Post ρ₀ n₀ n₀' k S v w)(r:D_ S w w₁):mJ Post ρ₀ n₀ n₀' k S v w₁:=by
 obtain⟨σ,wl,v6,v2,v6',h1,h2,h3,h4,h5,h6,h7,h8⟩:=h;refine⟨σ,wl,v6,v2,v6',h1,h2,h3,h4,(h5.rely (S:=fun c=>∃b,σ b=some c) (fun c=>Iff.rfl) ⟨fun c ⟨b,hb⟩=>r.same c (h8 b c hb),r.size,r.os⟩),h6,h7,h8⟩
section
variable {P':Zp}{ρ:Ren}{Wg Ch f l p g s l' p' g' s':Nat}{T₀:Nat->Prop}
def worker (T:Twins P' Zd)(E:Env P' Zd ρ)(KE:ρ.sp=fun _=>false)(W:R6 P')(cj:Bi Zd ρ.ok M5 true Ju=true)
 (hl:ρ l=some l') (hp:ρ p=some p') (hg:ρ g=some g') (hs:ρ s=some s') {w₀:Zc} (hw:WR ρ wl w₀) (hb:Dk Post)
 (hc:∀t,Calls P' 156 (Fh l p g s) (tp wl t) (jL Post fun _ _=>False))
 (hq:∀(v:Ze) (w:Zc),Post v w->∀(b:Nat) (o:Obj),Quiet o->wl.heap[b]?=some o->w.heap[b]?=some o)
 (ahG:∀v6 v2 w,Post (.tuple #[v6,v2]) w->v2=ptr p/\∃a n c,v6=.slice a n c)
 (S9:∀b c,ρ b=some c->CF wl b\/∃o,Quiet o/\wl.heap[b]?=some o) (hT:∀b c,ρ b=some c->T₀ c) (AA:∀b,T₀ b->b<w₀.heap.size)
 (hk:w₀.cell? ⟨p',0,none⟩=some (.int .i64 k)) (hf:w₀.cell? ⟨f,0,none⟩=some (.chan (some Ch))) (hfT:T₀ f)
 (hWg:¬T₀ Wg) (acj:Wg<w₀.heap.size) (Li:WgLive 206 Wg w₀):
  Bf Zd false 206 Wg T₀ (Pair.AtSend Zd 206 Wg Ch (mJ Post ρ wl.heap.size w₀.heap.size k)) T₀ (born Zd (call156 Wg l' p' g' s' f)) w₀:=by
 have ahH:Kept 206 Wg T₀ w₀ T₀ w₀:=⟨fun b hb=>⟨hb,AA b hb⟩,D_.refl _ _,hWg,acj,Li⟩;have hA:Bf Zd false 206 Wg T₀ (fun S h _=>S=T₀/\h=Pt Wg l' p' g' s' f) T₀ (born Zd (call156 Wg l' p' g' s' f)) w₀:=
  Bf.Hg (n:=12) (EO (fun _ _ h=>⟨rfl,h⟩) (cg Wg l' p' g' s' f w₀))
 refine(hA.Aw ahH).bind fun S h w B5=>?_;obtain⟨⟨rfl,rfl⟩,hK⟩:=B5 w (Ai.refl w);clear hA;have hrel:D_ (fun c=>∃b,ρ b=some c) w₀ w:=⟨fun c ⟨b,hb⟩=>hK.rely.same c (hT b c hb),hK.rely.size,hK.rely.os⟩;have Oc:=hw.rely (fun c=>Iff.rfl) hrel;have hR:=qV (Wg:=Wg) (f:=f) (S:=fun c=>∃b,ρ b=some c) (n₀':=w₀.heap.size) T E KE W cj hl hp hg hs Oc hb (fun t=>hc t) (fun v w hp b o h1 h2=>hq v w hp b o h1 h2) hK.rely.size (fun b c KC=>S9 b c KC) (fun c=>Iff.rfl);have Og:=(Bf.of_run (ty:=206) (Wg:=Wg) hR).ah5 (Stop₂:=fun S' h w=>∃F1,S'=(fun b=>F1 b\/S b)/\VH Wg f Post ρ wl.heap.size w₀.heap.size F1 h w) AA (fun c ⟨b,KC⟩=>hT b c KC) hK.rely.size (fun c hc=>.inl hc) (fun c hc=>hc) (fun F1 h w _ hx=>⟨F1,rfl,hx⟩);have hSS:(fun b=>(∃b',ρ b'=some b)\/S b)=S:=by
  funext c
  apply propext;exact⟨fun x=>x.elim (fun⟨b,KC⟩=>hT b c KC) id,.inr⟩
 rw[hSS]at Og;refine(Og.Aw (w₀:=w₀) hK).bind fun S' h w₁ B5=>?_;obtain⟨⟨F1,wa,t',σ,G8,v6,v2,rfl,ht,ht5,VI,fX,eF,hle,uv,Ek,Ru,hho⟩,cr⟩:=B5 w₁ (Ai.refl w₁);obtain⟨rfl,va,vn,vc,rfl⟩:=ahG _ _ _ VI;obtain⟨a0,a1,a2,a3,a4,a5,a6,a7,a8,a9,a10,a11,a12,a13,a14,a15,a16,a17,a18,a19,a20,a21,a22,a23,a24,a25,a26,a27,a28,a29,a30,a31,a32,a33,a34,a35,a36,a37,a38,a39,rfl⟩:=ahE t' ht;have e5:a5=ptr f:=ht5;have e2:a2=ptr p':=by
  have eF:VR σ (ptr p) a2:=eF;cases eF with
  | @pointer _ q h=>
   cases q with
   |none=>exact h.elim
   |some q=>
    obtain⟨h1,h2,h3⟩:=h;obtain⟨qb,qo,qs⟩:=q;have:=hle.1 _ _ hp;dsimp only at h1 h2 h3;rw[this]at h1;cases h1;subst h2 h3
    rfl
 have e6:∃fY,a6=.slice fY vn vc:=by
  have fX:VR σ (.slice va vn vc) a6:=fX;cases fX with
  |slice n c h=>exact⟨_,rfl⟩
 obtain⟨fY,e6⟩:=e6;subst e5 e2 e6;have ahI:mJ Post ρ wl.heap.size w₀.heap.size k S' (.agg #[.int .i64 k,.slice fY vn vc]) w₁:=
  ⟨σ,G8,_,_,_,rfl,hle,uv,Ek,Ru,fX,VI,fun b c KC=>by rw[wa];exact .inl ((hho c).2 ⟨b,KC⟩)⟩
 refine mI (Q:=fun w=>mJ Post ρ wl.heap.size w₀.heap.size k S' (.agg #[.int .i64 k,.slice fY vn vc]) w) (fun _ _ h r=>h.rely r.base) w₁ ⟨?_,?_,(cr.sub f hfT).1,(cr.sub p' (hT p p' hp)).1,cr.live,ahI⟩ fun w₂ h=>h
 .exact(zs (cr.rely.same f hfT)).trans hf
 .exact(zs (cr.rely.same p' (hT p p' hp))).trans hk
end
end Go.Proofs.Fit
namespace Go.Proofs.Fit
open Go Go.Conc Go.FO Go.Pair Go.RowKit
def Xn (i:Nat):Bool:=decide (i<194)&& !([0,1,2,146,147,148,149,155,156,157,158,163,164,165,169,170,171,172,173,174,175,176,177,178,179,180,181,182,183,184,185,186,188,189,190,191,192,193].contains i)
def aF (i:Nat):Bool:=i==91||i==104
def cx (i:Nat):Bool:=[136,137,153,154].contains i
def cy (i:Nat):Bool:=[106,113,126,136,137,153,154,159,161,162,187].contains i
def Oh:Qd:= {val:=cx,NI:=fun f=>Xn f&& !aF f,dir:=fun f n=>Xn f&&(if f=91 then n==2 else if f=104 then n==3 else true),low:=Tryz.prog.globals.size}
def okW:Qd:= {val:=cx,NI:=cy,dir:=fun f _=>cy f,low:=Tryz.prog.globals.size}
def L6 (ok:Qd)(f:Option Func):Bool:=match f with
 |none=>false
 |some fn=> !(fn.name== "runtime.NumGoroutine")&&match fn.body with
  |none=>false
  |some c=>(!fn.norace)&&Bi Zd ok B3 false c
def qW (f:Option Func):Bool:=match f with
 |none=>false
 |some fn=>fn.body.isSome&& !(fn.name== "runtime.NumGoroutine")
def wi:(ZL 194).all (fun f=> !(Xn f&& !aF f)||L6 Oh Tryz.prog.funcs[f]?)=true:=by kernel_rfl
def ahJ:(ZL 194).all (fun f=> !cy f||L6 okW Tryz.prog.funcs[f]?)=true:=by kernel_rfl
def ack:Bi Zd okW M5 true Ju=true:=by kernel_rfl
def aal:Tryz.prog.types.all (fun i=>i.zero.all (Qm 8))=true:=by kernel_rfl
def aam:(Tryz.prog.info? 0).all (fun i=>(i.methods.find? (fun m=>m.name== "")).isNone)=true:=by kernel_rfl
structure F3 (P':Zp):Prop where
 tables:P'.toTables=Tryz.prog.toTables
 same:∀f,Xn f=true->aF f=false->P'.funcs[f]?=Tryz.prog.funcs[f]?
 met:∀f,aF f=true->∃fn,P'.funcs[f]?=some fn/\fn.body.isSome=true/\(fn.name== "runtime.NumGoroutine")=false
 lW:R6 P'
variable {Wg b Ch f p n:Nat}
def fZ (h:Xn f=true):f<194:=by
 unfold Xn at h;rw[ZI]at h;exact of_decide_eq_true h.1
def Oi (h:cx f=true):Xn f=true/\aF f=false/\cy f=true:=by
 have:f=136\/f=137\/f=153\/f=154:=by simpa[cx]using h
 rcases this with rfl|rfl|rfl|rfl<;>decide
def jX (h:cy f=true):Xn f=true/\aF f=false:=by
 have:f=106\/f=113\/f=126\/f=136\/f=137\/f=153\/f=154\/f=159\/f=161\/f=162\/f=187:=by simpa[cy]using h
 rcases this with rfl|rfl|rfl|rfl|rfl|rfl|rfl|rfl|rfl|rfl|rfl<;>decide
def qX (hs:aF f=true):∃fn,Tryz.prog.funcs[f]?=some fn/\fn.body.isSome=true/\(fn.name== "runtime.NumGoroutine")=false:=by
 have hf:f=91\/f=104:=by simpa[aF]using hs
 have:qW Tryz.prog.funcs[f]?=true:=by
  rcases hf with rfl|rfl<;>kernel_rfl
 unfold qW at this;cases e:Tryz.prog.funcs[f]? with
 |none=>rw[e]at this;cases this
 |some fn=>
  rw[e]at this;simp only[ZI,ZcI]at this;exact⟨fn,rfl,this.1,this.2⟩
def Qs {ok:Qd}(hc:L6 ok Tryz.prog.funcs[f]?=true):∃fn code,Tryz.prog.funcs[f]?=some fn/\fn.body=some code/\Bi Zd ok B3 false code=true/\(fn.name== "runtime.NumGoroutine")=false/\fn.norace=false:=by
 unfold L6 at hc;cases e:Tryz.prog.funcs[f]? with
 |none=>rw[e]at hc;cases hc
 |some fn=>
  rw[e]at hc;cases eb:fn.body with
  |none=>simp[eb]at hc
  |some c=>
   simp only[eb,ZI,ZcI]at hc;exact⟨fn,c,rfl,eb,hc.2.2,hc.1,hc.2.1⟩
def acm (h:Xn f=true)(hs:aF f=false):L6 Oh Tryz.prog.funcs[f]?=true:=by
 have:=zt.1 wi f (List.mem_range.2 (fZ h));rw[h,hs]at this;simpa using this
def acn (h:cy f=true):L6 okW Tryz.prog.funcs[f]?=true:=by
 have:=zt.1 ahJ f (List.mem_range.2 (fZ (jX h).1));rw[h]at this;simpa using this
def wj (h:Oh.dir f n=true):Xn f=true:=by
 have h':(Xn f&&(if f=91 then n==2 else if f=104 then n==3 else true))=true:=h;rw[ZI]at h';exact h'.1
def Jv:Oh.NI f=true↔Xn f=true/\aF f=false:=by
 show(Xn f&& !aF f)=true↔_;rw[ZI,ZcI]
variable {P P':Zp}
def F3.follow (L:F3 P'):Pd P' Zd Oh aF where
 val f h:=⟨Jv.2 ⟨(Oi h).1,(Oi h).2.1⟩,(Oi h).2.1⟩
 dir f n h:=by
  cases e:aF f with
  |true=>exact .inr rfl
  |false=>exact .inl ⟨Jv.2 ⟨wj h,e⟩,rfl⟩
 met f n _ hs:=by
  obtain⟨fn,h1,h2,h3⟩:=L.met f hs;obtain⟨Rt,k1,k2,k3⟩:=qX hs;exact⟨fn,Rt,h1,k1,h2,k2,h3,k3⟩
 has f h hs:=by
  have h':=Jv.1 h;obtain⟨fn,code,h1,h2,h3,h4,h5⟩:=Qs (acm h'.1 h'.2);exact⟨fn,code,(L.same f h'.1 h'.2).trans h1,h1,h2,h3,h4,h5⟩
def F3.wm (L:F3 P'):Pd P' Zd okW (fun _=>false) where
 val f h:=⟨(Oi h).2.2,rfl⟩
 dir f n h:=.inl ⟨h,rfl⟩
 met f n _ hs:=by cases hs
 has f h _:=by
  have h':=jX h;obtain⟨fn,code,h1,h2,h3,h4,h5⟩:=Qs (acn h);exact⟨fn,code,(L.same f h'.1 h'.2).trans h1,h1,h2,h3,h4,h5⟩
def F3.twins (L:F3 P'):Twins P' Zd:=bM L.tables aal aam
variable {ρ:Ren}
def F3.anA (L:F3 P')(h1:ρ.ok=Oh)(h2:ρ.good=Bi Zd Oh B3 false)(h3:ρ.sp=aF):Env P' Zd ρ:=
 ⟨by unfold Base;rw[h1];rfl,by rw[h1];exact h2,by rw[h1,h3];exact L.follow⟩
def F3.ahK (L:F3 P')(h1:ρ.ok=okW)(h2:ρ.good=Bi Zd okW B3 false)(h3:ρ.sp=fun _=>false):Env P' Zd ρ:=
 ⟨by unfold Base;rw[h1];rfl,by rw[h1];exact h2,by rw[h1,h3];exact L.wm⟩
def M6:Func:= {Zbd with nfree:=7,body:=some Ju,results:= #[.tmp 6,.tmp 2]}
def CY (P:Zp)(Rb KH M7 M6:Func):Zp:=
 {P with funcs:=(((P.funcs.setIfInBounds 91 Rb).setIfInBounds 104 KH).setIfInBounds 155 M7).setIfInBounds 156 M6}
section
variable {P:Zp}{Rb KH M7 M6:Func}
def Xo (h1:f≠91)(h2:f≠104)(h3:f≠155)(h4:f≠156):(CY P Rb KH M7 M6).funcs[f]?=P.funcs[f]? :=by
 unfold CY;simp only;rw[Zk (Zbq h4),Zk (Zbq h3),Zk (Zbq h2),Zk (Zbq h1)]
def Oj (h:91<P.funcs.size):(CY P Rb KH M7 M6).funcs[91]?=some Rb:=by
 unfold CY;simp only;rw[Zk (by decide),Zk (by decide),Zk (by decide),Z5 h]
def MB (h:104<P.funcs.size):(CY P Rb KH M7 M6).funcs[104]?=some KH:=by
 unfold CY;simp only;rw[Zk (by decide),Zk (by decide),Z5 (by simpa using h)]
def UT (h:155<P.funcs.size):(CY P Rb KH M7 M6).funcs[155]?=some M7:=by
 unfold CY;simp only;rw[Zk (by decide),Z5 (by simpa using h)]
def MC (h:156<P.funcs.size):(CY P Rb KH M7 M6).funcs[156]?=some M6:=by
 unfold CY;simp only;rw[Z5 (by simpa using h)]
def Pu:(CY P Rb KH M7 M6).toTables=P.toTables:=rfl
end
def F4:Tryz.prog.funcs.size=231:=by kernel_rfl
def wu:Xn 155=false:=by decide
def wv:Xn 156=false:=by decide
def cz {Rb KH M7:Func}(h91:Rb.body.isSome=true/\(Rb.name== "runtime.NumGoroutine")=false)(ahL:KH.body.isSome=true/\(KH.name== "runtime.NumGoroutine")=false):
  F3 (CY Zd Rb KH M7 M6) where
 tables:=Pu
 same f h hs:=by
  have D5:f≠91/\f≠104:=by
   unfold aF at hs;simpa using hs
  refine Xo D5.1 D5.2 ?_ ?_
  .rintro rfl;rw[wu]at h;cases h
  .rintro rfl;rw[wv]at h;cases h
 met f hs:=by
  have hf:f=91\/f=104:=by simpa[aF]using hs
  rcases hf with rfl|rfl
  .exact⟨Rb,Oj (by rw[F4];decide),h91.1,h91.2⟩
  .exact⟨KH,MB (by rw[F4];decide),ahL.1,ahL.2⟩
 lW:=⟨M6,MC (by rw[F4];decide),rfl,rfl,rfl,rfl⟩
def M7:Func:=
 {name:= "fitting.all",origin:= "",params:= #[112,27,23],resultTypes:= #[27],nfree:=0,ntmps:=13,results:= #[.tmp 3],
  body:=some (
   (Yb 0 #[{dst:=some 3,op:=.assign (.const (.slice none 0 0)),type:=27,pos:= "",after:= #[],guard:=none}, {dst:=some 4,op:=.call {callee:=.builtin .len,args:= #[.tmp 1],argTypes:= #[27]},type:=3,pos:= "",after:= #[],guard:=none}, {dst:=some 5,op:=.move (.const (.int .i64 0)),type:=3,pos:= "",after:= #[],guard:=none}] false).seq
   ((Code.block 0 (Code.loop
    ((Yb 1 #[{dst:=some 6,op:=.binOp .lss 3 (.tmp 5) (.tmp 4) 3,type:=0,pos:= "",after:= #[],guard:=none}] false).seq
    ((Zcx (.tmp 6) .skip (.exit 0)).seq
    ((Code.block 1
     ((Yb 2 #[{dst:=some 7,op:=.indexAddr 27 (.tmp 1) (.tmp 5),type:=0,pos:= "",after:= #[],guard:=none}, {dst:=some 8,op:=.load 22 (.tmp 7),type:=22,pos:= "",after:= #[],guard:=none}] false).seq
     ((Yb 3 #[{dst:=some 9,op:=.call {callee:=.value (.func 126),args:= #[.tmp 0,.tmp 8,.tmp 2],argTypes:= #[112,22,23]},type:=4,pos:= "",after:= #[],guard:=none}] false).seq
     (Zcx (.tmp 9)
      (Yb 4 #[{dst:=some 10,op:=.buildSlice 27 1 #[(0,.tmp 8)],type:=27,pos:= "",after:= #[],guard:=none}, {dst:=some 11,op:=.call {callee:=.builtin .append,args:= #[.tmp 3,.tmp 10],argTypes:= #[27,27]},type:=27,pos:= "",after:= #[],guard:=none}, {dst:=some 3,op:=.assign (.tmp 11),type:=27,pos:= "",after:= #[],guard:=none}] false)
      .skip)))).seq
    (Yb 5 #[{dst:=some 12,op:=.binOp .add 3 (.tmp 5) (.const (.int .i64 1)) 3,type:=3,pos:= "",after:= #[],guard:=none}, {dst:=some 5,op:=.move (.tmp 12),type:=3,pos:= "",after:= #[],guard:=none}] false)))))).seq
   .ret)),
  norace:=false,file:= "",endLine:=0,tmpNames:= #[]}
def KH:Func:=
 {name:= "fitting.alone",origin:= "",params:= #[112,27,23],resultTypes:= #[27],nfree:=0,ntmps:=14,results:= #[.tmp 6],
  body:=some (
   (Yb 0 #[{dst:=some 6,op:=.assign (.const (.slice none 0 0)),type:=27,pos:= "",after:= #[],guard:=none}, {dst:=some 7,op:=.buildSlice 22 1 #[],type:=22,pos:= "",after:= #[],guard:=none}, {dst:=some 8,op:=.call {callee:=.builtin .append,args:= #[(.const (.slice none 0 0)),.tmp 7],argTypes:= #[22,22]},type:=22,pos:= "",after:= #[],guard:=none}, {dst:=some 9,op:=.call {callee:=.builtin .cap,args:= #[.tmp 8],argTypes:= #[22]},type:=3,pos:= "",after:= #[],guard:=none}, {dst:=some 10,op:=.binOp .eql 3 (.tmp 9) (.const (.int .i64 1)) 3,type:=4,pos:= "",after:= #[],guard:=none}] false).seq
   ((Zcx (.tmp 10) (Yb 1 #[{dst:=some 11,op:=.makeFunc (.func 156) #[] #[.tmp 0,.tmp 1,.tmp 2,.tmp 7],type:=1,pos:= "",after:= #[],guard:=none}, {dst:=some 12,op:=.makeInterface 1 (.tmp 11),type:=20,pos:= "",after:= #[],guard:=none}, {dst:=none,op:=.panic (.tmp 12),type:=0,pos:= "",after:= #[],guard:=none}] false) .skip).seq
   ((Yb 2 #[{dst:=some 11,op:=.call {callee:=.value (.func 155),args:= #[.tmp 0,.tmp 1,.tmp 2],argTypes:= #[112,27,23]},type:=27,pos:= "",after:= #[],guard:=none}] false).seq
   ((Yb 3 #[{dst:=some 12,op:=.call {callee:=.builtin .append,args:= #[(.const (.slice none 0 0)),.tmp 11],argTypes:= #[27,27]},type:=27,pos:= "",after:= #[],guard:=none}, {dst:=some 6,op:=.assign (.tmp 12),type:=27,pos:= "",after:= #[],guard:=none}] false).seq
   .ret)))),
  norace:=false,file:= "",endLine:=0,tmpNames:= #[]}
def qY (Rb:Func):Zp:=CY Zd Rb KH M7 M6
def Xp {Rb:Func}(h:Rb.body.isSome=true/\(Rb.name== "runtime.NumGoroutine")=false):F3 (qY Rb):=cz h ⟨rfl,by decide⟩
def Rb:Func:=
 {name:= "errors.As.alone",origin:= "",params:= #[117,20],resultTypes:= #[4],nfree:=0,ntmps:=14,results:= #[.tmp 4],
  body:=some (
   (Yb 0 #[{dst:=some 4,op:=.assign (.const (.bool false)),type:=4,pos:= "",after:= #[],guard:=none}, {dst:=some 7,op:=.buildSlice 22 1 #[],type:=22,pos:= "",after:= #[],guard:=none}, {dst:=some 8,op:=.call {callee:=.builtin .append,args:= #[(.const (.slice none 0 0)),.tmp 7],argTypes:= #[22,22]},type:=22,pos:= "",after:= #[],guard:=none}, {dst:=some 9,op:=.call {callee:=.builtin .cap,args:= #[.tmp 8],argTypes:= #[22]},type:=3,pos:= "",after:= #[],guard:=none}, {dst:=some 10,op:=.binOp .eql 3 (.tmp 9) (.const (.int .i64 1)) 3,type:=4,pos:= "",after:= #[],guard:=none}] false).seq
   ((Zcx (.tmp 10) (Yb 1 #[{dst:=some 11,op:=.makeFunc (.func 156) #[] #[.tmp 0,.tmp 1,.tmp 7],type:=1,pos:= "",after:= #[],guard:=none}, {dst:=some 12,op:=.makeInterface 1 (.tmp 11),type:=20,pos:= "",after:= #[],guard:=none}, {dst:=none,op:=.panic (.tmp 12),type:=0,pos:= "",after:= #[],guard:=none}] false) .skip).seq
   ((Yb 2 #[{dst:=some 6,op:=.binOp .eql 117 (.tmp 0) (.const .nilIface) 117,type:=4,pos:= "",after:= #[],guard:=none}] false).seq
   ((Zcx (.tmp 6) .ret .skip).seq
   ((Yb 3 #[{dst:=some 13,op:=.typeAssert (.tmp 0) 117 121 false,type:=121,pos:= "",after:= #[],guard:=none}, {dst:=some 5,op:=.typeAssert (.tmp 1) 20 123 false,type:=123,pos:= "",after:= #[],guard:=none}, {dst:=none,op:=.store 121 (.tmp 5) (.tmp 13),type:=0,pos:= "",after:= #[],guard:=none}, {dst:=some 4,op:=.assign (.const (.bool true)),type:=4,pos:= "",after:= #[],guard:=none}] false).seq
   .ret))))),
  norace:=false,file:= "",endLine:=0,tmpNames:= #[]}
def AK:F3 (qY Rb):=Xp ⟨rfl,by decide⟩
end Go.Proofs.Fit
