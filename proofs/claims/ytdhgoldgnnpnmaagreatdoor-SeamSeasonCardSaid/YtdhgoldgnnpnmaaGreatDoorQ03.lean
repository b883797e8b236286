/- Part of a proof. -/
import Derived.Test.YtdhgoldgnnpnmaaGreatDoorQ02
import Derived.Test.YtdhgoldgnnpnmaaGreatDoorProg
import Derived.Conc.WgWords
set_option maxRecDepth 100000
set_option maxHeartbeats 6400000
noncomputable section
set_option linter.all false
open Array renaming replicate->Yu,getElem?_append_left->zr,getElem?_append_right->Zan,getD_eq_getD_getElem?->Yp,getElem?_eq_some_iff->Za,getElem?_setIfInBounds_ne->Zk,getElem?_setIfInBounds_self_of_lt->ZV
open Bool renaming and_eq_true->ZF,not_eq_true'->ZcF
open Go renaming Frame->ZM,Value->Zf,undef->Ze,World->Zb,stepG->za,callFunc->Zz,TypeId->Zs,Goroutine->Zi,Program->Zo,Event->Z9,execOp->Zby,Operand->Zbv
open Go.Act renaming eval->ZbM
open Go.Code renaming region->zU,cond->Zcs
open Go.Conc renaming stepG_seq->Zn,stepG_region_end->Zg,served->YU,QuitsD->ZcA,goes_oper_k->zx,mem_listed->zO
open Go.Conc.Goes renaming stop->ZT
open Go.Frame renaming enter->Zq
open Go.GStep renaming after->zM
open Go.Instr renaming build->Zbg
open Go.Proofs.Tryz renaming prog->Zc,func57->Zdu,f57->Za7,runUnderlying129->ZdH,zeroValue129->Zcy
open Go.Region renaming wanted->Yf
open Go.Value renaming slice->Zy
open Go.World renaming cell?_of_block->zn
open List renaming range->Yr,all_eq_true->Zdm
open Nat renaming le_refl->Zj,lt_of_lt_of_le->Zl
open Nat.succ renaming inj->ZE
open Ne renaming symm->Za0
open Option renaming getD_some->Zw
namespace Go.Proofs
abbrev Tryz.link:Go.Conc.Lib.WgLink:= {add:=56,done:=58,wait:=60,relMerge:=74,disable:=75,enable:=76,inBubble:=77,associate:=78,fatal:=79,uOr:=80,uAdd:=81,raceRead:=82,uLoad:=83,uStore:=84,disassociate:=85,semrelease:=86,acquire:=88,isAssociated:=89,uCas:=90,raceWrite:=91,semacquire:=92,orU64:=99,addU64:=100,loadU64:=101,storeU64:=102,casU64:=103,tWgP:=158,tUP:=160,tAssoc:=161,tWg:=125,tAU:=122,tU64:=44,tUint:=155,tU32:=123,tPU32:=165,tPAU:=186,tPU64:=188,tNoCopy:=118,tANoCopy:=119,tAlign64:=120}
def Tryz.UI:Go.Conc.Lib.WgLib Zc Tryz.link:=
 ⟨Tryz.func56,Tryz.func58,Tryz.func60,Tryz.func74,Tryz.func75,Tryz.func76,Tryz.func77,Tryz.func78,Tryz.func79,Tryz.func80,Tryz.func81,Tryz.func82,Tryz.func83,Tryz.func84,Tryz.func85,Tryz.func86,Tryz.func88,Tryz.func89,Tryz.func90,Tryz.func91,Tryz.func92,Tryz.func99,Tryz.func100,Tryz.func101,Tryz.func102,Tryz.func103,Tryz.underlying158,Tryz.runUnderlying158,Tryz.sizeOf158,Tryz.isAgg158,Tryz.zeroValue158,Tryz.underlying160,Tryz.runUnderlying160,Tryz.sizeOf160,Tryz.isAgg160,Tryz.zeroValue160,Tryz.underlying161,Tryz.runUnderlying161,Tryz.sizeOf161,Tryz.isAgg161,Tryz.zeroValue161,Tryz.underlying125,Tryz.runUnderlying125,Tryz.sizeOf125,Tryz.isAgg125,Tryz.zeroValue125,Tryz.underlying122,Tryz.runUnderlying122,Tryz.sizeOf122,Tryz.isAgg122,Tryz.zeroValue122,Tryz.underlying44,Tryz.runUnderlying44,Tryz.sizeOf44,Tryz.isAgg44,Tryz.zeroValue44,Tryz.underlying155,Tryz.runUnderlying155,Tryz.sizeOf155,Tryz.isAgg155,Tryz.zeroValue155,Tryz.underlying123,Tryz.runUnderlying123,Tryz.sizeOf123,Tryz.isAgg123,Tryz.zeroValue123,Tryz.underlying165,Tryz.runUnderlying165,Tryz.sizeOf165,Tryz.isAgg165,Tryz.zeroValue165,Tryz.underlying186,Tryz.runUnderlying186,Tryz.sizeOf186,Tryz.isAgg186,Tryz.zeroValue186,Tryz.underlying188,Tryz.runUnderlying188,Tryz.sizeOf188,Tryz.isAgg188,Tryz.zeroValue188,Tryz.underlying0,Tryz.runUnderlying0,Tryz.sizeOf0,Tryz.isAgg0,Tryz.zeroValue0,Tryz.underlying3,Tryz.runUnderlying3,Tryz.sizeOf3,Tryz.isAgg3,Tryz.zeroValue3,Tryz.underlying4,Tryz.runUnderlying4,Tryz.sizeOf4,Tryz.isAgg4,Tryz.zeroValue4,Tryz.underlying9,Tryz.runUnderlying9,Tryz.sizeOf9,Tryz.isAgg9,Tryz.zeroValue9,Tryz.underlying20,Tryz.runUnderlying20,Tryz.sizeOf20,Tryz.isAgg20,Tryz.zeroValue20,Tryz.underlying21,Tryz.runUnderlying21,Tryz.sizeOf21,Tryz.isAgg21,Tryz.zeroValue21,(by kernel_rfl),(by kernel_rfl)⟩
end Go.Proofs
namespace Go.Proofs.Fit
open Go Go.Conc Go.FA Go.Pair Go.RowKit Go.Conc.Lib Go.ConcR.Gen Go.ConcN.Gen
open Go.ConcN (WgLive)
open Go.ConcR (DC0)
def lef:Code->Code
 | .seq a _=>a
 |c=>c
def rN:Code->Code
 | .seq _ b=>b
 |c=>c
def bot:ZM:= {(default:ZM) with fn:=Tryz.prog.funcs.size,defers:=[],mode:=.panicking [goexitEntry]}
def Gb:Code:=Tryz.f57.body.getD .skip
def Jd:Code:=lef (rN (rN Gb))
def Ny:Code:=rN (rN (rN Gb))
def TS:ZM:=baseD 57
def ptr (b:Nat):Zf:=.pointer (some ⟨b,0,none⟩)
def IL (Wg l p g s f:Nat):Array Zf:= #[ptr Wg,ptr l,ptr p,ptr g,ptr s,ptr f]
def call156 (Wg l p g s f:Nat):Deferred:= {target:=.fn (.func 57) (IL Wg l p g s f),args:= #[]}
def Et (n:Nat):Array Zf:=Yu n Ze
def jL (Wg l p g s f:Nat)(w:Zb):za Zc false (born Zc (call156 Wg l p g s f)) w=
  .go (G (TS.at ⟨IL Wg l p g s f++Et 34,[]⟩ [.code Gb]) [bot]) w #[]:=by
 simp[born,call156,IL,Et,ptr,za,unwind,callDeferred,invoke,Zz,Zdu,Za7,seen,zM,G,Zq,Frame.at,TS,baseD,bot,Gb]
variable {ty:Zs}
variable {Wg b Ch f p n:Nat}
variable {S Lk:Nat->Prop}
variable {w w₁ wl:Zb}
def Dp (h:True)(_:Ah ty Wg S w w₁):True:=h
def tk (Wg l p g s f:Nat)(v:Zf):(IL Wg l p g s f++Et 34).setIfInBounds 6 v=IL Wg l p g s f++ #[v]++Et 33:=by
 apply Array.ext';simp[IL,Et,List.replicate]
def alh (Wg l p g s f:Nat):((IL Wg l p g s f++Et 34)[0]?.getD Ze)=ptr Wg:=by
 rw[zr (by simp[IL])]
 rfl
def OU (Wg l p g s f:Nat):Zi:=G (TS.at ⟨IL Wg l p g s f++ #[.slice none 0 0]++Et 33,[dcall 58 #[ptr Wg]]⟩ [.code Jd,.code Ny]) [bot]
def aA (Wg l p g s f:Nat)(w:Zb):
  Goes Zc false (Ah 125 Wg S) DC0 (fun h _=>h=OU Wg l p g s f) 12 (born Zc (call156 Wg l p g s f)) w:=by
 have hK:True:=trivial;refine Goes.step rfl fun w₁ _=>?_;rw[jL];refine⟨⟨rfl,rfl⟩,?_⟩;simp only[Gb,Za7,Zw]
 u_c Zn Dp hK
 u_reg Dp hK
 u_defer Dp hK
 u_c Zg Dp hK
 u_c Zn Dp hK
 u_reg Dp hK
 u_op Dp hK
 u_c Zg Dp hK
 u_c Zn Dp hK
 refine ZT fun _ _=>?_;rw[tk,alh];simp only[OU,Jd,Ny,Gb,Za7,Zw,lef,rN]
end Go.Proofs.Fit
namespace Go.Proofs.Fit
open Go Go.Conc Go.FA Go.Pair Go.RowKit
structure Q7 (P':Zo):Prop where
 has:∃fn,P'.funcs[57]?=some fn/\fn.body=some Jd/\fn.results= #[.tmp 6,.tmp 2]/\fn.norace=false/\fn.ntmps=40
def My:Nat->Bool:=fun i=>i==0||i==5
def KX (Wg f:Nat):Cut:=
 {seg:=true,dead:=My,tail:=[.code Ny],fZ:=[dcall 58 #[ptr Wg]],fn:=57,flat:=false,rv:=fun i=>if i=0 then ptr Wg else ptr f,rn:=40,rk:=.deferred}
def BX (P':Zo)(Wg f:Nat):H9:=⟨KX Wg f,[C5 P'],[bot],false⟩
def gG (P':Zo)(Wg f:Nat):(BX P' Wg f).LM:=⟨fun h=>(by cases h),by simp[BX],fun _=>by simp[BX],fun h=>(by cases h)⟩
def E6 (l p g s:Nat):Array Zf:= #[Ze,ptr l,ptr p,ptr g,ptr s,Ze,.slice none 0 0]
variable {ρ:Ren}
variable {Wg b Ch f p n:Nat}
def Q8 {c:Nat}(h:ρ b=some c):VR ρ (ptr b) (ptr c):=.pointer ⟨h,rfl,rfl⟩
section
variable {P':Zo}{ρ:Ren}{Wg f l p g s l' p' g' s':Nat}
def ot (hl:ρ l=some l')(hp:ρ p=some p')(hg:ρ g=some g')(hs:ρ s=some s'):
  Pu My ρ (E6 l p g s++Et 33) (IL Wg l' p' g' s' f++ #[.slice none 0 0]++Et 33):=by
 refine⟨by simp[E6,IL,Et],fun i x y hd hx hy=>?_⟩;by_cases hi:i<7
 .rw[zr (by simp[E6];omega)]at hx
  rw[zr (by simp[IL];omega)]at hy;have h7:i=0\/i=1\/i=2\/i=3\/i=4\/i=5\/i=6:=by omega
  rcases h7 with rfl|rfl|rfl|rfl|rfl|rfl|rfl
  .cases hd
  .cases hx;cases hy;exact Q8 hl
  .cases hx;cases hy;exact Q8 hp
  .cases hx;cases hy;exact Q8 hg
  .cases hx;cases hy;exact Q8 hs
  .cases hd
  cases hx;cases hy;exact .slice 0 0 trivial
 rw[Zan (by simp[E6];omega)]at hx;rw[Zan (by simp[IL];omega)]at hy;simp only[Et,Array.getElem?_replicate]at hx hy;split at hx
 .split at hy
  .cases hx;cases hy;exact VR.undef ρ
  cases hy
 cases hx
def ou (W:Q7 P')(aB:Bh Zc ρ.ok My true Jd=true)(hl:ρ l=some l')(hp:ρ p=some p')(hg:ρ g=some g')(hs:ρ s=some s'):
  sP P' Zc (BX P' Wg f) ρ (AU (Zq P' 57 (E6 l p g s) .normal) [C5 P']) (OU Wg l' p' g' s' f):=by
 obtain⟨fn,h1,h2,h3,h4,h5⟩:=W.has;have he:Zq P' 57 (E6 l p g s) .normal= {fn:=57,tmps:=E6 l p g s++Et 33,todo:=[.code Jd],defers:=[],mode:=.run,kind:=.normal,roundOf:=none}:=by
  unfold Zq;rw[h1];simp[h2,h5,E6,Et]
 refine⟨_,_,_,_,rfl,rfl,?_⟩;rw[he];refine Gh.bot (B:=BX P' Wg f) ⟨rfl,fun h=>(by cases h),⟨D9 h1 h4,D9 Zdu rfl⟩,ot hl hp hg hs,⟨[.code Jd],rfl,.cons (.code aB) .nil⟩,⟨[],rfl,.nil⟩,.run,⟨rfl,.inr ⟨rfl,rfl⟩⟩,trivial,fun _=>⟨rfl,fun h=>(by cases h),rfl,rfl⟩,fun h=>(by cases h),fun _=>⟨?_,fun i hi=>?_,rfl⟩⟩
 .show(IL Wg l' p' g' s' f++ #[Zy none 0 0]++Et 33).size=40
  simp[IL,Et]
 show(IL Wg l' p' g' s' f++ #[Zy none 0 0]++Et 33).getD i Ze=if i=0 then ptr Wg else ptr f
 have DN:i=0\/i=5:=by simpa[KX,BX,My]using hi
 rw[Yp,zr (by simp[IL];omega)];rcases DN with rfl|rfl<;>rfl
end
section
variable {P':Zo}{ρ:Ren}{Wg f l p g s l' p' g' s':Nat}{Lk S:Nat->Prop}{n₀ n₀':Nat}
def V_ (t:Array Zf):Zf:=.tuple #[t.getD 6 Ze,t.getD 2 Ze]
def UJ (Wg f:Nat)(Post:Zf->Zb->Prop)(ρ₀:Ren)(n₀ n₀':Nat):(Nat->Prop)->Zi->Zb->Prop:=fun S h w'=>
 ∃t' σ wl v6 v2,h=G (TS.at ⟨t',[dcall 58 #[ptr Wg]]⟩ [.code Ny]) [bot]/\t'.size=40/\t'.getD 5 Ze=ptr f/\Post (.tuple #[v6,v2]) wl/\VR σ v6 (t'.getD 6 Ze)/\VR σ v2 (t'.getD 2 Ze)/\
  ρ₀.le σ/\(∀b c,σ b=some c->ρ₀ b=some c\/(n₀<=b/\n₀'<=c))/\n₀<=wl.heap.size/\WR σ wl w'/\∀c,S c↔∃b,σ b=some c
def Nz:BP<=Tryz.prog.depth:=by decide+kernel
variable {Post:Zf->Zb->Prop}
def aC (σ:Ren)(h:Zi)(w:Zb)(hl:UB (BX P' Wg f) σ h):¬UD P' (BX P' Wg f) V_ Post (fun _ _=>False) h w:=by
 obtain⟨c,r,x,x',h1,h2,_⟩:=hl;cases h1;rintro(⟨_,h4,_⟩|⟨y,_,h4⟩)
 .rw[h2]at h4
  have:=congrArg List.length h4;simp[AU,BX]at this
 exact h4
variable {w w₁ wl:Zb}
def ox (T:Twins P' Zc)(E:Env P' Zc ρ)(Jv:ρ.sp=fun _=>false)(W:Q7 P')(aB:Bh Zc ρ.ok My true Jd=true)
 (hl:ρ l=some l') (hp:ρ p=some p') (hg:ρ g=some g') (hs:ρ s=some s') {w':Zb} (hw:WR ρ wl w') (hb:C_ Post)
 (hc:∀t,Calls P' 57 (E6 l p g s) (tp wl t) (gr Post fun _ _=>False))
 (hq:∀(v:Zf) (w:Zb),Post v w->∀(b:Nat) (o:Obj),Quiet o->wl.heap[b]?=some o->w.heap[b]?=some o)
 (aa7:n₀'<=w'.heap.size) (R7:∀b c,ρ b=some c->Cw wl b\/∃o,Quiet o/\wl.heap[b]?=some o) (hS:∀c,S c↔∃b,ρ b=some c):
  Xe Zc false (fun c=>∃b,ρ b=some c) (UJ Wg f Post ρ wl.heap.size n₀') S (OU Wg l' p' g' s' f) w':=by
 obtain⟨fn,h1,h2,h3,h4,h5⟩:=W.has;have hG:=ou (Wg:=Wg) (f:=f) W aB hl hp hg hs;have ak:Fx P' Zc (BX P' Wg f) (AU (Zq P' 57 (E6 l p g s) .normal) [C5 P']) wl:=⟨ρ,_,_,E,hG,hw,Jv⟩;have K:Dg P' (BX P' Wg f) true (UD P' (BX P' Wg f) V_ Post fun _ _=>False):=XO rfl hb (fun _ _ _ x=>x);have hM:Cv P' (BX P' Wg f) true (UD P' (BX P' Wg f) V_ Post fun _ _=>False) (AU (Zq P' 57 (E6 l p g s) .normal) [C5 P']) wl:=
  VM (P:=Zc) T Nz (gG P' Wg f) rfl rfl rfl (fn:=fn) h1 (XQ h3) hb (fun _ _ _ x=>x) ak hc
 have dy:∀(g:Zi) (w:Zb),UD P' (BX P' Wg f) V_ Post (fun _ _=>False) g w->∀(b:Nat) (o:Obj),(Quiet o/\wl.heap[b]?=some o)->w.heap[b]?=some o:=by
  rintro g w (⟨_,_,h⟩|⟨x,_,h⟩) b o ⟨h1,h2⟩
  .exact hq _ w h b o h1 h2
  exact h.elim
 have Az:∀(b:Nat) (o:Obj),(Quiet o/\wl.heap[b]?=some o)->b<wl.heap.size:=fun b o h=>(Za.1 h.2).1;have H:Nr P' Zc (BX P' Wg f) (fun b o=>Quiet o/\wl.heap[b]?=some o) ρ wl.heap.size n₀' (fun c=>∃b,ρ b=some c) S ρ (AU (Zq P' 57 (E6 l p g s) .normal) [C5 P']) wl (OU Wg l' p' g' s' f) w':=
  ⟨E,Ren.le_refl _,fun _ _ h=>.inl h,⟨Zj _,aa7⟩,.inl hG,hw,fun c ⟨b,Kf⟩=>⟨b,Kf,(R7 b c Kf).imp id fun⟨o,h1,h2⟩=>⟨o,⟨h1,h2⟩,h2⟩⟩,hS⟩
 have hR:=KL (m':=false) T Nz (gG P' Wg f) K (D:=fun g w=>Fx P' Zc (BX P' Wg f) g w\/Hs (BX P' Wg f) g\/P9 (BX P' Wg f) g) (fun g w t AH w₁ es h hn hs=>Fx.out T Nz (gG P' Wg f) rfl h hn hs)
  (J:=fun b o=>Quiet o/\wl.heap[b]?=some o) (fun b o h=>⟨h.1,Az b o h⟩)
  (fun g w hD hz hM b o h=>Mr T Nz (gG P' Wg f) K (fun b o h=>h.1) dy hM hD b o h (Zl (Az b o h) hz))
  (fun σ h w _ hl=>aC σ h w hl) hM (.inl ak) S ρ _ _ H
 refine hR.imp fun FO h w₁ hx=>?_;rcases hx with⟨σ,gl,GR,B_,HH⟩|⟨σ,gl,GR,t,_,hsr,HH⟩
 .rcases B_ with⟨ha,avc,UK⟩|⟨y,_,hF⟩
  .have ha':(BX P' Wg f).K.seg=true/\gl.callers.length=(BX P' Wg f).lcs.length/\gl.frame.mode=.run/\gl.frame.todo=[]:=ha.elim id fun x=>by cases x.1
   rcases HH.goes with gC|Ga|hsr
   .obtain⟨fr,cs,Bx,cs',rfl,rfl,hk⟩:=gC
    obtain⟨e1,e2,hF⟩:=hk.VL ha'.2.1;obtain⟨k1,k2,k3⟩:=hF.Ar rfl;have AM:Bx.mode=.run:=(RR hF).1 ha'.2.2.1;have gu:Bx.todo=[.code Ny]:=by
     obtain⟨k,q1,q2⟩:=hF.todo;have q3:fr.todo=[]:=ha'.2.2.2;rw[q3]at q2;rw[q1,q2.RM];rfl
    have tq:Bx.defers=[dcall 58 #[ptr Wg]]:=by
     obtain⟨k,q1,q2⟩:=hF.defers;rw[(hF.part rfl).2.2.1]at q2;rw[q1,q2.RM];rfl
    have KB:Bx.roundOf=none:=by
     have:=hF.round;rw[(hF.part rfl).1]at this;cases e:Bx.roundOf with
     |none=>rfl
     |some x=>rw[e]at this;exact this.elim
    have G9:Bx.fn=57:=by rw[hF.fn,(hF.part rfl).2.2.2];rfl
    have heq:Bx=TS.at ⟨Bx.tmps,[dcall 58 #[ptr Wg]]⟩ [.code Ny]:=by
     obtain⟨a1,a2,a3,a4,a5,a6,a7⟩:=Bx;dsimp only at AM gu tq KB G9 k3;subst AM gu tq KB G9 k3
     rfl
    have ali:AU Bx cs'=G (TS.at ⟨Bx.tmps,[dcall 58 #[ptr Wg]]⟩ [.code Ny]) [bot]:=by
     rw[e2, <-heq];rfl
    refine⟨Bx.tmps,σ,GR,_,_,ali,k1,?_,UK,hF.tmps.getD 6 rfl,hF.tmps.getD 2 rfl,HH.le,HH.fresh,HH.size.1,HH.world,HH.holds⟩;have:=k2 5 rfl;exact this
   .cases Ga.1
   obtain⟨nY,_,_,_,_,_,_,_,GU,_⟩:=hsr;rw[HH.le.2.2.2,Jv]at GU;cases GU
  exact hF.elim
 obtain⟨nY,_,_,_,_,_,_,_,GU,_⟩:=hsr;rw[HH.le.2.2.2,Jv]at GU;cases GU
end
end Go.Proofs.Fit
namespace Go.Proofs.Fit
open Go Go.Conc Go.FA Go.Pair Go.RowKit Go.Conc.Lib Go.ConcR.Gen Go.ConcN.Gen
open Go.ConcN (WgLive)
open Go.ConcR (DC0)
def af2:(Tryz.f58.name== "runtime.NumGoroutine")=false:=by kernel_rfl
@[go_sem] def af3 (k:Int)(a:Option Addr)(n c:Nat)(w:Zb):(Zbg 129 #[(0,.int .i64 k),(1,.slice a n c)]).run Zc w=.ok (.agg #[.int .i64 k,.slice a n c]) w:=by
 unfold Zbg;simp[go_sem,ZdH,Zcy]
@[go_sem] def ada (k:Int)(a:Option Addr)(n c:Nat)(w:Zb)(es:Array Z9):(Zbg 129 #[(0,.int .i64 k),(1,.slice a n c)]).events Zc w es=es:=by
 unfold Zbg;simp[go_sem,ZdH,Zcy]
def UL (b:ZM)(a:Act)(ops:Array Oper)(i:Nat)(rest:List Nat)(k:List Item)(cs:List ZM)(v:Zf):
  YU (G (b.at a (.inRegion ops (i::rest)::k)) cs) v=G (b.at (a.put ((ops[i]?).bind (·.dst)) v) (.inRegion ops rest::k)) cs:=by
 unfold YU G;rw[Frame.finish_at]
variable {P P':Zo}
variable {ty:Zs}
variable {Wg b Ch f p n:Nat}
variable {Pay:Gk}
variable {S Lk:Nat->Prop}
variable {w w₁ wl:Zb}
variable {v:Zf}
def jM {b:ZM}{a:Act}{ops:Array Oper}{i:Nat}{rest:List Nat}{k:List Item}{cs:List ZM}{z:Zf}{o:Oper}(ho:ops[i]?=some o)(hw:Yf o (yielded ops a.tmps)=true)(hk:b.kind≠ .early)(hr:(Zby a.eval o).run P w=.ok (.comm #[scase Ch v z] true .send) w)(hl:listed P b.fn a o w= #[])(hp:Pay S v w)
 (hg:∃m,Goes P false (Ah ty Wg S) DC0 (AtR0 P ty Wg S) m (G (b.at (a.put o.dst Ze) (.inRegion ops rest::k)) cs) w):Pair.AtSend P ty Wg Ch Pay S (G (b.at a (.inRegion ops (i::rest)::k)) cs) w:=by
 refine⟨rfl,_,v,z,(stepG_comm ho hw hk hr).trans (by rw[hl]),hp,?_⟩;rw[UL,ho];exact hg
structure FP (Wg f p Ch:Nat)(k:Int)(S:Nat->Prop)(Q:Zb->Prop)(w:Zb):Prop where
 fb:w.cell? ⟨f,0,none⟩=some (.chan (some Ch))
 pb:w.cell? ⟨p,0,none⟩=some (.int .i64 k)
 sf:S f
 sp:S p
 live:WgLive 125 Wg w
 q:Q w
variable {k:Int}
variable {Q:Zb->Prop}
def FP.rely (hQ:∀w w₁,Q w->Ah 125 Wg S w w₁->Q w₁)(h:FP Wg f p Ch k S Q w)(r:Ah 125 Wg S w w₁):FP Wg f p Ch k S Q w₁:=
 ⟨(zn (r.base.same f h.sf)).trans h.fb,(zn (r.base.same p h.sp)).trans h.pb,h.sf,h.sp,r.live h.live,hQ _ _ h.q r⟩
def gH (h:S b){a:Addr}(ha:a.block=b){s:Bool}:∃a',(⟨.cell a,false,s⟩:Z9).loc=.cell a'/\S a'.block/\(⟨.cell a,false,s⟩:Z9).write=false:=⟨a,rfl,ha▸h,rfl⟩
def jN (T:Array Zf):ZcA Zc 2 0 (G {TS.at ⟨T,[]⟩ []with mode:=.returning} [bot]):=by
 refine QuitsD.ctl (g':=G bot []) rfl (fun w=>?_) ?_
 .simp[G,za,unwind,doReturn,results,Frame.at,TS,baseD,bot,Zdu,Za7,seen,zM,goexitEntry]
 refine QuitsD.ctl (g':= {G bot []with status:=.finished}) rfl (fun w=>?_) ⟨rfl,rfl⟩;simp[G,za,unwind,bot,goexitEntry,Frame.catches]
 rfl
def Se {es:Array Z9}(h:∀e∈es,∃a,e.loc=.cell a/\S a.block/\e.write=false):LN S Lk w w es:=
 ⟨Zj _,fun _ _ _=>rfl,rfl,rfl,rfl,fun e hm=>by
  obtain⟨a,h1,h2,h3⟩:=h e hm;rw[Hu];unfold VN;rw[h1];exact⟨h2,fun hw=>by rw[h3]at hw;cases hw⟩⟩
def EA {m:Bool}{R:Zb->Zb->Prop}{D:Zb->Zb->Array Z9->Prop}{St wJ:Zi->Zb->Prop}(hi:∀g w,St g w->wJ g w):∀ {n:Nat} {g:Zi} {w:Zb},Goes P m R D St n g w->Goes P m R D wJ n g w:=by
 intro n
 induction n with
 |zero=>intro g w h w₁ hr;exact hi _ _ (h w₁ hr)
 |succ n ih=>
  intro g w h;rcases h with h|⟨hs,h⟩
  .exact .inl fun w₁ hr=>hi _ _ (h w₁ hr)
  refine .inr ⟨hs,fun w₁ hr=>?_⟩;have:=h w₁ hr;cases hx:za P m g w₁ with
  |go g' w' es=>rw[hx,goes_go]at this;rw[goes_go];exact⟨this.1,ih this.2⟩
  |_=>rw[hx]at this;exact this.elim
section
variable {P:Zo}{m:Bool}{ty:Zs}{Wg:Nat}{Lk S:Nat->Prop}{Stop:Cd}{g:Zi}{w:Zb}
def Be.tu (h:Goes P m (Ah ty Wg S) DC0 (fun g w=>Be P m ty Wg Lk Stop S g w) n g w):Be P m ty Wg Lk Stop S g w:=by
 have h1:Be P m ty Wg Lk (fun S' g w=>S'=S/\Be P m ty Wg Lk Stop S' g w) S g w:=Be.G2 (EA (fun _ _ h=>⟨rfl,h⟩) h);refine h1.bind fun S' g w B_=>?_;exact(B_ w (Ah.refl w)).2
def Be.Q9 (hs:g.status=.running)
 (h:∀w₂,Ah ty Wg S w w₂->(za P m g w₂).goes fun AH w₁ es=>LN S Lk w₂ w₁ es/\Be P m ty Wg Lk Stop (Ib S w₂ w₁) AH w₁):Be P m ty Wg Lk Stop S g w:=by
 refine Be.XS hs fun w₂ hr=>?_;have:=h w₂ hr;cases hx:za P m g w₂ with
 |go AH w₁ es=>
  rw[hx,goes_go]at this;exact⟨_,_,_,rfl,this⟩
 |_=>rw[hx]at this;exact this.elim
end
def jO {va:Option Addr}{vn vc:Nat}{a0 a1 a3 a4 a7 a8 a9 a10 a11 a12 a13 a14 a15 a16 a17 a18 a19 a20 a21 a22 a23 a24 a25 a26 a27 a28 a29 a30 a31 a32 a33 a34 a35 a36 a37 a38 a39:Zf}(hQ:∀w w₁,Q w->Ah 125 Wg S w w₁->Q w₁)(w:Zb)(hF:FP Wg f p Ch k S Q w)
 (alj:∀w₂,Q w₂->Pay S (.agg #[.int .i64 k,.slice va vn vc]) w₂):
  Be Zc false 125 Wg Lk (AtSend Zc 125 Wg Ch Pay) S (G (TS.at ⟨#[a0,a1,ptr p,a3,a4,ptr f,(.slice va vn vc),a7,a8,a9,a10,a11,a12,a13,a14,a15,a16,a17,a18,a19,a20,a21,a22,a23,a24,a25,a26,a27,a28,a29,a30,a31,a32,a33,a34,a35,a36,a37,a38,a39],[dcall 58 #[ptr Wg]]⟩ [.code Ny]) [bot]) w:=by
 simp only[Ny,Gb,Za7,Zw,rN,ptr];refine Be.tu (n:=2) ?_
 u_reg (FP.rely hQ) hF
 refine ZT fun w₁ BO=>?_;replace hF:=FP.rely hQ hF BO;clear BO;refine Be.Q9 rfl fun w₂ Co=>?_;replace hF:=FP.rely hQ hF Co;clear Co;have hx:=hF.fb;refine zx rfl rfl (by decide) (fun K hK=>?_)
 go_simp
 refine hK _ _ ⟨Se fun e he=>?_,?_⟩
 .have hm:=zO he
  simp[go_sem, *]at hm;subst hm;exact gH hF.sf rfl
 clear hK K hx;rw[Hu];refine Be.Q9 rfl fun DZ Fv=>?_;replace hF:=FP.rely hQ hF Fv;clear Fv;have hx:=hF.pb;refine zx rfl rfl (by decide) (fun K hK=>?_)
 go_simp
 refine hK _ _ ⟨Se fun e he=>?_,?_⟩
 .have hm:=zO he
  simp[go_sem, *]at hm;subst hm;exact gH hF.sp rfl
 clear hK K hx;rw[Hu];refine Be.G2 (n:=20) ?_
 u_op (FP.rely hQ) hF
 u_op (FP.rely hQ) hF
 refine ZT fun w₁ BO=>?_;replace hF:=FP.rely hQ hF BO;clear BO;have Ry:∀(a:Act) (o:Oper) (ch v:Zbv),o.op=.send ch v->a.eval ch=.chan (some Ch)->listed Zc TS.fn a o w₁= #[]:=by
  intro a o ch v ho lS;unfold listed Zby;simp[go_sem,ho,seen_none]
 refine jM (v:=.agg #[.int .i64 k,.slice va vn vc]) (z:=.tuple #[]) rfl rfl (by k_ne) (by simp[Zby,scase,ZbM]) (Ry _ _ _ _ rfl rfl) (alj _ hF.q) ⟨46,?_⟩;have hK:=hF.live;clear hF
 walk_nrm
 u_c Zg Ag hK
 u_c stepG_end Ag hK
 g_unwB Ag hK Tryz.func58 af2 Tryz.f58
 have hA:= @aeY Tryz.link Zc Tryz.UI Wg S;simp only[body_done,doneFn,Zw]at hA;exact hA rfl (jN _) _ hK
end Go.Proofs.Fit
namespace Go.Proofs.Fit
open Go Go.Conc Go.FA Go.Pair Go.RowKit
open Go.ConcN (WgLive)
def afy (t:Array Zf)(h:t.size=40):∃a0 a1 a2 a3 a4 a5 a6 a7 a8 a9 a10 a11 a12 a13 a14 a15 a16 a17 a18 a19 a20 a21 a22 a23 a24 a25 a26 a27 a28 a29 a30 a31 a32 a33 a34 a35 a36 a37 a38 a39,t= #[a0,a1,a2,a3,a4,a5,a6,a7,a8,a9,a10,a11,a12,a13,a14,a15,a16,a17,a18,a19,a20,a21,a22,a23,a24,a25,a26,a27,a28,a29,a30,a31,a32,a33,a34,a35,a36,a37,a38,a39]:=by
 obtain⟨l⟩:=t;replace h:l.length=40:=h;obtain _|⟨a0,l⟩:=l
 .cases h
 replace h:=ZE h;obtain _|⟨a1,l⟩:=l
 .cases h
 replace h:=ZE h;obtain _|⟨a2,l⟩:=l
 .cases h
 replace h:=ZE h;obtain _|⟨a3,l⟩:=l
 .cases h
 replace h:=ZE h;obtain _|⟨a4,l⟩:=l
 .cases h
 replace h:=ZE h;obtain _|⟨a5,l⟩:=l
 .cases h
 replace h:=ZE h;obtain _|⟨a6,l⟩:=l
 .cases h
 replace h:=ZE h;obtain _|⟨a7,l⟩:=l
 .cases h
 replace h:=ZE h;obtain _|⟨a8,l⟩:=l
 .cases h
 replace h:=ZE h;obtain _|⟨a9,l⟩:=l
 .cases h
 replace h:=ZE h;obtain _|⟨a10,l⟩:=l
 .cases h
 replace h:=ZE h;obtain _|⟨a11,l⟩:=l
 .cases h
 replace h:=ZE h;obtain _|⟨a12,l⟩:=l
 .cases h
 replace h:=ZE h;obtain _|⟨a13,l⟩:=l
 .cases h
 replace h:=ZE h;obtain _|⟨a14,l⟩:=l
 .cases h
 replace h:=ZE h;obtain _|⟨a15,l⟩:=l
 .cases h
 replace h:=ZE h;obtain _|⟨a16,l⟩:=l
 .cases h
 replace h:=ZE h;obtain _|⟨a17,l⟩:=l
 .cases h
 replace h:=ZE h;obtain _|⟨a18,l⟩:=l
 .cases h
 replace h:=ZE h;obtain _|⟨a19,l⟩:=l
 .cases h
 replace h:=ZE h;obtain _|⟨a20,l⟩:=l
 .cases h
 replace h:=ZE h;obtain _|⟨a21,l⟩:=l
 .cases h
 replace h:=ZE h;obtain _|⟨a22,l⟩:=l
 .cases h
 replace h:=ZE h;obtain _|⟨a23,l⟩:=l
 .cases h
 replace h:=ZE h;obtain _|⟨a24,l⟩:=l
 .cases h
 replace h:=ZE h;obtain _|⟨a25,l⟩:=l
 .cases h
 replace h:=ZE h;obtain _|⟨a26,l⟩:=l
 .cases h
 replace h:=ZE h;obtain _|⟨a27,l⟩:=l
 .cases h
 replace h:=ZE h;obtain _|⟨a28,l⟩:=l
 .cases h
 replace h:=ZE h;obtain _|⟨a29,l⟩:=l
 .cases h
 replace h:=ZE h;obtain _|⟨a30,l⟩:=l
 .cases h
 replace h:=ZE h;obtain _|⟨a31,l⟩:=l
 .cases h
 replace h:=ZE h;obtain _|⟨a32,l⟩:=l
 .cases h
 replace h:=ZE h;obtain _|⟨a33,l⟩:=l
 .cases h
 replace h:=ZE h;obtain _|⟨a34,l⟩:=l
 .cases h
 replace h:=ZE h;obtain _|⟨a35,l⟩:=l
 .cases h
 replace h:=ZE h;obtain _|⟨a36,l⟩:=l
 .cases h
 replace h:=ZE h;obtain _|⟨a37,l⟩:=l
 .cases h
 replace h:=ZE h;obtain _|⟨a38,l⟩:=l
 .cases h
 replace h:=ZE h;obtain _|⟨a39,l⟩:=l
 .cases h
 replace h:=ZE h;obtain _|⟨a,l⟩:=l
 .exact⟨_,_,_,_,_,_,_,_,_,_,_,_,_,_,_,_,_,_,_,_,_,_,_,_,_,_,_,_,_,_,_,_,_,_,_,_,_,_,_,_,rfl⟩
 cases h
def jP (Post:Zf->Zb->Prop)(ρ₀:Ren)(n₀ n₀':Nat)(k:Int):Gk:=fun S v w=>
 ∃σ wl v6 v2 v6',v=.agg #[.int .i64 k,v6']/\ρ₀.le σ/\(∀b c,σ b=some c->ρ₀ b=some c\/(n₀<=b/\n₀'<=c))/\n₀<=wl.heap.size/\WR σ wl w/\VR σ v6 v6'/\Post (.tuple #[v6,v2]) wl/\∀b c,σ b=some c->S c
variable {Post:Zf->Zb->Prop}
variable {k:Int}
variable {S Lk:Nat->Prop}
variable {v:Zf}
variable {w w₁ wl:Zb}
def jP.rely {ρ₀:Ren}{n₀ n₀':Nat}(h:jP Post ρ₀ n₀ n₀' k S v w)(r:D1 S w w₁):jP Post ρ₀ n₀ n₀' k S v w₁:=by
 obtain⟨σ,wl,v6,v2,v6',h1,h2,h3,h4,h5,h6,h7,h8⟩:=h;refine⟨σ,wl,v6,v2,v6',h1,h2,h3,h4,(h5.rely (S:=fun c=>∃b,σ b=some c) (fun c=>Iff.rfl) ⟨fun c ⟨b,hb⟩=>r.same c (h8 b c hb),r.size,r.os⟩),h6,h7,h8⟩
section
variable {P':Zo}{ρ:Ren}{Wg Ch f l p g s l' p' g' s':Nat}{T₀:Nat->Prop}
def worker (T:Twins P' Zc)(E:Env P' Zc ρ)(Jv:ρ.sp=fun _=>false)(W:Q7 P')(aB:Bh Zc ρ.ok My true Jd=true)
 (hl:ρ l=some l') (hp:ρ p=some p') (hg:ρ g=some g') (hs:ρ s=some s') {w₀:Zb} (hw:WR ρ wl w₀) (hb:C_ Post)
 (hc:∀t,Calls P' 57 (E6 l p g s) (tp wl t) (gr Post fun _ _=>False))
 (hq:∀(v:Zf) (w:Zb),Post v w->∀(b:Nat) (o:Obj),Quiet o->wl.heap[b]?=some o->w.heap[b]?=some o)
 (afA:∀v6 v2 w,Post (.tuple #[v6,v2]) w->v2=ptr p/\∃a n c,v6=.slice a n c)
 (R7:∀b c,ρ b=some c->Cw wl b\/∃o,Quiet o/\wl.heap[b]?=some o) (hT:∀b c,ρ b=some c->T₀ c) (Az:∀b,T₀ b->b<w₀.heap.size)
 (hk:w₀.cell? ⟨p',0,none⟩=some (.int .i64 k)) (hf:w₀.cell? ⟨f,0,none⟩=some (.chan (some Ch))) (hfT:T₀ f)
 (hWg:¬T₀ Wg) (aa8:Wg<w₀.heap.size) (KW:WgLive 125 Wg w₀):
  Be Zc false 125 Wg T₀ (Pair.AtSend Zc 125 Wg Ch (jP Post ρ wl.heap.size w₀.heap.size k)) T₀ (born Zc (call156 Wg l' p' g' s' f)) w₀:=by
 have afB:Kept 125 Wg T₀ w₀ T₀ w₀:=⟨fun b hb=>⟨hb,Az b hb⟩,D1.refl _ _,hWg,aa8,KW⟩;have hA:Be Zc false 125 Wg T₀ (fun S h _=>S=T₀/\h=OU Wg l' p' g' s' f) T₀ (born Zc (call156 Wg l' p' g' s' f)) w₀:=
  Be.G2 (n:=12) (EA (fun _ _ h=>⟨rfl,h⟩) (aA Wg l' p' g' s' f w₀))
 refine(hA.Ar afB).bind fun S h w B_=>?_;obtain⟨⟨rfl,rfl⟩,hK⟩:=B_ w (Ah.refl w);clear hA;have hrel:D1 (fun c=>∃b,ρ b=some c) w₀ w:=⟨fun c ⟨b,hb⟩=>hK.rely.same c (hT b c hb),hK.rely.size,hK.rely.os⟩;have Nx:=hw.rely (fun c=>Iff.rfl) hrel;have hR:=ox (Wg:=Wg) (f:=f) (S:=fun c=>∃b,ρ b=some c) (n₀':=w₀.heap.size) T E Jv W aB hl hp hg hs Nx hb (fun t=>hc t) (fun v w hp b o h1 h2=>hq v w hp b o h1 h2) hK.rely.size (fun b c Kf=>R7 b c Kf) (fun c=>Iff.rfl);have NC:=(Be.of_run (ty:=125) (Wg:=Wg) hR).aeZ (Stop₂:=fun S' h w=>∃FO,S'=(fun b=>FO b\/S b)/\UJ Wg f Post ρ wl.heap.size w₀.heap.size FO h w) Az (fun c ⟨b,Kf⟩=>hT b c Kf) hK.rely.size (fun c hc=>.inl hc) (fun c hc=>hc) (fun FO h w _ hx=>⟨FO,rfl,hx⟩);have hSS:(fun b=>(∃b',ρ b'=some b)\/S b)=S:=by
  funext c
  apply propext;exact⟨fun x=>x.elim (fun⟨b,Kf⟩=>hT b c Kf) id,.inr⟩
 rw[hSS]at NC;refine(NC.Ar (w₀:=w₀) hK).bind fun S' h w₁ B_=>?_;obtain⟨⟨FO,tj,t',σ,GR,v6,v2,rfl,ht,ht5,UK,oy,gI,hle,rG,D',Qu,hho⟩,aD⟩:=B_ w₁ (Ah.refl w₁);obtain⟨rfl,va,vn,vc,rfl⟩:=afA _ _ _ UK;obtain⟨a0,a1,a2,a3,a4,a5,a6,a7,a8,a9,a10,a11,a12,a13,a14,a15,a16,a17,a18,a19,a20,a21,a22,a23,a24,a25,a26,a27,a28,a29,a30,a31,a32,a33,a34,a35,a36,a37,a38,a39,rfl⟩:=afy t' ht;have e5:a5=ptr f:=ht5;have e2:a2=ptr p':=by
  have gI:VR σ (ptr p) a2:=gI;cases gI with
  | @pointer _ q h=>
   cases q with
   |none=>exact h.elim
   |some q=>
    obtain⟨h1,h2,h3⟩:=h;obtain⟨qb,qo,qs⟩:=q;have:=hle.1 _ _ hp;dsimp only at h1 h2 h3;rw[this]at h1;cases h1;subst h2 h3
    rfl
 have e6:∃dE,a6=.slice dE vn vc:=by
  have oy:VR σ (.slice va vn vc) a6:=oy;cases oy with
  |slice n c h=>exact⟨_,rfl⟩
 obtain⟨dE,e6⟩:=e6;subst e5 e2 e6;have afC:jP Post ρ wl.heap.size w₀.heap.size k S' (.agg #[.int .i64 k,.slice dE vn vc]) w₁:=
  ⟨σ,GR,_,_,_,rfl,hle,rG,D',Qu,oy,UK,fun b c Kf=>by rw[tj];exact .inl ((hho c).2 ⟨b,Kf⟩)⟩
 refine jO (Q:=fun w=>jP Post ρ wl.heap.size w₀.heap.size k S' (.agg #[.int .i64 k,.slice dE vn vc]) w) (fun _ _ h r=>h.rely r.base) w₁ ⟨?_,?_,(aD.sub f hfT).1,(aD.sub p' (hT p p' hp)).1,aD.live,afC⟩ fun w₂ h=>h
 .exact(zn (aD.rely.same f hfT)).trans hf
 exact(zn (aD.rely.same p' (hT p p' hp))).trans hk
end
end Go.Proofs.Fit
namespace Go.Proofs.Fit
open Go Go.Conc Go.FA Go.Pair Go.RowKit
def Wa (i:Nat):Bool:=decide (i<148)&& !([0,1,2,56,57,58,60,74,75,76,77,78,79,80,81,82,83,84,85,86,88,89,90,91,92,95,96,97,98,99,100,101,102,103,107,108,109,110,111,112,113,114,115,116,117,118,119,120,121,122,123,124,125,126,127,128,129,130,131,132,133,134,135,136,137,138,139,140,141,142,143,144,145,146,147].contains i)
def Xh (i:Nat):Bool:=i==71||i==25
def aE (i:Nat):Bool:=[32,33,54,55].contains i
def aF (i:Nat):Bool:=[27,69,59,32,33,54,55,61,87,66,93].contains i
def ND:Pk:= {val:=aE,Nc:=fun f=>Wa f&& !Xh f,dir:=fun f n=>Wa f&&(if f=71 then n==2 else if f=25 then n==3 else true),low:=Tryz.prog.globals.size}
def okW:Pk:= {val:=aE,Nc:=aF,dir:=fun f _=>aF f,low:=Tryz.prog.globals.size}
def Lw (ok:Pk)(f:Option Func):Bool:=match f with
 |none=>false
 |some fn=> !(fn.name== "runtime.NumGoroutine")&&match fn.body with
  |none=>false
  |some c=>(!fn.norace)&&Bh Zc ok BU false c
def oz (f:Option Func):Bool:=match f with
 |none=>false
 |some fn=>fn.body.isSome&& !(fn.name== "runtime.NumGoroutine")
def tw:(Yr 148).all (fun f=> !(Wa f&& !Xh f)||Lw ND Tryz.prog.funcs[f]?)=true:=by kernel_rfl
def afD:(Yr 148).all (fun f=> !aF f||Lw okW Tryz.prog.funcs[f]?)=true:=by kernel_rfl
def aa9:Bh Zc okW My true Jd=true:=by kernel_rfl
def wK:Tryz.prog.types.all (fun i=>i.zero.all (Pt 8))=true:=by kernel_rfl
def wM:(Tryz.prog.info? 0).all (fun i=>(i.methods.find? (fun m=>m.name== "")).isNone)=true:=by kernel_rfl
structure FR (P':Zo):Prop where
 tables:P'.toTables=Tryz.prog.toTables
 same:∀f,Wa f=true->Xh f=false->P'.funcs[f]?=Tryz.prog.funcs[f]?
 met:∀f,Xh f=true->∃fn,P'.funcs[f]?=some fn/\fn.body.isSome=true/\(fn.name== "runtime.NumGoroutine")=false
 jv:Q7 P'
variable {Wg b Ch f p n:Nat}
def dF (h:Wa f=true):f<148:=by
 unfold Wa at h;rw[ZF]at h;exact of_decide_eq_true h.1
def NF (h:aE f=true):Wa f=true/\Xh f=false/\aF f=true:=by
 have:f=32\/f=33\/f=54\/f=55:=by simpa[aE]using h
 rcases this with rfl|rfl|rfl|rfl<;>decide
def gJ (h:aF f=true):Wa f=true/\Xh f=false:=by
 have:f=27\/f=69\/f=59\/f=32\/f=33\/f=54\/f=55\/f=61\/f=87\/f=66\/f=93:=by simpa[aF]using h
 rcases this with rfl|rfl|rfl|rfl|rfl|rfl|rfl|rfl|rfl|rfl|rfl<;>decide
def oA (hs:Xh f=true):∃fn,Tryz.prog.funcs[f]?=some fn/\fn.body.isSome=true/\(fn.name== "runtime.NumGoroutine")=false:=by
 have hf:f=71\/f=25:=by simpa[Xh]using hs
 have:oz Tryz.prog.funcs[f]?=true:=by
  rcases hf with rfl|rfl<;>kernel_rfl
 unfold oz at this;cases e:Tryz.prog.funcs[f]? with
 |none=>rw[e]at this;cases this
 |some fn=>
  rw[e]at this;simp only[ZF,ZcF]at this;exact⟨fn,rfl,this.1,this.2⟩
def Pz {ok:Pk}(hc:Lw ok Tryz.prog.funcs[f]?=true):∃fn code,Tryz.prog.funcs[f]?=some fn/\fn.body=some code/\Bh Zc ok BU false code=true/\(fn.name== "runtime.NumGoroutine")=false/\fn.norace=false:=by
 unfold Lw at hc;cases e:Tryz.prog.funcs[f]? with
 |none=>rw[e]at hc;cases hc
 |some fn=>
  rw[e]at hc;cases eb:fn.body with
  |none=>simp[eb]at hc
  |some c=>
   simp only[eb,ZF,ZcF]at hc;exact⟨fn,c,rfl,eb,hc.2.2,hc.1,hc.2.1⟩
def aab (h:Wa f=true)(hs:Xh f=false):Lw ND Tryz.prog.funcs[f]?=true:=by
 have:=Zdm.1 tw f (List.mem_range.2 (dF h));rw[h,hs]at this;simpa using this
def aac (h:aF f=true):Lw okW Tryz.prog.funcs[f]?=true:=by
 have:=Zdm.1 afD f (List.mem_range.2 (dF (gJ h).1));rw[h]at this;simpa using this
def tx (h:ND.dir f n=true):Wa f=true:=by
 have h':(Wa f&&(if f=71 then n==2 else if f=25 then n==3 else true))=true:=h;rw[ZF]at h';exact h'.1
def Je:ND.Nc f=true↔Wa f=true/\Xh f=false:=by
 show(Wa f&& !Xh f)=true↔_;rw[ZF,ZcF]
variable {P P':Zo}
def FR.follow (L:FR P'):OB P' Zc ND Xh where
 val f h:=⟨Je.2 ⟨(NF h).1,(NF h).2.1⟩,(NF h).2.1⟩
 dir f n h:=by
  cases e:Xh f with
  |true=>exact .inr rfl
  |false=>exact .inl ⟨Je.2 ⟨tx h,e⟩,rfl⟩
 met f n _ hs:=by
  obtain⟨fn,h1,h2,h3⟩:=L.met f hs;obtain⟨Qt,k1,k2,k3⟩:=oA hs;exact⟨fn,Qt,h1,k1,h2,k2,h3,k3⟩
 has f h hs:=by
  have h':=Je.1 h;obtain⟨fn,code,h1,h2,h3,h4,h5⟩:=Pz (aab h'.1 h'.2);exact⟨fn,code,(L.same f h'.1 h'.2).trans h1,h1,h2,h3,h4,h5⟩
def FR.tz (L:FR P'):OB P' Zc okW (fun _=>false) where
 val f h:=⟨(NF h).2.2,rfl⟩
 dir f n h:=.inl ⟨h,rfl⟩
 met f n _ hs:=by cases hs
 has f h _:=by
  have h':=gJ h;obtain⟨fn,code,h1,h2,h3,h4,h5⟩:=Pz (aac h);exact⟨fn,code,(L.same f h'.1 h'.2).trans h1,h1,h2,h3,h4,h5⟩
def FR.twins (L:FR P'):Twins P' Zc:=ae L.tables wK wM
variable {ρ:Ren}
def FR.alk (L:FR P')(h1:ρ.ok=ND)(h2:ρ.good=Bh Zc ND BU false)(h3:ρ.sp=Xh):Env P' Zc ρ:=
 ⟨by unfold Base;rw[h1];rfl,by rw[h1];exact h2,by rw[h1,h3];exact L.follow⟩
def FR.afE (L:FR P')(h1:ρ.ok=okW)(h2:ρ.good=Bh Zc okW BU false)(h3:ρ.sp=fun _=>false):Env P' Zc ρ:=
 ⟨by unfold Base;rw[h1];rfl,by rw[h1];exact h2,by rw[h1,h3];exact L.tz⟩
def Mz:Func:= {Za7 with nfree:=7,body:=some Jd,results:= #[.tmp 6,.tmp 2]}
def CM (P:Zo)(Qg Kj MA Mz:Func):Zo:=
 {P with funcs:=(((P.funcs.setIfInBounds 71 Qg).setIfInBounds 25 Kj).setIfInBounds 56 MA).setIfInBounds 57 Mz}
section
variable {P:Zo}{Qg Kj MA Mz:Func}
def Wb (h1:f≠71)(h2:f≠25)(h3:f≠56)(h4:f≠57):(CM P Qg Kj MA Mz).funcs[f]?=P.funcs[f]? :=by
 unfold CM;simp only;rw[Zk (Za0 h4),Zk (Za0 h3),Zk (Za0 h2),Zk (Za0 h1)]
def NG (h:71<P.funcs.size):(CM P Qg Kj MA Mz).funcs[71]?=some Qg:=by
 unfold CM;simp only;rw[Zk (by decide),Zk (by decide),Zk (by decide),ZV h]
def L8 (h:25<P.funcs.size):(CM P Qg Kj MA Mz).funcs[25]?=some Kj:=by
 unfold CM;simp only;rw[Zk (by decide),Zk (by decide),ZV (by simpa using h)]
def TU (h:56<P.funcs.size):(CM P Qg Kj MA Mz).funcs[56]?=some MA:=by
 unfold CM;simp only;rw[Zk (by decide),ZV (by simpa using h)]
def L9 (h:57<P.funcs.size):(CM P Qg Kj MA Mz).funcs[57]?=some Mz:=by
 unfold CM;simp only;rw[ZV (by simpa using h)]
def OV:(CM P Qg Kj MA Mz).toTables=P.toTables:=rfl
end
def FT:Tryz.prog.funcs.size=148:=by kernel_rfl
def tA:Wa 56=false:=by decide
def tB:Wa 57=false:=by decide
def aG {Qg Kj MA:Func}(h91:Qg.body.isSome=true/\(Qg.name== "runtime.NumGoroutine")=false)(afF:Kj.body.isSome=true/\(Kj.name== "runtime.NumGoroutine")=false):
  FR (CM Zc Qg Kj MA Mz) where
 tables:=OV
 same f h hs:=by
  have DX:f≠71/\f≠25:=by
   unfold Xh at hs;simpa using hs
  refine Wb DX.1 DX.2 ?_ ?_
  .rintro rfl;rw[tA]at h;cases h
  rintro rfl;rw[tB]at h;cases h
 met f hs:=by
  have hf:f=71\/f=25:=by simpa[Xh]using hs
  rcases hf with rfl|rfl
  .exact⟨Qg,NG (by rw[FT];decide),h91.1,h91.2⟩
  exact⟨Kj,L8 (by rw[FT];decide),afF.1,afF.2⟩
 jv:=⟨Mz,L9 (by rw[FT];decide),rfl,rfl,rfl,rfl⟩
def MA:Func:=
 {name:= "fitting.all",origin:= "",params:= #[62,33,25],resultTypes:= #[33],nfree:=0,ntmps:=13,results:= #[.tmp 3],
  body:=some (
   (zU 0 #[{dst:=some 3,op:=.assign (.const (.slice none 0 0)),type:=33,pos:= "",after:= #[],guard:=none}, {dst:=some 4,op:=.call {callee:=.builtin .len,args:= #[.tmp 1],argTypes:= #[33]},type:=3,pos:= "",after:= #[],guard:=none}, {dst:=some 5,op:=.move (.const (.int .i64 0)),type:=3,pos:= "",after:= #[],guard:=none}] false).seq
   ((Code.block 0 (Code.loop
    ((zU 1 #[{dst:=some 6,op:=.binOp .lss 3 (.tmp 5) (.tmp 4) 3,type:=0,pos:= "",after:= #[],guard:=none}] false).seq
    ((Zcs (.tmp 6) .skip (.exit 0)).seq
    ((Code.block 1
     ((zU 2 #[{dst:=some 7,op:=.indexAddr 33 (.tmp 1) (.tmp 5),type:=0,pos:= "",after:= #[],guard:=none}, {dst:=some 8,op:=.load 22 (.tmp 7),type:=22,pos:= "",after:= #[],guard:=none}] false).seq
     ((zU 3 #[{dst:=some 9,op:=.call {callee:=.value (.func 59),args:= #[.tmp 0,.tmp 8,.tmp 2],argTypes:= #[62,22,25]},type:=4,pos:= "",after:= #[],guard:=none}] false).seq
     (Zcs (.tmp 9)
      (zU 4 #[{dst:=some 10,op:=.buildSlice 33 1 #[(0,.tmp 8)],type:=33,pos:= "",after:= #[],guard:=none}, {dst:=some 11,op:=.call {callee:=.builtin .append,args:= #[.tmp 3,.tmp 10],argTypes:= #[33,33]},type:=33,pos:= "",after:= #[],guard:=none}, {dst:=some 3,op:=.assign (.tmp 11),type:=33,pos:= "",after:= #[],guard:=none}] false)
      .skip)))).seq
    (zU 5 #[{dst:=some 12,op:=.binOp .add 3 (.tmp 5) (.const (.int .i64 1)) 3,type:=3,pos:= "",after:= #[],guard:=none}, {dst:=some 5,op:=.move (.tmp 12),type:=3,pos:= "",after:= #[],guard:=none}] false)))))).seq
   .ret)),
  norace:=false,file:= "",endLine:=0,tmpNames:= #[]}
def Kj:Func:=
 {name:= "fitting.alone",origin:= "",params:= #[62,33,25],resultTypes:= #[33],nfree:=0,ntmps:=14,results:= #[.tmp 6],
  body:=some (
   (zU 0 #[{dst:=some 6,op:=.assign (.const (.slice none 0 0)),type:=33,pos:= "",after:= #[],guard:=none}, {dst:=some 7,op:=.buildSlice 22 1 #[],type:=22,pos:= "",after:= #[],guard:=none}, {dst:=some 8,op:=.call {callee:=.builtin .append,args:= #[(.const (.slice none 0 0)),.tmp 7],argTypes:= #[22,22]},type:=22,pos:= "",after:= #[],guard:=none}, {dst:=some 9,op:=.call {callee:=.builtin .cap,args:= #[.tmp 8],argTypes:= #[22]},type:=3,pos:= "",after:= #[],guard:=none}, {dst:=some 10,op:=.binOp .eql 3 (.tmp 9) (.const (.int .i64 1)) 3,type:=4,pos:= "",after:= #[],guard:=none}] false).seq
   ((Zcs (.tmp 10) (zU 1 #[{dst:=some 11,op:=.makeFunc (.func 57) #[] #[.tmp 0,.tmp 1,.tmp 2,.tmp 7],type:=1,pos:= "",after:= #[],guard:=none}, {dst:=some 12,op:=.makeInterface 1 (.tmp 11),type:=20,pos:= "",after:= #[],guard:=none}, {dst:=none,op:=.panic (.tmp 12),type:=0,pos:= "",after:= #[],guard:=none}] false) .skip).seq
   ((zU 2 #[{dst:=some 11,op:=.call {callee:=.value (.func 56),args:= #[.tmp 0,.tmp 1,.tmp 2],argTypes:= #[62,33,25]},type:=33,pos:= "",after:= #[],guard:=none}] false).seq
   ((zU 3 #[{dst:=some 12,op:=.call {callee:=.builtin .append,args:= #[(.const (.slice none 0 0)),.tmp 11],argTypes:= #[33,33]},type:=33,pos:= "",after:= #[],guard:=none}, {dst:=some 6,op:=.assign (.tmp 12),type:=33,pos:= "",after:= #[],guard:=none}] false).seq
   .ret)))),
  norace:=false,file:= "",endLine:=0,tmpNames:= #[]}
def oB (Qg:Func):Zo:=CM Zc Qg Kj MA Mz
def Wc {Qg:Func}(h:Qg.body.isSome=true/\(Qg.name== "runtime.NumGoroutine")=false):FR (oB Qg):=aG h ⟨rfl,by decide⟩
def Qg:Func:=
 {name:= "errors.As.alone",origin:= "",params:= #[137,20],resultTypes:= #[4],nfree:=0,ntmps:=14,results:= #[.tmp 4],
  body:=some (
   (zU 0 #[{dst:=some 4,op:=.assign (.const (.bool false)),type:=4,pos:= "",after:= #[],guard:=none}, {dst:=some 7,op:=.buildSlice 22 1 #[],type:=22,pos:= "",after:= #[],guard:=none}, {dst:=some 8,op:=.call {callee:=.builtin .append,args:= #[(.const (.slice none 0 0)),.tmp 7],argTypes:= #[22,22]},type:=22,pos:= "",after:= #[],guard:=none}, {dst:=some 9,op:=.call {callee:=.builtin .cap,args:= #[.tmp 8],argTypes:= #[22]},type:=3,pos:= "",after:= #[],guard:=none}, {dst:=some 10,op:=.binOp .eql 3 (.tmp 9) (.const (.int .i64 1)) 3,type:=4,pos:= "",after:= #[],guard:=none}] false).seq
   ((Zcs (.tmp 10) (zU 1 #[{dst:=some 11,op:=.makeFunc (.func 57) #[] #[.tmp 0,.tmp 1,.tmp 7],type:=1,pos:= "",after:= #[],guard:=none}, {dst:=some 12,op:=.makeInterface 1 (.tmp 11),type:=20,pos:= "",after:= #[],guard:=none}, {dst:=none,op:=.panic (.tmp 12),type:=0,pos:= "",after:= #[],guard:=none}] false) .skip).seq
   ((zU 2 #[{dst:=some 6,op:=.binOp .eql 137 (.tmp 0) (.const .nilIface) 137,type:=4,pos:= "",after:= #[],guard:=none}] false).seq
   ((Zcs (.tmp 6) .ret .skip).seq
   ((zU 3 #[{dst:=some 13,op:=.typeAssert (.tmp 0) 137 152 false,type:=152,pos:= "",after:= #[],guard:=none}, {dst:=some 5,op:=.typeAssert (.tmp 1) 20 154 false,type:=154,pos:= "",after:= #[],guard:=none}, {dst:=none,op:=.store 152 (.tmp 5) (.tmp 13),type:=0,pos:= "",after:= #[],guard:=none}, {dst:=some 4,op:=.assign (.const (.bool true)),type:=4,pos:= "",after:= #[],guard:=none}] false).seq
   .ret))))),
  norace:=false,file:= "",endLine:=0,tmpNames:= #[]}
def AP:FR (oB Qg):=Wc ⟨rfl,by decide⟩
end Go.Proofs.Fit
